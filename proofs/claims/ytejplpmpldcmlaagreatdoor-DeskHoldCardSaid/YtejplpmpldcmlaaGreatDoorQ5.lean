/- Part 5 of the proof. -/
import Derived.Test.YtejplpmpldcmlaaGreatDoorQ4
set_option linter.all false
set_option maxRecDepth 100000
set_option maxHeartbeats 100000000
open Bool renaming and_eq_true->aw,and_self->v8,not_eq_false->G8,true_and->Hf,eq_false_iff->aiT,true->J,false->E
open Nat renaming gcd->lq,le_trans->pw,eq_zero_or_pos->A5,zero_le->Hh,mod_lt->Hj,mul_le_mul->J5,gcd_comm->Oa,gcd_rec->ZA,le_of_not_lt->aiX,le_antisymm->avf
open List renaming getD_eq_getElem?_getD->cz,getElem?_eq_getElem->cS,mem_cons->dP,map_cons->dU,cons_append->ez,mem_append->eV,nil_append->eW,pairwise_cons->jq,mem_of_getElem?->jI,length_cons->lH,getElem_mem->ql,length_eq_zero_iff->CW,length_pos_iff->N2,mem_of_find?_eq_some->SF,find?_some->SO,pairwise_singleton->aIi,take_succ_cons->aIx,length->Y
open Option renaming some->U,none->Z
open Int renaming toNat_natCast->v7,natAbs_tmod->J4,tmod_eq_emod_of_nonneg->SE,natAbs_mul->Zv,mul_le_mul_of_nonneg_right->aiI,toNat_of_nonneg->aiR,le_refl->ai5,natCast_mul->avb,mul_le_mul_of_nonpos_right->aH9
open List.Pairwise renaming nil->xE
open List.cons renaming injEq->xH
open Go.IntKind renaming i64->I
namespace Go.Proofs.YtejplpmpldcmlaaGreatDoor.Y
open Go.RowKit
noncomputable section
variable{X V F D B A:Int}{P:RV}{H:au}{W M:Nat→Int}{Q:Nat}{N:Nat→Bool}{z:aC}
section
variable{R:bo->Prop}{G:aS}{t:T}{O:ai}{L:de}
variable[Inhabited db]
def aAn(M:GK)(h:fp)(aH ak:Int)(r:RV)(V:Sl r)(H:0<(dR aH ak).length):∃o,TB.Ev 53 (wk++[.i aH,.i ak,.r r]) o/\∃e,o=.ret [.i e]/\(e=0->fW aH ak=0/\∃v,vL (dR aH ak) r (dR aH ak).length v):=by
 refine dV ?_;have G:=RP M h aH ak;have F:=(xt M h).2;have x:=Yo (aH:=aH) (ak:=ak) F;have A:=Yn (aH:=aH) (ak:=ak) F;simp only[wk,ez,eW] at G;generalize dR aH ak=l at*;generalize fW aH ak=e at*;simp[Ru,wk,bi G,V.len];split
 case isFalse W=>simp[W]
 rename_i W;intro z;rw[JD];refine⟨.inl rfl,λ_=> ?_,λh=> ?_,λ_ h=> ?_⟩;simp;refine⟨aa, ?_⟩
 first|rw[CA]|rw[CB]
 refine⟨_,agV dh (by simpa using A), ?_⟩;simp;have w:(bX (bp.lex [0] E).lt l).length=Y l:=mQ;refine cj (Y l) (λi Q=>∃v,Q=[.r (aG v)]/\vL l r i v) ⟨0,rfl,aa,[],rfl,rfl,aa⟩ ?_;rintro i _ P ⟨v,rfl,N⟩;simp;split;rename_i P;refine⟨P, ?_⟩;refine cj (Y l) (λj Q=>Q=[.r (aG v)]) ⟨0,rfl,aa,rfl⟩ ?_;rintro j _ X rfl;simp[V.len];intro X;have u:=N.1;simp[bU X (show Y l<=140737488355328 from aa)];refine⟨X,λW=>⟨aa, ?_⟩⟩;obtain⟨D,B⟩:=ar4 (dj l i) (ci r j 0) (ci r j 1) (ci r j 2) (cb r j 3);simp only[iN,dj,ci,cb,ez,eW] at D B;rw[bi D];simp[bU X (show Y l<=140737488355328 from aa),bU P (show Y l<=140737488355328 from aa),<-z,V.len];intro y;refine⟨X,aa, ?_⟩;have:=N.add (k:=j) aa (B y);exact⟨_,rfl,this⟩;have:i=Y l:=aa;subst this;exact⟨W,v,N⟩;simp at h;simp[h] at H;simp at h;simp[h] at H
def ar6(N:GK)(h:fp)(aH ak:Int)(r:RV)(M:Sl r)(H:dR aH ak=[]):TB.Ev 53 (wk++[.i aH,.i ak,.r r]) (.ret [.i (if fW aH ak≠0 then fW aH ak else if Y r.ac=0 then 0 else 270)]):=by
 refine fF ?_;have W:=RP N h aH ak;rw[H] at W;simp only[wk,ez,eW] at W;generalize fW aH ak=e at*;simp[Ru,wk,bi W,M.len];split
 case isFalse X=>simp[X]
 rename_i X;split
 case isFalse h=>
  simp;intro e;simp[e] at h
 rename_i h;have Q:r.ac=[]:=CW.1 aa;have P:iZ (bp.lex [0] E) E []=U []:=rfl;simp only[JD,CA,CB];refine⟨.inl rfl,λ_=> ?_,λ_=> ?_,λ_ _=>single (UL _)⟩
 ·try simp
  try simp only[CA,CB]
  refine⟨_,by simpa using P, ?_⟩;refine cj 0 (λi V=>V=[.r (aG [])]) ⟨0,rfl,aa,rfl⟩ ?_;rintro i _ G rfl;have:i=0:=aa;simp[Q,X,this]
 ·try simp
  try simp only[CA,CB]
  refine⟨_,by simpa using P, ?_⟩;refine cj 0 (λi V=>V=[.r (aG [])]) ⟨0,rfl,aa,rfl⟩ ?_;rintro i _ G rfl;have:i=0:=aa;simp[Q,X,this]
def t85(W:GK)(h:fp)(aH ak:Int)(r:RV)(V:Sl r):∃o,TB.Ev 53 (wk++[.i aH,.i ak,.r r]) o/\∃e,o=.ret [.i e]/\(e=0->fW aH ak=0/\∃v,vL (dR aH ak) r (dR aH ak).length v):=by
 by_cases X:dR aH ak=[];refine⟨_,ar6 W h aH ak r V X,_,rfl,λQ=> ?_⟩;split at Q;rename_i P;exact aZ Q P;rename_i P;exact⟨aa,[],by rw[X];exact⟨rfl,av⟩⟩;exact aAn W h aH ak r V (N2.2 X)
end
def ay{c:Prop}[Decidable c]{A B:Prop}(X:c->A)(W:¬c->B):if c then A else B:=by
 by_cases h:c;rw[aJ h];exact X h;rw[aQ h];exact W h
section
variable{R:bo->Prop}{G:aS}{t:T}{O:ai}{L:de}
variable[Inhabited db]
def V8(x:Int):Prop:=-841<=x/\x<=841
def aAp(a b:Int):∃o,TB.Ev 115 [.i a,.i b] o/\∃X,o=.ret X/\V8 (xi X 0)/\V8 (xi X 1):=by
 refine dV ?_;simp[XX,V8,xi]
 repeat'(first|intro _|split)
 all_goals
  try
   have W:lenOf (kV[2]?.getD default).val=8:=rfl;rw[show aF .sub I a 1=a-1 by simp only[aF];exact cJ aa aa,W];have V:a=1\/a=2\/a=3\/a=4\/a=5\/a=6\/a=7\/a=8:=aa;refine⟨aa,aa, ?_⟩;rcases V with rfl|rfl|rfl|rfl|rfl|rfl|rfl|rfl<;>decide
 all_goals simp
def ar7(a b:Int):V8 (oi 115 [.i a,.i b] 0)/\V8 (oi 115 [.i a,.i b] 1):=by
 obtain⟨o,X,V,rfl,W⟩:=aAp a b;simp only[oi,RF X];exact W
def aAq(s:RV)(G:qg s)(X W a2 V Q a5 a6 a7 a8 P N fK fM gE M H:Int)(h:CF s X W a2 V Q a5 a6 a7 a8 P N fK fM gE M H=0):(1<=a2/\a2<=4)/\(1<=a5/\a5<=8)/\(1<=a6/\a6<=8)/\1<=a7/\a7<=8:=by
 have F:∃o,TB.Ev 49 [.r s,.i X,.i W,.i a2,.i V,.i Q,.i a5,.i a6,.i a7,.i a8,.i P,.i N,.i fK,.i fM,.i gE,.i M,.i H] o/\∃e,o=.ret [.i e]/\(e=0->(1<=a2/\a2<=4)/\(1<=a5/\a5<=8)/\(1<=a6/\a6<=8)/\1<=a7/\a7<=8):=by
  refine dV ?_;simp[Rq,agZ s G];intros;omega
 exact(uq F).2 h
def RQ{x m:Int}(W:-m<=x/\x<=m)(Q:-V<=X/\X<=V):-(m*V)<=x*X/\x*X<=m*V:=by
 have P:(x*X).natAbs<=(m*V).natAbs:=by rw[Zv,Zv];exact J5 aa aa
 have N:0<=m*V:=Int.mul_nonneg aa aa;omega
def Lm(d l:Int):Prop:=(d=0/\l=0)\/(0<=d/\d<=8/\1<=l/\l<=3)
structure GM(x y f d0 l0 d1 l1 d2 l2 d3 l3 d4 l4:Int):Prop where
 x:-1073741824<=x/\x<=1073741824
 y:-1073741824<=y/\y<=1073741824
 f:0<=f/\f<=7
 m0:Lm d0 l0
 m1:Lm d1 l1
 m2:Lm d2 l2
 m3:Lm d3 l3
 m4:Lm d4 l4
def ag1(x y f X W V Q P N M H G F:Int):CE x y f X W V Q P N M H G F=0<->GM x y f X W V Q P N M H G F:=by
 have D:∃o,TB.Ev 35 [.i x,.i y,.i f,.i X,.i W,.i V,.i Q,.i P,.i N,.i M,.i H,.i G,.i F] o/\∃e,o=.ret [.i e]/\(e=0<->GM x y f X W V Q P N M H G F):=by
  refine dV ?_;have B:GM x y f X W V Q P N M H G F<->(-1073741824<=x/\x<=1073741824)/\(-1073741824<=y/\y<=1073741824)/\(0<=f/\f<=7)/\Lm X W/\Lm V Q/\Lm P N/\Lm M H/\Lm G F:=⟨λh=>⟨h.x,h.y,h.f,h.m0,h.m1,h.m2,h.m3,h.m4⟩,λh=>⟨h.1,h.2.1,h.2.2.1,h.2.2.2.1,h.2.2.2.2.1,h.2.2.2.2.2.1,h.2.2.2.2.2.2.1,h.2.2.2.2.2.2.2⟩⟩;rw[B];simp[Rp,Lm]
  grind
 exact(uq D).2
end
section
variable{R:bo->Prop}{G:aS}{t:T}{O:ai}{L:de}
def rS(f:Nat->Int):Prop:=CE (f 0) (f 1) (f 2) (f 3) (f 4) (f 5) (f 6) (f 7) (f 8) (f 9) (f 10) (f 11) (f 12)=0
def Tc(k s j:Int):Prop:=(k=1/\j=s-1)\/(k=2/\(j=0\/j=1))\/(k=3/\j=s-1)\/(k=4/\j=s+1)\/(k=5/\j=4)\/(k=7/\(j=2\/j=3))\/(k=8/\(j=0\/j=1))\/(k=9/\j=s+1)
def Yr(k s:Int)(b:Bool)(X W V Q P N M H G F D B A z y x w v u r q p:Int):Prop:=(b=J\/k≠6->B=X)/\(b=J\/¬Tc k s 0->A=W/\z=V)/\(b=J\/¬Tc k s 1->y=Q/\x=P)/\(b=J\/¬Tc k s 2->w=N/\v=M)/\(b=J\/¬Tc k s 3->u=H/\r=G)/\(b=J\/¬Tc k s 4->q=F/\p=D)
def ar8(k s:Int)(b:Bool)(z y x w v u r q p n m:Int)(o:bo):Prop:=∃B A X W V Q P N M H G F D e,o=.ret [.i B,.i A,.i X,.i W,.i V,.i Q,.i P,.i N,.i M,.i H,.i G,.i F,.i D,.i e]/\(e=0->CE B A X W V Q P N M H G F D=0/\Yr k s b z y x w v u r q p n m X W V Q P N M H G F D)
def ar9(k s:Int)(b:Bool)(B A z y x w v u r q p o n X W V Q P N M H G F D e:Int):ar8 k s b B A z y x w v u r q p (.ret [.i o,.i n,.i X,.i W,.i V,.i Q,.i P,.i N,.i M,.i H,.i G,.i F,.i D,.i e])<->(e=0->CE o n X W V Q P N M H G F D=0/\Yr k s b B A z y x w v u r q p X W V Q P N M H G F D):=⟨λ⟨_,_,_,_,_,_,_,_,_,_,_,_,_,_,h,k⟩=>by cases h;exact k,λk=>⟨_,_,_,_,_,_,_,_,_,_,_,_,_,_,rfl,k⟩⟩
def asa(A z W V Q P N M H G F D B:Int)(c:Nat->Int)(p q r:Int)(b:Bool):∃o,TB.Ev 165 ([.i A,.i z,.i W,.i V,.i Q,.i P,.i N,.i M,.i H,.i G,.i F,.i D,.i B]++iN c++[.i p,.i q,.i r,.b b]) o/\ar8 (c 4) (c 5) b W V Q P N M H G F D B o:=by
 refine dV ?_;by_cases X:c 4=1\/c 4=2\/c 4=3\/c 4=4\/c 4=5\/c 4=6\/c 4=7\/c 4=8\/c 4=9
 ·rcases X with h|h|h|h|h|h|h|h|h
  all_goals
   simp(maxSteps:=9999999) [Yc,iN,h,ar9,Yr,Tc]
   try
    (repeat'(first|intro _|split)
     all_goals
      have y:aF .sub I (c 5) 1=c 5-1:=by simp only[aF];exact cJ aa aa
      have x:aF .add I (c 5) 1=c 5+1:=by simp only[aF];exact cJ aa aa
      simp only[y,x] at*
      repeat'(first|intro _|apply And.intro|split)
      all_goals first|assumption|rfl|omega|(exfalso;omega)|(simp_all;done)|(simp_all;omega))
 ·simp only[not_or] at X;obtain⟨w,v,u,s,n,m,l,k,j⟩:=X;simp(maxSteps:=9999999) [Yc,iN,w,v,u,s,n,m,l,k,j,ar9]
  repeat'(first|intro _|split)
  all_goals first|assumption|omega
def Aft:Prop:=∀(W V Q P N M H G F D B A z:Int)(c:Nat->Int)(p q r:Int)(b:Bool),∃o,TB.Ev 165 ([.i W,.i V,.i Q,.i P,.i N,.i M,.i H,.i G,.i F,.i D,.i B,.i A,.i z]++iN c++[.i p,.i q,.i r,.b b]) o/\∃X,o=.ret X/\ko (kI 14) X=J
def aAs:Aft:=by
 intro X W V Q P N M H G F D B A c p q r b;obtain⟨o,h,_,_,_,_,_,_,_,_,_,_,_,_,_,_,rfl,_⟩:=asa X W V Q P N M H G F D B A c p q r b;exact⟨_,h,_,rfl,rfl⟩
def gQ(x:Nat->Int)(v:au)(i:Nat):Nat->Int:=xi (out 165 ([.i (x 0),.i (x 1),.i (x 2),.i (x 3),.i (x 4),.i (x 5),.i (x 6),.i (x 7),.i (x 8),.i (x 9),.i (x 10),.i (x 11),.i (x 12)]++iN (dj v i)++[.i (dj v i 14),.i (dj v i 15),.i (dj v i 16),.b (gH (aU v i 17).val)]))
def cF(x:Nat->Int)(v:au):Nat->Nat->Int
 |0=>x
 |k+1=>gQ (cF x v k) v k
def asb(x:Nat->Int)(v:au)(i:Nat):TB.Ev 165 ([.i (x 0),.i (x 1),.i (x 2),.i (x 3),.i (x 4),.i (x 5),.i (x 6),.i (x 7),.i (x 8),.i (x 9),.i (x 10),.i (x 11),.i (x 12)]++iN (dj v i)++[.i (dj v i 14),.i (dj v i 15),.i (dj v i 16),.b (gH (aU v i 17).val)]) (.ret [.i (gQ x v i 0),.i (gQ x v i 1),.i (gQ x v i 2),.i (gQ x v i 3),.i (gQ x v i 4),.i (gQ x v i 5),.i (gQ x v i 6),.i (gQ x v i 7),.i (gQ x v i 8),.i (gQ x v i 9),.i (gQ x v i 10),.i (gQ x v i 11),.i (gQ x v i 12),.i (gQ x v i 13)]):=by
 have h:=yX _ (aAs (x 0) (x 1) (x 2) (x 3) (x 4) (x 5) (x 6) (x 7) (x 8) (x 9) (x 10) (x 11) (x 12) (dj v i) (dj v i 14) (dj v i 15) (dj v i 16) (gH (aU v i 17).val));simp only[kIs,kI0,AL] at h;exact h
def ag2(x:Nat->Int)(v:au)(i:Nat)(X:gQ x v i 13=0):rS (gQ x v i)/\Yr (dj v i 4) (dj v i 5) (gH (aU v i 17).val) (x 2) (x 3) (x 4) (x 5) (x 6) (x 7) (x 8) (x 9) (x 10) (x 11) (x 12) (gQ x v i 2) (gQ x v i 3) (gQ x v i 4) (gQ x v i 5) (gQ x v i 6) (gQ x v i 7) (gQ x v i 8) (gQ x v i 9) (gQ x v i 10) (gQ x v i 11) (gQ x v i 12):=by
 obtain⟨o,W,V,Q,P,N,M,H,G,F,D,B,A,z,y,e,rfl,w⟩:=asa (x 0) (x 1) (x 2) (x 3) (x 4) (x 5) (x 6) (x 7) (x 8) (x 9) (x 10) (x 11) (x 12) (dj v i) (dj v i 14) (dj v i 15) (dj v i 16) (gH (aU v i 17).val);have u:∀k,gQ x v i k=xi [.i V,.i Q,.i P,.i N,.i M,.i H,.i G,.i F,.i D,.i B,.i A,.i z,.i y,.i e] k:=λk=>by simp only[gQ,RF W]
 simp only[rS,u] at X⊢;exact w X

def t81(W:Int)(Q N M:RV)(P:Sl Q)(H:Sl N)(G:Sl M):∃o,TB.Ev 54 [.i W,.r Q,.r N,.r M] o/\∃e,o=.ret [.i e]/\(e=0->NB Q/\1<=W/\W<=4096):=by
 refine Yk rfl rfl (.inr λv D=>by obtain⟨_,h,_⟩:=D;cases h) ?_;simp[Yd,P.len,H.len,G.len]
 repeat'(first|intro _|split)
 refine⟨pA, ?_⟩;intro B;have A:0<Y Q.ac:=pA;have F:NB Q:=⟨P,A,by simpa[ci] using B⟩;have z:1<=W/\W<=4096:=aa;refine cj (Y Q.ac) (λ_ V=>∃n:Int,V=[.i n]) ⟨0,rfl,aa,_,rfl⟩ ?_;rintro i _ X ⟨n,rfl⟩;simp[P.len];split;rename_i X;simp[bU X P.sm,X];refine cj W.toNat (λ_ V=>V=[]) ⟨0,rfl,aa,rfl⟩ ?_;rintro i _ X rfl;simp;split;rename_i X;have y:i<W.toNat:=aa;rw[az1 _ _ _ _ _ F aa];simp[bU y (show W.toNat<=140737488355328 from aa)];refine cj (Y N.ac) (λ_ V=>∃n:Int,V=[.i n]) ⟨0,rfl,aa,_,rfl⟩ ?_;rintro i _ X ⟨n,rfl⟩;simp[H.len];split;rename_i X;simp[bU X H.sm,X];refine cj (Y M.ac) (λ_ V=>V=[]) ⟨0,rfl,aa,rfl⟩ ?_;rintro i _ X rfl;simp[G.len];split;rename_i X;simp[bU X G.sm,X];exact⟨F,z⟩
def s8:GK:=λX W V Q P N M=>uq (t81 X W V Q P N M)

variable[Inhabited db]
def EJ(aH ak:Int)(r:RV)(v:au):Prop:=TB.Ev 93 [.r (aG (dR aH ak)),.r r] (.ret [.r (aG v),.b J])
def EJ.RT{W:au}(h:EJ X V P H)(Q:EJ X V P W):H=W:=by
 have:=P2 h Q;injection this with this;injection this with this _;injection this with this;exact kh RV.ac this
def R89(aH ak:Int)(r:RV)(x:Nat->Int)(o:bo):Prop:=∃X W V Q P N M H G F D B A e,o=.ret [.i X,.i W,.i V,.i Q,.i P,.i N,.i M,.i H,.i G,.i F,.i D,.i B,.i A,.i e]/\(e=0->∃v,EJ aH ak r v/\rS (cF x v (Y v))/\[X,W,V,Q,P,N,M,H,G,F,D,B,A]=[cF x v (Y v) 0,cF x v (Y v) 1,cF x v (Y v) 2,cF x v (Y v) 3,cF x v (Y v) 4,cF x v (Y v) 5,cF x v (Y v) 6,cF x v (Y v) 7,cF x v (Y v) 8,cF x v (Y v) 9,cF x v (Y v) 10,cF x v (Y v) 11,cF x v (Y v) 12])
def r89(Q N M H G F D B A z y w u e:Int):R89 X V P W (.ret [.i Q,.i N,.i M,.i H,.i G,.i F,.i D,.i B,.i A,.i z,.i y,.i w,.i u,.i e])<->(e=0->∃v,EJ X V P v/\rS (cF W v (Y v))/\[Q,N,M,H,G,F,D,B,A,z,y,w,u]=[cF W v (Y v) 0,cF W v (Y v) 1,cF W v (Y v) 2,cF W v (Y v) 3,cF W v (Y v) 4,cF W v (Y v) 5,cF W v (Y v) 6,cF W v (Y v) 7,cF W v (Y v) 8,cF W v (Y v) 9,cF W v (Y v) 10,cF W v (Y v) 11,cF W v (Y v) 12]):=⟨λ⟨_,_,_,_,_,_,_,_,_,_,_,_,_,_,h,k⟩=>by cases h;exact k,λk=>⟨_,_,_,_,_,_,_,_,_,_,_,_,_,_,rfl,k⟩⟩
def aAu(h:fp)(aH ak:Int)(x:Nat->Int)(r:RV)(G:Sl r):∃o,TB.Ev 79 (wk++[.i aH,.i ak,.i (x 0),.i (x 1),.i (x 2),.i (x 3),.i (x 4),.i (x 5),.i (x 6),.i (x 7),.i (x 8),.i (x 9),.i (x 10),.i (x 11),.i (x 12),.r r]) o/\R89 aH ak r x o:=by
 refine dV ?_;have W:=RP s8 h aH ak;have Q:=(xt s8 h).2;have F:=Yo (aH:=aH) (ak:=ak) Q;have D:=Yn (aH:=aH) (ak:=ak) Q;obtain⟨o,X,v,b,rfl,p,B⟩:=ar5 _ r G F D;have A:b=J->EJ aH ak r v:=λe=>by rw[e] at X;exact X
 simp only[wk,ez,eW] at W;simp[T89,wk,bi W,bi X,r89];generalize dR aH ak=l at*;generalize fW aH ak=e at*;refine ay (λ_=>ay (λz P=> ?_) (λW X=>aZ X W)) (λW X=>aZ X W);have y:Y v<=140737488355328:=by have:=(B P).1;omega
 refine cj (Y v) (λi w=>w=[.i (cF x v i 0),.i (cF x v i 1),.i (cF x v i 2),.i (cF x v i 3),.i (cF x v i 4),.i (cF x v i 5),.i (cF x v i 6),.i (cF x v i 7),.i (cF x v i 8),.i (cF x v i 9),.i (cF x v i 10),.i (cF x v i 11),.i (cF x v i 12),.i (cF x v i 0),.i (cF x v i 1),.i (cF x v i 2),.i (cF x v i 3),.i (cF x v i 4),.i (cF x v i 5),.i (cF x v i 6),.i (cF x v i 7),.i (cF x v i 8),.i (cF x v i 9),.i (cF x v i 10),.i (cF x v i 11),.i (cF x v i 12)]/\rS (cF x v i)) ⟨0,rfl,Hh _,rfl,z⟩ ?_;rintro i _ V ⟨rfl,u⟩;have N:=asb (cF x v i) v i;simp only[iN,dj,ez,eW] at N;simp[r89];refine ay (λV=>⟨V, ?_⟩) (λs=> ?_);rw[bi N];simp[bU V y,r89];refine ay (λM=>ay (λ_=>⟨⟨rfl,rfl,rfl,rfl,rfl,rfl,rfl,rfl,rfl,rfl,rfl,rfl,rfl,rfl,rfl,rfl,rfl,rfl,rfl,rfl,rfl,rfl,rfl,rfl,rfl,rfl⟩,(ag2 (cF x v i) v i M).1⟩) (λq=>aZ M q)) (λa b=>aZ b a);have H:i=Y v:=avf V (aiX s);exact⟨v,A P,by subst H;exact u,by subst H;exact⟨rfl,rfl,rfl,rfl,rfl,rfl,rfl,rfl,rfl,rfl,rfl,rfl,rfl⟩⟩
def t89(h:fp)(aH ak:Int)(x:Nat->Int)(r:RV)(W:Sl r):∃o,TB.Ev 79 (wk++[.i aH,.i ak,.i (x 0),.i (x 1),.i (x 2),.i (x 3),.i (x 4),.i (x 5),.i (x 6),.i (x 7),.i (x 8),.i (x 9),.i (x 10),.i (x 11),.i (x 12),.r r]) o/\∃X,o=.ret X/\ko (kI 14) X=true:=by
 obtain⟨_,V,_,_,_,_,_,_,_,_,_,_,_,_,_,_,rfl,_⟩:=aAu h aH ak x r W;exact⟨_,V,_,rfl,rfl⟩


def ag4{X:T}{e:TypeId}{W Q N:bv}(V:Sl P)(H:Y P.ac<=536870912)(M:X=.gF (.c J) (.cmp .leq (.len (.v 0)) (.c 0)) (.be (.cmp .leq (.len (.v 0)) (.c 536870912)) (.new e (.kJ (.lit []) (.ah (.v 0))) W Q (.ret (.ah (.v 1)) [] N))) (.ret (.ah (.k (.slice Z 0 0))) [] W)):T.wp TB.Ev (· =.ret [.r (aG P.ac)]) X (fU [] [.r P]) []:=by
 subst M;rw[JD];refine⟨.inl rfl,λ_=> ?_,λh=> ?_,λ_ h=> ?_⟩;simp[yi,V.len];omega
 all_goals
  have h:P.ac=[]:=by
   simp[V.len] at h;exact h
 simp[yi,h];exact single (UL _)
def e86(v:RV)(X:Sl v)(h:Y v.ac<=536870912):TB.Ev 76 [.r v] (.ret [.r (aG v.ac)]):=fF (ag4 X h rfl)
def e87(v:RV)(X:Sl v)(h:Y v.ac<=536870912):TB.Ev 77 [.r v] (.ret [.r (aG v.ac)]):=fF (ag4 X h rfl)
def e88(v:RV)(X:Sl v)(h:Y v.ac<=536870912):TB.Ev 78 [.r v] (.ret [.r (aG v.ac)]):=fF (ag4 X h rfl)

def gl0:RV:=kV[0]?.getD default
def qS:RV:=kV[1]?.getD default
def gl2:RV:=kV[2]?.getD default
def aAB:kV=[gl0,qS,gl2]:=rfl
def asd:lenOf qS.val=10:=rfl
def jF(k:Int)(j:Nat):RV:=cG (.sl 3) (aU qS.ac k j)
def aAC(N:1<=X/\X<=9)(Q:if X=1\/X=3\/X=4\/X=9 then 1<=V/\V<=2 else V=0):
  (lenOf (jF X 0).val=(jF X 0).ac.length/\(jF X 0).ac.length<=2/\∀i:Nat,i<(jF X 0).ac.length->0<=bn (aU (jF X 0).ac i 0).val/\bn (aU (jF X 0).ac i 0).val<=2/\1<=V/\V<=2)/\
  (lenOf (jF X 1).val=(jF X 1).ac.length/\(jF X 1).ac.length<=2/\∀i:Nat,i<(jF X 1).ac.length->0<=bn (aU (jF X 1).ac i 0).val/\bn (aU (jF X 1).ac i 0).val<=4):=by
 have:X=1\/X=2\/X=3\/X=4\/X=5\/X=6\/X=7\/X=8\/X=9:=aa;rcases this with rfl|rfl|rfl|rfl|rfl|rfl|rfl|rfl|rfl
 all_goals
  simp at Q;refine⟨⟨rfl,dQ,λi W=> ?_⟩,rfl,dQ,λi W=> ?_⟩
  all_goals
   simp[jF,qS,kV,nH,sV,iV,aU,cG,-xq] at W
   try
    have P:i=0\/i=1:=aa;rcases P with rfl|rfl
    all_goals simp[jF,qS,kV,nH,sV,iV,aU,cG,bn,-xq] at W⊢
    all_goals(try omega)
def aAD{aH ak:Int}{v:au}{r:RV}(Q:lg=0->JG)(h:vL (dR aH ak) r (dR aH ak).length v){i:Nat}(W:i<Y v):∃c,CC (Y aL.ac) fo c/\∀j<14,bn (aU v (i:Int) j).val=c j:=by
 rw[h.1] at W;obtain⟨k,F,P,D⟩:=h.2 i W;obtain⟨x,V⟩:∃x,(dR aH ak)[i]?=U x:=⟨_,cS W⟩;obtain⟨m,B,N,A,z,M⟩:=ar3 Q (jI V);refine⟨ci bu m,M,λj X=> ?_⟩;have H:∀j<14,dj (dR aH ak) i j=ci bu m j:=λj X=>by
  have:=vK (ci bu m) j X;simp only[dj,aU,v7,cz,V,N];simpa[aI] using this
 have G:∀j<14,bn ((agW (dj (dR aH ak) i) r k).getD j default).val=dj (dR aH ak) i j:=λj X=>by
  match j,X with
  |0,_|1,_|2,_|3,_|4,_|5,_|6,_|7,_|8,_|9,_|10,_|11,_|12,_|13,_=>rfl
 rw[<-H j X,<-G j X];simp only[aU,v7,cz,P];rfl

def GN(a b c d:Int):Prop:=bT a b c d=J/\a<b/\c<d
def Fg(a b c d:Int):Prop:=(-10000<=a/\a<0)/\(0<b/\b<=10000)/\(-10000<=c/\c<0)/\0<d/\d<=10000
def S6(p X:Int):Prop:=-10000<=p/\p<=X/\X<=10000
def Fg.jn1{q W:Int}(h:Fg X V F D)(a:S6 B A)(b:S6 q W):Fg (jn (bT X V F D&&bT B A q W) (min X B)) (jn (bT X V F D&&bT B A q W) (max V A)) (jn (bT X V F D&&bT B A q W) (min F q)) (jn (bT X V F D&&bT B A q W) (max D W)):=by
 simp only[Fg,S6] at*;have e:(bT X V F D&&bT B A q W)=true:=by simp[bT];omega
 rw[e];simp only[Y.jn,cN];omega
def Fg.sh(h:Fg X V F D)(e:gD X V F D B A=0):GN (jn (gD X V F D B A==0) (IntKind.i64.wrap (X+B))) (jn (gD X V F D B A==0) (IntKind.i64.wrap (V+B))) (jn (gD X V F D B A==0) (IntKind.i64.wrap (F+A))) (jn (gD X V F D B A==0) (IntKind.i64.wrap (D+A))):=by
 have W:=e;unfold gD at W;split at W;omega;split at W;omega;split at W;rename_i N Q P;simp at Q;simp only[Fg] at h;rw[e];simp only[Y.jn,beq_self_eq_true,cN];refine⟨P, ?_, ?_⟩;rw[cJ aa aa,cJ aa aa];omega;rw[cJ aa aa,cJ aa aa];omega;omega
def GN.join{W Q:Int}(h:GN X V F D)(M:GN B A W Q):GN (jn (bT X V F D&&bT B A W Q) (min X B)) (jn (bT X V F D&&bT B A W Q) (max V A)) (jn (bT X V F D&&bT B A W Q) (min F W)) (jn (bT X V F D&&bT B A W Q) (max D Q)):=by
 obtain⟨P,H,G⟩:=h;obtain⟨N,z,y⟩:=M;rw[P,N];simp only[Y.jn,v8,cN];refine⟨?_,aa,aa⟩;simp[bT] at P N⊢;omega
def ag5{r:Int}(X:1<=r/\r<=8):S6 (aF .sub I 0 (aF .mul I 841 r)) (aF .mul I 841 r):=by
 simp only[aF,S6];rw[cJ (n:=841*r) aa aa,cJ aa aa];omega
def ase(Q:1<=X/\X<=8)(W:V8 V):S6 (aF .mul I X V) (aF .mul I X V):=by
 have:=RQ (x:=X) (m:=8) aa W;simp only[aF,S6];rw[cJ aa aa];omega
def vX(d f l:Int):Int:=oi 115 [.i (oi 114 [.i d,.i f] 0),.i l] 0
def vY(d f l:Int):Int:=oi 115 [.i (oi 114 [.i d,.i f] 0),.i l] 1
def ag6(d f l:Int):V8 (vX d f l):=(ar7 _ _).1
def ag7(d f l:Int):V8 (vY d f l):=(ar7 _ _).2
def AN(X W V Q r d f l:Int):Prop:=(X<=r*vX d f l/\r*vX d f l<=W)/\V<=r*vY d f l/\r*vY d f l<=Q
def rch(X W V:Int)(j:Nat):Int:=if j/2=0 then X else if j/2=1 then W else if j/2=2 then V else 0
def asf(m X:Bool)(d l f W V Q:Int):Prop:=(m=E->W=d/\V=l)/\(X=E->Q=f)
structure xu(f0 f1 f2 f3 g:Int)(rc:Nat->Int)(F:Nat->Bool)(x:Nat->Int)(n:Nat):Prop where
 fg:Fg f0 f1 f2 f3
 g1:f0≤-(841*g)/\841*g<=f1
 g2:f2≤-(841*g)/\841*g<=f3
 lb:∀j<n,∀d' l' f',asf (F (1+j)) (F 0) (x (3+2*j)) (x (4+2*j)) (x 2) d' l' f'->l'≠0->AN f0 f1 f2 f3 (rc j) d' f' l'
def ag9(a b c d g:Int)(X:Nat->Int)(s:Nat->Int):Prop:=(a<=29*s 0-841*g/\29*s 0+841*g<=b)/\(c<=29*s 1-841*g/\29*s 1+841*g<=d)/\∀j<5,s (4+2*j)≠0->(a<=29*s 0+X j*vX (s (3+2*j)) (s 2) (s (4+2*j))/\29*s 0+X j*vX (s (3+2*j)) (s 2) (s (4+2*j))<=b)/\c<=29*s 1+X j*vY (s (3+2*j)) (s 2) (s (4+2*j))/\29*s 1+X j*vY (s (3+2*j)) (s 2) (s (4+2*j))<=d
def asg(aH ak:Int)(r:RV)(x:Nat->Int)(g:Int)(X:Nat->Int)(o:bo):Prop:=∃a b c d e,o=.ret [.i a,.i b,.i c,.i d,.i e]/\(e=0->GN a b c d/\∃v,EJ aH ak r v/\ag9 a b c d g X (cF x v (Y v)))
def Ys(a b c d e:Int):asg X V P W F M (.ret [.i a,.i b,.i c,.i d,.i e])<->(e=0->GN a b c d/\∃v,EJ X V P v/\ag9 a b c d F M (cF W v (Y v))):=⟨λ⟨_,_,_,_,_,h,k⟩=>by cases h;exact k,λk=>⟨_,_,_,_,_,rfl,k⟩⟩
def Mk(v:au)(n:Nat)(F:Nat->Bool):Prop:=∀i<n,gH (aU v i 17).val=E->(dj v i 4=6->F 0=J)/\∀j:Nat,j<5->Tc (dj v i 4) (dj v i 5) j->F (1+j)=J
def aAF(W:1<=X/\X<=9)(h:Tc X V Q):(∃a<(jF X 0).ac.length,(Q:Int)=bn (aU (jF X 0).ac (a:Int) 0).val+V-1)\/∃a<(jF X 1).ac.length,(Q:Int)=bn (aU (jF X 1).ac (a:Int) 0).val:=by
 have:X=1\/X=2\/X=3\/X=4\/X=5\/X=6\/X=7\/X=8\/X=9:=aa;rcases this with rfl|rfl|rfl|rfl|rfl|rfl|rfl|rfl|rfl
 all_goals simp[Tc] at h
 exact .inl ⟨0,dQ,by simp[jF,qS,kV,nH,sV,iV,aU,cG,bn,-xq];omega⟩;rcases h with h|h;exact .inr ⟨0,dQ,by simp[jF,qS,kV,nH,sV,iV,aU,cG,bn,-xq];omega⟩;exact .inr ⟨1,dQ,by simp[jF,qS,kV,nH,sV,iV,aU,cG,bn,-xq];omega⟩;exact .inl ⟨0,dQ,by simp[jF,qS,kV,nH,sV,iV,aU,cG,bn,-xq];omega⟩;exact .inl ⟨0,dQ,by simp[jF,qS,kV,nH,sV,iV,aU,cG,bn,-xq];omega⟩;exact .inr ⟨0,dQ,by simp[jF,qS,kV,nH,sV,iV,aU,cG,bn,-xq];omega⟩;rcases h with h|h;exact .inr ⟨0,dQ,by simp[jF,qS,kV,nH,sV,iV,aU,cG,bn,-xq];omega⟩;exact .inr ⟨1,dQ,by simp[jF,qS,kV,nH,sV,iV,aU,cG,bn,-xq];omega⟩;rcases h with h|h;exact .inr ⟨0,dQ,by simp[jF,qS,kV,nH,sV,iV,aU,cG,bn,-xq];omega⟩;exact .inr ⟨1,dQ,by simp[jF,qS,kV,nH,sV,iV,aU,cG,bn,-xq];omega⟩;exact .inl ⟨0,dQ,by simp[jF,qS,kV,nH,sV,iV,aU,cG,bn,-xq];omega⟩
def AN.mono{W Q r d f l:Int}(h:AN X V F D r d f l)(P:B<=X)(N:V<=A)(M:W<=F)(H:D<=Q):AN B A W Q r d f l:=by
 simp only[AN] at*;omega
def aAG(W:1<=X/\X<=8):AN (aF .sub I 0 (aF .mul I 841 X)) (aF .mul I 841 X) (aF .sub I 0 (aF .mul I 841 X)) (aF .mul I 841 X) X V F D:=by
 have a:=RQ (x:=X) (m:=X) aa (ag6 V F D);have b:=RQ (x:=X) (m:=X) aa (ag7 V F D);simp only[aF,AN];rw[cJ (n:=841*X) aa aa,cJ aa aa];omega
def aAH(W:1<=X/\X<=8):AN (aF .mul I X (vX V F D)) (aF .mul I X (vX V F D)) (aF .mul I X (vY V F D)) (aF .mul I X (vY V F D)) X V F D:=by
 have a:=RQ (x:=X) (m:=8) aa (ag6 V F D);have b:=RQ (x:=X) (m:=8) aa (ag7 V F D);simp only[aF,AN];rw[cJ (n:=X*vX V F D) aa aa,cJ (n:=X*vY V F D) aa aa];omega
def xu.join{P q H:Int}(h:xu X V F D B W N M Q)(a:S6 A P)(b:S6 q H)(u:∀z G y,asf (N (1+Q)) (N 0) (M (3+2*Q)) (M (4+2*Q)) (M 2) z G y->G≠0->AN A P q H (W Q) z y G):
  xu (jn (bT X V F D&&bT A P q H) (min X A)) (jn (bT X V F D&&bT A P q H) (max V P)) (jn (bT X V F D&&bT A P q H) (min F q)) (jn (bT X V F D&&bT A P q H) (max D H)) B W N M (Q+1):=by
 have w:=h.fg.jn1 a b;have o:=h.g1;have m:=h.g2;have s:=h.fg;have e:(bT X V F D&&bT A P q H)=true:=by simp only[Fg,S6] at s a b;simp[bT];omega
 rw[e] at w⊢;simp only[Y.jn,cN] at w⊢;refine⟨w,aa,aa,λj l z G y k v=> ?_⟩;by_cases r:j=Q;subst r;exact(u z G y k v).mono aa aa aa aa;exact(h.lb j aa z G y k v).mono aa aa aa aa
def xu.skip(h:xu X V F D B W N M Q)(H:N (1+Q)=E)(G:M (4+2*Q)=0):xu X V F D B W N M (Q+1):=by
 refine⟨h.fg,h.g1,h.g2,λj v A z y k P=> ?_⟩;by_cases w:j=Q;subst w;exact(P ((k.1 H).2.trans G)).elim;exact h.lb j aa A z y k P
def xu.any{d l:Int}(h:xu X V F D B W N M Q)(P:1<=A/\A<=8)(e:W Q=A)(H:M (3+2*Q)=d)(G:M (4+2*Q)=l){b q:Bool}(y:N (1+Q)=b)(p:N 0=q){s t u v w:Int}(o:aF .sub I 0 (aF .mul I 841 A)=s)(j:aF .mul I 841 A=t)(f:M 2=u)(c:aF .mul I A (oi 115 [.i (oi 114 [.i d,.i u] 0),.i l] 0)=v)(a:aF .mul I A (oi 115 [.i (oi 114 [.i d,.i u] 0),.i l] 1)=w){m:Nat}(hm:Q+1=m):
  (¬b=J->l=0->xu X V F D B W N M m)/\xu (jn (bT X V F D&&bT s t s t) (min X s)) (jn (bT X V F D&&bT s t s t) (max V t)) (jn (bT X V F D&&bT s t s t) (min F s)) (jn (bT X V F D&&bT s t s t) (max D t)) B W N M m/\
  (¬b=J->¬q=J->xu (jn (bT X V F D&&bT v v w w) (min X v)) (jn (bT X V F D&&bT v v w w) (max V v)) (jn (bT X V F D&&bT v v w w) (min F w)) (jn (bT X V F D&&bT v v w w) (max D w)) B W N M m):=by
 subst H G y p o j f c a hm;refine⟨λm z=>h.skip (aiT.2 m) z,h.join (ag5 P) (ag5 P) (λ_ _ _ _ _=>by rw[e];exact aAG P),λm t=>h.join (ase P (ag6 _ _ _)) (ase P (ag7 _ _ _)) λd' l' f' k _=> ?_⟩;rw[e,(k.1 (aiT.2 m)).1,(k.1 (aiT.2 m)).2,k.2 (aiT.2 t)];exact aAH P
def Fg.shv(h:Fg X V F D)(e:gD X V F D B A=0):jn (gD X V F D B A==0) (IntKind.i64.wrap (X+B))=X+B/\jn (gD X V F D B A==0) (IntKind.i64.wrap (V+B))=V+B/\jn (gD X V F D B A==0) (IntKind.i64.wrap (F+A))=F+A/\jn (gD X V F D B A==0) (IntKind.i64.wrap (D+A))=D+A:=by
 have W:=e;unfold gD at W;split at W;omega;split at W;omega;rename_i P Q;simp at Q;simp only[Fg] at h;rw[e];simp only[Y.jn,beq_self_eq_true,cN];refine⟨cJ aa aa,cJ aa aa,cJ aa aa,cJ aa aa⟩
def OnB(X W V Q a b c d:Int)(s:Nat->Int):Prop:=(a<=X+29*s 0/\W+29*s 0<=b)/\c<=V+29*s 1/\Q+29*s 1<=d
def Yt(F:Nat->Bool)(x s:Nat->Int):Prop:=(F 0=E->s 2=x 2)/\∀j<5,F (1+j)=E->s (3+2*j)=x (3+2*j)/\s (4+2*j)=x (4+2*j)
def aAI{c d g:Int}{s:Nat->Int}(h:xu X V F D g W N M 5)(o:OnB X V F D B A c d s)(k:Yt N M s):ag9 B A c d g W s:=by
 have H:=h.g1;have G:=h.g2;obtain⟨z,y⟩:=o;refine⟨aa,aa,λj Q P=> ?_⟩;have:=h.lb j Q _ _ _ ⟨k.2 j Q,k.1⟩ P;simp only[AN] at this;omega
def aAJ(A:Mk H (Y H) N)(w:Q<Y H)(k:Yt N W M)(u:gQ M H Q 13=0):Yt N W (gQ M H Q):=by
 obtain⟨-,e⟩:=ag2 M H Q u;obtain⟨z,V,P,G,D,B⟩:=e;have A:=A Q w;cases y:gH (aU H (Q:Int) 17).val with
 |true=>
  rw[y] at z V P G D B;refine⟨λf=>(z (.inl rfl)).trans (k.1 f),λj X f=> ?_⟩;obtain⟨p,q⟩:=k.2 j X f
  match j,X with
  |0,_=>exact⟨(V (.inl rfl)).1.trans p,(V (.inl rfl)).2.trans q⟩
  |1,_=>exact⟨(P (.inl rfl)).1.trans p,(P (.inl rfl)).2.trans q⟩
  |2,_=>exact⟨(G (.inl rfl)).1.trans p,(G (.inl rfl)).2.trans q⟩
  |3,_=>exact⟨(D (.inl rfl)).1.trans p,(D (.inl rfl)).2.trans q⟩
  |4,_=>exact⟨(B (.inl rfl)).1.trans p,(B (.inl rfl)).2.trans q⟩
 |false=>
  obtain⟨r,o⟩:=A y;have m:∀j(X:j<5),N (1+j)=E->¬Tc (dj H Q 4) (dj H Q 5) j:=λj X f t=>by
   rw[o j X t] at f;cases f
  refine⟨λf=>(z (.inr λq=>by rw[r q] at f;cases f)).trans (k.1 f),λj X f=> ?_⟩;obtain⟨p,q⟩:=k.2 j X f;have n:=m j X f
  match j,X with
  |0,_=>exact⟨(V (.inr n)).1.trans p,(V (.inr n)).2.trans q⟩
  |1,_=>exact⟨(P (.inr n)).1.trans p,(P (.inr n)).2.trans q⟩
  |2,_=>exact⟨(G (.inr n)).1.trans p,(G (.inr n)).2.trans q⟩
  |3,_=>exact⟨(D (.inr n)).1.trans p,(D (.inr n)).2.trans q⟩
  |4,_=>exact⟨(B (.inr n)).1.trans p,(B (.inr n)).2.trans q⟩
def aAK(h:fp)(aH ak:Int)(x:Nat->Int)(nm:RV)(br:qg nm)(y:Nat->Int)(r:RV)(hr:Sl r):∃o,TB.Ev 80 (wk++[.i aH,.i ak,.i (x 0),.i (x 1),.i (x 2),.i (x 3),.i (x 4),.i (x 5),.i (x 6),.i (x 7),.i (x 8),.i (x 9),.i (x 10),.i (x 11),.i (x 12),.r nm,.i (y 1),.i (y 2),.i (y 3),.i (y 4),.i (y 5),.i (y 6),.i (y 7),.i (y 8),.i (y 9),.i (y 10),.i (y 11),.i (y 12),.i (y 13),.i (y 14),.i (y 15),.i (y 16),.r r]) o/\asg aH ak r x (y 3) (rch (y 6) (y 7) (y 8)) o:=by
 refine dV ?_;have h1:=RP s8 h aH ak;have hw:=(xt s8 h).2;have hl:=Yo (aH:=aH) (ak:=ak) hw;have p:=Yn (aH:=aH) (ak:=ak) hw;have ch:= @aAD _ aH ak;obtain⟨o,h2,v,b,rfl,h3,h4⟩:=ar5 _ r hr hl p;have hS:b=J->EJ aH ak r v:=λe=>by rw[e] at h2;exact h2
 simp only[wk,ez,eW] at h1;generalize dR aH ak=l at*;generalize fW aH ak=e at*;simp[T90,wk,aAB,bi h1,bi h2,c75 nm br,Ys];refine ay (λ_=>ay (λbs=>ay (λcl hb=> ?_) (λa b=>aZ b a)) (λa b=>aZ b a)) (λa b=>aZ b a);have bt:=h4 hb;have hv:Y v<=4096:=by have:=bt.1;omega
 have an:Y v<=140737488355328:=aa;refine cj (Y v) (λi Q=>∃F:Nat->Bool,Q=[.b (F 0),.b (F 1),.b (F 2),.b (F 3),.b (F 4),.b (F 5)]/\Mk v i F) ⟨0,rfl,aa,λ_=>E,rfl,λk p=>aa⟩ ?_;rintro i Q P ⟨F,rfl,hM⟩;simp;refine ay (λP=> ?_) (λa0=> ?_)
 ·obtain⟨c,ag,bx⟩:=ch hw bt P;have al:=bx 4 aa;have b0:=bx 5 aa;obtain⟨a1,a3⟩:=aAC ag.kind ag.side;have hT:∀{j:Nat},Tc (c 4) (c 5) j->_:=λq=>aAF ag.kind q
  have cB:=ag.kind;have b1:cG (.sl 3) (aU qS.ac (c 4) 0)=jF (c 4) 0:=rfl;have b2:cG (.sl 3) (aU qS.ac (c 4) 1)=jF (c 4) 1:=rfl;generalize jF (c 4) 0=D at a1 b1 hT;generalize jF (c 4) 1=B at a3 b2 hT;have b3:∀W:Nat->Bool,(∀j<6,F j=J->W j=J)->(gH (aU v (i:Int) 17).val=E->(c 4=6->W 0=J)/\∀j:Nat,j<5->Tc (c 4) (c 5) j->W (1+j)=J)->Mk v (i+1) W:=λW g hn k p hd=>by
   by_cases e:k=i;subst e;simp only[dj,al,b0];exact hn hd;obtain⟨m1,m2⟩:=hM k aa hd;exact⟨λe=>g 0 aa (m1 e),λj X e=>g (1+j) aa (m2 j X e)⟩
  have b4:∀(G:Nat->Bool)(tu:Bool),(F 0=J->tu=J)->(c 4=6->tu=J)->(∀j:Nat,j<5->F (1+j)=J->G j=J)->(∀a<Y D.ac,∀j:Nat,j<5->(j:Int)=bn (aU D.ac (a:Int) 0).val+c 5-1->G j=J)->(∀a<Y B.ac,∀j:Nat,j<5->(j:Int)=bn (aU B.ac (a:Int) 0).val->G j=J)->∃W:Nat->Bool,(tu=W 0/\G 0=W 1/\G 1=W 2/\G 2=W 3/\G 3=W 4/\G 4=W 5)/\Mk v (i+1) W:=by
   intro G tu t1 t2 k1 k2 k3;refine⟨λj=>match j with|0=>tu|j+1=>G j,⟨rfl,rfl,rfl,rfl,rfl,rfl⟩,b3 _ (λj X hf=> ?_) λ_=>⟨t2,λj X ht=> ?_⟩⟩
   match j,X,hf with
   |0,_,hf=>exact t1 hf
   |j+1,X,hf=>exact k1 j aa (by rw[Nat.add_comm];exact hf)
   rw[Nat.add_comm];show G j=J;rcases hT ht with⟨a,V,q⟩|⟨a,V,q⟩;exact k2 a V j X q;exact k3 a V j X q
  simp[bU P an,P,al,asd];refine ay (λhd=>⟨F,⟨rfl,rfl,rfl,rfl,rfl,rfl⟩,b3 F (λ_ _ h=>h) λq=>by rw[hd] at q;cases q⟩) (λhd=>ay (λb5=> ?_) (λb5=> ?_))
  all_goals
   refine⟨aa, ?_⟩;refine cj (Y D.ac) (λa Q=>∃G:Nat->Bool,Q=[.b (G 0),.b (G 1),.b (G 2),.b (G 3),.b (G 4)]/\(∀j:Nat,j<5->F (1+j)=J->G j=J)/\∀H<a,∀j:Nat,j<5->(j:Int)=bn (aU D.ac (H:Int) 0).val+c 5-1->G j=J) ⟨0,rfl,aa,λj=>F (1+j),rfl,λ_ _ h=>h,aa⟩ ?_;rintro a Q V ⟨G,rfl,a4,a9⟩;simp[al,b0,b1,a1.1,asd];refine ay (λV=> ?_) (λba=> ?_);have hx:=a1.2.2 a V;obtain⟨z,hz⟩:∃z,bn (aU D.ac (a:Int) 0).val=z:=⟨_,rfl⟩;rw[hz] at hx⊢;rw[show aF .sub I (aF .add I z (c 5)) 1=z+c 5-1 by simp only[aF];rw[cJ (n:=z+c 5) aa aa,cJ aa aa]];simp[bU V (show Y D.ac<=140737488355328 from aa),V];refine⟨aa,aa,λj=>decide (z+c 5-1=(j:Int))||G j,⟨rfl,rfl,rfl,rfl,rfl⟩,λj X q=>by simp[a4 j X q],λH ba j X q=> ?_⟩;by_cases e:H=a;subst e;rw[hz] at q;simp[q];simp[a9 H aa j X q];refine⟨aa, ?_⟩;have bb:a=Y D.ac:=aa;subst bb;refine cj (Y B.ac) (λa Q=>∃N:Nat->Bool,Q=[.b (N 0),.b (N 1),.b (N 2),.b (N 3),.b (N 4)]/\(∀j:Nat,j<5->G j=J->N j=J)/\∀H<a,∀j:Nat,j<5->(j:Int)=bn (aU B.ac (H:Int) 0).val->N j=J) ⟨0,rfl,aa,G,rfl,λ_ _ h=>h,aa⟩ ?_;rintro a Q V ⟨N,rfl,af,bc⟩;simp[al,b2,a3.1];refine ay (λV=> ?_) (λba=> ?_);have hx:=a3.2.2 a V;obtain⟨z,hz⟩:∃z,bn (aU B.ac (a:Int) 0).val=z:=⟨_,rfl⟩;rw[hz] at hx⊢;simp[bU V (show Y B.ac<=140737488355328 from aa),V];refine⟨aa,aa,λj=>decide (z=(j:Int))||N j,⟨rfl,rfl,rfl,rfl,rfl⟩,λj X q=>by simp[af j X q],λH ba j X q=> ?_⟩;by_cases e:H=a;subst e;rw[hz] at q;simp[q];simp[bc H aa j X q];have bb:a=Y B.ac:=aa;subst bb;simp[bU P an]
   first
    |(obtain⟨W,⟨e0,f⟩,g⟩:=b4 N J (λ_=>rfl) (λ_=>rfl) (λj X q=>af j X (a4 j X q)) (λa V j X q=>af j X (a9 a V j X q)) bc
      exact⟨W,⟨e0.symm,f⟩,g⟩)
    |(obtain⟨W,⟨e0,f⟩,g⟩:=b4 N (c 4==6) (λq=>aZ q b5) (λq=>by simp[q]) (λj X q=>af j X (a4 j X q)) (λa V j X q=>af j X (a9 a V j X q)) bc
      exact⟨W,⟨e0,f⟩,g⟩)
 have bd:i=Y v:=avf P (aiX a0);subst bd;have b6:=(ag1 _ _ _ _ _ _ _ _ _ _ _ _ _).1 bs;obtain⟨g1,g2,g3,g4⟩:=aAq nm br _ _ _ _ _ _ _ _ _ _ _ _ _ _ _ _ cl;refine cj 5 (λk Q=>∃A w u s,Q=[.i A,.i w,.i u,.i s]/\xu A w u s (y 3) (rch (y 6) (y 7) (y 8)) F x k) ⟨0,av,aa, ?_⟩ ?_;have hs:=ag5 (r:=(y 3)) aa;have f:aF .mul I 841 (y 3)=841*(y 3):=by simp only[aF];exact cJ aa aa
 have e2:aF .sub I 0 (841*(y 3))=-(841*(y 3)):=by simp only[aF];rw[cJ aa aa];omega
 refine⟨_,_,_,_,rfl, ?_⟩;simp[f,e2];rw[f,e2] at hs;simp only[S6] at hs;refine⟨?_,aa,aa,aa⟩;simp only[Fg];omega;rintro k Q b7 ⟨A,w,u,s,rfl,M⟩;simp[Ys];refine ay (λp=> ?_) (λb8=> ?_)
 ·have b8:k<5:=aa;have p:k=0\/k=1\/k=2\/k=3\/k=4:=aa;simp only[bU b8 (show 5<=140737488355328 from aa)];rcases p with rfl|rfl|rfl|rfl|rfl;obtain⟨s1,s0,s2⟩:=M.any (b:=F 1) (d:=x 3) (l:=x 4) g2 rfl rfl rfl rfl rfl rfl rfl rfl rfl rfl (m:=1) rfl
  rotate_left
  obtain⟨s1,s0,s2⟩:=M.any (b:=F 2) (d:=x 5) (l:=x 6) g2 rfl rfl rfl rfl rfl rfl rfl rfl rfl rfl (m:=2) rfl
  rotate_left
  obtain⟨s1,s0,s2⟩:=M.any (b:=F 3) (d:=x 7) (l:=x 8) g3 rfl rfl rfl rfl rfl rfl rfl rfl rfl rfl (m:=3) rfl
  rotate_left
  obtain⟨s1,s0,s2⟩:=M.any (b:=F 4) (d:=x 9) (l:=x 10) g3 rfl rfl rfl rfl rfl rfl rfl rfl rfl rfl (m:=4) rfl
  rotate_left
  obtain⟨s1,s0,s2⟩:=M.any (b:=F 5) (d:=x 11) (l:=x 12) g4 rfl rfl rfl rfl rfl rfl rfl rfl rfl rfl (m:=5) rfl
  rotate_left
  all_goals
   simp[show aF .quo I 0 2=0 from rfl,show aF .quo I 1 2=0 from rfl,show aF .quo I 2 2=1 from rfl,show aF .quo I 3 2=1 from rfl,show aF .quo I 4 2=2 from rfl];clear M hM
   repeat'(refine ay (λ_=> ?_) (λ_=> ?_))
   all_goals with_reducible first|exact⟨_,_,_,_,⟨rfl,rfl,rfl,rfl⟩,s0⟩|exact⟨_,_,_,_,⟨rfl,rfl,rfl,rfl⟩,s1 pA pA⟩|exact⟨_,_,_,_,⟨rfl,rfl,rfl,rfl⟩,s2 pA pA⟩|contradiction
 have b7:k=5:=aa;subst b7;refine ay (λhe=> ?_) (λa b=>aZ b a);have px:=b6.x;have py:=b6.y;have ex:aF .mul I 29 (x 0)=29*x 0:=by simp only[aF];exact cJ aa aa
 have ey:aF .mul I 29 (x 1)=29*x 1:=by simp only[aF];exact cJ aa aa
 rw[ex,ey] at he⊢;obtain⟨v0,v1,v2,v3⟩:=M.fg.shv he;have hP:=M.fg.sh he;rw[v0,v1,v2,v3] at hP⊢;have hp:=hP.1;rw[hp];refine cj (Y v) (λi Q=>∃a b c d,Q=[.i a,.i b,.i c,.i d,.i (cF x v i 0),.i (cF x v i 1),.i (cF x v i 2),.i (cF x v i 3),.i (cF x v i 4),.i (cF x v i 5),.i (cF x v i 6),.i (cF x v i 7),.i (cF x v i 8),.i (cF x v i 9),.i (cF x v i 10),.i (cF x v i 11),.i (cF x v i 12),.b E]/\GN a b c d/\OnB A w u s a b c d (cF x v i)/\Yt F x (cF x v i)/\rS (cF x v i)) ⟨0,rfl,Hh _,A+29*x 0,w+29*x 0,u+29*x 1,s+29*x 1,rfl,hP,⟨⟨ai5 _,ai5 _⟩,ai5 _,ai5 _⟩,⟨λ_=>rfl,λ_ _ _=>⟨rfl,rfl⟩⟩,bs⟩ ?_;rintro i Q P ⟨a,b',c,d,rfl,bf,hO,ca,hR⟩;have cn:=bf.1;have g1:=asb (cF x v i) v i;simp only[iN,dj,ez,eW] at g1;simp[Ys];refine ay (λP=>⟨P, ?_⟩) (λa0=> ?_);rw[bi g1];simp[bU P an,Ys];refine ay (λbg=>ay (λbk=>ay (λ_=> ?_) (λn=>aZ bg n)) (λa b=>aZ b a)) (λa b=>aZ b a);have co:=aAJ hM P ca bg;have cc:=(ag2 (cF x v i) v i bg).1;have p':=(ag1 _ _ _ _ _ _ _ _ _ _ _ _ _).1 cc;have cC:=p'.x;have cD:=p'.y;have cp:aF .mul I 29 (gQ (cF x v i) v i 0)=29*gQ (cF x v i) v i 0:=by simp only[aF];exact cJ aa aa
 have cs:aF .mul I 29 (gQ (cF x v i) v i 1)=29*gQ (cF x v i) v i 1:=by simp only[aF];exact cJ aa aa
 rw[cp,cs] at bk⊢;obtain⟨ct,cv,cx,cy⟩:=M.fg.shv bk;have bl:=M.fg.sh bk;rw[ct,cv,cx,cy] at bl⊢;have cA:=bl.1;have cf:(bT a b' c d&&bT (A+29*gQ (cF x v i) v i 0) (w+29*gQ (cF x v i) v i 0) (u+29*gQ (cF x v i) v i 1) (s+29*gQ (cF x v i) v i 1))=true:=by rw[cn,cA];rfl
 rw[cf];refine⟨min a (A+29*gQ (cF x v i) v i 0),max b' (w+29*gQ (cF x v i) v i 0),min c (u+29*gQ (cF x v i) v i 1),max d (s+29*gQ (cF x v i) v i 1),⟨rfl,rfl,rfl,rfl,rfl,rfl,rfl,rfl,rfl,rfl,rfl,rfl,rfl,rfl,rfl,rfl,rfl⟩, ?_, ?_,co,cc⟩;have:=bf.join bl;rw[cf] at this;exact this;show(_/\_)/\_/\_;simp only[cF];omega;have bd:i=Y v:=avf P (aiX a0);subst bd;exact⟨bf,v,hS hb,aAI M hO ca⟩
def t90(h:fp)(aH ak:Int)(x:Nat->Int)(X:RV)(V:qg X)(y:Nat->Int)(r:RV)(Q:Sl r):∃o,TB.Ev 80 (wk++[.i aH,.i ak,.i (x 0),.i (x 1),.i (x 2),.i (x 3),.i (x 4),.i (x 5),.i (x 6),.i (x 7),.i (x 8),.i (x 9),.i (x 10),.i (x 11),.i (x 12),.r X,.i (y 1),.i (y 2),.i (y 3),.i (y 4),.i (y 5),.i (y 6),.i (y 7),.i (y 8),.i (y 9),.i (y 10),.i (y 11),.i (y 12),.i (y 13),.i (y 14),.i (y 15),.i (y 16),.r r]) o/\∃W,o=.ret W/\ko (kI 5) W=true:=by
 obtain⟨_,P,_,_,_,_,_,rfl,_⟩:=aAK h aH ak x X V y r Q;exact⟨_,P,_,rfl,rfl⟩
end
def EK(v:au):Prop:=∀x∈v,gH (x.getD 3 default).val=E
def EK.nil:EK []:=λx X=>by simp at X
def EK.kJ(h:EK H)(W:gH (z.getD 3 default).val=E):EK (H++[z]):=λy X=>by
 rcases eV.1 X with X|X;exact h y X;simp at X;subst X;exact W
def EK.at(h:EK H)(X:Q<Y H):gH (H[Q].getD 3 default).val=false:=h _ (ql X)
def EK.cell(h:EK H)(X:Q<Y H):gH (aU H (Q:Int) 3).val=false:=by
 have:=h.at X;simpa[aU,X] using this
section
variable{R:bo->Prop}{G:aS}{t:T}{O:ai}{L:de}
variable[Inhabited db]

def vB(v:RV)(i:Nat):Bool:=bT (ci v i 0) (ci v i 1) (ci v i 2) (ci v i 3)
def RU(u:RV)(i:Nat)(w:RV)(k:Nat):Bool:=vB u i&&vB w k&&JB (ci u i 0) (ci u i 1) (ci u i 2) (ci u i 3) (ci w k 0) (ci w k 1) (ci w k 2) (ci w k 3)
def flB(ur ut:Int)(u:RV)(i:Nat):Bool:=vB u i&&bT 0 (aF .mul I 841 ur) 0 (aF .mul I 841 ut)&&arU (ci u i 0) (ci u i 1) (ci u i 2) (ci u i 3) 0 (aF .mul I 841 ur) 0 (aF .mul I 841 ut)
def RW(X:RV):Nat->au
 |0=>[]
 |i+1=>fZ 2 [.mk (.int I (ci X i 0)) [],.mk (.int I (ci X i 1)) [],.mk (.bool J) []] (RW X i)
def Yu(X:au)(a b:Nat):Bool:=BE.ab ⟨[(a:Int),(b:Int)],[],[aG X],[]⟩ (.look (.v 0) 2 (.v 0) (.v 1) (.c 0) 2)
def asl(u:RV)(i:Nat)(X:RV)(ak:Int)(g:Nat):Bool:=vB u i&&bT (qR (ci X g) ak 0) (qR (ci X g) ak 1) (qR (ci X g) ak 2) (qR (ci X g) ak 3)&&JB (ci u i 0) (ci u i 1) (ci u i 2) (ci u i 3) (qR (ci X g) ak 0) (qR (ci X g) ak 1) (qR (ci X g) ak 2) (qR (ci X g) ak 3)
structure ClE(wg:RV)(ak:Int)(mv hd pr:RV):Prop where
 wk:lg=0
 nw:Y wg.ac<=8
 inb:jc ak 0 (fo-1)=J
 lm:Y mv.ac=Y aL.ac
 lh:Y hd.ac=Y aL.ac
 vm:∀i<Y mv.ac,vB mv i=J
 vh:∀i<Y hd.ac,vB hd i=J
 prs:∀i<Y pr.ac,0<=ci pr i 0/\ci pr i 0<ci pr i 1/\ci pr i 1<Y aL.ac
 pth:∀g<Y wg.ac,qR (ci wg g) ak 4=0
structure ClN(ur ut:Int)(aL:RV)(wg:RV)(ak:Int)(mv hd pr:RV):Prop where
 n1:∀a<Y aL.ac,∀b,a<b->b<Y aL.ac->Yu (RW pr (Y pr.ac)) a b=J\/RU mv a mv b=J
 n2:∀a<Y aL.ac,∀b,a<b->b<Y aL.ac->Yu (RW pr (Y pr.ac)) a b=J\/RU mv a hd b=J
 n3:∀a<Y aL.ac,∀b,a<b->b<Y aL.ac->Yu (RW pr (Y pr.ac)) a b=J\/RU hd a mv b=J
 n4:∀a<Y aL.ac,∀b,a<b->b<Y aL.ac->Yu (RW pr (Y pr.ac)) a b=J\/RU hd a hd b=J
 wgs:∀a<Y aL.ac,∀g<Y wg.ac,asl mv a wg ak g=J/\asl hd a wg ak g=J
 aJc:∀a<Y aL.ac,flB ur ut mv a=J/\flB ur ut hd a=J
structure aAR(wg:RV)(ak:Int)(mv hd pr:RV):Prop extends ClE wg ak mv hd pr,ClN ur ut aL wg ak mv hd pr
def asn{P:Nat->Prop}(h:∀k<Q,P k)(X:P Q):∀k<Q+1,P k:=λk V=>by
 by_cases W:k=Q;subst W;exact X;exact h k aa
end
section
variable{lt:aC->aC->Bool}
def CG(lt:aC->aC->Bool)(l:au):Prop:=l.Pairwise λx y=>lt x y=J
def CG.eq(R:∀x,lt x x=E)(Q:∀x y z,lt x y=J->lt y z=J->lt x z=J):∀{l X:au},CG lt l->CG lt X->l.Perm X->l=X
 |[],X,_,_,h=>(List.Perm.nil_eq h)
 |x::l,[],_,_,h=>(by have:=h.length_eq;simp at this)
 |x::l,y::X,N,M,h=>by
  have P:=jq.1 N;have O:=jq.1 M;have L:x=y:=by
   have W:x∈y::X:=h.mem_iff.1 av;have V:y∈x::l:=h.mem_iff.2 av;rcases dP.1 W with W|W;exact W;rcases dP.1 V with V|V;exact V.symm;have:=Q _ _ _ (P.1 y V) (O.1 x W);rw[R] at this;cases this
  subst L;rw[CG.eq R Q P.2 O.2 (List.perm_cons x|>.1 h)]
def aso(V:∀x y z,lt x y=J->lt y z=J->lt x z=J){x:aC}:∀{l:au},CG lt l->(∀y∈l,lt x y=J\/lt y x=J)->CG lt (eC lt x l)
 |[],_,_=>aIi _ _
 |y::r,h,R=>by
  have g:=jq.1 h;simp only[eC];split;rename_i W;refine jq.2 ⟨λz X=> ?_,h⟩;rcases dP.1 X with rfl|X;exact W;exact V _ _ _ W (g.1 z X);rename_i W;have Q:lt y x=true:=(R y av).resolve_left W;refine jq.2 ⟨λz X=> ?_,aso V g.2 λz X=>R z (by simp[X])⟩;rcases T3.1 X with rfl|X;exact Q;exact g.1 z X
def asp(W:∀x y z,lt x y=J->lt y z=J->lt x z=J):∀(l acc:au),CG lt acc->(∀x∈l,∀y∈acc,lt x y=J\/lt y x=J)->l.Pairwise (λx y=>lt x y=J\/lt y x=J)->CG lt (l.foldl (λacc x=>eC lt x acc) acc)
 |[],acc,h,_,_=>h
 |x::l,acc,h,V,Q=>by
  have g:=jq.1 Q;refine asp W l _ (aso W h λy X=>V x av y X) (λz R y X=> ?_) g.2;rcases T3.1 X with rfl|X;exact(g.1 z R).symm;exact V z (by simp[R]) y X
def asq(X:∀x y z,lt x y=J->lt y z=J->lt x z=J)(h:H.Pairwise (λx y=>lt x y=J\/lt y x=J)):CG lt (bX lt H):=asp X H [] xE av h
def aAS(R:∀x,lt x x=E)(W:∀x y z,lt x y=J->lt y z=J->lt x z=J){X:au}(V:X.Perm H)(h:H.Pairwise (λx y=>lt x y=J\/lt y x=J)):bX lt X=bX lt H:=by
 have Q:X.Pairwise (λx y=>lt x y=J\/lt y x=J):=(V.symm.pairwise_iff (λ{x y} h=>h.symm)).1 h;exact CG.eq R W (asq W Q) (asq W h) (((CD X).trans V).trans (CD H).symm)
end
def asr(d:Bool):∀(X:ar)(x:aC),jK d X x x=E
 |[],_=>rfl
 |c::X,x=>by simp[jK,asr d X x]
def ast(d:Bool):∀(Q:ar)(x y z:aC),jK d Q x y=J->jK d Q y z=J->jK d Q x z=J
 |[],_,_,_,h,_=>by simp[jK] at h
 |c::Q,x,y,z,V,X=>by
  simp only[jK] at V X⊢;by_cases R:aI c x=aI c y;by_cases W:aI c y=aI c z;rw[aJ R] at V;rw[aJ W] at X;rw[aJ (R.trans W)];exact ast d Q x y z V X;rw[aQ W] at X;rw[aQ (by rw[R];exact W),R];exact X;rw[aQ R] at V;by_cases W:aI c y=aI c z;rw[aQ (by rw[<-W];exact R),<-W];exact V;rw[aQ W] at X;cases d;simp at V X;rw[aQ aa];simp;omega;simp at V X;rw[aQ aa];simp;omega
def asu(X:ar)(W:au):Prop:=W.Pairwise λx y=>∃c∈X,aI c x≠aI c y
section
variable{R:bo->Prop}{G:aS}{t:T}{O:ai}{L:de}
variable[Inhabited db]
variable{wg bd cs br co:RV}
def dZ(wg bd cs br co:RV):bq:=wk++[.r wg,.r bd,.r cs,.r br,.r co]
structure Mny(wg bd cs br:RV):Prop where
 wg:Y wg.ac<=8
 rl:Y aL.ac<=12
 bd:Y bd.ac<=16
 cs:Y cs.ac<=8
 bars:fo<=64
 br:∀i<Y br.ac,(cr 69 br i).ac.length<=8
def aAT(h:fp)(Q:Sl wg)(P:Sl bd)(N:Sl cs)(W:Sl br)(M:∀i<Y br.ac,Sl (cr 69 br i)):∃o,TB.Ev 59 (dZ wg bd cs br co) o/\∃b,o=.ret [.b b]/\(b=E->Mny wg bd cs br):=by
 refine dV ?_;simp[agv,dZ,wk,Q.len,h.rl.len,P.len,N.len]
 repeat'(first|intro _|split)
 all_goals try(exact⟨_,rfl,av⟩)
 refine cj (Y br.ac) (λj H=>H=[]/\∀i<j,(cr 69 br i).ac.length<=8) ⟨0,rfl,aa,rfl,λi G=>aa⟩ ?_;rintro i _ G ⟨rfl,V⟩;simp[W.len];refine ay (λX=>⟨X,λF=> ?_⟩) (λA=> ?_);have e:=(M i X).len;simp only[cr] at e;rw[e] at F;simp[bU X W.sm];intro q D;by_cases B:q=i;subst B;simp only[cr];omega;exact V q aa;exact⟨aa,aa,aa,aa,aa,λq D=>V q aa⟩
structure Cst(bd cs:RV):Prop where
 aAU:0<Y cs.ac
 len:∀i<Y cs.ac,(cr 3 cs i).ac.length=Y aL.ac
 idx:∀i<Y cs.ac,∀j<(cr 3 cs i).ac.length,0<=ci (cr 3 cs i) j 0/\ci (cr 3 cs i) j 0<Y bd.ac
 apart:∀i<Y cs.ac,∀j<(cr 3 cs i).ac.length,∀k<j,ci (cr 3 cs i) k 0≠ci (cr 3 cs i) j 0
def aAV(h:fp)(z:Sl bd)(B:Sl cs)(y:∀i<Y cs.ac,Sl (cr 3 cs i)):∃o,TB.Ev 62 (dZ wg bd cs br co) o/\∃b,o=.ret [.b b]/\(b=J->Cst bd cs):=by
 refine dV ?_;simp[agx,dZ,wk];refine cj (Y cs.ac) (λn V=>V=[]/\∀i<n,(cr 3 cs i).ac.length=Y aL.ac/\(∀j<(cr 3 cs i).ac.length,(0<=ci (cr 3 cs i) j 0/\ci (cr 3 cs i) j 0<Y bd.ac)/\∀k<j,ci (cr 3 cs i) k 0≠ci (cr 3 cs i) j 0)) ⟨0,rfl,aa,rfl,λi G=>aa⟩ ?_;rintro i _ G ⟨rfl,P⟩;simp[B.len,h.rl.len];refine ay (λF=>⟨F,λx=> ?_⟩) (λr=> ?_);have D:=y i F;have e:=D.len;have p:=e;simp only[cr] at e;rw[e] at x;have w:(cr 3 cs i).ac.length=Y aL.ac:=by simp only[cr];omega
 refine cj (cr 3 cs i).ac.length (λn V=>V=[]/\∀j<n,(0<=ci (cr 3 cs i) j 0/\ci (cr 3 cs i) j 0<Y bd.ac)/\∀k<j,ci (cr 3 cs i) k 0≠ci (cr 3 cs i) j 0) ⟨0,rfl,aa,rfl,λi G=>aa⟩ ?_;rintro j _ X ⟨rfl,W⟩;simp[e,z.len];refine ay (λN=>⟨N,λM=>⟨N,λH=> ?_⟩⟩) (λm=> ?_);refine cj j (λn V=>V=[]/\∀k<n,ci (cr 3 cs i) k 0≠ci (cr 3 cs i) j 0) ⟨0,rfl,aa,rfl,λi G=>aa⟩ ?_;rintro k _ v ⟨rfl,A⟩;simp[e];refine ay (λu=>⟨aa,N,λs=> ?_⟩) (λl=> ?_);rw[bU u (by have:=D.sm;simp only[cr] at this;omega)];refine⟨rfl,λq W=> ?_⟩;by_cases Q:q=k;subst Q;exact s;exact A q aa;rw[bU (n:=(cr 3 cs i).ac.length) (show j<(cr 3 cs i).ac.length from N) D.sm];refine⟨rfl,λq g=> ?_⟩;by_cases Q:q=j;subst Q;exact⟨⟨M,H⟩,λk v=>A k aa⟩;exact W q aa;rw[bU F B.sm];refine⟨rfl,λq f=> ?_⟩;by_cases Q:q=i;subst Q;exact⟨w,λj X=>W j (by simp only[cr] at X;omega)⟩;exact P q aa;by_cases M:cs.ac=[];exact .inl M;have H:0<Y cs.ac:=N2.2 M;exact .inr ⟨H,H,λq W=>(P q aa).1,λq W j X=>((P q aa).2 j X).1,λq W j X=>((P q aa).2 j X).2⟩
def asx{b:RV}(V:Sl P)(X:Sl b)(Q:Y P.ac=Y b.ac)(N:∀i<Y P.ac,ci P i 0=ci b i 0):TB.Ev 31 [.r P,.r b] (.ret [.b J]):=by
 refine fF ?_;simp[agu,V.len,X.len,Q];refine cj (Y P.ac) (λ_ M=>M=[]) ⟨0,rfl,aa,rfl⟩ ?_;rintro i _ W rfl;simp[V.len,X.len,Q];intro W;have e:=N i aa;simp only[ci] at e;simp[e,bU W X.sm,W]
end
def NE:T->T
 |.aT _ _ f=>f
 |t=>t
section
variable{R:bo->Prop}{G:aS}{t:T}{O:ai}{L:de}
variable[Inhabited db]
variable{a c d g k:RV}
def aAW(h:fp):∃o,TB.Ev 26 wk o/\∃b,o=.ret [.b b]:=by
 refine dV ?_;simp[agr,wk]
 repeat'(first|intro _|split)
 all_goals omega
def aAX{X V:RV}{cZ:Int}{cl:Bool}(N:Sl P)(Q:Sl X)(M:Sl V)(H:∀i<Y X.ac,Sl (cr 76 X i)):∃o,TB.Ev 7 [.r P,.i cZ,.r X,.r V,.b cl] o/\∃b,o=.ret [.b b]:=by
 refine dV ?_;simp[agp];refine cj (Y X.ac) (λ_ G=>G=[]) ⟨0,rfl,aa,rfl⟩ ?_;rintro i _ F rfl;simp[Q.len,N.len,M.len];refine ay (λW=> ?_) (λD=> ?_);have e:=(H i W).len;simp only[cr] at e;simp[W,bU W Q.sm]
 ·repeat'(first|intro _|split)
  all_goals first|omega|simp
def aAY(W:Sl P)(M:∀i<Y P.ac,Sl (cG (.sl 4) (aU P.ac i 0))/\Sl (cG (.sl 67) (aU P.ac i 1))/\∀j<(cG (.sl 67) (aU P.ac i 1)).ac.length,Sl (cr 134 (cG (.sl 67) (aU P.ac i 1)) j)):
  T.wp TB.Ev (λo=>o=bo.ret [XV.b E]\/o=bo.ret [XV.b J]) (NE (NE Rx)) ⟨[],[],[P],[]⟩ []:=by
 simp only[Rx,NE];refine cj (Y P.ac) (λ_ V=>V=[]) ⟨0,rfl,aa,rfl⟩ ?_;rintro i _ G rfl;simp[W.len];intro X;obtain⟨F,N,H⟩:=M i X;refine⟨X,λ_=>⟨X,λ_=> ?_⟩⟩;refine cj (cG (.sl 67) (aU P.ac i 1)).ac.length (λ_ V=>V=[]) ⟨0,rfl,aa,rfl⟩ ?_;rintro j _ D rfl;simp[W.len,N.len,X];refine ay (λQ=> ?_) (λB=> ?_);have e:=(H j Q).len;simp only[cr] at e;simp[Q,bU Q N.sm];simp[bU X W.sm]
def aAZ(X:Sl P)(W:∀i<Y P.ac,Sl (cG (.sl 4) (aU P.ac i 0))/\Sl (cG (.sl 67) (aU P.ac i 1))/\∀j<(cG (.sl 67) (aU P.ac i 1)).ac.length,Sl (cr 134 (cG (.sl 67) (aU P.ac i 1)) j)):∃o,TB.Ev 25 [.r P] o/\∃x,o=.ret [.b x]:=by
 refine dV ?_;simp[Rx]
 repeat'(first|exact aAY X W|intro _|split)
end
def Yv:Nat->T->T
 |0,t=>t
 |n+1,t=>Yv n (NE t)
section
variable{R:bo->Prop}{G:aS}{t:T}{O:ai}{L:de}
variable[Inhabited db]
variable{a c d g f:RV}
structure rV(a c d g f:RV):Prop where
 sw:Sl a
 sb:Sl c
 sc:Sl d
 sr:Sl g
 so:Sl f
 Yw:∀i<Y d.ac,Sl (cr 3 d i)
 CH:∀i<Y g.ac,Sl (cr 69 g i)
 AO:∀k<Y g.ac,∀i<(cr 69 g k).ac.length,Sl (cG (.sl 4) (aU (cr 69 g k).ac i 0))/\Sl (cG (.sl 67) (aU (cr 69 g k).ac i 1))/\∀j<(cG (.sl 67) (aU (cr 69 g k).ac i 1)).ac.length,Sl (cr 134 (cG (.sl 67) (aU (cr 69 g k).ac i 1)) j)
def aA0(h:fp)(s:rV a c d g f):T.wp TB.Ev (λo=>∃x,o=.ret [.b x]) (Yv 12 GD) ⟨[ur,ut,RJ,RN,Ym,fo],[],[aL,qf,rT,rU,bu,a,c,d,g,f],[]⟩ []:=by
 simp only[GD,Yv,NE];refine cj (Y d.ac) (λ_ V=>V=[]) ⟨0,rfl,aa,rfl⟩ ?_;rintro i _ P rfl;simp[s.sc.len];refine ay (λQ=> ?_) (λ_=> ?_);have e:=(s.Yw i Q).len;simp only[cr] at e;simp[Q,bU Q s.sc.sm];refine cj (Y g.ac) (λ_ V=>V=[]) ⟨0,rfl,aa,rfl⟩ ?_;rintro k _ N rfl;simp[s.sr.len];refine ay (λW=> ?_) (λ_=> ?_);obtain⟨o,X,x,rfl⟩:=aAZ (s.CH k W) (s.AO k W);simp only[cr] at X;cases x<;>simp[W,bi X,bU W s.sr.sm];obtain⟨o,X,x,rfl⟩:=aAW h;simp only[wk] at X;cases x<;>simp[bi X]
def aA1(h:fp)(s:rV a c d g f):∃o,TB.Ev 6 (dZ a c d g f) o/\∃x,o=.ret [.b x]:=by
 refine dV ?_;show T.wp TB.Ev (λo=>∃x,o=.ret [.b x]) GD ⟨[ur,ut,RJ,RN,Ym,fo],[],[aL,qf,rT,rU,bu,a,c,d,g,f],[]⟩ [];have l:=aA0 h s;simp only[GD,Yv,NE] at l;unfold GD
 repeat'(first|exact l|(rw[RD];exact⟨_,rfl⟩)|(rw[Ny];refine ay (λ_=> ?_) (λ_=> ?_)))
end
section
variable{R:bo->Prop}{G:aS}{t:T}{O:ai}{L:de}
def aA2(h:iR (Q+1) [X,V,F] H=U z):z∈H/\aI 0 z=X:=by
 unfold iR at h;refine⟨SF h, ?_⟩;have:=SO h;unfold kM at this;have this:=uE this;rw[aIx] at this;cases z with
 |nil=>simp at this
 |cons r W=>
  simp only[aIx,dU,xH] at this;simpa[aI] using this.1
def asy{n:Nat}{X y:aC}:∀{m:au},y∈fZ n X m->y=X\/y∈m
 |[],h=>by simp[fZ] at h;exact .inl h
 |r::W,h=>by
  simp only[fZ] at h;split at h;rcases dP.1 h with h|h;exact .inl h;exact .inr (by simp[h]);rcases dP.1 h with h|h;exact .inr (by simp[h]);rcases asy h with h|h;exact .inl h;exact .inr (by simp[h])
def asz{n:Nat}{row:aC}:∀{m:au},(fZ n row m).length<=Y m+1
 |[]=>by simp[fZ]
 |r::X=>by
  have:=asz (n:=n) (row:=row) (m:=X);simp only[fZ];split;simp;simp only[lH];omega
def aA3(N:Sl P)(n:Int)(G:∀j<Y P.ac,0<=ci P j 0/\ci P j 0<n)(F:∀j<Y P.ac,∀k<j,ci P k 0≠ci P j 0):TB.Ev 50 [.r P,.i n] (.ret [.b J]):=by
 refine fF ?_;simp[agE];refine cj (Y P.ac) (λi D=>∃m,D=[.r (aG m)]/\Y m<=i/\∀X∈m,∃k<i,aI 0 X=ci P k 0) ⟨0,rfl,aa,[],rfl,av,av⟩ ?_;rintro i _ y ⟨m,rfl,x,M⟩;simp[N.len];intro W;have e:=G i W;simp only[ci] at e;refine⟨W,e.1,e.2, ?_, ?_⟩;split;rename_i X B;exfalso;obtain⟨A,z⟩:=aA2 B;obtain⟨k,H,V⟩:=M X A;exact F i W k H (by rw[<-V,z];rfl);rfl;rw[bU W N.sm];refine⟨_,rfl,pw asz aa,λX Q=> ?_⟩;rcases asy Q with rfl|Q;exact⟨i,aa,rfl⟩;obtain⟨k,H,V⟩:=M X Q;exact⟨k,aa,V⟩

def aA4(a:RV)(v e:Int):Prop:=(e=-1/\∀j<Y a.ac,ci a j 0≠v)\/∃j:Nat,j<Y a.ac/\e=j/\ci a j 0=v
def aA5(W:Sl P)(v:Int):∃o,TB.Ev 106 [.r P,.i v] o/\∃e,o=.ret [.i e]/\aA4 P v e:=by
 refine dV ?_;simp[agB];refine cj (Y P.ac) (λi N=>N=[]/\∀j<i,ci P j 0≠v) ⟨0,rfl,aa,rfl,λj V=>aa⟩ ?_;rintro i _ F ⟨rfl,Q⟩;simp[W.len];refine ay (λX=>⟨X,ay (λM=>.inr ⟨i,X,rfl,M⟩) (λH=> ?_)⟩) (λD=> ?_);rw[bU X W.sm];refine⟨rfl,λj V=> ?_⟩;by_cases G:j=i;subst G;exact H;exact Q j aa;exact .inl ⟨rfl,λj V=>Q j aa⟩
variable[Inhabited db]
variable{wg bd cs br co:RV}
structure Cns(co:RV):Prop where
 fnd:∀i<Y co.ac,∃j<Y bu.ac,ci bu j 0=ci co i 0/\ci bu j 3≠1
 ord:∀i<Y co.ac,0<i->ci co (i-1) 0<ci co i 0
def aA7(h:fp)(X:Sl co):∃o,TB.Ev 64 (dZ wg bd cs br co) o/\∃b,o=.ret [.b b]/\(b=J->Cns co):=by
 refine dV ?_;simp[agz,dZ,wk];refine cj (Y co.ac) (λn F=>F=[]/\∀i<n,(∃j<Y bu.ac,ci bu j 0=ci co i 0/\ci bu j 3≠1)/\(0<i->ci co (i-1) 0<ci co i 0)) ⟨0,rfl,aa,rfl,λi D=>aa⟩ ?_;rintro i _ D ⟨rfl,W⟩;simp[X.len];refine ay (λV=>⟨V, ?_⟩) (λv=> ?_);obtain⟨o,B,e,rfl,Q⟩:=aA5 h.sg (bn (aU co.ac i 0).val);simp[bi B,h.sg.len];intro A;obtain⟨j,M,rfl,H⟩:∃j:Nat,j<Y bu.ac/\e=j/\ci bu j 0=ci co i 0:=by
  rcases Q with⟨rfl,_⟩|Q;omega;exact Q
 refine⟨⟨A,aa⟩,λG=> ?_⟩;have u:=X.sm;have z:0<i->aF .sub I (i:Int) 1=((i-1:Nat):Int):=λW=>by
  rw[show aF .sub I (i:Int) 1=(i:Int)-1 by simp only[aF];exact cJ aa aa];omega
 refine ay (λy=> ?_) (λx=> ?_);rw[X.len,z y];refine⟨aa,⟨aa,aa⟩,λw=> ?_⟩;rw[bU V X.sm];refine⟨rfl,λq P=> ?_⟩;by_cases N:q=i;subst N;exact⟨⟨j,M,H,G⟩,λ_=>w⟩;exact W q aa;rw[bU V X.sm];refine⟨rfl,λq P=> ?_⟩;by_cases N:q=i;subst N;exact⟨⟨j,M,H,G⟩,λh=>aZ h x⟩;exact W q aa;exact⟨λq P=>(W q aa).1,λq P=>(W q aa).2⟩
end
def Er(P:Prop)(c e:Int):Prop:=(P->e=0)/\(¬P->e=c)
def Er.eq{P:Prop}(h:Er P X V)(Q:Er P X F):V=F:=by
 by_cases W:P;rw[h.1 W,Q.1 W];rw[h.2 W,Q.2 W]
def Er.no{P:Prop}(h:¬P):Er P X X:=⟨λp=>aZ p h,λ_=>rfl⟩
def Er.ok{P:Prop}(h:P):Er P X 0:=⟨λ_=>rfl,λp=>aZ h p⟩
def aha(d n:Int):lq (d.tmod n).natAbs n.natAbs=lq n.natAbs d.natAbs:=by
 rw[J4,<-ZA]
def ahb{a:Int}(h:-32768<=a/\a<=32768):0<=a*a/\a*a<=1073741824:=by
 have X:=Int.natAbs_mul_self (a:=a);have W:a.natAbs*a.natAbs<=32768*32768:=J5 aa aa;omega
structure RX(a b c:Int):Prop where
 fc:1<=c/\c<=32768
 fa:-c<=a/\a<=c
 fb:-c<=b/\b<=c
 q:a*a+b*b=c*c
 g:lq (lq a.natAbs b.natAbs) c.natAbs=1
def aA8(Q:1<=X)(h:X.tdiv V=X):V=1:=by
 rw[Int.tdiv_eq_ediv_of_nonneg aa] at h;by_cases W:V=1;exact W;have P:X/V<X:=Int.ediv_lt_self_of_pos_of_ne_one aa W;omega
def l8(X:RV)(k:Nat)(ak:Int):Int:=ci X k 1+(ak-ci X k 0)*ci X k 2
def yY(X:RV)(k:Nat)(ak:Int):Prop:=k<Y X.ac/\ci X k 0<=ak/\(k+1<Y X.ac->ak<ci X (k+1) 0)
structure TpK(bars:Int)(tp:RV)(k:Nat):Prop where
 inc:0<k->ci tp (k-1) 0<ci tp k 0
 lt:ci tp k 0<bars
 ti:-65536<=ci tp k 1/\ci tp k 1<=65536
 st:-65536<=ci tp k 2/\ci tp k 2<=65536
structure PsK(bars:Int)(ps:RV)(k:Nat):Prop where
 ge:0<=ci ps k 0
 lt:ci ps k 0<=bars-2
 inc:0<k->ci ps (k-1) 0<ci ps k 0
 kd:1<=ci ps k 1/\ci ps k 1<=2
 lo:0<=ci ps k 2
 hi:ci ps k 2<=ci ps k 3
 mx:ci ps k 3<=1048576
structure SpK(bars:Int)(sp:RV)(k:Nat):Prop where
 fr:0<=ci sp k 0/\ci sp k 0<=bars
 to:0<=ci sp k 1/\ci sp k 1<=bars
 ne:ci sp k 0≠ci sp k 1
 lo:-1099511627776<=ci sp k 2
 hi:ci sp k 2<=ci sp k 3
 mx:ci sp k 3<=1099511627776
structure uu(bars:Int)(tp:RV):Prop where
 br:1<=bars/\bars<=4096
 pos:0<Y tp.ac
 zero:ci tp 0 0=0
 all:∀k<Y tp.ac,TpK bars tp k
def uu.mono{W:Int}{X:RV}(h:uu W X):∀{k j:Nat},j<k->k<Y X.ac->ci X j 0<ci X k 0
 |k+1,j,P,V=>by
  have:=(h.all (k+1) V).inc aa;simp at this;by_cases Q:j=k;subst Q;exact this;have:=h.mono (k:=k) (j:=j) aa aa;omega
def uu.ge(h:uu X P){k:Nat}(W:k<Y P.ac):0<=ci P k 0:=by
 rcases A5 k with rfl|V;rw[h.zero];omega;have:=h.mono V W;rw[h.zero] at this;omega
def uu.ahf(h:uu X P){k:Nat}(W:yY P Q V)(N:yY P k V):Q=k:=by
 rcases Nat.lt_trichotomy Q k with M|M|M;have G:=W.2.2 (by have:=N.1;omega);have F:=N.2.1;by_cases H:k=Q+1;subst H;omega;have:=h.mono (j:=Q+1) (k:=k) aa N.1;omega;exact M;have G:=N.2.2 (by have:=W.1;omega);have F:=W.2.1;by_cases H:Q=k+1;subst H;omega;have:=h.mono (j:=k+1) (k:=Q) aa W.1;omega
def Yx{a b x y:Int}(X:-x<=a/\a<=x)(W:-y<=b/\b<=y):-(x*y)<=a*b/\a*b<=x*y:=by
 have V:(a*b).natAbs<=x.toNat*y.toNat:=by rw[Zv];exact J5 aa aa
 have Q:x*y=((x.toNat*y.toNat:Nat):Int):=by rw[avb,aiR aa,aiR aa]
 omega
def aA9(H:X<=F)(G:F<=V)(A:D<=l8 P Q X/\l8 P Q X<=B)(y:D<=l8 P Q V/\l8 P Q V<=B):D<=l8 P Q F/\l8 P Q F<=B:=by
 simp only[l8] at*;generalize ci P Q 0=z at*;generalize ci P Q 2=s at*;rcases Int.le_total 0 s with W|W;have N:=aiI (show X-z<=F-z from aa) W;have M:=aiI (show F-z<=V-z from aa) W;omega;have N:=aH9 (show X-z<=F-z from aa) W;have M:=aH9 (show F-z<=V-z from aa) W;omega
def Yy(W:Int)(X:RV):Prop:=∀(k:Nat)(ak:Int),0<=ak->ak<W->yY X k ak->1<=l8 X k ak/\l8 X k ak<=65536
def uv(W:Int)(X:RV)(k:Nat):Int:=if k+1<Y X.ac then ci X (k+1) 0-1 else W-1
def uu.last(h:uu X P)(W:Q<Y P.ac):yY P Q (ci P Q 0)/\yY P Q (uv X P Q)/\0<=ci P Q 0/\ci P Q 0<=uv X P Q/\uv X P Q<X:=by
 have N:=h.ge W;have M:=(h.all Q W).lt;simp only[uv,yY];split;rename_i V;have H:=h.mono (j:=Q) (k:=Q+1) aa V;have G:=(h.all (Q+1) V).lt;exact⟨⟨W,aa,λ_=>aa⟩,⟨W,aa,λ_=>aa⟩,aa,aa,aa⟩;rename_i V;exact⟨⟨W,aa,λe=>aZ e V⟩,⟨W,aa,λe=>aZ e V⟩,aa,aa,aa⟩
def uu.tk(h:uu X P):Yy X P<->∀k<Y P.ac,(1<=l8 P k (ci P k 0)/\l8 P k (ci P k 0)<=65536)/\1<=l8 P k (uv X P k)/\l8 P k (uv X P k)<=65536:=by
 constructor;intro g k H;obtain⟨V,Q,N,G,M⟩:=h.last H;exact⟨g k _ N aa V,g k _ aa M Q⟩;intro g k ak A z W;obtain⟨V,Q,N,G,M⟩:=h.last W.1;obtain⟨F,D⟩:=g k W.1;refine aA9 W.2.1 ?_ F D;simp only[uv];split;rename_i B;have:=W.2.2 B;omega;omega
structure RY(bars:Int)(tp ps sp:RV):Prop where
 t:uu bars tp
 k:Yy bars tp
 p:∀k<Y ps.ac,PsK bars ps k
 s:∀k<Y sp.ac,SpK bars sp k
structure eK(bars:Int)(tp ps sp:RV)(e:Int):Prop where
 l:¬(Y tp.ac<=4096/\Y ps.ac<=4096/\Y sp.ac<=256)->e=2
 k:Y tp.ac<=4096/\Y ps.ac<=4096/\Y sp.ac<=256->Er (RY bars tp ps sp) 130 e
def eK.eq{P:Int}{W V Q:RV}{e N:Int}(h:eK P W V Q e)(M:eK P W V Q N):e=N:=by
 by_cases X:Y W.ac<=4096/\Y V.ac<=4096/\Y Q.ac<=256;exact(h.k X).eq (M.k X);rw[h.l X,M.l X]
section
variable{R:bo->Prop}{G:aS}{t:T}{O:ai}{L:de}
def wtd(h:-32768<=X/\X<=32768):IntKind.i64.wrap (X.tdiv V)=X.tdiv V:=by
 have W:(X.tdiv V).natAbs<=X.natAbs:=by rw[Int.natAbs_tdiv];exact Nat.div_le_self _ _
 exact cJ aa aa
def sqs(W:1<=F)(Q:F<=32768)(P:-F<=X/\X<=F)(N:-F<=V/\V<=F):(aF .add I (aF .mul I X X) (aF .mul I V V)=aF .mul I F F)=(X*X+V*V=F*F):=by
 have M:=ahb (a:=X) aa;have H:=ahb (a:=V) aa;have G:=ahb (a:=F) aa;simp only[aF];rw[cJ (n:=X*X) aa aa,cJ (n:=V*V) aa aa,cJ (n:=F*F) aa aa,cJ aa aa]
def asC(W:1<=X)(V:X<=32768):aF .sub I 0 X=-X:=by simp only[aF];rw[cJ aa aa];omega
def aBa(a b c:Int)(F:1<=c)(D:c<=32768)(B:-c<=a/\a<=c)(A:-c<=b/\b<=c):∃g:Int,g=(lq (lq a.natAbs b.natAbs) c.natAbs:Nat)/\TB.Ev 96 [.i a,.i b,.i c] (.ret [.i (a.tdiv g),.i (b.tdiv g),.i (c.tdiv g)]):=by
 refine⟨_,rfl,fF ?_⟩;simp[Ya];refine vJ (λX=>∃n d:Int,X=[.i n,.i d]∧-c<=n/\n<=c∧-c<=d/\d<=c/\lq n.natAbs d.natAbs=a.natAbs) (λX=>(xi X 0).natAbs) ⟨a,0,rfl,aa,aa,aa,aa,av⟩ ?_;rintro _ ⟨n,d,rfl,Q,P,N,M,W⟩;simp[xi,vH,aF];split
 case isFalse h=>
  have:=NA (a:=d) h;refine⟨h,⟨_,_,⟨rfl,rfl⟩,aa,aa,aa,aa,by rw[aha];exact W⟩,by rw[<-J4];exact this⟩
 rename_i h;subst h;simp at W;refine vJ (λX=>∃n e:Int,X=[.i n,.i e]∧-c<=n/\n<=c∧-c<=e/\e<=c/\lq n.natAbs e.natAbs=lq a.natAbs b.natAbs) (λX=>(xi X 0).natAbs) ⟨b,d,rfl,aa,aa,aa,aa,by rw[W,Oa]⟩ ?_;rintro _ ⟨n,e,rfl,Q,P,N,M,V⟩;simp[xi,vH,aF];split
 case isFalse h=>
  have:=NA (a:=e) h;refine⟨h,⟨_,_,⟨rfl,rfl⟩,aa,aa,aa,aa,by rw[aha];exact V⟩,by rw[<-J4];exact this⟩
 rename_i h;subst h;simp at V;refine vJ (λX=>∃n f:Int,X=[.i n,.i f]∧-c<=n/\n<=c∧-c<=f/\f<=c/\lq n.natAbs f.natAbs=lq (lq a.natAbs b.natAbs) c.natAbs) (λX=>(xi X 0).natAbs) ⟨c,e,rfl,aa,aa,aa,aa,by rw[V,Oa]⟩ ?_;rintro _ ⟨n,f,rfl,Q,P,N,M,H⟩;simp[xi,vH,aF];split
 case isFalse h=>
  have:=NA (a:=f) h;refine⟨h,⟨_,_,⟨rfl,rfl⟩,aa,aa,aa,aa,by rw[aha];exact H⟩,by rw[<-J4];exact this⟩
 rename_i h;subst h;simp at H;have z:0<lq (lq a.natAbs b.natAbs) c.natAbs:=Nat.gcd_pos_of_pos_right _ aa;have:IntKind.i64.wrap (-f)=-f:=cJ aa aa;simp[this];generalize(a.natAbs.gcd b.natAbs).gcd c.natAbs=G at*;rw[show max f (-f)=(G:Int) from aa,wtd aa,wtd aa,wtd aa];exact⟨aa,rfl,rfl,rfl⟩
def x83(a b c:Int):∃o,TB.Ev 56 [.i a,.i b,.i c] o/\∃e,o=.ret [.i e]/\Er (RX a b c) 140 e:=by
 refine dV ?_;simp[Yb];split;exact Er.no λh=>by have:=h.fc;omega
 split;exact Er.no λh=>by have:=h.fc;omega
 rw[asC aa aa];split;exact Er.no λh=>by have:=h.fa;have:=h.fb;omega
 split;exact Er.no λh=>by have:=h.fa;have:=h.fb;omega
 refine ay (λX=> ?_) (λX=> ?_)
 all_goals rw[sqs aa aa aa aa] at X
 case refine_2=>exact Er.no λp=>X p.q
 obtain⟨g,W,V⟩:=aBa a b c aa aa aa aa;rw[bi V];simp;refine ay (λh=>Er.no λp=> ?_) (λh=> ?_);have Q:=p.g;rw[Q] at W;subst W;simp at h;simp at h;have:=aA8 aa h.2.2;exact Er.ok ⟨aa,aa,aa,X,aa⟩
def aBc(Q ak:Int)(X G F:RV)(M:Sl X)(h:uu Q X)(q:0<=ak)(p:ak<Q):∃k,yY X k ak/\TB.Ev 137 [.i Q,.r X,.r G,.r F,.i ak] (.ret [.i (l8 X k ak)]):=by
 suffices B:∃o,TB.Ev 137 [.i Q,.r X,.r G,.r F,.i ak] o/\∃k,yY X k ak/\o=.ret [.i (l8 X k ak)] by
  obtain⟨o,H,k,D,rfl⟩:=B;exact⟨k,D,H⟩
 refine dV ?_;simp[X4];have m:=h.pos;have l:=M.sm;refine vJ (λP=>∃i j:Nat,P=[.i i,.i j]/\i<=j/\j<=Y X.ac/\(j=Y X.ac\/ak<ci X j 0)/\(0<i->ci X (i-1) 0<=ak)) (λP=>(xi P 1-xi P 0).toNat) ⟨0,Y X.ac,by simp[M.len],aa,aa,.inl rfl,aa⟩ ?_;rintro _ ⟨i,j,rfl,H,D,W,N⟩;simp[xi,vH,M.len,arY (show j<=140737488355328 from aa) H];split;rename_i A;refine⟨aa, ?_⟩;have z:((i:Int)+j)/2=(((i+j)/2:Nat):Int):=aa;have w:=JE (i:=(i+j)/2) aa;rw[z,w];split;rename_i V;refine⟨⟨(i+j)/2+1,j,⟨rfl,rfl⟩,aa,aa,W,λ_=> ?_⟩,aa⟩;simp only[ci,Nat.add_sub_cancel];omega;rename_i V;refine⟨⟨i,(i+j)/2,⟨rfl,rfl⟩,aa,aa,.inr ?_,N⟩,aa⟩;simp only[ci];omega;rename_i A;have v:i=j:=aa;subst v;have u:1<=i:=by
  rcases A5 i with rfl|V;have:=h.zero;rcases W with W|W<;>omega;exact V
 have N:=N u;rw[show aF .sub I (i:Int) 1=((i-1:Nat):Int) by simp only[aF];rw[cJ aa aa];omega];refine⟨aa,i-1,⟨aa,N,λV=> ?_⟩, ?_⟩;rw[show i-1+1=i from aa] at V⊢;rcases W with W|W<;>omega;have g:=h.ge (k:=i-1) aa;obtain⟨-,f,e,s⟩:=h.all (i-1) aa;have d:=h.br;have c:=Yx (a:=ak-ci X (i-1) 0) (b:=ci X (i-1) 2) (x:=4096) (y:=65536) aa s;simp only[l8,aF];simp only[ci] at*;rw[cJ (n:=ak-_) aa aa,cJ (n:=_*_) aa aa,cJ aa aa]
def eK.RZ{W V:RV}(h:¬(Y P.ac<=4096/\Y W.ac<=4096/\Y V.ac<=256)):eK X P W V 2:=⟨λ_=>rfl,λk=>aZ k h⟩
def eK.no{Q:Int}{X W V:RV}(h:Y X.ac<=4096/\Y W.ac<=4096/\Y V.ac<=256)(P:¬RY Q X W V):eK Q X W V 130:=⟨λk=>aZ h k,λ_=>Er.no P⟩
def eK.ok{V:Int}{X ps W:RV}(h:Y X.ac<=4096/\Y ps.ac<=4096/\Y W.ac<=256)(Q:RY V X ps W):eK V X ps W 0:=⟨λk=>aZ h k,λ_=>Er.ok Q⟩
def x81(Q:Int)(P M H:RV)(n:Sl P)(g:Sl M)(f:Sl H):∃o,TB.Ev 54 [.i Q,.r P,.r M,.r H] o/\∃e,o=.ret [.i e]/\eK Q P M H e:=by
 refine Yk rfl rfl (.inr λv hv=>by obtain⟨_,h,_⟩:=hv;cases h) ?_;simp[Yd,n.len,g.len,f.len];refine ay (λm1=> ?_) (λm1=>eK.RZ aa);refine ay (λm2=>eK.RZ aa) (λm2=> ?_);have W:Y P.ac<=4096/\Y M.ac<=4096/\Y H.ac<=256:=aa;refine ay (λm3=> ?_) (λm3=>eK.no W λp=>by have:=p.t.br;omega);refine ay (λm4=> ?_) (λm4=>eK.no W λp=>by have:=p.t.br;omega);refine ay (λd=> ?_) (λd=>eK.no W λp=>by have:=p.t.pos;omega);refine⟨d, ?_⟩;refine ay (λm=> ?_) (λm=>eK.no W λp=>m p.t.zero);have e1:aF .sub I Q 1=Q-1:=by simp only[aF];rw[cJ aa aa]
 have e2:aF .sub I Q 2=Q-2:=by simp only[aF];rw[cJ aa aa]
 refine cj (Y P.ac) (λi F=>∃V:Int,F=[.i V]/\(∀k<i,TpK Q P k)∧-1<=V/\V<=4096/\((i=0/\V=-1)\/(0<i/\V=ci P (i-1) 0))) ⟨0,rfl,aa,-1,rfl,aa,aa,aa,.inl ⟨rfl,rfl⟩⟩ ?_;rintro i _ X ⟨V,rfl,N,k2,k3,k4⟩;have l:aF .add I V 1=V+1:=by simp only[aF];rw[cJ aa aa]
 simp[n.len,e1,l];refine ay (λX=> ?_) (λX=> ?_);simp[bU X n.sm];refine⟨X, ?_⟩;have lo:i=0->ci P i 0=0:=by rintro rfl;exact m
 refine ay (λD=> ?_) (λD=>eK.no W λp=>by have q:=(p.t.all i X).inc;have:=p.t.ge X;simp only[ci] at*;omega);refine ay (λB=> ?_) (λB=>eK.no W λp=>by have q:=(p.t.all i X).lt;simp only[ci] at*;omega);refine ay (λA=> ?_) (λA=>eK.no W λp=>by have q:=(p.t.all i X).ti;simp only[ci] at*;omega);refine ay (λz=> ?_) (λz=>eK.no W λp=>by have q:=(p.t.all i X).ti;simp only[ci] at*;omega);refine ay (λy=> ?_) (λy=>eK.no W λp=>by have q:=(p.t.all i X).st;simp only[ci] at*;omega);refine ay (λx=>eK.no W λp=>by have q:=(p.t.all i X).st;simp only[ci] at*;omega) (λx=> ?_);refine⟨λk G=> ?_,aa,aa,rfl⟩;by_cases w:k=i;subst w;refine⟨λc=> ?_, ?_, ?_, ?_⟩<;>simp only[ci] at* <;>omega;exact N k aa;have u:i=Y P.ac:=aa;subst u;have a:uu Q P:=⟨⟨m3,m4⟩,d,m,N⟩;clear N k2 k3 k4 l;refine cj Q.toNat (λi F=>F=[]/\∀(k:Nat)(b:Int),0<=b->b<i->yY P k b->1<=l8 P k b/\l8 P k b<=65536) ⟨0,rfl,aa,rfl,aa⟩ ?_;rintro i _ X ⟨rfl,N⟩;simp;refine ay (λX=> ?_) (λX=> ?_);have af:i<Q.toNat:=aa;obtain⟨k,G,he⟩:=aBc Q i P M H n a aa X;rw[bi he];simp[bU af (show Q.toNat<=140737488355328 from aa)];refine ay (λD=> ?_) (λD=>eK.no W λp=>by have q:=p.k k i aa X G;omega);refine ay (λB=>eK.no W λp=>by have q:=p.k k i aa X G;omega) (λB=> ?_);intro k' b hb al j;by_cases ag:b=i;subst ag;rw[a.ahf j G];omega;exact N k' b hb aa j;have G:Yy Q P:=λk b c hb j=>N k b c aa j
 clear N X;refine cj (Y M.ac) (λi F=>∃V:Int,F=[.i V]/\(∀k<i,PsK Q M k)∧-1<=V/\V<=4096/\((i=0/\V=-1)\/(0<i/\V=ci M (i-1) 0))) ⟨0,rfl,aa,-1,rfl,aa,aa,aa,.inl ⟨rfl,rfl⟩⟩ ?_;rintro i _ X ⟨V,rfl,N,k2,k3,k4⟩;have l:aF .add I V 1=V+1:=by simp only[aF];rw[cJ aa aa]
 simp[g.len,e2,l];refine ay (λX=> ?_) (λX=> ?_);simp[bU X g.sm];refine⟨X, ?_⟩;refine ay (λD=> ?_) (λD=>eK.no W λp=>by have q:=p.p i X;have q1:=q.ge;have q2:=q.inc;simp only[ci] at*;omega);refine ay (λB=> ?_) (λB=>eK.no W λp=>by have q:=(p.p i X).lt;simp only[ci] at*;omega);refine ay (λA=> ?_) (λA=>eK.no W λp=>by have q:=(p.p i X).kd;simp only[ci] at*;omega);refine ay (λz=> ?_) (λz=>eK.no W λp=>by have q:=(p.p i X).kd;simp only[ci] at*;omega);refine ay (λy=> ?_) (λy=>eK.no W λp=>by have q:=(p.p i X).lo;simp only[ci] at*;omega);refine ay (λx=> ?_) (λx=>eK.no W λp=>by have q:=(p.p i X).hi;simp only[ci] at*;omega);refine ay (λg7=>eK.no W λp=>by have q:=(p.p i X).mx;simp only[ci] at*;omega) (λg7=> ?_);refine⟨λk G=> ?_,aa,aa,rfl⟩;by_cases w:k=i;subst w;refine⟨?_, ?_,λc=> ?_, ?_, ?_, ?_, ?_⟩<;>simp only[ci] at* <;>omega;exact N k aa;have u:i=Y M.ac:=aa;subst u;refine cj (Y H.ac) (λi F=>F=[]/\∀k<i,SpK Q H k) ⟨0,rfl,aa,rfl,aa⟩ ?_;rintro i _ X ⟨rfl,k5⟩;simp[f.len];refine ay (λX=> ?_) (λX=> ?_);simp[bU X f.sm];refine⟨X, ?_⟩;refine ay (λD=> ?_) (λD=>eK.no W λp=>by have q:=(p.s i X).fr;simp only[ci] at*;omega);refine ay (λB=> ?_) (λB=>eK.no W λp=>by have q:=(p.s i X).fr;simp only[ci] at*;omega);refine ay (λA=> ?_) (λA=>eK.no W λp=>by have q:=(p.s i X).to;simp only[ci] at*;omega);refine ay (λz=> ?_) (λz=>eK.no W λp=>by have q:=(p.s i X).to;simp only[ci] at*;omega);refine ay (λy=>eK.no W λp=>by have q:=(p.s i X).ne;simp only[ci] at*;omega) (λy=> ?_);refine ay (λx=> ?_) (λx=>eK.no W λp=>by have q:=(p.s i X).lo;simp only[ci] at*;omega);refine ay (λg7=> ?_) (λg7=>eK.no W λp=>by have q:=(p.s i X).hi;simp only[ci] at*;omega);refine ay (λg8=>eK.no W λp=>by have q:=(p.s i X).mx;simp only[ci] at*;omega) (λg8=> ?_);intro k G;by_cases w:k=i;subst w;refine⟨?_, ?_, ?_, ?_, ?_, ?_⟩<;>simp only[ci] at* <;>omega;exact k5 k aa;have u:i=Y H.ac:=aa;subst u;exact eK.ok W ⟨a,G,N,k5⟩

def aBe(n X W:Int):TB.Ev 140 [.i n,.i X,.i W] (.ret [.b (jc n X W)]):=by
 refine fF ?_;simp[afU,jc]
 grind
@[simp] def aJd (n X W:Int):iL TB.Ev R 140 [.i n,.i X,.i W] G t O L=iM TB.Ev R (.ret [.b (jc n X W)]) G t O L:=bi (aBe n X W)
def aBf(n X W:Int):TB.Ev 144 [.i n,.i X,.i W] (.ret [.b (jc n X W)]):=by
 refine fF ?_;simp[afV,jc]
 grind
@[simp] def aJe (n X W:Int):iL TB.Ev R 144 [.i n,.i X,.i W] G t O L=iM TB.Ev R (.ret [.b (jc n X W)]) G t O L:=bi (aBf n X W)
def aBg(a b:Nat)(_:a<=1152921504606846976)(V:b<=1152921504606846976):TB.Ev 266 [.i a,.i b] (.ret [.i (lq a b:Nat)]):=by
 refine fF ?_;simp[af0];refine vJ (λX=>∃m n:Nat,X=[.i m,.i n]/\m<=1152921504606846976/\lq m n=lq a b) (λX=>(xi X 0).toNat) ⟨b,a,rfl,V,Oa _ _⟩ ?_;rintro _ ⟨m,n,rfl,Q,W⟩;simp[xi,vH,aF];split;rename_i h;have P:n%m<m:=Hj _ aa;refine⟨aa,⟨n%m,m,⟨?_,rfl⟩,aa,by rw[<-W,<-ZA]⟩, ?_⟩;rw[SE aa];rfl;rw[SE aa];omega;rename_i h;have:m=0:=aa;subst this;simp at W;rw[W]
def asD(a b:Nat)(_:a<=1152921504606846976)(V:b<=1152921504606846976):TB.Ev 180 [.i a,.i b] (.ret [.i (lq a b:Nat)]):=by
 refine fF ?_;simp[afY];refine vJ (λX=>∃m n:Nat,X=[.i m,.i n]/\m<=1152921504606846976/\lq m n=lq a b) (λX=>(xi X 0).toNat) ⟨b,a,rfl,V,Oa _ _⟩ ?_;rintro _ ⟨m,n,rfl,Q,W⟩;simp[xi,vH,aF];split;rename_i h;have P:n%m<m:=Hj _ aa;refine⟨aa,⟨n%m,m,⟨?_,rfl⟩,aa,by rw[<-W,<-ZA]⟩, ?_⟩;rw[SE aa];rfl;rw[SE aa];omega;rename_i h;have:m=0:=aa;subst this;simp at W;rw[W]
def aBh(n:Int)(h:-1152921504606846976<=n/\n<=1152921504606846976):TB.Ev 267 [.i n] (.ret [.i n.natAbs]):=by
 refine fF ?_;simp[af3,aF];split;rw[cJ aa aa];omega;omega
def ahh(W:1<=V)(Q:V<=1073741824)(P:-1073741824<=X)(N:X<=1073741824):TB.Ev 267 [.i X] (.ret [.i X.natAbs])/\TB.Ev 266 [.i X.natAbs,.i V] (.ret [.i (lq X.natAbs V.toNat:Nat)]):=by
 refine⟨aBh X aa, ?_⟩;have:=aBg X.natAbs V.toNat aa aa
 rwa [aiR aa] at this
def ahi(h:¬(1<=V/\V<=1073741824∧-1073741824<=X/\X<=1073741824)):gh X V=false:=by
 simp[gh];omega
def ahj(h:1<=V/\V<=1073741824∧-1073741824<=X/\X<=1073741824):gh X V=(lq X.natAbs V.toNat==1):=by
 simp[gh,h]
def aBi(n d:Int):TB.Ev 182 [.i n,.i d] (.ret [.i (if gh n d then 0 else 120)]):=by
 refine fF ?_;by_cases X:1<=d/\d<=1073741824∧-1073741824<=n/\n<=1073741824;rw[ahj X];obtain⟨W,V,Q,P⟩:=X;obtain⟨N,M⟩:=ahh W V Q P;simp[Ye,W,V,Q,P,bi N,bi M]
 grind
 rw[ahi X];simp[Ye]
 grind
@[simp] def aJf (n d:Int):iL TB.Ev R 182 [.i n,.i d] G t O L=iM TB.Ev R (.ret [.i (if gh n d then 0 else 120)]) G t O L:=bi (aBi n d)
def aBj(a b c d:Int):TB.Ev 183 [.i a,.i b,.i c,.i d] (.ret [.i (ou a b c d),.i (if gh a b&&gh c d then 0 else 120)]):=by
 refine fF ?_;by_cases X:1<=b/\b<=1073741824∧-1073741824<=a/\a<=1073741824;rw[ou,ahj X];obtain⟨W,V,Q,P⟩:=X;obtain⟨M,H⟩:=ahh W V Q P;by_cases N:1<=d/\d<=1073741824∧-1073741824<=c/\c<=1073741824;rw[ahj N];obtain⟨G,F,D,B⟩:=N;obtain⟨A,z⟩:=ahh G F D B;simp[Rv,W,V,Q,P,bi M,bi H,G,F,D,B,bi A,bi z,s7,aF]
 grind
 rw[ahi N];simp[Rv,W,V,Q,P,bi M,bi H]
 grind
 rw[ou,ahi X];simp[Rv]
 grind
@[simp] def aJg (a b c d:Int):iL TB.Ev R 183 [.i a,.i b,.i c,.i d] G t O L=iM TB.Ev R (.ret [.i (ou a b c d),.i (if gh a b&&gh c d then 0 else 120)]) G t O L:=bi (aBj a b c d)
def aBk(a b c:Int):∃o,TB.Ev 145 [.i a,.i b,.i c] o/\∃e,o=.ret [.i e]/\Er (RX a b c) 140 e:=by
 refine dV ?_;simp[afZ];refine ay (λ_=>Er.no λh=>by have:=h.fc;omega) (λP=> ?_);refine ay (λ_=>Er.no λh=>by have:=h.fc;omega) (λN=> ?_);rw[asC aa aa];refine ay (λ_=>Er.no λh=>by have:=h.fa;omega) (λM=> ?_);refine ay (λ_=>Er.no λh=>by have:=h.fa;omega) (λH=> ?_);refine ay (λ_=>Er.no λh=>by have:=h.fb;omega) (λG=> ?_);refine ay (λ_=>Er.no λh=>by have:=h.fb;omega) (λF=> ?_);refine ay (λX=> ?_) (λX=> ?_)
 all_goals rw[sqs aa aa aa aa] at X
 case refine_2=>exact Er.no λp=>X p.q
 rw[show max a (aF .sub I 0 a)=(a.natAbs:Int) by simp only[aF];rw[cJ aa aa];omega,show max b (aF .sub I 0 b)=(b.natAbs:Int) by simp only[aF];rw[cJ aa aa];omega];rw[bi (asD a.natAbs b.natAbs aa aa)];have V:lq a.natAbs b.natAbs<=1152921504606846976:=by
  by_cases Q:a.natAbs=0;rw[Q,Nat.gcd_zero_left];omega;have:=Nat.le_of_dvd aa (Nat.gcd_dvd_left a.natAbs b.natAbs);omega
 have W:=asD (lq a.natAbs b.natAbs) c.natAbs V aa;rw[show((c.natAbs:Nat):Int)=c from aa] at W;simp[bi W];refine ay (λh=>Er.ok ⟨aa,aa,aa,X,aa⟩) (λh=>Er.no λp=>h (by have:=p.g;omega))

def mF{P:Nat->Prop}(h:∀k<Q,P k)(X:P Q):∀k<Q+1,P k:=λk W=>by
 by_cases e:k=Q;subst e;exact X;exact h k aa
def NF(h:0<Q)(X:Q<=140737488355328):aF .sub I (Q:Int) 1=((Q-1:Nat):Int):=by simp only[aF];rw[cJ aa aa];omega
def aBl{n:Nat}{X:Nat->bq->Prop}{i:Nat}{W:bq}(V:i<n)(P:n<=140737488355328):JC (U ⟨Q,RI n X,Nz n,n-i⟩) (.i ((i:Int)+1)::W)=X (i+1) W:=by
 have:=bU (ax:=Q) (J:=X) (rest:=W) V P
 rwa [JE aa] at this
def asE(V ak:Int)(X M H:RV)(G:Sl X)(h:uu V X)(v:0<=ak)(u:ak<V):∃k,yY X k ak/\TB.Ev 179 [.i V,.r X,.r M,.r H,.i ak] (.ret [.i (l8 X k ak)]):=by
 suffices D:∃o,TB.Ev 179 [.i V,.r X,.r M,.r H,.i ak] o/\∃k,yY X k ak/\o=.ret [.i (l8 X k ak)] by
  obtain⟨o,W,k,Q,rfl⟩:=D;exact⟨k,Q,W⟩
 refine dV ?_;simp[afW];have s:=h.pos;have B:=G.sm;refine cj (Y X.ac) (λi A=>A=[]/\i<Y X.ac/\ci X i 0<=ak) ⟨0,rfl,aa,rfl,aa,by rw[h.zero];omega⟩ ?_;rintro i _ q ⟨rfl,W,Q⟩;have P:(i+1<Y X.ac->ak<ci X (i+1) 0)->(0<=(i:Int)/\(i:Int)<Y X.ac)/\∃k,yY X k ak/\aF .add I (ci X i 1) (aF .mul I (aF .sub I ak (ci X i 0)) (ci X i 2))=l8 X k ak:=by
  intro N;refine⟨aa,i,⟨W,Q,N⟩, ?_⟩;have p:=h.ge W;obtain⟨-,m,l,z⟩:=h.all i W;have j:=h.br;have g:=Yx (a:=ak-ci X i 0) (b:=ci X i 2) (x:=4096) (y:=65536) aa z;simp only[l8,aF];rw[cJ (n:=ak-_) aa aa,cJ (n:=_*_) aa aa,cJ aa aa]
 simp only[ci] at P;have w:aF .add I (i:Int) 1=((i+1:Nat):Int):=JE aa;simp[G.len,w];refine ay (λN=>⟨aa,ay (λF=> ?_) (λF=> ?_)⟩) (λN=> ?_);rw[aBl W B];exact⟨rfl,aa,F⟩;have:=P (λ_=>by simp only[Int.natCast_add,Int.natCast_one];omega);exact⟨W,this.2⟩;have:=P (λe=>aa);exact⟨W,this.2⟩
def r91(V:Int)(W M H:RV)(G:Sl W)(q:Sl M)(j:Sl H):∃o,TB.Ev 99 [.i V,.r W,.r M,.r H] o/\∃e,o=.ret [.i e]/\eK V W M H e:=by
 refine dV ?_;simp[T91,G.len,q.len,j.len];refine ay (λh=>eK.RZ aa) (λh=> ?_);refine ay (λh=>eK.RZ aa) (λh=> ?_);refine ay (λm2=>eK.RZ aa) (λm2=> ?_);have Q:Y W.ac<=4096/\Y M.ac<=4096/\Y H.ac<=256:=aa;refine ay (λm3=> ?_) (λm3=>eK.no Q λp=>by have:=p.t.br;omega);refine ay (λm4=>eK.no Q λp=>by have:=p.t.br;omega) (λm4=> ?_);refine ay (λf=>eK.no Q λp=>by have:=p.t.pos;rw[f] at this;simp at this) (λf=> ?_);have af:0<Y W.ac:=N2.2 f;refine⟨af, ?_⟩;refine ay (λd=> ?_) (λd=>eK.no Q λp=>d p.t.zero);have c:aF .sub I V 1=V-1:=by simp only[aF];rw[cJ aa aa]
 have e2:aF .sub I V 2=V-2:=by simp only[aF];rw[cJ aa aa]
 refine cj (Y W.ac) (λi D=>D=[]/\∀k<i,TpK V W k) ⟨0,rfl,aa,rfl,aa⟩ ?_;rintro i _ X ⟨rfl,P⟩;simp[G.len,c];refine ay (λX=> ?_) (λX=> ?_);simp[bU X G.sm];have n:=G.sm;refine⟨X,ay (λB=> ?_) (λB=> ?_)⟩
 ·rw[NF B aa];refine⟨aa, ?_⟩
  repeat'(refine ay (λ_=> ?_) (λ_=> ?_))
  any_goals(refine eK.no Q λp=> ?_;obtain⟨y,x,w,v⟩:=p.t.all i X;simp only[ci] at*;omega)
  refine mF P ⟨λ_=> ?_, ?_, ?_, ?_⟩<;>simp only[ci]<;>omega
 ·repeat'(refine ay (λ_=> ?_) (λ_=> ?_))
  any_goals(refine eK.no Q λp=> ?_;obtain⟨y,x,w,v⟩:=p.t.all i X;simp only[ci] at*;omega)
  refine mF P ⟨λ_=> ?_, ?_, ?_, ?_⟩<;>simp only[ci]<;>omega
 have A:i=Y W.ac:=aa;subst A;have N:uu V W:=⟨⟨m3,aa⟩,af,d,P⟩;clear P;refine cj (Y W.ac) (λi D=>D=[]/\∀k<i,(1<=l8 W k (ci W k 0)/\l8 W k (ci W k 0)<=65536)/\1<=l8 W k (uv V W k)/\l8 W k (uv V W k)<=65536) ⟨0,rfl,aa,rfl,aa⟩ ?_;rintro i _ X ⟨rfl,P⟩;simp[G.len,c];refine ay (λX=> ?_) (λX=> ?_);have n:=G.sm;obtain⟨l1,l2,l3,l4,l5⟩:=N.last X;obtain⟨a,a1,a2⟩:=asE V (ci W i 0) W M H G N l3 aa;obtain rfl:=N.ahf l1 a1;obtain⟨b,b1,m⟩:=asE V (uv V W i) W M H G N aa l5;obtain rfl:=N.ahf l2 b1;have e3:=JE (i:=i) aa;refine ay (λB=> ?_) (λB=> ?_);have u:uv V W i=aF .sub I (ci W (i+1) 0) 1:=by
  have g:=N.ge (k:=i+1) aa;have F:=(N.all (i+1) aa).lt;rw[uv,aJ aa];simp only[aF];rw[cJ aa aa]
 refine⟨aa,X, ?_⟩;simp only[ci] at a2 m;rw[bi a2];simp[e3];rw[show(i:Int)+1=((i+1:Nat):Int) from rfl];refine ay (λz=> ?_) (λz=> ?_);have e5:uv V W i=aF .sub I (bn (aU W.ac ((i+1:Nat):Int) 0).val) 1:=u;have b3:=m;rw[e5] at b3;rw[bi b3,<-e5];simp;refine ay (λF=> ?_) (λF=>eK.no Q λp=>F (N.tk.1 p.k i X).2);rw[bU X n];exact⟨rfl,mF P ⟨z,F⟩⟩;refine eK.no Q λp=>z ?_
 have:=(N.tk.1 p.k i X).1;simpa only[ci] using this;have u:uv V W i=V-1:=by rw[uv,aQ aa]
 refine⟨X, ?_⟩;rw[u] at m;simp only[ci] at a2;rw[bi a2];simp[c,bi m,bU X n];have l:∀p:RY V W M H,_:=λp=>N.tk.1 p.k i X
 rw[u] at l;simp only[ci] at l;refine ay (λz=>ay (λF=>mF P ?_) (λF=>eK.no Q λp=>F (l p).2)) (λz=>eK.no Q λp=>z (l p).1);rw[u];exact⟨z,F⟩;have A:i=Y W.ac:=aa;subst A;have hk:Yy V W:=N.tk.2 P;clear P X;refine cj (Y M.ac) (λi D=>D=[]/\∀k<i,PsK V M k) ⟨0,rfl,aa,rfl,aa⟩ ?_;rintro i _ X ⟨rfl,P⟩;simp[q.len,e2];refine ay (λX=> ?_) (λX=> ?_);simp[bU X q.sm];have n:=q.sm;refine⟨X,ay (λhb=>ay (λB=> ?_) (λB=> ?_)) (λhb=> ?_)⟩
 ·rw[NF B aa];refine⟨aa, ?_⟩
  repeat'(refine ay (λ_=> ?_) (λ_=> ?_))
  any_goals(refine eK.no Q λp=> ?_;obtain⟨y,x,w,v,q5,q6,q7⟩:=p.p i X;simp only[ci] at*;omega)
  all_goals refine mF P ⟨?_, ?_,λ_=> ?_, ?_, ?_, ?_, ?_⟩<;>simp only[ci]<;>omega
 ·repeat'(refine ay (λ_=> ?_) (λ_=> ?_))
  any_goals(refine eK.no Q λp=> ?_;obtain⟨y,x,w,v,q5,q6,q7⟩:=p.p i X;simp only[ci] at*;omega)
  all_goals refine mF P ⟨?_, ?_,λ_=> ?_, ?_, ?_, ?_, ?_⟩<;>simp only[ci]<;>omega
 refine eK.no Q λp=> ?_
 obtain⟨y,x,w,v,q5,q6,q7⟩:=p.p i X;simp only[ci] at*;omega;have A:i=Y M.ac:=aa;subst A;refine cj (Y H.ac) (λi D=>D=[]/\∀k<i,SpK V H k) ⟨0,rfl,aa,rfl,aa⟩ ?_;rintro i _ X ⟨rfl,k5⟩;simp[j.len];refine ay (λX=> ?_) (λX=> ?_)
 ·simp[bU X j.sm];refine⟨X, ?_⟩
  repeat'(refine ay (λ_=> ?_) (λ_=> ?_))
  any_goals(refine eK.no Q λp=> ?_;obtain⟨y,x,w,v,q5,q6⟩:=p.s i X;simp only[ci] at*;omega)
  refine mF k5 ⟨?_, ?_, ?_, ?_, ?_, ?_⟩<;>simp only[ci]<;>omega
 have A:i=Y H.ac:=aa;subst A;exact eK.ok Q ⟨N,hk,P,k5⟩
def yZ(c:Nat->Int):Bool:=gh (c 10) (c 11)&&gh (c 12) (c 13)&&decide (0<=c 10)&&decide (ou (c 10) (c 11) (c 12) (c 13)<0)&&decide (c 12<=c 13)
structure SgP(roles bars:Int)(c:Nat->Int):Prop where
 ok:CC roles bars c
 sp:yZ c=J
def Yz(h:gh X V=J):1<=V/\V<=1073741824∧-1073741824<=X/\X<=1073741824:=by
 simp[gh] at h;omega
def aBn(h:gh X V=J):ou 0 1 X V=s7 0 X:=by
 have:=Yz h;have W:gh 0 1=true:=dQ;simp only[ou,h,W,v8,cN];rw[cJ aa aa,cJ aa aa];simp
def aBo(h:gh X V=J):ou X V 1 1=s7 X V:=by
 have:=Yz h;have W:gh 1 1=true:=dQ;simp only[ou,h,W,v8,cN];rw[cJ aa aa,cJ aa aa];simp
def aBp(a b:Int):ou a b a b=0:=by
 simp[ou,s7]
def CI(X W:Int)(c:Nat->Int):Bool:=jc (c 4) 1 9&&jc (c 1) 0 (X-1)&&jc (c 2) 0 (W-1)&&jc (c 3) 1 3&&rQ (c 5) (gH (kT (c 4) 0).val) 1 2&&rQ (c 6) (gH (kT (c 4) 1).val) (bn (kT (c 4) 3).val) 8&&rQ (c 7) (decide (0<bn (kT (c 4) 4).val)) 1 (bn (kT (c 4) 4).val)&&rQ (c 8) (decide (0<bn (kT (c 4) 5).val)) 1 (bn (kT (c 4) 5).val)&&rQ (c 9) (gH (kT (c 4) 2).val) 1 X
def aBq(h:CC X V W):CI X V W=true:=by
 obtain⟨G,F,D,B,Q,P,N,M,H,-,-⟩:=h;have:W 4=1\/W 4=2\/W 4=3\/W 4=4\/W 4=5\/W 4=6\/W 4=7\/W 4=8\/W 4=9:=aa;rcases this with h|h|h|h|h|h|h|h|h
 all_goals
  simp[h] at Q P N M H;simp[CI,h,kT,kV,nH,bV,iV,aU,rQ,gH,bn,jc];omega
def aBr(h:CI X V W=J)(Q:yZ W=J):CC X V W:=by
 simp only[CI,yZ,aw,RG] at h Q;obtain⟨⟨⟨⟨⟨⟨⟨⟨P,N⟩,M⟩,H⟩,G⟩,F⟩,D⟩,B⟩,A⟩:=h;exact arX P N M H G F D B A Q.1.1.1.1 Q.1.1.1.2
def asF:SgP X V W<->(CI X V W&&yZ W)=true:=by
 rw[aw];exact⟨λh=>⟨aBq h.ok,h.sp⟩,λh=>⟨aBr h.1 h.2,h.2⟩⟩
def YA{p:Prop}(d W:Decidable p):rQ X (@decide p d) V F=rQ X (@decide p W) V F:=by congr
def x84(c:Nat->Int)(X W:Int)(g:-1000<=X/\X<=1000000)(f:-1000<=W/\W<=1000000):TB.Ev 57 (iN c++[.i X,.i W]) (.ret [.b (CI X W c&&yZ c)]):=by
 refine fF ?_;have A:aF .sub I X 1=X-1:=by simp only[aF];rw[cJ aa aa]
 have z:aF .sub I W 1=W-1:=by simp only[aF];rw[cJ aa aa]
 have y:lenOf (kV[0]?.getD default).val=10:=rfl;by_cases V:CI X W c=J
 ·have P:=V;simp only[CI,aw,RG] at V;obtain⟨⟨⟨⟨⟨⟨⟨⟨x,w⟩,v⟩,u⟩,N⟩,M⟩,H⟩,G⟩,F⟩:=V;simp only[kT] at N M H G F;rw[P,Hf];simp[Ro,iN,A,z,y,x,w,v,u,N,M,F];refine⟨aa, ?_⟩;refine ay (λ_=>ay (λ_=> ?_) (λn=>aZ ((YA _ _).trans G) n)) (λn=>aZ ((YA _ _).trans H) n);clear N M H G F;have D:gh 0 1=true:=dQ;have s:gh 1 1=true:=dQ;by_cases Q:gh (c 10) (c 11)=J
  case neg=>simp[Q,D,yZ]
  by_cases B:gh (c 12) (c 13)=J
  case neg=>
   simp[Q,B,D,yZ]
   repeat' split
   all_goals trivial
  have e:c 10=c 12->c 11=c 13->ou (c 10) (c 11) (c 12) (c 13)=0:=λa b=>by rw[<-a,<-b];exact aBp _ _
  rw[aBn Q,aBo B];simp only[yZ,Q,B,D,s];generalize ou (c 10) (c 11) (c 12) (c 13)=m at*;simp[s7]
  grind
 have P:CI X W c=false:=by simpa using V
 rw[P,Bool.false_and];simp only[CI,aw,RG,kT] at V;simp[Ro,iN,A,z,y];intro r a2 q p a5 a6 a7 a8;refine⟨aa,λo l k j h=>aZ ⟨⟨⟨⟨⟨⟨⟨⟨⟨r,a2⟩,q,p⟩,a5,a6⟩,a7,a8⟩,o⟩,l⟩,(YA _ _).trans k⟩,(YA _ _).trans j⟩,h⟩ V⟩

structure FdP(roles:Int)(c:Nat->Int):Prop where
 kind:1<=c 4/\c 4<=9
 side:if c 4=1\/c 4=3\/c 4=4\/c 4=9 then 1<=c 5/\c 5<=2 else c 5=0
 dir:if c 4=1\/c 4=2 then 1<=c 6/\c 6<=8 else if c 4=3\/c 4=4\/c 4=5 then 0<=c 6/\c 6<=8 else c 6=0
 azV:if c 4=3\/c 4=4\/c 4=5\/c 4=9 then 1<=c 7/\c 7<=3 else c 7=0
 size:if c 4=1\/c 4=2 then 1<=c 8/\c 8<=16 else if c 4=6 then 1<=c 8/\c 8<=7 else c 8=0
 wth:if c 4=7\/c 4=8 then 1<=c 9/\c 9<=roles else c 9=0
def aBt:FdP X W<->(1<=W 4/\W 4<=9)/\(if W 4=1\/W 4=3\/W 4=4\/W 4=9 then 1<=W 5/\W 5<=2 else W 5=0)/\(if W 4=1\/W 4=2 then 1<=W 6/\W 6<=8 else if W 4=3\/W 4=4\/W 4=5 then 0<=W 6/\W 6<=8 else W 6=0)/\(if W 4=3\/W 4=4\/W 4=5\/W 4=9 then 1<=W 7/\W 7<=3 else W 7=0)/\(if W 4=1\/W 4=2 then 1<=W 8/\W 8<=16 else if W 4=6 then 1<=W 8/\W 8<=7 else W 8=0)/\(if W 4=7\/W 4=8 then 1<=W 9/\W 9<=X else W 9=0):=
 ⟨λ⟨a,b,W,d,e,f⟩=>⟨a,b,W,d,e,f⟩,λ⟨a,b,W,d,e,f⟩=>⟨a,b,W,d,e,f⟩⟩
def aBu(c:Nat->Int)(W:Int):∃o,TB.Ev 146 (iN c++[.i W]) o/\∃b,o=.ret [.b b]/\(b=J<->FdP W c):=by
 refine dV ?_;rw[aBt];by_cases X:c 4=1\/c 4=2\/c 4=3\/c 4=4\/c 4=5\/c 4=6\/c 4=7\/c 4=8\/c 4=9
 ·rcases X with h|h|h|h|h|h|h|h|h
  all_goals
   simp[Yf,iN,h]
   repeat'(refine ay (λ_=> ?_) (λ_=> ?_))
   all_goals(first|omega|(simp;omega)|grind)
 simp only[not_or] at X;obtain⟨V,Q,P,N,M,H,G,F,D⟩:=X;simp[Yf,iN,V,Q,P,N,M,H,G,F,D];omega
def aBv(c:Nat->Int):TB.Ev 147 (iN c) (.ret [.b (yZ c)]):=by
 refine fF ?_;simp[af4,iN,yZ]
 grind
def eK.p{W V:RV}(h:eK X P W V 0):RY X P W V:=by
 by_cases Q:Y P.ac<=4096/\Y W.ac<=4096/\Y V.ac<=256;exact Classical.byContradiction λN=>by have:=(h.k Q).2 N;omega
 have:=h.l Q;omega
def f83(a b c:Int):Er (RX a b c) 140 (oi 56 [.i a,.i b,.i c] 0):=(uq (x83 a b c)).2
def aBw(a b c:Int):TB.Ev 145 [.i a,.i b,.i c] (.ret [.i (oi 56 [.i a,.i b,.i c] 0)]):=by
 obtain⟨o,h,e,rfl,X⟩:=aBk a b c;rw[(f83 a b c).eq X];exact h
@[simp] def aJh (a b c:Int):iL TB.Ev R 145 [.i a,.i b,.i c] G t O L=iM TB.Ev R (.ret [.i (oi 56 [.i a,.i b,.i c] 0)]) G t O L:=bi (aBw a b c)
def YB:oi 56 [.i X,.i V,.i F] 0=0<->RX X V F:=by
 have h:=f83 X V F;refine⟨λe=>Classical.byContradiction λW=>by have:=h.2 W;omega,h.1⟩
def aBx{roles bars:Int}{c:Nat->Int}:SgP roles bars c<->(0<=c 1/\c 1<=roles-1)/\(0<=c 2/\c 2<=bars-1)/\(1<=c 3/\c 3<=3)/\FdP roles c/\yZ c=true:=by
 constructor;rintro⟨⟨W,G,F,V,Q,P,N,M,H,-,-⟩,X⟩;exact⟨aa,aa,V,⟨W,Q,P,N,M,H⟩,X⟩;rintro⟨G,F,V,⟨W,Q,P,N,M,H⟩,X⟩;have:=X;simp only[yZ,aw] at this;exact⟨⟨W,aa,aa,V,Q,P,N,M,H,this.1.1.1.1,this.1.1.1.2⟩,X⟩
variable[Inhabited db]
structure RoP(k:Nat):Prop where
 x:0<=ci aL k 1/\ci aL k 1<=ur
 y:0<=ci aL k 2/\ci aL k 2<=ut
 f:0<=ci aL k 3/\ci aL k 3<=7
structure SiP(k:Nat):Prop where
 id:0<=ci bu k 0/\ci bu k 0<=1048576
 inc:0<k->ci bu (k-1) 0<ci bu k 0
 sg:SgP (Y aL.ac) fo (ci bu k)
structure WkP:Prop where
 w:1<=ur/\ur<=1000
 d:1<=ut/\ut<=1000
 t:RX RJ RN Ym
 a:0<=RJ
 b:0<=RN
 n:0<Y aL.ac
 r:∀k<Y aL.ac,RoP k
 s:∀k<Y bu.ac,SiP k
def GO:Int:=oi 54 [.i fo,.r qf,.r rT,.r rU] 0
def f81(h:fp):TB.Ev 54 [.i fo,.r qf,.r rT,.r rU] (.ret [.i GO])/\eK fo qf rT rU GO:=uq (x81 fo qf rT rU h.tp h.ps h.sp)
def f91(h:fp):TB.Ev 99 [.i fo,.r qf,.r rT,.r rU] (.ret [.i GO]):=by
 obtain⟨o,X,e,rfl,W⟩:=r91 fo qf rT rU h.tp h.ps h.sp;rw[(f81 h).2.eq W];exact X
structure qh(e:Int):Prop where
 l:¬(Y aL.ac<=64/\Y bu.ac<=4096)->e=2
 c:Y aL.ac<=64/\Y bu.ac<=4096->GO≠0->e=GO
 k:Y aL.ac<=64/\Y bu.ac<=4096->GO=0->Er WkP 190 e
def qh.eq{e Q:Int}(h:qh e)(V:qh Q):e=Q:=by
 by_cases X:Y aL.ac<=64/\Y bu.ac<=4096;by_cases W:GO=0;exact(h.k X W).eq (V.k X W);rw[h.c X W,V.c X W];rw[h.l X,V.l X]
def qh.no(X:Y aL.ac<=64/\Y bu.ac<=4096)(W:GO=0)(V:¬WkP):qh 190:=⟨λk=>aZ X k,λ_ k=>aZ W k,λ_ _=>Er.no V⟩
def x37(h:fp):∃o,TB.Ev 24 wk o/\∃e,o=.ret [.i e]/\qh e:=by
 refine dV ?_;obtain⟨q,A⟩:=f81 h;simp[X5,wk,h.rl.len,h.sg.len,bi q];refine ay (λm=>⟨λ_=>rfl,λk=>aa,λk=>aa⟩) (λm=> ?_);refine ay (λl=>⟨λ_=>rfl,λk=>aa,λk=>aa⟩) (λl=> ?_);have V:Y aL.ac<=64/\Y bu.ac<=4096:=aa;refine ay (λX=> ?_) (λX=>⟨λk=>aZ V k,λ_ _=>rfl,λ_ k=>aZ k X⟩);rw[X] at A;have j:=A.p;have hb:=j.t.br;refine ay (λN=> ?_) (λN=>qh.no V X λp=>N p.w);refine ay (λM=> ?_) (λM=>qh.no V X λp=>M p.d);refine ay (λH=> ?_) (λH=>qh.no V X λp=>H (YB.2 p.t));refine ay (λg=>qh.no V X λp=>by have:=p.a;omega) (λg=> ?_);refine ay (λf=>qh.no V X λp=>by have:=p.b;omega) (λf=> ?_);refine ay (λG=>qh.no V X λp=>by have:=p.n;rw[G] at this;simp at this) (λG=> ?_);have c:0<Y aL.ac:=N2.2 G;refine cj (Y aL.ac) (λi F=>F=[]/\∀k<i,RoP k) ⟨0,rfl,aa,rfl,aa⟩ ?_;rintro i _ W ⟨rfl,z⟩;simp[h.rl.len];refine ay (λW=> ?_) (λW=> ?_)
 ·simp[bU W h.rl.sm];refine⟨W, ?_⟩
  repeat'(refine ay (λ_=> ?_) (λ_=> ?_))
  any_goals(refine qh.no V X λp=> ?_;obtain⟨y,x,v⟩:=p.r i W;simp only[ci] at*;omega)
  refine mF z ⟨?_, ?_, ?_⟩<;>simp only[ci]<;>omega
 have D:i=Y aL.ac:=aa;subst D;refine cj (Y bu.ac) (λi F=>∃P:Int,F=[.i P]/\(∀k<i,SiP k)/\((i=0/\P=-1)\/(0<i/\P=ci bu (i-1) 0))) ⟨0,rfl,aa,-1,rfl,aa,.inl ⟨rfl,rfl⟩⟩ ?_;rintro i _ W ⟨P,rfl,B,k3⟩;simp[h.rl.len,h.sg.len];refine ay (λW=> ?_) (λW=> ?_);refine⟨W, ?_⟩;have hs:=h.sg.sm;have u:=x84 (ci bu i) (Y aL.ac) fo aa aa;simp only[iN,ci,ez,eW] at u;have k4:-1<=P:=by
  rcases k3 with⟨-,e⟩|⟨h0,e⟩;omega;have:=(B (i-1) aa).id;omega
 refine ay (λg1=> ?_) (λg1=> ?_);refine qh.no V X λp=> ?_
 obtain⟨y,x,v⟩:=p.s i W;simp only[ci] at*;omega;refine ay (λg2=> ?_) (λg2=> ?_);refine qh.no V X λp=> ?_
 obtain⟨y,x,v⟩:=p.s i W;simp only[ci] at*;omega;rw[bi u];simp[bU W hs];refine ay (λQ=> ?_) (λQ=> ?_);refine qh.no V X λp=> ?_
 have:=asF.1 (p.s i W).sg;simp only[aw] at this;rw[this.1,this.2] at Q;simp at Q;simp only[not_or,G8] at Q;refine⟨mF B ⟨?_,λh0=> ?_,asF.2 (by rw[Q.1,Q.2];rfl)⟩,rfl⟩<;>simp only[ci] at* <;>omega;have D:i=Y bu.ac:=aa;subst D;exact⟨λk=>aZ V k,λ_ k=>aZ X k,λ_ _=>Er.ok ⟨N,M,YB.1 H,aa,aa,c,z,B⟩⟩
def aBA(h:fp):TB.Ev 24 wk (.ret [.i lg])/\qh lg:=uq (x37 h)
def r92(h:fp)(hb:1<=fo/\fo<=4096)(hl:Y aL.ac<=64/\Y bu.ac<=4096):∃o,TB.Ev 100 wk o/\∃b,o=.ret [.b b]/\(b=J<->WkP):=by
 refine dV ?_;simp[T92,wk,h.rl.len,h.sg.len];refine ay (λB=> ?_) (λB p=>by have:=p.w;omega);refine ay (λx p=>by have:=p.w;omega) (λx=> ?_);refine ay (λA=> ?_) (λA p=>by have:=p.d;omega);refine ay (λv p=>by have:=p.d;omega) (λv=> ?_);refine ay (λQ=> ?_) (λQ p=>Q (YB.2 p.t));refine ay (λu p=>by have:=p.a;omega) (λu=> ?_);refine ay (λm p=>by have:=p.b;omega) (λm=> ?_);refine ay (λP p=>by have:=p.n;rw[P] at this;simp at this) (λP=> ?_);have l:0<Y aL.ac:=N2.2 P;refine cj (Y aL.ac) (λi N=>N=[]/\∀k<i,RoP k) ⟨0,rfl,aa,rfl,aa⟩ ?_;rintro i _ X ⟨rfl,z⟩;simp[h.rl.len];refine ay (λX=> ?_) (λX=> ?_)
 ·simp[bU X h.rl.sm];refine⟨X, ?_⟩
  repeat'(refine ay (λ_=> ?_) (λ_=> ?_))
  any_goals(intro p;obtain⟨q1,q2,q3⟩:=p.r i X;simp only[ci] at*;omega)
  refine mF z ⟨?_, ?_, ?_⟩<;>simp only[ci]<;>omega
 have M:i=Y aL.ac:=aa;subst M;have j:aF .sub I (Y aL.ac:Int) 1=Y aL.ac-1:=by simp only[aF];rw[cJ aa aa]
 have g:aF .sub I fo 1=fo-1:=by simp only[aF];rw[cJ aa aa]
 refine cj (Y bu.ac) (λi N=>N=[]/\∀k<i,SiP k) ⟨0,rfl,aa,rfl,aa⟩ ?_;rintro i _ X ⟨rfl,H⟩;simp[h.rl.len,h.sg.len,j,g];refine ay (λX=>⟨X, ?_⟩) (λX=> ?_);have y:=h.sg.sm;obtain⟨o,G,b,rfl,f⟩:=aBu (ci bu i) (Y aL.ac);have F:=aBv (ci bu i);have W:=aBx (roles:=Y aL.ac) (bars:=fo) (c:=ci bu i);rw[<-f] at W;simp only[iN,ci,ez,eW] at G F W;refine ay (λD=>ay (λV=> ?_) (λV=> ?_)) (λD p=> ?_)
 ·rw[NF V aa];refine⟨aa,ay (λg2 p=> ?_) (λg2=> ?_)⟩;have:=(p.s i X).inc V;simp only[ci] at this;omega;have af:ci bu (i-1) 0<ci bu i 0:=by simp only[ci];omega
  simp[bi G,bi F,bU X y]
  repeat'(refine ay (λ_=> ?_) (λ_=> ?_))
  any_goals(intro p;have q:=W.1 (p.s i X).sg;grind)
  exact mF H ⟨D,λ_=>af,W.2 (by refine⟨?_, ?_, ?_, ?_, ?_⟩<;>assumption)⟩
 ·simp[bi G,bi F,bU X y]
  repeat'(refine ay (λ_=> ?_) (λ_=> ?_))
  any_goals(intro p;have q:=W.1 (p.s i X).sg;grind)
  exact mF H ⟨D,λe=>aZ e V,W.2 (by refine⟨?_, ?_, ?_, ?_, ?_⟩<;>assumption)⟩
 have:=(p.s i X).id;simp only[ci] at this;omega;have M:i=Y bu.ac:=aa;subst M;exact⟨⟨B,aa⟩,⟨A,aa⟩,YB.1 Q,aa,aa,l,z,H⟩
def r40(h:fp):TB.Ev 58 wk (.ret [.i lg]):=by
 suffices M:∃o,TB.Ev 58 wk o/\∃e,o=.ret [.i e]/\qh e by
  obtain⟨o,Q,e,rfl,W⟩:=M;rw[(aBA h).2.eq W];exact Q
 refine dV ?_;have Q:=f91 h;have W:=(f81 h).2;simp[T40,wk,h.rl.len,h.sg.len,bi Q];refine ay (λH=>⟨λ_=>rfl,λk=>aa,λk=>aa⟩) (λH=> ?_);refine ay (λG=>⟨λ_=>rfl,λk=>aa,λk=>aa⟩) (λG=> ?_);have V:Y aL.ac<=64/\Y bu.ac<=4096:=aa;refine ay (λX=> ?_) (λX=>⟨λk=>aZ V k,λ_ _=>rfl,λ_ k=>aZ k X⟩);rw[X] at W;obtain⟨o,P,b,rfl,N⟩:=r92 h W.p.t.br V;simp only[wk] at P;rw[bi P];simp;refine ay (λg=>⟨λk=>aZ V k,λ_ k=>aZ X k,λ_ _=>Er.ok (N.1 g)⟩) (λg=>qh.no V X λp=>g (N.2 p))
end
