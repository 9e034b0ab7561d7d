/- Part 6 of the proof. -/
import Derived.Test.YtpmkfikkemaopaaGreatDoorQ5
set_option linter.all false
set_option maxRecDepth 100000
set_option maxHeartbeats 100000000
open Bool renaming and_eq_true->az,not_eq_true'->gO,false_eq_true->iW,eq_iff_iff->tG,and_self->wj,not_eq_false->Fh,not_true->Wu,not_eq_true->aeX,true->J,false->E
open List renaming getElem?_append_left->dU,mem_cons->dP,cons_append->fG,nil_append->gr,pairwise_cons->jL,getElem_mem->pA,pairwise_iff_getElem->LO,take_append_drop->H6,length_take->De,length_drop->Df,length_pos_iff->Wh,getElem_of_mem->aeU,length->Y
open Nat renaming le_refl->cd
open List.Pairwise renaming nil->xK
open Go.IntKind renaming i64->I
namespace Go.Proofs.YtpmkfikkemaopaaGreatDoor.Y
open Go.RowKit
noncomputable section
variable{V M F:Int}{X Q:Nat→Int}{N:RV}{H:aH}{P:ax}{W:Nat}
section
variable{R:bo->Prop}{G:aQ}{t:T}{O:ak}{L:dj}
structure FdP(roles:Int)(c:Nat->Int):Prop where
 kind:1<=c 4/\c 4<=9
 side:if c 4=1\/c 4=3\/c 4=4\/c 4=9 then 1<=c 5/\c 5<=2 else c 5=0
 dir:if c 4=1\/c 4=2 then 1<=c 6/\c 6<=8 else if c 4=3\/c 4=4\/c 4=5 then 0<=c 6/\c 6<=8 else c 6=0
 avq:if c 4=3\/c 4=4\/c 4=5\/c 4=9 then 1<=c 7/\c 7<=3 else c 7=0
 size:if c 4=1\/c 4=2 then 1<=c 8/\c 8<=16 else if c 4=6 then 1<=c 8/\c 8<=7 else c 8=0
 wth:if c 4=7\/c 4=8 then 1<=c 9/\c 9<=roles else c 9=0
def awD:FdP V X<->(1<=X 4/\X 4<=9)/\(if X 4=1\/X 4=3\/X 4=4\/X 4=9 then 1<=X 5/\X 5<=2 else X 5=0)/\(if X 4=1\/X 4=2 then 1<=X 6/\X 6<=8 else if X 4=3\/X 4=4\/X 4=5 then 0<=X 6/\X 6<=8 else X 6=0)/\(if X 4=3\/X 4=4\/X 4=5\/X 4=9 then 1<=X 7/\X 7<=3 else X 7=0)/\(if X 4=1\/X 4=2 then 1<=X 8/\X 8<=16 else if X 4=6 then 1<=X 8/\X 8<=7 else X 8=0)/\(if X 4=7\/X 4=8 then 1<=X 9/\X 9<=V else X 9=0):=
 ⟨λ⟨a,b,X,d,e,f⟩=>⟨a,b,X,d,e,f⟩,λ⟨a,b,X,d,e,f⟩=>⟨a,b,X,d,e,f⟩⟩
def awE(c:Nat->Int)(W:Int):∃o,TB.Ev 132 (lN c++[.i W]) o/\∃b,o=.ret [.b b]/\(b=J<->FdP W c):=by
 refine fj ?_;rw[awD];by_cases X:c 4=1\/c 4=2\/c 4=3\/c 4=4\/c 4=5\/c 4=6\/c 4=7\/c 4=8\/c 4=9
 ·rcases X with h|h|h|h|h|h|h|h|h
  all_goals
   simp[Vc,lN,h]
   repeat'(refine aG (λ_=> ?_) (λ_=> ?_))
   all_goals(first|omega|(simp;omega)|grind)
 simp only[not_or] at X;obtain⟨V,Q,P,N,M,H,G,F,D⟩:=X;simp[Vc,lN,V,Q,P,N,M,H,G,F,D];omega
def awF(c:Nat->Int):TB.Ev 133 (lN c) (.ret [.b (xC c)]):=by
 refine gA ?_;simp[acw,lN,xC]
 grind
def eD.p{X W:RV}(h:eD V N X W 0):Vm V N X W:=by
 by_cases Q:Y N.aj<=4096/\Y X.aj<=4096/\Y W.aj<=256;exact Classical.byContradiction λP=>by have:=(h.k Q).2 P;omega
 have:=h.l Q;omega
def f83(a b c:Int):Er (Ps a b c) 140 (oi 45 [.i a,.i b,.i c] 0):=(vU (x83 a b c)).2
def awG(a b c:Int):TB.Ev 131 [.i a,.i b,.i c] (.ret [.i (oi 45 [.i a,.i b,.i c] 0)]):=by
 obtain⟨o,h,e,rfl,X⟩:=awu a b c;rw[(f83 a b c).eq X];exact h
@[simp] def aEl (a b c:Int):iT TB.Ev R 131 [.i a,.i b,.i c] G t O L=iU TB.Ev R (.ret [.i (oi 45 [.i a,.i b,.i c] 0)]) G t O L:=bu (awG a b c)
def Vp:oi 45 [.i V,.i M,.i F] 0=0<->Ps V M F:=by
 have h:=f83 V M F;refine⟨λe=>Classical.byContradiction λX=>by have:=h.2 X;omega,h.1⟩
def awH{roles bars:Int}{c:Nat->Int}:SgP roles bars c<->(0<=c 1/\c 1<=roles-1)/\(0<=c 2/\c 2<=bars-1)/\(1<=c 3/\c 3<=3)/\FdP roles c/\xC c=true:=by
 constructor;rintro⟨⟨W,G,F,V,Q,P,N,M,H,-,-⟩,X⟩;exact⟨ae,ae,V,⟨W,Q,P,N,M,H⟩,X⟩;rintro⟨G,F,V,⟨W,Q,P,N,M,H⟩,X⟩;have:=X;simp only[xC,az] at this;exact⟨⟨W,ae,ae,V,Q,P,N,M,H,this.1.1.1.1,this.1.1.1.2⟩,X⟩
variable[Inhabited cX]
structure RoP(k:Nat):Prop where
 x:0<=ci aX k 1/\ci aX k 1<=th
 y:0<=ci aX k 2/\ci aX k 2<=tj
 f:0<=ci aX k 3/\ci aX k 3<=7
structure SiP(k:Nat):Prop where
 id:0<=ci bB k 0/\ci bB k 0<=1048576
 inc:0<k->ci bB (k-1) 0<ci bB k 0
 sg:SgP (Y aX.aj) eW (ci bB k)
structure WkP:Prop where
 w:1<=th/\th<=1000
 d:1<=tj/\tj<=1000
 t:Ps Ph Pj Vh
 a:0<=Ph
 b:0<=Pj
 n:0<Y aX.aj
 r:∀k<Y aX.aj,RoP k
 s:∀k<Y bB.aj,SiP k
def EV:Int:=oi 43 [.i eW,.r px,.r qT,.r qU] 0
def f81(h:gU):TB.Ev 43 [.i eW,.r px,.r qT,.r qU] (.ret [.i EV])/\eD eW px qT qU EV:=vU (x81 eW px qT qU h.tp h.ps h.sp)
def f91(h:gU):TB.Ev 84 [.i eW,.r px,.r qT,.r qU] (.ret [.i EV]):=by
 obtain⟨o,X,e,rfl,W⟩:=r91 eW px qT qU h.tp h.ps h.sp;rw[(f81 h).2.eq W];exact X
structure py(e:Int):Prop where
 l:¬(Y aX.aj<=64/\Y bB.aj<=4096)->e=2
 c:Y aX.aj<=64/\Y bB.aj<=4096->EV≠0->e=EV
 k:Y aX.aj<=64/\Y bB.aj<=4096->EV=0->Er WkP 190 e
def py.eq{e Q:Int}(h:py e)(V:py Q):e=Q:=by
 by_cases X:Y aX.aj<=64/\Y bB.aj<=4096;by_cases W:EV=0;exact(h.k X W).eq (V.k X W);rw[h.c X W,V.c X W];rw[h.l X,V.l X]
def py.no(X:Y aX.aj<=64/\Y bB.aj<=4096)(W:EV=0)(V:¬WkP):py 190:=⟨λk=>aY X k,λ_ k=>aY W k,λ_ _=>Er.no V⟩
def x37(h:gU):∃o,TB.Ev 19 wk o/\∃e,o=.ret [.i e]/\py e:=by
 refine fj ?_;obtain⟨q,A⟩:=f81 h;simp[U0,wk,h.rl.len,h.sg.len,bu q];refine aG (λm=>⟨λ_=>rfl,λk=>ae,λk=>ae⟩) (λm=> ?_);refine aG (λl=>⟨λ_=>rfl,λk=>ae,λk=>ae⟩) (λl=> ?_);have V:Y aX.aj<=64/\Y bB.aj<=4096:=ae;refine aG (λX=> ?_) (λX=>⟨λk=>aY V k,λ_ _=>rfl,λ_ k=>aY k X⟩);rw[X] at A;have j:=A.p;have hb:=j.t.br;refine aG (λN=> ?_) (λN=>py.no V X λp=>N p.w);refine aG (λM=> ?_) (λM=>py.no V X λp=>M p.d);refine aG (λH=> ?_) (λH=>py.no V X λp=>H (Vp.2 p.t));refine aG (λg=>py.no V X λp=>by have:=p.a;omega) (λg=> ?_);refine aG (λf=>py.no V X λp=>by have:=p.b;omega) (λf=> ?_);refine aG (λG=>py.no V X λp=>by have:=p.n;rw[G] at this;simp at this) (λG=> ?_);have c:0<Y aX.aj:=Wh.2 G;refine cT (Y aX.aj) (λi F=>F=[]/\∀k<i,RoP k) ⟨0,rfl,ae,rfl,ae⟩ ?_;rintro i _ W ⟨rfl,z⟩;simp[h.rl.len];refine aG (λW=> ?_) (λW=> ?_)
 ·simp[cJ W h.rl.sm];refine⟨W, ?_⟩
  repeat'(refine aG (λ_=> ?_) (λ_=> ?_))
  any_goals(refine py.no V X λp=> ?_;obtain⟨y,x,v⟩:=p.r i W;simp only[ci] at*;omega)
  refine lQ z ⟨?_, ?_, ?_⟩<;>simp only[ci]<;>omega
 have D:i=Y aX.aj:=ae;subst D;refine cT (Y bB.aj) (λi F=>∃P:Int,F=[.i P]/\(∀k<i,SiP k)/\((i=0/\P=-1)\/(0<i/\P=ci bB (i-1) 0))) ⟨0,rfl,ae,-1,rfl,ae,.inl ⟨rfl,rfl⟩⟩ ?_;rintro i _ W ⟨P,rfl,B,k3⟩;simp[h.rl.len,h.sg.len];refine aG (λW=> ?_) (λW=> ?_);refine⟨W, ?_⟩;have hs:=h.sg.sm;have u:=x84 (ci bB i) (Y aX.aj) eW ae ae;simp only[lN,ci,fG,gr] at u;have k4:-1<=P:=by
  rcases k3 with⟨-,e⟩|⟨h0,e⟩;omega;have:=(B (i-1) ae).id;omega
 refine aG (λg1=> ?_) (λg1=> ?_);refine py.no V X λp=> ?_
 obtain⟨y,x,v⟩:=p.s i W;simp only[ci] at*;omega;refine aG (λg2=> ?_) (λg2=> ?_);refine py.no V X λp=> ?_
 obtain⟨y,x,v⟩:=p.s i W;simp only[ci] at*;omega;rw[bu u];simp[cJ W hs];refine aG (λQ=> ?_) (λQ=> ?_);refine py.no V X λp=> ?_
 have:=aoh.1 (p.s i W).sg;simp only[az] at this;rw[this.1,this.2] at Q;simp at Q;simp only[not_or,Fh] at Q;refine⟨lQ B ⟨?_,λh0=> ?_,aoh.2 (by rw[Q.1,Q.2];rfl)⟩,rfl⟩<;>simp only[ci] at* <;>omega;have D:i=Y bB.aj:=ae;subst D;exact⟨λk=>aY V k,λ_ k=>aY X k,λ_ _=>Er.ok ⟨N,M,Vp.1 H,ae,ae,c,z,B⟩⟩
def awK(h:gU):TB.Ev 19 wk (.ret [.i kQ])/\py kQ:=vU (x37 h)
def r92(h:gU)(hb:1<=eW/\eW<=4096)(hl:Y aX.aj<=64/\Y bB.aj<=4096):∃o,TB.Ev 85 wk o/\∃b,o=.ret [.b b]/\(b=J<->WkP):=by
 refine fj ?_;simp[T92,wk,h.rl.len,h.sg.len];refine aG (λB=> ?_) (λB p=>by have:=p.w;omega);refine aG (λx p=>by have:=p.w;omega) (λx=> ?_);refine aG (λA=> ?_) (λA p=>by have:=p.d;omega);refine aG (λv p=>by have:=p.d;omega) (λv=> ?_);refine aG (λQ=> ?_) (λQ p=>Q (Vp.2 p.t));refine aG (λu p=>by have:=p.a;omega) (λu=> ?_);refine aG (λm p=>by have:=p.b;omega) (λm=> ?_);refine aG (λP p=>by have:=p.n;rw[P] at this;simp at this) (λP=> ?_);have l:0<Y aX.aj:=Wh.2 P;refine cT (Y aX.aj) (λi N=>N=[]/\∀k<i,RoP k) ⟨0,rfl,ae,rfl,ae⟩ ?_;rintro i _ X ⟨rfl,z⟩;simp[h.rl.len];refine aG (λX=> ?_) (λX=> ?_)
 ·simp[cJ X h.rl.sm];refine⟨X, ?_⟩
  repeat'(refine aG (λ_=> ?_) (λ_=> ?_))
  any_goals(intro p;obtain⟨q1,q2,q3⟩:=p.r i X;simp only[ci] at*;omega)
  refine lQ z ⟨?_, ?_, ?_⟩<;>simp only[ci]<;>omega
 have M:i=Y aX.aj:=ae;subst M;have j:aU .sub I (Y aX.aj:Int) 1=Y aX.aj-1:=by simp only[aU];rw[ew ae ae]
 have g:aU .sub I eW 1=eW-1:=by simp only[aU];rw[ew ae ae]
 refine cT (Y bB.aj) (λi N=>N=[]/\∀k<i,SiP k) ⟨0,rfl,ae,rfl,ae⟩ ?_;rintro i _ X ⟨rfl,H⟩;simp[h.rl.len,h.sg.len,j,g];refine aG (λX=>⟨X, ?_⟩) (λX=> ?_);have y:=h.sg.sm;obtain⟨o,G,b,rfl,f⟩:=awE (ci bB i) (Y aX.aj);have F:=awF (ci bB i);have W:=awH (roles:=Y aX.aj) (bars:=eW) (c:=ci bB i);rw[<-f] at W;simp only[lN,ci,fG,gr] at G F W;refine aG (λD=>aG (λV=> ?_) (λV=> ?_)) (λD p=> ?_)
 ·rw[Lu V ae];refine⟨ae,aG (λg2 p=> ?_) (λg2=> ?_)⟩;have:=(p.s i X).inc V;simp only[ci] at this;omega;have aa:ci bB (i-1) 0<ci bB i 0:=by simp only[ci];omega
  simp[bu G,bu F,cJ X y]
  repeat'(refine aG (λ_=> ?_) (λ_=> ?_))
  any_goals(intro p;have q:=W.1 (p.s i X).sg;grind)
  exact lQ H ⟨D,λ_=>aa,W.2 (by refine⟨?_, ?_, ?_, ?_, ?_⟩<;>assumption)⟩
 ·simp[bu G,bu F,cJ X y]
  repeat'(refine aG (λ_=> ?_) (λ_=> ?_))
  any_goals(intro p;have q:=W.1 (p.s i X).sg;grind)
  exact lQ H ⟨D,λe=>aY e V,W.2 (by refine⟨?_, ?_, ?_, ?_, ?_⟩<;>assumption)⟩
 have:=(p.s i X).id;simp only[ci] at this;omega;have M:i=Y bB.aj:=ae;subst M;exact⟨⟨B,ae⟩,⟨A,ae⟩,Vp.1 Q,ae,ae,l,z,H⟩
def r40(h:gU):TB.Ev 47 wk (.ret [.i kQ]):=by
 suffices M:∃o,TB.Ev 47 wk o/\∃e,o=.ret [.i e]/\py e by
  obtain⟨o,Q,e,rfl,W⟩:=M;rw[(awK h).2.eq W];exact Q
 refine fj ?_;have Q:=f91 h;have W:=(f81 h).2;simp[T40,wk,h.rl.len,h.sg.len,bu Q];refine aG (λH=>⟨λ_=>rfl,λk=>ae,λk=>ae⟩) (λH=> ?_);refine aG (λG=>⟨λ_=>rfl,λk=>ae,λk=>ae⟩) (λG=> ?_);have V:Y aX.aj<=64/\Y bB.aj<=4096:=ae;refine aG (λX=> ?_) (λX=>⟨λk=>aY V k,λ_ _=>rfl,λ_ k=>aY k X⟩);rw[X] at W;obtain⟨o,P,b,rfl,N⟩:=r92 h W.p.t.br V;simp only[wk] at P;rw[bu P];simp;refine aG (λg=>⟨λk=>aY V k,λ_ k=>aY X k,λ_ _=>Er.ok (N.1 g)⟩) (λg=>py.no V X λp=>g (N.2 p))
end
def aok{lt:aH->aH->Bool}(l:ax)(x:aH):bT lt (l++[x])=ef lt x (bT lt l):=by simp[bT]
section
variable{lt:aH->aH->Bool}{p:aH->Prop}
def awM{A B:ax}{x:aH}(X:∀y∈A,lt x y=E)(W:∀y∈B,lt x y=J):ef lt x (A++B)=A++x::B:=by
 induction A with
 |nil=>
  cases B with
  |nil=>rfl
  |cons y r=>simp[ef,W y ay]
 |cons y r V=>
  simp only[fG,ef];rw[X y ay,V λz Q=>X z (by simp[Q])];rfl
def aol(h:ld lt p)(M:p H)(Q:∀z∈P,p z)(G:gw lt P)(v:W<=Y P)(F:∀(j:Nat)(X:j<Y P),W<=j->lt H P[j]=J)(D:∀X:W-1<Y P,0<W->lt H P[W-1]=E):ef lt H P=P.take W++H::P.drop W:=by
 have:=awM (lt:=lt) (x:=H) (A:=P.take W) (B:=P.drop W) (λy V=> ?_) (λy V=> ?_)
 rwa [H6] at this
 obtain⟨j,X,rfl⟩:=aeU V;simp only[De] at X;simp only[List.getElem_take];have N:=D ae ae;by_cases e:j=W-1;subst e;exact N;have w:=LO.1 G j (W-1) ae ae ae;exact h.nt _ _ _ M (Q _ (pA _)) (Q _ (pA _)) N w;obtain⟨j,X,rfl⟩:=aeU V;simp only[Df] at X;simp only[List.getElem_drop];exact F _ ae ae
end
section
variable{R:bo->Prop}{G:aQ}{t:T}{O:ak}{L:dj}
def awN(a b:Nat->Int):TB.Ev 288 (lN a++lN b) (.ret [.b (decide (nD (a 10) (a 11) (b 10) (b 11)<0)||decide (nD (a 10) (a 11) (b 10) (b 11)=0)&&decide (a 0<b 0))]):=by
 refine gA ?_;simp[acz,lN]
 grind
def awO{d:Int}(h:fY V M=J)(X:fY F d=J):(nD V M F d<0<->V*d<F*M)/\(nD V M F d=0<->V*d=F*M):=by
 have g:=Vn h;have W:=Vn X;have Q:=Vk (a:=V) (b:=d) (x:=1073741824) (y:=1073741824) ae ae;have P:=Vk (a:=F) (b:=M) (x:=1073741824) (y:=1073741824) ae ae;simp only[nD,h,X,wj,cS,rQ];rw[ew ae ae,ew ae ae];generalize V*d=u at*;generalize F*M=v at*;constructor;split;simp;omega;split<;>simp<;>omega;split;simp;omega;split<;>simp<;>omega
variable[Inhabited cX]
def awP(h:gU)(V:Lr)(bj ar:Int):TB.Ev 217 (wk++[.i bj,.i ar]) (.ret [.r (bK (bT (bm.ratio 10 11).lt (j9 bj ar (Y bB.aj))))]):=by
 refine gA ?_;simp[acD,wk];refine cT (Y bB.aj) (λi o=>o=[.r (bK (bT (bm.ratio 10 11).lt (j9 bj ar i)))]) ⟨0,rfl,ae,rfl⟩ ?_;rintro i _ W rfl;have n:=Pl (bj:=bj) (ar:=ar) i;have aa:=V.ns;simp[h.sg.len];refine aG (λW=>⟨W, ?_⟩) (λW=> ?_)
 case refine_2=>
  have f:i=Y bB.aj:=ae;rw[f]
 refine aG (λM=>⟨W, ?_⟩) (λM=> ?_)
 case refine_2=>
  rw[cJ W h.sg.sm];simp[j9,ci,M]
 refine aG (λG=>⟨W, ?_⟩) (λG=> ?_)
 case refine_2=>
  rw[cJ W h.sg.sm];simp[j9,ci,M,G]
 have d:(bm.ratio 10 11).ok (pw (ci bB i))=true:=by
  simp only[bm.ok];rw[vV _ _ ae,vV _ _ ae];exact(V.ES i W).from_
 have A:∀z∈bT (bm.ratio 10 11).lt (j9 bj ar i),∃k<i,z=pw (ci bB k):=λz P=>by
  obtain⟨k,y,c,-⟩:=(Pm).1 ((AS _).mem_iff.1 P);exact⟨k,y,c⟩
 have x:∀z∈bT (bm.ratio 10 11).lt (j9 bj ar i),(bm.ratio 10 11).ok z=true:=λz P=>by
  obtain⟨k,y,rfl⟩:=A z P;simp only[bm.ok];rw[vV _ _ ae,vV _ _ ae];exact(V.ES k ae).from_
 have b:=Cd (NH 10 11) (l:=j9 bj ar i) (λz P=>x z ((AS _).mem_iff.2 P));have ab:(bT (bm.ratio 10 11).lt (j9 bj ar i)).length<=i:=by rw[nO];exact n
 have a:bT (bm.ratio 10 11).lt (j9 bj ar (i+1))=ef (bm.ratio 10 11).lt (pw (ci bB i)) (bT (bm.ratio 10 11).lt (j9 bj ar i)):=by
  have:j9 bj ar (i+1)=j9 bj ar i++[pw (ci bB i)]:=by simp only[j9];rw[aI ⟨M,G⟩]
  rw[this,aok]
 generalize bT (bm.ratio 10 11).lt (j9 bj ar i)=l at*;refine uD (λF=>∃k:Nat,F=[.i k]/\k<=Y l/\∀(j:Nat)(Q:j<Y l),k<=j->(bm.ratio 10 11).lt (pw (ci bB i)) l[j]=J) (λF=>(xi F 0).toNat) ⟨Y l,rfl,ae,λj Q e=>ae⟩ ?_;rintro _ ⟨k,rfl,N,w⟩;have v:(∀Q:k-1<Y l,0<k->(bm.ratio 10 11).lt (pw (ci bB i)) l[k-1]=E)->bT (bm.ratio 10 11).lt (j9 bj ar (i+1))=l.take k++pw (ci bB i)::l.drop k:=λe=>by rw[a];exact aol (NH 10 11) d x b N w e
 simp[xi];refine aG (λH=> ?_) (λH=> ?_);rw[Lu H ae];refine⟨ae, ?_⟩;obtain⟨m,m1,u⟩:=A l[k-1] (pA ae);have X:∀j<14,bS (bQ l ((k-1:Nat):Int) j).val=ci bB m j:=λj Q=>by
  have:bS (bQ l ((k-1:Nat):Int) j).val=aN j l[k-1]:=by simp[bQ,aN,show k-1<Y l from ae]
  rw[this,u,vV _ _ Q]
 rw[X 0 ae,X 1 ae,X 2 ae,X 3 ae,X 4 ae,X 5 ae,X 6 ae,X 7 ae,X 8 ae,X 9 ae,X 10 ae,X 11 ae,X 12 ae,X 13 ae];have s:=awN (ci bB i) (ci bB m);simp only[lN,ci,fG,gr] at s;have D:=awO (V.ES i W).from_ (V.ES m ae).from_;have f3:=V.ids m i m1 W;have B:(bm.ratio 10 11).lt (pw (ci bB i)) l[k-1]=decide (ci bB i 10*ci bB m 11<ci bB m 10*ci bB i 11):=by
  simp only[bm.lt,u];rw[vV _ _ ae,vV _ _ ae,vV _ _ ae,vV _ _ ae]
 simp only[ci] at D f3 B⊢;rw[bu s];simp;refine aG (λg=> ?_) (λg=> ?_);rw[Lu H ae,uC];refine⟨⟨k-1,rfl,ae,λj Q e=> ?_⟩,dF⟩;by_cases ej:j=k-1;subst ej;rw[B];rcases g with g|g;exact decide_eq_true (D.1.1 (tH g));have:=tH g.2;omega;exact w j Q ae;have e:=v (λ_ _=>by
  rw[B];exact decide_eq_false λq=>g (.inl (decide_eq_true (D.1.2 q))))
 refine⟨N,ae,N,ae, ?_⟩;rw[cJ W h.sg.sm,e];rfl;have e:=v (λ_ q=>aY q H);refine⟨N,ae,N,ae, ?_⟩;rw[cJ W h.sg.sm,e];rfl
def awQ(h:gU)(bj ar:Int):TB.Ev 179 (wk++[.i bj,.i ar]) (.ret [.r (bK (fy bj ar)),.i (gV bj ar)]):=by
 refine gA ?_;have P:=r40 h;have M:=(CZ AU h).2;simp only[wk] at P;simp[acE,wk,h.rl.len,bu P];refine aG (λX=> ?_) (λX=> ?_)
 case refine_2=>simp[fy,gV,X]
 have V:=M X;have H:=V.nr;have G:=V.br;rw[show aU .sub I (Y aX.aj:Int) 1=Y aX.aj-1 by simp only[aU];rw[ew ae ae],show aU .sub I eW 1=eW-1 by simp only[aU];rw[ew ae ae]];have N:=awP h V bj ar;simp only[wk,fG,gr] at N;have W:¬(0<=bj/\bj<=Y aX.aj-1/\0<=ar/\ar<=eW-1)->bK []=bK (fy bj ar)/\1=gV bj ar:=λH=>by
  have Q:gV bj ar=1:=by
   simp only[gV,X,cS];rw[aK];simp only[az,Pf];omega
  exact⟨by rw[fy,aK ae],Q.symm⟩
 refine aG (λa=>aG (λb=>W ae) (λb=>aG (λc=>aG (λd=>W ae) (λd=> ?_)) (λc=>W ae))) (λa=>W ae);have Q:gV bj ar=0:=by
  simp only[gV,X,cS];rw[aI];simp only[az,Pf];omega
 rw[bu N];simp[fy,Q]
end
def AX(c:Nat->Int)(x y z:Int)(b:Bool):Prop:=x=c 0/\(if b=J then y=0/\z=0 else if c 4=3\/c 4=4\/c 4=5 then(0<=y/\y<=8)/\1<=z/\z<=3 else if c 4=9 then y=0/\1<=z/\z<=3 else y=0/\z=0)
def C1(c:Nat->Int)(r:RV)(k:Nat):Prop:=AX c (ci r k 0) (ci r k 1) (ci r k 2) (cb r k 3)
abbrev kR(l:ax):ax:=bT (bm.lex [0] E).lt l
def zk(l:ax)(r:RV):Prop:=Y l=Y r.aj/\∀k<Y l,C1 (fQ (kR l) k) r k
section
variable{R:bo->Prop}{G:aQ}{t:T}{O:ak}{L:dj}
def awR(c:Nat->Int)(x y z:Int)(b:Bool):∃o,TB.Ev 120 (lN c++[.i x,.i y,.i z,.b b]) o/\∃e,o=.ret [.b e]/\(e=J<->AX c x y z b):=by
 refine fj ?_;simp[aci,lN,AX];cases b
 all_goals
  simp
  repeat'(refine aG (λ_=> ?_) (λ_=> ?_))
  all_goals grind [jb]
def awS(c:Nat->Int)(j:Nat)(h:j<14):aN j (pw c)=c j:=by
 match j,h with
 |0,_|1,_|2,_|3,_|4,_|5,_|6,_|7,_|8,_|9,_|10,_|11,_|12,_|13,_=>rfl
structure vW(l:ax):Prop where
 n:Y l<=4096
 k:AT l
 m:∀x∈l,∃c,x=pw c
def vW.rw{l:ax}(h:vW l){i:Nat}(X:i<Y l):pw (fQ l i)=l[i]:=by
 obtain⟨c,W⟩:=h.m l[i] (pA X);have:∀j<14,fQ l i j=c j:=λj V=>by
  have:fQ l i j=aN j l[i]:=by simp[fQ,bQ,aN,X]
  rw[this,W,awS _ _ V]
 rw[W];simp only[pw];rw[this 0 ae,this 1 ae,this 2 ae,this 3 ae,this 4 ae,this 5 ae,this 6 ae,this 7 ae,this 8 ae,this 9 ae,this 10 ae,this 11 ae,this 12 ae,this 13 ae]
def AY{l:ax}(X:W<Y l)(j:Nat):fQ l W j=aN j l[W]:=by simp[fQ,bQ,aN,X]
def vW.by{l:ax}(h:vW l):vW (kR l):=⟨by rw[nO];exact h.n,h.k.perm (AS _),λx X=>h.m x ((AS _).mem_iff.1 X)⟩
def vW.to{l:ax}{i:Nat}(X:i<Y l):∃k<Y l,∀j,fQ (kR l) k j=fQ l i j:=by
 have V:l[i]∈kR l:=(AS _).mem_iff.2 (pA X);obtain⟨k,W,e⟩:=aeU V;have Q:k<Y l:=by rwa [nO] at W
 exact⟨k,Q,λj=>by rw[AY W,AY X,e]⟩
def vW.from(N:W<Y P):∃i<Y P,∀j,fQ (kR P) W j=fQ P i j:=by
 have X:W<(kR P).length:=by rwa [nO]
 have Q:(kR P)[W]∈P:=(AS _).mem_iff.1 (pA X);obtain⟨i,V,e⟩:=aeU Q;exact⟨i,V,λj=>by rw[AY X,AY V,e]⟩
def vW.inj{l:ax}(h:vW l){a b:Nat}(X:a<Y l)(W:b<Y l)(e:fQ l a 0=fQ l b 0):a=b:=by
 rcases Nat.lt_trichotomy a b with q|q|q;exact aY (by rw[<-AY X,<-AY W];exact e) (LO.1 h.k a b X W q);exact q;exact aY (by rw[<-AY X,<-AY W];exact e.symm) (LO.1 h.k b a W X q)
def AX.congr(e:∀j,X j=Q j){b:Bool}:AX X V M F b<->AX Q V M F b:=by
 have:X=Q:=funext e;rw[this]
variable[Inhabited cX]
def aom(bj ar:Int)(h:gU):vW (fy bj ar):=
 ⟨avG (CZ AU h).2,avF (CZ AU h).2,λx X=>by
  obtain⟨k,-,e,-⟩:=avE (CZ AU h).2 X;exact⟨_,e⟩⟩
structure EW(bj ar:Int)(r:RV)(e:Int):Prop where
 c:gV bj ar≠0->e=gV bj ar
 k:gV bj ar=0->Er (zk (fy bj ar) r) 270 e
def EW.eq{bj ar:Int}{r:RV}{e W:Int}(h:EW bj ar r e)(V:EW bj ar r W):e=W:=by
 by_cases X:gV bj ar=0;exact(h.k X).eq (V.k X);rw[h.c X,V.c X]
def x85(h:gU)(bj ar:Int)(r:RV)(N:Sl r):∃o,TB.Ev 42 (wk++[.i bj,.i ar,.r r]) o/\∃e,o=.ret [.i e]/\EW bj ar r e:=by
 by_cases V:fy bj ar=[];refine⟨_,avR AU h bj ar r N V,_,rfl,λX=>by rw[aI X],λX=> ?_⟩;rw[aK ae,V];split;rename_i A;exact Er.ok ⟨dF,λk Q=>aY Q ay⟩;rename_i A;exact Er.no λp=>A (by have:=p.1;simp at this;omega)
 have V:=Wh.2 V;refine fj ?_;have z:=e77 AU h bj ar;have H:=aom bj ar h;have y:∀e,EW bj ar r e<->(gV bj ar≠0->e=gV bj ar)/\(gV bj ar=0->Er (zk (fy bj ar) r) 270 e):=λe=>⟨λq=>⟨q.c,q.k⟩,λq=>⟨q.1,q.2⟩⟩
 simp only[y];clear y;simp only[wk,fG,gr] at z;generalize fy bj ar=l at*;generalize gV bj ar=e at*;simp[U9,wk,bu z,N.len];refine aG (λX=> ?_) (λX q=>aY q X);have x:¬zk l r->(¬e=0->270=e)/\(e=0->Er (zk l r) 270 270):=λp=>⟨λq=>aY X q,λ_=>Er.no p⟩
 refine aG (λM=> ?_) (λM=>x λp=>M (by have:=p.1;omega));have M:Y l=Y r.aj:=ae;have hn:=H.n;rw[adb];refine⟨.inl rfl,λ_=> ?_,λh=> ?_,λ_ h=> ?_⟩;simp;refine⟨ae, ?_⟩
 first|rw[Pd]|rw[Pe]
 refine⟨_,avx dF (by simpa using H.k), ?_⟩;simp;have w:(bT (bm.lex [0] E).lt l).length=Y l:=nO;refine cT (Y l) (λi G=>∃v,G=[.r (bK v)]/\Y v<=i/\∀k<i,∃q<Y l,fQ (kR l) q 0=fQ l k 0/\C1 (fQ l k) r q) ⟨0,rfl,ae,[],rfl,ay,ae⟩ ?_;rintro i _ W ⟨v,rfl,ab,u⟩;simp;refine aG (λW=> ?_) (λW=> ?_);refine⟨W, ?_⟩;refine cT (Y l) (λj G=>G=[.r (bK v)]/\∀q<j,¬(fQ (kR l) q 0=fQ l i 0/\C1 (fQ l i) r q)) ⟨0,rfl,ae,rfl,ae⟩ ?_;rintro j _ P ⟨rfl,d⟩;have F:∀q<j,fQ (kR l) q 0=fQ l i 0->¬C1 (fQ l i) r q:=λq D a b=>d q D ⟨a,b⟩
 simp[N.len];refine aG (λP=>⟨P,aG (λg=>⟨ae, ?_⟩) (λg=> ?_)⟩) (λP=>x λp=> ?_);obtain⟨o,s,b,rfl,m⟩:=awR (fQ l i) (ci r j 0) (ci r j 1) (ci r j 2) (cb r j 3);simp only[lN,fQ,ci,cb,fG,gr] at s;rw[bu s];simp[cJ P (show Y l<=140737488355328 from ae),cJ W (show Y l<=140737488355328 from ae)];refine aG (λB=> ?_) (λB=> ?_);exact⟨by rw[N.len];omega,ae,_,rfl,dF,lQ u ⟨j,P,g,m.1 B⟩⟩;exact lQ F λ_ q=>B (m.2 q)
 rw[cJ P ae];exact⟨rfl,lQ F λe=>aY e g⟩;obtain⟨k,Q,e⟩:=vW.to W;exact F k ae (e 0) ((AX.congr e).1 (p.2 k Q));have aa:i=Y l:=ae;subst aa;refine⟨λq=>aY X q,λ_=>Er.ok ⟨M,λk Q=> ?_⟩⟩;obtain⟨i,W,f⟩:=vW.from Q;obtain⟨q,D,e2,e3⟩:=u i W;have:q=k:=H.by.inj (by rw[w];exact D) (by rw[w];exact Q) (by rw[e2,f]);subst this;exact(AX.congr f).2 e3;simp at h;simp[h] at V;simp at h;simp[h] at V
def awU(x y:aH):(bm.lex [0] E).lt x y=decide (aN 0 x<aN 0 y):=by
 simp only[bm.lt,jq]
 grind
def awV(l:ax)(B:vW l)(r:RV)(A:Sl r):∃o,TB.Ev 180 [.r (bK l),.r r] o/\∃b,o=.ret [.b b]/\(b=J<->zk l r):=by
 refine fj ?_;simp[acF,A.len];have d:=B.n;refine aG (λV=> ?_) (λV p=>V (by have:=p.1;omega));have V:Y l=Y r.aj:=ae;refine cT (Y l) (λi P=>P=[.r (bK (kR (l.take i)))]) ⟨0,rfl,ae,rfl⟩ ?_;rintro i _ X rfl;simp;refine aG (λX=> ?_) (λX=> ?_);have c:(kR (l.take i)).length<=i:=by rw[nO,De];omega
 have N:gw (bm.lex [0] E).lt (kR (l.take i)):=Cd (JO [0] E) (l:=l.take i) (λz a=>rfl);have s:kR (l.take (i+1))=ef (bm.lex [0] E).lt l[i] (kR (l.take i)):=by
  rw[<-List.take_append_getElem X,kR,aok]
 have m:=B.rw X;generalize kR (l.take i)=v at*;refine uD (λM=>∃k:Nat,M=[.i k]/\k<=Y v/\∀(j:Nat)(Q:j<Y v),k<=j->(bm.lex [0] E).lt l[i] v[j]=J) (λM=>(xi M 0).toNat) ⟨Y v,rfl,ae,λj Q e=>ae⟩ ?_;rintro _ ⟨k,rfl,W,y⟩;have x:(∀Q:k-1<Y v,0<k->(bm.lex [0] E).lt l[i] v[k-1]=E)->kR (l.take (i+1))=v.take k++l[i]::v.drop k:=λe=>by rw[s];exact aol (JO [0] E) rfl (λ_ _=>rfl) N W y e
 simp[xi];have w:kR (l.take (i+1))=v.take k++l[i]::v.drop k->bK (v.take k++pw (fQ l i)::v.drop k)=bK (kR (l.take (i+1))):=λe=>by rw[e,m]
 refine aG (λH=>⟨X, ?_⟩) (λH=> ?_);rw[Lu H ae];have u:(bm.lex [0] E).lt l[i] v[k-1]=decide (bS (bQ l (i:Int) 0).val<bS (bQ v ((k-1:Nat):Int) 0).val):=by
  rw[awU,<-AY X,<-AY (l:=v) ae];rfl
 refine⟨ae,aG (λg=> ?_) (λg=> ?_)⟩;rw[uC];refine⟨⟨k-1,rfl,ae,λj Q e=> ?_⟩,dF⟩;by_cases h:j=k-1;subst h;rw[u];exact decide_eq_true g;exact y j Q ae;have e:=x (λ_ _=>by rw[u];exact decide_eq_false g);refine⟨W,ae,X,ae,W,ae, ?_⟩;rw[cJ X ae,<-w e];rfl;have e:=x (λ_ q=>aY q H);refine⟨W,ae,X,ae,W,ae, ?_⟩;rw[cJ X ae,<-w e];rfl;have G:i=Y l:=ae;subst G;rw[List.take_length];have N:(kR l).length=Y l:=nO;refine cT (Y l) (λi P=>P=[]/\∀k<i,C1 (fQ (kR l) k) r k) ⟨0,rfl,ae,rfl,ae⟩ ?_;rintro i _ X ⟨rfl,W⟩;simp[N,A.len];refine aG (λX=>⟨X,ae, ?_⟩) (λX=> ?_)
 ·simp[cJ X (show Y l<=140737488355328 from ae)];have f:C1 (fQ (kR l) i) r i<->AX (fQ (kR l) i) (ci r i 0) (ci r i 1) (ci r i 2) (cb r i 3):=Iff.rfl;have F:¬C1 (fQ (kR l) i) r i->¬zk l r:=λq p=>q (p.2 i X)
  have D:C1 (fQ (kR l) i) r i->∀k<i+1,C1 (fQ (kR l) k) r k:=lQ W;rw[f] at F D;simp only[AX,fQ,ci,cb] at F D
  repeat'(refine aG (λ_=> ?_) (λ_=> ?_))
  all_goals first|(apply F;grind)|(apply D;grind)
 have G:i=Y l:=ae;subst G;exact⟨V,W⟩
def r95(h:gU)(bj ar:Int)(r:RV)(P:Sl r):∃o,TB.Ev 141 (wk++[.i bj,.i ar,.r r]) o/\∃e,o=.ret [.i e]/\EW bj ar r e:=by
 refine fj ?_;have V:=awQ h bj ar;obtain⟨o,N,b,rfl,Q⟩:=awV _ (aom bj ar h) r P;simp only[wk,fG,gr] at V;have M:∀e,EW bj ar r e<->(gV bj ar≠0->e=gV bj ar)/\(gV bj ar=0->Er (zk (fy bj ar) r) 270 e):=λe=>⟨λq=>⟨q.c,q.k⟩,λq=>⟨q.1,q.2⟩⟩
 simp only[M];simp[T95,wk,bu V];refine aG (λX=> ?_) (λX=> ?_);simp[bu N];refine aG (λW=>⟨λq=>aY X q,λ_=>Er.ok (Q.1 W)⟩) (λW=>⟨λq=>aY X q,λ_=>Er.no λp=>W (Q.2 p)⟩);exact λq=>aY q X
def Lv(bj ar:Int)(r:RV):Int:=oi 42 (wk++[.i bj,.i ar,.r r]) 0
def aon(h:gU)(bj ar:Int)(r:RV)(X:Sl r):TB.Ev 42 (wk++[.i bj,.i ar,.r r]) (.ret [.i (Lv bj ar r)])/\EW bj ar r (Lv bj ar r):=vU (x85 h bj ar r X)
def f95(h:gU)(bj ar:Int)(r:RV)(X:Sl r):TB.Ev 141 (wk++[.i bj,.i ar,.r r]) (.ret [.i (Lv bj ar r)]):=by
 obtain⟨o,W,e,rfl,V⟩:=r95 h bj ar r X;rw[(aon h bj ar r X).2.eq V];exact W
end
section
variable{R:bo->Prop}{G:aQ}{t:T}{O:ak}{L:dj}
variable[Inhabited cX]
def awY(x y f X W V Q P N M H G F:Int):Er (EU x y f X W V Q P N M H G F) 260 (ET x y f X W V Q P N M H G F):=by
 have D:∃o,TB.Ev 29 [.i x,.i y,.i f,.i X,.i W,.i V,.i Q,.i P,.i N,.i M,.i H,.i G,.i F] o/\∃e,o=.ret [.i e]/\(e=0\/e=260):=by
  refine fj ?_;simp[O8]
 have h:=avS x y f X W V Q P N M H G F;refine⟨h.2,λp=> ?_⟩;rcases(vU D).2 with e|e;exact aY (h.1 e) p;exact e
def r94(x y f X W V Q P N M H G F:Int):TB.Ev 92 [.i x,.i y,.i f,.i X,.i W,.i V,.i Q,.i P,.i N,.i M,.i H,.i G,.i F] (.ret [.i (ET x y f X W V Q P N M H G F)]):=by
 suffices s:∃o,TB.Ev 92 [.i x,.i y,.i f,.i X,.i W,.i V,.i Q,.i P,.i N,.i M,.i H,.i G,.i F] o/\∃e,o=.ret [.i e]/\Er (EU x y f X W V Q P N M H G F) 260 e by
  obtain⟨o,h,e,rfl,r⟩:=s;rw[(awY x y f X W V Q P N M H G F).eq r];exact h
 refine fj ?_;simp[T94];have D:¬EU x y f X W V Q P N M H G F->Er (EU x y f X W V Q P N M H G F) 260 260:=Er.no;refine aG (λq=> ?_) (λq=>D λp=>by have:=p.x;omega);refine aG (λa2=>D λp=>by have:=p.x;omega) (λa2=> ?_);refine aG (λn=> ?_) (λn=>D λp=>by have:=p.y;omega);refine aG (λm=>D λp=>by have:=p.y;omega) (λm=> ?_);refine aG (λa5=> ?_) (λa5=>D λp=>by have:=p.f;omega);refine aG (λa6=>D λp=>by have:=p.f;omega) (λa6=> ?_);refine cT 5 (λi l=>l=[]/\(0<i->Lm X W)/\(1<i->Lm V Q)/\(2<i->Lm P N)/\(3<i->Lm M H)/\(4<i->Lm G F)) ⟨0,rfl,ae,rfl,ae,ae,ae,ae,ae⟩ ?_;rintro i _ j ⟨rfl,B,A,z,w,v⟩;have k:i=0\/i=1\/i=2\/i=3\/i=4\/i=5:=ae;rcases k with rfl|rfl|rfl|rfl|rfl|rfl
 case inr.inr.inr.inr.inr=>simp;exact Er.ok ⟨ae,ae,ae,B ae,A ae,z ae,w ae,v ae⟩
 all_goals
  simp;have u:EU x y f X W V Q P N M H G F->Lm X W/\Lm V Q/\Lm P N/\Lm M H/\Lm G F:=λp=>⟨p.m0,p.m1,p.m2,p.m3,p.m4⟩
  simp only[Lm] at u B A z w v⊢
  repeat'(refine aG (λ_=> ?_) (λ_=> ?_))
  any_goals(refine D λp=> ?_;have:=u p;omega)
  all_goals
   rw[uC]
   first
    |refine⟨⟨1,rfl,ae,rfl, ?_⟩,od⟩;omega
    |refine⟨⟨2,rfl,ae,rfl, ?_⟩,od⟩;omega
    |refine⟨⟨3,rfl,ae,rfl, ?_⟩,od⟩;omega
    |refine⟨⟨4,rfl,ae,rfl, ?_⟩,od⟩;omega
    |refine⟨⟨5,rfl,ae,rfl, ?_⟩,od⟩;omega
@[simp] def c94 (x y f X W V Q P N M H F D:Int):iT TB.Ev R 92 [.i x,.i y,.i f,.i X,.i W,.i V,.i Q,.i P,.i N,.i M,.i H,.i F,.i D] G t O L=iU TB.Ev R (.ret [.i (ET x y f X W V Q P N M H F D)]) G t O L:=bu (r94 x y f X W V Q P N M H F D)
end
def nxT:T->T
 |.bz _ t=>t
 |.aW _ _ f=>f
 |t=>t
def Vq:Nat->T->T
 |0,t=>t
 |n+1,t=>Vq n (nxT t)
section
variable{R:bo->Prop}{G:aQ}{t:T}{O:ak}{L:dj}
variable[Inhabited cX]
def Lw(v:RV)(q:Nat):Int:=ET (ci v q 0) (ci v q 1) (ci v q 2) (ci v q 3) (ci v q 4) (ci v q 5) (ci v q 6) (ci v q 7) (ci v q 8) (ci v q 9) (ci v q 10) (ci v q 11) (ci v q 12)
structure Vr(ca kn op:RV)(i:Nat):Prop where
 one:1<=(cr 74 kn i).aj.length
 two:(cr 74 kn i).aj.length<=2
 opn:(cr 74 kn i).aj.length=2<->ci op i 0≠0
 ne:(cr 74 kn i).aj.length=2->∃j<13,ci (cr 74 kn i) 0 j≠ci (cr 74 kn i) 1 j
 gQ:∀q<(cr 74 kn i).aj.length,Lw (cr 74 kn i) q=0
 ar:ci op i 0≠0->0<=aU .sub I (ci op i 0) 1/\aU .sub I (ci op i 0) 1<Y ca.aj/\bS (bQ ca.aj (aU .sub I (ci op i 0) 1) 0).val≠0
def aw0{X V:RV}{dX:Int}{cl:Bool}(u:Sl N)(s:Sl X)(p:Sl V)(P:W<Y X.aj)(m:W<Y V.aj)(M:Sl (cr 74 X W))(H:1<=(cr 74 X W).aj.length)(G:(cr 74 X W).aj.length<=2)(F:(cr 74 X W).aj.length=2<->ci V W 0≠0)(D:(cr 74 X W).aj.length=2->∃j<13,ci (cr 74 X W) 0 j≠ci (cr 74 X W) 1 j):
  T.wp TB.Ev (λo=>o=.ret [.b E]\/o=.ret [.b J]/\Vr N X V W) (Vq 8 Lj) ⟨[dX,W],[cl],[N,X,V],[]⟩ []:=by
 simp only[Lj,Vq,nxT];have e:=M.len;simp only[cr] at e;refine cT (cr 74 X W).aj.length (λn l=>l=[]/\∀q<n,Lw (cr 74 X W) q=0) ⟨0,rfl,ae,rfl,λW P=>ae⟩ ?_;rintro q _ f ⟨rfl,B⟩;simp[u.len,s.len,p.len,P,m,e];refine aG (λA=>⟨A, ?_⟩) (λd=> ?_);intro k;rw[cJ (n:=(cr 74 X W).aj.length) (show q<(cr 74 X W).aj.length from A) M.sm];refine⟨rfl,λr z=> ?_⟩;by_cases g:r=q;subst g;exact k;exact B r ae;have y:∀q<(cr 74 X W).aj.length,Lw (cr 74 X W) q=0:=λr z=>B r (by simp only[cr] at z;omega)
 refine aG (λx=>⟨H,G,F,D,y,λh=>aY x h⟩) (λx w v=>⟨⟨w,v⟩, ?_⟩);by_cases Q:bS (bQ N.aj (aU .sub I (bS (bQ V.aj (W:Int) 0).val) 1) 0).val=0;exact .inl Q;exact .inr ⟨Q,H,G,F,D,y,λ_=>⟨w,v,Q⟩⟩
def aw1{V Q:RV}{dX:Int}{cl:Bool}(F:Sl N)(D:Sl V)(B:Sl Q)(A:W<Y V.aj)(z:W<Y Q.aj)(y:Sl (cr 74 V W)):∃o,TB.Ev 54 [.r N,.i dX,.r V,.r Q,.b cl,.i W] o/\∃b,o=.ret [.b b]/\(b=J->Vr N V Q W):=by
 refine fj ?_;have e:=y.len;simp only[cr] at e;have l:=λP M H w=>aw0 (dX:=dX) (cl:=cl) F D B A z y P M H w
 simp only[Lj,Vq,nxT] at l;simp[Lj,F.len,D.len,B.len,A,z,e];intro s q G;have P:1<=(cr 74 V W).aj.length:=by simp only[cr];omega
 have M:(cr 74 V W).aj.length<=2:=by simp only[cr];omega
 have H:(cr 74 V W).aj.length=2<->ci Q W 0≠0:=by
  rw[tG] at G;simp only[dv,bne_iff_ne] at G;simp only[cr,ci];rw[<-G];omega
 refine aG (λx=>⟨ae,ae,λv=> ?_⟩) (λx=> ?_);refine l P M H λ_=> ?_
 apply Classical.byContradiction;intro X;have X:∀j<13,ci (cr 74 V W) 0 j=ci (cr 74 V W) 1 j:=λj u=>Classical.byContradiction λh=>X ⟨j,u,h⟩
 simp only[ci,cr] at X;exact v (X 0 ae) (X 1 ae) (X 2 ae) (X 3 ae) (X 4 ae) (X 5 ae) (X 6 ae) (X 7 ae) (X 8 ae) (X 9 ae) (X 10 ae) (X 11 ae) (X 12 ae);exact l P M H λh=>aY (by simp only[cr] at h;omega) x

variable{a c d g k ca kn op:RV}{dX:Int}{cl:Bool}
structure aEn(ca kn op:RV):Prop where
 ca:Sl ca
 kn:Sl kn
 op:Sl op
structure AZ(d g ca kn op:RV)(dX:Int):Prop where
 calls:Y ca.aj<=Y g.aj
 cast:0<=dX/\dX<Y d.aj
 HJ:Y kn.aj=Y aX.aj
 HL:Y op.aj=Y aX.aj
 call:∀i<Y ca.aj,0<=ci ca i 0/\ci ca i 0<=(cr 108 g i).aj.length
 kno:∀i<Y kn.aj,Vr ca kn op i
def aw2(h:gU)(s:uE a c d g k)(W:Sl ca)(X:Sl kn)(H:Sl op)(A:∀i<Y kn.aj,Sl (cr 74 kn i)):∃o,TB.Ev 23 (gI a c d g k++[.r ca,.i dX,.r kn,.r op,.b cl]) o/\∃b,o=.ret [.b b]/\(b=J->AZ d g ca kn op dX):=by
 refine fj ?_;simp[acU,gI,wk,W.len,X.len,H.len,s.sr.len,s.sc.len,h.rl.len];intro u z y q p;refine cT (Y ca.aj) (λn V=>V=[]/\∀i<n,0<=ci ca i 0/\ci ca i 0<=(cr 108 g i).aj.length) ⟨0,rfl,ae,rfl,λi G=>ae⟩ ?_;rintro i _ G ⟨rfl,F⟩;simp[W.len,X.len,s.sr.len];refine aG (λQ=> ?_) (λm=> ?_);have e:=(s.HI i ae).len;simp only[cr] at e;simp only[e];refine⟨Q,λx=>⟨Q,ae,λw=> ?_⟩⟩;rw[cJ Q W.sm];refine⟨rfl,λr P=> ?_⟩;by_cases N:r=i;subst N;exact⟨x,w⟩;exact F r ae;refine cT (Y kn.aj) (λn V=>V=[]/\∀i<n,Vr ca kn op i) ⟨0,rfl,ae,rfl,λi G=>ae⟩ ?_;rintro j _ l ⟨rfl,D⟩;simp[X.len];refine aG (λM=> ?_) (λf=> ?_);obtain⟨o,B,b,rfl,v⟩:=aw1 (dX:=dX) (cl:=cl) W X H M ae (A j M);cases b;simp[bu B];simp[bu B];rw[cJ M X.sm];refine⟨rfl,λr P=> ?_⟩;by_cases N:r=j;subst N;exact v rfl;exact D r ae;exact⟨ae,⟨z,y⟩,ae,ae,λr P=>F r ae,λr P=>D r ae⟩
end
section
variable[Inhabited cX]
end
section
variable{R:bo->Prop}{G:aQ}{t:T}{O:ak}{L:dj}
variable[Inhabited cX]
def Vs(x:Nat->Int)(v:ax)(n:Nat):Prop:=∀i<n,Po x v (i+1) 13=0
def axT(X:zk P N):∃v,anU P N (Y P) v:=by
 suffices h:∀n≤Y P,∃v,anU P N n v from h _ (cd _)
 intro n;induction n with
 |zero=>exact λ_=>⟨[],rfl,λi M=>ae⟩
 |succ n W=>
  intro H;obtain⟨v,V⟩:=W ae;obtain⟨k,Q,e⟩:=vW.to (l:=P) (i:=n) ae;have:=(X.2 k Q).1;exact⟨_,V.add (k:=k) (by have:=X.1;omega) (by rw[this,e])⟩

def Vt(e:Int):bn:=[.i 0,.i 0,.i 0,.i 0,.i 0,.i 0,.i 0,.i 0,.i 0,.i 0,.i 0,.i 0,.i 0,.i e]
def stE(s:Nat->Int):bn:=[.i (s 0),.i (s 1),.i (s 2),.i (s 3),.i (s 4),.i (s 5),.i (s 6),.i (s 7),.i (s 8),.i (s 9),.i (s 10),.i (s 11),.i (s 12),.i 0]
structure EnE(bj ar:Int)(x:Nat->Int)(r:RV)(ys:bn):Prop where
 c:gV bj ar≠0->ys=Vt (gV bj ar)
 p:gV bj ar=0->¬rS x->ys=Vt 260
 m:gV bj ar=0->rS x->¬zk (fy bj ar) r->ys=Vt 270
 w:gV bj ar=0->rS x->zk (fy bj ar) r->∀v,anU (fy bj ar) r (fy bj ar).length v->(¬Vs x v (fy bj ar).length->ys=Vt 2)/\(Vs x v (fy bj ar).length->ys=stE (Po x v (fy bj ar).length))
def EnE.eq{D B:bn}(h:EnE V M X N D)(H:EnE V M X N B):D=B:=by
 by_cases W:gV V M=0;by_cases Q:rS X;by_cases P:zk (fy V M) N;obtain⟨v,G⟩:=axT P;by_cases F:Vs X v (fy V M).length;rw[(h.w W Q P v G).2 F,(H.w W Q P v G).2 F];rw[(h.w W Q P v G).1 F,(H.w W Q P v G).1 F];rw[h.m W Q P,H.m W Q P];rw[h.p W Q,H.p W Q];rw[h.c W,H.c W]
end
section
variable{R:bo->Prop}{G:aQ}{t:T}{O:ak}{L:dj}
def EX(n:Int):Prop:=(97<=n/\n<=122)\/(65<=n/\n<=90)
def aw4(n:Int):∃o,TB.Ev 103 [.i n] o/\∃e,o=.ret [.i e]/\(e=2<->EX n)/\(e=3<->48<=n/\n<=57)/\(e=5<->n=95):=by
 refine fj ?_;simp[U5,EX]
 repeat'(refine aG (λ_=> ?_) (λ_=> ?_))
 all_goals first|omega|(simp;omega)
def HM(n:Int):Prop:=EX n\/(48<=n/\n<=57)\/n=95
structure Lx(s:RV):Prop where
 l:1<=lenOf s.val/\lenOf s.val<=32
 f:EX (kg s.val 0)
 c:∀i:Nat,(i:Int)<lenOf s.val->HM (kg s.val i)
def f207(n:Int):(oi 103 [.i n] 0=2<->EX n)/\(oi 103 [.i n] 0=3<->48<=n/\n<=57)/\(oi 103 [.i n] 0=5<->n=95):=(vU (aw4 n)).2
def aoo(V:tq N):∃n:Nat,lenOf N.val=n/\(sy N.val (.string {data:= #[]})=J<->n=0):=by
 obtain⟨u,X⟩:=V;refine⟨u.size,by rw[X];rfl, ?_⟩;rw[X];simp only[sy];constructor;intro h;have W:u.toList=(ByteArray.mk #[]).toList:=by simpa using h
 rw[ByteArray.toList_eq,ByteArray.toList_eq] at W;have:Y u.data.toList=0:=by rw[W];rfl
 simpa using this;intro h;have Q:u=ByteArray.empty:=by simpa using h
 rw[Q];simp only[dv];rfl
def aw5(s:RV)(M:tq s):∃o,TB.Ev 68 [.r s] o/\∃b,o=.ret [.b b]/\(b=J<->Lx s):=by
 obtain⟨n,V,Q⟩:=aoo M;have X:=λi=>f207 (kg s.val i)
 refine fj ?_;simp[U4,V];refine aG (λe p=>by have:=p.l;have:=Q.1 e;omega) (λe=>aG (λH p=>by have:=p.l;omega) (λH=> ?_));have B:n≠0:=λq=>e (Q.2 q)
 refine⟨ae,aG (λf=> ?_) (λf p=>f ((X 0).1.2 p.f))⟩;have f:=(X 0).1.1 f;refine cT n (λi G=>G=[]/\∀k<i,HM (kg s.val k)) ⟨0,rfl,ae,rfl,ae⟩ ?_;rintro i _ W ⟨rfl,P⟩;simp[V];refine aG (λW=> ?_) (λW=> ?_)
 ·have N:HM (kg s.val i)<->oi 103 [.i (kg s.val i)] 0=2\/oi 103 [.i (kg s.val i)] 0=3\/oi 103 [.i (kg s.val i)] 0=5:=by
   rw[(X i).1,(X i).2.1,(X i).2.2];rfl
  have F:¬HM (kg s.val i)->¬Lx s:=λq p=>q (p.c i ae)
  simp[cJ W (show n<=140737488355328 from ae),W]
  repeat'(refine aG (λ_=> ?_) (λ_=> ?_))
  all_goals first|(exact lQ P (N.2 (by grind)))|(apply F;rw[N];grind)
 have D:i=n:=ae;subst D;exact⟨ae,f,λk A=>P k ae⟩
def aw6(s:RV)(P:tq s):∃o,TB.Ev 86 [.r s] o/\∃b,o=.ret [.b b]/\(b=J<->Lx s):=by
 obtain⟨n,W,F⟩:=aoo P;refine fj ?_;simp[acA,W];refine aG (λe p=>by have:=p.l;omega) (λe=>aG (λN p=>by have:=p.l;omega) (λN=>⟨ae, ?_⟩));have D:∀t:T,True:=λ_=>trivial
 repeat'(refine aG (λ_=> ?_) (λ_=> ?_))
 any_goals(intro p;have:=p.f;simp only[EX] at this;omega)
 all_goals
  have f:EX (kg s.val 0):=by simp only[EX];omega
  refine cT n (λi M=>M=[]/\∀k<i,HM (kg s.val k)) ⟨0,rfl,ae,rfl,ae⟩ ?_;rintro i _ X ⟨rfl,V⟩;simp[W];refine aG (λX=> ?_) (λX=> ?_)
  ·have Q:HM (kg s.val i)<->((97<=kg s.val i/\kg s.val i<=122)\/(65<=kg s.val i/\kg s.val i<=90))\/(48<=kg s.val i/\kg s.val i<=57)\/kg s.val i=95:=Iff.rfl;have H:¬HM (kg s.val i)->¬Lx s:=λq p=>q (p.c i ae)
   simp[cJ X (show n<=140737488355328 from ae),X]
   repeat'(refine aG (λ_=> ?_) (λ_=> ?_))
   all_goals first|(exact lQ V (Q.2 ae))|(apply H;rw[Q];omega)
  have G:i=n:=ae;subst G;exact⟨ae,f,λk B=>V k ae⟩
def adB(s:RV)(X:tq s):TB.Ev 68 [.r s] (.ret [.b (ob 68 [.r s] 0)])/\(ob 68 [.r s] 0=J<->Lx s):=mkb (aw5 s X)
def f233(s:RV)(X:tq s):TB.Ev 86 [.r s] (.ret [.b (ob 68 [.r s] 0)]):=by
 obtain⟨o,h,b,rfl,W⟩:=aw6 s X;have:b=ob 68 [.r s] 0:=tG.2 (W.trans (adB s X).2.symm);rw[<-this];exact h
structure HN(s:RV)(a0 a1 a2 a3 a4 a5 a6 a7 a8 a9 a10 gp gq a13 a14 a15:Int):Prop where
 n:Lx s
 w:1<=a0/\a0<=500
 l:0<=a1/\a1<=500
 g:1<=a2/\a2<=4
 s:1<=a3/\a3<=16
 j:0<=a4/\a4<=16
 r:(1<=a5/\a5<=8)/\(1<=a6/\a6<=8)/\1<=a7/\a7<=8
 p:(1<=a8/\a8<=1048576)/\(1<=a9/\a9<=1048576)/\1<=a10/\a10<=1048576
 t:(1<=gp/\gp<=3)/\(1<=gq/\gq<=3)/\1<=a13/\a13<=3
 e:0<=a14/\a14<=1048576
 v:0<=a15/\a15<=1048576
def aw7(s:RV)(F:tq s)(X W a2 V Q a5 a6 a7 a8 P N gp gq M H G:Int):∃o,TB.Ev 49 [.r s,.i X,.i W,.i a2,.i V,.i Q,.i a5,.i a6,.i a7,.i a8,.i P,.i N,.i gp,.i gq,.i M,.i H,.i G] o/\∃e,o=.ret [.i e]/\Er (HN s X W a2 V Q a5 a6 a7 a8 P N gp gq M H G) 250 e:=by
 refine fj ?_;have A:=f233 s F;have D:=(adB s F).2;simp[acB,bu A];have B:¬HN s X W a2 V Q a5 a6 a7 a8 P N gp gq M H G->Er (HN s X W a2 V Q a5 a6 a7 a8 P N gp gq M H G) 250 250:=Er.no
 repeat'(refine aG (λ_=> ?_) (λ_=> ?_))
 all_goals first
  |exact B λp=>aY (D.2 p.n) uM
  |(refine B λp=> ?_;obtain⟨z,y,x,w,v,u,q,m,l,k,j⟩:=p;omega)
  |(refine Er.ok ⟨D.1 uM, ?_, ?_, ?_, ?_, ?_, ?_, ?_, ?_, ?_, ?_⟩<;>omega)
def x75(s:RV)(F:tq s)(X W a2 V Q a5 a6 a7 a8 P N gp gq M H G:Int):∃o,TB.Ev 38 [.r s,.i X,.i W,.i a2,.i V,.i Q,.i a5,.i a6,.i a7,.i a8,.i P,.i N,.i gp,.i gq,.i M,.i H,.i G] o/\∃e,o=.ret [.i e]/\Er (HN s X W a2 V Q a5 a6 a7 a8 P N gp gq M H G) 250 e:=by
 refine fj ?_;have D:=(adB s F).2;simp[U8,anW s F];have B:¬HN s X W a2 V Q a5 a6 a7 a8 P N gp gq M H G->Er (HN s X W a2 V Q a5 a6 a7 a8 P N gp gq M H G) 250 250:=Er.no
 repeat'(refine aG (λ_=> ?_) (λ_=> ?_))
 all_goals first
  |exact B λp=>aY (D.2 p.n) uM
  |(refine B λp=> ?_;obtain⟨A,z,y,x,w,v,u,q,m,l,k⟩:=p;omega)
  |(refine Er.ok ⟨D.1 uM, ?_, ?_, ?_, ?_, ?_, ?_, ?_, ?_, ?_, ?_⟩<;>omega)
def aw9(s:RV)(F:tq s)(X W a2 V Q a5 a6 a7 a8 P N gp gq M H G:Int):Er (HN s X W a2 V Q a5 a6 a7 a8 P N gp gq M H G) 250 (C0 s X W a2 V Q a5 a6 a7 a8 P N gp gq M H G):=(vU (x75 s F X W a2 V Q a5 a6 a7 a8 P N gp gq M H G)).2
def axa(s:RV)(F:tq s)(X W a2 V Q a5 a6 a7 a8 P N gp gq M H G:Int):TB.Ev 49 [.r s,.i X,.i W,.i a2,.i V,.i Q,.i a5,.i a6,.i a7,.i a8,.i P,.i N,.i gp,.i gq,.i M,.i H,.i G] (.ret [.i (C0 s X W a2 V Q a5 a6 a7 a8 P N gp gq M H G)]):=by
 obtain⟨o,h,e,rfl,D⟩:=aw7 s F X W a2 V Q a5 a6 a7 a8 P N gp gq M H G;rw[(aw9 s F X W a2 V Q a5 a6 a7 a8 P N gp gq M H G).eq D];exact h

def axb(a b c d X W V Q:Int):TB.Ev 139 [.i a,.i b,.i c,.i d,.i X,.i W,.i V,.i Q] (.ret [.i (jn (dL a b c d&&dL X W V Q) (min a X)),.i (jn (dL a b c d&&dL X W V Q) (max b W)),.i (jn (dL a b c d&&dL X W V Q) (min c V)),.i (jn (dL a b c d&&dL X W V Q) (max d Q)),.i (if dL a b c d&&dL X W V Q then 0 else 150)]):=by
 refine gA ?_;simp[acH,dL,jn]
 repeat'(refine aG (λ_=> ?_) (λ_=> ?_))
 all_goals grind
def axc(a b c d x y:Int):TB.Ev 175 [.i a,.i b,.i c,.i d,.i x,.i y] (.ret [.i (jn (jc a b c d x y==0) (IntKind.i64.wrap (a+x))),.i (jn (jc a b c d x y==0) (IntKind.i64.wrap (b+x))),.i (jn (jc a b c d x y==0) (IntKind.i64.wrap (c+y))),.i (jn (jc a b c d x y==0) (IntKind.i64.wrap (d+y))),.i (jc a b c d x y)]):=by
 have V:∀p q r s:Int,(dL p q r s=J)=((-1099511627776<=p/\p<=q/\q<=1099511627776)∧-1099511627776<=r/\r<=s/\s<=1099511627776):=λp q r s=>by
  simp only[dL,az,cF,eq_iff_iff];omega
 refine gA ?_;by_cases X:dL a b c d=J;by_cases Q:(-2199023255552<=x/\x<=2199023255552)∧-2199023255552<=y/\y<=2199023255552;by_cases W:dL (IntKind.i64.wrap (a+x)) (IntKind.i64.wrap (b+x)) (IntKind.i64.wrap (c+y)) (IntKind.i64.wrap (d+y))=J
 ·have e:jc a b c d x y=0:=by simp[jc,X,Q,W]
  rw[V] at X W;rw[e];simp[Li,jn,aU,X,Q,W]
  repeat'(refine aG (λ_=> ?_) (λ_=> ?_))
  all_goals first|omega|rfl|(exfalso;omega)
 ·have e:jc a b c d x y=2:=by simp[jc,X,Q,W]
  rw[V] at X W;rw[e];simp[Li,jn,aU,X,Q]
  repeat'(refine aG (λ_=> ?_) (λ_=> ?_))
  all_goals first|omega|rfl|(exfalso;omega)
 ·have e:jc a b c d x y=2:=by
   have:¬((((-2199023255552<=x/\x<=2199023255552)∧-2199023255552<=y)/\y<=2199023255552)):=ae;simp only[jc,X,Wu,iW,ga];rw[aI];simp only[gO,<-aeX,az,cF];omega
  rw[V] at X;rw[e];simp[Li,jn,aU,X]
  repeat'(refine aG (λ_=> ?_) (λ_=> ?_))
  all_goals first|omega|rfl|(exfalso;omega)
 ·have e:jc a b c d x y=150:=by simp[jc,X]
  rw[V] at X;rw[e];simp[Li,jn,aU]
  repeat'(refine aG (λ_=> ?_) (λ_=> ?_))
  all_goals first|omega|rfl|(exfalso;omega)
@[simp] def aEp (a b c d X W V Q:Int):iT TB.Ev R 139 [.i a,.i b,.i c,.i d,.i X,.i W,.i V,.i Q] G t O L=iU TB.Ev R (.ret [.i (jn (dL a b c d&&dL X W V Q) (min a X)),.i (jn (dL a b c d&&dL X W V Q) (max b W)),.i (jn (dL a b c d&&dL X W V Q) (min c V)),.i (jn (dL a b c d&&dL X W V Q) (max d Q)),.i (if dL a b c d&&dL X W V Q then 0 else 150)]) G t O L:=bu (axb a b c d X W V Q)
@[simp] def aEq (a b c d x y:Int):iT TB.Ev R 175 [.i a,.i b,.i c,.i d,.i x,.i y] G t O L=iU TB.Ev R (.ret [.i (jn (jc a b c d x y==0) (IntKind.i64.wrap (a+x))),.i (jn (jc a b c d x y==0) (IntKind.i64.wrap (b+x))),.i (jn (jc a b c d x y==0) (IntKind.i64.wrap (c+y))),.i (jn (jc a b c d x y==0) (IntKind.i64.wrap (d+y))),.i (jc a b c d x y)]) G t O L:=bu (axc a b c d x y)

def adN{n:Nat}{X y:aH}:∀{m:ax},y∈iF n X m->y=X\/y∈m
 |[],h=>by simp[iF] at h;exact .inl h
 |r::W,h=>by
  simp only[iF] at h;split at h;rcases dP.1 h with h|h;exact .inl h;exact .inr (by simp[h]);rcases dP.1 h with h|h;exact .inr (by simp[h]);rcases adN h with h|h;exact .inl h;exact .inr (by simp[h])
def apE{r:aH}(X:Y H=4)(W:Y r=4):kY 3 ((H.take 3).map λc=>bS c.val) r=J<->∀c∈[0,1,2],aN c r=aN c H:=by
 match H,X,r,W with
 |[a,b,c,d],_,[V,R,Q,P],_=>simp[kY,aN]
structure axd(m:ax):Prop where
 keys:av3 [0,1,2] m
 four:∀x∈m,Y x=4
def axd.nil:axd []:=⟨xK,ay⟩
def axd.ins{O:aH}(R:Y O=4):∀{m:ax},axd m->axd (iF 3 O m)
 |[],_=>⟨by simp[iF,av3],by simp[iF,R]⟩
 |r::M,h=>by
  have g:=jL.1 h.keys;have L:axd M:=⟨g.2,λx X=>h.four x (by simp[X])⟩;have H:=axd.ins R L;have N:=apE R (h.four r ay);refine⟨?_,λx X=> ?_⟩;simp only[iF];split;rename_i W;have W:=N.1 W;refine jL.2 ⟨λy V=> ?_,g.2⟩;obtain⟨c,Q,P⟩:=g.1 y V;exact⟨c,Q,by rw[<-W c Q];exact P⟩;rename_i W;refine jL.2 ⟨λy V=> ?_,H.keys⟩;rcases adN V with rfl|V;have:¬∀c∈[0,1,2],aN c r=aN c y:=λG=>W (N.2 G)
  simp only[Classical.not_forall] at this;obtain⟨c,Q,P⟩:=this;exact⟨c,Q,P⟩;exact g.1 y V;rcases adN X with rfl|X;exact R;exact h.four x X
variable[Inhabited cX]
@[simp] def aEr (v:RV) (X W V Q P N M H F D B A z y x w:Int):iT TB.Ev R 38 [.r (ee .str v),.i X,.i W,.i V,.i Q,.i P,.i N,.i M,.i H,.i F,.i D,.i B,.i A,.i z,.i y,.i x,.i w] G t O L=iU TB.Ev R (.ret [.i (C0 (ee .str v) X W V Q P N M H F D B A z y x w)]) G t O L:=c75 _ (anV v) X W V Q P N M H F D B A z y x w
def o27(X W V Q P N M H G F D B A:Int)(s:RV)(z y x w v u q p o n m l j h g f:Int)(k:Nat):Int:=oi 102 [.i X,.i W,.i V,.i Q,.i P,.i N,.i M,.i H,.i G,.i F,.i D,.i B,.i A,.r s,.i z,.i y,.i x,.i w,.i v,.i u,.i q,.i p,.i o,.i n,.i m,.i l,.i j,.i h,.i g,.i f] k
def Pu(X:RV)(i:Nat):Int:=C0 (ee .str (bQ X.aj (i:Int) 0)) (ci X i 1) (ci X i 2) (ci X i 3) (ci X i 4) (ci X i 5) (ci X i 6) (ci X i 7) (ci X i 8) (ci X i 9) (ci X i 10) (ci X i 11) (ci X i 12) (ci X i 13) (ci X i 14) (ci X i 15) (ci X i 16)
def s74(v:RV)(i:Nat):Int:=ET (ci v i 0) (ci v i 1) (ci v i 2) (ci v i 3) (ci v i 4) (ci v i 5) (ci v i 6) (ci v i 7) (ci v i 8) (ci v i 9) (ci v i 10) (ci v i 11) (ci v i 12)
def mA(v X:RV)(i k:Nat):Int:=o27 (ci v i 0) (ci v i 1) (ci v i 2) (ci v i 3) (ci v i 4) (ci v i 5) (ci v i 6) (ci v i 7) (ci v i 8) (ci v i 9) (ci v i 10) (ci v i 11) (ci v i 12) (ee .str (bQ X.aj (i:Int) 0)) (ci X i 1) (ci X i 2) (ci X i 3) (ci X i 4) (ci X i 5) (ci X i 6) (ci X i 7) (ci X i 8) (ci X i 9) (ci X i 10) (ci X i 11) (ci X i 12) (ci X i 13) (ci X i 14) (ci X i 15) (ci X i 16) k
def m85(ar:Int)(X:RV)(i:Nat):Int:=oi 42 (wk++[.i i,.i ar,.r (cr 104 X i)]) 0
def m89(ar:Int)(X W:RV)(i k:Nat):Int:=oi 100 (wk++[.i i,.i ar,.i (ci X i 0),.i (ci X i 1),.i (ci X i 2),.i (ci X i 3),.i (ci X i 4),.i (ci X i 5),.i (ci X i 6),.i (ci X i 7),.i (ci X i 8),.i (ci X i 9),.i (ci X i 10),.i (ci X i 11),.i (ci X i 12),.r (cr 104 W i)]) k
def m90(ar:Int)(W X V:RV)(i k:Nat):Int:=oi 101 (wk++[.i i,.i ar,.i (ci W i 0),.i (ci W i 1),.i (ci W i 2),.i (ci W i 3),.i (ci W i 4),.i (ci W i 5),.i (ci W i 6),.i (ci W i 7),.i (ci W i 8),.i (ci W i 9),.i (ci W i 10),.i (ci W i 11),.i (ci W i 12),.r (ee .str (bQ X.aj (i:Int) 0)),.i (ci X i 1),.i (ci X i 2),.i (ci X i 3),.i (ci X i 4),.i (ci X i 5),.i (ci X i 6),.i (ci X i 7),.i (ci X i 8),.i (ci X i 9),.i (ci X i 10),.i (ci X i 11),.i (ci X i 12),.i (ci X i 13),.i (ci X i 14),.i (ci X i 15),.i (ci X i 16),.r (cr 104 V i)]) k
def gS(ar:Int)(W X V:RV)(i k:Nat):Int:=if cb W i 0 then m89 ar X V i k else ci X i k
def gB(ar:Int)(V X W Q:RV)(i k:Nat):Int:=if cb V i 0 then m90 ar X W Q i k else mA X W i k
structure aEs(aX wg bd mv bf af re bx:RV):Prop where
 wg:Sl wg
 bd:Sl bd
 mv:Sl mv
 bf:Sl bf
 af:Sl af
 rsl:Sl re
 bx:Sl bx
 jf:∀i<Y re.aj,Sl (cr 104 re i)/\(cr 104 re i).aj.length<=100
structure aor(ar:Int)(wg bd mv bf af re bx:RV):Prop where
 wk:kQ=0
 nw:Y wg.aj<=8
 br:0<=ar/\ar<eW
 laf:Y af.aj=Y aX.aj
 lbx:Y bx.aj=Y aX.aj
 lbd:Y bd.aj=Y aX.aj
 lmv:Y mv.aj=Y aX.aj
 lbf:Y bf.aj=Y aX.aj
 lre:Y re.aj=Y aX.aj
 gQ:∀i<Y aX.aj,Pu bd i=0/\s74 bf i=0/\(if cb mv i 0 then m85 ar re i=0 else(cr 104 re i).aj=[])
 box:∀i<Y aX.aj,vB bx i=J/\s74 af i=0
 pth:∀g<Y wg.aj,p9 (ci wg g) ar 4=0
def Vu(ar:Int)(Q X W V:RV)(i:Nat):Prop:=if cb Q i 0 then m89 ar X V i 13=0/\m90 ar X W V i 4=0 else mA X W i 4=0
def Fst(v:RV)(id:Int)(m:Nat):Prop:=m<Y v.aj/\ci v m 0=id/\∀X<m,ci v X 0≠id
def m78(X:RV)(id:Int)(i:Nat):bn:=out 185 (wk++[.i id,.r (ee .str (bQ X.aj (i:Int) 0)),.i (ci X i 1),.i (ci X i 2),.i (ci X i 3),.i (ci X i 4),.i (ci X i 5),.i (ci X i 6),.i (ci X i 7),.i (ci X i 8),.i (ci X i 9),.i (ci X i 10),.i (ci X i 11),.i (ci X i 12),.i (ci X i 13),.i (ci X i 14),.i (ci X i 15),.i (ci X i 16)])
def axj(ar:Int)(X W V Q P:RV)(c:Nat->Int):Bool:=ob 187 (wk++[.i ar,.r X,.r W,.r V,.r Q,.r P]++lN c) 0
def axk(ar:Int)(W V Q P X N:RV)(i k:Nat):Prop:=∀m,Fst (cr 104 X i) (fQ (fy i ar) k 0) m->
 xi (m78 W (fQ (fy i ar) k 0) i) 1=0/\
 ob 186 [.r (xr (m78 W (fQ (fy i ar) k 0) i) 0),.i (ci (cr 104 X i) m 0),.i (ci (cr 104 X i) m 1),.i (ci (cr 104 X i) m 2),.b (cb (cr 104 X i) m 3)] 0=J/\
 (fQ (fy i ar) k 4=7\/fQ (fy i ar) k 4=8->cb (cr 104 X i) m 3=J\/axj ar V Q P X N (fQ (fy i ar) k)=J)
def adG(ar:Int)(X W V:RV)(i:Nat):bn:=out 188 (wk++[.i i,.i ar,.i (ci X i 0),.i (ci X i 1),.i (ci X i 2),.i (ci X i 3),.i (ci X i 4),.i (ci X i 5),.i (ci X i 6),.i (ci X i 7),.i (ci X i 8),.i (ci X i 9),.i (ci X i 10),.i (ci X i 11),.i (ci X i 12),.r W,.r (cr 104 V i)])
structure axm(ar:Int)(bd mv bf af re bx:RV)(i:Nat):Prop where
 aft:∀j<13,ci af i j=gS ar mv bf re i j
 inb:dL (gB ar mv bf bd re i 0) (gB ar mv bf bd re i 1) (gB ar mv bf bd re i 2) (gB ar mv bf bd re i 3)=J/\vB bx i=J
 ins:anK (gB ar mv bf bd re i 0) (gB ar mv bf bd re i 1) (gB ar mv bf bd re i 2) (gB ar mv bf bd re i 3) (ci bx i 0) (ci bx i 1) (ci bx i 2) (ci bx i 3)=J
 ES:cb mv i 0=J->(∀k<(fy i ar).length,axk ar bd mv bf af re bx i k)/\xi (adG ar bf bd re i) 1=0/\(xr (adG ar bf bd re i) 0).aj=[]
def HO(ar:Int):bn:=out 75 (wk++[.i ar])
def exR(v X:RV):Nat->ax
 |0=>[]
 |i+1=>exR v X i++[[.mk (.int I (mA v X i 0)) [],.mk (.int I (mA v X i 1)) [],.mk (.int I (mA v X i 2)) [],.mk (.int I (mA v X i 3)) []]]
def stB(v X:RV)(i k:Nat):Bool:=dL (mA v X i 0) (mA v X i 1) (mA v X i 2) (mA v X i 3)&&dL (mA v X k 0) (mA v X k 1) (mA v X k 2) (mA v X k 3)&&HG (mA v X i 0) (mA v X i 1) (mA v X i 2) (mA v X i 3) (mA v X k 0) (mA v X k 1) (mA v X k 2) (mA v X k 3)
structure aEw(ar:Int)(wg bd mv bf af re bx:RV):Prop where
 ex:aor ar wg bd mv bf af re bx
 bld:∀i<Y aX.aj,Vu ar mv bf bd re i
 ro:∀i<Y aX.aj,axm ar bd mv bf af re bx i
 prs:xi (HO ar) 1=0
 st1:∀i<Y aX.aj,mA bf bd i 4=0
 st2:∀i<Y aX.aj,mA af bd i 4=0
 cl:av1 wg ar bx (bK (exR bf bd (Y aX.aj))) (xr (HO ar) 0)
 Pp:∀p<(xr (HO ar) 0).aj.length,stB bf bd (ci (xr (HO ar) 0) p 0).toNat (ci (xr (HO ar) 0) p 1).toNat=J/\stB af bd (ci (xr (HO ar) 0) p 0).toNat (ci (xr (HO ar) 0) p 1).toNat=J
def aBN{j:Nat}(h:Y P=W):bQ (P++[H]) (W:Int) j=H.getD j default:=by
 subst h;simp[bQ]
def aBO{w:ax}{j:Nat}(h:W<Y P):bQ (P++w) (W:Int) j=bQ P (W:Int) j:=by
 simp[bQ,dU h]
end
def T.at:aw->T->T
 |[],t=>t
 |0::p,.aW _ t _=>t.at p
 |_::p,.aW _ _ f=>f.at p
 |_::p,.bz _ t=>t.at p
 |_::p,.call _ _ _ _ _ _ t=>t.at p
 |_::p,.loop _ _ _ t=>t.at p
 |_::p,.new _ _ _ _ t=>t.at p
 |_::p,.aj _ _ _ t=>t.at p
 |0::p,.gE _ _ t _=>t.at p
 |_::p,.gE _ _ _ f=>f.at p
 |0::p,.pick _ _ _ t _=>t.at p
 |_::p,.pick _ _ _ _ f=>f.at p
 |_::p,.dO _ _ _ _ _ _ _ t=>t.at p
 |_,t=>t
section
variable{R:bo->Prop}{G:aQ}{t:T}{O:ak}{L:dj}
variable[Inhabited cX]
structure Bx(l0 h0 l1 h1:Int)(L H L' H':Int):Prop where
 a:L<=l0
 b:h0<=H
 c:L'<=l1
 d:h1<=H'
 e:-1099511627776<=L
 f:H<=1099511627776
 g:-1099511627776<=L'
 h:H'<=1099511627776
end
section
variable{R:bo->Prop}{G:aQ}{t:T}{O:ak}{L:dj}
def axo{d:Int}:dL V M F d=J<->(-1099511627776<=V/\V<=M/\M<=1099511627776)∧-1099511627776<=F/\F<=d/\d<=1099511627776:=by
 simp only[dL,az,cF];omega
end
section
variable[Inhabited cX]
end
section
variable{R:bo->Prop}{G:aQ}{t:T}{O:ak}{L:dj}
variable[Inhabited cX]
def aZ(X:RV)(k:Nat):Int:=C0 (ee .str (bQ X.aj (k:Int) 0)) (ci X k 1) (ci X k 2) (ci X k 3) (ci X k 4) (ci X k 5) (ci X k 6) (ci X k 7) (ci X k 8) (ci X k 9) (ci X k 10) (ci X k 11) (ci X k 12) (ci X k 13) (ci X k 14) (ci X k 15) (ci X k 16)
structure RgP(ar:Int)(bd mv bf re:RV):Prop where
 b:Y bd.aj=Y aX.aj/\∀k<Y bd.aj,aZ bd k=0
 m:Y mv.aj=Y aX.aj
 f:Y bf.aj=Y aX.aj
 r:Y re.aj=Y aX.aj
 k:∀k<Y aX.aj,rS (ci bf k)/\(cb mv k 0=E->(cr 104 re k).aj.length=0)/\(cb mv k 0=J->Lv k ar (cr 104 re k)=0)
end
section
variable[Inhabited cX]
def mvB(c:Nat->Int)(j:Int):Bool:=decide ((c 4=1/\j=c 5-1)\/(c 4=2/\(j=0\/j=1))\/(c 4=3/\j=c 5-1)\/(c 4=4/\j=c 5+1)\/(c 4=5/\j=4)\/(c 4=7/\(j=2\/j=3))\/(c 4=8/\(j=0\/j=1))\/(c 4=9/\j=c 5+1))

def ptV(n d f l:Int)(j:Nat):Int:=aU .mul I n (oi 155 [.i (oi 154 [.i d,.i f] 0),.i l] j)

end
section
variable{R:bo->Prop}{G:aQ}{t:T}{O:ak}{L:dj}
variable[Inhabited cX]
def fgF(v:ax):Nat->Nat->Bool
 |0,_=>E
 |i+1,0=>fgF v i 0||(!jp (bQ v i 17).val&&decide (fQ v i 4=6))
 |i+1,j+1=>fgF v i (j+1)||(!jp (bQ v i 17).val&&mvB (fQ v i) j)
def A4(F:Nat->Bool)(X:Nat->Int)(g:Int)(x:Nat->Int):Nat->Nat->Int
 |0,j=>if j%2=0 then aU .sub I 0 (aU .mul I 841 g) else aU .mul I 841 g
 |n+1,j=>if F (1+n)=E/\x (4+2*n)=0 then A4 F X g x n j
  else if F (1+n)=J\/F 0=J then(if j%2=0 then min (A4 F X g x n j) (aU .sub I 0 (aU .mul I 841 (X n))) else max (A4 F X g x n j) (aU .mul I 841 (X n)))
  else if j%2=0 then min (A4 F X g x n j) (ptV (X n) (x (3+2*n)) (x 2) (x (4+2*n)) (j/2)) else max (A4 F X g x n j) (ptV (X n) (x (3+2*n)) (x 2) (x (4+2*n)) (j/2))
def aBZ{F W:Nat->Bool}(h:∀k<6,F k=W k):∀n≤5,∀j,A4 F X V Q n j=A4 W X V Q n j:=by
 intro n;induction n with
 |zero=>intro _ j;rfl
 |succ n P=>
  intro N j;simp only[A4,P ae,h (1+n) ae,h 0 ae]
structure FgQ(f0 f1 f2 f3 g:Int)(rc:Nat->Int)(F:Nat->Bool)(x:Nat->Int)(n:Nat):Prop where
 fg:Fg f0 f1 f2 f3
 e0:f0=A4 F rc g x n 0
 e1:f1=A4 F rc g x n 1
 e2:f2=A4 F rc g x n 2
 e3:f3=A4 F rc g x n 3
def FgQ.A6{P g:Int}{W N:Nat->Bool}(h:FgQ V M F P g X W Q 5)(e:∀k<6,W k=N k):FgQ V M F P g X N Q 5:=by
 refine⟨h.fg, ?_, ?_, ?_, ?_⟩<;>rw[<-aBZ e 5 ae];exact h.e0;exact h.e1;exact h.e2;exact h.e3

end
