/- Part 8 of the proof. -/
import Derived.Test.YtfpoabmmjhhncaaGreatDoorQ7
set_option linter.all false
set_option maxRecDepth 100000
set_option maxHeartbeats 100000000
open Bool renaming eq_iff_iff->uF,eq_false_iff->axy,true->J,false->E
open List renaming getD_eq_getElem?_getD->cw,getElem?_eq_getElem->ce,getElem?_append_left->dF,map_cons->ep,cons_append->gA,map_congr_left->jh,nil_append->gU,range->e8,getElem_mem->pN,length_map->o8,mem_range->vZ,append_assoc->BD,map_nil->xU,find?_cons->Ga,map_append->JG,map->xV,length->Y
open Nat renaming le_trans->pP,lt_of_le_of_ne->NJ
open Option renaming some->U
open Go.IntKind renaming i64->I
namespace Go.Proofs.YtfpoabmmjhhncaaGreatDoor.Y
open Go.RowKit
noncomputable section
variable{Q:Int}{X:Nat→Bool}{W:Nat}{V:RV}
section
variable{R:aU->Prop}{G:aI}{t:T}{O:ai}{L:cG}
variable[Inhabited cm]
structure Ab(n:Nat)(ar:Int)(bd mv bf re:RV)(vs vr vb:aq):Prop where
 ls:Y vs=n
 lr:Y vr=n
 lb:Y vb=n
 al:∀k<n,bz vr (k:Int) 0=eo (cr 64 re k).ae/\SF vs k=13/\SF vb k=4/\SC ar mv bf bd re k/\(∀j<13,bF (bz vs (k:Int) j).val=gS ar mv bf re k j)/\∀j<4,bF (bz vb (k:Int) j).val=gB ar mv bf bd re k j
end
def dE(X:aq)(g:Int):Bool:=match gD 1 [g,0,0] X with
 |U W=>iF (W.getD 1 default).val
 |none=>E
def Jr(g:Int)(X:aC):jJ 1 [g,0,0] X=decide ((X.take 1).map (λc=>bF c.val)=[g]):=rfl
section
open Classical in
section
variable{m:aq}{a d l:RV}{n:Nat}
end
section
variable[Inhabited cm]
end
end
section
variable{R:aU->Prop}{G:aI}{t:T}{O:ai}{L:cG}

variable[Inhabited cm]
variable{a c d g b:RV}
def WgP(a:RV):Prop:=∀i<Y a.ae,∀ar:Nat,(ar:Int)<hJ->mS (ci a i) ar 4=0
structure Na(ar:Int)(mv re:RV):Prop where
 lm:Y mv.ae=Y aM.ae
 lr:Y re.ae=Y aM.ae
 grp:∀i<Y aM.ae,∀k<Y aM.ae,Cn (xJ ar) i k->cb mv i 0=cb mv k 0
 els:∀i<Y aM.ae,cb mv i 0=E->(cr 64 re i).ae=[]
 gF:∀i<Y aM.ae,cb mv i 0=J->M4 i ar (cr 64 re i)=0
end
section
variable{R:aU->Prop}{G:aI}{t:T}{O:ai}{L:cG}
variable[Inhabited cm]
variable{a c d g e:RV}
def Js(b:RV)(i:Nat):RV:=dl (.sl 4) (bz b.ae i 0)
def Dq(b:RV)(i:Nat):RV:=dl (.sl 58) (bz b.ae i 1)
structure ajJ(g:RV):Prop where
 len:(Y g.ae:Int)=hJ
 xH:∀k<Y g.ae,∀i<(cr 62 g k).ae.length,Na k (Js (cr 62 g k) i) (Dq (cr 62 g k) i)
structure zN(a c d g e:RV):Prop where
 wk:lR=0
 Nb:Mny a c d g
 bds:∀i<Y c.ae,M6 c i=0
 wgs:WgP a
 dO:Cst c d
 Jt:ajJ g
 SI:Cns e
end
section
variable{R:aU->Prop}{G:aI}{t:T}{O:ai}{L:cG}
def Nc(x g:Int)(b:Bool):∀P:aq,dE (eL 1 [RV.mk (.int I x) [],RV.mk (.bool b) []] P) g=if g=x then b else dE P g
 |[]=>by
  by_cases h:g=x;subst h;simp[dE,eL,gD,Jr,bF,iF];have V:¬x=g:=λe=>h e.symm
  simp[dE,eL,gD,Jr,bF,h,V]
 |r::X=>by
  have N:=Nc x g b X;have M:(xV (λc:RV=>bF c.val) (List.take 1 [RV.mk (.int I x) [],RV.mk (.bool b) []]))=[x]:=rfl;by_cases W:(r.take 1).map (λc=>bF c.val)=[x];have Q:eL 1 [RV.mk (.int I x) [],RV.mk (.bool b) []] (r::X)=[RV.mk (.int I x) [],RV.mk (.bool b) []]::X:=by
   simp only[eL,M,jJ];rw[aE (by simpa using W)]
  rw[Q];by_cases h:g=x;subst h;simp[dE,gD,Jr,bF,iF];have V:¬x=g:=λe=>h e.symm
  simp only[dE,gD,Ga,Jr,W,h];simp[bF,V];have Q:eL 1 [RV.mk (.int I x) [],RV.mk (.bool b) []] (r::X)=r::eL 1 [RV.mk (.int I x) [],RV.mk (.bool b) []] X:=by
   simp only[eL,M,jJ];rw[aJ (by simpa using W)]
  rw[Q];by_cases h:(r.take 1).map (λc=>bF c.val)=[g];have H:¬g=x:=λe=>W (by rw[h,e])
  simp only[dE,gD,Ga,Jr,h,H];simp;simp only[dE,gD,Ga,Jr,h] at N⊢;simpa using N
def FV{c:Prop}[Decidable c]{a b:Prop}(h:c)(k:a):if c then a else b:=by rw[aE h];exact k
def zO{c:Prop}[Decidable c]{a b:Prop}(h:¬c)(k:b):if c then a else b:=by rw[aJ h];exact k
variable[Inhabited cm]
variable{l u w d y:RV}
def ajK{v:aq}(h:xK v (xJ Q)):Jq v=xJ Q:=by
 funext a b;refine propext ((Iff.trans ?_ (h.iff a b)));constructor;rintro⟨x,X,W,V⟩;have:=h.ok x X;exact⟨x,X,aa,aa⟩;rintro⟨x,X,W,V⟩;exact⟨x,X,aa,aa⟩
def ash(h:jT)(s:qA l u w d y)(p:zN l u w d y):TB.Ev 20 (eZ l u w d y) (.ret [.i 0]):=by
 have hw:=(zK xF h).2 p.wk;have af:=(zK xF h).1;rw[p.wk] at af;have M:=p.Nb;have ms:=M.wg;have m2:=M.rl;have m3:=M.bd;have m4:=M.cs;have m5:=M.bars;refine Zi rfl rfl (.inr λv=>nofun) ?_;simp only[wk,eZ,gA,gU] at af;simp[R8,eZ,wk,dC af,s.sw.len,s.sb.len,s.sc.len,s.sr.len,s.so.len,h.rl.len];refine⟨aa,aa,aa,aa,aa, ?_⟩;have lO:=p.Jt.len;refine em (Y d.ae) (λn W=>W=[]) ⟨0,rfl,aa,rfl⟩ ?_;rintro i _ hi rfl;simp[s.sr.len];refine cY (λX=> ?_) (λa9=> ?_);have e:=(s.xG i X).len;have e2:=M.br i X;simp only[cr] at e e2;simp only[e];refine⟨X,aa, ?_⟩;rw[du X s.sr.sm];refine em (Y u.ae) (λn W=>W=[]) ⟨0,rfl,aa,rfl⟩ ?_;rintro i2 _ ba rfl;simp[s.sb.len,s.sc.len,s.sr.len];refine cY (λX=> ?_) (λbb=> ?_);have e:=p.bds i2 X;simp only[M6,ci] at e;simp[X,e,du X s.sb.sm];have c0:=p.dO.ari;refine⟨aa,aa, ?_⟩;refine em (Y w.ae) (λn W=>W=[]) ⟨0,rfl,aa,rfl⟩ ?_;rintro A _ bc rfl;simp[s.sb.len,s.sc.len,s.sr.len,h.rl.len];refine cY (λX=> ?_) (λbf=> ?_);have G:=s.Zo A X;have e:=p.dO.len A X;have g:=arp G (Y u.ae) (p.dO.idx A X) (p.dO.apart A X);have e4:=G.len;simp only[cr] at g e4 e;simp[X,e4,e,dC g,du X s.sc.sm];refine em (Y d.ae) (λn W=>W=[]) ⟨0,rfl,aa,rfl⟩ ?_;rintro k _ hk rfl;simp[s.sr.len];refine cY (λH=>⟨H, ?_⟩) (λbg=> ?_);have G:=s.xG k H;have eS:=G.len;have pg:=s.xH k H;have pp:=p.Jt.xH k H;generalize hB:cr 62 d k=B at G eS pg pp;have al:dl (.sl 62) (bz d.ae k 0)=B:=hB;refine em (Y l.ae) (λn W=>W=[]) ⟨0,rfl,aa,rfl⟩ ?_;rintro i4 _ bk rfl;simp[s.sw.len];refine cY (λX=> ?_) (λbl=> ?_);have ag:=f25 (ci l i4) k;have e:=p.wgs i4 X k aa;rw[e] at ag;simp only[Jh,ci,gA,gU] at ag;simp[X,dC ag,du X s.sw.sm];obtain⟨v,a0,hv,hU⟩:=ZE h k p.wk (by simp[k9];omega);obtain⟨o,an,hr⟩:=ZJ h k a0 (λx hx=>by have:=hU.ok x hx;omega) hv aa;rcases hr with⟨hz,-⟩|⟨-,m,rfl,c⟩;exact bp rfl hz;simp only[wk,gA,gU] at an;simp[dC an];refine em (Y B.ae) (λn W=>W=[]) ⟨0,rfl,aa,rfl⟩ ?_;rintro b _ bs rfl;simp[s.sr.len,H,al,eS,h.rl.len];refine cY (λN=> ?_) (λbt=>by rw[du H s.sr.sm]);obtain⟨mv,a⟩:∃mv,dl (.sl 4) (bz B.ae b 0)=mv:=⟨_,rfl⟩;obtain⟨re,eR⟩:∃re,dl (.sl 58) (bz B.ae b 1)=re:=⟨_,rfl⟩;have P:Na k mv re:=by rw[<-a,<-eR];exact pp b N
 obtain⟨p1,p2,p3⟩:=pg b N;rw[a] at p1;rw[eR] at p2 p3;simp only[a,eR];have k1:=p1.len;have k2:=p2.len;have lm:=P.lm;have lr:=P.lr;have ml:Y m=Y aM.ae:=c.len;refine⟨N,aa,aa, ?_⟩;refine em (Y aM.ae) (λn W=>W=[]) ⟨0,rfl,aa,rfl⟩ ?_;rintro V _ bx rfl;simp[s.sr.len,H,al,N,a,eR,k1,k2,eS,lm,lr];refine cY (λQ=> ?_) (λb0=>by rw[du N G.sm]);have cn:=c.cn V Q;rw[ajK hU] at cn;have nn:bF (bz m (V:Int) 0).val=(eN m V:Int):=Dp c.ok V aa;have le:=Do c.ok V;have eq:=P.grp V Q (eN m V) aa cn;have f:=(ajn h V k (cr 64 re V) (p3 V aa)).1;have f0:=P.gF V Q;have D:=P.els V Q;have q3:=(p3 V aa).len;simp only[wk,gA,gU,cr] at f f0;simp only[cr] at q3 D;simp only[cb] at eq f0 D;rw[nn];refine⟨aa,aa,⟨aa,aa⟩, ?_⟩;refine⟨eq, ?_⟩;refine cY (λz=>FV z ⟨aa, ?_⟩) (λz=>⟨aa, ?_⟩);rw[f0 z] at f;simp[dC f,du Q (show Y aM.ae<=140737488355328 from aa)];have D:=D (by simpa using z);simp[q3,D,du Q (show Y aM.ae<=140737488355328 from aa)];intro hz;exact bp hz z;refine em (Y bo.ae) (λn W=>∃m,W=[.r (eo m)]/\∀j<n,dE m (ci bo j 0)=decide (ci bo j 3≠1)) ⟨0,rfl,aa,[],rfl,λi hi=>aa⟩ ?_;rintro j _ hj ⟨m,rfl,hm⟩;simp[h.sg.len];refine cY (λQ=>⟨Q, ?_⟩) (λb1=> ?_);rw[du Q h.sg.sm];refine⟨_,rfl,λq hq=> ?_⟩;rw[Nc];by_cases a1:q=j;subst a1;simp only[ci,cH,bne];rfl;have:=hw.ids q j aa Q;rw[aJ (by simp only[ci] at this⊢;omega),hm q aa];simp;have a3:j=Y bo.ae:=aa;subst a3;refine em (Y y.ae) (λn W=>W=[]) ⟨0,rfl,aa,rfl⟩ ?_;rintro F _ b2 rfl;simp[s.so.len];refine λN=>⟨N, ?_⟩
 obtain⟨j,Q,j1,j2⟩:=p.SI.fnd F N;have hl:=hm j Q;have ho:=p.SI.ord F N;rw[j1,decide_eq_true j2] at hl;simp only[dE,cw,ci] at hl;refine⟨hl, ?_⟩;refine cY (λ_=>by rw[du N s.so.sm]) (λb3=> ?_);have hs:=s.so.sm;have a4:bH .sub I (F:Int) 1=((F-1:Nat):Int):=by
  rw[show bH .sub I (F:Int) 1=(F:Int)-1 by simp only[bH];exact nK aa aa];omega
 have ho:=ho aa;simp only[ci] at ho;rw[a4];refine⟨aa,aa, ?_⟩;rw[du N s.so.sm]
end
section
variable{R:aU->Prop}{G:aI}{t:T}{O:ai}{L:cG}
variable[Inhabited cm]
variable{l m d g o c a k:RV}{dO:Int}{cl:Bool}
def asi(h:jT)(s:qA l m d g o)(p:zN l m d g o)(N:Sl c)(M:Sl a)(H:Sl k)(af:∀i<Y a.ae,Sl (cr 93 a i))(f:Dl d g c a k dO):TB.Ev 22 (eZ l m d g o++[.r c,.i dO,.r a,.r k,.b cl]) (.ret [.i 0]):=by
 have w:=ash h s p;have lc:=f.calls;have c0:=f.cast;have lk:=f.knl;have lo:=f.opl;refine Zi rfl rfl (.inr λv=>nofun) ?_;simp only[wk,eZ,gA,gU] at w;simp[R7,eZ,wk,dC w,N.len,M.len,H.len,s.sr.len,s.sc.len,h.rl.len];refine⟨aa,aa,aa,aa,aa, ?_⟩;refine em (Y c.ae) (λn W=>W=[]) ⟨0,rfl,aa,rfl⟩ ?_;rintro i _ hi rfl;simp[N.len,s.sr.len];refine cY (λD=> ?_) (λu=> ?_);have e:=(s.xG i aa).len;have e2:=f.call i D;simp only[cr,ci] at e e2;simp only[e];refine⟨D,aa,aa,aa, ?_⟩;rw[du D N.sm];refine em (Y a.ae) (λn W=>W=[]) ⟨0,rfl,aa,rfl⟩ ?_;rintro j _ hj rfl;simp[N.len,M.len,H.len];intro Q;have G:=af j Q;have F:=G.len;have X:=f.kno j Q;obtain⟨V,hV⟩:∃V,cr 93 a j=V:=⟨_,rfl⟩;have B:dl (.sl 93) (bz a.ae j 0)=V:=hV;obtain⟨k1,k2,A,k4,z,k6⟩:=X;rw[hV] at G F k1 k2 A k4 z;simp only[B,F];refine⟨Q, ?_⟩;by_cases h1:Y V.ae=1;have h0:ci k j 0=0:=Classical.byContradiction λq=>by have:=A.2 q;omega
 simp only[ci] at h0;refine FV aa ⟨aa,FV h0 ?_⟩;refine em (Y V.ae) (λn W=>W=[]) ⟨0,rfl,aa,rfl⟩ ?_;rintro q _ hq rfl;simp[N.len,M.len,H.len,B,F,Q];refine cY (λP=> ?_) (λu=> ?_);have e:=z q P;simp only[M5,ci] at e;simp[P,e,du P G.sm];refine⟨aa,FV aa ?_⟩;rw[du Q M.sm];have h2:Y V.ae=2:=aa;have o0:=A.1 h2;obtain⟨y,x,b3⟩:=k6 o0;have ne:=k4 h2;simp only[ci] at o0 y x b3 ne;refine zO aa ⟨aa,aa,aa, ?_⟩;refine⟨λz0 z1 z2 z3 z4 z5 z6 z7 z8 z9 za zb zc=> ?_, ?_⟩
 ·obtain⟨q,hq,ag⟩:=ne;have:q=0\/q=1\/q=2\/q=3\/q=4\/q=5\/q=6\/q=7\/q=8\/q=9\/q=10\/q=11\/q=12:=aa;rcases this with rfl|rfl|rfl|rfl|rfl|rfl|rfl|rfl|rfl|rfl|rfl|rfl|rfl
  all_goals exact ag DG
 refine em (Y V.ae) (λn W=>W=[]) ⟨0,rfl,aa,rfl⟩ ?_;rintro q _ hq rfl;simp[N.len,M.len,H.len,B,F,Q];refine cY (λP=> ?_) (λu=> ?_);have e:=z q P;simp only[M5,ci] at e;simp[P,e,du P G.sm];refine⟨aa,zO aa ?_⟩;refine⟨y,x,⟨y,x⟩,b3, ?_⟩;rw[du Q M.sm]
end
section
variable{R:aU->Prop}{G:aI}{t:T}{O:ai}{L:cG}
variable[Inhabited cm]
variable{a c d g b e f k:RV}{dO i h j:Int}{l:Bool}
open Classical in
open Classical in
end
section
variable{R:aU->Prop}{G:aI}{t:T}{O:ai}{L:cG}
structure Dk(c a k:RV):Prop where
 sc:Sl c
 sk:Sl a
 so:Sl k
 kk:∀i<Y a.ae,Sl (cr 93 a i)
 k1:∀row∈a.ae,Y row=1
 o1:∀row∈k.ae,Y row=1
variable[Inhabited cm]
variable{c a k:RV}{dO h j:Int}{e:Bool}{r:Nat}
open Classical in
open Classical in
variable{b d f g l:RV}
end
section
variable{R:aU->Prop}{G:aI}{t:T}{O:ai}{L:cG}
variable[Inhabited cm]
variable{a c d g b e f k:RV}{dO:Int}{h:Bool}
end
section
variable{R:aU->Prop}{H:aI}{t:T}{O e:ai}{L:cG}
def oY(O e:ai):Prop:=(∃a,e.i=O.i++a)/\∃b,e.r=O.r++b
def oY.refl:oY O O:=⟨⟨[],au⟩,[],au⟩
def oY.trans{X:ai}(h:oY O e)(k:oY e X):oY O X:=by
 obtain⟨⟨a,W⟩,b,V⟩:=h;obtain⟨⟨c,Q⟩,d,P⟩:=k;exact⟨⟨a++c,by rw[Q,W,BD]⟩,b++d,by rw[P,V,BD]⟩
def oY.add(x:XV):oY O (O.add x):=by
 cases x;exact⟨⟨_,rfl⟩,[],by simp[ai.add]⟩;exact⟨⟨[],by simp[ai.add]⟩,[],by simp[ai.add]⟩;exact⟨⟨[],by simp[ai.add]⟩,_,rfl⟩
def oY.ext:∀(X:aX)(O:ai),oY O (O.ext X)
 |[],_=>.refl
 |x::X,O=>(oY.add x).trans (oY.ext X (O.add x))
def oY.rv(h:oY O e){k:Nat}(X:k<Y O.r):e.rv k=O.rv k:=by
 obtain⟨_,b,W⟩:=h;unfold ai.rv;rw[W];simp[cw,dF X]
structure Lvl(d:Nat)(O:ai)(p:aq)(S:RV):Prop where
 li:Y O.i=12+d
 lr:Y O.r=16+3*d
 lp:Y p=d
 prev:∀j<d,∀e,oY O e->(Zf j).map (C.bN e)=p.getD j []
 cJ:O.rv (Db d)=S
variable[Inhabited cm]
variable{f l n o s g w A:RV}{dO ar:Int}{D:aq->aC}{G:aq->Int}
structure ZK(f l n o s g:RV)(dO ar:Int)(O:ai):Prop where
 a26:∀e,oY O e->(oK [(.agg (Sd++[(.ah (.v 5)),(.ah (.v 6)),(.ah (.v 7)),(.ah (.v 8)),(.ah (.v 9))])),(.int I (.v 6))]).map (C.xv e)=eZ f l n o s++[.i dO]
 ng:∀e,oY O e->∀u z y,(oK [(.agg Sd),(.agg [(.ah (.v 5))]),(.ah (.v u)),(.int I (.len (.v 10))),(.ah (.v 13)),(.ah (.v z)),(.ah (.v y))]).map (C.xv e)=wk++[.r f,.r (e.rv u),.i ar,.r g,.r (e.rv z),.r (e.rv y)]
def ZK.mono(h:ZK f l n o s g dO ar O)(k:oY O e):ZK f l n o s g dO ar e:=⟨λX q=>h.a26 X (k.trans q),λX q=>h.ng X (k.trans q)⟩
structure MkA(f A g w:RV)(ar:Int)(D:aq->aC)(G:aq->Int):Prop where
 ans:∀c:aq,Y c<=64->∃b M F S V B,D c=[.mk (.int I b) [],M,F,S,V,B]/\TB.Ev 90 (wk++[.r f,.r A,.i ar,.r g,.r (eo c),.r w]) (.ret [.i b,.r M,.r F,.r S,.r V,.r B,.i (G c)])
end
section
variable{R:aU->Prop}{G:aI}{t:T}{O:ai}{L:cG}
variable[Inhabited cm]
variable{a j d g l c m n:RV}{dO k:Int}{cl:Bool}
def vQ(g c:RV)(k:Int):Int:=if Y g.ae<=Y c.ae\/k<1\/((cr 62 g (Y c.ae)).ae.length:Int)<k then 1 else 0
def ajL(h:jT)(s:qA a j d g l)(p:zN a j d g l)(D:Dk c m n)(f:Dl d g c m n dO):TB.Ev 16 (eZ a j d g l++[.r c,.i dO,.r m,.r n,.b cl,.i k]) (.ret [.i (vQ g c k)]):=by
 have X:=asi (cl:=cl) h s p D.sc D.sk D.so D.kk f;refine qz ?_;simp only[wk,eZ,gA,gU] at X;simp[Sa,eZ,wk,dC X,D.sc.len,s.sr.len];refine cY (λQ=> ?_) (λQ=> ?_);rw[vQ,aE (.inl aa)];refine cY (λW=> ?_) (λW=> ?_);rw[vQ,aE (.inr (.inl W))];have P:Y c.ae<Y g.ae:=aa;have e:=(s.xG (Y c.ae) P).len;simp only[cr] at e;simp only[e];refine⟨aa,cY (λV=> ?_) (λV=> ?_)⟩;rw[vQ,aE (.inr (.inr (by simpa[cr] using V)))];rw[vQ,aJ (by simp only[cr];omega)]
end
section
variable{R:aU->Prop}{G:aI}{t:T}{O:ai}{L:cG}
variable[Inhabited cm]
variable{a c d g b e h j:RV}{dO k:Int}{l:Bool}
def bR(f:Nat->Bool)(n:Nat):aq:=(e8 n).map λi=>[RV.mk (.bool (f i)) []]
def ajM:(bR X W).length=W:=by simp[bR]
def asj{i:Nat}(V:i<W):iF (bz (bR X W) (i:Int) 0).val=X i:=by
 simp[bz,bR,cw,V,iF]
end
section
variable{R:aU->Prop}{G:aI}{t:T}{O:ai}{L:cG}
variable[Inhabited cm]
variable{a l d g u c w y:RV}{dO k:Int}{cl:Bool}
def ZL(X:vQ g c k=0):Y c.ae<Y g.ae/\1<=k/\k<=(cr 62 g (Y c.ae)).ae.length:=by
 unfold vQ at X;split at X;cases X;omega
def ajN{b:Bool}:bR X W++[[RV.mk (.bool b) []]]=bR (λq=>if q=W then b else X q) (W+1):=by
 simp only[bR,List.range_succ,JG,ep,xU,cH];congr 1;refine jh λq V=> ?_
 have:=vZ.1 V;rw[aJ aa]
def asl(h:jT)(s:qA a l d g u)(p:zN a l d g u)(D:Dk c w y)(f:Dl d g c w y dO)(h0:vQ g c k=0):∃o,TB.Ev 17 (eZ a l d g u++[.r c,.i dO,.r w,.r y,.b cl,.i k]) o/\∃Q,o=.ret [.r (eo (bR Q (Y aM.ae)))]/\∀i<Y aM.ae,Q i=J->cb (Js (cr 62 g (Y c.ae)) (k-1).toNat) i 0=true:=by
 obtain⟨N,a3,a4⟩:=ZL h0;obtain⟨X,rfl⟩:∃X:Nat,k=X+1:=⟨(k-1).toNat,aa⟩;have al:((X:Int)+1-1).toNat=X:=aa;rw[al];have M:X<(cr 62 g (Y c.ae)).ae.length:=aa;have lO:=p.Jt.len;have m2:=p.Nb.rl;have lk:=f.knl;obtain⟨v,an,hv,hU⟩:=ZE h (Y c.ae) p.wk (by simp[k9];omega);obtain⟨o,ag,hr⟩:=ZJ h (Y c.ae) an (λx hx=>by have:=hU.ok x hx;omega) hv aa;rcases hr with⟨hz,-⟩|⟨-,m,rfl,gk⟩;exact bp rfl hz;have ml:Y m=Y aM.ae:=gk.len;have H:Y aM.ae<=140737488355328:=aa;have G:=s.xG (Y c.ae) N;have eS:=G.len;have pg:=s.xH (Y c.ae) N X M;have pp:=p.Jt.xH (Y c.ae) N X M;obtain⟨B,z⟩:∃B,cr 62 g (Y c.ae)=B:=⟨_,rfl⟩;rw[z] at G eS pg pp M;have a0:dl (.sl 62) (bz g.ae (Y c.ae:Int) 0)=B:=z;obtain⟨F,A⟩:∃F,dl (.sl 4) (bz B.ae X 0)=F:=⟨_,rfl⟩;have P:Na (Y c.ae) F (Dq B X):=by rw[<-A];exact pp
 have p1:=pg.1;rw[A] at p1;have k1:=p1.len;have lm:=P.lm;have a1:bH .sub I ((X:Int)+1) 1=(X:Int):=by
  simp only[bH];rw[nK (by have:=G.sm;omega) (by have:=G.sm;omega)];omega
 refine jS ?_;simp only[wk,gA,gU] at ag;simp[Za,eZ,wk,D.sc.len,dC ag];refine em (Y aM.ae) (λi n=>∃x,n=[.r (eo x)]) ⟨0,rfl,aa,[],rfl⟩ ?_;rintro i _ hi ⟨x,rfl⟩;simp[ml,D.sk.len];refine cY (λW=> ?_) (λa9=> ?_);have e:=(D.kk i aa).len;simp only[cr] at e;simp only[e];refine⟨aa,cY (λhd=> ?_) (λhd=> ?_)⟩;rw[du W H];exact⟨W,_,rfl⟩;rw[du W H];exact⟨_,rfl⟩;refine em (Y aM.ae) (λi n=>∃Q,n=[.r (eo (bR Q i))]/\∀q<i,Q q=J->cb F q 0=J) ⟨0,rfl,aa,λ_=>E,rfl,aa⟩ ?_;rintro j _ hj ⟨Q,rfl,af⟩;simp[ml,D.sc.len,s.sr.len,a0,eS,A,k1,lm,a1,ajM];refine cY (λW=> ?_) (λba=> ?_);refine⟨W,N,M,W,cY (λhm=>⟨aa, ?_⟩) (λhm=>⟨aa, ?_⟩)⟩;rw[du W H,ajN];refine⟨_,rfl,λq hq V=> ?_⟩;by_cases e:q=j;subst e;exact hm;rw[aJ e] at V;exact af q aa V;rw[du W H,ajN];refine⟨_,rfl,λq hq V=> ?_⟩;by_cases e:q=j;subst e;simp at V;rw[aJ e] at V;exact af q aa V;have:j=Y aM.ae:=aa;subst this;exact⟨Q,rfl,λq hq V=>by rw[z,Js,A];exact af q hq V⟩
end
section
variable{R:aU->Prop}{G:aI}{t:T}{O:ai}{L:cG}{a b:RV}
end
section
variable{R:aU->Prop}{G:aI}{t:T}{O:ai}{L:cG}
variable[Inhabited cm]
variable{a e d g l c m o:RV}{dO k:Int}{u:Bool}
def iT(X:Nat->Bool)(n:Nat):List Nat:=(e8 n).filter X
def rF(X:Nat->Bool)(n:Nat):aq:=(iT X n).map λi:Nat=>[RV.mk (.int I (i:Int)) []]
def ajO:rF X (W+1)=if X W then rF X W++[[RV.mk (.int I (W:Int)) []]] else rF X W:=by
 simp only[rF,iT,List.range_succ,List.filter_append,JG];cases h:X W<;>simp[List.filter_cons,h]
def ZM{mf:Nat->Bool}{n:Nat}:(iT mf n).length<=n:=by
 have:=List.length_filter_le mf (e8 n);simpa[iT] using this
def asm(h:jT)(s:qA a e d g l)(p:zN a e d g l)(D:Dk c m o)(f:Dl d g c m o dO)(M:vQ g c k=0)
  (P:TB.Ev 17 (eZ a e d g l++[.r c,.i dO,.r m,.r o,.b u,.i k]) (.ret [.r (eo (bR X (Y aM.ae)))])):TB.Ev 7 (eZ a e d g l++[.r c,.i dO,.r m,.r o,.b u,.i k]) (.ret [.r (eo (rF X (Y aM.ae))),.i 0]):=by
 have V:=ajL (cl:=u) (k:=k) h s p D f;have G:=p.Nb.rl;have N:Y aM.ae<=140737488355328:=aa;refine qz ?_;simp only[wk,eZ,gA,gU] at V P;rw[M] at V;simp[R9,eZ,wk,dC V,dC P];refine em (Y aM.ae) (λi H=>H=[.r (eo (rF X i))]) ⟨0,rfl,aa,rfl⟩ ?_;rintro i _ F rfl;simp[ajM];refine cY (λW=> ?_) (λB=> ?_);rw[asj W];refine⟨W,cY (λQ=>⟨?_, ?_⟩) (λQ=> ?_)⟩;have:=ZM (mf:=X) (n:=i);simp only[rF,o8];omega;rw[du W N,ajO,aE Q];rw[du W N,ajO,aJ Q];have:i=Y aM.ae:=aa;subst this;rfl
def ajP{mf:Nat->Bool}{n:Nat}:W∈iT mf n<->W<n/\mf W=true:=by simp[iT]
def ajQ{j:Nat}(V:j<(iT X W).length):bF (bz (rF X W) (j:Int) 0).val=((iT X W)[j]:Int):=by
 simp[bz,rF,cw,ce V,bF]
end
section
def asn(W:Sl V)(n:Int):∃o,TB.Ev 37 [.r V,.i n] o/\∃b,o=.ret [.b b]/\(b=J->(∀j<Y V.ae,0<=ci V j 0/\ci V j 0<n)/\∀j<Y V.ae,∀k<j,ci V k 0≠ci V j 0):=by
 refine jS ?_;simp[R6];refine em (Y V.ae) (λi M=>∃m,M=[.r (eo m)]/\Y m<=i/\(∀j<i,0<=ci V j 0/\ci V j 0<n)/\(∀j<i,dE m (ci V j 0)=J)/\∀j<i,∀k<j,ci V k 0≠ci V j 0) ⟨0,rfl,aa,[],rfl,au,λj h=>aa,λj h=>aa,λj h=>aa⟩ ?_;rintro i _ z ⟨m,rfl,y,R,Q,P⟩;simp[W.len];refine cY (λO=>⟨O, ?_⟩) (λx=>⟨λj X=>R j aa,λj X=>P j aa⟩);intro L H G;have F:dE m (ci V i 0)=false:=by simp only[dE,cw,ci];exact G
 rw[du O W.sm];refine⟨_,rfl,pP Zp aa,ou R ⟨L,H⟩,λj X=> ?_,λj X k N=> ?_⟩;rw[Nc];split;rfl;rename_i D;exact Q j (NJ aa λe=>D (by rw[e];rfl));by_cases B:j=i;subst B;intro A;have:=Q k N;rw[A,F] at this;cases this;exact P j aa k N
variable[Inhabited cm]
variable{l p d c t:RV}
def aso(h:jT)(s:qA l p d c t):∃o,TB.Ev 20 (eZ l p d c t) o/\∃e,o=.ret [.i e]/\(e=0->zN l p d c t):=by
 have al:=(zK xF h).1;refine Sg rfl rfl (.inr λv=>nofun) ?_;simp only[wk,eZ,gA,gU] at al;simp[R8,eZ,wk,dC al,s.sw.len,s.sb.len,s.sc.len,s.sr.len,s.so.len,h.rl.len];refine cY (λhe=> ?_) (λhe q=>bp q he);intro m1 m2 m3 m4 m5;refine em (Y c.ae) (λn X=>X=[]/\∀i<n,(cr 62 c i).ae.length<=8) ⟨0,rfl,aa,rfl,λi W=>aa⟩ ?_;rintro i _ W ⟨rfl,hb⟩;simp[s.sr.len];refine cY (λV=> ?_) (λbx=> ?_);have e:=(s.xG i V).len;simp only[cr] at e;simp only[e];refine⟨V,λh8=> ?_⟩;rw[du V s.sr.sm];exact⟨rfl,ou hb (by simp only[cr];omega)⟩;have mn:Mny l p d c:=⟨aa,aa,aa,aa,m5,λq Q=>hb q aa⟩;refine em (Y p.ae) (λn X=>X=[]/\∀i<n,M6 p i=0) ⟨0,rfl,aa,rfl,λi W=>aa⟩ ?_;rintro i2 _ b0 ⟨rfl,an⟩;simp[s.sb.len,s.sc.len,s.sr.len];refine cY (λV=> ?_) (λb1=> ?_);simp[V];refine cY (λe=> ?_) (λe q=>bp q e);rw[du V s.sb.sm];exact⟨rfl,ou an e⟩;intro c0 lO;refine em (Y d.ae) (λn X=>X=[]/\∀i<n,(cr 3 d i).ae.length=Y aM.ae/\(∀j<(cr 3 d i).ae.length,0<=ci (cr 3 d i) j 0/\ci (cr 3 d i) j 0<Y p.ae)/\∀j<(cr 3 d i).ae.length,∀k<j,ci (cr 3 d i) k 0≠ci (cr 3 d i) j 0) ⟨0,rfl,aa,rfl,λi W=>aa⟩ ?_;rintro i3 _ b2 ⟨rfl,af⟩;simp[s.sb.len,s.sc.len,s.sr.len,h.rl.len];refine cY (λV=> ?_) (λb3=> ?_);have H:=s.Zo i3 V;have e4:=H.len;obtain⟨o,g,b,rfl,a0⟩:=asn H (Y p.ae);simp only[cr] at g e4;simp only[e4];refine⟨V,λel=> ?_⟩;simp[dC g];intro a1;rw[du V s.sc.sm];exact⟨rfl,ou af ⟨by simp only[cr];omega,(a0 a1).1,(a0 a1).2⟩⟩;have CS:Cst p d:=⟨aa,λq Q=>(af q aa).1,λq Q=>(af q aa).2.1,λq Q=>(af q aa).2.2⟩;refine em (Y c.ae) (λn X=>X=[]/\(∀i<Y l.ae,∀ar<n,mS (ci l i) ar 4=0)/\∀k<n,∀i<(cr 62 c k).ae.length,Na k (Js (cr 62 c k) i) (Dq (cr 62 c k) i)) ⟨0,rfl,aa,rfl,λi _ j hj=>aa,λi W=>aa⟩ ?_;rintro k _ hk ⟨rfl,a3,a4⟩;simp[s.sr.len];refine cY (λG=>⟨G, ?_⟩) (λb4=> ?_)
 ·have H:=s.xG k G;have eS:=H.len;have pg:=s.xH k G;obtain⟨B,hB⟩:∃B,cr 62 c k=B:=⟨_,rfl⟩;rw[hB] at H eS pg;have a9:dl (.sl 62) (bz c.ae k 0)=B:=hB;refine em (Y l.ae) (λn X=>X=[]/\∀i<n,mS (ci l i) k 4=0) ⟨0,rfl,aa,rfl,λi W=>aa⟩ ?_;rintro i4 _ b5 ⟨rfl,ba⟩;simp[s.sw.len];refine cY (λV=> ?_) (λb6=> ?_);have bb:=f25 (ci l i4) k;simp only[Jh,ci,gA,gU] at bb;simp[V,dC bb];intro y;rw[du V s.sw.sm];exact⟨rfl,ou ba y⟩;obtain⟨v,bg,hv,hU⟩:=ZE h k he (by simp[k9];omega);obtain⟨o,bc,hr⟩:=ZJ h k bg (λx R=>by have:=hU.ok x R;omega) hv aa;rcases hr with⟨hz,-⟩|⟨-,m,rfl,F⟩;exact bp rfl hz;simp only[wk,gA,gU] at bc;simp[dC bc];refine em (Y B.ae) (λn X=>X=[]/\∀i<n,Na k (Js B i) (Dq B i)) ⟨0,rfl,aa,rfl,λi W=>aa⟩ ?_;rintro i5 _ b7 ⟨rfl,bf⟩;simp[s.sr.len,G,a9,eS,h.rl.len];refine cY (λP=> ?_) (λb8=> ?_)
  rotate_left
  rw[du G s.sr.sm];exact⟨rfl,λi W ar bk=>if e:ar=k then by subst e;exact ba i aa else a3 i W ar aa,ou a4 (by rw[hB];exact λi W=>bf i aa)⟩;obtain⟨N,eM⟩:∃N,dl (.sl 4) (bz B.ae i5 0)=N:=⟨_,rfl⟩;obtain⟨D,eR⟩:∃D,dl (.sl 58) (bz B.ae i5 1)=D:=⟨_,rfl⟩;obtain⟨p1,p2,p3⟩:=pg i5 P;rw[eM] at p1;rw[eR] at p2 p3;simp only[eM,eR];have k1:=p1.len;have k2:=p2.len;have ml:Y m=Y aM.ae:=F.len;refine⟨P,λq1 q2=> ?_⟩;have lm:Y N.ae=Y aM.ae:=aa;have lr:Y D.ae=Y aM.ae:=aa;refine em (Y aM.ae) (λn X=>X=[]/\∀i<n,cb N i 0=cb N (eN m i) 0/\(cb N i 0=E->(cr 64 D i).ae=[])/\(cb N i 0=J->M4 i k (cr 64 D i)=0)) ⟨0,rfl,aa,rfl,λi W=>aa⟩ ?_;rintro O _ cc ⟨rfl,A⟩;simp[s.sr.len,G,a9,P,eM,eR,k1,k2,eS,lm,lr];refine cY (λM=> ?_) (λcf=> ?_)
  rotate_left
  rw[du P H.sm];have one:∀a b,xJ k a b->eN m a=eN m b:=by
   intro a b ag;have w:=ag;rw[<-ajK hU] at ag;obtain⟨x,R,rfl,rfl⟩:=ag;have e:=F.pr x R;rw[Dp F.ok _ (by rw[ml];have:=w.1;have:=w.2.1;omega),Dp F.ok _ (by rw[ml];exact w.2.1)] at e;omega
  have bl:∀r i j,pJ (xJ k) r i j->eN m i=eN m j:=by
   intro r;induction r with
   |zero=>intro i j h;rw[show i=j from h]
   |succ r ih=>
    rintro i j (L|⟨q,L|L,h2⟩);rw[L];exact(one _ _ L).trans (ih _ _ h2);exact(one _ _ L).symm.trans (ih _ _ h2)
  have aH:∀i<Y aM.ae,∀j<Y aM.ae,Cn (xJ k) i j->eN m i=eN m j:=λi _ j _ ⟨r,hr⟩=>bl r i j hr
  exact⟨rfl,ou bf (by
   simp only[Js,Dq,eM,eR];exact⟨lm,lr,λi W j hj hc=>by rw[(A i aa).1,(A j aa).1,aH i W j hj hc],λi W=>(A i aa).2.1,λi W=>(A i aa).2.2⟩)⟩
  have nn:bF (bz m (O:Int) 0).val=(eN m O:Int):=Dp F.ok O aa;have le:=Do F.ok O;have f:=(ajn h O k (cr 64 D O) (p3 O aa)).1;have q3:=(p3 O aa).len;simp only[wk,gA,gU,cr] at f;simp only[cr] at q3;rw[nn];refine⟨aa,aa,⟨aa,aa⟩, ?_⟩;intro eq;refine cY (λz=> ?_) (λz=> ?_);refine FV z ⟨M, ?_⟩;simp[dC f];intro y;rw[du M (show Y aM.ae<=140737488355328 from aa)];exact⟨rfl,ou A ⟨eq,λhf=>bp (z.symm.trans hf) au,λ_=>y⟩⟩;refine⟨M, ?_⟩;simp[q3];intro y;refine zO z ?_;rw[du M (show Y aM.ae<=140737488355328 from aa)];exact⟨rfl,ou A ⟨eq,λ_=>y,λht=>bp ht z⟩⟩
 have PG:ajJ c:=⟨lO,λq Q=>a4 q aa⟩;have WG:WgP l:=λi W ar bk=>a3 i W ar aa
 refine em (Y bo.ae) (λn X=>∃m,X=[.r (eo m)]/\∀x,dE m x=J->∃j<n,ci bo j 0=x/\ci bo j 3≠1) ⟨0,rfl,aa,[],rfl,λx R=>by simp[dE,gD] at R⟩ ?_;rintro j _ hj ⟨m,rfl,hm⟩;simp[h.sg.len];refine cY (λM=>⟨M, ?_⟩) (λch=> ?_);rw[du M h.sg.sm];refine⟨_,rfl,λx R=> ?_⟩;rw[Nc] at R;split at R;rename_i e;exact⟨j,aa,e.symm,by simpa[ci] using R⟩;obtain⟨q,Q,L⟩:=hm x R;exact⟨q,aa,L⟩;refine em (Y t.ae) (λn X=>X=[]/\∀i<n,(∃j<Y bo.ae,ci bo j 0=ci t i 0/\ci bo j 3≠1)/\(0<i->ci t (i-1) 0<ci t i 0)) ⟨0,rfl,aa,rfl,λi W=>aa⟩ ?_;rintro u _ cn ⟨rfl,h9⟩;simp[s.so.len];refine cY (λP=>⟨P, ?_⟩) (λcp=> ?_)
 rotate_left
 exact⟨he,mn,λq Q=>an q aa,WG,CS,PG,⟨λq Q=>(h9 q aa).1,λq Q=>(h9 q aa).2⟩⟩;intro w;have bs:dE m (ci t u 0)=true:=by simp only[dE,cw,ci];exact w
 obtain⟨q,Q,e1,e2⟩:=hm _ bs;refine cY (λz=> ?_) (λct=> ?_);rw[du P s.so.sm];exact⟨rfl,ou h9 ⟨⟨q,aa,e1,e2⟩,λcv=>aa⟩⟩;have bt:bH .sub I (u:Int) 1=((u-1:Nat):Int):=by
  rw[show bH .sub I (u:Int) 1=(u:Int)-1 by simp only[bH];exact nK (by have:=s.so.sm;omega) (by have:=s.so.sm;omega)];omega
 rw[bt];refine⟨aa, ?_⟩;intro ho;rw[du P s.so.sm];exact⟨rfl,ou h9 ⟨⟨q,aa,e1,e2⟩,λ_=>by simp only[ci];omega⟩⟩
variable{w u y:RV}{dO:Int}{cl:Bool}
def asp(h:jT)(s:qA l p d c t)(Q:Sl w)(P:Sl u)(G:Sl y)(al:∀i<Y u.ae,Sl (cr 93 u i)):∃o,TB.Ev 22 (eZ l p d c t++[.r w,.i dO,.r u,.r y,.b cl]) o/\∃e,o=.ret [.i e]/\(e=0->zN l p d c t/\Dl d c w u y dO):=by
 obtain⟨o,f,e,rfl,an⟩:=aso h s;refine Sg rfl rfl (.inr λv=>nofun) ?_;simp only[wk,eZ,gA,gU] at f;simp[R7,eZ,wk,dC f,Q.len,P.len,G.len,s.sr.len,s.sc.len,h.rl.len];refine cY (λz=> ?_) (λz q=>bp q z);have SP:=an z;intro g1 g2 g3 g4 g5;refine em (Y w.ae) (λn R=>R=[]/\∀i<n,0<=ci w i 0/\ci w i 0<=(cr 62 c i).ae.length) ⟨0,rfl,aa,rfl,λi F=>aa⟩ ?_;rintro i _ F ⟨rfl,a⟩;simp[Q.len,s.sr.len];refine cY (λaf=> ?_) (λag=> ?_);have e:=(s.xG i aa).len;simp only[cr] at e;simp only[e];refine⟨af,λq1=>⟨aa,λq2=> ?_⟩⟩;rw[du af Q.sm];exact⟨rfl,ou a ⟨q1,q2⟩⟩;refine em (Y u.ae) (λn R=>R=[]/\∀i<n,Kno w u y i) ⟨0,rfl,aa,rfl,λi F=>aa⟩ ?_;rintro j _ hj ⟨rfl,x⟩;simp[Q.len,P.len,G.len];refine cY (λO=> ?_) (λa3=> ?_)
 rotate_left
 exact⟨SP,aa,⟨g2,g3⟩,aa,aa,λr N=>a r aa,λr N=>x r aa⟩;have D:=al j O;have B:=D.len;obtain⟨V,W⟩:∃V,cr 93 u j=V:=⟨_,rfl⟩;have m:dl (.sl 93) (bz u.ae j 0)=V:=W;rw[W] at D B;simp only[m,B];refine⟨O, ?_⟩;by_cases h1:Y V.ae=1
 ·refine FV aa ⟨aa, ?_⟩;refine cY (λk=> ?_) (λk=> ?_)
  rotate_left
  intro A;omega;refine em (Y V.ae) (λn R=>R=[]/\∀q<n,M5 V q=0) ⟨0,rfl,aa,rfl,λi F=>aa⟩ ?_;rintro q _ a0 ⟨rfl,M⟩;simp[Q.len,P.len,G.len,m,B,O];refine cY (λL=> ?_) (λag=> ?_);simp[L];intro e;rw[du L D.sm];exact⟨rfl,ou M e⟩;refine⟨aa,FV aa ?_⟩;rw[du O P.sm];refine⟨rfl,ou x ⟨by rw[W];omega,by rw[W];omega, ?_,λA=> ?_,λr N=> ?_,λH=>bp k H⟩⟩;rw[W];exact⟨λA=>aa,λH=>bp k H⟩;rw[W] at A;omega;rw[W] at N⊢;exact M r aa
 refine zO aa ?_;intro A;have a1:Y V.ae=2:=aa;refine⟨aa,aa,λH=> ?_⟩;have ne:∃j<13,ci V 0 j≠ci V 1 j:=by
  refine Classical.byContradiction λhn=> ?_
  have X:∀j<13,ci V 0 j=ci V 1 j:=λj hj=>Classical.byContradiction λq=>hn ⟨j,hj,q⟩
  exact H (X 0 aa) (X 1 aa) (X 2 aa) (X 3 aa) (X 4 aa) (X 5 aa) (X 6 aa) (X 7 aa) (X 8 aa) (X 9 aa) (X 10 aa) (X 11 aa) (X 12 aa)
 refine em (Y V.ae) (λn R=>R=[]/\∀q<n,M5 V q=0) ⟨0,rfl,aa,rfl,λi F=>aa⟩ ?_;rintro q _ a0 ⟨rfl,M⟩;simp[Q.len,P.len,G.len,m,B,O];refine cY (λL=> ?_) (λag=> ?_);simp[L];intro e;rw[du L D.sm];exact⟨rfl,ou M e⟩;refine⟨aa,zO aa ?_⟩;intro g b2;refine⟨⟨g,b2⟩,λb3=> ?_⟩;rw[du O P.sm];refine⟨rfl,ou x ⟨by rw[W];omega,by rw[W];omega, ?_,λ_=>by rw[W];exact ne,λr N=> ?_,λ_=>⟨g,b2,b3⟩⟩⟩;rw[W];refine⟨λ_ hz=> ?_,λ_=>a1⟩;simp only[ci] at hz;rw[hz,show bH .sub I (0:Int) 1=(0:Int)-1 by simp only[bH];exact nK aa aa] at g;omega;rw[W] at N⊢;exact M r aa
end
section
variable{R:aU->Prop}{G:aI}{t:T}{O:ai}{L:cG}
def SJ{a:RV}(h:∀i<Y a.ae,0<i->ci a (i-1) 0<ci a i 0){i:Nat}:∀{j:Nat},i<j->j<Y a.ae->ci a i 0<ci a j 0
 |0,W,_=>aa
 |j+1,W,V=>by
  have X:=h (j+1) V aa;simp only[Nat.add_sub_cancel] at X;by_cases e:i=j;subst e;exact X;exact Int.lt_trans (SJ h (j:=j) aa aa) X
def asq(N:Sl V)(M:∀i<Y V.ae,0<i->ci V (i-1) 0<ci V i 0)(x:Int):∃o,TB.Ev 15 [.r V,.i x] o/\∃i b,o=.ret [.i i,.b b]/\(b=J<->∃k<Y V.ae,ci V k 0=x):=by
 refine jS ?_;simp[Ze];have m:=N.sm;refine De (λQ=>∃i j:Nat,Q=[.i i,.i j]/\i<=j/\j<=Y V.ae/\(∀k<i,ci V k 0<x)/\∀k,j<=k->k<Y V.ae->x<=ci V k 0) (λQ=>(xi Q 1-xi Q 0).toNat) ⟨0,Y V.ae,by simp[N.len],aa,aa,λk W=>aa,λk G z=>aa⟩ ?_;rintro _ ⟨i,j,rfl,G,z,F,D⟩;simp[xi,FP,N.len,aiY (show j<=140737488355328 from aa) G];refine cY (λP=> ?_) (λB=> ?_);refine⟨aa, ?_⟩;have y:((i:Int)+j)/2=(((i+j)/2:Nat):Int):=aa;have w:(i+j)/2<Y V.ae:=aa;rw[y,Sk (i:=(i+j)/2) aa];refine cY (λX=> ?_) (λX=> ?_);refine⟨⟨(i+j)/2+1,j,⟨rfl,rfl⟩,aa,aa,λk W=> ?_,D⟩,aa⟩;have X:ci V ((i+j)/2) 0<x:=X;by_cases e:k=(i+j)/2;rw[e];exact X;exact Int.lt_trans (SJ M (j:=(i+j)/2) aa w) X;refine⟨⟨i,(i+j)/2,⟨rfl,rfl⟩,aa,aa,F,λk l v=> ?_⟩,aa⟩;have X:x<=ci V ((i+j)/2) 0:=by
  have:¬ci V ((i+j)/2) 0<x:=X;omega
 by_cases e:k=(i+j)/2;rw[e];exact X;exact Int.le_trans X (Int.le_of_lt (SJ M (i:=(i+j)/2) aa v));have u:i=j:=aa;subst u;have A:(i<Y V.ae->ci V i 0≠x)->¬∃k,k<Y V.ae/\ci V k 0=x:=by
  rintro H ⟨k,W,e⟩;by_cases s:k<i;have:=F k s;omega;by_cases q:k=i;subst q;exact H W e;have h:=D i aa aa;have g:=SJ M (i:=i) (j:=k) aa W;omega
 refine cY (λP=>⟨P,cY (λp=> ?_) (λH=> ?_)⟩) (λB=> ?_);exact⟨i,P,p⟩;exact⟨P,λk W e=>A (λ_=>H) ⟨k,W,e⟩⟩;exact λk W e=>A (λn=>bp n B) ⟨k,W,e⟩
variable[Inhabited cm]
variable{z A w u c d kn op:RV}{dO k:Int}{cl:Bool}
def asr(s:qA z A w u c)(W:Sl d):∃o,TB.Ev 14 (eZ z A w u c++[.r d,.i dO,.r kn,.r op,.b cl]) o/\∃n,o=.ret [.i n]:=by
 refine jS ?_;simp[Zd,eZ,wk];have Q:=s.sr.sm;refine De (λX=>∃(i:Nat)(n:Int),X=[.i i,.i n]) (λX=>(Y u.ae-xi X 0).toNat) ⟨Y d.ae,1,by simp[W.len]⟩ ?_;rintro _ ⟨i,n,rfl⟩;simp[xi,FP,s.sr.len];intro V P;refine⟨V, ?_⟩;rw[Sk aa];exact⟨⟨_,rfl⟩,aa⟩
def ast(V:Sl d)(X:Sl kn)(Q:Sl op)(P:∀i<Y kn.ae,Sl (cr 93 kn i)):∃o,TB.Ev 13 [.r d,.i dO,.r kn,.r op,.b cl] o/\∃b,o=.ret [.b b]:=by
 refine jS ?_;simp[Zc,V.len,X.len,Q.len];intro _ _ _;refine em (Y kn.ae) (λn N=>N=[]) ⟨0,rfl,aa,rfl⟩ ?_;rintro i _ M rfl;simp[X.len];refine λW=>⟨W, ?_⟩
 have e:=(P i W).len;simp only[cr] at e;simp[du W X.sm]
def asu(h:jT)(s:qA z A w u c)(X:Sl d)(Q:Sl kn)(P:Sl op)(N:∀i<Y kn.ae,Sl (cr 93 kn i)):∃o,TB.Ev 5 (eZ z A w u c++[.r d,.i dO,.r kn,.r op,.b cl]) o/\∃b,o=.ret [.b b]:=by
 obtain⟨o,W,x,rfl⟩:=arn h s;obtain⟨o,M,y,rfl⟩:=ast (dO:=dO) (cl:=cl) X Q P N;obtain⟨o,V,n,rfl⟩:=asr (dO:=dO) (cl:=cl) (kn:=kn) (op:=op) s X;refine jS ?_;simp only[wk,eZ,gA,gU] at W V;simp[Zb,eZ,wk,dC W];cases x;simp;simp[dC M];cases y;simp;simp[dC V];omega
def asv(h:jT)(s:qA z A w u c)(D:Dk d kn op):∃o,TB.Ev 16 (eZ z A w u c++[.r d,.i dO,.r kn,.r op,.b cl,.i k]) o/\∃e,o=.ret [.i e]/\(e=0->(zN z A w u c/\Dl w u d kn op dO)/\vQ u d k=0):=by
 obtain⟨o,X,e,rfl,V⟩:=asp (cl:=cl) (dO:=dO) h s D.sc D.sk D.so D.kk;by_cases W:e=0;obtain⟨p,f⟩:=V W;exact⟨_,ajL h s p D f,_,rfl,λq=>⟨⟨p,f⟩,q⟩⟩;refine jS ?_;simp only[wk,eZ,gA,gU] at X;simp[Sa,eZ,wk,dC X,W]
def asw(h:jT)(s:qA z A w u c)(D:Dk d kn op):∃o,TB.Ev 7 (eZ z A w u c++[.r d,.i dO,.r kn,.r op,.b cl,.i k]) o/\((∃r e,o=.ret [.r r,.i e]/\e≠0)\/((zN z A w u c/\Dl w u d kn op dO)/\vQ u d k=0)/\∃X,o=.ret [.r (eo (rF X (Y aM.ae))),.i 0]):=by
 obtain⟨o,Q,e,rfl,P⟩:=asv (k:=k) (cl:=cl) (dO:=dO) h s D;by_cases W:e=0;obtain⟨⟨p,f⟩,V⟩:=P W;obtain⟨o,N,X,rfl,-⟩:=asl (cl:=cl) h s p D f V;exact⟨_,asm h s p D f V N,.inr ⟨⟨⟨p,f⟩,V⟩,X,rfl⟩⟩;have:∃o,TB.Ev 7 (eZ z A w u c++[.r d,.i dO,.r kn,.r op,.b cl,.i k]) o/\∃r e,o=.ret [.r r,.i e]/\e≠0:=by
  refine jS ?_;simp only[wk,eZ,gA,gU] at Q;simp[R9,eZ,wk,dC Q,W];exact⟨_,_,⟨rfl,rfl⟩,W⟩
 obtain⟨o,g,q⟩:=this;exact⟨o,g,.inl q⟩
def s6(X:Int->Bool)(l:RV):Nat->Int->Int
 |0,n=>n
 |m+1,n=>if X (ci l m 0)&& !cb l m 3 then bH .add I (s6 X l m n) 1 else s6 X l m n
def pK(X:Int->Bool)(W:RV)(V:List Nat):Nat->Int
 |0=>0
 |j+1=>s6 X (cr 64 W (V.getD j 0)) (cr 64 W (V.getD j 0)).ae.length (pK X W V j)
def SK(c:RV)(x:Int):Prop:=(∃q<Y c.ae,ci c q 0=x)\/∃q<Y bo.ae,ci bo q 0=x/\ci bo q 3=1
def ajR{X W:Int->Bool}(h:∀x,X x=W x)(l:RV):∀m n,s6 X l m n=s6 W l m n
 |0,_=>rfl
 |m+1,n=>by simp only[s6,ajR h l m n,h]
def ajS{X Q:Int->Bool}(h:∀x,X x=Q x)(W:RV)(V:List Nat):∀j,pK X W V j=pK Q W V j
 |0=>rfl
 |j+1=>by simp only[pK,ajS h W V j,ajR h]
def asx{m X:aq}(h:∀x,dE m x=J<->SK c x)(W:∀x,dE X x=J<->SK c x)(x:Int):dE m x=dE X x:=by
 rw[uF,h,W]
def ZN(x g:Int)(b:Bool)(X:aq):(dE (eL 1 [RV.mk (.int I x) [],RV.mk (.bool b) []] X) g=J)<->(g=x/\b=J)\/(g≠x/\dE X g=J):=by
 rw[Nc];by_cases e:g=x<;>simp[e]
def asy(h:jT)(s:qA z A w u c)(p:zN z A w u c)(D:Dk d kn op)(f:Dl w u d kn op dO)(h0:vQ u d k=0)
  (a4:TB.Ev 7 (eZ z A w u c++[.r d,.i dO,.r kn,.r op,.b cl,.i k]) (.ret [.r (eo (rF X (Y aM.ae))),.i 0])):
  ∃o,TB.Ev 6 (eZ z A w u c++[.r d,.i dO,.r kn,.r op,.b cl,.i k]) o/\∃m:aq,(∀x,dE m x=J<->SK c x)/\o=.ret [.i (pK (dE m) (Dq (cr 62 u (Y d.ae)) (k-1).toNat) (iT X (Y aM.ae)) (iT X (Y aM.ae)).length),.i 0]:=by
 have hw:=(zK xF h).2 p.wk;have m2:=p.Nb.rl;obtain⟨a,b4,bl⟩:=ZL h0;obtain⟨V,rfl⟩:∃V:Nat,k=V+1:=⟨(k-1).toNat,aa⟩;have bs:((V:Int)+1-1).toNat=V:=aa;have ag:V<(cr 62 u (Y d.ae)).ae.length:=aa;have af:=s.xG (Y d.ae) a;have eS:=af.len;have pg:=s.xH (Y d.ae) a V ag;have pp:=p.Jt.xH (Y d.ae) a V ag;obtain⟨B,hB⟩:∃B,cr 62 u (Y d.ae)=B:=⟨_,rfl⟩;rw[hB] at af eS pg pp ag bl;have al:dl (.sl 62) (bz u.ae (Y d.ae:Int) 0)=B:=hB;rw[bs,hB];obtain⟨N,eR⟩:∃x,Dq B V=x:=⟨_,rfl⟩;have an:dl (.sl 58) (bz B.ae (V:Int) 1)=N:=eR;rw[eR];obtain⟨-,q2,q3⟩:=pg;have lr:=pp.lr;rw[eR] at lr;simp only[an] at q2 q3;have kR:=q2.len;have a0:bH .sub I ((V:Int)+1) 1=(V:Int):=by
  simp only[bH];rw[nK (by have:=af.sm;omega) (by have:=af.sm;omega)];omega
 refine jS ?_;simp only[wk,eZ,gA,gU] at a4;simp[Sc,eZ,wk,dC a4,h.sg.len];refine em (Y bo.ae) (λn F=>∃m,F=[.r (eo m)]/\∀x,dE m x=J<->∃q<n,ci bo q 0=x/\((∃j<Y c.ae,ci c j 0=x)\/ci bo q 3=1)) ⟨0,rfl,aa,[],rfl,λx=>by simp[dE,gD]⟩ ?_;rintro i _ hi ⟨m,rfl,hm⟩;simp[h.sg.len];refine cY (λQ=>⟨Q, ?_⟩) (λbt=> ?_);obtain⟨o,a9,b5,b,rfl,y⟩:=asq s.so p.SI.ord (ci bo i 0);have ba:∀v:Bool,(v=J<->(∃j<Y c.ae,ci c j 0=ci bo i 0)\/ci bo i 3=1)->∀x,dE (eL 1 [RV.mk (.int I (ci bo i 0)) [],RV.mk (.bool v) []] m) x=J<->∃q<i+1,ci bo q 0=x/\((∃j<Y c.ae,ci c j 0=x)\/ci bo q 3=1):=by
  intro v hv x;rw[ZN,hm,hv];constructor;rintro(⟨rfl,q⟩|⟨-,q,M,H,P⟩);exact⟨i,aa,rfl,q⟩;exact⟨q,aa,H,P⟩;rintro⟨q,M,rfl,P⟩;by_cases e:q=i;subst e;exact .inl ⟨rfl,P⟩;have:=hw.ids q i aa Q;exact .inr ⟨aa,q,aa,rfl,P⟩
 simp only[ci] at a9;simp[dC a9];have l:∀v:Bool,(eL 1 [RV.mk (.int I (ci bo i 0)) [],RV.mk (.bool v) []] m)=(eL 1 [RV.mk (.int I (bF (bz bo.ae (i:Int) 0).val)) [],RV.mk (.bool v) []] m):=λ_=>rfl
 refine cY (λbx=> ?_) (λb0=> ?_);rw[du Q h.sg.sm];exact⟨_,rfl,ba J ⟨λ_=>.inl (y.1 bx),λ_=>rfl⟩⟩;rw[du Q h.sg.sm];refine⟨_,rfl,ba (decide (ci bo i 3=1)) ?_⟩;rw[bZ];exact⟨.inr,λq=>q.resolve_left λq=>b0 (y.2 q)⟩;have b1:i=Y bo.ae:=aa;subst b1;have hC:∀x,dE m x=J<->SK c x:=by
  intro x;rw[hm];constructor;rintro⟨q,M,H,P|P⟩;exact .inl P;exact .inr ⟨q,M,H,P⟩;rintro(⟨j,hj,rfl⟩|⟨q,M,H,P⟩);obtain⟨q,M,H,-⟩:=p.SI.fnd j hj;exact⟨q,M,H,.inl ⟨j,hj,rfl⟩⟩;exact⟨q,M,H,.inr P⟩
 simp[D.sc.len,s.sr.len,al,eS,a0];refine⟨a,aa, ?_⟩;have bb:(rF X (Y aM.ae)).length=(iT X (Y aM.ae)).length:=by simp[rF]
 have b6:=ZM (mf:=X) (n:=Y aM.ae);refine em (iT X (Y aM.ae)).length (λj F=>F=[.i (pK (dE m) N (iT X (Y aM.ae)) j)]) ⟨0,rfl,aa,rfl⟩ ?_;rintro j _ hj rfl;simp[bb,D.sc.len,s.sr.len,al,eS,an,kR,a0,lr];refine cY (λQ=>⟨Q, ?_⟩) (λbt=> ?_)
 rotate_left
 have:j=(iT X (Y aM.ae)).length:=aa;subst this;exact⟨m,hC,rfl⟩;have hr:=ajQ Q;have bc:=(ajP (mf:=X) (n:=Y aM.ae)).1 (pN Q);have bf:(iT X (Y aM.ae)).getD j 0=(iT X (Y aM.ae))[j]:=by simp[cw,ce Q]
 rw[hr];obtain⟨G,bg⟩:∃G,(iT X (Y aM.ae))[j]=G:=⟨_,rfl⟩;rw[bg] at bc bf⊢;have a1:Sl (cr 64 N G):=q3 G (by rw[lr];exact bc.1);have e9:=a1.len;obtain⟨W,hX⟩:∃W,cr 64 N G=W:=⟨_,rfl⟩;have b2:dl (.sl 64) (bz N.ae (G:Int) 0)=W:=hX;rw[hX] at a1 e9;refine⟨⟨aa,aa⟩, ?_⟩;refine em (Y W.ae) (λq F=>F=[.i (s6 (dE m) W q (pK (dE m) N (iT X (Y aM.ae)) j))]) ⟨0,rfl,aa,rfl⟩ ?_;rintro q _ M rfl;simp[bb,D.sc.len,s.sr.len,al,eS,an,kR,a0,lr,hr,bg,b2,e9];refine cY (λbk=>⟨bk, ?_⟩) (λb7=> ?_)
 rotate_left
 have:q=Y W.ae:=aa;subst this;rw[du Q aa];simp only[pK,bf,hX];have b3:s6 (dE m) W (q+1) (pK (dE m) N (iT X (Y aM.ae)) j)=if dE m (ci W q 0)&& !cb W q 3 then bH .add I (s6 (dE m) W q (pK (dE m) N (iT X (Y aM.ae)) j)) 1 else s6 (dE m) W q (pK (dE m) N (iT X (Y aM.ae)) j):=rfl;refine cY (λl=>cY (λhd=> ?_) (λhd=> ?_)) (λl=> ?_)
 all_goals rw[du bk a1.sm,b3]
 have g:dE m (ci W q 0)=true:=by simp only[dE,cw,ci];exact l
 have a3:cb W q 3=true:=by simpa[cb] using hd
 rw[g,a3];rfl;have g:dE m (ci W q 0)=true:=by simp only[dE,cw,ci];exact l
 have a3:cb W q 3=false:=by simpa[cb] using hd
 rw[g,a3];rfl;have g:dE m (ci W q 0)=false:=axy.2 λy=>l (by simp only[dE,cw,ci] at y;exact y)
 rw[g];rfl
def asz(h:jT)(W:Q≠0)(X:TB.Ev 7 (eZ z A w u c++[.r d,.i dO,.r kn,.r op,.b cl,.i k]) (.ret [.r V,.i Q])):TB.Ev 6 (eZ z A w u c++[.r d,.i dO,.r kn,.r op,.b cl,.i k]) (.ret [.i 0,.i Q]):=by
 refine qz ?_;simp only[wk,eZ,gA,gU] at X;simp[Sc,eZ,wk,dC X,W]
def asA(hS:TB.Ev 4 [] (.ret [.b J]))(h:jT)(s:qA z A w u c)(D:Dk d kn op)(k:Int):TB.Ev 3 (eZ z A w u c++[.r d,.i dO,.r kn,.r op,.b cl,.i k]) (.ret [.b J]):=by
 obtain⟨P,hP⟩:∃P:aU->Prop,∀o,P o<->o=.ret [.b J]:=⟨_,λ_=>Iff.rfl⟩
 suffices a3:∃o,TB.Ev 3 (eZ z A w u c++[.r d,.i dO,.r kn,.r op,.b cl,.i k]) o/\P o by
  obtain⟨o,g1,g2⟩:=a3;rw[(hP o).1 g2] at g1;exact g1
 have al:P (.ret [.b J]):=(hP _).2 rfl;obtain⟨o,an,y,rfl⟩:=asu (dO:=dO) (cl:=cl) h s D.sc D.sk D.so D.kk;obtain⟨o,l,hR⟩:=asw (dO:=dO) (cl:=cl) (k:=k) h s D;rcases hR with⟨r,e,rfl,he⟩|⟨⟨⟨p,f⟩,h0⟩,W,rfl⟩;have H:=asz h he l;refine jS ?_;simp only[wk,eZ,gA,gU] at an l H;simp[Sb,eZ,wk,dC hS,dC an];cases y;simp[al];simp[dC H,dC l,he,al];obtain⟨o,H,m0,b1,rfl⟩:=asy h s p D f h0 l;have m2:=p.Nb.rl;obtain⟨af,b7,b2⟩:=ZL h0;obtain⟨Q,rfl⟩:∃Q:Nat,k=Q+1:=⟨(k-1).toNat,aa⟩;have b3:((Q:Int)+1-1).toNat=Q:=aa;have a0:Q<(cr 62 u (Y d.ae)).ae.length:=aa;have a1:=s.xG (Y d.ae) af;have eS:=a1.len;have pg:=s.xH (Y d.ae) af Q a0;have pp:=p.Jt.xH (Y d.ae) af Q a0;obtain⟨B,hB⟩:∃B,cr 62 u (Y d.ae)=B:=⟨_,rfl⟩;rw[hB] at a1 eS pg pp a0 b2 H;rw[b3] at H;have bc:dl (.sl 62) (bz u.ae (Y d.ae:Int) 0)=B:=hB;obtain⟨M,eR⟩:∃x,Dq B Q=x:=⟨_,rfl⟩;have a4:dl (.sl 58) (bz B.ae (Q:Int) 1)=M:=eR;rw[eR] at H;obtain⟨-,q2,q3⟩:=pg;have lr:=pp.lr;rw[eR] at lr;simp only[a4] at q2 q3;have kR:=q2.len;have bf:bH .sub I ((Q:Int)+1) 1=(Q:Int):=by
  simp only[bH];rw[nK (by have:=a1.sm;omega) (by have:=a1.sm;omega)];omega
 refine jS ?_;simp only[wk,eZ,gA,gU] at an l H;simp[Sb,eZ,wk,dC hS,dC an];cases y;simp[al];simp[dC H,dC l];refine em (Y c.ae) (λn F=>∃m,F=[.r (eo m)]/\∀x,dE m x=J<->∃q<n,ci c q 0=x) ⟨0,rfl,aa,[],rfl,λx=>by simp[dE,gD]⟩ ?_;rintro i _ hi ⟨m,rfl,g⟩;simp[s.so.len];refine cY (λV=>⟨V, ?_⟩) (λbg=> ?_);rw[du V s.so.sm];refine⟨_,rfl,λx=> ?_⟩;have:=ZN (ci c i 0) x J m;rw[g] at this;refine this.trans ⟨?_, ?_⟩;rintro(⟨rfl,-⟩|⟨-,q,a,N⟩);exact⟨i,aa,rfl⟩;exact⟨q,aa,N⟩;rintro⟨q,a,rfl⟩;by_cases e:ci c q 0=ci c i 0;exact .inl ⟨e,rfl⟩;exact .inr ⟨e,q,NJ aa λe'=>e (by rw[e']),rfl⟩;have a9:i=Y c.ae:=aa;subst a9;refine em (Y bo.ae) (λn F=>∃m,F=[.r (eo m)]/\∀x,dE m x=J<->(∃q<Y c.ae,ci c q 0=x)\/∃q<n,ci bo q 0=x/\ci bo q 3=1) ⟨0,rfl,aa,m,rfl,λx=>by rw[g];simp⟩ ?_;rintro i _ hi ⟨m,rfl,g⟩;simp[h.sg.len];refine cY (λV=>⟨V, ?_⟩) (λbg=> ?_);have bk:∀v:Bool,(v=J<->dE m (ci bo i 0)=J\/ci bo i 3=1)->∀x,dE (eL 1 [RV.mk (.int I (ci bo i 0)) [],RV.mk (.bool v) []] m) x=J<->(∃q<Y c.ae,ci c q 0=x)\/∃q<i+1,ci bo q 0=x/\ci bo q 3=1:=by
  intro v hv x;rw[ZN,hv,g,g];constructor;rintro(⟨rfl,(q|⟨q,a,N,G⟩)|q⟩|⟨-,q|⟨q,a,N,G⟩⟩);exact .inl q;exact .inr ⟨q,aa,N,G⟩;exact .inr ⟨i,aa,rfl,q⟩;exact .inl q;exact .inr ⟨q,aa,N,G⟩;by_cases e:x=ci bo i 0;subst e;rintro(q|⟨q,a,N,G⟩);exact .inl ⟨rfl,.inl (.inl q)⟩;by_cases e:q=i;subst e;exact .inl ⟨rfl,.inr G⟩;exact .inl ⟨rfl,.inl (.inr ⟨q,aa,N,G⟩)⟩;rintro(q|⟨q,a,N,G⟩);exact .inr ⟨e,.inl q⟩;exact .inr ⟨e,.inr ⟨q,NJ aa λe'=>e (by rw[<-N,e']),N,G⟩⟩
 refine cY (λb4=> ?_) (λb5=> ?_);rw[du V h.sg.sm];exact⟨_,rfl,bk J ⟨λ_=>.inl b4,λ_=>rfl⟩⟩;rw[du V h.sg.sm];refine⟨_,rfl,bk (decide (ci bo i 3=1)) ?_⟩;rw[bZ];exact⟨.inr,λq=>q.resolve_left b5⟩;have a9:i=Y bo.ae:=aa;subst a9;have hC:∀x,dE m0 x=dE m x:=asx b1 g;rw[ajS hC];have bl:(rF W (Y aM.ae)).length=(iT W (Y aM.ae)).length:=by simp[rF]
 have b8:=ZM (mf:=W) (n:=Y aM.ae);refine em (iT W (Y aM.ae)).length (λj F=>F=[.i (pK (dE m) M (iT W (Y aM.ae)) j)]) ⟨0,rfl,aa,rfl⟩ ?_;rintro j _ hj rfl;simp[bl,D.sc.len,h.rl.len,s.sr.len,bc,eS,a4,kR,bf,lr];refine cY (λV=>⟨V, ?_⟩) (λbg=> ?_)
 rotate_left
 have:j=(iT W (Y aM.ae)).length:=aa;subst this;simp[al];have hr:=ajQ V;have bs:=(ajP (mf:=W) (n:=Y aM.ae)).1 (pN V);have bt:(iT W (Y aM.ae)).getD j 0=(iT W (Y aM.ae))[j]:=by simp[cw,ce V]
 rw[hr];obtain⟨ro,bx⟩:∃ro,(iT W (Y aM.ae))[j]=ro:=⟨_,rfl⟩;rw[bx] at bs bt⊢;have ba:Sl (cr 64 M ro):=q3 ro (by rw[lr];exact bs.1);have e9:=ba.len;obtain⟨X,hX⟩:∃X,cr 64 M ro=X:=⟨_,rfl⟩;have b6:dl (.sl 64) (bz M.ae (ro:Int) 0)=X:=hX;rw[hX] at ba e9;refine zO aa (zO aa (zO aa (zO aa ⟨af,zO aa ⟨af,a0,⟨aa,aa⟩, ?_⟩⟩)));refine em (Y X.ae) (λq F=>F=[.i (s6 (dE m) X q (pK (dE m) M (iT W (Y aM.ae)) j))]) ⟨0,rfl,aa,rfl⟩ ?_;rintro q _ a rfl;simp[bl,D.sc.len,s.sr.len,bc,eS,a4,kR,bf,lr,hr,bx,b6,e9];refine cY (λb0=>⟨b0, ?_⟩) (λcc=> ?_)
 rotate_left
 have:q=Y X.ae:=aa;subst this;rw[du V aa];simp only[pK,bt,hX];have a3:s6 (dE m) X (q+1) (pK (dE m) M (iT W (Y aM.ae)) j)=if dE m (ci X q 0)&& !cb X q 3 then bH .add I (s6 (dE m) X q (pK (dE m) M (iT W (Y aM.ae)) j)) 1 else s6 (dE m) X q (pK (dE m) M (iT W (Y aM.ae)) j):=rfl;refine cY (λhl=>cY (λhd=> ?_) (λhd=> ?_)) (λhl=> ?_)
 all_goals rw[du b0 ba.sm,a3]
 have ag:dE m (ci X q 0)=true:=by simp only[dE,cw,ci];exact hl
 have bb:cb X q 3=true:=by simpa[cb] using hd
 rw[ag,bb];rfl;have ag:dE m (ci X q 0)=true:=by simp only[dE,cw,ci];exact hl
 have bb:cb X q 3=false:=by simpa[cb] using hd
 rw[ag,bb];rfl;have ag:dE m (ci X q 0)=false:=axy.2 λhb=>hl (by simp only[dE,cw,ci] at hb;exact hb)
 rw[ag];rfl
end
