/- Part 5 of the proof. -/
import Derived.Test.YtfpoabmmjhhncaaGreatDoorQ4
set_option linter.all false
set_option maxRecDepth 100000
set_option maxHeartbeats 100000000
open Bool renaming and_self->xT,true->J,false->E
open List renaming mem_cons->dJ,map_cons->ep,cons_append->gA,pairwise_cons->iv,nil_append->gU,getElem_mem->pN,length_cons->pO,mem_of_find?_eq_some->NB,pairwise_iff_getElem->NC,find?_some->NN,pairwise_singleton->aw5,take_succ_cons->axm,getElem_of_mem->axn,length->Y
open Nat renaming le_trans->pP,gcd->JO
open Option renaming some->U
open List.Pairwise renaming nil->uD
open List.cons renaming injEq->uG
open Go.IntKind renaming i64->I
namespace Go.Proofs.YtfpoabmmjhhncaaGreatDoor.Y
open Go.RowKit
noncomputable section
variable{V H F:Int}{M:RV}{W:aq}{Q P:Nat→Int}{N:Nat→Bool}{X:Nat}
section
variable{R:aU->Prop}{G:aI}{t:T}{O:ai}{L:cG}
def rS(f:Nat->Int):Prop:=St (f 0) (f 1) (f 2) (f 3) (f 4) (f 5) (f 6) (f 7) (f 8) (f 9) (f 10) (f 11) (f 12)=0
def aft(x:Nat->Int)(v:aq)(i:Nat):Nat->Int:=xi (out 178 ([.i (x 0),.i (x 1),.i (x 2),.i (x 3),.i (x 4),.i (x 5),.i (x 6),.i (x 7),.i (x 8),.i (x 9),.i (x 10),.i (x 11),.i (x 12)]++xE (gt v i)++[.i (gt v i 14),.i (gt v i 15),.i (gt v i 16),.b (iF (bz v i 17).val)]))
def M0(x:Nat->Int)(v:aq):Nat->Nat->Int
 |0=>x
 |k+1=>aft (M0 x v k) v k

def t81(W:Int)(Q N M:RV)(P:Sl Q)(H:Sl N)(G:Sl M):∃o,TB.Ev 50 [.i W,.r Q,.r N,.r M] o/\∃e,o=.ret [.i e]/\(e=0->Je Q/\1<=W/\W<=4096):=by
 refine Sg rfl rfl (.inr λv D=>by obtain⟨_,h,_⟩:=D;cases h) ?_;simp[Y7,P.len,H.len,G.len]
 repeat'(first|intro _|split)
 refine⟨DG, ?_⟩;intro B;have A:0<Y Q.ae:=DG;have F:Je Q:=⟨P,A,by simpa[ci] using B⟩;have z:1<=W/\W<=4096:=aa;refine em (Y Q.ae) (λ_ V=>∃n:Int,V=[.i n]) ⟨0,rfl,aa,_,rfl⟩ ?_;rintro i _ X ⟨n,rfl⟩;simp[P.len];split;rename_i X;simp[du X P.sm,X];refine em W.toNat (λ_ V=>V=[]) ⟨0,rfl,aa,rfl⟩ ?_;rintro i _ X rfl;simp;split;rename_i X;have y:i<W.toNat:=aa;rw[aqJ _ _ _ _ _ F aa];simp[du y (show W.toNat<=140737488355328 from aa)];refine em (Y N.ae) (λ_ V=>∃n:Int,V=[.i n]) ⟨0,rfl,aa,_,rfl⟩ ?_;rintro i _ X ⟨n,rfl⟩;simp[H.len];split;rename_i X;simp[du X H.sm,X];refine em (Y M.ae) (λ_ V=>V=[]) ⟨0,rfl,aa,rfl⟩ ?_;rintro i _ X rfl;simp[G.len];split;rename_i X;simp[du X G.sm,X];exact⟨F,z⟩
def xF:Jf:=λX W V Q P N M=>Jd (t81 X W V Q P N M)

variable[Inhabited cm]
def Zm(bG ar:Int)(r:RV)(v:aq):Prop:=TB.Ev 62 [.r (eo (fY bG ar)),.r r] (.ret [.r (eo v),.b J])
def Zm.M1{X:aq}(h:Zm V H M W)(Q:Zm V H M X):W=X:=by
 have:=WI h Q;injection this with this;injection this with this _;injection this with this;exact ji RV.ae this




def Su(a b c d:Int):Prop:=dB a b c d=J/\a<b/\c<d
def Fg(a b c d:Int):Prop:=(-10000<=a/\a<0)/\(0<b/\b<=10000)/\(-10000<=c/\c<0)/\0<d/\d<=10000
def S6(p X:Int):Prop:=-10000<=p/\p<=X/\X<=10000
def Fg.jn1{X p W q Q:Int}(h:Fg V H F X)(a:S6 p W)(b:S6 q Q):Fg (jn (dB V H F X&&dB p W q Q) (min V p)) (jn (dB V H F X&&dB p W q Q) (max H W)) (jn (dB V H F X&&dB p W q Q) (min F q)) (jn (dB V H F X&&dB p W q Q) (max X Q)):=by
 simp only[Fg,S6] at*;have e:(dB V H F X&&dB p W q Q)=true:=by simp[dB];omega
 rw[e];simp only[Y.jn,cH];omega
def Su.join{d X W Q P:Int}(h:Su V H F d)(G:Su X W Q P):Su (jn (dB V H F d&&dB X W Q P) (min V X)) (jn (dB V H F d&&dB X W Q P) (max H W)) (jn (dB V H F d&&dB X W Q P) (min F Q)) (jn (dB V H F d&&dB X W Q P) (max d P)):=by
 obtain⟨N,D,B⟩:=h;obtain⟨M,A,z⟩:=G;rw[N,M];simp only[Y.jn,xT,cH];refine⟨?_,aa,aa⟩;simp[dB] at N M⊢;omega
def vX(d f l:Int):Int:=oi 159 [.i (oi 158 [.i d,.i f] 0),.i l] 0
def vY(d f l:Int):Int:=oi 159 [.i (oi 158 [.i d,.i f] 0),.i l] 1
def Ji(X W V Q r d f l:Int):Prop:=(X<=r*vX d f l/\r*vX d f l<=W)/\V<=r*vY d f l/\r*vY d f l<=Q
def rch(X W V:Int)(j:Nat):Int:=if j/2=0 then X else if j/2=1 then W else if j/2=2 then V else 0
def ai6(m X:Bool)(d l f W V Q:Int):Prop:=(m=E->W=d/\V=l)/\(X=E->Q=f)
structure Jj(f0 f1 f2 f3 g:Int)(rc:Nat->Int)(F:Nat->Bool)(x:Nat->Int)(n:Nat):Prop where
 fg:Fg f0 f1 f2 f3
 g1:f0≤-(841*g)/\841*g<=f1
 g2:f2≤-(841*g)/\841*g<=f3
 lb:∀j<n,∀d' l' f',ai6 (F (1+j)) (F 0) (x (3+2*j)) (x (4+2*j)) (x 2) d' l' f'->l'≠0->Ji f0 f1 f2 f3 (rc j) d' f' l'
def Ji.mono{X W Q P N r d f l:Int}(h:Ji V H F X r d f l)(M:W<=V)(G:H<=Q)(D:P<=F)(B:X<=N):Ji W Q P N r d f l:=by
 simp only[Ji] at*;omega
def Jj.join{G g p W q M:Int}(h:Jj V H F G g Q N P X)(a:S6 p W)(b:S6 q M)(w:∀B D A,ai6 (N (1+X)) (N 0) (P (3+2*X)) (P (4+2*X)) (P 2) B D A->D≠0->Ji p W q M (Q X) B A D):
  Jj (jn (dB V H F G&&dB p W q M) (min V p)) (jn (dB V H F G&&dB p W q M) (max H W)) (jn (dB V H F G&&dB p W q M) (min F q)) (jn (dB V H F G&&dB p W q M) (max G M)) g Q N P (X+1):=by
 have z:=h.fg.jn1 a b;have s:=h.g1;have r:=h.g2;have v:=h.fg;have e:(dB V H F G&&dB p W q M)=true:=by simp only[Fg,S6] at v a b;simp[dB];omega
 rw[e] at z⊢;simp only[Y.jn,cH] at z⊢;refine⟨z,aa,aa,λj o B D A k y=> ?_⟩;by_cases u:j=X;subst u;exact(w B D A k y).mono aa aa aa aa;exact(h.lb j aa B D A k y).mono aa aa aa aa
def Jj.skip{W g:Int}(h:Jj V H F W g Q N P X)(G:N (1+X)=E)(D:P (4+2*X)=0):Jj V H F W g Q N P (X+1):=by
 refine⟨h.fg,h.g1,h.g2,λj w B A z k M=> ?_⟩;by_cases y:j=X;subst y;exact(M ((k.1 G).2.trans D)).elim;exact h.lb j aa B A z k M
end
def Jk(v:aq):Prop:=∀x∈v,iF (x.getD 3 default).val=E
def Jk.nil:Jk []:=λx X=>by simp at X
def Jk.at(h:Jk W)(V:X<Y W):iF (W[X].getD 3 default).val=false:=h _ (pN V)
def Jk.cell(h:Jk W)(V:X<Y W):iF (bz W (X:Int) 3).val=false:=by
 have:=h.at V;simpa[bz,V] using this
section
variable{R:aU->Prop}{G:aI}{t:T}{O:ai}{L:cG}
variable[Inhabited cm]

def vB(v:RV)(i:Nat):Bool:=dB (ci v i 0) (ci v i 1) (ci v i 2) (ci v i 3)
def M2(u:RV)(i:Nat)(w:RV)(k:Nat):Bool:=vB u i&&vB w k&&FO (ci u i 0) (ci u i 1) (ci u i 2) (ci u i 3) (ci w k 0) (ci w k 1) (ci w k 2) (ci w k 3)
def flB(rB rC:Int)(u:RV)(i:Nat):Bool:=vB u i&&dB 0 (bH .mul I 841 rB) 0 (bH .mul I 841 rC)&&aiV (ci u i 0) (ci u i 1) (ci u i 2) (ci u i 3) 0 (bH .mul I 841 rB) 0 (bH .mul I 841 rC)
def M3(X:RV):Nat->aq
 |0=>[]
 |i+1=>eL 2 [.mk (.int I (ci X i 0)) [],.mk (.int I (ci X i 1)) [],.mk (.bool J) []] (M3 X i)
def Sv(X:aq)(a b:Nat):Bool:=BE.ab ⟨[(a:Int),(b:Int)],[],[eo X],[]⟩ (.look (.v 0) 2 (.v 0) (.v 1) (.c 0) 2)
def ai8(u:RV)(i:Nat)(X:RV)(ar:Int)(g:Nat):Bool:=vB u i&&dB (mS (ci X g) ar 0) (mS (ci X g) ar 1) (mS (ci X g) ar 2) (mS (ci X g) ar 3)&&FO (ci u i 0) (ci u i 1) (ci u i 2) (ci u i 3) (mS (ci X g) ar 0) (mS (ci X g) ar 1) (mS (ci X g) ar 2) (mS (ci X g) ar 3)
structure ClE(wg:RV)(ar:Int)(mv hd pr:RV):Prop where
 wk:lR=0
 nw:Y wg.ae<=8
 inb:k9 ar 0 (hJ-1)=J
 lm:Y mv.ae=Y aM.ae
 lh:Y hd.ae=Y aM.ae
 vm:∀i<Y mv.ae,vB mv i=J
 vh:∀i<Y hd.ae,vB hd i=J
 prs:∀i<Y pr.ae,0<=ci pr i 0/\ci pr i 0<ci pr i 1/\ci pr i 1<Y aM.ae
 pth:∀g<Y wg.ae,mS (ci wg g) ar 4=0
structure ClN(rB rC:Int)(aM:RV)(wg:RV)(ar:Int)(mv hd pr:RV):Prop where
 n1:∀a<Y aM.ae,∀b,a<b->b<Y aM.ae->Sv (M3 pr (Y pr.ae)) a b=J\/M2 mv a mv b=J
 n2:∀a<Y aM.ae,∀b,a<b->b<Y aM.ae->Sv (M3 pr (Y pr.ae)) a b=J\/M2 mv a hd b=J
 n3:∀a<Y aM.ae,∀b,a<b->b<Y aM.ae->Sv (M3 pr (Y pr.ae)) a b=J\/M2 hd a mv b=J
 n4:∀a<Y aM.ae,∀b,a<b->b<Y aM.ae->Sv (M3 pr (Y pr.ae)) a b=J\/M2 hd a hd b=J
 wgs:∀a<Y aM.ae,∀g<Y wg.ae,ai8 mv a wg ar g=J/\ai8 hd a wg ar g=J
 ax9:∀a<Y aM.ae,flB rB rC mv a=J/\flB rB rC hd a=J
structure arf(wg:RV)(ar:Int)(mv hd pr:RV):Prop extends ClE wg ar mv hd pr,ClN rB rC aM wg ar mv hd pr
end
section
variable{lt:aC->aC->Bool}
def zL(lt:aC->aC->Bool)(l:aq):Prop:=l.Pairwise λx y=>lt x y=J
def zL.eq(R:∀x,lt x x=E)(Q:∀x y z,lt x y=J->lt y z=J->lt x z=J):∀{l X:aq},zL lt l->zL lt X->l.Perm X->l=X
 |[],X,_,_,h=>(List.Perm.nil_eq h)
 |x::l,[],_,_,h=>(by have:=h.length_eq;simp at this)
 |x::l,y::X,N,M,h=>by
  have P:=iv.1 N;have O:=iv.1 M;have L:x=y:=by
   have W:x∈y::X:=h.mem_iff.1 au;have V:y∈x::l:=h.mem_iff.2 au;rcases dJ.1 W with W|W;exact W;rcases dJ.1 V with V|V;exact V.symm;have:=Q _ _ _ (P.1 y V) (O.1 x W);rw[R] at this;cases this
  subst L;rw[zL.eq R Q P.2 O.2 (List.perm_cons x|>.1 h)]
def aja(V:∀x y z,lt x y=J->lt y z=J->lt x z=J){x:aC}:∀{l:aq},zL lt l->(∀y∈l,lt x y=J\/lt y x=J)->zL lt (eH lt x l)
 |[],_,_=>aw5 _ _
 |y::r,h,R=>by
  have g:=iv.1 h;simp only[eH];split;rename_i W;refine iv.2 ⟨λz X=> ?_,h⟩;rcases dJ.1 X with rfl|X;exact W;exact V _ _ _ W (g.1 z X);rename_i W;have Q:lt y x=true:=(R y au).resolve_left W;refine iv.2 ⟨λz X=> ?_,aja V g.2 λz X=>R z (by simp[X])⟩;rcases OU.1 X with rfl|X;exact Q;exact g.1 z X
def ajb(W:∀x y z,lt x y=J->lt y z=J->lt x z=J):∀(l acc:aq),zL lt acc->(∀x∈l,∀y∈acc,lt x y=J\/lt y x=J)->l.Pairwise (λx y=>lt x y=J\/lt y x=J)->zL lt (l.foldl (λacc x=>eH lt x acc) acc)
 |[],acc,h,_,_=>h
 |x::l,acc,h,V,Q=>by
  have g:=iv.1 Q;refine ajb W l _ (aja W h λy X=>V x au y X) (λz R y X=> ?_) g.2;rcases OU.1 X with rfl|X;exact(g.1 z R).symm;exact V z (by simp[R]) y X
def ajc(X:∀x y z,lt x y=J->lt y z=J->lt x z=J)(h:W.Pairwise (λx y=>lt x y=J\/lt y x=J)):zL lt (bK lt W):=ajb X W [] uD au h
def arh(Q:∀x,lt x x=E)(V:∀x y z,lt x y=J->lt y z=J->lt x z=J){X:aq}(R:X.Perm W)(h:W.Pairwise (λx y=>lt x y=J\/lt y x=J)):bK lt X=bK lt W:=by
 have P:X.Pairwise (λx y=>lt x y=J\/lt y x=J):=(R.symm.pairwise_iff (λ{x y} h=>h.symm)).1 h;exact zL.eq Q V (ajc V P) (ajc V h) (((Dg X).trans R).trans (Dg W).symm)
end
def ajd(d:Bool):∀(X:ap)(x:aC),i7 d X x x=E
 |[],_=>rfl
 |c::X,x=>by simp[i7,ajd d X x]
def aje(d:Bool):∀(Q:ap)(x y z:aC),i7 d Q x y=J->i7 d Q y z=J->i7 d Q x z=J
 |[],_,_,_,h,_=>by simp[i7] at h
 |c::Q,x,y,z,V,X=>by
  simp only[i7] at V X⊢;by_cases R:aK c x=aK c y;by_cases W:aK c y=aK c z;rw[aE R] at V;rw[aE W] at X;rw[aE (R.trans W)];exact aje d Q x y z V X;rw[aJ W] at X;rw[aJ (by rw[R];exact W),R];exact X;rw[aJ R] at V;by_cases W:aK c y=aK c z;rw[aJ (by rw[<-W];exact R),<-W];exact V;rw[aJ W] at X;cases d;simp at V X;rw[aJ aa];simp;omega;simp at V X;rw[aJ aa];simp;omega
def ajf(X:ap)(W:aq):Prop:=W.Pairwise λx y=>∃c∈X,aK c x≠aK c y
section
variable{R:aU->Prop}{G:aI}{t:T}{O:ai}{L:cG}
variable[Inhabited cm]
variable{wg bd cs br a:RV}
def eZ(wg bd cs br a:RV):aX:=wk++[.r wg,.r bd,.r cs,.r br,.r a]
structure Mny(wg bd cs br:RV):Prop where
 wg:Y wg.ae<=8
 rl:Y aM.ae<=12
 bd:Y bd.ae<=16
 cs:Y cs.ae<=8
 bars:hJ<=64
 br:∀i<Y br.ae,(cr 62 br i).ae.length<=8
structure Cst(bd cs:RV):Prop where
 ari:0<Y cs.ae
 len:∀i<Y cs.ae,(cr 3 cs i).ae.length=Y aM.ae
 idx:∀i<Y cs.ae,∀j<(cr 3 cs i).ae.length,0<=ci (cr 3 cs i) j 0/\ci (cr 3 cs i) j 0<Y bd.ae
 apart:∀i<Y cs.ae,∀j<(cr 3 cs i).ae.length,∀k<j,ci (cr 3 cs i) k 0≠ci (cr 3 cs i) j 0
end
def Jl:T->T
 |.aS _ _ f=>f
 |t=>t
section
variable{R:aU->Prop}{G:aI}{t:T}{O:ai}{L:cG}
variable[Inhabited cm]
variable{a c d g k:RV}
def arj(h:jT):∃o,TB.Ev 28 wk o/\∃b,o=.ret [.b b]:=by
 refine jS ?_;simp[Y9,wk]
 repeat'(first|intro _|split)
 all_goals omega
def ark(W:Sl M)(N:∀i<Y M.ae,Sl (dl (.sl 4) (bz M.ae i 0))/\Sl (dl (.sl 58) (bz M.ae i 1))/\∀j<(dl (.sl 58) (bz M.ae i 1)).ae.length,Sl (cr 64 (dl (.sl 58) (bz M.ae i 1)) j)):
  T.wp TB.Ev (λo=>o=aU.ret [XV.b E]\/o=aU.ret [XV.b J]) (Jl (Jl MO)) ⟨[],[],[M],[]⟩ []:=by
 simp only[MO,Jl];refine em (Y M.ae) (λ_ V=>V=[]) ⟨0,rfl,aa,rfl⟩ ?_;rintro i _ G rfl;simp[W.len];intro X;obtain⟨F,P,H⟩:=N i X;refine⟨X,λ_=>⟨X,λ_=> ?_⟩⟩;refine em (dl (.sl 58) (bz M.ae i 1)).ae.length (λ_ V=>V=[]) ⟨0,rfl,aa,rfl⟩ ?_;rintro j _ D rfl;simp[W.len,P.len,X];refine cY (λQ=> ?_) (λB=> ?_);have e:=(H j Q).len;simp only[cr] at e;simp[Q,du Q P.sm];simp[du X W.sm]
def arl(X:Sl M)(W:∀i<Y M.ae,Sl (dl (.sl 4) (bz M.ae i 0))/\Sl (dl (.sl 58) (bz M.ae i 1))/\∀j<(dl (.sl 58) (bz M.ae i 1)).ae.length,Sl (cr 64 (dl (.sl 58) (bz M.ae i 1)) j)):∃o,TB.Ev 27 [.r M] o/\∃x,o=.ret [.b x]:=by
 refine jS ?_;simp[MO]
 repeat'(first|exact ark X W|intro _|split)
end
def Sw:Nat->T->T
 |0,t=>t
 |n+1,t=>Sw n (Jl t)
section
variable{R:aU->Prop}{G:aI}{t:T}{O:ai}{L:cG}
variable[Inhabited cm]
variable{a c d g f:RV}
structure qA(a c d g f:RV):Prop where
 sw:Sl a
 sb:Sl c
 sc:Sl d
 sr:Sl g
 so:Sl f
 Zo:∀i<Y d.ae,Sl (cr 3 d i)
 xG:∀i<Y g.ae,Sl (cr 62 g i)
 xH:∀k<Y g.ae,∀i<(cr 62 g k).ae.length,Sl (dl (.sl 4) (bz (cr 62 g k).ae i 0))/\Sl (dl (.sl 58) (bz (cr 62 g k).ae i 1))/\∀j<(dl (.sl 58) (bz (cr 62 g k).ae i 1)).ae.length,Sl (cr 64 (dl (.sl 58) (bz (cr 62 g k).ae i 1)) j)
def arm(h:jT)(s:qA a c d g f):T.wp TB.Ev (λo=>∃x,o=.ret [.b x]) (Sw 12 FL) ⟨[rB,rC,MV,MW,Sm,hJ],[],[aM,s4,vN,vO,bo,a,c,d,g,f],[]⟩ []:=by
 simp only[FL,Sw,Jl];refine em (Y d.ae) (λ_ V=>V=[]) ⟨0,rfl,aa,rfl⟩ ?_;rintro i _ P rfl;simp[s.sc.len];refine cY (λQ=> ?_) (λ_=> ?_);have e:=(s.Zo i Q).len;simp only[cr] at e;simp[Q,du Q s.sc.sm];refine em (Y g.ae) (λ_ V=>V=[]) ⟨0,rfl,aa,rfl⟩ ?_;rintro k _ N rfl;simp[s.sr.len];refine cY (λW=> ?_) (λ_=> ?_);obtain⟨o,X,x,rfl⟩:=arl (s.xG k W) (s.xH k W);simp only[cr] at X;cases x<;>simp[W,dC X,du W s.sr.sm];obtain⟨o,X,x,rfl⟩:=arj h;simp only[wk] at X;cases x<;>simp[dC X]
def arn(h:jT)(s:qA a c d g f):∃o,TB.Ev 12 (eZ a c d g f) o/\∃x,o=.ret [.b x]:=by
 refine jS ?_;show T.wp TB.Ev (λo=>∃x,o=.ret [.b x]) FL ⟨[rB,rC,MV,MW,Sm,hJ],[],[aM,s4,vN,vO,bo,a,c,d,g,f],[]⟩ [];have l:=arm h s;simp only[FL,Sw,Jl] at l;unfold FL
 repeat'(first|exact l|(rw[aiP];exact⟨_,rfl⟩)|(rw[aiO];refine cY (λ_=> ?_) (λ_=> ?_)))
end
section
variable{R:aU->Prop}{G:aI}{t:T}{O:ai}{L:cG}
def aro{Q:aC}(h:gD (X+1) [V,H,F] W=U Q):Q∈W/\aK 0 Q=V:=by
 unfold gD at h;refine⟨NB h, ?_⟩;have:=NN h;unfold jJ at this;have this:=uJ this;rw[axm] at this;cases Q with
 |nil=>simp at this
 |cons r P=>
  simp only[axm,ep,uG] at this;simpa[aK] using this.1
def aji{n:Nat}{X y:aC}:∀{m:aq},y∈eL n X m->y=X\/y∈m
 |[],h=>by simp[eL] at h;exact .inl h
 |r::W,h=>by
  simp only[eL] at h;split at h;rcases dJ.1 h with h|h;exact .inl h;exact .inr (by simp[h]);rcases dJ.1 h with h|h;exact .inr (by simp[h]);rcases aji h with h|h;exact .inl h;exact .inr (by simp[h])
def Zp{n:Nat}{row:aC}:∀{m:aq},(eL n row m).length<=Y m+1
 |[]=>by simp[eL]
 |r::X=>by
  have:=Zp (n:=n) (row:=row) (m:=X);simp only[eL];split;simp;simp only[pO];omega
def arp(P:Sl M)(n:Int)(G:∀j<Y M.ae,0<=ci M j 0/\ci M j 0<n)(F:∀j<Y M.ae,∀k<j,ci M k 0≠ci M j 0):TB.Ev 37 [.r M,.i n] (.ret [.b J]):=by
 refine qz ?_;simp[R6];refine em (Y M.ae) (λi D=>∃m,D=[.r (eo m)]/\Y m<=i/\∀X∈m,∃k<i,aK 0 X=ci M k 0) ⟨0,rfl,aa,[],rfl,au,au⟩ ?_;rintro i _ y ⟨m,rfl,x,N⟩;simp[P.len];intro W;have e:=G i W;simp only[ci] at e;refine⟨W,e.1,e.2, ?_, ?_⟩;split;rename_i X B;exfalso;obtain⟨A,z⟩:=aro B;obtain⟨k,H,V⟩:=N X A;exact F i W k H (by rw[<-V,z];rfl);rfl;rw[du W P.sm];refine⟨_,rfl,pP Zp aa,λX Q=> ?_⟩;rcases aji Q with rfl|Q;exact⟨i,aa,rfl⟩;obtain⟨k,H,V⟩:=N X Q;exact⟨k,aa,V⟩

variable[Inhabited cm]
variable{b c d g a:RV}
structure Cns(a:RV):Prop where
 fnd:∀i<Y a.ae,∃j<Y bo.ae,ci bo j 0=ci a i 0/\ci bo j 3≠1
 ord:∀i<Y a.ae,0<i->ci a (i-1) 0<ci a i 0
end
def Er(P:Prop)(c e:Int):Prop:=(P->e=0)/\(¬P->e=c)
def Er.no{P:Prop}(h:¬P):Er P V V:=⟨λp=>bp p h,λ_=>rfl⟩
def Er.ok{P:Prop}{c:Int}(h:P):Er P c 0:=⟨λ_=>rfl,λp=>bp h p⟩
structure TrP(a b c:Int):Prop where
 fc:1<=c/\c<=32768
 fa:-c<=a/\a<=c
 fb:-c<=b/\b<=c
 q:a*a+b*b=c*c
 g:JO (JO a.natAbs b.natAbs) c.natAbs=1
def tkI(X:RV)(k:Nat)(ar:Int):Int:=ci X k 1+(ar-ci X k 0)*ci X k 2
def art(X:RV)(k:Nat)(ar:Int):Prop:=k<Y X.ae/\ci X k 0<=ar/\(k+1<Y X.ae->ar<ci X (k+1) 0)
structure TpK(bars:Int)(tp:RV)(k:Nat):Prop where
 inc:0<k->ci tp (k-1) 0<ci tp k 0
 lt:ci tp k 0<bars
 ti:-65536<=ci tp k 1/\ci tp k 1<=65536
 st:-65536<=ci tp k 2/\ci tp k 2<=65536
structure PsK(bars:Int)(ps:RV)(k:Nat):Prop where
 ge:0<=ci ps k 0
 lt:ci ps k 0<=bars-2
 inc:0<k->ci ps (k-1) 0<ci ps k 0
 kd:1<=ci ps k 1/\ci ps k 1<=2
 lo:0<=ci ps k 2
 hi:ci ps k 2<=ci ps k 3
 mx:ci ps k 3<=1048576
structure SpK(bars:Int)(sp:RV)(k:Nat):Prop where
 fr:0<=ci sp k 0/\ci sp k 0<=bars
 to:0<=ci sp k 1/\ci sp k 1<=bars
 ne:ci sp k 0≠ci sp k 1
 lo:-1099511627776<=ci sp k 2
 hi:ci sp k 2<=ci sp k 3
 mx:ci sp k 3<=1099511627776
structure Zq(bars:Int)(tp:RV):Prop where
 br:1<=bars/\bars<=4096
 pos:0<Y tp.ae
 zero:ci tp 0 0=0
 all:∀k<Y tp.ae,TpK bars tp k
def Zq.mono{W:Int}{X:RV}(h:Zq W X):∀{k j:Nat},j<k->k<Y X.ae->ci X j 0<ci X k 0
 |k+1,j,P,V=>by
  have:=(h.all (k+1) V).inc aa;simp at this;by_cases Q:j=k;subst Q;exact this;have:=h.mono (k:=k) (j:=j) aa aa;omega
def TkP(W:Int)(X:RV):Prop:=∀(k:Nat)(ar:Int),0<=ar->ar<W->art X k ar->1<=tkI X k ar/\tkI X k ar<=65536
structure Sx(bars:Int)(tp ps sp:RV):Prop where
 t:Zq bars tp
 k:TkP bars tp
 p:∀k<Y ps.ae,PsK bars ps k
 s:∀k<Y sp.ae,SpK bars sp k
structure Jm(bars:Int)(tp ps sp:RV)(e:Int):Prop where
 l:¬(Y tp.ae<=4096/\Y ps.ae<=4096/\Y sp.ae<=256)->e=2
 k:Y tp.ae<=4096/\Y ps.ae<=4096/\Y sp.ae<=256->Er (Sx bars tp ps sp) 130 e
section
variable{R:aU->Prop}{G:aI}{t:T}{O:ai}{L:cG}
def Jm.no{Q:Int}{X W V:RV}(h:Y X.ae<=4096/\Y W.ae<=4096/\Y V.ae<=256)(P:¬Sx Q X W V):Jm Q X W V 130:=⟨λk=>bp h k,λ_=>Er.no P⟩
def Jm.ok{V:Int}{X ps W:RV}(h:Y X.ae<=4096/\Y ps.ae<=4096/\Y W.ae<=256)(Q:Sx V X ps W):Jm V X ps W 0:=⟨λk=>bp h k,λ_=>Er.ok Q⟩


def ou{P:Nat->Prop}(h:∀k<X,P k)(W:P X):∀k<X+1,P k:=λk V=>by
 by_cases e:k=X;subst e;exact W;exact h k aa
def spB(c:Nat->Int):Bool:=kM (c 10) (c 11)&&kM (c 12) (c 13)&&decide (0<=c 10)&&decide (MT (c 10) (c 11) (c 12) (c 13)<0)&&decide (c 12<=c 13)
structure SgP(roles bars:Int)(c:Nat->Int):Prop where
 ok:FQ roles bars c
 sp:spB c=J

structure FdP(roles:Int)(c:Nat->Int):Prop where
 kind:1<=c 4/\c 4<=9
 side:if c 4=1\/c 4=3\/c 4=4\/c 4=9 then 1<=c 5/\c 5<=2 else c 5=0
 dir:if c 4=1\/c 4=2 then 1<=c 6/\c 6<=8 else if c 4=3\/c 4=4\/c 4=5 then 0<=c 6/\c 6<=8 else c 6=0
 aqC:if c 4=3\/c 4=4\/c 4=5\/c 4=9 then 1<=c 7/\c 7<=3 else c 7=0
 size:if c 4=1\/c 4=2 then 1<=c 8/\c 8<=16 else if c 4=6 then 1<=c 8/\c 8<=7 else c 8=0
 wth:if c 4=7\/c 4=8 then 1<=c 9/\c 9<=roles else c 9=0
def Jm.p{X W:RV}(h:Jm V M X W 0):Sx V M X W:=by
 by_cases Q:Y M.ae<=4096/\Y X.ae<=4096/\Y W.ae<=256;exact Classical.byContradiction λP=>by have:=(h.k Q).2 P;omega
 have:=h.l Q;omega
variable[Inhabited cm]
structure RoP(k:Nat):Prop where
 x:0<=ci aM k 1/\ci aM k 1<=rB
 y:0<=ci aM k 2/\ci aM k 2<=rC
 f:0<=ci aM k 3/\ci aM k 3<=7
structure SiP(k:Nat):Prop where
 id:0<=ci bo k 0/\ci bo k 0<=1048576
 inc:0<k->ci bo (k-1) 0<ci bo k 0
 sg:SgP (Y aM.ae) hJ (ci bo k)
structure WkP:Prop where
 w:1<=rB/\rB<=1000
 d:1<=rC/\rC<=1000
 t:TrP MV MW Sm
 a:0<=MV
 b:0<=MW
 n:0<Y aM.ae
 r:∀k<Y aM.ae,RoP k
 s:∀k<Y bo.ae,SiP k
def Sy:Int:=oi 50 [.i hJ,.r s4,.r vN,.r vO] 0
structure WkE(e:Int):Prop where
 l:¬(Y aM.ae<=64/\Y bo.ae<=4096)->e=2
 c:Y aM.ae<=64/\Y bo.ae<=4096->Sy≠0->e=Sy
 k:Y aM.ae<=64/\Y bo.ae<=4096->Sy=0->Er WkP 190 e
def WkE.no(X:Y aM.ae<=64/\Y bo.ae<=4096)(W:Sy=0)(V:¬WkP):WkE 190:=⟨λk=>bp X k,λ_ k=>bp W k,λ_ _=>Er.no V⟩
end
section
variable{lt:aC->aC->Bool}{p:aC->Prop}
end
section
variable{R:aU->Prop}{G:aI}{t:T}{O:ai}{L:cG}
variable[Inhabited cm]
end
def Dh(c:Nat->Int)(x y z:Int)(b:Bool):Prop:=x=c 0/\(if b=J then y=0/\z=0 else if c 4=3\/c 4=4\/c 4=5 then(0<=y/\y<=8)/\1<=z/\z<=3 else if c 4=9 then y=0/\1<=z/\z<=3 else y=0/\z=0)
def Sz(c:Nat->Int)(r:RV)(k:Nat):Prop:=Dh c (ci r k 0) (ci r k 1) (ci r k 2) (cb r k 3)
abbrev zM(l:aq):aq:=bK (bB.lex [0] E).lt l
def Di(l:aq)(r:RV):Prop:=Y l=Y r.ae/\∀k<Y l,Sz (gt (zM l) k) r k
section
variable{R:aU->Prop}{G:aI}{t:T}{O:ai}{L:cG}
def arC(c:Nat->Int)(x y z:Int)(b:Bool):∃o,TB.Ev 88 (xE c++[.i x,.i y,.i z,.b b]) o/\∃e,o=.ret [.b e]/\(e=J<->Dh c x y z b):=by
 refine jS ?_;simp[YY,xE,Dh];cases b
 all_goals
  simp
  repeat'(refine cY (λ_=> ?_) (λ_=> ?_))
  all_goals grind [k9]
def arD(c:Nat->Int)(j:Nat)(h:j<14):aK j (zI c)=c j:=by
 match j,h with
 |0,_|1,_|2,_|3,_|4,_|5,_|6,_|7,_|8,_|9,_|10,_|11,_|12,_|13,_=>rfl
structure vP(l:aq):Prop where
 n:Y l<=4096
 k:zJ l
 m:∀x∈l,∃c,x=zI c
def vP.rw{l:aq}(h:vP l){i:Nat}(X:i<Y l):zI (gt l i)=l[i]:=by
 obtain⟨c,W⟩:=h.m l[i] (pN X);have:∀j<14,gt l i j=c j:=λj V=>by
  have:gt l i j=aK j l[i]:=by simp[gt,bz,aK,X]
  rw[this,W,arD _ _ V]
 rw[W];simp only[zI];rw[this 0 aa,this 1 aa,this 2 aa,this 3 aa,this 4 aa,this 5 aa,this 6 aa,this 7 aa,this 8 aa,this 9 aa,this 10 aa,this 11 aa,this 12 aa,this 13 aa]
def Dj(V:X<Y W)(j:Nat):gt W X j=aK j W[X]:=by simp[gt,bz,aK,V]
def vP.by{l:aq}(h:vP l):vP (zM l):=⟨by rw[oI];exact h.n,h.k.perm (Dg _),λx X=>h.m x ((Dg _).mem_iff.1 X)⟩
def vP.to(V:X<Y W):∃k<Y W,∀j,gt (zM W) k j=gt W X j:=by
 have P:W[X]∈zM W:=(Dg _).mem_iff.2 (pN V);obtain⟨k,Q,e⟩:=axn P;have N:k<Y W:=by rwa [oI] at Q
 exact⟨k,N,λj=>by rw[Dj Q,Dj V,e]⟩
def vP.from(N:X<Y W):∃i<Y W,∀j,gt (zM W) X j=gt W i j:=by
 have V:X<(zM W).length:=by rwa [oI]
 have P:(zM W)[X]∈W:=(Dg _).mem_iff.1 (pN V);obtain⟨i,Q,e⟩:=axn P;exact⟨i,Q,λj=>by rw[Dj V,Dj Q,e]⟩
def vP.inj{l:aq}(h:vP l){a b:Nat}(X:a<Y l)(W:b<Y l)(e:gt l a 0=gt l b 0):a=b:=by
 rcases Nat.lt_trichotomy a b with q|q|q;exact bp (by rw[<-Dj X,<-Dj W];exact e) (NC.1 h.k a b X W q);exact q;exact bp (by rw[<-Dj X,<-Dj W];exact e.symm) (NC.1 h.k b a W X q)
def Dh.congr(e:∀j,Q j=P j){b:Bool}:Dh Q V H F b<->Dh P V H F b:=by
 have:Q=P:=funext e;rw[this]
variable[Inhabited cm]
def arE(bG ar:Int)(h:jT):vP (fY bG ar):=
 ⟨aqU (zK xF h).2,aqT (zK xF h).2,λx X=>by
  obtain⟨k,-,e,-⟩:=aqS (zK xF h).2 X;exact⟨_,e⟩⟩
structure Zr(bG ar:Int)(r:RV)(e:Int):Prop where
 c:jf bG ar≠0->e=jf bG ar
 k:jf bG ar=0->Er (Di (fY bG ar) r) 270 e
def x85(h:jT)(bG ar:Int)(r:RV)(N:Sl r):∃o,TB.Ev 39 (wk++[.i bG,.i ar,.r r]) o/\∃e,o=.ret [.i e]/\Zr bG ar r e:=by
 by_cases V:fY bG ar=[];refine⟨_,aq6 xF h bG ar r N V,_,rfl,λX=>by rw[aE X],λX=> ?_⟩;rw[aJ aa,V];split;rename_i A;exact Er.ok ⟨dG,λk Q=>bp Q au⟩;rename_i A;exact Er.no λp=>A (by have:=p.1;simp at this;omega)
 have V:=List.length_pos_iff.2 V;refine jS ?_;have z:=e77 xF h bG ar;have H:=arE bG ar h;have y:∀e,Zr bG ar r e<->(jf bG ar≠0->e=jf bG ar)/\(jf bG ar=0->Er (Di (fY bG ar) r) 270 e):=λe=>⟨λq=>⟨q.c,q.k⟩,λq=>⟨q.1,q.2⟩⟩
 simp only[y];clear y;simp only[wk,gA,gU] at z;generalize fY bG ar=l at*;generalize jf bG ar=e at*;simp[RZ,wk,dC z,N.len];refine cY (λX=> ?_) (λX q=>bp q X);have x:¬Di l r->(¬e=0->270=e)/\(e=0->Er (Di l r) 270 270):=λp=>⟨λq=>bp X q,λ_=>Er.no p⟩
 refine cY (λM=> ?_) (λM=>x λp=>M (by have:=p.1;omega));have M:Y l=Y r.ae:=aa;have hn:=H.n;rw[aiQ];refine⟨.inl rfl,λ_=> ?_,λh=> ?_,λ_ h=> ?_⟩;simp;refine⟨aa, ?_⟩
 first|rw[MQ]|rw[MS]
 refine⟨_,aqL dG (by simpa using H.k), ?_⟩;simp;have w:(bK (bB.lex [0] E).lt l).length=Y l:=oI;refine em (Y l) (λi G=>∃v,G=[.r (eo v)]/\Y v<=i/\∀k<i,∃q<Y l,gt (zM l) q 0=gt l k 0/\Sz (gt l k) r q) ⟨0,rfl,aa,[],rfl,au,aa⟩ ?_;rintro i _ W ⟨v,rfl,ag,u⟩;simp;refine cY (λW=> ?_) (λW=> ?_);refine⟨W, ?_⟩;refine em (Y l) (λj G=>G=[.r (eo v)]/\∀q<j,¬(gt (zM l) q 0=gt l i 0/\Sz (gt l i) r q)) ⟨0,rfl,aa,rfl,aa⟩ ?_;rintro j _ P ⟨rfl,d⟩;have F:∀q<j,gt (zM l) q 0=gt l i 0->¬Sz (gt l i) r q:=λq D a b=>d q D ⟨a,b⟩
 simp[N.len];refine cY (λP=>⟨P,cY (λg=>⟨aa, ?_⟩) (λg=> ?_)⟩) (λP=>x λp=> ?_);obtain⟨o,s,b,rfl,m⟩:=arC (gt l i) (ci r j 0) (ci r j 1) (ci r j 2) (cb r j 3);simp only[xE,gt,ci,cb,gA,gU] at s;rw[dC s];simp[du P (show Y l<=140737488355328 from aa),du W (show Y l<=140737488355328 from aa)];refine cY (λB=> ?_) (λB=> ?_);exact⟨by rw[N.len];omega,aa,_,rfl,dG,ou u ⟨j,P,g,m.1 B⟩⟩;exact ou F λ_ q=>B (m.2 q)
 rw[du P aa];exact⟨rfl,ou F λe=>bp e g⟩;obtain⟨k,Q,e⟩:=vP.to W;exact F k aa (e 0) ((Dh.congr e).1 (p.2 k Q));have af:i=Y l:=aa;subst af;refine⟨λq=>bp X q,λ_=>Er.ok ⟨M,λk Q=> ?_⟩⟩;obtain⟨i,W,f⟩:=vP.from Q;obtain⟨q,D,e2,e3⟩:=u i W;have:q=k:=H.by.inj (by rw[w];exact D) (by rw[w];exact Q) (by rw[e2,f]);subst this;exact(Dh.congr f).2 e3;simp at h;simp[h] at V;simp at h;simp[h] at V
def M4(bG ar:Int)(r:RV):Int:=oi 39 (wk++[.i bG,.i ar,.r r]) 0
def ajn(h:jT)(bG ar:Int)(r:RV)(X:Sl r):TB.Ev 39 (wk++[.i bG,.i ar,.r r]) (.ret [.i (M4 bG ar r)])/\Zr bG ar r (M4 bG ar r):=Jd (x85 h bG ar r X)
end
