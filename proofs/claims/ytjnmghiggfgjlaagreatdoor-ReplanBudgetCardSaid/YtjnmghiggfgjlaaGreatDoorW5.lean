/- Part 5. -/
import Derived.Test.YtjnmghiggfgjlaaGreatDoorW4
set_option linter.all false
set_option maxRecDepth 100000
set_option maxHeartbeats 100000000
open Bool renaming true->J,false->E
open Nat renaming le_trans->md,zero_le->rO,le_of_not_lt->QR,le_antisymm->Vu,lt_succ_self->akR,succ_le_succ->av2
open List renaming cons_append->cU,range->dj,nil_append->du,getElem?_eq_getElem->dB,map_cons->dG,mem_append->fg,getElem?_append_left->fT,mem_of_getElem?->jA,map_nil->oD,getElem_mem->sK,length_eq_zero_iff->AC,mem_of_find?_eq_some->Vg,find?_some->ab8,length->Y
open Option renaming some->U
open Int renaming toNat_natCast->rM
open Go.IntKind renaming i64->I
namespace Go.Proofs.YtjnmghiggfgjlaaGreatDoor.Y
open Go.RowKit
noncomputable section
variable{X:Nat}{W:av}{V:RV}
section
variable[Inhabited cm]
def aCG(h:dV)(bw ap:Int)(x:Nat->Int)(r:RV)(V:Sl r):∃o,TB.Ev 113 (wk++[.i bw,.i ap,.i (x 0),.i (x 1),.i (x 2),.i (x 3),.i (x 4),.i (x 5),.i (x 6),.i (x 7),.i (x 8),.i (x 9),.i (x 10),.i (x 11),.i (x 12),.r r]) o/\∃X,o=.ret X/\fA (kI 14) X=J/\(xi X 13=0->ma bw ap=0):=by
 by_cases R:ma bw ap=0;obtain⟨o,W,X,Q,P⟩:=t89 h bw ap x r V
 grind
 refine eI ?_;have W:=I8 oW h bw ap;simp only[wk,cU,du] at W;simp[T89,wk,aY W,R,xi]
def Qu(r:RV):Nat->av
 |0=>[]|k+1=>iD 1 [.mk (.int I (ci r k 0)) [],.mk (.int I (ci r k 0)) [],.mk (.int I (ci r k 1)) [],.mk (.int I (ci r k 2)) [],.mk (.bool (cb r k 3)) []] (Qu r k)
def aCH{bw ap:Int}(V:jU=0->BT)(W:X<(dS bw ap).length):BR (Y ay.ah) eU (bX (dS bw ap) X):=by
 obtain⟨k,_,R,_,_,Q⟩:=as1 V (sK W);have e:∀j<14,bX (dS bw ap) X j=ci di k j:=λj P=>by
  rw[<-Qk (ci di k) j P,<-R];simp[bX,aQ,aI,W]
 have:=Q;constructor;rw[e 4 ae];exact this.kind;rw[e 1 ae];exact this.bw;rw[e 2 ae];exact this.ap;rw[e 3 ae];exact this.mark;rw[e 4 ae,e 5 ae];exact this.side;rw[e 4 ae,e 6 ae];exact this.dir;rw[e 4 ae,e 7 ae];exact this.aBg;rw[e 4 ae,e 8 ae];exact this.size;rw[e 4 ae,e 9 ae];exact this.wth;rw[e 10 ae,e 11 ae];exact this.from_;rw[e 12 ae,e 13 ae];exact this.to
def aCI(h:dV)(bw ap:Int)(x:Nat->Int)(W r:RV)(ce:Sl W)(O:Sl r):∃o,TB.Ev 148 (wk++[.i bw,.i ap,.i (x 0),.i (x 1),.i (x 2),.i (x 3),.i (x 4),.i (x 5),.i (x 6),.i (x 7),.i (x 8),.i (x 9),.i (x 10),.i (x 11),.i (x 12),.r W,.r r]) o/\∃v e,o=.ret [.r (ao v),.i e]/\Y v<=100000/\(¬e=0->v=[])/\(e=0->v=bN (bu.lex [1,0] E).lt (qb W bw.toNat (ao (Qu r (Y r.ah))) (dS bw ap) (LR [x 0,x 1,x 2,x 3,x 4,x 5,x 6,x 7,x 8,x 9,x 10,x 11,x 12]) (dS bw ap).length))/\((oi 113 (wk++[.i bw,.i ap,.i (x 0),.i (x 1),.i (x 2),.i (x 3),.i (x 4),.i (x 5),.i (x 6),.i (x 7),.i (x 8),.i (x 9),.i (x 10),.i (x 11),.i (x 12),.r r]) 13=0/\Y W.ah=Y ay.ah/\∀k<Y W.ah,Qq W k=0)->e=0):=by
 generalize N:(oi 113 (wk++[.i bw,.i ap,.i (x 0),.i (x 1),.i (x 2),.i (x 3),.i (x 4),.i (x 5),.i (x 6),.i (x 7),.i (x 8),.i (x 9),.i (x 10),.i (x 11),.i (x 12),.r r]) 13=0/\Y W.ah=Y ay.ah/\∀k<Y W.ah,Qq W k=0)=X;refine eI ?_;obtain⟨o,Q,l,rfl,D,G⟩:=aCG h bw ap x r O;obtain⟨f,rfl⟩:=Qn D;rw[show dj 14=[0,1,2,3,4,5,6,7,8,9,10,11,12,13] from rfl] at Q G;have B:X->f 13=0:=λk=>by
  rw[<-N] at k;have:=k.1;rw[oi,DT Q] at this;exact this
 simp only[wk,cU,du,dG,oD] at Q;rw[show fq=(T.call _ _ _ _ _ _ (T.aJ _ _ (T.aJ _ (T.loop _ _ _ (T.aJ _ (T.aS _ (T.aS _ (T.call _ _ _ _ _ _ (T.aJ _ (T.aJ _ _ (fq.at [0,1,0,0,0,0,0,0,0,1])) _)))) (fq.at [0,1,0,0,1]))) _))) from rfl];simp[wk,aY Q];refine aW (λA=> ?_) (λz=>⟨[],_,⟨rfl,rfl⟩,aw,λ_=>rfl,λh=>bE h z,B⟩);have M:=G A;have P:BT:=(yD oW h).2 (by
  have:=M;unfold ma at this;by_cases R:jU=0;exact R;rw[aP R] at this;exact this)
 have j:0<=bw/\bw<Y ay.ah:=by
  have R:jU=0:=by
   have:=M;unfold ma at this;by_cases R:jU=0;exact R;rw[aP R] at this;exact this
  have:=M;unfold ma at this;rw[aH R] at this;by_cases V:(jk bw 0 (Y ay.ah-1)&&jk ap 0 (eU-1))=J;simp[jk] at V;omega;rw[aP V] at this;omega
 have y:=abf W bw.toNat (ao (Qu r (Y r.ah))) (dS bw ap) (LR [x 0,x 1,x 2,x 3,x 4,x 5,x 6,x 7,x 8,x 9,x 10,x 11,x 12]) (dS bw ap).length;have bY:=UB (bw:=bw) (ap:=ap) (λ_=>P);have w:=aa1 (bw:=bw) (ap:=ap) (λ_=>P);have u:∀i<(dS bw ap).length,BR (Y ay.ah) eU (bX (dS bw ap) i):=λi V=>aCH (λ_=>P) V
 have F:=I8 oW h bw ap;simp only[wk,cU,du] at F;have t:=ce.sm;refine aW (λjc=> ?_) (λs=>⟨[],_,⟨rfl,rfl⟩,aw,λ_=>rfl,λh=>bE h ae,λk=>bE (by rw[<-N] at k;rw[ce.len,h.rl.len,k.2.1]) s⟩);rw[ce.len,h.rl.len] at jc;refine bQ (Y W.ah) (λi L=>L=[]) ⟨0,rfl,rO _,rfl⟩ ?_;rintro i _ V rfl;simp[ce.len];refine aW (λV=> ?_) (λg=> ?_);simp[bD V t,V];refine λp=>⟨[],280,⟨rfl,rfl⟩,aw,aw,aw,λk=>bE (by rw[<-N] at k;exact k.2.2 i V) p⟩
 rw[show fq.at [0,1,0,0,1]=(T.loop _ _ _ (T.aJ _ _ (T.call _ _ _ _ _ _ (T.aS _ (T.aS _ (fq.at [0,1,0,0,1,0,1,0,0,0])))))) from rfl];refine bQ (Y r.ah) (λi L=>L=[.r (ao (Qu r i))]) ⟨0,rfl,rO _,rfl⟩ ?_;rintro q _ H rfl;simp[O.len];refine aW (λH=> ?_) (λd=> ?_);simp[bD H O.sm,H,Qu,ci,cb];have n:q=Y r.ah:=ae;subst n;obtain⟨m,rfl⟩:∃k:Nat,bw=k:=⟨bw.toNat,ae⟩;rw[aY F];simp[ce.len];refine⟨ae, ?_⟩;refine aCF _ _ h m ap _ _ _ _ _ _ _ _ _ _ _ _ _ _ _ _ _ _ _ _ _ _ _ _ _ _ _ _ _ _ W r (ao (Qu r (Y r.ah))) _ (LR [x 0,x 1,x 2,x 3,x 4,x 5,x 6,x 7,x 8,x 9,x 10,x 11,x 12]) rfl bY ae ce ae P.nr.2 u w ?_;refine⟨_,0,rfl, ?_,aw,aw,λ_=>rfl⟩;rw[(BS _).length_eq];simp only[rM] at y;omega
end
def aju:ar:=[0,1,1,0,0,0,1,0,0,0,1,0,1,0,1,0,1,0,0,0,1,0,1,0,1]
section
variable{R:aX->Prop}{G:aL}{t:T}{O:aj}{L:ck}
variable[Inhabited cm]
def UN(V Q W:RV)(X:av)(p:Nat):Prop:=Gj V W (ci (ao X) p 0).toNat (ci (ao X) p 1).toNat=J/\Gj Q W (ci (ao X) p 0).toNat (ci (ao X) p 1).toNat=J
def aCJ(h:dV)(ap:Int)(n W mv V Q re l:RV)(y:Gh ay n W mv V Q re l)(X P:Prop)(x7 x8 x9 a3 a4 a9 w6:Int)(ba bb UJ bc bg:RV)(m N:av)(L:ck)
  (hn:Y ay.ah<=64)(bk:Y W.ah=Y ay.ah)(bl:Y V.ah=Y ay.ah)(br:Y Q.ah=Y ay.ah)
  (bs:kj m)(cc:Y m<=200000*Y ay.ah)(hm:m=[]<->P)(ab:as5 (Y ay.ah) N)
  (g:X<->P/\(∀i<Y ay.ah,iN V W i 4=0)/\(∀i<Y ay.ah,iN Q W i 4=0)/\aa5 n ap l (ao (yE V W (Y ay.ah))) (ao N)/\∀p<Y N,UN V Q W N p):
  T.wp TB.Ev (λo=>∃v e,o=aX.ret [.r (ao v),.i e]/\(¬e=0->v=[])/\((e=0/\v=[])<->X)) (qa.at aju) ⟨[oU,oV,wZ,I6,I7,eU,ap,x7,x8,x9,a3,a4,a9,w6],[],[ay,l9,ng,nh,di,n,W,mv,V,Q,re,l,ba,bb,UJ,bc,bg,ao m,ao N],[]⟩ L:=by
 rw[show qa.at aju=T.loop _ _ _ _ from rfl];have ac:Y ay.ah<=140737488355328:=ae;have DZ:lenOf V.val=(Y ay.ah:Int):=by rw[y.bf.len,bl]
 have Jc:lenOf Q.val=(Y ay.ah:Int):=by rw[y.af.len,br]
 have BW:lenOf W.val=(Y ay.ah:Int):=by rw[y.bd.len,bk]
 have u:∀{e:Int},e≠0->¬X->∃v d,(ao []=ao v/\e=d)/\(¬d=0->v=[])/\(d=0/\v=[]<->X):=λ{e} he bt=>⟨[],e,⟨rfl,rfl⟩,λ_=>rfl,by simp[he,bt]⟩
 have s1:X->∀i<Y ay.ah,iN V W i 4=0:=λk=>(g.1 k).2.1
 have s2:X->∀i<Y ay.ah,iN Q W i 4=0:=λk=>(g.1 k).2.2.1
 refine bQ (Y ay.ah) (λi B=>B=[.r (ao (yE V W i))]/\∀k<i,iN V W k 4=0) ⟨0,rfl,rO _,rfl,ae⟩ ?_;rintro i _ G ⟨rfl,ag⟩;simp[DZ,BW];refine aW (λG=> ?_) (λc=> ?_);simp[bD G ac,G];have q1:=Jg V W i;exact aW (λs=>⟨ae,rfl,w5 ag s⟩) (λH=>u H λk=>H (s1 k i G));have b:i=Y ay.ah:=Vu G (QR c);subst b;refine bQ (Y ay.ah) (λi B=>B=[.r (ao (yE Q W i))]/\∀k<i,iN Q W k 4=0) ⟨0,rfl,rO _,rfl,ae⟩ ?_;rintro i _ G ⟨rfl,al⟩;simp[Jc,BW];refine aW (λG=> ?_) (λc=> ?_);simp[bD G ac,G];have q1:=Jg Q W i;exact aW (λs=>⟨ae,rfl,w5 al s⟩) (λH=>u H λk=>H (s2 k i G));have b:i=Y ay.ah:=Vu G (QR c);subst b;have b0:=Jg V W (Y ay.ah);have b1:=Jg Q W (Y ay.ah);have cf:=ab.1;obtain⟨o,g1,f,b2,rfl,ch,cl,b3⟩:=aB4 h n ap l (ao (yE V W (Y ay.ah))) (ao N) y.wg y.bx (l8 ae) (l8 ae);simp only[wk,cU,du] at g1;rw[aY g1];simp;have b4:X->b2=0/\f=[]:=λk=>b3.2 (g.1 k).2.2.2.1
 refine aW (λcn=> ?_) (λH=>u H λk=>H (b4 k).1);refine bQ (Y f) (λj B=>∃M,B=[.r (ao M)]/\kj M/\Y M<=200000*Y ay.ah+2*j/\(M=[]<->m=[]/\j=0)) ⟨0,rfl,rO _,m,rfl,bs,ae,aw⟩ ?_;rintro j _ q ⟨M,rfl,a,co,cp⟩;simp;refine aW (λq=>⟨q, ?_⟩) (λb5=> ?_);refine aW (λs=> ?_) (λs=> ?_);rw[bD q ae];exact⟨_,rfl,kj.ins rfl (kj.ins rfl a),by refine md (vo _ _ _) ?_;refine md (av2 (vo _ _ _)) ?_;omega,D0 ae⟩;rw[bD q ae];exact⟨_,rfl,kj.ins rfl a,by refine md (vo _ _ _) ?_;omega,D0 ae⟩;have b6:j=Y f:=Vu q (QR b5);subst b6;refine bQ (Y N) (λp B=>∃z,B=[.r (ao z)]/\kj z/\Y z<=200000*Y ay.ah+2*Y f+2*p/\(z=[]<->M=[]/\∀p'<p,UN V Q W N p')) ⟨0,rfl,rO _,M,rfl,a,ae,aw⟩ ?_;rintro p _ A ⟨z,rfl,aa,cs,ct⟩;simp[b0,b1];refine aW (λA=>⟨A, ?_⟩) (λb7=> ?_);obtain⟨x,hx⟩:∃x,N[p]?=U x:=⟨_,dB A⟩;have cu:=ab.2 x (jA hx);have an:bn (aQ N (p:Int) 0).val=aI 0 x:=by simp[aQ,aI,hx]
 have a0:bn (aQ N (p:Int) 1).val=aI 1 x:=by simp[aQ,aI,hx]
 have b8:UN V Q W N p<->Gj V W (aI 0 x).toNat (aI 1 x).toNat=J/\Gj Q W (aI 0 x).toNat (aI 1 x).toNat=true:=by
  rw[UN,show ci (ao N) p 0=aI 0 x from an,show ci (ao N) p 1=aI 1 x from a0]
 have cv:X->UN V Q W N p:=λk=>(g.1 k).2.2.2.2 p A
 generalize aI 0 x=z0 at*;generalize aI 1 x=z1 at*;have F:z0.toNat<Y ay.ah:=ae;have D:z1.toNat<Y ay.ah:=ae;simp only[an,a0,ua V W F 0 ae,ua V W F 1 ae,ua V W F 2 ae,ua V W F 3 ae,ua V W D 0 ae,ua V W D 1 ae,ua V W D 2 ae,ua V W D 3 ae,ua Q W F 0 ae,ua Q W F 1 ae,ua Q W F 2 ae,ua Q W F 3 ae,ua Q W D 0 ae,ua Q W D 1 ae,ua Q W D 2 ae,ua Q W D 3 ae];simp only[Gj] at b8;refine⟨ae,ae,aW (λH=>u (by rw[aP (Qs H)];omega) λk=> ?_) (λcx=>⟨ae,ae,aW (λH=>u (by rw[aP (Qs H)];omega) λk=> ?_) (λcy=> ?_)⟩)⟩
 grind
 grind
 refine aW (λc1=> ?_) (λc1=>aW (λc2=> ?_) (λc2=> ?_));rw[bD A ae];refine⟨_,rfl,kj.ins rfl (kj.ins rfl aa),by refine md (vo _ _ _) ?_;refine md (av2 (vo _ _ _)) ?_;omega,D0 λw=> ?_⟩
 grind
 rw[bD A ae];refine⟨_,rfl,kj.ins rfl (kj.ins rfl aa),by refine md (vo _ _ _) ?_;refine md (av2 (vo _ _ _)) ?_;omega,D0 λw=> ?_⟩
 grind
 grind [bD]
 have ca:p=Y N:=Vu A (QR b7);subst ca;have cA:∀i<Y ay.ah,iN V W i 4=0:=ag;have cB:∀i<Y ay.ah,iN Q W i 4=0:=al;refine aCe _ _ _ _ _ _ _ _ _ _ _ _ _ _ _ _ _ _ _ _ _ _ _ _ _ _ _ _ _ _ _ _ _ _ _ _ _ _ _ _ _ _ _ z aa ae ⟨_,_,rfl,λh=>bE rfl h, ?_⟩
 grind [aCd]
end
section
variable[Inhabited cm]
def Qv(ap:Int)(X R W Q V P:RV)(i:Nat):Prop:=cb R i 0=J->(∀k<(dS i ap).length,aba ap X R W Q V P i k)/\xi (UF ap W X V i) 1=0/\(xr (UF ap W X V i) 0).ah=[]
def abg:ar:=[0,1,1,0,0,0,1,0,0,0,1,0,1,0,1,0,1,0,0,0,1,0,0,0,0,0,0,0,0,0,0,0,0,0,0,0,0,0,0,0,0,0,1,0,0]
def abh:ar:=[0,1,1,0,0,0,1,0,0,0,1,0,1,0,1,0,1,0,0,0,1,0,0,0,0,0,0,0,0,0,0,0,0,0,0,0,0,0,0,0,0,0,1,1]
def abi:ar:=[0,1,1,0,0,0,1,0,0,0,1,0,1,0,1,0,1,0,0,0,1,0,0,0,0,0,0,0,0,0,0,0,0,0,0,1,0,0,0,0,0,1,0,0]
def abj:ar:=[0,1,1,0,0,0,1,0,0,0,1,0,1,0,1,0,1,0,0,0,1,0,0,0,0,0,0,0,0,0,0,0,0,0,0,1,0,0,0,0,0,1,1]
def SgQ(q:ar)(W:aE):Prop:=(q=abg/\∃X V,W=[X,V])\/(q=abh/\∃X,W=[X])\/(q=abi/\∃X,W=[X])\/(q=abj/\W=[])
def sgA(q:ar)(ms:aE)(D:SgQ q ms)(R:aX->Prop)(X:Nat->aZ->Prop)(L:ck)(b3:Brc)(h:dV)(hw:BT)(ap:Int)(wg Q P O N V G:RV)(x:Gh ay wg Q P O N V G)(n i:Nat)(cO:n=Y ay.ah)(hi:i<n)(hn:n<=64)(cW:Y P.ah=n)(b4:Y V.ah=n)
  (b5:cb P i 0=J->ma i ap=0/\∃v,Ar (dS i ap) (cr 96 V i) (dS i ap).length v)
  (x7 x8 x9 b6 b7 w6:Int)(b0:Bool)(b8 ca UJ cc cf:RV)(u:av)(bg:kj u)(c0:Y u<=200000*i+2)
  (l:∀e:Int,¬e=0->¬Qv ap Q P O N V G i->R (.ret [.r (ao []),.i e]))
  (g:∀M,kj M->Y M<=200000*(i+1)->(M=[]<->u=[]/\Qv ap Q P O N V G i)->X (i+1) [.r (ao M)]):
  T.wp TB.Ev R (qa.at q) ⟨[oU,oV,wZ,I6,I7,eU,ap,x7,x8,x9,b6,b7,(i:Int),w6],[b0],[ay,l9,ng,nh,di,wg,Q,P,O,N,V,G,b8,ca,UJ,cc,cf]++ms++[ao u],[]⟩ (⟨4,DV n X,BQ n,n-i⟩::L):=by
 obtain⟨rfl,m1,m2,rfl⟩|⟨rfl,m1,rfl⟩|⟨rfl,m1,rfl⟩|⟨rfl,rfl⟩:=D;rw[show qa.at abg=T.aJ _ _ _ from rfl]
 rotate_left
 rw[show qa.at abh=T.aJ _ _ _ from rfl]
 rotate_left
 rw[show qa.at abi=T.aJ _ _ _ from rfl]
 rotate_left
 rw[show qa.at abj=T.aJ _ _ _ from rfl]
 rotate_left
 all_goals simp only[cU,du]
 all_goals
  have bk:n<=140737488355328:=ae;have bl:=x.fz i ae;have br:=I8 oW h i ap;simp only[wk,cU,du] at br;have bq:lenOf (cH (.sl 96) (aQ V.ah (i:Int) 0)).val=((cr 96 V i).ah.length:Int):=bl.1.len;have c1:lenOf V.val=(n:Int):=by rw[x.Qr.len,b4]
  have c2:=UB (bw:=i) (ap:=ap) (λ_=>hw);simp[aY br];refine aW (λa3=> ?_) (λa3=> ?_);have t:cb P i 0=true:=a3;obtain⟨ch,sv,cl⟩:=b5 t;refine aW (λ_=> ?_) (λA=>bE ch A);refine bQ (dS i ap).length (λk f=>∃F,f=[.r (ao F)]/\kj F/\Y F<=200000*i+2+10*k/\(F=[]<->u=[]/\∀k'<k,aba ap Q P O N V G i k')) ⟨0,rfl,rO _,_,rfl,bg,ae,Jb Iff.rfl⟩ ?_;rintro k _ s ⟨F,rfl,ab,c3,d⟩;simp;refine aW (λs=> ?_) (λcn=> ?_);refine⟨s, ?_⟩;refine bQ (cr 96 V i).ah.length (λq f=>f=[]/\∀c<q,ci (cr 96 V i) c 0≠bX (dS i ap) k 0) ⟨0,rfl,rO _,rfl,ae⟩ ?_;rintro q _ D ⟨rfl,ac⟩;simp[bq];refine aW (λD=> ?_) (λc4=> ?_);refine⟨D,aW (λa0=> ?_) (λa0=> ?_)⟩
  ·have hF:Fst (cr 96 V i) (bX (dS i ap) k 0) q:=⟨D,a0,ac⟩;obtain⟨o,z,a1,a4,rfl,c5⟩:=t78 oW h (bX (dS i ap) k 0) _ (UC (aQ Q.ah (i:Int) 0)) (ci Q i 1) (ci Q i 2) (ci Q i 3) (ci Q i 4) (ci Q i 5) (ci Q i 6) (ci Q i 7) (ci Q i 8) (ci Q i 9) (ci Q i 10) (ci Q i 11) (ci Q i 12) (ci Q i 13) (ci Q i 14) (ci Q i 15) (ci Q i 16);have p:m78 Q (bX (dS i ap) k 0) i=[.r (ao a1),.i a4]:=DT z;simp only[wk,ci,bX,cU,du] at z;rw[aY z];simp[bq];have ag:Qv ap Q P O N V G i->a4=0:=λW=>by
    have:=((W t).1 k s q hF).1;rw[p] at this;exact this
   refine aW (λco=> ?_) (λA=>l a4 A λW=>A (ag W));refine⟨D, ?_⟩;rw[as9 (ao a1) (l8 ae)];simp[bq];obtain⟨cp,y⟩:∃b,ob 146 [.r (ao a1),.i (ci (cr 96 V i) q 0),.i (ci (cr 96 V i) q 1),.i (ci (cr 96 V i) q 2),.b (cb (cr 96 V i) q 3)] 0=b:=⟨_,rfl⟩;have fP:aba ap Q P O N V G i k<->(cp=J/\(bX (dS i ap) k 4=7\/bX (dS i ap) k 4=8->cb (cr 96 V i) q 3=J\/aa9 ap P O N V G (bX (dS i ap) k)=J)):=by
    refine⟨λH=>by have:=(H q hF).2;rw[p] at this;rw[<-y];exact this,λH c bs=> ?_⟩;have cs:c=q:=by
     rcases Nat.lt_trichotomy c q with a|a|a;exact bE bs.2.1 (ac c a);exact a;exact bE hF.2.1 (bs.2.2 q a)
    subst cs;rw[p];exact⟨co,by rw[<-y] at H;exact H⟩
   have a9:=nj [.bool] (aBQ hw h ap P O N V G (bX (dS i ap) k) x.mv x.Qr ae ae (λj hj=>(x.fz j hj).1));have bt:aa9 ap P O N V G (bX (dS i ap) k)=xb (out 147 (wk++[.i ap,.r P,.r O,.r N,.r V,.r G]++lZ (bX (dS i ap) k))) 0:=rfl;generalize aa9 ap P O N V G (bX (dS i ap) k)=c6 at fP bt;simp only[t7,<-bt] at a9;simp only[wk,lZ,bX,cU,du] at a9;simp only[ci,cb,cr] at y;simp only[y];simp only[bX,cb,cr] at fP;have ct:(dS i ap).length<=140737488355328:=ae;have al:∀{B:aE},(iD 3 B F).length<=200000*i+2+10*(k+1):=λ{B}=>by have:=vo 3 B F;omega
   have aa:∀{B ba:aE},(iD 3 ba (iD 3 B F)).length<=200000*i+2+10*(k+1):=λ{B ba}=>by have:=vo 3 B F;have:=vo 3 ba (iD 3 B F);omega
   have cu:Y F<=200000*i+2+10*(k+1):=ae;refine aW (λcv=> ?_) (λcv=> ?_)
   all_goals
    refine aW (λh7=>⟨D,aW (λhd=> ?_) (λhd=> ?_)⟩) (λh7=>aW (λh8=>⟨D,aW (λhd=> ?_) (λhd=> ?_)⟩) (λh8=> ?_))
   all_goals
    try rw[aY a9]
    try simp
    try refine aW (λcx=> ?_) (λcx=> ?_)
   all_goals
    rw[bD s ct]
    first
     |exact⟨_,rfl,ab,cu,aBZ d (fP.2 (by clear d fP al aa l g p y ag;grind))⟩
     |exact⟨_,rfl,kj.ins rfl ab,al,D0 (λw=>by have:=fP.1 (w.2 k (akR k));clear w d fP al aa l g p y ag;grind)⟩|exact⟨_,rfl,kj.ins rfl (kj.ins rfl ab),aa,D0 (λw=>by have:=fP.1 (w.2 k (akR k));clear w d fP al aa l g p y ag;grind)⟩
  have cy:(cr 96 V i).ah.length<=140737488355328:=ae;rw[bD D cy];exact⟨rfl,w5 ac a0⟩;exfalso;obtain⟨k',w1,w2,w3⟩:=cl.2 k s;exact ac k' ae w3;have cA:k=(dS i ap).length:=Vu s (QR cn);subst cA;obtain⟨o,z,an,bb,rfl,c7⟩:=b3 h i ap (ci O i) Q (cr 96 V i) x.bd bl.1;have bc:UF ap O Q V i=[.r (ao an),.i bb]:=DT z;have b1:Qv ap Q P O N V G i->bb=0/\an=[]:=λW=>by
   have:=(W t).2;rw[bc] at this;exact this
  simp only[wk,ci,cr,cU,du] at z;rw[aY z];simp;refine aW (λcB=> ?_) (λA=>l bb A λW=>A (b1 W).1);refine bQ (Y an) (λj f=>∃m,f=[.r (ao m)]/\kj m/\Y m<=200000*i+50000+j/\(m=[]<->F=[]/\j=0)) ⟨0,rfl,rO _,F,rfl,ab,ae,aw⟩ ?_;rintro j _ hj ⟨m,rfl,b2,aa,cC⟩;simp;refine aW (λhj=>⟨hj, ?_⟩) (λc8=> ?_);rw[bD hj ae];exact⟨_,rfl,kj.ins rfl b2,by refine md (vo _ _ _) ?_;omega,D0 ae⟩;rw[bD hi bk];refine g m b2 ae ?_;have cD:j=0<->an=[]:=by rw[<-AC];omega
  rw[cC,d,cD];exact⟨λw=>⟨w.1.1,λ_=>⟨w.1.2,by rw[bc];exact cB,by rw[bc];exact w.2⟩⟩,λw=>⟨⟨w.1,(w.2 t).1⟩,(b1 w.2).2⟩⟩;have t:¬cb P i 0=true:=a3;rw[bD hi bk];exact g u bg ae ⟨λq=>⟨q,λw=>bE w t⟩,λq=>q.1⟩

def RoA(ap:Int)(R X W P V Q:RV)(i:Nat):Prop:=(∀j<13,ci P i j=gS ap X W V i j)/\I4 (gB ap X W R V i 0) (gB ap X W R V i 1) (gB ap X W R V i 2) (gB ap X W R V i 3) (ci Q i 0) (ci Q i 1) (ci Q i 2) (ci Q i 3)=J
def RoI(ap:Int)(X W V R Q:RV)(i:Nat):Prop:=eE (gB ap X W V R i 0) (gB ap X W V R i 1) (gB ap X W V R i 2) (gB ap X W V R i 3)=J/\vB Q i=J
def aCL(ap:Int)(X W V P R Q:RV)(i:Nat):LP ap X W V P R Q i<->RoA ap X W V P R Q i/\RoI ap W V X R Q i/\Qv ap X W V P R Q i:=⟨λh=>⟨⟨h.aft,h.ins⟩,h.inb,h.Uz⟩,λh=>⟨h.1.1,h.2.1,h.1.2,h.2.2⟩⟩
def abl{Q V S:Prop}{R:av}{F:Nat->Prop}(P:F X<->Q/\V/\S)(O:V)(h:W=[]<->R=[]/\S)(N:R=[]<->(∀k<X,F k)/\Q):W=[]<->∀k<X+1,F k:=by
 rw[h,N,aB7,P];exact⟨λw=>⟨w.1.1,w.1.2,O,w.2⟩,λw=>⟨⟨w.1,w.2.1⟩,w.2.2.2⟩⟩
def ajv:ar:=[0,1,1,0,0,0,1,0,0,0,1,0,1,0,1,0,1,0,0,0,1]
def aCM(ag:Brc)(h:dV)(hw:BT)(ap:Int)(x V R W N Q P:RV)(A:Gh ay x V R W N Q P)(X:Prop)(L:ck)
  (c:Y ay.ah<=64)(a4:Y N.ah=Y ay.ah)(bg:Y P.ah=Y ay.ah)(a9:Y V.ah=Y ay.ah)(b:Y R.ah=Y ay.ah)(ba:Y W.ah=Y ay.ah)(a:Y Q.ah=Y ay.ah)
  (al:∀i<Y ay.ah,cb R i 0=J->ma i ap=0/\∃v,Ar (dS i ap) (cr 96 Q i) (dS i ap).length v)
  (x7 x8 x9 bk bl:Int)(br bs:RV)(vs vr vb:av)(bt:Y vs=Y ay.ah)(b0:Y vb=Y ay.ah)
  (b1:∀i<Y ay.ah,(∀j<13,bn (aQ vs (i:Int) j).val=gS ap R W Q i j)/\∀j<4,bn (aQ vb (i:Int) j).val=gB ap R W V Q i j)
  (hK:X<->(∀i<Y ay.ah,LP ap V R W N Q P i)/\xi (vp ap) 1=0/\(∀i<Y ay.ah,iN W V i 4=0)/\(∀i<Y ay.ah,iN N V i 4=0)/\aa5 x ap P (ao (yE W V (Y ay.ah))) (xr (vp ap) 0)/\∀p<(xr (vp ap) 0).ah.length,Gj W V (ci (xr (vp ap) 0) p 0).toNat (ci (xr (vp ap) 0) p 1).toNat=J/\Gj N V (ci (xr (vp ap) 0) p 0).toNat (ci (xr (vp ap) 0) p 1).toNat=J):
  T.wp TB.Ev (λo=>∃v e,o=aX.ret [.r (ao v),.i e]/\(¬e=0->v=[])/\((e=0/\v=[])<->X)) (qa.at ajv) ⟨[oU,oV,wZ,I6,I7,eU,ap,x7,x8,x9,bk,bl],[],[ay,l9,ng,nh,di,x,V,R,W,N,Q,P,br,bs,ao vs,ao vr,ao vb],[]⟩ L:=by
 rw[show qa.at ajv=(T.loop _ _ _ (T.aJ _ (T.aS _ (T.aS _ (T.aS _ (T.aS _ (T.aS _ (T.aS _ (T.aS _ (T.aS _ (T.aS _ (T.aS _ (T.aS _ (T.aS _ (T.aJ _ (T.ah _ _ _ (T.aS _ (T.aS _ (T.aS _ (T.aS _ (T.call _ _ _ _ _ _ (T.aJ _ _ (T.aJ _ (T.ah _ _ _ (qa.at abg)) (qa.at abh))))))))) (T.aS _ (T.aS _ (T.aS _ (T.aS _ (T.call _ _ _ _ _ _ (T.aJ _ _ (T.aJ _ (T.ah _ _ _ (qa.at abi)) (qa.at abj))))))))))))))))))))) (T.call _ _ _ _ _ _ (T.aJ _ _ (qa.at aju))))) from rfl];have ct:Y ay.ah<=140737488355328:=ae;have Jc:lenOf N.val=(Y ay.ah:Int):=by rw[A.af.len,a4]
 have UE:lenOf P.val=(Y ay.ah:Int):=by rw[A.bx.len,bg]
 have BW:lenOf V.val=(Y ay.ah:Int):=by rw[A.bd.len,a9]
 have Jd:lenOf R.val=(Y ay.ah:Int):=by rw[A.mv.len,b]
 have DZ:lenOf W.val=(Y ay.ah:Int):=by rw[A.bf.len,ba]
 have Gi:lenOf Q.val=(Y ay.ah:Int):=by rw[A.Qr.len,a]
 have a0:∀{e:Int},e≠0->¬X->∃v z,(ao []=ao v/\e=z)/\(¬z=0->v=[])/\(z=0/\v=[]<->X):=λ{e} D d=>⟨[],e,⟨rfl,rfl⟩,λ_=>rfl,by simp[D,d]⟩
 have b2:∀{e:Int},¬e=0->¬X->∃v z,aX.ret [.r (ao []),.i e]=aX.ret [.r (ao v),.i z]/\(¬z=0->v=[])/\(z=0/\v=[]<->X):=λ{e} D d=>⟨[],e,rfl,λ_=>rfl,by simp[D,d]⟩
 have b3:X->∀i<Y ay.ah,LP ap V R W N Q P i:=λk=>(hK.1 k).1
 refine bQ (Y ay.ah) (λi b4=>∃m,b4=[.r (ao m)]/\kj m/\Y m<=200000*i/\(m=[]<->∀k<i,LP ap V R W N Q P k)) ⟨0,rfl,rO _,[],rfl,kj.nil,aw,aw⟩ ?_;rintro i _ G ⟨m,rfl,aa,b5,hm⟩;simp[Jc,UE,BW,Jd,DZ,Gi,bt,b0];refine aW (λG=> ?_) (λb6=> ?_);obtain⟨B,q3⟩:=b1 i G;have n:=aCL ap V R W N Q P i;simp only[B 0 ae,B 1 ae,B 2 ae,B 3 ae,B 4 ae,B 5 ae,B 6 ae,B 7 ae,B 8 ae,B 9 ae,B 10 ae,B 11 ae,B 12 ae,q3 0 ae,q3 1 ae,q3 2 ae,q3 3 ae];have u:RoA ap V R W N Q P i<->(∀j<13,ci N i j=gS ap R W Q i j)/\I4 (gB ap R W V Q i 0) (gB ap R W V Q i 1) (gB ap R W V Q i 2) (gB ap R W V Q i 3) (ci P i 0) (ci P i 1) (ci P i 2) (ci P i 3)=true:=Iff.rfl;have t:RoI ap R W V Q P i<->eE (gB ap R W V Q i 0) (gB ap R W V Q i 1) (gB ap R W V Q i 2) (gB ap R W V Q i 3)=J/\vB P i=true:=Iff.rfl;generalize gB ap R W V Q i 0=g0 at u t;generalize gB ap R W V Q i 1=g1 at u t;generalize gB ap R W V Q i 2=g2 at u t;generalize gB ap R W V Q i 3=g3 at u t;have a1:X->LP ap V R W N Q P i:=λk=>b3 k i G
 have an:∀{e:Int},¬e=0->¬Qv ap V R W N Q P i->∃v z,aX.ret [.r (ao []),.i e]=aX.ret [.r (ao v),.i z]/\(¬z=0->v=[])/\(z=0/\v=[]<->X):=λD y=>b2 D λk=>y (n.1 (a1 k)).2.2
 have dX:∀{s:aE},(iD 3 s m).length<=200000*i+2:=λ{s}=>by have:=vo 3 s m;omega
 have b7:∀{s a3:aE},(iD 3 a3 (iD 3 s m)).length<=200000*i+2:=λ{s a3}=>by have:=vo 3 s m;have:=vo 3 a3 (iD 3 s m);omega
 refine⟨G,aW (λH=>⟨G, ?_⟩) (λH=>⟨G, ?_⟩)⟩;have d:¬∀j<13,ci N i j=gS ap R W Q i j:=λF=>by
  simp only[ci] at F;have e0:=F 0 ae;have e1:=F 1 ae;have e2:=F 2 ae;have e3:=F 3 ae;have e4:=F 4 ae;have e5:=F 5 ae;have e6:=F 6 ae;have e7:=F 7 ae;have e8:=F 8 ae;have e9:=F 9 ae;have b8:=F 10 ae;have ca:=F 11 ae;have cc:=F 12 ae;rcases H with O|O|O|O|O|O|O|O|O|O|O|O|O;exact O e0;exact O e1;exact O e2;exact O e3;exact O e4;exact O e5;exact O e6;exact O e7;exact O e8;exact O e9;exact O b8;exact O ca;exact O cc
 refine aW (λq=>a0 (by rw[aP (Qs q)];omega) λk=>Qs q (t.1 (n.1 (a1 k)).2.1)) (λab=> ?_);have ac:=t.2 (atr ab);refine aW (λhB=> ?_) (λhB=> ?_);refine sgA abg [_,_] (.inl ⟨rfl,_,_,rfl⟩) _ _ L ag h hw ap x V R W N Q P A (Y ay.ah) i rfl G c b a (al i G) _ _ _ _ _ _ _ _ _ _ _ _ _ ?_ ?_ (λe D y=>an D y) (λM l g f=>⟨M,rfl,l,g,abl n ac f ?_⟩);exact kj.ins rfl (kj.ins rfl aa);exact b7;exact D0 λw=>d (u.1 w.2).1
 refine sgA abh [_] (.inr (.inl ⟨rfl,_,rfl⟩)) _ _ L ag h hw ap x V R W N Q P A (Y ay.ah) i rfl G c b a (al i G) _ _ _ _ _ _ _ _ _ _ _ _ _ ?_ ?_ (λe D y=>an D y) (λM l g f=>⟨M,rfl,l,g,abl n ac f ?_⟩);exact kj.ins rfl aa;exact dX;exact D0 λw=>d (u.1 w.2).1
 have cf:∀j<13,ci N i j=gS ap R W Q i j:=by
  simp only[not_or,Classical.not_not] at H;exact ats H.1 H.2.1 H.2.2.1 H.2.2.2.1 H.2.2.2.2.1 H.2.2.2.2.2.1 H.2.2.2.2.2.2.1 H.2.2.2.2.2.2.2.1 H.2.2.2.2.2.2.2.2.1 H.2.2.2.2.2.2.2.2.2.1 H.2.2.2.2.2.2.2.2.2.2.1 H.2.2.2.2.2.2.2.2.2.2.2.1 H.2.2.2.2.2.2.2.2.2.2.2.2
 refine aW (λq=>a0 (by rw[aP (Qs q)];omega) λk=>Qs q (t.1 (n.1 (a1 k)).2.1)) (λab=> ?_);have ac:=t.2 (atr ab);refine aW (λhB=> ?_) (λhB=> ?_);have ch:¬I4 g0 g1 g2 g3 (ci P i 0) (ci P i 1) (ci P i 2) (ci P i 3)=true:=aB8 ab hB;refine sgA abi [_] (.inr (.inr (.inl ⟨rfl,_,rfl⟩))) _ _ L ag h hw ap x V R W N Q P A (Y ay.ah) i rfl G c b a (al i G) _ _ _ _ _ _ _ _ _ _ _ _ _ ?_ ?_ (λe D y=>an D y) (λM l g f=>⟨M,rfl,l,g,abl n ac f ?_⟩);exact kj.ins rfl aa;exact dX;exact D0 λw=>ch (u.1 w.2).2
 refine sgA abj [] (.inr (.inr (.inr ⟨rfl,rfl⟩))) _ _ L ag h hw ap x V R W N Q P A (Y ay.ah) i rfl G c b a (al i G) _ _ _ _ _ _ _ _ _ _ _ _ _ ?_ ?_ (λe D y=>an D y) (λM l g f=>⟨M,rfl,l,g,abl n ac f ?_⟩);exact aa;omega;exact⟨λw=>⟨hm.1 w,u.2 ⟨cf,aB9 ab hB⟩⟩,λw=>hm.2 w.1⟩;have cl:i=Y ay.ah:=Vu G (QR b6);subst cl;obtain⟨o,g1,bb,bc,rfl,cu,cn,cv⟩:=t23 oW h ap;have co:vp ap=[.r (ao bb),.i bc]:=DT g1;rw[co] at hK;have cp:X->bc=0:=λk=>(hK.1 k).2.1
 simp only[wk,cU,du] at g1;rw[aY g1];simp;refine aW (λcs=> ?_) (λq=>a0 q λk=>q (cp k));refine aCJ h ap x V R W N Q P A X (∀k<Y ay.ah,LP ap V R W N Q P k) _ _ _ _ _ _ _ _ _ _ _ _ m bb _ c a9 ba a4 aa b5 hm cn ?_;refine hK.trans ⟨λw=>⟨w.1,w.2.2⟩,λw=>⟨w.1,cs,w.2⟩⟩

def t16(bs:Brc)(h:dV)(ap:Int)(H L O N G R F:RV)(P:Gh ay H L O N G R F):∃o,TB.Ev 84 (wk++[.r H,.r L,.i ap,.r O,.r N,.r G,.r R,.r F]) o/\∃v e,o=.ret [.r (ao v),.i e]/\(e≠0->v=[])/\((e=0/\v=[])<->Je ap H L O N G R F):=by
 generalize c:Je ap H L O N G R F=X;refine Qg rfl rfl (.inr λv hv=>by obtain⟨_,_,h,_⟩:=hv;cases h) ?_;obtain⟨b,h2⟩:=yD oW h;simp only[wk] at b;have Q:∀{e:Int},e≠0->¬Je ap H L O N G R F->∃v n,(ao []=ao v/\e=n)/\(¬n=0->v=[])/\(n=0/\v=[]<->X):=λ{e} he bt=>⟨[],e,⟨rfl,rfl⟩,λ_=>rfl,by rw[<-c];simp[he,bt]⟩
 rw[show qa=(T.call _ _ _ _ _ _ (T.aJ _ _ (T.aJ _ _ (T.aJ _ (T.aJ _ (T.aJ _ (T.aJ _ _ (T.aJ _ (T.aJ _ (T.aJ _ (T.aJ _ _ (T.loop _ _ _ (T.aJ _ _ (T.loop _ _ _ (T.aJ _ _ (T.loop _ _ _ (T.aJ _ _ (T.call _ _ _ _ _ _ (T.call _ _ _ _ _ _ (T.loop _ _ _ (T.aJ _ _ (qa.at ajv)))))))))))) _) _) _)) _) _) _)))) from rfl];simp[wk,aY b];simp only[h.rl.len,P.wg.len,P.bd.len,P.mv.len,P.bf.len,P.af.len,P.Qr.len,P.bx.len];refine aW (λa=> ?_) (λaa=>Q aa λX=>aa X.ex.wk);have hw:=h2 a;have hn:=hw.nr;refine aW (λh8=>Q ae λX=>by have:=X.ex.nw;omega) (λh8=> ?_);refine aW (λb5=> ?_) (λV=>Q ae λX=>by have:=X.ex.br;omega);refine aW (λb6=> ?_) (λV=>Q ae λX=>by have:=X.ex.br;omega);refine aW (λJc=> ?_) (λV=>Q ae λX=>by have:=X.ex.Jc;omega);refine aW (λUE=> ?_) (λV=>Q ae λX=>by have:=X.ex.UE;omega);refine aW (λBW=> ?_) (λV=>Q ae λX=>by have:=X.ex.BW;omega);refine aW (λJd=> ?_) (λV=>Q ae λX=>by have:=X.ex.Jd;omega);refine aW (λDZ=> ?_) (λV=>Q ae λX=>by have:=X.ex.DZ;omega);refine aW (λGi=> ?_) (λV=>Q ae λX=>by have:=X.ex.Gi;omega);have b0:lenOf G.val=(Y ay.ah:Int):=by rw[P.af.len];exact Jc
 have b1:lenOf F.val=(Y ay.ah:Int):=by rw[P.bx.len];exact UE
 have ab:lenOf L.val=(Y ay.ah:Int):=by rw[P.bd.len];exact BW
 have ac:lenOf O.val=(Y ay.ah:Int):=by rw[P.mv.len];exact Jd
 have ag:lenOf N.val=(Y ay.ah:Int):=by rw[P.bf.len];exact DZ
 have al:lenOf R.val=(Y ay.ah:Int):=by rw[P.Qr.len];exact Gi
 have s:Y ay.ah<=140737488355328:=ae;have B:∀i<Y ay.ah,Sl (cr 96 R i)/\(cr 96 R i).ah.length<=100:=λi W=>P.fz i ae
 refine bQ (Y ay.ah) (λi A=>A=[]/\∀k<i,Qq L k=0/\LO N k=0/\(if cb O k 0 then m85 ap R k=0 else(cr 96 R k).ah=[])) ⟨0,rfl,ae,rfl,ae⟩ ?_;rintro i _ W ⟨rfl,q⟩;simp[ab,ac,ag,al];refine aW (λW=> ?_) (λm=> ?_);have an:=(I5 (t85 oW h i ap (cr 96 R i) (B i W).1)).1;simp only[wk,cr,cU,du] at an;have a0:=(B i W).1.len;simp only[cr] at a0;simp[bD W s,W,aY an,a0];refine aW (λw=> ?_) (λV=>Q ae λX=>V (X.ex.gw i W).1);refine aW (λa2=> ?_) (λV=>Q ae λX=>V (X.ex.gw i W).2.1);refine aW (λz=> ?_) (λz=> ?_);have M:cb O i 0=true:=z;refine aW (λy=> ?_) (λV=>Q ae λX=>V (by have:=(X.ex.gw i W).2.2;rw[aH M] at this;exact this));exact w5 q ⟨w,a2,by rw[aH M];exact y⟩;have M:¬cb O i 0=true:=z;refine aW (λy=> ?_) (λV=>Q ae λX=>V (by have:=(X.ex.gw i W).2.2;rw[aP M] at this;exact this));exact w5 q ⟨w,a2,by rw[aP M];exact y⟩;have x:i=Y ay.ah:=ae;subst x;refine bQ (Y ay.ah) (λi A=>A=[]/\∀k<i,vB F k=J/\LO G k=0) ⟨0,rfl,ae,rfl,ae⟩ ?_;rintro i _ W ⟨rfl,a9⟩;simp[h.rl.len,b0,b1];refine aW (λW=> ?_) (λm=> ?_);simp[bD W s,W];refine aW (λw=>aW (λa2=>w5 a9 ⟨w,a2⟩) (λV=>Q ae λX=>V (X.ex.box i W).2)) (λV=>Q ae λX=>V (X.ex.box i W).1);have x:i=Y ay.ah:=ae;subst x;refine bQ (Y H.ah) (λi A=>A=[]/\∀k<i,mH (ci H k) ap 4=0) ⟨0,rfl,ae,rfl,ae⟩ ?_;rintro i _ W ⟨rfl,ba⟩;simp[P.wg.len];refine aW (λW=> ?_) (λm=> ?_);have bb:=f25 (ci H i) ap;simp only[LM,ci,cU,du] at bb;simp[bD W P.wg.sm,W,aY bb];exact aW (λw=>w5 ba w) (λV=>Q V λX=>V (X.ex.pth i W));have x:i=Y H.ah:=ae;subst x;rw[aY (e86 O P.mv ae)];simp;rw[aY (e87 N P.bf ae)];simp;have b2:atp ap H L O N G R F:=⟨a,ae,ae,ae,ae,ae,ae,ae,ae,q,a9,ba⟩;refine bQ (Y ay.ah) (λi A=>∃u p t,A=[.r (ao u),.r (ao p),.r (ao t)]/\Y u=i/\Y p=i/\Y t=i/\∀k<i,BX ap O N L R k/\(∀j<13,bn (aQ u (k:Int) j).val=gS ap O N R k j)/\∀j<4,bn (aQ t (k:Int) j).val=gB ap O N L R k j) ⟨0,rfl,ae,[],[],[],rfl,rfl,rfl,rfl,ae⟩ ?_;rintro i _ W ⟨u,p,t,rfl,l,b7,g,bc⟩;simp[ab,ac,ag,al];refine aW (λW=> ?_) (λm=> ?_);have bg:=e88 (cr 96 R i) (B i W).1 (by have:=(B i W).2;omega);simp only[cr] at bg;simp[bD W s,W,aY bg];refine⟨ae,aW (λz=> ?_) (λz=> ?_)⟩;have M:cb O i 0=true:=z;have bk:=nj _ (t89 h i ap (ci N i) (cr 96 R i) (B i W).1);simp only[wk,ci,cr,cU,du,I9,Ql,t7] at bk;rw[aY bk];simp;refine aW (λy=> ?_) (λV=>Q V λX=>V (by have:=X.bld i W;rw[BX,aH M] at this;exact this.1));have bl:=nj _ (t90 h i ap (ci N i) _ (UC (aQ L.ah (i:Int) 0)) (ci L i) (cr 96 R i) (B i W).1);simp only[wk,ci,cr,cU,du,I9,Ql,t7] at bl;rw[aY bl];simp[bD W s];refine aW (λa5=> ?_) (λV=>Q V λX=>V (by have:=X.bld i W;rw[BX,aH M] at this;exact this.2));refine⟨ae,ae,_,_,_,⟨rfl,rfl,rfl⟩,bZ,bZ,bZ,λk f=> ?_⟩;by_cases d:k=i;subst d;refine⟨by rw[BX,aH M];exact⟨y,a5⟩,λj D=> ?_,λj D=> ?_⟩;rw[As l,gS,aH M]
 match j,D with|0,_|1,_|2,_|3,_|4,_|5,_|6,_|7,_|8,_|9,_|10,_|11,_|12,_=>rfl
 rw[As g,gB,aH M]
 match j,D with|0,_|1,_|2,_|3,_=>rfl
 grind [Jf]
 have M:¬cb O i 0=true:=z;refine aW (λy=> ?_) (λV=>Q V λX=>V (by have:=X.bld i W;rw[BX,aP M] at this;exact this));refine⟨ae,ae,_,_,_,⟨rfl,rfl,rfl⟩,bZ,bZ,bZ,λk f=> ?_⟩;by_cases d:k=i;subst d;refine⟨by rw[BX,aP M];exact y,λj D=> ?_,λj D=> ?_⟩;rw[As l,gS,aP M]
 match j,D with|0,_|1,_|2,_|3,_|4,_|5,_|6,_|7,_|8,_|9,_|10,_|11,_|12,_=>rfl
 rw[As g,gB,aP M]
 match j,D with|0,_|1,_|2,_|3,_=>rfl
 grind [Jf]
 have x:i=Y ay.ah:=ae;subst x;have b3:X<->Je ap H L O N G R F:=by rw[c]
 refine aCM bs h hw ap H L O N G R F P X _ hn.2 ae ae ae ae ae ae (λi W b4=> ?_) _ _ _ _ _ _ _ u p t l g (λk f=>(bc k f).2) (b3.trans ⟨λk=>⟨k.ro,k.UD,k.st1,k.st2,k.cl,k.mI⟩,λk=>⟨b2,λj D=>(bc j D).1,k.1,k.2.1,k.2.2.1,k.2.2.2.1,k.2.2.2.2.1,k.2.2.2.2.2⟩⟩);have:=(q i W).2.2;rw[aH b4] at this;exact(I5 (t85 oW h i ap (cr 96 R i) (B i W).1)).2 this

def brc:Brc:=λh bw ap x X r ce W=>by
 obtain⟨o,V,v,e,R,Q,_⟩:=aCI h bw ap x X r ce W;exact⟨o,V,v,e,R,Q⟩
def t18(h:dV)(ap:Int)(W V R Q P O N:RV)(G:Gh ay W V R Q P O N):∃o,TB.Ev 58 (wk++[.r W,.r V,.i ap,.r R,.r Q,.r P,.r O,.r N]) o/\∃b e,o=.ret [.b b,.i e]/\(¬e=0->b=E)/\(b=J<->Je ap W V R Q P O N):=by
 generalize F:Je ap W V R Q P O N=X;refine eI ?_;obtain⟨o,H,v,e,rfl,B,M⟩:=t16 brc h ap W V R Q P O N G;rw[F] at M;simp only[wk,cU,du] at H;simp[T18,wk,aY H];refine aW (λL=> ?_) (λL=> ?_);by_cases k:X;exact .inr ⟨e,⟨(M.2 k).2,rfl⟩,L,k⟩;exact .inl ⟨λD=>k (M.1 ⟨L,D⟩),k⟩;exact λk=>L (M.2 k).1
end
section
variable{R:aX->Prop}{G:aL}{t:T}{O:aj}{L:ck}
variable[Inhabited cm]
variable{wg bd cs br a:RV}
def bL(wg bd cs br a:RV):aZ:=wk++[.r wg,.r bd,.r cs,.r br,.r a]
structure Mny(wg bd cs br:RV):Prop where
 wg:Y wg.ah<=8
 rl:Y ay.ah<=12
 bd:Y bd.ah<=16
 cs:Y cs.ah<=8
 bars:eU<=64
 br:∀i<Y br.ah,(cr 100 br i).ah.length<=8
end
def Qw:T->T
 |.aJ _ _ f=>f|t=>t
section
variable{R:aX->Prop}{G:aL}{t:T}{O:aj}{L:ck}
variable[Inhabited cm]
variable{a c d g k:RV}
def aCQ(h:dV):∃o,TB.Ev 52 wk o/\∃b,o=.ret [.b b]:=by
 refine eI ?_;simp[aiS,wk]
 repeat'(first|intro _|split)
 all_goals omega
def aCR(W:Sl V)(M:∀i<Y V.ah,Sl (cH (.sl 4) (aQ V.ah i 0))/\Sl (cH (.sl 101) (aQ V.ah i 1))/\∀j<(cH (.sl 101) (aQ V.ah i 1)).ah.length,Sl (cr 96 (cH (.sl 101) (aQ V.ah i 1)) j)):
  T.wp TB.Ev (λo=>o=aX.ret [XV.b E]\/o=aX.ret [XV.b J]) (Qw (Qw Uu)) ⟨[],[],[V],[]⟩ []:=by
 simp only[Uu,Qw];refine bQ (Y V.ah) (λ_ Q=>Q=[]) ⟨0,rfl,ae,rfl⟩ ?_;rintro i _ G rfl;simp[W.len];intro X;obtain⟨F,N,H⟩:=M i X;refine⟨X,λ_=>⟨X,λ_=> ?_⟩⟩;refine bQ (cH (.sl 101) (aQ V.ah i 1)).ah.length (λ_ Q=>Q=[]) ⟨0,rfl,ae,rfl⟩ ?_;rintro j _ D rfl;simp[W.len,N.len,X];refine aW (λP=> ?_) (λB=> ?_);have e:=(H j P).len;simp only[cr] at e;simp[P,bD P N.sm];simp[bD X W.sm]
def aCS(X:Sl V)(W:∀i<Y V.ah,Sl (cH (.sl 4) (aQ V.ah i 0))/\Sl (cH (.sl 101) (aQ V.ah i 1))/\∀j<(cH (.sl 101) (aQ V.ah i 1)).ah.length,Sl (cr 96 (cH (.sl 101) (aQ V.ah i 1)) j)):∃o,TB.Ev 51 [.r V] o/\∃x,o=.ret [.b x]:=by
 refine eI ?_;simp[Uu]
 repeat'(first|exact aCR X W|intro _|split)
end
def abm:Nat->T->T
 |0,t=>t|n+1,t=>abm n (Qw t)
section
variable{R:aX->Prop}{G:aL}{t:T}{O:aj}{L:ck}
variable[Inhabited cm]
variable{a c d g f:RV}
structure jV(a c d g f:RV):Prop where
 sw:Sl a
 sb:Sl c
 sc:Sl d
 sr:Sl g
 so:Sl f
 ccs:∀i<Y d.ah,Sl (cr 3 d i)
 At:∀i<Y g.ah,Sl (cr 100 g i)
 B3:∀k<Y g.ah,∀i<(cr 100 g k).ah.length,Sl (cH (.sl 4) (aQ (cr 100 g k).ah i 0))/\Sl (cH (.sl 101) (aQ (cr 100 g k).ah i 1))/\∀j<(cH (.sl 101) (aQ (cr 100 g k).ah i 1)).ah.length,Sl (cr 96 (cH (.sl 101) (aQ (cr 100 g k).ah i 1)) j)
def aCT(h:dV)(s:jV a c d g f):T.wp TB.Ev (λo=>∃x,o=.ret [.b x]) (abm 12 IY) ⟨[oU,oV,wZ,I6,I7,eU],[],[ay,l9,ng,nh,di,a,c,d,g,f],[]⟩ []:=by
 simp only[IY,abm,Qw];refine bQ (Y d.ah) (λ_ V=>V=[]) ⟨0,rfl,ae,rfl⟩ ?_;rintro i _ P rfl;simp[s.sc.len];refine aW (λQ=> ?_) (λ_=> ?_);have e:=(s.ccs i Q).len;simp only[cr] at e;simp[Q,bD Q s.sc.sm];refine bQ (Y g.ah) (λ_ V=>V=[]) ⟨0,rfl,ae,rfl⟩ ?_;rintro k _ N rfl;simp[s.sr.len];refine aW (λW=> ?_) (λ_=> ?_);obtain⟨o,X,x,rfl⟩:=aCS (s.At k W) (s.B3 k W);simp only[cr] at X;cases x<;>simp[W,aY X,bD W s.sr.sm];obtain⟨o,X,x,rfl⟩:=aCQ h;simp only[wk] at X;cases x<;>simp[aY X]
def atG(h:dV)(s:jV a c d g f):∃o,TB.Ev 30 (bL a c d g f) o/\∃x,o=.ret [.b x]:=by
 refine eI ?_;show T.wp TB.Ev (λo=>∃x,o=.ret [.b x]) IY ⟨[oU,oV,wZ,I6,I7,eU],[],[ay,l9,ng,nh,di,a,c,d,g,f],[]⟩ [];have l:=aCT h s;simp only[IY,abm,Qw] at l;unfold IY
 repeat'(first|exact l|(rw[Uy];exact⟨_,rfl⟩)|(rw[Qf];refine aW (λ_=> ?_) (λ_=> ?_)))
end
section
variable{R:aX->Prop}{G:aL}{t:T}{O:aj}{L:ck}

variable[Inhabited cm]
variable{a c d g b:RV}
end
section
variable{R:aX->Prop}{G:aL}{t:T}{O:aj}{L:ck}


def LS{P:Nat->Prop}(h:∀k<X,P k)(W:P X):∀k<X+1,P k:=λk V=>by
 by_cases e:k=X;subst e;exact W;exact h k ae



variable[Inhabited cm]
end
section
variable{lt:aE->aE->Bool}{p:aE->Prop}
end
section
variable{R:aX->Prop}{G:aL}{t:T}{O:aj}{L:ck}
variable[Inhabited cm]



def Qx(v:RV)(q:Nat):Int:=o74 (ci v q 0) (ci v q 1) (ci v q 2) (ci v q 3) (ci v q 4) (ci v q 5) (ci v q 6) (ci v q 7) (ci v q 8) (ci v q 9) (ci v q 10) (ci v q 11) (ci v q 12)
structure Kno(ca kn op:RV)(i:Nat):Prop where
 one:1<=(cr 108 kn i).ah.length
 two:(cr 108 kn i).ah.length<=2
 opn:(cr 108 kn i).ah.length=2<->ci op i 0≠0
 ne:(cr 108 kn i).ah.length=2->∃j<13,ci (cr 108 kn i) 0 j≠ci (cr 108 kn i) 1 j
 gw:∀q<(cr 108 kn i).ah.length,Qx (cr 108 kn i) q=0
 ap:ci op i 0≠0->0<=be .sub I (ci op i 0) 1/\be .sub I (ci op i 0) 1<Y ca.ah/\bn (aQ ca.ah (be .sub I (ci op i 0) 1) 0).val≠0

variable{e f d g h a b c:RV}{aG:Int}{k:Bool}
structure km(d g a b c:RV)(aG:Int):Prop where
 calls:Y a.ah<=Y g.ah
 cast:0<=aG/\aG<Y d.ah
 Au:Y b.ah=Y ay.ah
 D6:Y c.ah=Y ay.ah
 call:∀i<Y a.ah,0<=ci a i 0/\ci a i 0<=(cr 100 g i).ah.length
 Gm:∀i<Y b.ah,Kno a b c i
end
section
variable[Inhabited cm]
end
section
variable{R:aX->Prop}{G:aL}{t:T}{O:aj}{L:ck}
variable[Inhabited cm]

end
section
variable{R:aX->Prop}{G:aL}{t:T}{O:aj}{L:ck}



variable[Inhabited cm]
end
section
variable{R:aX->Prop}{G:aL}{t:T}{O:aj}{L:ck}
end
section
variable[Inhabited cm]
end
section
variable{R:aX->Prop}{G:aL}{t:T}{O:aj}{L:ck}
variable[Inhabited cm]
end
section
variable[Inhabited cm]


end
section
variable{R:aX->Prop}{G:aL}{t:T}{O:aj}{L:ck}
variable[Inhabited cm]



end
section
variable[Inhabited cm]
section
variable{a b:Nat->Prop}{M:av}{c:aE}
end
end
section
variable{R:aX->Prop}{G:aL}{t:T}{O:aj}{L:ck}
variable[Inhabited cm]
end
section
variable[Inhabited cm]


def aCU(h:dV)(ap:Int):∃o,TB.Ev 71 (wk++[.i ap]) o/\∃v e,o=.ret [.r (ao v),.i e]/\Y v<=4096/\(∀x∈v,0<=aI 0 x/\aI 0 x<aI 1 x/\aI 1 x<Y ay.ah)/\(jU=0->jk ap 0 (eU-1)=J->e=0):=by
 refine eI ?_;have W:=e65 oW h ap;obtain⟨-,M⟩:=yD oW h;simp only[wk,cU,du] at W;obtain⟨e,R⟩:∃e,e=(if jU=0 then(if jk ap 0 (eU-1) then 0 else 1) else jU):=⟨_,rfl⟩;rw[<-R] at W;simp[T23,wk,aY W];split
 case isFalse y=>
  exact⟨[],e,⟨rfl,rfl⟩,aw,aw,λW M w=>by rw[R,aH W,aH bZ]⟩
 rename_i F;have Q:jU=0/\jk ap 0 (eU-1)=true:=by
  subst F;by_cases Q:jU=0;rw[aH Q] at R;refine⟨Q, ?_⟩;cases D:jk ap 0 (eU-1);simp[D] at R;rfl;rw[aP Q] at R;exact bE R.symm Q
 have B:=M Q.1;have u:=B.nr;refine bQ (Y di.ah) (λi N=>∃m,N=[.r (ao m)]/\∀x∈m,aI 0 x<aI 1 x) ⟨0,rfl,ae,[],rfl,aw⟩ ?_;rintro i _ P ⟨m,rfl,H⟩;simp[h.sg.len];split
 ·rename_i P;simp[bD P h.sg.sm,P]
  repeat'(refine aW (λ_=> ?_) (λ_=> ?_))
  all_goals first
   |exact⟨m,rfl,H⟩
   |(refine⟨_,rfl,λx X=> ?_⟩
     rcases aa7 X with rfl|X;show(min _ _:Int)<max _ _;omega;exact H x X)
 refine bQ (Y ay.ah) (λi N=>∃v,N=[.r (ao v)]/\Y v<=i*64/\∀x∈v,0<=aI 0 x/\aI 0 x<aI 1 x/\aI 1 x<Y ay.ah) ⟨0,rfl,ae,[],rfl,aw,aw⟩ ?_;rintro i _ P ⟨v,rfl,A,V⟩;simp[h.rl.len];split;rename_i P;refine bQ (Y ay.ah) (λj N=>∃v,N=[.r (ao v)]/\Y v<=i*64+j/\∀x∈v,0<=aI 0 x/\aI 0 x<aI 1 x/\aI 1 x<Y ay.ah) ⟨0,rfl,ae,v,rfl,ae,V⟩ ?_;rintro j _ G ⟨v,rfl,A,V⟩;simp[h.rl.len];split
 ·rename_i G;simp[bD G h.rl.sm];have z:∀{O},mo 2 [(i:Int),(j:Int),0] m=U O->i<j:=λ{O} L=>by
   have W:=Vg L;have M:=ab8 L;have:=H O W;rcases O with _|⟨a,_|⟨b,O⟩⟩<;>simp[mj,aI] at M this;omega
  cases L:mo 2 [(i:Int),(j:Int),0] m with
  |none=>simp;exact⟨v,rfl,ae,V⟩
  |some O=>
  have t:=z L;simp only;split
  all_goals first
   |exact⟨v,rfl,ae,V⟩
   |(refine⟨ae,_,rfl,bZ,λx X=> ?_⟩
     rcases fg.1 X with X|X;exact V x X;simp at X;subst X;simp[aI,bn];omega)
 simp[bD P h.rl.sm];exact⟨v,rfl,ae,V⟩;exact⟨v,0,⟨rfl,rfl⟩,ae,V,λ_ _ _=>rfl⟩

end
section
variable{R:aX->Prop}{G:aL}{t:T}{O:aj}{L:ck}
variable[Inhabited cm]
def Gn(v:av)(k:Nat):Nat:=(v.getD k []).length
def abn{V:aE}{n:Nat}(h:Y W=X)(Q:Y V=n):Gn (W++[V]) X=n:=by
 subst h;simpa[Gn] using Q
def abo{w:av}(h:X<Y W):Gn (W++w) X=Gn W X:=by simp[Gn,fT h]
structure Md(ap:Int)(bd mv bf re:RV)(vs vr vb:av):Prop where
 wk:jU=0
 br:0<=ap/\ap<eU
 BW:Y bd.ah=Y ay.ah
 Jd:Y mv.ah=Y ay.ah
 DZ:Y bf.ah=Y ay.ah
 Gi:Y re.ah=Y ay.ah
 gw:∀i<Y ay.ah,Qq bd i=0/\LO bf i=0/\(if cb mv i 0 then m85 ap re i=0 else(cr 96 re i).ah=[])
 ls:Y vs=Y ay.ah
 lr:Y vr=Y ay.ah
 lb:Y vb=Y ay.ah
 al:∀k<Y ay.ah,aQ vr (k:Int) 0=ao (cr 96 re k).ah/\Gn vs k=13/\Gn vb k=4/\BX ap mv bf bd re k/\(∀j<13,bn (aQ vs (k:Int) j).val=gS ap mv bf re k j)/\∀j<4,bn (aQ vb (k:Int) j).val=gB ap mv bf bd re k j
def UO(ap:Int)(N X W M:RV)(o:aX):Prop:=(∃e,e≠0/\o=.ret [.i 0,.r (ao []),.r (ao []),.r (ao []),.r (ao []),.r (ao []),.i e])\/∃V Q P,o=.ret [.i ap,.r (ao X.ah),.r (ao W.ah),.r (ao V),.r (ao Q),.r (ao P),.i 0]/\Md ap N X W M V Q P
def t13(h:dV)(ap:Int)(wg G V H X:RV)(ce:Sl G)(q:Sl V)(oA:Sl H)(aa:Sl X)(bb:∀i<Y X.ah,Sl (cr 96 X i)/\(cr 96 X i).ah.length<=100):∃o,TB.Ev 54 (wk++[.r wg,.r G,.i ap,.r V,.r H,.r X]) o/\UO ap G V H X o:=by
 obtain⟨P,s⟩:∃P:aX->Prop,∀o,P o<->UO ap G V H X o:=⟨_,λ_=>Iff.rfl⟩
 suffices bc:∃o,TB.Ev 54 (wk++[.r wg,.r G,.i ap,.r V,.r H,.r X]) o/\P o by
  obtain⟨o,g1,g2⟩:=bc;exact⟨o,g1,(s o).1 g2⟩
 refine Qg rfl rfl (.inr λv hv=>by rcases(s _).1 hv with⟨_,_,h⟩|⟨_,_,_,h,_⟩<;>cases h) ?_;obtain⟨h1,h2⟩:=yD oW h;simp only[wk] at h1;have M:∀{e:Int},e≠0->P (.ret [.i 0,.r (ao []),.r (ao []),.r (ao []),.r (ao []),.r (ao []),.i e]):=λ{e} he=>(s _).2 (.inl ⟨e,he,rfl⟩)
 simp[T13,wk,aY h1];simp only[h.rl.len,ce.len,q.len,oA.len,aa.len];refine aW (λh0=> ?_) (λW=>M W);have hw:=h2 h0;have hn:=hw.nr;refine aW (λW=>M ae) (λbk=> ?_);refine aW (λW=>M ae) (λbl=> ?_);refine aW (λBW=> ?_) (λW=>M ae);refine aW (λJd=> ?_) (λW=>M ae);refine aW (λDZ=> ?_) (λW=>M ae);refine aW (λGi=> ?_) (λW=>M ae);have ab:lenOf G.val=(Y ay.ah:Int):=by rw[ce.len];exact BW
 have ac:lenOf V.val=(Y ay.ah:Int):=by rw[q.len];exact Jd
 have af:lenOf H.val=(Y ay.ah:Int):=by rw[oA.len];exact DZ
 have ag:lenOf X.val=(Y ay.ah:Int):=by rw[aa.len];exact Gi
 have p:Y ay.ah<=140737488355328:=ae;have A:∀i<Y ay.ah,Sl (cr 96 X i)/\(cr 96 X i).ah.length<=100:=λi Q=>bb i ae
 refine bQ (Y ay.ah) (λi n=>n=[]/\∀k<i,Qq G k=0/\LO H k=0/\(if cb V k 0 then m85 ap X k=0 else(cr 96 X k).ah=[])) ⟨0,rfl,ae,rfl,ae⟩ ?_;rintro i _ Q ⟨rfl,m⟩;simp[ab,ac,af,ag];refine aW (λQ=> ?_) (λbg=> ?_);have al:=(I5 (t85 oW h i ap (cr 96 X i) (A i Q).1)).1;simp only[wk,cr,cU,du] at al;have an:=(A i Q).1.len;simp only[cr] at an;simp[bD Q p,Q,aY al,an];refine aW (λa1=> ?_) (λW=>M ae);refine aW (λa2=> ?_) (λW=>M ae);refine aW (λD=> ?_) (λD=> ?_);have F:cb V i 0=true:=D;refine aW (λB=> ?_) (λW=>M ae);exact w5 m ⟨a1,a2,by rw[aH F];exact B⟩;have F:¬cb V i 0=true:=D;refine aW (λB=> ?_) (λW=>M ae);exact w5 m ⟨a1,a2,by rw[aP F];exact B⟩;have l:i=Y ay.ah:=ae;subst l;rw[aY (e86 V q ae)];simp;rw[aY (e87 H oA ae)];simp;refine bQ (Y ay.ah) (λi n=>∃z x y,n=[.r (ao z),.r (ao x),.r (ao y)]/\Y z=i/\Y x=i/\Y y=i/\∀k<i,aQ x (k:Int) 0=ao (cr 96 X k).ah/\Gn z k=13/\Gn y k=4/\BX ap V H G X k/\(∀j<13,bn (aQ z (k:Int) j).val=gS ap V H X k j)/\∀j<4,bn (aQ y (k:Int) j).val=gB ap V H G X k j) ⟨0,rfl,ae,[],[],[],rfl,rfl,rfl,rfl,ae⟩ ?_;rintro i _ Q ⟨z,x,y,rfl,w,g,u,f⟩;simp[ab,ac,af,ag];refine aW (λQ=> ?_) (λbg=> ?_);have a0:=e88 (cr 96 X i) (A i Q).1 (by have:=(A i Q).2;omega);simp only[cr] at a0;simp[bD Q p,Q,aY a0];refine⟨ae,aW (λD=> ?_) (λD=> ?_)⟩;have F:cb V i 0=true:=D;have a9:=nj _ (t89 h i ap (ci H i) (cr 96 X i) (A i Q).1);simp only[wk,ci,cr,cU,du,I9,Ql,t7] at a9;rw[aY a9];simp;refine aW (λB=> ?_) (λW=>M W);have ba:=nj _ (t90 h i ap (ci H i) _ (UC (aQ G.ah (i:Int) 0)) (ci G i) (cr 96 X i) (A i Q).1);simp only[wk,ci,cr,cU,du,I9,Ql,t7] at ba;rw[aY ba];simp[bD Q p];refine aW (λa5=> ?_) (λW=>M W);refine⟨ae,ae,_,_,_,⟨rfl,rfl,rfl⟩,bZ,bZ,bZ,λk hk=> ?_⟩;by_cases d:k=i;subst d;refine⟨by rw[As g];rfl,abn w rfl,abn u rfl,by rw[BX,aH F];exact⟨B,a5⟩,λj N=> ?_,λj N=> ?_⟩;rw[As w,gS,aH F]
 match j,N with|0,_|1,_|2,_|3,_|4,_|5,_|6,_|7,_|8,_|9,_|10,_|11,_|12,_=>rfl
 rw[As u,gB,aH F]
 match j,N with|0,_|1,_|2,_|3,_=>rfl
 obtain⟨c,b,a,q1,q2,q3⟩:=f k ae;exact⟨by rw[Jf ae];exact c,by rw[abo ae];exact b,by rw[abo ae];exact a,q1,λj N=>by rw[Jf ae];exact q2 j N,λj N=>by rw[Jf ae];exact q3 j N⟩;have F:¬cb V i 0=true:=D;refine aW (λB=> ?_) (λW=>M W);refine⟨ae,ae,_,_,_,⟨rfl,rfl,rfl⟩,bZ,bZ,bZ,λk hk=> ?_⟩;by_cases d:k=i;subst d;refine⟨by rw[As g];rfl,abn w rfl,abn u rfl,by rw[BX,aP F];exact B,λj N=> ?_,λj N=> ?_⟩;rw[As w,gS,aP F]
 match j,N with|0,_|1,_|2,_|3,_|4,_|5,_|6,_|7,_|8,_|9,_|10,_|11,_|12,_=>rfl
 rw[As u,gB,aP F]
 match j,N with|0,_|1,_|2,_|3,_=>rfl
 obtain⟨c,b,a,q1,q2,q3⟩:=f k ae;exact⟨by rw[Jf ae];exact c,by rw[abo ae];exact b,by rw[abo ae];exact a,q1,λj N=>by rw[Jf ae];exact q2 j N,λj N=>by rw[Jf ae];exact q3 j N⟩;have l:i=Y ay.ah:=ae;subst l;exact(s _).2 (.inr ⟨z,x,y,rfl,⟨h0,ae,ae,ae,ae,ae,m,w,g,u,f⟩⟩)
end
