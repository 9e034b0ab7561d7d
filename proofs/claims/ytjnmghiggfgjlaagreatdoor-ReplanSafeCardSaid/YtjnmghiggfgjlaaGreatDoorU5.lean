/- Part 5. -/
import Derived.Test.YtjnmghiggfgjlaaGreatDoorU4
set_option linter.all false
set_option maxRecDepth 100000
set_option maxHeartbeats 100000000
open Bool renaming and_eq_true->aC,true->J,false->E
open Nat renaming le_trans->mg,zero_le->rP,le_of_not_lt->QY,lt_succ_self->VF,le_antisymm->VK,succ_le_succ->awh
open List renaming cons_append->cG,nil_append->cX,range->dj,getElem?_eq_getElem->dv,map_cons->dH,mem_append->fc,getElem?_append_left->fO,mem_of_getElem?->jD,map_nil->oE,getElem_mem->sQ,length_eq_zero_iff->yS,mem_of_find?_eq_some->Vu,find?_some->acs,length->Y
open Option renaming some->U
open Int renaming toNat_natCast->rN
open Go.IntKind renaming i64->I
namespace Go.Proofs.YtjnmghiggfgjlaaGreatDoor.Y
open Go.RowKit
noncomputable section
variable{X:Nat}{W:av}{V:RV}
section
variable[Inhabited cm]
def aCU(h:dU)(bw ap:Int)(x:Nat->Int)(r:RV)(R:Sl r):∃o,TB.Ev 113 (wk++[.i bw,.i ap,.i (x 0),.i (x 1),.i (x 2),.i (x 3),.i (x 4),.i (x 5),.i (x 6),.i (x 7),.i (x 8),.i (x 9),.i (x 10),.i (x 11),.i (x 12),.r r]) o/\∃X,o=.ret X/\fC (kI 14) X=J/\(xi X 13=0->mc bw ap=0):=by
 by_cases V:mc bw ap=0;obtain⟨o,W,X,Q,P⟩:=t89 h bw ap x r R;exact⟨o,W,X,Q,P,λ_=>V⟩;refine eL ?_;have W:=Jb oV h bw ap;simp only[wk,cG,cX] at W;simp[T89,wk,aY W,V,xi]
def QB(r:RV):Nat->av
 |0=>[]|k+1=>iF 1 [.mk (.int I (ci r k 0)) [],.mk (.int I (ci r k 0)) [],.mk (.int I (ci r k 1)) [],.mk (.int I (ci r k 2)) [],.mk (.bool (cb r k 3)) []] (QB r k)
def aCV{bw ap:Int}(V:jY=0->BW)(W:X<(dV bw ap).length):BU (Y ay.ah) eV (bY (dV bw ap) X):=by
 obtain⟨k,_,R,_,_,Q⟩:=atf V (sQ W);have e:∀j<14,bY (dV bw ap) X j=ci dh k j:=λj P=>by
  rw[<-Qs (ci dh k) j P,<-R];simp[bY,aQ,aI,W]
 have:=Q;constructor;rw[e 4 ae];exact this.kind;rw[e 1 ae];exact this.bw;rw[e 2 ae];exact this.ap;rw[e 3 ae];exact this.mark;rw[e 4 ae,e 5 ae];exact this.side;rw[e 4 ae,e 6 ae];exact this.dir;rw[e 4 ae,e 7 ae];exact this.aBv;rw[e 4 ae,e 8 ae];exact this.size;rw[e 4 ae,e 9 ae];exact this.wth;rw[e 10 ae,e 11 ae];exact this.from_;rw[e 12 ae,e 13 ae];exact this.to
def aCW(h:dU)(bw ap:Int)(x:Nat->Int)(W r:RV)(ce:Sl W)(O:Sl r):∃o,TB.Ev 148 (wk++[.i bw,.i ap,.i (x 0),.i (x 1),.i (x 2),.i (x 3),.i (x 4),.i (x 5),.i (x 6),.i (x 7),.i (x 8),.i (x 9),.i (x 10),.i (x 11),.i (x 12),.r W,.r r]) o/\∃v e,o=.ret [.r (ao v),.i e]/\Y v<=100000/\(¬e=0->v=[])/\(e=0->v=bN (bu.lex [1,0] E).lt (qe W bw.toNat (ao (QB r (Y r.ah))) (dV bw ap) (L8 [x 0,x 1,x 2,x 3,x 4,x 5,x 6,x 7,x 8,x 9,x 10,x 11,x 12]) (dV bw ap).length))/\((oi 113 (wk++[.i bw,.i ap,.i (x 0),.i (x 1),.i (x 2),.i (x 3),.i (x 4),.i (x 5),.i (x 6),.i (x 7),.i (x 8),.i (x 9),.i (x 10),.i (x 11),.i (x 12),.r r]) 13=0/\Y W.ah=Y ay.ah/\∀k<Y W.ah,Qy W k=0)->e=0):=by
 generalize N:(oi 113 (wk++[.i bw,.i ap,.i (x 0),.i (x 1),.i (x 2),.i (x 3),.i (x 4),.i (x 5),.i (x 6),.i (x 7),.i (x 8),.i (x 9),.i (x 10),.i (x 11),.i (x 12),.r r]) 13=0/\Y W.ah=Y ay.ah/\∀k<Y W.ah,Qy W k=0)=X;refine eL ?_;obtain⟨o,Q,l,rfl,D,G⟩:=aCU h bw ap x r O;obtain⟨f,rfl⟩:=Qv D;rw[show dj 14=[0,1,2,3,4,5,6,7,8,9,10,11,12,13] from rfl] at Q G;have B:X->f 13=0:=λk=>by
  rw[<-N] at k;have:=k.1;rw[oi,DW Q] at this;exact this
 simp only[wk,cG,cX,dH,oE] at Q;rw[show fw=(T.call _ _ _ _ _ _ (T.aK _ _ (T.aK _ (T.loop _ _ _ (T.aK _ (T.aS _ (T.aS _ (T.call _ _ _ _ _ _ (T.aK _ (T.aK _ _ (fw.at [0,1,0,0,0,0,0,0,0,1])) _)))) (fw.at [0,1,0,0,1]))) _))) from rfl];simp[wk,aY Q];refine aU (λA=> ?_) (λz=>⟨[],_,⟨rfl,rfl⟩,aw,λ_=>rfl,λh=>bB h z,B⟩);have M:=G A;have P:BW:=(yH oV h).2 (by
  have:=M;unfold mc at this;by_cases R:jY=0;exact R;rw[aJ R] at this;exact this)
 have j:0<=bw/\bw<Y ay.ah:=by
  have R:jY=0:=by
   have:=M;unfold mc at this;by_cases R:jY=0;exact R;rw[aJ R] at this;exact this
  have:=M;unfold mc at this;rw[aH R] at this;by_cases V:(jf bw 0 (Y ay.ah-1)&&jf ap 0 (eV-1))=J;simp[jf] at V;omega;rw[aJ V] at this;omega
 have y:=aby W bw.toNat (ao (QB r (Y r.ah))) (dV bw ap) (L8 [x 0,x 1,x 2,x 3,x 4,x 5,x 6,x 7,x 8,x 9,x 10,x 11,x 12]) (dV bw ap).length;have bZ:=UM (bw:=bw) (ap:=ap) (λ_=>P);have w:=abg (bw:=bw) (ap:=ap) (λ_=>P);have u:∀i<(dV bw ap).length,BU (Y ay.ah) eV (bY (dV bw ap) i):=λi V=>aCV (λ_=>P) V
 have F:=Jb oV h bw ap;simp only[wk,cG,cX] at F;have t:=ce.sm;refine aU (λjh=> ?_) (λs=>⟨[],_,⟨rfl,rfl⟩,aw,λ_=>rfl,λh=>bB h ae,λk=>bB (by rw[<-N] at k;rw[ce.len,h.rl.len,k.2.1]) s⟩);rw[ce.len,h.rl.len] at jh;refine bQ (Y W.ah) (λi L=>L=[]) ⟨0,rfl,rP _,rfl⟩ ?_;rintro i _ V rfl;simp[ce.len];refine aU (λV=> ?_) (λg=> ?_);simp[bD V t,V];refine λp=>⟨[],280,⟨rfl,rfl⟩,aw,aw,aw,λk=>bB (by rw[<-N] at k;exact k.2.2 i V) p⟩
 rw[show fw.at [0,1,0,0,1]=(T.loop _ _ _ (T.aK _ _ (T.call _ _ _ _ _ _ (T.aS _ (T.aS _ (fw.at [0,1,0,0,1,0,1,0,0,0])))))) from rfl];refine bQ (Y r.ah) (λi L=>L=[.r (ao (QB r i))]) ⟨0,rfl,rP _,rfl⟩ ?_;rintro q _ H rfl;simp[O.len];refine aU (λH=> ?_) (λd=> ?_);simp[bD H O.sm,H,QB,ci,cb];have n:q=Y r.ah:=ae;subst n;obtain⟨m,rfl⟩:∃k:Nat,bw=k:=⟨bw.toNat,ae⟩;rw[aY F];simp[ce.len];refine⟨ae, ?_⟩;refine aCT _ _ h m ap _ _ _ _ _ _ _ _ _ _ _ _ _ _ _ _ _ _ _ _ _ _ _ _ _ _ _ _ _ _ W r (ao (QB r (Y r.ah))) _ (L8 [x 0,x 1,x 2,x 3,x 4,x 5,x 6,x 7,x 8,x 9,x 10,x 11,x 12]) rfl bZ ae ce ae P.nr.2 u w ?_;refine⟨_,0,rfl, ?_,aw,aw,λ_=>rfl⟩;rw[(BV _).length_eq];simp only[rN] at y;omega
end
def ajO:ar:=[0,1,1,0,0,0,1,0,0,0,1,0,1,0,1,0,1,0,0,0,1,0,1,0,1]
section
variable{R:aX->Prop}{G:aN}{t:T}{O:aj}{L:ck}
variable[Inhabited cm]
def atT{a b c:Bool}(h:(a&&b&&c)=J)(X:(a=E\/b=E)\/c=E):False:=by cases a<;>cases b<;>cases c<;>simp_all
def atU{a b c:Bool}(X:¬((a=E\/b=E)\/c=E)):(a&&b&&c)=true:=by cases a<;>cases b<;>cases c<;>simp_all
def UY(V Q W:RV)(X:av)(p:Nat):Prop:=Gs V W (ci (ao X) p 0).toNat (ci (ao X) p 1).toNat=J/\Gs Q W (ci (ao X) p 0).toNat (ci (ao X) p 1).toNat=J
def aCX(h:dU)(ap:Int)(d W mv V Q re c:RV)(s:Gq ay d W mv V Q re c)(X P:Prop)(x7 x8 x9 bk bl br w5:Int)(bs bt UU b0 b1:RV)(m N:av)(L:ck)
  (hn:Y ay.ah<=64)(b2:Y W.ah=Y ay.ah)(b3:Y V.ah=Y ay.ah)(b4:Y Q.ah=Y ay.ah)
  (b5:ku m)(cs:Y m<=200000*Y ay.ah)(hm:m=[]<->P)(al:atj (Y ay.ah) N)
  (z:X<->P/\(∀i<Y ay.ah,iN V W i 4=0)/\(∀i<Y ay.ah,iN Q W i 4=0)/\abm d ap c (ao (yI V W (Y ay.ah))) (ao N)/\∀p<Y N,UY V Q W N p):
  T.wp TB.Ev (λo=>∃v e,o=aX.ret [.r (ao v),.i e]/\(¬e=0->v=[])/\((e=0/\v=[])<->X)) (qb.at ajO) ⟨[mK,mL,wX,I9,Ja,eV,ap,x7,x8,x9,bk,bl,br,w5],[],[ay,mb,nA,nC,dh,d,W,mv,V,Q,re,c,bs,bt,UU,b0,b1,ao m,ao N],[]⟩ L:=by
 rw[show qb.at ajO=T.loop _ _ _ _ from rfl];have an:Y ay.ah<=140737488355328:=ae;have D4:lenOf V.val=(Y ay.ah:Int):=by rw[s.bf.len,b3]
 have Jg:lenOf Q.val=(Y ay.ah:Int):=by rw[s.af.len,b4]
 have BZ:lenOf W.val=(Y ay.ah:Int):=by rw[s.bd.len,b2]
 have n:∀{e:Int},e≠0->¬X->∃v e',(ao []=ao v/\e=e')/\(¬e'=0->v=[])/\(e'=0/\v=[]<->X):=λ{e} he b6=>⟨[],e,⟨rfl,rfl⟩,λ_=>rfl,by simp[he,b6]⟩
 have s1:X->∀i<Y ay.ah,iN V W i 4=0:=λk=>(z.1 k).2.1
 have s2:X->∀i<Y ay.ah,iN Q W i 4=0:=λk=>(z.1 k).2.2.1
 refine bQ (Y ay.ah) (λi A=>A=[.r (ao (yI V W i))]/\∀k<i,iN V W k 4=0) ⟨0,rfl,rP _,rfl,ae⟩ ?_;rintro i _ G ⟨rfl,a0⟩;simp[D4,BZ];refine aU (λG=> ?_) (λaa=> ?_);simp[bD G an,G];have q1:=Jk V W i;exact aU (λl=>⟨ae,rfl,w4 a0 l⟩) (λH=>n H λk=>H (s1 k i G));have ab:i=Y ay.ah:=VK G (QY aa);subst ab;refine bQ (Y ay.ah) (λi A=>A=[.r (ao (yI Q W i))]/\∀k<i,iN Q W k 4=0) ⟨0,rfl,rP _,rfl,ae⟩ ?_;rintro i _ G ⟨rfl,a3⟩;simp[Jg,BZ];refine aU (λG=> ?_) (λaa=> ?_);simp[bD G an,G];have q1:=Jk Q W i;exact aU (λl=>⟨ae,rfl,w4 a3 l⟩) (λH=>n H λk=>H (s2 k i G));have ab:i=Y ay.ah:=VK G (QY aa);subst ab;have b7:=Jk V W (Y ay.ah);have b8:=Jk Q W (Y ay.ah);have ct:=al.1;obtain⟨o,g,b,ca,rfl,cu,cv,a4⟩:=aCi h d ap c (ao (yI V W (Y ay.ah))) (ao N) s.wg s.bx (lJ ae) (lJ ae);simp only[wk,cG,cX] at g;rw[aY g];simp;have a9:X->ca=0/\b=[]:=λk=>a4.2 (z.1 k).2.2.2.1
 refine aU (λcc=> ?_) (λH=>n H λk=>H (a9 k).1);refine bQ (Y b) (λj A=>∃M,A=[.r (ao M)]/\ku M/\Y M<=200000*Y ay.ah+2*j/\(M=[]<->m=[]/\j=0)) ⟨0,rfl,rP _,m,rfl,b5,ae,aw⟩ ?_;rintro j _ f ⟨M,rfl,ac,cx,ba⟩;simp;refine aU (λf=>⟨f, ?_⟩) (λcf=> ?_);refine aU (λl=> ?_) (λl=> ?_);rw[bD f ae];exact⟨_,rfl,ku.ins rfl (ku.ins rfl ac),by refine mg (vk _ _ _) ?_;refine mg (awh (vk _ _ _)) ?_;omega,D6 ae⟩;rw[bD f ae];exact⟨_,rfl,ku.ins rfl ac,by refine mg (vk _ _ _) ?_;omega,D6 ae⟩;have ch:j=Y b:=VK f (QY cf);subst ch;refine bQ (Y N) (λp A=>∃y,A=[.r (ao y)]/\ku y/\Y y<=200000*Y ay.ah+2*Y b+2*p/\(y=[]<->M=[]/\∀p'<p,UY V Q W N p')) ⟨0,rfl,rP _,M,rfl,ac,ae,aw⟩ ?_;rintro p _ F ⟨y,rfl,a,cy,ag⟩;simp[b7,b8];refine aU (λF=>⟨F, ?_⟩) (λcl=> ?_);obtain⟨x,hx⟩:∃x,N[p]?=U x:=⟨_,dv F⟩;have cA:=al.2 x (jD hx);have bb:bn (aQ N (p:Int) 0).val=aI 0 x:=by simp[aQ,aI,hx]
 have bc:bn (aQ N (p:Int) 1).val=aI 1 x:=by simp[aQ,aI,hx]
 have u:UY V Q W N p<->Gs V W (aI 0 x).toNat (aI 1 x).toNat=J/\Gs Q W (aI 0 x).toNat (aI 1 x).toNat=true:=by
  rw[UY,show ci (ao N) p 0=aI 0 x from bb,show ci (ao N) p 1=aI 1 x from bc]
 have bg:X->UY V Q W N p:=λk=>(z.1 k).2.2.2.2 p F
 generalize aI 0 x=z0 at*;generalize aI 1 x=z1 at*;have D:z0.toNat<Y ay.ah:=ae;have B:z1.toNat<Y ay.ah:=ae;simp only[bb,bc,ub V W D 0 ae,ub V W D 1 ae,ub V W D 2 ae,ub V W D 3 ae,ub V W B 0 ae,ub V W B 1 ae,ub V W B 2 ae,ub V W B 3 ae,ub Q W D 0 ae,ub Q W D 1 ae,ub Q W D 2 ae,ub Q W D 3 ae,ub Q W B 0 ae,ub Q W B 1 ae,ub Q W B 2 ae,ub Q W B 3 ae];simp only[Gs] at u;refine⟨ae,ae,aU (λH=>n (by rw[aJ (Jj H)];omega) λk=> ?_) (λcB=>⟨ae,ae,aU (λH=>n (by rw[aJ (Jj H)];omega) λk=> ?_) (λcC=> ?_)⟩)⟩;have:=(u.1 (bg k)).1;simp only[aC] at this;exact Jj H this.1;have:=(u.1 (bg k)).2;simp only[aC] at this;exact Jj H this.1;refine aU (λc1=> ?_) (λc1=>aU (λc2=> ?_) (λc2=> ?_));rw[bD F ae];refine⟨_,rfl,ku.ins rfl (ku.ins rfl a),by refine mg (vk _ _ _) ?_;refine mg (awh (vk _ _ _)) ?_;omega,D6 λw=> ?_⟩;exact atT (u.1 (w.2 p (VF p))).1 c1;rw[bD F ae];refine⟨_,rfl,ku.ins rfl (ku.ins rfl a),by refine mg (vk _ _ _) ?_;refine mg (awh (vk _ _ _)) ?_;omega,D6 λw=> ?_⟩;exact atT (u.1 (w.2 p (VF p))).2 c2;rw[bD F ae];exact⟨_,rfl,a,ae,abk ag (u.2 ⟨atU c1,atU c2⟩)⟩;have cn:p=Y N:=VK F (QY cl);subst cn;have co:∀i<Y ay.ah,iN V W i 4=0:=a0;have cp:∀i<Y ay.ah,iN Q W i 4=0:=a3;refine aCs _ _ _ _ _ _ _ _ _ _ _ _ _ _ _ _ _ _ _ _ _ _ _ _ _ _ _ _ _ _ _ _ _ _ _ _ _ _ _ _ _ _ _ y a ae ⟨_,_,rfl,λh=>bB rfl h, ?_⟩;rw[aCr];constructor;rintro⟨_,h2⟩;have g2:=ag.1 h2;have g:=ba.1 g2.1;exact z.2 ⟨hm.1 g.1,co,cp,a4.1 ⟨cc,yS.1 g.2⟩,g2.2⟩;intro k;have q:=z.1 k;have hv:=(a9 k).2;exact⟨rfl,ag.2 ⟨ba.2 ⟨hm.2 q.1,by rw[hv];rfl⟩,q.2.2.2.2⟩⟩
end
section
variable[Inhabited cm]
def QC(ap:Int)(X R W Q V P:RV)(i:Nat):Prop:=cb R i 0=J->(∀k<(dV i ap).length,abt ap X R W Q V P i k)/\xi (UQ ap W X V i) 1=0/\(xr (UQ ap W X V i) 0).ah=[]
def abz:ar:=[0,1,1,0,0,0,1,0,0,0,1,0,1,0,1,0,1,0,0,0,1,0,0,0,0,0,0,0,0,0,0,0,0,0,0,0,0,0,0,0,0,0,1,0,0]
def abA:ar:=[0,1,1,0,0,0,1,0,0,0,1,0,1,0,1,0,1,0,0,0,1,0,0,0,0,0,0,0,0,0,0,0,0,0,0,0,0,0,0,0,0,0,1,1]
def abB:ar:=[0,1,1,0,0,0,1,0,0,0,1,0,1,0,1,0,1,0,0,0,1,0,0,0,0,0,0,0,0,0,0,0,0,0,0,1,0,0,0,0,0,1,0,0]
def abC:ar:=[0,1,1,0,0,0,1,0,0,0,1,0,1,0,1,0,1,0,0,0,1,0,0,0,0,0,0,0,0,0,0,0,0,0,0,1,0,0,0,0,0,1,1]
def SgQ(q:ar)(W:aE):Prop:=(q=abz/\∃X V,W=[X,V])\/(q=abA/\∃X,W=[X])\/(q=abB/\∃X,W=[X])\/(q=abC/\W=[])
def sgA(q:ar)(ms:aE)(D:SgQ q ms)(R:aX->Prop)(X:Nat->aZ->Prop)(L:ck)(b3:Brc)(h:dU)(hw:BW)(ap:Int)(wg Q P O N V G:RV)(x:Gq ay wg Q P O N V G)(n i:Nat)(cO:n=Y ay.ah)(hi:i<n)(hn:n<=64)(cW:Y P.ah=n)(b4:Y V.ah=n)
  (b5:cb P i 0=J->mc i ap=0/\∃v,Au (dV i ap) (cr 96 V i) (dV i ap).length v)
  (x7 x8 x9 b6 b7 w5:Int)(b0:Bool)(b8 ca UU cc cf:RV)(u:av)(bg:ku u)(c0:Y u<=200000*i+2)
  (l:∀e:Int,¬e=0->¬QC ap Q P O N V G i->R (.ret [.r (ao []),.i e]))
  (g:∀M,ku M->Y M<=200000*(i+1)->(M=[]<->u=[]/\QC ap Q P O N V G i)->X (i+1) [.r (ao M)]):
  T.wp TB.Ev R (qb.at q) ⟨[mK,mL,wX,I9,Ja,eV,ap,x7,x8,x9,b6,b7,(i:Int),w5],[b0],[ay,mb,nA,nC,dh,wg,Q,P,O,N,V,G,b8,ca,UU,cc,cf]++ms++[ao u],[]⟩ (⟨4,DY n X,BT n,n-i⟩::L):=by
 obtain⟨rfl,m1,m2,rfl⟩|⟨rfl,m1,rfl⟩|⟨rfl,m1,rfl⟩|⟨rfl,rfl⟩:=D;rw[show qb.at abz=T.aK _ _ _ from rfl]
 rotate_left
 rw[show qb.at abA=T.aK _ _ _ from rfl]
 rotate_left
 rw[show qb.at abB=T.aK _ _ _ from rfl]
 rotate_left
 rw[show qb.at abC=T.aK _ _ _ from rfl]
 rotate_left
 all_goals simp only[cG,cX]
 all_goals
  have bk:n<=140737488355328:=ae;have bl:=x.fA i ae;have br:=Jb oV h i ap;simp only[wk,cG,cX] at br;have bq:lenOf (cJ (.sl 96) (aQ V.ah (i:Int) 0)).val=((cr 96 V i).ah.length:Int):=bl.1.len;have c1:lenOf V.val=(n:Int):=by rw[x.Qz.len,b4]
  have c2:=UM (bw:=i) (ap:=ap) (λ_=>hw);simp[aY br];refine aU (λa3=> ?_) (λa3=> ?_);have t:cb P i 0=true:=a3;obtain⟨ch,sv,cl⟩:=b5 t;refine aU (λ_=> ?_) (λA=>bB ch A);refine bQ (dV i ap).length (λk f=>∃F,f=[.r (ao F)]/\ku F/\Y F<=200000*i+2+10*k/\(F=[]<->u=[]/\∀k'<k,abt ap Q P O N V G i k')) ⟨0,rfl,rP _,_,rfl,bg,ae,Je Iff.rfl⟩ ?_;rintro k _ s ⟨F,rfl,ab,c3,d⟩;simp;refine aU (λs=> ?_) (λcn=> ?_);refine⟨s, ?_⟩;refine bQ (cr 96 V i).ah.length (λq f=>f=[]/\∀c<q,ci (cr 96 V i) c 0≠bY (dV i ap) k 0) ⟨0,rfl,rP _,rfl,ae⟩ ?_;rintro q _ D ⟨rfl,ac⟩;simp[bq];refine aU (λD=> ?_) (λc4=> ?_);refine⟨D,aU (λa0=> ?_) (λa0=> ?_)⟩
  ·have hF:Fst (cr 96 V i) (bY (dV i ap) k 0) q:=⟨D,a0,ac⟩;obtain⟨o,z,a1,a4,rfl,c5⟩:=t78 oV h (bY (dV i ap) k 0) _ (UN (aQ Q.ah (i:Int) 0)) (ci Q i 1) (ci Q i 2) (ci Q i 3) (ci Q i 4) (ci Q i 5) (ci Q i 6) (ci Q i 7) (ci Q i 8) (ci Q i 9) (ci Q i 10) (ci Q i 11) (ci Q i 12) (ci Q i 13) (ci Q i 14) (ci Q i 15) (ci Q i 16);have p:m78 Q (bY (dV i ap) k 0) i=[.r (ao a1),.i a4]:=DW z;simp only[wk,ci,bY,cG,cX] at z;rw[aY z];simp[bq];have ag:QC ap Q P O N V G i->a4=0:=λW=>by
    have:=((W t).1 k s q hF).1;rw[p] at this;exact this
   refine aU (λco=> ?_) (λA=>l a4 A λW=>A (ag W));refine⟨D, ?_⟩;rw[atn (ao a1) (lJ ae)];simp[bq];obtain⟨cp,y⟩:∃b,ob 146 [.r (ao a1),.i (ci (cr 96 V i) q 0),.i (ci (cr 96 V i) q 1),.i (ci (cr 96 V i) q 2),.b (cb (cr 96 V i) q 3)] 0=b:=⟨_,rfl⟩;have fH:abt ap Q P O N V G i k<->(cp=J/\(bY (dV i ap) k 4=7\/bY (dV i ap) k 4=8->cb (cr 96 V i) q 3=J\/abs ap P O N V G (bY (dV i ap) k)=J)):=by
    refine⟨λH=>by have:=(H q hF).2;rw[p] at this;rw[<-y];exact this,λH c bs=> ?_⟩;have cs:c=q:=by
     rcases Nat.lt_trichotomy c q with a|a|a;exact bB bs.2.1 (ac c a);exact a;exact bB hF.2.1 (bs.2.2 q a)
    subst cs;rw[p];exact⟨co,by rw[<-y] at H;exact H⟩
   have a9:=nD [.bool] (aB5 hw h ap P O N V G (bY (dV i ap) k) x.mv x.Qz ae ae (λj hj=>(x.fA j hj).1));have bt:abs ap P O N V G (bY (dV i ap) k)=xb (out 147 (wk++[.i ap,.r P,.r O,.r N,.r V,.r G]++ma (bY (dV i ap) k))) 0:=rfl;generalize abs ap P O N V G (bY (dV i ap) k)=c6 at fH bt;simp only[ua,<-bt] at a9;simp only[wk,ma,bY,cG,cX] at a9;simp only[ci,cb,cr] at y;simp only[y];simp only[bY,cb,cr] at fH;have ct:(dV i ap).length<=140737488355328:=ae;have al:∀{B:aE},(iF 3 B F).length<=200000*i+2+10*(k+1):=λ{B}=>by have:=vk 3 B F;omega
   have aa:∀{B ba:aE},(iF 3 ba (iF 3 B F)).length<=200000*i+2+10*(k+1):=λ{B ba}=>by have:=vk 3 B F;have:=vk 3 ba (iF 3 B F);omega
   have cu:Y F<=200000*i+2+10*(k+1):=ae;refine aU (λcv=> ?_) (λcv=> ?_)
   all_goals
    refine aU (λh7=>⟨D,aU (λhd=> ?_) (λhd=> ?_)⟩) (λh7=>aU (λh8=>⟨D,aU (λhd=> ?_) (λhd=> ?_)⟩) (λh8=> ?_))
   all_goals
    try rw[aY a9]
    try simp
    try refine aU (λcx=> ?_) (λcx=> ?_)
   all_goals
    rw[bD s ct]
    first
     |exact⟨_,rfl,ab,cu,abk d (fH.2 (by clear d fH al aa l g p y ag;grind))⟩
     |exact⟨_,rfl,ku.ins rfl ab,al,D6 (λw=>by have:=fH.1 (w.2 k (VF k));clear w d fH al aa l g p y ag;grind)⟩|exact⟨_,rfl,ku.ins rfl (ku.ins rfl ab),aa,D6 (λw=>by have:=fH.1 (w.2 k (VF k));clear w d fH al aa l g p y ag;grind)⟩
  have cy:(cr 96 V i).ah.length<=140737488355328:=ae;rw[bD D cy];exact⟨rfl,w4 ac a0⟩;exfalso;obtain⟨k',w1,w2,w3⟩:=cl.2 k s;exact ac k' ae w3;have cA:k=(dV i ap).length:=VK s (QY cn);subst cA;obtain⟨o,z,an,bb,rfl,c7⟩:=b3 h i ap (ci O i) Q (cr 96 V i) x.bd bl.1;have bc:UQ ap O Q V i=[.r (ao an),.i bb]:=DW z;have b1:QC ap Q P O N V G i->bb=0/\an=[]:=λW=>by
   have:=(W t).2;rw[bc] at this;exact this
  simp only[wk,ci,cr,cG,cX] at z;rw[aY z];simp;refine aU (λcB=> ?_) (λA=>l bb A λW=>A (b1 W).1);refine bQ (Y an) (λj f=>∃m,f=[.r (ao m)]/\ku m/\Y m<=200000*i+50000+j/\(m=[]<->F=[]/\j=0)) ⟨0,rfl,rP _,F,rfl,ab,ae,aw⟩ ?_;rintro j _ hj ⟨m,rfl,b2,aa,cC⟩;simp;refine aU (λhj=>⟨hj, ?_⟩) (λc8=> ?_);rw[bD hj ae];exact⟨_,rfl,ku.ins rfl b2,by refine mg (vk _ _ _) ?_;omega,D6 ae⟩;rw[bD hi bk];refine g m b2 ae ?_;have cD:j=0<->an=[]:=by rw[<-yS];omega
  rw[cC,d,cD];exact⟨λw=>⟨w.1.1,λ_=>⟨w.1.2,by rw[bc];exact cB,by rw[bc];exact w.2⟩⟩,λw=>⟨⟨w.1,(w.2 t).1⟩,(b1 w.2).2⟩⟩;have t:¬cb P i 0=true:=a3;rw[bD hi bk];exact g u bg ae ⟨λq=>⟨q,λw=>bB w t⟩,λq=>q.1⟩

def RoA(ap:Int)(R X W P V Q:RV)(i:Nat):Prop:=(∀j<13,ci P i j=gS ap X W V i j)/\I7 (gB ap X W R V i 0) (gB ap X W R V i 1) (gB ap X W R V i 2) (gB ap X W R V i 3) (ci Q i 0) (ci Q i 1) (ci Q i 2) (ci Q i 3)=J
def RoI(ap:Int)(X W V R Q:RV)(i:Nat):Prop:=eF (gB ap X W V R i 0) (gB ap X W V R i 1) (gB ap X W V R i 2) (gB ap X W V R i 3)=J/\vB Q i=J
def aCZ(ap:Int)(X W V P R Q:RV)(i:Nat):L6 ap X W V P R Q i<->RoA ap X W V P R Q i/\RoI ap W V X R Q i/\QC ap X W V P R Q i:=⟨λh=>⟨⟨h.aft,h.ins⟩,h.inb,h.UK⟩,λh=>⟨h.1.1,h.2.1,h.1.2,h.2.2⟩⟩
def abE{Q V S:Prop}{R:av}{F:Nat->Prop}(P:F X<->Q/\V/\S)(O:V)(h:W=[]<->R=[]/\S)(N:R=[]<->(∀k<X,F k)/\Q):W=[]<->∀k<X+1,F k:=by
 rw[h,N,aCl,P];exact⟨λw=>⟨w.1.1,w.1.2,O,w.2⟩,λw=>⟨⟨w.1,w.2.1⟩,w.2.2.2⟩⟩
def ajP:ar:=[0,1,1,0,0,0,1,0,0,0,1,0,1,0,1,0,1,0,0,0,1]
def aC0(ag:Brc)(h:dU)(hw:BW)(ap:Int)(x V R W N Q P:RV)(A:Gq ay x V R W N Q P)(X:Prop)(L:ck)
  (c:Y ay.ah<=64)(a4:Y N.ah=Y ay.ah)(bg:Y P.ah=Y ay.ah)(a9:Y V.ah=Y ay.ah)(b:Y R.ah=Y ay.ah)(ba:Y W.ah=Y ay.ah)(a:Y Q.ah=Y ay.ah)
  (al:∀i<Y ay.ah,cb R i 0=J->mc i ap=0/\∃v,Au (dV i ap) (cr 96 Q i) (dV i ap).length v)
  (x7 x8 x9 bk bl:Int)(br bs:RV)(vs vr vb:av)(bt:Y vs=Y ay.ah)(b0:Y vb=Y ay.ah)
  (b1:∀i<Y ay.ah,(∀j<13,bn (aQ vs (i:Int) j).val=gS ap R W Q i j)/\∀j<4,bn (aQ vb (i:Int) j).val=gB ap R W V Q i j)
  (hK:X<->(∀i<Y ay.ah,L6 ap V R W N Q P i)/\xi (vl ap) 1=0/\(∀i<Y ay.ah,iN W V i 4=0)/\(∀i<Y ay.ah,iN N V i 4=0)/\abm x ap P (ao (yI W V (Y ay.ah))) (xr (vl ap) 0)/\∀p<(xr (vl ap) 0).ah.length,Gs W V (ci (xr (vl ap) 0) p 0).toNat (ci (xr (vl ap) 0) p 1).toNat=J/\Gs N V (ci (xr (vl ap) 0) p 0).toNat (ci (xr (vl ap) 0) p 1).toNat=J):
  T.wp TB.Ev (λo=>∃v e,o=aX.ret [.r (ao v),.i e]/\(¬e=0->v=[])/\((e=0/\v=[])<->X)) (qb.at ajP) ⟨[mK,mL,wX,I9,Ja,eV,ap,x7,x8,x9,bk,bl],[],[ay,mb,nA,nC,dh,x,V,R,W,N,Q,P,br,bs,ao vs,ao vr,ao vb],[]⟩ L:=by
 rw[show qb.at ajP=(T.loop _ _ _ (T.aK _ (T.aS _ (T.aS _ (T.aS _ (T.aS _ (T.aS _ (T.aS _ (T.aS _ (T.aS _ (T.aS _ (T.aS _ (T.aS _ (T.aS _ (T.aK _ (T.ah _ _ _ (T.aS _ (T.aS _ (T.aS _ (T.aS _ (T.call _ _ _ _ _ _ (T.aK _ _ (T.aK _ (T.ah _ _ _ (qb.at abz)) (qb.at abA))))))))) (T.aS _ (T.aS _ (T.aS _ (T.aS _ (T.call _ _ _ _ _ _ (T.aK _ _ (T.aK _ (T.ah _ _ _ (qb.at abB)) (qb.at abC))))))))))))))))))))) (T.call _ _ _ _ _ _ (T.aK _ _ (qb.at ajO))))) from rfl];have ct:Y ay.ah<=140737488355328:=ae;have Jg:lenOf N.val=(Y ay.ah:Int):=by rw[A.af.len,a4]
 have UP:lenOf P.val=(Y ay.ah:Int):=by rw[A.bx.len,bg]
 have BZ:lenOf V.val=(Y ay.ah:Int):=by rw[A.bd.len,a9]
 have Jh:lenOf R.val=(Y ay.ah:Int):=by rw[A.mv.len,b]
 have D4:lenOf W.val=(Y ay.ah:Int):=by rw[A.bf.len,ba]
 have Gr:lenOf Q.val=(Y ay.ah:Int):=by rw[A.Qz.len,a]
 have a0:∀{e:Int},e≠0->¬X->∃v z,(ao []=ao v/\e=z)/\(¬z=0->v=[])/\(z=0/\v=[]<->X):=λ{e} D d=>⟨[],e,⟨rfl,rfl⟩,λ_=>rfl,by simp[D,d]⟩
 have b2:∀{e:Int},¬e=0->¬X->∃v z,aX.ret [.r (ao []),.i e]=aX.ret [.r (ao v),.i z]/\(¬z=0->v=[])/\(z=0/\v=[]<->X):=λ{e} D d=>⟨[],e,rfl,λ_=>rfl,by simp[D,d]⟩
 have b3:X->∀i<Y ay.ah,L6 ap V R W N Q P i:=λk=>(hK.1 k).1
 refine bQ (Y ay.ah) (λi b4=>∃m,b4=[.r (ao m)]/\ku m/\Y m<=200000*i/\(m=[]<->∀k<i,L6 ap V R W N Q P k)) ⟨0,rfl,rP _,[],rfl,ku.nil,aw,aw⟩ ?_;rintro i _ G ⟨m,rfl,aa,b5,hm⟩;simp[Jg,UP,BZ,Jh,D4,Gr,bt,b0];refine aU (λG=> ?_) (λb6=> ?_);obtain⟨B,q3⟩:=b1 i G;have n:=aCZ ap V R W N Q P i;simp only[B 0 ae,B 1 ae,B 2 ae,B 3 ae,B 4 ae,B 5 ae,B 6 ae,B 7 ae,B 8 ae,B 9 ae,B 10 ae,B 11 ae,B 12 ae,q3 0 ae,q3 1 ae,q3 2 ae,q3 3 ae];have u:RoA ap V R W N Q P i<->(∀j<13,ci N i j=gS ap R W Q i j)/\I7 (gB ap R W V Q i 0) (gB ap R W V Q i 1) (gB ap R W V Q i 2) (gB ap R W V Q i 3) (ci P i 0) (ci P i 1) (ci P i 2) (ci P i 3)=true:=Iff.rfl;have t:RoI ap R W V Q P i<->eF (gB ap R W V Q i 0) (gB ap R W V Q i 1) (gB ap R W V Q i 2) (gB ap R W V Q i 3)=J/\vB P i=true:=Iff.rfl;generalize gB ap R W V Q i 0=g0 at u t;generalize gB ap R W V Q i 1=g1 at u t;generalize gB ap R W V Q i 2=g2 at u t;generalize gB ap R W V Q i 3=g3 at u t;have a1:X->L6 ap V R W N Q P i:=λk=>b3 k i G
 have an:∀{e:Int},¬e=0->¬QC ap V R W N Q P i->∃v z,aX.ret [.r (ao []),.i e]=aX.ret [.r (ao v),.i z]/\(¬z=0->v=[])/\(z=0/\v=[]<->X):=λD y=>b2 D λk=>y (n.1 (a1 k)).2.2
 have dY:∀{s:aE},(iF 3 s m).length<=200000*i+2:=λ{s}=>by have:=vk 3 s m;omega
 have b7:∀{s a3:aE},(iF 3 a3 (iF 3 s m)).length<=200000*i+2:=λ{s a3}=>by have:=vk 3 s m;have:=vk 3 a3 (iF 3 s m);omega
 refine⟨G,aU (λH=>⟨G, ?_⟩) (λH=>⟨G, ?_⟩)⟩;have d:¬∀j<13,ci N i j=gS ap R W Q i j:=λF=>by
  simp only[ci] at F;have e0:=F 0 ae;have e1:=F 1 ae;have e2:=F 2 ae;have e3:=F 3 ae;have e4:=F 4 ae;have e5:=F 5 ae;have e6:=F 6 ae;have e7:=F 7 ae;have e8:=F 8 ae;have e9:=F 9 ae;have b8:=F 10 ae;have ca:=F 11 ae;have cc:=F 12 ae;rcases H with O|O|O|O|O|O|O|O|O|O|O|O|O;exact O e0;exact O e1;exact O e2;exact O e3;exact O e4;exact O e5;exact O e6;exact O e7;exact O e8;exact O e9;exact O b8;exact O ca;exact O cc
 refine aU (λq=>a0 (by rw[aJ (Jj q)];omega) λk=>Jj q (t.1 (n.1 (a1 k)).2.1)) (λab=> ?_);have ac:=t.2 (atF ab);refine aU (λhB=> ?_) (λhB=> ?_);refine sgA abz [_,_] (.inl ⟨rfl,_,_,rfl⟩) _ _ L ag h hw ap x V R W N Q P A (Y ay.ah) i rfl G c b a (al i G) _ _ _ _ _ _ _ _ _ _ _ _ _ ?_ ?_ (λe D y=>an D y) (λM l g f=>⟨M,rfl,l,g,abE n ac f ?_⟩);exact ku.ins rfl (ku.ins rfl aa);exact b7;exact D6 λw=>d (u.1 w.2).1
 refine sgA abA [_] (.inr (.inl ⟨rfl,_,rfl⟩)) _ _ L ag h hw ap x V R W N Q P A (Y ay.ah) i rfl G c b a (al i G) _ _ _ _ _ _ _ _ _ _ _ _ _ ?_ ?_ (λe D y=>an D y) (λM l g f=>⟨M,rfl,l,g,abE n ac f ?_⟩);exact ku.ins rfl aa;exact dY;exact D6 λw=>d (u.1 w.2).1
 have cf:∀j<13,ci N i j=gS ap R W Q i j:=by
  simp only[not_or,Classical.not_not] at H;exact atG H.1 H.2.1 H.2.2.1 H.2.2.2.1 H.2.2.2.2.1 H.2.2.2.2.2.1 H.2.2.2.2.2.2.1 H.2.2.2.2.2.2.2.1 H.2.2.2.2.2.2.2.2.1 H.2.2.2.2.2.2.2.2.2.1 H.2.2.2.2.2.2.2.2.2.2.1 H.2.2.2.2.2.2.2.2.2.2.2.1 H.2.2.2.2.2.2.2.2.2.2.2.2
 refine aU (λq=>a0 (by rw[aJ (Jj q)];omega) λk=>Jj q (t.1 (n.1 (a1 k)).2.1)) (λab=> ?_);have ac:=t.2 (atF ab);refine aU (λhB=> ?_) (λhB=> ?_);have ch:¬I7 g0 g1 g2 g3 (ci P i 0) (ci P i 1) (ci P i 2) (ci P i 3)=true:=aCm ab hB;refine sgA abB [_] (.inr (.inr (.inl ⟨rfl,_,rfl⟩))) _ _ L ag h hw ap x V R W N Q P A (Y ay.ah) i rfl G c b a (al i G) _ _ _ _ _ _ _ _ _ _ _ _ _ ?_ ?_ (λe D y=>an D y) (λM l g f=>⟨M,rfl,l,g,abE n ac f ?_⟩);exact ku.ins rfl aa;exact dY;exact D6 λw=>ch (u.1 w.2).2
 refine sgA abC [] (.inr (.inr (.inr ⟨rfl,rfl⟩))) _ _ L ag h hw ap x V R W N Q P A (Y ay.ah) i rfl G c b a (al i G) _ _ _ _ _ _ _ _ _ _ _ _ _ ?_ ?_ (λe D y=>an D y) (λM l g f=>⟨M,rfl,l,g,abE n ac f ?_⟩);exact aa;omega;exact⟨λw=>⟨hm.1 w,u.2 ⟨cf,aCn ab hB⟩⟩,λw=>hm.2 w.1⟩;have cl:i=Y ay.ah:=VK G (QY b6);subst cl;obtain⟨o,g1,bb,bc,rfl,cu,cn,cv⟩:=t23 oV h ap;have co:vl ap=[.r (ao bb),.i bc]:=DW g1;rw[co] at hK;have cp:X->bc=0:=λk=>(hK.1 k).2.1
 simp only[wk,cG,cX] at g1;rw[aY g1];simp;refine aU (λcs=> ?_) (λq=>a0 q λk=>q (cp k));refine aCX h ap x V R W N Q P A X (∀k<Y ay.ah,L6 ap V R W N Q P k) _ _ _ _ _ _ _ _ _ _ _ _ m bb _ c a9 ba a4 aa b5 hm cn ?_;refine hK.trans ⟨λw=>⟨w.1,w.2.2⟩,λw=>⟨w.1,cs,w.2⟩⟩

def t16(bl:Brc)(h:dU)(ap:Int)(G H O M F R D:RV)(P:Gq ay G H O M F R D):∃o,TB.Ev 84 (wk++[.r G,.r H,.i ap,.r O,.r M,.r F,.r R,.r D]) o/\∃v e,o=.ret [.r (ao v),.i e]/\(e≠0->v=[])/\((e=0/\v=[])<->Ji ap G H O M F R D):=by
 generalize hK:Ji ap G H O M F R D=X;refine Qo rfl rfl (.inr λv hv=>by obtain⟨_,_,h,_⟩:=hv;cases h) ?_;obtain⟨h1,h2⟩:=yH oV h;simp only[wk] at h1;have Q:∀{e:Int},e≠0->¬Ji ap G H O M F R D->∃v m,(ao []=ao v/\e=m)/\(¬m=0->v=[])/\(m=0/\v=[]<->X):=λ{e} he bs=>⟨[],e,⟨rfl,rfl⟩,λ_=>rfl,by rw[<-hK];simp[he,bs]⟩
 rw[show qb=(T.call _ _ _ _ _ _ (T.aK _ _ (T.aK _ _ (T.aK _ (T.aK _ (T.aK _ (T.aK _ _ (T.aK _ (T.aK _ (T.aK _ (T.aK _ _ (T.loop _ _ _ (T.aK _ _ (T.loop _ _ _ (T.aK _ _ (T.loop _ _ _ (T.aK _ _ (T.call _ _ _ _ _ _ (T.call _ _ _ _ _ _ (T.loop _ _ _ (T.aK _ _ (qb.at ajP)))))))))))) _) _) _)) _) _) _)))) from rfl];simp[wk,aY h1];simp only[h.rl.len,P.wg.len,P.bd.len,P.mv.len,P.bf.len,P.af.len,P.Qz.len,P.bx.len];refine aU (λh0=> ?_) (λaa=>Q aa λX=>aa X.ex.wk);have hw:=h2 h0;have hn:=hw.nr;refine aU (λh8=>Q ae λX=>by have:=X.ex.nw;omega) (λh8=> ?_);refine aU (λb4=> ?_) (λV=>Q ae λX=>by have:=X.ex.br;omega);refine aU (λb5=> ?_) (λV=>Q ae λX=>by have:=X.ex.br;omega);refine aU (λJg=> ?_) (λV=>Q ae λX=>by have:=X.ex.Jg;omega);refine aU (λUP=> ?_) (λV=>Q ae λX=>by have:=X.ex.UP;omega);refine aU (λBZ=> ?_) (λV=>Q ae λX=>by have:=X.ex.BZ;omega);refine aU (λJh=> ?_) (λV=>Q ae λX=>by have:=X.ex.Jh;omega);refine aU (λD4=> ?_) (λV=>Q ae λX=>by have:=X.ex.D4;omega);refine aU (λGr=> ?_) (λV=>Q ae λX=>by have:=X.ex.Gr;omega);have bt:lenOf F.val=(Y ay.ah:Int):=by rw[P.af.len];exact Jg
 have b0:lenOf D.val=(Y ay.ah:Int):=by rw[P.bx.len];exact UP
 have ab:lenOf H.val=(Y ay.ah:Int):=by rw[P.bd.len];exact BZ
 have ac:lenOf O.val=(Y ay.ah:Int):=by rw[P.mv.len];exact Jh
 have ag:lenOf M.val=(Y ay.ah:Int):=by rw[P.bf.len];exact D4
 have al:lenOf R.val=(Y ay.ah:Int):=by rw[P.Qz.len];exact Gr
 have s:Y ay.ah<=140737488355328:=ae;have B:∀i<Y ay.ah,Sl (cr 96 R i)/\(cr 96 R i).ah.length<=100:=λi W=>P.fA i ae
 refine bQ (Y ay.ah) (λi A=>A=[]/\∀k<i,Qy H k=0/\L5 M k=0/\(if cb O k 0 then m85 ap R k=0 else(cr 96 R k).ah=[])) ⟨0,rfl,ae,rfl,ae⟩ ?_;rintro i _ W ⟨rfl,q⟩;simp[ab,ac,ag,al];refine aU (λW=> ?_) (λl=> ?_);have an:=(I8 (t85 oV h i ap (cr 96 R i) (B i W).1)).1;simp only[wk,cr,cG,cX] at an;have a0:=(B i W).1.len;simp only[cr] at a0;simp[bD W s,W,aY an,a0];refine aU (λw=> ?_) (λV=>Q ae λX=>V (X.ex.gw i W).1);refine aU (λa2=> ?_) (λV=>Q ae λX=>V (X.ex.gw i W).2.1);refine aU (λz=> ?_) (λz=> ?_);have L:cb O i 0=true:=z;refine aU (λy=> ?_) (λV=>Q ae λX=>V (by have:=(X.ex.gw i W).2.2;rw[aH L] at this;exact this));exact w4 q ⟨w,a2,by rw[aH L];exact y⟩;have L:¬cb O i 0=true:=z;refine aU (λy=> ?_) (λV=>Q ae λX=>V (by have:=(X.ex.gw i W).2.2;rw[aJ L] at this;exact this));exact w4 q ⟨w,a2,by rw[aJ L];exact y⟩;have x:i=Y ay.ah:=ae;subst x;refine bQ (Y ay.ah) (λi A=>A=[]/\∀k<i,vB D k=J/\L5 F k=0) ⟨0,rfl,ae,rfl,ae⟩ ?_;rintro i _ W ⟨rfl,a9⟩;simp[h.rl.len,bt,b0];refine aU (λW=> ?_) (λl=> ?_);simp[bD W s,W];refine aU (λw=>aU (λa2=>w4 a9 ⟨w,a2⟩) (λV=>Q ae λX=>V (X.ex.box i W).2)) (λV=>Q ae λX=>V (X.ex.box i W).1);have x:i=Y ay.ah:=ae;subst x;refine bQ (Y G.ah) (λi A=>A=[]/\∀k<i,mO (ci G k) ap 4=0) ⟨0,rfl,ae,rfl,ae⟩ ?_;rintro i _ W ⟨rfl,ba⟩;simp[P.wg.len];refine aU (λW=> ?_) (λl=> ?_);have bb:=f25 (ci G i) ap;simp only[LZ,ci,cG,cX] at bb;simp[bD W P.wg.sm,W,aY bb];exact aU (λw=>w4 ba w) (λV=>Q V λX=>V (X.ex.pth i W));have x:i=Y G.ah:=ae;subst x;rw[aY (e86 O P.mv ae)];simp;rw[aY (e87 M P.bf ae)];simp;have b1:atD ap G H O M F R D:=⟨h0,ae,ae,ae,ae,ae,ae,ae,ae,q,a9,ba⟩;refine bQ (Y ay.ah) (λi A=>∃u p t,A=[.r (ao u),.r (ao p),.r (ao t)]/\Y u=i/\Y p=i/\Y t=i/\∀k<i,B3 ap O M H R k/\(∀j<13,bn (aQ u (k:Int) j).val=gS ap O M R k j)/\∀j<4,bn (aQ t (k:Int) j).val=gB ap O M H R k j) ⟨0,rfl,ae,[],[],[],rfl,rfl,rfl,rfl,ae⟩ ?_;rintro i _ W ⟨u,p,t,rfl,g,b6,f,n⟩;simp[ab,ac,ag,al];refine aU (λW=> ?_) (λl=> ?_);have bc:=e88 (cr 96 R i) (B i W).1 (by have:=(B i W).2;omega);simp only[cr] at bc;simp[bD W s,W,aY bc];refine⟨ae,aU (λz=> ?_) (λz=> ?_)⟩;have L:cb O i 0=true:=z;have bg:=nD _ (t89 h i ap (ci M i) (cr 96 R i) (B i W).1);simp only[wk,ci,cr,cG,cX,Jc,Qt,ua] at bg;rw[aY bg];simp;refine aU (λy=> ?_) (λV=>Q V λX=>V (by have:=X.bld i W;rw[B3,aH L] at this;exact this.1));have bk:=nD _ (t90 h i ap (ci M i) _ (UN (aQ H.ah (i:Int) 0)) (ci H i) (cr 96 R i) (B i W).1);simp only[wk,ci,cr,cG,cX,Jc,Qt,ua] at bk;rw[aY bk];simp[bD W s];refine aU (λa5=> ?_) (λV=>Q V λX=>V (by have:=X.bld i W;rw[B3,aH L] at this;exact this.2));refine⟨ae,ae,_,_,_,⟨rfl,rfl,rfl⟩,bS,bS,bS,λk d=> ?_⟩;by_cases c:k=i;subst c;refine⟨by rw[B3,aH L];exact⟨y,a5⟩,λj N=> ?_,λj N=> ?_⟩;rw[Av g,gS,aH L]
 match j,N with|0,_|1,_|2,_|3,_|4,_|5,_|6,_|7,_|8,_|9,_|10,_|11,_|12,_=>rfl
 rw[Av f,gB,aH L]
 match j,N with|0,_|1,_|2,_|3,_=>rfl
 obtain⟨b,a,q3⟩:=n k ae;exact⟨b,λj N=>by rw[D5 ae];exact a j N,λj N=>by rw[D5 ae];exact q3 j N⟩;have L:¬cb O i 0=true:=z;refine aU (λy=> ?_) (λV=>Q V λX=>V (by have:=X.bld i W;rw[B3,aJ L] at this;exact this));refine⟨ae,ae,_,_,_,⟨rfl,rfl,rfl⟩,bS,bS,bS,λk d=> ?_⟩;by_cases c:k=i;subst c;refine⟨by rw[B3,aJ L];exact y,λj N=> ?_,λj N=> ?_⟩;rw[Av g,gS,aJ L]
 match j,N with|0,_|1,_|2,_|3,_|4,_|5,_|6,_|7,_|8,_|9,_|10,_|11,_|12,_=>rfl
 rw[Av f,gB,aJ L]
 match j,N with|0,_|1,_|2,_|3,_=>rfl
 obtain⟨b,a,q3⟩:=n k ae;exact⟨b,λj N=>by rw[D5 ae];exact a j N,λj N=>by rw[D5 ae];exact q3 j N⟩;have x:i=Y ay.ah:=ae;subst x;have b2:X<->Ji ap G H O M F R D:=by rw[hK]
 refine aC0 bl h hw ap G H O M F R D P X _ hn.2 ae ae ae ae ae ae (λi W b3=> ?_) _ _ _ _ _ _ _ u p t g f (λk d=>(n k d).2) (b2.trans ⟨λk=>⟨k.ro,k.UO,k.st1,k.st2,k.cl,k.iX⟩,λk=>⟨b1,λj N=>(n j N).1,k.1,k.2.1,k.2.2.1,k.2.2.2.1,k.2.2.2.2.1,k.2.2.2.2.2⟩⟩);have:=(q i W).2.2;rw[aH b3] at this;exact(I8 (t85 oV h i ap (cr 96 R i) (B i W).1)).2 this

def brc:Brc:=λh bw ap x X r ce W=>by
 obtain⟨o,V,v,e,R,Q,_⟩:=aCW h bw ap x X r ce W;exact⟨o,V,v,e,R,Q⟩
def t18(h:dU)(ap:Int)(W V R Q P O N:RV)(G:Gq ay W V R Q P O N):∃o,TB.Ev 58 (wk++[.r W,.r V,.i ap,.r R,.r Q,.r P,.r O,.r N]) o/\∃b e,o=.ret [.b b,.i e]/\(¬e=0->b=E)/\(b=J<->Ji ap W V R Q P O N):=by
 generalize F:Ji ap W V R Q P O N=X;refine eL ?_;obtain⟨o,H,v,e,rfl,B,M⟩:=t16 brc h ap W V R Q P O N G;rw[F] at M;simp only[wk,cG,cX] at H;simp[T18,wk,aY H];refine aU (λL=> ?_) (λL=> ?_);by_cases k:X;exact .inr ⟨e,⟨(M.2 k).2,rfl⟩,L,k⟩;exact .inl ⟨λD=>k (M.1 ⟨L,D⟩),k⟩;exact λk=>L (M.2 k).1
end
section
variable{R:aX->Prop}{G:aN}{t:T}{O:aj}{L:ck}
variable[Inhabited cm]
variable{wg bd cs br a:RV}
def bH(wg bd cs br a:RV):aZ:=wk++[.r wg,.r bd,.r cs,.r br,.r a]
structure Mny(wg bd cs br:RV):Prop where
 wg:Y wg.ah<=8
 rl:Y ay.ah<=12
 bd:Y bd.ah<=16
 cs:Y cs.ah<=8
 bars:eV<=64
 br:∀i<Y br.ah,(cr 100 br i).ah.length<=8
end
def QD:T->T
 |.aK _ _ f=>f|t=>t
section
variable{R:aX->Prop}{G:aN}{t:T}{O:aj}{L:ck}
variable[Inhabited cm]
variable{a c d g k:RV}
def aC4(h:dU):∃o,TB.Ev 52 wk o/\∃b,o=.ret [.b b]:=by
 refine eL ?_;simp[ajb,wk]
 repeat'(first|intro _|split)
 all_goals omega
def aC5(W:Sl V)(M:∀i<Y V.ah,Sl (cJ (.sl 4) (aQ V.ah i 0))/\Sl (cJ (.sl 101) (aQ V.ah i 1))/\∀j<(cJ (.sl 101) (aQ V.ah i 1)).ah.length,Sl (cr 96 (cJ (.sl 101) (aQ V.ah i 1)) j)):
  T.wp TB.Ev (λo=>o=aX.ret [XV.b E]\/o=aX.ret [XV.b J]) (QD (QD UF)) ⟨[],[],[V],[]⟩ []:=by
 simp only[UF,QD];refine bQ (Y V.ah) (λ_ Q=>Q=[]) ⟨0,rfl,ae,rfl⟩ ?_;rintro i _ G rfl;simp[W.len];intro X;obtain⟨F,N,H⟩:=M i X;refine⟨X,λ_=>⟨X,λ_=> ?_⟩⟩;refine bQ (cJ (.sl 101) (aQ V.ah i 1)).ah.length (λ_ Q=>Q=[]) ⟨0,rfl,ae,rfl⟩ ?_;rintro j _ D rfl;simp[W.len,N.len,X];refine aU (λP=> ?_) (λB=> ?_);have e:=(H j P).len;simp only[cr] at e;simp[P,bD P N.sm];simp[bD X W.sm]
def aC6(X:Sl V)(W:∀i<Y V.ah,Sl (cJ (.sl 4) (aQ V.ah i 0))/\Sl (cJ (.sl 101) (aQ V.ah i 1))/\∀j<(cJ (.sl 101) (aQ V.ah i 1)).ah.length,Sl (cr 96 (cJ (.sl 101) (aQ V.ah i 1)) j)):∃o,TB.Ev 51 [.r V] o/\∃x,o=.ret [.b x]:=by
 refine eL ?_;simp[UF]
 repeat'(first|exact aC5 X W|intro _|split)
end
def abF:Nat->T->T
 |0,t=>t|n+1,t=>abF n (QD t)
section
variable{R:aX->Prop}{G:aN}{t:T}{O:aj}{L:ck}
variable[Inhabited cm]
variable{a c d g f:RV}
structure jR(a c d g f:RV):Prop where
 sw:Sl a
 sb:Sl c
 sc:Sl d
 sr:Sl g
 so:Sl f
 ccs:∀i<Y d.ah,Sl (cr 3 d i)
 Aw:∀i<Y g.ah,Sl (cr 100 g i)
 B6:∀k<Y g.ah,∀i<(cr 100 g k).ah.length,Sl (cJ (.sl 4) (aQ (cr 100 g k).ah i 0))/\Sl (cJ (.sl 101) (aQ (cr 100 g k).ah i 1))/\∀j<(cJ (.sl 101) (aQ (cr 100 g k).ah i 1)).ah.length,Sl (cr 96 (cJ (.sl 101) (aQ (cr 100 g k).ah i 1)) j)
def aC7(h:dU)(s:jR a c d g f):T.wp TB.Ev (λo=>∃x,o=.ret [.b x]) (abF 12 I1) ⟨[mK,mL,wX,I9,Ja,eV],[],[ay,mb,nA,nC,dh,a,c,d,g,f],[]⟩ []:=by
 simp only[I1,abF,QD];refine bQ (Y d.ah) (λ_ V=>V=[]) ⟨0,rfl,ae,rfl⟩ ?_;rintro i _ P rfl;simp[s.sc.len];refine aU (λQ=> ?_) (λ_=> ?_);have e:=(s.ccs i Q).len;simp only[cr] at e;simp[Q,bD Q s.sc.sm];refine bQ (Y g.ah) (λ_ V=>V=[]) ⟨0,rfl,ae,rfl⟩ ?_;rintro k _ N rfl;simp[s.sr.len];refine aU (λW=> ?_) (λ_=> ?_);obtain⟨o,X,x,rfl⟩:=aC6 (s.Aw k W) (s.B6 k W);simp only[cr] at X;cases x<;>simp[W,aY X,bD W s.sr.sm];obtain⟨o,X,x,rfl⟩:=aC4 h;simp only[wk] at X;cases x<;>simp[aY X]
def atX(h:dU)(s:jR a c d g f):∃o,TB.Ev 30 (bH a c d g f) o/\∃x,o=.ret [.b x]:=by
 refine eL ?_;show T.wp TB.Ev (λo=>∃x,o=.ret [.b x]) I1 ⟨[mK,mL,wX,I9,Ja,eV],[],[ay,mb,nA,nC,dh,a,c,d,g,f],[]⟩ [];have l:=aC7 h s;simp only[I1,abF,QD] at l;unfold I1
 repeat'(first|exact l|(rw[UJ];exact⟨_,rfl⟩)|(rw[Qn];refine aU (λ_=> ?_) (λ_=> ?_)))
end
section
variable{R:aX->Prop}{G:aN}{t:T}{O:aj}{L:ck}

variable[Inhabited cm]
variable{a c d g b:RV}
end
section
variable{R:aX->Prop}{G:aN}{t:T}{O:aj}{L:ck}


def Ax{P:Nat->Prop}(h:∀k<X,P k)(W:P X):∀k<X+1,P k:=λk V=>by
 by_cases e:k=X;subst e;exact W;exact h k ae



variable[Inhabited cm]
end
section
variable{lt:aE->aE->Bool}{p:aE->Prop}
end
section
variable{R:aX->Prop}{G:aN}{t:T}{O:aj}{L:ck}
variable[Inhabited cm]



def QE(v:RV)(q:Nat):Int:=o74 (ci v q 0) (ci v q 1) (ci v q 2) (ci v q 3) (ci v q 4) (ci v q 5) (ci v q 6) (ci v q 7) (ci v q 8) (ci v q 9) (ci v q 10) (ci v q 11) (ci v q 12)
structure Kno(ca kn op:RV)(i:Nat):Prop where
 one:1<=(cr 108 kn i).ah.length
 two:(cr 108 kn i).ah.length<=2
 opn:(cr 108 kn i).ah.length=2<->ci op i 0≠0
 ne:(cr 108 kn i).ah.length=2->∃j<13,ci (cr 108 kn i) 0 j≠ci (cr 108 kn i) 1 j
 gw:∀q<(cr 108 kn i).ah.length,QE (cr 108 kn i) q=0
 ap:ci op i 0≠0->0<=be .sub I (ci op i 0) 1/\be .sub I (ci op i 0) 1<Y ca.ah/\bn (aQ ca.ah (be .sub I (ci op i 0) 1) 0).val≠0

variable{e f d g h a b c:RV}{aG:Int}{k:Bool}
structure kw(d g a b c:RV)(aG:Int):Prop where
 calls:Y a.ah<=Y g.ah
 cast:0<=aG/\aG<Y d.ah
 Ay:Y b.ah=Y ay.ah
 D9:Y c.ah=Y ay.ah
 call:∀i<Y a.ah,0<=ci a i 0/\ci a i 0<=(cr 100 g i).ah.length
 Gv:∀i<Y b.ah,Kno a b c i
end
section
variable[Inhabited cm]
end
section
variable{R:aX->Prop}{G:aN}{t:T}{O:aj}{L:ck}
variable[Inhabited cm]

end
section
variable{R:aX->Prop}{G:aN}{t:T}{O:aj}{L:ck}



variable[Inhabited cm]
end
section
variable{R:aX->Prop}{G:aN}{t:T}{O:aj}{L:ck}
end
section
variable[Inhabited cm]
end
section
variable{R:aX->Prop}{G:aN}{t:T}{O:aj}{L:ck}
variable[Inhabited cm]
end
section
variable[Inhabited cm]


end
section
variable{R:aX->Prop}{G:aN}{t:T}{O:aj}{L:ck}
variable[Inhabited cm]



end
section
variable[Inhabited cm]
section
variable{a b:Nat->Prop}{M:av}{c:aE}
end
end
section
variable{R:aX->Prop}{G:aN}{t:T}{O:aj}{L:ck}
variable[Inhabited cm]
end
section
variable[Inhabited cm]


def aC8(h:dU)(ap:Int):∃o,TB.Ev 71 (wk++[.i ap]) o/\∃v e,o=.ret [.r (ao v),.i e]/\Y v<=4096/\(∀x∈v,0<=aI 0 x/\aI 0 x<aI 1 x/\aI 1 x<Y ay.ah)/\(jY=0->jf ap 0 (eV-1)=J->e=0):=by
 refine eL ?_;have W:=e65 oV h ap;obtain⟨-,M⟩:=yH oV h;simp only[wk,cG,cX] at W;obtain⟨e,R⟩:∃e,e=(if jY=0 then(if jf ap 0 (eV-1) then 0 else 1) else jY):=⟨_,rfl⟩;rw[<-R] at W;simp[T23,wk,aY W];split
 case isFalse y=>
  exact⟨[],e,⟨rfl,rfl⟩,aw,aw,λW M w=>by rw[R,aH W,aH bS]⟩
 rename_i F;have Q:jY=0/\jf ap 0 (eV-1)=true:=by
  subst F;by_cases Q:jY=0;rw[aH Q] at R;refine⟨Q, ?_⟩;cases D:jf ap 0 (eV-1);simp[D] at R;rfl;rw[aJ Q] at R;exact bB R.symm Q
 have B:=M Q.1;have u:=B.nr;refine bQ (Y dh.ah) (λi N=>∃m,N=[.r (ao m)]/\∀x∈m,aI 0 x<aI 1 x) ⟨0,rfl,ae,[],rfl,aw⟩ ?_;rintro i _ P ⟨m,rfl,H⟩;simp[h.sg.len];split
 ·rename_i P;simp[bD P h.sg.sm,P]
  repeat'(refine aU (λ_=> ?_) (λ_=> ?_))
  all_goals first
   |exact⟨m,rfl,H⟩
   |(refine⟨_,rfl,λx X=> ?_⟩
     rcases abq X with rfl|X;show(min _ _:Int)<max _ _;omega;exact H x X)
 refine bQ (Y ay.ah) (λi N=>∃v,N=[.r (ao v)]/\Y v<=i*64/\∀x∈v,0<=aI 0 x/\aI 0 x<aI 1 x/\aI 1 x<Y ay.ah) ⟨0,rfl,ae,[],rfl,aw,aw⟩ ?_;rintro i _ P ⟨v,rfl,A,V⟩;simp[h.rl.len];split;rename_i P;refine bQ (Y ay.ah) (λj N=>∃v,N=[.r (ao v)]/\Y v<=i*64+j/\∀x∈v,0<=aI 0 x/\aI 0 x<aI 1 x/\aI 1 x<Y ay.ah) ⟨0,rfl,ae,v,rfl,ae,V⟩ ?_;rintro j _ G ⟨v,rfl,A,V⟩;simp[h.rl.len];split
 ·rename_i G;simp[bD G h.rl.sm];have z:∀{O},mu 2 [(i:Int),(j:Int),0] m=U O->i<j:=λ{O} L=>by
   have W:=Vu L;have M:=acs L;have:=H O W;rcases O with _|⟨a,_|⟨b,O⟩⟩<;>simp[mq,aI] at M this;omega
  cases L:mu 2 [(i:Int),(j:Int),0] m with
  |none=>simp;exact⟨v,rfl,ae,V⟩
  |some O=>
  have t:=z L;simp only;split
  all_goals first
   |exact⟨v,rfl,ae,V⟩
   |(refine⟨ae,_,rfl,bS,λx X=> ?_⟩
     rcases fc.1 X with X|X;exact V x X;simp at X;subst X;simp[aI,bn];omega)
 simp[bD P h.rl.sm];exact⟨v,rfl,ae,V⟩;exact⟨v,0,⟨rfl,rfl⟩,ae,V,λ_ _ _=>rfl⟩

end
section
variable{R:aX->Prop}{G:aN}{t:T}{O:aj}{L:ck}
variable[Inhabited cm]
def Gw(v:av)(k:Nat):Nat:=(v.getD k []).length
def abG{V:aE}{n:Nat}(h:Y W=X)(Q:Y V=n):Gw (W++[V]) X=n:=by
 subst h;simpa[Gw] using Q
def abH{w:av}(h:X<Y W):Gw (W++w) X=Gw W X:=by simp[Gw,fO h]
structure Md(ap:Int)(bd mv bf re:RV)(vs vr vb:av):Prop where
 wk:jY=0
 br:0<=ap/\ap<eV
 BZ:Y bd.ah=Y ay.ah
 Jh:Y mv.ah=Y ay.ah
 D4:Y bf.ah=Y ay.ah
 Gr:Y re.ah=Y ay.ah
 gw:∀i<Y ay.ah,Qy bd i=0/\L5 bf i=0/\(if cb mv i 0 then m85 ap re i=0 else(cr 96 re i).ah=[])
 ls:Y vs=Y ay.ah
 lr:Y vr=Y ay.ah
 lb:Y vb=Y ay.ah
 al:∀k<Y ay.ah,aQ vr (k:Int) 0=ao (cr 96 re k).ah/\Gw vs k=13/\Gw vb k=4/\B3 ap mv bf bd re k/\(∀j<13,bn (aQ vs (k:Int) j).val=gS ap mv bf re k j)/\∀j<4,bn (aQ vb (k:Int) j).val=gB ap mv bf bd re k j
def UZ(ap:Int)(N X W M:RV)(o:aX):Prop:=(∃e,e≠0/\o=.ret [.i 0,.r (ao []),.r (ao []),.r (ao []),.r (ao []),.r (ao []),.i e])\/∃V Q P,o=.ret [.i ap,.r (ao X.ah),.r (ao W.ah),.r (ao V),.r (ao Q),.r (ao P),.i 0]/\Md ap N X W M V Q P
def t13(h:dU)(ap:Int)(wg G V H X:RV)(ce:Sl G)(q:Sl V)(f9:Sl H)(aa:Sl X)(bb:∀i<Y X.ah,Sl (cr 96 X i)/\(cr 96 X i).ah.length<=100):∃o,TB.Ev 54 (wk++[.r wg,.r G,.i ap,.r V,.r H,.r X]) o/\UZ ap G V H X o:=by
 obtain⟨P,s⟩:∃P:aX->Prop,∀o,P o<->UZ ap G V H X o:=⟨_,λ_=>Iff.rfl⟩
 suffices bc:∃o,TB.Ev 54 (wk++[.r wg,.r G,.i ap,.r V,.r H,.r X]) o/\P o by
  obtain⟨o,g1,g2⟩:=bc;exact⟨o,g1,(s o).1 g2⟩
 refine Qo rfl rfl (.inr λv hv=>by rcases(s _).1 hv with⟨_,_,h⟩|⟨_,_,_,h,_⟩<;>cases h) ?_;obtain⟨h1,h2⟩:=yH oV h;simp only[wk] at h1;have M:∀{e:Int},e≠0->P (.ret [.i 0,.r (ao []),.r (ao []),.r (ao []),.r (ao []),.r (ao []),.i e]):=λ{e} he=>(s _).2 (.inl ⟨e,he,rfl⟩)
 simp[T13,wk,aY h1];simp only[h.rl.len,ce.len,q.len,f9.len,aa.len];refine aU (λh0=> ?_) (λW=>M W);have hw:=h2 h0;have hn:=hw.nr;refine aU (λW=>M ae) (λbk=> ?_);refine aU (λW=>M ae) (λbl=> ?_);refine aU (λBZ=> ?_) (λW=>M ae);refine aU (λJh=> ?_) (λW=>M ae);refine aU (λD4=> ?_) (λW=>M ae);refine aU (λGr=> ?_) (λW=>M ae);have ab:lenOf G.val=(Y ay.ah:Int):=by rw[ce.len];exact BZ
 have ac:lenOf V.val=(Y ay.ah:Int):=by rw[q.len];exact Jh
 have af:lenOf H.val=(Y ay.ah:Int):=by rw[f9.len];exact D4
 have ag:lenOf X.val=(Y ay.ah:Int):=by rw[aa.len];exact Gr
 have p:Y ay.ah<=140737488355328:=ae;have A:∀i<Y ay.ah,Sl (cr 96 X i)/\(cr 96 X i).ah.length<=100:=λi Q=>bb i ae
 refine bQ (Y ay.ah) (λi n=>n=[]/\∀k<i,Qy G k=0/\L5 H k=0/\(if cb V k 0 then m85 ap X k=0 else(cr 96 X k).ah=[])) ⟨0,rfl,ae,rfl,ae⟩ ?_;rintro i _ Q ⟨rfl,m⟩;simp[ab,ac,af,ag];refine aU (λQ=> ?_) (λbg=> ?_);have al:=(I8 (t85 oV h i ap (cr 96 X i) (A i Q).1)).1;simp only[wk,cr,cG,cX] at al;have an:=(A i Q).1.len;simp only[cr] at an;simp[bD Q p,Q,aY al,an];refine aU (λa1=> ?_) (λW=>M ae);refine aU (λa2=> ?_) (λW=>M ae);refine aU (λD=> ?_) (λD=> ?_);have F:cb V i 0=true:=D;refine aU (λB=> ?_) (λW=>M ae);exact w4 m ⟨a1,a2,by rw[aH F];exact B⟩;have F:¬cb V i 0=true:=D;refine aU (λB=> ?_) (λW=>M ae);exact w4 m ⟨a1,a2,by rw[aJ F];exact B⟩;have l:i=Y ay.ah:=ae;subst l;rw[aY (e86 V q ae)];simp;rw[aY (e87 H f9 ae)];simp;refine bQ (Y ay.ah) (λi n=>∃z x y,n=[.r (ao z),.r (ao x),.r (ao y)]/\Y z=i/\Y x=i/\Y y=i/\∀k<i,aQ x (k:Int) 0=ao (cr 96 X k).ah/\Gw z k=13/\Gw y k=4/\B3 ap V H G X k/\(∀j<13,bn (aQ z (k:Int) j).val=gS ap V H X k j)/\∀j<4,bn (aQ y (k:Int) j).val=gB ap V H G X k j) ⟨0,rfl,ae,[],[],[],rfl,rfl,rfl,rfl,ae⟩ ?_;rintro i _ Q ⟨z,x,y,rfl,w,g,u,f⟩;simp[ab,ac,af,ag];refine aU (λQ=> ?_) (λbg=> ?_);have a0:=e88 (cr 96 X i) (A i Q).1 (by have:=(A i Q).2;omega);simp only[cr] at a0;simp[bD Q p,Q,aY a0];refine⟨ae,aU (λD=> ?_) (λD=> ?_)⟩;have F:cb V i 0=true:=D;have a9:=nD _ (t89 h i ap (ci H i) (cr 96 X i) (A i Q).1);simp only[wk,ci,cr,cG,cX,Jc,Qt,ua] at a9;rw[aY a9];simp;refine aU (λB=> ?_) (λW=>M W);have ba:=nD _ (t90 h i ap (ci H i) _ (UN (aQ G.ah (i:Int) 0)) (ci G i) (cr 96 X i) (A i Q).1);simp only[wk,ci,cr,cG,cX,Jc,Qt,ua] at ba;rw[aY ba];simp[bD Q p];refine aU (λa5=> ?_) (λW=>M W);refine⟨ae,ae,_,_,_,⟨rfl,rfl,rfl⟩,bS,bS,bS,λk hk=> ?_⟩;by_cases d:k=i;subst d;refine⟨by rw[Av g];rfl,abG w rfl,abG u rfl,by rw[B3,aH F];exact⟨B,a5⟩,λj N=> ?_,λj N=> ?_⟩;rw[Av w,gS,aH F]
 match j,N with|0,_|1,_|2,_|3,_|4,_|5,_|6,_|7,_|8,_|9,_|10,_|11,_|12,_=>rfl
 rw[Av u,gB,aH F]
 match j,N with|0,_|1,_|2,_|3,_=>rfl
 obtain⟨c,b,a,q1,q2,q3⟩:=f k ae;exact⟨by rw[D5 ae];exact c,by rw[abH ae];exact b,by rw[abH ae];exact a,q1,λj N=>by rw[D5 ae];exact q2 j N,λj N=>by rw[D5 ae];exact q3 j N⟩;have F:¬cb V i 0=true:=D;refine aU (λB=> ?_) (λW=>M W);refine⟨ae,ae,_,_,_,⟨rfl,rfl,rfl⟩,bS,bS,bS,λk hk=> ?_⟩;by_cases d:k=i;subst d;refine⟨by rw[Av g];rfl,abG w rfl,abG u rfl,by rw[B3,aJ F];exact B,λj N=> ?_,λj N=> ?_⟩;rw[Av w,gS,aJ F]
 match j,N with|0,_|1,_|2,_|3,_|4,_|5,_|6,_|7,_|8,_|9,_|10,_|11,_|12,_=>rfl
 rw[Av u,gB,aJ F]
 match j,N with|0,_|1,_|2,_|3,_=>rfl
 obtain⟨c,b,a,q1,q2,q3⟩:=f k ae;exact⟨by rw[D5 ae];exact c,by rw[abH ae];exact b,by rw[abH ae];exact a,q1,λj N=>by rw[D5 ae];exact q2 j N,λj N=>by rw[D5 ae];exact q3 j N⟩;have l:i=Y ay.ah:=ae;subst l;exact(s _).2 (.inr ⟨z,x,y,rfl,⟨h0,ae,ae,ae,ae,ae,m,w,g,u,f⟩⟩)
end
