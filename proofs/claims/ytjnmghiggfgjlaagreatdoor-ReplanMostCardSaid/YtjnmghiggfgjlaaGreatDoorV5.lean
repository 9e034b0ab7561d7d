/- Part 5. -/
import Derived.Test.YtjnmghiggfgjlaaGreatDoorV4
set_option linter.all false
set_option maxRecDepth 100000
set_option maxHeartbeats 100000000
open Bool renaming true->J,false->E
open Nat renaming le_trans->mc,zero_le->rN,le_of_not_lt->QT,le_antisymm->VH,lt_succ_self->ak2,succ_le_succ->av8
open List renaming cons_append->cJ,nil_append->da,range->di,getElem?_eq_getElem->dG,map_cons->dH,mem_append->fg,getElem?_append_left->f8,mem_of_getElem?->jz,map_nil->oC,getElem_mem->ul,length_eq_zero_iff->Em,mem_of_find?_eq_some->Vu,find?_some->ack,length->Y
open Option renaming some->U
open Int renaming toNat_natCast->rM
open Go.IntKind renaming i64->I
namespace Go.Proofs.YtjnmghiggfgjlaaGreatDoor.Y
open Go.RowKit
noncomputable section
variable{X:Nat}{W:av}{V:RV}
section
variable[Inhabited cm]
def aCN(h:dS)(bz ao:Int)(x:Nat->Int)(r:RV)(V:Sl r):∃o,TB.Ev 113 (wk++[.i bz,.i ao,.i (x 0),.i (x 1),.i (x 2),.i (x 3),.i (x 4),.i (x 5),.i (x 6),.i (x 7),.i (x 8),.i (x 9),.i (x 10),.i (x 11),.i (x 12),.r r]) o/\∃X,o=.ret X/\fA (kI 14) X=J/\(xi X 13=0->l9 bz ao=0):=by
 by_cases R:l9 bz ao=0;obtain⟨o,W,X,Q,P⟩:=t89 h bz ao x r V
 grind
 refine eJ ?_;have W:=Ja oU h bz ao;simp only[wk,cJ,da] at W;simp[T89,wk,aY W,R,xi]
def Qw(r:RV):Nat->av
 |0=>[]|k+1=>iE 1 [.mk (.int I (ci r k 0)) [],.mk (.int I (ci r k 0)) [],.mk (.int I (ci r k 1)) [],.mk (.int I (ci r k 2)) [],.mk (.bool (cb r k 3)) []] (Qw r k)
def aCO{bz ao:Int}(V:jL=0->BS)(W:X<(dU bz ao).length):BQ (Y ay.ah) eD (bX (dU bz ao) X):=by
 obtain⟨k,_,R,_,_,Q⟩:=ata V (ul W);have e:∀j<14,bX (dU bz ao) X j=ci dh k j:=λj P=>by
  rw[<-UI (ci dh k) j P,<-R];simp[bX,aN,aW,W]
 have:=Q;constructor;rw[e 4 ae];exact this.kind;rw[e 1 ae];exact this.bz;rw[e 2 ae];exact this.ao;rw[e 3 ae];exact this.mark;rw[e 4 ae,e 5 ae];exact this.side;rw[e 4 ae,e 6 ae];exact this.dir;rw[e 4 ae,e 7 ae];exact this.aBm;rw[e 4 ae,e 8 ae];exact this.size;rw[e 4 ae,e 9 ae];exact this.wth;rw[e 10 ae,e 11 ae];exact this.from_;rw[e 12 ae,e 13 ae];exact this.to
def aCP(h:dS)(bz ao:Int)(x:Nat->Int)(W r:RV)(ce:Sl W)(O:Sl r):∃o,TB.Ev 148 (wk++[.i bz,.i ao,.i (x 0),.i (x 1),.i (x 2),.i (x 3),.i (x 4),.i (x 5),.i (x 6),.i (x 7),.i (x 8),.i (x 9),.i (x 10),.i (x 11),.i (x 12),.r W,.r r]) o/\∃v e,o=.ret [.r (ap v),.i e]/\Y v<=100000/\(¬e=0->v=[])/\(e=0->v=bN (bu.lex [1,0] E).lt (qc W bz.toNat (ap (Qw r (Y r.ah))) (dU bz ao) (LZ [x 0,x 1,x 2,x 3,x 4,x 5,x 6,x 7,x 8,x 9,x 10,x 11,x 12]) (dU bz ao).length))/\((oi 113 (wk++[.i bz,.i ao,.i (x 0),.i (x 1),.i (x 2),.i (x 3),.i (x 4),.i (x 5),.i (x 6),.i (x 7),.i (x 8),.i (x 9),.i (x 10),.i (x 11),.i (x 12),.r r]) 13=0/\Y W.ah=Y ay.ah/\∀k<Y W.ah,LW W k=0)->e=0):=by
 generalize N:(oi 113 (wk++[.i bz,.i ao,.i (x 0),.i (x 1),.i (x 2),.i (x 3),.i (x 4),.i (x 5),.i (x 6),.i (x 7),.i (x 8),.i (x 9),.i (x 10),.i (x 11),.i (x 12),.r r]) 13=0/\Y W.ah=Y ay.ah/\∀k<Y W.ah,LW W k=0)=X;refine eJ ?_;obtain⟨o,Q,l,rfl,D,G⟩:=aCN h bz ao x r O;obtain⟨f,rfl⟩:=Qq D;rw[show di 14=[0,1,2,3,4,5,6,7,8,9,10,11,12,13] from rfl] at Q G;have B:X->f 13=0:=λk=>by
  rw[<-N] at k;have:=k.1;rw[oi,DW Q] at this;exact this
 simp only[wk,cJ,da,dH,oC] at Q;rw[show fq=(T.call _ _ _ _ _ _ (T.aI _ _ (T.aI _ (T.loop _ _ _ (T.aI _ (T.aQ _ (T.aQ _ (T.call _ _ _ _ _ _ (T.aI _ (T.aI _ _ (fq.at [0,1,0,0,0,0,0,0,0,1])) _)))) (fq.at [0,1,0,0,1]))) _))) from rfl];simp[wk,aY Q];refine aV (λA=> ?_) (λz=>⟨[],_,⟨rfl,rfl⟩,aw,λ_=>rfl,λh=>bF h z,B⟩);have M:=G A;have P:BS:=(yM oU h).2 (by
  have:=M;unfold l9 at this;by_cases R:jL=0;exact R;rw[aS R] at this;exact this)
 have j:0<=bz/\bz<Y ay.ah:=by
  have R:jL=0:=by
   have:=M;unfold l9 at this;by_cases R:jL=0;exact R;rw[aS R] at this;exact this
  have:=M;unfold l9 at this;rw[aH R] at this;by_cases V:(jh bz 0 (Y ay.ah-1)&&jh ao 0 (eD-1))=J;simp[jh] at V;omega;rw[aS V] at this;omega
 have y:=abr W bz.toNat (ap (Qw r (Y r.ah))) (dU bz ao) (LZ [x 0,x 1,x 2,x 3,x 4,x 5,x 6,x 7,x 8,x 9,x 10,x 11,x 12]) (dU bz ao).length;have bZ:=UK (bz:=bz) (ao:=ao) (λ_=>P);have w:=abe (bz:=bz) (ao:=ao) (λ_=>P);have u:∀i<(dU bz ao).length,BQ (Y ay.ah) eD (bX (dU bz ao) i):=λi V=>aCO (λ_=>P) V
 have F:=Ja oU h bz ao;simp only[wk,cJ,da] at F;have t:=ce.sm;refine aV (λjc=> ?_) (λs=>⟨[],_,⟨rfl,rfl⟩,aw,λ_=>rfl,λh=>bF h ae,λk=>bF (by rw[<-N] at k;rw[ce.len,h.rl.len,k.2.1]) s⟩);rw[ce.len,h.rl.len] at jc;refine bQ (Y W.ah) (λi L=>L=[]) ⟨0,rfl,rN _,rfl⟩ ?_;rintro i _ V rfl;simp[ce.len];refine aV (λV=> ?_) (λg=> ?_);simp[bC V t,V];refine λp=>⟨[],280,⟨rfl,rfl⟩,aw,aw,aw,λk=>bF (by rw[<-N] at k;exact k.2.2 i V) p⟩
 rw[show fq.at [0,1,0,0,1]=(T.loop _ _ _ (T.aI _ _ (T.call _ _ _ _ _ _ (T.aQ _ (T.aQ _ (fq.at [0,1,0,0,1,0,1,0,0,0])))))) from rfl];refine bQ (Y r.ah) (λi L=>L=[.r (ap (Qw r i))]) ⟨0,rfl,rN _,rfl⟩ ?_;rintro q _ H rfl;simp[O.len];refine aV (λH=> ?_) (λd=> ?_);simp[bC H O.sm,H,Qw,ci,cb];have n:q=Y r.ah:=ae;subst n;obtain⟨m,rfl⟩:∃k:Nat,bz=k:=⟨bz.toNat,ae⟩;rw[aY F];simp[ce.len];refine⟨ae, ?_⟩;refine aCM _ _ h m ao _ _ _ _ _ _ _ _ _ _ _ _ _ _ _ _ _ _ _ _ _ _ _ _ _ _ _ _ _ _ W r (ap (Qw r (Y r.ah))) _ (LZ [x 0,x 1,x 2,x 3,x 4,x 5,x 6,x 7,x 8,x 9,x 10,x 11,x 12]) rfl bZ ae ce ae P.nr.2 u w ?_;refine⟨_,0,rfl, ?_,aw,aw,λ_=>rfl⟩;rw[(BR _).length_eq];simp only[rM] at y;omega
end
def ajG:ar:=[0,1,1,0,0,0,1,0,0,0,1,0,1,0,1,0,1,0,0,0,1,0,1,0,1]
section
variable{R:aX->Prop}{G:aL}{t:T}{O:aj}{L:ck}
variable[Inhabited cm]
def UY(V Q W:RV)(X:av)(p:Nat):Prop:=Gp V W (ci (ap X) p 0).toNat (ci (ap X) p 1).toNat=J/\Gp Q W (ci (ap X) p 0).toNat (ci (ap X) p 1).toNat=J
def aCQ(h:dS)(ao:Int)(n W mv V Q re l:RV)(y:Gn ay n W mv V Q re l)(X P:Prop)(x7 x8 x9 a3 a4 a9 w6:Int)(ba bb UU bc bg:RV)(m N:av)(L:ck)
  (hn:Y ay.ah<=64)(bk:Y W.ah=Y ay.ah)(bl:Y V.ah=Y ay.ah)(br:Y Q.ah=Y ay.ah)
  (bs:km m)(cc:Y m<=200000*Y ay.ah)(hm:m=[]<->P)(ab:ate (Y ay.ah) N)
  (g:X<->P/\(∀i<Y ay.ah,iM V W i 4=0)/\(∀i<Y ay.ah,iM Q W i 4=0)/\abi n ao l (ap (yO V W (Y ay.ah))) (ap N)/\∀p<Y N,UY V Q W N p):
  T.wp TB.Ev (λo=>∃v e,o=aX.ret [.r (ap v),.i e]/\(¬e=0->v=[])/\((e=0/\v=[])<->X)) (qb.at ajG) ⟨[oS,oT,wZ,I8,I9,eD,ao,x7,x8,x9,a3,a4,a9,w6],[],[ay,l8,nu,ny,dh,n,W,mv,V,Q,re,l,ba,bb,UU,bc,bg,ap m,ap N],[]⟩ L:=by
 rw[show qb.at ajG=T.loop _ _ _ _ from rfl];have ac:Y ay.ah<=140737488355328:=ae;have Av:lenOf V.val=(Y ay.ah:Int):=by rw[y.bf.len,bl]
 have Jf:lenOf Q.val=(Y ay.ah:Int):=by rw[y.af.len,br]
 have yN:lenOf W.val=(Y ay.ah:Int):=by rw[y.bd.len,bk]
 have u:∀{e:Int},e≠0->¬X->∃v d,(ap []=ap v/\e=d)/\(¬d=0->v=[])/\(d=0/\v=[]<->X):=λ{e} he bt=>⟨[],e,⟨rfl,rfl⟩,λ_=>rfl,by simp[he,bt]⟩
 have s1:X->∀i<Y ay.ah,iM V W i 4=0:=λk=>(g.1 k).2.1
 have s2:X->∀i<Y ay.ah,iM Q W i 4=0:=λk=>(g.1 k).2.2.1
 refine bQ (Y ay.ah) (λi B=>B=[.r (ap (yO V W i))]/\∀k<i,iM V W k 4=0) ⟨0,rfl,rN _,rfl,ae⟩ ?_;rintro i _ G ⟨rfl,ag⟩;simp[Av,yN];refine aV (λG=> ?_) (λc=> ?_);simp[bC G ac,G];have q1:=Ji V W i;exact aV (λs=>⟨ae,rfl,w4 ag s⟩) (λH=>u H λk=>H (s1 k i G));have b:i=Y ay.ah:=VH G (QT c);subst b;refine bQ (Y ay.ah) (λi B=>B=[.r (ap (yO Q W i))]/\∀k<i,iM Q W k 4=0) ⟨0,rfl,rN _,rfl,ae⟩ ?_;rintro i _ G ⟨rfl,al⟩;simp[Jf,yN];refine aV (λG=> ?_) (λc=> ?_);simp[bC G ac,G];have q1:=Ji Q W i;exact aV (λs=>⟨ae,rfl,w4 al s⟩) (λH=>u H λk=>H (s2 k i G));have b:i=Y ay.ah:=VH G (QT c);subst b;have b0:=Ji V W (Y ay.ah);have b1:=Ji Q W (Y ay.ah);have cf:=ab.1;obtain⟨o,g1,f,b2,rfl,ch,cl,b3⟩:=aCa h n ao l (ap (yO V W (Y ay.ah))) (ap N) y.wg y.bx (lZ ae) (lZ ae);simp only[wk,cJ,da] at g1;rw[aY g1];simp;have b4:X->b2=0/\f=[]:=λk=>b3.2 (g.1 k).2.2.2.1
 refine aV (λcn=> ?_) (λH=>u H λk=>H (b4 k).1);refine bQ (Y f) (λj B=>∃M,B=[.r (ap M)]/\km M/\Y M<=200000*Y ay.ah+2*j/\(M=[]<->m=[]/\j=0)) ⟨0,rfl,rN _,m,rfl,bs,ae,aw⟩ ?_;rintro j _ q ⟨M,rfl,a,co,cp⟩;simp;refine aV (λq=>⟨q, ?_⟩) (λb5=> ?_);refine aV (λs=> ?_) (λs=> ?_);rw[bC q ae];exact⟨_,rfl,km.ins rfl (km.ins rfl a),by refine mc (vn _ _ _) ?_;refine mc (av8 (vn _ _ _)) ?_;omega,D6 ae⟩;rw[bC q ae];exact⟨_,rfl,km.ins rfl a,by refine mc (vn _ _ _) ?_;omega,D6 ae⟩;have b6:j=Y f:=VH q (QT b5);subst b6;refine bQ (Y N) (λp B=>∃z,B=[.r (ap z)]/\km z/\Y z<=200000*Y ay.ah+2*Y f+2*p/\(z=[]<->M=[]/\∀p'<p,UY V Q W N p')) ⟨0,rfl,rN _,M,rfl,a,ae,aw⟩ ?_;rintro p _ A ⟨z,rfl,aa,cs,ct⟩;simp[b0,b1];refine aV (λA=>⟨A, ?_⟩) (λb7=> ?_);obtain⟨x,hx⟩:∃x,N[p]?=U x:=⟨_,dG A⟩;have cu:=ab.2 x (jz hx);have an:bn (aN N (p:Int) 0).val=aW 0 x:=by simp[aN,aW,hx]
 have a0:bn (aN N (p:Int) 1).val=aW 1 x:=by simp[aN,aW,hx]
 have b8:UY V Q W N p<->Gp V W (aW 0 x).toNat (aW 1 x).toNat=J/\Gp Q W (aW 0 x).toNat (aW 1 x).toNat=true:=by
  rw[UY,show ci (ap N) p 0=aW 0 x from an,show ci (ap N) p 1=aW 1 x from a0]
 have cv:X->UY V Q W N p:=λk=>(g.1 k).2.2.2.2 p A
 generalize aW 0 x=z0 at*;generalize aW 1 x=z1 at*;have F:z0.toNat<Y ay.ah:=ae;have D:z1.toNat<Y ay.ah:=ae;simp only[an,a0,t7 V W F 0 ae,t7 V W F 1 ae,t7 V W F 2 ae,t7 V W F 3 ae,t7 V W D 0 ae,t7 V W D 1 ae,t7 V W D 2 ae,t7 V W D 3 ae,t7 Q W F 0 ae,t7 Q W F 1 ae,t7 Q W F 2 ae,t7 Q W F 3 ae,t7 Q W D 0 ae,t7 Q W D 1 ae,t7 Q W D 2 ae,t7 Q W D 3 ae];simp only[Gp] at b8;refine⟨ae,ae,aV (λH=>u (by rw[aS (Qu H)];omega) λk=> ?_) (λcx=>⟨ae,ae,aV (λH=>u (by rw[aS (Qu H)];omega) λk=> ?_) (λcy=> ?_)⟩)⟩
 grind
 grind
 refine aV (λc1=> ?_) (λc1=>aV (λc2=> ?_) (λc2=> ?_));rw[bC A ae];refine⟨_,rfl,km.ins rfl (km.ins rfl aa),by refine mc (vn _ _ _) ?_;refine mc (av8 (vn _ _ _)) ?_;omega,D6 λw=> ?_⟩
 grind
 rw[bC A ae];refine⟨_,rfl,km.ins rfl (km.ins rfl aa),by refine mc (vn _ _ _) ?_;refine mc (av8 (vn _ _ _)) ?_;omega,D6 λw=> ?_⟩
 grind
 grind [bC]
 have ca:p=Y N:=VH A (QT b7);subst ca;have cA:∀i<Y ay.ah,iM V W i 4=0:=ag;have cB:∀i<Y ay.ah,iM Q W i 4=0:=al;refine aCl _ _ _ _ _ _ _ _ _ _ _ _ _ _ _ _ _ _ _ _ _ _ _ _ _ _ _ _ _ _ _ _ _ _ _ _ _ _ _ _ _ _ _ z aa ae ⟨_,_,rfl,λh=>bF rfl h, ?_⟩
 grind [aCk]
end
section
variable[Inhabited cm]
def Qx(ao:Int)(X R W Q V P:RV)(i:Nat):Prop:=cb R i 0=J->(∀k<(dU i ao).length,abm ao X R W Q V P i k)/\xi (UP ao W X V i) 1=0/\(xr (UP ao W X V i) 0).ah=[]
def abs:ar:=[0,1,1,0,0,0,1,0,0,0,1,0,1,0,1,0,1,0,0,0,1,0,0,0,0,0,0,0,0,0,0,0,0,0,0,0,0,0,0,0,0,0,1,0,0]
def abt:ar:=[0,1,1,0,0,0,1,0,0,0,1,0,1,0,1,0,1,0,0,0,1,0,0,0,0,0,0,0,0,0,0,0,0,0,0,0,0,0,0,0,0,0,1,1]
def abu:ar:=[0,1,1,0,0,0,1,0,0,0,1,0,1,0,1,0,1,0,0,0,1,0,0,0,0,0,0,0,0,0,0,0,0,0,0,1,0,0,0,0,0,1,0,0]
def abv:ar:=[0,1,1,0,0,0,1,0,0,0,1,0,1,0,1,0,1,0,0,0,1,0,0,0,0,0,0,0,0,0,0,0,0,0,0,1,0,0,0,0,0,1,1]
def SgQ(q:ar)(W:aE):Prop:=(q=abs/\∃X V,W=[X,V])\/(q=abt/\∃X,W=[X])\/(q=abu/\∃X,W=[X])\/(q=abv/\W=[])
def sgA(q:ar)(ms:aE)(D:SgQ q ms)(R:aX->Prop)(X:Nat->aZ->Prop)(L:ck)(b3:Brc)(h:dS)(hw:BS)(ao:Int)(wg Q P O N V G:RV)(x:Gn ay wg Q P O N V G)(n i:Nat)(cO:n=Y ay.ah)(hi:i<n)(hn:n<=64)(cW:Y P.ah=n)(b4:Y V.ah=n)
  (b5:cb P i 0=J->l9 i ao=0/\∃v,Au (dU i ao) (cr 96 V i) (dU i ao).length v)
  (x7 x8 x9 b6 b7 w6:Int)(b0:Bool)(b8 ca UU cc cf:RV)(u:av)(bg:km u)(c0:Y u<=200000*i+2)
  (l:∀e:Int,¬e=0->¬Qx ao Q P O N V G i->R (.ret [.r (ap []),.i e]))
  (g:∀M,km M->Y M<=200000*(i+1)->(M=[]<->u=[]/\Qx ao Q P O N V G i)->X (i+1) [.r (ap M)]):
  T.wp TB.Ev R (qb.at q) ⟨[oS,oT,wZ,I8,I9,eD,ao,x7,x8,x9,b6,b7,(i:Int),w6],[b0],[ay,l8,nu,ny,dh,wg,Q,P,O,N,V,G,b8,ca,UU,cc,cf]++ms++[ap u],[]⟩ (⟨4,DY n X,BP n,n-i⟩::L):=by
 obtain⟨rfl,m1,m2,rfl⟩|⟨rfl,m1,rfl⟩|⟨rfl,m1,rfl⟩|⟨rfl,rfl⟩:=D;rw[show qb.at abs=T.aI _ _ _ from rfl]
 rotate_left
 rw[show qb.at abt=T.aI _ _ _ from rfl]
 rotate_left
 rw[show qb.at abu=T.aI _ _ _ from rfl]
 rotate_left
 rw[show qb.at abv=T.aI _ _ _ from rfl]
 rotate_left
 all_goals simp only[cJ,da]
 all_goals
  have bk:n<=140737488355328:=ae;have bl:=x.fz i ae;have br:=Ja oU h i ao;simp only[wk,cJ,da] at br;have bq:lenOf (cH (.sl 96) (aN V.ah (i:Int) 0)).val=((cr 96 V i).ah.length:Int):=bl.1.len;have c1:lenOf V.val=(n:Int):=by rw[x.Qt.len,b4]
  have c2:=UK (bz:=i) (ao:=ao) (λ_=>hw);simp[aY br];refine aV (λa3=> ?_) (λa3=> ?_);have t:cb P i 0=true:=a3;obtain⟨ch,sv,cl⟩:=b5 t;refine aV (λ_=> ?_) (λA=>bF ch A);refine bQ (dU i ao).length (λk f=>∃F,f=[.r (ap F)]/\km F/\Y F<=200000*i+2+10*k/\(F=[]<->u=[]/\∀k'<k,abm ao Q P O N V G i k')) ⟨0,rfl,rN _,_,rfl,bg,ae,Jd Iff.rfl⟩ ?_;rintro k _ s ⟨F,rfl,ab,c3,d⟩;simp;refine aV (λs=> ?_) (λcn=> ?_);refine⟨s, ?_⟩;refine bQ (cr 96 V i).ah.length (λq f=>f=[]/\∀c<q,ci (cr 96 V i) c 0≠bX (dU i ao) k 0) ⟨0,rfl,rN _,rfl,ae⟩ ?_;rintro q _ D ⟨rfl,ac⟩;simp[bq];refine aV (λD=> ?_) (λc4=> ?_);refine⟨D,aV (λa0=> ?_) (λa0=> ?_)⟩
  ·have hF:Fst (cr 96 V i) (bX (dU i ao) k 0) q:=⟨D,a0,ac⟩;obtain⟨o,z,a1,a4,rfl,c5⟩:=t78 oU h (bX (dU i ao) k 0) _ (UL (aN Q.ah (i:Int) 0)) (ci Q i 1) (ci Q i 2) (ci Q i 3) (ci Q i 4) (ci Q i 5) (ci Q i 6) (ci Q i 7) (ci Q i 8) (ci Q i 9) (ci Q i 10) (ci Q i 11) (ci Q i 12) (ci Q i 13) (ci Q i 14) (ci Q i 15) (ci Q i 16);have p:m78 Q (bX (dU i ao) k 0) i=[.r (ap a1),.i a4]:=DW z;simp only[wk,ci,bX,cJ,da] at z;rw[aY z];simp[bq];have ag:Qx ao Q P O N V G i->a4=0:=λW=>by
    have:=((W t).1 k s q hF).1;rw[p] at this;exact this
   refine aV (λco=> ?_) (λA=>l a4 A λW=>A (ag W));refine⟨D, ?_⟩;rw[ati (ap a1) (lZ ae)];simp[bq];obtain⟨cp,y⟩:∃b,ob 146 [.r (ap a1),.i (ci (cr 96 V i) q 0),.i (ci (cr 96 V i) q 1),.i (ci (cr 96 V i) q 2),.b (cb (cr 96 V i) q 3)] 0=b:=⟨_,rfl⟩;have fG:abm ao Q P O N V G i k<->(cp=J/\(bX (dU i ao) k 4=7\/bX (dU i ao) k 4=8->cb (cr 96 V i) q 3=J\/abl ao P O N V G (bX (dU i ao) k)=J)):=by
    refine⟨λH=>by have:=(H q hF).2;rw[p] at this;rw[<-y];exact this,λH c bs=> ?_⟩;have cs:c=q:=by
     rcases Nat.lt_trichotomy c q with a|a|a;exact bF bs.2.1 (ac c a);exact a;exact bF hF.2.1 (bs.2.2 q a)
    subst cs;rw[p];exact⟨co,by rw[<-y] at H;exact H⟩
   have a9:=nz [.bool] (aBW hw h ao P O N V G (bX (dU i ao) k) x.mv x.Qt ae ae (λj hj=>(x.fz j hj).1));have bt:abl ao P O N V G (bX (dU i ao) k)=xb (out 147 (wk++[.i ao,.r P,.r O,.r N,.r V,.r G]++lY (bX (dU i ao) k))) 0:=rfl;generalize abl ao P O N V G (bX (dU i ao) k)=c6 at fG bt;simp only[tZ,<-bt] at a9;simp only[wk,lY,bX,cJ,da] at a9;simp only[ci,cb,cr] at y;simp only[y];simp only[bX,cb,cr] at fG;have ct:(dU i ao).length<=140737488355328:=ae;have al:∀{B:aE},(iE 3 B F).length<=200000*i+2+10*(k+1):=λ{B}=>by have:=vn 3 B F;omega
   have aa:∀{B ba:aE},(iE 3 ba (iE 3 B F)).length<=200000*i+2+10*(k+1):=λ{B ba}=>by have:=vn 3 B F;have:=vn 3 ba (iE 3 B F);omega
   have cu:Y F<=200000*i+2+10*(k+1):=ae;refine aV (λcv=> ?_) (λcv=> ?_)
   all_goals
    refine aV (λh7=>⟨D,aV (λhd=> ?_) (λhd=> ?_)⟩) (λh7=>aV (λh8=>⟨D,aV (λhd=> ?_) (λhd=> ?_)⟩) (λh8=> ?_))
   all_goals
    try rw[aY a9]
    try simp
    try refine aV (λcx=> ?_) (λcx=> ?_)
   all_goals
    rw[bC s ct]
    first
     |exact⟨_,rfl,ab,cu,aB5 d (fG.2 (by clear d fG al aa l g p y ag;grind))⟩
     |exact⟨_,rfl,km.ins rfl ab,al,D6 (λw=>by have:=fG.1 (w.2 k (ak2 k));clear w d fG al aa l g p y ag;grind)⟩|exact⟨_,rfl,km.ins rfl (km.ins rfl ab),aa,D6 (λw=>by have:=fG.1 (w.2 k (ak2 k));clear w d fG al aa l g p y ag;grind)⟩
  have cy:(cr 96 V i).ah.length<=140737488355328:=ae;rw[bC D cy];exact⟨rfl,w4 ac a0⟩;exfalso;obtain⟨k',w1,w2,w3⟩:=cl.2 k s;exact ac k' ae w3;have cA:k=(dU i ao).length:=VH s (QT cn);subst cA;obtain⟨o,z,an,bb,rfl,c7⟩:=b3 h i ao (ci O i) Q (cr 96 V i) x.bd bl.1;have bc:UP ao O Q V i=[.r (ap an),.i bb]:=DW z;have b1:Qx ao Q P O N V G i->bb=0/\an=[]:=λW=>by
   have:=(W t).2;rw[bc] at this;exact this
  simp only[wk,ci,cr,cJ,da] at z;rw[aY z];simp;refine aV (λcB=> ?_) (λA=>l bb A λW=>A (b1 W).1);refine bQ (Y an) (λj f=>∃m,f=[.r (ap m)]/\km m/\Y m<=200000*i+50000+j/\(m=[]<->F=[]/\j=0)) ⟨0,rfl,rN _,F,rfl,ab,ae,aw⟩ ?_;rintro j _ hj ⟨m,rfl,b2,aa,cC⟩;simp;refine aV (λhj=>⟨hj, ?_⟩) (λc8=> ?_);rw[bC hj ae];exact⟨_,rfl,km.ins rfl b2,by refine mc (vn _ _ _) ?_;omega,D6 ae⟩;rw[bC hi bk];refine g m b2 ae ?_;have cD:j=0<->an=[]:=by rw[<-Em];omega
  rw[cC,d,cD];exact⟨λw=>⟨w.1.1,λ_=>⟨w.1.2,by rw[bc];exact cB,by rw[bc];exact w.2⟩⟩,λw=>⟨⟨w.1,(w.2 t).1⟩,(b1 w.2).2⟩⟩;have t:¬cb P i 0=true:=a3;rw[bC hi bk];exact g u bg ae ⟨λq=>⟨q,λw=>bF w t⟩,λq=>q.1⟩

def RoA(ao:Int)(R X W P V Q:RV)(i:Nat):Prop:=(∀j<13,ci P i j=gS ao X W V i j)/\I6 (gB ao X W R V i 0) (gB ao X W R V i 1) (gB ao X W R V i 2) (gB ao X W R V i 3) (ci Q i 0) (ci Q i 1) (ci Q i 2) (ci Q i 3)=J
def RoI(ao:Int)(X W V R Q:RV)(i:Nat):Prop:=eQ (gB ao X W V R i 0) (gB ao X W V R i 1) (gB ao X W V R i 2) (gB ao X W V R i 3)=J/\vB Q i=J
def aCS(ao:Int)(X W V P R Q:RV)(i:Nat):LX ao X W V P R Q i<->RoA ao X W V P R Q i/\RoI ao W V X R Q i/\Qx ao X W V P R Q i:=⟨λh=>⟨⟨h.aft,h.ins⟩,h.inb,h.UH⟩,λh=>⟨h.1.1,h.2.1,h.1.2,h.2.2⟩⟩
def abx{Q V S:Prop}{R:av}{F:Nat->Prop}(P:F X<->Q/\V/\S)(O:V)(h:W=[]<->R=[]/\S)(N:R=[]<->(∀k<X,F k)/\Q):W=[]<->∀k<X+1,F k:=by
 rw[h,N,aCd,P];exact⟨λw=>⟨w.1.1,w.1.2,O,w.2⟩,λw=>⟨⟨w.1,w.2.1⟩,w.2.2.2⟩⟩
def ajH:ar:=[0,1,1,0,0,0,1,0,0,0,1,0,1,0,1,0,1,0,0,0,1]
def aCT(ag:Brc)(h:dS)(hw:BS)(ao:Int)(x V R W N Q P:RV)(A:Gn ay x V R W N Q P)(X:Prop)(L:ck)
  (c:Y ay.ah<=64)(a4:Y N.ah=Y ay.ah)(bg:Y P.ah=Y ay.ah)(a9:Y V.ah=Y ay.ah)(b:Y R.ah=Y ay.ah)(ba:Y W.ah=Y ay.ah)(a:Y Q.ah=Y ay.ah)
  (al:∀i<Y ay.ah,cb R i 0=J->l9 i ao=0/\∃v,Au (dU i ao) (cr 96 Q i) (dU i ao).length v)
  (x7 x8 x9 bk bl:Int)(br bs:RV)(vs vr vb:av)(bt:Y vs=Y ay.ah)(b0:Y vb=Y ay.ah)
  (b1:∀i<Y ay.ah,(∀j<13,bn (aN vs (i:Int) j).val=gS ao R W Q i j)/\∀j<4,bn (aN vb (i:Int) j).val=gB ao R W V Q i j)
  (hK:X<->(∀i<Y ay.ah,LX ao V R W N Q P i)/\xi (vp ao) 1=0/\(∀i<Y ay.ah,iM W V i 4=0)/\(∀i<Y ay.ah,iM N V i 4=0)/\abi x ao P (ap (yO W V (Y ay.ah))) (xr (vp ao) 0)/\∀p<(xr (vp ao) 0).ah.length,Gp W V (ci (xr (vp ao) 0) p 0).toNat (ci (xr (vp ao) 0) p 1).toNat=J/\Gp N V (ci (xr (vp ao) 0) p 0).toNat (ci (xr (vp ao) 0) p 1).toNat=J):
  T.wp TB.Ev (λo=>∃v e,o=aX.ret [.r (ap v),.i e]/\(¬e=0->v=[])/\((e=0/\v=[])<->X)) (qb.at ajH) ⟨[oS,oT,wZ,I8,I9,eD,ao,x7,x8,x9,bk,bl],[],[ay,l8,nu,ny,dh,x,V,R,W,N,Q,P,br,bs,ap vs,ap vr,ap vb],[]⟩ L:=by
 rw[show qb.at ajH=(T.loop _ _ _ (T.aI _ (T.aQ _ (T.aQ _ (T.aQ _ (T.aQ _ (T.aQ _ (T.aQ _ (T.aQ _ (T.aQ _ (T.aQ _ (T.aQ _ (T.aQ _ (T.aQ _ (T.aI _ (T.ah _ _ _ (T.aQ _ (T.aQ _ (T.aQ _ (T.aQ _ (T.call _ _ _ _ _ _ (T.aI _ _ (T.aI _ (T.ah _ _ _ (qb.at abs)) (qb.at abt))))))))) (T.aQ _ (T.aQ _ (T.aQ _ (T.aQ _ (T.call _ _ _ _ _ _ (T.aI _ _ (T.aI _ (T.ah _ _ _ (qb.at abu)) (qb.at abv))))))))))))))))))))) (T.call _ _ _ _ _ _ (T.aI _ _ (qb.at ajG))))) from rfl];have ct:Y ay.ah<=140737488355328:=ae;have Jf:lenOf N.val=(Y ay.ah:Int):=by rw[A.af.len,a4]
 have UO:lenOf P.val=(Y ay.ah:Int):=by rw[A.bx.len,bg]
 have yN:lenOf V.val=(Y ay.ah:Int):=by rw[A.bd.len,a9]
 have D5:lenOf R.val=(Y ay.ah:Int):=by rw[A.mv.len,b]
 have Av:lenOf W.val=(Y ay.ah:Int):=by rw[A.bf.len,ba]
 have BV:lenOf Q.val=(Y ay.ah:Int):=by rw[A.Qt.len,a]
 have a0:∀{e:Int},e≠0->¬X->∃v z,(ap []=ap v/\e=z)/\(¬z=0->v=[])/\(z=0/\v=[]<->X):=λ{e} D d=>⟨[],e,⟨rfl,rfl⟩,λ_=>rfl,by simp[D,d]⟩
 have b2:∀{e:Int},¬e=0->¬X->∃v z,aX.ret [.r (ap []),.i e]=aX.ret [.r (ap v),.i z]/\(¬z=0->v=[])/\(z=0/\v=[]<->X):=λ{e} D d=>⟨[],e,rfl,λ_=>rfl,by simp[D,d]⟩
 have b3:X->∀i<Y ay.ah,LX ao V R W N Q P i:=λk=>(hK.1 k).1
 refine bQ (Y ay.ah) (λi b4=>∃m,b4=[.r (ap m)]/\km m/\Y m<=200000*i/\(m=[]<->∀k<i,LX ao V R W N Q P k)) ⟨0,rfl,rN _,[],rfl,km.nil,aw,aw⟩ ?_;rintro i _ G ⟨m,rfl,aa,b5,hm⟩;simp[Jf,UO,yN,D5,Av,BV,bt,b0];refine aV (λG=> ?_) (λb6=> ?_);obtain⟨B,q3⟩:=b1 i G;have n:=aCS ao V R W N Q P i;simp only[B 0 ae,B 1 ae,B 2 ae,B 3 ae,B 4 ae,B 5 ae,B 6 ae,B 7 ae,B 8 ae,B 9 ae,B 10 ae,B 11 ae,B 12 ae,q3 0 ae,q3 1 ae,q3 2 ae,q3 3 ae];have u:RoA ao V R W N Q P i<->(∀j<13,ci N i j=gS ao R W Q i j)/\I6 (gB ao R W V Q i 0) (gB ao R W V Q i 1) (gB ao R W V Q i 2) (gB ao R W V Q i 3) (ci P i 0) (ci P i 1) (ci P i 2) (ci P i 3)=true:=Iff.rfl;have t:RoI ao R W V Q P i<->eQ (gB ao R W V Q i 0) (gB ao R W V Q i 1) (gB ao R W V Q i 2) (gB ao R W V Q i 3)=J/\vB P i=true:=Iff.rfl;generalize gB ao R W V Q i 0=g0 at u t;generalize gB ao R W V Q i 1=g1 at u t;generalize gB ao R W V Q i 2=g2 at u t;generalize gB ao R W V Q i 3=g3 at u t;have a1:X->LX ao V R W N Q P i:=λk=>b3 k i G
 have an:∀{e:Int},¬e=0->¬Qx ao V R W N Q P i->∃v z,aX.ret [.r (ap []),.i e]=aX.ret [.r (ap v),.i z]/\(¬z=0->v=[])/\(z=0/\v=[]<->X):=λD y=>b2 D λk=>y (n.1 (a1 k)).2.2
 have dX:∀{s:aE},(iE 3 s m).length<=200000*i+2:=λ{s}=>by have:=vn 3 s m;omega
 have b7:∀{s a3:aE},(iE 3 a3 (iE 3 s m)).length<=200000*i+2:=λ{s a3}=>by have:=vn 3 s m;have:=vn 3 a3 (iE 3 s m);omega
 refine⟨G,aV (λH=>⟨G, ?_⟩) (λH=>⟨G, ?_⟩)⟩;have d:¬∀j<13,ci N i j=gS ao R W Q i j:=λF=>by
  simp only[ci] at F;have e0:=F 0 ae;have e1:=F 1 ae;have e2:=F 2 ae;have e3:=F 3 ae;have e4:=F 4 ae;have e5:=F 5 ae;have e6:=F 6 ae;have e7:=F 7 ae;have e8:=F 8 ae;have e9:=F 9 ae;have b8:=F 10 ae;have ca:=F 11 ae;have cc:=F 12 ae;rcases H with O|O|O|O|O|O|O|O|O|O|O|O|O;exact O e0;exact O e1;exact O e2;exact O e3;exact O e4;exact O e5;exact O e6;exact O e7;exact O e8;exact O e9;exact O b8;exact O ca;exact O cc
 refine aV (λq=>a0 (by rw[aS (Qu q)];omega) λk=>Qu q (t.1 (n.1 (a1 k)).2.1)) (λab=> ?_);have ac:=t.2 (atA ab);refine aV (λhB=> ?_) (λhB=> ?_);refine sgA abs [_,_] (.inl ⟨rfl,_,_,rfl⟩) _ _ L ag h hw ao x V R W N Q P A (Y ay.ah) i rfl G c b a (al i G) _ _ _ _ _ _ _ _ _ _ _ _ _ ?_ ?_ (λe D y=>an D y) (λM l g f=>⟨M,rfl,l,g,abx n ac f ?_⟩);exact km.ins rfl (km.ins rfl aa);exact b7;exact D6 λw=>d (u.1 w.2).1
 refine sgA abt [_] (.inr (.inl ⟨rfl,_,rfl⟩)) _ _ L ag h hw ao x V R W N Q P A (Y ay.ah) i rfl G c b a (al i G) _ _ _ _ _ _ _ _ _ _ _ _ _ ?_ ?_ (λe D y=>an D y) (λM l g f=>⟨M,rfl,l,g,abx n ac f ?_⟩);exact km.ins rfl aa;exact dX;exact D6 λw=>d (u.1 w.2).1
 have cf:∀j<13,ci N i j=gS ao R W Q i j:=by
  simp only[not_or,Classical.not_not] at H;exact atB H.1 H.2.1 H.2.2.1 H.2.2.2.1 H.2.2.2.2.1 H.2.2.2.2.2.1 H.2.2.2.2.2.2.1 H.2.2.2.2.2.2.2.1 H.2.2.2.2.2.2.2.2.1 H.2.2.2.2.2.2.2.2.2.1 H.2.2.2.2.2.2.2.2.2.2.1 H.2.2.2.2.2.2.2.2.2.2.2.1 H.2.2.2.2.2.2.2.2.2.2.2.2
 refine aV (λq=>a0 (by rw[aS (Qu q)];omega) λk=>Qu q (t.1 (n.1 (a1 k)).2.1)) (λab=> ?_);have ac:=t.2 (atA ab);refine aV (λhB=> ?_) (λhB=> ?_);have ch:¬I6 g0 g1 g2 g3 (ci P i 0) (ci P i 1) (ci P i 2) (ci P i 3)=true:=aCe ab hB;refine sgA abu [_] (.inr (.inr (.inl ⟨rfl,_,rfl⟩))) _ _ L ag h hw ao x V R W N Q P A (Y ay.ah) i rfl G c b a (al i G) _ _ _ _ _ _ _ _ _ _ _ _ _ ?_ ?_ (λe D y=>an D y) (λM l g f=>⟨M,rfl,l,g,abx n ac f ?_⟩);exact km.ins rfl aa;exact dX;exact D6 λw=>ch (u.1 w.2).2
 refine sgA abv [] (.inr (.inr (.inr ⟨rfl,rfl⟩))) _ _ L ag h hw ao x V R W N Q P A (Y ay.ah) i rfl G c b a (al i G) _ _ _ _ _ _ _ _ _ _ _ _ _ ?_ ?_ (λe D y=>an D y) (λM l g f=>⟨M,rfl,l,g,abx n ac f ?_⟩);exact aa;omega;exact⟨λw=>⟨hm.1 w,u.2 ⟨cf,aCf ab hB⟩⟩,λw=>hm.2 w.1⟩;have cl:i=Y ay.ah:=VH G (QT b6);subst cl;obtain⟨o,g1,bb,bc,rfl,cu,cn,cv⟩:=t23 oU h ao;have co:vp ao=[.r (ap bb),.i bc]:=DW g1;rw[co] at hK;have cp:X->bc=0:=λk=>(hK.1 k).2.1
 simp only[wk,cJ,da] at g1;rw[aY g1];simp;refine aV (λcs=> ?_) (λq=>a0 q λk=>q (cp k));refine aCQ h ao x V R W N Q P A X (∀k<Y ay.ah,LX ao V R W N Q P k) _ _ _ _ _ _ _ _ _ _ _ _ m bb _ c a9 ba a4 aa b5 hm cn ?_;refine hK.trans ⟨λw=>⟨w.1,w.2.2⟩,λw=>⟨w.1,cs,w.2⟩⟩

def t16(bs:Brc)(h:dS)(ao:Int)(H L O N G R F:RV)(P:Gn ay H L O N G R F):∃o,TB.Ev 84 (wk++[.r H,.r L,.i ao,.r O,.r N,.r G,.r R,.r F]) o/\∃v e,o=.ret [.r (ap v),.i e]/\(e≠0->v=[])/\((e=0/\v=[])<->Jg ao H L O N G R F):=by
 generalize c:Jg ao H L O N G R F=X;refine Qk rfl rfl (.inr λv hv=>by obtain⟨_,_,h,_⟩:=hv;cases h) ?_;obtain⟨b,h2⟩:=yM oU h;simp only[wk] at b;have Q:∀{e:Int},e≠0->¬Jg ao H L O N G R F->∃v n,(ap []=ap v/\e=n)/\(¬n=0->v=[])/\(n=0/\v=[]<->X):=λ{e} he bt=>⟨[],e,⟨rfl,rfl⟩,λ_=>rfl,by rw[<-c];simp[he,bt]⟩
 rw[show qb=(T.call _ _ _ _ _ _ (T.aI _ _ (T.aI _ _ (T.aI _ (T.aI _ (T.aI _ (T.aI _ _ (T.aI _ (T.aI _ (T.aI _ (T.aI _ _ (T.loop _ _ _ (T.aI _ _ (T.loop _ _ _ (T.aI _ _ (T.loop _ _ _ (T.aI _ _ (T.call _ _ _ _ _ _ (T.call _ _ _ _ _ _ (T.loop _ _ _ (T.aI _ _ (qb.at ajH)))))))))))) _) _) _)) _) _) _)))) from rfl];simp[wk,aY b];simp only[h.rl.len,P.wg.len,P.bd.len,P.mv.len,P.bf.len,P.af.len,P.Qt.len,P.bx.len];refine aV (λa=> ?_) (λaa=>Q aa λX=>aa X.ex.wk);have hw:=h2 a;have hn:=hw.nr;refine aV (λh8=>Q ae λX=>by have:=X.ex.nw;omega) (λh8=> ?_);refine aV (λb5=> ?_) (λV=>Q ae λX=>by have:=X.ex.br;omega);refine aV (λb6=> ?_) (λV=>Q ae λX=>by have:=X.ex.br;omega);refine aV (λJf=> ?_) (λV=>Q ae λX=>by have:=X.ex.Jf;omega);refine aV (λUO=> ?_) (λV=>Q ae λX=>by have:=X.ex.UO;omega);refine aV (λyN=> ?_) (λV=>Q ae λX=>by have:=X.ex.yN;omega);refine aV (λD5=> ?_) (λV=>Q ae λX=>by have:=X.ex.D5;omega);refine aV (λAv=> ?_) (λV=>Q ae λX=>by have:=X.ex.Av;omega);refine aV (λBV=> ?_) (λV=>Q ae λX=>by have:=X.ex.BV;omega);have b0:lenOf G.val=(Y ay.ah:Int):=by rw[P.af.len];exact Jf
 have b1:lenOf F.val=(Y ay.ah:Int):=by rw[P.bx.len];exact UO
 have ab:lenOf L.val=(Y ay.ah:Int):=by rw[P.bd.len];exact yN
 have ac:lenOf O.val=(Y ay.ah:Int):=by rw[P.mv.len];exact D5
 have ag:lenOf N.val=(Y ay.ah:Int):=by rw[P.bf.len];exact Av
 have al:lenOf R.val=(Y ay.ah:Int):=by rw[P.Qt.len];exact BV
 have s:Y ay.ah<=140737488355328:=ae;have B:∀i<Y ay.ah,Sl (cr 96 R i)/\(cr 96 R i).ah.length<=100:=λi W=>P.fz i ae
 refine bQ (Y ay.ah) (λi A=>A=[]/\∀k<i,LW L k=0/\Je N k=0/\(if cb O k 0 then UN ao R k=0 else(cr 96 R k).ah=[])) ⟨0,rfl,ae,rfl,ae⟩ ?_;rintro i _ W ⟨rfl,q⟩;simp[ab,ac,ag,al];refine aV (λW=> ?_) (λm=> ?_);have an:=(I7 (t85 oU h i ao (cr 96 R i) (B i W).1)).1;simp only[wk,cr,cJ,da] at an;have a0:=(B i W).1.len;simp only[cr] at a0;simp[bC W s,W,aY an,a0];refine aV (λw=> ?_) (λV=>Q ae λX=>V (X.ex.fM i W).1);refine aV (λa2=> ?_) (λV=>Q ae λX=>V (X.ex.fM i W).2.1);refine aV (λz=> ?_) (λz=> ?_);have M:cb O i 0=true:=z;refine aV (λy=> ?_) (λV=>Q ae λX=>V (by have:=(X.ex.fM i W).2.2;rw[aH M] at this;exact this));exact w4 q ⟨w,a2,by rw[aH M];exact y⟩;have M:¬cb O i 0=true:=z;refine aV (λy=> ?_) (λV=>Q ae λX=>V (by have:=(X.ex.fM i W).2.2;rw[aS M] at this;exact this));exact w4 q ⟨w,a2,by rw[aS M];exact y⟩;have x:i=Y ay.ah:=ae;subst x;refine bQ (Y ay.ah) (λi A=>A=[]/\∀k<i,vB F k=J/\Je G k=0) ⟨0,rfl,ae,rfl,ae⟩ ?_;rintro i _ W ⟨rfl,a9⟩;simp[h.rl.len,b0,b1];refine aV (λW=> ?_) (λm=> ?_);simp[bC W s,W];refine aV (λw=>aV (λa2=>w4 a9 ⟨w,a2⟩) (λV=>Q ae λX=>V (X.ex.box i W).2)) (λV=>Q ae λX=>V (X.ex.box i W).1);have x:i=Y ay.ah:=ae;subst x;refine bQ (Y H.ah) (λi A=>A=[]/\∀k<i,mJ (ci H k) ao 4=0) ⟨0,rfl,ae,rfl,ae⟩ ?_;rintro i _ W ⟨rfl,ba⟩;simp[P.wg.len];refine aV (λW=> ?_) (λm=> ?_);have bb:=f25 (ci H i) ao;simp only[LU,ci,cJ,da] at bb;simp[bC W P.wg.sm,W,aY bb];exact aV (λw=>w4 ba w) (λV=>Q V λX=>V (X.ex.pth i W));have x:i=Y H.ah:=ae;subst x;rw[aY (e86 O P.mv ae)];simp;rw[aY (e87 N P.bf ae)];simp;have b2:aty ao H L O N G R F:=⟨a,ae,ae,ae,ae,ae,ae,ae,ae,q,a9,ba⟩;refine bQ (Y ay.ah) (λi A=>∃u p t,A=[.r (ap u),.r (ap p),.r (ap t)]/\Y u=i/\Y p=i/\Y t=i/\∀k<i,vo ao O N L R k/\(∀j<13,bn (aN u (k:Int) j).val=gS ao O N R k j)/\∀j<4,bn (aN t (k:Int) j).val=gB ao O N L R k j) ⟨0,rfl,ae,[],[],[],rfl,rfl,rfl,rfl,ae⟩ ?_;rintro i _ W ⟨u,p,t,rfl,l,b7,g,bc⟩;simp[ab,ac,ag,al];refine aV (λW=> ?_) (λm=> ?_);have bg:=e88 (cr 96 R i) (B i W).1 (by have:=(B i W).2;omega);simp only[cr] at bg;simp[bC W s,W,aY bg];refine⟨ae,aV (λz=> ?_) (λz=> ?_)⟩;have M:cb O i 0=true:=z;have bk:=nz _ (t89 h i ao (ci N i) (cr 96 R i) (B i W).1);simp only[wk,ci,cr,cJ,da,Jb,Qo,tZ] at bk;rw[aY bk];simp;refine aV (λy=> ?_) (λV=>Q V λX=>V (by have:=X.LY i W;rw[vo,aH M] at this;exact this.1));have bl:=nz _ (t90 h i ao (ci N i) _ (UL (aN L.ah (i:Int) 0)) (ci L i) (cr 96 R i) (B i W).1);simp only[wk,ci,cr,cJ,da,Jb,Qo,tZ] at bl;rw[aY bl];simp[bC W s];refine aV (λa5=> ?_) (λV=>Q V λX=>V (by have:=X.LY i W;rw[vo,aH M] at this;exact this.2));refine⟨ae,ae,_,_,_,⟨rfl,rfl,rfl⟩,bY,bY,bY,λk f=> ?_⟩;by_cases d:k=i;subst d;refine⟨by rw[vo,aH M];exact⟨y,a5⟩,λj D=> ?_,λj D=> ?_⟩;rw[Aw l,gS,aH M]
 match j,D with|0,_|1,_|2,_|3,_|4,_|5,_|6,_|7,_|8,_|9,_|10,_|11,_|12,_=>rfl
 rw[Aw g,gB,aH M]
 match j,D with|0,_|1,_|2,_|3,_=>rfl
 grind [Jh]
 have M:¬cb O i 0=true:=z;refine aV (λy=> ?_) (λV=>Q V λX=>V (by have:=X.LY i W;rw[vo,aS M] at this;exact this));refine⟨ae,ae,_,_,_,⟨rfl,rfl,rfl⟩,bY,bY,bY,λk f=> ?_⟩;by_cases d:k=i;subst d;refine⟨by rw[vo,aS M];exact y,λj D=> ?_,λj D=> ?_⟩;rw[Aw l,gS,aS M]
 match j,D with|0,_|1,_|2,_|3,_|4,_|5,_|6,_|7,_|8,_|9,_|10,_|11,_|12,_=>rfl
 rw[Aw g,gB,aS M]
 match j,D with|0,_|1,_|2,_|3,_=>rfl
 grind [Jh]
 have x:i=Y ay.ah:=ae;subst x;have b3:X<->Jg ao H L O N G R F:=by rw[c]
 refine aCT bs h hw ao H L O N G R F P X _ hn.2 ae ae ae ae ae ae (λi W b4=> ?_) _ _ _ _ _ _ _ u p t l g (λk f=>(bc k f).2) (b3.trans ⟨λk=>⟨k.ro,k.UM,k.st1,k.st2,k.cl,k.mK⟩,λk=>⟨b2,λj D=>(bc j D).1,k.1,k.2.1,k.2.2.1,k.2.2.2.1,k.2.2.2.2.1,k.2.2.2.2.2⟩⟩);have:=(q i W).2.2;rw[aH b4] at this;exact(I7 (t85 oU h i ao (cr 96 R i) (B i W).1)).2 this

def brc:Brc:=λh bz ao x X r ce W=>by
 obtain⟨o,V,v,e,R,Q,_⟩:=aCP h bz ao x X r ce W;exact⟨o,V,v,e,R,Q⟩
def t18(h:dS)(ao:Int)(W V R Q P O N:RV)(G:Gn ay W V R Q P O N):∃o,TB.Ev 58 (wk++[.r W,.r V,.i ao,.r R,.r Q,.r P,.r O,.r N]) o/\∃b e,o=.ret [.b b,.i e]/\(¬e=0->b=E)/\(b=J<->Jg ao W V R Q P O N):=by
 generalize F:Jg ao W V R Q P O N=X;refine eJ ?_;obtain⟨o,H,v,e,rfl,B,M⟩:=t16 brc h ao W V R Q P O N G;rw[F] at M;simp only[wk,cJ,da] at H;simp[T18,wk,aY H];refine aV (λL=> ?_) (λL=> ?_);by_cases k:X;exact .inr ⟨e,⟨(M.2 k).2,rfl⟩,L,k⟩;exact .inl ⟨λD=>k (M.1 ⟨L,D⟩),k⟩;exact λk=>L (M.2 k).1
end
section
variable{R:aX->Prop}{G:aL}{t:T}{O:aj}{L:ck}
variable[Inhabited cm]
variable{wg bd cs br a:RV}
def bJ(wg bd cs br a:RV):aZ:=wk++[.r wg,.r bd,.r cs,.r br,.r a]
structure Mny(wg bd cs br:RV):Prop where
 wg:Y wg.ah<=8
 rl:Y ay.ah<=12
 bd:Y bd.ah<=16
 cs:Y cs.ah<=8
 bars:eD<=64
 br:∀i<Y br.ah,(cr 100 br i).ah.length<=8
end
def Qy:T->T
 |.aI _ _ f=>f|t=>t
section
variable{R:aX->Prop}{G:aL}{t:T}{O:aj}{L:ck}
variable[Inhabited cm]
variable{a c d g k:RV}
def aCX(h:dS):∃o,TB.Ev 52 wk o/\∃b,o=.ret [.b b]:=by
 refine eJ ?_;simp[ai4,wk]
 repeat'(first|intro _|split)
 all_goals omega
def aCY(W:Sl V)(M:∀i<Y V.ah,Sl (cH (.sl 4) (aN V.ah i 0))/\Sl (cH (.sl 101) (aN V.ah i 1))/\∀j<(cH (.sl 101) (aN V.ah i 1)).ah.length,Sl (cr 96 (cH (.sl 101) (aN V.ah i 1)) j)):
  T.wp TB.Ev (λo=>o=aX.ret [XV.b E]\/o=aX.ret [XV.b J]) (Qy (Qy UC)) ⟨[],[],[V],[]⟩ []:=by
 simp only[UC,Qy];refine bQ (Y V.ah) (λ_ Q=>Q=[]) ⟨0,rfl,ae,rfl⟩ ?_;rintro i _ G rfl;simp[W.len];intro X;obtain⟨F,N,H⟩:=M i X;refine⟨X,λ_=>⟨X,λ_=> ?_⟩⟩;refine bQ (cH (.sl 101) (aN V.ah i 1)).ah.length (λ_ Q=>Q=[]) ⟨0,rfl,ae,rfl⟩ ?_;rintro j _ D rfl;simp[W.len,N.len,X];refine aV (λP=> ?_) (λB=> ?_);have e:=(H j P).len;simp only[cr] at e;simp[P,bC P N.sm];simp[bC X W.sm]
def aCZ(X:Sl V)(W:∀i<Y V.ah,Sl (cH (.sl 4) (aN V.ah i 0))/\Sl (cH (.sl 101) (aN V.ah i 1))/\∀j<(cH (.sl 101) (aN V.ah i 1)).ah.length,Sl (cr 96 (cH (.sl 101) (aN V.ah i 1)) j)):∃o,TB.Ev 51 [.r V] o/\∃x,o=.ret [.b x]:=by
 refine eJ ?_;simp[UC]
 repeat'(first|exact aCY X W|intro _|split)
end
def aby:Nat->T->T
 |0,t=>t|n+1,t=>aby n (Qy t)
section
variable{R:aX->Prop}{G:aL}{t:T}{O:aj}{L:ck}
variable[Inhabited cm]
variable{a c d g f:RV}
structure jN(a c d g f:RV):Prop where
 sw:Sl a
 sb:Sl c
 sc:Sl d
 sr:Sl g
 so:Sl f
 ccs:∀i<Y d.ah,Sl (cr 3 d i)
 Ax:∀i<Y g.ah,Sl (cr 100 g i)
 BY:∀k<Y g.ah,∀i<(cr 100 g k).ah.length,Sl (cH (.sl 4) (aN (cr 100 g k).ah i 0))/\Sl (cH (.sl 101) (aN (cr 100 g k).ah i 1))/\∀j<(cH (.sl 101) (aN (cr 100 g k).ah i 1)).ah.length,Sl (cr 96 (cH (.sl 101) (aN (cr 100 g k).ah i 1)) j)
def aC0(h:dS)(s:jN a c d g f):T.wp TB.Ev (λo=>∃x,o=.ret [.b x]) (aby 12 I0) ⟨[oS,oT,wZ,I8,I9,eD],[],[ay,l8,nu,ny,dh,a,c,d,g,f],[]⟩ []:=by
 simp only[I0,aby,Qy];refine bQ (Y d.ah) (λ_ V=>V=[]) ⟨0,rfl,ae,rfl⟩ ?_;rintro i _ P rfl;simp[s.sc.len];refine aV (λQ=> ?_) (λ_=> ?_);have e:=(s.ccs i Q).len;simp only[cr] at e;simp[Q,bC Q s.sc.sm];refine bQ (Y g.ah) (λ_ V=>V=[]) ⟨0,rfl,ae,rfl⟩ ?_;rintro k _ N rfl;simp[s.sr.len];refine aV (λW=> ?_) (λ_=> ?_);obtain⟨o,X,x,rfl⟩:=aCZ (s.Ax k W) (s.BY k W);simp only[cr] at X;cases x<;>simp[W,aY X,bC W s.sr.sm];obtain⟨o,X,x,rfl⟩:=aCX h;simp only[wk] at X;cases x<;>simp[aY X]
def atO(h:dS)(s:jN a c d g f):∃o,TB.Ev 30 (bJ a c d g f) o/\∃x,o=.ret [.b x]:=by
 refine eJ ?_;show T.wp TB.Ev (λo=>∃x,o=.ret [.b x]) I0 ⟨[oS,oT,wZ,I8,I9,eD],[],[ay,l8,nu,ny,dh,a,c,d,g,f],[]⟩ [];have l:=aC0 h s;simp only[I0,aby,Qy] at l;unfold I0
 repeat'(first|exact l|(rw[UG];exact⟨_,rfl⟩)|(rw[Qj];refine aV (λ_=> ?_) (λ_=> ?_)))
end
section
variable{R:aX->Prop}{G:aL}{t:T}{O:aj}{L:ck}

variable[Inhabited cm]
variable{a c d g b:RV}
end
section
variable{R:aX->Prop}{G:aL}{t:T}{O:aj}{L:ck}


def L4{P:Nat->Prop}(h:∀k<X,P k)(W:P X):∀k<X+1,P k:=λk V=>by
 by_cases e:k=X;subst e;exact W;exact h k ae



variable[Inhabited cm]
end
section
variable{lt:aE->aE->Bool}{p:aE->Prop}
end
section
variable{R:aX->Prop}{G:aL}{t:T}{O:aj}{L:ck}
variable[Inhabited cm]



def Qz(v:RV)(q:Nat):Int:=o74 (ci v q 0) (ci v q 1) (ci v q 2) (ci v q 3) (ci v q 4) (ci v q 5) (ci v q 6) (ci v q 7) (ci v q 8) (ci v q 9) (ci v q 10) (ci v q 11) (ci v q 12)
structure Kno(ca kn op:RV)(i:Nat):Prop where
 one:1<=(cr 108 kn i).ah.length
 two:(cr 108 kn i).ah.length<=2
 opn:(cr 108 kn i).ah.length=2<->ci op i 0≠0
 ne:(cr 108 kn i).ah.length=2->∃j<13,ci (cr 108 kn i) 0 j≠ci (cr 108 kn i) 1 j
 fM:∀q<(cr 108 kn i).ah.length,Qz (cr 108 kn i) q=0
 ao:ci op i 0≠0->0<=be .sub I (ci op i 0) 1/\be .sub I (ci op i 0) 1<Y ca.ah/\bn (aN ca.ah (be .sub I (ci op i 0) 1) 0).val≠0

variable{e f d g h a b c:RV}{aG:Int}{k:Bool}
structure ko(d g a b c:RV)(aG:Int):Prop where
 calls:Y a.ah<=Y g.ah
 cast:0<=aG/\aG<Y d.ah
 Ay:Y b.ah=Y ay.ah
 D9:Y c.ah=Y ay.ah
 call:∀i<Y a.ah,0<=ci a i 0/\ci a i 0<=(cr 100 g i).ah.length
 Gs:∀i<Y b.ah,Kno a b c i
end
section
variable[Inhabited cm]
end
section
variable{R:aX->Prop}{G:aL}{t:T}{O:aj}{L:ck}
variable[Inhabited cm]

end
section
variable{R:aX->Prop}{G:aL}{t:T}{O:aj}{L:ck}



variable[Inhabited cm]
end
section
variable{R:aX->Prop}{G:aL}{t:T}{O:aj}{L:ck}
end
section
variable[Inhabited cm]
end
section
variable{R:aX->Prop}{G:aL}{t:T}{O:aj}{L:ck}
variable[Inhabited cm]
end
section
variable[Inhabited cm]


end
section
variable{R:aX->Prop}{G:aL}{t:T}{O:aj}{L:ck}
variable[Inhabited cm]



end
section
variable[Inhabited cm]
section
variable{a b:Nat->Prop}{M:av}{c:aE}
end
end
section
variable{R:aX->Prop}{G:aL}{t:T}{O:aj}{L:ck}
variable[Inhabited cm]
end
section
variable[Inhabited cm]


def aC1(h:dS)(ao:Int):∃o,TB.Ev 71 (wk++[.i ao]) o/\∃v e,o=.ret [.r (ap v),.i e]/\Y v<=4096/\(∀x∈v,0<=aW 0 x/\aW 0 x<aW 1 x/\aW 1 x<Y ay.ah)/\(jL=0->jh ao 0 (eD-1)=J->e=0):=by
 refine eJ ?_;have W:=e65 oU h ao;obtain⟨-,M⟩:=yM oU h;simp only[wk,cJ,da] at W;obtain⟨e,R⟩:∃e,e=(if jL=0 then(if jh ao 0 (eD-1) then 0 else 1) else jL):=⟨_,rfl⟩;rw[<-R] at W;simp[T23,wk,aY W];split
 case isFalse y=>
  exact⟨[],e,⟨rfl,rfl⟩,aw,aw,λW M w=>by rw[R,aH W,aH bY]⟩
 rename_i F;have Q:jL=0/\jh ao 0 (eD-1)=true:=by
  subst F;by_cases Q:jL=0;rw[aH Q] at R;refine⟨Q, ?_⟩;cases D:jh ao 0 (eD-1);simp[D] at R;rfl;rw[aS Q] at R;exact bF R.symm Q
 have B:=M Q.1;have u:=B.nr;refine bQ (Y dh.ah) (λi N=>∃m,N=[.r (ap m)]/\∀x∈m,aW 0 x<aW 1 x) ⟨0,rfl,ae,[],rfl,aw⟩ ?_;rintro i _ P ⟨m,rfl,H⟩;simp[h.sg.len];split
 ·rename_i P;simp[bC P h.sg.sm,P]
  repeat'(refine aV (λ_=> ?_) (λ_=> ?_))
  all_goals first
   |exact⟨m,rfl,H⟩
   |(refine⟨_,rfl,λx X=> ?_⟩
     rcases abk X with rfl|X;show(min _ _:Int)<max _ _;omega;exact H x X)
 refine bQ (Y ay.ah) (λi N=>∃v,N=[.r (ap v)]/\Y v<=i*64/\∀x∈v,0<=aW 0 x/\aW 0 x<aW 1 x/\aW 1 x<Y ay.ah) ⟨0,rfl,ae,[],rfl,aw,aw⟩ ?_;rintro i _ P ⟨v,rfl,A,V⟩;simp[h.rl.len];split;rename_i P;refine bQ (Y ay.ah) (λj N=>∃v,N=[.r (ap v)]/\Y v<=i*64+j/\∀x∈v,0<=aW 0 x/\aW 0 x<aW 1 x/\aW 1 x<Y ay.ah) ⟨0,rfl,ae,v,rfl,ae,V⟩ ?_;rintro j _ G ⟨v,rfl,A,V⟩;simp[h.rl.len];split
 ·rename_i G;simp[bC G h.rl.sm];have z:∀{O},mj 2 [(i:Int),(j:Int),0] m=U O->i<j:=λ{O} L=>by
   have W:=Vu L;have M:=ack L;have:=H O W;rcases O with _|⟨a,_|⟨b,O⟩⟩<;>simp[mi,aW] at M this;omega
  cases L:mj 2 [(i:Int),(j:Int),0] m with
  |none=>simp;exact⟨v,rfl,ae,V⟩
  |some O=>
  have t:=z L;simp only;split
  all_goals first
   |exact⟨v,rfl,ae,V⟩
   |(refine⟨ae,_,rfl,bY,λx X=> ?_⟩
     rcases fg.1 X with X|X;exact V x X;simp at X;subst X;simp[aW,bn];omega)
 simp[bC P h.rl.sm];exact⟨v,rfl,ae,V⟩;exact⟨v,0,⟨rfl,rfl⟩,ae,V,λ_ _ _=>rfl⟩

end
section
variable{R:aX->Prop}{G:aL}{t:T}{O:aj}{L:ck}
variable[Inhabited cm]
def Gt(v:av)(k:Nat):Nat:=(v.getD k []).length
def abz{V:aE}{n:Nat}(h:Y W=X)(Q:Y V=n):Gt (W++[V]) X=n:=by
 subst h;simpa[Gt] using Q
def abA{w:av}(h:X<Y W):Gt (W++w) X=Gt W X:=by simp[Gt,f8 h]
structure Md(ao:Int)(bd mv bf re:RV)(vs vr vb:av):Prop where
 wk:jL=0
 br:0<=ao/\ao<eD
 yN:Y bd.ah=Y ay.ah
 D5:Y mv.ah=Y ay.ah
 Av:Y bf.ah=Y ay.ah
 BV:Y re.ah=Y ay.ah
 fM:∀i<Y ay.ah,LW bd i=0/\Je bf i=0/\(if cb mv i 0 then UN ao re i=0 else(cr 96 re i).ah=[])
 ls:Y vs=Y ay.ah
 lr:Y vr=Y ay.ah
 lb:Y vb=Y ay.ah
 al:∀k<Y ay.ah,aN vr (k:Int) 0=ap (cr 96 re k).ah/\Gt vs k=13/\Gt vb k=4/\vo ao mv bf bd re k/\(∀j<13,bn (aN vs (k:Int) j).val=gS ao mv bf re k j)/\∀j<4,bn (aN vb (k:Int) j).val=gB ao mv bf bd re k j
structure MdP(ao:Int)(bd mv bf re:RV):Prop where
 wk:jL=0
 br:0<=ao/\ao<eD
 yN:Y bd.ah=Y ay.ah
 D5:Y mv.ah=Y ay.ah
 Av:Y bf.ah=Y ay.ah
 BV:Y re.ah=Y ay.ah
 fM:∀i<Y ay.ah,LW bd i=0/\Je bf i=0/\(if cb mv i 0 then UN ao re i=0 else(cr 96 re i).ah=[])
 LY:∀k<Y ay.ah,vo ao mv bf bd re k
def UZ(ao:Int)(V X W Q:RV)(o:aX):Prop:=(∃e,e≠0/\¬MdP ao V X W Q/\o=.ret [.i 0,.r (ap []),.r (ap []),.r (ap []),.r (ap []),.r (ap []),.i e])\/∃P N M,o=.ret [.i ao,.r (ap X.ah),.r (ap W.ah),.r (ap P),.r (ap N),.r (ap M),.i 0]/\Md ao V X W Q P N M
def t13(h:dS)(ao:Int)(wg G Q N W:RV)(ce:Sl G)(n:Sl Q)(ow:Sl N)(aa:Sl W)(bb:∀i<Y W.ah,Sl (cr 96 W i)/\(cr 96 W i).ah.length<=100):∃o,TB.Ev 54 (wk++[.r wg,.r G,.i ao,.r Q,.r N,.r W]) o/\UZ ao G Q N W o:=by
 obtain⟨P,p⟩:∃P:aX->Prop,∀o,P o<->UZ ao G Q N W o:=⟨_,λ_=>Iff.rfl⟩
 suffices bc:∃o,TB.Ev 54 (wk++[.r wg,.r G,.i ao,.r Q,.r N,.r W]) o/\P o by
  obtain⟨o,g1,g2⟩:=bc;exact⟨o,g1,(p o).1 g2⟩
 refine Qk rfl rfl (.inr λv hv=>by rcases(p _).1 hv with⟨_,_,_,h⟩|⟨_,_,_,h,_⟩<;>cases h) ?_;obtain⟨h1,h2⟩:=yM oU h;simp only[wk] at h1;have A:MdP ao G Q N W->0<=ao/\ao<eD/\Y G.ah=Y ay.ah/\Y Q.ah=Y ay.ah/\Y N.ah=Y ay.ah/\Y W.ah=Y ay.ah:=λq=>⟨q.br.1,q.br.2,q.yN,q.D5,q.Av,q.BV⟩
 have F:∀{e:Int},e≠0->¬MdP ao G Q N W->P (.ret [.i 0,.r (ap []),.r (ap []),.r (ap []),.r (ap []),.r (ap []),.i e]):=λ{e} he hq=>(p _).2 (.inl ⟨e,he,hq,rfl⟩)
 simp[T13,wk,aY h1];simp only[h.rl.len,ce.len,n.len,ow.len,aa.len];refine aV (λh0=> ?_) (λX=>F X λq=>X q.wk);have hw:=h2 h0;have hn:=hw.nr;refine aV (λX=>F ae λq=>by have:=A q;omega) (λbk=> ?_);refine aV (λX=>F ae λq=>by have:=A q;omega) (λbl=> ?_);refine aV (λyN=> ?_) (λX=>F ae λq=>by have:=A q;omega);refine aV (λD5=> ?_) (λX=>F ae λq=>by have:=A q;omega);refine aV (λAv=> ?_) (λX=>F ae λq=>by have:=A q;omega);refine aV (λBV=> ?_) (λX=>F ae λq=>by have:=A q;omega);have ab:lenOf G.val=(Y ay.ah:Int):=by rw[ce.len];exact yN
 have ac:lenOf Q.val=(Y ay.ah:Int):=by rw[n.len];exact D5
 have af:lenOf N.val=(Y ay.ah:Int):=by rw[ow.len];exact Av
 have ag:lenOf W.val=(Y ay.ah:Int):=by rw[aa.len];exact BV
 have m:Y ay.ah<=140737488355328:=ae;have z:∀i<Y ay.ah,Sl (cr 96 W i)/\(cr 96 W i).ah.length<=100:=λi V=>bb i ae
 refine bQ (Y ay.ah) (λi l=>l=[]/\∀k<i,LW G k=0/\Je N k=0/\(if cb Q k 0 then UN ao W k=0 else(cr 96 W k).ah=[])) ⟨0,rfl,ae,rfl,ae⟩ ?_;rintro i _ V ⟨rfl,g⟩;simp[ab,ac,af,ag];refine aV (λV=> ?_) (λbg=> ?_);have al:=(I7 (t85 oU h i ao (cr 96 W i) (z i V).1)).1;simp only[wk,cr,cJ,da] at al;have an:=(z i V).1.len;simp only[cr] at an;simp[bC V m,V,aY al,an];refine aV (λa1=> ?_) (λX=>F ae λq=>X (q.fM i V).1);refine aV (λa2=> ?_) (λX=>F ae λq=>X (q.fM i V).2.1);refine aV (λD=> ?_) (λD=> ?_);have M:cb Q i 0=true:=D;refine aV (λB=> ?_) (λX=>F ae λq=>by have:=(q.fM i V).2.2;rw[aH M] at this;exact X this);exact w4 g ⟨a1,a2,by rw[aH M];exact B⟩;have M:¬cb Q i 0=true:=D;refine aV (λB=> ?_) (λX=>F ae λq=>by have:=(q.fM i V).2.2;rw[aS M] at this;exact X this);exact w4 g ⟨a1,a2,by rw[aS M];exact B⟩;have f:i=Y ay.ah:=ae;subst f;rw[aY (e86 Q n ae)];simp;rw[aY (e87 N ow ae)];simp;refine bQ (Y ay.ah) (λi l=>∃y w x,l=[.r (ap y),.r (ap w),.r (ap x)]/\Y y=i/\Y w=i/\Y x=i/\∀k<i,aN w (k:Int) 0=ap (cr 96 W k).ah/\Gt y k=13/\Gt x k=4/\vo ao Q N G W k/\(∀j<13,bn (aN y (k:Int) j).val=gS ao Q N W k j)/\∀j<4,bn (aN x (k:Int) j).val=gB ao Q N G W k j) ⟨0,rfl,ae,[],[],[],rfl,rfl,rfl,rfl,ae⟩ ?_;rintro i _ V ⟨y,w,x,rfl,u,d,s,c⟩;simp[ab,ac,af,ag];refine aV (λV=> ?_) (λbg=> ?_);have a0:=e88 (cr 96 W i) (z i V).1 (by have:=(z i V).2;omega);simp only[cr] at a0;simp[bC V m,V,aY a0];refine⟨ae,aV (λD=> ?_) (λD=> ?_)⟩;have M:cb Q i 0=true:=D;have a9:=nz _ (t89 h i ao (ci N i) (cr 96 W i) (z i V).1);simp only[wk,ci,cr,cJ,da,Jb,Qo,tZ] at a9;rw[aY a9];simp;refine aV (λB=> ?_) (λX=>F X λq=>by have:=q.LY i V;rw[vo,aH M] at this;exact X this.1);have ba:=nz _ (t90 h i ao (ci N i) _ (UL (aN G.ah (i:Int) 0)) (ci G i) (cr 96 W i) (z i V).1);simp only[wk,ci,cr,cJ,da,Jb,Qo,tZ] at ba;rw[aY ba];simp[bC V m];refine aV (λa5=> ?_) (λX=>F X λq=>by have:=q.LY i V;rw[vo,aH M] at this;exact X this.2);refine⟨ae,ae,_,_,_,⟨rfl,rfl,rfl⟩,bY,bY,bY,λk hk=> ?_⟩;by_cases b:k=i;subst b;refine⟨by rw[Aw d];rfl,abz u rfl,abz s rfl,by rw[vo,aH M];exact⟨B,a5⟩,λj H=> ?_,λj H=> ?_⟩;rw[Aw u,gS,aH M]
 match j,H with|0,_|1,_|2,_|3,_|4,_|5,_|6,_|7,_|8,_|9,_|10,_|11,_|12,_=>rfl
 rw[Aw s,gB,aH M]
 match j,H with|0,_|1,_|2,_|3,_=>rfl
 obtain⟨a,q4,q5,q1,q2,q3⟩:=c k ae;exact⟨by rw[Jh ae];exact a,by rw[abA ae];exact q4,by rw[abA ae];exact q5,q1,λj H=>by rw[Jh ae];exact q2 j H,λj H=>by rw[Jh ae];exact q3 j H⟩;have M:¬cb Q i 0=true:=D;refine aV (λB=> ?_) (λX=>F X λq=>by have:=q.LY i V;rw[vo,aS M] at this;exact X this);refine⟨ae,ae,_,_,_,⟨rfl,rfl,rfl⟩,bY,bY,bY,λk hk=> ?_⟩;by_cases b:k=i;subst b;refine⟨by rw[Aw d];rfl,abz u rfl,abz s rfl,by rw[vo,aS M];exact B,λj H=> ?_,λj H=> ?_⟩;rw[Aw u,gS,aS M]
 match j,H with|0,_|1,_|2,_|3,_|4,_|5,_|6,_|7,_|8,_|9,_|10,_|11,_|12,_=>rfl
 rw[Aw s,gB,aS M]
 match j,H with|0,_|1,_|2,_|3,_=>rfl
 obtain⟨a,q4,q5,q1,q2,q3⟩:=c k ae;exact⟨by rw[Jh ae];exact a,by rw[abA ae];exact q4,by rw[abA ae];exact q5,q1,λj H=>by rw[Jh ae];exact q2 j H,λj H=>by rw[Jh ae];exact q3 j H⟩;have f:i=Y ay.ah:=ae;subst f;exact(p _).2 (.inr ⟨y,w,x,rfl,⟨h0,ae,ae,ae,ae,ae,g,u,d,s,c⟩⟩)
end
