/- Part 9 of the proof; the last part says what is shown. -/
import Derived.Test.YtieaiocljdpebaaGreatDoorQ7
set_option linter.all false
open Bool renaming and_eq_true->axI
open List renaming getElem?_eq_getElem->axK,cons_append->axY,nil_append->ax2,mem_of_getElem?->ax4,length_eq_zero_iff->ayl
open Nat renaming le_trans->ayt,zero_le->ayK,lt_succ_self->azB,le_of_not_lt->azD,le_antisymm->azN,succ_le_succ->aAK
namespace Go.Proofs.YtieaiocljdpebaaGreatDoor.Y
open Go.RowKit
noncomputable section
section
def aaY:List Nat:=[0,1,1,0,0,0,1,0,0,0,1,0,1,0,1,0,1,0,0,0,1,0,1,0,1]
section
variable{R:aT->Prop}{u:List LK}{t:T}{O:aa}{L:List PC}
variable(W D A B C s:Int)(d f g l n:RV)
def akg{a b c:Bool}(h:(a&&b&&c)=true)(Z:(a=false\/b=false)\/c=false):False:=by cases a<;>cases b<;>cases c<;>simp_all
def akh{a b c:Bool}(Z:¬((a=false\/b=false)\/c=false)):(a&&b&&c)=true:=by cases a<;>cases b<;>cases c<;>simp_all
def Mj(V U X:RV)(Z:List (List RV))(p:Nat):Prop:=tZ V X (ci (aF Z) p 0).toNat (ci (aF Z) p 1).toNat=true/\tZ U X (ci (aF Z) p 0).toNat (ci (aF Z) p 1).toNat=true
set_option maxHeartbeats 8000000 in
def asi (h:fF d f g l n) (ae:Int) (wg Z mv X V re bx:RV) (y:EB d wg Z mv X V re bx) (K P:Prop) (x7 x8 x9 bt b0 b1 b2:Int) (b3 b4 b5 b6 b7:RV) (m U:List (List RV)) (L:List PC)
  (hn:d.rows.length<=64) (b8:Z.rows.length=d.rows.length) (ca:X.rows.length=d.rows.length) (cc:V.rows.length=d.rows.length)
  (cf:gp m) (c4:m.length<=200000*d.rows.length) (hm:m=[]<->P) (a4:ajH d.rows.length U)
  (F:K<->P/\(∀i<d.rows.length,eF X Z i 4=0)/\(∀i<d.rows.length,eF V Z i 4=0)/\Mb W D A B C s d f g l n wg ae bx (aF (oL X Z d.rows.length)) (aF U)/\∀p<U.length,Mj X V Z U p):
  T.wp TB.Ev (λo=>∃v e,o=aT.ret [.r (aF v),.i e]/\(¬e=0->v=[])/\((e=0/\v=[])<->K)) (lA.at aaY) ⟨[W,D,A,B,C,s,ae,x7,x8,x9,bt,b0,b1,b2],[],[d,f,g,l,n,wg,Z,mv,X,V,re,bx,b3,b4,b5,b6,b7,aF m,aF U],[]⟩ L:=by
 rw[show lA.at aaY=T.loop _ _ _ _ from rfl];have a5:d.rows.length<=140737488355328:=by omega
 have ED:lenOf X.val=(d.rows.length:Int):=by rw[y.bf.len,ca]
 have EC:lenOf V.val=(d.rows.length:Int):=by rw[y.af.len,cc]
 have xL:lenOf Z.val=(d.rows.length:Int):=by rw[y.bd.len,b8]
 have u:∀{e:Int},e≠0->¬K->∃v e',(aF []=aF v/\e=e')/\(¬e'=0->v=[])/\(e'=0/\v=[]<->K):=λ{e} he ch=>⟨[],e,⟨rfl,rfl⟩,λ_=>rfl,by simp[he,ch]⟩
 have s1:K->∀i<d.rows.length,eF X Z i 4=0:=λk=>(F.1 k).2.1
 have s2:K->∀i<d.rows.length,eF V Z i 4=0:=λk=>(F.1 k).2.2.1
 refine bM d.rows.length (λi G=>G=[.r (aF (oL X Z i))]/\∀k<i,eF X Z k 4=0) ⟨0,rfl,ayK _,rfl,by omega⟩ ?_;rintro i _ N ⟨rfl,a6⟩;simp[ED,xL];refine bj (λN=> ?_) (λav=> ?_);simp[bG N a5,N];have q1:=Cd X Z i;exact bj (λc=>⟨by omega,rfl,oK a6 c⟩) (λQ=>u Q λk=>Q (s1 k i N));have a0:i=d.rows.length:=azN N (azD av);subst a0;refine bM d.rows.length (λi G=>G=[.r (aF (oL V Z i))]/\∀k<i,eF V Z k 4=0) ⟨0,rfl,ayK _,rfl,by omega⟩ ?_;rintro i _ N ⟨rfl,a7⟩;simp[EC,xL];refine bj (λN=> ?_) (λav=> ?_);simp[bG N a5,N];have q1:=Cd V Z i;exact bj (λc=>⟨by omega,rfl,oK a7 c⟩) (λQ=>u Q λk=>Q (s2 k i N));have a0:i=d.rows.length:=azN N (azD av);subst a0;have cl:=Cd X Z d.rows.length;have cp:=Cd V Z d.rows.length;have c5:=a4.1;obtain⟨o,b,ag,cs,rfl,c6,c7,a8⟩:=arE W D A B C s d f g l n h wg ae bx (aF (oL X Z d.rows.length)) (aF U) y.wg y.bx (Sv (by omega)) (Sv (by omega));simp only[wk,axY,ax2] at b;rw[aS b];simp;have a9:K->cs=0/\ag=[]:=λk=>a8.2 (F.1 k).2.2.2.1
 refine bj (λct=> ?_) (λQ=>u Q λk=>Q (a9 k).1);refine bM ag.length (λj G=>∃M,G=[.r (aF M)]/\gp M/\M.length<=200000*d.rows.length+2*j/\(M=[]<->m=[]/\j=0)) ⟨0,rfl,ayK _,m,rfl,cf,by omega,by simp⟩ ?_;rintro j _ a ⟨M,rfl,a2,c8,bb⟩;simp;refine bj (λa=>⟨a, ?_⟩) (λcv=> ?_);refine bj (λc=> ?_) (λc=> ?_);rw[bG a (by omega)];exact⟨_,rfl,gp.ins rfl (gp.ins rfl a2),by refine ayt (pG _ _ _) ?_;refine ayt (aAK (pG _ _ _)) ?_;omega,xM (by omega)⟩;rw[bG a (by omega)];exact⟨_,rfl,gp.ins rfl a2,by refine ayt (pG _ _ _) ?_;omega,xM (by omega)⟩;have cx:j=ag.length:=azN a (azD cv);subst cx;refine bM U.length (λp G=>∃E,G=[.r (aF E)]/\gp E/\E.length<=200000*d.rows.length+2*ag.length+2*p/\(E=[]<->M=[]/\∀p'<p,Mj X V Z U p')) ⟨0,rfl,ayK _,M,rfl,a2,by omega,by simp⟩ ?_;rintro p _ J ⟨E,rfl,an,c9,a3⟩;simp[cl,cp];refine bj (λJ=>⟨J, ?_⟩) (λcy=> ?_);obtain⟨x,hx⟩:∃x,U[p]?=some x:=⟨_,axK J⟩;have dc:=a4.2 x (ax4 hx);have bk:bg (cellAt U (p:Int) 0).val=aP 0 x:=by simp[cellAt,aP,hx]
 have br:bg (cellAt U (p:Int) 1).val=aP 1 x:=by simp[cellAt,aP,hx]
 have z:Mj X V Z U p<->tZ X Z (aP 0 x).toNat (aP 1 x).toNat=true/\tZ V Z (aP 0 x).toNat (aP 1 x).toNat=true:=by
  rw[Mj,show ci (aF U) p 0=aP 0 x from bk,show ci (aF U) p 1=aP 1 x from br]
 have bs:K->Mj X V Z U p:=λk=>(F.1 k).2.2.2.2 p J
 generalize aP 0 x=z0 at*;generalize aP 1 x=z1 at*;have I:z0.toNat<d.rows.length:=by omega
 have H:z1.toNat<d.rows.length:=by omega
 simp only[bk,br,oM X Z I 0 (by omega),oM X Z I 1 (by omega),oM X Z I 2 (by omega),oM X Z I 3 (by omega),oM X Z H 0 (by omega),oM X Z H 1 (by omega),oM X Z H 2 (by omega),oM X Z H 3 (by omega),oM V Z I 0 (by omega),oM V Z I 1 (by omega),oM V Z I 2 (by omega),oM V Z I 3 (by omega),oM V Z H 0 (by omega),oM V Z H 1 (by omega),oM V Z H 2 (by omega),oM V Z H 3 (by omega)];simp only[tZ] at z;refine⟨by omega,by omega,bj (λQ=>u (by rw[if_neg (Cc Q)];omega) λk=> ?_) (λdd=>⟨by omega,by omega,bj (λQ=>u (by rw[if_neg (Cc Q)];omega) λk=> ?_) (λdf=> ?_)⟩)⟩;have:=(z.1 (bs k)).1;simp only[axI] at this;exact Cc Q this.1;have:=(z.1 (bs k)).2;simp only[axI] at this;exact Cc Q this.1;refine bj (λc1=> ?_) (λc1=>bj (λc2=> ?_) (λc2=> ?_));rw[bG J (by omega)];refine⟨_,rfl,gp.ins rfl (gp.ins rfl an),by refine ayt (pG _ _ _) ?_;refine ayt (aAK (pG _ _ _)) ?_;omega,xM λw=> ?_⟩;exact akg (z.1 (w.2 p (azB p))).1 c1;rw[bG J (by omega)];refine⟨_,rfl,gp.ins rfl (gp.ins rfl an),by refine ayt (pG _ _ _) ?_;refine ayt (aAK (pG _ _ _)) ?_;omega,xM λw=> ?_⟩;exact akg (z.1 (w.2 p (azB p))).2 c2;rw[bG J (by omega)];exact⟨_,rfl,an,by omega,SE a3 (z.2 ⟨akh c1,akh c2⟩)⟩;have cI:p=U.length:=azN J (azD cy);subst cI;have c0:∀i<d.rows.length,eF X Z i 4=0:=a6;have c3:∀i<d.rows.length,eF V Z i 4=0:=a7;refine arQ _ _ _ _ _ _ _ _ _ _ _ _ _ _ _ _ _ _ _ _ _ _ _ _ _ _ _ _ _ _ _ _ _ _ _ _ _ _ _ _ _ _ _ E an (by omega) ⟨_,_,rfl,λh=>absurd rfl h, ?_⟩;rw[arP];constructor;rintro⟨_,h2⟩;have g2:=a3.1 h2;have b:=bb.1 g2.1;exact F.2 ⟨hm.1 b.1,c0,c3,a8.1 ⟨ct,ayl.1 b.2⟩,g2.2⟩;intro k;have q:=F.1 k;have hv:=(a9 k).2;exact⟨rfl,a3.2 ⟨bb.2 ⟨hm.2 q.1,by rw[hv];rfl⟩,q.2.2.2.2⟩⟩
end
end
section
section
variable(W D A B C f:Int)(a c g l d:RV)
def ID(ae:Int)(Z U X R V Q:RV)(i:Nat):Prop:=cb U i 0=true->(∀k<(cm W D A B C f a c g l d i ae).length,SN W D A B C f a c g l d ae Z U X R V Q i k)/\xi (vF W D A B C f a c g l d ae X Z V i) 1=0/\(xr (vF W D A B C f a c g l d ae X Z V i) 0).rows=[]
def SU:List Nat:=[0,1,1,0,0,0,1,0,0,0,1,0,1,0,1,0,1,0,0,0,1,0,0,0,0,0,0,0,0,0,0,0,0,0,0,0,0,0,0,0,0,0,1,0,0]
def SX:List Nat:=[0,1,1,0,0,0,1,0,0,0,1,0,1,0,1,0,1,0,0,0,1,0,0,0,0,0,0,0,0,0,0,0,0,0,0,0,0,0,0,0,0,0,1,1]
def SY:List Nat:=[0,1,1,0,0,0,1,0,0,0,1,0,1,0,1,0,1,0,0,0,1,0,0,0,0,0,0,0,0,0,0,0,0,0,0,1,0,0,0,0,0,1,0,0]
def SZ:List Nat:=[0,1,1,0,0,0,1,0,0,0,1,0,1,0,1,0,1,0,0,0,1,0,0,0,0,0,0,0,0,0,0,0,0,0,0,1,0,0,0,0,0,1,1]
def SgQ(q:List Nat)(X:List RV):Prop:=(q=SU/\∃Z V,X=[Z,V])\/(q=SX/\∃Z,X=[Z])\/(q=SY/\∃Z,X=[Z])\/(q=SZ/\X=[])
set_option maxHeartbeats 16000000 in
def S2 (q:List Nat) (ms:List RV) (N:SgQ q ms) (R:aT->Prop) (J:Nat->List XV->Prop) (L:List PC) (b7:SO) (h:fF a c g l d) (hw:oJ W D f a c d) (ae:Int) (wg X U V Q Z P:RV) (z:EB a wg X U V Q Z P) (n i:Nat) (df:n=a.rows.length) (hi:i<n) (hn:n<=64) (dk:U.rows.length=n) (b8:Z.rows.length=n)
  (ca:cb U i 0=true->jo W D A B C f a c g l d i ae=0/\∃v,tW (cm W D A B C f a c g l d i ae) (cr 96 Z i) (cm W D A B C f a c g l d i ae).length v)
  (x7 x8 x9 cc cf ch:Int) (b0:Bool) (cl cp cs ct cv:RV) (y:List (List RV)) (bs:gp y) (dn:y.length<=200000*i+2)
  (p:∀e:Int,¬e=0->¬ID W D A B C f a c g l d ae X U V Q Z P i->R (.ret [.r (aF []),.i e]))
  (m:∀M,gp M->M.length<=200000*(i+1)->(M=[]<->y=[]/\ID W D A B C f a c g l d ae X U V Q Z P i)->J (i+1) [.r (aF M)]):
  T.wp TB.Ev R (lA.at q) ⟨[W,D,A,B,C,f,ae,x7,x8,x9,cc,cf,(i:Int),ch],[b0],[a,c,g,l,d,wg,X,U,V,Q,Z,P,cl,cp,cs,ct,cv]++ms++[aF y],[]⟩ (⟨4,vy n J,tV n,n-i⟩::L):=by
 obtain⟨rfl,m1,m2,rfl⟩|⟨rfl,m1,rfl⟩|⟨rfl,m1,rfl⟩|⟨rfl,rfl⟩:=N;rw[show lA.at SU=T.node _ _ _ from rfl]
 rotate_left
 rw[show lA.at SX=T.node _ _ _ from rfl]
 rotate_left
 rw[show lA.at SY=T.node _ _ _ from rfl]
 rotate_left
 rw[show lA.at SZ=T.node _ _ _ from rfl]
 rotate_left
 all_goals simp only[axY,ax2]
 all_goals
  have bt:n<=140737488355328:=by omega
  have b1:=z.eP i (by omega);have b2:=Ey W D A B C f a c g l d mR h i ae;simp only[wk,axY,ax2] at b2;have bi:lenOf (cd (.sl 96) (cellAt Z.rows (i:Int) 0)).val=((cr 96 Z i).rows.length:Int):=b1.1.len;have dr:lenOf Z.val=(n:Int):=by rw[z.Md.len,b8]
  have ds:=L9 W D A B C f a c g l d (aN:=i) (ae:=ae) (λ_=>hw);simp[aS b2];refine bj (λa3=> ?_) (λa3=> ?_);have x:cb U i 0=true:=a3;obtain⟨cx,sv,cy⟩:=ca x;refine bj (λ_=> ?_) (λG=>absurd cx G);refine bM (cm W D A B C f a c g l d i ae).length (λk ag=>∃O,ag=[.r (aF O)]/\gp O/\O.length<=200000*i+2+10*k/\(O=[]<->y=[]/\∀k'<k,SN W D A B C f a c g l d ae X U V Q Z P i k')) ⟨0,rfl,ayK _,_,rfl,bs,by omega,B9 Iff.rfl⟩ ?_;rintro k _ u ⟨O,rfl,a0,dx,an⟩;simp;refine bj (λu=> ?_) (λcI=> ?_);refine⟨u, ?_⟩;refine bM (cr 96 Z i).rows.length (λq ag=>ag=[]/\∀q'<q,ci (cr 96 Z i) q' 0≠aZ (cm W D A B C f a c g l d i ae) k 0) ⟨0,rfl,ayK _,rfl,by omega⟩ ?_;rintro q _ N ⟨rfl,a1⟩;simp[bi];refine bj (λN=> ?_) (λdy=> ?_);refine⟨N,bj (λa6=> ?_) (λa6=> ?_)⟩
  ·have hF:Fst (cr 96 Z i) (aZ (cm W D A B C f a c g l d i ae) k 0) q:=⟨N,a6,a1⟩;obtain⟨o,F,a7,a8,rfl,dz⟩:=t78 W D A B C f a c g l d mR h (aZ (cm W D A B C f a c g l d i ae) k 0) _ (tX (cellAt X.rows (i:Int) 0)) (ci X i 1) (ci X i 2) (ci X i 3) (ci X i 4) (ci X i 5) (ci X i 6) (ci X i 7) (ci X i 8) (ci X i 9) (ci X i 10) (ci X i 11) (ci X i 12) (ci X i 13) (ci X i 14) (ci X i 15) (ci X i 16);have t:Cb W D A B C f a c g l d X (aZ (cm W D A B C f a c g l d i ae) k 0) i=[.r (aF a7),.i a8]:=mQ F;simp only[wk,ci,aZ,axY,ax2] at F;rw[aS F];simp[bi];have a2:ID W D A B C f a c g l d ae X U V Q Z P i->a8=0:=λK=>by
    have:=((K x).1 k u q hF).1;rw[t] at this;exact this
   refine bj (λc0=> ?_) (λG=>p a8 G λK=>G (a2 K));refine⟨N, ?_⟩;rw[ajL (aF a7) (Sv (by omega))];simp[bi];obtain⟨c1,E⟩:∃b,ob 102 [.r (aF a7),.i (ci (cr 96 Z i) q 0),.i (ci (cr 96 Z i) q 1),.i (ci (cr 96 Z i) q 2),.b (cb (cr 96 Z i) q 3)] 0=b:=⟨_,rfl⟩;have gD:SN W D A B C f a c g l d ae X U V Q Z P i k<->(c1=true/\(aZ (cm W D A B C f a c g l d i ae) k 4=7\/aZ (cm W D A B C f a c g l d i ae) k 4=8->cb (cr 96 Z i) q 3=true\/SM W D A B C f a c g l d ae U V Q Z P (aZ (cm W D A B C f a c g l d i ae) k)=true)):=by
    refine⟨λH=>by have:=(H q hF).2;rw[t] at this;rw[<-E];exact this,λH q' b3=> ?_⟩;have c2:q'=q:=by
     rcases Nat.lt_trichotomy q' q with h1|h1|h1;exact absurd b3.2.1 (a1 q' h1);exact h1;exact absurd hF.2.1 (b3.2.2 q h1)
    subst c2;rw[t];exact⟨c0,by rw[<-E] at H;exact H⟩
   have a9:=j7 [.bool] (art W D A B C f a c g l d hw h ae U V Q Z P (aZ (cm W D A B C f a c g l d i ae) k) z.mv z.Md (by omega) (by omega) (λj hj=>(z.eP j hj).1));have b4:SM W D A B C f a c g l d ae U V Q Z P (aZ (cm W D A B C f a c g l d i ae) k)=xb (out 103 (wk W D A B C f a c g l d++[.i ae,.r U,.r V,.r Q,.r Z,.r P]++fu (aZ (cm W D A B C f a c g l d i ae) k))) 0:=rfl;generalize SM W D A B C f a c g l d ae U V Q Z P (aZ (cm W D A B C f a c g l d i ae) k)=dT at gD b4;simp only[qB,<-b4] at a9;simp only[wk,fu,aZ,axY,ax2] at a9;simp only[ci,cb,cr] at E;simp only[E];simp only[aZ,cb,cr] at gD;have c3:(cm W D A B C f a c g l d i ae).length<=140737488355328:=by omega
   have a4:∀{I:List RV},(eK 3 I O).length<=200000*i+2+10*(k+1):=λ{I}=>by have:=pG 3 I O;omega
   have av:∀{I bb:List RV},(eK 3 bb (eK 3 I O)).length<=200000*i+2+10*(k+1):=λ{I bb}=>by have:=pG 3 I O;have:=pG 3 bb (eK 3 I O);omega
   have c4:O.length<=200000*i+2+10*(k+1):=by omega
   refine bj (λc5=> ?_) (λc5=> ?_)
   all_goals
    refine bj (λh7=>⟨N,bj (λhd=> ?_) (λhd=> ?_)⟩) (λh7=>bj (λh8=>⟨N,bj (λhd=> ?_) (λhd=> ?_)⟩) (λh8=> ?_))
   all_goals
    try rw[aS a9]
    try simp
    try refine bj (λc6=> ?_) (λc6=> ?_)
   all_goals
    rw[bG u c3]
    first
     |exact⟨_,rfl,a0,c4,SE an (gD.2 (by clear an gD a4 av p m t E a2;grind))⟩
     |exact⟨_,rfl,gp.ins rfl a0,a4,xM (λw=>by have:=gD.1 (w.2 k (azB k));clear w an gD a4 av p m t E a2;grind)⟩
     |exact⟨_,rfl,gp.ins rfl (gp.ins rfl a0),av,xM (λw=>by have:=gD.1 (w.2 k (azB k));clear w an gD a4 av p m t E a2;grind)⟩
  have c7:(cr 96 Z i).rows.length<=140737488355328:=by omega
  rw[bG N c7];exact⟨rfl,oK a1 a6⟩;exfalso;obtain⟨k',w1,w2,w3⟩:=cy.2 k u;exact a1 k' (by omega) w3;have c8:k=(cm W D A B C f a c g l d i ae).length:=azN u (azD cI);subst c8;obtain⟨o,F,a5,bk,rfl,d0⟩:=b7 W D A B C f a c g l d h i ae (ci V i 0) (ci V i 1) (ci V i 2) (ci V i 3) (ci V i 4) (ci V i 5) (ci V i 6) (ci V i 7) (ci V i 8) (ci V i 9) (ci V i 10) (ci V i 11) (ci V i 12) X (cr 96 Z i) z.bd b1.1;have br:vF W D A B C f a c g l d ae V X Z i=[.r (aF a5),.i bk]:=mQ F;have b5:ID W D A B C f a c g l d ae X U V Q Z P i->bk=0/\a5=[]:=λK=>by
   have:=(K x).2;rw[br] at this;exact this
  simp only[wk,ci,cr,axY,ax2] at F;rw[aS F];simp;refine bj (λc9=> ?_) (λG=>p bk G λK=>G (b5 K).1);refine bM a5.length (λj ag=>∃s,ag=[.r (aF s)]/\gp s/\s.length<=200000*i+50000+j/\(s=[]<->O=[]/\j=0)) ⟨0,rfl,ayK _,O,rfl,a0,by omega,by simp⟩ ?_;rintro j _ hj ⟨s,rfl,b6,av,dc⟩;simp;refine bj (λhj=>⟨hj, ?_⟩) (λd1=> ?_);rw[bG hj (by omega)];exact⟨_,rfl,gp.ins rfl b6,by refine ayt (pG _ _ _) ?_;omega,xM (by omega)⟩;rw[bG hi bt];refine m s b6 (by omega) ?_;have dd:j=0<->a5=[]:=by rw[<-ayl];omega
  rw[dc,an,dd];exact⟨λw=>⟨w.1.1,λ_=>⟨w.1.2,by rw[br];exact c9,by rw[br];exact w.2⟩⟩,λw=>⟨⟨w.1,(w.2 x).1⟩,(b5 w.2).2⟩⟩;have x:¬cb U i 0=true:=a3;rw[bG hi bt];exact m y bs (by omega) ⟨λq=>⟨q,λw=>absurd w x⟩,λq=>q.1⟩
end
end
section
section
variable(W D A B C d:Int)(a b f g c:RV)
def RoA(ae:Int)(U Z X Q V R:RV)(i:Nat):Prop:=(∀j<13,ci Q i j=gS W D A B C d a b f g c ae Z X V i j)/\B5 (gB W D A B C d a b f g c ae Z X U V i 0) (gB W D A B C d a b f g c ae Z X U V i 1) (gB W D A B C d a b f g c ae Z X U V i 2) (gB W D A B C d a b f g c ae Z X U V i 3) (ci R i 0) (ci R i 1) (ci R i 2) (ci R i 3)=true
def RoI(ae:Int)(Z X V U R:RV)(i:Nat):Prop:=cK (gB W D A B C d a b f g c ae Z X V U i 0) (gB W D A B C d a b f g c ae Z X V U i 1) (gB W D A B C d a b f g c ae Z X V U i 2) (gB W D A B C d a b f g c ae Z X V U i 3)=true/\vB R i=true
def asl(ae:Int)(Z X V Q U R:RV)(i:Nat):EE W D A B C d a b f g c ae Z X V Q U R i<->RoA W D A B C d a b f g c ae Z X V Q U R i/\RoI W D A B C d a b f g c ae X V Z U R i/\ID W D A B C d a b f g c ae Z X V Q U R i:=⟨λh=>⟨⟨h.aft,h.ins⟩,h.SH,h.Iq⟩,λh=>⟨h.1.1,h.2.1,h.1.2,h.2.2⟩⟩
def S3{Q I S:Prop}{M Z:List (List RV)}{F:Nat->Prop}{i:Nat}(X:F i<->Q/\I/\S)(V:I)(h:M=[]<->Z=[]/\S)(U:Z=[]<->(∀k<i,F k)/\Q):M=[]<->∀k<i+1,F k:=by
 rw[h,U,arH,X];exact⟨λw=>⟨w.1.1,w.1.2,V,w.2⟩,λw=>⟨⟨w.1,w.2.1⟩,w.2.2.2⟩⟩
def aaZ:List Nat:=[0,1,1,0,0,0,1,0,0,0,1,0,1,0,1,0,1,0,0,0,1]
set_option maxHeartbeats 16000000 in
def asm (a3:SO) (h:fF a b f g c) (hw:oJ W D d a b c) (ae:Int) (z X V Z P U R:RV) (G:EB a z X V Z P U R) (K:Prop) (L:List PC)
  (hn:a.rows.length<=64) (a9:P.rows.length=a.rows.length) (bt:R.rows.length=a.rows.length) (bb:X.rows.length=a.rows.length) (an:V.rows.length=a.rows.length) (bk:Z.rows.length=a.rows.length) (av:U.rows.length=a.rows.length)
  (a4:∀i<a.rows.length,cb V i 0=true->jo W D A B C d a b f g c i ae=0/\∃v,tW (cm W D A B C d a b f g c i ae) (cr 96 U i) (cm W D A B C d a b f g c i ae).length v)
  (x7 x8 x9 b0 b1:Int) (b2 b3:RV) (vs vr vb:List (List RV)) (b4:vs.length=a.rows.length) (b5:vb.length=a.rows.length)
  (b6:∀i<a.rows.length,(∀j<13,bg (cellAt vs (i:Int) j).val=gS W D A B C d a b f g c ae V Z U i j)/\∀j<4,bg (cellAt vb (i:Int) j).val=gB W D A B C d a b f g c ae V Z X U i j)
  (hK:K<->(∀i<a.rows.length,EE W D A B C d a b f g c ae X V Z P U R i)/\xi (nN W D A B C d a b f g c ae) 1=0/\(∀i<a.rows.length,eF Z X i 4=0)/\(∀i<a.rows.length,eF P X i 4=0)/\Mb W D A B C d a b f g c z ae R (aF (oL Z X a.rows.length)) (xr (nN W D A B C d a b f g c ae) 0)/\∀p<(xr (nN W D A B C d a b f g c ae) 0).rows.length,tZ Z X (ci (xr (nN W D A B C d a b f g c ae) 0) p 0).toNat (ci (xr (nN W D A B C d a b f g c ae) 0) p 1).toNat=true/\tZ P X (ci (xr (nN W D A B C d a b f g c ae) 0) p 0).toNat (ci (xr (nN W D A B C d a b f g c ae) 0) p 1).toNat=true):
  T.wp TB.Ev (λo=>∃v e,o=aT.ret [.r (aF v),.i e]/\(¬e=0->v=[])/\((e=0/\v=[])<->K)) (lA.at aaZ) ⟨[W,D,A,B,C,d,ae,x7,x8,x9,b0,b1],[],[a,b,f,g,c,z,X,V,Z,P,U,R,b2,b3,aF vs,aF vr,aF vb],[]⟩ L:=by
 rw[show lA.at aaZ=(T.loop _ _ _ (T.node _ (T.az _ (T.az _ (T.az _ (T.az _ (T.az _ (T.az _ (T.az _ (T.az _ (T.az _ (T.az _ (T.az _ (T.az _ (T.node _ (T.rows _ _ _ (T.az _ (T.az _ (T.az _ (T.az _ (T.call _ _ _ _ _ _ (T.node _ _ (T.node _ (T.rows _ _ _ (lA.at SU)) (lA.at SX))))))))) (T.az _ (T.az _ (T.az _ (T.az _ (T.call _ _ _ _ _ _ (T.node _ _ (T.node _ (T.rows _ _ _ (lA.at SY)) (lA.at SZ))))))))))))))))))))) (T.call _ _ _ _ _ _ (T.node _ _ (lA.at aaY))))) from rfl];have c2:a.rows.length<=140737488355328:=by omega
 have EC:lenOf P.val=(a.rows.length:Int):=by rw[G.af.len,a9]
 have Me:lenOf R.val=(a.rows.length:Int):=by rw[G.bx.len,bt]
 have xL:lenOf X.val=(a.rows.length:Int):=by rw[G.bd.len,bb]
 have Mf:lenOf V.val=(a.rows.length:Int):=by rw[G.mv.len,an]
 have ED:lenOf Z.val=(a.rows.length:Int):=by rw[G.bf.len,bk]
 have Iw:lenOf U.val=(a.rows.length:Int):=by rw[G.Md.len,av]
 have a6:∀{e:Int},e≠0->¬K->∃v F,(aF []=aF v/\e=F)/\(¬F=0->v=[])/\(F=0/\v=[]<->K):=λ{e} I ag=>⟨[],e,⟨rfl,rfl⟩,λ_=>rfl,by simp[I,ag]⟩
 have b7:∀{e:Int},¬e=0->¬K->∃v F,aT.ret [.r (aF []),.i e]=aT.ret [.r (aF v),.i F]/\(¬F=0->v=[])/\(F=0/\v=[]<->K):=λ{e} I ag=>⟨[],e,rfl,λ_=>rfl,by simp[I,ag]⟩
 have b8:K->∀i<a.rows.length,EE W D A B C d a b f g c ae X V Z P U R i:=λk=>(hK.1 k).1
 refine bM a.rows.length (λi ca=>∃m,ca=[.r (aF m)]/\gp m/\m.length<=200000*i/\(m=[]<->∀k<i,EE W D A B C d a b f g c ae X V Z P U R k)) ⟨0,rfl,ayK _,[],rfl,gp.nil,by simp,by simp⟩ ?_;rintro i _ N ⟨m,rfl,a0,cc,hm⟩;simp[EC,Me,xL,Mf,ED,Iw,b4,b5];refine bj (λN=> ?_) (λcf=> ?_);obtain⟨H,q3⟩:=b6 i N;have s:=asl W D A B C d a b f g c ae X V Z P U R i;simp only[H 0 (by omega),H 1 (by omega),H 2 (by omega),H 3 (by omega),H 4 (by omega),H 5 (by omega),H 6 (by omega),H 7 (by omega),H 8 (by omega),H 9 (by omega),H 10 (by omega),H 11 (by omega),H 12 (by omega),q3 0 (by omega),q3 1 (by omega),q3 2 (by omega),q3 3 (by omega)];have y:RoA W D A B C d a b f g c ae X V Z P U R i<->(∀j<13,ci P i j=gS W D A B C d a b f g c ae V Z U i j)/\B5 (gB W D A B C d a b f g c ae V Z X U i 0) (gB W D A B C d a b f g c ae V Z X U i 1) (gB W D A B C d a b f g c ae V Z X U i 2) (gB W D A B C d a b f g c ae V Z X U i 3) (ci R i 0) (ci R i 1) (ci R i 2) (ci R i 3)=true:=Iff.rfl;have x:RoI W D A B C d a b f g c ae V Z X U R i<->cK (gB W D A B C d a b f g c ae V Z X U i 0) (gB W D A B C d a b f g c ae V Z X U i 1) (gB W D A B C d a b f g c ae V Z X U i 2) (gB W D A B C d a b f g c ae V Z X U i 3)=true/\vB R i=true:=Iff.rfl;generalize gB W D A B C d a b f g c ae V Z X U i 0=g0 at y x;generalize gB W D A B C d a b f g c ae V Z X U i 1=g1 at y x;generalize gB W D A B C d a b f g c ae V Z X U i 2=g2 at y x;generalize gB W D A B C d a b f g c ae V Z X U i 3=g3 at y x;have a7:K->EE W D A B C d a b f g c ae X V Z P U R i:=λk=>b8 k i N
 have a5:∀{e:Int},¬e=0->¬ID W D A B C d a b f g c ae X V Z P U R i->∃v F,aT.ret [.r (aF []),.i e]=aT.ret [.r (aF v),.i F]/\(¬F=0->v=[])/\(F=0/\v=[]<->K):=λI E=>b7 I λk=>E (s.1 (a7 k)).2.2
 have co:∀{u:List RV},(eK 3 u m).length<=200000*i+2:=λ{u}=>by have:=pG 3 u m;omega
 have ch:∀{u a8:List RV},(eK 3 a8 (eK 3 u m)).length<=200000*i+2:=λ{u a8}=>by have:=pG 3 u m;have:=pG 3 a8 (eK 3 u m);omega
 refine⟨N,bj (λO=>⟨N, ?_⟩) (λO=>⟨N, ?_⟩)⟩;have ag:¬∀j<13,ci P i j=gS W D A B C d a b f g c ae V Z U i j:=λJ=>by
  simp only[ci] at J;have e0:=J 0 (by omega);have e1:=J 1 (by omega);have e2:=J 2 (by omega);have e3:=J 3 (by omega);have e4:=J 4 (by omega);have e5:=J 5 (by omega);have e6:=J 6 (by omega);have e7:=J 7 (by omega);have e8:=J 8 (by omega);have e9:=J 9 (by omega);have cl:=J 10 (by omega);have cp:=J 11 (by omega);have cs:=J 12 (by omega);rcases O with Q|Q|Q|Q|Q|Q|Q|Q|Q|Q|Q|Q|Q;exact Q e0;exact Q e1;exact Q e2;exact Q e3;exact Q e4;exact Q e5;exact Q e6;exact Q e7;exact Q e8;exact Q e9;exact Q cl;exact Q cp;exact Q cs
 refine bj (λt=>a6 (by rw[if_neg (Cc t)];omega) λk=>Cc t (x.1 (s.1 (a7 k)).2.1)) (λa1=> ?_);have a2:=x.2 (aj0 a1);refine bj (λhB=> ?_) (λhB=> ?_);refine S2 W D A B C d a b f g c SU [_,_] (.inl ⟨rfl,_,_,rfl⟩) _ _ L a3 h hw ae z X V Z P U R G a.rows.length i rfl N hn an av (a4 i N) _ _ _ _ _ _ _ _ _ _ _ _ _ ?_ ?_ (λe I E=>a5 I E) (λM q n l=>⟨M,rfl,q,n,S3 s a2 l ?_⟩);exact gp.ins rfl (gp.ins rfl a0);exact ch;exact xM λw=>ag (y.1 w.2).1
 refine S2 W D A B C d a b f g c SX [_] (.inr (.inl ⟨rfl,_,rfl⟩)) _ _ L a3 h hw ae z X V Z P U R G a.rows.length i rfl N hn an av (a4 i N) _ _ _ _ _ _ _ _ _ _ _ _ _ ?_ ?_ (λe I E=>a5 I E) (λM q n l=>⟨M,rfl,q,n,S3 s a2 l ?_⟩);exact gp.ins rfl a0;exact co;exact xM λw=>ag (y.1 w.2).1
 have ct:∀j<13,ci P i j=gS W D A B C d a b f g c ae V Z U i j:=by
  simp only[not_or,Classical.not_not] at O;exact arK O.1 O.2.1 O.2.2.1 O.2.2.2.1 O.2.2.2.2.1 O.2.2.2.2.2.1 O.2.2.2.2.2.2.1 O.2.2.2.2.2.2.2.1 O.2.2.2.2.2.2.2.2.1 O.2.2.2.2.2.2.2.2.2.1 O.2.2.2.2.2.2.2.2.2.2.1 O.2.2.2.2.2.2.2.2.2.2.2.1 O.2.2.2.2.2.2.2.2.2.2.2.2
 refine bj (λt=>a6 (by rw[if_neg (Cc t)];omega) λk=>Cc t (x.1 (s.1 (a7 k)).2.1)) (λa1=> ?_);have a2:=x.2 (aj0 a1);refine bj (λhB=> ?_) (λhB=> ?_);have cv:¬B5 g0 g1 g2 g3 (ci R i 0) (ci R i 1) (ci R i 2) (ci R i 3)=true:=arI a1 hB;refine S2 W D A B C d a b f g c SY [_] (.inr (.inr (.inl ⟨rfl,_,rfl⟩))) _ _ L a3 h hw ae z X V Z P U R G a.rows.length i rfl N hn an av (a4 i N) _ _ _ _ _ _ _ _ _ _ _ _ _ ?_ ?_ (λe I E=>a5 I E) (λM q n l=>⟨M,rfl,q,n,S3 s a2 l ?_⟩);exact gp.ins rfl a0;exact co;exact xM λw=>cv (y.1 w.2).2
 refine S2 W D A B C d a b f g c SZ [] (.inr (.inr (.inr ⟨rfl,rfl⟩))) _ _ L a3 h hw ae z X V Z P U R G a.rows.length i rfl N hn an av (a4 i N) _ _ _ _ _ _ _ _ _ _ _ _ _ ?_ ?_ (λe I E=>a5 I E) (λM q n l=>⟨M,rfl,q,n,S3 s a2 l ?_⟩);exact a0;omega;exact⟨λw=>⟨hm.1 w,y.2 ⟨ct,arJ a1 hB⟩⟩,λw=>hm.2 w.1⟩;have cx:i=a.rows.length:=azN N (azD cf);subst cx;obtain⟨o,g1,br,bs,rfl,c3,cy,c4⟩:=t23 W D A B C d a b f g c mR h ae;have cI:nN W D A B C d a b f g c ae=[.r (aF br),.i bs]:=mQ g1;rw[cI] at hK;have c0:K->bs=0:=λk=>(hK.1 k).2.1
 simp only[wk,axY,ax2] at g1;rw[aS g1];simp;refine bj (λc1=> ?_) (λt=>a6 t λk=>t (c0 k));refine asi W D A B C d a b f g c h ae z X V Z P U R G K (∀k<a.rows.length,EE W D A B C d a b f g c ae X V Z P U R k) _ _ _ _ _ _ _ _ _ _ _ _ m br _ hn bb bk a9 a0 cc hm cy ?_;refine hK.trans ⟨λw=>⟨w.1,w.2.2⟩,λw=>⟨w.1,c1,w.2⟩⟩
end
end
section
section
variable(W D A B C g:Int)(a b c d f:RV)
set_option maxHeartbeats 16000000 in
def t16 (b3:SO) (h:fF a b c d f) (ae:Int) (L U O Z J R I:RV) (P:EB a L U O Z J R I):∃o,TB.Ev 16 (wk W D A B C g a b c d f++[.r L,.r U,.i ae,.r O,.r Z,.r J,.r R,.r I]) o/\∃v e,o=.ret [.r (aF v),.i e]/\(e≠0->v=[])/\((e=0/\v=[])<->zT W D A B C g a b c d f ae L U O Z J R I):=by
 generalize hK:zT W D A B C g a b c d f ae L U O Z J R I=K;refine dw rfl rfl (.inr λv hv=>by obtain⟨_,_,h,_⟩:=hv;cases h) ?_;obtain⟨h1,h2⟩:=rZ W D A B C g a b c d f mR h;simp only[wk] at h1;have Q:∀{e:Int},e≠0->¬zT W D A B C g a b c d f ae L U O Z J R I->∃v n,(aF []=aF v/\e=n)/\(¬n=0->v=[])/\(n=0/\v=[]<->K):=λ{e} he b4=>⟨[],e,⟨rfl,rfl⟩,λ_=>rfl,by rw[<-hK];simp[he,b4]⟩
 rw[show lA=(T.call _ _ _ _ _ _ (T.node _ _ (T.node _ _ (T.node _ (T.node _ (T.node _ (T.node _ _ (T.node _ (T.node _ (T.node _ (T.node _ _ (T.loop _ _ _ (T.node _ _ (T.loop _ _ _ (T.node _ _ (T.loop _ _ _ (T.node _ _ (T.call _ _ _ _ _ _ (T.call _ _ _ _ _ _ (T.loop _ _ _ (T.node _ _ (lA.at aaZ)))))))))))) _) _) _)) _) _) _)))) from rfl];simp[wk,aS h1];simp only[h.rl.len,P.wg.len,P.bd.len,P.mv.len,P.bf.len,P.af.len,P.Md.len,P.bx.len];refine bj (λh0=> ?_) (λav=>Q av λK=>av K.ex.wk);have hw:=h2 h0;have hn:=hw.nr;refine bj (λh8=>Q (by omega) λK=>by have:=K.ex.nw;omega) (λh8=> ?_);refine bj (λcc=> ?_) (λV=>Q (by omega) λK=>by have:=K.ex.br;omega);refine bj (λcf=> ?_) (λV=>Q (by omega) λK=>by have:=K.ex.br;omega);refine bj (λEC=> ?_) (λV=>Q (by omega) λK=>by have:=K.ex.EC;omega);refine bj (λMe=> ?_) (λV=>Q (by omega) λK=>by have:=K.ex.Me;omega);refine bj (λxL=> ?_) (λV=>Q (by omega) λK=>by have:=K.ex.xL;omega);refine bj (λMf=> ?_) (λV=>Q (by omega) λK=>by have:=K.ex.Mf;omega);refine bj (λED=> ?_) (λV=>Q (by omega) λK=>by have:=K.ex.ED;omega);refine bj (λIw=> ?_) (λV=>Q (by omega) λK=>by have:=K.ex.Iw;omega);have b5:lenOf J.val=(a.rows.length:Int):=by rw[P.af.len];exact EC
 have b6:lenOf I.val=(a.rows.length:Int):=by rw[P.bx.len];exact Me
 have a0:lenOf U.val=(a.rows.length:Int):=by rw[P.bd.len];exact xL
 have a6:lenOf O.val=(a.rows.length:Int):=by rw[P.mv.len];exact Mf
 have a7:lenOf Z.val=(a.rows.length:Int):=by rw[P.bf.len];exact ED
 have a8:lenOf R.val=(a.rows.length:Int):=by rw[P.Md.len];exact Iw
 have u:a.rows.length<=140737488355328:=by omega
 have H:∀i<a.rows.length,Sl (cr 96 R i)/\(cr 96 R i).rows.length<=100:=λi X=>P.eP i (by omega)
 refine bM a.rows.length (λi G=>G=[]/\∀k<i,tY U k=0/\SL Z k=0/\(if cb O k 0 then m85 W D A B C g a b c d f ae R k=0 else(cr 96 R k).rows=[])) ⟨0,rfl,by omega,rfl,by omega⟩ ?_;rintro i _ X ⟨rfl,t⟩;simp[a0,a6,a7,a8];refine bj (λX=> ?_) (λm=> ?_);have a9:=(Ew (t85 W D A B C g a b c d f mR h i ae (cr 96 R i) (H i X).1)).1;simp only[wk,cr,axY,ax2] at a9;have bb:=(H i X).1.len;simp only[cr] at bb;simp[bG X u,X,aS a9,bb];refine bj (λy=> ?_) (λV=>Q (by omega) λK=>V (K.ex.eB i X).1);refine bj (λs=> ?_) (λV=>Q (by omega) λK=>V (K.ex.eB i X).2.1);refine bj (λF=> ?_) (λF=> ?_);have M:cb O i 0=true:=F;refine bj (λE=> ?_) (λV=>Q (by omega) λK=>V (by have:=(K.ex.eB i X).2.2;rw[if_pos M] at this;exact this));exact oK t ⟨y,s,by rw[if_pos M];exact E⟩;have M:¬cb O i 0=true:=F;refine bj (λE=> ?_) (λV=>Q (by omega) λK=>V (by have:=(K.ex.eB i X).2.2;rw[if_neg M] at this;exact this));exact oK t ⟨y,s,by rw[if_neg M];exact E⟩;have z:i=a.rows.length:=by omega
 subst z;refine bM a.rows.length (λi G=>G=[]/\∀k<i,vB I k=true/\SL J k=0) ⟨0,rfl,by omega,rfl,by omega⟩ ?_;rintro i _ X ⟨rfl,bk⟩;simp[h.rl.len,b5,b6];refine bj (λX=> ?_) (λm=> ?_);simp[bG X u,X];refine bj (λy=>bj (λs=>oK bk ⟨y,s⟩) (λV=>Q (by omega) λK=>V (K.ex.box i X).2)) (λV=>Q (by omega) λK=>V (K.ex.box i X).1);have z:i=a.rows.length:=by omega
 subst z;refine bM L.rows.length (λi G=>G=[]/\∀k<i,iX (ci L k) ae 4=0) ⟨0,rfl,by omega,rfl,by omega⟩ ?_;rintro i _ X ⟨rfl,bs⟩;simp[P.wg.len];refine bj (λX=> ?_) (λm=> ?_);have bt:=f25 (ci L i) ae;simp only[Is,ci,axY,ax2] at bt;simp[bG X P.wg.sm,X,aS bt];exact bj (λy=>oK bs y) (λV=>Q V λK=>V (K.ex.pth i X));have z:i=L.rows.length:=by omega
 subst z;rw[aS (e86 O P.mv (by omega))];simp;rw[aS (e87 Z P.bf (by omega))];simp;have b7:ajX W D A B C g a b c d f ae L U O Z J R I:=⟨h0,by omega,by omega,by omega,by omega,by omega,by omega,by omega,by omega,t,bk,bs⟩;refine bM a.rows.length (λi G=>∃x q w,G=[.r (aF x),.r (aF q),.r (aF w)]/\x.length=i/\q.length=i/\w.length=i/\∀k<i,zS W D A B C g a b c d f ae O Z U R k/\(∀j<13,bg (cellAt x (k:Int) j).val=gS W D A B C g a b c d f ae O Z R k j)/\∀j<4,bg (cellAt w (k:Int) j).val=gB W D A B C g a b c d f ae O Z U R k j) ⟨0,rfl,by omega,[],[],[],rfl,rfl,rfl,rfl,by omega⟩ ?_;rintro i _ X ⟨x,q,w,rfl,l,ch,ag,p⟩;simp[a0,a6,a7,a8];refine bj (λX=> ?_) (λm=> ?_);have b0:=e88 (cr 96 R i) (H i X).1 (by have:=(H i X).2;omega);simp only[cr] at b0;simp[bG X u,X,aS b0];refine⟨by omega,bj (λF=> ?_) (λF=> ?_)⟩;have M:cb O i 0=true:=F;have b1:=j7 _ (t89 W D A B C g a b c d f mR SB h i ae (ci Z i 0) (ci Z i 1) (ci Z i 2) (ci Z i 3) (ci Z i 4) (ci Z i 5) (ci Z i 6) (ci Z i 7) (ci Z i 8) (ci Z i 9) (ci Z i 10) (ci Z i 11) (ci Z i 12) (cr 96 R i) (H i X).1);simp only[wk,ci,cr,axY,ax2,Ir,Sz,qB] at b1;rw[aS b1];simp;refine bj (λE=> ?_) (λV=>Q V λK=>V (by have:=K.Ix i X;rw[zS,if_pos M] at this;exact this.1));have b2:=j7 _ (t90 W D A B C g a b c d f mR h i ae (ci Z i 0) (ci Z i 1) (ci Z i 2) (ci Z i 3) (ci Z i 4) (ci Z i 5) (ci Z i 6) (ci Z i 7) (ci Z i 8) (ci Z i 9) (ci Z i 10) (ci Z i 11) (ci Z i 12) _ (tX (cellAt U.rows (i:Int) 0)) (ci U i 1) (ci U i 2) (ci U i 3) (ci U i 4) (ci U i 5) (ci U i 6) (ci U i 7) (ci U i 8) (ci U i 9) (ci U i 10) (ci U i 11) (ci U i 12) (ci U i 13) (ci U i 14) (ci U i 15) (ci U i 16) (cr 96 R i) (H i X).1);simp only[wk,ci,cr,axY,ax2,Ir,Sz,qB] at b2;rw[aS b2];simp[bG X u];refine bj (λa5=> ?_) (λV=>Q V λK=>V (by have:=K.Ix i X;rw[zS,if_pos M] at this;exact this.2));refine⟨by omega,by omega,_,_,_,⟨rfl,rfl,rfl⟩,by simp;omega,by simp;omega,by simp;omega,λk hk=> ?_⟩;by_cases an:k=i;subst an;refine⟨by rw[zS,if_pos M];exact⟨E,a5⟩,λj N=> ?_,λj N=> ?_⟩;rw[Iy l,gS,if_pos M]
 match j,N with
 |0,_|1,_|2,_|3,_|4,_|5,_|6,_|7,_|8,_|9,_|10,_|11,_|12,_=>rfl
 rw[Iy ag,gB,if_pos M]
 match j,N with
 |0,_|1,_|2,_|3,_=>rfl
 obtain⟨q1,q2,q3⟩:=p k (by omega);exact⟨q1,λj N=>by rw[SP (by omega)];exact q2 j N,λj N=>by rw[SP (by omega)];exact q3 j N⟩;have M:¬cb O i 0=true:=F;refine bj (λE=> ?_) (λV=>Q V λK=>V (by have:=K.Ix i X;rw[zS,if_neg M] at this;exact this));refine⟨by omega,by omega,_,_,_,⟨rfl,rfl,rfl⟩,by simp;omega,by simp;omega,by simp;omega,λk hk=> ?_⟩;by_cases an:k=i;subst an;refine⟨by rw[zS,if_neg M];exact E,λj N=> ?_,λj N=> ?_⟩;rw[Iy l,gS,if_neg M]
 match j,N with
 |0,_|1,_|2,_|3,_|4,_|5,_|6,_|7,_|8,_|9,_|10,_|11,_|12,_=>rfl
 rw[Iy ag,gB,if_neg M]
 match j,N with
 |0,_|1,_|2,_|3,_=>rfl
 obtain⟨q1,q2,q3⟩:=p k (by omega);exact⟨q1,λj N=>by rw[SP (by omega)];exact q2 j N,λj N=>by rw[SP (by omega)];exact q3 j N⟩;have z:i=a.rows.length:=by omega
 subst z;have b8:K<->zT W D A B C g a b c d f ae L U O Z J R I:=by rw[hK]
 refine asm W D A B C g a b c d f b3 h hw ae L U O Z J R I P K _ hn.2 (by omega) (by omega) (by omega) (by omega) (by omega) (by omega) (λi X ca=> ?_) _ _ _ _ _ _ _ x q w l ag (λk hk=>(p k hk).2) (b8.trans ⟨λk=>⟨k.ro,k.B8,k.st1,k.st2,k.cl,k.eO⟩,λk=>⟨b7,λj N=>(p j N).1,k.1,k.2.1,k.2.2.1,k.2.2.2.1,k.2.2.2.2.1,k.2.2.2.2.2⟩⟩);have:=(t i X).2.2;rw[if_pos ca] at this;exact(Ew (t85 W D A B C g a b c d f mR h i ae (cr 96 R i) (H i X).1)).2 this
end
end
end
end Go.Proofs.YtieaiocljdpebaaGreatDoor.Y
