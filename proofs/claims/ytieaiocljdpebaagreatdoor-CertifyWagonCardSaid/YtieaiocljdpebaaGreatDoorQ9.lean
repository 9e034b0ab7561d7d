/- Part 9 of the proof; the last part says what is shown. -/
import Derived.Test.YtieaiocljdpebaaGreatDoorQ7
set_option linter.defProp false
set_option linter.unusedVariables false
set_option linter.unusedSimpArgs false
set_option linter.unnecessarySimpa false
open Bool renaming and_eq_true→awF
open List renaming getElem?_eq_getElem→awH,cons_append→awV,nil_append→awX,mem_of_getElem?→aw1,length_eq_zero_iff→axp
open Nat renaming le_trans→axn,zero_le→axN,lt_succ_self→ayx,le_of_not_lt→ayz,le_antisymm→ayN,succ_le_succ→azK
namespace Go.Proofs.YtieaiocljdpebaaGreatDoor.Y
open Go.RowKit
noncomputable section
section
def aab:List Nat:=[0,1,1,0,0,0,1,0,0,0,1,0,1,0,1,0,1,0,0,0,1,0,1,0,1]
section
variable{R:aV->Prop}{ks:List LK}{t:T}{ρ:aa}{L:List PC}
variable(W D A B C J:Int)(u H ps sp I:RV)
def ajE{a b c:Bool}(h:(a&&b&&c)=true)(Z:(a=false\/b=false)\/c=false):False:=by cases a<;>cases b<;>cases c<;>simp_all
def ajF{a b c:Bool}(Z:¬((a=false\/b=false)\/c=false)):(a&&b&&c)=true:=by cases a<;>cases b<;>cases c<;>simp_all
def LL(V U X:RV)(Z:List (List RV))(p:Nat):Prop:=zv V X (ci (aH Z) p 0).toNat (ci (aH Z) p 1).toNat=true/\zv U X (ci (aH Z) p 0).toNat (ci (aH Z) p 1).toNat=true
set_option maxHeartbeats 8000000 in
def arm (h:iL u H ps sp I) (ae:Int) (f Z mv X V re bx:RV) (y:H4 u f Z mv X V re bx) (K P:Prop) (x7 x8 x9 br bs bt b0:Int) (b1 b2 b3 b4 b5:RV) (m U:List (List RV)) (L:List PC)
  (hn:u.rows.length<=64) (b6:Z.rows.length=u.rows.length) (b7:X.rows.length=u.rows.length) (b8:V.rows.length=u.rows.length)
  (ca:gg m) (c0:m.length<=200000*u.rows.length) (hm:m=[]<->P) (a2:ai7 u.rows.length U)
  (F:K<->P/\(∀i<u.rows.length,eQ X Z i 4=0)/\(∀i<u.rows.length,eQ V Z i 4=0)/\BD W D A B C J u H ps sp I f ae bx (aH (rA X Z u.rows.length)) (aH U)/\∀p<U.length,LL X V Z U p):
  T.wp TB.Ev (λo=>∃v e,o=aV.ret [.r (aH v),.i e]/\(¬e=0->v=[])/\((e=0/\v=[])<->K)) (lw.at aab) ⟨[W,D,A,B,C,J,ae,x7,x8,x9,br,bs,bt,b0],[],[u,H,ps,sp,I,f,Z,mv,X,V,re,bx,b1,b2,b3,b4,b5,aH m,aH U],[]⟩ L:=by
 rw[show lw.at aab=T.loop _ _ _ _ from rfl];have a3:u.rows.length<=140737488355328:=by omega
 have BK:lenOf X.val=(u.rows.length:Int):=by rw[y.bf.len,b7]
 have BH:lenOf V.val=(u.rows.length:Int):=by rw[y.af.len,b8]
 have BJ:lenOf Z.val=(u.rows.length:Int):=by rw[y.bd.len,b6]
 have s:∀{e:Int},e≠0->¬K->∃v b,(aH []=aH v/\e=b)/\(¬b=0->v=[])/\(b=0/\v=[]<->K):=λ{e} he cc=>⟨[],e,⟨rfl,rfl⟩,λ_=>rfl,by simp[he,cc]⟩
 have s1:K->∀i<u.rows.length,eQ X Z i 4=0:=λk=>(F.1 k).2.1
 have s2:K->∀i<u.rows.length,eQ V Z i 4=0:=λk=>(F.1 k).2.2.1
 refine cd u.rows.length (λi rest=>rest=[.r (aH (rA X Z i))]/\∀k<i,eQ X Z k 4=0) ⟨0,rfl,axN _,rfl,by omega⟩ ?_;rintro i _ hi ⟨rfl,a4⟩;simp[BK,BH,BJ];refine bB (λhi=> ?_) (λa=> ?_);simp[bF hi a3,hi];have q1:=BM X Z i;exact bB (λn=>⟨by omega,rfl,tB a4 n⟩) (λQ=>s Q λk=>Q (s1 k i hi));have ag:i=u.rows.length:=ayN hi (ayz a);subst ag;refine cd u.rows.length (λi rest=>rest=[.r (aH (rA V Z i))]/\∀k<i,eQ V Z k 4=0) ⟨0,rfl,axN _,rfl,by omega⟩ ?_;rintro i _ hi ⟨rfl,a5⟩;simp[BK,BH,BJ];refine bB (λhi=> ?_) (λa=> ?_);simp[bF hi a3,hi];have q1:=BM V Z i;exact bB (λn=>⟨by omega,rfl,tB a5 n⟩) (λQ=>s Q λk=>Q (s2 k i hi));have ag:i=u.rows.length:=ayN hi (ayz a);subst ag;have cf:=BM X Z u.rows.length;have ch:=BM V Z u.rows.length;have c3:=a2.1;obtain⟨o,l,d,cl,rfl,c4,c5,a6⟩:=aqD W D A B C J u H ps sp I h f ae bx (aH (rA X Z u.rows.length)) (aH U) y.wg y.bx (ZY (by omega)) (ZY (by omega));simp only[wk,awV,awX] at l;rw[bo l];simp;have a7:K->cl=0/\d=[]:=λk=>a6.2 (F.1 k).2.2.2.1
 refine bB (λcp=> ?_) (λQ=>s Q λk=>Q (a7 k).1);refine cd d.length (λj rest=>∃M,rest=[.r (aH M)]/\gg M/\M.length<=200000*u.rows.length+2*j/\(M=[]<->m=[]/\j=0)) ⟨0,rfl,axN _,m,rfl,ca,by omega,by simp⟩ ?_;rintro j _ g ⟨M,rfl,an,c6,a8⟩;simp;refine bB (λg=>⟨g, ?_⟩) (λcs=> ?_);refine bB (λn=> ?_) (λn=> ?_);rw[bF g (by omega)];exact⟨_,rfl,gg.ins rfl (gg.ins rfl an),by refine axn (oS _ _ _) ?_;refine axn (azK (oS _ _ _)) ?_;omega,xj (by omega)⟩;rw[bF g (by omega)];exact⟨_,rfl,gg.ins rfl an,by refine axn (oS _ _ _) ?_;omega,xj (by omega)⟩;have ct:j=d.length:=ayN g (ayz cs);subst ct;refine cd U.length (λp rest=>∃E,rest=[.r (aH E)]/\gg E/\E.length<=200000*u.rows.length+2*d.length+2*p/\(E=[]<->M=[]/\∀p'<p,LL X V Z U p')) ⟨0,rfl,axN _,M,rfl,an,by omega,by simp⟩ ?_;rintro p _ O ⟨E,rfl,c,c7,a0⟩;simp[cf,ch];refine bB (λO=>⟨O, ?_⟩) (λcv=> ?_);obtain⟨x,hx⟩:∃x,U[p]?=some x:=⟨_,awH O⟩;have c8:=a2.2 x (aw1 hx);have a9:ba (cellAt U (p:Int) 0).val=aK 0 x:=by simp[cellAt,aK,hx]
 have bb:ba (cellAt U (p:Int) 1).val=aK 1 x:=by simp[cellAt,aK,hx]
 have z:LL X V Z U p<->zv X Z (aK 0 x).toNat (aK 1 x).toNat=true/\zv V Z (aK 0 x).toNat (aK 1 x).toNat=true:=by
  rw[LL,show ci (aH U) p 0=aK 0 x from a9,show ci (aH U) p 1=aK 1 x from bb]
 have bk:K->LL X V Z U p:=λk=>(F.1 k).2.2.2.2 p O
 generalize aK 0 x=z0 at*;generalize aK 1 x=z1 at*;have N:z0.toNat<u.rows.length:=by omega
 have G:z1.toNat<u.rows.length:=by omega
 simp only[a9,bb,n8 X Z N 0 (by omega),n8 X Z N 1 (by omega),n8 X Z N 2 (by omega),n8 X Z N 3 (by omega),n8 X Z G 0 (by omega),n8 X Z G 1 (by omega),n8 X Z G 2 (by omega),n8 X Z G 3 (by omega),n8 V Z N 0 (by omega),n8 V Z N 1 (by omega),n8 V Z N 2 (by omega),n8 V Z N 3 (by omega),n8 V Z G 0 (by omega),n8 V Z G 1 (by omega),n8 V Z G 2 (by omega),n8 V Z G 3 (by omega)];simp only[zv] at z;refine⟨by omega,by omega,bB (λQ=>s (by rw[if_neg (BL Q)];omega) λk=> ?_) (λc9=>⟨by omega,by omega,bB (λQ=>s (by rw[if_neg (BL Q)];omega) λk=> ?_) (λdc=> ?_)⟩)⟩;have:=(z.1 (bk k)).1;simp only[awF] at this;exact BL Q this.1;have:=(z.1 (bk k)).2;simp only[awF] at this;exact BL Q this.1;refine bB (λc1=> ?_) (λc1=>bB (λc2=> ?_) (λc2=> ?_));rw[bF O (by omega)];refine⟨_,rfl,gg.ins rfl (gg.ins rfl c),by refine axn (oS _ _ _) ?_;refine axn (azK (oS _ _ _)) ?_;omega,xj λw=> ?_⟩;exact ajE (z.1 (w.2 p (ayx p))).1 c1;rw[bF O (by omega)];refine⟨_,rfl,gg.ins rfl (gg.ins rfl c),by refine axn (oS _ _ _) ?_;refine axn (azK (oS _ _ _)) ?_;omega,xj λw=> ?_⟩;exact ajE (z.1 (w.2 p (ayx p))).2 c2;rw[bF O (by omega)];exact⟨_,rfl,c,by omega,Rw a0 (z.2 ⟨ajF c1,ajF c2⟩)⟩;have cx:p=U.length:=ayN O (ayz cv);subst cx;have cy:∀i<u.rows.length,eQ X Z i 4=0:=a4;have cI:∀i<u.rows.length,eQ V Z i 4=0:=a5;refine aqQ _ _ _ _ _ _ _ _ _ _ _ _ _ _ _ _ _ _ _ _ _ _ _ _ _ _ _ _ _ _ _ _ _ _ _ _ _ _ _ _ _ _ _ E c (by omega) ⟨_,_,rfl,λh=>absurd rfl h, ?_⟩;rw[aqP];constructor;rintro⟨_,h2⟩;have g2:=a0.1 h2;have l:=a8.1 g2.1;exact F.2 ⟨hm.1 l.1,cy,cI,a6.1 ⟨cp,axp.1 l.2⟩,g2.2⟩;intro k;have q:=F.1 k;have hv:=(a7 k).2;exact⟨rfl,a0.2 ⟨a8.2 ⟨hm.2 q.1,by rw[hv];rfl⟩,q.2.2.2.2⟩⟩
end
end
section
section
variable(W D A B C O:Int)(c u ps sp I:RV)
def H9(ae:Int)(Z U X R V bx:RV)(i:Nat):Prop:=cb U i 0=true->(∀k<(cm W D A B C O c u ps sp I i ae).length,RF W D A B C O c u ps sp I ae Z U X R V bx i k)/\xi (LG W D A B C O c u ps sp I ae X Z V i) 1=0/\(xr (LG W D A B C O c u ps sp I ae X Z V i) 0).rows=[]
def RN:List Nat:=[0,1,1,0,0,0,1,0,0,0,1,0,1,0,1,0,1,0,0,0,1,0,0,0,0,0,0,0,0,0,0,0,0,0,0,0,0,0,0,0,0,0,1,0,0]
def RO:List Nat:=[0,1,1,0,0,0,1,0,0,0,1,0,1,0,1,0,1,0,0,0,1,0,0,0,0,0,0,0,0,0,0,0,0,0,0,0,0,0,0,0,0,0,1,1]
def RP:List Nat:=[0,1,1,0,0,0,1,0,0,0,1,0,1,0,1,0,1,0,0,0,1,0,0,0,0,0,0,0,0,0,0,0,0,0,0,1,0,0,0,0,0,1,0,0]
def RQ:List Nat:=[0,1,1,0,0,0,1,0,0,0,1,0,1,0,1,0,1,0,0,0,1,0,0,0,0,0,0,0,0,0,0,0,0,0,0,1,0,0,0,0,0,1,1]
def SgQ(q:List Nat)(ms:List RV):Prop:=(q=RN/\∃Z X,ms=[Z,X])\/(q=RO/\∃Z,ms=[Z])\/(q=RP/\∃Z,ms=[Z])\/(q=RQ/\ms=[])
set_option maxHeartbeats 16000000 in
def RT (q:List Nat) (ms:List RV) (N:SgQ q ms) (R:aV->Prop) (J:Nat->List XV->Prop) (L:List PC) (b7:RG) (h:iL c u ps sp I) (hw:vf W D O c u I) (ae:Int) (wg X U V Q Z bx:RV) (z:H4 c wg X U V Q Z bx) (n i:Nat) (df:n=c.rows.length) (hi:i<n) (hn:n<=64) (dk:U.rows.length=n) (b8:Z.rows.length=n)
  (ca:cb U i 0=true->jc W D A B C O c u ps sp I i ae=0/\∃v,tA (cm W D A B C O c u ps sp I i ae) (cr 96 Z i) (cm W D A B C O c u ps sp I i ae).length v)
  (x7 x8 x9 cc cf ch:Int) (b0:Bool) (cl cp cs ct cv:RV) (y:List (List RV)) (bs:gg y) (dn:y.length<=200000*i+2)
  (m:∀e:Int,¬e=0->¬H9 W D A B C O c u ps sp I ae X U V Q Z bx i->R (.ret [.r (aH []),.i e]))
  (l:∀M,gg M->M.length<=200000*(i+1)->(M=[]<->y=[]/\H9 W D A B C O c u ps sp I ae X U V Q Z bx i)->J (i+1) [.r (aH M)]):
  T.wp TB.Ev R (lw.at q) ⟨[W,D,A,B,C,O,ae,x7,x8,x9,cc,cf,(i:Int),ch],[b0],[c,u,ps,sp,I,wg,X,U,V,Q,Z,bx,cl,cp,cs,ct,cv]++ms++[aH y],[]⟩ (⟨4,vc n J,tw n,n-i⟩::L):=by
 obtain⟨rfl,m1,m2,rfl⟩|⟨rfl,m1,rfl⟩|⟨rfl,m1,rfl⟩|⟨rfl,rfl⟩:=N;rw[show lw.at RN=T.node _ _ _ from rfl]
 rotate_left
 rw[show lw.at RO=T.node _ _ _ from rfl]
 rotate_left
 rw[show lw.at RP=T.node _ _ _ from rfl]
 rotate_left
 rw[show lw.at RQ=T.node _ _ _ from rfl]
 rotate_left
 all_goals simp only[awV,awX]
 all_goals
  have bt:n<=140737488355328:=by omega
  have b1:=z.fp i (by omega);have b2:=D3 W D A B C O c u ps sp I pZ h i ae;simp only[wk,awV,awX] at b2;have bg:lenOf (dv (.sl 96) (cellAt Z.rows (i:Int) 0)).val=((cr 96 Z i).rows.length:Int):=b1.1.len;have an:lenOf Z.val=(n:Int):=by rw[z.LA.len,b8]
  have dr:=Lx W D A B C O c u ps sp I (aQ:=i) (ae:=ae) (λ_=>hw);simp[bo b2];refine bB (λa3=> ?_) (λa3=> ?_);have x:cb U i 0=true:=a3;obtain⟨cx,sv,cy⟩:=ca x;refine bB (λ_=> ?_) (λG=>absurd cx G);refine cd (cm W D A B C O c u ps sp I i ae).length (λk rest=>∃P,rest=[.r (aH P)]/\gg P/\P.length<=200000*i+2+10*k/\(P=[]<->y=[]/\∀k'<k,RF W D A B C O c u ps sp I ae X U V Q Z bx i k')) ⟨0,rfl,axN _,_,rfl,bs,by omega,BF Iff.rfl⟩ ?_;rintro k _ t ⟨P,rfl,a0,ds,g⟩;simp[an,bg];refine bB (λt=> ?_) (λcI=> ?_);refine⟨t, ?_⟩;refine cd (cr 96 Z i).rows.length (λq rest=>rest=[]/\∀f<q,ci (cr 96 Z i) f 0≠bm (cm W D A B C O c u ps sp I i ae) k 0) ⟨0,rfl,axN _,rfl,by omega⟩ ?_;rintro q _ N ⟨rfl,a1⟩;simp[an,bg];refine bB (λN=> ?_) (λdx=> ?_);refine⟨N,bB (λa6=> ?_) (λa6=> ?_)⟩
  ·have hF:Fst (cr 96 Z i) (bm (cm W D A B C O c u ps sp I i ae) k 0) q:=⟨N,a6,a1⟩;obtain⟨o,F,a7,a8,rfl,dy⟩:=t78 W D A B C O c u ps sp I pZ h (bm (cm W D A B C O c u ps sp I i ae) k 0) _ (Rp (cellAt X.rows (i:Int) 0)) (ci X i 1) (ci X i 2) (ci X i 3) (ci X i 4) (ci X i 5) (ci X i 6) (ci X i 7) (ci X i 8) (ci X i 9) (ci X i 10) (ci X i 11) (ci X i 12) (ci X i 13) (ci X i 14) (ci X i 15) (ci X i 16);have s:Z9 W D A B C O c u ps sp I X (bm (cm W D A B C O c u ps sp I i ae) k 0) i=[.r (aH a7),.i a8]:=HQ F;simp only[wk,ci,bm,awV,awX] at F;rw[bo F];simp[an,bg];have a2:H9 W D A B C O c u ps sp I ae X U V Q Z bx i->a8=0:=λK=>by
    have:=((K x).1 k t q hF).1;rw[s] at this;exact this
   refine bB (λc0=> ?_) (λG=>m a8 G λK=>G (a2 K));refine⟨N, ?_⟩;rw[ajb (aH a7) (ZY (by omega))];simp[an,bg];obtain⟨c1,E⟩:∃b,ob 102 [.r (aH a7),.i (ci (cr 96 Z i) q 0),.i (ci (cr 96 Z i) q 1),.i (ci (cr 96 Z i) q 2),.b (cb (cr 96 Z i) q 3)] 0=b:=⟨_,rfl⟩;have fT:RF W D A B C O c u ps sp I ae X U V Q Z bx i k<->(c1=true/\(bm (cm W D A B C O c u ps sp I i ae) k 4=7\/bm (cm W D A B C O c u ps sp I i ae) k 4=8->cb (cr 96 Z i) q 3=true\/RD W D A B C O c u ps sp I ae U V Q Z bx (bm (cm W D A B C O c u ps sp I i ae) k)=true)):=by
    refine⟨λH=>by have:=(H q hF).2;rw[s] at this;rw[<-E];exact this,λH f b3=> ?_⟩;have c2:f=q:=by
     rcases Nat.lt_trichotomy f q with d|d|d;exact absurd b3.2.1 (a1 f d);exact d;exact absurd hF.2.1 (b3.2.2 q d)
    subst c2;rw[s];exact⟨c0,by rw[<-E] at H;exact H⟩
   have a9:=jT [.bool] (aqt W D A B C O c u ps sp I hw h ae U V Q Z bx (bm (cm W D A B C O c u ps sp I i ae) k) z.mv z.LA (by omega) (by omega) (λj a=>(z.fp j a).1));have b4:RD W D A B C O c u ps sp I ae U V Q Z bx (bm (cm W D A B C O c u ps sp I i ae) k)=xb (out 103 (wk W D A B C O c u ps sp I++[.i ae,.r U,.r V,.r Q,.r Z,.r bx]++fJ (bm (cm W D A B C O c u ps sp I i ae) k))) 0:=rfl;generalize RD W D A B C O c u ps sp I ae U V Q Z bx (bm (cm W D A B C O c u ps sp I i ae) k)=dz at fT b4;simp only[pW,<-b4] at a9;simp only[wk,fJ,bm,awV,awX] at a9;simp only[ci,cb,cr] at E;simp only[E];simp only[bm,cb,cr] at fT;have c3:(cm W D A B C O c u ps sp I i ae).length<=140737488355328:=by omega
   have a4:∀{row:List RV},(eD 3 row P).length<=200000*i+2+10*(k+1):=λ{row}=>by have:=oS 3 row P;omega
   have ag:∀{row bb:List RV},(eD 3 bb (eD 3 row P)).length<=200000*i+2+10*(k+1):=λ{row bb}=>by have:=oS 3 row P;have:=oS 3 bb (eD 3 row P);omega
   have c4:P.length<=200000*i+2+10*(k+1):=by omega
   refine bB (λc5=> ?_) (λc5=> ?_)
   all_goals
    refine bB (λh7=>⟨N,bB (λhd=> ?_) (λhd=> ?_)⟩) (λh7=>bB (λh8=>⟨N,bB (λhd=> ?_) (λhd=> ?_)⟩) (λh8=> ?_))
   all_goals
    try rw[bo a9]
    try simp
    try refine bB (λc6=> ?_) (λc6=> ?_)
   all_goals
    rw[bF t c3]
    first
     |exact⟨_,rfl,a0,c4,Rw g (fT.2 (by clear g fT a4 ag m l s E a2;grind))⟩
     |exact⟨_,rfl,gg.ins rfl a0,a4,xj (λw=>by have:=fT.1 (w.2 k (ayx k));clear w g fT a4 ag m l s E a2;grind)⟩
     |exact⟨_,rfl,gg.ins rfl (gg.ins rfl a0),ag,xj (λw=>by have:=fT.1 (w.2 k (ayx k));clear w g fT a4 ag m l s E a2;grind)⟩
  have c7:(cr 96 Z i).rows.length<=140737488355328:=by omega
  rw[bF N c7];exact⟨rfl,tB a1 a6⟩;exfalso;obtain⟨k',w1,w2,w3⟩:=cy.2 k t;exact a1 k' (by omega) w3;have c8:k=(cm W D A B C O c u ps sp I i ae).length:=ayN t (ayz cI);subst c8;obtain⟨o,F,a5,bk,rfl,dT⟩:=b7 W D A B C O c u ps sp I h i ae (ci V i 0) (ci V i 1) (ci V i 2) (ci V i 3) (ci V i 4) (ci V i 5) (ci V i 6) (ci V i 7) (ci V i 8) (ci V i 9) (ci V i 10) (ci V i 11) (ci V i 12) X (cr 96 Z i) z.bd b1.1;have br:LG W D A B C O c u ps sp I ae V X Z i=[.r (aH a5),.i bk]:=HQ F;have b5:H9 W D A B C O c u ps sp I ae X U V Q Z bx i->bk=0/\a5=[]:=λK=>by
   have:=(K x).2;rw[br] at this;exact this
  simp only[wk,ci,cr,awV,awX] at F;rw[bo F];simp;refine bB (λc9=> ?_) (λG=>m bk G λK=>G (b5 K).1);refine cd a5.length (λj rest=>∃p,rest=[.r (aH p)]/\gg p/\p.length<=200000*i+50000+j/\(p=[]<->P=[]/\j=0)) ⟨0,rfl,axN _,P,rfl,a0,by omega,by simp⟩ ?_;rintro j _ a ⟨p,rfl,b6,ag,dc⟩;simp;refine bB (λa=>⟨a, ?_⟩) (λd0=> ?_);rw[bF a (by omega)];exact⟨_,rfl,gg.ins rfl b6,by refine axn (oS _ _ _) ?_;omega,xj (by omega)⟩;rw[bF hi bt];refine l p b6 (by omega) ?_;have dd:j=0<->a5=[]:=by rw[<-axp];omega
  rw[dc,g,dd];exact⟨λw=>⟨w.1.1,λ_=>⟨w.1.2,by rw[br];exact c9,by rw[br];exact w.2⟩⟩,λw=>⟨⟨w.1,(w.2 x).1⟩,(b5 w.2).2⟩⟩;have x:¬cb U i 0=true:=a3;rw[bF hi bt];exact l y bs (by omega) ⟨λq=>⟨q,λw=>absurd w x⟩,λq=>q.1⟩
end
end
section
section
variable(W D A B C J:Int)(c u ps sp H:RV)
def RoA(ae:Int)(U Z X R V bx:RV)(i:Nat):Prop:=(∀j<13,ci R i j=gS W D A B C J c u ps sp H ae Z X V i j)/\BA (gB W D A B C J c u ps sp H ae Z X U V i 0) (gB W D A B C J c u ps sp H ae Z X U V i 1) (gB W D A B C J c u ps sp H ae Z X U V i 2) (gB W D A B C J c u ps sp H ae Z X U V i 3) (ci bx i 0) (ci bx i 1) (ci bx i 2) (ci bx i 3)=true
def RoI(ae:Int)(Z X V U bx:RV)(i:Nat):Prop:=cE (gB W D A B C J c u ps sp H ae Z X V U i 0) (gB W D A B C J c u ps sp H ae Z X V U i 1) (gB W D A B C J c u ps sp H ae Z X V U i 2) (gB W D A B C J c u ps sp H ae Z X V U i 3)=true/\vB bx i=true
def aro(ae:Int)(Z X V R U bx:RV)(i:Nat):D7 W D A B C J c u ps sp H ae Z X V R U bx i<->RoA W D A B C J c u ps sp H ae Z X V R U bx i/\RoI W D A B C J c u ps sp H ae X V Z U bx i/\H9 W D A B C J c u ps sp H ae Z X V R U bx i:=⟨λh=>⟨⟨h.aft,h.ins⟩,h.Lz,h.Lw⟩,λh=>⟨h.1.1,h.2.1,h.1.2,h.2.2⟩⟩
def RU{Q I S:Prop}{M Z:List (List RV)}{F:Nat->Prop}{i:Nat}(X:F i<->Q/\I/\S)(V:I)(h:M=[]<->Z=[]/\S)(U:Z=[]<->(∀k<i,F k)/\Q):M=[]<->∀k<i+1,F k:=by
 rw[h,U,aqH,X];exact⟨λw=>⟨w.1.1,w.1.2,V,w.2⟩,λw=>⟨⟨w.1,w.2.1⟩,w.2.2.2⟩⟩
def aac:List Nat:=[0,1,1,0,0,0,1,0,0,0,1,0,1,0,1,0,1,0,0,0,1]
set_option maxHeartbeats 16000000 in
def arp (a0:RG) (h:iL c u ps sp H) (hw:vf W D J c u H) (ae:Int) (z X V Z Q U bx:RV) (G:H4 c z X V Z Q U bx) (K:Prop) (L:List PC)
  (f:c.rows.length<=64) (a6:Q.rows.length=c.rows.length) (bk:bx.rows.length=c.rows.length) (a7:X.rows.length=c.rows.length) (d:V.rows.length=c.rows.length) (a8:Z.rows.length=c.rows.length) (b:U.rows.length=c.rows.length)
  (a1:∀i<c.rows.length,cb V i 0=true->jc W D A B C J c u ps sp H i ae=0/\∃v,tA (cm W D A B C J c u ps sp H i ae) (cr 96 U i) (cm W D A B C J c u ps sp H i ae).length v)
  (x7 x8 x9 br bs:Int) (bt b0:RV) (vs vr vb:List (List RV)) (b1:vs.length=c.rows.length) (b2:vb.length=c.rows.length)
  (b3:∀i<c.rows.length,(∀j<13,ba (cellAt vs (i:Int) j).val=gS W D A B C J c u ps sp H ae V Z U i j)/\∀j<4,ba (cellAt vb (i:Int) j).val=gB W D A B C J c u ps sp H ae V Z X U i j)
  (hK:K<->(∀i<c.rows.length,D7 W D A B C J c u ps sp H ae X V Z Q U bx i)/\xi (oT W D A B C J c u ps sp H ae) 1=0/\(∀i<c.rows.length,eQ Z X i 4=0)/\(∀i<c.rows.length,eQ Q X i 4=0)/\BD W D A B C J c u ps sp H z ae bx (aH (rA Z X c.rows.length)) (xr (oT W D A B C J c u ps sp H ae) 0)/\∀p<(xr (oT W D A B C J c u ps sp H ae) 0).rows.length,zv Z X (ci (xr (oT W D A B C J c u ps sp H ae) 0) p 0).toNat (ci (xr (oT W D A B C J c u ps sp H ae) 0) p 1).toNat=true/\zv Q X (ci (xr (oT W D A B C J c u ps sp H ae) 0) p 0).toNat (ci (xr (oT W D A B C J c u ps sp H ae) 0) p 1).toNat=true):
  T.wp TB.Ev (λo=>∃v e,o=aV.ret [.r (aH v),.i e]/\(¬e=0->v=[])/\((e=0/\v=[])<->K)) (lw.at aac) ⟨[W,D,A,B,C,J,ae,x7,x8,x9,br,bs],[],[c,u,ps,sp,H,z,X,V,Z,Q,U,bx,bt,b0,aH vs,aH vr,aH vb],[]⟩ L:=by
 rw[show lw.at aac=(T.loop _ _ _ (T.node _ (T.az _ (T.az _ (T.az _ (T.az _ (T.az _ (T.az _ (T.az _ (T.az _ (T.az _ (T.az _ (T.az _ (T.az _ (T.node _ (T.rows _ _ _ (T.az _ (T.az _ (T.az _ (T.az _ (T.call _ _ _ _ _ _ (T.node _ _ (T.node _ (T.rows _ _ _ (lw.at RN)) (lw.at RO))))))))) (T.az _ (T.az _ (T.az _ (T.az _ (T.call _ _ _ _ _ _ (T.node _ _ (T.node _ (T.rows _ _ _ (lw.at RP)) (lw.at RQ))))))))))))))))))))) (T.call _ _ _ _ _ _ (T.node _ _ (lw.at aab))))) from rfl];have cy:c.rows.length<=140737488355328:=by omega
 have BH:lenOf Q.val=(c.rows.length:Int):=by rw[G.af.len,a6]
 have LB:lenOf bx.val=(c.rows.length:Int):=by rw[G.bx.len,bk]
 have BJ:lenOf X.val=(c.rows.length:Int):=by rw[G.bd.len,a7]
 have LD:lenOf V.val=(c.rows.length:Int):=by rw[G.mv.len,d]
 have BK:lenOf Z.val=(c.rows.length:Int):=by rw[G.bf.len,a8]
 have LF:lenOf U.val=(c.rows.length:Int):=by rw[G.LA.len,b]
 have a3:∀{e:Int},e≠0->¬K->∃v F,(aH []=aH v/\e=F)/\(¬F=0->v=[])/\(F=0/\v=[]<->K):=λ{e} N g=>⟨[],e,⟨rfl,rfl⟩,λ_=>rfl,by simp[N,g]⟩
 have b4:∀{e:Int},¬e=0->¬K->∃v F,aV.ret [.r (aH []),.i e]=aV.ret [.r (aH v),.i F]/\(¬F=0->v=[])/\(F=0/\v=[]<->K):=λ{e} N g=>⟨[],e,rfl,λ_=>rfl,by simp[N,g]⟩
 have b5:K->∀i<c.rows.length,D7 W D A B C J c u ps sp H ae X V Z Q U bx i:=λk=>(hK.1 k).1
 refine cd c.rows.length (λi rest=>∃m,rest=[.r (aH m)]/\gg m/\m.length<=200000*i/\(m=[]<->∀k<i,D7 W D A B C J c u ps sp H ae X V Z Q U bx k)) ⟨0,rfl,axN _,[],rfl,gg.nil,by simp,by simp⟩ ?_;rintro i _ hi ⟨m,rfl,a,b6,hm⟩;simp[h.rl.len,BH,LB,BJ,LD,BK,LF,b1,b2];refine bB (λhi=> ?_) (λb7=> ?_);obtain⟨I,q3⟩:=b3 i hi;have s:=aro W D A B C J c u ps sp H ae X V Z Q U bx i;simp only[I 0 (by omega),I 1 (by omega),I 2 (by omega),I 3 (by omega),I 4 (by omega),I 5 (by omega),I 6 (by omega),I 7 (by omega),I 8 (by omega),I 9 (by omega),I 10 (by omega),I 11 (by omega),I 12 (by omega),q3 0 (by omega),q3 1 (by omega),q3 2 (by omega),q3 3 (by omega)];have y:RoA W D A B C J c u ps sp H ae X V Z Q U bx i<->(∀j<13,ci Q i j=gS W D A B C J c u ps sp H ae V Z U i j)/\BA (gB W D A B C J c u ps sp H ae V Z X U i 0) (gB W D A B C J c u ps sp H ae V Z X U i 1) (gB W D A B C J c u ps sp H ae V Z X U i 2) (gB W D A B C J c u ps sp H ae V Z X U i 3) (ci bx i 0) (ci bx i 1) (ci bx i 2) (ci bx i 3)=true:=Iff.rfl;have x:RoI W D A B C J c u ps sp H ae V Z X U bx i<->cE (gB W D A B C J c u ps sp H ae V Z X U i 0) (gB W D A B C J c u ps sp H ae V Z X U i 1) (gB W D A B C J c u ps sp H ae V Z X U i 2) (gB W D A B C J c u ps sp H ae V Z X U i 3)=true/\vB bx i=true:=Iff.rfl;generalize gB W D A B C J c u ps sp H ae V Z X U i 0=g0 at y x;generalize gB W D A B C J c u ps sp H ae V Z X U i 1=g1 at y x;generalize gB W D A B C J c u ps sp H ae V Z X U i 2=g2 at y x;generalize gB W D A B C J c u ps sp H ae V Z X U i 3=g3 at y x;have a4:K->D7 W D A B C J c u ps sp H ae X V Z Q U bx i:=λk=>b5 k i hi
 have a2:∀{e:Int},¬e=0->¬H9 W D A B C J c u ps sp H ae X V Z Q U bx i->∃v F,aV.ret [.r (aH []),.i e]=aV.ret [.r (aH v),.i F]/\(¬F=0->v=[])/\(F=0/\v=[]<->K):=λN E=>b4 N λk=>E (s.1 (a4 k)).2.2
 have cj:∀{row:List RV},(eD 3 row m).length<=200000*i+2:=λ{row}=>by have:=oS 3 row m;omega
 have b8:∀{row a5:List RV},(eD 3 a5 (eD 3 row m)).length<=200000*i+2:=λ{row a5}=>by have:=oS 3 row m;have:=oS 3 a5 (eD 3 row m);omega
 refine⟨hi,bB (λP=>⟨hi, ?_⟩) (λP=>⟨hi, ?_⟩)⟩;have g:¬∀j<13,ci Q i j=gS W D A B C J c u ps sp H ae V Z U i j:=λO=>by
  simp only[ci] at O;have e0:=O 0 (by omega);have e1:=O 1 (by omega);have e2:=O 2 (by omega);have e3:=O 3 (by omega);have e4:=O 4 (by omega);have e5:=O 5 (by omega);have e6:=O 6 (by omega);have e7:=O 7 (by omega);have e8:=O 8 (by omega);have e9:=O 9 (by omega);have ca:=O 10 (by omega);have cc:=O 11 (by omega);have cf:=O 12 (by omega);rcases P with R|R|R|R|R|R|R|R|R|R|R|R|R;exact R e0;exact R e1;exact R e2;exact R e3;exact R e4;exact R e5;exact R e6;exact R e7;exact R e8;exact R e9;exact R ca;exact R cc;exact R cf
 refine bB (λt=>a3 (by rw[if_neg (BL t)];omega) λk=>BL t (x.1 (s.1 (a4 k)).2.1)) (λag=> ?_);have an:=x.2 (ajq ag);refine bB (λhB=> ?_) (λhB=> ?_);refine RT W D A B C J c u ps sp H RN [_,_] (.inl ⟨rfl,_,_,rfl⟩) _ _ L a0 h hw ae z X V Z Q U bx G c.rows.length i rfl hi f d b (a1 i hi) _ _ _ _ _ _ _ _ _ _ _ _ _ ?_ ?_ (λe N E=>a2 N E) (λM q n l=>⟨M,rfl,q,n,RU s an l ?_⟩);exact gg.ins rfl (gg.ins rfl a);exact b8;exact xj λw=>g (y.1 w.2).1
 refine RT W D A B C J c u ps sp H RO [_] (.inr (.inl ⟨rfl,_,rfl⟩)) _ _ L a0 h hw ae z X V Z Q U bx G c.rows.length i rfl hi f d b (a1 i hi) _ _ _ _ _ _ _ _ _ _ _ _ _ ?_ ?_ (λe N E=>a2 N E) (λM q n l=>⟨M,rfl,q,n,RU s an l ?_⟩);exact gg.ins rfl a;exact cj;exact xj λw=>g (y.1 w.2).1
 have ch:∀j<13,ci Q i j=gS W D A B C J c u ps sp H ae V Z U i j:=by
  simp only[not_or,Classical.not_not] at P;exact aqK P.1 P.2.1 P.2.2.1 P.2.2.2.1 P.2.2.2.2.1 P.2.2.2.2.2.1 P.2.2.2.2.2.2.1 P.2.2.2.2.2.2.2.1 P.2.2.2.2.2.2.2.2.1 P.2.2.2.2.2.2.2.2.2.1 P.2.2.2.2.2.2.2.2.2.2.1 P.2.2.2.2.2.2.2.2.2.2.2.1 P.2.2.2.2.2.2.2.2.2.2.2.2
 refine bB (λt=>a3 (by rw[if_neg (BL t)];omega) λk=>BL t (x.1 (s.1 (a4 k)).2.1)) (λag=> ?_);have an:=x.2 (ajq ag);refine bB (λhB=> ?_) (λhB=> ?_);have cl:¬BA g0 g1 g2 g3 (ci bx i 0) (ci bx i 1) (ci bx i 2) (ci bx i 3)=true:=aqI ag hB;refine RT W D A B C J c u ps sp H RP [_] (.inr (.inr (.inl ⟨rfl,_,rfl⟩))) _ _ L a0 h hw ae z X V Z Q U bx G c.rows.length i rfl hi f d b (a1 i hi) _ _ _ _ _ _ _ _ _ _ _ _ _ ?_ ?_ (λe N E=>a2 N E) (λM q n l=>⟨M,rfl,q,n,RU s an l ?_⟩);exact gg.ins rfl a;exact cj;exact xj λw=>cl (y.1 w.2).2
 refine RT W D A B C J c u ps sp H RQ [] (.inr (.inr (.inr ⟨rfl,rfl⟩))) _ _ L a0 h hw ae z X V Z Q U bx G c.rows.length i rfl hi f d b (a1 i hi) _ _ _ _ _ _ _ _ _ _ _ _ _ ?_ ?_ (λe N E=>a2 N E) (λM q n l=>⟨M,rfl,q,n,RU s an l ?_⟩);exact a;omega;exact⟨λw=>⟨hm.1 w,y.2 ⟨ch,aqJ ag hB⟩⟩,λw=>hm.2 w.1⟩;have cp:i=c.rows.length:=ayN hi (ayz b7);subst cp;obtain⟨o,g1,a9,bb,rfl,cI,cs,c0⟩:=t23 W D A B C J c u ps sp H pZ h ae;have ct:oT W D A B C J c u ps sp H ae=[.r (aH a9),.i bb]:=HQ g1;rw[ct] at hK;have cv:K->bb=0:=λk=>(hK.1 k).2.1
 simp only[wk,awV,awX] at g1;rw[bo g1];simp;refine bB (λcx=> ?_) (λt=>a3 t λk=>t (cv k));refine arm W D A B C J c u ps sp H h ae z X V Z Q U bx G K (∀k<c.rows.length,D7 W D A B C J c u ps sp H ae X V Z Q U bx k) _ _ _ _ _ _ _ _ _ _ _ _ m a9 _ f a7 a8 a6 a b6 hm cs ?_;refine hK.trans ⟨λw=>⟨w.1,w.2.2⟩,λw=>⟨w.1,cx,w.2⟩⟩
end
end
section
section
variable(W D A B C I:Int)(c u ps sp H:RV)
set_option maxHeartbeats 16000000 in
def t16 (bs:RG) (h:iL c u ps sp H) (ae:Int) (M V P Z L R bx:RV) (U:H4 c M V P Z L R bx):∃o,TB.Ev 16 (wk W D A B C I c u ps sp H++[.r M,.r V,.i ae,.r P,.r Z,.r L,.r R,.r bx]) o/\∃v e,o=.ret [.r (aH v),.i e]/\(e≠0->v=[])/\((e=0/\v=[])<->zw W D A B C I c u ps sp H ae M V P Z L R bx):=by
 generalize hK:zw W D A B C I c u ps sp H ae M V P Z L R bx=K;refine eA rfl rfl (.inr λv hv=>by obtain⟨_,_,h,_⟩:=hv;cases h) ?_;obtain⟨h1,h2⟩:=xf W D A B C I c u ps sp H pZ h;simp only[wk] at h1;have Q:∀{e:Int},e≠0->¬zw W D A B C I c u ps sp H ae M V P Z L R bx->∃v l,(aH []=aH v/\e=l)/\(¬l=0->v=[])/\(l=0/\v=[]<->K):=λ{e} he bt=>⟨[],e,⟨rfl,rfl⟩,λ_=>rfl,by rw[<-hK];simp[he,bt]⟩
 rw[show lw=(T.call _ _ _ _ _ _ (T.node _ _ (T.node _ _ (T.node _ (T.node _ (T.node _ (T.node _ _ (T.node _ (T.node _ (T.node _ (T.node _ _ (T.loop _ _ _ (T.node _ _ (T.loop _ _ _ (T.node _ _ (T.loop _ _ _ (T.node _ _ (T.call _ _ _ _ _ _ (T.call _ _ _ _ _ _ (T.loop _ _ _ (T.node _ _ (lw.at aac)))))))))))) _) _) _)) _) _) _)))) from rfl];simp[wk,bo h1];simp only[h.rl.len,U.wg.len,U.bd.len,U.mv.len,U.bf.len,U.af.len,U.LA.len,U.bx.len];refine bB (λh0=> ?_) (λag=>Q ag λK=>ag K.ex.wk);have hw:=h2 h0;have hn:=hw.nr;refine bB (λh8=>Q (by omega) λK=>by have:=K.ex.nw;omega) (λh8=> ?_);refine bB (λb3=> ?_) (λX=>Q (by omega) λK=>by have:=K.ex.br;omega);refine bB (λb4=> ?_) (λX=>Q (by omega) λK=>by have:=K.ex.br;omega);refine bB (λBH=> ?_) (λX=>Q (by omega) λK=>by have:=K.ex.BH;omega);refine bB (λLB=> ?_) (λX=>Q (by omega) λK=>by have:=K.ex.LB;omega);refine bB (λBJ=> ?_) (λX=>Q (by omega) λK=>by have:=K.ex.BJ;omega);refine bB (λLD=> ?_) (λX=>Q (by omega) λK=>by have:=K.ex.LD;omega);refine bB (λBK=> ?_) (λX=>Q (by omega) λK=>by have:=K.ex.BK;omega);refine bB (λLF=> ?_) (λX=>Q (by omega) λK=>by have:=K.ex.LF;omega);have z:lenOf L.val=(c.rows.length:Int):=by rw[U.af.len];exact BH
 have y:lenOf bx.val=(c.rows.length:Int):=by rw[U.bx.len];exact LB
 have x:lenOf V.val=(c.rows.length:Int):=by rw[U.bd.len];exact BJ
 have w:lenOf P.val=(c.rows.length:Int):=by rw[U.mv.len];exact LD
 have t:lenOf Z.val=(c.rows.length:Int):=by rw[U.bf.len];exact BK
 have s:lenOf R.val=(c.rows.length:Int):=by rw[U.LA.len];exact LF
 have q:c.rows.length<=140737488355328:=by omega
 have J:∀i<c.rows.length,Sl (cr 96 R i)/\(cr 96 R i).rows.length<=100:=λi hi=>U.fp i (by omega)
 refine cd c.rows.length (λi rest=>rest=[]/\∀k<i,b75 V k=0/\RC Z k=0/\(if cb P k 0 then m85 W D A B C I c u ps sp H ae R k=0 else(cr 96 R k).rows=[])) ⟨0,rfl,by omega,rfl,by omega⟩ ?_;rintro i _ hi ⟨rfl,p⟩;simp[h.rl.len,U.wg.len,z,y,x,w,t,s];refine bB (λhi=> ?_) (λg=> ?_);have an:=(D0 (t85 W D A B C I c u ps sp H pZ h i ae (cr 96 R i) (J i hi).1)).1;simp only[wk,cr,awV,awX] at an;have a0:=(J i hi).1.len;simp only[cr] at a0;simp[bF hi q,hi,bo an,a0];refine bB (λF=> ?_) (λX=>Q (by omega) λK=>X (K.ex.eG i hi).1);refine bB (λa2=> ?_) (λX=>Q (by omega) λK=>X (K.ex.eG i hi).2.1);refine bB (λa3=> ?_) (λa3=> ?_);have N:cb P i 0=true:=a3;refine bB (λa4=> ?_) (λX=>Q (by omega) λK=>X (by have:=(K.ex.eG i hi).2.2;rw[if_pos N] at this;exact this));exact tB p ⟨F,a2,by rw[if_pos N];exact a4⟩;have N:¬cb P i 0=true:=a3;refine bB (λa4=> ?_) (λX=>Q (by omega) λK=>X (by have:=(K.ex.eG i hi).2.2;rw[if_neg N] at this;exact this));exact tB p ⟨F,a2,by rw[if_neg N];exact a4⟩;have G:i=c.rows.length:=by omega
 subst G;refine cd c.rows.length (λi rest=>rest=[]/\∀k<i,vB bx k=true/\RC L k=0) ⟨0,rfl,by omega,rfl,by omega⟩ ?_;rintro i _ hi ⟨rfl,a6⟩;simp[h.rl.len,U.wg.len,z,y,x,w,t,s];refine bB (λhi=> ?_) (λg=> ?_);simp[bF hi q,hi];refine bB (λF=>bB (λa2=>tB a6 ⟨F,a2⟩) (λX=>Q (by omega) λK=>X (K.ex.box i hi).2)) (λX=>Q (by omega) λK=>X (K.ex.box i hi).1);have G:i=c.rows.length:=by omega
 subst G;refine cd M.rows.length (λi rest=>rest=[]/\∀k<i,iM (ci M k) ae 4=0) ⟨0,rfl,by omega,rfl,by omega⟩ ?_;rintro i _ hi ⟨rfl,a7⟩;simp[h.rl.len,U.wg.len,z,y,x,w,t,s];refine bB (λhi=> ?_) (λg=> ?_);have a8:=f25 (ci M i) ae;simp only[HX,ci,awV,awX] at a8;simp[bF hi U.wg.sm,hi,bo a8];exact bB (λF=>tB a7 F) (λX=>Q X λK=>X (K.ex.D5 i hi));have G:i=M.rows.length:=by omega
 subst G;rw[bo (e86 P U.mv (by omega))];simp;rw[bo (e87 Z U.bf (by omega))];simp;have b0:ajo W D A B C I c u ps sp H ae M V P Z L R bx:=⟨h0,by omega,by omega,by omega,by omega,by omega,by omega,by omega,by omega,p,a6,a7⟩;refine cd c.rows.length (λi rest=>∃vs n E,rest=[.r (aH vs),.r (aH n),.r (aH E)]/\vs.length=i/\n.length=i/\E.length=i/\∀k<i,D6 W D A B C I c u ps sp H ae P Z V R k/\(∀j<13,ba (cellAt vs (k:Int) j).val=gS W D A B C I c u ps sp H ae P Z R k j)/\∀j<4,ba (cellAt E (k:Int) j).val=gB W D A B C I c u ps sp H ae P Z V R k j) ⟨0,rfl,by omega,[],[],[],rfl,rfl,rfl,rfl,by omega⟩ ?_;rintro i _ hi ⟨vs,n,E,rfl,f,b5,d,m⟩;simp[h.rl.len,U.wg.len,z,y,x,w,t,s];refine bB (λhi=> ?_) (λg=> ?_);have a9:=e88 (cr 96 R i) (J i hi).1 (by have:=(J i hi).2;omega);simp only[cr] at a9;simp[bF hi q,hi,bo a9];refine⟨by omega,bB (λa3=> ?_) (λa3=> ?_)⟩;have N:cb P i 0=true:=a3;have bb:=jT _ (t89 W D A B C I c u ps sp H pZ Rq h i ae (ci Z i 0) (ci Z i 1) (ci Z i 2) (ci Z i 3) (ci Z i 4) (ci Z i 5) (ci Z i 6) (ci Z i 7) (ci Z i 8) (ci Z i 9) (ci Z i 10) (ci Z i 11) (ci Z i 12) (cr 96 R i) (J i hi).1);simp only[wk,ci,cr,awV,awX,HV,Ro,pW] at bb;rw[bo bb];simp;refine bB (λa4=> ?_) (λX=>Q X λK=>X (by have:=K.LH i hi;rw[D6,if_pos N] at this;exact this.1));have bk:=jT _ (t90 W D A B C I c u ps sp H pZ h i ae (ci Z i 0) (ci Z i 1) (ci Z i 2) (ci Z i 3) (ci Z i 4) (ci Z i 5) (ci Z i 6) (ci Z i 7) (ci Z i 8) (ci Z i 9) (ci Z i 10) (ci Z i 11) (ci Z i 12) _ (Rp (cellAt V.rows (i:Int) 0)) (ci V i 1) (ci V i 2) (ci V i 3) (ci V i 4) (ci V i 5) (ci V i 6) (ci V i 7) (ci V i 8) (ci V i 9) (ci V i 10) (ci V i 11) (ci V i 12) (ci V i 13) (ci V i 14) (ci V i 15) (ci V i 16) (cr 96 R i) (J i hi).1);simp only[wk,ci,cr,awV,awX,HV,Ro,pW] at bk;rw[bo bk];simp[bF hi q];refine bB (λa5=> ?_) (λX=>Q X λK=>X (by have:=K.LH i hi;rw[D6,if_pos N] at this;exact this.2));refine⟨by omega,by omega,_,_,_,⟨rfl,rfl,rfl⟩,by simp;omega,by simp;omega,by simp;omega,λk b=> ?_⟩;by_cases a:k=i;subst a;refine⟨by rw[D6,if_pos N];exact⟨a4,a5⟩,λj O=> ?_,λj O=> ?_⟩;rw[H5 f,gS,if_pos N]
 match j,O with
 |0,_|1,_|2,_|3,_|4,_|5,_|6,_|7,_|8,_|9,_|10,_|11,_|12,_=>rfl
 rw[H5 d,gB,if_pos N]
 match j,O with
 |0,_|1,_|2,_|3,_=>rfl
 obtain⟨q1,q2,q3⟩:=m k (by omega);exact⟨q1,λj O=>by rw[RI (by omega)];exact q2 j O,λj O=>by rw[RI (by omega)];exact q3 j O⟩;have N:¬cb P i 0=true:=a3;refine bB (λa4=> ?_) (λX=>Q X λK=>X (by have:=K.LH i hi;rw[D6,if_neg N] at this;exact this));refine⟨by omega,by omega,_,_,_,⟨rfl,rfl,rfl⟩,by simp;omega,by simp;omega,by simp;omega,λk b=> ?_⟩;by_cases a:k=i;subst a;refine⟨by rw[D6,if_neg N];exact a4,λj O=> ?_,λj O=> ?_⟩;rw[H5 f,gS,if_neg N]
 match j,O with
 |0,_|1,_|2,_|3,_|4,_|5,_|6,_|7,_|8,_|9,_|10,_|11,_|12,_=>rfl
 rw[H5 d,gB,if_neg N]
 match j,O with
 |0,_|1,_|2,_|3,_=>rfl
 obtain⟨q1,q2,q3⟩:=m k (by omega);exact⟨q1,λj O=>by rw[RI (by omega)];exact q2 j O,λj O=>by rw[RI (by omega)];exact q3 j O⟩;have G:i=c.rows.length:=by omega
 subst G;have b1:K<->zw W D A B C I c u ps sp H ae M V P Z L R bx:=by rw[hK]
 refine arp W D A B C I c u ps sp H bs h hw ae M V P Z L R bx U K _ hn.2 (by omega) (by omega) (by omega) (by omega) (by omega) (by omega) (λi hi b2=> ?_) _ _ _ _ _ _ _ vs n E f d (λk b=>(m k b).2) (b1.trans ⟨λk=>⟨k.ro,k.zu,k.st1,k.st2,k.cl,k.eL⟩,λk=>⟨b0,λj O=>(m j O).1,k.1,k.2.1,k.2.2.1,k.2.2.2.1,k.2.2.2.2.1,k.2.2.2.2.2⟩⟩);have:=(p i hi).2.2;rw[if_pos b2] at this;exact(D0 (t85 W D A B C I c u ps sp H pZ h i ae (cr 96 R i) (J i hi).1)).2 this
end
end
end
end Go.Proofs.YtieaiocljdpebaaGreatDoor.Y
