/- Part 11 of the proof; the last part says what is shown. -/
import Derived.Test.YtieaiocljdpebaaGreatDoorQ4
import Derived.Test.YtieaiocljdpebaaGreatDoorQ7
import Derived.Test.YtieaiocljdpebaaGreatDoorQ8
import Derived.Test.YtieaiocljdpebaaGreatDoorQ10
import Derived.Laws.Strings
set_option linter.all false
open Bool renaming and_eq_true->axI,or_eq_true->ayb,and_eq_false_iff->aAj
open List renaming getElem?_append_left->axL,getD_eq_getElem?_getD->axN,mem_append->axS,mem_cons->axT,all_eq_true->axU,map_cons->axV,replicate->axW,cons_append->axY,nil_append->ax2,range->ax6,map_congr_left->ax7,mem_map->aya,length_eq_zero_iff->ayl,length_map->ayA,mem_range->ayR,getElem_mem->ayT,mem_singleton->ayY,take_append_drop->ay3,map_append->aze,not_mem_nil->azs,all_cons->azx,length->azO,getElem?_append->aAp,append_eq_nil_iff->aAU,map_eq_nil_iff->aBa,getElem_of_mem->aBb
open Nat renaming le_refl->axQ,zero_add->ayg,zero_le->ayK,mod_lt->azX
open Int renaming toNat_natCast->ayE,mul_le_mul_of_nonneg_right->ayM,mul_le_mul_of_nonneg_left->azR,natAbs_tmod->az5,mul_tdiv_cancel_left->aAL
open List.cons renaming injEq->ayH
namespace Go.Proofs.YtieaiocljdpebaaGreatDoor.Y
open Go.RowKit
noncomputable section
variable{H:List SV}{G:fW}{Z:Nat}{P:FuncId}{J I:List XV}{w:aT}
section
section
variable(z:Nat->Bool)
mutual
def IE.av:IE->Bool
 |.c _=>true
 |.v k=> !z k
 |.bin _ _ a b=>a.av&&b.av
 |.conv _ a=>a.av
 |.len r=>r.av
 |.mm _ a b=>a.av&&b.av
 |.bT b x y=>b.av&&(x.av&&y.av)
 |.cell r i _=>r.av&&i.av
 |.jS r i=>r.av&&i.av
 |.look r _ a b c _=>r.av&&(a.av&&(b.av&&c.av))
def BE.av:BE->Bool
 |.c _=>true
 |.v _=>true
 |.cmp _ a b=>a.av&&b.av
 |.not a=>a.av
 |.and a b=>a.av&&b.av
 |.beq a b=>a.av&&b.av
 |.bT b x y=>b.av&&(x.av&&y.av)
 |.cell r i _=>r.av&&i.av
 |.seq a b=>a.av&&b.av
 |.look r _ a b c _=>r.av&&(a.av&&(b.av&&c.av))
 |.has r _ a b c=>r.av&&(a.av&&(b.av&&c.av))
def RE.av:RE->Bool
 |.v _=>true
 |.cell r i _ _=>r.av&&i.av
 |.k _=>true
end
def SV.av:SV->Bool
 |.int _ e=>e.av z
 |.bool b=>b.av z
 |.ref r=>r.av z
 |_=>true
def LE.av:LE->Bool
 |.ref r=>r.av z
 |.lit l=>l.all λZ=>Z.all (SV.av z)
 |.jr a b=>a.av&&b.av
 |.mW n Z=>n.av z&&Z.all (SV.av z)
 |.set a i _ X=>a.av&&(i.av z&&X.all (SV.av z))
 |.sub a W V=>a.av&&(W.av z&&V.av z)
 |.ins a _ X=>a.av&&X.all (SV.av z)
def T.ni(ok:FuncId->List SV->Bool):T->Bool
 |.ret v _ _=>(p9 v).all (SV.av z)
 |.node b t f=>b.av z&&(t.ni ok&&f.ni ok)
 |.az b t=>b.av z&&t.ni ok
 |.call f Z _ _ _ _ t=>((kJ Z).all (SV.av z)||ok f (kJ Z))&&t.ni ok
 |.loop _ _ X t=>X.all (SV.av z)&&t.ni ok
 |.back _ x=>x.all (SV.av z)
 |.new _ x _ _ t=>x.av z&&t.ni ok
 |.rows _ x _ t=>x.av z&&t.ni ok
 |.ey g h t f=>g.av z&&(h.av z&&(t.ni ok&&f.ni ok))
 |.pick m g h t f=>m.av z&&(g.av z&&(h.av z&&(t.ni ok&&f.ni ok)))
 |.dq _ _ _ _ _ r _ t=>r.av z&&t.ni ok
 |.stuck _=>true
 |_=>false
structure Ag(is is':List Int)(rs:List RV)(O O':aa):Prop where
 b:O.b=O'.b
 r:O.r=O'.r
 i:∀k,z k=false->O.i.getD k 0=O'.i.getD k 0
 l:O.i.length=O'.i.length
 p:∃x,O.i=is++x
 p':∃x,O'.i=is'++x
 q:∃x,O.r=rs++x
variable{z}{is is':List Int}{rs:List RV}{O O':aa}
mutual
def IE.bX(h:Ag z is is' rs O O'):∀{e:IE},e.av z=true->e.den O=e.den O'
 |.c _,_=>rfl
 |.v k,g=>by simp only[IE.den];exact h.i k (by simpa[IE.av] using g)
 |.bin _ _ a b,g=>by
  simp only[IE.av,axI] at g;simp only[IE.den,IE.bX h g.1,IE.bX h g.2]
 |.conv _ a,g=>by simp only[IE.den,IE.bX h (e:=a) g]
 |.len r,g=>by simp only[IE.den,RE.bX h (r:=r) g]
 |.mm _ a b,g=>by
  simp only[IE.av,axI] at g;simp only[IE.den,IE.bX h g.1,IE.bX h g.2]
 |.bT b x y,g=>by
  simp only[IE.av,axI] at g;simp only[IE.den,BE.bX h g.1,IE.bX h g.2.1,IE.bX h g.2.2]
 |.cell r i _,g=>by
  simp only[IE.av,axI] at g;simp only[IE.den,RE.bX h g.1,IE.bX h g.2]
 |.jS r i,g=>by
  simp only[IE.av,axI] at g;simp only[IE.den,RE.bX h g.1,IE.bX h g.2]
 |.look r _ a b c _,g=>by
  simp only[IE.av,axI] at g;simp only[IE.den,RE.bX h g.1,IE.bX h g.2.1,IE.bX h g.2.2.1,IE.bX h g.2.2.2]
def BE.bX(h:Ag z is is' rs O O'):∀{e:BE},e.av z=true->e.den O=e.den O'
 |.c _,_=>rfl
 |.v k,_=>by simp only[BE.den,h.b]
 |.cmp _ a b,g=>by
  simp only[BE.av,axI] at g;simp only[BE.den,IE.bX h g.1,IE.bX h g.2]
 |.not a,g=>by simp only[BE.den,BE.bX h (e:=a) g]
 |.and a b,g=>by
  simp only[BE.av,axI] at g;simp only[BE.den,BE.bX h g.1,BE.bX h g.2]
 |.beq a b,g=>by
  simp only[BE.av,axI] at g;simp only[BE.den,BE.bX h g.1,BE.bX h g.2]
 |.bT b x y,g=>by
  simp only[BE.av,axI] at g;simp only[BE.den,BE.bX h g.1,BE.bX h g.2.1,BE.bX h g.2.2]
 |.cell r i _,g=>by
  simp only[BE.av,axI] at g;simp only[BE.den,RE.bX h g.1,IE.bX h g.2]
 |.seq a b,g=>by
  simp only[BE.av,axI] at g;simp only[BE.den,RE.bX h g.1,RE.bX h g.2]
 |.look r _ a b c _,g=>by
  simp only[BE.av,axI] at g;simp only[BE.den,RE.bX h g.1,IE.bX h g.2.1,IE.bX h g.2.2.1,IE.bX h g.2.2.2]
 |.has r _ a b c,g=>by
  simp only[BE.av,axI] at g;simp only[BE.den,RE.bX h g.1,IE.bX h g.2.1,IE.bX h g.2.2.1,IE.bX h g.2.2.2]
def RE.bX(h:Ag z is is' rs O O'):∀{r:RE},r.av z=true->r.rv O=r.rv O'
 |.v k,_=>by simp only[RE.rv,aa.rv,h.r]
 |.cell r i _ _,g=>by
  simp only[RE.av,axI] at g;simp only[RE.rv,RE.bX h g.1,IE.bX h g.2]
 |.k _,_=>rfl
end
def SV.bX(h:Ag z is is' rs O O'):∀{v:SV},v.av z=true->v.xv O=v.xv O':=by
 intro v g;cases v<;>simp only[SV.xv,SV.av] at g⊢;rw[IE.bX h g];rw[BE.bX h g];rw[RE.bX h g]
def SV.avc(h:Ag z is is' rs O O'):∀{v:SV},v.av z=true->v.bu O=v.bu O':=by
 intro v g;cases v<;>simp only[SV.bu,SV.av] at g⊢;rw[IE.bX h g];rw[BE.bX h g];rw[RE.bX h g]
def Mk(h:Ag z is is' rs O O')(g:H.all (SV.av z)=true):H.map (SV.xv O)=H.map (SV.xv O'):=
 ax7 λv Z=>SV.bX h (axU.1 g v Z)
def S4(h:Ag z is is' rs O O')(g:H.all (SV.av z)=true):H.map (SV.bu O)=H.map (SV.bu O'):=
 ax7 λv Z=>SV.avc h (axU.1 g v Z)
def LE.bX(h:Ag z is is' rs O O'):∀{x:LE},x.av z=true->x.rows O=x.rows O'
 |.ref r,g=>by simp only[LE.rows,RE.bX h (r:=r) g]
 |.lit l,g=>by
  simp only[LE.rows];exact ax7 λZ X=>S4 h (axU.1 g Z X)
 |.jr a b,g=>by
  simp only[LE.av,axI] at g;simp only[LE.rows,LE.bX h g.1,LE.bX h g.2]
 |.mW n Z,g=>by
  simp only[LE.av,axI] at g;simp only[LE.rows,IE.bX h g.1,S4 h g.2]
 |.set a i _ W,g=>by
  simp only[LE.av,axI] at g;simp only[LE.rows,LE.bX h g.1,IE.bX h g.2.1,S4 h g.2.2]
 |.sub a V U,g=>by
  simp only[LE.av,axI] at g;simp only[LE.rows,LE.bX h g.1,IE.bX h g.2.1,IE.bX h g.2.2]
 |.ins a _ W,g=>by
  simp only[LE.av,axI] at g;simp only[LE.rows,LE.bX h g.1,S4 h g.2]
def Ag.add(h:Ag z is is' rs O O')(P:∀k,is.length<=k->z k=false)(x:XV):Ag z is is' rs (O.add x) (O'.add x):=by
 obtain⟨Z,X⟩:=h.p;obtain⟨W,V⟩:=h.p';obtain⟨U,R⟩:=h.q;cases x with
 |i n=>
  refine⟨h.b,h.r,λk Q=> ?_,by simp[aa.add,h.l],⟨Z++[n],by simp[aa.add,X]⟩,⟨W++[n],by simp[aa.add,V]⟩,h.q⟩;simp only[aa.add,axN,aAp];have:=h.i k Q;simp only[axN] at this;rw[h.l];split;exact this;rfl
 |b n=>exact⟨by simp[aa.add,h.b],h.r,h.i,h.l,h.p,h.p',h.q⟩
 |r v=>exact⟨h.b,by simp[aa.add,h.r],h.i,h.l,h.p,h.p',⟨U++[v],by simp[aa.add,R]⟩⟩
def Ag.ext(Z:∀k,is.length<=k->z k=false):∀{xs:List XV}{O O':aa},Ag z is is' rs O O'->Ag z is is' rs (O.ext xs) (O'.ext xs)
 |[],_,_,h=>h
 |x::xs,O,O',h=>Ag.ext Z (xs:=xs) (O:=O.add x) (O':=O'.add x) (h.add Z x)
def Ce(z:Nat->Bool)(is is':List Int)(rs:List RV)(ok:FuncId->List SV->Bool):List Lp->List Lp->Prop
 |[],[]=>True
 |x::Z,y::X=>(x.al=y.al/\x.t=y.t/\x.t.ni z ok=true/\Ag z is is' rs x.O y.O)/\Ce z is is' rs ok Z X
 |_,_=>False
def Ce.find{ok:FuncId->List SV->Bool}{al:Nat}:∀{W V:List Lp}{Z:Lp}{s:List Lp},Ce z is is' rs ok W V->pj al W=some (Z,s)->∃U R,pj al V=some (U,R)/\Ce z is is' rs ok (Z::s) (U::R)
 |[],_,_,_,_,h=>by simp[pj] at h
 |x::N,[],_,_,g,_=>g.elim
 |x::N,y::M,Z,s,g,h=>by
  simp only[pj] at h⊢;obtain⟨⟨Q,L⟩,P⟩:=g;rw[<-Q];split at h;rename_i X;rw[if_pos X];cases h;exact⟨y,M,rfl,⟨Q,L⟩,P⟩;rename_i X;rw[if_neg X];exact Ce.find P h
def asq(h:Ag z is is' rs O O')(Z:∀k,is.length<=k->z k=false){m:IE}{g k:BE}(X:m.av z=true)(W:g.av z=true)(V:k.av z=true):n9 m g k O=n9 m g k O':=by
 simp only[n9,IE.bX h X,BE.bX h V];congr 2;exact List.filter_congr λj _=>BE.bX (h.add Z (.i j)) W
variable{aQ d:kn}{ok:FuncId->List SV->Bool}
def akl(U:∀k,is.length<=k->z k=false)(G:∀f F o,aQ f F=some o->d f F=some o)
  (E:∀f l O O' o,ok f l=true->Ag z is is' rs O O'->aQ f (l.map (SV.xv O))=some o->d f (l.map (SV.xv O'))=some o):
  ∀(n:Nat)(t:T)(O O':aa)(R Q:List Lp)(o:aT),Ag z is is' rs O O'->Ce z is is' rs ok R Q->t.ni z ok=true->exec aQ n t O R=some o->exec d n t O' Q=some o
 |0,t,O,O',R,Q,o,_,_,_,h=>by simp[exec] at h
 |n+1,t,O,O',R,Q,o,X,W,Z,h=>by
  have V:=akl U G E n;cases t with
  |ret v w rs=>
   simp only[exec] at h⊢;rw[<-Mk X Z];exact h
  |aW v=>simp[T.ni] at Z
  |node b t f=>
   simp only[T.ni,axI] at Z;simp only[exec] at h⊢;rw[<-BE.bX X Z.1];split at h;rename_i P;rw[if_pos P];exact V t _ _ _ _ o X W Z.2.1 h;rename_i P;rw[if_neg P];exact V f _ _ _ _ o X W Z.2.2 h
  |az b t=>
   simp only[T.ni,axI] at Z;simp only[exec] at h⊢;rw[<-BE.bX X Z.1];split at h;rename_i P;rw[if_pos P];exact V t _ _ _ _ o X W Z.2 h;cases h
  |call f D w J u eP t=>
   simp only[T.ni,axI,ayb] at Z;simp only[exec] at h⊢;cases L:aQ f ((kJ D).map (SV.xv O)) with
   |none=>rw[L] at h;cases h
   |some r=>
    rw[L] at h;have p:d f ((kJ D).map (SV.xv O'))=some r:=by
     rcases Z.1 with g|g;rw[<-Mk X g];exact G _ _ _ L;exact E _ _ _ _ _ g X L
    rw[p];cases r with
    |ret ys=>
     simp only at h⊢;split at h;rename_i N;rw[if_pos N];exact V t _ _ _ _ o (Ag.ext U X) W Z.2 h;cases h
    |aW v=>exact h
  |loop al u x0 t=>
   simp only[T.ni,axI] at Z;simp only[exec] at h⊢;rw[<-Mk X Z.1];have I:Ce z is is' rs ok (⟨al,t,O⟩::R) (⟨al,t,O'⟩::Q):=⟨⟨rfl,rfl,Z.2,X⟩,W⟩;exact V t _ _ _ _ o (Ag.ext U X) I Z.2 h
  |back al x=>
   simp only[exec] at h⊢;cases N:pj al R with
   |none=>rw[N] at h;cases h
   |some q=>
    obtain⟨C,s⟩:=q;rw[N] at h;obtain⟨i,c,a,h2⟩:=W.find N;rw[a];simp only at h⊢;obtain⟨⟨g1,B,A,y⟩,g5⟩:=h2;rw[<-Mk X Z,<-B];have I:Ce z is is' rs ok (C::s) (i::c):=⟨⟨g1,B,A,y⟩,g5⟩;exact V C.t _ _ _ _ o (Ag.ext U y) I A h
  |new e x J af t=>
   simp only[T.ni,axI] at Z;simp only[exec,eI] at h⊢;rw[<-LE.bX X Z.1];exact V t _ _ _ _ o (X.add U _) W Z.2 h
  |rows k x J t=>
   simp only[T.ni,axI] at Z;simp only[exec,eI] at h⊢;rw[<-LE.bX X Z.1];exact V t _ _ _ _ o (X.add U _) W Z.2 h
  |ey g h' t f=>
   simp only[T.ni,axI] at Z;simp only[exec] at h⊢;rw[<-BE.bX X Z.1,<-BE.bX X Z.2.1];split at h;rename_i H;rw[if_pos H];split at h;rename_i M;rw[if_pos M];exact Wm h (V t _ _ _ _ o X W Z.2.2.1) (V f _ _ _ _ o X W Z.2.2.2);rename_i M;rw[if_neg M];exact V t _ _ _ _ o X W Z.2.2.1 h;rename_i H;rw[if_neg H];split at h;rename_i M;rw[if_pos M];exact V f _ _ _ _ o X W Z.2.2.2 h;cases h
  |pick m g h' t f=>
   simp only[T.ni,axI] at Z;simp only[exec] at h⊢;rw[<-asq X U Z.1 Z.2.1 Z.2.2.1];refine Wn h λj _ q=> ?_
   cases j with
   |some j=>exact V t _ _ _ _ o (X.add U _) W Z.2.2.2.1 q
   |none=>exact V f _ _ _ _ o X W Z.2.2.2.2 q
  |dq f g e sp sb r J t=>
   simp only[T.ni,axI] at Z;simp only[exec] at h⊢;rw[<-RE.bX X Z.1];split at h;rename_i rows ag;exact V t _ _ _ _ o (X.add U _) W Z.2 h;cases h
  |out e s=>simp[exec] at h
  |stuck m=>simp[exec] at h
def vI(Z:fW)(m:Nat)(f:FuncId)(A X:List XV):Prop:=∀n o,Z.aQ n f A=some o->Z.aQ (n+m) f X=some o
def vI.ev(h:vI G Z P J I):G.Ev P J w->G.Ev P I w:=λ⟨n,g⟩=>⟨n+Z,h n w g⟩
def asr(h:G.Ev P J w)(Z:G.Ev P I w):∃m,vI G m P J I:=by
 obtain⟨m,g⟩:=Z;refine⟨m,λn X k=> ?_⟩;have:X=w:=WL ⟨n,k⟩ h;subst this;exact jd m (n+m) P I _ (by omega) g
def akm{fn:Fn}(U:G.tree P=some fn)(W:G.nf P J=none)(R:G.nf P I=none)
  (Q:∀k,is.length<=k->z k=false)(N:Ag z is is' rs (de (fU fn.g) J) (de (fU fn.g) I))(M:fn.t.ni z ok=true)
  (L:∀P l O O',ok P l=true->Ag z is is' rs O O'->vI G Z P (l.map (SV.xv O)) (l.map (SV.xv O'))):vI G Z P J I:=by
 intro n o h;cases n with
 |zero=>simp only[fW.aQ] at h;rw[W] at h;cases h
 |succ n=>
  rw[show n+1+Z=(n+Z)+1 by omega];simp only[fW.aQ,W,R,U] at h⊢;cases X:exec (G.aQ n) n fn.t (de (fU fn.g) J) [] with
  |none=>rw[X] at h;simp[uM] at h
  |some V=>
   rw[X] at h;have H:=akl Q (λP J o h=>jd n (n+Z) P J o (by omega) h) (λP l O O' o g F E=>L P l O O' g F n o E) n fn.t _ _ [] [] V N trivial M X;have D:=kK (λP J o h=>h) n (n+Z) fn.t _ [] V (by omega) H;rw[D];exact h
def S5:SV->Option (Bool×Nat)
 |.ref (.v k)=>some (true,k)
 |.int _ (.v k)=>some (false,k)
 |_=>none
def S6(is:List Int)(rs:List RV):Bool×Nat->XV
 |(true,k)=>.r (rs.getD k default)
 |(false,k)=>.i (is.getD k 0)
def Ml(p:List (Bool×Nat))(l:List SV):Bool:=l.map S5==p.map some
def akn{X:Type}{a:X}{l x y:List X}(h:y=l++x)(W:Z<l.length):y.getD Z a=l.getD Z a:=by
 subst h;simp only[axN,axL W]
def ast{v:SV}{x:Bool×Nat}(h:S5 v=some x)(W:x.2<if x.1 then rs.length else is.length)(Z:∃x,O.i=is++x)(X:∃x,O.r=rs++x):v.xv O=S6 is rs x:=by
 obtain⟨_,Z⟩:=Z;obtain⟨_,X⟩:=X;cases v with
 |ref r=>
  cases r with
  |v k=>cases h;simp only[SV.xv,RE.rv,aa.rv,S6];rw[akn X (by simpa using W)]
  |cell=>cases h
  |k=>cases h
 |int V e=>
  cases e with
  |v k=>cases h;simp only[SV.xv,IE.den,S6];rw[akn Z (by simpa using W)]
  |_=>cases h
 |_=>cases h
def Mm:∀{p:List (Bool×Nat)}{l:List SV},l.map S5=p.map some->(∀x∈p,x.2<if x.1 then rs.length else is.length)->(∃x,O.i=is++x)->(∃x,O.r=rs++x)->l.map (SV.xv O)=p.map (S6 is rs)
 |[],[],_,_,_,_=>rfl
 |[],_::_,h,_,_,_=>by simp at h
 |_::_,[],h,_,_,_=>by simp at h
 |x::p,v::l,h,Z,X,W=>by
  simp only[axV,ayH] at h⊢;exact⟨ast h.1 (Z x (by simp)) X W,Mm h.2 (λy V=>Z y (by simp[V])) X W⟩
end
end
variable{M:Nat}{U N:Int}{Q:List RV}
section
section
structure Bq(c d:Nat->Int):Prop where
 w:c 1=d 1
 g:c 3=d 3
 r0:c 6=d 6
 r1:c 7=d 7
 r2:c 8=d 8
 c:c 16=d 16
def kS(s:RV)(c:Nat->Int):List XV:=[.r s,.i (c 1),.i (c 2),.i (c 3),.i (c 4),.i (c 5),.i (c 6),.i (c 7),.i (c 8),.i (c 9),.i (c 10),.i (c 11),.i (c 12),.i (c 13),.i (c 14),.i (c 15),.i (c 16)]
def zW(x:Nat->Int):List XV:=[.i (x 0),.i (x 1),.i (x 2),.i (x 3),.i (x 4),.i (x 5),.i (x 6),.i (x 7),.i (x 8),.i (x 9),.i (x 10),.i (x 11),.i (x 12)]
def zm(b k:Nat):Bool:=[1,3,4,8,9,10,11,12,13,14].contains (k-b)&&decide (b<=k)
def ako{n:Nat}(h:Z+15<n)(X:n<=M):zm Z M=false:=by
 simp only[zm,aAj];refine .inl ?_;simp only[List.contains_eq_mem,decide_eq_false_iff_not,axT,azs,or_false];omega
def Cf(r b:Nat):List (Bool×Nat):=(true,r)::(ax6 16).map λj=>(false,b+j)
def agc{z:Nat->Bool}{l W:List Int}(V:z Z=false->U=N)(h:∀k,z (Z+1+k)=false->l.getD k 0=W.getD k 0):∀k,z (Z+k)=false->(U::l).getD k 0=(N::W).getD k 0
 |0,X=>V X
 |k+1,X=>h k (by rw[show Z+1+k=Z+(k+1) by omega];exact X)
def agE{z:Nat->Bool}{L Z:List Int}(X:L.length=Z.length)(h:∀k,z (0+k)=false->L.getD k 0=Z.getD k 0):Ag z L Z Q ⟨L,[],Q,[]⟩ ⟨Z,[],Q,[]⟩ where
 b:=rfl
 r:=rfl
 i:=λk W=>h k (by rw[ayg];exact W)
 l:=X
 p:=⟨[],by simp⟩
 p':=⟨[],by simp⟩
 q:=⟨[],by simp⟩
def akr{n m:Nat}(W:Z<n)(V:M+15<m):∀x∈Cf Z M,x.2<if x.1 then n else m:=by
 intro x X;simp only[Cf,axT,aya,ayR] at X;rcases X with rfl|⟨j,U,rfl⟩;exact W;show M+j<m;omega
variable{c d:Nat->Int}{s:RV}{m:Nat}
def aks(Z:Bq c d)(x:Nat->Int)(h:vI TB m 75 (kS s c) (kS s d)):vI TB m 27 (zW x++kS s c) (zW x++kS s d):=by
 have W:∀x∈Cf 0 13,x.2<if x.1 then 1 else 29:=akr (by decide) (by decide);have e:∀q,de (fU false) (zW x++kS s q)=⟨[x 0,x 1,x 2,x 3,x 4,x 5,x 6,x 7,x 8,x 9,x 10,x 11,x 12,q 1,q 2,q 3,q 4,q 5,q 6,q 7,q 8,q 9,q 10,q 11,q 12,q 13,q 14,q 15,q 16],[],[s],[]⟩:=λq=>by simp[de,aa.ext,aa.add,fU,zW,kS]
 refine akm (fn:=⟨Sg,false,false⟩) (z:=zm 13) (is:=[x 0,x 1,x 2,x 3,x 4,x 5,x 6,x 7,x 8,x 9,x 10,x 11,x 12,c 1,c 2,c 3,c 4,c 5,c 6,c 7,c 8,c 9,c 10,c 11,c 12,c 13,c 14,c 15,c 16]) (is':=[x 0,x 1,x 2,x 3,x 4,x 5,x 6,x 7,x 8,x 9,x 10,x 11,x 12,d 1,d 2,d 3,d 4,d 5,d 6,d 7,d 8,d 9,d 10,d 11,d 12,d 13,d 14,d 15,d 16]) (rs:=[s]) (ok:=λf l=>f==75&&Ml (Cf 0 13) l) rfl rfl rfl (λk V=>ako (n:=29) (by decide) V)
  (by
   show Ag _ _ _ _ (de (fU false) _) (de (fU false) _);rw[e,e];refine agE rfl ?_
   repeat'(refine agc ?_ ?_;·first|exact λ_=>rfl|exact λ_=>Z.w|exact λ_=>Z.g|exact λ_=>Z.r0|exact λ_=>Z.r1|exact λ_=>Z.r2|exact λ_=>Z.c|exact λh=>absurd h (by decide))
   exact λ_ _=>rfl) (by kernel_rfl) ?_
 intro f l O U g X;simp only[axI,beq_iff_eq,Ml] at g;obtain⟨rfl,g⟩:=g;rw[Mm (is:=[x 0,x 1,x 2,x 3,x 4,x 5,x 6,x 7,x 8,x 9,x 10,x 11,x 12,c 1,c 2,c 3,c 4,c 5,c 6,c 7,c 8,c 9,c 10,c 11,c 12,c 13,c 14,c 15,c 16]) (rs:=[s]) g W X.p X.q,Mm (is:=[x 0,x 1,x 2,x 3,x 4,x 5,x 6,x 7,x 8,x 9,x 10,x 11,x 12,d 1,d 2,d 3,d 4,d 5,d 6,d 7,d 8,d 9,d 10,d 11,d 12,d 13,d 14,d 15,d 16]) (rs:=[s]) (O:=U) g W X.p' (X.r▸X.q)];exact h
def isI:XV->Bool
 |.i _=>true
 |_=>false
def svI:SV->Bool
 |.int _ _=>true
 |_=>false
def asu:∀(A:List XV),A.length=13->A.all isI=true->A=zW (xi A)
 |[.i _,.i _,.i _,.i _,.i _,.i _,.i _,.i _,.i _,.i _,.i _,.i _,.i _],_,_=>rfl
def akt{O:aa}:∀{l:List SV},l.all svI=true->(l.map (SV.xv O)).all isI=true
 |[],_=>rfl
 |v::l,h=>by
  simp only[azx,axI,axV] at h⊢;refine⟨?_,akt h.2⟩;cases v<;>simp_all[svI,SV.xv,isI]
def aku(f:FuncId)(l:List SV):Bool:=f==75&&Ml (Cf 8 21) l||f==27&&((l.take 13).length==13&&((l.take 13).all svI&&((l.take 13).all (SV.av (zm 21))&&Ml (Cf 8 21) (l.drop 13))))
def asv(N:Bq c d)(W D A B C Z aN ae:Int)(V U R Q P r:RV)(x:Nat->Int)(h:vI TB m 75 (kS s c) (kS s d)):
  vI TB m 90 (wk W D A B C Z V U R Q P++[.i aN,.i ae]++zW x++kS s c++[.r r]) (wk W D A B C Z V U R Q P++[.i aN,.i ae]++zW x++kS s d++[.r r]):=by
 have I:∀x∈Cf 8 21,x.2<if x.1 then 10 else 37:=akr (by decide) (by decide);have H:∀(l:List SV)(O M:aa),Ag (zm 21) [W,D,A,B,C,Z,aN,ae,x 0,x 1,x 2,x 3,x 4,x 5,x 6,x 7,x 8,x 9,x 10,x 11,x 12,c 1,c 2,c 3,c 4,c 5,c 6,c 7,c 8,c 9,c 10,c 11,c 12,c 13,c 14,c 15,c 16] [W,D,A,B,C,Z,aN,ae,x 0,x 1,x 2,x 3,x 4,x 5,x 6,x 7,x 8,x 9,x 10,x 11,x 12,d 1,d 2,d 3,d 4,d 5,d 6,d 7,d 8,d 9,d 10,d 11,d 12,d 13,d 14,d 15,d 16] (lX++[V,U,R,Q,P,s,r]) O M->l.map S5=(Cf 8 21).map some->l.map (SV.xv O)=kS s c/\l.map (SV.xv M)=kS s d:=by
  intro l O M X g;exact⟨Mm (is:=[W,D,A,B,C,Z,aN,ae,x 0,x 1,x 2,x 3,x 4,x 5,x 6,x 7,x 8,x 9,x 10,x 11,x 12,c 1,c 2,c 3,c 4,c 5,c 6,c 7,c 8,c 9,c 10,c 11,c 12,c 13,c 14,c 15,c 16]) (rs:=lX++[V,U,R,Q,P,s,r]) g I X.p X.q,Mm (is:=[W,D,A,B,C,Z,aN,ae,x 0,x 1,x 2,x 3,x 4,x 5,x 6,x 7,x 8,x 9,x 10,x 11,x 12,d 1,d 2,d 3,d 4,d 5,d 6,d 7,d 8,d 9,d 10,d 11,d 12,d 13,d 14,d 15,d 16]) (rs:=lX++[V,U,R,Q,P,s,r]) g I X.p' (X.r▸X.q)⟩
 have e:∀q,de (fU true) (wk W D A B C Z V U R Q P++[.i aN,.i ae]++zW x++kS s q++[.r r])=⟨[W,D,A,B,C,Z,aN,ae,x 0,x 1,x 2,x 3,x 4,x 5,x 6,x 7,x 8,x 9,x 10,x 11,x 12,q 1,q 2,q 3,q 4,q 5,q 6,q 7,q 8,q 9,q 10,q 11,q 12,q 13,q 14,q 15,q 16],[],lX++[V,U,R,Q,P,s,r],[]⟩:=λq=>by simp[de,aa.ext,aa.add,fU,zW,kS,wk]
 refine akm (fn:=⟨Sn,true,false⟩) (z:=zm 21) (is:=[W,D,A,B,C,Z,aN,ae,x 0,x 1,x 2,x 3,x 4,x 5,x 6,x 7,x 8,x 9,x 10,x 11,x 12,c 1,c 2,c 3,c 4,c 5,c 6,c 7,c 8,c 9,c 10,c 11,c 12,c 13,c 14,c 15,c 16]) (is':=[W,D,A,B,C,Z,aN,ae,x 0,x 1,x 2,x 3,x 4,x 5,x 6,x 7,x 8,x 9,x 10,x 11,x 12,d 1,d 2,d 3,d 4,d 5,d 6,d 7,d 8,d 9,d 10,d 11,d 12,d 13,d 14,d 15,d 16]) (rs:=lX++[V,U,R,Q,P,s,r]) (ok:=aku) rfl rfl rfl (λk G=>ako (n:=37) (by decide) G)
  (by
   show Ag _ _ _ _ (de (fU true) _) (de (fU true) _);rw[e,e];refine agE rfl ?_
   repeat'(refine agc ?_ ?_;·first|exact λ_=>rfl|exact λ_=>N.w|exact λ_=>N.g|exact λ_=>N.r0|exact λ_=>N.r1|exact λ_=>N.r2|exact λ_=>N.c|exact λh=>absurd h (by decide))
   exact λ_ _=>rfl) (by kernel_rfl) ?_
 intro f l O M g X;simp only[aku,ayb,axI,beq_iff_eq,Ml] at g;rcases g with⟨rfl,g⟩|⟨rfl,F,E,y,g⟩;obtain⟨L,J⟩:=H l O M X g;rw[L,J];exact h;obtain⟨L,J⟩:=H _ O M X g;have v:=Mk X y;have u:=asu _ (show((l.take 13).map (SV.xv O)).length=13 by rw[ayA,F]) (akt E);rw[<-ay3 13 l,aze,aze,L,J,<-v,u];exact aks N _ h
end
end
section
section
structure nO(a b:RV)(i:Nat):Prop where
 nm:cd .str (cellAt a.rows (i:Int) 0)=cd .str (cellAt b.rows (i:Int) 0)
 q:Bq (ci a i) (ci b i)
 li:ci a i 2<=ci b i 2
 st:ci a i 4<=ci b i 4
 jp:ci a i 5<=ci b i 5
 s0:ci a i 9<=ci b i 9
 s1:ci a i 10<=ci b i 10
 s2:ci a i 11<=ci b i 11
 t0:ci a i 12<=ci b i 12
 t1:ci a i 13<=ci b i 13
 t2:ci a i 14<=ci b i 14
 ef:ci a i 15<=ci b i 15
 o:tY a i=0
 o':tY b i=0
variable{a b:RV}{i:Nat}
def akv{X:List XV}(V:vI TB M Z J I)(h:TB.Ev Z J (.ret X)):out Z I=out Z J:=by
 rw[mQ h,mQ (V.ev h)]
def akw(a:RV)(i:Nat)(h:tY a i=0):TB.Ev 75 (kS (cd .str (cellAt a.rows (i:Int) 0)) (ci a i)) (.ret [.i 0]):=by
 have:=(SA (cd .str (cellAt a.rows (i:Int) 0)) (tX _) (ci a i 1) (ci a i 2) (ci a i 3) (ci a i 4) (ci a i 5) (ci a i 6) (ci a i 7) (ci a i 8) (ci a i 9) (ci a i 10) (ci a i 11) (ci a i 12) (ci a i 13) (ci a i 14) (ci a i 15) (ci a i 16)).1;rw[show vC _ _ _ _ _ _ _ _ _ _ _ _ _ _ _ _ _=0 from h] at this;exact this
def akx(h:nO a b i):∃m,vI TB m 75 (kS (cd .str (cellAt a.rows (i:Int) 0)) (ci a i)) (kS (cd .str (cellAt a.rows (i:Int) 0)) (ci b i)):=by
 have Z:=akw b i h.o';rw[<-h.nm] at Z;exact asr (akw a i h.o) Z
def xP(h:nO a b i)(v:RV)(k:Nat):eF v b i k=eF v a i k:=by
 obtain⟨m,Z⟩:=akx h;have X:=aks h.q (ci v i) Z;obtain⟨o,V,R,rfl,-⟩:=t27 (ci v i 0) (ci v i 1) (ci v i 2) (ci v i 3) (ci v i 4) (ci v i 5) (ci v i 6) (ci v i 7) (ci v i 8) (ci v i 9) (ci v i 10) (ci v i 11) (ci v i 12) (cd .str (cellAt a.rows (i:Int) 0)) (tX _) (ci a i 1) (ci a i 2) (ci a i 3) (ci a i 4) (ci a i 5) (ci a i 6) (ci a i 7) (ci a i 8) (ci a i 9) (ci a i 10) (ci a i 11) (ci a i 12) (ci a i 13) (ci a i 14) (ci a i 15) (ci a i 16);have U:=akv X V;unfold eF EA oi;rw[<-h.nm];exact congrArg (xi · k) U
variable(W D A B C n:Int)(c d e g l:RV)
def aky(V:fF c d e g l)(h:nO a b i)(ae:Int)(Z X:RV)(U:Sl (cr 96 X i))(k:Nat):Mc W D A B C n c d e g l ae Z b X i k=Mc W D A B C n c d e g l ae Z a X i k:=by
 obtain⟨m,R⟩:=akx h;have Q:=asv h.q W D A B C n i ae c d e g l (cr 96 X i) (ci Z i) R;obtain⟨o,P,N,rfl,-⟩:=t90 W D A B C n c d e g l mR V i ae (ci Z i 0) (ci Z i 1) (ci Z i 2) (ci Z i 3) (ci Z i 4) (ci Z i 5) (ci Z i 6) (ci Z i 7) (ci Z i 8) (ci Z i 9) (ci Z i 10) (ci Z i 11) (ci Z i 12) (cd .str (cellAt a.rows (i:Int) 0)) (tX _) (ci a i 1) (ci a i 2) (ci a i 3) (ci a i 4) (ci a i 5) (ci a i 6) (ci a i 7) (ci a i 8) (ci a i 9) (ci a i 10) (ci a i 11) (ci a i 12) (ci a i 13) (ci a i 14) (ci a i 15) (ci a i 16) (cr 96 X i) U;have O:=akv Q P;unfold Mc oi;rw[<-h.nm];exact congrArg (xi · k) O
end
end
variable{V:List (List RV)}
section
section
variable{R:aT->Prop}{F:List LK}{t:T}{O:aa}{L:List PC}
variable(W D A B C r:Int)(l p x E f:RV)
def asw(h:fF l p x E f)(id:Int)(P:List XV->Prop)(X:∀e:Int,e≠0->P (axW 14 (.i 0)++[.i e]))(J:oJ W D r l p f->∀m<f.rows.length,ci f m 0=id->P (fu (ci f m)++[.i 0])):
  ∃o,TB.Ev 143 (wk W D A B C r l p x E f++[.i id]) o/\∃N,o=.ret N/\P N:=by
 refine dw rfl rfl (.inl rfl) ?_;obtain⟨M,I⟩:=rZ W D A B C r l p x E f mR h;simp only[wk] at M;simp[Sq,wk,aS M];refine bj (λV=> ?_) (λV=> ?_);have z:=h.sg.sm;refine zP (λZ=>∃i j:Nat,Z=[.i i,.i j]/\i<=j/\j<=f.rows.length) (λZ=>(xi Z 1-xi Z 0).toNat) ⟨0,f.rows.length,by simp[h.sg.len],by omega,by omega⟩ ?_;rintro _ ⟨i,j,rfl,H,y⟩;simp[xi,zO,h.sg.len,aaL (show j<=140737488355328 by omega) H];split;rename_i w;refine⟨by omega, ?_⟩;have G:((i:Int)+j)/2=(((i+j)/2:Nat):Int):=by omega
 have F:=B6 (i:=(i+j)/2) (by omega);rw[G,F];split;exact⟨⟨(i+j)/2+1,j,⟨rfl,rfl⟩,by omega,by omega⟩,by omega⟩;exact⟨⟨i,(i+j)/2,⟨rfl,rfl⟩,by omega,by omega⟩,by omega⟩;refine bj (λU=>⟨U,bj (λQ=>⟨U, ?_⟩) (λ_=>X 300 (by decide))⟩) (λ_=>X 300 (by decide));refine J (I V) i U ?_;simp only[vw,ci] at Q⊢;split at Q;omega;split at Q<;>omega;exact X _ V
def r4(a b c:Int)(d:Bool):List RV:=[.mk (.int .i64 a) [],.mk (.int .i64 b) [],.mk (.int .i64 c) [],.mk (.bool d) []]
def r5(a b c n:Int):List RV:=[.mk (.int .i64 a) [],.mk (.int .i64 b) [],.mk (.int .i64 c) [],.mk (.bool false) [],.mk (.int .i64 n) []]
def nz(a b:Int):Prop:=¬oi 139 [.i a,.i b] 0=0\/¬oi 139 [.i a,.i b] 1=0\/¬oi 139 [.i a,.i b] 2=0
def zX(A C:Int)(g:Nat->Int)(d w:Int):Prop:=(d=g 6/\w=g 7)\/(nz (g 6) (g 7)/\nz d w/\aR .mul .i64 (aR .mul .i64 A 841) 841<=aR .mul .i64 (oi 361 [.i (oi 139 [.i (g 6),.i (g 7)] 0),.i (oi 139 [.i (g 6),.i (g 7)] 1),.i (oi 139 [.i (g 6),.i (g 7)] 2),.i (oi 139 [.i d,.i w] 0),.i (oi 139 [.i d,.i w] 1),.i (oi 139 [.i d,.i w] 2)] 0) C)
structure lD(A C:Int)(g:Nat->Int)(bw i j:Nat)(v:List (List RV)):Prop where
 s:∀row∈v,∃d w:Nat,∃n,row=r5 (g 0) d w n/\zX A C g d w/\1<=w/\w<=bw/\(d<i\/d=i/\w<j)
 c:∀d w:Nat,zX A C g d w->1<=w->w<=bw->(d<i\/d=i/\w<j)->∃n,r5 (g 0) d w n∈v
variable{W D A B C r:Int}{l p x E f:RV}{g:Nat->Int}{bw i j:Nat}{v:List (List RV)}
def lD.nil:lD A C g bw 0 1 []:=⟨by simp,λd w _ Z _ h=>by omega⟩
def lD.y(h:lD A C g bw i j v)(Q:1<=j)(P:j<=bw)(n:Int)(N:zX A C g i j):lD A C g bw i (j+1) (v++[r5 (g 0) i j n]):=by
 refine⟨λM Z=> ?_,λd w X V U J=> ?_⟩;rcases axS.1 Z with Z|Z;obtain⟨d,w,n,e,X,V,U,J⟩:=h.s M Z;exact⟨d,w,n,e,X,V,U,by omega⟩;simp only[ayY] at Z;exact⟨i,j,n,Z,N,Q,P,by omega⟩;by_cases I:d=i/\w=j;obtain⟨rfl,rfl⟩:=I;exact⟨n,by simp⟩;obtain⟨n,H⟩:=h.c d w X V U (by omega);exact⟨n,by simp[H]⟩
def lD.n(h:lD A C g bw i j v)(U:¬zX A C g i j):lD A C g bw i (j+1) v:=by
 refine⟨λQ P=> ?_,λd w Z X V N=> ?_⟩;obtain⟨d,w,n,e,Z,X,V,N⟩:=h.s Q P;exact⟨d,w,n,e,Z,X,V,by omega⟩;by_cases M:d=i/\w=j;obtain⟨rfl,rfl⟩:=M;exact absurd Z U;exact h.c d w Z X V (by omega)
def lD.row(h:lD A C g bw i j v)(N:bw<j):lD A C g bw (i+1) 1 v:=by
 refine⟨λU Q=> ?_,λd w Z X V P=> ?_⟩;obtain⟨d,w,n,e,Z,X,V,P⟩:=h.s U Q;exact⟨d,w,n,e,Z,X,V,by omega⟩;exact h.c d w Z X V (by omega)
def xQ(A C:Int)(g:Nat->Int)(bw:Int)(Z:List RV):Prop:=∃d w:Nat,d<=8/\1<=w/\(w:Int)<=bw/\zX A C g d w/\Z=r4 (g 0) d w false
def xR(q:List (List RV))(k:Nat)(u:List (List RV)):Prop:=∀Z,Z∈u<->∃m<k,Z=r4 (aZ q m 0) (aZ q m 1) (aZ q m 2) (gV (cellAt q (m:Int) 3).val)
def xR.nil(q:List (List RV)):xR q 0 []:=λZ=>by simp
def xR.y{u:List (List RV)}(h:xR V Z u):xR V (Z+1) (u++[r4 (aZ V Z 0) (aZ V Z 1) (aZ V Z 2) (gV (cellAt V (Z:Int) 3).val)]):=λU=>by
 rw[axS,h U,ayY];refine⟨λe=> ?_,λ⟨m,Q,X⟩=> ?_⟩;rcases e with⟨m,Q,X⟩|e;exact⟨m,by omega,X⟩;exact⟨Z,by omega,e⟩;by_cases P:m=Z;subst P;exact .inr X;exact .inl ⟨m,by omega,X⟩
def xR.xQ{u:List (List RV)}(h:xR V V.length u)(Q:lD A C g bw 9 1 v)(P:∀X,X∈V<->X∈v)(X:List RV):X∈u<->xQ A C g bw X:=by
 rw[h X];have N:∀m(Z:m<V.length)(d w:Nat)(n:Int),V[m]=r5 (g 0) d w n->r4 (aZ V m 0) (aZ V m 1) (aZ V m 2) (gV (cellAt V (m:Int) 3).val)=r4 (g 0) d w false:=λm Z d w n e=>by
  simp[aZ,cellAt,Z,e,r5,r4,bg,gV]
 refine⟨λ⟨m,Z,e⟩=> ?_,λ⟨d,w,M,U,J,I,e⟩=> ?_⟩;obtain⟨d,w,n,M,U,J,I,F⟩:=Q.s _ ((P _).1 (ayT Z));exact⟨d,w,by omega,J,by omega,U,by rw[e,N m Z d w n M]⟩;obtain⟨n,H⟩:=Q.c d w I U (by omega) (by omega);obtain⟨m,Z,G⟩:=aBb ((P _).2 H);exact⟨m,Z,by rw[e,N m Z d w n G]⟩
end
end
variable{X:Nat→Int}
section
section
variable{R:aT->Prop}{x:List LK}{t:T}{O:aa}{L:List PC}
variable(W D A B C s:Int)(d f l m p:RV)
def mV(A C:Int)(g:Nat->Int)(id X V U Q P:Int)(Z:List RV):Prop:=
 (g 3≠1/\Z=r4 id 0 0 true)\/(g 4=1/\g 8<=X/\Z=r4 (g 0) 0 0 false)\/(g 4=2/\g 8<=V/\Z=r4 (g 0) 0 0 false)\/
 (g 4=3/\xQ A C g U Z)\/(g 4=4/\xQ A C g Q Z)\/(g 4=5/\xQ A C g P Z)\/((g 4≠1/\g 4≠2/\g 4≠3/\g 4≠4/\g 4≠5/\g 4≠9)/\Z=r4 id 0 0 false)
def kC{P:List (List RV)->Int->Prop}(h:P V U):∃Z X,(aF V=aF Z/\U=X)/\P Z X:=⟨V,U,⟨rfl,rfl⟩,h⟩
def IF{j:Nat}(Q:lD U N X Z M j V)(H:V.length+1<=3*M+j)(P:1<=j)(J:j<=Z)(G:M<9)(F:Z<=3)(n:Int)(I:zX U N X M j):
  (V.length:Int)<=536870912/\∃w,aF (V++[[RV.mk (.int .i64 (X 0)) [],.mk (.int .i64 M) [],.mk (.int .i64 j) [],.mk (.bool false) [],.mk (.int .i64 n) []]])=aF w/\w.length+1<=3*M+(j+1)/\lD U N X Z M (j+1) w:=
 ⟨by omega,_,rfl,by simp;omega,Q.y P J n I⟩
set_option maxHeartbeats 8000000 in
def akz (h:fF d f l m p) (id:Int) (nm:RV) (a6:vA nm) (y0 y1 y2 y3 y4 y5 y6 y7 y8 y9 an E z x av a0:Int) (g:Nat->Int) (w:TB.Ev 143 (wk W D A B C s d f l m p++[.i id]) (.ret (fu g++[.i (g 14)])))
  (P:List (List RV)->Int->Prop) (Q:∀e,e≠0->¬(g 14=0/\vC nm y0 y1 y2 y3 y4 y5 y6 y7 y8 y9 an E z x av a0=0)->P [] e)
  (U:∀v,v.length<=100->g 14=0->vC nm y0 y1 y2 y3 y4 y5 y6 y7 y8 y9 an E z x av a0=0->(g 4≠9->∀Z,Z∈v<->mV A C g id y3 y4 E z x Z)->P v 0):∃o,TB.Ev 78 (wk W D A B C s d f l m p++[.i id,.r nm,.i y0,.i y1,.i y2,.i y3,.i y4,.i y5,.i y6,.i y7,.i y8,.i y9,.i an,.i E,.i z,.i x,.i av,.i a0]) o/\∃v e,o=.ret [.r (aF v),.i e]/\P v e:=by
 refine dw rfl rfl (.inl rfl) ?_;have G:=SA nm a6 y0 y1 y2 y3 y4 y5 y6 y7 y8 y9 an E z x av a0;simp only[wk,fu,axY,ax2] at w;generalize vC nm y0 y1 y2 y3 y4 y5 y6 y7 y8 y9 an E z x av a0=a7 at G Q U;by_cases J:g 14=0;by_cases I:a7=0;have ht:=G.2 I;replace U:=λv H hm=>U v H J I hm
 have X:g 4=1\/g 4=2\/g 4=9\/g 4=3\/g 4=4\/g 4=5\/(g 4≠1/\g 4≠2/\g 4≠9/\g 4≠3/\g 4≠4/\g 4≠5):=by omega
 rcases X with X|X|X|X|X|X|⟨k1,k2,k3,k4,k5,k6⟩
 ·simp(config:={maxSteps:=10000000}) [lB,wk,aS w,aS G.1,J,I,X];refine bj (λha=>bj (λQ=>kC (U _ (by simp) ?_)) (λQ=>kC (U _ (by simp) ?_))) (λha=>bj (λQ=>kC (U _ (by simp) ?_)) (λQ=>kC (U _ (by simp) ?_)))
  all_goals
   intro _ Z
   first|simp[mV,Q,X,r4,or_comm,show g 8<=y3 by omega]|simp[mV,Q,X,r4,or_comm,show¬g 8<=y3 by omega]
 ·simp(config:={maxSteps:=10000000}) [lB,wk,aS w,aS G.1,J,I,X];refine bj (λha=>bj (λQ=>kC (U _ (by simp) ?_)) (λQ=>kC (U _ (by simp) ?_))) (λha=>bj (λQ=>kC (U _ (by simp) ?_)) (λQ=>kC (U _ (by simp) ?_)))
  all_goals
   intro _ Z
   first|simp[mV,Q,X,r4,or_comm,show g 8<=y4 by omega]|simp[mV,Q,X,r4,or_comm,show¬g 8<=y4 by omega]
 simp(config:={maxSteps:=10000000}) [lB,wk,aS w,aS G.1,J,I,X];refine bj (λ_=>kC (U _ (by simp) λk=>absurd X k)) (λ_=>kC (U _ (by simp) λk=>absurd X k));simp(config:={maxSteps:=10000000}) [lB,wk,aS w,aS G.1,J,I,X];have hT:1<=E/\E<=3:=ht.1;obtain⟨bw,a1⟩:∃n:Nat,E=n:=⟨E.toNat,by omega⟩;subst a1;refine bM 9 (λi N=>∃v,N=[.r (aF v)]/\v.length<=3*i/\lD A C g bw i 1 v) ⟨0,rfl,by omega,[],rfl,by simp,.nil⟩ ?_;rintro i _ hi ⟨v,rfl,H,V⟩;simp;split;rename_i a4;have F:i<9:=by omega
 refine bM (bw+1) (λj N=>1<=j/\∃v,N=[.r (aF v)]/\v.length+1<=3*i+j/\lD A C g bw i j v) ⟨1,rfl,by omega,by omega,v,rfl,by omega,V⟩ ?_;rintro j _ hj ⟨af,v,rfl,H,V⟩;simp;split
 ·rename_i ag;have a2:j<bw+1:=by omega
  simp[bG a2 (show bw+1<=140737488355328 by omega)]
  repeat'(first|intro _|split)
  all_goals first
   |contradiction
   |exact⟨v,rfl,by omega,V.n (by unfold zX nz;rintro(⟨a,b⟩|⟨a,b,c⟩)<;>contradiction)⟩
   |exact IF V H af ag F (by omega) _ (.inl ⟨by assumption,by assumption⟩)
   |exact IF V H af ag F (by omega) _ (.inr ⟨by assumption,by assumption,by assumption⟩)
 simp[bG F (show 9<=140737488355328 by omega)];exact⟨v,rfl,by omega,V.row (by omega)⟩;obtain rfl:i=9:=by omega
 rw[nM];refine⟨_,Iu (by simp;omega), ?_⟩;have hl:(aU (aI.lex [4] true).lt v).length=v.length:=jC;have hm:∀Z,Z∈aU (aI.lex [4] true).lt v<->Z∈v:=λ_=>JQ
 simp;generalize hq:aU (aI.lex [4] true).lt v=q at hl hm;refine bM q.length (λi N=>∃u,N=[.r (aF u)]/\u.length=i/\xR q i u) ⟨0,rfl,by omega,[],rfl,rfl,.nil q⟩ ?_;rintro k _ a5 ⟨u,rfl,hu,hC⟩;simp;split;rename_i a3;refine⟨a3,by omega, ?_⟩;rw[bG (show k<q.length by omega) (show q.length<=140737488355328 by omega)];exact⟨_,rfl,by simp;omega,hC.y⟩;obtain rfl:k=q.length:=by omega
 have hR:=hC.xQ V hm;refine bj (λM=>kC (U u (by omega) ?_)) (λM=>⟨by omega,kC (U _ (by simp;omega) ?_)⟩);intro _ Z;rw[hR Z];simp[mV,M,X];intro _ Z;rw[axS,hR Z,ayY];simp[mV,M,X,r4,or_comm];simp(config:={maxSteps:=10000000}) [lB,wk,aS w,aS G.1,J,I,X];have hT:1<=z/\z<=3:=ht.2.1;obtain⟨bw,a1⟩:∃n:Nat,z=n:=⟨z.toNat,by omega⟩;subst a1;refine bM 9 (λi N=>∃v,N=[.r (aF v)]/\v.length<=3*i/\lD A C g bw i 1 v) ⟨0,rfl,by omega,[],rfl,by simp,.nil⟩ ?_;rintro i _ hi ⟨v,rfl,H,V⟩;simp;split;rename_i a4;have F:i<9:=by omega
 refine bM (bw+1) (λj N=>1<=j/\∃v,N=[.r (aF v)]/\v.length+1<=3*i+j/\lD A C g bw i j v) ⟨1,rfl,by omega,by omega,v,rfl,by omega,V⟩ ?_;rintro j _ hj ⟨af,v,rfl,H,V⟩;simp;split
 ·rename_i ag;have a2:j<bw+1:=by omega
  simp[bG a2 (show bw+1<=140737488355328 by omega)]
  repeat'(first|intro _|split)
  all_goals first
   |contradiction
   |exact⟨v,rfl,by omega,V.n (by unfold zX nz;rintro(⟨a,b⟩|⟨a,b,c⟩)<;>contradiction)⟩
   |exact IF V H af ag F (by omega) _ (.inl ⟨by assumption,by assumption⟩)
   |exact IF V H af ag F (by omega) _ (.inr ⟨by assumption,by assumption,by assumption⟩)
 simp[bG F (show 9<=140737488355328 by omega)];exact⟨v,rfl,by omega,V.row (by omega)⟩;obtain rfl:i=9:=by omega
 rw[nM];refine⟨_,Iu (by simp;omega), ?_⟩;have hl:(aU (aI.lex [4] true).lt v).length=v.length:=jC;have hm:∀Z,Z∈aU (aI.lex [4] true).lt v<->Z∈v:=λ_=>JQ
 simp;generalize hq:aU (aI.lex [4] true).lt v=q at hl hm;refine bM q.length (λi N=>∃u,N=[.r (aF u)]/\u.length=i/\xR q i u) ⟨0,rfl,by omega,[],rfl,rfl,.nil q⟩ ?_;rintro k _ a5 ⟨u,rfl,hu,hC⟩;simp;split;rename_i a3;refine⟨a3,by omega, ?_⟩;rw[bG (show k<q.length by omega) (show q.length<=140737488355328 by omega)];exact⟨_,rfl,by simp;omega,hC.y⟩;obtain rfl:k=q.length:=by omega
 have hR:=hC.xQ V hm;refine bj (λM=>kC (U u (by omega) ?_)) (λM=>⟨by omega,kC (U _ (by simp;omega) ?_)⟩);intro _ Z;rw[hR Z];simp[mV,M,X];intro _ Z;rw[axS,hR Z,ayY];simp[mV,M,X,r4,or_comm];simp(config:={maxSteps:=10000000}) [lB,wk,aS w,aS G.1,J,I,X];have hT:1<=x/\x<=3:=ht.2.2;obtain⟨bw,a1⟩:∃n:Nat,x=n:=⟨x.toNat,by omega⟩;subst a1;refine bM 9 (λi N=>∃v,N=[.r (aF v)]/\v.length<=3*i/\lD A C g bw i 1 v) ⟨0,rfl,by omega,[],rfl,by simp,.nil⟩ ?_;rintro i _ hi ⟨v,rfl,H,V⟩;simp;split;rename_i a4;have F:i<9:=by omega
 refine bM (bw+1) (λj N=>1<=j/\∃v,N=[.r (aF v)]/\v.length+1<=3*i+j/\lD A C g bw i j v) ⟨1,rfl,by omega,by omega,v,rfl,by omega,V⟩ ?_;rintro j _ hj ⟨af,v,rfl,H,V⟩;simp;split
 ·rename_i ag;have a2:j<bw+1:=by omega
  simp[bG a2 (show bw+1<=140737488355328 by omega)]
  repeat'(first|intro _|split)
  all_goals first
   |contradiction
   |exact⟨v,rfl,by omega,V.n (by unfold zX nz;rintro(⟨a,b⟩|⟨a,b,c⟩)<;>contradiction)⟩
   |exact IF V H af ag F (by omega) _ (.inl ⟨by assumption,by assumption⟩)
   |exact IF V H af ag F (by omega) _ (.inr ⟨by assumption,by assumption,by assumption⟩)
 simp[bG F (show 9<=140737488355328 by omega)];exact⟨v,rfl,by omega,V.row (by omega)⟩;obtain rfl:i=9:=by omega
 rw[nM];refine⟨_,Iu (by simp;omega), ?_⟩;have hl:(aU (aI.lex [4] true).lt v).length=v.length:=jC;have hm:∀Z,Z∈aU (aI.lex [4] true).lt v<->Z∈v:=λ_=>JQ
 simp;generalize hq:aU (aI.lex [4] true).lt v=q at hl hm;refine bM q.length (λi N=>∃u,N=[.r (aF u)]/\u.length=i/\xR q i u) ⟨0,rfl,by omega,[],rfl,rfl,.nil q⟩ ?_;rintro k _ a5 ⟨u,rfl,hu,hC⟩;simp;split;rename_i a3;refine⟨a3,by omega, ?_⟩;rw[bG (show k<q.length by omega) (show q.length<=140737488355328 by omega)];exact⟨_,rfl,by simp;omega,hC.y⟩;obtain rfl:k=q.length:=by omega
 have hR:=hC.xQ V hm;refine bj (λM=>kC (U u (by omega) ?_)) (λM=>⟨by omega,kC (U _ (by simp;omega) ?_)⟩);intro _ Z;rw[hR Z];simp[mV,M,X];intro _ Z;rw[axS,hR Z,ayY];simp[mV,M,X,r4,or_comm];simp(config:={maxSteps:=10000000}) [lB,wk,aS w,aS G.1,J,I,k1,k2,k3,k4,k5,k6];refine bj (λM=>kC (U _ (by simp) ?_)) (λM=>kC (U _ (by simp) ?_));intro _ Z;simp[mV,M,k1,k2,k3,k4,k5,k6,r4];intro _ Z;simp[mV,M,k1,k2,k3,k4,k5,k6,r4,or_comm];simp(config:={maxSteps:=10000000}) [lB,wk,aS w,aS G.1,J,I];exact kC (Q _ I λk=>I k.2);simp(config:={maxSteps:=10000000}) [lB,wk,aS w,aS G.1,J];refine bj (λM=>bj (λI=>kC (Q _ J λk=>J k.1)) (λI=>kC (Q _ I λk=>J k.1))) (λ_=>kC (Q _ J λk=>J k.1))
end
end
variable{k:Int}
section
section
variable{R:aT->Prop}{f:List LK}{t:T}{O:aa}{L:List PC}
def aa2(v:RV)(a b c:Int)(d:Bool)(k:Nat):Prop:=a=ci v k 0/\b=ci v k 1/\c=ci v k 2/\d=cb v k 3
def aa3(v:RV)(a b c:Int)(d:Bool):Prop:=∃k<v.rows.length,aa2 v a b c d k
def asx(v:RV)(W:Sl v)(a b c:Int)(d:Bool):∃o,TB.Ev 173 [.r v,.i a,.i b,.i c,.b d] o/\∃e,o=.ret [.i e]/\(0<=e<->aa3 v a b c d):=by
 refine dw rfl rfl (.inl rfl) ?_;simp[Se];refine bM v.rows.length (λi U=>U=[]/\∀k<i,¬aa2 v a b c d k) ⟨0,rfl,by omega,rfl,by simp⟩ ?_;rintro i _ X ⟨rfl,V⟩;simp[W.len];refine bj (λX=>⟨X,bj (λZ=> ?_) (λZ=> ?_)⟩) (λQ=> ?_);exact⟨i,X,Z⟩;rw[bG X W.sm];exact⟨rfl,oK V Z⟩;rintro⟨k,P,Z⟩;exact V k (by omega) Z
def asy(v:RV)(Z:Sl v)(a b c:Int)(d:Bool):ob 102 [.r v,.i a,.i b,.i c,.b d] 0=true<->aa3 v a b c d:=by
 obtain⟨_,X,e,rfl,W⟩:=asx v Z a b c d;have V:TB.Ev 102 [.r v,.i a,.i b,.i c,.b d] (.ret [.b (decide (0<=e))]):=by
  refine kR rfl rfl (.inl rfl) ?_;simp[Sd,aS X]
 rw[<-W,ob,mQ V];simp[xb]
def asz(s:RV)(V:vA s)(U Q P N M J I H Z X W G F E D C:Int):∃o,TB.Ev 75 [.r s,.i U,.i Q,.i P,.i N,.i M,.i J,.i I,.i H,.i Z,.i X,.i W,.i G,.i F,.i E,.i D,.i C] o/\∃e,o=.ret [.i e]/\(e=0->(1<=Z/\Z<=1048576)/\(1<=X/\X<=1048576)/\1<=W/\W<=1048576):=by
 refine dw rfl rfl (.inl rfl) ?_;simp[Si,ajE s V];intros;omega
def spd(Z:RV)(i:Nat)(h:tY Z i=0):(1<=ci Z i 9/\ci Z i 9<=1048576)/\(1<=ci Z i 10/\ci Z i 10<=1048576)/\1<=ci Z i 11/\ci Z i 11<=1048576:=by
 obtain⟨_,X,e,rfl,W⟩:=asz (cd .str (cellAt Z.rows (i:Int) 0)) (tX _) (ci Z i 1) (ci Z i 2) (ci Z i 3) (ci Z i 4) (ci Z i 5) (ci Z i 6) (ci Z i 7) (ci Z i 8) (ci Z i 9) (ci Z i 10) (ci Z i 11) (ci Z i 12) (ci Z i 13) (ci Z i 14) (ci Z i 15) (ci Z i 16);refine W ?_;have:=h;simp only[tY,vC,oi,mQ X,xi] at this;exact this
def asA(V:1<=N)(X:N<=1073741824)(Q:-(N*1073741824)<=U/\U<=N*1073741824)(Z:k=aR .quo .i64 (aR .sub .i64 U (aR .rem .i64 (aR .add .i64 (aR .rem .i64 U N) N) N)) N):-1073741825<=k/\k<=1073741825:=by
 have P:N*1073741824<=1073741824*1073741824:=ayM X (by omega);have M:-N<U.tmod N/\U.tmod N<N:=by
  have J:=az5 U N;have I:=azX U.natAbs (show 0<N.natAbs by omega);omega
 have W:0<=(U.tmod N+N).tmod N/\(U.tmod N+N).tmod N<N:=⟨Int.tmod_nonneg _ (by omega),Int.tmod_lt_of_pos _ (by omega)⟩;simp only[aR] at Z;rw[fk (n:=U.tmod N+N) (by omega) (by omega),fk (n:=U-_) (by omega) (by omega)] at Z;generalize(U.tmod N+N).tmod N=m at Z W;have H:-1073741825<=(U-m).tdiv N/\(U-m).tdiv N<=1073741825:=by
  refine⟨?_, ?_⟩;have:=Int.tdiv_le_tdiv (c:=N) (by omega) (show N*-1073741825<=U-m by omega)
  rwa [aAL _ (by omega)] at this
  have:=Int.tdiv_le_tdiv (c:=N) (by omega) (show U-m<=N*1073741825 by omega)
  rwa [aAL _ (by omega)] at this
 rw[fk (by omega) (by omega)] at Z;omega
def akB(a b:Int)(Z:1<=b)(X:b<=1073741824)(W:-(b*1073741824)<=a/\a<=b*1073741824):∃o,TB.Ev 371 [.i a,.i b] o/\∃q,o=.ret [.i q]∧-1073741825<=q/\q<=1073741825:=by
 refine dw rfl rfl (.inl rfl) ?_;simp[R6,show b≠0 by omega];exact asA Z X W rfl
def asB(a b c:Int)(Z:0<=a)(X:a<=b):∃o,TB.Ev 354 [.i a,.i b,.i c] o/\∃q r e,o=.ret [.i q,.i r,.i e]/\(-1073741826<=q/\q<=1073741826)∧-1073741826<=r/\r<=1073741826:=by
 refine dw rfl rfl (.inl rfl) ?_;by_cases h:gX a b=true;have W:=h;simp only[gX,axI,decide_eq_true_eq] at W;simp[Im,h];refine bj (λ_=>⟨_,_,⟨rfl,rfl⟩,by omega,by omega⟩) (λH=>bj (λ_=>⟨_,_,⟨rfl,rfl⟩,by omega,by omega⟩) (λG=> ?_));have V:a*c<=b*1073741824:=Int.le_trans (azR (show c<=1073741824 by omega) Z) (ayM X (by omega));have U:-(b*1073741824)<=a*c:=by
  have F:a*-1073741824<=a*c:=azR (show-1073741824<=c by omega) Z;omega
 have E:b*1073741824<=1073741824*1073741824:=ayM (by omega) (by omega);have Q:aR .mul .i64 a c=a*c:=fk (by omega) (by omega);have P:aR .sub .i64 0 a=-a:=by simp only[aR];rw[fk (by omega) (by omega)];omega
 have N:aR .mul .i64 (-a) c=-(a*c):=by simp only[aR];rw[Int.neg_mul,fk (by omega) (by omega)]
 obtain⟨_,M,q,rfl,D,C⟩:=akB (a*c) b (by omega) (by omega) ⟨U,V⟩;obtain⟨_,J,r,rfl,B,A⟩:=akB (-(a*c)) b (by omega) (by omega) ⟨by omega,by omega⟩;rw[Q,aS M];simp;rw[P,N,aS J];simp;have I:aR .sub .i64 0 r=-r:=by simp only[aR];rw[fk (by omega) (by omega)];omega
 refine⟨_,_,⟨rfl,rfl⟩,⟨by omega,by omega⟩, ?_⟩;rw[I];omega;simp[Im,h];exact⟨_,_,⟨rfl,rfl⟩,by omega,by omega⟩
def akC(V:Int)(Z X W:RV)(P:Sl Z)(N:Sl X)(M:Sl W)(ae a b:Int):∃o,TB.Ev 310 [.i V,.r Z,.r X,.r W,.i ae,.i a,.i b] o/\∃q r e,o=.ret [.i q,.i r,.i e]/\(-1073741826<=q/\q<=1073741826)∧-1073741826<=r/\r<=1073741826:=by
 refine dw rfl rfl (.inl rfl) ?_;simp[Sa,aj7 V Z X W P N M ae];refine bj (λ_=>bj (λ_=>bj (λU=> ?_) (λ_=>⟨_,_,⟨rfl,rfl⟩,by omega,by omega⟩)) (λ_=>⟨_,_,⟨rfl,rfl⟩,by omega,by omega⟩)) (λ_=>⟨_,_,⟨rfl,rfl⟩,by omega,by omega⟩);obtain⟨_,Q,q,r,e,rfl,J,I⟩:=asB a b (oi 353 [.i V,.r Z,.r X,.r W,.i ae] 0) U.1 U.2;exact⟨q,r,⟨congrArg (xi · 0) (mQ Q),congrArg (xi · 1) (mQ Q)⟩,J,I⟩
def asC(V:Int)(Z X W:RV)(Q:Sl Z)(P:Sl X)(N:Sl W)(c:Nat->Int):0<=oi 249 ([.i V,.r Z,.r X,.r W]++fu c) 0/\oi 249 ([.i V,.r Z,.r X,.r W]++fu c) 0<=2147483652:=by
 have h:∃o,TB.Ev 249 ([.i V,.r Z,.r X,.r W]++fu c) o/\∃q,o=.ret [.i q]/\0<=q/\q<=2147483652:=by
  refine dw rfl rfl (.inl rfl) ?_;obtain⟨_,U,q,r,e,rfl,M,H⟩:=akC V Z X W Q P N (c 2) (c 12) (c 13);obtain⟨_,I,G,J,F,rfl,E,D⟩:=akC V Z X W Q P N (c 2) (c 10) (c 11);simp[Sb,fu];rw[aS U];simp;rw[aS I];simp;rw[show aR .sub .i64 q J=q-J from fk (by omega) (by omega)];omega
 obtain⟨_,U,q,rfl,M⟩:=h;simp only[oi,mQ U,xi];exact M
end
end
section
section
variable{f g:RV}
def S7(h:U<=N)(W:1<=U)(V:N<=1048576)(Z:0<=k/\k<=2147483652):aR .mul .i64 (aR .mul .i64 841 U) k<=aR .mul .i64 (aR .mul .i64 841 N) k:=by
 simp only[aR];rw[fk (n:=841*U) (by omega) (by omega),fk (n:=841*N) (by omega) (by omega)];have R:0<=841*U*k:=Int.mul_nonneg (by omega) Z.1;have X:841*U*k<=841*N*k:=ayM (by omega) Z.1;have Q:841*N*k<=881852416*2147483652:=Int.le_trans (ayM (show 841*N<=881852416 by omega) Z.1) (azR Z.2 (by omega));rw[fk (n:=841*U*k) (by omega) (by omega),fk (n:=841*N*k) (by omega) (by omega)];exact X
def aa4(W:nO f g Z){V R Q:RV}(L:Sl V)(J:Sl R)(I:Sl Q){q d l:Int}(H:M<3)(h:IA U V R Q g Z X N k q d l M=true):IA U V R Q f Z X N k q d l M=true:=by
 simp only[IA,decide_eq_true_eq] at h⊢;have P:=spd f Z W.o;have O:=spd g Z W.o';have G:=asC U V R Q L J I X;have e:ci g Z (M+6)=ci f Z (M+6)/\ci f Z (M+9)<=ci g Z (M+9)/\1<=ci f Z (M+9)/\ci g Z (M+9)<=1048576:=by
  match M,H with
  |0,_=>exact⟨W.q.r0.symm,W.s0,P.1.1,O.1.2⟩
  |1,_=>exact⟨W.q.r1.symm,W.s1,P.2.1.1,O.2.1.2⟩
  |2,_=>exact⟨W.q.r2.symm,W.s2,P.2.2.1,O.2.2.2⟩
 rw[e.1] at h;exact Int.lt_of_le_of_lt (S7 e.2.1 e.2.2.1 e.2.2.2 G) h
def asD(W:nO f g Z){V R Q M:RV}(P:Sl V)(O:Sl R)(N:Sl Q){s:Nat->Int}(L:X 4=7->nO f g ((X 9).toNat-1)):∀j,cT U V R Q g Z M X s j=true->cT U V R Q f Z M X s j=true
 |0,h=>by
  simp only[cT] at h⊢;have a:=W.t0;have b:=W.t1;have c:=W.t2
  repeat'(first|split at h|exact h)
  all_goals(rename_i k;simp only[*,if_true,if_false,decide_eq_true_eq] at h⊢)
  all_goals first|omega|(simp_all;omega)|simp_all
 |1,h=>by
  simp only[cT] at h⊢;split at h;rename_i k;rw[if_pos k];exact aa4 W P O N (by omega) h;rename_i k;rw[if_neg k];split at h;rename_i k;rw[if_pos k];exact aa4 W P O N (by omega) h;rename_i k;rw[if_neg k];split at h;rename_i k;rw[if_pos k];exact aa4 W P O N (by omega) h;cases h
 |2,h=>by
  simp only[cT] at h⊢;have a:=W.st;have b:=W.jp;split at h;rename_i k;rw[if_pos k];simp only[decide_eq_true_eq] at h⊢;omega;rename_i k;rw[if_neg k];split at h;rename_i k;rw[if_pos k];simp only[decide_eq_true_eq] at h⊢;omega;cases h
 |3,h=>by
  simp only[cT] at h⊢;split at h;rename_i k;rw[if_pos k];have a:=W.li;have b:=(L k).q.w;simp only[decide_eq_true_eq] at h⊢;omega;cases h
 |j+4,h=>by simp[cT] at h
def asE{b Z:Nat->Bool}{js:List Nat}(h:∀j,Z j=true->b j=true)(X:iZ b U js=[]):iZ Z U js=[]:=by
 simp only[iZ,aBa,List.filter_eq_nil_iff] at X⊢;exact λj W k=>X j W (h j k)
def akD{X:Nat}(R:nO f g X){Q:Int}{W V U P:RV}(O:Sl W)(N:Sl V)(M:Sl U){Z:List (List RV)}{L:Nat->Int}:∀n,n<=Z.length->(∀k<Z.length,aZ Z k 4=7->nO f g ((aZ Z k 9).toNat-1))->iJ Q W V U f X P Z L n=[]->iJ Q W V U g X P Z L n=[]
 |0,_,_,_=>rfl
 |n+1,H,J,h=>by
  simp only[iJ,aAU] at h⊢;refine⟨akD R O N M n (by omega) J h.1, ?_⟩;have I:=h.2;split at I;rename_i k;rw[if_pos k];rename_i k;rw[if_neg k];exact asE (asD R O N M (J n (by omega))) I
end
end
section
section
variable(W D A B C y:Int)(o s u x l:RV)
def asF(h:fF o s u x l)(id:Int):∃g:Nat->Int,TB.Ev 143 (wk W D A B C y o s u x l++[.i id]) (.ret (fu g++[.i (g 14)]))/\(g 14=0->oJ W D y o s l/\∃m<l.rows.length,ci l m 0=id/\g 4=ci l m 4):=by
 obtain⟨_,X,Z,rfl,g,rfl,V⟩:=asw W D A B C y o s u x l h id (λZ=>∃g:Nat->Int,Z=fu g++[.i (g 14)]/\(g 14=0->oJ W D y o s l/\∃m<l.rows.length,ci l m 0=id/\g 4=ci l m 4))
  (λe U=>⟨λk=>if k=14 then e else 0,rfl,λh=>absurd h U⟩) (λR m Q hid=>⟨λk=>if k=14 then 0 else ci l m k,rfl,λ_=>⟨R,m,Q,hid,rfl⟩⟩)
 exact⟨g,X,V⟩
def akE{Z V R:Int}(h:mV A C X U N k Z V R Q):∃a b c d,Q=r4 a b c d:=by
 rcases h with h|h|h|⟨_,d,w,_,_,_,_,h⟩|⟨_,d,w,_,_,_,_,h⟩|⟨_,d,w,_,_,_,_,h⟩|h;exact⟨_,_,_,_,h.2⟩;exact⟨_,_,_,_,h.2.2⟩;exact⟨_,_,_,_,h.2.2⟩;exact⟨_,_,_,_,h⟩;exact⟨_,_,_,_,h⟩;exact⟨_,_,_,_,h⟩;exact⟨_,_,_,_,h.2⟩
def aa5(P:U<=N)(h:xQ A C X U Q):xQ A C X N Q:=by
 obtain⟨d,w,Z,V,O,R⟩:=h;exact⟨d,w,Z,V,by omega,R⟩
def asG{Z V R P O M L J:Int}(a:N<=P)(b:k<=O)(I:Z<=M)(H:V<=L)(G:R<=J)(h:mV A C X U N k Z V R Q):mV A C X U P O M L J Q:=by
 rcases h with h|h|h|h|h|h|h;exact .inl h;exact .inr (.inl ⟨h.1,by omega,h.2.2⟩);exact .inr (.inr (.inl ⟨h.1,by omega,h.2.2⟩));exact .inr (.inr (.inr (.inl ⟨h.1,aa5 A C I h.2⟩)));exact .inr (.inr (.inr (.inr (.inl ⟨h.1,aa5 A C H h.2⟩))));exact .inr (.inr (.inr (.inr (.inr (.inl ⟨h.1,aa5 A C G h.2⟩)))));exact .inr (.inr (.inr (.inr (.inr (.inr h)))))
def akF(N:∀M∈V,∃a b c d,M=r4 a b c d)(a b c:Int)(d:Bool):aa3 (aF V) a b c d<->r4 a b c d∈V:=by
 refine⟨λ⟨k,Z,U,R,Q,P⟩=> ?_,λh=> ?_⟩;have O:k<V.length:=Z;clear Z;have X:=ayT O;obtain⟨L,J,I,H,e⟩:=N _ X;rw[e] at X;simp[ci,cb,cellAt,O,e,r4,bg,gV] at U R Q P;rw[U,R,Q,P];exact X;obtain⟨k,Z,e⟩:=aBb h;refine⟨k,Z, ?_⟩;simp[aa2,ci,cb,cellAt,Z,e,r4,bg,gV]
def akG(h:fF o s u x l)(f:RV)(i:Nat)(id:Int)(g:Nat->Int)(Q:TB.Ev 143 (wk W D A B C y o s u x l++[.i id]) (.ret (fu g++[.i (g 14)]))):
  ∃v e,Cb W D A B C y o s u x l f id i=[.r (aF v),.i e]/\v.length<=100/\(e=0->g 14=0)/\(e=0->g 4≠9->∀X,X∈v<->mV A C g id (ci f i 4) (ci f i 5) (ci f i 12) (ci f i 13) (ci f i 14) X)/\(g 14=0->tY f i=0->e=0):=by
 by_cases V:g 14=0/\tY f i=0;obtain⟨_,U,v,e,rfl,Z⟩:=akz W D A B C y o s u x l h id _ (tX (cellAt f.rows (i:Int) 0)) (ci f i 1) (ci f i 2) (ci f i 3) (ci f i 4) (ci f i 5) (ci f i 6) (ci f i 7) (ci f i 8) (ci f i 9) (ci f i 10) (ci f i 11) (ci f i 12) (ci f i 13) (ci f i 14) (ci f i 15) (ci f i 16) g Q
  (λv e=>v.length<=100/\e=0/\(g 4≠9->∀X,X∈v<->mV A C g id (ci f i 4) (ci f i 5) (ci f i 12) (ci f i 13) (ci f i 14) X)) (λe _ P=>absurd V P) (λv R _ _ O=>⟨R,rfl,O⟩)
 exact⟨v,e,mQ U,Z.1,λ_=>V.1,λ_=>Z.2.2,λ_ _=>Z.2.1⟩;obtain⟨_,U,v,e,rfl,Z⟩:=akz W D A B C y o s u x l h id _ (tX (cellAt f.rows (i:Int) 0)) (ci f i 1) (ci f i 2) (ci f i 3) (ci f i 4) (ci f i 5) (ci f i 6) (ci f i 7) (ci f i 8) (ci f i 9) (ci f i 10) (ci f i 11) (ci f i 12) (ci f i 13) (ci f i 14) (ci f i 15) (ci f i 16) g Q
  (λv e=>v.length<=100/\(e=0->g 14=0/\tY f i=0)) (λe N _=>⟨by simp,λh=>absurd h N⟩) (λv R a b _=>⟨R,λ_=>⟨a,b⟩⟩)
 exact⟨v,e,mQ U,Z.1,λh=>(Z.2 h).1,λh=>absurd (Z.2 h) V,λa b=>absurd ⟨a,b⟩ V⟩
variable{f E:RV}
def asH(h:fF o s u x l)(X:nO f E Z)(id a b c:Int)(d:Bool)(I:∀m<l.rows.length,oJ W D y o s l->ci l m 0=id->ci l m 4≠9)
  (V:xi (Cb W D A B C y o s u x l f id Z) 1=0)(U:ob 102 [.r (xr (Cb W D A B C y o s u x l f id Z) 0),.i a,.i b,.i c,.b d] 0=true):
  xi (Cb W D A B C y o s u x l E id Z) 1=0/\ob 102 [.r (xr (Cb W D A B C y o s u x l E id Z) 0),.i a,.i b,.i c,.b d] 0=true:=by
 obtain⟨g,P,H⟩:=asF W D A B C y o s u x l h id;obtain⟨v,e,G,j,O,F,_⟩:=akG W D A B C y o s u x l h f Z id g P;obtain⟨z,e',w,q2,_,t,q⟩:=akG W D A B C y o s u x l h E Z id g P;rw[G] at V U;rw[w];have V:e=0:=V;have U:ob 102 [.r (aF v),.i a,.i b,.i c,.b d] 0=true:=U;have N:=q (O V) X.o';obtain⟨p,m,n,hid,k⟩:=H (O V);have M:g 4≠9:=by rw[k];exact I m n p hid
 have L:=F V M;have J:=t N M;refine⟨N, ?_⟩;show ob 102 [.r (aF z),.i a,.i b,.i c,.b d] 0=true;rw[asy _ (Sv (by omega))] at U⊢;rw[akF λR Q=>akE A C ((L R).1 Q),L] at U;rw[akF λR Q=>akE A C ((J R).1 Q),J];exact asG A C X.st X.jp X.t0 X.t1 X.t2 U
def asI(h:fF o s u x l)(ae:Int)(X V:RV)(bv:Sl f)(H:Sl E)(hn:f.rows.length=o.rows.length)(G:E.rows.length=o.rows.length)(U:∀Z<o.rows.length,nO f E Z)(F:Z<o.rows.length)(Q:Sl (cr 96 V Z))(z:m89 W D A B C y o s u x l ae X V Z 13=0)
  (P:xi (vF W D A B C y o s u x l ae X f V Z) 1=0)(O:(xr (vF W D A B C y o s u x l ae X f V Z) 0).rows=[]):xi (vF W D A B C y o s u x l ae X E V Z) 1=0/\(xr (vF W D A B C y o s u x l ae X E V Z) 0).rows=[]:=by
 obtain⟨_,w,v,e,rfl,k2,k3,t,_⟩:=aaX W D A B C y o s u x l h Z ae (ci X Z 0) (ci X Z 1) (ci X Z 2) (ci X Z 3) (ci X Z 4) (ci X Z 5) (ci X Z 6) (ci X Z 7) (ci X Z 8) (ci X Z 9) (ci X Z 10) (ci X Z 11) (ci X Z 12) f (cr 96 V Z) bv Q;obtain⟨_,q,N,M,rfl,q2,q3,p,n⟩:=aaX W D A B C y o s u x l h Z ae (ci X Z 0) (ci X Z 1) (ci X Z 2) (ci X Z 3) (ci X Z 4) (ci X Z 5) (ci X Z 6) (ci X Z 7) (ci X Z 8) (ci X Z 9) (ci X Z 10) (ci X Z 11) (ci X Z 12) E (cr 96 V Z) H Q;have m:vF W D A B C y o s u x l ae X f V Z=[.r (aF v),.i e]:=mQ w;have j:vF W D A B C y o s u x l ae X E V Z=[.r (aF N),.i M]:=mQ q;rw[m] at P O;rw[j];have g:e=0:=P;have d:v=[]:=O;have L:M=0:=n ⟨z,G,λk J=>(U k (by omega)).o'⟩;refine⟨L, ?_⟩;show N=[];have I:=t g;rw[d] at I;have R:=congrArg azO I;rw[jC] at R;rw[p L,<-ayl,jC,ayl];simp only[ayE] at R⊢;refine akD (U Z F) h.tp h.ps h.sp _ (axQ _) ?_ (ayl.1 (by simpa using R.symm));intro k J c;have b:=akf W D A B C y o s u x l (λa=>(rZ W D A B C y o s u x l mR h).2 a) J;have h9:=b.wth;rw[if_pos (.inl c)] at h9;exact U _ (by omega)
def akH{n:Nat}(Z:∀i<n,nO f E i)(v:RV):∀k,k<=n->oL v E k=oL v f k
 |0,_=>rfl
 |k+1,X=>by
  simp only[oL];rw[akH Z v k (by omega),xP (Z k (by omega)),xP (Z k (by omega)),xP (Z k (by omega)),xP (Z k (by omega))]
def akI(X:nO f E Z)(V:nO f E M)(v:RV):tZ v E Z M=tZ v f Z M:=by
 simp only[tZ,xP X,xP V]
def asJ(h:fF o s u x l)(U:nO f E Z)(ae:Int)(R V X:RV)(Q:Sl (cr 96 X Z))(k:Nat):gB W D A B C y o s u x l ae R V E X Z k=gB W D A B C y o s u x l ae R V f X Z k:=by
 simp only[gB,aky W D A B C y o s u x l h U ae V X Q,xP U]
def zT.more(h:fF o s u x l){M N Q L P J:RV}(G:EB o M f N Q L P J)(d:Sl E)(hl:E.rows.length=f.rows.length)(X:∀i<f.rows.length,nO f E i)
  (c:∀m<l.rows.length,ci l m 2=U->ci l m 4≠9)(V:zT W D A B C y o s u x l U M f N Q L P J):zT W D A B C y o s u x l U M E N Q L P J:=by
 have F:=V.ex.xL;rw[F] at X;have I:∀i<o.rows.length,Sl (cr 96 P i):=λi Z=>(G.eP i (by rw[V.ex.Iw];exact Z)).1
 have b:=V.cl.B8;refine{ex:={V.ex with xL:=by omega,eB:=λi Z=>⟨(X i Z).o',(V.ex.eB i Z).2⟩},Ix:=λi Z=> ?_,ro:=λi Z=> ?_,B8:=V.B8,st1:=λi Z=>by rw[xP (X i Z)];exact V.st1 i Z,st2:=λi Z=>by rw[xP (X i Z)];exact V.st2 i Z,cl:= ?_,eO:=λp z=> ?_};have:=V.Ix i Z;simp only[zS,aky W D A B C y o s u x l h (X i Z) U Q P (I i Z),xP (X i Z)] at this⊢;exact this;have r:=V.ro i Z;have w:=asJ W D A B C y o s u x l h (X i Z) U N Q P (I i Z);refine⟨r.aft,by simp only[w];exact r.SH,by simp only[w];exact r.ins,λv=> ?_⟩;obtain⟨a,s2,s3⟩:=r.Iq v;have t:=V.Ix i Z;rw[zS,if_pos v] at t;refine⟨λk H m hF=> ?_,asI W D A B C y o s u x l h U Q P G.bd d F (by omega) X Z (I i Z) t.1 s2 s3⟩;obtain⟨u1,u2,u3⟩:=a k H m hF;have ag:∀R<l.rows.length,oJ W D y o s l->ci l R 0=aZ (cm W D A B C y o s u x l i U) k 0->ci l R 4≠9:=by
  intro R an n hid;obtain⟨O,j,e1,_,e2,_⟩:=aaM W D A B C y o s u x l (λh0=>(rZ W D A B C y o s u x l mR h).2 h0) (ayT H);have e0:aZ (cm W D A B C y o s u x l i U) k 0=ci l O 0:=by
   rw[<-Ex (ci l O) 0 (by omega),<-e1];simp[aZ,cellAt,aP,H]
  rw[e0] at hid;have:R=O:=by
   rcases Nat.lt_trichotomy R O with q|q|q;have:=n.ids R O q j;omega;exact q;have:=n.ids O R q an;omega
  subst this;exact c R j e2
 obtain⟨w1,w2⟩:=asH W D A B C y o s u x l h (X i Z) _ _ _ _ _ ag u1 u2;exact⟨w1,w2,u3⟩;rw[akH X Q _ (axQ _)];exact V.cl;have q:=b p z;have g:(ci (xr (nN W D A B C y o s u x l U) 0) p 0).toNat<o.rows.length:=by omega
 have e:(ci (xr (nN W D A B C y o s u x l U) 0) p 1).toNat<o.rows.length:=by omega
 rw[akI (X _ g) (X _ e),akI (X _ g) (X _ e)];exact V.eO p z
end
end
section
section
variable(W D A B C t:Int)(m n p q l:RV)
def asK{v Z:RV}(h:nV (cd .str v).val (cd .str Z).val=true):cd .str v=cd .str Z:=by
 obtain⟨s,U⟩:=tX v;obtain⟨X,R⟩:=tX Z;have e:∀u:RV,∀x,(cd .str u).val=.string x->cd .str u=.mk (.string x) []:=by
  intro u x V;unfold cd at V⊢;cases Q:u.val<;>simp only[Q] at V⊢<;>cases V<;>rfl
 rw[U,R] at h;simp only[nV,beq_iff_eq,ByteArray.toList_eq] at h;have:s=X:=by
  cases s;cases X;simp only at h;rw[Array.toList_inj.1 h]
 rw[e v s U,e Z X R,this]
def t31(Z X:RV)(i:Nat):∃o,TB.Ev 31 (kS (cd .str (cellAt Z.rows (i:Int) 0)) (ci Z i)++kS (cd .str (cellAt X.rows (i:Int) 0)) (ci X i)) o/\∃b e,o=.ret [.b b,.i e]/\(e=0->b=true->nO Z X i):=by
 refine dw rfl rfl (.inl rfl) ?_;simp[T31,kS];intro o V U R Q P O N M L J I;by_cases K:nV (cd .str (cellAt Z.rows (i:Int) 0)).val (cd .str (cellAt X.rows (i:Int) 0)).val=true/\ci Z i 1=ci X i 1/\ci Z i 3=ci X i 3/\ci Z i 6=ci X i 6/\ci Z i 7=ci X i 7/\ci Z i 8=ci X i 8/\ci Z i 16=ci X i 16;exact .inr ⟨0,⟨K,rfl⟩,λ_=>⟨asK K.1,⟨K.2.1,K.2.2.1,K.2.2.2.1,K.2.2.2.2.1,K.2.2.2.2.2.1,K.2.2.2.2.2.2⟩,J,M,L,P,O,N,U,R,Q,I,o,V⟩⟩;exact .inl λa b c d e f g=>K ⟨a,b,c,d,e,f,g⟩
set_option maxHeartbeats 4000000 in
def t10 (d:TB.Ev 11 [] (.ret [.b true])) (h:fF m n p q l) (ae:Int) (U Z P R O X N Q:RV) (c:Sl U) (M:Sl Z) (a:Sl P) (h4:Sl R) (h5:Sl O) (H:Sl X) (h7:Sl N) (u:∀i<X.rows.length,Sl (cr 96 X i)) (J:Sl Q):
  TB.Ev 10 (wk W D A B C t m n p q l++[.r U,.r Z,.i ae,.r P,.r R,.r O,.r X,.r N,.r Q]) (.ret [.b true]):=by
 refine kR rfl rfl (.inl rfl) ?_;obtain⟨a1,s,a2,rfl,G⟩:=t12 W D A B C t m n p q l U Z R X (by rw[H.len];omega);simp only[wk,axY,ax2] at s;simp[T10,wk,aS d,aS s];intro hb ag;have G:=G hb;rw[J.len,M.len] at ag;refine bM l.rows.length (λi F=>F=[]/\∀k<i,ci l k 2=ae->ci l k 4≠9) ⟨0,rfl,ayK _,rfl,by simp⟩ ?_;rintro i _ V ⟨rfl,E⟩;simp[h.sg.len];refine bj (λV=>⟨V,bj (λ_ hk=> ?_) (λan=> ?_)⟩) (λa3=> ?_);rw[bG V h.sg.sm];exact⟨rfl,oK E λ_=>hk⟩;rw[bG V h.sg.sm];exact⟨rfl,oK E λz=>absurd z an⟩;obtain rfl:i=l.rows.length:=by omega
 refine bM Z.rows.length (λi F=>F=[]/\∀k<i,nO Z Q k) ⟨0,rfl,ayK _,rfl,by simp⟩ ?_;rintro j _ y ⟨rfl,I⟩;obtain⟨_,o,b,e,rfl,k2⟩:=t31 Z Q j;simp only[kS,ci,axY,ax2] at o;simp[M.len,J.len,aS o];refine bj (λy=>⟨y,by omega,λhe z=> ?_⟩) (λa4=> ?_);rw[bG y M.sm];exact⟨rfl,oK I (k2 he z)⟩;obtain rfl:j=Z.rows.length:=by omega
 have x:∀w:RV,Sl w->EB m U w P R O X N:=λw I=>⟨c,I,a,h4,h5,H,h7,λi V=>⟨u i V,by
  have:=G.eP i (by rw[H.len];omega);rw[(u i V).len] at this;omega⟩⟩
 obtain⟨_,g,b',e',rfl,q1,q2⟩:=t18 W D A B C t m n p q l h ae U Z P R O X N (x Z M);obtain⟨_,f,b2,e2,rfl,av,a0⟩:=t18 W D A B C t m n p q l h ae U Q P R O X N (x Q J);simp only[wk,axY,ax2] at g f;rw[aS g];simp[aS f];refine bj (λh0=>bj (λcQ=> ?_) (λ_ L=>absurd h0 L)) (λL _=>q1 L);have v:b2=true:=a0.2 ((q2.1 cQ).more W D A B C t m n p q l h (x Z M) J (by omega) I E);have f6:e2=0:=Classical.byContradiction λL=>by rw[av L] at v;cases v
 simp[f6,v]
end
end
end
end Go.Proofs.YtieaiocljdpebaaGreatDoor.Y
