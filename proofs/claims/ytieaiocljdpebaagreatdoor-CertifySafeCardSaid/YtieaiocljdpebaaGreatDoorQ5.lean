/- Part 5 of the proof. -/
import Derived.Test.YtieaiocljdpebaaGreatDoorQ4
set_option linter.all false
open Bool renaming and_eq_true->aDc,or_eq_true->aDE,eq_iff_iff->aEk,eq_false_iff->aEE,true->J,false->E
open List renaming getElem?_eq_some_iff->aDd,getElem?_eq_getElem->aDe,getD_eq_getElem?_getD->aDf,getElem?_append_left->aDg,cons_append->aDi,getElem?_map->aDj,getElem?_append_right->aDk,nil_append->aDl,mem_append->aDo,mem_cons->aDp,replicate->aDq,all_eq_true->aDr,length_append->aDs,getElem?_eq_none->aDy,pairwise_cons->aDz,range->aDA,map_congr_left->aDC,mem_map->aDF,ext_getElem?->aDG,getElem?_set_ne->aDP,length_eq_zero_iff->aDT,getElem?_of_mem->aDU,length_map->aDV,mem_append_left->aDX,getElem_mem->aD3,append_assoc->aD5,getElem?_set->aD9,mem_or_eq_of_mem_set->aEc,mem_range->aEd,take_of_length_le->aEp,getElem?_set_self->aEq,getElem?_range->aEt,mem_of_find?_eq_some->aEF,mem_append_right->aEH,find?_cons->aEN,map->aEZ,mem_singleton->aE0,length_singleton->aE1,find?_some->aFi,getElem?_modify->aFu,take_add_one->aFJ,length_range->aFK,length_set->aGo,length->Y
open Option.some renaming injEq->aDh
open Nat renaming le_refl->aDm,le_trans->aDY,zero_le->aD0,le_of_not_lt->aEr,le_antisymm->aEz,strongRecOn->aE4,min_eq_left->aFA,lt_of_le_of_ne->aFG,min_eq_right->aGl,not_lt_zero->aGq,le_total->aGW
open Option renaming map_some->aDn,map_eq_some_iff->aEx,some->U
open Int renaming toNat_natCast->aEa,toNat_of_nonneg->aFy
open List.cons renaming injEq->aEg
open Go.IntKind renaming i64->I
namespace Go.Proofs.YtieaiocljdpebaaGreatDoor.Y
open Go.RowKit
noncomputable section
variable{W i e:Int}{P:am}{X N:Nat}{H h:RV}{Q:Nat→Nat}
section
variable[Inhabited dl]
section
def HK(M:am)(k:Int)(i:Nat):Prop:=∃x∈M,ax 0 x=k/\ax 1 x=(i:Int)
def Hx{c:aF}(W:Y c=4){k:Int}{i:Nat}:∀{M:am},gK M->(HK (di 3 c M) k i<->HK M k i\/(ax 0 c=k/\ax 1 c=(i:Int)))
 |[],_=>by simp[HK,di]
 |r::V,h=>by
  have bI:gK V:=⟨(aDz.1 h.keys).2,λx R=>h.four x (by simp[R])⟩;have Q:=Hx W (k:=k) (i:=i) bI;have P:=aoA W (h.four r (by simp));simp only[di];split;rename_i X;have X:=P.1 X;have O:=X 0 (by simp);have N:=X 1 (by simp);simp only[HK,aDp,exists_eq_or_imp,O,N]
  grind
  simp only[HK,aDp,exists_eq_or_imp] at Q⊢
  grind
structure Tr(a b:Nat->Prop)(M:am):Prop where
 ok:gK M
 ha:∀i,HK M 4 i<->a i
 hb:∀i,HK M 5 i<->b i
def Tr.nil:Tr (λ_=>False) (λ_=>False) []:=⟨gK.nil,λi=>by simp[HK],λi=>by simp[HK]⟩
variable{a b:Nat->Prop}{M:am}{c:aF}
def Tr.aH(X:Y c=4)(W:ax 0 c≠4/\ax 0 c≠5)(h:Tr a b M):Tr a b (di 3 c M):=
 ⟨h.ok.ins X,λi=>by rw[Hx X h.ok,h.ha];simp[W.1],λi=>by rw[Hx X h.ok,h.hb];simp[W.2]⟩
def Tr.eN{j:Nat}(X:Y c=4)(W:ax 0 c=4)(V:ax 1 c=(j:Int))(h:Tr a b M):Tr (λi=>a i\/i=j) b (di 3 c M):=
 ⟨h.ok.ins X,λi=>by rw[Hx X h.ok,h.ha,W,V];simp[show((j:Int)=(i:Int))<->i=j by omega],λi=>by rw[Hx X h.ok,h.hb,W];simp⟩
def Tr.box{j:Nat}(X:Y c=4)(W:ax 0 c=5)(V:ax 1 c=(j:Int))(h:Tr a b M):Tr a (λi=>b i\/i=j) (di 3 c M):=
 ⟨h.ok.ins X,λi=>by rw[Hx X h.ok,h.ha,W];simp,λi=>by rw[Hx X h.ok,h.hb,W,V];simp[show((j:Int)=(i:Int))<->i=j by omega]⟩
def Tr.congr{X W:Nat->Prop}(h:Tr a b M)(V:∀i,a i<->X i)(R:∀i,b i<->W i):Tr X W M:=⟨h.ok,λi=>(h.ha i).trans (V i),λi=>(h.hb i).trans (R i)⟩
end
end
section
variable{R:bn->Prop}{G:aR}{t:T}{O:ac}{L:dK}
variable[Inhabited dl]
structure Bx(l0 h0 l1 h1:Int)(L H L' H':Int):Prop where
 a:L<=l0
 b:h0<=H
 c:L'<=l1
 d:h1<=H'
 e:-1099511627776<=L
 f:H<=1099511627776
 g:-1099511627776<=L'
 h:H'<=1099511627776
def Bd(p:Int):Prop:=-1099511627776<=p/\p<=1099511627776
def Bd.mn(X:Bd W)(V:Bd i):Bd (min W i):=by simp only[Bd] at*;omega
def Bd.mx(X:Bd W)(V:Bd i):Bd (max W i):=by simp only[Bd] at*;omega
def Bx.tip{V L H Q P p N q M:Int}(k:Bx W i e V L H Q P)(G:Bd p)(F:Bd N)(D:Bd q)(C:Bd M):Bx W i e V (min L p) (max H N) (min Q q) (max P M):=by
 obtain⟨a,b,c,d,X,f,g,h⟩:=k;simp only[Bd] at*;constructor<;>omega
def aoT(V:-1073741824<=W/\W<=1073741824)(Q:1<=i/\i<=8)(X:V8 e):Bd (ay .add I (ay .mul I 29 W) (ay .mul I i e)):=by
 unfold Bd;have:=Hn (x:=i) (m:=8) (by omega) X;simp only[ay];rw[cQ (n:=29*W) (by omega) (by omega),cQ (n:=i*e) (by omega) (by omega),cQ (by omega) (by omega)];omega
set_option maxHeartbeats 8000000 in
def aoU (x:Nat->Int) (s:RV) (W:rM s) (a:Nat->Int):∃o,TB.Ev 27 [.i (x 0),.i (x 1),.i (x 2),.i (x 3),.i (x 4),.i (x 5),.i (x 6),.i (x 7),.i (x 8),.i (x 9),.i (x 10),.i (x 11),.i (x 12),.r s,.i (a 1),.i (a 2),.i (a 3),.i (a 4),.i (a 5),.i (a 6),.i (a 7),.i (a 8),.i (a 9),.i (a 10),.i (a 11),.i (a 12),.i (a 13),.i (a 14),.i (a 15),.i (a 16)] o/\∃X,o=.ret X/\((xi X 4=0<->CE (x 0) (x 1) (x 2) (x 3) (x 4) (x 5) (x 6) (x 7) (x 8) (x 9) (x 10) (x 11) (x 12)=0/\AN s (a 1) (a 2) (a 3) (a 4) (a 5) (a 6) (a 7) (a 8) (a 9) (a 10) (a 11) (a 12) (a 13) (a 14) (a 15) (a 16)=0)/\(xi X 4=0->Bx (29*(x 0)-841) (29*(x 0)+841) (29*(x 1)-841) (29*(x 1)+841) (xi X 0) (xi X 1) (xi X 2) (xi X 3))):=by
 refine dX rfl rfl (.inl rfl) ?_;by_cases k:CE (x 0) (x 1) (x 2) (x 3) (x 4) (x 5) (x 6) (x 7) (x 8) (x 9) (x 10) (x 11) (x 12)=0;by_cases m:AN s (a 1) (a 2) (a 3) (a 4) (a 5) (a 6) (a 7) (a 8) (a 9) (a 10) (a 11) (a 12) (a 13) (a 14) (a 15) (a 16)=0
 ·have p:=(Wf _ _ _ _ _ _ _ _ _ _ _ _ _).1 k;obtain⟨F,N,M,H⟩:=aeH s W _ _ _ _ _ _ _ _ _ _ _ _ _ _ _ _ m;have G:Bx (29*(x 0)-841) (29*(x 0)+841) (29*(x 1)-841) (29*(x 1)+841) (ay .sub I (ay .mul I 29 (x 0)) (ay .mul I 841 (a 3))) (ay .add I (ay .mul I 29 (x 0)) (ay .mul I 841 (a 3))) (ay .sub I (ay .mul I 29 (x 1)) (ay .mul I 841 (a 3))) (ay .add I (ay .mul I 29 (x 1)) (ay .mul I 841 (a 3))):=by
   have D:=p.x;have C:=p.y;simp only[ay];rw[cQ (n:=29*(x 0)) (by omega) (by omega),cQ (n:=29*(x 1)) (by omega) (by omega),cQ (n:=841*(a 3)) (by omega) (by omega),cQ (n:=29*(x 0)-841*(a 3)) (by omega) (by omega),cQ (n:=29*(x 0)+841*(a 3)) (by omega) (by omega),cQ (n:=29*(x 1)-841*(a 3)) (by omega) (by omega),cQ (n:=29*(x 1)+841*(a 3)) (by omega) (by omega)];constructor<;>omega
  have V:∀r a b,1<=r/\r<=8->Bd (ay .add I (ay .mul I 29 (x 0)) (ay .mul I r (oi 139 [.i a,.i b] 0))):=λr a b Q=>aoT p.x Q (tK a b).1
  have P:∀r a b,1<=r/\r<=8->Bd (ay .add I (ay .mul I 29 (x 1)) (ay .mul I r (oi 139 [.i a,.i b] 1))):=λr a b Q=>aoT p.y Q (tK a b).2
  clear p;simp(config:={maxSteps:=10000000}) [Cy,CF s W,k,m,xi]
  repeat'(refine aN (λ_=> ?_) (λ_=> ?_))
  all_goals first|with_reducible exact G|with_reducible refine Bx.tip G ?_ ?_ ?_ ?_
  all_goals repeat'(first|with_reducible apply Bd.mn|with_reducible apply Bd.mx)
  all_goals with_reducible first|exact V _ _ _ N|exact V _ _ _ M|exact V _ _ _ H|exact P _ _ _ N|exact P _ _ _ M|exact P _ _ _ H
 simp[Cy,CF s W,k,m,xi];simp[Cy,CF s W,k,xi]
end
section
variable[Inhabited dl]
def ae6(h:dD)(aa:Int):∃o,TB.Ev 23 (wk++[.i aa]) o/\∃v e,o=.ret [.r (aq v),.i e]/\Y v<=4096/\(∀x∈v,0<=ax 0 x/\ax 0 x<ax 1 x/\ax 1 x<Y ak.rows)/\(gP=0->gq aa 0 (dg-1)=J->e=0):=by
 refine dX rfl rfl (.inl rfl) ?_;have W:=e65 iP h aa;obtain⟨-,M⟩:=pH iP h;simp only[wk,aDi,aDl] at W;obtain⟨e,R⟩:∃e,e=(if gP=0 then(if gq aa 0 (dg-1) then 0 else 1) else gP):=⟨_,rfl⟩;rw[<-R] at W;simp[OJ,wk,bp W];split
 case isFalse z=>
  exact⟨[],e,⟨rfl,rfl⟩,by simp,by simp,λW M y=>by rw[R,if_pos W,if_pos (by simp;omega)]⟩
 rename_i F;have Q:gP=0/\gq aa 0 (dg-1)=true:=by
  subst F;by_cases Q:gP=0;rw[if_pos Q] at R;refine⟨Q, ?_⟩;cases D:gq aa 0 (dg-1);simp[D] at R;rfl;rw[if_neg Q] at R;exact absurd R.symm Q
 have C:=M Q.1;have w:=C.nr;refine bU (Y aP.rows) (λi N=>∃m,N=[.r (aq m)]/\∀x∈m,ax 0 x<ax 1 x) ⟨0,rfl,by omega,[],rfl,by simp⟩ ?_;rintro i _ P ⟨m,rfl,H⟩;simp[h.sg.len];split
 ·rename_i P;simp[bH P h.sg.sm,P]
  repeat'(refine aN (λ_=> ?_) (λ_=> ?_))
  all_goals first
   |exact⟨m,rfl,H⟩
   |(refine⟨_,rfl,λx X=> ?_⟩
     rcases Wq X with rfl|X;show(min _ _:Int)<max _ _;omega;exact H x X)
 refine bU (Y ak.rows) (λi N=>∃v,N=[.r (aq v)]/\Y v<=i*64/\∀x∈v,0<=ax 0 x/\ax 0 x<ax 1 x/\ax 1 x<Y ak.rows) ⟨0,rfl,by omega,[],rfl,by simp,by simp⟩ ?_;rintro i _ P ⟨v,rfl,B,V⟩;simp[h.rl.len];split;rename_i P;refine bU (Y ak.rows) (λj N=>∃v,N=[.r (aq v)]/\Y v<=i*64+j/\∀x∈v,0<=ax 0 x/\ax 0 x<ax 1 x/\ax 1 x<Y ak.rows) ⟨0,rfl,by omega,v,rfl,by omega,V⟩ ?_;rintro j _ G ⟨v,rfl,B,V⟩;simp[h.rl.len];split
 ·rename_i G;simp[bH G h.rl.sm];have A:∀{O},fJ 2 [(i:Int),(j:Int),0] m=U O->i<j:=λ{O} L=>by
   have W:=aEF L;have M:=aFi L;have:=H O W;rcases O with _|⟨a,_|⟨b,O⟩⟩<;>simp[iB,ax] at M this;omega
  cases L:fJ 2 [(i:Int),(j:Int),0] m with
  |none=>simp;exact⟨v,rfl,by omega,V⟩
  |some O=>
  have u:=A L;simp only;split
  all_goals first
   |exact⟨v,rfl,by omega,V⟩
   |(refine⟨by omega,_,rfl,by simp;omega,λx X=> ?_⟩
     rcases aDo.1 X with X|X;exact V x X;simp at X;subst X;simp[ax,aO];omega)
 simp[bH P h.rl.sm];exact⟨v,rfl,by omega,V⟩;exact⟨v,0,⟨rfl,rfl⟩,by omega,V,λ_ _ _=>rfl⟩
end
def OY:bn->bn->Prop
 |.ret a,.ret b=>nO a b
 |.bj _,.bj _=>True
 |_,_=>False
def Ll:jo->jo->Prop
 |[],[]=>True
 |a::l,b::m=>a.au=b.au/\a.t=b.t/\iI a.O b.O/\Ll l m
 |_,_=>False
def Ll.find{au:Nat}{W V:Lp}{l P:jo}:∀{N M:jo},Ll N M->pY au N=U (W,l)->pY au M=U (V,P)->W.au=V.au/\W.t=V.t/\iI W.O V.O/\Ll l P
 |[],[],_,h,_=>by simp[pY] at h
 |a::s,b::D,h,R,X=>by
  simp only[pY] at R X;obtain⟨L,G,F,H⟩:=h;rw[<-L] at X;split at R;rename_i Q;rw[if_pos Q] at X;cases R;cases X;exact⟨L,G,F,H⟩;rename_i Q;rw[if_neg Q] at X;exact Ll.find H R X
section
variable{bi u:me}
def aoV(z:∀f p d o Q,nO p d->bi f p=U o->u f d=U Q->OY o Q):∀(n:Nat)(t:T)(O P:ac)(N M:jo)(o Q:bn),iI O P->Ll N M->exec bi n t O N=U o->exec u n t P M=U Q->OY o Q
 |0,t,O,P,N,M,o,Q,_,_,h,_=>by simp[exec] at h
 |n+1,t,O,P,N,M,o,Q,W,V,h,X=>by
  have R:=aoV z n;cases t with
  |ret v bx G=>
   simp only[exec,aDh] at h X;subst h;subst X;exact BT W _
  |bj v=>
   simp only[exec] at h X;obtain⟨a,_,rfl⟩:=aEx.1 h;obtain⟨b,_,rfl⟩:=aEx.1 X;trivial
  |node b t f=>
   simp only[exec,<-BE.co W b] at h X;split at h;rename_i L;rw[if_pos L] at X;exact R _ _ _ _ _ _ _ W V h X;rename_i L;rw[if_neg L] at X;exact R _ _ _ _ _ _ _ W V h X
  |aV b t=>
   simp only[exec,<-BE.co W b] at h X;split at h;rename_i L;rw[if_pos L] at X;exact R _ _ _ _ _ _ _ W V h X;cases h
  |call f c bx G ks fG t=>
   simp only[exec] at h X;cases F:bi f ((nQ c).map (SV.xv O)) with
   |none=>rw[F] at h;cases h
   |some r=>
    cases D:u f ((nQ c).map (SV.xv P)) with
    |none=>rw[D] at X;cases X
    |some r'=>
     have k:=z _ _ _ _ _ (BT W _) F D;rw[F] at h;rw[D] at X;cases r with
     |ret ys=>cases r' with
      |ret ab=>
       simp only at h X;split at h;split at X;exact R _ _ _ _ _ _ _ (W.ext k) V h X;cases X;cases h
      |bj v=>exact k.elim
     |bj v=>cases r' with
      |ret ab=>exact k.elim
      |bj v'=>cases h;cases X;trivial
  |loop au ks x0 t=>
   simp only[exec] at h X;exact R _ _ _ _ _ _ _ (W.ext (BT W _)) (by exact⟨rfl,rfl,W,V⟩) h X
  |back au x=>
   simp only[exec] at h X;cases C:pY au N with
   |none=>rw[C] at h;cases h
   |some q=>
    cases B:pY au M with
    |none=>rw[B] at X;cases X
    |some q'=>
     obtain⟨fr,l⟩:=q;obtain⟨al,l'⟩:=q';rw[C] at h;rw[B] at X;obtain⟨e1,e2,e3,e4⟩:=V.find C B;simp only[<-e2] at X;exact R _ _ _ _ _ _ _ (e3.ext (BT W _)) (by exact⟨e1,e2,e3,e4⟩) h X
  |new e x G an t=>
   simp only[exec] at h X;exact R _ _ _ _ _ _ _ (W.add (x:=.r _) (y:=.r _) (Rv W x)) V h X
  |rows k x G t=>
   simp only[exec] at h X;exact R _ _ _ _ _ _ _ (W.add (x:=.r _) (y:=.r _) (Rv W x)) V h X
  |fA g k t f=>
   simp only[exec,<-BE.co W g,<-BE.co W k] at h X;split at h;rename_i A;rw[if_pos A] at X;split at h;rename_i H;rw[if_pos H] at X;exact R _ _ _ _ _ _ _ W V (Jg h).1 (Jg X).1;rename_i H;rw[if_neg H] at X;exact R _ _ _ _ _ _ _ W V h X;rename_i A;rw[if_neg A] at X;split at h;rename_i H;rw[if_pos H] at X;exact R _ _ _ _ _ _ _ W V h X;cases h
  |pick m g k t f=>
   simp only[exec] at h X;have hw:pi m g k P=pi m g k O:=by
    have e:(λj:Int=>g.den (P.add (.i j)))=λj:Int=>g.den (O.add (.i j)):=by
     funext j;exact(BE.co (W.add (x:=.i j) (y:=.i j) rfl) g).symm
    simp only[pi,<-IE.co W m,<-BE.co W k,e]
   rw[hw] at X;cases hl:pi m g k O with
   |nil=>rw[hl] at h;simp[rg] at h
   |cons w ws=>
    rw[hl] at h X;have h1:=Jh h _ (aDF.2 ⟨w,by simp,rfl⟩);have h2:=Jh X _ (aDF.2 ⟨w,by simp,rfl⟩);cases w with
    |some j=>exact R _ _ _ _ _ _ _ (W.add (x:=.i j) (y:=.i j) rfl) V h1 h2
    |none=>exact R _ _ _ _ _ _ _ W V h1 h2
  |dw f g e sp sb r G t=>
   simp only[exec] at h X;split at h;rename_i rows af;split at X;rename_i aC ag;exact R _ _ _ _ _ _ _ (W.add (x:=.r _) (y:=.r _) ((RE.co W r).dw W af ag)) V h X;cases X;cases h
  |out e s=>simp[exec] at h
  |stuck m=>simp[exec] at h
end
def axy(O:ac):iI O O:=⟨rfl,rfl,rfl,λk v W h X=>by rw[h] at X;cases X;exact ck.refl v⟩
def WE:∀X:aW,nO X X
 |[]=>trivial
 |x::X=>⟨by cases x with
  |i n=>rfl
  |b n=>rfl
  |r v=>exact ck.refl v,WE X⟩
def axz{W X:aW}:nO W X->(∀x∈W,∃n,x=.i n)->W=X:=by
 induction W generalizing X with
 |nil=>intro h _;cases X with
  |nil=>rfl
  |cons _ _=>exact h.elim
 |cons x W R=>intro h V;cases X with
  |nil=>exact h.elim
  |cons y X=>
   obtain⟨n,rfl⟩:=V x (by simp);cases y with
   |i m=>rw[show n=m from h.1,R h.2 λz Q=>V z (by simp[Q])]
   |b _=>exact h.1.elim
   |r _=>exact h.1.elim
def aoW(f:FuncId)(W V:aW)(o P:bn)(R:nO W V)(h:wT f W=U o)(X:wT f V=U P):OY o P:=by
 unfold wT at h X;split at h;rename_i Q;rw[if_pos Q] at X;have:W=V:=by
  refine axz R ?_;unfold OL at h;split at h;simp;cases h
 subst this;rw[h] at X;cases X;cases o with
 |ret O=>exact WE _
 |bj v=>trivial
 rename_i Q;rw[if_neg Q] at X;split at h;rename_i N;rw[if_pos N] at X;unfold ON at h X;split at h;split at X;rename_i s b _ M L;have H:b=L:=R.2.1;subst H;have G:ck s M:=R.1;cases G with
 |sl A D n c C F aC _ _ _=>cases h;cases X;exact⟨rfl,trivial⟩
 |val v F B=>
  rw[h] at X;cases X;cases o with
  |ret O=>exact WE _
  |bj v=>trivial
 cases X;cases h;cases h
def WF{f:FuncId}{V W:aW}{o R:bn}(P:nO V W)(h:TB.Ev f V o)(X:TB.Ev f W R):OY o R:=by
 have B:∀n f V W o R,nO V W->TB.bi n f V=U o->TB.bi n f W=U R->OY o R:=by
  intro n;induction n with
  |zero=>exact λf V W o R P h X=>aoW f V W o R P h X
  |succ n A=>
   intro f V W o R P h X;simp only[jK.bi] at h X;have D:∀{L:aW}{q:bn},TB.nT f L=U q->f=26\/f=272:=λ{L q} O=>by
    have O:wT f L=U q:=O;unfold wT at O;split at O;exact .inl ‹_›
    split at O;exact .inr ‹_›
    cases O
   cases M:TB.nT f V with
   |some q=>
    cases N:TB.nT f W with
    |some z=>
     rw[M] at h;rw[N] at X;cases h;cases X;exact aoW f V W _ _ P M N
    |none=>
     rw[N] at X;rcases D M with rfl|rfl<;>simp[TB,EL] at X
   |none=>
    rw[M] at h;cases N:TB.nT f W with
    |some z=>rcases D N with rfl|rfl<;>simp[TB,EL] at h
    |none=>
     rw[N] at X;cases C:TB.tree f with
     |none=>rw[C] at h;cases h
     |some Q=>
      rw[C] at h X;simp only at h X;have y:iI (eL (kg Q.g) V) (eL (kg Q.g) W):=(axy _).ext P;cases H:exec (TB.bi n) n Q.t (eL (kg Q.g) V) [] with
      |none=>rw[H] at h;cases h
      |some p=>
       cases G:exec (TB.bi n) n Q.t (eL (kg Q.g) W) [] with
       |none=>rw[G] at X;cases X
       |some F=>
        have k:=aoV A n Q.t _ _ [] [] p F y trivial H G;rw[H] at h;rw[G] at X;cases p with
        |ret w=>cases F with
         |ret x=>cases h;cases X;exact k
         |bj v=>exact k.elim
        |bj v=>cases F with
         |ret x=>exact k.elim
         |bj u=>
          simp only[xS] at h X;split at h;cases h;split at X;cases X;cases h;cases X;trivial
 obtain⟨n,h⟩:=h;obtain⟨m,X⟩:=X;exact B (max n m) f V W o R P (kL n _ f V o (by omega) h) (kL m _ f W R (by omega) X)
section
variable{R:bn->Prop}{G:aR}{t:T}{O:ac}{L:dK}
variable[Inhabited dl]
def WG(v X:RV)(i:Nat)(h:cd v X i 4=0):bF (cd v X i 0) (cd v X i 1) (cd v X i 2) (cd v X i 3)=J/\cd v X i 0<cd v X i 1/\cd v X i 2<cd v X i 3:=by
 obtain⟨o,W,V,rfl,P,Q⟩:=aoU (ci v i) _ (rN (cellAt X.rows (i:Int) 0)) (ci X i);have e:∀k,cd v X i k=xi V k:=λk=>by simp only[cd,CG,oi,iW W]
 simp only[e] at h⊢;obtain⟨a,b,c,d,e,f,g,h⟩:=Q h;refine⟨?_,by omega,by omega⟩;simp[bF];omega
def ae7(v X:RV)(i:Nat):cd v X i 4=0<->tL v i=0/\Hq X i=0:=by
 obtain⟨o,W,V,rfl,Q,P⟩:=aoU (ci v i) _ (rN (cellAt X.rows (i:Int) 0)) (ci X i);have e:∀k,cd v X i k=xi V k:=λk=>by simp only[cd,CG,oi,iW W]
 rw[e];exact Q
end
section
variable[Inhabited dl]
def SgE(aa:Int)(X V W:RV)(i:Nat):Prop:=(∀k<(cj i aa).length,∀m,Wr (cr 96 W i) (bm (cj i aa) k 0) m->xi (EV X (bm (cj i aa) k 0) i) 1=0)/\xi (wZ aa V X W i) 1=0

def SgA(aa:Int)(X W V R:RV):Prop:=∀i<Y ak.rows,cb W i 0=J->SgE aa X V R i

def axC(h:dD)(aa:Int)(R W X V:RV)(i:Nat)(P:Sl (cr 96 V i))(Q:iw aa R W X V i):AO (gB aa R W X V i 0) (gB aa R W X V i 1) (gB aa R W X V i 2) (gB aa R W X V i 3):=by
 simp only[gB,iw] at Q⊢;by_cases c:cb R i 0=J;simp only[c,if_true] at Q⊢;obtain⟨o,O,p,q,r,s,e,rfl,N⟩:=awM h i aa (ci W i) _ (rN (cellAt X.rows (i:Int) 0)) (ci X i) (cr 96 V i) P;have e:∀k,qE aa W X V i k=xi [.i p,.i q,.i r,.i s,.i e] k:=λk=>by simp only[qE,oi,iW O]
 simp only[e] at Q⊢;exact N Q.2;simp only[c,if_false] at Q⊢;exact WG W X i Q
structure ObE(aa:Int)(wg bd mv bf af re bx:RV):Prop where
 ex:Lg aa wg bd mv bf af re bx
 tN:∀i<Y ak.rows,iw aa mv bf bd re i
 sge:SgA aa bd mv bf re
end
section
variable{R:bn->Prop}{G:aR}{t:T}{O:ac}{L:dK}
variable[Inhabited dl]
def yY(v:am)(k:Nat):Nat:=(v.getD k []).length
def WH{W:aF}(h:Y P=X)(V:Y W=N):yY (P++[W]) X=N:=by
 subst h;simpa[yY] using V
def WI{w:am}(h:X<Y P):yY (P++w) X=yY P X:=by simp[yY,aDg h]
structure Md(aa:Int)(bd mv bf re:RV)(vs vr vb:am):Prop where
 wk:gP=0
 br:0<=aa/\aa<dg
 lQ:Y bd.rows=Y ak.rows
 tM:Y mv.rows=Y ak.rows
 pJ:Y bf.rows=Y ak.rows
 lB:Y re.rows=Y ak.rows
 eI:∀i<Y ak.rows,Hq bd i=0/\tL bf i=0/\(if cb mv i 0 then CH aa re i=0 else(cr 96 re i).rows=[])
 ls:Y vs=Y ak.rows
 lr:Y vr=Y ak.rows
 lb:Y vb=Y ak.rows
 al:∀k<Y ak.rows,cellAt vr (k:Int) 0=aq (cr 96 re k).rows/\yY vs k=13/\yY vb k=4/\iw aa mv bf bd re k/\(∀j<13,aO (cellAt vs (k:Int) j).val=gS aa mv bf re k j)/\∀j<4,aO (cellAt vb (k:Int) j).val=gB aa mv bf bd re k j
end
section
variable[Inhabited dl]
def ae8:∀{X W:aW}(k:Nat),nO X W->xi X k=xi W k
 |[],[],_,_=>rfl
 |[],_::_,_,h=>h.elim
 |_::_,[],_,h=>h.elim
 |x::X,y::W,0,h=>by
  have h:=h.1;cases x<;>cases y<;>simp only[F5] at h<;>simp[xi,h]
 |x::X,y::W,k+1,h=>by
  have:=ae8 k h.2;simpa[xi] using this
def OZ(a b:RV)(h:ck a b):∀l:aW,nO (l++[.r a]) (l++[.r b])
 |[]=>⟨h,trivial⟩
 |x::l=>⟨(WE [x]).1,OZ a b h l⟩
def WJ(h:Sl H):ck (aq H.rows) H:=by
 obtain⟨⟨a,n,c,V⟩,X,_⟩:=h;cases H with
 |mk x Q=>
  simp only[RV.lg,RV.lj] at V X⊢;subst V;simp only[lenOf] at X;obtain rfl:n=Y Q:=by omega
  refine ck.sl _ _ _ _ _ _ _ rfl (λi P O W X=>by rw[W] at X;cases X;rfl) (λi j P O x M W X N R=> ?_);rw[W] at X;cases X;rw[N] at R;cases R;exact ck.refl x
def ae9(h:dD)(aa:Int)(d W g X:RV)(O:W.rows=d.rows)(i:Nat)(V:Sl (cr 96 g i))(R:cr 96 X i=aq (cr 96 g i).rows)(k:Nat):pI aa W X i k=pI aa d g i k:=by
 have N:∀j,ci W i j=ci d i j:=λj=>by simp only[ci,O]
 obtain⟨o,Q,M,rfl,_⟩:=Lc h i aa (ci d i) (cr 96 g i) V;obtain⟨L,P,H,rfl,_⟩:=Lc h i aa (ci d i) (cr 96 X i) (by rw[R];exact kw V.sm);have e:=WF (OZ _ _ (show ck (cr 96 X i) (cr 96 g i) by rw[R];exact WJ V) (wk++[.i i,.i aa,.i (ci d i 0),.i (ci d i 1),.i (ci d i 2),.i (ci d i 3),.i (ci d i 4),.i (ci d i 5),.i (ci d i 6),.i (ci d i 7),.i (ci d i 8),.i (ci d i 9),.i (ci d i 10),.i (ci d i 11),.i (ci d i 12)])) (by simpa only[aD5,aDi,aDl] using P) (by simpa only[aD5,aDi,aDl] using Q);simp only[pI,N,oi,iW Q,iW P];exact ae8 k e
def afa(h:dD)(aa:Int)(d W f g X:RV)(O:W.rows=d.rows)(i:Nat)(V:Sl (cr 96 g i))(R:cr 96 X i=aq (cr 96 g i).rows)(k:Nat):qE aa W f X i k=qE aa d f g i k:=by
 have N:∀j,ci W i j=ci d i j:=λj=>by simp only[ci,O]
 obtain⟨o,Q,M,rfl,_⟩:=OS h i aa (ci d i) _ (rN (cellAt f.rows (i:Int) 0)) (ci f i) (cr 96 g i) V;obtain⟨L,P,H,rfl,_⟩:=OS h i aa (ci d i) _ (rN (cellAt f.rows (i:Int) 0)) (ci f i) (cr 96 X i) (by rw[R];exact kw V.sm);have e:=WF (OZ _ _ (show ck (cr 96 X i) (cr 96 g i) by rw[R];exact WJ V) (wk++[.i i,.i aa,.i (ci d i 0),.i (ci d i 1),.i (ci d i 2),.i (ci d i 3),.i (ci d i 4),.i (ci d i 5),.i (ci d i 6),.i (ci d i 7),.i (ci d i 8),.i (ci d i 9),.i (ci d i 10),.i (ci d i 11),.i (ci d i 12),.r (cT .str (cellAt f.rows (i:Int) 0)),.i (ci f i 1),.i (ci f i 2),.i (ci f i 3),.i (ci f i 4),.i (ci f i 5),.i (ci f i 6),.i (ci f i 7),.i (ci f i 8),.i (ci f i 9),.i (ci f i 10),.i (ci f i 11),.i (ci f i 12),.i (ci f i 13),.i (ci f i 14),.i (ci f i 15),.i (ci f i 16)])) (by simpa only[aD5,aDi,aDl] using P) (by simpa only[aD5,aDi,aDl] using Q);simp only[qE,N,oi,iW Q,iW P];exact ae8 k e
variable{aa:Int}{f p d g:RV}{q m s:am}
def Md.cr(k:Md aa f p d g q m s){i:Nat}(X:i<Y ak.rows):cr 96 (aq m) i=aq (cr 96 g i).rows:=by
 have:=(k.al i X).1;simp only[Y.cr,Wa,this];rfl
def Md.gS(k:Md aa f p d g q m s)(h:dD)(W:∀i<Y g.rows,Sl (Y.cr 96 g i)){i:Nat}(X:i<Y ak.rows)(j:Nat):gS aa (aq p.rows) (aq d.rows) (aq m) i j=gS aa p d g i j:=by
 have V:=ae9 h aa d (aq d.rows) g (aq m) rfl i (W i (by rw[k.lB];exact X)) (k.cr X) j;simp only[Y.gS,V];rfl
def Md.gB(k:Md aa f p d g q m s)(h:dD)(W:∀i<Y g.rows,Sl (Y.cr 96 g i)){i:Nat}(X:i<Y ak.rows)(j:Nat):gB aa (aq p.rows) (aq d.rows) f (aq m) i j=gB aa p d f g i j:=by
 have V:=afa h aa d (aq d.rows) f g (aq m) rfl i (W i (by rw[k.lB];exact X)) (k.cr X) j;simp only[Y.gB,V];rfl
end
section
variable[Inhabited dl]
variable{aa:Int}{a f M F V:RV}{q s:am}
end
inductive Rt(g:Nat->Nat):Nat->Nat->Prop where
 |here {k:Nat} (h:g k=k):Rt g k k
 |up {k r:Nat} (h:g k≠k) (h2:Rt g (g k) r):Rt g k r
def Rt.Lb(h:Rt Q X N):∀{W:Nat},Rt Q X W->N=W:=by
 induction h with
 |here h=>
  intro W R;cases R with
  |here=>rfl
  |up V P=>exact(V h).elim
 |up h P O=>
  intro W R;cases R with
  |here V=>exact(h V).elim
  |up V M=>exact O M
def Rt.fix(h:Rt Q X N):Q N=N:=by
 induction h with
 |here h=>exact h
 |up h V W=>exact W
def Rt.le(W:∀q,Q q<=q)(h:Rt Q X N):N<=X:=by
 induction h with
 |here h=>exact aDm _
 |up h R V=>exact aDY V (W _)
def Rt.pG(X:∀q,Q q<=q)(k:Nat):∃r,Rt Q k r:=by
 induction k using aE4 with
 |_ k W=>
  by_cases h:Q k=k;exact⟨k,.here h⟩;obtain⟨r,V⟩:=W (Q k) (aFG (X k) h);exact⟨r,.up h V⟩
def rQ(g:Nat->Nat)(k v:Nat):Nat->Nat:=λq=>if q=k then v else g q
def EX:Nat->Nat->(Nat->Nat)->Nat->Nat
 |0,_,g=>g
 |n+1,k,g=>if g k=k then g else rQ (EX n (g k) g) k (EX n (g k) g (g k))
def aoX{g:Nat->Nat}(W:∀q,g q<=q):∀n k,k<n->Rt g k (EX n k g k)/\∀q,EX n k g q=g q\/Rt g q (EX n k g q)
 |0,k,h=>absurd h (aGq _)
 |n+1,k,h=>by
  simp only[EX];by_cases X:g k=k;rw[if_pos X];exact⟨by rw[X];exact .here X,λq=>.inl rfl⟩;rw[if_neg X];have P:=aFG (W k) X;obtain⟨V,Q⟩:=aoX W n (g k) (by omega);refine⟨by simp only[rQ,if_true];exact .up X V,λq=> ?_⟩;simp only[rQ];by_cases R:q=k;subst R;rw[if_pos rfl];exact .inr (.up X V);rw[if_neg R];exact Q q
def Rt.short{W:Nat->Nat}(R:∀q,Q q<=q)(h:∀q,W q=Q q\/Rt Q q (W q))(x:Nat):∀{r:Nat},Rt Q x r->Rt W x r:=by
 induction x using aE4 with
 |_ x P=>
  intro r O;cases O with
  |here X=>
   rcases h x with e|e;exact .here (e.trans X);exact .here (e.Lb (.here X))
  |up X V=>
   have N:=aFG (R x) X;rcases h x with e|e;refine .up (by rw[e];exact X) ?_;rw[e];exact P _ N V;have M:W x=r:=e.Lb (.up X V);have L:=V.le R;refine .up (by omega) ?_;rw[M];exact P r (by omega) (.here V.fix)
def axD{X:Nat->Nat}(W:∀q,Q q<=q)(h:∀q,X q=Q q\/Rt Q q (X q))(q:Nat):X q<=q:=by
 rcases h q with e|e;rw[e];exact W q;exact e.le W
def Rt.join{x r:Nat}(P:Q X=X)(O:Q N=N)(h:Rt Q x r):Rt (rQ Q X N) x (if r=X then N else r):=by
 induction h with
 |here V=>
  rename_i k;by_cases W:k=X;subst W;rw[if_pos rfl];by_cases R:N=k;subst R;exact .here (by simp[rQ]);have e:rQ Q k N k=N:=by simp[rQ]
  refine .up (by rw[e];exact R) ?_;rw[e];exact .here (by simp[rQ,R,O]);rw[if_neg W];exact .here (by simp[rQ,W,V])
 |up V L M=>
  rename_i k r;have W:k≠X:=λe=>V (by rw[e];exact P)
  have e:rQ Q X N k=Q k:=by simp[rQ,W]
  refine .up (by rw[e];exact V) ?_;rw[e];exact M
def EY(g:Nat->Nat)(a b:Nat):Prop:=∃r,Rt g a r/\Rt g b r
def EY.short{g X:Nat->Nat}{a b:Nat}(W:∀q,g q<=q)(h:∀q,X q=g q\/Rt g q (X q))(k:EY g a b):EY X a b:=by
 obtain⟨r,V,R⟩:=k;exact⟨r,V.short W h,R.short W h⟩
def EY.join{g:Nat->Nat}{X W a b:Nat}(V:g X=X)(R:g W=W)(k:EY g a b):EY (rQ g X W) a b:=by
 obtain⟨r,Q,P⟩:=k;exact⟨_,Q.join V R,P.join V R⟩
def gL(m:am)(q:Nat):Nat:=(ax 0 (m.getD q [])).toNat
def aoY{x:aF}(V:X<Y P):gL (P.set X x)=rQ (gL P) X (ax 0 x).toNat:=by
 funext q;simp only[gL,rQ,aDf];by_cases W:q=X;subst W;rw[if_pos rfl,aEq V];rfl;rw[if_neg W,aDP (Ne.symm W)]
def Ln(h:kB P=J)(q:Nat):gL P q<=q:=by
 unfold gL;by_cases X:q<Y P;have:=Di h X;omega;rw[aDf,aDy (by omega)];show(0:Int).toNat<=q;simp
def aoZ{m:am}(h:kB m=J):∀(n:Nat)(i:Int),0<=i->i<Y m->gL (o9 n i m)=EX n i.toNat (gL m)
 |0,_,_,_=>rfl
 |n+1,i,W,V=>by
  obtain⟨R,O,Q⟩:=YT h W V;have P:=aoZ h n _ R Q;have e:gL m i.toNat=(ax 0 (m.getD i.toNat [])).toNat:=rfl;simp only[o9,EX];by_cases X:ax 0 (m.getD i.toNat [])=i;rw[if_pos X,if_pos (by rw[e,X])];rw[if_neg X,if_neg (by rw[e];omega),aoY (by rw[QD];omega),e,<-P];rfl
def afb(h:∀k<Y P,0<=ax 0 (P.getD k [])/\ax 0 (P.getD k [])<=k):kB P=true:=by
 refine aDr.2 λk X=> ?_
 simp only[aDc,decide_eq_true_eq];exact h k (aEd.1 X)
def WK(h:kB P=J)(k:Nat)(X:k<Y P):ax 0 (P.getD k [])=(gL P k:Int):=by
 have:=Di h X;unfold gL;omega
def axE{X:am}(h:kB P=J)(R:∀x∈X,x∈P)(Q:∀q,gL X q<=q):kB X=true:=by
 refine afb λk O=> ?_
 have N:X.getD k []∈X:=ahO O _;obtain⟨p,V⟩:=aDU (R _ N);have M:p<Y P:=(aDd.1 V).1;have W:=(Di h M).1;rw[aDf,V] at W;have W:0<=ax 0 (X.getD k []):=W;have:=Q k;unfold gL at this;omega
def axF(h:kB P=J)(L:Y P<=1099511627776)(Q:0<=W)(O:W<Y P):∃X,uf W P=U X/\Y X=Y P/\kB X=J/\(∀q,gL X q=gL P q\/Rt (gL P) q (gL X q))/\Rt (gL P) W.toNat (gL X W.toNat):=by
 obtain⟨X,V⟩:∃X,uf W P=U X:=⟨o9 (Y P) W P,by unfold uf;rw[if_pos (by simp[L,Q,O,h])]⟩;obtain⟨-,-,-,-,e⟩:=MC V;have N:=aoZ h (Y P) W Q O;rw[<-e] at N;obtain⟨M,R⟩:=aoX (Ln h) (Y P) W.toNat (by omega);rw[<-N] at M R;exact⟨X,V,YU V,axE h (QE V) (axD (Ln h) R),R,M⟩
section
variable[Inhabited dl]
structure axG(n:Nat)(v m:am):Prop where
 len:Y m=n
 ok:kB m=J
 pr:∀x∈v,ax 0 (m.getD (ax 0 x).toNat [])=ax 0 (m.getD (ax 1 x).toNat [])
def R63(n:Nat)(v:am)(e:Int)(o:bn):Prop:=(e≠0/\o=.ret [.r (aq []),.i e])\/(e=0/\∃m,o=.ret [.r (aq m),.i 0]/\axG n v m)
def axI(m:am)(k:Nat)(x:Int)(W:k<Y m)(R:∀X∈m,Y X=1):(m.modify k λX=>fo X 0 [iV x])=m.set k [iV x]:=by
 apply aDG;intro q;rw[aFu,aD9];by_cases V:k=q;subst V;rw[if_pos rfl,if_pos W,aDe W];have:=R _ (aD3 W);generalize m[k]=X at this
 match X,this with
 |[c],_=>simp[fo]
 rw[if_neg V];simp[V]
def axJ(h:kB P=J)(V:Y P=X):kB (P++[[iV X]])=true:=by
 refine afb λk R=> ?_
 simp only[aDs,aE1] at R;rw[aDf];by_cases W:k<Y P;rw[aDg W,<-aDf];exact Di h W;have:k=Y P:=by omega
 subst this;rw[aDk (aDm _)];simp[ax,aO,iV,V]
def axK(h:∀W∈P,Y W=1):∀W∈P++[[H]],Y W=1:=λW X=>by
 rcases aDo.1 X with X|X;exact h W X;simp at X;subst X;rfl
def afc{R:bn->Prop}{O:ac}{L:dK}{t:T}{m:am}{r:RE}{e:TypeId}{N:aE}{i:IE}(M:r.rv O=aq m)(H:i.den O=W)(G:∀V∈m,Y V=1)(h:kB m=J)(y:Y m<=1000)(F:0<=W)(D:W<Y m)
  (k:∀X,Y X=Y m->(∀V∈X,Y V=1)->kB X=J->(∀q,gL X q=gL m q\/Rt (gL m) q (gL X q))->Rt (gL m) W.toNat (gL X W.toNat)->t.wp TB.Ev R (O.add (.r (aq X))) L):
  T.wp TB.Ev R (.dw 130 130 e (.cw 0 (.lex [] E) [i]) J r N t) O L:=by
 obtain⟨X,Q,P,C,B,A⟩:=axF h (by omega) F D;rw[avC,M];refine⟨X, ?_, ?_⟩;show uf (i.den O) m=U X;rw[H];exact Q;have:=k X P (λV z=>G V (QE Q V z)) C B A;have e:(RV.mk (aq m).val X)=aq X:=by
  simp only[aq,RV.lg,P]
 rw[e];exact this
set_option maxHeartbeats 4000000 in
def t63 (h:dD) (aa:Int) (af:TB.Ev 23 (wk++[.i aa]) (.ret [.r (aq P),.i W])) (hv:∀x∈P,0<=ax 0 x/\ax 0 x<ax 1 x/\ax 1 x<Y ak.rows) (bb:Y P<=4096) (hn:Y ak.rows<=1000):
  ∃o,TB.Ev 63 (wk++[.i aa]) o/\R63 (Y ak.rows) P W o:=by
 refine dX rfl rfl (.inl rfl) ?_;simp only[wk,aDi,aDl] at af;simp[T63,wk,bp af];refine aN (λn=> ?_) (λn=>.inl ⟨n,rfl⟩);subst n;have ag:Y ak.rows<=140737488355328:=by omega
 have ap:Y P<=140737488355328:=by omega
 refine bU (Y ak.rows) (λi C=>∃m,C=[.r (aq m)]/\Y m=i/\(∀L∈m,Y L=1)/\kB m=J) ⟨0,rfl,by omega,[],rfl,rfl,by simp,rfl⟩ ?_;rintro i _ hi ⟨m0,rfl,B,A,F⟩;simp[h.rl.len];refine aN (λhi=> ?_) (λbd=> ?_);simp[bH hi ag];exact⟨by omega,_,rfl,by simp;omega,axK A,axJ F B⟩;have a0:i=Y ak.rows:=by omega
 subst a0;refine bU (Y P) (λj C=>∃m,C=[.r (aq m)]/\Y m=Y ak.rows/\(∀L∈m,Y L=1)/\kB m=J/\∀x∈P.take j,EY (gL m) (ax 0 x).toNat (ax 1 x).toNat) ⟨0,rfl,by omega,m0,rfl,B,A,F,by simp⟩ ?_;rintro j _ H ⟨m,rfl,B,A,F,l⟩;simp;refine aN (λH=> ?_) (λbf=> ?_);simp[H];obtain⟨va,a3,vb⟩:=hv _ (aD3 H);have ea:aO (cellAt P (j:Int) 0).val=ax 0 P[j]:=by simp[cellAt,ax,H]
 have eb:aO (cellAt P (j:Int) 1).val=ax 1 P[j]:=by simp[cellAt,ax,H]
 refine afc (m:=m) rfl ea A F (by omega) (by omega) (by omega) ?_;intro D l1 g z O t;refine afc (m:=D) rfl eb g z (by omega) (by omega) (by omega) ?_;intro Q l2 r2 f d a2;simp[bH H ap];have na:aO (cellAt D (aO (cellAt P (j:Int) 0).val) 0).val=((gL D (ax 0 P[j]).toNat:Nat):Int):=by rw[ea];exact WK z _ (by omega)
 have nb:aO (cellAt Q (aO (cellAt P (j:Int) 1).val) 0).val=((gL Q (ax 1 P[j]).toNat:Nat):Int):=by rw[eb];exact WK f _ (by omega)
 simp only[na,nb];have G:=Ln F;have c:=Ln z;have g2:=Ln f;have s:=(t.short G O).short c d;have p:=a2.short c d;have fa:=s.fix;have fb:=p.fix;have la:=s.le g2;have lb:=p.le g2;generalize gL D (ax 0 P[j]).toNat=N at s fa la⊢;generalize gL Q (ax 1 P[j]).toNat=M at p fb lb⊢;obtain⟨V,a4⟩:∃V:Nat,V=max N M:=⟨_,rfl⟩;obtain⟨X,a5⟩:∃X:Nat,X=min N M:=⟨_,rfl⟩;have e1:max (N:Int) (M:Int)=(V:Int):=by omega
 have e2:min (N:Int) (M:Int)=(X:Int):=by omega
 rw[e1,e2];have b:V<Y Q:=by omega
 have a:gL Q V=V:=by rcases aGW N M with q|q<;>simp only[a4,Nat.max_eq_left,Nat.max_eq_right,q]<;>assumption
 have fn:gL Q X=X:=by rcases aGW N M with q|q<;>simp only[a5,aFA,aGl,q]<;>assumption
 have ek:gL (Q.set V [iV (X:Int)])=rQ (gL Q) V X:=by rw[aoY b];rfl
 refine⟨by omega,Q.set V [iV (X:Int)], ?_,by simp;omega,λL y=> ?_, ?_,λx R=> ?_⟩;rw[<-axI Q V X b r2];rfl;rcases aEc y with y|y;exact r2 L y;subst y;rfl;refine afb λk w=> ?_
 rw[aGo] at w;rw[aDf];by_cases al:k=V;subst al;rw[aEq b];show(0:Int)<=(X:Int)/\(X:Int)<=(k:Int);omega;rw[aDP (Ne.symm al),<-aDf];exact Di f w;rw[ek];rw[aFJ,aDe H] at R;rcases aDo.1 R with R|R;exact(((l x R).short G O).short c d).join a fn;simp at R;subst R;refine⟨X, ?_, ?_⟩;have:=s.join a fn;by_cases q:N=V
 rwa [if_pos q] at this
 rw[if_neg q] at this;have:N=X:=by omega
 subst this;assumption;have:=p.join a fn;by_cases q:M=V
 rwa [if_pos q] at this
 rw[if_neg q] at this;have:M=X:=by omega
 subst this;assumption;have a6:j=Y P:=by omega
 subst a6;rw[List.take_length] at l;refine bU (Y ak.rows) (λk C=>∃m,C=[.r (aq m)]/\Y m=Y ak.rows/\(∀L∈m,Y L=1)/\kB m=J/\(∀x∈P,EY (gL m) (ax 0 x).toNat (ax 1 x).toNat)/\∀q<k,Rt (gL m) q (gL m q)) ⟨0,rfl,by omega,m,rfl,B,A,F,l,by simp⟩ ?_;rintro k _ w ⟨m',rfl,a7,a8,u,an,ab⟩;simp[B];refine aN (λw=> ?_) (λbg=> ?_);refine afc (m:=m') rfl rfl a8 u (by omega) (by simp) (by simp;omega) ?_;intro D l1 g z O t;have G:=Ln u;simp[bH w ag] at t⊢;refine⟨D,rfl,by omega,g,z,λx R=>(an x R).short G O,λq hq=> ?_⟩;by_cases a9:q=k;subst a9;exact t.short G O;have:=ab q (by omega);rcases O q with W|W;rw[W];exact this.short G O;exact W.short G O;refine .inr ⟨rfl,m',rfl,a7,u,λx R=> ?_⟩;obtain⟨va,a3,vb⟩:=hv x R;obtain⟨r,q1,q2⟩:=an x R;rw[WK u _ (by omega),WK u _ (by omega),(ab _ (by omega)).Lb q1,(ab _ (by omega)).Lb q2]
end
section
variable{R:bn->Prop}{G:aR}{t:T}{O:ac}{L:dK}
variable[Inhabited dl]
structure Ab(n:Nat)(aa:Int)(bd mv bf re:RV)(vs vr vb:am):Prop where
 ls:Y vs=n
 lr:Y vr=n
 lb:Y vb=n
 al:∀k<n,cellAt vr (k:Int) 0=aq (cr 96 re k).rows/\yY vs k=13/\yY vb k=4/\iw aa mv bf bd re k/\(∀j<13,aO (cellAt vs (k:Int) j).val=gS aa mv bf re k j)/\∀j<4,aO (cellAt vb (k:Int) j).val=gB aa mv bf bd re k j
def R39(aa:Int)(V X W Q:RV)(o:bn):Prop:=(∃e,e≠0/\(∃k<Y ak.rows,¬iw aa X W V Q k)/\o=.bj (.iface 45 (.int I e)))\/∃P N M,o=.ret [.i aa,.r (aq X.rows),.r (aq W.rows),.r (aq P),.r (aq N),.r (aq M)]/\Ab (Y ak.rows) aa V X W Q P N M
def afd{X:FuncId->aW->bn->Prop}{R:bn->Prop}{O:ac}{L:dK}{t:TypeId}{k:IntKind}{e:IE}(h:R (.bj (.iface t (.int k (e.den O))))):T.wp X R (.bj (.eP t (.int k e))) O L:=⟨_,rfl,h⟩
set_option maxHeartbeats 8000000 in
def t39 (h:dD) (aa:Int) (M V Q X:RV) (bJ:Sl M) (c:Sl V) (eu:Sl Q) (ag:Sl X) (b:Y ak.rows<=140737488355328) (a8:Y ak.rows<=536870912) (lQ:Y M.rows=Y ak.rows) (tM:Y V.rows=Y ak.rows) (pJ:Y Q.rows=Y ak.rows) (lB:Y X.rows=Y ak.rows) (al:∀i<Y X.rows,Sl (cr 96 X i)/\(cr 96 X i).rows.length<=100):∃o,TB.Ev 39 (wk++[.r M,.i aa,.r V,.r Q,.r X]) o/\R39 aa M V Q X o:=by
 obtain⟨P,y⟩:∃P:bn->Prop,∀o,P o<->R39 aa M V Q X o:=⟨_,λ_=>Iff.rfl⟩
 suffices an:∃o,TB.Ev 39 (wk++[.r M,.i aa,.r V,.r Q,.r X]) o/\P o by
  obtain⟨o,g1,g2⟩:=an;exact⟨o,g1,(y o).1 g2⟩
 refine dX rfl rfl (.inl rfl) ?_;have x:∀{e:Int}{i:Nat},e≠0->i<Y ak.rows->¬iw aa V Q M X i->P (.bj (.iface 45 (.int I e))):=λ{e i} he N H=>(y _).2 (.inl ⟨e,he,⟨i,N,H⟩,rfl⟩)
 simp[T39,wk];have ap:lenOf M.val=(Y ak.rows:Int):=by rw[bJ.len,lQ]
 have a0:lenOf V.val=(Y ak.rows:Int):=by rw[c.len,tM]
 have a1:lenOf Q.val=(Y ak.rows:Int):=by rw[eu.len,pJ]
 have a2:lenOf X.val=(Y ak.rows:Int):=by rw[ag.len,lB]
 have z:∀i<Y ak.rows,Sl (cr 96 X i)/\(cr 96 X i).rows.length<=100:=λi N=>al i (by omega)
 rw[bp (e86 V c (by omega))];simp;rw[bp (e87 Q eu (by omega))];simp;refine bU (Y ak.rows) (λi a6=>∃F C D,a6=[.r (aq F),.r (aq C),.r (aq D)]/\Y F=i/\Y C=i/\Y D=i/\∀k<i,cellAt C (k:Int) 0=aq (cr 96 X k).rows/\yY F k=13/\yY D k=4/\iw aa V Q M X k/\(∀j<13,aO (cellAt F (k:Int) j).val=gS aa V Q X k j)/\∀j<4,aO (cellAt D (k:Int) j).val=gB aa V Q M X k j) ⟨0,rfl,by omega,[],[],[],rfl,rfl,rfl,rfl,by omega⟩ ?_;rintro i _ N ⟨F,C,D,rfl,B,w,A,v⟩;simp[ap,a0,a1,a2];refine aN (λN=> ?_) (λa9=> ?_);have a:=e88 (cr 96 X i) (z i N).1 (by have:=(z i N).2;omega);simp only[cr] at a;simp[bH N b,N,bp a];refine⟨by omega,aN (λu=> ?_) (λu=> ?_)⟩;have G:cb V i 0=true:=u;have ab:=jP _ (Lc h i aa (ci Q i) (cr 96 X i) (z i N).1);simp only[wk,ci,cr,aDi,aDl,AM,CD,od] at ab;rw[bp ab];simp;refine aN (λs=> ?_) (λH=>afd (x H N (by rw[iw,if_pos G];exact λq=>H q.1)));have af:=jP _ (OS h i aa (ci Q i) _ (rN (cellAt M.rows (i:Int) 0)) (ci M i) (cr 96 X i) (z i N).1);simp only[wk,ci,cr,aDi,aDl,AM,CD,od] at af;rw[bp af];simp[bH N b];refine aN (λa5=> ?_) (λH=>afd (x H N (by rw[iw,if_pos G];exact λq=>H q.2)));refine⟨by omega,by omega,_,_,_,⟨rfl,rfl,rfl⟩,by simp;omega,by simp;omega,by simp;omega,λk hk=> ?_⟩;by_cases p:k=i;subst p;refine⟨by rw[qF w];rfl,WH B rfl,WH A rfl,by rw[iw,if_pos G];exact⟨s,a5⟩,λj W=> ?_,λj W=> ?_⟩;rw[qF B,gS,if_pos G]
 match j,W with
 |0,_|1,_|2,_|3,_|4,_|5,_|6,_|7,_|8,_|9,_|10,_|11,_|12,_=>rfl
 rw[qF A,gB,if_pos G]
 match j,W with
 |0,_|1,_|2,_|3,_=>rfl
 obtain⟨n,m,l,g,f,d⟩:=v k (by omega);exact⟨by rw[tO (by omega)];exact n,by rw[WI (by omega)];exact m,by rw[WI (by omega)];exact l,g,λj W=>by rw[tO (by omega)];exact f j W,λj W=>by rw[tO (by omega)];exact d j W⟩;have G:¬cb V i 0=true:=u;refine aN (λs=> ?_) (λH=>afd (x H N (by rw[iw,if_neg G];exact H)));refine⟨by omega,by omega,_,_,_,⟨rfl,rfl,rfl⟩,by simp;omega,by simp;omega,by simp;omega,λk hk=> ?_⟩;by_cases p:k=i;subst p;refine⟨by rw[qF w];rfl,WH B rfl,WH A rfl,by rw[iw,if_neg G];exact s,λj W=> ?_,λj W=> ?_⟩;rw[qF B,gS,if_neg G]
 match j,W with
 |0,_|1,_|2,_|3,_|4,_|5,_|6,_|7,_|8,_|9,_|10,_|11,_|12,_=>rfl
 rw[qF A,gB,if_neg G]
 match j,W with
 |0,_|1,_|2,_|3,_=>rfl
 obtain⟨n,m,l,g,f,d⟩:=v k (by omega);exact⟨by rw[tO (by omega)];exact n,by rw[WI (by omega)];exact m,by rw[WI (by omega)];exact l,g,λj W=>by rw[tO (by omega)];exact f j W,λj W=>by rw[tO (by omega)];exact d j W⟩;have a7:i=Y ak.rows:=by omega
 subst a7;exact(y _).2 (.inr ⟨F,C,D,rfl,⟨B,w,A,v⟩⟩)
end
def ao2{X:Type}(n i:Nat)(f V:Nat->X)(g:X->X)(h:∀k<n,V k=if k=i then g (f k) else f k):((aDA n).map f).modify i g=(aDA n).map V:=by
 apply aDG;intro q;rw[aFu];simp only[aDj];by_cases W:q<n;rw[aEt W];simp only[aDn,h q W];by_cases e:i=q;subst e;simp;rw[if_neg (Ne.symm e)];simp[e];rw[aDy (by simpa using aEr W)];simp
def WL{V:Type}{f W:Nat->V}(h:∀k<X,f k=W k):(aDA X).map f=(aDA X).map W:=aDC λk R=>h k (aEd.1 R)
def tP(X:am)(g:Int):Bool:=match fJ 1 [g,0,0] X with
 |U W=>fm (W.getD 1 default).val
 |none=>E
def Lq(g:Int)(X:aF):iB 1 [g,0,0] X=decide ((X.take 1).map (λc=>aO c.val)=[g]):=rfl
def ao3(x g:Int):∀Q:am,tP (di 1 [RV.mk (.int I x) [],RV.mk (.bool J) []] Q) g=(decide (g=x)||tP Q g)
 |[]=>by
  by_cases h:g=x;subst h;simp[tP,di,fJ,Lq,aO,fm];have V:¬x=g:=λe=>h e.symm
  simp[tP,di,fJ,Lq,aO,h,V]
 |r::X=>by
  have P:=ao3 x g X;have O:(aEZ (λc:RV=>aO c.val) (List.take 1 [RV.mk (.int I x) [],RV.mk (.bool J) []]))=[x]:=rfl;by_cases W:(r.take 1).map (λc=>aO c.val)=[x];have R:di 1 [RV.mk (.int I x) [],RV.mk (.bool J) []] (r::X)=[RV.mk (.int I x) [],RV.mk (.bool J) []]::X:=by
   simp only[di,O,iB];rw[if_pos (by simpa using W)]
  rw[R];by_cases h:g=x;subst h;simp[tP,fJ,Lq,aO,fm];have V:¬x=g:=λe=>h e.symm
  simp only[tP,fJ,aEN,Lq,W,h];simp[aO,V];have R:di 1 [RV.mk (.int I x) [],RV.mk (.bool J) []] (r::X)=r::di 1 [RV.mk (.int I x) [],RV.mk (.bool J) []] X:=by
   simp only[di,O,iB];rw[if_neg (by simpa using W)]
  rw[R];by_cases h:(r.take 1).map (λc=>aO c.val)=[g];have N:¬g=x:=λe=>W (by rw[h,e])
  simp only[tP,fJ,aEN,Lq,h,N];simp;simp only[tP,fJ,aEN,Lq,h] at P⊢;simpa using P
section
def EZ(m:am)(wo p:RV)(n:Nat)(g:Int):Prop:=∃k<n,ax 0 (m.getD k [])=g/\(cb wo k 0=E\/cb p k 0=E)
open Classical in
noncomputable def gQ(m:am)(wo p:RV)(n k:Nat):Bool:= !decide (EZ m wo p n (ax 0 (m.getD k [])))
noncomputable def iE(m:am)(wo p:RV)(n:Nat):RV:=aq ((aDA n).map λk=>[RV.mk (.bool (gQ m wo p n k)) []])
noncomputable def lT(m:am)(wo p a:RV)(n:Nat):RV:=aq ((aDA n).map λk=>[if gQ m wo p n k=J then cr 96 a k else aq []])
section
variable{m:am}{wo p a:RV}{n:Nat}
def afe:gQ m wo p n X=E<->EZ m wo p n (ax 0 (m.getD X [])):=by
 classical
 simp[gQ]
def E0(W:X<n)(V:gQ m wo p n X=J):cb wo X 0=J/\cb p X 0=true:=by
 have h:¬EZ m wo p n (ax 0 (m.getD X [])):=λq=>by rw[afe.2 q] at V;cases V
 constructor;cases e:cb wo X 0;exact(h ⟨X,W,rfl,.inl e⟩).elim;rfl;cases e:cb p X 0;exact(h ⟨X,W,rfl,.inr e⟩).elim;rfl
def ao4{f:Nat->aF}{j:Nat}(W:X<n):cellAt ((aDA n).map f) (X:Int) j=(f X).getD j default:=by
 simp[cellAt,aEt W]
def vl(W:X<n):cb (iE m wo p n) X 0=gQ m wo p n X:=by
 simp only[cb,iE,Wa,ao4 W];rfl
def axL(e:TypeId)(v:RV):cT (.sl e) (cT (.sl e) v)=cT (.sl e) v:=by
 obtain⟨x,r⟩:=v;cases x<;>rfl
def w4(W:X<n):cr 96 (lT m wo p a n) X=if gQ m wo p n X=J then cr 96 a X else aq []:=by
 simp only[cr,lT,Wa,ao4 W];show cT (.sl 96) (if gQ m wo p n X=J then cT (.sl 96) (cellAt a.rows (X:Int) 0) else aq [])=_;split;exact axL _ _;rfl
def O4:(iE m wo p n).rows.length=n:=by simp[iE]
def ao5:(lT m wo p a n).rows.length=n:=by simp[lT]
end
section
variable[Inhabited dl]
def axM{aa:Int}{V p R a wo:RV}{m:am}(Q:∀i<Y ak.rows,iw aa p R V a i)(P:∀i<Y ak.rows,cd R V i 4=0):∀i<Y ak.rows,iw aa (iE m wo p (Y ak.rows)) R V (lT m wo p a (Y ak.rows)) i:=by
 intro i X;have W:=Q i X;unfold iw at W⊢;rw[vl X];by_cases h:gQ m wo p (Y ak.rows) i=J;rw[if_pos h];rw[if_pos (E0 X h).2] at W;have e:cr 96 (lT m wo p a (Y ak.rows)) i=cr 96 a i:=by rw[w4 X,if_pos h]
 simp only[pI,qE,e] at W⊢;exact W;rw[if_neg h];exact P i X
end
end
def q21:aj:=[0,1,1,0,0,0,1,0,0,0,1,0,1,0,1,0,1,0,0,0,1,1,0,1]
def oes{o:bn}:vR o o=true:=Jf o
noncomputable def yZ(m:am)(d p:RV)(n i:Nat):am:=(aDA n).map λk=>[RV.mk (.bool (decide (k<i)&&gQ m d p n k)) []]
noncomputable def za(m:am)(d p l:RV)(n i:Nat):am:=(aDA n).map λk=>[if(decide (k<i)&&gQ m d p n k)=J then cr 96 l k else aq []]
def ao7{V:Type}(n:Nat)(x:V){f:Nat->V}(h:∀k<n,f k=x):(aDA n).map f=aDq n x:=by
 rw[List.eq_replicate_iff];refine⟨by simp,λb X=> ?_⟩;obtain⟨k,W,rfl⟩:=aDF.1 X;exact h k (aEd.1 W)
section
variable{m:am}{d p l:RV}{n:Nat}
def aff:yZ m d p n 0=aDq n [RV.mk (.bool E) []]:=ao7 n _ λk _=>by simp
def afg:za m d p l n 0=aDq n [aq []]:=ao7 n _ λk _=>by simp
def axO:(yZ m d p n X).length=n:=by simp[yZ]
def axP:(za m d p l n X).length=n:=by simp[za]
def axQ:yZ m d p n n=(aDA n).map λk=>[RV.mk (.bool (gQ m d p n k)) []]:=WL λk X=>by simp[X]
def axR:za m d p l n n=(aDA n).map λk=>[if gQ m d p n k=J then cr 96 l k else aq []]:=WL λk X=>by simp[X]
def axS(h:gQ m d p n X=J):(yZ m d p n X).modify X (λW=>fo W 0 [RV.mk (.bool J) []])=yZ m d p n (X+1):=by
 refine ao2 n X _ _ _ λk _=> ?_
 by_cases e:k=X;subst e;simp[h,fo];have:(k<X+1)<->k<X:=by omega
 simp[e,this]
def axT(h:gQ m d p n X=J):(za m d p l n X).modify X (λW=>fo W 0 [cr 96 l X])=za m d p l n (X+1):=by
 refine ao2 n X _ _ _ λk _=> ?_
 by_cases e:k=X;subst e;simp[h,fo];have:(k<X+1)<->k<X:=by omega
 simp[e,this]
def axU(h:gQ m d p n X=E):yZ m d p n X=yZ m d p n (X+1):=by
 refine WL λk _=> ?_
 by_cases e:k=X;subst e;simp[h];have:(k<X+1)<->k<X:=by omega
 simp[this]
def axV(h:gQ m d p n X=E):za m d p l n X=za m d p l n (X+1):=by
 refine WL λk _=> ?_
 by_cases e:k=X;subst e;simp[h];have:(k<X+1)<->k<X:=by omega
 simp[this]
def ao8:EZ m d p (X+1) W<->EZ m d p X W\/(ax 0 (m.getD X [])=W/\(cb d X 0=E\/cb p X 0=E)):=by
 constructor;rintro⟨k,Q,V,R⟩;by_cases e:k=X;subst e;exact .inr ⟨V,R⟩;exact .inl ⟨k,by omega,V,R⟩;rintro(⟨k,Q,V,R⟩|⟨V,R⟩);exact⟨k,by omega,V,R⟩;exact⟨X,by omega,V,R⟩
end
section
variable[Inhabited dl]
set_option maxHeartbeats 4000000 in
def afh (aa O N M H G F D:Int) (C P p V B l A d z y x w t u v:RV) (m s q k R:am) (n:Nat) (L:dK) (j:ai)
  (hn:n<=1000) (hm:Y m=n) (lB:lenOf l.val=(n:Int)) (h:∀g,tP R g=J<->EZ m d p n g)
  (AV:TB.Ev 39 (wk++[.r P,.i aa,.r (iE m d p n),.r V,.r (lT m d p l n)]) (.ret [.i aa,.r (aq (iE m d p n).rows),.r (aq V.rows),.r (aq s),.r (aq q),.r (aq k)]))
  (c:j.map (SV.xv ⟨[gO,gw,ny,tH,tI,dg,aa,O,N,M,H,G,F,D],[],[ak,iO,jg,jh,aP,C,P,p,V,B,l,A,d,z,y,x,w,t,aq m,aq R,u,v],[]⟩)=[.i 0,.r (aq (yZ m d p n 0)),.r (aq (za m d p l n 0))]):
  T.wp TB.Ev (λo=>o=.ret [.i aa,.r (aq (iE m d p n).rows),.r (aq V.rows),.r (aq s),.r (aq q),.r (aq k),.i 0]) (T.loop 5 adN j adP) ⟨[gO,gw,ny,tH,tI,dg,aa,O,N,M,H,G,F,D],[],[ak,iO,jg,jh,aP,C,P,p,V,B,l,A,d,z,y,x,w,t,aq m,aq R,u,v],[]⟩ L:=by
 have f:n<=140737488355328:=by omega
 have b:((Y m:Nat):Int)=(n:Int):=by omega
 refine bU n (λi a=>a=[.r (aq (yZ m d p n i)),.r (aq (za m d p l n i))]) (by rw[c];exact⟨0,rfl,aD0 _,rfl⟩) ?_;rintro i _ W rfl;simp[b,lB,axO,axP];refine aN (λW=>⟨W, ?_⟩) (λab=> ?_);have ag:aO (cellAt m (i:Int) 0).val=ax 0 (m.getD i []):=by simp[cellAt,ax]
 rw[ag,bH W f,bH W f];refine aN (λX=> ?_) (λX=>⟨W, ?_⟩);have X:tP R (ax 0 (m.getD i []))=true:=X;have Q:gQ m d p n i=false:=afe.2 ((h _).1 X);rw[axU Q,axV Q];have X:¬tP R (ax 0 (m.getD i []))=true:=X;have Q:gQ m d p n i=true:=by
  cases e:gQ m d p n i;exact(X ((h _).2 (afe.1 e))).elim;rfl
 rw[axS Q,<-axT Q];rfl;have al:i=n:=aEz W (aEr ab);subst al;have e1:aq (yZ m d p i i)=iE m d p i:=by rw[axQ];rfl
 have e2:aq (za m d p l i i)=lT m d p l i:=by rw[axR];rfl
 simp only[wk,aDi,aDl] at AV;rw[e1,e2,bp AV];simp
set_option maxHeartbeats 4000000 in
def axW (R:bn->Prop) (aa A z y x w v:Int) (u C p P t l s d q k j f ab:RV) (m W V Q:am) (n:Nat) (L:dK)
  (D:n<=1000) (X:Y m=n) (tM:lenOf p.val=(n:Int)) (tQ:lenOf d.val=(n:Int)) (lB:lenOf l.val=(n:Int))
  (AV:TB.Ev 39 (wk++[.r C,.i aa,.r (iE m d p n),.r P,.r (lT m d p l n)]) (.ret [.i aa,.r (aq (iE m d p n).rows),.r (aq P.rows),.r (aq W),.r (aq V),.r (aq Q)]))
  (hR:∀o,o=.ret [.i aa,.r (aq (iE m d p n).rows),.r (aq P.rows),.r (aq W),.r (aq V),.r (aq Q),.i 0]->R o):
  T.wp TB.Ev R (OK.at q21) ⟨[gO,gw,ny,tH,tI,dg,aa,A,z,y,x,w,v],[],[ak,iO,jg,jh,aP,u,C,p,P,t,l,s,d,q,k,j,f,ab,aq m],[]⟩ L:=by
 rw[show OK.at q21=T.loop _ _ _ _ from rfl];have ag:n<=140737488355328:=by omega
 have F:(n:Int)<=536870912:=by omega
 have al:((Y m:Nat):Int)=(n:Int):=by omega
 refine aoL (λo=>o=.ret [.i aa,.r (aq (iE m d p n).rows),.r (aq P.rows),.r (aq W),.r (aq V),.r (aq Q),.i 0]) hR n (λi an=>∃X,an=[.r (aq X)]/\∀g,tP X g=J<->EZ m d p i g) ⟨0,rfl,aD0 _,[],rfl,λg=>⟨λh=>by simp[tP,fJ] at h,λ⟨_,hk,_⟩=>absurd hk (aGq _)⟩⟩ ?_;rintro i _ O ⟨N,rfl,M⟩;simp[al,tQ,tM];refine aN (λO=>⟨O, ?_⟩) (λap=> ?_);have B:(cb d i 0=E\/cb p i 0=E)->∃X,aq (di 1 [RV.mk (Value.int I (aO (cellAt m (i:Int) 0).val)) [],RV.mk (Value.bool J) []] N)=aq X/\∀g,tP X g=J<->EZ m d p (i+1) g:=λa0=>⟨_,rfl,λg=>by
  rw[ao3,ao8,aDE,M,decide_eq_true_eq];have:aO (cellAt m (i:Int) 0).val=ax 0 (m.getD i []):=by simp[cellAt,ax]
  rw[this];constructor;rintro(e|e);exact .inr ⟨e.symm,a0⟩;exact .inl e;rintro(e|⟨e,_⟩);exact .inr e;exact .inl e.symm⟩
 simp[bH O ag];refine aN (λH=>⟨O,aN (λG=> ?_) (λG=>B (.inr (aEE.2 G)))⟩) (λH=>B (.inl (aEE.2 H)));refine⟨N,rfl,λg=> ?_⟩;rw[M,ao8];have H:cb d i 0=true:=H;have G:cb p i 0=true:=G;rw[H,G];simp;have a3:i=n:=aEz O (aEr ap);subst a3;rw[show∀{a b:T},UU a b=T.fA (.c J) (.c J) a b from rfl,Hk];have iq:Jl (λo=>o=.ret [.i aa,.r (aq (iE m d p i).rows),.r (aq P.rows),.r (aq W),.r (aq V),.r (aq Q),.i 0]):=single oes;have a4:(lenOf d.val).toNat=i:=by omega
 refine⟨.inl rfl,λ_=> ?_,λ_=> ?_,λ_ _=>iq⟩;simp[tQ,F];rw[show∀{a b:T},UU a b=T.fA (.c J) (.c J) a b from rfl,Hk];refine⟨.inl rfl,λ_=> ?_,λ_=> ?_,λ_ _=>iq⟩;simp[tQ,F];exact afh _ _ _ _ _ _ _ _ _ _ _ _ _ _ _ _ _ _ _ _ _ _ _ m W V Q N i _ _ D X lB M AV (by simp[aff,afg]);simp[tQ,F];exact afh _ _ _ _ _ _ _ _ _ _ _ _ _ _ _ _ _ _ _ _ _ _ _ m W V Q N i _ _ D X lB M AV (by simp[aff,afg]);simp[tQ,F];exact afh _ _ _ _ _ _ _ _ _ _ _ _ _ _ _ _ _ _ _ _ _ _ _ m W V Q N i _ _ D X lB M AV (by simp[aff,afg])
end
section
variable{R:bn->Prop}{G:aR}{t:T}{O:ac}{L:dK}{a b:RV}
def lE(h:ck a b):lenOf b.val=lenOf a.val:=(h.aO).2.2.1.symm
end
section
variable[Inhabited dl]
section
variable{m:am}{b l o p g:RV}{n:Nat}
end
section
def axX(h:dD)(aa:Int)(g X:RV)(i:Nat)(W:Sl (cr 96 g i))(V:cr 96 X i=aq (cr 96 g i).rows):CH aa X i=CH aa g i:=by
 have R:=(wV (Hm iP h i aa (cr 96 g i) W)).1;have Q:=(wV (Hm iP h i aa (cr 96 X i) (by rw[V];exact kw W.sm))).1;have e:=WF (OZ _ _ (show ck (cr 96 X i) (cr 96 g i) by rw[V];exact WJ W) (wk++[.i i,.i aa])) (by simpa only[aD5,aDi,aDl] using Q) (by simpa only[aD5,aDi,aDl] using R);exact e.1
def ao9(h:dD)(aa:Int)(d g:RV)(i:Nat)(R:Sl (cr 96 g i))(V:pI aa d g i 13=0):∃v,yS i aa (cr 96 g i) v/\rS (pI aa d g i)/\∀j<13,pI aa d g i j=bS (ci d i) v (Y v) j:=by
 obtain⟨_,Q,P,O,N,M,L,H,G,F,D,C,B,A,z,e,rfl,X⟩:=aoh h i aa (ci d i) (cr 96 g i) R;have W:∀j,pI aa d g i j=xi [.i P,.i O,.i N,.i M,.i L,.i H,.i G,.i F,.i D,.i C,.i B,.i A,.i z,.i e] j:=λj=>by simp only[pI,oi,iW Q]
 rw[W] at V;obtain⟨v,y,x,X⟩:=X V;simp only[aEg,and_true] at X;obtain⟨rfl,rfl,rfl,rfl,rfl,rfl,rfl,rfl,rfl,rfl,rfl,rfl,rfl⟩:=X;refine⟨v,y,by simp only[rS,W];exact x,λj w=> ?_⟩;rw[W]
 match j,w with
 |0,_|1,_|2,_|3,_|4,_|5,_|6,_|7,_|8,_|9,_|10,_|11,_|12,_=>rfl
def axY(h:dD)(aa:Int)(d g:RV)(i:Nat)(X:Sl (cr 96 g i))(W:pI aa d g i 13=0):rS (pI aa d g i):=(ao9 h aa d g i X W).elim λ_ k=>k.2.1
variable{aa:Int}{f p d g:RV}{q a s:am}{n:Nat}
def Ab.cr(k:Ab n aa f p d g q a s){i:Nat}(X:i<n):cr 96 (aq a) i=aq (Y.cr 96 g i).rows:=by
 have:=(k.al i X).1;simp only[Y.cr,Wa,this];rfl
def Ab.tL(k:Ab n aa f p d g q a s)(h:dD){i:Nat}(V:i<n)(R:Sl (Y.cr 96 g i))(Q:Y.tL d i=0):Y.tL (aq q) i=0:=by
 obtain⟨_,_,_,W,P,_⟩:=k.al i V;have X:∀j<13,ci (aq q) i j=gS aa p d g i j:=P;simp only[Y.tL,X 0 (by omega),X 1 (by omega),X 2 (by omega),X 3 (by omega),X 4 (by omega),X 5 (by omega),X 6 (by omega),X 7 (by omega),X 8 (by omega),X 9 (by omega),X 10 (by omega),X 11 (by omega),X 12 (by omega)];unfold iw at W;by_cases c:cb p i 0=J;rw[if_pos c] at W;simp only[gS,if_pos c];exact axY h aa d g i R W.1;simp only[gS,if_neg c];exact Q
def Ab.vB(k:Ab n aa f p d g q a s)(h:dD){i:Nat}(W:i<n)(V:Sl (Y.cr 96 g i)):Y.vB (aq s) i=true:=by
 obtain⟨_,_,_,R,_,Q⟩:=k.al i W;have X:∀j<4,ci (aq s) i j=gB aa p d f g i j:=Q;have P:=axC h aa p d f g i V R;simp only[Y.vB,X 0 (by omega),X 1 (by omega),X 2 (by omega),X 3 (by omega)];exact P.1
def Ab.tN(k:Ab n aa f p d g q a s)(h:dD)(W:X<n)(V:Sl (Y.cr 96 g X)):iw aa p (aq d.rows) f (aq a) X:=by
 have R:=(k.al X W).2.2.2.1;unfold iw at R⊢;rw[ae9 h aa d (aq d.rows) g (aq a) rfl X V (k.cr W),afa h aa d (aq d.rows) f g (aq a) rfl X V (k.cr W)];exact R
end
end
section
variable{R:bn->Prop}{G:aR}{t:T}{O:ac}{L:dK}
variable[Inhabited dl]
structure O5(aa:Int)(wg bd mv bf af re bx wo:RV):Prop where
 ex:Lg aa wg bd mv bf af re bx
 tN:∀i<Y ak.rows,iw aa mv bf bd re i
 tQ:Y wo.rows=Y ak.rows
def yP(aa:Int)(X W M V:RV)(m:am)(n:Nat)(Q P N:am):aW:=[.i aa,.r (aq (iE m V X n).rows),.r (aq W.rows),.r (aq Q),.r (aq P),.r (aq N)]
structure WM(aa:Int)(bd mv bf re wo:RV)(m vs vr vb:am):Prop where
 WN:TB.Ev 63 (wk++[.i aa]) (.ret [.r (aq m),.i 0])
 lm:Y m=Y ak.rows
 AV:TB.Ev 39 (wk++[.r bd,.i aa,.r (iE m wo mv (Y ak.rows)),.r bf,.r (lT m wo mv re (Y ak.rows))]) (.ret (yP aa mv bf re wo m (Y ak.rows) vs vr vb))
 ab:Ab (Y ak.rows) aa bd (iE m wo mv (Y ak.rows)) bf (lT m wo mv re (Y ak.rows)) vs vr vb
def R21(aa:Int)(N Q X W M P H V:RV)(o:bn):Prop:=(∃e,e≠0/\¬O5 aa N Q X W M P H V/\o=.ret [.i 0,.r (aq []),.r (aq []),.r (aq []),.r (aq []),.r (aq []),.i e])\/
 (O5 aa N Q X W M P H V/\∃m G F D,WM aa Q X W P V m G F D/\o=.ret [.i aa,.r (aq (iE m V X (Y ak.rows)).rows),.r (aq W.rows),.r (aq G),.r (aq F),.r (aq D),.i 0])
set_option maxHeartbeats 16000000 in
def t21 (h:dD) (aa:Int) (B G V N A Q z D:RV) (H:AQ ak B G V N A Q z) (bb:Sl D) (cA:∀i<Y ak.rows,True):∃o,TB.Ev 21 (wk++[.r B,.r G,.i aa,.r V,.r N,.r A,.r Q,.r z,.r D]) o/\R21 aa B G V N A Q z D o:=by
 obtain⟨P,d⟩:∃P:bn->Prop,∀o,P o<->R21 aa B G V N A Q z D o:=⟨_,λ_=>Iff.rfl⟩
 suffices cc:∃o,TB.Ev 21 (wk++[.r B,.r G,.i aa,.r V,.r N,.r A,.r Q,.r z,.r D]) o/\P o by
  obtain⟨o,a,g2⟩:=cc;exact⟨o,a,(d o).1 g2⟩
 refine dX rfl rfl (.inr λv hv=>by rcases(d _).1 hv with⟨_,_,_,h⟩|⟨_,_,_,_,_,_,h⟩<;>cases h) ?_;obtain⟨h1,h2⟩:=pH iP h;simp only[wk] at h1;have M:∀{e:Int},e≠0->¬O5 aa B G V N A Q z D->P (.ret [.i 0,.r (aq []),.r (aq []),.r (aq []),.r (aq []),.r (aq []),.i e]):=λ{e} he hn=>(d _).2 (.inl ⟨e,he,hn,rfl⟩)
 simp[OK,wk,bp h1];simp only[h.rl.len,H.wg.len,H.bd.len,H.mv.len,H.bf.len,H.af.len,H.ET.len,H.bx.len];refine aN (λh0=> ?_) (λbg=>M bg λK=>bg K.ex.wk);have hw:=h2 h0;have hn:=hw.nr;have bk:Y ak.rows<=1000:=by omega
 have cf:Y ak.rows<=536870912:=by omega
 refine aN (λh8=>M (by omega) λK=>by have:=K.ex.nw;omega) (λh8=> ?_);refine aN (λcB=> ?_) (λW=>M (by omega) λK=>by have:=K.ex.br;omega);refine aN (λcC=> ?_) (λW=>M (by omega) λK=>by have:=K.ex.br;omega);refine aN (λAR=> ?_) (λW=>M (by omega) λK=>by have:=K.ex.AR;omega);refine aN (λEU=> ?_) (λW=>M (by omega) λK=>by have:=K.ex.EU;omega);refine aN (λlQ=> ?_) (λW=>M (by omega) λK=>by have:=K.ex.lQ;omega);refine aN (λtM=> ?_) (λW=>M (by omega) λK=>by have:=K.ex.tM;omega);refine aN (λpJ=> ?_) (λW=>M (by omega) λK=>by have:=K.ex.pJ;omega);refine aN (λlB=> ?_) (λW=>M (by omega) λK=>by have:=K.ex.lB;omega);have ch:lenOf A.val=(Y ak.rows:Int):=by rw[H.af.len];exact AR
 have cl:lenOf z.val=(Y ak.rows:Int):=by rw[H.bx.len];exact EU
 have bl:lenOf G.val=(Y ak.rows:Int):=by rw[H.bd.len];exact lQ
 have an:lenOf V.val=(Y ak.rows:Int):=by rw[H.mv.len];exact tM
 have bo:lenOf N.val=(Y ak.rows:Int):=by rw[H.bf.len];exact pJ
 have ap:lenOf Q.val=(Y ak.rows:Int):=by rw[H.ET.len];exact lB
 have y:Y ak.rows<=140737488355328:=by omega
 have x:∀i<Y ak.rows,Sl (cr 96 Q i)/\(cr 96 Q i).rows.length<=100:=λi X=>H.fG i (by omega)
 refine bU (Y ak.rows) (λi w=>w=[]/\∀k<i,Hq G k=0/\tL N k=0/\(if cb V k 0 then CH aa Q k=0 else(cr 96 Q k).rows=[])) ⟨0,rfl,by omega,rfl,by omega⟩ ?_;rintro i _ X ⟨rfl,u⟩;simp[bl,an,bo,ap];refine aN (λX=> ?_) (λa0=> ?_);have bs:=(wV (Hm iP h i aa (cr 96 Q i) (x i X).1)).1;simp only[wk,cr,aDi,aDl] at bs;have bt:=(x i X).1.len;simp only[cr] at bt;simp[bH X y,X,bp bs,bt];refine aN (λg=> ?_) (λW=>M (by omega) λK=>W (K.ex.eI i X).1);refine aN (λa2=> ?_) (λW=>M (by omega) λK=>W (K.ex.eI i X).2.1);refine aN (λs=> ?_) (λs=> ?_);have F:cb V i 0=true:=s;refine aN (λq=> ?_) (λW=>M (by omega) λK=>W (by have:=(K.ex.eI i X).2.2;rw[if_pos F] at this;exact this));exact qD u ⟨g,a2,by rw[if_pos F];exact q⟩;have F:¬cb V i 0=true:=s;refine aN (λq=> ?_) (λW=>M (by omega) λK=>W (by have:=(K.ex.eI i X).2.2;rw[if_neg F] at this;exact this));exact qD u ⟨g,a2,by rw[if_neg F];exact q⟩;have p:i=Y ak.rows:=by omega
 subst p;refine bU (Y ak.rows) (λi w=>w=[]/\∀k<i,vB z k=J/\tL A k=0) ⟨0,rfl,by omega,rfl,by omega⟩ ?_;rintro i _ X ⟨rfl,ab⟩;simp[h.rl.len,ch,cl];refine aN (λX=> ?_) (λa0=> ?_);simp[bH X y,X];refine aN (λg=>aN (λa2=>qD ab ⟨g,a2⟩) (λW=>M (by omega) λK=>W (K.ex.box i X).2)) (λW=>M (by omega) λK=>W (K.ex.box i X).1);have p:i=Y ak.rows:=by omega
 subst p;refine bU (Y B.rows) (λi w=>w=[]/\∀k<i,jQ (ci B k) aa 4=0) ⟨0,rfl,by omega,rfl,by omega⟩ ?_;rintro i _ X ⟨rfl,ag⟩;simp[H.wg.len];refine aN (λX=> ?_) (λa0=> ?_);have b0:=f25 (ci B i) aa;simp only[EO,ci,aDi,aDl] at b0;simp[bH X H.wg.sm,X,bp b0];exact aN (λg=>qD ag g) (λW=>M W λK=>W (K.ex.EQ i X));have p:i=Y B.rows:=by omega
 subst p;rw[bp (e86 V H.mv (by omega))];simp;rw[bp (e87 N H.bf (by omega))];simp;have c:Lg aa B G V N A Q z:=⟨h0,by omega,by omega,by omega,by omega,by omega,by omega,by omega,by omega,u,ab,ag⟩;refine bU (Y ak.rows) (λi w=>∃n f l,w=[.r (aq n),.r (aq f),.r (aq l)]/\Y n=i/\Y f=i/\Y l=i/\∀k<i,iw aa V N G Q k/\(∀j<13,aO (cellAt n (k:Int) j).val=gS aa V N Q k j)/\∀j<4,aO (cellAt l (k:Int) j).val=gB aa V N G Q k j) ⟨0,rfl,by omega,[],[],[],rfl,rfl,rfl,rfl,by omega⟩ ?_;rintro i _ X ⟨n,f,l,rfl,b1,cD,b2,al⟩;simp[bl,an,bo,ap];refine aN (λX=> ?_) (λa0=> ?_);have b3:=e88 (cr 96 Q i) (x i X).1 (by have:=(x i X).2;omega);simp only[cr] at b3;simp[bH X y,X,bp b3];refine⟨by omega,aN (λs=> ?_) (λs=> ?_)⟩;have F:cb V i 0=true:=s;have b4:=jP _ (Lc h i aa (ci N i) (cr 96 Q i) (x i X).1);simp only[wk,ci,cr,aDi,aDl,AM,CD,od] at b4;rw[bp b4];simp;refine aN (λq=> ?_) (λW=>M W λK=>W (by have:=K.tN i X;rw[iw,if_pos F] at this;exact this.1));have b5:=jP _ (OS h i aa (ci N i) _ (rN (cellAt G.rows (i:Int) 0)) (ci G i) (cr 96 Q i) (x i X).1);simp only[wk,ci,cr,aDi,aDl,AM,CD,od] at b5;rw[bp b5];simp[bH X y];refine aN (λa5=> ?_) (λW=>M W λK=>W (by have:=K.tN i X;rw[iw,if_pos F] at this;exact this.2));refine⟨by omega,by omega,_,_,_,⟨rfl,rfl,rfl⟩,by simp;omega,by simp;omega,by simp;omega,λk b=> ?_⟩;by_cases a6:k=i;subst a6;refine⟨by rw[iw,if_pos F];exact⟨q,a5⟩,λj C=> ?_,λj C=> ?_⟩;rw[qF b1,gS,if_pos F]
 match j,C with
 |0,_|1,_|2,_|3,_|4,_|5,_|6,_|7,_|8,_|9,_|10,_|11,_|12,_=>rfl
 rw[qF b2,gB,if_pos F]
 match j,C with
 |0,_|1,_|2,_|3,_=>rfl
 obtain⟨q1,q2,q3⟩:=al k (by omega);exact⟨q1,λj C=>by rw[tO (by omega)];exact q2 j C,λj C=>by rw[tO (by omega)];exact q3 j C⟩;have F:¬cb V i 0=true:=s;refine aN (λq=> ?_) (λW=>M W λK=>W (by have:=K.tN i X;rw[iw,if_neg F] at this;exact this));refine⟨by omega,by omega,_,_,_,⟨rfl,rfl,rfl⟩,by simp;omega,by simp;omega,by simp;omega,λk b=> ?_⟩;by_cases a6:k=i;subst a6;refine⟨by rw[iw,if_neg F];exact q,λj C=> ?_,λj C=> ?_⟩;rw[qF b1,gS,if_neg F]
 match j,C with
 |0,_|1,_|2,_|3,_|4,_|5,_|6,_|7,_|8,_|9,_|10,_|11,_|12,_=>rfl
 rw[qF b2,gB,if_neg F]
 match j,C with
 |0,_|1,_|2,_|3,_=>rfl
 obtain⟨q1,q2,q3⟩:=al k (by omega);exact⟨q1,λj C=>by rw[tO (by omega)];exact q2 j C,λj C=>by rw[tO (by omega)];exact q3 j C⟩;have p:i=Y ak.rows:=by omega
 subst p;have gC:=λk b=>(al k b).1
 have c:Lg aa B G V N A Q z:=⟨h0,by omega,by omega,by omega,by omega,by omega,by omega,by omega,by omega,u,ab,ag⟩;simp only[bb.len,h.rl.len];refine aN (λtQ=> ?_) (λW=>M (by omega) λK=>W (by have:=K.tQ;omega));have cm:gq aa 0 (dg-1)=true:=by simp;omega
 obtain⟨o,a,cI,cO,rfl,c1,c2,c3⟩:=ae6 h aa;have cp:=c3 h0 cm;subst cp;obtain⟨o,WN,hr⟩:=t63 h aa a c2 c1 bk;rcases hr with⟨hz,-⟩|⟨-,m,rfl,gk⟩;exact absurd rfl hz;have b6:=WN;simp only[wk,aDi,aDl] at b6;rw[bp b6];simp;have s1:∀i<Y ak.rows,cd N G i 4=0:=λi X=>(ae7 N G i).2 ⟨(u i X).2.1,(u i X).1⟩
 have b7:=axM (m:=m) (wo:=D) gC s1;obtain⟨cs,AV,b8⟩:=t39 h aa G (iE m D V (Y ak.rows)) N (lT m D V Q (Y ak.rows)) H.bd (kw (by rw[aDV,aFK];exact y)) H.bf (kw (by rw[aDV,aFK];exact y)) y cf c.lQ O4 c.pJ ao5 (λi X=>by
  rw[ao5] at X;rw[w4 X];split;exact x i X;exact⟨kw (by simp),by simp⟩)
 obtain⟨a7,a8,a9,rfl,ca⟩:∃n f l,cs=.ret (yP aa V N Q D m (Y ak.rows) n f l)/\Ab (Y ak.rows) aa G (iE m D V (Y ak.rows)) N (lT m D V Q (Y ak.rows)) n f l:=by
  rcases b8 with⟨_,_,⟨k,b,ct⟩,_⟩|⟨_,_,_,h,h'⟩;exact(ct (b7 k b)).elim;exact⟨_,_,_,h,h'⟩
 have cv:∀o,o=.ret [.i aa,.r (aq (iE m D V (Y ak.rows)).rows),.r (aq N.rows),.r (aq a7),.r (aq a8),.r (aq a9),.i 0]->P o:=λo ho=>(d o).2 (.inr ⟨⟨c,gC,Int.ofNat_inj.1 tQ⟩,m,a7,a8,a9,⟨WN,gk.len,AV,ca⟩,ho⟩)
 have cx:lenOf D.val=(Y ak.rows:Int):=by rw[bb.len];exact tQ
 have cy:=gk.len;clear b8 M d al a c1 c2 c3 h1 ca gk b7 s1 gC u ab ag c;exact axW P aa _ _ _ _ _ _ B G V N A Q z D _ _ _ _ _ m a7 a8 a9 (Y ak.rows) _ bk cy an cx ap AV cv
end
section
variable[Inhabited dl]
def ax0(h:dD){aa:Int}{M Q W P C V B R L:RV}{m H O G:am}(F:∀i<Y ak.rows,Sl (cr 96 V i))(K:O5 aa M Q W P C V B R)(k:WM aa Q W P V R m H O G)(A:Y L.rows=Y ak.rows):
  O5 aa M Q (iE m R W (Y ak.rows)) (aq P.rows) (aq H) (aq O) (aq G) L:=by
 have N:∀i<Y ak.rows,Sl (cr 96 (lT m R W V (Y ak.rows)) i):=λi X=>by
  rw[w4 X];split;exact F i X;exact kw (by simp)
 refine⟨⟨K.ex.wk,K.ex.nw,K.ex.br,k.ab.ls,k.ab.lb,K.ex.lQ,O4,K.ex.pJ,k.ab.lr,λi X=> ?_,λi X=> ?_,K.ex.EQ⟩,λi X=>k.ab.tN h X (N i X),A⟩;obtain⟨z,y,D⟩:=K.ex.eI i X;refine⟨z,y, ?_⟩;rw[vl X];by_cases c:gQ m R W (Y ak.rows) i=J;rw[if_pos c];rw[if_pos (E0 X c).2] at D;have e:=k.ab.cr X;rw[w4 X,if_pos c] at e;rw[axX h aa V (aq O) i (F i X) e];exact D;rw[if_neg c];rw[k.ab.cr X,w4 X,if_neg c];rfl;exact⟨k.ab.vB h X (N i X),k.ab.tL h X (N i X) (K.ex.eI i X).2.1⟩

section
variable{R:bn->Prop}{G:aR}{t:T}{O:ac}{L:dK}
def AW(V:-1073741824<=W/\W<=1073741824)(Q:1<=i/\i<=8)(X:V8 e):ay .add I (ay .mul I 29 W) (ay .mul I i e)=29*W+i*e:=by
 have:=Hn (x:=i) (m:=8) (by omega) X;simp only[ay];rw[cQ (n:=29*W) (by omega) (by omega),cQ (n:=i*e) (by omega) (by omega),cQ (by omega) (by omega)]
structure Hy(A B C D a b c d:Int):Prop where
 a:A<=a
 b:b<=B
 c:C<=c
 d:d<=D
def Hy.tip{D a b c d p X q V:Int}(k:Hy W i e D a b c d)(Q:W<=p)(P:X<=i)(N:e<=q)(M:V<=D):Hy W i e D (min a p) (max b X) (min c q) (max d V):=by
 obtain⟨H,G,F,z⟩:=k;constructor<;>omega
def ax1(h:W<=i)(X:W<=e):W<=min i e:=by omega
def ax2(h:W<=e)(X:i<=e):max W i<=e:=by omega
def R27(A B C D:Int)(o:bn):Prop:=∃a b c d e,o=.ret [.i a,.i b,.i c,.i d,.i e]/\(e=0->Hy A B C D a b c d)
def r27(A B C D a b c d e:Int):R27 A B C D (.ret [.i a,.i b,.i c,.i d,.i e])<->(e=0->Hy A B C D a b c d):=⟨λ⟨_,_,_,_,_,h,k⟩=>by cases h;exact k,λk=>⟨_,_,_,_,_,rfl,k⟩⟩
set_option maxHeartbeats 8000000 in
def ax3 (x:Nat->Int) (s:RV) (M:rM s) (q l X j h W V P g f e d c b a ab A B C D:Int) (N:Ho A B C D X (rch W V P) x):∃o,TB.Ev 27 [.i (x 0),.i (x 1),.i (x 2),.i (x 3),.i (x 4),.i (x 5),.i (x 6),.i (x 7),.i (x 8),.i (x 9),.i (x 10),.i (x 11),.i (x 12),.r s,.i q,.i l,.i X,.i j,.i h,.i W,.i V,.i P,.i g,.i f,.i e,.i d,.i c,.i b,.i a,.i ab] o/\R27 A B C D o:=by
 refine dX rfl rfl (.inl rfl) ?_;by_cases k:CE (x 0) (x 1) (x 2) (x 3) (x 4) (x 5) (x 6) (x 7) (x 8) (x 9) (x 10) (x 11) (x 12)=0;by_cases m:AN s q l X j h W V P g f e d c b a ab=0
 ·have p:=(Wf _ _ _ _ _ _ _ _ _ _ _ _ _).1 k;obtain⟨g1,H,G,g4⟩:=aeH s M q l X j h W V P g f e d c b a ab m;have B0:Hy A B C D (ay .sub I (ay .mul I 29 (x 0)) (ay .mul I 841 X)) (ay .add I (ay .mul I 29 (x 0)) (ay .mul I 841 X)) (ay .sub I (ay .mul I 29 (x 1)) (ay .mul I 841 X)) (ay .add I (ay .mul I 29 (x 1)) (ay .mul I 841 X)):=by
   have px:=p.x;have py:=p.y;obtain⟨⟨k1,k2⟩,⟨k3,k4⟩,-⟩:=N;simp only[ay];rw[cQ (n:=29*x 0) (by omega) (by omega),cQ (n:=29*x 1) (by omega) (by omega),cQ (n:=841*X) (by omega) (by omega),cQ (n:=29*x 0-841*X) (by omega) (by omega),cQ (n:=29*x 0+841*X) (by omega) (by omega),cQ (n:=29*x 1-841*X) (by omega) (by omega),cQ (n:=29*x 1+841*X) (by omega) (by omega)];exact⟨k1,k2,k3,k4⟩
  have F:¬x 4=0->(A<=ay .add I (ay .mul I 29 (x 0)) (ay .mul I W (oi 139 [.i (oi 138 [.i (x 3),.i (x 2)] 0),.i (x 4)] 0))/\ay .add I (ay .mul I 29 (x 0)) (ay .mul I W (oi 139 [.i (oi 138 [.i (x 3),.i (x 2)] 0),.i (x 4)] 0))<=B)/\C<=ay .add I (ay .mul I 29 (x 1)) (ay .mul I W (oi 139 [.i (oi 138 [.i (x 3),.i (x 2)] 0),.i (x 4)] 1))/\ay .add I (ay .mul I 29 (x 1)) (ay .mul I W (oi 139 [.i (oi 138 [.i (x 3),.i (x 2)] 0),.i (x 4)] 1))<=D:=λQ=>by
   rw[AW p.x H (tK _ _).1,AW p.y H (tK _ _).2];exact N.2.2 0 (by omega) Q
  have z:¬x 6=0->(A<=ay .add I (ay .mul I 29 (x 0)) (ay .mul I W (oi 139 [.i (oi 138 [.i (x 5),.i (x 2)] 0),.i (x 6)] 0))/\ay .add I (ay .mul I 29 (x 0)) (ay .mul I W (oi 139 [.i (oi 138 [.i (x 5),.i (x 2)] 0),.i (x 6)] 0))<=B)/\C<=ay .add I (ay .mul I 29 (x 1)) (ay .mul I W (oi 139 [.i (oi 138 [.i (x 5),.i (x 2)] 0),.i (x 6)] 1))/\ay .add I (ay .mul I 29 (x 1)) (ay .mul I W (oi 139 [.i (oi 138 [.i (x 5),.i (x 2)] 0),.i (x 6)] 1))<=D:=λQ=>by
   rw[AW p.x H (tK _ _).1,AW p.y H (tK _ _).2];exact N.2.2 1 (by omega) Q
  have w:¬x 8=0->(A<=ay .add I (ay .mul I 29 (x 0)) (ay .mul I V (oi 139 [.i (oi 138 [.i (x 7),.i (x 2)] 0),.i (x 8)] 0))/\ay .add I (ay .mul I 29 (x 0)) (ay .mul I V (oi 139 [.i (oi 138 [.i (x 7),.i (x 2)] 0),.i (x 8)] 0))<=B)/\C<=ay .add I (ay .mul I 29 (x 1)) (ay .mul I V (oi 139 [.i (oi 138 [.i (x 7),.i (x 2)] 0),.i (x 8)] 1))/\ay .add I (ay .mul I 29 (x 1)) (ay .mul I V (oi 139 [.i (oi 138 [.i (x 7),.i (x 2)] 0),.i (x 8)] 1))<=D:=λQ=>by
   rw[AW p.x G (tK _ _).1,AW p.y G (tK _ _).2];exact N.2.2 2 (by omega) Q
  have v:¬x 10=0->(A<=ay .add I (ay .mul I 29 (x 0)) (ay .mul I V (oi 139 [.i (oi 138 [.i (x 9),.i (x 2)] 0),.i (x 10)] 0))/\ay .add I (ay .mul I 29 (x 0)) (ay .mul I V (oi 139 [.i (oi 138 [.i (x 9),.i (x 2)] 0),.i (x 10)] 0))<=B)/\C<=ay .add I (ay .mul I 29 (x 1)) (ay .mul I V (oi 139 [.i (oi 138 [.i (x 9),.i (x 2)] 0),.i (x 10)] 1))/\ay .add I (ay .mul I 29 (x 1)) (ay .mul I V (oi 139 [.i (oi 138 [.i (x 9),.i (x 2)] 0),.i (x 10)] 1))<=D:=λQ=>by
   rw[AW p.x G (tK _ _).1,AW p.y G (tK _ _).2];exact N.2.2 3 (by omega) Q
  have u:¬x 12=0->(A<=ay .add I (ay .mul I 29 (x 0)) (ay .mul I P (oi 139 [.i (oi 138 [.i (x 11),.i (x 2)] 0),.i (x 12)] 0))/\ay .add I (ay .mul I 29 (x 0)) (ay .mul I P (oi 139 [.i (oi 138 [.i (x 11),.i (x 2)] 0),.i (x 12)] 0))<=B)/\C<=ay .add I (ay .mul I 29 (x 1)) (ay .mul I P (oi 139 [.i (oi 138 [.i (x 11),.i (x 2)] 0),.i (x 12)] 1))/\ay .add I (ay .mul I 29 (x 1)) (ay .mul I P (oi 139 [.i (oi 138 [.i (x 11),.i (x 2)] 0),.i (x 12)] 1))<=D:=λQ=>by
   rw[AW p.x g4 (tK _ _).1,AW p.y g4 (tK _ _).2];exact N.2.2 4 (by omega) Q
  clear p N;simp(config:={maxSteps:=10000000}) [Cy,CF s M,k,m,r27]
  repeat'(refine aN (λ_=> ?_) (λ_=> ?_))
  all_goals first|with_reducible exact B0|with_reducible refine Hy.tip B0 ?_ ?_ ?_ ?_
  all_goals repeat'(first|with_reducible apply ax1|with_reducible apply ax2)
  all_goals with_reducible first|exact(F (by assumption)).1.1|exact(F (by assumption)).1.2|exact(F (by assumption)).2.1|exact(F (by assumption)).2.2|exact(z (by assumption)).1.1|exact(z (by assumption)).1.2|exact(z (by assumption)).2.1|exact(z (by assumption)).2.2|exact(w (by assumption)).1.1|exact(w (by assumption)).1.2|exact(w (by assumption)).2.1|exact(w (by assumption)).2.2|exact(v (by assumption)).1.1|exact(v (by assumption)).1.2|exact(v (by assumption)).2.1|exact(v (by assumption)).2.2|exact(u (by assumption)).1.1|exact(u (by assumption)).1.2|exact(u (by assumption)).2.1|exact(u (by assumption)).2.2
 simp[Cy,CF s M,k,m,r27];simp[Cy,CF s M,k,r27]
end
end
def oS(X:am)(a b:Int):Bool:=match fJ 2 [a,b,0] X with
 |U W=>fm (W.getD 2 default).val
 |none=>E
def Lr(a b:Int)(X:aF):iB 2 [a,b,0] X=decide ((X.take 2).map (λc=>aO c.val)=[a,b]):=rfl
def apc(x y a b:Int):∀P:am,oS (di 2 [RV.mk (.int I x) [],RV.mk (.int I y) [],RV.mk (.bool J) []] P) a b=(decide (([x,y]:bh)=[a,b])||oS P a b)
 |[]=>by
  by_cases h:([x,y]:bh)=[a,b];have X:x=a/\y=b:=by simpa using h
  obtain⟨rfl,rfl⟩:=X;simp[oS,di,fJ,Lr,aO,fm];have M:iB 2 [a,b,0] [RV.mk (.int I x) [],RV.mk (.int I y) [],RV.mk (.bool J) []]=false:=by
   rw[Lr];exact decide_eq_false h
  rw[decide_eq_false h];simp[oS,di,fJ,M]
 |r::W=>by
  have N:=apc x y a b W;have V:(aEZ (λc:RV=>aO c.val) (List.take 2 [RV.mk (.int I x) [],RV.mk (.int I y) [],RV.mk (.bool J) []]))=[x,y]:=rfl;by_cases X:(r.take 2).map (λc=>aO c.val)=[x,y];have Q:di 2 [RV.mk (.int I x) [],RV.mk (.int I y) [],RV.mk (.bool J) []] (r::W)=[RV.mk (.int I x) [],RV.mk (.int I y) [],RV.mk (.bool J) []]::W:=by
   simp only[di,V,iB];rw[if_pos (by simpa using X)]
  rw[Q];by_cases h:([x,y]:bh)=[a,b];have H:x=a/\y=b:=by simpa using h
  obtain⟨rfl,rfl⟩:=H;simp[oS,fJ,Lr,aO,fm];simp only[oS,fJ,aEN,Lr,X,V,h];simp;have Q:di 2 [RV.mk (.int I x) [],RV.mk (.int I y) [],RV.mk (.bool J) []] (r::W)=r::di 2 [RV.mk (.int I x) [],RV.mk (.int I y) [],RV.mk (.bool J) []] W:=by
   simp only[di,V,iB];rw[if_neg (by simpa using X)]
  rw[Q];by_cases h:(r.take 2).map (λc=>aO c.val)=[a,b];have G:¬([x,y]:bh)=[a,b]:=λe=>X (by rw[h,e])
  simp only[oS,fJ,aEN,Lr,h,G];simp;simp only[oS,fJ,aEN,Lr,h] at N⊢;simpa using N
def apd(x y a b:Int)(V:am):oS (di 2 [RV.mk (.int I x) [],RV.mk (.int I y) [],RV.mk (.bool J) []] V) a b=((decide (a=x)&&decide (b=y))||oS V a b):=by
 rw[apc];congr 1;by_cases X:a=x;subst X;by_cases W:b=y;subst W;simp;have:¬y=b:=λe=>W e.symm
 simp[W,this];have:¬x=a:=λe=>X e.symm
 simp[X,this]
section
variable{R:bn->Prop}{G:aR}{t:T}{O:ac}{L:dK}
variable[Inhabited dl]
def O6(v:RV)(a b c:Int)(d:Bool):Prop:=∃k<Y v.rows,ci v k 0=a/\ci v k 1=b/\ci v k 2=c/\cb v k 3=d
def CN{P:Nat->Prop}(h:∀k<X,¬P k)(W:¬P X):∀k<X+1,¬P k:=λk V=>by
 by_cases e:k=X;subst e;exact W;exact h k (by omega)
def ax4(v:RV)(W:Sl v)(a b c:Int)(d:Bool):∃o,TB.Ev 173 [.r v,.i a,.i b,.i c,.b d] o/\∃n,o=.ret [.i n]/\(0<=n<->O6 v a b c d):=by
 refine dX rfl rfl (.inl rfl) ?_;simp[VU];refine bU (Y v.rows) (λi P=>P=[]/\∀k<i,¬(ci v k 0=a/\ci v k 1=b/\ci v k 2=c/\cb v k 3=d)) ⟨0,rfl,by omega,rfl,by omega⟩ ?_;rintro i _ X ⟨rfl,V⟩;simp[W.len];refine aN (λX=> ?_) (λF=> ?_);simp[bH X W.sm,X];refine aN (λq=> ?_) (λq=> ?_);exact⟨_,X,q.1.symm,q.2.1.symm,q.2.2.1.symm,q.2.2.2.symm⟩;exact λk Q N M H G=>CN V (λw=>q ⟨w.1.symm,w.2.1.symm,w.2.2.1.symm,w.2.2.2.symm⟩) k Q ⟨N,M,H,G⟩
 rintro⟨k,Q,q⟩;exact V k (by omega) q
def afj(v:RV)(W:Sl v)(a b c:Int)(d:Bool):ob 102 [.r v,.i a,.i b,.i c,.b d] 0=J<->O6 v a b c d:=by
 have V:∃o,TB.Ev 102 [.r v,.i a,.i b,.i c,.b d] o/\∃x,o=.ret [.b x]/\(x=J<->O6 v a b c d):=by
  refine dX rfl rfl (.inl rfl) ?_;obtain⟨_,h,n,rfl,q⟩:=ax4 v W a b c d;simp[VT,bp h];by_cases X:0<=n;exact .inr ⟨X,q.1 X⟩;exact .inl ⟨by omega,λw=>X (q.2 w)⟩
 obtain⟨_,h,x,rfl,q⟩:=V;rw[<-q];simp only[ob,iW h];rfl
def ape(aP:RV)(X W:RV)(c:Nat->Int)(k:Nat):Prop:=ci aP k 2=c 2/\ci aP k 1=ay .sub I (c 9) 1/\ci aP k 4=ay .sub I 15 (c 4)/\ci aP k 9=ay .add I (c 1) 1/\(ci aP k 10=c 10/\ci aP k 11=c 11)/\(ci aP k 12=c 12/\ci aP k 13=c 13)/\cb X (ci aP k 1).toNat 0=J/\¬O6 (cr 96 W (ci aP k 1).toNat) (ci aP k 0) 0 0 J
set_option maxHeartbeats 2000000 in
def apf (M:qC) (h:dD) (aa:Int) (Q H G W F:RV) (c:Nat->Int) (D:Sl Q) (C:Sl W) (j:Y Q.rows=Y ak.rows) (g:Y W.rows=Y ak.rows) (bI:∀i<Y W.rows,Sl (cr 96 W i)):∃o,TB.Ev 103 (wk++[.i aa,.r Q,.r H,.r G,.r W,.r F]++iX c) o/\∃b,o=.ret [.b b]/\(b=J<->∃k<Y aP.rows,ape aP Q W c k):=by
 refine dX rfl rfl (.inl rfl) ?_;simp[VV,wk,iX];refine bU (Y aP.rows) (λi B=>B=[]/\∀k<i,¬ape aP Q W c k) ⟨0,rfl,by omega,rfl,by omega⟩ ?_;rintro i _ V ⟨rfl,X⟩;simp[h.sg.len,D.len,C.len];refine aN (λV=>⟨V, ?_⟩) (λf=> ?_);have A:=(M.AL i V).aS;simp only[ci] at A;have z:(aO (cellAt aP.rows (i:Int) 1).val).toNat<Y W.rows:=by omega
 have N:=bI _ z;have P:=afj _ N;simp only[cr] at N P;rw[show(((aO (cellAt aP.rows (i:Int) 1).val).toNat:Nat):Int)=aO (cellAt aP.rows (i:Int) 1).val by omega] at N P;simp[bH V h.sg.sm];refine aN (λy=>aN (λv=>aN (λu=>aN (λs=>aN (λp=>aN (λm=>⟨by omega,aN (λl=>⟨by omega, ?_⟩) (λn=>CN X λw=>n w.2.2.2.2.2.2.1)⟩) (λn=>CN X λw=>n w.2.2.2.2.2.1)) (λn=>CN X λw=>n w.2.2.2.2.1)) (λn=>CN X λw=>n w.2.2.2.1)) (λn=>CN X λw=>n w.2.2.1)) (λn=>CN X λw=>n w.2.1)) (λn=>CN X λw=>n w.1);rw[aeP _ N];simp[bH V h.sg.sm];refine aN (λq=>CN X λw=>w.2.2.2.2.2.2.2 ((P _ _ _ _).1 q)) (λq=>⟨i,V,y,v,u,s,p,m,l,λw=>q ((P _ _ _ _).2 w)⟩);exact λx P=>X x (by omega)
set_option maxHeartbeats 2000000 in
def ax5 (h:dD) (aa:Int) (B:gP=0) (s:gq aa 0 (dg-1)=J):∃o,TB.Ev 23 (wk++[.i aa]) o/\∃v,o=.ret [.r (aq v),.i 0]/\∀k<Y aP.rows,ci aP k 2=aa->ci aP k 4=7->ci aP k 9-1≠ci aP k 1->∃x∈v,ax 0 x=min (ci aP k 1) (ci aP k 9-1)/\ax 1 x=max (ci aP k 1) (ci aP k 9-1):=by
 refine dX rfl rfl (.inl rfl) ?_;have H:=e65 iP h aa;obtain⟨-,p⟩:=pH iP h;simp only[wk,aDi,aDl] at H;simp[B,s] at H;simp[OJ,wk,bp H];have G:=p B;have hn:=G.nr;refine bU (Y aP.rows) (λi Q=>∃m,Q=[.r (aq m)]/\∀k<i,ci aP k 2=aa->ci aP k 4=7->ci aP k 9-1≠ci aP k 1->oS m (min (ci aP k 1) (ci aP k 9-1)) (max (ci aP k 1) (ci aP k 9-1))=J) ⟨0,rfl,by omega,[],rfl,by omega⟩ ?_;rintro i _ X ⟨m,rfl,P⟩;simp[h.sg.len];split;rename_i X;simp[bH X h.sg.sm,X];have l:=G.AL i X;refine aN (λq2=>aN (λg=> ?_) (λn=> ?_)) (λn=> ?_);have F:=l.OP;rw[if_pos (show ci aP i 4=7\/ci aP i 4=8 from .inl g)] at F;have D:ay .sub I (aO (cellAt aP.rows (i:Int) 9).val) 1=ci aP i 9-1:=by
  show ay .sub I (ci aP i 9) 1=_;simp only[ay];exact cQ (by omega) (by omega)
 rw[D];refine aN (λn=>⟨m,rfl,λk W a b c=> ?_⟩) (λn=>⟨_,rfl,λk W a b c=> ?_⟩);by_cases e:k=i;subst e;exact absurd n c;exact P k (by omega) a b c;rw[apd];by_cases e:k=i;subst e;simp[ci];rw[P k (by omega) a b c,Bool.or_true];exact⟨m,rfl,λk W a b c=>by
  by_cases e:k=i;subst e;exact absurd b n;exact P k (by omega) a b c⟩
 exact⟨m,rfl,λk W a b c=>by
  by_cases e:k=i;subst e;exact absurd a n;exact P k (by omega) a b c⟩
 rename_i ab;have A:i=Y aP.rows:=by omega
 subst A;refine bU (Y ak.rows) (λi Q=>∃v,Q=[.r (aq v)]/\Y v<=i*64/\∀a<i,∀b<Y ak.rows,oS m (a:Nat) (b:Nat)=J->∃x∈v,ax 0 x=a/\ax 1 x=b) ⟨0,rfl,by omega,[],rfl,by simp,by omega⟩ ?_;rintro i _ X ⟨v,rfl,f,V⟩;simp[h.rl.len];split;rename_i X;refine bU (Y ak.rows) (λj Q=>∃v,Q=[.r (aq v)]/\Y v<=i*64+j/\(∀a<i,∀b<Y ak.rows,oS m (a:Nat) (b:Nat)=J->∃x∈v,ax 0 x=a/\ax 1 x=b)/\∀b<j,oS m (i:Nat) (b:Nat)=J->∃x∈v,ax 0 x=i/\ax 1 x=b) ⟨0,rfl,by omega,v,rfl,by omega,V,by omega⟩ ?_;rintro j _ z ⟨v,rfl,f,V,C⟩;simp[h.rl.len];split;rename_i z;simp[bH z h.rl.sm];refine aN (λq=> ?_) (λq=> ?_);have q:oS m i j=true:=q;refine⟨by omega,_,rfl,by simp;omega,λa y b N w=> ?_,λb N w=> ?_⟩;obtain⟨x,M,e⟩:=V a y b N w;exact⟨x,aDX _ M,e⟩;by_cases e:b=j;subst e;exact⟨_,aEH _ (aE0.2 rfl),rfl,rfl⟩;obtain⟨x,M,e⟩:=C b (by omega) w;exact⟨x,aDX _ M,e⟩;have q:¬oS m i j=true:=q;exact⟨v,rfl,by omega,V,λb N w=>by
  by_cases e:b=j;subst e;exact absurd w q;exact C b (by omega) w⟩
 simp[bH X h.rl.sm];exact⟨v,rfl,by omega,λa y b N w=>by
  by_cases e:a=i;subst e;exact C b (by omega) w;exact V a (by omega) b N w⟩
 have A:i=Y ak.rows:=by omega
 refine⟨v,rfl,λk W a b c=> ?_⟩;have u:=G.AL k W;have F:=u.OP;rw[if_pos (show ci aP k 4=7\/ci aP k 4=8 from .inl b)] at F;have r1:=u.aS;have q:=P k W a b c;obtain⟨x,M,d,D⟩:=V (min (ci aP k 1) (ci aP k 9-1)).toNat (by omega) (max (ci aP k 1) (ci aP k 9-1)).toNat (by omega) (by
  rw[aFy (by omega),aFy (by omega)];exact q)
 exact⟨x,M,by rw[d,aFy (by omega)],by rw[D,aFy (by omega)]⟩
end
section
variable[Inhabited dl]
def O7(a b c d:Int):oO a b c d a b c d=true:=by simp[oO]
def Sb(u:RV)(i:Nat)(w:RV)(k:Nat):Prop:=vB u i=J/\oO (ci u i 0) (ci u i 1) (ci u i 2) (ci u i 3) (ci w k 0) (ci w k 1) (ci w k 2) (ci w k 3)=J
def apg{d ny tH tI gw X V R Q P O N M:Int}(h:oO W i e d ny tH tI gw=J)(L:oO X V R Q P O N M=J)(k:oN ny tH tI gw P O N M=J):oN W i e d X V R Q=true:=by
 simp[oO] at h L;simp[oN] at k⊢;omega
def E1{u w X W:RV}{i k V R:Nat}(h:Sb u i X V)(Q:Sb w k W R)(a:eC X V W R=J):eC u i w k=true:=by
 simp only[eC,aDc] at a⊢;exact⟨⟨h.1,Q.1⟩,apg h.2 Q.2 a.2⟩
def aph{u X W:RV}{aa:Int}{i V g:Nat}(h:Sb u i X V)(a:kR X V W aa g=J):kR u i W aa g=true:=by
 simp only[kR,aDc] at a⊢;exact⟨⟨h.1,a.1.2⟩,apg h.2 (O7 _ _ _ _) a.2⟩
def api(gO gw:Int){u X:RV}{i W:Nat}(h:Sb u i X W)(a:oe gO gw X W=J):oe gO gw u i=true:=by
 simp only[oe,aDc] at a⊢;refine⟨⟨h.1,a.1.2⟩, ?_⟩;have V:=h.2;have R:=a.2;simp[oO] at V R⊢;omega
def apj{L:RV}{aa:Int}{H Q G O:RV}(K:Hp L aa H Q G)(F:Y O.rows=Y ak.rows)(R:∀i<Y ak.rows,Sb O i H i\/Sb O i Q i):Hp L aa O Q G:=by
 have N:∀i<Y ak.rows,Sb Q i Q i:=λi M=>⟨K.vh i (by rw[K.lh];exact M),O7 _ _ _ _⟩
 refine{K with
  lm:=F
  vm:=λi M=>by rcases R i (by rw[<-F];exact M) with h|h<;>exact h.1
  n1:=λa X b V W=> ?_
  n2:=λa X b V W=> ?_
  n3:=λa X b V W=> ?_
  Lf:=λa X g D=> ?_
  Wm:=λa X=> ?_}
 rcases R a X with h|h<;>rcases R b W with P|P;exact(K.n1 a X b V W).imp id (E1 h P);exact(K.n2 a X b V W).imp id (E1 h P);exact(K.n3 a X b V W).imp id (E1 h P);exact(K.n4 a X b V W).imp id (E1 h P);rcases R a X with h|h;exact(K.n2 a X b V W).imp id (E1 h (N b W));exact(K.n4 a X b V W).imp id (E1 h (N b W));rcases R b W with h|h;exact(K.n3 a X b V W).imp id (E1 (N a X) h);exact(K.n4 a X b V W).imp id (E1 (N a X) h);have q:=K.Lf a X g D;exact⟨by rcases R a X with h|h;exact aph h q.1;exact aph h q.2,q.2⟩;have q:=K.Wm a X;exact⟨by rcases R a X with h|h;exact api gO gw h q.1;exact api gO gw h q.2,q.2⟩

variable{aa:Int}{B bd mv d A f C wo:RV}{m t l u:am}
def apk{v v' bd:RV}(h:v'.rows=v.rows):∀n,mA v' bd n=mA v bd n
 |0=>rfl
 |n+1=>by simp only[mA,apk h n,cd,ci,h]
structure PrG(aa:Int)(m v:am):Prop where
 e:oQ aa=[.r (aq v),.i 0]
 bd:∀x∈v,0<=ax 0 x/\ax 0 x<ax 1 x/\ax 1 x<Y ak.rows
 al:∀x∈v,ax 0 (m.getD (ax 0 x).toNat [])=ax 0 (m.getD (ax 1 x).toNat [])
 cm:∀k<Y aP.rows,ci aP k 2=aa->ci aP k 4=7->ci aP k 9-1≠ci aP k 1->∃x∈v,ax 0 x=min (ci aP k 1) (ci aP k 9-1)/\ax 1 x=max (ci aP k 1) (ci aP k 9-1)
def prg(h:dD)(W:gP=0)(C:0<=aa/\aa<dg)(P:Y ak.rows<=1000)(g:TB.Ev 63 (wk++[.i aa]) (.ret [.r (aq m),.i 0])):∃v,PrG aa m v:=by
 have V:gq aa 0 (dg-1)=true:=by simp;omega
 obtain⟨_,X,v,e,rfl,O,R,N⟩:=ae6 h aa;obtain rfl:=N W V;obtain⟨_,M,Q,rfl,L⟩:=ax5 h aa W V;obtain rfl:Q=v:=by
  have:=Nj M X;injection this with this;injection this with this _;injection this with this;exact congrArg RV.rows this
 obtain⟨o,H,q⟩:=t63 h aa X R O P;rcases q with⟨G,-⟩|⟨-,F,rfl,D⟩;exact absurd rfl G;obtain rfl:F=m:=by
  have:=Nj H g;injection this with this;injection this with this _;injection this with this;exact congrArg RV.rows this
 exact⟨Q,iW X,R,D.pr,L⟩
def afk{n:Nat}(h:ax 0 (m.getD X [])=ax 0 (m.getD N [])):gQ m wo mv n X=gQ m wo mv n N:=by
 unfold gQ;rw[h]
def apm(W:PrG aa m P)(V:X<Y aP.rows)(R:ci aP X 2=aa)(Q:ci aP X 4=7){i j:Nat}(O:ci aP X 1=i)(N:ci aP X 9-1=j)(n:Nat):gQ m wo mv n i=gQ m wo mv n j:=by
 by_cases e:ci aP X 9-1=ci aP X 1;have:i=j:=by omega
 rw[this];obtain⟨x,M,L,H⟩:=W.cm X V R Q e;have q:=W.al x M;rw[L,H,O,N] at q;rcases aGW i j with w|w;rw[Int.min_eq_left (by omega),Int.max_eq_right (by omega)] at q;exact afk q;rw[Int.min_eq_right (by omega),Int.max_eq_left (by omega)] at q;exact afk q.symm
def Ab.Ls(k:Ab X aa bd mv d f t l u)(W:N<X){j:Nat}(V:j<4):ci (aq u) N j=gB aa mv d bd f N j:=(k.al N W).2.2.2.2.2 j V
def Ab.Lt(k:Ab X aa bd mv d f t l u)(W:N<X){j:Nat}(V:j<13):ci (aq t) N j=gS aa mv d f N j:=(k.al N W).2.2.2.2.1 j V
def Ab.gSx(k:Ab X aa bd mv d f t l u)(h:dD)(W:N<X)(V:Sl (Y.cr 96 f N))(j:Nat):gS aa mv (aq d.rows) (aq l) N j=gS aa mv d f N j:=by
 have R:=ae9 h aa d (aq d.rows) f (aq l) rfl N V (k.cr W) j;simp only[Y.gS,R];rfl
def Ab.gBx(k:Ab X aa bd mv d f t l u)(h:dD)(W:N<X)(V:Sl (Y.cr 96 f N))(j:Nat):gB aa mv (aq d.rows) bd (aq l) N j=gB aa mv d bd f N j:=by
 have R:=afa h aa d (aq d.rows) bd f (aq l) rfl N V (k.cr W) j;simp only[Y.gB,R];rfl
def ax9(h:dD)(bJ:Sl bd)(W X:RV)(H:W.rows=d.rows)(i:Nat)(Q:Sl (cr 96 f i))(O:cr 96 X i=aq (cr 96 f i).rows)(V:xi (wZ aa d bd f i) 1=0)(R:(xr (wZ aa d bd f i) 0).rows=[]):xi (wZ aa W bd X i) 1=0/\(xr (wZ aa W bd X i) 0).rows=[]:=by
 have G:∀j,ci W i j=ci d i j:=λj=>by simp only[ci,H]
 obtain⟨_,g,v,e,rfl,_⟩:=brc h i aa (ci d i) bd (cr 96 f i) bJ Q;obtain⟨_,N,M,F,rfl,_⟩:=brc h i aa (ci d i) bd (cr 96 X i) bJ (by rw[O];exact kw Q.sm);have q:=WF (OZ _ _ (show ck (cr 96 X i) (cr 96 f i) by rw[O];exact WJ Q) (wk++[.i i,.i aa,.i (ci d i 0),.i (ci d i 1),.i (ci d i 2),.i (ci d i 3),.i (ci d i 4),.i (ci d i 5),.i (ci d i 6),.i (ci d i 7),.i (ci d i 8),.i (ci d i 9),.i (ci d i 10),.i (ci d i 11),.i (ci d i 12),.r bd])) (by simpa only[aD5,aDi,aDl] using N) (by simpa only[aD5,aDi,aDl] using g);obtain⟨D,P,_⟩:=q;have P:F=e:=P;simp only[wZ,iW g] at V R;simp only[wZ,G,iW N];have V:e=0:=V;have R:v=[]:=R;refine⟨P.trans V, ?_⟩;show M=[];have L:((Y v:Nat):Int)=(Y M:Nat):=lE D;rw[R] at L;exact aDT.1 (by simp at L;omega)
def CO(W:∀j<13,ci H X j=ci h X j)(k:Nat):cd H bd X k=cd h bd X k:=by
 unfold cd;rw[W 0 (by omega),W 1 (by omega),W 2 (by omega),W 3 (by omega),W 4 (by omega),W 5 (by omega),W 6 (by omega),W 7 (by omega),W 8 (by omega),W 9 (by omega),W 10 (by omega),W 11 (by omega),W 12 (by omega)]
def apn{v W:RV}{i k:Nat}(h:∀j<13,ci v i j=ci W i j)(X:∀j<13,ci v k j=ci W k j):vk v bd i k=vk W bd i k:=by
 unfold vk;rw[CO h 0,CO h 1,CO h 2,CO h 3,CO X 0,CO X 1,CO X 2,CO X 3]
def apo(R:gP=0->qC)(V:X<(cj W aa).length):∃q<Y aP.rows,(∀j<14,bm (cj W aa) X j=ci aP q j)/\ci aP q 1=W/\ci aP q 2=aa/\wW (Y ak.rows) dg (ci aP q):=by
 obtain⟨q,Q,P,O,N,M⟩:=aeE R (aD3 V);refine⟨q,Q,λj L=> ?_,O,N,M⟩;have:=Hl (ci aP q) j L;simp only[bm,cellAt,aEa,aDf,aDe V,P];simpa[ax] using this
set_option maxHeartbeats 4000000 in
def apq (h:dD) (M:AQ ak B bd mv d A f C) (K:CI aa B bd mv d A f C) (hl:Y wo.rows=Y ak.rows) (k:WM aa bd mv d f wo m t l u):
  CI aa B bd (iE m wo mv (Y ak.rows)) (aq d.rows) (aq t) (aq l) (aq u):=by
 have F:=(pH iP h).2 K.ex.wk;have hn:=F.nr;have hs:∀i<Y ak.rows,Sl (cr 96 f i):=λi W=>(M.fG i (by rw[K.ex.lB];exact W)).1
 have L:∀i<Y ak.rows,Sl (cr 96 (lT m wo mv f (Y ak.rows)) i):=λi W=>by
  rw[w4 W];split;exact hs i W;exact kw (by simp)
 have X:=ax0 h hs ⟨K.ex,K.tN,hl⟩ k hl;have kc:=λi (W:i<Y ak.rows)=>k.ab.cr W
 have kp:∀i (W:i<Y ak.rows),gQ m wo mv (Y ak.rows) i=J->cr 96 (aq l) i=aq (cr 96 f i).rows:=λi W e=>by rw[kc i W,w4 W,if_pos e]
 obtain⟨Q,P⟩:=prg h K.ex.wk K.ex.br (by omega) k.WN;have gm:∀i (W:i<Y ak.rows),gQ m wo mv (Y ak.rows) i=J->∀j,gS aa (iE m wo mv (Y ak.rows)) d (lT m wo mv f (Y ak.rows)) i j=gS aa mv d f i j:=λi W e j=>by
  have e':cr 96 (lT m wo mv f (Y ak.rows)) i=cr 96 f i:=by rw[w4 W,if_pos e]
  simp only[gS,vl W,e,(E0 W e).2,if_true,pI,e']
 have gn:∀i (W:i<Y ak.rows),gQ m wo mv (Y ak.rows) i=J->∀j,gB aa (iE m wo mv (Y ak.rows)) d bd (lT m wo mv f (Y ak.rows)) i j=gB aa mv d bd f i j:=λi W e j=>by
  have e':cr 96 (lT m wo mv f (Y ak.rows)) i=cr 96 f i:=by rw[w4 W,if_pos e]
  simp only[gB,vl W,e,(E0 W e).2,if_true,qE,e']
 have O:∀i (W:i<Y ak.rows),∀j<4,gB aa (iE m wo mv (Y ak.rows)) (aq d.rows) bd (aq l) i j=ci (aq u) i j:=λi W j V=>by
  rw[k.ab.gBx h W (L i W),k.ab.Ls W V]
 have D:∀i<Y ak.rows,vB (aq u) i=true:=λi W=>k.ab.vB h W (L i W)
 refine⟨X.ex,X.tN,λi W=>⟨λj V=> ?_, ?_, ?_,λN=> ?_⟩,K.Le,K.st1,λi W=> ?_, ?_,λp R=>⟨(K.eC p R).1, ?_⟩⟩;rw[k.ab.gSx h W (L i W),k.ab.Lt W V];rw[O i W 0 (by omega),O i W 1 (by omega),O i W 2 (by omega),O i W 3 (by omega)];exact⟨D i W,D i W⟩;rw[O i W 0 (by omega),O i W 1 (by omega),O i W 2 (by omega),O i W 3 (by omega)];exact O7 _ _ _ _;rw[vl W] at N;have ap:=(E0 W N).2;obtain⟨q1,q2,q3⟩:=(K.ro i W).AL ap;refine⟨λs ag w hF=> ?_,ax9 h M.bd (aq d.rows) (aq l) rfl i (hs i W) (kp i W N) q2 q3⟩;rw[kp i W N] at hF⊢;obtain⟨p1,p2,p3⟩:=q1 s ag w hF;refine⟨p1,p2,λo=>(p3 o).imp id λp4=> ?_⟩;obtain⟨q,z1,H,z3,z4,z5⟩:=apo (λ_=>F) ag;generalize bm (cj (i:Int) aa) s=c at H o p4⊢;have c1:=H 1 (by omega);have c2:=H 2 (by omega);have c4:=H 4 (by omega);have c9:=H 9 (by omega);have w9:=z5.OP;rw[<-c4,<-c9] at w9;rw[if_pos o] at w9;obtain⟨_,g,b,rfl,qa⟩:=apf F h aa mv d A f C c M.mv M.ET K.ex.tM K.ex.lB (λi W=>(M.fG i W).1);simp only[Lh,ob,iW g] at p4;obtain⟨y,hy,y2,a,y4,y9,a0,a3,ym,yr⟩:=qa.1 p4;have e1:ay .sub I (c 9) 1=c 9-1:=by simp only[ay];exact cQ (by omega) (by omega)
 have e4:ay .sub I 15 (c 4)=15-c 4:=by simp only[ay];exact cQ (by omega) (by omega)
 have e9:ay .add I (c 1) 1=c 1+1:=by simp only[ay];exact cQ (by omega) (by omega)
 have V:(ci aP y 1).toNat<Y ak.rows:=by rw[a,e1];omega
 have G:gQ m wo mv (Y ak.rows) (ci aP y 1).toNat=true:=by
  rcases o with e7|e8;rw[<-apm P z1 z4 (by omega) (i:=i) (j:=(ci aP y 1).toNat) z3 (by rw[a,e1,<-c9];omega)];exact N;rw[apm P hy (by rw[y2,c2];exact z4) (by rw[y4,e4];omega) (i:=(ci aP y 1).toNat) (j:=i) (by rw[a,e1];omega) (by rw[y9,e9];omega)];exact N
 obtain⟨_,g',b',rfl,qb⟩:=apf F h aa (iE m wo mv (Y ak.rows)) (aq d.rows) (aq t) (aq l) (aq u) c (kw (by simp;omega)) (kw (by have:=k.ab.lr;omega)) O4 k.ab.lr (λi W=>by
  have W:i<Y ak.rows:=by rw[<-k.ab.lr];exact W
  rw[kc i W];exact kw (L i W).sm)
 simp only[Lh,ob,iW g'];refine qb.2 ⟨y,hy,y2,a,y4,y9,a0,a3,by rw[vl V];exact G, ?_⟩;rw[kp _ V G];exact yr;exact(ae7 (aq t) bd i).2 ⟨k.ab.tL h W (L i W) (K.ex.eI i W).2.1,((ae7 d bd i).1 (K.st1 i W)).2⟩;rw[apk (v:=d) (v':=aq d.rows) rfl];refine apj K.cl k.ab.lb λi W=> ?_
 by_cases e:gQ m wo mv (Y ak.rows) i=J;refine .inl ⟨D i W, ?_⟩;rw[k.ab.Ls W (j:=0) (by omega),k.ab.Ls W (j:=1) (by omega),k.ab.Ls W (j:=2) (by omega),k.ab.Ls W (j:=3) (by omega)];simp only[gn i W e];exact(K.ro i W).ins;refine .inr ⟨D i W, ?_⟩;have q:∀j<4,ci (aq u) i j=ci (aq (mA d bd (Y ak.rows))) i j:=λj V=>by
  rw[k.ab.Ls W V,gB,vl W,if_neg e];exact(og d bd (n:=Y ak.rows) (z:=(i:Int)) (by simpa using W) j V).symm
 rw[q 0 (by omega),q 1 (by omega),q 2 (by omega),q 3 (by omega)];exact O7 _ _ _ _;have a1:=(K.eC p R).1;have a2:=(K.eC p R).2;rw[P.e] at R a1 a2⊢;have R:p<Y Q:=R;obtain⟨b1,b2,b3⟩:=P.bd _ (aD3 R);have b4:=P.al _ (aD3 R);have k0:∀j,ci (xr [.r (aq Q),.i 0] 0) p j=ax j Q[p]:=λj=>by
  show aO (cellAt Q (p:Int) j).val=_;simp[cellAt,ax,R]
 rw[k0,k0] at a1 a2⊢;have h0:(ax 0 Q[p]).toNat<Y ak.rows:=by omega
 have h1:(ax 1 Q[p]).toNat<Y ak.rows:=by omega
 have G:=afk (wo:=wo) (mv:=mv) (n:=Y ak.rows) b4;generalize(ax 0 Q[p]).toNat=x at*;generalize(ax 1 Q[p]).toNat=y at*;have cs:∀i (W:i<Y ak.rows),gQ m wo mv (Y ak.rows) i=J->∀j<13,ci (aq t) i j=ci A i j:=λi W e j V=>by
  rw[k.ab.Lt W V,gm i W e,(K.ro i W).eN j V]
 have an:∀i (W:i<Y ak.rows),¬gQ m wo mv (Y ak.rows) i=J->∀j<13,ci (aq t) i j=ci d i j:=λi W e j V=>by
  rw[k.ab.Lt W V,gS,vl W,if_neg e]
 by_cases e:gQ m wo mv (Y ak.rows) x=J;rw[apn (cs x h0 e) (cs y h1 (G▸e))];exact a2;rw[apn (an x h0 e) (an y h1 (G▸e))];exact a1
end
section
variable{R:bn->Prop}{G:aR}{t:T}{O:ac}{L:dK}
variable[Inhabited dl]
def aya(h:dD)(N:gP=0)(Q:X<Y aP.rows):TB.Ev 143 (wk++[.i (ci aP X 0)]) (.ret [.i (ci aP X 0),.i (ci aP X 1),.i (ci aP X 2),.i (ci aP X 3),.i (ci aP X 4),.i (ci aP X 5),.i (ci aP X 6),.i (ci aP X 7),.i (ci aP X 8),.i (ci aP X 9),.i (ci aP X 10),.i (ci aP X 11),.i (ci aP X 12),.i (ci aP X 13),.i 0]):=by
 refine mz rfl rfl (.inl rfl) ?_;obtain⟨P,M⟩:=pH iP h;simp only[wk] at P;have H:=M N;simp[V6,wk,bp P,N];have y:=h.sg.sm;refine CA (λV=>∃i j:Nat,V=[.i i,.i j]/\i<=X/\X<=j/\j<=Y aP.rows) (λV=>(xi V 1-xi V 0).toNat) ⟨0,Y aP.rows,by simp[h.sg.len],by omega,by omega,by omega⟩ ?_;rintro _ ⟨i,j,rfl,x,w,v⟩;simp[xi,Cz,h.sg.len,aeD (show j<=140737488355328 by omega) (show i<=j by omega)];refine aN (λG=> ?_) (λG=> ?_);have F:((i:Int)+j)/2=(((i+j)/2:Nat):Int):=by omega
 have D:=EM (i:=(i+j)/2) (by omega);rw[F,D];have C:(i+j)/2<Y aP.rows:=by omega
 have P:i<=(i+j)/2:=by omega
 have M:(i+j)/2<j:=by omega
 generalize(i+j)/2=W at*;refine⟨by omega,aN (λq=> ?_) (λq=> ?_)⟩;have q:pF (ci aP W 0) (ci aP X 0)<0:=q;have B:W<X:=by
  by_cases e:W<X;exact e;exfalso;by_cases A:W=X;subst A;simp[pF] at q;have:=H.ids X W (by omega) C;simp only[pF] at q;split at q<;>omega
 exact⟨⟨W+1,j,⟨rfl,rfl⟩,by omega,by omega,by omega⟩,by omega⟩;have q:¬pF (ci aP W 0) (ci aP X 0)<0:=q;have B:X<=W:=by
  by_cases e:W<X;exfalso;have:=H.ids W X e Q;simp only[pF] at q;split at q<;>omega;omega
 exact⟨⟨i,W,⟨rfl,rfl⟩,by omega,by omega,by omega⟩,by omega⟩;have z:i=X:=by omega
 subst z;refine⟨Q, ?_,Q,rfl,rfl,rfl,rfl,rfl,rfl,rfl,rfl,rfl,rfl,rfl,rfl,rfl,rfl⟩;show pF (ci aP i 0) (ci aP i 0)=0;simp[pF]

def apr{v:RV}{id:Int}:∀n,(∃k<n,k<Y v.rows/\ci v k 0=id)->∃m,Wr v id m
 |0,h=>by obtain⟨k,V,_⟩:=h;omega
 |n+1,h=>by
  by_cases e:∃k<n,k<Y v.rows/\ci v k 0=id;exact apr n e;obtain⟨k,V,X,W⟩:=h;have Q:k=n:=by
   by_cases q:k<n;exact(e ⟨k,q,X,W⟩).elim;omega
  subst Q;exact⟨k,X,W,λm P N=>e ⟨m,P,by omega,N⟩⟩
def t28(v:am)(N:Y v<=140737488355328)(i k:Nat):∃o,TB.Ev 28 [.r (aq v),.i i,.i k] o/\∃b,o=.ret [.b b]/\((∃x∈v,ax 0 x=k/\ax 1 x=i)->b=J):=by
 refine dX rfl rfl (.inl rfl) ?_;simp[T28];refine bU (Y v) (λj M=>M=[]/\∀x∈v.take j,¬(ax 0 x=(k:Int)/\ax 1 x=(i:Int))) ⟨0,rfl,by omega,rfl,by simp⟩ ?_;rintro j _ W ⟨rfl,P⟩;simp;refine aN (λW=>⟨W, ?_⟩) (λG=> ?_);intro F H;rw[bH W N];refine⟨rfl,λx X V Q=> ?_⟩;rw[aFJ,aDe W] at X;rcases aDo.1 X with X|X;exact P x X ⟨V,Q⟩;simp at X;subst X;have c:∀q,aO (cellAt v (j:Int) q).val=ax q v[j]:=λq=>by simp[cellAt,ax,W]
 exact H ((c 0).trans V) ((c 1).trans Q);exact λx X V Q=>P x (by rw[aEp (by omega)];exact X) ⟨V,Q⟩
def WO(aa:Int)(X:RV)(i:Nat)(r:RV)(s:Nat):Prop:=bm (cj i aa) s 3=1->xi (EV X (bm (cj i aa) s 0) i) 1=0/\∃a<Y r.rows,ci r a 0=bm (cj i aa) s 0/\cb r a 3=E/\O6 (xr (EV X (bm (cj i aa) s 0) i) 0) (ci r a 0) (ci r a 1) (ci r a 2) (cb r a 3)
def rlz(h:dD){aa:Int}{X F D C W B:RV}{i:Nat}(A:qC)(z:gP=0)(y:Sl (cr 96 W i))(N:CH aa W i=0){s:Nat}(M:s<(cj i aa).length)(K:OT aa X F D C W B i s):WO aa X i (cr 96 W i) s:=by
 intro x;obtain⟨q,w,H,z3,z4,z5⟩:=apo (λ_=>A) M;obtain⟨_,u,e,rfl,p⟩:=Hm iP h i aa (cr 96 W i) y;have o:e=0:=by
  simp only[CH,oi,iW u] at N;exact N
 obtain⟨-,v,n⟩:=p o;obtain⟨k,l,-,j⟩:=n.2 s M;obtain⟨m,V⟩:=apr (v:=cr 96 W i) (id:=bm (cj i aa) s 0) (k+1) ⟨k,by omega,l,j⟩;obtain⟨G,Q,-⟩:=K m V;have g:TB.Ev 143 (wk++[.i (ci aP q 0)]) _:=aya h z w;obtain⟨_,f,d,c,rfl,P,hl⟩:=aop iP h (ci aP q 0) _ (rN (cellAt X.rows (i:Int) 0)) (ci X i 1) (ci X i 2) (ci X i 3) (ci X i 4) (ci X i 5) (ci X i 6) (ci X i 7) (ci X i 8) (ci X i 9) (ci X i 10) (ci X i 11) (ci X i 12) (ci X i 13) (ci X i 14) (ci X i 15) (ci X i 16);have P:=P (by rw[iW g];show ci aP q 3=1;rw[<-H 3 (by omega)];exact x);have b:EV X (bm (cj i aa) s 0) i=[.r (aq d),.i c]:=by rw[H 0 (by omega)];exact iW f
 rw[b] at G Q⊢;refine⟨G,m,V.1,V.2.1, ?_, ?_⟩;have:=(afj _ (kw (by omega)) _ _ _ _).1 Q;obtain⟨k',a,-,-,-,w5⟩:=this;rw[<-w5];exact P.cell a;exact(afj _ (kw (by omega)) _ _ _ _).1 Q

def J2(b:Bool)(P:Prop)(W:aW):Prop:=∃X,W=[.b X]/\(b=J->X=J)/\(P->X=J)
set_option maxHeartbeats 4000000 in
def t29 (h:dD) (aa:Int) (i:Nat) (W r:RV) (y:Sl r) (f:qC) (c:j7 i aa=0) (hR:∀s<(cj i aa).length,WO aa W i r s):TB.Ev 29 (wk++[.r (cT .str (cellAt W.rows (i:Int) 0)),.i (ci W i 1),.i (ci W i 2),.i (ci W i 3),.i (ci W i 4),.i (ci W i 5),.i (ci W i 6),.i (ci W i 7),.i (ci W i 8),.i (ci W i 9),.i (ci W i 10),.i (ci W i 11),.i (ci W i 12),.i (ci W i 13),.i (ci W i 14),.i (ci W i 15),.i (ci W i 16),.i i,.i aa,.r r]) (.ret [.b J]):=by
 refine mz rfl rfl (.inl rfl) ?_;have v:=EN iP h i aa;have al:=La (aS:=i) (aa:=aa) (λ_=>f);simp only[wk,aDi,aDl] at v;simp[T29,wk,bp v,c];refine bU (cj i aa).length (λs P=>P=[]) ⟨0,rfl,aD0 _,rfl⟩ ?_;rintro s _ N rfl;simp;refine λN=>⟨N, ?_⟩
 have u:=hR s N;obtain⟨o,D,H,p,rfl,an⟩:=t78 iP h (bm (cj i aa) s 0) _ (rN (cellAt W.rows (i:Int) 0)) (ci W i 1) (ci W i 2) (ci W i 3) (ci W i 4) (ci W i 5) (ci W i 6) (ci W i 7) (ci W i 8) (ci W i 9) (ci W i 10) (ci W i 11) (ci W i 12) (ci W i 13) (ci W i 14) (ci W i 15) (ci W i 16);have ab:EV W (bm (cj i aa) s 0) i=[.r (aq H),.i p]:=iW D;rw[WO,ab] at u;simp only[wk,bm,aDi,aDl] at D;have n:(cj i aa).length<=140737488355328:=by omega
 refine aN (λq3=> ?_) (λ_=>by rw[bH N n]);obtain⟨C,M,hA,af,ag,X,m,z0,z1,z2,z3⟩:=u q3;have C:p=0:=C;subst C;have m:X<Y H:=m;rw[bp D];simp;refine bU (Y r.rows) (λa P=>J2 E (M<a) P) ⟨0,rfl,by omega,E,rfl,id,by omega⟩ ?_;rintro a _ B ⟨b,rfl,-,G⟩;simp[y.len];refine aN (λB=>⟨B, ?_⟩) (λap=>⟨G (by omega),by rw[bH N n]⟩);refine bU (Y H) (λz P=>J2 b (a=M/\X<z) P) ⟨0,rfl,by omega,b,rfl,id,by omega⟩ ?_;rintro z _ Q ⟨l,rfl,k,j⟩;simp;refine aN (λQ=> ?_) (λa0=> ?_);have F:Y H<=140737488355328:=by omega
 have A:∀{x:Bool},¬l=J->(a=M->X=z->x=J)->J2 b (a=M/\X<z+1) [.b x]:=λ{x} q w=>⟨x,rfl,λG=>absurd (k G) q,λ⟨V,g⟩=>by
  by_cases e:X=z;exact w V e;exact absurd (j ⟨V,by omega⟩) q⟩
 refine⟨Q,aN (λq=> ?_) (λq=>aN (λe=>aN (λd=> ?_) (λd=> ?_)) (λe=> ?_))⟩;rw[bH Q F];exact⟨J,rfl,λ_=>rfl,λ_=>rfl⟩;rw[bH Q F];exact A q λV _=>by
  subst V;have d:cb r a 3=true:=d;rw[ag] at d;cases d
 rw[bH Q F];exact A q λV _=>by
  subst V;exact beq_iff_eq.2 af
 rw[bH Q F];exact A q λV g=>by
  subst V;subst g;exact absurd ⟨z0.symm,z1.symm,z2.symm,z3.symm⟩ e
 rw[bH B y.sm];exact⟨l,rfl,λq=>(Bool.false_ne_true q).elim,λe=>by
  by_cases V:a=M;exact j ⟨V,by omega⟩;exact k (G (by omega))⟩
end
section
variable[Inhabited dl]
variable{aa:Int}{o f q k A l C r:RV}{m t w x:am}
def afl(X:am)(a b:Nat):gr X a b=oS X a b:=rfl
def aps{X:RV}{a b:Nat}:∀n,gr (iv X n) a b=J->∃p<n,ci X p 0=a/\ci X p 1=b
 |0,h=>by simp[afl,iv,oS,fJ] at h
 |n+1,h=>by
  rw[afl,iv,apd,aDE,<-afl] at h;rcases h with h|h;simp at h;exact⟨n,by omega,h.1.symm,h.2.symm⟩;obtain⟨p,W,e⟩:=aps n h;exact⟨p,by omega,e⟩
def Ho.aye{d g:Int}{V:Nat->Int}{s R:Nat->Int}(h:Ho W i e d g V s)(X:∀j<13,R j=s j):Ho W i e d g V R:=by
 obtain⟨Q,P,O⟩:=h;refine⟨by rw[X 0 (by omega)];exact Q,by rw[X 1 (by omega)];exact P,λj N=> ?_⟩;rw[X 0 (by omega),X 1 (by omega),X 2 (by omega),X (3+2*j) (by omega),X (4+2*j) (by omega)];exact O j N
def ayf(h:dD)(i:Nat)(W:Sl (cr 96 l i))(M:pI aa k l i 13=0)(V:qE aa k f l i 4=0){u:RV}(L:∀j<13,ci u i j=pI aa k l i j)(R:cd u f i 4=0):
  oO (cd u f i 0) (cd u f i 1) (cd u f i 2) (cd u f i 3) (qE aa k f l i 0) (qE aa k f l i 1) (qE aa k f l i 2) (qE aa k f l i 3)=true:=by
 obtain⟨v,H,-,G⟩:=ao9 h aa k l i W M;obtain⟨_,F,a,b,c,d,D,rfl,X⟩:=aeU h i aa (ci k i) _ (rN (cellAt f.rows (i:Int) 0)) (ci f i) (cr 96 l i) W;have Q:∀j,qE aa k f l i j=xi [.i a,.i b,.i c,.i d,.i D] j:=λj=>by simp only[qE,oi,iW F]
 rw[Q] at V;obtain⟨-,P,C,X⟩:=X V;obtain rfl:=yS.Lb C H;have B:∀j<13,ci u i j=bS (ci k i) P (Y P) j:=λj O=>(L j O).trans (G j O)
 obtain⟨_,A,z,y,x,w,t,rfl,s⟩:=ax3 (ci u i) _ (rN (cellAt f.rows (i:Int) 0)) (ci f i 1) (ci f i 2) (ci f i 3) (ci f i 4) (ci f i 5) (ci f i 6) (ci f i 7) (ci f i 8) (ci f i 9) (ci f i 10) (ci f i 11) (ci f i 12) (ci f i 13) (ci f i 14) (ci f i 15) (ci f i 16) a b c d (X.aye B);have N:∀j,cd u f i j=xi [.i z,.i y,.i x,.i w,.i t] j:=λj=>by simp only[cd,CG,oi,iW A]
 rw[N] at R;obtain⟨r,q,p,o⟩:=s R;simp only[N,Q];simp[oO,xi];omega
end
section
variable{R:bn->Prop}{G:aR}{t:T}{O:ac}{L:dK}
variable[Inhabited dl]
structure Sf(aa:Int)(wg bd M F S V X who:RV)(v:am):Prop where
 wk:qC
 lz:Y X.rows=Y ak.rows
 fl:∀i<Y ak.rows,oe gO gw X i=J
 wh:∀i<Y ak.rows,cb M i 0=J->cb who i 0=J
 st:∀i<Y ak.rows,cb M i 0=E->∀j<13,ci S i j=ci F i j
 EQ:∀g<Y wg.rows,jQ (ci wg g) aa 4=0
 Lf:∀i<Y ak.rows,∀g<Y wg.rows,kR X i wg aa g=J
 ex:∀i<Y ak.rows,cd S bd i 4=0
 vz:∀i<Y ak.rows,vB X i=J
 ap:∀i<Y ak.rows,∀k<i,(bF (cd S bd i 0) (cd S bd i 1) (cd S bd i 2) (cd S bd i 3)=J/\bF (cd S bd k 0) (cd S bd k 1) (cd S bd k 2) (cd S bd k 3)=J)/\oN (cd S bd i 0) (cd S bd i 1) (cd S bd i 2) (cd S bd i 3) (cd S bd k 0) (cd S bd k 1) (cd S bd k 2) (cd S bd k 3)=J
 pr:∀i<Y ak.rows,∀k<i,eC X i X k=J\/∃x∈v,ax 0 x=k/\ax 1 x=i
 of_:∀i<Y ak.rows,cb M i 0=J->j7 i aa=0/\∀s<(cj i aa).length,WO aa bd i (cr 96 V i) s
def WP(a b c d X W V Q:Int):oN a b c d X W V Q=oN X W V Q a b c d:=by
 rw[aEk];simp[oN];omega
def q6l:aj:=[0,1,0,1,1,0,1,1,0,0,0,1,1,1,1,1,1,1,1,1,1]
set_option maxHeartbeats 8000000 in
def tl6 (h:dD) (aa c x8 x9 ab ag:Int) (al:Int) (b0 b1 b2 b3 b4:Bool) (G P mv bf af re bx A M F S V W:RV) (v:am) (L:dK) (Q:X<Y ak.rows) (p:Sl G) (bJ:Sl P) (a1:Sl A) (hM:Sl M) (hF:Sl F) (hS:Sl S) (hV:Sl V) (hZ:Sl W)
  (lQ:Y P.rows=Y ak.rows) (tQ:Y A.rows=Y ak.rows) (lM:Y M.rows=Y ak.rows) (lF:Y F.rows=Y ak.rows) (lS:Y S.rows=Y ak.rows) (lV:Y V.rows=Y ak.rows) (an:∀X<Y ak.rows,Sl (cr 96 V X)) (hv:Y v<=4096)
  (K:Sf aa G P M F S V W A v):
  T.wp TB.Ev (λo=>o=.ret [.b J]) VH ⟨[gO,gw,ny,tH,tI,dg,aa,c,x8,x9,ab,ag,X,al],[b0,b1,b2,b3,b4],[ak,iO,jg,jh,aP,G,P,mv,bf,af,re,bx,A,M,F,S,V,W,aq v],[]⟩ (⟨0,wU (Y ak.rows) λX D=>D=[],vg (Y ak.rows),Y ak.rows-X⟩::L):=by
 rw[show VH=T.loop _ _ _ _ from rfl];have hn:=K.wk.nr;have n:Y ak.rows<=140737488355328:=by omega
 have z:lenOf P.val=(Y ak.rows:Int):=by rw[bJ.len,lQ]
 have kM:lenOf M.val=(Y ak.rows:Int):=by rw[hM.len,lM]
 have u:lenOf S.val=(Y ak.rows:Int):=by rw[hS.len,lS]
 have kV:lenOf V.val=(Y ak.rows:Int):=by rw[hV.len,lV]
 have l:lenOf W.val=(Y ak.rows:Int):=by rw[hZ.len,K.lz]
 refine bU (Y G.rows) (λ_ D=>D=[]) ⟨0,rfl,aD0 _,rfl⟩ ?_;rintro g _ C rfl;simp[p.len];refine aN (λC=> ?_) (λa2=> ?_);have j:=f25 (ci G g) aa;have hp:=K.EQ g C;have N:=K.Lf X Q g C;simp only[EO,ci,aDi,aDl] at j;simp[bp j,l,Q,C];simp only[kR,vB,ci,aDc] at N;exact⟨hp,⟨N.1.2,N.1.1⟩,⟨⟨N.1.2,N.1.1⟩,by rw[WP];exact N.2⟩,by rw[bH C p.sm]⟩;simp[u,z,Q];refine⟨K.ex X Q, ?_⟩;refine bU X (λ_ D=>D=[]) ⟨0,rfl,aD0 _,rfl⟩ ?_;rintro k _ B rfl;simp;refine aN (λB=> ?_) (λa3=> ?_);have y:k<Y ak.rows:=by omega
 have s:=K.vz X Q;have r:=K.vz k y;have H:=K.ap X Q k B;have f:=K.ex k y;have e:=K.pr X Q k B;simp only[vB,ci] at s r;simp only[eC,vB,ci,aDc] at e;simp[l,u,z,Q,y];refine⟨⟨s,r⟩,aN (λq=> ?_) (λq=> ?_)⟩;obtain⟨x,hx,e0,e1⟩:=e.resolve_left λa=>by simp[s,r,a.2] at q
 obtain⟨_,a0,b,rfl,w⟩:=t28 v (by omega) X k;obtain rfl:=w ⟨x,hx,e0,e1⟩;rw[bp a0];simp[u,z,y];exact⟨f,H.1,⟨H.1,H.2⟩,by rw[bH B (by omega)]⟩;exact⟨f,H.1,⟨H.1,H.2⟩,by rw[bH B (by omega)]⟩;simp[kM,kV,z,Q];refine aN (λm=> ?_) (λm=>by rw[bH Q n]);obtain⟨o1,o2⟩:=K.of_ X Q m;have d:=t29 h aa X P (cr 96 V X) (an X Q) K.wk o1 o2;simp only[wk,ci,cr,aDi,aDl] at d;rw[bp d];simp[bH Q n]
set_option maxHeartbeats 8000000 in
def lp6 (h:dD) (aa G D C B A:Int) (z y x w:Bool) (N Q u s r q p P M F S V X:RV) (v:am) (L:dK) (ab:Sl N) (bJ:Sl Q) (l:Sl P) (k:Sl M) (j:Sl F) (g:Sl S) (f:Sl V) (d:Sl X)
  (lQ:Y Q.rows=Y ak.rows) (tQ:Y P.rows=Y ak.rows) (c:Y M.rows=Y ak.rows) (a:Y F.rows=Y ak.rows) (lS:Y S.rows=Y ak.rows) (lV:Y V.rows=Y ak.rows) (ag:∀i<Y ak.rows,Sl (cr 96 V i)) (hv:Y v<=4096)
  (K:Sf aa N Q M F S V X P v):
  T.wp TB.Ev (λo=>o=.ret [.b J]) (T6.at q6l) ⟨[gO,gw,ny,tH,tI,dg,aa,G,D,C,B,A],[z,y,x,w],[ak,iO,jg,jh,aP,N,Q,u,s,r,q,p,P,M,F,S,V,X,aq v],[]⟩ L:=by
 rw[show T6.at q6l=T.loop _ _ _ _ from rfl];have hn:=K.wk.nr;have a0:Y ak.rows<=140737488355328:=by omega
 have a1:lenOf Q.val=(Y ak.rows:Int):=by rw[bJ.len,lQ]
 have al:lenOf P.val=(Y ak.rows:Int):=by rw[l.len,tQ]
 have kM:lenOf M.val=(Y ak.rows:Int):=by rw[k.len,c]
 have kF:lenOf F.val=(Y ak.rows:Int):=by rw[j.len,a]
 have kS:lenOf S.val=(Y ak.rows:Int):=by rw[g.len,lS]
 have kV:lenOf V.val=(Y ak.rows:Int):=by rw[f.len,lV]
 have kZ:lenOf X.val=(Y ak.rows:Int):=by rw[d.len,K.lz]
 refine bU (Y ak.rows) (λi an=>an=[]) ⟨0,rfl,aD0 _,rfl⟩ ?_;rintro i _ W rfl;simp[h.rl.len,kZ,kM,al,kS,kF];refine λW=> ?_
 have H:=K.fl i W;simp only[oe,vB,ci,aDc] at H;have T:=λap b4=>tl6 h aa G D C B A ap z y x w b4 N Q u s r q p P M F S V X v L W ab bJ l k j g f d lQ tQ c a lS lV ag hv K
 refine⟨W,H.1,H,W,aN (λm=>⟨W,K.wh i W m,W,aN (λ_=>T _ _) (λn=>absurd m n)⟩) (λm=>⟨W,aN (λn=>absurd n m) (λ_=> ?_)⟩)⟩;have e:=K.st i W (aEE.2 m);exact⟨W,⟨e 0 (by omega),e 1 (by omega),e 2 (by omega),e 3 (by omega),e 4 (by omega),e 5 (by omega),e 6 (by omega),e 7 (by omega),e 8 (by omega),e 9 (by omega),e 10 (by omega),e 11 (by omega),e 12 (by omega)⟩,T _ _⟩
end
section
variable[Inhabited dl]
variable{aa:Int}{x f l o B d C t:RV}{m y A D v:am}
def ayj(u:RV)(i:Nat)(w:RV)(k:Nat):eC u i w k=eC w k u i:=by
 simp only[eC];rw[WP,Bool.and_comm (vB u i)]
set_option maxHeartbeats 2000000 in
def ayk (h:dD) (ha:AQ ak x f l o B d C) (K:CI aa x f l o B d C) (hl:Y t.rows=Y ak.rows) (k:WM aa f l o d t m y A D) (hm:oQ aa=[.r (aq v),.i 0]):
  Sf aa x f (iE m t l (Y ak.rows)) (aq o.rows) (aq y) (aq A) (aq D) t v:=by
 have Q:=apq h ha K hl k;have H:=(pH iP h).2 K.ex.wk;have hn:=H.nr;have hs:∀i<Y ak.rows,Sl (cr 96 d i):=λi X=>(ha.fG i (by rw[K.ex.lB];exact X)).1
 have V:∀i<Y ak.rows,Sl (cr 96 (lT m t l d (Y ak.rows)) i):=λi X=>by
  rw[w4 X];split;exact hs i X;exact kw (by simp)
 have bq:=Q.cl;have ag:=Q.eC;rw[hm] at bq ag;have G:∀p (V:p<Y v) j,ci (xr [.r (aq v),.i 0] 0) p j=ax j v[p]:=λp V j=>by
  show aO (cellAt v (p:Int) j).val=_;simp[cellAt,ax,V]
 have al:∀{a b:Nat},gr (iv (xr [.r (aq v),.i 0] 0) (xr [.r (aq v),.i 0] 0).rows.length) a b=J->∃p,∃V:p<Y v,ax 0 v[p]=a/\ax 1 v[p]=b:=λ{a b} q=>by
  obtain⟨p,V,O,M⟩:=aps _ q;have V:p<Y v:=V;rw[G p V] at O M;exact⟨p,V,O,M⟩
 have W:∀i (X:i<Y ak.rows),∀j<4,ci (aq (mA (aq y) f (Y ak.rows))) i j=cd (aq y) f i j:=λi X j P=>og (aq y) f (n:=Y ak.rows) (z:=(i:Int)) (by simpa using X) j P
 have L:∀i (X:i<Y ak.rows),∀j<4,ci (aq (mA o f (Y ak.rows))) i j=cd o f i j:=λi X j P=>og o f (n:=Y ak.rows) (z:=(i:Int)) (by simpa using X) j P
 have an:Hp x aa (aq (mA (aq y) f (Y ak.rows))) (aq (mA o f (Y ak.rows))) (xr (oQ aa) 0):=by
  refine apj K.cl (CJ _ _ _) λi X=> ?_
  have hv:vB (aq (mA (aq y) f (Y ak.rows))) i=true:=by
   simp only[vB,W i X 0 (by omega),W i X 1 (by omega),W i X 2 (by omega),W i X 3 (by omega)];exact(WG _ _ _ (Q.st2 i X)).1
  by_cases e:gQ m t l (Y ak.rows) i=J;refine .inl ⟨hv, ?_⟩;have e':cr 96 (lT m t l d (Y ak.rows)) i=cr 96 d i:=by rw[w4 X,if_pos e]
  have F:=K.tN i X;rw[iw,if_pos (E0 X e).2] at F;have q:=ayf h i (hs i X) F.1 F.2 (u:=aq y) (λj P=>by
   rw[k.ab.Lt X P,gS,vl X,if_pos e,pI,e'];rfl) (Q.st2 i X)
  have r:=(K.ro i X).ins;simp only[gB,(E0 X e).2,if_true] at r;simp only[W i X 0 (by omega),W i X 1 (by omega),W i X 2 (by omega),W i X 3 (by omega)];simp[oO] at q r⊢;omega;refine .inr ⟨hv, ?_⟩;have q:∀j,cd (aq y) f i j=cd o f i j:=CO λj P=>by
   rw[k.ab.Lt X P,gS,vl X,if_neg e]
  simp only[W i X 0 (by omega),W i X 1 (by omega),W i X 2 (by omega),W i X 3 (by omega),L i X 0 (by omega),L i X 1 (by omega),L i X 2 (by omega),L i X 3 (by omega),q];exact O7 _ _ _ _
 rw[hm] at an;refine⟨H,k.ab.lb,λi X=>(bq.Wm i X).1,λi X e=> ?_,λi X e j P=> ?_,K.ex.EQ,λi X g hg=>(bq.Lf i X g hg).1,Q.st2,λi X=>bq.vm i (by rw[bq.lm];exact X),λi X R w=>⟨⟨(WG _ _ _ (Q.st2 i X)).1,(WG _ _ _ (Q.st2 R (by omega))).1⟩, ?_⟩,λi X R w=> ?_,λi X e=> ?_⟩;rw[vl X] at e;exact(E0 X e).1;rw[vl X] at e;rw[k.ab.Lt X P,gS,vl X,e];rfl;have N:R<Y ak.rows:=by omega
 rcases an.n1 R N i w X with q|q;obtain⟨p,V,O,M⟩:=al q;have:=(ag p V).2;rw[G p V,G p V,O,M] at this;simp only[vk,aEa,aDc] at this;rw[WP];exact this.2;simp only[eC,aDc,W R N 0 (by omega),W R N 1 (by omega),W R N 2 (by omega),W R N 3 (by omega),W i X 0 (by omega),W i X 1 (by omega),W i X 2 (by omega),W i X 3 (by omega)] at q;rw[WP];exact q.2;have N:R<Y ak.rows:=by omega
 rcases bq.n1 R N i w X with q|q;obtain⟨p,V,O,M⟩:=al q;exact .inr ⟨_,aD3 V,O,M⟩;exact .inl (by rw[ayj];exact q);have ap:Sl (cr 96 (aq A) i):=by
  rw[k.ab.cr X];exact kw (V i X).sm
 have c:=(Q.ex.eI i X).2.2;rw[if_pos e] at c;obtain⟨_,a1,a2,rfl,he⟩:=Hm iP h i aa (cr 96 (aq A) i) ap;have O:a2=0:=by
  have c':=c;simp only[CH,oi,iW a1] at c';exact c'
 exact⟨(he O).1,λs a0=>rlz h H K.ex.wk ap c a0 (((Q.ro i X).AL e).1 s a0)⟩
set_option maxHeartbeats 8000000 in
def t6 (hS:TB.Ev 11 [] (.ret [.b J])) (h:dD) (aa:Int) (x f l o B d C t:RV) (P:Sl x) (R:Sl f) (h3:Sl l) (u:Sl o) (h5:Sl B) (O:Sl d) (h7:Sl C) (N:∀i<Y d.rows,Sl (cr 96 d i)) (M:Sl t):
  TB.Ev 6 (wk++[.r x,.r f,.i aa,.r l,.r o,.r B,.r d,.r C,.r t]) (.ret [.b J]):=by
 refine mz rfl rfl (.inl rfl) ?_;obtain⟨a3,s,a4,rfl,L⟩:=t12 x f o d (by rw[O.len];omega);simp only[wk,aDi,aDl] at s;simp[T6,wk,bp hS,bp s,M.len,h.rl.len];intro hb V;have V:=Int.ofNat_inj.1 V;have L:=L hb;have p:∀i<Y d.rows,Sl (cr 96 d i)/\(cr 96 d i).rows.length<=100:=λi W=>⟨N i W,by
  have:=L.fG i (by rw[O.len];omega);rw[(N i W).len] at this;omega⟩
 have Q:AQ ak x f l o B d C:=⟨P,R,h3,u,h5,O,h7,p⟩;obtain⟨_,n,b,e,rfl,q1,q2⟩:=t18 h aa x f l o B d C Q;simp only[wk,aDi,aDl] at n;rw[bp n];by_cases H:e=0
 case neg=>
  have eu:=q1 H;subst eu;simp[H]
 subst H;by_cases j:b=J
 case neg=>
  have eu:b=false:=aEE.2 j;subst eu;simp
 subst j;have K:=q2.1 rfl;have hw:=(pH iP h).2 K.ex.wk;have hn:=hw.nr;have G:Y ak.rows<=140737488355328:=by omega
 have al:∀i<Y ak.rows,Sl (cr 96 d i):=λi W=>N i (by rw[K.ex.lB];exact W)
 have kU:∀i<Y ak.rows,(cr 96 d i).rows.length<=100:=λi W=>(p i (by rw[K.ex.lB];exact W)).2
 obtain⟨_,g,q⟩:=t21 h aa x f l o B d C t Q M (λ_ _=>trivial);simp only[wk,aDi,aDl] at g;rcases q with⟨_,_,hh,_⟩|⟨_,m,y,A,D,k,rfl⟩;exact(hh ⟨K.ex,K.tN,V⟩).elim;have c:∀i<Y ak.rows,Sl (cr 96 (aq A) i)/\(cr 96 (aq A) i).rows.length<=100:=λi W=>by
  rw[k.ab.cr W];have:Sl (cr 96 (lT m t l d (Y ak.rows)) i)/\(cr 96 (lT m t l d (Y ak.rows)) i).rows.length<=100:=by
   rw[w4 W];split;exact⟨al i W,kU i W⟩;exact⟨kw (by simp),by simp⟩
  exact⟨kw this.1.sm,this.2⟩
 have F:Sl (iE m t l (Y ak.rows)):=kw (by simp;omega);have a:Sl (aq o.rows):=kw u.sm;have sS:Sl (aq y):=kw (by rw[k.ab.ls];exact G);have sV:Sl (aq A):=kw (by rw[k.ab.lr];exact G);have sZ:Sl (aq D):=kw (by rw[k.ab.lb];exact G);have X:AQ ak x f (iE m t l (Y ak.rows)) (aq o.rows) (aq y) (aq A) (aq D):=⟨P,R,F,a,sS,sV,sZ,λi W=>c i (by rw[<-k.ab.lr];exact W)⟩;obtain⟨_,ag,b',e',rfl,an,ap⟩:=t18 h aa x f (iE m t l (Y ak.rows)) (aq o.rows) (aq y) (aq A) (aq D) X;have hO:=apq h Q K V k;have a0:b'=true:=ap.2 hO;subst a0;have a1:e'=0:=by
  by_cases w:e'=0;exact w;exact absurd (an w) (by simp)
 subst a1;simp only[wk,aDi,aDl] at ag;have a2:gq aa 0 (dg-1)=true:=by have:=K.ex.br;simp;omega
 obtain⟨_,z,v,a5,rfl,c1,c2,c3⟩:=ae6 h aa;obtain rfl:=c3 K.ex.wk a2;have S:=ayk h Q K V k (iW z);simp only[wk,aDi,aDl] at z;simp;rw[bp g];simp;rw[show aq (iE m t l (Y ak.rows)).rows=iE m t l (Y ak.rows) from rfl,bp ag];simp;rw[bp z];simp[R.len,h.rl.len,F.len,O4,K.ex.lQ,K.ex.pJ,k.ab.ls,k.ab.lr,k.ab.lb];exact lp6 h aa _ _ _ _ _ _ _ _ _ x f l o B d C t _ _ _ _ _ v _ P R M F a sS sV sZ K.ex.lQ V O4 K.ex.pJ k.ab.ls k.ab.lr (λi W=>(c i W).1) c1 S
end
