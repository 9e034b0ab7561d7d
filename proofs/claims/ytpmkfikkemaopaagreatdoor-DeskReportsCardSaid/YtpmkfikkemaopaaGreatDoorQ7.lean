/- Part 7 of the proof. -/
import Derived.Test.YtpmkfikkemaopaaGreatDoorQ6
set_option linter.all false
set_option maxRecDepth 100000
set_option maxHeartbeats 100000000
open Bool renaming true->J
open List renaming mem_cons->dP,mem_append->eP,pairwise_cons->jL,range->fU,length_cons->oK,nodup_append->xL,mem_range->zv,nodup_cons->Wp,length_erase_of_mem->aEC,length_pos_of_mem->aEF,mem_erase_of_ne->aEG,length->Y
open Nat renaming zero_le->Ww
namespace Go.Proofs.YtpmkfikkemaopaaGreatDoor.Y
open Go.RowKit
noncomputable section
variable{X:Nat}{V:aw}{W:ax}
section
variable{R:bo->Prop}{G:aQ}{t:T}{O:ak}{L:dj}
variable[Inhabited cX]
def Vv(X:RV)(y:Nat->Int):Int:=C0 X (y 1) (y 2) (y 3) (y 4) (y 5) (y 6) (y 7) (y 8) (y 9) (y 10) (y 11) (y 12) (y 13) (y 14) (y 15) (y 16)
def Ly(f:Nat->Int)(x:Nat->Int)(v:ax):Nat->Nat->Int
 |0,j=>f j+29*x (j/2)
 |n+1,j=>if j%2=0 then min (Ly f x v n j) (f j+29*Po x v (n+1) (j/2)) else max (Ly f x v n j) (f j+29*Po x v (n+1) (j/2))
def Pv(e:Int):bn:=[.i 0,.i 0,.i 0,.i 0,.i e]
def Vw(y:Nat->Int)(x:Nat->Int)(v:ax):Nat->Int:=A4 (fgF v (Y v)) (rch (y 6) (y 7) (y 8)) (y 3) x 5
structure SwE(bj ar:Int)(x:Nat->Int)(nm:RV)(y:Nat->Int)(r:RV)(ys:bn):Prop where
 c:gV bj ar≠0->ys=Pv (gV bj ar)
 p:gV bj ar=0->¬rS x->ys=Pv 260
 b:gV bj ar=0->rS x->Vv nm y≠0->ys=Pv (Vv nm y)
 m:gV bj ar=0->rS x->Vv nm y=0->¬zk (fy bj ar) r->ys=Pv 270
 w:gV bj ar=0->rS x->Vv nm y=0->zk (fy bj ar) r->∀v,anU (fy bj ar) r (fy bj ar).length v->(¬Vs x v (fy bj ar).length->ys=Pv 2)/\(Vs x v (fy bj ar).length->ys=[.i (Ly (Vw y x v) x v (Y v) 0),.i (Ly (Vw y x v) x v (Y v) 1),.i (Ly (Vw y x v) x v (Y v) 2),.i (Ly (Vw y x v) x v (Y v) 3),.i 0])

end
section
variable[Inhabited cX]
section
def avm{X:Type}[DecidableEq X]:∀{a b:List X},a.Nodup->(∀x∈a,x∈b)->Y a<=Y b
 |[],_,_,_=>Ww _
 |x::a,b,Q,W=>by
  have g:=Wp.1 Q;have V:x∈b:=W x ay;have:=avm (a:=a) (b:=b.erase x) g.2 λy R=>(aEG (λe=>g.1 (by rw[<-e];exact R))).2 (W y (by simp[R]))
  rw[aEC V] at this;have P:0<Y b:=aEF V;simp only[oK];omega
structure Pk(n:Nat)(js:aw):Prop where
 nd:js.Nodup
 lt:∀j∈js,j<n
def Pk.nil(n:Nat):Pk n []:=⟨List.nodup_nil,ay⟩
def Pk.add{j:Nat}(h:Pk X V)(Q:j∉V)(O:j<X):Pk X (V++[j]):=⟨xL.2 ⟨h.nd,ay,by intro a P b R e;simp at R;subst R;subst e;exact Q P⟩,by
 intro k W;rcases eP.1 W with W|W;exact h.lt k W;simp at W;omega⟩
def Pk.len(h:Pk X V):Y V<=X:=by
 have:=avm (b:=fU X) h.nd λj W=>zv.2 (h.lt j W)
 simpa using this
end
section
variable{L:dj}
end

section
def HK(M:ax)(k:Int)(i:Nat):Prop:=∃x∈M,aN 0 x=k/\aN 1 x=(i:Int)
def aex{c:aH}(W:Y c=4){k:Int}{i:Nat}:∀{M:ax},axd M->(HK (iF 3 c M) k i<->HK M k i\/(aN 0 c=k/\aN 1 c=(i:Int)))
 |[],_=>by simp[HK,iF]
 |r::V,h=>by
  have R:axd V:=⟨(jL.1 h.keys).2,λx Q=>h.four x (by simp[Q])⟩;have P:=aex W (k:=k) (i:=i) R;have O:=apE W (h.four r ay);simp only[iF];split;rename_i X;have X:=O.1 X;have N:=X 0 ay;have L:=X 1 ay;simp only[HK,dP,exists_eq_or_imp,N,L]
  grind
  simp only[HK,dP,exists_eq_or_imp] at P⊢
  grind
structure Tr(a b:Nat->Prop)(M:ax):Prop where
 ok:axd M
 ha:∀i,HK M 4 i<->a i
 hb:∀i,HK M 5 i<->b i
def Tr.nil:Tr (λ_=>False) (λ_=>False) []:=⟨axd.nil,λi=>by simp[HK],λi=>by simp[HK]⟩
variable{a b:Nat->Prop}{M:ax}{c:aH}
def Tr.ai(X:Y c=4)(W:aN 0 c≠4/\aN 0 c≠5)(h:Tr a b M):Tr a b (iF 3 c M):=
 ⟨h.ok.ins X,λi=>by rw[aex X h.ok,h.ha];simp[W.1],λi=>by rw[aex X h.ok,h.hb];simp[W.2]⟩
def Tr.congr{X W:Nat->Prop}(h:Tr a b M)(V:∀i,a i<->X i)(R:∀i,b i<->W i):Tr X W M:=⟨h.ok,λi=>(h.ha i).trans (V i),λi=>(h.hb i).trans (R i)⟩
end
end
section
variable{R:bo->Prop}{G:aQ}{t:T}{O:ak}{L:dj}
variable[Inhabited cX]

end
section
variable[Inhabited cX]

def SgE(ar:Int)(X V W:RV)(i:Nat):Prop:=(∀k<(fy i ar).length,∀m,Fst (cr 104 W i) (fQ (fy i ar) k 0) m->xi (m78 X (fQ (fy i ar) k 0) i) 1=0)/\xi (adG ar V X W i) 1=0


def SgA(ar:Int)(X W V R:RV):Prop:=∀i<Y aX.aj,cb W i 0=J->SgE ar X V R i



structure ObE(ar:Int)(wg bd mv bf af re bx:RV):Prop where
 ex:aor ar wg bd mv bf af re bx
 bld:∀i<Y aX.aj,Vu ar mv bf bd re i
 sge:SgA ar bd mv bf re
end
section
variable{R:bo->Prop}{G:aQ}{t:T}{O:ak}{L:dj}
variable[Inhabited cX]
def Vx(v:ax)(k:Nat):Nat:=(v.getD k []).length
structure Md(ar:Int)(bd mv bf re:RV)(vs vr vb:ax):Prop where
 wk:kQ=0
 br:0<=ar/\ar<eW
 lbd:Y bd.aj=Y aX.aj
 lmv:Y mv.aj=Y aX.aj
 lbf:Y bf.aj=Y aX.aj
 lre:Y re.aj=Y aX.aj
 gQ:∀i<Y aX.aj,Pu bd i=0/\s74 bf i=0/\(if cb mv i 0 then m85 ar re i=0 else(cr 104 re i).aj=[])
 ls:Y vs=Y aX.aj
 lr:Y vr=Y aX.aj
 lb:Y vb=Y aX.aj
 al:∀k<Y aX.aj,bQ vr (k:Int) 0=bK (cr 104 re k).aj/\Vx vs k=13/\Vx vb k=4/\Vu ar mv bf bd re k/\(∀j<13,bS (bQ vs (k:Int) j).val=gS ar mv bf re k j)/\∀j<4,bS (bQ vb (k:Int) j).val=gB ar mv bf bd re k j

def Pw(f:Nat->Int):Nat->Int
 |0=>0
 |n+1=>if Pw f n=0 then f n else Pw f n
def roE(ar:Int)(d g l:RV)(k:Nat):Int:=if cb d k 0=J then m89 ar g l k 13 else 0
def Vy(e:Int):bo:=.ret [.i 0,.r (bK []),.r (bK []),.r (bK []),.r (bK []),.r (bK []),.i e]
structure AcE(ar:Int)(p d g l M F S V B:RV):Prop where
 m:Sl M/\Y M.aj=Y aX.aj/\∀i<Y aX.aj,cb M i 0=cb d i 0
 f:Sl F/\Y F.aj=Y aX.aj/\∀i<Y aX.aj,∀j<13,ci F i j=ci g i j
 s:Sl S/\Y S.aj=Y aX.aj/\∀i<Y aX.aj,∀j<13,ci S i j=gS ar d g l i j
 v:Sl V/\Y V.aj=Y aX.aj/\∀i<Y aX.aj,Sl (cr 104 V i)/\(cr 104 V i).aj=(cr 104 l i).aj
 b:Sl B/\Y B.aj=Y aX.aj/\∀i<Y aX.aj,∀j<4,ci B i j=gB ar d g p l i j
structure MkE(ar:Int)(p d g l:RV)(o:bo):Prop where
 c:kQ≠0->o=Vy kQ
 a:kQ=0->(ar<0\/eW<=ar)->o=Vy 1
 r:kQ=0->(0<=ar/\ar<eW)->¬RgP ar p d g l->o=Vy 310
 e:kQ=0->(0<=ar/\ar<eW)->RgP ar p d g l->Pw (roE ar d g l) (Y aX.aj)≠0->o=Vy (Pw (roE ar d g l) (Y aX.aj))
 k:kQ=0->(0<=ar/\ar<eW)->RgP ar p d g l->Pw (roE ar d g l) (Y aX.aj)=0->∃M F S V B,o=.ret [.i ar,.r M,.r F,.r S,.r V,.r B,.i 0]/\AcE ar p d g l M F S V B
section
variable{ar:Int}{p d g l:RV}
end
def avn{V:aH}{j:Nat}(h:Y W=X):ci (bK (W++[V])) X j=bS (V.getD j default).val:=by
 show bS (bQ (W++[V]) X j).val=_;rw[aBN h]
def avo{w:ax}{j:Nat}(h:X<Y W):ci (bK (W++w)) X j=ci (bK W) X j:=by
 show bS (bQ (W++w) X j).val=bS (bQ W X j).val;rw[aBO h]
structure AcN(ar:Int)(p d g l:RV)(n:Nat)(vs vb:ax):Prop where
 s:Y vs=n/\∀i<n,∀j<13,ci (bK vs) i j=gS ar d g l i j
 b:Y vb=n/\∀i<n,∀j<4,ci (bK vb) i j=gB ar d g p l i j
def AcN.add{ar:Int}{p d g l:RV}{Q:ax}(h:AcN ar p d g l X W Q){P N:aH}(M:∀j<13,bS (P.getD j default).val=gS ar d g l X j)(H:∀j<4,bS (N.getD j default).val=gB ar d g p l X j):AcN ar p d g l (X+1) (W++[P]) (Q++[N]):=by
 refine⟨⟨by simp[h.s.1],λi G j V=> ?_⟩,by simp[h.b.1],λi G j V=> ?_⟩;by_cases e:i=X;subst e;rw[avn h.s.1];exact M j V;rw[avo (by rw[h.s.1];omega)];exact h.s.2 i ae j V;by_cases e:i=X;subst e;rw[avn h.b.1];exact H j V;rw[avo (by rw[h.b.1];omega)];exact h.b.2 i ae j V


section
variable{a b:RV}{n:Nat}
end
end
