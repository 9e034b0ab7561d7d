/- Part 2 of the proof; the last part says what is shown. -/
import Derived.Test.YtieaiocljdpebaaGreatDoorQ1
import Derived.Laws.AppendOwn
import Derived.IntWalk
import Derived.RangeFuncRecord
import Derived.Maps.RangeRun
import Derived.RangeFuncSeq
set_option linter.all false
open Bool renaming and_eq_true->axI,not_eq_true'->ax0,false_eq_true->ax3,or_eq_true->ayb,eq_iff_iff->ayS,not_eq_false->azc,true_and->azy,and_true->azH,or_eq_true_iff->aAt
open List renaming getElem?_eq_some_iff->axJ,getElem?_eq_getElem->axK,getElem?_append_left->axL,getD_eq_getElem?_getD->axN,getElem?_map->axO,getElem?_append_right->axP,cons_append->axY,mem_cons->axT,mem_append->axS,nil_append->ax2,map_cons->axV,replicate->axW,length_append->axX,all_eq_true->axU,range->ax6,mem_of_getElem?->ax4,mem_map->aya,getElem?_eq_none->ax8,map_congr_left->ax7,eq_nil_of_length_eq_zero->ayd,length_eq_one_iff->aye,ext_getElem?->ayf,any_eq_true->ayh,getElem?_take->ayi,contains_iff_mem->ayj,getElem?_cons_succ->ayk,getElem?_drop->ayq,mem_filter->ayr,getElem?_set_ne->ays,length_cons->ayu,map_map->ayw,getElem?_of_mem->ayx,length_map->ayA,getElem?_set->ayD,getElem?_eq_none_iff->ayC,drop_eq_getElem_cons->ayG,mem_of_mem_drop->ayL,getElem?_replicate->ayO,append_assoc->azd,mem_of_mem_take->ayP,take_of_length_le->ay0,mem_cons_of_mem->ayV,map_nil->ay2,range'->ay5,size_toArray->ay6,getElem?_range->ay7,mem_of_find?_eq_some->azm,foldl_cons->ay8,length_drop->ay9,getElem?_set_self->azh,length_take->azj,map_append->aze,range_eq_range'->azz,drop_drop->azA,toList_toArray->azE,all_cons->azx,find?_some->az0,zip_cons_cons->azJ,mem_singleton->ayY,replicate_one->azK,take_append_of_le_length->azQ,range'_succ->azV,getElem?_modify->aA5,length->azO,getElem?_zip_eq_some->az2,length_erase_of_mem->az7,flatMap_cons->az9,drop_eq_nil_of_le->aAb,length_singleton->aAh,mem_erase_of_ne->aAq,drop_append_of_le_length->aAs,append_toArray->aAu,drop_of_length_le->aAS,length_pos_of_mem->aAT,drop_zero->aAY,mapM_cons->aAZ,getElem?_append->aAp,map_set->aBf
open Option.some renaming injEq->axM
open Nat renaming le_refl->axQ,zero_add->ayg,le_trans->ayt,add_mul->ayN,zero_le->ayK,eq_zero_or_pos->ayW,mul_le_mul_right->ayX,add_zero->ay4,add_assoc->azp,mul_comm->az6,mod_lt->azX,div_lt_of_lt_mul->aAl,div_add_mod->aAm,sub_self->aAn,min_eq_left->aAo,mul_le_mul->aA0,lt_or_gt_of_ne->aBe
open Option renaming map_some->axR,isSome_iff_exists->ax1,getD_some->ayo,isNone_iff_eq_none->aAE
open Array renaming ext'->ayF,toList_map->ayI,length_toList->ayU,getElem?_toList->azT,getElem?_eq_getElem->az1,toList_range->aAw,mapM_eq_mapM_toList->aAD,range->aAR,mem_filter->aBs
open Int renaming toNat_natCast->ayE
open List.cons renaming injEq->ayH
open Prod.mk renaming injEq->azq
namespace Go.Proofs.YtieaiocljdpebaaGreatDoor.Y
open Go.RowKit
noncomputable section
variable{y:RK}{J:World}{r:Ty}{n:RV}{Z:Nat}{U:TypeId}
section
def FL(Z:List Nat):∀(l:List RK)(n i:Nat),(gr Z n l)[i]?=(l[i]?).map λx=>if Z.contains (n+i) then .dead else x
 |[],n,i=>by simp[gr]
 |x::X,n,0=>by simp[gr]
 |x::X,n,i+1=>by
  simp only[gr,ayk];rw[FL Z X (n+1) i,show n+1+i=n+(i+1) by omega]
def FM(Z:List Nat):∀(l:List RK)(n i:Nat),(i7 Z n l)[i]?=(l[i]?).map (uh (Z.contains (n+i)))
 |[],n,i=>by simp[i7]
 |x::X,n,0=>by simp[i7]
 |x::X,n,i+1=>by
  simp only[i7,ayk];rw[FM Z X (n+1) i,show n+1+i=n+(i+1) by omega]
def UJ(Z:List Nat):∀(l:List RK)(n i:Nat),(yc Z n l)[i]?=(l[i]?).map (I7 (Z.contains (n+i)))
 |[],n,i=>by simp[yc]
 |x::X,n,0=>by simp[yc]
 |x::X,n,i+1=>by
  simp only[yc,ayk];rw[UJ Z X (n+1) i,show n+1+i=n+(i+1) by omega]
def wm(Z:List Nat):∀(l:List RK)(n:Nat),(gr Z n l).length=l.length
 |[],n=>rfl
 |x::X,n=>by simp[gr,wm Z X (n+1)]
def wn(Z:List Nat):∀(l:List RK)(n:Nat),(i7 Z n l).length=l.length
 |[],n=>rfl
 |x::X,n=>by simp[i7,wn Z X (n+1)]
def acM(Z:List Nat):∀(l:List RK)(n:Nat),(yc Z n l).length=l.length
 |[],n=>rfl
 |x::X,n=>by simp[yc,acM Z X (n+1)]
def na(e Z:RK):Prop:=Z=e\/Z=.dead\/∃t,e=.own t/\Z=.sl t
structure my(rs rs':List RK):Prop where
 len:rs'.length=rs.length
 get:∀(k:Nat)(e':RK),rs'[k]?=some e'->∃e,rs[k]?=some e/\na e e'
def my.refl(Z:List RK):my Z Z:=⟨rfl,λk e h=>⟨e,h,.inl rfl⟩⟩
def na.trans{b c:RK}(h:na y b)(k:na b c):na y c:=by
 rcases k with rfl|rfl|⟨t,rfl,rfl⟩;exact h;exact .inr (.inl rfl);rcases h with h|h|⟨X,U,Z⟩;exact .inr (.inr ⟨t,h.symm,rfl⟩);cases h;cases Z
def my.trans{a b c:List RK}(h:my a b)(k:my b c):my a c:=
 ⟨k.len.trans h.len,λi e Z=>let⟨X,U,R⟩:=k.get i e Z;let⟨Q,N,M⟩:=h.get i X U;⟨Q,N,M.trans R⟩⟩
def ang(b:Bool)(e:RK):na e (uh b e):=by
 cases e<;>simp only[uh]
 case own t=>cases b;exact .inl rfl;exact .inr (.inr ⟨t,rfl,rfl⟩)
 all_goals exact .inl rfl
def acN(b:Bool)(e:RK):na e (I7 b e):=by
 cases e<;>simp only[I7]
 case own t=>cases b;exact .inr (.inl rfl);exact .inr (.inr ⟨t,rfl,rfl⟩)
 all_goals exact .inl rfl
def Nw(U:List Nat)(Z:List RK):my Z (i7 U 0 Z):=by
 refine⟨wn _ _ _,λk R h=> ?_⟩;rw[FM] at h;cases X:Z[k]? with
 |none=>rw[X] at h;cases h
 |some e=>rw[X] at h;simp only[axR,axM] at h;exact⟨e,rfl,h▸ang _ e⟩
def acO(U:List Nat)(Z:List RK):my Z (yc U 0 Z):=by
 refine⟨acM _ _ _,λk R h=> ?_⟩;rw[UJ] at h;cases X:Z[k]? with
 |none=>rw[X] at h;cases h
 |some e=>rw[X] at h;simp only[axR,axM] at h;exact⟨e,rfl,h▸acN _ e⟩
def aX.km{Z:RK}(h:aX J r y n)(w:na y Z):aX J r Z n:=by
 rcases w with rfl|rfl|⟨t,rfl,rfl⟩;exact h;exact aX.dead n (FC h);exact aco h
def cu.km{X:RK}(w:na y X)(h:cu r X n Z):cu r y n Z:=by
 rcases w with rfl|rfl|⟨t,rfl,rfl⟩;exact h;cases h;exact cu.own _ _ _ h
def uq.km{d:Ty}{e X:RK}{U:RV}{b:Nat}(w:na e X)(h:uq d X U b):uq d e U b:=by
 rcases h with h|⟨⟨t,rfl⟩,h⟩;exact .inl (h.km w);rcases w with rfl|Z|⟨R,_,Z⟩;exact .inr ⟨⟨t,rfl⟩,h⟩;cases Z;cases Z
def na.own(w:na y (.own U)):y=.own U:=by
 rcases w with h|h|⟨Z,_,h⟩;exact h.symm;cases h;cases h
section
variable{f:List Nat}{g:World}{D:bB}{P:Program}{d:Ty}{p:List (Nat×Nat×Nat)}{V:List Nat}{O:aa}{s:S}{a:Act}{W:World}
def gY.km{Z:aY}{X U:List RK}(R:gY f g V O Z d X W)(h:my X U):gY f g V O Z d U W:=
 ⟨R.base,R.own,R.inj,R.box,λk e Q I N=>let⟨M,L,J⟩:=h.get k e I;⟨(R.ref k M Q L N).1.km J,λb H i G=>(R.ref k M Q L N).2 b (H.km J) i G⟩⟩
def ao.km(R:ao f g D d V O s a W){Z:List RK}(h:my s.rs Z):ao f g D d V O {s with rs:=Z} a W:=by
 refine⟨R.mem.km h,R.dX,R.ei,R.eb,R.er.trans h.len.symm,R.bY,R.size,R.tmps,λk e U b Q N M=> ?_⟩;obtain⟨y,L,J⟩:=h.get k _ Q;have:=J.own;subst this;have t:=R.bw k e U b L N M;exact⟨t.own,t.mem,t.box,λX I H G F E C=>let⟨B,A,z⟩:=h.get X I F;t.alone X B H G A E (C.km z),t.inner⟩
def ao.dq(R:ao f g D d V O s a W)(w:s.rs[Z]?=some (.own U))(hr:O.r[Z]?=some n)(L:W.grownBy J n.iN):
  ao f g D d V O {s with rs:=gr [Z] 0 s.rs} a J:=by
 have A:∀X N,(gr [Z] 0 s.rs)[X]?=some N->(X=Z/\N=.dead)\/(X≠Z/\s.rs[X]?=some N):=by
  intro X N h;rw[FL] at h;cases v:s.rs[X]? with
  |none=>rw[v] at h;cases h
  |some x=>
   rw[v] at h;simp only[ayg,axR,axM] at h;by_cases M:X=Z;subst M;left;simp at h;exact⟨rfl,h.symm⟩;right;simp[M] at h;exact⟨M,by rw[h]⟩
 have G:∀b,n.iN=some b->ur f g V O s.boxes d s.rs W Z U n b:=λb Q=>R.bw Z U n b w hr Q
 have ac:dM f g J:=R.mem.base.grown L (λb Q=>((G b Q).own).symm);refine⟨⟨ac,R.mem.own,R.mem.inj,λi t cs h=> ?_,λX N I z H=> ?_⟩,R.dX,R.ei,R.eb,by simp[wm];exact R.er, ?_,R.size,R.tmps,λX N I b z H F=> ?_⟩;rw[L.block _ (R.mem.lt (by simp[aD,h])) (λQ=>(G _ Q.symm).box i (by simp[aD,h]) rfl)];exact R.mem.box i t cs h;rcases A X N z with⟨rfl,rfl⟩|⟨E,C⟩;refine⟨aX.dead _ ?_,λb Q=>by cases Q⟩;exact FC (R.mem.ref X _ I w H).1;obtain⟨F,h4⟩:=R.mem.ref X N I C H;exact⟨F.FI (λb Q=>L.block b (F.lt Q) (λM=>(G b M.symm).alone X N I E C H (.inl Q))) L.size,h4⟩;cases Q:n.iN with
 |none=>exact R.bY.world λb o h _=>(L.block b (wl h) (by rw[Q];simp)).trans h
 |some b0=>
  obtain⟨u,q,p,m,y,l⟩:=(G b0 Q).mem;exact R.bY.cells y (λb E af=>L.block b af (λU=>E (by rw[Q] at U;cases U;rfl)))
 rcases A X _ z with⟨-,M⟩|⟨E,C⟩;cases M;have t:=R.bw X N I b C H F;have hw:J.heap[b]?=W.heap[b]?:=L.block b t.lt (λM=>(G b M.symm).alone X _ I E C H (.inr ⟨⟨N,rfl⟩,F⟩));obtain⟨u,q,p,m,y,l⟩:=t.mem;refine⟨t.own,⟨u,q,p,m,hw.trans y,l⟩,t.box,λj c ag g1 g2 g3 B=> ?_,t.inner⟩;rcases A j c g2 with⟨rfl,rfl⟩|⟨_,al⟩;rcases B with B|⟨⟨t',an⟩,_⟩;cases B;cases an;exact t.alone j c ag g1 al g3 B
def ao.grown(R:ao f g D d V O s a W)(Z:W.grownBy J none):ao f g D d V O s a J:=
 R.below ⟨Z.os,Z.tape,Z.output,Z.size,λk X=>Z.block k X (by simp)⟩
def pe(Z:aY)(O:aa)(x:XV)(V:List Nat):kj Z O (O.add x) V V:=by
 have h:=yA Z O [x] V;exact h
def CX{v:RV}(h:(O.add (.r n)).r[Z]?=some v):(Z<O.r.length/\O.r[Z]?=some v)\/(Z=O.r.length/\v=n):=by
 simp only[aa.add] at h;by_cases X:Z<O.r.length;rw[axL X] at h;exact .inl ⟨X,h⟩;have:Z=O.r.length:=by have:=(axJ.1 h).1;simp at this;omega
 subst this;simp at h;exact .inr ⟨rfl,h.symm⟩
structure anh(f:List Nat)(g:World)(V:List Nat)(O:aa)(bx:aY)(d:Ty)(rs:List RK)(W:World)(e:TypeId)(rv:RV)(b:Nat):Prop where
 own:g.heap.size<=b\/b∈f
 mem:∃len cap cur,rv.val=.slice (some ⟨b,0,none⟩) len cap/\W.heap[b]?=some (.cells cur e (0,0))/\len<=cap/\cap<=maxLen/\cur.size=cap*(ba d (.sl e)).length
 box:∀i,aD bx i=true->ad V i≠b
 alone:∀(k':Nat)(e':RK)(rv':RV),rs[k']?=some e'->O.r[k']?=some rv'->¬uq d e' rv' b
 inner:¬kg d e rv.rows b
def ao.add(R:ao f g D d V O s a W)(A:s.bd=true){U:RK}{rv:RV}(z:aX W d U rv)(y:∀b,cu d U rv b->∀i,aD s.boxes i=true->ad V i≠b)
  (x:∀(k:Nat)(e:TypeId)(M:RV)(b:Nat),s.rs[k]?=some (.own e)->O.r[k]?=some M->M.iN=some b->¬uq d U rv b)
  (w:∀e b,U=.own e->rv.iN=some b->anh f g V O s.boxes d s.rs W e rv b):ao f g D d V (O.add (.r rv)) {s with rs:=s.rs++[U]} a W:=by
 obtain⟨u,q⟩:=R.uu A;have F:=pe s.boxes O (.r rv) V;have bp:∀{k:Nat}{e:RK},(s.rs++[U])[k]?=some e->(k<O.r.length/\s.rs[k]?=some e)\/(k=O.r.length/\e=U):=by
  intro k e h;rw[R.er];by_cases L:k<s.rs.length;rw[axL L] at h;exact .inl ⟨L,h⟩;have:k=s.rs.length:=by have:=(axJ.1 h).1;simp at this;omega
  subst this;simp at h;exact .inr ⟨rfl,h.symm⟩
 refine⟨⟨R.mem.base,R.mem.own,R.mem.inj,λi t p h=> ?_,λk e v Z Q=> ?_⟩,R.dX,R.ei,R.eb,by simp[aa.add,R.er],R.bY,R.size,λt o h=> ?_,λk e v b Z Q J=> ?_⟩;rw[F.cg (o8 q h)];exact R.mem.box i t p h;rcases bp Z with⟨L,Z⟩|⟨rfl,rfl⟩;rcases CX Q with⟨_,Q⟩|⟨rfl,rfl⟩;exact R.mem.ref k e v Z Q;omega;rcases CX Q with⟨L,_⟩|⟨_,rfl⟩;omega;exact⟨z,y⟩;rcases R.tmps t o h with Z|Z;exact .inl Z;right;rw[F.den (qT u h)];exact Z;rcases bp Z with⟨L,E⟩|⟨rfl,n⟩;rcases CX Q with⟨_,C⟩|⟨rfl,rfl⟩;have t:=R.bw k e v b E C J;refine⟨t.own,t.mem,t.box,λI H M G N X=> ?_,t.inner⟩;rcases bp N with⟨B,N⟩|⟨B,m⟩;rcases CX X with⟨_,X⟩|⟨rfl,rfl⟩;exact t.alone I H M G N X;omega;rcases CX X with⟨j,_⟩|⟨_,l⟩;omega;rw[m,l];exact x k e v b E C J;omega;rcases CX Q with⟨L,_⟩|⟨_,rfl⟩;omega;have t:=w e b n.symm J;refine⟨t.own,t.mem,t.box,λI H M G N X=> ?_,t.inner⟩;rcases bp N with⟨B,N⟩|⟨rfl,_⟩;rcases CX X with⟨_,X⟩|⟨rfl,rfl⟩;exact t.alone I H M N X;omega;exact absurd rfl G
end
end
variable{k:Option Addr}{G:Nat}{X L:List (List RV)}{x:List RV}{N:List SV}{R:List Nat}
section
structure dF(W:World)(d:Ty)(e:TypeId)(rows:List (List RV)):Prop where
 len:∀(i:Nat)(row:List RV),rows[i]?=some row->row.length=(ba d (.sl e)).length
 int:∀(i j:Nat)(row:List RV)(c:RV)(k:IntKind),rows[i]?=some row->row[j]?=some c->(ba d (.sl e))[j]?=some (.int k)->∃n,c.val=.int k n
 bool:∀(i j:Nat)(row:List RV)(c:RV),rows[i]?=some row->row[j]?=some c->(ba d (.sl e))[j]?=some .bool->∃x,c.val=.bool x
 aq:∀(i j:Nat)(row:List RV)(c:RV)(z:Value)(k:RK),rows[i]?=some row->row[j]?=some c->(ba d (.sl e))[j]?=some (.aq z k)->aX W d k c
def cM(rows:List (List RV)):List Value:=rows.flatMap λZ=>Z.map RV.val
def wo{w:Nat}:∀{rows:List (List RV)},(∀(i:Nat)(Z:List RV),rows[i]?=some Z->Z.length=w)->(cM rows).length=rows.length*w
 |[],_=>by simp[cM]
 |r::U,h=>by
  have R:=h 0 r rfl;have X:=wo (rows:=U) (λi Z Q=>h (i+1) Z (by simpa using Q));simp only[cM,az9,axX,ayA,ayu,R] at X⊢;rw[X,ayN];omega
def JB{w:Nat}:∀{rows:List (List RV)},(∀(i:Nat)(row:List RV),rows[i]?=some row->row.length=w)->∀{i j:Nat}{row:List RV}{c:RV},rows[i]?=some row->row[j]?=some c->(cM rows)[i*w+j]?=some c.val
 |[],_,i,j,row,c,h,_=>by simp at h
 |r::U,h,0,j,row,c,Z,X=>by
  simp at Z;subst Z;have N:j<r.length:=(axJ.1 X).1;simp only[cM,az9,Nat.zero_mul,ayg];rw[axL (by simpa using N)];simp[X]
 |r::U,h,i+1,j,row,c,Z,X=>by
  have R:=h 0 r rfl;have Q:=JB (rows:=U) (λi row M=>h (i+1) row (by simpa using M)) (i:=i) (by simpa using Z) X;simp only[cM,az9] at Q⊢;rw[axP (by simp[R,ayN];omega)];rw[<-Q];congr 1;simp[R,ayN];omega
def FN{w:Nat}:∀{rows:List (List RV)},(∀(i:Nat)(Z:List RV),rows[i]?=some Z->Z.length=w)->∀{q:Nat}{u:Value},(cM rows)[q]?=some u->∃i j Z c,rows[i]?=some Z/\Z[j]?=some c/\q=i*w+j/\u=c.val
 |[],_,q,u,h=>by simp[cM] at h
 |r::R,h,q,u,X=>by
  have H:=h 0 r rfl;simp only[cM,az9] at X;by_cases Q:q<r.length;rw[axL (by simpa using Q),axO] at X;cases U:r[q]? with
  |none=>rw[U] at X;cases X
  |some c=>rw[U] at X;simp at X;exact⟨0,q,r,c,rfl,U,by simp,X.symm⟩
  rw[axP (by simp;omega)] at X;obtain⟨i,j,Z,c,N,M,L,J⟩:=FN (rows:=R) (λi Z I=>h (i+1) Z (by simpa using I)) X;refine⟨i+1,j,Z,c,by simpa using N,M, ?_,J⟩;simp only[ayA] at L;rw[ayN];omega
def UK(a b:List (List RV)):cM (a++b)=cM a++cM b:=by simp[cM]
section
variable{W W':World}{d:Ty}{e:TypeId}{rows aA:List (List RV)}
def dF.ux{v:Value}(h:aX W d (.sl e) (.mk v rows)):dF W d e rows:=by
 cases h with
 |sl e A M L rows J I Z X U R=>exact⟨λi Q N=>(Z i Q N).1,X,U,R⟩
def qW(h:aX W d (.sl e) (.mk (.slice k Z G) rows)):rows.length=Z/\Z<=G:=by
 cases h with
 |sl e k Z G rows X U R Q N M=>exact⟨X,U⟩
def JC(h:aX W d (.sl e) (.mk (.slice k Z G) rows)):∀(q:Nat)(u:Value),(cM rows)[q]?=some u->∃b X,k=some ⟨b,X,none⟩/\(∃U t R,W.heap[b]?=some (.cells U t R))/\W.cell? ⟨b,X+q,none⟩=some u:=by
 intro q u Q;have N:=dF.ux h;obtain⟨i,j,M,c,L,J,rfl,rfl⟩:=FN N.len Q;cases h with
 |sl e k Z G rows E C I B z y=>
  obtain⟨-,b,X,rfl,H,F⟩:=I i M L;exact⟨b,X,rfl,H,by rw[<-azp];exact F j c J⟩
def UL(h:dF W d e rows){X:Nat}(R:∃Q t N,W.heap[Z]?=some (.cells Q t N))(M:∀(q:Nat)(u:Value),(cM rows)[q]?=some u->W.cell? ⟨Z,G+q,none⟩=some u)(L:rows.length<=X):aX W d (.sl e) (.mk (.slice (some ⟨Z,G,none⟩) rows.length X) rows):=
 aX.sl e _ _ _ _ rfl L (λi J U=>⟨h.len i J U,Z,G,rfl,R,λj c I=>by
  have:=M _ _ (JB h.len U I)
  rwa [<-azp] at this⟩) h.int h.bool h.aq
def yD(A:Option Addr)(U:Nat):aX W d (.sl e) (.mk (.slice A 0 U) []):=
 aX.sl e _ _ _ _ rfl (ayK _) (λi X Z=>by simp at Z) (λi j X c k Z=>by simp at Z) (λi j X c Z=>by simp at Z) (λi j X c z k Z=>by simp at Z)
def dF.single(h:dF W d e rows):∀u∈cM rows,fG u=true:=by
 intro u N;obtain⟨q,M⟩:=ayx N;obtain⟨i,j,Z,c,X,U,rfl,rfl⟩:=FN h.len M;have J:j<(ba d (.sl e)).length:=by rw[<-h.len i Z X];exact(axJ.1 U).1
 cases R:(ba d (.sl e))[j]? with
 |none=>rw[ayC] at R;omega
 |some L=>
  cases L with
  |int k=>obtain⟨n,Q⟩:=h.int i j Z c k X U R;rw[Q];rfl
  |bool=>obtain⟨n,Q⟩:=h.bool i j Z c X U R;rw[Q];rfl
  |aq z k=>exact FC (h.aq i j Z c z k X U R)
def dF.world(h:dF W d e rows)(Q:∀b,kg d e rows b->W'.heap[b]?=W.heap[b]?)(N:W.heap.size<=W'.heap.size):dF W' d e rows:=
 ⟨h.len,h.int,h.bool,λi j Z c z k X U R=>(h.aq i j Z c z k X U R).FI (λb M=>Q b ⟨i,j,Z,c,z,k,X,U,R,M⟩) N⟩
def dF.lt(h:dF W d e rows){b:Nat}(Z:kg d e rows b):b<W.heap.size:=by
 obtain⟨i,j,X,c,z,k,U,R,Q,N⟩:=Z;exact(h.aq i j X c z k U R Q).lt N
def dF.nil:dF W d e []:=⟨λi Z h=>by simp at h,λi j Z c k h=>by simp at h,λi j Z c h=>by simp at h,λi j Z c z k h=>by simp at h⟩
def JD(h:(X++L)[Z]?=some x):X[Z]?=some x\/L[Z-X.length]?=some x:=by
 by_cases U:Z<X.length;rw[axL U] at h;exact .inl h;rw[axP (by omega)] at h;exact .inr h
def dF.jr(h:dF W d e rows)(X:dF W d e aA):dF W d e (rows++aA):=
 ⟨λi U Z=>(JD Z).elim (h.len _ _) (X.len _ _),λi j U c k Z=>(JD Z).elim (h.int _ _ _ _ _) (X.int _ _ _ _ _),
  λi j U c Z=>(JD Z).elim (h.bool _ _ _ _) (X.bool _ _ _ _),λi j U c z k Z=>(JD Z).elim (h.aq _ _ _ _ _ _) (X.aq _ _ _ _ _ _)⟩
def ani(h:kg d e (rows++aA) Z):kg d e rows Z\/kg d e aA Z:=by
 obtain⟨i,j,U,c,z,k,X,R,Q,N⟩:=h;exact(JD X).imp (λX=>⟨_,j,U,c,z,k,X,R,Q,N⟩) (λX=>⟨_,j,U,c,z,k,X,R,Q,N⟩)
def JE(h:kg d e [] Z):False:=by
 obtain⟨i,j,U,c,z,k,X,-⟩:=h;simp at X
def Nx{v:Value}(h:kg d e rows Z):cu d (.sl e) (.mk v rows) Z:=by
 obtain⟨i,j,X,c,z,k,U,R,Q,N⟩:=h;exact cu.deep e v rows i j X c z k Z U R Q N
def acP{v:Value}(h:cu d (.sl e) (.mk v rows) Z):(∃a X U,v=.slice (some a) (X+1) U/\Z=a.block)\/kg d e rows Z:=by
 cases h with
 |here e a X U rows=>exact .inl ⟨a,X,U,rfl,rfl⟩
 |deep e v rows i j R c z k Z Q N M L=>exact .inr ⟨i,j,R,c,z,k,Q,N,M,L⟩
end
def anj(h:cu r y (cd y n) Z):cu r y n Z:=by
 cases y with
 |sl e=>
  simp only[cd] at h;split at h;exact h;cases h with
  |deep e n rows i j U c z y Z X=>simp at X
 |str=>cases h
 |aq=>cases h
 |own e=>
  simp only[cd] at h;split at h;exact h;cases h with
  |own e Q Z R=>cases R with
   |deep e n rows i j U c z y Z X=>simp at X
 |dead=>cases h
 |mr N=>cases h
def acQ(h:cu r y default Z):False:=by
 cases h with
 |deep e v rows i j U c z y Z X=>simp at X
 |own e Q Z R=>cases R with
  |deep e v rows i j U c z y Z X=>simp at X
def Ny(h:cu r y.rd n Z):cu r y n Z:=by
 cases y with
 |own t=>exact cu.own _ _ _ h
 |_=>exact h
def ank{i:Int}{j:Nat}(Q:Cq (ba r (.sl U))[j]?=y)(N:y≠ .aq)(h:cu r y (cd y (cellAt X i j)) Z):kg r U X Z:=by
 have R:=anj h;simp only[cellAt,axN] at R;cases M:X[i.toNat]? with
 |none=>rw[M] at R;exact(acQ (by simpa using R)).elim
 |some I=>
  rw[M] at R;simp only[ayo] at R;cases L:I[j]? with
  |none=>rw[L] at R;exact(acQ (by simpa using R)).elim
  |some c=>
   rw[L] at R;cases J:(ba r (.sl U))[j]? with
   |none=>rw[J] at Q;exact absurd Q.symm N
   |some H=>
    rw[J] at Q;subst Q;cases H with
    |aq z G=>exact⟨_,j,I,c,z,G,M,L,J,by simpa[Cq] using R⟩
    |int _=>exact absurd rfl N
    |bool=>exact absurd rfl N
def Nz{d:Ty}{O:aa}{s:S}{b:Nat}:∀{r:RE}{e:RK},e≠ .aq->r.kind d s=e->cu d e (r.rv O) b->
  ∃X U,r.root=some X/\s.rs[X]?=some U/\((r=.v X/\U.rd=e)\/∃t,U.rd=.sl t/\kg d t (O.rv X).rows b)
 |.v k,e,Z,h,R=>by
  simp only[RE.kind,axN] at h;cases M:s.rs[k]? with
  |none=>rw[M] at h;exact absurd (show e=.aq from h.symm) Z
  |some q=>rw[M] at h;simp at h;exact⟨k,q,rfl,M,.inl ⟨rfl,h⟩⟩
 |.cell r i j E,e,Z,h,R=>by
  simp only[RE.kind] at h;split at h;rename_i L J;split at h;rename_i I;subst h;simp only[RE.rv] at R;have N:=ank I Z R;have H:cu d (.sl L) (r.rv O) b:=by
   revert N;generalize r.rv O=v;intro N;obtain⟨v,rows⟩:=v;exact Nx N
  obtain⟨X,U,G,F,Q⟩:=Nz (r:=r) (e:=.sl L) (by simp) J H;refine⟨X,U,G,F,.inr ?_⟩;rcases Q with⟨rfl,Q⟩|Q;exact⟨L,Q,by simpa[RE.rv] using N⟩;exact Q;exact absurd h.symm Z;exact absurd h.symm Z
 |.k v,e,Z,h,R=>by
  cases v<;>simp only[RE.kind] at h
  case string s=>subst h;cases R
  all_goals exact absurd h.symm Z
section
variable{f:List Nat}{g:World}{D:bB}{P:Program}{d:Ty}{m:List (Nat×Nat×Nat)}{V:List Nat}{O:aa}{s:S}{a:Act}{W:World}
def qX(R:ao f g D d V O s a W)(h:s.rs[Z]?=some y):O.r[Z]?=some (O.rv Z):=by
 have X:Z<O.r.length:=by rw[R.er];exact(axJ.1 h).1
 simp[aa.rv,X]
def CY(v:RV):RV.mk v.val v.rows=v:=by cases v;rfl
def FO{e0:RK}(h:e0.rd=.sl U)(X:kg d U (O.rv Z).rows G):cu d e0 (O.rv Z) G:=by
 apply Ny;rw[h,<-CY (O.rv Z)];exact Nx X
def JF(R:ao f g D d V O s a W)(N:s.rs[Z]?=some (.own U))(L:O.r[Z]?=some n)(F:n.iN=some G){X:Nat}{t:TypeId}(Q:s.rs[X]?=some y)(M:y.rd=.sl t)(J:kg d t (O.rv X).rows G):False:=by
 have I:=R.bw Z U n G N L F;by_cases H:X=Z;subst H;rw[N] at Q;cases Q;simp only[RK.rd,RK.sl.injEq] at M;subst M;have:=qX R N;rw[L] at this;cases this;exact I.inner J;exact I.alone X y (O.rv X) H Q (qX R Q) (.inl (FO M J))
def NA(R:ao f g D d V O s a W)(M:s.rs[Z]?=some (.own U))(L:O.r[Z]?=some n)(J:n.iN=some G){r:RE}(F:y≠ .aq)(h:r.kind d s=y)(I:cu d y (r.rv O) G):r=.v Z:=by
 obtain⟨Q,E,A,N,X⟩:=Nz F h I;rcases X with⟨rfl,X⟩|⟨t,X,C⟩;by_cases H:Q=Z;rw[H];have B:=R.bw Z U n G M L J;exact absurd (.inl (Ny (by rw[X];exact I))) (B.alone Q E (O.rv Q) H N (qX R N));exact(JF R M L J N X C).elim
def FP(R:ao f g D d V O s a W){r:RE}(J:y≠ .aq)(h:r.kind d s=y)(M:cu d y (r.rv O) Z):O.mw d s.rs Z/\∀i,aD s.boxes i=true->ad V i≠Z:=by
 obtain⟨U,Q,H,N,X⟩:=Nz J h M;have L:cu d Q (O.rv U) Z:=by
  rcases X with⟨rfl,X⟩|⟨t,X,I⟩;exact Ny (by rw[X];exact M);exact FO X I
 exact⟨⟨U,Q,N,L⟩,(R.mem.ref U Q _ N (qX R N)).2 Z L⟩
def acR(R:ao f g D d V O s a W){k:RK}{r:RE}(h:r.fits d s k=true):aX W d k (r.rv O):=by
 unfold RE.fits at h;split at h;rename_i e;simp only[ayb,decide_eq_true_eq] at h;rcases h with h|h;exact nZ R (by simp) h;unfold RE.isNil at h;split at h;exact yD none 0;cases h;simp only[decide_eq_true_eq] at h;exact nZ R (by simp) h;cases h
def UM{r:RE}(h:r.fits d s y=true)(X:cu d y (r.rv O) Z):r.kind d s=y/\y≠ .aq:=by
 unfold RE.fits at h;split at h;rename_i e;simp only[ayb,decide_eq_true_eq] at h;rcases h with h|h;exact⟨h,by simp⟩;unfold RE.isNil at h;split at h;simp only[RE.rv] at X;cases X with
 |deep e v rows i j R c z y Z U=>simp at U
 cases h;simp only[decide_eq_true_eq] at h;exact⟨h,by simp⟩;cases h
def CZ:∀{ab:List CT}{X:List SV},jx d s ab X=true->X.length=ab.length/\∀(j:Nat)(Z:CT)(v:SV),ab[j]?=some Z->X[j]?=some v->oS d s Z v=true
 |[],[],_=>⟨rfl,λj Z v h=>by simp at h⟩
 |[],_::_,h=>by simp[jx] at h
 |_::_,[],h=>by simp[jx] at h
 |c::L,v::J,h=>by
  simp only[jx,axI] at h;obtain⟨Q,N⟩:=CZ h.2;refine⟨by simp[Q],λj Z M U R=> ?_⟩;cases j with
  |zero=>simp at U R;subst U R;exact h.1
  |succ j=>exact N j Z M (by simpa using U) (by simpa using R)
def acS{Z:CT}{v:SV}(h:oS d s Z v=true):v.den O V=(v.bu O).val:=by
 unfold oS at h;split at h<;>first|rfl|cases h
structure NB(W:World)(d:Ty)(ab:List CT)(row:List RV):Prop where
 len:row.length=ab.length
 int:∀(j:Nat)(c:RV)(k:IntKind),row[j]?=some c->ab[j]?=some (.int k)->∃n,c.val=.int k n
 bool:∀(j:Nat)(c:RV),row[j]?=some c->ab[j]?=some .bool->∃x,c.val=.bool x
 aq:∀(j:Nat)(c:RV)(z:Value)(k:RK),row[j]?=some c->ab[j]?=some (.aq z k)->aX W d k c
def dF.of(h:∀(i:Nat)(Z:List RV),X[i]?=some Z->NB W d (ba d (.sl U)) Z):dF W d U X:=
 ⟨λi Z R=>(h i Z R).len,λi j Z c k R=>(h i Z R).int j c k,λi j Z c R=>(h i Z R).bool j c,λi j Z c z k R=>(h i Z R).aq j c z k⟩
def dF.get(h:dF W d U X)(R:X[Z]?=some x):NB W d (ba d (.sl U)) x:=
 ⟨h.len Z x R,λj c k=>h.int Z j x c k R,λj c=>h.bool Z j x c R,λj c z k=>h.aq Z j x c z k R⟩
def UN(R:ao f g D d V O s a W){ab:List CT}(h:jx d s ab N=true):NB W d ab (N.map (SV.bu O)):=by
 obtain⟨I,H⟩:=CZ h;have L:∀(j:Nat)(c:RV)(M:CT),(N.map (SV.bu O))[j]?=some c->ab[j]?=some M->∃v,oS d s M v=true/\c=v.bu O:=by
  intro j c M U Q;rw[axO] at U;cases J:N[j]? with
  |none=>rw[J] at U;cases U
  |some v=>rw[J] at U;simp at U;exact⟨v,H j M v Q J,U.symm⟩
 refine⟨by simpa using I,λj c k U Q=> ?_,λj c U Q=> ?_,λj c z k U Q=> ?_⟩;obtain⟨v,X,rfl⟩:=L j c _ U Q;unfold oS at X;split at X;rename_i Z;cases Z;simp at X;subst X;exact⟨_,rfl⟩;rename_i Z;cases Z;rename_i Z;cases Z;cases X;obtain⟨v,X,rfl⟩:=L j c _ U Q;unfold oS at X;split at X;rename_i Z;cases Z;exact⟨_,rfl⟩;rename_i Z;cases Z;cases X;obtain⟨v,X,rfl⟩:=L j c _ U Q;unfold oS at X;split at X;rename_i Z;cases Z;rename_i Z;cases Z;rename_i Z;cases Z;exact acR R X;cases X
def UO{ab:List CT}(h:jx d s ab N=true){j:Nat}{z:Value}(X:(N.map (SV.bu O))[j]?=some n)(L:ab[j]?=some (.aq z y))(Q:cu d y n Z):
  ∃r:RE,N[j]?=some (.ref r)/\r.kind d s=y/\y≠ .aq/\cu d y (r.rv O) Z:=by
 obtain⟨I,J⟩:=CZ h;rw[axO] at X;cases M:N[j]? with
 |none=>rw[M] at X;cases X
 |some v=>
  rw[M] at X;simp at X;subst X;have U:=J j _ v L M;unfold oS at U;split at U;rename_i R;cases R;rename_i R;cases R;rename_i r R;cases R;exact⟨r,rfl,(UM (O:=O) U Q).1,(UM (O:=O) U Q).2,Q⟩;cases U
def Ax:∀{ab:List CT}{l:List (List SV)},kb d s ab l=true->∀(i:Nat)(Z:List SV),l[i]?=some Z->jx d s ab Z=true
 |ab,[],_,i,Z,h=>by simp at h
 |ab,r::U,h,0,Z,X=>by simp only[kb,axI] at h;simp at X;subst X;exact h.1
 |ab,r::U,h,i+1,Z,X=>by simp only[kb,axI] at h;exact Ax h.2 i Z (by simpa using X)
def UP{X:List RK}(h:(i7 R 0 X)[Z]?=some (.own U)):X[Z]?=some (.own U)/\Z∉R:=by
 rw[FM] at h;cases N:X[Z]? with
 |none=>rw[N] at h;cases h
 |some x=>
  rw[N] at h;simp only[ayg,axR,axM] at h;cases x<;>simp[uh] at h
  case own t=>
   by_cases Q:Z∈R;simp[Q] at h;simp[Q] at h;exact⟨by rw[h],Q⟩
def acT{U:List RK}(h:(gr R 0 U)[Z]?=some y):(Z∈R/\y=.dead)\/(Z∉R/\U[Z]?=some y):=by
 rw[FL] at h;cases Q:U[Z]? with
 |none=>rw[Q] at h;cases h
 |some x=>
  rw[Q] at h;simp only[ayg,axR,axM] at h;by_cases X:Z∈R;simp[X] at h;exact .inl ⟨X,h.symm⟩;simp[X] at h;exact .inr ⟨X,by rw[h]⟩
structure FQ(W W':World)(e:TypeId)(w:Nat)(old:Option Nat)(rows:List (List RV))(A:Option Addr)(cap:Nat):Prop where
 le:rows.length<=cap
 nil:A=none->cap=0
 mem:cap=0\/∃b cur,A=some ⟨b,0,none⟩/\W'.heap[b]?=some (.cells cur e (0,0))/\cap<=maxLen/\cur.size=cap*w/\cur.toList.take (rows.length*w)=cM rows/\(W.heap.size<=b\/old=some b)
def yE(d:Ty)(V:List Nat)(O:aa)(s:S)(e:TypeId)(rows:List (List RV))(X:List Nat):Prop:=
 ∀b,kg d e rows b->O.mw d s.rs b/\(∀i,aD s.boxes i=true->ad V i≠b)/\∀(k:Nat)(t:TypeId)(Z:RV),s.rs[k]?=some (.own t)->O.r[k]?=some Z->Z.iN=some b->k∈X
def JG{Z:List RK}(h:s.bd=true)(X:Z.length=s.rs.length):({s with rs:=Z}:S).bd=true:=by
 simp only[S.bd,X] at h⊢;exact h
def ao.bind(R:ao f g D d V O s a W)(hb:s.bd=true){e:TypeId}{rows:List (List RV)}{kill frz:List Nat}{old:Option Nat}{W':World}{A:Option Addr}{cap:Nat}
  (hk:(kill=[]/\old=none)\/∃k t C,kill=[k]/\s.rs[k]?=some (.own t)/\O.r[k]?=some C/\old=C.iN)(a2:∀k∈kill,k∉frz)
  (w:W.grownBy W' old)(j:dF W d e rows)(v:yE d V O s e rows frz)(H:FQ W W' e (ba d (.sl e)).length old rows A cap):
  ao f g D d V (O.add (.r (.mk (.slice A rows.length cap) rows))) {s with rs:=i7 frz 0 (gr kill 0 s.rs)++[.own e]} a W'/\∀b,cu d (.sl e) (.mk (.slice A rows.length cap) rows) b->g.heap.size<=b\/b∈f\/O.mw d s.rs b:=by
 have G:∀b,old=some b->(g.heap.size<=b\/b∈f)/\b<W.heap.size/\(∀i,aD s.boxes i=true->ad V i≠b)/\(∀N M Q,N∉kill->s.rs[N]?=some M->O.r[N]?=some Q->¬uq d M Q b)/\¬kg d e rows b:=by
  intro b y;rcases hk with⟨_,z⟩|⟨k,t,C,rfl,Z,J,F⟩;rw[z] at y;cases y;rw[F] at y;have p:=R.bw k t C b Z J y;refine⟨p.own,p.lt,p.box,λN M Q hn=>p.alone N M Q (by simpa using hn),λL=> ?_⟩;exact a2 k (by simp) ((v b L).2.2 k t C Z J y)
 have R1:ao f g D d V O {s with rs:=gr kill 0 s.rs} a W':=by
  rcases hk with⟨rfl,rfl⟩|⟨k,t,C,rfl,Z,J,rfl⟩;have:gr [] 0 s.rs=s.rs:=by
   apply ayf;intro i;rw[FL];cases s.rs[i]?<;>simp
  rw[this];exact R.grown w;exact R.dq Z J w
 have R2:=R1.km (Nw frz _);have a3:dF W' d e rows:=j.world (λb L=>w.block b (j.lt L) (λh=>(G b h.symm).2.2.2.2 L)) w.size;have a4:aX W' d (.sl e) (.mk (.slice A rows.length cap) rows):=by
  rcases H.mem with z|⟨b,ac,rfl,Z,J,F,h4,X⟩;have U:=H.le;have:rows=[]:=ayd (by omega);subst this;exact yD A cap;refine UL a3 ⟨_,_,_,Z⟩ (λq u o=> ?_) H.le;rw[<-h4,ayi] at o;split at o;simp only[World.cell?,Z,ayg];simpa using o;cases o
 have af:∀b,uq d (.own e) (.mk (.slice A rows.length cap) rows) b->(W.heap.size<=b\/old=some b)\/kg d e rows b:=by
  intro b U;have an:∀B,A=some B->cap≠0->B.block=b->(W.heap.size<=b\/old=some b):=by
   intro B hA hc n;rcases H.mem with z|⟨E,ac,Z,_,_,_,_,X⟩;exact absurd z hc;rw[Z] at hA;cases hA;simp only at n;subst n;exact X
  rcases U with U|⟨-,U⟩;cases U with
  |own e C b U=>
   rcases acP U with⟨B,bf,bk,Z,rfl⟩|Z;simp only[Value.slice.injEq] at Z;exact .inl (an B Z.1 (by have:=H.le;omega) rfl);exact .inr Z
  simp only[RV.iN,RV.kf] at U;split at U;rename_i B l0 c0 Z;cases Z;simp at U;exact .inl (an B rfl (by omega) U);cases U
 have a5:∀{k:Nat}{M:RK},(i7 frz 0 (gr kill 0 s.rs))[k]?=some M->∃m,(gr kill 0 s.rs)[k]?=some m/\na m M:=λh=>(Nw frz _).get _ _ h
 constructor;refine R2.add (JG (JG hb (wm _ _ _)) (wn _ _ _)) (aX.own e _ a4 (λl c h=>by cases h;exact H.nil rfl)) (λb U i L=> ?_) (λk t Q b Z J F U=> ?_) (λt b ht a1=> ?_);rcases af b (.inl U) with(h|h)|h;have:=R.mem.lt L;omega;exact(G b h).2.2.1 i L;exact(v b h).2.1 i L;obtain⟨a6,a7⟩:=UP Z;rcases acT a6 with⟨_,h⟩|⟨a8,ag⟩;cases h;rcases af b U with(h|h)|h;have:=(R.bw k t Q b ag J F).lt;omega;exact(G b h).2.2.2.1 k _ Q a8 ag J (.inr ⟨⟨t,rfl⟩,F⟩);exact a7 ((v b h).2.2 k t Q ag J F);cases ht;have a9:cap≠0:=by
  intro h;subst h;simp[RV.iN] at a1
 rcases H.mem with z|⟨E,ac,rfl,Z,J,F,h4,X⟩;exact absurd z a9;have n:E=b:=by
  obtain⟨c',rfl⟩:∃c',cap=c'+1:=⟨cap-1,by omega⟩;simpa[RV.iN] using a1
 subst n;have bb:∀(N:Nat)(M:RK)(Q:RV),(gr kill 0 s.rs)[N]?=some M->O.r[N]?=some Q->¬uq d M Q E:=by
  intro N M Q g1 x I;rcases acT g1 with⟨_,rfl⟩|⟨hn,al⟩;rcases I with I|⟨⟨t,ht⟩,_⟩;cases I;cases ht;rcases X with X|X;rcases I with I|⟨⟨t,rfl⟩,I⟩;have:=(R.mem.ref N M Q al x).1.lt I;omega;have:=(R.bw N t Q E al x I).lt;omega;exact(G E X).2.2.2.1 N M Q hn al x I
 refine⟨?_,⟨rows.length,cap,ac,rfl,Z,H.le,J,F⟩,λi L=> ?_,λN M Q g1 x I=> ?_,λL=> ?_⟩;rcases X with X|X;exact .inl (ayt R.mem.base.size X);exact(G E X).1;rcases X with X|X;have:=R.mem.lt L;omega;exact(G E X).2.2.1 i L;obtain⟨m,g4,hw⟩:=a5 g1;exact bb N m Q g4 x (I.km hw);rcases X with X|X;have:=j.lt L;omega;exact(G E X).2.2.2.2 L;intro b U;rcases af b (.inl (cu.own _ _ _ U)) with(h|h)|h;exact .inl (ayt R.mem.base.size h);exact(G b h).1.imp id .inl;exact .inr (.inr (v b h).1)
end
end
section
section
variable{f:List Nat}{g:World}{D:bB}{P:Program}{d:Ty}{V:List Nat}{O:aa}{s:S}{a:Act}{W:World}
def jB(A:Option Addr)(Z:Nat):Option Nat:=match A,Z with
 |some a,_+1=>some a.block
 |_,_=>none
def JH(A:Option Addr)(n Z:Nat)(X:List (List RV)):(RV.mk (.slice A n Z) X).iN=jB A Z:=by
 cases A<;>cases Z<;>rfl
structure JI(W:World)(e:TypeId)(w:Nat)(A:Option Addr)(cap:Nat):Prop where
 nil:A=none->cap=0
 mem:cap=0\/∃b cur,A=some ⟨b,0,none⟩/\W.heap[b]?=some (.cells cur e (0,0))/\cap<=maxLen/\cur.size=cap*w
def UQ{N:Nat}{Q:Array Value}{t:TypeId}{M:Nat×Nat}(h:aX W d (.sl U) (.mk (.slice (some ⟨Z,0,none⟩) G N) X))(L:W.heap[Z]?=some (.cells Q t M)):
  Q.toList.take (X.length*(ba d (.sl U)).length)=cM X:=by
 have F:=wo (dF.ux h).len;have J:∀(q:Nat)(u:Value),(cM X)[q]?=some u->Q[q]?=some u:=by
  intro q u R;obtain⟨E,C,I,B,H⟩:=JC h q u R;cases I;simpa[World.cell?,L] using H
 apply ayf;intro q;rw[ayi];by_cases R:q<(cM X).length;rw[if_pos (by omega),axK R];simpa using J q _ (axK R);rw[if_neg (by omega),ax8 (by omega)]
def anl{t t2 tyR:TypeId}{M:TI}(an:cW P U M)(hw:M.ab.length≠0)(l:(ba d (.sl U)).length=M.ab.length)(C:P.underlying t=some (.slice U))(B:P.underlying t2=some (.slice U))
   {y:Option Addr}{Q cap2:Nat}(I:aX W d (.sl U) (.mk (.slice k Z G) X))(hr:JI W U M.ab.length k G)
  (g:L.length=Q)(a3:dF W d U L)(a4:∀(q:Nat)(u:Value),(cM L)[q]?=some u->∃w,y=some w/\W.cell? (w.add q)=some u)
  (b5:Z<=536870912)(b6:Q<=536870912):
  ∃A a5 f,(Builtin.append_ #[t,t2] tyR #[.slice k Z G,.slice y Q cap2]).run P W=.ok (.slice A (Z+Q) a5) f/\W.grownBy f (jB k G)/\FQ W f U M.ab.length (jB k G) (X++L) A a5:=by
 obtain⟨i,H,F,z,hz,a9⟩:=an.Fz;have bb:=an.bytes i H;have bd:z.cells.size=M.ab.length:=by rw[<-ayU,a9];simp
 obtain⟨co,b7⟩:=qW I;have bf:=dF.ux I;have a6:(cM X).length=Z*i.size:=by rw[wo bf.len,co,l,F]
 have ac:(cM L).length=Q*i.size:=by rw[wo a3.len,g,l,F]
 have af:(cM (X++L)).length=(Z+Q)*M.ab.length:=by rw[UK,axX,a6,ac,F,ayN]
 have r:(X++L).length=Z+Q:=by simp[co,g]
 have ag:∀N:World,(∀x,N.cell? x=W.cell? x)->(Builtin.firstCells i.size Q (.slice y Q cap2)).run P N=.ok (cM L).toArray N:=by
  intro N p;cases y with
  |none=>
   have:cM L=[]:=by
    cases hq:cM L with
    |nil=>rfl
    |cons x xs=>obtain⟨w,h,_⟩:=a4 0 x (by rw[hq];rfl);cases h
   rw[run_firstCells_none,this]
  |some a2=>
   refine run_firstCells_some N i.size Q a2 Q cap2 _ ac (λj v hj=> ?_);obtain⟨w,h,h'⟩:=a4 j v hj;cases h;rw[p];exact h'
 have bk:∀N:World,(∀x,N.cell? x=W.cell? x)->(Builtin.firstCells i.size Z (.slice k Z G)).run P N=.ok (cM X).toArray N:=by
  intro N p;cases k with
  |none=>
   have:cM X=[]:=by
    cases hq:cM X with
    |nil=>rfl
    |cons x xs=>obtain⟨b,br,h,_⟩:=JC I 0 x (by rw[hq];rfl);cases h
   rw[run_firstCells_none,this]
  |some o=>
   refine run_firstCells_some N i.size Z o Z G _ a6 (λj v hj=> ?_);obtain⟨b,br,h,_,h'⟩:=JC I j v hj;cases h;rw[p,sI];exact h'
 by_cases n:Z+Q<=G
 
 rcases ayW G with h0|h0;have e1:Z=0:=by omega
 have e2:Q=0:=by omega
 subst h0 e1 e2;have r1:X=[]:=ayd co;have r2:L=[]:=ayd g;subst r1 r2;refine⟨k,0,W, ?_,⟨rfl,rfl,rfl,axQ _,λ_ _ _=>rfl⟩,⟨axQ _,λ_=>rfl,.inl rfl⟩⟩;have J:=ag W (λ_=>rfl);have m:∀o:Addr,(storeCells o [] 0).run P W=.ok () W:=λ_=>rfl
 cases k with
 |none=>simp[Builtin.append_,run_underlying C,run_underlying B,Go.sizeOf,typeInfo,H,Builtin.lenOf,J,cM]
 |some o=>simp[Builtin.append_,run_underlying C,run_underlying B,Go.sizeOf,typeInfo,H,Builtin.lenOf,J,cM,m]
 rcases hr.mem with p|⟨b,E,rfl,hg,al,bs⟩;omega;have bt:Z*i.size+(cM L).length<=E.size:=by rw[ac,bs,<-ayN,F];exact ayX _ n
 have J:=ag W (λ_=>rfl);have m:=run_storeCells_at P b (Z*i.size) U (cM L) 0 E W hg (by simpa using bt) (λu hu=>acK (a3.single u hu));simp only[ay4] at m;have a7:jB (some ⟨b,0,none⟩) G=some b:=by cases G with
  |zero=>omega
  |succ c=>rfl
 refine⟨some ⟨b,0,none⟩,G,W.setRow b (E.toList.take (Z*i.size)++cM L++E.toList.drop (Z*i.size+(cM L).length)).toArray, ?_,⟨rfl,rfl,rfl,by simp[World.setRow],λR _ hk=>setRow_other W b R _ (λh=>hk (by rw[a7,h]))⟩,
  ⟨by rw[r];exact n,by simp,.inr ⟨b,_,rfl,setRow_heap W b E _ U _ hg,al, ?_, ?_,.inr a7⟩⟩⟩
 simp[Builtin.append_,run_underlying C,run_underlying B,Go.sizeOf,typeInfo,H,Builtin.lenOf,n,J,Addr.add_lit,m];simp only[ay6,axX,azj,ay9,ayU];omega;have a8:=UQ I hg;rw[co,l,<-F] at a8;rw[r,a8,<-UK,<-af];exact List.take_left
 
 have bx:Z+Q<=1073741824:=by omega
 have bX:(Z+Q)*i.bytes<=140737488355328:=by
  have:(Z+Q)*i.bytes<=1073741824*131072:=aA0 bx bb;omega
 have b8:=growslice_fits (show G<Z+Q by omega) bX;have b0:Z+Q<=maxLen:=by simp only[maxLen];omega
 have b1:=grownCap_ge W (Z+Q) G U;have al:=grownCap_le_maxLen W (Z+Q) G U b0;have J:=ag W.drew (λ_=>by simp);have b2:=bk W.drew (λ_=>by simp);have b3:¬(9223372036854775807<((Z:Int)+(Q:Int))):=by omega
 have b4:¬(281474976710656<Builtin.nextslicecap (Z+Q) G*i.bytes):=by omega
 refine⟨some ⟨W.heap.size,0,none⟩,grownCap W (Z+Q) G U,W.drew.alloc (.cells ((cM (X++L)).toArray++Builtin.zeroCells z.cells (grownCap W (Z+Q) G U-(Z+Q))) U), ?_,
  ⟨rfl,rfl,rfl,by simp,λR hk _=>Below.heap_alloc W.drew _ _ hk⟩,⟨by rw[r];exact b1,by simp,.inr ⟨W.heap.size,_,rfl,World.alloc_heap_new W.drew _,al, ?_, ?_,.inl (axQ _)⟩⟩⟩
 simp[Builtin.append_,run_underlying C,run_underlying B,Go.sizeOf,typeInfo,zeroValue,H,hz,Builtin.lenOf,n,b3,b4,Question.forced,J,b2,newRow,grownCap];congr 2;apply ayF;simp[azd,UK];simp only[Array.size_append,ay6,size_zeroCells,bd,af,<-ayN];congr 1;omega;simp only[Array.toList_append,r,<-af];exact List.take_left
end
end
variable{M:aa}{H:S}
section
structure bl(s:S)(O:aa)(V:List Nat)(s':S)(O':aa)(V':List Nat):Prop where
 ext:kj s.boxes O O' V V'
 mono:∀i,aD s.boxes i=true->aD s'.boxes i=true
 len:s.boxes.length<=s'.boxes.length
 av:s.av<=s'.av
def bl.refl(s:S)(O:aa)(V:List Nat):bl s O V s O V:=⟨kj.refl _ _ _,λ_ h=>h,axQ _,axQ _⟩
def bl.trans{s s' Z:S}{O X U:aa}{V R Q:List Nat}(h:bl s O V s' X R)(k:bl s' X R Z U Q):bl s O V Z U Q:=
 ⟨h.ext.trans k.ext h.mono,λi N=>k.mono i (h.mono i N),ayt h.len k.len,ayt h.av k.av⟩
def bl.put{s s':S}{Z:aa}{X:List Nat}(h:bl s M R s' Z X)(d:Option Nat)(v:SV):bl s M R (s'.put d v) Z X:=by
 cases d<;>exact⟨h.ext,h.mono,h.len,h.av⟩
def OR.gives(O:aa)(Z:S):OR->Prop
 |.ok x=>Z=x
 |.az b x=>b.den O=true/\Z=x
 |.split b X U=>Z=if b.den O then X else U
 |.no _=>False
def pf(P:Program)(o:Oper)(a:Act)(W:World)(v:Value)(Z:World):Prop:=
 (execOp a.eval o).run P W=.ok (.value v) Z\/((execOp a.eval o).run P W=.ok .skip Z/\v=undef)
def UR(h:dL H.boxes Z=true)(t:TypeId)(X:List SV)(d:Option Nat)(v:SV):bl H M R ((H.bN Z t X).put d v) M (R.set Z G):=by
 refine bl.put (s':=H.bN Z t X) ⟨acI h M R G,λi U=>(lO (jZ h).2).2 (.inr U),by simp[S.bN],by simp[S.bN]⟩ d v
def acU{X:List SV}(h:bF H.boxes Z=some (U,N))(d:Option Nat)(v:SV):bl H M R ((H.bN Z U X).put d v) M R:=by
 refine bl.put (s':=H.bN Z U X) ⟨kj.refl _ _ _,λi Q=>(lO (axJ.1 (gG.1 h)).1).2 (.inr Q),by simp[S.bN],by simp[S.bN]⟩ d v
def bl.lk{Z:S}{X:aa}{U:List Nat}(h:bl H M R Z X U)(n:Nat):bl H M R {Z with lk:=n} X U:=⟨h.ext,h.mono,h.len,h.av⟩
section
variable{g:List Nat}{u:World}{D:bB}{P:Program}{f:bh}{V:List Nat}{O:aa}{s:S}{a:Act}{W:World}
def ao.lk(R:ao g u D f.ty V O s a W)(n:Nat):ao g u D f.ty V O {s with lk:=n} a W:=⟨R.mem,R.dX,R.ei,R.eb,R.er,R.bY,R.size,R.tmps,R.bw⟩
def wq{X:S}{d:Option Nat}{r:PR}(h:(oT H d Z r).gives M X):∃v,r.gives M v/\X=H.bQ d v Z:=by
 cases r with
 |ok v=>exact⟨v,rfl,h⟩
 |az b v=>
  simp only[oT] at h;split at h;exact⟨v,⟨h.1,rfl⟩,h.2⟩;exact h.elim
 |no w=>exact h.elim
def acV(n:Nat)(l:List SV):(ss n l).length=n*l.length:=by
 induction n with
 |zero=>simp[ss]
 |succ n Z=>simp[ss,Z,ayN];omega
def US(l:List SV):∀(n k:Nat),k<n*l.length->(ss n l)[k]?=l[k%l.length]?
 |0,k,h=>by simp at h
 |n+1,k,h=>by
  have U:0<l.length:=by
   rcases ayW l.length with Z|Z;rw[Z] at h;simp at h;exact Z
  rw[ss];by_cases X:k<l.length;rw[axL X,Nat.mod_eq_of_lt X];rw[axP (by omega),US l n (k-l.length) (by rw[ayN] at h;omega)];congr 1;have:k=(k-l.length)+l.length:=by omega
  conv=>rhs;rw[this,Nat.add_mod_right]
def JJ(R:ao g u D f.ty V O s a W)(I:fK P f.ty)(J:dC f.gl O)(m:OM)(h:(dR f m s).gives O H):
  ∃v r V',pf P m.o a W v r/\ao g u D f.ty V' O H (a.put m.o.dst v) r/\bl s O V H O V':=by
 unfold dR at h;split at h;exact h.elim;rename_i X;have X:∀x∈m.o.op.operands.toList,(s.ev f.gl x).cR=false:=by
  intro x hx;cases hh:(s.ev f.gl x).cR;rfl;exact absurd (ayh.2 ⟨x,hx,hh⟩) X
 split at h
 
 rename_i t Z;split at h;rename_i n E;split at h;rename_i U;simp only[axI] at U;cases h;obtain⟨z,ac,af⟩:=FD (P:=P) (W:=W) (O:=O) (V:=V) (I _ _ E);have L:=R.alloc (o9 U.2) t (cA n) U.1;rw[qU (FJ U.2)] at L;have B:=jZ (o9 U.2);refine⟨.pointer (some ⟨W.heap.size,0,none⟩),W.alloc (.cells (SV.ap O V (cA n)).toArray t),V.set m.ix W.heap.size,.inl ?_, ?_,UR (o9 U.2) _ _ _ _⟩;rw[<-af];simp[execOp,Z,Instr.alloc,ac,newVar,newRow];have:=L.put m.o.dst (.loc m.ix 0);rw[SV.den,yC (by rw[R.dX];exact B.2)] at this;exact this;exact h.elim;exact h.elim
 
 rename_i t x Z;rw[Z] at X;have he:=bR R J x (X x (by simp[Op.operands]));split at h;rename_i n E;split at h;rename_i U;simp only[axI] at U;cases h;obtain⟨⟨⟨-,A⟩,j⟩,M⟩:=U;have ag:=Nt (O:=O) (V:=V) (qV R) j;have L:=R.alloc (o9 M) t (s.ev f.gl x).cells A;rw[qU (FJ M)] at L;have B:=jZ (o9 M);refine⟨.pointer (some ⟨W.heap.size,0,none⟩),W.alloc (.cells (SV.ap O V (s.ev f.gl x).cells).toArray t),V.set m.ix W.heap.size,.inl ?_, ?_,UR (o9 M) _ _ _ _⟩;rw[<-ag];simp[execOp,Z,Instr.box,newVar,newRow,he];have:=L.put m.o.dst (.loc m.ix 0);rw[SV.den,yC (by rw[R.dX];exact B.2)] at this;exact this;exact h.elim;exact h.elim
 
 rename_i t N parts Z;rw[Z] at X;have a2:(parts.map λ(i,x)=>(i,a.eval x)).toList=(parts.toList.map λp=>(p.1,s.ev f.gl p.2)).map λp=>(p.1,p.2.den O V):=by
  simp only[ayI,ayw];apply ax7;intro p hp;have:=bR R J p.2 (X p.2 (by simp[Op.operands];exact⟨p.1,by simpa using hp⟩));simp[this]
 split at h;rename_i e ab q E;split at h;rename_i Q al;split at h;rename_i l hf;split at h;rename_i U;simp only[axI,decide_eq_true_eq] at U;cases h;obtain⟨⟨A,j⟩,M⟩:=U;have hd:P.underlying t=some (.slice e):=(I _ _ E).desc;obtain⟨z,ac,af⟩:=FD (P:=P) (W:=W) (O:=O) (V:=V) (I _ _ al);have a3:=Jz (V:=V) (qV R) _ _ _ _ hf;have w:(cA Q).length=Q.ab.length:=by simp[cA]
 have hzero:((aAR (N*Q.ab.length)).map ((if N*Q.ab.length=0 then #[] else z.cells)[· %(if N*Q.ab.length=0 then #[] else z.cells).size]!))=(SV.ap O V (ss N (cA Q))).toArray:=by
  apply ayF;apply ayf;intro k;by_cases d:k<N*Q.ab.length;have a6:¬N*Q.ab.length=0:=by omega
  have a7:0<Q.ab.length:=by
   rcases ayW Q.ab.length with G|G;rw[G] at d;simp at d;exact G
  have a4:k%Q.ab.length<(SV.ap O V (cA Q)).length:=by rw[CR,w];exact azX _ a7
  simp only[a6,if_false,af,ayI,aAw,axO,ay7 d,axR,oY,US _ _ _ (by rw[w];exact d),w];rw[<-oY,axK a4];simp only[ay6,CR,w];rw[getElem!_pos _ _ (by simpa using a4)];simp;rw[ax8 (by simp;omega),ax8 (by simp[acV,w];omega)]
 have L:=R.alloc (o9 M) e l A;rw[qU (FJ M)] at L;have B:=jZ (o9 M);refine⟨.slice (some ⟨W.heap.size,0,none⟩) N N,W.alloc (.cells (SV.ap O V l).toArray e),V.set m.ix W.heap.size,.inl ?_, ?_,UR (o9 M) _ _ _ _⟩;have a5:¬N*Q.ab.length>2^24:=by omega
 by_cases G:N*Q.ab.length=0;simp only[if_pos G] at hzero;simp only[execOp,Z,Instr.buildSlice,Sem.run_bind,cW.eM hd,Result.andThen_ok,(I _ _ al).ki,a5,if_false,Sem.run_pure,if_pos G,a2];rw[hzero,a3];simp[newRow];simp only[if_neg G] at hzero;simp only[execOp,Z,Instr.buildSlice,Sem.run_bind,cW.eM hd,Result.andThen_ok,(I _ _ al).ki,a5,if_false,Sem.run_pure,if_neg G,a2,ac];rw[hzero,a3];simp[newRow];have:=L.put m.o.dst (.fy m.ix 0 N N);rw[SV.den,yC (by rw[R.dX];exact B.2)] at this;exact this;exact h.elim;exact h.elim;exact h.elim;exact h.elim
 
 rename_i t x y Z;rw[Z] at X;have an:=bR R J x (X x (by simp[Op.operands]));have a0:=bR R J y (X y (by simp[Op.operands]));split at h;rename_i n i a9 E hx;split at h;rename_i bt cs C;split at h;rename_i U;simp only[axI,beq_iff_eq,decide_eq_true_eq] at U;cases h;obtain⟨⟨⟨⟨A,j⟩,M⟩,h4⟩,-⟩:=U;have ag:=Nt (O:=O) (V:=V) (qV R) h4;obtain⟨C,a8⟩:=ut C;obtain⟨r,hr,L⟩:=R.store (I _ _ E) C a8 A j M ag;refine⟨undef,r,V,.inr ⟨?_,rfl⟩,L.put m.o.dst (.bm []),acU C _ _⟩;simp only[execOp,Z,an,a0,hx,SV.den,Sem.run_bind,hr,Result.andThen_ok,Sem.run_pure];exact h.elim;exact h.elim;exact h.elim
 
 rename_i c x y Z;rw[Z] at X;have a1:=bR R J c (X c (by simp[Op.operands]));have an:=bR R J x (X x (by simp[Op.operands]));have a0:=bR R J y (X y (by simp[Op.operands]));split at h;rename_i b C;simp only[OR.gives] at h;rw[C,SV.den] at a1;cases F:b.den O;simp only[F,ax3,if_false] at h;subst h;refine⟨_,W,V,.inl ?_,R.put _ _,(bl.refl _ _ _).put _ _⟩;simp[execOp,Z,a1,F,asBool,a0];simp only[F,if_true] at h;subst h;refine⟨_,W,V,.inl ?_,R.put _ _,(bl.refl _ _ _).put _ _⟩;simp[execOp,Z,a1,F,asBool,an];exact h.elim
 
 rename_i t x Z;obtain⟨v,F,rfl⟩:=wq h;exact⟨v.den O V,W,V,.inl (acF R I J m.o X (by rw[Z];exact F)),(R.lk _).put _ _,((bl.refl _ _ _).lk _).put _ _⟩
 
 obtain⟨v,F,rfl⟩:=wq h;exact⟨v.den O V,W,V,.inl (acF R I J m.o X F),(R.lk _).put _ _,((bl.refl _ _ _).lk _).put _ _⟩
def ao.room{g:List Nat}{u:World}{D:bB}{V:List Nat}{O:aa}{s:S}{a:Act}{W:World}(R:ao g u D f.ty V O s a W)(n:Nat):
  ao g u D f.ty (V++axW n 0) O (s.room n) a W/\bl s O V (s.room n) O (V++axW n 0):=by
 have Z:∀k,ad (V++axW n 0) k=ad V k:=by
  intro k;simp only[ad,axN];by_cases h:k<V.length;rw[axL h];rw[axP (by omega),ax8 (l:=V) (by omega),ayO];split<;>rfl
 have L:∀i,bF (s.boxes++axW n none) i=bF s.boxes i:=by
  intro i;simp only[bU];by_cases h:i<s.boxes.length;rw[axL h];rw[axP (by omega),ax8 (l:=s.boxes) (by omega),ayO];split;rename_i U;split at U<;>cases U;rfl
 have Q:∀i,aD (s.boxes++axW n none) i=aD s.boxes i:=λi=>by simp[aD,L]
 have I:=fl.refl O O.i.length O.b.length O.r.length;have J:∀v,SV.den O (V++axW n 0) v=v.den O V:=by
  intro v;have:ad (V++axW n 0)=ad V:=funext Z;exact Nk this v
 have B:∀l,SV.ap O (V++axW n 0) l=SV.ap O V l:=λl=>by simp only[lL];exact ax7 λv _=>J v
 refine⟨⟨⟨R.mem.base,λi X=> ?_,λi j X H=> ?_,λi t G h=> ?_,λk e N U M=> ?_⟩,by simp[S.room,R.dX],R.ei,R.eb,R.er,R.bY,R.size,λt F h=> ?_,λk e N b U M E=> ?_⟩,⟨⟨I,axQ _,axQ _,axQ _,λk _=>Z k⟩,λi X=> ?_,by simp[S.room],axQ _⟩⟩;rw[Z];exact R.mem.own i (by rw[<-Q];exact X);rw[Z,Z];exact R.mem.inj i j (by rw[<-Q];exact X) (by rw[<-Q];exact H);rw[Z,ace (funext Z)];exact R.mem.box i t G (by rw[<-L];exact h);refine⟨(R.mem.ref k e N U M).1,λb C i X=> ?_⟩;rw[Z];exact(R.mem.ref k e N U M).2 b C i (by rw[<-Q];exact X);rw[J];exact R.tmps t F h;have t:=R.bw k e N b U M E;exact⟨t.own,t.mem,λi X=>by rw[Z];exact t.box i (by rw[<-Q];exact X),t.alone,t.inner⟩;simp only[S.room];rw[Q];exact X
end
end
section
section
variable{f:List Nat}{g:World}{D:bB}{P:Program}{cf:bh}{V:List Nat}{O:aa}{s:S}{a:Act}{W:World}
def uy{d:Option Nat}{az:BE}{x:LE}{Z:List Nat}{b:BI}(h:gO s d az U y x R Z=some b):
  s.bd=true/\(∀y∈R,y∉Z)/\b=⟨az,U,x,({s with rs:=i7 Z 0 (gr R 0 s.rs)++[y]}:S).put d (.ref (.v s.rs.length))⟩:=by
 unfold gO at h;split at h;rename_i X;cases h;simp only[axI] at X;exact⟨X.1.1.1,λy Q=>by have:=axU.1 X.1.1.2 y Q;simpa using this,rfl⟩;cases h
def C0(X:ao f g D r V (O.add (.r n)) H a J)(U:O.r.length=Z)(d:Option Nat):ao f g D r V (O.add (.r n)) (H.put d (.ref (.v Z))) (a.put d n.val) J:=by
 have:=X.put d (.ref (.v Z));have e:SV.den (O.add (.r n)) V (.ref (.v Z))=n.val:=by subst U;simp[SV.den,RE.den,RE.rv,aa.rv,aa.add]
 rwa [e] at this
def Ay{rv:RV}(Z:List RK)(d:Option Nat)(v:SV):bl s O V (({s with rs:=Z}:S).put d v) (O.add (.r rv)) V:=
 bl.put (s:=s) (s':={s with rs:=Z}) ⟨pe _ _ _ _,λ_ h=>h,axQ _,axQ _⟩ d v
def NC{n:IE}(h:(E7 n).den O=true):n.den O<=536870912:=by
 unfold E7 at h;rw[yw] at h;simp only[eG,IE.den,E6] at h;exact of_decide_eq_true h
def FR(P:Program)(f:List Nat)(g:World)(D:bB)(X:Ty)(V:List Nat)(O:aa)(s:S)(a:Act)(W:World)(o:Oper)(b:BI):Prop:=
 ∃v U Z,pf P o a W v U/\CS X f g b.e b.x s.rs O Z/\ao f g D X V (O.add (.r Z)) b.s (a.put o.dst v) U/\bl s O V b.s (O.add (.r Z)) V
def ND(R:ao f g D cf.ty V O s a W)(h:s.rs[Z]?=some (.own U)):∃A n X,O.rv Z=.mk (.slice A n X) (O.rv Z).rows/\aX W cf.ty (.sl U) (.mk (.slice A n X) (O.rv Z).rows)/\JI W U (ba cf.ty (.sl U)).length A X:=by
 have Q:=Uy R h;have E:=qX R h;have L:=λb J=>R.bw Z U _ b h E J
 revert Q L;generalize O.rv Z=C;intro Q L;cases Q with
 |own U C Q H=>
  cases Q with
  |sl U A N X G B z y x J w=>
   refine⟨A,N,X,rfl,aX.sl U A N X G B z y x J w,λv=>H N X (by rw[v];rfl), ?_⟩;rcases ayW X with F|F;exact .inl F;right;cases A with
   |none=>have:=H N X rfl;omega
   |some I=>
    have u:(RV.mk (.slice (some I) N X) G).iN=some I.block:=by rw[JH];cases X with
     |zero=>omega
     |succ c=>rfl
    obtain⟨o,m,t,M,r,l,q,p⟩:=(L _ u).mem;simp only[RV.kf,Value.slice.injEq] at M;obtain⟨M,rfl,rfl⟩:=M;exact⟨I.block,t,M,r,q,p⟩
def anm(R:ao f g D cf.ty V O s a W){e:TypeId}{bc:Bool}{x:SV}{N:LE}{G:BE}{M:List Nat}(h:su s e bc x=some (N,G,M))(E:G.den O=true):
  ∃A n Z,x.den O V=.slice A n Z/\aX W cf.ty (.sl e) (.mk (.slice A n Z) (N.rows O))/\JI W e (ba cf.ty (.sl e)).length A Z/\n<=536870912/\
   ((M=[]/\jB A Z=none)\/∃k t L,M=[k]/\s.rs[k]?=some (.own t)/\O.r[k]?=some L/\jB A Z=L.iN)/\∀Q,yE cf.ty V O s e (N.rows O) Q:=by
 unfold su at h;split at h;rename_i k;split at h;rename_i C;cases h;have X:=C.1;obtain⟨A,n,Z,J,B,z⟩:=ND R X;have I:=NC E;refine⟨A,n,Z,by simp only[SV.den,RE.den,RE.rv];rw[J];rfl,by simpa[LE.rows,RE.rv] using B,z, ?_,.inr ⟨k,e,O.rv k,rfl,X,qX R X,by rw[J,JH]⟩,λQ b U=> ?_⟩;simp only[IE.den,RE.rv] at I;rw[J] at I;simp[lenOf] at I;omega;simp only[LE.rows,RE.rv] at U;have F:=FO (O:=O) (e0:=.own e) rfl U;refine⟨⟨k,_,X,F⟩,(R.mem.ref k _ _ X (qX R X)).2 b F,λu t L y w v=>(JF R y w v X rfl U).elim⟩;cases h;rename_i r q;split at h;rename_i H;cases h;unfold RE.isNil at H;split at H;refine⟨none,0,0,rfl,yD _ _,⟨λ_=>rfl,.inl rfl⟩,by omega,.inl ⟨rfl,rfl⟩,λQ b U=>(JE (by simpa[LE.rows] using U)).elim⟩;cases H;cases h;cases h;refine⟨_,0,0,rfl,yD _ _,⟨by simp,.inl rfl⟩,by omega,.inl ⟨rfl,rfl⟩,λQ b U=>(JE (by simpa[LE.rows] using U)).elim⟩;cases h
def NE{w:Nat}:∀{n:Nat}{l:List SV}{i:Nat}{Z:List SV},(gc w n l)[i]?=some Z->Z=(l.drop (i*w)).take w/\i<n
 |0,l,i,Z,h=>by simp[gc] at h
 |n+1,l,0,Z,h=>by simp[gc] at h;subst h;exact⟨by simp,by omega⟩
 |n+1,l,i+1,Z,h=>by
  simp only[gc,ayk] at h;obtain⟨X,U⟩:=NE h;refine⟨?_,by omega⟩;rw[X,azA];congr 2;rw[ayN];omega
def NF(w:Nat):∀(n:Nat)(l:List SV),(gc w n l).length=n
 |0,l=>rfl
 |n+1,l=>by simp[gc,NF w n]
def NG:∀{l:List SV}{r:RE}{k:Nat},SV.ref r∈l->r.root=some k->k∈SV.lF l
 |[],r,k,h,_=>by simp at h
 |x::X,r,k,h,Z=>by
  simp only[SV.lF,axS];rcases axT.1 h with rfl|h;left;simp[SV.T1,Z];right;exact NG h Z
def acW(R:ao f g D cf.ty V O s a W){l:List (List SV)}{frz:List Nat}(I:kb cf.ty s (ba cf.ty (.sl U)) l=true)(H:∀X∈l,∀(r:RE)(k:Nat),SV.ref r∈X->r.root=some k->k∈frz):
  yE cf.ty V O s U (l.map λX=>X.map (SV.bu O)) frz:=by
 intro b ⟨i,j,X,c,z,k,Z,G,F,E⟩;rw[axO] at Z;cases Q:l[i]? with
 |none=>rw[Q] at Z;cases Z
 |some N=>
  rw[Q] at Z;simp at Z;subst Z;obtain⟨r,C,M,L,J⟩:=UO (Ax I i N Q) G F E;obtain⟨B,A⟩:=FP R L M J;refine⟨B,A,λv t u y x w=> ?_⟩;have:=NA R y x w L M J;subst this;exact H N (ax4 Q) _ _ (ax4 C) rfl
def UT(R:ao f g D cf.ty V O s a W){l:List (List SV)}(Q:kb cf.ty s (ba cf.ty (.sl U)) l=true):dF W cf.ty U (l.map λX=>X.map (SV.bu O)):=by
 refine dF.of (λi X Z=> ?_);rw[axO] at Z;cases h:l[i]? with
 |none=>rw[h] at Z;cases Z
 |some N=>rw[h] at Z;simp at Z;subst Z;exact UN R (Ax Q i N h)
def UU(A:(ba cf.ty (.sl U)).length=Z)(H:kb cf.ty s (ba cf.ty (.sl U)) (gc Z G N)=true){q:Nat}{u:Value}(F:(∀(i:Nat)(R:List RV),((gc Z G N).map λR=>R.map (SV.bu O))[i]?=some R->R.length=Z))
  (h:(cM ((gc Z G N).map λR=>R.map (SV.bu O)))[q]?=some u):(SV.ap O V N)[q]?=some u:=by
 obtain⟨i,j,R,c,Q,M,rfl,rfl⟩:=FN F h;rw[axO] at Q;cases L:(gc Z G N)[i]? with
 |none=>rw[L] at Q;cases Q
 |some J=>
  rw[L] at Q;simp at Q;subst Q;rw[axO] at M;cases X:J[j]? with
  |none=>rw[X] at M;cases M
  |some v=>
   rw[X] at M;simp at M;subst M;obtain⟨z,E⟩:=CZ (Ax H i J L);have y:j<J.length:=(axJ.1 X).1;obtain⟨I,C⟩:∃I,(ba cf.ty (.sl U))[j]?=some I:=⟨_,axK (by omega)⟩;rw[oY];have B:=(NE L).1;have:N[i*Z+j]?=some v:=by
    rw[B,ayi] at X;split at X
    rwa [ayq] at X
    cases X
   rw[this];simp only[axR,axM];exact acS (E j I v C X)
def ann(R:ao f g D cf.ty V O s a W){e:TypeId}{N:TI}(af:cf.ty e=some N){y:SV}{M:LE}{l:BE}{j:List Nat}(h:nU cf.ty s e N y=some (M,l,j))(hn:l.den O=true):
  ∃A n X,y.den O V=.slice A n X/\(M.rows O).length=n/\dF W cf.ty e (M.rows O)/\(∀(q:Nat)(u:Value),(cM (M.rows O))[q]?=some u->∃d,A=some d/\W.cell? (d.add q)=some u)/\n<=536870912/\yE cf.ty V O s e (M.rows O) j:=by
 have C:ba cf.ty (.sl e)=N.ab:=by simp[ba,af]
 unfold nU at h;split at h;rename_i r;split at h;rename_i B;cases h;unfold RE.isNil at B;split at B;exact⟨none,0,0,rfl,rfl,dF.nil,λq u U=>by simp[LE.rows,cM] at U,by omega,λb Z=>(JE (by simpa[LE.rows] using Z)).elim⟩;cases B;split at h;rename_i L;cases h;have I:=nZ R (by simp) L;have H:=NC hn;simp only[IE.den] at H;have z:yE cf.ty V O s e (r.rv O).rows []:=by
  intro b Z;have c:cu cf.ty (.sl e) (r.rv O) b:=by rw[<-CY (r.rv O)];exact Nx Z
  obtain⟨q1,q2⟩:=FP R (by simp) L c;refine⟨q1,q2,λk' t x G k2 k3=> ?_⟩;have:=NA R G k2 k3 (by simp) L c;subst this;simp only[RE.kind,axN,G,ayo,RK.rd,RK.sl.injEq] at L;subst L;exact(JF R G k2 k3 G rfl Z).elim
 simp only[SV.den,RE.den,LE.rows];revert I H z;generalize r.rv O=x;intro I H z;have F:=dF.ux (v:=x.val) (rows:=x.rows) (by rw[CY];exact I);cases I with
 |sl e A Q X ag E h2 w hi Z ho=>
  refine⟨A,Q,X,rfl,E,F,λq u U=> ?_,by simp[lenOf] at H;omega,z⟩;obtain⟨b,p,g1,g2,g3⟩:=JC (aX.sl e A Q X ag E h2 w hi Z ho) q u U;exact⟨_,g1,by rw[sI];exact g3⟩
 cases h;rename_i i p Q X;split at h;rename_i bt cs Z;split at h;rename_i hc;cases h;simp only[axI,decide_eq_true_eq] at hc;obtain⟨⟨E,h2⟩,w⟩:=hc;have o:kb cf.ty s (ba cf.ty (.sl e)) (gc N.ab.length Q (sq cs p (Q*N.ab.length)))=true:=by rw[C];exact E
 have F:=UT R o;refine⟨some ⟨ad V i,p,none⟩,Q,X,rfl,by simp[LE.rows,NF],by simpa[LE.rows] using F,λq u U=> ?_,by simp[E6] at w;omega, ?_⟩;simp only[LE.rows] at U;have J:=UU (V:=V) (by rw[C]) o (λi ac m=>by rw[F.len i ac m,C]) U;refine⟨_,rfl, ?_⟩;rw[oY,sq,ayi] at J;split at J;rw[ayq,<-oY] at J;obtain⟨Z,al⟩:=ut Z;have:=R.mem.box i bt cs Z;rw[qU al] at this;rw[sI];simp[World.cell?,this,J];simp at J;refine acW R o (λac an r k m hk=> ?_);obtain⟨ii,a1⟩:=ayx an;have:=(NE a1).1;subst this;exact NG (ayL (ayP m)) hk;cases h;cases h;cases h
end
end
variable{I:Oper}{Q:Bool}{l:Operand}
section
section
variable{f:List Nat}{g:World}{D:bB}{P:Program}{d:bh}{V:List Nat}{O:aa}{s:S}{a:Act}{W:World}
def wt{x y:BE}(h:(qM x y).den O=true):x.den O=true/\y.den O=true:=by
 rw[Ut] at h;simpa using h
def uz{x y:IE}(h:(mj .leq x y).den O=true):x.den O<=y.den O:=by
 rw[yw] at h;simp only[eG] at h;exact of_decide_eq_true h
def ano(R:ao f g D d.ty V O s a W)(M:fK P d.ty)(hg:dC d.gl O){c:Call}(C:I.op=.call c)(B:c.callee=.builtin .append){dr:Bool}{b:BI}(h:cP d I Q dr s=some b)(hn:b.az.den O=true):
  FR P f g D d.ty V O s a W I b:=by
 unfold cP at h;simp only[C,B] at h;split at h;rename_i t w x y af L;split at h;rename_i e ab q N a8 q2 ht ag;split at h;rename_i v J;split at h;cases h;rename_i u;have he:e=N:=by by_cases Z:e=N;exact Z;exact absurd (.inl Z) u
 have al:v.ab.length≠0:=λZ=>u (.inr Z)
 subst he;split at h;rename_i X n1 a9 U n2 r n m;obtain⟨bv,an,rfl⟩:=uy h;obtain⟨a0,a1⟩:=wt hn;obtain⟨A1,l,c1,e1,H,g2,g3,g4,g5⟩:=anm (cf:=d) R n a0;obtain⟨A2,k,c2,N,j,i,k3,k4,k5⟩:=ann R J m a1;have G:(ba d.ty (.sl e)).length=v.ab.length:=by simp[ba,J]
 obtain⟨A,F,W',r1,r2,r3⟩:=anl (P:=P) (tyR:=I.type) (t:=t) (t2:=w) (cap2:=c2) (M _ _ J) al G (M _ _ ht).desc (M _ _ ag).desc H (by rw[<-G];exact g2) j i k3 g3 k4;have a2:(LE.jr X U).rows O=X.rows O++U.rows O:=rfl;have ac:(X.rows O++U.rows O).length=l+k:=by rw[axX,(qW H).1,j]
 have a3:yE d.ty V O s e (X.rows O++U.rows O) r:=λb hb=>(ani hb).elim (g5 r b) (k5 b)
 obtain⟨R',a4⟩:=R.bind bv (old:=jB A1 c1) g4 an r2 ((dF.ux H).jr i) a3 (by rw[G];exact r3);refine⟨.slice A (l+k) F,W',.mk (.slice A (X.rows O++U.rows O).length F) (X.rows O++U.rows O),.inl ?_,⟨⟨A,_,F,by rw[a2],rfl⟩,a4,λ_ _ _ _ h=>by cases h⟩, ?_,Ay _ _ _⟩;have ha:c.args.toList=[c.args.toList.getD 0 default,c.args.toList.getD 1 default]:=by
  have hl:c.args.toList.length=2:=by have:=congrArg azO L;simpa using this
  match c.args.toList,hl with
  |[p,q],_=>rfl
 have a5:∀z∈c.args.toList,a.eval z=(s.ev d.gl z).den O V:=by
  intro z E;refine bR R hg z ?_;have:s.ev d.gl z∈[x,y]:=by rw[<-L];exact List.mem_map_of_mem E
  rcases axT.1 this with Z|Z;rw[Z];cases x<;>first|rfl|(simp[su] at n)
  rw[ayY.1 Z];cases y<;>first|rfl|(simp[nU] at m)
 have a6:c.args.map a.eval= #[x.den O V,y.den O V]:=by
  apply ayF;rw[ayI];have:c.args.toList.map a.eval=(c.args.toList.map (s.ev d.gl)).map (SV.den O V):=by
   rw[ayw];exact ax7 λz E=>a5 z E
  rw[this,L];rfl
 have a7:c.argTypes= #[t,w]:=by apply ayF;rw[af]
 simp only[execOp,C,resolve,B,Sem.run_bind,Sem.run_pure,Result.andThen_ok,invoke,builtin,a6,a7,e1,N,r1];have:=C0 R' R.er I.dst;rw[RV.kf,ac] at this;rw[ac];exact this;cases h;cases h;cases h;cases h
def anp(Z:CT):((xX Z).bu O).val=m9 Z:=by cases Z<;>rfl
def anq(R:ao f g D d.ty V O s a W)(x:fK P d.ty)(hg:dC d.gl O){xm:Operand}(u:I.op=.makeSlice U l xm){dr:Bool}{b:BI}(h:cP d I Q dr s=some b)(hn:b.az.den O=true):
  FR P f g D d.ty V O s a W I b:=by
 unfold cP at h;simp only[u] at h;split at h;rename_i e ab q n m ht al an;split at h;rename_i Z F;split at h;rename_i hc;simp only[axI,bne_iff_ne,ne_eq] at hc;obtain⟨⟨a5,a6⟩,a7⟩:=hc;obtain⟨bv,b7,rfl⟩:=uy h;obtain⟨r,p⟩:=wt hn;have r:=uz r;have p:=NC p;simp only[IE.den] at r;obtain⟨N,E⟩:∃N:Nat,n.den O=(N:Int):=⟨(n.den O).toNat,by omega⟩;rw[E] at p;have a8:N<=536870912:=by omega
 have hw:(ba d.ty (.sl e)).length=Z.ab.length:=by simp[ba,F]
 have C:ba d.ty (.sl e)=Z.ab:=by simp[ba,F]
 have ac:=bR R hg l (by rw[al];rfl);have af:=bR R hg xm (by rw[an];rfl);have a9:m=n:=(IE.bn _ _ a5).symm;rw[al,SV.den,E] at ac;rw[an,SV.den,a9,E] at af;obtain⟨i,hi,bb,z,hz,a1⟩:=(x _ _ F).Fz;have bd:=(x _ _ F).bytes i hi;have a2:z.cells.size=Z.ab.length:=by rw[<-ayU,a1];simp
 have hf:kb d.ty s (ba d.ty (.sl e)) [cA Z]=true:=by rw[C];exact a6
 have bf:NB W d.ty (ba d.ty (.sl e)) ((cA Z).map (SV.bu O)):=UN R (Ax hf 0 _ rfl);have bk:(LE.mW n (cA Z)).rows O=axW N ((cA Z).map (SV.bu O)):=by simp[LE.rows,E]
 have H:dF W d.ty e (axW N ((cA Z).map (SV.bu O))):=dF.of (λi B L=>by
  rw[ayO] at L;split at L;cases L;exact bf;cases L)
 have br:yE d.ty V O s e (axW N ((cA Z).map (SV.bu O))) []:=by
  intro b ⟨i,j,B,c,z,k,J,M,X,hl⟩;rw[ayO] at J;split at J;cases J;exfalso;rw[axO,cA,axO] at M;rw[C] at X;rw[X] at M;simp only[axR,axM,xX,SV.bu,RE.rv] at M;subst M;cases hl with
  |deep e v bs i j B c z k b g1=>simp at g1
  |own e' b8 b hl=>
   have ag:=(CZ (Ax hf 0 _ rfl)).2 j _ (.ref (.k z)) (by rw[C];exact X) (by simp[cA,X,xX]);simp[oS,RE.fits] at ag
  |here e a0 bt bx bs=>
   have ag:=(CZ (Ax hf 0 _ rfl)).2 j _ (.ref (.k (.slice (some a0) (bt+1) bx))) (by rw[C];exact X) (by simp[cA,X,xX]);simp[oS,RE.fits,RE.kind,RE.isNil] at ag
  cases J
 have bX:(aAR (N*Z.ab.length)).map (z.cells[· %z.cells.size]!)=(cM (axW N ((cA Z).map (SV.bu O)))).toArray:=by
  apply ayF;apply ayf;intro q;have ca:(cM (axW N ((cA Z).map (SV.bu O)))).length=N*Z.ab.length:=by rw[wo H.len,hw];simp
  by_cases hq:q<N*Z.ab.length;have b0:0<Z.ab.length:=by omega
  have b1:q/Z.ab.length<N:=aAl (by rw[az6];exact hq);have hj:q%Z.ab.length<Z.ab.length:=azX _ b0;have a3:Z.ab[q%Z.ab.length]?=some Z.ab[q%Z.ab.length]:=axK hj;have J:(axW N ((cA Z).map (SV.bu O)))[q/Z.ab.length]?=some ((cA Z).map (SV.bu O)):=by rw[ayO,if_pos b1]
  have M:((cA Z).map (SV.bu O))[q%Z.ab.length]?=some ((xX Z.ab[q%Z.ab.length]).bu O):=by simp[cA,a3]
  have X:=JB (w:=Z.ab.length) (λi B L=>by rw[H.len i B L,hw]) J M;have b2:q/Z.ab.length*Z.ab.length+q%Z.ab.length=q:=by rw[az6];exact aAm q _
  rw[b2,anp] at X;simp only[ayI,aAw,axO,ay7 hq,axR,a2];rw[X];congr 1;have a4:q%Z.ab.length<z.cells.size:=by rw[a2];exact hj
  rw[getElem!_pos z.cells _ a4];have:z.cells.toList[q%Z.ab.length]?=some (m9 Z.ab[q%Z.ab.length]):=by rw[a1,axO,a3];rfl
  rw[azT,az1 a4] at this;simpa using this;rw[ax8 (by simp;omega),ax8 (by rw[azE];omega)]
 have b3:IntKind.i64.wrap (N:Int)=N:=IntWalk.i64_in _ (by omega);have cc:(i.bytes:Int)*N<=2^46:=by
  have:i.bytes*N<=131072*536870912:=aA0 bd a8;have M:((i.bytes*N:Nat):Int)<=((131072*536870912:Nat):Int):=Int.ofNat_le.2 this;simp only[Int.natCast_mul] at M;omega
 obtain⟨R',b4⟩:=R.bind bv (old:=none) (kill:=[]) (frz:=[]) (A:=some ⟨W.heap.size,0,none⟩) (cap:=N) (W':=W.alloc (.cells (cM (axW N ((cA Z).map (SV.bu O)))).toArray e)) (.inl ⟨rfl,rfl⟩) (by simp) (World.grownBy_alloc W _ none) H br
  ⟨by simp,by simp,by
   rcases ayW N with G|G;exact .inl G;exact .inr ⟨W.heap.size,_,rfl,World.alloc_heap_new W _,by simp only[maxLen];omega,by
    rw[ay6,wo H.len,hw];simp,by
    rw[azE,ay0];rw[wo H.len];exact axQ _,.inl (axQ _)⟩⟩
 refine⟨.slice (some ⟨W.heap.size,0,none⟩) N N,W.alloc (.cells (cM (axW N ((cA Z).map (SV.bu O)))).toArray e),.mk (.slice (some ⟨W.heap.size,0,none⟩) (axW N ((cA Z).map (SV.bu O))).length N) _,.inl ?_,⟨⟨_,_,_,by rw[bk],rfl⟩,b4,λ_ _ _ _ h=>by cases h⟩, ?_,Ay _ _ _⟩;have hd:P.underlying U=some (.slice e):=(x _ _ ht).desc;rw[<-bX];have c1:¬((N:Int)<0):=by omega
 have c2:¬((i.bytes:Int)*N>2^48):=by omega
 by_cases G:N*Z.ab.length=0;have b5:N=0:=by rcases Nat.mul_eq_zero.1 G with y|y;exact y;exact absurd y a7
 subst b5;have b6:IntKind.i64.wrap 0=0:=IntWalk.i64_in 0 (by omega);simp[execOp,u,ac,af,Instr.makeSlice,cW.eM hd,asInt,asIntOf,typeInfo,hi,b6,Go.sizeOf,newRow,askRoom];congr 2;apply ayF;simp[aAR];simp[execOp,u,ac,af,Instr.makeSlice,cW.eM hd,asInt,asIntOf,typeInfo,hi,b3,c1,Go.sizeOf,bb,G,zeroValue,hz,newRow];intro y;omega;have:=C0 R' R.er I.dst;rw[RV.kf] at this;simp only[List.length_replicate] at this⊢;exact this;cases h;cases h;cases h
def anr(R:ao f g D d.ty V O s a W)(G:fK P d.ty)(hg:dC d.gl O){parts:Array (Nat×Operand)}(B:I.op=.buildSlice U Z parts){dr:Bool}{b:BI}(h:cP d I Q dr s=some b):
  FR P f g D d.ty V O s a W I b:=by
 unfold cP at h;simp only[B] at h;split at h;cases h;split at h;rename_i e ab q ht;split at h;rename_i X F;split at h;rename_i l hf;split at h;rename_i n;simp only[axI,bne_iff_ne,ne_eq,beq_iff_eq,decide_eq_true_eq,ax0] at n;obtain⟨⟨⟨⟨⟨h1,h2⟩,h3⟩,h4⟩,h5⟩,h6⟩:=n;obtain⟨bv,an,rfl⟩:=uy h;have L:ba d.ty (.sl e)=X.ab:=by simp[ba,F]
 have y:kb d.ty s (ba d.ty (.sl e)) (gc X.ab.length Z l)=true:=by rw[L];exact h2
 have v:=UT R y;have a0:(LE.lit (gc X.ab.length Z l)).rows O=(gc X.ab.length Z l).map λN=>N.map (SV.bu O):=rfl
 have E:((gc X.ab.length Z l).map λN=>N.map (SV.bu O)).length=Z:=by simp[NF]
 have a1:=acW R y (frz:=SV.lF l) (λN a2 r k J u=>by
  obtain⟨ii,a3⟩:=ayx a2;have:=(NE a3).1;subst this;exact NG (ayL (ayP J)) u)
 have C:(cM ((gc X.ab.length Z l).map λN=>N.map (SV.bu O))).length=Z*X.ab.length:=by rw[wo (w:=X.ab.length) (λi N J=>by rw[v.len i N J,L]),E]
 have a4:cM ((gc X.ab.length Z l).map λN=>N.map (SV.bu O))=SV.ap O V l:=by
  apply ayf;intro k;by_cases u:k<Z*X.ab.length;have m:k<(cM ((gc X.ab.length Z l).map λN=>N.map (SV.bu O))).length:=by rw[C];exact u
  have:=UU (V:=V) (by rw[L]) y (λi N J=>by rw[v.len i N J,L]) (axK m);rw[this,axK m];rw[ax8 (by rw[C];omega),ax8 (by rw[CR,h1];omega)]
 have bb:Z<=536870912:=by simp only[E6] at h4;omega
 obtain⟨R',a5⟩:=R.bind bv (old:=none) (kill:=[]) (frz:=SV.lF l) (A:=some ⟨W.heap.size,0,none⟩) (cap:=Z) (W':=W.alloc (.cells (cM ((gc X.ab.length Z l).map λN=>N.map (SV.bu O))).toArray e)) (.inl ⟨rfl,rfl⟩) an (World.grownBy_alloc W _ none) v a1
  ⟨by rw[E];exact axQ _,by simp,by
   rcases ayW Z with M|M;exact .inl M;exact .inr ⟨W.heap.size,_,rfl,World.alloc_heap_new W _,by simp only[maxLen];omega,by
    rw[ay6,C,L],by
    rw[azE,ay0];rw[C,E,L];exact axQ _,.inl (axQ _)⟩⟩
 refine⟨.slice (some ⟨W.heap.size,0,none⟩) Z Z,W.alloc (.cells (cM ((gc X.ab.length Z l).map λN=>N.map (SV.bu O))).toArray e),.mk (.slice (some ⟨W.heap.size,0,none⟩) ((gc X.ab.length Z l).map λN=>N.map (SV.bu O)).length Z) _,.inl ?_,⟨⟨_,_,_,by rw[a0],rfl⟩,a5,λ_ _ _ _ h=>by cases h⟩, ?_,Ay _ _ _⟩;have j:P.underlying U=some (.slice e):=(G _ _ ht).desc;have c:(parts.map λ(i,x)=>(i,a.eval x)).toList=(parts.toList.map λp=>(p.1,s.ev d.gl p.2)).map λp=>(p.1,p.2.den O V):=by
  simp only[ayI,ayw];apply ax7;intro p hp;have:=bR R hg p.2 (by
   cases hh:(s.ev d.gl p.2).cR;rfl;exact absurd (ayh.2 ⟨p,hp,hh⟩) (by rw[h6];simp))
  simp[this]
 obtain⟨z,a6,a7⟩:=FD (P:=P) (W:=W) (O:=O) (V:=V) (G _ _ F);have ac:=Jz (V:=V) (qV R) _ _ _ _ hf;have H:(cA X).length=X.ab.length:=by simp[cA]
 have hzero:((aAR (Z*X.ab.length)).map ((if Z*X.ab.length=0 then #[] else z.cells)[· %(if Z*X.ab.length=0 then #[] else z.cells).size]!))=(SV.ap O V (ss Z (cA X))).toArray:=by
  apply ayF;apply ayf;intro k;by_cases af:k<Z*X.ab.length;have a8:¬Z*X.ab.length=0:=by omega
  have a9:0<X.ab.length:=Nat.pos_of_ne_zero h3;have ag:k%X.ab.length<(SV.ap O V (cA X)).length:=by rw[CR,H];exact azX _ a9
  simp only[a8,if_false,a7,ayI,aAw,axO,ay7 af,axR,oY,US _ _ _ (by rw[H];exact af),H];rw[<-oY,axK ag];simp only[ay6,CR,H];rw[getElem!_pos _ _ (by simpa using ag)];simp;rw[ax8 (by simp;omega),ax8 (by simp[acV,H];omega)]
 have al:¬Z*X.ab.length>2^24:=by omega
 rw[a4];by_cases M:Z*X.ab.length=0;simp only[if_pos M] at hzero;simp only[execOp,B,Instr.buildSlice,Sem.run_bind,cW.eM j,Result.andThen_ok,(G _ _ F).ki,al,if_false,Sem.run_pure,if_pos M,c];rw[hzero,ac];simp[newRow];simp only[if_neg M] at hzero;simp only[execOp,B,Instr.buildSlice,Sem.run_bind,cW.eM j,Result.andThen_ok,(G _ _ F).ki,al,if_false,Sem.run_pure,if_neg M,c,a6];rw[hzero,ac];simp[newRow];have:=C0 R' R.er I.dst;rw[RV.kf] at this;rw[E] at this⊢;exact this;cases h;cases h;cases h;cases h
end
end
section
section
variable{g:List Nat}{m:World}{D:bB}{P:Program}{d:bh}{V:List Nat}{O:aa}{s:S}{a:Act}{W:World}
def JK{h:Nat}(U:((X.take h).drop Z)[G]?=some x):X[Z+G]?=some x/\Z+G<h:=by
 rw[ayq,ayi] at U;split at U;exact⟨U,by assumption⟩;cases U
def ans{h:Nat}(R:kg r U ((X.take h).drop Z) G):kg r U X G:=by
 obtain⟨i,j,Q,c,z,k,N,M,L,J⟩:=R;exact⟨_,j,Q,c,z,k,(JK N).1,M,L,J⟩
def ant{l h:Nat}(Q:aX W r (.sl U) (.mk (.slice k Z G) X))(o:l<=h)(m:h<=Z):
  aX W r (.sl U) (.mk (.slice (if G=l then k else k.map (·.add (l*(ba r (.sl U)).length))) (h-l) (G-l)) ((X.take h).drop l)):=by
 obtain⟨J,g⟩:=qW Q;have I:((X.take h).drop l).length=h-l:=by simp[J];omega
 have H:=dF.ux Q;have N:dF W r U ((X.take h).drop l):=dF.of (λi R F=>H.get (JK F).1);by_cases E:l=h;have:(X.take h).drop l=[]:=ayd (by omega);rw[this,E,aAn];exact yD _ _;have f:l<h:=by omega
 have C:G≠l:=by omega
 rw[if_neg C];obtain⟨R,B⟩:∃R,X[l]?=some R:=⟨_,axK (by omega)⟩;cases Q with
 |sl U k d G X g1 g2 M hi hb ho=>
  obtain⟨-,b,L,rfl,z,-⟩:=M l R B;rw[<-I];simp only[axR,sI];refine UL N z (λq u y=> ?_) (by omega);obtain⟨i,j,x,c,w,v,rfl,rfl⟩:=FN N.len y;obtain⟨-,b',ac,t,-,p⟩:=M (l+i) x (JK w).1;cases t;have:=p j c v;rw[show L+l*(ba r (.sl U)).length+(i*(ba r (.sl U)).length+j)=L+(l+i)*(ba r (.sl U)).length+j by rw[ayN];omega];exact this
def UV(R:ao g m D d.ty V O s a W)(bv:s.bd=true){r:RE}(L:r.kind d.ty s=.sl U)(w:r.den O=.slice k Z G){l h:Nat}(v:l<=h)(u:h<=Z){J:Option Addr}{I:Nat}
  (N:J=if G=l then k else k.map (·.add (l*(ba d.ty (.sl U)).length)))(q:I=G-l):
  ao g m D d.ty V (O.add (.r (.mk (.slice J (h-l) I) (((r.rv O).rows.take h).drop l)))) {s with rs:=i7 r.root.toList 0 (gr [] 0 s.rs)++[.sl U]} a W/\
   (((r.rv O).rows.take h).drop l).length=h-l/\∀b,cu d.ty (.sl U) (.mk (.slice J (h-l) I) (((r.rv O).rows.take h).drop l)) b->m.heap.size<=b\/b∈g\/O.mw d.ty s.rs b:=by
 have H:=nZ R (by simp) L;have B:r.rv O=.mk (.slice k Z G) (r.rv O).rows:=by rw[<-w];exact(CY _).symm
 rw[B] at H;have p:=ant H v u;have F:∀b,cu d.ty (.sl U) (.mk (.slice J (h-l) I) (((r.rv O).rows.take h).drop l)) b->cu d.ty (.sl U) (r.rv O) b:=by
  intro b M;rw[B];rcases acP M with⟨o,al,c0,Q,rfl⟩|Q;simp only[Value.slice.injEq] at Q;obtain⟨Q,z,y⟩:=Q;obtain⟨E,rfl⟩:∃E,Z=E+1:=⟨Z-1,by omega⟩;rw[Q] at N;have j:G≠l:=by have:=(qW H).2;omega
  rw[if_neg j] at N;cases k with
  |none=>simp at N
  |some x=>
   simp only[axR,axM] at N;have:o.block=x.block:=by rw[N];unfold Addr.add;split<;>rfl
   rw[this];exact cu.here U x E G _
  exact Nx (ans Q)
 have f:gr [] 0 s.rs=s.rs:=by
  apply ayf;intro i;rw[FL];cases s.rs[i]?<;>simp
 rw[f];have c:=R.km (Nw r.root.toList s.rs);refine⟨?_,by have:=(qW H).1;simp;omega,λb M=>.inr (.inr (FP R (by simp) L (F b M)).1)⟩;refine c.add (JG bv (wn _ _ _)) (by rw[N,q];exact p) (λb M=>(FP R (by simp) L (F b M)).2) (λX t rv b Q z y C=> ?_) (λt b ht=>by cases ht);obtain⟨ac,af⟩:=UP Q;rcases C with C|⟨⟨t',ag⟩,_⟩;have:=NA R ac z y (by simp) L (F b C);subst this;exact af (by simp[RE.root]);cases ag
def JL{n:Int}(h:0<=n):∃N:Nat,n=(N:Int):=⟨n.toNat,by omega⟩
def anu(R:ao g m D d.ty V O s a W)(w:fK P d.ty)(hg:dC d.gl O){lo hi mx:Option Operand}(ho:I.op=.slice U l lo hi mx){dr:Bool}{b:BI}(h:cP d I Q dr s=some b)(hn:b.az.den O=true):
  FR P g m D d.ty V O s a W I b:=by
 unfold cP at h;simp only[ho] at h;split at h;cases h;have af:∀{y:Option Operand}{v:SV},y.map (s.ev d.gl)=some v->v≠ .any->y.map a.eval=some (v.den O V):=by
  intro y v hy X;cases y with
  |none=>cases hy
  |some z=>
   simp only[axR,axM] at hy⊢;rw[<-hy];exact bR R hg z (by rw[hy];cases v<;>first|rfl|exact absurd rfl X)
 have ag:∀{y:Option Operand},y.map (s.ev d.gl)=none->y.map a.eval=none:=by
  intro y hy;cases y with
  |none=>rfl
  |some z=>cases hy
 split at h
 
 rename_i e ab q r k1 k2 k M j i f;split at h;rename_i te E;split at h;rename_i hc;obtain⟨bv,a1,rfl⟩:=uy h;have J:=bR R hg l (by rw[M];rfl);rw[M,SV.den] at J;have hd:P.underlying U=some (.slice e):=(w _ _ k).desc;obtain⟨A,n,Z,X⟩:∃A n Z,r.den O=.slice A n Z:=by
  rcases hc with hc|hc;exact Jy R hc;unfold RE.isNil at hc;split at hc;exact⟨none,0,0,rfl⟩;cases hc
 obtain⟨R',ac⟩:=R.bind bv (old:=none) (kill:=[]) (frz:=[]) (rows:=[]) (e:=e) (A:=A) (cap:=0) (W':=W) (.inl ⟨rfl,rfl⟩) (by simp) ⟨rfl,rfl,rfl,axQ _,λ_ _ _=>rfl⟩ dF.nil (λb hb=>(JE hb).elim) ⟨by simp,λ_=>rfl,.inl rfl⟩;refine⟨.slice A 0 0,W,.mk (.slice A 0 0) [],.inl ?_,⟨⟨A,0,0,rfl,rfl⟩,ac,λ_ _ _ _ h=>by cases h⟩,C0 R' R.er I.dst,Ay _ _ _⟩;have u:=af j (by simp);have C:=af i (by simp);have B:=ag f;simp only[SV.den,IE.den] at u C;simp[execOp,ho,J,X,u,C,B,Instr.sliceAt,cW.eM hd,Instr.slice,Instr.sliceBounds,Instr.sliceBound,asIntOf,(w _ _ E).ki];cases h;cases h
 
 rename_i e ab q r ih il k M j i f;split at h;rename_i te E;split at h;rename_i G;obtain⟨bv,a1,rfl⟩:=uy h;obtain⟨N,a0⟩:=wt hn;obtain⟨a0,F⟩:=wt a0;have N:=uz N;have a0:=uz a0;have F:=uz F;have J:=bR R hg l (by rw[M];rfl);rw[M,SV.den] at J;have hd:P.underlying U=some (.slice e):=(w _ _ k).desc;obtain⟨A,n,Z,X⟩:=Jy R G;have al:lenOf (r.rv O).val=n:=by have:=X;unfold RE.den at this;rw[this];rfl
 simp only[IE.den,al] at N F;obtain⟨L,hL⟩:=JL N;obtain⟨H,hH⟩:=JL (show 0<=ih.den O by omega);have a2:n<=Z:=by
  have:=nZ R (by simp) G;rw[<-CY (r.rv O),show(r.rv O).val=.slice A n Z from X] at this;exact(qW this).2
 obtain⟨R',an,ac⟩:=UV R bv G X (l:=L) (h:=H) (by omega) (by omega) rfl rfl;have p:(LE.sub (.ref r) il ih).rows O=((r.rv O).rows.take H).drop L:=by simp[LE.rows,hL,hH]
 have hw:(ba d.ty (.sl e)).length=te.ab.length:=by simp[ba,E]
 refine⟨.slice (if Z=L then A else A.map (·.add (L*(ba d.ty (.sl e)).length))) (H-L) (Z-L),W,_,.inl ?_,⟨⟨_,_,_,by rw[p],by rw[p];exact an⟩,ac,λ_ _ _ _ h=>by cases h⟩,C0 R' R.er I.dst,Ay _ _ _⟩;have u:=ag j;have C:=af i (by simp);have B:=af f (by simp);simp only[SV.den,hL,hH] at C B;have c1:(H:Int)<=(Z:Int):=by omega
 have c2:(L:Int)<=(H:Int):=by omega
 simp[execOp,ho,J,X,u,C,B,Instr.sliceAt,cW.eM hd,Instr.slice,Instr.sliceBounds,Instr.sliceBound,asIntOf,(w _ _ E).ki,hw];simp[show H<=Z by omega,show L<=H by omega];cases h;cases h
 
 rename_i e ab q r ih k M j i f;split at h;rename_i te E;split at h;rename_i G;obtain⟨bv,a1,rfl⟩:=uy h;obtain⟨N,F⟩:=wt hn;have N:=uz N;have F:=uz F;have J:=bR R hg l (by rw[M];rfl);rw[M,SV.den] at J;have hd:P.underlying U=some (.slice e):=(w _ _ k).desc;obtain⟨A,n,Z,X⟩:=Jy R G;have al:lenOf (r.rv O).val=n:=by have:=X;unfold RE.den at this;rw[this];rfl
 simp only[IE.den,al] at N F;obtain⟨H,hH⟩:=JL N;have a2:n<=Z:=by
  have:=nZ R (by simp) G;rw[<-CY (r.rv O),show(r.rv O).val=.slice A n Z from X] at this;exact(qW this).2
 obtain⟨R',an,ac⟩:=UV R bv G X (l:=0) (h:=H) (by omega) (by omega) rfl rfl;have p:(LE.sub (.ref r) (.c 0) ih).rows O=((r.rv O).rows.take H).drop 0:=by simp[LE.rows,hH,IE.den]
 have hw:(ba d.ty (.sl e)).length=te.ab.length:=by simp[ba,E]
 refine⟨.slice (if Z=0 then A else A.map (·.add (0*(ba d.ty (.sl e)).length))) (H-0) (Z-0),W,_,.inl ?_,⟨⟨_,_,_,by rw[p],by rw[p];exact an⟩,ac,λ_ _ _ _ h=>by cases h⟩,C0 R' R.er I.dst,Ay _ _ _⟩;have u:=ag j;have C:=af i (by simp);have B:=ag f;simp only[SV.den,hH] at C;simp[execOp,ho,J,X,u,C,B,Instr.sliceAt,cW.eM hd,Instr.slice,Instr.sliceBounds,Instr.sliceBound,asIntOf,(w _ _ E).ki,hw];intro hh;omega;cases h;cases h
 
 rename_i e ab q r il k M j i f;split at h;rename_i te E;split at h;rename_i G;obtain⟨bv,a1,rfl⟩:=uy h;obtain⟨N,F⟩:=wt hn;have N:=uz N;have F:=uz F;have J:=bR R hg l (by rw[M];rfl);rw[M,SV.den] at J;have hd:P.underlying U=some (.slice e):=(w _ _ k).desc;obtain⟨A,n,Z,X⟩:=Jy R G;have al:lenOf (r.rv O).val=n:=by have:=X;unfold RE.den at this;rw[this];rfl
 simp only[IE.den,al] at N F;obtain⟨L,hL⟩:=JL N;have a2:n<=Z:=by
  have:=nZ R (by simp) G;rw[<-CY (r.rv O),show(r.rv O).val=.slice A n Z from X] at this;exact(qW this).2
 obtain⟨R',an,ac⟩:=UV R bv G X (l:=L) (h:=n) (by omega) (by omega) rfl rfl;have p:(LE.sub (.ref r) il (.len r)).rows O=((r.rv O).rows.take n).drop L:=by simp[LE.rows,hL,IE.den,al]
 have hw:(ba d.ty (.sl e)).length=te.ab.length:=by simp[ba,E]
 refine⟨.slice (if Z=L then A else A.map (·.add (L*(ba d.ty (.sl e)).length))) (n-L) (Z-L),W,_,.inl ?_,⟨⟨_,_,_,by rw[p],by rw[p];exact an⟩,ac,λ_ _ _ _ h=>by cases h⟩,C0 R' R.er I.dst,Ay _ _ _⟩;have u:=ag j;have C:=ag i;have B:=af f (by simp);simp only[SV.den,hL] at B;simp[execOp,ho,J,X,u,C,B,Instr.sliceAt,cW.eM hd,Instr.slice,Instr.sliceBounds,Instr.sliceBound,asIntOf,(w _ _ E).ki,hw];intro hh;omega;cases h;cases h;cases h
mutual
def UW{k n:Nat}(h:(O.rv n).val=(O.rv k).val):∀(v:SV),(v.jp k n).den O V=v.den O V
 |.int _ _|.bool _|.loc _ _|.fy _ _ _ _|.yl _|.any=>rfl
 |.ref (.v j)=>by
  simp only[SV.jp];split;rename_i Z;simp at Z;subst Z;simp only[SV.den,RE.den,RE.rv,h];rfl
 |.ref (.cell _ _ _ _)=>rfl
 |.ref (.k _)=>rfl
 |.el (.v j) w i o=>by
  simp only[SV.jp];split;rename_i Z;simp at Z;subst Z;simp only[SV.den,RE.den,RE.rv,h];rfl
 |.el (.cell _ _ _ _) _ _ _=>rfl
 |.el (.k _) _ _ _=>rfl
 |.agg l=>by simp only[SV.jp,SV.den,FT h l]
 |.bm l=>by simp only[SV.jp,SV.den,FT h l]
 |.fn f l=>by simp only[SV.jp,SV.den,FT h l]
 |.dV t x=>by simp only[SV.jp,SV.den,UW h x]
 |.mp _=>rfl
 |.dI e U X=>by simp only[SV.jp,SV.den,FT h X]
def FT{k n:Nat}(h:(O.rv n).val=(O.rv k).val):∀(l:List SV),SV.ap O V (SV.lG k n l)=SV.ap O V l
 |[]=>rfl
 |x::Z=>by simp only[SV.lG,SV.ap,UW h x,FT h Z]
end
def anv(v:SV):v.jp Z G=.any<->v=.any:=by
 cases v with
 |ref r=>cases r<;>simp[SV.jp]<;>split<;>simp
 |el r w i o=>cases r<;>simp[SV.jp]<;>split<;>simp
 |_=>simp[SV.jp]
def acX{k n:Nat}:∀(l:List SV)(i:Nat),(SV.lG k n l)[i]?=(l[i]?).map (SV.jp k n)
 |[],i=>by simp[SV.lG]
 |x::Z,0=>by simp[SV.lG]
 |x::Z,i+1=>by simp[SV.lG,acX Z i]
def acY{k n:Nat}:∀(l:List SV),(SV.lG k n l).length=l.length
 |[]=>rfl
 |x::Z=>by simp[SV.lG,acY Z]
def JM{k n:Nat}:∀(l:aY),(pM k n l).length=l.length
 |[]=>rfl
 |none::Z=>by simp[pM,JM Z]
 |some (t,X)::Z=>by simp[pM,JM Z]
def UX(k n:Nat)(x:TypeId×List SV):TypeId×List SV:=(x.1,if oO x.1 then x.2 else SV.lG k n x.2)
def NH{k n:Nat}:∀(l:aY)(i:Nat),bF (pM k n l) i=(bF l i).map (UX k n)
 |[],i=>by simp[pM,bU]
 |none::Z,0=>by simp[pM,bU]
 |some (t,X)::Z,0=>by simp[pM,bU,UX]
 |none::Z,i+1=>by have:=NH Z i (k:=k) (n:=n);simpa[pM,bU] using this
 |some (t,X)::Z,i+1=>by have:=NH Z i (k:=k) (n:=n);simpa[pM,bU] using this
def C1{k n:Nat}(l:aY)(i:Nat):aD (pM k n l) i=aD l i:=by simp[aD,NH]
def ao.jp{H:Ty}(R:ao g m D H V O s a W){k n:Nat}(h:(O.rv n).val=(O.rv k).val):ao g m D H V O (s.jp k n) a W:=by
 have F:(s.jp k n).boxes=pM k n s.boxes:=rfl;refine⟨⟨R.mem.base,λi U=>R.mem.own i (by rw[<-C1 (k:=k) (n:=n)];exact U),λi j U E=>R.mem.inj i j (by rw[<-C1 (k:=k) (n:=n)];exact U) (by rw[<-C1 (k:=k) (n:=n)];exact E),λi t z Z=> ?_,λM e L X J=> ?_⟩,
  by simp[S.jp,JM,R.dX],R.ei,R.eb,R.er,R.bY,by simp[S.jp,acY,R.size],λt y N=> ?_,λM e L b X J C=> ?_⟩
 rw[F,NH] at Z;cases Q:bF s.boxes i with
 |none=>rw[Q] at Z;cases Z
 |some x=>
  obtain⟨G,B⟩:=x;rw[Q] at Z;simp only[axR,UX,axM,azq] at Z;obtain⟨rfl,rfl⟩:=Z;have I:=R.mem.box i G B Q;cases A:oO G;simp only[ax3,if_false];rw[qU A] at I⊢;rw[FT h];exact I;simp only[if_true];exact I
 exact⟨(R.mem.ref M e L X J).1,λb Z i U=>(R.mem.ref M e L X J).2 b Z i (by rw[<-C1 (k:=k) (n:=n)];exact U)⟩;simp only[S.jp,acX] at N;cases Q:s.tmps[t]? with
 |none=>rw[Q] at N;cases N
 |some x=>
  rw[Q] at N;simp only[axR,axM] at N;subst N;rcases R.tmps t x Q with X|X;exact .inl ((anv x).2 X);right;rw[UW h];exact X
 have t:=R.bw M e L b X J C;exact⟨t.own,t.mem,λi U=>t.box i (by rw[<-C1 (k:=k) (n:=n)];exact U),t.alone,t.inner⟩
end
end
section
section
variable{g:List Nat}{p:World}{D:bB}{P:Program}{d:bh}{V:List Nat}{O:aa}{s:S}{a:Act}{W:World}
def acZ:∀(U Z:List RV)(X:Nat),(eU Z X U).length=Z.length
 |[],Z,X=>rfl
 |v::U,Z,X=>by rw[eU,acZ];simp
def NI:∀(X U:List RV)(Z j:Nat),Z+X.length<=U.length->(eU U Z X)[j]?=if Z<=j/\j<Z+X.length then X[j-Z]? else U[j]?
 |[],U,Z,j,_=>by simp[eU];intro Q R;omega
 |v::X,U,Z,j,h=>by
  simp only[ayu] at h;rw[eU,NI X _ (Z+1) j (by simp;omega)];by_cases Q:j=Z;subst Q;rw[if_neg (by omega),if_pos (by simp),azh (by omega)];simp;by_cases R:Z+1<=j/\j<Z+1+X.length;rw[if_pos R,if_pos (by simp;omega),show j-Z=(j-(Z+1))+1 by omega];simp;rw[if_neg R,if_neg (by simp;omega),ays (by omega)]
def ac0:∀(X l:List Value)(Z j:Nat),Z+X.length<=l.length->(uw l Z X)[j]?=if Z<=j/\j<Z+X.length then X[j-Z]? else l[j]?
 |[],l,Z,j,_=>by simp[uw];intro R U;omega
 |v::X,l,Z,j,h=>by
  simp only[ayu] at h;rw[uw,ac0 X _ (Z+1) j (by simp;omega)];by_cases R:j=Z;subst R;rw[if_neg (by omega),if_pos (by simp),azh (by omega)];simp;by_cases U:Z+1<=j/\j<Z+1+X.length;rw[if_pos U,if_pos (by simp;omega),show j-Z=(j-(Z+1))+1 by omega];simp;rw[if_neg U,if_neg (by simp;omega),ays (by omega)]
def FU{f:List RV->List RV}(h:(X.modify Z f)[G]?=some x):(G=Z/\∃U,X[Z]?=some U/\x=f U)\/(G≠Z/\X[G]?=some x):=by
 rw[aA5] at h;by_cases R:Z=G;subst R;simp only[if_true] at h;cases Q:X[Z]? with
 |none=>rw[Q] at h;cases h
 |some U=>rw[Q] at h;simp at h;exact .inl ⟨rfl,U,rfl,h.symm⟩
 simp only[R,if_false] at h;exact .inr ⟨λN=>R N.symm,by simpa using h⟩
def anw{w:Nat}{l:List Value}(U:∀(i:Nat)(Z:List RV),X[i]?=some Z->Z.length=w)(Q:l.length=X.length*w)(h:∀(i j:Nat)(Z:List RV)(c:RV),X[i]?=some Z->Z[j]?=some c->l[i*w+j]?=some c.val):l=cM X:=by
 apply ayf;intro q;by_cases N:q<(cM X).length;have R:=axK N;obtain⟨i,j,Z,c,M,L,J,I⟩:=FN U R;rw[R,I];subst J;exact h i j Z c M L;rw[ax8 (l:=cM X) (by omega),ax8];rw[Q,<-wo U];omega
def anx(R:ao g p D d.ty V O s a W)(cc:fK P d.ty)(hg:dC d.gl O){y:Operand}(ho:I.op=.store U l y){dr:Bool}{b:BI}(h:cP d I Q dr s=some b)(hn:b.az.den O=true):
  FR P g p D d.ty V O s a W I b:=by
 unfold cP at h;simp only[ho] at h;split at h;cases h;split at h;rename_i L k w i X ch hx;split at h;rename_i e hk;split at h;rename_i te cl;split at h;rename_i hc;simp only[axI,beq_iff_eq,decide_eq_true_eq] at hc;obtain⟨⟨⟨⟨cp,a3⟩,cv⟩,af⟩,cx⟩:=hc;cases hb:gO s none (qN i (.len (.v k))) e (.own e) (.set (.ref (.v k)) i X (s.ev d.gl y).cells) [k] (SV.lF (s.ev d.gl y).cells) with
 |none=>rw[hb] at h;cases h
 |some b0=>
  rw[hb] at h;simp only[axR,axM] at h;obtain⟨bv,cy,rfl⟩:=uy hb;subst h;have bs:ba d.ty (.sl e)=te.ab:=by simp[ba,cl]
  have B:(ba d.ty (.sl e)).length=w:=by rw[bs];exact cp
  obtain⟨A,n,F,g1,g2,g3⟩:=ND R hk;have a6:=qX R hk;simp only[qN] at hn;obtain⟨a4,ag⟩:=wt hn;have a4:=uz a4;rw[yw] at ag;simp only[eG,IE.den,RE.rv] at a4 ag;have ag:=of_decide_eq_true ag;rw[g1] at ag;simp only[RV.kf,lenOf] at ag;obtain⟨Z,hI⟩:=JL a4;have dx:Z<n:=by omega
  obtain⟨bt,bx⟩:=qW g2;have a1:=dF.ux g2;obtain⟨m,a2,hA,bX,cI,a5⟩:∃b a2,A=some ⟨b,0,none⟩/\W.heap[b]?=some (.cells a2 e (0,0))/\F<=maxLen/\a2.size=F*(ba d.ty (.sl e)).length:=by
   rcases g3.mem with h0|h0;omega;exact h0
  subst hA;have c0:jB (some ⟨m,0,none⟩) F=some m:=by cases F with
   |zero=>omega
   |succ c=>rfl
  have c1:s.ev d.gl y≠ .any:=by
   intro hy;rw[hy] at af a3;simp only[SV.cells,aAh] at a3;rw[<-a3] at af;cases hd:(te.ab.drop X).take 1 with
   |nil=>rw[hd] at af;simp[jx,SV.cells] at af
   |cons c cs=>rw[hd] at af;simp[jx,SV.cells,oS] at af
  have c2:=bR R hg y (by cases hh:s.ev d.gl y<;>first|rfl|exact absurd hh c1);have c3:=bR R hg l (by rw[hx];rfl);have c4:=Nt (O:=O) (V:=V) (qV R) cx;obtain⟨f1,f2⟩:=CZ af;have bi:(s.ev d.gl y).cells.length=L.ab.length:=a3;have dy:((te.ab.drop X).take L.ab.length).length=L.ab.length:=by simp;omega
  have b1:∀(j:Nat),j<L.ab.length->((te.ab.drop X).take L.ab.length)[j]?=(ba d.ty (.sl e))[X+j]?:=by
   intro j E;rw[ayi,if_pos E,ayq,bs]
  have b2:SV.ap O V (s.ev d.gl y).cells=((s.ev d.gl y).cells.map (SV.bu O)).map RV.val:=by
   apply ayf;intro j;rw[oY,axO,axO];cases hv:(s.ev d.gl y).cells[j]? with
   |none=>rfl
   |some v=>
    have E:j<L.ab.length:=by rw[<-bi];exact(axJ.1 hv).1
    obtain⟨ct,c5⟩:∃ct,((te.ab.drop X).take L.ab.length)[j]?=some ct:=⟨_,axK (by omega)⟩;simp only[axR];rw[acS (f2 j ct v c5 hv)]
  have al:=UN R af;have b3:(LE.set (.ref (.v k)) i X (s.ev d.gl y).cells).rows O=(O.rv k).rows.modify Z λN=>eU N X ((s.ev d.gl y).cells.map (SV.bu O)):=by simp[LE.rows,RE.rv,hI]
  have a7:((s.ev d.gl y).cells.map (SV.bu O)).length=L.ab.length:=by simp[bi]
  generalize c6:(s.ev d.gl y).cells.map (SV.bu O)=C at*;have a8:∀M:List RV,M.length=(ba d.ty (.sl e)).length->X+C.length<=M.length:=λM h0=>by rw[h0,B,a7];exact cv
  have a9:dF W d.ty e ((O.rv k).rows.modify Z λN=>eU N X C):=by
   refine dF.of (λJ N hr=> ?_);rcases FU hr with⟨rfl,M,G,rfl⟩|⟨bb,G⟩
   ·have q:=a1.get G;have c7:=a8 M q.len;refine⟨by rw[acZ];exact q.len,λj c kk f ac=> ?_,λj c f ac=> ?_,λj c z kk f ac=> ?_⟩
    all_goals
     rw[NI _ _ _ _ c7] at f;split at f;rename_i E;have bd:j-X<L.ab.length:=by omega
     have an:=b1 _ bd;rw[show X+(j-X)=j by omega,ac] at an
     first
      |exact al.int (j-X) c _ f an
      |exact al.bool (j-X) c f an
      |exact al.aq (j-X) c _ _ f an
     first
      |exact q.int j c _ f ac
      |exact q.bool j c f ac
      |exact q.aq j c _ _ f ac
   exact a1.get G
  have c8:yE d.ty V O s e ((O.rv k).rows.modify Z λN=>eU N X C) (SV.lF (s.ev d.gl y).cells):=by
   intro b ⟨J,j,N,c,z,kk,h1,H,h3,hl⟩;have elder:∀M,(O.rv k).rows[J]?=some M->M[j]?=some c->O.mw d.ty s.rs b/\(∀i,aD s.boxes i=true->ad V i≠b)/\∀(k':Nat)(U:TypeId)(rv:RV),s.rs[k']?=some (.own U)->O.r[k']?=some rv->rv.iN=some b->k'∈SV.lF (s.ev d.gl y).cells:=by
    intro M q1 q2;have hi:kg d.ty e (O.rv k).rows b:=⟨J,j,M,c,z,kk,q1,q2,h3,hl⟩;have b4:=FO (O:=O) (e0:=.own e) rfl hi;exact⟨⟨k,_,hk,b4⟩,(R.mem.ref k _ _ hk a6).2 b b4,λk' U rv q3 q4 q5=>(JF R q3 q4 q5 hk rfl hi).elim⟩
   rcases FU h1 with⟨rfl,M,G,rfl⟩|⟨bb,G⟩;rw[NI _ _ _ _ (a8 M (a1.len _ _ G))] at H;split at H;rename_i E;have bd:j-X<L.ab.length:=by omega
   have an:((te.ab.drop X).take L.ab.length)[j-X]?=some (.aq z kk):=(b1 _ bd).trans (by rw[show X+(j-X)=j by omega];exact h3);rw[<-c6] at H;obtain⟨r,q1,q2,q3,q4⟩:=UO af H an hl;obtain⟨p1,p2⟩:=FP R q3 q2 q4;refine⟨p1,p2,λk' U rv k1 k2 k3=> ?_⟩;have:=NA R k1 k2 k3 q3 q2 q4;subst this;exact NG (ax4 q1) rfl;exact elder M G H;exact elder N G H
  have bf:(SV.ap O V (s.ev d.gl y).cells).length=L.ab.length:=by simp[bi]
  have c9:Z*w+X+L.ab.length<=F*w:=by
   have:(Z+1)*w<=F*w:=ayX _ (by omega);rw[ayN] at this;omega
  obtain⟨W',r1,r2,r3,r4,r5,r6,r7⟩:=UI (P:=P) m (Z*w+X) e (SV.ap O V (s.ev d.gl y).cells) 0 a2 W bX (by rw[bf,a5,B];omega) (λu hu=>by
   rw[b2] at hu;obtain⟨c,dc,rfl⟩:=aya.1 hu;obtain⟨j,E⟩:=ayx dc;have dz:j<L.ab.length:=by rw[<-a7];exact(axJ.1 E).1
   obtain⟨ct,ac⟩:∃ct,((te.ab.drop X).take L.ab.length)[j]?=some ct:=⟨_,axK (by omega)⟩;cases ct with
   |int kk=>obtain⟨n',br⟩:=al.int j c kk E ac;rw[br];rfl
   |bool=>obtain⟨n',br⟩:=al.bool j c E ac;rw[br];rfl
   |aq z kk=>exact FC (al.aq j c z kk E ac))
  have a0:((O.rv k).rows.modify Z λN=>eU N X C).length=n:=by simp[bt]
  have b5:=UQ g2 bX;rw[bt,B] at b5;obtain⟨R',dd⟩:=R.bind bv (old:=some m) (kill:=[k]) (frz:=SV.lF (s.ev d.gl y).cells) (A:=some ⟨m,0,none⟩) (cap:=F) (W':=W') (.inr ⟨k,e,_,rfl,hk,a6,by rw[g1,JH,c0]⟩) cy
   ⟨r5,r6,r7,by omega,λq _ hq=>r3 q (λh=>hq (by rw[h]))⟩ a9 c8
   ⟨by rw[a0];exact bx,by simp,.inr ⟨m,_,rfl,r2,cI,by rw[B,ay6,UH,ayU,a5,B],by
    rw[a0,B];refine anw (w:=w) (λJ N hr=>by rw[a9.len J N hr,B]) ?_ (λJ j N c h1 H=> ?_);rw[a0,azj,azE,UH,ayU,a5,B];exact aAo (ayX _ bx);have dT:J<n:=by rw[<-a0];exact(axJ.1 h1).1
    have d0:j<w:=by rw[<-B,<-a9.len J N h1];exact(axJ.1 H).1
    have b6:J*w+j<n*w:=by
     have:(J+1)*w<=n*w:=ayX _ (by omega);rw[ayN] at this;omega
    rw[ayi,if_pos b6,azE,ay4,ac0 _ _ _ _ (by rw[bf,ayU,a5,B];exact c9),bf];have b7:∀M:List RV,(O.rv k).rows[J]?=some M->M[j]?=some c->a2.toList[J*w+j]?=some c.val:=by
     intro M q1 q2;have:=JB (w:=w) (λi N hr=>by rw[a1.len i N hr,B]) q1 q2;rw[<-b5,ayi,if_pos b6] at this;exact this
    rcases FU h1 with⟨rfl,M,G,rfl⟩|⟨bb,G⟩;rw[NI _ _ _ _ (a8 M (a1.len _ _ G)),a7] at H;by_cases E:X<=j/\j<X+L.ab.length;rw[if_pos E] at H;rw[if_pos (by omega),b2,show J*w+j-(J*w+X)=j-X by omega,axO,H];rfl;rw[if_neg E] at H;rw[if_neg (by omega)];exact b7 M G H;have df:¬(Z*w+X<=J*w+j/\J*w+j<Z*w+X+L.ab.length):=by
     rintro⟨q1,q2⟩;rcases aBe bb with d1|d2;have:(J+1)*w<=Z*w:=ayX _ (by omega);rw[ayN] at this;omega;have:(Z+1)*w<=J*w:=ayX _ (by omega);rw[ayN] at this;omega
    rw[if_neg df];exact b7 N G H,.inr rfl⟩⟩
  have dk:k<O.r.length:=(axJ.1 a6).1;have R2:=R'.jp (k:=k) (n:=s.rs.length) (by
   rw[<-R.er];have e1:(O.add (.r (.mk (.slice (some ⟨m,0,none⟩) ((O.rv k).rows.modify Z λN=>eU N X C).length F) ((O.rv k).rows.modify Z λN=>eU N X C)))).rv O.r.length=.mk (.slice (some ⟨m,0,none⟩) ((O.rv k).rows.modify Z λN=>eU N X C).length F) ((O.rv k).rows.modify Z λN=>eU N X C):=by simp[aa.rv,aa.add]
   have e2:(O.add (.r (.mk (.slice (some ⟨m,0,none⟩) ((O.rv k).rows.modify Z λN=>eU N X C).length F) ((O.rv k).rows.modify Z λN=>eU N X C)))).rv k=O.rv k:=by simp[aa.rv,aa.add,axL,dk]
   rw[e1,e2,RV.kf,a0];have:=congrArg RV.val g1;exact this.symm)
  refine⟨undef,W',_,.inr ⟨?_,rfl⟩,⟨⟨_,_,_,by rw[b3],by rw[b3]⟩,dd,λk' _ _ _ hx=>by
   cases hx;rw[RV.kf,a0];exact(congrArg RV.val g1).symm⟩,R2.put I.dst (.bm []), ?_⟩
  have dn:(O.rv k).val=.slice (some ⟨m,0,none⟩) n F:=by rw[g1];rfl
  have b8:((s.ev d.gl y).den O V).cells.toList=SV.ap O V (s.ev d.gl y).cells:=c4;have ds:((s.ev d.gl y).den O V).cells.size=L.ab.length:=by rw[<-ayU,b8];simp[bi]
  simp only[execOp,ho,c3,c2,hx,SV.den,RE.den,RE.rv,dn,kF,hI,ayE,ayg,Instr.storeAt,Instr.sureAddr,storeVar,Sem.run_bind,Sem.run_pure,Result.andThen_ok,(cc _ _ ch).ki,ds,b8,ne_eq,not_true_eq_false,if_false,r1];have ca:bl s O V ({s with rs:=i7 (SV.lF (s.ev d.gl y).cells) 0 (gr [k] 0 s.rs)++[.own e]}:S) _ V:=Ay (rv:=.mk (.slice (some ⟨m,0,none⟩) ((O.rv k).rows.modify Z λN=>eU N X C).length F) ((O.rv k).rows.modify Z λN=>eU N X C)) _ none (.bm []);refine bl.put (s:=s) (s':=(({s with rs:=i7 (SV.lF (s.ev d.gl y).cells) 0 (gr [k] 0 s.rs)++[.own e]}:S).put none (.ref (.v s.rs.length))).jp k s.rs.length) ⟨ca.ext,λq hq=> ?_,by simp[S.put,S.jp,JM],ca.av⟩ _ _;simp only[S.put,S.jp,C1];exact hq
 cases h;cases h;cases h;cases h
def UY(R:ao g p D d.ty V O s a W)(X:fK P d.ty)(U:dC d.gl O){L:Bool}{b:BI}(h:cP d I Q L s=some b)(N:b.az.den O=true):FR P g p D d.ty V O s a W I b:=by
 cases Z:I.op with
 |call c=>
  cases M:c.callee with
  |builtin J=>cases J with
   |append=>exact ano R X U Z M h N
   |_=>simp[cP,Z,M] at h
  |_=>simp[cP,Z,M] at h
 |makeSlice t n m=>exact anq R X U Z h N
 |buildSlice t H parts=>exact anr R X U Z h
 |slice t x G F E=>exact anu R X U Z h N
 |store t x y=>exact anx R X U Z h N
 |_=>simp[cP,Z] at h
end
end
variable{E:List Int}
section
section
variable{c:List Nat}{d:World}{D:bB}{P:Program}{f:bh}{V:List Nat}{O:aa}{s:S}{a:Act}{W:World}
def ac1{Z:Type}(l:List Z)(x y:Z):(l++[x]).set l.length y=l++[y]:=by
 induction l with
 |nil=>rfl
 |cons z U X=>simp[X]
def ao.ui(R:ao c d D f.ty V O s a W)(U:s.bd=true){t:TypeId}{Z:List SV}(I:SV.cq s.ni s.nb s.rs.length (aD s.boxes) Z=true):
  ao c d D f.ty (V++[W.heap.size]) O (s.ui (t,Z)) a (W.alloc (jY t (SV.cg O V Z)))/\bl s O V (s.ui (t,Z)) O (V++[W.heap.size]):=by
 obtain⟨H,v⟩:=R.room 1;have u:(s.room 1).boxes.length=s.boxes.length+1:=by simp[S.room]
 have G:dL (s.room 1).boxes s.boxes.length=true:=by simp[dL,S.room]
 have bv:(s.room 1).da Z=true:=by
  simp only[S.da,S.bd,axI] at U⊢;have Q:aD (s.room 1).boxes=aD s.boxes:=by
   funext i;simp only[aD,bU,S.room,azK];by_cases X:i<s.boxes.length;rw[axL X];rw[axP (by omega),ax8 (l:=s.boxes) (by omega)];cases F:i-s.boxes.length with
   |zero=>rfl
   |succ n=>rfl
  have E:∀N,SV.m5 s.ni s.nb s.rs.length N (s.boxes++[none])=SV.m5 s.ni s.nb s.rs.length N s.boxes:=by
   intro N;generalize s.boxes=l;induction l with
   |nil=>rfl
   |cons x r C=>cases x<;>simp[SV.m5,C]
  refine⟨⟨?_, ?_⟩,by rw[Q];exact I⟩;rw[Q];exact U.1;rw[Q];simp only[S.room,azK];rw[E];exact U.2
 have L:=H.alloc G t Z bv;have B:(V++axW 1 0).set s.boxes.length W.heap.size=V++[W.heap.size]:=by
  rw[<-R.dX,azK];exact ac1 _ _ _
 have A:SV.cg O (V++axW 1 0) Z=SV.cg O V Z:=by
  apply ace;funext k;simp only[ad,axN,azK];by_cases h:k<V.length;rw[axL h];rw[axP (by omega),ax8 (l:=V) (by omega)];cases F:k-V.length with
  |zero=>rfl
  |succ n=>rfl
 rw[B,A] at L;have z:({((s.room 1).bN s.boxes.length t Z) with lk:=s.lk}:S)=s.ui (t,Z):=by
  simp only[S.bN,S.room,S.ui,azK,ac1]
 have J:=L.lk s.lk;rw[z] at J;refine⟨J,⟨⟨fl.refl _ _ _ _,axQ _,axQ _,axQ _,λk y=> ?_⟩,λi X=> ?_,by simp[S.ui],axQ _⟩⟩;have:k<V.length:=by
  obtain⟨b,M⟩:=ax1.1 y;rw[R.dX];exact(axJ.1 (gG.1 M)).1
 simp[ad,axL this];obtain⟨b,M⟩:=ax1.1 X;have w:=(axJ.1 (gG.1 M)).1;simp only[aD,bU,S.ui,axL w] at X⊢;exact X
def ao.ac2(R:ao c d D f.ty V O s a W){cs':List SV}(Q:bF s.boxes Z=some (U,N)):
  ao c d D f.ty V O (s.bN Z U cs') a (W.putObj (ad V Z) (jY U (SV.cg O V cs'))):=by
 have C:=R.mem.box Z U N Q;have y:ad V Z<W.heap.size:=wl C;have B:Z<s.boxes.length:=(axJ.1 (gG.1 Q)).1;have L:aD s.boxes Z=true:=by simp[aD,Q]
 have J:∀j,aD (s.boxes.set Z (some (U,cs'))) j=true->aD s.boxes j=true:=λj X=>by
  rcases(lO B).1 X with rfl|h;exact L;exact h
 have I:∀b,b≠ad V Z->(W.putObj (ad V Z) (jY U (SV.cg O V cs'))).heap[b]?=W.heap[b]?:=λb h=>World.putObj_heap_other h
 refine⟨⟨⟨R.mem.base.os,R.mem.base.tape,R.mem.base.output,by simpa[World.putObj] using R.mem.base.size,λk H A=> ?_⟩,λj X=>R.mem.own j (J j X),λj k X H=>R.mem.inj j k (J j X) (J k H),λj M x X=> ?_,λk e G w v=> ?_⟩,by simpa[S.bN] using R.dX,R.ei,R.eb,R.er,R.bY.ane (λb o F u=> ?_),R.size,R.tmps,λk e G b r q p=> ?_⟩;have n:k≠ad V Z:=by
  rintro rfl;rcases R.mem.own Z L with h|h;omega;exact A h
 rw[I k n];exact R.mem.base.block k H A;by_cases E:j=Z;subst E;rw[S.bN,CW B] at X;simp only[axM,azq] at X;obtain⟨rfl,rfl⟩:=X;exact World.putObj_heap_same y;rw[S.bN,uv E] at X;rw[I _ (λh=>E (R.mem.inj j Z (by simp[aD,X]) L h))];exact R.mem.box j M x X;obtain⟨m,z⟩:=R.mem.ref k e G w v;exact⟨m.FI (λb Q=>I b (λh=>z b Q Z L h.symm)) (by simp[World.putObj]),λb Q j X=>z b Q j (J j X)⟩;rw[I b (λe=>by subst e;rw[C] at F;cases F;exact acH u _ _ rfl)];exact F;have t:=R.bw k e G b r q p;have M:=t.world (W':=W.putObj (ad V Z) (jY U (SV.cg O V cs'))) (I b (λh=>t.box Z L h.symm));exact⟨M.own,M.mem,λj X=>M.box j (J j X),M.alone,M.inner⟩
def ao.UZ(R:ao c d D f.ty V O s a W){i:Nat}{cs':List SV}(Z:bF s.boxes i=some (U,N))(_:∀X Q M,jY U (SV.cg O V N)≠ .cells X Q M):
  ao c d D f.ty V O (s.bN i U cs') a (W.putObj (ad V i) (jY U (SV.cg O V cs'))):=R.ac2 Z
def uA(L:List Int)(Z:Value×Value):List (Value×Value)->List (Value×Value)
 |[]=>[Z]
 |p::r=>if sH p.1=L then Z::r else p::uA L Z r
def ac3:∀{l:List (Value×Value)}{m:Nat}{p:Value×Value},dS m (l++[p])=dS m l++[⟨p.1,p.2,m+l.length⟩]
 |[],m,p=>by simp[dS]
 |x::r,m,p=>by
  simp only[axY,dS,ac3 (l:=r) (m:=m+1) (p:=p)];simp;omega
def ac4{L:List Int}{kv:Value×Value}:∀{l:List (Value×Value)}{m i:Nat},
  (kH L (dS m l) i=none/\uA L kv l=l++[kv])\/∃j v p,kH L (dS m l) i=some (i+j,v)/\(dS m l)[j]?=some ⟨p.1,p.2,m+j⟩/\p∈l/\sH p.1=L/\(uA L kv l).length=l.length/\dS m (uA L kv l)=(dS m l).modify j λe=>{e with key:=kv.1,val:=kv.2}
 |[],m,i=>.inl ⟨rfl,rfl⟩
 |p::r,m,i=>by
  simp only[dS,kH,uA];by_cases h:sH p.1=L;right;rw[if_pos h,if_pos h];exact⟨0,p.2,p,rfl,rfl,by simp,h,by simp,by simp[dS]⟩;rw[if_neg h,if_neg h];rcases ac4 (l:=r) (m:=m+1) (i:=i+1) with⟨Z,X⟩|⟨j,v,U,Z,X,R,Q,N,M⟩;exact .inl ⟨Z,by rw[X];rfl⟩;refine .inr ⟨j+1,v,U,by rw[Z];congr 2;omega,by simp only[ayk,X];congr 2;omega,by simp[R],Q,by simp[N], ?_⟩;simp only[dS,M,List.modify_succ_cons]
def anz(U:Bool)(l:List Int):Instr.sameBits 10000 (ek U l) (ek U l)=true:=by
 cases U;simp[ek,Instr.sameBits];show Instr.sameBits (9999+1) (.agg _) (.agg _)=true;simp only[Instr.sameBits,beq_self_eq_true,azy,axU];intro p N;have:p.1=p.2/\∃x,p.1=.int .i64 x:=by
  have M:∀(m:List Value)(q:Value×Value),q∈m.zip m->q.1=q.2/\q.1∈m:=by
   intro m;induction m with
   |nil=>intro q Z;cases Z
   |cons y J Q=>
    intro q Z;simp only[azJ,axT] at Z;rcases Z with rfl|Z;exact⟨rfl,by simp⟩;exact⟨(Q q Z).1,by simp[(Q q Z).2]⟩
  obtain⟨R,X⟩:=M _ p N;simp only[aya] at X;obtain⟨x,-,L⟩:=X;exact⟨R,x,L.symm⟩
 obtain⟨R,x,X⟩:=this;rw[<-R,X];simp[Instr.sameBits]
def ac5{k e:TypeId}(z:P.underlying U=some (.map k e))(I:pV P k Z Q){l:List (Value×Value)}(H:W.heap[G]?=some (mu l))(y:E.length=Z)
  (F:∀p∈l,∃X:List Int,X.length=Z/\p.1=ek Q X)(v:Value):
  (Instr.mapUpdate U (.map (some G)) (ek Q E) v).run P W=.ok () (W.putObj G (mu (uA E (ek Q E,v) l))):=by
 have r:∀x∈dS 0 l,∃X:List Int,X.length=Z/\x.key=ek Q X:=λx q=>by
  obtain⟨p,R,N⟩:=UD q;obtain⟨X,J,M⟩:=F p R;exact⟨X,J,N.trans M⟩
 obtain⟨h,g⟩:=I.2 E (dS 0 l) W y r;have f:=MapKept.run_getObj_map (P:=P) (w:=W) H;have C:=λo=>MapKept.run_setObj_map (P:=P) (w:=W) o H
 simp only[Instr.mapUpdate,Sem.run_bind,cW.eM z,Result.andThen_ok,f,h,g];rcases ac4 (L:=E) (kv:=(ek Q E,v)) (l:=l) (m:=0) (i:=0) with⟨R,N⟩|⟨j,u,p,R,N,J,M,d,c⟩;rw[R,N];simp only[C,World.putObj,mu,ac3];simp;rw[R];obtain⟨X,q1,B⟩:=F p J;have hl:X=E:=by
  rw[B,UB (λe=>q1.trans (I.1 e))] at M;exact M
 subst hl;have A:(((dS 0 l).toArray[0+j]?).map (·.key)).getD (ek Q X)=ek Q X:=by
  simp[N,B]
 simp only[ayg] at A⊢;simp only[A,Instr.keyThatStays,anz,if_true,Sem.run_pure,Result.andThen_ok,Sem.run_bind,C,World.putObj,mu,c,d];simp
end
end
variable{i:Act}{b:OM}{h:SV}
section
def pW(O:aa)(Z:Fx):Prop:=∀x∈Z,x.1.den O=x.2
def NJ{U:Fx}(h:pW M U){b:BE}(Z:I9 U b=some Q):b.den M=Q:=by
 unfold I9 at Z;split at Z;cases Z;simp[BE.den];cases X:U.find? (λx=>x.1.same b) with
 |none=>rw[X] at Z;cases Z
 |some x=>
  rw[X] at Z;cases Z;have R:=az0 X;rw[<-BE.bn _ _ R];exact h x (azm X)
def ac6{X:Fx}(h:pW M X){b:BE}(U:b.den M=Q):pW M ((b,Q)::X):=by
 intro x Z;rcases axT.1 Z with rfl|Z;exact U;exact h x Z
def C2{D:bB}{W:World}{X:aa}{V:List Nat}{U:Fx}(Z:ao R J D r V M H i W)(N:fl M X M.i.length M.b.length M.r.length)(h:pW M U):pW X (lH H U):=by
 intro x L;obtain⟨I,Q⟩:=ayr.1 L;rw[<-Z.ei,<-Z.eb,<-Z.er] at Q;rw[BE.cB N _ Q];exact h x I
section
variable{f:bh}
def ao.drew{g:List Nat}{w:World}{D:bB}{V:List Nat}{O:aa}{s:S}{a:Act}{W:World}(R:ao g w D f.ty V O s a W):ao g w D f.ty V O s a {W with drawn:=W.drawn+1}:=
 ⟨⟨R.mem.base.drew,R.mem.own,R.mem.inj,R.mem.box,λk e Z X U=>⟨(R.mem.ref k e Z X U).1.FI (λ_ _=>rfl) (axQ _),(R.mem.ref k e Z X U).2⟩⟩,R.dX,R.ei,R.eb,R.er,R.bY.world (λ_ _ h _=>h),R.size,R.tmps,λk e Z b X U Q=>(R.bw k e Z b X U Q).world rfl⟩
end
section
variable{g:List Nat}{w:World}{D:bB}{P:Program}{f:bh}{V:List Nat}{O:aa}{s:S}{a:Act}{W:World}
def ao.ac7(R:ao g w D f.ty V O s a W)(U:s.bd=true)(j:Int):ao g w D f.ty V (O.add (.i j)) {s with ni:=s.ni+1} a W:=by
 obtain⟨Q,N⟩:=R.uu U;have X:=pe s.boxes O (.i j) V;refine⟨⟨R.mem.base,R.mem.own,R.mem.inj,λi t M h=> ?_,R.mem.ref⟩,R.dX,by simp[aa.add,R.ei],R.eb,R.er,R.bY,R.size,λt L h=> ?_,λk e J b Z I H=> ?_⟩;rw[X.cg (o8 N h)];exact R.mem.box i t M h;rcases R.tmps t L h with Z|Z;exact .inl Z;right;rw[X.den (qT Q h)];exact Z;have t:=R.bw k e J b Z I H;exact⟨t.own,t.mem,t.box,t.alone,t.inner⟩
def ao.ac8(R:ao g w D f.ty V O s a W)(U:s.bd=true){X:Sh}(Q:aX W f.ty (.mr X) n):ao g w D f.ty V (O.add (.r n)) {s with rs:=s.rs++[.mr X]} a W:=
 R.add U Q (λb Z=>by cases Z) (λk e L b _ _ _ Z=>by
  rcases Z with Z|⟨⟨t,N⟩,_⟩;cases Z;cases N) (λe b M=>by cases M)
def ac9{Q:Sh}(h:∀Z∈X,CU f.ty Q Z)(M:∀c∈ba f.ty (.mr Q),jT c=true):aX W f.ty (.mr Q) (.mk (.slice none X.length X.length) X):=by
 refine aX.mr Q X (λi Z U=>(h Z (ax4 U)).len) (λi j Z c k U N R=>(h Z (ax4 U)).int j c k N R) (λi j Z c U N R=>(h Z (ax4 U)).bool j c N R) (λi j Z c z k U N R=> ?_);have:=M _ (ax4 R);simp[jT] at this
def U0{n:Nat}{Z x:List RV}:∀{X:List (List RV)},x∈eK n Z X->x=Z\/x∈X
 |[],h=>by simp[eK] at h;exact .inl h
 |r::U,h=>by
  simp only[eK] at h;split at h;rcases axT.1 h with h|h;exact .inl h;exact .inr (by simp[h]);rcases axT.1 h with h|h;exact .inr (by simp[h]);rcases U0 h with h|h;exact .inl h;exact .inr (by simp[h])
def ada{n:Nat}{Z:List RV}:∀{rows:List (List RV)},(∀r∈rows,i8 n ((Z.take n).map λc=>bg c.val) r=false)->eK n Z rows=rows++[Z]
 |[],_=>rfl
 |r::X,h=>by
  simp only[eK];rw[if_neg (by rw[h r (by simp)];simp),ada (rows:=X) (λx U=>h x (ayV _ U))];rfl
def adb{n:Nat}{Z va:Bool}(U:Z=false->n=1){X:List RV}(N:Au n X){L:List Int}(R:(X.take n).map (λc=>bg c.val)=L):∀{Q:List (List RV)},(∀r∈Q,Au n r)->
  uA L (qS n Z va X) (Q.map (qS n Z va))=(eK n X Q).map (qS n Z va)
 |[],_=>rfl
 |r::A,h=>by
  obtain⟨l,J,I,H⟩:=JA (ag:=Z) U (h r (by simp));have z:L.length=n:=by
   obtain⟨y,G,F⟩:=N;rw[<-R,F];simpa using G
  have E:i8 n L r=decide (l=L):=by
   simp only[i8,H];rw[ay0 (by omega)]
  simp only[axV,uA,eK,R,E];have C:sH (qS n Z va r).1=l:=by
   simp only[qS,I];exact UB (λe=>J.trans (U e))
  rw[C];by_cases M:l=L;simp[M];simp only[M,if_false,decide_false,ax3,axV];rw[adb U N R λx B=>h x (by simp[B])]
def anA(t:TypeId):(Instr.makeMap t none).run P W=.ok (.map (some W.heap.size)) (W.alloc (.map #[] 0)):=by
 simp[Instr.makeMap]
def anB(R:ao g w D f.ty V O s a W)(J:b.o.op=.makeMap U none)(h:MS f b.o.dst s U=some H):
  ∃v Q N,pf P b.o a W v Q/\ao g w D f.ty N O H (a.put b.o.dst v) Q/\bl s O V H O N:=by
 unfold MS at h;split at h;rename_i k e n Z ab q C;split at h;rename_i X B;split at h;rename_i M;simp only[axI] at M;cases h;have I:SV.cq s.ni s.nb s.rs.length (aD s.boxes) (Cz X n Z).2=true:=by
  unfold Cz;split<;>simp[SV.fa,SV.aK,RE.aK,IE.aK,BE.aK]
 obtain⟨L,G⟩:=R.ui M.1 (t:=(Cz X n Z).1) I;have F:jY (Cz X n Z).1 (SV.cg O V (Cz X n Z).2)=.map #[] 0:=by
  unfold Cz;split;rw[Av];simp[RE.rv,mu,dS];rw[Aw];simp[SV.ap,yt,mu,dS]
 rw[F] at L;refine⟨.map (some W.heap.size),W.alloc (.map #[] 0),V++[W.heap.size],.inl ?_, ?_,G.put _ _⟩;simp[execOp,J,anA];have:=L.put b.o.dst (.mp s.boxes.length);have E:ad (V++[W.heap.size]) s.boxes.length=W.heap.size:=by simp[ad,<-R.dX]
 rw[SV.den,E] at this;exact this;cases h;cases h;cases h
def NK{e:TypeId}{X:TI}{r:RE}(h:CA f s U e Z Q X N=some r):
  N=[.ref r,.int .i64 (.c (Z:Int)),.bool (.c Q),.bool (.c X.d.isAgg)]/\r.mX f.ty s ⟨U,e,Z,Q,X.d.isAgg⟩=true/\X.ab.all jT=true:=by
 unfold CA at h;split at h;split at h;rename_i R;simp only[axI,beq_iff_eq] at R;cases h;obtain⟨⟨⟨⟨M,rfl⟩,rfl⟩,rfl⟩,L⟩:=R;exact⟨rfl,M,L⟩;cases h;cases h
def adc{n:Nat}{U:Bool}{Z:SV}{x y z:IE}(h:Cr n U Z=some (x,y,z)):Z.cells.map (SV.bu O)=([x.den O,y.den O,z.den O].take n).map λu=>.mk (.int .i64 u) []:=by
 unfold Cr at h;split at h<;>first|(cases h;done)|(split at h<;>first|(cases h;done)|skip)
 all_goals
  rename_i X;cases h;simp only[axI,beq_iff_eq] at X;obtain⟨rfl,-⟩:=X;simp[SV.cells,SV.bu]
def U4:∀{ab:List CT}{l:List SV},jx f.ty s ab l=true->ab.all jT=true->l.length=ab.length/\(∀(j:Nat)(k:IntKind),ab[j]?=some (.int k)->∃x,(l.map (SV.bu O))[j]?=some (.mk (.int k x) []))/\(∀(j:Nat),ab[j]?=some .bool->∃x,(l.map (SV.bu O))[j]?=some (.mk (.bool x) []))/\(l.map (SV.bu O)).map RV.val=SV.ap O V l
 |[],[],_,_=>⟨rfl,λj k h=>by simp at h,λj h=>by simp at h,rfl⟩
 |[],_::_,h,_=>by simp[jx] at h
 |_::_,[],h,_=>by simp[jx] at h
 |c::ab,v::l,h,U=>by
  simp only[jx,axI] at h;simp only[azx,axI] at U;obtain⟨Q,N,M,L⟩:=U4 (ab:=ab) (l:=l) h.2 U.2;have X:=h.1;unfold oS at X;split at X;rename_i k J e;have:k=J:=of_decide_eq_true X;subst this;refine⟨by simp[Q],λj R Z=> ?_,λj Z=> ?_,by simp[SV.ap,SV.bu,SV.den,L]⟩;cases j with
  |zero=>simp at Z;subst Z;exact⟨e.den O,rfl⟩
  |succ j=>simpa using N j R (by simpa using Z)
  cases j with
  |zero=>simp at Z
  |succ j=>simpa using M j (by simpa using Z)
  rename_i b;refine⟨by simp[Q],λj R Z=> ?_,λj Z=> ?_,by simp[SV.ap,SV.bu,SV.den,L]⟩;cases j with
  |zero=>simp at Z
  |succ j=>simpa using N j R (by simpa using Z)
  cases j with
  |zero=>exact⟨b.den O,rfl⟩
  |succ j=>simpa using M j (by simpa using Z)
  simp[jT] at U;cases X
def anC{e:TypeId}{N:TI}(w:oQ f.ty U Z Q=true)(t:f.ty e=some N)(r:N.ab.all jT=true){v:SV}{x y z:IE}(J:Cr Z Q h=some (x,y,z))(q:jx f.ty s N.ab v.cells=true):
  CU f.ty ⟨U,e,Z,Q,N.d.isAgg⟩ ((h.cells++v.cells).map (SV.bu O)):=by
 obtain⟨p,I,H,G⟩:=FE (va:=N.d.isAgg) w t;obtain⟨o,m,l,-⟩:=U4 (O:=O) (V:=[]) q r;have i:=(UC (O:=O) (V:=[]) J).2;have F:=adc (O:=O) J;have E:(h.cells.map (SV.bu O)).length=Z:=by rw[F];simpa using i
 have C:∀(j:Nat),((h.cells++v.cells).map (SV.bu O))[j]?=if j<Z then(h.cells.map (SV.bu O))[j]? else(v.cells.map (SV.bu O))[j-Z]?:=by
  intro j;rw[aze,aAp,E]
 have B:∀(j:Nat),(ba f.ty (.mr ⟨U,e,Z,Q,N.d.isAgg⟩))[j]?=if j<Z then p[j]? else N.ab[j-Z]?:=by
  intro j;rw[I,aAp,H]
 refine⟨?_,λj c g X R=> ?_,λj c X R=> ?_⟩;rw[I,ayA,axX,axX,H,o];simp at E;omega;rw[C] at X;rw[B] at R;split at X;rename_i M;rw[if_pos M] at R;have:=G _ (ax4 R);cases this;rw[F,axO] at X;cases A:([x.den O,y.den O,z.den O].take Z)[j]? with
 |none=>rw[A] at X;cases X
 |some u=>rw[A] at X;cases X;exact⟨u,rfl⟩
 rename_i M;rw[if_neg M] at R;obtain⟨u,L⟩:=m _ g R;rw[L] at X;cases X;exact⟨u,rfl⟩;rw[C] at X;rw[B] at R;split at X;rename_i M;rw[if_pos M] at R;have:=G _ (ax4 R);cases this;rename_i M;rw[if_neg M] at R;obtain⟨u,L⟩:=l _ R;rw[L] at X;cases X;exact⟨u,rfl⟩
def anD{e:TypeId}{X:Bool}{R:TI}(M:oQ f.ty U Z Q=true)(L:f.ty e=some R)(J:R.ab.all jT=true):∀c∈ba f.ty (.mr ⟨U,e,Z,Q,X⟩),jT c=true:=by
 obtain⟨G,I,F,H⟩:=FE (va:=X) M L;intro c N;rw[I] at N;rcases axS.1 N with h|h;rw[H c h];rfl;exact axU.1 J c h
def anE(W:World)(b:Nat)(o:Obj):ChangeMaps.setBlock W b o=W.putObj b o:=rfl
def MR.anF(g:List Nat)(w:World)(D:bB)(X:Ty)(V:List Nat)(O:aa)(s:S)(a:Act)(U:World):MR->Prop
 |.ok Z=>ao g w D X V O Z a U/\bl s O V Z O V
 |.rows _ x Z=>ao g w D X V (O.add (.r (eI x O))) Z a U/\bl s O V Z (O.add (.r (eI x O))) V
def NL(R:ao g w D f.ty V O s a W)(af:fK P f.ty){d:Option Nat}{t:TypeId}{mv X v:SV}{r:MR}(h:MQ f d s t mv X v=some r):
  ∃W',(Instr.mapUpdate t (mv.den O V) (X.den O V) (v.den O V)).run P W=.ok () W'/\r.anF g w D f.ty V O s (a.put d undef) W':=by
 unfold MQ at h;split at h;rename_i k e n U ab q i ht;have hd:P.underlying t=some (.map k e):=(af _ _ ht).desc;have F:pV P k n U:=(af _ _ ht).key k e n U rfl;split at h;rename_i Q xa xb xc bt J I g2 E;have bb:=af _ _ I;split at h;cases h;rename_i a2;simp only[ayb,ax0,not_or,azc] at a2;obtain⟨⟨C,bv⟩,bd⟩:=a2;simp only[S.da,axI] at bv;obtain⟨hb,bv⟩:=bv;obtain⟨a3,al⟩:=UC (O:=O) (V:=V) g2;have B:=R.mem.box i bt J E;have bf:=Nr (O:=O) (V:=V) (qV R) bd;split at h;rename_i cQ;simp only[beq_iff_eq] at cQ;subst cQ;split at h;rename_i N bk;split at h;rename_i a4;cases h;obtain⟨rfl,c1,c5⟩:=NK bk;rw[Av] at B;have a5:=CV R c1;have a6:∀M∈(N.rv O).rows,Au n M:=λM H=>FF C I (a5 M H)
 have an:=ac5 (P:=P) hd F B al (λp hp=>by
  obtain⟨M,H,rfl⟩:=aya.1 hp;obtain⟨l,q1,q2,-⟩:=JA F.1 (a6 M H);exact⟨l,q1,q2⟩) (v.den O V)
 have a0:=anC (O:=O) (s:=s) C I c5 g2 a4;have a7:=adc (O:=O) g2;have b7:(X.cells.map (SV.bu O)).length=n:=by rw[a7];simpa using al
 have br:((X.cells++v.cells).map (SV.bu O)).take n=X.cells.map (SV.bu O):=by
  rw[aze,azQ (by omega),ay0 (by omega)]
 have bs:((X.cells++v.cells).map (SV.bu O)).drop n=v.cells.map (SV.bu O):=by
  rw[aze,aAs (by omega),aAS (by omega)];rfl
 have hL:(((X.cells++v.cells).map (SV.bu O)).take n).map (λc=>bg c.val)=[xa.den O,xb.den O,xc.den O].take n:=by
  rw[br,a7];simp[bg]
 obtain⟨f1,-,-,f4⟩:=U4 (O:=O) (V:=V) a4 c5;have bx:qS n U Q.d.isAgg ((X.cells++v.cells).map (SV.bu O))=(ek U ([xa.den O,xb.den O,xc.den O].take n),v.den O V):=by
  obtain⟨l,q1,q2,q3⟩:=JA (ag:=U) F.1 (FF C I a0);have hl:l=[xa.den O,xb.den O,xc.den O].take n:=by rw[<-q3,hL]
  have bX:m8 Q.d.isAgg (v.cells.map (SV.bu O))=v.den O V:=by
   rw[bf,m8,f4];cases ha:Q.d.isAgg;have b0:v.cells.length=1:=by rw[f1];exact wj bb ha
   obtain⟨u,hu⟩:=aye.1 b0;simp only[ax3,if_false];rw[<-f4,hu];rfl;rfl
  simp only[qS,q2,hl,bs,bX]
 have ac:=adb (va:=Q.d.isAgg) F.1 (FF C I a0) hL a6;rw[bx] at ac;have hh:aX W f.ty (.mr ⟨k,e,n,U,Q.d.isAgg⟩) (eI (.ins (.ref N) n (X.cells++v.cells)) O):=by
  refine ac9 (λM a8=> ?_) (anD C I c5);simp only[LE.rows] at a8;rcases U0 a8 with rfl|h;exact a0;exact a5 M h
 have R1:=R.ac8 hb hh;have a1:∀A z o,jY qK (SV.cg (O.add (.r (eI (.ins (.ref N) n (X.cells++v.cells)) O))) V [.ref N,.int .i64 (.c (n:Int)),.bool (.c U),.bool (.c Q.d.isAgg)])≠ .cells A z o:=by
  intro A z o m;rw[Av] at m;cases m
 have b:=R1.UZ (cs':=[.ref (.v s.rs.length),.int .i64 (.c (n:Int)),.bool (.c U),.bool (.c Q.d.isAgg)]) (i:=i) E a1;have b1:(RE.v s.rs.length).rv (O.add (.r (eI (.ins (.ref N) n (X.cells++v.cells)) O)))=eI (.ins (.ref N) n (X.cells++v.cells)) O:=by
  simp[RE.rv,aa.rv,aa.add,<-R.er]
 rw[Av,b1] at b;refine⟨W.putObj (ad V i) (mu ((eI (.ins (.ref N) n (X.cells++v.cells)) O).rows.map (qS n U Q.d.isAgg))), ?_, ?_, ?_⟩;simp only[SV.den,a3];rw[an,ac];rfl;have:=b.put d (.bm []);exact this;exact bl.put (s:=s) (s':={s with rs:=s.rs++[RK.mr ⟨k,e,n,U,Q.d.isAgg⟩],boxes:=s.boxes.set i (some (qK,[.ref (.v s.rs.length),.int .i64 (.c n),.bool (.c U),.bool (.c Q.d.isAgg)]))}) ⟨pe _ _ _ _,λj hj=>(lO (axJ.1 (gG.1 E)).1).2 (.inr hj),by simp,axQ _⟩ d _;cases h;cases h;split at h;rename_i cQ;simp only[axI,beq_iff_eq,ax0] at cQ;obtain⟨⟨rfl,rfl⟩,rfl⟩:=cQ;split at h;rename_i x Z a9;split at h;cases h;rename_i b2;cases h;rw[Aw] at B;obtain⟨p1,p2⟩:=FG (O:=O) (V:=V) a9;rw[p1] at B;have an:=ac5 (P:=P) hd F B al (λp hp=>by
  obtain⟨u,hu,rfl⟩:=aya.1 hp;exact⟨[u.1],rfl,rfl⟩) (v.den O V)
 have ac:∀(Z:List Int)(G:List SV),¬Z.contains x=true->Z.length=G.length->uA [x] (ek false [x],v.den O V) ((Z.zip G).map λp=>(.int .i64 p.1,p.2.den O V))=((Z.zip G).map λp=>(.int .i64 p.1,p.2.den O V))++[(.int .i64 x,v.den O V)]:=by
  intro Z;induction Z with
  |nil=>intro G _ _;simp[uA,ek]
  |cons y ys ih=>
   intro G hc hl;cases G with
   |nil=>simp at hl
   |cons u us=>
    have b3:¬y=x:=by
     intro e;subst e;simp at hc
    have b4:¬ys.contains x=true:=by
     intro e;simp at e hc;exact hc.2 e
    have:=ih us b4 (by simpa using hl);simp only[azJ,axV,uA,sH,ayH,and_true,b3,if_false,this,axY]
 have a1:∀A z o,jY pK (SV.cg O V J)≠ .cells A z o:=by
  intro A z o m;rw[Aw] at m;cases m
 have b:=R.UZ (cs':=J++[.int .i64 (.c x),v]) E a1;have b5:∀(l:List SV)(Z:List Int),mZ l=some Z->yt (SV.ap O V (l++[.int .i64 (.c x),v]))=yt (SV.ap O V l)++[(.int .i64 x,v.den O V)]:=by
  intro l;induction l using mZ.induct with
  |case1=>intro Z _;rfl
  |case2 k u r ih=>
   intro Z L;simp only[mZ] at L;cases H:mZ r with
   |none=>rw[H] at L;cases L
   |some b6=>
    have:=ih b6 H;simp only[axY,SV.ap,yt] at this⊢;rw[this]
  |case3 l h1 h2=>intro Z L;unfold mZ at L;split at L<;>first|(exact absurd rfl h1)|(exact absurd rfl (h2 _ _ _))|cases L
 rw[Aw,b5 J Z a9,p1] at b;refine⟨W.putObj (ad V i) (mu ((Z.zip (jt J)).map (λp=>(Value.int .i64 p.1,p.2.den O V))++[(Value.int .i64 x,v.den O V)])), ?_,b.put d (.bm []), ?_⟩;simp only[SV.den,a3];rw[an];have:[(IE.c x).den O,xb.den O,xc.den O].take 1=[x]:=rfl;rw[this,ac Z _ b2 p2];exact bl.put (s:=s) (s':=s.bN i pK (J++[.int .i64 (.c x),v])) ⟨kj.refl _ _ _,λj hj=>(lO (axJ.1 (gG.1 E)).1).2 (.inr hj),by simp[S.bN],axQ _⟩ d _;cases h;cases h;cases h;cases h
end
end
variable{t:List LC}
section
section
variable{g:List Nat}{B:World}{D:bB}{P:Program}{f:bh}{V:List Nat}{O:aa}{s:S}{a:Act}{W:World}
def U5{Z:Ty}{s:S}{n:Nat}:∀r:RE,r.kind Z {s with ni:=n}=r.kind Z s
 |.v k=>rfl
 |.cell r i j k=>by simp only[RE.kind,U5 r]
 |.k v=>by cases v<;>rfl
def FV(R:ao g B D f.ty V O s a W){X:Sh}{r:RE}(h:r.mX f.ty s X=true):lenOf (r.rv O).val=(r.rv O).rows.length:=by
 unfold RE.mX at h;rcases aAt.1 h with h|h;have Z:=nZ R (by simp) (of_decide_eq_true h);generalize r.rv O=U at Z;cases Z;rfl;unfold RE.nil at h;split at h;simp[RE.rv,lenOf];cases h
def anG(R:ao g B D f.ty V O s a W){e:TypeId}{J:TI}{c:IE}(h:T2 f s U e Z Q J G=some c):∃l,W.heap[ad V G]?=some (mu l)/\(l.length:Int)=c.den O:=by
 unfold T2 at h;split at h;rename_i I N H;have X:=R.mem.box G I N H;split at h;rename_i cQ;simp only[beq_iff_eq] at cQ;subst cQ;cases M:CA f s U e Z Q J N with
 |none=>rw[M] at h;cases h
 |some r=>
  rw[M] at h;cases h;obtain⟨rfl,F,A⟩:=NK M;rw[Av] at X;exact⟨_,X,by simp[IE.den,FV R F]⟩
 split at h;rename_i cQ;simp only[axI,beq_iff_eq,ax0] at cQ;obtain⟨⟨rfl,rfl⟩,rfl⟩:=cQ;cases L:mZ N with
 |none=>rw[L] at h;cases h
 |some z=>
  rw[L] at h;cases h;rw[Aw] at X;obtain⟨E,C⟩:=FG (O:=O) (V:=V) L;rw[E] at X;exact⟨_,X,by simp[IE.den,C]⟩
 cases h;cases h
def JN{t:Int}{c:IE}{X:RE}:jY sk (SV.cg O V [.mp Z,.int .i64 (.c t),.int .i64 c,.ref X])=.mapIter (some (ad V Z)) (c.den O).toNat ((X.rv O).rows.map lM).toArray (c.den O).toNat:=by
 simp[jY,sk,qK,pK,SV.cg,SV.eL,SV.den,aca]
def anH(R:ao g B D f.ty V O s a W)(L:fK P f.ty)(J:b.o.op=.range U l)(I:a.eval l=(s.ev f.gl l).den O V)(h:MT f b.o.dst s U (s.ev f.gl l)=some H):
  ∃v X Q,pf P b.o a W v X/\ao g B D f.ty Q O H (a.put b.o.dst v) X/\bl s O V H O Q:=by
 unfold MT at h;split at h;rename_i k e n ag ab q i G F;have E:P.underlying U=some (.map k e):=(L _ _ G).desc;split at h;rename_i te ac;split at h;rename_i c C;split at h;rename_i N;simp only[axI] at N;obtain⟨⟨A,z⟩,y⟩:=N;cases h;obtain⟨Z,w,u⟩:=anG R C;have r:SV.cq s.ni s.nb s.rs.length (aD s.boxes) [.mp i,.int .i64 (.c (U:Int)),.int .i64 c,.ref (.k (.slice none 0 0))]=true:=by
  simp[SV.fa,SV.aK,RE.aK,IE.aK,y,z]
 obtain⟨M,p⟩:=R.ui A (t:=sk) r;rw[JN,<-u] at M;have j:=run_range_map (P:=P) W U k e (ad V i) _ _ E w;refine⟨.pointer (some ⟨W.heap.size,0,none⟩),W.alloc (.mapIter (some (ad V i)) Z.length #[] Z.length),V++[W.heap.size],.inl ?_, ?_,p.put _ _⟩;simp only[execOp,J,I,F,SV.den,Sem.run_bind,j,Result.andThen_ok,Sem.run_pure];have:=M.put b.o.dst (.loc s.boxes.length 0);have d:ad (V++[W.heap.size]) s.boxes.length=W.heap.size:=by simp[ad,<-R.dX]
 rw[SV.den,d] at this;simpa[RE.rv] using this;cases h;cases h;cases h;cases h
def U6:∀{l:List (Value×Value)}{m:Nat}{e:MapEntry},e∈dS m l->∃(j:Nat)(p:Value×Value),l[j]?=some p/\e=⟨p.1,p.2,m+j⟩
 |[],m,e,h=>by simp[dS] at h
 |x::r,m,e,h=>by
  simp only[dS,axT] at h;rcases h with rfl|h;exact⟨0,x,rfl,rfl⟩;obtain⟨j,p,Z,X⟩:=U6 h;exact⟨j+1,p,by simpa using Z,by rw[X];congr 1;omega⟩
def U7:∀{l:List (Value×Value)}{m j:Nat}{p:Value×Value},l[j]?=some p->(⟨p.1,p.2,m+j⟩:MapEntry)∈dS m l
 |[],m,j,p,h=>by simp at h
 |x::r,m,0,p,h=>by simp at h;subst h;simp[dS]
 |x::r,m,j+1,p,h=>by
  have:=U7 (m:=m+1) (l:=r) (j:=j) (p:=p) (by simpa using h);simp only[dS,axT];right
  rwa [show m+(j+1)=m+1+j by omega]
def ade:∀(n:Nat)(l:List Nat),(∀j,j<n->j∈l)->n<=l.length
 |0,_,_=>ayK _
 |n+1,l,h=>by
  have Z:=h n (by omega);have:=ade n (l.erase n) (λj X=>(aAq (by omega)).2 (h j (by omega)));rw[az7 Z] at this;have:0<l.length:=aAT Z;omega
def FW(X:CB f=true):ba f.ty (.mr (sw f))=[.int .i64]:=by
 simp only[CB,axI,aAE] at X;obtain⟨Z,R⟩:=X;unfold oQ at Z;split at Z;rename_i tk Q;simp only[axI,beq_iff_eq] at Z;obtain⟨c,U⟩:=aye.1 Z.1.1;have:=Z.1.2;rw[U] at this;simp only[azx,List.all_nil,azH] at this;unfold TU at this;split at this;simp[ba,sw,Q,R,U];cases this;cases Z
def U8(X:CB f=true)(h:CU f.ty (sw f) x):∃Z,x=[.mk (.int .i64 Z) []]:=by
 have U:=h.len;rw[FW X] at U;obtain⟨c,rfl⟩:=aye.1 U;obtain⟨Z,R⟩:=h.int 0 c .i64 rfl (by rw[FW X];rfl);exact⟨Z,by rw[R]⟩
def anI(U:CB f=true)(x:Int):CU f.ty (sw f) [.mk (.int .i64 x) []]:=by
 refine⟨by rw[FW U];rfl,λj c k X Z=> ?_,λj c X Z=> ?_⟩;rw[FW U] at Z;cases j with
 |zero=>simp at X Z;subst X Z;exact⟨x,rfl⟩
 |succ j=>simp at X
 rw[FW U] at Z;cases j with
 |zero=>simp at Z
 |succ j=>simp at X
def NM{r:RE}{H:IE}{X:List RV}(N:(r.rv O).rows[(H.den O).toNat]?=some X):∀{ab:List CT}{j:Nat},ab.all jT=true->X.length=j+ab.length->
  (∀(i:Nat)(k:IntKind),ab[i]?=some (.int k)->∃m,X[j+i]?=some (.mk (.int k m) []))->(∀(i:Nat),ab[i]?=some .bool->∃m,X[j+i]?=some (.mk (.bool m) []))->
  SV.ap O V (pN r H j ab)=(X.drop j).map RV.val
 |[],j,_,U,_,_=>by rw[aAb (by simp at U;omega)];rfl
 |.int k::ab,j,R,U,M,L=>by
  obtain⟨m,Z⟩:=M 0 k rfl;have J:=NM N (ab:=ab) (j:=j+1) (by simpa[jT] using R) (by simp at U⊢;omega) (λi k h=>by have:=M (i+1) k (by simpa using h);rwa [show j+(i+1)=j+1+i by omega] at this) (λi h=>by have:=L (i+1) (by simpa using h);rwa [show j+(i+1)=j+1+i by omega] at this);have I:X.drop j=.mk (.int k m) []::X.drop (j+1):=by
   rw[ay4] at Z;have Q:=(axJ.1 Z).1;rw[ayG Q];congr 1;rw[axK Q] at Z;simpa using Z
  rw[ay4] at Z;simp only[pN,Ad,SV.ap,SV.den,IE.den,cellAt,J,I,axV,RV.kf,axN,N,Z,ayo,bg]
 |.bool::ab,j,R,U,M,L=>by
  obtain⟨m,Z⟩:=L 0 rfl;have J:=NM N (ab:=ab) (j:=j+1) (by simpa[jT] using R) (by simp at U⊢;omega) (λi k h=>by have:=M (i+1) k (by simpa using h);rwa [show j+(i+1)=j+1+i by omega] at this) (λi h=>by have:=L (i+1) (by simpa using h);rwa [show j+(i+1)=j+1+i by omega] at this);have I:X.drop j=.mk (.bool m) []::X.drop (j+1):=by
   rw[ay4] at Z;have Q:=(axJ.1 Z).1;rw[ayG Q];congr 1;rw[axK Q] at Z;simpa using Z
  rw[ay4] at Z;simp only[pN,Ad,SV.ap,SV.den,BE.den,cellAt,J,I,axV,RV.kf,axN,N,Z,ayo,gV]
 |.aq _ _::ab,j,R,_,_,_=>by simp[jT] at R
def U9{r:RE}{Z:IE}:∀{ab:List CT}{j:Nat},(pN r Z j ab).length=ab.length
 |[],j=>rfl
 |c::ab,j=>by simp[pN,U9 (ab:=ab)]
def adf{r:RE}{U:IE}(L:(r.rv O).rows[(U.den O).toNat]?=some x)(R:Q=false->Z=1)(J:Au Z x):(E8 r U Z Q).den O V=m8 Q (x.take Z):=by
 obtain⟨l,I,N⟩:=J;have H:(x.take Z).length=Z:=by rw[N];simpa using I
 have G:SV.ap O V ((ax6 Z).map λj=>.int .i64 (.cell r U j))=(x.take Z).map RV.val:=by
  rw[lL,ayw];apply ayf;intro j;rw[axO,axO];by_cases M:j<Z;rw[ay7 M];have F:j<l.length:=by omega
  have X:(x.take Z)[j]?=some (.mk (.int .i64 l[j]) []):=by rw[N,axO,axK F];rfl
  have E:x[j]?=some (.mk (.int .i64 l[j]) []):=by rw[ayi,if_pos M] at X;exact X
  simp[X,SV.den,IE.den,cellAt,L,E,bg];rw[ax8 (by simp;omega),ax8 (by omega)];rfl
 rw[E8,yz (λC=>by simpa using R C),G,m8];cases Q;obtain⟨c,X⟩:=aye.1 (H.trans (R rfl));rw[X];rfl;rfl
def anJ{rs:RE}{je:IE}{j:Int}(R:je.den O=j)(h:∀X∈(rs.rv O).rows,∀x,X=[.mk (.int .i64 x) []]->x≠j)(U:∀X∈(rs.rv O).rows,∃x,X=[RV.mk (.int .i64 x) []]):(MU rs je).den O=true/\∀r∈(rs.rv O).rows,i8 1 [j] r=false:=by
 have Q:∀r∈(rs.rv O).rows,∀b c,i8 1 [j,b,c] r=false:=by
  intro r Z b c;obtain⟨x,rfl⟩:=U r Z;have:=h _ Z x rfl;simp[i8,bg,this]
 constructor;simp only[MU,BE.den,R,IE.den,ax0,jA];rw[List.find?_eq_none.2 (λr Z=>by simp[Q r Z])];rfl;intro r Z;obtain⟨x,rfl⟩:=U r Z;have:=h _ Z x rfl;simp[i8,bg,this]
def adg(L:CB f=true)(R:ao g B D f.ty V O s a W)(H:s.bd=true){d:Option Nat}{t:Nat}{c:IE}{X:RE}(F:bF s.boxes Z=some (sk,[.mp G,.int .i64 (.c (t:Int)),.int .i64 c,.ref X]))(bp:X.mX f.ty s (sw f)=true)
  {U:IE}{j:Nat}(E:U.den O=j)(o:¬((X.rv O).rows.map lM).contains j=true){kv v:SV}{key val:Value}
  (n:∀J,kv.den (O.add (.r J)) V=key)(m:∀J,v.den (O.add (.r J)) V=val):
  (MU X U).den O=true/\ao g B D f.ty V (O.add (.r (eI (.ins (.ref X) 1 [.int .i64 U]) O))) (T3 f d s Z s.ni G t c kv v) (a.put d (.tuple #[.bool true,key,val])) (W.putObj (ad V Z) (.mapIter (some (ad V G)) (c.den O).toNat (((X.rv O).rows.map lM).toArray.push j) (c.den O).toNat)):=by
 have C:=CV R bp;have l:∀N∈(X.rv O).rows,∃x,N=[RV.mk (.int .i64 x) []]:=λN M=>U8 L (C N M)
 obtain⟨k,b⟩:=anJ (O:=O) (rs:=X) (je:=U) E (λN M x Q=>by
  intro e;apply o;simp only[ayj,aya];refine⟨N,M, ?_⟩;subst Q;simp[lM,bg,e]) l
 refine⟨k, ?_⟩;have hh:aX W f.ty (.mr (sw f)) (eI (.ins (.ref X) 1 [.int .i64 U]) O):=by
  refine ac9 (λN A=> ?_) (λx Q=>by rw[FW L] at Q;simp at Q;subst Q;rfl);simp only[LE.rows,axV,ay2,SV.bu] at A;rcases U0 A with rfl|h;exact anI L _;exact C N h
 have ac:(eI (.ins (.ref X) 1 [.int .i64 U]) O).rows=(X.rv O).rows++[[.mk (.int .i64 j) []]]:=by
  simp only[eI,RV.jz,LE.rows,axV,ay2,SV.bu,E];refine ada λr M=> ?_
  simpa[bg] using b r M
 have R1:=R.ac8 H hh;have af:∀z y w,jY sk (SV.cg (O.add (.r (eI (.ins (.ref X) 1 [.int .i64 U]) O))) V [.mp G,.int .i64 (.c (t:Int)),.int .i64 c,.ref X])≠ .cells z y w:=by
  intro z y w Q;rw[JN] at Q;cases Q
 have I:=R1.UZ (cs':=[.mp G,.int .i64 (.c (t:Int)),.int .i64 c,.ref (.v s.rs.length)]) (i:=Z) F af;have ag:(RE.v s.rs.length).rv (O.add (.r (eI (.ins (.ref X) 1 [.int .i64 U]) O)))=eI (.ins (.ref X) 1 [.int .i64 U]) O:=by
  simp[RE.rv,aa.rv,aa.add,<-R.er]
 obtain⟨a3,al⟩:=R.uu H;have u:=o8 al F;simp only[SV.fa,SV.aK,axI] at u;have an:c.den (O.add (.r (eI (.ins (.ref X) 1 [.int .i64 U]) O)))=c.den O:=IE.cB (pe s.boxes O (.r (eI (.ins (.ref X) 1 [.int .i64 U]) O)) V).agree _ u.2.2.1;rw[JN,ag,ac,an] at I;have a0:((X.rv O).rows++[[RV.mk (.int .i64 (j:Int)) []]]).map lM=(X.rv O).rows.map lM++[j]:=by simp[lM,bg]
 rw[a0] at I;have p:=I.put d (.bm [.bool (.c true),kv,v]);have a1:(SV.bm [.bool (.c true),kv,v]).den (O.add (.r (eI (.ins (.ref X) 1 [.int .i64 U]) O))) V=.tuple #[.bool true,key,val]:=by
  simp only[SV.den,SV.ap,n,m,BE.den]
 rw[a1] at p;have a2:((X.rv O).rows.map lM).toArray.push j=((X.rv O).rows.map lM++[j]).toArray:=by simp
 rw[a2];exact p
def adh{Z:Type}:∀{l:List Z}{m j:Nat},cO ((m+j:Nat):Int) ((ay5 m l.length).map λ(i:Nat)=>(i:Int)) l=l[j]?
 |[],m,j=>by simp[cO]
 |x::l,m,j=>by
  simp only[ayu,azV,axV,cO];cases j with
  |zero=>simp
  |succ j=>
   rw[if_neg (by omega),show m+(j+1)=m+1+j by omega,adh];simp
def adi{X:Type}{l:List X}{j:Nat}(h:Z=l.length):cO (j:Int) (yb Z) l=l[j]?:=by
 have:=adh (l:=l) (m:=0) (j:=j);rw[ayg] at this;rw[yb,h,azz];exact this
def anK{Z:aa}{u:SV}(h:u.den Z V=u.den O V):SV.ap Z V u.cells=SV.ap O V u.cells:=by
 cases u
 case agg l=>simp only[SV.den,Value.agg.injEq] at h;simpa[SV.cells] using h
 all_goals simp only[SV.cells,SV.ap,h]
def adj(R:ao g B D f.ty V O s a W){Z:TI}{e:TypeId}(J:cW P e Z){x:IE}{X:List Int}{U:List SV}{Q v:SV}(h:MV Z x X U=some (Q,v))(I:X.length=U.length){O':aa}{j:Nat}(N:x.den O'=j){k:Int}{u:SV}(H:X[j]?=some k)(M:U[j]?=some u)(G:u.den O' V=u.den O V):
  Q.den O' V=.int .i64 k/\v.den O' V=u.den O V:=by
 unfold MV at h;split at h;rename_i F;split at h;rename_i y l E C;cases h;constructor;obtain⟨w,A,t,-⟩:=Uw (O:=O') E;obtain⟨i,z,r,rfl⟩:=t (.int .i64 (.c k)) (by rw[N,adi (by simp),axO,H];rfl);cases r;simp only[SV.den,A,IE.den];obtain⟨q,p,b⟩:=Np (O:=O') (V:=V) C;have L:=axU.1 F u (ax4 M);have o:u.cells.length=0+Z.ab.length:=by
  simp only[vT,axI,beq_iff_eq] at L;omega
 have n:Z.d.isAgg=false->l.length=1:=λm=>by rw[q];exact wj J m
 rw[yz n,p u.cells (by rw[N,adi (by simp[I]),axO,M];rfl) o,aAY,anK G,Nr (qV R) L];cases h;cases h
def adk:∀{l:List (Value×Value)}{m:Nat},(dS m l).map (·.born)=ay5 m l.length
 |[],m=>rfl
 |x::r,m=>by simp[dS,adk (l:=r),azV]
def anL{p:Sp}(hP:p.P=P)(R:ao g B D f.ty V O s a W)(al:fK P f.ty)(ho:b.o.op=.next l false)(he:a.eval l=(s.ev f.gl l).den O V){bb a6:S->T}{Z:T}(h:T4 f b.o.dst s (s.ev f.gl l) bb a6=some Z)(hs:Z.aG p O t):
  ∃v W' F E,pf P b.o a W v W'/\ao g B D f.ty V F E (a.put b.o.dst v) W'/\bl s O V E F V/\((F=O/\(a6 E).aG p O t)\/(bb E).aG p F t):=by
 unfold T4 at h;split at h;rename_i q hx;split at h;rename_i bt i tz c H w;split at h;cases h;rename_i b4;simp only[ax0,azc,axI,beq_iff_eq,decide_eq_true_eq] at b4;obtain⟨⟨⟨⟨⟨rfl,bf⟩,bp⟩,hb⟩,b5⟩,dT⟩:=b4;obtain⟨tn,rfl⟩:∃tn:Nat,tz=(tn:Int):=⟨tz.toNat,by omega⟩;simp only[ayE] at h;have bk:=R.mem.box _ _ _ w;rw[JN] at bk;have cI:=CV R bp;have d0:∀J∈(H.rv O).rows,∃l,J=[RV.mk (.int .i64 l) []]:=λJ A=>U8 bf (cI J A)
 obtain⟨d1,br⟩:=R.uu hb;split at h;rename_i k e n ag ab qq d2 c0 b6 b7;have hd:P.underlying tn=some (.map k e):=(al _ _ b6).desc;have hK:pV P k n ag:=(al _ _ b6).key k e n ag rfl;split at h;rename_i M an;split at h;cases h;rename_i a7;have a7:oQ f.ty k n ag=true:=by simpa using a7
 have a0:=R.mem.box _ _ _ b7;have a8:=o8 br b7;have model:∀(X:List (Value×Value)),W.heap[ad V i]?=some (mu X)->(X.length:Int)=c.den O->
   (c.den O<=lenOf (H.rv O).val/\pf P b.o a W (.tuple #[.bool false]) W)\/
   ∃(j:Nat)(kv:Value×Value)(I:World),X[j]?=some kv/\¬((H.rv O).rows.map lM).contains j=true/\(I=W\/I=W.drew)/\pf P b.o a W (.tuple #[.bool true,kv.1,kv.2]) (I.putObj (ad V q) (.mapIter (some (ad V i)) (c.den O).toNat (((H.rv O).rows.map lM).toArray.push j) (c.den O).toNat)):=by
  intro X hl bs;have hN:(c.den O).toNat=X.length:=by omega
  rw[hN] at bk⊢;rcases run_next_at (P:=P) W b.o.type (ad V q) (ad V i) X.length X.length _ _ _ bk hl (λy hy=>by
   obtain⟨j,p,h1,h2⟩:=U6 (by simpa using hy);rw[h2];have:=(axJ.1 h1).1;simpa using this) (axQ _) with⟨h0,A⟩|⟨en,bx,I,c2,A⟩
  left;refine⟨?_,.inl ?_⟩;rw[FV R bp,<-bs];have:=ade X.length ((H.rv O).rows.map lM) (λj hj=>by
   cases G:((H.rv O).rows.map lM).contains j with
   |true=>exact ayj.1 G
   |false=>
    exfalso;have c3:=U7 (m:=0) (axK hj);have:(⟨(X[j]).1,(X[j]).2,0+j⟩:MapEntry)∈(leftOf (dS 0 X).toArray ((H.rv O).rows.map lM).toArray):=by
     unfold leftOf;rw[aBs];refine⟨by simpa using c3, ?_⟩;simp only[ayg,ax0];rw[<-G];simp
    have d3:=Array.size_pos_of_mem this;omega)
  simpa using this;simp only[execOp,ho,he,hx,SV.den,Sem.run_bind,A,Result.andThen_ok,Sem.run_pure];right;unfold leftOf at bx;rw[Array.mem_toList_iff,aBs] at bx;obtain⟨c4,b8⟩:=bx;obtain⟨j,kv,hj,rfl⟩:=U6 (by simpa using c4);simp only[ayg] at b8 A;refine⟨j,kv,I,hj, ?_,c2,.inl ?_⟩;simpa using b8;simp only[execOp,ho,he,hx,SV.den,Sem.run_bind,A,Result.andThen_ok,Sem.run_pure,anE]
 have ca:(W=W)->(c.den O<=lenOf (H.rv O).val)->pf P b.o a W (.tuple #[.bool false]) W->(a6 (s.put b.o.dst (.bm [.bool (.c false)]))).aG p O t->∃v W' F E,pf P b.o a W v W'/\ao g B D f.ty V F E (a.put b.o.dst v) W'/\bl s O V E F V/\((F=O/\(a6 E).aG p O t)\/(bb E).aG p F t):=by
  intro _ _ c6 c7;have:=R.put b.o.dst (.bm [.bool (.c false)]);exact⟨_,W,O,_,c6,this,(bl.refl _ _ _).put _ _,.inl ⟨rfl,c7⟩⟩
 have cc:∀I,(I=W\/I=W.drew)->ao g B D f.ty V O s a I:=by
  rintro I (rfl|rfl);exact R;exact R.drew
 split at h
 
 rename_i cQ;simp only[beq_iff_eq] at cQ;subst cQ;split at h;rename_i r A;split at h;rename_i a9;simp only[axI] at a9;cases h;obtain⟨rfl,c1,c5⟩:=NK A;rw[Av] at a0;have bi:c.den O=((r.rv O).rows.length:Int):=by
  have:=IE.bn _ _ a9.1;rw[this,IE.den,FV R c1]
 have ch:=CV R c1;simp only[MW,T.aG] at hs;rcases model _ a0 (by rw[bi];simp) with⟨Q,g2⟩|⟨j,kv,I,Q,g2,g3,g4⟩;exact ca rfl Q g2 (hs.2 (decide_eq_true Q))
 ·rw[axO] at Q;cases a3:(r.rv O).rows[j]? with
  |none=>rw[a3] at Q;cases Q
  |some J=>
  rw[a3] at Q;simp only[axR,axM] at Q;have c8:=(axJ.1 a3).1;have cl:=ax4 a3;have c9:=FF a7 an (ch J cl);have bX:=hs.1 (j:Int) (by omega) (by omega);have R1:=(cc I g3).ac7 hb (j:Int);have ac:=(pe s.boxes O (.i (j:Int)) V).agree;simp only[SV.fa,SV.aK,axI] at a8;have af:=o8 br w;simp only[SV.fa,SV.aK,axI] at af;have a4:H.rv (O.add (.i (j:Int)))=H.rv O:=RE.nY ac _ af.2.2.2.1;have b0:c.den (O.add (.i (j:Int)))=c.den O:=IE.cB ac _ af.2.2.1;have a5:(IE.v s.ni).den (O.add (.i (j:Int)))=(j:Int):=by simp[IE.den,aa.add,<-R.ei]
  have dc:∀U,(IE.v s.ni).den ((O.add (.i (j:Int))).add (.r U))=(j:Int):=λU=>a5
  have dd:∀U,r.rv ((O.add (.i (j:Int))).add (.r U))=r.rv O:=λU=>by
   have a1:=RE.nY ac _ a8.1;have b1:=(pe s.boxes (O.add (.i (j:Int))) (.r U) V).agree;have a2:=RE.nY (b1.mono (by simp[aa.add]) (axQ _) (axQ _)) r a8.1;rw[a2,a1]
  have cp:∀U,(r.rv ((O.add (.i (j:Int))).add (.r U))).rows[((IE.v s.ni).den ((O.add (.i (j:Int))).add (.r U))).toNat]?=some J:=λU=>by
   rw[dd,dc];simpa using a3
  obtain⟨kc,r1,r2,r3⟩:=FE (va:=M.d.isAgg) a7 an;have b2:=ch J cl;have bs:J.length=n+M.ab.length:=by rw[b2.len,r1,axX,r2]
  have cs:∀(N:Nat)(ct:CT),M.ab[N]?=some ct->(ba f.ty (.mr ⟨k,e,n,ag,M.d.isAgg⟩))[n+N]?=some ct:=λN ct C=>by
   rw[r1,axP (by omega),r2,show n+N-n=N by omega];exact C
  have cv:∀(N:Nat)(ct:CT),M.ab[N]?=some ct->∃c,J[n+N]?=some c:=λN ct C=>by
   have:N<M.ab.length:=(axJ.1 C).1;exact⟨J[n+N]'(by omega),axK _⟩
  have df:M.d.isAgg=false->(pN r (.v s.ni) n M.ab).length=1:=λha=>by rw[U9];exact wj (al _ _ an) ha
  have dk:∀U,(oP M.d.isAgg (pN r (.v s.ni) n M.ab)).den ((O.add (.i (j:Int))).add (.r U)) V=m8 M.d.isAgg (J.drop n):=λU=>by
   rw[yz df,NM (cp U) c5 bs (λN kk C=>by
    obtain⟨c,G⟩:=cv N _ C;obtain⟨x',b3⟩:=b2.int (n+N) c kk G (cs N _ C);exact⟨x',by rw[G,b3]⟩) (λN C=>by
    obtain⟨c,G⟩:=cv N _ C;obtain⟨x',b3⟩:=b2.bool (n+N) c G (cs N _ C);exact⟨x',by rw[G,b3]⟩),m8]
   cases dn:M.d.isAgg;have h1:=wj (al _ _ an) dn;obtain⟨c,G⟩:=aye.1 (show(J.drop n).length=1 by simp;omega);rw[G];rfl;rfl
  obtain⟨u1,u2⟩:=adg (d:=b.o.dst) (s:={s with ni:=s.ni+1}) (kv:=E8 r (.v s.ni) n ag) (v:=oP M.d.isAgg (pN r (.v s.ni) n M.ab)) (key:=m8 ag (J.take n)) (val:=m8 M.d.isAgg (J.drop n)) bf R1 b5 w (by simpa only[RE.mX,U5] using bp) a5 (by rw[a4];exact g2) (λU=>adf (cp U) hK.1 c9) dk;rw[a4,b0] at u2;subst Q;refine⟨_,_,_,_,g4,u2, ?_,.inr ?_⟩;refine bl.put (s:=s) (s':={s with ni:=s.ni+1,rs:=s.rs++[RK.mr (sw f)],boxes:=s.boxes.set q _}) ⟨(pe s.boxes O (.i (j:Int)) V).trans (pe s.boxes _ _ V) (λ_ h=>h),λj hj=>(lO (axJ.1 (gG.1 w)).1).2 (.inr hj),by simp,axQ _⟩ _ _;exact bX u1
 cases h;cases h;split at h
 
 rename_i cQ;simp only[axI,beq_iff_eq,ax0] at cQ;obtain⟨⟨rfl,rfl⟩,rfl⟩:=cQ;split at h;rename_i ks dr;split at h;rename_i a9;split at h;rename_i ds v0 dx;cases h;rw[Aw] at a0;obtain⟨p1,p2⟩:=FG (O:=O) (V:=V) dr;rw[p1] at a0;have bi:c.den O=(ks.length:Int):=by
  have:=IE.bn _ _ a9;rw[this,IE.den]
 simp only[MW,T.aG] at hs;rcases model _ a0 (by rw[bi];simp[p2]) with⟨Q,g2⟩|⟨j,kv,I,Q,g2,g3,g4⟩;exact ca rfl Q g2 (hs.2 (decide_eq_true Q))
 ·rw[axO] at Q;cases hz:(ks.zip (jt c0))[j]? with
  |none=>rw[hz] at Q;cases Q
  |some kp=>
  rw[hz] at Q;simp only[axR,axM] at Q;obtain⟨z1,z2⟩:=az2.1 hz;have dy:∀{X:List SV}{jj:Nat}{u:SV},SV.cq O.i.length O.b.length O.r.length (aD s.boxes) X=true->(jt X)[jj]?=some u->u.bd O.i.length O.b.length O.r.length (aD s.boxes)=true:=by
   intro X;induction X using jt.induct with
   |case1 k v r ih=>
    intro jj u bv z;simp only[SV.fa,axI] at bv;simp only[jt] at z;cases jj with
    |zero=>simp at z;subst z;exact bv.2.1
    |succ jj=>exact ih bv.2.2 (by simpa using z)
   |case2 X h1=>
    intro jj u bv z;unfold jt at z;split at z;exact absurd rfl (h1 _ _ _);simp at z
  have c8:j<ks.length:=(axJ.1 z1).1;have bX:=hs.1 (j:Int) (by omega) (by omega);have R1:=(cc I g3).ac7 hb (j:Int);have ac:=(pe s.boxes O (.i (j:Int)) V).agree;have af:=o8 br w;simp only[SV.fa,SV.aK,axI] at af;have a4:H.rv (O.add (.i (j:Int)))=H.rv O:=RE.nY ac _ af.2.2.2.1;have b0:c.den (O.add (.i (j:Int)))=c.den O:=IE.cB ac _ af.2.2.1;have a5:(IE.v s.ni).den (O.add (.i (j:Int)))=(j:Int):=by simp[IE.den,aa.add,<-R.ei]
  have cx:=dy a8 z2;have dz:∀U,kp.2.den ((O.add (.i (j:Int))).add (.r U)) V=kp.2.den O V:=λU=>by
   have b1:=(pe s.boxes (O.add (.i (j:Int))) (.r U) V).agree;rw[SV.cB (b1.mono (by simp[aa.add]) (axQ _) (axQ _)) (λ_ _=>rfl) _ cx,SV.cB ac (λ_ _=>rfl) _ cx]
  have cy:=λU=>adj R (al _ _ an) dx p2 (O':=(O.add (.i (j:Int))).add (.r U)) (j:=j) a5 z1 z2 (dz U)
  obtain⟨u1,u2⟩:=adg (d:=b.o.dst) (s:={s with ni:=s.ni+1}) (kv:=ds) (v:=v0) (key:=.int .i64 kp.1) (val:=kp.2.den O V) bf R1 b5 w (by simpa only[RE.mX,U5] using bp) a5 (by rw[a4];exact g2) (λU=>(cy U).1) (λU=>(cy U).2);rw[a4,b0] at u2;subst Q;refine⟨_,_,_,_,g4,u2, ?_,.inr ?_⟩;refine bl.put (s:=s) (s':={s with ni:=s.ni+1,rs:=s.rs++[RK.mr (sw f)],boxes:=s.boxes.set q _}) ⟨(pe s.boxes O (.i (j:Int)) V).trans (pe s.boxes _ _ V) (λ_ h=>h),λj hj=>(lO (axJ.1 (gG.1 w)).1).2 (.inr hj),by simp,axQ _⟩ _ _;exact bX u1
 cases h;cases h;cases h;cases h;cases h;cases h;cases h;cases h
def anM{p:Sp}(R:ao g B D f.ty V O s a W)(C:fK P f.ty)(ho:b.o.op=.entry l)(he:a.eval l=(s.ev f.gl l).den O V){a7:S->T}{Z:T}(h:T6 f b.o.dst s (s.ev f.gl l) a7=some Z)(G:Z.aG p O t):
  ∃v s',pf P b.o a W v W/\ao g B D f.ty V O s' (a.put b.o.dst v) W/\bl s O V s' O V/\(a7 s').aG p O t:=by
 unfold T6 at h;split at h;rename_i q hx;split at h;rename_i bt i tz c Q hq;split at h;cases h;rename_i a8;simp only[ax0,azc,axI,beq_iff_eq,decide_eq_true_eq] at a8;obtain⟨⟨⟨⟨rfl,b1⟩,bp⟩,hb⟩,cI⟩:=a8;obtain⟨tn,rfl⟩:∃tn:Nat,tz=(tn:Int):=⟨tz.toNat,by omega⟩;simp only[ayE] at h;have al:=R.mem.box _ _ _ hq;rw[JN] at al;have b2:=CV R bp;have model:∀(X:List (Value×Value)),W.heap[ad V i]?=some (mu X)->(X.length:Int)=c.den O->(T5 c Q).den O=true->
   ∃(j:Nat)(A:Value×Value),X[j]?=some A/\(qP Q).den O=j/\pf P b.o a W (.tuple #[A.1,A.2]) W:=by
  intro X hl a9 b3;obtain⟨a2,b4⟩:=wt b3;obtain⟨a2,b5⟩:=wt a2;have y:=uz a2;have h2:=NC b5;obtain⟨h3,h4⟩:=wt b4;have h3:=uz h3;rw[yw] at h4;have h4:(qP Q).den O<c.den O:=by simpa[eG] using h4
  simp only[IE.den] at y h2 h3;rw[FV R bp] at y h2;have hN:(c.den O).toNat=X.length:=by omega
  rw[hN] at al;obtain⟨w,a3,an⟩:∃w a3,(Q.rv O).rows=w++[a3]:=⟨_,_,(List.dropLast_concat_getLast (by intro e;rw[e] at y;simp at y)).symm⟩;obtain⟨z,F⟩:=U8 b1 (b2 a3 (by rw[an];simp));have b6:IntKind.i64.wrap (((Q.rv O).rows.length:Int)-1)=((Q.rv O).rows.length:Int)-1:=by
   simp[IntKind.wrap,IntKind.bits,IntKind.signed];omega
  have bb:(qP Q).den O=z:=by
   simp only[qP,IE.den,aR,FV R bp,b6,cellAt];have:(((Q.rv O).rows.length:Int)-1).toNat=w.length:=by rw[an];simp
   rw[this,an,F];simp[axN,bg]
  rw[bb] at h3 h4;obtain⟨j,rfl⟩:∃j:Nat,z=(j:Int):=⟨z.toNat,by omega⟩;have bd:j<X.length:=by omega
  refine⟨j,X[j],axK bd,bb,.inl ?_⟩;have b7:((Q.rv O).rows.map lM).toArray=((w.map lM).toArray).push j:=by
   rw[an,F];simp[lM,bg]
  rw[b7] at al;have bf:=U7 (m:=0) (axK bd);rw[ayg] at bf;have hr:=run_entry_at (P:=P) W (ad V q) (ad V i) X.length ((w.map lM).toArray) (dS 0 X).toArray X.length ⟨(X[j]).1,(X[j]).2,j⟩ al hl (by simpa using bf) (by
   simp only[adk];exact List.nodup_range' ..)
  simp only[execOp,ho,he,hx,SV.den,Sem.run_bind,hr,Result.andThen_ok,Sem.run_pure]
 split at h;rename_i k e n u ab qq c0 b8 bk ca;have hd:P.underlying tn=some (.map k e):=(C _ _ bk).desc;have hK:pV P k n u:=(C _ _ bk).key k e n u rfl;split at h;rename_i N ac;split at h;cases h;rename_i a0;have a0:oQ f.ty k n u=true:=by simpa using a0
 have af:=R.mem.box _ _ _ ca;split at h;rename_i cQ;simp only[beq_iff_eq] at cQ;subst cQ;split at h;rename_i r hr;split at h
 ·rename_i a4;cases h;obtain⟨rfl,c1,c5⟩:=NK hr;rw[Av] at af;have bi:c.den O=((r.rv O).rows.length:Int):=by
   have:=IE.bn _ _ a4;rw[this,IE.den,FV R c1]
  have br:=CV R c1;obtain⟨hn,G⟩:=G;obtain⟨j,A,M,g2,g3⟩:=model _ af (by rw[bi];simp) hn;rw[axO] at M;cases a1:(r.rv O).rows[j]? with
  |none=>rw[a1] at M;cases M
  |some I=>
  rw[a1] at M;simp only[axR,axM] at M;have bs:=ax4 a1;have cc:=FF a0 ac (br I bs);have bx:(r.rv O).rows[((qP Q).den O).toNat]?=some I:=by rw[g2];simpa using a1
  obtain⟨kc,r1,r2,r3⟩:=FE (va:=N.d.isAgg) a0 ac;have a5:=br I bs;have a9:I.length=n+N.ab.length:=by rw[a5.len,r1,axX,r2]
  have bX:∀(U:Nat)(E:CT),N.ab[U]?=some E->(ba f.ty (.mr ⟨k,e,n,u,N.d.isAgg⟩))[n+U]?=some E:=λU E J=>by
   rw[r1,axP (by omega),r2,show n+U-n=U by omega];exact J
  have b0:∀(U:Nat)(E:CT),N.ab[U]?=some E->∃c,I[n+U]?=some c:=λU E J=>by
   have:U<N.ab.length:=(axJ.1 J).1;exact⟨I[n+U]'(by omega),axK _⟩
  have ch:N.d.isAgg=false->(pN r (qP Q) n N.ab).length=1:=λha=>by rw[U9];exact wj (C _ _ ac) ha
  have cl:(oP N.d.isAgg (pN r (qP Q) n N.ab)).den O V=m8 N.d.isAgg (I.drop n):=by
   rw[yz ch,NM bx c5 a9 (λU kk J=>by
    obtain⟨c,H⟩:=b0 U _ J;obtain⟨x',a6⟩:=a5.int (n+U) c kk H (bX U _ J);exact⟨x',by rw[H,a6]⟩) (λU J=>by
    obtain⟨c,H⟩:=b0 U _ J;obtain⟨x',a6⟩:=a5.bool (n+U) c H (bX U _ J);exact⟨x',by rw[H,a6]⟩),m8]
   cases cp:N.d.isAgg;have y:=wj (C _ _ ac) cp;obtain⟨c,H⟩:=aye.1 (show(I.drop n).length=1 by simp;omega);rw[H];rfl;rfl
  have cs:=adf (V:=V) bx hK.1 cc;have R2:=R.put b.o.dst (.bm [E8 r (qP Q) n u,oP N.d.isAgg (pN r (qP Q) n N.ab)]);simp only[SV.den,SV.ap,cs,cl] at R2;subst M;exact⟨_,_,g3,R2,(bl.refl _ _ _).put _ _,G⟩
 cases h;cases h;split at h;rename_i cQ;simp only[axI,beq_iff_eq,ax0] at cQ;obtain⟨⟨rfl,rfl⟩,rfl⟩:=cQ;split at h;rename_i ks cv;split at h;rename_i a4;split at h
 ·rename_i cx v0 cy;cases h;rw[Aw] at af;obtain⟨p1,p2⟩:=FG (O:=O) (V:=V) cv;rw[p1] at af;have bi:c.den O=(ks.length:Int):=by
   have:=IE.bn _ _ a4;rw[this,IE.den]
  obtain⟨hn,G⟩:=G;obtain⟨j,A,M,g2,g3⟩:=model _ af (by rw[bi];simp[p2]) hn;rw[axO] at M;cases F:(ks.zip (jt b8))[j]? with
  |none=>rw[F] at M;cases M
  |some kp=>
  rw[F] at M;simp only[axR,axM] at M;obtain⟨z1,z2⟩:=az2.1 F;obtain⟨e1,e2⟩:=adj R (C _ _ ac) cy p2 (O':=O) g2 z1 z2 rfl;have R2:=R.put b.o.dst (.bm [cx,v0]);simp only[SV.den,SV.ap,e1,e2] at R2;subst M;exact⟨_,_,g3,R2,(bl.refl _ _ _).put _ _,G⟩
 cases h;cases h;cases h;cases h;cases h;cases h;cases h;cases h
def adl{p:Sp}(R:ao g B D f.ty V O s a W)(i:fK P f.ty){d:TypeId}{I:BinOp}{y:Operand}(E:b.o.op=.binOp I U l y d)(ac:(I=.eql/\Q=false)\/(I=.neq/\Q=true))(he:a.eval l=(s.ev f.gl l).den O V)(af:a.eval y=(s.ev f.gl y).den O V){C:S->T}{z:T}(h:MX f b.o.dst s U Q (s.ev f.gl l) (s.ev f.gl y) C=some z)(H:z.aG p O t):
  ∃v G,pf P b.o a W v W/\ao g B D f.ty V O G (a.put b.o.dst v) W/\bl s O V G O V/\(C G).aG p O t:=by
 unfold MX at h;split at h;rename_i e ab q r ht hx hy;split at h;rename_i hk;cases h;have hd:P.underlying U=some (.slice e):=(i _ _ ht).desc;have N:=nZ R (by simp) hk;simp only[T.aG] at H;obtain⟨A,n,c,X⟩:∃A n c,r.den O=.slice A n c:=by
  have:∃A n c,(r.rv O).val=.slice A n c:=by
   generalize r.rv O=J at N;cases N;exact⟨_,_,_,rfl⟩
  exact this
 have ag:(IE.len r).den O=n:=by simp only[IE.den];unfold RE.den at X;rw[X];rfl
 have w:(Op.equal U (.slice A n c) (.slice none 0 0)).run P W=.ok A.isNone W:=by
  have F:Op.equal U (.slice A n c) (.slice none 0 0)=Op.equalIn (9999+1) U (.slice A n c) (.slice none 0 0):=rfl;rw[F,Op.equalIn,Sem.run_bind,cW.eM hd,Result.andThen_ok];cases A<;>rfl
 have u:(execOp a.eval b.o).run P W=.ok (.value (.bool (if Q then !A.isNone else A.isNone))) W:=by
  simp only[execOp,E,he,af,hx,hy,SV.den,X];have al:RE.den O (.k (.slice none 0 0))=.slice none 0 0:=rfl;rw[al];rcases ac with⟨rfl,rfl⟩|⟨rfl,rfl⟩;simp[eqGuard,binOp,w];simp[eqGuard,binOp,w]
 cases M:A with
 |none=>
  have hn:n=0:=by
   unfold RE.den at X;have F:∀{J:RV},aX W f.ty (.sl e) J->J.val=.slice A n c->A=none->n=0:=by
    intro J N X M;cases N with
    |sl e A' a1 a2 j h1 h2 h3 hi hb E=>
     simp only[RV.kf,Value.slice.injEq] at X;obtain⟨rfl,rfl,rfl⟩:=X;subst M;cases j with
     |nil=>simp at h1;omega
     |cons an j=>
      obtain⟨-,Z,a3,a0,-⟩:=h3 0 an rfl;cases a0
   exact F N X M
  have:=H.2 (by show decide ((IE.len r).den O<=(IE.c 0).den O)=true;rw[ag,hn];rfl);refine⟨_,_,.inl u, ?_,(bl.refl _ _ _).put _ (.bool (.c (!Q))),this⟩;have X:(if Q then !A.isNone else A.isNone)= !Q:=by rw[M];cases Q<;>rfl
  rw[X];exact R.put b.o.dst (.bool (.c (!Q)))
 |some A0=>
  have:=H.1 (by simp[BE.den]);refine⟨_,_,.inl u, ?_,(bl.refl _ _ _).put _ (.bool (.c Q)),this⟩;have X:(if Q then !A.isNone else A.isNone)=Q:=by rw[M];cases Q<;>rfl
  rw[X];exact R.put b.o.dst (.bool (.c Q))
 cases h;cases h
def ao.cells{L:List SV}(R:ao g B D r V O (s.bN Z U N) a W)(I:Z<s.boxes.length)(h:SV.cg O V N=SV.cg O V L):ao g B D r V O (s.bN Z U L) a W:=by
 have J:∀j,aD (s.boxes.set Z (some (U,L))) j=aD (s.boxes.set Z (some (U,N))) j:=λj=>by
  rw[ayS,lO I,lO I]
 have E:(s.bN Z U L).boxes=s.boxes.set Z (some (U,L)):=rfl;have Q:(s.bN Z U N).boxes=s.boxes.set Z (some (U,N)):=rfl;refine⟨⟨R.mem.base,λj X=>R.mem.own j (by rw[Q,<-J];exact X),λj k X C=>R.mem.inj j k (by rw[Q,<-J];exact X) (by rw[Q,<-J];exact C),λj t A M=> ?_,λk e H G F=>⟨(R.mem.ref k e H G F).1,λb M j X=>(R.mem.ref k e H G F).2 b M j (by rw[Q,<-J];exact X)⟩⟩,by simpa[S.bN] using R.dX,R.ei,R.eb,R.er,R.bY,R.size,R.tmps,λk e H b z y x=> ?_⟩;rw[gG,E] at M;by_cases X:j=Z;subst X;rw[azh (by simpa using I)] at M;cases M;rw[<-h];exact R.mem.box j U N (by rw[gG,Q,azh (by simpa using I)]);rw[ays (λe=>X e.symm)] at M;exact R.mem.box j t A (by rw[gG,Q,ays (λe=>X e.symm)];exact M);obtain⟨G,F,w,v,u⟩:=R.bw k e H b z y x;exact⟨G,F,λj X=>w j (by rw[Q,<-J];exact X),v,u⟩
def anN{b:BE}{x y z:SV}(h:T7 b x y=some z):z.eL O V=if b.den O then x.eL O V else y.eL O V:=by
 unfold T7 at h;split at h;split at h;rename_i Z;subst Z;cases h;simp only[SV.eL,SV.den,IE.den];split<;>rfl;cases h;cases h;simp only[SV.eL,SV.den,BE.den];split<;>rfl;cases h
def JO:∀(X l:List SV)(Z:Nat),SV.cg O V (iK l Z X)=eU (SV.cg O V l) Z (SV.cg O V X)
 |[],l,Z=>rfl
 |v::X,l,Z=>by
  rw[iK,JO X (l.set Z v) (Z+1)];simp only[SV.cg,axV,eU,aBf]
def adm{b:BE}:∀{Q:List SV}{X:Nat}{Z U:List SV},Ja b Q X Z=some U->
  U.length=Z.length/\(Q=[]\/X+Q.length<=Z.length)/\(b.den O=true->SV.cg O V U=SV.cg O V (iK Z X Q))/\(b.den O=false->SV.cg O V U=SV.cg O V Z)
 |[],X,Z,U,h=>by simp only[Ja,axM] at h;subst h;exact⟨rfl,.inl rfl,λ_=>rfl,λ_=>rfl⟩
 |x::z,X,Z,U,h=>by
  simp only[Ja] at h;split at h;rename_i H M;split at h;rename_i c G;obtain⟨L,N,F,E⟩:=adm h;have C:X<Z.length:=(axJ.1 M).1;have J:=anN (O:=O) (V:=V) G;have I:SV.cg O V (Z.set X c)=(SV.cg O V Z).set X (c.eL O V):=by simp[SV.cg,aBf]
  have B:SV.cg O V Z=(SV.cg O V Z).set X (H.eL O V):=by
   apply ayf;intro j;rw[ayD];split;rename_i A;subst A;simp[SV.cg,C];have:=axJ.1 M;rw[this.2];rfl
  rw[List.length_set] at L N;refine⟨L,.inr ?_,λR=> ?_,λR=> ?_⟩;rcases N with rfl|N;simp;omega;simp only[ayu];omega;rw[F R,JO,I,J,if_pos R,JO];simp only[SV.cg,axV,eU];rw[E R,I,J,if_neg (by simp[R]),<-B];cases h;cases h
def adn{e:IE}{L:List SV}(F:L≠[]):∀{Q:List Int}{N Z X:List SV},CC e L Q N Z=some X->MY Q=true->
  X.length=Z.length/\(∀v,cO (e.den O) Q N=some v->∃i M,v=.loc i M/\M+L.length<=Z.length/\SV.cg O V X=SV.cg O V (iK Z M L))/\(¬(e.den O∈Q)->SV.cg O V X=SV.cg O V Z)
 |[],[],Z,X,h,_=>by simp only[CC,axM] at h;subst h;exact⟨rfl,λv U=>by simp[cO] at U,λ_=>rfl⟩
 |[],_::_,Z,X,h,_=>by simp[CC] at h
 |k::Q,N,Z,X,h,I=>by
  simp only[MY,axI,ax0] at I;cases N with
  |nil=>simp[CC] at h
  |cons u N=>
   cases u<;>simp only[CC] at h<;>try cases h
   rename_i i M;split at h;rename_i o z;obtain⟨y,x,E⟩:=adn F h I.2;obtain⟨C,H,B,G⟩:=adm (O:=O) (V:=V) z;have H:=H.resolve_left F;simp only[BE.den,IE.den,eG,beq_iff_eq,beq_eq_false_iff_ne,ne_eq] at B G;refine⟨by rw[y,C],λv U=> ?_,λA=> ?_⟩;simp only[cO] at U;split at U;rename_i R;cases U;refine⟨i,M,rfl,H, ?_⟩;rw[E (λJ=>by
    rw[R] at J;have:=I.1;rw[ayj.2 J] at this;cases this),B R]
   rename_i R;obtain⟨w,t,rfl,r,q⟩:=x v U;refine⟨w,t,rfl,by rw[<-C];exact r, ?_⟩;rw[q,JO,G R,<-JO];have R:¬e.den O=k:=λp=>A (by simp[p])
   rw[E (λJ=>A (by simp[J])),G R];cases h
def ado{x:SV}(h:Jb x=true):x.single=true:=by cases x<;>simp only[Jb,ax3] at h<;>rfl
def adp:∀{l:List SV},E9 l=true->l≠[]/\Ae l=true
 |[],h=>by cases h
 |[x],h=>⟨by simp,by rw[MI.2,ado h,MI.1];rfl⟩
 |x::y::r,h=>by
  simp only[E9,axI] at h;exact⟨by simp,by rw[MI.2,ado h.1,(adp (l:=y::r) h.2).2];rfl⟩
def anO{Z:SV}(h:E9 Z.cells=true):(Z.den O V).cells.toList=SV.ap O V Z.cells:=by
 cases Z
 case agg l=>simp[SV.cells,SV.den,Value.cells]
 all_goals(simp only[SV.cells,E9,Jb,ax3] at h)
 all_goals rfl
def anP{P:Program}{p:Sp}(R:ao g B D f.ty V O s a W)(w:fK P f.ty){y:Operand}{H:TI}{e:IE}(r:f.ty U=some H)(q:I.op=.store U l y)(n:a.eval l=(SV.dI e E N).den O V)(m:a.eval y=(s.ev f.gl y).den O V){k:S->T}{G:T}
  (h:arl I.dst s H e E N (s.ev f.gl y) k=some G)(X:G.aG p O t):∃v Z Q,pf P I a W v Z/\ao g B D f.ty V O Q (a.put I.dst v) Z/\bl s O V Q O V/\(k Q).aG p O t:=by
 unfold arl at h;split at h;rename_i i j;split at h;rename_i d cs c;split at h;rename_i b ac;split at h;rename_i F;simp only[axI,beq_iff_eq] at F;obtain⟨⟨⟨h1,h2⟩,h3⟩,C⟩:=F;cases h;simp only[T.aG] at X;obtain⟨A,X⟩:=X;rw[Nq h2] at A;obtain⟨u,M⟩:=ax1.1 A;obtain⟨af,ag⟩:=adp C;obtain⟨g1,g2,-⟩:=adn (O:=O) (V:=V) af ac h3;obtain⟨i',z,rfl,al,an⟩:=g2 u M;obtain⟨a3,hq⟩:=acl j (FB M);cases hq;obtain⟨J,a0⟩:=ut c;have hi:i<s.boxes.length:=(axJ.1 (gG.1 J)).1;have a1:((s.ev f.gl y).den O V).cells.toList=SV.ap O V (s.ev f.gl y).cells:=anO C;obtain⟨Z,hr,R'⟩:=R.store (P:=P) (v:=s.ev f.gl y) (off:=z) (w _ _ r) J a0 h1.symm al ag a1;have R2:ao g B D f.ty V O (s.bN i d b) a Z:=R'.cells hi an.symm;refine⟨undef,Z,_,.inr ⟨?_,rfl⟩,R2.put I.dst (.bm []),acU J _ _,X⟩;have a2:(SV.dI e E N).den O V=.pointer (some ⟨ad V i,z,none⟩):=by
  simp only[SV.den];rw[Ns M rfl];rfl
 simp only[execOp,q,n,m,a2,Sem.run_bind,hr,Result.andThen_ok,Sem.run_pure];cases h;cases h;cases h;cases h
def anQ{p:Sp}(R:ao p.S0 p.w0 D f.ty V O s a W)(w:fK p.P f.ty)(G:dC f.gl O){d:S->Fx->T}{C:Fx}(E:pW O C){Z:T}(h:vY f b s d C=some Z)(A:Z.aG p O t):
  ∃v I r k X c,pf p.P b.o a W v I/\ao p.S0 p.w0 D f.ty k r X (a.put b.o.dst v) I/\bl s O V X r k/\pW r c/\(d X c).aG p r t:=by
 unfold vY at h;split at h;cases h;rename_i N;have N:∀x∈b.o.op.operands.toList,(s.ev f.gl x).cR=false:=by
  intro x i;cases hh:(s.ev f.gl x).cR;rfl;exact absurd (by simp only[ayb];right;exact ayh.2 ⟨x,i,hh⟩) N
 split at h
 
 rename_i q U;cases n:MS f b.o.dst s q with
 |none=>rw[n] at h;cases h
 |some X=>
  rw[n] at h;cases h;obtain⟨v,I,k,M,J,Q⟩:=anB (P:=p.P) R U n;exact⟨v,I,O,k,X,C,M,J,Q,E,A⟩
 rename_i q x y z U;rw[U] at N;have H:=bR R G x (N x (by simp[Op.operands]));have u:=bR R G y (N y (by simp[Op.operands]));have j:=bR R G z (N z (by simp[Op.operands]));split at h;rename_i X l;cases h;obtain⟨I,M,J,Q⟩:=NL (P:=p.P) R w l;exact⟨undef,I,O,V,X,C,.inr ⟨by simp only[execOp,U,H,u,j,Sem.run_bind,M,Result.andThen_ok,Sem.run_pure],rfl⟩,J,Q,E,A⟩;rename_i k' x' X l;cases h;obtain⟨I,M,J,Q⟩:=NL (P:=p.P) R w l;exact⟨undef,I,_,V,X,_,.inr ⟨by simp only[execOp,U,H,u,j,Sem.run_bind,M,Result.andThen_ok,Sem.run_pure],rfl⟩,J,Q,C2 R Q.ext.agree E,A⟩;cases h;rename_i q x y z U;rw[U] at N;have H:=bR R G x (N x (by simp[Op.operands]));have u:=bR R G y (N y (by simp[Op.operands]));have j:=bR R G z (N z (by simp[Op.operands]));split at h;rename_i X l;cases h;obtain⟨I,M,J,Q⟩:=NL (P:=p.P) R w l;exact⟨undef,I,O,V,X,C,.inr ⟨by simp only[execOp,U,H,u,j,Sem.run_bind,M,Result.andThen_ok,Sem.run_pure],rfl⟩,J,Q,E,A⟩;rename_i k' x' X l;cases h;obtain⟨I,M,J,Q⟩:=NL (P:=p.P) R w l;exact⟨undef,I,_,V,X,_,.inr ⟨by simp only[execOp,U,H,u,j,Sem.run_bind,M,Result.andThen_ok,Sem.run_pure],rfl⟩,J,Q,C2 R Q.ext.agree E,A⟩;cases h;rename_i q x U;rw[U] at N;have H:=bR R G x (N x (by simp[Op.operands]));cases n:MT f b.o.dst s q (s.ev f.gl x) with
 |none=>rw[n] at h;cases h
 |some X=>
  rw[n] at h;cases h;obtain⟨v,I,k,M,J,Q⟩:=anH (P:=p.P) R w U H n;exact⟨v,I,O,k,X,C,M,J,Q,E,A⟩
 rename_i x U;rw[U] at N;have H:=bR R G x (N x (by simp[Op.operands]));obtain⟨v,I,r,X,M,J,Q,F⟩:=anL (P:=p.P) rfl R w U H h A;rcases F with⟨rfl,F⟩|F;exact⟨v,I,r,V,X,C,M,J,Q,E,F⟩;exact⟨v,I,r,V,X,_,M,J,Q,C2 R Q.ext.agree E,F⟩;rename_i x U;rw[U] at N;have H:=bR R G x (N x (by simp[Op.operands]));obtain⟨v,X,M,J,Q,F⟩:=anM (P:=p.P) R w U H h A;exact⟨v,W,O,V,X,C,M,J,Q,E,F⟩;rename_i q x y U;rw[U] at N;have H:=bR R G x (N x (by simp[Op.operands]));have u:=bR R G y (N y (by simp[Op.operands]));split at h;rename_i ti e ks vs ht i;rw[i] at H;obtain⟨v,I,X,M,J,Q,F⟩:=anP (P:=p.P) R w ht U H u h A;exact⟨v,I,O,V,X,C,M,J,Q,E,F⟩;cases h;rename_i op q x y t2 U;rw[U] at N;have H:=bR R G x (N x (by simp[Op.operands]));have u:=bR R G y (N y (by simp[Op.operands]));split at h;obtain⟨v,X,M,J,Q,F⟩:=adl (P:=p.P) R w U (.inl ⟨rfl,rfl⟩) H u h A;exact⟨v,W,O,V,X,C,M,J,Q,E,F⟩;obtain⟨v,X,M,J,Q,F⟩:=adl (P:=p.P) R w U (.inr ⟨rfl,rfl⟩) H u h A;exact⟨v,W,O,V,X,C,M,J,Q,E,F⟩;cases h;cases h
end
end
variable{v:aI}
section
def JP(v:Value)(Z:List Int)(g:FuncId):Array Value:=(v::(Z.map (Value.int .i64)++[.func (.func g) #[] #[]])).toArray
def lQ(P:Program)(X:Ty)(f g:FuncId)(e:TypeId)(L:aI)(J:Bool):Prop:=
 (∀U W,(callFunc f U).run P W=.ok (.enter f U) W)/\∀(W:World)(A:Option Addr)(n Z:Nat)(R aA:List (List RV))(O:aa)(Q:List IE)(N:aI),L.fill Q=some N->aX W X (.sl e) (.mk (.slice A n Z) R)->JI W e (ba X (.sl e)).length A Z->kX O N J R=some aA->
  Calls P f (JP (.slice A n Z) (Q.map (IE.den O)) g) W λI M=>I=.returned (.tuple #[])/\W.grownBy M (jB A Z)/\FQ W M e (ba X (.sl e)).length (jB A Z) aA A Z
def Va(P:Program)(p:bh):Prop:=∀f g e Z X,p.Cw f g=some (e,Z,X)->lQ P p.ty f g e Z X
def NN{lt:List RV->List RV->Bool}{x y:List RV}:∀{l:List (List RV)},y∈cU lt x l<->y=x\/y∈l
 |[]=>by simp[cU]
 |z::r=>by
  simp only[cU];split;simp;simp only[axT,NN (l:=r)];constructor;rintro(h|h|h);exact .inr (.inl h);exact .inl h;exact .inr (.inr h);rintro(h|h|h);exact .inr (.inl h);exact .inl h;exact .inr (.inr h)
def adq{lt:List RV->List RV->Bool}{x:List RV}:∀{l:List (List RV)},(cU lt x l).length=l.length+1
 |[]=>rfl
 |z::r=>by
  simp only[cU];split;simp;simp[adq (l:=r)]
def Vb{lt:List RV->List RV->Bool}:∀(l acc:List (List RV)),(∀x,x∈l.foldl (λacc x=>cU lt x acc) acc<->x∈acc\/x∈l)/\(l.foldl (λacc x=>cU lt x acc) acc).length=acc.length+l.length
 |[],acc=>by simp
 |y::l,acc=>by
  obtain⟨Z,X⟩:=Vb (lt:=lt) l (cU lt y acc);refine⟨λx=> ?_, ?_⟩;simp only[ay8,Z,NN,axT];constructor;rintro((h|h)|h);exact .inr (.inl h);exact .inl h;exact .inr (.inr h);rintro(h|h|h);exact .inl (.inr h);exact .inl (.inl h);exact .inr h;simp only[ay8,X,adq,ayu];omega
def JQ{lt:List RV->List RV->Bool}:x∈aU lt X<->x∈X:=by
 rw[aU,(Vb X []).1];simp
def jC{lt:List RV->List RV->Bool}:(aU lt X).length=X.length:=by
 rw[aU,(Vb X []).2];simp
def Vc{sp:aI}(h:dB sp Q X=some L):∀x∈L,x∈X:=by
 cases sp with
 |cz k o U=>simp[dB] at h
 |_=>
  simp only[dB] at h;split at h;cases h;intro x Z;exact JQ.1 Z;cases h
def adr{sp:aI}(h:dB sp Q X=some L):L.length=X.length:=by
 cases sp with
 |cz k o Z=>simp[dB] at h
 |_=>
  simp only[dB] at h;split at h;cases h;exact jC;cases h
def pX(h:x∈aJ X Z G):x∈X:=ayL (ayP h)
def anR(Z:List (List RV))(a b:Nat):(aJ Z a b).length=min (b-a) (Z.length-a):=by simp[aJ]
def anS(h:jX Z v E X=some L):∀x∈L,x∈X:=by
 unfold jX at h;split at h
 all_goals first|(split at h<;>first|(cases h;done)|skip)|skip
 all_goals first|(cases h;done)|skip
 all_goals
  cases h;intro x U;simp only[axS,JQ] at U;rcases U with U|U;exact ayP U
 all_goals
  rcases U with U|U;exact pX U
  first|exact ayL U|(rcases U with U|U<;>first|exact pX U|exact ayL U|(rcases U with U|U<;>first|exact pX U|exact ayL U))
def anT(h:jX Z v E X=some L):L.length=X.length:=by
 unfold jX at h;split at h
 all_goals first|(split at h<;>first|(cases h;done)|skip)|skip
 all_goals first|(cases h;done)|skip
 all_goals
  rename_i U;simp only[axI,decide_eq_true_eq] at U;cases h;simp only[axX,azj,ay9,anR,jC];omega
def wu(h:lN Z v E X=some L):X.length<=1099511627776/\jX Z v E X=some L:=by
 unfold lN at h;split at h;rename_i U;exact⟨U,h⟩;cases h
def anU(h:lN Z v E X=some L):∀x∈L,x∈X:=anS (wu h).2
def anV(h:lN Z v E X=some L):L.length=X.length:=anT (wu h).2
def Vd(h:dB v Q X=some L):X.length<=1099511627776:=by
 cases v with
 |cz k o U=>simp[dB] at h
 |_=>
  simp only[dB] at h;split at h;rename_i Z;simp only[axI,decide_eq_true_eq] at Z;exact Z.1;cases h
def anW(h:kX M v Q X=some L):∀x∈L,x∈X:=by
 cases v with
 |cz k o U=>exact anU h
 |lex Z d=>exact Vc (sp:=.lex Z d) h
 |ratio n d=>exact Vc (sp:=.ratio n d) h
def ads(h:kX M v Q X=some L):L.length=X.length:=by
 cases v with
 |cz k o U=>exact anV h
 |lex Z d=>exact adr (sp:=.lex Z d) h
 |ratio n d=>exact adr (sp:=.ratio n d) h
section
variable{q:List Nat}{w:World}{D:bB}{P:Program}{p:bh}{V:List Nat}{O:aa}{s:S}{a:Act}{W:World}
def anX(h:dF W p.ty U X)(H:∀x∈L,x∈X):dF W p.ty U L:=by
 have I:∀{i:Nat}{Z:List RV},L[i]?=some Z->∃R,X[R]?=some Z:=λh=>ayx (H _ (ax4 h))
 refine⟨λi Z Q=> ?_,λi j Z c k Q M J=> ?_,λi j Z c Q M J=> ?_,λi j Z c z k Q M J=> ?_⟩;obtain⟨R,N⟩:=I Q;exact h.len R Z N;obtain⟨R,N⟩:=I Q;exact h.int R j Z c k N M J;obtain⟨R,N⟩:=I Q;exact h.bool R j Z c N M J;obtain⟨R,N⟩:=I Q;exact h.aq R j Z c z k N M J
def anY(R:∀x∈L,x∈X)(h:kg p.ty U L Z):kg p.ty U X Z:=by
 obtain⟨i,j,Q,c,z,k,N,M,J,I⟩:=h;obtain⟨H,G⟩:=ayx (R _ (ax4 N));exact⟨H,j,Q,c,z,k,G,M,J,I⟩
def anZ(Z:ao q w D p.ty R M H i J)(X:dC p.gl M){g:FuncId}(h:db p H I=.call (.fn g) N)
  (L:∀N J,(callFunc g N).run P J=.ok (.enter g N) J):(execOp i.eval I).run P J=.ok (.enter g (SV.ap M R N).toArray) J:=by
 unfold db at h;split at h;split at h<;>cases h;rename_i c G;split at h;rename_i f F;split at h;rename_i z y U;split at h;cases h;rename_i E;cases h;have Q:=bR Z X f (by rw[U];rfl);rw[U,SV.den] at Q;have C:c.args.map i.eval=(SV.ap M R (c.args.toList.map (H.ev p.gl))).toArray:=by
  apply ayF;simp only[ayI,lL,ayw];exact ax7 λx B=>bR Z X x (by
   cases A:(H.ev p.gl x).cR;rfl;exact absurd (ayh.2 ⟨x,B,A⟩) E)
 simp only[execOp,G,resolve,F,Sem.run_bind,Q,Deferred.ofValue,Sem.run_pure,Result.andThen_ok,invoke,C,Ni];simp only[aAu,L,ax2];split at h<;>cases h;cases h;cases h;split at h;split at h<;>cases h;cases h;cases h;cases h
def an1{g:Cy}(h:db p H I=.call g N)(c:Call):I.op≠ .defer c:=by
 intro Z;simp[db,Z] at h
def adt{O:aa}{V:List Nat}:∀{l:List SV}{as:List IE}{g:FuncId},Jc l=some (as,g)->SV.ap O V l=(as.map (IE.den O)).map (Value.int .i64)++[.func (.func g) #[] #[]]
 |[],as,g,h=>by simp[Jc] at h
 |v::r,as,g,h=>by
  unfold Jc at h;split at h;rename_i Q Z;cases h;injection Z with X U;subst X;subst U;simp[SV.ap,SV.den];rename_i e N Z;injection Z with X U;subst X;subst U;split at h;rename_i x R;cases h;have:=adt (O:=O) (V:=V) (as:=x.1) (g:=x.2) R;simp[SV.ap,SV.den,this];cases h;cases h
def an2(hs:Va P p)(R:ao q w D p.ty V O s a W)(hg:dC p.gl O){u:TuI}(h:yf p b s=some u)(U:kX O u.sp u.st (u.r.rv O).rows=some X):
  ∃x,(execOp a.eval b.o).run P W=.ok (.enter u.f x) W/\(∀c,b.o.op≠ .defer c)/\Calls P u.f x W λH M=>H=.returned (.tuple #[])/\ao q w D p.ty V (O.add (.r (.mk (u.r.rv O).val X))) u.s (a.put b.o.dst (.tuple #[])) M/\bl s O V u.s (O.add (.r (.mk (u.r.rv O).val X))) V:=by
 unfold yf at h;split at h;cases h;rename_i l;simp only[ayb,ax0,not_or,azc] at l;have j:=l.2;split at h;rename_i f r bb d;have ac:=λc=>an1 d c
 split at h;rename_i G g a3;split at h;rename_i e sp sb a4;obtain⟨a5,af⟩:=hs f g e sp sb a4;have ag:(execOp a.eval b.o).run P W=.ok (.enter f (JP (r.den O) (G.map (IE.den O)) g)) W:=by
  rw[anZ R hg d a5];simp only[SV.ap,SV.den,adt a3,JP]
 split at h;rename_i al an;split at h;rename_i k;split at h;rename_i Q;cases h;obtain⟨A,n,N,L,F,h3⟩:=ND R Q;have J:(RE.v k).rv O=O.rv k:=rfl;simp only[J] at U⊢;rw[L] at U;simp only[RV.jz] at U;have a0:=anW U;have E:=ads U;obtain⟨hn,bd⟩:=qW F;refine⟨_,ag,ac, ?_⟩;have C:(RE.v k).den O=.slice A n N:=by rw[RE.den,J,L];rfl
 rw[C];refine(af W A n N _ X O G al an F h3 U).mono ?_;rintro H M ⟨rfl,B,z⟩;have a6:yE p.ty V O s e X []:=λZ y=>by
  have a1:=anY a0 y;have hl:=FO (O:=O) (e0:=.own e) rfl (by simpa[RE.rv] using a1);exact⟨⟨k,_,Q,hl⟩,(R.mem.ref k _ _ Q (qX R Q)).2 Z hl,λk' t rv g1 g2 g3=>(JF R g1 g2 g3 Q rfl (by simpa[RE.rv] using a1)).elim⟩
 obtain⟨I,-⟩:=R.bind j (old:=jB A N) (kill:=[k]) (frz:=[]) (A:=A) (cap:=N) (W':=M) (.inr ⟨k,e,O.rv k,rfl,Q,qX R Q,by rw[L,JH]⟩) (by simp) B (anX (dF.ux F) a0) a6 z;rw[E,hn] at I;have a2:(O.rv k).val=.slice A n N:=by rw[L];rfl
 rw[a2];have a7:k<O.r.length:=by rw[R.er];exact(axJ.1 Q).1
 have a8:(O.add (.r (.mk (.slice A n N) X))).rv k=O.rv k:=by simp[aa.rv,aa.add,axL a7]
 have a9:(O.add (.r (.mk (.slice A n N) X))).rv s.rs.length=.mk (.slice A n N) X:=by simp[aa.rv,aa.add,<-R.er]
 have R2:=(I.jp (k:=k) (n:=s.rs.length) (by rw[a8,a9,a2];rfl)).put b.o.dst (.bm []);refine⟨rfl,R2, ?_⟩;refine bl.put (s:=s) (s':=({s with rs:=i7 [] 0 (gr [k] 0 s.rs)++[.own e]}:S).jp k s.rs.length) ⟨pe _ _ _ _,λi hi=> ?_, ?_,axQ _⟩ _ _;simp only[S.jp];rw[C1];exact hi;simp[S.jp,JM];cases h;cases h;have J:(RE.k (.slice none 0 0)).rv O=.mk (.slice none 0 0) []:=rfl;simp only[J,RV.jz,RV.kf] at U⊢;have E:=ads U;have h0:X=[]:=ayd (by simpa using E);subst h0;refine⟨_,ag,ac, ?_⟩;have C:(RE.k (.slice none 0 0)).den O=.slice none 0 0:=rfl;rw[C];refine(af W none 0 0 [] [] O G al an (yD _ _) ⟨λ_=>rfl,.inl rfl⟩ U).mono ?_;rintro H M ⟨rfl,B,z⟩;obtain⟨I,-⟩:=R.bind j (old:=none) (kill:=[]) (frz:=[]) (A:=none) (cap:=0) (rows:=[]) (W':=M) (.inl ⟨rfl,rfl⟩) (by simp) B (dF.ux (yD (e:=e) none 0)) (λZ y=>(JE y).elim) z;refine⟨rfl,I.put b.o.dst (.bm []), ?_⟩;exact bl.put (s:=s) (s':={s with rs:=i7 [] 0 (gr [] 0 s.rs)++[.own e]}) ⟨pe _ _ _ _,λ_ h=>h,axQ _,axQ _⟩ _ _;cases h;cases h;cases h;cases h;cases h
end
end
section
structure nc(F:Fence):Prop where
 fn:∀f,F.fn f
 wv:F.depth=none
 eq:∀P,Machine.fenced P F=Machine.fenced P Fence.wide
def an3:nc Fence.wide:=⟨λ_=>trivial,rfl,λ_=>rfl⟩
def adu(l:Nat):nc (Fence.wide.inRound l):=⟨λ_=>trivial,rfl,λ_=>rfl⟩
def nc.calls{F:Fence}(X:nc F){P:Program}{f:FuncId}{W:Array Value}{R:Ending->World->Prop}(h:Calls P f W J R):CallsIn F Z P f W J R:=by
 have V:=(callsIn_wide (n:=Z)).2 h;refine⟨X.fn f,λU _=> ?_⟩;obtain⟨e,Q,O,r,c,x⟩:=V.2 U (room_wide _);exact⟨e,Q,O,r,by rw[X.eq];exact c,x⟩
def Ve{p:Sp}{V:Fx}{b:BE}{Z f:Fx->T}(X:pW M V)(h:(ye H V b Z f).aG p M t):
  ∃U,pW M U/\(if b.den M then(Z U).aG p M t else(f U).aG p M t):=by
 unfold ye at h;split at h;rename_i R;exact⟨V,X,by rw[NJ X R];exact h⟩;rename_i R;exact⟨V,X,by rw[NJ X R];exact h⟩;split at h;simp only[T.aG] at h;cases W:b.den M;exact⟨_,ac6 X W,by simpa[W] using h.2 W⟩;exact⟨_,ac6 X W,by simpa[W] using h.1 W⟩;exact h.elim
def bZ(n:Nat)(L Z:List LC):Prop:=∀l,l<n->kG l Z=kG l L
def bZ.refl(n:Nat)(L:List LC):bZ n L L:=λ_ _=>rfl
def bZ.trans{n m:Nat}{L Z X:List LC}(h:bZ n L Z)(k:bZ m Z X)(V:n<=m):bZ n L X:=λl W=>(k l (by omega)).trans (h l W)
def an4(p:Sp)(O:aa):Cy->Array Value->World->(Ending->World->Prop)->Prop
 |.fn g,Z,W,X=>(∀Z W,(callFunc g Z).run p.P W=.ok (.enter g Z) W)/\Calls p.P g Z W X
 |.yl n,Z,W,X=>∀(F:Fence)(_:nc F)(m:Nat),YieldAt F m p.P (O.y.getD n 0) Z W X
structure jD where
 s:S
 O:aa
 V:List Nat
 L:List LC
structure jD.n7(B:jD)(s:S)(O:aa)(V:List Nat)(L:List LC):Prop where
 later:bl B.s B.O B.V s O V
 NO:bZ B.s.av B.L L
def jD.n7.go{B:jD}{Z:S}{X:aa}{W:List Nat}{U:List LC}(h:B.n7 H M R t)(Q:bl H M R Z X W)(P:bZ H.av t U):B.n7 Z X W U:=⟨h.later.trans Q,h.NO.trans P h.later.av⟩
def adv(p:Sp)(A:bh)(D:bB)(B:jD)(C:oR):Prop:=
 ∀(L:List LC)(g:Cy)(M:List SV)(s:S)(k J:SV->S->T)(O:aa)(V:List Nat)(a:Act)(W:World)(N:Ending->World->Prop),B.n7 s O V L->
  (C g M s k J).aG p O L->ao p.S0 p.w0 D A.ty V O s a W->dC A.gl O->
  (∀v U Z Q X P,bl s O V U Z Q->bZ s.av L P->ao p.S0 p.w0 D A.ty Q Z U a X->(k v U).aG p Z P->N (.returned (v.den Z Q)) X)->
  (∀v U Z Q X P,bl s O V U Z Q->bZ s.av L P->ao p.S0 p.w0 D A.ty Q Z U a X->(J v U).aG p Z P->N (.panicked [{v:=v.den Z Q,recovered:=false}]) X)->
  (∀I X H y,cL p.w0 D H y a.defers X->p.R (.panicked I) X->N (.panicked I) X)->
  an4 p O g (SV.ap O V M).toArray W N
section
variable{p:Sp}{A:bh}{C:oR}{F:Fence}{D:bB}{ops:Array Oper}
def adw(X:ao p.S0 p.w0 D A.ty R M H i J){j:Nat}(Q:(ops[j]?).bind (·.dst)=some Z):
  (∀b,H.tmps[Z]?=some (.bool b)->yielded ops i.tmps j=some (b.den M))/\(H.tmps[Z]?=some (.bm [])->yielded ops i.tmps j=none):=by
 constructor;intro b U;rcases X.tmps Z _ U with h|h;cases h;simp[yielded,Q,h,SV.den];intro U;rcases X.tmps Z _ U with h|h;cases h;simp[yielded,Q,h,SV.den]
def NP(Z:ao p.S0 p.w0 D A.ty R M H i J)(X:dC A.gl M){g:FuncId}(h:db A H I=.call (.fn g) N)
  (L:∀N J,(callFunc g N).run p.P J=.ok (.enter g N) J):(execOp i.eval I).run p.P J=.ok (.enter g (SV.ap M R N).toArray) J:=by
 unfold db at h;split at h;split at h<;>cases h;rename_i c G;split at h;rename_i f E;split at h;rename_i w v U;split at h;cases h;rename_i C;cases h;have Q:=bR Z X f (by rw[U];rfl);rw[U,SV.den] at Q;have B:c.args.map i.eval=(SV.ap M R (c.args.toList.map (H.ev A.gl))).toArray:=by
  apply ayF;simp only[ayI,lL,ayw];exact ax7 λx z=>bR Z X x (by
   cases y:(H.ev A.gl x).cR;rfl;exact absurd (ayh.2 ⟨x,z,y⟩) C)
 simp only[execOp,G,resolve,E,Sem.run_bind,Q,Deferred.ofValue,Sem.run_pure,Result.andThen_ok,invoke,B,Ni];simp only[aAu,L,ax2];split at h<;>cases h;cases h;cases h;split at h;split at h<;>cases h;cases h;cases h;cases h
def adx(X:ao p.S0 p.w0 D A.ty R M H i J)(U:dC A.gl M)(h:db A H I=.call (.yl Z) N):
  (execOp i.eval I).run p.P J=(Instr.yield (M.y.getD Z 0) (SV.ap M R N).toArray).run p.P J:=by
 unfold db at h;split at h;split at h<;>cases h;rename_i c G;split at h;rename_i f E;split at h;split at h<;>cases h;rename_i v Q;split at h;cases h;rename_i C;cases h;have L:=bR X U f (by rw[Q];rfl);rw[Q,SV.den] at L;have B:c.args.map i.eval=(SV.ap M R (c.args.toList.map (H.ev A.gl))).toArray:=by
  apply ayF;simp only[ayI,lL,ayw];exact ax7 λx z=>bR X U x (by
   cases w:(H.ev A.gl x).cR;rfl;exact absurd (ayh.2 ⟨x,z,w⟩) C)
 simp[execOp,G,resolve,E,L,Deferred.ofValue,invoke,B];cases h;cases h;split at h;split at h<;>cases h;cases h;cases h;cases h
def Vf{s:S}{O:aa}{V:List Nat}{L:List LC}{e:IE}{I:FuncId->List SV->T}:∀{U:List Int}{R:List SV},(Ai e I U R).aG p O L->∃g Q,gW (e.den O) U (SV.ap O V R)=.func (.func g) #[] (SV.ap O V Q).toArray/\(I g Q).aG p O L
 |[],R,h=>by simp only[Ai] at h;exact h.elim
 |k::U,[],h=>by simp only[Ai] at h;exact h.elim
 |k::U,v::R,h=>by
  unfold Ai at h;split at h;rename_i H G g Q E X W;simp only[ayH] at X W;obtain⟨rfl,rfl⟩:=X;obtain⟨rfl,rfl⟩:=W;simp only[T.aG,BE.den,eG,IE.den] at h;by_cases Z:e.den O=k;exact⟨g,Q,by simp[SV.ap,SV.den,gW,Z,fG],h.1 (by simp[Z])⟩;obtain⟨P,N,M,J⟩:=Vf (s:=s) (V:=V) (h.2 (by simp[Z]));exact⟨P,N,by simp only[SV.ap,gW,Z,if_false];exact M,J⟩;rename_i H G E X W;simp only[ayH] at X W;obtain⟨rfl,rfl⟩:=X;obtain⟨rfl,rfl⟩:=W;simp only[T.aG,BE.den,eG,IE.den] at h;by_cases Z:e.den O=k;exact(h.1 (by simp[Z])).elim;obtain⟨P,N,M,J⟩:=Vf (s:=s) (V:=V) (h.2 (by simp[Z]));exact⟨P,N,by simp only[SV.ap,gW,Z,if_false];exact M,J⟩;exact h.elim
def an5(Z:ao p.S0 p.w0 D A.ty R M H i J)(U:dC A.gl M){e:IE}{X Q:List SV}{g:FuncId}(h:vZ A b H=some (e,E,N,X))
  (z:gW (e.den M) E (SV.ap M R N)=.func (.func g) #[] (SV.ap M R Q).toArray)(y:∀X J,(callFunc g X).run p.P J=.ok (.enter g X) J):
  (execOp i.eval b.o).run p.P J=.ok (.enter g (SV.ap M R (X++Q)).toArray) J/\∀c,b.o.op≠ .defer c:=by
 unfold vZ at h;split at h;cases h;split at h;rename_i c L;split at h;rename_i f w;split at h;rename_i r q n I;split at h;cases h;rename_i G;simp only[ayb,not_or] at G;cases h;have C:=bR Z U f (by rw[I];rfl);rw[I,SV.den,z] at C;have v:c.args.map i.eval=(SV.ap M R (c.args.toList.map (H.ev A.gl))).toArray:=by
  apply ayF;simp only[ayI,lL,ayw];exact ax7 λx u=>bR Z U x (by
   cases t:(H.ev A.gl x).cR;rfl;exact absurd (ayh.2 ⟨x,u,t⟩) G.1)
 refine⟨?_,λl B=>by rw[L] at B;cases B⟩;simp only[execOp,L,resolve,w,Sem.run_bind,C,Deferred.ofValue,Sem.run_pure,Result.andThen_ok,invoke,v,Ni];simp only[aAu,y,ax2];cases h;cases h;cases h
def ady{s:S}{a:Act}{W:World}{O:aa}{V:List Nat}(R:ao p.S0 p.w0 D A.ty V O s a W)(Q:dC A.gl O){o:Oper}{v:SV}(h:db A s o=.aW v):
  (execOp a.eval o).run p.P W=.halt (.panic (v.den O V)) W:=by
 unfold db at h;split at h;rename_i x U;split at h;rename_i t y X;cases h;have Z:=bR R Q x (by rw[X];rfl);rw[X] at Z;simp[execOp,U,Z,SV.den,Instr.panic];cases h;rename_i c U;split at h;split at h;split at h<;>cases h;split at h<;>cases h;cases h;cases h;rename_i M;split at h;rename_i x X;split at h;rename_i t y N;cases h;have Z:=bR R Q x (by rw[N];rfl);rw[N] at Z;have:c.args.map a.eval= #[a.eval x]:=by apply ayF;simp[X]
 simp[execOp,U,resolve,M,invoke,builtin,this,Z,SV.den,Instr.panic];cases h;cases h;cases h;cases h
def yF{X:World}{v:Value}{K:Act->World->Prop}{Q:Exit->Act->World->Prop}(U:nc F)(h:pf p.P I i J v X)(R:∀c,I.op≠ .defer c)(V:K (i.put I.dst v) X):I.wpIn F Z p.P i J K Q:=by
 refine⟨λf _=>U.fn f, ?_⟩;rw[Oper.semAt_eq _ _ _ R];rcases h with h|⟨h,rfl⟩;rw[h];exact V;rw[h];exact V
def Vg{Z:Bool}{b:BI}(h:cP A I Q Z H=some b):∀c,I.op≠ .defer c:=by
 intro c C;simp[cP,C] at h
def an6{Z:S->Fx->T}{X:Fx}{t:T}(h:vY A b H Z X=some t):∀c,b.o.op≠ .defer c:=by
 intro c C;simp[vY,C] at h
def JR{Z:S}(h:(dR A b H).gives M Z):∀c,b.o.op≠ .defer c:=by
 intro c C;unfold dR at h;split at h;exact h.elim;rw[C] at h;simp[bz,oT,OR.gives] at h
def yG(a5:p.ty=A.ty)(a6:Va p.P A)(r:nc F)(al:fK p.P A.ty){B:jD}(hH:adv p A D B C){n:Nat}{k:S->T}{kp:SV->S->T}{Q:Exit->Act->World->Prop}(HP:∀ch a' X pd y,cL p.w0 D pd y a'.defers X->p.R (.panicked ch) X->Q (.panic ch) a' X):
  ∀(l:List OM)(j:Nat)(s:S)(fx:Fx)(L:List LC)(O:aa)(V:List Nat)(a:Act)(W:World),
   (∀i m,l[i]?=some m->ops[j+i]?=some m.o)->B.n7 s O V L->
   (kD A C ops k kp l s fx).aG p O L->pW O fx->ao p.S0 p.w0 D A.ty V O s a W->dC A.gl O->
   (∀N O' V' a' X L',bl s O V N O' V'->bZ s.av L L'->ao p.S0 p.w0 D A.ty V' O' N a' X->(k N).aG p O' L'->Q .normal a' X)->
   (∀v N O' V' a' X L',bl s O V N O' V'->bZ s.av L L'->ao p.S0 p.w0 D A.ty V' O' N a' X->(kp v N).aG p O' L'->Q (.panic [{v:=v.den O' V',recovered:=false}]) a' X)->
   wpOpsIn F n p.P ops Q (ay5 j l.length) a W
 |[],j,s,fx,L,O,V,a,W,_,_,h,_,R,_,hk,_=>hk s O V a W L (bl.refl _ _ _) (bZ.refl _ _) R h
 |m::ac,j,s,fx,L,O,V,a,W,b4,hB,h,bt,R,hg,hk,an=>by
  have ho:ops[j]?=some m.o:=by simpa using b4 0 m rfl
  have a8:∀i m',ac[i]?=some m'->ops[j+1+i]?=some m'.o:=λi m' hi=>by
   have:=b4 (i+1) m' (by simpa using hi)
   rwa [show j+(i+1)=j+1+i by omega] at this
  simp only[ayu,azV,wpOpsIn,ho];have b0:∀af,pW O af->
    (aa1 A C m s (kD A C ops k kp ac) kp af).aG p O L->
    m.o.wpIn F n p.P a W (wpOpsIn F n p.P ops Q (ay5 (j+1) ac.length)) Q:=by
   intro af a0 h;unfold aa1 at h;have bi:∀g ag,(C (.fn g) ag s (λv N=>kD A C ops k kp ac (N.put m.o.dst v) (lH s af)) kp).aG p O L->((∀ag W,(callFunc g ag).run p.P W=.ok (.enter g ag) W)->(execOp a.eval m.o).run p.P W=.ok (.enter g (SV.ap O V ag).toArray) W)->(∀c,m.o.op≠ .defer c)->
     m.o.wpIn F n p.P a W (wpOpsIn F n p.P ops Q (ay5 (j+1) ac.length)) Q:=by
    intro g ag h b1 a9;have hC:=hH L (.fn g) ag s _ _ O V a W (λe X=>match e with
      |.returned v=>wpOpsIn F n p.P ops Q (ay5 (j+1) ac.length) (a.put m.o.dst v) X
      |.panicked ch=>Q (.panic ch) a X
      |.outgrown=>LetsOut Q) hB h R hg
     (λv N O' V' X L' Z hL R' hs=>yG a5 a6 r al hH HP ac (j+1) (N.put m.o.dst v) (lH s af) L' O' V' _ X a8 (hB.go (Z.put _ _) hL) hs
      (C2 R Z.ext.agree a0) (R'.put m.o.dst v) (hg.ext Z.ext)
      (λU M J I H G E z x w=>hk U M J I H G ((Z.put _ _).trans E) (hL.trans z (Z.put _ _).av) x w)
      (λv2 U M J I H G E z x w=>an v2 U M J I H G ((Z.put _ _).trans E) (hL.trans z (Z.put _ _).av) x w))
     (λv N O' V' X L' Z hL R' hs=>an v N O' V' a X L' Z hL R' hs)
     (λch X pd y hA hR=>HP ch a X pd y hA hR)
    obtain⟨bk,b2⟩:=hC;refine⟨λf _=>r.fn f, ?_⟩;rw[Oper.semAt_eq _ _ _ a9,b1 bk];rw[Oper.uponIn_enter];refine⟨λhd=>by rw[r.wv] at hd;simp at hd,CallsIn.mono (r.calls b2) (λe X he=> ?_)⟩;cases e<;>exact he
   split at h;rename_i e ks vs ag b5;obtain⟨g,b8,q1,q2⟩:=Vf (s:=s) (V:=V) h;refine bi g (ag++b8) q2 (λbk=>(an5 R hg b5 q1 bk).1) ?_;intro c bb;simp[vZ,bb] at b5;split at h;rename_i u hu;obtain⟨aA,hr,h⟩:=h;obtain⟨ag,b1,a9,b2⟩:=an2 a6 R hg hu hr;refine⟨λf _=>r.fn f, ?_⟩;rw[Oper.semAt_eq _ _ _ a9,b1];rw[Oper.uponIn_enter];refine⟨λhd=>by rw[r.wv] at hd;simp at hd,CallsIn.mono (r.calls b2) (λe X he=> ?_)⟩;obtain⟨rfl,R',Z⟩:=he;exact yG a5 a6 r al hH HP ac (j+1) u.s (lH s af) L _ V _ X a8 (hB.go Z (bZ.refl _ _)) h (C2 R Z.ext.agree a0) R' (hg.ext Z.ext)
    (λU M J I H G E z x w=>hk U M J I H G (Z.trans E) ((bZ.refl _ _).trans z Z.av) x w)
    (λv2 U M J I H G E z x w=>an v2 U M J I H G (Z.trans E) ((bZ.refl _ _).trans z Z.av) x w)
   split at h;rename_i g ag br;exact bi g ag h (λbk=>NP R hg br bk) (λc bb=>by simp[db,bb] at br);rename_i yn ag br;split at h;have hC:=hH L (.yl yn) ag s _ _ O V a W (λe X=>match e with
    |.returned v=>wpOpsIn F n p.P ops Q (ay5 (j+1) ac.length) (a.put m.o.dst v) X
    |.panicked ch=>Q (.panic ch) a X
    |.outgrown=>LetsOut Q) hB h R hg
    (λv N O' V' X L' Z hL R' hs=>yG a5 a6 r al hH HP ac (j+1) (N.put m.o.dst v) (lH s af) L' O' V' _ X a8 (hB.go (Z.put _ _) hL) hs
     (C2 R Z.ext.agree a0) (R'.put m.o.dst v) (hg.ext Z.ext)
     (λU M J I H G E z x w=>hk U M J I H G ((Z.put _ _).trans E) (hL.trans z (Z.put _ _).av) x w)
     (λv2 U M J I H G E z x w=>an v2 U M J I H G ((Z.put _ _).trans E) (hL.trans z (Z.put _ _).av) x w))
    (λv N O' V' X L' Z hL R' hs=>an v N O' V' a X L' Z hL R' hs)
    (λch X pd y hA hR=>HP ch a X pd y hA hR)
   obtain⟨fn,cs,assign,body,hy,ca⟩:=hC F r (n-1);refine⟨λf _=>r.fn f, ?_⟩;have a9:∀c,m.o.op≠ .defer c:=λc bb=>by simp[db,bb] at br
   rw[Oper.semAt_eq _ _ _ a9,adx R hg br,hy];rw[Oper.uponIn_round];refine⟨λhd=>by rw[r.wv] at hd;simp at hd,RoundIn.mono ca (λe X he=> ?_)⟩;cases e<;>exact he;exact h.elim;rename_i v b6;refine⟨λf _=>r.fn f, ?_⟩;have a9:∀c,m.o.op≠ .defer c:=λc bb=>by simp[db,bb] at b6
   rw[Oper.semAt_eq _ _ _ a9,ady R hg b6];exact an v s O V a W L (bl.refl _ _ _) (bZ.refl _ _) R h;exact h.elim;have bx:∀N bX,pW O bX->(dR A m s).gives O N->(kD A C ops k kp ac N bX).aG p O L->m.o.wpIn F n p.P a W (wpOpsIn F n p.P ops Q (ay5 (j+1) ac.length)) Q:=by
    intro N bX cc b7 hs;obtain⟨v,X,V',bs,R',Z⟩:=JJ R al hg m b7;exact yF r bs (JR b7) (yG a5 a6 r al hH HP ac (j+1) N bX L O V' _ X a8 (hB.go Z (bZ.refl _ _)) hs cc R' hg
     (λU M J I H G E z x w=>hk U M J I H G (Z.trans E) ((bZ.refl _ _).trans z Z.av) x w)
     (λv2 U M J I H G E z x w=>an v2 U M J I H G (Z.trans E) ((bZ.refl _ _).trans z Z.av) x w))
   split at h;rename_i t ht;obtain⟨v,X,O',V',N,a1,bs,R',Z,a3,h2⟩:=anQ R al hg a0 ht h;exact yF r bs (an6 ht) (yG a5 a6 r al hH HP ac (j+1) N a1 L O' V' _ X a8 (hB.go Z (bZ.refl _ _)) h2 a3 R' (hg.ext Z.ext)
    (λU M J I H G E z x w=>hk U M J I H G (Z.trans E) ((bZ.refl _ _).trans z Z.av) x w)
    (λv2 U M J I H G E z x w=>an v2 U M J I H G (Z.trans E) ((bZ.refl _ _).trans z Z.av) x w))
   split at h;rename_i b hb;obtain⟨hn,h⟩:=h;obtain⟨v,X,rv,bs,cl,R',Z⟩:=UY R al hg hb hn;exact yF r bs (Vg hb) (yG a5 a6 r al hH HP ac (j+1) b.s (lH s af) L _ V _ X a8 (hB.go Z (bZ.refl _ _)) (h rv (by rw[a5];exact cl)) (C2 R Z.ext.agree a0) R' (hg.ext Z.ext)
    (λU M J I H G E z x w=>hk U M J I H G (Z.trans E) ((bZ.refl _ _).trans z Z.av) x w)
    (λv2 U M J I H G E z x w=>an v2 U M J I H G (Z.trans E) ((bZ.refl _ _).trans z Z.av) x w))
   split at h;rename_i N bd;exact bx N af a0 (by rw[bd];rfl) h;rename_i b N bd;exact bx N af a0 (by rw[bd];exact⟨h.1,rfl⟩) h.2;rename_i b s1 U bd;obtain⟨a1,a3,h2⟩:=Ve a0 h;cases hb:b.den O;exact bx U a1 a3 (by rw[bd];simp[OR.gives,hb]) (by simpa[hb] using h2);exact bx s1 a1 a3 (by rw[bd];simp[OR.gives,hb]) (by simpa[hb] using h2);exact h.elim
  have b3:∀af,pW O af->(kD A C ops k kp ac (s.put m.o.dst (.bm [])) af).aG p O L->wpOpsIn F n p.P ops Q (ay5 (j+1) ac.length) (a.put m.o.dst undef) W:=
   λaf a0 h=>yG a5 a6 r al hH HP ac (j+1) _ af L O V _ W a8 (hB.go ((bl.refl _ _ _).put _ _) (bZ.refl _ _)) h a0 (R.put m.o.dst (.bm [])) hg
    (λU M J I H G E z x w=>hk U M J I H G (((bl.refl _ _ _).put _ _).trans E) ((bZ.refl _ _).trans z ((bl.refl s O V).put _ _).av) x w)
    (λv2 U M J I H G E z x w=>an v2 U M J I H G (((bl.refl _ _ _).put _ _).trans E) ((bZ.refl _ _).trans z ((bl.refl s O V).put _ _).av) x w)
  simp only[kD,MZ] at h;cases a7:m.o.guard with
  |none=>
   rw[a7] at h;have:Region.wanted m.o (yielded ops a.tmps)=true:=by simp[Region.wanted,a7]
   rw[if_pos this];exact b0 fx bt h
  |some q=>
   obtain⟨jj,cp⟩:=q;rw[a7] at h;simp only at h;split at h;rename_i d hd;have hy:=adw R hd;split at h;rename_i b hb;have bf:=hy.1 b hb;cases cp;simp only[ax3,if_false] at h;obtain⟨a1,a3,h2⟩:=Ve bt h;cases a4:b.den O;have:Region.wanted m.o (yielded ops a.tmps)=true:=by simp[Region.wanted,a7,bf,a4]
   rw[if_pos this];exact b0 a1 a3 (by simpa[a4] using h2);have:¬Region.wanted m.o (yielded ops a.tmps)=true:=by simp[Region.wanted,a7,bf,a4]
   rw[if_neg this];exact⟨λf _=>r.fn f,b3 a1 a3 (by simpa[a4] using h2)⟩;simp only[if_true] at h;obtain⟨a1,a3,h2⟩:=Ve bt h;cases a4:b.den O;have:¬Region.wanted m.o (yielded ops a.tmps)=true:=by simp[Region.wanted,a7,bf,a4]
   rw[if_neg this];exact⟨λf _=>r.fn f,b3 a1 a3 (by simpa[a4] using h2)⟩;have:Region.wanted m.o (yielded ops a.tmps)=true:=by simp[Region.wanted,a7,bf,a4]
   rw[if_pos this];exact b0 a1 a3 (by simpa[a4] using h2);rename_i hb;have bf:=hy.2 hb;have:¬Region.wanted m.o (yielded ops a.tmps)=true:=by simp[Region.wanted,a7,bf]
   rw[if_neg this];exact⟨λf _=>r.fn f,b3 fx bt h⟩;exact h.elim;exact h.elim
end
end
section
section
variable{m:List Nat}{o:World}{D:bB}{c:Ty}{V:List Nat}{O:aa}{s:S}{a:Act}{W:World}
def NQ(Z:List Nat):∀(l:aY)(n i:Nat),(nT Z n l)[i]?=(l[i]?).map λx=>if Z.contains (n+i) then x else none
 |[],n,i=>by simp[nT]
 |x::X,n,0=>by simp[nT]
 |x::X,n,i+1=>by
  simp only[nT,ayk];rw[NQ Z X (n+1) i,show n+1+i=n+(i+1) by omega]
def Vh:∀(l:aY)(i:Nat),bF (qO l) i=bF l i
 |[],i=>rfl
 |x::X,i=>by
  have Z:=Vh X;simp only[qO];split;rename_i U;cases i with
  |zero=>simp[bU]
  |succ i=>
   have:=Z i;rw[U] at this;simpa[bU] using this
  cases i with
  |zero=>simp[bU]
  |succ i=>simpa[bU] using Z i
def adz{l:aY}{b:TypeId×List SV}(h:bF (qO (nT R 0 l)) Z=some b):bF l Z=some b:=by
 rw[Vh,gG,NQ] at h;rw[gG];cases X:l[Z]? with
 |none=>rw[X] at h;cases h
 |some x=>
  rw[X] at h;simp only[axR,axM] at h;split at h;rw[h];cases h
def NR{l:aY}(h:aD (qO (nT R 0 l)) Z=true):aD l Z=true:=by
 obtain⟨b,X⟩:=ax1.1 h;simp[aD,adz X]
def gY.Uo{U:aY}{Q:List RK}(R:gY m o V O U c Q W)(N:List Nat):gY m o V O (qO (nT N 0 U)) c Q W:=
 ⟨R.base,λi h=>R.own i (NR h),λi j Z X=>R.inj i j (NR Z) (NR X),λi t M h=>R.box i t M (adz h),
  λk e P Z X=>⟨(R.ref k e P Z X).1,λb L i J=>(R.ref k e P Z X).2 b L i (NR J)⟩⟩
def adA{l:aY}{b:TypeId×List SV}(h:bF (qO (l.take Z)) G=some b):bF l G=some b:=by
 rw[Vh,gG,ayi] at h;rw[gG];split at h;exact h;cases h
def NS{l:aY}(h:aD (qO (l.take Z)) G=true):aD l G=true:=by
 obtain⟨b,X⟩:=ax1.1 h;simp[aD,adA X]
def gY.take{U:aY}{Q:List RK}(R:gY m o V O U c Q W)(n:Nat):gY m o V O (qO (U.take n)) c Q W:=
 ⟨R.base,λi h=>R.own i (NS h),λi j Z X=>R.inj i j (NS Z) (NS X),λi t N h=>R.box i t N (adA h),
  λk e P Z X=>⟨(R.ref k e P Z X).1,λb M i L=>(R.ref k e P Z X).2 b M i (NS L)⟩⟩
def sJ:∀(Z:List LK)(s:S),(s.bE Z).2.boxes=s.boxes/\(s.bE Z).2.tmps=s.tmps/\(s.bE Z).2.av=s.av/\(s.bE Z).2.lk=s.lk
 |[],s=>⟨rfl,rfl,rfl,rfl⟩
 |k::Z,s=>by
  simp only[S.bE];obtain⟨X,U,R,Q⟩:=sJ Z (s.fresh k).2;cases k<;>exact⟨X,U,R,Q⟩
def Vi:∀(Z:List LK)(s:S),(s.bE Z).2.pd=s.pd
 |[],s=>rfl
 |k::Z,s=>by
  simp only[S.bE];rw[Vi Z (s.fresh k).2];cases k<;>rfl
def FX:∀(Z:List XV)(O:aa),(O.ext Z).y=O.y
 |[],O=>rfl
 |x::Z,O=>by
  simp only[aa.ext];rw[FX Z (O.add x)];cases x<;>rfl
def adB:∀(Z:List LK)(s:S)(k:Nat)(e:RK),s.rs[k]?=some e->(s.bE Z).2.rs[k]?=some e
 |[],s,k,e,h=>h
 |q::Z,s,k,e,h=>by
  simp only[S.bE];refine adB Z _ k e ?_;cases q;exact h;exact h;simp only[S.fresh];rw[axL (axJ.1 h).1];exact h
def uB:∀(Z:List LK)(X:List XV)(s:S)(O:aa),cV Z X->O.i.length=s.ni->O.b.length=s.nb->O.r.length=s.rs.length->
  (O.ext X).i.length=(s.bE Z).2.ni/\(O.ext X).b.length=(s.bE Z).2.nb/\(O.ext X).r.length=(s.bE Z).2.rs.length
 |[],[],s,O,_,U,R,Q=>⟨U,R,Q⟩
 |[],_::_,_,_,h,_,_,_=>by simp[cV] at h
 |_::_,[],_,_,h,_,_,_=>by simp[cV] at h
 |k::Z,x::X,s,O,h,U,R,Q=>by
  obtain⟨N,P⟩:=h;simp only[S.bE,aa.ext];cases k<;>cases x<;>simp[nX] at N;exact uB Z X _ _ P (by simp[S.fresh,aa.add,U]) (by simp[S.fresh,aa.add,R]) (by simp[S.fresh,aa.add,Q]);exact uB Z X _ _ P (by simp[S.fresh,aa.add,U]) (by simp[S.fresh,aa.add,R]) (by simp[S.fresh,aa.add,Q]);exact uB Z X _ _ P (by simp[S.fresh,aa.add,U]) (by simp[S.fresh,aa.add,R]) (by simp[S.fresh,aa.add,Q])
def C3{PP:RK->RV->Prop}:∀(X:List LK)(U:List XV)(s:S)(O:aa),cV X U->O.r.length=s.rs.length->
  (∀(q:Nat)(e:RK)(Z:RV),X[q]?=some (.ref e)->U[q]?=some (.r Z)->PP e Z)->(∀(k:Nat)(e:RK)(Z:RV),s.rs[k]?=some e->O.r[k]?=some Z->PP e Z)->
  ∀(k:Nat)(e:RK)(Z:RV),(s.bE X).2.rs[k]?=some e->(O.ext U).r[k]?=some Z->PP e Z
 |[],[],s,O,_,_,_,P=>P
 |[],_::_,_,_,h,_,_,_=>by simp[cV] at h
 |_::_,[],_,_,h,_,_,_=>by simp[cV] at h
 |k::X,x::U,s,O,h,N,I,P=>by
  obtain⟨M,L⟩:=h;have J:∀(q:Nat)(e:RK)(Z:RV),X[q]?=some (.ref e)->U[q]?=some (.r Z)->PP e Z:=λq e Z R Q=>I (q+1) e Z (by simpa using R) (by simpa using Q)
  simp only[S.bE,aa.ext];cases k<;>cases x<;>simp[nX] at M;exact C3 X U _ _ L (by simp[S.fresh,aa.add,N]) J (by simpa[S.fresh,aa.add] using P);exact C3 X U _ _ L (by simp[S.fresh,aa.add,N]) J (by simpa[S.fresh,aa.add] using P);rename_i H G;refine C3 X U _ _ L (by simp[S.fresh,aa.add,N]) J ?_;intro k e Z R Q;simp only[S.fresh,aa.add] at R Q;by_cases M:k<s.rs.length;rw[axL M] at R;rw[axL (by omega)] at Q;exact P k e Z R Q;have F:k=s.rs.length:=by
   have:=(axJ.1 R).1;simp at this;omega
  subst F;simp at R;rw[<-N] at Q;simp at Q;subst R Q;exact I 0 H G rfl rfl
def Az:List LK->Nat
 |[]=>0
 |.ref _::Z=>Az Z+1
 |_::Z=>Az Z
def FY:∀(X:List LK)(R:List XV)(s:S)(O:aa),cV X R->O.r.length=s.rs.length->
  ∀(k:Nat)(e:RK)(U:RV),(s.bE X).2.rs[k]?=some e->(O.ext R).r[k]?=some U->(s.rs[k]?=some e/\O.r[k]?=some U)\/∃q:Nat,X[q]?=some (.ref e)/\R[q]?=some (.r U)/\k=s.rs.length+Az (X.take q)
 |[],[],s,O,_,_,k,e,U,Q,P=>.inl ⟨Q,P⟩
 |[],_::_,_,_,h,_,_,_,_,_,_=>by simp[cV] at h
 |_::_,[],_,_,h,_,_,_,_,_,_=>by simp[cV] at h
 |I::X,x::R,s,O,h,L,k,e,U,Q,P=>by
  obtain⟨H,J⟩:=h;simp only[S.bE,aa.ext] at Q P;cases I<;>cases x<;>simp[nX] at H;rcases FY X R _ _ J (by simp[S.fresh,aa.add,L]) k e U Q P with Z|⟨q,Z⟩;exact .inl (by simpa[S.fresh,aa.add] using Z);exact .inr ⟨q+1,by simpa[S.fresh,Az] using Z⟩;rcases FY X R _ _ J (by simp[S.fresh,aa.add,L]) k e U Q P with Z|⟨q,Z⟩;exact .inl (by simpa[S.fresh,aa.add] using Z);exact .inr ⟨q+1,by simpa[S.fresh,Az] using Z⟩;rename_i E C;rcases FY X R _ _ J (by simp[S.fresh,aa.add,L]) k e U Q P with⟨N,M⟩|⟨q,Z⟩;simp only[S.fresh,aa.add] at N M;by_cases G:k<s.rs.length;rw[axL G] at N;rw[axL (by omega)] at M;exact .inl ⟨N,M⟩;have F:k=s.rs.length:=by
   have:=(axJ.1 N).1;simp at this;omega
  subst F;simp at N;rw[<-L] at M;simp at M;subst N M;exact .inr ⟨0,rfl,rfl,by simp[Az]⟩;refine .inr ⟨q+1,by simpa using Z.1,by simpa using Z.2.1, ?_⟩;have:=Z.2.2;simp[S.fresh] at this;simp[Az];omega
def adC:∀{ks:List LK}{q:Nat}{e:RK},ks[q]?=some (.ref e)->Jd ks=true
 |[],q,e,h=>by simp at h
 |k::ks,0,e,h=>by simp at h;subst h;rfl
 |k::ks,q+1,e,h=>by
  have:=adC (ks:=ks) (q:=q) (by simpa using h);cases k<;>first|exact this|rfl
def NT:∀{X:List LK}{q:Nat}{k:LK},mq X=true->X[q]?=some k->CH k=true
 |[],q,k,_,h=>by simp at h
 |U::X,0,k,Z,h=>by simp only[mq,axI] at Z;simp at h;subst h;exact Z.1
 |U::X,q+1,k,Z,h=>by simp only[mq,axI] at Z;exact NT Z.2 (by simpa using h)
def Vj{B:Nat}{P:Nat->Prop}:∀{Q:List LK}{R:List XV},Fw c W B P Q R->∀(q:Nat)(e:RK)(Z:RV),Q[q]?=some (.ref e)->R[q]?=some (.r Z)->aX W c e Z/\∀b,cu c e Z b->B<=b\/P b
 |[],R,_,q,e,Z,X,_=>by simp at X
 |_::_,[],_,q,e,Z,_,U=>by simp at U
 |k::Q,x::R,h,0,e,Z,X,U=>by simp at X U;subst X U;exact h.1
 |k::Q,x::R,h,q+1,e,Z,X,U=>Vj h.2 q e Z (by simpa using X) (by simpa using U)
def ao.called(R:ao m o D c V O s a W)(A:s.bd=true){X:List LK}(v:mq X=true){Q:List XV}(H:cV X Q)(z:Below W.heap.size W J){u:Nat->Prop}(n:∀b,u b->O.mw c s.rs b/\∀(k:Nat)(e:TypeId)(Z:RV),s.rs[k]?=some (.own e)->O.r[k]?=some Z->Z.iN=some b->Jd X=false)
  (l:Fw c J W.heap.size u X Q):
  ao m o D c V (O.ext Q) (s.bE X).2 a J:=by
 obtain⟨P,j,e3,e4⟩:=sJ X s;obtain⟨l1,l2,l3⟩:=uB X Q s O H R.ei R.eb R.er;obtain⟨ac,af⟩:=R.uu A;have g:=yA s.boxes O Q V;have N:=R.mem.below z;refine⟨⟨N.base,by rw[P];exact N.own,by rw[P];exact N.inj, ?_, ?_⟩,by rw[P];exact R.dX,l1,l2,l3,by rw[FX,Vi];exact R.bY.below z,by rw[j];exact R.size, ?_, ?_⟩;rw[P];intro i t cs h;rw[g.cg (o8 af h)];exact N.box i t cs h;rw[P];refine C3 (PP:=λe Z=>aX J c e Z/\∀b,cu c e Z b->∀i,aD s.boxes i=true->ad V i≠b) X Q s O H R.er ?_ (λk e Z U M=>N.ref k e Z U M);intro q e Z U M;obtain⟨G,h4⟩:=Vj l q e Z U M;refine⟨G,λb A i f=> ?_⟩;rcases h4 b A with L|L;have:=R.mem.lt f;omega;obtain⟨⟨k,F,d,hx⟩,-⟩:=n b L;exact(R.mem.ref k _ _ d (qX R d)).2 b hx i f;rw[j];intro t sv h;rcases R.tmps t sv h with U|U;exact .inl U;right;rw[g.den (qT ac h)];exact U;rw[P];intro k e Z b U M G;rcases FY X Q s O H R.er k _ Z U M with⟨E,y⟩|⟨q,E,y,-⟩;have t:=R.bw k e Z b E y G;have C:=t.world (z.block b t.lt);refine⟨C.own,C.mem,C.box,λk' F x q1 q2 q3 B=> ?_,C.inner⟩;rcases FY X Q s O H R.er k' F x q2 q3 with⟨I,w⟩|⟨q,I,w,-⟩;exact t.alone k' F x q1 I w B;have hr:=adC I;obtain⟨p3,p4⟩:=Vj l q F x I w;rcases B with B|⟨⟨t0,rfl⟩,_⟩;rcases p4 b B with L|L;have:=t.lt;omega;have:=(n b L).2 k e Z E y G;rw[hr] at this;cases this;have:=NT v I;simp[CH] at this;have:=NT v E;simp[CH] at this
def adD(R:ao m o D c V O s a W){L:List LK}(h:O.mw c (Jf N s.rs) Z):
  O.mw c (yj N L s.rs) Z/\∀(k:Nat)(e:TypeId)(M:RV),(yj N L s.rs)[k]?=some (.own e)->O.r[k]?=some M->M.iN=some Z->Jd L=false:=by
 obtain⟨U,z,X,H⟩:=h;unfold Jf at X;rw[UJ] at X;cases Q:s.rs[U]? with
 |none=>rw[Q] at X;cases X
 |some x=>
  rw[Q] at X;simp only[ayg,axR,axM] at X;have G:=acN ((Je N s.rs.length).contains U) x;rw[X] at G;have P:cu c x (O.rv U) Z:=H.km G;refine⟨?_,λk e M J C B=> ?_⟩;unfold yj;split;refine⟨U,uh ((Je N s.rs.length).contains U) x,by rw[FM,Q];simp, ?_⟩;cases x<;>simp only[uh]<;>try exact P
  split;cases P with
  |own e M Z P=>exact P
  exact P;exact⟨U,x,Q,P⟩;unfold yj at J;split at J;rename_i F;exfalso;obtain⟨I,A⟩:=UP J;by_cases E:U=k;subst E;rw[Q] at I;cases I;simp only[I7] at X;rw[if_neg (by simpa using A)] at X;subst X;cases H;exact(R.bw k e M Z I C B).alone U x (O.rv U) E Q (qX R Q) (.inl P);rename_i F;simpa using F
def AA(X:List SV)(U:List LK)(Z:List RK):my Z (yj X U Z):=by
 unfold yj;split;exact Nw _ _;exact my.refl _
end
section
variable{p:Sp}{d:bh}
def an7(E:p.ty=d.ty)(x:∀g,(d.sig g).isSome=true->∀Z W,(callFunc g Z).run p.P W=.ok (.enter g Z) W)
  (D:bB)(L:List LC)(g:FuncId)(Z:List SV)(s:S)(k:SV->S->T)(O:aa)(V:List Nat)(a:Act)(W:World)(I:Ending->World->Prop)
  (h:(wa d g Z s k).aG p O L)(R:ao p.S0 p.w0 D d.ty V O s a W)
  (w:∀v H N G X C,bl s O V H N G->bZ s.av L C->ao p.S0 p.w0 D d.ty G N H a X->(k v H).aG p N C->I (.returned (v.den N G)) X)
  (u:∀M X t y,cL p.w0 D t y a.defers X->p.R (.panicked M) X->I (.panicked M) X):
  (∀Z W,(callFunc g Z).run p.P W=.ok (.enter g Z) W)/\Calls p.P g (SV.ap O V Z).toArray W I:=by
 unfold wa at h;split at h;rename_i ts r;refine⟨x g (by rw[r];rfl), ?_⟩;split at h;rename_i Q ac;split at h;rename_i l hl;split at h;rename_i U;simp only[S.da,axI] at U;obtain⟨U,q⟩:=U;simp only[T.aG] at h;have:=h O.y V W (by rw[E];exact(R.mem.Uo _).km (acO _ _));refine this.mono ?_;intro e X J;cases e with
 |returned v=>
  obtain⟨F,n,B,j,A,i⟩:=J;rw[E] at A;obtain⟨z,e2,f,e4⟩:=sJ Q (s.cut Z Q);have hy:(O.ext F).at O.y=O.ext F:=by have:=FX F O;unfold aa.at;rw[<-this]
  rw[hy] at B;subst B;have R1:ao p.S0 p.w0 D d.ty V O (s.cut Z Q) a W:=R.km (AA Z Q s.rs);exact w _ _ _ V X L ⟨yA _ _ _ _,by rw[z];exact λ_ h=>h,by rw[z];exact axQ _,by rw[f];exact axQ _⟩ (bZ.refl _ _) (R1.called (JG U.1 (AA Z Q s.rs).len) q n j (λb U=>adD R U) A) i
 |panicked M=>exact u M X _ _ (R.bY.below J.1) J.2
 |outgrown=>exact J.elim
 exact h.elim;exact h.elim;exact h.elim;exact h.elim
def Vk{m:List Nat}{o:World}{D:bB}{V:List Nat}{O:aa}{s:S}{a:Act}{W:World}(R:ao m o D d.ty V O s a W)(Q:fK p.P d.ty)(f:ResultVar->Sem Value)(N:∀t,f (.tmp t)=pure (a.tmps.getD t undef))(M:∀x t,f (.cell x t)=(asAddr (a.tmps.getD x undef)>>=λy=>loadVar t y)):
  ∀(Z:List ResultVar)(l:List SV),pO d s Z=some l->(Z.mapM f).run p.P W=.ok (SV.ap O V l) W
 |[],l,h=>by simp[pO] at h;subst h;rfl
 |.tmp t::Z,l,h=>by
  simp only[pO] at h;split at h;rename_i L J;split at h;cases h;rename_i G;cases h;have U:=bR (gl:=[]) R (λ_ X=>by cases X) (.tmp t) (by simpa[S.ev,sn] using G);simp only[Act.eval,S.ev,sn] at U;simp only[aAZ,Sem.run_bind,N,Sem.run_pure,Result.andThen_ok,Vk R Q f N M Z L J,SV.ap,U];cases h
 |.cell x t::Z,l,h=>by
  simp only[pO] at h;split at h;rename_i L i w u J X F;split at h;rename_i E C I;split at h;rename_i v B;cases h;have U:=bR (gl:=[]) R (λ_ X=>by cases X) (.tmp x) (by simp only[S.ev,sn,X];rfl);simp only[Act.eval,S.ev,sn,X,SV.den] at U;have H:=Nn (P:=p.P) (W:=W) (Q _ _ F) (O:=O) (V:=V) (b:=ad V i) (base:=0) B (λj y A=>by
   obtain⟨I,z⟩:=ut I;have:=R.mem.box i E C I;rw[qU z] at this;simp[World.cell?,this,oY,A])
  simp only[Instr.loadAt,Instr.sureAddr,ayg,Sem.run_bind,Sem.run_pure,Result.andThen_ok] at H;simp only[aAZ,Sem.run_bind,M,U,asAddr,Sem.run_pure,Result.andThen_ok,H,Vk R Q f N M Z L J,SV.ap];cases h;cases h;cases h
def JS{D:bB}{V:List Nat}{W:World}(Z:ao R J D d.ty V M H i W)(U:fK p.P d.ty){X:Func}{l:List SV}(h:pO d H X.results.toList=some l):
  (results X i.tmps).run p.P W=.ok ((one l).den M V) W:=by
 unfold results;rw[aAD];simp only[Sem.run_bind,Sem.run_map];rw[Vk Z U _ (λ_=>rfl) (λ_ _=>rfl) X.results.toList l h];simp only[Result.andThen_ok,Sem.run_pure];congr 1
 match l with
 |[]=>rfl
 |[v]=>rfl
 |v::w::r=>rfl
end
end
end
end Go.Proofs.YtieaiocljdpebaaGreatDoor.Y
