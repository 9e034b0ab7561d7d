/- Part 2 of the proof; the last part says what is shown. -/
import Derived.Test.YtieaiocljdpebaaGreatDoorQ1
import Derived.Laws.AppendOwn
import Derived.IntWalk
import Derived.RangeFuncRecord
import Derived.Maps.RangeRun
import Derived.RangeFuncSeq
set_option linter.all false
open Bool renaming and_eq_true->ayz,not_eq_true'->ayS,false_eq_true->ayV,or_eq_true->ay2,eq_iff_iff->azJ,not_eq_false->az4,true_and->aAm,and_true->aAn,or_eq_true_iff->aBh
open List renaming getElem?_eq_some_iff->ayA,getElem?_eq_getElem->ayB,getD_eq_getElem?_getD->ayC,getElem?_append_left->ayD,getElem?_map->ayF,getElem?_append_right->ayG,replicate->ayJ,mem_cons->ayK,mem_append->ayL,all_eq_true->ayM,length_append->ayN,map_cons->ayO,cons_append->ayP,range->ayQ,nil_append->ayU,mem_of_getElem?->ayW,getElem?_eq_none->ayX,map_congr_left->ayZ,mem_map->ay1,ext_getElem?->ay3,eq_nil_of_length_eq_zero->ay4,length_eq_one_iff->ay5,getElem?_take->ay7,any_eq_true->ay8,contains_iff_mem->aza,getElem?_cons_succ->azb,getElem?_set_ne->azc,length_map->azg,getElem?_of_mem->azh,getElem?_drop->azj,mem_filter->azk,getElem?_eq_none_iff->azm,length_cons->azn,map_map->azo,getElem?_set->azr,mem_or_eq_of_mem_set->azs,append_assoc->azt,drop_eq_getElem_cons->azx,mem_range->azz,mem_of_mem_drop->azB,getElem?_replicate->azE,mem_cons_of_mem->azG,mem_of_mem_take->azH,getElem?_set_self->azI,getElem?_range->azM,getElem_mem->azR,map_nil->azT,range'->azW,take_of_length_le->azX,size_toArray->azY,mem_of_find?_eq_some->azZ,foldl_cons->az0,length_drop->az2,length_take->az6,length_singleton->aAg,range_eq_range'->aAo,drop_drop->aAr,toList_toArray->aAt,all_cons->aAv,find?_some->aAx,zip_cons_cons->aAy,mem_singleton->aAz,replicate_one->aAA,take_append_of_le_length->aAF,flatMap_cons->aAG,range'_succ->aAI,getElem?_modify->aAK,length->aAM,map_append->aAS,getElem?_zip_eq_some->aAT,length_erase_of_mem->aAW,drop_eq_nil_of_le->aA0,mem_erase_of_ne->aBc,drop_append_of_le_length->aBg,append_toArray->aBi,map_set->aBA,length_set->aBH,drop_of_length_le->aBN,length_pos_of_mem->aBO,drop_zero->aBS,mapM_cons->aBT,getElem?_append->aB0
open Option.some renaming injEq->ayE
open Nat renaming le_refl->ayH,zero_add->ay9,add_mul->azD,le_trans->azF,eq_zero_or_pos->azO,mul_le_mul_right->azP,add_zero->azU,add_assoc->aAd,zero_le->aAq,min_eq_left->aAR,mul_comm->aAV,mod_lt->aAY,div_lt_of_lt_mul->aA9,div_add_mod->aBa,sub_self->aBb,mul_le_mul->aBj,lt_or_gt_of_ne->aB8
open Option renaming map_some->ayI,isSome_iff_exists->ayT,getD_some->azf,isNone_iff_eq_none->aBx
open Array renaming ext'->azv,toList_map->azy,length_toList->azL,getElem?_toList->aAh,getElem?_eq_getElem->aAQ,toList_range->aBl,mapM_eq_mapM_toList->aBw,range->aBM,mem_filter->aCk
open List.cons renaming injEq->azK
open Int renaming toNat_natCast->azN
open Prod.mk renaming injEq->aAe
namespace Go.Proofs.YtieaiocljdpebaaGreatDoor.Y
open Go.RowKit
noncomputable section
variable{y:RK}{L:World}{t:Ty}{n:RV}{X:Nat}{U:TypeId}
section
def Fp(Z:List Nat):∀(l:List RK)(n i:Nat),(fw Z n l)[i]?=(l[i]?).map λx=>if Z.contains (n+i) then .dead else x
 |[],n,i=>by simp[fw]
 |x::X,n,0=>by simp[fw]
 |x::X,n,i+1=>by
  simp only[fw,azb];rw[Fp Z X (n+1) i,show n+1+i=n+(i+1) by omega]
def Fq(Z:List Nat):∀(l:List RK)(n i:Nat),(gJ Z n l)[i]?=(l[i]?).map (tV (Z.contains (n+i)))
 |[],n,i=>by simp[gJ]
 |x::X,n,0=>by simp[gJ]
 |x::X,n,i+1=>by
  simp only[gJ,azb];rw[Fq Z X (n+1) i,show n+1+i=n+(i+1) by omega]
def UL(Z:List Nat):∀(l:List RK)(n i:Nat),(xK Z n l)[i]?=(l[i]?).map (IJ (Z.contains (n+i)))
 |[],n,i=>by simp[xK]
 |x::X,n,0=>by simp[xK]
 |x::X,n,i+1=>by
  simp only[xK,azb];rw[UL Z X (n+1) i,show n+1+i=n+(i+1) by omega]
def vU(Z:List Nat):∀(l:List RK)(n:Nat),(fw Z n l).length=l.length
 |[],n=>rfl
 |x::X,n=>by simp[fw,vU Z X (n+1)]
def vV(Z:List Nat):∀(l:List RK)(n:Nat),(gJ Z n l).length=l.length
 |[],n=>rfl
 |x::X,n=>by simp[gJ,vV Z X (n+1)]
def adg(Z:List Nat):∀(l:List RK)(n:Nat),(xK Z n l).length=l.length
 |[],n=>rfl
 |x::X,n=>by simp[xK,adg Z X (n+1)]
def mI(e Z:RK):Prop:=Z=e\/Z=.dead\/∃t,e=.own t/\Z=.sl t
structure lS(rs rs':List RK):Prop where
 len:rs'.length=rs.length
 get:∀(k:Nat)(e':RK),rs'[k]?=some e'->∃e,rs[k]?=some e/\mI e e'
def lS.refl(Z:List RK):lS Z Z:=⟨rfl,λk e h=>⟨e,h,.inl rfl⟩⟩
def mI.trans{b c:RK}(h:mI y b)(k:mI b c):mI y c:=by
 rcases k with rfl|rfl|⟨t,rfl,rfl⟩;exact h;exact .inr (.inl rfl);rcases h with h|h|⟨X,U,Z⟩;exact .inr (.inr ⟨t,h.symm,rfl⟩);cases h;cases Z
def lS.trans{a b c:List RK}(h:lS a b)(k:lS b c):lS a c:=
 ⟨k.len.trans h.len,λi e Z=>let⟨X,U,R⟩:=k.get i e Z;let⟨Q,N,M⟩:=h.get i X U;⟨Q,N,M.trans R⟩⟩
def anM(b:Bool)(e:RK):mI e (tV b e):=by
 cases e<;>simp only[tV]
 case own t=>cases b;exact .inl rfl;exact .inr (.inr ⟨t,rfl,rfl⟩)
 all_goals exact .inl rfl
def adh(b:Bool)(e:RK):mI e (IJ b e):=by
 cases e<;>simp only[IJ]
 case own t=>cases b;exact .inr (.inl rfl);exact .inr (.inr ⟨t,rfl,rfl⟩)
 all_goals exact .inl rfl
def Nd(U:List Nat)(Z:List RK):lS Z (gJ U 0 Z):=by
 refine⟨vV _ _ _,λk R h=> ?_⟩;rw[Fq] at h;cases X:Z[k]? with
 |none=>rw[X] at h;cases h
 |some e=>rw[X] at h;simp only[ayI,ayE] at h;exact⟨e,rfl,h▸anM _ e⟩
def adi(U:List Nat)(Z:List RK):lS Z (xK U 0 Z):=by
 refine⟨adg _ _ _,λk R h=> ?_⟩;rw[UL] at h;cases X:Z[k]? with
 |none=>rw[X] at h;cases h
 |some e=>rw[X] at h;simp only[ayI,ayE] at h;exact⟨e,rfl,h▸adh _ e⟩
def aW.jP{X:RK}(h:aW L t y n)(w:mI y X):aW L t X n:=by
 rcases w with rfl|rfl|⟨Z,rfl,rfl⟩;exact h;exact aW.dead n (Ff h);exact acS h
def cm.jP{U:RK}(w:mI y U)(h:cm t U n X):cm t y n X:=by
 rcases w with rfl|rfl|⟨Z,rfl,rfl⟩;exact h;cases h;exact cm.own _ _ _ h
def ub.jP{d:Ty}{e X:RK}{U:RV}{b:Nat}(w:mI e X)(h:ub d X U b):ub d e U b:=by
 rcases h with h|⟨⟨t,rfl⟩,h⟩;exact .inl (h.jP w);rcases w with rfl|Z|⟨R,_,Z⟩;exact .inr ⟨⟨t,rfl⟩,h⟩;cases Z;cases Z
def mI.own(w:mI y (.own U)):y=.own U:=by
 rcases w with h|h|⟨Z,_,h⟩;exact h.symm;cases h;cases h
section
variable{f:List Nat}{g:World}{D:bz}{P:Program}{d:Ty}{j:List (Nat×Nat×Nat)}{V:List Nat}{O:aa}{s:S}{a:Act}{W:World}
def gN.jP{Z:aX}{X U:List RK}(R:gN f g V O Z d X W)(h:lS X U):gN f g V O Z d U W:=
 ⟨R.base,R.own,R.inj,R.box,λk e Q I N=>let⟨M,L,J⟩:=h.get k e I;⟨(R.ref k M Q L N).1.jP J,λb H i G=>(R.ref k M Q L N).2 b (H.jP J) i G⟩⟩
def ap.jP(R:ap f g D d V O s a W){Z:List RK}(h:lS s.rs Z):ap f g D d V O {s with rs:=Z} a W:=by
 refine⟨R.mem.jP h,R.dS,R.ei,R.eb,R.er.trans h.len.symm,R.bY,R.size,R.tmps,λk e U b Q N M=> ?_⟩;obtain⟨y,L,J⟩:=h.get k _ Q;have:=J.own;subst this;have t:=R.dK k e U b L N M;exact⟨t.own,t.mem,t.box,λX I H G F E C=>let⟨B,A,z⟩:=h.get X I F;t.alone X B H G A E (C.jP z),t.inner⟩
def ap.cA(R:ap f g D d V O s a W)(w:s.rs[X]?=some (.own U))(hr:O.r[X]?=some n)(J:W.grownBy L n.hU):
  ap f g D d V O {s with rs:=fw [X] 0 s.rs} a L:=by
 have A:∀Z N,(fw [X] 0 s.rs)[Z]?=some N->(Z=X/\N=.dead)\/(Z≠X/\s.rs[Z]?=some N):=by
  intro Z N h;rw[Fp] at h;cases v:s.rs[Z]? with
  |none=>rw[v] at h;cases h
  |some x=>
   rw[v] at h;simp only[ay9,ayI,ayE] at h;by_cases M:Z=X;subst M;left;simp at h;exact⟨rfl,h.symm⟩;right;simp[M] at h;exact⟨M,by rw[h]⟩
 have G:∀b,n.hU=some b->uc f g V O s.boxes d s.rs W X U n b:=λb Q=>R.dK X U n b w hr Q
 have ab:dI f g L:=R.mem.base.grown J (λb Q=>((G b Q).own).symm);refine⟨⟨ab,R.mem.own,R.mem.inj,λi t cs h=> ?_,λZ N I z H=> ?_⟩,R.dS,R.ei,R.eb,by simp[vU];exact R.er, ?_,R.size,R.tmps,λZ N I b z H F=> ?_⟩;rw[J.block _ (R.mem.lt (by simp[aE,h])) (λQ=>(G _ Q.symm).box i (by simp[aE,h]) rfl)];exact R.mem.box i t cs h;rcases A Z N z with⟨rfl,rfl⟩|⟨E,C⟩;refine⟨aW.dead _ ?_,λb Q=>by cases Q⟩;exact Ff (R.mem.ref Z _ I w H).1;obtain⟨F,h4⟩:=R.mem.ref Z N I C H;exact⟨F.Fm (λb Q=>J.block b (F.lt Q) (λM=>(G b M.symm).alone Z N I E C H (.inl Q))) J.size,h4⟩;cases Q:n.hU with
 |none=>exact R.bY.world λb o h _=>(J.block b (vT h) (by rw[Q];simp)).trans h
 |some b0=>
  obtain⟨u,q,p,m,y,l⟩:=(G b0 Q).mem;exact R.bY.cells y (λb E af=>J.block b af (λU=>E (by rw[Q] at U;cases U;rfl)))
 rcases A Z _ z with⟨-,M⟩|⟨E,C⟩;cases M;have t:=R.dK Z N I b C H F;have hw:L.heap[b]?=W.heap[b]?:=J.block b t.lt (λM=>(G b M.symm).alone Z _ I E C H (.inr ⟨⟨N,rfl⟩,F⟩));obtain⟨u,q,p,m,y,l⟩:=t.mem;refine⟨t.own,⟨u,q,p,m,hw.trans y,l⟩,t.box,λj c ag g1 g2 g3 B=> ?_,t.inner⟩;rcases A j c g2 with⟨rfl,rfl⟩|⟨_,al⟩;rcases B with B|⟨⟨t',an⟩,_⟩;cases B;cases an;exact t.alone j c ag g1 al g3 B
def ap.grown(R:ap f g D d V O s a W)(Z:W.grownBy L none):ap f g D d V O s a L:=
 R.below ⟨Z.os,Z.tape,Z.output,Z.size,λk X=>Z.block k X (by simp)⟩
def nl(Z:aX)(O:aa)(x:XV)(V:List Nat):jO Z O (O.add x) V V:=by
 have h:=yb Z O [x] V;exact h
def CI{v:RV}(h:(O.add (.r n)).r[X]?=some v):(X<O.r.length/\O.r[X]?=some v)\/(X=O.r.length/\v=n):=by
 simp only[aa.add] at h;by_cases Z:X<O.r.length;rw[ayD Z] at h;exact .inl ⟨Z,h⟩;have:X=O.r.length:=by have:=(ayA.1 h).1;simp at this;omega
 subst this;simp at h;exact .inr ⟨rfl,h.symm⟩
structure anN(f:List Nat)(g:World)(V:List Nat)(O:aa)(bx:aX)(d:Ty)(rs:List RK)(W:World)(e:TypeId)(rv:RV)(b:Nat):Prop where
 own:g.heap.size<=b\/b∈f
 mem:∃len cap cur,rv.val=.slice (some ⟨b,0,none⟩) len cap/\W.heap[b]?=some (.cells cur e (0,0))/\len<=cap/\cap<=maxLen/\cur.size=cap*(aV d (.sl e)).length
 box:∀i,aE bx i=true->ad V i≠b
 alone:∀(k':Nat)(e':RK)(rv':RV),rs[k']?=some e'->O.r[k']?=some rv'->¬ub d e' rv' b
 inner:¬jK d e rv.rows b
def ap.add(R:ap f g D d V O s a W)(A:s.bd=true){U:RK}{rv:RV}(z:aW W d U rv)(y:∀b,cm d U rv b->∀i,aE s.boxes i=true->ad V i≠b)
  (x:∀(k:Nat)(e:TypeId)(M:RV)(b:Nat),s.rs[k]?=some (.own e)->O.r[k]?=some M->M.hU=some b->¬ub d U rv b)
  (w:∀e b,U=.own e->rv.hU=some b->anN f g V O s.boxes d s.rs W e rv b):ap f g D d V (O.add (.r rv)) {s with rs:=s.rs++[U]} a W:=by
 obtain⟨u,q⟩:=R.ue A;have F:=nl s.boxes O (.r rv) V;have bA:∀{k:Nat}{e:RK},(s.rs++[U])[k]?=some e->(k<O.r.length/\s.rs[k]?=some e)\/(k=O.r.length/\e=U):=by
  intro k e h;rw[R.er];by_cases L:k<s.rs.length;rw[ayD L] at h;exact .inl ⟨L,h⟩;have:k=s.rs.length:=by have:=(ayA.1 h).1;simp at this;omega
  subst this;simp at h;exact .inr ⟨rfl,h.symm⟩
 refine⟨⟨R.mem.base,R.mem.own,R.mem.inj,λi t p h=> ?_,λk e v Z Q=> ?_⟩,R.dS,R.ei,R.eb,by simp[aa.add,R.er],R.bY,R.size,λt o h=> ?_,λk e v b Z Q J=> ?_⟩;rw[F.bX (ot q h)];exact R.mem.box i t p h;rcases bA Z with⟨L,Z⟩|⟨rfl,rfl⟩;rcases CI Q with⟨_,Q⟩|⟨rfl,rfl⟩;exact R.mem.ref k e v Z Q;omega;rcases CI Q with⟨L,_⟩|⟨_,rfl⟩;omega;exact⟨z,y⟩;rcases R.tmps t o h with Z|Z;exact .inl Z;right;rw[F.den (qG u h)];exact Z;rcases bA Z with⟨L,E⟩|⟨rfl,n⟩;rcases CI Q with⟨_,C⟩|⟨rfl,rfl⟩;have t:=R.dK k e v b E C J;refine⟨t.own,t.mem,t.box,λI H M G N X=> ?_,t.inner⟩;rcases bA N with⟨B,N⟩|⟨B,m⟩;rcases CI X with⟨_,X⟩|⟨rfl,rfl⟩;exact t.alone I H M G N X;omega;rcases CI X with⟨j,_⟩|⟨_,l⟩;omega;rw[m,l];exact x k e v b E C J;omega;rcases CI Q with⟨L,_⟩|⟨_,rfl⟩;omega;have t:=w e b n.symm J;refine⟨t.own,t.mem,t.box,λI H M G N X=> ?_,t.inner⟩;rcases bA N with⟨B,N⟩|⟨rfl,_⟩;rcases CI X with⟨_,X⟩|⟨rfl,rfl⟩;exact t.alone I H M N X;omega;exact absurd rfl G
end
end
variable{v:Option Addr}{I:Nat}{Z N:List (List RV)}{x:List RV}{k:Int}{b:SV}{Q:List SV}{R:List Nat}
section
structure dt(W:World)(d:Ty)(e:TypeId)(rows:List (List RV)):Prop where
 len:∀(i:Nat)(row:List RV),rows[i]?=some row->row.length=(aV d (.sl e)).length
 int:∀(i j:Nat)(row:List RV)(c:RV)(k:IntKind),rows[i]?=some row->row[j]?=some c->(aV d (.sl e))[j]?=some (.int k)->∃n,c.val=.int k n
 bool:∀(i j:Nat)(row:List RV)(c:RV),rows[i]?=some row->row[j]?=some c->(aV d (.sl e))[j]?=some .bool->∃x,c.val=.bool x
 ax:∀(i j:Nat)(row:List RV)(c:RV)(z:Value)(k:RK),rows[i]?=some row->row[j]?=some c->(aV d (.sl e))[j]?=some (.ax z k)->aW W d k c
def cu(rows:List (List RV)):List Value:=rows.flatMap λZ=>Z.map RV.val
def vW{w:Nat}:∀{rows:List (List RV)},(∀(i:Nat)(Z:List RV),rows[i]?=some Z->Z.length=w)->(cu rows).length=rows.length*w
 |[],_=>by simp[cu]
 |r::U,h=>by
  have R:=h 0 r rfl;have X:=vW (rows:=U) (λi Z Q=>h (i+1) Z (by simpa using Q));simp only[cu,aAG,ayN,azg,azn,R] at X⊢;rw[X,azD];omega
def Jf{w:Nat}:∀{rows:List (List RV)},(∀(i:Nat)(row:List RV),rows[i]?=some row->row.length=w)->∀{i j:Nat}{row:List RV}{c:RV},rows[i]?=some row->row[j]?=some c->(cu rows)[i*w+j]?=some c.val
 |[],_,i,j,row,c,h,_=>by simp at h
 |r::U,h,0,j,row,c,Z,X=>by
  simp at Z;subst Z;have N:j<r.length:=(ayA.1 X).1;simp only[cu,aAG,Nat.zero_mul,ay9];rw[ayD (by simpa using N)];simp[X]
 |r::U,h,i+1,j,row,c,Z,X=>by
  have R:=h 0 r rfl;have Q:=Jf (rows:=U) (λi row M=>h (i+1) row (by simpa using M)) (i:=i) (by simpa using Z) X;simp only[cu,aAG] at Q⊢;rw[ayG (by simp[R,azD];omega)];rw[<-Q];congr 1;simp[R,azD];omega
def Fs{w:Nat}:∀{rows:List (List RV)},(∀(i:Nat)(Z:List RV),rows[i]?=some Z->Z.length=w)->∀{q:Nat}{u:Value},(cu rows)[q]?=some u->∃i j Z c,rows[i]?=some Z/\Z[j]?=some c/\q=i*w+j/\u=c.val
 |[],_,q,u,h=>by simp[cu] at h
 |r::R,h,q,u,X=>by
  have H:=h 0 r rfl;simp only[cu,aAG] at X;by_cases Q:q<r.length;rw[ayD (by simpa using Q),ayF] at X;cases U:r[q]? with
  |none=>rw[U] at X;cases X
  |some c=>rw[U] at X;simp at X;exact⟨0,q,r,c,rfl,U,by simp,X.symm⟩
  rw[ayG (by simp;omega)] at X;obtain⟨i,j,Z,c,N,M,L,J⟩:=Fs (rows:=R) (λi Z I=>h (i+1) Z (by simpa using I)) X;refine⟨i+1,j,Z,c,by simpa using N,M, ?_,J⟩;simp only[azg] at L;rw[azD];omega
def UM(a b:List (List RV)):cu (a++b)=cu a++cu b:=by simp[cu]
section
variable{W W':World}{d:Ty}{e:TypeId}{rows ar:List (List RV)}
def dt.sr{v:Value}(h:aW W d (.sl e) (.mk v rows)):dt W d e rows:=by
 cases h with
 |sl e A M L rows J I Z X U R=>exact⟨λi Q N=>(Z i Q N).1,X,U,R⟩
def ow(h:aW W d (.sl e) (.mk (.slice v X I) rows)):rows.length=X/\X<=I:=by
 cases h with
 |sl e v X I rows Z U R Q N M=>exact⟨Z,U⟩
def Jg(h:aW W d (.sl e) (.mk (.slice v X I) rows)):∀(q:Nat)(u:Value),(cu rows)[q]?=some u->∃b Z,v=some ⟨b,Z,none⟩/\(∃U t R,W.heap[b]?=some (.cells U t R))/\W.cell? ⟨b,Z+q,none⟩=some u:=by
 intro q u Q;have N:=dt.sr h;obtain⟨i,j,M,c,L,J,rfl,rfl⟩:=Fs N.len Q;cases h with
 |sl e v X I rows E C H B z y=>
  obtain⟨-,b,Z,rfl,G,F⟩:=H i M L;exact⟨b,Z,rfl,G,by rw[<-aAd];exact F j c J⟩
def UN(h:dt W d e rows){Z:Nat}(R:∃Q t N,W.heap[X]?=some (.cells Q t N))(M:∀(q:Nat)(u:Value),(cu rows)[q]?=some u->W.cell? ⟨X,I+q,none⟩=some u)(L:rows.length<=Z):aW W d (.sl e) (.mk (.slice (some ⟨X,I,none⟩) rows.length Z) rows):=
 aW.sl e _ _ _ _ rfl L (λi J U=>⟨h.len i J U,X,I,rfl,R,λj c H=>by
  have:=M _ _ (Jf h.len U H)
  rwa [<-aAd] at this⟩) h.int h.bool h.ax
def yf(A:Option Addr)(U:Nat):aW W d (.sl e) (.mk (.slice A 0 U) []):=
 aW.sl e _ _ _ _ rfl (aAq _) (λi X Z=>by simp at Z) (λi j X c k Z=>by simp at Z) (λi j X c Z=>by simp at Z) (λi j X c z k Z=>by simp at Z)
def dt.single(h:dt W d e rows):∀u∈cu rows,fu u=true:=by
 intro u N;obtain⟨q,M⟩:=azh N;obtain⟨i,j,Z,c,X,U,rfl,rfl⟩:=Fs h.len M;have J:j<(aV d (.sl e)).length:=by rw[<-h.len i Z X];exact(ayA.1 U).1
 cases R:(aV d (.sl e))[j]? with
 |none=>rw[azm] at R;omega
 |some L=>
  cases L with
  |int k=>obtain⟨n,Q⟩:=h.int i j Z c k X U R;rw[Q];rfl
  |bool=>obtain⟨n,Q⟩:=h.bool i j Z c X U R;rw[Q];rfl
  |ax z k=>exact Ff (h.ax i j Z c z k X U R)
def dt.world(h:dt W d e rows)(Q:∀b,jK d e rows b->W'.heap[b]?=W.heap[b]?)(N:W.heap.size<=W'.heap.size):dt W' d e rows:=
 ⟨h.len,h.int,h.bool,λi j Z c z k X U R=>(h.ax i j Z c z k X U R).Fm (λb M=>Q b ⟨i,j,Z,c,z,k,X,U,R,M⟩) N⟩
def dt.lt(h:dt W d e rows){b:Nat}(Z:jK d e rows b):b<W.heap.size:=by
 obtain⟨i,j,X,c,z,k,U,R,Q,N⟩:=Z;exact(h.ax i j X c z k U R Q).lt N
def dt.nil:dt W d e []:=⟨λi Z h=>by simp at h,λi j Z c k h=>by simp at h,λi j Z c h=>by simp at h,λi j Z c z k h=>by simp at h⟩
def Jh(h:(Z++N)[X]?=some x):Z[X]?=some x\/N[X-Z.length]?=some x:=by
 by_cases U:X<Z.length;rw[ayD U] at h;exact .inl h;rw[ayG (by omega)] at h;exact .inr h
def dt.jH(h:dt W d e rows)(X:dt W d e ar):dt W d e (rows++ar):=
 ⟨λi U Z=>(Jh Z).elim (h.len _ _) (X.len _ _),λi j U c k Z=>(Jh Z).elim (h.int _ _ _ _ _) (X.int _ _ _ _ _),
  λi j U c Z=>(Jh Z).elim (h.bool _ _ _ _) (X.bool _ _ _ _),λi j U c z k Z=>(Jh Z).elim (h.ax _ _ _ _ _ _) (X.ax _ _ _ _ _ _)⟩
def anO(h:jK d e (rows++ar) X):jK d e rows X\/jK d e ar X:=by
 obtain⟨i,j,U,c,z,k,Z,R,Q,N⟩:=h;exact(Jh Z).imp (λZ=>⟨_,j,U,c,z,k,Z,R,Q,N⟩) (λZ=>⟨_,j,U,c,z,k,Z,R,Q,N⟩)
def Ji(h:jK d e [] X):False:=by
 obtain⟨i,j,U,c,z,k,Z,-⟩:=h;simp at Z
def Nf{v:Value}(h:jK d e rows X):cm d (.sl e) (.mk v rows) X:=by
 obtain⟨i,j,Z,c,z,k,U,R,Q,N⟩:=h;exact cm.deep e v rows i j Z c z k X U R Q N
def adj{v:Value}(h:cm d (.sl e) (.mk v rows) X):(∃a Z U,v=.slice (some a) (Z+1) U/\X=a.block)\/jK d e rows X:=by
 cases h with
 |here e a Z U rows=>exact .inl ⟨a,Z,U,rfl,rfl⟩
 |deep e v rows i j R c z k X Q N M L=>exact .inr ⟨i,j,R,c,z,k,Q,N,M,L⟩
end
def anP(h:cm t y (cN y n) X):cm t y n X:=by
 cases y with
 |sl e=>
  simp only[cN] at h;split at h;exact h;cases h with
  |deep e n rows i j U c z y X Z=>simp at Z
 |str=>cases h
 |ax=>cases h
 |own e=>
  simp only[cN] at h;split at h;exact h;cases h with
  |own e Q X R=>cases R with
   |deep e n rows i j U c z y X Z=>simp at Z
 |dead=>cases h
 |mr N=>cases h
def adk(h:cm t y default X):False:=by
 cases h with
 |deep e v rows i j U c z y X Z=>simp at Z
 |own e Q X R=>cases R with
  |deep e v rows i j U c z y X Z=>simp at Z
def Ng(h:cm t y.rd n X):cm t y n X:=by
 cases y with
 |own Z=>exact cm.own _ _ _ h
 |_=>exact h
def anQ(Q:Cc (aV t (.sl U))[X]?=y)(N:y≠ .ax)(h:cm t y (cN y (cellAt Z k X)) I):jK t U Z I:=by
 have R:=anP h;simp only[cellAt,ayC] at R;cases M:Z[k.toNat]? with
 |none=>rw[M] at R;exact(adk (by simpa using R)).elim
 |some H=>
  rw[M] at R;simp only[azf] at R;cases L:H[X]? with
  |none=>rw[L] at R;exact(adk (by simpa using R)).elim
  |some c=>
   rw[L] at R;cases J:(aV t (.sl U))[X]? with
   |none=>rw[J] at Q;exact absurd Q.symm N
   |some G=>
    rw[J] at Q;subst Q;cases G with
    |ax z F=>exact⟨_,X,H,c,z,F,M,L,J,by simpa[Cc] using R⟩
    |int _=>exact absurd rfl N
    |bool=>exact absurd rfl N
def Nh{d:Ty}{O:aa}{s:S}{b:Nat}:∀{r:RE}{e:RK},e≠ .ax->r.kind d s=e->cm d e (r.rv O) b->
  ∃X U,r.root=some X/\s.rs[X]?=some U/\((r=.v X/\U.rd=e)\/∃t,U.rd=.sl t/\jK d t (O.rv X).rows b)
 |.v k,e,Z,h,R=>by
  simp only[RE.kind,ayC] at h;cases M:s.rs[k]? with
  |none=>rw[M] at h;exact absurd (show e=.ax from h.symm) Z
  |some q=>rw[M] at h;simp at h;exact⟨k,q,rfl,M,.inl ⟨rfl,h⟩⟩
 |.cell r i j E,e,Z,h,R=>by
  simp only[RE.kind] at h;split at h;rename_i L J;split at h;rename_i I;subst h;simp only[RE.rv] at R;have N:=anQ I Z R;have H:cm d (.sl L) (r.rv O) b:=by
   revert N;generalize r.rv O=v;intro N;obtain⟨v,rows⟩:=v;exact Nf N
  obtain⟨X,U,G,F,Q⟩:=Nh (r:=r) (e:=.sl L) (by simp) J H;refine⟨X,U,G,F,.inr ?_⟩;rcases Q with⟨rfl,Q⟩|Q;exact⟨L,Q,by simpa[RE.rv] using N⟩;exact Q;exact absurd h.symm Z;exact absurd h.symm Z
 |.k v,e,Z,h,R=>by
  cases v<;>simp only[RE.kind] at h
  case string s=>subst h;cases R
  all_goals exact absurd h.symm Z
section
variable{f:List Nat}{g:World}{D:bz}{P:Program}{d:Ty}{m:List (Nat×Nat×Nat)}{V:List Nat}{O:aa}{s:S}{a:Act}{W:World}
def pE(R:ap f g D d V O s a W)(h:s.rs[X]?=some y):O.r[X]?=some (O.rv X):=by
 have Z:X<O.r.length:=by rw[R.er];exact(ayA.1 h).1
 simp[aa.rv,Z]
def CJ(v:RV):RV.mk v.val v.rows=v:=by cases v;rfl
def Ft{e0:RK}(h:e0.rd=.sl U)(Z:jK d U (O.rv X).rows I):cm d e0 (O.rv X) I:=by
 apply Ng;rw[h,<-CJ (O.rv X)];exact Nf Z
def Jj(R:ap f g D d V O s a W)(N:s.rs[X]?=some (.own U))(L:O.r[X]?=some n)(F:n.hU=some I){Z:Nat}{t:TypeId}(Q:s.rs[Z]?=some y)(M:y.rd=.sl t)(J:jK d t (O.rv Z).rows I):False:=by
 have H:=R.dK X U n I N L F;by_cases G:Z=X;subst G;rw[N] at Q;cases Q;simp only[RK.rd,RK.sl.injEq] at M;subst M;have:=pE R N;rw[L] at this;cases this;exact H.inner J;exact H.alone Z y (O.rv Z) G Q (pE R Q) (.inl (Ft M J))
def Ni(R:ap f g D d V O s a W)(M:s.rs[X]?=some (.own U))(L:O.r[X]?=some n)(J:n.hU=some I){r:RE}(F:y≠ .ax)(h:r.kind d s=y)(H:cm d y (r.rv O) I):r=.v X:=by
 obtain⟨Q,E,A,N,Z⟩:=Nh F h H;rcases Z with⟨rfl,Z⟩|⟨t,Z,C⟩;by_cases G:Q=X;rw[G];have B:=R.dK X U n I M L J;exact absurd (.inl (Ng (by rw[Z];exact H))) (B.alone Q E (O.rv Q) G N (pE R N));exact(Jj R M L J N Z C).elim
def Fu(R:ap f g D d V O s a W){r:RE}(J:y≠ .ax)(h:r.kind d s=y)(M:cm d y (r.rv O) X):O.lR d s.rs X/\∀i,aE s.boxes i=true->ad V i≠X:=by
 obtain⟨U,Q,H,N,Z⟩:=Nh J h M;have L:cm d Q (O.rv U) X:=by
  rcases Z with⟨rfl,Z⟩|⟨t,Z,I⟩;exact Ng (by rw[Z];exact M);exact Ft Z I
 exact⟨⟨U,Q,N,L⟩,(R.mem.ref U Q _ N (pE R N)).2 X L⟩
def adl(R:ap f g D d V O s a W){k:RK}{r:RE}(h:r.fits d s k=true):aW W d k (r.rv O):=by
 unfold RE.fits at h;split at h;rename_i e;simp only[ay2,decide_eq_true_eq] at h;rcases h with h|h;exact nj R (by simp) h;unfold RE.isNil at h;split at h;exact yf none 0;cases h;simp only[decide_eq_true_eq] at h;exact nj R (by simp) h;cases h
def UO{r:RE}(h:r.fits d s y=true)(Z:cm d y (r.rv O) X):r.kind d s=y/\y≠ .ax:=by
 unfold RE.fits at h;split at h;rename_i e;simp only[ay2,decide_eq_true_eq] at h;rcases h with h|h;exact⟨h,by simp⟩;unfold RE.isNil at h;split at h;simp only[RE.rv] at Z;cases Z with
 |deep e v rows i j R c z y X U=>simp at U
 cases h;simp only[decide_eq_true_eq] at h;exact⟨h,by simp⟩;cases h
def CL:∀{ae:List CT}{X:List SV},jg d s ae X=true->X.length=ae.length/\∀(j:Nat)(Z:CT)(v:SV),ae[j]?=some Z->X[j]?=some v->oc d s Z v=true
 |[],[],_=>⟨rfl,λj Z v h=>by simp at h⟩
 |[],_::_,h=>by simp[jg] at h
 |_::_,[],h=>by simp[jg] at h
 |c::L,v::J,h=>by
  simp only[jg,ayz] at h;obtain⟨Q,N⟩:=CL h.2;refine⟨by simp[Q],λj Z M U R=> ?_⟩;cases j with
  |zero=>simp at U R;subst U R;exact h.1
  |succ j=>exact N j Z M (by simpa using U) (by simpa using R)
def adm{Z:CT}(h:oc d s Z b=true):b.den O V=(b.bu O).val:=by
 unfold oc at h;split at h<;>first|rfl|cases h
structure Nj(W:World)(d:Ty)(ae:List CT)(row:List RV):Prop where
 len:row.length=ae.length
 int:∀(j:Nat)(c:RV)(k:IntKind),row[j]?=some c->ae[j]?=some (.int k)->∃n,c.val=.int k n
 bool:∀(j:Nat)(c:RV),row[j]?=some c->ae[j]?=some .bool->∃x,c.val=.bool x
 ax:∀(j:Nat)(c:RV)(z:Value)(k:RK),row[j]?=some c->ae[j]?=some (.ax z k)->aW W d k c
def dt.of(h:∀(i:Nat)(X:List RV),Z[i]?=some X->Nj W d (aV d (.sl U)) X):dt W d U Z:=
 ⟨λi X R=>(h i X R).len,λi j X c k R=>(h i X R).int j c k,λi j X c R=>(h i X R).bool j c,λi j X c z k R=>(h i X R).ax j c z k⟩
def dt.get(h:dt W d U Z)(R:Z[X]?=some x):Nj W d (aV d (.sl U)) x:=
 ⟨h.len X x R,λj c k=>h.int X j x c k R,λj c=>h.bool X j x c R,λj c z k=>h.ax X j x c z k R⟩
def UP(R:ap f g D d V O s a W){ae:List CT}(h:jg d s ae Q=true):Nj W d ae (Q.map (SV.bu O)):=by
 obtain⟨I,H⟩:=CL h;have L:∀(j:Nat)(c:RV)(M:CT),(Q.map (SV.bu O))[j]?=some c->ae[j]?=some M->∃v,oc d s M v=true/\c=v.bu O:=by
  intro j c M U N;rw[ayF] at U;cases J:Q[j]? with
  |none=>rw[J] at U;cases U
  |some v=>rw[J] at U;simp at U;exact⟨v,H j M v N J,U.symm⟩
 refine⟨by simpa using I,λj c k U N=> ?_,λj c U N=> ?_,λj c z k U N=> ?_⟩;obtain⟨v,X,rfl⟩:=L j c _ U N;unfold oc at X;split at X;rename_i Z;cases Z;simp at X;subst X;exact⟨_,rfl⟩;rename_i Z;cases Z;rename_i Z;cases Z;cases X;obtain⟨v,X,rfl⟩:=L j c _ U N;unfold oc at X;split at X;rename_i Z;cases Z;exact⟨_,rfl⟩;rename_i Z;cases Z;cases X;obtain⟨v,X,rfl⟩:=L j c _ U N;unfold oc at X;split at X;rename_i Z;cases Z;rename_i Z;cases Z;rename_i Z;cases Z;exact adl R X;cases X
def UQ{ae:List CT}(h:jg d s ae Q=true){z:Value}(Z:(Q.map (SV.bu O))[X]?=some n)(L:ae[X]?=some (.ax z y))(N:cm d y n I):
  ∃r:RE,Q[X]?=some (.ref r)/\r.kind d s=y/\y≠ .ax/\cm d y (r.rv O) I:=by
 obtain⟨H,J⟩:=CL h;rw[ayF] at Z;cases M:Q[X]? with
 |none=>rw[M] at Z;cases Z
 |some v=>
  rw[M] at Z;simp at Z;subst Z;have U:=J X _ v L M;unfold oc at U;split at U;rename_i R;cases R;rename_i R;cases R;rename_i r R;cases R;exact⟨r,rfl,(UO (O:=O) U N).1,(UO (O:=O) U N).2,N⟩;cases U
def Ac:∀{ae:List CT}{l:List (List SV)},jI d s ae l=true->∀(i:Nat)(Z:List SV),l[i]?=some Z->jg d s ae Z=true
 |ae,[],_,i,Z,h=>by simp at h
 |ae,r::U,h,0,Z,X=>by simp only[jI,ayz] at h;simp at X;subst X;exact h.1
 |ae,r::U,h,i+1,Z,X=>by simp only[jI,ayz] at h;exact Ac h.2 i Z (by simpa using X)
def UR{Z:List RK}(h:(gJ R 0 Z)[X]?=some (.own U)):Z[X]?=some (.own U)/\X∉R:=by
 rw[Fq] at h;cases N:Z[X]? with
 |none=>rw[N] at h;cases h
 |some x=>
  rw[N] at h;simp only[ay9,ayI,ayE] at h;cases x<;>simp[tV] at h
  case own t=>
   by_cases Q:X∈R;simp[Q] at h;simp[Q] at h;exact⟨by rw[h],Q⟩
def adn{U:List RK}(h:(fw R 0 U)[X]?=some y):(X∈R/\y=.dead)\/(X∉R/\U[X]?=some y):=by
 rw[Fp] at h;cases Q:U[X]? with
 |none=>rw[Q] at h;cases h
 |some x=>
  rw[Q] at h;simp only[ay9,ayI,ayE] at h;by_cases Z:X∈R;simp[Z] at h;exact .inl ⟨Z,h.symm⟩;simp[Z] at h;exact .inr ⟨Z,by rw[h]⟩
structure Ad(W W':World)(e:TypeId)(w:Nat)(old:Option Nat)(rows:List (List RV))(A:Option Addr)(cap:Nat):Prop where
 le:rows.length<=cap
 nil:A=none->cap=0
 mem:cap=0\/∃b cur,A=some ⟨b,0,none⟩/\W'.heap[b]?=some (.cells cur e (0,0))/\cap<=maxLen/\cur.size=cap*w/\cur.toList.take (rows.length*w)=cu rows/\(W.heap.size<=b\/old=some b)
def yg(d:Ty)(V:List Nat)(O:aa)(s:S)(e:TypeId)(rows:List (List RV))(X:List Nat):Prop:=
 ∀b,jK d e rows b->O.lR d s.rs b/\(∀i,aE s.boxes i=true->ad V i≠b)/\∀(k:Nat)(t:TypeId)(Z:RV),s.rs[k]?=some (.own t)->O.r[k]?=some Z->Z.hU=some b->k∈X
def Jk{Z:List RK}(h:s.bd=true)(X:Z.length=s.rs.length):({s with rs:=Z}:S).bd=true:=by
 simp only[S.bd,X] at h⊢;exact h
def ap.bind(R:ap f g D d V O s a W)(hb:s.bd=true){e:TypeId}{rows:List (List RV)}{kill frz:List Nat}{old:Option Nat}{W':World}{A:Option Addr}{cap:Nat}
  (hk:(kill=[]/\old=none)\/∃k t C,kill=[k]/\s.rs[k]?=some (.own t)/\O.r[k]?=some C/\old=C.hU)(a2:∀k∈kill,k∉frz)
  (w:W.grownBy W' old)(j:dt W d e rows)(v:yg d V O s e rows frz)(H:Ad W W' e (aV d (.sl e)).length old rows A cap):
  ap f g D d V (O.add (.r (.mk (.slice A rows.length cap) rows))) {s with rs:=gJ frz 0 (fw kill 0 s.rs)++[.own e]} a W'/\∀b,cm d (.sl e) (.mk (.slice A rows.length cap) rows) b->g.heap.size<=b\/b∈f\/O.lR d s.rs b:=by
 have G:∀b,old=some b->(g.heap.size<=b\/b∈f)/\b<W.heap.size/\(∀i,aE s.boxes i=true->ad V i≠b)/\(∀N M Q,N∉kill->s.rs[N]?=some M->O.r[N]?=some Q->¬ub d M Q b)/\¬jK d e rows b:=by
  intro b y;rcases hk with⟨_,z⟩|⟨k,t,C,rfl,Z,J,F⟩;rw[z] at y;cases y;rw[F] at y;have p:=R.dK k t C b Z J y;refine⟨p.own,p.lt,p.box,λN M Q hn=>p.alone N M Q (by simpa using hn),λL=> ?_⟩;exact a2 k (by simp) ((v b L).2.2 k t C Z J y)
 have R1:ap f g D d V O {s with rs:=fw kill 0 s.rs} a W':=by
  rcases hk with⟨rfl,rfl⟩|⟨k,t,C,rfl,Z,J,rfl⟩;have:fw [] 0 s.rs=s.rs:=by
   apply ay3;intro i;rw[Fp];cases s.rs[i]?<;>simp
  rw[this];exact R.grown w;exact R.cA Z J w
 have R2:=R1.jP (Nd frz _);have a3:dt W' d e rows:=j.world (λb L=>w.block b (j.lt L) (λh=>(G b h.symm).2.2.2.2 L)) w.size;have a4:aW W' d (.sl e) (.mk (.slice A rows.length cap) rows):=by
  rcases H.mem with z|⟨b,ab,rfl,Z,J,F,h4,X⟩;have U:=H.le;have:rows=[]:=ay4 (by omega);subst this;exact yf A cap;refine UN a3 ⟨_,_,_,Z⟩ (λq u o=> ?_) H.le;rw[<-h4,ay7] at o;split at o;simp only[World.cell?,Z,ay9];simpa using o;cases o
 have af:∀b,ub d (.own e) (.mk (.slice A rows.length cap) rows) b->(W.heap.size<=b\/old=some b)\/jK d e rows b:=by
  intro b U;have an:∀B,A=some B->cap≠0->B.block=b->(W.heap.size<=b\/old=some b):=by
   intro B hA hc n;rcases H.mem with z|⟨E,ab,Z,_,_,_,_,X⟩;exact absurd z hc;rw[Z] at hA;cases hA;simp only at n;subst n;exact X
  rcases U with U|⟨-,U⟩;cases U with
  |own e C b U=>
   rcases adj U with⟨B,bf,bg,Z,rfl⟩|Z;simp only[Value.slice.injEq] at Z;exact .inl (an B Z.1 (by have:=H.le;omega) rfl);exact .inr Z
  simp only[RV.hU,RV.ji] at U;split at U;rename_i B l0 c0 Z;cases Z;simp at U;exact .inl (an B rfl (by omega) U);cases U
 have a5:∀{k:Nat}{M:RK},(gJ frz 0 (fw kill 0 s.rs))[k]?=some M->∃m,(fw kill 0 s.rs)[k]?=some m/\mI m M:=λh=>(Nd frz _).get _ _ h
 constructor;refine R2.add (Jk (Jk hb (vU _ _ _)) (vV _ _ _)) (aW.own e _ a4 (λl c h=>by cases h;exact H.nil rfl)) (λb U i L=> ?_) (λk t Q b Z J F U=> ?_) (λt b ht a1=> ?_);rcases af b (.inl U) with(h|h)|h;have:=R.mem.lt L;omega;exact(G b h).2.2.1 i L;exact(v b h).2.1 i L;obtain⟨a6,a7⟩:=UR Z;rcases adn a6 with⟨_,h⟩|⟨a8,ag⟩;cases h;rcases af b U with(h|h)|h;have:=(R.dK k t Q b ag J F).lt;omega;exact(G b h).2.2.2.1 k _ Q a8 ag J (.inr ⟨⟨t,rfl⟩,F⟩);exact a7 ((v b h).2.2 k t Q ag J F);cases ht;have a9:cap≠0:=by
  intro h;subst h;simp[RV.hU] at a1
 rcases H.mem with z|⟨E,ab,rfl,Z,J,F,h4,X⟩;exact absurd z a9;have n:E=b:=by
  obtain⟨c',rfl⟩:∃c',cap=c'+1:=⟨cap-1,by omega⟩;simpa[RV.hU] using a1
 subst n;have bb:∀(N:Nat)(M:RK)(Q:RV),(fw kill 0 s.rs)[N]?=some M->O.r[N]?=some Q->¬ub d M Q E:=by
  intro N M Q g1 x I;rcases adn g1 with⟨_,rfl⟩|⟨hn,al⟩;rcases I with I|⟨⟨t,ht⟩,_⟩;cases I;cases ht;rcases X with X|X;rcases I with I|⟨⟨t,rfl⟩,I⟩;have:=(R.mem.ref N M Q al x).1.lt I;omega;have:=(R.dK N t Q E al x I).lt;omega;exact(G E X).2.2.2.1 N M Q hn al x I
 refine⟨?_,⟨rows.length,cap,ab,rfl,Z,H.le,J,F⟩,λi L=> ?_,λN M Q g1 x I=> ?_,λL=> ?_⟩;rcases X with X|X;exact .inl (azF R.mem.base.size X);exact(G E X).1;rcases X with X|X;have:=R.mem.lt L;omega;exact(G E X).2.2.1 i L;obtain⟨m,g4,hw⟩:=a5 g1;exact bb N m Q g4 x (I.jP hw);rcases X with X|X;have:=j.lt L;omega;exact(G E X).2.2.2.2 L;intro b U;rcases af b (.inl (cm.own _ _ _ U)) with(h|h)|h;exact .inl (azF R.mem.base.size h);exact(G b h).1.imp id .inl;exact .inr (.inr (v b h).1)
end
end
section
section
variable{f:List Nat}{g:World}{D:bz}{P:Program}{d:Ty}{V:List Nat}{O:aa}{s:S}{a:Act}{W:World}
def ik(A:Option Addr)(Z:Nat):Option Nat:=match A,Z with
 |some a,_+1=>some a.block
 |_,_=>none
def Fv(A:Option Addr)(n Z:Nat)(X:List (List RV)):(RV.mk (.slice A n Z) X).hU=ik A Z:=by
 cases A<;>cases Z<;>rfl
structure Fw(W:World)(e:TypeId)(w:Nat)(A:Option Addr)(cap:Nat):Prop where
 nil:A=none->cap=0
 mem:cap=0\/∃b cur,A=some ⟨b,0,none⟩/\W.heap[b]?=some (.cells cur e (0,0))/\cap<=maxLen/\cur.size=cap*w
def US{N:Nat}{Q:Array Value}{t:TypeId}{M:Nat×Nat}(h:aW W d (.sl U) (.mk (.slice (some ⟨X,0,none⟩) I N) Z))(L:W.heap[X]?=some (.cells Q t M)):
  Q.toList.take (Z.length*(aV d (.sl U)).length)=cu Z:=by
 have F:=vW (dt.sr h).len;have J:∀(q:Nat)(u:Value),(cu Z)[q]?=some u->Q[q]?=some u:=by
  intro q u R;obtain⟨E,C,H,B,G⟩:=Jg h q u R;cases H;simpa[World.cell?,L] using G
 apply ay3;intro q;rw[ay7];by_cases R:q<(cu Z).length;rw[if_pos (by omega),ayB R];simpa using J q _ (ayB R);rw[if_neg (by omega),ayX (by omega)]
def anR{t t2 tyR:TypeId}{L:TI}(an:cS P U L)(hw:L.ae.length≠0)(l:(aV d (.sl U)).length=L.ae.length)(C:P.underlying t=some (.slice U))(B:P.underlying t2=some (.slice U))
   {y:Option Addr}{Q cap2:Nat}(H:aW W d (.sl U) (.mk (.slice v X I) Z))(hr:Fw W U L.ae.length v I)
  (g:N.length=Q)(a3:dt W d U N)(a4:∀(q:Nat)(u:Value),(cu N)[q]?=some u->∃w,y=some w/\W.cell? (w.add q)=some u)
  (b3:X<=536870912)(b4:Q<=536870912):
  ∃A a5 f,(Builtin.append_ #[t,t2] tyR #[.slice v X I,.slice y Q cap2]).run P W=.ok (.slice A (X+Q) a5) f/\W.grownBy f (ik v I)/\Ad W f U L.ae.length (ik v I) (Z++N) A a5:=by
 obtain⟨i,G,F,z,hz,a9⟩:=an.Fb;have bb:=an.bytes i G;have bd:z.cells.size=L.ae.length:=by rw[<-azL,a9];simp
 obtain⟨lT,b5⟩:=ow H;have bf:=dt.sr H;have a6:(cu Z).length=X*i.size:=by rw[vW bf.len,lT,l,F]
 have ab:(cu N).length=Q*i.size:=by rw[vW a3.len,g,l,F]
 have af:(cu (Z++N)).length=(X+Q)*L.ae.length:=by rw[UM,ayN,a6,ab,F,azD]
 have r:(Z++N).length=X+Q:=by simp[lT,g]
 have ag:∀M:World,(∀x,M.cell? x=W.cell? x)->(Builtin.firstCells i.size Q (.slice y Q cap2)).run P M=.ok (cu N).toArray M:=by
  intro M p;cases y with
  |none=>
   have:cu N=[]:=by
    cases hq:cu N with
    |nil=>rfl
    |cons x xs=>obtain⟨w,h,_⟩:=a4 0 x (by rw[hq];rfl);cases h
   rw[run_firstCells_none,this]
  |some a2=>
   refine run_firstCells_some M i.size Q a2 Q cap2 _ ab (λj R hj=> ?_);obtain⟨w,h,h'⟩:=a4 j R hj;cases h;rw[p];exact h'
 have bg:∀M:World,(∀x,M.cell? x=W.cell? x)->(Builtin.firstCells i.size X (.slice v X I)).run P M=.ok (cu Z).toArray M:=by
  intro M p;cases v with
  |none=>
   have:cu Z=[]:=by
    cases hq:cu Z with
    |nil=>rfl
    |cons x xs=>obtain⟨b,bk,h,_⟩:=Jg H 0 x (by rw[hq];rfl);cases h
   rw[run_firstCells_none,this]
  |some o=>
   refine run_firstCells_some M i.size X o X I _ a6 (λj R hj=> ?_);obtain⟨b,bk,h,_,h'⟩:=Jg H j R hj;cases h;rw[p,sq];exact h'
 by_cases n:X+Q<=I
 
 rcases azO I with h0|h0;have e1:X=0:=by omega
 have e2:Q=0:=by omega
 subst h0 e1 e2;have r1:Z=[]:=ay4 lT;have r2:N=[]:=ay4 g;subst r1 r2;refine⟨v,0,W, ?_,⟨rfl,rfl,rfl,ayH _,λ_ _ _=>rfl⟩,⟨ayH _,λ_=>rfl,.inl rfl⟩⟩;have J:=ag W (λ_=>rfl);have m:∀o:Addr,(storeCells o [] 0).run P W=.ok () W:=λ_=>rfl
 cases v with
 |none=>simp[Builtin.append_,run_underlying C,run_underlying B,Go.sizeOf,typeInfo,G,Builtin.lenOf,J,cu]
 |some o=>simp[Builtin.append_,run_underlying C,run_underlying B,Go.sizeOf,typeInfo,G,Builtin.lenOf,J,cu,m]
 rcases hr.mem with p|⟨b,E,rfl,hg,al,bl⟩;omega;have bo:X*i.size+(cu N).length<=E.size:=by rw[ab,bl,<-azD,F];exact azP _ n
 have J:=ag W (λ_=>rfl);have m:=run_storeCells_at P b (X*i.size) U (cu N) 0 E W hg (by simpa using bo) (λu hu=>ade (a3.single u hu));simp only[azU] at m;have a7:ik (some ⟨b,0,none⟩) I=some b:=by cases I with
  |zero=>omega
  |succ c=>rfl
 refine⟨some ⟨b,0,none⟩,I,W.setRow b (E.toList.take (X*i.size)++cu N++E.toList.drop (X*i.size+(cu N).length)).toArray, ?_,⟨rfl,rfl,rfl,by simp[World.setRow],λk _ hk=>setRow_other W b k _ (λh=>hk (by rw[a7,h]))⟩,
  ⟨by rw[r];exact n,by simp,.inr ⟨b,_,rfl,setRow_heap W b E _ U _ hg,al, ?_, ?_,.inr a7⟩⟩⟩
 simp[Builtin.append_,run_underlying C,run_underlying B,Go.sizeOf,typeInfo,G,Builtin.lenOf,n,J,Addr.add_lit,m];simp only[azY,ayN,az6,az2,azL];omega;have a8:=US H hg;rw[lT,l,<-F] at a8;rw[r,a8,<-UM,<-af];exact List.take_left
 
 have br:X+Q<=1073741824:=by omega
 have bs:(X+Q)*i.bytes<=140737488355328:=by
  have:(X+Q)*i.bytes<=1073741824*131072:=aBj br bb;omega
 have b6:=growslice_fits (show I<X+Q by omega) bs;have bt:X+Q<=maxLen:=by simp only[maxLen];omega
 have bx:=grownCap_ge W (X+Q) I U;have al:=grownCap_le_maxLen W (X+Q) I U bt;have J:=ag W.drew (λ_=>by simp);have b0:=bg W.drew (λ_=>by simp);have b1:¬(9223372036854775807<((X:Int)+(Q:Int))):=by omega
 have b2:¬(281474976710656<Builtin.nextslicecap (X+Q) I*i.bytes):=by omega
 refine⟨some ⟨W.heap.size,0,none⟩,grownCap W (X+Q) I U,W.drew.alloc (.cells ((cu (Z++N)).toArray++Builtin.zeroCells z.cells (grownCap W (X+Q) I U-(X+Q))) U), ?_,
  ⟨rfl,rfl,rfl,by simp,λk hk _=>Below.heap_alloc W.drew _ _ hk⟩,⟨by rw[r];exact bx,by simp,.inr ⟨W.heap.size,_,rfl,World.alloc_heap_new W.drew _,al, ?_, ?_,.inl (ayH _)⟩⟩⟩
 simp[Builtin.append_,run_underlying C,run_underlying B,Go.sizeOf,typeInfo,zeroValue,G,hz,Builtin.lenOf,n,b1,b2,Question.forced,J,b0,newRow,grownCap];congr 2;apply azv;simp[azt,UM];simp only[Array.size_append,azY,size_zeroCells,bd,af,<-azD];congr 1;omega;simp only[Array.toList_append,r,<-af];exact List.take_left
end
end
variable{J:aa}{G:S}
section
structure ba(s:S)(O:aa)(V:List Nat)(s':S)(O':aa)(V':List Nat):Prop where
 ext:jO s.boxes O O' V V'
 mono:∀i,aE s.boxes i=true->aE s'.boxes i=true
 len:s.boxes.length<=s'.boxes.length
 ao:s.ao<=s'.ao
def ba.refl(s:S)(O:aa)(V:List Nat):ba s O V s O V:=⟨jO.refl _ _ _,λ_ h=>h,ayH _,ayH _⟩
def ba.trans{s s' Z:S}{O X U:aa}{V R Q:List Nat}(h:ba s O V s' X R)(k:ba s' X R Z U Q):ba s O V Z U Q:=
 ⟨h.ext.trans k.ext h.mono,λi N=>k.mono i (h.mono i N),azF h.len k.len,azF h.ao k.ao⟩
def ba.put{s s':S}{Z:aa}{X:List Nat}(h:ba s J R s' Z X)(d:Option Nat)(v:SV):ba s J R (s'.put d v) Z X:=by
 cases d<;>exact⟨h.ext,h.mono,h.len,h.ao⟩
def OR.gives(O:aa)(Z:S):OR->Prop
 |.ok x=>Z=x
 |.aF b x=>b.den O=true/\Z=x
 |.split b X U=>Z=if b.den O then X else U
 |.no _=>False
def oz(P:Program)(o:Oper)(a:Act)(W:World)(v:Value)(Z:World):Prop:=
 (execOp a.eval o).run P W=.ok (.value v) Z\/((execOp a.eval o).run P W=.ok .skip Z/\v=undef)
def UT(h:dH G.boxes X=true)(t:TypeId)(Z:List SV)(d:Option Nat)(v:SV):ba G J R ((G.bM X t Z).put d v) J (R.set X I):=by
 refine ba.put (s':=G.bM X t Z) ⟨adb h J R I,λi U=>(lp (jC h).2).2 (.inr U),by simp[S.bM],by simp[S.bM]⟩ d v
def ado{Z:List SV}(h:bD G.boxes X=some (U,Q))(d:Option Nat)(v:SV):ba G J R ((G.bM X U Z).put d v) J R:=by
 refine ba.put (s':=G.bM X U Z) ⟨jO.refl _ _ _,λi N=>(lp (ayA.1 (gg.1 h)).1).2 (.inr N),by simp[S.bM],by simp[S.bM]⟩ d v
def ba.lk{Z:S}{X:aa}{U:List Nat}(h:ba G J R Z X U)(n:Nat):ba G J R {Z with lk:=n} X U:=⟨h.ext,h.mono,h.len,h.ao⟩
section
variable{g:List Nat}{u:World}{D:bz}{P:Program}{f:aY}{V:List Nat}{O:aa}{s:S}{a:Act}{W:World}
def ap.lk(R:ap g u D f.ty V O s a W)(n:Nat):ap g u D f.ty V O {s with lk:=n} a W:=⟨R.mem,R.dS,R.ei,R.eb,R.er,R.bY,R.size,R.tmps,R.dK⟩
def vX{Z:S}{d:Option Nat}{r:PR}(h:(od G d X r).gives J Z):∃v,r.gives J v/\Z=G.bP d v X:=by
 cases r with
 |ok v=>exact⟨v,rfl,h⟩
 |aF b v=>
  simp only[od] at h;split at h;exact⟨v,⟨h.1,rfl⟩,h.2⟩;exact h.elim
 |no w=>exact h.elim
def adp(n:Nat)(l:List SV):(rY n l).length=n*l.length:=by
 induction n with
 |zero=>simp[rY]
 |succ n Z=>simp[rY,Z,azD];omega
def UU(l:List SV):∀(n k:Nat),k<n*l.length->(rY n l)[k]?=l[k%l.length]?
 |0,k,h=>by simp at h
 |n+1,k,h=>by
  have U:0<l.length:=by
   rcases azO l.length with Z|Z;rw[Z] at h;simp at h;exact Z
  rw[rY];by_cases X:k<l.length;rw[ayD X,Nat.mod_eq_of_lt X];rw[ayG (by omega),UU l n (k-l.length) (by rw[azD] at h;omega)];congr 1;have:k=(k-l.length)+l.length:=by omega
  conv=>rhs;rw[this,Nat.add_mod_right]
def Jl(R:ap g u D f.ty V O s a W)(I:fz P f.ty)(J:dg f.gl O)(m:OM)(h:(dN f m s).gives O G):
  ∃v r V',oz P m.o a W v r/\ap g u D f.ty V' O G (a.put m.o.dst v) r/\ba s O V G O V':=by
 unfold dN at h;split at h;exact h.elim;rename_i X;have X:∀x∈m.o.op.operands.toList,(s.ev f.gl x).cM=false:=by
  intro x hx;cases hh:(s.ev f.gl x).cM;rfl;exact absurd (ay8.2 ⟨x,hx,hh⟩) X
 split at h
 
 rename_i t Z;split at h;rename_i n E;split at h;rename_i U;simp only[ayz] at U;cases h;obtain⟨z,ab,af⟩:=Fh (P:=P) (W:=W) (O:=O) (V:=V) (I _ _ E);have L:=R.alloc (ov U.2) t (co n) U.1;rw[ou (Fo U.2)] at L;have B:=jC (ov U.2);refine⟨.pointer (some ⟨W.heap.size,0,none⟩),W.alloc (.cells (SV.au O V (co n)).toArray t),V.set m.ix W.heap.size,.inl ?_, ?_,UT (ov U.2) _ _ _ _⟩;rw[<-af];simp[execOp,Z,Instr.alloc,ab,newVar,newRow];have:=L.put m.o.dst (.loc m.ix 0);rw[SV.den,ye (by rw[R.dS];exact B.2)] at this;exact this;exact h.elim;exact h.elim
 
 rename_i t x Z;rw[Z] at X;have he:=bQ R J x (X x (by simp[Op.operands]));split at h;rename_i n E;split at h;rename_i U;simp only[ayz] at U;cases h;obtain⟨⟨⟨-,A⟩,j⟩,M⟩:=U;have ag:=Na (O:=O) (V:=V) (qH R) j;have L:=R.alloc (ov M) t (s.ev f.gl x).cells A;rw[ou (Fo M)] at L;have B:=jC (ov M);refine⟨.pointer (some ⟨W.heap.size,0,none⟩),W.alloc (.cells (SV.au O V (s.ev f.gl x).cells).toArray t),V.set m.ix W.heap.size,.inl ?_, ?_,UT (ov M) _ _ _ _⟩;rw[<-ag];simp[execOp,Z,Instr.box,newVar,newRow,he];have:=L.put m.o.dst (.loc m.ix 0);rw[SV.den,ye (by rw[R.dS];exact B.2)] at this;exact this;exact h.elim;exact h.elim
 
 rename_i t N parts Z;rw[Z] at X;have a2:(parts.map λ(i,x)=>(i,a.eval x)).toList=(parts.toList.map λp=>(p.1,s.ev f.gl p.2)).map λp=>(p.1,p.2.den O V):=by
  simp only[azy,azo];apply ayZ;intro p hp;have:=bQ R J p.2 (X p.2 (by simp[Op.operands];exact⟨p.1,by simpa using hp⟩));simp[this]
 split at h;rename_i e ae q E;split at h;rename_i Q al;split at h;rename_i l hf;split at h;rename_i U;simp only[ayz,decide_eq_true_eq] at U;cases h;obtain⟨⟨A,j⟩,M⟩:=U;have hd:P.underlying t=some (.slice e):=(I _ _ E).desc;obtain⟨z,ab,af⟩:=Fh (P:=P) (W:=W) (O:=O) (V:=V) (I _ _ al);have a3:=Jd (V:=V) (qH R) _ _ _ _ hf;have w:(co Q).length=Q.ae.length:=by simp[co]
 have hzero:((aBM (N*Q.ae.length)).map ((if N*Q.ae.length=0 then #[] else z.cells)[· %(if N*Q.ae.length=0 then #[] else z.cells).size]!))=(SV.au O V (rY N (co Q))).toArray:=by
  apply azv;apply ay3;intro k;by_cases d:k<N*Q.ae.length;have a6:¬N*Q.ae.length=0:=by omega
  have a7:0<Q.ae.length:=by
   rcases azO Q.ae.length with H|H;rw[H] at d;simp at d;exact H
  have a4:k%Q.ae.length<(SV.au O V (co Q)).length:=by rw[CD,w];exact aAY _ a7
  simp only[a6,if_false,af,azy,aBl,ayF,azM d,ayI,ol,UU _ _ _ (by rw[w];exact d),w];rw[<-ol,ayB a4];simp only[azY,CD,w];rw[getElem!_pos _ _ (by simpa using a4)];simp;rw[ayX (by simp;omega),ayX (by simp[adp,w];omega)]
 have L:=R.alloc (ov M) e l A;rw[ou (Fo M)] at L;have B:=jC (ov M);refine⟨.slice (some ⟨W.heap.size,0,none⟩) N N,W.alloc (.cells (SV.au O V l).toArray e),V.set m.ix W.heap.size,.inl ?_, ?_,UT (ov M) _ _ _ _⟩;have a5:¬N*Q.ae.length>2^24:=by omega
 by_cases H:N*Q.ae.length=0;simp only[if_pos H] at hzero;simp only[execOp,Z,Instr.buildSlice,Sem.run_bind,cS.eE hd,Result.andThen_ok,(I _ _ al).jN,a5,if_false,Sem.run_pure,if_pos H,a2];rw[hzero,a3];simp[newRow];simp only[if_neg H] at hzero;simp only[execOp,Z,Instr.buildSlice,Sem.run_bind,cS.eE hd,Result.andThen_ok,(I _ _ al).jN,a5,if_false,Sem.run_pure,if_neg H,a2,ab];rw[hzero,a3];simp[newRow];have:=L.put m.o.dst (.fo m.ix 0 N N);rw[SV.den,ye (by rw[R.dS];exact B.2)] at this;exact this;exact h.elim;exact h.elim;exact h.elim;exact h.elim
 
 rename_i t x y Z;rw[Z] at X;have an:=bQ R J x (X x (by simp[Op.operands]));have a0:=bQ R J y (X y (by simp[Op.operands]));split at h;rename_i n i a9 E hx;split at h;rename_i bt cs C;split at h;rename_i U;simp only[ayz,beq_iff_eq,decide_eq_true_eq] at U;cases h;obtain⟨⟨⟨⟨A,j⟩,M⟩,h4⟩,-⟩:=U;have ag:=Na (O:=O) (V:=V) (qH R) h4;obtain⟨C,a8⟩:=ud C;obtain⟨r,hr,L⟩:=R.store (I _ _ E) C a8 A j M ag;refine⟨undef,r,V,.inr ⟨?_,rfl⟩,L.put m.o.dst (.bh []),ado C _ _⟩;simp only[execOp,Z,an,a0,hx,SV.den,Sem.run_bind,hr,Result.andThen_ok,Sem.run_pure];exact h.elim;exact h.elim;exact h.elim
 
 rename_i c x y Z;rw[Z] at X;have a1:=bQ R J c (X c (by simp[Op.operands]));have an:=bQ R J x (X x (by simp[Op.operands]));have a0:=bQ R J y (X y (by simp[Op.operands]));split at h;rename_i b C;simp only[OR.gives] at h;rw[C,SV.den] at a1;cases F:b.den O;simp only[F,ayV,if_false] at h;subst h;refine⟨_,W,V,.inl ?_,R.put _ _,(ba.refl _ _ _).put _ _⟩;simp[execOp,Z,a1,F,asBool,a0];simp only[F,if_true] at h;subst h;refine⟨_,W,V,.inl ?_,R.put _ _,(ba.refl _ _ _).put _ _⟩;simp[execOp,Z,a1,F,asBool,an];exact h.elim
 
 rename_i t x Z;obtain⟨v,F,rfl⟩:=vX h;exact⟨v.den O V,W,V,.inl (ac8 R I J m.o X (by rw[Z];exact F)),(R.lk _).put _ _,((ba.refl _ _ _).lk _).put _ _⟩
 
 obtain⟨v,F,rfl⟩:=vX h;exact⟨v.den O V,W,V,.inl (ac8 R I J m.o X F),(R.lk _).put _ _,((ba.refl _ _ _).lk _).put _ _⟩
def ap.room{g:List Nat}{u:World}{D:bz}{V:List Nat}{O:aa}{s:S}{a:Act}{W:World}(R:ap g u D f.ty V O s a W)(n:Nat):
  ap g u D f.ty (V++ayJ n 0) O (s.room n) a W/\ba s O V (s.room n) O (V++ayJ n 0):=by
 have Z:∀k,ad (V++ayJ n 0) k=ad V k:=by
  intro k;simp only[ad,ayC];by_cases h:k<V.length;rw[ayD h];rw[ayG (by omega),ayX (l:=V) (by omega),azE];split<;>rfl
 have L:∀i,bD (s.boxes++ayJ n none) i=bD s.boxes i:=by
  intro i;simp only[bS];by_cases h:i<s.boxes.length;rw[ayD h];rw[ayG (by omega),ayX (l:=s.boxes) (by omega),azE];split;rename_i U;split at U<;>cases U;rfl
 have Q:∀i,aE (s.boxes++ayJ n none) i=aE s.boxes i:=λi=>by simp[aE,L]
 have I:=fj.refl O O.i.length O.b.length O.r.length;have J:∀v,SV.den O (V++ayJ n 0) v=v.den O V:=by
  intro v;have:ad (V++ayJ n 0)=ad V:=funext Z;exact M2 this v
 have B:∀l,SV.au O (V++ayJ n 0) l=SV.au O V l:=λl=>by simp only[lj];exact ayZ λv _=>J v
 refine⟨⟨⟨R.mem.base,λi X=> ?_,λi j X H=> ?_,λi t G h=> ?_,λk e N U M=> ?_⟩,by simp[S.room,R.dS],R.ei,R.eb,R.er,R.bY,R.size,λt F h=> ?_,λk e N b U M E=> ?_⟩,⟨⟨I,ayH _,ayH _,ayH _,λk _=>Z k⟩,λi X=> ?_,by simp[S.room],ayH _⟩⟩;rw[Z];exact R.mem.own i (by rw[<-Q];exact X);rw[Z,Z];exact R.mem.inj i j (by rw[<-Q];exact X) (by rw[<-Q];exact H);rw[Z,acI (funext Z)];exact R.mem.box i t G (by rw[<-L];exact h);refine⟨(R.mem.ref k e N U M).1,λb C i X=> ?_⟩;rw[Z];exact(R.mem.ref k e N U M).2 b C i (by rw[<-Q];exact X);rw[J];exact R.tmps t F h;have t:=R.dK k e N b U M E;exact⟨t.own,t.mem,λi X=>by rw[Z];exact t.box i (by rw[<-Q];exact X),t.alone,t.inner⟩;simp only[S.room];rw[Q];exact X
end
end
variable{M:Bool}
section
section
variable{f:List Nat}{g:World}{D:bz}{P:Program}{cf:aY}{V:List Nat}{O:aa}{s:S}{a:Act}{W:World}
def uh{d:Option Nat}{aF:BE}{x:LE}{Z:List Nat}{b:BI}(h:gu s d aF U y x R Z=some b):
  s.bd=true/\(∀y∈R,y∉Z)/\b=⟨aF,U,x,({s with rs:=gJ Z 0 (fw R 0 s.rs)++[y]}:S).put d (.ref (.v s.rs.length))⟩:=by
 unfold gu at h;split at h;rename_i X;cases h;simp only[ayz] at X;exact⟨X.1.1.1,λy Q=>by have:=ayM.1 X.1.1.2 y Q;simpa using this,rfl⟩;cases h
def CM(Z:ap f g D t V (O.add (.r n)) G a L)(U:O.r.length=X)(d:Option Nat):ap f g D t V (O.add (.r n)) (G.put d (.ref (.v X))) (a.put d n.val) L:=by
 have:=Z.put d (.ref (.v X));have e:SV.den (O.add (.r n)) V (.ref (.v X))=n.val:=by subst U;simp[SV.den,RE.den,RE.rv,aa.rv,aa.add]
 rwa [e] at this
def Ae{rv:RV}(Z:List RK)(d:Option Nat)(v:SV):ba s O V (({s with rs:=Z}:S).put d v) (O.add (.r rv)) V:=
 ba.put (s:=s) (s':={s with rs:=Z}) ⟨nl _ _ _ _,λ_ h=>h,ayH _,ayH _⟩ d v
def Nk{n:IE}(h:(EN n).den O=true):n.den O<=536870912:=by
 unfold EN at h;rw[xZ] at h;simp only[ey,IE.den,EM] at h;exact of_decide_eq_true h
def Fy(P:Program)(f:List Nat)(g:World)(D:bz)(X:Ty)(V:List Nat)(O:aa)(s:S)(a:Act)(W:World)(o:Oper)(b:BI):Prop:=
 ∃v U Z,oz P o a W v U/\CE X f g b.e b.x s.rs O Z/\ap f g D X V (O.add (.r Z)) b.s (a.put o.dst v) U/\ba s O V b.s (O.add (.r Z)) V
def Jm(R:ap f g D cf.ty V O s a W)(h:s.rs[X]?=some (.own U)):∃A n Z,O.rv X=.mk (.slice A n Z) (O.rv X).rows/\aW W cf.ty (.sl U) (.mk (.slice A n Z) (O.rv X).rows)/\Fw W U (aV cf.ty (.sl U)).length A Z:=by
 have Q:=UA R h;have E:=pE R h;have L:=λb J=>R.dK X U _ b h E J
 revert Q L;generalize O.rv X=C;intro Q L;cases Q with
 |own U C Q H=>
  cases Q with
  |sl U A N Z G B z y x J w=>
   refine⟨A,N,Z,rfl,aW.sl U A N Z G B z y x J w,λv=>H N Z (by rw[v];rfl), ?_⟩;rcases azO Z with F|F;exact .inl F;right;cases A with
   |none=>have:=H N Z rfl;omega
   |some I=>
    have u:(RV.mk (.slice (some I) N Z) G).hU=some I.block:=by rw[Fv];cases Z with
     |zero=>omega
     |succ c=>rfl
    obtain⟨o,m,t,M,r,l,q,p⟩:=(L _ u).mem;simp only[RV.ji,Value.slice.injEq] at M;obtain⟨M,rfl,rfl⟩:=M;exact⟨I.block,t,M,r,q,p⟩
def anS(Z:ap f g D cf.ty V O s a W){I:LE}{C:BE}(h:rZ s U M b=some (I,C,R))(z:C.den O=true):
  ∃A n Q,b.den O V=.slice A n Q/\aW W cf.ty (.sl U) (.mk (.slice A n Q) (I.rows O))/\Fw W U (aV cf.ty (.sl U)).length A Q/\n<=536870912/\
   ((R=[]/\ik A Q=none)\/∃k t H,R=[k]/\s.rs[k]?=some (.own t)/\O.r[k]?=some H/\ik A Q=H.hU)/\∀J,yg cf.ty V O s U (I.rows O) J:=by
 unfold rZ at h;split at h;rename_i k;split at h;rename_i y;cases h;have N:=y.1;obtain⟨A,n,Q,G,w,v⟩:=Jm Z N;have F:=Nk z;refine⟨A,n,Q,by simp only[SV.den,RE.den,RE.rv];rw[G];rfl,by simpa[LE.rows,RE.rv] using w,v, ?_,.inr ⟨k,U,O.rv k,rfl,N,pE Z N,by rw[G,Fv]⟩,λJ X L=> ?_⟩;simp only[IE.den,RE.rv] at F;rw[G] at F;simp[lenOf] at F;omega;simp only[LE.rows,RE.rv] at L;have B:=Ft (O:=O) (e0:=.own U) rfl L;refine⟨⟨k,_,N,B⟩,(Z.mem.ref k _ _ N (pE Z N)).2 X B,λo t H u q p=>(Jj Z u q p N rfl L).elim⟩;cases h;rename_i r m;split at h;rename_i E;cases h;unfold RE.isNil at E;split at E;refine⟨none,0,0,rfl,yf _ _,⟨λ_=>rfl,.inl rfl⟩,by omega,.inl ⟨rfl,rfl⟩,λJ X L=>(Ji (by simpa[LE.rows] using L)).elim⟩;cases E;cases h;cases h;refine⟨_,0,0,rfl,yf _ _,⟨by simp,.inl rfl⟩,by omega,.inl ⟨rfl,rfl⟩,λJ X L=>(Ji (by simpa[LE.rows] using L)).elim⟩;cases h
def Nl{w:Nat}:∀{n:Nat}{l:List SV}{i:Nat}{Z:List SV},(fJ w n l)[i]?=some Z->Z=(l.drop (i*w)).take w/\i<n
 |0,l,i,Z,h=>by simp[fJ] at h
 |n+1,l,0,Z,h=>by simp[fJ] at h;subst h;exact⟨by simp,by omega⟩
 |n+1,l,i+1,Z,h=>by
  simp only[fJ,azb] at h;obtain⟨X,U⟩:=Nl h;refine⟨?_,by omega⟩;rw[X,aAr];congr 2;rw[azD];omega
def Nn(w:Nat):∀(n:Nat)(l:List SV),(fJ w n l).length=n
 |0,l=>rfl
 |n+1,l=>by simp[fJ,Nn w n]
def No:∀{l:List SV}{r:RE}{k:Nat},SV.ref r∈l->r.root=some k->k∈SV.kZ l
 |[],r,k,h,_=>by simp at h
 |x::X,r,k,h,Z=>by
  simp only[SV.kZ,ayL];rcases ayK.1 h with rfl|h;left;simp[SV.TX,Z];right;exact No h Z
def adq(R:ap f g D cf.ty V O s a W){l:List (List SV)}{frz:List Nat}(I:jI cf.ty s (aV cf.ty (.sl U)) l=true)(H:∀X∈l,∀(r:RE)(k:Nat),SV.ref r∈X->r.root=some k->k∈frz):
  yg cf.ty V O s U (l.map λX=>X.map (SV.bu O)) frz:=by
 intro b ⟨i,j,X,c,z,k,Z,G,F,E⟩;rw[ayF] at Z;cases Q:l[i]? with
 |none=>rw[Q] at Z;cases Z
 |some N=>
  rw[Q] at Z;simp at Z;subst Z;obtain⟨r,C,M,L,J⟩:=UQ (Ac I i N Q) G F E;obtain⟨B,A⟩:=Fu R L M J;refine⟨B,A,λv t u y x w=> ?_⟩;have:=Ni R y x w L M J;subst this;exact H N (ayW Q) _ _ (ayW C) rfl
def UV(R:ap f g D cf.ty V O s a W){l:List (List SV)}(Q:jI cf.ty s (aV cf.ty (.sl U)) l=true):dt W cf.ty U (l.map λX=>X.map (SV.bu O)):=by
 refine dt.of (λi X Z=> ?_);rw[ayF] at Z;cases h:l[i]? with
 |none=>rw[h] at Z;cases Z
 |some N=>rw[h] at Z;simp at Z;subst Z;exact UP R (Ac Q i N h)
def UW(A:(aV cf.ty (.sl U)).length=X)(G:jI cf.ty s (aV cf.ty (.sl U)) (fJ X I Q)=true){q:Nat}{u:Value}(F:(∀(i:Nat)(R:List RV),((fJ X I Q).map λR=>R.map (SV.bu O))[i]?=some R->R.length=X))
  (h:(cu ((fJ X I Q).map λR=>R.map (SV.bu O)))[q]?=some u):(SV.au O V Q)[q]?=some u:=by
 obtain⟨i,j,R,c,N,M,rfl,rfl⟩:=Fs F h;rw[ayF] at N;cases L:(fJ X I Q)[i]? with
 |none=>rw[L] at N;cases N
 |some J=>
  rw[L] at N;simp at N;subst N;rw[ayF] at M;cases Z:J[j]? with
  |none=>rw[Z] at M;cases M
  |some v=>
   rw[Z] at M;simp at M;subst M;obtain⟨z,E⟩:=CL (Ac G i J L);have y:j<J.length:=(ayA.1 Z).1;obtain⟨H,C⟩:∃H,(aV cf.ty (.sl U))[j]?=some H:=⟨_,ayB (by omega)⟩;rw[ol];have B:=(Nl L).1;have:Q[i*X+j]?=some v:=by
    rw[B,ay7] at Z;split at Z
    rwa [azj] at Z
    cases Z
   rw[this];simp only[ayI,ayE];exact adm (E j H v C Z)
def anT(Z:ap f g D cf.ty V O s a W){J:TI}(af:cf.ty U=some J){I:LE}{c:BE}(h:nc cf.ty s U J b=some (I,c,R))(hn:c.den O=true):
  ∃A n N,b.den O V=.slice A n N/\(I.rows O).length=n/\dt W cf.ty U (I.rows O)/\(∀(q:Nat)(u:Value),(cu (I.rows O))[q]?=some u->∃a0,A=some a0/\W.cell? (a0.add q)=some u)/\n<=536870912/\yg cf.ty V O s U (I.rows O) R:=by
 have x:aV cf.ty (.sl U)=J.ae:=by simp[aV,af]
 unfold nc at h;split at h;rename_i r;split at h;rename_i w;cases h;unfold RE.isNil at w;split at w;exact⟨none,0,0,rfl,rfl,dt.nil,λq u M=>by simp[LE.rows,cu] at M,by omega,λX Q=>(Ji (by simpa[LE.rows] using Q)).elim⟩;cases w;split at h;rename_i H;cases h;have F:=nj Z (by simp) H;have E:=Nk hn;simp only[IE.den] at E;have p:yg cf.ty V O s U (r.rv O).rows []:=by
  intro X Q;have hl:cm cf.ty (.sl U) (r.rv O) X:=by rw[<-CJ (r.rv O)];exact Nf Q
  obtain⟨q1,q2⟩:=Fu Z (by simp) H hl;refine⟨q1,q2,λk' t o C k2 k3=> ?_⟩;have:=Ni Z C k2 k3 (by simp) H hl;subst this;simp only[RE.kind,ayC,C,azf,RK.rd,RK.sl.injEq] at H;subst H;exact(Jj Z C k2 k3 C rfl Q).elim
 simp only[SV.den,RE.den,LE.rows];revert F E p;generalize r.rv O=o;intro F E p;have B:=dt.sr (v:=o.val) (rows:=o.rows) (by rw[CJ];exact F);cases F with
 |sl U A L N ag z h2 m hi Q ho=>
  refine⟨A,L,N,rfl,z,B,λq u M=> ?_,by simp[lenOf] at E;omega,p⟩;obtain⟨X,l,g1,g2,g3⟩:=Jg (aW.sl U A L N ag z h2 m hi Q ho) q u M;exact⟨_,g1,by rw[sq];exact g3⟩
 cases h;rename_i i l L N;split at h;rename_i bt cs Q;split at h;rename_i hc;cases h;simp only[ayz,decide_eq_true_eq] at hc;obtain⟨⟨z,h2⟩,m⟩:=hc;have j:jI cf.ty s (aV cf.ty (.sl U)) (fJ J.ae.length L (rW cs l (L*J.ae.length)))=true:=by rw[x];exact z
 have B:=UV Z j;refine⟨some ⟨ad V i,l,none⟩,L,N,rfl,by simp[LE.rows,Nn],by simpa[LE.rows] using B,λq u M=> ?_,by simp[EM] at m;omega, ?_⟩;simp only[LE.rows] at M;have G:=UW (V:=V) (by rw[x]) j (λi ab d=>by rw[B.len i ab d,x]) M;refine⟨_,rfl, ?_⟩;rw[ol,rW,ay7] at G;split at G;rw[azj,<-ol] at G;obtain⟨Q,al⟩:=ud Q;have:=Z.mem.box i bt cs Q;rw[ou al] at this;rw[sq];simp[World.cell?,this,G];simp at G;refine adq Z j (λab an r k d hk=> ?_);obtain⟨ii,a1⟩:=azh an;have:=(Nl a1).1;subst this;exact No (azB (azH d)) hk;cases h;cases h;cases h
end
end
variable{H:Oper}{l:Operand}
section
section
variable{f:List Nat}{g:World}{D:bz}{P:Program}{d:aY}{V:List Nat}{O:aa}{s:S}{a:Act}{W:World}
def vY{x y:BE}(h:(qw x y).den O=true):x.den O=true/\y.den O=true:=by
 rw[Uv] at h;simpa using h
def ui{x y:IE}(h:(lL .leq x y).den O=true):x.den O<=y.den O:=by
 rw[xZ] at h;simp only[ey] at h;exact of_decide_eq_true h
def anU(R:ap f g D d.ty V O s a W)(N:fz P d.ty)(hg:dg d.gl O){c:Call}(C:H.op=.call c)(B:c.callee=.builtin .append){dr:Bool}{b:BI}(h:cK d H M dr s=some b)(hn:b.aF.den O=true):
  Fy P f g D d.ty V O s a W H b:=by
 unfold cK at h;simp only[C,B] at h;split at h;rename_i t w x y af L;split at h;rename_i e ae q Q a8 q2 ht ag;split at h;rename_i v J;split at h;cases h;rename_i u;have he:e=Q:=by by_cases Z:e=Q;exact Z;exact absurd (.inl Z) u
 have al:v.ae.length≠0:=λZ=>u (.inr Z)
 subst he;split at h;rename_i X n1 a9 U n2 r n m;obtain⟨bU,an,rfl⟩:=uh h;obtain⟨a0,a1⟩:=vY hn;obtain⟨A1,l,c1,e1,I,g2,g3,g4,g5⟩:=anS (cf:=d) R n a0;obtain⟨A2,k,c2,Q,j,i,k3,k4,k5⟩:=anT R J m a1;have G:(aV d.ty (.sl e)).length=v.ae.length:=by simp[aV,J]
 obtain⟨A,F,W',r1,r2,r3⟩:=anR (P:=P) (tyR:=H.type) (t:=t) (t2:=w) (cap2:=c2) (N _ _ J) al G (N _ _ ht).desc (N _ _ ag).desc I (by rw[<-G];exact g2) j i k3 g3 k4;have a2:(LE.jH X U).rows O=X.rows O++U.rows O:=rfl;have ab:(X.rows O++U.rows O).length=l+k:=by rw[ayN,(ow I).1,j]
 have a3:yg d.ty V O s e (X.rows O++U.rows O) r:=λb hb=>(anO hb).elim (g5 r b) (k5 b)
 obtain⟨R',a4⟩:=R.bind bU (old:=ik A1 c1) g4 an r2 ((dt.sr I).jH i) a3 (by rw[G];exact r3);refine⟨.slice A (l+k) F,W',.mk (.slice A (X.rows O++U.rows O).length F) (X.rows O++U.rows O),.inl ?_,⟨⟨A,_,F,by rw[a2],rfl⟩,a4,λ_ _ _ _ h=>by cases h⟩, ?_,Ae _ _ _⟩;have ha:c.args.toList=[c.args.toList.getD 0 default,c.args.toList.getD 1 default]:=by
  have hl:c.args.toList.length=2:=by have:=congrArg aAM L;simpa using this
  match c.args.toList,hl with
  |[p,q],_=>rfl
 have a5:∀z∈c.args.toList,a.eval z=(s.ev d.gl z).den O V:=by
  intro z E;refine bQ R hg z ?_;have:s.ev d.gl z∈[x,y]:=by rw[<-L];exact List.mem_map_of_mem E
  rcases ayK.1 this with Z|Z;rw[Z];cases x<;>first|rfl|(simp[rZ] at n)
  rw[aAz.1 Z];cases y<;>first|rfl|(simp[nc] at m)
 have a6:c.args.map a.eval= #[x.den O V,y.den O V]:=by
  apply azv;rw[azy];have:c.args.toList.map a.eval=(c.args.toList.map (s.ev d.gl)).map (SV.den O V):=by
   rw[azo];exact ayZ λz E=>a5 z E
  rw[this,L];rfl
 have a7:c.argTypes= #[t,w]:=by apply azv;rw[af]
 simp only[execOp,C,resolve,B,Sem.run_bind,Sem.run_pure,Result.andThen_ok,invoke,builtin,a6,a7,e1,Q,r1];have:=CM R' R.er H.dst;rw[RV.ji,ab] at this;rw[ab];exact this;cases h;cases h;cases h;cases h
def anV(Z:CT):((xF Z).bu O).val=mH Z:=by cases Z<;>rfl
def anW(R:ap f g D d.ty V O s a W)(x:fz P d.ty)(hg:dg d.gl O){xm:Operand}(u:H.op=.makeSlice U l xm){dr:Bool}{b:BI}(h:cK d H M dr s=some b)(hn:b.aF.den O=true):
  Fy P f g D d.ty V O s a W H b:=by
 unfold cK at h;simp only[u] at h;split at h;rename_i e ae q n m ht al an;split at h;rename_i Z F;split at h;rename_i hc;simp only[ayz,bne_iff_ne,ne_eq] at hc;obtain⟨⟨a5,a6⟩,a7⟩:=hc;obtain⟨bU,b5,rfl⟩:=uh h;obtain⟨r,p⟩:=vY hn;have r:=ui r;have p:=Nk p;simp only[IE.den] at r;obtain⟨N,E⟩:∃N:Nat,n.den O=(N:Int):=⟨(n.den O).toNat,by omega⟩;rw[E] at p;have a8:N<=536870912:=by omega
 have hw:(aV d.ty (.sl e)).length=Z.ae.length:=by simp[aV,F]
 have C:aV d.ty (.sl e)=Z.ae:=by simp[aV,F]
 have ab:=bQ R hg l (by rw[al];rfl);have af:=bQ R hg xm (by rw[an];rfl);have a9:m=n:=(IE.bi _ _ a5).symm;rw[al,SV.den,E] at ab;rw[an,SV.den,a9,E] at af;obtain⟨i,hi,bb,z,hz,a1⟩:=(x _ _ F).Fb;have bd:=(x _ _ F).bytes i hi;have a2:z.cells.size=Z.ae.length:=by rw[<-azL,a1];simp
 have hf:jI d.ty s (aV d.ty (.sl e)) [co Z]=true:=by rw[C];exact a6
 have bf:Nj W d.ty (aV d.ty (.sl e)) ((co Z).map (SV.bu O)):=UP R (Ac hf 0 _ rfl);have bg:(LE.pl n (co Z)).rows O=ayJ N ((co Z).map (SV.bu O)):=by simp[LE.rows,E]
 have I:dt W d.ty e (ayJ N ((co Z).map (SV.bu O))):=dt.of (λi B L=>by
  rw[azE] at L;split at L;cases L;exact bf;cases L)
 have bk:yg d.ty V O s e (ayJ N ((co Z).map (SV.bu O))) []:=by
  intro b ⟨i,j,B,c,z,k,J,Q,X,hl⟩;rw[azE] at J;split at J;cases J;exfalso;rw[ayF,co,ayF] at Q;rw[C] at X;rw[X] at Q;simp only[ayI,ayE,xF,SV.bu,RE.rv] at Q;subst Q;cases hl with
  |deep e v bl i j B c z k b g1=>simp at g1
  |own e' b6 b hl=>
   have ag:=(CL (Ac hf 0 _ rfl)).2 j _ (.ref (.k z)) (by rw[C];exact X) (by simp[co,X,xF]);simp[oc,RE.fits] at ag
  |here e a0 bo br bl=>
   have ag:=(CL (Ac hf 0 _ rfl)).2 j _ (.ref (.k (.slice (some a0) (bo+1) br))) (by rw[C];exact X) (by simp[co,X,xF]);simp[oc,RE.fits,RE.kind,RE.isNil] at ag
  cases J
 have bs:(aBM (N*Z.ae.length)).map (z.cells[· %z.cells.size]!)=(cu (ayJ N ((co Z).map (SV.bu O)))).toArray:=by
  apply azv;apply ay3;intro q;have b7:(cu (ayJ N ((co Z).map (SV.bu O)))).length=N*Z.ae.length:=by rw[vW I.len,hw];simp
  by_cases hq:q<N*Z.ae.length;have bt:0<Z.ae.length:=by omega
  have bx:q/Z.ae.length<N:=aA9 (by rw[aAV];exact hq);have hj:q%Z.ae.length<Z.ae.length:=aAY _ bt;have a3:Z.ae[q%Z.ae.length]?=some Z.ae[q%Z.ae.length]:=ayB hj;have J:(ayJ N ((co Z).map (SV.bu O)))[q/Z.ae.length]?=some ((co Z).map (SV.bu O)):=by rw[azE,if_pos bx]
  have Q:((co Z).map (SV.bu O))[q%Z.ae.length]?=some ((xF Z.ae[q%Z.ae.length]).bu O):=by simp[co,a3]
  have X:=Jf (w:=Z.ae.length) (λi B L=>by rw[I.len i B L,hw]) J Q;have b0:q/Z.ae.length*Z.ae.length+q%Z.ae.length=q:=by rw[aAV];exact aBa q _
  rw[b0,anV] at X;simp only[azy,aBl,ayF,azM hq,ayI,a2];rw[X];congr 1;have a4:q%Z.ae.length<z.cells.size:=by rw[a2];exact hj
  rw[getElem!_pos z.cells _ a4];have:z.cells.toList[q%Z.ae.length]?=some (mH Z.ae[q%Z.ae.length]):=by rw[a1,ayF,a3];rfl
  rw[aAh,aAQ a4] at this;simpa using this;rw[ayX (by simp;omega),ayX (by rw[aAt];omega)]
 have b1:IntKind.i64.wrap (N:Int)=N:=IntWalk.i64_in _ (by omega);have b8:(i.bytes:Int)*N<=2^46:=by
  have:i.bytes*N<=131072*536870912:=aBj bd a8;have Q:((i.bytes*N:Nat):Int)<=((131072*536870912:Nat):Int):=Int.ofNat_le.2 this;simp only[Int.natCast_mul] at Q;omega
 obtain⟨R',b2⟩:=R.bind bU (old:=none) (kill:=[]) (frz:=[]) (A:=some ⟨W.heap.size,0,none⟩) (cap:=N) (W':=W.alloc (.cells (cu (ayJ N ((co Z).map (SV.bu O)))).toArray e)) (.inl ⟨rfl,rfl⟩) (by simp) (World.grownBy_alloc W _ none) I bk
  ⟨by simp,by simp,by
   rcases azO N with G|G;exact .inl G;exact .inr ⟨W.heap.size,_,rfl,World.alloc_heap_new W _,by simp only[maxLen];omega,by
    rw[azY,vW I.len,hw];simp,by
    rw[aAt,azX];rw[vW I.len];exact ayH _,.inl (ayH _)⟩⟩
 refine⟨.slice (some ⟨W.heap.size,0,none⟩) N N,W.alloc (.cells (cu (ayJ N ((co Z).map (SV.bu O)))).toArray e),.mk (.slice (some ⟨W.heap.size,0,none⟩) (ayJ N ((co Z).map (SV.bu O))).length N) _,.inl ?_,⟨⟨_,_,_,by rw[bg],rfl⟩,b2,λ_ _ _ _ h=>by cases h⟩, ?_,Ae _ _ _⟩;have hd:P.underlying U=some (.slice e):=(x _ _ ht).desc;rw[<-bs];have c1:¬((N:Int)<0):=by omega
 have c2:¬((i.bytes:Int)*N>2^48):=by omega
 by_cases G:N*Z.ae.length=0;have b3:N=0:=by rcases Nat.mul_eq_zero.1 G with y|y;exact y;exact absurd y a7
 subst b3;have b4:IntKind.i64.wrap 0=0:=IntWalk.i64_in 0 (by omega);simp[execOp,u,ab,af,Instr.makeSlice,cS.eE hd,asInt,asIntOf,typeInfo,hi,b4,Go.sizeOf,newRow,askRoom];congr 2;apply azv;simp[aBM];simp[execOp,u,ab,af,Instr.makeSlice,cS.eE hd,asInt,asIntOf,typeInfo,hi,b1,c1,Go.sizeOf,bb,G,zeroValue,hz,newRow];intro y;omega;have:=CM R' R.er H.dst;rw[RV.ji] at this;simp only[List.length_replicate] at this⊢;exact this;cases h;cases h;cases h
def anX(R:ap f g D d.ty V O s a W)(G:fz P d.ty)(hg:dg d.gl O){parts:Array (Nat×Operand)}(B:H.op=.buildSlice U X parts){dr:Bool}{b:BI}(h:cK d H M dr s=some b):
  Fy P f g D d.ty V O s a W H b:=by
 unfold cK at h;simp only[B] at h;split at h;cases h;split at h;rename_i e ae q ht;split at h;rename_i Z F;split at h;rename_i l hf;split at h;rename_i n;simp only[ayz,bne_iff_ne,ne_eq,beq_iff_eq,decide_eq_true_eq,ayS] at n;obtain⟨⟨⟨⟨⟨h1,h2⟩,h3⟩,h4⟩,h5⟩,h6⟩:=n;obtain⟨bU,an,rfl⟩:=uh h;have L:aV d.ty (.sl e)=Z.ae:=by simp[aV,F]
 have y:jI d.ty s (aV d.ty (.sl e)) (fJ Z.ae.length X l)=true:=by rw[L];exact h2
 have v:=UV R y;have a0:(LE.lit (fJ Z.ae.length X l)).rows O=(fJ Z.ae.length X l).map λQ=>Q.map (SV.bu O):=rfl
 have E:((fJ Z.ae.length X l).map λQ=>Q.map (SV.bu O)).length=X:=by simp[Nn]
 have a1:=adq R y (frz:=SV.kZ l) (λQ a2 r k J u=>by
  obtain⟨ii,a3⟩:=azh a2;have:=(Nl a3).1;subst this;exact No (azB (azH J)) u)
 have C:(cu ((fJ Z.ae.length X l).map λQ=>Q.map (SV.bu O))).length=X*Z.ae.length:=by rw[vW (w:=Z.ae.length) (λi Q J=>by rw[v.len i Q J,L]),E]
 have a4:cu ((fJ Z.ae.length X l).map λQ=>Q.map (SV.bu O))=SV.au O V l:=by
  apply ay3;intro k;by_cases u:k<X*Z.ae.length;have m:k<(cu ((fJ Z.ae.length X l).map λQ=>Q.map (SV.bu O))).length:=by rw[C];exact u
  have:=UW (V:=V) (by rw[L]) y (λi Q J=>by rw[v.len i Q J,L]) (ayB m);rw[this,ayB m];rw[ayX (by rw[C];omega),ayX (by rw[CD,h1];omega)]
 have bb:X<=536870912:=by simp only[EM] at h4;omega
 obtain⟨R',a5⟩:=R.bind bU (old:=none) (kill:=[]) (frz:=SV.kZ l) (A:=some ⟨W.heap.size,0,none⟩) (cap:=X) (W':=W.alloc (.cells (cu ((fJ Z.ae.length X l).map λQ=>Q.map (SV.bu O))).toArray e)) (.inl ⟨rfl,rfl⟩) an (World.grownBy_alloc W _ none) v a1
  ⟨by rw[E];exact ayH _,by simp,by
   rcases azO X with N|N;exact .inl N;exact .inr ⟨W.heap.size,_,rfl,World.alloc_heap_new W _,by simp only[maxLen];omega,by
    rw[azY,C,L],by
    rw[aAt,azX];rw[C,E,L];exact ayH _,.inl (ayH _)⟩⟩
 refine⟨.slice (some ⟨W.heap.size,0,none⟩) X X,W.alloc (.cells (cu ((fJ Z.ae.length X l).map λQ=>Q.map (SV.bu O))).toArray e),.mk (.slice (some ⟨W.heap.size,0,none⟩) ((fJ Z.ae.length X l).map λQ=>Q.map (SV.bu O)).length X) _,.inl ?_,⟨⟨_,_,_,by rw[a0],rfl⟩,a5,λ_ _ _ _ h=>by cases h⟩, ?_,Ae _ _ _⟩;have j:P.underlying U=some (.slice e):=(G _ _ ht).desc;have c:(parts.map λ(i,x)=>(i,a.eval x)).toList=(parts.toList.map λp=>(p.1,s.ev d.gl p.2)).map λp=>(p.1,p.2.den O V):=by
  simp only[azy,azo];apply ayZ;intro p hp;have:=bQ R hg p.2 (by
   cases hh:(s.ev d.gl p.2).cM;rfl;exact absurd (ay8.2 ⟨p,hp,hh⟩) (by rw[h6];simp))
  simp[this]
 obtain⟨z,a6,a7⟩:=Fh (P:=P) (W:=W) (O:=O) (V:=V) (G _ _ F);have ab:=Jd (V:=V) (qH R) _ _ _ _ hf;have I:(co Z).length=Z.ae.length:=by simp[co]
 have hzero:((aBM (X*Z.ae.length)).map ((if X*Z.ae.length=0 then #[] else z.cells)[· %(if X*Z.ae.length=0 then #[] else z.cells).size]!))=(SV.au O V (rY X (co Z))).toArray:=by
  apply azv;apply ay3;intro k;by_cases af:k<X*Z.ae.length;have a8:¬X*Z.ae.length=0:=by omega
  have a9:0<Z.ae.length:=Nat.pos_of_ne_zero h3;have ag:k%Z.ae.length<(SV.au O V (co Z)).length:=by rw[CD,I];exact aAY _ a9
  simp only[a8,if_false,a7,azy,aBl,ayF,azM af,ayI,ol,UU _ _ _ (by rw[I];exact af),I];rw[<-ol,ayB ag];simp only[azY,CD,I];rw[getElem!_pos _ _ (by simpa using ag)];simp;rw[ayX (by simp;omega),ayX (by simp[adp,I];omega)]
 have al:¬X*Z.ae.length>2^24:=by omega
 rw[a4];by_cases N:X*Z.ae.length=0;simp only[if_pos N] at hzero;simp only[execOp,B,Instr.buildSlice,Sem.run_bind,cS.eE j,Result.andThen_ok,(G _ _ F).jN,al,if_false,Sem.run_pure,if_pos N,c];rw[hzero,ab];simp[newRow];simp only[if_neg N] at hzero;simp only[execOp,B,Instr.buildSlice,Sem.run_bind,cS.eE j,Result.andThen_ok,(G _ _ F).jN,al,if_false,Sem.run_pure,if_neg N,c,a6];rw[hzero,ab];simp[newRow];have:=CM R' R.er H.dst;rw[RV.ji] at this;rw[E] at this⊢;exact this;cases h;cases h;cases h;cases h
end
end
section
section
variable{g:List Nat}{m:World}{D:bz}{P:Program}{d:aY}{V:List Nat}{O:aa}{s:S}{a:Act}{W:World}
def Jn{h:Nat}(U:((Z.take h).drop X)[I]?=some x):Z[X+I]?=some x/\X+I<h:=by
 rw[azj,ay7] at U;split at U;exact⟨U,by assumption⟩;cases U
def anY{h:Nat}(R:jK t U ((Z.take h).drop X) I):jK t U Z I:=by
 obtain⟨i,j,Q,c,z,k,N,M,L,J⟩:=R;exact⟨_,j,Q,c,z,k,(Jn N).1,M,L,J⟩
def anZ{l h:Nat}(Q:aW W t (.sl U) (.mk (.slice v X I) Z))(m:l<=h)(k:h<=X):
  aW W t (.sl U) (.mk (.slice (if I=l then v else v.map (·.add (l*(aV t (.sl U)).length))) (h-l) (I-l)) ((Z.take h).drop l)):=by
 obtain⟨J,g⟩:=ow Q;have H:((Z.take h).drop l).length=h-l:=by simp[J];omega
 have G:=dt.sr Q;have N:dt W t U ((Z.take h).drop l):=dt.of (λi R F=>G.get (Jn F).1);by_cases E:l=h;have:(Z.take h).drop l=[]:=ay4 (by omega);rw[this,E,aBb];exact yf _ _;have f:l<h:=by omega
 have C:I≠l:=by omega
 rw[if_neg C];obtain⟨R,B⟩:∃R,Z[l]?=some R:=⟨_,ayB (by omega)⟩;cases Q with
 |sl U v d I Z g1 g2 M hi hb ho=>
  obtain⟨-,b,L,rfl,z,-⟩:=M l R B;rw[<-H];simp only[ayI,sq];refine UN N z (λq u y=> ?_) (by omega);obtain⟨i,j,x,c,w,r,rfl,rfl⟩:=Fs N.len y;obtain⟨-,b',ab,p,-,o⟩:=M (l+i) x (Jn w).1;cases p;have:=o j c r;rw[show L+l*(aV t (.sl U)).length+(i*(aV t (.sl U)).length+j)=L+(l+i)*(aV t (.sl U)).length+j by rw[azD];omega];exact this
def UX(R:ap g m D d.ty V O s a W)(bU:s.bd=true){r:RE}(M:r.kind d.ty s=.sl U)(x:r.den O=.slice v X I){l h:Nat}(w:l<=h)(u:h<=X){L:Option Addr}{J:Nat}
  (Q:L=if I=l then v else v.map (·.add (l*(aV d.ty (.sl U)).length)))(q:J=I-l):
  ap g m D d.ty V (O.add (.r (.mk (.slice L (h-l) J) (((r.rv O).rows.take h).drop l)))) {s with rs:=gJ r.root.toList 0 (fw [] 0 s.rs)++[.sl U]} a W/\
   (((r.rv O).rows.take h).drop l).length=h-l/\∀b,cm d.ty (.sl U) (.mk (.slice L (h-l) J) (((r.rv O).rows.take h).drop l)) b->m.heap.size<=b\/b∈g\/O.lR d.ty s.rs b:=by
 have H:=nj R (by simp) M;have C:r.rv O=.mk (.slice v X I) (r.rv O).rows:=by rw[<-x];exact(CJ _).symm
 rw[C] at H;have p:=anZ H w u;have G:∀b,cm d.ty (.sl U) (.mk (.slice L (h-l) J) (((r.rv O).rows.take h).drop l)) b->cm d.ty (.sl U) (r.rv O) b:=by
  intro b N;rw[C];rcases adj N with⟨o,al,c0,Z,rfl⟩|Z;simp only[Value.slice.injEq] at Z;obtain⟨Z,B,z⟩:=Z;obtain⟨F,rfl⟩:∃F,X=F+1:=⟨X-1,by omega⟩;rw[Z] at Q;have j:I≠l:=by have:=(ow H).2;omega
  rw[if_neg j] at Q;cases v with
  |none=>simp at Q
  |some y=>
   simp only[ayI,ayE] at Q;have:o.block=y.block:=by rw[Q];unfold Addr.add;split<;>rfl
   rw[this];exact cm.here U y F I _
  exact Nf (anY Z)
 have f:fw [] 0 s.rs=s.rs:=by
  apply ay3;intro i;rw[Fp];cases s.rs[i]?<;>simp
 rw[f];have c:=R.jP (Nd r.root.toList s.rs);refine⟨?_,by have:=(ow H).1;simp;omega,λb N=>.inr (.inr (Fu R (by simp) M (G b N)).1)⟩;refine c.add (Jk bU (vV _ _ _)) (by rw[Q,q];exact p) (λb N=>(Fu R (by simp) M (G b N)).2) (λk t rv b Z B z E=> ?_) (λt b ht=>by cases ht);obtain⟨ab,af⟩:=UR Z;rcases E with E|⟨⟨t',ag⟩,_⟩;have:=Ni R ab B z (by simp) M (G b E);subst this;exact af (by simp[RE.root]);cases ag
def Jo(h:0<=k):∃N:Nat,k=(N:Int):=⟨k.toNat,by omega⟩
def an1(R:ap g m D d.ty V O s a W)(w:fz P d.ty)(hg:dg d.gl O){lo hi mx:Option Operand}(ho:H.op=.slice U l lo hi mx){dr:Bool}{b:BI}(h:cK d H M dr s=some b)(hn:b.aF.den O=true):
  Fy P g m D d.ty V O s a W H b:=by
 unfold cK at h;simp only[ho] at h;split at h;cases h;have af:∀{y:Option Operand}{v:SV},y.map (s.ev d.gl)=some v->v≠ .any->y.map a.eval=some (v.den O V):=by
  intro y v hy Q;cases y with
  |none=>cases hy
  |some z=>
   simp only[ayI,ayE] at hy⊢;rw[<-hy];exact bQ R hg z (by rw[hy];cases v<;>first|rfl|exact absurd rfl Q)
 have ag:∀{y:Option Operand},y.map (s.ev d.gl)=none->y.map a.eval=none:=by
  intro y hy;cases y with
  |none=>rfl
  |some z=>cases hy
 split at h
 
 rename_i e ae q r k1 k2 k J j i f;split at h;rename_i te E;split at h;rename_i hc;obtain⟨bU,a1,rfl⟩:=uh h;have I:=bQ R hg l (by rw[J];rfl);rw[J,SV.den] at I;have hd:P.underlying U=some (.slice e):=(w _ _ k).desc;obtain⟨A,n,X,Q⟩:∃A n X,r.den O=.slice A n X:=by
  rcases hc with hc|hc;exact Jc R hc;unfold RE.isNil at hc;split at hc;exact⟨none,0,0,rfl⟩;cases hc
 obtain⟨R',ab⟩:=R.bind bU (old:=none) (kill:=[]) (frz:=[]) (rows:=[]) (e:=e) (A:=A) (cap:=0) (W':=W) (.inl ⟨rfl,rfl⟩) (by simp) ⟨rfl,rfl,rfl,ayH _,λ_ _ _=>rfl⟩ dt.nil (λb hb=>(Ji hb).elim) ⟨by simp,λ_=>rfl,.inl rfl⟩;refine⟨.slice A 0 0,W,.mk (.slice A 0 0) [],.inl ?_,⟨⟨A,0,0,rfl,rfl⟩,ab,λ_ _ _ _ h=>by cases h⟩,CM R' R.er H.dst,Ae _ _ _⟩;have u:=af j (by simp);have C:=af i (by simp);have B:=ag f;simp only[SV.den,IE.den] at u C;simp[execOp,ho,I,Q,u,C,B,Instr.sliceAt,cS.eE hd,Instr.slice,Instr.sliceBounds,Instr.sliceBound,asIntOf,(w _ _ E).jN];cases h;cases h
 
 rename_i e ae q r ih il k J j i f;split at h;rename_i te E;split at h;rename_i G;obtain⟨bU,a1,rfl⟩:=uh h;obtain⟨N,a0⟩:=vY hn;obtain⟨a0,F⟩:=vY a0;have N:=ui N;have a0:=ui a0;have F:=ui F;have I:=bQ R hg l (by rw[J];rfl);rw[J,SV.den] at I;have hd:P.underlying U=some (.slice e):=(w _ _ k).desc;obtain⟨A,n,X,Q⟩:=Jc R G;have al:lenOf (r.rv O).val=n:=by have:=Q;unfold RE.den at this;rw[this];rfl
 simp only[IE.den,al] at N F;obtain⟨L,hL⟩:=Jo N;obtain⟨Z,hH⟩:=Jo (show 0<=ih.den O by omega);have a2:n<=X:=by
  have:=nj R (by simp) G;rw[<-CJ (r.rv O),show(r.rv O).val=.slice A n X from Q] at this;exact(ow this).2
 obtain⟨R',an,ab⟩:=UX R bU G Q (l:=L) (h:=Z) (by omega) (by omega) rfl rfl;have p:(LE.sub (.ref r) il ih).rows O=((r.rv O).rows.take Z).drop L:=by simp[LE.rows,hL,hH]
 have hw:(aV d.ty (.sl e)).length=te.ae.length:=by simp[aV,E]
 refine⟨.slice (if X=L then A else A.map (·.add (L*(aV d.ty (.sl e)).length))) (Z-L) (X-L),W,_,.inl ?_,⟨⟨_,_,_,by rw[p],by rw[p];exact an⟩,ab,λ_ _ _ _ h=>by cases h⟩,CM R' R.er H.dst,Ae _ _ _⟩;have u:=ag j;have C:=af i (by simp);have B:=af f (by simp);simp only[SV.den,hL,hH] at C B;have c1:(Z:Int)<=(X:Int):=by omega
 have c2:(L:Int)<=(Z:Int):=by omega
 simp[execOp,ho,I,Q,u,C,B,Instr.sliceAt,cS.eE hd,Instr.slice,Instr.sliceBounds,Instr.sliceBound,asIntOf,(w _ _ E).jN,hw];simp[show Z<=X by omega,show L<=Z by omega];cases h;cases h
 
 rename_i e ae q r ih k J j i f;split at h;rename_i te E;split at h;rename_i G;obtain⟨bU,a1,rfl⟩:=uh h;obtain⟨N,F⟩:=vY hn;have N:=ui N;have F:=ui F;have I:=bQ R hg l (by rw[J];rfl);rw[J,SV.den] at I;have hd:P.underlying U=some (.slice e):=(w _ _ k).desc;obtain⟨A,n,X,Q⟩:=Jc R G;have al:lenOf (r.rv O).val=n:=by have:=Q;unfold RE.den at this;rw[this];rfl
 simp only[IE.den,al] at N F;obtain⟨Z,hH⟩:=Jo N;have a2:n<=X:=by
  have:=nj R (by simp) G;rw[<-CJ (r.rv O),show(r.rv O).val=.slice A n X from Q] at this;exact(ow this).2
 obtain⟨R',an,ab⟩:=UX R bU G Q (l:=0) (h:=Z) (by omega) (by omega) rfl rfl;have p:(LE.sub (.ref r) (.c 0) ih).rows O=((r.rv O).rows.take Z).drop 0:=by simp[LE.rows,hH,IE.den]
 have hw:(aV d.ty (.sl e)).length=te.ae.length:=by simp[aV,E]
 refine⟨.slice (if X=0 then A else A.map (·.add (0*(aV d.ty (.sl e)).length))) (Z-0) (X-0),W,_,.inl ?_,⟨⟨_,_,_,by rw[p],by rw[p];exact an⟩,ab,λ_ _ _ _ h=>by cases h⟩,CM R' R.er H.dst,Ae _ _ _⟩;have u:=ag j;have C:=af i (by simp);have B:=ag f;simp only[SV.den,hH] at C;simp[execOp,ho,I,Q,u,C,B,Instr.sliceAt,cS.eE hd,Instr.slice,Instr.sliceBounds,Instr.sliceBound,asIntOf,(w _ _ E).jN,hw];intro hh;omega;cases h;cases h
 
 rename_i e ae q r il k J j i f;split at h;rename_i te E;split at h;rename_i G;obtain⟨bU,a1,rfl⟩:=uh h;obtain⟨N,F⟩:=vY hn;have N:=ui N;have F:=ui F;have I:=bQ R hg l (by rw[J];rfl);rw[J,SV.den] at I;have hd:P.underlying U=some (.slice e):=(w _ _ k).desc;obtain⟨A,n,X,Q⟩:=Jc R G;have al:lenOf (r.rv O).val=n:=by have:=Q;unfold RE.den at this;rw[this];rfl
 simp only[IE.den,al] at N F;obtain⟨L,hL⟩:=Jo N;have a2:n<=X:=by
  have:=nj R (by simp) G;rw[<-CJ (r.rv O),show(r.rv O).val=.slice A n X from Q] at this;exact(ow this).2
 obtain⟨R',an,ab⟩:=UX R bU G Q (l:=L) (h:=n) (by omega) (by omega) rfl rfl;have p:(LE.sub (.ref r) il (.len r)).rows O=((r.rv O).rows.take n).drop L:=by simp[LE.rows,hL,IE.den,al]
 have hw:(aV d.ty (.sl e)).length=te.ae.length:=by simp[aV,E]
 refine⟨.slice (if X=L then A else A.map (·.add (L*(aV d.ty (.sl e)).length))) (n-L) (X-L),W,_,.inl ?_,⟨⟨_,_,_,by rw[p],by rw[p];exact an⟩,ab,λ_ _ _ _ h=>by cases h⟩,CM R' R.er H.dst,Ae _ _ _⟩;have u:=ag j;have C:=ag i;have B:=af f (by simp);simp only[SV.den,hL] at B;simp[execOp,ho,I,Q,u,C,B,Instr.sliceAt,cS.eE hd,Instr.slice,Instr.sliceBounds,Instr.sliceBound,asIntOf,(w _ _ E).jN,hw];intro hh;omega;cases h;cases h;cases h
mutual
def UY{k n:Nat}(h:(O.rv n).val=(O.rv k).val):∀(v:SV),(v.eC k n).den O V=v.den O V
 |.int _ _|.bool _|.loc _ _|.fo _ _ _ _|.yl _|.any=>rfl
 |.ref (.v j)=>by
  simp only[SV.eC];split;rename_i Z;simp at Z;subst Z;simp only[SV.den,RE.den,RE.rv,h];rfl
 |.ref (.cell _ _ _ _)=>rfl
 |.ref (.k _)=>rfl
 |.el (.v j) w i o=>by
  simp only[SV.eC];split;rename_i Z;simp at Z;subst Z;simp only[SV.den,RE.den,RE.rv,h];rfl
 |.el (.cell _ _ _ _) _ _ _=>rfl
 |.el (.k _) _ _ _=>rfl
 |.agg l=>by simp only[SV.eC,SV.den,Fz h l]
 |.bh l=>by simp only[SV.eC,SV.den,Fz h l]
 |.fn f l=>by simp only[SV.eC,SV.den,Fz h l]
 |.dD t x=>by simp only[SV.eC,SV.den,UY h x]
 |.mp _=>rfl
 |.dE e U X=>by simp only[SV.eC,SV.den,Fz h X]
def Fz{k n:Nat}(h:(O.rv n).val=(O.rv k).val):∀(l:List SV),SV.au O V (SV.lc k n l)=SV.au O V l
 |[]=>rfl
 |x::Z=>by simp only[SV.lc,SV.au,UY h x,Fz h Z]
end
def an2(v:SV):v.eC X I=.any<->v=.any:=by
 cases v with
 |ref r=>cases r<;>simp[SV.eC]<;>split<;>simp
 |el r w i o=>cases r<;>simp[SV.eC]<;>split<;>simp
 |_=>simp[SV.eC]
def adr{k n:Nat}:∀(l:List SV)(i:Nat),(SV.lc k n l)[i]?=(l[i]?).map (SV.eC k n)
 |[],i=>by simp[SV.lc]
 |x::Z,0=>by simp[SV.lc]
 |x::Z,i+1=>by simp[SV.lc,adr Z i]
def ads{k n:Nat}:∀(l:List SV),(SV.lc k n l).length=l.length
 |[]=>rfl
 |x::Z=>by simp[SV.lc,ads Z]
def Jp{k n:Nat}:∀(l:aX),(pn k n l).length=l.length
 |[]=>rfl
 |none::Z=>by simp[pn,Jp Z]
 |some (t,X)::Z=>by simp[pn,Jp Z]
def UZ(k n:Nat)(x:TypeId×List SV):TypeId×List SV:=(x.1,if mw x.1 then x.2 else SV.lc k n x.2)
def Np{k n:Nat}:∀(l:aX)(i:Nat),bD (pn k n l) i=(bD l i).map (UZ k n)
 |[],i=>by simp[pn,bS]
 |none::Z,0=>by simp[pn,bS]
 |some (t,X)::Z,0=>by simp[pn,bS,UZ]
 |none::Z,i+1=>by have:=Np Z i (k:=k) (n:=n);simpa[pn,bS] using this
 |some (t,X)::Z,i+1=>by have:=Np Z i (k:=k) (n:=n);simpa[pn,bS] using this
def CN{k n:Nat}(l:aX)(i:Nat):aE (pn k n l) i=aE l i:=by simp[aE,Np]
def ap.eC{H:Ty}(R:ap g m D H V O s a W){k n:Nat}(h:(O.rv n).val=(O.rv k).val):ap g m D H V O (s.eC k n) a W:=by
 have F:(s.eC k n).boxes=pn k n s.boxes:=rfl;refine⟨⟨R.mem.base,λi U=>R.mem.own i (by rw[<-CN (k:=k) (n:=n)];exact U),λi j U E=>R.mem.inj i j (by rw[<-CN (k:=k) (n:=n)];exact U) (by rw[<-CN (k:=k) (n:=n)];exact E),λi t z Z=> ?_,λM e L X J=> ?_⟩,
  by simp[S.eC,Jp,R.dS],R.ei,R.eb,R.er,R.bY,by simp[S.eC,ads,R.size],λt y N=> ?_,λM e L b X J C=> ?_⟩
 rw[F,Np] at Z;cases Q:bD s.boxes i with
 |none=>rw[Q] at Z;cases Z
 |some x=>
  obtain⟨G,B⟩:=x;rw[Q] at Z;simp only[ayI,UZ,ayE,aAe] at Z;obtain⟨rfl,rfl⟩:=Z;have I:=R.mem.box i G B Q;cases A:mw G;simp only[ayV,if_false];rw[ou A] at I⊢;rw[Fz h];exact I;simp only[if_true];exact I
 exact⟨(R.mem.ref M e L X J).1,λb Z i U=>(R.mem.ref M e L X J).2 b Z i (by rw[<-CN (k:=k) (n:=n)];exact U)⟩;simp only[S.eC,adr] at N;cases Q:s.tmps[t]? with
 |none=>rw[Q] at N;cases N
 |some x=>
  rw[Q] at N;simp only[ayI,ayE] at N;subst N;rcases R.tmps t x Q with X|X;exact .inl ((an2 x).2 X);right;rw[UY h];exact X
 have t:=R.dK M e L b X J C;exact⟨t.own,t.mem,λi U=>t.box i (by rw[<-CN (k:=k) (n:=n)];exact U),t.alone,t.inner⟩
end
end
section
section
variable{g:List Nat}{p:World}{D:bz}{P:Program}{d:aY}{V:List Nat}{O:aa}{s:S}{a:Act}{W:World}
def adt:∀(U Z:List RV)(X:Nat),(dJ Z X U).length=Z.length
 |[],Z,X=>rfl
 |v::U,Z,X=>by rw[dJ,adt];simp
def Nq:∀(X U:List RV)(Z j:Nat),Z+X.length<=U.length->(dJ U Z X)[j]?=if Z<=j/\j<Z+X.length then X[j-Z]? else U[j]?
 |[],U,Z,j,_=>by simp[dJ];intro Q R;omega
 |v::X,U,Z,j,h=>by
  simp only[azn] at h;rw[dJ,Nq X _ (Z+1) j (by simp;omega)];by_cases Q:j=Z;subst Q;rw[if_neg (by omega),if_pos (by simp),azI (by omega)];simp;by_cases R:Z+1<=j/\j<Z+1+X.length;rw[if_pos R,if_pos (by simp;omega),show j-Z=(j-(Z+1))+1 by omega];simp;rw[if_neg R,if_neg (by simp;omega),azc (by omega)]
def adu:∀(X l:List Value)(Z j:Nat),Z+X.length<=l.length->(ug l Z X)[j]?=if Z<=j/\j<Z+X.length then X[j-Z]? else l[j]?
 |[],l,Z,j,_=>by simp[ug];intro R U;omega
 |v::X,l,Z,j,h=>by
  simp only[azn] at h;rw[ug,adu X _ (Z+1) j (by simp;omega)];by_cases R:j=Z;subst R;rw[if_neg (by omega),if_pos (by simp),azI (by omega)];simp;by_cases U:Z+1<=j/\j<Z+1+X.length;rw[if_pos U,if_pos (by simp;omega),show j-Z=(j-(Z+1))+1 by omega];simp;rw[if_neg U,if_neg (by simp;omega),azc (by omega)]
def FA{f:List RV->List RV}(h:(Z.modify X f)[I]?=some x):(I=X/\∃U,Z[X]?=some U/\x=f U)\/(I≠X/\Z[I]?=some x):=by
 rw[aAK] at h;by_cases R:X=I;subst R;simp only[if_true] at h;cases Q:Z[X]? with
 |none=>rw[Q] at h;cases h
 |some U=>rw[Q] at h;simp at h;exact .inl ⟨rfl,U,rfl,h.symm⟩
 simp only[R,if_false] at h;exact .inr ⟨λN=>R N.symm,by simpa using h⟩
def an3{w:Nat}{l:List Value}(U:∀(i:Nat)(X:List RV),Z[i]?=some X->X.length=w)(Q:l.length=Z.length*w)(h:∀(i j:Nat)(X:List RV)(c:RV),Z[i]?=some X->X[j]?=some c->l[i*w+j]?=some c.val):l=cu Z:=by
 apply ay3;intro q;by_cases N:q<(cu Z).length;have R:=ayB N;obtain⟨i,j,X,c,M,L,J,I⟩:=Fs U R;rw[R,I];subst J;exact h i j X c M L;rw[ayX (l:=cu Z) (by omega),ayX];rw[Q,<-vW U];omega
def an4(R:ap g p D d.ty V O s a W)(b8:fz P d.ty)(hg:dg d.gl O){y:Operand}(ho:H.op=.store U l y){dr:Bool}{b:BI}(h:cK d H M dr s=some b)(hn:b.aF.den O=true):
  Fy P g p D d.ty V O s a W H b:=by
 unfold cK at h;simp only[ho] at h;split at h;cases h;split at h;rename_i N k w i Z ca hx;split at h;rename_i e hk;split at h;rename_i te cc;split at h;rename_i hc;simp only[ayz,beq_iff_eq,decide_eq_true_eq] at hc;obtain⟨⟨⟨⟨ch,a3⟩,cl⟩,af⟩,cp⟩:=hc;cases hb:gu s none (qy i (.len (.v k))) e (.own e) (.set (.ref (.v k)) i Z (s.ev d.gl y).cells) [k] (SV.kZ (s.ev d.gl y).cells) with
 |none=>rw[hb] at h;cases h
 |some b0=>
  rw[hb] at h;simp only[ayI,ayE] at h;obtain⟨bU,cv,rfl⟩:=uh hb;subst h;have bl:aV d.ty (.sl e)=te.ae:=by simp[aV,cc]
  have B:(aV d.ty (.sl e)).length=w:=by rw[bl];exact ch
  obtain⟨A,n,F,g1,g2,g3⟩:=Jm R hk;have a6:=pE R hk;simp only[qy] at hn;obtain⟨a4,ag⟩:=vY hn;have a4:=ui a4;rw[xZ] at ag;simp only[ey,IE.den,RE.rv] at a4 ag;have ag:=of_decide_eq_true ag;rw[g1] at ag;simp only[RV.ji,lenOf] at ag;obtain⟨I,hI⟩:=Jo a4;have dn:I<n:=by omega
  obtain⟨bo,br⟩:=ow g2;have a1:=dt.sr g2;obtain⟨m,a2,hA,bs,cx,a5⟩:∃b a2,A=some ⟨b,0,none⟩/\W.heap[b]?=some (.cells a2 e (0,0))/\F<=maxLen/\a2.size=F*(aV d.ty (.sl e)).length:=by
   rcases g3.mem with h0|h0;omega;exact h0
  subst hA;have cy:ik (some ⟨m,0,none⟩) F=some m:=by cases F with
   |zero=>omega
   |succ c=>rfl
  have cI:s.ev d.gl y≠ .any:=by
   intro hy;rw[hy] at af a3;simp only[SV.cells,aAg] at a3;rw[<-a3] at af;cases hd:(te.ae.drop Z).take 1 with
   |nil=>rw[hd] at af;simp[jg,SV.cells] at af
   |cons c cs=>rw[hd] at af;simp[jg,SV.cells,oc] at af
  have c0:=bQ R hg y (by cases hh:s.ev d.gl y<;>first|rfl|exact absurd hh cI);have c1:=bQ R hg l (by rw[hx];rfl);have c2:=Na (O:=O) (V:=V) (qH R) cp;obtain⟨f1,f2⟩:=CL af;have bZ:(s.ev d.gl y).cells.length=N.ae.length:=a3;have ds:((te.ae.drop Z).take N.ae.length).length=N.ae.length:=by simp;omega
  have bt:∀(j:Nat),j<N.ae.length->((te.ae.drop Z).take N.ae.length)[j]?=(aV d.ty (.sl e))[Z+j]?:=by
   intro j E;rw[ay7,if_pos E,azj,bl]
  have bx:SV.au O V (s.ev d.gl y).cells=((s.ev d.gl y).cells.map (SV.bu O)).map RV.val:=by
   apply ay3;intro j;rw[ol,ayF,ayF];cases hv:(s.ev d.gl y).cells[j]? with
   |none=>rfl
   |some v=>
    have E:j<N.ae.length:=by rw[<-bZ];exact(ayA.1 hv).1
    obtain⟨ct,c3⟩:∃ct,((te.ae.drop Z).take N.ae.length)[j]?=some ct:=⟨_,ayB (by omega)⟩;simp only[ayI];rw[adm (f2 j ct v c3 hv)]
  have al:=UP R af;have b1:(LE.set (.ref (.v k)) i Z (s.ev d.gl y).cells).rows O=(O.rv k).rows.modify I λX=>dJ X Z ((s.ev d.gl y).cells.map (SV.bu O)):=by simp[LE.rows,RE.rv,hI]
  have a7:((s.ev d.gl y).cells.map (SV.bu O)).length=N.ae.length:=by simp[bZ]
  generalize c4:(s.ev d.gl y).cells.map (SV.bu O)=C at*;have a8:∀Q:List RV,Q.length=(aV d.ty (.sl e)).length->Z+C.length<=Q.length:=λQ h0=>by rw[h0,B,a7];exact cl
  have a9:dt W d.ty e ((O.rv k).rows.modify I λX=>dJ X Z C):=by
   refine dt.of (λL X hr=> ?_);rcases FA hr with⟨rfl,Q,G,rfl⟩|⟨bb,G⟩
   ·have q:=a1.get G;have c5:=a8 Q q.len;refine⟨by rw[adt];exact q.len,λj c kk f ab=> ?_,λj c f ab=> ?_,λj c z kk f ab=> ?_⟩
    all_goals
     rw[Nq _ _ _ _ c5] at f;split at f;rename_i E;have bd:j-Z<N.ae.length:=by omega
     have an:=bt _ bd;rw[show Z+(j-Z)=j by omega,ab] at an
     first
      |exact al.int (j-Z) c _ f an
      |exact al.bool (j-Z) c f an
      |exact al.ax (j-Z) c _ _ f an
     first
      |exact q.int j c _ f ab
      |exact q.bool j c f ab
      |exact q.ax j c _ _ f ab
   exact a1.get G
  have c6:yg d.ty V O s e ((O.rv k).rows.modify I λX=>dJ X Z C) (SV.kZ (s.ev d.gl y).cells):=by
   intro b ⟨L,j,X,c,z,kk,h1,J,h3,hl⟩;have elder:∀Q,(O.rv k).rows[L]?=some Q->Q[j]?=some c->O.lR d.ty s.rs b/\(∀i,aE s.boxes i=true->ad V i≠b)/\∀(k':Nat)(U:TypeId)(rv:RV),s.rs[k']?=some (.own U)->O.r[k']?=some rv->rv.hU=some b->k'∈SV.kZ (s.ev d.gl y).cells:=by
    intro Q q1 q2;have hi:jK d.ty e (O.rv k).rows b:=⟨L,j,Q,c,z,kk,q1,q2,h3,hl⟩;have b2:=Ft (O:=O) (e0:=.own e) rfl hi;exact⟨⟨k,_,hk,b2⟩,(R.mem.ref k _ _ hk a6).2 b b2,λk' U rv q3 q4 q5=>(Jj R q3 q4 q5 hk rfl hi).elim⟩
   rcases FA h1 with⟨rfl,Q,G,rfl⟩|⟨bb,G⟩;rw[Nq _ _ _ _ (a8 Q (a1.len _ _ G))] at J;split at J;rename_i E;have bd:j-Z<N.ae.length:=by omega
   have an:((te.ae.drop Z).take N.ae.length)[j-Z]?=some (.ax z kk):=(bt _ bd).trans (by rw[show Z+(j-Z)=j by omega];exact h3);rw[<-c4] at J;obtain⟨r,q1,q2,q3,q4⟩:=UQ af J an hl;obtain⟨p1,p2⟩:=Fu R q3 q2 q4;refine⟨p1,p2,λk' U rv k1 k2 k3=> ?_⟩;have:=Ni R k1 k2 k3 q3 q2 q4;subst this;exact No (ayW q1) rfl;exact elder Q G J;exact elder X G J
  have bf:(SV.au O V (s.ev d.gl y).cells).length=N.ae.length:=by simp[bZ]
  have c7:I*w+Z+N.ae.length<=F*w:=by
   have:(I+1)*w<=F*w:=azP _ (by omega);rw[azD] at this;omega
  obtain⟨W',r1,r2,r3,r4,r5,r6,r7⟩:=UK (P:=P) m (I*w+Z) e (SV.au O V (s.ev d.gl y).cells) 0 a2 W bs (by rw[bf,a5,B];omega) (λu hu=>by
   rw[bx] at hu;obtain⟨c,c8,rfl⟩:=ay1.1 hu;obtain⟨j,E⟩:=azh c8;have dx:j<N.ae.length:=by rw[<-a7];exact(ayA.1 E).1
   obtain⟨ct,ab⟩:∃ct,((te.ae.drop Z).take N.ae.length)[j]?=some ct:=⟨_,ayB (by omega)⟩;cases ct with
   |int kk=>obtain⟨n',bg⟩:=al.int j c kk E ab;rw[bg];rfl
   |bool=>obtain⟨n',bg⟩:=al.bool j c E ab;rw[bg];rfl
   |ax z kk=>exact Ff (al.ax j c z kk E ab))
  have a0:((O.rv k).rows.modify I λX=>dJ X Z C).length=n:=by simp[bo]
  have b3:=US g2 bs;rw[bo,B] at b3;obtain⟨R',c9⟩:=R.bind bU (old:=some m) (kill:=[k]) (frz:=SV.kZ (s.ev d.gl y).cells) (A:=some ⟨m,0,none⟩) (cap:=F) (W':=W') (.inr ⟨k,e,_,rfl,hk,a6,by rw[g1,Fv,cy]⟩) cv
   ⟨r5,r6,r7,by omega,λq _ hq=>r3 q (λh=>hq (by rw[h]))⟩ a9 c6
   ⟨by rw[a0];exact br,by simp,.inr ⟨m,_,rfl,r2,cx,by rw[B,azY,UJ,azL,a5,B],by
    rw[a0,B];refine an3 (w:=w) (λL X hr=>by rw[a9.len L X hr,B]) ?_ (λL j X c h1 J=> ?_);rw[a0,az6,aAt,UJ,azL,a5,B];exact aAR (azP _ br);have dy:L<n:=by rw[<-a0];exact(ayA.1 h1).1
    have dz:j<w:=by rw[<-B,<-a9.len L X h1];exact(ayA.1 J).1
    have b4:L*w+j<n*w:=by
     have:(L+1)*w<=n*w:=azP _ (by omega);rw[azD] at this;omega
    rw[ay7,if_pos b4,aAt,azU,adu _ _ _ _ (by rw[bf,azL,a5,B];exact c7),bf];have b5:∀Q:List RV,(O.rv k).rows[L]?=some Q->Q[j]?=some c->a2.toList[L*w+j]?=some c.val:=by
     intro Q q1 q2;have:=Jf (w:=w) (λi X hr=>by rw[a1.len i X hr,B]) q1 q2;rw[<-b3,ay7,if_pos b4] at this;exact this
    rcases FA h1 with⟨rfl,Q,G,rfl⟩|⟨bb,G⟩;rw[Nq _ _ _ _ (a8 Q (a1.len _ _ G)),a7] at J;by_cases E:Z<=j/\j<Z+N.ae.length;rw[if_pos E] at J;rw[if_pos (by omega),bx,show L*w+j-(L*w+Z)=j-Z by omega,ayF,J];rfl;rw[if_neg E] at J;rw[if_neg (by omega)];exact b5 Q G J;have dc:¬(I*w+Z<=L*w+j/\L*w+j<I*w+Z+N.ae.length):=by
     rintro⟨q1,q2⟩;rcases aB8 bb with dT|d0;have:(L+1)*w<=I*w:=azP _ (by omega);rw[azD] at this;omega;have:(I+1)*w<=L*w:=azP _ (by omega);rw[azD] at this;omega
    rw[if_neg dc];exact b5 X G J,.inr rfl⟩⟩
  have dd:k<O.r.length:=(ayA.1 a6).1;have R2:=R'.eC (k:=k) (n:=s.rs.length) (by
   rw[<-R.er];have e1:(O.add (.r (.mk (.slice (some ⟨m,0,none⟩) ((O.rv k).rows.modify I λX=>dJ X Z C).length F) ((O.rv k).rows.modify I λX=>dJ X Z C)))).rv O.r.length=.mk (.slice (some ⟨m,0,none⟩) ((O.rv k).rows.modify I λX=>dJ X Z C).length F) ((O.rv k).rows.modify I λX=>dJ X Z C):=by simp[aa.rv,aa.add]
   have e2:(O.add (.r (.mk (.slice (some ⟨m,0,none⟩) ((O.rv k).rows.modify I λX=>dJ X Z C).length F) ((O.rv k).rows.modify I λX=>dJ X Z C)))).rv k=O.rv k:=by simp[aa.rv,aa.add,ayD,dd]
   rw[e1,e2,RV.ji,a0];have:=congrArg RV.val g1;exact this.symm)
  refine⟨undef,W',_,.inr ⟨?_,rfl⟩,⟨⟨_,_,_,by rw[b1],by rw[b1]⟩,c9,λk' _ _ _ hx=>by
   cases hx;rw[RV.ji,a0];exact(congrArg RV.val g1).symm⟩,R2.put H.dst (.bh []), ?_⟩
  have df:(O.rv k).val=.slice (some ⟨m,0,none⟩) n F:=by rw[g1];rfl
  have b6:((s.ev d.gl y).den O V).cells.toList=SV.au O V (s.ev d.gl y).cells:=c2;have dk:((s.ev d.gl y).den O V).cells.size=N.ae.length:=by rw[<-azL,b6];simp[bZ]
  simp only[execOp,ho,c1,c0,hx,SV.den,RE.den,RE.rv,df,kb,hI,azN,ay9,Instr.storeAt,Instr.sureAddr,storeVar,Sem.run_bind,Sem.run_pure,Result.andThen_ok,(b8 _ _ ca).jN,dk,b6,ne_eq,not_true_eq_false,if_false,r1];have b7:ba s O V ({s with rs:=gJ (SV.kZ (s.ev d.gl y).cells) 0 (fw [k] 0 s.rs)++[.own e]}:S) _ V:=Ae (rv:=.mk (.slice (some ⟨m,0,none⟩) ((O.rv k).rows.modify I λX=>dJ X Z C).length F) ((O.rv k).rows.modify I λX=>dJ X Z C)) _ none (.bh []);refine ba.put (s:=s) (s':=(({s with rs:=gJ (SV.kZ (s.ev d.gl y).cells) 0 (fw [k] 0 s.rs)++[.own e]}:S).put none (.ref (.v s.rs.length))).eC k s.rs.length) ⟨b7.ext,λq hq=> ?_,by simp[S.put,S.eC,Jp],b7.ao⟩ _ _;simp only[S.put,S.eC,CN];exact hq
 cases h;cases h;cases h;cases h
def U0(R:ap g p D d.ty V O s a W)(X:fz P d.ty)(U:dg d.gl O){L:Bool}{b:BI}(h:cK d H M L s=some b)(Q:b.aF.den O=true):Fy P g p D d.ty V O s a W H b:=by
 cases Z:H.op with
 |call c=>
  cases N:c.callee with
  |builtin J=>cases J with
   |append=>exact anU R X U Z N h Q
   |_=>simp[cK,Z,N] at h
  |_=>simp[cK,Z,N] at h
 |makeSlice t n m=>exact anW R X U Z h Q
 |buildSlice t I parts=>exact anX R X U Z h
 |slice t x G F E=>exact an1 R X U Z h Q
 |store t x y=>exact an4 R X U Z h Q
 |_=>simp[cK,Z] at h
end
end
variable{E:List Int}
section
section
variable{c:List Nat}{d:World}{D:bz}{P:Program}{f:aY}{V:List Nat}{O:aa}{s:S}{a:Act}{W:World}
def adv{Z:Type}(l:List Z)(x y:Z):(l++[x]).set l.length y=l++[y]:=by
 induction l with
 |nil=>rfl
 |cons z U X=>simp[X]
def ap.tW(R:ap c d D f.ty V O s a W)(U:s.bd=true){t:TypeId}{Z:List SV}(I:SV.ck s.ni s.nb s.rs.length (aE s.boxes) Z=true):
  ap c d D f.ty (V++[W.heap.size]) O (s.tW (t,Z)) a (W.alloc (iS t (SV.bX O V Z)))/\ba s O V (s.tW (t,Z)) O (V++[W.heap.size]):=by
 obtain⟨H,v⟩:=R.room 1;have u:(s.room 1).boxes.length=s.boxes.length+1:=by simp[S.room]
 have G:dH (s.room 1).boxes s.boxes.length=true:=by simp[dH,S.room]
 have bU:(s.room 1).cV Z=true:=by
  simp only[S.cV,S.bd,ayz] at U⊢;have Q:aE (s.room 1).boxes=aE s.boxes:=by
   funext i;simp only[aE,bS,S.room,aAA];by_cases X:i<s.boxes.length;rw[ayD X];rw[ayG (by omega),ayX (l:=s.boxes) (by omega)];cases F:i-s.boxes.length with
   |zero=>rfl
   |succ n=>rfl
  have E:∀N,SV.mC s.ni s.nb s.rs.length N (s.boxes++[none])=SV.mC s.ni s.nb s.rs.length N s.boxes:=by
   intro N;generalize s.boxes=l;induction l with
   |nil=>rfl
   |cons x r C=>cases x<;>simp[SV.mC,C]
  refine⟨⟨?_, ?_⟩,by rw[Q];exact I⟩;rw[Q];exact U.1;rw[Q];simp only[S.room,aAA];rw[E];exact U.2
 have L:=H.alloc G t Z bU;have B:(V++ayJ 1 0).set s.boxes.length W.heap.size=V++[W.heap.size]:=by
  rw[<-R.dS,aAA];exact adv _ _ _
 have A:SV.bX O (V++ayJ 1 0) Z=SV.bX O V Z:=by
  apply acI;funext k;simp only[ad,ayC,aAA];by_cases h:k<V.length;rw[ayD h];rw[ayG (by omega),ayX (l:=V) (by omega)];cases F:k-V.length with
  |zero=>rfl
  |succ n=>rfl
 rw[B,A] at L;have z:({((s.room 1).bM s.boxes.length t Z) with lk:=s.lk}:S)=s.tW (t,Z):=by
  simp only[S.bM,S.room,S.tW,aAA,adv]
 have J:=L.lk s.lk;rw[z] at J;refine⟨J,⟨⟨fj.refl _ _ _ _,ayH _,ayH _,ayH _,λk y=> ?_⟩,λi X=> ?_,by simp[S.tW],ayH _⟩⟩;have:k<V.length:=by
  obtain⟨b,M⟩:=ayT.1 y;rw[R.dS];exact(ayA.1 (gg.1 M)).1
 simp[ad,ayD this];obtain⟨b,M⟩:=ayT.1 X;have w:=(ayA.1 (gg.1 M)).1;simp only[aE,bS,S.tW,ayD w] at X⊢;exact X
def ap.adw(R:ap c d D f.ty V O s a W){cs':List SV}(N:bD s.boxes X=some (U,Q)):
  ap c d D f.ty V O (s.bM X U cs') a (W.putObj (ad V X) (iS U (SV.bX O V cs'))):=by
 have C:=R.mem.box X U Q N;have y:ad V X<W.heap.size:=vT C;have B:X<s.boxes.length:=(ayA.1 (gg.1 N)).1;have L:aE s.boxes X=true:=by simp[aE,N]
 have J:∀j,aE (s.boxes.set X (some (U,cs'))) j=true->aE s.boxes j=true:=λj Z=>by
  rcases(lp B).1 Z with rfl|h;exact L;exact h
 have I:∀b,b≠ad V X->(W.putObj (ad V X) (iS U (SV.bX O V cs'))).heap[b]?=W.heap[b]?:=λb h=>World.putObj_heap_other h
 refine⟨⟨⟨R.mem.base.os,R.mem.base.tape,R.mem.base.output,by simpa[World.putObj] using R.mem.base.size,λk H A=> ?_⟩,λj Z=>R.mem.own j (J j Z),λj k Z H=>R.mem.inj j k (J j Z) (J k H),λj M x Z=> ?_,λk e G w v=> ?_⟩,by simpa[S.bM] using R.dS,R.ei,R.eb,R.er,R.bY.anK (λb o F u=> ?_),R.size,R.tmps,λk e G b r q p=> ?_⟩;have n:k≠ad V X:=by
  rintro rfl;rcases R.mem.own X L with h|h;omega;exact A h
 rw[I k n];exact R.mem.base.block k H A;by_cases E:j=X;subst E;rw[S.bM,CH B] at Z;simp only[ayE,aAe] at Z;obtain⟨rfl,rfl⟩:=Z;exact World.putObj_heap_same y;rw[S.bM,uf E] at Z;rw[I _ (λh=>E (R.mem.inj j X (by simp[aE,Z]) L h))];exact R.mem.box j M x Z;obtain⟨m,z⟩:=R.mem.ref k e G w v;exact⟨m.Fm (λb N=>I b (λh=>z b N X L h.symm)) (by simp[World.putObj]),λb N j Z=>z b N j (J j Z)⟩;rw[I b (λe=>by subst e;rw[C] at F;cases F;exact ada u _ _ rfl)];exact F;have t:=R.dK k e G b r q p;have M:=t.world (W':=W.putObj (ad V X) (iS U (SV.bX O V cs'))) (I b (λh=>t.box X L h.symm));exact⟨M.own,M.mem,λj Z=>M.box j (J j Z),M.alone,M.inner⟩
def ap.U4(R:ap c d D f.ty V O s a W){i:Nat}{cs':List SV}(Z:bD s.boxes i=some (U,Q))(_:∀X N M,iS U (SV.bX O V Q)≠ .cells X N M):
  ap c d D f.ty V O (s.bM i U cs') a (W.putObj (ad V i) (iS U (SV.bX O V cs'))):=R.adw Z
def uj(L:List Int)(Z:Value×Value):List (Value×Value)->List (Value×Value)
 |[]=>[Z]
 |p::r=>if sn p.1=L then Z::r else p::uj L Z r
def adx:∀{l:List (Value×Value)}{m:Nat}{p:Value×Value},dO m (l++[p])=dO m l++[⟨p.1,p.2,m+l.length⟩]
 |[],m,p=>by simp[dO]
 |x::r,m,p=>by
  simp only[ayP,dO,adx (l:=r) (m:=m+1) (p:=p)];simp;omega
def ady{L:List Int}{kv:Value×Value}:∀{l:List (Value×Value)}{m i:Nat},
  (kf L (dO m l) i=none/\uj L kv l=l++[kv])\/∃j v p,kf L (dO m l) i=some (i+j,v)/\(dO m l)[j]?=some ⟨p.1,p.2,m+j⟩/\p∈l/\sn p.1=L/\(uj L kv l).length=l.length/\dO m (uj L kv l)=(dO m l).modify j λe=>{e with key:=kv.1,val:=kv.2}
 |[],m,i=>.inl ⟨rfl,rfl⟩
 |p::r,m,i=>by
  simp only[dO,kf,uj];by_cases h:sn p.1=L;right;rw[if_pos h,if_pos h];exact⟨0,p.2,p,rfl,rfl,by simp,h,by simp,by simp[dO]⟩;rw[if_neg h,if_neg h];rcases ady (l:=r) (m:=m+1) (i:=i+1) with⟨Z,X⟩|⟨j,v,U,Z,X,R,Q,N,M⟩;exact .inl ⟨Z,by rw[X];rfl⟩;refine .inr ⟨j+1,v,U,by rw[Z];congr 2;omega,by simp only[azb,X];congr 2;omega,by simp[R],Q,by simp[N], ?_⟩;simp only[dO,M,List.modify_succ_cons]
def an5(U:Bool)(l:List Int):Instr.sameBits 10000 (dX U l) (dX U l)=true:=by
 cases U;simp[dX,Instr.sameBits];show Instr.sameBits (9999+1) (.agg _) (.agg _)=true;simp only[Instr.sameBits,beq_self_eq_true,aAm,ayM];intro p N;have:p.1=p.2/\∃x,p.1=.int .i64 x:=by
  have M:∀(m:List Value)(q:Value×Value),q∈m.zip m->q.1=q.2/\q.1∈m:=by
   intro m;induction m with
   |nil=>intro q Z;cases Z
   |cons y J Q=>
    intro q Z;simp only[aAy,ayK] at Z;rcases Z with rfl|Z;exact⟨rfl,by simp⟩;exact⟨(Q q Z).1,by simp[(Q q Z).2]⟩
  obtain⟨R,X⟩:=M _ p N;simp only[ay1] at X;obtain⟨x,-,L⟩:=X;exact⟨R,x,L.symm⟩
 obtain⟨R,x,X⟩:=this;rw[<-R,X];simp[Instr.sameBits]
def adz{k e:TypeId}(z:P.underlying U=some (.map k e))(H:pD P k X M){l:List (Value×Value)}(G:W.heap[I]?=some (lQ l))(y:E.length=X)
  (F:∀p∈l,∃Z:List Int,Z.length=X/\p.1=dX M Z)(v:Value):
  (Instr.mapUpdate U (.map (some I)) (dX M E) v).run P W=.ok () (W.putObj I (lQ (uj E (dX M E,v) l))):=by
 have r:∀x∈dO 0 l,∃Z:List Int,Z.length=X/\x.key=dX M Z:=λx q=>by
  obtain⟨p,R,Q⟩:=UF q;obtain⟨Z,J,N⟩:=F p R;exact⟨Z,J,Q.trans N⟩
 obtain⟨h,g⟩:=H.2 E (dO 0 l) W y r;have f:=MapKept.run_getObj_map (P:=P) (w:=W) G;have C:=λo=>MapKept.run_setObj_map (P:=P) (w:=W) o G
 simp only[Instr.mapUpdate,Sem.run_bind,cS.eE z,Result.andThen_ok,f,h,g];rcases ady (L:=E) (kv:=(dX M E,v)) (l:=l) (m:=0) (i:=0) with⟨R,Q⟩|⟨j,u,p,R,Q,J,N,d,c⟩;rw[R,Q];simp only[C,World.putObj,lQ,adx];simp;rw[R];obtain⟨Z,q1,B⟩:=F p J;have hl:Z=E:=by
  rw[B,UD (λe=>q1.trans (H.1 e))] at N;exact N
 subst hl;have A:(((dO 0 l).toArray[0+j]?).map (·.key)).getD (dX M Z)=dX M Z:=by
  simp[Q,B]
 simp only[ay9] at A⊢;simp only[A,Instr.keyThatStays,an5,if_true,Sem.run_pure,Result.andThen_ok,Sem.run_bind,C,World.putObj,lQ,c,d];simp
end
end
variable{i:Act}
section
def pF(O:aa)(Z:Fx):Prop:=∀x∈Z,x.1.den O=x.2
def Nr{U:Fx}(h:pF J U){b:BE}(Z:IL U b=some M):b.den J=M:=by
 unfold IL at Z;split at Z;cases Z;simp[BE.den];cases X:U.find? (λx=>x.1.same b) with
 |none=>rw[X] at Z;cases Z
 |some x=>
  rw[X] at Z;cases Z;have R:=aAx X;rw[<-BE.bi _ _ R];exact h x (azZ X)
def adA{X:Fx}(h:pF J X){b:BE}(U:b.den J=M):pF J ((b,M)::X):=by
 intro x Z;rcases ayK.1 Z with rfl|Z;exact U;exact h x Z
def CO{D:bz}{W:World}{X:aa}{V:List Nat}{U:Fx}(Z:ap R L D t V J G i W)(N:fj J X J.i.length J.b.length J.r.length)(h:pF J U):pF X (ld G U):=by
 intro x M;obtain⟨I,Q⟩:=azk.1 M;rw[<-Z.ei,<-Z.eb,<-Z.er] at Q;rw[BE.cn N _ Q];exact h x I
section
variable{f:aY}
def ap.drew{g:List Nat}{w:World}{D:bz}{V:List Nat}{O:aa}{s:S}{a:Act}{W:World}(R:ap g w D f.ty V O s a W):ap g w D f.ty V O s a {W with drawn:=W.drawn+1}:=
 ⟨⟨R.mem.base.drew,R.mem.own,R.mem.inj,R.mem.box,λk e Z X U=>⟨(R.mem.ref k e Z X U).1.Fm (λ_ _=>rfl) (ayH _),(R.mem.ref k e Z X U).2⟩⟩,R.dS,R.ei,R.eb,R.er,R.bY.world (λ_ _ h _=>h),R.size,R.tmps,λk e Z b X U Q=>(R.dK k e Z b X U Q).world rfl⟩
end
section
variable{g:List Nat}{w:World}{D:bz}{P:Program}{f:aY}{V:List Nat}{O:aa}{s:S}{a:Act}{W:World}
def ap.adB(R:ap g w D f.ty V O s a W)(U:s.bd=true)(j:Int):ap g w D f.ty V (O.add (.i j)) {s with ni:=s.ni+1} a W:=by
 obtain⟨Q,N⟩:=R.ue U;have X:=nl s.boxes O (.i j) V;refine⟨⟨R.mem.base,R.mem.own,R.mem.inj,λi t M h=> ?_,R.mem.ref⟩,R.dS,by simp[aa.add,R.ei],R.eb,R.er,R.bY,R.size,λt L h=> ?_,λk e J b Z I H=> ?_⟩;rw[X.bX (ot N h)];exact R.mem.box i t M h;rcases R.tmps t L h with Z|Z;exact .inl Z;right;rw[X.den (qG Q h)];exact Z;have t:=R.dK k e J b Z I H;exact⟨t.own,t.mem,t.box,t.alone,t.inner⟩
def ap.adC(R:ap g w D f.ty V O s a W)(U:s.bd=true){X:Sh}(Q:aW W f.ty (.mr X) n):ap g w D f.ty V (O.add (.r n)) {s with rs:=s.rs++[.mr X]} a W:=
 R.add U Q (λb Z=>by cases Z) (λk e L b _ _ _ Z=>by
  rcases Z with Z|⟨⟨t,N⟩,_⟩;cases Z;cases N) (λe b M=>by cases M)
def adD{Q:Sh}(h:∀X∈Z,CF f.ty Q X)(M:∀c∈aV f.ty (.mr Q),jx c=true):aW W f.ty (.mr Q) (.mk (.slice none Z.length Z.length) Z):=by
 refine aW.mr Q Z (λi X U=>(h X (ayW U)).len) (λi j X c k U N R=>(h X (ayW U)).int j c k N R) (λi j X c U N R=>(h X (ayW U)).bool j c N R) (λi j X c z k U N R=> ?_);have:=M _ (ayW R);simp[jx] at this
def U5{n:Nat}{Z x:List RV}:∀{X:List (List RV)},x∈fg n Z X->x=Z\/x∈X
 |[],h=>by simp[fg] at h;exact .inl h
 |r::U,h=>by
  simp only[fg] at h;split at h;rcases ayK.1 h with h|h;exact .inl h;exact .inr (by simp[h]);rcases ayK.1 h with h|h;exact .inr (by simp[h]);rcases U5 h with h|h;exact .inl h;exact .inr (by simp[h])
def adE{n:Nat}{Z:List RV}:∀{rows:List (List RV)},(∀r∈rows,jl n ((Z.take n).map λc=>bc c.val) r=false)->fg n Z rows=rows++[Z]
 |[],_=>rfl
 |r::X,h=>by
  simp only[fg];rw[if_neg (by rw[h r (by simp)];simp),adE (rows:=X) (λx U=>h x (azG _ U))];rfl
def adF{n:Nat}{Z va:Bool}(U:Z=false->n=1){X:List RV}(N:z7 n X){L:List Int}(R:(X.take n).map (λc=>bc c.val)=L):∀{Q:List (List RV)},(∀r∈Q,z7 n r)->
  uj L (qF n Z va X) (Q.map (qF n Z va))=(fg n X Q).map (qF n Z va)
 |[],_=>rfl
 |r::A,h=>by
  obtain⟨l,J,I,H⟩:=Je (ag:=Z) U (h r (by simp));have z:L.length=n:=by
   obtain⟨y,G,F⟩:=N;rw[<-R,F];simpa using G
  have E:jl n L r=decide (l=L):=by
   simp only[jl,H];rw[azX (by omega)]
  simp only[ayO,uj,fg,R,E];have C:sn (qF n Z va r).1=l:=by
   simp only[qF,I];exact UD (λe=>J.trans (U e))
  rw[C];by_cases M:l=L;simp[M];simp only[M,if_false,decide_false,ayV,ayO];rw[adF U N R λx B=>h x (by simp[B])]
def an6(t:TypeId):(Instr.makeMap t none).run P W=.ok (.map (some W.heap.size)) (W.alloc (.map #[] 0)):=by
 simp[Instr.makeMap]
def an7(R:ap g w D f.ty V O s a W){m:OM}(J:m.o.op=.makeMap U none)(h:MC f m.o.dst s U=some G):
  ∃v Q N,oz P m.o a W v Q/\ap g w D f.ty N O G (a.put m.o.dst v) Q/\ba s O V G O N:=by
 unfold MC at h;split at h;rename_i k e n Z ae q C;split at h;rename_i X B;split at h;rename_i M;simp only[ayz] at M;cases h;have I:SV.ck s.ni s.nb s.rs.length (aE s.boxes) (Ck X n Z).2=true:=by
  unfold Ck;split<;>simp[SV.eU,SV.aL,RE.aL,IE.aL,BE.aL]
 obtain⟨L,H⟩:=R.tW M.1 (t:=(Ck X n Z).1) I;have F:iS (Ck X n Z).1 (SV.bX O V (Ck X n Z).2)=.map #[] 0:=by
  unfold Ck;split;rw[z8];simp[RE.rv,lQ,dO];rw[Aa];simp[SV.au,xW,lQ,dO]
 rw[F] at L;refine⟨.map (some W.heap.size),W.alloc (.map #[] 0),V++[W.heap.size],.inl ?_, ?_,H.put _ _⟩;simp[execOp,J,an6];have:=L.put m.o.dst (.mp s.boxes.length);have E:ad (V++[W.heap.size]) s.boxes.length=W.heap.size:=by simp[ad,<-R.dS]
 rw[SV.den,E] at this;exact this;cases h;cases h;cases h
def Ns{e:TypeId}{Z:TI}{r:RE}(h:Cl f s U e X M Z Q=some r):
  Q=[.ref r,.int .i64 (.c (X:Int)),.bool (.c M),.bool (.c Z.d.isAgg)]/\r.my f.ty s ⟨U,e,X,M,Z.d.isAgg⟩=true/\Z.ae.all jx=true:=by
 unfold Cl at h;split at h;split at h;rename_i R;simp only[ayz,beq_iff_eq] at R;cases h;obtain⟨⟨⟨⟨N,rfl⟩,rfl⟩,rfl⟩,L⟩:=R;exact⟨rfl,N,L⟩;cases h;cases h
def adG{x y z:IE}(h:Cd X M b=some (x,y,z)):b.cells.map (SV.bu O)=([x.den O,y.den O,z.den O].take X).map λu=>.mk (.int .i64 u) []:=by
 unfold Cd at h;split at h<;>first|(cases h;done)|(split at h<;>first|(cases h;done)|skip)
 all_goals
  rename_i Z;cases h;simp only[ayz,beq_iff_eq] at Z;obtain⟨rfl,-⟩:=Z;simp[SV.cells,SV.bu]
def U6:∀{ae:List CT}{l:List SV},jg f.ty s ae l=true->ae.all jx=true->l.length=ae.length/\(∀(j:Nat)(k:IntKind),ae[j]?=some (.int k)->∃x,(l.map (SV.bu O))[j]?=some (.mk (.int k x) []))/\(∀(j:Nat),ae[j]?=some .bool->∃x,(l.map (SV.bu O))[j]?=some (.mk (.bool x) []))/\(l.map (SV.bu O)).map RV.val=SV.au O V l
 |[],[],_,_=>⟨rfl,λj k h=>by simp at h,λj h=>by simp at h,rfl⟩
 |[],_::_,h,_=>by simp[jg] at h
 |_::_,[],h,_=>by simp[jg] at h
 |c::ae,v::l,h,U=>by
  simp only[jg,ayz] at h;simp only[aAv,ayz] at U;obtain⟨Q,N,M,L⟩:=U6 (ae:=ae) (l:=l) h.2 U.2;have X:=h.1;unfold oc at X;split at X;rename_i k J e;have:k=J:=of_decide_eq_true X;subst this;refine⟨by simp[Q],λj R Z=> ?_,λj Z=> ?_,by simp[SV.au,SV.bu,SV.den,L]⟩;cases j with
  |zero=>simp at Z;subst Z;exact⟨e.den O,rfl⟩
  |succ j=>simpa using N j R (by simpa using Z)
  cases j with
  |zero=>simp at Z
  |succ j=>simpa using M j (by simpa using Z)
  rename_i b;refine⟨by simp[Q],λj R Z=> ?_,λj Z=> ?_,by simp[SV.au,SV.bu,SV.den,L]⟩;cases j with
  |zero=>simp at Z
  |succ j=>simpa using N j R (by simpa using Z)
  cases j with
  |zero=>exact⟨b.den O,rfl⟩
  |succ j=>simpa using M j (by simpa using Z)
  simp[jx] at U;cases X
def an8{e:TypeId}{Q:TI}(w:oa f.ty U X M=true)(t:f.ty e=some Q)(r:Q.ae.all jx=true){v:SV}{x y z:IE}(J:Cd X M b=some (x,y,z))(q:jg f.ty s Q.ae v.cells=true):
  CF f.ty ⟨U,e,X,M,Q.d.isAgg⟩ ((b.cells++v.cells).map (SV.bu O)):=by
 obtain⟨p,I,H,G⟩:=Fi (va:=Q.d.isAgg) w t;obtain⟨o,m,l,-⟩:=U6 (O:=O) (V:=[]) q r;have i:=(UE (O:=O) (V:=[]) J).2;have F:=adG (O:=O) J;have E:(b.cells.map (SV.bu O)).length=X:=by rw[F];simpa using i
 have C:∀(j:Nat),((b.cells++v.cells).map (SV.bu O))[j]?=if j<X then(b.cells.map (SV.bu O))[j]? else(v.cells.map (SV.bu O))[j-X]?:=by
  intro j;rw[aAS,aB0,E]
 have B:∀(j:Nat),(aV f.ty (.mr ⟨U,e,X,M,Q.d.isAgg⟩))[j]?=if j<X then p[j]? else Q.ae[j-X]?:=by
  intro j;rw[I,aB0,H]
 refine⟨?_,λj c h Z R=> ?_,λj c Z R=> ?_⟩;rw[I,azg,ayN,ayN,H,o];simp at E;omega;rw[C] at Z;rw[B] at R;split at Z;rename_i N;rw[if_pos N] at R;have:=G _ (ayW R);cases this;rw[F,ayF] at Z;cases A:([x.den O,y.den O,z.den O].take X)[j]? with
 |none=>rw[A] at Z;cases Z
 |some u=>rw[A] at Z;cases Z;exact⟨u,rfl⟩
 rename_i N;rw[if_neg N] at R;obtain⟨u,L⟩:=m _ h R;rw[L] at Z;cases Z;exact⟨u,rfl⟩;rw[C] at Z;rw[B] at R;split at Z;rename_i N;rw[if_pos N] at R;have:=G _ (ayW R);cases this;rename_i N;rw[if_neg N] at R;obtain⟨u,L⟩:=l _ R;rw[L] at Z;cases Z;exact⟨u,rfl⟩
def an9{e:TypeId}{Z:Bool}{R:TI}(N:oa f.ty U X M=true)(L:f.ty e=some R)(J:R.ae.all jx=true):∀c∈aV f.ty (.mr ⟨U,e,X,M,Z⟩),jx c=true:=by
 obtain⟨G,I,F,H⟩:=Fi (va:=Z) N L;intro c Q;rw[I] at Q;rcases ayL.1 Q with h|h;rw[H c h];rfl;exact ayM.1 J c h
def aoa(W:World)(b:Nat)(o:Obj):ChangeMaps.setBlock W b o=W.putObj b o:=rfl
def MR.aob(g:List Nat)(w:World)(D:bz)(X:Ty)(V:List Nat)(O:aa)(s:S)(a:Act)(U:World):MR->Prop
 |.ok Z=>ap g w D X V O Z a U/\ba s O V Z O V
 |.rows _ x Z=>ap g w D X V (O.add (.r (eK x O))) Z a U/\ba s O V Z (O.add (.r (eK x O))) V
def Nt(R:ap g w D f.ty V O s a W)(af:fz P f.ty){d:Option Nat}{X v:SV}{r:MR}(h:MB f d s U b X v=some r):
  ∃W',(Instr.mapUpdate U (b.den O V) (X.den O V) (v.den O V)).run P W=.ok () W'/\r.aob g w D f.ty V O s (a.put d undef) W':=by
 unfold MB at h;split at h;rename_i k e n Q ae q i ht;have hd:P.underlying U=some (.map k e):=(af _ _ ht).desc;have E:pD P k n Q:=(af _ _ ht).key k e n Q rfl;split at h;rename_i N xa xb xc bt I H g2 C;have bb:=af _ _ H;split at h;cases h;rename_i a2;simp only[ay2,ayS,not_or,az4] at a2;obtain⟨⟨B,bU⟩,bd⟩:=a2;simp only[S.cV,ayz] at bU;obtain⟨hb,bU⟩:=bU;obtain⟨a3,al⟩:=UE (O:=O) (V:=V) g2;have A:=R.mem.box i bt I C;have bf:=M8 (O:=O) (V:=V) (qH R) bd;split at h;rename_i eW;simp only[beq_iff_eq] at eW;subst eW;split at h;rename_i M bg;split at h;rename_i a4;cases h;obtain⟨rfl,c1,c5⟩:=Ns bg;rw[z8] at A;have a5:=CG R c1;have a6:∀L∈(M.rv O).rows,z7 n L:=λL G=>Fj B H (a5 L G)
 have an:=adz (P:=P) hd E A al (λp hp=>by
  obtain⟨L,G,rfl⟩:=ay1.1 hp;obtain⟨l,q1,q2,-⟩:=Je E.1 (a6 L G);exact⟨l,q1,q2⟩) (v.den O V)
 have a0:=an8 (O:=O) (s:=s) B H c5 g2 a4;have a7:=adG (O:=O) g2;have b5:(X.cells.map (SV.bu O)).length=n:=by rw[a7];simpa using al
 have bk:((X.cells++v.cells).map (SV.bu O)).take n=X.cells.map (SV.bu O):=by
  rw[aAS,aAF (by omega),azX (by omega)]
 have bl:((X.cells++v.cells).map (SV.bu O)).drop n=v.cells.map (SV.bu O):=by
  rw[aAS,aBg (by omega),aBN (by omega)];rfl
 have hL:(((X.cells++v.cells).map (SV.bu O)).take n).map (λc=>bc c.val)=[xa.den O,xb.den O,xc.den O].take n:=by
  rw[bk,a7];simp[bc]
 obtain⟨f1,-,-,f4⟩:=U6 (O:=O) (V:=V) a4 c5;have bo:qF n Q N.d.isAgg ((X.cells++v.cells).map (SV.bu O))=(dX Q ([xa.den O,xb.den O,xc.den O].take n),v.den O V):=by
  obtain⟨l,q1,q2,q3⟩:=Je (ag:=Q) E.1 (Fj B H a0);have hl:l=[xa.den O,xb.den O,xc.den O].take n:=by rw[<-q3,hL]
  have br:mG N.d.isAgg (v.cells.map (SV.bu O))=v.den O V:=by
   rw[bf,mG,f4];cases ha:N.d.isAgg;have bs:v.cells.length=1:=by rw[f1];exact vS bb ha
   obtain⟨u,hu⟩:=ay5.1 bs;simp only[ayV,if_false];rw[<-f4,hu];rfl;rfl
  simp only[qF,q2,hl,bl,br]
 have ab:=adF (va:=N.d.isAgg) E.1 (Fj B H a0) hL a6;rw[bo] at ab;have hh:aW W f.ty (.mr ⟨k,e,n,Q,N.d.isAgg⟩) (eK (.ins (.ref M) n (X.cells++v.cells)) O):=by
  refine adD (λL a8=> ?_) (an9 B H c5);simp only[LE.rows] at a8;rcases U5 a8 with rfl|h;exact a0;exact a5 L h
 have R1:=R.adC hb hh;have a1:∀z o m,iS qr (SV.bX (O.add (.r (eK (.ins (.ref M) n (X.cells++v.cells)) O))) V [.ref M,.int .i64 (.c (n:Int)),.bool (.c Q),.bool (.c N.d.isAgg)])≠ .cells z o m:=by
  intro z o m hx;rw[z8] at hx;cases hx
 have R2:=R1.U4 (cs':=[.ref (.v s.rs.length),.int .i64 (.c (n:Int)),.bool (.c Q),.bool (.c N.d.isAgg)]) (i:=i) C a1;have bx:(RE.v s.rs.length).rv (O.add (.r (eK (.ins (.ref M) n (X.cells++v.cells)) O)))=eK (.ins (.ref M) n (X.cells++v.cells)) O:=by
  simp[RE.rv,aa.rv,aa.add,<-R.er]
 rw[z8,bx] at R2;refine⟨W.putObj (ad V i) (lQ ((eK (.ins (.ref M) n (X.cells++v.cells)) O).rows.map (qF n Q N.d.isAgg))), ?_, ?_, ?_⟩;simp only[SV.den,a3];rw[an,ab];rfl;have:=R2.put d (.bh []);exact this;exact ba.put (s:=s) (s':={s with rs:=s.rs++[RK.mr ⟨k,e,n,Q,N.d.isAgg⟩],boxes:=s.boxes.set i (some (qr,[.ref (.v s.rs.length),.int .i64 (.c n),.bool (.c Q),.bool (.c N.d.isAgg)]))}) ⟨nl _ _ _ _,λj hj=>(lp (ayA.1 (gg.1 C)).1).2 (.inr hj),by simp,ayH _⟩ d _;cases h;cases h;split at h;rename_i eW;simp only[ayz,beq_iff_eq,ayS] at eW;obtain⟨⟨rfl,rfl⟩,rfl⟩:=eW;split at h;rename_i x Z a9;split at h;cases h;rename_i b0;cases h;rw[Aa] at A;obtain⟨p1,p2⟩:=Fk (O:=O) (V:=V) a9;rw[p1] at A;have an:=adz (P:=P) hd E A al (λp hp=>by
  obtain⟨u,hu,rfl⟩:=ay1.1 hp;exact⟨[u.1],rfl,rfl⟩) (v.den O V)
 have ab:∀(Z:List Int)(F:List SV),¬Z.contains x=true->Z.length=F.length->uj [x] (dX false [x],v.den O V) ((Z.zip F).map λp=>(.int .i64 p.1,p.2.den O V))=((Z.zip F).map λp=>(.int .i64 p.1,p.2.den O V))++[(.int .i64 x,v.den O V)]:=by
  intro Z;induction Z with
  |nil=>intro F _ _;simp[uj,dX]
  |cons y ys ih=>
   intro F hc hl;cases F with
   |nil=>simp at hl
   |cons u us=>
    have b1:¬y=x:=by
     intro e;subst e;simp at hc
    have b2:¬ys.contains x=true:=by
     intro e;simp at e hc;exact hc.2 e
    have:=ih us b2 (by simpa using hl);simp only[aAy,ayO,uj,sn,azK,and_true,b1,if_false,this,ayP]
 have a1:∀z o m,iS pj (SV.bX O V I)≠ .cells z o m:=by
  intro z o m hx;rw[Aa] at hx;cases hx
 have R2:=R.U4 (cs':=I++[.int .i64 (.c x),v]) C a1;have b3:∀(l:List SV)(Z:List Int),mA l=some Z->xW (SV.au O V (l++[.int .i64 (.c x),v]))=xW (SV.au O V l)++[(.int .i64 x,v.den O V)]:=by
  intro l;induction l using mA.induct with
  |case1=>intro Z _;rfl
  |case2 k u r ih=>
   intro Z J;simp only[mA] at J;cases G:mA r with
   |none=>rw[G] at J;cases J
   |some b4=>
    have:=ih b4 G;simp only[ayP,SV.au,xW] at this⊢;rw[this]
  |case3 l h1 h2=>intro Z J;unfold mA at J;split at J<;>first|(exact absurd rfl h1)|(exact absurd rfl (h2 _ _ _))|cases J
 rw[Aa,b3 I Z a9,p1] at R2;refine⟨W.putObj (ad V i) (lQ ((Z.zip (jc I)).map (λp=>(Value.int .i64 p.1,p.2.den O V))++[(Value.int .i64 x,v.den O V)])), ?_,R2.put d (.bh []), ?_⟩;simp only[SV.den,a3];rw[an];have:[(IE.c x).den O,xb.den O,xc.den O].take 1=[x]:=rfl;rw[this,ab Z _ b0 p2];exact ba.put (s:=s) (s':=s.bM i pj (I++[.int .i64 (.c x),v])) ⟨jO.refl _ _ _,λj hj=>(lp (ayA.1 (gg.1 C)).1).2 (.inr hj),by simp[S.bM],ayH _⟩ d _;cases h;cases h;cases h;cases h
end
end
variable{r:List LC}
section
section
variable{g:List Nat}{B:World}{D:bz}{P:Program}{f:aY}{V:List Nat}{O:aa}{s:S}{a:Act}{W:World}
def U7{Z:Ty}{s:S}{n:Nat}:∀r:RE,r.kind Z {s with ni:=n}=r.kind Z s
 |.v k=>rfl
 |.cell r i j k=>by simp only[RE.kind,U7 r]
 |.k v=>by cases v<;>rfl
def FB(R:ap g B D f.ty V O s a W){X:Sh}{r:RE}(h:r.my f.ty s X=true):lenOf (r.rv O).val=(r.rv O).rows.length:=by
 unfold RE.my at h;rcases aBh.1 h with h|h;have Z:=nj R (by simp) (of_decide_eq_true h);generalize r.rv O=U at Z;cases Z;rfl;unfold RE.nil at h;split at h;simp[RE.rv,lenOf];cases h
def aoc(R:ap g B D f.ty V O s a W){e:TypeId}{J:TI}{c:IE}(h:TY f s U e X M J I=some c):∃l,W.heap[ad V I]?=some (lQ l)/\(l.length:Int)=c.den O:=by
 unfold TY at h;split at h;rename_i H Q G;have Z:=R.mem.box I H Q G;split at h;rename_i eW;simp only[beq_iff_eq] at eW;subst eW;cases N:Cl f s U e X M J Q with
 |none=>rw[N] at h;cases h
 |some r=>
  rw[N] at h;cases h;obtain⟨rfl,F,A⟩:=Ns N;rw[z8] at Z;exact⟨_,Z,by simp[IE.den,FB R F]⟩
 split at h;rename_i eW;simp only[ayz,beq_iff_eq,ayS] at eW;obtain⟨⟨rfl,rfl⟩,rfl⟩:=eW;cases L:mA Q with
 |none=>rw[L] at h;cases h
 |some z=>
  rw[L] at h;cases h;rw[Aa] at Z;obtain⟨E,C⟩:=Fk (O:=O) (V:=V) L;rw[E] at Z;exact⟨_,Z,by simp[IE.den,C]⟩
 cases h;cases h
def Jq{c:IE}{Z:RE}:iS rU (SV.bX O V [.mp X,.int .i64 (.c k),.int .i64 c,.ref Z])=.mapIter (some (ad V X)) (c.den O).toNat ((Z.rv O).rows.map ll).toArray (c.den O).toNat:=by
 simp[iS,rU,qr,pj,SV.bX,SV.eD,SV.den,acE]
def aod(R:ap g B D f.ty V O s a W)(L:fz P f.ty){m:OM}(J:m.o.op=.range U l)(I:a.eval l=(s.ev f.gl l).den O V)(h:MD f m.o.dst s U (s.ev f.gl l)=some G):
  ∃v X Q,oz P m.o a W v X/\ap g B D f.ty Q O G (a.put m.o.dst v) X/\ba s O V G O Q:=by
 unfold MD at h;split at h;rename_i k e n b ae q i H F;have E:P.underlying U=some (.map k e):=(L _ _ H).desc;split at h;rename_i te ab;split at h;rename_i c C;split at h;rename_i N;simp only[ayz] at N;obtain⟨⟨A,z⟩,y⟩:=N;cases h;obtain⟨Z,w,u⟩:=aoc R C;have r:SV.ck s.ni s.nb s.rs.length (aE s.boxes) [.mp i,.int .i64 (.c (U:Int)),.int .i64 c,.ref (.k (.slice none 0 0))]=true:=by
  simp[SV.eU,SV.aL,RE.aL,IE.aL,y,z]
 obtain⟨M,p⟩:=R.tW A (t:=rU) r;rw[Jq,<-u] at M;have j:=run_range_map (P:=P) W U k e (ad V i) _ _ E w;refine⟨.pointer (some ⟨W.heap.size,0,none⟩),W.alloc (.mapIter (some (ad V i)) Z.length #[] Z.length),V++[W.heap.size],.inl ?_, ?_,p.put _ _⟩;simp only[execOp,J,I,F,SV.den,Sem.run_bind,j,Result.andThen_ok,Sem.run_pure];have:=M.put m.o.dst (.loc s.boxes.length 0);have d:ad (V++[W.heap.size]) s.boxes.length=W.heap.size:=by simp[ad,<-R.dS]
 rw[SV.den,d] at this;simpa[RE.rv] using this;cases h;cases h;cases h;cases h
def U8:∀{l:List (Value×Value)}{m:Nat}{e:MapEntry},e∈dO m l->∃(j:Nat)(p:Value×Value),l[j]?=some p/\e=⟨p.1,p.2,m+j⟩
 |[],m,e,h=>by simp[dO] at h
 |x::r,m,e,h=>by
  simp only[dO,ayK] at h;rcases h with rfl|h;exact⟨0,x,rfl,rfl⟩;obtain⟨j,p,Z,X⟩:=U8 h;exact⟨j+1,p,by simpa using Z,by rw[X];congr 1;omega⟩
def U9:∀{l:List (Value×Value)}{m j:Nat}{p:Value×Value},l[j]?=some p->(⟨p.1,p.2,m+j⟩:MapEntry)∈dO m l
 |[],m,j,p,h=>by simp at h
 |x::r,m,0,p,h=>by simp at h;subst h;simp[dO]
 |x::r,m,j+1,p,h=>by
  have:=U9 (m:=m+1) (l:=r) (j:=j) (p:=p) (by simpa using h);simp only[dO,ayK];right
  rwa [show m+(j+1)=m+1+j by omega]
def adH:∀(n:Nat)(l:List Nat),(∀j,j<n->j∈l)->n<=l.length
 |0,_,_=>aAq _
 |n+1,l,h=>by
  have Z:=h n (by omega);have:=adH n (l.erase n) (λj X=>(aBc (by omega)).2 (h j (by omega)));rw[aAW Z] at this;have:0<l.length:=aBO Z;omega
def FC(X:Cm f=true):aV f.ty (.mr (sa f))=[.int .i64]:=by
 simp only[Cm,ayz,aBx] at X;obtain⟨Z,R⟩:=X;unfold oa at Z;split at Z;rename_i tk Q;simp only[ayz,beq_iff_eq] at Z;obtain⟨c,U⟩:=ay5.1 Z.1.1;have:=Z.1.2;rw[U] at this;simp only[aAv,List.all_nil,aAn] at this;unfold TR at this;split at this;simp[aV,sa,Q,R,U];cases this;cases Z
def Va(X:Cm f=true)(h:CF f.ty (sa f) x):∃Z,x=[.mk (.int .i64 Z) []]:=by
 have U:=h.len;rw[FC X] at U;obtain⟨c,rfl⟩:=ay5.1 U;obtain⟨Z,R⟩:=h.int 0 c .i64 rfl (by rw[FC X];rfl);exact⟨Z,by rw[R]⟩
def aoe(U:Cm f=true)(x:Int):CF f.ty (sa f) [.mk (.int .i64 x) []]:=by
 refine⟨by rw[FC U];rfl,λj c k X Z=> ?_,λj c X Z=> ?_⟩;rw[FC U] at Z;cases j with
 |zero=>simp at X Z;subst X Z;exact⟨x,rfl⟩
 |succ j=>simp at X
 rw[FC U] at Z;cases j with
 |zero=>simp at Z
 |succ j=>simp at X
def Nu{r:RE}{H:IE}{X:List RV}(N:(r.rv O).rows[(H.den O).toNat]?=some X):∀{ae:List CT}{j:Nat},ae.all jx=true->X.length=j+ae.length->
  (∀(i:Nat)(k:IntKind),ae[i]?=some (.int k)->∃m,X[j+i]?=some (.mk (.int k m) []))->(∀(i:Nat),ae[i]?=some .bool->∃m,X[j+i]?=some (.mk (.bool m) []))->
  SV.au O V (po r H j ae)=(X.drop j).map RV.val
 |[],j,_,U,_,_=>by rw[aA0 (by simp at U;omega)];rfl
 |.int k::ae,j,R,U,M,L=>by
  obtain⟨m,Z⟩:=M 0 k rfl;have J:=Nu N (ae:=ae) (j:=j+1) (by simpa[jx] using R) (by simp at U⊢;omega) (λi k h=>by have:=M (i+1) k (by simpa using h);rwa [show j+(i+1)=j+1+i by omega] at this) (λi h=>by have:=L (i+1) (by simpa using h);rwa [show j+(i+1)=j+1+i by omega] at this);have I:X.drop j=.mk (.int k m) []::X.drop (j+1):=by
   rw[azU] at Z;have Q:=(ayA.1 Z).1;rw[azx Q];congr 1;rw[ayB Q] at Z;simpa using Z
  rw[azU] at Z;simp only[po,zL,SV.au,SV.den,IE.den,cellAt,J,I,ayO,RV.ji,ayC,N,Z,azf,bc]
 |.bool::ae,j,R,U,M,L=>by
  obtain⟨m,Z⟩:=L 0 rfl;have J:=Nu N (ae:=ae) (j:=j+1) (by simpa[jx] using R) (by simp at U⊢;omega) (λi k h=>by have:=M (i+1) k (by simpa using h);rwa [show j+(i+1)=j+1+i by omega] at this) (λi h=>by have:=L (i+1) (by simpa using h);rwa [show j+(i+1)=j+1+i by omega] at this);have I:X.drop j=.mk (.bool m) []::X.drop (j+1):=by
   rw[azU] at Z;have Q:=(ayA.1 Z).1;rw[azx Q];congr 1;rw[ayB Q] at Z;simpa using Z
  rw[azU] at Z;simp only[po,zL,SV.au,SV.den,BE.den,cellAt,J,I,ayO,RV.ji,ayC,N,Z,azf,gv]
 |.ax _ _::ae,j,R,_,_,_=>by simp[jx] at R
def Vb{r:RE}{Z:IE}:∀{ae:List CT}{j:Nat},(po r Z j ae).length=ae.length
 |[],j=>rfl
 |c::ae,j=>by simp[po,Vb (ae:=ae)]
def adI{r:RE}{U:IE}(L:(r.rv O).rows[(U.den O).toNat]?=some x)(R:M=false->X=1)(J:z7 X x):(EO r U X M).den O V=mG M (x.take X):=by
 obtain⟨l,I,Q⟩:=J;have H:(x.take X).length=X:=by rw[Q];simpa using I
 have G:SV.au O V ((ayQ X).map λj=>.int .i64 (.cell r U j))=(x.take X).map RV.val:=by
  rw[lj,azo];apply ay3;intro j;rw[ayF,ayF];by_cases N:j<X;rw[azM N];have F:j<l.length:=by omega
  have Z:(x.take X)[j]?=some (.mk (.int .i64 l[j]) []):=by rw[Q,ayF,ayB F];rfl
  have E:x[j]?=some (.mk (.int .i64 l[j]) []):=by rw[ay7,if_pos N] at Z;exact Z
  simp[Z,SV.den,IE.den,cellAt,L,E,bc];rw[ayX (by simp;omega),ayX (by omega)];rfl
 rw[EO,ya (λC=>by simpa using R C),G,mG];cases M;obtain⟨c,Z⟩:=ay5.1 (H.trans (R rfl));rw[Z];rfl;rfl
def aof{rs:RE}{je:IE}(R:je.den O=k)(h:∀X∈(rs.rv O).rows,∀x,X=[.mk (.int .i64 x) []]->x≠k)(U:∀X∈(rs.rv O).rows,∃x,X=[RV.mk (.int .i64 x) []]):(ME rs je).den O=true/\∀r∈(rs.rv O).rows,jl 1 [k] r=false:=by
 have Q:∀r∈(rs.rv O).rows,∀b c,jl 1 [k,b,c] r=false:=by
  intro r Z b c;obtain⟨x,rfl⟩:=U r Z;have:=h _ Z x rfl;simp[jl,bc,this]
 constructor;simp only[ME,BE.den,R,IE.den,ayS,fY];rw[List.find?_eq_none.2 (λr Z=>by simp[Q r Z])];rfl;intro r Z;obtain⟨x,rfl⟩:=U r Z;have:=h _ Z x rfl;simp[jl,bc,this]
def adJ(L:Cm f=true)(R:ap g B D f.ty V O s a W)(G:s.bd=true){d:Option Nat}{t:Nat}{c:IE}{Z:RE}(F:bD s.boxes X=some (rU,[.mp I,.int .i64 (.c (t:Int)),.int .i64 c,.ref Z]))(bA:Z.my f.ty s (sa f)=true)
  {U:IE}{j:Nat}(E:U.den O=j)(o:¬((Z.rv O).rows.map ll).contains j=true){kv v:SV}{key val:Value}
  (n:∀J,kv.den (O.add (.r J)) V=key)(m:∀J,v.den (O.add (.r J)) V=val):
  (ME Z U).den O=true/\ap g B D f.ty V (O.add (.r (eK (.ins (.ref Z) 1 [.int .i64 U]) O))) (TZ f d s X s.ni I t c kv v) (a.put d (.tuple #[.bool true,key,val])) (W.putObj (ad V X) (.mapIter (some (ad V I)) (c.den O).toNat (((Z.rv O).rows.map ll).toArray.push j) (c.den O).toNat)):=by
 have C:=CG R bA;have l:∀N∈(Z.rv O).rows,∃x,N=[RV.mk (.int .i64 x) []]:=λN M=>Va L (C N M)
 obtain⟨k,b⟩:=aof (O:=O) (rs:=Z) (je:=U) E (λN M x Q=>by
  intro e;apply o;simp only[aza,ay1];refine⟨N,M, ?_⟩;subst Q;simp[ll,bc,e]) l
 refine⟨k, ?_⟩;have hh:aW W f.ty (.mr (sa f)) (eK (.ins (.ref Z) 1 [.int .i64 U]) O):=by
  refine adD (λN A=> ?_) (λx Q=>by rw[FC L] at Q;simp at Q;subst Q;rfl);simp only[LE.rows,ayO,azT,SV.bu] at A;rcases U5 A with rfl|h;exact aoe L _;exact C N h
 have ab:(eK (.ins (.ref Z) 1 [.int .i64 U]) O).rows=(Z.rv O).rows++[[.mk (.int .i64 j) []]]:=by
  simp only[eK,RV.jk,LE.rows,ayO,azT,SV.bu,E];refine adE λr M=> ?_
  simpa[bc] using b r M
 have R1:=R.adC G hh;have af:∀z y w,iS rU (SV.bX (O.add (.r (eK (.ins (.ref Z) 1 [.int .i64 U]) O))) V [.mp I,.int .i64 (.c (t:Int)),.int .i64 c,.ref Z])≠ .cells z y w:=by
  intro z y w Q;rw[Jq] at Q;cases Q
 have H:=R1.U4 (cs':=[.mp I,.int .i64 (.c (t:Int)),.int .i64 c,.ref (.v s.rs.length)]) (i:=X) F af;have ag:(RE.v s.rs.length).rv (O.add (.r (eK (.ins (.ref Z) 1 [.int .i64 U]) O)))=eK (.ins (.ref Z) 1 [.int .i64 U]) O:=by
  simp[RE.rv,aa.rv,aa.add,<-R.er]
 obtain⟨a3,al⟩:=R.ue G;have u:=ot al F;simp only[SV.eU,SV.aL,ayz] at u;have an:c.den (O.add (.r (eK (.ins (.ref Z) 1 [.int .i64 U]) O)))=c.den O:=IE.cn (nl s.boxes O (.r (eK (.ins (.ref Z) 1 [.int .i64 U]) O)) V).agree _ u.2.2.1;rw[Jq,ag,ab,an] at H;have a0:((Z.rv O).rows++[[RV.mk (.int .i64 (j:Int)) []]]).map ll=(Z.rv O).rows.map ll++[j]:=by simp[ll,bc]
 rw[a0] at H;have p:=H.put d (.bh [.bool (.c true),kv,v]);have a1:(SV.bh [.bool (.c true),kv,v]).den (O.add (.r (eK (.ins (.ref Z) 1 [.int .i64 U]) O))) V=.tuple #[.bool true,key,val]:=by
  simp only[SV.den,SV.au,n,m,BE.den]
 rw[a1] at p;have a2:((Z.rv O).rows.map ll).toArray.push j=((Z.rv O).rows.map ll++[j]).toArray:=by simp
 rw[a2];exact p
def adK{Z:Type}:∀{l:List Z}{m j:Nat},cJ ((m+j:Nat):Int) ((azW m l.length).map λ(i:Nat)=>(i:Int)) l=l[j]?
 |[],m,j=>by simp[cJ]
 |x::l,m,j=>by
  simp only[azn,aAI,ayO,cJ];cases j with
  |zero=>simp
  |succ j=>
   rw[if_neg (by omega),show m+(j+1)=m+1+j by omega,adK];simp
def adL{Z:Type}{l:List Z}(h:X=l.length):cJ (I:Int) (xJ X) l=l[I]?:=by
 have:=adK (l:=l) (m:=0) (j:=I);rw[ay9] at this;rw[xJ,h,aAo];exact this
def aog(h:b.den J V=b.den O V):SV.au J V b.cells=SV.au O V b.cells:=by
 cases b
 case agg l=>simp only[SV.den,Value.agg.injEq] at h;simpa[SV.cells] using h
 all_goals simp only[SV.cells,SV.au,h]
def adM(R:ap g B D f.ty V O s a W){Z:TI}(L:cS P U Z){x:IE}{v:SV}(h:MF Z x E Q=some (b,v))(J:E.length=Q.length){O':aa}{j:Nat}(X:x.den O'=j){u:SV}(I:E[j]?=some k)(N:Q[j]?=some u)(H:u.den O' V=u.den O V):
  b.den O' V=.int .i64 k/\v.den O' V=u.den O V:=by
 unfold MF at h;split at h;rename_i G;split at h;rename_i y l F C;cases h;constructor;obtain⟨w,A,t,-⟩:=Uy (O:=O') F;obtain⟨i,z,r,rfl⟩:=t (.int .i64 (.c k)) (by rw[X,adL (by simp),ayF,I];rfl);cases r;simp only[SV.den,A,IE.den];obtain⟨q,p,s2⟩:=M6 (O:=O') (V:=V) C;have M:=ayM.1 G u (ayW N);have o:u.cells.length=0+Z.ae.length:=by
  simp only[vA,ayz,beq_iff_eq] at M;omega
 have n:Z.d.isAgg=false->l.length=1:=λm=>by rw[q];exact vS L m
 rw[ya n,p u.cells (by rw[X,adL (by simp[J]),ayF,N];rfl) o,aBS,aog H,M8 (qH R) M];cases h;cases h
def adN:∀{l:List (Value×Value)}{m:Nat},(dO m l).map (·.born)=azW m l.length
 |[],m=>rfl
 |x::r,m=>by simp[dO,adN (l:=r),aAI]
def aoh{p:Sp}(hP:p.P=P)(R:ap g B D f.ty V O s a W)(al:fz P f.ty){m:OM}(ho:m.o.op=.next l false)(he:a.eval l=(s.ev f.gl l).den O V){bb a6:S->T}{t:T}(h:T1 f m.o.dst s (s.ev f.gl l) bb a6=some t)(hs:t.aH p O r):
  ∃v W' F E,oz P m.o a W v W'/\ap g B D f.ty V F E (a.put m.o.dst v) W'/\ba s O V E F V/\((F=O/\(a6 E).aH p O r)\/(bb E).aH p F r):=by
 unfold T1 at h;split at h;rename_i q hx;split at h;rename_i bt i tz c H w;split at h;cases h;rename_i b2;simp only[ayS,az4,ayz,beq_iff_eq,decide_eq_true_eq] at b2;obtain⟨⟨⟨⟨⟨rfl,bf⟩,bA⟩,hb⟩,b3⟩,dy⟩:=b2;obtain⟨tn,rfl⟩:∃tn:Nat,tz=(tn:Int):=⟨tz.toNat,by omega⟩;simp only[azN] at h;have bg:=R.mem.box _ _ _ w;rw[Jq] at bg;have cx:=CG R bA;have dz:∀J∈(H.rv O).rows,∃l,J=[RV.mk (.int .i64 l) []]:=λJ A=>Va bf (cx J A)
 obtain⟨dT,bk⟩:=R.ue hb;split at h;rename_i k e n ag ae qq d0 cy b4 b5;have hd:P.underlying tn=some (.map k e):=(al _ _ b4).desc;have hK:pD P k n ag:=(al _ _ b4).key k e n ag rfl;split at h;rename_i M an;split at h;cases h;rename_i a7;have a7:oa f.ty k n ag=true:=by simpa using a7
 have a0:=R.mem.box _ _ _ b5;have a8:=ot bk b5;have model:∀(Z:List (Value×Value)),W.heap[ad V i]?=some (lQ Z)->(Z.length:Int)=c.den O->
   (c.den O<=lenOf (H.rv O).val/\oz P m.o a W (.tuple #[.bool false]) W)\/
   ∃(j:Nat)(kv:Value×Value)(I:World),Z[j]?=some kv/\¬((H.rv O).rows.map ll).contains j=true/\(I=W\/I=W.drew)/\oz P m.o a W (.tuple #[.bool true,kv.1,kv.2]) (I.putObj (ad V q) (.mapIter (some (ad V i)) (c.den O).toNat (((H.rv O).rows.map ll).toArray.push j) (c.den O).toNat)):=by
  intro Z hl bl;have hN:(c.den O).toNat=Z.length:=by omega
  rw[hN] at bg⊢;rcases run_next_at (P:=P) W m.o.type (ad V q) (ad V i) Z.length Z.length _ _ _ bg hl (λy hy=>by
   obtain⟨j,p,h1,h2⟩:=U8 (by simpa using hy);rw[h2];have:=(ayA.1 h1).1;simpa using this) (ayH _) with⟨h0,A⟩|⟨en,bo,I,cI,A⟩
  left;refine⟨?_,.inl ?_⟩;rw[FB R bA,<-bl];have:=adH Z.length ((H.rv O).rows.map ll) (λj hj=>by
   cases G:((H.rv O).rows.map ll).contains j with
   |true=>exact aza.1 G
   |false=>
    exfalso;have c0:=U9 (m:=0) (ayB hj);have:(⟨(Z[j]).1,(Z[j]).2,0+j⟩:MapEntry)∈(leftOf (dO 0 Z).toArray ((H.rv O).rows.map ll).toArray):=by
     unfold leftOf;rw[aCk];refine⟨by simpa using c0, ?_⟩;simp only[ay9,ayS];rw[<-G];simp
    have d1:=Array.size_pos_of_mem this;omega)
  simpa using this;simp only[execOp,ho,he,hx,SV.den,Sem.run_bind,A,Result.andThen_ok,Sem.run_pure];right;unfold leftOf at bo;rw[Array.mem_toList_iff,aCk] at bo;obtain⟨c2,b6⟩:=bo;obtain⟨j,kv,hj,rfl⟩:=U8 (by simpa using c2);simp only[ay9] at b6 A;refine⟨j,kv,I,hj, ?_,cI,.inl ?_⟩;simpa using b6;simp only[execOp,ho,he,hx,SV.den,Sem.run_bind,A,Result.andThen_ok,Sem.run_pure,aoa]
 have b7:(W=W)->(c.den O<=lenOf (H.rv O).val)->oz P m.o a W (.tuple #[.bool false]) W->(a6 (s.put m.o.dst (.bh [.bool (.c false)]))).aH p O r->∃v W' F E,oz P m.o a W v W'/\ap g B D f.ty V F E (a.put m.o.dst v) W'/\ba s O V E F V/\((F=O/\(a6 E).aH p O r)\/(bb E).aH p F r):=by
  intro _ _ c3 c4;have:=R.put m.o.dst (.bh [.bool (.c false)]);exact⟨_,W,O,_,c3,this,(ba.refl _ _ _).put _ _,.inl ⟨rfl,c4⟩⟩
 have b8:∀I,(I=W\/I=W.drew)->ap g B D f.ty V O s a I:=by
  rintro I (rfl|rfl);exact R;exact R.drew
 split at h
 
 rename_i eW;simp only[beq_iff_eq] at eW;subst eW;split at h;rename_i X A;split at h;rename_i a9;simp only[ayz] at a9;cases h;obtain⟨rfl,c1,c5⟩:=Ns A;rw[z8] at a0;have bZ:c.den O=((X.rv O).rows.length:Int):=by
  have:=IE.bi _ _ a9.1;rw[this,IE.den,FB R c1]
 have ca:=CG R c1;simp only[MG,T.aH] at hs;rcases model _ a0 (by rw[bZ];simp) with⟨Q,g2⟩|⟨j,kv,I,Q,g2,g3,g4⟩;exact b7 rfl Q g2 (hs.2 (decide_eq_true Q))
 ·rw[ayF] at Q;cases a3:(X.rv O).rows[j]? with
  |none=>rw[a3] at Q;cases Q
  |some J=>
  rw[a3] at Q;simp only[ayI,ayE] at Q;have c6:=(ayA.1 a3).1;have cc:=ayW a3;have c7:=Fj a7 an (ca J cc);have br:=hs.1 (j:Int) (by omega) (by omega);have R1:=(b8 I g3).adB hb (j:Int);have ab:=(nl s.boxes O (.i (j:Int)) V).agree;simp only[SV.eU,SV.aL,ayz] at a8;have af:=ot bk w;simp only[SV.eU,SV.aL,ayz] at af;have a4:H.rv (O.add (.i (j:Int)))=H.rv O:=RE.nh ab _ af.2.2.2.1;have bs:c.den (O.add (.i (j:Int)))=c.den O:=IE.cn ab _ af.2.2.1;have a5:(IE.v s.ni).den (O.add (.i (j:Int)))=(j:Int):=by simp[IE.den,aa.add,<-R.ei]
  have c8:∀U,(IE.v s.ni).den ((O.add (.i (j:Int))).add (.r U))=(j:Int):=λU=>a5
  have c9:∀U,X.rv ((O.add (.i (j:Int))).add (.r U))=X.rv O:=λU=>by
   have a1:=RE.nh ab _ a8.1;have bx:=(nl s.boxes (O.add (.i (j:Int))) (.r U) V).agree;have a2:=RE.nh (bx.mono (by simp[aa.add]) (ayH _) (ayH _)) X a8.1;rw[a2,a1]
  have ch:∀U,(X.rv ((O.add (.i (j:Int))).add (.r U))).rows[((IE.v s.ni).den ((O.add (.i (j:Int))).add (.r U))).toNat]?=some J:=λU=>by
   rw[c9,c8];simpa using a3
  obtain⟨kc,r1,r2,r3⟩:=Fi (va:=M.d.isAgg) a7 an;have b0:=ca J cc;have bl:J.length=n+M.ae.length:=by rw[b0.len,r1,ayN,r2]
  have cl:∀(N:Nat)(ct:CT),M.ae[N]?=some ct->(aV f.ty (.mr ⟨k,e,n,ag,M.d.isAgg⟩))[n+N]?=some ct:=λN ct C=>by
   rw[r1,ayG (by omega),r2,show n+N-n=N by omega];exact C
  have cp:∀(N:Nat)(ct:CT),M.ae[N]?=some ct->∃c,J[n+N]?=some c:=λN ct C=>by
   have:N<M.ae.length:=(ayA.1 C).1;exact⟨J[n+N]'(by omega),ayB _⟩
  have dc:M.d.isAgg=false->(po X (.v s.ni) n M.ae).length=1:=λha=>by rw[Vb];exact vS (al _ _ an) ha
  have dd:∀U,(n9 M.d.isAgg (po X (.v s.ni) n M.ae)).den ((O.add (.i (j:Int))).add (.r U)) V=mG M.d.isAgg (J.drop n):=λU=>by
   rw[ya dc,Nu (ch U) c5 bl (λN kk C=>by
    obtain⟨c,G⟩:=cp N _ C;obtain⟨x',b1⟩:=b0.int (n+N) c kk G (cl N _ C);exact⟨x',by rw[G,b1]⟩) (λN C=>by
    obtain⟨c,G⟩:=cp N _ C;obtain⟨x',b1⟩:=b0.bool (n+N) c G (cl N _ C);exact⟨x',by rw[G,b1]⟩),mG]
   cases df:M.d.isAgg;have h1:=vS (al _ _ an) df;obtain⟨c,G⟩:=ay5.1 (show(J.drop n).length=1 by simp;omega);rw[G];rfl;rfl
  obtain⟨u1,u2⟩:=adJ (d:=m.o.dst) (s:={s with ni:=s.ni+1}) (kv:=EO X (.v s.ni) n ag) (v:=n9 M.d.isAgg (po X (.v s.ni) n M.ae)) (key:=mG ag (J.take n)) (val:=mG M.d.isAgg (J.drop n)) bf R1 b3 w (by simpa only[RE.my,U7] using bA) a5 (by rw[a4];exact g2) (λU=>adI (ch U) hK.1 c7) dd;rw[a4,bs] at u2;subst Q;refine⟨_,_,_,_,g4,u2, ?_,.inr ?_⟩;refine ba.put (s:=s) (s':={s with ni:=s.ni+1,rs:=s.rs++[RK.mr (sa f)],boxes:=s.boxes.set q _}) ⟨(nl s.boxes O (.i (j:Int)) V).trans (nl s.boxes _ _ V) (λ_ h=>h),λj hj=>(lp (ayA.1 (gg.1 w)).1).2 (.inr hj),by simp,ayH _⟩ _ _;exact br u1
 cases h;cases h;split at h
 
 rename_i eW;simp only[ayz,beq_iff_eq,ayS] at eW;obtain⟨⟨rfl,rfl⟩,rfl⟩:=eW;split at h;rename_i ks dk;split at h;rename_i a9;split at h;rename_i dn v0 dr;cases h;rw[Aa] at a0;obtain⟨p1,p2⟩:=Fk (O:=O) (V:=V) dk;rw[p1] at a0;have bZ:c.den O=(ks.length:Int):=by
  have:=IE.bi _ _ a9;rw[this,IE.den]
 simp only[MG,T.aH] at hs;rcases model _ a0 (by rw[bZ];simp[p2]) with⟨Q,g2⟩|⟨j,kv,I,Q,g2,g3,g4⟩;exact b7 rfl Q g2 (hs.2 (decide_eq_true Q))
 ·rw[ayF] at Q;cases hz:(ks.zip (jc cy))[j]? with
  |none=>rw[hz] at Q;cases Q
  |some kp=>
  rw[hz] at Q;simp only[ayI,ayE] at Q;obtain⟨z1,z2⟩:=aAT.1 hz;have ds:∀{Z:List SV}{jj:Nat}{u:SV},SV.ck O.i.length O.b.length O.r.length (aE s.boxes) Z=true->(jc Z)[jj]?=some u->u.bd O.i.length O.b.length O.r.length (aE s.boxes)=true:=by
   intro Z;induction Z using jc.induct with
   |case1 k v X ih=>
    intro jj u bU z;simp only[SV.eU,ayz] at bU;simp only[jc] at z;cases jj with
    |zero=>simp at z;subst z;exact bU.2.1
    |succ jj=>exact ih bU.2.2 (by simpa using z)
   |case2 Z h1=>
    intro jj u bU z;unfold jc at z;split at z;exact absurd rfl (h1 _ _ _);simp at z
  have c6:j<ks.length:=(ayA.1 z1).1;have br:=hs.1 (j:Int) (by omega) (by omega);have R1:=(b8 I g3).adB hb (j:Int);have ab:=(nl s.boxes O (.i (j:Int)) V).agree;have af:=ot bk w;simp only[SV.eU,SV.aL,ayz] at af;have a4:H.rv (O.add (.i (j:Int)))=H.rv O:=RE.nh ab _ af.2.2.2.1;have bs:c.den (O.add (.i (j:Int)))=c.den O:=IE.cn ab _ af.2.2.1;have a5:(IE.v s.ni).den (O.add (.i (j:Int)))=(j:Int):=by simp[IE.den,aa.add,<-R.ei]
  have cs:=ds a8 z2;have dx:∀U,kp.2.den ((O.add (.i (j:Int))).add (.r U)) V=kp.2.den O V:=λU=>by
   have bx:=(nl s.boxes (O.add (.i (j:Int))) (.r U) V).agree;rw[SV.cn (bx.mono (by simp[aa.add]) (ayH _) (ayH _)) (λ_ _=>rfl) _ cs,SV.cn ab (λ_ _=>rfl) _ cs]
  have cv:=λU=>adM R (al _ _ an) dr p2 (O':=(O.add (.i (j:Int))).add (.r U)) (j:=j) a5 z1 z2 (dx U)
  obtain⟨u1,u2⟩:=adJ (d:=m.o.dst) (s:={s with ni:=s.ni+1}) (kv:=dn) (v:=v0) (key:=.int .i64 kp.1) (val:=kp.2.den O V) bf R1 b3 w (by simpa only[RE.my,U7] using bA) a5 (by rw[a4];exact g2) (λU=>(cv U).1) (λU=>(cv U).2);rw[a4,bs] at u2;subst Q;refine⟨_,_,_,_,g4,u2, ?_,.inr ?_⟩;refine ba.put (s:=s) (s':={s with ni:=s.ni+1,rs:=s.rs++[RK.mr (sa f)],boxes:=s.boxes.set q _}) ⟨(nl s.boxes O (.i (j:Int)) V).trans (nl s.boxes _ _ V) (λ_ h=>h),λj hj=>(lp (ayA.1 (gg.1 w)).1).2 (.inr hj),by simp,ayH _⟩ _ _;exact br u1
 cases h;cases h;cases h;cases h;cases h;cases h;cases h;cases h
def aoi{p:Sp}(R:ap g B D f.ty V O s a W)(C:fz P f.ty){m:OM}(ho:m.o.op=.entry l)(he:a.eval l=(s.ev f.gl l).den O V){a6:S->T}{t:T}(h:T3 f m.o.dst s (s.ev f.gl l) a6=some t)(G:t.aH p O r):
  ∃v s',oz P m.o a W v W/\ap g B D f.ty V O s' (a.put m.o.dst v) W/\ba s O V s' O V/\(a6 s').aH p O r:=by
 unfold T3 at h;split at h;rename_i q hx;split at h;rename_i bt i tz c Q hq;split at h;cases h;rename_i a7;simp only[ayS,az4,ayz,beq_iff_eq,decide_eq_true_eq] at a7;obtain⟨⟨⟨⟨rfl,bs⟩,bA⟩,hb⟩,cv⟩:=a7;obtain⟨tn,rfl⟩:∃tn:Nat,tz=(tn:Int):=⟨tz.toNat,by omega⟩;simp only[azN] at h;have af:=R.mem.box _ _ _ hq;rw[Jq] at af;have bx:=CG R bA;have model:∀(Z:List (Value×Value)),W.heap[ad V i]?=some (lQ Z)->(Z.length:Int)=c.den O->(T2 c Q).den O=true->
   ∃(j:Nat)(A:Value×Value),Z[j]?=some A/\(qA Q).den O=j/\oz P m.o a W (.tuple #[A.1,A.2]) W:=by
  intro Z hl a8 b0;obtain⟨a1,b1⟩:=vY b0;obtain⟨a1,b2⟩:=vY a1;have y:=ui a1;have h2:=Nk b2;obtain⟨h3,h4⟩:=vY b1;have h3:=ui h3;rw[xZ] at h4;have h4:(qA Q).den O<c.den O:=by simpa[ey] using h4
  simp only[IE.den] at y h2 h3;rw[FB R bA] at y h2;have hN:(c.den O).toNat=Z.length:=by omega
  rw[hN] at af;obtain⟨w,a2,al⟩:∃w a2,(Q.rv O).rows=w++[a2]:=⟨_,_,(List.dropLast_concat_getLast (by intro e;rw[e] at y;simp at y)).symm⟩;obtain⟨z,F⟩:=Va bs (bx a2 (by rw[al];simp));have b3:IntKind.i64.wrap (((Q.rv O).rows.length:Int)-1)=((Q.rv O).rows.length:Int)-1:=by
   simp[IntKind.wrap,IntKind.bits,IntKind.signed];omega
  have a9:(qA Q).den O=z:=by
   simp only[qA,IE.den,aP,FB R bA,b3,cellAt];have:(((Q.rv O).rows.length:Int)-1).toNat=w.length:=by rw[al];simp
   rw[this,al,F];simp[ayC,bc]
  rw[a9] at h3 h4;obtain⟨j,rfl⟩:∃j:Nat,z=(j:Int):=⟨z.toNat,by omega⟩;have bb:j<Z.length:=by omega
  refine⟨j,Z[j],ayB bb,a9,.inl ?_⟩;have b4:((Q.rv O).rows.map ll).toArray=((w.map ll).toArray).push j:=by
   rw[al,F];simp[ll,bc]
  rw[b4] at af;have bd:=U9 (m:=0) (ayB bb);rw[ay9] at bd;have hr:=run_entry_at (P:=P) W (ad V q) (ad V i) Z.length ((w.map ll).toArray) (dO 0 Z).toArray Z.length ⟨(Z[j]).1,(Z[j]).2,j⟩ af hl (by simpa using bd) (by
   simp only[adN];exact List.nodup_range' ..)
  simp only[execOp,ho,he,hx,SV.den,Sem.run_bind,hr,Result.andThen_ok,Sem.run_pure]
 split at h;rename_i k e n u ae qq cx b5 bf b6;have hd:P.underlying tn=some (.map k e):=(C _ _ bf).desc;have hK:pD P k n u:=(C _ _ bf).key k e n u rfl;split at h;rename_i N b;split at h;cases h;rename_i an;have an:oa f.ty k n u=true:=by simpa using an
 have ab:=R.mem.box _ _ _ b6;split at h;rename_i eW;simp only[beq_iff_eq] at eW;subst eW;split at h;rename_i X hr;split at h
 ·rename_i a3;cases h;obtain⟨rfl,c1,c5⟩:=Ns hr;rw[z8] at ab;have bZ:c.den O=((X.rv O).rows.length:Int):=by
   have:=IE.bi _ _ a3;rw[this,IE.den,FB R c1]
  have bg:=CG R c1;obtain⟨hn,G⟩:=G;obtain⟨j,A,M,g2,g3⟩:=model _ ab (by rw[bZ];simp) hn;rw[ayF] at M;cases a0:(X.rv O).rows[j]? with
  |none=>rw[a0] at M;cases M
  |some I=>
  rw[a0] at M;simp only[ayI,ayE] at M;have bk:=ayW a0;have b7:=Fj an b (bg I bk);have bl:(X.rv O).rows[((qA Q).den O).toNat]?=some I:=by rw[g2];simpa using a0
  obtain⟨kc,r1,r2,r3⟩:=Fi (va:=N.d.isAgg) an b;have a4:=bg I bk;have a8:I.length=n+N.ae.length:=by rw[a4.len,r1,ayN,r2]
  have bo:∀(U:Nat)(E:CT),N.ae[U]?=some E->(aV f.ty (.mr ⟨k,e,n,u,N.d.isAgg⟩))[n+U]?=some E:=λU E J=>by
   rw[r1,ayG (by omega),r2,show n+U-n=U by omega];exact J
  have br:∀(U:Nat)(E:CT),N.ae[U]?=some E->∃c,I[n+U]?=some c:=λU E J=>by
   have:U<N.ae.length:=(ayA.1 J).1;exact⟨I[n+U]'(by omega),ayB _⟩
  have b8:N.d.isAgg=false->(po X (qA Q) n N.ae).length=1:=λha=>by rw[Vb];exact vS (C _ _ b) ha
  have ca:(n9 N.d.isAgg (po X (qA Q) n N.ae)).den O V=mG N.d.isAgg (I.drop n):=by
   rw[ya b8,Nu bl c5 a8 (λU kk J=>by
    obtain⟨c,H⟩:=br U _ J;obtain⟨x',a5⟩:=a4.int (n+U) c kk H (bo U _ J);exact⟨x',by rw[H,a5]⟩) (λU J=>by
    obtain⟨c,H⟩:=br U _ J;obtain⟨x',a5⟩:=a4.bool (n+U) c H (bo U _ J);exact⟨x',by rw[H,a5]⟩),mG]
   cases cc:N.d.isAgg;have y:=vS (C _ _ b) cc;obtain⟨c,H⟩:=ay5.1 (show(I.drop n).length=1 by simp;omega);rw[H];rfl;rfl
  have ch:=adI (V:=V) bl hK.1 b7;have R2:=R.put m.o.dst (.bh [EO X (qA Q) n u,n9 N.d.isAgg (po X (qA Q) n N.ae)]);simp only[SV.den,SV.au,ch,ca] at R2;subst M;exact⟨_,_,g3,R2,(ba.refl _ _ _).put _ _,G⟩
 cases h;cases h;split at h;rename_i eW;simp only[ayz,beq_iff_eq,ayS] at eW;obtain⟨⟨rfl,rfl⟩,rfl⟩:=eW;split at h;rename_i ks cl;split at h;rename_i a3;split at h
 ·rename_i cp v0 cs;cases h;rw[Aa] at ab;obtain⟨p1,p2⟩:=Fk (O:=O) (V:=V) cl;rw[p1] at ab;have bZ:c.den O=(ks.length:Int):=by
   have:=IE.bi _ _ a3;rw[this,IE.den]
  obtain⟨hn,G⟩:=G;obtain⟨j,A,M,g2,g3⟩:=model _ ab (by rw[bZ];simp[p2]) hn;rw[ayF] at M;cases F:(ks.zip (jc b5))[j]? with
  |none=>rw[F] at M;cases M
  |some kp=>
  rw[F] at M;simp only[ayI,ayE] at M;obtain⟨z1,z2⟩:=aAT.1 F;obtain⟨e1,e2⟩:=adM R (C _ _ b) cs p2 (O':=O) g2 z1 z2 rfl;have R2:=R.put m.o.dst (.bh [cp,v0]);simp only[SV.den,SV.au,e1,e2] at R2;subst M;exact⟨_,_,g3,R2,(ba.refl _ _ _).put _ _,G⟩
 cases h;cases h;cases h;cases h;cases h;cases h;cases h;cases h
def adO{p:Sp}(R:ap g B D f.ty V O s a W)(i:fz P f.ty){m:OM}{d:TypeId}{I:BinOp}{y:Operand}(E:m.o.op=.binOp I U l y d)(ab:(I=.eql/\M=false)\/(I=.neq/\M=true))(he:a.eval l=(s.ev f.gl l).den O V)(af:a.eval y=(s.ev f.gl y).den O V){C:S->T}{z:T}(h:MH f m.o.dst s U M (s.ev f.gl l) (s.ev f.gl y) C=some z)(H:z.aH p O r):
  ∃v G,oz P m.o a W v W/\ap g B D f.ty V O G (a.put m.o.dst v) W/\ba s O V G O V/\(C G).aH p O r:=by
 unfold MH at h;split at h;rename_i e ae q Z ht hx hy;split at h;rename_i hk;cases h;have hd:P.underlying U=some (.slice e):=(i _ _ ht).desc;have Q:=nj R (by simp) hk;simp only[T.aH] at H;obtain⟨A,n,c,X⟩:∃A n c,Z.den O=.slice A n c:=by
  have:∃A n c,(Z.rv O).val=.slice A n c:=by
   generalize Z.rv O=J at Q;cases Q;exact⟨_,_,_,rfl⟩
  exact this
 have ag:(IE.len Z).den O=n:=by simp only[IE.den];unfold RE.den at X;rw[X];rfl
 have w:(Op.equal U (.slice A n c) (.slice none 0 0)).run P W=.ok A.isNone W:=by
  have F:Op.equal U (.slice A n c) (.slice none 0 0)=Op.equalIn (9999+1) U (.slice A n c) (.slice none 0 0):=rfl;rw[F,Op.equalIn,Sem.run_bind,cS.eE hd,Result.andThen_ok];cases A<;>rfl
 have u:(execOp a.eval m.o).run P W=.ok (.value (.bool (if M then !A.isNone else A.isNone))) W:=by
  simp only[execOp,E,he,af,hx,hy,SV.den,X];have al:RE.den O (.k (.slice none 0 0))=.slice none 0 0:=rfl;rw[al];rcases ab with⟨rfl,rfl⟩|⟨rfl,rfl⟩;simp[eqGuard,binOp,w];simp[eqGuard,binOp,w]
 cases N:A with
 |none=>
  have hn:n=0:=by
   unfold RE.den at X;have F:∀{J:RV},aW W f.ty (.sl e) J->J.val=.slice A n c->A=none->n=0:=by
    intro J Q X N;cases Q with
    |sl e A' a1 a2 j h1 h2 h3 hi hb E=>
     simp only[RV.ji,Value.slice.injEq] at X;obtain⟨rfl,rfl,rfl⟩:=X;subst N;cases j with
     |nil=>simp at h1;omega
     |cons an j=>
      obtain⟨-,b,a3,a0,-⟩:=h3 0 an rfl;cases a0
   exact F Q X N
  have:=H.2 (by show decide ((IE.len Z).den O<=(IE.c 0).den O)=true;rw[ag,hn];rfl);refine⟨_,_,.inl u, ?_,(ba.refl _ _ _).put _ (.bool (.c (!M))),this⟩;have X:(if M then !A.isNone else A.isNone)= !M:=by rw[N];cases M<;>rfl
  rw[X];exact R.put m.o.dst (.bool (.c (!M)))
 |some A0=>
  have:=H.1 (by simp[BE.den]);refine⟨_,_,.inl u, ?_,(ba.refl _ _ _).put _ (.bool (.c M)),this⟩;have X:(if M then !A.isNone else A.isNone)=M:=by rw[N];cases M<;>rfl
  rw[X];exact R.put m.o.dst (.bool (.c M))
 cases h;cases h
def ap.cells{J:List SV}(R:ap g B D t V O (s.bM X U Q) a W)(H:X<s.boxes.length)(h:SV.bX O V Q=SV.bX O V J):ap g B D t V O (s.bM X U J) a W:=by
 have I:∀j,aE (s.boxes.set X (some (U,J))) j=aE (s.boxes.set X (some (U,Q))) j:=λj=>by
  rw[azJ,lp H,lp H]
 have C:(s.bM X U J).boxes=s.boxes.set X (some (U,J)):=rfl;have M:(s.bM X U Q).boxes=s.boxes.set X (some (U,Q)):=rfl;refine⟨⟨R.mem.base,λj N=>R.mem.own j (by rw[M,<-I];exact N),λj k N A=>R.mem.inj j k (by rw[M,<-I];exact N) (by rw[M,<-I];exact A),λj Z z L=> ?_,λk e G F E=>⟨(R.mem.ref k e G F E).1,λb L j N=>(R.mem.ref k e G F E).2 b L j (by rw[M,<-I];exact N)⟩⟩,by simpa[S.bM] using R.dS,R.ei,R.eb,R.er,R.bY,R.size,R.tmps,λk e G b y x w=> ?_⟩;rw[gg,C] at L;by_cases N:j=X;subst N;rw[azI (by simpa using H)] at L;cases L;rw[<-h];exact R.mem.box j U Q (by rw[gg,M,azI (by simpa using H)]);rw[azc (λe=>N e.symm)] at L;exact R.mem.box j Z z (by rw[gg,M,azc (λe=>N e.symm)];exact L);obtain⟨F,E,v,u,r⟩:=R.dK k e G b y x w;exact⟨F,E,λj N=>v j (by rw[M,<-I];exact N),u,r⟩
def aoj{Z:BE}{y z:SV}(h:T4 Z b y=some z):z.eD O V=if Z.den O then b.eD O V else y.eD O V:=by
 unfold T4 at h;split at h;split at h;rename_i X;subst X;cases h;simp only[SV.eD,SV.den,IE.den];split<;>rfl;cases h;cases h;simp only[SV.eD,SV.den,BE.den];split<;>rfl;cases h
def Jr:∀(X l:List SV)(Z:Nat),SV.bX O V (iD l Z X)=dJ (SV.bX O V l) Z (SV.bX O V X)
 |[],l,Z=>rfl
 |v::X,l,Z=>by
  rw[iD,Jr X (l.set Z v) (Z+1)];simp only[SV.bX,ayO,dJ,aBA]
def adP{b:BE}:∀{Q:List SV}{X:Nat}{Z U:List SV},IM b Q X Z=some U->
  U.length=Z.length/\(Q=[]\/X+Q.length<=Z.length)/\(b.den O=true->SV.bX O V U=SV.bX O V (iD Z X Q))/\(b.den O=false->SV.bX O V U=SV.bX O V Z)
 |[],X,Z,U,h=>by simp only[IM,ayE] at h;subst h;exact⟨rfl,.inl rfl,λ_=>rfl,λ_=>rfl⟩
 |x::z,X,Z,U,h=>by
  simp only[IM] at h;split at h;rename_i H M;split at h;rename_i c G;obtain⟨L,N,F,E⟩:=adP h;have C:X<Z.length:=(ayA.1 M).1;have J:=aoj (O:=O) (V:=V) G;have I:SV.bX O V (Z.set X c)=(SV.bX O V Z).set X (c.eD O V):=by simp[SV.bX,aBA]
  have B:SV.bX O V Z=(SV.bX O V Z).set X (H.eD O V):=by
   apply ay3;intro j;rw[azr];split;rename_i A;subst A;simp[SV.bX,C];have:=ayA.1 M;rw[this.2];rfl
  rw[aBH] at L N;refine⟨L,.inr ?_,λR=> ?_,λR=> ?_⟩;rcases N with rfl|N;simp;omega;simp only[azn];omega;rw[F R,Jr,I,J,if_pos R,Jr];simp only[SV.bX,ayO,dJ];rw[E R,I,J,if_neg (by simp[R]),<-B];cases h;cases h
def adQ{e:IE}{L:List SV}(F:L≠[]):∀{Q:List Int}{N Z X:List SV},Cn e L Q N Z=some X->MI Q=true->
  X.length=Z.length/\(∀v,cJ (e.den O) Q N=some v->∃i M,v=.loc i M/\M+L.length<=Z.length/\SV.bX O V X=SV.bX O V (iD Z M L))/\(¬(e.den O∈Q)->SV.bX O V X=SV.bX O V Z)
 |[],[],Z,X,h,_=>by simp only[Cn,ayE] at h;subst h;exact⟨rfl,λv U=>by simp[cJ] at U,λ_=>rfl⟩
 |[],_::_,Z,X,h,_=>by simp[Cn] at h
 |k::Q,N,Z,X,h,I=>by
  simp only[MI,ayz,ayS] at I;cases N with
  |nil=>simp[Cn] at h
  |cons u N=>
   cases u<;>simp only[Cn] at h<;>try cases h
   rename_i i M;split at h;rename_i o z;obtain⟨y,x,E⟩:=adQ F h I.2;obtain⟨C,H,B,G⟩:=adP (O:=O) (V:=V) z;have H:=H.resolve_left F;simp only[BE.den,IE.den,ey,beq_iff_eq,beq_eq_false_iff_ne,ne_eq] at B G;refine⟨by rw[y,C],λv U=> ?_,λA=> ?_⟩;simp only[cJ] at U;split at U;rename_i R;cases U;refine⟨i,M,rfl,H, ?_⟩;rw[E (λJ=>by
    rw[R] at J;have:=I.1;rw[aza.2 J] at this;cases this),B R]
   rename_i R;obtain⟨w,t,rfl,r,q⟩:=x v U;refine⟨w,t,rfl,by rw[<-C];exact r, ?_⟩;rw[q,Jr,G R,<-Jr];have R:¬e.den O=k:=λp=>A (by simp[p])
   rw[E (λJ=>A (by simp[J])),G R];cases h
def adR(h:IN b=true):b.single=true:=by cases b<;>simp only[IN,ayV] at h<;>rfl
def adS:∀{l:List SV},EP l=true->l≠[]/\zM l=true
 |[],h=>by cases h
 |[x],h=>⟨by simp,by rw[Mt.2,adR h,Mt.1];rfl⟩
 |x::y::r,h=>by
  simp only[EP,ayz] at h;exact⟨by simp,by rw[Mt.2,adR h.1,(adS (l:=y::r) h.2).2];rfl⟩
def aok(h:EP b.cells=true):(b.den O V).cells.toList=SV.au O V b.cells:=by
 cases b
 case agg l=>simp[SV.cells,SV.den,Value.cells]
 all_goals(simp only[SV.cells,EP,IN,ayV] at h)
 all_goals rfl
def aol{P:Program}{p:Sp}(R:ap g B D f.ty V O s a W)(w:fz P f.ty){y:Operand}{I:TI}{e:IE}(q:f.ty U=some I)(n:H.op=.store U l y)(m:a.eval l=(SV.dE e E Q).den O V)(j:a.eval y=(s.ev f.gl y).den O V){k:S->T}{G:T}
  (h:T5 H.dst s I e E Q (s.ev f.gl y) k=some G)(X:G.aH p O r):∃v Z N,oz P H a W v Z/\ap g B D f.ty V O N (a.put H.dst v) Z/\ba s O V N O V/\(k N).aH p O r:=by
 unfold T5 at h;split at h;rename_i i d;split at h;rename_i c cs b;split at h;rename_i ab af;split at h;rename_i F;simp only[ayz,beq_iff_eq] at F;obtain⟨⟨⟨h1,h2⟩,h3⟩,C⟩:=F;cases h;simp only[T.aH] at X;obtain⟨A,X⟩:=X;rw[M7 h2] at A;obtain⟨u,M⟩:=ayT.1 A;obtain⟨ag,al⟩:=adS C;obtain⟨g1,g2,-⟩:=adQ (O:=O) (V:=V) ag af h3;obtain⟨i',z,rfl,an,a0⟩:=g2 u M;obtain⟨a4,hq⟩:=acP d (Fe M);cases hq;obtain⟨J,a1⟩:=ud b;have hi:i<s.boxes.length:=(ayA.1 (gg.1 J)).1;have a2:((s.ev f.gl y).den O V).cells.toList=SV.au O V (s.ev f.gl y).cells:=aok C;obtain⟨Z,hr,R'⟩:=R.store (P:=P) (v:=s.ev f.gl y) (off:=z) (w _ _ q) J a1 h1.symm an al a2;have R2:ap g B D f.ty V O (s.bM i c ab) a Z:=R'.cells hi a0.symm;refine⟨undef,Z,_,.inr ⟨?_,rfl⟩,R2.put H.dst (.bh []),ado J _ _,X⟩;have a3:(SV.dE e E Q).den O V=.pointer (some ⟨ad V i,z,none⟩):=by
  simp only[SV.den];rw[M9 M rfl];rfl
 simp only[execOp,n,m,j,a3,Sem.run_bind,hr,Result.andThen_ok,Sem.run_pure];cases h;cases h;cases h;cases h
def aom{p:Sp}(R:ap p.S0 p.w0 D f.ty V O s a W)(A:fz p.P f.ty)(H:dg f.gl O){m:OM}{d:S->Fx->T}{E:Fx}(F:pF O E){t:T}(h:vH f m s d E=some t)(C:t.aH p O r):
  ∃v J u k Z c,oz p.P m.o a W v J/\ap p.S0 p.w0 D f.ty k u Z (a.put m.o.dst v) J/\ba s O V Z u k/\pF u c/\(d Z c).aH p u r:=by
 unfold vH at h;split at h;cases h;rename_i Q;have Q:∀x∈m.o.op.operands.toList,(s.ev f.gl x).cM=false:=by
  intro x i;cases b:(s.ev f.gl x).cM;rfl;exact absurd (by simp only[ay2];right;exact ay8.2 ⟨x,i,b⟩) Q
 split at h
 
 rename_i q X;cases n:MC f m.o.dst s q with
 |none=>rw[n] at h;cases h
 |some Z=>
  rw[n] at h;cases h;obtain⟨v,J,k,N,M,U⟩:=an7 (P:=p.P) R X n;exact⟨v,J,O,k,Z,E,N,M,U,F,C⟩
 rename_i q x y z X;rw[X] at Q;have I:=bQ R H x (Q x (by simp[Op.operands]));have w:=bQ R H y (Q y (by simp[Op.operands]));have j:=bQ R H z (Q z (by simp[Op.operands]));split at h;rename_i Z l;cases h;obtain⟨J,N,M,U⟩:=Nt (P:=p.P) R A l;exact⟨undef,J,O,V,Z,E,.inr ⟨by simp only[execOp,X,I,w,j,Sem.run_bind,N,Result.andThen_ok,Sem.run_pure],rfl⟩,M,U,F,C⟩;rename_i k' x' Z l;cases h;obtain⟨J,N,M,U⟩:=Nt (P:=p.P) R A l;exact⟨undef,J,_,V,Z,_,.inr ⟨by simp only[execOp,X,I,w,j,Sem.run_bind,N,Result.andThen_ok,Sem.run_pure],rfl⟩,M,U,CO R U.ext.agree F,C⟩;cases h;rename_i q x y z X;rw[X] at Q;have I:=bQ R H x (Q x (by simp[Op.operands]));have w:=bQ R H y (Q y (by simp[Op.operands]));have j:=bQ R H z (Q z (by simp[Op.operands]));split at h;rename_i Z l;cases h;obtain⟨J,N,M,U⟩:=Nt (P:=p.P) R A l;exact⟨undef,J,O,V,Z,E,.inr ⟨by simp only[execOp,X,I,w,j,Sem.run_bind,N,Result.andThen_ok,Sem.run_pure],rfl⟩,M,U,F,C⟩;rename_i k' x' Z l;cases h;obtain⟨J,N,M,U⟩:=Nt (P:=p.P) R A l;exact⟨undef,J,_,V,Z,_,.inr ⟨by simp only[execOp,X,I,w,j,Sem.run_bind,N,Result.andThen_ok,Sem.run_pure],rfl⟩,M,U,CO R U.ext.agree F,C⟩;cases h;rename_i q x X;rw[X] at Q;have I:=bQ R H x (Q x (by simp[Op.operands]));cases n:MD f m.o.dst s q (s.ev f.gl x) with
 |none=>rw[n] at h;cases h
 |some Z=>
  rw[n] at h;cases h;obtain⟨v,J,k,N,M,U⟩:=aod (P:=p.P) R A X I n;exact⟨v,J,O,k,Z,E,N,M,U,F,C⟩
 rename_i x X;rw[X] at Q;have I:=bQ R H x (Q x (by simp[Op.operands]));obtain⟨v,J,u,Z,N,M,U,G⟩:=aoh (P:=p.P) rfl R A X I h C;rcases G with⟨rfl,G⟩|G;exact⟨v,J,u,V,Z,E,N,M,U,F,G⟩;exact⟨v,J,u,V,Z,_,N,M,U,CO R U.ext.agree F,G⟩;rename_i x X;rw[X] at Q;have I:=bQ R H x (Q x (by simp[Op.operands]));obtain⟨v,Z,N,M,U,G⟩:=aoi (P:=p.P) R A X I h C;exact⟨v,W,O,V,Z,E,N,M,U,F,G⟩;rename_i q x y X;rw[X] at Q;have I:=bQ R H x (Q x (by simp[Op.operands]));have w:=bQ R H y (Q y (by simp[Op.operands]));split at h;rename_i ti e ks vs ht i;rw[i] at I;obtain⟨v,J,Z,N,M,U,G⟩:=aol (P:=p.P) R A ht X I w h C;exact⟨v,J,O,V,Z,E,N,M,U,F,G⟩;cases h;rename_i op q x y t2 X;rw[X] at Q;have I:=bQ R H x (Q x (by simp[Op.operands]));have w:=bQ R H y (Q y (by simp[Op.operands]));split at h;obtain⟨v,Z,N,M,U,G⟩:=adO (P:=p.P) R A X (.inl ⟨rfl,rfl⟩) I w h C;exact⟨v,W,O,V,Z,E,N,M,U,F,G⟩;obtain⟨v,Z,N,M,U,G⟩:=adO (P:=p.P) R A X (.inr ⟨rfl,rfl⟩) I w h C;exact⟨v,W,O,V,Z,E,N,M,U,F,G⟩;cases h;cases h
end
end
variable{C:aU}
section
def Js(v:Value)(Z:List Int)(g:FuncId):Array Value:=(v::(Z.map (Value.int .i64)++[.func (.func g) #[] #[]])).toArray
def lW(P:Program)(X:Ty)(f g:FuncId)(e:TypeId)(L:aU)(J:Bool):Prop:=
 (∀U W,(callFunc f U).run P W=.ok (.enter f U) W)/\∀(W:World)(A:Option Addr)(n Z:Nat)(R ar:List (List RV))(O:aa)(Q:List IE)(N:aU),L.fill Q=some N->aW W X (.sl e) (.mk (.slice A n Z) R)->Fw W e (aV X (.sl e)).length A Z->gO O N J R=some ar->
  Calls P f (Js (.slice A n Z) (Q.map (IE.den O)) g) W λI M=>I=.returned (.tuple #[])/\W.grownBy M (ik A Z)/\Ad W M e (aV X (.sl e)).length (ik A Z) ar A Z
def adT(P:Program)(R:Ty)(f:FuncId)(e:TypeId):Prop:=
 (∀Q W,(callFunc f Q).run P W=.ok (.enter f Q) W)/\∀(W:World)(b n Z:Nat)(N ar:List (List RV))(i:Int)(X U:Nat)(L J:TypeId),W.heap[X]?=some (.cells #[.slice (some ⟨b,0,none⟩) n Z] L (0,0))->W.heap[U]?=some (.cells #[.func (.func f) #[] #[.pointer (some ⟨X,0,none⟩),.pointer (some ⟨U,0,none⟩)]] J (0,0))->X≠b->U≠b->
  aW W R (.sl e) (.mk (.slice (some ⟨b,0,none⟩) n Z) N)->Fw W e (aV R (.sl e)).length (some ⟨b,0,none⟩) Z->qE i N=some ar->
  Calls P f #[.int .i64 i,.pointer (some ⟨X,0,none⟩),.pointer (some ⟨U,0,none⟩)] W λI M=>I=.returned (.int .i64 (aD 0 (ar.getD i.toNat [])))/\W.grownBy M (some b)/\Ad W M e (aV R (.sl e)).length (some b) ar (some ⟨b,0,none⟩) Z
def jm(P:Program)(Z:Ty)(f g:FuncId)(e:TypeId)(X:aU)(U:Bool):Prop:=if f=g then adT P Z f e else lW P Z f g e X U
def jm.of{P:Program}{Z:Ty}{f g:FuncId}{e:TypeId}{X:aU}{U:Bool}(h:lW P Z f g e X U)(R:f≠g):jm P Z f g e X U:=by
 unfold jm;rw[if_neg R];exact h
def FD(P:Program)(p:aY):Prop:=∀f g e Z X,p.vF f g=some (e,Z,X)->jm P p.ty f g e Z X
def Nv{lt:List RV->List RV->Bool}{x y:List RV}:∀{l:List (List RV)},y∈cQ lt x l<->y=x\/y∈l
 |[]=>by simp[cQ]
 |z::r=>by
  simp only[cQ];split;simp;simp only[ayK,Nv (l:=r)];constructor;rintro(h|h|h);exact .inr (.inl h);exact .inl h;exact .inr (.inr h);rintro(h|h|h);exact .inr (.inl h);exact .inl h;exact .inr (.inr h)
def adU{lt:List RV->List RV->Bool}{x:List RV}:∀{l:List (List RV)},(cQ lt x l).length=l.length+1
 |[]=>rfl
 |z::r=>by
  simp only[cQ];split;simp;simp[adU (l:=r)]
def Vc{lt:List RV->List RV->Bool}:∀(l acc:List (List RV)),(∀x,x∈l.foldl (λacc x=>cQ lt x acc) acc<->x∈acc\/x∈l)/\(l.foldl (λacc x=>cQ lt x acc) acc).length=acc.length+l.length
 |[],acc=>by simp
 |y::l,acc=>by
  obtain⟨Z,X⟩:=Vc (lt:=lt) l (cQ lt y acc);refine⟨λx=> ?_, ?_⟩;simp only[az0,Z,Nv,ayK];constructor;rintro((h|h)|h);exact .inr (.inl h);exact .inl h;exact .inr (.inr h);rintro(h|h|h);exact .inl (.inr h);exact .inl (.inl h);exact .inr h;simp only[az0,X,adU,azn];omega
def adV{lt:List RV->List RV->Bool}:x∈bp lt Z<->x∈Z:=by
 rw[bp,(Vc Z []).1];simp
def nq{lt:List RV->List RV->Bool}:(bp lt Z).length=Z.length:=by
 rw[bp,(Vc Z []).2];simp
def adW{sp:aU}(h:fh sp M Z=some N):∀x∈N,x∈Z:=by
 cases sp with
 |bN k o U=>simp[fh] at h
 |_=>
  simp only[fh] at h;split at h;cases h;intro x X;exact adV.1 X;cases h
def adX{sp:aU}(h:fh sp M Z=some N):N.length=Z.length:=by
 cases sp with
 |bN k o X=>simp[fh] at h
 |_=>
  simp only[fh] at h;split at h;cases h;exact nq;cases h
def pG(h:x∈aK Z X I):x∈Z:=azB (azH h)
def aon(Z:List (List RV))(a b:Nat):(aK Z a b).length=min (b-a) (Z.length-a):=by simp[aK]
def Nw{Z:List (List RV)}:∀(n:Nat)(i:Int),(mF n i Z).length=Z.length
 |0,_=>rfl
 |n+1,i=>by
  simp only[mF];split;rfl;simp[Nw n]
def Af(h:iR Z=true){k:Nat}(X:k<Z.length):0<=aD 0 (Z.getD k [])/\aD 0 (Z.getD k [])<=k:=by
 have:=ayM.1 h k (azz.2 X);simpa only[ayz,decide_eq_true_eq] using this
def Vd(h:iR Z=true)(X:0<=k)(U:k<Z.length):0<=aD 0 (Z.getD k.toNat [])/\aD 0 (Z.getD k.toNat [])<=k/\aD 0 (Z.getD k.toNat [])<Z.length:=by
 have:=Af h (k:=k.toNat) (by omega);omega
def adY{Z:Type}{l:List Z}(h:X<l.length)(d:Z):l.getD X d∈l:=by
 rw[ayC,ayB h];exact azR _
def adZ{X:List (List RV)}(h:iR X=true):∀(n:Nat)(i:Int),0<=i->i<X.length->∀x∈mF n i X,x∈X
 |0,_,_,_,x,Z=>Z
 |n+1,i,R,Q,x,Z=>by
  simp only[mF] at Z;split at Z;exact Z;obtain⟨N,-,M⟩:=Vd h R Q;have U:=adZ h n _ N M;rcases azs Z with Z|Z;exact U x Z;refine U x ?_;have L:(aD 0 (X.getD i.toNat [])).toNat<(mF n (aD 0 (X.getD i.toNat [])) X).length:=by rw[Nw];omega
  rw[Z];exact adY L _
def Jt(h:qE k Z=some N):Z.length<=1099511627776/\0<=k/\k<Z.length/\iR Z=true/\N=mF Z.length k Z:=by
 unfold qE at h;split at h;rename_i X;simp only[ayz,decide_eq_true_eq] at X;cases h;exact⟨X.1.1.1,X.1.1.2,X.1.2,X.2,rfl⟩;cases h
def Nx(h:qE k Z=some N):∀x∈N,x∈Z:=by
 obtain⟨-,X,U,R,rfl⟩:=Jt h;exact adZ R _ _ X U
def Ve(h:qE k Z=some N):N.length=Z.length:=by
 obtain⟨-,-,-,-,rfl⟩:=Jt h;exact Nw _ _
def aoo(h:jB X C E Z=some N):∀x∈N,x∈Z:=by
 unfold jB at h;split at h
 all_goals first|(split at h<;>first|(cases h;done)|skip)|skip
 all_goals first|(cases h;done)|skip
 all_goals
  cases h;intro x U;simp only[ayL,adV] at U;rcases U with U|U;exact azH U
 all_goals
  rcases U with U|U;exact pG U
  first|exact azB U|(rcases U with U|U<;>first|exact pG U|exact azB U|(rcases U with U|U<;>first|exact pG U|exact azB U))
def aop(h:jB X C E Z=some N):N.length=Z.length:=by
 unfold jB at h;split at h
 all_goals first|(split at h<;>first|(cases h;done)|skip)|skip
 all_goals first|(cases h;done)|skip
 all_goals
  rename_i U;simp only[ayz,decide_eq_true_eq] at U;cases h;simp only[ayN,az6,az2,aon,nq];omega
def vZ(h:ln X C E Z=some N):Z.length<=1099511627776/\jB X C E Z=some N:=by
 unfold ln at h;split at h;rename_i U;exact⟨U,h⟩;cases h
def aoq(h:ln X C E Z=some N):∀x∈N,x∈Z:=aoo (vZ h).2
def aor(h:ln X C E Z=some N):N.length=Z.length:=aop (vZ h).2
def Vf(h:fh C M Z=some N):Z.length<=1099511627776:=by
 cases C with
 |bN k o U=>simp[fh] at h
 |_=>
  simp only[fh] at h;split at h;rename_i X;simp only[ayz,decide_eq_true_eq] at X;exact X.1;cases h
def Vg(h:gO J C M Z=some N):∀x∈N,x∈Z:=by
 cases C with
 |bN k o X=>
  cases M with
  |false=>exact aoq h
  |true=>
   cases X with
   |nil=>simp[gO] at h
   |cons i l=>
    cases l with
    |nil=>exact Nx h
    |cons j l=>simp[gO] at h
 |lex U d=>exact adW (sp:=.lex U d) h
 |ratio n d=>exact adW (sp:=.ratio n d) h
def Vh(h:gO J C M Z=some N):N.length=Z.length:=by
 cases C with
 |bN k o X=>
  cases M with
  |false=>exact aor h
  |true=>
   cases X with
   |nil=>simp[gO] at h
   |cons i l=>
    cases l with
    |nil=>exact Ve h
    |cons j l=>simp[gO] at h
 |lex U d=>exact adX (sp:=.lex U d) h
 |ratio n d=>exact adX (sp:=.ratio n d) h
section
variable{q:List Nat}{w:World}{D:bz}{P:Program}{p:aY}{V:List Nat}{O:aa}{s:S}{a:Act}{W:World}
def aos(h:dt W p.ty U Z)(H:∀x∈N,x∈Z):dt W p.ty U N:=by
 have I:∀{i:Nat}{X:List RV},N[i]?=some X->∃R,Z[R]?=some X:=λh=>azh (H _ (ayW h))
 refine⟨λi X Q=> ?_,λi j X c k Q L J=> ?_,λi j X c Q L J=> ?_,λi j X c z k Q L J=> ?_⟩;obtain⟨R,M⟩:=I Q;exact h.len R X M;obtain⟨R,M⟩:=I Q;exact h.int R j X c k M L J;obtain⟨R,M⟩:=I Q;exact h.bool R j X c M L J;obtain⟨R,M⟩:=I Q;exact h.ax R j X c z k M L J
def aot(R:∀x∈N,x∈Z)(h:jK p.ty U N X):jK p.ty U Z X:=by
 obtain⟨i,j,Q,c,z,k,M,L,J,I⟩:=h;obtain⟨H,G⟩:=azh (R _ (ayW M));exact⟨H,j,Q,c,z,k,G,L,J,I⟩
def ad0{s:S}{a:Act}{W:World}{O:aa}{V:List Nat}(R:ap q w D p.ty V O s a W)(X:dg p.gl O){o:Oper}{g:FuncId}{Z:List SV}(h:cB p s o=.call (.fn g) Z)
  (N:∀Z W,(callFunc g Z).run P W=.ok (.enter g Z) W):(execOp a.eval o).run P W=.ok (.enter g (SV.au O V Z).toArray) W:=by
 unfold cB at h;split at h;split at h<;>cases h;rename_i c M;split at h;rename_i f L;split at h;rename_i F E U;split at h;cases h;rename_i J;cases h;have Q:=bQ R X f (by rw[U];rfl);rw[U,SV.den] at Q;have I:c.args.map a.eval=(SV.au O V (c.args.toList.map (s.ev p.gl))).toArray:=by
  apply azv;simp only[azy,lj,azo];exact ayZ λx H=>bQ R X x (by
   cases G:(s.ev p.gl x).cM;rfl;exact absurd (ay8.2 ⟨x,H,G⟩) J)
 simp only[execOp,M,resolve,L,Sem.run_bind,Q,Deferred.ofValue,Sem.run_pure,Result.andThen_ok,invoke,I,M0];simp only[aBi,N,ayU];split at h<;>cases h;cases h;cases h;split at h;split at h<;>cases h;cases h;cases h;cases h
def ad1{g:Cj}(h:cB p G H=.call g Q)(c:Call):H.op≠ .defer c:=by
 intro Z;simp[cB,Z] at h
def ad2{O:aa}{V:List Nat}:∀{l:List SV}{as:List IE}{g:FuncId},IP l=some (as,g)->SV.au O V l=(as.map (IE.den O)).map (Value.int .i64)++[.func (.func g) #[] #[]]
 |[],as,g,h=>by simp[IP] at h
 |v::r,as,g,h=>by
  unfold IP at h;split at h;rename_i Q Z;cases h;injection Z with X U;subst X;subst U;simp[SV.au,SV.den];rename_i e N Z;injection Z with X U;subst X;subst U;split at h;rename_i x R;cases h;have:=ad2 (O:=O) (V:=V) (as:=x.1) (g:=x.2) R;simp[SV.au,SV.den,this];cases h;cases h
def Vi(R:ap q w D p.ty V O s a W)(z:s.bd=true){Q:Nat}(N:s.rs[X]?=some (.own U))(J:O.rv X=.mk (.slice v I Q) (O.rv X).rows)(H:aW W p.ty (.sl U) (.mk (.slice v I Q) (O.rv X).rows))
  (G:∀x∈Z,x∈(O.rv X).rows)(y:Z.length=(O.rv X).rows.length)(u:W.grownBy L (ik v Q))(o:Ad W L U (aV p.ty (.sl U)).length (ik v Q) Z v Q)(d:Option Nat)(M:SV):
  ap q w D p.ty V (O.add (.r (.mk (O.rv X).val Z))) ((({s with rs:=gJ [] 0 (fw [X] 0 s.rs)++[.own U]}:S).eC X s.rs.length).put d M) (a.put d (M.den (O.add (.r (.mk (O.rv X).val Z))) V)) L/\
   ba s O V ((({s with rs:=gJ [] 0 (fw [X] 0 s.rs)++[.own U]}:S).eC X s.rs.length).put d M) (O.add (.r (.mk (O.rv X).val Z))) V:=by
 obtain⟨m,ag⟩:=ow H;have l:yg p.ty V O s U Z []:=λb j=>by
  have F:=aot G j;have E:=Ft (O:=O) (e0:=.own U) rfl (by simpa[RE.rv] using F);exact⟨⟨X,_,N,E⟩,(R.mem.ref X _ _ N (pE R N)).2 b E,λk' t rv h g f=>(Jj R h g f N rfl (by simpa[RE.rv] using F)).elim⟩
 obtain⟨C,-⟩:=R.bind z (old:=ik v Q) (kill:=[X]) (frz:=[]) (A:=v) (cap:=Q) (W':=L) (.inr ⟨X,U,O.rv X,rfl,N,pE R N,by rw[J,Fv]⟩) (by simp) u (aos (dt.sr H) G) l o;rw[y,m] at C;have B:(O.rv X).val=.slice v I Q:=by rw[J];rfl
 rw[B];have c:X<O.r.length:=by rw[R.er];exact(ayA.1 N).1
 have ab:(O.add (.r (.mk (.slice v I Q) Z))).rv X=O.rv X:=by simp[aa.rv,aa.add,ayD c]
 have af:(O.add (.r (.mk (.slice v I Q) Z))).rv s.rs.length=.mk (.slice v I Q) Z:=by simp[aa.rv,aa.add,<-R.er]
 have R2:=(C.eC (k:=X) (n:=s.rs.length) (by rw[ab,af,B];rfl)).put d M;refine⟨R2, ?_⟩;refine ba.put (s:=s) (s':=({s with rs:=gJ [] 0 (fw [X] 0 s.rs)++[.own U]}:S).eC X s.rs.length) ⟨nl _ _ _ _,λi hi=> ?_, ?_,ayH _⟩ _ _;simp only[S.eC];rw[CN];exact hi;simp[S.eC,Jp]
def aou(c:FD P p)(R:ap q w D p.ty V O s a W)(hg:dg p.gl O)(E:s.bd=true){o:Oper}{f:FuncId}{X:List SV}(ab:cB p s o=.call (.fn f) X){u:vJ}(h:Ua p f X s o.dst=some u){ar:List (List RV)}(Z:gO O u.sp u.st (u.r.rv O).rows=some ar):
  ∃X v,(execOp a.eval o).run P W=.ok (.enter u.f X) W/\Calls P u.f X W λN U=>N=.returned v/\ap q w D p.ty V (O.add (.r (.mk (u.r.rv O).val ar))) u.s (a.put o.dst v) U/\ba s O V u.s (O.add (.r (.mk (u.r.rv O).val ar))) V:=by
 unfold Ua at h;split at h;rename_i r a1;split at h;rename_i M g af;split at h;rename_i e C B L;have z:p.vF f g=some (e,C,B)/\f≠g:=by
  split at L;cases L;rename_i ag;exact⟨L,λh=>ag (by simp[h])⟩
 have J:=c f g e C B z.1;unfold jm at J;rw[if_neg z.2] at J;obtain⟨al,y⟩:=J;have x:(execOp a.eval o).run P W=.ok (.enter f (Js (r.den O) (M.map (IE.den O)) g)) W:=by
  rw[ad0 R hg ab al];simp only[SV.au,SV.den,ad2 af,Js]
 split at h;rename_i t m;split at h;rename_i k;split at h;rename_i l;cases h;obtain⟨A,n,j,i,d,h3⟩:=Jm R l;have Q:(RE.v k).rv O=O.rv k:=rfl;simp only[Q] at Z⊢;have a2:=Z;have an:=Vg Z;have I:=Vh Z;refine⟨_,.tuple #[],x, ?_⟩;have H:(RE.v k).den O=.slice A n j:=by rw[RE.den,Q,i];rfl
 rw[H];refine(y W A n j _ ar O M t m d h3 Z).mono ?_;rintro N U ⟨rfl,G,F⟩;exact⟨rfl,Vi R E l i d an I G F o.dst (.bh [])⟩;cases h;cases h;have Q:(RE.k (.slice none 0 0)).rv O=.mk (.slice none 0 0) []:=rfl;simp only[Q,RV.jk,RV.ji] at Z⊢;have I:=Vh Z;have h0:ar=[]:=ay4 (by simpa using I);subst h0;refine⟨_,.tuple #[],x, ?_⟩;have H:(RE.k (.slice none 0 0)).den O=.slice none 0 0:=rfl;rw[H];refine(y W none 0 0 [] [] O M t m (yf _ _) ⟨λ_=>rfl,.inl rfl⟩ Z).mono ?_;rintro N U ⟨rfl,G,F⟩;obtain⟨R1,-⟩:=R.bind E (old:=none) (kill:=[]) (frz:=[]) (A:=none) (cap:=0) (rows:=[]) (W':=U) (.inl ⟨rfl,rfl⟩) (by simp) G (dt.sr (yf (e:=e) none 0)) (λb a0=>(Ji a0).elim) F;refine⟨rfl,R1.put o.dst (.bh []), ?_⟩;exact ba.put (s:=s) (s':={s with rs:=gJ [] 0 (fw [] 0 s.rs)++[.own e]}) ⟨nl _ _ _ _,λ_ h=>h,ayH _,ayH _⟩ _ _;cases h;cases h;cases h;cases h;cases h
def ad3(g:FD P p)(R:ap q w D p.ty V O s a W)(d:dg p.gl O)(hb:s.bd=true){o:Oper}{f:FuncId}{X:List SV}(ab:cB p s o=.call (.fn f) X){u:vJ}(h:Co p f X s o.dst=some u){ar:List (List RV)}(N:gO O u.sp u.st (u.r.rv O).rows=some ar):
  ∃X v,(execOp a.eval o).run P W=.ok (.enter u.f X) W/\Calls P u.f X W λE C=>E=.returned v/\ap q w D p.ty V (O.add (.r (.mk (u.r.rv O).val ar))) u.s (a.put o.dst v) C/\ba s O V u.s (O.add (.r (.mk (u.r.rv O).val ar))) V:=by
 unfold Co at h;split at h;rename_i i U Q;split at h;rename_i e o' bf af;have I:=g f f e _ true af;unfold jm at I;rw[if_pos rfl] at I;obtain⟨ag,al⟩:=I;split at h;rename_i M k L f' bg bk B nu;split at h;rename_i z;simp only[ayz,beq_iff_eq,ayS,decide_eq_true_eq] at z;obtain⟨⟨⟨⟨⟨⟨hi,e1⟩,e2⟩,e3⟩,an⟩,a0⟩,J⟩:=z;rw[e1,e2,e3] at nu;cases h;obtain⟨A,n,Z,H,G,y⟩:=Jm R J;have a1:(RE.v k).rv O=O.rv k:=rfl;simp only[a1] at N⊢;have a2:=Vg N;have a3:=Vh N;have bZ:qE (i.den O) (O.rv k).rows=some ar:=N;obtain⟨-,bl,bo,-,-⟩:=Jt bZ;obtain⟨hn,br⟩:=ow G;have F:Z≠0:=by omega
 rcases y.mem with h0|⟨b,bs,hA,bt,-⟩;exact(F h0).elim;subst hA;have a4:(O.rv k).hU=some b:=by
  rw[H,Fv];cases Z with
  |zero=>exact(F rfl).elim
  |succ c=>rfl
 have x:=R.dK k e _ b J (pE R J) a4;have t:=R.mem.box U M _ B;have m:=R.mem.box Q L _ nu;have a5:iS M (SV.bX O V [.ref (.v k)])=.cells #[.slice (some ⟨b,0,none⟩) n Z] M (0,0):=by
  rw[ou an];simp only[SV.au,SV.den,RE.den,RE.rv];rw[H];rfl
 have a6:iS L (SV.bX O V [.fn f [.loc U 0,.loc Q 0]])=.cells #[.func (.func f) #[] #[.pointer (some ⟨ad V U,0,none⟩),.pointer (some ⟨ad V Q,0,none⟩)]] L (0,0):=by
  rw[ou a0];simp[SV.den,SV.au]
 rw[a5] at t;rw[a6] at m;have a7:(execOp a.eval o).run P W=.ok (.enter f #[.int .i64 (i.den O),.pointer (some ⟨ad V U,0,none⟩),.pointer (some ⟨ad V Q,0,none⟩)]) W:=by
  rw[ad0 R d ab ag];simp only[SV.au,SV.den]
 refine⟨_,.int .i64 (aD 0 (ar.getD (i.den O).toNat [])),a7, ?_⟩;have a8:ik (some ⟨b,0,none⟩) Z=some b:=by
  cases Z with
  |zero=>exact(F rfl).elim
  |succ c=>rfl
 refine(al W b n Z _ ar (i.den O) _ _ M L t m (x.box U (by simp only[aE,B];rfl)) (x.box Q (by simp only[aE,nu];rfl)) G y bZ).mono ?_;rintro E C ⟨rfl,l,j⟩;rw[<-a8] at l j;have:=Vi R hb J H G a2 a3 l j o.dst (.int .i64 (.cell (.v s.rs.length) i 0));have a9:(O.add (.r (.mk (O.rv k).val ar))).rv s.rs.length=.mk (O.rv k).val ar:=by simp[aa.rv,aa.add,<-R.er]
 have bb:i.den (O.add (.r (.mk (O.rv k).val ar)))=i.den O:=IE.cn (nl s.boxes O _ V).agree i (by rw[R.ei,R.eb,R.er];exact hi);have hd:SV.den (O.add (.r (.mk (O.rv k).val ar))) V (.int .i64 (.cell (.v s.rs.length) i 0))=.int .i64 (aD 0 (ar.getD (i.den O).toNat [])):=by
  simp only[SV.den,IE.den,RE.rv,a9,bb];rfl
 rw[hd] at this;exact⟨rfl,this⟩;cases h;cases h;cases h;cases h
def aov(L:FD P p)(R:ap q w D p.ty V O s a W)(J:dg p.gl O){m:OM}{u:vJ}(h:xM p m s=some u)(I:gO O u.sp u.st (u.r.rv O).rows=some Z):
  ∃X v,(execOp a.eval m.o).run P W=.ok (.enter u.f X) W/\(∀c,m.o.op≠ .defer c)/\Calls P u.f X W λG F=>G=.returned v/\ap q w D p.ty V (O.add (.r (.mk (u.r.rv O).val Z))) u.s (a.put m.o.dst v) F/\ba s O V u.s (O.add (.r (.mk (u.r.rv O).val Z))) V:=by
 unfold xM at h;split at h;cases h;rename_i U;simp only[ay2,ayS,not_or,az4] at U;split at h;rename_i f X Q;have H:=λc=>ad1 Q c
 split at h;rename_i C E;cases h;obtain⟨x,v,N,M⟩:=aou L R J U.2 Q E I;exact⟨x,v,N,H,M⟩;obtain⟨x,v,N,M⟩:=ad3 L R J U.2 Q h I;exact⟨x,v,N,H,M⟩;cases h
def aow(Q:FD P p)(R:ap q w D p.ty V O s a W)(N:dg p.gl O){u:vJ}(h:Cp p H s=some u)(M:gO O u.sp u.st (u.r.rv O).rows=some Z):
  ∃X v,(execOp a.eval H).run P W=.ok (.enter u.f X) W/\(∀c,H.op≠ .defer c)/\Calls P u.f X W λL J=>L=.returned v/\ap q w D p.ty V (O.add (.r (.mk (u.r.rv O).val Z))) u.s (a.put H.dst v) J/\ba s O V u.s (O.add (.r (.mk (u.r.rv O).val Z))) V:=by
 unfold Cp at h;split at h;cases h;rename_i I;split at h;rename_i f X U;obtain⟨x,v,G,F⟩:=ad3 Q R N (by simpa using I) U h M;exact⟨x,v,G,λc=>ad1 U c,F⟩;cases h
end
end
section
structure mJ(F:Fence):Prop where
 fn:∀f,F.fn f
 uk:F.depth=none
 eq:∀P,Machine.fenced P F=Machine.fenced P Fence.wide
def aox:mJ Fence.wide:=⟨λ_=>trivial,rfl,λ_=>rfl⟩
def ad4(l:Nat):mJ (Fence.wide.inRound l):=⟨λ_=>trivial,rfl,λ_=>rfl⟩
def mJ.calls{F:Fence}(Z:mJ F){n:Nat}{P:Program}{f:FuncId}{X:Array Value}{w:World}{R:Ending->World->Prop}(h:Calls P f X w R):CallsIn F n P f X w R:=by
 have W:=(callsIn_wide (n:=n)).2 h;refine⟨Z.fn f,λV _=> ?_⟩;obtain⟨e,w',U,r,c,x⟩:=W.2 V (room_wide _);exact⟨e,w',U,r,by rw[Z.eq];exact c,x⟩
def Vj{p:Sp}{W:Fx}{b:BE}{t f:Fx->T}(Z:pF J W)(h:(xL G W b t f).aH p J r):
  ∃V,pF J V/\(if b.den J then(t V).aH p J r else(f V).aH p J r):=by
 unfold xL at h;split at h;rename_i U;exact⟨W,Z,by rw[Nr Z U];exact h⟩;rename_i U;exact⟨W,Z,by rw[Nr Z U];exact h⟩;split at h;simp only[T.aH] at h;cases X:b.den J;exact⟨_,adA Z X,by simpa[X] using h.2 X⟩;exact⟨_,adA Z X,by simpa[X] using h.1 X⟩;exact h.elim
def bW(n:Nat)(L Z:List LC):Prop:=∀l,l<n->ke l Z=ke l L
def bW.refl(n:Nat)(L:List LC):bW n L L:=λ_ _=>rfl
def bW.trans{n m:Nat}{L Z X:List LC}(h:bW n L Z)(k:bW m Z X)(V:n<=m):bW n L X:=λl W=>(k l (by omega)).trans (h l W)
def aoy(p:Sp)(O:aa):Cj->Array Value->World->(Ending->World->Prop)->Prop
 |.fn g,Z,W,X=>(∀Z W,(callFunc g Z).run p.P W=.ok (.enter g Z) W)/\Calls p.P g Z W X
 |.yl n,Z,W,X=>∀(F:Fence)(_:mJ F)(m:Nat),YieldAt F m p.P (O.y.getD n 0) Z W X
structure iU where
 s:S
 O:aa
 V:List Nat
 L:List LC
structure iU.nx(B:iU)(s:S)(O:aa)(V:List Nat)(L:List LC):Prop where
 later:ba B.s B.O B.V s O V
 Ny:bW B.s.ao B.L L
def iU.nx.go{B:iU}{Z:S}{X:aa}{W:List Nat}{U:List LC}(h:B.nx G J R r)(Q:ba G J R Z X W)(P:bW G.ao r U):B.nx Z X W U:=⟨h.later.trans Q,h.Ny.trans P h.later.ao⟩
def Nz(p:Sp)(z:aY)(D:bz)(B:iU)(A:lM):Prop:=
 ∀(L:List LC)(g:Cj)(M:List SV)(s:S)(k J:SV->S->T)(O:aa)(V:List Nat)(a:Act)(W:World)(N:Ending->World->Prop),B.nx s O V L->
  (A g M s k J).aH p O L->ap p.S0 p.w0 D z.ty V O s a W->dg z.gl O->
  (∀v U Z Q X P,ba s O V U Z Q->bW s.ao L P->ap p.S0 p.w0 D z.ty Q Z U a X->(k v U).aH p Z P->N (.returned (v.den Z Q)) X)->
  (∀v U Z Q X P,ba s O V U Z Q->bW s.ao L P->ap p.S0 p.w0 D z.ty Q Z U a X->(J v U).aH p Z P->N (.panicked [{v:=v.den Z Q,recovered:=false}]) X)->
  (∀I X H y,cG p.w0 D H y a.defers X->p.R (.panicked I) X->N (.panicked I) X)->
  aoy p O g (SV.au O V M).toArray W N
section
variable{p:Sp}{z:aY}{A:lM}{F:Fence}{D:bz}{ops:Array Oper}
def ad5(Z:ap p.S0 p.w0 D z.ty R J G i L)(Q:(ops[X]?).bind (·.dst)=some I):
  (∀b,G.tmps[I]?=some (.bool b)->yielded ops i.tmps X=some (b.den J))/\(G.tmps[I]?=some (.bh [])->yielded ops i.tmps X=none):=by
 constructor;intro b U;rcases Z.tmps I _ U with h|h;cases h;simp[yielded,Q,h,SV.den];intro U;rcases Z.tmps I _ U with h|h;cases h;simp[yielded,Q,h,SV.den]
def NA{s:S}{a:Act}{W:World}{O:aa}{V:List Nat}(R:ap p.S0 p.w0 D z.ty V O s a W)(X:dg z.gl O){o:Oper}{g:FuncId}{Z:List SV}(h:cB z s o=.call (.fn g) Z)
  (N:∀Z W,(callFunc g Z).run p.P W=.ok (.enter g Z) W):(execOp a.eval o).run p.P W=.ok (.enter g (SV.au O V Z).toArray) W:=by
 unfold cB at h;split at h;split at h<;>cases h;rename_i c M;split at h;rename_i f L;split at h;rename_i E C U;split at h;cases h;rename_i J;cases h;have Q:=bQ R X f (by rw[U];rfl);rw[U,SV.den] at Q;have I:c.args.map a.eval=(SV.au O V (c.args.toList.map (s.ev z.gl))).toArray:=by
  apply azv;simp only[azy,lj,azo];exact ayZ λx H=>bQ R X x (by
   cases G:(s.ev z.gl x).cM;rfl;exact absurd (ay8.2 ⟨x,H,G⟩) J)
 simp only[execOp,M,resolve,L,Sem.run_bind,Q,Deferred.ofValue,Sem.run_pure,Result.andThen_ok,invoke,I,M0];simp only[aBi,N,ayU];split at h<;>cases h;cases h;cases h;split at h;split at h<;>cases h;cases h;cases h;cases h
def ad6(Z:ap p.S0 p.w0 D z.ty R J G i L)(U:dg z.gl J)(h:cB z G H=.call (.yl X) Q):
  (execOp i.eval H).run p.P L=(Instr.yield (J.y.getD X 0) (SV.au J R Q).toArray).run p.P L:=by
 unfold cB at h;split at h;split at h<;>cases h;rename_i c I;split at h;rename_i f E;split at h;split at h<;>cases h;rename_i v N;split at h;cases h;rename_i C;cases h;have M:=bQ Z U f (by rw[N];rfl);rw[N,SV.den] at M;have B:c.args.map i.eval=(SV.au J R (c.args.toList.map (G.ev z.gl))).toArray:=by
  apply azv;simp only[azy,lj,azo];exact ayZ λx A=>bQ Z U x (by
   cases w:(G.ev z.gl x).cM;rfl;exact absurd (ay8.2 ⟨x,A,w⟩) C)
 simp[execOp,I,resolve,E,M,Deferred.ofValue,invoke,B];cases h;cases h;split at h;split at h<;>cases h;cases h;cases h;cases h
def Vk{s:S}{O:aa}{V:List Nat}{L:List LC}{e:IE}{I:FuncId->List SV->T}:∀{U:List Int}{R:List SV},(zP e I U R).aH p O L->∃g Q,gM (e.den O) U (SV.au O V R)=.func (.func g) #[] (SV.au O V Q).toArray/\(I g Q).aH p O L
 |[],R,h=>by simp only[zP] at h;exact h.elim
 |k::U,[],h=>by simp only[zP] at h;exact h.elim
 |k::U,v::R,h=>by
  unfold zP at h;split at h;rename_i H G g Q E X W;simp only[azK] at X W;obtain⟨rfl,rfl⟩:=X;obtain⟨rfl,rfl⟩:=W;simp only[T.aH,BE.den,ey,IE.den] at h;by_cases Z:e.den O=k;exact⟨g,Q,by simp[SV.au,SV.den,gM,Z,fu],h.1 (by simp[Z])⟩;obtain⟨P,N,M,J⟩:=Vk (s:=s) (V:=V) (h.2 (by simp[Z]));exact⟨P,N,by simp only[SV.au,gM,Z,if_false];exact M,J⟩;rename_i H G E X W;simp only[azK] at X W;obtain⟨rfl,rfl⟩:=X;obtain⟨rfl,rfl⟩:=W;simp only[T.aH,BE.den,ey,IE.den] at h;by_cases Z:e.den O=k;exact(h.1 (by simp[Z])).elim;obtain⟨P,N,M,J⟩:=Vk (s:=s) (V:=V) (h.2 (by simp[Z]));exact⟨P,N,by simp only[SV.au,gM,Z,if_false];exact M,J⟩;exact h.elim
def aoz{s:S}{a:Act}{W:World}{O:aa}{V:List Nat}(R:ap p.S0 p.w0 D z.ty V O s a W)(X:dg z.gl O){m:OM}{e:IE}{U:List Int}{Q Z N:List SV}{g:FuncId}(h:vI z m s=some (e,U,Q,Z))
  (G:gM (e.den O) U (SV.au O V Q)=.func (.func g) #[] (SV.au O V N).toArray)(E:∀Z W,(callFunc g Z).run p.P W=.ok (.enter g Z) W):
  (execOp a.eval m.o).run p.P W=.ok (.enter g (SV.au O V (Z++N)).toArray) W/\∀c,m.o.op≠ .defer c:=by
 unfold vI at h;split at h;cases h;split at h;rename_i c M;split at h;rename_i f C;split at h;rename_i w v u L;split at h;cases h;rename_i J;simp only[ay2,not_or] at J;cases h;have I:=bQ R X f (by rw[L];rfl);rw[L,SV.den,G] at I;have B:c.args.map a.eval=(SV.au O V (c.args.toList.map (s.ev z.gl))).toArray:=by
  apply azv;simp only[azy,lj,azo];exact ayZ λx A=>bQ R X x (by
   cases y:(s.ev z.gl x).cM;rfl;exact absurd (ay8.2 ⟨x,A,y⟩) J.1)
 refine⟨?_,λt H=>by rw[M] at H;cases H⟩;simp only[execOp,M,resolve,C,Sem.run_bind,I,Deferred.ofValue,Sem.run_pure,Result.andThen_ok,invoke,B,M0];simp only[aBi,E,ayU];cases h;cases h;cases h
def ad7(Z:ap p.S0 p.w0 D z.ty R J G i L)(N:dg z.gl J)(h:cB z G H=.aR b):
  (execOp i.eval H).run p.P L=.halt (.panic (b.den J R)) L:=by
 unfold cB at h;split at h;rename_i x Q;split at h;rename_i t y U;cases h;have X:=bQ Z N x (by rw[U];rfl);rw[U] at X;simp[execOp,Q,X,SV.den,Instr.panic];cases h;rename_i c Q;split at h;split at h;split at h<;>cases h;split at h<;>cases h;cases h;cases h;rename_i I;split at h;rename_i x U;split at h;rename_i t y M;cases h;have X:=bQ Z N x (by rw[M];rfl);rw[M] at X;have:c.args.map i.eval= #[i.eval x]:=by apply azv;simp[U]
 simp[execOp,Q,resolve,I,invoke,builtin,this,X,SV.den,Instr.panic];cases h;cases h;cases h;cases h
def yi{Z:World}{v:Value}{K:Act->World->Prop}{Q:Exit->Act->World->Prop}(U:mJ F)(h:oz p.P H i L v Z)(R:∀c,H.op≠ .defer c)(V:K (i.put H.dst v) Z):H.wpIn F X p.P i L K Q:=by
 refine⟨λf _=>U.fn f, ?_⟩;rw[Oper.semAt_eq _ _ _ R];rcases h with h|⟨h,rfl⟩;rw[h];exact V;rw[h];exact V
def Vl{Z:Bool}{b:BI}(h:cK z H M Z G=some b):∀c,H.op≠ .defer c:=by
 intro c A;simp[cK,A] at h
def aoA{m:OM}{Z:S->Fx->T}{X:Fx}{t:T}(h:vH z m G Z X=some t):∀c,m.o.op≠ .defer c:=by
 intro c A;simp[vH,A] at h
def Ju{m:OM}{Z:S}(h:(dN z m G).gives J Z):∀c,m.o.op≠ .defer c:=by
 intro c A;unfold dN at h;split at h;exact h.elim;rw[A] at h;simp[bv,od,OR.gives] at h
def yj(a5:p.ty=z.ty)(a6:FD p.P z)(r:mJ F)(al:fz p.P z.ty){B:iU}(hH:Nz p z D B A){n:Nat}{k:S->T}{kp:SV->S->T}{Q:Exit->Act->World->Prop}(HP:∀ch a' X pd y,cG p.w0 D pd y a'.defers X->p.R (.panicked ch) X->Q (.panic ch) a' X):
  ∀(l:List OM)(j:Nat)(s:S)(fx:Fx)(L:List LC)(O:aa)(V:List Nat)(a:Act)(W:World),
   (∀i m,l[i]?=some m->ops[j+i]?=some m.o)->B.nx s O V L->
   (j7 z A ops k kp l s fx).aH p O L->pF O fx->ap p.S0 p.w0 D z.ty V O s a W->dg z.gl O->
   (∀N O' V' a' X L',ba s O V N O' V'->bW s.ao L L'->ap p.S0 p.w0 D z.ty V' O' N a' X->(k N).aH p O' L'->Q .normal a' X)->
   (∀v N O' V' a' X L',ba s O V N O' V'->bW s.ao L L'->ap p.S0 p.w0 D z.ty V' O' N a' X->(kp v N).aH p O' L'->Q (.panic [{v:=v.den O' V',recovered:=false}]) a' X)->
   wpOpsIn F n p.P ops Q (azW j l.length) a W
 |[],j,s,fx,L,O,V,a,W,_,_,h,_,R,_,hk,_=>hk s O V a W L (ba.refl _ _ _) (bW.refl _ _) R h
 |m::ab,j,s,fx,L,O,V,a,W,b2,hB,h,bo,R,hg,hk,an=>by
  have ho:ops[j]?=some m.o:=by simpa using b2 0 m rfl
  have a8:∀i m',ab[i]?=some m'->ops[j+1+i]?=some m'.o:=λi m' hi=>by
   have:=b2 (i+1) m' (by simpa using hi)
   rwa [show j+(i+1)=j+1+i by omega] at this
  simp only[azn,aAI,wpOpsIn,ho];have bt:∀af,pF O af->
    (vK z A m s (j7 z A ops k kp ab) kp af).aH p O L->
    m.o.wpIn F n p.P a W (wpOpsIn F n p.P ops Q (azW (j+1) ab.length)) Q:=by
   intro af a0 h;unfold vK at h;have bZ:∀g ag,(A (.fn g) ag s (λv N=>j7 z A ops k kp ab (N.put m.o.dst v) (ld s af)) kp).aH p O L->((∀ag W,(callFunc g ag).run p.P W=.ok (.enter g ag) W)->(execOp a.eval m.o).run p.P W=.ok (.enter g (SV.au O V ag).toArray) W)->(∀c,m.o.op≠ .defer c)->
     m.o.wpIn F n p.P a W (wpOpsIn F n p.P ops Q (azW (j+1) ab.length)) Q:=by
    intro g ag h bx a9;have hC:=hH L (.fn g) ag s _ _ O V a W (λe X=>match e with
      |.returned v=>wpOpsIn F n p.P ops Q (azW (j+1) ab.length) (a.put m.o.dst v) X
      |.panicked ch=>Q (.panic ch) a X
      |.outgrown=>LetsOut Q) hB h R hg
     (λv N O' V' X L' Z hL R' hs=>yj a5 a6 r al hH HP ab (j+1) (N.put m.o.dst v) (ld s af) L' O' V' _ X a8 (hB.go (Z.put _ _) hL) hs
      (CO R Z.ext.agree a0) (R'.put m.o.dst v) (hg.ext Z.ext)
      (λU M J I H G E C x w=>hk U M J I H G ((Z.put _ _).trans E) (hL.trans C (Z.put _ _).ao) x w)
      (λv2 U M J I H G E C x w=>an v2 U M J I H G ((Z.put _ _).trans E) (hL.trans C (Z.put _ _).ao) x w))
     (λv N O' V' X L' Z hL R' hs=>an v N O' V' a X L' Z hL R' hs)
     (λch X pd y hA hR=>HP ch a X pd y hA hR)
    obtain⟨bg,b0⟩:=hC;refine⟨λf _=>r.fn f, ?_⟩;rw[Oper.semAt_eq _ _ _ a9,bx bg];rw[Oper.uponIn_enter];refine⟨λhd=>by rw[r.uk] at hd;simp at hd,CallsIn.mono (r.calls b0) (λe X he=> ?_)⟩;cases e<;>exact he
   split at h;rename_i e ks vs ag b3;obtain⟨g,b6,q1,q2⟩:=Vk (s:=s) (V:=V) h;refine bZ g (ag++b6) q2 (λbg=>(aoz R hg b3 q1 bg).1) ?_;intro c bb;simp[vI,bb] at b3;split at h;rename_i u hu;obtain⟨ar,hr,h⟩:=h;obtain⟨ag,tv,bx,a9,b0⟩:=aov a6 R hg hu hr;refine⟨λf _=>r.fn f, ?_⟩;rw[Oper.semAt_eq _ _ _ a9,bx];rw[Oper.uponIn_enter];refine⟨λhd=>by rw[r.uk] at hd;simp at hd,CallsIn.mono (r.calls b0) (λe X he=> ?_)⟩;obtain⟨rfl,R',Z⟩:=he;exact yj a5 a6 r al hH HP ab (j+1) u.s (ld s af) L _ V _ X a8 (hB.go Z (bW.refl _ _)) h (CO R Z.ext.agree a0) R' (hg.ext Z.ext)
    (λU M J I H G E C x w=>hk U M J I H G (Z.trans E) ((bW.refl _ _).trans C Z.ao) x w)
    (λv2 U M J I H G E C x w=>an v2 U M J I H G (Z.trans E) ((bW.refl _ _).trans C Z.ao) x w)
   split at h;rename_i g ag bk;exact bZ g ag h (λbg=>NA R hg bk bg) (λc bb=>by simp[cB,bb] at bk);rename_i yn ag bk;split at h;have hC:=hH L (.yl yn) ag s _ _ O V a W (λe X=>match e with
    |.returned v=>wpOpsIn F n p.P ops Q (azW (j+1) ab.length) (a.put m.o.dst v) X
    |.panicked ch=>Q (.panic ch) a X
    |.outgrown=>LetsOut Q) hB h R hg
    (λv N O' V' X L' Z hL R' hs=>yj a5 a6 r al hH HP ab (j+1) (N.put m.o.dst v) (ld s af) L' O' V' _ X a8 (hB.go (Z.put _ _) hL) hs
     (CO R Z.ext.agree a0) (R'.put m.o.dst v) (hg.ext Z.ext)
     (λU M J I H G E C x w=>hk U M J I H G ((Z.put _ _).trans E) (hL.trans C (Z.put _ _).ao) x w)
     (λv2 U M J I H G E C x w=>an v2 U M J I H G ((Z.put _ _).trans E) (hL.trans C (Z.put _ _).ao) x w))
    (λv N O' V' X L' Z hL R' hs=>an v N O' V' a X L' Z hL R' hs)
    (λch X pd y hA hR=>HP ch a X pd y hA hR)
   obtain⟨fn,cl,assign,body,hy,b7⟩:=hC F r (n-1);refine⟨λf _=>r.fn f, ?_⟩;have a9:∀c,m.o.op≠ .defer c:=λc bb=>by simp[cB,bb] at bk
   rw[Oper.semAt_eq _ _ _ a9,ad6 R hg bk,hy];rw[Oper.uponIn_round];refine⟨λhd=>by rw[r.uk] at hd;simp at hd,RoundIn.mono b7 (λe X he=> ?_)⟩;cases e<;>exact he;exact h.elim;rename_i v b4;refine⟨λf _=>r.fn f, ?_⟩;have a9:∀c,m.o.op≠ .defer c:=λc bb=>by simp[cB,bb] at b4
   rw[Oper.semAt_eq _ _ _ a9,ad7 R hg b4];exact an v s O V a W L (ba.refl _ _ _) (bW.refl _ _) R h;exact h.elim;have br:∀N bs,pF O bs->(dN z m s).gives O N->(j7 z A ops k kp ab N bs).aH p O L->m.o.wpIn F n p.P a W (wpOpsIn F n p.P ops Q (azW (j+1) ab.length)) Q:=by
    intro N bs b8 b5 hs;obtain⟨v,X,V',bl,R',Z⟩:=Jl R al hg m b5;exact yi r bl (Ju b5) (yj a5 a6 r al hH HP ab (j+1) N bs L O V' _ X a8 (hB.go Z (bW.refl _ _)) hs b8 R' hg
     (λU M J I H G E C x w=>hk U M J I H G (Z.trans E) ((bW.refl _ _).trans C Z.ao) x w)
     (λv2 U M J I H G E C x w=>an v2 U M J I H G (Z.trans E) ((bW.refl _ _).trans C Z.ao) x w))
   split at h;rename_i t ht;obtain⟨v,X,O',V',N,a1,bl,R',Z,a3,h2⟩:=aom R al hg a0 ht h;exact yi r bl (aoA ht) (yj a5 a6 r al hH HP ab (j+1) N a1 L O' V' _ X a8 (hB.go Z (bW.refl _ _)) h2 a3 R' (hg.ext Z.ext)
    (λU M J I H G E C x w=>hk U M J I H G (Z.trans E) ((bW.refl _ _).trans C Z.ao) x w)
    (λv2 U M J I H G E C x w=>an v2 U M J I H G (Z.trans E) ((bW.refl _ _).trans C Z.ao) x w))
   split at h;rename_i b hb;obtain⟨hn,h⟩:=h;obtain⟨v,X,rv,bl,ca,R',Z⟩:=U0 R al hg hb hn;exact yi r bl (Vl hb) (yj a5 a6 r al hH HP ab (j+1) b.s (ld s af) L _ V _ X a8 (hB.go Z (bW.refl _ _)) (h rv (by rw[a5];exact ca)) (CO R Z.ext.agree a0) R' (hg.ext Z.ext)
    (λU M J I H G E C x w=>hk U M J I H G (Z.trans E) ((bW.refl _ _).trans C Z.ao) x w)
    (λv2 U M J I H G E C x w=>an v2 U M J I H G (Z.trans E) ((bW.refl _ _).trans C Z.ao) x w))
   split at h;rename_i N bd;exact br N af a0 (by rw[bd];rfl) h;rename_i b N bd;exact br N af a0 (by rw[bd];exact⟨h.1,rfl⟩) h.2;rename_i b s1 U bd;obtain⟨a1,a3,h2⟩:=Vj a0 h;cases hb:b.den O;exact br U a1 a3 (by rw[bd];simp[OR.gives,hb]) (by simpa[hb] using h2);exact br s1 a1 a3 (by rw[bd];simp[OR.gives,hb]) (by simpa[hb] using h2);exact h.elim
  have b1:∀af,pF O af->(j7 z A ops k kp ab (s.put m.o.dst (.bh [])) af).aH p O L->wpOpsIn F n p.P ops Q (azW (j+1) ab.length) (a.put m.o.dst undef) W:=
   λaf a0 h=>yj a5 a6 r al hH HP ab (j+1) _ af L O V _ W a8 (hB.go ((ba.refl _ _ _).put _ _) (bW.refl _ _)) h a0 (R.put m.o.dst (.bh [])) hg
    (λU M J I H G E C x w=>hk U M J I H G (((ba.refl _ _ _).put _ _).trans E) ((bW.refl _ _).trans C ((ba.refl s O V).put _ _).ao) x w)
    (λv2 U M J I H G E C x w=>an v2 U M J I H G (((ba.refl _ _ _).put _ _).trans E) ((bW.refl _ _).trans C ((ba.refl s O V).put _ _).ao) x w)
  simp only[j7,MJ] at h;cases a7:m.o.guard with
  |none=>
   rw[a7] at h;have:Region.wanted m.o (yielded ops a.tmps)=true:=by simp[Region.wanted,a7]
   rw[if_pos this];exact bt fx bo h
  |some q=>
   obtain⟨jj,cc⟩:=q;rw[a7] at h;simp only at h;split at h;rename_i d hd;have hy:=ad5 R hd;split at h;rename_i b hb;have bf:=hy.1 b hb;cases cc;simp only[ayV,if_false] at h;obtain⟨a1,a3,h2⟩:=Vj bo h;cases a4:b.den O;have:Region.wanted m.o (yielded ops a.tmps)=true:=by simp[Region.wanted,a7,bf,a4]
   rw[if_pos this];exact bt a1 a3 (by simpa[a4] using h2);have:¬Region.wanted m.o (yielded ops a.tmps)=true:=by simp[Region.wanted,a7,bf,a4]
   rw[if_neg this];exact⟨λf _=>r.fn f,b1 a1 a3 (by simpa[a4] using h2)⟩;simp only[if_true] at h;obtain⟨a1,a3,h2⟩:=Vj bo h;cases a4:b.den O;have:¬Region.wanted m.o (yielded ops a.tmps)=true:=by simp[Region.wanted,a7,bf,a4]
   rw[if_neg this];exact⟨λf _=>r.fn f,b1 a1 a3 (by simpa[a4] using h2)⟩;have:Region.wanted m.o (yielded ops a.tmps)=true:=by simp[Region.wanted,a7,bf,a4]
   rw[if_pos this];exact bt a1 a3 (by simpa[a4] using h2);rename_i hb;have bf:=hy.2 hb;have:¬Region.wanted m.o (yielded ops a.tmps)=true:=by simp[Region.wanted,a7,bf]
   rw[if_neg this];exact⟨λf _=>r.fn f,b1 fx bo h⟩;exact h.elim;exact h.elim
end
end
section
section
variable{m:List Nat}{o:World}{D:bz}{c:Ty}{V:List Nat}{O:aa}{s:S}{a:Act}{W:World}
def NB(Z:List Nat):∀(l:aX)(n i:Nat),(m9 Z n l)[i]?=(l[i]?).map λx=>if Z.contains (n+i) then x else none
 |[],n,i=>by simp[m9]
 |x::X,n,0=>by simp[m9]
 |x::X,n,i+1=>by
  simp only[m9,azb];rw[NB Z X (n+1) i,show n+1+i=n+(i+1) by omega]
def Vm:∀(l:aX)(i:Nat),bD (qz l) i=bD l i
 |[],i=>rfl
 |x::X,i=>by
  have Z:=Vm X;simp only[qz];split;rename_i U;cases i with
  |zero=>simp[bS]
  |succ i=>
   have:=Z i;rw[U] at this;simpa[bS] using this
  cases i with
  |zero=>simp[bS]
  |succ i=>simpa[bS] using Z i
def ad8{l:aX}{b:TypeId×List SV}(h:bD (qz (m9 R 0 l)) X=some b):bD l X=some b:=by
 rw[Vm,gg,NB] at h;rw[gg];cases Z:l[X]? with
 |none=>rw[Z] at h;cases h
 |some x=>
  rw[Z] at h;simp only[ayI,ayE] at h;split at h;rw[h];cases h
def NC{l:aX}(h:aE (qz (m9 R 0 l)) X=true):aE l X=true:=by
 obtain⟨b,Z⟩:=ayT.1 h;simp[aE,ad8 Z]
def gN.Ur{U:aX}{Q:List RK}(R:gN m o V O U c Q W)(N:List Nat):gN m o V O (qz (m9 N 0 U)) c Q W:=
 ⟨R.base,λi h=>R.own i (NC h),λi j Z X=>R.inj i j (NC Z) (NC X),λi t M h=>R.box i t M (ad8 h),
  λk e P Z X=>⟨(R.ref k e P Z X).1,λb L i J=>(R.ref k e P Z X).2 b L i (NC J)⟩⟩
def ad9{l:aX}{b:TypeId×List SV}(h:bD (qz (l.take X)) I=some b):bD l I=some b:=by
 rw[Vm,gg,ay7] at h;rw[gg];split at h;exact h;cases h
def ND{l:aX}(h:aE (qz (l.take X)) I=true):aE l I=true:=by
 obtain⟨b,Z⟩:=ayT.1 h;simp[aE,ad9 Z]
def gN.take{U:aX}{Q:List RK}(R:gN m o V O U c Q W)(n:Nat):gN m o V O (qz (U.take n)) c Q W:=
 ⟨R.base,λi h=>R.own i (ND h),λi j Z X=>R.inj i j (ND Z) (ND X),λi t N h=>R.box i t N (ad9 h),
  λk e P Z X=>⟨(R.ref k e P Z X).1,λb M i L=>(R.ref k e P Z X).2 b M i (ND L)⟩⟩
def ss:∀(Z:List LK)(s:S),(s.bB Z).2.boxes=s.boxes/\(s.bB Z).2.tmps=s.tmps/\(s.bB Z).2.ao=s.ao/\(s.bB Z).2.lk=s.lk
 |[],s=>⟨rfl,rfl,rfl,rfl⟩
 |k::Z,s=>by
  simp only[S.bB];obtain⟨X,U,R,Q⟩:=ss Z (s.fresh k).2;cases k<;>exact⟨X,U,R,Q⟩
def Vn:∀(Z:List LK)(s:S),(s.bB Z).2.pd=s.pd
 |[],s=>rfl
 |k::Z,s=>by
  simp only[S.bB];rw[Vn Z (s.fresh k).2];cases k<;>rfl
def FE:∀(Z:List XV)(O:aa),(O.ext Z).y=O.y
 |[],O=>rfl
 |x::Z,O=>by
  simp only[aa.ext];rw[FE Z (O.add x)];cases x<;>rfl
def aea:∀(Z:List LK)(s:S)(k:Nat)(e:RK),s.rs[k]?=some e->(s.bB Z).2.rs[k]?=some e
 |[],s,k,e,h=>h
 |q::Z,s,k,e,h=>by
  simp only[S.bB];refine aea Z _ k e ?_;cases q;exact h;exact h;simp only[S.fresh];rw[ayD (ayA.1 h).1];exact h
def ul:∀(Z:List LK)(X:List XV)(s:S)(O:aa),cR Z X->O.i.length=s.ni->O.b.length=s.nb->O.r.length=s.rs.length->
  (O.ext X).i.length=(s.bB Z).2.ni/\(O.ext X).b.length=(s.bB Z).2.nb/\(O.ext X).r.length=(s.bB Z).2.rs.length
 |[],[],s,O,_,U,R,Q=>⟨U,R,Q⟩
 |[],_::_,_,_,h,_,_,_=>by simp[cR] at h
 |_::_,[],_,_,h,_,_,_=>by simp[cR] at h
 |k::Z,x::X,s,O,h,U,R,Q=>by
  obtain⟨N,P⟩:=h;simp only[S.bB,aa.ext];cases k<;>cases x<;>simp[ng] at N;exact ul Z X _ _ P (by simp[S.fresh,aa.add,U]) (by simp[S.fresh,aa.add,R]) (by simp[S.fresh,aa.add,Q]);exact ul Z X _ _ P (by simp[S.fresh,aa.add,U]) (by simp[S.fresh,aa.add,R]) (by simp[S.fresh,aa.add,Q]);exact ul Z X _ _ P (by simp[S.fresh,aa.add,U]) (by simp[S.fresh,aa.add,R]) (by simp[S.fresh,aa.add,Q])
def CP{PP:RK->RV->Prop}:∀(X:List LK)(U:List XV)(s:S)(O:aa),cR X U->O.r.length=s.rs.length->
  (∀(q:Nat)(e:RK)(Z:RV),X[q]?=some (.ref e)->U[q]?=some (.r Z)->PP e Z)->(∀(k:Nat)(e:RK)(Z:RV),s.rs[k]?=some e->O.r[k]?=some Z->PP e Z)->
  ∀(k:Nat)(e:RK)(Z:RV),(s.bB X).2.rs[k]?=some e->(O.ext U).r[k]?=some Z->PP e Z
 |[],[],s,O,_,_,_,P=>P
 |[],_::_,_,_,h,_,_,_=>by simp[cR] at h
 |_::_,[],_,_,h,_,_,_=>by simp[cR] at h
 |k::X,x::U,s,O,h,N,I,P=>by
  obtain⟨M,L⟩:=h;have J:∀(q:Nat)(e:RK)(Z:RV),X[q]?=some (.ref e)->U[q]?=some (.r Z)->PP e Z:=λq e Z R Q=>I (q+1) e Z (by simpa using R) (by simpa using Q)
  simp only[S.bB,aa.ext];cases k<;>cases x<;>simp[ng] at M;exact CP X U _ _ L (by simp[S.fresh,aa.add,N]) J (by simpa[S.fresh,aa.add] using P);exact CP X U _ _ L (by simp[S.fresh,aa.add,N]) J (by simpa[S.fresh,aa.add] using P);rename_i H G;refine CP X U _ _ L (by simp[S.fresh,aa.add,N]) J ?_;intro k e Z R Q;simp only[S.fresh,aa.add] at R Q;by_cases M:k<s.rs.length;rw[ayD M] at R;rw[ayD (by omega)] at Q;exact P k e Z R Q;have F:k=s.rs.length:=by
   have:=(ayA.1 R).1;simp at this;omega
  subst F;simp at R;rw[<-N] at Q;simp at Q;subst R Q;exact I 0 H G rfl rfl
def Ag:List LK->Nat
 |[]=>0
 |.ref _::Z=>Ag Z+1
 |_::Z=>Ag Z
def FF:∀(X:List LK)(R:List XV)(s:S)(O:aa),cR X R->O.r.length=s.rs.length->
  ∀(k:Nat)(e:RK)(U:RV),(s.bB X).2.rs[k]?=some e->(O.ext R).r[k]?=some U->(s.rs[k]?=some e/\O.r[k]?=some U)\/∃q:Nat,X[q]?=some (.ref e)/\R[q]?=some (.r U)/\k=s.rs.length+Ag (X.take q)
 |[],[],s,O,_,_,k,e,U,Q,P=>.inl ⟨Q,P⟩
 |[],_::_,_,_,h,_,_,_,_,_,_=>by simp[cR] at h
 |_::_,[],_,_,h,_,_,_,_,_,_=>by simp[cR] at h
 |I::X,x::R,s,O,h,L,k,e,U,Q,P=>by
  obtain⟨H,J⟩:=h;simp only[S.bB,aa.ext] at Q P;cases I<;>cases x<;>simp[ng] at H;rcases FF X R _ _ J (by simp[S.fresh,aa.add,L]) k e U Q P with Z|⟨q,Z⟩;exact .inl (by simpa[S.fresh,aa.add] using Z);exact .inr ⟨q+1,by simpa[S.fresh,Ag] using Z⟩;rcases FF X R _ _ J (by simp[S.fresh,aa.add,L]) k e U Q P with Z|⟨q,Z⟩;exact .inl (by simpa[S.fresh,aa.add] using Z);exact .inr ⟨q+1,by simpa[S.fresh,Ag] using Z⟩;rename_i E C;rcases FF X R _ _ J (by simp[S.fresh,aa.add,L]) k e U Q P with⟨N,M⟩|⟨q,Z⟩;simp only[S.fresh,aa.add] at N M;by_cases G:k<s.rs.length;rw[ayD G] at N;rw[ayD (by omega)] at M;exact .inl ⟨N,M⟩;have F:k=s.rs.length:=by
   have:=(ayA.1 N).1;simp at this;omega
  subst F;simp at N;rw[<-L] at M;simp at M;subst N M;exact .inr ⟨0,rfl,rfl,by simp[Ag]⟩;refine .inr ⟨q+1,by simpa using Z.1,by simpa using Z.2.1, ?_⟩;have:=Z.2.2;simp[S.fresh] at this;simp[Ag];omega
def aeb:∀{ks:List LK}{q:Nat}{e:RK},ks[q]?=some (.ref e)->IQ ks=true
 |[],q,e,h=>by simp at h
 |k::ks,0,e,h=>by simp at h;subst h;rfl
 |k::ks,q+1,e,h=>by
  have:=aeb (ks:=ks) (q:=q) (by simpa using h);cases k<;>first|exact this|rfl
def NE:∀{X:List LK}{q:Nat}{k:LK},lO X=true->X[q]?=some k->Cu k=true
 |[],q,k,_,h=>by simp at h
 |U::X,0,k,Z,h=>by simp only[lO,ayz] at Z;simp at h;subst h;exact Z.1
 |U::X,q+1,k,Z,h=>by simp only[lO,ayz] at Z;exact NE Z.2 (by simpa using h)
def Vo{B:Nat}{P:Nat->Prop}:∀{Q:List LK}{R:List XV},E9 c W B P Q R->∀(q:Nat)(e:RK)(Z:RV),Q[q]?=some (.ref e)->R[q]?=some (.r Z)->aW W c e Z/\∀b,cm c e Z b->B<=b\/P b
 |[],R,_,q,e,Z,X,_=>by simp at X
 |_::_,[],_,q,e,Z,_,U=>by simp at U
 |k::Q,x::R,h,0,e,Z,X,U=>by simp at X U;subst X U;exact h.1
 |k::Q,x::R,h,q+1,e,Z,X,U=>Vo h.2 q e Z (by simpa using X) (by simpa using U)
def ap.called(R:ap m o D c V O s a W)(A:s.bd=true){X:List LK}(v:lO X=true){Q:List XV}(H:cR X Q)(z:Below W.heap.size W L){u:Nat->Prop}(n:∀b,u b->O.lR c s.rs b/\∀(k:Nat)(e:TypeId)(Z:RV),s.rs[k]?=some (.own e)->O.r[k]?=some Z->Z.hU=some b->IQ X=false)
  (l:E9 c L W.heap.size u X Q):
  ap m o D c V (O.ext Q) (s.bB X).2 a L:=by
 obtain⟨P,j,e3,e4⟩:=ss X s;obtain⟨l1,l2,l3⟩:=ul X Q s O H R.ei R.eb R.er;obtain⟨ab,af⟩:=R.ue A;have g:=yb s.boxes O Q V;have N:=R.mem.below z;refine⟨⟨N.base,by rw[P];exact N.own,by rw[P];exact N.inj, ?_, ?_⟩,by rw[P];exact R.dS,l1,l2,l3,by rw[FE,Vn];exact R.bY.below z,by rw[j];exact R.size, ?_, ?_⟩;rw[P];intro i t cs h;rw[g.bX (ot af h)];exact N.box i t cs h;rw[P];refine CP (PP:=λe Z=>aW L c e Z/\∀b,cm c e Z b->∀i,aE s.boxes i=true->ad V i≠b) X Q s O H R.er ?_ (λk e Z U M=>N.ref k e Z U M);intro q e Z U M;obtain⟨G,h4⟩:=Vo l q e Z U M;refine⟨G,λb A i f=> ?_⟩;rcases h4 b A with J|J;have:=R.mem.lt f;omega;obtain⟨⟨k,F,d,hx⟩,-⟩:=n b J;exact(R.mem.ref k _ _ d (pE R d)).2 b hx i f;rw[j];intro t sv h;rcases R.tmps t sv h with U|U;exact .inl U;right;rw[g.den (qG ab h)];exact U;rw[P];intro k e Z b U M G;rcases FF X Q s O H R.er k _ Z U M with⟨E,y⟩|⟨q,E,y,-⟩;have t:=R.dK k e Z b E y G;have C:=t.world (z.block b t.lt);refine⟨C.own,C.mem,C.box,λk' F x q1 q2 q3 B=> ?_,C.inner⟩;rcases FF X Q s O H R.er k' F x q2 q3 with⟨I,w⟩|⟨q,I,w,-⟩;exact t.alone k' F x q1 I w B;have hr:=aeb I;obtain⟨p3,p4⟩:=Vo l q F x I w;rcases B with B|⟨⟨t0,rfl⟩,_⟩;rcases p4 b B with J|J;have:=t.lt;omega;have:=(n b J).2 k e Z E y G;rw[hr] at this;cases this;have:=NE v I;simp[Cu] at this;have:=NE v E;simp[Cu] at this
def aec(R:ap m o D c V O s a W){L:List LK}(h:O.lR c (IS Q s.rs) X):
  O.lR c (xP Q L s.rs) X/\∀(k:Nat)(e:TypeId)(M:RV),(xP Q L s.rs)[k]?=some (.own e)->O.r[k]?=some M->M.hU=some X->IQ L=false:=by
 obtain⟨U,z,Z,H⟩:=h;unfold IS at Z;rw[UL] at Z;cases P:s.rs[U]? with
 |none=>rw[P] at Z;cases Z
 |some x=>
  rw[P] at Z;simp only[ay9,ayI,ayE] at Z;have G:=adh ((IR Q s.rs.length).contains U) x;rw[Z] at G;have N:cm c x (O.rv U) X:=H.jP G;refine⟨?_,λk e M J C B=> ?_⟩;unfold xP;split;refine⟨U,tV ((IR Q s.rs.length).contains U) x,by rw[Fq,P];simp, ?_⟩;cases x<;>simp only[tV]<;>try exact N
  split;cases N with
  |own e M X N=>exact N
  exact N;exact⟨U,x,P,N⟩;unfold xP at J;split at J;rename_i F;exfalso;obtain⟨I,A⟩:=UR J;by_cases E:U=k;subst E;rw[P] at I;cases I;simp only[IJ] at Z;rw[if_neg (by simpa using A)] at Z;subst Z;cases H;exact(R.dK k e M X I C B).alone U x (O.rv U) E P (pE R P) (.inl N);rename_i F;simpa using F
def Ah(X:List SV)(U:List LK)(Z:List RK):lS Z (xP X U Z):=by
 unfold xP;split;exact Nd _ _;exact lS.refl _
end
section
variable{p:Sp}{d:aY}
def aed(E:p.ty=d.ty)(x:∀g,(d.sig g).isSome=true->∀Z W,(callFunc g Z).run p.P W=.ok (.enter g Z) W)
  (D:bz)(L:List LC)(g:FuncId)(Z:List SV)(s:S)(k:SV->S->T)(O:aa)(V:List Nat)(a:Act)(W:World)(I:Ending->World->Prop)
  (h:(tZ d g Z s k).aH p O L)(R:ap p.S0 p.w0 D d.ty V O s a W)
  (w:∀v H N G X C,ba s O V H N G->bW s.ao L C->ap p.S0 p.w0 D d.ty G N H a X->(k v H).aH p N C->I (.returned (v.den N G)) X)
  (u:∀M X t y,cG p.w0 D t y a.defers X->p.R (.panicked M) X->I (.panicked M) X):
  (∀Z W,(callFunc g Z).run p.P W=.ok (.enter g Z) W)/\Calls p.P g (SV.au O V Z).toArray W I:=by
 unfold tZ at h;split at h;rename_i ts r;refine⟨x g (by rw[r];rfl), ?_⟩;split at h;rename_i Q ab;split at h;rename_i l hl;split at h;rename_i U;simp only[S.cV,ayz] at U;obtain⟨U,q⟩:=U;simp only[T.aH] at h;have:=h O.y V W (by rw[E];exact(R.mem.Ur _).jP (adi _ _));refine this.mono ?_;intro e X J;cases e with
 |returned v=>
  obtain⟨F,n,B,j,A,i⟩:=J;rw[E] at A;obtain⟨z,e2,f,e4⟩:=ss Q (s.cut Z Q);have hy:(O.ext F).at O.y=O.ext F:=by have:=FE F O;unfold aa.at;rw[<-this]
  rw[hy] at B;subst B;have R1:ap p.S0 p.w0 D d.ty V O (s.cut Z Q) a W:=R.jP (Ah Z Q s.rs);exact w _ _ _ V X L ⟨yb _ _ _ _,by rw[z];exact λ_ h=>h,by rw[z];exact ayH _,by rw[f];exact ayH _⟩ (bW.refl _ _) (R1.called (Jk U.1 (Ah Z Q s.rs).len) q n j (λb U=>aec R U) A) i
 |panicked M=>exact u M X _ _ (R.bY.below J.1) J.2
 |outgrown=>exact J.elim
 exact h.elim;exact h.elim;exact h.elim;exact h.elim
def Vp{m:List Nat}{o:World}{D:bz}{V:List Nat}{O:aa}{s:S}{a:Act}{W:World}(R:ap m o D d.ty V O s a W)(Q:fz p.P d.ty)(f:ResultVar->Sem Value)(N:∀t,f (.tmp t)=pure (a.tmps.getD t undef))(M:∀x t,f (.cell x t)=(asAddr (a.tmps.getD x undef)>>=λy=>loadVar t y)):
  ∀(Z:List ResultVar)(l:List SV),pu d s Z=some l->(Z.mapM f).run p.P W=.ok (SV.au O V l) W
 |[],l,h=>by simp[pu] at h;subst h;rfl
 |.tmp t::Z,l,h=>by
  simp only[pu] at h;split at h;rename_i L J;split at h;cases h;rename_i G;cases h;have U:=bQ (gl:=[]) R (λ_ X=>by cases X) (.tmp t) (by simpa[S.ev,rV] using G);simp only[Act.eval,S.ev,rV] at U;simp only[aBT,Sem.run_bind,N,Sem.run_pure,Result.andThen_ok,Vp R Q f N M Z L J,SV.au,U];cases h
 |.cell x t::Z,l,h=>by
  simp only[pu] at h;split at h;rename_i L i w u J X F;split at h;rename_i E C I;split at h;rename_i v B;cases h;have U:=bQ (gl:=[]) R (λ_ X=>by cases X) (.tmp x) (by simp only[S.ev,rV,X];rfl);simp only[Act.eval,S.ev,rV,X,SV.den] at U;have H:=M4 (P:=p.P) (W:=W) (Q _ _ F) (O:=O) (V:=V) (b:=ad V i) (base:=0) B (λj y A=>by
   obtain⟨I,z⟩:=ud I;have:=R.mem.box i E C I;rw[ou z] at this;simp[World.cell?,this,ol,A])
  simp only[Instr.loadAt,Instr.sureAddr,ay9,Sem.run_bind,Sem.run_pure,Result.andThen_ok] at H;simp only[aBT,Sem.run_bind,M,U,asAddr,Sem.run_pure,Result.andThen_ok,H,Vp R Q f N M Z L J,SV.au];cases h;cases h;cases h
def Jv{D:bz}{V:List Nat}{W:World}(Z:ap R L D d.ty V J G i W)(U:fz p.P d.ty){X:Func}{l:List SV}(h:pu d G X.results.toList=some l):
  (results X i.tmps).run p.P W=.ok ((one l).den J V) W:=by
 unfold results;rw[aBw];simp only[Sem.run_bind,Sem.run_map];rw[Vp Z U _ (λ_=>rfl) (λ_ _=>rfl) X.results.toList l h];simp only[Result.andThen_ok,Sem.run_pure];congr 1
 match l with
 |[]=>rfl
 |[v]=>rfl
 |v::w::r=>rfl
end
end
end
end Go.Proofs.YtieaiocljdpebaaGreatDoor.Y
