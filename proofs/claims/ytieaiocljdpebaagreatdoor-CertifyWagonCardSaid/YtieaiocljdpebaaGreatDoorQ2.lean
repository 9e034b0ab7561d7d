/- Part 2 of the proof; the last part says what is shown. -/
import Derived.Test.YtieaiocljdpebaaGreatDoorQ1
import Derived.Laws.AppendOwn
import Derived.IntWalk
import Derived.RangeFuncRecord
import Derived.Maps.RangeRun
import Derived.RangeFuncSeq
set_option linter.defProp false
set_option linter.unusedVariables false
set_option linter.unusedSimpArgs false
set_option linter.unnecessarySimpa false
open Bool renaming and_eq_true→awF,not_eq_true'→awY,false_eq_true→aw0,or_eq_true→aw9,eq_iff_iff→axO,not_eq_false→ax8,true_and→ayu,and_true→ayG,or_eq_true_iff→azs
open List renaming getElem?_eq_some_iff→awG,getElem?_eq_getElem→awH,getElem?_append_left→awI,getD_eq_getElem?_getD→awK,getElem?_map→awL,getElem?_append_right→awM,mem_cons→awP,length_append→awQ,mem_append→awR,replicate→awS,map_cons→awT,all_eq_true→awU,cons_append→awV,nil_append→awX,mem_of_getElem?→aw1,range→aw3,getElem?_eq_none→aw4,map_congr_left→aw5,mem_map→aw7,eq_nil_of_length_eq_zero→axa,length_eq_one_iff→axb,getElem?_take→axc,ext_getElem?→axd,any_eq_true→axe,contains_iff_mem→axg,getElem?_cons_succ→axh,getElem?_drop→axl,length_cons→axm,mem_filter→axr,getElem?_set_ne→axs,map_map→axu,getElem?_of_mem→axv,getElem?_eq_none_iff→axA,length_map→axB,getElem?_set→axC,drop_eq_getElem_cons→axE,mem_of_mem_drop→axG,length_take→axJ,getElem?_replicate→axK,mem_of_mem_take→axL,size_toArray→axQ,mem_cons_of_mem→axS,length_drop→axW,take_of_length_le→axX,map_nil→ax0,range'→ax2,getElem?_range→ax3,foldl_cons→ax4,append_assoc→ax9,getElem?_set_self→ayc,mem_of_find?_eq_some→ayg,toList_toArray→ayn,map_append→ayq,range_eq_range'→ayv,drop_drop→ayw,append_toArray→ayB,all_cons→ayF,zip_cons_cons→ayH,mem_singleton→ayJ,replicate_one→ayK,take_append_of_le_length→ayP,range'_succ→ayU,length→ayW,find?_some→ayY,getElem?_zip_eq_some→ay0,length_erase_of_mem→ay4,flatMap_cons→ay6,drop_eq_nil_of_le→ay9,length_singleton→azf,mem_erase_of_ne→azn,drop_append_of_le_length→azr,drop_zero→azt,drop_of_length_le→azQ,length_pos_of_mem→azR,mapM_cons→azV,getElem?_modify→az1,getElem?_append→az2,map_set→aAd
open Option.some renaming injEq→awJ
open Nat renaming le_refl→awN,zero_add→axf,le_trans→axn,add_mul→axI,zero_le→axN,eq_zero_or_pos→axT,mul_le_mul_right→axU,add_zero→ax1,add_assoc→ayk,mod_lt→ayI,mul_comm→ay3,div_lt_of_lt_mul→azj,div_add_mod→azk,sub_self→azl,min_eq_left→azm,mul_le_mul→azW,lt_or_gt_of_ne→aAc
open Option renaming map_some→awO,isSome_iff_exists→awZ,getD_some→axi,isNone_iff_eq_none→azE
open Array renaming toList_map→axq,ext'→axD,length_toList→axP,getElem?_toList→ayS,getElem?_eq_getElem→ayZ,toList_range→azv,mapM_eq_mapM_toList→azD,range→azP,mem_filter→aAq
open Int renaming toNat_natCast→axy
open List.cons renaming injEq→axH
open Prod.mk renaming injEq→ayl
namespace Go.Proofs.YtieaiocljdpebaaGreatDoor.Y
open Go.RowKit
noncomputable section
section
def Fa(Z:List Nat):∀(l:List RK)(n i:Nat),(gj Z n l)[i]?=(l[i]?).map λx=>if Z.contains (n+i) then .dead else x
 |[],n,i=>by simp[gj]
 |x::xs,n,0=>by simp[gj]
 |x::xs,n,i+1=>by
  simp only[gj,axh];rw[Fa Z xs (n+1) i,show n+1+i=n+(i+1) by omega]
def Fb(Z:List Nat):∀(l:List RK)(n i:Nat),(iQ Z n l)[i]?=(l[i]?).map (tO (Z.contains (n+i)))
 |[],n,i=>by simp[iQ]
 |x::xs,n,0=>by simp[iQ]
 |x::xs,n,i+1=>by
  simp only[iQ,axh];rw[Fb Z xs (n+1) i,show n+1+i=n+(i+1) by omega]
def TF(Z:List Nat):∀(l:List RK)(n i:Nat),(xC Z n l)[i]?=(l[i]?).map (IC (Z.contains (n+i)))
 |[],n,i=>by simp[xC]
 |x::xs,n,0=>by simp[xC]
 |x::xs,n,i+1=>by
  simp only[xC,axh];rw[TF Z xs (n+1) i,show n+1+i=n+(i+1) by omega]
def vT(Z:List Nat):∀(l:List RK)(n:Nat),(gj Z n l).length=l.length
 |[],n=>rfl
 |x::xs,n=>by simp[gj,vT Z xs (n+1)]
def vU(Z:List Nat):∀(l:List RK)(n:Nat),(iQ Z n l).length=l.length
 |[],n=>rfl
 |x::xs,n=>by simp[iQ,vU Z xs (n+1)]
def abP(Z:List Nat):∀(l:List RK)(n:Nat),(xC Z n l).length=l.length
 |[],n=>rfl
 |x::xs,n=>by simp[xC,abP Z xs (n+1)]
def mR(e Z:RK):Prop:=Z=e\/Z=.dead\/∃t,e=.own t/\Z=.sl t
structure mh(rs rs':List RK):Prop where
 len:rs'.length=rs.length
 get:∀(k:Nat)(e':RK),rs'[k]?=some e'->∃e,rs[k]?=some e/\mR e e'
def mh.refl(rs:List RK):mh rs rs:=⟨rfl,λk e h=>⟨e,h,.inl rfl⟩⟩
def mR.trans{a b c:RK}(h:mR a b)(k:mR b c):mR a c:=by
 rcases k with rfl|rfl|⟨t,rfl,rfl⟩;exact h;exact .inr (.inl rfl);rcases h with h|h|⟨X,V,Z⟩;exact .inr (.inr ⟨t,h.symm,rfl⟩);cases h;cases Z
def mh.trans{a b c:List RK}(h:mh a b)(k:mh b c):mh a c:=
 ⟨k.len.trans h.len,λi e Z=>let⟨e1,X,V⟩:=k.get i e Z;let⟨U,R,Q⟩:=h.get i e1 X;⟨U,R,Q.trans V⟩⟩
def amm(b:Bool)(e:RK):mR e (tO b e):=by
 cases e<;>simp only[tO]
 case own t=>cases b;exact .inl rfl;exact .inr (.inr ⟨t,rfl,rfl⟩)
 all_goals exact .inl rfl
def abQ(b:Bool)(e:RK):mR e (IC b e):=by
 cases e<;>simp only[IC]
 case own t=>cases b;exact .inr (.inl rfl);exact .inr (.inr ⟨t,rfl,rfl⟩)
 all_goals exact .inl rfl
def MX(X:List Nat)(rs:List RK):mh rs (iQ X 0 rs):=by
 refine⟨vU _ _ _,λk V h=> ?_⟩;rw[Fb] at h;cases Z:rs[k]? with
 |none=>rw[Z] at h;cases h
 |some e=>rw[Z] at h;simp only[awO,awJ] at h;exact⟨e,rfl,h▸amm _ e⟩
def abR(X:List Nat)(rs:List RK):mh rs (xC X 0 rs):=by
 refine⟨abP _ _ _,λk V h=> ?_⟩;rw[TF] at h;cases Z:rs[k]? with
 |none=>rw[Z] at h;cases h
 |some e=>rw[Z] at h;simp only[awO,awJ] at h;exact⟨e,rfl,h▸abQ _ e⟩
def aT.j9{W:World}{ty:Ty}{e Z:RK}{rv:RV}(h:aT W ty e rv)(w:mR e Z):aT W ty Z rv:=by
 rcases w with rfl|rfl|⟨t,rfl,rfl⟩;exact h;exact aT.dead rv (E0 h);exact abs h
def cn.j9{ty:Ty}{e Z:RK}{rv:RV}{b:Nat}(w:mR e Z)(h:cn ty Z rv b):cn ty e rv b:=by
 rcases w with rfl|rfl|⟨t,rfl,rfl⟩;exact h;cases h;exact cn.own _ _ _ h
def tV.j9{ty:Ty}{e X:RK}{rv:RV}{b:Nat}(w:mR e X)(h:tV ty X rv b):tV ty e rv b:=by
 rcases h with h|⟨⟨t,rfl⟩,h⟩;exact .inl (h.j9 w);rcases w with rfl|Z|⟨V,_,Z⟩;exact .inr ⟨⟨t,rfl⟩,h⟩;cases Z;cases Z
def mR.own{e:RK}{t:TypeId}(w:mR e (.own t)):e=.own t:=by
 rcases w with h|h|⟨Z,_,h⟩;exact h.symm;cases h;cases h
section
variable{S0:List Nat}{w0:World}{D:bw}{P:Program}{ty:Ty}{gl:List (Nat×Nat×Nat)}{β:List Nat}{ρ:aa}{s:S}{a:Act}{W:World}
def gP.j9{bx:aX}{rs Z:List RK}(R:gP S0 w0 β ρ bx ty rs W)(h:mh rs Z):gP S0 w0 β ρ bx ty Z W:=
 ⟨R.base,R.own,R.inj,R.box,λk e rv Q X=>let⟨e0,V,U⟩:=h.get k e Q;⟨(R.ref k e0 rv V X).1.j9 U,λb O i hi=>(R.ref k e0 rv V X).2 b (O.j9 U) i hi⟩⟩
def ao.j9(R:ao S0 w0 D ty β ρ s a W){Z:List RK}(h:mh s.rs Z):ao S0 w0 D ty β ρ {s with rs:=Z} a W:=by
 refine⟨R.mem.j9 h,R.dX,R.ei,R.eb,R.er.trans h.len.symm,R.bT,R.size,R.tmps,λk e rv b V U Q=> ?_⟩;obtain⟨e0,O,N⟩:=h.get k _ V;have:=N.own;subst this;have t:=R.cO k e rv b O U Q;exact⟨t.own,t.mem,t.box,λX M L J I H G=>let⟨e1,F,E⟩:=h.get X M I;t.alone X e1 L J F H (G.j9 E),t.inner⟩
def ao.dl(R:ao S0 w0 D ty β ρ s a W){k:Nat}{e:TypeId}{rv:RV}(C:s.rs[k]?=some (.own e))(q:ρ.r[k]?=some rv){W':World}(Q:W.grownBy W' rv.iC):
  ao S0 w0 D ty β ρ {s with rs:=gj [k] 0 s.rs} a W':=by
 have G:∀Z V,(gj [k] 0 s.rs)[Z]?=some V->(Z=k/\V=.dead)\/(Z≠k/\s.rs[Z]?=some V):=by
  intro Z V h;rw[Fa] at h;cases B:s.rs[Z]? with
  |none=>rw[B] at h;cases h
  |some x=>
   rw[B] at h;simp only[axf,awO,awJ] at h;by_cases U:Z=k;subst U;left;simp at h;exact⟨rfl,h.symm⟩;right;simp[U] at h;exact⟨U,by rw[h]⟩
 have M:∀b,rv.iC=some b->tW S0 w0 β ρ s.boxes ty s.rs W k e rv b:=λb X=>R.cO k e rv b C q X
 have p:bS S0 w0 W':=R.mem.base.grown Q (λb X=>((M b X).own).symm);refine⟨⟨p,R.mem.own,R.mem.inj,λi t cs h=> ?_,λZ V O F N=> ?_⟩,R.dX,R.ei,R.eb,by simp[vT];exact R.er, ?_,R.size,R.tmps,λZ V O b F N L=> ?_⟩;rw[Q.block _ (R.mem.lt (by simp[aA,h])) (λX=>(M _ X.symm).box i (by simp[aA,h]) rfl)];exact R.mem.box i t cs h;rcases G Z V F with⟨rfl,rfl⟩|⟨J,I⟩;refine⟨aT.dead _ ?_,λb X=>by cases X⟩;exact E0 (R.mem.ref Z _ O C N).1;obtain⟨L,n⟩:=R.mem.ref Z V O I N;exact⟨L.E8 (λb X=>Q.block b (L.lt X) (λU=>(M b U.symm).alone Z V O J I N (.inl X))) Q.size,n⟩;cases X:rv.iC with
 |none=>exact R.bT.world λb o h _=>(Q.block b (vS h) (by rw[X];simp)).trans h
 |some m=>
  obtain⟨A,cap,z,y,E,w⟩:=(M m X).mem;exact R.bT.cells E (λb J l=>Q.block b l (λe=>J (by rw[X] at e;cases e;rfl)))
 rcases G Z _ F with⟨-,U⟩|⟨J,I⟩;cases U;have t:=R.cO Z V O b I N L;have j:W'.heap[b]?=W.heap[b]?:=Q.block b t.lt (λU=>(M b U.symm).alone Z _ O J I N (.inr ⟨⟨V,rfl⟩,L⟩));obtain⟨A,cap,z,y,E,w⟩:=t.mem;refine⟨t.own,⟨A,cap,z,y,j.trans E,w⟩,t.box,λv u g f d c H=> ?_,t.inner⟩;rcases G v u d with⟨rfl,rfl⟩|⟨_,af⟩;rcases H with H|⟨⟨t',ag⟩,_⟩;cases H;cases ag;exact t.alone v u g f af c H
def ao.grown(R:ao S0 w0 D ty β ρ s a W){W':World}(Z:W.grownBy W' none):ao S0 w0 D ty β ρ s a W':=
 R.below ⟨Z.os,Z.tape,Z.output,Z.size,λk X=>Z.block k X (by simp)⟩
def oB(bx:aX)(ρ:aa)(x:XV)(β:List Nat):j8 bx ρ (ρ.add x) β β:=by
 have h:=xT bx ρ [x] β;exact h
def Cx{rv:RV}{k:Nat}{v:RV}(h:(ρ.add (.r rv)).r[k]?=some v):(k<ρ.r.length/\ρ.r[k]?=some v)\/(k=ρ.r.length/\v=rv):=by
 simp only[aa.add] at h;by_cases Z:k<ρ.r.length;rw[awI Z] at h;exact .inl ⟨Z,h⟩;have:k=ρ.r.length:=by have:=(awG.1 h).1;simp at this;omega
 subst this;simp at h;exact .inr ⟨rfl,h.symm⟩
structure amn(S0:List Nat)(w0:World)(β:List Nat)(ρ:aa)(bx:aX)(ty:Ty)(rs:List RK)(W:World)(e:TypeId)(rv:RV)(b:Nat):Prop where
 own:w0.heap.size<=b\/b∈S0
 mem:∃len cap cur,rv.val=.slice (some ⟨b,0,none⟩) len cap/\W.heap[b]?=some (.cells cur e (0,0))/\len<=cap/\cap<=maxLen/\cur.size=cap*(aW ty (.sl e)).length
 box:∀i,aA bx i=true->ad β i≠b
 alone:∀(k':Nat)(e':RK)(rv':RV),rs[k']?=some e'->ρ.r[k']?=some rv'->¬tV ty e' rv' b
 inner:¬j5 ty e rv.rows b
def ao.add(R:ao S0 w0 D ty β ρ s a W)(C:s.bd=true){V:RK}{rv:RV}(B:aT W ty V rv)(A:∀b,cn ty V rv b->∀i,aA s.boxes i=true->ad β i≠b)
  (z:∀(k:Nat)(e:TypeId)(O:RV)(b:Nat),s.rs[k]?=some (.own e)->ρ.r[k]?=some O->O.iC=some b->¬tV ty V rv b)
  (y:∀e b,V=.own e->rv.iC=some b->amn S0 w0 β ρ s.boxes ty s.rs W e rv b):ao S0 w0 D ty β (ρ.add (.r rv)) {s with rs:=s.rs++[V]} a W:=by
 obtain⟨x,w⟩:=R.tY C;have H:=oB s.boxes ρ (.r rv) β;have aM:∀{k:Nat}{e:RK},(s.rs++[V])[k]?=some e->(k<ρ.r.length/\s.rs[k]?=some e)\/(k=ρ.r.length/\e=V):=by
  intro k e h;rw[R.er];by_cases N:k<s.rs.length;rw[awI N] at h;exact .inl ⟨N,h⟩;have:k=s.rs.length:=by have:=(awG.1 h).1;simp at this;omega
  subst this;simp at h;exact .inr ⟨rfl,h.symm⟩
 refine⟨⟨R.mem.base,R.mem.own,R.mem.inj,λi t cs h=> ?_,λk e v Z U=> ?_⟩,R.dX,R.ei,R.eb,by simp[aa.add,R.er],R.bT,R.size,λt u h=> ?_,λk e v b Z U M=> ?_⟩;rw[H.b9 (oz w h)];exact R.mem.box i t cs h;rcases aM Z with⟨N,Z⟩|⟨rfl,rfl⟩;rcases Cx U with⟨_,U⟩|⟨rfl,rfl⟩;exact R.mem.ref k e v Z U;omega;rcases Cx U with⟨N,_⟩|⟨_,rfl⟩;omega;exact⟨B,A⟩;rcases R.tmps t u h with Z|Z;exact .inl Z;right;rw[H.den (qn x h)];exact Z;rcases aM Z with⟨N,G⟩|⟨rfl,q⟩;rcases Cx U with⟨_,F⟩|⟨rfl,rfl⟩;have t:=R.cO k e v b G F M;refine⟨t.own,t.mem,t.box,λL J O I Q X=> ?_,t.inner⟩;rcases aM Q with⟨E,Q⟩|⟨E,p⟩;rcases Cx X with⟨_,X⟩|⟨rfl,rfl⟩;exact t.alone L J O I Q X;omega;rcases Cx X with⟨n,_⟩|⟨_,o⟩;omega;rw[p,o];exact z k e v b G F M;omega;rcases Cx U with⟨N,_⟩|⟨_,rfl⟩;omega;have t:=y e b q.symm M;refine⟨t.own,t.mem,t.box,λL J O I Q X=> ?_,t.inner⟩;rcases aM Q with⟨E,Q⟩|⟨rfl,_⟩;rcases Cx X with⟨_,X⟩|⟨rfl,rfl⟩;exact t.alone L J O Q X;omega;exact absurd rfl I
end
end
section
structure dB(W:World)(ty:Ty)(e:TypeId)(rows:List (List RV)):Prop where
 len:∀(i:Nat)(row:List RV),rows[i]?=some row->row.length=(aW ty (.sl e)).length
 int:∀(i j:Nat)(row:List RV)(c:RV)(k:IntKind),rows[i]?=some row->row[j]?=some c->(aW ty (.sl e))[j]?=some (.int k)->∃n,c.val=.int k n
 bool:∀(i j:Nat)(row:List RV)(c:RV),rows[i]?=some row->row[j]?=some c->(aW ty (.sl e))[j]?=some .bool->∃x,c.val=.bool x
 ar:∀(i j:Nat)(row:List RV)(c:RV)(z:Value)(k:RK),rows[i]?=some row->row[j]?=some c->(aW ty (.sl e))[j]?=some (.ar z k)->aT W ty k c
def cH(rows:List (List RV)):List Value:=rows.flatMap λrow=>row.map RV.val
def vV{w:Nat}:∀{rows:List (List RV)},(∀(i:Nat)(row:List RV),rows[i]?=some row->row.length=w)->(cH rows).length=rows.length*w
 |[],_=>by simp[cH]
 |r::rs,h=>by
  have X:=h 0 r rfl;have Z:=vV (rows:=rs) (λi row V=>h (i+1) row (by simpa using V));simp only[cH,ay6,awQ,axB,axm,X] at Z⊢;rw[Z,axI];omega
def Jb{w:Nat}:∀{rows:List (List RV)},(∀(i:Nat)(row:List RV),rows[i]?=some row->row.length=w)->∀{i j:Nat}{row:List RV}{c:RV},rows[i]?=some row->row[j]?=some c->(cH rows)[i*w+j]?=some c.val
 |[],_,i,j,row,c,h,_=>by simp at h
 |r::rs,h,0,j,row,c,Z,X=>by
  simp at Z;subst Z;have R:j<r.length:=(awG.1 X).1;simp only[cH,ay6,Nat.zero_mul,axf];rw[awI (by simpa using R)];simp[X]
 |r::rs,h,i+1,j,row,c,Z,X=>by
  have V:=h 0 r rfl;have U:=Jb (rows:=rs) (λi row Q=>h (i+1) row (by simpa using Q)) (i:=i) (by simpa using Z) X;simp only[cH,ay6] at U⊢;rw[awM (by simp[V,axI];omega)];rw[<-U];congr 1;simp[V,axI];omega
def Fc{w:Nat}:∀{rows:List (List RV)},(∀(i:Nat)(row:List RV),rows[i]?=some row->row.length=w)->∀{q:Nat}{u:Value},(cH rows)[q]?=some u->∃i j row c,rows[i]?=some row/\row[j]?=some c/\q=i*w+j/\u=c.val
 |[],_,q,u,h=>by simp[cH] at h
 |r::rs,h,q,u,Z=>by
  have M:=h 0 r rfl;simp only[cH,ay6] at Z;by_cases V:q<r.length;rw[awI (by simpa using V),awL] at Z;cases X:r[q]? with
  |none=>rw[X] at Z;cases Z
  |some c=>rw[X] at Z;simp at Z;exact⟨0,q,r,c,rfl,X,by simp,Z.symm⟩
  rw[awM (by simp;omega)] at Z;obtain⟨i,j,row,c,U,R,Q,O⟩:=Fc (rows:=rs) (λi row N=>h (i+1) row (by simpa using N)) Z;refine⟨i+1,j,row,c,by simpa using U,R, ?_,O⟩;simp only[axB] at Q;rw[axI];omega
def TG(a b:List (List RV)):cH (a++b)=cH a++cH b:=by simp[cH]
section
variable{W W':World}{ty:Ty}{e:TypeId}{rows ay:List (List RV)}
def dB.t7{v:Value}(h:aT W ty (.sl e) (.mk v rows)):dB W ty e rows:=by
 cases h with
 |sl e A R cap rows Q O Z hi X V=>exact⟨λi row U=>(Z i row U).1,hi,X,V⟩
def qr{A:Option Addr}{Z cap:Nat}(h:aT W ty (.sl e) (.mk (.slice A Z cap) rows)):rows.length=Z/\Z<=cap:=by
 cases h with
 |sl e A Z cap rows X V U hi R Q=>exact⟨X,V⟩
def Jc{A:Option Addr}{Z cap:Nat}(h:aT W ty (.sl e) (.mk (.slice A Z cap) rows)):∀(q:Nat)(u:Value),(cH rows)[q]?=some u->∃b off,A=some ⟨b,off,none⟩/\(∃cs t fr,W.heap[b]?=some (.cells cs t fr))/\W.cell? ⟨b,off+q,none⟩=some u:=by
 intro q u X;have V:=dB.t7 h;obtain⟨i,j,row,c,U,R,rfl,rfl⟩:=Fc V.len X;cases h with
 |sl e A Z cap rows M L Q hi J I=>
  obtain⟨-,b,off,rfl,O,N⟩:=Q i row U;exact⟨b,off,rfl,O,by rw[<-ayk];exact N j c R⟩
def TH(h:dB W ty e rows){b off cap:Nat}(X:∃cs t fr,W.heap[b]?=some (.cells cs t fr))(V:∀(q:Nat)(u:Value),(cH rows)[q]?=some u->W.cell? ⟨b,off+q,none⟩=some u)(U:rows.length<=cap):aT W ty (.sl e) (.mk (.slice (some ⟨b,off,none⟩) rows.length cap) rows):=
 aT.sl e _ _ _ _ rfl U (λi row Z=>⟨h.len i row Z,b,off,rfl,X,λj c R=>by
  have:=V _ _ (Jb h.len Z R)
  rwa [<-ayk] at this⟩) h.int h.bool h.ar
def xW(A:Option Addr)(cap:Nat):aT W ty (.sl e) (.mk (.slice A 0 cap) []):=
 aT.sl e _ _ _ _ rfl (axN _) (λi row Z=>by simp at Z) (λi j row c k Z=>by simp at Z) (λi j row c Z=>by simp at Z) (λi j row c z k Z=>by simp at Z)
def dB.single(h:dB W ty e rows):∀u∈cH rows,fw u=true:=by
 intro u R;obtain⟨q,Q⟩:=axv R;obtain⟨i,j,row,c,Z,X,rfl,rfl⟩:=Fc h.len Q;have N:j<(aW ty (.sl e)).length:=by rw[<-h.len i row Z];exact(awG.1 X).1
 cases V:(aW ty (.sl e))[j]? with
 |none=>rw[axA] at V;omega
 |some O=>
  cases O with
  |int k=>obtain⟨n,U⟩:=h.int i j row c k Z X V;rw[U];rfl
  |bool=>obtain⟨n,U⟩:=h.bool i j row c Z X V;rw[U];rfl
  |ar z k=>exact E0 (h.ar i j row c z k Z X V)
def dB.world(h:dB W ty e rows)(U:∀b,j5 ty e rows b->W'.heap[b]?=W.heap[b]?)(R:W.heap.size<=W'.heap.size):dB W' ty e rows:=
 ⟨h.len,h.int,h.bool,λi j row c z k Z X V=>(h.ar i j row c z k Z X V).E8 (λb Q=>U b ⟨i,j,row,c,z,k,Z,X,V,Q⟩) R⟩
def dB.lt(h:dB W ty e rows){b:Nat}(Z:j5 ty e rows b):b<W.heap.size:=by
 obtain⟨i,j,row,c,z,k,X,V,U,R⟩:=Z;exact(h.ar i j row c z k X V U).lt R
def dB.nil:dB W ty e []:=⟨λi row h=>by simp at h,λi j row c k h=>by simp at h,λi j row c h=>by simp at h,λi j row c z k h=>by simp at h⟩
def Jd{a b:List (List RV)}{i:Nat}{row:List RV}(h:(a++b)[i]?=some row):a[i]?=some row\/b[i-a.length]?=some row:=by
 by_cases hi:i<a.length;rw[awI hi] at h;exact .inl h;rw[awM (by omega)] at h;exact .inr h
def dB.jG(h:dB W ty e rows)(X:dB W ty e ay):dB W ty e (rows++ay):=
 ⟨λi row Z=>(Jd Z).elim (h.len _ _) (X.len _ _),λi j row c k Z=>(Jd Z).elim (h.int _ _ _ _ _) (X.int _ _ _ _ _),
  λi j row c Z=>(Jd Z).elim (h.bool _ _ _ _) (X.bool _ _ _ _),λi j row c z k Z=>(Jd Z).elim (h.ar _ _ _ _ _ _) (X.ar _ _ _ _ _ _)⟩
def amo{b:Nat}(h:j5 ty e (rows++ay) b):j5 ty e rows b\/j5 ty e ay b:=by
 obtain⟨i,j,row,c,z,k,Z,X,V,U⟩:=h;exact(Jd Z).imp (λZ=>⟨_,j,row,c,z,k,Z,X,V,U⟩) (λZ=>⟨_,j,row,c,z,k,Z,X,V,U⟩)
def Je{b:Nat}(h:j5 ty e [] b):False:=by
 obtain⟨i,j,row,c,z,k,Z,-⟩:=h;simp at Z
def MY{v:Value}{b:Nat}(h:j5 ty e rows b):cn ty (.sl e) (.mk v rows) b:=by
 obtain⟨i,j,row,c,z,k,Z,X,V,U⟩:=h;exact cn.deep e v rows i j row c z k b Z X V U
def abS{v:Value}{b:Nat}(h:cn ty (.sl e) (.mk v rows) b):(∃a Z cap,v=.slice (some a) (Z+1) cap/\b=a.block)\/j5 ty e rows b:=by
 cases h with
 |here e a Z cap rows=>exact .inl ⟨a,Z,cap,rfl,rfl⟩
 |deep e v rows i j row c z k b X V U R=>exact .inr ⟨i,j,row,c,z,k,X,V,U,R⟩
end
def amp{ty:Ty}{k:RK}{v:RV}{b:Nat}(h:cn ty k (dv k v) b):cn ty k v b:=by
 cases k with
 |sl e=>
  simp only[dv] at h;split at h;exact h;cases h with
  |deep e v rows i j row c z k b Z=>simp at Z
 |str=>cases h
 |ar=>cases h
 |own e=>
  simp only[dv] at h;split at h;exact h;cases h with
  |own e rv b X=>cases X with
   |deep e v rows i j row c z k b Z=>simp at Z
 |dead=>cases h
 |mr V=>cases h
def abT{ty:Ty}{k:RK}{b:Nat}(h:cn ty k default b):False:=by
 cases h with
 |deep e v rows i j row c z k b Z=>simp at Z
 |own e rv b X=>cases X with
  |deep e v rows i j row c z k b Z=>simp at Z
def MZ{ty:Ty}{e:RK}{rv:RV}{b:Nat}(h:cn ty e.rd rv b):cn ty e rv b:=by
 cases e with
 |own t=>exact cn.own _ _ _ h
 |_=>exact h
def amq{ty:Ty}{e:TypeId}{rows:List (List RV)}{i:Int}{j:Nat}{X:RK}(V:BZ (aW ty (.sl e))[j]?=X)(U:X≠ .ar){b:Nat}(h:cn ty X (dv X (cellAt rows i j)) b):j5 ty e rows b:=by
 have Z:=amp h;simp only[cellAt,awK] at Z;cases R:rows[i.toNat]? with
 |none=>rw[R] at Z;exact(abT (by simpa using Z)).elim
 |some row=>
  rw[R] at Z;simp only[axi] at Z;cases Q:row[j]? with
  |none=>rw[Q] at Z;exact(abT (by simpa using Z)).elim
  |some c=>
   rw[Q] at Z;cases O:(aW ty (.sl e))[j]? with
   |none=>rw[O] at V;exact absurd V.symm U
   |some N=>
    rw[O] at V;subst V;cases N with
    |ar z M=>exact⟨_,j,row,c,z,M,R,Q,O,by simpa[BZ] using Z⟩
    |int _=>exact absurd rfl U
    |bool=>exact absurd rfl U
def M1{ty:Ty}{ρ:aa}{s:S}{b:Nat}:∀{r:RE}{e:RK},e≠ .ar->r.kind ty s=e->cn ty e (r.rv ρ) b->
  ∃X e0,r.root=some X/\s.rs[X]?=some e0/\((r=.v X/\e0.rd=e)\/∃t,e0.rd=.sl t/\j5 ty t (ρ.rv X).rows b)
 |.v k,e,Z,h,V=>by
  simp only[RE.kind,awK] at h;cases Q:s.rs[k]? with
  |none=>rw[Q] at h;exact absurd (show e=.ar from h.symm) Z
  |some q=>rw[Q] at h;simp at h;exact⟨k,q,rfl,Q,.inl ⟨rfl,h⟩⟩
 |.cell r i j H,e,Z,h,V=>by
  simp only[RE.kind] at h;split at h;rename_i O N;split at h;rename_i M;subst h;simp only[RE.rv] at V;have R:=amq M Z V;have L:cn ty (.sl O) (r.rv ρ) b:=by
   revert R;generalize r.rv ρ=v;intro R;obtain⟨v,rows⟩:=v;exact MY R
  obtain⟨X,e0,J,I,U⟩:=M1 (r:=r) (e:=.sl O) (by simp) N L;refine⟨X,e0,J,I,.inr ?_⟩;rcases U with⟨rfl,U⟩|U;exact⟨O,U,by simpa[RE.rv] using R⟩;exact U;exact absurd h.symm Z;exact absurd h.symm Z
 |.k v,e,Z,h,V=>by
  cases v<;>simp only[RE.kind] at h
  case string s=>subst h;cases V
  all_goals exact absurd h.symm Z
section
variable{S0:List Nat}{w0:World}{D:bw}{P:Program}{ty:Ty}{gl:List (Nat×Nat×Nat)}{β:List Nat}{ρ:aa}{s:S}{a:Act}{W:World}
def qu(R:ao S0 w0 D ty β ρ s a W){k:Nat}{e:RK}(h:s.rs[k]?=some e):ρ.r[k]?=some (ρ.rv k):=by
 have Z:k<ρ.r.length:=by rw[R.er];exact(awG.1 h).1
 simp[aa.rv,Z]
def Cy(v:RV):RV.mk v.val v.rows=v:=by cases v;rfl
def Fe{Z:Nat}{e0:RK}{t:TypeId}{b:Nat}(h:e0.rd=.sl t)(hi:j5 ty t (ρ.rv Z).rows b):cn ty e0 (ρ.rv Z) b:=by
 apply MZ;rw[h,<-Cy (ρ.rv Z)];exact MY hi
def Jf(R:ao S0 w0 D ty β ρ s a W){k:Nat}{e:TypeId}{rv:RV}{b:Nat}(V:s.rs[k]?=some (.own e))(Q:ρ.r[k]?=some rv)(M:rv.iC=some b){Z:Nat}{e0:RK}{t:TypeId}(X:s.rs[Z]?=some e0)(U:e0.rd=.sl t)(hi:j5 ty t (ρ.rv Z).rows b):False:=by
 have O:=R.cO k e rv b V Q M;by_cases N:Z=k;subst N;rw[V] at X;cases X;simp only[RK.rd,RK.sl.injEq] at U;subst U;have:=qu R V;rw[Q] at this;cases this;exact O.inner hi;exact O.alone Z e0 (ρ.rv Z) N X (qu R X) (.inl (Fe U hi))
def M3(R:ao S0 w0 D ty β ρ s a W){k:Nat}{e:TypeId}{rv:RV}{b:Nat}(Q:s.rs[k]?=some (.own e))(O:ρ.r[k]?=some rv)(N:rv.iC=some b){r:RE}{X:RK}(J:X≠ .ar)(h:r.kind ty s=X)(M:cn ty X (r.rv ρ) b):r=.v k:=by
 obtain⟨V,e0,G,U,Z⟩:=M1 J h M;rcases Z with⟨rfl,Z⟩|⟨t,Z,I⟩;by_cases L:V=k;rw[L];have H:=R.cO k e rv b Q O N;exact absurd (.inl (MZ (by rw[Z];exact M))) (H.alone V e0 (ρ.rv V) L U (qu R U));exact(Jf R Q O N U Z I).elim
def Ff(R:ao S0 w0 D ty β ρ s a W){r:RE}{X:RK}(N:X≠ .ar)(h:r.kind ty s=X){b:Nat}(Q:cn ty X (r.rv ρ) b):ρ.mg ty s.rs b/\∀i,aA s.boxes i=true->ad β i≠b:=by
 obtain⟨V,e0,L,U,Z⟩:=M1 N h Q;have O:cn ty e0 (ρ.rv V) b:=by
  rcases Z with⟨rfl,Z⟩|⟨t,Z,M⟩;exact MZ (by rw[Z];exact Q);exact Fe Z M
 exact⟨⟨V,e0,U,O⟩,(R.mem.ref V e0 _ U (qu R U)).2 b O⟩
def abU(R:ao S0 w0 D ty β ρ s a W){k:RK}{r:RE}(h:r.fits ty s k=true):aT W ty k (r.rv ρ):=by
 unfold RE.fits at h;split at h;rename_i e;simp only[aw9,decide_eq_true_eq] at h;rcases h with h|h;exact nz R (by simp) h;unfold RE.isNil at h;split at h;exact xW none 0;cases h;simp only[decide_eq_true_eq] at h;exact nz R (by simp) h;cases h
def TJ{k:RK}{r:RE}(h:r.fits ty s k=true){b:Nat}(Z:cn ty k (r.rv ρ) b):r.kind ty s=k/\k≠ .ar:=by
 unfold RE.fits at h;split at h;rename_i e;simp only[aw9,decide_eq_true_eq] at h;rcases h with h|h;exact⟨h,by simp⟩;unfold RE.isNil at h;split at h;simp only[RE.rv] at Z;cases Z with
 |deep e v rows i j row c z k b X=>simp at X
 cases h;simp only[decide_eq_true_eq] at h;exact⟨h,by simp⟩;cases h
def Cz:∀{ab:List CT}{row:List SV},ji ty s ab row=true->row.length=ab.length/\∀(j:Nat)(Z:CT)(v:SV),ab[j]?=some Z->row[j]?=some v->oh ty s Z v=true
 |[],[],_=>⟨rfl,λj Z v h=>by simp at h⟩
 |[],_::_,h=>by simp[ji] at h
 |_::_,[],h=>by simp[ji] at h
 |c::cs,v::vs,h=>by
  simp only[ji,awF] at h;obtain⟨U,R⟩:=Cz h.2;refine⟨by simp[U],λj Z Q X V=> ?_⟩;cases j with
  |zero=>simp at X V;subst X V;exact h.1
  |succ j=>exact R j Z Q (by simpa using X) (by simpa using V)
def abV{Z:CT}{v:SV}(h:oh ty s Z v=true):v.den ρ β=(v.bp ρ).val:=by
 unfold oh at h;split at h<;>first|rfl|cases h
structure M4(W:World)(ty:Ty)(ab:List CT)(row:List RV):Prop where
 len:row.length=ab.length
 int:∀(j:Nat)(c:RV)(k:IntKind),row[j]?=some c->ab[j]?=some (.int k)->∃n,c.val=.int k n
 bool:∀(j:Nat)(c:RV),row[j]?=some c->ab[j]?=some .bool->∃x,c.val=.bool x
 ar:∀(j:Nat)(c:RV)(z:Value)(k:RK),row[j]?=some c->ab[j]?=some (.ar z k)->aT W ty k c
def dB.of{e:TypeId}{rows:List (List RV)}(h:∀(i:Nat)(row:List RV),rows[i]?=some row->M4 W ty (aW ty (.sl e)) row):dB W ty e rows:=
 ⟨λi row Z=>(h i row Z).len,λi j row c k Z=>(h i row Z).int j c k,λi j row c Z=>(h i row Z).bool j c,λi j row c z k Z=>(h i row Z).ar j c z k⟩
def dB.get{e:TypeId}{rows:List (List RV)}(h:dB W ty e rows){i:Nat}{row:List RV}(Z:rows[i]?=some row):M4 W ty (aW ty (.sl e)) row:=
 ⟨h.len i row Z,λj c k=>h.int i j row c k Z,λj c=>h.bool i j row c Z,λj c z k=>h.ar i j row c z k Z⟩
def TK(R:ao S0 w0 D ty β ρ s a W){ab:List CT}{row:List SV}(h:ji ty s ab row=true):M4 W ty ab (row.map (SV.bp ρ)):=by
 obtain⟨N,M⟩:=Cz h;have key:∀(j:Nat)(c:RV)(Q:CT),(row.map (SV.bp ρ))[j]?=some c->ab[j]?=some Q->∃v,oh ty s Q v=true/\c=v.bp ρ:=by
  intro j c Q V U;rw[awL] at V;cases O:row[j]? with
  |none=>rw[O] at V;cases V
  |some v=>rw[O] at V;simp at V;exact⟨v,M j Q v U O,V.symm⟩
 refine⟨by simpa using N,λj c k V U=> ?_,λj c V U=> ?_,λj c z k V U=> ?_⟩;obtain⟨v,X,rfl⟩:=key j c _ V U;unfold oh at X;split at X;rename_i Z;cases Z;simp at X;subst X;exact⟨_,rfl⟩;rename_i Z;cases Z;rename_i Z;cases Z;cases X;obtain⟨v,X,rfl⟩:=key j c _ V U;unfold oh at X;split at X;rename_i Z;cases Z;exact⟨_,rfl⟩;rename_i Z;cases Z;cases X;obtain⟨v,X,rfl⟩:=key j c _ V U;unfold oh at X;split at X;rename_i Z;cases Z;rename_i Z;cases Z;rename_i Z;cases Z;exact abU R X;cases X
def TL{ab:List CT}{row:List SV}(h:ji ty s ab row=true){j:Nat}{c:RV}{z:Value}{k:RK}{b:Nat}(Z:(row.map (SV.bp ρ))[j]?=some c)(Q:ab[j]?=some (.ar z k))(U:cn ty k c b):
  ∃r:RE,row[j]?=some (.ref r)/\r.kind ty s=k/\k≠ .ar/\cn ty k (r.rv ρ) b:=by
 obtain⟨N,O⟩:=Cz h;rw[awL] at Z;cases R:row[j]? with
 |none=>rw[R] at Z;cases Z
 |some v=>
  rw[R] at Z;simp at Z;subst Z;have X:=O j _ v Q R;unfold oh at X;split at X;rename_i V;cases V;rename_i V;cases V;rename_i r V;cases V;exact⟨r,rfl,(TJ (ρ:=ρ) X U).1,(TJ (ρ:=ρ) X U).2,U⟩;cases X
def z6:∀{ab:List CT}{l:List (List SV)},jX ty s ab l=true->∀(i:Nat)(row:List SV),l[i]?=some row->ji ty s ab row=true
 |ab,[],_,i,row,h=>by simp at h
 |ab,r::rs,h,0,row,Z=>by simp only[jX,awF] at h;simp at Z;subst Z;exact h.1
 |ab,r::rs,h,i+1,row,Z=>by simp only[jX,awF] at h;exact z6 h.2 i row (by simpa using Z)
def TM{Z:List Nat}{rs:List RK}{k:Nat}{e:TypeId}(h:(iQ Z 0 rs)[k]?=some (.own e)):rs[k]?=some (.own e)/\k∉Z:=by
 rw[Fb] at h;cases V:rs[k]? with
 |none=>rw[V] at h;cases h
 |some x=>
  rw[V] at h;simp only[axf,awO,awJ] at h;cases x<;>simp[tO] at h
  case own t=>
   by_cases X:k∈Z;simp[X] at h;simp[X] at h;exact⟨by rw[h],X⟩
def abW{Z:List Nat}{rs:List RK}{k:Nat}{e:RK}(h:(gj Z 0 rs)[k]?=some e):(k∈Z/\e=.dead)\/(k∉Z/\rs[k]?=some e):=by
 rw[Fa] at h;cases V:rs[k]? with
 |none=>rw[V] at h;cases h
 |some x=>
  rw[V] at h;simp only[axf,awO,awJ] at h;by_cases X:k∈Z;simp[X] at h;exact .inl ⟨X,h.symm⟩;simp[X] at h;exact .inr ⟨X,by rw[h]⟩
structure Fg(W W':World)(e:TypeId)(w:Nat)(old:Option Nat)(rows:List (List RV))(A:Option Addr)(cap:Nat):Prop where
 le:rows.length<=cap
 nil:A=none->cap=0
 mem:cap=0\/∃b cur,A=some ⟨b,0,none⟩/\W'.heap[b]?=some (.cells cur e (0,0))/\cap<=maxLen/\cur.size=cap*w/\cur.toList.take (rows.length*w)=cH rows/\(W.heap.size<=b\/old=some b)
def xX(ty:Ty)(β:List Nat)(ρ:aa)(s:S)(e:TypeId)(rows:List (List RV))(frz:List Nat):Prop:=
 ∀b,j5 ty e rows b->ρ.mg ty s.rs b/\(∀i,aA s.boxes i=true->ad β i≠b)/\∀(k:Nat)(t:TypeId)(rv:RV),s.rs[k]?=some (.own t)->ρ.r[k]?=some rv->rv.iC=some b->k∈frz
def Jg{Z:List RK}(h:s.bd=true)(X:Z.length=s.rs.length):({s with rs:=Z}:S).bd=true:=by
 simp only[S.bd,X] at h⊢;exact h
def ao.bind(R:ao S0 w0 D ty β ρ s a W)(hb:s.bd=true){e:TypeId}{rows:List (List RV)}{kill frz:List Nat}{old:Option Nat}{W':World}{A:Option Addr}{cap:Nat}
  (f:(kill=[]/\old=none)\/∃k t rv,kill=[k]/\s.rs[k]?=some (.own t)/\ρ.r[k]?=some rv/\old=rv.iC)(an:∀k∈kill,k∉frz)
  (C:W.grownBy W' old)(w:dB W ty e rows)(B:xX ty β ρ s e rows frz)(L:Fg W W' e (aW ty (.sl e)).length old rows A cap):
  ao S0 w0 D ty β (ρ.add (.r (.mk (.slice A rows.length cap) rows))) {s with rs:=iQ frz 0 (gj kill 0 s.rs)++[.own e]} a W'/\∀b,cn ty (.sl e) (.mk (.slice A rows.length cap) rows) b->w0.heap.size<=b\/b∈S0\/ρ.mg ty s.rs b:=by
 have J:∀b,old=some b->(w0.heap.size<=b\/b∈S0)/\b<W.heap.size/\(∀i,aA s.boxes i=true->ad β i≠b)/\(∀Q O U,Q∉kill->s.rs[Q]?=some O->ρ.r[Q]?=some U->¬tV ty O U b)/\¬j5 ty e rows b:=by
  intro b F;rcases f with⟨_,G⟩|⟨k,t,rv,rfl,Z,N,I⟩;rw[G] at F;cases F;rw[I] at F;have z:=R.cO k t rv b Z N F;refine⟨z.own,z.lt,z.box,λQ O U v=>z.alone Q O U (by simpa using v),λhi=> ?_⟩;exact an k (by simp) ((B b hi).2.2 k t rv Z N F)
 have R1:ao S0 w0 D ty β ρ {s with rs:=gj kill 0 s.rs} a W':=by
  rcases f with⟨rfl,rfl⟩|⟨k,t,rv,rfl,Z,N,rfl⟩;have:gj [] 0 s.rs=s.rs:=by
   apply axd;intro i;rw[Fa];cases s.rs[i]?<;>simp
  rw[this];exact R.grown C;exact R.dl Z N C
 have R2:=R1.j9 (MX frz _);have a1:dB W' ty e rows:=w.world (λb hi=>C.block b (w.lt hi) (λh=>(J b h.symm).2.2.2.2 hi)) C.size;have a2:aT W' ty (.sl e) (.mk (.slice A rows.length cap) rows):=by
  rcases L.mem with G|⟨b,p,rfl,Z,N,I,d,X⟩;have V:=L.le;have:rows=[]:=axa (by omega);subst this;exact xW A cap;refine TH a1 ⟨_,_,_,Z⟩ (λq u y=> ?_) L.le;rw[<-d,axc] at y;split at y;simp only[World.cell?,Z,axf];simpa using y;cases y
 have o:∀b,tV ty (.own e) (.mk (.slice A rows.length cap) rows) b->(W.heap.size<=b\/old=some b)\/j5 ty e rows b:=by
  intro b V;have af:∀a0,A=some a0->cap≠0->a0.block=b->(W.heap.size<=b\/old=some b):=by
   intro a0 hA hc x;rcases L.mem with G|⟨H,p,Z,_,_,_,_,X⟩;exact absurd G hc;rw[Z] at hA;cases hA;simp only at x;subst x;exact X
  rcases V with V|⟨-,V⟩;cases V with
  |own e rv b V=>
   rcases abS V with⟨a0,a9,bb,Z,rfl⟩|Z;simp only[Value.slice.injEq] at Z;exact .inl (af a0 Z.1 (by have:=L.le;omega) rfl);exact .inr Z
  simp only[RV.iC,RV.jZ] at V;split at V;rename_i a0 l0 c0 Z;cases Z;simp at V;exact .inl (af a0 rfl (by omega) V);cases V
 have a3:∀{k:Nat}{O:RK},(iQ frz 0 (gj kill 0 s.rs))[k]?=some O->∃e0,(gj kill 0 s.rs)[k]?=some e0/\mR e0 O:=λh=>(MX frz _).get _ _ h
 constructor;refine R2.add (Jg (Jg hb (vT _ _ _)) (vU _ _ _)) (aT.own e _ a2 (λl c h=>by cases h;exact L.nil rfl)) (λb V i hi=> ?_) (λk t U b Z N I V=> ?_) (λt b n ag=> ?_);rcases o b (.inl V) with(h|h)|h;have:=R.mem.lt hi;omega;exact(J b h).2.2.1 i hi;exact(B b h).2.1 i hi;obtain⟨a4,a5⟩:=TM Z;rcases abW a4 with⟨_,h⟩|⟨a6,m⟩;cases h;rcases o b V with(h|h)|h;have:=(R.cO k t U b m N I).lt;omega;exact(J b h).2.2.2.1 k _ U a6 m N (.inr ⟨⟨t,rfl⟩,I⟩);exact a5 ((B b h).2.2 k t U m N I);cases n;have a7:cap≠0:=by
  intro h;subst h;simp[RV.iC] at ag
 rcases L.mem with G|⟨H,p,rfl,Z,N,I,d,X⟩;exact absurd G a7;have x:H=b:=by
  obtain⟨c',rfl⟩:∃c',cap=c'+1:=⟨cap-1,by omega⟩;simpa[RV.iC] using ag
 subst x;have a8:∀(Q:Nat)(O:RK)(U:RV),(gj kill 0 s.rs)[Q]?=some O->ρ.r[Q]?=some U->¬tV ty O U H:=by
  intro Q O U j E M;rcases abW j with⟨_,rfl⟩|⟨v,g⟩;rcases M with M|⟨⟨t,n⟩,_⟩;cases M;cases n;rcases X with X|X;rcases M with M|⟨⟨t,rfl⟩,M⟩;have:=(R.mem.ref Q O U g E).1.lt M;omega;have:=(R.cO Q t U H g E M).lt;omega;exact(J H X).2.2.2.1 Q O U v g E M
 refine⟨?_,⟨rows.length,cap,p,rfl,Z,L.le,N,I⟩,λi hi=> ?_,λQ O U j E M=> ?_,λhi=> ?_⟩;rcases X with X|X;exact .inl (axn R.mem.base.size X);exact(J H X).1;rcases X with X|X;have:=R.mem.lt hi;omega;exact(J H X).2.2.1 i hi;obtain⟨e0,g4,hw⟩:=a3 j;exact a8 Q e0 U g4 E (M.j9 hw);rcases X with X|X;have:=w.lt hi;omega;exact(J H X).2.2.2.2 hi;intro b V;rcases o b (.inl (cn.own _ _ _ V)) with(h|h)|h;exact .inl (axn R.mem.base.size h);exact(J b h).1.imp id .inl;exact .inr (.inr (B b h).1)
end
end
section
section
variable{S0:List Nat}{w0:World}{D:bw}{P:Program}{ty:Ty}{β:List Nat}{ρ:aa}{s:S}{a:Act}{W:World}
def jp(A:Option Addr)(cap:Nat):Option Nat:=match A,cap with
 |some a,_+1=>some a.block
 |_,_=>none
def Jh(A:Option Addr)(n cap:Nat)(rows:List (List RV)):(RV.mk (.slice A n cap) rows).iC=jp A cap:=by
 cases A<;>cases cap<;>rfl
structure Ji(W:World)(e:TypeId)(w:Nat)(A:Option Addr)(cap:Nat):Prop where
 nil:A=none->cap=0
 mem:cap=0\/∃b cur,A=some ⟨b,0,none⟩/\W.heap[b]?=some (.cells cur e (0,0))/\cap<=maxLen/\cur.size=cap*w
def TN{e:TypeId}{rows:List (List RV)}{b n cap:Nat}{X:Array Value}{t:TypeId}{fr:Nat×Nat}(h:aT W ty (.sl e) (.mk (.slice (some ⟨b,0,none⟩) n cap) rows))(V:W.heap[b]?=some (.cells X t fr)):
  X.toList.take (rows.length*(aW ty (.sl e)).length)=cH rows:=by
 have O:=vV (dB.t7 h).len;have U:∀(q:Nat)(u:Value),(cH rows)[q]?=some u->X[q]?=some u:=by
  intro q u Z;obtain⟨N,off,R,M,Q⟩:=Jc h q u Z;cases R;simpa[World.cell?,V] using Q
 apply axd;intro q;rw[axc];by_cases Z:q<(cH rows).length;rw[if_pos (by omega),awH Z];simpa using U q _ (awH Z);rw[if_neg (by omega),aw4 (by omega)]
def amr{e t t2 tyR:TypeId}{Q:TI}(af:cS P e Q)(hw:Q.ab.length≠0)(y:(aW ty (.sl e)).length=Q.ab.length)(J:P.underlying t=some (.slice e))(I:P.underlying t2=some (.slice e))
  {U X:List (List RV)}{R H:Option Addr}{n1 Z n2 cap2:Nat}(N:aT W ty (.sl e) (.mk (.slice R n1 Z) U))(hr:Ji W e Q.ab.length R Z)
  (w:X.length=n2)(ag:dB W ty e X)(an:∀(q:Nat)(u:Value),(cH X)[q]?=some u->∃a0,H=some a0/\W.cell? (a0.add q)=some u)
  (b2:n1<=536870912)(b3:n2<=536870912):
  ∃A cap W',(Builtin.append_ #[t,t2] tyR #[.slice R n1 Z,.slice H n2 cap2]).run P W=.ok (.slice A (n1+n2) cap) W'/\W.grownBy W' (jp R Z)/\Fg W W' e Q.ab.length (jp R Z) (U++X) A cap:=by
 obtain⟨i,hi,M,z,hz,a6⟩:=af.EX;have a7:=af.bytes i hi;have a8:z.cells.size=Q.ab.length:=by rw[<-axP,a6];simp
 obtain⟨cj,b4⟩:=qr N;have a9:=dB.t7 N;have a3:(cH U).length=n1*i.size:=by rw[vV a9.len,cj,y,M]
 have r:(cH X).length=n2*i.size:=by rw[vV ag.len,w,y,M]
 have p:(cH (U++X)).length=(n1+n2)*Q.ab.length:=by rw[TG,awQ,a3,r,M,axI]
 have G:(U++X).length=n1+n2:=by simp[cj,w]
 have o:∀V:World,(∀x,V.cell? x=W.cell? x)->(Builtin.firstCells i.size n2 (.slice H n2 cap2)).run P V=.ok (cH X).toArray V:=by
  intro V F;cases H with
  |none=>
   have:cH X=[]:=by
    cases n:cH X with
    |nil=>rfl
    |cons x xs=>obtain⟨a0,h,_⟩:=an 0 x (by rw[n];rfl);cases h
   rw[run_firstCells_none,this]
  |some a2=>
   refine run_firstCells_some V i.size n2 a2 n2 cap2 _ r (λj v m=> ?_);obtain⟨a0,h,l⟩:=an j v m;cases h;rw[F];exact l
 have bb:∀V:World,(∀x,V.cell? x=W.cell? x)->(Builtin.firstCells i.size n1 (.slice R n1 Z)).run P V=.ok (cH U).toArray V:=by
  intro V F;cases R with
  |none=>
   have:cH U=[]:=by
    cases n:cH U with
    |nil=>rfl
    |cons x xs=>obtain⟨b,off,h,_⟩:=Jc N 0 x (by rw[n];rfl);cases h
   rw[run_firstCells_none,this]
  |some E=>
   refine run_firstCells_some V i.size n1 E n1 Z _ a3 (λj v m=> ?_);obtain⟨b,off,h,_,l⟩:=Jc N j v m;cases h;rw[F,sa];exact l
 by_cases C:n1+n2<=Z
 
 rcases axT Z with h0|h0;have e1:n1=0:=by omega
 have e2:n2=0:=by omega
 subst h0 e1 e2;have r1:U=[]:=axa cj;have r2:X=[]:=axa w;subst r1 r2;refine⟨R,0,W, ?_,⟨rfl,rfl,rfl,awN _,λ_ _ _=>rfl⟩,⟨awN _,λ_=>rfl,.inl rfl⟩⟩;have O:=o W (λ_=>rfl);have B:∀E:Addr,(storeCells E [] 0).run P W=.ok () W:=λ_=>rfl
 cases R with
 |none=>simp[Builtin.append_,run_underlying J,run_underlying I,Go.sizeOf,typeInfo,hi,Builtin.lenOf,O,cH]
 |some E=>simp[Builtin.append_,run_underlying J,run_underlying I,Go.sizeOf,typeInfo,hi,Builtin.lenOf,O,cH,B]
 rcases hr.mem with F|⟨b,L,rfl,g,f,bd⟩;omega;have bf:n1*i.size+(cH X).length<=L.size:=by rw[r,bd,<-axI,M];exact axU _ C
 have O:=o W (λ_=>rfl);have B:=run_storeCells_at P b (n1*i.size) e (cH X) 0 L W g (by simpa using bf) (λu hu=>abN (ag.single u hu));simp only[ax1] at B;have a4:jp (some ⟨b,0,none⟩) Z=some b:=by cases Z with
  |zero=>omega
  |succ c=>rfl
 refine⟨some ⟨b,0,none⟩,Z,W.setRow b (L.toList.take (n1*i.size)++cH X++L.toList.drop (n1*i.size+(cH X).length)).toArray, ?_,⟨rfl,rfl,rfl,by simp[World.setRow],λk _ d=>setRow_other W b k _ (λh=>d (by rw[a4,h]))⟩,
  ⟨by rw[G];exact C,by simp,.inr ⟨b,_,rfl,setRow_heap W b L _ e _ g,f, ?_, ?_,.inr a4⟩⟩⟩
 simp[Builtin.append_,run_underlying J,run_underlying I,Go.sizeOf,typeInfo,hi,Builtin.lenOf,C,O,Addr.add_lit,B];simp only[axQ,awQ,axJ,axW,axP];omega;have a5:=TN N g;rw[cj,y,<-M] at a5;rw[G,a5,<-TG,<-p];exact List.take_left
 
 have bk:n1+n2<=1073741824:=by omega
 have br:(n1+n2)*i.bytes<=140737488355328:=by
  have:(n1+n2)*i.bytes<=1073741824*131072:=azW bk a7;omega
 have b5:=growslice_fits (show Z<n1+n2 by omega) br;have bs:n1+n2<=maxLen:=by simp only[maxLen];omega
 have bt:=grownCap_ge W (n1+n2) Z e;have f:=grownCap_le_maxLen W (n1+n2) Z e bs;have O:=o W.drew (λ_=>by simp);have bx:=bb W.drew (λ_=>by simp);have b0:¬(9223372036854775807<((n1:Int)+(n2:Int))):=by omega
 have b1:¬(281474976710656<Builtin.nextslicecap (n1+n2) Z*i.bytes):=by omega
 refine⟨some ⟨W.heap.size,0,none⟩,grownCap W (n1+n2) Z e,W.drew.alloc (.cells ((cH (U++X)).toArray++Builtin.zeroCells z.cells (grownCap W (n1+n2) Z e-(n1+n2))) e), ?_,
  ⟨rfl,rfl,rfl,by simp,λk d _=>Below.heap_alloc W.drew _ _ d⟩,⟨by rw[G];exact bt,by simp,.inr ⟨W.heap.size,_,rfl,World.alloc_heap_new W.drew _,f, ?_, ?_,.inl (awN _)⟩⟩⟩
 simp[Builtin.append_,run_underlying J,run_underlying I,Go.sizeOf,typeInfo,zeroValue,hi,hz,Builtin.lenOf,C,b0,b1,Question.forced,O,bx,newRow,grownCap];congr 2;apply axD;simp[ax9,TG];simp only[Array.size_append,axQ,size_zeroCells,a8,p,<-axI];congr 1;omega;simp only[Array.toList_append,G,<-p];exact List.take_left
end
end
section
structure bi(s:S)(ρ:aa)(β:List Nat)(s':S)(ρ':aa)(β':List Nat):Prop where
 ext:j8 s.boxes ρ ρ' β β'
 mono:∀i,aA s.boxes i=true->aA s'.boxes i=true
 len:s.boxes.length<=s'.boxes.length
 al:s.al<=s'.al
def bi.refl(s:S)(ρ:aa)(β:List Nat):bi s ρ β s ρ β:=⟨j8.refl _ _ _,λ_ h=>h,awN _,awN _⟩
def bi.trans{s s' Z:S}{ρ ρ' X:aa}{β V U:List Nat}(h:bi s ρ β s' ρ' V)(k:bi s' ρ' V Z X U):bi s ρ β Z X U:=
 ⟨h.ext.trans k.ext h.mono,λi hi=>k.mono i (h.mono i hi),axn h.len k.len,axn h.al k.al⟩
def bi.put{s s':S}{ρ ρ':aa}{β Z:List Nat}(h:bi s ρ β s' ρ' Z)(d:Option Nat)(v:SV):bi s ρ β (s'.put d v) ρ' Z:=by
 cases d<;>exact⟨h.ext,h.mono,h.len,h.al⟩
def OR.gives(ρ:aa)(s':S):OR->Prop
 |.ok x=>s'=x
 |.az b x=>b.den ρ=true/\s'=x
 |.split b Z X=>s'=if b.den ρ then Z else X
 |.no _=>False
def oC(P:Program)(o:Oper)(a:Act)(W:World)(v:Value)(W':World):Prop:=
 (execOp a.eval o).run P W=.ok (.value v) W'\/((execOp a.eval o).run P W=.ok .skip W'/\v=undef)
def TO{s:S}{n:Nat}(h:dL s.boxes n=true)(t:TypeId)(cs:List SV){ρ:aa}{β:List Nat}{x:Nat}(d:Option Nat)(v:SV):bi s ρ β ((s.bI n t cs).put d v) ρ (β.set n x):=by
 refine bi.put (s':=s.bI n t cs) ⟨abL h ρ β x,λi hi=>(lI (jO h).2).2 (.inr hi),by simp[S.bI],by simp[S.bI]⟩ d v
def abX{s:S}{n:Nat}{t:TypeId}{cs cs':List SV}{ρ:aa}{β:List Nat}(h:bA s.boxes n=some (t,cs))(d:Option Nat)(v:SV):bi s ρ β ((s.bI n t cs').put d v) ρ β:=by
 refine bi.put (s':=s.bI n t cs') ⟨j8.refl _ _ _,λi hi=>(lI (awG.1 (gw.1 h)).1).2 (.inr hi),by simp[S.bI],by simp[S.bI]⟩ d v
def bi.lk{s s':S}{ρ ρ':aa}{β Z:List Nat}(h:bi s ρ β s' ρ' Z)(n:Nat):bi s ρ β {s' with lk:=n} ρ' Z:=⟨h.ext,h.mono,h.len,h.al⟩
section
variable{S0:List Nat}{w0:World}{D:bw}{P:Program}{cf:bc}{β:List Nat}{ρ:aa}{s:S}{a:Act}{W:World}
def ao.lk(R:ao S0 w0 D cf.ty β ρ s a W)(n:Nat):ao S0 w0 D cf.ty β ρ {s with lk:=n} a W:=⟨R.mem,R.dX,R.ei,R.eb,R.er,R.bT,R.size,R.tmps,R.cO⟩
def vW{s s':S}{ρ:aa}{d:Option Nat}{l:Nat}{r:PR}(h:(oj s d l r).gives ρ s'):∃v,r.gives ρ v/\s'=s.bL d v l:=by
 cases r with
 |ok v=>exact⟨v,rfl,h⟩
 |az b v=>
  simp only[oj] at h;split at h;exact⟨v,⟨h.1,rfl⟩,h.2⟩;exact h.elim
 |no w=>exact h.elim
def abY(n:Nat)(l:List SV):(rP n l).length=n*l.length:=by
 induction n with
 |zero=>simp[rP]
 |succ n Z=>simp[rP,Z,axI];omega
def TP(l:List SV):∀(n k:Nat),k<n*l.length->(rP n l)[k]?=l[k%l.length]?
 |0,k,h=>by simp at h
 |n+1,k,h=>by
  have V:0<l.length:=by
   rcases axT l.length with Z|Z;rw[Z] at h;simp at h;exact Z
  rw[rP];by_cases X:k<l.length;rw[awI X,Nat.mod_eq_of_lt X];rw[awM (by omega),TP l n (k-l.length) (by rw[axI] at h;omega)];congr 1;have:k=(k-l.length)+l.length:=by omega
  conv=>rhs;rw[this,Nat.add_mod_right]
def Jj(R:ao S0 w0 D cf.ty β ρ s a W)(L:fA P cf.ty)(M:dA cf.gl ρ)(m:OM){s':S}(h:(dR cf m s).gives ρ s'):
  ∃v W' ag,oC P m.o a W v W'/\ao S0 w0 D cf.ty ag ρ s' (a.put m.o.dst v) W'/\bi s ρ β s' ρ ag:=by
 unfold dR at h;split at h;exact h.elim;rename_i X;have X:∀x∈m.o.op.operands.toList,(s.ev cf.gl x).cN=false:=by
  intro x u;cases hh:(s.ev cf.gl x).cN;rfl;exact absurd (axe.2 ⟨x,u,hh⟩) X
 split at h
 
 rename_i t Z;split at h;rename_i B H;split at h;rename_i V;simp only[awF] at V;cases h;obtain⟨z,r,n⟩:=E3 (P:=P) (W:=W) (ρ:=ρ) (β:=β) (L _ _ H);have N:=R.alloc (oA V.2) t (cq B) V.1;rw[qo (E9 V.2)] at N;have F:=jO (oA V.2);refine⟨.pointer (some ⟨W.heap.size,0,none⟩),W.alloc (.cells (SV.ap ρ β (cq B)).toArray t),β.set m.ix W.heap.size,.inl ?_, ?_,TO (oA V.2) _ _ _ _⟩;rw[<-n];simp[execOp,Z,Instr.alloc,r,newVar,newRow,World.alloc_eq];have:=N.put m.o.dst (.loc m.ix 0);rw[SV.den,xV (by rw[R.dX];exact F.2)] at this;exact this;exact h.elim;exact h.elim
 
 rename_i t x Z;rw[Z] at X;have he:=bM R M x (X x (by simp[Op.operands]));split at h;rename_i B H;split at h;rename_i V;simp only[awF] at V;cases h;obtain⟨⟨⟨-,E⟩,A⟩,O⟩:=V;have j:=MU (ρ:=ρ) (β:=β) (qp R) A;have N:=R.alloc (oA O) t (s.ev cf.gl x).cells E;rw[qo (E9 O)] at N;have F:=jO (oA O);refine⟨.pointer (some ⟨W.heap.size,0,none⟩),W.alloc (.cells (SV.ap ρ β (s.ev cf.gl x).cells).toArray t),β.set m.ix W.heap.size,.inl ?_, ?_,TO (oA O) _ _ _ _⟩;rw[<-j];simp[execOp,Z,Instr.box,newVar,newRow,he,World.alloc_eq];have:=N.put m.o.dst (.loc m.ix 0);rw[SV.den,xV (by rw[R.dX];exact F.2)] at this;exact this;exact h.elim;exact h.elim
 
 rename_i t Q parts Z;rw[Z] at X;have an:(parts.map λ(i,x)=>(i,a.eval x)).toList=(parts.toList.map λp=>(p.1,s.ev cf.gl p.2)).map λp=>(p.1,p.2.den ρ β):=by
  simp only[axq,axu];apply aw5;intro p hp;have:=bM R M p.2 (X p.2 (by simp[Op.operands];exact⟨p.1,by simpa using hp⟩));simp[this]
 split at h;rename_i e ab q H;split at h;rename_i U g;split at h;rename_i l hf;split at h;rename_i V;simp only[awF,decide_eq_true_eq] at V;cases h;obtain⟨⟨E,A⟩,O⟩:=V;have hd:P.underlying t=some (.slice e):=(L _ _ H).desc;obtain⟨z,r,n⟩:=E3 (P:=P) (W:=W) (ρ:=ρ) (β:=β) (L _ _ g);have a0:=I9 (β:=β) (qp R) _ _ _ _ hf;have C:(cq U).length=U.ab.length:=by simp[cq]
 have hzero:((azP (Q*U.ab.length)).map ((if Q*U.ab.length=0 then #[] else z.cells)[· %(if Q*U.ab.length=0 then #[] else z.cells).size]!))=(SV.ap ρ β (rP Q (cq U))).toArray:=by
  apply axD;apply axd;intro k;by_cases w:k<Q*U.ab.length;have a3:¬Q*U.ab.length=0:=by omega
  have a4:0<U.ab.length:=by
   rcases axT U.ab.length with J|J;rw[J] at w;simp at w;exact J
  have a1:k%U.ab.length<(SV.ap ρ β (cq U)).length:=by rw[Cs,C];exact ayI _ a4
  simp only[a3,if_false,n,axq,azv,awL,ax3 w,awO,ou,TP _ _ _ (by rw[C];exact w),C];rw[<-ou,awH a1];simp only[axQ,Cs,C];rw[getElem!_pos _ _ (by simpa using a1)];simp;rw[aw4 (by simp;omega),aw4 (by simp[abY,C];omega)]
 have N:=R.alloc (oA O) e l E;rw[qo (E9 O)] at N;have F:=jO (oA O);refine⟨.slice (some ⟨W.heap.size,0,none⟩) Q Q,W.alloc (.cells (SV.ap ρ β l).toArray e),β.set m.ix W.heap.size,.inl ?_, ?_,TO (oA O) _ _ _ _⟩;have a2:¬Q*U.ab.length>2^24:=by omega
 by_cases J:Q*U.ab.length=0;simp only[if_pos J] at hzero;simp only[execOp,Z,Instr.buildSlice,Sem.run_bind,cS.eF hd,Result.andThen_ok,(L _ _ g).j7,a2,if_false,Sem.run_pure,if_pos J,an];rw[hzero,a0];simp[newRow,World.alloc_eq];simp only[if_neg J] at hzero;simp only[execOp,Z,Instr.buildSlice,Sem.run_bind,cS.eF hd,Result.andThen_ok,(L _ _ g).j7,a2,if_false,Sem.run_pure,if_neg J,an,r];rw[hzero,a0];simp[newRow,World.alloc_eq];have:=N.put m.o.dst (.fo m.ix 0 Q Q);rw[SV.den,xV (by rw[R.dX];exact F.2)] at this;exact this;exact h.elim;exact h.elim;exact h.elim;exact h.elim
 
 rename_i t x y Z;rw[Z] at X;have f:=bM R M x (X x (by simp[Op.operands]));have d:=bM R M y (X y (by simp[Op.operands]));split at h;rename_i B i off H u;split at h;rename_i bt cs G;split at h;rename_i V;simp only[awF,beq_iff_eq,decide_eq_true_eq] at V;cases h;obtain⟨⟨⟨⟨E,A⟩,O⟩,h4⟩,-⟩:=V;have j:=MU (ρ:=ρ) (β:=β) (qp R) h4;obtain⟨G,a5⟩:=tX G;obtain⟨W',hr,N⟩:=R.store (L _ _ H) G a5 E A O j;refine⟨undef,W',β,.inr ⟨?_,rfl⟩,N.put m.o.dst (.bj []),abX G _ _⟩;simp only[execOp,Z,f,d,u,SV.den,Sem.run_bind,hr,Result.andThen_ok,Sem.run_pure];exact h.elim;exact h.elim;exact h.elim
 
 rename_i c x y Z;rw[Z] at X;have af:=bM R M c (X c (by simp[Op.operands]));have f:=bM R M x (X x (by simp[Op.operands]));have d:=bM R M y (X y (by simp[Op.operands]));split at h;rename_i b G;simp only[OR.gives] at h;rw[G,SV.den] at af;cases I:b.den ρ;simp only[I,aw0,if_false] at h;subst h;refine⟨_,W,β,.inl ?_,R.put _ _,(bi.refl _ _ _).put _ _⟩;simp[execOp,Z,af,I,asBool,d];simp only[I,if_true] at h;subst h;refine⟨_,W,β,.inl ?_,R.put _ _,(bi.refl _ _ _).put _ _⟩;simp[execOp,Z,af,I,asBool,f];exact h.elim
 
 rename_i t x Z;obtain⟨v,I,rfl⟩:=vW h;exact⟨v.den ρ β,W,β,.inl (abI R L M m.o X (by rw[Z];exact I)),(R.lk _).put _ _,((bi.refl _ _ _).lk _).put _ _⟩
 
 obtain⟨v,I,rfl⟩:=vW h;exact⟨v.den ρ β,W,β,.inl (abI R L M m.o X I),(R.lk _).put _ _,((bi.refl _ _ _).lk _).put _ _⟩
def ao.room{S0:List Nat}{w0:World}{D:bw}{β:List Nat}{ρ:aa}{s:S}{a:Act}{W:World}(R:ao S0 w0 D cf.ty β ρ s a W)(n:Nat):
  ao S0 w0 D cf.ty (β++awS n 0) ρ (s.room n) a W/\bi s ρ β (s.room n) ρ (β++awS n 0):=by
 have Z:∀k,ad (β++awS n 0) k=ad β k:=by
  intro k;simp only[ad,awK];by_cases h:k<β.length;rw[awI h];rw[awM (by omega),aw4 (l:=β) (by omega),axK];split<;>rfl
 have Q:∀i,bA (s.boxes++awS n none) i=bA s.boxes i:=by
  intro i;simp only[bP];by_cases h:i<s.boxes.length;rw[awI h];rw[awM (by omega),aw4 (l:=s.boxes) (by omega),axK];split;rename_i X;split at X<;>cases X;rfl
 have V:∀i,aA (s.boxes++awS n none) i=aA s.boxes i:=λi=>by simp[aA,Q]
 have N:=fj.refl ρ ρ.i.length ρ.b.length ρ.r.length;have O:∀v,SV.den ρ (β++awS n 0) v=v.den ρ β:=by
  intro v;have:ad (β++awS n 0)=ad β:=funext Z;exact ML this v
 have H:∀l,SV.ap ρ (β++awS n 0) l=SV.ap ρ β l:=λl=>by simp only[lF];exact aw5 λv _=>O v
 refine⟨⟨⟨R.mem.base,λi hi=> ?_,λi j hi M=> ?_,λi t cs h=> ?_,λk e rv X U=> ?_⟩,by simp[S.room,R.dX],R.ei,R.eb,R.er,R.bT,R.size,λt L h=> ?_,λk e rv b X U J=> ?_⟩,⟨⟨N,awN _,awN _,awN _,λk _=>Z k⟩,λi hi=> ?_,by simp[S.room],awN _⟩⟩;rw[Z];exact R.mem.own i (by rw[<-V];exact hi);rw[Z,Z];exact R.mem.inj i j (by rw[<-V];exact hi) (by rw[<-V];exact M);rw[Z,abi (funext Z)];exact R.mem.box i t cs (by rw[<-Q];exact h);refine⟨(R.mem.ref k e rv X U).1,λb I i hi=> ?_⟩;rw[Z];exact(R.mem.ref k e rv X U).2 b I i (by rw[<-V];exact hi);rw[O];exact R.tmps t L h;have t:=R.cO k e rv b X U J;exact⟨t.own,t.mem,λi hi=>by rw[Z];exact t.box i (by rw[<-V];exact hi),t.alone,t.inner⟩;simp only[S.room];rw[V];exact hi
end
end
section
section
variable{S0:List Nat}{w0:World}{D:bw}{P:Program}{cf:bc}{β:List Nat}{ρ:aa}{s:S}{a:Act}{W:World}
def ua{d:Option Nat}{az:BE}{e:TypeId}{k:RK}{x:LE}{kill frz:List Nat}{b:BI}(h:gF s d az e k x kill frz=some b):
  s.bd=true/\(∀k∈kill,k∉frz)/\b=⟨az,e,x,({s with rs:=iQ frz 0 (gj kill 0 s.rs)++[k]}:S).put d (.ref (.v s.rs.length))⟩:=by
 unfold gF at h;split at h;rename_i Z;cases h;simp only[awF] at Z;exact⟨Z.1.1.1,λk X=>by have:=awU.1 Z.1.1.2 k X;simpa using this,rfl⟩;cases h
def CA{rv:RV}{Z:S}{ty:Ty}{W':World}(X:ao S0 w0 D ty β (ρ.add (.r rv)) Z a W'){n:Nat}(V:ρ.r.length=n)(d:Option Nat):ao S0 w0 D ty β (ρ.add (.r rv)) (Z.put d (.ref (.v n))) (a.put d rv.val) W':=by
 have:=X.put d (.ref (.v n));have e:SV.den (ρ.add (.r rv)) β (.ref (.v n))=rv.val:=by subst V;simp[SV.den,RE.den,RE.rv,aa.rv,aa.add]
 rwa [e] at this
def z7{rv:RV}(rs:List RK)(d:Option Nat)(v:SV):bi s ρ β (({s with rs:=rs}:S).put d v) (ρ.add (.r rv)) β:=
 bi.put (s:=s) (s':={s with rs:=rs}) ⟨oB _ _ _ _,λ_ h=>h,awN _,awN _⟩ d v
def M5{n:IE}(h:(Ez n).den ρ=true):n.den ρ<=536870912:=by
 unfold Ez at h;rw[xR] at h;simp only[ew,IE.den,Ey] at h;exact of_decide_eq_true h
def Fh(P:Program)(S0:List Nat)(w0:World)(D:bw)(ty:Ty)(β:List Nat)(ρ:aa)(s:S)(a:Act)(W:World)(o:Oper)(b:BI):Prop:=
 ∃v W' rv,oC P o a W v W'/\Ct ty S0 w0 b.e b.x s.rs ρ rv/\ao S0 w0 D ty β (ρ.add (.r rv)) b.s (a.put o.dst v) W'/\bi s ρ β b.s (ρ.add (.r rv)) β
def M6(R:ao S0 w0 D cf.ty β ρ s a W){k:Nat}{e:TypeId}(h:s.rs[k]?=some (.own e)):∃A n cap,ρ.rv k=.mk (.slice A n cap) (ρ.rv k).rows/\aT W cf.ty (.sl e) (.mk (.slice A n cap) (ρ.rv k).rows)/\Ji W e (aW cf.ty (.sl e)).length A cap:=by
 have Z:=Tr R h;have M:=qu R h;have U:=λb Q=>R.cO k e _ b h M Q
 revert Z U;generalize ρ.rv k=rv;intro Z U;cases Z with
 |own e rv Z O=>
  cases Z with
  |sl e A X cap rows L J I hi Q H=>
   refine⟨A,X,cap,rfl,aT.sl e A X cap rows L J I hi Q H,λG=>O X cap (by rw[G];rfl), ?_⟩;rcases axT cap with N|N;exact .inl N;right;cases A with
   |none=>have:=O X cap rfl;omega
   |some a0=>
    have F:(RV.mk (.slice (some a0) X cap) rows).iC=some a0.block:=by rw[Jh];cases cap with
     |zero=>omega
     |succ c=>rfl
    obtain⟨y,x,E,V,C,w,B,z⟩:=(U _ F).mem;simp only[RV.jZ,Value.slice.injEq] at V;obtain⟨V,rfl,rfl⟩:=V;exact⟨a0.block,E,V,C,B,z⟩
def ams(R:ao S0 w0 D cf.ty β ρ s a W){e:TypeId}{aY:Bool}{x:SV}{V:LE}{n1:BE}{kill:List Nat}(h:rR s e aY x=some (V,n1,kill))(M:n1.den ρ=true):
  ∃A n cap,x.den ρ β=.slice A n cap/\aT W cf.ty (.sl e) (.mk (.slice A n cap) (V.rows ρ))/\Ji W e (aW cf.ty (.sl e)).length A cap/\n<=536870912/\
   ((kill=[]/\jp A cap=none)\/∃k t rv,kill=[k]/\s.rs[k]?=some (.own t)/\ρ.r[k]?=some rv/\jp A cap=rv.iC)/\∀frz,xX cf.ty β ρ s e (V.rows ρ) frz:=by
 unfold rR at h;split at h;rename_i k;split at h;rename_i L;cases h;have Z:=L.1;obtain⟨A,n,cap,U,J,I⟩:=M6 R Z;have Q:=M5 M;refine⟨A,n,cap,by simp only[SV.den,RE.den,RE.rv];rw[U];rfl,by simpa[LE.rows,RE.rv] using J,I, ?_,.inr ⟨k,e,ρ.rv k,rfl,Z,qu R Z,by rw[U,Jh]⟩,λfrz b X=> ?_⟩;simp only[IE.den,RE.rv] at Q;rw[U] at Q;simp[lenOf] at Q;omega;simp only[LE.rows,RE.rv] at X;have N:=Fe (ρ:=ρ) (e0:=.own e) rfl X;refine⟨⟨k,_,Z,N⟩,(R.mem.ref k _ _ Z (qu R Z)).2 b N,λE t rv H G F=>(Jf R H G F Z rfl X).elim⟩;cases h;rename_i r C;split at h;rename_i O;cases h;unfold RE.isNil at O;split at O;refine⟨none,0,0,rfl,xW _ _,⟨λ_=>rfl,.inl rfl⟩,by omega,.inl ⟨rfl,rfl⟩,λfrz b X=>(Je (by simpa[LE.rows] using X)).elim⟩;cases O;cases h;cases h;refine⟨_,0,0,rfl,xW _ _,⟨by simp,.inl rfl⟩,by omega,.inl ⟨rfl,rfl⟩,λfrz b X=>(Je (by simpa[LE.rows] using X)).elim⟩;cases h
def M7{w:Nat}:∀{n:Nat}{l:List SV}{i:Nat}{row:List SV},(fW w n l)[i]?=some row->row=(l.drop (i*w)).take w/\i<n
 |0,l,i,row,h=>by simp[fW] at h
 |n+1,l,0,row,h=>by simp[fW] at h;subst h;exact⟨by simp,by omega⟩
 |n+1,l,i+1,row,h=>by
  simp only[fW,axh] at h;obtain⟨Z,X⟩:=M7 h;refine⟨?_,by omega⟩;rw[Z,ayw];congr 2;rw[axI];omega
def M8(w:Nat):∀(n:Nat)(l:List SV),(fW w n l).length=n
 |0,l=>rfl
 |n+1,l=>by simp[fW,M8 w n]
def M9:∀{l:List SV}{r:RE}{k:Nat},SV.ref r∈l->r.root=some k->k∈SV.lz l
 |[],r,k,h,_=>by simp at h
 |x::xs,r,k,h,Z=>by
  simp only[SV.lz,awR];rcases awP.1 h with rfl|h;left;simp[SV.SR,Z];right;exact M9 h Z
def abZ(R:ao S0 w0 D cf.ty β ρ s a W){e:TypeId}{l:List (List SV)}{frz:List Nat}(N:jX cf.ty s (aW cf.ty (.sl e)) l=true)(M:∀row∈l,∀(r:RE)(k:Nat),SV.ref r∈row->r.root=some k->k∈frz):
  xX cf.ty β ρ s e (l.map λrow=>row.map (SV.bp ρ)) frz:=by
 intro b ⟨i,j,row,c,z,k,Z,L,J,I⟩;rw[awL] at Z;cases X:l[i]? with
 |none=>rw[X] at Z;cases Z
 |some V=>
  rw[X] at Z;simp at Z;subst Z;obtain⟨r,H,U,Q,O⟩:=TL (z6 N i V X) L J I;obtain⟨G,F⟩:=Ff R Q U O;refine⟨G,F,λA t rv E C B=> ?_⟩;have:=M3 R E C B Q U O;subst this;exact M V (aw1 X) _ _ (aw1 H) rfl
def TQ(R:ao S0 w0 D cf.ty β ρ s a W){e:TypeId}{l:List (List SV)}(X:jX cf.ty s (aW cf.ty (.sl e)) l=true):dB W cf.ty e (l.map λrow=>row.map (SV.bp ρ)):=by
 refine dB.of (λi row Z=> ?_);rw[awL] at Z;cases h:l[i]? with
 |none=>rw[h] at Z;cases Z
 |some V=>rw[h] at Z;simp at Z;subst Z;exact TK R (z6 X i V h)
def TR{e:TypeId}{l:List SV}{w n:Nat}(I:(aW cf.ty (.sl e)).length=w)(O:jX cf.ty s (aW cf.ty (.sl e)) (fW w n l)=true){q:Nat}{u:Value}(N:(∀(i:Nat)(row:List RV),((fW w n l).map λrow=>row.map (SV.bp ρ))[i]?=some row->row.length=w))
  (h:(cH ((fW w n l).map λrow=>row.map (SV.bp ρ)))[q]?=some u):(SV.ap ρ β l)[q]?=some u:=by
 obtain⟨i,j,row,c,X,V,rfl,rfl⟩:=Fc N h;rw[awL] at X;cases U:(fW w n l)[i]? with
 |none=>rw[U] at X;cases X
 |some R=>
  rw[U] at X;simp at X;subst X;rw[awL] at V;cases Z:R[j]? with
  |none=>rw[Z] at V;cases V
  |some v=>
   rw[Z] at V;simp at V;subst V;obtain⟨H,M⟩:=Cz (z6 O i R U);have G:j<R.length:=(awG.1 Z).1;obtain⟨Q,L⟩:∃Q,(aW cf.ty (.sl e))[j]?=some Q:=⟨_,awH (by omega)⟩;rw[ou];have J:=(M7 U).1;have:l[i*w+j]?=some v:=by
    rw[J,axc] at Z;split at Z
    rwa [axl] at Z
    cases Z
   rw[this];simp only[awO,awJ];exact abV (M j Q v L Z)
def amt(R:ao S0 w0 D cf.ty β ρ s a W){e:TypeId}{U:TI}(l:cf.ty e=some U){y:SV}{Q:LE}{n2:BE}{frz:List Nat}(h:nq cf.ty s e U y=some (Q,n2,frz))(j:n2.den ρ=true):
  ∃A n cap,y.den ρ β=.slice A n cap/\(Q.rows ρ).length=n/\dB W cf.ty e (Q.rows ρ)/\(∀(q:Nat)(u:Value),(cH (Q.rows ρ))[q]?=some u->∃a0,A=some a0/\W.cell? (a0.add q)=some u)/\n<=536870912/\xX cf.ty β ρ s e (Q.rows ρ) frz:=by
 have G:aW cf.ty (.sl e)=U.ab:=by simp[aW,l]
 unfold nq at h;split at h;rename_i r;split at h;rename_i F;cases h;unfold RE.isNil at F;split at F;exact⟨none,0,0,rfl,rfl,dB.nil,λq u X=>by simp[LE.rows,cH] at X,by omega,λb Z=>(Je (by simpa[LE.rows] using Z)).elim⟩;cases F;split at h;rename_i O;cases h;have M:=nz R (by simp) O;have L:=M5 j;simp only[IE.den] at L;have E:xX cf.ty β ρ s e (r.rv ρ).rows []:=by
  intro b Z;have x:cn cf.ty (.sl e) (r.rv ρ) b:=by rw[<-Cy (r.rv ρ)];exact MY Z
  obtain⟨g,f⟩:=Ff R (by simp) O x;refine⟨g,f,λk' t rv J w p=> ?_⟩;have:=M3 R J w p (by simp) O x;subst this;simp only[RE.kind,awK,J,axi,RK.rd,RK.sl.injEq] at O;subst O;exact(Jf R J w p J rfl Z).elim
 simp only[SV.den,RE.den,LE.rows];revert M L E;generalize r.rv ρ=rv;intro M L E;have I:=dB.t7 (v:=rv.val) (rows:=rv.rows) (by rw[Cy];exact M);cases M with
 |sl e A V cap rows H o C hi Z d=>
  refine⟨A,V,cap,rfl,H,I,λq u X=> ?_,by simp[lenOf] at L;omega,E⟩;obtain⟨b,off,c,g2,g3⟩:=Jc (aT.sl e A V cap rows H o C hi Z d) q u X;exact⟨_,c,by rw[sa];exact g3⟩
 cases h;rename_i i off V cap;split at h;rename_i bt cs Z;split at h;rename_i m;cases h;simp only[awF,decide_eq_true_eq] at m;obtain⟨⟨H,o⟩,C⟩:=m;have B:jX cf.ty s (aW cf.ty (.sl e)) (fW U.ab.length V (rN cs off (V*U.ab.length)))=true:=by rw[G];exact H
 have I:=TQ R B;refine⟨some ⟨ad β i,off,none⟩,V,cap,rfl,by simp[LE.rows,M8],by simpa[LE.rows] using I,λq u X=> ?_,by simp[Ey] at C;omega, ?_⟩;simp only[LE.rows] at X;have N:=TR (β:=β) (by rw[G]) B (λi row z=>by rw[I.len i row z,G]) X;refine⟨_,rfl, ?_⟩;rw[ou,rN,axc] at N;split at N;rw[axl,<-ou] at N;obtain⟨Z,af⟩:=tX Z;have:=R.mem.box i bt cs Z;rw[qo af] at this;rw[sa];simp[World.cell?,this,N];simp at N;refine abZ R B (λrow ag r k z hk=> ?_);obtain⟨ii,an⟩:=axv ag;have:=(M7 an).1;subst this;exact M9 (axG (axL z)) hk;cases h;cases h;cases h
end
end
section
section
variable{S0:List Nat}{w0:World}{D:bw}{P:Program}{cf:bc}{β:List Nat}{ρ:aa}{s:S}{a:Act}{W:World}
def vX{x y:BE}(h:(qe x y).den ρ=true):x.den ρ=true/\y.den ρ=true:=by
 rw[Tm] at h;simpa using h
def ub{x y:IE}(h:(mb .leq x y).den ρ=true):x.den ρ<=y.den ρ:=by
 rw[xR] at h;simp only[ew] at h;exact of_decide_eq_true h
def amu(R:ao S0 w0 D cf.ty β ρ s a W)(Q:fA P cf.ty)(n:dA cf.gl ρ){o:Oper}{c:Call}(I:o.op=.call c)(H:c.callee=.builtin .append){aY m:Bool}{b:BI}(h:cK cf o aY m s=some b)(l:b.az.den ρ=true):
  Fh P S0 w0 D cf.ty β ρ s a W o b:=by
 unfold cK at h;simp only[I,H] at h;split at h;rename_i t t2 x y k O;split at h;rename_i e ab q U a5 q2 j i;split at h;rename_i G N;split at h;cases h;rename_i F;have g:e=U:=by by_cases Z:e=U;exact Z;exact absurd (.inl Z) F
 have f:G.ab.length≠0:=λZ=>F (.inr Z)
 subst g;split at h;rename_i X n1 kill V n2 frz E C;obtain⟨aO,d,rfl⟩:=ua h;obtain⟨af,ag⟩:=vX l;obtain⟨A1,B,c1,e1,M,g2,g3,g4,g5⟩:=ams (cf:=cf) R E af;obtain⟨A2,w,c2,U,v,u,k3,k4,k5⟩:=amt R N C ag;have L:(aW cf.ty (.sl e)).length=G.ab.length:=by simp[aW,N]
 obtain⟨A,cap,W',r1,r2,r3⟩:=amr (P:=P) (tyR:=o.type) (t:=t) (t2:=t2) (cap2:=c2) (Q _ _ N) f L (Q _ _ j).desc (Q _ _ i).desc M (by rw[<-L];exact g2) v u k3 g3 k4;have an:(LE.jG X V).rows ρ=X.rows ρ++V.rows ρ:=rfl;have r:(X.rows ρ++V.rows ρ).length=B+w:=by rw[awQ,(qr M).1,v]
 have a0:xX cf.ty β ρ s e (X.rows ρ++V.rows ρ) frz:=λb hb=>(amo hb).elim (g5 frz b) (k5 b)
 obtain⟨R',a1⟩:=R.bind aO (old:=jp A1 c1) g4 d r2 ((dB.t7 M).jG u) a0 (by rw[L];exact r3);refine⟨.slice A (B+w) cap,W',.mk (.slice A (X.rows ρ++V.rows ρ).length cap) (X.rows ρ++V.rows ρ),.inl ?_,⟨⟨A,_,cap,by rw[an],rfl⟩,a1,λ_ _ _ _ h=>by cases h⟩, ?_,z7 _ _ _⟩;have ha:c.args.toList=[c.args.toList.getD 0 default,c.args.toList.getD 1 default]:=by
  have hl:c.args.toList.length=2:=by have:=congrArg ayW O;simpa using this
  match c.args.toList,hl with
  |[p,q],_=>rfl
 have a2:∀z∈c.args.toList,a.eval z=(s.ev cf.gl z).den ρ β:=by
  intro z J;refine bM R n z ?_;have:s.ev cf.gl z∈[x,y]:=by rw[<-O];exact List.mem_map_of_mem J
  rcases awP.1 this with Z|Z;rw[Z];cases x<;>first|rfl|(simp[rR] at E)
  rw[ayJ.1 Z];cases y<;>first|rfl|(simp[nq] at C)
 have a3:c.args.map a.eval= #[x.den ρ β,y.den ρ β]:=by
  apply axD;rw[axq];have:c.args.toList.map a.eval=(c.args.toList.map (s.ev cf.gl)).map (SV.den ρ β):=by
   rw[axu];exact aw5 λz J=>a2 z J
  rw[this,O];rfl
 have a4:c.argTypes= #[t,t2]:=by apply axD;rw[k]
 simp only[execOp,I,resolve,H,Sem.run_bind,Sem.run_pure,Result.andThen_ok,invoke,builtin,a3,a4,e1,U,r1];have:=CA R' R.er o.dst;rw[RV.jZ,r] at this;rw[r];exact this;cases h;cases h;cases h;cases h
def amv(Z:CT):((xw Z).bp ρ).val=mQ Z:=by cases Z<;>rfl
def amw(R:ao S0 w0 D cf.ty β ρ s a W)(G:fA P cf.ty)(p:dA cf.gl ρ){o:Oper}{t:TypeId}{l g:Operand}(F:o.op=.makeSlice t l g){aY dr:Bool}{b:BI}(h:cK cf o aY dr s=some b)(hn:b.az.den ρ=true):
  Fh P S0 w0 D cf.ty β ρ s a W o b:=by
 unfold cK at h;simp only[F] at h;split at h;rename_i e ab q n m ht f d;split at h;rename_i Z L;split at h;rename_i hc;simp only[awF,bne_iff_ne,ne_eq] at hc;obtain⟨⟨a2,a3⟩,a4⟩:=hc;obtain⟨aO,b3,rfl⟩:=ua h;obtain⟨E,C⟩:=vX hn;have E:=ub E;have C:=M5 C;simp only[IE.den] at E;obtain⟨N,J⟩:∃N:Nat,n.den ρ=(N:Int):=⟨(n.den ρ).toNat,by omega⟩;rw[J] at C;have a5:N<=536870912:=by omega
 have B:(aW cf.ty (.sl e)).length=Z.ab.length:=by simp[aW,L]
 have I:aW cf.ty (.sl e)=Z.ab:=by simp[aW,L]
 have y:=bM R p l (by rw[f];rfl);have x:=bM R p g (by rw[d];rfl);have a6:m=n:=(IE.bl _ _ a2).symm;rw[f,SV.den,J] at y;rw[d,SV.den,a6,J] at x;obtain⟨i,hi,a7,z,hz,af⟩:=(G _ _ L).EX;have a8:=(G _ _ L).bytes i hi;have ag:z.cells.size=Z.ab.length:=by rw[<-axP,af];simp
 have u:jX cf.ty s (aW cf.ty (.sl e)) [cq Z]=true:=by rw[I];exact a3
 have a9:M4 W cf.ty (aW cf.ty (.sl e)) ((cq Z).map (SV.bp ρ)):=TK R (z6 u 0 _ rfl);have bb:(LE.oc n (cq Z)).rows ρ=awS N ((cq Z).map (SV.bp ρ)):=by simp[LE.rows,J]
 have O:dB W cf.ty e (awS N ((cq Z).map (SV.bp ρ))):=dB.of (λi row U=>by
  rw[axK] at U;split at U;cases U;exact a9;cases U)
 have bd:xX cf.ty β ρ s e (awS N ((cq Z).map (SV.bp ρ))) []:=by
  intro b ⟨i,j,row,c,z,k,Q,V,X,hl⟩;rw[axK] at Q;split at Q;cases Q;exfalso;rw[awL,cq,awL] at V;rw[I] at X;rw[X] at V;simp only[awO,awJ,xw,SV.bp,RE.rv] at V;subst V;cases hl with
  |deep e v rows i j row c z k b g1=>simp at g1
  |own e' b4 b hl=>
   have r:=(Cz (z6 u 0 _ rfl)).2 j _ (.ref (.k z)) (by rw[I];exact X) (by simp[cq,X,xw]);simp[oh,RE.fits] at r
  |here e a0 bf cap rows=>
   have r:=(Cz (z6 u 0 _ rfl)).2 j _ (.ref (.k (.slice (some a0) (bf+1) cap))) (by rw[I];exact X) (by simp[cq,X,xw]);simp[oh,RE.fits,RE.kind,RE.isNil] at r
  cases Q
 have bk:(azP (N*Z.ab.length)).map (z.cells[· %z.cells.size]!)=(cH (awS N ((cq Z).map (SV.bp ρ)))).toArray:=by
  apply axD;apply axd;intro q;have b5:(cH (awS N ((cq Z).map (SV.bp ρ)))).length=N*Z.ab.length:=by rw[vV O.len,B];simp
  by_cases hq:q<N*Z.ab.length;have br:0<Z.ab.length:=by omega
  have bs:q/Z.ab.length<N:=azj (by rw[ay3];exact hq);have hj:q%Z.ab.length<Z.ab.length:=ayI _ br;have an:Z.ab[q%Z.ab.length]?=some Z.ab[q%Z.ab.length]:=awH hj;have Q:(awS N ((cq Z).map (SV.bp ρ)))[q/Z.ab.length]?=some ((cq Z).map (SV.bp ρ)):=by rw[axK,if_pos bs]
  have V:((cq Z).map (SV.bp ρ))[q%Z.ab.length]?=some ((xw Z.ab[q%Z.ab.length]).bp ρ):=by simp[cq,an]
  have X:=Jb (w:=Z.ab.length) (λi row U=>by rw[O.len i row U,B]) Q V;have bt:q/Z.ab.length*Z.ab.length+q%Z.ab.length=q:=by rw[ay3];exact azk q _
  rw[bt,amv] at X;simp only[axq,azv,awL,ax3 hq,awO,ag];rw[X];congr 1;have a1:q%Z.ab.length<z.cells.size:=by rw[ag];exact hj
  rw[getElem!_pos z.cells _ a1];have:z.cells.toList[q%Z.ab.length]?=some (mQ Z.ab[q%Z.ab.length]):=by rw[af,awL,an];rfl
  rw[ayS,ayZ a1] at this;simpa using this;rw[aw4 (by simp;omega),aw4 (by rw[ayn];omega)]
 have bx:IntKind.i64.wrap (N:Int)=N:=IntWalk.i64_in _ (by omega);have b6:(i.bytes:Int)*N<=2^46:=by
  have:i.bytes*N<=131072*536870912:=azW a8 a5;have V:((i.bytes*N:Nat):Int)<=((131072*536870912:Nat):Int):=Int.ofNat_le.2 this;simp only[Int.natCast_mul] at V;omega
 obtain⟨R',b0⟩:=R.bind aO (old:=none) (kill:=[]) (frz:=[]) (A:=some ⟨W.heap.size,0,none⟩) (cap:=N) (W':=W.alloc (.cells (cH (awS N ((cq Z).map (SV.bp ρ)))).toArray e)) (.inl ⟨rfl,rfl⟩) (by simp) (World.grownBy_alloc W _ none) O bd
  ⟨by simp,by simp,by
   rcases axT N with M|M;exact .inl M;exact .inr ⟨W.heap.size,_,rfl,World.alloc_heap_new W _,by simp only[maxLen];omega,by
    rw[axQ,vV O.len,B];simp,by
    rw[ayn,axX];rw[vV O.len];exact awN _,.inl (awN _)⟩⟩
 refine⟨.slice (some ⟨W.heap.size,0,none⟩) N N,W.alloc (.cells (cH (awS N ((cq Z).map (SV.bp ρ)))).toArray e),.mk (.slice (some ⟨W.heap.size,0,none⟩) (awS N ((cq Z).map (SV.bp ρ))).length N) _,.inl ?_,⟨⟨_,_,_,by rw[bb],rfl⟩,b0,λ_ _ _ _ h=>by cases h⟩, ?_,z7 _ _ _⟩;have hd:P.underlying t=some (.slice e):=(G _ _ ht).desc;rw[<-bk];have c1:¬((N:Int)<0):=by omega
 have c2:¬((i.bytes:Int)*N>2^48):=by omega
 by_cases M:N*Z.ab.length=0;have b1:N=0:=by rcases Nat.mul_eq_zero.1 M with H|H;exact H;exact absurd H a4
 subst b1;have b2:IntKind.i64.wrap 0=0:=IntWalk.i64_in 0 (by omega);simp[execOp,F,y,x,Instr.makeSlice,cS.eF hd,asInt,asIntOf,typeInfo,hi,b2,Go.sizeOf,newRow,askRoom,World.alloc_eq];congr 2;apply axD;simp[azP];simp[execOp,F,y,x,Instr.makeSlice,cS.eF hd,asInt,asIntOf,typeInfo,hi,bx,c1,c2,Go.sizeOf,a7,M,zeroValue,hz,newRow,World.alloc_eq];intro H;omega;have:=CA R' R.er o.dst;rw[RV.jZ] at this;simp only[List.length_replicate] at this⊢;exact this;cases h;cases h;cases h
def amx(R:ao S0 w0 D cf.ty β ρ s a W)(N:fA P cf.ty)(j:dA cf.gl ρ){o:Oper}{t:TypeId}{Z:Nat}{parts:Array (Nat×Operand)}(I:o.op=.buildSlice t Z parts){aY g:Bool}{b:BI}(h:cK cf o aY g s=some b):
  Fh P S0 w0 D cf.ty β ρ s a W o b:=by
 unfold cK at h;simp only[I] at h;split at h;cases h;split at h;rename_i e ab q f;split at h;rename_i X M;split at h;rename_i l d;split at h;rename_i E;simp only[awF,bne_iff_ne,ne_eq,beq_iff_eq,decide_eq_true_eq,awY] at E;obtain⟨⟨⟨⟨⟨c,h2⟩,h3⟩,h4⟩,h5⟩,h6⟩:=E;obtain⟨aO,af,rfl⟩:=ua h;have U:aW cf.ty (.sl e)=X.ab:=by simp[aW,M]
 have H:jX cf.ty s (aW cf.ty (.sl e)) (fW X.ab.length Z l)=true:=by rw[U];exact h2
 have G:=TQ R H;have ag:(LE.lit (fW X.ab.length Z l)).rows ρ=(fW X.ab.length Z l).map λrow=>row.map (SV.bp ρ):=rfl
 have L:((fW X.ab.length Z l).map λrow=>row.map (SV.bp ρ)).length=Z:=by simp[M8]
 have an:=abZ R H (frz:=SV.lz l) (λrow a0 r k Q F=>by
  obtain⟨ii,a1⟩:=axv a0;have:=(M7 a1).1;subst this;exact M9 (axG (axL Q)) F)
 have J:(cH ((fW X.ab.length Z l).map λrow=>row.map (SV.bp ρ))).length=Z*X.ab.length:=by rw[vV (w:=X.ab.length) (λi row Q=>by rw[G.len i row Q,U]),L]
 have a2:cH ((fW X.ab.length Z l).map λrow=>row.map (SV.bp ρ))=SV.ap ρ β l:=by
  apply axd;intro k;by_cases F:k<Z*X.ab.length;have C:k<(cH ((fW X.ab.length Z l).map λrow=>row.map (SV.bp ρ))).length:=by rw[J];exact F
  have:=TR (β:=β) (by rw[U]) H (λi row Q=>by rw[G.len i row Q,U]) (awH C);rw[this,awH C];rw[aw4 (by rw[J];omega),aw4 (by rw[Cs,c];omega)]
 have a8:Z<=536870912:=by simp only[Ey] at h4;omega
 obtain⟨R',a3⟩:=R.bind aO (old:=none) (kill:=[]) (frz:=SV.lz l) (A:=some ⟨W.heap.size,0,none⟩) (cap:=Z) (W':=W.alloc (.cells (cH ((fW X.ab.length Z l).map λrow=>row.map (SV.bp ρ))).toArray e)) (.inl ⟨rfl,rfl⟩) af (World.grownBy_alloc W _ none) G an
  ⟨by rw[L];exact awN _,by simp,by
   rcases axT Z with V|V;exact .inl V;exact .inr ⟨W.heap.size,_,rfl,World.alloc_heap_new W _,by simp only[maxLen];omega,by
    rw[axQ,J,U],by
    rw[ayn,axX];rw[J,L,U];exact awN _,.inl (awN _)⟩⟩
 refine⟨.slice (some ⟨W.heap.size,0,none⟩) Z Z,W.alloc (.cells (cH ((fW X.ab.length Z l).map λrow=>row.map (SV.bp ρ))).toArray e),.mk (.slice (some ⟨W.heap.size,0,none⟩) ((fW X.ab.length Z l).map λrow=>row.map (SV.bp ρ)).length Z) _,.inl ?_,⟨⟨_,_,_,by rw[ag],rfl⟩,a3,λ_ _ _ _ h=>by cases h⟩, ?_,z7 _ _ _⟩;have B:P.underlying t=some (.slice e):=(N _ _ f).desc;have y:(parts.map λ(i,x)=>(i,a.eval x)).toList=(parts.toList.map λp=>(p.1,s.ev cf.gl p.2)).map λp=>(p.1,p.2.den ρ β):=by
  simp only[axq,axu];apply aw5;intro p hp;have:=bM R j p.2 (by
   cases hh:(s.ev cf.gl p.2).cN;rfl;exact absurd (axe.2 ⟨p,hp,hh⟩) (by rw[h6];simp))
  simp[this]
 obtain⟨z,a4,a5⟩:=E3 (P:=P) (W:=W) (ρ:=ρ) (β:=β) (N _ _ M);have v:=I9 (β:=β) (qp R) _ _ _ _ d;have O:(cq X).length=X.ab.length:=by simp[cq]
 have hzero:((azP (Z*X.ab.length)).map ((if Z*X.ab.length=0 then #[] else z.cells)[· %(if Z*X.ab.length=0 then #[] else z.cells).size]!))=(SV.ap ρ β (rP Z (cq X))).toArray:=by
  apply axD;apply axd;intro k;by_cases u:k<Z*X.ab.length;have a6:¬Z*X.ab.length=0:=by omega
  have a7:0<X.ab.length:=Nat.pos_of_ne_zero h3;have n:k%X.ab.length<(SV.ap ρ β (cq X)).length:=by rw[Cs,O];exact ayI _ a7
  simp only[a6,if_false,a5,axq,azv,awL,ax3 u,awO,ou,TP _ _ _ (by rw[O];exact u),O];rw[<-ou,awH n];simp only[axQ,Cs,O];rw[getElem!_pos _ _ (by simpa using n)];simp;rw[aw4 (by simp;omega),aw4 (by simp[abY,O];omega)]
 have m:¬Z*X.ab.length>2^24:=by omega
 rw[a2];by_cases V:Z*X.ab.length=0;simp only[if_pos V] at hzero;simp only[execOp,I,Instr.buildSlice,Sem.run_bind,cS.eF B,Result.andThen_ok,(N _ _ M).j7,m,if_false,Sem.run_pure,if_pos V,y];rw[hzero,v];simp[newRow,World.alloc_eq];simp only[if_neg V] at hzero;simp only[execOp,I,Instr.buildSlice,Sem.run_bind,cS.eF B,Result.andThen_ok,(N _ _ M).j7,m,if_false,Sem.run_pure,if_neg V,y,a4];rw[hzero,v];simp[newRow,World.alloc_eq];have:=CA R' R.er o.dst;rw[RV.jZ] at this;rw[L] at this⊢;exact this;cases h;cases h;cases h;cases h
end
end
section
section
variable{S0:List Nat}{w0:World}{D:bw}{P:Program}{cf:bc}{β:List Nat}{ρ:aa}{s:S}{a:Act}{W:World}
def Jk{rows:List (List RV)}{l h i:Nat}{row:List RV}(Z:((rows.take h).drop l)[i]?=some row):rows[l+i]?=some row/\l+i<h:=by
 rw[axl,axc] at Z;split at Z;exact⟨Z,by assumption⟩;cases Z
def amy{ty:Ty}{e:TypeId}{rows:List (List RV)}{l h:Nat}{b:Nat}(hi:j5 ty e ((rows.take h).drop l) b):j5 ty e rows b:=by
 obtain⟨i,j,row,c,z,k,Z,X,V,U⟩:=hi;exact⟨_,j,row,c,z,k,(Jk Z).1,X,V,U⟩
def amz{ty:Ty}{e:TypeId}{A:Option Addr}{n cap l h:Nat}{rows:List (List RV)}(Z:aT W ty (.sl e) (.mk (.slice A n cap) rows))(B:l<=h)(z:h<=n):
  aT W ty (.sl e) (.mk (.slice (if cap=l then A else A.map (·.add (l*(aW ty (.sl e)).length))) (h-l) (cap-l)) ((rows.take h).drop l)):=by
 obtain⟨U,y⟩:=qr Z;have R:((rows.take h).drop l).length=h-l:=by simp[U];omega
 have Q:=dB.t7 Z;have X:dB W ty e ((rows.take h).drop l):=dB.of (λi row O=>Q.get (Jk O).1);by_cases N:l=h;have:(rows.take h).drop l=[]:=axa (by omega);rw[this,N,azl];exact xW _ _;have x:l<h:=by omega
 have M:cap≠l:=by omega
 rw[if_neg M];obtain⟨row,L⟩:∃row,rows[l]?=some row:=⟨_,awH (by omega)⟩;cases Z with
 |sl e A w cap rows v t V hi r p=>
  obtain⟨-,b,off,rfl,J,-⟩:=V l row L;rw[<-R];simp only[awO,sa];refine TH X J (λq u I=> ?_) (by omega);obtain⟨i,j,H,c,G,F,rfl,rfl⟩:=Fc X.len I;obtain⟨-,o,m,E,-,C⟩:=V (l+i) H (Jk G).1;cases E;have:=C j c F;rw[show off+l*(aW ty (.sl e)).length+(i*(aW ty (.sl e)).length+j)=off+(l+i)*(aW ty (.sl e)).length+j by rw[axI];omega];exact this
def TS(R:ao S0 w0 D cf.ty β ρ s a W)(aO:s.bd=true){e:TypeId}{r:RE}(U:r.kind cf.ty s=.sl e){A:Option Addr}{n cap:Nat}(F:r.den ρ=.slice A n cap){l h:Nat}(E:l<=h)(C:h<=n){Q:Option Addr}{O:Nat}
  (X:Q=if cap=l then A else A.map (·.add (l*(aW cf.ty (.sl e)).length)))(B:O=cap-l):
  ao S0 w0 D cf.ty β (ρ.add (.r (.mk (.slice Q (h-l) O) (((r.rv ρ).rows.take h).drop l)))) {s with rs:=iQ r.root.toList 0 (gj [] 0 s.rs)++[.sl e]} a W/\
   (((r.rv ρ).rows.take h).drop l).length=h-l/\∀b,cn cf.ty (.sl e) (.mk (.slice Q (h-l) O) (((r.rv ρ).rows.take h).drop l)) b->w0.heap.size<=b\/b∈S0\/ρ.mg cf.ty s.rs b:=by
 have N:=nz R (by simp) U;have J:r.rv ρ=.mk (.slice A n cap) (r.rv ρ).rows:=by rw[<-F];exact(Cy _).symm
 rw[J] at N;have z:=amz N E C;have M:∀b,cn cf.ty (.sl e) (.mk (.slice Q (h-l) O) (((r.rv ρ).rows.take h).drop l)) b->cn cf.ty (.sl e) (r.rv ρ) b:=by
  intro b V;rw[J];rcases abS V with⟨a0,o,m,Z,rfl⟩|Z;simp only[Value.slice.injEq] at Z;obtain⟨Z,I,H⟩:=Z;obtain⟨n',rfl⟩:∃n',n=n'+1:=⟨n-1,by omega⟩;rw[Z] at X;have y:cap≠l:=by have:=(qr N).2;omega
  rw[if_neg y] at X;cases A with
  |none=>simp at X
  |some G=>
   simp only[awO,awJ] at X;have:a0.block=G.block:=by rw[X];unfold Addr.add;split<;>rfl
   rw[this];exact cn.here e G n' cap _
  exact MY (amy Z)
 have x:gj [] 0 s.rs=s.rs:=by
  apply axd;intro i;rw[Fa];cases s.rs[i]?<;>simp
 rw[x];have w:=R.j9 (MX r.root.toList s.rs);refine⟨?_,by have:=(qr N).1;simp;omega,λb V=>.inr (.inr (Ff R (by simp) U (M b V)).1)⟩;refine w.add (Jg aO (vU _ _ _)) (by rw[X,B];exact z) (λb V=>(Ff R (by simp) U (M b V)).2) (λk t rv b Z I H L=> ?_) (λt b v=>by cases v);obtain⟨u,q⟩:=TM Z;rcases L with L|⟨⟨j,p⟩,_⟩;have:=M3 R u I H (by simp) U (M b L);subst this;exact q (by simp[RE.root]);cases p
def Jl{n:Int}(h:0<=n):∃N:Nat,n=(N:Int):=⟨n.toNat,by omega⟩
def amA(R:ao S0 w0 D cf.ty β ρ s a W)(I:fA P cf.ty)(d:dA cf.gl ρ){o:Oper}{t:TypeId}{x:Operand}{lo hi mx:Option Operand}(ho:o.op=.slice t x lo hi mx){aY dr:Bool}{b:BI}(h:cK cf o aY dr s=some b)(hn:b.az.den ρ=true):
  Fh P S0 w0 D cf.ty β ρ s a W o b:=by
 unfold cK at h;simp only[ho] at h;split at h;cases h;have k:∀{y:Option Operand}{v:SV},y.map (s.ev cf.gl)=some v->v≠ .any->y.map a.eval=some (v.den ρ β):=by
  intro y v j Z;cases y with
  |none=>cases j
  |some z=>
   simp only[awO,awJ] at j⊢;rw[<-j];exact bM R d z (by rw[j];cases v<;>first|rfl|exact absurd rfl Z)
 have i:∀{y:Option Operand},y.map (s.ev cf.gl)=none->y.map a.eval=none:=by
  intro y j;cases y with
  |none=>rfl
  |some z=>cases j
 split at h
 
 rename_i e ab q r k1 k2 F V E C B;split at h;rename_i g N;split at h;rename_i w;obtain⟨aO,an,rfl⟩:=ua h;have U:=bM R d x (by rw[V];rfl);rw[V,SV.den] at U;have u:P.underlying t=some (.slice e):=(I _ _ F).desc;obtain⟨A,n,cap,Z⟩:∃A n cap,r.den ρ=.slice A n cap:=by
  rcases w with w|w;exact I8 R w;unfold RE.isNil at w;split at w;exact⟨none,0,0,rfl⟩;cases w
 obtain⟨p,m⟩:=R.bind aO (old:=none) (kill:=[]) (frz:=[]) (rows:=[]) (e:=e) (A:=A) (cap:=0) (W':=W) (.inl ⟨rfl,rfl⟩) (by simp) ⟨rfl,rfl,rfl,awN _,λ_ _ _=>rfl⟩ dB.nil (λb hb=>(Je hb).elim) ⟨by simp,λ_=>rfl,.inl rfl⟩;refine⟨.slice A 0 0,W,.mk (.slice A 0 0) [],.inl ?_,⟨⟨A,0,0,rfl,rfl⟩,m,λ_ _ _ _ h=>by cases h⟩,CA p R.er o.dst,z7 _ _ _⟩;have e1:=k E (by simp);have M:=k C (by simp);have J:=i B;simp only[SV.den,IE.den] at e1 M;simp[execOp,ho,U,Z,e1,M,J,Instr.sliceAt,cS.eF u,Instr.slice,Instr.sliceBounds,Instr.sliceBound,asIntOf,(I _ _ N).j7];cases h;cases h
 
 rename_i e ab q r ih il F V E C B;split at h;rename_i g N;split at h;rename_i Q;obtain⟨aO,an,rfl⟩:=ua h;obtain⟨X,ag⟩:=vX hn;obtain⟨ag,O⟩:=vX ag;have X:=ub X;have ag:=ub ag;have O:=ub O;have U:=bM R d x (by rw[V];rfl);rw[V,SV.den] at U;have u:P.underlying t=some (.slice e):=(I _ _ F).desc;obtain⟨A,n,cap,Z⟩:=I8 R Q;have f:lenOf (r.rv ρ).val=n:=by have:=Z;unfold RE.den at this;rw[this];rfl
 simp only[IE.den,f] at X O;obtain⟨L,hL⟩:=Jl X;obtain⟨H,hH⟩:=Jl (show 0<=ih.den ρ by omega);have a0:n<=cap:=by
  have:=nz R (by simp) Q;rw[<-Cy (r.rv ρ),show(r.rv ρ).val=.slice A n cap from Z] at this;exact(qr this).2
 obtain⟨p,af,m⟩:=TS R aO Q Z (l:=L) (h:=H) (by omega) (by omega) rfl rfl;have G:(LE.sub (.ref r) il ih).rows ρ=((r.rv ρ).rows.take H).drop L:=by simp[LE.rows,hL,hH]
 have hw:(aW cf.ty (.sl e)).length=g.ab.length:=by simp[aW,N]
 refine⟨.slice (if cap=L then A else A.map (·.add (L*(aW cf.ty (.sl e)).length))) (H-L) (cap-L),W,_,.inl ?_,⟨⟨_,_,_,by rw[G],by rw[G];exact af⟩,m,λ_ _ _ _ h=>by cases h⟩,CA p R.er o.dst,z7 _ _ _⟩;have e1:=i E;have M:=k C (by simp);have J:=k B (by simp);simp only[SV.den,hL,hH] at M J;have c1:(H:Int)<=(cap:Int):=by omega
 have c2:(L:Int)<=(H:Int):=by omega
 simp[execOp,ho,U,Z,e1,M,J,Instr.sliceAt,cS.eF u,Instr.slice,Instr.sliceBounds,Instr.sliceBound,asIntOf,(I _ _ N).j7,c1,c2,hw];simp[show H<=cap by omega,show L<=H by omega];cases h;cases h
 
 rename_i e ab q r ih F V E C B;split at h;rename_i g N;split at h;rename_i Q;obtain⟨aO,an,rfl⟩:=ua h;obtain⟨X,O⟩:=vX hn;have X:=ub X;have O:=ub O;have U:=bM R d x (by rw[V];rfl);rw[V,SV.den] at U;have u:P.underlying t=some (.slice e):=(I _ _ F).desc;obtain⟨A,n,cap,Z⟩:=I8 R Q;have f:lenOf (r.rv ρ).val=n:=by have:=Z;unfold RE.den at this;rw[this];rfl
 simp only[IE.den,f] at X O;obtain⟨H,hH⟩:=Jl X;have a0:n<=cap:=by
  have:=nz R (by simp) Q;rw[<-Cy (r.rv ρ),show(r.rv ρ).val=.slice A n cap from Z] at this;exact(qr this).2
 obtain⟨p,af,m⟩:=TS R aO Q Z (l:=0) (h:=H) (by omega) (by omega) rfl rfl;have G:(LE.sub (.ref r) (.c 0) ih).rows ρ=((r.rv ρ).rows.take H).drop 0:=by simp[LE.rows,hH,IE.den]
 have hw:(aW cf.ty (.sl e)).length=g.ab.length:=by simp[aW,N]
 refine⟨.slice (if cap=0 then A else A.map (·.add (0*(aW cf.ty (.sl e)).length))) (H-0) (cap-0),W,_,.inl ?_,⟨⟨_,_,_,by rw[G],by rw[G];exact af⟩,m,λ_ _ _ _ h=>by cases h⟩,CA p R.er o.dst,z7 _ _ _⟩;have e1:=i E;have M:=k C (by simp);have J:=i B;simp only[SV.den,hH] at M;simp[execOp,ho,U,Z,e1,M,J,Instr.sliceAt,cS.eF u,Instr.slice,Instr.sliceBounds,Instr.sliceBound,asIntOf,(I _ _ N).j7,hw];intro hh;omega;cases h;cases h
 
 rename_i e ab q r il F V E C B;split at h;rename_i g N;split at h;rename_i Q;obtain⟨aO,an,rfl⟩:=ua h;obtain⟨X,O⟩:=vX hn;have X:=ub X;have O:=ub O;have U:=bM R d x (by rw[V];rfl);rw[V,SV.den] at U;have u:P.underlying t=some (.slice e):=(I _ _ F).desc;obtain⟨A,n,cap,Z⟩:=I8 R Q;have f:lenOf (r.rv ρ).val=n:=by have:=Z;unfold RE.den at this;rw[this];rfl
 simp only[IE.den,f] at X O;obtain⟨L,hL⟩:=Jl X;have a0:n<=cap:=by
  have:=nz R (by simp) Q;rw[<-Cy (r.rv ρ),show(r.rv ρ).val=.slice A n cap from Z] at this;exact(qr this).2
 obtain⟨p,af,m⟩:=TS R aO Q Z (l:=L) (h:=n) (by omega) (by omega) rfl rfl;have G:(LE.sub (.ref r) il (.len r)).rows ρ=((r.rv ρ).rows.take n).drop L:=by simp[LE.rows,hL,IE.den,f]
 have hw:(aW cf.ty (.sl e)).length=g.ab.length:=by simp[aW,N]
 refine⟨.slice (if cap=L then A else A.map (·.add (L*(aW cf.ty (.sl e)).length))) (n-L) (cap-L),W,_,.inl ?_,⟨⟨_,_,_,by rw[G],by rw[G];exact af⟩,m,λ_ _ _ _ h=>by cases h⟩,CA p R.er o.dst,z7 _ _ _⟩;have e1:=i E;have M:=i C;have J:=k B (by simp);simp only[SV.den,hL] at J;simp[execOp,ho,U,Z,e1,M,J,Instr.sliceAt,cS.eF u,Instr.slice,Instr.sliceBounds,Instr.sliceBound,asIntOf,(I _ _ N).j7,hw];intro hh;omega;cases h;cases h;cases h
mutual
def TU{k n:Nat}(h:(ρ.rv n).val=(ρ.rv k).val):∀(v:SV),(v.fa k n).den ρ β=v.den ρ β
 |.int _ _|.bool _|.loc _ _|.fo _ _ _ _|.yl _|.any=>rfl
 |.ref (.v j)=>by
  simp only[SV.fa];split;rename_i Z;simp at Z;subst Z;simp only[SV.den,RE.den,RE.rv,h];rfl
 |.ref (.cell _ _ _ _)=>rfl
 |.ref (.k _)=>rfl
 |.el (.v j) w i o=>by
  simp only[SV.fa];split;rename_i Z;simp at Z;subst Z;simp only[SV.den,RE.den,RE.rv,h];rfl
 |.el (.cell _ _ _ _) _ _ _=>rfl
 |.el (.k _) _ _ _=>rfl
 |.agg l=>by simp only[SV.fa,SV.den,Fi h l]
 |.bj l=>by simp only[SV.fa,SV.den,Fi h l]
 |.fn f l=>by simp only[SV.fa,SV.den,Fi h l]
 |.dH t x=>by simp only[SV.fa,SV.den,TU h x]
 |.mp _=>rfl
 |.dI e ks vs=>by simp only[SV.fa,SV.den,Fi h vs]
def Fi{k n:Nat}(h:(ρ.rv n).val=(ρ.rv k).val):∀(l:List SV),SV.ap ρ β (SV.lA k n l)=SV.ap ρ β l
 |[]=>rfl
 |x::xs=>by simp only[SV.lA,SV.ap,TU h x,Fi h xs]
end
def amB{k n:Nat}(v:SV):v.fa k n=.any<->v=.any:=by
 cases v with
 |ref r=>cases r<;>simp[SV.fa]<;>split<;>simp
 |el r w i o=>cases r<;>simp[SV.fa]<;>split<;>simp
 |_=>simp[SV.fa]
def ab0{k n:Nat}:∀(l:List SV)(i:Nat),(SV.lA k n l)[i]?=(l[i]?).map (SV.fa k n)
 |[],i=>by simp[SV.lA]
 |x::xs,0=>by simp[SV.lA]
 |x::xs,i+1=>by simp[SV.lA,ab0 xs i]
def ab1{k n:Nat}:∀(l:List SV),(SV.lA k n l).length=l.length
 |[]=>rfl
 |x::xs=>by simp[SV.lA,ab1 xs]
def Jm{k n:Nat}:∀(l:aX),(oY k n l).length=l.length
 |[]=>rfl
 |none::xs=>by simp[oY,Jm xs]
 |some (t,cs)::xs=>by simp[oY,Jm xs]
def TV(k n:Nat)(x:TypeId×List SV):TypeId×List SV:=(x.1,if oa x.1 then x.2 else SV.lA k n x.2)
def Na{k n:Nat}:∀(l:aX)(i:Nat),bA (oY k n l) i=(bA l i).map (TV k n)
 |[],i=>by simp[oY,bP]
 |none::xs,0=>by simp[oY,bP]
 |some (t,cs)::xs,0=>by simp[oY,bP,TV]
 |none::xs,i+1=>by have:=Na xs i (k:=k) (n:=n);simpa[oY,bP] using this
 |some (t,cs)::xs,i+1=>by have:=Na xs i (k:=k) (n:=n);simpa[oY,bP] using this
def CB{k n:Nat}(l:aX)(i:Nat):aA (oY k n l) i=aA l i:=by simp[aA,Na]
def ao.fa{ty:Ty}(R:ao S0 w0 D ty β ρ s a W){k n:Nat}(h:(ρ.rv n).val=(ρ.rv k).val):ao S0 w0 D ty β ρ (s.fa k n) a W:=by
 have M:(s.fa k n).boxes=oY k n s.boxes:=rfl;refine⟨⟨R.mem.base,λi hi=>R.mem.own i (by rw[<-CB (k:=k) (n:=n)];exact hi),λi j hi L=>R.mem.inj i j (by rw[<-CB (k:=k) (n:=n)];exact hi) (by rw[<-CB (k:=k) (n:=n)];exact L),λi t cs Z=> ?_,λQ e rv X O=> ?_⟩,
  by simp[S.fa,Jm,R.dX],R.ei,R.eb,R.er,R.bT,by simp[S.fa,ab1,R.size],λt G U=> ?_,λQ e rv b X O J=> ?_⟩
 rw[M,Na] at Z;cases V:bA s.boxes i with
 |none=>rw[V] at Z;cases Z
 |some x=>
  obtain⟨t0,I⟩:=x;rw[V] at Z;simp only[awO,TV,awJ,ayl] at Z;obtain⟨rfl,rfl⟩:=Z;have N:=R.mem.box i t0 I V;cases H:oa t0;simp only[aw0,if_false];rw[qo H] at N⊢;rw[Fi h];exact N;simp only[if_true];exact N
 exact⟨(R.mem.ref Q e rv X O).1,λb Z i hi=>(R.mem.ref Q e rv X O).2 b Z i (by rw[<-CB (k:=k) (n:=n)];exact hi)⟩;simp only[S.fa,ab0] at U;cases V:s.tmps[t]? with
 |none=>rw[V] at U;cases U
 |some x=>
  rw[V] at U;simp only[awO,awJ] at U;subst U;rcases R.tmps t x V with X|X;exact .inl ((amB x).2 X);right;rw[TU h];exact X
 have t:=R.cO Q e rv b X O J;exact⟨t.own,t.mem,λi hi=>t.box i (by rw[<-CB (k:=k) (n:=n)];exact hi),t.alone,t.inner⟩
end
end
section
section
variable{S0:List Nat}{w0:World}{D:bw}{P:Program}{cf:bc}{β:List Nat}{ρ:aa}{s:S}{a:Act}{W:World}
def ab2:∀(vs row:List RV)(off:Nat),(eR row off vs).length=row.length
 |[],row,off=>rfl
 |v::vs,row,off=>by rw[eR,ab2];simp
def Nb:∀(vs row:List RV)(off j:Nat),off+vs.length<=row.length->(eR row off vs)[j]?=if off<=j/\j<off+vs.length then vs[j-off]? else row[j]?
 |[],row,off,j,_=>by simp[eR];intro X Z;omega
 |v::vs,row,off,j,h=>by
  simp only[axm] at h;rw[eR,Nb vs _ (off+1) j (by simp;omega)];by_cases X:j=off;subst X;rw[if_neg (by omega),if_pos (by simp),ayc (by omega)];simp;by_cases Z:off+1<=j/\j<off+1+vs.length;rw[if_pos Z,if_pos (by simp;omega),show j-off=(j-(off+1))+1 by omega];simp;rw[if_neg Z,if_neg (by simp;omega),axs (by omega)]
def ab3:∀(vs l:List Value)(off j:Nat),off+vs.length<=l.length->(t6 l off vs)[j]?=if off<=j/\j<off+vs.length then vs[j-off]? else l[j]?
 |[],l,off,j,_=>by simp[t6];intro X Z;omega
 |v::vs,l,off,j,h=>by
  simp only[axm] at h;rw[t6,ab3 vs _ (off+1) j (by simp;omega)];by_cases X:j=off;subst X;rw[if_neg (by omega),if_pos (by simp),ayc (by omega)];simp;by_cases Z:off+1<=j/\j<off+1+vs.length;rw[if_pos Z,if_pos (by simp;omega),show j-off=(j-(off+1))+1 by omega];simp;rw[if_neg Z,if_neg (by simp;omega),axs (by omega)]
def Fj{rows:List (List RV)}{f:List RV->List RV}{i Z:Nat}{row:List RV}(h:(rows.modify i f)[Z]?=some row):(Z=i/\∃X,rows[i]?=some X/\row=f X)\/(Z≠i/\rows[Z]?=some row):=by
 rw[az1] at h;by_cases hi:i=Z;subst hi;simp only[if_true] at h;cases V:rows[i]? with
 |none=>rw[V] at h;cases h
 |some X=>rw[V] at h;simp at h;exact .inl ⟨rfl,X,rfl,h.symm⟩
 simp only[hi,if_false] at h;exact .inr ⟨λU=>hi U.symm,by simpa using h⟩
def amC{w:Nat}{rows:List (List RV)}{l:List Value}(Z:∀(i:Nat)(row:List RV),rows[i]?=some row->row.length=w)(V:l.length=rows.length*w)(h:∀(i j:Nat)(row:List RV)(c:RV),rows[i]?=some row->row[j]?=some c->l[i*w+j]?=some c.val):l=cH rows:=by
 apply axd;intro q;by_cases U:q<(cH rows).length;have X:=awH U;obtain⟨i,j,row,c,R,Q,O,N⟩:=Fc Z X;rw[X,N];subst O;exact h i j row c R Q;rw[aw4 (l:=cH rows) (by omega),aw4];rw[V,<-vV Z];omega
def amD(R:ao S0 w0 D cf.ty β ρ s a W)(b8:fA P cf.ty)(hg:dA cf.gl ρ){o:Oper}{t:TypeId}{x y:Operand}(ho:o.op=.store t x y){aY dr:Bool}{b:BI}(h:cK cf o aY dr s=some b)(hn:b.az.den ρ=true):
  Fh P S0 w0 D cf.ty β ρ s a W o b:=by
 unfold cK at h;simp only[ho] at h;split at h;cases h;split at h;rename_i X k w i off ca hx;split at h;rename_i e p;split at h;rename_i E cc;split at h;rename_i hc;simp only[awF,beq_iff_eq,decide_eq_true_eq] at hc;obtain⟨⟨⟨⟨ch,a0⟩,cl⟩,G⟩,cp⟩:=hc;cases hb:gF s none (qf i (.len (.v k))) e (.own e) (.set (.ref (.v k)) i off (s.ev cf.gl y).cells) [k] (SV.lz (s.ev cf.gl y).cells) with
 |none=>rw[hb] at h;cases h
 |some b0=>
  rw[hb] at h;simp only[awO,awJ] at h;obtain⟨aO,cv,rfl⟩:=ua hb;subst h;have bd:aW cf.ty (.sl e)=E.ab:=by simp[aW,cc]
  have M:(aW cf.ty (.sl e)).length=w:=by rw[bd];exact ch
  obtain⟨A,n,cap,g1,g2,g3⟩:=M6 R p;have a3:=qu R p;simp only[qf] at hn;obtain⟨a1,m⟩:=vX hn;have a1:=ub a1;rw[xR] at m;simp only[ew,IE.den,RE.rv] at a1 m;have m:=of_decide_eq_true m;rw[g1] at m;simp only[RV.jZ,lenOf] at m;obtain⟨I,hI⟩:=Jl a1;have dn:I<n:=by omega
  obtain⟨bf,br⟩:=qr g2;have ag:=dB.t7 g2;obtain⟨L,an,hA,bs,cx,a2⟩:∃b an,A=some ⟨b,0,none⟩/\W.heap[b]?=some (.cells an e (0,0))/\cap<=maxLen/\an.size=cap*(aW cf.ty (.sl e)).length:=by
   rcases g3.mem with h0|h0;omega;exact h0
  subst hA;have cy:jp (some ⟨L,0,none⟩) cap=some L:=by cases cap with
   |zero=>omega
   |succ c=>rfl
  have cI:s.ev cf.gl y≠ .any:=by
   intro hy;rw[hy] at G a0;simp only[SV.cells,azf] at a0;rw[<-a0] at G;cases hd:(E.ab.drop off).take 1 with
   |nil=>rw[hd] at G;simp[ji,SV.cells] at G
   |cons c cs=>rw[hd] at G;simp[ji,SV.cells,oh] at G
  have c0:=bM R hg y (by cases hh:s.ev cf.gl y<;>first|rfl|exact absurd hh cI);have c1:=bM R hg x (by rw[hx];rfl);have c2:=MU (ρ:=ρ) (β:=β) (qp R) cp;obtain⟨f1,f2⟩:=Cz G;have bg:(s.ev cf.gl y).cells.length=X.ab.length:=a0;have ds:((E.ab.drop off).take X.ab.length).length=X.ab.length:=by simp;omega
  have bt:∀(j:Nat),j<X.ab.length->((E.ab.drop off).take X.ab.length)[j]?=(aW cf.ty (.sl e))[off+j]?:=by
   intro j O;rw[axc,if_pos O,axl,bd]
  have bx:SV.ap ρ β (s.ev cf.gl y).cells=((s.ev cf.gl y).cells.map (SV.bp ρ)).map RV.val:=by
   apply axd;intro j;rw[ou,awL,awL];cases hv:(s.ev cf.gl y).cells[j]? with
   |none=>rfl
   |some v=>
    have O:j<X.ab.length:=by rw[<-bg];exact(awG.1 hv).1
    obtain⟨C,c3⟩:∃C,((E.ab.drop off).take X.ab.length)[j]?=some C:=⟨_,awH (by omega)⟩;simp only[awO];rw[abV (f2 j C v c3 hv)]
  have l:=TK R G;have b1:(LE.set (.ref (.v k)) i off (s.ev cf.gl y).cells).rows ρ=(ρ.rv k).rows.modify I λrow=>eR row off ((s.ev cf.gl y).cells.map (SV.bp ρ)):=by simp[LE.rows,RE.rv,hI]
  have a4:((s.ev cf.gl y).cells.map (SV.bp ρ)).length=X.ab.length:=by simp[bg]
  generalize c4:(s.ev cf.gl y).cells.map (SV.bp ρ)=N at*;have a5:∀Z:List RV,Z.length=(aW cf.ty (.sl e)).length->off+N.length<=Z.length:=λZ h0=>by rw[h0,M,a4];exact cl
  have a6:dB W cf.ty e ((ρ.rv k).rows.modify I λrow=>eR row off N):=by
   refine dB.of (λV row hr=> ?_);rcases Fj hr with⟨rfl,Z,Q,rfl⟩|⟨a7,Q⟩
   ·have q:=ag.get Q;have c5:=a5 Z q.len;refine⟨by rw[ab2];exact q.len,λj c F J H=> ?_,λj c J H=> ?_,λj c z F J H=> ?_⟩
    all_goals
     rw[Nb _ _ _ _ c5] at J;split at J;rename_i O;have a8:j-off<X.ab.length:=by omega
     have g:=bt _ a8;rw[show off+(j-off)=j by omega,H] at g
     first
      |exact l.int (j-off) c _ J g
      |exact l.bool (j-off) c J g
      |exact l.ar (j-off) c _ _ J g
     first
      |exact q.int j c _ J H
      |exact q.bool j c J H
      |exact q.ar j c _ _ J H
   exact ag.get Q
  have c6:xX cf.ty β ρ s e ((ρ.rv k).rows.modify I λrow=>eR row off N) (SV.lz (s.ev cf.gl y).cells):=by
   intro b ⟨V,j,row,c,z,F,h1,U,h3,hl⟩;have elder:∀Z,(ρ.rv k).rows[V]?=some Z->Z[j]?=some c->ρ.mg cf.ty s.rs b/\(∀i,aA s.boxes i=true->ad β i≠b)/\∀(f:Nat)(t:TypeId)(rv:RV),s.rs[f]?=some (.own t)->ρ.r[f]?=some rv->rv.iC=some b->f∈SV.lz (s.ev cf.gl y).cells:=by
    intro Z d B;have hi:j5 cf.ty e (ρ.rv k).rows b:=⟨V,j,Z,c,z,F,d,B,h3,hl⟩;have b2:=Fe (ρ:=ρ) (e0:=.own e) rfl hi;exact⟨⟨k,_,p,b2⟩,(R.mem.ref k _ _ p a3).2 b b2,λf t rv q3 q4 q5=>(Jf R q3 q4 q5 p rfl hi).elim⟩
   rcases Fj h1 with⟨rfl,Z,Q,rfl⟩|⟨a7,Q⟩;rw[Nb _ _ _ _ (a5 Z (ag.len _ _ Q))] at U;split at U;rename_i O;have a8:j-off<X.ab.length:=by omega
   have g:((E.ab.drop off).take X.ab.length)[j-off]?=some (.ar z F):=(bt _ a8).trans (by rw[show off+(j-off)=j by omega];exact h3);rw[<-c4] at U;obtain⟨r,d,B,q3,q4⟩:=TL G U g hl;obtain⟨p1,p2⟩:=Ff R q3 B q4;refine⟨p1,p2,λf t rv k1 k2 k3=> ?_⟩;have:=M3 R k1 k2 k3 q3 B q4;subst this;exact M9 (aw1 d) rfl;exact elder Z Q U;exact elder row Q U
  have a9:(SV.ap ρ β (s.ev cf.gl y).cells).length=X.ab.length:=by simp[bg]
  have c7:I*w+off+X.ab.length<=cap*w:=by
   have:(I+1)*w<=cap*w:=axU _ (by omega);rw[axI] at this;omega
  obtain⟨W',r1,r2,r3,r4,r5,r6,r7⟩:=TE (P:=P) L (I*w+off) e (SV.ap ρ β (s.ev cf.gl y).cells) 0 an W bs (by rw[a9,a2,M];omega) (λu hu=>by
   rw[bx] at hu;obtain⟨c,c8,rfl⟩:=aw7.1 hu;obtain⟨j,O⟩:=axv c8;have dx:j<X.ab.length:=by rw[<-a4];exact(awG.1 O).1
   obtain⟨C,H⟩:∃C,((E.ab.drop off).take X.ab.length)[j]?=some C:=⟨_,awH (by omega)⟩;cases C with
   |int F=>obtain⟨n',bb⟩:=l.int j c F O H;rw[bb];rfl
   |bool=>obtain⟨n',bb⟩:=l.bool j c O H;rw[bb];rfl
   |ar z F=>exact E0 (l.ar j c z F O H))
  have af:((ρ.rv k).rows.modify I λrow=>eR row off N).length=n:=by simp[bf]
  have b3:=TN g2 bs;rw[bf,M] at b3;obtain⟨R',c9⟩:=R.bind aO (old:=some L) (kill:=[k]) (frz:=SV.lz (s.ev cf.gl y).cells) (A:=some ⟨L,0,none⟩) (cap:=cap) (W':=W') (.inr ⟨k,e,_,rfl,p,a3,by rw[g1,Jh,cy]⟩) cv
   ⟨r5,r6,r7,by omega,λq _ hq=>r3 q (λh=>hq (by rw[h]))⟩ a6 c6
   ⟨by rw[af];exact br,by simp,.inr ⟨L,_,rfl,r2,cx,by rw[M,axQ,TC,axP,a2,M],by
    rw[af,M];refine amC (w:=w) (λV row hr=>by rw[a6.len V row hr,M]) ?_ (λV j row c h1 U=> ?_);rw[af,axJ,ayn,TC,axP,a2,M];exact azm (axU _ br);have dy:V<n:=by rw[<-af];exact(awG.1 h1).1
    have dz:j<w:=by rw[<-M,<-a6.len V row h1];exact(awG.1 U).1
    have b4:V*w+j<n*w:=by
     have:(V+1)*w<=n*w:=axU _ (by omega);rw[axI] at this;omega
    rw[axc,if_pos b4,ayn,ax1,ab3 _ _ _ _ (by rw[a9,axP,a2,M];exact c7),a9];have b5:∀Z:List RV,(ρ.rv k).rows[V]?=some Z->Z[j]?=some c->an.toList[V*w+j]?=some c.val:=by
     intro Z d B;have:=Jb (w:=w) (λi row hr=>by rw[ag.len i row hr,M]) d B;rw[<-b3,axc,if_pos b4] at this;exact this
    rcases Fj h1 with⟨rfl,Z,Q,rfl⟩|⟨a7,Q⟩;rw[Nb _ _ _ _ (a5 Z (ag.len _ _ Q)),a4] at U;by_cases O:off<=j/\j<off+X.ab.length;rw[if_pos O] at U;rw[if_pos (by omega),bx,show V*w+j-(V*w+off)=j-off by omega,awL,U];rfl;rw[if_neg O] at U;rw[if_neg (by omega)];exact b5 Z Q U;have dc:¬(I*w+off<=V*w+j/\V*w+j<I*w+off+X.ab.length):=by
     rintro⟨d,B⟩;rcases aAc a7 with dT|d0;have:(V+1)*w<=I*w:=axU _ (by omega);rw[axI] at this;omega;have:(I+1)*w<=V*w:=axU _ (by omega);rw[axI] at this;omega
    rw[if_neg dc];exact b5 row Q U,.inr rfl⟩⟩
  have dd:k<ρ.r.length:=(awG.1 a3).1;have R2:=R'.fa (k:=k) (n:=s.rs.length) (by
   rw[<-R.er];have e1:(ρ.add (.r (.mk (.slice (some ⟨L,0,none⟩) ((ρ.rv k).rows.modify I λrow=>eR row off N).length cap) ((ρ.rv k).rows.modify I λrow=>eR row off N)))).rv ρ.r.length=.mk (.slice (some ⟨L,0,none⟩) ((ρ.rv k).rows.modify I λrow=>eR row off N).length cap) ((ρ.rv k).rows.modify I λrow=>eR row off N):=by simp[aa.rv,aa.add]
   have e2:(ρ.add (.r (.mk (.slice (some ⟨L,0,none⟩) ((ρ.rv k).rows.modify I λrow=>eR row off N).length cap) ((ρ.rv k).rows.modify I λrow=>eR row off N)))).rv k=ρ.rv k:=by simp[aa.rv,aa.add,awI,dd]
   rw[e1,e2,RV.jZ,af];have:=congrArg RV.val g1;exact this.symm)
  refine⟨undef,W',_,.inr ⟨?_,rfl⟩,⟨⟨_,_,_,by rw[b1],by rw[b1]⟩,c9,λf _ _ _ hx=>by
   cases hx;rw[RV.jZ,af];exact(congrArg RV.val g1).symm⟩,R2.put o.dst (.bj []), ?_⟩
  have df:(ρ.rv k).val=.slice (some ⟨L,0,none⟩) n cap:=by rw[g1];rfl
  have b6:((s.ev cf.gl y).den ρ β).cells.toList=SV.ap ρ β (s.ev cf.gl y).cells:=c2;have dk:((s.ev cf.gl y).den ρ β).cells.size=X.ab.length:=by rw[<-axP,b6];simp[bg]
  simp only[execOp,ho,c1,c0,hx,SV.den,RE.den,RE.rv,df,kz,hI,axy,axf,Instr.storeAt,Instr.sureAddr,storeVar,Sem.run_bind,Sem.run_pure,Result.andThen_ok,(b8 _ _ ca).j7,dk,b6,ne_eq,not_true_eq_false,if_false,r1];have b7:bi s ρ β ({s with rs:=iQ (SV.lz (s.ev cf.gl y).cells) 0 (gj [k] 0 s.rs)++[.own e]}:S) _ β:=z7 (rv:=.mk (.slice (some ⟨L,0,none⟩) ((ρ.rv k).rows.modify I λrow=>eR row off N).length cap) ((ρ.rv k).rows.modify I λrow=>eR row off N)) _ none (.bj []);refine bi.put (s:=s) (s':=(({s with rs:=iQ (SV.lz (s.ev cf.gl y).cells) 0 (gj [k] 0 s.rs)++[.own e]}:S).put none (.ref (.v s.rs.length))).fa k s.rs.length) ⟨b7.ext,λq hq=> ?_,by simp[S.put,nh,S.fa,Jm],b7.al⟩ _ _;simp only[S.put,nh,S.fa,CB];exact hq
 cases h;cases h;cases h;cases h
def TW(R:ao S0 w0 D cf.ty β ρ s a W)(X:fA P cf.ty)(V:dA cf.gl ρ){o:Oper}{aY O:Bool}{b:BI}(h:cK cf o aY O s=some b)(U:b.az.den ρ=true):Fh P S0 w0 D cf.ty β ρ s a W o b:=by
 cases Z:o.op with
 |call c=>
  cases Q:c.callee with
  |builtin N=>cases N with
   |append=>exact amu R X V Z Q h U
   |_=>simp[cK,Z,Q] at h
  |_=>simp[cK,Z,Q] at h
 |makeSlice t n m=>exact amw R X V Z h U
 |buildSlice t M parts=>exact amx R X V Z h
 |slice t x lo hi L=>exact amA R X V Z h U
 |store t x y=>exact amD R X V Z h U
 |_=>simp[cK,Z] at h
end
end
section
section
variable{S0:List Nat}{w0:World}{D:bw}{P:Program}{cf:bc}{β:List Nat}{ρ:aa}{s:S}{a:Act}{W:World}
def ab4{α:Type}(l:List α)(x y:α):(l++[x]).set l.length y=l++[y]:=by
 induction l with
 |nil=>rfl
 |cons z X Z=>simp[Z]
def ao.tP(R:ao S0 w0 D cf.ty β ρ s a W)(Z:s.bd=true){t:TypeId}{cs:List SV}(O:SV.ck s.ni s.nb s.rs.length (aA s.boxes) cs=true):
  ao S0 w0 D cf.ty (β++[W.heap.size]) ρ (s.tP (t,cs)) a (W.alloc (jN t (SV.b9 ρ β cs)))/\bi s ρ β (s.tP (t,cs)) ρ (β++[W.heap.size]):=by
 obtain⟨N,B⟩:=R.room 1;have A:(s.room 1).boxes.length=s.boxes.length+1:=by simp[S.room]
 have M:dL (s.room 1).boxes s.boxes.length=true:=by simp[dL,S.room]
 have aO:(s.room 1).cU cs=true:=by
  simp only[S.cU,S.bd,awF] at Z⊢;have X:aA (s.room 1).boxes=aA s.boxes:=by
   funext i;simp only[aA,bP,S.room,ayK];by_cases hi:i<s.boxes.length;rw[awI hi];rw[awM (by omega),aw4 (l:=s.boxes) (by omega)];cases L:i-s.boxes.length with
   |zero=>rfl
   |succ n=>rfl
  have J:∀pr,SV.mM s.ni s.nb s.rs.length pr (s.boxes++[none])=SV.mM s.ni s.nb s.rs.length pr s.boxes:=by
   intro pr;generalize s.boxes=l;induction l with
   |nil=>rfl
   |cons x xs I=>cases x<;>simp[SV.mM,I]
  refine⟨⟨?_, ?_⟩,by rw[X];exact O⟩;rw[X];exact Z.1;rw[X];simp only[S.room,ayK];rw[J];exact Z.2
 have U:=N.alloc M t cs aO;have H:(β++awS 1 0).set s.boxes.length W.heap.size=β++[W.heap.size]:=by
  rw[<-R.dX,ayK];exact ab4 _ _ _
 have G:SV.b9 ρ (β++awS 1 0) cs=SV.b9 ρ β cs:=by
  apply abi;funext k;simp only[ad,awK,ayK];by_cases h:k<β.length;rw[awI h];rw[awM (by omega),aw4 (l:=β) (by omega)];cases L:k-β.length with
  |zero=>rfl
  |succ n=>rfl
 rw[H,G] at U;have F:({((s.room 1).bI s.boxes.length t cs) with lk:=s.lk}:S)=s.tP (t,cs):=by
  simp only[S.bI,S.room,S.tP,ayK,ab4]
 have Q:=U.lk s.lk;rw[F] at Q;refine⟨Q,⟨⟨fj.refl _ _ _ _,awN _,awN _,awN _,λk E=> ?_⟩,λi hi=> ?_,by simp[S.tP],awN _⟩⟩;have:k<β.length:=by
  obtain⟨b,V⟩:=awZ.1 E;rw[R.dX];exact(awG.1 (gw.1 V)).1
 simp[ad,awI this];obtain⟨b,V⟩:=awZ.1 hi;have C:=(awG.1 (gw.1 V)).1;simp only[aA,bP,S.tP,awI C] at hi⊢;exact hi
def ao.ab5(R:ao S0 w0 D cf.ty β ρ s a W){i:Nat}{X:TypeId}{cs cs':List SV}(V:bA s.boxes i=some (X,cs)):
  ao S0 w0 D cf.ty β ρ (s.bI i X cs') a (W.putObj (ad β i) (jN X (SV.b9 ρ β cs'))):=by
 have I:=R.mem.box i X cs V;have F:ad β i<W.heap.size:=vS I;have hi:i<s.boxes.length:=(awG.1 (gw.1 V)).1;have Q:aA s.boxes i=true:=by simp[aA,V]
 have O:∀j,aA (s.boxes.set i (some (X,cs'))) j=true->aA s.boxes j=true:=λj Z=>by
  rcases(lI hi).1 Z with rfl|h;exact Q;exact h
 have N:∀b,b≠ad β i->(W.putObj (ad β i) (jN X (SV.b9 ρ β cs'))).heap[b]?=W.heap[b]?:=λb h=>World.putObj_heap_other h
 refine⟨⟨⟨R.mem.base.os,R.mem.base.tape,R.mem.base.output,by simpa[World.putObj] using R.mem.base.size,λk M H=> ?_⟩,λj Z=>R.mem.own j (O j Z),λj k Z M=>R.mem.inj j k (O j Z) (O k M),λj U E Z=> ?_,λk e rv C B=> ?_⟩,by simpa[S.bI] using R.dX,R.ei,R.eb,R.er,R.bT.amk (λb o L A=> ?_),R.size,R.tmps,λk e rv b z y x=> ?_⟩;have w:k≠ad β i:=by
  rintro rfl;rcases R.mem.own i Q with h|h;omega;exact H h
 rw[N k w];exact R.mem.base.block k M H;by_cases J:j=i;subst J;rw[S.bI,Cw hi] at Z;simp only[awJ,ayl] at Z;obtain⟨rfl,rfl⟩:=Z;exact World.putObj_heap_same F;rw[S.bI,tZ J] at Z;rw[N _ (λh=>J (R.mem.inj j i (by simp[aA,Z]) Q h))];exact R.mem.box j U E Z;obtain⟨v,G⟩:=R.mem.ref k e rv C B;exact⟨v.E8 (λb V=>N b (λh=>G b V i Q h.symm)) (by simp[World.putObj]),λb V j Z=>G b V j (O j Z)⟩;rw[N b (λe=>by subst e;rw[I] at L;cases L;exact abK A _ _ rfl)];exact L;have t:=R.cO k e rv b z y x;have U:=t.world (W':=W.putObj (ad β i) (jN X (SV.b9 ρ β cs'))) (N b (λh=>t.box i Q h.symm));exact⟨U.own,U.mem,λj Z=>U.box j (O j Z),U.alone,U.inner⟩
def ao.TX(R:ao S0 w0 D cf.ty β ρ s a W){i:Nat}{Z:TypeId}{cs cs':List SV}(X:bA s.boxes i=some (Z,cs))(_:∀V U Q,jN Z (SV.b9 ρ β cs)≠ .cells V U Q):
  ao S0 w0 D cf.ty β ρ (s.bI i Z cs') a (W.putObj (ad β i) (jN Z (SV.b9 ρ β cs'))):=R.ab5 X
def uc(L:List Int)(kv:Value×Value):List (Value×Value)->List (Value×Value)
 |[]=>[kv]
 |p::r=>if rZ p.1=L then kv::r else p::uc L kv r
def ab6:∀{l:List (Value×Value)}{m:Nat}{p:Value×Value},dS m (l++[p])=dS m l++[⟨p.1,p.2,m+l.length⟩]
 |[],m,p=>by simp[dS]
 |x::r,m,p=>by
  simp only[awV,dS,ab6 (l:=r) (m:=m+1) (p:=p)];simp;omega
def ab7{L:List Int}{kv:Value×Value}:∀{l:List (Value×Value)}{m i:Nat},
  (kA L (dS m l) i=none/\uc L kv l=l++[kv])\/∃j v p,kA L (dS m l) i=some (i+j,v)/\(dS m l)[j]?=some ⟨p.1,p.2,m+j⟩/\p∈l/\rZ p.1=L/\(uc L kv l).length=l.length/\dS m (uc L kv l)=(dS m l).modify j λe=>{e with key:=kv.1,val:=kv.2}
 |[],m,i=>.inl ⟨rfl,rfl⟩
 |p::r,m,i=>by
  simp only[dS,kA,uc];by_cases h:rZ p.1=L;right;rw[if_pos h,if_pos h];exact⟨0,p.2,p,rfl,rfl,by simp,h,by simp,by simp[dS]⟩;rw[if_neg h,if_neg h];rcases ab7 (l:=r) (m:=m+1) (i:=i+1) with⟨Z,X⟩|⟨j,v,V,Z,X,U,R,Q,O⟩;exact .inl ⟨Z,by rw[X];rfl⟩;refine .inr ⟨j+1,v,V,by rw[Z];congr 2;omega,by simp only[axh,X];congr 2;omega,by simp[U],R,by simp[Q], ?_⟩;simp only[dS,O,List.modify_succ_cons]
def amE(ag:Bool)(l:List Int):Instr.sameBits 10000 (ee ag l) (ee ag l)=true:=by
 cases ag;simp[ee,Instr.sameBits];show Instr.sameBits (9999+1) (.agg _) (.agg _)=true;simp only[Instr.sameBits,beq_self_eq_true,ayu,awU];intro p U;have:p.1=p.2/\∃x,p.1=.int .i64 x:=by
  have R:∀(m:List Value)(q:Value×Value),q∈m.zip m->q.1=q.2/\q.1∈m:=by
   intro m;induction m with
   |nil=>intro q Z;cases Z
   |cons y ys V=>
    intro q Z;simp only[ayH,awP] at Z;rcases Z with rfl|Z;exact⟨rfl,by simp⟩;exact⟨(V q Z).1,by simp[(V q Z).2]⟩
  obtain⟨e1,X⟩:=R _ p U;simp only[aw7] at X;obtain⟨x,-,Q⟩:=X;exact⟨e1,x,Q.symm⟩
 obtain⟨e1,x,X⟩:=this;rw[<-e1,X];simp[Instr.sameBits]
def ab8{t k e:TypeId}{n:Nat}{ag:Bool}(H:P.underlying t=some (.map k e))(Q:pj P k n ag){b:Nat}{l:List (Value×Value)}(O:W.heap[b]?=some (mf l)){L:List Int}(G:L.length=n)
  (N:∀p∈l,∃Z:List Int,Z.length=n/\p.1=ee ag Z)(v:Value):
  (Instr.mapUpdate t (.map (some b)) (ee ag L) v).run P W=.ok () (W.putObj b (mf (uc L (ee ag L,v) l))):=by
 have F:∀x∈dS 0 l,∃Z:List Int,Z.length=n/\x.key=ee ag Z:=λx E=>by
  obtain⟨p,X,V⟩:=Tw E;obtain⟨Z,R,U⟩:=N p X;exact⟨Z,R,V.trans U⟩
 obtain⟨C,B⟩:=Q.2 L (dS 0 l) W G F;have A:=MapKept.run_getObj_map (P:=P) (w:=W) O;have M:=λo=>MapKept.run_setObj_map (P:=P) (w:=W) o O
 simp only[Instr.mapUpdate,Sem.run_bind,cS.eF H,Result.andThen_ok,A,C,B];rcases ab7 (L:=L) (kv:=(ee ag L,v)) (l:=l) (m:=0) (i:=0) with⟨X,V⟩|⟨j,u,p,X,V,R,U,z,y⟩;rw[X,V];simp only[M,World.putObj,mf,ab6];simp;rw[X];obtain⟨Z,r,J⟩:=N p R;have q:Z=L:=by
  rw[J,Tu (λe=>r.trans (Q.1 e))] at U;exact U
 subst q;have I:(((dS 0 l).toArray[0+j]?).map (·.key)).getD (ee ag Z)=ee ag Z:=by
  simp[V,J]
 simp only[axf] at I⊢;simp only[I,Instr.keyThatStays,amE,if_true,Sem.run_pure,Result.andThen_ok,Sem.run_bind,M,World.putObj,mf,y,z];simp
end
end
section
def pl(ρ:aa)(Z:Fx):Prop:=∀x∈Z,x.1.den ρ=x.2
def Nc{ρ:aa}{V:Fx}(h:pl ρ V){b:BE}{v:Bool}(Z:IF V b=some v):b.den ρ=v:=by
 unfold IF at Z;split at Z;cases Z;simp[BE.den];cases X:V.find? (λx=>x.1.same b) with
 |none=>rw[X] at Z;cases Z
 |some x=>
  rw[X] at Z;cases Z;have U:=ayY X;rw[<-BE.bl _ _ U];exact h x (ayg X)
def ab9{ρ:aa}{X:Fx}(h:pl ρ X){b:BE}{v:Bool}(V:b.den ρ=v):pl ρ ((b,v)::X):=by
 intro x Z;rcases awP.1 Z with rfl|Z;exact V;exact h x Z
def CC{S0:List Nat}{w0:World}{D:bw}{ty:Ty}{s:S}{a:Act}{W:World}{ρ ρ':aa}{β:List Nat}{Z:Fx}(R:ao S0 w0 D ty β ρ s a W)(V:fj ρ ρ' ρ.i.length ρ.b.length ρ.r.length)(h:pl ρ Z):pl ρ' (lB s Z):=by
 intro x U;obtain⟨Q,X⟩:=axr.1 U;rw[<-R.ei,<-R.eb,<-R.er] at X;rw[BE.cu V _ X];exact h x Q
section
variable{cf:bc}
def ao.drew{S0:List Nat}{w0:World}{D:bw}{β:List Nat}{ρ:aa}{s:S}{a:Act}{W:World}(R:ao S0 w0 D cf.ty β ρ s a W):ao S0 w0 D cf.ty β ρ s a {W with drawn:=W.drawn+1}:=
 ⟨⟨R.mem.base.drew,R.mem.own,R.mem.inj,R.mem.box,λk e rv Z X=>⟨(R.mem.ref k e rv Z X).1.E8 (λ_ _=>rfl) (awN _),(R.mem.ref k e rv Z X).2⟩⟩,R.dX,R.ei,R.eb,R.er,R.bT.world (λ_ _ h _=>h),R.size,R.tmps,λk e rv b Z X V=>(R.cO k e rv b Z X V).world rfl⟩
end
section
variable{S0:List Nat}{w0:World}{D:bw}{P:Program}{cf:bc}{β:List Nat}{ρ:aa}{s:S}{a:Act}{W:World}
def ao.aca(R:ao S0 w0 D cf.ty β ρ s a W)(V:s.bd=true)(j:Int):ao S0 w0 D cf.ty β (ρ.add (.i j)) {s with ni:=s.ni+1} a W:=by
 obtain⟨U,Q⟩:=R.tY V;have X:=oB s.boxes ρ (.i j) β;refine⟨⟨R.mem.base,R.mem.own,R.mem.inj,λi t cs h=> ?_,R.mem.ref⟩,R.dX,by simp[aa.add,R.ei],R.eb,R.er,R.bT,R.size,λt O h=> ?_,λk e rv b Z N M=> ?_⟩;rw[X.b9 (oz Q h)];exact R.mem.box i t cs h;rcases R.tmps t O h with Z|Z;exact .inl Z;right;rw[X.den (qn U h)];exact Z;have t:=R.cO k e rv b Z N M;exact⟨t.own,t.mem,t.box,t.alone,t.inner⟩
def ao.acb(R:ao S0 w0 D cf.ty β ρ s a W)(V:s.bd=true){X:Sh}{rv:RV}(U:aT W cf.ty (.mr X) rv):ao S0 w0 D cf.ty β (ρ.add (.r rv)) {s with rs:=s.rs++[.mr X]} a W:=
 R.add V U (λb Z=>by cases Z) (λk e N b _ _ _ Z=>by
  rcases Z with Z|⟨⟨t,Q⟩,_⟩;cases Z;cases Q) (λe b O=>by cases O)
def acd{X:Sh}{rows:List (List RV)}(h:∀row∈rows,Cu cf.ty X row)(U:∀c∈aW cf.ty (.mr X),jH c=true):aT W cf.ty (.mr X) (.mk (.slice none rows.length rows.length) rows):=by
 refine aT.mr X rows (λi row hi=>(h row (aw1 hi)).len) (λi j row c k hi V Z=>(h row (aw1 hi)).int j c k V Z) (λi j row c hi V Z=>(h row (aw1 hi)).bool j c V Z) (λi j row c z k hi V Z=> ?_);have:=U _ (aw1 Z);simp[jH] at this
def TY{n:Nat}{row x:List RV}:∀{rows:List (List RV)},x∈eD n row rows->x=row\/x∈rows
 |[],h=>by simp[eD] at h;exact .inl h
 |r::rs,h=>by
  simp only[eD] at h;split at h;rcases awP.1 h with h|h;exact .inl h;exact .inr (by simp[h]);rcases awP.1 h with h|h;exact .inr (by simp[h]);rcases TY h with h|h;exact .inl h;exact .inr (by simp[h])
def ace{n:Nat}{row:List RV}:∀{rows:List (List RV)},(∀r∈rows,iR n ((row.take n).map λc=>ba c.val) r=false)->eD n row rows=rows++[row]
 |[],_=>rfl
 |r::rs,h=>by
  simp only[eD];rw[if_neg (by rw[h r (by simp)];simp),ace (rows:=rs) (λx Z=>h x (axS _ Z))];rfl
def acf{n:Nat}{ag va:Bool}(Z:ag=false->n=1){row:List RV}(V:zX n row){L:List Int}(X:(row.take n).map (λc=>ba c.val)=L):∀{rows:List (List RV)},(∀r∈rows,zX n r)->
  uc L (qm n ag va row) (rows.map (qm n ag va))=(eD n row rows).map (qm n ag va)
 |[],_=>rfl
 |r::rs,h=>by
  obtain⟨l,R,Q,O⟩:=Ja (ag:=ag) Z (h r (by simp));have G:L.length=n:=by
   obtain⟨F,N,M⟩:=V;rw[<-X,M];simpa using N
  have J:iR n L r=decide (l=L):=by
   simp only[iR,O];rw[axX (by omega)]
  simp only[awT,uc,eD,X,J];have I:rZ (qm n ag va r).1=l:=by
   simp only[qm,Q];exact Tu (λe=>R.trans (Z e))
  rw[I];by_cases U:l=L;simp[U];simp only[U,if_false,decide_false,aw0,awT];rw[acf Z V X λx H=>h x (by simp[H])]
def amF(t:TypeId):(Instr.makeMap t none).run P W=.ok (.map (some W.heap.size)) (W.alloc (.map #[] 0)):=by
 simp[Instr.makeMap,World.alloc_eq]
def amG(R:ao S0 w0 D cf.ty β ρ s a W){m:OM}{t:TypeId}(Q:m.o.op=.makeMap t none){s':S}(h:Mm cf m.o.dst s t=some s'):
  ∃v W' X,oC P m.o a W v W'/\ao S0 w0 D cf.ty X ρ s' (a.put m.o.dst v) W'/\bi s ρ β s' ρ X:=by
 unfold Mm at h;split at h;rename_i k e n ag ab q J;split at h;rename_i Z I;split at h;rename_i V;simp only[awF] at V;cases h;have O:SV.ck s.ni s.nb s.rs.length (aA s.boxes) (Cb Z n ag).2=true:=by
  unfold Cb;split<;>simp[SV.eY,SV.aG,RE.aG,IE.aG,BE.aG]
 obtain⟨U,N⟩:=R.tP V.1 (t:=(Cb Z n ag).1) O;have M:jN (Cb Z n ag).1 (SV.b9 ρ β (Cb Z n ag).2)=.map #[] 0:=by
  unfold Cb;split;rw[zY];simp[RE.rv,mf,dS];rw[zZ];simp[SV.ap,xO,mf,dS]
 rw[M] at U;refine⟨.map (some W.heap.size),W.alloc (.map #[] 0),β++[W.heap.size],.inl ?_, ?_,N.put _ _⟩;simp[execOp,Q,amF];have:=U.put m.o.dst (.mp s.boxes.length);have L:ad (β++[W.heap.size]) s.boxes.length=W.heap.size:=by simp[ad,<-R.dX]
 rw[SV.den,L] at this;exact this;cases h;cases h;cases h
def Nd{k e:TypeId}{n:Nat}{ag:Bool}{Z:TI}{cs:List SV}{r:RE}(h:Cc cf s k e n ag Z cs=some r):
  cs=[.ref r,.int .i64 (.c (n:Int)),.bool (.c ag),.bool (.c Z.d.isAgg)]/\r.mI cf.ty s ⟨k,e,n,ag,Z.d.isAgg⟩=true/\Z.ab.all jH=true:=by
 unfold Cc at h;split at h;split at h;rename_i X;simp only[awF,beq_iff_eq] at X;cases h;obtain⟨⟨⟨⟨V,rfl⟩,rfl⟩,rfl⟩,U⟩:=X;exact⟨rfl,V,U⟩;cases h;cases h
def acg{n:Nat}{ag:Bool}{kv:SV}{x y z:IE}(h:B3 n ag kv=some (x,y,z)):kv.cells.map (SV.bp ρ)=([x.den ρ,y.den ρ,z.den ρ].take n).map λu=>.mk (.int .i64 u) []:=by
 unfold B3 at h;split at h<;>first|(cases h;done)|(split at h<;>first|(cases h;done)|skip)
 all_goals
  rename_i Z;cases h;simp only[awF,beq_iff_eq] at Z;obtain⟨rfl,-⟩:=Z;simp[SV.cells,SV.bp]
def TZ:∀{ab:List CT}{l:List SV},ji cf.ty s ab l=true->ab.all jH=true->l.length=ab.length/\(∀(j:Nat)(k:IntKind),ab[j]?=some (.int k)->∃x,(l.map (SV.bp ρ))[j]?=some (.mk (.int k x) []))/\(∀(j:Nat),ab[j]?=some .bool->∃x,(l.map (SV.bp ρ))[j]?=some (.mk (.bool x) []))/\(l.map (SV.bp ρ)).map RV.val=SV.ap ρ β l
 |[],[],_,_=>⟨rfl,λj k h=>by simp at h,λj h=>by simp at h,rfl⟩
 |[],_::_,h,_=>by simp[ji] at h
 |_::_,[],h,_=>by simp[ji] at h
 |c::ab,v::l,h,V=>by
  simp only[ji,awF] at h;simp only[ayF,awF] at V;obtain⟨R,Q,O,N⟩:=TZ (ab:=ab) (l:=l) h.2 V.2;have X:=h.1;unfold oh at X;split at X;rename_i k M e;have:k=M:=of_decide_eq_true X;subst this;refine⟨by simp[R],λj U Z=> ?_,λj Z=> ?_,by simp[SV.ap,SV.bp,SV.den,N]⟩;cases j with
  |zero=>simp at Z;subst Z;exact⟨e.den ρ,rfl⟩
  |succ j=>simpa using Q j U (by simpa using Z)
  cases j with
  |zero=>simp at Z
  |succ j=>simpa using O j (by simpa using Z)
  rename_i b;refine⟨by simp[R],λj U Z=> ?_,λj Z=> ?_,by simp[SV.ap,SV.bp,SV.den,N]⟩;cases j with
  |zero=>simp at Z
  |succ j=>simpa using Q j U (by simpa using Z)
  cases j with
  |zero=>exact⟨b.den ρ,rfl⟩
  |succ j=>simpa using O j (by simpa using Z)
  simp[jH] at V;cases X
def amH{k e:TypeId}{n:Nat}{ag:Bool}{V:TI}(F:oe cf.ty k n ag=true)(E:cf.ty e=some V)(C:V.ab.all jH=true){kv v:SV}{x y z:IE}(Q:B3 n ag kv=some (x,y,z))(B:ji cf.ty s V.ab v.cells=true):
  Cu cf.ty ⟨k,e,n,ag,V.d.isAgg⟩ ((kv.cells++v.cells).map (SV.bp ρ)):=by
 obtain⟨A,O,N,M⟩:=E4 (va:=V.d.isAgg) F E;obtain⟨w,t,r,-⟩:=TZ (ρ:=ρ) (β:=[]) B C;have q:=(Tv (ρ:=ρ) (β:=[]) Q).2;have L:=acg (ρ:=ρ) Q;have J:(kv.cells.map (SV.bp ρ)).length=n:=by rw[L];simpa using q
 have I:∀(j:Nat),((kv.cells++v.cells).map (SV.bp ρ))[j]?=if j<n then(kv.cells.map (SV.bp ρ))[j]? else(v.cells.map (SV.bp ρ))[j-n]?:=by
  intro j;rw[ayq,az2,J]
 have H:∀(j:Nat),(aW cf.ty (.mr ⟨k,e,n,ag,V.d.isAgg⟩))[j]?=if j<n then A[j]? else V.ab[j-n]?:=by
  intro j;rw[O,az2,N]
 refine⟨?_,λj c p Z X=> ?_,λj c Z X=> ?_⟩;rw[O,axB,awQ,awQ,N,w];simp at J;omega;rw[I] at Z;rw[H] at X;split at Z;rename_i U;rw[if_pos U] at X;have:=M _ (aw1 X);cases this;rw[L,awL] at Z;cases G:([x.den ρ,y.den ρ,z.den ρ].take n)[j]? with
 |none=>rw[G] at Z;cases Z
 |some u=>rw[G] at Z;cases Z;exact⟨u,rfl⟩
 rename_i U;rw[if_neg U] at X;obtain⟨u,R⟩:=t _ p X;rw[R] at Z;cases Z;exact⟨u,rfl⟩;rw[I] at Z;rw[H] at X;split at Z;rename_i U;rw[if_pos U] at X;have:=M _ (aw1 X);cases this;rename_i U;rw[if_neg U] at X;obtain⟨u,R⟩:=r _ X;rw[R] at Z;cases Z;exact⟨u,rfl⟩
def amI{k e:TypeId}{n:Nat}{ag va:Bool}{Z:TI}(V:oe cf.ty k n ag=true)(U:cf.ty e=some Z)(R:Z.ab.all jH=true):∀c∈aW cf.ty (.mr ⟨k,e,n,ag,va⟩),jH c=true:=by
 obtain⟨N,Q,M,O⟩:=E4 (va:=va) V U;intro c X;rw[Q] at X;rcases awR.1 X with h|h;rw[O c h];rfl;exact awU.1 R c h
def amJ(W:World)(b:Nat)(o:Obj):ChangeMaps.setBlock W b o=W.putObj b o:=rfl
def MR.amK(S0:List Nat)(w0:World)(D:bw)(ty:Ty)(β:List Nat)(ρ:aa)(s:S)(a:Act)(W':World):MR->Prop
 |.ok s'=>ao S0 w0 D ty β ρ s' a W'/\bi s ρ β s' ρ β
 |.rows _ x s'=>ao S0 w0 D ty β (ρ.add (.r (fb x ρ))) s' a W'/\bi s ρ β s' (ρ.add (.r (fb x ρ))) β
def Nf(R:ao S0 w0 D cf.ty β ρ s a W)(A:fA P cf.ty){d:Option Nat}{t:TypeId}{mv kv v:SV}{r:MR}(h:Ml cf d s t mv kv v=some r):
  ∃W',(Instr.mapUpdate t (mv.den ρ β) (kv.den ρ β) (v.den ρ β)).run P W=.ok () W'/\r.amK S0 w0 D cf.ty β ρ s (a.put d undef) W':=by
 unfold Ml at h;split at h;rename_i k e n ag ab q i ht;have hd:P.underlying t=some (.map k e):=(A _ _ ht).desc;have O:pj P k n ag:=(A _ _ ht).key k e n ag rfl;split at h;rename_i Z z xb E bt cs U w N;have a8:=A _ _ U;split at h;cases h;rename_i a0;simp only[aw9,awY,not_or,ax8] at a0;obtain⟨⟨M,aO⟩,a9⟩:=a0;simp only[S.cU,awF] at aO;obtain⟨hb,aO⟩:=aO;obtain⟨a1,o⟩:=Tv (ρ:=ρ) (β:=β) w;have L:=R.mem.box i bt cs N;have bb:=MS (ρ:=ρ) (β:=β) (qp R) a9;split at h;rename_i cL;simp only[beq_iff_eq] at cL;subst cL;split at h;rename_i X bd;split at h;rename_i a2;cases h;obtain⟨rfl,c1,m⟩:=Nd bd;rw[zY] at L;have a3:=Cv R c1;have a4:∀row∈(X.rv ρ).rows,zX n row:=λrow Q=>E5 M U (a3 row Q)
 have g:=ab8 (P:=P) hd O L o (λp f=>by
  obtain⟨row,Q,rfl⟩:=aw7.1 f;obtain⟨l,q1,b,-⟩:=Ja O.1 (a4 row Q);exact⟨l,q1,b⟩) (v.den ρ β)
 have af:=amH (ρ:=ρ) (s:=s) M U m w a2;have a5:=acg (ρ:=ρ) w;have b6:(kv.cells.map (SV.bp ρ)).length=n:=by rw[a5];simpa using o
 have bf:((kv.cells++v.cells).map (SV.bp ρ)).take n=kv.cells.map (SV.bp ρ):=by
  rw[ayq,ayP (by omega),axX (by omega)]
 have bk:((kv.cells++v.cells).map (SV.bp ρ)).drop n=v.cells.map (SV.bp ρ):=by
  rw[ayq,azr (by omega),azQ (by omega)];rfl
 have hL:(((kv.cells++v.cells).map (SV.bp ρ)).take n).map (λc=>ba c.val)=[z.den ρ,xb.den ρ,E.den ρ].take n:=by
  rw[bf,a5];simp[Function.comp_def,ba]
 obtain⟨f1,-,-,f4⟩:=TZ (ρ:=ρ) (β:=β) a2 m;have br:qm n ag Z.d.isAgg ((kv.cells++v.cells).map (SV.bp ρ))=(ee ag ([z.den ρ,xb.den ρ,E.den ρ].take n),v.den ρ β):=by
  obtain⟨l,q1,b,q3⟩:=Ja (ag:=ag) O.1 (E5 M U af);have C:l=[z.den ρ,xb.den ρ,E.den ρ].take n:=by rw[<-q3,hL]
  have bs:mP Z.d.isAgg (v.cells.map (SV.bp ρ))=v.den ρ β:=by
   rw[bb,mP,f4];cases ha:Z.d.isAgg;have bx:v.cells.length=1:=by rw[f1];exact vR a8 ha
   obtain⟨u,hu⟩:=axb.1 bx;simp only[aw0,if_false];rw[<-f4,hu];rfl;rfl
  simp only[qm,b,C,bk,bs]
 have B:=acf (va:=Z.d.isAgg) O.1 (E5 M U af) hL a4;rw[br] at B;have hh:aT W cf.ty (.mr ⟨k,e,n,ag,Z.d.isAgg⟩) (fb (.ins (.ref X) n (kv.cells++v.cells)) ρ):=by
  refine acd (λrow a6=> ?_) (amI M U m);simp only[LE.rows] at a6;rcases TY a6 with rfl|h;exact af;exact a3 row h
 have R1:=R.acb hb hh;have an:∀J I H,jN qc (SV.b9 (ρ.add (.r (fb (.ins (.ref X) n (kv.cells++v.cells)) ρ))) β [.ref X,.int .i64 (.c (n:Int)),.bool (.c ag),.bool (.c Z.d.isAgg)])≠ .cells J I H:=by
  intro J I H G;rw[zY] at G;cases G
 have F:=R1.TX (cs':=[.ref (.v s.rs.length),.int .i64 (.c (n:Int)),.bool (.c ag),.bool (.c Z.d.isAgg)]) (i:=i) N an;have b0:(RE.v s.rs.length).rv (ρ.add (.r (fb (.ins (.ref X) n (kv.cells++v.cells)) ρ)))=fb (.ins (.ref X) n (kv.cells++v.cells)) ρ:=by
  simp[RE.rv,aa.rv,aa.add,<-R.er]
 rw[zY,b0] at F;refine⟨W.putObj (ad β i) (mf ((fb (.ins (.ref X) n (kv.cells++v.cells)) ρ).rows.map (qm n ag Z.d.isAgg))), ?_, ?_, ?_⟩;simp only[SV.den,a1];rw[g,B];rfl;have:=F.put d (.bj []);exact this;exact bi.put (s:=s) (s':={s with rs:=s.rs++[RK.mr ⟨k,e,n,ag,Z.d.isAgg⟩],boxes:=s.boxes.set i (some (qc,[.ref (.v s.rs.length),.int .i64 (.c n),.bool (.c ag),.bool (.c Z.d.isAgg)]))}) ⟨oB _ _ _ _,λj hj=>(lI (awG.1 (gw.1 N)).1).2 (.inr hj),by simp,awN _⟩ d _;cases h;cases h;split at h;rename_i cL;simp only[awF,beq_iff_eq,awY] at cL;obtain⟨⟨rfl,rfl⟩,rfl⟩:=cL;split at h;rename_i x ks a7;split at h;cases h;rename_i b1;cases h;rw[zZ] at L;obtain⟨p1,p2⟩:=E6 (ρ:=ρ) (β:=β) a7;rw[p1] at L;have g:=ab8 (P:=P) hd O L o (λp f=>by
  obtain⟨u,hu,rfl⟩:=aw7.1 f;exact⟨[u.1],rfl,rfl⟩) (v.den ρ β)
 have B:∀(ks:List Int)(vs:List SV),¬ks.contains x=true->ks.length=vs.length->uc [x] (ee false [x],v.den ρ β) ((ks.zip vs).map λp=>(.int .i64 p.1,p.2.den ρ β))=((ks.zip vs).map λp=>(.int .i64 p.1,p.2.den ρ β))++[(.int .i64 x,v.den ρ β)]:=by
  intro ks;induction ks with
  |nil=>intro vs _ _;simp[uc,ee]
  |cons y ys ih=>
   intro vs hc C;cases vs with
   |nil=>simp at C
   |cons u us=>
    have b2:¬y=x:=by
     intro e;subst e;simp at hc
    have b3:¬ys.contains x=true:=by
     intro e;simp at e hc;exact hc.2 e
    have:=ih us b3 (by simpa using C);simp only[ayH,awT,uc,rZ,axH,and_true,b2,if_false,this,awV]
 have an:∀J I H,jN oX (SV.b9 ρ β cs)≠ .cells J I H:=by
  intro J I H G;rw[zZ] at G;cases G
 have F:=R.TX (cs':=cs++[.int .i64 (.c x),v]) N an;have b4:∀(l:List SV)(ks:List Int),mK l=some ks->xO (SV.ap ρ β (l++[.int .i64 (.c x),v]))=xO (SV.ap ρ β l)++[(.int .i64 x,v.den ρ β)]:=by
  intro l;induction l using mK.induct with
  |case1=>intro ks _;rfl
  |case2 k u r ih=>
   intro ks V;simp only[mK] at V;cases Q:mK r with
   |none=>rw[Q] at V;cases V
   |some b5=>
    have:=ih b5 Q;simp only[awV,SV.ap,xO] at this⊢;rw[this]
  |case3 l h1 h2=>intro ks V;unfold mK at V;split at V<;>first|(exact absurd rfl h1)|(exact absurd rfl (h2 _ _ _))|cases V
 rw[zZ,b4 cs ks a7,p1] at F;refine⟨W.putObj (ad β i) (mf ((ks.zip (jf cs)).map (λp=>(Value.int .i64 p.1,p.2.den ρ β))++[(Value.int .i64 x,v.den ρ β)])), ?_,F.put d (.bj []), ?_⟩;simp only[SV.den,a1];rw[g];have:[(IE.c x).den ρ,xb.den ρ,E.den ρ].take 1=[x]:=rfl;rw[this,B ks _ b1 p2];exact bi.put (s:=s) (s':=s.bI i oX (cs++[.int .i64 (.c x),v])) ⟨j8.refl _ _ _,λj hj=>(lI (awG.1 (gw.1 N)).1).2 (.inr hj),by simp[S.bI],awN _⟩ d _;cases h;cases h;cases h;cases h
end
end
section
section
variable{S0:List Nat}{w0:World}{D:bw}{P:Program}{cf:bc}{β:List Nat}{ρ:aa}{s:S}{a:Act}{W:World}
def T1{ty:Ty}{s:S}{n:Nat}:∀r:RE,r.kind ty {s with ni:=n}=r.kind ty s
 |.v k=>rfl
 |.cell r i j k=>by simp only[RE.kind,T1 r]
 |.k v=>by cases v<;>rfl
def Fk(R:ao S0 w0 D cf.ty β ρ s a W){X:Sh}{r:RE}(h:r.mI cf.ty s X=true):lenOf (r.rv ρ).val=(r.rv ρ).rows.length:=by
 unfold RE.mI at h;rcases azs.1 h with h|h;have Z:=nz R (by simp) (of_decide_eq_true h);generalize r.rv ρ=rv at Z;cases Z;rfl;unfold RE.nil at h;split at h;simp[RE.rv,lenOf];cases h
def amL(R:ao S0 w0 D cf.ty β ρ s a W){k e:TypeId}{n:Nat}{ag:Bool}{U:TI}{i:Nat}{c:IE}(h:SS cf s k e n ag U i=some c):∃l,W.heap[ad β i]?=some (mf l)/\(l.length:Int)=c.den ρ:=by
 unfold SS at h;split at h;rename_i Q cs O;have Z:=R.mem.box i Q cs O;split at h;rename_i cL;simp only[beq_iff_eq] at cL;subst cL;cases X:Cc cf s k e n ag U cs with
 |none=>rw[X] at h;cases h
 |some r=>
  rw[X] at h;cases h;obtain⟨rfl,N,J⟩:=Nd X;rw[zY] at Z;exact⟨_,Z,by simp[IE.den,Fk R N]⟩
 split at h;rename_i cL;simp only[awF,beq_iff_eq,awY] at cL;obtain⟨⟨rfl,rfl⟩,rfl⟩:=cL;cases V:mK cs with
 |none=>rw[V] at h;cases h
 |some ks=>
  rw[V] at h;cases h;rw[zZ] at Z;obtain⟨M,L⟩:=E6 (ρ:=ρ) (β:=β) V;rw[M] at Z;exact⟨_,Z,by simp[IE.den,L]⟩
 cases h;cases h
def Jn{i:Nat}{t:Int}{c:IE}{rs:RE}:jN rM (SV.b9 ρ β [.mp i,.int .i64 (.c t),.int .i64 c,.ref rs])=.mapIter (some (ad β i)) (c.den ρ).toNat ((rs.rv ρ).rows.map lG).toArray (c.den ρ).toNat:=by
 simp[jN,rM,qc,oX,SV.b9,SV.eE,SV.den,abf]
def amM(R:ao S0 w0 D cf.ty β ρ s a W)(U:fA P cf.ty){m:OM}{t:TypeId}{x:Operand}(Q:m.o.op=.range t x)(O:a.eval x=(s.ev cf.gl x).den ρ β){s':S}(h:Mn cf m.o.dst s t (s.ev cf.gl x)=some s'):
  ∃v W' Z,oC P m.o a W v W'/\ao S0 w0 D cf.ty Z ρ s' (a.put m.o.dst v) W'/\bi s ρ β s' ρ Z:=by
 unfold Mn at h;split at h;rename_i k e n ag ab q i N M;have L:P.underlying t=some (.map k e):=(U _ _ N).desc;split at h;rename_i y w;split at h;rename_i c J;split at h;rename_i X;simp only[awF] at X;obtain⟨⟨I,H⟩,G⟩:=X;cases h;obtain⟨l,F,E⟩:=amL R J;have C:SV.ck s.ni s.nb s.rs.length (aA s.boxes) [.mp i,.int .i64 (.c (t:Int)),.int .i64 c,.ref (.k (.slice none 0 0))]=true:=by
  simp[SV.eY,SV.aG,RE.aG,IE.aG,G,H]
 obtain⟨V,B⟩:=R.tP I (t:=rM) C;rw[Jn,<-E] at V;have A:=run_range_map (P:=P) W t k e (ad β i) _ _ L F;refine⟨.pointer (some ⟨W.heap.size,0,none⟩),W.alloc (.mapIter (some (ad β i)) l.length #[] l.length),β++[W.heap.size],.inl ?_, ?_,B.put _ _⟩;simp only[execOp,Q,O,M,SV.den,Sem.run_bind,A,Result.andThen_ok,Sem.run_pure];have:=V.put m.o.dst (.loc s.boxes.length 0);have z:ad (β++[W.heap.size]) s.boxes.length=W.heap.size:=by simp[ad,<-R.dX]
 rw[SV.den,z] at this;simpa[RE.rv] using this;cases h;cases h;cases h;cases h
def T2:∀{l:List (Value×Value)}{m:Nat}{e:MapEntry},e∈dS m l->∃(j:Nat)(p:Value×Value),l[j]?=some p/\e=⟨p.1,p.2,m+j⟩
 |[],m,e,h=>by simp[dS] at h
 |x::r,m,e,h=>by
  simp only[dS,awP] at h;rcases h with rfl|h;exact⟨0,x,rfl,rfl⟩;obtain⟨j,p,Z,X⟩:=T2 h;exact⟨j+1,p,by simpa using Z,by rw[X];congr 1;omega⟩
def T3:∀{l:List (Value×Value)}{m j:Nat}{p:Value×Value},l[j]?=some p->(⟨p.1,p.2,m+j⟩:MapEntry)∈dS m l
 |[],m,j,p,h=>by simp at h
 |x::r,m,0,p,h=>by simp at h;subst h;simp[dS]
 |x::r,m,j+1,p,h=>by
  have:=T3 (m:=m+1) (l:=r) (j:=j) (p:=p) (by simpa using h);simp only[dS,awP];right
  rwa [show m+(j+1)=m+1+j by omega]
def ach:∀(n:Nat)(l:List Nat),(∀j,j<n->j∈l)->n<=l.length
 |0,_,_=>axN _
 |n+1,l,h=>by
  have Z:=h n (by omega);have:=ach n (l.erase n) (λj X=>(azn (by omega)).2 (h j (by omega)));rw[ay4 Z] at this;have:0<l.length:=azR Z;omega
def Fl(X:Cd cf=true):aW cf.ty (.mr (rS cf))=[.int .i64]:=by
 simp only[Cd,awF,azE] at X;obtain⟨Z,U⟩:=X;unfold oe at Z;split at Z;rename_i tk R;simp only[awF,beq_iff_eq] at Z;obtain⟨c,V⟩:=axb.1 Z.1.1;have:=Z.1.2;rw[V] at this;simp only[ayF,List.all_nil,ayG] at this;unfold SL at this;split at this;simp[aW,rS,R,U,V];cases this;cases Z
def T4(Z:Cd cf=true){row:List RV}(h:Cu cf.ty (rS cf) row):∃x,row=[.mk (.int .i64 x) []]:=by
 have X:=h.len;rw[Fl Z] at X;obtain⟨c,rfl⟩:=axb.1 X;obtain⟨x,V⟩:=h.int 0 c .i64 rfl (by rw[Fl Z];rfl);exact⟨x,by rw[V]⟩
def amN(V:Cd cf=true)(x:Int):Cu cf.ty (rS cf) [.mk (.int .i64 x) []]:=by
 refine⟨by rw[Fl V];rfl,λj c k X Z=> ?_,λj c X Z=> ?_⟩;rw[Fl V] at Z;cases j with
 |zero=>simp at X Z;subst X Z;exact⟨x,rfl⟩
 |succ j=>simp at X
 rw[Fl V] at Z;cases j with
 |zero=>simp at Z
 |succ j=>simp at X
def Ng{r:RE}{M:IE}{row:List RV}(R:(r.rv ρ).rows[(M.den ρ).toNat]?=some row):∀{ab:List CT}{j:Nat},ab.all jH=true->row.length=j+ab.length->
  (∀(i:Nat)(k:IntKind),ab[i]?=some (.int k)->∃m,row[j+i]?=some (.mk (.int k m) []))->(∀(i:Nat),ab[i]?=some .bool->∃m,row[j+i]?=some (.mk (.bool m) []))->
  SV.ap ρ β (oZ r M j ab)=(row.drop j).map RV.val
 |[],j,_,X,_,_=>by rw[ay9 (by simp at X;omega)];rfl
 |.int k::ab,j,V,X,hi,Q=>by
  obtain⟨m,Z⟩:=hi 0 k rfl;have O:=Ng R (ab:=ab) (j:=j+1) (by simpa[jH] using V) (by simp at X⊢;omega) (λi k h=>by have:=hi (i+1) k (by simpa using h);rwa [show j+(i+1)=j+1+i by omega] at this) (λi h=>by have:=Q (i+1) (by simpa using h);rwa [show j+(i+1)=j+1+i by omega] at this);have N:row.drop j=.mk (.int k m) []::row.drop (j+1):=by
   rw[ax1] at Z;have U:=(awG.1 Z).1;rw[axE U];congr 1;rw[awH U] at Z;simpa using Z
  rw[ax1] at Z;simp only[oZ,zH,SV.ap,SV.den,IE.den,cellAt,O,N,awT,RV.jZ,awK,R,Z,axi,ba]
 |.bool::ab,j,V,X,hi,Q=>by
  obtain⟨m,Z⟩:=Q 0 rfl;have O:=Ng R (ab:=ab) (j:=j+1) (by simpa[jH] using V) (by simp at X⊢;omega) (λi k h=>by have:=hi (i+1) k (by simpa using h);rwa [show j+(i+1)=j+1+i by omega] at this) (λi h=>by have:=Q (i+1) (by simpa using h);rwa [show j+(i+1)=j+1+i by omega] at this);have N:row.drop j=.mk (.bool m) []::row.drop (j+1):=by
   rw[ax1] at Z;have U:=(awG.1 Z).1;rw[axE U];congr 1;rw[awH U] at Z;simpa using Z
  rw[ax1] at Z;simp only[oZ,zH,SV.ap,SV.den,BE.den,cellAt,O,N,awT,RV.jZ,awK,R,Z,axi,jm]
 |.ar _ _::ab,j,V,_,_,_=>by simp[jH] at V
def T5{r:RE}{Z:IE}:∀{ab:List CT}{j:Nat},(oZ r Z j ab).length=ab.length
 |[],j=>rfl
 |c::ab,j=>by simp[oZ,T5 (ab:=ab)]
def aci{r:RE}{X:IE}{row:List RV}(Q:(r.rv ρ).rows[(X.den ρ).toNat]?=some row){n:Nat}{ag:Bool}(V:ag=false->n=1)(O:zX n row):(EA r X n ag).den ρ β=mP ag (row.take n):=by
 obtain⟨l,N,U⟩:=O;have M:(row.take n).length=n:=by rw[U];simpa using N
 have L:SV.ap ρ β ((aw3 n).map λj=>.int .i64 (.cell r X j))=(row.take n).map RV.val:=by
  rw[lF,axu];apply axd;intro j;rw[awL,awL];by_cases R:j<n;rw[ax3 R];have J:j<l.length:=by omega
  have Z:(row.take n)[j]?=some (.mk (.int .i64 l[j]) []):=by rw[U,awL,awH J];rfl
  have I:row[j]?=some (.mk (.int .i64 l[j]) []):=by rw[axc,if_pos R] at Z;exact Z
  simp[Z,SV.den,IE.den,cellAt,Q,I,ba];rw[aw4 (by simp;omega),aw4 (by omega)];rfl
 rw[EA,xS (λH=>by simpa using V H),L,mP];cases ag;obtain⟨c,Z⟩:=axb.1 (M.trans (V rfl));rw[Z];rfl;rfl
def amO{rs:RE}{je:IE}{j:Int}(V:je.den ρ=j)(h:∀row∈(rs.rv ρ).rows,∀x,row=[.mk (.int .i64 x) []]->x≠j)(X:∀row∈(rs.rv ρ).rows,∃x,row=[RV.mk (.int .i64 x) []]):(Mo rs je).den ρ=true/\∀r∈(rs.rv ρ).rows,iR 1 [j] r=false:=by
 have U:∀r∈(rs.rv ρ).rows,∀b c,iR 1 [j,b,c] r=false:=by
  intro r Z b c;obtain⟨x,rfl⟩:=X r Z;have:=h _ Z x rfl;simp[iR,ba,this]
 constructor;simp only[Mo,BE.den,V,IE.den,awY,jo];rw[List.find?_eq_none.2 (λr Z=>by simp[U r Z])];rfl;intro r Z;obtain⟨x,rfl⟩:=X r Z;have:=h _ Z x rfl;simp[iR,ba,this]
def acj(V:Cd cf=true)(R:ao S0 w0 D cf.ty β ρ s a W)(Q:s.bd=true){d:Option Nat}{q i t:Nat}{c:IE}{rs:RE}(O:bA s.boxes q=some (rM,[.mp i,.int .i64 (.c (t:Int)),.int .i64 c,.ref rs]))(aM:rs.mI cf.ty s (rS cf)=true)
  {je:IE}{j:Nat}(N:je.den ρ=j)(E:¬((rs.rv ρ).rows.map lG).contains j=true){kv v:SV}{key val:Value}
  (C:∀rv,kv.den (ρ.add (.r rv)) β=key)(B:∀rv,v.den (ρ.add (.r rv)) β=val):
  (Mo rs je).den ρ=true/\ao S0 w0 D cf.ty β (ρ.add (.r (fb (.ins (.ref rs) 1 [.int .i64 je]) ρ))) (SU cf d s q s.ni i t c kv v) (a.put d (.tuple #[.bool true,key,val])) (W.putObj (ad β q) (.mapIter (some (ad β i)) (c.den ρ).toNat (((rs.rv ρ).rows.map lG).toArray.push j) (c.den ρ).toNat)):=by
 have M:=Cv R aM;have A:∀row∈(rs.rv ρ).rows,∃x,row=[RV.mk (.int .i64 x) []]:=λrow X=>T4 V (M row X)
 obtain⟨z,y⟩:=amO (ρ:=ρ) (rs:=rs) (je:=je) N (λrow X x Z=>by
  intro e;apply E;simp only[axg,aw7];refine⟨row,X, ?_⟩;subst Z;simp[lG,ba,e]) A
 refine⟨z, ?_⟩;have w:aT W cf.ty (.mr (rS cf)) (fb (.ins (.ref rs) 1 [.int .i64 je]) ρ):=by
  refine acd (λrow L=> ?_) (λx Z=>by rw[Fl V] at Z;simp at Z;subst Z;rfl);simp only[LE.rows,awT,ax0,SV.bp] at L;rcases TY L with rfl|h;exact amN V _;exact M row h
 have u:(fb (.ins (.ref rs) 1 [.int .i64 je]) ρ).rows=(rs.rv ρ).rows++[[.mk (.int .i64 j) []]]:=by
  simp only[fb,RV.jl,LE.rows,awT,ax0,SV.bp,N];refine ace λr X=> ?_
  simpa[ba] using y r X
 have p:=R.acb Q w;have o:∀J I H,jN rM (SV.b9 (ρ.add (.r (fb (.ins (.ref rs) 1 [.int .i64 je]) ρ))) β [.mp i,.int .i64 (.c (t:Int)),.int .i64 c,.ref rs])≠ .cells J I H:=by
  intro J I H Z;rw[Jn] at Z;cases Z
 have U:=p.TX (cs':=[.mp i,.int .i64 (.c (t:Int)),.int .i64 c,.ref (.v s.rs.length)]) (i:=q) O o;have n:(RE.v s.rs.length).rv (ρ.add (.r (fb (.ins (.ref rs) 1 [.int .i64 je]) ρ)))=fb (.ins (.ref rs) 1 [.int .i64 je]) ρ:=by
  simp[RE.rv,aa.rv,aa.add,<-R.er]
 obtain⟨b,m⟩:=R.tY Q;have G:=oz m O;simp only[SV.eY,SV.aG,awF] at G;have l:c.den (ρ.add (.r (fb (.ins (.ref rs) 1 [.int .i64 je]) ρ)))=c.den ρ:=IE.cu (oB s.boxes ρ (.r (fb (.ins (.ref rs) 1 [.int .i64 je]) ρ)) β).agree _ G.2.2.1;rw[Jn,n,u,l] at U;have k:((rs.rv ρ).rows++[[RV.mk (.int .i64 (j:Int)) []]]).map lG=(rs.rv ρ).rows.map lG++[j]:=by simp[lG,ba]
 rw[k] at U;have F:=U.put d (.bj [.bool (.c true),kv,v]);have g:(SV.bj [.bool (.c true),kv,v]).den (ρ.add (.r (fb (.ins (.ref rs) 1 [.int .i64 je]) ρ))) β=.tuple #[.bool true,key,val]:=by
  simp only[SV.den,SV.ap,C,B,BE.den]
 rw[g] at F;have f:((rs.rv ρ).rows.map lG).toArray.push j=((rs.rv ρ).rows.map lG++[j]).toArray:=by simp
 rw[f];exact F
def ack{α:Type}:∀{l:List α}{m j:Nat},cJ ((m+j:Nat):Int) ((ax2 m l.length).map λ(i:Nat)=>(i:Int)) l=l[j]?
 |[],m,j=>by simp[cJ]
 |x::l,m,j=>by
  simp only[axm,ayU,awT,cJ];cases j with
  |zero=>simp
  |succ j=>
   rw[if_neg (by omega),show m+(j+1)=m+1+j by omega,ack];simp
def acl{α:Type}{l:List α}{n j:Nat}(h:n=l.length):cJ (j:Int) (xB n) l=l[j]?:=by
 have:=ack (l:=l) (m:=0) (j:=j);rw[axf] at this;rw[xB,h,ayv];exact this
def amP{ρ':aa}{u:SV}(h:u.den ρ' β=u.den ρ β):SV.ap ρ' β u.cells=SV.ap ρ β u.cells:=by
 cases u
 case agg l=>simp only[SV.den,Value.agg.injEq] at h;simpa[SV.cells] using h
 all_goals simp only[SV.cells,SV.ap,h]
def acm(R:ao S0 w0 D cf.ty β ρ s a W){Z:TI}{e:TypeId}(Q:cS P e Z){x:IE}{ks:List Int}{vs:List SV}{kv v:SV}(h:Mp Z x ks vs=some (kv,v))(O:ks.length=vs.length){ρ':aa}{j:Nat}(X:x.den ρ'=j){k:Int}{u:SV}(N:ks[j]?=some k)(V:vs[j]?=some u)(M:u.den ρ' β=u.den ρ β):
  kv.den ρ' β=.int .i64 k/\v.den ρ' β=u.den ρ β:=by
 unfold Mp at h;split at h;rename_i L;split at h;rename_i y l J I;cases h;constructor;obtain⟨w,H,G,-⟩:=Tp (ρ:=ρ') J;obtain⟨t,z,F,rfl⟩:=G (.int .i64 (.c k)) (by rw[X,acl (by simp),awL,N];rfl);cases F;simp only[SV.den,H,IE.den];obtain⟨s0,E,r⟩:=MP (ρ:=ρ') (β:=β) I;have U:=awU.1 L u (aw1 V);have C:u.cells.length=0+Z.ab.length:=by
  simp only[vA,awF,beq_iff_eq] at U;omega
 have B:Z.d.isAgg=false->l.length=1:=λA=>by rw[s0];exact vR Q A
 rw[xS B,E u.cells (by rw[X,acl (by simp[O]),awL,V];rfl) C,azt,amP M,MS (qp R) U];cases h;cases h
def acn:∀{l:List (Value×Value)}{m:Nat},(dS m l).map (·.born)=ax2 m l.length
 |[],m=>rfl
 |x::r,m=>by simp[dS,acn (l:=r),ayU]
def amQ{p:Sp}{L:List LC}(hP:p.P=P)(R:ao S0 w0 D cf.ty β ρ s a W)(B:fA P cf.ty){m:OM}{x:Operand}(ho:m.o.op=.next x false)(he:a.eval x=(s.ev cf.gl x).den ρ β){a4 af:S->T}{t:T}(h:SX cf m.o.dst s (s.ev cf.gl x) a4 af=some t)(E:t.aD p ρ L):
  ∃v W' ρ' s',oC P m.o a W v W'/\ao S0 w0 D cf.ty β ρ' s' (a.put m.o.dst v) W'/\bi s ρ β s' ρ' β/\((ρ'=ρ/\(af s').aD p ρ L)\/(a4 s').aD p ρ' L):=by
 unfold SX at h;split at h;rename_i q hx;split at h;rename_i bt i tz c rs J;split at h;cases h;rename_i bx;simp only[awY,ax8,awF,beq_iff_eq,decide_eq_true_eq] at bx;obtain⟨⟨⟨⟨⟨rfl,a5⟩,aM⟩,hb⟩,b0⟩,dr⟩:=bx;obtain⟨tn,rfl⟩:∃tn:Nat,tz=(tn:Int):=⟨tz.toNat,by omega⟩;simp only[axy] at h;have a6:=R.mem.box _ _ _ J;rw[Jn] at a6;have cp:=Cv R aM;have ds:∀row∈(rs.rv ρ).rows,∃x,row=[RV.mk (.int .i64 x) []]:=λrow N=>T4 a5 (cp row N)
 obtain⟨dx,a7⟩:=R.tY hb;split at h;rename_i k e n ag ab qq dy cs b1 b2;have hd:P.underlying tn=some (.map k e):=(B _ _ b1).desc;have hK:pj P k n ag:=(B _ _ b1).key k e n ag rfl;split at h;rename_i V A;split at h;cases h;rename_i an;have an:oe cf.ty k n ag=true:=by simpa using an
 have z:=R.mem.box _ _ _ b2;have a0:=oz a7 b2;have model:∀(l:List (Value×Value)),W.heap[ad β i]?=some (mf l)->(l.length:Int)=c.den ρ->
   (c.den ρ<=lenOf (rs.rv ρ).val/\oC P m.o a W (.tuple #[.bool false]) W)\/
   ∃(j:Nat)(kv:Value×Value)(U:World),l[j]?=some kv/\¬((rs.rv ρ).rows.map lG).contains j=true/\(U=W\/U=W.drew)/\oC P m.o a W (.tuple #[.bool true,kv.1,kv.2]) (U.putObj (ad β q) (.mapIter (some (ad β i)) (c.den ρ).toNat (((rs.rv ρ).rows.map lG).toArray.push j) (c.den ρ).toNat)):=by
  intro l hl a8;have hN:(c.den ρ).toNat=l.length:=by omega
  rw[hN] at a6⊢;rcases run_next_at (P:=P) W m.o.type (ad β q) (ad β i) l.length l.length _ _ _ a6 hl (λy hy=>by
   obtain⟨j,p,h1,h2⟩:=T2 (by simpa using hy);rw[h2];have:=(awG.1 h1).1;simpa using this) (awN _) with⟨h0,N⟩|⟨en,a9,U,cv,N⟩
  left;refine⟨?_,.inl ?_⟩;rw[Fk R aM,<-a8];have:=ach l.length ((rs.rv ρ).rows.map lG) (λj I=>by
   cases Q:((rs.rv ρ).rows.map lG).contains j with
   |true=>exact axg.1 Q
   |false=>
    exfalso;have cx:=T3 (m:=0) (awH I);have:(⟨(l[j]).1,(l[j]).2,0+j⟩:MapEntry)∈(leftOf (dS 0 l).toArray ((rs.rv ρ).rows.map lG).toArray):=by
     unfold leftOf;rw[aAq];refine⟨by simpa using cx, ?_⟩;simp only[axf,awY];rw[<-Q];simp
    have dz:=Array.size_pos_of_mem this;omega)
  simpa using this;simp only[execOp,ho,he,hx,SV.den,Sem.run_bind,N,Result.andThen_ok,Sem.run_pure];right;unfold leftOf at a9;rw[Array.mem_toList_iff,aAq] at a9;obtain⟨cy,b3⟩:=a9;obtain⟨j,kv,I,rfl⟩:=T2 (by simpa using cy);simp only[axf] at b3 N;refine⟨j,kv,U,I, ?_,cv,.inl ?_⟩;simpa using b3;simp only[execOp,ho,he,hx,SV.den,Sem.run_bind,N,Result.andThen_ok,Sem.run_pure,amJ]
 have b4:(W=W)->(c.den ρ<=lenOf (rs.rv ρ).val)->oC P m.o a W (.tuple #[.bool false]) W->(af (s.put m.o.dst (.bj [.bool (.c false)]))).aD p ρ L->∃v W' ρ' s',oC P m.o a W v W'/\ao S0 w0 D cf.ty β ρ' s' (a.put m.o.dst v) W'/\bi s ρ β s' ρ' β/\((ρ'=ρ/\(af s').aD p ρ L)\/(a4 s').aD p ρ' L):=by
  intro _ _ cI c0;have:=R.put m.o.dst (.bj [.bool (.c false)]);exact⟨_,W,ρ,_,cI,this,(bi.refl _ _ _).put _ _,.inl ⟨rfl,c0⟩⟩
 have b5:∀U,(U=W\/U=W.drew)->ao S0 w0 D cf.ty β ρ s a U:=by
  rintro U (rfl|rfl);exact R;exact R.drew
 split at h
 
 rename_i cL;simp only[beq_iff_eq] at cL;subst cL;split at h;rename_i r N;split at h;rename_i a3;simp only[awF] at a3;cases h;obtain⟨rfl,c1,c5⟩:=Nd N;rw[zY] at z;have bg:c.den ρ=((r.rv ρ).rows.length:Int):=by
  have:=IE.bl _ _ a3.1;rw[this,IE.den,Fk R c1]
 have b6:=Cv R c1;simp only[Mq,T.aD] at E;rcases model _ z (by rw[bg];simp) with⟨Z,H⟩|⟨j,kv,U,Z,H,g3,g4⟩;exact b4 rfl Z H (E.2 (decide_eq_true Z))
 ·rw[awL] at Z;cases w:(r.rv ρ).rows[j]? with
  |none=>rw[w] at Z;cases Z
  |some row=>
  rw[w] at Z;simp only[awO,awJ] at Z;have c2:=(awG.1 w).1;have b7:=aw1 w;have c3:=E5 an A (b6 row b7);have bb:=E.1 (j:Int) (by omega) (by omega);have R1:=(b5 U g3).aca hb (j:Int);have G:=(oB s.boxes ρ (.i (j:Int)) β).agree;simp only[SV.eY,SV.aG,awF] at a0;have F:=oz a7 J;simp only[SV.eY,SV.aG,awF] at F;have g:rs.rv (ρ.add (.i (j:Int)))=rs.rv ρ:=RE.ny G _ F.2.2.2.1;have bf:c.den (ρ.add (.i (j:Int)))=c.den ρ:=IE.cu G _ F.2.2.1;have f:(IE.v s.ni).den (ρ.add (.i (j:Int)))=(j:Int):=by simp[IE.den,aa.add,<-R.ei]
  have c4:∀rv,(IE.v s.ni).den ((ρ.add (.i (j:Int))).add (.r rv))=(j:Int):=λrv=>f
  have c6:∀rv,r.rv ((ρ.add (.i (j:Int))).add (.r rv))=r.rv ρ:=λrv=>by
   have a1:=RE.ny G _ a0.1;have bk:=(oB s.boxes (ρ.add (.i (j:Int))) (.r rv) β).agree;have a2:=RE.ny (bk.mono (by simp[aa.add]) (awN _) (awN _)) r a0.1;rw[a2,a1]
  have b8:∀rv,(r.rv ((ρ.add (.i (j:Int))).add (.r rv))).rows[((IE.v s.ni).den ((ρ.add (.i (j:Int))).add (.r rv))).toNat]?=some row:=λrv=>by
   rw[c6,c4];simpa using w
  obtain⟨kc,r1,r2,r3⟩:=E4 (va:=V.d.isAgg) an A;have br:=b6 row b7;have a8:row.length=n+V.ab.length:=by rw[br.len,r1,awQ,r2]
  have ca:∀(X:Nat)(C:CT),V.ab[X]?=some C->(aW cf.ty (.mr ⟨k,e,n,ag,V.d.isAgg⟩))[n+X]?=some C:=λX C O=>by
   rw[r1,awM (by omega),r2,show n+X-n=X by omega];exact O
  have cc:∀(X:Nat)(C:CT),V.ab[X]?=some C->∃c,row[n+X]?=some c:=λX C O=>by
   have:X<V.ab.length:=(awG.1 O).1;exact⟨row[n+X]'(by omega),awH _⟩
  have c7:V.d.isAgg=false->(oZ r (.v s.ni) n V.ab).length=1:=λha=>by rw[T5];exact vR (B _ _ A) ha
  have c8:∀rv,(od V.d.isAgg (oZ r (.v s.ni) n V.ab)).den ((ρ.add (.i (j:Int))).add (.r rv)) β=mP V.d.isAgg (row.drop n):=λrv=>by
   rw[xS c7,Ng (b8 rv) c5 a8 (λX kk O=>by
    obtain⟨c,Q⟩:=cc X _ O;obtain⟨x',bs⟩:=br.int (n+X) c kk Q (ca X _ O);exact⟨x',by rw[Q,bs]⟩) (λX O=>by
    obtain⟨c,Q⟩:=cc X _ O;obtain⟨x',bs⟩:=br.bool (n+X) c Q (ca X _ O);exact⟨x',by rw[Q,bs]⟩),mP]
   cases c9:V.d.isAgg;have h1:=vR (B _ _ A) c9;obtain⟨c,Q⟩:=axb.1 (show(row.drop n).length=1 by simp;omega);rw[Q];rfl;rfl
  obtain⟨u1,u2⟩:=acj (d:=m.o.dst) (s:={s with ni:=s.ni+1}) (kv:=EA r (.v s.ni) n ag) (v:=od V.d.isAgg (oZ r (.v s.ni) n V.ab)) (key:=mP ag (row.take n)) (val:=mP V.d.isAgg (row.drop n)) a5 R1 b0 J (by simpa only[RE.mI,T1] using aM) f (by rw[g];exact H) (λrv=>aci (b8 rv) hK.1 c3) c8;rw[g,bf] at u2;subst Z;refine⟨_,_,_,_,g4,u2, ?_,.inr ?_⟩;refine bi.put (s:=s) (s':={s with ni:=s.ni+1,rs:=s.rs++[RK.mr (rS cf)],boxes:=s.boxes.set q _}) ⟨(oB s.boxes ρ (.i (j:Int)) β).trans (oB s.boxes _ _ β) (λ_ h=>h),λj I=>(lI (awG.1 (gw.1 J)).1).2 (.inr I),by simp,awN _⟩ _ _;exact bb u1
 cases h;cases h;split at h
 
 rename_i cL;simp only[awF,beq_iff_eq,awY] at cL;obtain⟨⟨rfl,rfl⟩,rfl⟩:=cL;split at h;rename_i ks dc;split at h;rename_i a3;split at h;rename_i dd v0 df;cases h;rw[zZ] at z;obtain⟨p1,p2⟩:=E6 (ρ:=ρ) (β:=β) dc;rw[p1] at z;have bg:c.den ρ=(ks.length:Int):=by
  have:=IE.bl _ _ a3;rw[this,IE.den]
 simp only[Mq,T.aD] at E;rcases model _ z (by rw[bg];simp[p2]) with⟨Z,H⟩|⟨j,kv,U,Z,H,g3,g4⟩;exact b4 rfl Z H (E.2 (decide_eq_true Z))
 ·rw[awL] at Z;cases hz:(ks.zip (jf cs))[j]? with
  |none=>rw[hz] at Z;cases Z
  |some kp=>
  rw[hz] at Z;simp only[awO,awJ] at Z;obtain⟨z1,z2⟩:=ay0.1 hz;have dk:∀{l:List SV}{jj:Nat}{u:SV},SV.ck ρ.i.length ρ.b.length ρ.r.length (aA s.boxes) l=true->(jf l)[jj]?=some u->u.bd ρ.i.length ρ.b.length ρ.r.length (aA s.boxes)=true:=by
   intro l;induction l using jf.induct with
   |case1 k v r ih=>
    intro jj u aO M;simp only[SV.eY,awF] at aO;simp only[jf] at M;cases jj with
    |zero=>simp at M;subst M;exact aO.2.1
    |succ jj=>exact ih aO.2.2 (by simpa using M)
   |case2 l h1=>
    intro jj u aO M;unfold jf at M;split at M;exact absurd rfl (h1 _ _ _);simp at M
  have c2:j<ks.length:=(awG.1 z1).1;have bb:=E.1 (j:Int) (by omega) (by omega);have R1:=(b5 U g3).aca hb (j:Int);have G:=(oB s.boxes ρ (.i (j:Int)) β).agree;have F:=oz a7 J;simp only[SV.eY,SV.aG,awF] at F;have g:rs.rv (ρ.add (.i (j:Int)))=rs.rv ρ:=RE.ny G _ F.2.2.2.1;have bf:c.den (ρ.add (.i (j:Int)))=c.den ρ:=IE.cu G _ F.2.2.1;have f:(IE.v s.ni).den (ρ.add (.i (j:Int)))=(j:Int):=by simp[IE.den,aa.add,<-R.ei]
  have ch:=dk a0 z2;have dn:∀rv,kp.2.den ((ρ.add (.i (j:Int))).add (.r rv)) β=kp.2.den ρ β:=λrv=>by
   have bk:=(oB s.boxes (ρ.add (.i (j:Int))) (.r rv) β).agree;rw[SV.cu (bk.mono (by simp[aa.add]) (awN _) (awN _)) (λ_ _=>rfl) _ ch,SV.cu G (λ_ _=>rfl) _ ch]
  have cl:=λrv=>acm R (B _ _ A) df p2 (ρ':=(ρ.add (.i (j:Int))).add (.r rv)) (j:=j) f z1 z2 (dn rv)
  obtain⟨u1,u2⟩:=acj (d:=m.o.dst) (s:={s with ni:=s.ni+1}) (kv:=dd) (v:=v0) (key:=.int .i64 kp.1) (val:=kp.2.den ρ β) a5 R1 b0 J (by simpa only[RE.mI,T1] using aM) f (by rw[g];exact H) (λrv=>(cl rv).1) (λrv=>(cl rv).2);rw[g,bf] at u2;subst Z;refine⟨_,_,_,_,g4,u2, ?_,.inr ?_⟩;refine bi.put (s:=s) (s':={s with ni:=s.ni+1,rs:=s.rs++[RK.mr (rS cf)],boxes:=s.boxes.set q _}) ⟨(oB s.boxes ρ (.i (j:Int)) β).trans (oB s.boxes _ _ β) (λ_ h=>h),λj I=>(lI (awG.1 (gw.1 J)).1).2 (.inr I),by simp,awN _⟩ _ _;exact bb u1
 cases h;cases h;cases h;cases h;cases h;cases h;cases h;cases h
def amR{p:Sp}{L:List LC}(R:ao S0 w0 D cf.ty β ρ s a W)(J:fA P cf.ty){m:OM}{x:Operand}(ho:m.o.op=.entry x)(he:a.eval x=(s.ev cf.gl x).den ρ β){a1:S->T}{t:T}(h:SZ cf m.o.dst s (s.ev cf.gl x) a1=some t)(O:t.aD p ρ L):
  ∃v s',oC P m.o a W v W/\ao S0 w0 D cf.ty β ρ s' (a.put m.o.dst v) W/\bi s ρ β s' ρ β/\(a1 s').aD p ρ L:=by
 unfold SZ at h;split at h;rename_i q hx;split at h;rename_i bt i tz c rs hq;split at h;cases h;rename_i a2;simp only[awY,ax8,awF,beq_iff_eq,decide_eq_true_eq] at a2;obtain⟨⟨⟨⟨rfl,bk⟩,aM⟩,hb⟩,cp⟩:=a2;obtain⟨g,rfl⟩:∃g:Nat,tz=(g:Int):=⟨tz.toNat,by omega⟩;simp only[axy] at h;have C:=R.mem.box _ _ _ hq;rw[Jn] at C;have br:=Cv R aM;have model:∀(l:List (Value×Value)),W.heap[ad β i]?=some (mf l)->(l.length:Int)=c.den ρ->(SY c rs).den ρ=true->
   ∃(j:Nat)(kv:Value×Value),l[j]?=some kv/\(qh rs).den ρ=j/\oC P m.o a W (.tuple #[kv.1,kv.2]) W:=by
  intro l hl a3 bs;obtain⟨f,bx⟩:=vX bs;obtain⟨f,b0⟩:=vX f;have I:=ub f;have h2:=M5 b0;obtain⟨B,A⟩:=vX bx;have B:=ub B;rw[xR] at A;have A:(qh rs).den ρ<c.den ρ:=by simpa[ew] using A
  simp only[IE.den] at I h2 B;rw[Fk R aM] at I h2;have hN:(c.den ρ).toNat=l.length:=by omega
  rw[hN] at C;obtain⟨H,b,y⟩:∃H b,(rs.rv ρ).rows=H++[b]:=⟨_,_,(List.dropLast_concat_getLast (by intro e;rw[e] at I;simp at I)).symm⟩;obtain⟨z,N⟩:=T4 bk (br b (by rw[y];simp));have b1:IntKind.i64.wrap (((rs.rv ρ).rows.length:Int)-1)=((rs.rv ρ).rows.length:Int)-1:=by
   simp[IntKind.wrap,IntKind.bits,IntKind.signed];omega
  have a4:(qh rs).den ρ=z:=by
   simp only[qh,IE.den,bh,Fk R aM,b1,cellAt];have:(((rs.rv ρ).rows.length:Int)-1).toNat=H.length:=by rw[y];simp
   rw[this,y,N];simp[awK,ba]
  rw[a4] at B A;obtain⟨j,rfl⟩:∃j:Nat,z=(j:Int):=⟨z.toNat,by omega⟩;have a5:j<l.length:=by omega
  refine⟨j,l[j],awH a5,a4,.inl ?_⟩;have b2:((rs.rv ρ).rows.map lG).toArray=((H.map lG).toArray).push j:=by
   rw[y,N];simp[lG,ba]
  rw[b2] at C;have a6:=T3 (m:=0) (awH a5);rw[axf] at a6;have hr:=run_entry_at (P:=P) W (ad β q) (ad β i) l.length ((H.map lG).toArray) (dS 0 l).toArray l.length ⟨(l[j]).1,(l[j]).2,j⟩ C hl (by simpa using a6) (by
   simp only[ayn,acn];exact List.nodup_range' ..)
  simp only[execOp,ho,he,hx,SV.den,Sem.run_bind,hr,Result.andThen_ok,Sem.run_pure]
 split at h;rename_i k e n ag ab qq cs b3 a7 b4;have hd:P.underlying g=some (.map k e):=(J _ _ a7).desc;have hK:pj P k n ag:=(J _ _ a7).key k e n ag rfl;split at h;rename_i X G;split at h;cases h;rename_i w;have w:oe cf.ty k n ag=true:=by simpa using w
 have F:=R.mem.box _ _ _ b4;split at h;rename_i cL;simp only[beq_iff_eq] at cL;subst cL;split at h;rename_i r hr;split at h
 ·rename_i af;cases h;obtain⟨rfl,c1,c5⟩:=Nd hr;rw[zY] at F;have bg:c.den ρ=((r.rv ρ).rows.length:Int):=by
   have:=IE.bl _ _ af;rw[this,IE.den,Fk R c1]
  have a8:=Cv R c1;obtain⟨hn,O⟩:=O;obtain⟨j,kv,V,g2,g3⟩:=model _ F (by rw[bg];simp) hn;rw[awL] at V;cases u:(r.rv ρ).rows[j]? with
  |none=>rw[u] at V;cases V
  |some row=>
  rw[u] at V;simp only[awO,awJ] at V;have a9:=aw1 u;have b5:=E5 w G (a8 row a9);have bb:(r.rv ρ).rows[((qh rs).den ρ).toNat]?=some row:=by rw[g2];simpa using u
  obtain⟨kc,r1,r2,r3⟩:=E4 (va:=X.d.isAgg) w G;have an:=a8 row a9;have a3:row.length=n+X.ab.length:=by rw[an.len,r1,awQ,r2]
  have bd:∀(Z:Nat)(M:CT),X.ab[Z]?=some M->(aW cf.ty (.mr ⟨k,e,n,ag,X.d.isAgg⟩))[n+Z]?=some M:=λZ M U=>by
   rw[r1,awM (by omega),r2,show n+Z-n=Z by omega];exact U
  have bf:∀(Z:Nat)(M:CT),X.ab[Z]?=some M->∃c,row[n+Z]?=some c:=λZ M U=>by
   have:Z<X.ab.length:=(awG.1 U).1;exact⟨row[n+Z]'(by omega),awH _⟩
  have b6:X.d.isAgg=false->(oZ r (qh rs) n X.ab).length=1:=λha=>by rw[T5];exact vR (J _ _ G) ha
  have b7:(od X.d.isAgg (oZ r (qh rs) n X.ab)).den ρ β=mP X.d.isAgg (row.drop n):=by
   rw[xS b6,Ng bb c5 a3 (λZ kk U=>by
    obtain⟨c,Q⟩:=bf Z _ U;obtain⟨x',a0⟩:=an.int (n+Z) c kk Q (bd Z _ U);exact⟨x',by rw[Q,a0]⟩) (λZ U=>by
    obtain⟨c,Q⟩:=bf Z _ U;obtain⟨x',a0⟩:=an.bool (n+Z) c Q (bd Z _ U);exact⟨x',by rw[Q,a0]⟩),mP]
   cases b8:X.d.isAgg;have I:=vR (J _ _ G) b8;obtain⟨c,Q⟩:=axb.1 (show(row.drop n).length=1 by simp;omega);rw[Q];rfl;rfl
  have ca:=aci (β:=β) bb hK.1 b5;have E:=R.put m.o.dst (.bj [EA r (qh rs) n ag,od X.d.isAgg (oZ r (qh rs) n X.ab)]);simp only[SV.den,SV.ap,ca,b7] at E;subst V;exact⟨_,_,g3,E,(bi.refl _ _ _).put _ _,O⟩
 cases h;cases h;split at h;rename_i cL;simp only[awF,beq_iff_eq,awY] at cL;obtain⟨⟨rfl,rfl⟩,rfl⟩:=cL;split at h;rename_i ks cc;split at h;rename_i af;split at h
 ·rename_i ch v0 cl;cases h;rw[zZ] at F;obtain⟨p1,p2⟩:=E6 (ρ:=ρ) (β:=β) cc;rw[p1] at F;have bg:c.den ρ=(ks.length:Int):=by
   have:=IE.bl _ _ af;rw[this,IE.den]
  obtain⟨hn,O⟩:=O;obtain⟨j,kv,V,g2,g3⟩:=model _ F (by rw[bg];simp[p2]) hn;rw[awL] at V;cases N:(ks.zip (jf b3))[j]? with
  |none=>rw[N] at V;cases V
  |some kp=>
  rw[N] at V;simp only[awO,awJ] at V;obtain⟨z1,z2⟩:=ay0.1 N;obtain⟨e1,e2⟩:=acm R (J _ _ G) cl p2 (ρ':=ρ) g2 z1 z2 rfl;have E:=R.put m.o.dst (.bj [ch,v0]);simp only[SV.den,SV.ap,e1,e2] at E;subst V;exact⟨_,_,g3,E,(bi.refl _ _ _).put _ _,O⟩
 cases h;cases h;cases h;cases h;cases h;cases h;cases h;cases h
def aco{p:Sp}{L:List LC}(R:ao S0 w0 D cf.ty β ρ s a W)(G:fA P cf.ty){m:OM}{t t2:TypeId}{op:BinOp}{Z:Bool}{x y:Operand}(N:m.o.op=.binOp op t x y t2)(F:(op=.eql/\Z=false)\/(op=.neq/\Z=true))(E:a.eval x=(s.ev cf.gl x).den ρ β)(C:a.eval y=(s.ev cf.gl y).den ρ β){M:S->T}{J:T}(h:Mr cf m.o.dst s t Z (s.ev cf.gl x) (s.ev cf.gl y) M=some J)(Q:J.aD p ρ L):
  ∃v s',oC P m.o a W v W/\ao S0 w0 D cf.ty β ρ s' (a.put m.o.dst v) W/\bi s ρ β s' ρ β/\(M s').aD p ρ L:=by
 unfold Mr at h;split at h;rename_i e ab q r B z w;split at h;rename_i u;cases h;have l:P.underlying t=some (.slice e):=(G _ _ B).desc;have V:=nz R (by simp) u;simp only[T.aD] at Q;obtain⟨A,n,c,X⟩:∃A n c,r.den ρ=.slice A n c:=by
  have:∃A n c,(r.rv ρ).val=.slice A n c:=by
   generalize r.rv ρ=rv at V;cases V;exact⟨_,_,_,rfl⟩
  exact this
 have j:(IE.len r).den ρ=n:=by simp only[IE.den];unfold RE.den at X;rw[X];rfl
 have I:(Op.equal t (.slice A n c) (.slice none 0 0)).run P W=.ok A.isNone W:=by
  have O:Op.equal t (.slice A n c) (.slice none 0 0)=Op.equalIn (9999+1) t (.slice A n c) (.slice none 0 0):=rfl;rw[O,Op.equalIn,Sem.run_bind,cS.eF l,Result.andThen_ok];cases A<;>rfl
 have H:(execOp a.eval m.o).run P W=.ok (.value (.bool (if Z then !A.isNone else A.isNone))) W:=by
  simp only[execOp,N,E,C,z,w,SV.den,X];have i:RE.den ρ (.k (.slice none 0 0))=.slice none 0 0:=rfl;rw[i];rcases F with⟨rfl,rfl⟩|⟨rfl,rfl⟩;simp[eqGuard,binOp,I];simp[eqGuard,binOp,I]
 cases U:A with
 |none=>
  have g:n=0:=by
   unfold RE.den at X;have O:∀{rv:RV},aT W cf.ty (.sl e) rv->rv.val=.slice A n c->A=none->n=0:=by
    intro rv V X U;cases V with
    |sl e A' ag cap rows f h2 d hi hb N=>
     simp only[RV.jZ,Value.slice.injEq] at X;obtain⟨rfl,rfl,rfl⟩:=X;subst U;cases rows with
     |nil=>simp at f;omega
     |cons row rows=>
      obtain⟨-,b,off,af,-⟩:=d 0 row rfl;cases af
   exact O V X U
  have:=Q.2 (by show decide ((IE.len r).den ρ<=(IE.c 0).den ρ)=true;rw[j,g];rfl);refine⟨_,_,.inl H, ?_,(bi.refl _ _ _).put _ (.bool (.c (!Z))),this⟩;have X:(if Z then !A.isNone else A.isNone)= !Z:=by rw[U];cases Z<;>rfl
  rw[X];exact R.put m.o.dst (.bool (.c (!Z)))
 |some A0=>
  have:=Q.1 (by simp[BE.den]);refine⟨_,_,.inl H, ?_,(bi.refl _ _ _).put _ (.bool (.c Z)),this⟩;have X:(if Z then !A.isNone else A.isNone)=Z:=by rw[U];cases Z<;>rfl
  rw[X];exact R.put m.o.dst (.bool (.c Z))
 cases h;cases h
def ao.cells{ty:Ty}{i:Nat}{X:TypeId}{Q O:List SV}(R:ao S0 w0 D ty β ρ (s.bI i X Q) a W)(hi:i<s.boxes.length)(h:SV.b9 ρ β Q=SV.b9 ρ β O):ao S0 w0 D ty β ρ (s.bI i X O) a W:=by
 have N:∀j,aA (s.boxes.set i (some (X,O))) j=aA (s.boxes.set i (some (X,Q))) j:=λj=>by
  rw[axO,lI hi,lI hi]
 have e1:(s.bI i X O).boxes=s.boxes.set i (some (X,O)):=rfl;have V:(s.bI i X Q).boxes=s.boxes.set i (some (X,Q)):=rfl;refine⟨⟨R.mem.base,λj Z=>R.mem.own j (by rw[V,<-N];exact Z),λj k Z J=>R.mem.inj j k (by rw[V,<-N];exact Z) (by rw[V,<-N];exact J),λj t cs U=> ?_,λk e rv M L=>⟨(R.mem.ref k e rv M L).1,λb U j Z=>(R.mem.ref k e rv M L).2 b U j (by rw[V,<-N];exact Z)⟩⟩,by simpa[S.bI] using R.dX,R.ei,R.eb,R.er,R.bT,R.size,R.tmps,λk e rv b I H G=> ?_⟩;rw[gw,e1] at U;by_cases Z:j=i;subst Z;rw[ayc (by simpa using hi)] at U;cases U;rw[<-h];exact R.mem.box j X Q (by rw[gw,V,ayc (by simpa using hi)]);rw[axs (λe=>Z e.symm)] at U;exact R.mem.box j t cs (by rw[gw,V,axs (λe=>Z e.symm)];exact U);obtain⟨M,L,F,E,C⟩:=R.cO k e rv b I H G;exact⟨M,L,λj Z=>F j (by rw[V,<-N];exact Z),E,C⟩
def amS{b:BE}{x y z:SV}(h:S2 b x y=some z):z.eE ρ β=if b.den ρ then x.eE ρ β else y.eE ρ β:=by
 unfold S2 at h;split at h;split at h;rename_i Z;subst Z;cases h;simp only[SV.eE,SV.den,IE.den];split<;>rfl;cases h;cases h;simp only[SV.eE,SV.den,BE.den];split<;>rfl;cases h
def Jo:∀(vs l:List SV)(off:Nat),SV.b9 ρ β (iw l off vs)=eR (SV.b9 ρ β l) off (SV.b9 ρ β vs)
 |[],l,off=>rfl
 |v::vs,l,off=>by
  rw[iw,Jo vs (l.set off v) (off+1)];simp only[SV.b9,awT,eR,aAd]
def acp{b:BE}:∀{X:List SV}{off:Nat}{cs cs':List SV},IG b X off cs=some cs'->
  cs'.length=cs.length/\(X=[]\/off+X.length<=cs.length)/\(b.den ρ=true->SV.b9 ρ β cs'=SV.b9 ρ β (iw cs off X))/\(b.den ρ=false->SV.b9 ρ β cs'=SV.b9 ρ β cs)
 |[],off,cs,cs',h=>by simp only[IG,awJ] at h;subst h;exact⟨rfl,.inl rfl,λ_=>rfl,λ_=>rfl⟩
 |x::xs,off,cs,cs',h=>by
  simp only[IG] at h;split at h;rename_i old V;split at h;rename_i c N;obtain⟨R,U,M,L⟩:=acp h;have J:off<cs.length:=(awG.1 V).1;have Q:=amS (ρ:=ρ) (β:=β) N;have O:SV.b9 ρ β (cs.set off c)=(SV.b9 ρ β cs).set off (c.eE ρ β):=by simp[SV.b9,aAd]
  have I:SV.b9 ρ β cs=(SV.b9 ρ β cs).set off (old.eE ρ β):=by
   apply axd;intro j;rw[axC];split;rename_i H;subst H;simp[SV.b9,J,V];have:=awG.1 V;rw[this.2];rfl
  rw[List.length_set] at R U;refine⟨R,.inr ?_,λZ=> ?_,λZ=> ?_⟩;rcases U with rfl|U;simp;omega;simp only[axm];omega;rw[M Z,Jo,O,Q,if_pos Z,Jo];simp only[SV.b9,awT,eR];rw[L Z,O,Q,if_neg (by simp[Z]),<-I];cases h;cases h
def acq{e:IE}{V:List SV}(N:V≠[]):∀{ks:List Int}{vs cs cs':List SV},Ce e V ks vs cs=some cs'->Ms ks=true->
  cs'.length=cs.length/\(∀v,cJ (e.den ρ) ks vs=some v->∃i off,v=.loc i off/\off+V.length<=cs.length/\SV.b9 ρ β cs'=SV.b9 ρ β (iw cs off V))/\(¬(e.den ρ∈ks)->SV.b9 ρ β cs'=SV.b9 ρ β cs)
 |[],[],cs,cs',h,_=>by simp only[Ce,awJ] at h;subst h;exact⟨rfl,λv Z=>by simp[cJ] at Z,λ_=>rfl⟩
 |[],_::_,cs,cs',h,_=>by simp[Ce] at h
 |k::ks,vs,cs,cs',h,R=>by
  simp only[Ms,awF,awY] at R;cases vs with
  |nil=>simp[Ce] at h
  |cons u vs=>
   cases u<;>simp only[Ce] at h<;>try cases h
   rename_i i off;split at h;rename_i y H;obtain⟨G,F,M⟩:=acq N h R.2;obtain⟨L,Q,J,O⟩:=acp (ρ:=ρ) (β:=β) H;have Q:=Q.resolve_left N;simp only[BE.den,IE.den,ew,beq_iff_eq,beq_eq_false_iff_ne,ne_eq] at J O;refine⟨by rw[G,L],λv Z=> ?_,λI=> ?_⟩;simp only[cJ] at Z;split at Z;rename_i X;cases Z;refine⟨i,off,rfl,Q, ?_⟩;rw[M (λU=>by
    rw[X] at U;have:=R.1;rw[axg.2 U] at this;cases this),J X]
   rename_i X;obtain⟨E,C,rfl,B,A⟩:=F v Z;refine⟨E,C,rfl,by rw[<-L];exact B, ?_⟩;rw[A,Jo,O X,<-Jo];have X:¬e.den ρ=k:=λz=>I (by simp[z])
   rw[M (λU=>I (by simp[U])),O X];cases h
def acr{x:SV}(h:II x=true):x.single=true:=by cases x<;>simp only[II,aw0] at h<;>rfl
def acs:∀{l:List SV},EB l=true->l≠[]/\zI l=true
 |[],h=>by cases h
 |[x],h=>⟨by simp,by rw[Md.2,acr h,Md.1];rfl⟩
 |x::y::r,h=>by
  simp only[EB,awF] at h;exact⟨by simp,by rw[Md.2,acr h.1,(acs (l:=y::r) h.2).2];rfl⟩
def amT{Z:SV}(h:EB Z.cells=true):(Z.den ρ β).cells.toList=SV.ap ρ β Z.cells:=by
 cases Z
 case agg l=>simp[SV.cells,SV.den,Value.cells]
 all_goals(simp only[SV.cells,EB,II,aw0] at h)
 all_goals rfl
def amU{P:Program}{p:Sp}{L:List LC}(R:ao S0 w0 D cf.ty β ρ s a W)(J:fA P cf.ty){o:Oper}{t:TypeId}{x y:Operand}{U:TI}{e:IE}{ks:List Int}{vs:List SV}(I:cf.ty t=some U)(H:o.op=.store t x y)(e1:a.eval x=(SV.dI e ks vs).den ρ β)(G:a.eval y=(s.ev cf.gl y).den ρ β){k:S->T}{Q:T}
  (h:S3 o.dst s U e ks vs (s.ev cf.gl y) k=some Q)(Z:Q.aD p ρ L):∃v W' s',oC P o a W v W'/\ao S0 w0 D cf.ty β ρ s' (a.put o.dst v) W'/\bi s ρ β s' ρ β/\(k s').aD p ρ L:=by
 unfold S3 at h;split at h;rename_i i F;split at h;rename_i E cs C;split at h;rename_i cs' B;split at h;rename_i O;simp only[awF,beq_iff_eq] at O;obtain⟨⟨⟨A,z⟩,w⟩,N⟩:=O;cases h;simp only[T.aD] at Z;obtain⟨M,Z⟩:=Z;rw[MQ z] at M;obtain⟨u,X⟩:=awZ.1 M;obtain⟨r,q⟩:=acs N;obtain⟨g1,n,-⟩:=acq (ρ:=ρ) (β:=β) r B w;obtain⟨i',off,rfl,m,l⟩:=n u X;obtain⟨ag,j⟩:=abp F (EZ X);cases j;obtain⟨V,g⟩:=tX C;have hi:i<s.boxes.length:=(awG.1 (gw.1 V)).1;have f:((s.ev cf.gl y).den ρ β).cells.toList=SV.ap ρ β (s.ev cf.gl y).cells:=amT N;obtain⟨W',d,c⟩:=R.store (P:=P) (v:=s.ev cf.gl y) (off:=off) (J _ _ I) V g A.symm m q f;have b:ao S0 w0 D cf.ty β ρ (s.bI i E cs') a W':=c.cells hi l.symm;refine⟨undef,W',_,.inr ⟨?_,rfl⟩,b.put o.dst (.bj []),abX V _ _,Z⟩;have af:(SV.dI e ks vs).den ρ β=.pointer (some ⟨ad β i,off,none⟩):=by
  simp only[SV.den];rw[MT X rfl];rfl
 simp only[execOp,H,e1,G,af,Sem.run_bind,d,Result.andThen_ok,Sem.run_pure];cases h;cases h;cases h;cases h
def amV{p:Sp}{L:List LC}(R:ao p.S0 p.w0 D cf.ty β ρ s a W)(H:fA p.P cf.ty)(O:dA cf.gl ρ){m:OM}{u:S->Fx->T}{J:Fx}(M:pl ρ J){t:T}(h:vG cf m s u J=some t)(I:t.aD p ρ L):
  ∃v W' ρ' B s' r,oC p.P m.o a W v W'/\ao p.S0 p.w0 D cf.ty B ρ' s' (a.put m.o.dst v) W'/\bi s ρ β s' ρ' B/\pl ρ' r/\(u s' r).aD p ρ' L:=by
 unfold vG at h;split at h;cases h;rename_i V;have V:∀x∈m.o.op.operands.toList,(s.ev cf.gl x).cN=false:=by
  intro x w;cases q:(s.ev cf.gl x).cN;rfl;exact absurd (by simp only[aw9];right;exact axe.2 ⟨x,w,q⟩) V
 split at h
 
 rename_i F Z;cases E:Mm cf m.o.dst s F with
 |none=>rw[E] at h;cases h
 |some s'=>
  rw[E] at h;cases h;obtain⟨v,W',B,U,Q,X⟩:=amG (P:=p.P) R Z E;exact⟨v,W',ρ,B,s',J,U,Q,X,M,I⟩
 rename_i F x y z Z;rw[Z] at V;have e1:=bM R O x (V x (by simp[Op.operands]));have G:=bM R O y (V y (by simp[Op.operands]));have A:=bM R O z (V z (by simp[Op.operands]));split at h;rename_i s' C;cases h;obtain⟨W',U,Q,X⟩:=Nf (P:=p.P) R H C;exact⟨undef,W',ρ,β,s',J,.inr ⟨by simp only[execOp,Z,e1,G,A,Sem.run_bind,U,Result.andThen_ok,Sem.run_pure],rfl⟩,Q,X,M,I⟩;rename_i n l s' C;cases h;obtain⟨W',U,Q,X⟩:=Nf (P:=p.P) R H C;exact⟨undef,W',_,β,s',_,.inr ⟨by simp only[execOp,Z,e1,G,A,Sem.run_bind,U,Result.andThen_ok,Sem.run_pure],rfl⟩,Q,X,CC R X.ext.agree M,I⟩;cases h;rename_i F x y z Z;rw[Z] at V;have e1:=bM R O x (V x (by simp[Op.operands]));have G:=bM R O y (V y (by simp[Op.operands]));have A:=bM R O z (V z (by simp[Op.operands]));split at h;rename_i s' C;cases h;obtain⟨W',U,Q,X⟩:=Nf (P:=p.P) R H C;exact⟨undef,W',ρ,β,s',J,.inr ⟨by simp only[execOp,Z,e1,G,A,Sem.run_bind,U,Result.andThen_ok,Sem.run_pure],rfl⟩,Q,X,M,I⟩;rename_i n l s' C;cases h;obtain⟨W',U,Q,X⟩:=Nf (P:=p.P) R H C;exact⟨undef,W',_,β,s',_,.inr ⟨by simp only[execOp,Z,e1,G,A,Sem.run_bind,U,Result.andThen_ok,Sem.run_pure],rfl⟩,Q,X,CC R X.ext.agree M,I⟩;cases h;rename_i F x Z;rw[Z] at V;have e1:=bM R O x (V x (by simp[Op.operands]));cases E:Mn cf m.o.dst s F (s.ev cf.gl x) with
 |none=>rw[E] at h;cases h
 |some s'=>
  rw[E] at h;cases h;obtain⟨v,W',B,U,Q,X⟩:=amM (P:=p.P) R H Z e1 E;exact⟨v,W',ρ,B,s',J,U,Q,X,M,I⟩
 rename_i x Z;rw[Z] at V;have e1:=bM R O x (V x (by simp[Op.operands]));obtain⟨v,W',ρ',s',U,Q,X,N⟩:=amQ (P:=p.P) rfl R H Z e1 h I;rcases N with⟨rfl,N⟩|N;exact⟨v,W',ρ',β,s',J,U,Q,X,M,N⟩;exact⟨v,W',ρ',β,s',_,U,Q,X,CC R X.ext.agree M,N⟩;rename_i x Z;rw[Z] at V;have e1:=bM R O x (V x (by simp[Op.operands]));obtain⟨v,s',U,Q,X,N⟩:=amR (P:=p.P) R H Z e1 h I;exact⟨v,W,ρ,β,s',J,U,Q,X,M,N⟩;rename_i F x y Z;rw[Z] at V;have e1:=bM R O x (V x (by simp[Op.operands]));have G:=bM R O y (V y (by simp[Op.operands]));split at h;rename_i j e ks vs k w;rw[w] at e1;obtain⟨v,W',s',U,Q,X,N⟩:=amU (P:=p.P) R H k Z e1 G h I;exact⟨v,W',ρ,β,s',J,U,Q,X,M,N⟩;cases h;rename_i op F x y t2 Z;rw[Z] at V;have e1:=bM R O x (V x (by simp[Op.operands]));have G:=bM R O y (V y (by simp[Op.operands]));split at h;obtain⟨v,s',U,Q,X,N⟩:=aco (P:=p.P) R H Z (.inl ⟨rfl,rfl⟩) e1 G h I;exact⟨v,W,ρ,β,s',J,U,Q,X,M,N⟩;obtain⟨v,s',U,Q,X,N⟩:=aco (P:=p.P) R H Z (.inr ⟨rfl,rfl⟩) e1 G h I;exact⟨v,W,ρ,β,s',J,U,Q,X,M,N⟩;cases h;cases h
end
end
section
def Jq(v:Value)(as:List Int)(g:FuncId):Array Value:=(v::(as.map (Value.int .i64)++[.func (.func g) #[] #[]])).toArray
def lJ(P:Program)(ty:Ty)(f g:FuncId)(e:TypeId)(sp:aJ)(X:Bool):Prop:=
 (∀args W,(callFunc f args).run P W=.ok (.enter f args) W)/\∀(W:World)(A:Option Addr)(n cap:Nat)(rows ay:List (List RV))(ρ:aa)(as:List IE)(Z:aJ),sp.fill as=some Z->aT W ty (.sl e) (.mk (.slice A n cap) rows)->Ji W e (aW ty (.sl e)).length A cap->kR ρ Z X rows=some ay->
  Calls P f (Jq (.slice A n cap) (as.map (IE.den ρ)) g) W λV W'=>V=.returned (.tuple #[])/\W.grownBy W' (jp A cap)/\Fg W W' e (aW ty (.sl e)).length (jp A cap) ay A cap
def T6(P:Program)(cf:bc):Prop:=∀f g e sp Z,cf.B8 f g=some (e,sp,Z)->lJ P cf.ty f g e sp Z
def Nh{lt:List RV->List RV->Bool}{x y:List RV}:∀{l:List (List RV)},y∈cQ lt x l<->y=x\/y∈l
 |[]=>by simp[cQ]
 |z::r=>by
  simp only[cQ];split;simp;simp only[awP,Nh (l:=r)];constructor;rintro(h|h|h);exact .inr (.inl h);exact .inl h;exact .inr (.inr h);rintro(h|h|h);exact .inr (.inl h);exact .inl h;exact .inr (.inr h)
def acu{lt:List RV->List RV->Bool}{x:List RV}:∀{l:List (List RV)},(cQ lt x l).length=l.length+1
 |[]=>rfl
 |z::r=>by
  simp only[cQ];split;simp;simp[acu (l:=r)]
def T7{lt:List RV->List RV->Bool}:∀(l acc:List (List RV)),(∀x,x∈l.foldl (λacc x=>cQ lt x acc) acc<->x∈acc\/x∈l)/\(l.foldl (λacc x=>cQ lt x acc) acc).length=acc.length+l.length
 |[],acc=>by simp
 |y::l,acc=>by
  obtain⟨Z,X⟩:=T7 (lt:=lt) l (cQ lt y acc);refine⟨λx=> ?_, ?_⟩;simp only[ax4,Z,Nh,awP];constructor;rintro((h|h)|h);exact .inr (.inl h);exact .inl h;exact .inr (.inr h);rintro(h|h|h);exact .inl (.inr h);exact .inl (.inl h);exact .inr h;simp only[ax4,X,acu,axm];omega
def acv{lt:List RV->List RV->Bool}{l:List (List RV)}{x:List RV}:x∈be lt l<->x∈l:=by
 rw[be,(T7 l []).1];simp
def kC{lt:List RV->List RV->Bool}{l:List (List RV)}:(be lt l).length=l.length:=by
 rw[be,(T7 l []).2];simp
def T9{sp:aJ}{Z:Bool}{rows ay:List (List RV)}(h:dw sp Z rows=some ay):∀x∈ay,x∈rows:=by
 cases sp with
 |co k o as=>simp[dw] at h
 |_=>
  simp only[dw] at h;split at h;cases h;intro x X;exact acv.1 X;cases h
def acw{sp:aJ}{Z:Bool}{rows ay:List (List RV)}(h:dw sp Z rows=some ay):ay.length=rows.length:=by
 cases sp with
 |co k o as=>simp[dw] at h
 |_=>
  simp only[dw] at h;split at h;cases h;exact kC;cases h
def pm{rows:List (List RV)}{a b:Nat}{x:List RV}(h:x∈aF rows a b):x∈rows:=axG (axL h)
def amW(rows:List (List RV))(a b:Nat):(aF rows a b).length=min (b-a) (rows.length-a):=by simp[aF]
def amX{k:Nat}{o:aJ}{as:List Int}{rows ay:List (List RV)}(h:jM k o as rows=some ay):∀x∈ay,x∈rows:=by
 unfold jM at h;split at h
 all_goals first|(split at h<;>first|(cases h;done)|skip)|skip
 all_goals first|(cases h;done)|skip
 all_goals
  cases h;intro x Z;simp only[awR,acv] at Z;rcases Z with Z|Z;exact axL Z
 all_goals
  rcases Z with Z|Z;exact pm Z
  first|exact axG Z|(rcases Z with Z|Z<;>first|exact pm Z|exact axG Z|(rcases Z with Z|Z<;>first|exact pm Z|exact axG Z))
def amY{k:Nat}{o:aJ}{as:List Int}{rows ay:List (List RV)}(h:jM k o as rows=some ay):ay.length=rows.length:=by
 unfold jM at h;split at h
 all_goals first|(split at h<;>first|(cases h;done)|skip)|skip
 all_goals first|(cases h;done)|skip
 all_goals
  rename_i Z;simp only[awF,decide_eq_true_eq] at Z;cases h;simp only[awQ,axJ,axW,amW,kC];omega
def vY{k:Nat}{o:aJ}{as:List Int}{rows ay:List (List RV)}(h:lH k o as rows=some ay):rows.length<=1099511627776/\jM k o as rows=some ay:=by
 unfold lH at h;split at h;rename_i Z;exact⟨Z,h⟩;cases h
def amZ{k:Nat}{o:aJ}{as:List Int}{rows ay:List (List RV)}(h:lH k o as rows=some ay):∀x∈ay,x∈rows:=amX (vY h).2
def am0{k:Nat}{o:aJ}{as:List Int}{rows ay:List (List RV)}(h:lH k o as rows=some ay):ay.length=rows.length:=amY (vY h).2
def Ua{sp:aJ}{X:Bool}{rows ay:List (List RV)}(h:dw sp X rows=some ay):rows.length<=1099511627776:=by
 cases sp with
 |co k o as=>simp[dw] at h
 |_=>
  simp only[dw] at h;split at h;rename_i Z;simp only[awF,decide_eq_true_eq] at Z;exact Z.1;cases h
def am1{ρ:aa}{sp:aJ}{Z:Bool}{rows ay:List (List RV)}(h:kR ρ sp Z rows=some ay):∀x∈ay,x∈rows:=by
 cases sp with
 |co k o as=>exact amZ h
 |lex cs d=>exact T9 (sp:=.lex cs d) h
 |ratio n d=>exact T9 (sp:=.ratio n d) h
def acx{ρ:aa}{sp:aJ}{Z:Bool}{rows ay:List (List RV)}(h:kR ρ sp Z rows=some ay):ay.length=rows.length:=by
 cases sp with
 |co k o as=>exact am0 h
 |lex cs d=>exact acw (sp:=.lex cs d) h
 |ratio n d=>exact acw (sp:=.ratio n d) h
section
variable{S0:List Nat}{w0:World}{D:bw}{P:Program}{cf:bc}{β:List Nat}{ρ:aa}{s:S}{a:Act}{W:World}
def am2{e:TypeId}{rows ay:List (List RV)}(h:dB W cf.ty e rows)(Q:∀x∈ay,x∈rows):dB W cf.ty e ay:=by
 have hi:∀{i:Nat}{row:List RV},ay[i]?=some row->∃Z,rows[Z]?=some row:=λh=>axv (Q _ (aw1 h))
 refine⟨λi row X=> ?_,λi j row c k X U R=> ?_,λi j row c X U R=> ?_,λi j row c z k X U R=> ?_⟩;obtain⟨Z,V⟩:=hi X;exact h.len Z row V;obtain⟨Z,V⟩:=hi X;exact h.int Z j row c k V U R;obtain⟨Z,V⟩:=hi X;exact h.bool Z j row c V U R;obtain⟨Z,V⟩:=hi X;exact h.ar Z j row c z k V U R
def am3{e:TypeId}{rows ay:List (List RV)}(Z:∀x∈ay,x∈rows){b:Nat}(h:j5 cf.ty e ay b):j5 cf.ty e rows b:=by
 obtain⟨i,j,row,c,z,k,X,V,U,R⟩:=h;obtain⟨Q,O⟩:=axv (Z _ (aw1 X));exact⟨Q,j,row,c,z,k,O,V,U,R⟩
def am4{s:S}{a:Act}{W:World}{ρ:aa}{β:List Nat}(R:ao S0 w0 D cf.ty β ρ s a W)(Z:dA cf.gl ρ){o:Oper}{g:FuncId}{args:List SV}(h:cV cf s o=.call (.fn g) args)
  (U:∀args W,(callFunc g args).run P W=.ok (.enter g args) W):(execOp a.eval o).run P W=.ok (.enter g (SV.ap ρ β args).toArray) W:=by
 unfold cV at h;split at h;split at h<;>cases h;rename_i c Q;split at h;rename_i f O;split at h;rename_i I H X;split at h;cases h;rename_i N;cases h;have V:=bM R Z f (by rw[X];rfl);rw[X,SV.den] at V;have M:c.args.map a.eval=(SV.ap ρ β (c.args.toList.map (s.ev cf.gl))).toArray:=by
  apply axD;simp only[axq,lF,axu];exact aw5 λx L=>bM R Z x (by
   cases J:(s.ev cf.gl x).cN;rfl;exact absurd (axe.2 ⟨x,L,J⟩) N)
 simp only[execOp,Q,resolve,O,Sem.run_bind,V,Deferred.ofValue,Sem.run_pure,Result.andThen_ok,invoke,M,MJ];simp only[ayB,U,awX];split at h<;>cases h;cases h;cases h;split at h;split at h<;>cases h;cases h;cases h;cases h
def am5{s:S}{o:Oper}{g:Ca}{args:List SV}(h:cV cf s o=.call g args)(c:Call):o.op≠ .defer c:=by
 intro Z;simp[cV,Z] at h
def acy{ρ:aa}{β:List Nat}:∀{l:List SV}{as:List IE}{g:FuncId},IJ l=some (as,g)->SV.ap ρ β l=(as.map (IE.den ρ)).map (Value.int .i64)++[.func (.func g) #[] #[]]
 |[],as,g,h=>by simp[IJ] at h
 |v::r,as,g,h=>by
  unfold IJ at h;split at h;rename_i R Z;cases h;injection Z with X V;subst X;subst V;simp[SV.ap,SV.den];rename_i e Q Z;injection Z with X V;subst X;subst V;split at h;rename_i x U;cases h;have:=acy (ρ:=ρ) (β:=β) (as:=x.1) (g:=x.2) U;simp[SV.ap,SV.den,this];cases h;cases h
def am6(j:T6 P cf)(R:ao S0 w0 D cf.ty β ρ s a W)(d:dA cf.gl ρ){m:OM}{u:TuI}(h:xE cf m s=some u){ay:List (List RV)}(Z:kR ρ u.sp u.st (u.r.rv ρ).rows=some ay):
  ∃args,(execOp a.eval m.o).run P W=.ok (.enter u.f args) W/\(∀c,m.o.op≠ .defer c)/\Calls P u.f args W λO W'=>O=.returned (.tuple #[])/\ao S0 w0 D cf.ty β (ρ.add (.r (.mk (u.r.rv ρ).val ay))) u.s (a.put m.o.dst (.tuple #[])) W'/\bi s ρ β u.s (ρ.add (.r (.mk (u.r.rv ρ).val ay))) β:=by
 unfold xE at h;split at h;cases h;rename_i G;simp only[aw9,awY,not_or,ax8] at G;have F:=G.2;split at h;rename_i f r rest E;have C:=λc=>am5 E c
 split at h;rename_i as g af;split at h;rename_i e sp sb ag;obtain⟨an,B⟩:=j f g e sp sb ag;have z:(execOp a.eval m.o).run P W=.ok (.enter f (Jq (r.den ρ) (as.map (IE.den ρ)) g)) W:=by
  rw[am4 R d E an];simp only[SV.ap,SV.den,acy af,Jq]
 split at h;rename_i y x;split at h;rename_i k;split at h;rename_i X;cases h;obtain⟨A,n,cap,V,N,h3⟩:=M6 R X;have U:(RE.v k).rv ρ=ρ.rv k:=rfl;simp only[U] at Z⊢;rw[V] at Z;simp only[RV.jl] at Z;have w:=am1 Z;have M:=acx Z;obtain⟨hn,a4⟩:=qr N;refine⟨_,z,C, ?_⟩;have L:(RE.v k).den ρ=.slice A n cap:=by rw[RE.den,U,V];rfl
 rw[L];refine(B W A n cap _ ay ρ as y x N h3 Z).mono ?_;rintro O W' ⟨rfl,J,I⟩;have a0:xX cf.ty β ρ s e ay []:=λb H=>by
  have q:=am3 w H;have p:=Fe (ρ:=ρ) (e0:=.own e) rfl (by simpa[RE.rv] using q);exact⟨⟨k,_,X,p⟩,(R.mem.ref k _ _ X (qu R X)).2 b p,λk' t rv g1 g2 g3=>(Jf R g1 g2 g3 X rfl (by simpa[RE.rv] using q)).elim⟩
 obtain⟨Q,-⟩:=R.bind F (old:=jp A cap) (kill:=[k]) (frz:=[]) (A:=A) (cap:=cap) (W':=W') (.inr ⟨k,e,ρ.rv k,rfl,X,qu R X,by rw[V,Jh]⟩) (by simp) J (am2 (dB.t7 N) w) a0 I;rw[M,hn] at Q;have l:(ρ.rv k).val=.slice A n cap:=by rw[V];rfl
 rw[l];have a1:k<ρ.r.length:=by rw[R.er];exact(awG.1 X).1
 have a2:(ρ.add (.r (.mk (.slice A n cap) ay))).rv k=ρ.rv k:=by simp[aa.rv,aa.add,awI a1]
 have a3:(ρ.add (.r (.mk (.slice A n cap) ay))).rv s.rs.length=.mk (.slice A n cap) ay:=by simp[aa.rv,aa.add,<-R.er]
 have R2:=(Q.fa (k:=k) (n:=s.rs.length) (by rw[a2,a3,l];rfl)).put m.o.dst (.bj []);refine⟨rfl,R2, ?_⟩;refine bi.put (s:=s) (s':=({s with rs:=iQ [] 0 (gj [k] 0 s.rs)++[.own e]}:S).fa k s.rs.length) ⟨oB _ _ _ _,λi hi=> ?_, ?_,awN _⟩ _ _;simp only[S.fa];rw[CB];exact hi;simp[S.fa,Jm];cases h;cases h;have U:(RE.k (.slice none 0 0)).rv ρ=.mk (.slice none 0 0) []:=rfl;simp only[U,RV.jl,RV.jZ] at Z⊢;have M:=acx Z;have h0:ay=[]:=axa (by simpa using M);subst h0;refine⟨_,z,C, ?_⟩;have L:(RE.k (.slice none 0 0)).den ρ=.slice none 0 0:=rfl;rw[L];refine(B W none 0 0 [] [] ρ as y x (xW _ _) ⟨λ_=>rfl,.inl rfl⟩ Z).mono ?_;rintro O W' ⟨rfl,J,I⟩;obtain⟨Q,-⟩:=R.bind F (old:=none) (kill:=[]) (frz:=[]) (A:=none) (cap:=0) (rows:=[]) (W':=W') (.inl ⟨rfl,rfl⟩) (by simp) J (dB.t7 (xW (e:=e) none 0)) (λb H=>(Je H).elim) I;refine⟨rfl,Q.put m.o.dst (.bj []), ?_⟩;exact bi.put (s:=s) (s':={s with rs:=iQ [] 0 (gj [] 0 s.rs)++[.own e]}) ⟨oB _ _ _ _,λ_ h=>h,awN _,awN _⟩ _ _;cases h;cases h;cases h;cases h;cases h
end
end
section
structure mS(F:Fence):Prop where
 fn:∀f,F.fn f
 vZ:F.depth=none
 eq:∀P,Machine.fenced P F=Machine.fenced P Fence.wide
def am7:mS Fence.wide:=⟨λ_=>trivial,rfl,λ_=>rfl⟩
def acz(l:Nat):mS (Fence.wide.inRound l):=⟨λ_=>trivial,rfl,λ_=>rfl⟩
def mS.calls{F:Fence}(Z:mS F){n:Nat}{P:Program}{f:FuncId}{args:Array Value}{w:World}{R:Ending->World->Prop}(h:Calls P f args w R):CallsIn F n P f args w R:=by
 have X:=(callsIn_wide (n:=n)).2 h;refine⟨Z.fn f,λcs _=> ?_⟩;obtain⟨e,W,fr,r,c,x⟩:=X.2 cs (room_wide _);exact⟨e,W,fr,r,by rw[Z.eq];exact c,x⟩
def Ub{p:Sp}{s:S}{ρ:aa}{L:List LC}{W:Fx}{b:BE}{t f:Fx->T}(Z:pl ρ W)(h:(xD s W b t f).aD p ρ L):
  ∃V,pl ρ V/\(if b.den ρ then(t V).aD p ρ L else(f V).aD p ρ L):=by
 unfold xD at h;split at h;rename_i U;exact⟨W,Z,by rw[Nc Z U];exact h⟩;rename_i U;exact⟨W,Z,by rw[Nc Z U];exact h⟩;split at h;simp only[T.aD] at h;cases X:b.den ρ;exact⟨_,ab9 Z X,by simpa[X] using h.2 X⟩;exact⟨_,ab9 Z X,by simpa[X] using h.1 X⟩;exact h.elim
def bU(n:Nat)(L Z:List LC):Prop:=∀l,l<n->kQ l Z=kQ l L
def bU.refl(n:Nat)(L:List LC):bU n L L:=λ_ _=>rfl
def bU.trans{n m:Nat}{L Z X:List LC}(h:bU n L Z)(k:bU m Z X)(V:n<=m):bU n L X:=λl W=>(k l (by omega)).trans (h l W)
def am8(p:Sp)(ρ:aa):Ca->Array Value->World->(Ending->World->Prop)->Prop
 |.fn g,args,W,Z=>(∀args W,(callFunc g args).run p.P W=.ok (.enter g args) W)/\Calls p.P g args W Z
 |.yl n,args,W,Z=>∀(F:Fence)(_:mS F)(m:Nat),YieldAt F m p.P (ρ.y.getD n 0) args W Z
structure jq where
 s:S
 ρ:aa
 β:List Nat
 L:List LC
structure jq.nA(B:jq)(s:S)(ρ:aa)(β:List Nat)(L:List LC):Prop where
 later:bi B.s B.ρ B.β s ρ β
 Ni:bU B.s.al B.L L
def jq.nA.go{B:jq}{s s':S}{ρ ρ':aa}{β Z:List Nat}{L X:List LC}(h:B.nA s ρ β L)(W:bi s ρ β s' ρ' Z)(V:bU s.al L X):B.nA s' ρ' Z X:=⟨h.later.trans W,h.Ni.trans V h.later.al⟩
def acA(p:Sp)(cf:bc)(D:bw)(B:jq)(H:og):Prop:=
 ∀(L:List LC)(g:Ca)(args:List SV)(s:S)(k kp:SV->S->T)(ρ:aa)(β:List Nat)(a:Act)(W:World)(V:Ending->World->Prop),B.nA s ρ β L->
  (H g args s k kp).aD p ρ L->ao p.S0 p.w0 D cf.ty β ρ s a W->dA cf.gl ρ->
  (∀v s' ρ' Z W' X,bi s ρ β s' ρ' Z->bU s.al L X->ao p.S0 p.w0 D cf.ty Z ρ' s' a W'->(k v s').aD p ρ' X->V (.returned (v.den ρ' Z)) W')->
  (∀v s' ρ' Z W' X,bi s ρ β s' ρ' Z->bU s.al L X->ao p.S0 p.w0 D cf.ty Z ρ' s' a W'->(kp v s').aD p ρ' X->V (.panicked [{v:=v.den ρ' Z,recovered:=false}]) W')->
  (∀U W' pd y,cF p.w0 D pd y a.defers W'->p.R (.panicked U) W'->V (.panicked U) W')->
  am8 p ρ g (SV.ap ρ β args).toArray W V
section
variable{p:Sp}{cf:bc}{H:og}{F:Fence}{D:bw}{ops:Array Oper}
def acB{s:S}{a:Act}{W:World}{ρ:aa}{β:List Nat}(R:ao p.S0 p.w0 D cf.ty β ρ s a W){j d:Nat}(X:(ops[j]?).bind (·.dst)=some d):
  (∀b,s.tmps[d]?=some (.bool b)->yielded ops a.tmps j=some (b.den ρ))/\(s.tmps[d]?=some (.bj [])->yielded ops a.tmps j=none):=by
 constructor;intro b Z;rcases R.tmps d _ Z with h|h;cases h;simp[yielded,X,h,SV.den];intro Z;rcases R.tmps d _ Z with h|h;cases h;simp[yielded,X,h,SV.den]
def Nj{s:S}{a:Act}{W:World}{ρ:aa}{β:List Nat}(R:ao p.S0 p.w0 D cf.ty β ρ s a W)(Z:dA cf.gl ρ){o:Oper}{g:FuncId}{args:List SV}(h:cV cf s o=.call (.fn g) args)
  (U:∀args W,(callFunc g args).run p.P W=.ok (.enter g args) W):(execOp a.eval o).run p.P W=.ok (.enter g (SV.ap ρ β args).toArray) W:=by
 unfold cV at h;split at h;split at h<;>cases h;rename_i c Q;split at h;rename_i f O;split at h;rename_i I H X;split at h;cases h;rename_i N;cases h;have V:=bM R Z f (by rw[X];rfl);rw[X,SV.den] at V;have M:c.args.map a.eval=(SV.ap ρ β (c.args.toList.map (s.ev cf.gl))).toArray:=by
  apply axD;simp only[axq,lF,axu];exact aw5 λx L=>bM R Z x (by
   cases J:(s.ev cf.gl x).cN;rfl;exact absurd (axe.2 ⟨x,L,J⟩) N)
 simp only[execOp,Q,resolve,O,Sem.run_bind,V,Deferred.ofValue,Sem.run_pure,Result.andThen_ok,invoke,M,MJ];simp only[ayB,U,awX];split at h<;>cases h;cases h;cases h;split at h;split at h<;>cases h;cases h;cases h;cases h
def acC{s:S}{a:Act}{W:World}{ρ:aa}{β:List Nat}(R:ao p.S0 p.w0 D cf.ty β ρ s a W)(Z:dA cf.gl ρ){o:Oper}{n:Nat}{args:List SV}(h:cV cf s o=.call (.yl n) args):
  (execOp a.eval o).run p.P W=(Instr.yield (ρ.y.getD n 0) (SV.ap ρ β args).toArray).run p.P W:=by
 unfold cV at h;split at h;split at h<;>cases h;rename_i c U;split at h;rename_i f Q;split at h;split at h<;>cases h;rename_i n' X;split at h;cases h;rename_i O;cases h;have V:=bM R Z f (by rw[X];rfl);rw[X,SV.den] at V;have N:c.args.map a.eval=(SV.ap ρ β (c.args.toList.map (s.ev cf.gl))).toArray:=by
  apply axD;simp only[axq,lF,axu];exact aw5 λx M=>bM R Z x (by
   cases L:(s.ev cf.gl x).cN;rfl;exact absurd (axe.2 ⟨x,M,L⟩) O)
 simp[execOp,U,resolve,Q,Sem.run_bind,V,Deferred.ofValue,invoke,N];cases h;cases h;split at h;split at h<;>cases h;cases h;cases h;cases h
def Uc{s:S}{ρ:aa}{β:List Nat}{L:List LC}{e:IE}{O:FuncId->List SV->T}:∀{ks:List Int}{vs:List SV},(zL e O ks vs).aD p ρ L->∃g V,gO (e.den ρ) ks (SV.ap ρ β vs)=.func (.func g) #[] (SV.ap ρ β V).toArray/\(O g V).aD p ρ L
 |[],vs,h=>by simp only[zL] at h;exact h.elim
 |k::ks,[],h=>by simp only[zL] at h;exact h.elim
 |k::ks,v::vs,h=>by
  unfold zL at h;split at h;rename_i N M g V J X W;simp only[axH] at X W;obtain⟨rfl,rfl⟩:=X;obtain⟨rfl,rfl⟩:=W;simp only[T.aD,BE.den,ew,IE.den] at h;by_cases Z:e.den ρ=k;exact⟨g,V,by simp[SV.ap,SV.den,gO,Z,fw],h.1 (by simp[Z])⟩;obtain⟨U,R,Q,P⟩:=Uc (s:=s) (β:=β) (h.2 (by simp[Z]));exact⟨U,R,by simp only[SV.ap,gO,Z,if_false];exact Q,P⟩;rename_i N M J X W;simp only[axH] at X W;obtain⟨rfl,rfl⟩:=X;obtain⟨rfl,rfl⟩:=W;simp only[T.aD,BE.den,ew,IE.den] at h;by_cases Z:e.den ρ=k;exact(h.1 (by simp[Z])).elim;obtain⟨U,R,Q,P⟩:=Uc (s:=s) (β:=β) (h.2 (by simp[Z]));exact⟨U,R,by simp only[SV.ap,gO,Z,if_false];exact Q,P⟩;exact h.elim
def am9{s:S}{a:Act}{W:World}{ρ:aa}{β:List Nat}(R:ao p.S0 p.w0 D cf.ty β ρ s a W)(Z:dA cf.gl ρ){m:OM}{e:IE}{ks:List Int}{vs args X:List SV}{g:FuncId}(h:vH cf m s=some (e,ks,vs,args))
  (M:gO (e.den ρ) ks (SV.ap ρ β vs)=.func (.func g) #[] (SV.ap ρ β X).toArray)(L:∀args W,(callFunc g args).run p.P W=.ok (.enter g args) W):
  (execOp a.eval m.o).run p.P W=.ok (.enter g (SV.ap ρ β (args++X)).toArray) W/\∀c,m.o.op≠ .defer c:=by
 unfold vH at h;split at h;cases h;split at h;rename_i c V;split at h;rename_i f J;split at h;rename_i E C B U;split at h;cases h;rename_i Q;simp only[aw9,not_or] at Q;cases h;have O:=bM R Z f (by rw[U];rfl);rw[U,SV.den,M] at O;have I:c.args.map a.eval=(SV.ap ρ β (c.args.toList.map (s.ev cf.gl))).toArray:=by
  apply axD;simp only[axq,lF,axu];exact aw5 λx H=>bM R Z x (by
   cases G:(s.ev cf.gl x).cN;rfl;exact absurd (axe.2 ⟨x,H,G⟩) Q.1)
 refine⟨?_,λA N=>by rw[V] at N;cases N⟩;simp only[execOp,V,resolve,J,Sem.run_bind,O,Deferred.ofValue,Sem.run_pure,Result.andThen_ok,invoke,I,MJ];simp only[ayB,L,awX];cases h;cases h;cases h
def acD{s:S}{a:Act}{W:World}{ρ:aa}{β:List Nat}(R:ao p.S0 p.w0 D cf.ty β ρ s a W)(U:dA cf.gl ρ){o:Oper}{v:SV}(h:cV cf s o=.aS v):
  (execOp a.eval o).run p.P W=.halt (.panic (v.den ρ β)) W:=by
 unfold cV at h;split at h;rename_i x V;split at h;rename_i t y X;cases h;have Z:=bM R U x (by rw[X];rfl);rw[X] at Z;simp[execOp,V,Z,SV.den,Instr.panic];cases h;rename_i c V;split at h;split at h;split at h<;>cases h;split at h<;>cases h;cases h;cases h;rename_i O;split at h;rename_i x X;split at h;rename_i t y Q;cases h;have Z:=bM R U x (by rw[Q];rfl);rw[Q] at Z;have:c.args.map a.eval= #[a.eval x]:=by apply axD;simp[X]
 simp[execOp,V,resolve,O,invoke,builtin,this,Z,SV.den,Instr.panic];cases h;cases h;cases h;cases h
def xY{n:Nat}{o:Oper}{a:Act}{W W':World}{v:Value}{K:Act->World->Prop}{Q:Exit->Act->World->Prop}(X:mS F)(h:oC p.P o a W v W')(V:∀c,o.op≠ .defer c)(Z:K (a.put o.dst v) W'):o.wpIn F n p.P a W K Q:=by
 refine⟨λf _=>X.fn f, ?_⟩;rw[Oper.semAt_eq _ _ _ V];rcases h with h|⟨h,rfl⟩;rw[h];exact Z;rw[h];exact Z
def Ud{o:Oper}{aY Z:Bool}{s:S}{b:BI}(h:cK cf o aY Z s=some b):∀c,o.op≠ .defer c:=by
 intro c H;simp[cK,H] at h
def ana{m:OM}{s:S}{Z:S->Fx->T}{X:Fx}{t:T}(h:vG cf m s Z X=some t):∀c,m.o.op≠ .defer c:=by
 intro c H;simp[vG,H] at h
def Jr{m:OM}{s s':S}{ρ:aa}(h:(dR cf m s).gives ρ s'):∀c,m.o.op≠ .defer c:=by
 intro c H;unfold dR at h;split at h;exact h.elim;rw[H] at h;simp[bq,oj,OR.gives] at h
def xZ(a4:p.ty=cf.ty)(hsr:T6 p.P cf)(E:mS F)(af:fA p.P cf.ty){B:jq}(hH:acA p cf D B H){n:Nat}{k:S->T}{kp:SV->S->T}{Q:Exit->Act->World->Prop}(HP:∀ch a' W' pd y,cF p.w0 D pd y a'.defers W'->p.R (.panicked ch) W'->Q (.panic ch) a' W'):
  ∀(l:List OM)(j:Nat)(s:S)(fx:Fx)(L:List LC)(ρ:aa)(β:List Nat)(a:Act)(W:World),
   (∀i m,l[i]?=some m->ops[j+i]?=some m.o)->B.nA s ρ β L->
   (kw cf H ops k kp l s fx).aD p ρ L->pl ρ fx->ao p.S0 p.w0 D cf.ty β ρ s a W->dA cf.gl ρ->
   (∀s' ρ' C a' W' w,bi s ρ β s' ρ' C->bU s.al L w->ao p.S0 p.w0 D cf.ty C ρ' s' a' W'->(k s').aD p ρ' w->Q .normal a' W')->
   (∀v s' ρ' C a' W' w,bi s ρ β s' ρ' C->bU s.al L w->ao p.S0 p.w0 D cf.ty C ρ' s' a' W'->(kp v s').aD p ρ' w->Q (.panic [{v:=v.den ρ' C,recovered:=false}]) a' W')->
   wpOpsIn F n p.P ops Q (ax2 j l.length) a W
 |[],j,s,fx,L,ρ,β,a,W,_,_,h,_,R,_,hk,_=>hk s ρ β a W L (bi.refl _ _ _) (bU.refl _ _) R h
 |m::rest,j,s,fx,L,ρ,β,a,W,b3,hB,h,br,R,A,hk,ag=>by
  have ho:ops[j]?=some m.o:=by simpa using b3 0 m rfl
  have a6:∀i m',rest[i]?=some m'->ops[j+1+i]?=some m'.o:=λi m' hi=>by
   have:=b3 (i+1) m' (by simpa using hi)
   rwa [show j+(i+1)=j+1+i by omega] at this
  simp only[axm,ayU,wpOpsIn,ho];have bx:∀z,pl ρ z->
    (vI cf H m s (kw cf H ops k kp rest) kp z).aD p ρ L->
    m.o.wpIn F n p.P a W (wpOpsIn F n p.P ops Q (ax2 (j+1) rest.length)) Q:=by
   intro z an h;unfold vI at h;have bg:∀g args,(H (.fn g) args s (λv s'=>kw cf H ops k kp rest (s'.put m.o.dst v) (lB s z)) kp).aD p ρ L->((∀args W,(callFunc g args).run p.P W=.ok (.enter g args) W)->(execOp a.eval m.o).run p.P W=.ok (.enter g (SV.ap ρ β args).toArray) W)->(∀c,m.o.op≠ .defer c)->
     m.o.wpIn F n p.P a W (wpOpsIn F n p.P ops Q (ax2 (j+1) rest.length)) Q:=by
    intro g args h b0 a7;have hC:=hH L (.fn g) args s _ _ ρ β a W (λe W'=>match e with
      |.returned v=>wpOpsIn F n p.P ops Q (ax2 (j+1) rest.length) (a.put m.o.dst v) W'
      |.panicked ch=>Q (.panic ch) a W'
      |.outgrown=>LetsOut Q) hB h R A
     (λv s' ρ' C W' w Z hL x hs=>xZ a4 hsr E af hH HP rest (j+1) (s'.put m.o.dst v) (lB s z) w ρ' C _ W' a6 (hB.go (Z.put _ _) hL) hs
      (CC R Z.ext.agree an) (x.put m.o.dst v) (A.ext Z.ext)
      (λX V U a2 O N M J I G=>hk X V U a2 O N ((Z.put _ _).trans M) (hL.trans J (Z.put _ _).al) I G)
      (λr X V U a2 O N M J I G=>ag r X V U a2 O N ((Z.put _ _).trans M) (hL.trans J (Z.put _ _).al) I G))
     (λv s' ρ' C W' w Z hL x hs=>ag v s' ρ' C a W' w Z hL x hs)
     (λch W' pd y hA hR=>HP ch a W' pd y hA hR)
    obtain⟨bd,b1⟩:=hC;refine⟨λf _=>E.fn f, ?_⟩;rw[Oper.semAt_eq _ _ _ a7,b0 bd];rw[Oper.uponIn_enter];refine⟨λhd=>by rw[E.vZ] at hd;simp at hd,CallsIn.mono (E.calls b1) (λe W' he=> ?_)⟩;cases e<;>exact he
   split at h;rename_i e ks vs args b4;obtain⟨g,b7,q1,q2⟩:=Uc (s:=s) (β:=β) h;refine bg g (args++b7) q2 (λbd=>(am9 R A b4 q1 bd).1) ?_;intro c a8;simp[vH,a8] at b4;split at h;rename_i u hu;obtain⟨ay,hr,h⟩:=h;obtain⟨args,b0,a7,b1⟩:=am6 hsr R A hu hr;refine⟨λf _=>E.fn f, ?_⟩;rw[Oper.semAt_eq _ _ _ a7,b0];rw[Oper.uponIn_enter];refine⟨λhd=>by rw[E.vZ] at hd;simp at hd,CallsIn.mono (E.calls b1) (λe W' he=> ?_)⟩;obtain⟨rfl,x,Z⟩:=he;exact xZ a4 hsr E af hH HP rest (j+1) u.s (lB s z) L _ β _ W' a6 (hB.go Z (bU.refl _ _)) h (CC R Z.ext.agree an) x (A.ext Z.ext)
    (λX V U a2 O N M J I G=>hk X V U a2 O N (Z.trans M) ((bU.refl _ _).trans J Z.al) I G)
    (λr X V U a2 O N M J I G=>ag r X V U a2 O N (Z.trans M) ((bU.refl _ _).trans J Z.al) I G)
   split at h;rename_i g args bf;exact bg g args h (λbd=>Nj R A bf bd) (λc a8=>by simp[cV,a8] at bf);rename_i yn args bf;split at h;have hC:=hH L (.yl yn) args s _ _ ρ β a W (λe W'=>match e with
    |.returned v=>wpOpsIn F n p.P ops Q (ax2 (j+1) rest.length) (a.put m.o.dst v) W'
    |.panicked ch=>Q (.panic ch) a W'
    |.outgrown=>LetsOut Q) hB h R A
    (λv s' ρ' C W' w Z hL x hs=>xZ a4 hsr E af hH HP rest (j+1) (s'.put m.o.dst v) (lB s z) w ρ' C _ W' a6 (hB.go (Z.put _ _) hL) hs
     (CC R Z.ext.agree an) (x.put m.o.dst v) (A.ext Z.ext)
     (λX V U a2 O N M J I G=>hk X V U a2 O N ((Z.put _ _).trans M) (hL.trans J (Z.put _ _).al) I G)
     (λr X V U a2 O N M J I G=>ag r X V U a2 O N ((Z.put _ _).trans M) (hL.trans J (Z.put _ _).al) I G))
    (λv s' ρ' C W' w Z hL x hs=>ag v s' ρ' C a W' w Z hL x hs)
    (λch W' pd y hA hR=>HP ch a W' pd y hA hR)
   obtain⟨fn,tmps,assign,body,hy,b8⟩:=hC F E (n-1);refine⟨λf _=>E.fn f, ?_⟩;have a7:∀c,m.o.op≠ .defer c:=λc a8=>by simp[cV,a8] at bf
   rw[Oper.semAt_eq _ _ _ a7,acC R A bf,hy];rw[Oper.uponIn_round];refine⟨λhd=>by rw[E.vZ] at hd;simp at hd,RoundIn.mono b8 (λe W' he=> ?_)⟩;cases e<;>exact he;exact h.elim;rename_i v b5;refine⟨λf _=>E.fn f, ?_⟩;have a7:∀c,m.o.op≠ .defer c:=λc a8=>by simp[cV,a8] at b5
   rw[Oper.semAt_eq _ _ _ a7,acD R A b5];exact ag v s ρ β a W L (bi.refl _ _ _) (bU.refl _ _) R h;exact h.elim;have bs:∀s' bt,pl ρ bt->(dR cf m s).gives ρ s'->(kw cf H ops k kp rest s' bt).aD p ρ L->m.o.wpIn F n p.P a W (wpOpsIn F n p.P ops Q (ax2 (j+1) rest.length)) Q:=by
    intro s' bt ca b6 hs;obtain⟨v,W',C,bk,x,Z⟩:=Jj R af A m b6;exact xY E bk (Jr b6) (xZ a4 hsr E af hH HP rest (j+1) s' bt L ρ C _ W' a6 (hB.go Z (bU.refl _ _)) hs ca x A
     (λX V U a2 O N M J I G=>hk X V U a2 O N (Z.trans M) ((bU.refl _ _).trans J Z.al) I G)
     (λr X V U a2 O N M J I G=>ag r X V U a2 O N (Z.trans M) ((bU.refl _ _).trans J Z.al) I G))
   split at h;rename_i t ht;obtain⟨v,W',ρ',C,s',a0,bk,x,Z,a1,h2⟩:=amV R af A an ht h;exact xY E bk (ana ht) (xZ a4 hsr E af hH HP rest (j+1) s' a0 L ρ' C _ W' a6 (hB.go Z (bU.refl _ _)) h2 a1 x (A.ext Z.ext)
    (λX V U a2 O N M J I G=>hk X V U a2 O N (Z.trans M) ((bU.refl _ _).trans J Z.al) I G)
    (λr X V U a2 O N M J I G=>ag r X V U a2 O N (Z.trans M) ((bU.refl _ _).trans J Z.al) I G))
   split at h;rename_i b hb;obtain⟨hn,h⟩:=h;obtain⟨v,W',rv,bk,cc,x,Z⟩:=TW R af A hb hn;exact xY E bk (Ud hb) (xZ a4 hsr E af hH HP rest (j+1) b.s (lB s z) L _ β _ W' a6 (hB.go Z (bU.refl _ _)) (h rv (by rw[a4];exact cc)) (CC R Z.ext.agree an) x (A.ext Z.ext)
    (λX V U a2 O N M J I G=>hk X V U a2 O N (Z.trans M) ((bU.refl _ _).trans J Z.al) I G)
    (λr X V U a2 O N M J I G=>ag r X V U a2 O N (Z.trans M) ((bU.refl _ _).trans J Z.al) I G))
   split at h;rename_i s' a9;exact bs s' z an (by rw[a9];rfl) h;rename_i b s' a9;exact bs s' z an (by rw[a9];exact⟨h.1,rfl⟩) h.2;rename_i b s1 X a9;obtain⟨a0,a1,h2⟩:=Ub an h;cases hb:b.den ρ;exact bs X a0 a1 (by rw[a9];simp[OR.gives,hb]) (by simpa[hb] using h2);exact bs s1 a0 a1 (by rw[a9];simp[OR.gives,hb]) (by simpa[hb] using h2);exact h.elim
  have b2:∀z,pl ρ z->(kw cf H ops k kp rest (s.put m.o.dst (.bj [])) z).aD p ρ L->wpOpsIn F n p.P ops Q (ax2 (j+1) rest.length) (a.put m.o.dst undef) W:=
   λz an h=>xZ a4 hsr E af hH HP rest (j+1) _ z L ρ β _ W a6 (hB.go ((bi.refl _ _ _).put _ _) (bU.refl _ _)) h an (R.put m.o.dst (.bj [])) A
    (λX V U a2 O N M J I G=>hk X V U a2 O N (((bi.refl _ _ _).put _ _).trans M) ((bU.refl _ _).trans J ((bi.refl s ρ β).put _ _).al) I G)
    (λr X V U a2 O N M J I G=>ag r X V U a2 O N (((bi.refl _ _ _).put _ _).trans M) ((bU.refl _ _).trans J ((bi.refl s ρ β).put _ _).al) I G)
  simp only[kw,Mt] at h;cases a5:m.o.guard with
  |none=>
   rw[a5] at h;have:Region.wanted m.o (yielded ops a.tmps)=true:=by simp[Region.wanted,a5]
   rw[if_pos this];exact bx fx br h
  |some q=>
   obtain⟨jj,cl⟩:=q;rw[a5] at h;simp only at h;split at h;rename_i d hd;have hy:=acB R hd;split at h;rename_i b hb;have bb:=hy.1 b hb;cases cl;simp only[aw0,if_false] at h;obtain⟨a0,a1,h2⟩:=Ub br h;cases a3:b.den ρ;have:Region.wanted m.o (yielded ops a.tmps)=true:=by simp[Region.wanted,a5,bb,a3]
   rw[if_pos this];exact bx a0 a1 (by simpa[a3] using h2);have:¬Region.wanted m.o (yielded ops a.tmps)=true:=by simp[Region.wanted,a5,bb,a3]
   rw[if_neg this];exact⟨λf _=>E.fn f,b2 a0 a1 (by simpa[a3] using h2)⟩;simp only[if_true] at h;obtain⟨a0,a1,h2⟩:=Ub br h;cases a3:b.den ρ;have:¬Region.wanted m.o (yielded ops a.tmps)=true:=by simp[Region.wanted,a5,bb,a3]
   rw[if_neg this];exact⟨λf _=>E.fn f,b2 a0 a1 (by simpa[a3] using h2)⟩;have:Region.wanted m.o (yielded ops a.tmps)=true:=by simp[Region.wanted,a5,bb,a3]
   rw[if_pos this];exact bx a0 a1 (by simpa[a3] using h2);rename_i hb;have bb:=hy.2 hb;have:¬Region.wanted m.o (yielded ops a.tmps)=true:=by simp[Region.wanted,a5,bb]
   rw[if_neg this];exact⟨λf _=>E.fn f,b2 fx br h⟩;exact h.elim;exact h.elim
end
end
section
section
variable{S0:List Nat}{w0:World}{D:bw}{ty:Ty}{β:List Nat}{ρ:aa}{s:S}{a:Act}{W:World}
def Nk(Z:List Nat):∀(l:aX)(n i:Nat),(nl Z n l)[i]?=(l[i]?).map λx=>if Z.contains (n+i) then x else none
 |[],n,i=>by simp[nl]
 |x::xs,n,0=>by simp[nl]
 |x::xs,n,i+1=>by
  simp only[nl,axh];rw[Nk Z xs (n+1) i,show n+1+i=n+(i+1) by omega]
def Ue:∀(l:aX)(i:Nat),bA (qg l) i=bA l i
 |[],i=>rfl
 |x::xs,i=>by
  have Z:=Ue xs;simp only[qg];split;rename_i X;cases i with
  |zero=>simp[bP]
  |succ i=>
   have:=Z i;rw[X] at this;simpa[bP] using this
  cases i with
  |zero=>simp[bP]
  |succ i=>simpa[bP] using Z i
def acE{X:List Nat}{l:aX}{i:Nat}{b:TypeId×List SV}(h:bA (qg (nl X 0 l)) i=some b):bA l i=some b:=by
 rw[Ue,gw,Nk] at h;rw[gw];cases Z:l[i]? with
 |none=>rw[Z] at h;cases h
 |some x=>
  rw[Z] at h;simp only[awO,awJ] at h;split at h;rw[h];cases h
def Nl{Z:List Nat}{l:aX}{i:Nat}(h:aA (qg (nl Z 0 l)) i=true):aA l i=true:=by
 obtain⟨b,X⟩:=awZ.1 h;simp[aA,acE X]
def gP.Ti{bx:aX}{rs:List RK}(R:gP S0 w0 β ρ bx ty rs W)(V:List Nat):gP S0 w0 β ρ (qg (nl V 0 bx)) ty rs W:=
 ⟨R.base,λi h=>R.own i (Nl h),λi j Z X=>R.inj i j (Nl Z) (Nl X),λi t cs h=>R.box i t cs (acE h),
  λk e rv Z X=>⟨(R.ref k e rv Z X).1,λb U i hi=>(R.ref k e rv Z X).2 b U i (Nl hi)⟩⟩
def acF{l:aX}{n i:Nat}{b:TypeId×List SV}(h:bA (qg (l.take n)) i=some b):bA l i=some b:=by
 rw[Ue,gw,axc] at h;rw[gw];split at h;exact h;cases h
def Nn{l:aX}{n i:Nat}(h:aA (qg (l.take n)) i=true):aA l i=true:=by
 obtain⟨b,Z⟩:=awZ.1 h;simp[aA,acF Z]
def gP.take{bx:aX}{rs:List RK}(R:gP S0 w0 β ρ bx ty rs W)(n:Nat):gP S0 w0 β ρ (qg (bx.take n)) ty rs W:=
 ⟨R.base,λi h=>R.own i (Nn h),λi j Z X=>R.inj i j (Nn Z) (Nn X),λi t cs h=>R.box i t cs (acF h),
  λk e rv Z X=>⟨(R.ref k e rv Z X).1,λb V i hi=>(R.ref k e rv Z X).2 b V i (Nn hi)⟩⟩
def sc:∀(ks:List LK)(s:S),(s.bz ks).2.boxes=s.boxes/\(s.bz ks).2.tmps=s.tmps/\(s.bz ks).2.al=s.al/\(s.bz ks).2.lk=s.lk
 |[],s=>⟨rfl,rfl,rfl,rfl⟩
 |k::ks,s=>by
  simp only[S.bz];obtain⟨Z,X,V,U⟩:=sc ks (s.fresh k).2;cases k<;>exact⟨Z,X,V,U⟩
def Uf:∀(ks:List LK)(s:S),(s.bz ks).2.pd=s.pd
 |[],s=>rfl
 |k::ks,s=>by
  simp only[S.bz];rw[Uf ks (s.fresh k).2];cases k<;>rfl
def Fm:∀(xs:List XV)(ρ:aa),(ρ.ext xs).y=ρ.y
 |[],ρ=>rfl
 |x::xs,ρ=>by
  simp only[aa.ext];rw[Fm xs (ρ.add x)];cases x<;>rfl
def acG:∀(ks:List LK)(s:S)(k:Nat)(e:RK),s.rs[k]?=some e->(s.bz ks).2.rs[k]?=some e
 |[],s,k,e,h=>h
 |q::ks,s,k,e,h=>by
  simp only[S.bz];refine acG ks _ k e ?_;cases q;exact h;exact h;simp only[S.fresh];rw[awI (awG.1 h).1];exact h
def ud:∀(ks:List LK)(xs:List XV)(s:S)(ρ:aa),cR ks xs->ρ.i.length=s.ni->ρ.b.length=s.nb->ρ.r.length=s.rs.length->
  (ρ.ext xs).i.length=(s.bz ks).2.ni/\(ρ.ext xs).b.length=(s.bz ks).2.nb/\(ρ.ext xs).r.length=(s.bz ks).2.rs.length
 |[],[],s,ρ,_,Z,X,V=>⟨Z,X,V⟩
 |[],_::_,_,_,h,_,_,_=>by simp[cR] at h
 |_::_,[],_,_,h,_,_,_=>by simp[cR] at h
 |k::ks,x::xs,s,ρ,h,Z,X,V=>by
  obtain⟨R,U⟩:=h;simp only[S.bz,aa.ext];cases k<;>cases x<;>simp[nx] at R;exact ud ks xs _ _ U (by simp[S.fresh,aa.add,Z]) (by simp[S.fresh,aa.add,X]) (by simp[S.fresh,aa.add,V]);exact ud ks xs _ _ U (by simp[S.fresh,aa.add,Z]) (by simp[S.fresh,aa.add,X]) (by simp[S.fresh,aa.add,V]);exact ud ks xs _ _ U (by simp[S.fresh,aa.add,Z]) (by simp[S.fresh,aa.add,X]) (by simp[S.fresh,aa.add,V])
def CD{PP:RK->RV->Prop}:∀(ks:List LK)(xs:List XV)(s:S)(ρ:aa),cR ks xs->ρ.r.length=s.rs.length->
  (∀(q:Nat)(e:RK)(rv:RV),ks[q]?=some (.ref e)->xs[q]?=some (.r rv)->PP e rv)->(∀(k:Nat)(e:RK)(rv:RV),s.rs[k]?=some e->ρ.r[k]?=some rv->PP e rv)->
  ∀(k:Nat)(e:RK)(rv:RV),(s.bz ks).2.rs[k]?=some e->(ρ.ext xs).r[k]?=some rv->PP e rv
 |[],[],s,ρ,_,_,_,V=>V
 |[],_::_,_,_,h,_,_,_=>by simp[cR] at h
 |_::_,[],_,_,h,_,_,_=>by simp[cR] at h
 |k::ks,x::xs,s,ρ,h,U,O,V=>by
  obtain⟨R,Q⟩:=h;have P:∀(q:Nat)(e:RK)(rv:RV),ks[q]?=some (.ref e)->xs[q]?=some (.r rv)->PP e rv:=λq e rv Z X=>O (q+1) e rv (by simpa using Z) (by simpa using X)
  simp only[S.bz,aa.ext];cases k<;>cases x<;>simp[nx] at R;exact CD ks xs _ _ Q (by simp[S.fresh,aa.add,U]) P (by simpa[S.fresh,aa.add] using V);exact CD ks xs _ _ Q (by simp[S.fresh,aa.add,U]) P (by simpa[S.fresh,aa.add] using V);rename_i e0 N;refine CD ks xs _ _ Q (by simp[S.fresh,aa.add,U]) P ?_;intro k e rv Z X;simp only[S.fresh,aa.add] at Z X;by_cases R:k<s.rs.length;rw[awI R] at Z;rw[awI (by omega)] at X;exact V k e rv Z X;have M:k=s.rs.length:=by
   have:=(awG.1 Z).1;simp at this;omega
  subst M;simp at Z;rw[<-U] at X;simp at X;subst Z X;exact O 0 e0 N rfl rfl
def z8:List LK->Nat
 |[]=>0
 |.ref _::ks=>z8 ks+1
 |_::ks=>z8 ks
def Fo:∀(ks:List LK)(xs:List XV)(s:S)(ρ:aa),cR ks xs->ρ.r.length=s.rs.length->
  ∀(k:Nat)(e:RK)(rv:RV),(s.bz ks).2.rs[k]?=some e->(ρ.ext xs).r[k]?=some rv->(s.rs[k]?=some e/\ρ.r[k]?=some rv)\/∃q:Nat,ks[q]?=some (.ref e)/\xs[q]?=some (.r rv)/\k=s.rs.length+z8 (ks.take q)
 |[],[],s,ρ,_,_,k,e,rv,X,V=>.inl ⟨X,V⟩
 |[],_::_,_,_,h,_,_,_,_,_,_=>by simp[cR] at h
 |_::_,[],_,_,h,_,_,_,_,_,_=>by simp[cR] at h
 |O::ks,x::xs,s,ρ,h,Q,k,e,rv,X,V=>by
  obtain⟨N,P⟩:=h;simp only[S.bz,aa.ext] at X V;cases O<;>cases x<;>simp[nx] at N;rcases Fo ks xs _ _ P (by simp[S.fresh,aa.add,Q]) k e rv X V with Z|⟨q,Z⟩;exact .inl (by simpa[S.fresh,aa.add] using Z);exact .inr ⟨q+1,by simpa[S.fresh,z8] using Z⟩;rcases Fo ks xs _ _ P (by simp[S.fresh,aa.add,Q]) k e rv X V with Z|⟨q,Z⟩;exact .inl (by simpa[S.fresh,aa.add] using Z);exact .inr ⟨q+1,by simpa[S.fresh,z8] using Z⟩;rename_i e0 J;rcases Fo ks xs _ _ P (by simp[S.fresh,aa.add,Q]) k e rv X V with⟨U,R⟩|⟨q,Z⟩;simp only[S.fresh,aa.add] at U R;by_cases M:k<s.rs.length;rw[awI M] at U;rw[awI (by omega)] at R;exact .inl ⟨U,R⟩;have L:k=s.rs.length:=by
   have:=(awG.1 U).1;simp at this;omega
  subst L;simp at U;rw[<-Q] at R;simp at R;subst U R;exact .inr ⟨0,rfl,rfl,by simp[z8]⟩;refine .inr ⟨q+1,by simpa using Z.1,by simpa using Z.2.1, ?_⟩;have:=Z.2.2;simp[S.fresh] at this;simp[z8];omega
def acH:∀{ks:List LK}{q:Nat}{e:RK},ks[q]?=some (.ref e)->IK ks=true
 |[],q,e,h=>by simp at h
 |k::ks,0,e,h=>by simp at h;subst h;rfl
 |k::ks,q+1,e,h=>by
  have:=acH (ks:=ks) (q:=q) (by simpa using h);cases k<;>first|exact this|rfl
def No:∀{ks:List LK}{q:Nat}{k:LK},me ks=true->ks[q]?=some k->Cj k=true
 |[],q,k,_,h=>by simp at h
 |X::ks,0,k,Z,h=>by simp only[me,awF] at Z;simp at h;subst h;exact Z.1
 |X::ks,q+1,k,Z,h=>by simp only[me,awF] at Z;exact No Z.2 (by simpa using h)
def Ug{B:Nat}{old:Nat->Prop}:∀{ks:List LK}{xs:List XV},EV ty W B old ks xs->∀(q:Nat)(e:RK)(rv:RV),ks[q]?=some (.ref e)->xs[q]?=some (.r rv)->aT W ty e rv/\∀b,cn ty e rv b->B<=b\/old b
 |[],xs,_,q,e,rv,Z,_=>by simp at Z
 |_::_,[],_,q,e,rv,_,X=>by simp at X
 |k::ks,x::xs,h,0,e,rv,Z,X=>by simp at Z X;subst Z X;exact h.1
 |k::ks,x::xs,h,q+1,e,rv,Z,X=>Ug h.2 q e rv (by simpa using Z) (by simpa using X)
def ao.called{W':World}(R:ao S0 w0 D ty β ρ s a W)(I:s.bd=true){ks:List LK}(C:me ks=true){xs:List XV}(P:cR ks xs)(H:Below W.heap.size W W'){old:Nat->Prop}(B:∀b,old b->ρ.mg ty s.rs b/\∀(k:Nat)(e:TypeId)(rv:RV),s.rs[k]?=some (.own e)->ρ.r[k]?=some rv->rv.iC=some b->IK ks=false)
  (A:EV ty W' W.heap.size old ks xs):
  ao S0 w0 D ty β (ρ.ext xs) (s.bz ks).2 a W':=by
 obtain⟨e1,z,e3,e4⟩:=sc ks s;obtain⟨l1,v,u⟩:=ud ks xs s ρ P R.ei R.eb R.er;obtain⟨o,n⟩:=R.tY I;have y:=xT s.boxes ρ xs β;have X:=R.mem.below H;refine⟨⟨X.base,by rw[e1];exact X.own,by rw[e1];exact X.inj, ?_, ?_⟩,by rw[e1];exact R.dX,l1,v,u,by rw[Fm,Uf];exact R.bT.below H,by rw[z];exact R.size, ?_, ?_⟩;rw[e1];intro i t cs h;rw[y.b9 (oz n h)];exact X.box i t cs h;rw[e1];refine CD (PP:=λe rv=>aT W' ty e rv/\∀b,cn ty e rv b->∀i,aA s.boxes i=true->ad β i≠b) ks xs s ρ P R.er ?_ (λk e rv Z V=>X.ref k e rv Z V);intro q e rv Z V;obtain⟨O,m⟩:=Ug A q e rv Z V;refine⟨O,λb I i hi=> ?_⟩;rcases m b I with U|U;have:=R.mem.lt hi;omega;obtain⟨⟨k,N,x,l⟩,-⟩:=B b U;exact(R.mem.ref k _ _ x (qu R x)).2 b l i hi;rw[z];intro t j h;rcases R.tmps t j h with Z|Z;exact .inl Z;right;rw[y.den (qn o h)];exact Z;rw[e1];intro k e rv b Z V O;rcases Fo ks xs s ρ P R.er k _ rv Z V with⟨M,G⟩|⟨q,M,G,-⟩;have t:=R.cO k e rv b M G O;have L:=t.world (H.block b t.lt);refine⟨L.own,L.mem,L.box,λw N F g f d J=> ?_,L.inner⟩;rcases Fo ks xs s ρ P R.er w N F f d with⟨Q,E⟩|⟨q,Q,E,-⟩;exact t.alone w N F g Q E J;have c:=acH Q;obtain⟨p3,p4⟩:=Ug A q N F Q E;rcases J with J|⟨⟨t0,rfl⟩,_⟩;rcases p4 b J with U|U;have:=t.lt;omega;have:=(B b U).2 k e rv M G O;rw[c] at this;cases this;have:=No C Q;simp[Cj] at this;have:=No C M;simp[Cj] at this
def acI(R:ao S0 w0 D ty β ρ s a W){args:List SV}{ks:List LK}{b:Nat}(h:ρ.mg ty (IM args s.rs) b):
  ρ.mg ty (xH args ks s.rs) b/\∀(k:Nat)(e:TypeId)(rv:RV),(xH args ks s.rs)[k]?=some (.own e)->ρ.r[k]?=some rv->rv.iC=some b->IK ks=false:=by
 obtain⟨X,e0,Z,O⟩:=h;unfold IM at Z;rw[TF] at Z;cases V:s.rs[X]? with
 |none=>rw[V] at Z;cases Z
 |some x=>
  rw[V] at Z;simp only[axf,awO,awJ] at Z;have N:=abQ ((IL args s.rs.length).contains X) x;rw[Z] at N;have U:cn ty x (ρ.rv X) b:=O.j9 N;refine⟨?_,λk e rv Q J I=> ?_⟩;unfold xH;split;refine⟨X,tO ((IL args s.rs.length).contains X) x,by rw[Fb,V];simp, ?_⟩;cases x<;>simp only[tO]<;>try exact U
  split;cases U with
  |own e rv b U=>exact U
  exact U;exact⟨X,x,V,U⟩;unfold xH at Q;split at Q;rename_i M;exfalso;obtain⟨P,H⟩:=TM Q;by_cases L:X=k;subst L;rw[V] at P;cases P;simp only[IC] at Z;rw[if_neg (by simpa using H)] at Z;subst Z;cases O;exact(R.cO k e rv b P J I).alone X x (ρ.rv X) L V (qu R V) (.inl U);rename_i M;simpa using M
def Aa(args:List SV)(ks:List LK)(rs:List RK):mh rs (xH args ks rs):=by
 unfold xH;split;exact MX _ _;exact mh.refl _
end
section
variable{p:Sp}{cf:bc}
def anb(O:p.ty=cf.ty)(I:∀g,(cf.sig g).isSome=true->∀args W,(callFunc g args).run p.P W=.ok (.enter g args) W)
  (D:bw)(L:List LC)(g:FuncId)(args:List SV)(s:S)(k:SV->S->T)(ρ:aa)(β:List Nat)(a:Act)(W:World)(U:Ending->World->Prop)
  (h:(vL cf g args s k).aD p ρ L)(R:ao p.S0 p.w0 D cf.ty β ρ s a W)
  (H:∀v s' ρ' Q W' N,bi s ρ β s' ρ' Q->bU s.al L N->ao p.S0 p.w0 D cf.ty Q ρ' s' a W'->(k v s').aD p ρ' N->U (.returned (v.den ρ' Q)) W')
  (G:∀X W' pd y,cF p.w0 D pd y a.defers W'->p.R (.panicked X) W'->U (.panicked X) W'):
  (∀args W,(callFunc g args).run p.P W=.ok (.enter g args) W)/\Calls p.P g (SV.ap ρ β args).toArray W U:=by
 unfold vL at h;split at h;rename_i u F;refine⟨I g (by rw[F];rfl), ?_⟩;split at h;rename_i ks t;split at h;rename_i l r;split at h;rename_i Z;simp only[S.cU,awF] at Z;obtain⟨Z,E⟩:=Z;simp only[T.aD] at h;have:=h ρ.y β W (by rw[O];exact(R.mem.Ti _).j9 (abR _ _));refine this.mono ?_;intro e W' V;cases e with
 |returned v=>
  obtain⟨xs,C,M,B,J,A⟩:=V;rw[O] at J;obtain⟨e1,q,z,o⟩:=sc ks (s.cut args ks);have x:(ρ.ext xs).at ρ.y=ρ.ext xs:=by have:=Fm xs ρ;unfold aa.at;rw[<-this]
  rw[x] at M;subst M;have w:ao p.S0 p.w0 D cf.ty β ρ (s.cut args ks) a W:=R.j9 (Aa args ks s.rs);exact H _ _ _ β W' L ⟨xT _ _ _ _,by rw[e1];exact λ_ h=>h,by rw[e1];exact awN _,by rw[z];exact awN _⟩ (bU.refl _ _) (w.called (Jg Z.1 (Aa args ks s.rs).len) E C B (λb Z=>acI R Z) J) A
 |panicked X=>exact G X W' _ _ (R.bT.below V.1) V.2
 |outgrown=>exact V.elim
 exact h.elim;exact h.elim;exact h.elim;exact h.elim
def Uh{S0:List Nat}{w0:World}{D:bw}{β:List Nat}{ρ:aa}{s:S}{a:Act}{W:World}(R:ao S0 w0 D cf.ty β ρ s a W)(V:fA p.P cf.ty)(f:ResultVar->Sem Value)(U:∀t,f (.tmp t)=pure (a.tmps.getD t undef))(Q:∀x t,f (.cell x t)=(asAddr (a.tmps.getD x undef)>>=λy=>loadVar t y)):
  ∀(rs:List ResultVar)(l:List SV),o7 cf s rs=some l->(rs.mapM f).run p.P W=.ok (SV.ap ρ β l) W
 |[],l,h=>by simp[o7] at h;subst h;rfl
 |.tmp t::rs,l,h=>by
  simp only[o7] at h;split at h;rename_i O N;split at h;cases h;rename_i J;cases h;have X:=bM (gl:=[]) R (λ_ Z=>by cases Z) (.tmp t) (by simpa[S.ev,ng] using J);simp only[Act.eval,S.ev,ng] at X;simp only[azV,Sem.run_bind,U,Sem.run_pure,Result.andThen_ok,Uh R V f U Q rs O N,SV.ap,X];cases h
 |.cell x t::rs,l,h=>by
  simp only[o7] at h;split at h;rename_i O i off C N Z I;split at h;rename_i H cs M;split at h;rename_i v G;cases h;have X:=bM (gl:=[]) R (λ_ Z=>by cases Z) (.tmp x) (by simp only[S.ev,ng,Z];rfl);simp only[Act.eval,S.ev,ng,Z,SV.den] at X;have L:=MN (P:=p.P) (W:=W) (V _ _ I) (ρ:=ρ) (β:=β) (b:=ad β i) (base:=0) G (λj y F=>by
   obtain⟨M,E⟩:=tX M;have:=R.mem.box i H cs M;rw[qo E] at this;simp[World.cell?,this,ou,F])
  simp only[Instr.loadAt,Instr.sureAddr,axf,Sem.run_bind,Sem.run_pure,Result.andThen_ok] at L;simp only[azV,Sem.run_bind,Q,X,asAddr,Sem.run_pure,Result.andThen_ok,L,Uh R V f U Q rs O N,SV.ap];cases h;cases h;cases h
def Js{S0:List Nat}{w0:World}{D:bw}{β:List Nat}{ρ:aa}{s:S}{a:Act}{W:World}(R:ao S0 w0 D cf.ty β ρ s a W)(Z:fA p.P cf.ty){fn:Func}{l:List SV}(h:o7 cf s fn.results.toList=some l):
  (results fn a.tmps).run p.P W=.ok ((one l).den ρ β) W:=by
 unfold results;rw[azD];simp only[Sem.run_bind,Sem.run_map];rw[Uh R Z _ (λ_=>rfl) (λ_ _=>rfl) fn.results.toList l h];simp only[Result.andThen_ok,Sem.run_pure];congr 1
 match l with
 |[]=>rfl
 |[v]=>rfl
 |v::w::r=>rfl
end
end
end
end Go.Proofs.YtieaiocljdpebaaGreatDoor.Y
