/- Part 7 of the proof; the last part says what is shown. -/
import Derived.Test.YtieaiocljdpebaaGreatDoorQ6
set_option linter.all false
open Bool renaming and_eq_true->ayz,false_eq_true->ayV
open List renaming getElem?_eq_getElem->ayB,getD_eq_getElem?_getD->ayC,getElem?_append_left->ayD,mem_cons->ayK,mem_append->ayL,map_cons->ayO,cons_append->ayP,range->ayQ,nil_append->ayU,mem_of_getElem?->ayW,pairwise_cons->ayY,length_cons->azn,length_eq_zero_iff->azw,mem_range->azz,nodup_append->azA,map_nil->azT,nodup_cons->aAj,length_erase_of_mem->aAW,range_succ_eq_map->aA1,mem_erase_of_ne->aBc,pairwise_singleton->aBF,length_pos_of_mem->aBO
open Nat renaming zero_le->aAq
open List.Pairwise renaming nil->azu
open Int renaming toNat_natCast->azN,tdiv_eq_ediv_of_nonneg->aBr
namespace Go.Proofs.YtieaiocljdpebaaGreatDoor.Y
open Go.RowKit
noncomputable section
section
section
variable{R:aQ->Prop}{w:List LK}{t:T}{O:aa}{L:List PC}
variable(W D A B C u:Int)(a d j m s:RV)
def Aft:Prop:=∀(X V U Q P N M J I H G F E:Int)(c:Nat->Int)(p q r:Int)(b:Bool),∃o,TB.Ev 227 ([.i X,.i V,.i U,.i Q,.i P,.i N,.i M,.i J,.i I,.i H,.i G,.i F,.i E]++ja c++[.i p,.i q,.i r,.b b]) o/\∃Z,o=.ret Z/\dj (kI 14) Z=true
set_option maxHeartbeats 4000000 in
def Ie:Aft:=by
 intro G F E z y x w v u s o n m c p q r b;refine eS rfl rfl (.inl rfl) ?_;by_cases Z:c 4=1\/c 4=2\/c 4=3\/c 4=4\/c 4=5\/c 4=6\/c 4=7\/c 4=8\/c 4=9
 ·rcases Z with h|h|h|h|h|h|h|h|h
  all_goals
   simp(config:={maxSteps:=10000000}) [H5,ja,h]
   try
    (repeat'(first|intro _|split)
     all_goals
      have X:aP .sub .i64 (c 5) 1=c 5-1:=by simp only[aP];exact ef (by omega) (by omega)
      have V:aP .add .i64 (c 5) 1=c 5+1:=by simp only[aP];exact ef (by omega) (by omega)
      simp only[X,V] at*
      first|omega|(exfalso;omega))
 simp only[not_or] at Z;obtain⟨U,Q,P,N,M,J,k7,I,H⟩:=Z;simp(config:={maxSteps:=10000000}) [H5,ja,U,Q,P,N,M,J,k7,I,H]
def If:∀{n:Nat}{ys:List XV},dj (kI n) ys=true->∃f:Nat->Int,ys=(ayQ n).map λk=>.i (f k)
 |0,[],_=>⟨λ_=>0,rfl⟩
 |0,_::_,h=>by simp at h
 |n+1,[],h=>by simp at h
 |n+1,y::ys,h=>by
  simp only[Ic,dj,ayz] at h;obtain⟨f,Z⟩:=If (n:=n) (ys:=ys) h.2;cases y<;>simp only[F2,ayV,false_and] at h;rename_i x;refine⟨λk=>match k with
   |0=>x
   |k+1=>f k, ?_⟩
  rw[Z,aA1];simp
def SH(U:xl)(M:Aft)(h:gH a d j m s)(be ai:Int)(J I H G F E z y x w q p n:Int)(r:RV)(k:Sl r):∃o,TB.Ev 89 (wk W D A B C u a d j m s++[.i be,.i ai,.i J,.i I,.i H,.i G,.i F,.i E,.i z,.i y,.i x,.i w,.i q,.i p,.i n,.r r]) o/\∃Z,o=.ret Z/\dj (kI 14) Z=true:=by
 refine eS rfl rfl (.inl rfl) ?_;have Q:=Ib W D A B C u a d j m s U h be ai;have P:=(xo W D A B C u a d j m s U h).2;have c:=LL W D A B C u a d j m s (be:=be) (ai:=ai) P;have hk:=LJ W D A B C u a d j m s (be:=be) (ai:=ai) P;simp only[wk,ayP,ayU] at Q;generalize ep W D A B C u a d j m s be ai=l at*;generalize kW W D A B C u a d j m s be ai=e at*;obtain⟨o,h2,v,b,rfl,h3,h4⟩:=SE l r k c hk;simp[Ss,wk,bC Q,bC h2];intro _ _ hb;have hv:v.length<=4096:=by have:=(h4 hb).1;omega
 refine di v.length (λi N=>dj (kI 26) N=true) ⟨0,rfl,by omega,rfl⟩ ?_;rintro i N X ab;obtain⟨f,rfl⟩:=If ab;rw[show ayQ 26=[0,1,2,3,4,5,6,7,8,9,10,11,12,13,14,15,16,17,18,19,20,21,22,23,24,25] from rfl];simp;intro X;obtain⟨o,V,Z,rfl,g2⟩:=M (f 13) (f 14) (f 15) (f 16) (f 17) (f 18) (f 19) (f 20) (f 21) (f 22) (f 23) (f 24) (f 25) (eh v i) (eh v i 14) (eh v i 15) (eh v i 16) (gv (cellAt v i 17).val);obtain⟨g,rfl⟩:=If g2;rw[show ayQ 14=[0,1,2,3,4,5,6,7,8,9,10,11,12,13] from rfl] at V;simp only[ja,eh,ayP,ayU,ayO,azT] at V;simp[bC V,dh X (show v.length<=140737488355328 by omega),X]
end
end
section
section
variable{R:aQ->Prop}{a:List LK}{t:T}{O:aa}{L:List PC}
def t81(X:Int)(V Q P:RV)(U:Sl V)(N:Sl Q)(M:Sl P):∃o,TB.Ev 81 [.i X,.r V,.r Q,.r P] o/\∃e,o=.ret [.i e]/\(e=0->H7 V/\1<=X/\X<=4096):=by
 refine eS rfl rfl (.inr λv I=>by obtain⟨_,h,_⟩:=I;cases h) ?_;simp[T81,U.len,N.len,M.len]
 repeat'(first|intro _|split)
 refine⟨by assumption, ?_⟩;intro H;have G:0<V.rows.length:=by assumption
 have J:H7 V:=⟨U,G,by simpa[ci] using H⟩;have F:1<=X/\X<=4096:=by omega
 refine di V.rows.length (λ_ W=>∃n:Int,W=[.i n]) ⟨0,rfl,by omega,_,rfl⟩ ?_;rintro i _ Z ⟨n,rfl⟩;simp[U.len];split;rename_i Z;simp[dh Z U.sm,Z];refine di X.toNat (λ_ W=>W=[]) ⟨0,rfl,by omega,rfl⟩ ?_;rintro i _ Z rfl;simp;split;rename_i Z;have E:i<X.toNat:=by omega
 rw[arP _ _ _ _ _ J (by omega)];simp[dh E (show X.toNat<=140737488355328 by omega)];refine di Q.rows.length (λ_ W=>∃n:Int,W=[.i n]) ⟨0,rfl,by omega,_,rfl⟩ ?_;rintro i _ Z ⟨n,rfl⟩;simp[N.len];split;rename_i Z;simp[dh Z N.sm,Z];refine di P.rows.length (λ_ W=>W=[]) ⟨0,rfl,by omega,rfl⟩ ?_;rintro i _ Z rfl;simp[M.len];split;rename_i Z;simp[dh Z M.sm,Z];exact⟨J,F⟩
def lJ:xl:=λZ X W V U Q P=>xk (t81 Z X W V U Q P)
end
end
section
section
variable{R:aQ->Prop}{a:List LK}{t:T}{O:aa}{L:List PC}
variable(W D A B C b:Int)(d f g i j:RV)
def aa7{v:RV}{Z:T}{e:TypeId}{X U Q:List RK}(V:Sl v)(N:v.rows.length<=536870912)(P:Z=.dW (.c true) (.cmp .leq (.len (.v 0)) (.c 0)) (.aF (.cmp .leq (.len (.v 0)) (.c 536870912)) (.new e (.jH (.lit []) (.ref (.v 0))) X U (.ret (.ref (.v 1)) [] Q))) (.ret (.ref (.k (.slice none 0 0))) [] X)):T.wp TB.Ev (· =.ret [.r (aC v.rows)]) Z (dB [] [.r v]) []:=by
 subst P;rw[D9];refine⟨.inl rfl,λ_=> ?_,λh=> ?_,λ_ h=> ?_⟩;simp[qO,V.len];omega
 all_goals
  have h:v.rows=[]:=by
   simp[V.len] at h;exact h
 simp[qO,h];exact single (Og _)
def e86(v:RV)(Z:Sl v)(h:v.rows.length<=536870912):TB.Ev 86 [.r v] (.ret [.r (aC v.rows)]):=gG rfl rfl (.inl rfl) (aa7 Z h rfl)
def e87(v:RV)(Z:Sl v)(h:v.rows.length<=536870912):TB.Ev 87 [.r v] (.ret [.r (aC v.rows)]):=gG rfl rfl (.inl rfl) (aa7 Z h rfl)
def e88(v:RV)(Z:Sl v)(h:v.rows.length<=536870912):TB.Ev 88 [.r v] (.ret [.r (aC v.rows)]):=gG rfl rfl (.inl rfl) (aa7 Z h rfl)
end
end
section
section
variable{R:aQ->Prop}{F:List LK}{t:T}{O:aa}{L:List PC}
variable(W D A B C q:Int)(p w z E d:RV)
def kB:Nat->List LK
 |0=>[]
 |n+1=>.bool::kB n
@[simp] def kB0:kB 0=[]:=rfl
@[simp] def kBs (n:Nat):kB (n+1)=.bool::kB n:=rfl
def Ee:∀{n:Nat}{ys:List XV},dj (kB n) ys=true->∃f:Nat->Bool,ys=(ayQ n).map λk=>.b (f k)
 |0,[],_=>⟨λ_=>false,rfl⟩
 |0,_::_,h=>by simp at h
 |n+1,[],h=>by simp at h
 |n+1,y::ys,h=>by
  simp only[kBs,dj,ayz] at h;obtain⟨f,Z⟩:=Ee (n:=n) (ys:=ys) h.2;cases y<;>simp only[F2,ayV,false_and] at h;rename_i x;refine⟨λk=>match k with
   |0=>x
   |k+1=>f k, ?_⟩
  rw[Z,aA1];simp
def aa8:∀{n:Nat}{ys:List XV},dj (kI n++[.bool]) ys=true->∃(f:Nat->Int)(b:Bool),ys=(ayQ n).map (λk=>.i (f k))++[.b b]
 |0,[],h=>by simp at h
 |0,[.b b],_=>⟨λ_=>0,b,rfl⟩
 |0,[.i _],h=>by simp at h
 |0,[.r _],h=>by simp at h
 |0,_::_::_,h=>by simp at h
 |n+1,[],h=>by simp at h
 |n+1,y::ys,h=>by
  simp only[Ic,ayP,dj,ayz] at h;obtain⟨f,b,Z⟩:=aa8 (n:=n) (ys:=ys) h.2;cases y<;>simp only[F2,ayV,false_and] at h;rename_i x;refine⟨λk=>match k with
   |0=>x
   |k+1=>f k,b, ?_⟩
  rw[Z,aA1];simp
def gl0:RV:=oE[0]?.getD default
def zA:RV:=oE[1]?.getD default
def gl2:RV:=oE[2]?.getD default
def akq:oE=[gl0,zA,gl2]:=rfl
def SI:lenOf zA.val=10:=rfl
def jZ(k:Int)(j:Nat):RV:=cN (.sl 3) (cellAt zA.rows k j)
def akr{k s:Int}(U:1<=k/\k<=9)(X:if k=1\/k=3\/k=4\/k=9 then 1<=s/\s<=2 else s=0):
  (lenOf (jZ k 0).val=(jZ k 0).rows.length/\(jZ k 0).rows.length<=2/\∀i:Nat,i<(jZ k 0).rows.length->0<=bc (cellAt (jZ k 0).rows i 0).val/\bc (cellAt (jZ k 0).rows i 0).val<=2/\1<=s/\s<=2)/\
  (lenOf (jZ k 1).val=(jZ k 1).rows.length/\(jZ k 1).rows.length<=2/\∀i:Nat,i<(jZ k 1).rows.length->0<=bc (cellAt (jZ k 1).rows i 0).val/\bc (cellAt (jZ k 1).rows i 0).val<=4):=by
 have:k=1\/k=2\/k=3\/k=4\/k=5\/k=6\/k=7\/k=8\/k=9:=by omega
 rcases this with rfl|rfl|rfl|rfl|rfl|rfl|rfl|rfl|rfl
 all_goals
  simp at X;refine⟨⟨rfl,by decide,λi Z=> ?_⟩,rfl,by decide,λi Z=> ?_⟩
  all_goals
   simp[jZ,zA,oE,ux,sV,iV,cellAt,cN,-ake] at Z
   try
    have V:i=0\/i=1:=by omega
    rcases V with rfl|rfl
    all_goals simp[jZ,zA,oE,ux,sV,iV,cellAt,cN,bc,-ake] at Z⊢
    all_goals(try omega)
def aks{be ai:Int}{v:List (List RV)}{r:RV}(U:kq W D A B C q p w z E d=0->Ia W D q p w d)(h:xp (ep W D A B C q p w z E d be ai) r (ep W D A B C q p w z E d be ai).length v){i:Nat}(X:i<v.length):∃c,BO p.rows.length q c/\∀j<14,bc (cellAt v (i:Int) j).val=c j:=by
 rw[h.1] at X;obtain⟨k,I,Q,H⟩:=h.2 i X;obtain⟨x,V⟩:∃x,(ep W D A B C q p w z E d be ai)[i]?=some x:=⟨_,ayB X⟩;obtain⟨m,G,P,F,y,N⟩:=arS W D A B C q p w z E d U (ayW V);refine⟨ci d m,N,λj Z=> ?_⟩;have M:∀j<14,eh (ep W D A B C q p w z E d be ai) i j=ci d m j:=λj Z=>by
  have:=LI (ci d m) j Z;simp only[eh,cellAt,azN,ayC,V,P];simpa[aD] using this
 have J:∀j<14,bc ((aa5 (eh (ep W D A B C q p w z E d be ai) i) r k).getD j default).val=eh (ep W D A B C q p w z E d be ai) i j:=λj Z=>by
  match j,Z with
  |0,_|1,_|2,_|3,_|4,_|5,_|6,_|7,_|8,_|9,_|10,_|11,_|12,_|13,_=>rfl
 rw[<-M j Z,<-J j Z];simp only[cellAt,azN,ayC,Q];rfl
set_option maxHeartbeats 8000000 in
def SJ (hc:xl) (h:gH p w z E d) (be ai:Int) (x0 x1 x2 x3 x4 x5 x6 x7 x8 x9 an a0 a1:Int) (P:RV) (a2:vd P) (y0 y1 y2 y3 y4 y5 y6 y7 y8 y9 a3 a4 a5 a6 a7 a8:Int) (r:RV) (hr:Sl r):∃o,TB.Ev 90 (wk W D A B C q p w z E d++[.i be,.i ai,.i x0,.i x1,.i x2,.i x3,.i x4,.i x5,.i x6,.i x7,.i x8,.i x9,.i an,.i a0,.i a1,.r P,.i y0,.i y1,.i y2,.i y3,.i y4,.i y5,.i y6,.i y7,.i y8,.i y9,.i a3,.i a4,.i a5,.i a6,.i a7,.i a8,.r r]) o/\∃N,o=.ret N/\dj (kI 5) N=true:=by
 refine eS rfl rfl (.inl rfl) ?_;have h1:=Ib W D A B C q p w z E d hc h be ai;have M:=(xo W D A B C q p w z E d hc h).2;have hl:=LL W D A B C q p w z E d (be:=be) (ai:=ai) M;have hk:=LJ W D A B C q p w z E d (be:=be) (ai:=ai) M;have tJ:= @aks W D A B C q p w z E d be ai;simp only[wk,ayP,ayU] at h1;generalize ep W D A B C q p w z E d be ai=l at*;generalize kW W D A B C q p w z E d be ai=e at*;obtain⟨o,h2,v,b,rfl,h3,h4⟩:=SE l r hr hl hk;simp[St,wk,akq,bC h1,bC h2,Ed P a2];intro _ _ _ hb;have ab:=h4 hb;have hv:v.length<=4096:=by have:=ab.1;omega
 have J:v.length<=140737488355328:=by omega
 refine di v.length (λi Z=>dj (kB 6) Z=true) ⟨0,rfl,by omega,rfl⟩ ?_;rintro i Z X V;obtain⟨f,rfl⟩:=Ee V;rw[show ayQ 6=[0,1,2,3,4,5] from rfl];simp;split
 ·rename_i X;obtain⟨c,I,af⟩:=tJ M ab X;have H:=af 4 (by omega);have a9:=af 5 (by omega);obtain⟨G,F⟩:=akr I.kind I.side;have bb:=I.kind;have ag:cN (.sl 3) (cellAt zA.rows (c 4) 0)=jZ (c 4) 0:=rfl;have al:cN (.sl 3) (cellAt zA.rows (c 4) 1)=jZ (c 4) 1:=rfl;generalize jZ (c 4) 0=y at G ag;generalize jZ (c 4) 1=s at F al;simp[dh X J,X,H,SI];intro _;split
  all_goals
   refine⟨by omega, ?_⟩;refine di y.rows.length (λ_ Z=>dj (kB 5) Z=true) ⟨0,rfl,by omega,rfl⟩ ?_;rintro a Z U V;obtain⟨g,rfl⟩:=Ee V;rw[show ayQ 5=[0,1,2,3,4] from rfl];simp[H,a9,ag,G.1,SI];split;rename_i U;have m:=G.2.2 a U;generalize bc (cellAt y.rows (a:Int) 0).val=x at m;rw[show aP .sub .i64 (aP .add .i64 x (c 5)) 1=x+c 5-1 by simp only[aP];rw[ef (n:=x+c 5) (by omega) (by omega),ef (by omega) (by omega)]];simp[dh U (show y.rows.length<=140737488355328 by omega),U];omega;refine⟨by omega, ?_⟩;refine di s.rows.length (λ_ Z=>dj (kB 5) Z=true) ⟨0,rfl,by omega,rfl⟩ ?_;rintro a' Z Q V;obtain⟨g',rfl⟩:=Ee V;rw[show ayQ 5=[0,1,2,3,4] from rfl];simp[H,al,F.1];split;rename_i Q;have m:=F.2.2 a' Q;generalize bc (cellAt s.rows (a':Int) 0).val=x at m;simp[dh Q (show s.rows.length<=140737488355328 by omega),Q];omega;simp[dh X J]
 refine di 5 (λ_ Z=>dj (kI 4) Z=true) ⟨0,rfl,by omega,rfl⟩ ?_;rintro k Z j V;obtain⟨g,rfl⟩:=If V;rw[show ayQ 4=[0,1,2,3] from rfl];have hq:aP .quo .i64 (k:Int) 2=((k/2:Nat):Int):=by
  simp only[aP];rw[show(k:Int).tdiv 2=((k/2:Nat):Int) by rw[aBr (by omega)];omega];exact ef (by omega) (by omega)
 simp[hq];split;rename_i j;have j:k<5:=by omega
 simp[dh j (show 5<=140737488355328 by omega)];omega;intro _;refine di v.length (λ_ Z=>dj (kI 17++[.bool]) Z=true) ⟨0,rfl,by omega,rfl⟩ ?_;rintro i Z X V;obtain⟨f,b',rfl⟩:=aa8 V;rw[show ayQ 17=[0,1,2,3,4,5,6,7,8,9,10,11,12,13,14,15,16] from rfl];simp;intro X;obtain⟨o,q1,N,rfl,q2⟩:=Ie (f 4) (f 5) (f 6) (f 7) (f 8) (f 9) (f 10) (f 11) (f 12) (f 13) (f 14) (f 15) (f 16) (eh v i) (eh v i 14) (eh v i 15) (eh v i 16) (gv (cellAt v i 17).val);obtain⟨u,rfl⟩:=If q2;rw[show ayQ 14=[0,1,2,3,4,5,6,7,8,9,10,11,12,13] from rfl] at q1;simp only[ja,eh,ayP,ayU,ayO,azT] at q1;refine⟨X, ?_⟩;rw[bC q1];simp[dh X J]
end
end
section
section
variable{R:aQ->Prop}{a:List LK}{t:T}{O:aa}{L:List PC}
variable(W D A B C b:Int)(c d e f g:RV)
end
end
variable{V:Nat}
section
section
variable{R:aQ->Prop}{n:List LK}{t:T}{O:aa}{L:List PC}
variable(W D A B C e:Int)(d f j l m:RV)
def vB(v:RV)(i:Nat):Bool:=bE (ci v i 0) (ci v i 1) (ci v i 2) (ci v i 3)
def LO(u:RV)(i:Nat)(w:RV)(k:Nat):Bool:=vB u i&&vB w k&&u9 (ci u i 0) (ci u i 1) (ci u i 2) (ci u i 3) (ci w k 0) (ci w k 1) (ci w k 2) (ci w k 3)
def flB(W D:Int)(u:RV)(i:Nat):Bool:=vB u i&&bE 0 (aP .mul .i64 841 W) 0 (aP .mul .i64 841 D)&&LH (ci u i 0) (ci u i 1) (ci u i 2) (ci u i 3) 0 (aP .mul .i64 841 W) 0 (aP .mul .i64 841 D)
def LP(Z:RV):Nat->List (List RV)
 |0=>[]
 |i+1=>fg 2 [.mk (.int .i64 (ci Z i 0)) [],.mk (.int .i64 (ci Z i 1)) [],.mk (.bool true) []] (LP Z i)
def SK(Z:List (List RV))(a b:Nat):Bool:=BE.den ⟨[(a:Int),(b:Int)],[],[aC Z],[]⟩ (.look (.v 0) 2 (.v 0) (.v 1) (.c 0) 2)
def aku(u:RV)(i:Nat)(Z:RV)(ai:Int)(g:Nat):Bool:=vB u i&&bE (nX (ci Z g) ai 0) (nX (ci Z g) ai 1) (nX (ci Z g) ai 2) (nX (ci Z g) ai 3)&&u9 (ci u i 0) (ci u i 1) (ci u i 2) (ci u i 3) (nX (ci Z g) ai 0) (nX (ci Z g) ai 1) (nX (ci Z g) ai 2) (nX (ci Z g) ai 3)
structure ClE(wg:RV)(ai:Int)(mv hd pr:RV):Prop where
 wk:kq W D A B C e d f j l m=0
 nw:wg.rows.length<=8
 inb:hJ ai 0 (e-1)=true
 lm:mv.rows.length=d.rows.length
 lh:hd.rows.length=d.rows.length
 vm:∀i<mv.rows.length,vB mv i=true
 vh:∀i<hd.rows.length,vB hd i=true
 prs:∀i<pr.rows.length,0<=ci pr i 0/\ci pr i 0<ci pr i 1/\ci pr i 1<d.rows.length
 pth:∀g<wg.rows.length,nX (ci wg g) ai 4=0
structure ClN(wg:RV)(ai:Int)(mv hd pr:RV):Prop where
 n1:∀a<d.rows.length,∀b,a<b->b<d.rows.length->SK (LP pr pr.rows.length) a b=true\/LO mv a mv b=true
 n2:∀a<d.rows.length,∀b,a<b->b<d.rows.length->SK (LP pr pr.rows.length) a b=true\/LO mv a hd b=true
 n3:∀a<d.rows.length,∀b,a<b->b<d.rows.length->SK (LP pr pr.rows.length) a b=true\/LO hd a mv b=true
 n4:∀a<d.rows.length,∀b,a<b->b<d.rows.length->SK (LP pr pr.rows.length) a b=true\/LO hd a hd b=true
 wgs:∀a<d.rows.length,∀g<wg.rows.length,aku mv a wg ai g=true/\aku hd a wg ai g=true
 ayj:∀a<d.rows.length,flB W D mv a=true/\flB W D hd a=true
structure asp(wg:RV)(ai:Int)(mv hd pr:RV):Prop extends ClE W D A B C e d f j l m wg ai mv hd pr,ClN W D d wg ai mv hd pr
def SL{P:Nat->Prop}(h:∀k<V,P k)(Z:P V):∀k<V+1,P k:=λk U=>by
 by_cases X:k=V;subst X;exact Z;exact h k (by omega)
end
end
variable{Z:List (List RV)}
section
section
variable{lt:List RV->List RV->Bool}
def xq(lt:List RV->List RV->Bool)(l:List (List RV)):Prop:=l.Pairwise λx y=>lt x y=true
def xq.eq(V:∀x,lt x x=false)(U:∀x y z,lt x y=true->lt y z=true->lt x z=true):∀{l Z:List (List RV)},xq lt l->xq lt Z->l.Perm Z->l=Z
 |[],Z,_,_,h=>(List.Perm.nil_eq h)
 |x::l,[],_,_,h=>(by have:=h.length_eq;simp at this)
 |x::l,y::Z,P,O,h=>by
  have R:=ayY.1 P;have Q:=ayY.1 O;have N:x=y:=by
   have X:x∈y::Z:=h.mem_iff.1 (by simp);have W:y∈x::l:=h.mem_iff.2 (by simp);rcases ayK.1 X with X|X;exact X;rcases ayK.1 W with W|W;exact W.symm;have:=U _ _ _ (R.1 y W) (Q.1 x X);rw[V] at this;cases this
  subst N;rw[xq.eq V U R.2 Q.2 (List.perm_cons x|>.1 h)]
def akv(W:∀x y z,lt x y=true->lt y z=true->lt x z=true){x:List RV}:∀{l:List (List RV)},xq lt l->(∀y∈l,lt x y=true\/lt y x=true)->xq lt (cQ lt x l)
 |[],_,_=>aBF _ _
 |y::r,h,V=>by
  have g:=ayY.1 h;simp only[cQ];split;rename_i X;refine ayY.2 ⟨λz Z=> ?_,h⟩;rcases ayK.1 Z with rfl|Z;exact X;exact W _ _ _ X (g.1 z Z);rename_i X;have U:lt y x=true:=(V y (by simp)).resolve_left X;refine ayY.2 ⟨λz Z=> ?_,akv W g.2 λz Z=>V z (by simp[Z])⟩;rcases Nv.1 Z with rfl|Z;exact U;exact g.1 z Z
def akw(X:∀x y z,lt x y=true->lt y z=true->lt x z=true):∀(l acc:List (List RV)),xq lt acc->(∀x∈l,∀y∈acc,lt x y=true\/lt y x=true)->l.Pairwise (λx y=>lt x y=true\/lt y x=true)->xq lt (l.foldl (λacc x=>cQ lt x acc) acc)
 |[],acc,h,_,_=>h
 |x::l,acc,h,W,U=>by
  have g:=ayY.1 U;refine akw X l _ (akv X h λy Z=>W x (by simp) y Z) (λz V y Z=> ?_) g.2;rcases Nv.1 Z with rfl|Z;exact(g.1 z V).symm;exact W z (by simp[V]) y Z
def akx(X:∀x y z,lt x y=true->lt y z=true->lt x z=true)(h:Z.Pairwise (λx y=>lt x y=true\/lt y x=true)):xq lt (bp lt Z):=akw X Z [] azu (by simp) h
def asq(U:∀x,lt x x=false)(W:∀x y z,lt x y=true->lt y z=true->lt x z=true){X:List (List RV)}(V:X.Perm Z)(h:Z.Pairwise (λx y=>lt x y=true\/lt y x=true)):bp lt X=bp lt Z:=by
 have R:X.Pairwise (λx y=>lt x y=true\/lt y x=true):=(V.symm.pairwise_iff (λ{x y} h=>h.symm)).1 h;exact xq.eq U W (akx W R) (akx W h) (((SB X).trans V).trans (SB Z).symm)
end
def aky(d:Bool):∀(Z:List Nat)(x:List RV),fZ d Z x x=false
 |[],_=>rfl
 |c::Z,x=>by simp[fZ,aky d Z x]
def akz(d:Bool):∀(U:List Nat)(x y z:List RV),fZ d U x y=true->fZ d U y z=true->fZ d U x z=true
 |[],_,_,_,h,_=>by simp[fZ] at h
 |c::U,x,y,z,W,Z=>by
  simp only[fZ] at W Z⊢;by_cases V:aD c x=aD c y;by_cases X:aD c y=aD c z;rw[if_pos V] at W;rw[if_pos X] at Z;rw[if_pos (V.trans X)];exact akz d U x y z W Z;rw[if_neg X] at Z;rw[if_neg (by rw[V];exact X),V];exact Z;rw[if_neg V] at W;by_cases X:aD c y=aD c z;rw[if_neg (by rw[<-X];exact V),<-X];exact W;rw[if_neg X] at Z;cases d;simp at W Z;rw[if_neg (by omega)];simp;omega;simp at W Z;rw[if_neg (by omega)];simp;omega
def akA(Z:List Nat)(X:List (List RV)):Prop:=X.Pairwise λx y=>∃c∈Z,aD c x≠aD c y
end
def SM{n:Nat}{Z y:List RV}:∀{m:List (List RV)},y∈fg n Z m->y=Z\/y∈m
 |[],h=>by simp[fg] at h;exact .inl h
 |r::X,h=>by
  simp only[fg] at h;split at h;rcases ayK.1 h with h|h;exact .inl h;exact .inr (by simp[h]);rcases ayK.1 h with h|h;exact .inr (by simp[h]);rcases SM h with h|h;exact .inl h;exact .inr (by simp[h])
def akB{Z r:List RV}(X:Z.length=4)(W:r.length=4):jl 3 ((Z.take 3).map λc=>bc c.val) r=true<->∀c∈[0,1,2],aD c r=aD c Z:=by
 match Z,X,r,W with
 |[a,b,c,d],_,[V,U,R,Q],_=>simp[jl,aD]
structure vf(m:List (List RV)):Prop where
 keys:akA [0,1,2] m
 four:∀x∈m,x.length=4
def vf.nil:vf []:=⟨azu,by simp⟩
def vf.ins{Q:List RV}(V:Q.length=4):∀{m:List (List RV)},vf m->vf (fg 3 Q m)
 |[],_=>⟨by simp[fg,akA],by simp[fg,V]⟩
 |r::O,h=>by
  have g:=ayY.1 h.keys;have bA:vf O:=⟨g.2,λx Z=>h.four x (by simp[Z])⟩;have N:=vf.ins V bA;have P:=akB V (h.four r (by simp));refine⟨?_,λx Z=> ?_⟩;simp only[fg];split;rename_i X;have X:=P.1 X;refine ayY.2 ⟨λy W=> ?_,g.2⟩;obtain⟨c,U,R⟩:=g.1 y W;exact⟨c,U,by rw[<-X c U];exact R⟩;rename_i X;refine ayY.2 ⟨λy W=> ?_,N.keys⟩;rcases SM W with rfl|W;have:¬∀c∈[0,1,2],aD c r=aD c y:=λM=>X (P.2 M)
  simp only[Classical.not_forall] at this;obtain⟨c,U,R⟩:=this;exact⟨c,U,R⟩;exact g.1 y W;rcases SM Z with rfl|Z;exact V;exact h.four x Z
section
section
variable{R:aQ->Prop}{q:List LK}{t:T}{O:aa}{L:List PC}
variable(W D A B C d:Int)(a e l n o:RV)
@[simp] def ayk (v:RV) (Z X V U Q P N M J I H G F E z y:Int):eQ TB.Ev R 75 [.r (cN .str v),.i Z,.i X,.i V,.i U,.i Q,.i P,.i N,.i M,.i J,.i I,.i H,.i G,.i F,.i E,.i z,.i y] q t O L=eR TB.Ev R (.ret [.i (BQ (cN .str v) Z X V U Q P N M J I H G F E z y)]) q t O L:=Ed _ (zy v) Z X V U Q P N M J I H G F E z y
def BR(Z X V U Q P N M J I H G F:Int)(s:RV)(E z y x w v u q p o n m l j h g:Int)(k:Nat):Int:=oi 27 [.i Z,.i X,.i V,.i U,.i Q,.i P,.i N,.i M,.i J,.i I,.i H,.i G,.i F,.r s,.i E,.i z,.i y,.i x,.i w,.i v,.i u,.i q,.i p,.i o,.i n,.i m,.i l,.i j,.i h,.i g] k
@[simp] def c27 (Z X V U Q P N M J I H G F:Int) (v:RV) (E z y x w u s p o n m l k j h g:Int):eQ TB.Ev R 27 [.i Z,.i X,.i V,.i U,.i Q,.i P,.i N,.i M,.i J,.i I,.i H,.i G,.i F,.r (cN .str v),.i E,.i z,.i y,.i x,.i w,.i u,.i s,.i p,.i o,.i n,.i m,.i l,.i k,.i j,.i h,.i g] q t O L=eR TB.Ev R (.ret [.i (BR Z X V U Q P N M J I H G F (cN .str v) E z y x w u s p o n m l k j h g 0),.i (BR Z X V U Q P N M J I H G F (cN .str v) E z y x w u s p o n m l k j h g 1),.i (BR Z X V U Q P N M J I H G F (cN .str v) E z y x w u s p o n m l k j h g 2),.i (BR Z X V U Q P N M J I H G F (cN .str v) E z y x w u s p o n m l k j h g 3),.i (BR Z X V U Q P N M J I H G F (cN .str v) E z y x w u s p o n m l k j h g 4)]) q t O L:=bC (mY (kI 5) (t27 Z X V U Q P N M J I H G F _ (zy v) E z y x w u s p o n m l k j h g))
def SN(Z:RV)(i:Nat):Int:=BQ (cN .str (cellAt Z.rows (i:Int) 0)) (ci Z i 1) (ci Z i 2) (ci Z i 3) (ci Z i 4) (ci Z i 5) (ci Z i 6) (ci Z i 7) (ci Z i 8) (ci Z i 9) (ci Z i 10) (ci Z i 11) (ci Z i 12) (ci Z i 13) (ci Z i 14) (ci Z i 15) (ci Z i 16)
def vg(v:RV)(i:Nat):Int:=BP (ci v i 0) (ci v i 1) (ci v i 2) (ci v i 3) (ci v i 4) (ci v i 5) (ci v i 6) (ci v i 7) (ci v i 8) (ci v i 9) (ci v i 10) (ci v i 11) (ci v i 12)
def eI(v Z:RV)(i k:Nat):Int:=BR (ci v i 0) (ci v i 1) (ci v i 2) (ci v i 3) (ci v i 4) (ci v i 5) (ci v i 6) (ci v i 7) (ci v i 8) (ci v i 9) (ci v i 10) (ci v i 11) (ci v i 12) (cN .str (cellAt Z.rows (i:Int) 0)) (ci Z i 1) (ci Z i 2) (ci Z i 3) (ci Z i 4) (ci Z i 5) (ci Z i 6) (ci Z i 7) (ci Z i 8) (ci Z i 9) (ci Z i 10) (ci Z i 11) (ci Z i 12) (ci Z i 13) (ci Z i 14) (ci Z i 15) (ci Z i 16) k
def LQ(ai:Int)(Z:RV)(i:Nat):Int:=oi 85 (wk W D A B C d a e l n o++[.i i,.i ai,.r (cr 96 Z i)]) 0
def xt(ai:Int)(Z X:RV)(i k:Nat):Int:=oi 89 (wk W D A B C d a e l n o++[.i i,.i ai,.i (ci Z i 0),.i (ci Z i 1),.i (ci Z i 2),.i (ci Z i 3),.i (ci Z i 4),.i (ci Z i 5),.i (ci Z i 6),.i (ci Z i 7),.i (ci Z i 8),.i (ci Z i 9),.i (ci Z i 10),.i (ci Z i 11),.i (ci Z i 12),.r (cr 96 X i)]) k
def BS(ai:Int)(X Z V:RV)(i k:Nat):Int:=oi 90 (wk W D A B C d a e l n o++[.i i,.i ai,.i (ci X i 0),.i (ci X i 1),.i (ci X i 2),.i (ci X i 3),.i (ci X i 4),.i (ci X i 5),.i (ci X i 6),.i (ci X i 7),.i (ci X i 8),.i (ci X i 9),.i (ci X i 10),.i (ci X i 11),.i (ci X i 12),.r (cN .str (cellAt Z.rows (i:Int) 0)),.i (ci Z i 1),.i (ci Z i 2),.i (ci Z i 3),.i (ci Z i 4),.i (ci Z i 5),.i (ci Z i 6),.i (ci Z i 7),.i (ci Z i 8),.i (ci Z i 9),.i (ci Z i 10),.i (ci Z i 11),.i (ci Z i 12),.i (ci Z i 13),.i (ci Z i 14),.i (ci Z i 15),.i (ci Z i 16),.r (cr 96 V i)]) k
def gS(ai:Int)(X Z V:RV)(i k:Nat):Int:=if cb X i 0 then xt W D A B C d a e l n o ai Z V i k else ci Z i k
def gB(ai:Int)(V Z X U:RV)(i k:Nat):Int:=if cb V i 0 then BS W D A B C d a e l n o ai Z X U i k else eI Z X i k
structure aba(a wg bd mv bf af re bx:RV):Prop where
 wg:Sl wg
 bd:Sl bd
 mv:Sl mv
 bf:Sl bf
 af:Sl af
 rsl:Sl re
 bx:Sl bx
 fe:∀i<re.rows.length,Sl (cr 96 re i)/\(cr 96 re i).rows.length<=100
structure LR(ai:Int)(wg bd mv bf af re bx:RV):Prop where
 wk:kq W D A B C d a e l n o=0
 nw:wg.rows.length<=8
 br:0<=ai/\ai<d
 laf:af.rows.length=a.rows.length
 lbx:bx.rows.length=a.rows.length
 BT:bd.rows.length=a.rows.length
 BU:mv.rows.length=a.rows.length
 BV:bf.rows.length=a.rows.length
 nY:re.rows.length=a.rows.length
 dY:∀i<a.rows.length,SN bd i=0/\vg bf i=0/\(if cb mv i 0 then LQ W D A B C d a e l n o ai re i=0 else(cr 96 re i).rows=[])
 box:∀i<a.rows.length,vB bx i=true/\vg af i=0
 pth:∀g<wg.rows.length,nX (ci wg g) ai 4=0
def iC(ai:Int)(U Z X V:RV)(i:Nat):Prop:=if cb U i 0 then xt W D A B C d a e l n o ai Z V i 13=0/\BS W D A B C d a e l n o ai Z X V i 4=0 else eI Z X i 4=0
def Fst(v:RV)(id:Int)(m:Nat):Prop:=m<v.rows.length/\ci v m 0=id/\∀Z<m,ci v Z 0≠id
def m78(Z:RV)(id:Int)(i:Nat):List XV:=out 78 (wk W D A B C d a e l n o++[.i id,.r (cN .str (cellAt Z.rows (i:Int) 0)),.i (ci Z i 1),.i (ci Z i 2),.i (ci Z i 3),.i (ci Z i 4),.i (ci Z i 5),.i (ci Z i 6),.i (ci Z i 7),.i (ci Z i 8),.i (ci Z i 9),.i (ci Z i 10),.i (ci Z i 11),.i (ci Z i 12),.i (ci Z i 13),.i (ci Z i 14),.i (ci Z i 15),.i (ci Z i 16)])
def asr(ai:Int)(Z X V U Q:RV)(c:Nat->Int):Bool:=ob 103 (wk W D A B C d a e l n o++[.i ai,.r Z,.r X,.r V,.r U,.r Q]++ja c) 0
def ast(ai:Int)(X V U Q Z P:RV)(i k:Nat):Prop:=∀m,Fst (cr 96 Z i) (eh (ep W D A B C d a e l n o i ai) k 0) m->
 xi (m78 W D A B C d a e l n o X (eh (ep W D A B C d a e l n o i ai) k 0) i) 1=0/\
 ob 102 [.r (xr (m78 W D A B C d a e l n o X (eh (ep W D A B C d a e l n o i ai) k 0) i) 0),.i (ci (cr 96 Z i) m 0),.i (ci (cr 96 Z i) m 1),.i (ci (cr 96 Z i) m 2),.b (cb (cr 96 Z i) m 3)] 0=true/\
 (eh (ep W D A B C d a e l n o i ai) k 4=7\/eh (ep W D A B C d a e l n o i ai) k 4=8->cb (cr 96 Z i) m 3=true\/asr W D A B C d a e l n o ai V U Q Z P (eh (ep W D A B C d a e l n o i ai) k)=true)
def abe(ai:Int)(Z X V:RV)(i:Nat):List XV:=out 104 (wk W D A B C d a e l n o++[.i i,.i ai,.i (ci Z i 0),.i (ci Z i 1),.i (ci Z i 2),.i (ci Z i 3),.i (ci Z i 4),.i (ci Z i 5),.i (ci Z i 6),.i (ci Z i 7),.i (ci Z i 8),.i (ci Z i 9),.i (ci Z i 10),.i (ci Z i 11),.i (ci Z i 12),.r X,.r (cr 96 V i)])
structure asu(ai:Int)(bd mv bf af re bx:RV)(i:Nat):Prop where
 aft:∀j<13,ci af i j=gS W D A B C d a e l n o ai mv bf re i j
 inb:bE (gB W D A B C d a e l n o ai mv bf bd re i 0) (gB W D A B C d a e l n o ai mv bf bd re i 1) (gB W D A B C d a e l n o ai mv bf bd re i 2) (gB W D A B C d a e l n o ai mv bf bd re i 3)=true/\vB bx i=true
 ins:LH (gB W D A B C d a e l n o ai mv bf bd re i 0) (gB W D A B C d a e l n o ai mv bf bd re i 1) (gB W D A B C d a e l n o ai mv bf bd re i 2) (gB W D A B C d a e l n o ai mv bf bd re i 3) (ci bx i 0) (ci bx i 1) (ci bx i 2) (ci bx i 3)=true
 sgs:cb mv i 0=true->(∀k<(ep W D A B C d a e l n o i ai).length,ast W D A B C d a e l n o ai bd mv bf af re bx i k)/\xi (abe W D A B C d a e l n o ai bf bd re i) 1=0/\(xr (abe W D A B C d a e l n o ai bf bd re i) 0).rows=[]
def Ef(ai:Int):List XV:=out 23 (wk W D A B C d a e l n o++[.i ai])
def exR(v Z:RV):Nat->List (List RV)
 |0=>[]
 |i+1=>exR v Z i++[[.mk (.int .i64 (eI v Z i 0)) [],.mk (.int .i64 (eI v Z i 1)) [],.mk (.int .i64 (eI v Z i 2)) [],.mk (.int .i64 (eI v Z i 3)) []]]
def stB(v Z:RV)(i k:Nat):Bool:=bE (eI v Z i 0) (eI v Z i 1) (eI v Z i 2) (eI v Z i 3)&&bE (eI v Z k 0) (eI v Z k 1) (eI v Z k 2) (eI v Z k 3)&&u9 (eI v Z i 0) (eI v Z i 1) (eI v Z i 2) (eI v Z i 3) (eI v Z k 0) (eI v Z k 1) (eI v Z k 2) (eI v Z k 3)
structure aym(ai:Int)(wg bd mv bf af re bx:RV):Prop where
 ex:LR W D A B C d a e l n o ai wg bd mv bf af re bx
 BW:∀i<a.rows.length,iC W D A B C d a e l n o ai mv bf bd re i
 ro:∀i<a.rows.length,asu W D A B C d a e l n o ai bd mv bf af re bx i
 prs:xi (Ef W D A B C d a e l n o ai) 1=0
 st1:∀i<a.rows.length,eI bf bd i 4=0
 st2:∀i<a.rows.length,eI af bd i 4=0
 cl:asp W D A B C d a e l n o wg ai bx (aC (exR bf bd a.rows.length)) (xr (Ef W D A B C d a e l n o ai) 0)
 LO:∀p<(xr (Ef W D A B C d a e l n o ai) 0).rows.length,stB bf bd (ci (xr (Ef W D A B C d a e l n o ai) 0) p 0).toNat (ci (xr (Ef W D A B C d a e l n o ai) 0) p 1).toNat=true/\stB af bd (ci (xr (Ef W D A B C d a e l n o ai) 0) p 0).toNat (ci (xr (Ef W D A B C d a e l n o ai) 0) p 1).toNat=true
def xu{X:List RV}{j:Nat}(h:Z.length=V):cellAt (Z++[X]) (V:Int) j=X.getD j default:=by
 subst h;simp[cellAt]
def xw{w:List (List RV)}{j:Nat}(h:V<Z.length):cellAt (Z++w) (V:Int) j=cellAt Z (V:Int) j:=by
 simp[cellAt,ayD h]
def cY{c:Prop}[Decidable c]{A B:Prop}(Z:c->A)(X:¬c->B):if c then A else B:=by
 by_cases h:c;rw[if_pos h];exact Z h;rw[if_neg h];exact X h
end
def T.at:List Nat->T->T
 |[],t=>t
 |0::p,.node _ t _=>t.at p
 |_::p,.node _ _ f=>f.at p
 |_::p,.aF _ t=>t.at p
 |_::p,.call _ _ _ _ _ _ t=>t.at p
 |_::p,.loop _ _ _ t=>t.at p
 |_::p,.new _ _ _ _ t=>t.at p
 |_::p,.rows _ _ _ t=>t.at p
 |0::p,.dW _ _ t _=>t.at p
 |_::p,.dW _ _ _ f=>f.at p
 |0::p,.pick _ _ _ t _=>t.at p
 |_::p,.pick _ _ _ _ f=>f.at p
 |_::p,.cA _ _ _ _ _ _ _ t=>t.at p
 |_,t=>t
end
variable{X:List Nat}
section
section
def SO(Z:List Nat):List (List RV):=Z.map λ(j:Nat)=>[iV (j:Int)]
def abf{Z:Type}[DecidableEq Z]:∀{a b:List Z},a.Nodup->(∀x∈a,x∈b)->a.length<=b.length
 |[],_,_,_=>aAq _
 |x::a,b,U,X=>by
  have g:=aAj.1 U;have W:x∈b:=X x (by simp);have:=abf (a:=a) (b:=b.erase x) g.2 λy V=>(aBc (λe=>g.1 (by rw[<-e];exact V))).2 (X y (by simp[V]))
  rw[aAW W] at this;have R:0<b.length:=aBO W;simp only[azn];omega
def akG{X:Type}[DecidableEq X]:∀{a b:List X},a.Nodup->(∀x∈a,x∈b)->b.length<=a.length->a.Perm b
 |[],b,_,_,Z=>by
  have:b=[]:=azw.1 (Nat.le_zero.1 Z);rw[this]
 |x::a,b,R,W,Z=>by
  have g:=aAj.1 R;have V:x∈b:=W x (by simp);have:=akG (a:=a) (b:=b.erase x) g.2 (λy U=>(aBc (λe=>g.1 (by rw[<-e];exact U))).2 (W y (by simp[U]))) (by rw[aAW V];simp only[azn] at Z;omega);exact(this.cons x).trans (List.perm_cons_erase V).symm
structure Pk(n:Nat)(js:List Nat):Prop where
 nd:js.Nodup
 lt:∀j∈js,j<n
def Pk.nil(n:Nat):Pk n []:=⟨List.nodup_nil,by simp⟩
def Pk.add{j:Nat}(h:Pk V X)(U:j∉X)(Q:j<V):Pk V (X++[j]):=⟨azA.2 ⟨h.nd,by simp,by intro a R b W e;simp at W;subst W;subst e;exact U R⟩,by
 intro k Z;rcases ayL.1 Z with Z|Z;exact h.lt k Z;simp at Z;omega⟩
def Pk.len(h:Pk V X):X.length<=V:=by
 have:=abf (b:=ayQ V) h.nd λj Z=>azz.2 (h.lt j Z)
 simpa using this
def Pk.perm(h:Pk V X)(Z:V<=X.length):X.Perm (ayQ V):=akG h.nd (λj W=>azz.2 (h.lt j W)) (by simpa using Z)
def Pk.more(R:¬V<=X.length):∃j<V,j∉X:=by
 apply Classical.byContradiction;intro Z;have:∀x∈ayQ V,x∈X:=λx W=>Classical.byContradiction λU=>Z ⟨x,azz.1 W,U⟩
 have:=abf List.nodup_range this;simp at this;omega
end
section
variable{L:List PC}
end
end
end
end Go.Proofs.YtieaiocljdpebaaGreatDoor.Y
