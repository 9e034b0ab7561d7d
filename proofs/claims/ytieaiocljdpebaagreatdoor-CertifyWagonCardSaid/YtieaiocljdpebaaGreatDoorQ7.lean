/- Part 7 of the proof; the last part says what is shown. -/
import Derived.Test.YtieaiocljdpebaaGreatDoorQ6
set_option linter.defProp false
set_option linter.unusedVariables false
set_option linter.unusedSimpArgs false
set_option linter.unnecessarySimpa false
open Bool renaming and_eq_true→awF,false_eq_true→aw0,or_eq_true→aw9
open List renaming getElem?_eq_getElem→awH,getElem?_append_left→awI,getD_eq_getElem?_getD→awK,getElem?_map→awL,getElem?_append_right→awM,mem_cons→awP,mem_append→awR,map_cons→awT,all_eq_true→awU,cons_append→awV,nil_append→awX,mem_of_getElem?→aw1,pairwise_cons→aw2,range→aw3,length_cons→axm,length_eq_zero_iff→axp,nodup_append→axF,mem_range→axR,take_of_length_le→axX,map_nil→ax0,map_append→ayq,nodup_cons→ayr,map→ayy,pairwise_map→ayQ,length_erase_of_mem→ay4,ne_nil_of_mem→ay5,range_succ_eq_map→aza,mem_erase_of_ne→azn,pairwise_singleton→azL,find?_cons→azN,length_pos_of_mem→azR,take_add_one→aAm
open Nat renaming zero_le→axN
open List.Pairwise renaming nil→axt
open Int renaming toNat_natCast→axy
namespace Go.Proofs.YtieaiocljdpebaaGreatDoor.Y
open Go.RowKit
noncomputable section
section
section
variable{R:aV->Prop}{ks:List LK}{t:T}{ρ:aa}{L:List PC}
variable(W D A B C J:Int)(u H ps sp I:RV)
def Aft:Prop:=∀(Z X V U Q P O N M J I H G:Int)(c:Nat->Int)(p q r:Int)(b:Bool),∃o,TB.Ev 227 ([.i Z,.i X,.i V,.i U,.i Q,.i P,.i O,.i N,.i M,.i J,.i I,.i H,.i G]++fJ c++[.i p,.i q,.i r,.b b]) o/\∃ys,o=.ret ys/\dg (kI 14) ys=true
set_option maxHeartbeats 4000000 in
def Rq:Aft:=by
 intro I H G F E z y x w v u s o c p q r b;refine eA rfl rfl (.inl rfl) ?_;by_cases Z:c 4=1\/c 4=2\/c 4=3\/c 4=4\/c 4=5\/c 4=6\/c 4=7\/c 4=8\/c 4=9
 ·rcases Z with h|h|h|h|h|h|h|h|h
  all_goals
   simp(config:={maxSteps:=10000000}) [Rg,fJ,h]
   try
    (repeat'(first|intro _|split)
     all_goals
      have e1:bh .sub .i64 (c 5) 1=c 5-1:=by simp only[bh];exact iK (by omega) (by omega)
      have X:bh .add .i64 (c 5) 1=c 5+1:=by simp only[bh];exact iK (by omega) (by omega)
      simp only[e1,X] at*
      first|omega|(exfalso;omega))
 simp only[not_or] at Z;obtain⟨V,U,Q,P,O,N,M,k8,J⟩:=Z;simp(config:={maxSteps:=10000000}) [Rg,fJ,V,U,Q,P,O,N,M,k8,J]
def HZ:∀{n:Nat}{ys:List XV},dg (kI n) ys=true->∃f:Nat->Int,ys=(aw3 n).map λk=>.i (f k)
 |0,[],_=>⟨λ_=>0,rfl⟩
 |0,_::_,h=>by simp at h
 |n+1,[],h=>by simp at h
 |n+1,y::ys,h=>by
  simp only[HV,dg,awF] at h;obtain⟨f,Z⟩:=HZ (n:=n) (ys:=ys) h.2;cases y<;>simp only[FP,aw0,false_and] at h;rename_i x;refine⟨λk=>match k with
   |0=>x
   |k+1=>f k, ?_⟩
  rw[Z,aza];simp
def t89(X:rz)(Q:Aft)(h:iL u H ps sp I)(aQ ae:Int)(P O N M G F E z y x w s q:Int)(r:RV)(p:Sl r):∃o,TB.Ev 89 (wk W D A B C J u H ps sp I++[.i aQ,.i ae,.i P,.i O,.i N,.i M,.i G,.i F,.i E,.i z,.i y,.i x,.i w,.i s,.i q,.r r]) o/\∃ys,o=.ret ys/\dg (kI 14) ys=true:=by
 refine eA rfl rfl (.inl rfl) ?_;have V:=D3 W D A B C J u H ps sp I X h aQ ae;have U:=(xf W D A B C J u H ps sp I X h).2;have n:=Lx W D A B C J u H ps sp I (aQ:=aQ) (ae:=ae) U;have m:=Rm W D A B C J u H ps sp I (aQ:=aQ) (ae:=ae) U;simp only[wk,awV,awX] at V;generalize cm W D A B C J u H ps sp I aQ ae=l at*;generalize jc W D A B C J u H ps sp I aQ ae=e at*;obtain⟨o,k,v,b,rfl,h3,j⟩:=ai4 l r p n m;simp[Rf,wk,bo V,bo k];intro _ _ d;have hv:v.length<=4096:=by have:=(j d).1;omega
 refine cd v.length (λi rest=>dg (kI 26) rest=true) ⟨0,rfl,by omega,rfl⟩ ?_;rintro i rest hi c;obtain⟨f,rfl⟩:=HZ c;rw[show aw3 26=[0,1,2,3,4,5,6,7,8,9,10,11,12,13,14,15,16,17,18,19,20,21,22,23,24,25] from rfl];simp;intro hi;obtain⟨o,Z,ys,rfl,a⟩:=Q (f 13) (f 14) (f 15) (f 16) (f 17) (f 18) (f 19) (f 20) (f 21) (f 22) (f 23) (f 24) (f 25) (bm v i) (bm v i 14) (bm v i 15) (bm v i 16) (jm (cellAt v i 17).val);obtain⟨g,rfl⟩:=HZ a;rw[show aw3 14=[0,1,2,3,4,5,6,7,8,9,10,11,12,13] from rfl] at Z;simp only[fJ,bm,awV,awX,awT,ax0] at Z;simp[bo Z,bF hi (show v.length<=140737488355328 by omega),hi]
end
end
section
section
variable{R:aV->Prop}{ks:List LK}{t:T}{ρ:aa}{L:List PC}
def t81(Z:Int)(W ps sp:RV)(X:Sl W)(V:Sl ps)(U:Sl sp):∃o,TB.Ev 81 [.i Z,.r W,.r ps,.r sp] o/\∃e,o=.ret [.i e]/\(e=0->HR W/\1<=Z/\Z<=4096):=by
 refine eA rfl rfl (.inr λv P=>by obtain⟨_,h,_⟩:=P;cases h) ?_;simp[ZP,X.len,V.len,U.len]
 repeat'(first|intro _|split)
 refine⟨by assumption, ?_⟩;intro O;have N:0<W.rows.length:=by assumption
 have Q:HR W:=⟨X,N,by simpa[ci] using O⟩;have M:1<=Z/\Z<=4096:=by omega
 refine cd W.rows.length (λ_ rest=>∃n:Int,rest=[.i n]) ⟨0,rfl,by omega,_,rfl⟩ ?_;rintro i _ hi ⟨n,rfl⟩;simp[X.len,V.len,U.len];split;rename_i hi;simp[bF hi X.sm,hi];refine cd Z.toNat (λ_ rest=>rest=[]) ⟨0,rfl,by omega,rfl⟩ ?_;rintro i _ hi rfl;simp[X.len,V.len,U.len];split;rename_i hi;have J:i<Z.toNat:=by omega
 rw[aiV _ _ _ _ _ Q (by omega)];simp[bF J (show Z.toNat<=140737488355328 by omega)];refine cd ps.rows.length (λ_ rest=>∃n:Int,rest=[.i n]) ⟨0,rfl,by omega,_,rfl⟩ ?_;rintro i _ hi ⟨n,rfl⟩;simp[X.len,V.len,U.len];split;rename_i hi;simp[bF hi V.sm,hi];refine cd sp.rows.length (λ_ rest=>rest=[]) ⟨0,rfl,by omega,rfl⟩ ?_;rintro i _ hi rfl;simp[X.len,V.len,U.len];split;rename_i hi;simp[bF hi U.sm,hi];exact⟨Q,M⟩
def pZ:rz:=λZ X ps sp W V U=>D0 (t81 Z X ps sp W V U)
end
end
section
section
variable{R:aV->Prop}{ks:List LK}{t:T}{ρ:aa}{L:List PC}
variable(W D A B C J:Int)(H I ps sp u:RV)
def Z1{v:RV}{t0:T}{e:TypeId}{rs X V:List RK}(Z:Sl v)(Q:v.rows.length<=536870912)(U:t0=.eC (.c true) (.cmp .leq (.len (.v 0)) (.c 0)) (.az (.cmp .leq (.len (.v 0)) (.c 536870912)) (.new e (.jG (.lit []) (.ref (.v 0))) rs X (.ret (.ref (.v 1)) [] V))) (.ret (.ref (.k (.slice none 0 0))) [] rs)):T.wp TB.Ev (· =.ret [.r (aH v.rows)]) t0 (dY [] [.r v]) []:=by
 subst U;rw[By];refine⟨.inl rfl,λ_=> ?_,λh=> ?_,λ_ h=> ?_⟩;simp[sf,Z.len];omega
 all_goals
  have h:v.rows=[]:=by
   simp[Z.len] at h;exact h
 simp[sf,h];exact single (by rw[h];rfl)
def e86(v:RV)(Z:Sl v)(h:v.rows.length<=536870912):TB.Ev 86 [.r v] (.ret [.r (aH v.rows)]):=iJ rfl rfl (.inl rfl) (Z1 Z h rfl)
def e87(v:RV)(Z:Sl v)(h:v.rows.length<=536870912):TB.Ev 87 [.r v] (.ret [.r (aH v.rows)]):=iJ rfl rfl (.inl rfl) (Z1 Z h rfl)
def e88(v:RV)(Z:Sl v)(h:v.rows.length<=536870912):TB.Ev 88 [.r v] (.ret [.r (aH v.rows)]):=iJ rfl rfl (.inl rfl) (Z1 Z h rfl)
def aqq(v:RV)(Z:Sl v)(a b c:Int)(d:Bool):∃o,TB.Ev 173 [.r v,.i a,.i b,.i c,.b d] o/\∃ys,o=.ret ys/\dg (kI 1) ys=true:=by
 refine eA rfl rfl (.inl rfl) ?_;simp[ZA,Z.len];refine cd v.rows.length (λ_ rest=>rest=[]) ⟨0,rfl,by omega,rfl⟩ ?_;rintro i _ hi rfl;simp[Z.len];intro hi;simp[bF hi Z.sm,hi]
def aqr(v:RV)(Z:Sl v)(a b c:Int)(d:Bool):∃o,TB.Ev 102 [.r v,.i a,.i b,.i c,.b d] o/\∃ys,o=.ret ys/\dg [.bool] ys=true:=by
 refine eA rfl rfl (.inl rfl) ?_;have h:=jT _ (aqq v Z a b c d);simp[Zz,bo h,pW]
def ajb(v:RV)(Z:Sl v)(a b c:Int)(d:Bool):eP TB.Ev R 102 [.r v,.i a,.i b,.i c,.b d] ks t ρ L=eX TB.Ev R (.ret [.b (ob 102 [.r v,.i a,.i b,.i c,.b d] 0)]) ks t ρ L:=bo (jT [.bool] (aqr v Z a b c d))
def aqs(X:rz)(h:iL H I ps sp u)(id:Int):∃o,TB.Ev 143 (wk W D A B C J H I ps sp u++[.i id]) o/\∃ys,o=.ret ys/\dg (kI 15) ys=true:=by
 refine eA rfl rfl (.inl rfl) ?_;obtain⟨Z,P⟩:=xf W D A B C J H I ps sp u X h;simp only[wk] at Z;simp[ZS,wk,h.sg.len,bo Z];intro O;have N:=h.sg.sm;refine Bz (λxs=>∃i j:Nat,xs=[.i i,.i j]/\i<=j/\j<=u.rows.length) (λxs=>(xi xs 1-xi xs 0).toNat) ⟨0,u.rows.length,by simp[h.sg.len],by omega,by omega⟩ ?_;rintro _ ⟨i,j,rfl,V,M⟩;simp[xi,Bw,h.sg.len,aiU (show j<=140737488355328 by omega) V];split;rename_i G;refine⟨by omega, ?_⟩;have U:((i:Int)+j)/2=(((i+j)/2:Nat):Int):=by omega
 have Q:=BB (i:=(i+j)/2) (by omega);rw[U,Q];split;exact⟨⟨(i+j)/2+1,j,⟨rfl,rfl⟩,by omega,by omega⟩,by omega⟩;exact⟨⟨i,(i+j)/2,⟨rfl,rfl⟩,by omega,by omega⟩,by omega⟩;intro hi;omega
def aqt(P:vf W D J H I u)(h:iL H I ps sp u)(ae:Int)(X O N Z bx:RV)(c:Nat->Int)(U:Sl X)(Q:Sl Z)(F:X.rows.length=H.rows.length)(E:Z.rows.length=H.rows.length)(aM:∀i<Z.rows.length,Sl (cr 96 Z i)):∃o,TB.Ev 103 (wk W D A B C J H I ps sp u++[.i ae,.r X,.r O,.r N,.r Z,.r bx]++fJ c) o/\∃ys,o=.ret ys/\dg [.bool] ys=true:=by
 refine eA rfl rfl (.inl rfl) ?_;simp[ZB,wk,fJ,h.sg.len,U.len,Q.len];refine cd u.rows.length (λ_ rest=>rest=[]) ⟨0,rfl,by omega,rfl⟩ ?_;rintro i _ hi rfl;simp[h.sg.len,U.len,Q.len];intro hi;simp[bF hi h.sg.sm,hi];intros;have M:=(P.Lw i hi).aQ;simp only[ci] at M;refine⟨by omega,λ_=>⟨by omega, ?_⟩⟩;have G:(ba (cellAt u.rows (i:Int) 1).val).toNat<Z.rows.length:=by omega
 have V:=aM _ G;simp only[cr] at V;rw[show(((ba (cellAt u.rows (i:Int) 1).val).toNat:Nat):Int)=ba (cellAt u.rows (i:Int) 1).val by omega] at V;rw[ajb _ V];simp[bF hi h.sg.sm,hi]
end
end
section
section
variable{R:aV->Prop}{ks:List LK}{t:T}{ρ:aa}{L:List PC}
variable(W D A B C J:Int)(I O ps sp H:RV)
def kB:Nat->List LK
 |0=>[]
 |n+1=>.bool::kB n
@[simp] def kB0:kB 0=[]:=rfl
@[simp] def kBs (n:Nat):kB (n+1)=.bool::kB n:=rfl
def Rt:∀{n:Nat}{ys:List XV},dg (kB n) ys=true->∃f:Nat->Bool,ys=(aw3 n).map λk=>.b (f k)
 |0,[],_=>⟨λ_=>false,rfl⟩
 |0,_::_,h=>by simp at h
 |n+1,[],h=>by simp at h
 |n+1,y::ys,h=>by
  simp only[kBs,dg,awF] at h;obtain⟨f,Z⟩:=Rt (n:=n) (ys:=ys) h.2;cases y<;>simp only[FP,aw0,false_and] at h;rename_i x;refine⟨λk=>match k with
   |0=>x
   |k+1=>f k, ?_⟩
  rw[Z,aza];simp
def ajc:∀{n:Nat}{ys:List XV},dg (kI n++[.bool]) ys=true->∃(f:Nat->Int)(b:Bool),ys=(aw3 n).map (λk=>.i (f k))++[.b b]
 |0,[],h=>by simp at h
 |0,[.b b],_=>⟨λ_=>0,b,rfl⟩
 |0,[.i _],h=>by simp at h
 |0,[.r _],h=>by simp at h
 |0,_::_::_,h=>by simp at h
 |n+1,[],h=>by simp at h
 |n+1,y::ys,h=>by
  simp only[HV,awV,dg,awF] at h;obtain⟨f,b,Z⟩:=ajc (n:=n) (ys:=ys) h.2;cases y<;>simp only[FP,aw0,false_and] at h;rename_i x;refine⟨λk=>match k with
   |0=>x
   |k+1=>f k,b, ?_⟩
  rw[Z,aza];simp
def gl0:RV:=py[0]?.getD default
def D4:RV:=py[1]?.getD default
def gl2:RV:=py[2]?.getD default
def aqx:py=[gl0,D4,gl2]:=rfl
def Ru:lenOf D4.val=10:=rfl
def mF(k:Int)(j:Nat):RV:=dv (.sl 3) (cellAt D4.rows k j)
def aqy{k s:Int}(V:1<=k/\k<=9)(Z:if k=1\/k=3\/k=4\/k=9 then 1<=s/\s<=2 else s=0):
  (lenOf (mF k 0).val=(mF k 0).rows.length/\(mF k 0).rows.length<=2/\∀i:Nat,i<(mF k 0).rows.length->0<=ba (cellAt (mF k 0).rows i 0).val/\ba (cellAt (mF k 0).rows i 0).val<=2/\1<=s/\s<=2)/\
  (lenOf (mF k 1).val=(mF k 1).rows.length/\(mF k 1).rows.length<=2/\∀i:Nat,i<(mF k 1).rows.length->0<=ba (cellAt (mF k 1).rows i 0).val/\ba (cellAt (mF k 1).rows i 0).val<=4):=by
 have:k=1\/k=2\/k=3\/k=4\/k=5\/k=6\/k=7\/k=8\/k=9:=by omega
 rcases this with rfl|rfl|rfl|rfl|rfl|rfl|rfl|rfl|rfl
 all_goals
  simp at Z;refine⟨⟨rfl,by decide,λi hi=> ?_⟩,rfl,by decide,λi hi=> ?_⟩
  all_goals
   simp[mF,D4,py,uo,sV,iV,cellAt,dv,-aiW] at hi
   try
    have X:i=0\/i=1:=by omega
    rcases X with rfl|rfl
    all_goals simp[mF,D4,py,uo,sV,iV,cellAt,dv,ba,-aiW] at hi⊢
    all_goals(try omega)
def aqz{aQ ae:Int}{v:List (List RV)}{r:RV}(V:jE W D A B C J I O ps sp H=0->vf W D J I O H)(h:tA (cm W D A B C J I O ps sp H aQ ae) r (cm W D A B C J I O ps sp H aQ ae).length v){i:Nat}(hi:i<v.length):∃c,vd I.rows.length J c/\∀j<14,ba (cellAt v (i:Int) j).val=c j:=by
 rw[h.1] at hi;obtain⟨k,G,U,F⟩:=h.2 i hi;obtain⟨x,X⟩:∃x,(cm W D A B C J I O ps sp H aQ ae)[i]?=some x:=⟨_,awH hi⟩;obtain⟨m,E,Q,z,y,P⟩:=ai2 W D A B C J I O ps sp H V (aw1 X);refine⟨ci H m,P,λj Z=> ?_⟩;have N:∀j<14,bm (cm W D A B C J I O ps sp H aQ ae) i j=ci H m j:=λj Z=>by
  have:=HT (ci H m) j Z;simp only[bm,cellAt,axy,awK,X,Q];simpa[aK] using this
 have M:∀j<14,ba ((ZZ (bm (cm W D A B C J I O ps sp H aQ ae) i) r k).getD j default).val=bm (cm W D A B C J I O ps sp H aQ ae) i j:=λj Z=>by
  match j,Z with
  |0,_|1,_|2,_|3,_|4,_|5,_|6,_|7,_|8,_|9,_|10,_|11,_|12,_|13,_=>rfl
 rw[<-N j Z,<-M j Z];simp only[cellAt,axy,awK,U];rfl
set_option maxHeartbeats 8000000 in
def t90 (q:rz) (h:iL I O ps sp H) (aQ ae:Int) (x0 x1 x2 x3 x4 x5 x6 x7 x8 x9 an a0 a1:Int) (U:RV) (a2:zt U) (y0 y1 y2 y3 y4 y5 y6 y7 y8 y9 a3 a4 a5 a6 a7 a8:Int) (r:RV) (hr:Sl r):∃o,TB.Ev 90 (wk W D A B C J I O ps sp H++[.i aQ,.i ae,.i x0,.i x1,.i x2,.i x3,.i x4,.i x5,.i x6,.i x7,.i x8,.i x9,.i an,.i a0,.i a1,.r U,.i y0,.i y1,.i y2,.i y3,.i y4,.i y5,.i y6,.i y7,.i y8,.i y9,.i a3,.i a4,.i a5,.i a6,.i a7,.i a8,.r r]) o/\∃ys,o=.ret ys/\dg (kI 5) ys=true:=by
 refine eA rfl rfl (.inl rfl) ?_;have p:=D3 W D A B C J I O ps sp H q h aQ ae;have Q:=(xf W D A B C J I O ps sp H q h).2;have hl:=Lx W D A B C J I O ps sp H (aQ:=aQ) (ae:=ae) Q;have hk:=Rm W D A B C J I O ps sp H (aQ:=aQ) (ae:=ae) Q;have fT:= @aqz W D A B C J I O ps sp H aQ ae;simp only[wk,awV,awX] at p;generalize cm W D A B C J I O ps sp H aQ ae=l at*;generalize jc W D A B C J I O ps sp H aQ ae=e at*;obtain⟨o,h2,v,b,rfl,h3,h4⟩:=ai4 l r hr hl hk;simp[ZR,wk,aqx,Ru,bo p,bo h2,Z0 U a2];intro _ _ _ hb;have m:=h4 hb;have hv:v.length<=4096:=by have:=m.1;omega
 have P:v.length<=140737488355328:=by omega
 refine cd v.length (λi rest=>dg (kB 6) rest=true) ⟨0,rfl,by omega,rfl⟩ ?_;rintro i rest hi Z;obtain⟨f,rfl⟩:=Rt Z;rw[show aw3 6=[0,1,2,3,4,5] from rfl];simp;split
 ·rename_i hi;obtain⟨c,N,j⟩:=fT Q m hi;have M:=j 4 (by omega);have d:=j 5 (by omega);obtain⟨G,F⟩:=aqy N.kind N.side;have a9:=N.kind;have af:dv (.sl 3) (cellAt D4.rows (c 4) 0)=mF (c 4) 0:=rfl;have ag:dv (.sl 3) (cellAt D4.rows (c 4) 1)=mF (c 4) 1:=rfl;generalize mF (c 4) 0=E at G af;generalize mF (c 4) 1=z at F ag;simp[bF hi P,hi,M,Ru];intro _;split
  all_goals
   refine⟨by omega, ?_⟩;refine cd E.rows.length (λ_ rest=>dg (kB 5) rest=true) ⟨0,rfl,by omega,rfl⟩ ?_;rintro a rest X Z;obtain⟨g,rfl⟩:=Rt Z;rw[show aw3 5=[0,1,2,3,4] from rfl];simp[M,d,af,G.1,Ru];split;rename_i X;have y:=G.2.2 a X;generalize ba (cellAt E.rows (a:Int) 0).val=x at y;rw[show bh .sub .i64 (bh .add .i64 x (c 5)) 1=x+c 5-1 by simp only[bh];rw[iK (n:=x+c 5) (by omega) (by omega),iK (by omega) (by omega)]];simp[bF X (show E.rows.length<=140737488355328 by omega),X];omega;refine⟨by omega, ?_⟩;refine cd z.rows.length (λ_ rest=>dg (kB 5) rest=true) ⟨0,rfl,by omega,rfl⟩ ?_;rintro a' rest V Z;obtain⟨g',rfl⟩:=Rt Z;rw[show aw3 5=[0,1,2,3,4] from rfl];simp[M,d,ag,F.1,Ru];split;rename_i V;have y:=F.2.2 a' V;generalize ba (cellAt z.rows (a':Int) 0).val=x at y;simp[bF V (show z.rows.length<=140737488355328 by omega),V];omega;simp[bF hi P,hi]
 refine cd 5 (λ_ rest=>dg (kI 4) rest=true) ⟨0,rfl,by omega,rfl⟩ ?_;rintro k rest w Z;obtain⟨g,rfl⟩:=HZ Z;rw[show aw3 4=[0,1,2,3] from rfl];have hq:bh .quo .i64 (k:Int) 2=((k/2:Nat):Int):=by
  simp only[bh];rw[show(k:Int).tdiv 2=((k/2:Nat):Int) by rw[Int.tdiv_eq_ediv_of_nonneg (by omega)];omega];exact iK (by omega) (by omega)
 simp[hq];split;rename_i w;have w:k<5:=by omega
 simp[bF w (show 5<=140737488355328 by omega)];omega;intro _;refine cd v.length (λ_ rest=>dg (kI 17++[.bool]) rest=true) ⟨0,rfl,by omega,rfl⟩ ?_;rintro i rest hi Z;obtain⟨f,b',rfl⟩:=ajc Z;rw[show aw3 17=[0,1,2,3,4,5,6,7,8,9,10,11,12,13,14,15,16] from rfl];simp;intro hi;obtain⟨o,s,ys,rfl,q2⟩:=Rq (f 4) (f 5) (f 6) (f 7) (f 8) (f 9) (f 10) (f 11) (f 12) (f 13) (f 14) (f 15) (f 16) (bm v i) (bm v i 14) (bm v i 15) (bm v i 16) (jm (cellAt v i 17).val);obtain⟨u,rfl⟩:=HZ q2;rw[show aw3 14=[0,1,2,3,4,5,6,7,8,9,10,11,12,13] from rfl] at s;simp only[fJ,bm,awV,awX,awT,ax0] at s;refine⟨hi, ?_⟩;rw[bo s];simp[bF hi P,hi]
end
end
section
section
variable{R:aV->Prop}{ks:List LK}{t:T}{ρ:aa}{L:List PC}
variable(W D A B C J:Int)(c H ps sp I:RV)
def Z2{cs:List Nat}{d:Bool}{rows:List (List RV)}(Z:rows.length<=1099511627776):dw (.lex cs d) true rows=some (be (aJ.lex cs d).lt rows):=by
 simp only[dw];rw[if_pos (by simp[Z,aJ.ok])]
set_option maxHeartbeats 8000000 in
def t78 (hc:rz) (h:iL c H ps sp I) (id:Int) (x:RV) (a4:zt x) (w s p m l f d b a y9 af P O N ag an:Int):∃o,TB.Ev 78 (wk W D A B C J c H ps sp I++[.i id,.r x,.i w,.i s,.i p,.i m,.i l,.i f,.i d,.i b,.i a,.i y9,.i af,.i P,.i O,.i N,.i ag,.i an]) o/\∃v e,o=.ret [.r (aH v),.i e]/\v.length<=100:=by
 refine eA rfl rfl (.inl rfl) ?_;have X:=jT _ (aqs W D A B C J c H ps sp I hc h id);have V:=f75 x a4 w s p m l f d b a y9 af P O N ag an;simp only[wk,awV,awX,HV,Ro,pW] at X;generalize xi (out 143 [XV.i W,XV.i D,XV.i A,XV.i B,XV.i C,XV.r c,XV.i J,XV.r H,XV.r ps,XV.r sp,XV.r I,XV.i id])=g at X;generalize HW x w s p m l f d b a y9 af P O N ag an=a5 at V;by_cases U:g 14=0;by_cases Q:a5=0;have ht:=V.2 Q;have Z:g 4=1\/g 4=2\/g 4=9\/g 4=3\/g 4=4\/g 4=5\/(g 4≠1/\g 4≠2/\g 4≠9/\g 4≠3/\g 4≠4/\g 4≠5):=by omega
 rcases Z with Z|Z|Z|Z|Z|Z|⟨k1,k2,k3,k4,k5,k6⟩
 ·simp(config:={maxSteps:=10000000}) [uX,wk,bo X,bo V.1,U,Q,Z]
  repeat' split
  all_goals exact⟨_,rfl,by simp⟩
 ·simp(config:={maxSteps:=10000000}) [uX,wk,bo X,bo V.1,U,Q,Z]
  repeat' split
  all_goals exact⟨_,rfl,by simp⟩
 ·simp(config:={maxSteps:=10000000}) [uX,wk,bo X,bo V.1,U,Q,Z]
  repeat' split
  all_goals exact⟨_,rfl,by simp⟩
 simp(config:={maxSteps:=10000000}) [uX,wk,bo X,bo V.1,U,Q,Z];have hT:1<=P/\P<=3:=ht.1;obtain⟨cO,M⟩:∃n:Nat,P=n:=⟨P.toNat,by omega⟩;subst M;refine cd 9 (λi rest=>∃v,rest=[.r (aH v)]/\v.length<=3*i) ⟨0,rfl,by omega,[],rfl,by simp⟩ ?_;rintro i _ hi ⟨v,rfl,G⟩;simp;split;rename_i a0;have F:i<9:=by omega
 refine cd (cO+1) (λj rest=>1<=j/\∃v,rest=[.r (aH v)]/\v.length+1<=3*i+j) ⟨1,rfl,by omega,by omega,v,rfl,by omega⟩ ?_;rintro j _ hj ⟨a1,v,rfl,G⟩;simp;split
 ·rename_i a2;have E:j<cO+1:=by omega
  simp[bF E (show cO+1<=140737488355328 by omega)]
  repeat'(first|intro _|split)
  all_goals first
   |exact⟨v,rfl,by omega⟩
   |(refine⟨by omega,_,rfl,by simp;omega⟩)
   |(refine⟨⟨by omega,by omega⟩,_,rfl,by simp;omega⟩)
 simp[bF F (show 9<=140737488355328 by omega)];exact⟨v,rfl,by omega⟩;rw[pV];refine⟨_,Z2 (by simp;omega), ?_⟩;have z:(be (aJ.lex [4] true).lt v).length=v.length:=kC;simp;generalize hq:be (aJ.lex [4] true).lt v=q at z;refine cd q.length (λi rest=>∃u,rest=[.r (aH u)]/\u.length=i) ⟨0,rfl,by omega,[],rfl,rfl⟩ ?_;rintro k _ a3 ⟨u,rfl,hu⟩;simp;split;rename_i y;refine⟨y,by omega, ?_⟩;rw[bF (show k<q.length by omega) (show q.length<=140737488355328 by omega)];exact⟨_,rfl,by simp;omega⟩
 ·repeat'(first|intro _|split)
  all_goals first
   |exact⟨u,rfl,by omega⟩
   |(refine⟨by omega,_,rfl, ?_⟩;simp;omega)
   |(refine⟨⟨by omega,by omega⟩,_,rfl, ?_⟩;simp;omega)
 simp(config:={maxSteps:=10000000}) [uX,wk,bo X,bo V.1,U,Q,Z];have hT:1<=O/\O<=3:=ht.2.1;obtain⟨cO,M⟩:∃n:Nat,O=n:=⟨O.toNat,by omega⟩;subst M;refine cd 9 (λi rest=>∃v,rest=[.r (aH v)]/\v.length<=3*i) ⟨0,rfl,by omega,[],rfl,by simp⟩ ?_;rintro i _ hi ⟨v,rfl,G⟩;simp;split;rename_i a0;have F:i<9:=by omega
 refine cd (cO+1) (λj rest=>1<=j/\∃v,rest=[.r (aH v)]/\v.length+1<=3*i+j) ⟨1,rfl,by omega,by omega,v,rfl,by omega⟩ ?_;rintro j _ hj ⟨a1,v,rfl,G⟩;simp;split
 ·rename_i a2;have E:j<cO+1:=by omega
  simp[bF E (show cO+1<=140737488355328 by omega)]
  repeat'(first|intro _|split)
  all_goals first
   |exact⟨v,rfl,by omega⟩
   |(refine⟨by omega,_,rfl,by simp;omega⟩)
   |(refine⟨⟨by omega,by omega⟩,_,rfl,by simp;omega⟩)
 simp[bF F (show 9<=140737488355328 by omega)];exact⟨v,rfl,by omega⟩;rw[pV];refine⟨_,Z2 (by simp;omega), ?_⟩;have z:(be (aJ.lex [4] true).lt v).length=v.length:=kC;simp;generalize hq:be (aJ.lex [4] true).lt v=q at z;refine cd q.length (λi rest=>∃u,rest=[.r (aH u)]/\u.length=i) ⟨0,rfl,by omega,[],rfl,rfl⟩ ?_;rintro k _ a3 ⟨u,rfl,hu⟩;simp;split;rename_i y;refine⟨y,by omega, ?_⟩;rw[bF (show k<q.length by omega) (show q.length<=140737488355328 by omega)];exact⟨_,rfl,by simp;omega⟩
 ·repeat'(first|intro _|split)
  all_goals first
   |exact⟨u,rfl,by omega⟩
   |(refine⟨by omega,_,rfl, ?_⟩;simp;omega)
   |(refine⟨⟨by omega,by omega⟩,_,rfl, ?_⟩;simp;omega)
 simp(config:={maxSteps:=10000000}) [uX,wk,bo X,bo V.1,U,Q,Z];have hT:1<=N/\N<=3:=ht.2.2;obtain⟨cO,M⟩:∃n:Nat,N=n:=⟨N.toNat,by omega⟩;subst M;refine cd 9 (λi rest=>∃v,rest=[.r (aH v)]/\v.length<=3*i) ⟨0,rfl,by omega,[],rfl,by simp⟩ ?_;rintro i _ hi ⟨v,rfl,G⟩;simp;split;rename_i a0;have F:i<9:=by omega
 refine cd (cO+1) (λj rest=>1<=j/\∃v,rest=[.r (aH v)]/\v.length+1<=3*i+j) ⟨1,rfl,by omega,by omega,v,rfl,by omega⟩ ?_;rintro j _ hj ⟨a1,v,rfl,G⟩;simp;split
 ·rename_i a2;have E:j<cO+1:=by omega
  simp[bF E (show cO+1<=140737488355328 by omega)]
  repeat'(first|intro _|split)
  all_goals first
   |exact⟨v,rfl,by omega⟩
   |(refine⟨by omega,_,rfl,by simp;omega⟩)
   |(refine⟨⟨by omega,by omega⟩,_,rfl,by simp;omega⟩)
 simp[bF F (show 9<=140737488355328 by omega)];exact⟨v,rfl,by omega⟩;rw[pV];refine⟨_,Z2 (by simp;omega), ?_⟩;have z:(be (aJ.lex [4] true).lt v).length=v.length:=kC;simp;generalize hq:be (aJ.lex [4] true).lt v=q at z;refine cd q.length (λi rest=>∃u,rest=[.r (aH u)]/\u.length=i) ⟨0,rfl,by omega,[],rfl,rfl⟩ ?_;rintro k _ a3 ⟨u,rfl,hu⟩;simp;split;rename_i y;refine⟨y,by omega, ?_⟩;rw[bF (show k<q.length by omega) (show q.length<=140737488355328 by omega)];exact⟨_,rfl,by simp;omega⟩
 ·repeat'(first|intro _|split)
  all_goals first
   |exact⟨u,rfl,by omega⟩
   |(refine⟨by omega,_,rfl, ?_⟩;simp;omega)
   |(refine⟨⟨by omega,by omega⟩,_,rfl, ?_⟩;simp;omega)
 ·simp(config:={maxSteps:=10000000}) [uX,wk,bo X,bo V.1,U,Q,k1,k2,k3,k4,k5,k6]
  repeat' split
  all_goals exact⟨_,rfl,by simp⟩
 simp(config:={maxSteps:=10000000}) [uX,wk,bo X,bo V.1,U,Q];exact⟨_,rfl,by simp⟩
 ·simp(config:={maxSteps:=10000000}) [uX,wk,bo X,bo V.1,U]
  repeat'(first|intro _|split)
  all_goals exact⟨_,rfl,by simp⟩
end
end
section
section
variable{R:aV->Prop}{ks:List LK}{t:T}{ρ:aa}{L:List PC}
variable(W D A B C I:Int)(H J ps sp O:RV)
def vB(v:RV)(i:Nat):Bool:=cE (ci v i 0) (ci v i 1) (ci v i 2) (ci v i 3)
def eL(u:RV)(i:Nat)(w:RV)(k:Nat):Bool:=vB u i&&vB w k&&uY (ci u i 0) (ci u i 1) (ci u i 2) (ci u i 3) (ci w k 0) (ci w k 1) (ci w k 2) (ci w k 3)
def p7(W D:Int)(u:RV)(i:Nat):Bool:=vB u i&&cE 0 (bh .mul .i64 841 W) 0 (bh .mul .i64 841 D)&&BA (ci u i 0) (ci u i 1) (ci u i 2) (ci u i 3) 0 (bh .mul .i64 841 W) 0 (bh .mul .i64 841 D)
def gD(pr:RV):Nat->List (List RV)
 |0=>[]
 |i+1=>eD 2 [.mk (.int .i64 (ci pr i 0)) [],.mk (.int .i64 (ci pr i 1)) [],.mk (.bool true) []] (gD pr i)
def fm(rows:List (List RV))(a b:Nat):Bool:=BE.den ⟨[(a:Int),(b:Int)],[],[aH rows],[]⟩ (.look (.v 0) 2 (.v 0) (.v 1) (.c 0) 2)
def BC(Z:RV)(ae:Int):Nat->List (List RV)
 |0=>[]
 |i+1=>BC Z ae i++[[.mk (.int .i64 (iM (ci Z i) ae 0)) [],.mk (.int .i64 (iM (ci Z i) ae 1)) [],.mk (.int .i64 (iM (ci Z i) ae 2)) [],.mk (.int .i64 (iM (ci Z i) ae 3)) []]]
def H0(Z:RV)(ae:Int):∀i,(BC Z ae i).length=i
 |0=>rfl
 |i+1=>by simp[BC,H0 Z ae i]
def ajd(Z:RV)(ae:Int){k:Nat}:∀{i},k<i->(BC Z ae i)[k]?=some [.mk (.int .i64 (iM (ci Z k) ae 0)) [],.mk (.int .i64 (iM (ci Z k) ae 1)) [],.mk (.int .i64 (iM (ci Z k) ae 2)) [],.mk (.int .i64 (iM (ci Z k) ae 3)) []]
 |0,h=>by omega
 |i+1,h=>by
  by_cases X:k=i;subst X;rw[BC,awM (by rw[H0];omega),H0];simp;rw[BC,awI (by rw[H0];omega)];exact ajd Z ae (by omega)
def kM(u:RV)(i:Nat)(Z:RV)(ae:Int)(g:Nat):Bool:=vB u i&&cE (iM (ci Z g) ae 0) (iM (ci Z g) ae 1) (iM (ci Z g) ae 2) (iM (ci Z g) ae 3)&&uY (ci u i 0) (ci u i 1) (ci u i 2) (ci u i 3) (iM (ci Z g) ae 0) (iM (ci Z g) ae 1) (iM (ci Z g) ae 2) (iM (ci Z g) ae 3)
def Rv(Z:RV)(ae:Int){n k:Nat}(h:k<n)(j:Nat)(X:j<4):ba (cellAt (BC Z ae n) (k:Int) j).val=iM (ci Z k) ae j:=by
 simp only[cellAt,axy,awK,ajd Z ae h]
 match j,X with
 |0,_|1,_|2,_|3,_=>rfl
def Rw{α:Type}{v:List α}{Q:Prop}{P:Nat->Prop}{b:Nat}(h:v=[]<->Q/\∀Z<b,P Z)(U:P b):v=[]<->Q/\∀Z<b+1,P Z:=by
 rw[h];refine⟨λ⟨X,V⟩=>⟨X,λZ O=> ?_⟩,λ⟨X,V⟩=>⟨X,λZ O=>V Z (by omega)⟩⟩;by_cases N:Z=b;subst N;exact U;exact V Z (by omega)
def Rx{α:Type}{v:List α}{x:α}{Q:Prop}{P:Nat->Prop}{b:Nat}(Z:¬P b):v++[x]=[]<->Q/\∀X<b+1,P X:=
 ⟨λh=>by simp at h,λ⟨_,V⟩=>absurd (V b (by omega)) Z⟩
def aqC{α:Type}{v:List α}{Q:Prop}{P:Nat->Nat->Prop}{a n:Nat}(h:v=[]<->(Q/\∀a'<a,∀b<n,P a' b)/\∀O<n,P a O):v=[]<->Q/\∀a'<a+1,∀b<n,P a' b:=by
 rw[h];refine⟨λ⟨⟨X,Z⟩,V⟩=>⟨X,λa' M b U=> ?_⟩,λ⟨X,Z⟩=>⟨⟨X,λa' V=>Z a' (by omega)⟩,Z a (by omega)⟩⟩;by_cases N:a'=a;subst N;exact V b U;exact Z a' (by omega) b U
structure BD(wg:RV)(ae:Int)(mv hd pr:RV):Prop where
 wk:jE W D A B C I H J ps sp O=0
 nw:wg.rows.length<=8
 Lz:gt ae 0 (I-1)=true
 lm:mv.rows.length=H.rows.length
 lh:hd.rows.length=H.rows.length
 vm:∀i<mv.rows.length,vB mv i=true
 vh:∀i<hd.rows.length,vB hd i=true
 zu:∀i<pr.rows.length,0<=ci pr i 0/\ci pr i 0<ci pr i 1/\ci pr i 1<H.rows.length
 D5:∀g<wg.rows.length,iM (ci wg g) ae 4=0
 n1:∀a<H.rows.length,∀b,a<b->b<H.rows.length->fm (gD pr pr.rows.length) a b=true\/eL mv a mv b=true
 n2:∀a<H.rows.length,∀b,a<b->b<H.rows.length->fm (gD pr pr.rows.length) a b=true\/eL mv a hd b=true
 n3:∀a<H.rows.length,∀b,a<b->b<H.rows.length->fm (gD pr pr.rows.length) a b=true\/eL hd a mv b=true
 n4:∀a<H.rows.length,∀b,a<b->b<H.rows.length->fm (gD pr pr.rows.length) a b=true\/eL hd a hd b=true
 Z3:∀a<H.rows.length,∀g<wg.rows.length,kM mv a wg ae g=true/\kM hd a wg ae g=true
 Z4:∀a<H.rows.length,p7 W D mv a=true/\p7 W D hd a=true
def tB{P:Nat->Prop}{i:Nat}(h:∀k<i,P k)(hi:P i):∀k<i+1,P k:=λk X=>by
 by_cases Z:k=i;subst Z;exact hi;exact h k (by omega)
def BF{A Q:Prop}{P:Nat->Prop}(h:A<->Q):A<->Q/\∀a'<0,P a':=by simp[h]
def Ry{A Q:Prop}{P:Nat->Prop}{a:Nat}(h:A<->Q):A<->Q/\∀Z,a<Z->Z<a+1->P Z:=by
 rw[h];exact⟨λh=>⟨h,λZ X V=>by omega⟩,λh=>h.1⟩
def BG{α:Type}{v:List α}{Q:Prop}{P:Nat->Prop}{a b:Nat}(h:v=[]<->Q/\∀Z,a<Z->Z<b->P Z)(O:P b):v=[]<->Q/\∀Z,a<Z->Z<b+1->P Z:=by
 rw[h];refine⟨λ⟨X,V⟩=>⟨X,λZ U N=> ?_⟩,λ⟨X,V⟩=>⟨X,λZ U N=>V Z U (by omega)⟩⟩;by_cases M:Z=b;subst M;exact O;exact V Z U (by omega)
def Rz{α:Type}{v:List α}{x:α}{Q:Prop}{P:Nat->Prop}{a b:Nat}(X:a<b)(V:¬P b):v++[x]=[]<->Q/\∀Z,a<Z->Z<b+1->P Z:=by
 refine⟨λh=>by simp at h,λ⟨O,U⟩=>absurd (U b X (by omega)) V⟩
def RA{α:Type}{v:List α}{Q:Prop}{P:Nat->Nat->Prop}{a n:Nat}(h:v=[]<->(Q/\∀a'<a,∀b,a'<b->b<n->P a' b)/\∀X,a<X->X<n->P a X):v=[]<->Q/\∀a'<a+1,∀b,a'<b->b<n->P a' b:=by
 rw[h];refine⟨λ⟨⟨V,Z⟩,U⟩=>⟨V,λa' J b O N=> ?_⟩,λ⟨V,Z⟩=>⟨⟨V,λa' U=>Z a' (by omega)⟩,Z a (by omega)⟩⟩;by_cases M:a'=a;subst M;exact U b O N;exact Z a' (by omega) b O N
def vg{e:Int}{K:Prop}(X:e≠0)(V:¬K):∃v Z,(aH []=aH v/\e=Z)/\(¬Z=0->v=[])/\v.length<=1000000/\(Z=0/\v=[]<->K):=⟨[],e,⟨rfl,rfl⟩,λ_=>rfl,by simp,by simp[X,V]⟩
set_option maxHeartbeats 8000000 in
def aqD (h:iL H J ps sp O) (U:RV) (ae:Int) (Z X pr:RV) (y:Sl U) (f:Sl Z) (d:Sl X) (an:Sl pr):∃o,TB.Ev 106 (wk W D A B C I H J ps sp O++[.r U,.i ae,.r Z,.r X,.r pr]) o/\∃v e,o=.ret [.r (aH v),.i e]/\(e≠0->v=[])/\v.length<=1000000/\((e=0/\v=[])<->BD W D A B C I H J ps sp O U ae Z X pr):=by
 refine eA rfl rfl (.inl rfl) ?_;obtain⟨h1,h2⟩:=xf W D A B C I H J ps sp O pZ h;simp only[wk] at h1;simp(config:={maxSteps:=10000000}) [ZQ,wk,h.rl.len,y.len,f.len,d.len,bo h1];have b3:=λ(K:BD W D A B C I H J ps sp O U ae Z X pr)=>K
 split
 case isFalse a9=>exact vg a9 λK=>a9 K.wk
 rename_i h0;have hw:=h2 h0;have hn:=hw.nr;have b4:=hw.br;split
 case isTrue h8=>exact vg (by omega) λK=>by have:=K.nw;omega
 rename_i h8;rw[show bh .sub .i64 I 1=I-1 by simp only[bh];exact iK (by omega) (by omega)];split
 case isFalse hb=>exact vg (by omega) λK=>hb (by simpa using K.Lz)
 rename_i hb;split
 case isFalse hl=>exact vg (by omega) λK=>by have:=K.lm;omega
 rename_i bx;split
 case isFalse hl=>exact vg (by omega) λK=>by have:=K.lh;omega
 rename_i b0;refine cd Z.rows.length (λi rest=>rest=[]/\∀k<i,vB Z k=true) ⟨0,rfl,by omega,rfl,by omega⟩ ?_;rintro i _ hi ⟨rfl,bb⟩;simp[h.rl.len,y.len,f.len,d.len,an.len];split;rename_i hi;simp[bF hi f.sm,hi];split;rename_i x;exact tB bb x;rename_i x;exact vg (by omega) λK=>x (K.vm i hi)
 rename_i a1;have c:i=Z.rows.length:=by omega
 subst c;refine cd X.rows.length (λi rest=>rest=[]/\∀k<i,vB X k=true) ⟨0,rfl,by omega,rfl,by omega⟩ ?_;rintro i _ hi ⟨rfl,bd⟩;simp[h.rl.len,y.len,f.len,d.len,an.len];split;rename_i hi;simp[bF hi d.sm,hi];split;rename_i x;exact tB bd x;rename_i x;exact vg (by omega) λK=>x (K.vh i hi)
 rename_i a1;have c:i=X.rows.length:=by omega
 subst c;refine cd pr.rows.length (λi rest=>rest=[.r (aH []),.r (aH (gD pr i))]/\∀k<i,0<=ci pr k 0/\ci pr k 0<ci pr k 1/\ci pr k 1<H.rows.length) ⟨0,rfl,by omega,rfl,by omega⟩ ?_;rintro i _ hi ⟨rfl,bf⟩;simp[h.rl.len,y.len,f.len,d.len,an.len];split;rename_i hi;simp[bF hi an.sm,hi];split;rename_i x;exact vg (by omega) λK=>by have:=K.zu i hi;simp only[ci] at this;omega
 split;rename_i x;exact vg (by omega) λK=>by have:=K.zu i hi;simp only[ci] at this;omega
 split;rename_i x;exact vg (by omega) λK=>by have:=K.zu i hi;simp only[ci] at this;omega
 exact⟨rfl,tB bf (by simp only[ci];omega)⟩;rename_i a1;have c:i=pr.rows.length:=by omega
 subst c;refine cd U.rows.length (λi rest=>rest=[.r (aH (BC U ae i)),.r (aH [])]/\∀k<i,iM (ci U k) ae 4=0) ⟨0,rfl,by omega,rfl,by omega⟩ ?_;rintro i _ hi ⟨rfl,bk⟩;simp[h.rl.len,y.len,f.len,d.len,an.len];split;rename_i hi;have bs:=f25 (ci U i) ae;simp only[HX,ci,awV,awX] at bs;simp[bF hi y.sm,hi,bo bs];split;rename_i x;exact⟨by rw[H0];omega,rfl,tB bk x⟩;rename_i x;exact vg x λK=>x (K.D5 i hi)
 rename_i a1;have c:i=U.rows.length:=by omega
 subst c;have s:lenOf Z.val=(H.rows.length:Int):=by rw[f.len];exact bx
 have q:lenOf X.val=(H.rows.length:Int):=by rw[d.len];exact b0
 have a2:=H0 U ae U.rows.length;have u:H.rows.length<=140737488355328:=by omega
 obtain⟨Q1,bt⟩:∃Q:Prop,Q:=⟨True,trivial⟩;refine cd 0 (λi rest=>rest=[.r (aH [])]) ⟨0,rfl,by omega,rfl⟩ ?_;rintro z _ hz rfl;have b1:z=0:=by omega
 subst b1;simp[h.rl.len,y.len,s,q];refine cd H.rows.length (λa rest=>∃v,rest=[.r (aH v)]/\v.length<=0+64*a/\(v=[]<->Q1/\∀a'<a,∀b,a'<b->b<H.rows.length->fm (gD pr pr.rows.length) a' b=true\/eL Z a' Z b=true)) ⟨0,rfl,by omega,_,rfl,by simp,BF (by simp[bt]:([]:List (List RV))=[]<->Q1)⟩ ?_;rintro a _ M ⟨v,rfl,n,V⟩;simp[h.rl.len,y.len,s,q];split;rename_i M;refine cd H.rows.length (λb rest=>a<b/\∃v,rest=[.r (aH v)]/\v.length<=0+64*a+b/\(v=[]<->(Q1/\∀a'<a,∀b,a'<b->b<H.rows.length->fm (gD pr pr.rows.length) a' b=true\/eL Z a' Z b=true)/\∀N,a<N->N<b->fm (gD pr pr.rows.length) a N=true\/eL Z a Z N=true)) ⟨a+1,BB (by omega),by omega,by omega,v,rfl,by omega,Ry V⟩ ?_;rintro b _ a3 ⟨af,v,rfl,n,V⟩;simp[h.rl.len,y.len,s,q];split;rename_i w;simp[bF w u,bF M u];by_cases E:fm (gD pr pr.rows.length) a b=true;have F:=E;simp[fm] at F;rw[if_pos F];exact⟨by omega,v,rfl,by omega,BG V (.inl E)⟩;have F:=E;simp[fm] at F;rw[F,if_neg (by simp)];refine⟨M,w, ?_⟩;by_cases G:eL Z a Z b=true;have bJ:=G;simp[eL,vB,ci] at bJ;rw[if_neg (by simp[bJ])];exact⟨by omega,v,rfl,by omega,BG V (.inr G)⟩;have bJ:=G;simp[eL,vB,ci] at bJ;rw[if_pos (by grind)];exact⟨by omega,by omega,_,rfl,by simp;omega,Rz (P:=λN=>fm (gD pr pr.rows.length) a N=true\/eL Z a Z N=true) af (by simp[E,G])⟩;rename_i w;have ag:b=H.rows.length:=by omega
 subst ag;simp[bF M u];exact⟨v,rfl,by omega,RA V⟩;rename_i a0;have p:a=H.rows.length:=by omega
 subst p;obtain⟨Q2,a4⟩:∃Q:Prop,Q<->(Q1/\∀a'<H.rows.length,∀b,a'<b->b<H.rows.length->fm (gD pr pr.rows.length) a' b=true\/eL Z a' Z b=true):=⟨_,Iff.rfl⟩;rw[<-a4] at V;refine cd H.rows.length (λa rest=>∃v,rest=[.r (aH v)]/\v.length<=5000+64*a/\(v=[]<->Q2/\∀a'<a,∀b,a'<b->b<H.rows.length->fm (gD pr pr.rows.length) a' b=true\/eL Z a' X b=true)) ⟨0,rfl,by omega,_,rfl,by omega,BF V⟩ ?_;rintro a _ M ⟨v,rfl,n,V⟩;simp[h.rl.len,y.len,s,q];split;rename_i M;refine cd H.rows.length (λb rest=>a<b/\∃v,rest=[.r (aH v)]/\v.length<=5000+64*a+b/\(v=[]<->(Q2/\∀a'<a,∀b,a'<b->b<H.rows.length->fm (gD pr pr.rows.length) a' b=true\/eL Z a' X b=true)/\∀N,a<N->N<b->fm (gD pr pr.rows.length) a N=true\/eL Z a X N=true)) ⟨a+1,BB (by omega),by omega,by omega,v,rfl,by omega,Ry V⟩ ?_;rintro b _ a3 ⟨af,v,rfl,n,V⟩;simp[h.rl.len,y.len,s,q];split;rename_i w;simp[bF w u,bF M u];by_cases E:fm (gD pr pr.rows.length) a b=true;have F:=E;simp[fm] at F;rw[if_pos F];exact⟨by omega,v,rfl,by omega,BG V (.inl E)⟩;have F:=E;simp[fm] at F;rw[F,if_neg (by simp)];refine⟨M,w, ?_⟩;by_cases G:eL Z a X b=true;have bJ:=G;simp[eL,vB,ci] at bJ;rw[if_neg (by simp[bJ])];exact⟨by omega,v,rfl,by omega,BG V (.inr G)⟩;have bJ:=G;simp[eL,vB,ci] at bJ;rw[if_pos (by grind)];exact⟨by omega,by omega,_,rfl,by simp;omega,Rz (P:=λN=>fm (gD pr pr.rows.length) a N=true\/eL Z a X N=true) af (by simp[E,G])⟩;rename_i w;have ag:b=H.rows.length:=by omega
 subst ag;simp[bF M u];exact⟨v,rfl,by omega,RA V⟩;rename_i a0;have p:a=H.rows.length:=by omega
 subst p;obtain⟨Q3,a5⟩:∃Q:Prop,Q<->(Q2/\∀a'<H.rows.length,∀b,a'<b->b<H.rows.length->fm (gD pr pr.rows.length) a' b=true\/eL Z a' X b=true):=⟨_,Iff.rfl⟩;rw[<-a5] at V;refine cd H.rows.length (λa rest=>∃v,rest=[.r (aH v)]/\v.length<=10000+64*a/\(v=[]<->Q3/\∀a'<a,∀b,a'<b->b<H.rows.length->fm (gD pr pr.rows.length) a' b=true\/eL X a' Z b=true)) ⟨0,rfl,by omega,_,rfl,by omega,BF V⟩ ?_;rintro a _ M ⟨v,rfl,n,V⟩;simp[h.rl.len,y.len,s,q];split;rename_i M;refine cd H.rows.length (λb rest=>a<b/\∃v,rest=[.r (aH v)]/\v.length<=10000+64*a+b/\(v=[]<->(Q3/\∀a'<a,∀b,a'<b->b<H.rows.length->fm (gD pr pr.rows.length) a' b=true\/eL X a' Z b=true)/\∀N,a<N->N<b->fm (gD pr pr.rows.length) a N=true\/eL X a Z N=true)) ⟨a+1,BB (by omega),by omega,by omega,v,rfl,by omega,Ry V⟩ ?_;rintro b _ a3 ⟨af,v,rfl,n,V⟩;simp[h.rl.len,y.len,s,q];split;rename_i w;simp[bF w u,bF M u];by_cases E:fm (gD pr pr.rows.length) a b=true;have F:=E;simp[fm] at F;rw[if_pos F];exact⟨by omega,v,rfl,by omega,BG V (.inl E)⟩;have F:=E;simp[fm] at F;rw[F,if_neg (by simp)];refine⟨M,w, ?_⟩;by_cases G:eL X a Z b=true;have bJ:=G;simp[eL,vB,ci] at bJ;rw[if_neg (by simp[bJ])];exact⟨by omega,v,rfl,by omega,BG V (.inr G)⟩;have bJ:=G;simp[eL,vB,ci] at bJ;rw[if_pos (by grind)];exact⟨by omega,by omega,_,rfl,by simp;omega,Rz (P:=λN=>fm (gD pr pr.rows.length) a N=true\/eL X a Z N=true) af (by simp[E,G])⟩;rename_i w;have ag:b=H.rows.length:=by omega
 subst ag;simp[bF M u];exact⟨v,rfl,by omega,RA V⟩;rename_i a0;have p:a=H.rows.length:=by omega
 subst p;obtain⟨Q4,a6⟩:∃Q:Prop,Q<->(Q3/\∀a'<H.rows.length,∀b,a'<b->b<H.rows.length->fm (gD pr pr.rows.length) a' b=true\/eL X a' Z b=true):=⟨_,Iff.rfl⟩;rw[<-a6] at V;refine cd H.rows.length (λa rest=>∃v,rest=[.r (aH v)]/\v.length<=15000+64*a/\(v=[]<->Q4/\∀a'<a,∀b,a'<b->b<H.rows.length->fm (gD pr pr.rows.length) a' b=true\/eL X a' X b=true)) ⟨0,rfl,by omega,_,rfl,by omega,BF V⟩ ?_;rintro a _ M ⟨v,rfl,n,V⟩;simp[h.rl.len,y.len,s,q];split;rename_i M;refine cd H.rows.length (λb rest=>a<b/\∃v,rest=[.r (aH v)]/\v.length<=15000+64*a+b/\(v=[]<->(Q4/\∀a'<a,∀b,a'<b->b<H.rows.length->fm (gD pr pr.rows.length) a' b=true\/eL X a' X b=true)/\∀N,a<N->N<b->fm (gD pr pr.rows.length) a N=true\/eL X a X N=true)) ⟨a+1,BB (by omega),by omega,by omega,v,rfl,by omega,Ry V⟩ ?_;rintro b _ a3 ⟨af,v,rfl,n,V⟩;simp[h.rl.len,y.len,s,q];split;rename_i w;simp[bF w u,bF M u];by_cases E:fm (gD pr pr.rows.length) a b=true;have F:=E;simp[fm] at F;rw[if_pos F];exact⟨by omega,v,rfl,by omega,BG V (.inl E)⟩;have F:=E;simp[fm] at F;rw[F,if_neg (by simp)];refine⟨M,w, ?_⟩;by_cases G:eL X a X b=true;have bJ:=G;simp[eL,vB,ci] at bJ;rw[if_neg (by simp[bJ])];exact⟨by omega,v,rfl,by omega,BG V (.inr G)⟩;have bJ:=G;simp[eL,vB,ci] at bJ;rw[if_pos (by grind)];exact⟨by omega,by omega,_,rfl,by simp;omega,Rz (P:=λN=>fm (gD pr pr.rows.length) a N=true\/eL X a X N=true) af (by simp[E,G])⟩;rename_i w;have ag:b=H.rows.length:=by omega
 subst ag;simp[bF M u];exact⟨v,rfl,by omega,RA V⟩;rename_i a0;have p:a=H.rows.length:=by omega
 subst p;obtain⟨Q5,a7⟩:∃Q:Prop,Q<->(Q4/\∀a'<H.rows.length,∀b,a'<b->b<H.rows.length->fm (gD pr pr.rows.length) a' b=true\/eL X a' X b=true):=⟨_,Iff.rfl⟩;rw[<-a7] at V;have b5:U.rows.length<=8:=by omega
 refine cd H.rows.length (λa rest=>∃v,rest=[.r (aH v)]/\v.length<=20000+64*a/\(v=[]<->Q5/\∀a'<a,∀g<U.rows.length,kM Z a' U ae g=true/\kM X a' U ae g=true)) ⟨0,rfl,by omega,_,rfl,by omega,BF V⟩ ?_;rintro a _ M ⟨v,rfl,n,V⟩;simp[h.rl.len,y.len,s,q,a2];split;rename_i M;refine cd U.rows.length (λg rest=>∃v,rest=[.r (aH v)]/\v.length<=20000+64*a+g/\(v=[]<->(Q5/\∀a'<a,∀g<U.rows.length,kM Z a' U ae g=true/\kM X a' U ae g=true)/\∀j<g,kM Z a U ae j=true/\kM X a U ae j=true)) ⟨0,rfl,by omega,v,rfl,by omega,BF V⟩ ?_;rintro g _ hg ⟨v,rfl,n,V⟩;simp[h.rl.len,y.len,s,q,a2];split;rename_i hg;have c0:=Rv U ae hg 0 (by omega);have c1:=Rv U ae hg 1 (by omega);have c2:=Rv U ae hg 2 (by omega);have c3:=Rv U ae hg 3 (by omega);simp[bF hg (show U.rows.length<=140737488355328 by omega),c0,c1,c2,c3];refine⟨hg,M, ?_⟩;by_cases G:kM Z a U ae g=true;have bJ:=G;simp[kM,vB,ci] at bJ;rw[if_neg (by simp[bJ])];refine⟨M, ?_⟩;by_cases m:kM X a U ae g=true;have l:=m;simp[kM,vB,ci] at l;rw[if_neg (by simp[l])];exact⟨v,rfl,by omega,Rw V ⟨G,m⟩⟩;have l:=m;simp[kM,vB,ci] at l;rw[if_pos (by grind)];exact⟨by omega,_,rfl,by simp;omega,Rx (P:=λj=>kM Z a U ae j=true/\kM X a U ae j=true) (by simp[m])⟩;have bJ:=G;simp[kM,vB,ci] at bJ;rw[if_pos (by grind)];exact⟨by omega,_,rfl,by simp;omega,Rx (P:=λj=>kM Z a U ae j=true/\kM X a U ae j=true) (by simp[G])⟩;rename_i b6;have b2:g=U.rows.length:=by omega
 subst b2;simp[bF M u];exact⟨v,rfl,by omega,aqC V⟩;rename_i a0;have p:a=H.rows.length:=by omega
 subst p;obtain⟨Q6,a8⟩:∃Q:Prop,Q<->(Q5/\∀a'<H.rows.length,∀g<U.rows.length,kM Z a' U ae g=true/\kM X a' U ae g=true):=⟨_,Iff.rfl⟩;rw[<-a8] at V;refine cd H.rows.length (λa rest=>∃v,rest=[.r (aH v)]/\v.length<=30000+a/\(v=[]<->Q6/\∀a'<a,p7 W D Z a'=true/\p7 W D X a'=true)) ⟨0,rfl,by omega,_,rfl,by omega,BF V⟩ ?_;rintro a _ M ⟨v,rfl,n,V⟩;simp[h.rl.len,y.len,s,q,a2];split;rename_i M;simp[bF M u];refine⟨M, ?_⟩;by_cases G:p7 W D Z a=true;have bJ:=G;simp[p7,vB,ci] at bJ;by_cases m:p7 W D X a=true;have l:=m;simp[p7,vB,ci] at l;simp[bJ,l,M];exact⟨v,rfl,by omega,Rw V ⟨G,m⟩⟩;have l:=m;simp[p7,vB,ci] at l;rw[if_neg (by simp[bJ]),if_pos (by grind)];exact⟨by omega,_,rfl,by simp;omega,Rx (P:=λa'=>p7 W D Z a'=true/\p7 W D X a'=true) (by simp[m])⟩;have bJ:=G;simp[p7,vB,ci] at bJ;rw[if_pos (by grind)];exact⟨by omega,_,rfl,by simp;omega,Rx (P:=λa'=>p7 W D Z a'=true/\p7 W D X a'=true) (by simp[G])⟩;rename_i a0;have p:a=H.rows.length:=by omega
 subst p;refine⟨v,0,⟨rfl,rfl⟩,by simp,by omega, ?_⟩;rw[V];refine⟨λ⟨_,q6,ed⟩=> ?_,λK=>⟨rfl,a8.2 ⟨a7.2 ⟨a6.2 ⟨a5.2 ⟨a4.2 ⟨bt,K.n1⟩,K.n2⟩,K.n3⟩,K.n4⟩,K.Z3⟩,K.Z4⟩⟩;obtain⟨q5,w1⟩:=a8.1 q6;obtain⟨q4,n4⟩:=a7.1 q5;obtain⟨q3,n3⟩:=a6.1 q4;obtain⟨q2,n2⟩:=a5.1 q3;obtain⟨_,n1⟩:=a4.1 q2;exact⟨h0,by omega,by simpa using hb,by omega,by omega,bb,bd,bf,bk,n1,n2,n3,n4,w1,ed⟩
end
end
section
section
variable{lt:List RV->List RV->Bool}
def xg(lt:List RV->List RV->Bool)(l:List (List RV)):Prop:=l.Pairwise λx y=>lt x y=true
def xg.eq(hi:∀x,lt x x=false)(V:∀x y z,lt x y=true->lt y z=true->lt x z=true):∀{l Z:List (List RV)},xg lt l->xg lt Z->l.Perm Z->l=Z
 |[],Z,_,_,h=>(List.Perm.nil_eq h)
 |x::l,[],_,_,h=>(by have:=h.length_eq;simp at this)
 |x::l,y::Z,Q,P,h=>by
  have U:=aw2.1 Q;have R:=aw2.1 P;have O:x=y:=by
   have X:x∈y::Z:=h.mem_iff.1 (by simp);have W:y∈x::l:=h.mem_iff.2 (by simp);rcases awP.1 X with X|X;exact X;rcases awP.1 W with W|W;exact W.symm;have:=V _ _ _ (U.1 y W) (R.1 x X);rw[hi] at this;cases this
  subst O;rw[xg.eq hi V U.2 R.2 (List.perm_cons x|>.1 h)]
def aje(W:∀x y z,lt x y=true->lt y z=true->lt x z=true){x:List RV}:∀{l:List (List RV)},xg lt l->(∀y∈l,lt x y=true\/lt y x=true)->xg lt (cQ lt x l)
 |[],_,_=>azL _ _
 |y::r,h,V=>by
  have g:=aw2.1 h;simp only[cQ];split;rename_i X;refine aw2.2 ⟨λz Z=> ?_,h⟩;rcases awP.1 Z with rfl|Z;exact X;exact W _ _ _ X (g.1 z Z);rename_i X;have U:lt y x=true:=(V y (by simp)).resolve_left X;refine aw2.2 ⟨λz Z=> ?_,aje W g.2 λz Z=>V z (by simp[Z])⟩;rcases Nh.1 Z with rfl|Z;exact U;exact g.1 z Z
def ajf(X:∀x y z,lt x y=true->lt y z=true->lt x z=true):∀(l acc:List (List RV)),xg lt acc->(∀x∈l,∀y∈acc,lt x y=true\/lt y x=true)->l.Pairwise (λx y=>lt x y=true\/lt y x=true)->xg lt (l.foldl (λacc x=>cQ lt x acc) acc)
 |[],acc,h,_,_=>h
 |x::l,acc,h,W,U=>by
  have g:=aw2.1 U;refine ajf X l _ (aje X h λy Z=>W x (by simp) y Z) (λz V y Z=> ?_) g.2;rcases Nh.1 Z with rfl|Z;exact(g.1 z V).symm;exact W z (by simp[V]) y Z
def ajg(Z:∀x y z,lt x y=true->lt y z=true->lt x z=true){l:List (List RV)}(h:l.Pairwise (λx y=>lt x y=true\/lt y x=true)):xg lt (be lt l):=ajf Z l [] axt (by simp) h
def ajh(hi:∀x,lt x x=false)(X:∀x y z,lt x y=true->lt y z=true->lt x z=true){l Z:List (List RV)}(W:Z.Perm l)(h:l.Pairwise (λx y=>lt x y=true\/lt y x=true)):be lt Z=be lt l:=by
 have V:Z.Pairwise (λx y=>lt x y=true\/lt y x=true):=(W.symm.pairwise_iff (λ{x y} h=>h.symm)).1 h;exact xg.eq hi X (ajg X V) (ajg X h) (((zr Z).trans W).trans (zr l).symm)
end
def Z5(d:Bool):∀(cs:List Nat)(x:List RV),fz d cs x x=false
 |[],_=>rfl
 |c::cs,x=>by simp[fz,Z5 d cs x]
def Z6(d:Bool):∀(cs:List Nat)(x y z:List RV),fz d cs x y=true->fz d cs y z=true->fz d cs x z=true
 |[],_,_,_,h,_=>by simp[fz] at h
 |c::cs,x,y,z,W,Z=>by
  simp only[fz] at W Z⊢;by_cases e1:aK c x=aK c y;by_cases X:aK c y=aK c z;rw[if_pos e1] at W;rw[if_pos X] at Z;rw[if_pos (e1.trans X)];exact Z6 d cs x y z W Z;rw[if_neg X] at Z;rw[if_neg (by rw[e1];exact X),e1];exact Z;rw[if_neg e1] at W;by_cases X:aK c y=aK c z;rw[if_neg (by rw[<-X];exact e1),<-X];exact W;rw[if_neg X] at Z;cases d;simp at W Z;rw[if_neg (by omega)];simp;omega;simp at W Z;rw[if_neg (by omega)];simp;omega
def Z7(d:Bool):∀(cs:List Nat)(x y:List RV),(∃c∈cs,aK c x≠aK c y)->fz d cs x y=true\/fz d cs y x=true
 |[],_,_,⟨_,h,_⟩=>by cases h
 |c::cs,x,y,h=>by
  simp only[fz];by_cases e:aK c x=aK c y;rw[if_pos e,if_pos e.symm];obtain⟨W,Z,X⟩:=h;rcases awP.1 Z with rfl|Z;exact absurd e X;exact Z7 d cs x y ⟨W,Z,X⟩;clear h;have V:¬aK c y=aK c x:=λU=>e U.symm
  rw[if_neg e,if_neg V];cases d<;>simp<;>omega
def vi(cs:List Nat)(rows:List (List RV)):Prop:=rows.Pairwise λx y=>∃c∈cs,aK c x≠aK c y
def aji{cs:List Nat}{d:Bool}:∀{rows:List (List RV)},vi cs rows->pi (aJ.lex cs d).lt rows=true
 |[],_=>rfl
 |x::r,h=>by
  have g:=aw2.1 h;simp only[pi,awF,awU,aw9];exact⟨λy Z=>Z7 d cs x y (g.1 y Z),aji g.2⟩
def ajj{cs:List Nat}{d X:Bool}{rows ay:List (List RV)}(W:rows.length<=1099511627776)(h:vi cs rows)(Z:ay.Perm rows):dw (.lex cs d) X ay=some (be (aJ.lex cs d).lt rows):=by
 have V:vi cs ay:=(Z.symm.pairwise_iff (λ{x y} h=>by obtain⟨c,U,R⟩:=h;exact⟨c,U,λe=>R e.symm⟩)).1 h;have Q:ay.length<=1099511627776:=by rw[Z.length_eq];exact W
 simp only[dw];rw[if_pos (by simp[Q,aji V,aJ.ok])];exact congrArg some (ajh (Z5 d cs) (Z6 d cs) Z (h.imp λP=>Z7 d cs _ _ P))
end
def aqE(n:Nat)(row:List RV)(m:List (List RV)):eD n row m≠[]:=by
 cases m with
 |nil=>simp[eD]
 |cons r rs=>simp only[eD];split<;>simp
def oS(n:Nat)(row:List RV):∀m:List (List RV),(eD n row m).length<=m.length+1
 |[]=>by simp[eD]
 |r::rs=>by
  have:=oS n row rs;simp only[eD];split<;>simp<;>omega
def Z8{n:Nat}{row y:List RV}:∀{m:List (List RV)},y∈eD n row m->y=row\/y∈m
 |[],h=>by simp[eD] at h;exact .inl h
 |r::rs,h=>by
  simp only[eD] at h;split at h;rcases awP.1 h with h|h;exact .inl h;exact .inr (by simp[h]);rcases awP.1 h with h|h;exact .inr (by simp[h]);rcases Z8 h with h|h;exact .inl h;exact .inr (by simp[h])
def aqF{row r:List RV}(Z:row.length=4)(X:r.length=4):iR 3 ((row.take 3).map λc=>ba c.val) r=true<->∀c∈[0,1,2],aK c r=aK c row:=by
 match row,Z,r,X with
 |[a,b,c,d],_,[a',W,V,U],_=>simp[iR,aK]
structure gg(m:List (List RV)):Prop where
 keys:vi [0,1,2] m
 four:∀x∈m,x.length=4
def gg.nil:gg []:=⟨axt,by simp⟩
def gg.ins{row:List RV}(W:row.length=4):∀{m:List (List RV)},gg m->gg (eD 3 row m)
 |[],_=>⟨by simp[eD,vi],by simp[eD,W]⟩
 |r::rs,h=>by
  have g:=aw2.1 h.keys;have aM:gg rs:=⟨g.2,λx Z=>h.four x (by simp[Z])⟩;have Q:=gg.ins W aM;have R:=aqF W (h.four r (by simp));refine⟨?_,λx Z=> ?_⟩;simp only[eD];split;rename_i hi;have hi:=R.1 hi;refine aw2.2 ⟨λy X=> ?_,g.2⟩;obtain⟨c,V,U⟩:=g.1 y X;exact⟨c,V,by rw[<-hi c V];exact U⟩;rename_i hi;refine aw2.2 ⟨λy X=> ?_,Q.keys⟩;rcases Z8 X with rfl|X;have:¬∀c∈[0,1,2],aK c r=aK c y:=λP=>hi (R.2 P)
  simp only[Classical.not_forall] at this;obtain⟨c,V,U⟩:=this;exact⟨c,V,U⟩;exact g.1 y X;rcases Z8 Z with rfl|Z;exact W;exact h.four x Z
section
section
variable{R:aV->Prop}{ks:List LK}{t:T}{ρ:aa}{L:List PC}
variable(W D A B C H:Int)(u I ps sp J:RV)
@[simp] def awA (v:RV) (Z X V U Q P O N M J I H G F E z:Int):eP TB.Ev R 75 [.r (dv .str v),.i Z,.i X,.i V,.i U,.i Q,.i P,.i O,.i N,.i M,.i J,.i I,.i H,.i G,.i F,.i E,.i z] ks t ρ L=eX TB.Ev R (.ret [.i (HW (dv .str v) Z X V U Q P O N M J I H G F E z)]) ks t ρ L:=Z0 _ (Rp v) Z X V U Q P O N M J I H G F E z
def H3(Z X V U Q P O N M J I H G:Int)(s:RV)(F E z y x w v u q p o n m l j h:Int)(k:Nat):Int:=oi 27 [.i Z,.i X,.i V,.i U,.i Q,.i P,.i O,.i N,.i M,.i J,.i I,.i H,.i G,.r s,.i F,.i E,.i z,.i y,.i x,.i w,.i v,.i u,.i q,.i p,.i o,.i n,.i m,.i l,.i j,.i h] k
@[simp] def c27 (Z X V U Q P O N M J I H G:Int) (v:RV) (F E z y x w u s q p o n m l k j:Int):eP TB.Ev R 27 [.i Z,.i X,.i V,.i U,.i Q,.i P,.i O,.i N,.i M,.i J,.i I,.i H,.i G,.r (dv .str v),.i F,.i E,.i z,.i y,.i x,.i w,.i u,.i s,.i q,.i p,.i o,.i n,.i m,.i l,.i k,.i j] ks t ρ L=eX TB.Ev R (.ret [.i (H3 Z X V U Q P O N M J I H G (dv .str v) F E z y x w u s q p o n m l k j 0),.i (H3 Z X V U Q P O N M J I H G (dv .str v) F E z y x w u s q p o n m l k j 1),.i (H3 Z X V U Q P O N M J I H G (dv .str v) F E z y x w u s q p o n m l k j 2),.i (H3 Z X V U Q P O N M J I H G (dv .str v) F E z y x w u s q p o n m l k j 3),.i (H3 Z X V U Q P O N M J I H G (dv .str v) F E z y x w u s q p o n m l k j 4)]) ks t ρ L:=bo (jT (kI 5) (t27 Z X V U Q P O N M J I H G _ (Rp v) F E z y x w u s q p o n m l k j))
def b75(Z:RV)(i:Nat):Int:=HW (dv .str (cellAt Z.rows (i:Int) 0)) (ci Z i 1) (ci Z i 2) (ci Z i 3) (ci Z i 4) (ci Z i 5) (ci Z i 6) (ci Z i 7) (ci Z i 8) (ci Z i 9) (ci Z i 10) (ci Z i 11) (ci Z i 12) (ci Z i 13) (ci Z i 14) (ci Z i 15) (ci Z i 16)
def RC(v:RV)(i:Nat):Int:=o74 (ci v i 0) (ci v i 1) (ci v i 2) (ci v i 3) (ci v i 4) (ci v i 5) (ci v i 6) (ci v i 7) (ci v i 8) (ci v i 9) (ci v i 10) (ci v i 11) (ci v i 12)
def eQ(v Z:RV)(i k:Nat):Int:=H3 (ci v i 0) (ci v i 1) (ci v i 2) (ci v i 3) (ci v i 4) (ci v i 5) (ci v i 6) (ci v i 7) (ci v i 8) (ci v i 9) (ci v i 10) (ci v i 11) (ci v i 12) (dv .str (cellAt Z.rows (i:Int) 0)) (ci Z i 1) (ci Z i 2) (ci Z i 3) (ci Z i 4) (ci Z i 5) (ci Z i 6) (ci Z i 7) (ci Z i 8) (ci Z i 9) (ci Z i 10) (ci Z i 11) (ci Z i 12) (ci Z i 13) (ci Z i 14) (ci Z i 15) (ci Z i 16) k
def m85(ae:Int)(Z:RV)(i:Nat):Int:=oi 85 (wk W D A B C H u I ps sp J++[.i i,.i ae,.r (cr 96 Z i)]) 0
def m89(ae:Int)(Z X:RV)(i k:Nat):Int:=oi 89 (wk W D A B C H u I ps sp J++[.i i,.i ae,.i (ci Z i 0),.i (ci Z i 1),.i (ci Z i 2),.i (ci Z i 3),.i (ci Z i 4),.i (ci Z i 5),.i (ci Z i 6),.i (ci Z i 7),.i (ci Z i 8),.i (ci Z i 9),.i (ci Z i 10),.i (ci Z i 11),.i (ci Z i 12),.r (cr 96 X i)]) k
def m90(ae:Int)(X Z V:RV)(i k:Nat):Int:=oi 90 (wk W D A B C H u I ps sp J++[.i i,.i ae,.i (ci X i 0),.i (ci X i 1),.i (ci X i 2),.i (ci X i 3),.i (ci X i 4),.i (ci X i 5),.i (ci X i 6),.i (ci X i 7),.i (ci X i 8),.i (ci X i 9),.i (ci X i 10),.i (ci X i 11),.i (ci X i 12),.r (dv .str (cellAt Z.rows (i:Int) 0)),.i (ci Z i 1),.i (ci Z i 2),.i (ci Z i 3),.i (ci Z i 4),.i (ci Z i 5),.i (ci Z i 6),.i (ci Z i 7),.i (ci Z i 8),.i (ci Z i 9),.i (ci Z i 10),.i (ci Z i 11),.i (ci Z i 12),.i (ci Z i 13),.i (ci Z i 14),.i (ci Z i 15),.i (ci Z i 16),.r (cr 96 V i)]) k
def gS(ae:Int)(X Z V:RV)(i k:Nat):Int:=if cb X i 0 then m89 W D A B C H u I ps sp J ae Z V i k else ci Z i k
def gB(ae:Int)(V Z X U:RV)(i k:Nat):Int:=if cb V i 0 then m90 W D A B C H u I ps sp J ae Z X U i k else eQ Z X i k
structure H4(u wg bd mv bf af re bx:RV):Prop where
 wg:Sl wg
 bd:Sl bd
 mv:Sl mv
 bf:Sl bf
 af:Sl af
 LA:Sl re
 bx:Sl bx
 fp:∀i<re.rows.length,Sl (cr 96 re i)/\(cr 96 re i).rows.length<=100
structure ajo(ae:Int)(wg bd mv bf af re bx:RV):Prop where
 wk:jE W D A B C H u I ps sp J=0
 nw:wg.rows.length<=8
 br:0<=ae/\ae<H
 BH:af.rows.length=u.rows.length
 LB:bx.rows.length=u.rows.length
 BJ:bd.rows.length=u.rows.length
 LD:mv.rows.length=u.rows.length
 BK:bf.rows.length=u.rows.length
 LF:re.rows.length=u.rows.length
 eG:∀i<u.rows.length,b75 bd i=0/\RC bf i=0/\(if cb mv i 0 then m85 W D A B C H u I ps sp J ae re i=0 else(cr 96 re i).rows=[])
 box:∀i<u.rows.length,vB bx i=true/\RC af i=0
 D5:∀g<wg.rows.length,iM (ci wg g) ae 4=0
def D6(ae:Int)(U Z X V:RV)(i:Nat):Prop:=if cb U i 0 then m89 W D A B C H u I ps sp J ae Z V i 13=0/\m90 W D A B C H u I ps sp J ae Z X V i 4=0 else eQ Z X i 4=0
def Fst(v:RV)(id:Int)(m:Nat):Prop:=m<v.rows.length/\ci v m 0=id/\∀Z<m,ci v Z 0≠id
def Z9(Z:RV)(id:Int)(i:Nat):List XV:=out 78 (wk W D A B C H u I ps sp J++[.i id,.r (dv .str (cellAt Z.rows (i:Int) 0)),.i (ci Z i 1),.i (ci Z i 2),.i (ci Z i 3),.i (ci Z i 4),.i (ci Z i 5),.i (ci Z i 6),.i (ci Z i 7),.i (ci Z i 8),.i (ci Z i 9),.i (ci Z i 10),.i (ci Z i 11),.i (ci Z i 12),.i (ci Z i 13),.i (ci Z i 14),.i (ci Z i 15),.i (ci Z i 16)])
def RD(ae:Int)(Z X V U bx:RV)(c:Nat->Int):Bool:=ob 103 (wk W D A B C H u I ps sp J++[.i ae,.r Z,.r X,.r V,.r U,.r bx]++fJ c) 0
def RF(ae:Int)(X V U Q Z bx:RV)(i k:Nat):Prop:=∀m,Fst (cr 96 Z i) (bm (cm W D A B C H u I ps sp J i ae) k 0) m->
 xi (Z9 W D A B C H u I ps sp J X (bm (cm W D A B C H u I ps sp J i ae) k 0) i) 1=0/\
 ob 102 [.r (xr (Z9 W D A B C H u I ps sp J X (bm (cm W D A B C H u I ps sp J i ae) k 0) i) 0),.i (ci (cr 96 Z i) m 0),.i (ci (cr 96 Z i) m 1),.i (ci (cr 96 Z i) m 2),.b (cb (cr 96 Z i) m 3)] 0=true/\
 (bm (cm W D A B C H u I ps sp J i ae) k 4=7\/bm (cm W D A B C H u I ps sp J i ae) k 4=8->cb (cr 96 Z i) m 3=true\/RD W D A B C H u I ps sp J ae V U Q Z bx (bm (cm W D A B C H u I ps sp J i ae) k)=true)
def LG(ae:Int)(Z X V:RV)(i:Nat):List XV:=out 104 (wk W D A B C H u I ps sp J++[.i i,.i ae,.i (ci Z i 0),.i (ci Z i 1),.i (ci Z i 2),.i (ci Z i 3),.i (ci Z i 4),.i (ci Z i 5),.i (ci Z i 6),.i (ci Z i 7),.i (ci Z i 8),.i (ci Z i 9),.i (ci Z i 10),.i (ci Z i 11),.i (ci Z i 12),.r X,.r (cr 96 V i)])
structure D7(ae:Int)(bd mv bf af re bx:RV)(i:Nat):Prop where
 aft:∀j<13,ci af i j=gS W D A B C H u I ps sp J ae mv bf re i j
 Lz:cE (gB W D A B C H u I ps sp J ae mv bf bd re i 0) (gB W D A B C H u I ps sp J ae mv bf bd re i 1) (gB W D A B C H u I ps sp J ae mv bf bd re i 2) (gB W D A B C H u I ps sp J ae mv bf bd re i 3)=true/\vB bx i=true
 ins:BA (gB W D A B C H u I ps sp J ae mv bf bd re i 0) (gB W D A B C H u I ps sp J ae mv bf bd re i 1) (gB W D A B C H u I ps sp J ae mv bf bd re i 2) (gB W D A B C H u I ps sp J ae mv bf bd re i 3) (ci bx i 0) (ci bx i 1) (ci bx i 2) (ci bx i 3)=true
 Lw:cb mv i 0=true->(∀k<(cm W D A B C H u I ps sp J i ae).length,RF W D A B C H u I ps sp J ae bd mv bf af re bx i k)/\xi (LG W D A B C H u I ps sp J ae bf bd re i) 1=0/\(xr (LG W D A B C H u I ps sp J ae bf bd re i) 0).rows=[]
def oT(ae:Int):List XV:=out 23 (wk W D A B C H u I ps sp J++[.i ae])
def rA(v Z:RV):Nat->List (List RV)
 |0=>[]
 |i+1=>rA v Z i++[[.mk (.int .i64 (eQ v Z i 0)) [],.mk (.int .i64 (eQ v Z i 1)) [],.mk (.int .i64 (eQ v Z i 2)) [],.mk (.int .i64 (eQ v Z i 3)) []]]
def zv(v Z:RV)(i k:Nat):Bool:=cE (eQ v Z i 0) (eQ v Z i 1) (eQ v Z i 2) (eQ v Z i 3)&&cE (eQ v Z k 0) (eQ v Z k 1) (eQ v Z k 2) (eQ v Z k 3)&&uY (eQ v Z i 0) (eQ v Z i 1) (eQ v Z i 2) (eQ v Z i 3) (eQ v Z k 0) (eQ v Z k 1) (eQ v Z k 2) (eQ v Z k 3)
structure zw(ae:Int)(wg bd mv bf af re bx:RV):Prop where
 ex:ajo W D A B C H u I ps sp J ae wg bd mv bf af re bx
 LH:∀i<u.rows.length,D6 W D A B C H u I ps sp J ae mv bf bd re i
 ro:∀i<u.rows.length,D7 W D A B C H u I ps sp J ae bd mv bf af re bx i
 zu:xi (oT W D A B C H u I ps sp J ae) 1=0
 st1:∀i<u.rows.length,eQ bf bd i 4=0
 st2:∀i<u.rows.length,eQ af bd i 4=0
 cl:BD W D A B C H u I ps sp J wg ae bx (aH (rA bf bd u.rows.length)) (xr (oT W D A B C H u I ps sp J ae) 0)
 eL:∀p<(xr (oT W D A B C H u I ps sp J ae) 0).rows.length,zv bf bd (ci (xr (oT W D A B C H u I ps sp J ae) 0) p 0).toNat (ci (xr (oT W D A B C H u I ps sp J ae) 0) p 1).toNat=true/\zv af bd (ci (xr (oT W D A B C H u I ps sp J ae) 0) p 0).toNat (ci (xr (oT W D A B C H u I ps sp J ae) 0) p 1).toNat=true
def RG:Prop:=∀(W D A B C H:Int)(u I ps sp J:RV)(_:iL u I ps sp J)(aQ ae:Int)(X V U Q P O N M G F E z y:Int)(Z r:RV)(_:Sl Z)(_:Sl r),∃o,TB.Ev 104 (wk W D A B C H u I ps sp J++[.i aQ,.i ae,.i X,.i V,.i U,.i Q,.i P,.i O,.i N,.i M,.i G,.i F,.i E,.i z,.i y,.r Z,.r r]) o/\∃v e,o=.ret [.r (aH v),.i e]/\v.length<=100000
def H5{v:List (List RV)}{row:List RV}{i j:Nat}(h:v.length=i):cellAt (v++[row]) (i:Int) j=row.getD j default:=by
 subst h;simp[cellAt]
def RI{v w:List (List RV)}{k j:Nat}(h:k<v.length):cellAt (v++w) (k:Int) j=cellAt v (k:Int) j:=by
 simp[cellAt,awI h]
def xj{n:Nat}{row:List RV}{m:List (List RV)}{Q:Prop}(h:¬Q):eD n row m=[]<->Q:=⟨λe=>absurd e (aqE n row m),λq=>absurd q h⟩
def aqH{P:Nat->Prop}{i:Nat}:(∀k<i+1,P k)<->(∀k<i,P k)/\P i:=⟨λh=>⟨λk Z=>h k (by omega),h i (by omega)⟩,λh=>tB h.1 h.2⟩
def BL{a b:Bool}(h:a=true->b=false):¬(a=true/\b=true):=by cases a<;>cases b<;>simp_all
def ajq{a b:Bool}(h:¬(a=true->b=false)):a=true/\b=true:=by cases a<;>cases b<;>simp_all
def aqI{a b c:Bool}(h:¬(a=true->b=false))(Z:(a=false\/b=false)\/c=false):¬c=true:=by cases a<;>cases b<;>cases c<;>simp_all
def aqJ{a b c:Bool}(h:¬(a=true->b=false))(Z:¬((a=false\/b=false)\/c=false)):c=true:=by cases a<;>cases b<;>cases c<;>simp_all
def aqK{P:Nat->Prop}(Z:P 0)(X:P 1)(V:P 2)(U:P 3)(Q:P 4)(O:P 5)(N:P 6)(M:P 7)(J:P 8)(I:P 9)(H:P 10)(G:P 11)(F:P 12):∀j<13,P j:=λj E=>by
 match j,E with
 |0,_=>exact Z
 |1,_=>exact X
 |2,_=>exact V
 |3,_=>exact U
 |4,_=>exact Q
 |5,_=>exact O
 |6,_=>exact N
 |7,_=>exact M
 |8,_=>exact J
 |9,_=>exact I
 |10,_=>exact H
 |11,_=>exact G
 |12,_=>exact F
def BM(v Z:RV):∀i,(rA v Z i).length=i
 |0=>rfl
 |i+1=>by simp[rA,BM v Z i]
def ajr(v Z:RV){k:Nat}:∀{i},k<i->(rA v Z i)[k]?=some [.mk (.int .i64 (eQ v Z k 0)) [],.mk (.int .i64 (eQ v Z k 1)) [],.mk (.int .i64 (eQ v Z k 2)) [],.mk (.int .i64 (eQ v Z k 3)) []]
 |0,h=>by omega
 |i+1,h=>by
  by_cases X:k=i;subst X;rw[rA,awM (by rw[BM];omega),BM];simp;rw[rA,awI (by rw[BM];omega)];exact ajr v Z (by omega)
def n8(v Z:RV){n:Nat}{z:Int}(h:z.toNat<n)(j:Nat)(X:j<4):ba (cellAt (rA v Z n) z j).val=eQ v Z z.toNat j:=by
 simp only[cellAt,awK,ajr v Z h]
 match j,X with
 |0,_|1,_|2,_|3,_=>rfl
def bB{c:Prop}[Decidable c]{A B:Prop}(Z:c->A)(X:¬c->B):if c then A else B:=by
 by_cases h:c;rw[if_pos h];exact Z h;rw[if_neg h];exact X h
end
def T.at:List Nat->T->T
 |[],t=>t
 |0::p,.node _ t _=>t.at p
 |_::p,.node _ _ f=>f.at p
 |_::p,.az _ t=>t.at p
 |_::p,.call _ _ _ _ _ _ t=>t.at p
 |_::p,.loop _ _ _ t=>t.at p
 |_::p,.new _ _ _ _ t=>t.at p
 |_::p,.rows _ _ _ t=>t.at p
 |0::p,.eC _ _ t _=>t.at p
 |_::p,.eC _ _ _ f=>f.at p
 |0::p,.pick _ _ _ t _=>t.at p
 |_::p,.pick _ _ _ _ f=>f.at p
 |_::p,.dl _ _ _ _ _ _ _ t=>t.at p
 |_,t=>t
end
section
section
def mG(x:List RV):List RV:=[iV (aK 0 x),iV (aK 1 x),iV (aK 2 x)]
def iN(js:List Nat):List (List RV):=js.map λ(j:Nat)=>[iV (j:Int)]
def eB(js:List Nat):(iN js).length=js.length:=by simp[iN]
def RJ{js:List Nat}{j:Nat}:(jo 1 [(j:Int),0,0] (iN js)).isSome=decide (j∈js):=by
 induction js with
 |nil=>rfl
 |cons a l Z=>
  simp only[iN,awT,jo,azN] at Z⊢;by_cases h:a=j;subst h;simp[iR,iV,ba];have X:¬j=a:=λe=>h e.symm
  have:iR 1 [(j:Int),0,0] [iV a]=false:=by simp[iR,iV,ba];omega
  rw[this];simp only[Z,awP,X,false_or]
def ajs{js:List Nat}{j:Nat}(h:j∉js):eD 1 [iV j] (iN js)=iN (js++[j]):=by
 induction js with
 |nil=>rfl
 |cons a l Z=>
  simp only[awP,not_or] at h;have:¬iR 1 (([iV j].take 1).map λc=>ba c.val) [iV a]=true:=by simp[iR,iV,ba];omega
  simp only[iN,awT,eD,awV] at Z⊢;rw[if_neg this,Z h.2]
def LI{α:Type}[DecidableEq α]:∀{a b:List α},a.Nodup->(∀x∈a,x∈b)->a.length<=b.length
 |[],_,_,_=>axN _
 |x::a,b,V,Z=>by
  have g:=ayr.1 V;have X:x∈b:=Z x (by simp);have:=LI (a:=a) (b:=b.erase x) g.2 λy W=>(azn (λe=>g.1 (by rw[<-e];exact W))).2 (Z y (by simp[W]))
  rw[ay4 X] at this;have U:0<b.length:=azR X;simp only[axm];omega
def ajt{α:Type}[DecidableEq α]:∀{a b:List α},a.Nodup->(∀x∈a,x∈b)->b.length<=a.length->a.Perm b
 |[],b,_,_,Z=>by
  have:b=[]:=axp.1 (Nat.le_zero.1 Z);rw[this]
 |x::a,b,U,X,Z=>by
  have g:=ayr.1 U;have W:x∈b:=X x (by simp);have:=ajt (a:=a) (b:=b.erase x) g.2 (λy V=>(azn (λe=>g.1 (by rw[<-e];exact V))).2 (X y (by simp[V]))) (by rw[ay4 W];simp only[axm] at Z;omega);exact(this.cons x).trans (List.perm_cons_erase W).symm
structure Pk(n:Nat)(js:List Nat):Prop where
 nd:js.Nodup
 lt:∀j∈js,j<n
def Pk.nil(n:Nat):Pk n []:=⟨List.nodup_nil,by simp⟩
def Pk.add{n j:Nat}{js:List Nat}(h:Pk n js)(W:j∉js)(U:j<n):Pk n (js++[j]):=⟨axF.2 ⟨h.nd,by simp,by intro a V b X e;simp at X;subst X;subst e;exact W V⟩,by
 intro k Z;rcases awR.1 Z with Z|Z;exact h.lt k Z;simp at Z;omega⟩
def Pk.len{n:Nat}{js:List Nat}(h:Pk n js):js.length<=n:=by
 have:=LI (b:=aw3 n) h.nd λj Z=>axR.2 (h.lt j Z)
 simpa using this
def Pk.perm{n:Nat}{js:List Nat}(h:Pk n js)(Z:n<=js.length):js.Perm (aw3 n):=ajt h.nd (λj X=>axR.2 (h.lt j X)) (by simpa using Z)
def Pk.more{n:Nat}{js:List Nat}(V:¬n<=js.length):∃j<n,j∉js:=by
 apply Classical.byContradiction;intro Z;have:∀x∈aw3 n,x∈js:=λx X=>Classical.byContradiction λW=>Z ⟨x,axR.1 X,W⟩
 have:=LI List.nodup_range this;simp at this;omega
def D8(M:List (List RV))(js:List Nat):List (List RV):=js.map λj=>mG (M.getD j [])
def aju(M:List (List RV))(js:List Nat):(D8 M js).length=js.length:=by simp[D8]
def aqL(M:List (List RV)):(aw3 M.length).map (λj=>mG (M.getD j []))=M.map mG:=by
 apply List.ext_getElem;simp;intro i Z X;simp at Z;simp[Z]
def aqM{M:List (List RV)}{js:List Nat}(h:Pk M.length js)(Z:M.length<=js.length):(D8 M js).Perm (M.map mG):=by
 rw[<-aqL];exact(h.perm Z).map _
def ajv{x:List RV}:∀c∈[0,1,2],aK c (mG x)=aK c x:=by
 intro c Z;simp at Z;rcases Z with rfl|rfl|rfl<;>simp[mG,aK,iV,ba]
def vi.aqN{M:List (List RV)}(h:vi [0,1,2] M):vi [0,1,2] (M.map mG):=by
 refine ayQ.2 (h.imp λ{x y} X=> ?_);obtain⟨c,Z,W⟩:=X;exact⟨c,Z,by rw[ajv c Z,ajv c Z];exact W⟩
def aqO(l:List (List RV)):uk (l.map mG) (l.map mG)=true:=by
 induction l with
 |nil=>rfl
 |cons x l Z=>simp[uk,Z,mG,wb,Ak,iV]
def H6(M:List (List RV)):List (List RV):=(be (aJ.lex [0,1,2] false).lt (M.map mG)).map mG
def aqP{M:List (List RV)}:H6 M=[]<->M=[]:=by
 rw[H6,List.map_eq_nil_iff];constructor;intro h;have:=(zr (lt:=(aJ.lex [0,1,2] false).lt) (M.map mG)).length_eq;rw[h] at this;simp at this;exact axp.1 this.symm;rintro rfl;rfl
end
section
variable{L:List PC}
def ajw:List Nat:=[0,1,1,0,0,0,1,0,0,0,1,0,1,0,1,0,1,0,0,0,1,0,1,0,1,0,1,0,1,0,0,0,1,0,1,0,1]
set_option maxHeartbeats 8000000 in
def aqQ (R:aV->Prop) (P O N J I H G E D C B A z y x w u t s:Int) (q p n m l g f e d c a af ag an a0 a1 a2 a3 a4 a5 a6 a7 a8:RV) (M:List (List RV)) (a9:gg M) (hl:M.length<=536870912) (hR:R (.ret [.r (aH (H6 M)),.i 0])):
  T.wp TB.Ev R (lw.at ajw) ⟨[P,O,N,J,I,H,G,E,D,C,B,A,z,y,x,w,u,t,s],[],[q,p,n,m,l,g,f,e,d,c,a,af,ag,an,a0,a1,a2,a3,a4,a5,a6,a7,a8,aH M],[]⟩ L:=by
 rw[show lw.at ajw=T.loop _ _ _ _ from rfl];refine aiQ (· =.ret [.r (aH (H6 M)),.i 0]) (λo h=>h▸hR) (λxs=>∃js,xs=[.r (aH (D8 M js)),.r (aH (iN js))]/\Pk M.length js) (λxs=>match xs with|[_,.r v]=>M.length-v.rows.length|_=>0) ⟨[],rfl,Pk.nil _⟩ ?_;rintro _ ⟨js,rfl,W⟩;have bf:=W.len;rw[aiP];refine⟨single ?_, ?_, ?_, ?_⟩;simp[se,CP,CO,aH,Ak,H6,aqO];by_cases hn:M.length<=js.length;exact ay5 (Vj (by simp[eB];omega));obtain⟨j,Z,X⟩:=Pk.more hn;refine ay5 (Vi (j:=(j:Int)) (by omega) (by simp;omega) ?_);simp[RJ,X];intro j h0 Z X;obtain⟨j,rfl⟩:∃k:Nat,j=k:=⟨j.toNat,by omega⟩;have Z:j<M.length:=by simp at Z;omega
 have X:j∉js:=by simp[RJ] at X;exact X
 have V:=LI (b:=aw3 M.length) (W.add X Z).nd λj V=>axR.2 ((W.add X Z).lt j V)
 simp at V;have cT:eD 1 [RV.mk (Value.int IntKind.i64 (j:Int)) []] (iN js)=iN (js++[j]):=ajs X;have cj:(iN (js++[j])).length=js.length+1:=by simp[iN]
 have bJ:bh BinOp.sub IntKind.i64 ((js.length:Int)+1) 1=(js.length:Int):=by
  simp only[bh];rw[iK (by omega) (by omega)];omega
 have bg:ba (cellAt (iN (js++[j])) (js.length:Int) 0).val=(j:Int):=by
  rw[iN,ayq];rw[show ayy (λ(j:Nat)=>[iV (j:Int)]) [j]=[[iV (j:Int)]] from rfl,H5 (by simp)];rfl
 simp[eB,aju,cT,bJ,bg];rw[Bw];refine⟨⟨by omega,Z⟩,by omega,⟨js++[j], ?_,W.add X Z⟩, ?_⟩;have:D8 M (js++[j])=D8 M js++[mG (M.getD j [])]:=by simp[D8]
 rw[this];simp[mG,aK,cellAt,iV];simp[aH,iN];omega;intro Z;have Z:M.length<=js.length:=by simp[eB] at Z;omega
 have bb:=aqM W Z;rw[pV];refine⟨_,ajj (by simp;omega) (vi.aqN a9.keys) (by simpa using bb), ?_⟩;generalize U:be (aJ.lex [0,1,2] false).lt (M.map mG)=F;have bk:F.length=M.length:=by rw[<-U,(zr _).length_eq];simp
 have bd:=aju M js;refine cd M.length (λi rest=>rest=[.r (aH ((F.take i).map mG))]) ⟨0,rfl,axN _,rfl⟩ ?_;rintro i _ hi rfl;simp[bd];refine bB (λhi=>⟨hi,by omega, ?_⟩) (λbr=> ?_);have Q:i<F.length:=by omega
 rw[bF (by omega) (by omega),aAm,awL,awH Q];simp[mG,aK,cellAt,iV,Q];have:F.length<=i:=by omega
 rw[axX (by simpa using this),H6,U]
end
end
end
end Go.Proofs.YtieaiocljdpebaaGreatDoor.Y
