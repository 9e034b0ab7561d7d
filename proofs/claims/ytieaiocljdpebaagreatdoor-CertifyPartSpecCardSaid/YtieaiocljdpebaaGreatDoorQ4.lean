/- Part 4 of the proof; the last part says what is shown. -/
import Derived.Test.YtieaiocljdpebaaGreatDoorQ3
set_option linter.all false
set_option maxRecDepth 100000
set_option maxHeartbeats 100000000
open Bool renaming and_eq_true->aA,or_eq_true->jy,false_eq_true->jR,and_self->wW,eq_false_iff->H7,true_or->axo,true->J,false->E
open Nat renaming le_refl->cg,gcd->lC,eq_zero_or_pos->BG,mod_lt->Ia,gcd_comm->ON,mul_le_mul->Ub,gcd_rec->abe
open List renaming cons_append->da,nil_append->di,getElem?_append_left->dZ,mem_append->fh,all_eq_true->f9,length_append->gU,getElem?_append_right->jd,pairwise_cons->jS,pairwise_append->nW,length_eq_zero_iff->wS,foldl_cons->FF,append_assoc->KO,length_pos_iff->T2,length_singleton->aaV,length->Y
open Option renaming some->U,none->Z
open List.Pairwise renaming nil->yq
open Int renaming natAbs_tmod->KR,tmod_eq_emod_of_nonneg->Oy,natAbs_mul->aba,fdiv_eq_ediv_of_nonneg->aKm
open List.Perm renaming refl->axk,swap->aKS
open Go.IntKind renaming i64->I
namespace Go.Proofs.YtieaiocljdpebaaGreatDoor.Y
open Go.RowKit
noncomputable section
variable{X:FuncId}{W:bn}
section
variable(a b c d e f g:K)(h i j:Nat)(k l m n:T)(o p q r s t:BE)(u v w x y:C)(z A:List RK)(B P D:List C)(O F:RE)(G:List LK)(H V:LE)(Q:RK)(R:Int)(L:BinOp)(M:List (List C))(N:bq)
abbrev bQ:=K.v 0
abbrev bR:=K.v 1
abbrev cX:=K.v 2
abbrev Jh:=BE.c E
abbrev iO:=C.bool Jh
abbrev gC:=T.ret u [] z
abbrev iI:=gC u []
abbrev gY:=iI iO
abbrev cY:=K.v 4
abbrev bj:=C.int I a
abbrev iT:=bj cY
abbrev dA:=K.c 1
abbrev ef:=bj dA
abbrev Gm:=K.c 9
abbrev Ws:=bj Gm
abbrev aeb:=RK.sl 245
abbrev aec:=RK.sl 259
abbrev gm:=RK.sl 142
def oh:List RK:=[aeb,aec,gm]
abbrev pz:=BE.v 0
abbrev lK:=C.bool pz
abbrev oj:=BE.not pz
abbrev oM:=gC iO z
abbrev qY:=oM oh
abbrev jg:=bj bR
abbrev bF:=K.c 0
abbrev aQ:=bj bF
abbrev gZ:=K.v 14
abbrev uE:=BE.v 1
abbrev mw:=C.bool uE
abbrev Ji:=BE.not uE
abbrev eZ:=bj cX
abbrev jh:=K.v 15
abbrev s6:=C.bool (.v h)
abbrev pA:=s6 2
abbrev rX:=BE.not (.v h)
abbrev Eo:=rX 2
abbrev eC:=K.v 3
abbrev fY:=bj eC
abbrev kO:=K.c 3
abbrev ol:=bj kO
abbrev vU:=s6 3
abbrev Ep:=rX 3
abbrev dY:=BE.cmp .leq a b
abbrev gQ:=dY bF a
abbrev Jj:=gQ cY
abbrev oN:=RE.v 0
abbrev i5:=K.len oN
abbrev ij:=K.v 5
abbrev jN:=bj ij
abbrev mT:=K.c 2
abbrev my:=bj mT
abbrev xC:=s6 4
abbrev Gn:=rX 4
abbrev fP:=K.v 6
abbrev dF:=bj fP
abbrev jC:=K.c 8
abbrev Gp:=bj jC
abbrev Ax:=C.bool (.v 5)
abbrev Mw:=BE.not (.v 5)
abbrev e9:=K.v 7
abbrev et:=bj e9
abbrev Cq:=C.bool (.v 6)
abbrev Qu:=BE.not (.v 6)
abbrev dG:=K.v 8
abbrev fe:=bj dG
abbrev Gq:=s6 7
abbrev dm:=K.v 9
abbrev iA:=bj dm
abbrev mz:=bj gZ
abbrev Mx:=s6 8
abbrev iJ:=K.v 10
abbrev fM:=bj iJ
abbrev jD:=K.v 11
abbrev iP:=bj jD
abbrev yU:=C.agg [u,v]
abbrev Qv:=yU fM iP
abbrev be:=LK.int I
abbrev s7:List LK:=[be,be]
abbrev ji:=K.v 16
abbrev kP:=bj ji
abbrev j8:=K.v 17
abbrev mU:=bj j8
abbrev fH:=K.v 12
abbrev fw:=K.v 13
abbrev fo:=bj fH
abbrev mV:=bj fw
abbrev Wt:=yU fo mV
abbrev i6:=K.v 18
abbrev nP:=bj i6
abbrev iU:=K.v 19
abbrev lL:=bj iU
abbrev nQ:=K.v 20
abbrev pB:=bj nQ
abbrev Gr:=K.v 21
abbrev mA:=bj Gr
abbrev jE:=BE.cmp .neq a b
abbrev eQ:=jE a bF
abbrev Qw:=eQ Gr
abbrev jk:=BE.c J
abbrev mW:=C.bool jk
abbrev aed:=gC mW oh
abbrev eK:=T.call h B [] z G u k
abbrev mX:=C.b9 [u,v]
abbrev iB:=eK h k (mX u v) z B G
abbrev yV:=iB h k u v z B s7
abbrev bN:=T.bi o k (.bi p l m)
abbrev i7:=BE.cmp .gtr a b
abbrev qZ:=bN k l m o (i7 a b)
abbrev jF:=T.bi o (.bi p k l) m
abbrev s8:=jF (.bi q k l) m n o p
abbrev fQ:=BE.cmp .eql a b
abbrev dK:=fQ a bF
abbrev My:=BE.and (fQ a b) (fQ c d)
abbrev aee:=yV 142 (qZ nQ bF qY qY (s8 qY aed aed aed (dK nQ) (My fH iJ fw jD) (My dA fH dA fw)) Qw) pB mA oh [Wt,yU ef ef]
abbrev aef:=yV 142 (qZ i6 bF qY qY (s8 qY aee aee aee (dK i6) (My iJ iJ jD jD) (My fH fH fw fw)) (eQ iU)) nP lL oh [Qv,Wt]
abbrev de:=BE.cmp .lss a b
abbrev rf:=de a bF
abbrev Mz:=rf bQ
abbrev i8:=bj (.c R)
abbrev Jk:=i8 150
abbrev lN:=gC (mX u v) z
abbrev yW:=lN u v []
abbrev Gs:=yW aQ Jk
abbrev Qx:=i7 bQ jC
abbrev Wu:=rf bR
abbrev qn:=K.c 7
abbrev Qy:=dK bQ
abbrev Ay:=K.bin L I a b
abbrev mY:=Ay a b .add
abbrev aeg:=mY bQ bR
abbrev qo:=C.agg [u,v,w]
abbrev aeh:=qo aQ aQ aQ
abbrev Wv:=lN aeh Jk oh
abbrev Gt:=K.c 841
abbrev rY:=Ay a b .sub
abbrev Qz:=rY bR mT
abbrev Jl:=mX (qo u v w) x
abbrev Gu:=bj (Ay a b L)
abbrev mZ:=Gu a b .mul
abbrev aom:=Jl aQ aQ (mZ Gt Qz) aQ
abbrev nR:=rY a dA
abbrev xD:=nR bQ
abbrev dQ:=BE.and o (de a b)
abbrev aei:=dQ xD jC (gQ xD)
abbrev vV:=RE.v 2
abbrev MA:=K.len vV
abbrev aej:=dQ xD MA (gQ xD)
abbrev nS:=K.cell O a 0
abbrev QA:=nS xD vV
abbrev Jm:=K.c 20
abbrev Az:=K.cell vV a h
abbrev aon:=mZ Jm (Az xD 1)
abbrev AA:=C.b9 [u,v,w]
abbrev aoo:=gC (AA aQ aQ Jk) oh
abbrev jG:=bj bQ
abbrev aek:List C:=[yU jG jg]
abbrev yX:=yW aQ (i8 120)
abbrev ael:List C:=[yU eZ fY]
abbrev Ww:=eQ ij
abbrev lw:=Ay a b .mul
abbrev Wy:=lw bQ eC
abbrev aem:=lw cX bR
abbrev Cr:=iI (i8 120)
abbrev Cs:=K.c 1073741824
abbrev Es:=K.c (-1073741824)
abbrev QB:=LK.int .u64
abbrev rh:=iI aQ
abbrev Wz:=eQ eC
abbrev aop:=iI (AA aQ aQ ef)
abbrev aen:=rY bF bQ
abbrev ik:=K.mm J a b
abbrev aoq:=K.bin .rem .u64 eC (ik cY dA)
abbrev Gv:=i8 (-1)
abbrev MB:=iI ef
abbrev s9:=K.c (-1099511627776)
abbrev vW:=K.c 1099511627776
abbrev WA:=dY bQ bR
abbrev aeo:=dY cX eC
abbrev eV:=C.agg [u,v,w,x]
abbrev AB:=eV jG jg eZ fY
abbrev Et:=eV aQ aQ aQ aQ
abbrev oO:=yW Et Jk
abbrev WB:=eV iT jN dF et
abbrev oo:=lN u aQ z
abbrev nc:=oo u []
abbrev Eu:=eV u (bj a) v (bj b)
abbrev mB:=K.mm E a b
abbrev Jn:=bj (mB a b)
abbrev aor:=nc (Eu (ik bR ij) (ik eC e9) (Jn bQ cY) (Jn cX fP))
abbrev AC:List LK:=[be,be,be,be,be]
abbrev Jo:=dK dG
abbrev aep:=K.c (-2199023255552)
abbrev aeq:=mX Et my
abbrev rZ:=iI aeq
abbrev aos:=i7 cY (.c 2199023255552)
abbrev aer:=de ij aep
abbrev aes:=i7 ij (.c 2199023255552)
abbrev aet:=mY bQ cY
abbrev WC:=mY bR cY
abbrev QC:=mY cX ij
abbrev WD:=mY eC ij
abbrev aeu:=Eu WC WD (bj aet) (bj QC)
abbrev Ct:=K.c (-1048576)
abbrev yY:=yW aQ my
abbrev uF:=K.c 1048576
abbrev AD:=K.c 4
abbrev qp:List LK:=[be,be,be,be]
abbrev QD:=qo fY iT jN
abbrev aev:=mX QD dF
abbrev aot:=T.bi (dK bR) (eK 139 (iI QD) aev [] [jG,ef] qp) (eK 139 (iI QD) aev [] [jG,jg] qp)
abbrev WE:=bj i5
abbrev QE:=K.conv .u64 a
abbrev Jp:=K.conv I (.bin .shr .u64 (QE (mY cX eC)) dA)
abbrev Jq:=nR cX
abbrev bJ:=RK.sl 175
abbrev bT:=RK.sl 312
abbrev bU:=RK.sl 314
def lO:List RK:=[bJ,bT,bU]
abbrev Gw:=C.aj oN
abbrev vZ:=RE.v 1
abbrev AE:=C.aj vZ
abbrev AF:=C.aj vV
abbrev Cu:=eV jG Gw AE AF
def dg:=T.stuck ""
abbrev MC:=eQ fP
abbrev Gx:List LK:=[be,be,be]
abbrev lx:=bj jh
abbrev Cv:=RE.v 3
abbrev Ew:=C.aj Cv
abbrev qr:=RE.v 4
abbrev QF:=C.aj qr
abbrev iC:=C.agg [jG,jg,eZ,fY,iT,Gw,jN,AE,AF,Ew,QF]
abbrev AG:List C:=[iC]
abbrev bM:=RK.sl 173
abbrev aV:=RK.sl 90
def gJ:List RK:=[bM,bJ,bT,bU,aV]
abbrev QG:=dK e9
abbrev v6:=nR ij
abbrev WF:=bj v6
abbrev fC:=RK.sl 73
abbrev cZ:=RK.sl 79
abbrev au:=RK.sl 71
abbrev aR:=RK.sl 82
def tq3:=gJ++[fC]
def tq6:=tq3++[cZ]
def aew:=tq6++[au,aR]
abbrev Gy:=oM aew
abbrev MD:=K.c 64
abbrev sa:=K.len qr
abbrev Cw:=K.c 4096
abbrev pC:=RE.v 5
abbrev Ex:=K.len pC
abbrev rj:=RE.v 6
abbrev pD:=K.len rj
abbrev QH:=K.c 100
abbrev v7:=RE.v 7
abbrev oP:=K.len v7
abbrev sc:=RE.v 8
abbrev oQ:=K.len sc
abbrev aex:=de fP oQ
abbrev QI:=gQ fP
abbrev bY:=RK.sl 96
abbrev jY:=T.loop h G B (.bi o k l)
abbrev v8:=jY h k (gC u z) o B G
abbrev QJ:=v8 h k o u z [aQ] [be]
abbrev xE:=QJ h k o mW z
abbrev cM:=T.bA o (.bA p k)
abbrev oR:=cM (.bi q k l) o p
abbrev Gz:=RE.cell O a h bY
abbrev l9:=T.back 0 B
abbrev AH:=Gu a b .add
abbrev im:=AH a dA
abbrev aow:=qZ pD QH Gy Gy (qZ oQ QH Gy Gy (xE 0 (oR Gy (l9 [im fP]) (.and QI aex) (.and QI aex) (i7 (.len (Gz fP 0 sc)) QH)) aex aew) (i7 oP QH)) (i7 Ex Jm)
abbrev rk:=jF k l m o (dY a b)
abbrev aox:=rk sa Cw Gy aow aow (i7 sa (.c 40))
abbrev lQ:=oM gJ
abbrev uG:=K.len vZ
abbrev AI:=K.len Cv
abbrev Ey:=gC u gJ
abbrev WG:=Ey mW
abbrev aey:=i7 sa Cw
abbrev Jr:=T.bi o (gC u z) k
abbrev aoy:=Jr lQ (i7 ij Cw) (.bool (dY sa (.c 80))) gJ
abbrev GA:=rk a (.c R) k l m o
abbrev aoz:=GA sa WG aoy aoy aey 5000
abbrev jH:=C.aj pC
abbrev ME:=C.agg [jH]
abbrev iQ:=C.aj rj
abbrev ly:=C.aj v7
abbrev oS:=C.aj sc
abbrev uH:=RE.v 9
abbrev AJ:=C.aj uH
abbrev ta:=RE.v 10
abbrev rm:=C.aj ta
abbrev mC:=RE.v 11
abbrev GB:=C.aj mC
abbrev QK:=C.agg [dF,ly,oS,AJ,rm,GB]
abbrev aH:=RK.sl 4
abbrev aX:=RK.sl 65
def tq9:=tq6++[aH,au]
def rp:=tq9++[au,aR,aX]
def i9:=RK.sl 98
def WH:List LK:=[.aj i9,be]
abbrev MF:=RE.v 12
abbrev Cx:=C.aj MF
abbrev wa:=K.len MF
abbrev aez:=jE i5 uG
abbrev lR:=de a i5
abbrev Cy:=lR bQ
abbrev qu:=BE.and (gQ bQ) Cy
abbrev Cz:=dQ bQ uG (gQ bQ)
abbrev kQ:=K.cell oN a h
abbrev QL:=kQ bQ 0
abbrev CA:=K.cell vZ a h
abbrev aeA:=fQ QL (CA bQ 0)
abbrev Ez:=l9 [im bQ]
abbrev WI:=Ey my
abbrev aeB:=eV jN AE AF Ew
abbrev MG:=K.c 1000
abbrev xF:=Ey (i8 190)
abbrev wb:=eQ e9
abbrev QM:=lR dG
abbrev uI:=gQ dG
abbrev QN:=bj qn
abbrev EA:=mY a dA
abbrev AK:=bj (EA dG)
abbrev GC:=l9 [AK]
abbrev WJ:=de dm sa
abbrev xG:=gQ dm
abbrev MH:=BE.and xG WJ
abbrev WK:=nS dm qr
abbrev EB:=K.cell qr a h
abbrev gR:=bj (.cell O a h)
abbrev AL:=gR dm h qr
abbrev aoB:List C:=[bj WK,bj (EB dm 1),bj (EB dm 2),AL 3,AL 4,AL 5,AL 6,AL 7,AL 8,AL 9,AL 10,AL 11,AL 12,AL 13]
abbrev uJ:=im dm
abbrev WL:=dY i5 bF
abbrev km:=dY a (.c 536870912)
abbrev QO:=km i5
abbrev AM:=LE.lit []
abbrev WM:=LE.nY AM (.aj oN)
abbrev qw:=RK.own 4
abbrev gu:=RK.own 71
def EC:=RK.own 96
abbrev aeC:=RE.k (.slice Z 0 0)
abbrev jO:=C.aj aeC
abbrev MI:=BE.and (gQ eC) (lR eC)
abbrev QP:=kQ eC 0
abbrev Js:=kQ eC 1
abbrev WN:=im eC
abbrev QQ:List LK:=[.bool,be]
def gK:List RK:=[.str]
abbrev ED:=oM gK
abbrev MJ:=lR bF
abbrev QR:=K.nX oN bF
abbrev QS:=lR bR
abbrev WO:=gQ bR
abbrev EE:=BE.and WO QS
abbrev oq:=K.c 5
abbrev Jt:=im bR
abbrev QT:=l9 [Jt]
abbrev GD:=eQ dG
abbrev MK:=lN jO ef gJ
abbrev kC:=RK.own 90
abbrev QU:List C:=[aQ,jO]
abbrev WP:=LE.aj pC
def aeD:=gJ++[kC]
def tq1:=gJ++[.am]
def aeF:=tq1++[kC]
abbrev aeG:=mX iQ aQ
def WQ:=tq1++[aV]
abbrev kD:=fQ a kO
abbrev WR:=kD cY
abbrev aeH:=jE gZ bQ
abbrev aeI:List C:=[kP,ef,ol]
abbrev wc:=eK h k u z B [.bool]
abbrev jI:=wc h (.bi o k l) u z B
abbrev xH:=wc h k u [] B
abbrev aoC:=jI 284 (xH 284 (iI pA) pA aeI) gY uE mw [] [lx,aQ,Gp]
abbrev WS:=fQ cY Gm
abbrev QW:=dK jh
abbrev GF:=T.bi o k gY
abbrev uK:=iI (.bool o)
abbrev WT:=GF (uK (dK ji)) QW
abbrev aeJ:=s8 (xH 284 (iI mw) mw aeI) gY WT WT oj WS QW
abbrev aoD:=bN gY aoC aeJ aeH oj
abbrev kn:=fQ a AD
abbrev WU:=kn cY
abbrev WV:=fQ cY oq
abbrev WW:=bj oq
abbrev EF:=bj AD
abbrev oT:=bN k l m o (fQ a b)
abbrev Ju:=fQ bQ a
abbrev pE:=bN k l (.bi q m n) o p
abbrev io:=eK h k u z B [be]
abbrev jP:=io h (.bi o k l) u z B
abbrev mD:=BE.cmp .geq a b
abbrev qy:=mD a bF
abbrev aoE:=oT bQ (.c 32) (iI WW) MB (pE MB MB MB (jP 272 (iI EF) rh (qy bR) jg [] [.aj (.k (.string ⟨#[123,125,40,41,59,44,61,58,46,60,62,33,43,45,42,47]⟩)),.int .u8 bQ]) (Ju Gm) (Ju (.c 10)) (Ju (.c 13))) (Ju (.c 95))
abbrev AN:=mD bQ a
abbrev aoF:=GA bQ (iI ol) aoE aoE (AN (.c 48)) 57
abbrev aoG:=GA bQ (iI my) aoF aoF (AN (.c 65)) 90
abbrev EG:=yW Et (i8 290)
abbrev aeK:=yW Et ef
abbrev uL:=EA ij
abbrev GG:=ik a (rY b c)
abbrev aoH:=GG bF (mB dG uL) cY
abbrev aeL:List C:=[iA,fM,iP,fo]
abbrev AO:=mX (.agg B) u
abbrev QX:=AO mV aeL
abbrev QY:=eQ fw
abbrev fD:=RK.own 65
abbrev aoI:=GG bF (mB (EA dG) uL) cY
abbrev WX:List C:=[mz,lx,kP,mU]
abbrev bW:=bj (.v h)
abbrev sd:=bW 22
abbrev we:=K.v 23
abbrev tc:=bj we
abbrev WY:=mX (eV lL pB mA sd) tc
abbrev WZ:=mX jO iO
def ML:List RK:=[aV,bY]
def aeM:List RK:=[aV,bY,kC]
abbrev W0:=bq.lex [0] E
abbrev QZ:=RK.own 258
abbrev wh:List LK:=[be,.aj Q]
abbrev GH:=wh QZ
abbrev aeN:=de bR AI
abbrev W5:=BE.and WO aeN
abbrev MM:=dQ bR uG WO
abbrev aeO:=kQ bQ 10
abbrev aeP:=kQ bQ 11
abbrev aeQ:=kQ bQ 12
abbrev AP:=gR a h oN
abbrev pF:=AP bQ h
abbrev aoJ:List C:=[bj QL,pF 1,pF 2,pF 3,pF 4,pF 5,pF 6,pF 7,pF 8,pF 9,bj aeO,bj aeP,bj aeQ,pF 13]
abbrev MN:=CA bR 1
abbrev Q0:=CA bR 2
abbrev yZ:=RK.sl 258
abbrev aoK:=T.stuck ""
abbrev aoL:List C:=[jG,jg,eZ,fY,iT,jN,dF,et,fe,iA,fM,iP,fo]
abbrev uM:=C.agg aoL
abbrev ko:=K.v 29
abbrev pG:=bj ko
abbrev uN:=bW 24
abbrev se:=bW 25
abbrev wi:=bW 26
abbrev xI:=K.v 27
abbrev za:=bj xI
abbrev MO:=K.v 28
abbrev pH:=bj MO
abbrev aoM:List C:=[.agg [Gw,mV,mz,lx,kP,mU,nP,lL,pB,mA,sd,tc,uN,se,wi,za,pH]]
abbrev EH:=K.v 30
abbrev pI:=bj EH
abbrev Jv:=eQ EH
abbrev Q1:=dK cY
abbrev Jw:=dK fP
abbrev GI:=dK iJ
abbrev CB:=dK fH
abbrev pJ:=lw (.c 29) bQ
abbrev ot:=lw Gt a
abbrev GJ:=ot jh
abbrev W6:=rY pJ GJ
abbrev W7:=mY pJ GJ
abbrev td:=lw (.c 29) bR
abbrev W8:=rY td GJ
abbrev W9:=mY td GJ
abbrev Q2:=Eu W7 W9 (bj W6) (bj W8)
abbrev wj:List C:=[iP,eZ]
abbrev jx:=bW 31
abbrev sf:=bW 32
abbrev zb:=mX jx sf
abbrev si:=K.v 33
abbrev rq:=bj si
abbrev GK:=K.v 34
abbrev th:=bj GK
abbrev CC:=K.v 35
abbrev uO:=bj CC
abbrev tj:=K.v 36
abbrev uP:=bj tj
abbrev CD:=Jl rq th uO uP
abbrev xJ:=mY pJ (lw a b)
abbrev Xa:=xJ nQ si
abbrev uQ:=mY td (lw a b)
abbrev Xb:=uQ nQ GK
abbrev CE:List C:=[iA,eZ]
abbrev Xc:=xJ iU si
abbrev Xd:=mB W6 Xc
abbrev Xe:=ik W7 Xc
abbrev Xf:=uQ iU GK
abbrev Xg:=mB W8 Xf
abbrev Xh:=ik W9 Xf
abbrev ou:=bW 37
abbrev wl:=K.v 38
abbrev tq:=bj wl
abbrev MP:=mX ou tq
abbrev AQ:=K.v 39
abbrev qz:=bj AQ
abbrev oU:=K.v 40
abbrev uR:=bj oU
abbrev xK:=K.v 41
abbrev uS:=bj xK
abbrev EI:=K.v 42
abbrev oV:=bj EI
abbrev MQ:=Jl qz uR uS oV
abbrev Xi:=xJ nQ AQ
abbrev Xj:=uQ nQ oU
abbrev xL:=T.bi o (lN u v z) k
abbrev GM:=xL k o (Eu b d (bj a) (bj c)) aQ z
abbrev pK:=eK 138 (eK 139 k x gK [v,w] qp) u gK B s7
abbrev zc:=oo u gK
abbrev EJ:=zc (Eu (ik c d) g (Jn a b) (Jn e f))
abbrev aoN:=GM Xd Xe Xg Xh (pK (EJ Xd Xi Xe Xi Xg Xj (ik Xh Xj)) MP ou fo MQ wj) CB gK
abbrev MS:List C:=[et,eZ]
abbrev MT:=xJ iU AQ
abbrev MU:=uQ iU oU
abbrev rr:=bW 43
abbrev CF:=K.v 44
abbrev AR:=bj CF
abbrev MV:=mX rr AR
abbrev EK:=K.v 45
abbrev EL:=bj EK
abbrev Q3:=K.v 46
abbrev AS:=bj Q3
abbrev CG:=bW 47
abbrev GN:=bW 48
abbrev Jx:=mX (qo EL AS CG) GN
abbrev MW:=mY pJ (lw nQ EK)
abbrev MX:=uQ nQ Q3
abbrev Xk:=xJ i6 si
abbrev Xl:=mB W6 Xk
abbrev Xm:=ik W7 Xk
abbrev Xn:=uQ i6 GK
abbrev Xo:=mB W8 Xn
abbrev Xp:=ik W9 Xn
abbrev Xq:=mB Xl MT
abbrev Xr:=ik Xm MT
abbrev Xs:=mB Xo MU
abbrev Xt:=ik Xp MU
abbrev aoO:=GM Xq Xr Xs Xt (pK (EJ Xq MW Xr MW Xs MX (ik Xt MX)) MV rr fo Jx wj) CB gK
abbrev MY:=mY pJ (lw iU EK)
abbrev MZ:=uQ iU Q3
abbrev AT:=K.v 49
abbrev CH:=bj AT
abbrev AU:=bW 50
abbrev Xu:=mX CH AU
abbrev CI:=bW 51
abbrev zd:=bW 52
abbrev uT:=bW 53
abbrev ze:=bW 54
abbrev aeR:=Jl CI zd uT ze
abbrev AV:=mY a (lw b (.v h))
abbrev tw:=AV a nQ h
abbrev Xv:=tw pJ 51
abbrev Xw:=tw td 52
abbrev aoP:=jF (GM Xl Xm Xo Xp (pK (EJ Xl Xi Xm Xi Xo Xj (ik Xp Xj)) MP ou fo MQ wj) CB gK) (pK aoO MP ou fM MQ CE) (pK (.bi GI aoO (pK (GM (mB Xq MY) (ik Xr MY) (mB Xs MZ) (ik Xt MZ) (pK (EJ (mB Xq MY) Xv (ik Xr MY) Xv (mB Xs MZ) Xw (ik (ik Xt MZ) Xw)) Xu CH fo aeR wj) CB gK) MV rr fM Jx CE)) MP ou fe MQ MS) Jo GI
abbrev aeS:=mB Xl (xJ i6 AQ)
abbrev aeT:=ik Xm (xJ i6 AQ)
abbrev aeU:=mB Xo (uQ i6 oU)
abbrev aeV:=ik Xp (uQ i6 oU)
abbrev aeW:=mB aeS MY
abbrev aeX:=ik aeT MY
abbrev aeY:=mB aeU MZ
abbrev aeZ:=ik aeV MZ
abbrev aoQ:=GM aeW aeX aeY aeZ (pK (EJ aeW Xv aeX Xv aeY Xw (ik aeZ Xw)) Xu CH fo aeR wj) CB gK
abbrev aoR:=mB aeW (AV pJ iU 51)
abbrev aoS:=ik aeX (AV pJ iU 51)
abbrev aoT:=mB aeY (AV td iU 52)
abbrev aoU:=ik aeZ (AV td iU 52)
abbrev zf:=bW 55
abbrev AW:=K.v 56
abbrev EM:=bj AW
abbrev EN:=bW 57
abbrev EO:=bW 58
abbrev EP:=bW 59
abbrev EQ:=bW 60
abbrev tA:=iI (i8 260)
abbrev Xx:=dK eC
abbrev GO:=dK ij
abbrev M0:=BE.not (.and o p)
abbrev ae0:=M0 QG Jo
abbrev ae1:List C:=[et,aQ,Gp]
abbrev ae2:List C:=[fe,ef,ol]
abbrev M1:=dK dm
abbrev Xy:=M0 M1 GI
abbrev Xz:List C:=[iA,aQ,Gp]
abbrev XA:List C:=[fM,ef,ol]
abbrev Q4:=M0 (dK jD) CB
abbrev Q5:List C:=[iP,aQ,Gp]
abbrev Q6:List C:=[fo,ef,ol]
abbrev M2:=BE.v 12
abbrev Q7:=C.bool M2
abbrev M3:=jI 134 tA k o u [] B
abbrev zg:=M3 (M3 k p v P) o u B
abbrev aoV:=T.bi Q4 (zg rh (rX 9) (rX 10) (s6 9) (s6 10) Q5 Q6) rh
abbrev aoW:=T.bi Q4 (zg rh (rX 7) (rX 8) Gq Mx Q5 Q6) rh
abbrev aoX:=T.bi Xy (zg aoV (rX 7) (rX 8) Gq Mx Xz XA) aoW
abbrev aoY:=T.bi Q4 (zg rh Mw Qu Ax Cq Q5 Q6) rh
abbrev aoZ:=T.bi Xy (zg aoW Mw Qu Ax Cq Xz XA) aoY
abbrev ao0:=T.bi ae0 (zg aoX Mw Qu Ax Cq ae1 ae2) aoZ
abbrev M4:=GG dG bF dG
abbrev wm:=iI (i8 140)
abbrev ao1:=i7 cX (.c 32768)
abbrev ae3:=rY bF cX
abbrev ao2:=jE (mY (lw bQ bQ) (lw bR bR)) (lw cX cX)
abbrev kq:=gC (i8 250) gK
abbrev mE:=T.bA jk k
abbrev pL:=mE kq
abbrev ER:=K.c 16
abbrev M5:List C:=[iC,dF]
abbrev uU:=RK.mr ⟨142,4,2,J,E⟩
abbrev Q8:=de dG sa
abbrev wn:=BE.and uI Q8
abbrev XB:=EB dG 2
abbrev ae4:=nR (EB dG 9)
abbrev M6:=EB dG 1
abbrev kE:=T.back h [u,v]
abbrev ov:=kE 0 u v
abbrev ae5:=ov AK iQ
abbrev ae6:=ov AK jH
abbrev Q9:=RK.own 142
abbrev XC:=wh Q9
abbrev M7:=km oP
abbrev Jy:=LE.aj v7
abbrev M8:=im iJ
abbrev Jz:List C:=[iC,dF,et]
def GP:=gJ++[bY]
abbrev GQ:List LK:=[.aj aV,be]
def oW:=GP++[aV]
abbrev GR:=i8 270
abbrev Ra:=km pD
abbrev JA:=LE.aj rj
def ao3:=oW++[kC]
abbrev oX:=de a pD
abbrev XD:=oX dm
abbrev M9:=BE.and xG XD
abbrev XF:=de iJ oQ
abbrev sj:=de a Ex
abbrev Na:=BE.and (gQ iJ) (sj iJ)
abbrev xM:=K.len ta
abbrev zh:=C.agg [aQ,aQ,aQ,aQ,aQ,aQ,aQ,aQ,aQ,aQ,aQ,aQ,aQ]
abbrev ae7:List C:=[fe,iA,fM,iP,fo,mV,mz,lx,kP,mU,nP,lL,pB]
abbrev zi:=C.agg ae7
def Rc:=oW++[yZ]
abbrev AX:List LK:=[be,be,be,be,be,be,be,be,be,be,be,be,be,be]
abbrev GS:=bW 61
abbrev GU:=bW 62
abbrev ao4:=C.agg [AU,CI,zd,uT,ze,zf,EM,EN,EO,EP,EQ,GS,GU]
abbrev Nb:=bW 63
abbrev jJ:=fQ a dA
abbrev XG:=jJ j8
abbrev ja:=fQ a mT
abbrev XH:=ja j8
abbrev AY:=kD j8
abbrev AZ:=kn j8
abbrev A4:=fQ j8 oq
abbrev GV:=K.c 6
abbrev CJ:=fQ j8 GV
abbrev JB:=fQ j8 qn
abbrev JC:=fQ j8 jC
abbrev JD:=fQ j8 Gm
abbrev qA:=K.dV o a (.dV p b c)
abbrev ao5:=qA bF bF (qA bF dA bF JC JD) CJ JB
abbrev tB:=qA a b (.dV q c bF) o p
abbrev XI:=tB bF bF bF JB JC JD
abbrev ao6:=qA bF bF (.dV A4 bF (.dV CJ bF XI)) AY AZ
abbrev ao7:=qA jC jC (.dV A4 jC (.dV CJ bF XI)) AY AZ
abbrev Nc:=bj (qA a b c o p)
abbrev CL:=Nc a b c XG XH
abbrev ao8:=CL bF bF (qA dA dA (.dV A4 dA ao5) AY AZ)
abbrev ao9:=CL bF bF (qA kO kO (qA kO bF (tB bF bF kO JB JC JD) A4 CJ) AY AZ)
abbrev CM:=yW zh ef
abbrev JE:=nR i6
abbrev nf:=dQ b c (gQ a)
abbrev ae8:=nf JE JE oq
abbrev GX:=dK JE
abbrev GY:=jJ JE
abbrev G0:=ja JE
abbrev G1:=kD JE
abbrev JF:=kn JE
abbrev JG:=BE.dV o p (.dV q r s)
abbrev wq:=JG o jk p jk q
abbrev G2:=BE.dV o jk Jh
abbrev CN:=wq o p (wq q r (G2 s))
abbrev ae9:=CN GX GY G0 G1 JF
abbrev zj:=AH a (lw b c)
abbrev kF:=bj (.dV o bF a)
abbrev apa:=C.agg [zj bQ Gr si,zj bR Gr GK,eZ,kF eC GX,kF cY GX,kF ij GY,kF fP GY,kF e9 G0,kF dG G0,kF dm G1,kF iJ G1,kF jD JF,kF fH JF]
abbrev zk:=yW zh my
abbrev apb:=C.agg [zj bQ Gr si,zj bR Gr GK,eZ,aQ,aQ,aQ,aQ,et,fe,iA,fM,iP,fo]
abbrev apc:=C.agg [jG,jg,eZ,pH,pG,jN,dF,et,fe,iA,fM,iP,fo]
abbrev tC:=eQ (.v h)
abbrev sk:=tC 31
abbrev CO:=jP h zk (nc w) o v z [u]
abbrev apd:=CO 74 sk apc jx apc []
abbrev ape:=C.agg [jG,jg,eZ,fY,iT,pH,pG,et,fe,iA,fM,iP,fo]
abbrev apf:=CO 74 sk ape jx ape []
abbrev apg:=C.agg [jG,jg,eZ,fY,iT,jN,dF,pH,pG,iA,fM,iP,fo]
abbrev aph:=CO 74 sk apg jx apg []
abbrev api:=C.agg [jG,jg,eZ,fY,iT,jN,dF,et,fe,pH,pG,iP,fo]
abbrev apj:=CO 74 sk api jx api []
abbrev afa:=T.stuck ""
abbrev G3:=EA i6
abbrev Nd:=dK G3
abbrev Nf:=jJ G3
abbrev Ng:=ja G3
abbrev Nh:=kD G3
abbrev XJ:=C.agg [jG,jg,eZ,fY,iT,jN,dF,et,fe,iA,fM,pH,pG]
abbrev Ni:=Gu a b .rem
abbrev XK:=C.agg [jG,jg,Ni (mY cX Gr) jC,fY,iT,jN,dF,et,fe,iA,fM,iP,fo]
abbrev XL:=C.agg [jG,jg,eZ,fY,iT,jN,dF,aQ,aQ,aQ,aQ,iP,fo]
abbrev XM:=C.agg [jG,jg,eZ,aQ,aQ,aQ,aQ,et,fe,iA,fM,iP,fo]
abbrev afb:=nf G3 G3 oq
abbrev Re:=kn G3
abbrev afc:=CN Nd Nf Ng Nh Re
abbrev XN:=C.agg [jG,jg,eZ,kF eC Nd,kF cY Nd,kF ij Nf,kF fP Nf,kF e9 Ng,kF dG Ng,kF dm Nh,kF iJ Nh,kF jD Re,kF fH Re]
abbrev CP:=io h k jx [] [u]
abbrev CQ:=T.bi o k (nc u)
abbrev apk:=bN CM CM (bN (nc uM) (eK 138 (eK 376 (cM (CO 74 (eQ tj) apa uP apa []) ae8 ae9) (AA rq th uO) [] [jx] Gx) zb [] [lL,eZ] s7) (bN (eK 138 (eK 376 (CO 74 (eQ tj) apb uP apb []) (AA rq th uO) [] [jx] Gx) zb [] [lL,eZ] s7) (bN apd apf (bN aph apj afa G0 G1) GX GY) (bN (bN apd apf (bN aph apj afa Ng Nh) Nd Nf) (CP 74 (CQ zk sk XJ) XJ) (bN (CP 74 (CQ zk sk XK) XK) (CP 74 (CQ zk sk XL) XL) (bN (CP 74 (CQ zk sk XM) XM) (cM (CP 74 (CQ zk sk XN) XN) afb afc) (.stuck "") JC JD) CJ JB) AZ A4) XH AY) pz XG) (rX 7) (jE xI fw)
abbrev Rf:=T.bi pz CM CM
abbrev Rg:=gC my lO
abbrev fJ:=gC (i8 130) lO
abbrev A5:=EA cX
abbrev JH:=kQ bR 0
abbrev XO:=K.c (-65536)
abbrev Rh:=kQ bR 1
abbrev G4:=K.c 65536
abbrev Ri:=kQ bR 2
abbrev afd:=de cY uG
abbrev afe:=de fP MA
abbrev aff:=nS fP vV
def CR:=tq9++[aR]
abbrev G5:=C.agg [aQ,jO,jO,jO,jO,jO]
abbrev sn:=K.len uH
abbrev afg:=mX G5 (i8 310)
abbrev G6:=gC afg CR
abbrev Rj:=oX dG
abbrev G7:=BE.and uI Rj
abbrev Nj:=dQ dG oP uI
abbrev Nk:=dQ dG oQ uI
abbrev JI:=C.aj (.cell O a h Q)
abbrev ES:=JI a h O .str
abbrev ng:=gR a h rj
abbrev pM:=ng dG h
abbrev afh:List C:=[.agg [ES dG 0 rj,pM 1,pM 2,pM 3,pM 4,pM 5,pM 6,pM 7,pM 8,pM 9,pM 10,pM 11,pM 12,pM 13,pM 14,pM 15,pM 16]]
abbrev JJ:=gR a h sc
abbrev xN:=JJ dG h
abbrev afi:List C:=[.agg [xN 0,xN 1,xN 2,xN 3,xN 4,xN 5,xN 6,xN 7,xN 8,xN 9,xN 10,xN 11,xN 12]]
abbrev XP:=BE.not GI
abbrev afj:=BE.not (dK jD)
abbrev Nl:=LK.aj aH
abbrev A6:=LK.aj au
abbrev gp:=RK.own 82
abbrev Rk:=LK.aj fD
abbrev XQ:List LK:=[be,.aj gu,.aj gp,Rk]
abbrev XR:List C:=[aQ,jO,jO,jO]
abbrev tD:=de a oP
abbrev Nn:=BE.and xG (tD dm)
abbrev No:=dQ dm sn xG
abbrev afk:=JI dm 0 uH bY
abbrev XS:List LK:=[.aj bY]
abbrev JK:=RE.v 15
abbrev zl:=C.aj JK
abbrev ET:=RE.v 13
abbrev Np:=K.len ET
abbrev Rl:=km Np
def afl:=CR++[aH,au]
def afm:=afl++[gu,.am,fD,bY,gp]
abbrev xO:=JJ dm h
abbrev XT:List C:=[xO 0,xO 1,xO 2,xO 3,xO 4,xO 5,xO 6,xO 7,xO 8,xO 9,xO 10,xO 11,xO 12]
def apl:=afl++[.am,.am]
def apm:=apl++[.am,bY]
def afn:=apm++[.am]
abbrev apn:List C:=[fM,iP,fo,mV,mz,lx,kP,mU,nP,lL,pB,mA,sd]
def afo:=afl++[au,.am,aX,bY,aR]
abbrev ip:=ng dm h
abbrev apo:=C.agg [ES dm 0 rj,ip 1,ip 2,ip 3,ip 4,ip 5,ip 6,ip 7,ip 8,ip 9,ip 10,ip 11,ip 12,ip 13,ip 14,ip 15,ip 16]
abbrev JL:=km wa
abbrev Rm:=LE.aj MF
def XU:=apl++[fD,bY,gp,gu]
abbrev JM:=RE.v 14
abbrev afp:=km (.len JM)
def apq:=apm++[gp,gu,fD]
abbrev jl:=C.aj (.v h)
abbrev uV:=jl 17
abbrev CS:=RE.v 16
abbrev A7:=C.aj CS
abbrev CU:=RE.v 18
abbrev tE:=C.aj CU
abbrev oY:=T.back 1 B
abbrev apr:=oY [uJ,uV,A7,tE]
abbrev afq:=AO mz [fM,iP,fo,mV]
abbrev XW:=eQ gZ
abbrev CV:=C.aj ET
abbrev zm:=C.aj JM
abbrev XX:=i7 Ex jC
abbrev Ro:=qy fP
abbrev qB:=K.len mC
abbrev Nq:=dQ dG xM uI
abbrev afr:=Gz dG 0 ta
abbrev aps:List C:=[iC,fe,dF,.aj afr]
abbrev G8:=dQ dm qB xG
abbrev XY:=eV (gR dm 0 mC) (gR dm 1 mC) (gR dm 2 mC) (gR dm 3 mC)
abbrev xP:=gR dm h uH
abbrev apu:List C:=[.agg [xP 0,xP 1,xP 2,xP 3,xP 4,xP 5,xP 6,xP 7,xP 8,xP 9,xP 10,xP 11,xP 12]]
def nh:=rp++[aH]
abbrev XZ:=gQ jD
abbrev X0:=BE.and XZ (oX jD)
abbrev X1:=dQ jD oP XZ
abbrev X2:=dQ jD oQ XZ
abbrev X3:=dQ jD xM XZ
abbrev X4:=JI jD 0 ta bY
abbrev X5:=km (.len JK)
abbrev X6:=LE.aj JK
def apv:=nh++[au]
def apw:=apv++[gu]
def apx:=apw++[.am,fD,bY,gp]
abbrev xQ:=JJ jD h
abbrev X7:List C:=[xQ 0,xQ 1,xQ 2,xQ 3,xQ 4,xQ 5,xQ 6,xQ 7,xQ 8,xQ 9,xQ 10,xQ 11,xQ 12]
abbrev apy:List C:=[iC,iP,dF,.agg X7,X4]
def apz:=apv++[.am,.am]
def apA:=apz++[.am]
def apB:=apA++[bY,.am]
abbrev X8:List C:=[fo,mV,mz,lx,kP,mU,nP,lL,pB,mA,sd,tc,uN]
abbrev tF:=ng jD h
abbrev apC:=C.agg [ES jD 0 rj,tF 1,tF 2,tF 3,tF 4,tF 5,tF 6,tF 7,tF 8,tF 9,tF 10,tF 11,tF 12,tF 13,tF 14,tF 15,tF 16]
abbrev apD:List C:=[iC,iP,dF,.agg X7,apC,X4]
abbrev X9:List C:=[wi,za,pH,pG]
def apE:=apz++[fD,bY,gp,gu]
abbrev afs:=km (.len CS)
abbrev JN:=RE.v 19
abbrev tG:=C.aj JN
abbrev tH:=jl 20
def iW:=RK.mr ⟨118,4,3,J,E⟩
def Rp:=wh iW
def wt:=gQ fH
def apF:=dQ fH (.len JM) wt
def apG:=dQ fH (.len CS) wt
def Ya:=apA++[iW]
abbrev Rq:=K.len CU
def afu:=de jh Rq
def JO:=gQ jh
def G9:=Gz fH 0 ta
def Ru:=gQ ji
def Yb:=BE.and Ru (de ji (.len G9))
def afv:=nS jh CU
def apH:=Ya++[aV,iW]
abbrev Yc:=LE.aj JN
def JP:=im jh
abbrev Rv:=RE.v 21
abbrev zn:=C.aj Rv
def afw:=de gZ oQ
abbrev CW:=gQ gZ
def Nr:=BE.and CW (oX gZ)
abbrev JQ:=im gZ
def afx:=de jh sn
def CX:=RK.sl 202
def afy:=de j8 (.len Rv)
def Yd:=bj GV
abbrev JR:=RE.v 23
abbrev Ns:=jl 22
def Nt:=RK.own 118
def tI:=RK.mr ⟨3,1099511627778,1,E,E⟩
abbrev Rw:=K.len JR
def apI:=apw++[gp,fD,iW,gm,aX,fD,CX,iW,iW,Nt,tI]
abbrev Hd:=RE.v 26
def Rx:=K.len Hd
def Ry:=nS (nR Rx) Hd
def zo:=RK.own 98
abbrev tJ:=BE.and (gQ a) o
def apJ:=tJ iU (de iU Rx)
def Rz:=tq3++[aX,aX,gm]
def He:=RK.own 202
def zp:List LK:=[be,.aj He]
abbrev JS:=im fw
abbrev zq:=gQ fw
def pN:=ng gZ h
def apK:=eV (pN 0) (pN 1) (pN 2) (pN 3)
def apL:=Rz++[.am,uU]
def apM:=apL++[fD,.am,.am,.am,.am]
def apN:=apM++[He]
def Ye:=BE.and JO (tD jh)
abbrev ma:=gR a h v7
def apO:=eV (ma jh 0) (ma jh 1) (ma jh 2) (ma jh 3)
def apP:=apM++[.am]
def apQ:=apP++[He]
abbrev zr:=K.len (.v h)
abbrev afz:=km (zr 17)
def apR:=apP++[.am,He]
def apS:=kE 8 (im ji) tE
def apT:=dQ j8 oP (gQ j8)
def apU:=kE 9 (im j8) tG
def apV:=dQ i6 pD (gQ i6)
def apW:=eV aQ (mZ Gt bQ) aQ (mZ Gt bR)
def apX:=apL++[.am,.am,.am,.am,.am,.am,.am,.am,.am]
def apY:=dQ i6 oP (gQ i6)
def RA:=gJ++[.str]
def afA:=RA++[bY]
def CY:=RK.own 393
def tq5:=RA++[.am]
def afB:=tq5++[.am]
abbrev RC:=dK xK
def afC:=fQ oU EH
def tq7:=tq5++[CY]
def ap1:=tq7++[CY]
abbrev RD:=km oQ
abbrev RF:=LE.aj sc
abbrev JT:=im oU
abbrev wu:=BE.and o (.and p q)
def ap2:=BE.not (wu (dK EK) (dK Q3) (dK (.v 47)))
def tK:=T.bi o dg k
abbrev tL:=kE 1 u v
def ap3:=tK (tL JT ly) (mD (lw AT cY) (lw (lw cX Gt) Gt))
abbrev Yf:=gQ oU
def ap4:=tq7++[EC,EC]
abbrev Yg:=LE.aj uH
def JU:List RK:=[aeb,aec,gm,bM,bJ,bT,bU,aV,.str,bY,aV]
def tM:=JU++[yZ]
abbrev ap5:List LK:=[be,.bool,.bool,.bool,.bool,.bool,.bool]
abbrev ap6:List C:=[aQ,iO,iO,iO,iO,iO,iO]
abbrev afD:=de oU qB
abbrev JV:=K.cell mC oU 4
abbrev Yh:=dQ JV (.c 10) (gQ JV)
abbrev Yi:=dQ JV uG (gQ JV)
abbrev Nu:List LK:=[be,.bool,.bool,.bool,.bool,.bool]
abbrev ap7:List C:=[aQ,pA,vU,xC,Ax,Cq]
abbrev pO:=RK.sl 3
abbrev ap8:=RE.cell vZ JV 0 pO
abbrev Yj:=de xK (.len ap8)
abbrev Yk:=gQ xK
abbrev zt:=nR (mY (nS xK ap8) (.cell mC oU 5))
abbrev Yl:=im xK
abbrev gL:=cM (cM k q r) o p
abbrev Hf:=gL k (.and o p) (.and q r) s t
abbrev Nv:=C.bool (.dV o p q)
abbrev tN:=Nv o jk p
abbrev ap9:=Hf (oY [Yl,tN (dK zt) (.v 7),tN (jJ zt) (.v 8),tN (ja zt) (.v 9),tN (kD zt) (.v 10),tN (kn zt) (.v 11)]) Yk Yj Yk Yj (nf zt zt oq) (CN (dK zt) (jJ zt) (ja zt) (kD zt) (kn zt))
abbrev aqa:List C:=[aQ,Gq,Mx,s6 9,s6 10,s6 11]
abbrev aqb:=RE.cell vZ JV 1 pO
abbrev Ym:=de EI (.len aqb)
abbrev zu:=nS EI aqb
abbrev RG:=BE.v 13
abbrev RI:=BE.v 14
abbrev RJ:=BE.v 15
abbrev RL:=BE.v 16
abbrev aqc:=gL (.back 2 [im EI,tN (dK zu) M2,tN (jJ zu) RG,tN (ja zu) RI,tN (kD zu) RJ,tN (kn zu) RL]) (tJ EI Ym) (tJ EI Ym) (nf zu zu oq) (CN (dK zu) (jJ zu) (ja zu) (kD zu) (kn zu))
abbrev Yn:=C.bool RG
abbrev Yo:=C.bool RI
abbrev Yq:=C.bool RJ
abbrev Yr:=C.bool RL
abbrev afE:=de xK oq
abbrev Hg:=Ay xK mT .quo
abbrev Ys:=jJ xK
abbrev Yt:=ja xK
abbrev Yu:=kD xK
abbrev Yv:=kn xK
abbrev Yw:=eV oV rr AR EL
abbrev Hh:=tB (.v 26) xI MO (dK Hg) (jJ Hg) (ja Hg)
abbrev Yx:=eV AS CG GN CH
abbrev zv:=iB h k u v z B AC
abbrev JW:=Gu a b .sub
abbrev xR:=JW bF a
abbrev aqd:=zv 72 (oY [Yl,AS,CG,GN,CH]) Yx AU tM [Yw,Eu (ot Hh) (ot Hh) (xR (ot Hh)) (xR (ot Hh))]
abbrev afF:=qA fH gZ (tB ji i6 nQ Yt Yu Yv) RC Ys
abbrev Nw:=T.bi o k (oY B)
abbrev aqe:=Nw (yV 138 (iB 139 (zv 72 (oY [Yl,zd,uT,ze,zf]) (eV zd uT ze zf) EM tM [Yw,eV (mZ Hh (.v 48)) (mZ Hh (.v 48)) (mZ Hh AT) (mZ Hh AT)]) (qo GN CH AU) CI tM [AS,bj afF] qp) AS CG tM [Nc jD fw (tB jh j8 iU Yt Yu Yv) RC Ys,fM]) (eQ afF) [Yl,oV,rr,AR,EL]
abbrev aqf:=tJ AW (de AW qB)
abbrev JX:=bW 64
abbrev Nx:=bW 74
abbrev Ny:=bW 75
abbrev RN:=bW 76
abbrev RO:=bW 77
abbrev RP:=bW 78
abbrev Yy:=eV (bW 88) (bW 89) (bW 90) (bW 91)
abbrev afG:=eV (bW 93) (bW 94) (bW 95) (bW 96)
abbrev aqg:=xL (.back 2 [im AW,bW 93,bW 94,bW 95,bW 96,Nx,Ny,RN,RO,RP,bW 79,bW 80,bW 81,bW 82,bW 83,bW 84,bW 85,bW 86,iO]) (tC 87) afG aQ tM
abbrev aqh:=eV EN EO EP EQ
def JY:=gJ++[cZ]
def afH:=JY++[bY]
abbrev afI:=AO th [mA,sd,tc,uN,se,wi,za,pH,pG,pI,jx,sf,rq]
def Nz:=RK.mr ⟨3,96,1,E,J⟩
def afJ:=afH++[Nz]
abbrev Yz:=BE.and QI (sj fP)
def YA:=RK.own 200
def aqi:=tJ wl (de wl oQ)
def RQ:=nS wl sc
def RT:=K.cell sc wl 4
def zw:=JJ wl h
def aqj:=C.agg [bj RQ,zw 1,zw 2,zw 3,bj RT,zw 5,zw 6,zw 7,zw 8,zw 9,zw 10,zw 11,zw 12,zw 13]
def aqk:=bj (.look v7 1 RQ bF bF 2)
def afK:=K.look v7 1 RQ bF bF 3
abbrev JZ:=BE.look O h a b bF i
def aql:=JZ RQ bF 1 4 v7
def aqm:List LK:=[be,be,be,be,be,be,be,be,be,be,be,be,be,.aj YA,.aj tI]
def aqn:List C:=[zd,uT,ze,zf,EM,EN,EO,EP,EQ,GS,GU,Nb,JX,AJ,jO]
def aqo:=BE.not (.has mC 1 (.v 79) bF bF)
abbrev YB:=LE.aj mC
def aqp:=LE.ins YB 1 [bW 79]
def aqq:=afJ++[aV,.am]
def aqr:=aqq++[YA,tI]
def CZ:=nS (nR wa) MF
def aqs:=wu (.and (dY dA wa) JL) (gQ CZ) (de CZ AD)
def Hj:=T.back 3 [bW 66,bW 67,bW 68,bW 69,bW 70,bW 71,bW 72,bW 73,Nx,Ny,RN,RO,RP,rm,Cx]
def aqt:=T.back 2 [im wl,bW 66,bW 67,bW 68,bW 69,bW 70,bW 71,bW 72,bW 73,Nx,Ny,RN,RO,RP,rm]
def pP:=EA (.cell sc wl 5)
def RU:=Ay pP mT .quo
def afL:=nf RU RU kO
def YC:=dK RU
def YD:=jJ RU
def YE:=ja RU
def afM:=wq YC YD (G2 YE)
def afN:=aqq++[.am,tI,tI]
def aqu:=rY (.v 80) (.v 83)
def aqv:=rY (.v 81) (.v 84)
def aqw:=rY (.v 82) (.v 85)
def EU:=C.agg [jO]
abbrev C0:List LK:=[be,Nl,A6,A6,.aj aR,.aj aX,be]
abbrev RW:=C.agg [dF,AJ,rm,GB,Cx,CV]
abbrev YF:=C.aj JR
def YG:=JY++[au,aR,aH,aH,au,au,aR,aX,aH,au,au,aR,aX,aH,au,au,aR,aX]
def aqx:=YG++[EC]
def aqy:=C.agg [mV,.aj Hd,jl 27,jl 28,jl 29,jl 30]
abbrev RX:=eQ fH
def aqz:=YG++[bY,aR,aH,au,au,aR,aX,i9,zo]
def YI:=oX bF
def YJ:=i8 203
def aqA:=C.agg [kP,jl 34,jl 35,jl 36,jl 37,jl 38]
def uW:=RE.v 43
def J0:=K.conv I (.bin .shr .u64 (QE (mY dG dm)) dA)
abbrev uX:=gR dG h qr
abbrev aqB:List C:=[uX 0,bj M6,bj XB,uX 3,uX 4,uX 5,uX 6,uX 7,uX 8,uX 9,uX 10,uX 11,uX 12,uX 13]
abbrev YK:=C.agg aqB
def aqC:=C.aj (.k (.string ⟨#[98]⟩))
def RY:=RK.own 173
def aqD:List C:=[aqC,i8 50,i8 60,ef,EF,EF,ef,ef,ef,Ws,Ws,Ws,ol,ol,ol,aQ,aQ]
def afO:List RK:=[bM,bJ,aV,cZ,au,bY]
def afP:=afO++[bY]
def aqE:=afP++[aR]
def afQ:=gJ++[gm]
abbrev A8:=RK.own 3
abbrev NA:=wh A8
def tq4:=afQ++[.am]
def aqG:=tq4++[A8]
abbrev afR:=bq.lex [] E
def aqH:=tq4++[.am,A8]
abbrev aqI:=nS (nS dm pC) sc
abbrev aqJ:=nS (.cell pC dm 1) uH
abbrev RZ:=ik aqI aqJ
def tq8:=JY++[aH,au]
def C1:=tq8++[aR]
abbrev Hk:=gQ e9
abbrev YL:=BE.and Hk (sj e9)
abbrev C2:=BE.and Hk (oX e9)
abbrev Hl:=dQ e9 oP Hk
abbrev zx:=dQ e9 oQ Hk
abbrev R6:=C.aj (Gz e9 0 sc)
def afS:=C1++[aH,au]
def afT:=afS++[gu,.am,fD,bY,gp]
abbrev J1:=BE.cell O a 0
abbrev R7:=J1 e9 rj
abbrev xS:=ma e9 h
abbrev aqL:List C:=[xS 0,xS 1,xS 2,xS 3,xS 4,xS 5,xS 6,xS 7,xS 8,xS 9,xS 10,xS 11,xS 12]
abbrev NB:=C.agg aqL
def aqM:=afS++[.am,.am]
def aqN:=aqM++[.am,bY]
def afU:=aqN++[.am]
abbrev tO:=gR e9 h pC
abbrev afV:=C.agg [ES e9 0 pC,tO 1,tO 2,tO 3,tO 4,tO 5,tO 6,tO 7,tO 8,tO 9,tO 10,tO 11,tO 12,tO 13,tO 14,tO 15,tO 16]
abbrev aqO:List C:=[iC,et,dF,NB,afV,R6]
abbrev afW:=AO wi [sd,tc,uN,se]
def YM:=aqM++[fD,bY,gp,gu]
abbrev aqP:=LE.nY (.aj ET) (.lit [[sd,tc,uN,se]])
def aqQ:=aqN++[gp,gu,fD]
abbrev R8:=im e9
abbrev aqR:=l9 [R8,A7,zl,uV]
abbrev uY:=gC afg nh
def afX:=nh++[aH,au]
def aqS:=afX++[.am,.am]
def afY:=aqS++[.am]
def aqT:=afX++[gu]
def afZ:=aqT++[.am,fD,bY,gp]
def aqU:=afY++[bY]
def af0:=aqU++[.am]
def aqV:=afX++[au]
def af3:=aqV++[.am,aX,bY,aR]
def YN:=aqS++[fD,bY,gp,gu]
def aqW:=aqU++[gp,gu,fD]
abbrev aqX:=T.back 3 [im jD,tH,tG,zn]
def af4:=aqV++[aR,aX]
abbrev Hm:=RK.mr ⟨3,4,1,E,E⟩
abbrev af5:=de fw Rq
def NC:=aqT++[gp,fD,pO,Hm]
abbrev J2:=T.ae Q (.ins H h B) z k
abbrev aqY:=J2 1 (kE 4 JS tH) NC [gR fw 0 CU,mW] Yc Hm
abbrev R9:=tJ wa JL
def YO:=NC++[qw]
abbrev af6:=LE.sK wa [jO]
def aqZ:=YO++[gp]
abbrev Sa:List LK:=[be,.aj qw,.aj gp]
abbrev af7:=de gZ Rq
abbrev aq0:=dQ gZ (zr 22) CW
def aq1:=NC++[.am,.am,.am,gp,qw]
abbrev aq2:=C.agg [lx,jl 24,jl 25,.aj Hd,jl 27,jl 28]
abbrev A9:=cM k (.and o p) (.and q r)
abbrev xT:=T.bi (.not o) k l
abbrev C3:=LE.aj (.v h)
abbrev af8:=T.bi af7 (A9 (xT (gL (.new 4 (.set (C3 22) gZ 0 [mW]) [bM,bJ,bT,bU,aV,fC,cZ,aH,au,au,aR,aX,aH,aH,au,gu,gp,fD,pO,Hm,.am,.am,qw,gp] aq1 (cM (.new 82 (.set (.aj JR) gZ 0 [JI gZ 0 ta bY]) aq1 [bM,bJ,bT,bU,aV,fC,cZ,aH,au,au,aR,aX,aH,aH,au,gu,gp,fD,pO,Hm,.am,.am,.am,.am,qw,gp] (.back 5 [JQ,jl 24,jl 25])) (dQ gZ Rw CW) (dQ gZ Rw CW))) (dQ gZ xM CW) (dQ gZ xM CW) aq0 aq0) (.back 5 [JQ,Ns,YF]) (JZ (nS gZ CU) bF 1 1 JN)) CW af7 CW af7) (eK 39 (oo aq2 [bM,bJ,bT,bU,aV,fC,cZ,aH,au,au,aR,aX,aH,aH,au,au,aR,aX,pO,Hm,.am,.am,aH,aR,aH,au,au,aR,aX]) aq2 [bM,bJ,bT,bU,aV,fC,cZ,aH,au,au,aR,aX,aH,aH,au,.am,.am,.am,pO,Hm,.am,.am,aH,aR] [iC,iQ,dF,Ns,oS,YF] [be,Nl,A6,A6,.aj aR,.aj aX])
abbrev aq3:=mE (.loop 5 Sa [aQ,tH,zn] af8)
def aq4:=NC++[gp]
def ND:List RK:=[aH,au,au,aR,aX,aH,au,au,aR,aX]
abbrev J3:=oM ND
abbrev af9:=de cX sa
abbrev Sb:=gQ cX
abbrev YP:=tJ A5 (lR A5)
abbrev NE:=BE.and Sb (lR cX)
abbrev aq5:=cM (gC (zj (kQ cX 1) (rY bR (kQ cX 0)) (kQ cX 2)) lO) NE NE
abbrev nj:=mD a dA
abbrev YQ:=nj bQ
abbrev J4:=nR bR
abbrev aq6:=dQ J4 i5 (gQ J4)
abbrev EV:=bN k (.bi q l m) n o p
abbrev wv:=BE.not (dY a b)
abbrev aq7:=bN fJ (EV fJ fJ QT fJ (.not (dY Rh G4)) (mD Ri XO) (wv Ri G4)) fJ (mD JH bQ) (mD Rh XO)
abbrev uZ:=jI h k l Ji mw z B
abbrev aq8:=uZ 159 fJ (oY [bj A5]) lO [iT,ef,bj G4]
abbrev aga:=de eC uG
abbrev aq9:=nf (nR eC) (nR eC) uG
abbrev J5:=CA eC h
abbrev ara:=pE fJ fJ fJ (.back 2 [WN]) (rf (J5 2)) (de (J5 3) (J5 2)) (i7 (J5 3) uF)
abbrev arb:=jF fJ ara ara (jE (J5 1) dA) (jE (J5 1) mT)
abbrev agb:=de cY MA
abbrev agc:=nS cY vV
abbrev agd:=dY bR Cs
abbrev age:=dY bQ Cs
abbrev NF:=nj ij
abbrev agf:=dY ij mT
abbrev Sc:=dY fP jC
abbrev YR:=nj dG
abbrev agh:=BE.and QG M1
abbrev YS:=nj e9
abbrev agi:=dY e9 kO
abbrev agj:=BE.and Jo M1
abbrev ww:=jF k gY gY o p
abbrev Hn:=ww (uK q) o p
abbrev arc:=ww (ww (Hn YS agi agj) Ro Sc) NF agf
abbrev ard:=rk dm gZ (uK (wu GO Jw (.and QG Jo))) gY gY (nj dm)
abbrev NG:=lR e9
abbrev YT:=l9 [R8]
abbrev wz:=i7 a bF
abbrev YU:=wz dG
abbrev are:=nf (nR dG) (nR dG) sa
abbrev arf:=uZ 163 lQ (jI 163 lQ (jI 163 lQ (jI 165 lQ (jI 166 lQ (oY [AK]) Mw Ax gJ [YK]) Gn xC gJ [YK,WE]) Ep vU gJ [uX 3,ef,ol]) Eo pA gJ [bj XB,aQ,WF]) gJ [bj M6,aQ,bj (nR i5)]
abbrev J6:=K.nX oN bQ
abbrev arh:=xT ED Ez (fQ J6 (.c 95))
abbrev ari:=GA J6 Ez arh arh (mD J6 (.c 48)) 57
abbrev arj:=GA J6 Ez ari ari (mD J6 (.c 65)) 90
abbrev ark:=xE 0 (.bA qu (GA J6 Ez arj arj (mD J6 (.c 97)) 122)) Cy gK
abbrev arl:=jF ED ark ED (mD QR (.c 65)) (wv QR (.c 90))
abbrev Sd:=nj cX
abbrev YV:=dK fw
abbrev agk:=qA eC ij (tB e9 dm jD (ja fw) (kD fw) (kn fw)) YV (jJ fw)
abbrev agl:=qA cY fP (tB dG iJ fH (ja fw) (kD fw) (kn fw)) YV (jJ fw)
abbrev arm:=rk agk jC (jF tA (l9 [JS]) tA (nj agl) (wv agl kO)) tA tA (qy agk)
abbrev NH:=nR dm
def agm:=tq1++[.am]
def arn:=aeF++[kC]
abbrev aro:=BE.and xG (dY dm pD)
def arp:=WQ++[kC,aV]
def arq:=WQ++[.am,aV]
def agn:=arq++[kC]
def ars:=agn++[kC]
def ago:=arq++[.am,kC,kC]
def art:=ago++[aV]
abbrev ow:=T.bA o (.new h H z A k)
abbrev u0:=ow h k o z A (.nY H V)
abbrev sr:=ow h k jk z A (.lit M)
abbrev aru:=ow 90 (ow 90 (u0 90 (sr 90 (u0 90 (ow 90 (u0 90 (ov AK CV) (.and (km qB) JL) art [bM,bJ,bT,bU,aV,.am,aV,.am,aV,.am,kC,.am,aV,kC] YB Rm) aro ago art (.sub JA dm pD)) (.and (km sn) (km xM)) ars ago Yg (.aj ta)) agn ars [aqB]) (.and M7 RD) arp agn Jy RF) aro arn arp (.sub JA bF dm)) jk aeF arn AM
abbrev arv:=dQ J4 AI (gQ J4)
def arw:List RK:=[aV,bY,.am,kC,kC]
abbrev arx:=BE.and WO (dY bR AI)
abbrev YW:=LE.aj Cv
def tq0:List RK:=[aV,bY,.am,aV]
def arz:=tq0++[kC,aV]
def tq2:=tq0++[.am,aV]
def agp:=tq2++[kC]
def arB:=agp++[kC]
def agq:=tq2++[.am,kC,kC]
def arC:=agq++[aV]
abbrev arD:=ow 90 (ow 90 (u0 90 (cM (sr 90 (u0 90 (ow 90 (u0 90 (ov (im bQ) rm) (.and RD (km sn)) arC [aV,bY,.am,aV,.am,aV,.am,kC,.am,aV,kC] RF Yg) arx agq arC (.sub YW bR AI)) (.and Ra M7) arB agq JA Jy) agp arB [aoJ]) qu qu) (.and (km sa) (km Ex)) arz agp (.aj qr) WP) arx arw arz (.sub YW bF bR)) jk [aV,bY,.am,kC] arw AM
abbrev agr:=oM [aV,bY,.am,aV]
abbrev NI:=mE agr
abbrev arE:=T.bi (dK MN) (mE (xT agr (oY [Jt]) (dK Q0))) NI
abbrev YX:=K.cell Cv bR 4
abbrev EW:=xT k l (dY a b)
abbrev arF:=T.bi (nj Q0) (mE (EW Q0 kO agr (oY [Jt]))) NI
abbrev ags:=rk MN jC arF NI NI (qy MN)
abbrev YY:=dY cX mT
abbrev arG:=ww (Hn Q1 NF (dY ij ER)) (nj eC) (dY eC jC)
abbrev C4:=ja bR
abbrev YZ:=dK cX
abbrev arH:=rk cY kO (uK GO) gY gY (nj cY)
abbrev agt:=ww arH (qy eC) (dY eC jC)
abbrev arI:=s8 (uK GO) gY gY gY YZ Xx Q1
abbrev arJ:=GF (uK (dY ji kO)) (nj ji)
abbrev agu:=rk jh jC arJ gY gY (qy jh)
abbrev Y0:=yW aeh Jk
abbrev Y1:=i8 580
abbrev Y2:=i8 (-580)
abbrev agv:=dY bR vW
abbrev Y3:=bN rZ rZ (jF (mE rZ) (mE rZ) (mE rZ) (mD QC s9) (dY QC WD)) aer aes
abbrev Y4:=T.bi (wv WC vW) rZ rZ
abbrev u4:=iI (.agg B)
abbrev Ho:=tN o Jh
abbrev arK:=cM (u4 [Ho (dK v6),Ho (jJ v6),Ho (ja v6),Ho (kD v6),.bool (G2 (kn v6))]) (nf v6 v6 oq) (wq (dK v6) (jJ v6) (wq (ja v6) (kD v6) (G2 (kn v6))))
abbrev arL:=u4 [mW,mW,iO,iO,iO]
abbrev arM:=cM (u4 [Ho (dK uL),Ho (jJ uL),Ho (ja uL),Ho (kD uL),.bool (G2 (kn uL))]) (nf uL uL oq) (wq (dK uL) (jJ uL) (wq (ja uL) (kD uL) (G2 (kn uL))))
abbrev Hp:=Ay ko mT .quo
abbrev Y5:=tB i6 iU nQ (dK Hp) (jJ Hp) (ja Hp)
abbrev agw:=AH bQ (lw gZ bF)
abbrev agx:=AH bR (lw gZ bF)
abbrev NJ:=u4 [agw,agx,eZ,fY,iT,jN,dF,et,fe,iA,fM,iP,fo]
abbrev Hq:=EA (Ay (mY (nR fw) cX) jC .rem)
abbrev arN:=zj bR gZ (.c 21)
abbrev arO:=zj bR gZ (.c (-21))
abbrev arP:=lw gZ (.c (-29))
abbrev arQ:=zj bQ gZ (.c (-20))
abbrev arR:List LK:=[be,be,be,be,be,be,be,be,be,be,be,be,be]
abbrev arS:=C.agg [jx,sf,rq,th,uO,uP,ou,tq,qz,uR,uS,oV,rr]
abbrev arT:=C.agg [jx,sf,rq,kF GK GX,kF CC GX,kF tj GY,kF (.v 37) GY,kF wl G0,kF AQ G0,kF oU G1,kF xK G1,kF EI JF,kF (.v 43) JF]
abbrev arU:=C.agg [jx,sf,rq,aQ,aQ,aQ,aQ,tq,qz,uR,uS,oV,rr]
abbrev C5:=bj (.dV o MO a)
abbrev C6:=bj (.dV o ko a)
abbrev arV:=C.agg [jG,jg,eZ,C5 eC GX,C6 cY GX,C5 ij GY,C6 fP GY,C5 e9 G0,C6 dG G0,C5 dm G1,C6 iJ G1,C5 jD JF,C6 fH JF]
abbrev arW:=C.agg [jG,jg,eZ,C5 eC Nd,C6 cY Nd,C5 ij Nf,C6 fP Nf,C5 e9 Ng,C6 dG Ng,C5 dm Nh,C6 iJ Nh,C5 jD Re,C6 fH Re]
abbrev Y6:=BE.and zq (lR fw)
abbrev arX:=eV mz lx kP lK
abbrev arY:List C:=[mU,nP,lL,pB,mA,sd,tc,uN,se,wi,za,pH,pG]
def arZ:List RK:=[aV,bY,.am,gu,gu]
def ar0:=oW++[au]
abbrev ar1:=nf (nR oP) (nR oP) oP
abbrev Ht:=BE.and (gQ ko) (lR ko)
def C7:List RK:=[aV,.str,bY]
abbrev u5:=AP ko h
abbrev ar2:List C:=[.agg [u5 0,u5 1,u5 2,u5 3,u5 4,u5 5,u5 6,u5 7,u5 8,u5 9,u5 10,u5 11,u5 12,u5 13]]
abbrev ar3:List LK:=[.bool,.bool,.bool,.bool,.bool]
abbrev ar4:=C.agg [Gq,Mx,s6 9,s6 10,s6 11]
abbrev ar5:List C:=[aQ,mw,pA,vU,xC,Ax]
abbrev agy:=de si oq
abbrev Y7:=tJ si agy
abbrev Se:=dK si
abbrev Sf:=jJ si
abbrev Sg:=ja si
abbrev Si:=kD si
abbrev Sj:=kn si
abbrev Y8:=CN Se Sf Sg Si Sj
abbrev Sk:=JG Se (.v 7) Sf (.v 8) (JG Sg (.v 9) Si (.v 10) (.dV Sj (.v 11) Jh))
abbrev ar6:=oR (cM (oY [im si,tN Se M2,tN Sf RG,tN Sg RI,tN Si RJ,tN Sj RL]) Y7 Y8) (gL (oY [im si,Nv Se Sk M2,Nv Sf Sk RG,Nv Sg Sk RI,Nv Si Sk RJ,Nv Sj Sk RL]) Y7 Y8 Y7 Y8) Y7 Y8 (JG Se M2 Sf RG (JG Sg RI Si RJ (.dV Sj RL Jh)))
abbrev Sm:=eV jx sf rq th
abbrev ar7:List C:=[Sm,Eu (ot i6) (ot i6) (xR (ot i6)) (xR (ot i6))]
abbrev J7:=eV uO uP ou tq
abbrev Sn:=mX J7 qz
abbrev pQ:=eK h k u z B AC
abbrev C8:=pQ 195 (oY P) u C7 B
abbrev ar8:=C8 Sn ar7 [ef,uO,uP,ou,tq]
abbrev Sq:=C.agg [AE,mV,mz,lx,kP,mU,nP,lL,pB,mA,sd,tc,uN,se,wi,za,pH]
abbrev Sr:List C:=[Sm,J7]
abbrev Ss:=mX (eV qz uR uS oV) rr
abbrev ar9:=Nw (eK 296 (C8 Ss Sr [ef,qz,uR,uS,oV]) J7 C7 [uM,Sq,aQ] qp) (eQ cY) [ef,jx,sf,rq,th]
abbrev asa:=C8 Sn ar7 [my,uO,uP,ou,tq]
abbrev asb:=Nw (eK 296 (C8 Ss Sr [my,qz,uR,uS,oV]) J7 C7 [uM,Sq,ef] qp) MC [my,jx,sf,rq,th]
abbrev asc:List C:=[Sm,Eu (ot iU) (ot iU) (xR (ot iU)) (xR (ot iU))]
abbrev asd:=C8 Sn asc [ol,uO,uP,ou,tq]
abbrev ase:=Nw (eK 296 (C8 Ss Sr [ol,qz,uR,uS,oV]) J7 C7 [uM,Sq,my] qp) GD [ol,jx,sf,rq,th]
abbrev asf:=C8 Sn asc [EF,uO,uP,ou,tq]
abbrev asg:=Nw (eK 296 (C8 Ss Sr [EF,qz,uR,uS,oV]) J7 C7 [uM,Sq,ol] qp) (eQ iJ) [EF,jx,sf,rq,th]
abbrev ash:=C8 Sn [Sm,Eu (ot nQ) (ot nQ) (xR (ot nQ)) (xR (ot nQ))] [WW,uO,uP,ou,tq]
abbrev asi:=Nw (eK 296 (C8 Ss Sr [WW,qz,uR,uS,oV]) J7 C7 [uM,Sq,EF] qp) RX [WW,jx,sf,rq,th]
def EX:=afA++[aV]
abbrev asj:=C.agg [jH,mA,sd,tc,uN,se,wi,za,pH,pG,pI,jx,sf,rq,th,uO,uP]
def NK:=EX++[au]
abbrev agz:=eV uR uS oV rr
abbrev Y9:=tJ AT (de AT oQ)
abbrev asl:=eV ze zf EM EN
abbrev asm:=eV AU CI zd uT
abbrev St:=eV EP EQ GS GU
abbrev Za:=mX St Nb
abbrev J8:=oM C1
abbrev asn:=oR (cM (jP 95 J8 YT (eQ dm) iA C1 [iC,et,dF,R6]) zx zx) YT C2 C2 R7
abbrev Ba:=eV (JW a bF) (AH b bF) (JW c bF) (AH d bF)
abbrev aso:List C:=[Q2,Ba Xk Xk Xn Xn]
abbrev NL:=eV ou tq qz uR
abbrev Su:=mX NL uS
abbrev Zb:=mX oV rr
abbrev Zc:=Jl AR EL AS CG
abbrev Sv:=eV GN CH AU CI
abbrev Zd:=mX Sv zd
abbrev agA:=mX uT ze
abbrev agB:=Jl zf EM EN EO
abbrev asp:List C:=[Sv,Ba (AV pJ iU 55) (AV pJ iU 55) (uQ iU AW) (uQ iU AW)]
abbrev Ze:=wz iJ
abbrev asq:=Jl (bW 66) (bW 67) (bW 68) (bW 69)
abbrev Sw:=eV (bW 70) (bW 71) (bW 72) (bW 73)
abbrev Sx:=wz fH
abbrev asr:=eV (bW 81) (bW 82) (bW 83) (bW 84)
abbrev ast:=T.bi Sx (yV 269 (eK 261 (zv 195 (zc Sw) Sw Nx gK [St,Ba (tw pJ 66) (tw pJ 66) (tw td 67) (tw td 67)]) asq gK [JX,fo] qp) JX (bW 65) gK wj) (zc St)
abbrev zy:=eK 269 (eK 261 (eK 195 k w gK D AC) v gK P qp) u gK B s7
abbrev asu:=T.bi Sx (zy (zc St) agA agB Za wj [uT,fo] [Sv,Ba (tw pJ 55) (tw pJ 55) (uQ nQ AW) (uQ nQ AW)]) (zc Sv)
abbrev asv:=T.bi Ze (zy ast agA agB Za CE [uT,fM] asp) asu
abbrev asw:=mY td (lw iU EK)
abbrev asx:List C:=[NL,Ba (xJ iU CF) (xJ iU CF) asw asw]
abbrev asy:=mY td (lw nQ EK)
abbrev asz:=T.bi Sx (zy (zc Sv) Zb Zc Zd wj [oV,fo] [NL,Ba (xJ nQ CF) (xJ nQ CF) asy asy]) (zc NL)
abbrev asA:=T.bi Ze (zy asu Zb Zc Zd CE [oV,fM] asx) asz
abbrev asB:=T.bi YU (zy asv Zb Zc Zd MS [oV,fe] asx) asA
abbrev asC:List C:=[Q2,Ba Xc Xc Xf Xf]
def agC:=C1++[qw]
def agD:=agC++[gu]
def asD:=afS++[aR,au,aX]
def asE:=agD++[gp,.am,fD,gu]
def asF:=C1++[.am,.am,.am,.am,.am,.am]
abbrev asG:=ow 65 (l9 [R8,zm,zl]) Rl asE [bM,bJ,bT,bU,aV,cZ,aH,au,aR,qw,gu,gp,.am,.am,gu,fD] aqP
abbrev Zf:=l9 [uJ]
abbrev asH:=mB (ik (rY dG cY) bF) (EA (rY ij cY))
abbrev agE:=C.agg [jG,jg,eZ,fY,iT,jN,dF,et]
def Sy:=tq8++[au,aR,aX]
abbrev J9:=oM Sy
abbrev jZ:=u0 h k o z A H (.lit [B])
abbrev asI:=jZ 142 (tL AK ly) Ra [bM,bJ,bT,bU,aV,.am,Q9] [bM,bJ,bT,bU,aV,.am,.am,Q9] [et,fe] JA
abbrev Zg:=nf QP QP AI
abbrev asJ:=dQ Js AI (gQ Js)
abbrev asK:List C:=[Jn (nS QP Cv) (nS Js Cv)]
def asL:List RK:=[gm,.am,.am,.am,A8]
abbrev asM:=dQ Js sa (gQ Js)
abbrev asN:=dQ dG (.len JK) uI
abbrev asO:=dQ dm (.len JK) xG
abbrev Zh:=dQ dG (.len JN) uI
def asP:=nh++[.am,gm,pO,.am,.am,.am,qw,gp]
abbrev asQ:=cM (.new 4 (.set Yc dG 0 [iO]) asP [bM,bJ,bT,bU,aV,fC,cZ,aH,au,au,aR,aX,aH,.am,gm,pO,.am,.am,.am,.am,gp,qw] (oY [uJ,zn,tH])) Zh Zh
abbrev asR:=dQ dG (zr 20) uI
abbrev asS:=AO fM [iA,tG,tH,zn,Ns,YF]
abbrev asT:=C.agg [et,CV,zm,zl,A7,uV]
abbrev asU:=C.agg [iA,tE,tG,tH,zn,Ns]
def agF:=af4++[aH,au,au,aR,aX]
abbrev xU:=fQ (.cell O a h) b
abbrev Bb:=xU a (.cell F b i) h O
abbrev ru:=wu o p (wu q r s)
abbrev tP:=qZ c d k l m (de a b)
abbrev xV:=C.bool (.cell O a h)
abbrev EY:=bN k l m (wv a b) o
abbrev Hu:=K.cell O fP h
abbrev wA:=iB h k (.agg P) u z B G
abbrev u6:=C.int .u64 a
abbrev Bc:=xU bF a h O
abbrev oZ:=jY h k l o [aQ] [be]
abbrev pR:=jI h k l oj lK z B
abbrev pS:=jY h k l o [aQ,u] G
abbrev ss:=ma we h
abbrev su:=gR AW h mC
def tQ:=gR CC h pC
def tR:=ng jh h
def tS:=ng fH h
abbrev u7:=AP fw h
abbrev wB:=ng NH h
abbrev xW:=gR fw h Cv
abbrev xX:=ma (nR oP) h
abbrev NM:=qo u v (mZ (.c 609) Qz)
abbrev C9:=jF k l m (dY a b) o
abbrev wC:=jY h k l o QU G
def xY:=gR jh h uH
def xZ:=JJ gZ h
def ya:=JJ fH h
abbrev yb:=JJ e9 h
def Be:=Bc bF h mC
abbrev Bf:=gR fP h pC
def yc:=Bb fH fH h i uH JM
abbrev u9:=Hu h pC
def Da:=ng bF h
abbrev Hv:=cM (xT k l q) o p
abbrev Bg:=gR a h vZ
abbrev Bh:=xL k o Et u z
abbrev EZ:=cM (mE k) jk jk
def Db:=Bb bF bF h i uW rj
abbrev NN:=T.ez h i j N E O z k
abbrev Hx:=xL (nc (NM x y)) o (qo u v w) aQ z
def Ka:=T.bi o k dg
abbrev zA:=mZ (.c 29) a
abbrev wD:=gR iJ h pC
abbrev Zi:=GF (uK (dY bQ cX)) o
abbrev E4:=T.gA jk o k l
def E5:=Bb dA dA h i uW rj
abbrev Sz:=Zi (AN bR)
abbrev Hy:=gR dG h pC
def SA:=T.new h (.lit M) z A k
abbrev E6:=xL k o G5 u z
def E7:=Bb dA dA h i mC rj
abbrev Dc:=tP a b c uF k l m
abbrev Hz:=xH 134 k u B
abbrev zB:=de a dA
abbrev E8:=CA cY h
abbrev E9:=J1 a v7
abbrev Kb:=gL (xT k l s) o p q r
abbrev sw:=fQ a i5
def HA:=bN dg dg k o p
def HB:=xU dA a h O
abbrev Fa:=EY a b kq k kq o
abbrev ye:=Bb bQ bQ h i oN vZ
abbrev SB:=T.bi aez k l
def Dd:=K.cell rj a h
def T82:T:=Sz
def SC:T:=pR 82 qY (uZ 82 qY (jI 82 qY (jI 82 qY (cM (jI 154 qY (jI 154 qY (jI 154 qY (jI 154 qY (jI 154 qY (yV 142 (qZ ji bF qY qY (s8 qY aef aef aef (dK ji) (My bF iJ dA jD) (My iJ fH jD fw)) (eQ j8)) kP mU oh [yU aQ ef,Qv]) (rX 8) Mx oh [iA,xV cY 2 oN,ef,mz]) (rX 7) Gq oh [fe,.bool (wz (kQ cY 5)),ef,AP cY 5]) Qu Cq oh [et,.bool (wz (kQ cY 4)),ef,AP cY 4]) Mw Ax oh [dF,xV cY 1 oN,AP cY 3,Gp]) Gn xC oh [jN,xV cY 0 oN,ef,my]) (dQ cY (.c 10) Jj) (dQ cY i5 Jj)) Ep vU oh [fY,ef,ol]) Eo pA oh [eZ,aQ,JW jh dA]) oh [jg,aQ,JW gZ dA]) oh [iT,ef,Ws]
def agH:T:=Zi (dY bR bQ)
def NO:T:=bN Gs Gs (bN Gs Gs (qZ aeg jC (nc aQ) (nc (JW aeg jC)) (nc (bj aeg)) Qy) Wu (i7 bR qn)) Mz Qx
def NP:T:=bN Wv Wv (pE Wv Wv (gC aom oh) (cM (bN (.bi (dK Qz) (mE (oo (NM (zA QA) (zA (Az xD 1))) oh)) (mE (oo (NM (zA QA) aon) oh))) (mE (oo (NM (mZ Jm QA) (zA (Az xD 1))) oh)) (mE (oo (NM (mZ Jm QA) aon) oh)) (dK Qz) (dK Qz)) aei aej) (zB bR) (i7 bR kO) Qy) Mz Qx
def Zj:T:=bN aoo aoo (gL (gC (AA (bj QA) (bj (Az xD 1)) aQ) oh) aei aej aei aej) (zB bQ) Qx
def Zk:T:=jP 210 yX (jP 210 yX (io 110 (nc dF) dF [] [bj Wy,bj aem]) Ww jN [] ael) (eQ cY) iT [] aek
def Zl:T:=qZ bR Cs Cr Cr (tP bQ Es bQ Cs Cr Cr (eK 276 (eK 275 (.bi (jE eC dA) Cr rh) (u6 eC) [] [u6 cX,u6 (QE bR)] [QB]) (u6 cX) [] [jG] [QB])) (zB bR)
def Zm:T:=.bi Mz (iI (u6 (.bin .sub .u64 bF (QE bQ)))) (iI (u6 (QE bQ)))
def agI:T:=cM (.bA (eQ bR) (iI (Gu (rY bQ (Ay (mY (Ay bQ bR .rem) bR) bR .rem)) bR .quo))) (eQ bR) (eQ bR)
def Zn:T:=io 210 (pE (iI (AA aQ aQ fY)) aop aop (io 371 (io 371 (iI (AA iT (xR ij) aQ)) jN [] [mZ aen cX,jg]) iT [] [mZ bQ cX,jg]) Wz (de cX Es) (i7 cX Cs)) fY [] aek
def Zo:T:=.bi (dK bR) (iI (u6 bQ)) (jY 0 (.bA (eQ (ik cY dA)) (.bi (dK aoq) (iI (u6 cY)) (l9 [u6 eC,u6 cY,u6 aoq]))) (iI (u6 cX)) Wz [u6 bR,u6 bQ,u6 bR] [QB,QB,QB])
def Zp:T:=xH 192 (xH 192 (bN (.bi uE rh (iI Gv)) MB (tP bQ bR bQ bR (iI Gv) MB rh) pz uE) mw [jg]) lK [jG]
def Zq:T:=uK (jE bQ bQ)
def T66:T:=tP bQ s9 bQ vW gY gY (tP bR s9 bR vW gY gY (tP cX s9 cX vW gY gY (tP eC s9 eC vW gY gY (GF (uK aeo) WA))))
def T72:T:=pR 66 oO (uZ 66 oO aor [] [WB]) [] [AB]
def T69:T:=zv 72 (uK Jo) WB fe [] [AB,AB]
def agM:T:=xH 66 (bN oO rZ (pE rZ rZ rZ (uZ 66 rZ (nc aeu) [] [aeu]) aos aer aes) oj (de cY aep)) lK [AB]
def T24:T:=pR 66 (yW iO Jk) (xH 66 (bN (yW iO Jk) (C9 bR ij (nc (.bool (dY eC e9))) (nc iO) (nc iO) (mD cX fP)) (nc iO) Ji (AN cY)) mw [WB]) [] [AB]
def agO:T:=Dc bQ Ct bQ yY yY (Dc bR Ct bR yY yY (Dc cX Ct cX yY yY (Dc eC Ct eC yY yY (Dc cY Ct cY yY yY (Dc ij Ct ij yY yY (nc (zj (mY Wy (lw bR cY)) cX ij)))))))
def agP:T:=jF (eK 139 (iI QD) aev [] [jG,ol] qp) aot aot (dK bR) (kn cX)
def agQ:T:=.bi oj (uK Qy) (xH 82 (iI mw) mw [jG,jg,eZ])
def agR:T:=Zi (dY bR bQ)
def Zr:T:=pS 0 (Hv (ov (im Jp) fY) (ov eZ (bj Jp)) (nf Jp Jp i5) (nf Jp Jp i5) (i7 (kQ Jp 0) bR)) (cM (.bA (nf Jq Jq i5) (gC (zj (kQ Jq 1) (rY bR (kQ Jq 0)) (kQ Jq 2)) lO)) jk (nf Jq Jq i5)) (de cX eC) WE s7
def asV:T:=jP 81 dg (pR 219 dg (io 220 (oo fY lO) fY lO [Cu,jg]) lO [jg,aQ,bj xD]) (eQ cX) eZ lO [Cu]
def asW:T:=yV 353 (tK (jP 210 dg (pR 219 dg (eK 354 (gC (AA et fe iA) lO) (AA et fe iA) lO [yU eZ fY,iT] Gx) lO [eZ,aQ,fY]) MC dF lO ael) Ww) iT jN lO [Cu,jg]
def asX:T:=eK 310 (eK 310 (gC (bj (GG bF jh iU)) lO) (AA nP lL pB) lO [Cu,fY,yU iP fo] Gx) (AA lx kP mU) lO [Cu,fY,yU mV mz] Gx
def T70:T:=Zi (dY bR bQ)
def T65:T:=jP 37 (pR 70 (Ey ef) (Ey et) gJ [dF,aQ,WF]) (Ey et) QG et gJ AG
def T12:T:=wc 33 (qZ i5 jC Gy (.bi (dY i5 MD) Gy aox) aox oj) lK aew AG
def Zs:T:=qZ uG MD lQ lQ (qZ AI MD lQ lQ (rk ij Cw WG aoz aoz (dY sa (.c 80))) (i7 MA MD)) (i7 i5 QH)
def T18:T:=iB 16 (xL dg QG (.bool (dK wa)) et [bM,bJ,bT,bU,aV,fC,cZ,aH,au,au,aR,aX,i9]) Cx et rp [iC,ME,iQ,QK] WH
def T20:T:=tK (xE 0 (Kb dg Ez qu qu Cz Cz (wu aeA (ye 1 1) (ye 2 2))) Cy [i9,i9]) aez
def Zt:T:=bN WI WI (jP 81 (Ey dF) (pR 82 xF (uZ 82 xF (io 83 (bN xF xF (bN xF xF (oZ 0 (A9 (jI 82 xF (jI 82 xF (jI 82 xF GC Gn xC gJ [AP dG 3,aQ,QN]) Ep vU gJ [AP dG 2,aQ,jg]) Eo pA gJ [AP dG 1,aQ,jG]) uI QM uI QM) (v8 1 (cM (qZ WK uF xF xF (jI 84 xF (tL uJ (bj WK)) Eo pA gJ [.agg aoB,WE,jN]) (dY WK iJ)) MH MH) WJ aQ gJ [aQ,Gv] s7) QM) (rf eC) (dK i5)) wb (rf cX)) et gJ [qo eZ fY iT]) gJ [jg,ef,bj MG]) gJ [jG,ef,bj MG]) MC dF gJ [aeB]) (i7 i5 MD) aey
def T86:T:=E4 (ow 4 (gC AE [aH,aH]) QO [aH] [aH,qw] WM) (gC jO [aH]) WL
def T87:T:=E4 (ow 71 (gC AE [au,au]) QO [au] [au,gu] WM) (gC jO [au]) WL
def T88:T:=E4 (ow 96 (gC AE [bY,bY]) QO [bY] [bY,EC] WM) (gC jO [bY]) WL
def as4:T:=io 173 (gC (.bool (qy eC)) [bY]) fY [bY] [Gw,eV jG jg eZ lK]
def as5:T:=QJ 0 (oR (gC fY [bY]) (l9 [WN]) MI MI (wu (Ju QP) (fQ bR Js) (.and (fQ cX (kQ eC 2)) (.beq pz (.cell oN eC 3))))) (lR eC) Gv [bY]
def agV:T:=iB 26 (uK oj) lK fe [] [AB,WB] QQ
def Zu:T:=bN ED ED (.bA MJ (jP 207 ED (xE 0 (.bA EE (io 207 (s8 ED QT QT QT (jE cX mT) (jE cX kO) (jE cX oq)) eZ gK [.int .u8 (.nX oN bR)])) QS gK) (jE bQ mT) jG gK [.int .u8 QR])) (.seq oN (.k (.string ⟨#[]⟩))) (i7 i5 (.c 32))
def T77:T:=jP 37 (lN jO fe gJ) (pR 82 MK (uZ 82 MK (wC 0 (cM (jF (jZ 90 (ov uJ iQ) (km Ex) aeD aeF aoB WP) (ov uJ jH) (ov uJ jH) (fQ (EB dm 1) fP) (fQ (EB dm 2) e9)) MH MH) (.ez 140 141 90 (.ratio 10 11) J pC aeD (gC aeG WQ)) WJ (wh kC)) gJ [et,aQ,WF]) gJ [dF,aQ,bj (nR i5)]) GD fe gJ AG
def Zv:T:=bN aoD aoD (EV gY aoC aeJ aeJ aeH oj WV) WR WU
def agX:T:=Sz
def Zw:T:=GA bQ (iI my) aoG aoG (AN (.c 97)) 122
def NQ:T:=xH 69 (bN EG (pE EG EG (EY fP uF EG (EY e9 uF EG (EW dG (.c 4095) aeK (pQ 133 (.bi QY rZ (jZ 65 (pQ 133 (Jr (jZ 65 (gL (pQ 72 (gC WY [.am,aX]) WY [.am,.am] [eV (Bg bF 0) (Bg bF 1) (Bg bF 2) (Bg bF 3),eV (Bg dA 0) (Bg dA 1) (Bg dA 2) (Bg dA 3)]) (de bF uG) (de bF uG) (de dA uG) (de dA uG)) QO [fD] [.am,fD] WX (.aj oN)) (eQ i6) aeq [aX]) (AO nP WX) [.am] [AB,mZ aoI fP,mZ aoI e9]) jk [] [fD] aeL AM)) QX [] [AB,mZ aoH fP,mZ aoH e9])) aeK uI) EG (dY Ct e9)) EG (.not (dY cY ij)) (mD ij Cw) (dY Ct fP)) EG oj Jj) lK [AB]
def SD:T:=Jr (E4 (ow 90 (NN 223 224 90 (wC 0 (cM (v8 1 (oR (cM (jI 225 (cM (jZ 258 (ov (im bQ) iQ) (km Ex) [aV,bY,.am,kC,.am,QZ] [aV,bY,.am,kC,.am,.am,QZ] [bj QL,pF 1,pF 2,pF 3,pF 4,pF 5,pF 6,pF 7,pF 8,pF 9,bj aeO,bj aeP,bj aeQ,pF 13,Bg bR 0,bj MN,bj Q0,xV bR 3 vZ] WP) MM MM) (tL Jt jH) pz lK [aV,bY,.am,.am,.am,.am] [.agg aoJ,eV (Bg bR 0) (bj MN) (bj Q0) (xV bR 3 vZ)]) MM MM) (tL Jt jH) W5 W5 (xU bR QL 0 Cv)) aeN WZ [aV,bY,.am,aV,.am,yZ] [aQ,QF] GH) qu qu) (lN QF mW [aV,bY,.am,aV,yZ]) Cy GH) aeM vV W0) QO ML aeM WM) (NN 223 224 90 (wC 0 (cM (v8 1 aoK Wu WZ [aV,bY,aV,.am,yZ] [aQ,Ew] GH) qu qu) (lN Ew mW [aV,bY,aV,yZ]) Cy GH) ML aeC W0) WL) aez WZ ML
def Fb:T:=io 74 (Bh (io 75 (bN (lN Et pI gK) (jF (jF (zc Q2) (pK (EJ W6 Xa W7 Xa W8 Xb (ik W9 Xb)) zb jx fo CD wj) (pK aoN zb jx fM CD CE) GI CB) (pK (.bi GI aoN (pK (GM (mB Xd MT) (ik Xe MT) (mB Xg MU) (ik Xh MU) (pK (EJ (mB Xd MT) MW (ik Xe MT) MW (mB Xg MU) MX (ik (ik Xh MU) MX)) MV rr fo Jx wj) CB gK) MP ou fM MQ CE)) zb jx fe CD MS) (pK aoP zb jx dF CD [jN,eZ]) Jw Jo) (pK (.bi Jw aoP (pK (jF (GM aeS aeT aeU aeV (pK (EJ aeS MW aeT MW aeU MX (ik aeV MX)) MV rr fo Jx wj) CB gK) (pK aoQ MV rr fM Jx CE) (pK (.bi GI aoQ (pK (GM aoR aoS aoT aoU (yV 138 (iB 139 (EJ aoR (tw pJ 57) aoS (tw pJ 57) aoT (tw td 58) (ik aoU (tw td 58))) (qo EN EO EP) EQ gK [zf,fo] qp) zf EM gK wj) CB gK) Xu CH fM aeR CE)) MV rr fe Jx MS) Jo GI) MP ou dF MQ [jN,eZ])) zb jx iT CD [fY,eZ]) Jv Q1) pI gK aoM) (eQ ko) pG gK) pG gK [uM]
def SE:T:=zg (Hz (bN tA (M3 (Hz (bN tA (M3 (Hz (bN tA (M3 (Hz (bN tA (M3 (Hz (bN tA (zg rh (rX 11) (.not M2) (s6 11) Q7 Q5 Q6) rh (rX 10) Q4) (s6 10) XA) (rX 9) (s6 9) Xz) aoV (rX 8) Xy) Mx ae2) (rX 7) Gq ae1) aoX Qu ae0) Cq [dF,ef,ol]) Mw Ax [jN,aQ,Gp]) ao0 Gn (M0 GO Jw)) xC [iT,ef,ol]) Ep vU [fY,aQ,Gp]) (bN (zg ao0 Ep Gn vU xC [jN,aQ,Gp] [dF,ef,ol]) (zg aoZ Ep Gn vU xC ae1 ae2) (bN (zg aoY Ep Gn vU xC Xz XA) (zg rh Ep Gn vU xC Q5 Q6) rh Xy Q4) (M0 GO Jw) ae0) Eo (M0 Xx Q1)) pA [eZ,aQ,QN]) oj Ji lK mw [jG,bj Es,bj Cs] [jg,bj Es,bj Cs]
def Zx:T:=jY 0 (.bA Wz (ov (Ni cY eC) fY)) (jY 1 (.bA Ww (tL (Ni fP ij) jN)) (jY 2 (.bA wb (kE 2 (Ni dG e9) et)) (cM (.bA (eQ M4) (iI (qo (Gu bQ M4 .quo) (Gu bR M4 .quo) (Gu cX M4 .quo)))) (eQ M4) (eQ M4)) wb [eZ,dF] s7) Ww [jg,iT] s7) Wz [jG,aQ] s7
def Zy:T:=bN wm wm (tP (mB bQ bR) ae3 (ik bQ bR) cX wm wm (.bi ao2 wm (eK 153 (xT wm rh (wu (fQ eC bQ) (fQ cY bR) (fQ ij cX))) QD [] [qo jG jg eZ] Gx))) (zB cX) ao1
def SF:T:=wc 135 (bN kq kq (bN kq kq (bN kq kq (bN kq kq (bN kq kq (pE kq kq kq (cM (tP jD dA jD kO pL pL (EZ (tP fH dA fH kO pL pL (EZ (tP fw dA fw kO pL pL (EZ (Dc dG dA dG pL pL (EZ (Dc dm dA dm pL pL (EZ (Dc iJ dA iJ pL pL (EZ (tP eC dA eC ER pL pL (EZ (qZ cY ER pL pL (EZ (qZ bR (.c 500) pL pL (EZ (Dc gZ bF gZ pL pL (mE (gC aQ gK)))) Wu)) (rf cY)))))))))))))))) jk jk) (i7 e9 jC) (rf jh) (i7 jh uF)) (i7 fP jC) (zB e9)) (i7 ij jC) (zB fP)) (i7 cX AD) (zB ij)) (i7 bQ (.c 500)) (zB cX)) oj (zB bQ)) lK gK [Gw]
def T23:T:=io 65 (xL (wC 0 (cM (s8 (J2 2 ae5 [bM,bJ,bT,bU,aV,uU] [Jn M6 ae4,bj (ik M6 ae4),mW] WP uU) ae6 ae6 ae6 (fQ XB fP) (xU dG qn 4 qr) (jE ae4 M6)) wn wn) (v8 1 (.loop 2 XC [aQ,iQ] (jF (jZ 142 (kE 2 M8 oS) M7 [bM,bJ,bT,bU,aV,uU,.am,Q9] [bM,bJ,bT,bU,aV,uU,.am,.am,Q9] [iA,fM] Jy) (kE 2 M8 ly) (tL uJ ly) (lR iJ) (JZ dm iJ 2 2 pC))) (lR dm) aeG [bM,bJ,bT,bU,aV,uU,gm] QU XC) Q8 (wh uU)) wb jO et gJ) et gJ M5
def SH:T:=iB 77 (bN (gC fe oW) (gC GR oW) (E4 (u0 90 (NN 223 224 90 (v8 0 (cM (v8 1 (oR (cM (jI 225 (cM (jZ 258 (ov uJ GB) (km xM) [bM,bJ,bT,bU,aV,bY,aV,.am,kC,.am,QZ] [bM,bJ,bT,bU,aV,bY,aV,.am,kC,.am,.am,QZ] [ip 0,ip 1,ip 2,ip 3,ip 4,ip 5,ip 6,ip 7,ip 8,ip 9,ip 10,ip 11,ip 12,ip 13,wD 0,wD 1,wD 2,xV iJ 3 pC] (.aj ta)) Na Na) (tL M8 rm) pz lK [bM,bJ,bT,bU,aV,bY,aV,.am,.am,.am,.am] [.agg [ip 0,ip 1,ip 2,ip 3,ip 4,ip 5,ip 6,ip 7,ip 8,ip 9,ip 10,ip 11,ip 12,ip 13],eV (wD 0) (wD 1) (wD 2) (xV iJ 3 pC)]) Na Na) (tL M8 rm) (.and (gQ iJ) XF) (.and (gQ iJ) XF) (Bb iJ dm 0 0 sc rj)) XF GR [bM,bJ,bT,bU,aV,bY,aV,.am,aV,.am,yZ] [aQ,AJ] GH) M9 M9) XD aQ [bM,bJ,bT,bU,aV,bY,aV,.am,aV,yZ] QU GH) ao3 v7 W0) Ra oW ao3 AM JA) (NN 223 224 90 (v8 0 (cM (v8 1 aoK (rf iJ) GR [bM,bJ,bT,bU,aV,bY,aV,aV,.am,yZ] [aQ,oS] GH) M9 M9) XD aQ [bM,bJ,bT,bU,aV,bY,aV,aV,yZ] QU GH) oW aeC W0) (dY pD bF)) GD (jE pD Ex)) iQ fe GP Jz GQ
def T89:T:=iB 77 (.bi Qw (lN zh mA oW) (jP 74 (lN zh sd oW) (iB 155 (xL (jY 0 (cM (iB 227 (bN (lN zh Nb Rc) (oo ao4 Rc) (l9 [im we,AU,CI,zd,uT,ze,zf,EM,EN,EO,EP,EQ,GS,GU,AU,CI,zd,uT,ze,zf,EM,EN,EO,EP,EQ,GS,GU]) (tC 63) (tC 63)) ao4 Nb Rc [.agg [ou,tq,qz,uR,uS,oV,rr,AR,EL,AS,CG,GN,CH],.agg [ss 0,ss 1,ss 2,ss 3,ss 4,ss 5,ss 6,ss 7,ss 8,ss 9,ss 10,ss 11,ss 12,ss 13],eV (ss 14) (ss 15) (ss 16) (xV we 17 v7)] AX) (tJ we (tD we)) (tJ we (tD we))) (oo (.agg [uN,se,wi,za,pH,pG,pI,jx,sf,rq,th,uO,uP]) Rc) (tD we) [aQ,fe,iA,fM,iP,fo,mV,mz,lx,kP,mU,nP,lL,pB,fe,iA,fM,iP,fo,mV,mz,lx,kP,mU,nP,lL,pB] [be,be,be,be,be,be,be,be,be,be,be,be,be,be,be,be,be,be,be,be,be,be,be,be,be,be,be]) oj zh GR Rc) ly lK oW [iQ,jH] [.aj yZ,.bool]) (tC 22) sd oW [zi])) iQ mA GP Jz GQ
def rz:T:=io 74 (bN (yW zh pI) (jI 134 (jI 134 (jI 134 (jI 134 (Hz (bN (.bi (.v 5) (jI 134 (Hz apk Gq [pG,aQ,aQ]) CM (.v 6) Cq [] [pH,aQ,aQ]) CM) (jI 134 (Hz apk Gq [pG,ao8,ao9]) CM (.v 6) Cq [] [pH,CL bF bF ao6,CL bF bF ao7]) CM pz (.v 5)) Ax [mA,CL dA dA (qA bF bF (qA bF dA XI A4 CJ) AY AZ),CL ER ER (qA bF bF (qA bF qn XI A4 CJ) AY AZ)]) Rf (.v 4) xC [] [pB,ao8,ao9]) Rf (.v 3) vU [] [lL,CL dA dA ao6,CL jC jC ao7]) Rf (.v 2) pA [] [nP,CL dA bF (qA dA dA (.dV A4 bF ao5) AY AZ),CL mT bF (qA mT mT (qA bF bF (tB bF bF mT JB JC JD) A4 CJ) AY AZ)]) Rf uE mw [] aeI) Rf Jv (wq XG XH (wq AY AZ (CN A4 CJ JB JC JD)))) pI [] [uM]
def Zz:T:=.bi (dY (ik i5 uG) Cw) (EY MA (.c 256) Rg (jF (Hv fJ (pS 0 (cM (rk JH xD (C9 XO Rh (C9 XO Ri fJ (ov Jt (bj JH)) fJ (wv Ri G4)) fJ fJ (dY Rh G4)) fJ fJ (dY A5 JH)) EE EE) (oZ 1 (io 220 (C9 dA cY fJ (oY [WN]) fJ (wv cY G4)) iT lO [Cu,fY]) (pS 2 (A9 (rk (E8 0) (rY bQ mT) (rk (E8 1) mT (rk (E8 2) (E8 3) (EW (E8 3) uF fJ (kE 2 (im cY) (bj (E8 0)))) fJ fJ (gQ (E8 2))) fJ fJ (dY dA (E8 1))) fJ fJ (dY uL (E8 0))) Jj afd Jj afd) (QJ 3 (A9 (rk aff bQ (rk (Hu 1 vV) bQ (rk s9 (Hu 2 vV) (C9 (Hu 2 vV) (Hu 3 vV) fJ (.back 3 [im fP]) fJ (wv (Hu 3 vV) vW)) fJ fJ (jE aff (Hu 1 vV))) fJ fJ (gQ (Hu 1 vV))) fJ fJ (gQ aff)) QI afe QI afe) afe aQ lO) afd Gv s7) (de eC bQ)) QS Gv s7) MJ MJ (Bc bF 0 oN)) fJ fJ (dY bQ Cw) (wz i5)) fJ (dY dA bQ)) Rg
def T13:T:=io 37 (bN (lN G5 et CR) (lN G5 ef CR) (bN (lN G5 ef CR) (jF (xT G6 (oZ 0 (gL (gL (jP 75 (io 74 (bN G6 (jP 85 G6 GC afj iP CR [iC,fe,dF,.aj (Gz dG 0 uH)]) (xT G6 GC (dK (.len (Gz dG 0 uH)))) XP (E9 dG)) fM CR afi) G6 M1 iA CR afh) Nk Nk (dQ dG sn uI) (dQ dG sn uI)) G7 G7 Nj Nj) (eK 86 (eK 87 (jY 1 (gL (gL (eK 88 (jZ 82 (.bi (E9 dm) (wA 89 (E6 (wA 90 (E6 (jZ 71 (jZ 65 apr afp XU apq [uN,se,wi,za] (.aj JM)) JL afm XU apn Rm) (eQ MO) pH afo) pH afn [iC,iA,dF,.agg XT,apo,afk] [uN,se,wi,za] AC) (eQ we) tc afo) tc afn [iC,iA,dF,.agg XT,afk] apn AX) (pQ 27 (E6 (jZ 71 (jZ 65 apr afp XU apq [fM,iP,fo,mV] (.aj JM)) JL afm XU XT Rm) XW mz afo) afq afn [.agg XT,apo])) Rl [bM,bJ,bT,bU,aV,fC,cZ,aH,au,aR,aH,au,gu,gp,fD,bY] afm [zl] (.aj ET)) zl [bM,bJ,bT,bU,aV,fC,cZ,aH,au,aR,aH,au,.am,.am,.am] [afk] XS) (dQ dm oQ xG) (dQ dm oQ xG) No No) M9 M9 Nn Nn) (oo (.agg [dF,rm,GB,Cx,CV,zm]) [bM,bJ,bT,bU,aV,fC,cZ,aH,au,aR,aH,au,au,aR,aX]) XD XR XQ) GB [bM,bJ,bT,bU,aV,fC,cZ,aH,au,aR,aH] [oS] [A6]) rm CR [ly] [Nl]) Rj) (sw sn)) G6 G6 (sw oP) (sw oQ)) G6 (mD fP ij) (sw pD)) wb (rf fP)) et CR AG
def T16:T:=io 37 (bN dg (lN jO my rp) (s8 (bN dg (s8 dg (oZ 0 (gL (gL (jP 75 (io 74 (bN dg (jP 85 dg GC afj iP rp aps) dg XP (E9 dG)) fM rp afi) dg M1 iA rp afh) Nk Nk Nq Nq) G7 G7 Nj Nj) (oZ 1 (gL (pQ 72 (Ka (cM (jP 74 dg (oY [uJ]) (.not QW) lx rp apu) No No) (dK gZ)) afq rp [XY,XY]) G8 G8 G8 G8) (oZ 2 dg (eK 86 (eK 87 (jY 3 (gL (gL (eK 88 (jZ 82 (Ka (eK 89 (tK (pQ 90 (tK (jZ 71 (jZ 65 (.back 3 [im jD,tG,tE,tH]) afs apE [bM,bJ,bT,bU,aV,fC,cZ,aH,au,au,aR,aX,aH,au,.am,.am,.am,bY,gp,gu,fD] X9 (.aj CS)) afp apx apE X8 (.aj JM)) Jv) (AO pI X9) apB apD) (tC 25)) (AO se X8) apB apy AX) (E9 jD)) X5 [bM,bJ,bT,bU,aV,fC,cZ,aH,au,au,aR,aX,aH,au,gu,gp,fD,bY] apx [uV] X6) uV [bM,bJ,bT,bU,aV,fC,cZ,aH,au,au,aR,aX,aH,au,.am,.am,.am] [X4] XS) X2 X2 X3 X3) X0 X0 X1 X1) (wC 4 (Hf (gL (Kb dg (gL (iB 24 (pE dg dg (iB 77 (tK (pS 5 (A9 (oZ 6 (oR (iB 78 (tK (cM (wc 102 (pE (J2 3 (HA (kE 5 JP zn) (xU jh qn 4 CU) (xU jh jC 4 CU)) [bM,bJ,bT,bU,aV,fC,cZ,aH,au,au,aR,aX,aH,au,gu,gp,fD,iW,aV,iW,bY] [ef,fo,AH dA afv,mW] Yc iW) dg dg (kE 5 JP tG) Ji (xU jh qn 4 CU) (xU jh jC 4 CU)) mw [bM,bJ,bT,bU,aV,fC,cZ,aH,au,au,aR,aX,aH,au,.am,.am,.am,iW,aV,iW,bY] [tH,eV (gR ji 0 G9) (gR ji 1 G9) (gR ji 2 G9) (xV ji 3 G9)]) Yb Yb) (eQ j8)) tH mU apH [iC,bj afv,.agg [ES fH 0 rj,tS 1,tS 2,tS 3,tS 4,tS 5,tS 6,tS 7,tS 8,tS 9,tS 10,tS 11,tS 12,tS 13,tS 14,tS 15,tS 16]] [.aj bY,be]) dg Yb Yb (xU ji afv 0 G9)) dg (de ji (.len G9))) JO afu JO afu) (iB 104 (tK (pS 6 dg (kE 4 (im fH) zn) (de j8 (zr 20)) tG Rp) (eQ ji)) tH kP apH [iC,fo,dF,.agg [ya 0,ya 1,ya 2,ya 3,ya 4,ya 5,ya 6,ya 7,ya 8,ya 9,ya 10,ya 11,ya 12],iQ,.aj G9] [.aj (.sl 200),be]) afu uV Rp) XW) tE mz Ya [iC,fo,dF] GQ) dg QY oj (E9 fH)) lK mV Ya [eV (gR fH 0 CS) (gR fH 1 CS) (gR fH 2 CS) (gR fH 3 CS),eV (gR fH 0 mC) (gR fH 1 mC) (gR fH 2 mC) (gR fH 3 mC)] QQ) apG apG (dQ fH qB wt) (dQ fH qB wt)) (dQ fH sn wt) (dQ fH sn wt) apF apF (ru (yc 0 0) (yc 1 1) (yc 2 2) (yc 3 3) (ru (yc 4 4) (yc 5 5) (yc 6 6) (yc 7 7) (ru (yc 8 8) (yc 9 9) (yc 10 10) (yc 11 11) (yc 12 12))))) (dQ fH oQ wt) (dQ fH oQ wt) (dQ fH xM wt) (dQ fH xM wt)) wt (oX fH) wt (oX fH) (dQ fH oP wt) (dQ fH oP wt)) (iB 23 (tK (wC 5 (Hf (wA 27 (tK (jZ 65 (kE 5 JQ tH) (km (.len JN)) [bM,bJ,bT,bU,aV,fC,cZ,aH,au,au,aR,aX,aH,au,gu,gp,fD,iW,gm,fD] [bM,bJ,bT,bU,aV,fC,cZ,aH,au,au,aR,aX,aH,au,gu,gp,fD,iW,gm,.am,fD] [lx,kP,mU,nP] Yc) (eQ iU)) lL [bM,bJ,bT,bU,aV,fC,cZ,aH,au,au,aR,aX,aH,au,.am,.am,.am,iW,gm,.am] [.agg [xZ 0,xZ 1,xZ 2,xZ 3,xZ 4,xZ 5,xZ 6,xZ 7,xZ 8,xZ 9,xZ 10,xZ 11,xZ 12],.agg [ES gZ 0 rj,pN 1,pN 2,pN 3,pN 4,pN 5,pN 6,pN 7,pN 8,pN 9,pN 10,pN 11,pN 12,pN 13,pN 14,pN 15,pN 16]] [lx,kP,mU,nP] AC) CW afw CW afw Nr Nr) (wC 6 (Hf (wA 27 (tK (jZ 65 (kE 6 JP zn) (km (zr 20)) [bM,bJ,bT,bU,aV,fC,cZ,aH,au,au,aR,aX,aH,au,gu,gp,fD,iW,gm,fD,fD] [bM,bJ,bT,bU,aV,fC,cZ,aH,au,au,aR,aX,aH,au,gu,gp,fD,iW,gm,fD,.am,fD] [kP,mU,nP,lL] (C3 20)) (eQ nQ)) pB [bM,bJ,bT,bU,aV,fC,cZ,aH,au,au,aR,aX,aH,au,.am,.am,.am,iW,gm,.am,.am] [.agg [xY 0,xY 1,xY 2,xY 3,xY 4,xY 5,xY 6,xY 7,xY 8,xY 9,xY 10,xY 11,xY 12],.agg [ES jh 0 rj,tR 1,tR 2,tR 3,tR 4,tR 5,tR 6,tR 7,tR 8,tR 9,tR 10,tR 11,tR 12,tR 13,tR 14,tR 15,tR 16]] [kP,mU,nP,lL] AC) JO afx JO afx (dQ jh pD JO) (dQ jh pD JO)) (cM (iB 106 (tK (pS 7 (A9 (J2 3 (Ka (J2 3 (kE 7 (im j8) (jl 24)) [bM,bJ,bT,bU,aV,fC,cZ,aH,au,au,aR,aX,aH,au,gu,gp,fD,iW,gm,aX,fD,CX,iW,iW] [Yd,gR j8 2 Rv,aQ,mW] (.aj JR) iW) (dY (nS j8 Rv) AD)) [bM,bJ,bT,bU,aV,fC,cZ,aH,au,au,aR,aX,aH,au,gu,gp,fD,iW,gm,aX,fD,CX,iW] [Yd,gR j8 1 Rv,aQ,mW] (C3 22) iW) (gQ j8) afy (gQ j8) afy) (pS 8 dg (.loop 9 [.aj Nt,.aj tI] [jO,jO] (.pick Rw (.not (.has (.v 25) 1 iU bF bF)) (dY Rw (zr 25)) (J2 1 (cM (.new 118 (.nY (C3 24) (.lit [[gR Ry 0 JR,gR Ry 1 JR,gR Ry 2 JR]])) [bM,bJ,bT,bU,aV,fC,cZ,aH,au,au,aR,aX,aH,au,gu,gp,fD,iW,gm,aX,fD,CX,iW,iW,Nt,tI,tI] [bM,bJ,bT,bU,aV,fC,cZ,aH,au,au,aR,aX,aH,au,gu,gp,fD,iW,gm,aX,fD,CX,iW,iW,.am,tI,tI,Nt] (kE 9 (jl 27) (.aj Hd))) (wu (.and (dY dA Rx) (km Rx)) (gQ Ry) (de Ry Rw)) (km (zr 24))) apI [lL] (C3 25) tI) (NN 51 52 118 (wC 10 (cM (jZ 98 (kE 10 (im iU) (jl 28)) (km (zr 27)) [bM,bJ,bT,bU,aV,fC,cZ,aH,au,au,aR,aX,aH,au,gu,gp,fD,iW,gm,aX,fD,CX,iW,iW,.am,tI,Nt,zo] [bM,bJ,bT,bU,aV,fC,cZ,aH,au,au,aR,aX,aH,au,gu,gp,fD,iW,gm,aX,fD,CX,iW,iW,.am,tI,Nt,.am,zo] [gR iU 0 Hd,gR iU 1 Hd,gR iU 2 Hd] (C3 27)) apJ apJ) (oo (jl 27) [bM,bJ,bT,bU,aV,fC,cZ,aH,au,au,aR,aX,aH,au,au,aR,aX,iW,gm,aX,aX,CX,iW,iW,.am,tI,.sl 118,i9]) (de iU Rx) (wh zo)) apI (.v 24) (.lex [0,1,2] E)))) (de i6 Rq) Ns Rp) afy uV Rp) (eQ ji)) zn kP [bM,bJ,bT,bU,aV,fC,cZ,aH,au,au,aR,aX,aH,au,.am,.am,.am,iW,gm,aX,.am] [iC,ME,dF,GB,tG,tE] [.aj CX,be]) jk jk) afx [be,Rk]) afw [be,Rk]) QY) tE mV Ya M5 [.aj gm,be]) (oX fH) Rp) (oX jD) XR XQ) CV nh [oS] [A6]) Cx rp [ly] [Nl]) (sj iJ)) (lR dm)) Rj) dg dg (sw oP) (sw oQ) (.not (sw xM))) dg (.not (sw qB)) (sw pD)) dg dg dg Ro (de fP ij) (sw sn)) wb XX) et rp AG
def as7:T:=io 37 (HA (wc 70 (pE dg dg dg (oZ 0 (cM (uZ 69 dg GC Rz [eV (pM 0) (pM 1) (pM 2) (pM 3)]) G7 G7) (oZ 1 (cM (uZ 69 dg (oY [uJ]) Rz [eV (ma dm 0) (ma dm 1) (ma dm 2) (ma dm 3)]) Nn Nn) (jY 2 dg (jY 3 dg (pS 4 dg (pS 5 (.loop 6 zp [JS,zm] (jF (Hf (jI 181 (jZ 202 (kE 6 JQ A7) X5 [bM,bJ,bT,bU,aV,fC,aX,aX,gm,.am,uU,fD,.am,.am,.am,He] apN [ef,mV,mz] X6) (kE 6 JQ zl) uE mw [bM,bJ,bT,bU,aV,fC,aX,aX,gm,.am,uU,.am,.am,.am,.am,.am] [eV (ng fw 0) (ng fw 1) (ng fw 2) (ng fw 3),apK]) zq (oX fw) zq (oX fw) Nr Nr) dg (kE 5 JS zl) (lR gZ) (.not (JZ fw gZ 2 2 ta)))) (pS 6 (.loop 7 zp [JQ,zl] (jF (gL (jI 181 (jZ 202 (kE 7 JP uV) afs apN apQ [my,mz,lx] (.aj CS)) (kE 7 JP A7) uE mw [bM,bJ,bT,bU,aV,fC,aX,aX,gm,.am,uU,.am,.am,.am,.am,.am,.am] [apK,apO]) Nr Nr Ye Ye) dg (kE 6 JQ A7) (lR jh) (.not (JZ gZ jh 2 2 ta)))) (pS 7 (.loop 8 zp [JP,A7] (jF (gL (jI 181 (jZ 202 apS afz apQ apR [ol,lx,kP] (C3 17)) (kE 8 (im ji) uV) uE mw [bM,bJ,bT,bU,aV,fC,aX,aX,gm,.am,uU,.am,.am,.am,.am,.am,.am,.am] [apO,eV (ng ji 0) (ng ji 1) (ng ji 2) (ng ji 3)]) Ye Ye (dQ ji pD Ru) (dQ ji pD Ru)) dg (kE 7 JP uV) (lR ji) (.not (JZ jh ji 2 2 ta)))) (pS 8 (.loop 9 zp [im ji,uV] (jF (Hf (jI 181 (jZ 202 apU (km Rq) apR [bM,bJ,bT,bU,aV,fC,aX,aX,gm,.am,uU,fD,.am,.am,.am,.am,.am,.am,.am,He] [EF,kP,mU] (.aj CU)) (kE 9 (im j8) tE) uE mw [bM,bJ,bT,bU,aV,fC,aX,aX,gm,.am,uU,.am,.am,.am,.am,.am,.am,.am,.am] [eV (ma ji 0) (ma ji 1) (ma ji 2) (ma ji 3),eV (ma j8 0) (ma j8 1) (ma j8 2) (ma j8 3)]) Ru (tD ji) Ru (tD ji) apT apT) dg apS (lR j8) (.not (JZ ji j8 2 2 ta)))) (pS 9 (pS 10 dg apU (de i6 qB) tE zp) (pS 10 (cM (iB 24 (cM (iB 24 (HA (kE 10 (bj G3) tG) Ji Eo) pA pB apX [eV (ma i6 0) (ma i6 1) (ma i6 2) (ma i6 3),apW] QQ) apY apY) mw lL apX [eV (ng i6 0) (ng i6 1) (ng i6 2) (ng i6 3),apW] QQ) apV apV) (oo tG [bM,bJ,bT,bU,aV,fC,aX,aX,gm,.am,uU,aX,.am,.am,.am,.am,.am,.am,.am,CX]) (lR i6) tE zp) (lR j8) uV zp) (tD ji) A7 zp) (tD jh) zl zp) (oX gZ) zm zp) (oX fw) CV zp) (rf fH) Cx zp) (sj jD) [aQ,jO,AJ] [be,Rk,.aj He]) XF [aQ,jO,jO] [be,.aj He,.aj uU]) (tD dm)) Rj) oj (jE pD i5) (jE oP i5)) lK Rz [dF,aQ,WF]) wb XX) et Rz AG
def T78:T:=wA 143 (tK (io 75 (pE dg dg (bN (mE (tK (sr 96 (tK (gC aeG afA) (jE (.v 26) dA)) RA [bM,bJ,bT,bU,aV,.str,EC] [[tc,aQ,aQ,iO]]) (i7 (.v 31) iJ))) dg (bN dg (wC 0 (jY 1 (iB 139 (eK 139 (eK 361 (xT (bN (pE (Ka (sr 393 (u0 393 (tL JT AJ) (.and M7 RD) ap1 [bM,bJ,bT,bU,aV,.str,.am,.am,CY,CY] Jy RF) [bM,bJ,bT,bU,aV,.str,.am,CY] ap1 [[tc,qz,uR,iO,bj Cs]]) afC) dg ap3 dg afC afC ap2) ap3 (tL JT ly) (fQ AQ ko) ap2) dg (wu RC (dK EI) (dK (.v 43)))) Xu afB [qo uS oV rr,qo EL AS CG] s7) Jx afB [qz,uR] qp) (qo uS oV rr) AR afB [pG,pI] qp) (ov (im AQ) ly) (dY oU iU) [ef,iQ] (wh CY)) (.ez 322 323 393 (.lex [4] J) J rj [bM,bJ,bT,bU,aV,.str,CY] (wC 1 (A9 (sr 96 (u0 96 (tL JT rm) (.and RD (km sn)) ap4 [bM,bJ,bT,bU,aV,.str,.am,CY,.am,EC,EC] RF Yg) [bM,bJ,bT,bU,aV,.str,.am,CY,EC] ap4 [[ma oU 0,ma oU 1,ma oU 2,xV oU 3 v7]]) Yf (tD oU) Yf (tD oU)) (mE (tK (oo oS [bM,bJ,bT,bU,aV,.str,.am,.sl 393,bY]) (jE (.v 26) dA))) (tD oU) (wh EC))) (dY AQ jC) (wh CY)) dg (kD xI) (kn xI)) (jJ xI) (ja xI)) dg (eQ wl) (tC 37) (wq (jJ xI) (ja xI) (wq (kD xI) (kn xI) (wq (fQ xI oq) (fQ xI Gm) Jh)))) tq RA [.agg [jH,et,fe,iA,fM,iP,fo,mV,mz,lx,kP,mU,nP,lL,pB,mA,sd]]) (tC 37)) ou RA M5 [tc,uN,se,wi,za,pH,pG,pI,jx,sf,rq,th,uO,uP] [be,be,be,be,be,be,be,be,be,be,be,be,be,be,be]
def T90:T:=iB 77 (Bh (io 74 (Bh (io 75 (Bh (iB 155 (Bh (jY 0 (A9 (bN (l9 [JT,mw,pA,vU,xC,Ax,Cq]) (cM (jY 1 ap9 (cM (jY 2 aqc (l9 [JT,mW,Q7,Yn,Yo,Yq,Yr]) Ym aqa Nu) Yh Yi) Yj ap7 Nu) Yh Yi) (cM (jY 1 ap9 (cM (jY 2 aqc (l9 [JT,.bool (fQ JV GV),Q7,Yn,Yo,Yq,Yr]) Ym aqa Nu) Yh Yi) Yj ap7 Nu) Yh Yi) (.cell mC oU 17) uE) Yf afD Yf afD) (jY 1 (gL (.bA (CN RC Ys Yt Yu Yv) (EV aqd aqd aqe aqe (JG RC (.v 2) Ys (.v 3) (JG Yt (.v 4) Yu (.v 5) (.dV Yv (.v 6) Jh))) uE (eQ afF))) (.and Yk afE) (nf Hg Hg kO) (wq (dK Hg) (jJ Hg) (G2 (ja Hg))) (.and Yk afE)) (zv 133 (Bh (zv 72 (jY 2 (cM (wA 227 (Bh (zv 133 (bN (lN Et (bW 92) tM) (pQ 72 aqg (mX afG (bW 97)) tM [Yy,Yy]) (pQ 72 aqg (mX afG (bW 97)) tM [aqh,Yy]) (tC 92) (.v 7)) Yy (bW 92) tM [Yw,zA (.v 74),zA (.v 75)]) (tC 87) (bW 87) tM) (bW 87) tM [.agg [GS,GU,Nb,JX,bW 65,bW 66,bW 67,bW 68,bW 69,bW 70,bW 71,bW 72,bW 73],.agg [su 0,su 1,su 2,su 3,su 4,su 5,su 6,su 7,su 8,su 9,su 10,su 11,su 12,su 13],eV (su 14) (su 15) (su 16) (xV AW 17 mC)] [Nx,Ny,RN,RO,RP,bW 79,bW 80,bW 81,bW 82,bW 83,bW 84,bW 85,bW 86] AX) aqf aqf) (oo aqh tM) (de AW qB) [aQ,CI,zd,uT,ze,fe,iA,fM,iP,fo,mV,mz,lx,kP,mU,nP,lL,pB,iO] [be,be,be,be,be,be,be,be,be,be,be,be,be,be,be,be,be,be,.bool]) (eV CI zd uT ze) zf tM [Yx,Yx]) (tC 50) AU tM) Yx AU tM [Yw,zA dG,zA dm]) afE [aQ,xR (ot we),bj (ot we),xR (ot we),bj (ot we)] AC) afD ap6 ap5) oj GR tM) GB lK JU [rm,AJ] [.aj yZ,.bool]) (eQ AQ) qz JU) qz JU [.agg [oS,mA,sd,tc,uN,se,wi,za,pH,pG,pI,jx,sf,rq,th,uO,uP]]) (eQ wl) tq JU) tq JU [zi]) (tC 37) ou JU) rm ou [aeb,aec,gm,bM,bJ,bT,bU,aV,.str,bY] [.agg [jG,jg,eZ,fY,iT,Ew,jN,QF,jH,iQ,ly],dF,et] GQ
def as9:T:=eK 89 (oT Ex i5 dg (oZ 0 (cM (jP 75 dg (l9 [im CC]) (eQ tj) uP afH [.agg [ES CC 0 pC,tQ 1,tQ 2,tQ 3,tQ 4,tQ 5,tQ 6,tQ 7,tQ 8,tQ 9,tQ 10,tQ 11,tQ 12,tQ 13,tQ 14,tQ 15,tQ 16]]) (tJ CC (sj CC)) (tJ CC (sj CC))) (wC 1 (cM (J2 1 (tL (im tj) oS) afJ [ng tj 0,ng tj 0,ng tj 1,ng tj 2,xV tj 3 rj] Jy Nz) (tJ tj (oX tj)) (tJ tj (oX tj))) (iB 77 (cM (jY 2 (cM (wA 227 (oT RT dA dg (.loop 3 aqm aqn (.pick AD aqo (dY AD qB) (.ae tI aqp aqr (.bA aqs (bN Hj Hj (jF dg Hj (Ka Hj (kD CZ)) (ja CZ) (i7 (.cell sc wl 8) (u9 4))) (dK CZ) (jJ CZ)))) aqt)) (pE dg dg (.loop 3 aqm aqn (.pick AD aqo (dY AD qB) (.ae tI aqp aqr (.bA aqs (pE (oR dg Hj afL afM (i7 afK (tB (u9 12) (u9 13) (u9 14) YC YD YE))) (cM (eK 248 (eK 248 (gL (jP 249 dg Hj (i7 (lw (lw MG (tB (u9 6) (u9 7) (u9 8) YC YD YE)) (GG (ik (GG (ik (GG (ik bF aqu) bF aqu) aqv) bF aqv) aqw) bF aqw)) (lw (ot (tB (u9 9) (u9 10) (u9 11) YC YD YE)) (.v 86))) (bW 86) afN [aeB,aqj]) afL afM afL afM) (qo (bW 83) (bW 84) (bW 85)) afN [yU (Nc EI CF (tB Q3 (.v 48) (.v 50) (ja pP) (kD pP) (kn pP)) (dK pP) (jJ pP)) (Nc (.v 43) EK (tB (.v 47) AT (.v 51) (ja pP) (kD pP) (kn pP)) (dK pP) (jJ pP)),bj pP] Gx) (qo (bW 80) (bW 81) (bW 82)) afN [yU aqk (bj afK),bj pP] Gx) (nf pP pP oq) (CN (dK pP) (jJ pP) (ja pP) (kD pP) (kn pP))) Hj (Ka Hj (kD CZ)) (dK CZ) (jJ CZ) (ja CZ)))) aqt)) dg (ja RT) (kD RT) (kn RT)) aql) (bW 65) [bM,bJ,bT,bU,aV,cZ,bY,Nz,aV,.am] [.agg [qz,uR,uS,oV,rr,AR,EL,AS,CG,GN,CH,AU,CI],aqj,eV (bj (.look v7 1 RQ bF bF 1)) aqk (bj afK) (.bool aql)] [zd,uT,ze,zf,EM,EN,EO,EP,EQ,GS,GU,Nb,JX] AX) aqi aqi) (NN 243 178 200 (mE (oo rm [bM,bJ,bT,bU,aV,cZ,bY,Nz,aV,.am,.sl 200])) [bM,bJ,bT,bU,aV,cZ,bY,Nz,aV,YA] uH (.lex [1,0] E)) (de wl oQ) [aQ,fe,iA,fM,iP,fo,mV,mz,lx,kP,mU,nP,lL,pB,jO] [be,be,be,be,be,be,be,be,be,be,be,be,be,be,.aj YA]) Yz Yz) oS ou afJ Jz GQ) (oX tj) (wh Nz)) (sj CC)) dg (eQ GK)) afI afH [iC,dF,et,zi,iQ] AX
def T11:T:=eK 32 (sr 4 (iB 13 (wA 13 (wA 13 (HA (pE dg dg dg (Kb dg (Hv dg (Hv dg (iB 18 (cM (sr 96 (sr 82 (iB 13 (gL (iB 16 (HA (HA (sr 98 (uZ 20 dg (cM (sr 71 (iB 13 (gL (iB 16 (sr 4 (wA 21 (ow 73 (iB 16 (HA (HA (sr 98 (wc 20 (oT (.len uW) mT dg (gL (Ka (cM (jF (cM (gC (.bool (dK (.len (Gz bF 0 (.v 44))))) [bM,bJ,bT,bU,aV,cZ,au,aR,aH,aH,au,au,aR,aX,aH,au,au,aR,aX,aH,au,au,aR,aX,bY,aR,aH,au,au,aR,aX,i9,i9,au,aH,au,au,aR,aX,i9,aH,aH,au,au,aR,aX,fC,i9,i9]) (de bF (zr 44)) (de bF (zr 44))) dg dg (ru (E5 0 0) (E5 1 1) (E5 2 2) (E5 3 3) (ru (E5 4 4) (E5 5 5) (E5 6 6) (E5 7 7) (ru (E5 8 8) (HB kO 9 uW) (HB mT 10 uW) (HB (Dd dA 11) 11 uW) (HB (Dd dA 12) 12 uW)))) (ja (zr 44))) (de dA (.len uW)) (de dA (.len uW))) (ru (Db 0 0) (Db 1 1) (Db 2 2) (Db 3 3) (ru (Db 4 4) (Db 5 5) (Db 6 6) (Db 7 7) (ru (Db 8 8) (Db 9 9) (Bc (Dd bF 10) 10 uW) (Bc (Dd bF 11) 11 uW) (Bc (Dd bF 12) 12 uW))))) (de bF (.len uW)) (de bF (.len uW)) YI YI) dg Eo) pA [bM,bJ,bT,bU,aV,cZ,au,aR,aH,aH,au,au,aR,aX,aH,au,au,aR,aX,aH,au,au,aR,aX,bY,aR,aH,au,au,aR,aX,i9,.am,au,aH,au,au,aR,aX,i9,aH,aH,au,au,aR,aX,fC,i9,i9] [jl 39,jl 48]) [bM,bJ,bT,bU,aV,cZ,au,aR,aH,aH,au,au,aR,aX,aH,au,au,aR,aX,aH,au,au,aR,aX,bY,aR,aH,au,au,aR,aX,i9,zo,au,aH,au,au,aR,aX,i9,aH,aH,au,au,aR,aX,fC,i9] [bM,bJ,bT,bU,aV,cZ,au,aR,aH,aH,au,au,aR,aX,aH,au,au,aR,aX,aH,au,au,aR,aX,bY,aR,aH,au,au,aR,aX,i9,zo,au,aH,au,au,aR,aX,i9,aH,aH,au,au,aR,aX,fC,i9,zo] [[Yd,aQ,aQ],[Yd,ef,aQ]]) (eQ nQ) (jE Gr mT)) (eQ j8) (eQ i6)) (jl 47) mA [bM,bJ,bT,bU,aV,cZ,au,aR,aH,aH,au,au,aR,aX,aH,au,au,aR,aX,aH,au,au,aR,aX,bY,aR,aH,au,au,aR,aX,i9,.am,au,aH,au,au,aR,aX,i9,aH,aH,au,au,aR,aX,fC] [iC,.agg [jl 46],jH,RW] WH) jk [bM,bJ,bT,bU,aV,cZ,au,aR,aH,aH,au,au,aR,aX,aH,au,au,aR,aX,aH,au,au,aR,aX,bY,aR,aH,au,au,aR,aX,i9,zo,au,aH,au,au,aR,aX,i9,aH,aH,au,au,aR,aX] [bM,bJ,bT,bU,aV,cZ,au,aR,aH,aH,au,au,aR,aX,aH,au,au,aR,aX,aH,au,au,aR,aX,bY,aR,aH,au,au,aR,aX,i9,zo,au,aH,au,au,aR,aX,i9,aH,aH,au,au,aR,aX,.own 73] (.sK Gm [aQ,aQ,aQ,aQ,aQ,aQ,aQ,aQ])) pB [bM,bJ,bT,bU,aV,cZ,au,aR,aH,aH,au,au,aR,aX,aH,au,au,aR,aX,aH,au,au,aR,aX,bY,aR,aH,au,au,aR,aX,i9,.am,au,aH,au,au,aR,aX,i9,aH] [iC,EU,jH,RW,jl 40] [lL,jl 41,jl 42,.aj uW,jl 44,jl 45] C0) [bM,bJ,bT,bU,aV,cZ,au,aR,aH,aH,au,au,aR,aX,aH,au,au,aR,aX,aH,au,au,aR,aX,bY,aR,aH,au,au,aR,aX,i9,zo,au,aH,au,au,aR,aX,i9] [bM,bJ,bT,bU,aV,cZ,au,aR,aH,aH,au,au,aR,aX,aH,au,au,aR,aX,aH,au,au,aR,aX,bY,aR,aH,au,au,aR,aX,i9,zo,au,aH,au,au,aR,aX,i9,qw] [[iO],[mW]]) (jl 39) nP [bM,bJ,bT,bU,aV,cZ,au,aR,aH,aH,au,au,aR,aX,aH,au,au,aR,aX,aH,au,au,aR,aX,bY,aR,aH,au,au,aR,aX,i9,.am,au,aH,au,au,aR,aX] [iC,EU,jH,aqA] WH) jk jk jk jk) aqA mU [bM,bJ,bT,bU,aV,cZ,au,aR,aH,aH,au,au,aR,aX,aH,au,au,aR,aX,aH,au,au,aR,aX,bY,aR,aH,au,au,aR,aX,i9,.am,au] [iC,EU,jH,aQ,oS,jl 33,ly] C0) aqz [bM,bJ,bT,bU,aV,cZ,au,aR,aH,aH,au,au,aR,aX,aH,au,au,aR,aX,aH,au,au,aR,aX,bY,aR,aH,au,au,aR,aX,i9,zo,gu] [[Da 0,Da 1,Da 2,Da 3,Da 4,Da 5,Da 6,Da 7,Da 8,Da 9,bj (Dd bF 10),bj (Dd bF 11),bj (Dd bF 12)],[i8 232,YJ,aQ,aQ,aQ,aQ,aQ,aQ,aQ,aQ,aQ,aQ,aQ]]) YI YI) [bM,bJ,bT,bU,aV,cZ,au,aR,aH,aH,au,au,aR,aX,aH,au,au,aR,aX,aH,au,au,aR,aX,bY,aR,aH,au,au,aR,aX,i9,i9] [jl 31,jl 32]) [bM,bJ,bT,bU,aV,cZ,au,aR,aH,aH,au,au,aR,aX,aH,au,au,aR,aX,aH,au,au,aR,aX,bY,aR,aH,au,au,aR,aX,i9] aqz [[ef,ef,ol]]) (eQ jh) oj) RX XW) (jl 31) lx [bM,bJ,bT,bU,aV,cZ,au,aR,aH,aH,au,au,aR,aX,aH,au,au,aR,aX,aH,au,au,aR,aX,bY,aR,aH,au,au,aR,aX] [iC,EU,jH,aqy] WH) jk jk jk jk) aqy mz [bM,bJ,bT,bU,aV,cZ,au,aR,aH,aH,au,au,aR,aX,aH,au,au,aR,aX,aH,au,au,aR,aX,bY,aR] [iC,EU,jH,aQ,oS,iQ,jl 25] C0) aqx [bM,bJ,bT,bU,aV,cZ,au,aR,aH,aH,au,au,aR,aX,aH,au,au,aR,aX,aH,au,au,aR,aX,bY,gp] [[JI bF 0 v7 bY],[jl 24]]) YG aqx [[my,ef,my,iO]]) (tD bF) (tD bF)) lK fo YG [iC,EU,jH,RW] QQ) (de bF Np) (de bF Np) (wu (Bc (.c 5046) 0 ET) (Bc (.c 6728) 1 ET) (.and (Bc (.c 5046) 2 ET) (Bc (.c 8410) 3 ET)))) (de dA qB) (de dA qB) (ru (E7 0 0) (E7 1 1) (E7 2 2) (E7 3 3) (ru (E7 4 4) (E7 5 5) (E7 6 6) (E7 7 7) (ru (E7 8 8) (HB kO 9 mC) (HB mT 10 mC) (HB (Dd dA 11) 11 mC) (HB (Dd dA 12) 12 mC))))) (oX dA) (oX dA) (de bF qB) (de bF qB) (ru (Bc (.c 203) 0 mC) (Bc (.c 261) 1 mC) (Be 2) (Be 3) (ru (Be 4) (Be 5) (Be 6) (Be 7) (ru (Be 8) (Be 9) (Be 10) (Be 11) (Be 12))))) (jE jD dA) (jE qB mT) (jE Np mT)) wb (jE dm (.c 310))) iP [bM,bJ,bT,bU,aV,cZ,au,aR,aH,aH,au,au,aR,aX,aH,au,au,aR,aX] [iC,EU,jH,Gv,oS,iQ,ly] [fM,tG,tH,zn,Ns,YF] C0) iA [bM,bJ,bT,bU,aV,cZ,au,aR,aH,aH,au,au,aR,aX] [iC,EU,jO,aQ,jO,jO,jO] [fe,zm,zl,A7,uV,tE] C0) RW et [bM,bJ,bT,bU,aV,cZ,au,aR,aH] [iC,EU,jH,aQ,oS,iQ,ly] C0) [bM,bJ,bT,bU,aV,cZ,au,aR] [bM,bJ,bT,bU,aV,cZ,au,aR,qw] [[mW],[mW]]) (.b9 [iC,jH,iQ,ly]) [] [] [be,be,be,be,be,.aj bM,be,.aj bJ,.aj bT,.aj bU,.aj aV,.aj cZ,A6,.aj aR]
def atb:T:=jP 37 dg (.loop 0 s7 [aQ,bj sa] (bN (cM (jP 110 (ov (im J0) iA) (ov fe (bj J0)) (rf iJ) fM gJ [gR J0 0 qr,dF]) (nf J0 J0 sa) (nf J0 J0 sa)) (cM (jP 110 dg (cM (oo YK gJ) wn wn) XP fM gJ [uX 0,dF]) wn wn) dg (de dG dm) Q8)) wb et gJ AG
def T32:T:=sr 173 (sr 175 (sr 90 (SA 79 (SA 71 (SA 96 (SA 96 (SA 82 (gC (.b9 [.agg [i8 40,bj Jm,ef,aQ,ef,Gw,ef,AE,jO,jO,AF],Ew,QF,ly]) aqE) afP aqE [[jH],[iQ]]) afO afP [[my,ol,my,iO]]) [bM,bJ,aV,cZ,au] afO [[ef,aQ,aQ,iO]]) [bM,bJ,aV,cZ] [bM,bJ,aV,cZ,au] [[YJ,YJ,aQ,aQ,aQ,aQ,aQ,aQ,aQ,aQ,aQ,aQ,aQ],[i8 609,YJ,aQ,aQ,aQ,aQ,aQ,aQ,aQ,aQ,aQ,aQ,aQ]]) [bM,bJ,aV] [bM,bJ,aV,cZ] [aqD,aqD]) [RY,.own 175] [RY,.own 175,kC] [[ef,aQ,aQ,ef,ef,ef,ef,aQ,my,aQ,aQ,ef,ef,ef],[my,ef,aQ,ef,EF,my,ol,my,aQ,aQ,aQ,ef,ef,ef]]) [RY] [RY,.own 175] [[aQ,bj MG,aQ]]) [] [RY] [[.aj (.k (.string ⟨#[97]⟩)),QN,QN,aQ],[aqC,i8 21,QN,aQ]]
def T63:T:=iB 23 (xL (wC 0 (jZ 3 (ov AK ly) Ra [bM,bJ,bT,bU,aV,gm,A8] aqG [fe] JA) (pS 1 (A9 (.ez 130 130 3 (.dp 0 afR [nS dm pC]) J v7 aqG (.ez 130 130 3 (.dp 0 afR [.cell pC dm 1]) J sc aqH (gL (.new 3 (.set Yg RZ 0 [Jn aqI aqJ]) [bM,bJ,bT,bU,aV,gm,.am,.am,.am,A8] [bM,bJ,bT,bU,aV,gm,.am,.am,.am,.am,A8] (tL uJ rm)) jk jk (nf RZ RZ sn) (nf RZ RZ sn)))) xG (sj dm) xG (sj dm)) (pS 2 (.ez 130 130 3 (.dp 0 afR [iJ]) J sc aqH (kE 2 M8 AJ)) (oo oS [bM,bJ,bT,bU,aV,gm,.am,.am,pO]) (tD iJ) ly NA) (sj dm) iQ NA) QM NA) wb jO et afQ) jH et gJ M5 [.aj gm,be]
def T39:T:=eK 86 (eK 87 (v8 0 (gL (gL (eK 88 (jZ 82 (.bi R7 (iB 89 (.bi Qw (.bD (.gF 45 mA)) (pQ 90 (.bi (tC 26) (.bD (.gF 45 wi)) (jZ 71 (ow 65 aqR Rl YM aqQ aqP) (km qB) afT YM ae7 YB)) afW afU aqO)) zi mA afU [iC,et,dF,NB,R6] AX) (wA 27 (.bi RX (.bD (.gF 45 fo)) (jZ 71 (jZ 65 aqR Rl YM aqQ [fe,iA,fM,iP] (.aj ET)) (km qB) afT YM aqL YB)) fo afU [NB,afV] [fe,iA,fM,iP] AC)) JL [bM,bJ,bT,bU,aV,cZ,aH,au,aR,aH,au,gu,gp,fD,bY] afT [zm] Rm) zm [bM,bJ,bT,bU,aV,cZ,aH,au,aR,aH,au,.am,.am,.am] [R6] XS) Hl Hl zx zx) YL YL C2 C2) (sj e9) RW [bM,bJ,bT,bU,aV,cZ,aH,au,aR,aH,au,au,aR,aX] XR XQ) rm [bM,bJ,bT,bU,aV,cZ,aH,au,aR,aH] [ly] [A6]) AJ C1 [iQ] [Nl]
def SI:T:=io 37 (bN (lN G5 et nh) (lN G5 my nh) (s8 (bN uY (s8 uY (oZ 0 (gL (gL (jP 75 (io 74 (bN uY (jP 85 uY GC afj iP nh aps) (xT uY GC (dK (.len afr))) XP (E9 dG)) fM nh afi) uY M1 iA nh afh) Nk Nk Nq Nq) G7 G7 Nj Nj) (oZ 1 (gL (pQ 72 (.bi (dK gZ) (cM (jP 74 uY (oY [uJ]) (.not QW) lx nh apu) No No) uY) afq nh [XY,XY]) G8 G8 G8 G8) (oZ 2 (cM (zv 25 (E6 (.back 2 [M8]) (eQ jh) lx nh) (eV iP fo mV mz) lx nh [.agg [wD 0,wD 1,wD 2,wD 3,wD 4,wD 5,wD 6,wD 7],dF]) Na Na) (eK 86 (eK 87 (.loop 3 XQ XR (bN (gL (gL (eK 88 (jZ 82 (.bi (E9 jD) (eK 89 (E6 (pQ 90 (E6 (jZ 71 (jZ 65 aqX afz YN aqW X9 (C3 17)) X5 afZ YN X8 X6) Jv pI af3) (AO pI X9) af0 apD) (tC 25) se af3) (AO se X8) af0 apy AX) (wA 27 (E6 (jZ 71 (jZ 65 aqX afz YN aqW [fo,mV,mz,lx] (C3 17)) X5 afZ YN X7 X6) (eQ ji) kP af3) kP af0 [.agg X7,apC] [fo,mV,mz,lx] AC)) afs [bM,bJ,bT,bU,aV,fC,cZ,aH,au,au,aR,aX,aH,aH,au,gu,gp,fD,bY] afZ [tE] (.aj CS)) tE afY [X4] XS) X2 X2 X3 X3) X0 X0 X1 X1) (gC afg af4) (iB 63 (E6 (wC 4 (Hf (xT aqY (Hv aqY (kE 4 JS tG) (dQ fw oP zq) (dQ fw oP zq) (E9 fw)) (J1 fw MF)) zq af5 zq af5 (dQ fw wa zq) (dQ fw wa zq)) (E4 (ow 4 (E4 (ow 82 (mE aq3) R9 YO aqZ af6) (cM (.new 82 af6 YO aqZ aq3) jk R9) jk) R9 NC YO (.sK wa [iO])) (ow 82 (ow 4 (cM (.loop 5 Sa [aQ,zn,tH] af8) jk jk) R9 aq4 [bM,bJ,bT,bU,aV,fC,cZ,aH,au,au,aR,aX,aH,aH,au,gu,gp,fD,pO,Hm,gp,qw] (.sK wa [iO])) R9 NC aq4 af6) jk) af5 (wh Hm)) RX fo [bM,bJ,bT,bU,aV,fC,cZ,aH,au,au,aR,aX,aH,aH,au,au,aR,aX,pO]) tE fo afY M5 [.aj pO,be]) (oX jD) (.not (sw wa)))) zm [bM,bJ,bT,bU,aV,fC,cZ,aH,au,au,aR,aX,aH,aH] [oS] [A6]) CV nh [ly] [Nl]) (sj iJ)) (lR dm)) Rj) uY uY (sw oP) (sw oQ) (.not (sw xM))) uY (.not (sw qB)) (sw pD)) uY uY uY Ro (de fP ij) (sw sn)) wb XX) et nh AG
def ZA:T:=bN J3 J3 (pR 43 J3 (uZ 44 J3 (jI 44 J3 (jI 45 J3 (xE 0 (Hf (xT J3 (l9 [bj A5]) (wu (Bb cX cX 0 0 qr uH) (Bb cX cX 1 1 qr uH) (.and (Bb cX cX 2 2 qr uH) (Bb cX cX 3 3 qr uH)))) Sb af9 Sb af9 (dQ cX sn Sb) (dQ cX sn Sb)) af9 ND) Ep vU ND [Ew,oS]) Eo pA ND [AF,ly]) ND [AE,iQ]) ND [Gw,jH]) (jE bQ bR) (jE sa sn)
def ZB:T:=SB (oM [aH,aH]) (xE 0 (Kb (oM [aH,aH]) Ez qu qu Cz Cz (.beq (J1 bQ oN) (J1 bQ vZ))) Cy [aH,aH])
def ZC:T:=SB (oM [au,au]) (xE 0 (Kb (oM [au,au]) Ez qu qu Cz Cz (ru aeA (ye 1 1) (ye 2 2) (ye 3 3) (ru (ye 4 4) (ye 5 5) (ye 6 6) (ye 7 7) (ru (ye 8 8) (ye 9 9) (fQ aeO (CA bQ 10)) (fQ aeP (CA bQ 11)) (fQ aeQ (CA bQ 12)))))) Cy [au,au])
def ZD:T:=SB (oM [aR,aR]) (xE 0 (gL (pR 98 (oM [aR,aR]) Ez [aR,aR] [JI bQ 0 oN bY,JI bQ 0 vZ bY]) qu qu Cz Cz) Cy [aR,aR])
def T98:T:=SB (oM [bY,bY]) (xE 0 (Kb (oM [bY,bY]) Ez qu qu Cz Cz (wu aeA (ye 1 1) (.and (ye 2 2) (.beq (.cell oN bQ 3) (.cell vZ bQ 3))))) Cy [bY,bY])
def ag5:T:=Sz
def ag6:T:=Sz
def ag7:T:=oZ 0 (oR (l9 [bj A5]) aq5 YP YP (dY (kQ A5 0) bR)) aq5 (lR A5)
def T91:T:=qZ uG Cw Rg Rg (bN Rg (bN fJ fJ (oR fJ (oZ 0 (oR (oR fJ aq7 aq6 aq6 (dY JH (kQ J4 0))) aq7 EE EE (wz bR)) (.loop 1 [be] [aQ] (jF (gL (io 228 (pR 159 fJ (io 228 aq8 iT lO [Cu,JW (kQ A5 0) dA]) lO [fY,ef,bj G4]) fY lO [Cu,AP cX 0]) YP YP NE NE) (cM (io 228 (pR 159 fJ (io 228 aq8 iT lO [Cu,bj xD]) lO [fY,ef,bj G4]) fY lO [Cu,AP cX 0]) NE NE) (oZ 2 (A9 (wc 159 (qZ eC bF fJ (oR fJ arb aq9 aq9 (dY (J5 0) (CA (nR eC) 0))) arb oj) lK lO [Bg eC 0,aQ,bj (rY bQ mT)]) (gQ eC) aga (gQ eC) aga) (QJ 3 (oR (EY agc bQ fJ (oT agc (Az cY 1) fJ fJ (pE fJ fJ fJ (.back 3 [im cY]) (de (Az cY 2) s9) (de (Az cY 3) (Az cY 2)) (i7 (Az cY 3) vW)) (wv (Az cY 1) bQ)) fJ (qy (Az cY 1))) fJ (.and Jj agb) (.and Jj agb) (qy agc)) agb aQ lO) aga) (lR cX) (lR A5))) QS) MJ MJ (eQ (kQ bF 0))) (.not (dY bQ Cw)) (dK i5)) fJ (i7 MA (.c 256)) YQ) (i7 i5 Cw)
def ag9:T:=jY 0 (.bA (eQ cX) (ov (Ni eC cX) eZ)) (iI fY) (wz cX) [jg,jG] s7
def aha:T:=bN wm wm (tP bQ ae3 bQ cX wm wm (tP bR ae3 bR cX wm wm (.bi ao2 wm (io 229 (jP 229 wm rh (jE cY dA) iT [] [fY,eZ]) fY [] [bj (ik bQ aen),bj (GG bR bF bR)])))) (zB cX) ao1
def ahb:T:=jY 0 (.bA (eQ cX) (ov (Ni eC cX) eZ)) (iI fY) (wz cX) [jg,jG] s7
def ahc:T:=.bi Mz (iI (bj aen)) (iI jG)
def ZE:T:=jF (jF (io 343 (jP 342 Cr rh (.not (jJ eC)) fY [] [eZ,jg]) eZ [] [jG]) Cr Cr (AN Es) age) Cr Cr (nj bR) agd
def SJ:T:=jF (jF (io 343 (io 342 (jF (s8 (io 343 (io 342 (bN yX (nc Gv) (xL (nc aQ) (de aem Wy) ef aQ []) (.not (jJ e9)) (de Wy aem)) et [] [dF,fY]) dF [] [eZ]) yX yX yX (dY eC Cs) (mD cX Es) (dY cX Cs)) yX yX (jJ ij) (nj eC)) jN [] [iT,jg]) iT [] [jG]) yX yX (AN Es) age) yX yX (nj bR) agd
def ZF:T:=bN (ww (ww (Hn YR (dY dG ER) agh) (nj fP) Sc) NF agf) (ww (Hn YR (dY dG ER) (.and GO agh)) (nj fP) Sc) (bN arc arc (oT cY GV (ww (Hn YS agi (.and GO agj)) Ro Sc) (rk dG qn (uK (wu GO Jw agh)) gY gY YR) (bN ard ard (ww (s8 (uK (.and Jw agj)) gY gY gY agf YS agi) WS NF) (fQ cY qn) (fQ cY jC)) WV) WR WU) (jJ cY) (ja cY)
def ahd:T:=jP 231 gY (jP 231 gY (yV 232 (Hn (qy iJ) (rf ji) (dY fH fw)) kP mU [] [Qv,Wt]) (eQ jh) lx [] [Wt]) XW mz [] [Qv]
def T92:T:=.bi YQ (EY bQ MG lQ (EW bR MG lQ (io 164 (bN lQ lQ (bN lQ lQ (oZ 0 (oR (EY (kQ e9 1) bQ lQ (EY (kQ e9 2) bR lQ (EW (kQ e9 3) qn lQ YT) lQ (qy (kQ e9 3))) lQ (qy (kQ e9 2))) lQ (.and Hk NG) (.and Hk NG) (qy (kQ e9 1))) (oZ 1 (cM (wc 163 (bN lQ (oR lQ arf are are (dY (nS dG qr) (nS (nR dG) qr))) arf oj YU) lK gJ [uX 0,aQ,bj uF]) wn wn) WG Q8) NG) (rf eC) (dK i5)) MC (rf cX)) dF gJ [qo eZ fY iT])) lQ (nj bR)) lQ
def T40:T:=bN WI WI (jP 91 (Ey dF) (pR 92 xF (Ey aQ) gJ AG) MC dF gJ [aeB]) (i7 i5 MD) aey
def ahg:T:=yV 232 (bN (iI mW) (uK (de bQ gZ)) gY (rf MO) (dK MO)) pH pG [] [Qv,yU uN se]
def ahh:T:=bN ED ED (.bA MJ (GA QR ark arl arl (mD QR (.c 97)) 122)) (zB i5) (i7 i5 (.c 32))
def ahi:T:=wc 233 (bN kq (Fa bQ (.c 500) (Fa bR (.c 500) (Fa cX AD (Fa eC ER (Fa cY ER (C9 ij jC (jF (Fa e9 jC (C9 dG uF (C9 dm uF (Fa iJ uF (C9 jD kO (C9 fH kO (Fa fw kO (Fa gZ uF (EW jh uF kq (gC aQ gK)) (qy jh)) (qy gZ)) kq kq (nj fw)) kq kq (nj fH)) (nj jD)) kq kq (nj iJ)) kq kq (nj dm)) YR) kq kq Sc YS) kq kq (nj fP)) NF) (qy cY)) (nj eC)) Sd) (qy bR)) kq oj YQ) lK gK [Gw]
def T94:T:=.bi (AN Es) (bN tA (bN tA (EW cX qn tA (oZ 0 (cM (jF (l9 [JS]) arm arm (dK agk) (dK agl)) (.and zq (de fw oq)) (CN YV (jJ fw) (ja fw) (kD fw) (kn fw))) rh (de fw oq))) tA (.not agd) (qy cX)) tA (.not age) (mD bR Es)) tA
def ahk:T:=ow 90 (v8 0 (oR (oR (cM (jY 1 (cM (jI 312 (oY [bj NH]) aru pz lK agm [YK,.agg [wB 0,wB 1,wB 2,wB 3,wB 4,wB 5,wB 6,wB 7,wB 8,wB 9,wB 10,wB 11,wB 12,wB 13]]) (nf NH NH pD) (nf NH NH pD)) aru (wz dm) [bj pD] [be]) wn wn) ae5 wn wn (fQ XB e9)) ae5 wn wn (fQ M6 fP)) Q8 iQ WQ [aQ,jH] (wh kC)) jk gJ aeD AM
def ahl:T:=io 40 (bN (lN jO fe gJ) (EY fP (nR i5) MK (EW e9 v6 MK (eK 197 (oo jH [bM,bJ,bT,bU,aV,aV]) jH gJ Jz [.aj aV])) MK (qy e9)) MK GD Ro) fe gJ AG
def ahm:T:=SB (oM ML) (ow 90 (pS 0 (jY 1 (gL (.bi (de QL (nS J4 Cv)) (oY [bj J4]) arD) qu qu arv arv) arD (wz bR) [bj AI] [be]) (xE 1 (gL (bN NI arE (oT YX AD ags ags (oT YX Gm ags (.bi (dK MN) arF NI) arE (fQ YX oq)) (kD YX)) (jE (CA bR 0) (nS bR Cv)) (.cell vZ bR 3)) W5 W5 MM MM) aeN [aV,bY,.am,aV]) Cy AF (wh kC)) jk ML aeM AM)
def T95:T:=iB 169 (Jr (pR 170 (gC GR oW) (gC aQ oW) oW [iQ,jH]) GD fe oW) iQ fe GP Jz GQ
def aho:T:=QJ 0 (oR (cM (gC (eV (bj JH) (bj Rh) (bj Ri) (xV bR 3 oN)) [bY]) EE EE) QT EE EE (fQ JH bQ)) QS (eV aQ aQ aQ iO) [bY]
def ahp:T:=GF (oT bR dA gY (ww arG Sd YY) (oT bR kO (GF arG YZ) (ww agt Sd YY) (oT bR oq (ww agt Sd YY) (GF agt YZ) (oT bR qn (ww (Hn Q1 NF (dY ij qn)) YZ Xx) arI (oT bR Gm arI (s8 arH gY gY gY Sd YY Xx) gY (fQ bR jC)) (fQ bR GV)) (kn bR)) C4) (wv bQ kO)) YQ
def ahq:T:=bN gY WT (bN agu agu (bN agu (GF arJ QW) WT WV WS) WR WU) aeH pz
def ZG:T:=bN Gs Gs (pE Gs Gs (nc aQ) (nc (im (Ay (mY xD bR) jC .rem))) Wu (i7 bR qn) Qy) Mz Qx
def ZH:T:=bN Y0 Y0 (bN Y0 Y0 (oT bQ dA (iI aom) (Hx C4 aQ (bj Gt) aQ aQ Y1 []) (oT bQ kO (Hx C4 Y1 (i8 609) aQ (i8 400) (i8 420) []) (Hx C4 (bj Gt) aQ aQ Y1 aQ []) (oT bQ oq (Hx C4 Y1 (i8 (-609)) aQ (i8 400) (i8 (-420)) []) (Hx C4 aQ (i8 (-841)) aQ aQ Y2 []) (oT bQ qn (Hx C4 Y2 (i8 (-609)) aQ (i8 (-400)) (i8 (-420)) []) (Hx C4 (i8 (-841)) aQ aQ Y2 aQ []) (bN (Hx C4 Y2 (i8 609) aQ (i8 (-400)) (i8 420) []) (nc aeh) (nc (NM aQ aQ)) (Ju jC) C4) (Ju GV)) (kn bQ)) (ja bQ)) Qy) (zB bR) (i7 bR kO)) Mz Qx
def ahr:T:=jF (s8 (bN oO (rk ij vW (rk fP e9 (EW e9 vW oO (mE aor)) oO oO (mD fP s9)) oO oO (dY cY ij)) oO (wv eC vW) (mD cY s9)) oO oO oO agv (mD cX s9) aeo) oO oO (AN s9) WA
def NR:T:=jF (s8 (bN oO Y3 (EV Y3 (mE (bN Y4 Y4 (jF (mE (bN rZ rZ (nc aeu) (wv WC vW) (wv WD vW))) (mE Y4) (mE Y4) (mD QC s9) (dY QC WD)) aer aes)) (mE Y3) (mE Y3) aos (mD aet s9) (dY aet WC)) (wv eC vW) (de cY aep)) oO oO oO agv (mD cX s9) aeo) oO oO (AN s9) WA
def ahs:T:=bN arK arK (bN arL arL (bN arM arM (bN (u4 [iO,iO,mW,mW,iO]) (u4 [iO,iO,iO,iO,mW]) (u4 [iO,iO,iO,iO,iO]) (fQ cY qn) WV) WU WS) (ja cY) (fQ cY jC)) (jJ cY) WR
def aht:T:=cM (yV 269 (iB 261 (cM (gC (eV (mZ Y5 (.v 32)) (mZ Y5 (.v 32)) (mZ Y5 si) (mZ Y5 si)) gK) (nf Hp Hp kO) (wq (dK Hp) (jJ Hp) (G2 (ja Hp)))) (qo sf rq th) uO gK [pI,Nc cY fP (tB dG iJ fH (ja ko) (kD ko) (kn ko)) (dK ko) (jJ ko)] qp) pI jx gK [Nc eC ij (tB e9 dm jD (ja ko) (kD ko) (kn ko)) (dK ko) (jJ ko),eZ]) (dQ ko oq (gQ ko)) (CN (dK ko) (jJ ko) (ja ko) (kD ko) (kn ko))
def ahu:T:=tP fw bF fw jC NJ NJ (qZ cX qn NJ NJ (oT Hq dA NJ (u4 [agw,AH bR (lw gZ (.c 29)),eZ,fY,iT,jN,dF,et,fe,iA,fM,iP,fo]) (oT Hq kO (u4 [zj bQ gZ Jm,arN,eZ,fY,iT,jN,dF,et,fe,iA,fM,iP,fo]) (u4 [AH bQ (lw gZ (.c 29)),agx,eZ,fY,iT,jN,dF,et,fe,iA,fM,iP,fo]) (oT Hq oq (u4 [zj bQ gZ Jm,arO,eZ,fY,iT,jN,dF,et,fe,iA,fM,iP,fo]) (u4 [agw,AH bR arP,eZ,fY,iT,jN,dF,et,fe,iA,fM,iP,fo]) (pE (u4 [arQ,arO,eZ,fY,iT,jN,dF,et,fe,iA,fM,iP,fo]) (u4 [AH bQ arP,agx,eZ,fY,iT,jN,dF,et,fe,iA,fM,iP,fo]) (u4 [arQ,arN,eZ,fY,iT,jN,dF,et,fe,iA,fM,iP,fo]) NJ (fQ Hq GV) (fQ Hq qn) (fQ Hq jC)) (kn Hq)) (ja Hq)) YV) (rf cX))
def tT:T:=io 94 (xL (uZ 265 CM (xH 266 (bN CM (nc uM) (bN (eK 267 (cM (CO 94 (eQ CF) arT AR arT []) ae8 ae9) arS [] [uM,lL,mA] arR) (eK 267 (CO 94 (eQ CF) arU AR arU []) arS [] [uM,lL,mA] arR) (bN (cM (CO 94 sk arV jx arV []) ae8 ae9) (cM (CO 94 sk arW jx arW []) afb afc) (bN (CP 94 (CQ zk sk XJ) XJ) (CP 94 (CQ zk sk XK) XK) (pE (CP 94 (CQ zk sk XL) XL) (CP 94 (CQ zk sk XM) XM) (cM (CP 94 (CQ zk sk XN) XN) afb afc) (jP 94 zk (nc uM) sk jx [] [uM]) JB JC JD) A4 CJ) AY AZ) XG XH) Eo pz) pA [.agg [mV,mz,lx,kP,mU,nP,lL,pB,mA,sd,tc,uN,se,wi],eV za pH pG lK]) [] [kP,mU,nP,lL,pB,mA]) Jv zh (i8 260) []) pI [] [uM]
def ahv:T:=sr 71 (pS 0 (gL (cM (eK 115 (wA 200 (Jr (sr 71 (u0 71 (ov JS jH) (.and (km AI) (km sa)) arZ [aV,bY,.am,.am,gu,gu] YW (.aj qr)) [aV,bY,.am,gu] arZ [arY]) Jv WZ [aV,bY,.am,au]) pI [aV,bY,.am,.am] [.agg [xW 0,xW 1,xW 2,xW 3,xW 4,xW 5,xW 6,xW 7,xW 8,xW 9,xW 10,xW 11,xW 12],.agg [u7 0,u7 1,u7 2,u7 3,u7 4,u7 5,u7 6,u7 7,u7 8,u7 9,u7 10,u7 11,u7 12,u7 13],arX] arY AX) arX [aV,bY,.am,.am] [AE,u7 0] [be,be,be,.bool]) Y6 Y6) (dQ fw AI zq) (dQ fw AI zq) Y6 Y6) (lN Ew mW [aV,bY,.am,au]) (lR fw) AF [be,.aj gu]) ML [aV,bY,gu] [aoL]
def ahw:T:=iB 169 (.bi Qw (lN zh mA oW) (jP 94 (lN zh sd oW) (pR 170 (lN zh GR oW) (iB 237 (xL (cM (oo (.agg [xX 0,xX 1,xX 2,xX 3,xX 4,xX 5,xX 6,xX 7,xX 8,xX 9,xX 10,xX 11,xX 12]) ar0) ar1 ar1) Ji zh my ar0) ly mw oW [iQ,zi,jH] [A6,.bool]) oW [iQ,jH]) (tC 22) sd oW [zi])) iQ mA GP Jz GQ
def ahx:T:=jY 0 (cM (eK 115 (bN (l9 [im ko,lK,mw,pA,vU,xC,Ax]) (cM (eK 294 (jY 1 ar6 (l9 [im ko,mW,Q7,Yn,Yo,Yq,Yr]) agy ar5 Nu) ar4 C7 ar2 ar3) Ht Ht) (gL (eK 294 (jY 1 ar6 (l9 [im ko,.bool (xU ko GV 4 oN),Q7,Yn,Yo,Yq,Yr]) agy ar5 Nu) ar4 C7 ar2 ar3) Ht Ht Ht Ht) (.v 6) pz) (eV pI jx sf Cq) C7 [AF,u5 0] [be,be,be,.bool]) Ht Ht) (v8 1 (oT EH dA (EV ar8 ar8 ar9 ar9 uE pz (eQ cY)) (EV asa asa asb asb (.v 2) pz MC) (pE (EV asd asd ase ase (.v 3) pz GD) (EV asf asf asg asg (.v 4) pz (eQ iJ)) (EV ash ash asi asi (.v 5) pz RX) afa (ja EH) (kD EH) (kn EH)) (dK EH)) (de EH oq) Sm C7 [aQ,xR GJ,bj GJ,xR GJ,bj GJ] AC) (lR ko) ap6 ap5
def ahy:T:=iB 169 (Bh (io 94 (Bh (io 167 (Bh (pR 170 (lN Et GR EX) (iB 237 (Jr (eK 238 (zv 239 (jY 0 (gL (zv 239 (pQ 195 (l9 [im AT,EP,EQ,GS,GU]) Za NK [asm,asl]) asl EO NK [agz,zA (nS AT sc),zA (.cell sc AT 1)]) Y9 Y9 Y9 Y9) (oo asm NK) (de AT oQ) [ef,AR,EL,AS,CG] AC) (eV AR EL AS CG) GN NK [agz,zA dG,zA dm]) agz NK [ly,zi,asj,iQ] qp) Ji aeq NK) oS mw EX [ly,zi,iQ] [A6,.bool]) EX [ly,iQ]) (eQ AQ) qz EX) qz EX [asj]) (eQ wl) tq EX) tq EX [zi]) (tC 37) ou EX) ly ou afA Jz GQ
def T93:T:=.bi (jE Ex i5) (oM JY) (xE 0 (cM (jP 167 (oM JY) (l9 [im fP]) wb et JY [.agg [ES fP 0 pC,Bf 1,Bf 2,Bf 3,Bf 4,Bf 5,Bf 6,Bf 7,Bf 8,Bf 9,bj (u9 10),bj (u9 11),bj (u9 12),bj (u9 13),bj (u9 14),Bf 15,Bf 16]]) Yz Yz) (sj fP) JY)
def T41:T:=wc 93 (bN J8 J8 (bN J8 J8 (xE 0 (cM (jP 94 J8 (Hv (oR J8 asn zx zx (wz (.len (Gz e9 0 sc)))) asn C2 C2 R7) GD fe C1 [NB]) Hl Hl) NG C1) (jE oP i5) (jE oQ i5)) oj (jE pD i5)) lK C1 [iC,jH]
def SK:T:=io 94 (Bh (io 167 (qZ cY bF (lN Et pI gK) (zy (.bi (wz fP) (zy (.bi YU (zy (.bi Ze (yV 269 (eK 261 (zv 195 (.bi Sx (yV 269 (iB 261 (zv 195 (zc asr) asr (bW 85) gK [Sw,Ba (tw pJ 77) (tw pJ 77) (tw td 78) (tw td 78)]) (qo RO RP (bW 79)) (bW 80) gK [Ny,fo] qp) Ny RN gK wj) (zc Sw)) Sw Nx gK [St,Ba (AV pJ iU 66) (AV pJ iU 66) (AV td iU 67) (AV td iU 67)]) asq gK [JX,fM] qp) JX (bW 65) gK CE) ast) agA agB Za MS [uT,fe] asp) asv) Zb Zc Zd [jN,eZ] [oV,dF] [NL,Ba (xJ i6 CF) (xJ i6 CF) (uQ i6 EK) (uQ i6 EK)]) asB) zb CD Su [fY,eZ] [jx,iT] aso) (bN (zy asB zb CD Su [jN,eZ] [jx,dF] aso) (zy asA zb CD Su MS [jx,fe] asC) (bN (zy asz zb CD Su CE [jx,fM] asC) (zy (zc NL) zb CD Su wj [jx,fo] [Q2,Ba Xa Xa Xb Xb]) (zc Q2) Ze Sx) (wz fP) YU) Jv) pI gK aoM) (eQ ko) (i8 260) gK) pG gK [uM]
def ZI:T:=xL (eK 171 (gC afI GP) afI GP [iC,et,dF,zi,jH] AX) oj zi aQ GP
def T42:T:=u0 4 (u0 71 (u0 82 (jY 0 (gL (cM (iB 96 (E6 (jZ 71 (gL (Kb (pQ 122 asG afW asF [NB,afV]) (pQ 172 asG afW asF aqO) Hl Hl zx zx R7) YL YL C2 C2) JL [bM,bJ,bT,bU,aV,cZ,aH,au,aR,qw,gu,gp,gu,fD] asE ae7 Rm) Qw mA asD) zi mA [bM,bJ,bT,bU,aV,cZ,aH,au,aR,.am,.am,.am,.am,.am] [iC,dF,et,.bool R7,NB,R6] AX) zx zx) C2 C2 Hl Hl) (oo (.agg [dF,AJ,rm,Cx,GB,CV]) asD) (oX e9) [aQ,jO,jO] [be,.aj gu,Rk]) RD agD [bM,bJ,bT,bU,aV,cZ,aH,au,aR,qw,gu,gp] AM RF) M7 agC agD AM Jy) Ra C1 agC AM JA
def ahC:T:=jI 202 (xH 202 (iI mw) mw ael) gY pz lK [] aek
def ahD:T:=Hn (AN s9) WA agv
def ahE:T:=oZ 0 (cM (jF (jF WG Zf Zf (fQ (EB dm 1) e9) (xU dm (EA dG) 9 qr)) Zf Zf (fQ (EB dm 2) fP) (xU dm qn 4 qr)) MH MH) lQ WJ
def ahF:T:=Sz
def ahG:T:=xH 119 (bN gY gY (tP ij cY ij (.c 4095) gY gY (jI 123 (xH 123 (iI pA) pA [et,bj Ct,bj uF]) gY uE mw [] [dF,bj Ct,bj uF])) oj (rf cY)) lK [AB]
def ahH:T:=pQ 239 (iI QX) QX [] [AB,mZ asH fP,mZ asH e9]
def SL:T:=pR 193 EG (uZ 123 aeK (pQ 194 (pQ 194 (bN rZ rZ (pQ 195 (iI WY) WY [] [.agg aeL,.agg WX]) QY (eQ i6)) (AO nP WX) [] [agE,AK]) QX [] [agE,fe]) [] [fe,aQ,i8 4095]) [] [agE]
def ahI:T:=bN J9 J9 (bN J9 J9 (pR 41 J9 (xE 0 (cM (jP 94 J9 (cM (uZ 119 J9 YT Sy [eV (gR e9 0 ta) (gR e9 1 ta) (gR e9 2 ta) (gR e9 3 ta)]) (dQ e9 xM Hk) (dQ e9 xM Hk)) GD fe Sy [.agg [yb 0,yb 1,yb 2,yb 3,yb 4,yb 5,yb 6,yb 7,yb 8,yb 9,yb 10,yb 11,yb 12]]) zx zx) NG Sy) Sy [iC,jH,dF,iQ,ly,AJ]) (jE oQ i5) (jE xM i5)) (rf fP) (mD fP ij)
def T53:T:=io 40 (bN (gC et rp) (gC my rp) (pR 111 (gC (i8 310) rp) (oZ 0 (A9 (pQ 112 (Jr GC QY mV rp) QX rp [.agg [Hy 0,Hy 1,Hy 2,Hy 3,Hy 4,Hy 5,Hy 6,Hy 7],dF]) uI (sj dG) uI (sj dG)) (wA 42 (gC fM [bM,bJ,bT,bU,aV,fC,cZ,aH,au,au,aR,aX,aH,au,au,aR,aX]) fM rp [iC,iQ,dF,ly,oS,rm] [iA,Cx,CV,zm,zl,A7] C0) (sj dG)) rp [iC,iQ,QK]) wb XX) et rp AG
def T56:T:=v8 0 (jY 1 (wc 121 (wc 121 (bN asI asI (tL AK iQ) pz uE) mw agm [iC,dF,fe,et]) lK agm [iC,dF,et,fe]) (ov R8 iQ) QM [R8,jH] XC) NG jH afQ QU XC
def T64:T:=wC 0 (jZ 3 (ov Jt AF) (km uG) [gm,A8] [gm,.am,A8] [jg] (.aj vZ)) (v8 1 (pS 2 (gL (gL (cM (.new 3 (.set YW QP 0 asK) [gm,.am,.am,A8] asL (cM (.new 3 (.set (.aj qr) Js 0 asK) asL [gm,.am,.am,.am,.am,A8] (kE 2 WN jH)) asM asM)) Zg Zg) Zg Zg asJ asJ) MI MI MI MI) (tL (bj A5) Ew) (lR eC) AF NA) (de cX bQ) AF [gm,.am,pO] [aQ,AE] NA) (de bR bQ) NA
def SM:T:=io 53 (bN (lN G5 et nh) uY (u0 4 (eK 56 (eK 64 (ow 82 (jY 0 (jY 1 (gL (.bi (Bb dG dm 0 0 JK JK) (Hv asQ (Hv asQ (oY [uJ,tG,tH]) Nn Nn (E9 dm)) (dQ dm wa xG) (dQ dm wa xG) (J1 dm MF)) (oY [uJ,tG,tH])) asN asN asO asO) (oR (gL (.new 82 (.set (C3 20) dG 0 [.aj afr]) asP [bM,bJ,bT,bU,aV,fC,cZ,aH,au,au,aR,aX,aH,.am,gm,pO,.am,.am,.am,qw,.am,gp] (l9 [AK,tG,zn])) Nq Nq asR asR) (l9 [AK,tG,tH]) Zh Zh (J1 dG JN)) (de dm (.len JN)) [aQ,uV,tE] Sa) (eK 42 (gC asS [bM,bJ,bT,bU,aV,fC,cZ,aH,au,au,aR,aX,aH,.am,gm,pO,.am,aH,aR,aH,au,au,aR,aX]) asS [bM,bJ,bT,bU,aV,fC,cZ,aH,au,au,aR,aX,aH,.am,gm,pO,.am,aH,aR] [iC,iQ,dF,uV,oS,tE] C0) (de dG (zr 17)) [aQ,CV,A7] Sa) (tJ Np Rl) [bM,bJ,bT,bU,aV,fC,cZ,aH,au,au,aR,aX,aH,qw,gm,pO] [bM,bJ,bT,bU,aV,fC,cZ,aH,au,au,aR,aX,aH,qw,gm,pO,gp] (.sK Np [jO])) zl [bM,bJ,bT,bU,aV,fC,cZ,aH,au,au,aR,aX,aH,.am,gm] [WE,zm] [.aj pO]) zm [bM,bJ,bT,bU,aV,fC,cZ,aH,au,au,aR,aX,aH,.am] M5 [.aj gm]) M7 nh [bM,bJ,bT,bU,aV,fC,cZ,aH,au,au,aR,aX,aH,qw] AM Jy) wb (jE wa i5)) et nh [iC,ME,iQ,QK]
def T5:T:=pR 11 (oM nh) (uZ 12 (gC mW nh) (iB 21 (iB 22 (.bi (fQ dG iJ) (wc 15 (gC pA agF) pA agF [asT,asU]) (oM agF)) asU fM af4 [iC,ME,iQ,QK,Cx] C0) asT fe nh [iC,ME,iQ,QK,Cx] C0) nh [iC,ME,iQ,oS,rm]) nh []
end
section
def bc(a b c d:Int):Bool:=decide (-1099511627776<=a)&&decide (a<=1099511627776)&&decide (-1099511627776<=b)&&decide (b<=1099511627776)&&decide (-1099511627776<=c)&&decide (c<=1099511627776)&&decide (-1099511627776<=d)&&decide (d<=1099511627776)&&decide (a<=b)&&decide (c<=d)
def Bi(a b c d X W V Q:Int):Bool:= !(decide (a<=W)&&decide (X<=b)&&decide (c<=Q)&&decide (V<=d))
def ZJ:bn->ll
 |[.i a,.i b,.i c,.i d,.i X,.i W,.i V,.i Q]=>U (.ret (if bc a b c d&&bc X W V Q then[.b (Bi a b c d X W V Q),.i 0] else[.b E,.i 150]))
 |_=>Z
def HC:Nat->List UInt8->UInt8->Int
 |_,[],_=>-1
 |k,x::l,b=>if x==b then k else HC (k+1) l b
def ZK:bn->ll
 |[.r s,.i b]=>match s.val with
  |.string t=>U (.ret [.i (HC 0 t.toList (UInt8.ofNat b.toNat))])
  |_=>U (.ret [.i (-1)])
 |_=>Z
def Kc:og:=λf X=>if f=26 then ZJ X else if f=272 then ZK X else Z
def HD:FuncId->Option Fn
 |82=>U ⟨T82,E,E⟩
 |84=>U ⟨SC,J,E⟩
 |134=>U ⟨agH,E,E⟩
 |138=>U ⟨NO,E,E⟩
 |139=>U ⟨NP,J,E⟩
 |376=>U ⟨Zj,J,E⟩
 |142=>U ⟨Zk,E,E⟩
 |210=>U ⟨Zl,E,E⟩
 |276=>U ⟨Zm,E,E⟩
 |371=>U ⟨agI,E,E⟩
 |354=>U ⟨Zn,E,E⟩
 |275=>U ⟨Zo,E,E⟩
 |110=>U ⟨Zp,E,E⟩
 |192=>U ⟨Zq,E,E⟩
 |66=>U ⟨T66,E,E⟩
 |72=>U ⟨T72,E,E⟩
 |69=>U ⟨T69,E,E⟩
 |133=>U ⟨agM,E,E⟩
 |24=>U ⟨T24,E,E⟩
 |361=>U ⟨agO,E,E⟩
 |248=>U ⟨agP,E,E⟩
 |154=>U ⟨agQ,E,E⟩
 |219=>U ⟨agR,E,E⟩
 |220=>U ⟨Zr,E,E⟩
 |353=>U ⟨asV,E,E⟩
 |310=>U ⟨asW,E,E⟩
 |249=>U ⟨asX,E,E⟩
 |70=>U ⟨T70,E,E⟩
 |65=>U ⟨T65,E,E⟩
 |12=>U ⟨T12,E,E⟩
 |33=>U ⟨Zs,E,E⟩
 |18=>U ⟨T18,E,E⟩
 |20=>U ⟨T20,E,E⟩
 |37=>U ⟨Zt,E,E⟩
 |86=>U ⟨T86,E,E⟩
 |87=>U ⟨T87,E,E⟩
 |88=>U ⟨T88,E,E⟩
 |102=>U ⟨as4,E,E⟩
 |173=>U ⟨as5,E,E⟩
 |181=>U ⟨agV,E,E⟩
 |135=>U ⟨Zu,E,E⟩
 |77=>U ⟨T77,E,E⟩
 |225=>U ⟨Zv,E,E⟩
 |284=>U ⟨agX,E,E⟩
 |207=>U ⟨Zw,E,E⟩
 |25=>U ⟨NQ,E,E⟩
 |155=>U ⟨SD,E,E⟩
 |27=>U ⟨Fb,E,E⟩
 |74=>U ⟨SE,E,E⟩
 |153=>U ⟨Zx,E,E⟩
 |83=>U ⟨Zy,E,E⟩
 |75=>U ⟨SF,E,E⟩
 |23=>U ⟨T23,E,E⟩
 |85=>U ⟨SH,E,E⟩
 |89=>U ⟨T89,E,E⟩
 |227=>U ⟨rz,E,E⟩
 |81=>U ⟨Zz,E,J⟩
 |13=>U ⟨T13,E,J⟩
 |16=>U ⟨T16,E,J⟩
 |106=>U ⟨as7,E,E⟩
 |78=>U ⟨T78,E,E⟩
 |90=>U ⟨T90,J,E⟩
 |104=>U ⟨as9,E,E⟩
 |143=>U ⟨atb,E,E⟩
 |32=>U ⟨T32,E,E⟩
 |63=>U ⟨T63,E,E⟩
 |39=>U ⟨T39,E,E⟩
 |21=>U ⟨SI,E,J⟩
 |11=>U ⟨T11,E,E⟩
 |15=>U ⟨ZA,E,E⟩
 |43=>U ⟨ZB,E,E⟩
 |44=>U ⟨ZC,E,E⟩
 |45=>U ⟨ZD,E,E⟩
 |98=>U ⟨T98,E,E⟩
 |159=>U ⟨ag5,E,E⟩
 |163=>U ⟨ag6,E,E⟩
 |228=>U ⟨ag7,E,E⟩
 |91=>U ⟨T91,E,E⟩
 |229=>U ⟨ag9,E,E⟩
 |164=>U ⟨aha,E,E⟩
 |342=>U ⟨ahb,E,E⟩
 |343=>U ⟨ahc,E,E⟩
 |231=>U ⟨ZE,E,E⟩
 |232=>U ⟨SJ,E,E⟩
 |165=>U ⟨ZF,E,E⟩
 |166=>U ⟨ahd,E,E⟩
 |92=>U ⟨T92,E,E⟩
 |40=>U ⟨T40,E,E⟩
 |312=>U ⟨ahg,E,E⟩
 |233=>U ⟨ahh,E,E⟩
 |167=>U ⟨ahi,E,E⟩
 |94=>U ⟨T94,E,E⟩
 |197=>U ⟨ahk,E,E⟩
 |169=>U ⟨ahl,E,E⟩
 |170=>U ⟨ahm,E,E⟩
 |95=>U ⟨T95,E,E⟩
 |115=>U ⟨aho,E,E⟩
 |265=>U ⟨ahp,E,E⟩
 |266=>U ⟨ahq,E,E⟩
 |269=>U ⟨ZG,E,E⟩
 |261=>U ⟨ZH,E,E⟩
 |195=>U ⟨ahr,E,E⟩
 |239=>U ⟨NR,E,E⟩
 |294=>U ⟨ahs,E,E⟩
 |296=>U ⟨aht,E,E⟩
 |267=>U ⟨ahu,E,E⟩
 |200=>U ⟨tT,E,E⟩
 |237=>U ⟨ahv,E,E⟩
 |171=>U ⟨ahw,E,E⟩
 |238=>U ⟨ahx,E,E⟩
 |172=>U ⟨ahy,E,E⟩
 |93=>U ⟨T93,E,E⟩
 |41=>U ⟨T41,E,E⟩
 |122=>U ⟨SK,E,E⟩
 |96=>U ⟨ZI,E,E⟩
 |42=>U ⟨T42,E,E⟩
 |119=>U ⟨ahC,E,E⟩
 |202=>U ⟨ahD,E,E⟩
 |121=>U ⟨ahE,E,E⟩
 |123=>U ⟨ahF,E,E⟩
 |193=>U ⟨ahG,E,E⟩
 |194=>U ⟨ahH,E,E⟩
 |112=>U ⟨SL,E,E⟩
 |111=>U ⟨ahI,E,E⟩
 |53=>U ⟨T53,E,E⟩
 |56=>U ⟨T56,E,E⟩
 |64=>U ⟨T64,E,E⟩
 |22=>U ⟨SM,E,E⟩
 |5=>U ⟨T5,E,E⟩
 |_=>Z
def TB:lJ:=⟨HD,Kc⟩
def fZ(j:FuncId->bn->bv->Prop)(R:bv->Prop)(f:FuncId)(W:bn)(V:aY)(t:T)(O:ai)(L:dE):Prop:=∃o,j f W o/\(match o with
  |.ret X=>jX V X=J/\t.wp j R (O.ext X) L
  |.bD v=>R (.bD v))
def f8(j:FuncId->bn->bv->Prop)(R:bv->Prop)(o:bv)(W:aY)(t:T)(O:ai)(L:dE):Prop:=match o with
  |.ret X=>jX W X=J/\t.wp j R (O.ext X) L
  |.bD v=>R (.bD v)
def Kd(c:Option PC)(X:bn):Prop:=match c with
 |U c=>c.I X/\c.μ X<c.m
 |none=>False
section
variable{j:FuncId->bn->bv->Prop}{R:bv->Prop}{O:ai}{L:dE}
def aBl{V:bn}{Q:aY}{t:T}(h:W=V):fZ j R X W Q t O L=fZ j R X V Q t O L:=by rw[h]
def aBm{o X:bv}{W:aY}{t:T}(h:o=X):f8 j R o W t O L=f8 j R X W t O L:=by rw[h]
def aBn{t:T}{X:ai}(h:O=X):T.wp j R t O L=T.wp j R t X L:=by rw[h]
def aBo(b:BE)(t f:T):T.wp j R (.bi b t f) O L=(if b.ab O=J then t.wp j R O L else f.wp j R O L):=by
 simp only[T.wp,T.mS];cases b.ab O<;>simp
def aBp(b:BE)(t:T):T.wp j R (.bA b t) O L=(b.ab O=J/\t.wp j R O L):=by simp only[T.wp,T.mS]
def aBq(v:C)(X:bK)(W:bz):T.wp j R (.ret v X W) O L=R (.ret ((yT v).map (C.xv O))):=by simp only[T.wp,T.mS]
def aBr(f:FuncId)(X:ap)(V:bK)(Q:bz)(W:aY)(jf:C)(t:T):T.wp j R (.call f X V Q W jf t) O L=fZ j R f ((sZ X).map (C.xv O)) W t O L:=by simp only[T.wp,T.mS,fZ];rfl
def aBs(e:TypeId)(x:LE)(X W:bz)(t:T):T.wp j R (.new e x X W t) O L=t.wp j R (O.add (.r (iZ x O))) L:=by simp only[T.wp,T.mS]
def aBt(k:RK)(x:LE)(X:bz)(t:T):T.wp j R (.ae k x X t) O L=t.wp j R (O.add (.r (iZ x O))) L:=by simp only[T.wp,T.mS]
def aBu(X:bn)(W:aY)(t:T):f8 j R (.ret X) W t O L=(jX W X=J/\t.wp j R (O.ext X) L):=rfl
def aBv(v:Value)(X:aY)(t:T):f8 j R (.bD v) X t O L=R (.bD v):=rfl
def aBw(aC:Nat)(x:ap):T.wp j R (.back aC x) O L=Kd (Jf aC L) (x.map (C.xv O)):=by
 simp only[T.wp,T.mS,Kd];cases Jf aC L<;>rfl
def wE(c:PC)(X:bn):Kd (U c) X=(c.I X/\c.μ X<c.m):=rfl
def Fc(g h:BE)(t f:T):T.wp j R (.gA g h t f) O L=((g.ab O=J\/h.ab O=J)/\(g.ab O=J->t.wp j R O L)/\(h.ab O=J->f.wp j R O L)/\(g.ab O=J->h.ab O=J->Qt R)):=rfl
def aBx(f g:FuncId)(e:TypeId)(X:bq)(W:Bool)(r:RE)(Q:bz)(t:T):T.wp j R (.ez f g e X W r Q t) O L=(∃V,oc O X W (r.rv O).ae=U V/\t.wp j R (O.add (.r (.mk (r.rv O).val V))) L):=rfl
def Bj(f g:FuncId)(e:TypeId)(X:aq)(d:Bool)(W:Bool)(r:RE)(Q:bz)(t:T):T.wp j R (.ez f g e (.lex X d) W r Q t) O L=(∃V,jA (.lex X d) W (r.rv O).ae=U V/\t.wp j R (O.add (.r (.mk (r.rv O).val V))) L):=rfl
def Bk(f g:FuncId)(e:TypeId)(n d:Nat)(X:Bool)(r:RE)(V:bz)(t:T):T.wp j R (.ez f g e (.ratio n d) X r V t) O L=(∃W,jA (.ratio n d) X (r.rv O).ae=U W/\t.wp j R (O.add (.r (.mk (r.rv O).val W))) L):=rfl
def wF{aC:Nat}{P:aY}{Q:ap}{t:T}(X:bn->Prop)(W:bn->Nat)(N:X (Q.map (C.xv O)))(h:∀V,X V->t.wp j R (O.ext V) (⟨aC,X,W,W V⟩::L)):T.wp j R (.loop aC P Q t) O L:=by
 simp only[T.wp,T.mS];exact⟨R,L,.inl ⟨rfl,rfl⟩,X,W,N,h⟩
def aBy{aC:Nat}{N:aY}{P:ap}{t:T}(W:bv->Prop)(M:∀o,W o->R o)(X:bn->Prop)(V:bn->Nat)(H:X (P.map (C.xv O)))(h:∀Q,X Q->t.wp j W (O.ext Q) [⟨aC,X,V,V Q⟩]):T.wp j R (.loop aC N P t) O L:=by
 simp only[T.wp,T.mS];exact⟨W,[],.inr ⟨M,rfl⟩,X,V,H,h⟩
end
def aT{V:lJ}{R:bv->Prop}{P:aY}{t:T}{O:ai}{L:dE}{o:bv}(h:V.Ev X W o):fZ V.Ev R X W P t O L=f8 V.Ev R o P t O L:=by
 refine propext ⟨λ⟨M,N,Q⟩=> ?_,λQ=>⟨o,h,Q⟩⟩;rw[Aw h N];exact Q
attribute[congr] aBl aBm aBn
def has{W:Fn}(h:HD X=U W)(V:X≠26)(Q:X≠272):Mv TB X W:=⟨h,λP=>by simp[TB,Kc,V,Q]⟩
def single{o:bv}(h:At o o=J):Qt (· =o):=λa b X W=>by subst X;exact⟨W.symm,h⟩
def evo{V:Fn}{o:bv}(P:HD X=U V)(Q:(X !=26&&X !=272)=J)(N:V.d=E\/∀v,o≠ .bD v)(h:V.t.wp TB.Ev (· =o) (gI (mR V.g) W) []):TB.Ev X W o:=by
 simp only[aA,bne_iff_ne,ne_eq] at Q;exact Jg (has P Q.1 Q.2) N h
def SN{V:Fn}{R:bv->Prop}(P:HD X=U V)(Q:(X !=26&&X !=272)=J)(N:V.d=E\/∀v,¬R (.bD v))(h:V.t.wp TB.Ev R (gI (mR V.g) W) []):∃o,TB.Ev X W o/\R o:=by
 simp only[aA,bne_iff_ne,ne_eq] at Q;exact aoe (has P Q.1 Q.2) N h
def ce{V:Fn}{o:bv}(h:V.t.wp TB.Ev (· =o) (gI (mR V.g) W) [])(Q:HD X=U V:=by exact rfl)(P:(X !=26&&X !=272)=true:=by exact rfl)(N:V.d=false:=by exact rfl):TB.Ev X W o:=evo Q P (.inl N) h
def dR{V:Fn}{R:bv->Prop}(h:V.t.wp TB.Ev R (gI (mR V.g) W) [])(Q:HD X=U V:=by exact rfl)(P:(X !=26&&X !=272)=true:=by exact rfl)(N:V.d=false:=by exact rfl):∃o,TB.Ev X W o/\R o:=SN Q P (.inl N) h
end
section
attribute[simp] K.ab BE.ab RE.rv RE.ab iM ai.rv gI ai.ext ai.add sZ yT Qm C.xv mR Jf jX adD aBo aBp aBq aBr aBs aBt aBu aBv aBw
def out(f:FuncId)(X:bn):bn:=by classical exact if h:∃W,TB.Ev f X (.ret W) then h.choose else[]
def xi(X:bn)(k:Nat):Int:=match X.getD k (.i 0) with
 |.i n=>n
 |_=>0
def xb(X:bn)(k:Nat):Bool:=match X.getD k (.i 0) with
 |.b x=>x
 |_=>E
def xr(X:bn)(k:Nat):RV:=match X.getD k (.i 0) with
 |.r x=>x
 |_=>default
def oi(f:FuncId)(X:bn)(k:Nat):Int:=xi (out f X) k
def ob(f:FuncId)(X:bn)(k:Nat):Bool:=xb (out f X) k
def De{V:bn}(h:TB.Ev X W (.ret V)):out X W=V:=by
 have Q:∃V,TB.Ev X W (.ret V):=⟨V,h⟩;have:out X W=Q.choose:=by unfold out;rw[dif_pos Q]
 rw[this];have:=Aw Q.choose_spec h;injection this
def aBA{P:bn->Prop}(h:∃o,TB.Ev X W o/\∃V,o=.ret V/\P V):TB.Ev X W (.ret (out X W))/\P (out X W):=by
 obtain⟨o,Q,V,rfl,N⟩:=h;rw[De Q];exact⟨Q,N⟩
def qC(X:bn):aY->Nat->bn
 |[],_=>[]
 |.int _::e,n=>.i (xi X n)::qC X e (n+1)
 |.bool::e,n=>.b (xb X n)::qC X e (n+1)
 |.aj _::e,n=>.r (xr X n)::qC X e (n+1)
def atd(W:bn):∀(e:aY)(X:bn),jX e X=J->qC (W++X) e (Y W)=X
 |[],[],_=>rfl
 |[],_::_,h=>by simp at h
 |k::e,[],h=>by cases k<;>simp at h
 |k::e,y::X,h=>by
  have V:=atd (W++[y]) e X;simp only[jX,aA] at h;have V:=V h.2;simp only[KO,List.singleton_append,gU,aaV] at V;have Q:(W++y::X).getD (Y W) (.i 0)=y:=by simp[List.getD]
  cases k<;>cases y<;>simp at h<;>simp only[qC,V,xi,xb,xr,Q]
def shp(e:aY){P:bn->Prop}(h:∃o,TB.Ev X W o/\∃V,o=.ret V/\jX e V=J/\P V):TB.Ev X W (.ret (qC (out X W) e 0))/\P (out X W):=by
 obtain⟨Q,N,M⟩:=aBA h;rw[show qC (out X W) e 0=out X W from atd [] e _ N];exact⟨Q,M⟩
def jm(n X W:Int):Bool:=decide (X<=n)&&decide (n<=W)
@[simp] def SO (n X W:Int):jm n X W=J<->X<=n/\n<=W:=by simp[jm]
def tU(a b:Int):Int:=if a<b then-1 else if b<a then 1 else 0
def oz(a b c d:Int):Int:=if ga a b&&ga c d then tU (IntKind.i64.wrap (a*d)) (IntKind.i64.wrap (c*b)) else 0
def Fe:FuncId->Option Fn
 |142=>U ⟨Zk,E,E⟩
 |210=>U ⟨Zl,E,E⟩
 |276=>U ⟨Zm,E,E⟩
 |275=>U ⟨Zo,E,E⟩
 |110=>U ⟨Zp,E,E⟩
 |192=>U ⟨Zq,E,E⟩
 |_=>Z
section
variable{p:lJ}(H:∀f fn,Fe f=U fn->Mv p f fn)
include H
def aBC(a b:Nat):p.Ev 275 [.i a,.i b] (.ret [.i (lC a b)]):=by
 refine Jg (H _ _ rfl) (.inl rfl) ?_;simp[Zo];split;rename_i W;simp[W];rename_i W;refine wF (λX=>∃d x y:Nat,X=[.i d,.i x,.i y]/\y≠0/\lC x y=lC a b/\(x=0->d=lC a b)) (λX=>(xi X 2).toNat) ⟨b,a,b,aw,W,rfl,λV=>by subst V;simp⟩ ?_;rintro X ⟨d,x,y,rfl,P,Q,V⟩;have N:max (y:Int) 1=y:=aa;have M:ay .rem .u64 (x:Int) (y:Int)=((x%y:Nat):Int):=by
  simp only[ay];rw[Oy aa];exact(Int.natCast_emod x y).symm
 simp[xi,N,M,wE];split;rename_i G;simp[V G];refine⟨aa, ?_⟩;split;rename_i D;rw[<-Q,ON,abe,show x%y=0 from aa];simp;refine⟨⟨x,y,x%y,⟨rfl,rfl,aa⟩,aa, ?_,λF=>aG F P⟩, ?_⟩;rw[<-Q,ON x y,abe y x,ON];have:=Ia x (show 0<y from aa);omega
def aBD(n:Int)(W:-1073741824<=n)(V:n<=1073741824):p.Ev 276 [.i n] (.ret [.i n.natAbs]):=by
 refine Jg (H _ _ rfl) (.inl rfl) ?_;simp[Zm,ay];have X:∀x:Int,IntKind.u64.wrap x=x%18446744073709551616:=λx=>rfl
 rw[X,X];split<;>omega
def ate(n:Int):p.Ev 192 [.i n] (.ret [.b E]):=by
 refine Jg (H _ _ rfl) (.inl rfl) ?_;simp[Zq]
def ahM(a b:Int):p.Ev 110 [.i a,.i b] (.ret [.i (tU a b)]):=by
 refine Jg (H _ _ rfl) (.inl rfl) ?_;simp[Zp,tU,aT (ate H _)]
 grind
def atf(n d:Int):p.Ev 210 [.i n,.i d] (.ret [.i (if ga n d then 0 else 120)]):=by
 refine Jg (H _ _ rfl) (.inl rfl) ?_;simp[Zl]
 repeat' split
 any_goals(simp[ga];omega)
 all_goals
  rw[aT (aBD H n aa aa)];have X:IntKind.u64.wrap d=(d.toNat:Int):=by
   have:IntKind.u64.wrap d=d%18446744073709551616:=rfl;omega
  have W:max d 0=(d.toNat:Int):=aa;simp[X];rw[W,aT (aBC H n.natAbs d.toNat)];simp[ga] at*;omega
def atg(a b c d:Int):p.Ev 142 [.i a,.i b,.i c,.i d] (.ret [.i (oz a b c d),.i (if ga a b&&ga c d then 0 else 120)]):=by
 refine Jg (H _ _ rfl) (.inl rfl) ?_;simp[Zk,oz,ay,aT (atf H _ _),aT (ahM H _ _)]
 grind
end
def ZL(f:FuncId)(fn:Fn)(h:Fe f=U fn):Mv TB f fn:=by
 unfold Fe at h;split at h<;>cases h<;>exact has rfl dM dM
def Ke(d:Int):Int:=if d=1 then 0 else if d=2 then 20 else if d=3 then 29 else if d=4 then 20 else if d=5 then 0 else if d=6 then-20 else if d=7 then-29 else-20
def Kf(d:Int):Int:=if d=1 then 29 else if d=2 then 21 else if d=3 then 0 else if d=4 then-21 else if d=5 then-29 else if d=6 then-21 else if d=7 then 0 else 21
section
variable{R:bv->Prop}{e:aY}{t:T}{O:ai}{L:dE}
def e82(n X W:Int):TB.Ev 82 [.i n,.i X,.i W] (.ret [.b (jm n X W)]):=by
 refine ce ?_;simp[T82,jm]
 grind
@[simp] def c82 (n X W:Int):fZ TB.Ev R 82 [.i n,.i X,.i W] e t O L=f8 TB.Ev R (.ret [.b (jm n X W)]) e t O L:=aT (e82 n X W)
def aBF(n X W:Int):TB.Ev 134 [.i n,.i X,.i W] (.ret [.b (jm n X W)]):=by
 refine ce ?_;simp[agH,jm]
 grind
@[simp] def aK0 (n X W:Int):fZ TB.Ev R 134 [.i n,.i X,.i W] e t O L=f8 TB.Ev R (.ret [.b (jm n X W)]) e t O L:=aT (aBF n X W)
def aBG(n X W:Int):TB.Ev 219 [.i n,.i X,.i W] (.ret [.b (jm n X W)]):=by
 refine ce ?_;simp[agR,jm]
 grind
@[simp] def aK1 (n X W:Int):fZ TB.Ev R 219 [.i n,.i X,.i W] e t O L=f8 TB.Ev R (.ret [.b (jm n X W)]) e t O L:=aT (aBG n X W)
def e70(n X W:Int):TB.Ev 70 [.i n,.i X,.i W] (.ret [.b (jm n X W)]):=by
 refine ce ?_;simp[T70,jm]
 grind
@[simp] def c70 (n X W:Int):fZ TB.Ev R 70 [.i n,.i X,.i W] e t O L=f8 TB.Ev R (.ret [.b (jm n X W)]) e t O L:=aT (e70 n X W)
def aBI(n X W:Int):TB.Ev 284 [.i n,.i X,.i W] (.ret [.b (jm n X W)]):=by
 refine ce ?_;simp[agX,jm]
 grind
@[simp] def aK3 (n X W:Int):fZ TB.Ev R 284 [.i n,.i X,.i W] e t O L=f8 TB.Ev R (.ret [.b (jm n X W)]) e t O L:=aT (aBI n X W)
def sx(n:Int)(u:Bool)(X W:Int):Bool:=if u then jm n X W else n==0
def aBJ(n X W:Int)(u:Bool):TB.Ev 154 [.i n,.b u,.i X,.i W] (.ret [.b (sx n u X W)]):=by
 refine ce ?_;simp[agQ,sx]
 grind
@[simp] def aK4 (n X W:Int) (u:Bool):fZ TB.Ev R 154 [.i n,.b u,.i X,.i W] e t O L=f8 TB.Ev R (.ret [.b (sx n u X W)]) e t O L:=aT (aBJ n X W u)
@[simp] def aK5 (n:Int):fZ TB.Ev R 192 [.i n] e t O L=f8 TB.Ev R (.ret [.b E]) e t O L:=aT (ate ZL n)
@[simp] def aK6 (a b:Int):fZ TB.Ev R 110 [.i a,.i b] e t O L=f8 TB.Ev R (.ret [.i (tU a b)]) e t O L:=aT (ahM ZL a b)
@[simp] def aK7 (n d:Int):fZ TB.Ev R 210 [.i n,.i d] e t O L=f8 TB.Ev R (.ret [.i (if ga n d then 0 else 120)]) e t O L:=aT (atf ZL n d)
@[simp] def aK8 (a b c d:Int):fZ TB.Ev R 142 [.i a,.i b,.i c,.i d] e t O L=f8 TB.Ev R (.ret [.i (oz a b c d),.i (if ga a b&&ga c d then 0 else 120)]) e t O L:=aT (atg ZL a b c d)
def e66(a b c d:Int):TB.Ev 66 [.i a,.i b,.i c,.i d] (.ret [.b (bc a b c d)]):=by
 refine ce ?_;simp[T66,bc]
 grind
@[simp] def c66 (a b c d:Int):fZ TB.Ev R 66 [.i a,.i b,.i c,.i d] e t O L=f8 TB.Ev R (.ret [.b (bc a b c d)]) e t O L:=aT (e66 a b c d)
def jn(X:Bool)(x:Int):Int:=if X then x else 0
def e72(a b c d X W V Q:Int):TB.Ev 72 [.i a,.i b,.i c,.i d,.i X,.i W,.i V,.i Q] (.ret [.i (jn (bc a b c d&&bc X W V Q) (min a X)),.i (jn (bc a b c d&&bc X W V Q) (max b W)),.i (jn (bc a b c d&&bc X W V Q) (min c V)),.i (jn (bc a b c d&&bc X W V Q) (max d Q)),.i (if bc a b c d&&bc X W V Q then 0 else 150)]):=by
 refine ce ?_;simp[T72,jn]
 grind
@[simp] def c72 (a b c d X W V Q:Int):fZ TB.Ev R 72 [.i a,.i b,.i c,.i d,.i X,.i W,.i V,.i Q] e t O L=f8 TB.Ev R (.ret [.i (jn (bc a b c d&&bc X W V Q) (min a X)),.i (jn (bc a b c d&&bc X W V Q) (max b W)),.i (jn (bc a b c d&&bc X W V Q) (min c V)),.i (jn (bc a b c d&&bc X W V Q) (max d Q)),.i (if bc a b c d&&bc X W V Q then 0 else 150)]) e t O L:=aT (e72 a b c d X W V Q)
def e69(a b c d:Int):TB.Ev 69 [.i a,.i b,.i c,.i d] (.ret [.b (bc a b c d)]):=by
 refine ce ?_;simp[T69]
 grind
@[simp] def c69 (a b c d:Int):fZ TB.Ev R 69 [.i a,.i b,.i c,.i d] e t O L=f8 TB.Ev R (.ret [.b (bc a b c d)]) e t O L:=aT (e69 a b c d)
def SP(a b c d X W V Q:Int):Bool:=decide (X<=a)&&decide (b<=W)&&decide (V<=c)&&decide (d<=Q)
def e24(a b c d X W V Q:Int):TB.Ev 24 [.i a,.i b,.i c,.i d,.i X,.i W,.i V,.i Q] (.ret [.b (bc a b c d&&bc X W V Q&&SP a b c d X W V Q),.i (if bc a b c d&&bc X W V Q then 0 else 150)]):=by
 refine ce ?_;simp[T24,SP]
 grind
@[simp] def c24 (a b c d X W V Q:Int):fZ TB.Ev R 24 [.i a,.i b,.i c,.i d,.i X,.i W,.i V,.i Q] e t O L=f8 TB.Ev R (.ret [.b (bc a b c d&&bc X W V Q&&SP a b c d X W V Q),.i (if bc a b c d&&bc X W V Q then 0 else 150)]) e t O L:=aT (e24 a b c d X W V Q)
def e26(a b c d X W V Q:Int):TB.Ev 26 [.i a,.i b,.i c,.i d,.i X,.i W,.i V,.i Q] (.ret [.b (bc a b c d&&bc X W V Q&&Bi a b c d X W V Q),.i (if bc a b c d&&bc X W V Q then 0 else 150)]):=by
 refine ad6 ?_;simp only[TB,Kc,ZJ,cN];cases P:bc a b c d&&bc X W V Q<;>simp
@[simp] def c26 (a b c d X W V Q:Int):fZ TB.Ev R 26 [.i a,.i b,.i c,.i d,.i X,.i W,.i V,.i Q] e t O L=f8 TB.Ev R (.ret [.b (bc a b c d&&bc X W V Q&&Bi a b c d X W V Q),.i (if bc a b c d&&bc X W V Q then 0 else 150)]) e t O L:=aT (e26 a b c d X W V Q)
def aBP(a b c d X W V Q:Int):TB.Ev 181 [.i a,.i b,.i c,.i d,.i X,.i W,.i V,.i Q] (.ret [.b (!(bc a b c d&&bc X W V Q&&Bi a b c d X W V Q))]):=by
 refine ce ?_;simp[agV]
@[simp] def aLe (a b c d X W V Q:Int):fZ TB.Ev R 181 [.i a,.i b,.i c,.i d,.i X,.i W,.i V,.i Q] e t O L=f8 TB.Ev R (.ret [.b (!(bc a b c d&&bc X W V Q&&Bi a b c d X W V Q))]) e t O L:=aT (aBP a b c d X W V Q)
def gv(a b c d x y:Int):Int:=if !bc a b c d then 150 else if !(decide (-2199023255552<=x)&&decide (x<=2199023255552)&&decide (-2199023255552<=y)&&decide (y<=2199023255552)) then 2 else if bc (IntKind.i64.wrap (a+x)) (IntKind.i64.wrap (b+x)) (IntKind.i64.wrap (c+y)) (IntKind.i64.wrap (d+y)) then 0 else 2
def aBQ(a b c d x y:Int):TB.Ev 133 [.i a,.i b,.i c,.i d,.i x,.i y] (.ret [.i (jn (gv a b c d x y==0) (IntKind.i64.wrap (a+x))),.i (jn (gv a b c d x y==0) (IntKind.i64.wrap (b+x))),.i (jn (gv a b c d x y==0) (IntKind.i64.wrap (c+y))),.i (jn (gv a b c d x y==0) (IntKind.i64.wrap (d+y))),.i (gv a b c d x y)]):=by
 refine ce ?_;simp[agM,jn,ay]
 repeat' split
 all_goals(simp_all[gv])
 all_goals grind
@[simp] def aLf (a b c d x y:Int):fZ TB.Ev R 133 [.i a,.i b,.i c,.i d,.i x,.i y] e t O L=f8 TB.Ev R (.ret [.i (jn (gv a b c d x y==0) (IntKind.i64.wrap (a+x))),.i (jn (gv a b c d x y==0) (IntKind.i64.wrap (b+x))),.i (jn (gv a b c d x y==0) (IntKind.i64.wrap (c+y))),.i (jn (gv a b c d x y==0) (IntKind.i64.wrap (d+y))),.i (gv a b c d x y)]) e t O L:=aT (aBQ a b c d x y)
end
structure Sl(v:RV):Prop where
 sl:∃a n c,v.val=.slice a n c
 len:lenOf v.val=Y v.ae
 sm:Y v.ae<=140737488355328
def ci(v:RV)(i j:Nat):Int:=bp (aZ v.ae i j).val
def cb(v:RV)(i j:Nat):Bool:=fW (aZ v.ae i j).val
def Bl(n:Nat)(X:Nat->bn->Prop):bn->Prop
 |.i j::W=>∃i:Nat,j=i/\i<=n/\X i W
 |_=>False
def zC(n:Nat):bn->Nat
 |.i j::_=>n-j.toNat
 |_=>0
section
variable{g:FuncId->bn->bv->Prop}{R:bv->Prop}{O:ai}{L:dE}
def cP{aC:Nat}{e:aY}{Q:ap}{t:T}(n:Nat)(X:Nat->bn->Prop)(P:Bl n X (Q.map (C.xv O)))(h:∀(i:Nat) W,i<=n->X i W->t.wp g R (O.ext (.i i::W)) (⟨aC,Bl n X,zC n,n-i⟩::L)):T.wp g R (.loop aC e Q t) O L:=by
 refine wF (Bl n X) (zC n) P λN V=> ?_
 match N,V with
 |.i j::W,V=>
  obtain⟨i,rfl,M,G⟩:=V;have:=h i W M G;simpa[zC] using this
def bO{n:Int}(X:-9223372036854775808<=n)(W:n<9223372036854775808):IntKind.i64.wrap n=n:=by
 rw[IntKind.wrap_i64];omega
def Kg{i:Nat}(h:i<=140737488355328):ay .add I (i:Int) 1=((i+1:Nat):Int):=by
 simp only[ay];rw[bO aa aa];omega
def cu{aC n:Nat}{J:Nat->bn->Prop}{i:Nat}{rest:bn}(X:i<n)(W:n<=140737488355328):Kd (U ⟨aC,Bl n J,zC n,n-i⟩) (.i (ay .add I (i:Int) 1)::rest)=J (i+1) rest:=by
 rw[Kg aa];refine propext ⟨λh=> ?_,λh=>⟨⟨i+1,rfl,aa,h⟩, ?_⟩⟩;obtain⟨⟨k,V,_,h⟩,_⟩:=h;have:k=i+1:=aa;exact this▸h;simp only[zC];omega
end
end
inductive KX where
 |i
 |b
 |r
 deriving DecidableEq
def LK.kx:LK->KX
 |.int _=>.i
 |.bool=>.b
 |.aj _=>.r
def XV.kx:XV->KX
 |.i _=>.i
 |.b _=>.b
 |.r _=>.r
def C.kx:C->KX
 |.bool _=>.b
 |.aj _=>.r
 |_=>.i
abbrev Tot:=FuncId->Option (List KX×List KX)
def Tot.ok(V:Tot):Prop:=∀f p r,V f=U (p,r)->∀X,X.map XV.kx=p->∃W,TB.Ev f X (.ret W)/\W.map XV.kx=r
def tV{P:Int->Prop}(h:∃o,TB.Ev X W o/\∃e,o=.ret [.i e]/\P e):TB.Ev X W (.ret [.i (oi X W 0)])/\P (oi X W 0):=by
 obtain⟨o,V,e,rfl,Q⟩:=h;have:oi X W 0=e:=by simp only[oi,De V];rfl
 rw[this];exact⟨V,Q⟩
def ZM{P:Bool->Prop}(h:∃o,TB.Ev X W o/\∃e,o=.ret [.b e]/\P e):TB.Ev X W (.ret [.b (ob X W 0)])/\P (ob X W 0):=by
 obtain⟨o,V,e,rfl,Q⟩:=h;have:ob X W 0=e:=by simp only[ob,De V];rfl
 rw[this];exact⟨V,Q⟩
structure kh(roles bars:Int)(c:Nat->Int):Prop where
 kind:1<=c 4/\c 4<=9
 av:0<=c 1/\c 1<roles
 ah:0<=c 2/\c 2<bars
 mark:1<=c 3/\c 3<=3
 side:if c 4=1\/c 4=3\/c 4=4\/c 4=9 then 1<=c 5/\c 5<=2 else c 5=0
 dir:if c 4=1\/c 4=2 then 1<=c 6/\c 6<=8 else if c 4=3\/c 4=4\/c 4=5 then 0<=c 6/\c 6<=8 else c 6=0
 aBS:if c 4=3\/c 4=4\/c 4=5\/c 4=9 then 1<=c 7/\c 7<=3 else c 7=0
 size:if c 4=1\/c 4=2 then 1<=c 8/\c 8<=16 else if c 4=6 then 1<=c 8/\c 8<=7 else c 8=0
 wth:if c 4=7\/c 4=8 then 1<=c 9/\c 9<=roles else c 9=0
 from_:ga (c 10) (c 11)=J
 to:ga (c 12) (c 13)=J
section
variable{R:bv->Prop}{g:aY}{t:T}{O:ai}{L:dE}
def bG(c:Nat->Int):bn:=[.i (c 0),.i (c 1),.i (c 2),.i (c 3),.i (c 4),.i (c 5),.i (c 6),.i (c 7),.i (c 8),.i (c 9),.i (c 10),.i (c 11),.i (c 12),.i (c 13)]
def kT(k:Int)(j:Nat):RV:=aZ (j7[0]?.getD default).ae k j
def atj{c:Nat->Int}{X W:Int}(H:1<=c 4/\c 4<=9)(G:0<=c 1/\c 1<=X-1)(F:0<=c 2/\c 2<=W-1)(D:1<=c 3/\c 3<=3)(V:sx (c 5) (fW (kT (c 4) 0).val) 1 2=J)(Q:sx (c 6) (fW (kT (c 4) 1).val) (bp (kT (c 4) 3).val) 8=J)(P:sx (c 7) (decide (0<bp (kT (c 4) 4).val)) 1 (bp (kT (c 4) 4).val)=J)(N:sx (c 8) (decide (0<bp (kT (c 4) 5).val)) 1 (bp (kT (c 4) 5).val)=J)(M:sx (c 9) (fW (kT (c 4) 2).val) 1 X=J)
  (B:ga (c 10) (c 11)=J)(A:ga (c 12) (c 13)=J):kh X W c:=by
 have:c 4=1\/c 4=2\/c 4=3\/c 4=4\/c 4=5\/c 4=6\/c 4=7\/c 4=8\/c 4=9:=aa;rcases this with h|h|h|h|h|h|h|h|h
 all_goals
  simp[h,kT,j7,lu,bV,iV,aZ,sx,fW,bp] at V Q P N M;constructor<;>(first|omega|assumption|(simp[h];done)|(simp[h];omega))
def t84(c:Nat->Int)(X W:Int)(N:-1000<=X/\X<=1000000)(M:-1000<=W/\W<=1000000):∃o,TB.Ev 84 (bG c++[.i X,.i W]) o/\∃b,o=.ret [.b b]/\(b=J->kh X W c):=by
 refine dR ?_;have V:ay .sub I X 1=X-1:=by simp only[ay];rw[bO aa aa]
 have Q:ay .sub I W 1=W-1:=by simp only[ay];rw[bO aa aa]
 have P:lenOf (j7[0]?.getD default).val=10:=rfl;simp[SC,bG,V,Q,P]
 repeat' split
 all_goals(try simp)
 all_goals(intros;refine⟨aa, ?_⟩;intros;apply atj<;>(first|assumption|omega|grind))
def f84(c:Nat->Int)(X W:Int)(V:-1000<=X/\X<=1000000)(Q:-1000<=W/\W<=1000000):TB.Ev 84 (bG c++[.i X,.i W]) (.ret [.b (ob 84 (bG c++[.i X,.i W]) 0)])/\(ob 84 (bG c++[.i X,.i W]) 0=J->kh X W c):=ZM (t84 c X W V Q)
def NS{a b:Int}(h:b≠0):(a.tmod b).natAbs<b.natAbs:=by
 rw[KR];exact Ia _ aa
def aBV(a b c:Int)(N:1<=c)(M:c<=32768)(H:-c<=a/\a<=c)(G:-c<=b/\b<=c):∃o,TB.Ev 153 [.i a,.i b,.i c] o/\∃x y z,o=.ret [.i x,.i y,.i z]:=by
 refine dR ?_;simp[Zx];refine wF (λX=>∃n d:Int,X=[.i n,.i d]∧-c<=n/\n<=c∧-c<=d/\d<=c) (λX=>(xi X 0).natAbs) ⟨a,0,rfl,aa,aa,aa,aa⟩ ?_;rintro _ ⟨n,d,rfl,W,V,Q,P⟩;simp[xi,wE,ay];split
 case isFalse h=>
  have:=NS (a:=d) h;refine⟨h,⟨_,_,⟨rfl,rfl⟩, ?_⟩,by rw[<-KR];exact this⟩;omega
 refine wF (λX=>∃n d:Int,X=[.i n,.i d]∧-c<=n/\n<=c∧-c<=d/\d<=c) (λX=>(xi X 0).natAbs) ⟨b,d,rfl,aa,aa,aa,aa⟩ ?_;rintro _ ⟨n,d,rfl,W,V,Q,P⟩;simp[xi,wE,ay];split
 case isFalse h=>
  have:=NS (a:=d) h;refine⟨h,⟨_,_,⟨rfl,rfl⟩, ?_⟩,by rw[<-KR];exact this⟩;omega
 refine wF (λX=>∃n d:Int,X=[.i n,.i d]∧-c<=n/\n<=c∧-c<=d/\d<=c/\(n≠0\/d≠0)) (λX=>(xi X 0).natAbs) ⟨c,d,rfl,aa,aa,aa,aa,aa⟩ ?_;rintro _ ⟨n,d,rfl,W,V,Q,P,F⟩;simp[xi,wE,ay];split
 case isFalse h=>
  have:=NS (a:=d) h;refine⟨h,⟨_,_,⟨rfl,rfl⟩, ?_⟩,by rw[<-KR];exact this⟩;omega
 have:IntKind.i64.wrap (-d)=-d:=bO aa aa;simp[this];omega
def t83(a b c:Int):∃o,TB.Ev 83 [.i a,.i b,.i c] o/\∃e,o=.ret [.i e]/\True:=by
 refine dR ?_;simp[Zy];intro V Q X P N;have W:ay .sub I 0 c=-c:=by simp only[ay];rw[bO aa aa];omega
 rw[W] at X;obtain⟨o,h,x,y,z,rfl⟩:=aBV a b c aa aa aa aa;rw[aT h];simp
@[simp] def c83 (a b c:Int):fZ TB.Ev R 83 [.i a,.i b,.i c] g t O L=f8 TB.Ev R (.ret [.i (oi 83 [.i a,.i b,.i c] 0)]) g t O L:=aT (tV (t83 a b c)).1
structure NT(tp:RV):Prop where
 sl:Sl tp
 pos:0<Y tp.ae
 zero:ci tp 0 0=0
def atk{i j:Nat}(h:j<=140737488355328)(W:i<=j):IntKind.i64.wrap (ay .shr .u64 (IntKind.u64.wrap (ay .add I (i:Int) (j:Int))) 1)=(((i+j)/2:Nat):Int):=by
 simp only[ay];rw[bO (n:=(i:Int)+j) aa aa];rw[show IntKind.u64.wrap ((i:Int)+j)=(i:Int)+j by rw[IntKind.wrap_u64];omega];have:((i:Int)+j).fdiv (2^min (1:Int).toNat IntKind.u64.bits)=(((i+j)/2:Nat):Int):=by
  have X:(2:Int)^min (1:Int).toNat IntKind.u64.bits=2:=rfl;rw[X,aKm _ aa];omega
 rw[this,bO aa aa]
def aBX(P ah:Int)(X N M:RV)(h:NT X)(A:0<=ah):∃o,TB.Ev 220 [.i P,.r X,.r N,.r M,.i ah] o/\∃e,o=.ret [.i e]/\True:=by
 refine dR ?_;simp[Zr];have z:=h.pos;have y:=h.sl.sm;refine wF (λW=>∃i j:Nat,W=[.i i,.i j]/\i<=j/\j<=Y X.ae/\(j=Y X.ae\/ah<ci X j 0)) (λW=>(xi W 1-xi W 0).toNat) ⟨0,Y X.ae,by simp[h.sl.len],aa,aa,.inl rfl⟩ ?_;rintro _ ⟨i,j,rfl,H,x,V⟩;simp[xi,wE,h.sl.len,atk (show j<=140737488355328 from aa) H];split;rename_i G;refine⟨aa, ?_⟩;have F:((i:Int)+j)/2=(((i+j)/2:Nat):Int):=aa;have D:=Kg (i:=(i+j)/2) aa;rw[F,D];split;refine⟨⟨(i+j)/2+1,j,⟨rfl,rfl⟩,aa,aa,V⟩,aa⟩;rename_i Q;refine⟨⟨i,(i+j)/2,⟨rfl,rfl⟩,aa,aa,.inr ?_⟩,aa⟩;simp only[ci];omega;rename_i G;have B:i=j:=aa;subst B;have:1<=i:=by
  rcases BG i with rfl|Q;have:=h.zero;rcases V with V|V<;>omega;exact Q
 rw[show ay .sub I (i:Int) 1=(i:Int)-1 by simp only[ay];rw[bO aa aa]];omega
def aBY(W ah:Int)(X V Q:RV)(h:NT X)(P:0<=ah):fZ TB.Ev R 220 [.i W,.r X,.r V,.r Q,.i ah] g t O L=f8 TB.Ev R (.ret [.i (oi 220 [.i W,.r X,.r V,.r Q,.i ah] 0)]) g t O L:=aT (tV (aBX W ah X V Q h P)).1
end
section
def aI(X:ar):RV:=.mk (.slice Z (Y X) (Y X)) X
@[simp] def aLh (x:LE) (O:ai):iZ x O=aI (x.ae O):=rfl
@[simp] def ahN (r:ar):(aI r).ae=r:=rfl
@[simp] def aLi (r:ar):lenOf (aI r).val=Y r:=rfl
@[simp] def tW:RV.mk (.slice Z 0 0) []=aI []:=rfl
def ahO{r:ar}(h:Y r<=140737488355328):Sl (aI r):=⟨⟨_,_,_,rfl⟩,rfl,h⟩
attribute[simp] LE.ae C.cq
def nl(c:Nat->Int):aM:=[.mk (.int I (c 0)) [],.mk (.int I (c 1)) [],.mk (.int I (c 2)) [],.mk (.int I (c 3)) [],.mk (.int I (c 4)) [],.mk (.int I (c 5)) [],.mk (.int I (c 6)) [],.mk (.int I (c 7)) [],.mk (.int I (c 8)) [],.mk (.int I (c 9)) [],.mk (.int I (c 10)) [],.mk (.int I (c 11)) [],.mk (.int I (c 12)) [],.mk (.int I (c 13)) []]
def atl{lt:aM->aM->Bool}{x:aM}:∀{l:ar},(eB lt x l).Perm (x::l)
 |[]=>axk _
 |y::r=>by
  simp only[eB];split;exact axk _;exact((atl (l:=r)).cons y).trans (aKS x y r)
def atm{lt:aM->aM->Bool}:∀(l acc:ar),(l.foldl (λacc x=>eB lt x acc) acc).Perm (acc++l)
 |[],acc=>aw
 |x::l,acc=>by
  simp only[FF];refine(atm l _).trans ?_;refine(List.Perm.append_right l atl).trans ?_;rw[da];exact List.perm_middle.symm
def Df{lt:aM->aM->Bool}(l:ar):(bX lt l).Perm l:=by
 have:=atm (lt:=lt) l [];simpa[bX] using this
def zD(X:ar):Prop:=X.Pairwise λx y=>aN 0 x≠aN 0 y
def zD.perm{l X:ar}(h:zD l)(W:X.Perm l):zD X:=(W.symm.pairwise_iff (λ{x y} h=>h.symm)).1 h
def atn:∀{X:ar},zD X->yJ (bq.lex [0] E).lt X=J
 |[],_=>rfl
 |x::r,h=>by
  simp only[zD,jS] at h;simp only[yJ,aA,f9,jy];refine⟨λy V=> ?_,atn h.2⟩;have W:¬aN 0 x=aN 0 y:=h.1 y V;have Q:¬aN 0 y=aN 0 x:=λe=>W e.symm
  simp only[bq.lt,kg,aP W,aP Q,jR,gD,cz];omega
def ZN{W:Bool}{X:ar}(V:Y X<=1099511627776)(h:zD X):jA (.lex [0] E) W X=U (bX (bq.lex [0] E).lt X):=by
 simp only[jA];rw[aL (by simp[V,atn h,bq.ok])]
def aBZ{rows:ar}(X:Y rows<=1099511627776)(h:∀x∈rows,ga (aN 10 x) (aN 11 x)=J):jA (.ratio 10 11) J rows=U (bX (bq.ratio 10 11).lt rows):=by
 simp only[jA];rw[aL (by simp only[aA,cz,axo,and_true];exact⟨X,f9.2 h⟩)]
structure dB where
 cW:Int
 cD:Int
 cA:Int
 cB:Int
 cC:Int
 cO:Int
 cr0:RV
 ct0:RV
 cp0:RV
 lg:RV
 cg0:RV
section
variable[Inhabited dB]
def tX:Int:=(default:dB).cW
def tY:Int:=(default:dB).cD
def NU:Int:=(default:dB).cA
def NV:Int:=(default:dB).cB
def SQ:Int:=(default:dB).cC
def eu:Int:=(default:dB).cO
def az:RV:=(default:dB).cr0
def mb:RV:=(default:dB).ct0
def nq:RV:=(default:dB).cp0
def nu:RV:=(default:dB).lg
def bE:RV:=(default:dB).cg0
end
structure NW[Inhabited dB]:Prop where
 nr:1<=Y az.ae/\Y az.ae<=64
 ns:Y bE.ae<=4096
 br:1<=eu/\eu<=4096
 wd:1<=tX/\tX<=1000/\1<=tY/\tY<=1000
 tp:NT mb
 HE:∀i<Y bE.ae,kh (Y az.ae) eu (ci bE i)
 id:∀i<Y bE.ae,0<=ci bE i 0/\ci bE i 0<=1048576
 ids:∀i j,i<j->j<Y bE.ae->ci bE i 0<ci bE j 0
structure gc[Inhabited dB]:Prop where
 rl:Sl az
 tp:Sl mb
 ps:Sl nq
 sp:Sl nu
 sg:Sl bE
section
variable{R:bv->Prop}{d:aY}{t:T}{O:ai}{L:dE}
variable[Inhabited dB]
def wk:bn:=[.i tX,.i tY,.i NU,.i NV,.i SQ,.r az,.i eu,.r mb,.r nq,.r nu,.r bE]
def HF:Prop:=∀(eu:Int)(mb nq nu:RV),Sl mb->Sl nq->Sl nu->TB.Ev 81 [.i eu,.r mb,.r nq,.r nu] (.ret [.i (oi 81 [.i eu,.r mb,.r nq,.r nu] 0)])/\(oi 81 [.i eu,.r mb,.r nq,.r nu] 0=0->NT mb/\1<=eu/\eu<=4096)
def t37(F:HF)(h:gc):∃o,TB.Ev 37 wk o/\∃e,o=.ret [.i e]/\(e=0->NW):=by
 refine dR ?_;obtain⟨D,B⟩:=F eu mb nq nu h.tp h.ps h.sp;simp[Zt,wk,h.rl.len,h.sg.len,aT D]
 repeat'(first|intro _|split)
 any_goals(exfalso;omega)
 obtain⟨A,q,p⟩:=B eS;refine cP (Y az.ae) (λ_ P=>P=[]) ⟨0,rfl,aa,rfl⟩ ?_;rintro i _ X rfl;simp[h.rl.len];split;rename_i X;simp[cu X h.rl.sm,X];refine cP (Y bE.ae) (λi P=>∃V:Int,P=[.i V]∧-1<=V/\(∀k<i,kh (Y az.ae) eu (ci bE k)/\0<=ci bE k 0/\ci bE k 0<=V/\ci bE k 0<=1048576)/\∀j k,j<k->k<i->ci bE j 0<ci bE k 0) ⟨0,rfl,aa,-1,rfl,aa,aa,aa⟩ ?_;rintro j _ N ⟨V,rfl,n,W,M⟩;simp[h.rl.len,h.sg.len];split;rename_i N;refine⟨N,λm l=> ?_⟩;obtain⟨H,Q⟩:=f84 (ci bE j) (Y az.ae) eu aa aa;simp only[bG,ci,da,di] at H Q;rw[aT H];simp[cu N h.sg.sm];intro z;have Q:=Q z;refine⟨aa,λk g=> ?_,λa b G f=> ?_⟩;by_cases y:k=j;subst y;refine⟨Q, ?_, ?_, ?_⟩<;>simp only[ci]<;>omega;obtain⟨x,w,v,u⟩:=W k aa;exact⟨x,w,by simp only[ci] at v⊢;omega,u⟩;by_cases s:b=j;subst s;have:=(W a G).2.2.1;simp only[ci] at this⊢;omega;exact M a b G aa;have r:j=Y bE.ae:=aa;subst r;have d:Y az.ae≠0:=λe=>aG (wS.1 e) eS
 exact⟨aa,aa,aa,aa,A,λi X=>(W i X).1,λi X=>⟨(W i X).2.1,(W i X).2.2.2⟩,M⟩
end
end
section
variable{R:bv->Prop}{a:aY}{t:T}{O:ai}{L:dE}
def t81(W:Int)(Q N M:RV)(P:Sl Q)(H:Sl N)(G:Sl M):∃o,TB.Ev 81 [.i W,.r Q,.r N,.r M] o/\∃e,o=.ret [.i e]/\(e=0->NT Q/\1<=W/\W<=4096):=by
 refine SN rfl rfl (.inr λv D=>by obtain⟨_,h,_⟩:=D;cases h) ?_;simp[Zz,P.len,H.len,G.len]
 repeat'(first|intro _|split)
 refine⟨eS, ?_⟩;intro B;have A:0<Y Q.ae:=eS;have F:NT Q:=⟨P,A,by simpa[ci] using B⟩;have z:1<=W/\W<=4096:=aa;refine cP (Y Q.ae) (λ_ V=>∃n:Int,V=[.i n]) ⟨0,rfl,aa,_,rfl⟩ ?_;rintro i _ X ⟨n,rfl⟩;simp[P.len];split;rename_i X;simp[cu X P.sm,X];refine cP W.toNat (λ_ V=>V=[]) ⟨0,rfl,aa,rfl⟩ ?_;rintro i _ X rfl;simp;split;rename_i X;have y:i<W.toNat:=aa;rw[aBY _ _ _ _ _ F aa];simp[cu y (show W.toNat<=140737488355328 from aa)];refine cP (Y N.ae) (λ_ V=>∃n:Int,V=[.i n]) ⟨0,rfl,aa,_,rfl⟩ ?_;rintro i _ X ⟨n,rfl⟩;simp[H.len];split;rename_i X;simp[cu X H.sm,X];refine cP (Y M.ae) (λ_ V=>V=[]) ⟨0,rfl,aa,rfl⟩ ?_;rintro i _ X rfl;simp[G.len];split;rename_i X;simp[cu X G.sm,X];exact⟨F,z⟩
def sy:HF:=λX W V Q P N M=>tV (t81 X W V Q P N M)

variable[Inhabited dB]
@[simp] def wG (c:Nat->Int) (j:Nat) (h:j<14):aN j (nl c)=c j:=by
 match j,h with
 |0,_|1,_|2,_|3,_|4,_|5,_|6,_|7,_|8,_|9,_|10,_|11,_|12,_|13,_=>rfl
def kR(av ah:Int):Nat->ar
 |0=>[]
 |i+1=>kR av ah i++(if ci bE i 1=av/\ci bE i 2=ah then[nl (ci bE i)] else[])
def SR{av ah:Int}:∀i,(kR av ah i).length<=i
 |0=>by simp[kR]
 |i+1=>by
  have:=SR (av:=av) (ah:=ah) i;simp only[kR,gU];split<;>simp<;>omega
def SS{av ah:Int}{x:aM}:∀{i},x∈kR av ah i<->∃k<i,x=nl (ci bE k)/\ci bE k 1=av/\ci bE k 2=ah
 |0=>by simp[kR]
 |i+1=>by
  simp only[kR,fh,SS (i:=i)];constructor;rintro(⟨k,V,X⟩|h);exact⟨k,aa,X⟩;split at h;rename_i Q;simp at h;exact⟨i,aa,h,Q⟩;simp at h;rintro⟨k,V,X,W⟩;by_cases P:k=i;subst P;right;rw[aL W];simp[X];exact .inl ⟨k,aa,X,W⟩
def ato{av ah:Int}(h:∀i j,i<j->j<Y bE.ae->ci bE i 0<ci bE j 0):∀{i},i<=Y bE.ae->zD (kR av ah i)
 |0,_=>yq
 |i+1,Q=>by
  simp only[kR,zD,nW];refine⟨ato h aa,by split<;>simp,λx W y X=> ?_⟩;obtain⟨k,V,rfl,-⟩:=(SS).1 W;split at X;simp at X;subst X;rw[wG _ _ aa,wG _ _ aa];have:=h k i V aa;omega;simp at X
def iD:Int:=oi 37 wk 0
def gf(av ah:Int):Int:=if iD=0 then(if jm av 0 (Y az.ae-1)&&jm ah 0 (eu-1) then 0 else 1) else iD
def ck(av ah:Int):ar:=if gf av ah=0 then bX (bq.ratio 10 11).lt (kR av ah (Y bE.ae)) else[]
def yf(X:HF)(h:gc):TB.Ev 37 wk (.ret [.i iD])/\(iD=0->NW):=tV (t37 X h)
def SU(G:HF)(h:gc)(av ah:Int):TB.Ev 77 (wk++[.i av,.i ah]) (.ret [.r (aI (ck av ah)),.i (gf av ah)]):=by
 refine ce ?_;obtain⟨W,F⟩:=yf G h;simp only[wk] at W;simp[T77,wk,h.rl.len,aT W];split
 case isFalse X=>
  simp[ck,gf,X]
 rename_i X;have V:=F X;have w:=V.nr;have v:=V.br;rw[show ay .sub I (Y az.ae:Int) 1=Y az.ae-1 by simp only[ay];rw[bO aa aa],show ay .sub I eu 1=eu-1 by simp only[ay];rw[bO aa aa]];split
 case isFalse Q=>
  simp[ck,gf,X,Q]
 rename_i Q;split
 case isFalse N=>
  simp[ck,gf,X,Q,N]
 rename_i N;refine cP (Y bE.ae) (λi D=>D=[.r (aI (kR av ah i))]) ⟨0,rfl,aa,rfl⟩ ?_;rintro i _ M rfl;have dH:=SR (av:=av) (ah:=ah) i;have u:=V.ns;simp[h.sg.len];split;rename_i M;simp[cu M h.sg.sm,kR,ci,M];have s:(kR av ah i).length<=536870912:=aa;split;rename_i P;split;rename_i H;simp[P,H,nl,ci];omega;rename_i H;simp[P,H];rename_i P;simp[P];have B:i=Y bE.ae:=aa;subst B;have A:=aBZ (rows:=kR av ah (Y bE.ae)) (by have:=SR (av:=av) (ah:=ah) (Y bE.ae);have:=h.sg.sm;omega) (λx z=>by
  obtain⟨k,W,rfl,-⟩:=(SS).1 z;rw[wG _ _ aa,wG _ _ aa];exact(V.HE k W).from_)
 simp only[Bj,Bk];refine⟨_,A, ?_⟩;have y:gf av ah=0:=by simp[gf,X,Q,N]
 simp[ck,y,aI,lZ]
def atp{av ah:Int}(Q:iD=0->NW){x:aM}(X:x∈ck av ah):∃k<Y bE.ae,x=nl (ci bE k)/\ci bE k 1=av/\ci bE k 2=ah/\kh (Y az.ae) eu (ci bE k):=by
 unfold ck at X;split at X;rename_i W;have P:iD=0:=by
  unfold gf at W;split at W;assumption;exact W
 obtain⟨k,V,N,M,H⟩:=(SS).1 ((Df _).mem_iff.1 X);exact⟨k,V,N,M,H,(Q P).HE k V⟩;simp at X
def atq{av ah:Int}(W:iD=0->NW):zD (ck av ah):=by
 unfold ck;split;rename_i X;have V:iD=0:=by
  unfold gf at X;split at X;assumption;exact X
 exact(ato (W V).ids (cg _)).perm (Df _);exact yq
def atr{av ah:Int}(W:iD=0->NW):(ck av ah).length<=4096:=by
 unfold ck;split;rename_i X;have V:iD=0:=by
  unfold gf at X;split at X;assumption;exact X
 rw[lZ];have:=SR (av:=av) (ah:=ah) (Y bE.ae);have:=(W V).ns;omega;simp
end
section
variable{R:bv->Prop}{a:aY}{t:T}{O:ai}{L:dE}
def aB6(c:Nat->Int)(x y z:Int)(b:Bool):∃o,TB.Ev 225 (bG c++[.i x,.i y,.i z,.b b]) o/\∃e,o=.ret [.b e]/\(e=J->x=c 0):=by
 refine dR ?_;simp[Zv,bG]
 repeat' split
 all_goals(intros;grind [jm])
def ats(c:Nat->Int)(x y z:Int)(b:Bool):TB.Ev 225 (bG c++[.i x,.i y,.i z,.b b]) (.ret [.b (ob 225 (bG c++[.i x,.i y,.i z,.b b]) 0)])/\(ob 225 (bG c++[.i x,.i y,.i z,.b b]) 0=J->x=c 0):=ZM (aB6 c x y z b)
def Ff(c:Nat->Int)(r:RV)(k:Nat):aM:=nl c++[.mk (.int I (ci r k 0)) [],.mk (.int I (ci r k 1)) [],.mk (.int I (ci r k 2)) [],.mk (.bool (cb r k 3)) []]
def bu(X:ar)(i j:Nat):Int:=bp (aZ X i j).val
def qD(l:ar)(r:RV)(n:Nat)(out:ar):Prop:=Y out=n/\∀i<n,∃k<Y r.ae,out[i]?=U (Ff (bu l i) r k)/\ci r k 0=bu l i 0
def qD.add{l:ar}{r:RV}{n:Nat}{out:ar}(h:qD l r n out){k:Nat}(X:k<Y r.ae)(hid:ci r k 0=bu l n 0):qD l r (n+1) (out++[Ff (bu l n) r k]):=by
 refine⟨by simp[h.1],λi M=> ?_⟩;by_cases W:i=n;subst W;refine⟨k,X, ?_,hid⟩;rw[jd (by rw[h.1];omega),h.1];simp;obtain⟨V,Q,P,N⟩:=h.2 i aa;exact⟨V,Q,by rw[dZ (by rw[h.1];omega)];exact P,N⟩
def aB7(l:ar)(r:RV)(W:Sl r)(B:Y l<=4096)(G:zD l)(N:0<Y l):∃o,TB.Ev 155 [.r (aI l),.r r] o/\∃v b,o=.ret [.r (aI v),.b b]/\(b=E->v=[])/\(b=J->qD l r (Y l) v):=by
 refine dR ?_;simp[SD,W.len];intro F;simp only[Fc];refine⟨.inl rfl,λ_=> ?_,λh=> ?_,λ_ h=> ?_⟩;simp;refine⟨aa, ?_⟩;simp only[Bj,Bk];refine⟨_,ZN dh (by simpa using G), ?_⟩;simp;have A:(bX (bq.lex [0] E).lt l).length=Y l:=lZ;refine cP (Y l) (λi V=>∃v,V=[.r (aI v)]/\qD l r i v) ⟨0,rfl,aa,[],rfl,rfl,aa⟩ ?_;rintro i _ Q ⟨v,rfl,P⟩;simp;split;rename_i Q;refine⟨Q, ?_⟩;refine cP (Y l) (λj V=>V=[.r (aI v)]) ⟨0,rfl,aa,rfl⟩ ?_;rintro j _ X rfl;simp[W.len];intro X;have z:=P.1;simp[cu X (show Y l<=140737488355328 from aa)];refine⟨X,λy=>⟨aa, ?_⟩⟩;obtain⟨M,H⟩:=ats (bu l i) (ci r j 0) (ci r j 1) (ci r j 2) (cb r j 3);simp only[bG,bu,ci,cb,da,di] at M H;rw[aT M];simp[cu X (show Y l<=140737488355328 from aa),cu Q (show Y l<=140737488355328 from aa),<-F,W.len];intro D;refine⟨X,aa, ?_⟩;have:=P.add (k:=j) aa (H D);exact⟨_,rfl,this⟩;have:i=Y l:=aa;subst this;exact⟨_,rfl,P⟩;simp at h;simp[h] at N;simp at h;simp[h] at N
def att(r:RV)(Q:Sl r):TB.Ev 155 [.r (aI []),.r r] (.ret [.r (aI []),.b (Y r.ae==0)]):=by
 refine ce ?_;simp[SD,Q.len];split
 case isFalse h=>
  intro e;simp[e] at h
 rename_i h;have W:Y r.ae=0:=aa;have V:jA (bq.lex [0] E) E []=U []:=rfl;simp only[Fc,Bj,Bk];refine⟨.inl rfl,λ_=> ?_,λ_=> ?_,λ_ _=>single (V5 _)⟩
 ·try simp
  try simp only[Bj,Bk]
  refine⟨_,by simpa using V, ?_⟩;refine cP 0 (λi X=>X=[.r (aI [])]) ⟨0,rfl,aa,rfl⟩ ?_;rintro i _ P rfl;have:i=0:=aa;simp[W,this]
 ·try simp
  try simp only[Bj,Bk]
  refine⟨_,by simpa using V, ?_⟩;refine cP 0 (λi X=>X=[.r (aI [])]) ⟨0,rfl,aa,rfl⟩ ?_;rintro i _ P rfl;have:i=0:=aa;simp[W,this]
def atu(l:ar)(r:RV)(X:Sl r)(W:Y l<=4096)(V:zD l):∃o,TB.Ev 155 [.r (aI l),.r r] o/\∃v b,o=.ret [.r (aI v),.b b]/\(b=E->v=[])/\(b=J->qD l r (Y l) v):=by
 cases l with
 |nil=>exact⟨_,att r X,[],Y r.ae==0,rfl,λ_=>rfl,λ_=>⟨rfl,aw⟩⟩
 |cons x l=>exact aB7 (x::l) r X W V aw
end
def nx(g:aY)(h:∃o,TB.Ev X W o/\∃V,o=.ret V/\jX g V=J):TB.Ev X W (.ret (qC (out X W) g 0)):=by
 obtain⟨o,Q,V,N,M⟩:=h;exact(shp g (P:=λ_=>True) ⟨o,Q,V,N,M,trivial⟩).1
def kI:Nat->aY
 |0=>[]
 |n+1=>.int I::kI n
@[simp] def Bm:kI 0=[]:=rfl
@[simp] def Bn (n:Nat):kI (n+1)=.int I::kI n:=rfl
section
variable{R:bv->Prop}{g:aY}{t:T}{O:ai}{L:dE}
def aB8(a b:Int):∃o,TB.Ev 138 [.i a,.i b] o/\∃X,o=.ret X/\jX (kI 2) X=true:=by
 refine dR ?_;simp[NO]
@[simp] def aLj (a b:Int):fZ TB.Ev R 138 [.i a,.i b] g t O L=f8 TB.Ev R (.ret [.i (oi 138 [.i a,.i b] 0),.i (oi 138 [.i a,.i b] 1)]) g t O L:=aT (nx _ (aB8 a b))
def aB9(a b:Int):∃o,TB.Ev 139 [.i a,.i b] o/\∃X,o=.ret X/\jX (kI 4) X=true:=by
 refine dR ?_;simp[NP]
 repeat'(first|intro _|split)
 have W:lenOf (j7[2]?.getD default).val=8:=rfl;rw[show ay .sub I a 1=a-1 by simp only[ay];exact bO aa aa,W];omega
@[simp] def aLk (a b:Int):fZ TB.Ev R 139 [.i a,.i b] g t O L=f8 TB.Ev R (.ret [.i (oi 139 [.i a,.i b] 0),.i (oi 139 [.i a,.i b] 1),.i (oi 139 [.i a,.i b] 2),.i (oi 139 [.i a,.i b] 3)]) g t O L:=aT (nx _ (aB9 a b))
def aCa(a:Int):∃o,TB.Ev 376 [.i a] o/\∃X,o=.ret X/\jX (kI 3) X=true:=by
 refine dR ?_;simp[Zj]
 repeat'(first|intro _|split)
 have W:lenOf (j7[2]?.getD default).val=8:=rfl;rw[show ay .sub I a 1=a-1 by simp only[ay];exact bO aa aa,W];omega
@[simp] def aLl (a:Int):fZ TB.Ev R 376 [.i a] g t O L=f8 TB.Ev R (.ret [.i (oi 376 [.i a] 0),.i (oi 376 [.i a] 1),.i (oi 376 [.i a] 2)]) g t O L:=aT (nx _ (aCa a))
def aCb(a b c d e f:Int):∃o,TB.Ev 361 [.i a,.i b,.i c,.i d,.i e,.i f] o/\∃X,o=.ret X/\jX (kI 2) X=true:=by
 refine dR ?_;simp[agO]
@[simp] def aLm (a b c d e f:Int):fZ TB.Ev R 361 [.i a,.i b,.i c,.i d,.i e,.i f] g t O L=f8 TB.Ev R (.ret [.i (oi 361 [.i a,.i b,.i c,.i d,.i e,.i f] 0),.i (oi 361 [.i a,.i b,.i c,.i d,.i e,.i f] 1)]) g t O L:=aT (nx _ (aCb a b c d e f))
def aCc(a b c:Int):∃o,TB.Ev 248 [.i a,.i b,.i c] o/\∃X,o=.ret X/\jX (kI 3) X=true:=by
 refine dR ?_;simp[agP]
@[simp] def aLn (a b c:Int):fZ TB.Ev R 248 [.i a,.i b,.i c] g t O L=f8 TB.Ev R (.ret [.i (oi 248 [.i a,.i b,.i c] 0),.i (oi 248 [.i a,.i b,.i c] 1),.i (oi 248 [.i a,.i b,.i c] 2)]) g t O L:=aT (nx _ (aCc a b c))
def aCd(s:RV)(b:Int):∃o,TB.Ev 272 [.r s,.i b] o/\∃X,o=.ret X/\jX (kI 1) X=true:=by
 cases W:s.val with
 |string u=>exact⟨_,ad6 (by simp only[TB,Kc,ZK,W];rfl),_,rfl,rfl⟩
 |_=>exact⟨_,ad6 (by simp only[TB,Kc,ZK,W];rfl),_,rfl,rfl⟩
@[simp] def aLo (s:RV) (b:Int):fZ TB.Ev R 272 [.r s,.i b] g t O L=f8 TB.Ev R (.ret [.i (oi 272 [.r s,.i b] 0)]) g t O L:=aT (nx _ (aCd s b))
def aCe(a:Int):∃o,TB.Ev 207 [.i a] o/\∃X,o=.ret X/\jX (kI 1) X=true:=by
 refine dR ?_;simp[Zw]
@[simp] def aLp (a:Int):fZ TB.Ev R 207 [.i a] g t O L=f8 TB.Ev R (.ret [.i (oi 207 [.i a] 0)]) g t O L:=aT (nx _ (aCe a))
def nT(v:RV):Prop:=∃s,v.val=.string s
def yg(v:RV):nT (db .str v):=by
 simp only[db];split<;>exact⟨_,rfl⟩
def aCf(s:RV)(Q:nT s):∃o,TB.Ev 135 [.r s] o/\∃W,o=.ret W/\jX [.bool] W=true:=by
 refine dR ?_;obtain⟨u,V⟩:=Q;simp[Zu,V,uq,lenOf];intro P G;have N:0<u.size:=by
  rcases BG u.size with h|h;exfalso;apply P;have M:u=ByteArray.empty:=by simpa using h
  rw[M,ByteArray.toList,ByteArray.toList.loop];simp;exact h
 refine⟨N,λ_=> ?_⟩;refine cP u.size (λ_ H=>H=[]) ⟨0,rfl,aa,rfl⟩ ?_;rintro i _ X rfl;simp[V,lenOf];intro X;simp[cu X (show u.size<=140737488355328 from aa),X]
def ahP(s:RV)(X:nT s):fZ TB.Ev R 135 [.r s] g t O L=f8 TB.Ev R (.ret [.b (ob 135 [.r s] 0)]) g t O L:=aT (nx [.bool] (aCf s X))
def t74(W V a2 Q P a5 a6 a7 a8 N M eD eF:Int):∃o,TB.Ev 74 [.i W,.i V,.i a2,.i Q,.i P,.i a5,.i a6,.i a7,.i a8,.i N,.i M,.i eD,.i eF] o/\∃X,o=.ret X/\jX (kI 1) X=true:=by
 refine dR ?_;simp[SE]
def vc(X W a2 V Q a5 a6 a7 a8 P N eD eF:Int):Int:=oi 74 [.i X,.i W,.i a2,.i V,.i Q,.i a5,.i a6,.i a7,.i a8,.i P,.i N,.i eD,.i eF] 0
@[simp] def c74 (X W a2 V Q a5 a6 a7 a8 P N eD eF:Int):fZ TB.Ev R 74 [.i X,.i W,.i a2,.i V,.i Q,.i a5,.i a6,.i a7,.i a8,.i P,.i N,.i eD,.i eF] g t O L=f8 TB.Ev R (.ret [.i (vc X W a2 V Q a5 a6 a7 a8 P N eD eF)]) g t O L:=aT (nx _ (t74 X W a2 V Q a5 a6 a7 a8 P N eD eF))
def t75(s:RV)(W:nT s)(V Q a2 P N a5 a6 a7 a8 M H eD eF X G F:Int):∃o,TB.Ev 75 [.r s,.i V,.i Q,.i a2,.i P,.i N,.i a5,.i a6,.i a7,.i a8,.i M,.i H,.i eD,.i eF,.i X,.i G,.i F] o/\∃e,o=.ret [.i e]/\(e=0->(1<=eD/\eD<=3)/\(1<=eF/\eF<=3)/\1<=X/\X<=3):=by
 refine dR ?_;simp[SF,ahP s W];intros;omega
def wH(s:RV)(X W a2 V Q a5 a6 a7 a8 P N eD eF M H G:Int):Int:=oi 75 [.r s,.i X,.i W,.i a2,.i V,.i Q,.i a5,.i a6,.i a7,.i a8,.i P,.i N,.i eD,.i eF,.i M,.i H,.i G] 0
def f75(s:RV)(F:nT s)(W V a2 Q P a5 a6 a7 a8 N M eD eF X H G:Int):TB.Ev 75 [.r s,.i W,.i V,.i a2,.i Q,.i P,.i a5,.i a6,.i a7,.i a8,.i N,.i M,.i eD,.i eF,.i X,.i H,.i G] (.ret [.i (wH s W V a2 Q P a5 a6 a7 a8 N M eD eF X H G)])/\(wH s W V a2 Q P a5 a6 a7 a8 N M eD eF X H G=0->(1<=eD/\eD<=3)/\(1<=eF/\eF<=3)/\1<=X/\X<=3):=tV (t75 s F W V a2 Q P a5 a6 a7 a8 N M eD eF X H G)
def HG(s:RV)(F:nT s)(X W a2 V Q a5 a6 a7 a8 P N eD eF M H G:Int):fZ TB.Ev R 75 [.r s,.i X,.i W,.i a2,.i V,.i Q,.i a5,.i a6,.i a7,.i a8,.i P,.i N,.i eD,.i eF,.i M,.i H,.i G] g t O L=f8 TB.Ev R (.ret [.i (wH s X W a2 V Q a5 a6 a7 a8 P N eD eF M H G)]) g t O L:=aT (f75 s F X W a2 V Q a5 a6 a7 a8 P N eD eF M H G).1
def t27(W V Q P N M H G F D B A z:Int)(s:RV)(y:nT s)(x w a2 v u a5 a6 a7 a8 q p eD eF n m l:Int):∃o,TB.Ev 27 [.i W,.i V,.i Q,.i P,.i N,.i M,.i H,.i G,.i F,.i D,.i B,.i A,.i z,.r s,.i x,.i w,.i a2,.i v,.i u,.i a5,.i a6,.i a7,.i a8,.i q,.i p,.i eD,.i eF,.i n,.i m,.i l] o/\∃X,o=.ret X/\jX (kI 5) X=true:=by
 refine dR ?_;simp(maxSteps:=9999999) [Fb,HG s y]
end
section
variable{R:bv->Prop}{a:aY}{t:T}{O:ai}{L:dE}
variable[Inhabited dB]
structure SX:Prop where
 rl:lenOf az.val<=100
 tp:lenOf mb.val<=64
 ps:lenOf nq.val<=64
 sp:lenOf nu.val<=64
 sg:lenOf bE.val<=5000
def t33:∃o,TB.Ev 33 wk o/\∃b,o=.ret [.b b]/\(b=J->SX):=by
 refine dR ?_;by_cases h:lenOf az.val<=100/\lenOf mb.val<=64/\lenOf nq.val<=64/\lenOf nu.val<=64/\lenOf bE.val<=5000
 ·have X:SX:=⟨h.1,h.2.1,h.2.2.1,h.2.2.2.1,h.2.2.2.2⟩;simp[Zs,wk,X];intros
  repeat' split
  all_goals(intros;omega)
 ·have X:¬SX:=λf=>h ⟨f.rl,f.tp,f.ps,f.sp,f.sg⟩
  simp[Zs,wk,X];intros
  repeat' split
  all_goals(intros;omega)
def f33:TB.Ev 33 wk (.ret [.b (ob 33 wk 0)])/\(ob 33 wk 0=J->SX):=ZM t33
def cr(e:TypeId)(v:RV)(i:Nat):RV:=db (.sl e) (aZ v.ae i 0)
structure aCl(wg bd st re:RV):Prop where
 few:SX
 wg:lenOf wg.val<=20
 bd:lenOf bd.val<=100
 st:lenOf st.val<=100
 rel:lenOf re.val<=100
 jf:∀i:Nat,i<lenOf re.val->lenOf (cr 96 re i).val<=100
def aCm(X:RV)(M:lenOf X.val<=100)(H:0<=lenOf X.val){aC:Nat}{L:dE}{O:ai}{t:T}{a:aY}{V:ap}
  (Q:V.map (C.xv O)=[.i 0])
  (P:∀(i:Nat),i<=lenOf X.val->(∀k<i,lenOf (cr 96 X k).val<=100)->t.wp TB.Ev R (O.ext [.i i]) (⟨aC,Bl (lenOf X.val).toNat (λi W=>W=[]/\∀k<i,lenOf (cr 96 X k).val<=100),zC (lenOf X.val).toNat,(lenOf X.val).toNat-i⟩::L)):
  T.wp TB.Ev R (.loop aC a V t) O L:=by
 refine cP (lenOf X.val).toNat (λi W=>W=[]/\∀k<i,lenOf (cr 96 X k).val<=100) (by rw[Q];exact⟨0,rfl,aa,rfl,aa⟩) ?_;rintro i _ G ⟨rfl,N⟩;exact P i aa N
def t12(V Q P X:RV)(G:0<=lenOf X.val):∃o,TB.Ev 12 (wk++[.r V,.r Q,.r P,.r X]) o/\∃b,o=.ret [.b b]/\(b=J->aCl V Q P X):=by
 refine dR ?_;obtain⟨N,M⟩:=f33;simp only[wk] at N M;simp[T12,wk,aT N];intro W;have W:=M W
 repeat'(first|intro _|split)
 all_goals
  refine aCm X ?_ G ?_ ?_;omega;rfl;intro i y H;simp;split;rename_i F;have D:i<(lenOf X.val).toNat:=aa;rw[cu D aa];refine⟨aa,λB=>⟨rfl,λk A=> ?_⟩⟩;by_cases z:k=i;subst z;simp only[cr];exact B;exact H k aa;rename_i F;exact⟨W,aa,aa,aa,aa,λk A=>H k aa⟩
def e65(V:HF)(h:gc)(ah:Int):TB.Ev 65 (wk++[.i ah]) (.ret [.i (if iD=0 then(if jm ah 0 (eu-1) then 0 else 1) else iD)]):=by
 refine ce ?_;obtain⟨W,Q⟩:=yf V h;simp only[wk] at W;simp[T65,wk,aT W];split;rename_i X;have:=(Q X).br;rw[show ay .sub I eu 1=eu-1 by simp only[ay];rw[bO aa aa]];split<;>simp_all;rename_i X;simp[X]
def pT(c:Nat->Int):bn:=[.i (c 0),.i (c 1),.i (c 2),.i (c 3),.i (c 4),.i (c 5),.i (c 6),.i (c 7)]
def t25(c:Nat->Int)(ah:Int):∃o,TB.Ev 25 (pT c++[.i ah]) o/\∃X,o=.ret X/\jX (kI 5) X=true:=by
 refine dR ?_;simp[NQ,pT]
def ny(c:Nat->Int)(ah:Int)(k:Nat):Int:=oi 25 (pT c++[.i ah]) k
def f25(c:Nat->Int)(ah:Int):TB.Ev 25 (pT c++[.i ah]) (.ret [.i (ny c ah 0),.i (ny c ah 1),.i (ny c ah 2),.i (ny c ah 3),.i (ny c ah 4)]):=nx _ (t25 c ah)

def aCp(M:HF)(h:gc)(av ah:Int)(r:RV)(V:Sl r)(H:0<(ck av ah).length):∃o,TB.Ev 85 (wk++[.i av,.i ah,.r r]) o/\∃e,o=.ret [.i e]/\(e=0->gf av ah=0/\∃v,qD (ck av ah) r (ck av ah).length v):=by
 refine dR ?_;have G:=SU M h av ah;have F:=(yf M h).2;have x:=atr (av:=av) (ah:=ah) F;have A:=atq (av:=av) (ah:=ah) F;simp only[wk,da,di] at G;generalize ck av ah=l at*;generalize gf av ah=e at*;simp[SH,wk,aT G,V.len];split
 case isFalse W=>simp[W]
 rename_i W;intro z;rw[Fc];refine⟨.inl rfl,λ_=> ?_,λh=> ?_,λ_ h=> ?_⟩;simp;refine⟨aa, ?_⟩
 first|rw[Bj]|rw[Bk]
 refine⟨_,ZN dh (by simpa using A), ?_⟩;simp;have w:(bX (bq.lex [0] E).lt l).length=Y l:=lZ;refine cP (Y l) (λi Q=>∃v,Q=[.r (aI v)]/\qD l r i v) ⟨0,rfl,aa,[],rfl,rfl,aa⟩ ?_;rintro i _ P ⟨v,rfl,N⟩;simp;split;rename_i P;refine⟨P, ?_⟩;refine cP (Y l) (λj Q=>Q=[.r (aI v)]) ⟨0,rfl,aa,rfl⟩ ?_;rintro j _ X rfl;simp[V.len];intro X;have u:=N.1;simp[cu X (show Y l<=140737488355328 from aa)];refine⟨X,λW=>⟨aa, ?_⟩⟩;obtain⟨D,B⟩:=ats (bu l i) (ci r j 0) (ci r j 1) (ci r j 2) (cb r j 3);simp only[bG,bu,ci,cb,da,di] at D B;rw[aT D];simp[cu X (show Y l<=140737488355328 from aa),cu P (show Y l<=140737488355328 from aa),<-z,V.len];intro y;refine⟨X,aa, ?_⟩;have:=N.add (k:=j) aa (B y);exact⟨_,rfl,this⟩;have:i=Y l:=aa;subst this;exact⟨W,v,N⟩;simp at h;simp[h] at H;simp at h;simp[h] at H
def atw(N:HF)(h:gc)(av ah:Int)(r:RV)(M:Sl r)(H:ck av ah=[]):TB.Ev 85 (wk++[.i av,.i ah,.r r]) (.ret [.i (if gf av ah≠0 then gf av ah else if Y r.ae=0 then 0 else 270)]):=by
 refine ce ?_;have W:=SU N h av ah;rw[H] at W;simp only[wk,da,di] at W;generalize gf av ah=e at*;simp[SH,wk,aT W,M.len];split
 case isFalse X=>simp[X]
 rename_i X;split
 case isFalse h=>
  simp;intro e;simp[e] at h
 rename_i h;have Q:r.ae=[]:=wS.1 aa;have P:jA (bq.lex [0] E) E []=U []:=rfl;simp only[Fc,Bj,Bk];refine⟨.inl rfl,λ_=> ?_,λ_=> ?_,λ_ _=>single (V5 _)⟩
 ·try simp
  try simp only[Bj,Bk]
  refine⟨_,by simpa using P, ?_⟩;refine cP 0 (λi V=>V=[.r (aI [])]) ⟨0,rfl,aa,rfl⟩ ?_;rintro i _ G rfl;have:i=0:=aa;simp[Q,X,this]
 ·try simp
  try simp only[Bj,Bk]
  refine⟨_,by simpa using P, ?_⟩;refine cP 0 (λi V=>V=[.r (aI [])]) ⟨0,rfl,aa,rfl⟩ ?_;rintro i _ G rfl;have:i=0:=aa;simp[Q,X,this]
def t85(W:HF)(h:gc)(av ah:Int)(r:RV)(V:Sl r):∃o,TB.Ev 85 (wk++[.i av,.i ah,.r r]) o/\∃e,o=.ret [.i e]/\(e=0->gf av ah=0/\∃v,qD (ck av ah) r (ck av ah).length v):=by
 by_cases X:ck av ah=[];refine⟨_,atw W h av ah r V X,_,rfl,λQ=> ?_⟩;split at Q;rename_i P;exact aG Q P;rename_i P;exact⟨aa,[],by rw[X];exact⟨rfl,aw⟩⟩;exact aCp W h av ah r V (T2.2 X)
end
def ax{c:Prop}[Decidable c]{A B:Prop}(X:c->A)(W:¬c->B):if c then A else B:=by
 by_cases h:c;rw[aL h];exact X h;rw[aP h];exact W h
section
variable{R:bv->Prop}{g:aY}{t:T}{O:ai}{L:dE}
variable[Inhabited dB]
def V8(x:Int):Prop:=-841<=x/\x<=841
def aCq(a b:Int):∃o,TB.Ev 139 [.i a,.i b] o/\∃X,o=.ret X/\V8 (xi X 0)/\V8 (xi X 1):=by
 refine dR ?_;simp[NP,V8,xi]
 repeat'(first|intro _|split)
 all_goals
  try
   have W:lenOf (j7[2]?.getD default).val=8:=rfl;rw[show ay .sub I a 1=a-1 by simp only[ay];exact bO aa aa,W];have V:a=1\/a=2\/a=3\/a=4\/a=5\/a=6\/a=7\/a=8:=aa;refine⟨aa,aa, ?_⟩;rcases V with rfl|rfl|rfl|rfl|rfl|rfl|rfl|rfl<;>decide
 all_goals simp
def NX(a b:Int):V8 (oi 139 [.i a,.i b] 0)/\V8 (oi 139 [.i a,.i b] 1):=by
 obtain⟨o,X,V,rfl,W⟩:=aCq a b;simp only[oi,De X];exact W
def ZO(s:RV)(F:nT s)(X W a2 V Q a5 a6 a7 a8 P N eD eF M H G:Int)(h:wH s X W a2 V Q a5 a6 a7 a8 P N eD eF M H G=0):(1<=a2/\a2<=4)/\(1<=a5/\a5<=8)/\(1<=a6/\a6<=8)/\1<=a7/\a7<=8:=by
 have D:∃o,TB.Ev 75 [.r s,.i X,.i W,.i a2,.i V,.i Q,.i a5,.i a6,.i a7,.i a8,.i P,.i N,.i eD,.i eF,.i M,.i H,.i G] o/\∃e,o=.ret [.i e]/\(e=0->(1<=a2/\a2<=4)/\(1<=a5/\a5<=8)/\(1<=a6/\a6<=8)/\1<=a7/\a7<=8):=by
  refine dR ?_;simp[SF,ahP s F];intros;omega
 exact(tV D).2 h
def NY{x y m n:Int}(X:-m<=x/\x<=m)(W:-n<=y/\y<=n):-(m*n)<=x*y/\x*y<=m*n:=by
 have V:(x*y).natAbs<=(m*n).natAbs:=by rw[aba,aba];exact Ub aa aa
 have Q:0<=m*n:=Int.mul_nonneg aa aa;omega
def Lm(d l:Int):Prop:=(d=0/\l=0)\/(0<=d/\d<=8/\1<=l/\l<=3)
structure nU(x y f d0 l0 d1 l1 d2 l2 d3 l3 d4 l4:Int):Prop where
 x:-1073741824<=x/\x<=1073741824
 y:-1073741824<=y/\y<=1073741824
 f:0<=f/\f<=7
 m0:Lm d0 l0
 m1:Lm d1 l1
 m2:Lm d2 l2
 m3:Lm d3 l3
 m4:Lm d4 l4
def o7(x y f X W V Q P N M H G F:Int):vc x y f X W V Q P N M H G F=0<->nU x y f X W V Q P N M H G F:=by
 have D:∃o,TB.Ev 74 [.i x,.i y,.i f,.i X,.i W,.i V,.i Q,.i P,.i N,.i M,.i H,.i G,.i F] o/\∃e,o=.ret [.i e]/\(e=0<->nU x y f X W V Q P N M H G F):=by
  refine dR ?_;have B:nU x y f X W V Q P N M H G F<->(-1073741824<=x/\x<=1073741824)/\(-1073741824<=y/\y<=1073741824)/\(0<=f/\f<=7)/\Lm X W/\Lm V Q/\Lm P N/\Lm M H/\Lm G F:=⟨λh=>⟨h.x,h.y,h.f,h.m0,h.m1,h.m2,h.m3,h.m4⟩,λh=>⟨h.1,h.2.1,h.2.2.1,h.2.2.2.1,h.2.2.2.2.1,h.2.2.2.2.2.1,h.2.2.2.2.2.2.1,h.2.2.2.2.2.2.2⟩⟩;rw[B];simp[SE,Lm]
  grind
 exact(tV D).2
end
section
variable{R:bv->Prop}{a:aY}{t:T}{O:ai}{L:dE}
def rS(f:Nat->Int):Prop:=vc (f 0) (f 1) (f 2) (f 3) (f 4) (f 5) (f 6) (f 7) (f 8) (f 9) (f 10) (f 11) (f 12)=0
def Tc(k s j:Int):Prop:=(k=1/\j=s-1)\/(k=2/\(j=0\/j=1))\/(k=3/\j=s-1)\/(k=4/\j=s+1)\/(k=5/\j=4)\/(k=7/\(j=2\/j=3))\/(k=8/\(j=0\/j=1))\/(k=9/\j=s+1)
def ZP(k s:Int)(b:Bool)(X W V Q P N M H G F D B A z y x w v u r q p:Int):Prop:=(b=J\/k≠6->B=X)/\(b=J\/¬Tc k s 0->A=W/\z=V)/\(b=J\/¬Tc k s 1->y=Q/\x=P)/\(b=J\/¬Tc k s 2->w=N/\v=M)/\(b=J\/¬Tc k s 3->u=H/\r=G)/\(b=J\/¬Tc k s 4->q=F/\p=D)
def aty(k s:Int)(b:Bool)(z y x w v u r q p n m:Int)(o:bv):Prop:=∃B A X W V Q P N M H G F D e,o=.ret [.i B,.i A,.i X,.i W,.i V,.i Q,.i P,.i N,.i M,.i H,.i G,.i F,.i D,.i e]/\(e=0->vc B A X W V Q P N M H G F D=0/\ZP k s b z y x w v u r q p n m X W V Q P N M H G F D)
def atz(k s:Int)(b:Bool)(B A z y x w v u r q p o n X W V Q P N M H G F D e:Int):aty k s b B A z y x w v u r q p (.ret [.i o,.i n,.i X,.i W,.i V,.i Q,.i P,.i N,.i M,.i H,.i G,.i F,.i D,.i e])<->(e=0->vc o n X W V Q P N M H G F D=0/\ZP k s b B A z y x w v u r q p X W V Q P N M H G F D):=⟨λ⟨_,_,_,_,_,_,_,_,_,_,_,_,_,_,h,k⟩=>by cases h;exact k,λk=>⟨_,_,_,_,_,_,_,_,_,_,_,_,_,_,rfl,k⟩⟩
def atA(A z W V Q P N M H G F D B:Int)(c:Nat->Int)(p q r:Int)(b:Bool):∃o,TB.Ev 227 ([.i A,.i z,.i W,.i V,.i Q,.i P,.i N,.i M,.i H,.i G,.i F,.i D,.i B]++bG c++[.i p,.i q,.i r,.b b]) o/\aty (c 4) (c 5) b W V Q P N M H G F D B o:=by
 refine dR ?_;by_cases X:c 4=1\/c 4=2\/c 4=3\/c 4=4\/c 4=5\/c 4=6\/c 4=7\/c 4=8\/c 4=9
 ·rcases X with h|h|h|h|h|h|h|h|h
  all_goals
   simp(maxSteps:=9999999) [rz,bG,h,atz,ZP,Tc]
   try
    (repeat'(first|intro _|split)
     all_goals
      have y:ay .sub I (c 5) 1=c 5-1:=by simp only[ay];exact bO aa aa
      have x:ay .add I (c 5) 1=c 5+1:=by simp only[ay];exact bO aa aa
      simp only[y,x] at*
      repeat'(first|intro _|apply And.intro|split)
      all_goals first|assumption|rfl|omega|(exfalso;omega)|(simp_all;done)|(simp_all;omega))
 ·simp only[not_or] at X;obtain⟨w,v,u,s,n,m,l,k,j⟩:=X;simp(maxSteps:=9999999) [rz,bG,w,v,u,s,n,m,l,k,j,atz]
  repeat'(first|intro _|split)
  all_goals first|assumption|omega
def Aft:Prop:=∀(W V Q P N M H G F D B A z:Int)(c:Nat->Int)(p q r:Int)(b:Bool),∃o,TB.Ev 227 ([.i W,.i V,.i Q,.i P,.i N,.i M,.i H,.i G,.i F,.i D,.i B,.i A,.i z]++bG c++[.i p,.i q,.i r,.b b]) o/\∃X,o=.ret X/\jX (kI 14) X=J
def aCs:Aft:=by
 intro X W V Q P N M H G F D B A c p q r b;obtain⟨o,h,_,_,_,_,_,_,_,_,_,_,_,_,_,_,rfl,_⟩:=atA X W V Q P N M H G F D B A c p q r b;exact⟨_,h,_,rfl,rfl⟩
def j9(x:Nat->Int)(v:ar)(i:Nat):Nat->Int:=xi (out 227 ([.i (x 0),.i (x 1),.i (x 2),.i (x 3),.i (x 4),.i (x 5),.i (x 6),.i (x 7),.i (x 8),.i (x 9),.i (x 10),.i (x 11),.i (x 12)]++bG (bu v i)++[.i (bu v i 14),.i (bu v i 15),.i (bu v i 16),.b (fW (aZ v i 17).val)]))
def cm(x:Nat->Int)(v:ar):Nat->Nat->Int
 |0=>x
 |k+1=>j9 (cm x v k) v k
def ahQ(x:Nat->Int)(v:ar)(i:Nat):TB.Ev 227 ([.i (x 0),.i (x 1),.i (x 2),.i (x 3),.i (x 4),.i (x 5),.i (x 6),.i (x 7),.i (x 8),.i (x 9),.i (x 10),.i (x 11),.i (x 12)]++bG (bu v i)++[.i (bu v i 14),.i (bu v i 15),.i (bu v i 16),.b (fW (aZ v i 17).val)]) (.ret [.i (j9 x v i 0),.i (j9 x v i 1),.i (j9 x v i 2),.i (j9 x v i 3),.i (j9 x v i 4),.i (j9 x v i 5),.i (j9 x v i 6),.i (j9 x v i 7),.i (j9 x v i 8),.i (j9 x v i 9),.i (j9 x v i 10),.i (j9 x v i 11),.i (j9 x v i 12),.i (j9 x v i 13)]):=by
 have h:=nx _ (aCs (x 0) (x 1) (x 2) (x 3) (x 4) (x 5) (x 6) (x 7) (x 8) (x 9) (x 10) (x 11) (x 12) (bu v i) (bu v i 14) (bu v i 15) (bu v i 16) (fW (aZ v i 17).val));simp only[Bn,Bm,qC] at h;exact h
def SY(x:Nat->Int)(v:ar)(i:Nat)(X:j9 x v i 13=0):rS (j9 x v i)/\ZP (bu v i 4) (bu v i 5) (fW (aZ v i 17).val) (x 2) (x 3) (x 4) (x 5) (x 6) (x 7) (x 8) (x 9) (x 10) (x 11) (x 12) (j9 x v i 2) (j9 x v i 3) (j9 x v i 4) (j9 x v i 5) (j9 x v i 6) (j9 x v i 7) (j9 x v i 8) (j9 x v i 9) (j9 x v i 10) (j9 x v i 11) (j9 x v i 12):=by
 obtain⟨o,W,V,Q,P,N,M,H,G,F,D,B,A,z,y,e,rfl,w⟩:=atA (x 0) (x 1) (x 2) (x 3) (x 4) (x 5) (x 6) (x 7) (x 8) (x 9) (x 10) (x 11) (x 12) (bu v i) (bu v i 14) (bu v i 15) (bu v i 16) (fW (aZ v i 17).val);have u:∀k,j9 x v i k=xi [.i V,.i Q,.i P,.i N,.i M,.i H,.i G,.i F,.i D,.i B,.i A,.i z,.i y,.i e] k:=λk=>by simp only[j9,De W]
 simp only[rS,u] at X⊢;exact w X

variable[Inhabited dB]
def Stp(av ah:Int)(r:RV)(v:ar):Prop:=TB.Ev 155 [.r (aI (ck av ah)),.r r] (.ret [.r (aI v),.b J])
def Stp.SZ{av ah:Int}{r:RV}{v X:ar}(h:Stp av ah r v)(W:Stp av ah r X):v=X:=by
 have:=Aw h W;injection this with this;injection this with this _;injection this with this;exact ku RV.ae this


def ahS{v:RV}{X:T}{e:TypeId}{W Q P:bz}(V:Sl v)(M:Y v.ae<=536870912)(N:X=.gA (.c J) (.cmp .leq (.len (.v 0)) (.c 0)) (.bA (.cmp .leq (.len (.v 0)) (.c 536870912)) (.new e (.nY (.lit []) (.aj (.v 0))) W Q (.ret (.aj (.v 1)) [] P))) (.ret (.aj (.k (.slice Z 0 0))) [] W)):T.wp TB.Ev (· =.ret [.r (aI v.ae)]) X (gI [] [.r v]) []:=by
 subst N;rw[Fc];refine⟨.inl rfl,λ_=> ?_,λh=> ?_,λ_ h=> ?_⟩;simp[yT,V.len];omega
 all_goals
  have h:v.ae=[]:=by
   simp[V.len] at h;exact h
 simp[yT,h];exact single (V5 _)
def e86(v:RV)(X:Sl v)(h:Y v.ae<=536870912):TB.Ev 86 [.r v] (.ret [.r (aI v.ae)]):=ce (ahS X h rfl)
def e87(v:RV)(X:Sl v)(h:Y v.ae<=536870912):TB.Ev 87 [.r v] (.ret [.r (aI v.ae)]):=ce (ahS X h rfl)
def e88(v:RV)(X:Sl v)(h:Y v.ae<=536870912):TB.Ev 88 [.r v] (.ret [.r (aI v.ae)]):=ce (ahS X h rfl)

def gl0:RV:=j7[0]?.getD default
def o8:RV:=j7[1]?.getD default
def gl2:RV:=j7[2]?.getD default
def aCv:j7=[gl0,o8,gl2]:=rfl
def atB:lenOf o8.val=10:=rfl
def iX(k:Int)(j:Nat):RV:=db (.sl 3) (aZ o8.ae k j)
def aCw{k s:Int}(Q:1<=k/\k<=9)(W:if k=1\/k=3\/k=4\/k=9 then 1<=s/\s<=2 else s=0):
  (lenOf (iX k 0).val=(iX k 0).ae.length/\(iX k 0).ae.length<=2/\∀i:Nat,i<(iX k 0).ae.length->0<=bp (aZ (iX k 0).ae i 0).val/\bp (aZ (iX k 0).ae i 0).val<=2/\1<=s/\s<=2)/\
  (lenOf (iX k 1).val=(iX k 1).ae.length/\(iX k 1).ae.length<=2/\∀i:Nat,i<(iX k 1).ae.length->0<=bp (aZ (iX k 1).ae i 0).val/\bp (aZ (iX k 1).ae i 0).val<=4):=by
 have:k=1\/k=2\/k=3\/k=4\/k=5\/k=6\/k=7\/k=8\/k=9:=aa;rcases this with rfl|rfl|rfl|rfl|rfl|rfl|rfl|rfl|rfl
 all_goals
  simp at W;refine⟨⟨rfl,dM,λi X=> ?_⟩,rfl,dM,λi X=> ?_⟩
  all_goals
   simp[iX,o8,j7,lu,sV,iV,aZ,db,-tW] at X
   try
    have V:i=0\/i=1:=aa;rcases V with rfl|rfl
    all_goals simp[iX,o8,j7,lu,sV,iV,aZ,db,bp,-tW] at X⊢
    all_goals(try omega)
end
section
variable{R:bv->Prop}{o:aY}{t:T}{O:ai}{L:dE}
variable[Inhabited dB]
def S2(a b c d:Int):Prop:=bc a b c d=J/\a<b/\c<d
def Fg(a b c d:Int):Prop:=(-10000<=a/\a<0)/\(0<b/\b<=10000)/\(-10000<=c/\c<0)/\0<d/\d<=10000
def S6(p X:Int):Prop:=-10000<=p/\p<=X/\X<=10000
def Fg.jn1{X W V Q p P q N:Int}(h:Fg X W V Q)(a:S6 p P)(b:S6 q N):Fg (jn (bc X W V Q&&bc p P q N) (min X p)) (jn (bc X W V Q&&bc p P q N) (max W P)) (jn (bc X W V Q&&bc p P q N) (min V q)) (jn (bc X W V Q&&bc p P q N) (max Q N)):=by
 simp only[Fg,S6] at*;have e:(bc X W V Q&&bc p P q N)=true:=by simp[bc];omega
 rw[e];simp only[Y.jn,cN];omega
def Fg.sh{X W V Q x y:Int}(h:Fg X W V Q)(e:gv X W V Q x y=0):S2 (jn (gv X W V Q x y==0) (IntKind.i64.wrap (X+x))) (jn (gv X W V Q x y==0) (IntKind.i64.wrap (W+x))) (jn (gv X W V Q x y==0) (IntKind.i64.wrap (V+y))) (jn (gv X W V Q x y==0) (IntKind.i64.wrap (Q+y))):=by
 have P:=e;unfold gv at P;split at P;omega;split at P;omega;split at P;rename_i H N M;simp at N;simp only[Fg] at h;rw[e];simp only[Y.jn,beq_self_eq_true,cN];refine⟨M, ?_, ?_⟩;rw[bO aa aa,bO aa aa];omega;rw[bO aa aa,bO aa aa];omega;omega
def S2.join{a b c d X W V Q:Int}(h:S2 a b c d)(M:S2 X W V Q):S2 (jn (bc a b c d&&bc X W V Q) (min a X)) (jn (bc a b c d&&bc X W V Q) (max b W)) (jn (bc a b c d&&bc X W V Q) (min c V)) (jn (bc a b c d&&bc X W V Q) (max d Q)):=by
 obtain⟨P,H,G⟩:=h;obtain⟨N,F,D⟩:=M;rw[P,N];simp only[Y.jn,wW,cN];refine⟨?_,aa,aa⟩;simp[bc] at P N⊢;omega
def ahX{r:Int}(X:1<=r/\r<=8):S6 (ay .sub I 0 (ay .mul I 841 r)) (ay .mul I 841 r):=by
 simp only[ay,S6];rw[bO (n:=841*r) aa aa,bO aa aa];omega
def ZQ{r v:Int}(W:1<=r/\r<=8)(X:V8 v):S6 (ay .mul I r v) (ay .mul I r v):=by
 have:=NY (x:=r) (m:=8) aa X;simp only[ay,S6];rw[bO aa aa];omega
def vX(d f l:Int):Int:=oi 139 [.i (oi 138 [.i d,.i f] 0),.i l] 0
def vY(d f l:Int):Int:=oi 139 [.i (oi 138 [.i d,.i f] 0),.i l] 1
def ZR(d f l:Int):V8 (vX d f l):=(NX _ _).1
def ZS(d f l:Int):V8 (vY d f l):=(NX _ _).2
def Dg(X W V Q r d f l:Int):Prop:=(X<=r*vX d f l/\r*vX d f l<=W)/\V<=r*vY d f l/\r*vY d f l<=Q
def ZT(X W V:Int)(j:Nat):Int:=if j/2=0 then X else if j/2=1 then W else if j/2=2 then V else 0
def atC(m tu:Bool)(d l f X W V:Int):Prop:=(m=E->X=d/\W=l)/\(tu=E->V=f)
structure Bo(f0 f1 f2 f3 g:Int)(rc:Nat->Int)(F:Nat->Bool)(x:Nat->Int)(n:Nat):Prop where
 fg:Fg f0 f1 f2 f3
 g1:f0≤-(841*g)/\841*g<=f1
 g2:f2≤-(841*g)/\841*g<=f3
 lb:∀j<n,∀d' l' f',atC (F (1+j)) (F 0) (x (3+2*j)) (x (4+2*j)) (x 2) d' l' f'->l'≠0->Dg f0 f1 f2 f3 (rc j) d' f' l'
def aCx{k s:Int}(X:1<=k/\k<=9){j:Nat}(h:Tc k s j):(∃a<(iX k 0).ae.length,(j:Int)=bp (aZ (iX k 0).ae (a:Int) 0).val+s-1)\/∃a<(iX k 1).ae.length,(j:Int)=bp (aZ (iX k 1).ae (a:Int) 0).val:=by
 have:k=1\/k=2\/k=3\/k=4\/k=5\/k=6\/k=7\/k=8\/k=9:=aa;rcases this with rfl|rfl|rfl|rfl|rfl|rfl|rfl|rfl|rfl
 all_goals simp[Tc] at h
 exact .inl ⟨0,dM,by simp[iX,o8,j7,lu,sV,iV,aZ,db,bp,-tW];omega⟩;rcases h with h|h;exact .inr ⟨0,dM,by simp[iX,o8,j7,lu,sV,iV,aZ,db,bp,-tW];omega⟩;exact .inr ⟨1,dM,by simp[iX,o8,j7,lu,sV,iV,aZ,db,bp,-tW];omega⟩;exact .inl ⟨0,dM,by simp[iX,o8,j7,lu,sV,iV,aZ,db,bp,-tW];omega⟩;exact .inl ⟨0,dM,by simp[iX,o8,j7,lu,sV,iV,aZ,db,bp,-tW];omega⟩;exact .inr ⟨0,dM,by simp[iX,o8,j7,lu,sV,iV,aZ,db,bp,-tW];omega⟩;rcases h with h|h;exact .inr ⟨0,dM,by simp[iX,o8,j7,lu,sV,iV,aZ,db,bp,-tW];omega⟩;exact .inr ⟨1,dM,by simp[iX,o8,j7,lu,sV,iV,aZ,db,bp,-tW];omega⟩;rcases h with h|h;exact .inr ⟨0,dM,by simp[iX,o8,j7,lu,sV,iV,aZ,db,bp,-tW];omega⟩;exact .inr ⟨1,dM,by simp[iX,o8,j7,lu,sV,iV,aZ,db,bp,-tW];omega⟩;exact .inl ⟨0,dM,by simp[iX,o8,j7,lu,sV,iV,aZ,db,bp,-tW];omega⟩
def Dg.mono{X W V Q P N M H r d f l:Int}(h:Dg X W V Q r d f l)(G:P<=X)(F:W<=N)(D:M<=V)(B:Q<=H):Dg P N M H r d f l:=by
 simp only[Dg] at*;omega
def aCy{r d f l:Int}(X:1<=r/\r<=8):Dg (ay .sub I 0 (ay .mul I 841 r)) (ay .mul I 841 r) (ay .sub I 0 (ay .mul I 841 r)) (ay .mul I 841 r) r d f l:=by
 have a:=NY (x:=r) (m:=r) aa (ZR d f l);have b:=NY (x:=r) (m:=r) aa (ZS d f l);simp only[ay,Dg];rw[bO (n:=841*r) aa aa,bO aa aa];omega
def aCz{r d f l:Int}(X:1<=r/\r<=8):Dg (ay .mul I r (vX d f l)) (ay .mul I r (vX d f l)) (ay .mul I r (vY d f l)) (ay .mul I r (vY d f l)) r d f l:=by
 have a:=NY (x:=r) (m:=8) aa (ZR d f l);have b:=NY (x:=r) (m:=8) aa (ZS d f l);simp only[ay,Dg];rw[bO (n:=r*vX d f l) aa aa,bO (n:=r*vY d f l) aa aa];omega
def Bo.join{V Q P N g p X q W:Int}{D:Nat->Int}{F:Nat->Bool}{x:Nat->Int}{n:Nat}(h:Bo V Q P N g D F x n)(a:S6 p X)(b:S6 q W)(z:∀H M G,atC (F (1+n)) (F 0) (x (3+2*n)) (x (4+2*n)) (x 2) H M G->M≠0->Dg p X q W (D n) H G M):
  Bo (jn (bc V Q P N&&bc p X q W) (min V p)) (jn (bc V Q P N&&bc p X q W) (max Q X)) (jn (bc V Q P N&&bc p X q W) (min P q)) (jn (bc V Q P N&&bc p X q W) (max N W)) g D F x (n+1):=by
 have B:=h.fg.jn1 a b;have v:=h.g1;have u:=h.g2;have y:=h.fg;have e:(bc V Q P N&&bc p X q W)=true:=by simp only[Fg,S6] at y a b;simp[bc];omega
 rw[e] at B⊢;simp only[Y.jn,cN] at B⊢;refine⟨B,aa,aa,λj s H M G k A=> ?_⟩;by_cases w:j=n;subst w;exact(z H M G k A).mono aa aa aa aa;exact(h.lb j aa H M G k A).mono aa aa aa aa
def Bo.skip{X W V Q g:Int}{P:Nat->Int}{F:Nat->Bool}{x:Nat->Int}{n:Nat}(h:Bo X W V Q g P F x n)(M:F (1+n)=E)(H:x (4+2*n)=0):Bo X W V Q g P F x (n+1):=by
 refine⟨h.fg,h.g1,h.g2,λj z G D B k N=> ?_⟩;by_cases A:j=n;subst A;exact(N ((k.1 M).2.trans H)).elim;exact h.lb j aa G D B k N
def Bo.any{X W V Q g r d l:Int}{N:Nat->Int}{F:Nat->Bool}{x:Nat->Int}{n:Nat}(h:Bo X W V Q g N F x n)(P:1<=r/\r<=8)(e:N n=r)(M:x (3+2*n)=d)(H:x (4+2*n)=l){b q:Bool}(G:F (1+n)=b)(D:F 0=q){s t u v w:Int}(B:ay .sub I 0 (ay .mul I 841 r)=s)(A:ay .mul I 841 r=t)(y:x 2=u)(p:ay .mul I r (oi 139 [.i (oi 138 [.i d,.i u] 0),.i l] 0)=v)(o:ay .mul I r (oi 139 [.i (oi 138 [.i d,.i u] 0),.i l] 1)=w){m:Nat}(j:n+1=m):
  (¬b=J->l=0->Bo X W V Q g N F x m)/\Bo (jn (bc X W V Q&&bc s t s t) (min X s)) (jn (bc X W V Q&&bc s t s t) (max W t)) (jn (bc X W V Q&&bc s t s t) (min V s)) (jn (bc X W V Q&&bc s t s t) (max Q t)) g N F x m/\
  (¬b=J->¬q=J->Bo (jn (bc X W V Q&&bc v v w w) (min X v)) (jn (bc X W V Q&&bc v v w w) (max W v)) (jn (bc X W V Q&&bc v v w w) (min V w)) (jn (bc X W V Q&&bc v v w w) (max Q w)) g N F x m):=by
 subst M H G D B A y p o j;refine⟨λm z=>h.skip (H7.2 m) z,h.join (ahX P) (ahX P) (λ_ _ _ _ _=>by rw[e];exact aCy P),λm t=>h.join (ZQ P (ZR _ _ _)) (ZQ P (ZS _ _ _)) λf c a k _=> ?_⟩;rw[e,(k.1 (H7.2 m)).1,(k.1 (H7.2 m)).2,k.2 (H7.2 t)];exact aCz P
def Fg.S3{X W V Q x y:Int}(h:Fg X W V Q)(e:gv X W V Q x y=0):jn (gv X W V Q x y==0) (IntKind.i64.wrap (X+x))=X+x/\jn (gv X W V Q x y==0) (IntKind.i64.wrap (W+x))=W+x/\jn (gv X W V Q x y==0) (IntKind.i64.wrap (V+y))=V+y/\jn (gv X W V Q x y==0) (IntKind.i64.wrap (Q+y))=Q+y:=by
 have P:=e;unfold gv at P;split at P;omega;split at P;omega;rename_i M N;simp at N;simp only[Fg] at h;rw[e];simp only[Y.jn,beq_self_eq_true,cN];refine⟨bO aa aa,bO aa aa,bO aa aa,bO aa aa⟩
end
