/- Part 4 of the proof; the last part says what is shown. -/
import Derived.Test.YtieaiocljdpebaaGreatDoorQ3
set_option linter.all false
open Bool renaming and_eq_true->aIy,false_eq_true->aIU,or_eq_true->aIZ,and_self->aJI,eq_false_iff->aKK,true_or->aL6,true->J,false->E
open List renaming getElem?_append_left->aIB,cons_append->aIF,getElem?_append_right->aIH,nil_append->aIJ,mem_append->aIM,all_eq_true->aIN,length_append->aIO,pairwise_cons->aIV,pairwise_append->aI4,length_eq_zero_iff->aJe,foldl_cons->aJ2,append_assoc->aJ5,length_pos_iff->aKl,length_singleton->aKL,length->Y
open Nat renaming le_refl->aIG,eq_zero_or_pos->aJB,gcd->aJE,mod_lt->aKA,mul_le_mul->aKM,gcd_comm->aKO,gcd_rec->aLq
open Option renaming some->U,none->Z
open List.Pairwise renaming nil->aJt
open Int renaming tmod_eq_emod_of_nonneg->aJK,natAbs_tmod->aKg,natAbs_mul->aK4,fdiv_eq_ediv_of_nonneg->aLv
open List.Perm renaming refl->aLX,swap->aMi
open Go.IntKind renaming i64->I
namespace Go.Proofs.YtieaiocljdpebaaGreatDoor.Y
open Go.RowKit
noncomputable section
variable{X:FuncId}{W:aV}{V:Nat}
section
set_option maxRecDepth 100000
variable(a b c:Nat)(d e f g h i j:IE)(k l m n:T)(o p q r s t:BE)(u v w x y z:SV)(A B:List RK)(C D Q:List SV)(F G:RE)(H R:LE)(P:List LK)(K:BinOp)(L:Int)(M:RK)(N:List (List SV))(O:aW)
abbrev bG:=IE.v 0
abbrev bA:=IE.v 1
abbrev cg:=IE.v 2
abbrev eO:=BE.c E
abbrev eV:=SV.bool eO
abbrev et:=T.ret u [] A
abbrev ja:=et u []
abbrev fY:=ja eV
abbrev b9:=IE.v 4
abbrev aJ:=SV.int I d
abbrev gA:=aJ b9
abbrev cm:=IE.c 1
abbrev cK:=aJ cm
abbrev Ue:=aJ (.c 9)
abbrev Uf:=RK.sl 245
abbrev Ug:=RK.sl 259
abbrev ec:=RK.sl 142
abbrev kX:List RK:=[Uf,Ug,ec]
abbrev oE:=BE.v 0
abbrev kb:=SV.bool oE
abbrev lF:=BE.not oE
abbrev kY:=et eV A
abbrev oF:=kY kX
abbrev gM:=aJ bA
abbrev bh:=IE.c 0
abbrev ax:=aJ bh
abbrev eW:=IE.v 14
abbrev tq:=BE.v 1
abbrev nX:=SV.bool tq
abbrev rE:=BE.not tq
abbrev dK:=aJ cg
abbrev fK:=IE.v 15
abbrev yg:=BE.v 2
abbrev mf:=SV.bool yg
abbrev GA:=BE.not yg
abbrev cR:=IE.v 3
abbrev eu:=aJ cR
abbrev jb:=IE.c 3
abbrev kH:=aJ jb
abbrev yi:=BE.v 3
abbrev uH:=SV.bool yi
abbrev yj:=BE.not yi
abbrev cS:=BE.cmp .leq d e
abbrev fz:=cS bh d
abbrev GB:=fz b9
abbrev jK:=RE.v 0
abbrev iv:=IE.len jK
abbrev gj:=IE.v 5
abbrev gZ:=aJ gj
abbrev jW:=IE.c 2
abbrev jL:=aJ jW
abbrev rF:=SV.bool (.v 4)
abbrev Cc:=BE.not (.v 4)
abbrev dW:=IE.v 6
abbrev cH:=aJ dW
abbrev jc:=IE.c 8
abbrev DL:=aJ jc
abbrev yk:=SV.bool (.v 5)
abbrev JY:=BE.not (.v 5)
abbrev ew:=IE.v 7
abbrev ez:=aJ ew
abbrev zZ:=SV.bool (.v 6)
abbrev Oj:=BE.not (.v 6)
abbrev dH:=IE.v 8
abbrev ee:=aJ dH
abbrev uI:=SV.bool (.v a)
abbrev DM:=uI 7
abbrev z6:=BE.not (.v a)
abbrev Ol:=z6 7
abbrev cN:=IE.v 9
abbrev fM:=aJ cN
abbrev jd:=aJ eW
abbrev JZ:=uI 8
abbrev gk:=IE.v 10
abbrev em:=aJ gk
abbrev gu:=IE.v 11
abbrev fO:=aJ gu
abbrev mX:=SV.agg [u,v]
abbrev Om:=mX em fO
abbrev aK:=LK.int I
abbrev qa:List LK:=[aK,aK]
abbrev gN:=IE.v 16
abbrev iw:=aJ gN
abbrev gU:=IE.v 17
abbrev iH:=aJ gU
abbrev kZ:=BE.cmp .neq d e
abbrev dl:=kZ d bh
abbrev DN:=dl gU
abbrev eI:=IE.v 12
abbrev dX:=IE.v 13
abbrev cP:=aJ eI
abbrev ke:=aJ dX
abbrev Uh:=mX cP ke
abbrev eX:=IE.v 18
abbrev kJ:=aJ eX
abbrev gm:=IE.v 19
abbrev iI:=aJ gm
abbrev acn:=dl gm
abbrev qb:=IE.v 20
abbrev kf:=aJ qb
abbrev mF:=IE.v 21
abbrev kK:=aJ mF
abbrev On:=dl mF
abbrev eP:=BE.c J
abbrev gG:=SV.bool eP
abbrev fP:=T.call a C [] A P u k
abbrev iJ:=SV.bH [u,v]
abbrev hJ:=fP a k (iJ u v) A C P
abbrev wl:=hJ a k u v A C qa
abbrev aX:=T.node o k (.node p l m)
abbrev eA:=BE.cmp .gtr d e
abbrev pm:=aX k l m o (eA d e)
abbrev gc:=T.node o (.node p k l) m
abbrev qc:=gc (.node q k l) m n o p
abbrev gC:=BE.cmp .eql d e
abbrev ce:=gC d bh
abbrev J0:=BE.and (gC d e) (gC f g)
abbrev DO:=et gG A
abbrev aco:=wl 142 (pm qb bh oF oF (qc oF (DO kX) (DO kX) (DO kX) (ce qb) (J0 eI gk dX gu) (J0 cm eI cm dX)) On) kf kK kX [Uh,mX cK cK]
abbrev acp:=wl 142 (pm eX bh oF oF (qc oF aco aco aco (ce eX) (J0 gk gk gu gu) (J0 eI eI dX dX)) acn) kJ iI kX [Om,Uh]
abbrev cj:=BE.cmp .lss d e
abbrev iA:=cj d iv
abbrev Oo:=iA bA
abbrev Ui:=fz bA
abbrev Cd:=BE.and Ui Oo
abbrev iB:=IE.cell F d 0
abbrev z7:=iB d jK
abbrev GC:=z7 bA
abbrev J1:=IE.bin K I d e
abbrev nY:=J1 d e .sub
abbrev acq:=nY bh bG
abbrev rG:=RK.sl 3
abbrev DP:=aJ (J1 d e K)
abbrev nZ:=DP d e .add
abbrev eB:=nZ d cm
abbrev J2:=eB bA
abbrev lG:=T.back 0 C
abbrev Oq:=lG [J2]
abbrev n7:=cj d bh
abbrev J3:=n7 bG
abbrev gf:=aJ (.c L)
abbrev GD:=gf 150
abbrev kg:=et (iJ u v) A
abbrev uJ:=kg u v []
abbrev DQ:=uJ ax GD
abbrev Ot:=eA bG jc
abbrev Uj:=n7 bA
abbrev wm:=IE.c 7
abbrev Ou:=ce bG
abbrev lH:=J1 d e .add
abbrev acr:=lH bG bA
abbrev mY:=SV.agg [u,v,w]
abbrev acs:=mY ax ax ax
abbrev Uk:=kg acs GD kX
abbrev tw:=IE.c 841
abbrev Ov:=nY bA jW
abbrev GF:=iJ (mY u v w) x
abbrev lI:=DP d e .mul
abbrev amW:=GF ax ax (lI tw Ov) ax
abbrev jM:=nY d cm
abbrev z8:=jM bG
abbrev eo:=BE.and o (cj d e)
abbrev acu:=eo z8 jc (fz z8)
abbrev pn:=RE.v 2
abbrev J4:=IE.len pn
abbrev acv:=eo z8 J4 (fz z8)
abbrev Ow:=iB z8 pn
abbrev kh:=IE.cell F d 1
abbrev Ox:=kh z8 pn
abbrev DR:=IE.c 20
abbrev uK:=SV.bH [u,v,w]
abbrev amX:=et (uK ax ax GD) kX
abbrev gV:=aJ bG
abbrev wn:=uJ ax (gf 120)
abbrev Ul:=dl gj
abbrev iU:=J1 d e .mul
abbrev Um:=iU bG cR
abbrev acw:=iU cg bA
abbrev Aa:=ja (gf 120)
abbrev ym:=IE.c 1073741824
abbrev Ce:=IE.c (-1073741824)
abbrev Oy:=LK.int .u64
abbrev tA:=ja ax
abbrev Un:=dl cR
abbrev acx:=uK ax ax cK
abbrev fo:=IE.mm J d e
abbrev amY:=IE.bin .rem .u64 cR (fo b9 cm)
abbrev J5:=IE.c (-1)
abbrev DS:=aJ J5
abbrev J6:=ja cK
abbrev rH:=IE.c (-1099511627776)
abbrev rI:=IE.c 1099511627776
abbrev acy:=cS bG bA
abbrev acz:=cS cg cR
abbrev dD:=SV.agg [u,v,w,x]
abbrev Cf:=dD gV gM dK eu
abbrev Ab:=dD ax ax ax ax
abbrev mG:=uJ Ab GD
abbrev Uo:=dD gA gZ cH ez
abbrev lJ:=kg u ax A
abbrev lc:=lJ u []
abbrev Cg:=dD u (aJ d) v (aJ e)
abbrev ld:=IE.mm E d e
abbrev GG:=aJ (ld d e)
abbrev amZ:=lc (Cg (fo bA gj) (fo cR ew) (GG bG b9) (GG cg dW))
abbrev yo:List LK:=[aK,aK,aK,aK,aK]
abbrev GH:=ce dH
abbrev acA:=IE.c (-2199023255552)
abbrev acB:=iJ Ab jL
abbrev rJ:=ja acB
abbrev am0:=eA b9 (.c 2199023255552)
abbrev acC:=cj gj acA
abbrev acD:=eA gj (.c 2199023255552)
abbrev acE:=lH bG b9
abbrev Uq:=lH bA b9
abbrev Oz:=lH cg gj
abbrev Ur:=lH cR gj
abbrev acF:=Cg Uq Ur (aJ acE) (aJ Oz)
abbrev DT:=IE.c (-1048576)
abbrev wo:=uJ ax jL
abbrev mg:=IE.c 1048576
abbrev Ac:List LK:=[aK,aK,aK,aK]
abbrev OA:=ce b9
abbrev DU:=ce gj
abbrev GI:=ce dW
abbrev J7:=ce cN
abbrev DV:=ce gk
abbrev Ch:=IE.c 4
abbrev OC:=mY eu gA gZ
abbrev acG:=iJ OC cH
abbrev Ad:=fP a k u A C Ac
abbrev am1:=T.node (ce bA) (Ad 139 (ja OC) acG [] [gV,cK]) (Ad 139 (ja OC) acG [] [gV,gM])
abbrev am2:=IE.conv I d
abbrev OD:=IE.conv .u64 d
abbrev GJ:=am2 (.bin .shr .u64 (OD (lH cg cR)) cm)
abbrev GK:=jM cg
abbrev aC:=RK.sl 175
abbrev aF:=RK.sl 312
abbrev aG:=RK.sl 314
abbrev ki:List RK:=[aC,aF,aG]
abbrev DW:=SV.ref jK
abbrev lK:=RE.v 1
abbrev Ae:=SV.ref lK
abbrev DX:=SV.ref pn
abbrev Af:=dD gV DW Ae DX
abbrev J8:=dl dW
abbrev iW:=aJ fK
abbrev Ag:=RE.v 3
abbrev DY:=SV.ref Ag
abbrev mZ:=RE.v 4
abbrev OE:=SV.ref mZ
abbrev fA:=SV.agg [gV,gM,dK,eu,gA,DW,gZ,Ae,DX,DY,OE]
abbrev yp:List SV:=[fA]
abbrev aE:=RK.sl 173
abbrev ak:=RK.sl 90
abbrev eC:List RK:=[aE,aC,aF,aG,ak]
abbrev OF:=ce ew
abbrev uL:=jM gj
abbrev Us:=aJ uL
abbrev bo:=RK.sl 73
abbrev aR:=RK.sl 79
abbrev ac:=RK.sl 71
abbrev ap:=RK.sl 82
abbrev acH:List RK:=[aE,aC,aF,aG,ak,bo,aR,ac,ap]
abbrev DZ:=kY acH
abbrev J9:=IE.c 64
abbrev oG:=IE.len mZ
abbrev Ah:=IE.c 4096
abbrev n8:=RE.v 5
abbrev tB:=IE.len n8
abbrev n9:=RE.v 6
abbrev mH:=IE.len n9
abbrev OG:=IE.c 100
abbrev oH:=RE.v 7
abbrev mI:=IE.len oH
abbrev oI:=RE.v 8
abbrev rK:=IE.len oI
abbrev OH:=fz dW
abbrev aY:=RK.sl 96
abbrev gD:=T.loop a P C (.node o k l)
abbrev qe:=gD a k (et u A) o C P
abbrev Ka:=qe a k o u A [ax] [aK]
abbrev GM:=Ka a k o gG A
abbrev rL:=cj d rK
abbrev cd:=T.bj o (.bj p k)
abbrev mJ:=cd (.node q k l) o p
abbrev D0:=mJ k l o p (eA d e)
abbrev Ci:=RE.cell F d a aY
abbrev am3:=pm mH OG DZ DZ (pm rK OG DZ DZ (GM 0 (D0 (.len (Ci 0 dW oI)) OG DZ (lG [eB dW]) (.and OH (rL dW)) (.and OH (rL dW))) (rL dW) acH) (eA mI OG)) (eA tB DR)
abbrev oJ:=gc k l m o (cS d e)
abbrev am4:=oJ oG Ah DZ am3 am3 (eA oG (.c 40))
abbrev kj:=kY eC
abbrev tC:=IE.len lK
abbrev Cj:=IE.len Ag
abbrev acI:=eA oG Ah
abbrev iK:=T.node o (et u A) k
abbrev Kb:=iK k o (.bool p) A
abbrev am5:=Kb kj (eA gj Ah) (cS oG (.c 80)) eC
abbrev D3:=oJ d (.c L) k l m o
abbrev am6:=D3 oG (DO eC) am5 am5 acI 5000
abbrev iQ:=SV.ref n8
abbrev Ut:=SV.agg [iQ]
abbrev gW:=SV.ref n9
abbrev jX:=SV.ref oH
abbrev mh:=SV.ref oI
abbrev na:=RE.v 9
abbrev po:=SV.ref na
abbrev uM:=RE.v 10
abbrev mK:=SV.ref uM
abbrev mi:=RE.v 11
abbrev yq:=SV.ref mi
abbrev yr:=SV.agg [u,v,w,x,y,z]
abbrev Uu:=yr cH jX mh po mK yq
abbrev azz:List SV:=[fA,Ut,gW,Uu]
abbrev aj:=RK.sl 4
abbrev ar:=RK.sl 65
abbrev uN:List RK:=[aE,aC,aF,aG,ak,bo,aR,aj,ac,ac,ap,ar]
abbrev eY:=RK.sl 98
abbrev Uv:List LK:=[.ref eY,aK]
abbrev OI:=RE.v 12
abbrev rM:=SV.ref OI
abbrev Ai:=IE.len OI
abbrev am7:List RK:=[aE,aC,aF,aG,ak,bo,aR,aj,ac,ac,ap,ar,eY]
abbrev acJ:=kZ iv tC
abbrev Aj:=iA bG
abbrev oa:=BE.and (fz bG) Aj
abbrev Ak:=BE.and (fz bG) (cj bG tC)
abbrev OJ:=z7 bG
abbrev acK:=gC OJ (iB bG lK)
abbrev acL:=eB bG
abbrev Ck:=lG [acL]
abbrev Uw:=et jL eC
abbrev D4:=dD gZ Ae DX DY
abbrev yt:=IE.c 1000
abbrev uO:=et (gf 190) eC
abbrev uP:=dl ew
abbrev Ux:=iA dH
abbrev Al:=fz dH
abbrev OK:=aJ wm
abbrev Cl:=lH d cm
abbrev Kc:=aJ (Cl dH)
abbrev D5:=lG [Kc]
abbrev acM:=cj cN oG
abbrev GN:=fz cN
abbrev OL:=BE.and GN o
abbrev Uy:=OL acM
abbrev Uz:=iB cN mZ
abbrev eJ:=aJ (.cell F d a)
abbrev uQ:=eJ a cN mZ
abbrev am8:List SV:=[aJ Uz,uQ 1,uQ 2,uQ 3,uQ 4,uQ 5,uQ 6,uQ 7,uQ 8,uQ 9,uQ 10,uQ 11,uQ 12,uQ 13]
abbrev Cm:=eB cN
abbrev UA:=cS iv bh
abbrev jf:=cS d (.c 536870912)
abbrev ON:=jf iv
abbrev Cn:=LE.lit []
abbrev UB:=LE.kz Cn (.ref jK)
abbrev qf:=RK.own 4
abbrev acN:=RE.k (.slice Z 0 0)
abbrev fZ:=SV.ref acN
abbrev cX:=RK.own 71
abbrev uR:=RK.own 96
abbrev UC:=fz cR
abbrev mL:=BE.and (fz d) o
abbrev am9:=mL mF (cj mF oG)
abbrev GO:=kh mF mZ
abbrev ana:=eo GO tB (fz GO)
abbrev anb:=eo GO rK (fz GO)
abbrev acO:List RK:=[aE,aC,aF,aG,ak,aj,ac,ac,ap,ar]
abbrev D6:=lG [eB mF]
abbrev co:=RK.own 65
abbrev OO:=LK.ref co
abbrev UD:List SV:=[ax,fZ]
abbrev qg:=IE.cell jK d a
abbrev anc:=aJ (qg 10 bG)
abbrev ane:=aJ (qg 11 bG)
abbrev anf:=aJ (qg 12 bG)
abbrev fp:List RK:=[.str]
abbrev Co:=kY fp
abbrev Kd:=iA bh
abbrev OP:=IE.lT jK bh
abbrev rN:=IE.c 5
abbrev GP:=dl dH
abbrev qh:=kg fZ u A
abbrev Ke:=qh cK eC
abbrev gO:=RK.own 90
abbrev UE:=LE.ref n8
abbrev acP:List RK:=[aE,aC,aF,aG,ak,gO]
abbrev ang:List RK:=[aE,aC,aF,aG,ak,.dead,gO]
abbrev acQ:=iJ gW ax
abbrev anh:List RK:=[aE,aC,aF,aG,ak,.dead,ak]
abbrev fq:=gC d jb
abbrev UF:=fq b9
abbrev acR:=kZ eW bG
abbrev acS:List SV:=[iw,cK,kH]
abbrev oK:=fP a k u A C [.bool]
abbrev hU:=oK a (.node o k l) u A C
abbrev ani:=hU 284 (oK 284 (ja mf) mf [] acS) fY tq nX [] [iW,ax,DL]
abbrev Am:=gC d (.c 9)
abbrev UG:=Am b9
abbrev OQ:=ce fK
abbrev UH:=Kb fY OQ (ce gN) []
abbrev wq:=oK a k nX A C
abbrev acT:=qc (wq 284 (ja nX) [] acS) fY UH UH lF UG OQ
abbrev anj:=aX fY ani acT acR lF
abbrev fQ:=gC d Ch
abbrev UI:=fQ b9
abbrev uS:=gC d rN
abbrev UJ:=uS b9
abbrev GQ:=aJ rN
abbrev tD:=aJ Ch
abbrev An:=gC bG d
abbrev jq:=aX k l (.node q m n) o p
abbrev gv:=fP a k u A C [aK]
abbrev jN:=BE.cmp .geq d e
abbrev lL:=jN d bh
abbrev ank:=aX (ja GQ) J6 (jq J6 J6 J6 (gv 272 (iK tA (lL bA) tD []) gM [] [.ref (.k (.string ⟨#[123,125,40,41,59,44,61,58,46,60,62,33,43,45,42,47]⟩)),.int .u8 bG]) (An (.c 9)) (An (.c 10)) (An (.c 13))) (An (.c 95)) (An (.c 32))
abbrev uT:=jN bG d
abbrev anl:=D3 bG (ja kH) ank ank (uT (.c 48)) 57
abbrev anm:=D3 bG (ja jL) anl anl (uT (.c 65)) 90
abbrev D7:=uJ Ab (gf 290)
abbrev tE:=Cl gj
abbrev ann:=fo bh (nY (ld dH tE) b9)
abbrev UK:=dl dX
abbrev ano:=fo bh (nY (ld (Cl dH) tE) b9)
abbrev cY:=aJ (.v a)
abbrev qi:=cY 22
abbrev tF:=IE.v 23
abbrev pu:=aJ tF
abbrev anp:=iJ (dD iI kf kK qi) pu
abbrev UL:=iJ fZ eV
abbrev Kf:List RK:=[ak,aY]
abbrev acU:List RK:=[ak,aY,gO]
abbrev UM:=aW.lex [0] E
abbrev OS:=RK.own 258
abbrev pw:List LK:=[aK,.ref M]
abbrev D8:=pw OS
abbrev acV:=cj bA Cj
abbrev UN:=BE.and Ui acV
abbrev Kg:=eo bA tC Ui
abbrev Cp:=eJ a d jK
abbrev nc:=Cp a bG
abbrev anq:List SV:=[aJ OJ,nc 1,nc 2,nc 3,nc 4,nc 5,nc 6,nc 7,nc 8,nc 9,anc,ane,anf,nc 13]
abbrev Kh:=kh bA lK
abbrev wt:=IE.cell lK d a
abbrev OT:=wt 2 bA
abbrev wu:=RK.sl 258
abbrev acW:=T.stuck ""
abbrev anr:List SV:=[gV,gM,dK,eu,gA,gZ,cH,ez,ee,fM,em,fO,cP]
abbrev rO:=SV.agg anr
abbrev iR:=IE.v 29
abbrev nf:=aJ iR
abbrev azA:=IE.v 24
abbrev tG:=aJ azA
abbrev acX:=IE.v 25
abbrev pz:=aJ acX
abbrev UO:=IE.v 26
abbrev tH:=aJ UO
abbrev rP:=IE.v 27
abbrev wv:=aJ rP
abbrev Ki:=IE.v 28
abbrev ng:=aJ Ki
abbrev ans:List SV:=[.agg [DW,ke,jd,iW,iw,iH,kJ,iI,kf,kK,qi,pu,tG,pz,tH,wv,ng]]
abbrev Ao:=IE.v 30
abbrev mM:=aJ Ao
abbrev GR:=dl Ao
abbrev Ap:=ce eI
abbrev OU:=iU (.c 29) bG
abbrev lM:=iU tw d
abbrev D9:=lM fK
abbrev UP:=nY OU D9
abbrev UQ:=lH OU D9
abbrev OV:=iU (.c 29) bA
abbrev UR:=nY OV D9
abbrev US:=lH OV D9
abbrev OW:=Cg UQ US (aJ UP) (aJ UR)
abbrev tI:List SV:=[fO,dK]
abbrev UT:=IE.v 31
abbrev gP:=aJ UT
abbrev pA:=cY 32
abbrev ww:=iJ gP pA
abbrev pB:=IE.v 33
abbrev oL:=aJ pB
abbrev Ed:=IE.v 34
abbrev pC:=aJ Ed
abbrev yu:=IE.v 35
abbrev rQ:=aJ yu
abbrev qj:=IE.v 36
abbrev rR:=aJ qj
abbrev Aq:=GF oL pC rQ rR
abbrev ql:=lH OU (iU d e)
abbrev uU:=ql qb d
abbrev UU:=uU pB
abbrev rT:=lH OV (iU d e)
abbrev wz:=rT qb d
abbrev UV:=wz Ed
abbrev Ar:List SV:=[fM,dK]
abbrev UW:=ql gm pB
abbrev UX:=ld UP UW
abbrev UY:=fo UQ UW
abbrev UZ:=rT gm Ed
abbrev U0:=ld UR UZ
abbrev U4:=fo US UZ
abbrev rU:=IE.v 37
abbrev lf:=aJ rU
abbrev mj:=IE.v 38
abbrev oM:=aJ mj
abbrev Kj:=iJ lf oM
abbrev jr:=IE.v 39
abbrev nh:=aJ jr
abbrev lN:=IE.v 40
abbrev oN:=aJ lN
abbrev uV:=IE.v 41
abbrev qm:=aJ uV
abbrev As:=IE.v 42
abbrev ml:=aJ As
abbrev Kk:=GF nh oN qm ml
abbrev U5:=uU jr
abbrev U6:=wz lN
abbrev oc:=T.node o (kg u v A) k
abbrev Ee:=oc k o (Cg e g (aJ d) (aJ f)) ax A
abbrev nj:=fP 138 (fP 139 k x fp [v,w] Ac) u fp C qa
abbrev wA:=lJ u fp
abbrev Cq:=wA (Cg (fo f g) j (GG d e) (GG h i))
abbrev ant:=Ee UX UY U0 U4 (nj (Cq UX U5 UY U5 U0 U6 (fo U4 U6)) Kj lf cP Kk tI) Ap fp
abbrev Kl:List SV:=[ez,dK]
abbrev Km:=ql gm jr
abbrev Ko:=rT gm lN
abbrev OX:=IE.v 43
abbrev od:=aJ OX
abbrev uW:=IE.v 44
abbrev wB:=aJ uW
abbrev Kq:=iJ od wB
abbrev wC:=IE.v 45
abbrev At:=aJ wC
abbrev Ef:=IE.v 46
abbrev wD:=aJ Ef
abbrev Kr:=IE.v 47
abbrev yv:=aJ Kr
abbrev GS:=IE.v 48
abbrev Cr:=aJ GS
abbrev GU:=iJ (mY At wD yv) Cr
abbrev Ks:=lH OU (iU qb wC)
abbrev Kt:=wz Ef
abbrev U7:=ql eX pB
abbrev U8:=ld UP U7
abbrev U9:=fo UQ U7
abbrev Va:=rT eX Ed
abbrev Vb:=ld UR Va
abbrev Vc:=fo US Va
abbrev Vd:=ld U8 Km
abbrev Ve:=fo U9 Km
abbrev Vf:=ld Vb Ko
abbrev Vg:=fo Vc Ko
abbrev anu:=Ee Vd Ve Vf Vg (nj (Cq Vd Ks Ve Ks Vf Kt (fo Vg Kt)) Kq od cP GU tI) Ap fp
abbrev Ku:=lH OU (iU gm wC)
abbrev Kv:=rT gm Ef
abbrev tJ:=IE.v 49
abbrev wE:=aJ tJ
abbrev Kw:=IE.v 50
abbrev uX:=aJ Kw
abbrev Vh:=iJ wE uX
abbrev Eg:=IE.v 51
abbrev wF:=aJ Eg
abbrev Kx:=IE.v 52
abbrev rV:=aJ Kx
abbrev oO:=cY 53
abbrev qn:=cY 54
abbrev acY:=GF wF rV oO qn
abbrev Vi:=uU Eg
abbrev Vj:=wz Kx
abbrev anv:=gc (Ee U8 U9 Vb Vc (nj (Cq U8 U5 U9 U5 Vb U6 (fo Vc U6)) Kj lf cP Kk tI) Ap fp) (nj anu Kj lf em Kk Ar) (nj (.node DV anu (nj (Ee (ld Vd Ku) (fo Ve Ku) (ld Vf Kv) (fo Vg Kv) (nj (Cq (ld Vd Ku) Vi (fo Ve Ku) Vi (ld Vf Kv) Vj (fo (fo Vg Kv) Vj)) Vh wE cP acY tI) Ap fp) Kq od em GU Ar)) Kj lf ee Kk Kl) GH DV
abbrev acZ:=ld U8 (ql eX jr)
abbrev ac0:=fo U9 (ql eX jr)
abbrev ac1:=ld Vb (rT eX lN)
abbrev ac2:=fo Vc (rT eX lN)
abbrev ac3:=ld acZ Ku
abbrev ac4:=fo ac0 Ku
abbrev ac5:=ld ac1 Kv
abbrev ac6:=fo ac2 Kv
abbrev anw:=Ee ac3 ac4 ac5 ac6 (nj (Cq ac3 Vi ac4 Vi ac5 Vj (fo ac6 Vj)) Vh wE cP acY tI) Ap fp
abbrev anx:=ld ac3 (ql gm Eg)
abbrev anz:=fo ac4 (ql gm Eg)
abbrev anA:=ld ac5 (rT gm Kx)
abbrev anB:=fo ac6 (rT gm Kx)
abbrev qo:=cY 55
abbrev yw:=IE.v 56
abbrev uY:=aJ yw
abbrev uZ:=cY 57
abbrev u0:=cY 58
abbrev u4:=cY 59
abbrev u5:=cY 60
abbrev qp:=ja (gf 260)
abbrev Vk:=ce cR
abbrev Ky:=BE.not (.and o p)
abbrev ac7:=Ky OF GH
abbrev ac8:List SV:=[ez,ax,DL]
abbrev ac9:List SV:=[ee,cK,kH]
abbrev Vl:=Ky J7 DV
abbrev Vm:List SV:=[fM,ax,DL]
abbrev Vn:List SV:=[em,cK,kH]
abbrev OY:=Ky (ce gu) Ap
abbrev OZ:List SV:=[fO,ax,DL]
abbrev O4:List SV:=[cP,cK,kH]
abbrev Kz:=BE.v 12
abbrev O5:=SV.bool Kz
abbrev O6:=T.node o k tA
abbrev KC:=hU 134 qp k o u [] C
abbrev wG:=KC (KC k p v D) o u C
abbrev anC:=O6 (wG tA (z6 9) (z6 10) (uI 9) (uI 10) OZ O4) OY
abbrev anD:=O6 (wG tA Ol (z6 8) DM JZ OZ O4) OY
abbrev anE:=T.node Vl (wG anC Ol (z6 8) DM JZ Vm Vn) anD
abbrev anF:=O6 (wG tA JY Oj yk zZ OZ O4) OY
abbrev anG:=T.node Vl (wG anD JY Oj yk zZ Vm Vn) anF
abbrev anH:=T.node ac7 (wG anE JY Oj yk zZ ac8 ac9) anG
abbrev KD:=fo dH (nY bh dH)
abbrev tK:=ja (gf 140)
abbrev anI:=eA cg (.c 32768)
abbrev ada:=nY bh cg
abbrev anJ:=kZ (lH (iU bG bG) (iU bA bA)) (iU cg cg)
abbrev eZ:=et (gf 250) fp
abbrev jY:=T.bj eP k
abbrev nl:=jY eZ
abbrev Cs:=IE.c 16
abbrev O7:List SV:=[fA,cH]
abbrev Vo:=iJ fZ ez
abbrev km:=RK.mr ⟨142,4,2,J,E⟩
abbrev O8:=cj dH oG
abbrev tL:=BE.and Al O8
abbrev Vp:=IE.cell mZ dH 2
abbrev adb:=jM (.cell mZ dH 9)
abbrev KE:=kh dH mZ
abbrev e9:=T.back a [u,v]
abbrev nq:=e9 0 u v
abbrev adc:=nq Kc gW
abbrev ade:=nq Kc iQ
abbrev Vq:=RK.own 142
abbrev KF:=jf mI
abbrev Eh:=LE.ref oH
abbrev Ei:=eB gk
abbrev Ej:List SV:=[fA,cH,ez]
abbrev GV:List RK:=[aE,aC,aF,aG,ak,aY]
abbrev oP:List RK:=[aE,aC,aF,aG,ak,aY,ak]
abbrev Ek:=gf 270
abbrev KG:=jf mH
abbrev KH:=LE.ref n9
abbrev adf:=LE.kz Cn KH
abbrev anK:List RK:=[aE,aC,aF,aG,ak,aY,ak,gO]
abbrev nu:=cj d mH
abbrev Vr:=nu cN
abbrev KI:=OL Vr
abbrev O9:=rL gk
abbrev Vs:=BE.and (fz gk) O9
abbrev Vt:=iB gk oI
abbrev tM:=cj d tB
abbrev El:=BE.and (fz gk) (tM gk)
abbrev Ct:=IE.len uM
abbrev Vu:=jf Ct
abbrev Pa:=LE.ref uM
abbrev wH:=SV.agg [ax,ax,ax,ax,ax,ax,ax,ax,ax,ax,ax,ax,ax]
abbrev adg:List SV:=[ee,fM,em,fO,cP,ke,jd,iW,iw,iH,kJ,iI,kf]
abbrev wI:=SV.agg adg
abbrev Pb:List RK:=[aE,aC,aF,aG,ak,aY,ak,wu]
abbrev wJ:List LK:=[aK,aK,aK,aK,aK,aK,aK,aK,aK,aK,aK,aK,aK,aK]
abbrev wK:=cY 61
abbrev wL:=cY 62
abbrev anL:=SV.agg [uX,wF,rV,oO,qn,qo,uY,uZ,u0,u4,u5,wK,wL]
abbrev Au:=cY 63
abbrev dR:=gC d cm
abbrev Vv:=dR gU
abbrev dY:=gC d jW
abbrev Vw:=dY gU
abbrev yz:=fq gU
abbrev yA:=fQ gU
abbrev yB:=uS gU
abbrev yC:=gC d (.c 6)
abbrev Av:=yC gU
abbrev tN:=gC d wm
abbrev GX:=tN gU
abbrev Em:=gC d jc
abbrev GY:=Em gU
abbrev G0:=Am gU
abbrev nx:=IE.cF o d (.cF p e f)
abbrev anM:=nx bh bh (nx bh cm bh GY G0) Av GX
abbrev iX:=nx d e (.cF q f bh) o p
abbrev Vx:=iX bh bh bh GX GY G0
abbrev anN:=nx bh bh (.cF yB bh (.cF Av bh Vx)) yz yA
abbrev anO:=nx jc jc (.cF yB jc (.cF Av bh Vx)) yz yA
abbrev u6:=aJ (nx d e f o p)
abbrev Aw:=u6 d e f Vv Vw
abbrev anP:=Aw bh bh (nx cm cm (.cF yB cm anM) yz yA)
abbrev anQ:=Aw bh bh (nx jb jb (nx jb bh (iX bh bh jb GX GY G0) yB Av) yz yA)
abbrev Ax:=uJ wH cK
abbrev G1:=jM eX
abbrev jO:=eo e f (fz d)
abbrev adh:=jO G1 G1 rN
abbrev En:=ce G1
abbrev Eo:=dR G1
abbrev Ep:=dY G1
abbrev Es:=fq G1
abbrev G2:=fQ G1
abbrev rW:=BE.cF o p (.cF q r s)
abbrev wM:=rW o eP p eP q
abbrev Vy:=rW o p q r (.cF s t eO)
abbrev G3:=Vy o eP p eP q eP
abbrev u7:=wM o p (G3 q r s)
abbrev adi:=u7 En Eo Ep Es G2
abbrev wN:=nZ d (iU e f)
abbrev jg:=aJ (.cF o bh d)
abbrev anR:=SV.agg [wN bG mF pB,wN bA mF Ed,dK,jg cR En,jg b9 En,jg gj Eo,jg dW Eo,jg ew Ep,jg dH Ep,jg cN Es,jg gk Es,jg gu G2,jg eI G2]
abbrev wO:=uJ wH jL
abbrev anS:=SV.agg [wN bG mF pB,wN bA mF Ed,dK,ax,ax,ax,ax,ez,ee,fM,em,fO,cP]
abbrev anT:=SV.agg [gV,gM,dK,ng,nf,gZ,cH,ez,ee,fM,em,fO,cP]
abbrev pD:=dl UT
abbrev iY:=gv a (.node o k l) u A C
abbrev Ay:=iY a wO (lc w) o v A [u]
abbrev anU:=Ay 74 pD anT gP anT []
abbrev anV:=SV.agg [gV,gM,dK,eu,gA,ng,nf,ez,ee,fM,em,fO,cP]
abbrev anW:=Ay 74 pD anV gP anV []
abbrev anX:=SV.agg [gV,gM,dK,eu,gA,gZ,cH,ng,nf,fM,em,fO,cP]
abbrev anY:=Ay 74 pD anX gP anX []
abbrev anZ:=SV.agg [gV,gM,dK,eu,gA,gZ,cH,ez,ee,ng,nf,fO,cP]
abbrev an1:=Ay 74 pD anZ gP anZ []
abbrev adj:=T.stuck ""
abbrev Et:=Cl eX
abbrev KJ:=ce Et
abbrev KK:=dR Et
abbrev KL:=dY Et
abbrev KM:=fq Et
abbrev Vz:=SV.agg [gV,gM,dK,eu,gA,gZ,cH,ez,ee,fM,em,ng,nf]
abbrev KN:=DP d e .rem
abbrev VA:=SV.agg [gV,gM,KN (lH cg mF) jc,eu,gA,gZ,cH,ez,ee,fM,em,fO,cP]
abbrev VB:=SV.agg [gV,gM,dK,eu,gA,gZ,cH,ax,ax,ax,ax,fO,cP]
abbrev VC:=SV.agg [gV,gM,dK,ax,ax,ax,ax,ez,ee,fM,em,fO,cP]
abbrev adk:=jO Et Et rN
abbrev Pc:=fQ Et
abbrev adl:=u7 KJ KK KL KM Pc
abbrev VD:=SV.agg [gV,gM,dK,jg cR KJ,jg b9 KJ,jg gj KK,jg dW KK,jg ew KL,jg dH KL,jg cN KM,jg gk KM,jg gu Pc,jg eI Pc]
abbrev Eu:=T.stuck ""
abbrev KO:=aX k l m o (kZ d e)
abbrev G4:=fP a k u A C [aK,aK,aK]
abbrev Az:=gv a k gP [] [u]
abbrev AA:=T.node o k (lc u)
abbrev an2:=KO rP dX Ax Ax (aX (lc rO) (fP 138 (G4 376 (cd (Ay 74 (dl qj) anR rR anR []) adh adi) (uK oL pC rQ) [] [gP]) ww [] [iI,dK] qa) (aX (fP 138 (G4 376 (Ay 74 (dl qj) anS rR anS []) (uK oL pC rQ) [] [gP]) ww [] [iI,dK] qa) (aX anU anW (aX anY an1 adj Ep Es) En Eo) (aX (aX anU anW (aX anY an1 adj KL KM) KJ KK) (Az 74 (AA wO pD Vz) Vz) (aX (Az 74 (AA wO pD VA) VA) (Az 74 (AA wO pD VB) VB) (aX (Az 74 (AA wO pD VC) VC) (cd (Az 74 (AA wO pD VD) VD) adk adl) Eu GY G0) Av GX) yA yB) Vw yz) oE Vv) Ol
abbrev Pd:=T.node oE Ax Ax
abbrev G5:=et u ki
abbrev Pe:=G5 jL
abbrev ef:=G5 (gf 130)
abbrev Cu:=Cl cg
abbrev VE:=IE.c (-65536)
abbrev Pf:=kh bA jK
abbrev Ew:=IE.c 65536
abbrev Pg:=qg 2 bA
abbrev adm:=cj b9 tC
abbrev adn:=iB b9 lK
abbrev ado:=cj dW J4
abbrev adp:=iB dW pn
abbrev adq:=kh dW pn
abbrev pE:List RK:=[aE,aC,aF,aG,ak,bo,aR,aj,ac,ap]
abbrev G6:=yr ax fZ fZ fZ fZ fZ
abbrev VF:=kg G6 cK pE
abbrev qr:=IE.len na
abbrev adr:=iJ G6 (gf 310)
abbrev Cv:=et adr pE
abbrev Ph:=nu dH
abbrev Ex:=BE.and Al Ph
abbrev KP:=eo dH mI Al
abbrev KQ:=eo dH rK Al
abbrev Cw:=SV.ref (.cell F d a .str)
abbrev iS:=eJ a d n9
abbrev ny:=iS a dH
abbrev ads:=SV.agg [Cw 0 dH n9,ny 1,ny 2,ny 3,ny 4,ny 5,ny 6,ny 7,ny 8,ny 9,ny 10,ny 11,ny 12,ny 13,ny 14,ny 15,ny 16]
abbrev G7:=eJ a d oI
abbrev u9:=G7 a dH
abbrev adt:List SV:=[.agg [u9 0,u9 1,u9 2,u9 3,u9 4,u9 5,u9 6,u9 7,u9 8,u9 9,u9 10,u9 11,u9 12]]
abbrev VG:=BE.not DV
abbrev yD:=BE.cell F d 0
abbrev adu:=yD dH oH
abbrev adv:=BE.not (ce gu)
abbrev KR:=LK.ref aj
abbrev yE:=LK.ref ac
abbrev dI:=RK.own 82
abbrev VH:List LK:=[aK,.ref cX,.ref dI,OO]
abbrev VI:List SV:=[ax,fZ,fZ,fZ]
abbrev tO:=cj d mI
abbrev KS:=OL (tO cN)
abbrev KT:=eo cN qr GN
abbrev G8:=SV.ref (.cell F d a aY)
abbrev adw:=G8 0 cN na
abbrev VJ:List LK:=[.ref aY]
abbrev adx:=RE.v 15
abbrev tP:=SV.ref adx
abbrev G9:=RE.v 13
abbrev VK:=IE.len G9
abbrev VL:=jf VK
abbrev ady:=LE.ref G9
abbrev adz:List RK:=[aE,aC,aF,aG,ak,bo,aR,aj,ac,ap,aj,ac,cX,.dead,co,aY,dI]
abbrev vc:=G7 a cN
abbrev VM:List SV:=[vc 0,vc 1,vc 2,vc 3,vc 4,vc 5,vc 6,vc 7,vc 8,vc 9,vc 10,vc 11,vc 12]
abbrev adA:List RK:=[aE,aC,aF,aG,ak,bo,aR,aj,ac,ap,aj,ac,.dead,.dead,.dead,aY,.dead]
abbrev an3:List SV:=[em,fO,cP,ke,jd,iW,iw,iH,kJ,iI,kf,kK,qi]
abbrev adB:List RK:=[aE,aC,aF,aG,ak,bo,aR,aj,ac,ap,aj,ac,ac,.dead,ar,aY,ap]
abbrev fT:=iS a cN
abbrev an4:=SV.agg [Cw 0 cN n9,fT 1,fT 2,fT 3,fT 4,fT 5,fT 6,fT 7,fT 8,fT 9,fT 10,fT 11,fT 12,fT 13,fT 14,fT 15,fT 16]
abbrev Hd:=jf Ai
abbrev Pj:=LE.ref OI
abbrev VN:List RK:=[aE,aC,aF,aG,ak,bo,aR,aj,ac,ap,aj,ac,.dead,.dead,co,aY,dI,cX]
abbrev He:=RE.v 14
abbrev an5:=IE.len He
abbrev VO:=jf an5
abbrev VP:=LE.ref He
abbrev an6:List RK:=[aE,aC,aF,aG,ak,bo,aR,aj,ac,ap,aj,ac,.dead,.dead,.dead,aY,dI,cX,co]
abbrev adC:=RE.v 17
abbrev AB:=SV.ref adC
abbrev Hf:=RE.v 16
abbrev Cx:=SV.ref Hf
abbrev AC:=RE.v 18
abbrev tQ:=SV.ref AC
abbrev tR:=T.back 1 C
abbrev an7:=tR [Cm,AB,Cx,tQ]
abbrev Ey:=iJ (.agg C) u
abbrev adD:=Ey jd [em,fO,cP,ke]
abbrev KU:=dl eW
abbrev rX:=SV.ref G9
abbrev qu:=SV.ref He
abbrev adF:List RK:=[aE,aC,aF,aG,ak,bo,aR,aj,ac,ap,aj,ac,ac,ap,ar]
abbrev adG:=eA tB jc
abbrev Pl:=lL dW
abbrev rY:=IE.len mi
abbrev tS:=qh (gf 310) uN
abbrev VQ:=eo dH Ct Al
abbrev an8:List SV:=[fA,ee,cH,.ref (Ci 0 dH uM)]
abbrev an9:=BE.not (ce (.len (Ci 0 dH uM)))
abbrev Ez:=eo cN rY GN
abbrev VR:=dD (eJ 0 cN mi) (eJ 1 cN mi) (eJ 2 cN mi) (eJ 3 cN mi)
abbrev vd:=eJ a cN na
abbrev aoa:List SV:=[.agg [vd 0,vd 1,vd 2,vd 3,vd 4,vd 5,vd 6,vd 7,vd 8,vd 9,vd 10,vd 11,vd 12]]
abbrev VS:=tR [Cm]
abbrev Hg:List SV:=[.agg C,u]
abbrev EA:=eJ a d n8
abbrev tT:=EA a gk
abbrev aob:=Hg cH [tT 0,tT 1,tT 2,tT 3,tT 4,tT 5,tT 6,tT 7]
abbrev aoc:=iJ (dD fO cP ke jd) iW
abbrev VT:=dl fK
abbrev vf:List RK:=[aE,aC,aF,aG,ak,bo,aR,aj,ac,ac,ap,ar,aj]
abbrev KV:=fz gu
abbrev VU:=BE.and KV (nu gu)
abbrev VV:=eo gu mI KV
abbrev VW:=eo gu rK KV
abbrev VX:=eo gu Ct KV
abbrev Pm:=G8 0 gu uM
abbrev azB:=IE.len adx
abbrev VY:=jf azB
abbrev VZ:=LE.ref adx
abbrev adH:List RK:=[aE,aC,aF,aG,ak,bo,aR,aj,ac,ac,ap,ar,aj,ac,cX,.dead,co,aY,dI]
abbrev vg:=G7 a gu
abbrev adI:List SV:=[vg 0,vg 1,vg 2,vg 3,vg 4,vg 5,vg 6,vg 7,vg 8,vg 9,vg 10,vg 11,vg 12]
abbrev Pn:=SV.agg adI
abbrev adJ:List RK:=[aE,aC,aF,aG,ak,bo,aR,aj,ac,ac,ap,ar,aj,ac,.dead,.dead,.dead,aY,.dead]
abbrev V4:List SV:=[cP,ke,jd,iW,iw,iH,kJ,iI,kf,kK,qi,pu,tG]
abbrev adK:List RK:=[aE,aC,aF,aG,ak,bo,aR,aj,ac,ac,ap,ar,aj,ac,ac,.dead,ar,aY,ap]
abbrev qw:=iS a gu
abbrev adL:=SV.agg [Cw 0 gu n9,qw 1,qw 2,qw 3,qw 4,qw 5,qw 6,qw 7,qw 8,qw 9,qw 10,qw 11,qw 12,qw 13,qw 14,qw 15,qw 16]
abbrev aod:List SV:=[fA,fO,cH,Pn,adL,Pm]
abbrev V5:List SV:=[tH,wv,ng,nf]
abbrev V6:List RK:=[aE,aC,aF,aG,ak,bo,aR,aj,ac,ac,ap,ar,aj,ac,.dead,.dead,co,aY,dI,cX]
abbrev aoe:=IE.len Hf
abbrev V7:=jf aoe
abbrev V9:=LE.ref Hf
abbrev aof:List RK:=[aE,aC,aF,aG,ak,bo,aR,aj,ac,ac,ap,ar,aj,ac,.dead,.dead,.dead,aY,dI,cX,co]
abbrev rZ:=RE.v 19
abbrev tU:=SV.ref rZ
abbrev sa:=RE.v 20
abbrev pF:=SV.ref sa
abbrev Cy:=T.back 3 C
abbrev aog:=Cy [eB gu,tU,tQ,pF]
abbrev adM:=Ey iw [cP,ke,jd,iW]
abbrev Hh:=dl gN
abbrev KW:=iJ fZ iw
abbrev adN:=LE.lit [[cP,ke,jd,iW]]
abbrev aZ:=RK.mr ⟨118,4,3,J,E⟩
abbrev Cz:=pw aZ
abbrev aoh:=fz eI
abbrev aoi:=BE.and aoh (nu eI)
abbrev yF:=eo eI d aoh
abbrev aoj:=yF an5
abbrev Po:=LE.ref adC
abbrev aok:List RK:=[aE,aC,aF,aG,ak,bo,aR,aj,ac,ac,ap,ar,aj,ac,cX,dI,co,aZ]
abbrev Wa:=yF aoe
abbrev Wb:=yF rY
abbrev Hj:=dD (eJ a d F) u v w
abbrev CA:=eJ a d mi
abbrev aol:List SV:=[Hj 0 eI (eJ 1 eI Hf) (eJ 2 eI Hf) (eJ 3 eI Hf) Hf,dD (CA 0 eI) (CA 1 eI) (CA 2 eI) (CA 3 eI)]
abbrev aom:List RK:=[aE,aC,aF,aG,ak,bo,aR,aj,ac,ac,ap,ar,aj,ac,.dead,.dead,.dead,aZ,aZ]
abbrev adO:=iJ fZ ke
abbrev aon:=LE.ref AC
abbrev adP:=yD eI oH
abbrev adQ:List SV:=[fA,cP,cH]
abbrev adR:=iJ fZ jd
abbrev Pp:=IE.len sa
abbrev adS:=cj fK Pp
abbrev yG:=fz fK
abbrev wP:=Ci 0 eI uM
abbrev Wc:=cj gN (.len wP)
abbrev EB:=BE.and (fz gN) Wc
abbrev We:=iB gN wP
abbrev KY:=iB fK sa
abbrev qy:=iS a eI
abbrev KZ:=SV.agg [Cw 0 eI n9,qy 1,qy 2,qy 3,qy 4,qy 5,qy 6,qy 7,qy 8,qy 9,qy 10,qy 11,qy 12,qy 13,qy 14,qy 15,qy 16]
abbrev adT:List RK:=[aE,aC,aF,aG,ak,bo,aR,aj,ac,ac,ap,ar,aj,ac,.dead,.dead,.dead,aZ,aZ,aZ,ak,aZ]
abbrev K0:List LK:=[.ref aY,aK]
abbrev jP:=SV.ref (.v a)
abbrev wQ:=jP 22
abbrev adU:=iJ fZ iH
abbrev aoo:=et adU [aE,aC,aF,aG,ak,bo,aR,aj,ac,ac,ap,ar,aj,ac,ac,ap,ar,aZ,aZ,aZ,ak,aZ,aY]
abbrev sc:=SV.bool (.cell F d a)
abbrev adV:=dD (aJ We) (eJ 1 gN wP) (eJ 2 gN wP) (sc 3 gN wP)
abbrev adW:List RK:=[aE,aC,aF,aG,ak,bo,aR,aj,ac,ac,ap,ar,aj,ac,.dead,.dead,.dead,aZ,aZ,aZ,ak,aZ,aY]
abbrev Hk:=RE.v 21
abbrev Wf:=LE.ref Hk
abbrev aop:=LE.ins Wf 3 [cK,cP,nZ cm KY,gG]
abbrev adX:List RK:=[aE,aC,aF,aG,ak,bo,aR,aj,ac,ac,ap,ar,aj,ac,cX,dI,co,aZ,aZ,aZ,ak,aZ,aY]
abbrev adY:=IE.cell sa fK 4
abbrev Wg:=tN adY
abbrev K1:=BE.cell F d 3
abbrev wR:=BE.not (K1 gN wP)
abbrev wS:=eJ a fK sa
abbrev aoq:List SV:=[fA,Uu,.agg [aJ KY,wS 1,wS 2,wS 3,aJ adY,wS 5,wS 6,wS 7,wS 8,wS 9,wS 10,wS 11,wS 12,wS 13]]
abbrev K2:=RE.v 23
abbrev Pq:=LE.ref K2
abbrev aor:List SV:=[kH,cP,nZ cm KY,gG]
abbrev K3:=jP 24
abbrev EC:=SV.ref K2
abbrev ED:=e9 a (eB fK) u
abbrev EE:=ED 5 EC
abbrev yH:=hU a k l GA mf A C
abbrev Hl:=T.rows M (.ins H a C) A k
abbrev qz:=Hl 3 k A C H aZ
abbrev adZ:=yH 103 (qz (ED 5 K3) [aE,aC,aF,aG,ak,bo,aR,aj,ac,ac,ap,ar,aj,ac,cX,dI,co,aZ,aZ,aZ,ak,aZ,aY,aZ] aor Pq) EE [aE,aC,aF,aG,ak,bo,aR,aj,ac,ac,ap,ar,aj,ac,.dead,.dead,.dead,aZ,aZ,aZ,ak,aZ,aY,aZ] aoq
abbrev Wh:=Em adY
abbrev tV:=SV.ref Hk
abbrev vi:=ED 5 tV
abbrev ad0:=yH 103 (qz EE adX aor Wf) vi adW aoq
abbrev ad1:=T.back 6 [eB gN]
abbrev ad2:=Hj 0 J5 (eJ 1 J5 wP) (eJ 2 J5 wP) (sc 3 J5 wP) wP
abbrev K4:=BE.not (K1 J5 wP)
abbrev aos:=mJ adZ EE eO eO K4
abbrev aot:=mJ ad0 vi eO eO K4
abbrev vj:=G7 a eI
abbrev ad3:List SV:=[fA,cP,cH,.agg [vj 0,vj 1,vj 2,vj 3,vj 4,vj 5,vj 6,vj 7,vj 8,vj 9,vj 10,vj 11,vj 12],gW,.ref wP]
abbrev EF:=RK.sl 200
abbrev ad4:List LK:=[.ref EF,aK]
abbrev EG:=IE.len (.v a)
abbrev ad5:=cj gU (EG 22)
abbrev Hm:=fz gU
abbrev Hn:=eB gU
abbrev EH:=eB eI
abbrev Ho:List SV:=[ax,tQ]
abbrev K5:=IE.len rZ
abbrev ad6:=cj fK K5
abbrev K6:=iB fK rZ
abbrev ad7:List RK:=[aE,aC,aF,aG,ak,bo,aR,aj,ac,ac,ap,ar,aj,ac,.dead,.dead,.dead,aZ,aZ,ak,aZ]
abbrev aou:=et adU [aE,aC,aF,aG,ak,bo,aR,aj,ac,ac,ap,ar,aj,ac,ac,ap,ar,aZ,aZ,ak,aZ,aY]
abbrev ad8:List RK:=[aE,aC,aF,aG,ak,bo,aR,aj,ac,ac,ap,ar,aj,ac,.dead,.dead,.dead,aZ,aZ,ak,aZ,aY]
abbrev ad9:=LE.ref sa
abbrev aov:=LE.ins ad9 3 [cK,cP,nZ cm K6,gG]
abbrev aea:List RK:=[aE,aC,aF,aG,ak,bo,aR,aj,ac,ac,ap,ar,aj,ac,cX,dI,co,aZ,aZ,ak,aZ,aY]
abbrev aeb:=IE.cell rZ fK 4
abbrev Wi:=tN aeb
abbrev wT:=eJ a fK rZ
abbrev aow:List SV:=[fA,Uu,.agg [aJ K6,wT 1,wT 2,wT 3,aJ aeb,wT 5,wT 6,wT 7,wT 8,wT 9,wT 10,wT 11,wT 12,wT 13]]
abbrev aox:List SV:=[kH,cP,nZ cm K6,gG]
abbrev EI:=ED 5 wQ
abbrev EJ:=LE.ref (.v a)
abbrev aec:=yH 103 (qz EE [aE,aC,aF,aG,ak,bo,aR,aj,ac,ac,ap,ar,aj,ac,cX,dI,co,aZ,aZ,ak,aZ,aY,aZ] aox (EJ 22)) EI [aE,aC,aF,aG,ak,bo,aR,aj,ac,ac,ap,ar,aj,ac,.dead,.dead,.dead,aZ,aZ,ak,aZ,aY,aZ] aow
abbrev Wj:=Em aeb
abbrev K7:=ED 5 pF
abbrev aed:=yH 103 (qz EI aea aox ad9) K7 ad8 aow
abbrev aoy:=mJ aec EI eO eO K4
abbrev aoz:=mJ aed K7 eO eO K4
abbrev aee:=cj gU (.len Hk)
abbrev Wk:=BE.and Hm aee
abbrev yI:=hJ a k u v A C [.ref ak,aK]
abbrev sd:=cd k (.and o p) (.and q r)
abbrev qA:=gD a k l o [ax] [aK]
abbrev se:=mJ k l EB EB o
abbrev K8:=T.node o k (cd l p q)
abbrev K9:=T.rows aZ H A k
abbrev wU:=gD a k l o [ax,u] P
abbrev aoA:=T.node adP (yI 77 (iK (gD 5 (sd (qA 6 (se (hJ 78 (K8 aou (wq 102 (jq (K9 (aX (se aec EI wR) (se aec EI wR) EI Wi Wj) aea aov) (se aed K7 wR) (se aed K7 wR) K7 rE Wi Wj) ad8 [tV,adV]) DN EB EB) tV iH ad7 [fA,aJ K6,KZ] K0) ad1 (gC We K6)) (hJ 78 (K8 aou (wq 102 (jq (K9 (aX aoy aoy EI Wi Wj) aea aov) aoz aoz K7 rE Wi Wj) ad8 [tV,ad2]) DN eO eO) tV iH ad7 [fA,aJ K6,KZ] K0) Wc) yG ad6 yG ad6) (hJ 104 (iK (wU 6 (cd (qz (e9 6 Hn EC) [aE,aC,aF,aG,ak,bo,aR,aj,ac,ac,ap,ar,aj,ac,cX,dI,co,aZ,aZ,ak,aZ,EF,aZ] [jL,cP,nZ cm (kh gU Hk),gG] (EJ 22)) Wk Wk) (e9 4 EH wQ) aee pF Cz) Hh KW [aE,aC,aF,aG,ak,bo,aR,aj,ac,ac,ap,ar,aj,ac,ac,ap,ar,aZ,aZ,ak,aZ,EF]) tV iw ad7 ad3 ad4) ad6 Ho Cz) KU adR [aE,aC,aF,aG,ak,bo,aR,aj,ac,ac,ap,ar,aj,ac,ac,ap,ar,aZ,aZ,ak]) tU jd aom adQ) (e9 4 EH tQ)
abbrev aef:List RK:=[aE,aC,aF,aG,ak,bo,aR,aj,ac,ac,ap,ar,aj,ac,.dead,.dead,.dead,aZ]
abbrev Pr:List SV:=[ax,AB]
abbrev Ps:=IE.len AC
abbrev aeg:=cj fK Ps
abbrev La:=iB fK AC
abbrev aeh:List RK:=[aE,aC,aF,aG,ak,bo,aR,aj,ac,ac,ap,ar,aj,ac,.dead,.dead,.dead,aZ,ak,aZ]
abbrev aoB:=et adU [aE,aC,aF,aG,ak,bo,aR,aj,ac,ac,ap,ar,aj,ac,ac,ap,ar,aZ,ak,aZ,aY]
abbrev aei:List RK:=[aE,aC,aF,aG,ak,bo,aR,aj,ac,ac,ap,ar,aj,ac,.dead,.dead,.dead,aZ,ak,aZ,aY]
abbrev Lb:=LE.ref rZ
abbrev aoC:=LE.ins Lb 3 [cK,cP,nZ cm La,gG]
abbrev aej:List RK:=[aE,aC,aF,aG,ak,bo,aR,aj,ac,ac,ap,ar,aj,ac,cX,dI,co,aZ,ak,aZ,aY]
abbrev aek:=IE.cell AC fK 4
abbrev Wl:=tN aek
abbrev wV:=eJ a fK AC
abbrev aoD:List SV:=[fA,Uu,.agg [aJ La,wV 1,wV 2,wV 3,aJ aek,wV 5,wV 6,wV 7,wV 8,wV 9,wV 10,wV 11,wV 12,wV 13]]
abbrev aoE:List SV:=[kH,cP,nZ cm La,gG]
abbrev ael:=yH 103 (qz EI [aE,aC,aF,aG,ak,bo,aR,aj,ac,ac,ap,ar,aj,ac,cX,dI,co,aZ,ak,aZ,aY,aZ] aoE Wf) vi [aE,aC,aF,aG,ak,bo,aR,aj,ac,ac,ap,ar,aj,ac,.dead,.dead,.dead,aZ,ak,aZ,aY,aZ] aoD
abbrev Wm:=Em aek
abbrev Lc:=ED 5 tU
abbrev aem:=yH 103 (qz vi aej aoE Lb) Lc aei aoD
abbrev aoF:=mJ ael vi eO eO K4
abbrev aoG:=mJ aem Lc eO eO K4
abbrev aen:=cj gU Pp
abbrev aoH:List LK:=[.ref ec,aK]
abbrev AD:=fz eW
abbrev Wn:=nu eW
abbrev tW:=BE.and AD Wn
abbrev azC:=SV.agg [iW,iw,iH,kJ]
abbrev azD:=iJ azC iI
abbrev EK:=eB eW
abbrev aeo:=cj fK qr
abbrev aep:=dl qb
abbrev qB:=RK.sl 202
abbrev Hp:=aJ (.c 6)
abbrev aoI:List RK:=[aE,aC,aF,aG,ak,bo,aR,aj,ac,ac,ap,ar,aj,ac,cX,dI,co,aZ,ec,ar,co,qB,aZ,aZ]
abbrev aeq:=cj eX Ps
abbrev Pt:=fz eX
abbrev vk:=iB eX AC
abbrev aoJ:=eo vk K5 (fz vk)
abbrev vl:=kh eX AC
abbrev aoK:=eo vl K5 (fz vl)
abbrev aoL:List RK:=[aE,aC,aF,aG,ak,bo,aR,aj,ac,ac,ap,ar,aj,ac,.dead,.dead,.dead,aZ,ec,ar,.dead,qB,aZ,aZ]
abbrev aoM:List RK:=[aE,aC,aF,aG,ak,bo,aR,aj,ac,ac,ap,ar,aj,ac,ac,ap,ar,aZ,ec,ar,ar,qB,aZ,aZ]
abbrev aoN:=eo vk Pp (fz vk)
abbrev aoO:=eo vl Pp (fz vl)
abbrev Pu:=aJ Et
abbrev Wo:=jP 25
abbrev aoP:=qz (qz (e9 8 Pu Wo) [aE,aC,aF,aG,ak,bo,aR,aj,ac,ac,ap,ar,aj,ac,cX,dI,co,aZ,ec,ar,co,qB,aZ,aZ,aZ] [Hp,aJ vl,ax,gG] (EJ 24)) aoI [Hp,aJ vk,ax,gG] Pq
abbrev Ld:=RK.own 118
abbrev nz:=RK.mr ⟨3,1099511627778,1,E,E⟩
abbrev Pv:=IE.len K2
abbrev aoQ:List RK:=[aE,aC,aF,aG,ak,bo,aR,aj,ac,ac,ap,ar,aj,ac,cX,dI,co,aZ,ec,ar,co,qB,aZ,aZ,Ld,nz]
abbrev Le:=RE.v 26
abbrev Pw:=IE.len Le
abbrev Px:=iB (jM Pw) Le
abbrev Wp:=jP 27
abbrev aer:=SV.ref Le
abbrev wW:=RK.own 98
abbrev aoR:=mL gm (cj gm Pw)
abbrev CB:List RK:=[aE,aC,aF,aG,ak,bo,ar,ar,ec]
abbrev Py:=qh (gf 290) CB
abbrev kn:=eJ a d oH
abbrev aoS:List SV:=[dD (kn 0 cN) (kn 1 cN) (kn 2 cN) (kn 3 cN)]
abbrev wX:=RK.own 202
abbrev aes:List LK:=[aK,.ref wX,.ref km]
abbrev Wq:List SV:=[ax,fZ,fZ]
abbrev aet:=qh (gf 290) [aE,aC,aF,aG,ak,bo,ar,ar,ec,qB,km]
abbrev aeu:=kh gk oI
abbrev AE:=T.back 2 C
abbrev aev:=cd (jq aet aet aet (Hl 2 (AE [Ei,po,yq]) [aE,aC,aF,aG,ak,bo,ar,ar,ec,wX,km] [aJ Vt,aJ aeu,gG] Pa km) (n7 Vt) (jN Vt aeu) (jN aeu iv)) Vs Vs
abbrev aew:List LK:=[aK,OO,.ref wX]
abbrev aex:List SV:=[ax,fZ,po]
abbrev Pz:=tM gu
abbrev Wr:=jf rY
abbrev Lf:=LE.ref mi
abbrev oe:=fP a k u A C yo
abbrev EL:=EA a gu
abbrev nA:=T.bj o (.new a H A B k)
abbrev tX:=nA a k o A B (.kz H R)
abbrev aey:=sd (oe 25 (iK (tX 65 (Cy [eB gu,rX,rM]) Wr [aE,aC,aF,aG,ak,bo,ar,ar,ec,.dead,km,co,wX] [aE,aC,aF,aG,ak,bo,ar,ar,ec,.dead,km,.dead,wX,co] Lf adN) Hh KW [aE,aC,aF,aG,ak,bo,ar,ar,ec,.dead,km,ar,qB]) adM [aE,aC,aF,aG,ak,bo,ar,ar,ec,.dead,km,.dead,.dead] (Hg cH [EL 0,EL 1,EL 2,EL 3,EL 4,EL 5,EL 6,EL 7])) KV Pz KV Pz
abbrev aez:List LK:=[aK,.ref wX]
abbrev AF:=eB dX
abbrev vn:=T.loop a aez C (gc k l m o p)
abbrev CC:=BE.look F a d e bh b
abbrev aeA:=vn 5 acW (.back 5 [AF,qu]) (e9 4 EH qu) (iA dX) (.not (CC 2 2 eI dX uM)) [EH,rX]
abbrev Ws:=nu dX
abbrev aeB:=BE.not (CC 2 2 dX eW uM)
abbrev yJ:=fz dX
abbrev Lg:=BE.and yJ Ws
abbrev nC:=iS a eW
abbrev Wt:=dD (nC 0) (nC 1) (nC 2) (nC 3)
abbrev aeC:List SV:=[dD (iS 0 dX) (iS 1 dX) (iS 2 dX) (iS 3 dX),Wt]
abbrev aeD:List RK:=[aE,aC,aF,aG,ak,bo,ar,ar,ec,.dead,km,.dead,.dead,.dead,.dead,.dead]
abbrev aoT:List RK:=[aE,aC,aF,aG,ak,bo,ar,ar,ec,.dead,km,co,.dead,.dead,.dead,.dead,wX]
abbrev Wu:=e9 6 EK Cx
abbrev gX:=tX a k o A B H (.lit [C])
abbrev aeE:=gX 202 Wu VY [aE,aC,aF,aG,ak,bo,ar,ar,ec,.dead,km,co,.dead,.dead,.dead,wX] aoT [cK,ke,jd] VZ
abbrev Lh:=T.back 6 [EK,tP]
abbrev aeF:=e9 5 AF tP
abbrev aeG:=BE.not (CC 2 2 eW fK uM)
abbrev Wv:=tO fK
abbrev wY:=BE.and yG Wv
abbrev Ww:=dD (kn 0 fK) (kn 1 fK) (kn 2 fK) (kn 3 fK)
abbrev aeH:List RK:=[aE,aC,aF,aG,ak,bo,ar,ar,ec,.dead,km,.dead,.dead,.dead,.dead,.dead,.dead]
abbrev aoU:List RK:=[aE,aC,aF,aG,ak,bo,ar,ar,ec,.dead,km,co,.dead,.dead,.dead,.dead,.dead,wX]
abbrev Wy:=ED 7 AB
abbrev aeI:=gX 202 Wy V7 aoT aoU [jL,jd,iW] V9
abbrev Wz:List SV:=[eB fK,Cx]
abbrev Li:=T.back 7 Wz
abbrev aeJ:=BE.not (CC 2 2 fK gN uM)
abbrev Lj:=eo gN mH (fz gN)
abbrev aeK:List SV:=[Ww,dD (iS 0 gN) (iS 1 gN) (iS 2 gN) (iS 3 gN)]
abbrev aeL:List RK:=[aE,aC,aF,aG,ak,bo,ar,ar,ec,.dead,km,.dead,.dead,.dead,.dead,.dead,.dead,.dead]
abbrev aeM:=IE.len adC
abbrev aoV:List RK:=[aE,aC,aF,aG,ak,bo,ar,ar,ec,.dead,km,co,.dead,.dead,.dead,.dead,.dead,.dead,wX]
abbrev WA:=e9 8 (eB gN) tQ
abbrev aeN:=gX 202 WA (jf aeM) aoU aoV [kH,iW,iw] Po
abbrev WB:List SV:=[eB gN,AB]
abbrev Lk:=T.back 8 WB
abbrev WC:=tO gN
abbrev Ll:=iA gU
abbrev aeO:=BE.not (CC 2 2 gN gU uM)
abbrev Ln:=BE.and (fz gN) WC
abbrev wZ:=eo gU mI Hm
abbrev WD:=dD (kn 0 gU) (kn 1 gU) (kn 2 gU) (kn 3 gU)
abbrev aeP:List SV:=[dD (kn 0 gN) (kn 1 gN) (kn 2 gN) (kn 3 gN),WD]
abbrev aeQ:List RK:=[aE,aC,aF,aG,ak,bo,ar,ar,ec,.dead,km,.dead,.dead,.dead,.dead,.dead,.dead,.dead,.dead]
abbrev aeR:List RK:=[aE,aC,aF,aG,ak,bo,ar,ar,ec,.dead,km,co,.dead,.dead,.dead,.dead,.dead,.dead,.dead,wX]
abbrev WE:=e9 9 Hn tU
abbrev aeS:=gX 202 WE (jf Ps) aoV aeR [tD,iw,iH] aon
abbrev Lq:=e9 9 Hn tQ
abbrev WF:=cj eX rY
abbrev Lr:=BE.and Pt WF
abbrev Ls:=eo gU mH Hm
abbrev WG:=dD (CA 0 eX) (CA 1 eX) (CA 2 eX) (CA 3 eX)
abbrev aeT:List SV:=[dD (iS 0 gU) (iS 1 gU) (iS 2 gU) (iS 3 gU),WG]
abbrev w4:List RK:=[aE,aC,aF,aG,ak,bo,ar,ar,ec,.dead,km,.dead,.dead,.dead,.dead,.dead,.dead,.dead,.dead,.dead]
abbrev aoW:List RK:=[aE,aC,aF,aG,ak,bo,ar,ar,ec,.dead,km,co,.dead,.dead,.dead,.dead,.dead,.dead,.dead,.dead,wX]
abbrev Lt:=gX 202 (e9 10 Pu pF) (jf K5) aeR aoW [GQ,iH,kJ] Lb
abbrev Lu:=e9 10 Pu tU
abbrev Lv:=eo eX mH Pt
abbrev aoX:=dD ax (lI tw bG) ax (lI tw bA)
abbrev aeU:List SV:=[dD (iS 0 eX) (iS 1 eX) (iS 2 eX) (iS 3 eX),aoX]
abbrev Lw:=eo eX mI Pt
abbrev aeV:List SV:=[dD (kn 0 eX) (kn 1 eX) (kn 2 eX) (kn 3 eX),aoX]
abbrev Lx:=gX 202 (e9 10 Pu pF) (jf K5) aeR aoW [Hp,kJ,ax] Lb
abbrev aeW:=lJ tU [aE,aC,aF,aG,ak,bo,ar,ar,ec,.dead,km,ar,.dead,.dead,.dead,.dead,.dead,.dead,.dead,qB]
abbrev sf:=wU a k l o u aez
abbrev dE:=cd (cd k q r) o p
abbrev CD:=gD a k l o C aez
abbrev AG:=hU a k l o uH A C
abbrev w5:=hJ a k u v A C [.bool,aK]
abbrev aoY:=gD 2 aev (gD 3 aey (sf 4 aeA (sf 5 (vn 6 (dE (hU 181 aeE Lh yg mf aeD aeC) Lg Lg tW tW) Lh aeF (iA eW) aeB [AF,qu]) (sf 6 (vn 7 (dE (hU 181 aeI Li yg mf aeH [Wt,Ww]) tW tW wY wY) Li Wu (iA fK) aeG [EK,tP]) (sf 7 (vn 8 (dE (hU 181 aeN Lk yg mf aeL aeK) wY wY Lj Lj) Lk Wy (iA gN) aeJ Wz) (sf 8 (vn 9 (dE (hU 181 aeS Lq yg mf aeQ aeP) Ln Ln wZ wZ) Lq WA Ll aeO WB) (CD 9 (CD 10 (dE (hU 181 Lt (cd (AG 181 Lt Lu yi w4 [WD,WG]) wZ wZ) yg mf w4 aeT) Lr Lr Ls Ls) WE WF Ho) (CD 10 (cd (w5 24 (cd (w5 24 (aX Lx Lx Lu GA yj) uH kf w4 aeV) Lw Lw) mf iI w4 aeU) Lv Lv) aeW (iA eX) Ho) Ll Pr) WC Cx) Wv tP) Wn qu) Ws rX) (n7 eI) rM) Pz aex aew) O9 Wq aes
abbrev AH:List RK:=[aE,aC,aF,aG,ak,.str]
abbrev WH:=dl rU
abbrev aeX:=kZ UO cm
abbrev aeY:=LE.lit [[cH,ax,ax,gG]]
abbrev Ly:List RK:=[aE,aC,aF,aG,ak,.str,uR]
abbrev aeZ:List RK:=[aE,aC,aF,aG,ak,.str,uR,uR]
abbrev aoZ:=T.node aeX (nA 96 (nA 96 (lJ jX [aE,aC,aF,aG,ak,.str,aY,aY]) KG Ly aeZ adf) eP AH Ly aeY) (lJ fZ AH)
abbrev ae0:=iJ mh ax
abbrev ao0:List RK:=[aE,aC,aF,aG,ak,.str,aY]
abbrev ao1:=T.node o k (et u A)
abbrev ae1:=ao1 (nA 96 (tX 96 (et ae0 [aE,aC,aF,aG,ak,.str,.dead,aY,aY]) (.and KG KF) aeZ [aE,aC,aF,aG,ak,.str,.dead,uR,uR] KH Eh) eP Ly aeZ aeY) aeX acQ ao0
abbrev nD:=nA a k eP A B (.lit N)
abbrev ao2:=nD 96 ae1 AH Ly [[pu,ax,ax,eV]]
abbrev AI:=RK.own 393
abbrev Lz:=pw AI
abbrev ae2:=cS jr jc
abbrev ae3:List RK:=[aE,aC,aF,aG,ak,.str,.dead,.dead]
abbrev PA:=ce uV
abbrev LA:=gC lN Ao
abbrev ao3:List RK:=[aE,aC,aF,aG,ak,.str,.dead,AI]
abbrev ae4:List RK:=[aE,aC,aF,aG,ak,.str,.dead,AI,AI]
abbrev WI:=jf rK
abbrev WJ:=LE.ref oI
abbrev LB:=eB lN
abbrev ao4:=tX 393 (e9 1 LB po) (.and KF WI) ae4 [aE,aC,aF,aG,ak,.str,.dead,.dead,AI,AI] Eh WJ
abbrev ae5:=nD 393 ao4 ao3 ae4 [[pu,nh,oN,eV,aJ ym]]
abbrev CE:=BE.and o (.and p q)
abbrev ae6:=BE.not (CE o p q)
abbrev ao5:=ae6 (ce wC) (ce Ef) (ce Kr)
abbrev Hq:=e9 1 LB jX
abbrev ae7:=nD 393 ao4 ao3 ae4 [[pu,nh,oN,eV,wE]]
abbrev AJ:=iU (iU d e) f
abbrev ao6:=gc ae7 Hq Hq ao5 (jN (iU tJ b9) (AJ cg tw tw))
abbrev lO:=aX k (.node q l m) n o p
abbrev ae8:=hJ 139 (Ad 139 (fP 361 (aX (.node (gC jr iR) (aX (lO ae5 ae5 Hq Hq LA ao5 (jN (iU ym b9) (AJ cg tw tw))) ae7 ao6 LA LA) ao6) (aX (.node LA ae5 Hq) ae7 Hq LA LA) Hq (ae6 PA (ce As) (ce OX)) (gC jr iR)) Vh ae3 [mY qm ml od,mY At wD yv] qa) GU ae3 [nh,oN]) (mY qm ml od) wB ae3 [nf,mM] Ac
abbrev ae9:=nq (eB jr) jX
abbrev WK:=fz lN
abbrev ao7:List RK:=[aE,aC,aF,aG,ak,.str,.dead,AI,uR]
abbrev WL:List RK:=[aE,aC,aF,aG,ak,.str,.dead,AI,uR,uR]
abbrev afa:=BE.and WI (jf qr)
abbrev afb:=LE.kz WJ (.ref na)
abbrev ao8:List RK:=[aE,aC,aF,aG,ak,.str,.dead,AI,.dead,uR,uR]
abbrev AK:=gD a k l o UD P
abbrev afc:=T.dO 322 323 393 (.lex [4] J) J n9 [aE,aC,aF,aG,ak,.str,AI] (AK 1 (sd (nD 96 (nA 96 (e9 1 LB mK) afa WL ao8 afb) ao7 WL [[kn 0 lN,kn 1 lN,kn 2 lN,sc 3 lN oH]]) WK (tO lN) WK (tO lN)) (jY (ao1 (nA 96 (nA 96 (lJ mK [aE,aC,aF,aG,ak,.str,.dead,.sl 393,.dead,aY,aY]) afa WL ao8 afb) eP ao7 WL aeY) aeX ae0 [aE,aC,aF,aG,ak,.str,.dead,.sl 393,aY])) (tO lN) (pw uR))
abbrev WM:=gv a k u A [.agg C]
abbrev ao9:=WM 75 (jq (qh oM AH) (qh lf AH) (aX (jY (.node (eA UT gk) aoZ ao2)) (jY (.node (eA UT gu) aoZ ao2)) (aX (AK 0 (gD 1 ae8 ae9 (cS lN eX) [cK,gW] Lz) afc ae2 Lz) (AK 0 (gD 1 ae8 ae9 (cS lN gm) [cK,gW] Lz) afc ae2 Lz) (aX (AK 0 (gD 1 ae8 ae9 (cS lN qb) [cK,gW] Lz) afc ae2 Lz) (nD 96 ae1 AH Ly [[pu,ax,GG Ao gm,eV]]) Eu (uS rP) (Am rP)) (fq rP) (fQ rP)) (dR rP) (dY rP)) (nD 96 ae1 AH Ly [[cH,ax,ax,eV]]) (dl mj) WH (wM (dR rP) (dY rP) (wM (fq rP) (fQ rP) (wM (uS rP) (Am rP) eO)))) oM AH [iQ,ez,ee,fM,em,fO,cP,ke,jd,iW,iw,iH,kJ,iI,kf,kK,qi]
abbrev WN:=J1 d e .rem
abbrev azE:=RK.own 73
abbrev azF:=nA 73 k o A B H
abbrev LD:=T.gp eP o k l
abbrev apa:=LD k l eP
abbrev LF:List RK:=[Uf,Ug,ec,aE,aC,aF,aG,ak,.str,aY,ak]
abbrev qC:List RK:=[Uf,Ug,ec,aE,aC,aF,aG,ak,.str,aY,ak,wu]
abbrev apb:List LK:=[aK,.bool,.bool,.bool,.bool,.bool,.bool]
abbrev apc:List SV:=[ax,eV,eV,eV,eV,eV,eV]
abbrev afd:=cj lN rY
abbrev Ht:=IE.cell mi lN 4
abbrev WO:=eo Ht (.c 10) (fz Ht)
abbrev WP:=eo Ht tC (fz Ht)
abbrev LG:List LK:=[aK,.bool,.bool,.bool,.bool,.bool]
abbrev apd:List SV:=[ax,mf,uH,rF,yk,zZ]
abbrev ape:=RE.cell lK Ht 0 rG
abbrev WQ:=cj uV (.len ape)
abbrev WR:=fz uV
abbrev w6:=jM (lH (iB uV ape) (.cell mi lN 5))
abbrev WS:=eB uV
abbrev LH:=SV.bool (.cF o p q)
abbrev qD:=LH o eP p
abbrev apf:=dE (tR [WS,qD (ce w6) (.v 7),qD (dR w6) (.v 8),qD (dY w6) (.v 9),qD (fq w6) (.v 10),qD (fQ w6) (.v 11)]) (.and WR WQ) (.and WR WQ) (jO w6 w6 rN) (u7 (ce w6) (dR w6) (dY w6) (fq w6) (fQ w6))
abbrev apg:List SV:=[ax,DM,JZ,uI 9,uI 10,uI 11]
abbrev aph:=RE.cell lK Ht 1 rG
abbrev WT:=cj As (.len aph)
abbrev w7:=iB As aph
abbrev PB:=BE.v 13
abbrev PD:=BE.v 14
abbrev PE:=BE.v 15
abbrev PF:=BE.v 16
abbrev api:=dE (AE [eB As,qD (ce w7) Kz,qD (dR w7) PB,qD (dY w7) PD,qD (fq w7) PE,qD (fQ w7) PF]) (mL As WT) (mL As WT) (jO w7 w7 rN) (u7 (ce w7) (dR w7) (dY w7) (fq w7) (fQ w7))
abbrev WU:=SV.bool PB
abbrev WV:=SV.bool PD
abbrev WW:=SV.bool PE
abbrev WX:=SV.bool PF
abbrev afe:=cj uV rN
abbrev LI:=J1 d e .quo
abbrev EM:=LI uV jW
abbrev WY:=dR uV
abbrev WZ:=dY uV
abbrev W0:=fq uV
abbrev W5:=fQ uV
abbrev W6:=dD ml od wB At
abbrev EN:=iX UO rP Ki (ce EM) (dR EM) (dY EM)
abbrev W7:=dD wD yv Cr wE
abbrev yK:=hJ a k u v A C yo
abbrev Hu:=DP d e .sub
abbrev vo:=Hu bh d
abbrev apj:=yK 72 (tR [WS,wD,yv,Cr,wE]) W7 uX qC [W6,Cg (lM EN) (lM EN) (vo (lM EN)) (vo (lM EN))]
abbrev aff:=nx eI eW (iX gN eX qb WZ W0 W5) PA WY
abbrev EO:=T.node o k (tR C)
abbrev apk:=EO (wl 138 (hJ 139 (yK 72 (tR [WS,rV,oO,qn,qo]) (dD rV oO qn qo) uY qC [W6,dD (lI EN GS) (lI EN GS) (lI EN tJ) (lI EN tJ)]) (mY Cr wE uX) wF qC [wD,aJ aff] Ac) wD yv qC [u6 gu dX (iX fK gU gm WZ W0 W5) PA WY,em]) (dl aff) [WS,ml,od,wB,At]
abbrev apl:=mL yw (cj yw rY)
abbrev yL:=cY 64
abbrev Hv:=cY 65
abbrev EP:=cY 66
abbrev LJ:=cY 67
abbrev EQ:=cY 68
abbrev ER:=cY 69
abbrev ES:=cY 70
abbrev ET:=cY 71
abbrev EU:=cY 72
abbrev EV:=cY 73
abbrev AL:=cY 74
abbrev AM:=cY 75
abbrev CF:=cY 76
abbrev CG:=cY 77
abbrev CH:=cY 78
abbrev Hx:=cY 79
abbrev Hy:=cY 80
abbrev Hz:=cY 81
abbrev PG:=cY 82
abbrev LL:=IE.v 86
abbrev LM:=aJ LL
abbrev W8:=dD (cY 88) (cY 89) (cY 90) (cY 91)
abbrev afg:=dD (cY 93) (cY 94) (cY 95) (cY 96)
abbrev apm:=oc (AE [eB yw,cY 93,cY 94,cY 95,cY 96,AL,AM,CF,CG,CH,Hx,Hy,Hz,PG,cY 83,cY 84,cY 85,LM,eV]) (dl (.v 87)) afg ax qC
abbrev apn:=dD uZ u0 u4 u5
abbrev PH:List RK:=[aE,aC,aF,aG,ak,aR,aY]
abbrev afh:=Ey pC [kK,qi,pu,tG,pz,tH,wv,ng,nf,mM,gP,pA,oL]
abbrev w8:=RK.mr ⟨3,96,1,E,J⟩
abbrev W9:List RK:=[aE,aC,aF,aG,ak,aR,aY,w8]
abbrev LN:=BE.and OH (tM dW)
abbrev PI:=RK.own 200
abbrev Xa:=LK.ref PI
abbrev LO:=iB jr oI
abbrev qE:=IE.cell oI d a
abbrev lg:=qE 4 jr
abbrev AN:=G7 a jr
abbrev Xb:=SV.agg [aJ LO,AN 1,AN 2,AN 3,aJ lg,aJ (qE 5 jr),AN 6,AN 7,aJ (qE 8 jr),AN 9,AN 10,AN 11,AN 12,AN 13]
abbrev LP:=IE.look oH a d e f b
abbrev apo:=aJ (LP 1 2 LO bh bh)
abbrev PJ:=LP 1 3 LO bh bh
abbrev apq:=CC 1 4 LO bh oH
abbrev apr:List RK:=[aE,aC,aF,aG,ak,aR,aY,w8,ak,.dead]
abbrev CI:=LE.ins Lf 1 [PG]
abbrev LQ:=iB (jM Ai) OI
abbrev CJ:=ce LQ
abbrev kL:=Cy [EQ,ER,ES,ET,EU,EV,AL,AM,CF,CG,CH,Hx,Hy,Hz,mK,rM]
abbrev CL:=dR LQ
abbrev yM:=dY LQ
abbrev HA:=fq LQ
abbrev aps:=u6 cm jW (nx jb Ch bh yM HA) CJ CL
abbrev apu:List RK:=[aE,aC,aF,aG,ak,aR,aY,w8,ak,.dead,PI,nz,nz]
abbrev apv:List RK:=[aE,aC,aF,aG,ak,aR,aY,w8,ak,.dead,.dead,nz,nz,PI]
abbrev CM:=gX 200 (Cy [EQ,ER,ES,ET,EU,EV,AL,AM,CF,CG,CH,Hx,Hy,Hz,rX,rM]) Vu apu apv [aps,aJ LO] Pa
abbrev afi:=T.node HA kL Eu
abbrev nE:=jM (qE 5 jr)
abbrev PK:=LI nE jW
abbrev afj:=jO PK PK jb
abbrev Xc:=ce PK
abbrev Xd:=dR PK
abbrev Xe:=dY PK
abbrev afk:=G3 Xc Xd Xe
abbrev PL:=IE.cell F dW a
abbrev jh:=PL a n8
abbrev PM:=jh 12
abbrev PN:=jh 13
abbrev HB:=jh 14
abbrev afl:=mX apo (aJ PJ)
abbrev HC:List RK:=[aE,aC,aF,aG,ak,aR,aY,w8,ak,.dead,.dead,nz,nz]
abbrev LR:=mY (cY 83) (cY 84) (cY 85)
abbrev afm:=mY LM (cY 87) (cY 88)
abbrev HD:=jh 8
abbrev LS:=fo (fo d e) (nY bh f)
abbrev w9:=nY (.v a) d
abbrev afn:=LS (LS (LS bh (w9 83 LL) (w9 83 LL)) (w9 84 (.v 87)) (w9 84 (.v 87))) (w9 85 (.v 88)) (w9 85 (.v 88))
abbrev PO:=jh 10
abbrev HE:=jh 11
abbrev PQ:=T.node yM kL afi
abbrev nF:=Cl (qE 5 jr)
abbrev PS:=LI nF jW
abbrev afo:=jO PS PS jb
abbrev Xf:=ce PS
abbrev Xg:=dR PS
abbrev Xh:=dY PS
abbrev afp:=G3 Xf Xg Xh
abbrev apw:=D0 PJ (iX PM PN HB Xf Xg Xh) CM kL afo afp
abbrev PU:=jM (qE 9 jr)
abbrev apx:=D0 (kh PU n8) (jh 2) CM kL (jO PU PU tB) (jO PU PU tB)
abbrev apy:=BE.cF (Am lg) eO eO
abbrev LU:=T.dO a b c O E F A k
abbrev apz:=LU 243 178 200 (jY (lJ mK [aE,aC,aF,aG,ak,aR,aY,w8,ak,.dead,EF])) [aE,aC,aF,aG,ak,aR,aY,w8,ak,PI] na (.lex [1,0] E)
abbrev LV:=iB mj oI
abbrev lj:=qE 4 mj
abbrev AO:=G7 a mj
abbrev Xi:=SV.agg [aJ LV,AO 1,AO 2,AO 3,aJ lj,aJ (qE 5 mj),AO 6,AO 7,aJ (qE 8 mj),AO 9,AO 10,AO 11,AO 12,AO 13]
abbrev apA:=aJ (LP 1 2 LV bh bh)
abbrev PV:=LP 1 3 LV bh bh
abbrev apB:=CC 1 4 LV bh oH
abbrev CN:=LE.ins Lf 1 [Hx]
abbrev kM:=Cy [EP,LJ,EQ,ER,ES,ET,EU,EV,AL,AM,CF,CG,CH,mK,rM]
abbrev CO:=gX 200 (Cy [EP,LJ,EQ,ER,ES,ET,EU,EV,AL,AM,CF,CG,CH,rX,rM]) Vu apu apv [aps,aJ LV] Pa
abbrev afq:=T.node HA kM Eu
abbrev nG:=jM (qE 5 mj)
abbrev PW:=LI nG jW
abbrev afr:=jO PW PW jb
abbrev Xj:=ce PW
abbrev Xk:=dR PW
abbrev Xl:=dY PW
abbrev afs:=G3 Xj Xk Xl
abbrev afu:=mX apA (aJ PV)
abbrev afv:=mY Hy Hz PG
abbrev afw:=LS (LS (LS bh (w9 80 (.v 83)) (w9 80 (.v 83))) (w9 81 (.v 84)) (w9 81 (.v 84))) (w9 82 (.v 85)) (w9 82 (.v 85))
abbrev PY:=T.node yM kM afq
abbrev nH:=Cl (qE 5 mj)
abbrev PZ:=LI nH jW
abbrev afx:=jO PZ PZ jb
abbrev Xm:=ce PZ
abbrev Xn:=dR PZ
abbrev Xo:=dY PZ
abbrev afy:=G3 Xm Xn Xo
abbrev apC:=D0 PV (iX PM PN HB Xm Xn Xo) CO kM afx afy
abbrev P0:=jM (qE 9 mj)
abbrev apD:=D0 (kh P0 n8) (jh 2) CO kM (jO P0 P0 tB) (jO P0 P0 tB)
abbrev apE:=BE.cF (Am lj) eO eO
abbrev CP:=SV.agg [fZ]
abbrev P1:List LK:=[aK,KR,yE,yE,.ref ap,.ref ar,aK]
abbrev P2:=yr cH po mK yq rM rX
abbrev afz:List RK:=[aE,aC,aF,aG,ak,aR,ac,ap,aj,aj,ac,ac,ap,ar,aj,ac,ac,ap,ar,aj,ac,ac,ap,ar]
abbrev EW:=kY afz
abbrev apF:List RK:=[aE,aC,aF,aG,ak,aR,ac,ap,aj,aj,ac,ac,ap,ar,aj,ac,ac,ap,ar,aj,ac,ac,ap,ar,uR]
abbrev apG:=yr ke aer Wp (jP 28) (jP 29) (jP 30)
abbrev P3:=dl eI
abbrev apH:List RK:=[aE,aC,aF,aG,ak,aR,ac,ap,aj,aj,ac,ac,ap,ar,aj,ac,ac,ap,ar,aj,ac,ac,ap,ar,aY,ap,aj,ac,ac,ap,ar,eY]
abbrev Xp:=kY apH
abbrev apI:List RK:=[aE,aC,aF,aG,ak,aR,ac,ap,aj,aj,ac,ac,ap,ar,aj,ac,ac,ap,ar,aj,ac,ac,ap,ar,aY,ap,aj,ac,ac,ap,ar,eY,wW]
abbrev apJ:List RK:=[aE,aC,aF,aG,ak,aR,ac,ap,aj,aj,ac,ac,ap,ar,aj,ac,ac,ap,ar,aj,ac,ac,ap,ar,aY,ap,aj,ac,ac,ap,ar,eY,eY]
abbrev Xq:=nu bh
abbrev Xr:=gf 203
abbrev apK:=yr iw (jP 34) (jP 35) (jP 36) (jP 37) (jP 38)
abbrev si:=RE.v 43
abbrev Xs:=kY [aE,aC,aF,aG,ak,aR,ac,ap,aj,aj,ac,ac,ap,ar,aj,ac,ac,ap,ar,aj,ac,ac,ap,ar,aY,ap,aj,ac,ac,ap,ar,eY,eY,ac,aj,ac,ac,ap,ar,eY,aj,aj,ac,ac,ap,ar,bo,eY]
abbrev apL:List RK:=[aE,aC,aF,aG,ak,aR,ac,ap,aj,aj,ac,ac,ap,ar,aj,ac,ac,ap,ar,aj,ac,ac,ap,ar,aY,ap,aj,ac,ac,ap,ar,eY,eY,ac,aj,ac,ac,ap,ar,eY,aj,aj,ac,ac,ap,ar,bo,eY,eY]
abbrev P4:=kY apL
abbrev apM:=SV.agg [ax,ax,ax,ax,ax,ax,ax,ax,ax,ax,ax,ax,ax,ax]
abbrev HF:=am2 (.bin .shr .u64 (OD (lH dH cN)) cm)
abbrev apN:=kg apM (gf 300) eC
abbrev sj:=eJ a dH mZ
abbrev apO:List SV:=[sj 0,aJ KE,aJ Vp,sj 3,sj 4,sj 5,sj 6,sj 7,sj 8,sj 9,sj 10,sj 11,sj 12,sj 13]
abbrev Xt:=SV.agg apO
abbrev apP:=SV.ref (.k (.string ⟨#[98]⟩))
abbrev P5:=RK.own 173
abbrev apQ:List SV:=[apP,gf 50,gf 60,cK,tD,tD,cK,cK,cK,Ue,Ue,Ue,kH,kH,kH,ax,ax]
abbrev apR:List RK:=[aE,aC,ak,aR,ac,aY]
abbrev apS:List RK:=[aE,aC,ak,aR,ac,aY,aY]
abbrev apT:List RK:=[aE,aC,ak,aR,ac,aY,aY,ap]
abbrev EX:=RK.own 3
abbrev apU:List RK:=[aE,aC,aF,aG,ak,ec,.dead,EX]
abbrev afA:=aW.lex [] E
abbrev apV:List RK:=[aE,aC,aF,aG,ak,ec,.dead,.dead,EX]
abbrev apW:=iB (iB cN n8) oI
abbrev apX:=iB (kh cN n8) na
abbrev P6:=fo apW apX
abbrev HG:List RK:=[aE,aC,aF,aG,ak,aR,aj,ac,ap]
abbrev LW:=fz ew
abbrev Xu:=BE.and LW (tM ew)
abbrev AP:=BE.and LW (nu ew)
abbrev EY:=eo ew mI LW
abbrev AQ:=eo ew rK LW
abbrev P7:=SV.ref (Ci 0 ew oI)
abbrev afB:List RK:=[aE,aC,aF,aG,ak,aR,aj,ac,ap,aj,ac,cX,.dead,co,aY,dI]
abbrev P8:=yD ew n9
abbrev vp:=kn a ew
abbrev apY:List SV:=[vp 0,vp 1,vp 2,vp 3,vp 4,vp 5,vp 6,vp 7,vp 8,vp 9,vp 10,vp 11,vp 12]
abbrev LX:=SV.agg apY
abbrev afC:List RK:=[aE,aC,aF,aG,ak,aR,aj,ac,ap,aj,ac,.dead,.dead,.dead,aY,.dead]
abbrev qF:=EA a ew
abbrev afD:=SV.agg [Cw 0 ew n8,qF 1,qF 2,qF 3,qF 4,qF 5,qF 6,qF 7,qF 8,qF 9,qF 10,qF 11,qF 12,qF 13,qF 14,qF 15,qF 16]
abbrev apZ:List SV:=[fA,ez,cH,LX,afD,P7]
abbrev ap0:List SV:=[qi,pu,tG,pz]
abbrev afE:=Ey tH ap0
abbrev azG:=dl UO
abbrev Xv:List RK:=[aE,aC,aF,aG,ak,aR,aj,ac,ap,aj,ac,.dead,.dead,co,aY,dI,cX]
abbrev ap1:=LE.kz ady (.lit [ap0])
abbrev ap2:List RK:=[aE,aC,aF,aG,ak,aR,aj,ac,ap,aj,ac,.dead,.dead,.dead,aY,dI,cX,co]
abbrev ap3:=lG [eB ew,Cx,tP,AB]
abbrev tY:=et adr vf
abbrev azH:List RK:=[aE,aC,aF,aG,ak,bo,aR,aj,ac,ac,ap,ar,aj,aj]
abbrev ap4:List RK:=[aE,aC,aF,aG,ak,bo,aR,aj,ac,ac,ap,ar,aj,aj,ac,.dead,.dead,.dead]
abbrev afF:List RK:=[aE,aC,aF,aG,ak,bo,aR,aj,ac,ac,ap,ar,aj,aj,ac,cX,.dead,co,aY,dI]
abbrev afG:List RK:=[aE,aC,aF,aG,ak,bo,aR,aj,ac,ac,ap,ar,aj,aj,ac,.dead,.dead,.dead,aY,.dead]
abbrev afH:List RK:=[aE,aC,aF,aG,ak,bo,aR,aj,ac,ac,ap,ar,aj,aj,ac,ac,.dead,ar,aY,ap]
abbrev Xw:List RK:=[aE,aC,aF,aG,ak,bo,aR,aj,ac,ac,ap,ar,aj,aj,ac,.dead,.dead,co,aY,dI,cX]
abbrev ap5:List RK:=[aE,aC,aF,aG,ak,bo,aR,aj,ac,ac,ap,ar,aj,aj,ac,.dead,.dead,.dead,aY,dI,cX,co]
abbrev ap6:=Cy [eB gu,pF,tU,tV]
abbrev azI:List RK:=[aE,aC,aF,aG,ak,bo,aR,aj,ac,ac,ap,ar,aj,aj,ac,ac,ap,ar]
abbrev xe:=RK.mr ⟨3,4,1,E,E⟩
abbrev afI:=cj dX Ps
abbrev afJ:List RK:=[aE,aC,aF,aG,ak,bo,aR,aj,ac,ac,ap,ar,aj,aj,ac,cX,dI,co,rG,xe]
abbrev ap7:=Hl 1 (e9 4 AF pF) afJ [eJ 0 dX AC,gG] Lb xe
abbrev P9:=mL Ai Hd
abbrev ap8:=LE.sM Ai [eV]
abbrev afK:List RK:=[aE,aC,aF,aG,ak,bo,aR,aj,ac,ac,ap,ar,aj,aj,ac,cX,dI,co,rG,xe,qf]
abbrev afL:=LE.sM Ai [fZ]
abbrev ap9:List RK:=[aE,aC,aF,aG,ak,bo,aR,aj,ac,ac,ap,ar,aj,aj,ac,cX,dI,co,rG,xe,qf,dI]
abbrev aqa:List LK:=[aK,.ref qf,.ref dI]
abbrev afM:=cj eW Ps
abbrev aqb:=eo eW (EG 22) AD
abbrev aqc:List RK:=[aE,aC,aF,aG,ak,bo,aR,aj,ac,ac,ap,ar,aj,aj,ac,cX,dI,co,rG,xe,.dead,.dead,.dead,dI,qf]
abbrev aqd:=yr iW K3 Wo aer Wp (jP 28)
abbrev qG:=mJ k l o p (.not q)
abbrev aqe:=T.node afM (qG (dE (.new 4 (.set (EJ 22) eW 0 [gG]) [aE,aC,aF,aG,ak,bo,aR,aj,ac,ac,ap,ar,aj,aj,ac,cX,dI,co,rG,xe,.dead,.dead,qf,dI] aqc (cd (.new 82 (.set Pq eW 0 [G8 0 eW uM]) aqc [aE,aC,aF,aG,ak,bo,aR,aj,ac,ac,ap,ar,aj,aj,ac,cX,dI,co,rG,xe,.dead,.dead,.dead,.dead,qf,dI] (.back 5 [EK,K3,Wo])) (eo eW Pv AD) (eo eW Pv AD))) (eo eW Ct AD) (eo eW Ct AD) aqb aqb) (.back 5 [EK,wQ,EC]) (.and AD afM) (.and AD afM) (CC 1 1 (iB eW AC) bh rZ)) (fP 39 (lJ aqd [aE,aC,aF,aG,ak,bo,aR,aj,ac,ac,ap,ar,aj,aj,ac,ac,ap,ar,rG,xe,.dead,.dead,aj,ap,aj,ac,ac,ap,ar]) aqd [aE,aC,aF,aG,ak,bo,aR,aj,ac,ac,ap,ar,aj,aj,ac,.dead,.dead,.dead,rG,xe,.dead,.dead,aj,ap] [fA,gW,cH,wQ,mh,EC] [aK,KR,yE,yE,.ref ap,.ref ar])
abbrev aqf:=jY (.loop 5 aqa [ax,pF,tV] aqe)
abbrev aqg:List RK:=[aE,aC,aF,aG,ak,bo,aR,aj,ac,ac,ap,ar,aj,aj,ac,cX,dI,co,rG,xe,dI]
abbrev afN:=lG [eB ew]
abbrev azJ:=dl cN
abbrev aqh:List SV:=[fA,Ut,gW,cH,jX,mh,po]
abbrev aqi:=dl gk
abbrev vq:=eA d bh
abbrev Xx:=ce dX
abbrev LY:List RK:=[aj,ac,ac,ap,ar,aj,ac,ac,ap,ar]
abbrev HH:=kY LY
abbrev afO:=cj cg oG
abbrev Qa:=fz cg
abbrev aqj:=lG [aJ Cu]
abbrev aqk:=iA cg
abbrev LZ:=BE.and Qa aqk
abbrev afP:=z7 cg
abbrev azK:=kh cg jK
abbrev afQ:=IE.cell F eI a
abbrev oQ:=CE o p (CE q r s)
abbrev CQ:=gC (.cell F d a) e
abbrev CR:=CQ a d (.cell G e b) F
abbrev EZ:List RK:=[aE,aC,aF,aG,ak,.str,aY,ak]
abbrev Xy:=mL Cu (iA Cu)
abbrev aql:=cd (G5 (wN azK (nY bA afP) (qg 2 cg))) LZ LZ
abbrev ll:=jN d cm
abbrev Xz:=ll bG
abbrev HI:=jM bA
abbrev aqm:=eo HI iv (fz HI)
abbrev ko:=BE.not (cS d e)
abbrev aqn:=aX ef (lO ef ef Oq ef (.not (cS Pf Ew)) (jN Pg VE) (ko Pg Ew)) ef (jN GC bG) (jN Pf VE)
abbrev yN:=hU a k l rE nX A C
abbrev aqo:=yN 159 ef (tR [aJ Cu]) ki [gA,cK,aJ Ew]
abbrev afR:=cj cR tC
abbrev aqp:=jO (jM cR) (jM cR) tC
abbrev aqq:=jq ef ef ef (AE [eB cR]) (n7 (wt 2 cR)) (cj (wt 3 cR) (wt 2 cR)) (eA (wt 3 cR) mg)
abbrev aqr:=gc ef aqq aqq (kZ (kh cR lK) cm) (kZ (kh cR lK) jW)
abbrev afS:=cj b9 J4
abbrev afT:=iB b9 pn
abbrev afU:=kh b9 pn
abbrev afV:=cS bA ym
abbrev afW:=cS bG ym
abbrev L4:=ll gj
abbrev afX:=cS gj jW
abbrev Qb:=cS dW jc
abbrev XA:=ll dH
abbrev afY:=BE.and OF J7
abbrev XB:=ll ew
abbrev afZ:=cS ew jb
abbrev af0:=BE.and GH J7
abbrev CS:=gc k fY fY o p
abbrev HJ:=CS (CS k q r) o p
abbrev qH:=ja (.bool o)
abbrev aqs:=HJ (CS (qH af0) XB afZ) L4 afX Pl Qb
abbrev XC:=CE o p (.and q r)
abbrev aqt:=oJ cN eW (qH (XC DU GI OF GH)) fY fY (ll cN)
abbrev XD:=iA ew
abbrev XF:=vq dH
abbrev aqu:=jO (jM dH) (jM dH) oG
abbrev aqv:=yN 163 kj (yH 163 kj (AG 163 kj (hU 165 kj (hU 166 kj (tR [Kc]) JY yk eC [Xt]) Cc rF eC [Xt,aJ iv]) yj eC [sj 3,cK,kH]) eC [aJ Vp,ax,Us]) eC [aJ KE,ax,aJ (jM iv)]
abbrev HL:=IE.lT jK bG
abbrev aqw:=T.node (.not (gC HL (.c 95))) Co Ck
abbrev aqx:=D3 HL Ck aqw aqw (jN HL (.c 48)) 57
abbrev aqy:=D3 HL Ck aqx aqx (jN HL (.c 65)) 90
abbrev aqz:=GM 0 (.bj oa (D3 HL Ck aqy aqy (jN HL (.c 97)) 122)) Aj fp
abbrev aqA:=gc Co aqz Co (jN OP (.c 65)) (ko OP (.c 90))
abbrev Qc:=ll cg
abbrev af3:=nx cR gj (iX ew cN gu (dY dX) (fq dX) (fQ dX)) Xx (dR dX)
abbrev af4:=nx b9 dW (iX dH gk eI (dY dX) (fq dX) (fQ dX)) Xx (dR dX)
abbrev aqB:=oJ af3 jc (gc qp (lG [AF]) qp (ll af4) (ko af4 jb)) qp qp (lL af3)
abbrev L5:=jM cN
abbrev aqC:List RK:=[aE,aC,aF,aG,ak,.dead,gO,gO]
abbrev aqD:List RK:=[aE,aC,aF,aG,ak,.dead,ak,gO,ak]
abbrev aqE:List RK:=[aE,aC,aF,aG,ak,.dead,ak,.dead,ak,gO]
abbrev aqF:List RK:=[aE,aC,aF,aG,ak,.dead,ak,.dead,ak,gO,gO]
abbrev aqG:List RK:=[aE,aC,aF,aG,ak,.dead,ak,.dead,ak,.dead,gO,gO]
abbrev aqH:List RK:=[aE,aC,aF,aG,ak,.dead,ak,.dead,ak,.dead,gO,gO,ak]
abbrev yO:=nA 90 k o A B H
abbrev aqI:=yO (yO (tX 90 (nD 90 (tX 90 (yO (tX 90 (nq Kc rX) (.and Wr Hd) aqH [aE,aC,aF,aG,ak,.dead,ak,.dead,ak,.dead,gO,.dead,ak,gO] Lf Pj) (OL (cS cN mH)) aqG aqH (.sub KH cN mH)) (.and (jf qr) Vu) aqF aqG (.ref na) Pa) aqE aqF [apO]) (.and KF WI) aqD aqE Eh WJ) (OL (cS cN mH)) aqC aqD (.sub KH bh cN)) eP ang aqC Cn
abbrev aqJ:=eo HI Cj (fz HI)
abbrev aqK:List RK:=[ak,aY,.dead,gO,gO]
abbrev aqL:=BE.and Ui (cS bA Cj)
abbrev aqM:List RK:=[ak,aY,.dead,ak,gO,ak]
abbrev aqN:List RK:=[ak,aY,.dead,ak,.dead,ak,gO]
abbrev aqO:List RK:=[ak,aY,.dead,ak,.dead,ak,gO,gO]
abbrev aqP:List RK:=[ak,aY,.dead,ak,.dead,ak,.dead,gO,gO]
abbrev aqQ:List RK:=[ak,aY,.dead,ak,.dead,ak,.dead,gO,gO,ak]
abbrev aqR:=yO (yO (tX 90 (cd (nD 90 (tX 90 (yO (yO (nq acL mK) afa aqQ [ak,aY,.dead,ak,.dead,ak,.dead,gO,.dead,ak,gO] afb) aqL aqP aqQ (.sub (.ref Ag) bA Cj)) (.and KG KF) aqO aqP KH Eh) aqN aqO [anq]) oa oa) (.and (jf oG) (jf tB)) aqM aqN (.ref mZ) UE) aqL aqK aqM (.sub (.ref Ag) bh bA)) eP [ak,aY,.dead,gO] aqK Cn
abbrev af5:=kY [ak,aY,.dead,ak]
abbrev L6:=jY af5
abbrev aqS:=T.node (ce Kh) (jY (EO af5 (.not (ce OT)) [J2])) L6
abbrev XG:=IE.cell Ag bA 4
abbrev aqT:=T.node (ll OT) (jY (EO af5 (ko OT jb) [J2])) L6
abbrev af6:=oJ Kh jc aqT L6 L6 (lL Kh)
abbrev XH:=cS cg jW
abbrev aqU:=HJ (qH (cS gj Cs)) (ll cR) (cS cR jc) OA L4
abbrev AR:=dY bA
abbrev XI:=ce cg
abbrev aqV:=oJ b9 jb (qH DU) fY fY (ll b9)
abbrev af7:=CS aqV (lL cR) (cS cR jc)
abbrev aqW:=qc (qH DU) fY fY fY XI Vk OA
abbrev aqX:=Kb fY (ll gN) (cS gN jb) []
abbrev af8:=oJ fK jc aqX fY fY (lL fK)
abbrev XJ:=uJ acs GD
abbrev XK:=gf 580
abbrev XL:=gf (-580)
abbrev XM:=aX rJ rJ (gc (jY rJ) (jY rJ) (jY rJ) (jN Oz rH) (cS Oz Ur)) acC acD
abbrev XN:=T.node (ko Uq rI) rJ rJ
abbrev aqY:=BE.cF (fQ uL) eP eO
abbrev L7:=cd k (jO d e rN) o
abbrev tZ:=ja (.agg C)
abbrev E4:=qD o eO
abbrev aqZ:=L7 uL uL (tZ [E4 (ce uL),E4 (dR uL),E4 (dY uL),E4 (fq uL),.bool aqY]) (wM (ce uL) (dR uL) (wM (dY uL) (fq uL) aqY))
abbrev aq0:=tZ [gG,gG,eV,eV,eV]
abbrev aq1:=BE.cF (fQ tE) eP eO
abbrev aq2:=L7 tE tE (tZ [E4 (ce tE),E4 (dR tE),E4 (dY tE),E4 (fq tE),.bool aq1]) (wM (ce tE) (dR tE) (wM (dY tE) (fq tE) aq1))
abbrev E5:=LI iR jW
abbrev XO:=iX eX gm qb (ce E5) (dR E5) (dY E5)
abbrev af9:=nZ bG (iU eW bh)
abbrev aga:=nZ bA (iU eW bh)
abbrev L8:=tZ [af9,aga,dK,eu,gA,gZ,cH,ez,ee,fM,em,fO,cP]
abbrev E6:=Cl (WN (lH (jM dX) cg) jc)
abbrev aq3:=wN bA eW (.c 21)
abbrev aq4:=wN bA eW (.c (-21))
abbrev aq5:=iU eW (.c (-29))
abbrev aq6:=wN bG eW (.c (-20))
abbrev aq7:List LK:=[aK,aK,aK,aK,aK,aK,aK,aK,aK,aK,aK,aK,aK]
abbrev aq8:=SV.agg [gP,pA,oL,pC,rQ,rR,lf,oM,nh,oN,qm,ml,od]
abbrev aq9:=SV.agg [gP,pA,oL,jg Ed En,jg yu En,jg qj Eo,jg rU Eo,jg mj Ep,jg jr Ep,jg lN Es,jg uV Es,jg As G2,jg OX G2]
abbrev ara:=SV.agg [gP,pA,oL,ax,ax,ax,ax,oM,nh,oN,qm,ml,od]
abbrev AS:=aJ (.cF o Ki d)
abbrev AT:=aJ (.cF o iR d)
abbrev arb:=SV.agg [gV,gM,dK,AS cR En,AT b9 En,AS gj Eo,AT dW Eo,AS ew Ep,AT dH Ep,AS cN Es,AT gk Es,AS gu G2,AT eI G2]
abbrev arc:=SV.agg [gV,gM,dK,AS cR KJ,AT b9 KJ,AS gj KK,AT dW KK,AS ew KL,AT dH KL,AS cN KM,AT gk KM,AS gu Pc,AT eI Pc]
abbrev XP:=BE.and yJ (iA dX)
abbrev ard:=dD jd iW iw kb
abbrev are:List SV:=[iH,kJ,iI,kf,kK,qi,pu,tG,pz,tH,wv,ng,nf]
abbrev arf:List RK:=[ak,aY,.dead,cX,cX]
abbrev arh:List RK:=[aE,aC,aF,aG,ak,aY,ak,ac]
abbrev ari:=jO (jM mI) (jM mI) mI
abbrev E7:=BE.and (fz iR) (iA iR)
abbrev AU:List RK:=[ak,.str,aY]
abbrev sk:=Cp a iR
abbrev arj:List SV:=[.agg [sk 0,sk 1,sk 2,sk 3,sk 4,sk 5,sk 6,sk 7,sk 8,sk 9,sk 10,sk 11,sk 12,sk 13]]
abbrev ark:List LK:=[.bool,.bool,.bool,.bool,.bool]
abbrev arl:=SV.agg [DM,JZ,uI 9,uI 10,uI 11]
abbrev arm:List SV:=[ax,nX,mf,uH,rF,yk]
abbrev agb:=cj pB rN
abbrev XQ:=mL pB agb
abbrev Qd:=ce pB
abbrev Qe:=dR pB
abbrev Qf:=dY pB
abbrev Qg:=fq pB
abbrev Qh:=fQ pB
abbrev XR:=u7 Qd Qe Qf Qg Qh
abbrev Qi:=rW Qd (.v 7) Qe (.v 8) (Vy Qf (.v 9) Qg (.v 10) Qh (.v 11))
abbrev E8:=mJ (cd k r s) l o p q
abbrev arn:=E8 (tR [eB pB,qD Qd Kz,qD Qe PB,qD Qf PD,qD Qg PE,qD Qh PF]) (dE (tR [eB pB,LH Qd Qi Kz,LH Qe Qi PB,LH Qf Qi PD,LH Qg Qi PE,LH Qh Qi PF]) XQ XR XQ XR) XQ XR (rW Qd Kz Qe PB (Vy Qf PD Qg PE Qh PF)) XQ XR
abbrev Qj:=dD gP pA oL pC
abbrev aro:List SV:=[Qj,Cg (lM eX) (lM eX) (vo (lM eX)) (vo (lM eX))]
abbrev HM:=dD rQ rR lf oM
abbrev Qk:=iJ HM nh
abbrev AV:=oe 195 (tR D) u AU C
abbrev arp:=AV Qk aro [cK,rQ,rR,lf,oM]
abbrev Ql:=SV.agg [Ae,ke,jd,iW,iw,iH,kJ,iI,kf,kK,qi,pu,tG,pz,tH,wv,ng]
abbrev Qm:List SV:=[Qj,HM]
abbrev Qn:=iJ (dD nh oN qm ml) od
abbrev arq:=EO (Ad 296 (AV Qn Qm [cK,nh,oN,qm,ml]) HM AU [rO,Ql,ax]) (dl b9) [cK,gP,pA,oL,pC]
abbrev ars:=AV Qk aro [jL,rQ,rR,lf,oM]
abbrev art:=EO (Ad 296 (AV Qn Qm [jL,nh,oN,qm,ml]) HM AU [rO,Ql,cK]) J8 [jL,gP,pA,oL,pC]
abbrev aru:List SV:=[Qj,Cg (lM gm) (lM gm) (vo (lM gm)) (vo (lM gm))]
abbrev arv:=AV Qk aru [kH,rQ,rR,lf,oM]
abbrev arw:=EO (Ad 296 (AV Qn Qm [kH,nh,oN,qm,ml]) HM AU [rO,Ql,jL]) GP [kH,gP,pA,oL,pC]
abbrev arx:=AV Qk aru [tD,rQ,rR,lf,oM]
abbrev ary:=EO (Ad 296 (AV Qn Qm [tD,nh,oN,qm,ml]) HM AU [rO,Ql,kH]) aqi [tD,gP,pA,oL,pC]
abbrev arz:=AV Qk [Qj,Cg (lM qb) (lM qb) (vo (lM qb)) (vo (lM qb))] [GQ,rQ,rR,lf,oM]
abbrev arA:=EO (Ad 296 (AV Qn Qm [GQ,nh,oN,qm,ml]) HM AU [rO,Ql,tD]) P3 [GQ,gP,pA,oL,pC]
abbrev arB:=SV.agg [iQ,kK,qi,pu,tG,pz,tH,wv,ng,nf,mM,gP,pA,oL,pC,rQ,rR]
abbrev L9:List RK:=[aE,aC,aF,aG,ak,.str,aY,ak,ac]
abbrev agc:=dD oN qm ml od
abbrev XS:=mL tJ (rL tJ)
abbrev arC:=dD qn qo uY uZ
abbrev arD:=dD uX wF rV oO
abbrev Qo:=dD u4 u5 wK wL
abbrev XT:=iJ Qo Au
abbrev XU:List RK:=[aE,aC,aF,aG,ak,aR]
abbrev HN:=kY HG
abbrev arE:=E8 (iY 95 HN afN azJ fM HG [fA,ez,cH,P7]) afN AP AP P8 AQ AQ
abbrev yP:=dD (Hu d bh) (nZ e bh) (Hu f bh) (nZ g bh)
abbrev arF:List SV:=[OW,yP U7 U7 Va Va]
abbrev Ma:=dD lf oM nh oN
abbrev Qp:=iJ Ma qm
abbrev XW:=iJ ml od
abbrev XX:=GF wB At wD yv
abbrev Qq:=dD Cr wE uX wF
abbrev XY:=iJ Qq rV
abbrev agd:=iJ oO qn
abbrev age:=GF qo uY uZ u0
abbrev arG:List SV:=[Qq,yP (ql gm (.v 55)) (ql gm (.v 55)) (rT gm yw) (rT gm yw)]
abbrev XZ:=vq gk
abbrev arH:=GF EP LJ EQ ER
abbrev Qr:=dD ES ET EU EV
abbrev Qs:=vq eI
abbrev arI:=dD Hz PG (cY 83) (cY 84)
abbrev arJ:=T.node Qs (wl 269 (fP 261 (yK 195 (wA Qr) Qr AL fp [Qo,yP (uU (.v 66)) (uU (.v 66)) (wz (.v 67)) (wz (.v 67))]) arH fp [yL,cP] Ac) yL Hv fp tI) (wA Qo)
abbrev xf:=fP 269 (fP 261 (fP 195 k w fp Q yo) v fp D Ac) u fp C qa
abbrev arK:=T.node Qs (xf (wA Qo) agd age XT tI [oO,cP] [Qq,yP (uU (.v 55)) (uU (.v 55)) (wz yw) (wz yw)]) (wA Qq)
abbrev arL:=T.node XZ (xf arJ agd age XT Ar [oO,em] arG) arK
abbrev arM:=lH OV (iU gm wC)
abbrev arN:List SV:=[Ma,yP (ql gm uW) (ql gm uW) arM arM]
abbrev arO:=lH OV (iU qb wC)
abbrev arP:=T.node Qs (xf (wA Qq) XW XX XY tI [ml,cP] [Ma,yP (uU uW) (uU uW) arO arO]) (wA Ma)
abbrev arQ:=T.node XZ (xf arK XW XX XY Ar [ml,em] arN) arP
abbrev arR:=T.node XF (xf arL XW XX XY Kl [ml,ee] arN) arQ
abbrev arS:List SV:=[OW,yP UW UW UZ UZ]
abbrev arT:List RK:=[aE,aC,aF,aG,ak,aR,aj,ac,ap,qf]
abbrev arU:List RK:=[aE,aC,aF,aG,ak,aR,aj,ac,ap,qf,cX]
abbrev arV:List RK:=[aE,aC,aF,aG,ak,aR,aj,ac,ap,aj,ac,ap,ac,ar]
abbrev arW:List RK:=[aE,aC,aF,aG,ak,aR,aj,ac,ap,qf,cX,dI,.dead,co,cX]
abbrev arX:List RK:=[aE,aC,aF,aG,ak,aR,aj,ac,ap,.dead,.dead,.dead,.dead,.dead,.dead]
abbrev arY:=nA 65 (lG [eB ew,qu,tP]) VL arW [aE,aC,aF,aG,ak,aR,aj,ac,ap,qf,cX,dI,.dead,.dead,cX,co] ap1
abbrev arZ:List SV:=[fA,gW,cH,jX,mh,po]
abbrev ar0:=iJ (yr ee mK yq rM rX qu) fM
abbrev ar1:=yr ez mK yq rM rX qu
abbrev ar2:=yr fM tP Cx AB tQ tU
abbrev agf:List RK:=[aE,aC,aF,aG,ak,bo,aR,aj,ac,ap,aj,ac,ac,ap,ar,aj,ac,ac,ap,ar]
abbrev qI:=pm f g k l m (cj d e)
abbrev t6:=hJ a k (.agg D) u A C P
abbrev og:=hU a k l lF kb A C
abbrev sn:=SV.int .u64 d
abbrev yQ:=CQ a bh d F
abbrev yR:=eJ a d lK
abbrev t7:=aX k l m (ko d e) o
abbrev pG:=kn a tF
abbrev pH:=CA a yw
abbrev E9:=T.rows nz H [aE,aC,aF,aG,ak,aR,aY,w8,ak,.dead,PI,nz] (.bj (CE (.and (cS cm Ai) Hd) (fz LQ) (cj LQ Ch)) k)
abbrev qJ:=EA a yu
abbrev qK:=iS a fK
abbrev sr:=Cp a dX
abbrev t8:=iS a L5
abbrev vu:=eJ a fK na
abbrev vw:=eJ a dX Ag
abbrev vx:=kn a (jM mI)
abbrev Mb:=mY u v (lI (.c 609) Ov)
abbrev AW:=gc k l m (cS d e) o
abbrev vy:=G7 a eW
abbrev yS:=yQ a bh mi
abbrev AX:=CQ a d e mZ
abbrev Qt:=G4 248 k u HC C
abbrev AY:=iS a bh
abbrev yT:=oc k o Ab u A
abbrev AZ:=CR a b eI eI na He
abbrev Mc:=GM a (cd k p q) o A
abbrev A4:=CR a b bh bh si n9
abbrev Fa:=qI d e f g k l (cd (jY m) eP eP)
abbrev Fb:=oc (lc (Mb x y)) o (mY u v w) ax A
abbrev Fc:=Qt k v [u,aJ d]
abbrev xg:=lI (.c 29) d
abbrev CU:=CR a b cm cm si n9
abbrev oR:=gC d iv
abbrev ar3:=T.loop 3 P C (.pick Ch o (cS Ch rY) k l)
abbrev Qu:=T.new a (.lit N) A B k
abbrev HO:=qA a (cd k p q) l o
abbrev CV:=gv a k ez A C
abbrev CW:=oc k o G6 u A
abbrev X0:=ar3 k (AE [eB mj,EP,LJ,EQ,ER,ES,ET,EU,EV,AL,AM,CF,CG,CH,mK]) (.not (.has mi 1 (.v 79) bh bh)) [rV,oO,qn,qo,uY,uZ,u0,u4,u5,wK,wL,Au,yL,po,fZ] [aK,aK,aK,aK,aK,aK,aK,aK,aK,aK,aK,aK,aK,Xa,.ref nz]
abbrev CX:=CR a b cm cm mi n9
abbrev X1:=ar3 k (AE [eB jr,EQ,ER,ES,ET,EU,EV,AL,AM,CF,CG,CH,Hx,Hy,Hz,mK]) (.not (.has mi 1 (.v 82) bh bh)) [oN,qn,qo,uY,uZ,u0,u4,u5,wK,wL,Au,yL,Hv,EP,po,fZ] [aK,aK,aK,aK,aK,aK,aK,aK,aK,aK,aK,aK,aK,aK,Xa,.ref nz]
abbrev Qv:=hJ a k u v A C P1
abbrev Fe:=oK 134 k u [] C
abbrev agh:=T.node o (.bn u) k
abbrev Me:=X0 (E9 (aX k l m CJ CL) H)
abbrev xj:=cj d cm
abbrev Qw:=kZ d iv
abbrev HQ:=T.node o (qH (cS bG cg)) fY
abbrev Mf:=X1 (E9 (aX k l m CJ CL) H)
abbrev HR:=AK a (cd k p q) l o P
abbrev Ff:=CQ a cm d F
abbrev vz:=CR a b bG bG jK lK
abbrev A5:=IE.cell n9 d a
abbrev Qx:=T.node acJ k l
def T82:T:=HQ (uT bA)
def Qy:T:=og 82 oF (yN 82 oF (yH 82 oF (AG 82 oF (cd (hU 154 oF (hU 154 oF (hU 154 oF (hU 154 oF (hU 154 oF (wl 142 (pm gN bh oF oF (qc oF acp acp acp (ce gN) (J0 bh gk cm gu) (J0 gk eI gu dX)) DN) iw iH kX [mX ax cK,Om]) (z6 8) JZ kX [fM,sc 2 b9 jK,cK,jd]) Ol DM kX [ee,.bool (vq (qg 5 b9)),cK,Cp 5 b9]) Oj zZ kX [ez,.bool (vq (qg 4 b9)),cK,Cp 4 b9]) JY yk kX [cH,sc 1 b9 jK,Cp 3 b9,DL]) Cc rF kX [gZ,sc 0 b9 jK,cK,jL]) (eo b9 (.c 10) GB) (eo b9 iv GB)) yj kX [eu,cK,kH]) kX [dK,ax,Hu fK cm]) kX [gM,ax,Hu eW cm]) kX [gA,cK,Ue]
def agj:T:=HQ (cS bA bG)
def Mg:T:=aX DQ DQ (aX DQ DQ (pm acr jc (lc ax) (lc (Hu acr jc)) (lc (aJ acr)) Ou) Uj (eA bA wm)) J3 Ot
def Mh:T:=aX Uk Uk (aX Uk Uk (iK (cd (aX (.node (ce Ov) (jY (lJ (Mb (xg Ow) (xg Ox)) kX)) (jY (lJ (Mb (xg Ow) (lI DR Ox)) kX))) (jY (lJ (Mb (lI DR Ow) (xg Ox)) kX)) (jY (lJ (Mb (lI DR Ow) (lI DR Ox)) kX)) (ce Ov) (ce Ov)) acu acv) Ou amW kX) (xj bA) (eA bA jb)) J3 Ot
def X2:T:=aX amX amX (dE (et (uK (aJ Ow) (aJ Ox) ax) kX) acu acv acu acv) (xj bG) Ot
def X3:T:=iY 210 wn (iY 210 wn (gv 110 (lc cH) cH [] [aJ Um,aJ acw]) Ul gZ [] [mX dK eu]) (dl b9) gA [] [mX gV gM]
def X4:T:=pm bA ym Aa Aa (qI bG Ce bG ym Aa Aa (fP 276 (fP 275 (O6 Aa (kZ cR cm)) (sn cR) [] [sn cg,sn (OD bA)] [Oy]) (sn cg) [] [gV] [Oy])) (xj bA)
def X5:T:=iK (ja (sn (OD bG))) J3 (sn (.bin .sub .u64 bh (OD bG))) []
def ar4:T:=cd (.bj (dl bA) (ja (DP (nY bG (WN (lH (WN bG bA) bA) bA)) bA .quo))) (dl bA) (dl bA)
def ar5:T:=gv 210 (aX (ja (uK ax ax eu)) (ja acx) (iK (gv 371 (gv 371 (ja (uK gA (vo gj) ax)) gZ [] [lI acq cg,gM]) gA [] [lI bG cg,gM]) (eA cg ym) acx []) Un (cj cg Ce)) eu [] [mX gV gM]
def X6:T:=iK (qe 0 (.bj (dl (fo b9 cm)) (iK (lG [sn cR,sn b9,sn amY]) (ce amY) (sn b9) [])) Un (sn cg) [] [sn bA,sn bG,sn bA] [Oy,Oy,Oy]) (ce bA) (sn bG) []
def X7:T:=oK 192 (wq 192 (aX (.node tq tA (ja DS)) J6 (qI bG bA bG bA (ja DS) J6 tA) oE tq) [] [gM]) kb [] [gV]
def X8:T:=qH (kZ bG bG)
def T66:T:=qI bG rH bG rI fY fY (qI bA rH bA rI fY fY (qI cg rH cg rI fY fY (qI cR rH cR rI fY fY (Kb fY acy acz []))))
def T72:T:=og 66 mG (yN 66 mG amZ [] [Uo]) [] [Cf]
def T69:T:=yK 72 (qH GH) Uo ee [] [Cf,Cf]
def agn:T:=oK 66 (aX mG rJ (jq rJ rJ rJ (yN 66 rJ (lc acF) [] [acF]) am0 acC acD) lF (cj b9 acA)) kb [] [Cf]
def T24:T:=og 66 (uJ eV GD) (wq 66 (aX (uJ eV GD) (AW bA gj (lc (.bool (cS cR ew))) (lc eV) (lc eV) (jN cg dW)) (lc eV) rE (uT b9)) [] [Uo]) [] [Cf]
def agp:T:=qI bG DT bG mg wo wo (qI bA DT bA mg wo wo (qI cg DT cg mg wo wo (qI cR DT cR mg wo wo (qI b9 DT b9 mg wo wo (qI gj DT gj mg wo wo (lc (wN (lH Um (iU bA b9)) cg gj)))))))
def agq:T:=gc (Ad 139 (ja OC) acG [] [gV,kH]) am1 am1 (ce bA) (fQ cg)
def agr:T:=Kb (wq 82 (ja nX) [] [gV,gM,dK]) lF Ou []
def ags:T:=HQ (cS bA bG)
def X9:T:=wU 0 (qG (nq (eB GJ) eu) (nq dK (aJ GJ)) (jO GJ GJ iv) (jO GJ GJ iv) (eA (z7 GJ) bA)) (cd (.bj (jO GK GK iv) (G5 (wN (kh GK jK) (nY bA (z7 GK)) (qg 2 GK)))) eP (jO GK GK iv)) (cj cg cR) (aJ iv) qa
def ar6:T:=gv 81 (oc (og 219 (kg ax cK ki) (gv 220 (lJ eu ki) eu ki [Af,gM]) ki [gM,ax,aJ z8]) (dl cg) ax dK ki) dK ki [Af]
def ar7:T:=wl 353 (iK (gv 210 (iK (og 219 (G5 acx) (G4 354 (G5 (uK ez ee fM)) (uK ez ee fM) ki [mX dK eu,gA]) ki [dK,ax,eu]) J8 (uK ax ax cH) ki) cH ki [mX dK eu]) Ul (uK ax ax gZ) ki) gA gZ ki [Af,gM]
def ar8:T:=G4 310 (G4 310 (G5 (aJ (fo bh (nY fK gm)))) (uK kJ iI kf) ki [Af,eu,mX fO cP]) (uK iW iw iH) ki [Af,eu,mX ke jd]
def T70:T:=HQ (cS bA bG)
def T65:T:=iY 37 (og 70 (et cK eC) (et ez eC) eC [cH,ax,Us]) (et ez eC) OF ez eC yp
def T12:T:=oK 33 (pm iv jc DZ (.node (cS iv J9) DZ am4) am4 lF) kb acH yp
def Ya:T:=pm tC J9 kj kj (pm Cj J9 kj kj (oJ gj Ah (DO eC) am6 am6 (cS oG (.c 80))) (eA J4 J9)) (eA iv OG)
def T18:T:=hJ 16 (oc (kg eV ez am7) OF (.bool (ce Ai)) ez am7) rM ez uN azz Uv
def T20:T:=Qx (kY [eY,eY]) (Mc 0 (qG (kY [eY,eY]) Ck Ak Ak (CE acK (vz 1 1) (vz 2 2))) Aj oa oa [eY,eY])
def Yb:T:=aX Uw Uw (gv 81 (iK (og 82 uO (yN 82 uO (CV 83 (aX uO uO (aX uO uO (qA 0 (sd (yH 82 uO (AG 82 uO (hU 82 uO D5 Cc rF eC [Cp 3 dH,ax,OK]) yj eC [Cp 2 dH,ax,gM]) eC [Cp 1 dH,ax,gV]) Al Ux Al Ux) (qe 1 (cd (pm Uz mg uO uO (yH 84 uO (e9 1 Cm (aJ Uz)) eC [.agg am8,aJ iv,gZ]) (cS Uz gk)) Uy Uy) acM ax eC [ax,DS] qa) Ux) (n7 cR) (ce iv)) uP (n7 cg)) eC [mY dK eu gA]) eC [gM,cK,aJ yt]) eC [gV,cK,aJ yt]) J8 cH eC) cH eC [D4]) (eA iv J9) acI
def T86:T:=LD (nA 4 (et Ae [aj,aj]) ON [aj] [aj,qf] UB) (et fZ [aj]) UA
def T87:T:=LD (nA 71 (et Ae [ac,ac]) ON [ac] [ac,cX] UB) (et fZ [ac]) UA
def T88:T:=LD (nA 96 (et Ae [aY,aY]) ON [aY] [aY,uR] UB) (et fZ [aY]) UA
def asf:T:=gv 173 (et (.bool (lL cR)) [aY]) eu [aY] [DW,dD gV gM dK kb]
def asg:T:=Ka 0 (mJ (et eu [aY]) (lG [eB cR]) (.and UC (iA cR)) (.and UC (iA cR)) (CE (An (z7 cR)) (gC bA (kh cR jK)) (.and (gC cg (qg 2 cR)) (.beq oE (K1 cR jK))))) (iA cR) DS [aY]
def ash:T:=Ka 0 (cd (gc (gc (gc (E8 (og 102 (DO acO) D6 acO [G8 0 GO oI,Hj 0 mF ax ax gG mZ]) D6 ana ana (yD GO n8) anb anb) D6 D6 (.and (AX 10 mF gU) (AX 11 mF eX)) (.and (AX 12 mF gm) (AX 13 mF qb))) D6 D6 (AX 4 mF (nY (.c 15) gu)) (AX 9 mF (Cl dH))) D6 D6 (AX 2 mF cN) (gC GO (jM gN))) am9 am9) (cj mF oG) eV acO
def agv:T:=w5 26 (qH lF) kb ee [] [Cf,Uo]
def Yc:T:=aX Co Co (.bj Kd (iY 207 Co (GM 0 (.bj Cd (gv 207 (qc Co Oq Oq Oq (kZ cg jW) (kZ cg jb) (kZ cg rN)) dK fp [.int .u8 (.lT jK bA)])) Oo fp) (kZ bG jW) gV fp [.int .u8 OP])) (.seq jK (.k (.string ⟨#[]⟩))) (eA iv (.c 32))
def T77:T:=iY 37 (qh ee eC) (og 82 Ke (yN 82 Ke (HR 0 (gc (gX 90 (nq Cm gW) (jf tB) acP ang am8 UE) (nq Cm iQ) (nq Cm iQ) (AX 1 cN dW) (AX 2 cN ew)) (.dO 140 141 90 (.ratio 10 11) J n8 acP (et acQ anh)) acM Uy Uy (pw gO)) eC [ez,ax,Us]) eC [cH,ax,aJ (jM iv)]) GP ee eC yp
def Yd:T:=aX anj anj (lO fY ani acT acT acR lF UJ) UF UI
def agx:T:=HQ (uT bA)
def Ye:T:=D3 bG (ja jL) anm anm (uT (.c 97)) 122
def T25:T:=oK 69 (aX D7 (jq D7 D7 (t7 dW mg D7 (lO D7 (uJ Ab cK) (t6 133 (.node UK rJ (gX 65 (t6 133 (iK (gX 65 (dE (oe 72 (et anp [.dead,ar]) anp [.dead,.dead] [dD (yR 0 bh) (yR 1 bh) (yR 2 bh) (yR 3 bh),dD (yR 0 cm) (yR 1 cm) (yR 2 cm) (yR 3 cm)]) (cj bh tC) (cj bh tC) (cj cm tC) (cj cm tC)) ON [co] [.dead,co] [jd,iW,iw,iH] (.ref jK)) (dl eX) acB [ar]) kJ [.dead] [Cf,lI ano dW,lI ano ew] [jd,iW,iw,iH] yo) eP [] [co] [fM,em,fO,cP] Cn)) ke [] [Cf,lI ann dW,lI ann ew] [fM,em,fO,cP] yo) (uJ Ab cK) (ko ew mg) Al (ko dH (.c 4095))) D7 (cS DT ew)) D7 (.not (cS b9 gj)) (jN gj Ah) (cS DT dW)) D7 lF GB) kb [] [Cf]
def Qz:T:=iK (LD (yO (LU 223 224 90 (HR 0 (qe 1 (E8 (hU 225 (cd (gX 258 (nq acL gW) (jf tB) [ak,aY,.dead,gO,.dead,OS] [ak,aY,.dead,gO,.dead,.dead,OS] [aJ OJ,nc 1,nc 2,nc 3,nc 4,nc 5,nc 6,nc 7,nc 8,nc 9,anc,ane,anf,nc 13,yR 0 bA,aJ Kh,aJ OT,sc 3 bA lK] UE) Kg Kg) (e9 1 J2 iQ) oE kb [ak,aY,.dead,.dead,.dead,.dead] (Hg (dD (yR 0 bA) (aJ Kh) (aJ OT) (sc 3 bA lK)) anq)) (e9 1 J2 iQ) UN UN (CQ 0 bA OJ Ag) Kg Kg) acV UL [ak,aY,.dead,ak,.dead,wu] [ax,OE] D8) (kg OE gG [ak,aY,.dead,ak,wu]) Aj oa oa D8) acU pn UM) ON Kf acU UB) (LU 223 224 90 (HR 0 (qe 1 acW Uj UL [ak,aY,ak,.dead,wu] [ax,DY] D8) (kg DY gG [ak,aY,ak,wu]) Aj oa oa D8) Kf acN UM) UA) acJ UL Kf
def CY:T:=gv 74 (yT (gv 75 (aX (kg Ab mM fp) (gc (gc (wA OW) (nj (Cq UP UU UQ UU UR UV (fo US UV)) ww gP cP Aq tI) (nj ant ww gP em Aq Ar) DV Ap) (nj (.node DV ant (nj (Ee (ld UX Km) (fo UY Km) (ld U0 Ko) (fo U4 Ko) (nj (Cq (ld UX Km) Ks (fo UY Km) Ks (ld U0 Ko) Kt (fo (fo U4 Ko) Kt)) Kq od cP GU tI) Ap fp) Kj lf em Kk Ar)) ww gP ee Aq Kl) (nj anv ww gP cH Aq [gZ,dK]) GI GH) (nj (.node GI anv (nj (gc (Ee acZ ac0 ac1 ac2 (nj (Cq acZ Ks ac0 Ks ac1 Kt (fo ac2 Kt)) Kq od cP GU tI) Ap fp) (nj anw Kq od em GU Ar) (nj (.node DV anw (nj (Ee anx anz anA anB (wl 138 (hJ 139 (Cq anx (uU (.v 57)) anz (uU (.v 57)) anA (wz (.v 58)) (fo anB (wz (.v 58)))) (mY uZ u0 u4) u5 fp [qo,cP] Ac) qo uY fp tI) Ap fp) Vh wE em acY Ar)) Kq od ee GU Kl) GH DV) Kj lf cH Kk [gZ,dK])) ww gP gA Aq [eu,dK]) GR OA) mM fp ans) (dl iR) nf fp) nf fp [rO]
def QA:T:=wG (Fe (aX qp (KC (Fe (aX qp (KC (Fe (aX qp (KC (Fe (aX qp (KC (Fe (aX qp (wG tA (z6 11) (.not Kz) (uI 11) O5 OZ O4) tA (z6 10) OY) (uI 10) Vn) (z6 9) (uI 9) Vm) anC (z6 8) Vl) JZ ac9) Ol DM ac8) anE Oj ac7) zZ [cH,cK,kH]) JY yk [gZ,ax,DL]) anH Cc (Ky DU GI)) rF [gA,cK,kH]) yj uH [eu,ax,DL]) (aX (wG anH yj Cc uH rF [gZ,ax,DL] [cH,cK,kH]) (wG anG yj Cc uH rF ac8 ac9) (aX (wG anF yj Cc uH rF Vm Vn) (wG tA yj Cc uH rF OZ O4) tA Vl OY) (Ky DU GI) ac7) GA (Ky Vk OA)) mf [dK,ax,OK]) lF rE kb nX [gV,aJ Ce,aJ ym] [gM,aJ Ce,aJ ym]
def Yf:T:=gD 0 (.bj Un (nq (KN b9 cR) eu)) (gD 1 (.bj Ul (e9 1 (KN dW gj) gZ)) (gD 2 (.bj uP (e9 2 (KN dH ew) ez)) (cd (.bj (dl KD) (ja (mY (DP bG KD .quo) (DP bA KD .quo) (DP cg KD .quo)))) (dl KD) (dl KD)) uP [dK,cH] qa) Ul [gM,gA] qa) Un [gV,ax] qa
def Yg:T:=aX tK tK (jq tK tK tK (G4 153 (O6 tK (ae6 (gC cR bG) (gC b9 bA) (gC gj cg))) OC [] [mY gV gM dK]) (cj (ld bG bA) ada) (eA (fo bG bA) cg) anJ) (xj cg) anI
def QB:T:=oK 135 (aX eZ eZ (aX eZ eZ (aX eZ eZ (aX eZ eZ (aX eZ eZ (jq eZ eZ eZ (cd (Fa gu cm gu jb nl nl (Fa eI cm eI jb nl nl (Fa dX cm dX jb nl nl (Fa dH cm dH mg nl nl (Fa cN cm cN mg nl nl (Fa gk cm gk mg nl nl (Fa cR cm cR Cs nl nl (Fa b9 bh b9 Cs nl nl (pm bA (.c 500) nl nl (cd (jY (qI eW bh eW mg nl nl (jY (et ax fp)))) eP eP) Uj))))))))) eP eP) (eA ew jc) (n7 fK) (eA fK mg)) (eA dW jc) (xj ew)) (eA gj jc) (xj dW)) (eA cg Ch) (xj gj)) (eA bG (.c 500)) (xj cg)) lF (xj bG)) kb fp [DW]
def T23:T:=CV 65 (iK (HR 0 (qc (Hl 2 adc [aE,aC,aF,aG,ak,km] [GG KE adb,aJ (fo KE adb),gG] UE km) ade ade ade (gC Vp dW) (AX 4 dH wm) (kZ adb KE)) (qe 1 (.loop 2 (pw Vq) [ax,gW] (gc (gX 142 (e9 2 Ei mh) KF [aE,aC,aF,aG,ak,km,.dead,Vq] [aE,aC,aF,aG,ak,km,.dead,.dead,Vq] [fM,em] Eh) (e9 2 Ei jX) (e9 1 Cm jX) (iA gk) (CC 2 2 cN gk n8))) (iA cN) acQ [aE,aC,aF,aG,ak,km,ec] UD (pw Vq)) O8 tL tL (pw km)) uP Vo eC) eC O7
def QC:T:=yI 77 (KO mH tB (et ee oP) (et Ek oP) (LD (yO (LU 223 224 90 (qe 0 (cd (qe 1 (E8 (hU 225 (cd (gX 258 (nq Cm yq) Vu [aE,aC,aF,aG,ak,aY,ak,.dead,gO,.dead,OS] [aE,aC,aF,aG,ak,aY,ak,.dead,gO,.dead,.dead,OS] [fT 0,fT 1,fT 2,fT 3,fT 4,fT 5,fT 6,fT 7,fT 8,fT 9,fT 10,fT 11,fT 12,fT 13,tT 0,tT 1,tT 2,sc 3 gk n8] Pa) El El) (e9 1 Ei mK) oE kb [aE,aC,aF,aG,ak,aY,ak,.dead,.dead,.dead,.dead] (Hg (dD (tT 0) (tT 1) (tT 2) (sc 3 gk n8)) [fT 0,fT 1,fT 2,fT 3,fT 4,fT 5,fT 6,fT 7,fT 8,fT 9,fT 10,fT 11,fT 12,fT 13])) (e9 1 Ei mK) Vs Vs (gC Vt (iB cN n9)) El El) O9 Ek [aE,aC,aF,aG,ak,aY,ak,.dead,ak,.dead,wu] [ax,po] D8) KI KI) Vr ax [aE,aC,aF,aG,ak,aY,ak,.dead,ak,wu] UD D8) anK oH UM) KG oP anK adf) (LU 223 224 90 (qe 0 (cd (qe 1 acW (n7 gk) Ek [aE,aC,aF,aG,ak,aY,ak,ak,.dead,wu] [ax,mh] D8) KI KI) Vr ax [aE,aC,aF,aG,ak,aY,ak,ak,wu] UD D8) oP acN UM) (cS mH bh)) GP) gW ee GV Ej
def T89:T:=yI 77 (.node On (kg wH kK oP) (iY 74 (kg wH qi oP) (hJ 155 (oc (gD 0 (cd (hJ 227 (aX (kg wH Au Pb) (lJ anL Pb) (lG [eB tF,uX,wF,rV,oO,qn,qo,uY,uZ,u0,u4,u5,wK,wL,uX,wF,rV,oO,qn,qo,uY,uZ,u0,u4,u5,wK,wL]) (dl (.v 63)) (dl (.v 63))) anL Au Pb [.agg [lf,oM,nh,oN,qm,ml,od,wB,At,wD,yv,Cr,wE],.agg [pG 0,pG 1,pG 2,pG 3,pG 4,pG 5,pG 6,pG 7,pG 8,pG 9,pG 10,pG 11,pG 12,pG 13],dD (pG 14) (pG 15) (pG 16) (sc 17 tF oH)] wJ) (mL tF (tO tF)) (mL tF (tO tF))) (lJ (.agg [tG,pz,tH,wv,ng,nf,mM,gP,pA,oL,pC,rQ,rR]) Pb) (tO tF) [ax,ee,fM,em,fO,cP,ke,jd,iW,iw,iH,kJ,iI,kf,ee,fM,em,fO,cP,ke,jd,iW,iw,iH,kJ,iI,kf] [aK,aK,aK,aK,aK,aK,aK,aK,aK,aK,aK,aK,aK,aK,aK,aK,aK,aK,aK,aK,aK,aK,aK,aK,aK,aK,aK]) lF wH Ek Pb) jX kb oP [gW,iQ] [.ref wu,.bool]) (dl (.v 22)) qi oP [wI])) gW kK GV Ej
def oS:T:=gv 74 (aX (uJ wH mM) (hU 134 (hU 134 (hU 134 (hU 134 (Fe (aX (.node (.v 5) (hU 134 (Fe an2 DM [nf,ax,ax]) Ax (.v 6) zZ [] [ng,ax,ax]) Ax) (hU 134 (Fe an2 DM [nf,anP,anQ]) Ax (.v 6) zZ [] [ng,Aw bh bh anN,Aw bh bh anO]) Ax oE (.v 5)) yk [kK,Aw cm cm (nx bh bh (nx bh cm Vx yB Av) yz yA),Aw Cs Cs (nx bh bh (nx bh wm Vx yB Av) yz yA)]) Pd (.v 4) rF [] [kf,anP,anQ]) Pd yi uH [] [iI,Aw cm cm anN,Aw jc jc anO]) Pd yg mf [] [kJ,Aw cm bh (nx cm cm (.cF yB bh anM) yz yA),Aw jW bh (nx jW jW (nx bh bh (iX bh bh jW GX GY G0) yB Av) yz yA)]) Pd tq nX [] acS) Pd GR (wM Vv Vw (wM yz yA (u7 yB Av GX GY G0)))) mM [] [rO]
def Yh:T:=.node (cS (fo iv tC) Ah) (t7 J4 (.c 256) Pe (gc (qG ef (wU 0 (cd (oJ GC z8 (AW VE Pf (AW VE Pg ef (nq J2 (aJ GC)) ef (ko Pg Ew)) ef ef (cS Pf Ew)) ef ef (cS Cu GC)) Cd Cd) (qA 1 (gv 220 (AW cm b9 ef (tR [eB cR]) ef (ko b9 Ew)) gA ki [Af,eu]) (wU 2 (sd (oJ adn (nY bG jW) (oJ (kh b9 lK) jW (oJ (wt 2 b9) (wt 3 b9) (.node (ko (wt 3 b9) mg) ef (e9 2 (eB b9) (aJ adn))) ef ef (fz (wt 2 b9))) ef ef (cS cm (kh b9 lK))) ef ef (cS tE adn)) GB adm GB adm) (Ka 3 (sd (oJ adp bG (oJ adq bG (oJ rH (PL 2 pn) (AW (PL 2 pn) (PL 3 pn) ef (Cy [eB dW]) ef (ko (PL 3 pn) rI)) ef ef (kZ adp adq)) ef ef (fz adq)) ef ef (fz adp)) OH ado OH ado) ado ax ki) adm DS qa) (cj cR bG)) Oo DS qa) Kd Kd (yQ 0 bh jK)) ef ef (cS bG Ah) (vq iv)) ef (cS cm bG)) Pe
def T13:T:=CV 37 (aX (kg G6 ez pE) VF (aX VF (qc Cv (qA 0 (dE (dE (iY 75 (gv 74 (jq Cv (iY 85 Cv D5 adv fO pE [fA,ee,cH,.ref (Ci 0 dH na)]) Cv D5 VG adu (.not (ce (.len (Ci 0 dH na))))) em pE adt) Cv J7 fM pE [ads]) KQ KQ (eo dH qr Al) (eo dH qr Al)) Ex Ex KP KP) (fP 86 (fP 87 (gD 1 (dE (dE (fP 88 (gX 82 (.node (yD cN oH) (t6 89 (CW (t6 90 (CW (gX 71 (gX 65 an7 VO VN an6 [tG,pz,tH,wv] VP) Hd adz VN an3 Pj) (dl Ki) ng adB) ng adA [fA,fM,cH,.agg VM,an4,adw] [tG,pz,tH,wv] yo) (dl tF) pu adB) pu adA [fA,fM,cH,.agg VM,adw] an3 wJ) (oe 27 (CW (gX 71 (gX 65 an7 VO VN an6 [em,fO,cP,ke] VP) Hd adz VN VM Pj) KU jd adB) adD adA [.agg VM,an4])) VL [aE,aC,aF,aG,ak,bo,aR,aj,ac,ap,aj,ac,cX,dI,co,aY] adz [tP] ady) tP [aE,aC,aF,aG,ak,bo,aR,aj,ac,ap,aj,ac,.dead,.dead,.dead] [adw] VJ) (eo cN rK GN) (eo cN rK GN) KT KT) KI KI KS KS) (lJ (yr cH mK yq rM rX qu) adF) Vr VI VH) yq [aE,aC,aF,aG,ak,bo,aR,aj,ac,ap,aj] [mh] [yE]) mK pE [jX] [KR]) Ph) Cv Cv (oR mI) (oR rK) (.not (oR qr))) Cv (jN dW gj) (oR mH)) uP (n7 dW)) pE yp
def T16:T:=CV 37 (aX (et Vo uN) (qh jL uN) (qc (aX tS (qc tS (qA 0 (dE (dE (iY 75 (gv 74 (jq tS (iY 85 tS D5 adv fO uN an8) tS D5 VG adu an9) em uN adt) tS J7 fM uN [ads]) KQ KQ VQ VQ) Ex Ex KP KP) (qA 1 (dE (oe 72 (.node (ce eW) (cd (iY 74 tS VS (.not OQ) iW uN aoa) KT KT) tS) adD uN [VR,VR]) Ez Ez Ez Ez) (HO 2 (oe 25 (oc (AE [Ei]) VT fZ iW uN) aoc uN aob) (fP 86 (fP 87 (gD 3 (dE (dE (fP 88 (gX 82 (.node (yD gu oH) (fP 89 (oc (oe 90 (oc (gX 71 (gX 65 aog V7 V6 aof V5 V9) VO adH V6 V4 VP) GR fZ mM adK) (Ey mM V5) adJ aod) (dl acX) fZ pz adK) (Ey pz V4) adJ [fA,fO,cH,Pn,Pm] wJ) (oe 27 (iK (gX 71 (tX 65 aog V7 V6 aof V9 adN) VO adH V6 adI VP) Hh KW adK) adM adJ [Pn,adL])) VY [aE,aC,aF,aG,ak,bo,aR,aj,ac,ac,ap,ar,aj,ac,cX,dI,co,aY] adH [AB] VZ) AB [aE,aC,aF,aG,ak,bo,aR,aj,ac,ac,ap,ar,aj,ac,.dead,.dead,.dead] [Pm] VJ) VW VW VX VX) VU VU VV VV) (AK 4 (dE (dE (cd (qG (qz (dE (w5 24 (aX (et adO [aE,aC,aF,aG,ak,bo,aR,aj,ac,ac,ap,ar,aj,ac,ac,ap,ar,aZ,aZ]) (qz (.node adP (yI 77 (iK (wU 5 (sd (qA 6 (se (hJ 78 (K8 aoo (wq 102 (jq (K9 (aX (se adZ EE wR) (se adZ EE wR) EE Wg Wh) adX aop) (se ad0 vi wR) (se ad0 vi wR) vi rE Wg Wh) adW [wQ,adV]) DN EB EB) wQ iH adT [fA,aJ KY,KZ] K0) ad1 (gC We KY)) (hJ 78 (K8 aoo (wq 102 (jq (K9 (aX aos aos EE Wg Wh) adX aop) aot aot vi rE Wg Wh) adW [wQ,ad2]) DN eO eO) wQ iH adT [fA,aJ KY,KZ] K0) Wc) yG adS yG adS) (hJ 104 (iK (wU 6 (sd (qz (e9 6 Hn K3) [aE,aC,aF,aG,ak,bo,aR,aj,ac,ac,ap,ar,aj,ac,cX,dI,co,aZ,aZ,aZ,ak,aZ,EF,aZ] [jL,cP,nZ cm (kh gU (.v 22)),gG] Pq) Hm ad5 Hm ad5) (e9 4 EH EC) ad5 tV Cz) Hh KW [aE,aC,aF,aG,ak,bo,aR,aj,ac,ac,ap,ar,aj,ac,ac,ap,ar,aZ,aZ,aZ,ak,aZ,EF]) wQ iw adT ad3 ad4) adS tU Cz) KU adR [aE,aC,aF,aG,ak,bo,aR,aj,ac,ac,ap,ar,aj,ac,ac,ap,ar,aZ,aZ,aZ,ak]) pF jd [aE,aC,aF,aG,ak,bo,aR,aj,ac,ac,ap,ar,aj,ac,.dead,.dead,.dead,aZ,aZ,aZ] adQ) (e9 4 EH tU)) [aE,aC,aF,aG,ak,bo,aR,aj,ac,ac,ap,ar,aj,ac,cX,dI,co,aZ,aZ] [GQ,cP,ax,gG] aon) aoA UK lF) kb ke aom aol) Wa Wa Wb Wb) aok [tD,cP,ax,gG] Po) (dE (w5 24 (jq (et adO [aE,aC,aF,aG,ak,bo,aR,aj,ac,ac,ap,ar,aj,ac,ac,ap,ar,aZ]) (qz aoA aok [GQ,cP,ax,gG] Po) (yI 77 (iK (gD 5 (sd (qA 6 (se (hJ 78 (K8 aoB (wq 102 (jq (K9 (aX (se ael vi wR) (se ael vi wR) vi Wl Wm) aej aoC) (se aem Lc wR) (se aem Lc wR) Lc rE Wl Wm) aei [pF,adV]) DN EB EB) pF iH aeh [fA,aJ La,KZ] K0) ad1 (gC We La)) (hJ 78 (K8 aoB (wq 102 (jq (K9 (aX aoF aoF vi Wl Wm) aej aoC) aoG aoG Lc rE Wl Wm) aei [pF,ad2]) DN eO eO) pF iH aeh [fA,aJ La,KZ] K0) Wc) yG aeg yG aeg) (hJ 104 (iK (wU 6 (sd (qz (e9 6 Hn wQ) [aE,aC,aF,aG,ak,bo,aR,aj,ac,ac,ap,ar,aj,ac,cX,dI,co,aZ,ak,aZ,EF,aZ] [jL,cP,nZ cm (kh gU sa),gG] Wf) Hm aen Hm aen) (e9 4 EH tV) aen tU Cz) Hh KW [aE,aC,aF,aG,ak,bo,aR,aj,ac,ac,ap,ar,aj,ac,ac,ap,ar,aZ,ak,aZ,EF]) pF iw aeh ad3 ad4) aeg Pr Cz) KU adR [aE,aC,aF,aG,ak,bo,aR,aj,ac,ac,ap,ar,aj,ac,ac,ap,ar,aZ,ak]) tQ jd aef adQ) (e9 4 EH AB) UK lF adP) kb ke aef aol) Wa Wa Wb Wb) aoj aoj (oQ (AZ 0 0) (AZ 1 1) (AZ 2 2) (AZ 3 3) (oQ (AZ 4 4) (AZ 5 5) (AZ 6 6) (AZ 7 7) (oQ (AZ 8 8) (AZ 9 9) (CQ 10 eI (afQ 10 He) na) (CQ 11 eI (afQ 11 He) na) (CQ 12 eI (afQ 12 He) na))))) (yF qr) (yF qr)) (yF rK) (yF rK) (yF Ct) (yF Ct)) aoi aoi (yF mI) (yF mI)) (hJ 23 (iK (AK 5 (dE (oe 27 (oc (gX 65 (e9 5 EK pF) (jf K5) [aE,aC,aF,aG,ak,bo,aR,aj,ac,ac,ap,ar,aj,ac,cX,dI,co,aZ,ec,co] [aE,aC,aF,aG,ak,bo,aR,aj,ac,ac,ap,ar,aj,ac,cX,dI,co,aZ,ec,.dead,co] [iW,iw,iH,kJ] Lb) acn fZ iI [aE,aC,aF,aG,ak,bo,aR,aj,ac,ac,ap,ar,aj,ac,ac,ap,ar,aZ,ec,ar]) azD [aE,aC,aF,aG,ak,bo,aR,aj,ac,ac,ap,ar,aj,ac,.dead,.dead,.dead,aZ,ec,.dead] (Hg (.agg [Cw 0 eW n9,nC 1,nC 2,nC 3,nC 4,nC 5,nC 6,nC 7,nC 8,nC 9,nC 10,nC 11,nC 12,nC 13,nC 14,nC 15,nC 16]) [vy 0,vy 1,vy 2,vy 3,vy 4,vy 5,vy 6,vy 7,vy 8,vy 9,vy 10,vy 11,vy 12])) (.and AD (rL eW)) (.and AD (rL eW)) tW tW) (AK 6 (dE (t6 27 (oc (gX 65 (ED 6 tV) (jf Pp) [aE,aC,aF,aG,ak,bo,aR,aj,ac,ac,ap,ar,aj,ac,cX,dI,co,aZ,ec,co,co] [aE,aC,aF,aG,ak,bo,aR,aj,ac,ac,ap,ar,aj,ac,cX,dI,co,aZ,ec,co,.dead,co] [iw,iH,kJ,iI] ad9) aep fZ kf [aE,aC,aF,aG,ak,bo,aR,aj,ac,ac,ap,ar,aj,ac,ac,ap,ar,aZ,ec,ar,ar]) kf [aE,aC,aF,aG,ak,bo,aR,aj,ac,ac,ap,ar,aj,ac,.dead,.dead,.dead,aZ,ec,.dead,.dead] (Hg (.agg [Cw 0 fK n9,qK 1,qK 2,qK 3,qK 4,qK 5,qK 6,qK 7,qK 8,qK 9,qK 10,qK 11,qK 12,qK 13,qK 14,qK 15,qK 16]) [vu 0,vu 1,vu 2,vu 3,vu 4,vu 5,vu 6,vu 7,vu 8,vu 9,vu 10,vu 11,vu 12]) [iw,iH,kJ,iI] yo) (.and yG aeo) (.and yG aeo) (eo fK mH yG) (eo fK mH yG)) (cd (hJ 106 (iK (gD 7 (cd (qz (.node (cS (iB gU Hk) Ch) (qz (e9 7 Hn K3) aoI [Hp,eJ 2 gU Hk,ax,gG] Pq) (e9 7 Hn EC)) [aE,aC,aF,aG,ak,bo,aR,aj,ac,ac,ap,ar,aj,ac,cX,dI,co,aZ,ec,ar,co,qB,aZ] [Hp,eJ 1 gU Hk,ax,gG] (EJ 22)) Wk Wk) (wU 8 (dE (cd (w5 26 (oc (dE (w5 26 (jq (qh kf aoM) aoP aoP (e9 8 Pu EC) aep lF rE) nX kf aoL [Hj 0 vk (eJ 1 vk sa) (eJ 2 vk sa) (eJ 3 vk sa) sa,Hj 0 vl (eJ 1 vl sa) (eJ 2 vl sa) (eJ 3 vl sa) sa]) aoN aoN aoO aoO) acn fZ iI aoM) kb iI aoL [Hj 0 vk (eJ 1 vk rZ) (eJ 2 vk rZ) (eJ 3 vk rZ) rZ,Hj 0 vl (eJ 1 vl rZ) (eJ 2 vl rZ) (eJ 3 vl rZ) rZ]) aoK aoK) (.and Pt aeq) (.and Pt aeq) aoJ aoJ) (.loop 9 [.ref Ld,.ref nz] [fZ,fZ] (.pick Pv (.not (.has (.v 25) 1 gm bh bh)) (cS Pv (EG 25)) (Hl 1 (cd (.new 118 (.kz (EJ 24) (.lit [[eJ 0 Px K2,eJ 1 Px K2,eJ 2 Px K2]])) [aE,aC,aF,aG,ak,bo,aR,aj,ac,ac,ap,ar,aj,ac,cX,dI,co,aZ,ec,ar,co,qB,aZ,aZ,Ld,nz,nz] [aE,aC,aF,aG,ak,bo,aR,aj,ac,ac,ap,ar,aj,ac,cX,dI,co,aZ,ec,ar,co,qB,aZ,aZ,.dead,nz,nz,Ld] (e9 9 Wp aer)) (CE (.and (cS cm Pw) (jf Pw)) (fz Px) (cj Px Pv)) (jf (EG 24))) aoQ [iI] (EJ 25) nz) (LU 51 52 118 (HR 10 (gX 98 (e9 10 (eB gm) (jP 28)) (jf (EG 27)) [aE,aC,aF,aG,ak,bo,aR,aj,ac,ac,ap,ar,aj,ac,cX,dI,co,aZ,ec,ar,co,qB,aZ,aZ,.dead,nz,Ld,wW] [aE,aC,aF,aG,ak,bo,aR,aj,ac,ac,ap,ar,aj,ac,cX,dI,co,aZ,ec,ar,co,qB,aZ,aZ,.dead,nz,Ld,.dead,wW] [eJ 0 gm Le,eJ 1 gm Le,eJ 2 gm Le] (EJ 27)) (lJ Wp [aE,aC,aF,aG,ak,bo,aR,aj,ac,ac,ap,ar,aj,ac,ac,ap,ar,aZ,ec,ar,ar,qB,aZ,aZ,.dead,nz,.sl 118,eY]) (cj gm Pw) aoR aoR (pw wW)) aoQ (.v 24) (.lex [0,1,2] E)))) aeq wQ Cz) aee Pr Cz) Hh KW [aE,aC,aF,aG,ak,bo,aR,aj,ac,ac,ap,ar,aj,ac,ac,ap,ar,aZ,ec,ar,ar,qB]) tV iw [aE,aC,aF,aG,ak,bo,aR,aj,ac,ac,ap,ar,aj,ac,.dead,.dead,.dead,aZ,ec,ar,.dead] [fA,Ut,cH,yq,tU,tQ] [.ref qB,aK]) eP eP) aeo [aK,OO]) (rL eW) [aK,OO]) UK adO [aE,aC,aF,aG,ak,bo,aR,aj,ac,ac,ap,ar,aj,ac,ac,ap,ar,aZ,ec]) tQ ke aef O7 aoH) (nu eI) Cz) (nu gu) VI VH) rX vf [mh] [yE]) rM uN [jX] [KR]) (tM gk) El El) (iA cN)) Ph) tS tS (oR mI) (oR rK) (.not (oR Ct))) tS (.not (oR rY)) (oR mH)) tS tS tS Pl (cj dW gj) (oR qr)) uP adG) uN yp
def asl:T:=CV 37 (aX (et Vo CB) (qh jL CB) (oK 70 (jq (qh cK CB) Py Py (HO 0 (wq 69 (gc Py (HO 1 (oK 69 (gc Py (gD 2 aev (gD 3 aey (sf 4 aeA (sf 5 (vn 6 (dE (AG 181 aeE Lh yi aeD aeC) Lg Lg tW tW) Lh aeF (iA eW) aeB [AF,qu]) (sf 6 (vn 7 (dE (AG 181 aeI Li yi aeH [Wt,Ww]) tW tW wY wY) Li Wu (iA fK) aeG [EK,tP]) (sf 7 (vn 8 (dE (AG 181 aeN Lk yi aeL aeK) wY wY Lj Lj) Lk Wy (iA gN) aeJ Wz) (sf 8 (vn 9 (dE (AG 181 aeS Lq yi aeQ aeP) Ln Ln wZ wZ) Lq WA Ll aeO WB) (CD 9 (CD 10 (dE (AG 181 Lt (cd (hU 181 Lt Lu (.v 4) rF w4 [WD,WG]) wZ wZ) yi w4 aeT) Lr Lr Ls Ls) WE WF Ho) (CD 10 (cd (w5 24 (cd (w5 24 (aX Lx Lx Lu yj Cc) rF kf w4 aeV) Lw Lw) uH iI w4 aeU) Lv Lv) aeW (iA eX) Ho) Ll Pr) WC Cx) Wv tP) Wn qu) Ws rX) (n7 eI) rM) Pz aex aew) O9 Wq aes) VS GA (lL cN)) mf CB aoS) aoY (tO cN) KS KS) D5 rE (lL dH)) CB [dD (ny 0) (ny 1) (ny 2) (ny 3)]) (HO 1 (wq 69 (gc Py aoY VS rE (lL cN)) CB aoS) (gD 2 aev (gD 3 aey (sf 4 aeA (sf 5 (vn 6 (dE (hU 181 aeE Lh tq nX aeD aeC) Lg Lg tW tW) Lh aeF (iA eW) aeB [AF,qu]) (sf 6 (vn 7 (dE (hU 181 aeI Li tq nX aeH [Wt,Ww]) tW tW wY wY) Li Wu (iA fK) aeG [EK,tP]) (sf 7 (vn 8 (dE (hU 181 aeN Lk tq nX aeL aeK) wY wY Lj Lj) Lk Wy (iA gN) aeJ Wz) (sf 8 (vn 9 (dE (hU 181 aeS Lq tq nX aeQ aeP) Ln Ln wZ wZ) Lq WA Ll aeO WB) (CD 9 (CD 10 (dE (hU 181 Lt (cd (hU 181 Lt Lu yg mf w4 [WD,WG]) wZ wZ) tq nX w4 aeT) Lr Lr Ls Ls) WE WF Ho) (CD 10 (cd (w5 24 (cd (w5 24 (aX Lx Lx Lu rE GA) mf kf w4 aeV) Lw Lw) nX iI w4 aeU) Lv Lv) aeW (iA eX) Ho) Ll Pr) WC Cx) Wv tP) Wn qu) Ws rX) (n7 eI) rM) Pz aex aew) O9 Wq aes) (tO cN) KS KS) Ph Ex Ex) lF (Qw mH) (Qw mI)) kb CB [cH,ax,Us]) uP adG) CB yp
def T78:T:=t6 143 (gc (qh lf AH) ao9 ao9 WH (kZ rU (.c 300))) lf AH O7 [pu,tG,pz,tH,wv,ng,nf,mM,gP,pA,oL,pC,rQ,rR] [aK,aK,aK,aK,aK,aK,aK,aK,aK,aK,aK,aK,aK,aK,aK]
def T90:T:=yI 77 (yT (gv 74 (yT (WM 75 (yT (hJ 155 (yT (gD 0 (sd (aX (lG [LB,nX,mf,uH,rF,yk,zZ]) (cd (gD 1 apf (cd (gD 2 api (lG [LB,gG,O5,WU,WV,WW,WX]) WT apg LG) WO WP) WQ apd LG) WO WP) (cd (gD 1 apf (cd (gD 2 api (lG [LB,.bool (yC Ht),O5,WU,WV,WW,WX]) WT apg LG) WO WP) WQ apd LG) WO WP) (.cell mi lN 17) tq) WK afd WK afd) (gD 1 (dE (.bj (u7 PA WY WZ W0 W5) (lO apj apj apk apk (rW PA yg WY yi (Vy WZ (.v 4) W0 (.v 5) W5 (.v 6))) tq (dl aff))) (.and WR afe) (jO EM EM jb) (G3 (ce EM) (dR EM) (dY EM)) (.and WR afe)) (yK 133 (yT (yK 72 (gD 2 (cd (t6 227 (yT (yK 133 (aX (kg Ab (cY 92) qC) (oe 72 apm (iJ afg (cY 97)) qC [W8,W8]) (oe 72 apm (iJ afg (cY 97)) qC [apn,W8]) (dl (.v 92)) (.v 7)) W8 (cY 92) qC [W6,xg (.v 74),xg (.v 75)]) (dl (.v 87)) (cY 87) qC) (cY 87) qC [.agg [wK,wL,Au,yL,Hv,EP,LJ,EQ,ER,ES,ET,EU,EV],.agg [pH 0,pH 1,pH 2,pH 3,pH 4,pH 5,pH 6,pH 7,pH 8,pH 9,pH 10,pH 11,pH 12,pH 13],dD (pH 14) (pH 15) (pH 16) (sc 17 yw mi)] [AL,AM,CF,CG,CH,Hx,Hy,Hz,PG,cY 83,cY 84,cY 85,LM] wJ) apl apl) (lJ apn qC) (cj yw rY) [ax,wF,rV,oO,qn,ee,fM,em,fO,cP,ke,jd,iW,iw,iH,kJ,iI,kf,eV] [aK,aK,aK,aK,aK,aK,aK,aK,aK,aK,aK,aK,aK,aK,aK,aK,aK,aK,.bool]) (dD wF rV oO qn) qo qC [W7,W7]) (dl Kw) uX qC) W7 uX qC [W6,xg dH,xg cN]) afe [ax,vo (lM tF),aJ (lM tF),vo (lM tF),aJ (lM tF)] yo) afd apc apb) lF Ek qC) yq kb LF [mK,po] [.ref wu,.bool]) (dl jr) nh LF) nh LF [mh,kK,qi,pu,tG,pz,tH,wv,ng,nf,mM,gP,pA,oL,pC,rQ,rR]) (dl mj) oM LF) oM LF [wI]) WH lf LF) mK lf [Uf,Ug,ec,aE,aC,aF,aG,ak,.str,aY] [.agg [gV,gM,dK,eu,gA,DY,gZ,OE,iQ,gW,jX],cH,ez]
def asn:T:=fP 89 (aX (qh pC PH) (HO 0 (WM 75 (gc (qh (gf 280) PH) (HR 1 (Hl 1 (e9 1 (eB rU) mh) W9 [iS 0 rU,iS 0 rU,iS 1 rU,iS 2 rU,sc 3 rU n9] Eh w8) (yI 77 (cd (gD 2 (cd (t6 227 (aX (AE [eB jr,oN,qn,qo,uY,uZ,u0,u4,u5,wK,wL,Au,yL,Hv,EP,po]) (Mf kL kL (gc CM kL afi yM (eA (qE 8 jr) (jh 4))) CI) (aX (Mf kL kL (gc CM kL afi yM (eA (qE 8 jr) (jh 5))) CI) (Mf (D0 PJ (iX PM PN HB Xc Xd Xe) CM kL afj afk) (L7 nE nE (Fc nE (Fc nE (dE (iY 249 CM kL (eA (AJ yt (iX (jh 6) (jh 7) HD Xc Xd Xe) afn) (AJ tw (iX (jh 9) PO HE Xc Xd Xe) (.v 89))) (cY 89) HC [D4,Xb]) afj afk afj afk) (mX (u6 uW Ef (iX GS Kw Kx (dY nE) (fq nE) (fQ nE)) (ce nE) (dR nE)) (u6 wC Kr (iX tJ Eg (.v 53) (dY nE) (fq nE) (fQ nE)) (ce nE) (dR nE))) afm) afl LR) (u7 (ce nE) (dR nE) (dY nE) (fq nE) (fQ nE))) PQ CI) (aX (Mf apw (L7 nF nF (Fc nF (Fc nF (dE (iY 249 CM kL (eA (AJ yt (iX (jh 6) (jh 7) HD Xf Xg Xh) afn) (AJ tw (iX (jh 9) PO HE Xf Xg Xh) (.v 89))) (cY 89) HC [D4,Xb]) afo afp afo afp) (mX (u6 uW Ef (iX GS Kw Kx (dY nF) (fq nF) (fQ nF)) (ce nF) (dR nF)) (u6 wC Kr (iX tJ Eg (.v 53) (dY nF) (fq nF) (fQ nF)) (ce nF) (dR nF))) afm) afl LR) (u7 (ce nF) (dR nF) (dY nF) (fq nF) (fQ nF))) PQ CI) (Mf (.node (eA PJ HB) CM kL) (Qt (Qt (iY 249 CM kL (eA (iU (iU yt HD) afn) (iU (lM HE) (.v 89))) (cY 89) HC [D4,Xb]) afm [mX rV oO,tD]) LR [afl,tD]) PQ CI) (jq (X1 (E9 (.node CJ kL (.node CL kL PQ)) CI)) (Mf kL kL (aX kL apx Eu yM HA) CI) (X1 (E9 (.node CJ apw (.node CL kL PQ)) CI)) (X1 (E9 (lO kL kL (.stuck "") (lO kL apx kL Eu yM HA (rW (dR lg) eO (dY lg) eO (rW (fq lg) eO (fQ lg) eO (rW (uS lg) eO (yC lg) eO (.cF (tN lg) eP apy))))) CJ CL (.not (rW (dR lg) eO (dY lg) eO (wM (fq lg) (fQ lg) (rW (uS lg) eP (yC lg) eO (.cF (tN lg) eO apy)))))) CI)) (yC lg) (tN lg) (Am lg)) (fQ lg) (uS lg)) (dY lg) (fq lg)) apq (dR lg)) LJ apr [.agg [qm,ml,od,wB,At,wD,yv,Cr,wE,uX,wF,rV,oO],Xb,dD (aJ (LP 1 1 LO bh bh)) apo (aJ PJ) (.bool apq)] [qn,qo,uY,uZ,u0,u4,u5,wK,wL,Au,yL,Hv,EP] wJ) (mL jr (rL jr)) (mL jr (rL jr))) apz (rL jr) [ax,ez,ee,fM,em,fO,cP,ke,jd,iW,iw,iH,kJ,iI,kf,fZ] [aK,aK,aK,aK,aK,aK,aK,aK,aK,aK,aK,aK,aK,aK,aK,Xa]) LN LN) mh oM W9 Ej) (nu rU) (mL rU (nu rU)) (mL rU (nu rU)) (pw w8)) (lG [eB yu]) (dl qj) (.not (.not (lL yu)))) rR PH [Cw 0 yu n8,qJ 1,qJ 2,qJ 3,qJ 4,qJ 5,qJ 6,qJ 7,qJ 8,qJ 9,qJ 10,qJ 11,qJ 12,qJ 13,qJ 14,qJ 15,qJ 16]) (HR 1 (Hl 1 (e9 1 (eB qj) mh) W9 [iS 0 qj,iS 0 qj,iS 1 qj,iS 2 qj,sc 3 qj n9] Eh w8) (yI 77 (cd (gD 2 (cd (t6 227 (aX (AE [eB mj,rV,oO,qn,qo,uY,uZ,u0,u4,u5,wK,wL,Au,yL,po]) (Me kM kM (gc CO kM afq yM (eA (qE 8 mj) (jh 4))) CN) (aX (Me kM kM (gc CO kM afq yM (eA (qE 8 mj) (jh 5))) CN) (Me (D0 PV (iX PM PN HB Xj Xk Xl) CO kM afr afs) (L7 nG nG (Fc nG (Fc nG (dE (iY 249 CO kM (eA (AJ yt (iX (jh 6) (jh 7) HD Xj Xk Xl) afw) (AJ tw (iX (jh 9) PO HE Xj Xk Xl) LL)) LM HC [D4,Xi]) afr afs afr afs) (mX (u6 As uW (iX Ef GS Kw (dY nG) (fq nG) (fQ nG)) (ce nG) (dR nG)) (u6 OX wC (iX Kr tJ Eg (dY nG) (fq nG) (fQ nG)) (ce nG) (dR nG))) LR) afu afv) (u7 (ce nG) (dR nG) (dY nG) (fq nG) (fQ nG))) PY CN) (aX (Me apC (L7 nH nH (Fc nH (Fc nH (dE (iY 249 CO kM (eA (AJ yt (iX (jh 6) (jh 7) HD Xm Xn Xo) afw) (AJ tw (iX (jh 9) PO HE Xm Xn Xo) LL)) LM HC [D4,Xi]) afx afy afx afy) (mX (u6 As uW (iX Ef GS Kw (dY nH) (fq nH) (fQ nH)) (ce nH) (dR nH)) (u6 OX wC (iX Kr tJ Eg (dY nH) (fq nH) (fQ nH)) (ce nH) (dR nH))) LR) afu afv) (u7 (ce nH) (dR nH) (dY nH) (fq nH) (fQ nH))) PY CN) (Me (.node (eA PV HB) CO kM) (Qt (Qt (iY 249 CO kM (eA (iU (iU yt HD) afw) (iU (lM HE) LL)) LM HC [D4,Xi]) LR [mX uX wF,tD]) afv [afu,tD]) PY CN) (jq (X0 (E9 (.node CJ kM (.node CL kM PY)) CN)) (Me kM kM (aX kM apD Eu yM HA) CN) (X0 (E9 (.node CJ apC (.node CL kM PY)) CN)) (X0 (E9 (lO kM kM (.stuck "") (lO kM apD kM Eu yM HA (rW (dR lj) eO (dY lj) eO (rW (fq lj) eO (fQ lj) eO (rW (uS lj) eO (yC lj) eO (.cF (tN lj) eP apE))))) CJ CL (.not (rW (dR lj) eO (dY lj) eO (wM (fq lj) (fQ lj) (rW (uS lj) eP (yC lj) eO (.cF (tN lj) eO apE)))))) CN)) (yC lj) (tN lj) (Am lj)) (fQ lj) (uS lj)) (dY lj) (fq lj)) apB (dR lj)) Hv apr [.agg [nh,oN,qm,ml,od,wB,At,wD,yv,Cr,wE,uX,wF],Xi,dD (aJ (LP 1 1 LV bh bh)) apA (aJ PV) (.bool apB)] [rV,oO,qn,qo,uY,uZ,u0,u4,u5,wK,wL,Au,yL] wJ) (mL mj (rL mj)) (mL mj (rL mj))) apz (rL mj) [ax,ee,fM,em,fO,cP,ke,jd,iW,iw,iH,kJ,iI,kf,fZ] [aK,aK,aK,aK,aK,aK,aK,aK,aK,aK,aK,aK,aK,aK,Xa]) LN LN) mh lf W9 Ej) (nu qj) (mL qj (nu qj)) (mL qj (nu qj)) (pw w8)) (tM yu) (mL yu (tM yu)) (mL yu (tM yu))) (qh (gf 280) PH) (dl Ed) (oR tB)) afh PH [fA,cH,ez,wI,gW] wJ
def T11:T:=fP 32 (nD 4 (Qv 13 (t6 13 (t6 13 (KO cN (.c 310) EW EW (jq EW EW EW (cd (qG EW (qG EW (qG EW (w5 18 (cd (nD 96 (nD 82 (Qv 13 (dE (hJ 16 (aX Xp Xp (aX Xp Xp (nD 98 (yN 20 (kY apJ) (cd (nD 71 (Qv 13 (dE (hJ 16 (nD 4 (t6 21 (azF (hJ 16 (aX Xs Xs (KO mF jW Xs Xs (nD 98 (oK 20 (aX P4 (cd (E8 (gc (cd (et (.bool (ce (.len (Ci 0 bh (.v 44))))) apL) (cj bh (EG 44)) (cj bh (EG 44))) P4 P4 (oQ (CU 0 0) (CU 1 1) (CU 2 2) (CU 3 3) (oQ (CU 4 4) (CU 5 5) (CU 6 6) (CU 7 7) (oQ (CU 8 8) (Ff 9 jb si) (Ff 10 jW si) (Ff 11 (A5 11 cm) si) (Ff 12 (A5 12 cm) si)))) (dY (EG 44))) P4 Xq Xq (oQ (A4 0 0) (A4 1 1) (A4 2 2) (A4 3 3) (oQ (A4 4 4) (A4 5 5) (A4 6 6) (A4 7 7) (oQ (A4 8 8) (A4 9 9) (yQ 10 (A5 10 bh) si) (yQ 11 (A5 11 bh) si) (yQ 12 (A5 12 bh) si)))) (cj cm (.len si)) (cj cm (.len si))) (cj bh (.len si)) (cj bh (.len si))) P4 GA (dY (.len si))) mf [aE,aC,aF,aG,ak,aR,ac,ap,aj,aj,ac,ac,ap,ar,aj,ac,ac,ap,ar,aj,ac,ac,ap,ar,aY,ap,aj,ac,ac,ap,ar,eY,.dead,ac,aj,ac,ac,ap,ar,eY,aj,aj,ac,ac,ap,ar,bo,eY,eY] [jP 39,jP 48]) [aE,aC,aF,aG,ak,aR,ac,ap,aj,aj,ac,ac,ap,ar,aj,ac,ac,ap,ar,aj,ac,ac,ap,ar,aY,ap,aj,ac,ac,ap,ar,eY,wW,ac,aj,ac,ac,ap,ar,eY,aj,aj,ac,ac,ap,ar,bo,eY] [aE,aC,aF,aG,ak,aR,ac,ap,aj,aj,ac,ac,ap,ar,aj,ac,ac,ap,ar,aj,ac,ac,ap,ar,aY,ap,aj,ac,ac,ap,ar,eY,wW,ac,aj,ac,ac,ap,ar,eY,aj,aj,ac,ac,ap,ar,bo,eY,wW] [[Hp,ax,ax],[Hp,cK,ax]]) aep) DN (dl eX)) (jP 47) kK [aE,aC,aF,aG,ak,aR,ac,ap,aj,aj,ac,ac,ap,ar,aj,ac,ac,ap,ar,aj,ac,ac,ap,ar,aY,ap,aj,ac,ac,ap,ar,eY,.dead,ac,aj,ac,ac,ap,ar,eY,aj,aj,ac,ac,ap,ar,bo] [fA,.agg [jP 46],iQ,P2] Uv) eP [aE,aC,aF,aG,ak,aR,ac,ap,aj,aj,ac,ac,ap,ar,aj,ac,ac,ap,ar,aj,ac,ac,ap,ar,aY,ap,aj,ac,ac,ap,ar,eY,wW,ac,aj,ac,ac,ap,ar,eY,aj,aj,ac,ac,ap,ar] [aE,aC,aF,aG,ak,aR,ac,ap,aj,aj,ac,ac,ap,ar,aj,ac,ac,ap,ar,aj,ac,ac,ap,ar,aY,ap,aj,ac,ac,ap,ar,eY,wW,ac,aj,ac,ac,ap,ar,eY,aj,aj,ac,ac,ap,ar,azE] (.sM (.c 9) [ax,ax,ax,ax,ax,ax,ax,ax])) kf [aE,aC,aF,aG,ak,aR,ac,ap,aj,aj,ac,ac,ap,ar,aj,ac,ac,ap,ar,aj,ac,ac,ap,ar,aY,ap,aj,ac,ac,ap,ar,eY,.dead,ac,aj,ac,ac,ap,ar,eY,aj] [fA,CP,iQ,P2,jP 40] [iI,jP 41,jP 42,.ref si,jP 44,jP 45] P1) [aE,aC,aF,aG,ak,aR,ac,ap,aj,aj,ac,ac,ap,ar,aj,ac,ac,ap,ar,aj,ac,ac,ap,ar,aY,ap,aj,ac,ac,ap,ar,eY,wW,ac,aj,ac,ac,ap,ar,eY] [aE,aC,aF,aG,ak,aR,ac,ap,aj,aj,ac,ac,ap,ar,aj,ac,ac,ap,ar,aj,ac,ac,ap,ar,aY,ap,aj,ac,ac,ap,ar,eY,wW,ac,aj,ac,ac,ap,ar,eY,qf] [[eV],[gG]]) (jP 39) kJ [aE,aC,aF,aG,ak,aR,ac,ap,aj,aj,ac,ac,ap,ar,aj,ac,ac,ap,ar,aj,ac,ac,ap,ar,aY,ap,aj,ac,ac,ap,ar,eY,.dead,ac,aj,ac,ac,ap,ar] [fA,CP,iQ,apK] Uv) eP eP eP eP) apK iH [aE,aC,aF,aG,ak,aR,ac,ap,aj,aj,ac,ac,ap,ar,aj,ac,ac,ap,ar,aj,ac,ac,ap,ar,aY,ap,aj,ac,ac,ap,ar,eY,.dead,ac] [fA,CP,iQ,ax,mh,jP 33,jX]) apI [aE,aC,aF,aG,ak,aR,ac,ap,aj,aj,ac,ac,ap,ar,aj,ac,ac,ap,ar,aj,ac,ac,ap,ar,aY,ap,aj,ac,ac,ap,ar,eY,wW,cX] [[AY 0,AY 1,AY 2,AY 3,AY 4,AY 5,AY 6,AY 7,AY 8,AY 9,aJ (A5 10 bh),aJ (A5 11 bh),aJ (A5 12 bh)],[gf 232,Xr,ax,ax,ax,ax,ax,ax,ax,ax,ax,ax,ax]]) Xq Xq) apJ [jP 31,jP 32]) apH apI [[cK,cK,kH]]) VT lF) P3 KU) (jP 31) iW [aE,aC,aF,aG,ak,aR,ac,ap,aj,aj,ac,ac,ap,ar,aj,ac,ac,ap,ar,aj,ac,ac,ap,ar,aY,ap,aj,ac,ac,ap,ar] [fA,CP,iQ,apG] Uv) eP eP eP eP) apG jd [aE,aC,aF,aG,ak,aR,ac,ap,aj,aj,ac,ac,ap,ar,aj,ac,ac,ap,ar,aj,ac,ac,ap,ar,aY,ap] [fA,CP,iQ,ax,mh,gW,Wo]) apF [aE,aC,aF,aG,ak,aR,ac,ap,aj,aj,ac,ac,ap,ar,aj,ac,ac,ap,ar,aj,ac,ac,ap,ar,aY,dI] [[G8 0 bh oH],[K3]]) afz apF [[jL,cK,jL,eV]]) (tO bh) (tO bh)) kb cP afz [fA,CP,iQ,P2]) (cj bh VK) (cj bh VK) (XC (yQ 0 (.c 5046) G9) (yQ 1 (.c 6728) G9) (yQ 2 (.c 5046) G9) (yQ 3 (.c 8410) G9))) (cj cm rY) (cj cm rY) (oQ (CX 0 0) (CX 1 1) (CX 2 2) (CX 3 3) (oQ (CX 4 4) (CX 5 5) (CX 6 6) (CX 7 7) (oQ (CX 8 8) (Ff 9 jb mi) (Ff 10 jW mi) (Ff 11 (A5 11 cm) mi) (Ff 12 (A5 12 cm) mi))))) (cj bh rY) (cj bh rY) (oQ (yQ 0 (.c 203) mi) (yQ 1 (.c 261) mi) (yS 2) (yS 3) (oQ (yS 4) (yS 5) (yS 6) (yS 7) (oQ (yS 8) (yS 9) (yS 10) (yS 11) (yS 12))))) (nu cm) (nu cm)) (kZ gu cm) (kZ rY jW) (kZ VK jW)) uP) fO [aE,aC,aF,aG,ak,aR,ac,ap,aj,aj,ac,ac,ap,ar,aj,ac,ac,ap,ar] [fA,CP,iQ,DS,mh,gW,jX] [em,tU,pF,tV,wQ,EC] P1) fM [aE,aC,aF,aG,ak,aR,ac,ap,aj,aj,ac,ac,ap,ar] [fA,CP,fZ,ax,fZ,fZ,fZ] [ee,qu,tP,Cx,AB,tQ] P1) P2 ez [aE,aC,aF,aG,ak,aR,ac,ap,aj] [fA,CP,iQ,ax,mh,gW,jX]) [aE,aC,aF,aG,ak,aR,ac,ap] [aE,aC,aF,aG,ak,aR,ac,ap,qf] [[gG],[gG]]) (.bH [fA,iQ,gW,jX]) [] [] [aK,aK,aK,aK,aK,.ref aE,aK,.ref aC,.ref aF,.ref aG,.ref ak,.ref aR,yE,.ref ap]
def asp:T:=CV 37 (oc (.loop 0 qa [ax,aJ oG] (aX (cd (iY 110 (nq (eB HF) fM) (nq ee (aJ HF)) (n7 gk) em eC [eJ 0 HF mZ,cH]) (jO HF HF oG) (jO HF HF oG)) (cd (iY 110 apN (cd (lJ Xt eC) tL tL) VG em eC [sj 0,cH]) tL tL) apN (cj dH cN) O8)) uP apM ez eC) eC yp
def T32:T:=nD 173 (nD 175 (nD 90 (Qu 79 (Qu 71 (Qu 96 (Qu 96 (Qu 82 (et (.bH [.agg [gf 40,aJ DR,cK,ax,cK,DW,cK,Ae,fZ,fZ,DX],DY,OE,jX]) apT) apS apT [[iQ],[gW]]) apR apS [[jL,kH,jL,eV]]) [aE,aC,ak,aR,ac] apR [[cK,ax,ax,eV]]) [aE,aC,ak,aR] [aE,aC,ak,aR,ac] [[Xr,Xr,ax,ax,ax,ax,ax,ax,ax,ax,ax,ax,ax],[gf 609,Xr,ax,ax,ax,ax,ax,ax,ax,ax,ax,ax,ax]]) [aE,aC,ak] [aE,aC,ak,aR] [apQ,apQ]) [P5,.own 175] [P5,.own 175,gO] [[cK,ax,ax,cK,cK,cK,cK,ax,jL,ax,ax,cK,cK,cK],[jL,cK,ax,cK,tD,jL,kH,jL,ax,ax,ax,cK,cK,cK]]) [P5] [P5,.own 175] [[ax,aJ yt,ax]]) [] [P5] [[.ref (.k (.string ⟨#[97]⟩)),OK,OK,ax],[apP,gf 21,OK,ax]]
def T63:T:=hJ 23 (iK (AK 0 (gX 3 (nq Kc jX) KG [aE,aC,aF,aG,ak,ec,EX] apU [ee] KH) (wU 1 (sd (.dO 130 130 3 (.cn 0 afA [iB cN n8]) J oH apU (.dO 130 130 3 (.cn 0 afA [kh cN n8]) J oI apV (dE (.new 3 (.set (.ref na) P6 0 [GG apW apX]) [aE,aC,aF,aG,ak,ec,.dead,.dead,.dead,EX] [aE,aC,aF,aG,ak,ec,.dead,.dead,.dead,.dead,EX] (e9 1 Cm mK)) eP eP (jO P6 P6 qr) (jO P6 P6 qr)))) GN (tM cN) GN (tM cN)) (qe 2 (.dO 130 130 3 (.cn 0 afA [gk]) J oI apV (e9 2 Ei po)) (tO gk) ae0 [aE,aC,aF,aG,ak,ec,.dead,.dead,rG] [ax,jX] (pw EX)) (tM cN) gW (pw EX)) Ux (pw EX)) uP Vo [aE,aC,aF,aG,ak,ec]) iQ ez eC O7 aoH
def T39:T:=fP 86 (fP 87 (qe 0 (dE (dE (fP 88 (gX 82 (.node P8 (hJ 89 (agh (oe 90 (agh (gX 71 (nA 65 ap3 VL Xv ap2 ap1) Wr afB Xv adg Lf) azG (.fh 45 tH)) afE afC apZ) On (.fh 45 kK)) wI kK afC [fA,ez,cH,LX,P7] wJ) (t6 27 (agh (gX 71 (gX 65 ap3 VL Xv ap2 [ee,fM,em,fO] ady) Wr afB Xv apY Lf) P3 (.fh 45 cP)) cP afC [LX,afD] [ee,fM,em,fO] yo)) Hd [aE,aC,aF,aG,ak,aR,aj,ac,ap,aj,ac,cX,dI,co,aY] afB [qu] Pj) qu [aE,aC,aF,aG,ak,aR,aj,ac,ap,aj,ac,.dead,.dead,.dead] [P7] VJ) EY EY AQ AQ) Xu Xu AP AP) (tM ew) P2 [aE,aC,aF,aG,ak,aR,aj,ac,ap,aj,ac,ac,ap,ar] VI VH) mK [aE,aC,aF,aG,ak,aR,aj,ac,ap,aj] [jX] [yE]) po HG [gW] [KR]
def T21:T:=CV 37 (aX (kg G6 ez vf) (kg G6 jL vf) (qc (aX tY (qc tY (qA 0 (dE (dE (iY 75 (gv 74 (jq tY (iY 85 tY D5 adv fO vf an8) tY D5 VG adu an9) em vf adt) tY J7 fM vf [ads]) KQ KQ VQ VQ) Ex Ex KP KP) (qA 1 (dE (oe 72 (.node (ce eW) (cd (iY 74 tY VS (.not OQ) iW vf aoa) KT KT) tY) adD vf [VR,VR]) Ez Ez Ez Ez) (HO 2 (oe 25 (CW (AE [Ei]) VT iW vf) aoc vf aob) (fP 86 (fP 87 (.loop 3 VH VI (aX (dE (dE (fP 88 (gX 82 (.node (yD gu oH) (fP 89 (CW (oe 90 (CW (gX 71 (gX 65 ap6 (jf aeM) Xw ap5 V5 Po) VY afF Xw V4 VZ) GR mM afH) (Ey mM V5) afG aod) (dl acX) pz afH) (Ey pz V4) afG [fA,fO,cH,Pn,Pm] wJ) (oe 27 (CW (gX 71 (tX 65 ap6 (jf aeM) Xw ap5 Po adN) VY afF Xw adI VZ) Hh iw afH) adM afG [Pn,adL])) V7 [aE,aC,aF,aG,ak,bo,aR,aj,ac,ac,ap,ar,aj,aj,ac,cX,dI,co,aY] afF [tQ] V9) tQ ap4 [Pm] VJ) VW VW VX VX) VU VU VV VV) (et adr azI) (hJ 63 (CW (AK 4 (sd (qG ap7 (qG ap7 (e9 4 AF tU) (eo dX mI yJ) (eo dX mI yJ) (yD dX oH)) (eo dX Ai yJ) (eo dX Ai yJ) (yD dX OI)) yJ afI yJ afI) (apa (nA 4 (apa (nA 82 (jY aqf) P9 afK ap9 afL) (cd (.new 82 afL afK ap9 aqf) eP P9)) P9 afJ afK ap8) (nA 82 (nA 4 (cd (.loop 5 aqa [ax,tV,pF] aqe) eP eP) P9 aqg [aE,aC,aF,aG,ak,bo,aR,aj,ac,ac,ap,ar,aj,aj,ac,cX,dI,co,rG,xe,dI,qf] ap8) P9 afJ aqg afL)) afI (pw xe)) P3 cP [aE,aC,aF,aG,ak,bo,aR,aj,ac,ac,ap,ar,aj,aj,ac,ac,ap,ar,rG]) tQ cP ap4 O7 [.ref rG,aK]) (nu gu) (.not (oR Ai)))) qu azH [mh] [yE]) rX vf [jX] [KR]) (tM gk) El El) (iA cN)) Ph) tY tY (oR mI) (oR rK) (.not (oR Ct))) tY (.not (oR rY)) (oR mH)) tY tY tY Pl (cj dW gj) (oR qr)) uP adG) vf yp
def Yi:T:=KO oG qr HH HH (og 43 HH (yN 44 HH (yH 44 HH (AG 45 HH (GM 0 (sd (qG HH aqj (eo cg qr Qa) (eo cg qr Qa) (XC (CR 0 0 cg cg mZ na) (CR 1 1 cg cg mZ na) (CR 2 2 cg cg mZ na) (CR 3 3 cg cg mZ na))) Qa afO Qa afO) afO LY) yj LY [DY,mh]) LY [DX,jX]) LY [Ae,gW]) LY [DW,iQ]) (kZ bG bA)
def Yj:T:=Qx (kY [aj,aj]) (Mc 0 (qG (kY [aj,aj]) Ck Ak Ak (.beq (yD bG jK) (yD bG lK))) Aj oa oa [aj,aj])
def Yk:T:=Qx (kY [ac,ac]) (Mc 0 (qG (kY [ac,ac]) Ck Ak Ak (oQ acK (vz 1 1) (vz 2 2) (vz 3 3) (oQ (vz 4 4) (vz 5 5) (vz 6 6) (vz 7 7) (oQ (vz 8 8) (vz 9 9) (gC (qg 10 bG) (wt 10 bG)) (gC (qg 11 bG) (wt 11 bG)) (gC (qg 12 bG) (wt 12 bG)))))) Aj oa oa [ac,ac])
def Yl:T:=Qx (kY [ap,ap]) (GM 0 (dE (og 98 (kY [ap,ap]) Ck [ap,ap] [G8 0 bG jK,G8 0 bG lK]) oa oa Ak Ak) Aj [ap,ap])
def T98:T:=Qx (kY [aY,aY]) (Mc 0 (qG (kY [aY,aY]) Ck Ak Ak (XC acK (vz 1 1) (vz 2 2) (.beq (K1 bG jK) (K1 bG lK)))) Aj oa oa [aY,aY])
def agD:T:=HQ (uT bA)
def agE:T:=HQ (uT bA)
def agF:T:=qA 0 (mJ aqj aql Xy Xy (cS (z7 Cu) bA)) aql (iA Cu)
def T91:T:=pm tC Ah Pe Pe (aX Pe (aX ef ef (mJ ef (qA 0 (mJ (mJ ef aqn aqm aqm (cS GC (z7 HI))) aqn Cd Cd (vq bA)) (.loop 1 [aK] [ax] (gc (dE (gv 228 (og 159 ef (gv 228 aqo gA ki [Af,Hu (z7 Cu) cm]) ki [eu,cK,aJ Ew]) eu ki [Af,aJ afP]) Xy Xy LZ LZ) (cd (gv 228 (og 159 ef (gv 228 aqo gA ki [Af,aJ z8]) ki [eu,cK,aJ Ew]) eu ki [Af,aJ afP]) LZ LZ) (qA 2 (sd (oK 159 (pm cR bh ef (mJ ef aqr aqp aqp (cS (iB cR lK) (iB (jM cR) lK))) aqr lF) kb ki [yR 0 cR,ax,aJ (nY bG jW)]) UC afR UC afR) (Ka 3 (mJ (t7 afT bG ef (t7 afU bG ef ef (jq ef ef ef (Cy [eB b9]) (cj (.cell pn b9 2) rH) (cj (.cell pn b9 3) (.cell pn b9 2)) (eA (.cell pn b9 3) rI)) (gC afT afU)) ef (lL afU)) ef (.and GB afS) (.and GB afS) (lL afT)) afS ax ki) afR) aqk (iA Cu))) Oo) Kd Kd (dl (z7 bh))) (.not (cS bG Ah)) (ce iv)) ef (eA J4 (.c 256)) Xz) (eA iv Ah)
def agH:T:=qe 0 (.bj (dl cg) (nq (KN cR cg) dK)) (vq cg) eu [] [gM,gV] qa
def agI:T:=aX tK tK (qI bG ada bG cg tK tK (jq tK tK tK (gv 229 (iY 229 tK tA (kZ b9 cm) gA [] [eu,dK]) eu [] [aJ (fo bG acq),aJ (fo bA (nY bh bA))]) (cj bA ada) (eA bA cg) anJ)) (xj cg) anI
def agJ:T:=qe 0 (.bj (dl cg) (nq (KN cR cg) dK)) (vq cg) eu [] [gM,gV] qa
def agK:T:=iK (ja gV) J3 (aJ acq) []
def Ym:T:=gc (gc (gv 343 (iY 342 Aa tA (.not (dR cR)) eu [] [dK,gM]) dK [] [gV]) Aa Aa (uT Ce) afW) Aa Aa (ll bA) afV
def QD:T:=gc (gc (gv 343 (gv 342 (gc (qc (gv 343 (CV 342 (aX wn (lc DS) (oc (lc ax) (cj acw Um) cK ax []) (.not (dR ew)) (cj Um acw)) [] [cH,eu]) cH [] [dK]) wn wn wn (cS cR ym) (jN cg Ce) (cS cg ym)) wn wn (dR gj) (ll cR)) gZ [] [gA,gM]) gA [] [gV]) wn wn (uT Ce) afW) wn wn (ll bA) afV
def Yn:T:=aX (HJ (CS (qH afY) XA (cS dH Cs)) L4 afX (ll dW) Qb) (HJ (qH (.and DU afY)) (ll dW) Qb XA (cS dH Cs)) (aX aqs aqs (aX (HJ (qH (.and DU af0)) Pl Qb XB afZ) (oJ dH wm (qH (CE DU GI afY)) fY fY XA) (aX aqt aqt (HJ (Kb fY afZ (.and GI af0) []) UG L4 afX XB) (tN b9) (Em b9)) UJ (yC b9)) UF UI) (dR b9) (dY b9)
def agL:T:=iY 231 fY (iY 231 fY (wl 232 (CS (qH (cS eI dX)) (lL gk) (n7 gN)) iw iH [] [Om,Uh]) VT iW [] [Uh]) KU jd [] [Om]
def T92:T:=.node Xz (lO kj kj (gv 164 (aX kj kj (aX kj kj (qA 0 (mJ (t7 (kh ew jK) bG kj (lO kj kj afN kj (ko (qg 2 ew) bA) (lL (qg 3 ew)) (ko (qg 3 ew) wm)) kj (lL (qg 2 ew))) kj (.and LW XD) (.and LW XD) (lL (kh ew jK))) (HO 1 (oK 163 (aX kj (mJ kj aqv aqu aqu (cS (iB dH mZ) (iB (jM dH) mZ))) aqv lF XF) kb eC [sj 0,ax,aJ mg]) (DO eC) O8 tL tL) XD) (n7 cR) (ce iv)) J8 (n7 cg)) cH eC [mY dK eu gA]) kj (ko bG yt) (ll bA) (ko bA yt)) kj
def T40:T:=aX Uw Uw (gv 91 (iK (og 92 uO (et ax eC) eC yp) J8 cH eC) cH eC [D4]) (eA iv J9) acI
def agO:T:=wl 232 (aX (ja gG) (qH (cj bG eW)) fY (n7 Ki) (ce Ki)) ng nf [] [Om,mX tG pz]
def agP:T:=aX Co Co (.bj Kd (D3 OP aqz aqA aqA (jN OP (.c 97)) 122)) (xj iv) (eA iv (.c 32))
def agQ:T:=oK 233 (aX eZ (t7 bG (.c 500) eZ (t7 bA (.c 500) eZ (t7 cg Ch eZ (t7 cR Cs eZ (t7 b9 Cs eZ (AW gj jc (gc (t7 ew jc eZ (AW dH mg (AW cN mg (t7 gk mg eZ (AW gu jb (AW eI jb (t7 dX jb eZ (lO eZ eZ (et ax fp) eZ (ko eW mg) (lL fK) (ko fK mg)) eZ (lL eW)) eZ eZ (ll dX)) eZ eZ (ll eI)) eZ (ll gu)) eZ eZ (ll gk)) eZ eZ (ll cN)) eZ XA) eZ eZ Qb XB) eZ eZ (ll dW)) eZ L4) eZ (lL b9)) eZ (ll cR)) eZ Qc) eZ (lL bA)) eZ lF Xz) kb fp [DW]
def T94:T:=.node (uT Ce) (aX qp (lO qp qp (qA 0 (cd (gc (lG [AF]) aqB aqB (ce af3) (ce af4)) (.and yJ (cj dX rN)) (u7 Xx (dR dX) (dY dX) (fq dX) (fQ dX))) tA (cj dX rN)) qp (.not afV) (lL cg) (ko cg wm)) qp (.not afW) (jN bA Ce)) qp
def agS:T:=yO (qe 0 (mJ (E8 (gD 1 (cd (hU 312 (tR [aJ L5]) aqI oE kb [aE,aC,aF,aG,ak,.dead,.dead] [Xt,.agg [t8 0,t8 1,t8 2,t8 3,t8 4,t8 5,t8 6,t8 7,t8 8,t8 9,t8 10,t8 11,t8 12,t8 13]]) (jO L5 L5 mH) (jO L5 L5 mH)) aqI (vq cN) [aJ mH] [aK]) adc tL tL (gC Vp ew) tL tL) adc tL tL (gC KE dW)) O8 gW anh [ax,iQ] (pw gO)) eP eC acP Cn
def agT:T:=gv 40 (aX (qh ee eC) (lO Ke Ke (fP 197 (lJ iQ [aE,aC,aF,aG,ak,ak]) iQ eC Ej [.ref ak]) Ke (ko dW (jM iv)) (lL ew) (ko ew uL)) Ke GP Pl) ee eC yp
def agU:T:=iK (yO (wU 0 (gD 1 (cd (mJ (tR [aJ HI]) aqR aqJ aqJ (cj OJ (iB HI Ag))) oa oa) aqR (vq bA) [aJ Cj] [aK]) (GM 1 (dE (aX L6 aqS (aX af6 af6 (lO af6 aqT L6 aqS (uS XG) (Am XG) (ce Kh)) (fq XG) (fQ XG)) (kZ (iB bA lK) (iB bA Ag)) (K1 bA lK)) UN UN Kg Kg) acV [ak,aY,.dead,ak]) Aj DX (pw gO)) eP Kf acU Cn) acJ eV Kf
def T95:T:=yI 169 (iK (og 170 (et Ek oP) (et ax oP) oP [gW,iQ]) GP ee oP) gW ee GV Ej
def agW:T:=Ka 0 (E8 (et (dD (aJ GC) (aJ Pf) (aJ Pg) (sc 3 bA jK)) [aY]) Oq Cd Cd (gC GC bG) Cd Cd) Oo (dD ax ax ax eV) [aY]
def agX:T:=.node Xz (t7 bG jb fY (CS aqU Qc XH) (aX (.node XI aqU fY) (CS af7 Qc XH) (lO (CS af7 Qc XH) af7 fY (aX (HJ (qH (cS gj wm)) XI Vk OA L4) aqW (aX aqW (qc aqV fY fY fY Qc XH Vk) fY (Em bA) (Am bA)) (yC bA) (tN bA)) (fQ bA) (uS bA) XI) AR (fq bA)) (dR bA)) fY
def agY:T:=aX fY UH (aX af8 af8 (lO af8 aqX fY UH UJ UG OQ) UF UI) acR oE
def Yo:T:=aX DQ DQ (jq DQ DQ (lc ax) (lc (eB (WN (lH z8 bA) jc))) Uj (eA bA wm) Ou) J3 Ot
def Yq:T:=aX XJ XJ (aX XJ XJ (aX (ja amW) (Fb AR ax (aJ tw) ax ax XK []) (aX (Fb AR XK (gf 609) ax (gf 400) (gf 420) []) (Fb AR (aJ tw) ax ax XK ax []) (aX (Fb AR XK (gf (-609)) ax (gf 400) (gf (-420)) []) (Fb AR ax (gf (-841)) ax ax XL []) (aX (Fb AR XL (gf (-609)) ax (gf (-400)) (gf (-420)) []) (Fb AR (gf (-841)) ax ax XL ax []) (aX (Fb AR XL (gf 609) ax (gf (-400)) (gf 420) []) (lc acs) (lc (Mb ax ax)) (An jc) AR) (An (.c 6)) (An wm)) (fQ bG) (An rN)) (dY bG) (fq bG)) Ou (dR bG)) (xj bA) (eA bA jb)) J3 Ot
def agZ:T:=gc (qc (aX mG (oJ gj rI (oJ dW ew (.node (ko ew rI) mG (jY amZ)) mG mG (jN dW rH)) mG mG (cS b9 gj)) mG (ko cR rI) (jN b9 rH)) mG mG mG (cS bA rI) (jN cg rH) acz) mG mG (uT rH) acy
def Mi:T:=gc (qc (aX mG XM (lO XM (jY (aX XN XN (gc (jY (aX rJ rJ (lc acF) (ko Uq rI) (ko Ur rI))) (jY XN) (jY XN) (jN Oz rH) (cS Oz Ur)) acC acD)) (jY XM) (jY XM) am0 (jN acE rH) (cS acE Uq)) (ko cR rI) (cj b9 acA)) mG mG mG (cS bA rI) (jN cg rH) acz) mG mG (uT rH) acy
def ag0:T:=aX aqZ aqZ (aX aq0 aq0 (aX aq2 aq2 (aX (tZ [eV,eV,gG,gG,eV]) (tZ [eV,eV,eV,eV,gG]) (tZ [eV,eV,eV,eV,eV]) (tN b9) UJ) UI UG) (dY b9) (Em b9)) (dR b9) UF
def ag1:T:=cd (wl 269 (hJ 261 (cd (et (dD (lI XO (.v 32)) (lI XO (.v 32)) (lI XO pB) (lI XO pB)) fp) (jO E5 E5 jb) (G3 (ce E5) (dR E5) (dY E5))) (mY pA oL pC) rQ fp [mM,u6 b9 dW (iX dH gk eI (dY iR) (fq iR) (fQ iR)) (ce iR) (dR iR)] Ac) mM gP fp [u6 cR gj (iX ew cN gu (dY iR) (fq iR) (fQ iR)) (ce iR) (dR iR),dK]) (eo iR rN (fz iR)) (u7 (ce iR) (dR iR) (dY iR) (fq iR) (fQ iR))
def ag2:T:=qI dX bh dX jc L8 L8 (pm cg wm L8 L8 (aX L8 (tZ [af9,nZ bA (iU eW (.c 29)),dK,eu,gA,gZ,cH,ez,ee,fM,em,fO,cP]) (aX (tZ [wN bG eW DR,aq3,dK,eu,gA,gZ,cH,ez,ee,fM,em,fO,cP]) (tZ [nZ bG (iU eW (.c 29)),aga,dK,eu,gA,gZ,cH,ez,ee,fM,em,fO,cP]) (aX (tZ [wN bG eW DR,aq4,dK,eu,gA,gZ,cH,ez,ee,fM,em,fO,cP]) (tZ [af9,nZ bA aq5,dK,eu,gA,gZ,cH,ez,ee,fM,em,fO,cP]) (aX (tZ [aq6,aq4,dK,eu,gA,gZ,cH,ez,ee,fM,em,fO,cP]) (tZ [nZ bG aq5,aga,dK,eu,gA,gZ,cH,ez,ee,fM,em,fO,cP]) (iK L8 (Em E6) (.agg [aq6,aq3,dK,eu,gA,gZ,cH,ez,ee,fM,em,fO,cP]) []) (yC E6) (tN E6)) (fQ E6) (uS E6)) (dY E6) (fq E6)) Xx (dR E6)) (n7 cg))
def qL:T:=gv 94 (oc (yN 265 Ax (oK 266 (aX Ax (lc rO) (aX (fP 267 (cd (Ay 94 (dl uW) aq9 wB aq9 []) adh adi) aq8 [] [rO,iI,kK] aq7) (fP 267 (Ay 94 (dl uW) ara wB ara []) aq8 [] [rO,iI,kK] aq7) (aX (cd (Ay 94 pD arb gP arb []) adh adi) (cd (Ay 94 pD arc gP arc []) adk adl) (aX (Az 94 (AA wO pD Vz) Vz) (Az 94 (AA wO pD VA) VA) (jq (Az 94 (AA wO pD VB) VB) (Az 94 (AA wO pD VC) VC) (cd (Az 94 (AA wO pD VD) VD) adk adl) (iY 94 wO (lc rO) pD gP [] [rO]) GX GY G0) yB Av) yz yA) Vv Vw) GA oE) mf [] (Hg (dD wv ng nf kb) [ke,jd,iW,iw,iH,kJ,iI,kf,kK,qi,pu,tG,pz,tH])) [] [iw,iH,kJ,iI,kf,kK]) GR wH (gf 260) []) mM [] [rO]
def ag3:T:=nD 71 (wU 0 (dE (cd (fP 115 (t6 200 (iK (nD 71 (tX 71 (nq AF iQ) (.and (jf Cj) (jf oG)) arf [ak,aY,.dead,.dead,cX,cX] (.ref Ag) (.ref mZ)) [ak,aY,.dead,cX] arf [are]) GR UL [ak,aY,.dead,ac]) mM [ak,aY,.dead,.dead] [.agg [vw 0,vw 1,vw 2,vw 3,vw 4,vw 5,vw 6,vw 7,vw 8,vw 9,vw 10,vw 11,vw 12],.agg [sr 0,sr 1,sr 2,sr 3,sr 4,sr 5,sr 6,sr 7,sr 8,sr 9,sr 10,sr 11,sr 12,sr 13],ard] are wJ) ard [ak,aY,.dead,.dead] [Ae,sr 0] [aK,aK,aK,.bool]) XP XP) (eo dX Cj yJ) (eo dX Cj yJ) XP XP) (kg DY gG [ak,aY,.dead,ac]) (iA dX) DX [aK,.ref cX]) Kf [ak,aY,cX] [anr]
def ag4:T:=yI 169 (.node On (kg wH kK oP) (iY 94 (kg wH qi oP) (og 170 (kg wH Ek oP) (hJ 237 (oc (cd (lJ (.agg [vx 0,vx 1,vx 2,vx 3,vx 4,vx 5,vx 6,vx 7,vx 8,vx 9,vx 10,vx 11,vx 12]) arh) ari ari) rE wH jL arh) jX nX oP [gW,wI,iQ] [yE,.bool]) oP [gW,iQ]) (dl (.v 22)) qi oP [wI])) gW kK GV Ej
def ag5:T:=gD 0 (cd (fP 115 (aX (lG [eB iR,kb,nX,mf,uH,rF,yk]) (cd (fP 294 (gD 1 arn (lG [eB iR,gG,O5,WU,WV,WW,WX]) agb arm LG) arl AU arj ark) E7 E7) (dE (fP 294 (gD 1 arn (lG [eB iR,.bool (CQ 4 iR (.c 6) jK),O5,WU,WV,WW,WX]) agb arm LG) arl AU arj ark) E7 E7 E7 E7) (.v 6) oE) (dD mM gP pA zZ) AU [DX,sk 0] [aK,aK,aK,.bool]) E7 E7) (qe 1 (aX (lO arp arp arq arq tq oE (dl b9)) (lO ars ars art art yg oE J8) (jq (lO arv arv arw arw yi oE GP) (lO arx arx ary ary (.v 4) oE aqi) (lO arz arz arA arA (.v 5) oE P3) adj (dY Ao) (fq Ao) (fQ Ao)) (ce Ao) (dR Ao)) (cj Ao rN) Qj AU [ax,vo D9,aJ D9,vo D9,aJ D9] yo) (iA iR) apc apb
def ag6:T:=yI 169 (yT (gv 94 (yT (gv 167 (yT (og 170 (kg Ab Ek EZ) (hJ 237 (iK (Ad 238 (yK 239 (gD 0 (dE (yK 239 (oe 195 (lG [eB tJ,u4,u5,wK,wL]) XT L9 [arD,arC]) arC u0 L9 [agc,xg (iB tJ oI),xg (kh tJ oI)]) XS XS XS XS) (lJ arD L9) (rL tJ) [cK,wB,At,wD,yv] yo) (dD wB At wD yv) Cr L9 [agc,xg dH,xg cN]) agc L9 [jX,wI,arB,gW]) rE acB L9) mh nX EZ [jX,wI,gW] [yE,.bool]) EZ [jX,gW]) (dl jr) nh EZ) nh EZ [arB]) (dl mj) oM EZ) oM EZ [wI]) WH lf EZ) jX lf ao0 Ej
def T93:T:=iK (Mc 0 (WM 167 (iK (lG [eB dW]) uP eV XU) ez XU [Cw 0 dW n8,EA 1 dW,aJ (jh 2),EA 3 dW,aJ (jh 4),aJ (jh 5),aJ (jh 6),aJ (jh 7),aJ HD,aJ (jh 9),aJ PO,aJ HE,aJ PM,aJ PN,aJ HB,EA 15 dW,EA 16 dW]) (tM dW) LN LN XU) (Qw tB) eV XU
def T41:T:=oK 93 (aX HN HN (KO rK iv HN HN (Mc 0 (iY 94 HN (qG (D0 (.len (Ci 0 ew oI)) bh HN arE AQ AQ) arE AP AP P8) GP ee HG [LX]) XD EY EY HG) (Qw mI)) lF (Qw mH)) kb HG [fA,iQ]
def QE:T:=gv 94 (yT (gv 167 (pm b9 bh (kg Ab mM fp) (xf (.node (vq dW) (xf (.node XF (xf (.node XZ (wl 269 (fP 261 (yK 195 (.node Qs (wl 269 (hJ 261 (yK 195 (wA arI) arI (cY 85) fp [Qr,yP (uU (.v 77)) (uU (.v 77)) (wz (.v 78)) (wz (.v 78))]) (mY CG CH Hx) Hy fp [AM,cP] Ac) AM CF fp tI) (wA Qr)) Qr AL fp [Qo,yP (ql gm (.v 66)) (ql gm (.v 66)) (rT gm (.v 67)) (rT gm (.v 67))]) arH fp [yL,em] Ac) yL Hv fp Ar) arJ) agd age XT Kl [oO,ee] arG) arL) XW XX XY [gZ,dK] [ml,cH] [Ma,yP (ql eX uW) (ql eX uW) (rT eX wC) (rT eX wC)]) arR) ww Aq Qp [eu,dK] [gP,gA] arF) (aX (xf arR ww Aq Qp [gZ,dK] [gP,cH] arF) (xf arQ ww Aq Qp Kl [gP,ee] arS) (aX (xf arP ww Aq Qp Ar [gP,em] arS) (xf (wA Ma) ww Aq Qp tI [gP,cP] [OW,yP UU UU UV UV]) (wA OW) XZ Qs) (vq dW) XF) GR) mM fp ans) (dl iR) (gf 260) fp) nf fp [rO]
def Yr:T:=oc (fP 171 (et afh GV) afh GV [fA,ez,cH,wI,iQ] wJ) lF wI ax GV
def T42:T:=nA 4 (tX 71 (tX 82 (gD 0 (dE (cd (hJ 96 (CW (gX 71 (dE (cd (qG (oe 122 arY afE arX [LX,afD]) (oe 172 arY afE arX apZ) AQ AQ P8) EY EY) Xu Xu AP AP) Hd [aE,aC,aF,aG,ak,aR,aj,ac,ap,qf,cX,dI,cX,co] arW adg Pj) On kK arV) wI kK [aE,aC,aF,aG,ak,aR,aj,ac,ap,.dead,.dead,.dead,.dead,.dead] [fA,cH,ez,.bool P8,LX,P7] wJ) AQ AQ) AP AP EY EY) (lJ (yr cH po mK rM yq rX) arV) (nu ew) Wq [aK,.ref cX,OO]) WI arU [aE,aC,aF,aG,ak,aR,aj,ac,ap,qf,cX,dI] Cn WJ) KF arT arU Cn Eh) KG HG arT adf
def T14:T:=CV 40 (jq (kg G6 ez pE) VF VF (og 41 Cv (fP 42 (et ar0 adF) ar0 pE arZ P1) pE arZ) uP (n7 dW) (jN dW gj)) pE yp
def T3:T:=og 11 (kY pE) (yN 12 (DO pE) (Qv 13 (Qv 14 (.node (gC dH gk) (oK 15 (et mf agf) mf agf [ar1,ar2]) (kY agf)) ar2 em adF aqh) ar1 ee pE aqh) pE [fA,Ut,gW,mh,po]) pE []
end
section
set_option maxRecDepth 100000
def aM(a b c d:Int):Bool:=decide (-1099511627776<=a)&&decide (a<=1099511627776)&&decide (-1099511627776<=b)&&decide (b<=1099511627776)&&decide (-1099511627776<=c)&&decide (c<=1099511627776)&&decide (-1099511627776<=d)&&decide (d<=1099511627776)&&decide (a<=b)&&decide (c<=d)
def yU(a b c d X W V Q:Int):Bool:= !(decide (a<=W)&&decide (X<=b)&&decide (c<=Q)&&decide (V<=d))
def Ys:aV->jF
 |[.i a,.i b,.i c,.i d,.i X,.i W,.i V,.i Q]=>U (.ret (if aM a b c d&&aM X W V Q then[.b (yU a b c d X W V Q),.i 0] else[.b E,.i 150]))
 |_=>Z
def Fh:Nat->List UInt8->UInt8->Int
 |_,[],_=>-1
 |k,x::l,b=>if x==b then k else Fh (k+1) l b
def Yt:aV->jF
 |[.r s,.i b]=>match s.val with
  |.string t=>U (.ret [.i (Fh 0 t.toList (UInt8.ofNat b.toNat))])
  |_=>U (.ret [.i (-1)])
 |_=>Z
def HS:md:=λf X=>if f=26 then Ys X else if f=272 then Yt X else Z
def Mj:FuncId->Option Fn
 |82=>U ⟨T82,E,E⟩
 |84=>U ⟨Qy,J,E⟩
 |134=>U ⟨agj,E,E⟩
 |138=>U ⟨Mg,E,E⟩
 |139=>U ⟨Mh,J,E⟩
 |376=>U ⟨X2,J,E⟩
 |142=>U ⟨X3,E,E⟩
 |210=>U ⟨X4,E,E⟩
 |276=>U ⟨X5,E,E⟩
 |371=>U ⟨ar4,E,E⟩
 |354=>U ⟨ar5,E,E⟩
 |275=>U ⟨X6,E,E⟩
 |110=>U ⟨X7,E,E⟩
 |192=>U ⟨X8,E,E⟩
 |66=>U ⟨T66,E,E⟩
 |72=>U ⟨T72,E,E⟩
 |69=>U ⟨T69,E,E⟩
 |133=>U ⟨agn,E,E⟩
 |24=>U ⟨T24,E,E⟩
 |361=>U ⟨agp,E,E⟩
 |248=>U ⟨agq,E,E⟩
 |154=>U ⟨agr,E,E⟩
 |219=>U ⟨ags,E,E⟩
 |220=>U ⟨X9,E,E⟩
 |353=>U ⟨ar6,E,E⟩
 |310=>U ⟨ar7,E,E⟩
 |249=>U ⟨ar8,E,E⟩
 |70=>U ⟨T70,E,E⟩
 |65=>U ⟨T65,E,E⟩
 |12=>U ⟨T12,E,E⟩
 |33=>U ⟨Ya,E,E⟩
 |18=>U ⟨T18,E,E⟩
 |20=>U ⟨T20,E,E⟩
 |37=>U ⟨Yb,E,E⟩
 |86=>U ⟨T86,E,E⟩
 |87=>U ⟨T87,E,E⟩
 |88=>U ⟨T88,E,E⟩
 |102=>U ⟨asf,E,E⟩
 |173=>U ⟨asg,E,E⟩
 |103=>U ⟨ash,E,E⟩
 |181=>U ⟨agv,E,E⟩
 |135=>U ⟨Yc,E,E⟩
 |77=>U ⟨T77,E,E⟩
 |225=>U ⟨Yd,E,E⟩
 |284=>U ⟨agx,E,E⟩
 |207=>U ⟨Ye,E,E⟩
 |25=>U ⟨T25,E,E⟩
 |155=>U ⟨Qz,E,E⟩
 |27=>U ⟨CY,E,E⟩
 |74=>U ⟨QA,E,E⟩
 |153=>U ⟨Yf,E,E⟩
 |83=>U ⟨Yg,E,E⟩
 |75=>U ⟨QB,E,E⟩
 |23=>U ⟨T23,E,E⟩
 |85=>U ⟨QC,E,E⟩
 |89=>U ⟨T89,E,E⟩
 |227=>U ⟨oS,E,E⟩
 |81=>U ⟨Yh,E,J⟩
 |13=>U ⟨T13,E,J⟩
 |16=>U ⟨T16,E,J⟩
 |106=>U ⟨asl,E,E⟩
 |78=>U ⟨T78,E,E⟩
 |90=>U ⟨T90,J,E⟩
 |104=>U ⟨asn,E,E⟩
 |143=>U ⟨asp,E,E⟩
 |32=>U ⟨T32,E,E⟩
 |63=>U ⟨T63,E,E⟩
 |39=>U ⟨T39,E,E⟩
 |21=>U ⟨T21,E,J⟩
 |11=>U ⟨T11,E,E⟩
 |15=>U ⟨Yi,E,E⟩
 |43=>U ⟨Yj,E,E⟩
 |44=>U ⟨Yk,E,E⟩
 |45=>U ⟨Yl,E,E⟩
 |98=>U ⟨T98,E,E⟩
 |159=>U ⟨agD,E,E⟩
 |163=>U ⟨agE,E,E⟩
 |228=>U ⟨agF,E,E⟩
 |91=>U ⟨T91,E,E⟩
 |229=>U ⟨agH,E,E⟩
 |164=>U ⟨agI,E,E⟩
 |342=>U ⟨agJ,E,E⟩
 |343=>U ⟨agK,E,E⟩
 |231=>U ⟨Ym,E,E⟩
 |232=>U ⟨QD,E,E⟩
 |165=>U ⟨Yn,E,E⟩
 |166=>U ⟨agL,E,E⟩
 |92=>U ⟨T92,E,E⟩
 |40=>U ⟨T40,E,E⟩
 |312=>U ⟨agO,E,E⟩
 |233=>U ⟨agP,E,E⟩
 |167=>U ⟨agQ,E,E⟩
 |94=>U ⟨T94,E,E⟩
 |197=>U ⟨agS,E,E⟩
 |169=>U ⟨agT,E,E⟩
 |170=>U ⟨agU,E,E⟩
 |95=>U ⟨T95,E,E⟩
 |115=>U ⟨agW,E,E⟩
 |265=>U ⟨agX,E,E⟩
 |266=>U ⟨agY,E,E⟩
 |269=>U ⟨Yo,E,E⟩
 |261=>U ⟨Yq,E,E⟩
 |195=>U ⟨agZ,E,E⟩
 |239=>U ⟨Mi,E,E⟩
 |294=>U ⟨ag0,E,E⟩
 |296=>U ⟨ag1,E,E⟩
 |267=>U ⟨ag2,E,E⟩
 |200=>U ⟨qL,E,E⟩
 |237=>U ⟨ag3,E,E⟩
 |171=>U ⟨ag4,E,E⟩
 |238=>U ⟨ag5,E,E⟩
 |172=>U ⟨ag6,E,E⟩
 |93=>U ⟨T93,E,E⟩
 |41=>U ⟨T41,E,E⟩
 |122=>U ⟨QE,E,E⟩
 |96=>U ⟨Yr,E,E⟩
 |42=>U ⟨T42,E,E⟩
 |14=>U ⟨T14,E,E⟩
 |3=>U ⟨T3,E,E⟩
 |_=>Z
def TB:jV:=⟨Mj,HS⟩
def eK(j:FuncId->aV->bD->Prop)(R:bD->Prop)(f:FuncId)(W:aV)(V:aP)(t:T)(O:aa)(L:dN):Prop:=∃o,j f W o/\(match o with
  |.ret X=>iP V X=J/\t.wp j R (O.ext X) L
  |.bn v=>R (.bn v))
def eL(j:FuncId->aV->bD->Prop)(R:bD->Prop)(o:bD)(W:aP)(t:T)(O:aa)(L:dN):Prop:=match o with
  |.ret X=>iP W X=J/\t.wp j R (O.ext X) L
  |.bn v=>R (.bn v)
def HT(c:Option PC)(X:aV):Prop:=match c with
 |U c=>c.I X/\c.μ X<c.m
 |none=>False
section
variable{j:FuncId->aV->bD->Prop}{R:bD->Prop}{O:aa}{L:dN}
def azL{V:aV}{Q:aP}{t:T}(h:W=V):eK j R X W Q t O L=eK j R X V Q t O L:=by rw[h]
def azM{o X:bD}{W:aP}{t:T}(h:o=X):eL j R o W t O L=eL j R X W t O L:=by rw[h]
def azN{t:T}{X:aa}(h:O=X):T.wp j R t O L=T.wp j R t X L:=by rw[h]
def azO(b:BE)(t f:T):T.wp j R (.node b t f) O L=(if b.den O=J then t.wp j R O L else f.wp j R O L):=by
 simp only[T.wp,T.lE];cases b.den O<;>simp
def azP(b:BE)(t:T):T.wp j R (.bj b t) O L=(b.den O=J/\t.wp j R O L):=by simp only[T.wp,T.lE]
def azQ(v:SV)(X:bw)(W:bc):T.wp j R (.ret v X W) O L=R (.ret ((uF v).map (SV.xv O))):=by simp only[T.wp,T.lE]
def azR(f:FuncId)(X:ah)(V:bw)(Q:bc)(W:aP)(im:SV)(t:T):T.wp j R (.call f X V Q W im t) O L=eK j R f ((pl X).map (SV.xv O)) W t O L:=by simp only[T.wp,T.lE,eK];rfl
def azS(e:TypeId)(x:LE)(X W:bc)(t:T):T.wp j R (.new e x X W t) O L=t.wp j R (O.add (.r (gz x O))) L:=by simp only[T.wp,T.lE]
def azT(k:RK)(x:LE)(X:bc)(t:T):T.wp j R (.rows k x X t) O L=t.wp j R (O.add (.r (gz x O))) L:=by simp only[T.wp,T.lE]
def azU(X:aV)(W:aP)(t:T):eL j R (.ret X) W t O L=(iP W X=J/\t.wp j R (O.ext X) L):=rfl
def azV(v:Value)(X:aP)(t:T):eL j R (.bn v) X t O L=R (.bn v):=rfl
def azW(aq:Nat)(x:ah):T.wp j R (.back aq x) O L=HT (Gy aq L) (x.map (SV.xv O)):=by
 simp only[T.wp,T.lE,HT];cases Gy aq L<;>rfl
def ua(c:PC)(X:aV):HT (U c) X=(c.I X/\c.μ X<c.m):=rfl
def HV(g h:BE)(t f:T):T.wp j R (.gp g h t f) O L=((g.den O=J\/h.den O=J)/\(g.den O=J->t.wp j R O L)/\(h.den O=J->f.wp j R O L)/\(g.den O=J->h.den O=J->T1 R)):=rfl
def yV(f g:FuncId)(e:TypeId)(X:ai)(d:Bool)(W:Bool)(r:RE)(Q:bc)(t:T):T.wp j R (.dO f g e (.lex X d) W r Q t) O L=(∃V,gR (.lex X d) W (r.rv O).rows=U V/\t.wp j R (O.add (.r (.mk (r.rv O).val V))) L):=rfl
def yW(f g:FuncId)(e:TypeId)(n d:Nat)(X:Bool)(r:RE)(V:bc)(t:T):T.wp j R (.dO f g e (.ratio n d) X r V t) O L=(∃W,gR (.ratio n d) X (r.rv O).rows=U W/\t.wp j R (O.add (.r (.mk (r.rv O).val W))) L):=rfl
def ub{N:aP}{P:ah}{t:T}(X:aV->Prop)(W:aV->Nat)(M:X (P.map (SV.xv O)))(h:∀Q,X Q->t.wp j R (O.ext Q) (⟨V,X,W,W Q⟩::L)):T.wp j R (.loop V N P t) O L:=by
 simp only[T.wp,T.lE];exact⟨R,L,.inl ⟨rfl,rfl⟩,X,W,M,h⟩
end
def aN{V:jV}{R:bD->Prop}{P:aP}{t:T}{O:aa}{L:dN}{o:bD}(h:V.Ev X W o):eK V.Ev R X W P t O L=eL V.Ev R o P t O L:=by
 refine propext ⟨λ⟨M,N,Q⟩=> ?_,λQ=>⟨o,h,Q⟩⟩;rw[Cb h N];exact Q
attribute[congr] azL azM azN
def has{W:Fn}(h:Mj X=U W)(V:X≠26)(Q:X≠272):JX TB X W:=⟨h,λP=>by simp[TB,HS,V,Q]⟩
def single{o:bD}(h:B9 o o=J):T1 (· =o):=λa b X W=>by subst X;exact⟨W.symm,h⟩
def bW{V:Fn}{o:bD}(P:Mj X=U V)(Q:(X !=26&&X !=272)=J)(N:V.d=E\/∀v,o≠ .bn v)(h:V.t.wp TB.Ev (· =o) (fJ (me V.g) W) []):TB.Ev X W o:=by
 simp only[aIy,bne_iff_ne,ne_eq] at Q;exact Gz (has P Q.1 Q.2) N h
def dm{V:Fn}{R:bD->Prop}(P:Mj X=U V)(Q:(X !=26&&X !=272)=J)(N:V.d=E\/∀v,¬R (.bn v))(h:V.t.wp TB.Ev R (fJ (me V.g) W) []):∃o,TB.Ev X W o/\R o:=by
 simp only[aIy,bne_iff_ne,ne_eq] at Q;exact amO (has P Q.1 Q.2) N h
end
section
attribute[simp] IE.den BE.den RE.rv RE.den gg aa.rv fJ aa.ext aa.add pl uF Ob SV.xv me Gy iP abP azO azP azQ azR azS azT azU azV azW
def out(f:FuncId)(X:aV):aV:=by classical exact if h:∃W,TB.Ev f X (.ret W) then h.choose else[]
def xi(X:aV)(k:Nat):Int:=match X.getD k (.i 0) with
 |.i n=>n
 |_=>0
def xb(X:aV)(k:Nat):Bool:=match X.getD k (.i 0) with
 |.b x=>x
 |_=>E
def xr(X:aV)(k:Nat):RV:=match X.getD k (.i 0) with
 |.r x=>x
 |_=>default
def oi(f:FuncId)(X:aV)(k:Nat):Int:=xi (out f X) k
def ob(f:FuncId)(X:aV)(k:Nat):Bool:=xb (out f X) k
def or(f:FuncId)(X:aV)(k:Nat):RV:=xr (out f X) k
def A6{V:aV}(h:TB.Ev X W (.ret V)):out X W=V:=by
 have Q:∃V,TB.Ev X W (.ret V):=⟨V,h⟩;have:out X W=Q.choose:=by unfold out;rw[dif_pos Q]
 rw[this];have:=Cb Q.choose_spec h;injection this
def azX{P:aV->Prop}(h:∃o,TB.Ev X W o/\∃V,o=.ret V/\P V):TB.Ev X W (.ret (out X W))/\P (out X W):=by
 obtain⟨o,Q,V,rfl,N⟩:=h;rw[A6 Q];exact⟨Q,N⟩
def ss(X:aV):aP->Nat->aV
 |[],_=>[]
 |.int _::e,n=>.i (xi X n)::ss X e (n+1)
 |.bool::e,n=>.b (xb X n)::ss X e (n+1)
 |.ref _::e,n=>.r (xr X n)::ss X e (n+1)
def asv(W:aV):∀(e:aP)(X:aV),iP e X=J->ss (W++X) e (Y W)=X
 |[],[],_=>rfl
 |[],_::_,h=>by simp at h
 |k::e,[],h=>by cases k<;>simp at h
 |k::e,y::X,h=>by
  have V:=asv (W++[y]) e X;simp only[iP,aIy] at h;have V:=V h.2;simp only[aJ5,List.singleton_append,aIO,aKL] at V;have Q:(W++y::X).getD (Y W) (.i 0)=y:=by simp[List.getD]
  cases k<;>cases y<;>simp at h<;>simp only[ss,V,xi,xb,xr,Q]
def shp(e:aP){P:aV->Prop}(h:∃o,TB.Ev X W o/\∃V,o=.ret V/\iP e V=J/\P V):TB.Ev X W (.ret (ss (out X W) e 0))/\P (out X W):=by
 obtain⟨Q,N,M⟩:=azX h;rw[show ss (out X W) e 0=out X W from asv [] e _ N];exact⟨Q,M⟩
def iC(n X W:Int):Bool:=decide (X<=n)&&decide (n<=W)
@[simp] def QF (n X W:Int):iC n X W=J<->X<=n/\n<=W:=by simp[iC]
def qM(a b:Int):Int:=if a<b then-1 else if b<a then 1 else 0
def mo(a b c d:Int):Int:=if eU a b&&eU c d then qM (IntKind.i64.wrap (a*d)) (IntKind.i64.wrap (c*b)) else 0
def CZ:FuncId->Option Fn
 |142=>U ⟨X3,E,E⟩
 |210=>U ⟨X4,E,E⟩
 |276=>U ⟨X5,E,E⟩
 |275=>U ⟨X6,E,E⟩
 |110=>U ⟨X7,E,E⟩
 |192=>U ⟨X8,E,E⟩
 |_=>Z
section
variable{p:jV}(H:∀f fn,CZ f=U fn->JX p f fn)
include H
def azZ(a b:Nat):p.Ev 275 [.i a,.i b] (.ret [.i (aJE a b)]):=by
 refine Gz (H _ _ rfl) (.inl rfl) ?_;simp[X6];split;rename_i W;simp[W];rename_i W;refine ub (λX=>∃d x y:Nat,X=[.i d,.i x,.i y]/\y≠0/\aJE x y=aJE a b/\(x=0->d=aJE a b)) (λX=>(xi X 2).toNat) ⟨b,a,b,by simp,W,rfl,λV=>by subst V;simp⟩ ?_;rintro X ⟨d,x,y,rfl,P,Q,V⟩;have N:max (y:Int) 1=y:=by omega
 have M:au .rem .u64 (x:Int) (y:Int)=((x%y:Nat):Int):=by
  simp only[au];rw[aJK (by omega)];exact(Int.natCast_emod x y).symm
 simp[xi,N,M,ua];split;rename_i G;simp[V G];refine⟨by omega, ?_⟩;split;rename_i D;rw[<-Q,aKO,aLq,show x%y=0 by omega];simp;refine⟨⟨x,y,x%y,⟨rfl,rfl,by omega⟩,by omega, ?_,λF=>absurd F P⟩, ?_⟩;rw[<-Q,aKO x y,aLq y x,aKO];have:=aKA x (show 0<y by omega);omega
def az0(n:Int)(W:-1073741824<=n)(V:n<=1073741824):p.Ev 276 [.i n] (.ret [.i n.natAbs]):=by
 refine Gz (H _ _ rfl) (.inl rfl) ?_;simp[X5,au];have X:∀x:Int,IntKind.u64.wrap x=x%18446744073709551616:=λx=>rfl
 rw[X,X];split<;>omega
def asw(n:Int):p.Ev 192 [.i n] (.ret [.b E]):=by
 refine Gz (H _ _ rfl) (.inl rfl) ?_;simp[X8]
def ahb(a b:Int):p.Ev 110 [.i a,.i b] (.ret [.i (qM a b)]):=by
 refine Gz (H _ _ rfl) (.inl rfl) ?_;simp[X7,qM,aN (asw H _)]
 grind
def asx(n d:Int):p.Ev 210 [.i n,.i d] (.ret [.i (if eU n d then 0 else 120)]):=by
 refine Gz (H _ _ rfl) (.inl rfl) ?_;simp[X4]
 repeat' split
 any_goals(simp[eU];omega)
 all_goals
  rw[aN (az0 H n (by omega) (by omega))];have X:IntKind.u64.wrap d=(d.toNat:Int):=by
   have:IntKind.u64.wrap d=d%18446744073709551616:=rfl;omega
  have W:max d 0=(d.toNat:Int):=by omega
  simp[X];rw[W,aN (azZ H n.natAbs d.toNat)];simp[eU] at*;omega
def asy(a b c d:Int):p.Ev 142 [.i a,.i b,.i c,.i d] (.ret [.i (mo a b c d),.i (if eU a b&&eU c d then 0 else 120)]):=by
 refine Gz (H _ _ rfl) (.inl rfl) ?_;simp[X3,mo,au,aN (asx H _ _),aN (ahb H _ _)]
 grind
end
def Yu(f:FuncId)(fn:Fn)(h:CZ f=U fn):JX TB f fn:=by
 unfold CZ at h;split at h<;>cases h<;>exact has rfl (by decide) (by decide)
def HW(d:Int):Int:=if d=1 then 0 else if d=2 then 20 else if d=3 then 29 else if d=4 then 20 else if d=5 then 0 else if d=6 then-20 else if d=7 then-29 else-20
def HX(d:Int):Int:=if d=1 then 29 else if d=2 then 21 else if d=3 then 0 else if d=4 then-21 else if d=5 then-29 else if d=6 then-21 else if d=7 then 0 else 21
section
variable{R:bD->Prop}{e:aP}{t:T}{O:aa}{L:dN}
def e82(n X W:Int):TB.Ev 82 [.i n,.i X,.i W] (.ret [.b (iC n X W)]):=by
 refine bW rfl rfl (.inl rfl) ?_;simp[T82,iC]
 grind
@[simp] def c82 (n X W:Int):eK TB.Ev R 82 [.i n,.i X,.i W] e t O L=eL TB.Ev R (.ret [.b (iC n X W)]) e t O L:=aN (e82 n X W)
def az2(n X W:Int):TB.Ev 134 [.i n,.i X,.i W] (.ret [.b (iC n X W)]):=by
 refine bW rfl rfl (.inl rfl) ?_;simp[agj,iC]
 grind
@[simp] def aHJ (n X W:Int):eK TB.Ev R 134 [.i n,.i X,.i W] e t O L=eL TB.Ev R (.ret [.b (iC n X W)]) e t O L:=aN (az2 n X W)
def az3(n X W:Int):TB.Ev 219 [.i n,.i X,.i W] (.ret [.b (iC n X W)]):=by
 refine bW rfl rfl (.inl rfl) ?_;simp[ags,iC]
 grind
@[simp] def aHK (n X W:Int):eK TB.Ev R 219 [.i n,.i X,.i W] e t O L=eL TB.Ev R (.ret [.b (iC n X W)]) e t O L:=aN (az3 n X W)
def e70(n X W:Int):TB.Ev 70 [.i n,.i X,.i W] (.ret [.b (iC n X W)]):=by
 refine bW rfl rfl (.inl rfl) ?_;simp[T70,iC]
 grind
@[simp] def c70 (n X W:Int):eK TB.Ev R 70 [.i n,.i X,.i W] e t O L=eL TB.Ev R (.ret [.b (iC n X W)]) e t O L:=aN (e70 n X W)
def az5(n X W:Int):TB.Ev 284 [.i n,.i X,.i W] (.ret [.b (iC n X W)]):=by
 refine bW rfl rfl (.inl rfl) ?_;simp[agx,iC]
 grind
@[simp] def aHM (n X W:Int):eK TB.Ev R 284 [.i n,.i X,.i W] e t O L=eL TB.Ev R (.ret [.b (iC n X W)]) e t O L:=aN (az5 n X W)
def pI(n:Int)(u:Bool)(X W:Int):Bool:=if u then iC n X W else n==0
def az6(n X W:Int)(u:Bool):TB.Ev 154 [.i n,.b u,.i X,.i W] (.ret [.b (pI n u X W)]):=by
 refine bW rfl rfl (.inl rfl) ?_;simp[agr,pI]
 grind
@[simp] def aHN (n X W:Int) (u:Bool):eK TB.Ev R 154 [.i n,.b u,.i X,.i W] e t O L=eL TB.Ev R (.ret [.b (pI n u X W)]) e t O L:=aN (az6 n X W u)
@[simp] def aHO (n:Int):eK TB.Ev R 192 [.i n] e t O L=eL TB.Ev R (.ret [.b E]) e t O L:=aN (asw Yu n)
@[simp] def aHP (a b:Int):eK TB.Ev R 110 [.i a,.i b] e t O L=eL TB.Ev R (.ret [.i (qM a b)]) e t O L:=aN (ahb Yu a b)
@[simp] def aHQ (n d:Int):eK TB.Ev R 210 [.i n,.i d] e t O L=eL TB.Ev R (.ret [.i (if eU n d then 0 else 120)]) e t O L:=aN (asx Yu n d)
@[simp] def aHR (a b c d:Int):eK TB.Ev R 142 [.i a,.i b,.i c,.i d] e t O L=eL TB.Ev R (.ret [.i (mo a b c d),.i (if eU a b&&eU c d then 0 else 120)]) e t O L:=aN (asy Yu a b c d)
def e66(a b c d:Int):TB.Ev 66 [.i a,.i b,.i c,.i d] (.ret [.b (aM a b c d)]):=by
 refine bW rfl rfl (.inl rfl) ?_;simp[T66,aM]
 grind
@[simp] def c66 (a b c d:Int):eK TB.Ev R 66 [.i a,.i b,.i c,.i d] e t O L=eL TB.Ev R (.ret [.b (aM a b c d)]) e t O L:=aN (e66 a b c d)
def jn(X:Bool)(x:Int):Int:=if X then x else 0
def e72(a b c d X W V Q:Int):TB.Ev 72 [.i a,.i b,.i c,.i d,.i X,.i W,.i V,.i Q] (.ret [.i (jn (aM a b c d&&aM X W V Q) (min a X)),.i (jn (aM a b c d&&aM X W V Q) (max b W)),.i (jn (aM a b c d&&aM X W V Q) (min c V)),.i (jn (aM a b c d&&aM X W V Q) (max d Q)),.i (if aM a b c d&&aM X W V Q then 0 else 150)]):=by
 refine bW rfl rfl (.inl rfl) ?_;simp[T72,jn]
 grind
@[simp] def c72 (a b c d X W V Q:Int):eK TB.Ev R 72 [.i a,.i b,.i c,.i d,.i X,.i W,.i V,.i Q] e t O L=eL TB.Ev R (.ret [.i (jn (aM a b c d&&aM X W V Q) (min a X)),.i (jn (aM a b c d&&aM X W V Q) (max b W)),.i (jn (aM a b c d&&aM X W V Q) (min c V)),.i (jn (aM a b c d&&aM X W V Q) (max d Q)),.i (if aM a b c d&&aM X W V Q then 0 else 150)]) e t O L:=aN (e72 a b c d X W V Q)
def e69(a b c d:Int):TB.Ev 69 [.i a,.i b,.i c,.i d] (.ret [.b (aM a b c d)]):=by
 refine bW rfl rfl (.inl rfl) ?_;simp[T69]
 grind
@[simp] def c69 (a b c d:Int):eK TB.Ev R 69 [.i a,.i b,.i c,.i d] e t O L=eL TB.Ev R (.ret [.b (aM a b c d)]) e t O L:=aN (e69 a b c d)
def QG(a b c d X W V Q:Int):Bool:=decide (X<=a)&&decide (b<=W)&&decide (V<=c)&&decide (d<=Q)
def e24(a b c d X W V Q:Int):TB.Ev 24 [.i a,.i b,.i c,.i d,.i X,.i W,.i V,.i Q] (.ret [.b (aM a b c d&&aM X W V Q&&QG a b c d X W V Q),.i (if aM a b c d&&aM X W V Q then 0 else 150)]):=by
 refine bW rfl rfl (.inl rfl) ?_;simp[T24,QG]
 grind
@[simp] def c24 (a b c d X W V Q:Int):eK TB.Ev R 24 [.i a,.i b,.i c,.i d,.i X,.i W,.i V,.i Q] e t O L=eL TB.Ev R (.ret [.b (aM a b c d&&aM X W V Q&&QG a b c d X W V Q),.i (if aM a b c d&&aM X W V Q then 0 else 150)]) e t O L:=aN (e24 a b c d X W V Q)
def e26(a b c d X W V Q:Int):TB.Ev 26 [.i a,.i b,.i c,.i d,.i X,.i W,.i V,.i Q] (.ret [.b (aM a b c d&&aM X W V Q&&yU a b c d X W V Q),.i (if aM a b c d&&aM X W V Q then 0 else 150)]):=by
 refine aci ?_;simp only[TB,HS,Ys,if_true];cases P:aM a b c d&&aM X W V Q<;>simp
@[simp] def c26 (a b c d X W V Q:Int):eK TB.Ev R 26 [.i a,.i b,.i c,.i d,.i X,.i W,.i V,.i Q] e t O L=eL TB.Ev R (.ret [.b (aM a b c d&&aM X W V Q&&yU a b c d X W V Q),.i (if aM a b c d&&aM X W V Q then 0 else 150)]) e t O L:=aN (e26 a b c d X W V Q)
def aAc(a b c d X W V Q:Int):TB.Ev 181 [.i a,.i b,.i c,.i d,.i X,.i W,.i V,.i Q] (.ret [.b (!(aM a b c d&&aM X W V Q&&yU a b c d X W V Q))]):=by
 refine bW rfl rfl (.inl rfl) ?_;simp[agv]
@[simp] def aHX (a b c d X W V Q:Int):eK TB.Ev R 181 [.i a,.i b,.i c,.i d,.i X,.i W,.i V,.i Q] e t O L=eL TB.Ev R (.ret [.b (!(aM a b c d&&aM X W V Q&&yU a b c d X W V Q))]) e t O L:=aN (aAc a b c d X W V Q)
def f8(a b c d x y:Int):Int:=if !aM a b c d then 150 else if !(decide (-2199023255552<=x)&&decide (x<=2199023255552)&&decide (-2199023255552<=y)&&decide (y<=2199023255552)) then 2 else if aM (IntKind.i64.wrap (a+x)) (IntKind.i64.wrap (b+x)) (IntKind.i64.wrap (c+y)) (IntKind.i64.wrap (d+y)) then 0 else 2
def aAd(a b c d x y:Int):TB.Ev 133 [.i a,.i b,.i c,.i d,.i x,.i y] (.ret [.i (jn (f8 a b c d x y==0) (IntKind.i64.wrap (a+x))),.i (jn (f8 a b c d x y==0) (IntKind.i64.wrap (b+x))),.i (jn (f8 a b c d x y==0) (IntKind.i64.wrap (c+y))),.i (jn (f8 a b c d x y==0) (IntKind.i64.wrap (d+y))),.i (f8 a b c d x y)]):=by
 refine bW rfl rfl (.inl rfl) ?_;simp[agn,jn,au]
 repeat' split
 all_goals(simp_all[f8])
 all_goals grind
@[simp] def aHY (a b c d x y:Int):eK TB.Ev R 133 [.i a,.i b,.i c,.i d,.i x,.i y] e t O L=eL TB.Ev R (.ret [.i (jn (f8 a b c d x y==0) (IntKind.i64.wrap (a+x))),.i (jn (f8 a b c d x y==0) (IntKind.i64.wrap (b+x))),.i (jn (f8 a b c d x y==0) (IntKind.i64.wrap (c+y))),.i (jn (f8 a b c d x y==0) (IntKind.i64.wrap (d+y))),.i (f8 a b c d x y)]) e t O L:=aN (aAd a b c d x y)
end
structure Sl(v:RV):Prop where
 sl:∃a n c,v.val=.slice a n c
 len:lenOf v.val=Y v.rows
 sm:Y v.rows<=140737488355328
def ci(v:RV)(i j:Nat):Int:=bB (cellAt v.rows i j).val
def cb(v:RV)(i j:Nat):Bool:=fG (cellAt v.rows i j).val
def Fi(n:Nat)(X:Nat->aV->Prop):aV->Prop
 |.i j::W=>∃i:Nat,j=i/\i<=n/\X i W
 |_=>False
def C0(n:Nat):aV->Nat
 |.i j::_=>n-j.toNat
 |_=>0
section
variable{g:FuncId->aV->bD->Prop}{R:bD->Prop}{O:aa}{L:dN}
def cZ{e:aP}{P:ah}{t:T}(n:Nat)(X:Nat->aV->Prop)(N:Fi n X (P.map (SV.xv O)))(h:∀(i:Nat) W,i<=n->X i W->t.wp g R (O.ext (.i i::W)) (⟨V,Fi n X,C0 n,n-i⟩::L)):T.wp g R (.loop V e P t) O L:=by
 refine ub (Fi n X) (C0 n) N λM Q=> ?_
 match M,Q with
 |.i j::W,Q=>
  obtain⟨i,rfl,G,F⟩:=Q;have:=h i W G F;simpa[C0] using this
def bJ{n:Int}(X:-9223372036854775808<=n)(W:n<9223372036854775808):IntKind.i64.wrap n=n:=by
 rw[IntKind.wrap_i64];omega
def Ml{i:Nat}(h:i<=140737488355328):au .add I (i:Int) 1=((i+1:Nat):Int):=by
 simp only[au];rw[bJ (by omega) (by omega)];omega
def cQ{aq:Nat}{J:Nat->aV->Prop}{i:Nat}{rest:aV}(X:i<V)(W:V<=140737488355328):HT (U ⟨aq,Fi V J,C0 V,V-i⟩) (.i (au .add I (i:Int) 1)::rest)=J (i+1) rest:=by
 rw[Ml (by omega)];refine propext ⟨λh=> ?_,λh=>⟨⟨i+1,rfl,by omega,h⟩, ?_⟩⟩;obtain⟨⟨k,Q,_,h⟩,_⟩:=h;have:k=i+1:=by omega
 exact this▸h;simp only[C0];omega
end
end
inductive KX where
 |i
 |b
 |r
 deriving DecidableEq
def LK.kx:LK->KX
 |.int _=>.i
 |.bool=>.b
 |.ref _=>.r
def XV.kx:XV->KX
 |.i _=>.i
 |.b _=>.b
 |.r _=>.r
def SV.kx:SV->KX
 |.bool _=>.b
 |.ref _=>.r
 |_=>.i
abbrev Tot:=FuncId->Option (List KX×List KX)
def Tot.ok(qN:Tot):Prop:=∀f p r,qN f=U (p,r)->∀X,X.map XV.kx=p->∃W,TB.Ev f X (.ret W)/\W.map XV.kx=r
def isTrue:BE->Bool
 |.c b=>b
 |_=>E
def T.qN(qN:Tot)(r:List KX):T->Bool
 |.ret v _ _=>decide ((uF v).map SV.kx=r)
 |.node _ t f=>t.qN qN r&&f.qN qN r
 |.bj b t=>isTrue b&&t.qN qN r
 |.call f X _ _ W _ t=>decide (qN f=U ((pl X).map SV.kx,W.map LK.kx))&&t.qN qN r
 |.new _ _ _ _ t=>t.qN qN r
 |.rows _ _ _ t=>t.qN qN r
 |_=>E
def su{P:Int->Prop}(h:∃o,TB.Ev X W o/\∃e,o=.ret [.i e]/\P e):TB.Ev X W (.ret [.i (oi X W 0)])/\P (oi X W 0):=by
 obtain⟨o,V,e,rfl,Q⟩:=h;have:oi X W 0=e:=by simp only[oi,A6 V];rfl
 rw[this];exact⟨V,Q⟩
def Yv{P:Bool->Prop}(h:∃o,TB.Ev X W o/\∃e,o=.ret [.b e]/\P e):TB.Ev X W (.ret [.b (ob X W 0)])/\P (ob X W 0):=by
 obtain⟨o,V,e,rfl,Q⟩:=h;have:ob X W 0=e:=by simp only[ob,A6 V];rfl
 rw[this];exact⟨V,Q⟩
structure iZ(roles bars:Int)(c:Nat->Int):Prop where
 kind:1<=c 4/\c 4<=9
 ao:0<=c 1/\c 1<roles
 ab:0<=c 2/\c 2<bars
 mark:1<=c 3/\c 3<=3
 side:if c 4=1\/c 4=3\/c 4=4\/c 4=9 then 1<=c 5/\c 5<=2 else c 5=0
 dir:if c 4=1\/c 4=2 then 1<=c 6/\c 6<=8 else if c 4=3\/c 4=4\/c 4=5 then 0<=c 6/\c 6<=8 else c 6=0
 aAe:if c 4=3\/c 4=4\/c 4=5\/c 4=9 then 1<=c 7/\c 7<=3 else c 7=0
 size:if c 4=1\/c 4=2 then 1<=c 8/\c 8<=16 else if c 4=6 then 1<=c 8/\c 8<=7 else c 8=0
 wth:if c 4=7\/c 4=8 then 1<=c 9/\c 9<=roles else c 9=0
 from_:eU (c 10) (c 11)=J
 to:eU (c 12) (c 13)=J
section
variable{R:bD->Prop}{g:aP}{t:T}{O:aa}{L:dN}
def bv(c:Nat->Int):aV:=[.i (c 0),.i (c 1),.i (c 2),.i (c 3),.i (c 4),.i (c 5),.i (c 6),.i (c 7),.i (c 8),.i (c 9),.i (c 10),.i (c 11),.i (c 12),.i (c 13)]
def kT(k:Int)(j:Nat):RV:=cellAt (iG[0]?.getD default).rows k j
def asz{c:Nat->Int}{X W:Int}(H:1<=c 4/\c 4<=9)(G:0<=c 1/\c 1<=X-1)(F:0<=c 2/\c 2<=W-1)(D:1<=c 3/\c 3<=3)(V:pI (c 5) (fG (kT (c 4) 0).val) 1 2=J)(Q:pI (c 6) (fG (kT (c 4) 1).val) (bB (kT (c 4) 3).val) 8=J)(P:pI (c 7) (decide (0<bB (kT (c 4) 4).val)) 1 (bB (kT (c 4) 4).val)=J)(N:pI (c 8) (decide (0<bB (kT (c 4) 5).val)) 1 (bB (kT (c 4) 5).val)=J)(M:pI (c 9) (fG (kT (c 4) 2).val) 1 X=J)
  (C:eU (c 10) (c 11)=J)(B:eU (c 12) (c 13)=J):iZ X W c:=by
 have:c 4=1\/c 4=2\/c 4=3\/c 4=4\/c 4=5\/c 4=6\/c 4=7\/c 4=8\/c 4=9:=by omega
 rcases this with h|h|h|h|h|h|h|h|h
 all_goals
  simp[h,kT,iG,jJ,bV,iV,cellAt,pI,fG,bB] at V Q P N M;constructor<;>(first|omega|assumption|(simp[h];done)|(simp[h];omega))
set_option maxHeartbeats 2000000 in
def t84 (c:Nat->Int) (X W:Int) (N:-1000<=X/\X<=1000000) (M:-1000<=W/\W<=1000000):∃o,TB.Ev 84 (bv c++[.i X,.i W]) o/\∃b,o=.ret [.b b]/\(b=J->iZ X W c):=by
 refine dm rfl rfl (.inl rfl) ?_;have V:au .sub I X 1=X-1:=by simp only[au];rw[bJ (by omega) (by omega)]
 have Q:au .sub I W 1=W-1:=by simp only[au];rw[bJ (by omega) (by omega)]
 have P:lenOf (iG[0]?.getD default).val=10:=rfl;simp[Qy,bv,V,Q,P]
 repeat' split
 all_goals(try simp)
 all_goals(intros;refine⟨by omega, ?_⟩;intros;apply asz<;>(first|assumption|omega|grind))
def f84(c:Nat->Int)(X W:Int)(V:-1000<=X/\X<=1000000)(Q:-1000<=W/\W<=1000000):TB.Ev 84 (bv c++[.i X,.i W]) (.ret [.b (ob 84 (bv c++[.i X,.i W]) 0)])/\(ob 84 (bv c++[.i X,.i W]) 0=J->iZ X W c):=Yv (t84 c X W V Q)
def Mm{a b:Int}(h:b≠0):(a.tmod b).natAbs<b.natAbs:=by
 rw[aKg];exact aKA _ (by omega)
def aAi(a b c:Int)(N:1<=c)(M:c<=32768)(H:-c<=a/\a<=c)(G:-c<=b/\b<=c):∃o,TB.Ev 153 [.i a,.i b,.i c] o/\∃x y z,o=.ret [.i x,.i y,.i z]:=by
 refine dm rfl rfl (.inl rfl) ?_;simp[Yf];refine ub (λX=>∃n d:Int,X=[.i n,.i d]∧-c<=n/\n<=c∧-c<=d/\d<=c) (λX=>(xi X 0).natAbs) ⟨a,0,rfl,by omega,by omega,by omega,by omega⟩ ?_;rintro _ ⟨n,d,rfl,W,V,Q,P⟩;simp[xi,ua,au];split
 case isFalse h=>
  have:=Mm (a:=d) h;refine⟨h,⟨_,_,⟨rfl,rfl⟩, ?_⟩,by rw[<-aKg];exact this⟩;omega
 refine ub (λX=>∃n d:Int,X=[.i n,.i d]∧-c<=n/\n<=c∧-c<=d/\d<=c) (λX=>(xi X 0).natAbs) ⟨b,d,rfl,by omega,by omega,by omega,by omega⟩ ?_;rintro _ ⟨n,d,rfl,W,V,Q,P⟩;simp[xi,ua,au];split
 case isFalse h=>
  have:=Mm (a:=d) h;refine⟨h,⟨_,_,⟨rfl,rfl⟩, ?_⟩,by rw[<-aKg];exact this⟩;omega
 refine ub (λX=>∃n d:Int,X=[.i n,.i d]∧-c<=n/\n<=c∧-c<=d/\d<=c/\(n≠0\/d≠0)) (λX=>(xi X 0).natAbs) ⟨c,d,rfl,by omega,by omega,by omega,by omega,by omega⟩ ?_;rintro _ ⟨n,d,rfl,W,V,Q,P,F⟩;simp[xi,ua,au];split
 case isFalse h=>
  have:=Mm (a:=d) h;refine⟨h,⟨_,_,⟨rfl,rfl⟩, ?_⟩,by rw[<-aKg];exact this⟩;omega
 have:IntKind.i64.wrap (-d)=-d:=bJ (by omega) (by omega);simp[this];omega
def t83(a b c:Int):∃o,TB.Ev 83 [.i a,.i b,.i c] o/\∃e,o=.ret [.i e]/\True:=by
 refine dm rfl rfl (.inl rfl) ?_;simp[Yg];intro V Q X P N;have W:au .sub I 0 c=-c:=by simp only[au];rw[bJ (by omega) (by omega)];omega
 rw[W] at X;obtain⟨o,h,x,y,z,rfl⟩:=aAi a b c (by omega) (by omega) (by omega) (by omega);rw[aN h];simp
@[simp] def c83 (a b c:Int):eK TB.Ev R 83 [.i a,.i b,.i c] g t O L=eL TB.Ev R (.ret [.i (oi 83 [.i a,.i b,.i c] 0)]) g t O L:=aN (su (t83 a b c)).1
structure Mn(tp:RV):Prop where
 sl:Sl tp
 pos:0<Y tp.rows
 zero:ci tp 0 0=0
def asA{j:Nat}(h:j<=140737488355328)(W:V<=j):IntKind.i64.wrap (au .shr .u64 (IntKind.u64.wrap (au .add I (V:Int) (j:Int))) 1)=(((V+j)/2:Nat):Int):=by
 simp only[au];rw[bJ (n:=(V:Int)+j) (by omega) (by omega)];rw[show IntKind.u64.wrap ((V:Int)+j)=(V:Int)+j by rw[IntKind.wrap_u64];omega];have:((V:Int)+j).fdiv (2^min (1:Int).toNat IntKind.u64.bits)=(((V+j)/2:Nat):Int):=by
  have X:(2:Int)^min (1:Int).toNat IntKind.u64.bits=2:=rfl;rw[X,aLv _ (by omega)];omega
 rw[this,bJ (by omega) (by omega)]
def aAk(P ab:Int)(X N M:RV)(h:Mn X)(B:0<=ab):∃o,TB.Ev 220 [.i P,.r X,.r N,.r M,.i ab] o/\∃e,o=.ret [.i e]/\True:=by
 refine dm rfl rfl (.inl rfl) ?_;simp[X9];have A:=h.pos;have z:=h.sl.sm;refine ub (λW=>∃i j:Nat,W=[.i i,.i j]/\i<=j/\j<=Y X.rows/\(j=Y X.rows\/ab<ci X j 0)) (λW=>(xi W 1-xi W 0).toNat) ⟨0,Y X.rows,by simp[h.sl.len],by omega,by omega,.inl rfl⟩ ?_;rintro _ ⟨i,j,rfl,H,y,V⟩;simp[xi,ua,h.sl.len,asA (show j<=140737488355328 by omega) H];split;rename_i G;refine⟨by omega, ?_⟩;have F:((i:Int)+j)/2=(((i+j)/2:Nat):Int):=by omega
 have D:=Ml (i:=(i+j)/2) (by omega);rw[F,D];split;refine⟨⟨(i+j)/2+1,j,⟨rfl,rfl⟩,by omega,by omega,V⟩,by omega⟩;rename_i Q;refine⟨⟨i,(i+j)/2,⟨rfl,rfl⟩,by omega,by omega,.inr ?_⟩,by omega⟩;simp only[ci];omega;rename_i G;have C:i=j:=by omega
 subst C;have:1<=i:=by
  rcases aJB i with rfl|Q;have:=h.zero;rcases V with V|V<;>omega;exact Q
 rw[show au .sub I (i:Int) 1=(i:Int)-1 by simp only[au];rw[bJ (by omega) (by omega)]];omega
def aAl(W ab:Int)(X V Q:RV)(h:Mn X)(P:0<=ab):eK TB.Ev R 220 [.i W,.r X,.r V,.r Q,.i ab] g t O L=eL TB.Ev R (.ret [.i (oi 220 [.i W,.r X,.r V,.r Q,.i ab] 0)]) g t O L:=aN (su (aAk W ab X V Q h P)).1
end
section
def bT(X:am):RV:=.mk (.slice Z (Y X) (Y X)) X
@[simp] def aH0 (x:LE) (O:aa):gz x O=bT (x.rows O):=rfl
@[simp] def aH1 (r:am):(bT r).rows=r:=rfl
@[simp] def aH2 (r:am):lenOf (bT r).val=Y r:=rfl
@[simp] def qO:RV.mk (.slice Z 0 0) []=bT []:=rfl
attribute[simp] LE.rows SV.bN
def ln(c:Nat->Int):aH:=[.mk (.int I (c 0)) [],.mk (.int I (c 1)) [],.mk (.int I (c 2)) [],.mk (.int I (c 3)) [],.mk (.int I (c 4)) [],.mk (.int I (c 5)) [],.mk (.int I (c 6)) [],.mk (.int I (c 7)) [],.mk (.int I (c 8)) [],.mk (.int I (c 9)) [],.mk (.int I (c 10)) [],.mk (.int I (c 11)) [],.mk (.int I (c 12)) [],.mk (.int I (c 13)) []]
def asB{lt:aH->aH->Bool}{x:aH}:∀{l:am},(dj lt x l).Perm (x::l)
 |[]=>aLX _
 |y::r=>by
  simp only[dj];split;exact aLX _;exact((asB (l:=r)).cons y).trans (aMi x y r)
def asC{lt:aH->aH->Bool}:∀(l acc:am),(l.foldl (λacc x=>dj lt x acc) acc).Perm (acc++l)
 |[],acc=>by simp
 |x::l,acc=>by
  simp only[aJ2];refine(asC l _).trans ?_;refine(List.Perm.append_right l asB).trans ?_;rw[aIF];exact List.perm_middle.symm
def A7{lt:aH->aH->Bool}(l:am):(bE lt l).Perm l:=by
 have:=asC (lt:=lt) l [];simpa[bE] using this
def xk(X:am):Prop:=X.Pairwise λx y=>aT 0 x≠aT 0 y
def xk.perm{l X:am}(h:xk l)(W:X.Perm l):xk X:=(W.symm.pairwise_iff (λ{x y} h=>h.symm)).1 h
def asD:∀{X:am},xk X->vZ (aW.lex [0] E).lt X=J
 |[],_=>rfl
 |x::r,h=>by
  simp only[xk,aIV] at h;simp only[vZ,aIy,aIN,aIZ];refine⟨λy V=> ?_,asD h.2⟩;have W:¬aT 0 x=aT 0 y:=h.1 y V;have Q:¬aT 0 y=aT 0 x:=λe=>W e.symm
  simp only[aW.lt,iO,if_neg W,if_neg Q,aIU,if_false,decide_eq_true_eq];omega
def Yw{W:Bool}{X:am}(V:Y X<=1099511627776)(h:xk X):gR (.lex [0] E) W X=U (bE (aW.lex [0] E).lt X):=by
 simp only[gR];rw[if_pos (by simp[V,asD h,aW.ok])]
def aAm{rows:am}(X:Y rows<=1099511627776)(h:∀x∈rows,eU (aT 10 x) (aT 11 x)=J):gR (.ratio 10 11) J rows=U (bE (aW.ratio 10 11).lt rows):=by
 simp only[gR];rw[if_pos (by simp only[aIy,decide_eq_true_eq,aL6,and_true];exact⟨X,aIN.2 h⟩)]
structure dJ where
 cW:Int
 cD:Int
 cA:Int
 cB:Int
 cC:Int
 cO:Int
 cr0:RV
 ct0:RV
 cp0:RV
 jD:RV
 cg0:RV
section
variable[Inhabited dJ]
def vA:Int:=(default:dJ).cW
def vC:Int:=(default:dJ).cD
def wkA:Int:=(default:dJ).cA
def wkB:Int:=(default:dJ).cB
def wkC:Int:=(default:dJ).cC
def eD:Int:=(default:dJ).cO
def be:RV:=(default:dJ).cr0
def oT:RV:=(default:dJ).ct0
def qP:RV:=(default:dJ).cp0
def qQ:RV:=(default:dJ).jD
def bX:RV:=(default:dJ).cg0
end
structure Mo[Inhabited dJ]:Prop where
 nr:1<=Y be.rows/\Y be.rows<=64
 ns:Y bX.rows<=4096
 br:1<=eD/\eD<=4096
 wd:1<=vA/\vA<=1000/\1<=vC/\vC<=1000
 tp:Mn oT
 HY:∀i<Y bX.rows,iZ (Y be.rows) eD (ci bX i)
 id:∀i<Y bX.rows,0<=ci bX i 0/\ci bX i 0<=1048576
 ids:∀i j,i<j->j<Y bX.rows->ci bX i 0<ci bX j 0
structure gH[Inhabited dJ]:Prop where
 rl:Sl be
 tp:Sl oT
 ps:Sl qP
 sp:Sl qQ
 sg:Sl bX
section
variable{R:bD->Prop}{d:aP}{t:T}{O:aa}{L:dN}
variable[Inhabited dJ]
def wk:aV:=[.i vA,.i vC,.i wkA,.i wkB,.i wkC,.r be,.i eD,.r oT,.r qP,.r qQ,.r bX]
def HZ:Prop:=∀(eD:Int)(oT qP qQ:RV),Sl oT->Sl qP->Sl qQ->TB.Ev 81 [.i eD,.r oT,.r qP,.r qQ] (.ret [.i (oi 81 [.i eD,.r oT,.r qP,.r qQ] 0)])/\(oi 81 [.i eD,.r oT,.r qP,.r qQ] 0=0->Mn oT/\1<=eD/\eD<=4096)
def t37(G:HZ)(h:gH):∃o,TB.Ev 37 wk o/\∃e,o=.ret [.i e]/\(e=0->Mo):=by
 refine dm rfl rfl (.inl rfl) ?_;obtain⟨F,D⟩:=G eD oT qP qQ h.tp h.ps h.sp;simp[Yb,wk,h.rl.len,h.sg.len,aN F]
 repeat'(first|intro _|split)
 any_goals(exfalso;omega)
 obtain⟨C,u,s⟩:=D (by assumption);refine cZ (Y be.rows) (λ_ P=>P=[]) ⟨0,rfl,by omega,rfl⟩ ?_;rintro i _ X rfl;simp[h.rl.len];split;rename_i X;simp[cQ X h.rl.sm,X];refine cZ (Y bX.rows) (λi P=>∃V:Int,P=[.i V]∧-1<=V/\(∀k<i,iZ (Y be.rows) eD (ci bX k)/\0<=ci bX k 0/\ci bX k 0<=V/\ci bX k 0<=1048576)/\∀j k,j<k->k<i->ci bX j 0<ci bX k 0) ⟨0,rfl,by omega,-1,rfl,by omega,by omega,by omega⟩ ?_;rintro j _ N ⟨V,rfl,r,W,k3⟩;simp[h.rl.len,h.sg.len];split;rename_i N;refine⟨N,λq p=> ?_⟩;obtain⟨M,Q⟩:=f84 (ci bX j) (Y be.rows) eD (by omega) (by omega);simp only[bv,ci,aIF,aIJ] at M Q;rw[aN M];simp[cQ N h.sg.sm];intro B;have Q:=Q B;refine⟨by omega,λk n=> ?_,λa b H m=> ?_⟩;by_cases A:k=j;subst A;refine⟨Q, ?_, ?_, ?_⟩<;>simp only[ci]<;>omega;obtain⟨z,y,q3,x⟩:=W k (by omega);exact⟨z,y,by simp only[ci] at q3⊢;omega,x⟩;by_cases w:b=j;subst w;have:=(W a H).2.2.1;simp only[ci] at this⊢;omega;exact k3 a b H (by omega);have v:j=Y bX.rows:=by omega
 subst v;have l:Y be.rows≠0:=λe=>absurd (aJe.1 e) (by assumption)
 exact⟨by omega,by omega,by omega,by omega,C,λi X=>(W i X).1,λi X=>⟨(W i X).2.1,(W i X).2.2.2⟩,k3⟩
end
end
section
variable{R:bD->Prop}{a:aP}{t:T}{O:aa}{L:dN}
def t81(W:Int)(Q N M:RV)(P:Sl Q)(H:Sl N)(G:Sl M):∃o,TB.Ev 81 [.i W,.r Q,.r N,.r M] o/\∃e,o=.ret [.i e]/\(e=0->Mn Q/\1<=W/\W<=4096):=by
 refine dm rfl rfl (.inr λv D=>by obtain⟨_,h,_⟩:=D;cases h) ?_;simp[Yh,P.len,H.len,G.len]
 repeat'(first|intro _|split)
 refine⟨by assumption, ?_⟩;intro C;have B:0<Y Q.rows:=by assumption
 have F:Mn Q:=⟨P,B,by simpa[ci] using C⟩;have A:1<=W/\W<=4096:=by omega
 refine cZ (Y Q.rows) (λ_ V=>∃n:Int,V=[.i n]) ⟨0,rfl,by omega,_,rfl⟩ ?_;rintro i _ X ⟨n,rfl⟩;simp[P.len];split;rename_i X;simp[cQ X P.sm,X];refine cZ W.toNat (λ_ V=>V=[]) ⟨0,rfl,by omega,rfl⟩ ?_;rintro i _ X rfl;simp;split;rename_i X;have z:i<W.toNat:=by omega
 rw[aAl _ _ _ _ _ F (by omega)];simp[cQ z (show W.toNat<=140737488355328 by omega)];refine cZ (Y N.rows) (λ_ V=>∃n:Int,V=[.i n]) ⟨0,rfl,by omega,_,rfl⟩ ?_;rintro i _ X ⟨n,rfl⟩;simp[H.len];split;rename_i X;simp[cQ X H.sm,X];refine cZ (Y M.rows) (λ_ V=>V=[]) ⟨0,rfl,by omega,rfl⟩ ?_;rintro i _ X rfl;simp[G.len];split;rename_i X;simp[cQ X G.sm,X];exact⟨F,A⟩
def xl:HZ:=λX W V Q P N M=>su (t81 X W V Q P N M)

variable[Inhabited dJ]
@[simp] def uc (c:Nat->Int) (j:Nat) (h:j<14):aT j (ln c)=c j:=by
 match j,h with
 |0,_|1,_|2,_|3,_|4,_|5,_|6,_|7,_|8,_|9,_|10,_|11,_|12,_|13,_=>rfl
def jt(ao ab:Int):Nat->am
 |0=>[]
 |i+1=>jt ao ab i++(if ci bX i 1=ao/\ci bX i 2=ab then[ln (ci bX i)] else[])
def QH{ao ab:Int}:∀i,(jt ao ab i).length<=i
 |0=>by simp[jt]
 |i+1=>by
  have:=QH (ao:=ao) (ab:=ab) i;simp only[jt,aIO];split<;>simp<;>omega
def QI{ao ab:Int}{x:aH}:∀{i},x∈jt ao ab i<->∃k<i,x=ln (ci bX k)/\ci bX k 1=ao/\ci bX k 2=ab
 |0=>by simp[jt]
 |i+1=>by
  simp only[jt,aIM,QI (i:=i)];constructor;rintro(⟨k,V,X⟩|h);exact⟨k,by omega,X⟩;split at h;rename_i Q;simp at h;exact⟨i,by omega,h,Q⟩;simp at h;rintro⟨k,V,X,W⟩;by_cases P:k=i;subst P;right;rw[if_pos W];simp[X];exact .inl ⟨k,by omega,X,W⟩
def asF{ao ab:Int}(h:∀i j,i<j->j<Y bX.rows->ci bX i 0<ci bX j 0):∀{i},i<=Y bX.rows->xk (jt ao ab i)
 |0,_=>aJt
 |i+1,Q=>by
  simp only[jt,xk,aI4];refine⟨asF h (by omega),by split<;>simp,λx W y X=> ?_⟩;obtain⟨k,V,rfl,-⟩:=(QI).1 W;split at X;simp at X;subst X;rw[uc _ _ (by omega),uc _ _ (by omega)];have:=h k i V (by omega);omega;simp at X
def ji:Int:=oi 37 wk 0
def eE(ao ab:Int):Int:=if ji=0 then(if iC ao 0 (Y be.rows-1)&&iC ab 0 (eD-1) then 0 else 1) else ji
def bL(ao ab:Int):am:=if eE ao ab=0 then bE (aW.ratio 10 11).lt (jt ao ab (Y bX.rows)) else[]
def C1(X:HZ)(h:gH):TB.Ev 37 wk (.ret [.i ji])/\(ji=0->Mo):=su (t37 X h)
def QJ(G:HZ)(h:gH)(ao ab:Int):TB.Ev 77 (wk++[.i ao,.i ab]) (.ret [.r (bT (bL ao ab)),.i (eE ao ab)]):=by
 refine bW rfl rfl (.inl rfl) ?_;obtain⟨W,F⟩:=C1 G h;simp only[wk] at W;simp[T77,wk,h.rl.len,aN W];split
 case isFalse X=>
  simp[bL,eE,X]
 rename_i X;have V:=F X;have y:=V.nr;have w:=V.br;rw[show au .sub I (Y be.rows:Int) 1=Y be.rows-1 by simp only[au];rw[bJ (by omega) (by omega)],show au .sub I eD 1=eD-1 by simp only[au];rw[bJ (by omega) (by omega)]];split
 case isFalse Q=>
  simp[bL,eE,X,Q]
 rename_i Q;split
 case isFalse N=>
  simp[bL,eE,X,Q,N]
 rename_i N;refine cZ (Y bX.rows) (λi D=>D=[.r (bT (jt ao ab i))]) ⟨0,rfl,by omega,rfl⟩ ?_;rintro i _ M rfl;have v:=QH (ao:=ao) (ab:=ab) i;have u:=V.ns;simp[h.sg.len];split;rename_i M;simp[cQ M h.sg.sm,jt,ci,M];have s:(jt ao ab i).length<=536870912:=by omega
 split;rename_i P;split;rename_i H;simp[P,H,ln,ci];omega;rename_i H;simp[P,H];rename_i P;simp[P];have C:i=Y bX.rows:=by omega
 subst C;have B:=aAm (rows:=jt ao ab (Y bX.rows)) (by have:=QH (ao:=ao) (ab:=ab) (Y bX.rows);have:=h.sg.sm;omega) (λx A=>by
  obtain⟨k,W,rfl,-⟩:=(QI).1 A;rw[uc _ _ (by omega),uc _ _ (by omega)];exact(V.HY k W).from_)
 simp only[yV,yW];refine⟨_,B, ?_⟩;have z:eE ao ab=0:=by simp[eE,X,Q,N]
 simp[bL,z,bT,j9]
def asG{ao ab:Int}(Q:ji=0->Mo){x:aH}(X:x∈bL ao ab):∃k<Y bX.rows,x=ln (ci bX k)/\ci bX k 1=ao/\ci bX k 2=ab/\iZ (Y be.rows) eD (ci bX k):=by
 unfold bL at X;split at X;rename_i W;have P:ji=0:=by
  unfold eE at W;split at W;assumption;exact W
 obtain⟨k,V,N,M,H⟩:=(QI).1 ((A7 _).mem_iff.1 X);exact⟨k,V,N,M,H,(Q P).HY k V⟩;simp at X
def asH{ao ab:Int}(W:ji=0->Mo):xk (bL ao ab):=by
 unfold bL;split;rename_i X;have V:ji=0:=by
  unfold eE at X;split at X;assumption;exact X
 exact(asF (W V).ids (aIG _)).perm (A7 _);exact aJt
def asI{ao ab:Int}(W:ji=0->Mo):(bL ao ab).length<=4096:=by
 unfold bL;split;rename_i X;have V:ji=0:=by
  unfold eE at X;split at X;assumption;exact X
 rw[j9];have:=QH (ao:=ao) (ab:=ab) (Y bX.rows);have:=(W V).ns;omega;simp
end
section
variable{R:bD->Prop}{a:aP}{t:T}{O:aa}{L:dN}
def aAt(c:Nat->Int)(x y z:Int)(b:Bool):∃o,TB.Ev 225 (bv c++[.i x,.i y,.i z,.b b]) o/\∃e,o=.ret [.b e]/\(e=J->x=c 0):=by
 refine dm rfl rfl (.inl rfl) ?_;simp[Yd,bv]
 repeat' split
 all_goals(intros;grind [iC])
def asJ(c:Nat->Int)(x y z:Int)(b:Bool):TB.Ev 225 (bv c++[.i x,.i y,.i z,.b b]) (.ret [.b (ob 225 (bv c++[.i x,.i y,.i z,.b b]) 0)])/\(ob 225 (bv c++[.i x,.i y,.i z,.b b]) 0=J->x=c 0):=Yv (aAt c x y z b)
def C2(c:Nat->Int)(r:RV)(k:Nat):aH:=ln c++[.mk (.int I (ci r k 0)) [],.mk (.int I (ci r k 1)) [],.mk (.int I (ci r k 2)) [],.mk (.bool (cb r k 3)) []]
def ba(X:am)(i j:Nat):Int:=bB (cellAt X i j).val
def oh(l:am)(r:RV)(n:Nat)(out:am):Prop:=Y out=n/\∀i<n,∃k<Y r.rows,out[i]?=U (C2 (ba l i) r k)/\ci r k 0=ba l i 0
def oh.add{l:am}{r:RV}{out:am}(h:oh l r V out){k:Nat}(X:k<Y r.rows)(hid:ci r k 0=ba l V 0):oh l r (V+1) (out++[C2 (ba l V) r k]):=by
 refine⟨by simp[h.1],λi H=> ?_⟩;by_cases W:i=V;subst W;refine⟨k,X, ?_,hid⟩;rw[aIH (by rw[h.1];omega),h.1];simp;obtain⟨Q,P,N,M⟩:=h.2 i (by omega);exact⟨Q,P,by rw[aIB (by rw[h.1];omega)];exact N,M⟩
def aAu(l:am)(r:RV)(W:Sl r)(C:Y l<=4096)(G:xk l)(N:0<Y l):∃o,TB.Ev 155 [.r (bT l),.r r] o/\∃v b,o=.ret [.r (bT v),.b b]/\(b=E->v=[])/\(b=J->oh l r (Y l) v):=by
 refine dm rfl rfl (.inl rfl) ?_;simp[Qz,W.len];intro F;simp only[HV];refine⟨.inl rfl,λ_=> ?_,λh=> ?_,λ_ h=> ?_⟩;simp;refine⟨by omega, ?_⟩;simp only[yV,yW];refine⟨_,Yw (by simp;omega) (by simpa using G), ?_⟩;simp;have B:(bE (aW.lex [0] E).lt l).length=Y l:=j9;refine cZ (Y l) (λi V=>∃v,V=[.r (bT v)]/\oh l r i v) ⟨0,rfl,by omega,[],rfl,rfl,by omega⟩ ?_;rintro i _ Q ⟨v,rfl,P⟩;simp;split;rename_i Q;refine⟨Q, ?_⟩;refine cZ (Y l) (λj V=>V=[.r (bT v)]) ⟨0,rfl,by omega,rfl⟩ ?_;rintro j _ X rfl;simp[W.len];intro X;have A:=P.1;simp[cQ X (show Y l<=140737488355328 by omega)];refine⟨X,λz=>⟨by omega, ?_⟩⟩;obtain⟨M,H⟩:=asJ (ba l i) (ci r j 0) (ci r j 1) (ci r j 2) (cb r j 3);simp only[bv,ba,ci,cb,aIF,aIJ] at M H;rw[aN M];simp[cQ X (show Y l<=140737488355328 by omega),cQ Q (show Y l<=140737488355328 by omega),<-F,W.len];intro D;refine⟨X,by omega, ?_⟩;have:=P.add (k:=j) (by omega) (H D);exact⟨_,rfl,this⟩;have:i=Y l:=by omega
 subst this;exact⟨_,rfl,P⟩;simp at h;simp[h] at N;simp at h;simp[h] at N
def asK(r:RV)(Q:Sl r):TB.Ev 155 [.r (bT []),.r r] (.ret [.r (bT []),.b (Y r.rows==0)]):=by
 refine bW rfl rfl (.inl rfl) ?_;simp[Qz,Q.len];split
 case isFalse h=>
  intro e;simp[e] at h
 rename_i h;have W:Y r.rows=0:=by omega
 have V:gR (aW.lex [0] E) E []=U []:=rfl;simp only[HV,yV,yW];refine⟨.inl rfl,λ_=> ?_,λ_=> ?_,λ_ _=>single (abX _)⟩
 ·try simp
  try simp only[yV,yW]
  refine⟨_,by simpa using V, ?_⟩;refine cZ 0 (λi X=>X=[.r (bT [])]) ⟨0,rfl,by omega,rfl⟩ ?_;rintro i _ P rfl;have:i=0:=by omega
  simp[W,this]
 ·try simp
  try simp only[yV,yW]
  refine⟨_,by simpa using V, ?_⟩;refine cZ 0 (λi X=>X=[.r (bT [])]) ⟨0,rfl,by omega,rfl⟩ ?_;rintro i _ P rfl;have:i=0:=by omega
  simp[W,this]
def asL(l:am)(r:RV)(X:Sl r)(W:Y l<=4096)(V:xk l):∃o,TB.Ev 155 [.r (bT l),.r r] o/\∃v b,o=.ret [.r (bT v),.b b]/\(b=E->v=[])/\(b=J->oh l r (Y l) v):=by
 cases l with
 |nil=>exact⟨_,asK r X,[],Y r.rows==0,rfl,λ_=>rfl,λ_=>⟨rfl,by simp⟩⟩
 |cons x l=>exact aAu (x::l) r X W V (by simp)
end
def oU(g:aP)(h:∃o,TB.Ev X W o/\∃V,o=.ret V/\iP g V=J):TB.Ev X W (.ret (ss (out X W) g 0)):=by
 obtain⟨o,Q,V,N,M⟩:=h;exact(shp g (P:=λ_=>True) ⟨o,Q,V,N,M,trivial⟩).1
def kI:Nat->aP
 |0=>[]
 |n+1=>.int I::kI n
@[simp] def H0:kI 0=[]:=rfl
@[simp] def H3 (n:Nat):kI (n+1)=.int I::kI n:=rfl
section
variable{R:bD->Prop}{g:aP}{t:T}{O:aa}{L:dN}
def aAv(a b:Int):∃o,TB.Ev 138 [.i a,.i b] o/\∃X,o=.ret X/\iP (kI 2) X=true:=by
 refine dm rfl rfl (.inl rfl) ?_;simp[Mg]
@[simp] def aH3 (a b:Int):eK TB.Ev R 138 [.i a,.i b] g t O L=eL TB.Ev R (.ret [.i (oi 138 [.i a,.i b] 0),.i (oi 138 [.i a,.i b] 1)]) g t O L:=aN (oU _ (aAv a b))
def aAw(a b:Int):∃o,TB.Ev 139 [.i a,.i b] o/\∃X,o=.ret X/\iP (kI 4) X=true:=by
 refine dm rfl rfl (.inl rfl) ?_;simp[Mh]
 repeat'(first|intro _|split)
 have W:lenOf (iG[2]?.getD default).val=8:=rfl;rw[show au .sub I a 1=a-1 by simp only[au];exact bJ (by omega) (by omega),W];omega
@[simp] def aH4 (a b:Int):eK TB.Ev R 139 [.i a,.i b] g t O L=eL TB.Ev R (.ret [.i (oi 139 [.i a,.i b] 0),.i (oi 139 [.i a,.i b] 1),.i (oi 139 [.i a,.i b] 2),.i (oi 139 [.i a,.i b] 3)]) g t O L:=aN (oU _ (aAw a b))
def aAx(a:Int):∃o,TB.Ev 376 [.i a] o/\∃X,o=.ret X/\iP (kI 3) X=true:=by
 refine dm rfl rfl (.inl rfl) ?_;simp[X2]
 repeat'(first|intro _|split)
 have W:lenOf (iG[2]?.getD default).val=8:=rfl;rw[show au .sub I a 1=a-1 by simp only[au];exact bJ (by omega) (by omega),W];omega
@[simp] def aH5 (a:Int):eK TB.Ev R 376 [.i a] g t O L=eL TB.Ev R (.ret [.i (oi 376 [.i a] 0),.i (oi 376 [.i a] 1),.i (oi 376 [.i a] 2)]) g t O L:=aN (oU _ (aAx a))
def aAy(a b c d e f:Int):∃o,TB.Ev 361 [.i a,.i b,.i c,.i d,.i e,.i f] o/\∃X,o=.ret X/\iP (kI 2) X=true:=by
 refine dm rfl rfl (.inl rfl) ?_;simp[agp]
@[simp] def aH6 (a b c d e f:Int):eK TB.Ev R 361 [.i a,.i b,.i c,.i d,.i e,.i f] g t O L=eL TB.Ev R (.ret [.i (oi 361 [.i a,.i b,.i c,.i d,.i e,.i f] 0),.i (oi 361 [.i a,.i b,.i c,.i d,.i e,.i f] 1)]) g t O L:=aN (oU _ (aAy a b c d e f))
def aAz(a b c:Int):∃o,TB.Ev 248 [.i a,.i b,.i c] o/\∃X,o=.ret X/\iP (kI 3) X=true:=by
 refine dm rfl rfl (.inl rfl) ?_;simp[agq]
@[simp] def aH7 (a b c:Int):eK TB.Ev R 248 [.i a,.i b,.i c] g t O L=eL TB.Ev R (.ret [.i (oi 248 [.i a,.i b,.i c] 0),.i (oi 248 [.i a,.i b,.i c] 1),.i (oi 248 [.i a,.i b,.i c] 2)]) g t O L:=aN (oU _ (aAz a b c))
def aAA(s:RV)(b:Int):∃o,TB.Ev 272 [.r s,.i b] o/\∃X,o=.ret X/\iP (kI 1) X=true:=by
 cases W:s.val with
 |string u=>exact⟨_,aci (by simp only[TB,HS,Yt,W];rfl),_,rfl,rfl⟩
 |_=>exact⟨_,aci (by simp only[TB,HS,Yt,W];rfl),_,rfl,rfl⟩
@[simp] def aH8 (s:RV) (b:Int):eK TB.Ev R 272 [.r s,.i b] g t O L=eL TB.Ev R (.ret [.i (oi 272 [.r s,.i b] 0)]) g t O L:=aN (oU _ (aAA s b))
def aAB(a:Int):∃o,TB.Ev 207 [.i a] o/\∃X,o=.ret X/\iP (kI 1) X=true:=by
 refine dm rfl rfl (.inl rfl) ?_;simp[Ye]
@[simp] def aH9 (a:Int):eK TB.Ev R 207 [.i a] g t O L=eL TB.Ev R (.ret [.i (oi 207 [.i a] 0)]) g t O L:=aN (oU _ (aAB a))
def lQ(v:RV):Prop:=∃s,v.val=.string s
def yX(v:RV):lQ (cz .str v):=by
 simp only[cz];split<;>exact⟨_,rfl⟩
def aAC(s:RV)(Q:lQ s):∃o,TB.Ev 135 [.r s] o/\∃W,o=.ret W/\iP [.bool] W=true:=by
 refine dm rfl rfl (.inl rfl) ?_;obtain⟨u,V⟩:=Q;simp[Yc,V,rj,lenOf];intro P G;have N:0<u.size:=by
  rcases aJB u.size with h|h;exfalso;apply P;have M:u=ByteArray.empty:=by simpa using h
  rw[M,ByteArray.toList,ByteArray.toList.loop];simp;exact h
 refine⟨N,λ_=> ?_⟩;refine cZ u.size (λ_ H=>H=[]) ⟨0,rfl,by omega,rfl⟩ ?_;rintro i _ X rfl;simp[V,lenOf];intro X;simp[cQ X (show u.size<=140737488355328 by omega),X]
def ahf(s:RV)(X:lQ s):eK TB.Ev R 135 [.r s] g t O L=eL TB.Ev R (.ret [.b (ob 135 [.r s] 0)]) g t O L:=aN (oU [.bool] (aAC s X))
def t74(W V a2 Q P a5 a6 a7 a8 N M dp dq:Int):∃o,TB.Ev 74 [.i W,.i V,.i a2,.i Q,.i P,.i a5,.i a6,.i a7,.i a8,.i N,.i M,.i dp,.i dq] o/\∃X,o=.ret X/\iP (kI 1) X=true:=by
 refine dm rfl rfl (.inl rfl) ?_;simp[QA]
def sw(X W a2 V Q a5 a6 a7 a8 P N dp dq:Int):Int:=oi 74 [.i X,.i W,.i a2,.i V,.i Q,.i a5,.i a6,.i a7,.i a8,.i P,.i N,.i dp,.i dq] 0
@[simp] def c74 (X W a2 V Q a5 a6 a7 a8 P N dp dq:Int):eK TB.Ev R 74 [.i X,.i W,.i a2,.i V,.i Q,.i a5,.i a6,.i a7,.i a8,.i P,.i N,.i dp,.i dq] g t O L=eL TB.Ev R (.ret [.i (sw X W a2 V Q a5 a6 a7 a8 P N dp dq)]) g t O L:=aN (oU _ (t74 X W a2 V Q a5 a6 a7 a8 P N dp dq))
def t75(s:RV)(W:lQ s)(V Q a2 P N a5 a6 a7 a8 M H dp dq X G F:Int):∃o,TB.Ev 75 [.r s,.i V,.i Q,.i a2,.i P,.i N,.i a5,.i a6,.i a7,.i a8,.i M,.i H,.i dp,.i dq,.i X,.i G,.i F] o/\∃e,o=.ret [.i e]/\(e=0->(1<=dp/\dp<=3)/\(1<=dq/\dq<=3)/\1<=X/\X<=3):=by
 refine dm rfl rfl (.inl rfl) ?_;simp[QB,ahf s W];intros;omega
def ud(s:RV)(X W a2 V Q a5 a6 a7 a8 P N dp dq M H G:Int):Int:=oi 75 [.r s,.i X,.i W,.i a2,.i V,.i Q,.i a5,.i a6,.i a7,.i a8,.i P,.i N,.i dp,.i dq,.i M,.i H,.i G] 0
def f75(s:RV)(F:lQ s)(W V a2 Q P a5 a6 a7 a8 N M dp dq X H G:Int):TB.Ev 75 [.r s,.i W,.i V,.i a2,.i Q,.i P,.i a5,.i a6,.i a7,.i a8,.i N,.i M,.i dp,.i dq,.i X,.i H,.i G] (.ret [.i (ud s W V a2 Q P a5 a6 a7 a8 N M dp dq X H G)])/\(ud s W V a2 Q P a5 a6 a7 a8 N M dp dq X H G=0->(1<=dp/\dp<=3)/\(1<=dq/\dq<=3)/\1<=X/\X<=3):=su (t75 s F W V a2 Q P a5 a6 a7 a8 N M dp dq X H G)
def Fj(s:RV)(F:lQ s)(X W a2 V Q a5 a6 a7 a8 P N dp dq M H G:Int):eK TB.Ev R 75 [.r s,.i X,.i W,.i a2,.i V,.i Q,.i a5,.i a6,.i a7,.i a8,.i P,.i N,.i dp,.i dq,.i M,.i H,.i G] g t O L=eL TB.Ev R (.ret [.i (ud s X W a2 V Q a5 a6 a7 a8 P N dp dq M H G)]) g t O L:=aN (f75 s F X W a2 V Q a5 a6 a7 a8 P N dp dq M H G).1
set_option maxHeartbeats 4000000 in
def t27 (W V Q P N M H G F D C B A:Int) (s:RV) (z:lQ s) (y x a2 w v a5 a6 a7 a8 u q dp dq p n m:Int):∃o,TB.Ev 27 [.i W,.i V,.i Q,.i P,.i N,.i M,.i H,.i G,.i F,.i D,.i C,.i B,.i A,.r s,.i y,.i x,.i a2,.i w,.i v,.i a5,.i a6,.i a7,.i a8,.i u,.i q,.i dp,.i dq,.i p,.i n,.i m] o/\∃X,o=.ret X/\iP (kI 5) X=true:=by
 refine dm rfl rfl (.inl rfl) ?_;simp(config:={maxSteps:=10000000}) [CY,Fj s z]
end
section
variable{R:bD->Prop}{a:aP}{t:T}{O:aa}{L:dN}
variable[Inhabited dJ]
structure QK:Prop where
 rl:lenOf be.val<=100
 tp:lenOf oT.val<=64
 ps:lenOf qP.val<=64
 sp:lenOf qQ.val<=64
 sg:lenOf bX.val<=5000
def t33:∃o,TB.Ev 33 wk o/\∃b,o=.ret [.b b]/\(b=J->QK):=by
 refine dm rfl rfl (.inl rfl) ?_;by_cases h:lenOf be.val<=100/\lenOf oT.val<=64/\lenOf qP.val<=64/\lenOf qQ.val<=64/\lenOf bX.val<=5000
 ·have X:QK:=⟨h.1,h.2.1,h.2.2.1,h.2.2.2.1,h.2.2.2.2⟩;simp[Ya,wk,X];intros
  repeat' split
  all_goals(intros;omega)
 ·have X:¬QK:=λf=>h ⟨f.rl,f.tp,f.ps,f.sp,f.sg⟩
  simp[Ya,wk,X];intros
  repeat' split
  all_goals(intros;omega)
def f33:TB.Ev 33 wk (.ret [.b (ob 33 wk 0)])/\(ob 33 wk 0=J->QK):=Yv t33
def cr(e:TypeId)(v:RV)(i:Nat):RV:=cz (.sl e) (cellAt v.rows i 0)
structure aAI(wg bd st re:RV):Prop where
 few:QK
 wg:lenOf wg.val<=20
 bd:lenOf bd.val<=100
 st:lenOf st.val<=100
 rel:lenOf re.val<=100
 im:∀i:Nat,i<lenOf re.val->lenOf (cr 96 re i).val<=100
def aAJ(X:RV)(H:lenOf X.val<=100)(G:0<=lenOf X.val){L:dN}{O:aa}{t:T}{a:aP}{Q:ah}
  (P:Q.map (SV.xv O)=[.i 0])
  (N:∀(i:Nat),i<=lenOf X.val->(∀k<i,lenOf (cr 96 X k).val<=100)->t.wp TB.Ev R (O.ext [.i i]) (⟨V,Fi (lenOf X.val).toNat (λi W=>W=[]/\∀k<i,lenOf (cr 96 X k).val<=100),C0 (lenOf X.val).toNat,(lenOf X.val).toNat-i⟩::L)):
  T.wp TB.Ev R (.loop V a Q t) O L:=by
 refine cZ (lenOf X.val).toNat (λi W=>W=[]/\∀k<i,lenOf (cr 96 X k).val<=100) (by rw[P];exact⟨0,rfl,by omega,rfl,by omega⟩) ?_;rintro i _ F ⟨rfl,M⟩;exact N i (by omega) M
def t12(V Q P X:RV)(G:0<=lenOf X.val):∃o,TB.Ev 12 (wk++[.r V,.r Q,.r P,.r X]) o/\∃b,o=.ret [.b b]/\(b=J->aAI V Q P X):=by
 refine dm rfl rfl (.inl rfl) ?_;obtain⟨N,M⟩:=f33;simp only[wk] at N M;simp[T12,wk,aN N];intro W;have W:=M W
 repeat'(first|intro _|split)
 all_goals
  refine aAJ X ?_ G ?_ ?_;omega;rfl;intro i z H;simp;split;rename_i F;have D:i<(lenOf X.val).toNat:=by omega
  rw[cQ D (by omega)];refine⟨by omega,λC=>⟨rfl,λk B=> ?_⟩⟩;by_cases A:k=i;subst A;simp only[cr];exact C;exact H k (by omega);rename_i F;exact⟨W,by omega,by omega,by omega,by omega,λk B=>H k (by omega)⟩
def Yx(c:Nat->Int):aV:=[.i (c 0),.i (c 1),.i (c 2),.i (c 3),.i (c 4),.i (c 5),.i (c 6),.i (c 7)]
def t25(c:Nat->Int)(ab:Int):∃o,TB.Ev 25 (Yx c++[.i ab]) o/\∃X,o=.ret X/\iP (kI 5) X=true:=by
 refine dm rfl rfl (.inl rfl) ?_;simp[T25,Yx]
def sx(c:Nat->Int)(ab:Int)(k:Nat):Int:=oi 25 (Yx c++[.i ab]) k
def f25(c:Nat->Int)(ab:Int):TB.Ev 25 (Yx c++[.i ab]) (.ret [.i (sx c ab 0),.i (sx c ab 1),.i (sx c ab 2),.i (sx c ab 3),.i (sx c ab 4)]):=oU _ (t25 c ab)

def aAL(M:HZ)(h:gH)(ao ab:Int)(r:RV)(V:Sl r)(H:0<(bL ao ab).length):∃o,TB.Ev 85 (wk++[.i ao,.i ab,.r r]) o/\∃e,o=.ret [.i e]/\(e=0->eE ao ab=0/\∃v,oh (bL ao ab) r (bL ao ab).length v):=by
 refine dm rfl rfl (.inl rfl) ?_;have G:=QJ M h ao ab;have F:=(C1 M h).2;have y:=asI (ao:=ao) (ab:=ab) F;have B:=asH (ao:=ao) (ab:=ab) F;simp only[wk,aIF,aIJ] at G;generalize bL ao ab=l at*;generalize eE ao ab=e at*;simp[QC,wk,aN G,V.len];split
 case isFalse W=>simp[W]
 rename_i W;intro A;rw[HV];refine⟨.inl rfl,λ_=> ?_,λh=> ?_,λ_ h=> ?_⟩;simp;refine⟨by omega, ?_⟩
 first|rw[yV]|rw[yW]
 refine⟨_,Yw (by simp;omega) (by simpa using B), ?_⟩;simp;have x:(bE (aW.lex [0] E).lt l).length=Y l:=j9;refine cZ (Y l) (λi Q=>∃v,Q=[.r (bT v)]/\oh l r i v) ⟨0,rfl,by omega,[],rfl,rfl,by omega⟩ ?_;rintro i _ P ⟨v,rfl,N⟩;simp;split;rename_i P;refine⟨P, ?_⟩;refine cZ (Y l) (λj Q=>Q=[.r (bT v)]) ⟨0,rfl,by omega,rfl⟩ ?_;rintro j _ X rfl;simp[V.len];intro X;have w:=N.1;simp[cQ X (show Y l<=140737488355328 by omega)];refine⟨X,λW=>⟨by omega, ?_⟩⟩;obtain⟨D,C⟩:=asJ (ba l i) (ci r j 0) (ci r j 1) (ci r j 2) (cb r j 3);simp only[bv,ba,ci,cb,aIF,aIJ] at D C;rw[aN D];simp[cQ X (show Y l<=140737488355328 by omega),cQ P (show Y l<=140737488355328 by omega),<-A,V.len];intro z;refine⟨X,by omega, ?_⟩;have:=N.add (k:=j) (by omega) (C z);exact⟨_,rfl,this⟩;have:i=Y l:=by omega
 subst this;exact⟨W,v,N⟩;simp at h;simp[h] at H;simp at h;simp[h] at H
def asN(N:HZ)(h:gH)(ao ab:Int)(r:RV)(M:Sl r)(H:bL ao ab=[]):TB.Ev 85 (wk++[.i ao,.i ab,.r r]) (.ret [.i (if eE ao ab≠0 then eE ao ab else if Y r.rows=0 then 0 else 270)]):=by
 refine bW rfl rfl (.inl rfl) ?_;have W:=QJ N h ao ab;rw[H] at W;simp only[wk,aIF,aIJ] at W;generalize eE ao ab=e at*;simp[QC,wk,aN W,M.len];split
 case isFalse X=>simp[X]
 rename_i X;split
 case isFalse h=>
  simp;intro e;simp[e] at h
 rename_i h;have Q:r.rows=[]:=aJe.1 (by omega);have P:gR (aW.lex [0] E) E []=U []:=rfl;simp only[HV,yV,yW];refine⟨.inl rfl,λ_=> ?_,λ_=> ?_,λ_ _=>single (abX _)⟩
 ·try simp
  try simp only[yV,yW]
  refine⟨_,by simpa using P, ?_⟩;refine cZ 0 (λi V=>V=[.r (bT [])]) ⟨0,rfl,by omega,rfl⟩ ?_;rintro i _ G rfl;have:i=0:=by omega
  simp[Q,X,this]
 ·try simp
  try simp only[yV,yW]
  refine⟨_,by simpa using P, ?_⟩;refine cZ 0 (λi V=>V=[.r (bT [])]) ⟨0,rfl,by omega,rfl⟩ ?_;rintro i _ G rfl;have:i=0:=by omega
  simp[Q,X,this]
def t85(W:HZ)(h:gH)(ao ab:Int)(r:RV)(V:Sl r):∃o,TB.Ev 85 (wk++[.i ao,.i ab,.r r]) o/\∃e,o=.ret [.i e]/\(e=0->eE ao ab=0/\∃v,oh (bL ao ab) r (bL ao ab).length v):=by
 by_cases X:bL ao ab=[];refine⟨_,asN W h ao ab r V X,_,rfl,λQ=> ?_⟩;split at Q;rename_i P;exact absurd Q P;rename_i P;exact⟨by omega,[],by rw[X];exact⟨rfl,by simp⟩⟩;exact aAL W h ao ab r V (aKl.2 X)
end
def az{c:Prop}[Decidable c]{A B:Prop}(X:c->A)(W:¬c->B):if c then A else B:=by
 by_cases h:c;rw[if_pos h];exact X h;rw[if_neg h];exact W h
section
variable{R:bD->Prop}{g:aP}{t:T}{O:aa}{L:dN}
variable[Inhabited dJ]
def V8(x:Int):Prop:=-841<=x/\x<=841
def aAN(a b:Int):∃o,TB.Ev 139 [.i a,.i b] o/\∃X,o=.ret X/\V8 (xi X 0)/\V8 (xi X 1):=by
 refine dm rfl rfl (.inl rfl) ?_;simp[Mh,V8,xi]
 repeat'(first|intro _|split)
 all_goals
  try
   have W:lenOf (iG[2]?.getD default).val=8:=rfl;rw[show au .sub I a 1=a-1 by simp only[au];exact bJ (by omega) (by omega),W];have V:a=1\/a=2\/a=3\/a=4\/a=5\/a=6\/a=7\/a=8:=by omega
   refine⟨by omega,by omega, ?_⟩;rcases V with rfl|rfl|rfl|rfl|rfl|rfl|rfl|rfl<;>decide
 all_goals simp
def Mp(a b:Int):V8 (oi 139 [.i a,.i b] 0)/\V8 (oi 139 [.i a,.i b] 1):=by
 obtain⟨o,X,V,rfl,W⟩:=aAN a b;simp only[oi,A6 X];exact W
def Yy(s:RV)(F:lQ s)(X W a2 V Q a5 a6 a7 a8 P N dp dq M H G:Int)(h:ud s X W a2 V Q a5 a6 a7 a8 P N dp dq M H G=0):(1<=a2/\a2<=4)/\(1<=a5/\a5<=8)/\(1<=a6/\a6<=8)/\1<=a7/\a7<=8:=by
 have D:∃o,TB.Ev 75 [.r s,.i X,.i W,.i a2,.i V,.i Q,.i a5,.i a6,.i a7,.i a8,.i P,.i N,.i dp,.i dq,.i M,.i H,.i G] o/\∃e,o=.ret [.i e]/\(e=0->(1<=a2/\a2<=4)/\(1<=a5/\a5<=8)/\(1<=a6/\a6<=8)/\1<=a7/\a7<=8):=by
  refine dm rfl rfl (.inl rfl) ?_;simp[QB,ahf s F];intros;omega
 exact(su D).2 h
def Mq{x y m n:Int}(X:-m<=x/\x<=m)(W:-n<=y/\y<=n):-(m*n)<=x*y/\x*y<=m*n:=by
 have V:(x*y).natAbs<=(m*n).natAbs:=by rw[aK4,aK4];exact aKM (by omega) (by omega)
 have Q:0<=m*n:=Int.mul_nonneg (by omega) (by omega);omega
def Lm(d l:Int):Prop:=(d=0/\l=0)\/(0<=d/\d<=8/\1<=l/\l<=3)
structure lR(x y f d0 l0 d1 l1 d2 l2 d3 l3 d4 l4:Int):Prop where
 x:-1073741824<=x/\x<=1073741824
 y:-1073741824<=y/\y<=1073741824
 f:0<=f/\f<=7
 m0:Lm d0 l0
 m1:Lm d1 l1
 m2:Lm d2 l2
 m3:Lm d3 l3
 m4:Lm d4 l4
set_option maxHeartbeats 4000000 in
def mN (x y f X W V Q P N M H G F:Int):sw x y f X W V Q P N M H G F=0<->lR x y f X W V Q P N M H G F:=by
 have D:∃o,TB.Ev 74 [.i x,.i y,.i f,.i X,.i W,.i V,.i Q,.i P,.i N,.i M,.i H,.i G,.i F] o/\∃e,o=.ret [.i e]/\(e=0<->lR x y f X W V Q P N M H G F):=by
  refine dm rfl rfl (.inl rfl) ?_;have C:lR x y f X W V Q P N M H G F<->(-1073741824<=x/\x<=1073741824)/\(-1073741824<=y/\y<=1073741824)/\(0<=f/\f<=7)/\Lm X W/\Lm V Q/\Lm P N/\Lm M H/\Lm G F:=⟨λh=>⟨h.x,h.y,h.f,h.m0,h.m1,h.m2,h.m3,h.m4⟩,λh=>⟨h.1,h.2.1,h.2.2.1,h.2.2.2.1,h.2.2.2.2.1,h.2.2.2.2.2.1,h.2.2.2.2.2.2.1,h.2.2.2.2.2.2.2⟩⟩;rw[C];simp[QA,Lm]
  grind
 exact(su D).2
end
section
variable{R:bD->Prop}{a:aP}{t:T}{O:aa}{L:dN}
def rS(f:Nat->Int):Prop:=sw (f 0) (f 1) (f 2) (f 3) (f 4) (f 5) (f 6) (f 7) (f 8) (f 9) (f 10) (f 11) (f 12)=0
def Tc(k s j:Int):Prop:=(k=1/\j=s-1)\/(k=2/\(j=0\/j=1))\/(k=3/\j=s-1)\/(k=4/\j=s+1)\/(k=5/\j=4)\/(k=7/\(j=2\/j=3))\/(k=8/\(j=0\/j=1))\/(k=9/\j=s+1)
def Yz(k s:Int)(b:Bool)(X W V Q P N M H G F D C B A z y x w v u r q:Int):Prop:=(b=J\/k≠6->C=X)/\(b=J\/¬Tc k s 0->B=W/\A=V)/\(b=J\/¬Tc k s 1->z=Q/\y=P)/\(b=J\/¬Tc k s 2->x=N/\w=M)/\(b=J\/¬Tc k s 3->v=H/\u=G)/\(b=J\/¬Tc k s 4->r=F/\q=D)
def asO(k s:Int)(b:Bool)(A z y x w v u r q p n:Int)(o:bD):Prop:=∃C B X W V Q P N M H G F D e,o=.ret [.i C,.i B,.i X,.i W,.i V,.i Q,.i P,.i N,.i M,.i H,.i G,.i F,.i D,.i e]/\(e=0->sw C B X W V Q P N M H G F D=0/\Yz k s b A z y x w v u r q p n X W V Q P N M H G F D)
def asP(k s:Int)(b:Bool)(C B A z y x w v u r q p o X W V Q P N M H G F D e:Int):asO k s b C B A z y x w v u r q (.ret [.i p,.i o,.i X,.i W,.i V,.i Q,.i P,.i N,.i M,.i H,.i G,.i F,.i D,.i e])<->(e=0->sw p o X W V Q P N M H G F D=0/\Yz k s b C B A z y x w v u r q X W V Q P N M H G F D):=⟨λ⟨_,_,_,_,_,_,_,_,_,_,_,_,_,_,h,k⟩=>by cases h;exact k,λk=>⟨_,_,_,_,_,_,_,_,_,_,_,_,_,_,rfl,k⟩⟩
set_option maxHeartbeats 8000000 in
def asQ (B A W V Q P N M H G F D C:Int) (c:Nat->Int) (p q r:Int) (b:Bool):∃o,TB.Ev 227 ([.i B,.i A,.i W,.i V,.i Q,.i P,.i N,.i M,.i H,.i G,.i F,.i D,.i C]++bv c++[.i p,.i q,.i r,.b b]) o/\asO (c 4) (c 5) b W V Q P N M H G F D C o:=by
 refine dm rfl rfl (.inl rfl) ?_;by_cases X:c 4=1\/c 4=2\/c 4=3\/c 4=4\/c 4=5\/c 4=6\/c 4=7\/c 4=8\/c 4=9
 ·rcases X with h|h|h|h|h|h|h|h|h
  all_goals
   simp(config:={maxSteps:=10000000}) [oS,bv,h,asP,Yz,Tc]
   try
    (repeat'(first|intro _|split)
     all_goals
      have z:au .sub I (c 5) 1=c 5-1:=by simp only[au];exact bJ (by omega) (by omega)
      have y:au .add I (c 5) 1=c 5+1:=by simp only[au];exact bJ (by omega) (by omega)
      simp only[z,y] at*
      repeat'(first|intro _|apply And.intro|split)
      all_goals first|assumption|rfl|omega|(exfalso;omega)|(simp_all;done)|(simp_all;omega))
 ·simp only[not_or] at X;obtain⟨x,w,k3,v,u,s,n,m,l⟩:=X;simp(config:={maxSteps:=10000000}) [oS,bv,x,w,k3,v,u,s,n,m,l,asP]
  repeat'(first|intro _|split)
  all_goals first|assumption|omega
def Aft:Prop:=∀(W V Q P N M H G F D C B A:Int)(c:Nat->Int)(p q r:Int)(b:Bool),∃o,TB.Ev 227 ([.i W,.i V,.i Q,.i P,.i N,.i M,.i H,.i G,.i F,.i D,.i C,.i B,.i A]++bv c++[.i p,.i q,.i r,.b b]) o/\∃X,o=.ret X/\iP (kI 14) X=J
def aAP:Aft:=by
 intro X W V Q P N M H G F D C B c p q r b;obtain⟨o,h,_,_,_,_,_,_,_,_,_,_,_,_,_,_,rfl,_⟩:=asQ X W V Q P N M H G F D C B c p q r b;exact⟨_,h,_,rfl,rfl⟩
def iD(x:Nat->Int)(v:am)(i:Nat):Nat->Int:=xi (out 227 ([.i (x 0),.i (x 1),.i (x 2),.i (x 3),.i (x 4),.i (x 5),.i (x 6),.i (x 7),.i (x 8),.i (x 9),.i (x 10),.i (x 11),.i (x 12)]++bv (ba v i)++[.i (ba v i 14),.i (ba v i 15),.i (ba v i 16),.b (fG (cellAt v i 17).val)]))
def bK(x:Nat->Int)(v:am):Nat->Nat->Int
 |0=>x
 |k+1=>iD (bK x v k) v k
def ahg(x:Nat->Int)(v:am)(i:Nat):TB.Ev 227 ([.i (x 0),.i (x 1),.i (x 2),.i (x 3),.i (x 4),.i (x 5),.i (x 6),.i (x 7),.i (x 8),.i (x 9),.i (x 10),.i (x 11),.i (x 12)]++bv (ba v i)++[.i (ba v i 14),.i (ba v i 15),.i (ba v i 16),.b (fG (cellAt v i 17).val)]) (.ret [.i (iD x v i 0),.i (iD x v i 1),.i (iD x v i 2),.i (iD x v i 3),.i (iD x v i 4),.i (iD x v i 5),.i (iD x v i 6),.i (iD x v i 7),.i (iD x v i 8),.i (iD x v i 9),.i (iD x v i 10),.i (iD x v i 11),.i (iD x v i 12),.i (iD x v i 13)]):=by
 have h:=oU _ (aAP (x 0) (x 1) (x 2) (x 3) (x 4) (x 5) (x 6) (x 7) (x 8) (x 9) (x 10) (x 11) (x 12) (ba v i) (ba v i 14) (ba v i 15) (ba v i 16) (fG (cellAt v i 17).val));simp only[H3,H0,ss] at h;exact h
def QL(x:Nat->Int)(v:am)(i:Nat)(X:iD x v i 13=0):rS (iD x v i)/\Yz (ba v i 4) (ba v i 5) (fG (cellAt v i 17).val) (x 2) (x 3) (x 4) (x 5) (x 6) (x 7) (x 8) (x 9) (x 10) (x 11) (x 12) (iD x v i 2) (iD x v i 3) (iD x v i 4) (iD x v i 5) (iD x v i 6) (iD x v i 7) (iD x v i 8) (iD x v i 9) (iD x v i 10) (iD x v i 11) (iD x v i 12):=by
 obtain⟨o,W,V,Q,P,N,M,H,G,F,D,C,B,A,z,e,rfl,y⟩:=asQ (x 0) (x 1) (x 2) (x 3) (x 4) (x 5) (x 6) (x 7) (x 8) (x 9) (x 10) (x 11) (x 12) (ba v i) (ba v i 14) (ba v i 15) (ba v i 16) (fG (cellAt v i 17).val);have w:∀k,iD x v i k=xi [.i V,.i Q,.i P,.i N,.i M,.i H,.i G,.i F,.i D,.i C,.i B,.i A,.i z,.i e] k:=λk=>by simp only[iD,A6 W]
 simp only[rS,w] at X⊢;exact y X

variable[Inhabited dJ]


def ahh{v:RV}{X:T}{e:TypeId}{W Q P:bc}(V:Sl v)(M:Y v.rows<=536870912)(N:X=.gp (.c J) (.cmp .leq (.len (.v 0)) (.c 0)) (.bj (.cmp .leq (.len (.v 0)) (.c 536870912)) (.new e (.kz (.lit []) (.ref (.v 0))) W Q (.ret (.ref (.v 1)) [] P))) (.ret (.ref (.k (.slice Z 0 0))) [] W)):T.wp TB.Ev (· =.ret [.r (bT v.rows)]) X (fJ [] [.r v]) []:=by
 subst N;rw[HV];refine⟨.inl rfl,λ_=> ?_,λh=> ?_,λ_ h=> ?_⟩;simp[uF,V.len];omega
 all_goals
  have h:v.rows=[]:=by
   simp[V.len] at h;exact h
 simp[uF,h];exact single (abX _)
def e86(v:RV)(X:Sl v)(h:Y v.rows<=536870912):TB.Ev 86 [.r v] (.ret [.r (bT v.rows)]):=bW rfl rfl (.inl rfl) (ahh X h rfl)
def e87(v:RV)(X:Sl v)(h:Y v.rows<=536870912):TB.Ev 87 [.r v] (.ret [.r (bT v.rows)]):=bW rfl rfl (.inl rfl) (ahh X h rfl)
def e88(v:RV)(X:Sl v)(h:Y v.rows<=536870912):TB.Ev 88 [.r v] (.ret [.r (bT v.rows)]):=bW rfl rfl (.inl rfl) (ahh X h rfl)

def gl0:RV:=iG[0]?.getD default
def mO:RV:=iG[1]?.getD default
def gl2:RV:=iG[2]?.getD default
def aAV:iG=[gl0,mO,gl2]:=rfl
def asR:lenOf mO.val=10:=rfl
def gw(k:Int)(j:Nat):RV:=cz (.sl 3) (cellAt mO.rows k j)
def aAW{k s:Int}(Q:1<=k/\k<=9)(W:if k=1\/k=3\/k=4\/k=9 then 1<=s/\s<=2 else s=0):
  (lenOf (gw k 0).val=(gw k 0).rows.length/\(gw k 0).rows.length<=2/\∀i:Nat,i<(gw k 0).rows.length->0<=bB (cellAt (gw k 0).rows i 0).val/\bB (cellAt (gw k 0).rows i 0).val<=2/\1<=s/\s<=2)/\
  (lenOf (gw k 1).val=(gw k 1).rows.length/\(gw k 1).rows.length<=2/\∀i:Nat,i<(gw k 1).rows.length->0<=bB (cellAt (gw k 1).rows i 0).val/\bB (cellAt (gw k 1).rows i 0).val<=4):=by
 have:k=1\/k=2\/k=3\/k=4\/k=5\/k=6\/k=7\/k=8\/k=9:=by omega
 rcases this with rfl|rfl|rfl|rfl|rfl|rfl|rfl|rfl|rfl
 all_goals
  simp at W;refine⟨⟨rfl,by decide,λi X=> ?_⟩,rfl,by decide,λi X=> ?_⟩
  all_goals
   simp[gw,mO,iG,jJ,sV,iV,cellAt,cz,-qO] at X
   try
    have V:i=0\/i=1:=by omega
    rcases V with rfl|rfl
    all_goals simp[gw,mO,iG,jJ,sV,iV,cellAt,cz,bB,-qO] at X⊢
    all_goals(try omega)
end
section
variable{R:bD->Prop}{o:aP}{t:T}{O:aa}{L:dN}
variable[Inhabited dJ]
def QM(a b c d:Int):Prop:=aM a b c d=J/\a<b/\c<d
def Fg(a b c d:Int):Prop:=(-10000<=a/\a<0)/\(0<b/\b<=10000)/\(-10000<=c/\c<0)/\0<d/\d<=10000
def S6(p X:Int):Prop:=-10000<=p/\p<=X/\X<=10000
def Fg.jn1{X W V Q p P q N:Int}(h:Fg X W V Q)(a:S6 p P)(b:S6 q N):Fg (jn (aM X W V Q&&aM p P q N) (min X p)) (jn (aM X W V Q&&aM p P q N) (max W P)) (jn (aM X W V Q&&aM p P q N) (min V q)) (jn (aM X W V Q&&aM p P q N) (max Q N)):=by
 simp only[Fg,S6] at*;have e:(aM X W V Q&&aM p P q N)=true:=by simp[aM];omega
 rw[e];simp only[Y.jn,if_true];omega
def Fg.sh{X W V Q x y:Int}(h:Fg X W V Q)(e:f8 X W V Q x y=0):QM (jn (f8 X W V Q x y==0) (IntKind.i64.wrap (X+x))) (jn (f8 X W V Q x y==0) (IntKind.i64.wrap (W+x))) (jn (f8 X W V Q x y==0) (IntKind.i64.wrap (V+y))) (jn (f8 X W V Q x y==0) (IntKind.i64.wrap (Q+y))):=by
 have P:=e;unfold f8 at P;split at P;omega;split at P;omega;split at P;rename_i H N M;simp at N;simp only[Fg] at h;rw[e];simp only[Y.jn,beq_self_eq_true,if_true];refine⟨M, ?_, ?_⟩;rw[bJ (by omega) (by omega),bJ (by omega) (by omega)];omega;rw[bJ (by omega) (by omega),bJ (by omega) (by omega)];omega;omega
def QM.join{a b c d X W V Q:Int}(h:QM a b c d)(M:QM X W V Q):QM (jn (aM a b c d&&aM X W V Q) (min a X)) (jn (aM a b c d&&aM X W V Q) (max b W)) (jn (aM a b c d&&aM X W V Q) (min c V)) (jn (aM a b c d&&aM X W V Q) (max d Q)):=by
 obtain⟨P,H,G⟩:=h;obtain⟨N,F,D⟩:=M;rw[P,N];simp only[Y.jn,aJI,if_true];refine⟨?_,by omega,by omega⟩;simp[aM] at P N⊢;omega
def ahj{r:Int}(X:1<=r/\r<=8):S6 (au .sub I 0 (au .mul I 841 r)) (au .mul I 841 r):=by
 simp only[au,S6];rw[bJ (n:=841*r) (by omega) (by omega),bJ (by omega) (by omega)];omega
def YA{r v:Int}(W:1<=r/\r<=8)(X:V8 v):S6 (au .mul I r v) (au .mul I r v):=by
 have:=Mq (x:=r) (m:=8) (by omega) X;simp only[au,S6];rw[bJ (by omega) (by omega)];omega
def vX(d f l:Int):Int:=oi 139 [.i (oi 138 [.i d,.i f] 0),.i l] 0
def vY(d f l:Int):Int:=oi 139 [.i (oi 138 [.i d,.i f] 0),.i l] 1
def YB(d f l:Int):V8 (vX d f l):=(Mp _ _).1
def YC(d f l:Int):V8 (vY d f l):=(Mp _ _).2
def A8(X W V Q r d f l:Int):Prop:=(X<=r*vX d f l/\r*vX d f l<=W)/\V<=r*vY d f l/\r*vY d f l<=Q
def YD(X W V:Int)(j:Nat):Int:=if j/2=0 then X else if j/2=1 then W else if j/2=2 then V else 0
def asS(m tu:Bool)(d l f X W V:Int):Prop:=(m=E->X=d/\W=l)/\(tu=E->V=f)
structure yY(f0 f1 f2 f3 g:Int)(rc:Nat->Int)(F:Nat->Bool)(x:Nat->Int)(n:Nat):Prop where
 fg:Fg f0 f1 f2 f3
 g1:f0≤-(841*g)/\841*g<=f1
 g2:f2≤-(841*g)/\841*g<=f3
 lb:∀j<n,∀d' l' f',asS (F (1+j)) (F 0) (x (3+2*j)) (x (4+2*j)) (x 2) d' l' f'->l'≠0->A8 f0 f1 f2 f3 (rc j) d' f' l'
def aAX{k s:Int}(X:1<=k/\k<=9){j:Nat}(h:Tc k s j):(∃a<(gw k 0).rows.length,(j:Int)=bB (cellAt (gw k 0).rows (a:Int) 0).val+s-1)\/∃a<(gw k 1).rows.length,(j:Int)=bB (cellAt (gw k 1).rows (a:Int) 0).val:=by
 have:k=1\/k=2\/k=3\/k=4\/k=5\/k=6\/k=7\/k=8\/k=9:=by omega
 rcases this with rfl|rfl|rfl|rfl|rfl|rfl|rfl|rfl|rfl
 all_goals simp[Tc] at h
 exact .inl ⟨0,by decide,by simp[gw,mO,iG,jJ,sV,iV,cellAt,cz,bB,-qO];omega⟩;rcases h with h|h;exact .inr ⟨0,by decide,by simp[gw,mO,iG,jJ,sV,iV,cellAt,cz,bB,-qO];omega⟩;exact .inr ⟨1,by decide,by simp[gw,mO,iG,jJ,sV,iV,cellAt,cz,bB,-qO];omega⟩;exact .inl ⟨0,by decide,by simp[gw,mO,iG,jJ,sV,iV,cellAt,cz,bB,-qO];omega⟩;exact .inl ⟨0,by decide,by simp[gw,mO,iG,jJ,sV,iV,cellAt,cz,bB,-qO];omega⟩;exact .inr ⟨0,by decide,by simp[gw,mO,iG,jJ,sV,iV,cellAt,cz,bB,-qO];omega⟩;rcases h with h|h;exact .inr ⟨0,by decide,by simp[gw,mO,iG,jJ,sV,iV,cellAt,cz,bB,-qO];omega⟩;exact .inr ⟨1,by decide,by simp[gw,mO,iG,jJ,sV,iV,cellAt,cz,bB,-qO];omega⟩;rcases h with h|h;exact .inr ⟨0,by decide,by simp[gw,mO,iG,jJ,sV,iV,cellAt,cz,bB,-qO];omega⟩;exact .inr ⟨1,by decide,by simp[gw,mO,iG,jJ,sV,iV,cellAt,cz,bB,-qO];omega⟩;exact .inl ⟨0,by decide,by simp[gw,mO,iG,jJ,sV,iV,cellAt,cz,bB,-qO];omega⟩
def A8.mono{X W V Q P N M H r d f l:Int}(h:A8 X W V Q r d f l)(G:P<=X)(F:W<=N)(D:M<=V)(C:Q<=H):A8 P N M H r d f l:=by
 simp only[A8] at*;omega
def aAY{r d f l:Int}(X:1<=r/\r<=8):A8 (au .sub I 0 (au .mul I 841 r)) (au .mul I 841 r) (au .sub I 0 (au .mul I 841 r)) (au .mul I 841 r) r d f l:=by
 have a:=Mq (x:=r) (m:=r) (by omega) (YB d f l);have b:=Mq (x:=r) (m:=r) (by omega) (YC d f l);simp only[au,A8];rw[bJ (n:=841*r) (by omega) (by omega),bJ (by omega) (by omega)];omega
def aAZ{r d f l:Int}(X:1<=r/\r<=8):A8 (au .mul I r (vX d f l)) (au .mul I r (vX d f l)) (au .mul I r (vY d f l)) (au .mul I r (vY d f l)) r d f l:=by
 have a:=Mq (x:=r) (m:=8) (by omega) (YB d f l);have b:=Mq (x:=r) (m:=8) (by omega) (YC d f l);simp only[au,A8];rw[bJ (n:=r*vX d f l) (by omega) (by omega),bJ (n:=r*vY d f l) (by omega) (by omega)];omega
def yY.join{Q P N M g p X q W:Int}{C:Nat->Int}{F:Nat->Bool}{x:Nat->Int}(h:yY Q P N M g C F x V)(a:S6 p X)(b:S6 q W)(z:∀G H D,asS (F (1+V)) (F 0) (x (3+2*V)) (x (4+2*V)) (x 2) G H D->H≠0->A8 p X q W (C V) G D H):
  yY (jn (aM Q P N M&&aM p X q W) (min Q p)) (jn (aM Q P N M&&aM p X q W) (max P X)) (jn (aM Q P N M&&aM p X q W) (min N q)) (jn (aM Q P N M&&aM p X q W) (max M W)) g C F x (V+1):=by
 have B:=h.fg.jn1 a b;have v:=h.g1;have u:=h.g2;have y:=h.fg;have e:(aM Q P N M&&aM p X q W)=true:=by simp only[Fg,S6] at y a b;simp[aM];omega
 rw[e] at B⊢;simp only[Y.jn,if_true] at B⊢;refine⟨B,by omega,by omega,λj s G H D k A=> ?_⟩;by_cases w:j=V;subst w;exact(z G H D k A).mono (by omega) (by omega) (by omega) (by omega);exact(h.lb j (by omega) G H D k A).mono (by omega) (by omega) (by omega) (by omega)
def yY.skip{X W Q P g:Int}{N:Nat->Int}{F:Nat->Bool}{x:Nat->Int}(h:yY X W Q P g N F x V)(H:F (1+V)=E)(G:x (4+2*V)=0):yY X W Q P g N F x (V+1):=by
 refine⟨h.fg,h.g1,h.g2,λj z D C B k M=> ?_⟩;by_cases A:j=V;subst A;exact(M ((k.1 H).2.trans G)).elim;exact h.lb j (by omega) D C B k M
def yY.any{X W Q P g r d l:Int}{M:Nat->Int}{F:Nat->Bool}{x:Nat->Int}(h:yY X W Q P g M F x V)(N:1<=r/\r<=8)(e:M V=r)(H:x (3+2*V)=d)(G:x (4+2*V)=l){b q:Bool}(D:F (1+V)=b)(C:F 0=q){s t u v w:Int}(B:au .sub I 0 (au .mul I 841 r)=s)(A:au .mul I 841 r=t)(y:x 2=u)(p:au .mul I r (oi 139 [.i (oi 138 [.i d,.i u] 0),.i l] 0)=v)(o:au .mul I r (oi 139 [.i (oi 138 [.i d,.i u] 0),.i l] 1)=w){m:Nat}(j:V+1=m):
  (¬b=J->l=0->yY X W Q P g M F x m)/\yY (jn (aM X W Q P&&aM s t s t) (min X s)) (jn (aM X W Q P&&aM s t s t) (max W t)) (jn (aM X W Q P&&aM s t s t) (min Q s)) (jn (aM X W Q P&&aM s t s t) (max P t)) g M F x m/\
  (¬b=J->¬q=J->yY (jn (aM X W Q P&&aM v v w w) (min X v)) (jn (aM X W Q P&&aM v v w w) (max W v)) (jn (aM X W Q P&&aM v v w w) (min Q w)) (jn (aM X W Q P&&aM v v w w) (max P w)) g M F x m):=by
 subst H G D C B A y p o j;refine⟨λm z=>h.skip (aKK.2 m) z,h.join (ahj N) (ahj N) (λ_ _ _ _ _=>by rw[e];exact aAY N),λm t=>h.join (YA N (YB _ _ _)) (YA N (YC _ _ _)) λf c a k _=> ?_⟩;rw[e,(k.1 (aKK.2 m)).1,(k.1 (aKK.2 m)).2,k.2 (aKK.2 t)];exact aAZ N
def Fg.QN{X W V Q x y:Int}(h:Fg X W V Q)(e:f8 X W V Q x y=0):jn (f8 X W V Q x y==0) (IntKind.i64.wrap (X+x))=X+x/\jn (f8 X W V Q x y==0) (IntKind.i64.wrap (W+x))=W+x/\jn (f8 X W V Q x y==0) (IntKind.i64.wrap (V+y))=V+y/\jn (f8 X W V Q x y==0) (IntKind.i64.wrap (Q+y))=Q+y:=by
 have P:=e;unfold f8 at P;split at P;omega;split at P;omega;rename_i M N;simp at N;simp only[Fg] at h;rw[e];simp only[Y.jn,beq_self_eq_true,if_true];refine⟨bJ (by omega) (by omega),bJ (by omega) (by omega),bJ (by omega) (by omega),bJ (by omega) (by omega)⟩
end
