/- Part 4 of the proof; the last part says what is shown. -/
import Derived.Test.YtieaiocljdpebaaGreatDoorQ3
set_option linter.all false
open Bool renaming and_eq_true->aDc,false_eq_true->aDB,or_eq_true->aDE,and_self->aEB,eq_false_iff->aEE,true_or->aGL,true->J,false->E
open List renaming getElem?_eq_getElem->aDe,getD_eq_getElem?_getD->aDf,getElem?_append_left->aDg,cons_append->aDi,getElem?_map->aDj,getElem?_append_right->aDk,nil_append->aDl,mem_append->aDo,mem_cons->aDp,all_eq_true->aDr,length_append->aDs,map_cons->aDt,mem_of_getElem?->aDx,pairwise_cons->aDz,range->aDA,mem_map->aDF,pairwise_append->aDH,length_eq_zero_iff->aDT,length_map->aDV,getElem_mem->aD3,length_cons->aD4,append_assoc->aD5,mem_range->aEd,nodup_append->aEi,take_of_length_le->aEp,foldl_cons->aEG,map_nil->aEK,find?_cons->aEN,append_nil->aEO,pairwise_iff_getElem->aET,map->aEZ,length_singleton->aE1,map_append->aE3,nodup_cons->aE5,pairwise_map->aFq,length_erase_of_mem->aFE,ne_nil_of_mem->aFF,take_add_one->aFJ,length_range->aFK,mem_erase_of_ne->aFV,pairwise_singleton->aGm,length_pos_of_mem->aGu,filter_append->aGV,length->Y
open Nat renaming le_refl->aDm,le_trans->aDY,zero_le->aD0,le_of_not_lt->aEr,eq_zero_or_pos->aEu,le_antisymm->aEz,lt_succ_self->aFb,mod_lt->aFH,mul_le_mul->aF2,succ_le_succ->aGk,gcd_comm->aGU,gcd->aGY
open Option renaming some->U,none->Z
open List.Pairwise renaming nil->aD6
open Int renaming toNat_natCast->aEa,natAbs_tmod->aFX,natAbs_mul->aF4,fdiv_eq_ediv_of_nonneg->aGa,le_refl->aGw
open List.cons renaming injEq->aEg
open List.Perm renaming refl->aF3,swap->aG1
open Go.IntKind renaming i64->I
namespace Go.Proofs.YtieaiocljdpebaaGreatDoor.Y
open Go.RowKit
noncomputable section
variable{X:Nat}{Q:Int}{W:am}{V:Nat→Bool}
section
set_option maxRecDepth 100000
variable(a b c:Nat)(d e f g h i:IE)(j k l m:T)(n o p q r s:BE)(t u v w x y:SV)(z A:aE)(B C:ai)(D P:RE)(F:aR)(G H:LE)(N:RK)(O:BinOp)(K:Int)(L:tW)(M:be)
abbrev bZ:=IE.v 0
abbrev cz:=IE.v 1
abbrev ez:=IE.v 2
abbrev fW:=T.ret t [] z
abbrev kh:=fW t []
abbrev Nk:=kh (.bool n)
abbrev jp:=BE.cmp .leq d e
abbrev Nl:=Nk (jp bZ ez)
abbrev eW:=BE.c E
abbrev i7:=SV.bool eW
abbrev p7:=fW i7 z
abbrev nU:=p7 []
abbrev dZ:=IE.v 4
abbrev aU:=SV.int I d
abbrev mg:=aU dZ
abbrev cn:=IE.c 1
abbrev dq:=aU cn
abbrev xT:=IE.c 9
abbrev R7:=aU xT
abbrev R8:=RK.sl 245
abbrev R9:=RK.sl 259
abbrev dF:=RK.sl 142
abbrev lu:aE:=[R8,R9,dF]
abbrev BV:=BE.v 0
abbrev nV:=SV.bool BV
abbrev nW:=BE.not BV
abbrev oD:=p7 lu
abbrev iS:=aU cz
abbrev aZ:=IE.c 0
abbrev aJ:=aU aZ
abbrev gZ:=IE.v 14
abbrev sD:=BE.v 1
abbrev p8:=SV.bool sD
abbrev vS:=BE.not sD
abbrev gg:=aU ez
abbrev fM:=IE.v 15
abbrev zT:=BE.v 2
abbrev pj:=SV.bool zT
abbrev Gf:=BE.not zT
abbrev gh:=IE.v 3
abbrev i8:=aU gh
abbrev nX:=IE.c 3
abbrev mS:=aU nX
abbrev zU:=BE.v 3
abbrev vT:=SV.bool zU
abbrev zV:=BE.not zU
abbrev ga:=jp aZ d
abbrev Nn:=ga dZ
abbrev ij:=RE.v 0
abbrev iJ:=IE.len ij
abbrev i9:=IE.v 5
abbrev lL:=aU i9
abbrev mh:=IE.c 2
abbrev ki:=aU mh
abbrev jL:=SV.bool (.v a)
abbrev uu:=jL 4
abbrev sG:=BE.not (.v a)
abbrev BW:=sG 4
abbrev iC:=IE.v 6
abbrev eh:=aU iC
abbrev mL:=IE.c 8
abbrev Dw:=aU mL
abbrev xU:=jL 5
abbrev Dx:=sG 5
abbrev jq:=IE.v 7
abbrev eX:=aU jq
abbrev xV:=jL 6
abbrev Gg:=sG 6
abbrev fO:=IE.v 8
abbrev gE:=aU fO
abbrev Dy:=jL 7
abbrev Jn:=sG 7
abbrev em:=IE.v 9
abbrev ik:=aU em
abbrev jW:=aU gZ
abbrev ja:=IE.v 10
abbrev fY:=aU ja
abbrev gN:=IE.v 11
abbrev gu:=aU gN
abbrev aQ:=LK.int I
abbrev lw:aR:=[aQ,aQ]
abbrev im:=IE.v 16
abbrev jb:=aU im
abbrev gc:=IE.v 17
abbrev jr:=aU gc
abbrev rh:=BE.cmp .neq d e
abbrev ec:=rh d aZ
abbrev Dz:=ec gc
abbrev ee:=IE.v 12
abbrev jt:=IE.v 13
abbrev dG:=aU ee
abbrev jX:=aU jt
abbrev ge:=IE.v 18
abbrev mi:=aU ge
abbrev jY:=IE.v 19
abbrev jM:=aU jY
abbrev No:=ec jY
abbrev gF:=IE.v 20
abbrev kN:=aU gF
abbrev nY:=IE.v 21
abbrev p9:=aU nY
abbrev Sa:=ec nY
abbrev iK:=BE.c J
abbrev iT:=SV.bool iK
abbrev jc:=T.call a B [] z F t j
abbrev kj:=SV.bK [t,u]
abbrev eA:=jc a j (kj t u) z B F
abbrev mM:=SV.agg [t,u]
abbrev bQ:=T.node n j (.node o k l)
abbrev nZ:=BE.cmp .gtr d e
abbrev pl:=bQ j k l n (nZ d e)
abbrev sH:=T.node n (.node o j k) l
abbrev DA:=sH (.node p j k) l m n o
abbrev eo:=BE.cmp .eql d e
abbrev cV:=eo d aZ
abbrev Jo:=BE.and (eo d e) (eo f g)
abbrev xW:=fW iT z
abbrev aau:=eA 142 (pl gF aZ oD oD (DA oD (xW lu) (xW lu) (xW lu) (cV gF) (Jo ee ja jt gN) (Jo cn ee cn jt)) Sa) kN p9 lu [mM dG jX,mM dq dq] lw
abbrev aav:=eA 142 (pl ge aZ oD oD (DA oD aau aau aau (cV ge) (Jo ja ja gN gN) (Jo ee ee jt jt)) No) mi jM lu [mM fY gu,mM dG jX] lw
abbrev b9:=BE.cmp .lss d e
abbrev jd:=b9 d iJ
abbrev aaw:=jd cz
abbrev Sc:=ga cz
abbrev aax:=BE.and Sc aaw
abbrev jN:=IE.cell D d 0
abbrev aay:=jN cz ij
abbrev rj:=RK.sl 3
abbrev pm:=T.back a [t]
abbrev xX:=IE.bin O I d e
abbrev xY:=aU (xX d e O)
abbrev oE:=xY d e .add
abbrev fu:=oE d cn
abbrev aaz:=pm 0 (fu cz)
abbrev aaA:=b9 bZ aZ
abbrev jZ:=aU (.c K)
abbrev Jp:=jZ 150
abbrev n7:=fW (kj t u) z
abbrev sI:=n7 t u []
abbrev Sd:=sI aJ Jp
abbrev aaB:=nZ bZ mL
abbrev aaC:=b9 cz aZ
abbrev zW:=IE.c 7
abbrev uv:=xX d e .add
abbrev aaD:=uv bZ cz
abbrev mT:=SV.agg [t,u,v]
abbrev Se:=n7 (mT aJ aJ aJ) Jp lu
abbrev qc:=IE.c 841
abbrev qe:=xX d e .sub
abbrev Np:=qe cz mh
abbrev vU:=qe d cn
abbrev DB:=vU bZ
abbrev ep:=BE.and n (b9 d e)
abbrev aaE:=ep DB mL (ga DB)
abbrev rk:=RE.v 2
abbrev Sg:=IE.len rk
abbrev aaF:=ep DB Sg (ga DB)
abbrev zX:=IE.c 29
abbrev Nq:=jN DB rk
abbrev oF:=IE.cell D d 1
abbrev Nr:=oF DB rk
abbrev j5:=xY d e .mul
abbrev Si:=j5 (.c 609) Np
abbrev uw:=SV.bK [t,u,v]
abbrev ako:=fW (uw aJ aJ Jp) lu
abbrev ju:=aU bZ
abbrev Sj:=ec i9
abbrev Ns:=kh (jZ 120)
abbrev Gh:=IE.c 1073741824
abbrev Sk:=IE.c (-1073741824)
abbrev Nt:=LK.int .u64
abbrev rm:=kh aJ
abbrev Sm:=ec gh
abbrev aaG:=uw aJ aJ dq
abbrev iU:=IE.mm J d e
abbrev akp:=IE.bin .rem .u64 gh (iU dZ cn)
abbrev Jq:=IE.c (-1)
abbrev Gi:=aU Jq
abbrev Jr:=kh dq
abbrev Nu:=IE.c (-1099511627776)
abbrev Nv:=IE.c 1099511627776
abbrev fh:=SV.agg [t,u,v,w]
abbrev BX:=fh ju iS gg i8
abbrev rp:=fh aJ aJ aJ aJ
abbrev aaH:=sI rp Jp
abbrev Sn:=fh mg lL eh eX
abbrev mU:aR:=[aQ,aQ,aQ,aQ,aQ]
abbrev Nw:=cV fO
abbrev akq:=IE.c (-2199023255552)
abbrev Js:=sI rp ki
abbrev akr:=fh (oE bZ dZ) (oE cz dZ) (oE ez i9) (oE gh i9)
abbrev DC:=IE.c (-1048576)
abbrev vV:=sI aJ ki
abbrev rq:=IE.c 1048576
abbrev DD:aR:=[aQ,aQ,aQ,aQ]
abbrev aks:=BE.and (cV i9) (cV iC)
abbrev Sq:=cV em
abbrev DE:=cV ja
abbrev DF:=IE.c 4
abbrev Nx:=mT i8 mg lL
abbrev aaI:=kj Nx eh
abbrev akt:=T.node (cV cz) (jc 139 (kh Nx) aaI [] [ju,dq] DD) (jc 139 (kh Nx) aaI [] [ju,iS] DD)
abbrev aku:=IE.conv I d
abbrev Ny:=IE.conv .u64 d
abbrev Gj:=aku (.bin .shr .u64 (Ny (uv ez gh)) cn)
abbrev Gk:=vU ez
abbrev aG:=RK.sl 175
abbrev aK:=RK.sl 312
abbrev aL:=RK.sl 314
abbrev pn:aE:=[aG,aK,aL]
abbrev Jt:=SV.ref ij
abbrev rr:=RE.v 1
abbrev Gl:=SV.ref rr
abbrev Sr:=SV.ref rk
abbrev Ju:=fh ju Jt Gl Sr
abbrev Gm:aR:=[aQ,aQ,aQ]
abbrev jO:=aU fM
abbrev jw:=SV.ref (.v a)
abbrev Jv:=jw 3
abbrev xZ:=RE.v 4
abbrev Nz:=SV.ref xZ
abbrev eB:=SV.agg [ju,iS,gg,i8,mg,Jt,lL,Gl,Sr,Jv,Nz]
abbrev aI:=RK.sl 173
abbrev av:=RK.sl 90
abbrev gG:aE:=[aI,aG,aK,aL,av]
abbrev Ss:=cV jq
abbrev zY:=xY d e .sub
abbrev aaJ:=zY i9 cn
abbrev bv:=RK.sl 73
abbrev aY:=RK.sl 79
abbrev ah:=RK.sl 71
abbrev ar:=RK.sl 82
abbrev aaK:aE:=[aI,aG,aK,aL,av,bv,aY,ah,ar]
abbrev DG:=p7 aaK
abbrev NA:=IE.c 64
abbrev sJ:=IE.len xZ
abbrev DH:=IE.c 4096
abbrev mj:=RE.v 5
abbrev n8:=IE.len mj
abbrev km:=RE.v 6
abbrev oG:=IE.len km
abbrev NB:=IE.c 100
abbrev mV:=RE.v 7
abbrev n9:=IE.len mV
abbrev mW:=RE.v 8
abbrev lx:=IE.len mW
abbrev aaL:=b9 iC lx
abbrev NC:=ga iC
abbrev bu:=RK.sl 96
abbrev iL:=T.loop a F B (.node n j k)
abbrev vW:=iL a j (fW t z) n B F
abbrev ND:=vW a j n t z [aJ] [aQ]
abbrev NE:=ND a j n iT z
abbrev bY:=T.aV n (.aV o j)
abbrev qf:=bY j (.and n o) (.and p q)
abbrev ya:=T.node (.cmp .gtr d e) j k
abbrev DJ:=T.back 0 B
abbrev akv:=pl oG NB DG DG (pl lx NB DG DG (NE 0 (qf (ya (.len (.cell mW iC 0 bu)) NB DG (DJ [fu iC])) NC aaL NC aaL) aaL aaK) (nZ n9 NB)) (nZ n8 (.c 20))
abbrev mX:=T.node (.cmp .leq d e) j k
abbrev akw:=ya sJ (.c 40) (mX sJ DH DG akv) akv
abbrev NF:=p7 gG
abbrev vZ:=IE.len rr
abbrev aaM:=fW (.bool n) z
abbrev akx:=ya i9 DH (aaM (jp sJ (.c 80)) gG) NF
abbrev aky:=T.node (nZ sJ DH) (mX sJ (.c 5000) (xW gG) akx) akx
abbrev mN:=SV.ref mj
abbrev NG:=SV.agg [mN]
abbrev kn:=SV.ref km
abbrev mY:=SV.ref mV
abbrev oa:=SV.ref mW
abbrev sK:=RE.v 9
abbrev uy:=SV.ref sK
abbrev v6:=RE.v 10
abbrev oH:=SV.ref v6
abbrev ml:=RE.v 11
abbrev DK:=SV.ref ml
abbrev DL:=SV.agg [t,u,v,w,x,y]
abbrev NH:=DL eh mY oa uy oH DK
abbrev akz:ai:=[eB,NG,kn,NH]
abbrev ao:=RK.sl 4
abbrev aw:=RK.sl 65
abbrev uz:aE:=[aI,aG,aK,aL,av,bv,aY,ao,ah,ah,ar,aw]
abbrev eS:=RK.sl 98
abbrev yb:aR:=[.ref N,aQ]
abbrev St:=yb eS
abbrev Jw:=RE.v 12
abbrev uA:=SV.ref Jw
abbrev v7:=IE.len Jw
abbrev akA:aE:=[aI,aG,aK,aL,av,bv,aY,ao,ah,ah,ar,aw,eS]
abbrev Su:=jd bZ
abbrev Jx:=BE.and (ga bZ) Su
abbrev akB:=BE.and (ga bZ) (b9 bZ vZ)
abbrev Sv:=jN bZ ij
abbrev avg:=eo Sv (jN bZ rr)
abbrev avh:=pm 0 (fu bZ)
abbrev Gn:=fh lL Gl Sr Jv
abbrev BY:=IE.c 1000
abbrev v8:=fW (jZ 190) gG
abbrev wa:=ec jq
abbrev Sw:=jd fO
abbrev zZ:=ga fO
abbrev NI:=aU zW
abbrev yc:=uv d cn
abbrev Sx:=aU (yc fO)
abbrev DM:=pm 0 Sx
abbrev aaN:=b9 em sJ
abbrev BZ:=ga em
abbrev Sy:=BE.and BZ aaN
abbrev Sz:=jN em xZ
abbrev da:=aU (.cell D d a)
abbrev uB:=da a em xZ
abbrev akC:ai:=[aU Sz,uB 1,uB 2,uB 3,uB 4,uB 5,uB 6,uB 7,uB 8,uB 9,uB 10,uB 11,uB 12,uB 13]
abbrev B3:=fu em
abbrev SA:=jp iJ aZ
abbrev iM:=jp d (.c 536870912)
abbrev NJ:=iM iJ
abbrev SB:=LE.lit []
abbrev SC:=LE.iG SB (.ref ij)
abbrev z6:=RK.own 4
abbrev aaO:=RE.k (.slice Z 0 0)
abbrev fw:=SV.ref aaO
abbrev eD:=RK.own 71
abbrev uC:=RK.own 96
abbrev mo:=BE.and (ga d) n
abbrev akD:=mo nY (b9 nY sJ)
abbrev Gp:=oF nY xZ
abbrev akE:=ep Gp n8 (ga Gp)
abbrev akF:=ep Gp lx (ga Gp)
abbrev aaP:aE:=[aI,aG,aK,aL,av,ao,ah,ah,ar,aw]
abbrev DN:=pm 0 (fu nY)
abbrev cL:=RK.own 65
abbrev SD:=LK.ref cL
abbrev SE:ai:=[aJ,fw]
abbrev B4:=IE.cell ij d a
abbrev akG:=aU (B4 10 bZ)
abbrev akH:=aU (B4 11 bZ)
abbrev akI:=aU (B4 12 bZ)
abbrev kO:aE:=[.str]
abbrev SF:=p7 kO
abbrev wb:=IE.c 5
abbrev akJ:=ec fO
abbrev ye:=RK.own 90
abbrev aaQ:=LE.ref mj
abbrev akK:aE:=[aI,aG,aK,aL,av,ye]
abbrev aaR:=kj kn aJ
abbrev aaS:ai:=[jb,dq,mS]
abbrev yf:=jc a j t z B [.bool]
abbrev io:=yf a (.node n j k) t z B
abbrev akL:=io 284 (yf 284 (kh pj) pj [] aaS) nU sD p8 [] [jO,aJ,Dw]
abbrev SH:=cV fM
abbrev mq:=T.node n (fW t z) j
abbrev akM:=mq nU SH (.bool (cV im)) []
abbrev yg:=yf a j p8 z B
abbrev aaT:=DA (yg 284 (kh p8) [] aaS) nU akM akM nW (eo dZ xT) SH
abbrev akN:=bQ nU akL aaT (rh gZ bZ) nW
abbrev SI:=aU wb
abbrev z7:=aU DF
abbrev wc:=eo d (.c K)
abbrev mu:=bQ j k (.node p l m) n o
abbrev gj:=jc a j t z B [aQ]
abbrev yi:=T.node (.cmp .geq d e) j k
abbrev akO:=bQ (kh SI) Jr (mu Jr Jr Jr (gj 272 (yi cz aZ (kh z7) rm) iS [] [.ref (.k (.string ⟨#[123,125,40,41,59,44,61,58,46,60,62,33,43,45,42,47]⟩)),.int .u8 bZ]) (eo bZ xT) (wc bZ 10) (wc bZ 13)) (wc bZ 95) (wc bZ 32)
abbrev akP:=yi bZ (.c 48) (mX bZ (.c 57) (kh mS) akO) akO
abbrev akQ:=yi bZ (.c 65) (mX bZ (.c 90) (kh ki) akP) akP
abbrev DO:=sI rp (jZ 290)
abbrev ly:=IE.mm E d e
abbrev akR:=iU aZ (qe (ly fO (yc i9)) dZ)
abbrev NK:=ec jt
abbrev akS:=iU aZ (qe (ly (yc fO) (yc i9)) dZ)
abbrev cX:=aU (.v a)
abbrev yj:=cX 22
abbrev yk:=IE.v 23
abbrev sL:=aU yk
abbrev akT:=kj (fh jM kN p9 yj) sL
abbrev aaU:=kj fw i7
abbrev SJ:=be.lex [0] E
abbrev NL:=RK.own 258
abbrev B5:aR:=[aQ,.ref N]
abbrev DP:=B5 NL
abbrev z8:=IE.len (.v a)
abbrev aaV:=b9 cz (z8 3)
abbrev SK:=ep cz vZ Sc
abbrev eY:=T.back a [t,u]
abbrev akU:=eY 1 (fu cz) mN
abbrev we:=RK.sl 258
abbrev aaW:=T.stuck ""
abbrev aaX:=SV.agg [ju,iS,gg,i8,mg,lL,eh,eX,gE,ik,fY,gu,dG]
abbrev SL:=IE.v 29
abbrev ru:=aU SL
abbrev akV:=IE.v 24
abbrev Aa:=aU akV
abbrev uD:=IE.v 25
abbrev wi:=aU uD
abbrev SM:=IE.v 26
abbrev yo:=aU SM
abbrev jx:=IE.v 27
abbrev Ac:=aU jx
abbrev uE:=IE.v 28
abbrev rz:=aU uE
abbrev SN:=IE.v 30
abbrev uF:=aU SN
abbrev SO:=ec SN
abbrev Ad:=cV ee
abbrev jy:=xX d e .mul
abbrev aaY:=jy zX bZ
abbrev SP:=jy qc fM
abbrev SQ:=qe aaY SP
abbrev SR:=uv aaY SP
abbrev aaZ:=jy zX cz
abbrev SS:=qe aaZ SP
abbrev SU:=uv aaZ SP
abbrev B6:ai:=[gu,gg]
abbrev SX:=IE.v 31
abbrev uG:=aU SX
abbrev NM:=cX 32
abbrev Gq:=kj uG NM
abbrev DQ:=IE.v 33
abbrev Gr:=aU DQ
abbrev B7:=IE.v 34
abbrev DR:=aU B7
abbrev DS:=IE.v 35
abbrev Jy:=aU DS
abbrev rA:=IE.v 36
abbrev Gs:=aU rA
abbrev NN:=kj (mT Gr DR Jy) Gs
abbrev Jz:ai:=[ik,gg]
abbrev po:=uv aaY (jy d e)
abbrev SY:=ly SQ (po jY DQ)
abbrev SZ:=iU SR (po jY DQ)
abbrev pu:=uv aaZ (jy d e)
abbrev S2:=ly SS (pu jY B7)
abbrev S3:=iU SU (pu jY B7)
abbrev qg:=IE.v 37
abbrev sN:=aU qg
abbrev oI:=IE.v 38
abbrev Gt:=aU oI
abbrev JA:=kj sN Gt
abbrev kP:=IE.v 39
abbrev DT:=aU kP
abbrev mw:=IE.v 40
abbrev DU:=aU mw
abbrev wj:=IE.v 41
abbrev JB:=aU wj
abbrev B8:=IE.v 42
abbrev DV:=aU B8
abbrev JC:=kj (mT DT DU JB) DV
abbrev S4:=po gF kP
abbrev S5:=pu gF mw
abbrev kQ:=T.node n (n7 t u z) j
abbrev DW:=kQ j n (fh (aU d) (aU e) (aU f) (aU g)) aJ z
abbrev Gu:=jc a j v kO [t,u] F
abbrev Gv:=Gu 139 j t u v DD
abbrev sO:=jc 138 (Gv j u v w) t kO B lw
abbrev mZ:=n7 t aJ z
abbrev Gw:=aU (ly d e)
abbrev sP:=aU (iU d e)
abbrev B9:=mZ (fh (Gw d e) (sP f g) (Gw h i) t) kO
abbrev akW:=DW SY SZ S2 S3 (sO (B9 SY S4 SZ S4 S2 S5 (sP S3 S5)) JA sN dG JC B6) Ad kO
abbrev JD:=po jY kP
abbrev JE:=pu jY mw
abbrev sQ:=cX 43
abbrev NO:=IE.v 44
abbrev Gx:=aU NO
abbrev JF:=kj sQ Gx
abbrev DX:=IE.v 45
abbrev Gy:=aU DX
abbrev DY:=IE.v 46
abbrev Ca:=aU DY
abbrev JG:=IE.v 47
abbrev DZ:=aU JG
abbrev Gz:=IE.v 48
abbrev GA:=aU Gz
abbrev GB:=kj (mT Gy Ca DZ) GA
abbrev JH:=po gF DX
abbrev JI:=pu gF DY
abbrev S7:=ly SQ (po ge DQ)
abbrev S8:=iU SR (po ge DQ)
abbrev S9:=ly SS (pu ge B7)
abbrev Ta:=iU SU (pu ge B7)
abbrev Tb:=ly S7 JD
abbrev Td:=iU S8 JD
abbrev Te:=ly S9 JE
abbrev Tf:=iU Ta JE
abbrev akX:=DW Tb Td Te Tf (sO (B9 Tb JH Td JH Te JI (sP Tf JI)) JF sQ dG GB B6) Ad kO
abbrev JJ:=po jY DX
abbrev JK:=pu jY DY
abbrev D0:=IE.v 49
abbrev yp:=aU D0
abbrev JL:=IE.v 50
abbrev yq:=aU JL
abbrev Tg:=kj yp yq
abbrev D3:=IE.v 51
abbrev Ae:=aU D3
abbrev JM:=IE.v 52
abbrev uH:=aU JM
abbrev uI:=cX 53
abbrev sT:=cX 54
abbrev aa0:=kj (mT Ae uH uI) sT
abbrev Th:=po gF D3
abbrev Ti:=pu gF JM
abbrev akY:=sH (DW S7 S8 S9 Ta (sO (B9 S7 S4 S8 S4 S9 S5 (sP Ta S5)) JA sN dG JC B6) Ad kO) (sO akX JA sN fY JC Jz) (Gu 138 (Gv (.node DE akX (sO (DW (ly Tb JJ) (iU Td JJ) (ly Te JK) (iU Tf JK) (sO (B9 (ly Tb JJ) Th (iU Td JJ) Th (ly Te JK) Ti (sP (iU Tf JK) Ti)) Tg yp dG aa0 B6) Ad kO) JF sQ fY GB Jz)) sN gE JC) eX gg JA lw) Nw DE
abbrev aa1:=ly S7 (po ge kP)
abbrev aa2:=iU S8 (po ge kP)
abbrev aa3:=ly S9 (pu ge mw)
abbrev aa4:=iU Ta (pu ge mw)
abbrev aa5:=ly aa1 JJ
abbrev aa6:=iU aa2 JJ
abbrev aa7:=ly aa3 JK
abbrev aa8:=iU aa4 JK
abbrev akZ:=DW aa5 aa6 aa7 aa8 (sO (B9 aa5 Th aa6 Th aa7 Ti (sP aa8 Ti)) Tg yp dG aa0 B6) Ad kO
abbrev ak0:=ly aa5 (po jY D3)
abbrev ak1:=iU aa6 (po jY D3)
abbrev ak2:=ly aa7 (pu jY JM)
abbrev ak3:=iU aa8 (pu jY JM)
abbrev sU:=cX 55
abbrev GC:=IE.v 56
abbrev yt:=aU GC
abbrev yu:=cX 57
abbrev yv:=cX 58
abbrev yw:=cX 59
abbrev yz:=cX 60
abbrev JN:=kh (jZ 260)
abbrev Tj:=BE.not (.and n o)
abbrev aa9:=Tj Ss Nw
abbrev aba:ai:=[eX,aJ,Dw]
abbrev abb:ai:=[gE,dq,mS]
abbrev Tk:=Tj Sq DE
abbrev Tl:ai:=[ik,aJ,Dw]
abbrev Tm:ai:=[fY,dq,mS]
abbrev NP:=Tj (cV gN) Ad
abbrev NQ:ai:=[gu,aJ,Dw]
abbrev NR:ai:=[dG,dq,mS]
abbrev JO:=io 134 JN j n t [] B
abbrev wl:=JO (JO j o u C) n t B
abbrev ak4:=T.node NP (wl rm (sG 9) (sG 10) (jL 9) (jL 10) NQ NR) rm
abbrev ak5:=T.node NP (wl rm Jn (sG 8) Dy (jL 8) NQ NR) rm
abbrev ak6:=T.node Tk (wl ak4 Jn (sG 8) Dy (jL 8) Tl Tm) ak5
abbrev ak7:=T.node NP (wl rm Dx Gg xU xV NQ NR) rm
abbrev ak8:=T.node Tk (wl ak5 Dx Gg xU xV Tl Tm) ak7
abbrev ak9:=T.node aa9 (wl ak6 Dx Gg xU xV aba abb) ak8
abbrev JP:=iU fO (qe aZ fO)
abbrev JQ:=kh (jZ 140)
abbrev sW:=fW (jZ 250) kO
abbrev ta:=T.aV iK j
abbrev m5:=ta sW
abbrev JR:ai:=[eB,eh]
abbrev Tn:=kj fw eX
abbrev ko:=RK.mr ⟨142,4,2,J,E⟩
abbrev abc:=b9 fO sJ
abbrev JS:=BE.and zZ abc
abbrev abd:=vU (.cell xZ fO 9)
abbrev To:=oF fO xZ
abbrev uJ:=eY 0 t u
abbrev abe:=uJ Sx mN
abbrev Tp:=RK.own 142
abbrev NS:=LE.ref mV
abbrev D4:=fu ja
abbrev Tq:ai:=[eB,eh,eX]
abbrev ala:aE:=[aI,aG,aK,aL,av,bu]
abbrev Cb:=yb av
abbrev D5:aE:=[aI,aG,aK,aL,av,bu,av]
abbrev NT:=jZ 270
abbrev Ts:=iM oG
abbrev Tt:=LE.ref km
abbrev alb:aE:=[aI,aG,aK,aL,av,bu,av,ye]
abbrev mO:=b9 d oG
abbrev Tu:=mO em
abbrev JT:=BE.and BZ Tu
abbrev NU:=b9 ja lx
abbrev Tv:=BE.and (ga ja) NU
abbrev Tw:=jN ja mW
abbrev abf:=b9 ja n8
abbrev D6:=BE.and (ga ja) abf
abbrev yA:=IE.len v6
abbrev Tx:=LE.ref v6
abbrev GD:=SV.agg [aJ,aJ,aJ,aJ,aJ,aJ,aJ,aJ,aJ,aJ,aJ,aJ,aJ]
abbrev alc:ai:=[gE,ik,fY,gu,dG,jX,jW,jO,jb,jr,mi,jM,kN]
abbrev Tz:=SV.agg alc
abbrev NV:aE:=[aI,aG,aK,aL,av,bu,av,we]
abbrev Cc:aR:=[aQ,aQ,aQ,aQ,aQ,aQ,aQ,aQ,aQ,aQ,aQ,aQ,aQ,aQ]
abbrev Af:=cX 61
abbrev Ag:=cX 62
abbrev ald:=SV.agg [yq,Ae,uH,uI,sT,sU,yt,yu,yv,yw,yz,Af,Ag]
abbrev Cd:=cX 63
abbrev jf:=eo d nX
abbrev Ah:=jf gc
abbrev ip:=eo d DF
abbrev Ai:=ip gc
abbrev Aj:=eo gc wb
abbrev Ce:=wc gc 6
abbrev JU:=eo gc zW
abbrev JV:=eo gc mL
abbrev JW:=eo gc xT
abbrev oJ:=IE.cR n d (.cR o e f)
abbrev ale:=oJ aZ aZ (oJ aZ cn aZ JV JW) Ce JU
abbrev kq:=oJ d e (.cR p f aZ) n o
abbrev TA:=kq aZ aZ aZ JU JV JW
abbrev alf:=oJ aZ aZ (.cR Aj aZ (.cR Ce aZ TA)) Ah Ai
abbrev alg:=oJ mL mL (.cR Aj mL (.cR Ce aZ TA)) Ah Ai
abbrev yB:=aU (oJ d e f n o)
abbrev gH:=eo d cn
abbrev gp:=eo d mh
abbrev Ak:=yB d e f (gH gc) (gp gc)
abbrev alh:=Ak aZ aZ (oJ cn cn (.cR Aj cn ale) Ah Ai)
abbrev ali:=Ak aZ aZ (oJ nX nX (oJ nX aZ (kq aZ aZ nX JU JV JW) Aj Ce) Ah Ai)
abbrev D7:=sI GD dq
abbrev Cf:=vU ge
abbrev TC:=cV Cf
abbrev TE:=gH Cf
abbrev TF:=gp Cf
abbrev TG:=jf Cf
abbrev alj:=oE bZ (jy nY DQ)
abbrev alk:=oE cz (jy nY B7)
abbrev m6:=aU (.cR n aZ d)
abbrev alm:=SV.agg [alj,alk,gg,m6 gh TC,m6 dZ TC,m6 i9 TE,m6 iC TE,m6 jq TF,m6 fO TF,m6 em TG,m6 ja TG,m6 gN (ip Cf),m6 ee (ip Cf)]
abbrev aln:=SV.agg [alj,alk,gg,aJ,aJ,aJ,aJ,eX,gE,ik,fY,gu,dG]
abbrev TH:=SV.agg [ju,iS,gg,rz,ru,lL,eh,eX,gE,ik,fY,gu,dG]
abbrev TJ:=SV.agg [ju,iS,gg,i8,mg,rz,ru,eX,gE,ik,fY,gu,dG]
abbrev TK:=SV.agg [ju,iS,gg,i8,mg,lL,eh,rz,ru,ik,fY,gu,dG]
abbrev TL:=SV.agg [ju,iS,gg,i8,mg,lL,eh,eX,gE,rz,ru,gu,dG]
abbrev Al:=yc ge
abbrev TN:=cV Al
abbrev TO:=gH Al
abbrev TP:=gp Al
abbrev TQ:=jf Al
abbrev alo:=SV.agg [ju,iS,gg,i8,mg,lL,eh,eX,gE,ik,fY,rz,ru]
abbrev alp:=SV.agg [ju,iS,xY (uv ez nY) mL .rem,i8,mg,lL,eh,eX,gE,ik,fY,gu,dG]
abbrev alq:=SV.agg [ju,iS,gg,i8,mg,lL,eh,aJ,aJ,aJ,aJ,gu,dG]
abbrev alr:=SV.agg [ju,iS,gg,aJ,aJ,aJ,aJ,eX,gE,ik,fY,gu,dG]
abbrev als:=SV.agg [ju,iS,gg,m6 gh TN,m6 dZ TN,m6 i9 TO,m6 iC TO,m6 jq TP,m6 fO TP,m6 em TQ,m6 ja TQ,m6 gN (ip Al),m6 ee (ip Al)]
abbrev D8:=T.stuck ""
abbrev GF:=bQ j k l n (rh d e)
abbrev uK:=mZ t []
abbrev qh:=jc a j u z [t] F
abbrev m7:=ep e f (ga d)
abbrev JX:=bY j (m7 d e wb) n
abbrev uL:=BE.cR n o (.cR p q r)
abbrev Cg:=uL n iK o iK p
abbrev JY:=Cg n o (.cR p iK eW)
abbrev Am:=Cg n o (JY p q r)
abbrev yC:=gj a (.node n j k) t z B
abbrev abg:=yC a (sI GD ki) (uK u) n t [] B
abbrev uM:=abg 74 (ec SX) uG u [t]
abbrev alu:=GF jx jt D7 D7 (bQ (uK aaX) (jc 138 (qh 376 (JX Cf Cf (abg 74 (ec rA) Gs alm [alm]) (Am TC TE TF TG (ip Cf))) uG (uw Gr DR Jy) [] Gm) Gq [] [jM,gg] lw) (bQ (jc 138 (qh 376 (abg 74 (ec rA) Gs aln [aln]) uG (uw Gr DR Jy) [] Gm) Gq [] [jM,gg] lw) (bQ (uM TH TH) (uM TJ TJ) (bQ (uM TK TK) (uM TL TL) (.stuck "") TF TG) TC TE) (bQ (bQ (uM TH TH) (uM TJ TJ) (bQ (uM TK TK) (uM TL TL) (.stuck "") TP TQ) TN TO) (uM alo alo) (bQ (uM alp alp) (uM alq alq) (bQ (uM alr alr) (JX Al Al (uM als als) (Am TN TO TP TQ (ip Al))) D8 JV JW) Ce JU) Ai Aj) (gp gc) Ah) BV (gH gc)) Jn
abbrev NW:=T.node BV D7 D7
abbrev GG:=fW t pn
abbrev uN:=GG (jZ 130)
abbrev abh:=b9 dZ vZ
abbrev abi:=jN dZ rr
abbrev abj:=b9 iC Sg
abbrev Ch:aE:=[aI,aG,aK,aL,av,bv,aY,ao,ah,ar]
abbrev tc:=DL aJ fw fw fw fw fw
abbrev wm:=IE.len sK
abbrev abk:=kj tc (jZ 310)
abbrev D9:=fW abk Ch
abbrev NX:=mO fO
abbrev Ed:=BE.and zZ NX
abbrev JZ:=ep fO n9 zZ
abbrev J0:=ep fO lx zZ
abbrev Ci:=SV.ref (.cell D d a .str)
abbrev iN:=da a d km
abbrev m8:=iN a fO
abbrev abl:=SV.agg [Ci 0 fO km,m8 1,m8 2,m8 3,m8 4,m8 5,m8 6,m8 7,m8 8,m8 9,m8 10,m8 11,m8 12,m8 13,m8 14,m8 15,m8 16]
abbrev GH:=da a d mW
abbrev uO:=GH a fO
abbrev abm:ai:=[.agg [uO 0,uO 1,uO 2,uO 3,uO 4,uO 5,uO 6,uO 7,uO 8,uO 9,uO 10,uO 11,uO 12]]
abbrev TR:=BE.not DE
abbrev yD:=BE.cell D d 0
abbrev abn:=yD fO mV
abbrev alv:=RE.cell sK fO 0 bu
abbrev abo:=BE.not (cV gN)
abbrev J1:=LK.ref ao
abbrev Cj:=LK.ref ah
abbrev dS:=RK.own 82
abbrev TS:aR:=[aQ,.ref eD,.ref dS,SD]
abbrev TU:ai:=[aJ,fw,fw,fw]
abbrev pw:=b9 d n9
abbrev J3:=BE.and BZ (pw em)
abbrev J4:=ep em wm BZ
abbrev GI:=SV.ref (.cell D d a bu)
abbrev abp:=GI 0 em sK
abbrev TV:aR:=[.ref bu]
abbrev wn:=RE.v 15
abbrev uP:=SV.ref wn
abbrev Ee:=RE.v 13
abbrev J5:=IE.len Ee
abbrev abq:=iM J5
abbrev abr:=LE.ref Ee
abbrev abs:aE:=[aI,aG,aK,aL,av,bv,aY,ao,ah,ar,ao,ah,eD,.dead,cL,bu,dS]
abbrev uQ:=GH a em
abbrev TW:ai:=[uQ 0,uQ 1,uQ 2,uQ 3,uQ 4,uQ 5,uQ 6,uQ 7,uQ 8,uQ 9,uQ 10,uQ 11,uQ 12]
abbrev abt:aE:=[aI,aG,aK,aL,av,bv,aY,ao,ah,ar,ao,ah,.dead,.dead,.dead,bu,.dead]
abbrev alw:ai:=[fY,gu,dG,jX,jW,jO,jb,jr,mi,jM,kN,p9,yj]
abbrev abu:aE:=[aI,aG,aK,aL,av,bv,aY,ao,ah,ar,ao,ah,ah,.dead,aw,bu,ar]
abbrev fy:=iN a em
abbrev alx:=SV.agg [Ci 0 em km,fy 1,fy 2,fy 3,fy 4,fy 5,fy 6,fy 7,fy 8,fy 9,fy 10,fy 11,fy 12,fy 13,fy 14,fy 15,fy 16]
abbrev NY:=iM v7
abbrev abv:=LE.ref Jw
abbrev TX:aE:=[aI,aG,aK,aL,av,bv,aY,ao,ah,ar,ao,ah,.dead,.dead,cL,bu,dS,eD]
abbrev yE:=RE.v 14
abbrev abw:=IE.len yE
abbrev TY:=iM abw
abbrev TZ:=LE.ref yE
abbrev aly:aE:=[aI,aG,aK,aL,av,bv,aY,ao,ah,ar,ao,ah,.dead,.dead,.dead,bu,dS,eD,cL]
abbrev yF:=RE.v 17
abbrev An:=SV.ref yF
abbrev Ef:=RE.v 16
abbrev Ck:=SV.ref Ef
abbrev Ao:=RE.v 18
abbrev rB:=SV.ref Ao
abbrev alz:=T.back 1 [B3,An,Ck,rB]
abbrev GJ:=kj (.agg B) t
abbrev abx:=GJ jW [fY,gu,dG,jX]
abbrev NZ:=ec gZ
abbrev wq:=SV.ref Ee
abbrev td:=SV.ref yE
abbrev avi:aE:=[aI,aG,aK,aL,av,bv,aY,ao,ah,ar,ao,ah,ah,ar,aw]
abbrev aby:=nZ n8 mL
abbrev pz:=IE.len ml
abbrev rC:=n7 fw t z
abbrev th:=rC (jZ 310) uz
abbrev T1:=ep fO yA zZ
abbrev alA:=RE.cell v6 fO 0 bu
abbrev alB:ai:=[eB,gE,eh,.ref alA]
abbrev alC:=BE.not (cV (.len alA))
abbrev Eg:=ep em pz BZ
abbrev T2:=fh (da 0 em ml) (da 1 em ml) (da 2 em ml) (da 3 em ml)
abbrev uR:=da a em sK
abbrev alD:ai:=[.agg [uR 0,uR 1,uR 2,uR 3,uR 4,uR 5,uR 6,uR 7,uR 8,uR 9,uR 10,uR 11,uR 12]]
abbrev T3:=pm 1 B3
abbrev tj:=da a ja mj
abbrev alE:ai:=[.agg [tj 0,tj 1,tj 2,tj 3,tj 4,tj 5,tj 6,tj 7],eh]
abbrev alF:=kj (fh gu dG jX jW) jO
abbrev my:aE:=[aI,aG,aK,aL,av,bv,aY,ao,ah,ah,ar,aw,ao]
abbrev J6:=ga gN
abbrev T4:=BE.and J6 (mO gN)
abbrev T5:=ep gN n9 J6
abbrev Ua:=ep gN lx J6
abbrev Ub:=ep gN yA J6
abbrev N0:=GI 0 gN v6
abbrev Uc:=IE.len wn
abbrev Ud:=iM Uc
abbrev Ue:=LE.ref wn
abbrev abz:aE:=[aI,aG,aK,aL,av,bv,aY,ao,ah,ah,ar,aw,ao,ah,eD,.dead,cL,bu,dS]
abbrev uS:=GH a gN
abbrev abA:ai:=[uS 0,uS 1,uS 2,uS 3,uS 4,uS 5,uS 6,uS 7,uS 8,uS 9,uS 10,uS 11,uS 12]
abbrev N1:=SV.agg abA
abbrev abB:aE:=[aI,aG,aK,aL,av,bv,aY,ao,ah,ah,ar,aw,ao,ah,.dead,.dead,.dead,bu,.dead]
abbrev Uf:ai:=[dG,jX,jW,jO,jb,jr,mi,jM,kN,p9,yj,sL,Aa]
abbrev abC:aE:=[aI,aG,aK,aL,av,bv,aY,ao,ah,ah,ar,aw,ao,ah,ah,.dead,aw,bu,ar]
abbrev qi:=iN a gN
abbrev abD:=SV.agg [Ci 0 gN km,qi 1,qi 2,qi 3,qi 4,qi 5,qi 6,qi 7,qi 8,qi 9,qi 10,qi 11,qi 12,qi 13,qi 14,qi 15,qi 16]
abbrev alG:ai:=[eB,gu,eh,N1,abD,N0]
abbrev Ug:ai:=[yo,Ac,rz,ru]
abbrev Uh:aE:=[aI,aG,aK,aL,av,bv,aY,ao,ah,ah,ar,aw,ao,ah,.dead,.dead,cL,bu,dS,eD]
abbrev abE:=IE.len Ef
abbrev Ui:=iM abE
abbrev Uj:=LE.ref Ef
abbrev alH:aE:=[aI,aG,aK,aL,av,bv,aY,ao,ah,ah,ar,aw,ao,ah,.dead,.dead,.dead,bu,dS,eD,cL]
abbrev rD:=RE.v 19
abbrev uT:=SV.ref rD
abbrev rF:=RE.v 20
abbrev pA:=SV.ref rF
abbrev Eh:=T.back 3 B
abbrev alI:=Eh [fu gN,uT,rB,pA]
abbrev abF:=GJ jb [dG,jX,jW,jO]
abbrev GK:=ec im
abbrev J7:=kj fw jb
abbrev abG:=LE.lit [[dG,jX,jW,jO]]
abbrev bc:=RK.mr ⟨118,4,3,J,E⟩
abbrev Cl:=B5 bc
abbrev Uk:=ga ee
abbrev J8:=BE.and Uk (mO ee)
abbrev tq:=ep ee d Uk
abbrev Ul:=tq abw
abbrev N2:=LE.ref yF
abbrev alJ:aE:=[aI,aG,aK,aL,av,bv,aY,ao,ah,ah,ar,aw,ao,ah,eD,dS,cL,bc]
abbrev J9:=tq abE
abbrev Um:=tq pz
abbrev yG:=fh (da a d D) t u v
abbrev Cm:=da a d ml
abbrev alK:ai:=[yG 0 ee (da 1 ee Ef) (da 2 ee Ef) (da 3 ee Ef) Ef,fh (Cm 0 ee) (Cm 1 ee) (Cm 2 ee) (Cm 3 ee)]
abbrev alL:aE:=[aI,aG,aK,aL,av,bv,aY,ao,ah,ah,ar,aw,ao,ah,.dead,.dead,.dead,bc,bc]
abbrev abH:=kj fw jX
abbrev alM:=LE.ref Ao
abbrev abI:=yD ee mV
abbrev abJ:ai:=[eB,dG,eh]
abbrev abK:=kj fw jW
abbrev N3:=IE.len rF
abbrev abL:=b9 fM N3
abbrev yH:=ga fM
abbrev wu:=RE.cell v6 ee 0 bu
abbrev Un:=b9 im (.len wu)
abbrev Ei:=BE.and (ga im) Un
abbrev Uo:=jN im wu
abbrev Ka:=jN fM rF
abbrev qj:=iN a ee
abbrev Ej:=SV.agg [Ci 0 ee km,qj 1,qj 2,qj 3,qj 4,qj 5,qj 6,qj 7,qj 8,qj 9,qj 10,qj 11,qj 12,qj 13,qj 14,qj 15,qj 16]
abbrev abM:aE:=[aI,aG,aK,aL,av,bv,aY,ao,ah,ah,ar,aw,ao,ah,.dead,.dead,.dead,bc,bc,bc,av,bc]
abbrev GM:=yb bu
abbrev wv:=jw 22
abbrev abN:=kj fw jr
abbrev alN:=fW abN [aI,aG,aK,aL,av,bv,aY,ao,ah,ah,ar,aw,ao,ah,ah,ar,aw,bc,bc,bc,av,bc,bu]
abbrev tw:=SV.bool (.cell D d a)
abbrev abO:=fh (aU Uo) (da 1 im wu) (da 2 im wu) (tw 3 im wu)
abbrev abP:aE:=[aI,aG,aK,aL,av,bv,aY,ao,ah,ah,ar,aw,ao,ah,.dead,.dead,.dead,bc,bc,bc,av,bc,bu]
abbrev GN:=RE.v 21
abbrev Uq:=LE.ref GN
abbrev alO:=LE.ins Uq 3 [dq,dG,oE cn Ka,iT]
abbrev abQ:aE:=[aI,aG,aK,aL,av,bv,aY,ao,ah,ah,ar,aw,ao,ah,eD,dS,cL,bc,bc,bc,av,bc,bu]
abbrev abR:=IE.cell rF fM 4
abbrev Ur:=eo abR zW
abbrev Kb:=BE.cell D d 3
abbrev ww:=BE.not (Kb im wu)
abbrev wz:=da a fM rF
abbrev alP:ai:=[eB,NH,.agg [aU Ka,wz 1,wz 2,wz 3,aU abR,wz 5,wz 6,wz 7,wz 8,wz 9,wz 10,wz 11,wz 12,wz 13]]
abbrev Kc:=RE.v 23
abbrev N4:=LE.ref Kc
abbrev alQ:ai:=[mS,dG,oE cn Ka,iT]
abbrev Kd:=jw 24
abbrev Ek:=SV.ref Kc
abbrev El:=eY a (fu fM) t
abbrev Em:=El 5 Ek
abbrev Ap:=io a j k Gf pj z B
abbrev GO:=T.rows N (.ins G a B) z j
abbrev ql:=GO 3 j z B G bc
abbrev abS:=Ap 103 (ql (El 5 Kd) [aI,aG,aK,aL,av,bv,aY,ao,ah,ah,ar,aw,ao,ah,eD,dS,cL,bc,bc,bc,av,bc,bu,bc] alQ N4) Em [aI,aG,aK,aL,av,bv,aY,ao,ah,ah,ar,aw,ao,ah,.dead,.dead,.dead,bc,bc,bc,av,bc,bu,bc] alP
abbrev Us:=eo abR mL
abbrev tA:=SV.ref GN
abbrev uU:=El 5 tA
abbrev abT:=Ap 103 (ql Em abQ alQ Uq) uU abP alP
abbrev abU:=pm 6 (fu im)
abbrev abV:=yG 0 Jq (da 1 Jq wu) (da 2 Jq wu) (tw 3 Jq wu) wu
abbrev Ke:=BE.not (Kb Jq wu)
abbrev wA:=bY (.node p j k) n o
abbrev alR:=wA abS Em eW eW Ke
abbrev alS:=wA abT uU eW eW Ke
abbrev uV:=GH a ee
abbrev abW:ai:=[eB,dG,eh,.agg [uV 0,uV 1,uV 2,uV 3,uV 4,uV 5,uV 6,uV 7,uV 8,uV 9,uV 10,uV 11,uV 12],kn,.ref wu]
abbrev Aq:=RK.sl 200
abbrev abX:=b9 gc (z8 22)
abbrev GP:=ga gc
abbrev GQ:=fu gc
abbrev Ar:=fu ee
abbrev GR:ai:=[aJ,rB]
abbrev Kf:=IE.len rD
abbrev abY:=b9 fM Kf
abbrev Kg:=jN fM rD
abbrev abZ:aE:=[aI,aG,aK,aL,av,bv,aY,ao,ah,ah,ar,aw,ao,ah,.dead,.dead,.dead,bc,bc,av,bc]
abbrev alT:=fW abN [aI,aG,aK,aL,av,bv,aY,ao,ah,ah,ar,aw,ao,ah,ah,ar,aw,bc,bc,av,bc,bu]
abbrev ab0:aE:=[aI,aG,aK,aL,av,bv,aY,ao,ah,ah,ar,aw,ao,ah,.dead,.dead,.dead,bc,bc,av,bc,bu]
abbrev ab1:=LE.ref rF
abbrev alU:=LE.ins ab1 3 [dq,dG,oE cn Kg,iT]
abbrev ab2:aE:=[aI,aG,aK,aL,av,bv,aY,ao,ah,ah,ar,aw,ao,ah,eD,dS,cL,bc,bc,av,bc,bu]
abbrev ab3:=IE.cell rD fM 4
abbrev Ut:=eo ab3 zW
abbrev wB:=da a fM rD
abbrev alV:ai:=[eB,NH,.agg [aU Kg,wB 1,wB 2,wB 3,aU ab3,wB 5,wB 6,wB 7,wB 8,wB 9,wB 10,wB 11,wB 12,wB 13]]
abbrev alW:ai:=[mS,dG,oE cn Kg,iT]
abbrev En:=El 5 wv
abbrev Eo:=LE.ref (.v a)
abbrev ab4:=Ap 103 (ql Em [aI,aG,aK,aL,av,bv,aY,ao,ah,ah,ar,aw,ao,ah,eD,dS,cL,bc,bc,av,bc,bu,bc] alW (Eo 22)) En [aI,aG,aK,aL,av,bv,aY,ao,ah,ah,ar,aw,ao,ah,.dead,.dead,.dead,bc,bc,av,bc,bu,bc] alV
abbrev Uu:=eo ab3 mL
abbrev Kh:=El 5 pA
abbrev ab5:=Ap 103 (ql En ab2 alW ab1) Kh ab0 alV
abbrev alX:=wA ab4 En eW eW Ke
abbrev alY:=wA ab5 Kh eW eW Ke
abbrev ab6:=b9 gc (.len GN)
abbrev Uv:=BE.and GP ab6
abbrev oK:=iL a j k n [aJ] [aQ]
abbrev rG:=wA j k Ei Ei n
abbrev Ki:=T.node n j (bY k o p)
abbrev Kj:=T.rows bc G z j
abbrev yI:=iL a j k n [aJ,t] F
abbrev alZ:=T.node abI (eA 77 (mq (iL 5 (qf (oK 6 (rG (eA 78 (Ki alT (yg 102 (mu (Kj (bQ (rG ab4 En ww) (rG ab4 En ww) En Ut Uu) ab2 alU) (rG ab5 Kh ww) (rG ab5 Kh ww) Kh vS Ut Uu) ab0 [tA,abO]) Dz Ei Ei) tA jr abZ [eB,aU Kg,Ej] GM) abU (eo Uo Kg)) (eA 78 (Ki alT (yg 102 (mu (Kj (bQ alX alX En Ut Uu) ab2 alU) alY alY Kh vS Ut Uu) ab0 [tA,abV]) Dz eW eW) tA jr abZ [eB,aU Kg,Ej] GM) Un) yH abY yH abY) (eA 104 (mq (yI 6 (bY (ql (eY 6 GQ Ek) [aI,aG,aK,aL,av,bv,aY,ao,ah,ah,ar,aw,ao,ah,eD,dS,cL,bc,bc,av,bc,Aq,bc] [ki,dG,oE cn (oF gc GN),iT] (Eo 22)) Uv Uv) (eY 4 Ar wv) ab6 pA Cl) GK J7 [aI,aG,aK,aL,av,bv,aY,ao,ah,ah,ar,aw,ao,ah,ah,ar,aw,bc,bc,av,bc,Aq]) tA jb abZ abW (yb Aq)) abY GR Cl) NZ abK [aI,aG,aK,aL,av,bv,aY,ao,ah,ah,ar,aw,ao,ah,ah,ar,aw,bc,bc,av]) uT jW alL abJ Cb) (eY 4 Ar rB)
abbrev ab7:aE:=[aI,aG,aK,aL,av,bv,aY,ao,ah,ah,ar,aw,ao,ah,.dead,.dead,.dead,bc]
abbrev N5:ai:=[aJ,An]
abbrev N6:=IE.len Ao
abbrev ab8:=b9 fM N6
abbrev Kk:=jN fM Ao
abbrev ab9:aE:=[aI,aG,aK,aL,av,bv,aY,ao,ah,ah,ar,aw,ao,ah,.dead,.dead,.dead,bc,av,bc]
abbrev al0:=fW abN [aI,aG,aK,aL,av,bv,aY,ao,ah,ah,ar,aw,ao,ah,ah,ar,aw,bc,av,bc,bu]
abbrev aca:aE:=[aI,aG,aK,aL,av,bv,aY,ao,ah,ah,ar,aw,ao,ah,.dead,.dead,.dead,bc,av,bc,bu]
abbrev Kl:=LE.ref rD
abbrev al1:=LE.ins Kl 3 [dq,dG,oE cn Kk,iT]
abbrev acb:aE:=[aI,aG,aK,aL,av,bv,aY,ao,ah,ah,ar,aw,ao,ah,eD,dS,cL,bc,av,bc,bu]
abbrev acd:=IE.cell Ao fM 4
abbrev Uw:=eo acd zW
abbrev wC:=da a fM Ao
abbrev al2:ai:=[eB,NH,.agg [aU Kk,wC 1,wC 2,wC 3,aU acd,wC 5,wC 6,wC 7,wC 8,wC 9,wC 10,wC 11,wC 12,wC 13]]
abbrev al3:ai:=[mS,dG,oE cn Kk,iT]
abbrev ace:=Ap 103 (ql En [aI,aG,aK,aL,av,bv,aY,ao,ah,ah,ar,aw,ao,ah,eD,dS,cL,bc,av,bc,bu,bc] al3 Uq) uU [aI,aG,aK,aL,av,bv,aY,ao,ah,ah,ar,aw,ao,ah,.dead,.dead,.dead,bc,av,bc,bu,bc] al2
abbrev Ux:=eo acd mL
abbrev Km:=El 5 uT
abbrev acf:=Ap 103 (ql uU acb al3 Kl) Km aca al2
abbrev al4:=wA ace uU eW eW Ke
abbrev al5:=wA acf Km eW eW Ke
abbrev acg:=b9 gc N3
abbrev ach:=b9 gZ lx
abbrev wD:=ga gZ
abbrev Uy:=mO gZ
abbrev tB:=BE.and wD Uy
abbrev Uz:=SV.agg [jO,jb,jr,mi]
abbrev aci:=kj Uz jM
abbrev Cn:=fu gZ
abbrev acj:=b9 fM wm
abbrev UA:=ec gF
abbrev qn:=RK.sl 202
abbrev GS:=jZ 6
abbrev al6:aE:=[aI,aG,aK,aL,av,bv,aY,ao,ah,ah,ar,aw,ao,ah,eD,dS,cL,bc,dF,aw,cL,qn,bc,bc]
abbrev ack:=b9 ge N6
abbrev N7:=ga ge
abbrev uW:=jN ge Ao
abbrev al7:=ep uW Kf (ga uW)
abbrev uX:=oF ge Ao
abbrev al8:=ep uX Kf (ga uX)
abbrev al9:aE:=[aI,aG,aK,aL,av,bv,aY,ao,ah,ah,ar,aw,ao,ah,.dead,.dead,.dead,bc,dF,aw,.dead,qn,bc,bc]
abbrev ama:aE:=[aI,aG,aK,aL,av,bv,aY,ao,ah,ah,ar,aw,ao,ah,ah,ar,aw,bc,dF,aw,aw,qn,bc,bc]
abbrev amc:=ep uW N3 (ga uW)
abbrev amd:=ep uX N3 (ga uX)
abbrev N8:=aU Al
abbrev UB:=jw 25
abbrev ame:=ql (ql (eY 8 N8 UB) [aI,aG,aK,aL,av,bv,aY,ao,ah,ah,ar,aw,ao,ah,eD,dS,cL,bc,dF,aw,cL,qn,bc,bc,bc] [GS,aU uX,aJ,iT] (Eo 24)) al6 [GS,aU uW,aJ,iT] N4
abbrev Ko:=RK.own 118
abbrev m9:=RK.mr ⟨3,1099511627778,1,E,E⟩
abbrev N9:=IE.len Kc
abbrev amf:aE:=[aI,aG,aK,aL,av,bv,aY,ao,ah,ah,ar,aw,ao,ah,eD,dS,cL,bc,dF,aw,cL,qn,bc,bc,Ko,m9]
abbrev Kq:=RE.v 26
abbrev Oa:=IE.len Kq
abbrev Ob:=jN (vU Oa) Kq
abbrev UC:=jw 27
abbrev acl:=SV.ref Kq
abbrev wE:=RK.own 98
abbrev amg:=mo jY (b9 jY Oa)
abbrev Co:aE:=[aI,aG,aK,aL,av,bv,aw,aw,dF]
abbrev Oc:=rC (jZ 290) Co
abbrev ku:=da a d mV
abbrev amh:ai:=[fh (ku 0 em) (ku 1 em) (ku 2 em) (ku 3 em)]
abbrev wF:=RK.own 202
abbrev acm:aR:=[aQ,.ref wF,.ref ko]
abbrev acn:ai:=[aJ,fw,fw]
abbrev aco:=rC (jZ 290) [aI,aG,aK,aL,av,bv,aw,aw,dF,qn,ko]
abbrev acp:=oF ja mW
abbrev As:=BE.cmp .geq d e
abbrev GU:=T.back 2 B
abbrev acq:=bY (bQ aco aco (yi acp iJ aco (GO 2 (GU [D4,uy,DK]) [aI,aG,aK,aL,av,bv,aw,aw,dF,wF,ko] [aU Tw,aU acp,iT] Tx ko)) (b9 Tw aZ) (As Tw acp)) Tv Tv
abbrev acr:aR:=[aQ,SD,.ref wF]
abbrev acs:ai:=[aJ,fw,uy]
abbrev Od:=b9 gN n8
abbrev Oe:=LE.ref ml
abbrev wG:=jc a j v z [t,u] mU
abbrev Ep:=da a gN mj
abbrev qo:=T.aV n (.new a G z A j)
abbrev Er:=qo a j n z A (.iG G H)
abbrev acu:=qf (wG 25 (mq (Er 65 (Eh [fu gN,wq,uA]) (iM pz) [aI,aG,aK,aL,av,bv,aw,aw,dF,.dead,ko,cL,wF] [aI,aG,aK,aL,av,bv,aw,aw,dF,.dead,ko,.dead,wF,cL] Oe abG) GK J7 [aI,aG,aK,aL,av,bv,aw,aw,dF,.dead,ko,aw,qn]) (.agg [Ep 0,Ep 1,Ep 2,Ep 3,Ep 4,Ep 5,Ep 6,Ep 7]) eh abF [aI,aG,aK,aL,av,bv,aw,aw,dF,.dead,ko,.dead,.dead]) J6 Od J6 Od
abbrev acv:=b9 ee aZ
abbrev GV:=fu jt
abbrev lN:=iL a j k n B [aQ,.ref wF]
abbrev lA:=T.node (.not n) j k
abbrev Cp:=BE.look D a d e aZ b
abbrev acw:=lN 5 (lA aaW (.back 5 [GV,td]) (Cp 2 2 ee jt v6)) (eY 4 Ar td) (jd jt) [Ar,wq]
abbrev UD:=mO jt
abbrev acx:=BE.not (Cp 2 2 jt gZ v6)
abbrev GX:=ga jt
abbrev Kr:=BE.and GX UD
abbrev nc:=iN a gZ
abbrev UE:=fh (nc 0) (nc 1) (nc 2) (nc 3)
abbrev acy:ai:=[fh (iN 0 jt) (iN 1 jt) (iN 2 jt) (iN 3 jt),UE]
abbrev acz:aE:=[aI,aG,aK,aL,av,bv,aw,aw,dF,.dead,ko,.dead,.dead,.dead,.dead,.dead]
abbrev ami:aE:=[aI,aG,aK,aL,av,bv,aw,aw,dF,.dead,ko,cL,.dead,.dead,.dead,.dead,wF]
abbrev UF:=eY 6 Cn Ck
abbrev gJ:=Er a j n z A G (.lit [B])
abbrev acA:=gJ 202 UF Ud [aI,aG,aK,aL,av,bv,aw,aw,dF,.dead,ko,cL,.dead,.dead,.dead,wF] ami [dq,jX,jW] Ue
abbrev Ks:=T.back 6 [Cn,uP]
abbrev acB:=eY 5 GV uP
abbrev acC:=BE.not (Cp 2 2 gZ fM v6)
abbrev UG:=pw fM
abbrev wH:=BE.and yH UG
abbrev UH:=fh (ku 0 fM) (ku 1 fM) (ku 2 fM) (ku 3 fM)
abbrev acD:aE:=[aI,aG,aK,aL,av,bv,aw,aw,dF,.dead,ko,.dead,.dead,.dead,.dead,.dead,.dead]
abbrev amj:aE:=[aI,aG,aK,aL,av,bv,aw,aw,dF,.dead,ko,cL,.dead,.dead,.dead,.dead,.dead,wF]
abbrev UI:=El 7 An
abbrev acE:=gJ 202 UI Ui ami amj [ki,jW,jO] Uj
abbrev UJ:ai:=[fu fM,Ck]
abbrev Kt:=T.back 7 UJ
abbrev acF:=BE.not (Cp 2 2 fM im v6)
abbrev Ku:=ep im oG (ga im)
abbrev acG:ai:=[UH,fh (iN 0 im) (iN 1 im) (iN 2 im) (iN 3 im)]
abbrev acH:aE:=[aI,aG,aK,aL,av,bv,aw,aw,dF,.dead,ko,.dead,.dead,.dead,.dead,.dead,.dead,.dead]
abbrev Kv:=IE.len yF
abbrev amk:aE:=[aI,aG,aK,aL,av,bv,aw,aw,dF,.dead,ko,cL,.dead,.dead,.dead,.dead,.dead,.dead,wF]
abbrev UK:=eY 8 (fu im) rB
abbrev acI:=gJ 202 UK (iM Kv) amj amk [mS,jO,jb] N2
abbrev UL:ai:=[fu im,An]
abbrev Kw:=T.back 8 UL
abbrev UM:=pw im
abbrev Kx:=jd gc
abbrev acJ:=BE.not (Cp 2 2 im gc v6)
abbrev Ky:=BE.and (ga im) UM
abbrev wI:=ep gc n9 GP
abbrev UN:=fh (ku 0 gc) (ku 1 gc) (ku 2 gc) (ku 3 gc)
abbrev acK:ai:=[fh (ku 0 im) (ku 1 im) (ku 2 im) (ku 3 im),UN]
abbrev acL:aE:=[aI,aG,aK,aL,av,bv,aw,aw,dF,.dead,ko,.dead,.dead,.dead,.dead,.dead,.dead,.dead,.dead]
abbrev acM:aE:=[aI,aG,aK,aL,av,bv,aw,aw,dF,.dead,ko,cL,.dead,.dead,.dead,.dead,.dead,.dead,.dead,wF]
abbrev UO:=eY 9 GQ uT
abbrev acN:=gJ 202 UO (iM N6) amk acM [z7,jb,jr] alM
abbrev Kz:=eY 9 GQ rB
abbrev UP:=b9 ge pz
abbrev KC:=BE.and N7 UP
abbrev KD:=ep gc oG GP
abbrev UQ:=fh (Cm 0 ge) (Cm 1 ge) (Cm 2 ge) (Cm 3 ge)
abbrev acO:ai:=[fh (iN 0 gc) (iN 1 gc) (iN 2 gc) (iN 3 gc),UQ]
abbrev wJ:aE:=[aI,aG,aK,aL,av,bv,aw,aw,dF,.dead,ko,.dead,.dead,.dead,.dead,.dead,.dead,.dead,.dead,.dead]
abbrev aml:aE:=[aI,aG,aK,aL,av,bv,aw,aw,dF,.dead,ko,cL,.dead,.dead,.dead,.dead,.dead,.dead,.dead,.dead,wF]
abbrev KE:=gJ 202 (eY 10 N8 pA) (iM Kf) acM aml [SI,jr,mi] Kl
abbrev KF:=eY 10 N8 uT
abbrev KG:=ep ge oG N7
abbrev acP:=fh aJ (j5 qc bZ) aJ (j5 qc cz)
abbrev acQ:ai:=[fh (iN 0 ge) (iN 1 ge) (iN 2 ge) (iN 3 ge),acP]
abbrev KH:=ep ge n9 N7
abbrev acR:ai:=[fh (ku 0 ge) (ku 1 ge) (ku 2 ge) (ku 3 ge),acP]
abbrev KI:=gJ 202 (eY 10 N8 pA) (iM Kf) acM aml [GS,mi,aJ] Kl
abbrev acS:=mZ uT [aI,aG,aK,aL,av,bv,aw,aw,dF,.dead,ko,aw,.dead,.dead,.dead,.dead,.dead,.dead,.dead,qn]
abbrev rH:=lN a j k n [aJ,t]
abbrev fz:=bY (bY j p q) n o
abbrev wK:=T.node n (fz j o p q r) k
abbrev Es:=io a j k n vT z B
abbrev oc:=eA a j t u z B [.bool,aQ]
abbrev amm:=iL 2 acq (iL 3 acu (rH 4 acw (rH 5 (lN 6 (wK (io 181 acA Ks zT pj acz acy) Ks acx Kr Kr tB tB) acB (jd gZ) [GV,td]) (rH 6 (lN 7 (wK (io 181 acE Kt zT pj acD [UE,UH]) Kt acC tB tB wH wH) UF (jd fM) [Cn,uP]) (rH 7 (lN 8 (wK (io 181 acI Kw zT pj acH acG) Kw acF wH wH Ku Ku) UI (jd im) UJ) (rH 8 (lN 9 (wK (io 181 acN Kz zT pj acL acK) Kz acJ Ky Ky wI wI) UK Kx UL) (lN 9 (lN 10 (fz (io 181 KE (bY (Es 181 KE KF zU wJ [UN,UQ]) wI wI) zT pj wJ acO) KC KC KD KD) UO UP GR) (lN 10 (bY (oc 24 (bY (oc 24 (bQ KI KI KF Gf zV) vT kN wJ acR) KH KH) pj jM wJ acQ) KG KG) acS (jd ge) GR) Kx N5) UM Ck) UG uP) Uy td) UD wq) acv uA) Od acs acr) NU acn acm
abbrev At:aE:=[aI,aG,aK,aL,av,.str]
abbrev acT:=rh SM cn
abbrev acU:=LE.lit [[eh,aJ,aJ,iT]]
abbrev KJ:aE:=[aI,aG,aK,aL,av,.str,uC]
abbrev acV:aE:=[aI,aG,aK,aL,av,.str,uC,uC]
abbrev amn:=T.node acT (qo 96 (Er 96 (mZ mY [aI,aG,aK,aL,av,.str,bu,bu]) Ts KJ acV SB Tt) iK At KJ acU) (mZ fw At)
abbrev acW:=kj oa aJ
abbrev amo:aE:=[aI,aG,aK,aL,av,.str,bu]
abbrev acX:=T.node n j (fW t z)
abbrev acY:=acX (qo 96 (Er 96 (fW acW [aI,aG,aK,aL,av,.str,.dead,bu,bu]) (.and Ts (iM n9)) acV [aI,aG,aK,aL,av,.str,.dead,uC,uC] Tt NS) iK KJ acV acU) acT aaR amo
abbrev qp:=qo a j iK z A (.lit L)
abbrev amp:=qp 96 acY At KJ [[sL,aJ,aJ,i7]]
abbrev Au:=RK.own 393
abbrev KK:=B5 Au
abbrev acZ:=jp kP mL
abbrev ac0:aE:=[aI,aG,aK,aL,av,.str,.dead,.dead]
abbrev Of:=cV wj
abbrev KL:=eo mw SN
abbrev amq:aE:=[aI,aG,aK,aL,av,.str,.dead,Au]
abbrev ac1:aE:=[aI,aG,aK,aL,av,.str,.dead,Au,Au]
abbrev KM:=fu mw
abbrev amr:=Er 393 (eY 1 KM uy) (.and (iM n9) (iM lx)) ac1 [aI,aG,aK,aL,av,.str,.dead,.dead,Au,Au] NS (.ref mW)
abbrev ac2:=qp 393 amr amq ac1 [[sL,DT,DU,i7,aU Gh]]
abbrev yJ:=BE.and n (.and o p)
abbrev ams:=BE.not (yJ (cV DX) (cV DY) (cV JG))
abbrev GY:=eY 1 KM mY
abbrev ac3:=qp 393 amr amq ac1 [[sL,DT,DU,i7,yp]]
abbrev Av:=jy (jy d e) f
abbrev amt:=T.node ams (yi (jy D0 dZ) (Av ez qc qc) ac3 GY) GY
abbrev KN:=bQ j k l (.not n) o
abbrev ac4:=eA 139 (jc 139 (jc 361 (KN (.node (eo kP SL) (bQ (bQ ac2 (yi (jy Gh dZ) (Av ez qc qc) ac2 GY) GY KL ams) ac3 amt KL KL) amt) (bQ (.node KL ac2 GY) ac3 GY KL KL) GY (yJ Of (cV B8) (cV (.v 43))) (eo kP SL)) Tg ac0 [mT JB DV sQ,mT Gy Ca DZ] lw) GB ac0 [DT,DU] DD) (mT JB DV sQ) Gx ac0 [ru,uF] DD
abbrev ac5:=uJ (fu kP) mY
abbrev UR:=ga mw
abbrev amu:aE:=[aI,aG,aK,aL,av,.str,.dead,Au,uC]
abbrev US:aE:=[aI,aG,aK,aL,av,.str,.dead,Au,uC,uC]
abbrev amv:=BE.and (iM lx) (iM wm)
abbrev amw:=LE.iG (.ref mW) (.ref sK)
abbrev amx:aE:=[aI,aG,aK,aL,av,.str,.dead,Au,.dead,uC,uC]
abbrev Aw:=iL a j k n SE F
abbrev G0:=Aw a j k n (B5 N)
abbrev ac6:=T.dw 322 323 393 (.lex [4] J) J km [aI,aG,aK,aL,av,.str,Au] (G0 1 (qf (qp 96 (qo 96 (eY 1 KM oH) amv US amx amw) amu US [[ku 0 mw,ku 1 mw,ku 2 mw,tw 3 mw mV]]) UR (pw mw) UR (pw mw)) (ta (acX (qo 96 (qo 96 (mZ oH [aI,aG,aK,aL,av,.str,.dead,.sl 393,.dead,bu,bu]) amv US amx amw) iK amu US acU) acT acW [aI,aG,aK,aL,av,.str,.dead,.sl 393,bu])) (pw mw) uC)
abbrev UT:=gj a j t z [.agg B]
abbrev amy:=UT 75 (mu (rC Gt At) (rC sN At) (bQ (ta (ya SX ja amn amp)) (ta (ya SX gN amn amp)) (bQ (Aw 0 (iL 1 ac4 ac5 (jp mw ge) [dq,kn] KK) ac6 acZ KK) (Aw 0 (iL 1 ac4 ac5 (jp mw jY) [dq,kn] KK) ac6 acZ KK) (bQ (Aw 0 (iL 1 ac4 ac5 (jp mw gF) [dq,kn] KK) ac6 acZ KK) (qp 96 acY At KJ [[sL,aJ,Gw SN jY,i7]]) D8 (eo jx wb) (eo jx xT)) (jf jx) (ip jx)) (gH jx) (gp jx)) (qp 96 acY At KJ [[eh,aJ,aJ,i7]]) (ec oI) (ec qg) (Cg (gH jx) (gp jx) (Cg (jf jx) (ip jx) (Cg (eo jx wb) (eo jx xT) eW)))) Gt At [mN,eX,gE,ik,fY,gu,dG,jX,jW,jO,jb,jr,mi,jM,kN,p9,yj]
abbrev avj:ai:=[eB,NG,kn,oa,oH]
abbrev avk:=RK.own 73
abbrev avl:=qo 73 j n z A G
abbrev KO:=T.fA iK n j k
abbrev UU:=KO j k iK
abbrev KP:aE:=[R8,R9,dF,aI,aG,aK,aL,av,.str,bu,av]
abbrev qr:aE:=[R8,R9,dF,aI,aG,aK,aL,av,.str,bu,av,we]
abbrev ac7:=b9 mw pz
abbrev G1:=IE.cell ml mw 4
abbrev UV:=ep G1 (.c 10) (ga G1)
abbrev UW:=ep G1 vZ (ga G1)
abbrev UX:aR:=[aQ,.bool,.bool,.bool,.bool,.bool]
abbrev amz:ai:=[aJ,pj,vT,uu,xU,xV]
abbrev amA:=RE.cell rr G1 0 rj
abbrev UY:=b9 wj (.len amA)
abbrev UZ:=ga wj
abbrev wL:=vU (uv (jN wj amA) (.cell ml mw 5))
abbrev U0:=fu wj
abbrev KQ:=fz j (.and n o) (.and p q) r s
abbrev Ax:=SV.bool (.cR n iK (.v a))
abbrev amB:=KQ (.back 1 [U0,Ax 7 (cV wL),Ax 8 (gH wL),Ax 9 (gp wL),Ax 10 (jf wL),Ax 11 (ip wL)]) UZ UY UZ UY (m7 wL wL wb) (Am (cV wL) (gH wL) (gp wL) (jf wL) (ip wL))
abbrev amC:ai:=[aJ,Dy,jL 8,jL 9,jL 10,jL 11]
abbrev amD:=RE.cell rr G1 1 rj
abbrev U4:=b9 B8 (.len amD)
abbrev wM:=jN B8 amD
abbrev amE:=fz (GU [fu B8,Ax 12 (cV wM),Ax 13 (gH wM),Ax 14 (gp wM),Ax 15 (jf wM),Ax 16 (ip wM)]) (mo B8 U4) (mo B8 U4) (m7 wM wM wb) (Am (cV wM) (gH wM) (gp wM) (jf wM) (ip wM))
abbrev U5:=jy qc yk
abbrev ac8:=b9 wj wb
abbrev Et:=xX wj mh .quo
abbrev U6:=gH wj
abbrev U7:=gp wj
abbrev U8:=jf wj
abbrev U9:=ip wj
abbrev Va:=fh DV sQ Gx Gy
abbrev Og:=kq SM jx uE (cV Et) (gH Et) (gp Et)
abbrev Vb:=jy qc Og
abbrev Vc:=fh Ca DZ GA yp
abbrev amF:=eA 72 (.back 1 [U0,Ca,DZ,GA,yp]) Vc yq qr [Va,fh (zY aZ Vb) (aU Vb) (zY aZ Vb) (aU Vb)] mU
abbrev ac9:=oJ ee gZ (kq im ge gF U7 U8 U9) Of U6
abbrev qu:=eA a j (.agg C) t z B F
abbrev amG:=T.node (ec ac9) (eA 138 (qu 139 (eA 72 (.back 1 [U0,uH,uI,sT,sU]) (fh uH uI sT sU) yt qr [Va,fh (j5 Og Gz) (j5 Og Gz) (j5 Og D0) (j5 Og D0)] mU) Ae qr [Ca,aU ac9] [GA,yp,yq] DD) Ca DZ qr [yB gN jt (kq fM gc jY U7 U8 U9) Of U6,fY] lw) (.back 1 [U0,DV,sQ,Gx,Gy])
abbrev amH:=mo GC (b9 GC pz)
abbrev G2:=cX 64
abbrev Oi:=cX 65
abbrev G3:=cX 66
abbrev Oj:=cX 67
abbrev G4:=cX 68
abbrev G5:=cX 69
abbrev G6:=cX 70
abbrev G7:=cX 71
abbrev G8:=cX 72
abbrev G9:=cX 73
abbrev Eu:=cX 74
abbrev Ew:=cX 75
abbrev Ex:=cX 76
abbrev Ey:=cX 77
abbrev Ez:=cX 78
abbrev KR:=cX 79
abbrev KS:=cX 80
abbrev KT:=cX 81
abbrev KU:=IE.v 86
abbrev KV:=aU KU
abbrev Vd:=fh (cX 88) (cX 89) (cX 90) (cX 91)
abbrev ada:=fh (cX 93) (cX 94) (cX 95) (cX 96)
abbrev amI:=kQ (GU [fu GC,cX 93,cX 94,cX 95,cX 96,Eu,Ew,Ex,Ey,Ez,KR,KS,KT,cX 82,cX 83,cX 84,cX 85,KV,i7]) (ec (.v 87)) ada aJ qr
abbrev amJ:=fh yu yv yw yz
abbrev Ol:aE:=[aI,aG,aK,aL,av,aY,bu]
abbrev amK:=mo DS (b9 DS n8)
abbrev wN:=RK.mr ⟨3,96,1,E,J⟩
abbrev Ve:aE:=[aI,aG,aK,aL,av,aY,bu,wN]
abbrev Vf:=ep iC n8 NC
abbrev Om:=RK.own 200
abbrev Vg:=LK.ref Om
abbrev amL:=mo kP (b9 kP lx)
abbrev KW:=jN kP mW
abbrev qw:=IE.cell mW d a
abbrev nf:=qw 4 kP
abbrev Ay:=GH a kP
abbrev Vh:=SV.agg [aU KW,Ay 1,Ay 2,Ay 3,aU nf,aU (qw 5 kP),Ay 6,Ay 7,aU (qw 8 kP),Ay 9,Ay 10,Ay 11,Ay 12,Ay 13]
abbrev KY:=IE.look mV a d e f b
abbrev amM:=aU (KY 1 2 KW aZ aZ)
abbrev On:=KY 1 3 KW aZ aZ
abbrev amN:=Cp 1 4 KW aZ mV
abbrev amO:aE:=[aI,aG,aK,aL,av,aY,bu,wN,av,.dead]
abbrev KZ:=jN (vU v7) Jw
abbrev Az:=cV KZ
abbrev pB:=Eh [G4,G5,G6,G7,G8,G9,Eu,Ew,Ex,Ey,Ez,KR,KS,KT,oH,uA]
abbrev AA:=gH KZ
abbrev yK:=gp KZ
abbrev Hd:=jf KZ
abbrev amP:=yB cn mh (oJ nX DF aZ yK Hd) Az AA
abbrev amQ:aE:=[aI,aG,aK,aL,av,aY,bu,wN,av,.dead,Om,m9,m9]
abbrev amR:aE:=[aI,aG,aK,aL,av,aY,bu,wN,av,.dead,.dead,m9,m9,Om]
abbrev adb:=T.node Hd pB D8
abbrev ng:=vU (qw 5 kP)
abbrev Oo:=xX ng mh .quo
abbrev adc:=m7 Oo Oo nX
abbrev Vi:=cV Oo
abbrev Vj:=gH Oo
abbrev Vk:=gp Oo
abbrev ade:=JY Vi Vj Vk
abbrev yL:=IE.cell D iC a
abbrev gv:=yL a mj
abbrev K0:=gv 14
abbrev adf:=mM amM (aU On)
abbrev He:aE:=[aI,aG,aK,aL,av,aY,bu,wN,av,.dead,.dead,m9,m9]
abbrev K1:=mT (cX 83) (cX 84) (cX 85)
abbrev adg:=mT KV (cX 87) (cX 88)
abbrev K2:=iU (iU d e) (qe aZ f)
abbrev wO:=qe (.v a) d
abbrev adh:=K2 (K2 (K2 aZ (wO 83 KU) (wO 83 KU)) (wO 84 (.v 87)) (wO 84 (.v 87))) (wO 85 (.v 88)) (wO 85 (.v 88))
abbrev K3:=gv 11
abbrev Oq:=T.node yK pB adb
abbrev nh:=yc (qw 5 kP)
abbrev Ot:=xX nh mh .quo
abbrev adi:=m7 Ot Ot nX
abbrev Vl:=cV Ot
abbrev Vm:=gH Ot
abbrev Vn:=gp Ot
abbrev adj:=JY Vl Vm Vn
abbrev Cq:=ya d e (gJ 200 (Eh [G4,G5,G6,G7,G8,G9,Eu,Ew,Ex,Ey,Ez,KR,KS,KT,wq,uA]) (iM yA) amQ amR [amP,aU KW] Tx) pB
abbrev amS:=bY (Cq On (kq (gv 12) (gv 13) K0 Vl Vm Vn)) adi adj
abbrev adk:=eo nf wb
abbrev adl:=eo nf zW
abbrev Ou:=vU (qw 9 kP)
abbrev amT:=bY (Cq (oF Ou mj) (gv 2)) (m7 Ou Ou n8) (m7 Ou Ou n8)
abbrev amU:=BE.cR (eo nf xT) eW eW
abbrev K4:=T.dw a b c M E D z j
abbrev amV:=K4 243 178 200 (ta (mZ oH [aI,aG,aK,aL,av,aY,bu,wN,av,.dead,Aq])) [aI,aG,aK,aL,av,aY,bu,wN,av,Om] sK (.lex [1,0] E)
abbrev amW:=mo oI (b9 oI lx)
abbrev K5:=jN oI mW
abbrev nj:=qw 4 oI
abbrev AB:=GH a oI
abbrev Vo:=SV.agg [aU K5,AB 1,AB 2,AB 3,aU nj,aU (qw 5 oI),AB 6,AB 7,aU (qw 8 oI),AB 9,AB 10,AB 11,AB 12,AB 13]
abbrev amX:=aU (KY 1 2 K5 aZ aZ)
abbrev Ov:=KY 1 3 K5 aZ aZ
abbrev amY:=Cp 1 4 K5 aZ mV
abbrev pC:=Eh [G3,Oj,G4,G5,G6,G7,G8,G9,Eu,Ew,Ex,Ey,Ez,oH,uA]
abbrev adm:=T.node Hd pC D8
abbrev nl:=vU (qw 5 oI)
abbrev Ow:=xX nl mh .quo
abbrev adn:=m7 Ow Ow nX
abbrev Vp:=cV Ow
abbrev Vq:=gH Ow
abbrev Vr:=gp Ow
abbrev ado:=JY Vp Vq Vr
abbrev adp:=mM amX (aU Ov)
abbrev adq:=mT KS KT (cX 82)
abbrev adr:=K2 (K2 (K2 aZ (wO 80 (.v 83)) (wO 80 (.v 83))) (wO 81 (.v 84)) (wO 81 (.v 84))) (wO 82 (.v 85)) (wO 82 (.v 85))
abbrev Ox:=T.node yK pC adm
abbrev nq:=yc (qw 5 oI)
abbrev Oy:=xX nq mh .quo
abbrev ads:=m7 Oy Oy nX
abbrev Vs:=cV Oy
abbrev Vt:=gH Oy
abbrev Vu:=gp Oy
abbrev adt:=JY Vs Vt Vu
abbrev Cr:=ya d e (gJ 200 (Eh [G3,Oj,G4,G5,G6,G7,G8,G9,Eu,Ew,Ex,Ey,Ez,wq,uA]) (iM yA) amQ amR [amP,aU K5] Tx) pC
abbrev amZ:=bY (Cr Ov (kq (gv 12) (gv 13) K0 Vs Vt Vu)) ads adt
abbrev adu:=eo nj wb
abbrev adv:=eo nj zW
abbrev Oz:=vU (qw 9 oI)
abbrev am0:=bY (Cr (oF Oz mj) (gv 2)) (m7 Oz Oz n8) (m7 Oz Oz n8)
abbrev am1:=BE.cR (eo nj xT) eW eW
abbrev Cs:=SV.agg [fw]
abbrev Hf:aR:=[aQ,J1,Cj,Cj,.ref ar,.ref aw,aQ]
abbrev OA:=DL eh uy oH DK uA wq
abbrev adw:aE:=[aI,aG,aK,aL,av,aY,ah,ar,ao,ao,ah,ah,ar,aw,ao,ah,ah,ar,aw,ao,ah,ah,ar,aw]
abbrev EA:=p7 adw
abbrev am2:aE:=[aI,aG,aK,aL,av,aY,ah,ar,ao,ao,ah,ah,ar,aw,ao,ah,ah,ar,aw,ao,ah,ah,ar,aw,uC]
abbrev am3:=DL jX acl UC (jw 28) (jw 29) (jw 30)
abbrev am4:aE:=[aI,aG,aK,aL,av,aY,ah,ar,ao,ao,ah,ah,ar,aw,ao,ah,ah,ar,aw,ao,ah,ah,ar,aw,bu,ar,ao,ah,ah,ar,aw,eS]
abbrev Vv:=p7 am4
abbrev am5:aE:=[aI,aG,aK,aL,av,aY,ah,ar,ao,ao,ah,ah,ar,aw,ao,ah,ah,ar,aw,ao,ah,ah,ar,aw,bu,ar,ao,ah,ah,ar,aw,eS,wE]
abbrev am6:aE:=[aI,aG,aK,aL,av,aY,ah,ar,ao,ao,ah,ah,ar,aw,ao,ah,ah,ar,aw,ao,ah,ah,ar,aw,bu,ar,ao,ah,ah,ar,aw,eS,eS]
abbrev Vw:=mO aZ
abbrev Vx:=jZ 203
abbrev am7:=DL jb (jw 34) (jw 35) (jw 36) (jw 37) (jw 38)
abbrev rI:=RE.v 43
abbrev Vy:=p7 [aI,aG,aK,aL,av,aY,ah,ar,ao,ao,ah,ah,ar,aw,ao,ah,ah,ar,aw,ao,ah,ah,ar,aw,bu,ar,ao,ah,ah,ar,aw,eS,eS,ah,ao,ah,ah,ar,aw,eS,ao,ao,ah,ah,ar,aw,bv,eS]
abbrev am8:aE:=[aI,aG,aK,aL,av,aY,ah,ar,ao,ao,ah,ah,ar,aw,ao,ah,ah,ar,aw,ao,ah,ah,ar,aw,bu,ar,ao,ah,ah,ar,aw,eS,eS,ah,ao,ah,ah,ar,aw,eS,ao,ao,ah,ah,ar,aw,bv,eS,eS]
abbrev OC:=p7 am8
abbrev am9:=SV.agg [aJ,aJ,aJ,aJ,aJ,aJ,aJ,aJ,aJ,aJ,aJ,aJ,aJ,aJ]
abbrev Hg:=aku (.bin .shr .u64 (Ny (uv fO em)) cn)
abbrev ana:=n7 am9 (jZ 300) gG
abbrev anb:=SV.ref (.k (.string ⟨#[98]⟩))
abbrev OD:=RK.own 173
abbrev anc:ai:=[anb,jZ 50,jZ 60,dq,z7,z7,dq,dq,dq,R7,R7,R7,mS,mS,mS,aJ,aJ]
abbrev ane:aE:=[aI,aG,av,aY,ah,bu]
abbrev anf:aE:=[aI,aG,av,aY,ah,bu,bu]
abbrev ang:aE:=[aI,aG,av,aY,ah,bu,bu,ar]
abbrev EB:=RK.own 3
abbrev anh:aE:=[aI,aG,aK,aL,av,dF,.dead,EB]
abbrev adx:=b9 em n8
abbrev ady:=be.lex [] E
abbrev ani:aE:=[aI,aG,aK,aL,av,dF,.dead,.dead,EB]
abbrev anj:=jN (jN em mj) mW
abbrev ank:=jN (oF em mj) sK
abbrev OE:=iU anj ank
abbrev adz:=b9 jq n8
abbrev EC:=ga jq
abbrev adA:=GI 0 jq mW
abbrev adB:aE:=[aI,aG,aK,aL,av,aY,ao,ah,ar,ao,ah,eD,.dead,cL,bu,dS]
abbrev uY:=ku a jq
abbrev Vz:ai:=[uY 0,uY 1,uY 2,uY 3,uY 4,uY 5,uY 6,uY 7,uY 8,uY 9,uY 10,uY 11,uY 12]
abbrev adC:aE:=[aI,aG,aK,aL,av,aY,ao,ah,ar,ao,ah,.dead,.dead,.dead,bu,.dead]
abbrev qy:=da a jq mj
abbrev anl:=SV.agg [Ci 0 jq mj,qy 1,qy 2,qy 3,qy 4,qy 5,qy 6,qy 7,qy 8,qy 9,qy 10,qy 11,qy 12,qy 13,qy 14,qy 15,qy 16]
abbrev VA:ai:=[yj,sL,Aa,wi]
abbrev adD:=GJ yo VA
abbrev VB:=ec SM
abbrev VC:aE:=[aI,aG,aK,aL,av,aY,ao,ah,ar,ao,ah,.dead,.dead,cL,bu,dS,eD]
abbrev anm:aE:=[aI,aG,aK,aL,av,aY,ao,ah,ar,ao,ah,.dead,.dead,.dead,bu,dS,eD,cL]
abbrev ann:=DJ [fu jq,Ck,uP,An]
abbrev tC:=fW abk my
abbrev avm:aE:=[aI,aG,aK,aL,av,bv,aY,ao,ah,ah,ar,aw,ao,ao]
abbrev ano:aE:=[aI,aG,aK,aL,av,bv,aY,ao,ah,ah,ar,aw,ao,ao,ah,.dead,.dead,.dead]
abbrev adF:aE:=[aI,aG,aK,aL,av,bv,aY,ao,ah,ah,ar,aw,ao,ao,ah,eD,.dead,cL,bu,dS]
abbrev adG:aE:=[aI,aG,aK,aL,av,bv,aY,ao,ah,ah,ar,aw,ao,ao,ah,.dead,.dead,.dead,bu,.dead]
abbrev adH:aE:=[aI,aG,aK,aL,av,bv,aY,ao,ah,ah,ar,aw,ao,ao,ah,ah,.dead,aw,bu,ar]
abbrev VD:aE:=[aI,aG,aK,aL,av,bv,aY,ao,ah,ah,ar,aw,ao,ao,ah,.dead,.dead,cL,bu,dS,eD]
abbrev anp:aE:=[aI,aG,aK,aL,av,bv,aY,ao,ah,ah,ar,aw,ao,ao,ah,.dead,.dead,.dead,bu,dS,eD,cL]
abbrev anq:=Eh [fu gN,pA,uT,tA]
abbrev adI:aE:=[aI,aG,aK,aL,av,bv,aY,ao,ah,ah,ar,aw,ao,ao,ah,ah,ar,aw]
abbrev wP:=RK.mr ⟨3,4,1,E,E⟩
abbrev adJ:=b9 jt N6
abbrev adK:aE:=[aI,aG,aK,aL,av,bv,aY,ao,ah,ah,ar,aw,ao,ao,ah,eD,dS,cL,rj,wP]
abbrev anr:=GO 1 (eY 4 GV pA) adK [da 0 jt Ao,iT] Kl wP
abbrev OF:=mo v7 NY
abbrev ans:=LE.rY v7 [i7]
abbrev adL:aE:=[aI,aG,aK,aL,av,bv,aY,ao,ah,ah,ar,aw,ao,ao,ah,eD,dS,cL,rj,wP,z6]
abbrev adM:=LE.rY v7 [fw]
abbrev ant:aE:=[aI,aG,aK,aL,av,bv,aY,ao,ah,ah,ar,aw,ao,ao,ah,eD,dS,cL,rj,wP,z6,dS]
abbrev adN:aR:=[aQ,.ref z6,.ref dS]
abbrev adO:=b9 gZ N6
abbrev anu:=ep gZ (z8 22) wD
abbrev anv:aE:=[aI,aG,aK,aL,av,bv,aY,ao,ah,ah,ar,aw,ao,ao,ah,eD,dS,cL,rj,wP,.dead,.dead,.dead,dS,z6]
abbrev anw:=DL jO Kd UB acl UC (jw 28)
abbrev adP:=T.node adO (qf (lA (fz (.new 4 (.set (Eo 22) gZ 0 [iT]) [aI,aG,aK,aL,av,bv,aY,ao,ah,ah,ar,aw,ao,ao,ah,eD,dS,cL,rj,wP,.dead,.dead,z6,dS] anv (bY (.new 82 (.set N4 gZ 0 [GI 0 gZ v6]) anv [aI,aG,aK,aL,av,bv,aY,ao,ah,ah,ar,aw,ao,ao,ah,eD,dS,cL,rj,wP,.dead,.dead,.dead,.dead,z6,dS] (.back 5 [Cn,Kd,UB])) (ep gZ N9 wD) (ep gZ N9 wD))) (ep gZ yA wD) (ep gZ yA wD) anu anu) (.back 5 [Cn,wv,Ek]) (Cp 1 1 (jN gZ Ao) aZ rD)) wD adO wD adO) (jc 39 (mZ anw [aI,aG,aK,aL,av,bv,aY,ao,ah,ah,ar,aw,ao,ao,ah,ah,ar,aw,rj,wP,.dead,.dead,ao,ar,ao,ah,ah,ar,aw]) anw [aI,aG,aK,aL,av,bv,aY,ao,ah,ah,ar,aw,ao,ao,ah,.dead,.dead,.dead,rj,wP,.dead,.dead,ao,ar] [eB,kn,eh,wv,oa,Ek] [aQ,J1,Cj,Cj,.ref ar,.ref aw])
abbrev anx:=ta (.loop 5 adN [aJ,pA,tA] adP)
abbrev anz:aE:=[aI,aG,aK,aL,av,bv,aY,ao,ah,ah,ar,aw,ao,ao,ah,eD,dS,cL,rj,wP,dS]
abbrev anA:=b9 ee v7
abbrev avn:=ga ez
abbrev avo:=pm 0 (aU (yc ez))
abbrev anB:=BE.and avn (jd ez)
abbrev anC:=acX (xW my) Ss (.bool Gf) my
abbrev anD:=DL gE wq td uP Ck An
abbrev uZ:aE:=[aI,aG,aK,aL,av,bv,aY,ao,ah,ah,ar,aw,ao,ao,ah,ah,ar,aw,dF]
abbrev j6:=p7 uZ
abbrev K6:=tq Kv
abbrev adQ:=yG 0 ee (da 1 ee yF) (da 2 ee yF) (da 3 ee yF) yF
abbrev K7:=tq J5
abbrev adR:=yD ee Ee
abbrev VE:=tq Uc
abbrev adS:=b9 gZ n8
abbrev anE:=ep gF Kv (ga gF)
abbrev VF:=ep gF Uc (ga gF)
abbrev VG:=ep gF oG (ga gF)
abbrev vc:=da a gF wn
abbrev qz:=iN a gF
abbrev anF:ai:=[.agg [vc 0,vc 1,vc 2,vc 3,vc 4,vc 5,vc 6,vc 7,vc 8,vc 9,vc 10,vc 11,vc 12],.agg [Ci 0 gF km,qz 1,qz 2,qz 3,qz 4,qz 5,qz 6,qz 7,qz 8,qz 9,qz 10,qz 11,qz 12,qz 13,qz 14,qz 15,qz 16]]
abbrev ED:=da a gZ mj
abbrev AC:=da a ee wn
abbrev wQ:=IE.cell D ee a
abbrev VH:=oK 1 (qf (wG 25 (bY (oc 26 (mu j6 j6 j6 (pm 1 Cn) No UA Dx) xU kN uZ [Uz,adQ]) K6 K6) (.agg [ED 0,ED 1,ED 2,ED 3,ED 4,ED 5,ED 6,ED 7]) eh aci uZ) wD adS wD adS) (fz (wG 27 (.node No j6 (oK 2 (fz (oc 26 (bQ j6 (io 28 j6 (fz (jc 27 (oc 26 (mu j6 j6 j6 (pm 2 (fu gF)) VB (ec jx) Jn) Dy Ac uZ [Uz,.agg VA]) adD uZ anF mU) VF VF VG VG) Gg xV uZ [rB,dG,kN]) (fz (jc 27 (oc 26 (mu j6 j6 j6 (pm 2 (fu gF)) VB (ec jx) Gg) xV Ac uZ [Uz,.agg VA]) adD uZ anF mU) VF VF VG VG) Sa Dx) xU p9 uZ [adQ,yG 0 gF (da 1 gF yF) (da 2 gF yF) (da 3 gF yF) yF]) K6 K6 anE anE) (wA (fz (io 29 j6 (pm 0 Ar) Dx xU uZ [eB,Ej,dG,eh,GI 0 ee Ef]) J8 J8 J9 J9) (pm 0 Ar) K7 K7 adR) (b9 gF ee))) (.agg [AC 0,AC 1,AC 2,AC 3,AC 4,AC 5,AC 6,AC 7,AC 8,AC 9,aU (wQ 10 wn),aU (wQ 11 wn),aU (wQ 12 wn)]) Ej aci uZ) VE VE J8 J8) adS
abbrev VI:=fz (lA j k r) n o p q
abbrev oL:=yJ n o (yJ p q r)
abbrev wR:=eo (.cell D d a) e
abbrev AD:=wR a d (.cell P e b) D
abbrev AE:=AD a b ee ee wn yE
abbrev anG:=bY (lA (VI j6 VH VE VE Ul Ul (oL (AE 0 0) (AE 1 1) (AE 2 2) (AE 3 3) (oL (AE 4 4) (AE 5 5) (AE 6 6) (AE 7 7) (oL (AE 8 8) (AE 9 9) (eo (wQ 10 wn) (wQ 10 yE)) (eo (wQ 11 wn) (wQ 11 yE)) (eo (wQ 12 wn) (wQ 12 yE)))))) VH adR) K7 K7
abbrev adT:aE:=[aI,aG,aK,aL,av,.str,bu,av]
abbrev anH:=mo uE (b9 uE lx)
abbrev anI:=eY 2 (fu uE) i7
abbrev anJ:=p7 [aI,aG,aK,aL,av,.str,bu,av,bu]
abbrev rJ:=pl f g j k l (b9 d e)
abbrev rK:=T.node (.cmp .neq d e) j k
abbrev OG:=bY j iK iK
abbrev rL:=SV.int .u64 d
abbrev yM:=wR a aZ d D
abbrev pD:=ku a yk
abbrev pE:=Cm a GC
abbrev EE:=mX d e (mX f g j uN) uN
abbrev qA:=da a DS mj
abbrev qB:=iN a fM
abbrev AF:=io a j k nW nV z B
abbrev nu:=da a bZ ij
abbrev vd:=da a fM sK
abbrev tD:=da a fO xZ
abbrev yN:=wR a d e xZ
abbrev vf:=GH a gZ
abbrev yO:=yM a aZ ml
abbrev AG:=iN a aZ
abbrev Ct:=bQ j k l n (b9 d e)
abbrev VJ:=IE.cell rr d a
abbrev OH:=jc 248 j v He [t,u] Gm
abbrev EF:=OH j t (aU d) u
abbrev AH:=AD a b ee ee sK yE
abbrev Hh:=eY a (fu d) t
abbrev EG:=rJ d e f g j k (OG (ta l))
abbrev AI:=AD a b aZ aZ rI km
abbrev wS:=da a d rr
abbrev AJ:=bQ j k l Az AA
abbrev oM:=eo d iJ
abbrev EH:=io a j k vS p8 z B
abbrev Cu:=AD a b cn cn rI km
abbrev OI:=T.new a (.lit L) z A j
abbrev EI:=yf 134 j t [] B
abbrev Cv:=AD a b cn cn ml km
abbrev anK:=T.loop 3 F B (.pick DF n (jp DF pz) (.rows m9 G [aI,aG,aK,aL,av,aY,bu,wN,av,.dead,Om,m9] (.aV (yJ (.and (jp cn v7) NY) (ga KZ) (b9 KZ DF)) j)) k)
abbrev adU:=T.node n (.bj t) j
abbrev EJ:=wR a cn d D
abbrev Hj:=rK d aZ (n7 t u z) j
abbrev anL:=AD a b bZ bZ ij rr
abbrev Cw:=anK j (GU [fu oI,G3,Oj,G4,G5,G6,G7,G8,G9,Eu,Ew,Ex,Ey,Ez,oH]) (.not (.has ml 1 (.v 79) aZ aZ)) [uH,uI,sT,sU,yt,yu,yv,yw,yz,Af,Ag,Cd,G2,uy,fw] [aQ,aQ,aQ,aQ,aQ,aQ,aQ,aQ,aQ,aQ,aQ,aQ,aQ,Vg,.ref m9] (.ins Oe 1 [KR])
abbrev Cx:=anK j (GU [fu kP,G4,G5,G6,G7,G8,G9,Eu,Ew,Ex,Ey,Ez,KR,KS,KT,oH]) (.not (.has ml 1 (.v 82) aZ aZ)) [DU,sT,sU,yt,yu,yv,yw,yz,Af,Ag,Cd,G2,Oi,G3,uy,fw] [aQ,aQ,aQ,aQ,aQ,aQ,aQ,aQ,aQ,aQ,aQ,aQ,aQ,aQ,Vg,.ref m9] (.ins Oe 1 [cX 82])
abbrev AK:=IE.cell km d a
abbrev avp:=T.node (rh iJ vZ) j k
def T82:T:=yi bZ cz Nl nU
def T84:T:=AF 82 oD (EH 82 oD (Ap 82 oD (Es 82 oD (bY (io 154 oD (io 154 oD (io 154 oD (io 154 oD (io 154 oD (eA 142 (pl im aZ oD oD (DA oD aav aav aav (cV im) (Jo aZ ja cn gN) (Jo ja ee gN jt)) Dz) jb jr lu [mM aJ dq,mM fY gu] lw) (sG 8) (jL 8) lu [ik,tw 2 dZ ij,dq,jW]) Jn Dy lu [gE,.bool (nZ (B4 5 dZ) aZ),dq,da 5 dZ ij]) Gg xV lu [eX,.bool (nZ (B4 4 dZ) aZ),dq,da 4 dZ ij]) Dx xU lu [eh,tw 1 dZ ij,da 3 dZ ij,Dw]) BW uu lu [lL,tw 0 dZ ij,dq,ki]) (ep dZ (.c 10) Nn) (ep dZ iJ Nn)) zV lu [i8,dq,mS]) lu [gg,aJ,zY fM cn]) lu [iS,aJ,zY gZ cn]) lu [mg,dq,R7]
def adX:T:=mX cz bZ Nl nU
def adY:T:=bQ Sd Sd (pl cz zW Sd Sd (pl aaD mL (uK aJ) (uK (zY aaD mL)) (uK (aU aaD)) (cV bZ)) aaC) aaA aaB
def VK:T:=bQ Se Se (pl cz nX Se Se (kQ (bY (bQ (.node (cV Np) (ta (mZ (mT (j5 zX Nq) (j5 zX Nr) Si) lu)) (ta (mZ (mT (j5 zX Nq) (j5 (.c 20) Nr) Si) lu))) (ta (mZ (mT (j5 (.c 20) Nq) (j5 zX Nr) Si) lu)) (ta (mZ (mT (j5 (.c 20) Nq) (j5 (.c 20) Nr) Si) lu)) (cV Np) (cV Np)) aaE aaF) (cV bZ) (mT aJ aJ (j5 qc Np)) aJ lu) (b9 cz cn)) aaA aaB
def adZ:T:=bQ ako ako (fz (fW (uw (aU Nq) (aU Nr) aJ) lu) aaE aaF aaE aaF) (b9 bZ cn) aaB
def VL:T:=gj 210 (rK dZ aZ (sI aJ (jZ 120)) (yC 210 (sI aJ (jZ 120)) (gj 110 (uK eh) eh [] [aU (jy bZ gh),j5 ez cz]) Sj lL [] [mM gg i8])) mg [] [mM ju iS]
def VM:T:=pl cz Gh Ns Ns (rJ bZ Sk bZ Gh Ns Ns (qh 276 (jc 275 (rK gh cn Ns rm) (rL gh) [] [rL ez,rL (Ny cz)] [Nt]) ju (rL ez) [] [Nt])) (b9 cz cn)
def VN:T:=mq (kh (rL (Ny bZ))) aaA (rL (.bin .sub .u64 aZ (Ny bZ))) []
def ad0:T:=bY (.aV (ec cz) (kh (xY (qe bZ (xX (uv (xX bZ cz .rem) cz) cz .rem)) cz .quo))) (ec cz) (ec cz)
def VO:T:=gj 210 (Ct ez Sk (kh (uw aJ aJ i8)) (kh aaG) (ya ez Gh (kh aaG) (gj 371 (gj 371 (kh (uw mg (zY aZ i9) aJ)) lL [] [j5 (qe aZ bZ) ez,iS]) mg [] [j5 bZ ez,iS])) Sm) i8 [] [mM ju iS]
def VP:T:=mq (vW 0 (.aV (ec (iU dZ cn)) (mq (DJ [rL gh,rL dZ,rL akp]) (cV akp) (rL dZ) [])) Sm (rL ez) [] [rL cz,rL bZ,rL cz] [Nt,Nt,Nt]) (cV cz) (rL bZ) []
def VQ:T:=yf 192 (yg 192 (bQ (.node sD rm (kh Gi)) Jr (rJ bZ cz bZ cz (kh Gi) Jr rm) BV sD) [] [iS]) nV [] [ju]
def VR:T:=Nk (rh bZ bZ)
def T66:T:=rJ bZ Nu bZ Nv nU nU (rJ cz Nu cz Nv nU nU (rJ ez Nu ez Nv nU nU (rJ gh Nu gh Nv nU nU (mX bZ cz (Nk (jp ez gh)) nU))))
def T72:T:=AF 66 aaH (EH 66 aaH (uK (fh (Gw bZ dZ) (sP cz i9) (Gw ez iC) (sP gh jq))) [] [Sn]) [] [BX]
def T69:T:=eA 72 (Nk Nw) Sn gE [] [BX,BX] mU
def ad4:T:=yf 66 (Ct dZ akq aaH Js (Ct i9 akq Js Js (ya i9 (.c 2199023255552) Js (EH 66 Js (uK akr) [] [akr])) (nZ dZ (.c 2199023255552))) nW) nV [] [BX]
def T24:T:=AF 66 (sI i7 Jp) (yg 66 (bQ (sI i7 Jp) (mX cz i9 (yi ez iC (uK (.bool (jp gh jq))) (uK i7)) (uK i7)) (uK i7) vS (As bZ dZ)) [] [Sn]) [] [BX]
def ad6:T:=rJ bZ DC bZ rq vV vV (rJ cz DC cz rq vV vV (rJ ez DC ez rq vV vV (rJ gh DC gh rq vV vV (rJ dZ DC dZ rq vV vV (rJ i9 DC i9 rq vV vV (uK (oE (uv (jy bZ gh) (jy cz dZ)) (jy ez i9))))))))
def ad7:T:=sH (jc 139 (kh Nx) aaI [] [ju,mS] DD) akt akt (cV cz) (ip ez)
def ad8:T:=mq (yg 82 (kh p8) [] [ju,iS,gg]) nW (.bool (cV bZ)) []
def ad9:T:=mX cz bZ Nl nU
def aea:T:=yI 0 (bY (lA (Hh 0 Gj i8) (uJ gg (aU Gj)) (nZ (jN Gj ij) cz)) (m7 Gj Gj iJ) (m7 Gj Gj iJ)) (bY (.aV (m7 Gk Gk iJ) (GG (oE (oF Gk ij) (jy (qe cz (jN Gk ij)) (B4 2 Gk))))) iK (m7 Gk Gk iJ)) (b9 ez gh) (aU iJ) lw
def aeb:T:=gj 81 (Hj ez (AF 219 (n7 aJ dq pn) (gj 220 (mZ i8 pn) i8 pn [Ju,iS]) pn [iS,aJ,aU DB]) aJ gg pn) gg pn [Ju]
def aec:T:=eA 353 (mq (gj 210 (mq (AF 219 (GG aaG) (jc 354 (GG (uw eX gE ik)) (uw eX gE ik) pn [mM gg i8,mg] Gm) pn [gg,aJ,i8]) (ec iC) (uw aJ aJ eh) pn) eh pn [mM gg i8]) Sj (uw aJ aJ lL) pn) mg lL pn [Ju,iS] lw
def aed:T:=jc 310 (jc 310 (GG (sP aZ (qe fM jY))) (uw mi jM kN) pn [Ju,i8,mM gu dG] Gm) (uw jO jb jr) pn [Ju,i8,mM jX jW] Gm
def T70:T:=mX cz bZ Nl nU
def T65:T:=yC 37 (AF 70 (fW dq gG) (fW eX gG) gG [eh,aJ,aaJ]) (fW eX gG) Ss eX gG [eB]
def T12:T:=yf 33 (pl iJ mL DG (mX iJ NA DG akw) akw nW) nV aaK [eB]
def VS:T:=pl vZ NA NF NF (pl (z8 3) NA NF NF (.node (jp sJ (.c 80)) (mX i9 DH (xW gG) aky) aky) (nZ Sg NA)) (nZ iJ NB)
def T18:T:=eA 16 (kQ (n7 i7 eX akA) Ss (.bool (cV v7)) eX akA) uA eX uz akz St
def T20:T:=avp (p7 [eS,eS]) (NE 0 (VI (p7 [eS,eS]) avh Jx Jx akB akB (yJ avg (anL 1 1) (anL 2 2))) Su [eS,eS])
def T37:T:=bQ (fW ki gG) (fW ki gG) (gj 81 (mq (AF 82 v8 (EH 82 v8 (gj 83 (Ct ez aZ v8 v8 (bQ v8 v8 (oK 0 (qf (Ap 82 v8 (Es 82 v8 (io 82 v8 DM BW uu gG [da 3 fO ij,aJ,NI]) zV gG [da 2 fO ij,aJ,iS]) gG [da 1 fO ij,aJ,ju]) zZ Sw zZ Sw) (vW 1 (bY (pl Sz rq v8 v8 (Ap 84 v8 (eY 1 B3 (aU Sz)) gG [.agg akC,aU iJ,lL]) (jp Sz ja)) Sy Sy) aaN aJ gG [aJ,Gi] lw) Sw) (b9 gh aZ) (cV iJ)) wa) eX gG [mT gg i8 mg]) gG [iS,dq,aU BY]) gG [ju,dq,aU BY]) (ec iC) eh gG) eh gG [Gn]) (nZ iJ NA) (nZ sJ DH)
def T86:T:=KO (qo 4 (fW Gl [ao,ao]) NJ [ao] [ao,z6] SC) (fW fw [ao]) SA
def T87:T:=KO (qo 71 (fW Gl [ah,ah]) NJ [ah] [ah,eD] SC) (fW fw [ah]) SA
def T88:T:=KO (qo 96 (fW Gl [bu,bu]) NJ [bu] [bu,uC] SC) (fW fw [bu]) SA
def VT:T:=gj 173 (aaM (As gh aZ) [bu]) i8 [bu] [Jt,fh ju iS gg nV]
def VU:T:=ND 0 (bY (mq (DJ [fu gh]) (yJ (eo bZ (jN gh ij)) (eo cz (oF gh ij)) (.and (eo ez (B4 2 gh)) (.beq BV (Kb gh ij)))) i8 [bu]) (mo gh (jd gh)) (mo gh (jd gh))) (jd gh) Gi [bu]
def VV:T:=ND 0 (bY (sH (sH (sH (wA (bY (AF 102 (xW aaP) DN aaP [GI 0 Gp mW,yG 0 nY aJ aJ iT xZ]) akF akF) DN akE akE (yD Gp mj)) DN DN (.and (yN 10 nY gc) (yN 11 nY ge)) (.and (yN 12 nY jY) (yN 13 nY gF))) DN DN (yN 4 nY (qe (.c 15) gN)) (yN 9 nY (yc fO))) DN DN (yN 2 nY em) (eo Gp (vU im))) akD akD) (b9 nY sJ) i7 aaP
def aej:T:=oc 26 (Nk nW) nV gE [] [BX,Sn]
def aek:T:=pl iJ (.c 32) SF SF (.aV (jd aZ) (gj 207 (rK bZ mh SF (NE 0 (.aV aax (gj 207 (rK ez mh (rK ez nX (rK ez wb SF aaz) aaz) aaz) gg kO [.int .u8 (.mD ij cz)])) aaw kO)) ju kO [.int .u8 (.mD ij aZ)])) (.seq ij (.k (.string ⟨#[]⟩)))
def T77:T:=gj 37 (kQ (AF 82 (rC dq gG) (EH 82 (rC dq gG) (G0 0 (bY (sH (gJ 90 (uJ B3 kn) (iM n8) akK [aI,aG,aK,aL,av,.dead,ye] akC aaQ) (uJ B3 mN) (uJ B3 mN) (yN 1 em iC) (yN 2 em jq)) Sy Sy) (.dw 140 141 90 (.ratio 10 11) J mj akK (fW aaR [aI,aG,aK,aL,av,.dead,av])) aaN ye) gG [eX,aJ,aaJ]) gG [eh,aJ,zY iJ cn]) akJ fw gE gG) gE gG [eB]
def aem:T:=bQ akN akN (bQ nU (.node (eo dZ wb) akL aaT) aaT (rh gZ bZ) nW) (jf dZ) (ip dZ)
def aen:T:=yi bZ cz Nl nU
def aeo:T:=yi bZ (.c 97) (mX bZ (.c 122) (kh ki) akQ) akQ
def T25:T:=yf 69 (bQ DO (KN DO DO (mX DC iC (KN DO (KN DO (lA (sI rp dq) (qu 133 (.node NK Js (gJ 65 (qu 133 (kQ (gJ 65 (fz (wG 72 (fW akT [.dead,aw]) (yG 0 aZ (wS 1 aZ) (wS 2 aZ) (wS 3 aZ) rr) (yG 0 cn (wS 1 cn) (wS 2 cn) (wS 3 cn) rr) akT [.dead,.dead]) (b9 aZ vZ) (b9 aZ vZ) (b9 cn vZ) (b9 cn vZ)) NJ [cL] [.dead,cL] [jW,jO,jb,jr] (.ref ij)) (ec ge) rp ki [aw]) mi [.dead] [BX,j5 akS iC,j5 akS jq] [jW,jO,jb,jr] mU) iK [] [cL] [ik,fY,gu,dG] SB)) jX [] [BX,j5 akR iC,j5 akR jq] [ik,fY,gu,dG] mU) (jp fO (.c 4095))) (sI rp dq) (jp jq rq) zZ) DO (jp iC rq) (jp DC jq)) DO) (jp dZ i9) (As i9 DH)) DO nW Nn) nV [] [BX]
def VW:T:=mq (KO (qo 90 (K4 223 224 90 (Aw 0 (bY (vW 1 (wA (bY (io 225 (bY (gJ 258 (uJ (fu bZ) kn) (iM n8) [av,bu,.dead,ye,.dead,NL] [av,bu,.dead,ye,.dead,.dead,NL] [aU Sv,nu 1,nu 2,nu 3,nu 4,nu 5,nu 6,nu 7,nu 8,nu 9,akG,akH,akI,nu 13,wS 0 cz,wS 1 cz,wS 2 cz,tw 3 cz rr] aaQ) SK SK) akU BV nV [av,bu,.dead,.dead,.dead,.dead] [.agg [aU Sv,nu 1,nu 2,nu 3,nu 4,nu 5,nu 6,nu 7,nu 8,nu 9,akG,akH,akI,nu 13],fh (wS 0 cz) (wS 1 cz) (wS 2 cz) (tw 3 cz rr)]) SK SK) akU (.and Sc aaV) (.and Sc aaV) (wR 0 cz Sv (.v 3))) aaV aaU [av,bu,.dead,av,.dead,we] [aJ,Nz] DP) Jx Jx) (n7 Nz iT [av,bu,.dead,av,we]) Su DP) [av,bu,ye] rk SJ) NJ [av,bu] [av,bu,ye] SC) (K4 223 224 90 (Aw 0 (bY (vW 1 aaW aaC aaU [av,bu,av,.dead,we] [aJ,Jv] DP) Jx Jx) (n7 Jv iT [av,bu,av,we]) Su DP) [av,bu] aaO SJ) SA) (rh iJ vZ) aaU [av,bu]
def Cy:T:=gj 74 (Hj SL (UT 75 (bQ (n7 rp uF kO) (sH (sH (mZ (fh (aU SQ) (aU SR) (aU SS) (aU SU)) kO) (sO (B9 SQ (po gF DQ) SR (po gF DQ) SS (pu gF B7) (sP SU (pu gF B7))) Gq uG dG NN B6) (sO akW Gq uG fY NN Jz) DE Ad) (Gu 138 (Gv (.node DE akW (sO (DW (ly SY JD) (iU SZ JD) (ly S2 JE) (iU S3 JE) (sO (B9 (ly SY JD) JH (iU SZ JD) JH (ly S2 JE) JI (sP (iU S3 JE) JI)) JF sQ dG GB B6) Ad kO) JA sN fY JC Jz)) uG gE NN) eX gg Gq lw) (Gu 138 (Gv akY uG eh NN) lL gg Gq lw) (cV iC) Nw) (Gu 138 (Gv (.node (cV iC) akY (Gu 138 (Gv (sH (DW aa1 aa2 aa3 aa4 (sO (B9 aa1 JH aa2 JH aa3 JI (sP aa4 JI)) JF sQ dG GB B6) Ad kO) (sO akZ JF sQ fY GB Jz) (Gu 138 (Gv (.node DE akZ (sO (DW ak0 ak1 ak2 ak3 (eA 138 (qu 139 (B9 ak0 (po gF (.v 57)) ak1 (po gF (.v 57)) ak2 (pu gF (.v 58)) (sP ak3 (pu gF (.v 58)))) yz kO [sU,dG] [yu,yv,yw] DD) sU yt kO B6 lw) Ad kO) Tg yp fY aa0 Jz)) sQ gE GB) eX gg JF lw) Nw DE) sN eh JC) lL gg JA lw)) uG mg NN) i8 gg Gq lw) SO (cV dZ)) uF kO [Jt,jX,jW,jO,jb,jr,mi,jM,kN,p9,yj,sL,Aa,wi,yo,Ac,rz]) rp ru kO) ru kO [aaX]
def VX:T:=wl (EI (bQ JN (JO (EI (bQ JN (JO (EI (bQ JN (JO (EI (bQ JN (JO (EI (bQ JN (wl rm (sG 11) (sG 12) (jL 11) (jL 12) NQ NR) rm (sG 10) NP) (jL 10) Tm) (sG 9) (jL 9) Tl) ak4 (sG 8) Tk) (jL 8) abb) Jn Dy aba) ak6 Gg aa9) xV [eh,dq,mS]) Dx xU [lL,aJ,Dw]) ak9 BW (.not aks)) uu [mg,dq,mS]) zV vT [i8,aJ,Dw]) (KN (wl ak9 zV BW vT uu [lL,aJ,Dw] [eh,dq,mS]) (wl ak8 zV BW vT uu aba abb) (bQ (wl ak7 zV BW vT uu Tl Tm) (wl rm zV BW vT uu NQ NR) rm Tk NP) aks aa9) Gf (Tj (cV gh) (cV dZ))) pj [gg,aJ,NI]) nW vS nV p8 [ju,aU Sk,aU Gh] [iS,aU Sk,aU Gh]
def aeq:T:=iL 0 (.aV Sm (uJ (xY dZ gh .rem) i8)) (iL 1 (.aV Sj (eY 1 (xY iC i9 .rem) lL)) (iL 2 (.aV wa (eY 2 (xY fO jq .rem) eX)) (bY (.aV (ec JP) (kh (mT (xY bZ JP .quo) (xY cz JP .quo) (xY ez JP .quo)))) (ec JP) (ec JP)) wa [gg,eh] lw) Sj [iS,mg] lw) Sm [ju,aJ] lw
def T83:T:=pl ez (.c 32768) JQ JQ (rJ (ly bZ cz) (qe aZ ez) (iU bZ cz) ez JQ JQ (rK (uv (jy bZ bZ) (jy cz cz)) (jy ez ez) JQ (qh 153 (lA JQ rm (yJ (eo gh bZ) (eo dZ cz) (eo i9 ez))) (mT ju iS gg) Nx [] Gm))) (b9 ez cn)
def VY:T:=yf 135 (bQ sW sW (bQ sW sW (Ct i9 cn sW sW (Ct iC cn sW sW (Ct jq cn sW sW (Ct fM aZ sW sW (ya fM rq sW (OG (EG gN cn gN nX m5 m5 (EG ee cn ee nX m5 m5 (EG jt cn jt nX m5 m5 (EG fO cn fO rq m5 m5 (EG em cn em rq m5 m5 (EG ja cn ja rq m5 m5 (EG gh cn gh (.c 16) m5 m5 (EG dZ aZ dZ (.c 16) m5 m5 (pl cz (.c 500) m5 m5 (OG (ta (rJ gZ aZ gZ rq m5 m5 (ta (fW aJ kO))))) aaC))))))))))) (nZ jq mL)) (nZ iC mL)) (nZ i9 mL)) (nZ ez DF)) (nZ bZ (.c 500)) (b9 ez cn)) nW (b9 bZ cn)) nV kO [Jt]
def OJ:T:=gj 65 (mq (G0 0 (bY (sH (rK abd To (GO 2 (uJ Sx kn) [aI,aG,aK,aL,av,ko] [Gw To abd,sP To abd,iT] aaQ ko) abe) abe abe (yN 2 fO iC) (yN 4 fO zW)) JS JS) (vW 1 (yI 2 (.node (Cp 2 2 em ja mj) (gJ 142 (eY 2 D4 oa) (iM n9) [aI,aG,aK,aL,av,ko,.dead,Tp] [aI,aG,aK,aL,av,ko,.dead,.dead,Tp] [ik,fY] NS) (eY 2 D4 mY)) (eY 1 B3 mY) (jd ja) kn (B5 Tp)) (jd em) aaR [aI,aG,aK,aL,av,ko,dF] SE (B5 Tp)) abc ko) wa Tn gG) eX gG JR
def VZ:T:=eA 77 (GF oG n8 (fW gE D5) (fW NT D5) (KO (Er 90 (K4 223 224 90 (vW 0 (bY (vW 1 (wA (bY (io 225 (bY (gJ 258 (uJ B3 DK) (iM yA) [aI,aG,aK,aL,av,bu,av,.dead,ye,.dead,NL] [aI,aG,aK,aL,av,bu,av,.dead,ye,.dead,.dead,NL] [fy 0,fy 1,fy 2,fy 3,fy 4,fy 5,fy 6,fy 7,fy 8,fy 9,fy 10,fy 11,fy 12,fy 13,tj 0,tj 1,tj 2,tw 3 ja mj] Tx) D6 D6) (eY 1 D4 oH) BV nV [aI,aG,aK,aL,av,bu,av,.dead,.dead,.dead,.dead] [.agg [fy 0,fy 1,fy 2,fy 3,fy 4,fy 5,fy 6,fy 7,fy 8,fy 9,fy 10,fy 11,fy 12,fy 13],fh (tj 0) (tj 1) (tj 2) (tw 3 ja mj)]) D6 D6) (eY 1 D4 oH) Tv Tv (eo Tw (jN em km))) NU NT [aI,aG,aK,aL,av,bu,av,.dead,av,.dead,we] [aJ,uy] DP) JT JT) Tu aJ [aI,aG,aK,aL,av,bu,av,.dead,av,we] SE DP) alb mV SJ) Ts D5 alb SB Tt) (K4 223 224 90 (vW 0 (bY (vW 1 aaW (b9 ja aZ) NT [aI,aG,aK,aL,av,bu,av,av,.dead,we] [aJ,oa] DP) JT JT) Tu aJ [aI,aG,aK,aL,av,bu,av,av,we] SE DP) D5 aaO SJ) (jp oG aZ)) akJ) kn gE ala Tq Cb
def V4:T:=eA 77 (kQ (gj 74 (Hj (.v 22) (eA 155 (kQ (iL 0 (bY (eA 227 (bQ (n7 GD Cd NV) (mZ ald NV) (DJ [fu yk,yq,Ae,uH,uI,sT,sU,yt,yu,yv,yw,yz,Af,Ag,yq,Ae,uH,uI,sT,sU,yt,yu,yv,yw,yz,Af,Ag]) (ec (.v 63)) (ec (.v 63))) ald Cd NV [.agg [sN,Gt,DT,DU,JB,DV,sQ,Gx,Gy,Ca,DZ,GA,yp],.agg [pD 0,pD 1,pD 2,pD 3,pD 4,pD 5,pD 6,pD 7,pD 8,pD 9,pD 10,pD 11,pD 12,pD 13],fh (pD 14) (pD 15) (pD 16) (tw 17 yk mV)] Cc) (mo yk (pw yk)) (mo yk (pw yk))) (mZ (.agg [Aa,wi,yo,Ac,rz,ru,uF,uG,NM,Gr,DR,Jy,Gs]) NV) (pw yk) [aJ,gE,ik,fY,gu,dG,jX,jW,jO,jb,jr,mi,jM,kN,gE,ik,fY,gu,dG,jX,jW,jO,jb,jr,mi,jM,kN] [aQ,aQ,aQ,aQ,aQ,aQ,aQ,aQ,aQ,aQ,aQ,aQ,aQ,aQ,aQ,aQ,aQ,aQ,aQ,aQ,aQ,aQ,aQ,aQ,aQ,aQ,aQ]) nW GD NT NV) mY nV D5 [kn,mN] [.ref we,.bool]) GD yj D5) yj D5 [Tz]) Sa GD p9 D5) kn p9 ala Tq Cb
def V5:T:=gj 74 (bQ (sI GD uF) (io 134 (io 134 (io 134 (io 134 (EI (bQ (.node (.v 5) (io 134 (EI alu Dy [ru,aJ,aJ]) D7 (.v 6) xV [] [rz,aJ,aJ]) D7) (io 134 (EI alu Dy [ru,alh,ali]) D7 (.v 6) xV [] [rz,Ak aZ aZ alf,Ak aZ aZ alg]) D7 BV (.v 5)) xU [p9,Ak cn cn (oJ aZ aZ (oJ aZ cn TA Aj Ce) Ah Ai),Ak (.c 16) (.c 16) (oJ aZ aZ (oJ aZ zW TA Aj Ce) Ah Ai)]) NW (.v 4) uu [] [kN,alh,ali]) NW zU vT [] [jM,Ak cn cn alf,Ak mL mL alg]) NW zT pj [] [mi,Ak cn aZ (oJ cn cn (.cR Aj aZ ale) Ah Ai),Ak mh aZ (oJ mh mh (oJ aZ aZ (kq aZ aZ mh JU JV JW) Aj Ce) Ah Ai)]) NW sD p8 [] aaS) NW SO (Cg (gH gc) (gp gc) (Cg Ah Ai (Am Aj Ce JU JV JW)))) uF [] [aaX]
def T81:T:=mX (iU iJ vZ) DH (KN (GG ki) (mX bZ DH (ya iJ aZ (bY (lA uN (yI 0 (bY (EE (yc ez) aay aay DB (EE (.c (-65536)) (oF cz ij) (oF cz ij) (.c 65536) (mX (.c (-65536)) (B4 2 cz) (lA uN (uJ (fu cz) (aU aay)) (jp (B4 2 cz) (.c 65536))) uN))) aax aax) (oK 1 (gj 220 (mX cn dZ (lA uN (.back 1 [fu gh]) (jp dZ (.c 65536))) uN) mg pn [Ju,i8]) (yI 2 (qf (EE (yc i9) abi abi (qe bZ mh) (EE cn (oF dZ rr) (oF dZ rr) mh (EE aZ (VJ 2 dZ) (VJ 2 dZ) (VJ 3 dZ) (lA uN (Hh 2 dZ (aU abi)) (jp (VJ 3 dZ) rq))))) Nn abh Nn abh) (ND 3 (qf (EE aZ (yL 0 rk) (yL 0 rk) bZ (EE aZ (yL 1 rk) (yL 1 rk) bZ (rK (yL 0 rk) (yL 1 rk) (EE Nu (yL 2 rk) (yL 2 rk) (yL 3 rk) (lA uN (Eh [fu iC]) (jp (yL 3 rk) Nv))) uN))) NC abj NC abj) abj aJ pn) abh Gi lw) (b9 gh bZ)) aaw Gi lw) (yM 0 aZ ij)) (jd aZ) (jd aZ)) uN) uN) uN (jp Sg (.c 256)) (jp cn bZ)) (GG ki)
def T13:T:=gj 37 (Ct iC aZ (n7 tc eX Ch) (n7 tc dq Ch) (bQ (n7 tc dq Ch) (sH (lA D9 (oK 0 (fz (fz (yC 75 (gj 74 (bQ D9 (yC 85 D9 DM abo gu Ch [eB,gE,eh,.ref alv]) (lA D9 DM (cV (.len alv))) TR abn) fY Ch abm) D9 Sq ik Ch [abl]) J0 J0 (ep fO wm zZ) (ep fO wm zZ)) Ed Ed JZ JZ) (qh 86 (qh 87 (iL 1 (fz (fz (qh 88 (gJ 82 (.node (yD em mV) (qu 89 (Hj yk (qu 90 (Hj uE (gJ 71 (gJ 65 alz TY TX aly [Aa,wi,yo,Ac] TZ) NY abs TX alw abv) tc rz abu) rz abt [eB,ik,eh,.agg TW,alx,abp] [Aa,wi,yo,Ac] mU) tc sL abu) sL abt [eB,ik,eh,.agg TW,abp] alw Cc) (wG 27 (kQ (gJ 71 (gJ 65 alz TY TX aly [fY,gu,dG,jX] TZ) NY abs TX TW abv) NZ tc jW abu) (.agg TW) alx abx abt)) abq [aI,aG,aK,aL,av,bv,aY,ao,ah,ar,ao,ah,eD,dS,cL,bu] abs [uP] abr) abp uP [aI,aG,aK,aL,av,bv,aY,ao,ah,ar,ao,ah,.dead,.dead,.dead] TV) (ep em lx BZ) (ep em lx BZ) J4 J4) JT JT J3 J3) (mZ (DL eh oH DK uA wq td) avi) Tu TU TS) oa DK [aI,aG,aK,aL,av,bv,aY,ao,ah,ar,ao] [Cj]) mY oH Ch [J1]) NX) (oM wm)) D9 D9 (oM n9) (oM lx)) D9 (As iC i9) (oM oG)) wa) eX Ch [eB]
def nx:T:=gj 37 (bQ (fW Tn uz) (rC ki uz) (DA (bQ th (DA th (oK 0 (fz (fz (yC 75 (gj 74 (mu th (yC 85 th DM abo gu uz alB) th DM TR abn alC) fY uz abm) th Sq ik uz [abl]) J0 J0 T1 T1) Ed Ed JZ JZ) (oK 1 (fz (wG 72 (.node (cV gZ) (bY (gj 74 (lA th T3 SH) jO uz alD) J4 J4) th) T2 T2 abx uz) Eg Eg Eg Eg) (oK 2 (bY (jc 25 (kQ (pm 2 D4) (ec fM) fw jO uz) alF uz alE mU) D6 D6) (qh 86 (qh 87 (iL 3 (fz (fz (qh 88 (gJ 82 (.node (yD gN mV) (jc 89 (kQ (jc 90 (kQ (gJ 71 (gJ 65 alI Ui Uh alH Ug Uj) TY abz Uh Uf TZ) SO fw uF abC) (GJ uF Ug) abB alG mU) (ec uD) fw wi abC) (GJ wi Uf) abB [eB,gu,eh,N1,N0] Cc) (wG 27 (mq (gJ 71 (Er 65 alI Ui Uh alH Uj abG) TY abz Uh abA TZ) GK J7 abC) N1 abD abF abB)) Ud [aI,aG,aK,aL,av,bv,aY,ao,ah,ah,ar,aw,ao,ah,eD,dS,cL,bu] abz [An] Ue) N0 An [aI,aG,aK,aL,av,bv,aY,ao,ah,ah,ar,aw,ao,ah,.dead,.dead,.dead] TV) Ua Ua Ub Ub) T4 T4 T5 T5) (Aw 4 (fz (fz (VI (ql (fz (oc 24 (bQ (fW abH [aI,aG,aK,aL,av,bv,aY,ao,ah,ah,ar,aw,ao,ah,ah,ar,aw,bc,bc]) (ql (.node abI (eA 77 (mq (yI 5 (qf (oK 6 (rG (eA 78 (Ki alN (yg 102 (mu (Kj (bQ (rG abS Em ww) (rG abS Em ww) Em Ur Us) abQ alO) (rG abT uU ww) (rG abT uU ww) uU vS Ur Us) abP [wv,abO]) Dz Ei Ei) wv jr abM [eB,aU Ka,Ej] GM) abU (eo Uo Ka)) (eA 78 (Ki alN (yg 102 (mu (Kj (bQ alR alR Em Ur Us) abQ alO) alS alS uU vS Ur Us) abP [wv,abV]) Dz eW eW) wv jr abM [eB,aU Ka,Ej] GM) Un) yH abL yH abL) (eA 104 (mq (yI 6 (qf (ql (eY 6 GQ Kd) [aI,aG,aK,aL,av,bv,aY,ao,ah,ah,ar,aw,ao,ah,eD,dS,cL,bc,bc,bc,av,bc,Aq,bc] [ki,dG,oE cn (oF gc (.v 22)),iT] N4) GP abX GP abX) (eY 4 Ar Ek) abX tA Cl) GK J7 [aI,aG,aK,aL,av,bv,aY,ao,ah,ah,ar,aw,ao,ah,ah,ar,aw,bc,bc,bc,av,bc,Aq]) wv jb abM abW (yb Aq)) abL uT Cl) NZ abK [aI,aG,aK,aL,av,bv,aY,ao,ah,ah,ar,aw,ao,ah,ah,ar,aw,bc,bc,bc,av]) pA jW [aI,aG,aK,aL,av,bv,aY,ao,ah,ah,ar,aw,ao,ah,.dead,.dead,.dead,bc,bc,bc] abJ Cb) (eY 4 Ar uT)) [aI,aG,aK,aL,av,bv,aY,ao,ah,ah,ar,aw,ao,ah,eD,dS,cL,bc,bc] [SI,dG,aJ,iT] alM) alZ NK nW) nV jX alL alK) J9 J9 Um Um) alJ [z7,dG,aJ,iT] N2) (fz (oc 24 (mu (fW abH [aI,aG,aK,aL,av,bv,aY,ao,ah,ah,ar,aw,ao,ah,ah,ar,aw,bc]) (ql alZ alJ [SI,dG,aJ,iT] N2) (eA 77 (mq (iL 5 (qf (oK 6 (rG (eA 78 (Ki al0 (yg 102 (mu (Kj (bQ (rG ace uU ww) (rG ace uU ww) uU Uw Ux) acb al1) (rG acf Km ww) (rG acf Km ww) Km vS Uw Ux) aca [pA,abO]) Dz Ei Ei) pA jr ab9 [eB,aU Kk,Ej] GM) abU (eo Uo Kk)) (eA 78 (Ki al0 (yg 102 (mu (Kj (bQ al4 al4 uU Uw Ux) acb al1) al5 al5 Km vS Uw Ux) aca [pA,abV]) Dz eW eW) pA jr ab9 [eB,aU Kk,Ej] GM) Un) yH ab8 yH ab8) (eA 104 (mq (yI 6 (qf (ql (eY 6 GQ wv) [aI,aG,aK,aL,av,bv,aY,ao,ah,ah,ar,aw,ao,ah,eD,dS,cL,bc,av,bc,Aq,bc] [ki,dG,oE cn (oF gc rF),iT] Uq) GP acg GP acg) (eY 4 Ar tA) acg uT Cl) GK J7 [aI,aG,aK,aL,av,bv,aY,ao,ah,ah,ar,aw,ao,ah,ah,ar,aw,bc,av,bc,Aq]) pA jb ab9 abW (yb Aq)) ab8 N5 Cl) NZ abK [aI,aG,aK,aL,av,bv,aY,ao,ah,ah,ar,aw,ao,ah,ah,ar,aw,bc,av]) rB jW ab7 abJ Cb) (eY 4 Ar An) NK nW abI) nV jX ab7 alK) J9 J9 Um Um) (tq wm) (tq wm) Ul Ul (oL (AH 0 0) (AH 1 1) (AH 2 2) (AH 3 3) (oL (AH 4 4) (AH 5 5) (AH 6 6) (AH 7 7) (oL (AH 8 8) (AH 9 9) (wR 10 ee (wQ 10 yE) sK) (wR 11 ee (wQ 11 yE) sK) (wR 12 ee (wQ 12 yE) sK))))) (tq lx) (tq lx) (tq yA) (tq yA)) J8 J8 (tq n9) (tq n9)) (eA 23 (mq (Aw 5 (KQ (wG 27 (kQ (gJ 65 (eY 5 Cn pA) (iM Kf) [aI,aG,aK,aL,av,bv,aY,ao,ah,ah,ar,aw,ao,ah,eD,dS,cL,bc,dF,cL] [aI,aG,aK,aL,av,bv,aY,ao,ah,ah,ar,aw,ao,ah,eD,dS,cL,bc,dF,.dead,cL] [jO,jb,jr,mi] Kl) No fw jM [aI,aG,aK,aL,av,bv,aY,ao,ah,ah,ar,aw,ao,ah,ah,ar,aw,bc,dF,aw]) (.agg [vf 0,vf 1,vf 2,vf 3,vf 4,vf 5,vf 6,vf 7,vf 8,vf 9,vf 10,vf 11,vf 12]) (.agg [Ci 0 gZ km,nc 1,nc 2,nc 3,nc 4,nc 5,nc 6,nc 7,nc 8,nc 9,nc 10,nc 11,nc 12,nc 13,nc 14,nc 15,nc 16]) aci [aI,aG,aK,aL,av,bv,aY,ao,ah,ah,ar,aw,ao,ah,.dead,.dead,.dead,bc,dF,.dead]) wD ach wD ach tB tB) (Aw 6 (KQ (qu 27 (kQ (gJ 65 (El 6 tA) (iM N3) [aI,aG,aK,aL,av,bv,aY,ao,ah,ah,ar,aw,ao,ah,eD,dS,cL,bc,dF,cL,cL] [aI,aG,aK,aL,av,bv,aY,ao,ah,ah,ar,aw,ao,ah,eD,dS,cL,bc,dF,cL,.dead,cL] [jb,jr,mi,jM] ab1) UA fw kN [aI,aG,aK,aL,av,bv,aY,ao,ah,ah,ar,aw,ao,ah,ah,ar,aw,bc,dF,aw,aw]) kN [aI,aG,aK,aL,av,bv,aY,ao,ah,ah,ar,aw,ao,ah,.dead,.dead,.dead,bc,dF,.dead,.dead] [.agg [vd 0,vd 1,vd 2,vd 3,vd 4,vd 5,vd 6,vd 7,vd 8,vd 9,vd 10,vd 11,vd 12],.agg [Ci 0 fM km,qB 1,qB 2,qB 3,qB 4,qB 5,qB 6,qB 7,qB 8,qB 9,qB 10,qB 11,qB 12,qB 13,qB 14,qB 15,qB 16]] [jb,jr,mi,jM] mU) yH acj yH acj (ep fM oG yH) (ep fM oG yH)) (OG (eA 106 (mq (iL 7 (bY (ql (mX (jN gc GN) DF (ql (eY 7 GQ Kd) al6 [GS,da 2 gc GN,aJ,iT] N4) (eY 7 GQ Ek)) [aI,aG,aK,aL,av,bv,aY,ao,ah,ah,ar,aw,ao,ah,eD,dS,cL,bc,dF,aw,cL,qn,bc] [GS,da 1 gc GN,aJ,iT] (Eo 22)) Uv Uv) (yI 8 (KQ (bY (oc 26 (kQ (fz (oc 26 (mu (rC kN ama) ame ame (eY 8 N8 Ek) UA nW vS) p8 kN al9 [yG 0 uW (da 1 uW rF) (da 2 uW rF) (da 3 uW rF) rF,yG 0 uX (da 1 uX rF) (da 2 uX rF) (da 3 uX rF) rF]) amc amc amd amd) No fw jM ama) nV jM al9 [yG 0 uW (da 1 uW rD) (da 2 uW rD) (da 3 uW rD) rD,yG 0 uX (da 1 uX rD) (da 2 uX rD) (da 3 uX rD) rD]) al8 al8) N7 ack N7 ack al7 al7) (.loop 9 [.ref Ko,.ref m9] [fw,fw] (.pick N9 (.not (.has (.v 25) 1 jY aZ aZ)) (jp N9 (z8 25)) (GO 1 (bY (.new 118 (.iG (Eo 24) (.lit [[da 0 Ob Kc,da 1 Ob Kc,da 2 Ob Kc]])) [aI,aG,aK,aL,av,bv,aY,ao,ah,ah,ar,aw,ao,ah,eD,dS,cL,bc,dF,aw,cL,qn,bc,bc,Ko,m9,m9] [aI,aG,aK,aL,av,bv,aY,ao,ah,ah,ar,aw,ao,ah,eD,dS,cL,bc,dF,aw,cL,qn,bc,bc,.dead,m9,m9,Ko] (eY 9 UC acl)) (yJ (.and (jp cn Oa) (iM Oa)) (ga Ob) (b9 Ob N9)) (iM (z8 24))) amf [jM] (Eo 25) m9) (K4 51 52 118 (G0 10 (bY (gJ 98 (Hh 10 jY (jw 28)) (iM (z8 27)) [aI,aG,aK,aL,av,bv,aY,ao,ah,ah,ar,aw,ao,ah,eD,dS,cL,bc,dF,aw,cL,qn,bc,bc,.dead,m9,Ko,wE] [aI,aG,aK,aL,av,bv,aY,ao,ah,ah,ar,aw,ao,ah,eD,dS,cL,bc,dF,aw,cL,qn,bc,bc,.dead,m9,Ko,.dead,wE] [da 0 jY Kq,da 1 jY Kq,da 2 jY Kq] (Eo 27)) amg amg) (mZ UC [aI,aG,aK,aL,av,bv,aY,ao,ah,ah,ar,aw,ao,ah,ah,ar,aw,bc,dF,aw,aw,qn,bc,bc,.dead,m9,.sl 118,eS]) (b9 jY Oa) wE) amf (.v 24) (.lex [0,1,2] E)))) ack wv Cl) ab6 N5 Cl) GK J7 [aI,aG,aK,aL,av,bv,aY,ao,ah,ah,ar,aw,ao,ah,ah,ar,aw,bc,dF,aw,aw,qn]) tA jb [aI,aG,aK,aL,av,bv,aY,ao,ah,ah,ar,aw,ao,ah,.dead,.dead,.dead,bc,dF,aw,.dead] [eB,NG,eh,DK,uT,rB] (yb qn))) acj [aQ,SD]) ach [aQ,SD]) NK abH [aI,aG,aK,aL,av,bv,aY,ao,ah,ah,ar,aw,ao,ah,ah,ar,aw,bc,dF]) rB jX ab7 JR (yb dF)) (mO ee) Cl) (mO gN) TU TS) oa wq my [Cj]) mY uA uz [J1]) abf) (jd em)) NX) th th (oM n9) (oM lx) (.not (oM yA))) th (.not (oM pz)) (oM oG)) th th th (As iC aZ) (b9 iC i9) (oM wm)) wa aby) eX uz [eB]
def aet:T:=gj 37 (bQ (fW Tn Co) (rC ki Co) (yf 70 (bQ (rC dq Co) Oc (rK n9 iJ Oc (oK 0 (bY (EH 69 (yi fO aZ Oc (oK 1 (bY (Ap 69 (.node (As em aZ) Oc (iL 2 acq (iL 3 acu (rH 4 acw (rH 5 (lN 6 (wK (Es 181 acA Ks zU acz acy) Ks acx Kr Kr tB tB) acB (jd gZ) [GV,td]) (rH 6 (lN 7 (wK (Es 181 acE Kt zU acD [UE,UH]) Kt acC tB tB wH wH) UF (jd fM) [Cn,uP]) (rH 7 (lN 8 (wK (Es 181 acI Kw zU acH acG) Kw acF wH wH Ku Ku) UI (jd im) UJ) (rH 8 (lN 9 (wK (Es 181 acN Kz zU acL acK) Kz acJ Ky Ky wI wI) UK Kx UL) (lN 9 (lN 10 (fz (Es 181 KE (bY (io 181 KE KF (.v 4) uu wJ [UN,UQ]) wI wI) zU wJ acO) KC KC KD KD) UO UP GR) (lN 10 (bY (oc 24 (bY (oc 24 (bQ KI KI KF zV BW) uu kN wJ acR) KH KH) vT jM wJ acQ) KG KG) acS (jd ge) GR) Kx N5) UM Ck) UG uP) Uy td) UD wq) acv uA) Od acs acr) NU acn acm)) T3 Co amh) J3 J3) amm (pw em))) DM Co [fh (m8 0) (m8 1) (m8 2) (m8 3)]) Ed Ed) (oK 1 (bY (EH 69 (.node (As em aZ) Oc amm) T3 Co amh) J3 J3) (iL 2 acq (iL 3 acu (rH 4 acw (rH 5 (lN 6 (wK (io 181 acA Ks sD p8 acz acy) Ks acx Kr Kr tB tB) acB (jd gZ) [GV,td]) (rH 6 (lN 7 (wK (io 181 acE Kt sD p8 acD [UE,UH]) Kt acC tB tB wH wH) UF (jd fM) [Cn,uP]) (rH 7 (lN 8 (wK (io 181 acI Kw sD p8 acH acG) Kw acF wH wH Ku Ku) UI (jd im) UJ) (rH 8 (lN 9 (wK (io 181 acN Kz sD p8 acL acK) Kz acJ Ky Ky wI wI) UK Kx UL) (lN 9 (lN 10 (fz (io 181 KE (bY (io 181 KE KF zT pj wJ [UN,UQ]) wI wI) sD p8 wJ acO) KC KC KD KD) UO UP GR) (lN 10 (bY (oc 24 (bY (oc 24 (bQ KI KI KF vS Gf) pj kN wJ acR) KH KH) p8 jM wJ acQ) KG KG) acS (jd ge) GR) Kx N5) UM Ck) UG uP) Uy td) UD wq) acv uA) Od acs acr) NU acn acm) (pw em)) NX)) nW (rh oG iJ)) nV Co [eh,aJ,aaJ]) wa aby) eX Co [eB]
def yQ:T:=qu 143 (.node (ec qg) (rK qg (.c 300) (rC sN At) amy) amy) sN At JR [sL,Aa,wi,yo,Ac,rz,ru,uF,uG,NM,Gr,DR,Jy,Gs] [aQ,aQ,aQ,aQ,aQ,aQ,aQ,aQ,aQ,aQ,aQ,aQ,aQ,aQ,aQ]
def T90:T:=eA 77 (kQ (gj 74 (kQ (UT 75 (Hj kP (eA 155 (kQ (iL 0 (qf (bQ (DJ [KM,p8,pj,vT,uu,xU,xV]) (bY (iL 1 amB (bY (iL 2 amE (DJ [KM,iT,jL 12,jL 13,jL 14,jL 15,jL 16]) U4 amC UX) UV UW) UY amz UX) UV UW) (bY (iL 1 amB (bY (iL 2 amE (DJ [KM,.bool (wc G1 6),jL 12,jL 13,jL 14,jL 15,jL 16]) U4 amC UX) UV UW) UY amz UX) UV UW) (.cell ml mw 17) sD) UR ac7 UR ac7) (iL 1 (fz (.aV (Am Of U6 U7 U8 U9) (bQ amF (.node (ec ac9) amF amG) amG (uL Of zT U6 zU (uL U7 (.v 4) U8 (.v 5) (.cR U9 (.v 6) eW))) sD)) (.and UZ ac8) (m7 Et Et nX) (JY (cV Et) (gH Et) (gp Et)) (.and UZ ac8)) (eA 133 (Hj JL (eA 72 (iL 2 (bY (qu 227 (kQ (eA 133 (bQ (n7 rp (cX 92) qr) (wG 72 amI Vd Vd (kj ada (cX 97)) qr) (wG 72 amI amJ Vd (kj ada (cX 97)) qr) (ec (.v 92)) (.v 7)) Vd (cX 92) qr [Va,j5 zX (.v 74),j5 zX (.v 75)] mU) (ec (.v 87)) rp (cX 87) qr) (cX 87) qr [.agg [Af,Ag,Cd,G2,Oi,G3,Oj,G4,G5,G6,G7,G8,G9],.agg [pE 0,pE 1,pE 2,pE 3,pE 4,pE 5,pE 6,pE 7,pE 8,pE 9,pE 10,pE 11,pE 12,pE 13],fh (pE 14) (pE 15) (pE 16) (tw 17 GC ml)] [Eu,Ew,Ex,Ey,Ez,KR,KS,KT,cX 82,cX 83,cX 84,cX 85,KV] Cc) amH amH) (mZ amJ qr) (b9 GC pz) [aJ,Ae,uH,uI,sT,gE,ik,fY,gu,dG,jX,jW,jO,jb,jr,mi,jM,kN,i7] [aQ,aQ,aQ,aQ,aQ,aQ,aQ,aQ,aQ,aQ,aQ,aQ,aQ,aQ,aQ,aQ,aQ,aQ,.bool]) (fh Ae uH uI sT) sU qr [Vc,Vc] mU) rp yq qr) Vc yq qr [Va,j5 zX fO,j5 zX em] mU) ac8 [aJ,zY aZ U5,aU U5,zY aZ U5,aU U5] mU) ac7 [aJ,i7,i7,i7,i7,i7,i7] [aQ,.bool,.bool,.bool,.bool,.bool,.bool]) nW rp NT qr) DK nV KP [oH,uy] [.ref we,.bool]) rp DT KP) DT KP [oa,p9,yj,sL,Aa,wi,yo,Ac,rz,ru,uF,uG,NM,Gr,DR,Jy,Gs]) (ec oI) rp Gt KP) Gt KP [Tz]) (ec qg) rp sN KP) oH sN [R8,R9,dF,aI,aG,aK,aL,av,.str,bu] [.agg [ju,iS,gg,i8,mg,Jv,lL,Nz,mN,kn,mY],eh,eX] Cb
def dW:T:=qu 89 (bQ (rC DR Ol) (oK 0 (bY (UT 75 (sH (rC (jZ 280) Ol) (G0 1 (bY (GO 1 (Hh 1 qg oa) Ve [iN 0 qg,iN 0 qg,iN 1 qg,iN 2 qg,tw 3 qg km] NS wN) (mo qg (mO qg)) (mo qg (mO qg))) (eA 77 (bY (iL 2 (bY (qu 227 (bQ (GU [fu kP,DU,sT,sU,yt,yu,yv,yw,yz,Af,Ag,Cd,G2,Oi,G3,uy]) (Cx (mu pB pB (Cq (qw 8 kP) (gv 4)) adb Az AA yK)) (bQ (Cx (mu pB pB (Cq (qw 8 kP) (gv 5)) adb Az AA yK)) (Cx (AJ (bY (Cq On (kq (gv 12) (gv 13) K0 Vi Vj Vk)) adc ade) (JX ng ng (EF ng (EF ng (fz (gj 249 (Cq (Av BY (kq (gv 6) (gv 7) (gv 8) Vi Vj Vk) adh) (Av qc (kq (gv 9) (gv 10) K3 Vi Vj Vk) (.v 89))) (cX 89) He [Gn,Vh]) adc ade adc ade) (mM (yB NO DY (kq Gz JL JM (gp ng) (jf ng) (ip ng)) (cV ng) (gH ng)) (yB DX JG (kq D0 D3 (.v 53) (gp ng) (jf ng) (ip ng)) (cV ng) (gH ng))) adg) adf K1) (Am (cV ng) (gH ng) (gp ng) (jf ng) (ip ng))) Oq)) (bQ (Cx (AJ amS (JX nh nh (EF nh (EF nh (fz (gj 249 (Cq (Av BY (kq (gv 6) (gv 7) (gv 8) Vl Vm Vn) adh) (Av qc (kq (gv 9) (gv 10) K3 Vl Vm Vn) (.v 89))) (cX 89) He [Gn,Vh]) adi adj adi adj) (mM (yB NO DY (kq Gz JL JM (gp nh) (jf nh) (ip nh)) (cV nh) (gH nh)) (yB DX JG (kq D0 D3 (.v 53) (gp nh) (jf nh) (ip nh)) (cV nh) (gH nh))) adg) adf K1) (Am (cV nh) (gH nh) (gp nh) (jf nh) (ip nh))) Oq)) (Cx (AJ (Cq On K0) (OH (OH (gj 249 (Cq (jy (jy BY (gv 8)) adh) (jy (jy qc K3) (.v 89))) (cX 89) He [Gn,Vh]) (mM uH uI) z7 adg) adf z7 K1) Oq)) (mu (Cx (.node Az pB (.node AA pB Oq))) (Cx (AJ pB pB (bQ pB amT D8 yK Hd))) (Cx (.node Az amS (.node AA pB Oq))) (Cx (AJ pB (lA pB (.stuck "") (uL (gH nf) eW (gp nf) eW (Cg (jf nf) (ip nf) (uL adk iK (wc nf 6) eW (.cR adl eW amU))))) (bQ pB (.node (uL (gH nf) eW (gp nf) eW (uL (jf nf) eW (ip nf) eW (uL adk eW (wc nf 6) eW (.cR adl iK amU)))) amT pB) D8 yK Hd))) (wc nf 6) adl (eo nf xT)) (ip nf) adk) (gp nf) (jf nf)) amN (gH nf)) Oj amO [.agg [JB,DV,sQ,Gx,Gy,Ca,DZ,GA,yp,yq,Ae,uH,uI],Vh,fh (aU (KY 1 1 KW aZ aZ)) amM (aU On) (.bool amN)] [sT,sU,yt,yu,yv,yw,yz,Af,Ag,Cd,G2,Oi,G3] Cc) amL amL) amV (b9 kP lx) [aJ,eX,gE,ik,fY,gu,dG,jX,jW,jO,jb,jr,mi,jM,kN,fw] [aQ,aQ,aQ,aQ,aQ,aQ,aQ,aQ,aQ,aQ,aQ,aQ,aQ,aQ,aQ,Vg]) Vf Vf) oa Gt Ve Tq Cb) (mO qg) wN) (pm 0 (fu DS)) (ec rA) (.not (.not (As DS aZ)))) Gs Ol [Ci 0 DS mj,qA 1,qA 2,qA 3,qA 4,qA 5,qA 6,qA 7,qA 8,qA 9,qA 10,qA 11,qA 12,qA 13,qA 14,qA 15,qA 16]) amK amK) (G0 1 (bY (GO 1 (Hh 1 rA oa) Ve [iN 0 rA,iN 0 rA,iN 1 rA,iN 2 rA,tw 3 rA km] NS wN) (mo rA (mO rA)) (mo rA (mO rA))) (eA 77 (bY (iL 2 (bY (qu 227 (bQ (GU [fu oI,uH,uI,sT,sU,yt,yu,yv,yw,yz,Af,Ag,Cd,G2,uy]) (Cw (mu pC pC (Cr (qw 8 oI) (gv 4)) adm Az AA yK)) (bQ (Cw (mu pC pC (Cr (qw 8 oI) (gv 5)) adm Az AA yK)) (Cw (AJ (bY (Cr Ov (kq (gv 12) (gv 13) K0 Vp Vq Vr)) adn ado) (JX nl nl (EF nl (EF nl (fz (gj 249 (Cr (Av BY (kq (gv 6) (gv 7) (gv 8) Vp Vq Vr) adr) (Av qc (kq (gv 9) (gv 10) K3 Vp Vq Vr) KU)) KV He [Gn,Vo]) adn ado adn ado) (mM (yB B8 NO (kq DY Gz JL (gp nl) (jf nl) (ip nl)) (cV nl) (gH nl)) (yB (.v 43) DX (kq JG D0 D3 (gp nl) (jf nl) (ip nl)) (cV nl) (gH nl))) K1) adp adq) (Am (cV nl) (gH nl) (gp nl) (jf nl) (ip nl))) Ox)) (bQ (Cw (AJ amZ (JX nq nq (EF nq (EF nq (fz (gj 249 (Cr (Av BY (kq (gv 6) (gv 7) (gv 8) Vs Vt Vu) adr) (Av qc (kq (gv 9) (gv 10) K3 Vs Vt Vu) KU)) KV He [Gn,Vo]) ads adt ads adt) (mM (yB B8 NO (kq DY Gz JL (gp nq) (jf nq) (ip nq)) (cV nq) (gH nq)) (yB (.v 43) DX (kq JG D0 D3 (gp nq) (jf nq) (ip nq)) (cV nq) (gH nq))) K1) adp adq) (Am (cV nq) (gH nq) (gp nq) (jf nq) (ip nq))) Ox)) (Cw (AJ (Cr Ov K0) (OH (OH (gj 249 (Cr (jy (jy BY (gv 8)) adr) (jy (jy qc K3) KU)) KV He [Gn,Vo]) (mM yq Ae) z7 K1) adp z7 adq) Ox)) (mu (Cw (.node Az pC (.node AA pC Ox))) (Cw (AJ pC pC (bQ pC am0 D8 yK Hd))) (Cw (.node Az amZ (.node AA pC Ox))) (Cw (AJ pC (lA pC (.stuck "") (uL (gH nj) eW (gp nj) eW (Cg (jf nj) (ip nj) (uL adu iK (wc nj 6) eW (.cR adv eW am1))))) (bQ pC (.node (uL (gH nj) eW (gp nj) eW (uL (jf nj) eW (ip nj) eW (uL adu eW (wc nj 6) eW (.cR adv iK am1)))) am0 pC) D8 yK Hd))) (wc nj 6) adv (eo nj xT)) (ip nj) adu) (gp nj) (jf nj)) amY (gH nj)) Oi amO [.agg [DT,DU,JB,DV,sQ,Gx,Gy,Ca,DZ,GA,yp,yq,Ae],Vo,fh (aU (KY 1 1 K5 aZ aZ)) amX (aU Ov) (.bool amY)] [uH,uI,sT,sU,yt,yu,yv,yw,yz,Af,Ag,Cd,G2] Cc) amW amW) amV (b9 oI lx) [aJ,gE,ik,fY,gu,dG,jX,jW,jO,jb,jr,mi,jM,kN,fw] [aQ,aQ,aQ,aQ,aQ,aQ,aQ,aQ,aQ,aQ,aQ,aQ,aQ,aQ,Vg]) Vf Vf) oa sN Ve Tq Cb) (mO rA) wN) (b9 DS n8)) (rC (jZ 280) Ol) (ec B7) (oM n8)) DR Ol [eB,eh,eX,Tz,kn] [p9,yj,sL,Aa,wi,yo,Ac,rz,ru,uF,uG,NM,Gr] Cc
def T11:T:=jc 32 (qp 4 (eA 13 (qu 13 (qu 13 (GF em (.c 310) EA EA (GF pz mh EA EA (rK J5 mh EA (VI EA (bY (lA EA (bY (lA EA (oc 18 (bY (qp 96 (qp 82 (eA 13 (fz (eA 16 (bQ Vv Vv (bQ Vv Vv (qp 98 (EH 20 (p7 am6) (bY (qp 71 (eA 13 (fz (eA 16 (qp 4 (qu 21 (avl (eA 16 (bQ Vy Vy (GF nY mh Vy Vy (qp 98 (yf 20 (bQ OC (fz (.node (oL (AI 0 0) (AI 1 1) (AI 2 2) (AI 3 3) (oL (AI 4 4) (AI 5 5) (AI 6 6) (AI 7 7) (oL (AI 8 8) (AI 9 9) (yM 10 (AK 10 aZ) rI) (yM 11 (AK 11 aZ) rI) (yM 12 (AK 12 aZ) rI)))) (bY (sH (bY (aaM (cV (.len (.cell (.v 44) aZ 0 bu))) am8) (b9 aZ (z8 44)) (b9 aZ (z8 44))) OC OC (oL (Cu 0 0) (Cu 1 1) (Cu 2 2) (Cu 3 3) (oL (Cu 4 4) (Cu 5 5) (Cu 6 6) (Cu 7 7) (oL (Cu 8 8) (EJ 9 nX rI) (EJ 10 mh rI) (EJ 11 (AK 11 cn) rI) (EJ 12 (AK 12 cn) rI)))) (gp (z8 44))) (b9 cn (.len rI)) (b9 cn (.len rI))) OC) (b9 aZ (.len rI)) (b9 aZ (.len rI)) Vw Vw) OC Gf (gp (.len rI))) pj [aI,aG,aK,aL,av,aY,ah,ar,ao,ao,ah,ah,ar,aw,ao,ah,ah,ar,aw,ao,ah,ah,ar,aw,bu,ar,ao,ah,ah,ar,aw,eS,.dead,ah,ao,ah,ah,ar,aw,eS,ao,ao,ah,ah,ar,aw,bv,eS,eS] [jw 39,jw 48]) [aI,aG,aK,aL,av,aY,ah,ar,ao,ao,ah,ah,ar,aw,ao,ah,ah,ar,aw,ao,ah,ah,ar,aw,bu,ar,ao,ah,ah,ar,aw,eS,wE,ah,ao,ah,ah,ar,aw,eS,ao,ao,ah,ah,ar,aw,bv,eS] [aI,aG,aK,aL,av,aY,ah,ar,ao,ao,ah,ah,ar,aw,ao,ah,ah,ar,aw,ao,ah,ah,ar,aw,bu,ar,ao,ah,ah,ar,aw,eS,wE,ah,ao,ah,ah,ar,aw,eS,ao,ao,ah,ah,ar,aw,bv,eS,wE] [[GS,aJ,aJ],[GS,dq,aJ]]) UA) Dz (ec ge)) (jw 47) p9 [aI,aG,aK,aL,av,aY,ah,ar,ao,ao,ah,ah,ar,aw,ao,ah,ah,ar,aw,ao,ah,ah,ar,aw,bu,ar,ao,ah,ah,ar,aw,eS,.dead,ah,ao,ah,ah,ar,aw,eS,ao,ao,ah,ah,ar,aw,bv] [eB,.agg [jw 46],mN,OA] St) iK [aI,aG,aK,aL,av,aY,ah,ar,ao,ao,ah,ah,ar,aw,ao,ah,ah,ar,aw,ao,ah,ah,ar,aw,bu,ar,ao,ah,ah,ar,aw,eS,wE,ah,ao,ah,ah,ar,aw,eS,ao,ao,ah,ah,ar,aw] [aI,aG,aK,aL,av,aY,ah,ar,ao,ao,ah,ah,ar,aw,ao,ah,ah,ar,aw,ao,ah,ah,ar,aw,bu,ar,ao,ah,ah,ar,aw,eS,wE,ah,ao,ah,ah,ar,aw,eS,ao,ao,ah,ah,ar,aw,avk] (.rY xT [aJ,aJ,aJ,aJ,aJ,aJ,aJ,aJ])) kN [aI,aG,aK,aL,av,aY,ah,ar,ao,ao,ah,ah,ar,aw,ao,ah,ah,ar,aw,ao,ah,ah,ar,aw,bu,ar,ao,ah,ah,ar,aw,eS,.dead,ah,ao,ah,ah,ar,aw,eS,ao] [eB,Cs,mN,OA,jw 40] [jM,jw 41,jw 42,.ref rI,jw 44,jw 45] Hf) [aI,aG,aK,aL,av,aY,ah,ar,ao,ao,ah,ah,ar,aw,ao,ah,ah,ar,aw,ao,ah,ah,ar,aw,bu,ar,ao,ah,ah,ar,aw,eS,wE,ah,ao,ah,ah,ar,aw,eS] [aI,aG,aK,aL,av,aY,ah,ar,ao,ao,ah,ah,ar,aw,ao,ah,ah,ar,aw,ao,ah,ah,ar,aw,bu,ar,ao,ah,ah,ar,aw,eS,wE,ah,ao,ah,ah,ar,aw,eS,z6] [[i7],[iT]]) (jw 39) mi [aI,aG,aK,aL,av,aY,ah,ar,ao,ao,ah,ah,ar,aw,ao,ah,ah,ar,aw,ao,ah,ah,ar,aw,bu,ar,ao,ah,ah,ar,aw,eS,.dead,ah,ao,ah,ah,ar,aw] [eB,Cs,mN,am7] St) iK iK iK iK) am7 jr [aI,aG,aK,aL,av,aY,ah,ar,ao,ao,ah,ah,ar,aw,ao,ah,ah,ar,aw,ao,ah,ah,ar,aw,bu,ar,ao,ah,ah,ar,aw,eS,.dead,ah] [eB,Cs,mN,aJ,oa,jw 33,mY] Hf) am5 [aI,aG,aK,aL,av,aY,ah,ar,ao,ao,ah,ah,ar,aw,ao,ah,ah,ar,aw,ao,ah,ah,ar,aw,bu,ar,ao,ah,ah,ar,aw,eS,wE,eD] [[AG 0,AG 1,AG 2,AG 3,AG 4,AG 5,AG 6,AG 7,AG 8,AG 9,aU (AK 10 aZ),aU (AK 11 aZ),aU (AK 12 aZ)],[jZ 232,Vx,aJ,aJ,aJ,aJ,aJ,aJ,aJ,aJ,aJ,aJ,aJ]]) Vw Vw) am6 [jw 31,jw 32]) am4 am5 [[dq,dq,mS]]) (ec fM) nW) (ec ee) NZ) (jw 31) jO [aI,aG,aK,aL,av,aY,ah,ar,ao,ao,ah,ah,ar,aw,ao,ah,ah,ar,aw,ao,ah,ah,ar,aw,bu,ar,ao,ah,ah,ar,aw] [eB,Cs,mN,am3] St) iK iK iK iK) am3 jW [aI,aG,aK,aL,av,aY,ah,ar,ao,ao,ah,ah,ar,aw,ao,ah,ah,ar,aw,ao,ah,ah,ar,aw,bu,ar] [eB,Cs,mN,aJ,oa,kn,UB] Hf) am2 [aI,aG,aK,aL,av,aY,ah,ar,ao,ao,ah,ah,ar,aw,ao,ah,ah,ar,aw,ao,ah,ah,ar,aw,bu,dS] [[GI 0 aZ mV],[Kd]]) adw am2 [[ki,dq,ki,i7]]) (pw aZ) (pw aZ)) nV dG adw [eB,Cs,mN,OA]) (yJ (yM 0 (.c 5046) Ee) (yM 1 (.c 6728) Ee) (.and (yM 2 (.c 5046) Ee) (yM 3 (.c 8410) Ee)))) (b9 aZ J5) (b9 aZ J5)) (oL (Cv 0 0) (Cv 1 1) (Cv 2 2) (Cv 3 3) (oL (Cv 4 4) (Cv 5 5) (Cv 6 6) (Cv 7 7) (oL (Cv 8 8) (EJ 9 nX ml) (EJ 10 mh ml) (EJ 11 (AK 11 cn) ml) (EJ 12 (AK 12 cn) ml))))) (b9 cn pz) (b9 cn pz)) (mO cn) (mO cn) (b9 aZ pz) (b9 aZ pz) (oL (yM 0 (.c 203) ml) (yM 1 (.c 261) ml) (yO 2) (yO 3) (oL (yO 4) (yO 5) (yO 6) (yO 7) (oL (yO 8) (yO 9) (yO 10) (yO 11) (yO 12)))))) (rh gN cn)) wa) gu [aI,aG,aK,aL,av,aY,ah,ar,ao,ao,ah,ah,ar,aw,ao,ah,ah,ar,aw] [eB,Cs,mN,Gi,oa,kn,mY] [fY,uT,pA,tA,wv,Ek] Hf) ik [aI,aG,aK,aL,av,aY,ah,ar,ao,ao,ah,ah,ar,aw] [eB,Cs,fw,aJ,fw,fw,fw] [gE,td,uP,Ck,An,rB] Hf) OA eX [aI,aG,aK,aL,av,aY,ah,ar,ao] [eB,Cs,mN,aJ,oa,kn,mY] Hf) [aI,aG,aK,aL,av,aY,ah,ar] [aI,aG,aK,aL,av,aY,ah,ar,z6] [[iT],[iT]]) (.bK [eB,mN,kn,mY]) [] [] [aQ,aQ,aQ,aQ,aQ,.ref aI,aQ,.ref aG,.ref aK,.ref aL,.ref av,.ref aY,Cj,.ref ar]
def V6:T:=gj 37 (kQ (.loop 0 lw [aJ,aU sJ] (bQ (bY (yC 110 (Hh 0 Hg ik) (uJ gE (aU Hg)) (b9 ja aZ) fY gG [da 0 Hg xZ,eh]) (m7 Hg Hg sJ) (m7 Hg Hg sJ)) (bY (yC 110 ana (bY (mZ (.agg [tD 0,aU To,tD 2,tD 3,tD 4,tD 5,tD 6,tD 7,tD 8,tD 9,tD 10,tD 11,tD 12,tD 13]) gG) JS JS) TR fY gG [tD 0,eh]) JS JS) ana (b9 fO em) abc)) wa am9 eX gG) eX gG [eB]
def T32:T:=qp 173 (qp 175 (qp 90 (OI 79 (OI 71 (OI 96 (OI 96 (OI 82 (fW (.bK [.agg [jZ 40,jZ 20,dq,aJ,dq,Jt,dq,Gl,fw,fw,Sr],Jv,Nz,mY]) ang) anf ang [[mN],[kn]]) ane anf [[ki,mS,ki,i7]]) [aI,aG,av,aY,ah] ane [[dq,aJ,aJ,i7]]) [aI,aG,av,aY] [aI,aG,av,aY,ah] [[Vx,Vx,aJ,aJ,aJ,aJ,aJ,aJ,aJ,aJ,aJ,aJ,aJ],[jZ 609,Vx,aJ,aJ,aJ,aJ,aJ,aJ,aJ,aJ,aJ,aJ,aJ]]) [aI,aG,av] [aI,aG,av,aY] [anc,anc]) [OD,.own 175] [OD,.own 175,ye] [[dq,aJ,aJ,dq,dq,dq,dq,aJ,ki,aJ,aJ,dq,dq,dq],[ki,dq,aJ,dq,z7,ki,mS,ki,aJ,aJ,aJ,dq,dq,dq]]) [OD] [OD,.own 175] [[aJ,aU BY,aJ]]) [] [OD] [[.ref (.k (.string ⟨#[97]⟩)),NI,NI,aJ],[anb,jZ 21,NI,aJ]]
def T63:T:=eA 23 (mq (Aw 0 (gJ 3 (uJ Sx mY) Ts [aI,aG,aK,aL,av,dF,EB] anh [gE] Tt) (yI 1 (qf (.dw 130 130 3 (.cw 0 ady [jN em mj]) J mV anh (.dw 130 130 3 (.cw 0 ady [oF em mj]) J mW ani (fz (.new 3 (.set (.ref sK) OE 0 [Gw anj ank]) [aI,aG,aK,aL,av,dF,.dead,.dead,.dead,EB] [aI,aG,aK,aL,av,dF,.dead,.dead,.dead,.dead,EB] (eY 1 B3 oH)) iK iK (m7 OE OE wm) (m7 OE OE wm)))) BZ adx BZ adx) (vW 2 (.dw 130 130 3 (.cw 0 ady [ja]) J mW ani (eY 2 D4 uy)) (pw ja) acW [aI,aG,aK,aL,av,dF,.dead,.dead,rj] [aJ,mY] (B5 EB)) adx kn (B5 EB)) Sw (B5 EB)) wa Tn [aI,aG,aK,aL,av,dF]) mN eX gG JR (yb dF)
def T39:T:=qh 86 (qh 87 (vW 0 (KQ (fz (qh 88 (gJ 82 (.node (yD jq km) (eA 89 (adU (jc 90 (adU (gJ 71 (gJ 65 ann abq VC anm VA abr) (iM pz) adB VC alc Oe) VB (.eP 45 yo)) adD adC [eB,eX,eh,.agg Vz,anl,adA] mU) Sa (.eP 45 p9)) Tz p9 adC [eB,eX,eh,.agg Vz,adA] Cc) (qu 27 (adU (gJ 71 (gJ 65 ann abq VC anm [gE,ik,fY,gu] abr) (iM pz) adB VC Vz Oe) (ec ee) (.eP 45 dG)) dG adC [.agg Vz,anl] [gE,ik,fY,gu] mU)) NY [aI,aG,aK,aL,av,aY,ao,ah,ar,ao,ah,eD,dS,cL,bu] adB [td] abv) adA td [aI,aG,aK,aL,av,aY,ao,ah,ar,ao,ah,.dead,.dead,.dead] TV) (ep jq n9 EC) (ep jq n9 EC) (ep jq lx EC) (ep jq lx EC)) EC adz EC adz (ep jq oG EC) (ep jq oG EC)) adz OA [aI,aG,aK,aL,av,aY,ao,ah,ar,ao,ah,ah,ar,aw] TU TS) mY oH [aI,aG,aK,aL,av,aY,ao,ah,ar,ao] [Cj]) kn uy [aI,aG,aK,aL,av,aY,ao,ah,ar] [J1]
def OK:T:=gj 37 (bQ (n7 tc eX my) (n7 tc ki my) (DA (bQ tC (DA tC (oK 0 (fz (fz (yC 75 (gj 74 (mu tC (yC 85 tC DM abo gu my alB) tC DM TR abn alC) fY my abm) tC Sq ik my [abl]) J0 J0 T1 T1) Ed Ed JZ JZ) (oK 1 (fz (wG 72 (.node (cV gZ) (bY (gj 74 (lA tC T3 SH) jO my alD) J4 J4) tC) T2 T2 abx my) Eg Eg Eg Eg) (oK 2 (bY (jc 25 (kQ (pm 2 D4) (ec fM) tc jO my) alF my alE mU) D6 D6) (qh 86 (qh 87 (.loop 3 TS TU (bQ (fz (fz (qh 88 (gJ 82 (.node (yD gN mV) (jc 89 (kQ (jc 90 (kQ (gJ 71 (gJ 65 anq (iM Kv) VD anp Ug N2) Ud adF VD Uf Ue) SO tc uF adH) (GJ uF Ug) adG alG mU) (ec uD) tc wi adH) (GJ wi Uf) adG [eB,gu,eh,N1,N0] Cc) (wG 27 (kQ (gJ 71 (Er 65 anq (iM Kv) VD anp N2 abG) Ud adF VD abA Ue) GK tc jb adH) N1 abD abF adG)) Ui [aI,aG,aK,aL,av,bv,aY,ao,ah,ah,ar,aw,ao,ao,ah,eD,dS,cL,bu] adF [rB] Uj) N0 rB ano TV) Ua Ua Ub Ub) T4 T4 T5 T5) (fW abk adI) (eA 63 (kQ (G0 4 (KQ (lA anr (bY (lA anr (eY 4 GV uT) (yD jt mV)) (ep jt n9 GX) (ep jt n9 GX)) (yD jt Jw)) GX adJ GX adJ (ep jt v7 GX) (ep jt v7 GX)) (UU (qo 4 (UU (qo 82 (ta anx) OF adL ant adM) (bY (.new 82 adM adL ant anx) iK OF)) OF adK adL ans) (qo 82 (qo 4 (OG (.loop 5 adN [aJ,tA,pA] adP)) OF anz [aI,aG,aK,aL,av,bv,aY,ao,ah,ah,ar,aw,ao,ao,ah,eD,dS,cL,rj,wP,dS,z6] ans) OF adK anz adM)) adJ wP) (ec ee) tc dG [aI,aG,aK,aL,av,bv,aY,ao,ah,ah,ar,aw,ao,ao,ah,ah,ar,aw,rj]) rB dG ano JR (yb rj)) (mO gN) (.not (oM v7)))) oa td avm [Cj]) mY wq my [J1]) abf) (jd em)) NX) tC tC (oM n9) (oM lx) (.not (oM yA))) tC (.not (oM pz)) (oM oG)) tC tC tC (As iC aZ) (b9 iC i9) (oM wm)) wa aby) eX my [eB]
def T6:T:=AF 11 (p7 my) (yg 12 (bQ (xW my) (xW my) (oc 18 (bQ anC anC (eA 21 (oc 18 (eA 23 (bQ j6 j6 (bQ j6 j6 (bQ j6 j6 (GF Uc iJ j6 j6 (GF Kv iJ j6 j6 (NE 0 (bY (oc 24 (bQ j6 j6 (wA (qf (lA j6 anG (yD ee Jw)) Uk anA Uk anA) anG K7 K7 adR) NK BW) uu jX uZ [adQ,acP]) K6 K6) (jd ee) uZ) (rh abE iJ)) (rh abw iJ)) (rh oG iJ) (rh J5 iJ)) (ec gN) zV) (ec em) (ec ja)) rB gu adI JR (yb dF)) vT fY adI [eB,NG,kn,anD]) anD ik my [eB,NG,kn,NH,uA] Hf) wa Gf) pj eX my akz) vS (rh v7 iJ)) my avj) my []
def T28:T:=ND 0 (bY (bQ (xW [dF]) (xW [dF]) avo (.and (wR 0 ez bZ ij) (wR 1 ez cz ij)) (.and (wR 0 ez cz ij) (wR 1 ez bZ ij))) anB anB) (jd ez) i7 [dF]
def T29:T:=eA 77 (rK akV aZ (p7 adT) (NE 0 (bY (rK (.cell mV uD 3) cn (pm 0 (fu uD)) (eA 78 (.loop 1 [aQ,.bool] [aJ,i7] (mu (bY (yI 2 (bY (bQ (eY 2 (fu uE) iT) (lA (eY 2 (fu uE) (.bool (AD 0 0 jx uD km mV))) anI (Kb jx km)) anI sD (yJ (AD 0 0 jx uE km mW) (AD 1 1 jx uE km mW) (.and (AD 2 2 jx uE km mW) (.beq (Kb jx km) (Kb uE mW))))) anH anH) (Hh 1 jx p8) (b9 uE lx) nV [aQ,.bool]) (mo jx (mO jx)) (mo jx (mO jx))) anJ anJ (pm 0 (fu uD)) (mO jx) VB nW)) oa yo adT [eB,ku 0 uD,.agg [mN,eh,eX,gE,ik,fY,gu,dG,jX,jW,jO,jb,jr,mi,jM,kN,p9]] GM)) (mo uD (pw uD)) (mo uD (pw uD))) (pw uD) adT)) mY Aa amo [eB,yj,sL] Cb
end
section
set_option maxRecDepth 100000
def bF(a b c d:Int):Bool:=decide (-1099511627776<=a)&&decide (a<=1099511627776)&&decide (-1099511627776<=b)&&decide (b<=1099511627776)&&decide (-1099511627776<=c)&&decide (c<=1099511627776)&&decide (-1099511627776<=d)&&decide (d<=1099511627776)&&decide (a<=b)&&decide (c<=d)
def oN(a b c d X W V Q:Int):Bool:= !(decide (a<=W)&&decide (X<=b)&&decide (c<=Q)&&decide (V<=d))
def OL:aW->jH
 |[.i a,.i b,.i c,.i d,.i X,.i W,.i V,.i Q]=>U (.ret (if bF a b c d&&bF X W V Q then[.b (oN a b c d X W V Q),.i 0] else[.b E,.i 150]))
 |_=>Z
def EK:Nat->List UInt8->UInt8->Int
 |_,[],_=>-1
 |k,x::l,b=>if x==b then k else EK (k+1) l b
def ON:aW->jH
 |[.r s,.i b]=>match s.val with
  |.string t=>U (.ret [.i (EK 0 t.toList (UInt8.ofNat b.toNat))])
  |_=>U (.ret [.i (-1)])
 |_=>Z
def wT:me:=λf X=>if f=26 then OL X else if f=272 then ON X else Z
def EL:FuncId->Option Fn
 |82=>U ⟨T82,E,E⟩
 |84=>U ⟨T84,J,E⟩
 |134=>U ⟨adX,E,E⟩
 |138=>U ⟨adY,E,E⟩
 |139=>U ⟨VK,J,E⟩
 |376=>U ⟨adZ,J,E⟩
 |142=>U ⟨VL,E,E⟩
 |210=>U ⟨VM,E,E⟩
 |276=>U ⟨VN,E,E⟩
 |371=>U ⟨ad0,E,E⟩
 |354=>U ⟨VO,E,E⟩
 |275=>U ⟨VP,E,E⟩
 |110=>U ⟨VQ,E,E⟩
 |192=>U ⟨VR,E,E⟩
 |66=>U ⟨T66,E,E⟩
 |72=>U ⟨T72,E,E⟩
 |69=>U ⟨T69,E,E⟩
 |133=>U ⟨ad4,E,E⟩
 |24=>U ⟨T24,E,E⟩
 |361=>U ⟨ad6,E,E⟩
 |248=>U ⟨ad7,E,E⟩
 |154=>U ⟨ad8,E,E⟩
 |219=>U ⟨ad9,E,E⟩
 |220=>U ⟨aea,E,E⟩
 |353=>U ⟨aeb,E,E⟩
 |310=>U ⟨aec,E,E⟩
 |249=>U ⟨aed,E,E⟩
 |70=>U ⟨T70,E,E⟩
 |65=>U ⟨T65,E,E⟩
 |12=>U ⟨T12,E,E⟩
 |33=>U ⟨VS,E,E⟩
 |18=>U ⟨T18,E,E⟩
 |20=>U ⟨T20,E,E⟩
 |37=>U ⟨T37,E,E⟩
 |86=>U ⟨T86,E,E⟩
 |87=>U ⟨T87,E,E⟩
 |88=>U ⟨T88,E,E⟩
 |102=>U ⟨VT,E,E⟩
 |173=>U ⟨VU,E,E⟩
 |103=>U ⟨VV,E,E⟩
 |181=>U ⟨aej,E,E⟩
 |135=>U ⟨aek,E,E⟩
 |77=>U ⟨T77,E,E⟩
 |225=>U ⟨aem,E,E⟩
 |284=>U ⟨aen,E,E⟩
 |207=>U ⟨aeo,E,E⟩
 |25=>U ⟨T25,E,E⟩
 |155=>U ⟨VW,E,E⟩
 |27=>U ⟨Cy,E,E⟩
 |74=>U ⟨VX,E,E⟩
 |153=>U ⟨aeq,E,E⟩
 |83=>U ⟨T83,E,E⟩
 |75=>U ⟨VY,E,E⟩
 |23=>U ⟨OJ,E,E⟩
 |85=>U ⟨VZ,E,E⟩
 |89=>U ⟨V4,E,E⟩
 |227=>U ⟨V5,E,E⟩
 |81=>U ⟨T81,E,J⟩
 |13=>U ⟨T13,E,J⟩
 |16=>U ⟨nx,E,J⟩
 |106=>U ⟨aet,E,E⟩
 |78=>U ⟨yQ,E,E⟩
 |90=>U ⟨T90,J,E⟩
 |104=>U ⟨dW,E,E⟩
 |143=>U ⟨V6,E,E⟩
 |32=>U ⟨T32,E,E⟩
 |63=>U ⟨T63,E,E⟩
 |39=>U ⟨T39,E,E⟩
 |21=>U ⟨OK,E,J⟩
 |11=>U ⟨T11,E,E⟩
 |6=>U ⟨T6,E,E⟩
 |28=>U ⟨T28,E,E⟩
 |29=>U ⟨T29,E,E⟩
 |_=>Z
def TB:jK:=⟨EL,wT⟩
def fD(p:FuncId->aW->bn->Prop)(R:bn->Prop)(f:FuncId)(W:aW)(V:aR)(t:T)(O:ac)(L:dK):Prop:=∃o,p f W o/\(match o with
  |.ret X=>fq V X=J/\t.wp p R (O.ext X) L
  |.bj v=>R (.bj v))
def fP(p:FuncId->aW->bn->Prop)(R:bn->Prop)(o:bn)(W:aR)(t:T)(O:ac)(L:dK):Prop:=match o with
  |.ret X=>fq W X=J/\t.wp p R (O.ext X) L
  |.bj v=>R (.bj v)
def OO(c:Option PC)(X:aW):Prop:=match c with
 |U c=>c.I X/\c.μ X<c.m
 |none=>False
section
variable{p:FuncId->aW->bn->Prop}{R:bn->Prop}{O:ac}{L:dK}
def avq{f:FuncId}{X W:aW}{V:aR}{t:T}(h:X=W):fD p R f X V t O L=fD p R f W V t O L:=by rw[h]
def avr{o X:bn}{W:aR}{t:T}(h:o=X):fP p R o W t O L=fP p R X W t O L:=by rw[h]
def avs{t:T}{X:ac}(h:O=X):T.wp p R t O L=T.wp p R t X L:=by rw[h]
def avt(b:BE)(t f:T):T.wp p R (.node b t f) O L=(if b.den O=J then t.wp p R O L else f.wp p R O L):=by
 simp only[T.wp,T.lq];cases b.den O<;>simp
def avu(b:BE)(t:T):T.wp p R (.aV b t) O L=(b.den O=J/\t.wp p R O L):=by simp only[T.wp,T.lq]
def avv(v:SV)(X:bA)(W:aE):T.wp p R (.ret v X W) O L=R (.ret ((ur v).map (SV.xv O))):=by simp only[T.wp,T.lq]
def avw(f:FuncId)(X:ai)(V:bA)(Q:aE)(W:aR)(fG:SV)(t:T):T.wp p R (.call f X V Q W fG t) O L=fD p R f ((nQ X).map (SV.xv O)) W t O L:=by simp only[T.wp,T.lq,fD];rfl
def avx(e:TypeId)(x:LE)(X W:aE)(t:T):T.wp p R (.new e x X W t) O L=t.wp p R (O.add (.r (gf x O))) L:=by simp only[T.wp,T.lq]
def avy(k:RK)(x:LE)(X:aE)(t:T):T.wp p R (.rows k x X t) O L=t.wp p R (O.add (.r (gf x O))) L:=by simp only[T.wp,T.lq]
def avz(X:aW)(W:aR)(t:T):fP p R (.ret X) W t O L=(fq W X=J/\t.wp p R (O.ext X) L):=rfl
def avA(v:Value)(X:aR)(t:T):fP p R (.bj v) X t O L=R (.bj v):=rfl
def avB(au:Nat)(x:ai):T.wp p R (.back au x) O L=OO (Gd au L) (x.map (SV.xv O)):=by
 simp only[T.wp,T.lq,OO];cases Gd au L<;>rfl
def Cz(c:PC)(X:aW):OO (U c) X=(c.I X/\c.μ X<c.m):=rfl
def Hk(g h:BE)(t f:T):T.wp p R (.fA g h t f) O L=((g.den O=J\/h.den O=J)/\(g.den O=J->t.wp p R O L)/\(h.den O=J->f.wp p R O L)/\(g.den O=J->h.den O=J->Jl R)):=rfl
def avC(f g:FuncId)(e:TypeId)(X:be)(W:Bool)(r:RE)(Q:aE)(t:T):T.wp p R (.dw f g e X W r Q t) O L=(∃V,l9 O X W (r.rv O).rows=U V/\t.wp p R (O.add (.r (.mk (r.rv O).val V))) L):=rfl
def tE(f g:FuncId)(e:TypeId)(X:aj)(d:Bool)(W:Bool)(r:RE)(Q:aE)(t:T):T.wp p R (.dw f g e (.lex X d) W r Q t) O L=(∃V,fU (.lex X d) W (r.rv O).rows=U V/\t.wp p R (O.add (.r (.mk (r.rv O).val V))) L):=rfl
def tF(f g:FuncId)(e:TypeId)(n d:Nat)(X:Bool)(r:RE)(V:aE)(t:T):T.wp p R (.dw f g e (.ratio n d) X r V t) O L=(∃W,fU (.ratio n d) X (r.rv O).rows=U W/\t.wp p R (O.add (.r (.mk (r.rv O).val W))) L):=rfl
def anT(n:IE)(g h:BE)(t f:T):T.wp p R (.pick n g h t f) O L=(Jl R/\pi n g h O≠[]/\(∀j:Int,0<=j->j<n.den O->g.den (O.add (.i j))=J->t.wp p R (O.add (.i j)) L)/\(h.den O=J->f.wp p R O L)):=rfl
def CA{N:aR}{P:ai}{t:T}(W:aW->Prop)(V:aW->Nat)(M:W (P.map (SV.xv O)))(h:∀Q,W Q->t.wp p R (O.ext Q) (⟨X,W,V,V Q⟩::L)):T.wp p R (.loop X N P t) O L:=by
 simp only[T.wp,T.lq];exact⟨R,L,.inl ⟨rfl,rfl⟩,W,V,M,h⟩
def anU{M:aR}{N:ai}{t:T}(V:bn->Prop)(H:∀o,V o->R o)(W:aW->Prop)(Q:aW->Nat)(G:W (N.map (SV.xv O)))(h:∀P,W P->t.wp p V (O.ext P) [⟨X,W,Q,Q P⟩]):T.wp p R (.loop X M N t) O L:=by
 simp only[T.wp,T.lq];exact⟨V,[],.inr ⟨H,rfl⟩,W,Q,G,h⟩
end
def bp{X:jK}{R:bn->Prop}{f:FuncId}{V:aW}{Q:aR}{t:T}{O:ac}{L:dK}{o:bn}(h:X.Ev f V o):fD X.Ev R f V Q t O L=fP X.Ev R o Q t O L:=by
 refine propext ⟨λ⟨N,P,W⟩=> ?_,λW=>⟨o,h,W⟩⟩;rw[Nj h P];exact W
attribute[congr] avq avr avs
def has{f:FuncId}{X:Fn}(h:EL f=U X)(W:f≠26)(V:f≠272):Jm TB f X:=⟨h,λQ=>by simp[TB,wT,W,V]⟩
def single{o:bn}(h:vR o o=J):Jl (· =o):=λa b X W=>by subst X;exact⟨W.symm,h⟩
def mz{f:FuncId}{X:Fn}{V:aW}{o:bn}(Q:EL f=U X)(W:(f !=26&&f !=272)=J)(P:X.d=E\/∀v,o≠ .bj v)(h:X.t.wp TB.Ev (· =o) (eL (kg X.g) V) []):TB.Ev f V o:=by
 simp only[aDc,bne_iff_ne,ne_eq] at W;exact Ge (has Q W.1 W.2) P h
def dX{f:FuncId}{X:Fn}{V:aW}{R:bn->Prop}(Q:EL f=U X)(W:(f !=26&&f !=272)=J)(P:X.d=E\/∀v,¬R (.bj v))(h:X.t.wp TB.Ev R (eL (kg X.g) V) []):∃o,TB.Ev f V o/\R o:=by
 simp only[aDc,bne_iff_ne,ne_eq] at W;exact akg (has Q W.1 W.2) P h
end
section
attribute[simp] IE.den BE.den RE.rv RE.den fQ ac.rv eL ac.ext ac.add nQ ur Nb SV.xv kg Gd fq Rw avt avu avv avw avx avy avz avA avB
def out(f:FuncId)(X:aW):aW:=by classical exact if h:∃W,TB.Ev f X (.ret W) then h.choose else[]
def xi(X:aW)(k:Nat):Int:=match X.getD k (.i 0) with
 |.i n=>n
 |_=>0
def xb(X:aW)(k:Nat):Bool:=match X.getD k (.i 0) with
 |.b x=>x
 |_=>E
def xr(X:aW)(k:Nat):RV:=match X.getD k (.i 0) with
 |.r x=>x
 |_=>default
def oi(f:FuncId)(X:aW)(k:Nat):Int:=xi (out f X) k
def ob(f:FuncId)(X:aW)(k:Nat):Bool:=xb (out f X) k
def or(f:FuncId)(X:aW)(k:Nat):RV:=xr (out f X) k
def iW{f:FuncId}{W X:aW}(h:TB.Ev f W (.ret X)):out f W=X:=by
 have V:∃X,TB.Ev f W (.ret X):=⟨X,h⟩;have:out f W=V.choose:=by unfold out;rw[dif_pos V]
 rw[this];have:=Nj V.choose_spec h;injection this
def avD{f:FuncId}{X:aW}{P:aW->Prop}(h:∃o,TB.Ev f X o/\∃W,o=.ret W/\P W):TB.Ev f X (.ret (out f X))/\P (out f X):=by
 obtain⟨o,V,W,rfl,Q⟩:=h;rw[iW V];exact⟨V,Q⟩
def od(X:aW):aR->Nat->aW
 |[],_=>[]
 |.int _::G,n=>.i (xi X n)::od X G (n+1)
 |.bool::G,n=>.b (xb X n)::od X G (n+1)
 |.ref _::G,n=>.r (xr X n)::od X G (n+1)
def anV(W:aW):∀(G:aR)(X:aW),fq G X=J->od (W++X) G (Y W)=X
 |[],[],_=>rfl
 |[],_::_,h=>by simp at h
 |k::G,[],h=>by cases k<;>simp at h
 |k::G,y::X,h=>by
  have V:=anV (W++[y]) G X;simp only[fq,aDc] at h;have V:=V h.2;simp only[aD5,List.singleton_append,aDs,aE1] at V;have Q:(W++y::X).getD (Y W) (.i 0)=y:=by simp[List.getD]
  cases k<;>cases y<;>simp at h<;>simp only[od,V,xi,xb,xr,Q]
def shp{f:FuncId}{X:aW}(G:aR){P:aW->Prop}(h:∃o,TB.Ev f X o/\∃W,o=.ret W/\fq G W=J/\P W):TB.Ev f X (.ret (od (out f X) G 0))/\P (out f X):=by
 obtain⟨V,Q,N⟩:=avD h;rw[show od (out f X) G 0=out f X from anV [] G _ Q];exact⟨V,N⟩
def gq(n X W:Int):Bool:=decide (X<=n)&&decide (n<=W)
@[simp] def aCA (n X W:Int):gq n X W=J<->X<=n/\n<=W:=by simp[gq]
def pF(a b:Int):Int:=if a<b then-1 else if b<a then 1 else 0
def V7(a b c d:Int):Int:=if ke a b&&ke c d then pF (IntKind.i64.wrap (a*d)) (IntKind.i64.wrap (c*b)) else 0
def CB:FuncId->Option Fn
 |142=>U ⟨VL,E,E⟩
 |210=>U ⟨VM,E,E⟩
 |276=>U ⟨VN,E,E⟩
 |275=>U ⟨VP,E,E⟩
 |110=>U ⟨VQ,E,E⟩
 |192=>U ⟨VR,E,E⟩
 |_=>Z
section
variable{p:jK}(H:∀f fn,CB f=U fn->Jm p f fn)
include H
def avF(a b:Nat):p.Ev 275 [.i a,.i b] (.ret [.i (aGY a b)]):=by
 refine Ge (H _ _ rfl) (.inl rfl) ?_;simp[VP];split;rename_i W;simp[W];rename_i W;refine CA (λX=>∃d x y:Nat,X=[.i d,.i x,.i y]/\y≠0/\aGY x y=aGY a b/\(x=0->d=aGY a b)) (λX=>(xi X 2).toNat) ⟨b,a,b,by simp,W,rfl,λV=>by subst V;simp⟩ ?_;rintro X ⟨d,x,y,rfl,P,Q,V⟩;have N:max (y:Int) 1=y:=by omega
 have M:ay .rem .u64 (x:Int) (y:Int)=((x%y:Nat):Int):=by
  simp only[ay];rw[Int.tmod_eq_emod_of_nonneg (by omega)];exact(Int.natCast_emod x y).symm
 simp[xi,N,M,Cz];split;rename_i G;simp[V G];refine⟨by omega, ?_⟩;split;rename_i D;rw[<-Q,aGU,Nat.gcd_rec,show x%y=0 by omega];simp;refine⟨⟨x,y,x%y,⟨rfl,rfl,by omega⟩,by omega, ?_,λF=>absurd F P⟩, ?_⟩;rw[<-Q,aGU x y,Nat.gcd_rec y x,aGU];have:=aFH x (show 0<y by omega);omega
def avG(n:Int)(W:-1073741824<=n)(V:n<=1073741824):p.Ev 276 [.i n] (.ret [.i n.natAbs]):=by
 refine Ge (H _ _ rfl) (.inl rfl) ?_;simp[VN,ay];have X:∀x:Int,IntKind.u64.wrap x=x%18446744073709551616:=λx=>rfl
 rw[X,X];split<;>omega
def anW(n:Int):p.Ev 192 [.i n] (.ret [.b E]):=by
 refine Ge (H _ _ rfl) (.inl rfl) ?_;simp[VR]
def aez(a b:Int):p.Ev 110 [.i a,.i b] (.ret [.i (pF a b)]):=by
 refine Ge (H _ _ rfl) (.inl rfl) ?_;simp[VQ,pF,bp (anW H _)]
 grind
def anX(n d:Int):p.Ev 210 [.i n,.i d] (.ret [.i (if ke n d then 0 else 120)]):=by
 refine Ge (H _ _ rfl) (.inl rfl) ?_;simp[VM]
 repeat' split
 any_goals(simp[ke];omega)
 all_goals
  rw[bp (avG H n (by omega) (by omega))];have X:IntKind.u64.wrap d=(d.toNat:Int):=by
   have:IntKind.u64.wrap d=d%18446744073709551616:=rfl;omega
  have W:max d 0=(d.toNat:Int):=by omega
  simp[X];rw[W,bp (avF H n.natAbs d.toNat)];simp[ke] at*;omega
def anY(a b c d:Int):p.Ev 142 [.i a,.i b,.i c,.i d] (.ret [.i (V7 a b c d),.i (if ke a b&&ke c d then 0 else 120)]):=by
 refine Ge (H _ _ rfl) (.inl rfl) ?_;simp[VL,V7,ay,bp (anX H _ _),bp (aez H _ _)]
 grind
end
def V9(f:FuncId)(fn:Fn)(h:CB f=U fn):Jm TB f fn:=by
 unfold CB at h;split at h<;>cases h<;>exact has rfl (by decide) (by decide)
section
variable{R:bn->Prop}{G:aR}{t:T}{O:ac}{L:dK}
def e82(n X W:Int):TB.Ev 82 [.i n,.i X,.i W] (.ret [.b (gq n X W)]):=by
 refine mz rfl rfl (.inl rfl) ?_;simp[T82,gq]
 grind
@[simp] def c82 (n X W:Int):fD TB.Ev R 82 [.i n,.i X,.i W] G t O L=fP TB.Ev R (.ret [.b (gq n X W)]) G t O L:=bp (e82 n X W)
def avI(n X W:Int):TB.Ev 134 [.i n,.i X,.i W] (.ret [.b (gq n X W)]):=by
 refine mz rfl rfl (.inl rfl) ?_;simp[adX,gq]
 grind
@[simp] def aCC (n X W:Int):fD TB.Ev R 134 [.i n,.i X,.i W] G t O L=fP TB.Ev R (.ret [.b (gq n X W)]) G t O L:=bp (avI n X W)
def avJ(n X W:Int):TB.Ev 219 [.i n,.i X,.i W] (.ret [.b (gq n X W)]):=by
 refine mz rfl rfl (.inl rfl) ?_;simp[ad9,gq]
 grind
@[simp] def aCD (n X W:Int):fD TB.Ev R 219 [.i n,.i X,.i W] G t O L=fP TB.Ev R (.ret [.b (gq n X W)]) G t O L:=bp (avJ n X W)
def e70(n X W:Int):TB.Ev 70 [.i n,.i X,.i W] (.ret [.b (gq n X W)]):=by
 refine mz rfl rfl (.inl rfl) ?_;simp[T70,gq]
 grind
@[simp] def c70 (n X W:Int):fD TB.Ev R 70 [.i n,.i X,.i W] G t O L=fP TB.Ev R (.ret [.b (gq n X W)]) G t O L:=bp (e70 n X W)
def avL(n X W:Int):TB.Ev 284 [.i n,.i X,.i W] (.ret [.b (gq n X W)]):=by
 refine mz rfl rfl (.inl rfl) ?_;simp[aen,gq]
 grind
@[simp] def aCF (n X W:Int):fD TB.Ev R 284 [.i n,.i X,.i W] G t O L=fP TB.Ev R (.ret [.b (gq n X W)]) G t O L:=bp (avL n X W)
def CC(n:Int)(u:Bool)(X W:Int):Bool:=if u then gq n X W else n==0
def avM(n X W:Int)(u:Bool):TB.Ev 154 [.i n,.b u,.i X,.i W] (.ret [.b (CC n u X W)]):=by
 refine mz rfl rfl (.inl rfl) ?_;simp[ad8,CC]
 grind
@[simp] def aCG (n X W:Int) (u:Bool):fD TB.Ev R 154 [.i n,.b u,.i X,.i W] G t O L=fP TB.Ev R (.ret [.b (CC n u X W)]) G t O L:=bp (avM n X W u)
@[simp] def aCH (n:Int):fD TB.Ev R 192 [.i n] G t O L=fP TB.Ev R (.ret [.b E]) G t O L:=bp (anW V9 n)
@[simp] def aCI (a b:Int):fD TB.Ev R 110 [.i a,.i b] G t O L=fP TB.Ev R (.ret [.i (pF a b)]) G t O L:=bp (aez V9 a b)
@[simp] def aCJ (n d:Int):fD TB.Ev R 210 [.i n,.i d] G t O L=fP TB.Ev R (.ret [.i (if ke n d then 0 else 120)]) G t O L:=bp (anX V9 n d)
@[simp] def aCK (a b c d:Int):fD TB.Ev R 142 [.i a,.i b,.i c,.i d] G t O L=fP TB.Ev R (.ret [.i (V7 a b c d),.i (if ke a b&&ke c d then 0 else 120)]) G t O L:=bp (anY V9 a b c d)
def e66(a b c d:Int):TB.Ev 66 [.i a,.i b,.i c,.i d] (.ret [.b (bF a b c d)]):=by
 refine mz rfl rfl (.inl rfl) ?_;simp[T66,bF]
 grind
@[simp] def c66 (a b c d:Int):fD TB.Ev R 66 [.i a,.i b,.i c,.i d] G t O L=fP TB.Ev R (.ret [.b (bF a b c d)]) G t O L:=bp (e66 a b c d)
def jn(X:Bool)(x:Int):Int:=if X then x else 0
def e72(a b c d X W V Q:Int):TB.Ev 72 [.i a,.i b,.i c,.i d,.i X,.i W,.i V,.i Q] (.ret [.i (jn (bF a b c d&&bF X W V Q) (min a X)),.i (jn (bF a b c d&&bF X W V Q) (max b W)),.i (jn (bF a b c d&&bF X W V Q) (min c V)),.i (jn (bF a b c d&&bF X W V Q) (max d Q)),.i (if bF a b c d&&bF X W V Q then 0 else 150)]):=by
 refine mz rfl rfl (.inl rfl) ?_;simp[T72,jn]
 grind
@[simp] def c72 (a b c d X W V Q:Int):fD TB.Ev R 72 [.i a,.i b,.i c,.i d,.i X,.i W,.i V,.i Q] G t O L=fP TB.Ev R (.ret [.i (jn (bF a b c d&&bF X W V Q) (min a X)),.i (jn (bF a b c d&&bF X W V Q) (max b W)),.i (jn (bF a b c d&&bF X W V Q) (min c V)),.i (jn (bF a b c d&&bF X W V Q) (max d Q)),.i (if bF a b c d&&bF X W V Q then 0 else 150)]) G t O L:=bp (e72 a b c d X W V Q)
def e69(a b c d:Int):TB.Ev 69 [.i a,.i b,.i c,.i d] (.ret [.b (bF a b c d)]):=by
 refine mz rfl rfl (.inl rfl) ?_;simp[T69]
 grind
@[simp] def c69 (a b c d:Int):fD TB.Ev R 69 [.i a,.i b,.i c,.i d] G t O L=fP TB.Ev R (.ret [.b (bF a b c d)]) G t O L:=bp (e69 a b c d)
def oO(a b c d X W V Q:Int):Bool:=decide (X<=a)&&decide (b<=W)&&decide (V<=c)&&decide (d<=Q)
def e24(a b c d X W V Q:Int):TB.Ev 24 [.i a,.i b,.i c,.i d,.i X,.i W,.i V,.i Q] (.ret [.b (bF a b c d&&bF X W V Q&&oO a b c d X W V Q),.i (if bF a b c d&&bF X W V Q then 0 else 150)]):=by
 refine mz rfl rfl (.inl rfl) ?_;simp[T24,oO]
 grind
@[simp] def c24 (a b c d X W V Q:Int):fD TB.Ev R 24 [.i a,.i b,.i c,.i d,.i X,.i W,.i V,.i Q] G t O L=fP TB.Ev R (.ret [.b (bF a b c d&&bF X W V Q&&oO a b c d X W V Q),.i (if bF a b c d&&bF X W V Q then 0 else 150)]) G t O L:=bp (e24 a b c d X W V Q)
def e26(a b c d X W V Q:Int):TB.Ev 26 [.i a,.i b,.i c,.i d,.i X,.i W,.i V,.i Q] (.ret [.b (bF a b c d&&bF X W V Q&&oN a b c d X W V Q),.i (if bF a b c d&&bF X W V Q then 0 else 150)]):=by
 refine aap ?_;simp only[TB,wT,OL,if_true];cases P:bF a b c d&&bF X W V Q<;>simp
@[simp] def c26 (a b c d X W V Q:Int):fD TB.Ev R 26 [.i a,.i b,.i c,.i d,.i X,.i W,.i V,.i Q] G t O L=fP TB.Ev R (.ret [.b (bF a b c d&&bF X W V Q&&oN a b c d X W V Q),.i (if bF a b c d&&bF X W V Q then 0 else 150)]) G t O L:=bp (e26 a b c d X W V Q)
def avS(a b c d X W V Q:Int):TB.Ev 181 [.i a,.i b,.i c,.i d,.i X,.i W,.i V,.i Q] (.ret [.b (!(bF a b c d&&bF X W V Q&&oN a b c d X W V Q))]):=by
 refine mz rfl rfl (.inl rfl) ?_;simp[aej]
@[simp] def aCQ (a b c d X W V Q:Int):fD TB.Ev R 181 [.i a,.i b,.i c,.i d,.i X,.i W,.i V,.i Q] G t O L=fP TB.Ev R (.ret [.b (!(bF a b c d&&bF X W V Q&&oN a b c d X W V Q))]) G t O L:=bp (avS a b c d X W V Q)
def lO(a b c d x y:Int):Int:=if !bF a b c d then 150 else if !(decide (-2199023255552<=x)&&decide (x<=2199023255552)&&decide (-2199023255552<=y)&&decide (y<=2199023255552)) then 2 else if bF (IntKind.i64.wrap (a+x)) (IntKind.i64.wrap (b+x)) (IntKind.i64.wrap (c+y)) (IntKind.i64.wrap (d+y)) then 0 else 2
def avT(a b c d x y:Int):TB.Ev 133 [.i a,.i b,.i c,.i d,.i x,.i y] (.ret [.i (jn (lO a b c d x y==0) (IntKind.i64.wrap (a+x))),.i (jn (lO a b c d x y==0) (IntKind.i64.wrap (b+x))),.i (jn (lO a b c d x y==0) (IntKind.i64.wrap (c+y))),.i (jn (lO a b c d x y==0) (IntKind.i64.wrap (d+y))),.i (lO a b c d x y)]):=by
 refine mz rfl rfl (.inl rfl) ?_;simp[ad4,jn,ay]
 repeat' split
 all_goals(simp_all[lO])
 all_goals grind
@[simp] def aCR (a b c d x y:Int):fD TB.Ev R 133 [.i a,.i b,.i c,.i d,.i x,.i y] G t O L=fP TB.Ev R (.ret [.i (jn (lO a b c d x y==0) (IntKind.i64.wrap (a+x))),.i (jn (lO a b c d x y==0) (IntKind.i64.wrap (b+x))),.i (jn (lO a b c d x y==0) (IntKind.i64.wrap (c+y))),.i (jn (lO a b c d x y==0) (IntKind.i64.wrap (d+y))),.i (lO a b c d x y)]) G t O L:=bp (avT a b c d x y)
end
structure Sl(v:RV):Prop where
 sl:∃a n c,v.val=.slice a n c
 len:lenOf v.val=Y v.rows
 sm:Y v.rows<=140737488355328
def ci(v:RV)(i j:Nat):Int:=aO (cellAt v.rows i j).val
def cb(v:RV)(i j:Nat):Bool:=fm (cellAt v.rows i j).val
def wU(n:Nat)(X:Nat->aW->Prop):aW->Prop
 |.i j::W=>∃i:Nat,j=i/\i<=n/\X i W
 |_=>False
def vg(n:Nat):aW->Nat
 |.i j::_=>n-j.toNat
 |_=>0
section
variable{e:FuncId->aW->bn->Prop}{R:bn->Prop}{O:ac}{L:dK}
def bU{G:aR}{P:ai}{t:T}(n:Nat)(W:Nat->aW->Prop)(N:wU n W (P.map (SV.xv O)))(h:∀(i:Nat) V,i<=n->W i V->t.wp e R (O.ext (.i i::V)) (⟨X,wU n W,vg n,n-i⟩::L)):T.wp e R (.loop X G P t) O L:=by
 refine CA (wU n W) (vg n) N λM Q=> ?_
 match M,Q with
 |.i j::V,Q=>
  obtain⟨i,rfl,F,D⟩:=Q;have:=h i V F D;simpa[vg] using this
def cQ{n:Int}(X:-9223372036854775808<=n)(W:n<9223372036854775808):IntKind.i64.wrap n=n:=by
 rw[IntKind.wrap_i64];omega
def EM{i:Nat}(h:i<=140737488355328):ay .add I (i:Int) 1=((i+1:Nat):Int):=by
 simp only[ay];rw[cQ (by omega) (by omega)];omega
def bH{n:Nat}{W:Nat->aW->Prop}{i:Nat}{V:aW}(Q:i<n)(P:n<=140737488355328):OO (U ⟨X,wU n W,vg n,n-i⟩) (.i (ay .add I (i:Int) 1)::V)=W (i+1) V:=by
 rw[EM (by omega)];refine propext ⟨λh=> ?_,λh=>⟨⟨i+1,rfl,by omega,h⟩, ?_⟩⟩;obtain⟨⟨k,N,_,h⟩,_⟩:=h;have:k=i+1:=by omega
 exact this▸h;simp only[vg];omega
end
end
inductive KX where
 |i
 |b
 |r
 deriving DecidableEq
def LK.kx:LK->KX
 |.int _=>.i
 |.bool=>.b
 |.ref _=>.r
def XV.kx:XV->KX
 |.i _=>.i
 |.b _=>.b
 |.r _=>.r
def SV.kx:SV->KX
 |.bool _=>.b
 |.ref _=>.r
 |_=>.i
abbrev Tot:=FuncId->Option (List KX×List KX)
def Tot.ok(pG:Tot):Prop:=∀f p r,pG f=U (p,r)->∀X,X.map XV.kx=p->∃W,TB.Ev f X (.ret W)/\W.map XV.kx=r
def isTrue:BE->Bool
 |.c b=>b
 |_=>E
def T.pG(pG:Tot)(r:List KX):T->Bool
 |.ret v _ _=>decide ((ur v).map SV.kx=r)
 |.node _ t f=>t.pG pG r&&f.pG pG r
 |.aV b t=>isTrue b&&t.pG pG r
 |.call f X _ _ W _ t=>decide (pG f=U ((nQ X).map SV.kx,W.map LK.kx))&&t.pG pG r
 |.new _ _ _ _ t=>t.pG pG r
 |.rows _ _ _ t=>t.pG pG r
 |_=>E
def wV{f:FuncId}{X:aW}{P:Int->Prop}(h:∃o,TB.Ev f X o/\∃e,o=.ret [.i e]/\P e):TB.Ev f X (.ret [.i (oi f X 0)])/\P (oi f X 0):=by
 obtain⟨o,W,e,rfl,V⟩:=h;have:oi f X 0=e:=by simp only[oi,iW W];rfl
 rw[this];exact⟨W,V⟩
def mkb{f:FuncId}{X:aW}{P:Bool->Prop}(h:∃o,TB.Ev f X o/\∃e,o=.ret [.b e]/\P e):TB.Ev f X (.ret [.b (ob f X 0)])/\P (ob f X 0):=by
 obtain⟨o,W,e,rfl,V⟩:=h;have:ob f X 0=e:=by simp only[ob,iW W];rfl
 rw[this];exact⟨W,V⟩
structure wW(roles bars:Int)(c:Nat->Int):Prop where
 kind:1<=c 4/\c 4<=9
 aS:0<=c 1/\c 1<roles
 aa:0<=c 2/\c 2<bars
 mark:1<=c 3/\c 3<=3
 side:if c 4=1\/c 4=3\/c 4=4\/c 4=9 then 1<=c 5/\c 5<=2 else c 5=0
 dir:if c 4=1\/c 4=2 then 1<=c 6/\c 6<=8 else if c 4=3\/c 4=4\/c 4=5 then 0<=c 6/\c 6<=8 else c 6=0
 avU:if c 4=3\/c 4=4\/c 4=5\/c 4=9 then 1<=c 7/\c 7<=3 else c 7=0
 size:if c 4=1\/c 4=2 then 1<=c 8/\c 8<=16 else if c 4=6 then 1<=c 8/\c 8<=7 else c 8=0
 OP:if c 4=7\/c 4=8 then 1<=c 9/\c 9<=roles else c 9=0
 from_:ke (c 10) (c 11)=J
 to:ke (c 12) (c 13)=J
section
variable{R:bn->Prop}{G:aR}{t:T}{O:ac}{L:dK}
def iX(c:Nat->Int):aW:=[.i (c 0),.i (c 1),.i (c 2),.i (c 3),.i (c 4),.i (c 5),.i (c 6),.i (c 7),.i (c 8),.i (c 9),.i (c 10),.i (c 11),.i (c 12),.i (c 13)]
def kT(k:Int)(j:Nat):RV:=cellAt (kf[0]?.getD default).rows k j
def avV{c:Nat->Int}{X:Int}(H:1<=c 4/\c 4<=9)(G:0<=c 1/\c 1<=Q-1)(F:0<=c 2/\c 2<=X-1)(D:1<=c 3/\c 3<=3)(W:CC (c 5) (fm (kT (c 4) 0).val) 1 2=J)(V:CC (c 6) (fm (kT (c 4) 1).val) (aO (kT (c 4) 3).val) 8=J)(P:CC (c 7) (decide (0<aO (kT (c 4) 4).val)) 1 (aO (kT (c 4) 4).val)=J)(N:CC (c 8) (decide (0<aO (kT (c 4) 5).val)) 1 (aO (kT (c 4) 5).val)=J)(M:CC (c 9) (fm (kT (c 4) 2).val) 1 Q=J)
  (C:ke (c 10) (c 11)=J)(B:ke (c 12) (c 13)=J):wW Q X c:=by
 have:c 4=1\/c 4=2\/c 4=3\/c 4=4\/c 4=5\/c 4=6\/c 4=7\/c 4=8\/c 4=9:=by omega
 rcases this with h|h|h|h|h|h|h|h|h
 all_goals
  simp[h,kT,kf,mf,bV,iV,cellAt,CC,fm,aO] at W V P N M;constructor<;>(first|omega|assumption|(simp[h];done)|(simp[h];omega))
set_option maxHeartbeats 2000000 in
def t84 (c:Nat->Int) (X W:Int) (N:-1000<=X/\X<=1000000) (M:-1000<=W/\W<=1000000):∃o,TB.Ev 84 (iX c++[.i X,.i W]) o/\∃b,o=.ret [.b b]/\(b=J->wW X W c):=by
 refine dX rfl rfl (.inl rfl) ?_;have V:ay .sub I X 1=X-1:=by simp only[ay];rw[cQ (by omega) (by omega)]
 have Q:ay .sub I W 1=W-1:=by simp only[ay];rw[cQ (by omega) (by omega)]
 have P:lenOf (kf[0]?.getD default).val=10:=rfl;simp[T84,iX,V,Q,P]
 repeat' split
 all_goals(try simp)
 all_goals(intros;refine⟨by omega, ?_⟩;intros;apply avV<;>(first|assumption|omega|grind))
def f84(c:Nat->Int)(X W:Int)(V:-1000<=X/\X<=1000000)(Q:-1000<=W/\W<=1000000):TB.Ev 84 (iX c++[.i X,.i W]) (.ret [.b (ob 84 (iX c++[.i X,.i W]) 0)])/\(ob 84 (iX c++[.i X,.i W]) 0=J->wW X W c):=mkb (t84 c X W V Q)
def aeC{a:Int}(h:Q≠0):(a.tmod Q).natAbs<Q.natAbs:=by
 rw[aFX];exact aFH _ (by omega)
def avY(a b c:Int)(N:1<=c)(M:c<=32768)(H:-c<=a/\a<=c)(G:-c<=b/\b<=c):∃o,TB.Ev 153 [.i a,.i b,.i c] o/\∃x y z,o=.ret [.i x,.i y,.i z]:=by
 refine dX rfl rfl (.inl rfl) ?_;simp[aeq];refine CA (λX=>∃n d:Int,X=[.i n,.i d]∧-c<=n/\n<=c∧-c<=d/\d<=c) (λX=>(xi X 0).natAbs) ⟨a,0,rfl,by omega,by omega,by omega,by omega⟩ ?_;rintro _ ⟨n,d,rfl,W,V,Q,P⟩;simp[xi,Cz,ay];split
 case isFalse h=>
  have:=aeC (a:=d) h;refine⟨h,⟨_,_,⟨rfl,rfl⟩, ?_⟩,by rw[<-aFX];exact this⟩;omega
 refine CA (λX=>∃n d:Int,X=[.i n,.i d]∧-c<=n/\n<=c∧-c<=d/\d<=c) (λX=>(xi X 0).natAbs) ⟨b,d,rfl,by omega,by omega,by omega,by omega⟩ ?_;rintro _ ⟨n,d,rfl,W,V,Q,P⟩;simp[xi,Cz,ay];split
 case isFalse h=>
  have:=aeC (a:=d) h;refine⟨h,⟨_,_,⟨rfl,rfl⟩, ?_⟩,by rw[<-aFX];exact this⟩;omega
 refine CA (λX=>∃n d:Int,X=[.i n,.i d]∧-c<=n/\n<=c∧-c<=d/\d<=c/\(n≠0\/d≠0)) (λX=>(xi X 0).natAbs) ⟨c,d,rfl,by omega,by omega,by omega,by omega,by omega⟩ ?_;rintro _ ⟨n,d,rfl,W,V,Q,P,F⟩;simp[xi,Cz,ay];split
 case isFalse h=>
  have:=aeC (a:=d) h;refine⟨h,⟨_,_,⟨rfl,rfl⟩, ?_⟩,by rw[<-aFX];exact this⟩;omega
 have:IntKind.i64.wrap (-d)=-d:=cQ (by omega) (by omega);simp[this];omega
def t83(a b c:Int):∃o,TB.Ev 83 [.i a,.i b,.i c] o/\∃e,o=.ret [.i e]/\True:=by
 refine dX rfl rfl (.inl rfl) ?_;simp[T83];intro V Q X P N;have W:ay .sub I 0 c=-c:=by simp only[ay];rw[cQ (by omega) (by omega)];omega
 rw[W] at X;obtain⟨o,h,x,y,z,rfl⟩:=avY a b c (by omega) (by omega) (by omega) (by omega);rw[bp h];simp
@[simp] def c83 (a b c:Int):fD TB.Ev R 83 [.i a,.i b,.i c] G t O L=fP TB.Ev R (.ret [.i (oi 83 [.i a,.i b,.i c] 0)]) G t O L:=bp (wV (t83 a b c)).1
structure K8(tp:RV):Prop where
 sl:Sl tp
 pos:0<Y tp.rows
 zero:ci tp 0 0=0
def aeD{j:Nat}(h:j<=140737488355328)(V:X<=j):IntKind.i64.wrap (ay .shr .u64 (IntKind.u64.wrap (ay .add I (X:Int) (j:Int))) 1)=(((X+j)/2:Nat):Int):=by
 simp only[ay];rw[cQ (n:=(X:Int)+j) (by omega) (by omega)];rw[show IntKind.u64.wrap ((X:Int)+j)=(X:Int)+j by rw[IntKind.wrap_u64];omega];have:((X:Int)+j).fdiv (2^min (1:Int).toNat IntKind.u64.bits)=(((X+j)/2:Nat):Int):=by
  have W:(2:Int)^min (1:Int).toNat IntKind.u64.bits=2:=rfl;rw[W,aGa _ (by omega)];omega
 rw[this,cQ (by omega) (by omega)]
def av0(P aa:Int)(X N M:RV)(h:K8 X)(B:0<=aa):∃o,TB.Ev 220 [.i P,.r X,.r N,.r M,.i aa] o/\∃e,o=.ret [.i e]/\True:=by
 refine dX rfl rfl (.inl rfl) ?_;simp[aea];have A:=h.pos;have z:=h.sl.sm;refine CA (λW=>∃i j:Nat,W=[.i i,.i j]/\i<=j/\j<=Y X.rows/\(j=Y X.rows\/aa<ci X j 0)) (λW=>(xi W 1-xi W 0).toNat) ⟨0,Y X.rows,by simp[h.sl.len],by omega,by omega,.inl rfl⟩ ?_;rintro _ ⟨i,j,rfl,H,y,V⟩;simp[xi,Cz,h.sl.len,aeD (show j<=140737488355328 by omega) H];split;rename_i G;refine⟨by omega, ?_⟩;have F:((i:Int)+j)/2=(((i+j)/2:Nat):Int):=by omega
 have D:=EM (i:=(i+j)/2) (by omega);rw[F,D];split;refine⟨⟨(i+j)/2+1,j,⟨rfl,rfl⟩,by omega,by omega,V⟩,by omega⟩;rename_i Q;refine⟨⟨i,(i+j)/2,⟨rfl,rfl⟩,by omega,by omega,.inr ?_⟩,by omega⟩;simp only[ci];omega;rename_i G;have C:i=j:=by omega
 subst C;have:1<=i:=by
  rcases aEu i with rfl|Q;have:=h.zero;rcases V with V|V<;>omega;exact Q
 rw[show ay .sub I (i:Int) 1=(i:Int)-1 by simp only[ay];rw[cQ (by omega) (by omega)]];omega
def anZ(W aa:Int)(X V Q:RV)(h:K8 X)(P:0<=aa):fD TB.Ev R 220 [.i W,.r X,.r V,.r Q,.i aa] G t O L=fP TB.Ev R (.ret [.i (oi 220 [.i W,.r X,.r V,.r Q,.i aa] 0)]) G t O L:=bp (wV (av0 W aa X V Q h P)).1
end
section
def aq(X:am):RV:=.mk (.slice Z (Y X) (Y X)) X
@[simp] def aCT (x:LE) (O:ac):gf x O=aq (x.rows O):=rfl
@[simp] def Wa (r:am):(aq r).rows=r:=rfl
@[simp] def aCU (r:am):lenOf (aq r).val=Y r:=rfl
@[simp] def vi:RV.mk (.slice Z 0 0) []=aq []:=rfl
def kw(h:Y W<=140737488355328):Sl (aq W):=⟨⟨_,_,_,rfl⟩,rfl,h⟩
attribute[simp] LE.rows SV.bN
def K9(c:Nat->Int):aF:=[.mk (.int I (c 0)) [],.mk (.int I (c 1)) [],.mk (.int I (c 2)) [],.mk (.int I (c 3)) [],.mk (.int I (c 4)) [],.mk (.int I (c 5)) [],.mk (.int I (c 6)) [],.mk (.int I (c 7)) [],.mk (.int I (c 8)) [],.mk (.int I (c 9)) [],.mk (.int I (c 10)) [],.mk (.int I (c 11)) [],.mk (.int I (c 12)) [],.mk (.int I (c 13)) []]
def an1{lt:aF->aF->Bool}{x:aF}:∀{l:am},(dO lt x l).Perm (x::l)
 |[]=>aF3 _
 |y::r=>by
  simp only[dO];split;exact aF3 _;exact((an1 (l:=r)).cons y).trans (aG1 x y r)
def an2{lt:aF->aF->Bool}:∀(l acc:am),(l.foldl (λacc x=>dO lt x acc) acc).Perm (acc++l)
 |[],acc=>by simp
 |x::l,acc=>by
  simp only[aEG];refine(an2 l _).trans ?_;refine(List.Perm.append_right l an1).trans ?_;rw[aDi];exact List.perm_middle.symm
def yR{lt:aF->aF->Bool}(l:am):(bD lt l).Perm l:=by
 have:=an2 (lt:=lt) l [];simpa[bD] using this
def tG(X:am):Prop:=X.Pairwise λx y=>ax 0 x≠ax 0 y
def tG.perm{X:am}(h:tG W)(V:X.Perm W):tG X:=(V.symm.pairwise_iff (λ{x y} h=>h.symm)).1 h
def an3:∀{X:am},tG X->sn (be.lex [0] E).lt X=J
 |[],_=>rfl
 |x::r,h=>by
  simp only[tG,aDz] at h;simp only[sn,aDc,aDr,aDE];refine⟨λy V=> ?_,an3 h.2⟩;have W:¬ax 0 x=ax 0 y:=h.1 y V;have Q:¬ax 0 y=ax 0 x:=λe=>W e.symm
  simp only[be.lt,gX,if_neg W,if_neg Q,aDB,if_false,decide_eq_true_eq];omega
def an4{X:Bool}(V:Y W<=1099511627776)(h:tG W):fU (.lex [0] E) X W=U (bD (be.lex [0] E).lt W):=by
 simp only[fU];rw[if_pos (by simp[V,an3 h,be.ok])]
def av1{rows:am}(X:Y rows<=1099511627776)(h:∀x∈rows,ke (ax 10 x) (ax 11 x)=J):fU (.ratio 10 11) J rows=U (bD (be.ratio 10 11).lt rows):=by
 simp only[fU];rw[if_pos (by simp only[aDc,decide_eq_true_eq,aGL,and_true];exact⟨X,aDr.2 h⟩)]
structure dl where
 cW:Int
 cD:Int
 cA:Int
 cB:Int
 cC:Int
 cO:Int
 cr0:RV
 ct0:RV
 cp0:RV
 jF:RV
 cg0:RV
section
variable[Inhabited dl]
def gO:Int:=(default:dl).cW
def gw:Int:=(default:dl).cD
def ny:Int:=(default:dl).cA
def tH:Int:=(default:dl).cB
def tI:Int:=(default:dl).cC
def dg:Int:=(default:dl).cO
def ak:RV:=(default:dl).cr0
def iO:RV:=(default:dl).ct0
def jg:RV:=(default:dl).cp0
def jh:RV:=(default:dl).jF
def aP:RV:=(default:dl).cg0
end
structure qC[Inhabited dl]:Prop where
 nr:1<=Y ak.rows/\Y ak.rows<=64
 ns:Y aP.rows<=4096
 br:1<=dg/\dg<=4096
 wd:1<=gO/\gO<=1000/\1<=gw/\gw<=1000
 tp:K8 iO
 AL:∀i<Y aP.rows,wW (Y ak.rows) dg (ci aP i)
 id:∀i<Y aP.rows,0<=ci aP i 0/\ci aP i 0<=1048576
 ids:∀i j,i<j->j<Y aP.rows->ci aP i 0<ci aP j 0
structure dD[Inhabited dl]:Prop where
 rl:Sl ak
 tp:Sl iO
 ps:Sl jg
 sp:Sl jh
 sg:Sl aP
section
variable{R:bn->Prop}{G:aR}{t:T}{O:ac}{L:dK}
variable[Inhabited dl]
def wk:aW:=[.i gO,.i gw,.i ny,.i tH,.i tI,.r ak,.i dg,.r iO,.r jg,.r jh,.r aP]
def wX:Prop:=∀(dg:Int)(iO jg jh:RV),Sl iO->Sl jg->Sl jh->TB.Ev 81 [.i dg,.r iO,.r jg,.r jh] (.ret [.i (oi 81 [.i dg,.r iO,.r jg,.r jh] 0)])/\(oi 81 [.i dg,.r iO,.r jg,.r jh] 0=0->K8 iO/\1<=dg/\dg<=4096)
def t37(F:wX)(h:dD):∃o,TB.Ev 37 wk o/\∃e,o=.ret [.i e]/\(e=0->qC):=by
 refine dX rfl rfl (.inl rfl) ?_;obtain⟨D,C⟩:=F dg iO jg jh h.tp h.ps h.sp;simp[T37,wk,h.rl.len,h.sg.len,bp D]
 repeat'(first|intro _|split)
 any_goals(exfalso;omega)
 obtain⟨B,r,q⟩:=C (by assumption);refine bU (Y ak.rows) (λ_ P=>P=[]) ⟨0,rfl,by omega,rfl⟩ ?_;rintro i _ X rfl;simp[h.rl.len];split;rename_i X;simp[bH X h.rl.sm,X];refine bU (Y aP.rows) (λi P=>∃V:Int,P=[.i V]∧-1<=V/\(∀k<i,wW (Y ak.rows) dg (ci aP k)/\0<=ci aP k 0/\ci aP k 0<=V/\ci aP k 0<=1048576)/\∀j k,j<k->k<i->ci aP j 0<ci aP k 0) ⟨0,rfl,by omega,-1,rfl,by omega,by omega,by omega⟩ ?_;rintro j _ N ⟨V,rfl,p,W,M⟩;simp[h.rl.len,h.sg.len];split;rename_i N;refine⟨N,λn m=> ?_⟩;obtain⟨H,Q⟩:=f84 (ci aP j) (Y ak.rows) dg (by omega) (by omega);simp only[iX,ci,aDi,aDl] at H Q;rw[bp H];simp[bH N h.sg.sm];intro A;have Q:=Q A;refine⟨by omega,λk l=> ?_,λa b G g=> ?_⟩;by_cases z:k=j;subst z;refine⟨Q, ?_, ?_, ?_⟩<;>simp only[ci]<;>omega;obtain⟨y,x,w,v⟩:=W k (by omega);exact⟨y,x,by simp only[ci] at w⊢;omega,v⟩;by_cases u:b=j;subst u;have:=(W a G).2.2.1;simp only[ci] at this⊢;omega;exact M a b G (by omega);have s:j=Y aP.rows:=by omega
 subst s;have f:Y ak.rows≠0:=λe=>absurd (aDT.1 e) (by assumption)
 exact⟨by omega,by omega,by omega,by omega,B,λi X=>(W i X).1,λi X=>⟨(W i X).2.1,(W i X).2.2.2⟩,M⟩
end
end
section
variable{R:bn->Prop}{G:aR}{t:T}{O:ac}{L:dK}
def t81(W:Int)(Q N M:RV)(P:Sl Q)(H:Sl N)(G:Sl M):∃o,TB.Ev 81 [.i W,.r Q,.r N,.r M] o/\∃e,o=.ret [.i e]/\(e=0->K8 Q/\1<=W/\W<=4096):=by
 refine dX rfl rfl (.inr λv D=>by obtain⟨_,h,_⟩:=D;cases h) ?_;simp[T81,P.len,H.len,G.len]
 repeat'(first|intro _|split)
 refine⟨by assumption, ?_⟩;intro C;have B:0<Y Q.rows:=by assumption
 have F:K8 Q:=⟨P,B,by simpa[ci] using C⟩;have A:1<=W/\W<=4096:=by omega
 refine bU (Y Q.rows) (λ_ V=>∃n:Int,V=[.i n]) ⟨0,rfl,by omega,_,rfl⟩ ?_;rintro i _ X ⟨n,rfl⟩;simp[P.len];split;rename_i X;simp[bH X P.sm,X];refine bU W.toNat (λ_ V=>V=[]) ⟨0,rfl,by omega,rfl⟩ ?_;rintro i _ X rfl;simp;split;rename_i X;have z:i<W.toNat:=by omega
 rw[anZ _ _ _ _ _ F (by omega)];simp[bH z (show W.toNat<=140737488355328 by omega)];refine bU (Y N.rows) (λ_ V=>∃n:Int,V=[.i n]) ⟨0,rfl,by omega,_,rfl⟩ ?_;rintro i _ X ⟨n,rfl⟩;simp[H.len];split;rename_i X;simp[bH X H.sm,X];refine bU (Y M.rows) (λ_ V=>V=[]) ⟨0,rfl,by omega,rfl⟩ ?_;rintro i _ X rfl;simp[G.len];split;rename_i X;simp[bH X G.sm,X];exact⟨F,A⟩
def iP:wX:=λX W V Q P N M=>wV (t81 X W V Q P N M)

variable[Inhabited dl]
@[simp] def Hl (c:Nat->Int) (j:Nat) (h:j<14):ax j (K9 c)=c j:=by
 match j,h with
 |0,_|1,_|2,_|3,_|4,_|5,_|6,_|7,_|8,_|9,_|10,_|11,_|12,_|13,_=>rfl
def tJ(aS aa:Int):Nat->am
 |0=>[]
 |i+1=>tJ aS aa i++(if ci aP i 1=aS/\ci aP i 2=aa then[K9 (ci aP i)] else[])
def Wb{aS aa:Int}:∀i,(tJ aS aa i).length<=i
 |0=>by simp[tJ]
 |i+1=>by
  have:=Wb (aS:=aS) (aa:=aa) i;simp only[tJ,aDs];split<;>simp<;>omega
def Wc{aS aa:Int}{x:aF}:∀{i},x∈tJ aS aa i<->∃k<i,x=K9 (ci aP k)/\ci aP k 1=aS/\ci aP k 2=aa
 |0=>by simp[tJ]
 |i+1=>by
  simp only[tJ,aDo,Wc (i:=i)];constructor;rintro(⟨k,V,X⟩|h);exact⟨k,by omega,X⟩;split at h;rename_i Q;simp at h;exact⟨i,by omega,h,Q⟩;simp at h;rintro⟨k,V,X,W⟩;by_cases P:k=i;subst P;right;rw[if_pos W];simp[X];exact .inl ⟨k,by omega,X,W⟩
def an5{aS aa:Int}(h:∀i j,i<j->j<Y aP.rows->ci aP i 0<ci aP j 0):∀{i},i<=Y aP.rows->tG (tJ aS aa i)
 |0,_=>aD6
 |i+1,Q=>by
  simp only[tJ,tG,aDH];refine⟨an5 h (by omega),by split<;>simp,λx W y X=> ?_⟩;obtain⟨k,V,rfl,-⟩:=(Wc).1 W;split at X;simp at X;subst X;rw[Hl _ _ (by omega),Hl _ _ (by omega)];have:=h k i V (by omega);omega;simp at X
def gP:Int:=oi 37 wk 0
def j7(aS aa:Int):Int:=if gP=0 then(if gq aS 0 (Y ak.rows-1)&&gq aa 0 (dg-1) then 0 else 1) else gP
def cj(aS aa:Int):am:=if j7 aS aa=0 then bD (be.ratio 10 11).lt (tJ aS aa (Y aP.rows)) else[]
def pH(X:wX)(h:dD):TB.Ev 37 wk (.ret [.i gP])/\(gP=0->qC):=wV (t37 X h)
def EN(G:wX)(h:dD)(aS aa:Int):TB.Ev 77 (wk++[.i aS,.i aa]) (.ret [.r (aq (cj aS aa)),.i (j7 aS aa)]):=by
 refine mz rfl rfl (.inl rfl) ?_;obtain⟨W,F⟩:=pH G h;simp only[wk] at W;simp[T77,wk,h.rl.len,bp W];split
 case isFalse X=>
  simp[cj,j7,X]
 rename_i X;have V:=F X;have y:=V.nr;have w:=V.br;rw[show ay .sub I (Y ak.rows:Int) 1=Y ak.rows-1 by simp only[ay];rw[cQ (by omega) (by omega)],show ay .sub I dg 1=dg-1 by simp only[ay];rw[cQ (by omega) (by omega)]];split
 case isFalse Q=>
  simp[cj,j7,X,Q]
 rename_i Q;split
 case isFalse N=>
  simp[cj,j7,X,Q,N]
 rename_i N;refine bU (Y aP.rows) (λi D=>D=[.r (aq (tJ aS aa i))]) ⟨0,rfl,by omega,rfl⟩ ?_;rintro i _ M rfl;have bq:=Wb (aS:=aS) (aa:=aa) i;have v:=V.ns;simp[h.sg.len];split;rename_i M;simp[bH M h.sg.sm,tJ,ci,M];have u:(tJ aS aa i).length<=536870912:=by omega
 split;rename_i P;split;rename_i H;simp[P,H,K9,ci];omega;rename_i H;simp[P,H];rename_i P;simp[P];have C:i=Y aP.rows:=by omega
 subst C;have B:=av1 (rows:=tJ aS aa (Y aP.rows)) (by have:=Wb (aS:=aS) (aa:=aa) (Y aP.rows);have:=h.sg.sm;omega) (λx A=>by
  obtain⟨k,W,rfl,-⟩:=(Wc).1 A;rw[Hl _ _ (by omega),Hl _ _ (by omega)];exact(V.AL k W).from_)
 simp only[tE,tF];refine⟨_,B, ?_⟩;have z:j7 aS aa=0:=by simp[j7,X,Q,N]
 simp[cj,z,aq,nN]
def aeE{aa:Int}(P:gP=0->qC){x:aF}(X:x∈cj Q aa):∃k<Y aP.rows,x=K9 (ci aP k)/\ci aP k 1=Q/\ci aP k 2=aa/\wW (Y ak.rows) dg (ci aP k):=by
 unfold cj at X;split at X;rename_i W;have N:gP=0:=by
  unfold j7 at W;split at W;assumption;exact W
 obtain⟨k,V,M,H,G⟩:=(Wc).1 ((yR _).mem_iff.1 X);exact⟨k,V,M,H,G,(P N).AL k V⟩;simp at X
def We{aS aa:Int}(W:gP=0->qC):tG (cj aS aa):=by
 unfold cj;split;rename_i X;have V:gP=0:=by
  unfold j7 at X;split at X;assumption;exact X
 exact(an5 (W V).ids (aDm _)).perm (yR _);exact aD6
def La{aS aa:Int}(W:gP=0->qC):(cj aS aa).length<=4096:=by
 unfold cj;split;rename_i X;have V:gP=0:=by
  unfold j7 at X;split at X;assumption;exact X
 rw[nN];have:=Wb (aS:=aS) (aa:=aa) (Y aP.rows);have:=(W V).ns;omega;simp
end
section
variable{R:bn->Prop}{G:aR}{t:T}{O:ac}{L:dK}
def av8(c:Nat->Int)(x y z:Int)(b:Bool):∃o,TB.Ev 225 (iX c++[.i x,.i y,.i z,.b b]) o/\∃e,o=.ret [.b e]/\(e=J->x=c 0):=by
 refine dX rfl rfl (.inl rfl) ?_;simp[aem,iX]
 repeat' split
 all_goals(intros;grind [gq])
def an6(c:Nat->Int)(x y z:Int)(b:Bool):TB.Ev 225 (iX c++[.i x,.i y,.i z,.b b]) (.ret [.b (ob 225 (iX c++[.i x,.i y,.i z,.b b]) 0)])/\(ob 225 (iX c++[.i x,.i y,.i z,.b b]) 0=J->x=c 0):=mkb (av8 c x y z b)
def aeF(c:Nat->Int)(r:RV)(k:Nat):aF:=K9 c++[.mk (.int I (ci r k 0)) [],.mk (.int I (ci r k 1)) [],.mk (.int I (ci r k 2)) [],.mk (.bool (cb r k 3)) []]
def bm(X:am)(i j:Nat):Int:=aO (cellAt X i j).val
def wY(l:am)(r:RV)(n:Nat)(out:am):Prop:=Y out=n/\∀i<n,∃k<Y r.rows,out[i]?=U (aeF (bm l i) r k)/\ci r k 0=bm l i 0
def wY.add{r:RV}{out:am}(h:wY W r X out){k:Nat}(V:k<Y r.rows)(hid:ci r k 0=bm W X 0):wY W r (X+1) (out++[aeF (bm W X) r k]):=by
 refine⟨by simp[h.1],λi G=> ?_⟩;by_cases Q:i=X;subst Q;refine⟨k,V, ?_,hid⟩;rw[aDk (by rw[h.1];omega),h.1];simp;obtain⟨P,N,M,H⟩:=h.2 i (by omega);exact⟨P,N,by rw[aDg (by rw[h.1];omega)];exact M,H⟩
def av9(l:am)(r:RV)(W:Sl r)(C:Y l<=4096)(G:tG l)(N:0<Y l):∃o,TB.Ev 155 [.r (aq l),.r r] o/\∃v b,o=.ret [.r (aq v),.b b]/\(b=E->v=[])/\(b=J->wY l r (Y l) v):=by
 refine dX rfl rfl (.inl rfl) ?_;simp[VW,W.len];intro F;simp only[Hk];refine⟨.inl rfl,λ_=> ?_,λh=> ?_,λ_ h=> ?_⟩;simp;refine⟨by omega, ?_⟩;simp only[tE,tF];refine⟨_,an4 (by simp;omega) (by simpa using G), ?_⟩;simp;have B:(bD (be.lex [0] E).lt l).length=Y l:=nN;refine bU (Y l) (λi V=>∃v,V=[.r (aq v)]/\wY l r i v) ⟨0,rfl,by omega,[],rfl,rfl,by omega⟩ ?_;rintro i _ Q ⟨v,rfl,P⟩;simp;split;rename_i Q;refine⟨Q, ?_⟩;refine bU (Y l) (λj V=>V=[.r (aq v)]) ⟨0,rfl,by omega,rfl⟩ ?_;rintro j _ X rfl;simp[W.len];intro X;have A:=P.1;simp[bH X (show Y l<=140737488355328 by omega)];refine⟨X,λz=>⟨by omega, ?_⟩⟩;obtain⟨M,H⟩:=an6 (bm l i) (ci r j 0) (ci r j 1) (ci r j 2) (cb r j 3);simp only[iX,bm,ci,cb,aDi,aDl] at M H;rw[bp M];simp[bH X (show Y l<=140737488355328 by omega),bH Q (show Y l<=140737488355328 by omega),<-F,W.len];intro D;refine⟨X,by omega, ?_⟩;have:=P.add (k:=j) (by omega) (H D);exact⟨_,rfl,this⟩;have:i=Y l:=by omega
 subst this;exact⟨_,rfl,P⟩;simp at h;simp[h] at N;simp at h;simp[h] at N
def awa(r:RV)(Q:Sl r):TB.Ev 155 [.r (aq []),.r r] (.ret [.r (aq []),.b (Y r.rows==0)]):=by
 refine mz rfl rfl (.inl rfl) ?_;simp[VW,Q.len];split
 case isFalse h=>
  intro e;simp[e] at h
 rename_i h;have W:Y r.rows=0:=by omega
 have V:fU (be.lex [0] E) E []=U []:=rfl;simp only[Hk,tE,tF];refine⟨.inl rfl,λ_=> ?_,λ_=> ?_,λ_ _=>single (Jf _)⟩
 ·try simp
  try simp only[tE,tF]
  refine⟨_,by simpa using V, ?_⟩;refine bU 0 (λi X=>X=[.r (aq [])]) ⟨0,rfl,by omega,rfl⟩ ?_;rintro i _ P rfl;have:i=0:=by omega
  simp[W,this]
 ·try simp
  try simp only[tE,tF]
  refine⟨_,by simpa using V, ?_⟩;refine bU 0 (λi X=>X=[.r (aq [])]) ⟨0,rfl,by omega,rfl⟩ ?_;rintro i _ P rfl;have:i=0:=by omega
  simp[W,this]
def an7(l:am)(r:RV)(X:Sl r)(W:Y l<=4096)(V:tG l):∃o,TB.Ev 155 [.r (aq l),.r r] o/\∃v b,o=.ret [.r (aq v),.b b]/\(b=E->v=[])/\(b=J->wY l r (Y l) v):=by
 cases l with
 |nil=>exact⟨_,awa r X,[],Y r.rows==0,rfl,λ_=>rfl,λ_=>⟨rfl,by simp⟩⟩
 |cons x l=>exact av9 (x::l) r X W V (by simp)
def jP{f:FuncId}{W:aW}(G:aR)(h:∃o,TB.Ev f W o/\∃X,o=.ret X/\fq G X=J):TB.Ev f W (.ret (od (out f W) G 0)):=by
 obtain⟨o,V,X,Q,N⟩:=h;exact(shp G (P:=λ_=>True) ⟨o,V,X,Q,N,trivial⟩).1
def kI:Nat->aR
 |0=>[]
 |n+1=>.int I::kI n
@[simp] def CD:kI 0=[]:=rfl
@[simp] def AM (n:Nat):kI (n+1)=.int I::kI n:=rfl
def awb(a b:Int):∃o,TB.Ev 138 [.i a,.i b] o/\∃X,o=.ret X/\fq (kI 2) X=true:=by
 refine dX rfl rfl (.inl rfl) ?_;simp[adY]
@[simp] def aCV (a b:Int):fD TB.Ev R 138 [.i a,.i b] G t O L=fP TB.Ev R (.ret [.i (oi 138 [.i a,.i b] 0),.i (oi 138 [.i a,.i b] 1)]) G t O L:=bp (jP _ (awb a b))
def awc(a b:Int):∃o,TB.Ev 139 [.i a,.i b] o/\∃X,o=.ret X/\fq (kI 4) X=true:=by
 refine dX rfl rfl (.inl rfl) ?_;simp[VK]
 repeat'(first|intro _|split)
 have W:lenOf (kf[2]?.getD default).val=8:=rfl;rw[show ay .sub I a 1=a-1 by simp only[ay];exact cQ (by omega) (by omega),W];omega
@[simp] def aCW (a b:Int):fD TB.Ev R 139 [.i a,.i b] G t O L=fP TB.Ev R (.ret [.i (oi 139 [.i a,.i b] 0),.i (oi 139 [.i a,.i b] 1),.i (oi 139 [.i a,.i b] 2),.i (oi 139 [.i a,.i b] 3)]) G t O L:=bp (jP _ (awc a b))
def awd(a:Int):∃o,TB.Ev 376 [.i a] o/\∃X,o=.ret X/\fq (kI 3) X=true:=by
 refine dX rfl rfl (.inl rfl) ?_;simp[adZ]
 repeat'(first|intro _|split)
 have W:lenOf (kf[2]?.getD default).val=8:=rfl;rw[show ay .sub I a 1=a-1 by simp only[ay];exact cQ (by omega) (by omega),W];omega
@[simp] def aCX (a:Int):fD TB.Ev R 376 [.i a] G t O L=fP TB.Ev R (.ret [.i (oi 376 [.i a] 0),.i (oi 376 [.i a] 1),.i (oi 376 [.i a] 2)]) G t O L:=bp (jP _ (awd a))
def awe(a b c d e f:Int):∃o,TB.Ev 361 [.i a,.i b,.i c,.i d,.i e,.i f] o/\∃X,o=.ret X/\fq (kI 2) X=true:=by
 refine dX rfl rfl (.inl rfl) ?_;simp[ad6]
@[simp] def aCY (a b c d e f:Int):fD TB.Ev R 361 [.i a,.i b,.i c,.i d,.i e,.i f] G t O L=fP TB.Ev R (.ret [.i (oi 361 [.i a,.i b,.i c,.i d,.i e,.i f] 0),.i (oi 361 [.i a,.i b,.i c,.i d,.i e,.i f] 1)]) G t O L:=bp (jP _ (awe a b c d e f))
def awf(a b c:Int):∃o,TB.Ev 248 [.i a,.i b,.i c] o/\∃X,o=.ret X/\fq (kI 3) X=true:=by
 refine dX rfl rfl (.inl rfl) ?_;simp[ad7]
@[simp] def aCZ (a b c:Int):fD TB.Ev R 248 [.i a,.i b,.i c] G t O L=fP TB.Ev R (.ret [.i (oi 248 [.i a,.i b,.i c] 0),.i (oi 248 [.i a,.i b,.i c] 1),.i (oi 248 [.i a,.i b,.i c] 2)]) G t O L:=bp (jP _ (awf a b c))
def awg(s:RV)(b:Int):∃o,TB.Ev 272 [.r s,.i b] o/\∃X,o=.ret X/\fq (kI 1) X=true:=by
 cases W:s.val with
 |string u=>exact⟨_,aap (by simp only[TB,wT,ON,W];rfl),_,rfl,rfl⟩
 |_=>exact⟨_,aap (by simp only[TB,wT,ON,W];rfl),_,rfl,rfl⟩
@[simp] def aC0 (s:RV) (b:Int):fD TB.Ev R 272 [.r s,.i b] G t O L=fP TB.Ev R (.ret [.i (oi 272 [.r s,.i b] 0)]) G t O L:=bp (jP _ (awg s b))
def awh(a:Int):∃o,TB.Ev 207 [.i a] o/\∃X,o=.ret X/\fq (kI 1) X=true:=by
 refine dX rfl rfl (.inl rfl) ?_;simp[aeo]
@[simp] def aC1 (a:Int):fD TB.Ev R 207 [.i a] G t O L=fP TB.Ev R (.ret [.i (oi 207 [.i a] 0)]) G t O L:=bp (jP _ (awh a))
def rM(v:RV):Prop:=∃s,v.val=.string s
def rN(v:RV):rM (cT .str v):=by
 simp only[cT];split<;>exact⟨_,rfl⟩
def awi(s:RV)(Q:rM s):∃o,TB.Ev 135 [.r s] o/\∃W,o=.ret W/\fq [.bool] W=true:=by
 refine dX rfl rfl (.inl rfl) ?_;obtain⟨u,V⟩:=Q;simp[aek,V,ue,lenOf];intro P G;have N:0<u.size:=by
  rcases aEu u.size with h|h;exfalso;apply P;have M:u=ByteArray.empty:=by simpa using h
  rw[M,ByteArray.toList,ByteArray.toList.loop];simp;exact h
 refine⟨N,λ_=> ?_⟩;refine bU u.size (λ_ H=>H=[]) ⟨0,rfl,by omega,rfl⟩ ?_;rintro i _ X rfl;simp[V,lenOf];intro X;simp[bH X (show u.size<=140737488355328 by omega),X]
def an8(s:RV)(X:rM s):fD TB.Ev R 135 [.r s] G t O L=fP TB.Ev R (.ret [.b (ob 135 [.r s] 0)]) G t O L:=bp (jP [.bool] (awi s X))
def t74(W V Q P N M H G F D C B A:Int):∃o,TB.Ev 74 [.i W,.i V,.i Q,.i P,.i N,.i M,.i H,.i G,.i F,.i D,.i C,.i B,.i A] o/\∃X,o=.ret X/\fq (kI 1) X=true:=by
 refine dX rfl rfl (.inl rfl) ?_;simp[VX]
def CE(X W V Q P N M H G F D C B:Int):Int:=oi 74 [.i X,.i W,.i V,.i Q,.i P,.i N,.i M,.i H,.i G,.i F,.i D,.i C,.i B] 0
@[simp] def c74 (X W V Q P N M H F D C B A:Int):fD TB.Ev R 74 [.i X,.i W,.i V,.i Q,.i P,.i N,.i M,.i H,.i F,.i D,.i C,.i B,.i A] G t O L=fP TB.Ev R (.ret [.i (CE X W V Q P N M H F D C B A)]) G t O L:=bp (jP _ (t74 X W V Q P N M H F D C B A))
def t75(s:RV)(Q:rM s)(P N M H G F D C B A z X W V y x:Int):∃o,TB.Ev 75 [.r s,.i P,.i N,.i M,.i H,.i G,.i F,.i D,.i C,.i B,.i A,.i z,.i X,.i W,.i V,.i y,.i x] o/\∃e,o=.ret [.i e]/\(e=0->(1<=X/\X<=3)/\(1<=W/\W<=3)/\1<=V/\V<=3):=by
 refine dX rfl rfl (.inl rfl) ?_;simp[VY,an8 s Q];intros;omega
def AN(s:RV)(X W V Q P N M H G F D C B A z y:Int):Int:=oi 75 [.r s,.i X,.i W,.i V,.i Q,.i P,.i N,.i M,.i H,.i G,.i F,.i D,.i C,.i B,.i A,.i z,.i y] 0
def f75(s:RV)(x:rM s)(Q P N M H G F D C B A X W V z y:Int):TB.Ev 75 [.r s,.i Q,.i P,.i N,.i M,.i H,.i G,.i F,.i D,.i C,.i B,.i A,.i X,.i W,.i V,.i z,.i y] (.ret [.i (AN s Q P N M H G F D C B A X W V z y)])/\(AN s Q P N M H G F D C B A X W V z y=0->(1<=X/\X<=3)/\(1<=W/\W<=3)/\1<=V/\V<=3):=wV (t75 s x Q P N M H G F D C B A X W V z y)
def CF(s:RV)(w:rM s)(X W V Q P N M H F D C B A z y x:Int):fD TB.Ev R 75 [.r s,.i X,.i W,.i V,.i Q,.i P,.i N,.i M,.i H,.i F,.i D,.i C,.i B,.i A,.i z,.i y,.i x] G t O L=fP TB.Ev R (.ret [.i (AN s X W V Q P N M H F D C B A z y x)]) G t O L:=bp (f75 s w X W V Q P N M H F D C B A z y x).1
set_option maxHeartbeats 4000000 in
def t27 (W V Q P N M H G F D C B A:Int) (s:RV) (z:rM s) (y x w v u q p n m l k j h g f e:Int):∃o,TB.Ev 27 [.i W,.i V,.i Q,.i P,.i N,.i M,.i H,.i G,.i F,.i D,.i C,.i B,.i A,.r s,.i y,.i x,.i w,.i v,.i u,.i q,.i p,.i n,.i m,.i l,.i k,.i j,.i h,.i g,.i f,.i e] o/\∃X,o=.ret X/\fq (kI 5) X=true:=by
 refine dX rfl rfl (.inl rfl) ?_;simp(config:={maxSteps:=10000000}) [Cy,CF s z]

variable[Inhabited dl]
structure OQ:Prop where
 rl:lenOf ak.val<=100
 tp:lenOf iO.val<=64
 ps:lenOf jg.val<=64
 sp:lenOf jh.val<=64
 sg:lenOf aP.val<=5000
def t33:∃o,TB.Ev 33 wk o/\∃b,o=.ret [.b b]/\(b=J->OQ):=by
 refine dX rfl rfl (.inl rfl) ?_;by_cases h:lenOf ak.val<=100/\lenOf iO.val<=64/\lenOf jg.val<=64/\lenOf jh.val<=64/\lenOf aP.val<=5000
 ·have X:OQ:=⟨h.1,h.2.1,h.2.2.1,h.2.2.2.1,h.2.2.2.2⟩;simp[VS,wk,X];intros
  repeat' split
  all_goals(intros;omega)
 ·have X:¬OQ:=λf=>h ⟨f.rl,f.tp,f.ps,f.sp,f.sg⟩
  simp[VS,wk,X];intros
  repeat' split
  all_goals(intros;omega)
def f33:TB.Ev 33 wk (.ret [.b (ob 33 wk 0)])/\(ob 33 wk 0=J->OQ):=mkb t33
def cr(e:TypeId)(v:RV)(i:Nat):RV:=cT (.sl e) (cellAt v.rows i 0)
structure awo(wg bd st re:RV):Prop where
 few:OQ
 wg:lenOf wg.val<=20
 bd:lenOf bd.val<=100
 st:lenOf st.val<=100
 rel:lenOf re.val<=100
 fG:∀i:Nat,i<lenOf re.val->lenOf (cr 96 re i).val<=100
def awp(W:RV)(H:lenOf W.val<=100)(F:0<=lenOf W.val){L:dK}{O:ac}{t:T}{G:aR}{Q:ai}
  (P:Q.map (SV.xv O)=[.i 0])
  (N:∀(i:Nat),i<=lenOf W.val->(∀k<i,lenOf (cr 96 W k).val<=100)->t.wp TB.Ev R (O.ext [.i i]) (⟨X,wU (lenOf W.val).toNat (λi V=>V=[]/\∀k<i,lenOf (cr 96 W k).val<=100),vg (lenOf W.val).toNat,(lenOf W.val).toNat-i⟩::L)):
  T.wp TB.Ev R (.loop X G Q t) O L:=by
 refine bU (lenOf W.val).toNat (λi V=>V=[]/\∀k<i,lenOf (cr 96 W k).val<=100) (by rw[P];exact⟨0,rfl,by omega,rfl,by omega⟩) ?_;rintro i _ D ⟨rfl,M⟩;exact N i (by omega) M
def t12(V Q P X:RV)(G:0<=lenOf X.val):∃o,TB.Ev 12 (wk++[.r V,.r Q,.r P,.r X]) o/\∃b,o=.ret [.b b]/\(b=J->awo V Q P X):=by
 refine dX rfl rfl (.inl rfl) ?_;obtain⟨N,M⟩:=f33;simp only[wk] at N M;simp[T12,wk,bp N];intro W;have W:=M W
 repeat'(first|intro _|split)
 all_goals
  refine awp X ?_ G ?_ ?_;omega;rfl;intro i z H;simp;split;rename_i F;have D:i<(lenOf X.val).toNat:=by omega
  rw[bH D (by omega)];refine⟨by omega,λC=>⟨rfl,λk B=> ?_⟩⟩;by_cases A:k=i;subst A;simp only[cr];exact C;exact H k (by omega);rename_i F;exact⟨W,by omega,by omega,by omega,by omega,λk B=>H k (by omega)⟩
def e65(V:wX)(h:dD)(aa:Int):TB.Ev 65 (wk++[.i aa]) (.ret [.i (if gP=0 then(if gq aa 0 (dg-1) then 0 else 1) else gP)]):=by
 refine mz rfl rfl (.inl rfl) ?_;obtain⟨W,Q⟩:=pH V h;simp only[wk] at W;simp[T65,wk,bp W];split;rename_i X;have:=(Q X).br;rw[show ay .sub I dg 1=dg-1 by simp only[ay];rw[cQ (by omega) (by omega)]];split<;>simp_all;rename_i X;simp[X]
def EO(c:Nat->Int):aW:=[.i (c 0),.i (c 1),.i (c 2),.i (c 3),.i (c 4),.i (c 5),.i (c 6),.i (c 7)]
def t25(c:Nat->Int)(aa:Int):∃o,TB.Ev 25 (EO c++[.i aa]) o/\∃X,o=.ret X/\fq (kI 5) X=true:=by
 refine dX rfl rfl (.inl rfl) ?_;simp[T25,EO]
def jQ(c:Nat->Int)(aa:Int)(k:Nat):Int:=oi 25 (EO c++[.i aa]) k
def f25(c:Nat->Int)(aa:Int):TB.Ev 25 (EO c++[.i aa]) (.ret [.i (jQ c aa 0),.i (jQ c aa 1),.i (jQ c aa 2),.i (jQ c aa 3),.i (jQ c aa 4)]):=jP _ (t25 c aa)
def aoa(n:Nat)(v:am):Prop:=Y v<=4096/\∀x∈v,(0<=ax 0 x/\ax 0 x<n)/\0<=ax 1 x/\ax 1 x<n
def t23(H:wX)(h:dD)(aa:Int):∃o,TB.Ev 23 (wk++[.i aa]) o/\∃v e,o=.ret [.r (aq v),.i e]/\(e≠0->v=[])/\aoa (Y ak.rows) v/\(e=0->gP=0/\gq aa 0 (dg-1)=J):=by
 refine dX rfl rfl (.inl rfl) ?_;have M:=e65 H h aa;obtain⟨-,F⟩:=pH H h;simp only[wk,aDi,aDl] at M;obtain⟨e,P⟩:∃e,e=(if gP=0 then(if gq aa 0 (dg-1) then 0 else 1) else gP):=⟨_,rfl⟩;rw[<-P] at M;simp[OJ,wk,bp M];split
 case isFalse D=>
  exact⟨[],e,⟨rfl,rfl⟩,λ_=>rfl,⟨by simp,by simp⟩,λh=>absurd h D⟩
 rename_i C;have X:gP=0/\gq aa 0 (dg-1)=true:=by
  subst C;by_cases X:gP=0;rw[if_pos X] at P;refine⟨X, ?_⟩;cases B:gq aa 0 (dg-1);simp[B] at P;rfl;rw[if_neg X] at P;exact absurd P.symm X
 have A:=F X.1;have y:=A.nr;refine bU (Y aP.rows) (λi N=>∃v,N=[.r v]) ⟨0,rfl,by omega,_,rfl⟩ ?_;rintro i _ W ⟨m,rfl⟩;simp[h.sg.len];split;rename_i W;simp[bH W h.sg.sm,W];refine bU (Y ak.rows) (λi N=>∃v,N=[.r (aq v)]/\Y v<=i*64/\∀x∈v,(0<=ax 0 x/\ax 0 x<Y ak.rows)/\0<=ax 1 x/\ax 1 x<Y ak.rows) ⟨0,rfl,by omega,[],rfl,by simp,by simp⟩ ?_;rintro i _ W ⟨v,rfl,z,V⟩;simp[h.rl.len];split;rename_i W;refine bU (Y ak.rows) (λj N=>∃v,N=[.r (aq v)]/\Y v<=i*64+j/\∀x∈v,(0<=ax 0 x/\ax 0 x<Y ak.rows)/\0<=ax 1 x/\ax 1 x<Y ak.rows) ⟨0,rfl,by omega,v,rfl,by omega,V⟩ ?_;rintro j _ G ⟨v,rfl,z,V⟩;simp[h.rl.len];split
 ·rename_i G;simp[bH G h.rl.sm]
  repeat' split
  all_goals first
   |exact⟨v,rfl,by omega,V⟩
   |(refine⟨by omega,_,rfl,by simp;omega,λx Q=> ?_⟩
     rcases aDo.1 Q with Q|Q;exact V x Q;simp at Q;subst Q;simp[ax,aO];omega)
 simp[bH W h.rl.sm];exact⟨v,rfl,by omega,V⟩;exact⟨v,0,⟨rfl,rfl⟩,by simp,⟨by omega,V⟩,λ_=>by simpa using X⟩

def aws(M:wX)(h:dD)(aS aa:Int)(r:RV)(V:Sl r)(H:0<(cj aS aa).length):∃o,TB.Ev 85 (wk++[.i aS,.i aa,.r r]) o/\∃e,o=.ret [.i e]/\(e=0->j7 aS aa=0/\∃v,wY (cj aS aa) r (cj aS aa).length v):=by
 refine dX rfl rfl (.inl rfl) ?_;have G:=EN M h aS aa;have F:=(pH M h).2;have y:=La (aS:=aS) (aa:=aa) F;have B:=We (aS:=aS) (aa:=aa) F;simp only[wk,aDi,aDl] at G;generalize cj aS aa=l at*;generalize j7 aS aa=e at*;simp[VZ,wk,bp G,V.len];split
 case isFalse W=>simp[W]
 rename_i W;intro A;rw[Hk];refine⟨.inl rfl,λ_=> ?_,λh=> ?_,λ_ h=> ?_⟩;simp;refine⟨by omega, ?_⟩
 first|rw[tE]|rw[tF]
 refine⟨_,an4 (by simp;omega) (by simpa using B), ?_⟩;simp;have x:(bD (be.lex [0] E).lt l).length=Y l:=nN;refine bU (Y l) (λi Q=>∃v,Q=[.r (aq v)]/\wY l r i v) ⟨0,rfl,by omega,[],rfl,rfl,by omega⟩ ?_;rintro i _ P ⟨v,rfl,N⟩;simp;split;rename_i P;refine⟨P, ?_⟩;refine bU (Y l) (λj Q=>Q=[.r (aq v)]) ⟨0,rfl,by omega,rfl⟩ ?_;rintro j _ X rfl;simp[V.len];intro X;have w:=N.1;simp[bH X (show Y l<=140737488355328 by omega)];refine⟨X,λW=>⟨by omega, ?_⟩⟩;obtain⟨D,C⟩:=an6 (bm l i) (ci r j 0) (ci r j 1) (ci r j 2) (cb r j 3);simp only[iX,bm,ci,cb,aDi,aDl] at D C;rw[bp D];simp[bH X (show Y l<=140737488355328 by omega),bH P (show Y l<=140737488355328 by omega),<-A,V.len];intro z;refine⟨X,by omega, ?_⟩;have:=N.add (k:=j) (by omega) (C z);exact⟨_,rfl,this⟩;have:i=Y l:=by omega
 subst this;exact⟨W,v,N⟩;simp at h;simp[h] at H;simp at h;simp[h] at H
def awt(N:wX)(h:dD)(aS aa:Int)(r:RV)(M:Sl r)(H:cj aS aa=[]):TB.Ev 85 (wk++[.i aS,.i aa,.r r]) (.ret [.i (if j7 aS aa≠0 then j7 aS aa else if Y r.rows=0 then 0 else 270)]):=by
 refine mz rfl rfl (.inl rfl) ?_;have W:=EN N h aS aa;rw[H] at W;simp only[wk,aDi,aDl] at W;generalize j7 aS aa=e at*;simp[VZ,wk,bp W,M.len];split
 case isFalse X=>simp[X]
 rename_i X;split
 case isFalse h=>
  simp;intro e;simp[e] at h
 rename_i h;have Q:r.rows=[]:=aDT.1 (by omega);have P:fU (be.lex [0] E) E []=U []:=rfl;simp only[Hk,tE,tF];refine⟨.inl rfl,λ_=> ?_,λ_=> ?_,λ_ _=>single (Jf _)⟩
 ·try simp
  try simp only[tE,tF]
  refine⟨_,by simpa using P, ?_⟩;refine bU 0 (λi V=>V=[.r (aq [])]) ⟨0,rfl,by omega,rfl⟩ ?_;rintro i _ G rfl;have:i=0:=by omega
  simp[Q,X,this]
 ·try simp
  try simp only[tE,tF]
  refine⟨_,by simpa using P, ?_⟩;refine bU 0 (λi V=>V=[.r (aq [])]) ⟨0,rfl,by omega,rfl⟩ ?_;rintro i _ G rfl;have:i=0:=by omega
  simp[Q,X,this]
def Hm(W:wX)(h:dD)(aS aa:Int)(r:RV)(V:Sl r):∃o,TB.Ev 85 (wk++[.i aS,.i aa,.r r]) o/\∃e,o=.ret [.i e]/\(e=0->j7 aS aa=0/\∃v,wY (cj aS aa) r (cj aS aa).length v):=by
 by_cases X:cj aS aa=[];refine⟨_,awt W h aS aa r V X,_,rfl,λQ=> ?_⟩;split at Q;rename_i P;exact absurd Q P;rename_i P;exact⟨by omega,[],by rw[X];exact⟨rfl,by simp⟩⟩;exact aws W h aS aa r V (List.length_pos_iff.2 X)
end
def aN{c:Prop}[Decidable c]{A B:Prop}(X:c->A)(W:¬c->B):if c then A else B:=by
 by_cases h:c;rw[if_pos h];exact X h;rw[if_neg h];exact W h
section
variable{R:bn->Prop}{G:aR}{t:T}{O:ac}{L:dK}
variable[Inhabited dl]
def V8(x:Int):Prop:=-841<=x/\x<=841
def awu(a b:Int):∃o,TB.Ev 139 [.i a,.i b] o/\∃X,o=.ret X/\V8 (xi X 0)/\V8 (xi X 1):=by
 refine dX rfl rfl (.inl rfl) ?_;simp[VK,V8,xi]
 repeat'(first|intro _|split)
 all_goals
  try
   have W:lenOf (kf[2]?.getD default).val=8:=rfl;rw[show ay .sub I a 1=a-1 by simp only[ay];exact cQ (by omega) (by omega),W];have V:a=1\/a=2\/a=3\/a=4\/a=5\/a=6\/a=7\/a=8:=by omega
   refine⟨by omega,by omega, ?_⟩;rcases V with rfl|rfl|rfl|rfl|rfl|rfl|rfl|rfl<;>decide
 all_goals simp
def tK(a b:Int):V8 (oi 139 [.i a,.i b] 0)/\V8 (oi 139 [.i a,.i b] 1):=by
 obtain⟨o,X,V,rfl,W⟩:=awu a b;simp only[oi,iW X];exact W
def aeH(s:RV)(x:rM s)(P N X M H W V Q G F D C B A z y:Int)(h:AN s P N X M H W V Q G F D C B A z y=0):(1<=X/\X<=4)/\(1<=W/\W<=8)/\(1<=V/\V<=8)/\1<=Q/\Q<=8:=by
 have w:∃o,TB.Ev 75 [.r s,.i P,.i N,.i X,.i M,.i H,.i W,.i V,.i Q,.i G,.i F,.i D,.i C,.i B,.i A,.i z,.i y] o/\∃e,o=.ret [.i e]/\(e=0->(1<=X/\X<=4)/\(1<=W/\W<=8)/\(1<=V/\V<=8)/\1<=Q/\Q<=8):=by
  refine dX rfl rfl (.inl rfl) ?_;simp[VY,an8 s x];intros;omega
 exact(wV w).2 h
def Hn{x m n:Int}(X:-m<=x/\x<=m)(W:-n<=Q/\Q<=n):-(m*n)<=x*Q/\x*Q<=m*n:=by
 have V:(x*Q).natAbs<=(m*n).natAbs:=by rw[aF4,aF4];exact aF2 (by omega) (by omega)
 have P:0<=m*n:=Int.mul_nonneg (by omega) (by omega);omega
def Lm(d l:Int):Prop:=(d=0/\l=0)\/(0<=d/\d<=8/\1<=l/\l<=3)
structure P74(x y f d0 l0 d1 l1 d2 l2 d3 l3 d4 l4:Int):Prop where
 x:-1073741824<=x/\x<=1073741824
 y:-1073741824<=y/\y<=1073741824
 f:0<=f/\f<=7
 m0:Lm d0 l0
 m1:Lm d1 l1
 m2:Lm d2 l2
 m3:Lm d3 l3
 m4:Lm d4 l4
set_option maxHeartbeats 4000000 in
def Wf (x y f X W V Q P N M H G F:Int):CE x y f X W V Q P N M H G F=0<->P74 x y f X W V Q P N M H G F:=by
 have D:∃o,TB.Ev 74 [.i x,.i y,.i f,.i X,.i W,.i V,.i Q,.i P,.i N,.i M,.i H,.i G,.i F] o/\∃e,o=.ret [.i e]/\(e=0<->P74 x y f X W V Q P N M H G F):=by
  refine dX rfl rfl (.inl rfl) ?_;have C:P74 x y f X W V Q P N M H G F<->(-1073741824<=x/\x<=1073741824)/\(-1073741824<=y/\y<=1073741824)/\(0<=f/\f<=7)/\Lm X W/\Lm V Q/\Lm P N/\Lm M H/\Lm G F:=⟨λh=>⟨h.x,h.y,h.f,h.m0,h.m1,h.m2,h.m3,h.m4⟩,λh=>⟨h.1,h.2.1,h.2.2.1,h.2.2.2.1,h.2.2.2.2.1,h.2.2.2.2.2.1,h.2.2.2.2.2.2.1,h.2.2.2.2.2.2.2⟩⟩;rw[C];simp[VX,Lm]
  grind
 exact(wV D).2
end
section
variable{R:bn->Prop}{G:aR}{t:T}{O:ac}{L:dK}
def rS(f:Nat->Int):Prop:=CE (f 0) (f 1) (f 2) (f 3) (f 4) (f 5) (f 6) (f 7) (f 8) (f 9) (f 10) (f 11) (f 12)=0
def Tc(k s j:Int):Prop:=(k=1/\j=s-1)\/(k=2/\(j=0\/j=1))\/(k=3/\j=s-1)\/(k=4/\j=s+1)\/(k=5/\j=4)\/(k=7/\(j=2\/j=3))\/(k=8/\(j=0\/j=1))\/(k=9/\j=s+1)
def Wg(k s:Int)(b:Bool)(X W V Q P N M H G F D C B A z y x w v u r q:Int):Prop:=(b=J\/k≠6->C=X)/\(b=J\/¬Tc k s 0->B=W/\A=V)/\(b=J\/¬Tc k s 1->z=Q/\y=P)/\(b=J\/¬Tc k s 2->x=N/\w=M)/\(b=J\/¬Tc k s 3->v=H/\u=G)/\(b=J\/¬Tc k s 4->r=F/\q=D)
def aob(k s:Int)(b:Bool)(A z y x w v u r q p n:Int)(o:bn):Prop:=∃C B X W V Q P N M H G F D e,o=.ret [.i C,.i B,.i X,.i W,.i V,.i Q,.i P,.i N,.i M,.i H,.i G,.i F,.i D,.i e]/\(e=0->CE C B X W V Q P N M H G F D=0/\Wg k s b A z y x w v u r q p n X W V Q P N M H G F D)
def aoc(k s:Int)(b:Bool)(C B A z y x w v u r q p o X W V Q P N M H G F D e:Int):aob k s b C B A z y x w v u r q (.ret [.i p,.i o,.i X,.i W,.i V,.i Q,.i P,.i N,.i M,.i H,.i G,.i F,.i D,.i e])<->(e=0->CE p o X W V Q P N M H G F D=0/\Wg k s b C B A z y x w v u r q X W V Q P N M H G F D):=⟨λ⟨_,_,_,_,_,_,_,_,_,_,_,_,_,_,h,k⟩=>by cases h;exact k,λk=>⟨_,_,_,_,_,_,_,_,_,_,_,_,_,_,rfl,k⟩⟩
set_option maxHeartbeats 8000000 in
def aod (B A W V Q P N M H G F D C:Int) (c:Nat->Int) (p q r:Int) (b:Bool):∃o,TB.Ev 227 ([.i B,.i A,.i W,.i V,.i Q,.i P,.i N,.i M,.i H,.i G,.i F,.i D,.i C]++iX c++[.i p,.i q,.i r,.b b]) o/\aob (c 4) (c 5) b W V Q P N M H G F D C o:=by
 refine dX rfl rfl (.inl rfl) ?_;by_cases X:c 4=1\/c 4=2\/c 4=3\/c 4=4\/c 4=5\/c 4=6\/c 4=7\/c 4=8\/c 4=9
 ·rcases X with h|h|h|h|h|h|h|h|h
  all_goals
   simp(config:={maxSteps:=10000000}) [V5,iX,h,aoc,Wg,Tc]
   try
    (repeat'(first|intro _|split)
     all_goals
      have z:ay .sub I (c 5) 1=c 5-1:=by simp only[ay];exact cQ (by omega) (by omega)
      have y:ay .add I (c 5) 1=c 5+1:=by simp only[ay];exact cQ (by omega) (by omega)
      simp only[z,y] at*
      repeat'(first|intro _|apply And.intro|split)
      all_goals first|assumption|rfl|omega|(exfalso;omega)|(simp_all;done)|(simp_all;omega))
 ·simp only[not_or] at X;obtain⟨x,w,v,u,s,k6,n,m,l⟩:=X;simp(config:={maxSteps:=10000000}) [V5,iX,x,w,v,u,s,k6,n,m,l,aoc]
  repeat'(first|intro _|split)
  all_goals first|assumption|omega
def Aft:Prop:=∀(W V Q P N M H G F D C B A:Int)(c:Nat->Int)(p q r:Int)(b:Bool),∃o,TB.Ev 227 ([.i W,.i V,.i Q,.i P,.i N,.i M,.i H,.i G,.i F,.i D,.i C,.i B,.i A]++iX c++[.i p,.i q,.i r,.b b]) o/\∃X,o=.ret X/\fq (kI 14) X=J
def aoe:Aft:=by
 intro X W V Q P N M H G F D C B c p q r b;obtain⟨o,h,_,_,_,_,_,_,_,_,_,_,_,_,_,_,rfl,_⟩:=aod X W V Q P N M H G F D C B c p q r b;exact⟨_,h,_,rfl,rfl⟩
def eN(x:Nat->Int)(v:am)(i:Nat):Nat->Int:=xi (out 227 ([.i (x 0),.i (x 1),.i (x 2),.i (x 3),.i (x 4),.i (x 5),.i (x 6),.i (x 7),.i (x 8),.i (x 9),.i (x 10),.i (x 11),.i (x 12)]++iX (bm v i)++[.i (bm v i 14),.i (bm v i 15),.i (bm v i 16),.b (fm (cellAt v i 17).val)]))
def bS(x:Nat->Int)(v:am):Nat->Nat->Int
 |0=>x
 |k+1=>eN (bS x v k) v k
def aof(x:Nat->Int)(v:am)(i:Nat):TB.Ev 227 ([.i (x 0),.i (x 1),.i (x 2),.i (x 3),.i (x 4),.i (x 5),.i (x 6),.i (x 7),.i (x 8),.i (x 9),.i (x 10),.i (x 11),.i (x 12)]++iX (bm v i)++[.i (bm v i 14),.i (bm v i 15),.i (bm v i 16),.b (fm (cellAt v i 17).val)]) (.ret [.i (eN x v i 0),.i (eN x v i 1),.i (eN x v i 2),.i (eN x v i 3),.i (eN x v i 4),.i (eN x v i 5),.i (eN x v i 6),.i (eN x v i 7),.i (eN x v i 8),.i (eN x v i 9),.i (eN x v i 10),.i (eN x v i 11),.i (eN x v i 12),.i (eN x v i 13)]):=by
 have h:=jP _ (aoe (x 0) (x 1) (x 2) (x 3) (x 4) (x 5) (x 6) (x 7) (x 8) (x 9) (x 10) (x 11) (x 12) (bm v i) (bm v i 14) (bm v i 15) (bm v i 16) (fm (cellAt v i 17).val));simp only[AM,CD,od] at h;exact h
def aeJ(x:Nat->Int)(v:am)(i:Nat)(X:eN x v i 13=0):rS (eN x v i)/\Wg (bm v i 4) (bm v i 5) (fm (cellAt v i 17).val) (x 2) (x 3) (x 4) (x 5) (x 6) (x 7) (x 8) (x 9) (x 10) (x 11) (x 12) (eN x v i 2) (eN x v i 3) (eN x v i 4) (eN x v i 5) (eN x v i 6) (eN x v i 7) (eN x v i 8) (eN x v i 9) (eN x v i 10) (eN x v i 11) (eN x v i 12):=by
 obtain⟨o,W,V,Q,P,N,M,H,G,F,D,C,B,A,z,e,rfl,y⟩:=aod (x 0) (x 1) (x 2) (x 3) (x 4) (x 5) (x 6) (x 7) (x 8) (x 9) (x 10) (x 11) (x 12) (bm v i) (bm v i 14) (bm v i 15) (bm v i 16) (fm (cellAt v i 17).val);have w:∀k,eN x v i k=xi [.i V,.i Q,.i P,.i N,.i M,.i H,.i G,.i F,.i D,.i C,.i B,.i A,.i z,.i e] k:=λk=>by simp only[eN,iW W]
 simp only[rS,w] at X⊢;exact y X

variable[Inhabited dl]
def yS(aS aa:Int)(r:RV)(v:am):Prop:=TB.Ev 155 [.r (aq (cj aS aa)),.r r] (.ret [.r (aq v),.b J])
def yS.Lb{aa:Int}{r:RV}{X:am}(h:yS Q aa r W)(V:yS Q aa r X):W=X:=by
 have:=Nj h V;injection this with this;injection this with this _;injection this with this;exact congrArg RV.rows this
def R89(aS aa:Int)(r:RV)(x:Nat->Int)(o:bn):Prop:=∃X W V Q P N M H G F D C B e,o=.ret [.i X,.i W,.i V,.i Q,.i P,.i N,.i M,.i H,.i G,.i F,.i D,.i C,.i B,.i e]/\(e=0->∃v,yS aS aa r v/\rS (bS x v (Y v))/\[X,W,V,Q,P,N,M,H,G,F,D,C,B]=[bS x v (Y v) 0,bS x v (Y v) 1,bS x v (Y v) 2,bS x v (Y v) 3,bS x v (Y v) 4,bS x v (Y v) 5,bS x v (Y v) 6,bS x v (Y v) 7,bS x v (Y v) 8,bS x v (Y v) 9,bS x v (Y v) 10,bS x v (Y v) 11,bS x v (Y v) 12])
def r89{aa:Int}{r:RV}{x:Nat->Int}(X W V P N M H G F D C B A e:Int):R89 Q aa r x (.ret [.i X,.i W,.i V,.i P,.i N,.i M,.i H,.i G,.i F,.i D,.i C,.i B,.i A,.i e])<->(e=0->∃v,yS Q aa r v/\rS (bS x v (Y v))/\[X,W,V,P,N,M,H,G,F,D,C,B,A]=[bS x v (Y v) 0,bS x v (Y v) 1,bS x v (Y v) 2,bS x v (Y v) 3,bS x v (Y v) 4,bS x v (Y v) 5,bS x v (Y v) 6,bS x v (Y v) 7,bS x v (Y v) 8,bS x v (Y v) 9,bS x v (Y v) 10,bS x v (Y v) 11,bS x v (Y v) 12]):=⟨λ⟨_,_,_,_,_,_,_,_,_,_,_,_,_,_,h,k⟩=>by cases h;exact k,λk=>⟨_,_,_,_,_,_,_,_,_,_,_,_,_,_,rfl,k⟩⟩
set_option maxHeartbeats 4000000 in
def aoh (h:dD) (aS aa:Int) (x:Nat->Int) (r:RV) (G:Sl r):∃o,TB.Ev 89 (wk++[.i aS,.i aa,.i (x 0),.i (x 1),.i (x 2),.i (x 3),.i (x 4),.i (x 5),.i (x 6),.i (x 7),.i (x 8),.i (x 9),.i (x 10),.i (x 11),.i (x 12),.r r]) o/\R89 aS aa r x o:=by
 refine dX rfl rfl (.inl rfl) ?_;have W:=EN iP h aS aa;have Q:=(pH iP h).2;have F:=La (aS:=aS) (aa:=aa) Q;have D:=We (aS:=aS) (aa:=aa) Q;obtain⟨o,X,v,b,rfl,q,C⟩:=an7 _ r G F D;have B:b=J->yS aS aa r v:=λe=>by rw[e] at X;exact X
 simp only[wk,aDi,aDl] at W;simp[V4,wk,bp W,bp X,r89];generalize cj aS aa=l at*;generalize j7 aS aa=e at*;refine aN (λ_=>aN (λA P=> ?_) (λW X=>absurd X W)) (λW X=>absurd X W);have z:Y v<=140737488355328:=by have:=(C P).1;omega
 refine bU (Y v) (λi y=>y=[.i (bS x v i 0),.i (bS x v i 1),.i (bS x v i 2),.i (bS x v i 3),.i (bS x v i 4),.i (bS x v i 5),.i (bS x v i 6),.i (bS x v i 7),.i (bS x v i 8),.i (bS x v i 9),.i (bS x v i 10),.i (bS x v i 11),.i (bS x v i 12),.i (bS x v i 0),.i (bS x v i 1),.i (bS x v i 2),.i (bS x v i 3),.i (bS x v i 4),.i (bS x v i 5),.i (bS x v i 6),.i (bS x v i 7),.i (bS x v i 8),.i (bS x v i 9),.i (bS x v i 10),.i (bS x v i 11),.i (bS x v i 12)]/\rS (bS x v i)) ⟨0,rfl,aD0 _,rfl,A⟩ ?_;rintro i _ V ⟨rfl,w⟩;have N:=aof (bS x v i) v i;simp only[iX,bm,aDi,aDl] at N;simp[r89];refine aN (λV=>⟨V, ?_⟩) (λu=> ?_);rw[bp N];simp[bH V z,r89];refine aN (λM=>aN (λ_=>⟨⟨rfl,rfl,rfl,rfl,rfl,rfl,rfl,rfl,rfl,rfl,rfl,rfl,rfl,rfl,rfl,rfl,rfl,rfl,rfl,rfl,rfl,rfl,rfl,rfl,rfl,rfl⟩,(aeJ (bS x v i) v i M).1⟩) (λs=>absurd M s)) (λa b=>absurd b a);have H:i=Y v:=aEz V (aEr u);exact⟨v,B P,by subst H;exact w,by subst H;exact⟨rfl,rfl,rfl,rfl,rfl,rfl,rfl,rfl,rfl,rfl,rfl,rfl,rfl⟩⟩
def Lc(h:dD)(aS aa:Int)(x:Nat->Int)(r:RV)(W:Sl r):∃o,TB.Ev 89 (wk++[.i aS,.i aa,.i (x 0),.i (x 1),.i (x 2),.i (x 3),.i (x 4),.i (x 5),.i (x 6),.i (x 7),.i (x 8),.i (x 9),.i (x 10),.i (x 11),.i (x 12),.r r]) o/\∃X,o=.ret X/\fq (kI 14) X=true:=by
 obtain⟨_,V,_,_,_,_,_,_,_,_,_,_,_,_,_,_,rfl,_⟩:=aoh h aS aa x r W;exact⟨_,V,_,rfl,rfl⟩

def aoi:∀{n:Nat}{ys:aW},fq (kI n) ys=J->∃f:Nat->Int,ys=(aDA n).map λk=>.i (f k)
 |0,[],_=>⟨λ_=>0,rfl⟩
 |0,_::_,h=>by simp at h
 |n+1,[],h=>by simp at h
 |n+1,y::ys,h=>by
  simp only[AM,fq,aDc] at h;obtain⟨f,X⟩:=aoi (n:=n) (ys:=ys) h.2;cases y<;>simp only[Rw,aDB,false_and] at h;rename_i x;refine⟨λk=>match k with
   |0=>x
   |k+1=>f k, ?_⟩
  rw[X,List.range_succ_eq_map];simp

def aeL{v:RV}{X:T}{e:TypeId}{W Q P:aE}(V:Sl v)(M:Y v.rows<=536870912)(N:X=.fA (.c J) (.cmp .leq (.len (.v 0)) (.c 0)) (.aV (.cmp .leq (.len (.v 0)) (.c 536870912)) (.new e (.iG (.lit []) (.ref (.v 0))) W Q (.ret (.ref (.v 1)) [] P))) (.ret (.ref (.k (.slice Z 0 0))) [] W)):T.wp TB.Ev (· =.ret [.r (aq v.rows)]) X (eL [] [.r v]) []:=by
 subst N;rw[Hk];refine⟨.inl rfl,λ_=> ?_,λh=> ?_,λ_ h=> ?_⟩;simp[ur,V.len];omega
 all_goals
  have h:v.rows=[]:=by
   simp[V.len] at h;exact h
 simp[ur,h];exact single (Jf _)
def e86(v:RV)(X:Sl v)(h:Y v.rows<=536870912):TB.Ev 86 [.r v] (.ret [.r (aq v.rows)]):=mz rfl rfl (.inl rfl) (aeL X h rfl)
def e87(v:RV)(X:Sl v)(h:Y v.rows<=536870912):TB.Ev 87 [.r v] (.ret [.r (aq v.rows)]):=mz rfl rfl (.inl rfl) (aeL X h rfl)
def e88(v:RV)(X:Sl v)(h:Y v.rows<=536870912):TB.Ev 88 [.r v] (.ret [.r (aq v.rows)]):=mz rfl rfl (.inl rfl) (aeL X h rfl)
def aww(v:RV)(W:Sl v)(a b c:Int)(d:Bool):∃o,TB.Ev 173 [.r v,.i a,.i b,.i c,.b d] o/\∃V,o=.ret V/\fq (kI 1) V=true:=by
 refine dX rfl rfl (.inl rfl) ?_;simp[VU];refine bU (Y v.rows) (λ_ Q=>Q=[]) ⟨0,rfl,by omega,rfl⟩ ?_;rintro i _ X rfl;simp[W.len];intro X;simp[bH X W.sm,X]
def awx(v:RV)(W:Sl v)(a b c:Int)(d:Bool):∃o,TB.Ev 102 [.r v,.i a,.i b,.i c,.b d] o/\∃X,o=.ret X/\fq [.bool] X=true:=by
 refine dX rfl rfl (.inl rfl) ?_;have h:=jP _ (aww v W a b c d);simp[VT,bp h,od]
def aeP(v:RV)(X:Sl v)(a b c:Int)(d:Bool):fD TB.Ev R 102 [.r v,.i a,.i b,.i c,.b d] G t O L=fP TB.Ev R (.ret [.b (ob 102 [.r v,.i a,.i b,.i c,.b d] 0)]) G t O L:=bp (jP [.bool] (awx v X a b c d))
def awy(Q:wX)(h:dD)(id:Int):∃o,TB.Ev 143 (wk++[.i id]) o/\∃W,o=.ret W/\fq (kI 15) W=true:=by
 refine dX rfl rfl (.inl rfl) ?_;obtain⟨V,H⟩:=pH Q h;simp only[wk] at V;simp[V6,wk,bp V];intro G;have F:=h.sg.sm;refine CA (λX=>∃i j:Nat,X=[.i i,.i j]/\i<=j/\j<=Y aP.rows) (λX=>(xi X 1-xi X 0).toNat) ⟨0,Y aP.rows,by simp[h.sg.len],by omega,by omega⟩ ?_;rintro _ ⟨i,j,rfl,P,D⟩;simp[xi,Cz,h.sg.len,aeD (show j<=140737488355328 by omega) P];split;rename_i C;refine⟨by omega, ?_⟩;have N:((i:Int)+j)/2=(((i+j)/2:Nat):Int):=by omega
 have M:=EM (i:=(i+j)/2) (by omega);rw[N,M];split;exact⟨⟨(i+j)/2+1,j,⟨rfl,rfl⟩,by omega,by omega⟩,by omega⟩;exact⟨⟨i,(i+j)/2,⟨rfl,rfl⟩,by omega,by omega⟩,by omega⟩;intro B;omega
def awz(N:qC)(h:dD)(aa:Int)(V M H X G:RV)(c:Nat->Int)(F:Sl V)(D:Sl X)(z:Y V.rows=Y ak.rows)(y:Y X.rows=Y ak.rows)(bI:∀i<Y X.rows,Sl (cr 96 X i)):∃o,TB.Ev 103 (wk++[.i aa,.r V,.r M,.r H,.r X,.r G]++iX c) o/\∃P,o=.ret P/\fq [.bool] P=true:=by
 refine dX rfl rfl (.inl rfl) ?_;simp[VV,wk,iX];refine bU (Y aP.rows) (λ_ C=>C=[]) ⟨0,rfl,by omega,rfl⟩ ?_;rintro i _ W rfl;simp[h.sg.len,F.len,D.len];intro W;simp[bH W h.sg.sm,W];intros;have B:=(N.AL i W).aS;simp only[ci] at B;refine⟨by omega,λ_=>⟨by omega, ?_⟩⟩;have A:(aO (cellAt aP.rows (i:Int) 1).val).toNat<Y X.rows:=by omega
 have Q:=bI _ A;simp only[cr] at Q;rw[show(((aO (cellAt aP.rows (i:Int) 1).val).toNat:Nat):Int)=aO (cellAt aP.rows (i:Int) 1).val by omega] at Q;rw[aeP _ Q];simp[bH W h.sg.sm]

def gl0:RV:=kf[0]?.getD default
def oP:RV:=kf[1]?.getD default
def gl2:RV:=kf[2]?.getD default
def awC:kf=[gl0,oP,gl2]:=rfl
def aoj:lenOf oP.val=10:=rfl
def iD(k:Int)(j:Nat):RV:=cT (.sl 3) (cellAt oP.rows k j)
def awD{s:Int}(P:1<=Q/\Q<=9)(W:if Q=1\/Q=3\/Q=4\/Q=9 then 1<=s/\s<=2 else s=0):
  (lenOf (iD Q 0).val=(iD Q 0).rows.length/\(iD Q 0).rows.length<=2/\∀i:Nat,i<(iD Q 0).rows.length->0<=aO (cellAt (iD Q 0).rows i 0).val/\aO (cellAt (iD Q 0).rows i 0).val<=2/\1<=s/\s<=2)/\
  (lenOf (iD Q 1).val=(iD Q 1).rows.length/\(iD Q 1).rows.length<=2/\∀i:Nat,i<(iD Q 1).rows.length->0<=aO (cellAt (iD Q 1).rows i 0).val/\aO (cellAt (iD Q 1).rows i 0).val<=4):=by
 have:Q=1\/Q=2\/Q=3\/Q=4\/Q=5\/Q=6\/Q=7\/Q=8\/Q=9:=by omega
 rcases this with rfl|rfl|rfl|rfl|rfl|rfl|rfl|rfl|rfl
 all_goals
  simp at W;refine⟨⟨rfl,by decide,λi X=> ?_⟩,rfl,by decide,λi X=> ?_⟩
  all_goals
   simp[iD,oP,kf,mf,sV,iV,cellAt,cT,-vi] at X
   try
    have V:i=0\/i=1:=by omega
    rcases V with rfl|rfl
    all_goals simp[iD,oP,kf,mf,sV,iV,cellAt,cT,aO,-vi] at X⊢
    all_goals(try omega)
def awE{aS aa:Int}{v:am}{r:RV}(Q:gP=0->qC)(h:wY (cj aS aa) r (cj aS aa).length v){i:Nat}(W:i<Y v):∃c,wW (Y ak.rows) dg c/\∀j<14,aO (cellAt v (i:Int) j).val=c j:=by
 rw[h.1] at W;obtain⟨k,F,P,D⟩:=h.2 i W;obtain⟨x,V⟩:∃x,(cj aS aa)[i]?=U x:=⟨_,aDe W⟩;obtain⟨m,C,N,B,A,M⟩:=aeE Q (aDx V);refine⟨ci aP m,M,λj X=> ?_⟩;have H:∀j<14,bm (cj aS aa) i j=ci aP m j:=λj X=>by
  have:=Hl (ci aP m) j X;simp only[bm,cellAt,aEa,aDf,V,N];simpa[ax] using this
 have G:∀j<14,aO ((aeF (bm (cj aS aa) i) r k).getD j default).val=bm (cj aS aa) i j:=λj X=>by
  match j,X with
  |0,_|1,_|2,_|3,_|4,_|5,_|6,_|7,_|8,_|9,_|10,_|11,_|12,_|13,_=>rfl
 rw[<-H j X,<-G j X];simp only[cellAt,aEa,aDf,P];rfl

def AO(a b c d:Int):Prop:=bF a b c d=J/\a<b/\c<d
def R90(o:bn):Prop:=∃a b c d e,o=.ret [.i a,.i b,.i c,.i d,.i e]/\(e=0->AO a b c d)
def Fg(a b c d:Int):Prop:=(-10000<=a/\a<0)/\(0<b/\b<=10000)/\(-10000<=c/\c<0)/\0<d/\d<=10000
def S6(p X:Int):Prop:=-10000<=p/\p<=X/\X<=10000
def Fg.jn1{X W V p P q N:Int}(h:Fg Q X W V)(a:S6 p P)(b:S6 q N):Fg (jn (bF Q X W V&&bF p P q N) (min Q p)) (jn (bF Q X W V&&bF p P q N) (max X P)) (jn (bF Q X W V&&bF p P q N) (min W q)) (jn (bF Q X W V&&bF p P q N) (max V N)):=by
 simp only[Fg,S6] at*;have e:(bF Q X W V&&bF p P q N)=true:=by simp[bF];omega
 rw[e];simp only[Y.jn,if_true];omega
def Fg.sh{X W V x y:Int}(h:Fg Q X W V)(e:lO Q X W V x y=0):AO (jn (lO Q X W V x y==0) (IntKind.i64.wrap (Q+x))) (jn (lO Q X W V x y==0) (IntKind.i64.wrap (X+x))) (jn (lO Q X W V x y==0) (IntKind.i64.wrap (W+y))) (jn (lO Q X W V x y==0) (IntKind.i64.wrap (V+y))):=by
 have P:=e;unfold lO at P;split at P;omega;split at P;omega;split at P;rename_i H N M;simp at N;simp only[Fg] at h;rw[e];simp only[Y.jn,beq_self_eq_true,if_true];refine⟨M, ?_, ?_⟩;rw[cQ (by omega) (by omega),cQ (by omega) (by omega)];omega;rw[cQ (by omega) (by omega),cQ (by omega) (by omega)];omega;omega
def AO.join{b c d X W V P:Int}(h:AO Q b c d)(H:AO X W V P):AO (jn (bF Q b c d&&bF X W V P) (min Q X)) (jn (bF Q b c d&&bF X W V P) (max b W)) (jn (bF Q b c d&&bF X W V P) (min c V)) (jn (bF Q b c d&&bF X W V P) (max d P)):=by
 obtain⟨N,G,F⟩:=h;obtain⟨M,D,C⟩:=H;rw[N,M];simp only[Y.jn,aEB,if_true];refine⟨?_,by omega,by omega⟩;simp[bF] at N M⊢;omega
def aeQ{r:Int}(X:1<=r/\r<=8):S6 (ay .sub I 0 (ay .mul I 841 r)) (ay .mul I 841 r):=by
 simp only[ay,S6];rw[cQ (n:=841*r) (by omega) (by omega),cQ (by omega) (by omega)];omega
def aok{v:Int}(W:1<=Q/\Q<=8)(X:V8 v):S6 (ay .mul I Q v) (ay .mul I Q v):=by
 have:=Hn (x:=Q) (m:=8) (by omega) X;simp only[ay,S6];rw[cQ (by omega) (by omega)];omega
def vX(d f l:Int):Int:=oi 139 [.i (oi 138 [.i d,.i f] 0),.i l] 0
def vY(d f l:Int):Int:=oi 139 [.i (oi 138 [.i d,.i f] 0),.i l] 1
def aeR(d f l:Int):V8 (vX d f l):=(tK _ _).1
def aeS(d f l:Int):V8 (vY d f l):=(tK _ _).2
def yT(X W V Q r d f l:Int):Prop:=(X<=r*vX d f l/\r*vX d f l<=W)/\V<=r*vY d f l/\r*vY d f l<=Q
def rch(X W V:Int)(j:Nat):Int:=if j/2=0 then X else if j/2=1 then W else if j/2=2 then V else 0
def aol(m X:Bool)(d l f W V Q:Int):Prop:=(m=E->W=d/\V=l)/\(X=E->Q=f)
structure vj(f0 f1 f2 f3 g:Int)(rc:Nat->Int)(F:Nat->Bool)(x:Nat->Int)(n:Nat):Prop where
 fg:Fg f0 f1 f2 f3
 g1:f0≤-(841*g)/\841*g<=f1
 g2:f2≤-(841*g)/\841*g<=f3
 lb:∀j<n,∀d' l' f',aol (F (1+j)) (F 0) (x (3+2*j)) (x (4+2*j)) (x 2) d' l' f'->l'≠0->yT f0 f1 f2 f3 (rc j) d' f' l'
def Ho(a b c d g:Int)(X:Nat->Int)(s:Nat->Int):Prop:=(a<=29*s 0-841*g/\29*s 0+841*g<=b)/\(c<=29*s 1-841*g/\29*s 1+841*g<=d)/\∀j<5,s (4+2*j)≠0->(a<=29*s 0+X j*vX (s (3+2*j)) (s 2) (s (4+2*j))/\29*s 0+X j*vX (s (3+2*j)) (s 2) (s (4+2*j))<=b)/\c<=29*s 1+X j*vY (s (3+2*j)) (s 2) (s (4+2*j))/\29*s 1+X j*vY (s (3+2*j)) (s 2) (s (4+2*j))<=d
def aom(aS aa:Int)(r:RV)(x:Nat->Int)(g:Int)(X:Nat->Int)(o:bn):Prop:=∃a b c d e,o=.ret [.i a,.i b,.i c,.i d,.i e]/\(e=0->AO a b c d/\∃v,yS aS aa r v/\Ho a b c d g X (bS x v (Y v)))
def Wh{aa:Int}{r:RV}{x:Nat->Int}{g:Int}{X:Nat->Int}(a b c d e:Int):aom Q aa r x g X (.ret [.i a,.i b,.i c,.i d,.i e])<->(e=0->AO a b c d/\∃v,yS Q aa r v/\Ho a b c d g X (bS x v (Y v))):=⟨λ⟨_,_,_,_,_,h,k⟩=>by cases h;exact k,λk=>⟨_,_,_,_,_,rfl,k⟩⟩
def Mk(v:am)(n:Nat)(F:Nat->Bool):Prop:=∀i<n,fm (cellAt v i 17).val=E->(bm v i 4=6->F 0=J)/\∀j:Nat,j<5->Tc (bm v i 4) (bm v i 5) j->F (1+j)=J
def awH{s:Int}(X:1<=Q/\Q<=9){j:Nat}(h:Tc Q s j):(∃a<(iD Q 0).rows.length,(j:Int)=aO (cellAt (iD Q 0).rows (a:Int) 0).val+s-1)\/∃a<(iD Q 1).rows.length,(j:Int)=aO (cellAt (iD Q 1).rows (a:Int) 0).val:=by
 have:Q=1\/Q=2\/Q=3\/Q=4\/Q=5\/Q=6\/Q=7\/Q=8\/Q=9:=by omega
 rcases this with rfl|rfl|rfl|rfl|rfl|rfl|rfl|rfl|rfl
 all_goals simp[Tc] at h
 exact .inl ⟨0,by decide,by simp[iD,oP,kf,mf,sV,iV,cellAt,cT,aO,-vi];omega⟩;rcases h with h|h;exact .inr ⟨0,by decide,by simp[iD,oP,kf,mf,sV,iV,cellAt,cT,aO,-vi];omega⟩;exact .inr ⟨1,by decide,by simp[iD,oP,kf,mf,sV,iV,cellAt,cT,aO,-vi];omega⟩;exact .inl ⟨0,by decide,by simp[iD,oP,kf,mf,sV,iV,cellAt,cT,aO,-vi];omega⟩;exact .inl ⟨0,by decide,by simp[iD,oP,kf,mf,sV,iV,cellAt,cT,aO,-vi];omega⟩;exact .inr ⟨0,by decide,by simp[iD,oP,kf,mf,sV,iV,cellAt,cT,aO,-vi];omega⟩;rcases h with h|h;exact .inr ⟨0,by decide,by simp[iD,oP,kf,mf,sV,iV,cellAt,cT,aO,-vi];omega⟩;exact .inr ⟨1,by decide,by simp[iD,oP,kf,mf,sV,iV,cellAt,cT,aO,-vi];omega⟩;rcases h with h|h;exact .inr ⟨0,by decide,by simp[iD,oP,kf,mf,sV,iV,cellAt,cT,aO,-vi];omega⟩;exact .inr ⟨1,by decide,by simp[iD,oP,kf,mf,sV,iV,cellAt,cT,aO,-vi];omega⟩;exact .inl ⟨0,by decide,by simp[iD,oP,kf,mf,sV,iV,cellAt,cT,aO,-vi];omega⟩
def yT.mono{X W V P N M H r d f l:Int}(h:yT Q X W V r d f l)(G:P<=Q)(F:X<=N)(D:M<=W)(C:V<=H):yT P N M H r d f l:=by
 simp only[yT] at*;omega
def awI{d f l:Int}(X:1<=Q/\Q<=8):yT (ay .sub I 0 (ay .mul I 841 Q)) (ay .mul I 841 Q) (ay .sub I 0 (ay .mul I 841 Q)) (ay .mul I 841 Q) Q d f l:=by
 have a:=Hn (x:=Q) (m:=Q) (by omega) (aeR d f l);have b:=Hn (x:=Q) (m:=Q) (by omega) (aeS d f l);simp only[ay,yT];rw[cQ (n:=841*Q) (by omega) (by omega),cQ (by omega) (by omega)];omega
def awJ{d f l:Int}(X:1<=Q/\Q<=8):yT (ay .mul I Q (vX d f l)) (ay .mul I Q (vX d f l)) (ay .mul I Q (vY d f l)) (ay .mul I Q (vY d f l)) Q d f l:=by
 have a:=Hn (x:=Q) (m:=8) (by omega) (aeR d f l);have b:=Hn (x:=Q) (m:=8) (by omega) (aeS d f l);simp only[ay,yT];rw[cQ (n:=Q*vX d f l) (by omega) (by omega),cQ (n:=Q*vY d f l) (by omega) (by omega)];omega
def vj.join{N M H g p W q P:Int}{B:Nat->Int}{x:Nat->Int}(h:vj Q N M H g B V x X)(a:S6 p W)(b:S6 q P)(y:∀D G C,aol (V (1+X)) (V 0) (x (3+2*X)) (x (4+2*X)) (x 2) D G C->G≠0->yT p W q P (B X) D C G):
  vj (jn (bF Q N M H&&bF p W q P) (min Q p)) (jn (bF Q N M H&&bF p W q P) (max N W)) (jn (bF Q N M H&&bF p W q P) (min M q)) (jn (bF Q N M H&&bF p W q P) (max H P)) g B V x (X+1):=by
 have A:=h.fg.jn1 a b;have u:=h.g1;have s:=h.g2;have w:=h.fg;have e:(bF Q N M H&&bF p W q P)=true:=by simp only[Fg,S6] at w a b;simp[bF];omega
 rw[e] at A⊢;simp only[Y.jn,if_true] at A⊢;refine⟨A,by omega,by omega,λj r D G C k z=> ?_⟩;by_cases v:j=X;subst v;exact(y D G C k z).mono (by omega) (by omega) (by omega) (by omega);exact(h.lb j (by omega) D G C k z).mono (by omega) (by omega) (by omega) (by omega)
def vj.skip{W P N g:Int}{M:Nat->Int}{x:Nat->Int}(h:vj Q W P N g M V x X)(G:V (1+X)=E)(D:x (4+2*X)=0):vj Q W P N g M V x (X+1):=by
 refine⟨h.fg,h.g1,h.g2,λj y C B A k H=> ?_⟩;by_cases z:j=X;subst z;exact(H ((k.1 G).2.trans D)).elim;exact h.lb j (by omega) C B A k H
def vj.any{W P N g r d l:Int}{H:Nat->Int}{x:Nat->Int}(h:vj Q W P N g H V x X)(M:1<=r/\r<=8)(e:H X=r)(G:x (3+2*X)=d)(D:x (4+2*X)=l){b q:Bool}(C:V (1+X)=b)(B:V 0=q){s t u v w:Int}(A:ay .sub I 0 (ay .mul I 841 r)=s)(y:ay .mul I 841 r=t)(p:x 2=u)(o:ay .mul I r (oi 139 [.i (oi 138 [.i d,.i u] 0),.i l] 0)=v)(j:ay .mul I r (oi 139 [.i (oi 138 [.i d,.i u] 0),.i l] 1)=w){m:Nat}(f:X+1=m):
  (¬b=J->l=0->vj Q W P N g H V x m)/\vj (jn (bF Q W P N&&bF s t s t) (min Q s)) (jn (bF Q W P N&&bF s t s t) (max W t)) (jn (bF Q W P N&&bF s t s t) (min P s)) (jn (bF Q W P N&&bF s t s t) (max N t)) g H V x m/\
  (¬b=J->¬q=J->vj (jn (bF Q W P N&&bF v v w w) (min Q v)) (jn (bF Q W P N&&bF v v w w) (max W v)) (jn (bF Q W P N&&bF v v w w) (min P w)) (jn (bF Q W P N&&bF v v w w) (max N w)) g H V x m):=by
 subst G D C B A y p o j f;refine⟨λm z=>h.skip (aEE.2 m) z,h.join (aeQ M) (aeQ M) (λ_ _ _ _ _=>by rw[e];exact awI M),λm t=>h.join (aok M (aeR _ _ _)) (aok M (aeS _ _ _)) λc a f' k _=> ?_⟩;rw[e,(k.1 (aEE.2 m)).1,(k.1 (aEE.2 m)).2,k.2 (aEE.2 t)];exact awJ M
def Fg.shv{X W V x y:Int}(h:Fg Q X W V)(e:lO Q X W V x y=0):jn (lO Q X W V x y==0) (IntKind.i64.wrap (Q+x))=Q+x/\jn (lO Q X W V x y==0) (IntKind.i64.wrap (X+x))=X+x/\jn (lO Q X W V x y==0) (IntKind.i64.wrap (W+y))=W+y/\jn (lO Q X W V x y==0) (IntKind.i64.wrap (V+y))=V+y:=by
 have P:=e;unfold lO at P;split at P;omega;split at P;omega;rename_i M N;simp at N;simp only[Fg] at h;rw[e];simp only[Y.jn,beq_self_eq_true,if_true];refine⟨cQ (by omega) (by omega),cQ (by omega) (by omega),cQ (by omega) (by omega),cQ (by omega) (by omega)⟩
def OnB(X W V Q a b c d:Int)(s:Nat->Int):Prop:=(a<=X+29*s 0/\W+29*s 0<=b)/\c<=V+29*s 1/\Q+29*s 1<=d
def Wi(F:Nat->Bool)(x s:Nat->Int):Prop:=(F 0=E->s 2=x 2)/\∀j<5,F (1+j)=E->s (3+2*j)=x (3+2*j)/\s (4+2*j)=x (4+2*j)
def awK{X W P a b c d g:Int}{N:Nat->Int}{x s:Nat->Int}(h:vj Q X W P g N V x 5)(o:OnB Q X W P a b c d s)(k:Wi V x s):Ho a b c d g N s:=by
 have G:=h.g1;have D:=h.g2;obtain⟨C,B⟩:=o;refine⟨by omega,by omega,λj M H=> ?_⟩;have:=h.lb j M _ _ _ ⟨k.2 j M,k.1⟩ H;simp only[yT] at this;omega
def awL{x s:Nat->Int}(D:Mk W (Y W) V)(A:X<Y W)(k:Wi V x s)(z:eN s W X 13=0):Wi V x (eN s W X):=by
 obtain⟨-,e⟩:=aeJ s W X z;obtain⟨C,P,N,M,H,G⟩:=e;have D:=D X A;cases B:fm (cellAt W (X:Int) 17).val with
 |true=>
  rw[B] at C P N M H G;refine⟨λf=>(C (.inl rfl)).trans (k.1 f),λj Q f=> ?_⟩;obtain⟨p,q⟩:=k.2 j Q f
  match j,Q with
  |0,_=>exact⟨(P (.inl rfl)).1.trans p,(P (.inl rfl)).2.trans q⟩
  |1,_=>exact⟨(N (.inl rfl)).1.trans p,(N (.inl rfl)).2.trans q⟩
  |2,_=>exact⟨(M (.inl rfl)).1.trans p,(M (.inl rfl)).2.trans q⟩
  |3,_=>exact⟨(H (.inl rfl)).1.trans p,(H (.inl rfl)).2.trans q⟩
  |4,_=>exact⟨(G (.inl rfl)).1.trans p,(G (.inl rfl)).2.trans q⟩
 |false=>
  obtain⟨y,w⟩:=D B;have u:∀j(Q:j<5),V (1+j)=E->¬Tc (bm W X 4) (bm W X 5) j:=λj Q f t=>by
   rw[w j Q t] at f;cases f
  refine⟨λf=>(C (.inr λq=>by rw[y q] at f;cases f)).trans (k.1 f),λj Q f=> ?_⟩;obtain⟨p,q⟩:=k.2 j Q f;have n:=u j Q f
  match j,Q with
  |0,_=>exact⟨(P (.inr n)).1.trans p,(P (.inr n)).2.trans q⟩
  |1,_=>exact⟨(N (.inr n)).1.trans p,(N (.inr n)).2.trans q⟩
  |2,_=>exact⟨(M (.inr n)).1.trans p,(M (.inr n)).2.trans q⟩
  |3,_=>exact⟨(H (.inr n)).1.trans p,(H (.inr n)).2.trans q⟩
  |4,_=>exact⟨(G (.inr n)).1.trans p,(G (.inr n)).2.trans q⟩
set_option maxHeartbeats 1000000 in
def aeU (h:dD) (aS aa:Int) (x:Nat->Int) (nm:RV) (bd:rM nm) (y:Nat->Int) (r:RV) (hr:Sl r):∃o,TB.Ev 90 (wk++[.i aS,.i aa,.i (x 0),.i (x 1),.i (x 2),.i (x 3),.i (x 4),.i (x 5),.i (x 6),.i (x 7),.i (x 8),.i (x 9),.i (x 10),.i (x 11),.i (x 12),.r nm,.i (y 1),.i (y 2),.i (y 3),.i (y 4),.i (y 5),.i (y 6),.i (y 7),.i (y 8),.i (y 9),.i (y 10),.i (y 11),.i (y 12),.i (y 13),.i (y 14),.i (y 15),.i (y 16),.r r]) o/\aom aS aa r x (y 3) (rch (y 6) (y 7) (y 8)) o:=by
 refine dX rfl rfl (.inl rfl) ?_;have h1:=EN iP h aS aa;have hw:=(pH iP h).2;have hl:=La (aS:=aS) (aa:=aa) hw;have s:=We (aS:=aS) (aa:=aa) hw;have iq:= @awE _ aS aa;obtain⟨o,h2,v,b,rfl,h3,h4⟩:=an7 _ r hr hl s;have hS:b=J->yS aS aa r v:=λe=>by rw[e] at h2;exact h2
 simp only[wk,aDi,aDl] at h1;generalize cj aS aa=l at*;generalize j7 aS aa=e at*;simp[T90,wk,awC,bp h1,bp h2,CF nm bd,Wh];refine aN (λ_=>aN (λbf=>aN (λb6 hb=> ?_) (λa b=>absurd b a)) (λa b=>absurd b a)) (λa b=>absurd b a);have bg:=h4 hb;have hv:Y v<=4096:=by have:=bg.1;omega
 have al:Y v<=140737488355328:=by omega
 refine bU (Y v) (λi Q=>∃F:Nat->Bool,Q=[.b (F 0),.b (F 1),.b (F 2),.b (F 3),.b (F 4),.b (F 5)]/\Mk v i F) ⟨0,rfl,by omega,λ_=>E,rfl,λk s=>by omega⟩ ?_;rintro i Q P ⟨F,rfl,hM⟩;simp;refine aN (λP=> ?_) (λan=> ?_)
 ·obtain⟨c,af,bk⟩:=iq hw bg P;have ag:=bk 4 (by omega);have bl:=bk 5 (by omega);obtain⟨ap,a0⟩:=awD af.kind af.side;have hT:∀{j:Nat},Tc (c 4) (c 5) j->_:=λq=>awH af.kind q
  have cs:=af.kind;have bo:cT (.sl 3) (cellAt oP.rows (c 4) 0)=iD (c 4) 0:=rfl;have br:cT (.sl 3) (cellAt oP.rows (c 4) 1)=iD (c 4) 1:=rfl;generalize iD (c 4) 0=D at ap bo hT;generalize iD (c 4) 1=C at a0 br hT;have bs:∀W:Nat->Bool,(∀j<6,F j=J->W j=J)->(fm (cellAt v (i:Int) 17).val=E->(c 4=6->W 0=J)/\∀j:Nat,j<5->Tc (c 4) (c 5) j->W (1+j)=J)->Mk v (i+1) W:=λW p hn k s f=>by
   by_cases e:k=i;subst e;simp only[bm,ag,bl];exact hn f;obtain⟨m1,m2⟩:=hM k (by omega) f;exact⟨λe=>p 0 (by omega) (m1 e),λj X e=>p (1+j) (by omega) (m2 j X e)⟩
  have bt:∀(G:Nat->Bool)(tu:Bool),(F 0=J->tu=J)->(c 4=6->tu=J)->(∀j:Nat,j<5->F (1+j)=J->G j=J)->(∀a<Y D.rows,∀j:Nat,j<5->(j:Int)=aO (cellAt D.rows (a:Int) 0).val+c 5-1->G j=J)->(∀a<Y C.rows,∀j:Nat,j<5->(j:Int)=aO (cellAt C.rows (a:Int) 0).val->G j=J)->∃W:Nat->Bool,(tu=W 0/\G 0=W 1/\G 1=W 2/\G 2=W 3/\G 3=W 4/\G 4=W 5)/\Mk v (i+1) W:=by
   intro G tu t1 t2 k1 k2 k3;refine⟨λj=>match j with|0=>tu|j+1=>G j,⟨rfl,rfl,rfl,rfl,rfl,rfl⟩,bs _ (λj X hf=> ?_) λ_=>⟨t2,λj X ht=> ?_⟩⟩
   match j,X,hf with
   |0,_,hf=>exact t1 hf
   |j+1,X,hf=>exact k1 j (by omega) (by rw[Nat.add_comm];exact hf)
   rw[Nat.add_comm];show G j=J;rcases hT ht with⟨a,V,q⟩|⟨a,V,q⟩;exact k2 a V j X q;exact k3 a V j X q
  simp[bH P al,P,ag,aoj];refine aN (λf=>⟨F,⟨rfl,rfl,rfl,rfl,rfl,rfl⟩,bs F (λ_ _ h=>h) λq=>by rw[f] at q;cases q⟩) (λf=>aN (λbx=> ?_) (λbx=> ?_))
  all_goals
   refine⟨by omega, ?_⟩;refine bU (Y D.rows) (λa Q=>∃G:Nat->Bool,Q=[.b (G 0),.b (G 1),.b (G 2),.b (G 3),.b (G 4)]/\(∀j:Nat,j<5->F (1+j)=J->G j=J)/\∀H<a,∀j:Nat,j<5->(j:Int)=aO (cellAt D.rows (H:Int) 0).val+c 5-1->G j=J) ⟨0,rfl,by omega,λj=>F (1+j),rfl,λ_ _ h=>h,by omega⟩ ?_;rintro a Q V ⟨G,rfl,a1,a2⟩;simp[ag,bl,bo,ap.1,aoj];refine aN (λV=> ?_) (λa3=> ?_);have hx:=ap.2.2 a V;obtain⟨z,hz⟩:∃z,aO (cellAt D.rows (a:Int) 0).val=z:=⟨_,rfl⟩;rw[hz] at hx⊢;rw[show ay .sub I (ay .add I z (c 5)) 1=z+c 5-1 by simp only[ay];rw[cQ (n:=z+c 5) (by omega) (by omega),cQ (by omega) (by omega)]];simp[bH V (show Y D.rows<=140737488355328 by omega),V];refine⟨by omega,by omega,λj=>decide (z+c 5-1=(j:Int))||G j,⟨rfl,rfl,rfl,rfl,rfl⟩,λj X q=>by simp[a1 j X q],λH a3 j X q=> ?_⟩;by_cases e:H=a;subst e;rw[hz] at q;simp[q];simp[a2 H (by omega) j X q];refine⟨by omega, ?_⟩;have a4:a=Y D.rows:=by omega
   subst a4;refine bU (Y C.rows) (λa Q=>∃N:Nat->Bool,Q=[.b (N 0),.b (N 1),.b (N 2),.b (N 3),.b (N 4)]/\(∀j:Nat,j<5->G j=J->N j=J)/\∀H<a,∀j:Nat,j<5->(j:Int)=aO (cellAt C.rows (H:Int) 0).val->N j=J) ⟨0,rfl,by omega,G,rfl,λ_ _ h=>h,by omega⟩ ?_;rintro a Q V ⟨N,rfl,ab,a5⟩;simp[ag,br,a0.1];refine aN (λV=> ?_) (λa3=> ?_);have hx:=a0.2.2 a V;obtain⟨z,hz⟩:∃z,aO (cellAt C.rows (a:Int) 0).val=z:=⟨_,rfl⟩;rw[hz] at hx⊢;simp[bH V (show Y C.rows<=140737488355328 by omega),V];refine⟨by omega,by omega,λj=>decide (z=(j:Int))||N j,⟨rfl,rfl,rfl,rfl,rfl⟩,λj X q=>by simp[ab j X q],λH a3 j X q=> ?_⟩;by_cases e:H=a;subst e;rw[hz] at q;simp[q];simp[a5 H (by omega) j X q];have a4:a=Y C.rows:=by omega
   subst a4;simp[bH P al]
   first
    |(obtain⟨W,⟨e0,g⟩,p⟩:=bt N J (λ_=>rfl) (λ_=>rfl) (λj X q=>ab j X (a1 j X q)) (λa V j X q=>ab j X (a2 a V j X q)) a5
      exact⟨W,⟨e0.symm,g⟩,p⟩)
    |(obtain⟨W,⟨e0,g⟩,p⟩:=bt N (c 4==6) (λq=>absurd q bx) (λq=>by simp[q]) (λj X q=>ab j X (a1 j X q)) (λa V j X q=>ab j X (a2 a V j X q)) a5
      exact⟨W,⟨e0,g⟩,p⟩)
 have a6:i=Y v:=aEz P (aEr an);subst a6;have b0:=(Wf _ _ _ _ _ _ _ _ _ _ _ _ _).1 bf;obtain⟨g1,g2,g3,g4⟩:=aeH nm bd _ _ _ _ _ _ _ _ _ _ _ _ _ _ _ _ b6;refine bU 5 (λk Q=>∃B A w u,Q=[.i B,.i A,.i w,.i u]/\vj B A w u (y 3) (rch (y 6) (y 7) (y 8)) F x k) ⟨0,by simp,by omega, ?_⟩ ?_;have hs:=aeQ (r:=(y 3)) (by omega);have g:ay .mul I 841 (y 3)=841*(y 3):=by simp only[ay];exact cQ (by omega) (by omega)
 have e2:ay .sub I 0 (841*(y 3))=-(841*(y 3)):=by simp only[ay];rw[cQ (by omega) (by omega)];omega
 refine⟨_,_,_,_,rfl, ?_⟩;simp[g,e2];rw[g,e2] at hs;simp only[S6] at hs;refine⟨?_,by omega,by omega,by omega⟩;simp only[Fg];omega;rintro k Q b1 ⟨B,A,w,u,rfl,M⟩;simp[Wh];refine aN (λs=> ?_) (λb2=> ?_)
 ·have b2:k<5:=by omega
  have s:k=0\/k=1\/k=2\/k=3\/k=4:=by omega
  simp only[bH b2 (show 5<=140737488355328 by omega)];rcases s with rfl|rfl|rfl|rfl|rfl;obtain⟨s1,s0,s2⟩:=M.any (b:=F 1) (d:=x 3) (l:=x 4) g2 rfl rfl rfl rfl rfl rfl rfl rfl rfl rfl (m:=1) rfl
  rotate_left
  obtain⟨s1,s0,s2⟩:=M.any (b:=F 2) (d:=x 5) (l:=x 6) g2 rfl rfl rfl rfl rfl rfl rfl rfl rfl rfl (m:=2) rfl
  rotate_left
  obtain⟨s1,s0,s2⟩:=M.any (b:=F 3) (d:=x 7) (l:=x 8) g3 rfl rfl rfl rfl rfl rfl rfl rfl rfl rfl (m:=3) rfl
  rotate_left
  obtain⟨s1,s0,s2⟩:=M.any (b:=F 4) (d:=x 9) (l:=x 10) g3 rfl rfl rfl rfl rfl rfl rfl rfl rfl rfl (m:=4) rfl
  rotate_left
  obtain⟨s1,s0,s2⟩:=M.any (b:=F 5) (d:=x 11) (l:=x 12) g4 rfl rfl rfl rfl rfl rfl rfl rfl rfl rfl (m:=5) rfl
  rotate_left
  all_goals
   simp[show ay .quo I 0 2=0 from rfl,show ay .quo I 1 2=0 from rfl,show ay .quo I 2 2=1 from rfl,show ay .quo I 3 2=1 from rfl,show ay .quo I 4 2=2 from rfl];clear M hM
   repeat'(refine aN (λ_=> ?_) (λ_=> ?_))
   all_goals with_reducible first|exact⟨_,_,_,_,⟨rfl,rfl,rfl,rfl⟩,s0⟩|exact⟨_,_,_,_,⟨rfl,rfl,rfl,rfl⟩,s1 (by assumption) (by assumption)⟩|exact⟨_,_,_,_,⟨rfl,rfl,rfl,rfl⟩,s2 (by assumption) (by assumption)⟩|contradiction
 have b1:k=5:=by omega
 subst b1;refine aN (λhe=> ?_) (λa b=>absurd b a);have px:=b0.x;have py:=b0.y;have ex:ay .mul I 29 (x 0)=29*x 0:=by simp only[ay];exact cQ (by omega) (by omega)
 have ey:ay .mul I 29 (x 1)=29*x 1:=by simp only[ay];exact cQ (by omega) (by omega)
 rw[ex,ey] at he⊢;obtain⟨v0,v1,v2,v3⟩:=M.fg.shv he;have hP:=M.fg.sh he;rw[v0,v1,v2,v3] at hP⊢;have hp:=hP.1;rw[hp];refine bU (Y v) (λi Q=>∃a b c d,Q=[.i a,.i b,.i c,.i d,.i (bS x v i 0),.i (bS x v i 1),.i (bS x v i 2),.i (bS x v i 3),.i (bS x v i 4),.i (bS x v i 5),.i (bS x v i 6),.i (bS x v i 7),.i (bS x v i 8),.i (bS x v i 9),.i (bS x v i 10),.i (bS x v i 11),.i (bS x v i 12),.b E]/\AO a b c d/\OnB B A w u a b c d (bS x v i)/\Wi F x (bS x v i)/\rS (bS x v i)) ⟨0,rfl,aD0 _,B+29*x 0,A+29*x 0,w+29*x 1,u+29*x 1,rfl,hP,⟨⟨aGw _,aGw _⟩,aGw _,aGw _⟩,⟨λ_=>rfl,λ_ _ _=>⟨rfl,rfl⟩⟩,bf⟩ ?_;rintro i Q P ⟨a,b',c,d,rfl,a7,hO,b3,hR⟩;have b7:=a7.1;have g1:=aof (bS x v i) v i;simp only[iX,bm,aDi,aDl] at g1;simp[Wh];refine aN (λP=>⟨P, ?_⟩) (λan=> ?_);rw[bp g1];simp[bH P al,Wh];refine aN (λa8=>aN (λa9=>aN (λ_=> ?_) (λn=>absurd a8 n)) (λa b=>absurd b a)) (λa b=>absurd b a);have b8:=awL hM P b3 a8;have b4:=(aeJ (bS x v i) v i a8).1;have p':=(Wf _ _ _ _ _ _ _ _ _ _ _ _ _).1 b4;have ct:=p'.x;have cv:=p'.y;have ca:ay .mul I 29 (eN (bS x v i) v i 0)=29*eN (bS x v i) v i 0:=by simp only[ay];exact cQ (by omega) (by omega)
 have cc:ay .mul I 29 (eN (bS x v i) v i 1)=29*eN (bS x v i) v i 1:=by simp only[ay];exact cQ (by omega) (by omega)
 rw[ca,cc] at a9⊢;obtain⟨cf,ch,cl,cm⟩:=M.fg.shv a9;have bb:=M.fg.sh a9;rw[cf,ch,cl,cm] at bb⊢;have cp:=bb.1;have b5:(bF a b' c d&&bF (B+29*eN (bS x v i) v i 0) (A+29*eN (bS x v i) v i 0) (w+29*eN (bS x v i) v i 1) (u+29*eN (bS x v i) v i 1))=true:=by rw[b7,cp];rfl
 rw[b5];refine⟨min a (B+29*eN (bS x v i) v i 0),max b' (A+29*eN (bS x v i) v i 0),min c (w+29*eN (bS x v i) v i 1),max d (u+29*eN (bS x v i) v i 1),⟨rfl,rfl,rfl,rfl,rfl,rfl,rfl,rfl,rfl,rfl,rfl,rfl,rfl,rfl,rfl,rfl,rfl⟩, ?_, ?_,b8,b4⟩;have:=a7.join bb;rw[b5] at this;exact this;show(_/\_)/\_/\_;simp only[bS];omega;have a6:i=Y v:=aEz P (aEr an);subst a6;exact⟨a7,v,hS hb,awK M hO b3⟩
def OS(h:dD)(aS aa:Int)(x:Nat->Int)(X:RV)(V:rM X)(y:Nat->Int)(r:RV)(Q:Sl r):∃o,TB.Ev 90 (wk++[.i aS,.i aa,.i (x 0),.i (x 1),.i (x 2),.i (x 3),.i (x 4),.i (x 5),.i (x 6),.i (x 7),.i (x 8),.i (x 9),.i (x 10),.i (x 11),.i (x 12),.r X,.i (y 1),.i (y 2),.i (y 3),.i (y 4),.i (y 5),.i (y 6),.i (y 7),.i (y 8),.i (y 9),.i (y 10),.i (y 11),.i (y 12),.i (y 13),.i (y 14),.i (y 15),.i (y 16),.r r]) o/\∃W,o=.ret W/\fq (kI 5) W=true:=by
 obtain⟨_,P,_,_,_,_,_,rfl,_⟩:=aeU h aS aa x X V y r Q;exact⟨_,P,_,rfl,rfl⟩
def awM(h:dD)(aS aa:Int)(x:Nat->Int)(X:RV)(W:rM X)(y:Nat->Int)(r:RV)(V:Sl r):∃o,TB.Ev 90 (wk++[.i aS,.i aa,.i (x 0),.i (x 1),.i (x 2),.i (x 3),.i (x 4),.i (x 5),.i (x 6),.i (x 7),.i (x 8),.i (x 9),.i (x 10),.i (x 11),.i (x 12),.r X,.i (y 1),.i (y 2),.i (y 3),.i (y 4),.i (y 5),.i (y 6),.i (y 7),.i (y 8),.i (y 9),.i (y 10),.i (y 11),.i (y 12),.i (y 13),.i (y 14),.i (y 15),.i (y 16),.r r]) o/\R90 o:=by
 obtain⟨_,Q,a,b,c,d,e,rfl,q⟩:=aeU h aS aa x X W y r V;exact⟨_,Q,a,b,c,d,e,rfl,λz=>(q z).1⟩
end
def iu(v:am):Prop:=∀x∈v,fm (x.getD 3 default).val=E
def iu.nil:iu []:=λx X=>by simp at X
def iu.iG{x:aF}(h:iu W)(V:fm (x.getD 3 default).val=E):iu (W++[x]):=λy X=>by
 rcases aDo.1 X with X|X;exact h y X;simp at X;subst X;exact V
def iu.at(h:iu W)(V:X<Y W):fm (W[X].getD 3 default).val=false:=h _ (aD3 V)
def iu.cell(h:iu W)(V:X<Y W):fm (cellAt W (X:Int) 3).val=false:=by
 have:=h.at V;simpa[cellAt,V] using this
section
variable{R:bn->Prop}{G:aR}{t:T}{O:ac}{L:dK}
variable[Inhabited dl]
def aeV{X:aj}{d:Bool}(V:Y W<=1099511627776):fU (.lex X d) J W=U (bD (be.lex X d).lt W):=by
 simp only[fU];rw[if_pos (by simp[V,be.ok])]
set_option maxHeartbeats 8000000 in
def aop (hc:wX) (h:dD) (id:Int) (m:RV) (a1:rM m) (l f d c b a y6 y7 y8 y9 ab F D C af ag:Int):∃o,TB.Ev 78 (wk++[.i id,.r m,.i l,.i f,.i d,.i c,.i b,.i a,.i y6,.i y7,.i y8,.i y9,.i ab,.i F,.i D,.i C,.i af,.i ag]) o/\∃v e,o=.ret [.r (aq v),.i e]/\(xi (out 143 (wk++[.i id])) 3=1->iu v)/\Y v<=100:=by
 refine dX rfl rfl (.inl rfl) ?_;have Q:=jP _ (awy hc h id);have P:=f75 m a1 l f d c b a y6 y7 y8 y9 ab F D C af ag;simp only[wk,aDi,aDl,AM,CD,od] at Q;simp only[wk,aDi,aDl];generalize xi (out 143 [XV.i gO,XV.i gw,XV.i ny,XV.i tH,XV.i tI,XV.r ak,XV.i dg,XV.r iO,XV.r jg,XV.r jh,XV.r aP,XV.i id])=g at Q⊢;generalize AN m l f d c b a y6 y7 y8 y9 ab F D C af ag=a2 at P;by_cases N:g 14=0;by_cases M:a2=0;have ht:=P.2 M;have V:g 4=1\/g 4=2\/g 4=9\/g 4=3\/g 4=4\/g 4=5\/(g 4≠1/\g 4≠2/\g 4≠9/\g 4≠3/\g 4≠4/\g 4≠5):=by omega
 rcases V with V|V|V|V|V|V|⟨k1,k2,k3,k4,k5,k6⟩
 ·simp(config:={maxSteps:=10000000}) [yQ,wk,bp Q,bp P.1,N,M,V]
  repeat' split
  all_goals first|exact⟨_,rfl,λe=>absurd e (by assumption),by simp⟩|exact⟨_,rfl,λ_=>by simp[iu,fm],by simp⟩
 ·simp(config:={maxSteps:=10000000}) [yQ,wk,bp Q,bp P.1,N,M,V]
  repeat' split
  all_goals first|exact⟨_,rfl,λe=>absurd e (by assumption),by simp⟩|exact⟨_,rfl,λ_=>by simp[iu,fm],by simp⟩
 ·simp(config:={maxSteps:=10000000}) [yQ,wk,bp Q,bp P.1,N,M,V]
  repeat' split
  all_goals first|exact⟨_,rfl,λe=>absurd e (by assumption),by simp⟩|exact⟨_,rfl,λ_=>by simp[iu,fm],by simp⟩
 simp(config:={maxSteps:=10000000}) [yQ,wk,bp Q,bp P.1,N,M,V];have hT:1<=F/\F<=3:=ht.1;obtain⟨dJ,B⟩:∃n:Nat,F=n:=⟨F.toNat,by omega⟩;subst B;refine bU 9 (λi W=>∃v,W=[.r (aq v)]/\iu v/\Y v<=3*i) ⟨0,rfl,by omega,[],rfl,iu.nil,by simp⟩ ?_;rintro i _ hi ⟨v,rfl,X,A⟩;simp;split;rename_i al;have z:i<9:=by omega
 refine bU (dJ+1) (λj W=>1<=j/\∃v,W=[.r (aq v)]/\iu v/\Y v+1<=3*i+j) ⟨1,rfl,by omega,by omega,v,rfl,X,by omega⟩ ?_;rintro j _ hj ⟨an,v,rfl,X,A⟩;simp;split
 ·rename_i ap;have y:j<dJ+1:=by omega
  simp[bH y (show dJ+1<=140737488355328 by omega)]
  repeat'(first|intro _|split)
  all_goals first
   |exact⟨v,rfl,X,by omega⟩
   |(refine⟨by omega,_,rfl,X.iG rfl,by simp;omega⟩)
   |(refine⟨⟨by omega,by omega⟩,_,rfl,X.iG rfl,by simp;omega⟩)
 simp[bH z (show 9<=140737488355328 by omega)];exact⟨v,rfl,X,by omega⟩
 first|rw[tE]|rw[tF]
 refine⟨_,aeV (by simp;omega), ?_⟩;have w:(bD (be.lex [4] J).lt v).length=Y v:=nN;simp;have H:iu (bD (be.lex [4] J).lt v):=λx s=>X x ((yR v).mem_iff.1 s)
 generalize hq:bD (be.lex [4] J).lt v=q at w H;refine bU (Y q) (λi W=>∃u,W=[.r (aq u)]/\iu u/\Y u=i) ⟨0,rfl,by omega,[],rfl,iu.nil,rfl⟩ ?_;rintro k _ a0 ⟨u,rfl,G,hu⟩;simp;split;rename_i p;refine⟨p,by omega, ?_⟩;rw[bH (show k<Y q by omega) (show Y q<=140737488355328 by omega)];exact⟨_,rfl,G.iG (H.cell (show k<Y q by omega)),by simp;omega⟩
 ·repeat'(first|intro _|split)
  all_goals first
   |exact⟨u,rfl,λ_=>G,by omega⟩
   |(refine⟨by omega,_,rfl,λe=>absurd e (by assumption), ?_⟩;simp;omega)
   |(refine⟨⟨by omega,by omega⟩,_,rfl,λe=>absurd e (by assumption), ?_⟩;simp;omega)
 simp(config:={maxSteps:=10000000}) [yQ,wk,bp Q,bp P.1,N,M,V];have hT:1<=D/\D<=3:=ht.2.1;obtain⟨dJ,B⟩:∃n:Nat,D=n:=⟨D.toNat,by omega⟩;subst B;refine bU 9 (λi W=>∃v,W=[.r (aq v)]/\iu v/\Y v<=3*i) ⟨0,rfl,by omega,[],rfl,iu.nil,by simp⟩ ?_;rintro i _ hi ⟨v,rfl,X,A⟩;simp;split;rename_i al;have z:i<9:=by omega
 refine bU (dJ+1) (λj W=>1<=j/\∃v,W=[.r (aq v)]/\iu v/\Y v+1<=3*i+j) ⟨1,rfl,by omega,by omega,v,rfl,X,by omega⟩ ?_;rintro j _ hj ⟨an,v,rfl,X,A⟩;simp;split
 ·rename_i ap;have y:j<dJ+1:=by omega
  simp[bH y (show dJ+1<=140737488355328 by omega)]
  repeat'(first|intro _|split)
  all_goals first
   |exact⟨v,rfl,X,by omega⟩
   |(refine⟨by omega,_,rfl,X.iG rfl,by simp;omega⟩)
   |(refine⟨⟨by omega,by omega⟩,_,rfl,X.iG rfl,by simp;omega⟩)
 simp[bH z (show 9<=140737488355328 by omega)];exact⟨v,rfl,X,by omega⟩
 first|rw[tE]|rw[tF]
 refine⟨_,aeV (by simp;omega), ?_⟩;have w:(bD (be.lex [4] J).lt v).length=Y v:=nN;simp;have H:iu (bD (be.lex [4] J).lt v):=λx s=>X x ((yR v).mem_iff.1 s)
 generalize hq:bD (be.lex [4] J).lt v=q at w H;refine bU (Y q) (λi W=>∃u,W=[.r (aq u)]/\iu u/\Y u=i) ⟨0,rfl,by omega,[],rfl,iu.nil,rfl⟩ ?_;rintro k _ a0 ⟨u,rfl,G,hu⟩;simp;split;rename_i p;refine⟨p,by omega, ?_⟩;rw[bH (show k<Y q by omega) (show Y q<=140737488355328 by omega)];exact⟨_,rfl,G.iG (H.cell (show k<Y q by omega)),by simp;omega⟩
 ·repeat'(first|intro _|split)
  all_goals first
   |exact⟨u,rfl,λ_=>G,by omega⟩
   |(refine⟨by omega,_,rfl,λe=>absurd e (by assumption), ?_⟩;simp;omega)
   |(refine⟨⟨by omega,by omega⟩,_,rfl,λe=>absurd e (by assumption), ?_⟩;simp;omega)
 simp(config:={maxSteps:=10000000}) [yQ,wk,bp Q,bp P.1,N,M,V];have hT:1<=C/\C<=3:=ht.2.2;obtain⟨dJ,B⟩:∃n:Nat,C=n:=⟨C.toNat,by omega⟩;subst B;refine bU 9 (λi W=>∃v,W=[.r (aq v)]/\iu v/\Y v<=3*i) ⟨0,rfl,by omega,[],rfl,iu.nil,by simp⟩ ?_;rintro i _ hi ⟨v,rfl,X,A⟩;simp;split;rename_i al;have z:i<9:=by omega
 refine bU (dJ+1) (λj W=>1<=j/\∃v,W=[.r (aq v)]/\iu v/\Y v+1<=3*i+j) ⟨1,rfl,by omega,by omega,v,rfl,X,by omega⟩ ?_;rintro j _ hj ⟨an,v,rfl,X,A⟩;simp;split
 ·rename_i ap;have y:j<dJ+1:=by omega
  simp[bH y (show dJ+1<=140737488355328 by omega)]
  repeat'(first|intro _|split)
  all_goals first
   |exact⟨v,rfl,X,by omega⟩
   |(refine⟨by omega,_,rfl,X.iG rfl,by simp;omega⟩)
   |(refine⟨⟨by omega,by omega⟩,_,rfl,X.iG rfl,by simp;omega⟩)
 simp[bH z (show 9<=140737488355328 by omega)];exact⟨v,rfl,X,by omega⟩
 first|rw[tE]|rw[tF]
 refine⟨_,aeV (by simp;omega), ?_⟩;have w:(bD (be.lex [4] J).lt v).length=Y v:=nN;simp;have H:iu (bD (be.lex [4] J).lt v):=λx s=>X x ((yR v).mem_iff.1 s)
 generalize hq:bD (be.lex [4] J).lt v=q at w H;refine bU (Y q) (λi W=>∃u,W=[.r (aq u)]/\iu u/\Y u=i) ⟨0,rfl,by omega,[],rfl,iu.nil,rfl⟩ ?_;rintro k _ a0 ⟨u,rfl,G,hu⟩;simp;split;rename_i p;refine⟨p,by omega, ?_⟩;rw[bH (show k<Y q by omega) (show Y q<=140737488355328 by omega)];exact⟨_,rfl,G.iG (H.cell (show k<Y q by omega)),by simp;omega⟩
 ·repeat'(first|intro _|split)
  all_goals first
   |exact⟨u,rfl,λ_=>G,by omega⟩
   |(refine⟨by omega,_,rfl,λe=>absurd e (by assumption), ?_⟩;simp;omega)
   |(refine⟨⟨by omega,by omega⟩,_,rfl,λe=>absurd e (by assumption), ?_⟩;simp;omega)
 ·simp(config:={maxSteps:=10000000}) [yQ,wk,bp Q,bp P.1,N,M,k1,k2,k3,k4,k5,k6]
  repeat' split
  all_goals first|exact⟨_,rfl,λe=>absurd e (by assumption),by simp⟩|exact⟨_,rfl,λ_=>by simp[iu,fm],by simp⟩
 simp(config:={maxSteps:=10000000}) [yQ,wk,bp Q,bp P.1,N,M]
 first|exact⟨_,rfl,λe=>absurd e (by assumption),by simp⟩|exact⟨_,rfl,λ_=>by simp[iu,fm],by simp⟩
 ·simp(config:={maxSteps:=10000000}) [yQ,wk,bp Q,bp P.1,N]
  repeat'(first|intro _|split)
  all_goals first|exact⟨_,rfl,λe=>absurd e (by assumption),by simp⟩|exact⟨_,rfl,λ_=>by simp[iu,fm],by simp⟩
def t78(w:wX)(h:dD)(id:Int)(X:RV)(u:rM X)(W V Q P N M H G F D C B A z y x:Int):∃o,TB.Ev 78 (wk++[.i id,.r X,.i W,.i V,.i Q,.i P,.i N,.i M,.i H,.i G,.i F,.i D,.i C,.i B,.i A,.i z,.i y,.i x]) o/\∃v e,o=.ret [.r (aq v),.i e]/\Y v<=100:=by
 obtain⟨o,g,v,e,s,_,q⟩:=aop w h id X u W V Q P N M H G F D C B A z y x;exact⟨o,g,v,e,s,q⟩

def vB(v:RV)(i:Nat):Bool:=bF (ci v i 0) (ci v i 1) (ci v i 2) (ci v i 3)
def eC(u:RV)(i:Nat)(w:RV)(k:Nat):Bool:=vB u i&&vB w k&&oN (ci u i 0) (ci u i 1) (ci u i 2) (ci u i 3) (ci w k 0) (ci w k 1) (ci w k 2) (ci w k 3)
def oe(gO gw:Int)(u:RV)(i:Nat):Bool:=vB u i&&bF 0 (ay .mul I 841 gO) 0 (ay .mul I 841 gw)&&oO (ci u i 0) (ci u i 1) (ci u i 2) (ci u i 3) 0 (ay .mul I 841 gO) 0 (ay .mul I 841 gw)
def iv(X:RV):Nat->am
 |0=>[]
 |i+1=>di 2 [.mk (.int I (ci X i 0)) [],.mk (.int I (ci X i 1)) [],.mk (.bool J) []] (iv X i)
def gr(X:am)(a b:Nat):Bool:=BE.den ⟨[(a:Int),(b:Int)],[],[aq X],[]⟩ (.look (.v 0) 2 (.v 0) (.v 1) (.c 0) 2)
def EP(X:RV)(aa:Int):Nat->am
 |0=>[]
 |i+1=>EP X aa i++[[.mk (.int I (jQ (ci X i) aa 0)) [],.mk (.int I (jQ (ci X i) aa 1)) [],.mk (.int I (jQ (ci X i) aa 2)) [],.mk (.int I (jQ (ci X i) aa 3)) []]]
def Ld(X:RV)(aa:Int):∀i,(EP X aa i).length=i
 |0=>rfl
 |i+1=>by simp[EP,Ld X aa i]
def aor(X:RV)(aa:Int){k:Nat}:∀{i},k<i->(EP X aa i)[k]?=U [.mk (.int I (jQ (ci X k) aa 0)) [],.mk (.int I (jQ (ci X k) aa 1)) [],.mk (.int I (jQ (ci X k) aa 2)) [],.mk (.int I (jQ (ci X k) aa 3)) []]
 |0,h=>by omega
 |i+1,h=>by
  by_cases W:k=i;subst W;rw[EP,aDk (by rw[Ld];omega),Ld];simp;rw[EP,aDg (by rw[Ld];omega)];exact aor X aa (by omega)
def kR(u:RV)(i:Nat)(X:RV)(aa:Int)(g:Nat):Bool:=vB u i&&bF (jQ (ci X g) aa 0) (jQ (ci X g) aa 1) (jQ (ci X g) aa 2) (jQ (ci X g) aa 3)&&oN (ci u i 0) (ci u i 1) (ci u i 2) (ci u i 3) (jQ (ci X g) aa 0) (jQ (ci X g) aa 1) (jQ (ci X g) aa 2) (jQ (ci X g) aa 3)
def Wj(W:RV)(aa:Int){k:Nat}(h:k<X)(j:Nat)(V:j<4):aO (cellAt (EP W aa X) (k:Int) j).val=jQ (ci W k) aa j:=by
 simp only[cellAt,aEa,aDf,aor W aa h]
 match j,V with
 |0,_|1,_|2,_|3,_=>rfl
def Wk{M:Type}{v:List M}{Q:Prop}{P:Nat->Prop}(h:v=[]<->Q/\∀W<X,P W)(H:P X):v=[]<->Q/\∀W<X+1,P W:=by
 rw[h];refine⟨λ⟨V,N⟩=>⟨V,λW G=> ?_⟩,λ⟨V,N⟩=>⟨V,λW G=>N W (by omega)⟩⟩;by_cases F:W=X;subst F;exact H;exact N W (by omega)
def Wl{W:Type}{v:List W}{x:W}{Q:Prop}{P:Nat->Prop}(V:¬P X):v++[x]=[]<->Q/\∀N<X+1,P N:=
 ⟨λh=>by simp at h,λ⟨_,M⟩=>absurd (M X (by omega)) V⟩
def awN{G:Type}{v:List G}{Q:Prop}{P:Nat->Nat->Prop}{n:Nat}(h:v=[]<->(Q/\∀W<X,∀b<n,P W b)/\∀F<n,P X F):v=[]<->Q/\∀W<X+1,∀b<n,P W b:=by
 rw[h];refine⟨λ⟨⟨N,V⟩,M⟩=>⟨N,λW C b H=> ?_⟩,λ⟨N,V⟩=>⟨⟨N,λW M=>V W (by omega)⟩,V X (by omega)⟩⟩;by_cases D:W=X;subst D;exact M b H;exact V W (by omega) b H
structure ClE(wg:RV)(aa:Int)(mv hd pr:RV):Prop where
 wk:gP=0
 nw:Y wg.rows<=8
 inb:gq aa 0 (dg-1)=J
 lm:Y mv.rows=Y ak.rows
 lh:Y hd.rows=Y ak.rows
 vm:∀i<Y mv.rows,vB mv i=J
 vh:∀i<Y hd.rows,vB hd i=J
 Le:∀i<Y pr.rows,0<=ci pr i 0/\ci pr i 0<ci pr i 1/\ci pr i 1<Y ak.rows
 EQ:∀g<Y wg.rows,jQ (ci wg g) aa 4=0
structure ClN(gO gw:Int)(ak:RV)(wg:RV)(aa:Int)(mv hd pr:RV):Prop where
 n1:∀a<Y ak.rows,∀b,a<b->b<Y ak.rows->gr (iv pr (Y pr.rows)) a b=J\/eC mv a mv b=J
 n2:∀a<Y ak.rows,∀b,a<b->b<Y ak.rows->gr (iv pr (Y pr.rows)) a b=J\/eC mv a hd b=J
 n3:∀a<Y ak.rows,∀b,a<b->b<Y ak.rows->gr (iv pr (Y pr.rows)) a b=J\/eC hd a mv b=J
 n4:∀a<Y ak.rows,∀b,a<b->b<Y ak.rows->gr (iv pr (Y pr.rows)) a b=J\/eC hd a hd b=J
 Lf:∀a<Y ak.rows,∀g<Y wg.rows,kR mv a wg aa g=J/\kR hd a wg aa g=J
 Wm:∀a<Y ak.rows,oe gO gw mv a=J/\oe gO gw hd a=J
structure Hp(wg:RV)(aa:Int)(mv hd pr:RV):Prop extends ClE wg aa mv hd pr,ClN gO gw ak wg aa mv hd pr
def qD{P:Nat->Prop}(h:∀k<X,P k)(W:P X):∀k<X+1,P k:=λk Q=>by
 by_cases V:k=X;subst V;exact W;exact h k (by omega)
def ER{ny Q:Prop}{P:Nat->Prop}(h:ny<->Q):ny<->Q/\∀X<0,P X:=by simp[h]
def Wn{ny Q:Prop}{P:Nat->Prop}(h:ny<->Q):ny<->Q/\∀W,X<W->W<X+1->P W:=by
 rw[h];exact⟨λh=>⟨h,λW V N=>by omega⟩,λh=>h.1⟩
def ES{H:Type}{v:List H}{Q:Prop}{P:Nat->Prop}{b:Nat}(h:v=[]<->Q/\∀W,X<W->W<b->P W)(G:P b):v=[]<->Q/\∀W,X<W->W<b+1->P W:=by
 rw[h];refine⟨λ⟨V,N⟩=>⟨V,λW M F=> ?_⟩,λ⟨V,N⟩=>⟨V,λW M F=>N W M (by omega)⟩⟩;by_cases D:W=b;subst D;exact G;exact N W M (by omega)
def Wo{V:Type}{v:List V}{x:V}{Q:Prop}{P:Nat->Prop}{b:Nat}(N:X<b)(M:¬P b):v++[x]=[]<->Q/\∀W,X<W->W<b+1->P W:=by
 refine⟨λh=>by simp at h,λ⟨G,H⟩=>absurd (H b N (by omega)) M⟩
def Wp{D:Type}{v:List D}{Q:Prop}{P:Nat->Nat->Prop}{n:Nat}(h:v=[]<->(Q/\∀W<X,∀b,W<b->b<n->P W b)/\∀N,X<N->N<n->P X N):v=[]<->Q/\∀W<X+1,∀b,W<b->b<n->P W b:=by
 rw[h];refine⟨λ⟨⟨M,V⟩,H⟩=>⟨M,λW B b G F=> ?_⟩,λ⟨M,V⟩=>⟨⟨M,λW H=>V W (by omega)⟩,V X (by omega)⟩⟩;by_cases C:W=X;subst C;exact H b G F;exact V W (by omega) b G F
def yU{K N:Prop}(W:Q≠0)(V:¬K):∃v X,(aq []=aq v/\Q=X)/\(¬X=0->v=[])/\Y v<=1000000/\(X=0<->K)/\(X=0->(v=[]<->N)):=⟨[],Q,⟨rfl,rfl⟩,λ_=>rfl,by simp,by simp[W,V],λh=>absurd h W⟩
set_option maxHeartbeats 8000000 in
def awO (h:dD) (H:RV) (aa:Int) (V N W:RV) (al:Sl H) (af:Sl V) (ag:Sl N) (a5:Sl W):∃o,TB.Ev 106 (wk++[.r H,.i aa,.r V,.r N,.r W]) o/\∃v e,o=.ret [.r (aq v),.i e]/\(e≠0->v=[])/\Y v<=1000000/\(e=0<->ClE H aa V N W)/\(e=0->(v=[]<->ClN gO gw ak H aa V N W)):=by
 refine dX rfl rfl (.inl rfl) ?_;obtain⟨h1,h2⟩:=pH iP h;simp only[wk] at h1;simp(config:={maxSteps:=10000000}) [aet,wk,h.rl.len,al.len,af.len,ag.len,bp h1];split
 case isFalse a6=>exact yU a6 λK=>a6 K.wk
 rename_i h0;have hw:=h2 h0;have hn:=hw.nr;have bt:=hw.br;split
 case isTrue h8=>exact yU (by omega) λK=>by have:=K.nw;omega
 rename_i h8;rw[show ay .sub I dg 1=dg-1 by simp only[ay];exact cQ (by omega) (by omega)];split
 case isFalse hb=>exact yU (by omega) λK=>hb (by simpa using K.inb)
 rename_i hb;split
 case isFalse hl=>exact yU (by omega) λK=>by have:=K.lm;omega
 rename_i bg;split
 case isFalse hl=>exact yU (by omega) λK=>by have:=K.lh;omega
 rename_i bk;refine bU (Y V.rows) (λi G=>G=[]/\∀k<i,vB V k=J) ⟨0,rfl,by omega,rfl,by omega⟩ ?_;rintro i _ A ⟨rfl,a7⟩;simp[af.len];split;rename_i A;simp[bH A af.sm,A];split;rename_i x;exact qD a7 x;rename_i x;exact yU (by omega) λK=>x (K.vm i A)
 rename_i an;have l:i=Y V.rows:=by omega
 subst l;refine bU (Y N.rows) (λi G=>G=[]/\∀k<i,vB N k=J) ⟨0,rfl,by omega,rfl,by omega⟩ ?_;rintro i _ A ⟨rfl,a8⟩;simp[ag.len];split;rename_i A;simp[bH A ag.sm,A];split;rename_i x;exact qD a8 x;rename_i x;exact yU (by omega) λK=>x (K.vh i A)
 rename_i an;have l:i=Y N.rows:=by omega
 subst l;refine bU (Y W.rows) (λi G=>G=[.r (aq []),.r (aq (iv W i))]/\∀k<i,0<=ci W k 0/\ci W k 0<ci W k 1/\ci W k 1<Y ak.rows) ⟨0,rfl,by omega,rfl,by omega⟩ ?_;rintro i _ A ⟨rfl,a9⟩;simp[h.rl.len,a5.len];split;rename_i A;simp[bH A a5.sm,A];split;rename_i x;exact yU (by omega) λK=>by have:=K.Le i A;simp only[ci] at this;omega
 split;rename_i x;exact yU (by omega) λK=>by have:=K.Le i A;simp only[ci] at this;omega
 split;rename_i x;exact yU (by omega) λK=>by have:=K.Le i A;simp only[ci] at this;omega
 exact⟨rfl,qD a9 (by simp only[ci];omega)⟩;rename_i an;have l:i=Y W.rows:=by omega
 subst l;refine bU (Y H.rows) (λi G=>G=[.r (aq (EP H aa i)),.r (aq [])]/\∀k<i,jQ (ci H k) aa 4=0) ⟨0,rfl,by omega,rfl,by omega⟩ ?_;rintro i _ A ⟨rfl,bb⟩;simp[al.len];split;rename_i A;have bd:=f25 (ci H i) aa;simp only[EO,ci,aDi,aDl] at bd;simp[bH A al.sm,A,bp bd];split;rename_i x;exact⟨by rw[Ld];omega,rfl,qD bb x⟩;rename_i x;exact yU x λK=>x (K.EQ i A)
 rename_i an;have l:i=Y H.rows:=by omega
 subst l;have j:lenOf V.val=(Y ak.rows:Int):=by rw[af.len];exact bg
 have f:lenOf N.val=(Y ak.rows:Int):=by rw[ag.len];exact bk
 have bl:=Ld H aa (Y H.rows);have s:Y ak.rows<=140737488355328:=by omega
 obtain⟨Q1,bf⟩:∃Q:Prop,Q:=⟨True,trivial⟩;refine bU 0 (λi G=>G=[.r (aq [])]) ⟨0,rfl,by omega,rfl⟩ ?_;rintro z _ hz rfl;have bo:z=0:=by omega
 subst bo;simp;refine bU (Y ak.rows) (λa G=>∃v,G=[.r (aq v)]/\Y v<=0+64*a/\(v=[]<->Q1/\∀X<a,∀b,X<b->b<Y ak.rows->gr (iv W (Y W.rows)) X b=J\/eC V X V b=J)) ⟨0,rfl,by omega,_,rfl,by simp,ER (by simp[bf]:([]:am)=[]<->Q1)⟩ ?_;rintro a _ C ⟨v,rfl,q,M⟩;simp[j];split;rename_i C;refine bU (Y ak.rows) (λb G=>a<b/\∃v,G=[.r (aq v)]/\Y v<=0+64*a+b/\(v=[]<->(Q1/\∀X<a,∀b,X<b->b<Y ak.rows->gr (iv W (Y W.rows)) X b=J\/eC V X V b=J)/\∀F,a<F->F<b->gr (iv W (Y W.rows)) a F=J\/eC V a V F=J)) ⟨a+1,EM (by omega),by omega,by omega,v,rfl,by omega,Wn M⟩ ?_;rintro b _ ap ⟨d,v,rfl,q,M⟩;simp[h.rl.len,j];split;rename_i w;simp[bH w s];by_cases y:gr (iv W (Y W.rows)) a b=J;have B:=y;simp[gr] at B;rw[if_pos B];exact⟨by omega,v,rfl,by omega,ES M (.inl y)⟩;have B:=y;simp[gr] at B;rw[B,if_neg (by simp)];refine⟨C,w, ?_⟩;by_cases D:eC V a V b=J;have cu:=D;simp[eC,vB,ci] at cu;rw[if_neg (by simp[cu])];exact⟨by omega,v,rfl,by omega,ES M (.inr D)⟩;have cu:=D;simp[eC,vB,ci] at cu;rw[if_pos (by grind)];exact⟨by omega,by omega,_,rfl,by simp;omega,Wo (P:=λF=>gr (iv W (Y W.rows)) a F=J\/eC V a V F=J) d (by simp[y,D])⟩;rename_i w;have c:b=Y ak.rows:=by omega
 subst c;simp[bH C s];exact⟨v,rfl,by omega,Wp M⟩;rename_i ab;have u:a=Y ak.rows:=by omega
 subst u;obtain⟨Q2,a0⟩:∃Q:Prop,Q<->(Q1/\∀X<Y ak.rows,∀b,X<b->b<Y ak.rows->gr (iv W (Y W.rows)) X b=J\/eC V X V b=J):=⟨_,Iff.rfl⟩;rw[<-a0] at M;refine bU (Y ak.rows) (λa G=>∃v,G=[.r (aq v)]/\Y v<=5000+64*a/\(v=[]<->Q2/\∀X<a,∀b,X<b->b<Y ak.rows->gr (iv W (Y W.rows)) X b=J\/eC V X N b=J)) ⟨0,rfl,by omega,_,rfl,by omega,ER M⟩ ?_;rintro a _ C ⟨v,rfl,q,M⟩;simp[j];split;rename_i C;refine bU (Y ak.rows) (λb G=>a<b/\∃v,G=[.r (aq v)]/\Y v<=5000+64*a+b/\(v=[]<->(Q2/\∀X<a,∀b,X<b->b<Y ak.rows->gr (iv W (Y W.rows)) X b=J\/eC V X N b=J)/\∀F,a<F->F<b->gr (iv W (Y W.rows)) a F=J\/eC V a N F=J)) ⟨a+1,EM (by omega),by omega,by omega,v,rfl,by omega,Wn M⟩ ?_;rintro b _ ap ⟨d,v,rfl,q,M⟩;simp[h.rl.len,j,f];split;rename_i w;simp[bH w s];by_cases y:gr (iv W (Y W.rows)) a b=J;have B:=y;simp[gr] at B;rw[if_pos B];exact⟨by omega,v,rfl,by omega,ES M (.inl y)⟩;have B:=y;simp[gr] at B;rw[B,if_neg (by simp)];refine⟨C,w, ?_⟩;by_cases D:eC V a N b=J;have cu:=D;simp[eC,vB,ci] at cu;rw[if_neg (by simp[cu])];exact⟨by omega,v,rfl,by omega,ES M (.inr D)⟩;have cu:=D;simp[eC,vB,ci] at cu;rw[if_pos (by grind)];exact⟨by omega,by omega,_,rfl,by simp;omega,Wo (P:=λF=>gr (iv W (Y W.rows)) a F=J\/eC V a N F=J) d (by simp[y,D])⟩;rename_i w;have c:b=Y ak.rows:=by omega
 subst c;simp[bH C s];exact⟨v,rfl,by omega,Wp M⟩;rename_i ab;have u:a=Y ak.rows:=by omega
 subst u;obtain⟨Q3,a1⟩:∃Q:Prop,Q<->(Q2/\∀X<Y ak.rows,∀b,X<b->b<Y ak.rows->gr (iv W (Y W.rows)) X b=J\/eC V X N b=J):=⟨_,Iff.rfl⟩;rw[<-a1] at M;refine bU (Y ak.rows) (λa G=>∃v,G=[.r (aq v)]/\Y v<=10000+64*a/\(v=[]<->Q3/\∀X<a,∀b,X<b->b<Y ak.rows->gr (iv W (Y W.rows)) X b=J\/eC N X V b=J)) ⟨0,rfl,by omega,_,rfl,by omega,ER M⟩ ?_;rintro a _ C ⟨v,rfl,q,M⟩;simp[f];split;rename_i C;refine bU (Y ak.rows) (λb G=>a<b/\∃v,G=[.r (aq v)]/\Y v<=10000+64*a+b/\(v=[]<->(Q3/\∀X<a,∀b,X<b->b<Y ak.rows->gr (iv W (Y W.rows)) X b=J\/eC N X V b=J)/\∀F,a<F->F<b->gr (iv W (Y W.rows)) a F=J\/eC N a V F=J)) ⟨a+1,EM (by omega),by omega,by omega,v,rfl,by omega,Wn M⟩ ?_;rintro b _ ap ⟨d,v,rfl,q,M⟩;simp[h.rl.len,j,f];split;rename_i w;simp[bH w s];by_cases y:gr (iv W (Y W.rows)) a b=J;have B:=y;simp[gr] at B;rw[if_pos B];exact⟨by omega,v,rfl,by omega,ES M (.inl y)⟩;have B:=y;simp[gr] at B;rw[B,if_neg (by simp)];refine⟨C,w, ?_⟩;by_cases D:eC N a V b=J;have cu:=D;simp[eC,vB,ci] at cu;rw[if_neg (by simp[cu])];exact⟨by omega,v,rfl,by omega,ES M (.inr D)⟩;have cu:=D;simp[eC,vB,ci] at cu;rw[if_pos (by grind)];exact⟨by omega,by omega,_,rfl,by simp;omega,Wo (P:=λF=>gr (iv W (Y W.rows)) a F=J\/eC N a V F=J) d (by simp[y,D])⟩;rename_i w;have c:b=Y ak.rows:=by omega
 subst c;simp[bH C s];exact⟨v,rfl,by omega,Wp M⟩;rename_i ab;have u:a=Y ak.rows:=by omega
 subst u;obtain⟨Q4,a2⟩:∃Q:Prop,Q<->(Q3/\∀X<Y ak.rows,∀b,X<b->b<Y ak.rows->gr (iv W (Y W.rows)) X b=J\/eC N X V b=J):=⟨_,Iff.rfl⟩;rw[<-a2] at M;refine bU (Y ak.rows) (λa G=>∃v,G=[.r (aq v)]/\Y v<=15000+64*a/\(v=[]<->Q4/\∀X<a,∀b,X<b->b<Y ak.rows->gr (iv W (Y W.rows)) X b=J\/eC N X N b=J)) ⟨0,rfl,by omega,_,rfl,by omega,ER M⟩ ?_;rintro a _ C ⟨v,rfl,q,M⟩;simp[f];split;rename_i C;refine bU (Y ak.rows) (λb G=>a<b/\∃v,G=[.r (aq v)]/\Y v<=15000+64*a+b/\(v=[]<->(Q4/\∀X<a,∀b,X<b->b<Y ak.rows->gr (iv W (Y W.rows)) X b=J\/eC N X N b=J)/\∀F,a<F->F<b->gr (iv W (Y W.rows)) a F=J\/eC N a N F=J)) ⟨a+1,EM (by omega),by omega,by omega,v,rfl,by omega,Wn M⟩ ?_;rintro b _ ap ⟨d,v,rfl,q,M⟩;simp[h.rl.len,f];split;rename_i w;simp[bH w s];by_cases y:gr (iv W (Y W.rows)) a b=J;have B:=y;simp[gr] at B;rw[if_pos B];exact⟨by omega,v,rfl,by omega,ES M (.inl y)⟩;have B:=y;simp[gr] at B;rw[B,if_neg (by simp)];refine⟨C,w, ?_⟩;by_cases D:eC N a N b=J;have cu:=D;simp[eC,vB,ci] at cu;rw[if_neg (by simp[cu])];exact⟨by omega,v,rfl,by omega,ES M (.inr D)⟩;have cu:=D;simp[eC,vB,ci] at cu;rw[if_pos (by grind)];exact⟨by omega,by omega,_,rfl,by simp;omega,Wo (P:=λF=>gr (iv W (Y W.rows)) a F=J\/eC N a N F=J) d (by simp[y,D])⟩;rename_i w;have c:b=Y ak.rows:=by omega
 subst c;simp[bH C s];exact⟨v,rfl,by omega,Wp M⟩;rename_i ab;have u:a=Y ak.rows:=by omega
 subst u;obtain⟨Q5,a3⟩:∃Q:Prop,Q<->(Q4/\∀X<Y ak.rows,∀b,X<b->b<Y ak.rows->gr (iv W (Y W.rows)) X b=J\/eC N X N b=J):=⟨_,Iff.rfl⟩;rw[<-a3] at M;have bx:Y H.rows<=8:=by omega
 refine bU (Y ak.rows) (λa G=>∃v,G=[.r (aq v)]/\Y v<=20000+64*a/\(v=[]<->Q5/\∀X<a,∀g<Y H.rows,kR V X H aa g=J/\kR N X H aa g=J)) ⟨0,rfl,by omega,_,rfl,by omega,ER M⟩ ?_;rintro a _ C ⟨v,rfl,q,M⟩;simp[h.rl.len];split;rename_i C;refine bU (Y H.rows) (λg G=>∃v,G=[.r (aq v)]/\Y v<=20000+64*a+g/\(v=[]<->(Q5/\∀X<a,∀g<Y H.rows,kR V X H aa g=J/\kR N X H aa g=J)/\∀m<g,kR V a H aa m=J/\kR N a H aa m=J)) ⟨0,rfl,by omega,v,rfl,by omega,ER M⟩ ?_;rintro g _ hg ⟨v,rfl,q,M⟩;simp[j,f,bl];split;rename_i hg;have c0:=Wj H aa hg 0 (by omega);have c1:=Wj H aa hg 1 (by omega);have c2:=Wj H aa hg 2 (by omega);have c3:=Wj H aa hg 3 (by omega);simp[bH hg (show Y H.rows<=140737488355328 by omega),c0,c1,c2,c3];refine⟨hg,C, ?_⟩;by_cases D:kR V a H aa g=J;have cu:=D;simp[kR,vB,ci] at cu;rw[if_neg (by simp[cu])];refine⟨C, ?_⟩;by_cases p:kR N a H aa g=J;have n:=p;simp[kR,vB,ci] at n;rw[if_neg (by simp[n])];exact⟨v,rfl,by omega,Wk M ⟨D,p⟩⟩;have n:=p;simp[kR,vB,ci] at n;rw[if_pos (by grind)];exact⟨by omega,_,rfl,by simp;omega,Wl (P:=λm=>kR V a H aa m=J/\kR N a H aa m=J) (by simp[p])⟩;have cu:=D;simp[kR,vB,ci] at cu;rw[if_pos (by grind)];exact⟨by omega,_,rfl,by simp;omega,Wl (P:=λm=>kR V a H aa m=J/\kR N a H aa m=J) (by simp[D])⟩;rename_i b0;have bs:g=Y H.rows:=by omega
 subst bs;simp[bH C s];exact⟨v,rfl,by omega,awN M⟩;rename_i ab;have u:a=Y ak.rows:=by omega
 subst u;obtain⟨Q6,a4⟩:∃Q:Prop,Q<->(Q5/\∀X<Y ak.rows,∀g<Y H.rows,kR V X H aa g=J/\kR N X H aa g=J):=⟨_,Iff.rfl⟩;rw[<-a4] at M;refine bU (Y ak.rows) (λa G=>∃v,G=[.r (aq v)]/\Y v<=30000+a/\(v=[]<->Q6/\∀X<a,oe gO gw V X=J/\oe gO gw N X=J)) ⟨0,rfl,by omega,_,rfl,by omega,ER M⟩ ?_;rintro a _ C ⟨v,rfl,q,M⟩;simp[h.rl.len,j,f];split;rename_i C;simp[bH C s];refine⟨C, ?_⟩;by_cases D:oe gO gw V a=J;have cu:=D;simp[oe,vB,ci] at cu;by_cases p:oe gO gw N a=J;have n:=p;simp[oe,vB,ci] at n;simp[cu,n];exact⟨v,rfl,by omega,Wk M ⟨D,p⟩⟩;have n:=p;simp[oe,vB,ci] at n;rw[if_neg (by simp[cu]),if_pos (by grind)];exact⟨by omega,_,rfl,by simp;omega,Wl (P:=λX=>oe gO gw V X=J/\oe gO gw N X=J) (by simp[p])⟩;have cu:=D;simp[oe,vB,ci] at cu;rw[if_pos (by grind)];exact⟨by omega,_,rfl,by simp;omega,Wl (P:=λX=>oe gO gw V X=J/\oe gO gw N X=J) (by simp[D])⟩;rename_i ab;have u:a=Y ak.rows:=by omega
 subst u;refine⟨v,0,⟨rfl,rfl⟩,by simp,by omega,⟨λ_=>⟨h0,by omega,by simpa using hb,by omega,by omega,a7,a8,a9,bb⟩,λ_=>rfl⟩,λ_=> ?_⟩;rw[M];refine⟨λ⟨q6,ed⟩=> ?_,λK=>⟨a4.2 ⟨a3.2 ⟨a2.2 ⟨a1.2 ⟨a0.2 ⟨bf,K.n1⟩,K.n2⟩,K.n3⟩,K.n4⟩,K.Lf⟩,K.Wm⟩⟩;obtain⟨q5,w1⟩:=a4.1 q6;obtain⟨q4,n4⟩:=a3.1 q5;obtain⟨q3,n3⟩:=a2.1 q4;obtain⟨q2,n2⟩:=a1.1 q3;obtain⟨_,n1⟩:=a0.1 q2;exact⟨n1,n2,n3,n4,w1,ed⟩
def awP(h:dD)(X:RV)(aa:Int)(W V Q:RV)(M:Sl X)(H:Sl W)(G:Sl V)(F:Sl Q):∃o,TB.Ev 106 (wk++[.r X,.i aa,.r W,.r V,.r Q]) o/\∃v e,o=.ret [.r (aq v),.i e]/\(e≠0->v=[])/\Y v<=1000000/\((e=0/\v=[])<->Hp X aa W V Q):=by
 obtain⟨o,D,v,e,C,B,A,P,N⟩:=awO h X aa W V Q M H G F;exact⟨o,D,v,e,C,B,A,λk=>{toClE:=P.1 k.1,toClN:=(N k.1).1 k.2},λK=>⟨P.2 K.toClE,(N (P.2 K.toClE)).2 K.toClN⟩⟩
end
section
variable{lt:aF->aF->Bool}
def AP(lt:aF->aF->Bool)(l:am):Prop:=l.Pairwise λx y=>lt x y=J
def AP.eq(R:∀x,lt x x=E)(Q:∀x y z,lt x y=J->lt y z=J->lt x z=J):∀{l X:am},AP lt l->AP lt X->l.Perm X->l=X
 |[],X,_,_,h=>(List.Perm.nil_eq h)
 |x::l,[],_,_,h=>(by have:=h.length_eq;simp at this)
 |x::l,y::X,N,M,h=>by
  have P:=aDz.1 N;have O:=aDz.1 M;have L:x=y:=by
   have W:x∈y::X:=h.mem_iff.1 (by simp);have V:y∈x::l:=h.mem_iff.2 (by simp);rcases aDp.1 W with W|W;exact W;rcases aDp.1 V with V|V;exact V.symm;have:=Q _ _ _ (P.1 y V) (O.1 x W);rw[R] at this;cases this
  subst L;rw[AP.eq R Q P.2 O.2 (List.perm_cons x|>.1 h)]
def aou(V:∀x y z,lt x y=J->lt y z=J->lt x z=J){x:aF}:∀{l:am},AP lt l->(∀y∈l,lt x y=J\/lt y x=J)->AP lt (dO lt x l)
 |[],_,_=>aGm _ _
 |y::r,h,R=>by
  have g:=aDz.1 h;simp only[dO];split;rename_i W;refine aDz.2 ⟨λz X=> ?_,h⟩;rcases aDp.1 X with rfl|X;exact W;exact V _ _ _ W (g.1 z X);rename_i W;have Q:lt y x=true:=(R y (by simp)).resolve_left W;refine aDz.2 ⟨λz X=> ?_,aou V g.2 λz X=>R z (by simp[X])⟩;rcases QC.1 X with rfl|X;exact Q;exact g.1 z X
def aov(W:∀x y z,lt x y=J->lt y z=J->lt x z=J):∀(l acc:am),AP lt acc->(∀x∈l,∀y∈acc,lt x y=J\/lt y x=J)->l.Pairwise (λx y=>lt x y=J\/lt y x=J)->AP lt (l.foldl (λacc x=>dO lt x acc) acc)
 |[],acc,h,_,_=>h
 |x::l,acc,h,V,Q=>by
  have g:=aDz.1 Q;refine aov W l _ (aou W h λy X=>V x (by simp) y X) (λz R y X=> ?_) g.2;rcases QC.1 X with rfl|X;exact(g.1 z R).symm;exact V z (by simp[R]) y X
def aow(X:∀x y z,lt x y=J->lt y z=J->lt x z=J)(h:W.Pairwise (λx y=>lt x y=J\/lt y x=J)):AP lt (bD lt W):=aov X W [] aD6 (by simp) h
def aox(Q:∀x,lt x x=E)(V:∀x y z,lt x y=J->lt y z=J->lt x z=J){X:am}(R:X.Perm W)(h:W.Pairwise (λx y=>lt x y=J\/lt y x=J)):bD lt X=bD lt W:=by
 have P:X.Pairwise (λx y=>lt x y=J\/lt y x=J):=(R.symm.pairwise_iff (λ{x y} h=>h.symm)).1 h;exact AP.eq Q V (aow V P) (aow V h) (((yR X).trans R).trans (yR W).symm)
end
def aeX(d:Bool):∀(X:aj)(x:aF),gX d X x x=E
 |[],_=>rfl
 |c::X,x=>by simp[gX,aeX d X x]
def aeY(d:Bool):∀(Q:aj)(x y z:aF),gX d Q x y=J->gX d Q y z=J->gX d Q x z=J
 |[],_,_,_,h,_=>by simp[gX] at h
 |c::Q,x,y,z,V,X=>by
  simp only[gX] at V X⊢;by_cases R:ax c x=ax c y;by_cases W:ax c y=ax c z;rw[if_pos R] at V;rw[if_pos W] at X;rw[if_pos (R.trans W)];exact aeY d Q x y z V X;rw[if_neg W] at X;rw[if_neg (by rw[R];exact W),R];exact X;rw[if_neg R] at V;by_cases W:ax c y=ax c z;rw[if_neg (by rw[<-W];exact R),<-W];exact V;rw[if_neg W] at X;cases d;simp at V X;rw[if_neg (by omega)];simp;omega;simp at V X;rw[if_neg (by omega)];simp;omega
def aeZ(d:Bool):∀(X:aj)(x y:aF),(∃c∈X,ax c x≠ax c y)->gX d X x y=J\/gX d X y x=J
 |[],_,_,⟨_,h,_⟩=>by cases h
 |c::X,x,y,h=>by
  simp only[gX];by_cases e:ax c x=ax c y;rw[if_pos e,if_pos e.symm];obtain⟨R,W,V⟩:=h;rcases aDp.1 W with rfl|W;exact absurd e V;exact aeZ d X x y ⟨R,W,V⟩;clear h;have Q:¬ax c y=ax c x:=λP=>e P.symm
  rw[if_neg e,if_neg Q];cases d<;>simp<;>omega
def yV(X:aj)(W:am):Prop:=W.Pairwise λx y=>∃c∈X,ax c x≠ax c y
def aoy{X:aj}{d:Bool}:∀{W:am},yV X W->sn (be.lex X d).lt W=J
 |[],_=>rfl
 |x::r,h=>by
  have g:=aDz.1 h;simp only[sn,aDc,aDr,aDE];exact⟨λy V=>aeZ d X x y (g.1 y V),aoy g.2⟩
def aoz{X:aj}{d R:Bool}{aC:am}(Q:Y W<=1099511627776)(h:yV X W)(V:aC.Perm W):fU (.lex X d) R aC=U (bD (be.lex X d).lt W):=by
 have P:yV X aC:=(V.symm.pairwise_iff (λ{x y} h=>by obtain⟨c,O,N⟩:=h;exact⟨c,O,λe=>N e.symm⟩)).1 h;have M:Y aC<=1099511627776:=by rw[V.length_eq];exact Q
 simp only[fU];rw[if_pos (by simp[M,aoy P,be.ok])];exact congrArg U (aox (aeX d X) (aeY d X) V (h.imp λL=>aeZ d X _ _ L))
def awQ(n:Nat)(X:aF)(m:am):di n X m≠[]:=by
 cases m with
 |nil=>simp[di]
 |cons r W=>simp only[di];split<;>simp
def rO(n:Nat)(X:aF):∀m:am,(di n X m).length<=Y m+1
 |[]=>by simp[di]
 |r::W=>by
  have:=rO n X W;simp only[di];split<;>simp<;>omega
def Wq{n:Nat}{X y:aF}:∀{m:am},y∈di n X m->y=X\/y∈m
 |[],h=>by simp[di] at h;exact .inl h
 |r::W,h=>by
  simp only[di] at h;split at h;rcases aDp.1 h with h|h;exact .inl h;exact .inr (by simp[h]);rcases aDp.1 h with h|h;exact .inr (by simp[h]);rcases Wq h with h|h;exact .inl h;exact .inr (by simp[h])
def aoA{X r:aF}(W:Y X=4)(V:Y r=4):iB 3 ((X.take 3).map λc=>aO c.val) r=J<->∀c∈[0,1,2],ax c r=ax c X:=by
 match X,W,r,V with
 |[a,b,c,d],_,[R,Q,P,O],_=>simp[iB,ax]
structure gK(m:am):Prop where
 keys:yV [0,1,2] m
 four:∀x∈m,Y x=4
def gK.nil:gK []:=⟨aD6,by simp⟩
def gK.ins{O:aF}(R:Y O=4):∀{m:am},gK m->gK (di 3 O m)
 |[],_=>⟨by simp[di,yV],by simp[di,R]⟩
 |r::M,h=>by
  have g:=aDz.1 h.keys;have bI:gK M:=⟨g.2,λx X=>h.four x (by simp[X])⟩;have L:=gK.ins R bI;have N:=aoA R (h.four r (by simp));refine⟨?_,λx X=> ?_⟩;simp only[di];split;rename_i W;have W:=N.1 W;refine aDz.2 ⟨λy V=> ?_,g.2⟩;obtain⟨c,Q,P⟩:=g.1 y V;exact⟨c,Q,by rw[<-W c Q];exact P⟩;rename_i W;refine aDz.2 ⟨λy V=> ?_,L.keys⟩;rcases Wq V with rfl|V;have:¬∀c∈[0,1,2],ax c r=ax c y:=λH=>W (N.2 H)
  simp only[Classical.not_forall] at this;obtain⟨c,Q,P⟩:=this;exact⟨c,Q,P⟩;exact g.1 y V;rcases Wq X with rfl|X;exact R;exact h.four x X
section
variable{R:bn->Prop}{G:aR}{t:T}{O:ac}{L:dK}
variable[Inhabited dl]
@[simp] def aC4 (v:RV) (X W V Q P N M H F D C B A z y x:Int):fD TB.Ev R 75 [.r (cT .str v),.i X,.i W,.i V,.i Q,.i P,.i N,.i M,.i H,.i F,.i D,.i C,.i B,.i A,.i z,.i y,.i x] G t O L=fP TB.Ev R (.ret [.i (AN (cT .str v) X W V Q P N M H F D C B A z y x)]) G t O L:=CF _ (rN v) X W V Q P N M H F D C B A z y x
def CG(X W V Q P N M H G F D C B:Int)(s:RV)(A z y x w v u q p o n m l j h g:Int)(k:Nat):Int:=oi 27 [.i X,.i W,.i V,.i Q,.i P,.i N,.i M,.i H,.i G,.i F,.i D,.i C,.i B,.r s,.i A,.i z,.i y,.i x,.i w,.i v,.i u,.i q,.i p,.i o,.i n,.i m,.i l,.i j,.i h,.i g] k
@[simp] def c27 (X W V Q P N M H F D C B A:Int) (v:RV) (z y x w u s q p o n m l k j h g:Int):fD TB.Ev R 27 [.i X,.i W,.i V,.i Q,.i P,.i N,.i M,.i H,.i F,.i D,.i C,.i B,.i A,.r (cT .str v),.i z,.i y,.i x,.i w,.i u,.i s,.i q,.i p,.i o,.i n,.i m,.i l,.i k,.i j,.i h,.i g] G t O L=fP TB.Ev R (.ret [.i (CG X W V Q P N M H F D C B A (cT .str v) z y x w u s q p o n m l k j h g 0),.i (CG X W V Q P N M H F D C B A (cT .str v) z y x w u s q p o n m l k j h g 1),.i (CG X W V Q P N M H F D C B A (cT .str v) z y x w u s q p o n m l k j h g 2),.i (CG X W V Q P N M H F D C B A (cT .str v) z y x w u s q p o n m l k j h g 3),.i (CG X W V Q P N M H F D C B A (cT .str v) z y x w u s q p o n m l k j h g 4)]) G t O L:=bp (jP (kI 5) (t27 X W V Q P N M H F D C B A _ (rN v) z y x w u s q p o n m l k j h g))
def Hq(X:RV)(i:Nat):Int:=AN (cT .str (cellAt X.rows (i:Int) 0)) (ci X i 1) (ci X i 2) (ci X i 3) (ci X i 4) (ci X i 5) (ci X i 6) (ci X i 7) (ci X i 8) (ci X i 9) (ci X i 10) (ci X i 11) (ci X i 12) (ci X i 13) (ci X i 14) (ci X i 15) (ci X i 16)
def tL(v:RV)(i:Nat):Int:=CE (ci v i 0) (ci v i 1) (ci v i 2) (ci v i 3) (ci v i 4) (ci v i 5) (ci v i 6) (ci v i 7) (ci v i 8) (ci v i 9) (ci v i 10) (ci v i 11) (ci v i 12)
def cd(v X:RV)(i k:Nat):Int:=CG (ci v i 0) (ci v i 1) (ci v i 2) (ci v i 3) (ci v i 4) (ci v i 5) (ci v i 6) (ci v i 7) (ci v i 8) (ci v i 9) (ci v i 10) (ci v i 11) (ci v i 12) (cT .str (cellAt X.rows (i:Int) 0)) (ci X i 1) (ci X i 2) (ci X i 3) (ci X i 4) (ci X i 5) (ci X i 6) (ci X i 7) (ci X i 8) (ci X i 9) (ci X i 10) (ci X i 11) (ci X i 12) (ci X i 13) (ci X i 14) (ci X i 15) (ci X i 16) k
def CH(aa:Int)(X:RV)(i:Nat):Int:=oi 85 (wk++[.i i,.i aa,.r (cr 96 X i)]) 0
def pI(aa:Int)(X W:RV)(i k:Nat):Int:=oi 89 (wk++[.i i,.i aa,.i (ci X i 0),.i (ci X i 1),.i (ci X i 2),.i (ci X i 3),.i (ci X i 4),.i (ci X i 5),.i (ci X i 6),.i (ci X i 7),.i (ci X i 8),.i (ci X i 9),.i (ci X i 10),.i (ci X i 11),.i (ci X i 12),.r (cr 96 W i)]) k
def qE(aa:Int)(W X V:RV)(i k:Nat):Int:=oi 90 (wk++[.i i,.i aa,.i (ci W i 0),.i (ci W i 1),.i (ci W i 2),.i (ci W i 3),.i (ci W i 4),.i (ci W i 5),.i (ci W i 6),.i (ci W i 7),.i (ci W i 8),.i (ci W i 9),.i (ci W i 10),.i (ci W i 11),.i (ci W i 12),.r (cT .str (cellAt X.rows (i:Int) 0)),.i (ci X i 1),.i (ci X i 2),.i (ci X i 3),.i (ci X i 4),.i (ci X i 5),.i (ci X i 6),.i (ci X i 7),.i (ci X i 8),.i (ci X i 9),.i (ci X i 10),.i (ci X i 11),.i (ci X i 12),.i (ci X i 13),.i (ci X i 14),.i (ci X i 15),.i (ci X i 16),.r (cr 96 V i)]) k
def gS(aa:Int)(W X V:RV)(i k:Nat):Int:=if cb W i 0 then pI aa X V i k else ci X i k
def gB(aa:Int)(V X W Q:RV)(i k:Nat):Int:=if cb V i 0 then qE aa X W Q i k else cd X W i k
structure AQ(ak wg bd mv bf af re bx:RV):Prop where
 wg:Sl wg
 bd:Sl bd
 mv:Sl mv
 bf:Sl bf
 af:Sl af
 ET:Sl re
 bx:Sl bx
 fG:∀i<Y re.rows,Sl (cr 96 re i)/\(cr 96 re i).rows.length<=100
structure Lg(aa:Int)(wg bd mv bf af re bx:RV):Prop where
 wk:gP=0
 nw:Y wg.rows<=8
 br:0<=aa/\aa<dg
 AR:Y af.rows=Y ak.rows
 EU:Y bx.rows=Y ak.rows
 lQ:Y bd.rows=Y ak.rows
 tM:Y mv.rows=Y ak.rows
 pJ:Y bf.rows=Y ak.rows
 lB:Y re.rows=Y ak.rows
 eI:∀i<Y ak.rows,Hq bd i=0/\tL bf i=0/\(if cb mv i 0 then CH aa re i=0 else(cr 96 re i).rows=[])
 box:∀i<Y ak.rows,vB bx i=J/\tL af i=0
 EQ:∀g<Y wg.rows,jQ (ci wg g) aa 4=0
def iw(aa:Int)(Q X W V:RV)(i:Nat):Prop:=if cb Q i 0 then pI aa X V i 13=0/\qE aa X W V i 4=0 else cd X W i 4=0
def Wr(v:RV)(id:Int)(m:Nat):Prop:=m<Y v.rows/\ci v m 0=id/\∀X<m,ci v X 0≠id
def EV(X:RV)(id:Int)(i:Nat):aW:=out 78 (wk++[.i id,.r (cT .str (cellAt X.rows (i:Int) 0)),.i (ci X i 1),.i (ci X i 2),.i (ci X i 3),.i (ci X i 4),.i (ci X i 5),.i (ci X i 6),.i (ci X i 7),.i (ci X i 8),.i (ci X i 9),.i (ci X i 10),.i (ci X i 11),.i (ci X i 12),.i (ci X i 13),.i (ci X i 14),.i (ci X i 15),.i (ci X i 16)])
def Lh(aa:Int)(X W V Q P:RV)(c:Nat->Int):Bool:=ob 103 (wk++[.i aa,.r X,.r W,.r V,.r Q,.r P]++iX c) 0
def OT(aa:Int)(W V Q P X N:RV)(i k:Nat):Prop:=∀m,Wr (cr 96 X i) (bm (cj i aa) k 0) m->
 xi (EV W (bm (cj i aa) k 0) i) 1=0/\
 ob 102 [.r (xr (EV W (bm (cj i aa) k 0) i) 0),.i (ci (cr 96 X i) m 0),.i (ci (cr 96 X i) m 1),.i (ci (cr 96 X i) m 2),.b (cb (cr 96 X i) m 3)] 0=J/\
 (bm (cj i aa) k 4=7\/bm (cj i aa) k 4=8->cb (cr 96 X i) m 3=J\/Lh aa V Q P X N (bm (cj i aa) k)=J)
def wZ(aa:Int)(X W V:RV)(i:Nat):aW:=out 104 (wk++[.i i,.i aa,.i (ci X i 0),.i (ci X i 1),.i (ci X i 2),.i (ci X i 3),.i (ci X i 4),.i (ci X i 5),.i (ci X i 6),.i (ci X i 7),.i (ci X i 8),.i (ci X i 9),.i (ci X i 10),.i (ci X i 11),.i (ci X i 12),.r W,.r (cr 96 V i)])
structure Ht(aa:Int)(bd mv bf af re bx:RV)(i:Nat):Prop where
 eN:∀j<13,ci af i j=gS aa mv bf re i j
 inb:bF (gB aa mv bf bd re i 0) (gB aa mv bf bd re i 1) (gB aa mv bf bd re i 2) (gB aa mv bf bd re i 3)=J/\vB bx i=J
 ins:oO (gB aa mv bf bd re i 0) (gB aa mv bf bd re i 1) (gB aa mv bf bd re i 2) (gB aa mv bf bd re i 3) (ci bx i 0) (ci bx i 1) (ci bx i 2) (ci bx i 3)=J
 AL:cb mv i 0=J->(∀k<(cj i aa).length,OT aa bd mv bf af re bx i k)/\xi (wZ aa bf bd re i) 1=0/\(xr (wZ aa bf bd re i) 0).rows=[]
def oQ(aa:Int):aW:=out 23 (wk++[.i aa])
def mA(v X:RV):Nat->am
 |0=>[]
 |i+1=>mA v X i++[[.mk (.int I (cd v X i 0)) [],.mk (.int I (cd v X i 1)) [],.mk (.int I (cd v X i 2)) [],.mk (.int I (cd v X i 3)) []]]
def vk(v X:RV)(i k:Nat):Bool:=bF (cd v X i 0) (cd v X i 1) (cd v X i 2) (cd v X i 3)&&bF (cd v X k 0) (cd v X k 1) (cd v X k 2) (cd v X k 3)&&oN (cd v X i 0) (cd v X i 1) (cd v X i 2) (cd v X i 3) (cd v X k 0) (cd v X k 1) (cd v X k 2) (cd v X k 3)
structure CI(aa:Int)(wg bd mv bf af re bx:RV):Prop where
 ex:Lg aa wg bd mv bf af re bx
 tN:∀i<Y ak.rows,iw aa mv bf bd re i
 ro:∀i<Y ak.rows,Ht aa bd mv bf af re bx i
 Le:xi (oQ aa) 1=0
 st1:∀i<Y ak.rows,cd bf bd i 4=0
 st2:∀i<Y ak.rows,cd af bd i 4=0
 cl:Hp wg aa bx (aq (mA bf bd (Y ak.rows))) (xr (oQ aa) 0)
 eC:∀p<(xr (oQ aa) 0).rows.length,vk bf bd (ci (xr (oQ aa) 0) p 0).toNat (ci (xr (oQ aa) 0) p 1).toNat=J/\vk af bd (ci (xr (oQ aa) 0) p 0).toNat (ci (xr (oQ aa) 0) p 1).toNat=J
def Ws:Prop:=∀(_:dD)(aS aa:Int)(x:Nat->Int)(X r:RV)(_:Sl X)(_:Sl r),∃o,TB.Ev 104 (wk++[.i aS,.i aa,.i (x 0),.i (x 1),.i (x 2),.i (x 3),.i (x 4),.i (x 5),.i (x 6),.i (x 7),.i (x 8),.i (x 9),.i (x 10),.i (x 11),.i (x 12),.r X,.r r]) o/\∃v e,o=.ret [.r (aq v),.i e]/\Y v<=100000
def qF{V:aF}{j:Nat}(h:Y W=X):cellAt (W++[V]) (X:Int) j=V.getD j default:=by
 subst h;simp[cellAt]
def tO{w:am}{j:Nat}(h:X<Y W):cellAt (W++w) (X:Int) j=cellAt W (X:Int) j:=by
 simp[cellAt,aDg h]
def AS{V:aF}{Q:Prop}(h:¬Q):di X V W=[]<->Q:=⟨λe=>absurd e (awQ X V W),λq=>absurd q h⟩
def awR{P:Nat->Prop}:(∀k<X+1,P k)<->(∀k<X,P k)/\P X:=⟨λh=>⟨λk W=>h k (by omega),h X (by omega)⟩,λh=>qD h.1 h.2⟩
def EW{a b:Bool}(h:a=J->b=E):¬(a=J/\b=J):=by cases a<;>cases b<;>simp_all
def aoB{a b:Bool}(h:¬(a=J->b=E)):a=J/\b=true:=by cases a<;>cases b<;>simp_all
def awS{a b c:Bool}(h:¬(a=J->b=E))(X:(a=E\/b=E)\/c=E):¬c=true:=by cases a<;>cases b<;>cases c<;>simp_all
def awT{a b c:Bool}(h:¬(a=J->b=E))(X:¬((a=E\/b=E)\/c=E)):c=true:=by cases a<;>cases b<;>cases c<;>simp_all
def awU{P:Nat->Prop}(X:P 0)(W:P 1)(V:P 2)(Q:P 3)(N:P 4)(M:P 5)(H:P 6)(G:P 7)(F:P 8)(D:P 9)(C:P 10)(B:P 11)(A:P 12):∀j<13,P j:=λj z=>by
 match j,z with
 |0,_=>exact X
 |1,_=>exact W
 |2,_=>exact V
 |3,_=>exact Q
 |4,_=>exact N
 |5,_=>exact M
 |6,_=>exact H
 |7,_=>exact G
 |8,_=>exact F
 |9,_=>exact D
 |10,_=>exact C
 |11,_=>exact B
 |12,_=>exact A
def CJ(v X:RV):∀i,(mA v X i).length=i
 |0=>rfl
 |i+1=>by simp[mA,CJ v X i]
def aoC(v X:RV){k:Nat}:∀{i},k<i->(mA v X i)[k]?=U [.mk (.int I (cd v X k 0)) [],.mk (.int I (cd v X k 1)) [],.mk (.int I (cd v X k 2)) [],.mk (.int I (cd v X k 3)) []]
 |0,h=>by omega
 |i+1,h=>by
  by_cases W:k=i;subst W;rw[mA,aDk (by rw[CJ];omega),CJ];simp;rw[mA,aDg (by rw[CJ];omega)];exact aoC v X (by omega)
def og(v X:RV){n:Nat}{z:Int}(h:z.toNat<n)(j:Nat)(W:j<4):aO (cellAt (mA v X n) z j).val=cd v X z.toNat j:=by
 simp only[cellAt,aDf,aoC v X h]
 match j,W with
 |0,_|1,_|2,_|3,_=>rfl
end
def T.at:aj->T->T
 |[],t=>t
 |0::p,.node _ t _=>t.at p
 |_::p,.node _ _ f=>f.at p
 |_::p,.aV _ t=>t.at p
 |_::p,.call _ _ _ _ _ _ t=>t.at p
 |_::p,.loop _ _ _ t=>t.at p
 |_::p,.new _ _ _ _ t=>t.at p
 |_::p,.rows _ _ _ t=>t.at p
 |0::p,.fA _ _ t _=>t.at p
 |_::p,.fA _ _ _ f=>f.at p
 |0::p,.pick _ _ _ t _=>t.at p
 |_::p,.pick _ _ _ _ f=>f.at p
 |_::p,.dw _ _ _ _ _ _ _ t=>t.at p
 |_,t=>t
section
variable[Inhabited dl]
section
def rP(x:aF):aF:=[iV (ax 0 x),iV (ax 1 x),iV (ax 2 x)]
def ky(js:aj):am:=js.map λ(j:Nat)=>[iV (j:Int)]
def OU(js:aj):(ky js).length=Y js:=by simp[ky]
def Wt{js:aj}{j:Nat}:(fJ 1 [(j:Int),0,0] (ky js)).isSome=decide (j∈js):=by
 induction js with
 |nil=>rfl
 |cons a l X=>
  simp only[ky,aDt,fJ,aEN] at X⊢;by_cases h:a=j;subst h;simp[iB,iV,aO];have W:¬j=a:=λe=>h e.symm
  have:iB 1 [(j:Int),0,0] [iV a]=false:=by simp[iB,iV,aO];omega
  rw[this];simp only[X,aDp,W,false_or]
def aoD{js:aj}{j:Nat}(h:j∉js):di 1 [iV j] (ky js)=ky (js++[j]):=by
 induction js with
 |nil=>rfl
 |cons a l X=>
  simp only[aDp,not_or] at h;have:¬iB 1 (([iV j].take 1).map λc=>aO c.val) [iV a]=true:=by simp[iB,iV,aO];omega
  simp only[ky,aDt,di,aDi] at X⊢;rw[if_neg this,X h.2]
def OV{X:Type}[DecidableEq X]:∀{a b:List X},a.Nodup->(∀x∈a,x∈b)->Y a<=Y b
 |[],_,_,_=>aD0 _
 |x::a,b,Q,W=>by
  have g:=aE5.1 Q;have V:x∈b:=W x (by simp);have:=OV (a:=a) (b:=b.erase x) g.2 λy R=>(aFV (λe=>g.1 (by rw[<-e];exact R))).2 (W y (by simp[R]))
  rw[aFE V] at this;have P:0<Y b:=aGu V;simp only[aD4];omega
def aoE{W:Type}[DecidableEq W]:∀{a b:List W},a.Nodup->(∀x∈a,x∈b)->Y b<=Y a->a.Perm b
 |[],b,_,_,X=>by
  have:b=[]:=aDT.1 (Nat.le_zero.1 X);rw[this]
 |x::a,b,P,V,X=>by
  have g:=aE5.1 P;have R:x∈b:=V x (by simp);have:=aoE (a:=a) (b:=b.erase x) g.2 (λy Q=>(aFV (λe=>g.1 (by rw[<-e];exact Q))).2 (V y (by simp[Q]))) (by rw[aFE R];simp only[aD4] at X;omega);exact(this.cons x).trans (List.perm_cons_erase R).symm
structure Pk(n:Nat)(js:aj):Prop where
 nd:js.Nodup
 lt:∀j∈js,j<n
def Pk.nil(n:Nat):Pk n []:=⟨List.nodup_nil,by simp⟩
def Pk.add{j:Nat}{js:aj}(h:Pk X js)(R:j∉js)(P:j<X):Pk X (js++[j]):=⟨aEi.2 ⟨h.nd,by simp,by intro a Q b V e;simp at V;subst V;subst e;exact R Q⟩,by
 intro k W;rcases aDo.1 W with W|W;exact h.lt k W;simp at W;omega⟩
def Pk.len{js:aj}(h:Pk X js):Y js<=X:=by
 have:=OV (b:=aDA X) h.nd λj W=>aEd.2 (h.lt j W)
 simpa using this
def Pk.perm{js:aj}(h:Pk X js)(W:X<=Y js):js.Perm (aDA X):=aoE h.nd (λj V=>aEd.2 (h.lt j V)) (by simpa using W)
def Pk.more{js:aj}(Q:¬X<=Y js):∃j<X,j∉js:=by
 apply Classical.byContradiction;intro W;have:∀x∈aDA X,x∈js:=λx V=>Classical.byContradiction λR=>W ⟨x,aEd.1 V,R⟩
 have:=OV List.nodup_range this;simp at this;omega
def Hu(M:am)(js:aj):am:=js.map λj=>rP (M.getD j [])
def aoF(M:am)(js:aj):(Hu M js).length=Y js:=by simp[Hu]
def awV(M:am):(aDA (Y M)).map (λj=>rP (M.getD j []))=M.map rP:=by
 apply List.ext_getElem;simp;intro i X W;simp at X;simp[X]
def awW{js:aj}(h:Pk (Y W) js)(X:Y W<=Y js):(Hu W js).Perm (W.map rP):=by
 rw[<-awV];exact(h.perm X).map _
def aoG{x:aF}:∀c∈[0,1,2],ax c (rP x)=ax c x:=by
 intro c X;simp at X;rcases X with rfl|rfl|rfl<;>simp[rP,ax,iV,aO]
def yV.awX(h:yV [0,1,2] W):yV [0,1,2] (W.map rP):=by
 refine aFq.2 (h.imp λ{x y} V=> ?_);obtain⟨c,X,R⟩:=V;exact⟨c,X,by rw[aoG c X,aoG c X];exact R⟩
def OW(M:am):am:=(bD (be.lex [0,1,2] E).lt (M.map rP)).map rP
def awY:OW W=[]<->W=[]:=by
 rw[OW,List.map_eq_nil_iff];constructor;intro h;have:=(yR (lt:=(be.lex [0,1,2] E).lt) (W.map rP)).length_eq;rw[h] at this;simp at this;exact aDT.1 this.symm;rintro rfl;rfl
end
section
variable{L:dK}
def aoH:aj:=[0,1,1,0,0,0,1,0,0,0,1,0,1,0,1,0,1,0,0,0,1,0,1,0,1,0,1,0,1,0,0,0,1,0,1,0,1]
set_option maxHeartbeats 8000000 in
def awZ (R:bn->Prop) (G D C B A z y x w u t s q p n m l g f:Int) (e d c a r4 r5 r6 r7 r8 r9 ab af ag al an ap a0 a1 a2 a3 a4 a5 a6:RV) (M:am) (a7:gK M) (hl:Y M<=536870912) (hR:R (.ret [.r (aq (OW M)),.i 0])):
  T.wp TB.Ev R (nx.at aoH) ⟨[G,D,C,B,A,z,y,x,w,u,t,s,q,p,n,m,l,g,f],[],[e,d,c,a,r4,r5,r6,r7,r8,r9,ab,af,ag,al,an,ap,a0,a1,a2,a3,a4,a5,a6,aq M],[]⟩ L:=by
 rw[show nx.at aoH=T.loop _ _ _ _ from rfl];refine anU (· =.ret [.r (aq (OW M)),.i 0]) (λo h=>h▸hR) (λQ=>∃js,Q=[.r (aq (Hu M js)),.r (aq (ky js))]/\Pk (Y M) js) (λQ=>match Q with|[_,.r v]=>Y M-Y v.rows|_=>0) ⟨[],rfl,Pk.nil _⟩ ?_;rintro _ ⟨js,rfl,V⟩;have bd:=V.len;rw[anT];refine⟨single ?_, ?_, ?_, ?_⟩;exact Jf _;by_cases hn:Y M<=Y js;exact aFF (Z5 (by simp[OU];omega));obtain⟨j,X,W⟩:=Pk.more hn;refine aFF (Z4 (j:=(j:Int)) (by omega) (by simp;omega) ?_);simp[Wt,W];intro j h0 X W;obtain⟨j,rfl⟩:∃k:Nat,j=k:=⟨j.toNat,by omega⟩;have X:j<Y M:=by simp at X;omega
 have W:j∉js:=by simp[Wt] at W;exact W
 have P:=OV (b:=aDA (Y M)) (V.add W X).nd λj P=>aEd.2 ((V.add W X).lt j P)
 simp at P;have dU:di 1 [RV.mk (Value.int I (j:Int)) []] (ky js)=ky (js++[j]):=aoD W;have cU:(ky (js++[j])).length=Y js+1:=by simp[ky]
 have cu:ay BinOp.sub I ((Y js:Int)+1) 1=(Y js:Int):=by
  simp only[ay];rw[cQ (by omega) (by omega)];omega
 have bq:aO (cellAt (ky (js++[j])) (Y js:Int) 0).val=(j:Int):=by
  rw[ky,aE3];rw[show aEZ (λ(j:Nat)=>[iV (j:Int)]) [j]=[[iV (j:Int)]] from rfl,qF (by simp)];rfl
 simp[OU,aoF,dU,cu,bq];rw[Cz];refine⟨⟨by omega,X⟩,by omega,⟨js++[j], ?_,V.add W X⟩, ?_⟩;have:Hu M (js++[j])=Hu M js++[rP (M.getD j [])]:=by simp[Hu]
 rw[this];simp[rP,ax,cellAt,iV];simp[aq,ky];omega;intro X;have X:Y M<=Y js:=by simp[OU] at X;omega
 have a8:=awW V X
 first|rw[tE]|rw[tF]
 refine⟨_,aoz (by simp;omega) (yV.awX a7.keys) (by simpa using a8), ?_⟩;generalize O:bD (be.lex [0,1,2] E).lt (M.map rP)=F;have bf:Y F=Y M:=by rw[<-O,(yR _).length_eq];simp
 have a9:=aoF M js;refine bU (Y M) (λi bb=>bb=[.r (aq ((F.take i).map rP))]) ⟨0,rfl,aD0 _,rfl⟩ ?_;rintro i _ N rfl;simp[a9];refine aN (λN=>⟨N,by omega, ?_⟩) (λbg=> ?_);have H:i<Y F:=by omega
 rw[bH (by omega) (by omega),aFJ,aDj,aDe H];simp[rP,ax,cellAt,iV,H];have:Y F<=i:=by omega
 rw[aEp (by simpa using this),OW,O]
end
end
section
variable{R:bn->Prop}{G:aR}{t:T}{O:ac}{L:dK}
def aw0(a b:Int)(h:b≠0):∃o,TB.Ev 371 [.i a,.i b] o/\∃X,o=.ret X/\fq (kI 1) X=true:=by
 refine dX rfl rfl (.inl rfl) ?_;simp[ad0,h]
def aw1(a b:Int)(h:b≠0):fD TB.Ev R 371 [.i a,.i b] G t O L=fP TB.Ev R (.ret [.i (oi 371 [.i a,.i b] 0)]) G t O L:=bp (jP _ (aw0 a b h))
def aw2{b:Int}(h:ke Q b=J):b≠0:=by
 simp[ke] at h;omega
def aw3(a b c:Int):∃o,TB.Ev 354 [.i a,.i b,.i c] o/\∃X,o=.ret X/\fq (kI 3) X=true:=by
 refine dX rfl rfl (.inl rfl) ?_;by_cases h:ke a b=J;simp[VO,h,aw1 _ _ (aw2 h)];simp[VO,h]
@[simp] def aC6 (a b c:Int):fD TB.Ev R 354 [.i a,.i b,.i c] G t O L=fP TB.Ev R (.ret [.i (oi 354 [.i a,.i b,.i c] 0),.i (oi 354 [.i a,.i b,.i c] 1),.i (oi 354 [.i a,.i b,.i c] 2)]) G t O L:=bp (jP _ (aw3 a b c))
def aw4(Q:Int)(X W V:RV)(N:Sl X)(M:Sl W)(H:Sl V)(aa:Int):∃o,TB.Ev 353 [.i Q,.r X,.r W,.r V,.i aa] o/\∃P,o=.ret P/\fq (kI 2) P=true:=by
 refine dX rfl rfl (.inl rfl) ?_;obtain⟨G,F⟩:=iP Q X W V N M H;simp[aeb,bp G];intro D C;rw[anZ Q aa X W V (F D).1 (by first|omega|(simp[gq] at C;omega))];simp
def aw5(Q:Int)(X W V:RV)(P:Sl X)(N:Sl W)(M:Sl V)(aa:Int):fD TB.Ev R 353 [.i Q,.r X,.r W,.r V,.i aa] G t O L=fP TB.Ev R (.ret [.i (oi 353 [.i Q,.r X,.r W,.r V,.i aa] 0),.i (oi 353 [.i Q,.r X,.r W,.r V,.i aa] 1)]) G t O L:=bp (jP _ (aw4 Q X W V P N M aa))
def aw6(Q:Int)(X W V:RV)(N:Sl X)(M:Sl W)(H:Sl V)(aa a b:Int):∃o,TB.Ev 310 [.i Q,.r X,.r W,.r V,.i aa,.i a,.i b] o/\∃P,o=.ret P/\fq (kI 3) P=true:=by
 refine dX rfl rfl (.inl rfl) ?_;simp[aec,aw5 Q X W V N M H aa]
def aw7(Q:Int)(X W V:RV)(P:Sl X)(N:Sl W)(M:Sl V)(aa a b:Int):fD TB.Ev R 310 [.i Q,.r X,.r W,.r V,.i aa,.i a,.i b] G t O L=fP TB.Ev R (.ret [.i (oi 310 [.i Q,.r X,.r W,.r V,.i aa,.i a,.i b] 0),.i (oi 310 [.i Q,.r X,.r W,.r V,.i aa,.i a,.i b] 1),.i (oi 310 [.i Q,.r X,.r W,.r V,.i aa,.i a,.i b] 2)]) G t O L:=bp (jP _ (aw6 Q X W V P N M aa a b))
def aw8(Q:Int)(X W V:RV)(N:Sl X)(M:Sl W)(H:Sl V)(G F D C B A z y x w v u s q:Int):∃o,TB.Ev 249 [.i Q,.r X,.r W,.r V,.i G,.i F,.i D,.i C,.i B,.i A,.i z,.i y,.i x,.i w,.i v,.i u,.i s,.i q] o/\∃P,o=.ret P/\fq (kI 1) P=true:=by
 refine dX rfl rfl (.inl rfl) ?_;simp[aed,aw7 Q X W V N M H]
def ae0(Q:Int)(X W V:RV)(u:Sl X)(s:Sl W)(q:Sl V)(P N M H F D C B A z y x w v:Int):fD TB.Ev R 249 [.i Q,.r X,.r W,.r V,.i P,.i N,.i M,.i H,.i F,.i D,.i C,.i B,.i A,.i z,.i y,.i x,.i w,.i v] G t O L=fP TB.Ev R (.ret [.i (oi 249 [.i Q,.r X,.r W,.r V,.i P,.i N,.i M,.i H,.i F,.i D,.i C,.i B,.i A,.i z,.i y,.i x,.i w,.i v] 0)]) G t O L:=bp (jP _ (aw8 Q X W V u s q P N M H F D C B A z y x w v))
end
section
variable[Inhabited dl]
section
def Wu(id:Int)(m:Nat):aF:=[iV ((m:Int)+1),iV id]
def lR(b:Nat->Bool)(id:Int)(js:aj):am:=(js.filter b).map (Wu id)
def aw9{js:aj}(h:V X=J):lR V Q (js++[X])=lR V Q js++[Wu Q X]:=by simp[lR,aGV,h]
def axa{js:aj}(h:V X=E):lR V Q (js++[X])=lR V Q js:=by simp[lR,aGV,h]
def aoI(b:Nat->Bool)(id:Int)(js:aj):(lR b id js).length<=Y js:=by simp only[lR,aDV];exact List.length_filter_le _ _
def oR(X:RV)(id:Int)(k:Nat):Int:=match fJ 1 [id,0,0] X.rows with
 |U W=>aO (W[k]?.getD default).val
 |none=>0
def Wv(X W V R Q q:Int):Int:=if q=0 then X else if q=1 then W else if q=2 then V else if q=3 then R else if q=4 then Q else 0
def axb(v w:Nat->Int):Int:=max 0 (max (ay .sub I (v 0) (w 0)) (max (ay .sub I 0 (ay .sub I (v 0) (w 0))) (max (ay .sub I (v 1) (w 1)) (max (ay .sub I 0 (ay .sub I (v 1) (w 1))) (max (ay .sub I (v 2) (w 2)) (ay .sub I 0 (ay .sub I (v 2) (w 2))))))))
def spB(dg:Int)(iO jg jh X:RV)(W:Nat)(x:Nat->Int)(V R q d l:Int)(k:Nat):Bool:=decide (ay .mul I (ay .mul I 841 (ci X W (k+9))) (oi 249 ([.i dg,.r iO,.r jg,.r jh]++iX x) 0)<ay .mul I (ay .mul I 1000 (ci X W (k+6))) (axb (oi 248 [.i V,.i R,.i q]) (oi 248 [.i d,.i l,.i q])))
def eE(X:RV)(W:Nat)(V:RV)(x s:Nat->Int):Nat->Bool
 |0=>if x 4=3 then decide (ci X W 12<oR V (x 0) 3) else if x 4=4\/x 4=9 then decide (ci X W 13<oR V (x 0) 3) else if x 4=5 then decide (ci X W 14<oR V (x 0) 3) else E
 |1=>if x 4=3 then spB dg iO jg jh X W x (oR V (x 0) 2) (oR V (x 0) 3) (x 5-1) (Wv (s 3) (s 5) (s 7) (s 9) (s 11) (x 5-1)) (Wv (s 4) (s 6) (s 8) (s 10) (s 12) (x 5-1)) 0 else if x 4=4 then spB dg iO jg jh X W x (oR V (x 0) 2) (oR V (x 0) 3) (x 5+1) (Wv (s 3) (s 5) (s 7) (s 9) (s 11) (x 5+1)) (Wv (s 4) (s 6) (s 8) (s 10) (s 12) (x 5+1)) 1 else if x 4=5 then spB dg iO jg jh X W x (oR V (x 0) 2) (oR V (x 0) 3) 4 (s 11) (s 12) 2 else E
 |2=>if x 4=1 then decide (ci X W 4<x 8) else if x 4=2 then decide (ci X W 5<x 8) else E
 |3=>if x 4=7 then decide (ci X W 2<ci X ((x 9).toNat-1) 1) else E
 |_=>E
def Hv(l:bh)(k:Nat):Int:=l.getD k 0
end
section
structure aoJ(k:Int)(o0:bn)(n i rn:Nat)(bd mp:RV)(rs acc:am)(b:Nat->Bool)(s:bh):Prop where
 ho:vR o0 o0=J
 h:dD
 hb:b=eE bd rn mp (bm rs i) (Hv s)
 hi:i<n
 hn:n<=4096
 bI:Y rs=n
 CL:Y acc<=100000
 oh:rn<Y bd.rows
 bJ:Sl bd
 gC:Y bd.rows=Y ak.rows
 kU:Y ak.rows<=64
 iq:wW (Y ak.rows) dg (bm rs i)
 hk:bm rs i 4=k
structure axc(js:aj)(j:Nat)(z:Int)(b:Nat->Bool)(id:Int):Prop where
 z4:z=0/\j=0\/z=1/\j=1\/z=2/\j=2\/z=3/\j=3
 hlen:Y js<4
 dU:di 1 [RV.mk (Value.int I z) []] (ky js)=ky (js++[j])
 cU:(ky (js++[j])).length=Y js+1
 cu:ay BinOp.sub I ((Y js:Int)+1) 1=(Y js:Int)
 bq:aO (cellAt (ky (js++[j])) (Y js:Int) 0).val=z
 AT:(lR b id js).length<=Y js
 dR:b j=J->lR b id (js++[j])=lR b id js++[Wu id j]
 eu:b j=E->lR b id (js++[j])=lR b id js
def aoK(X:aW):Nat:=match X.reverse with
 |.r v::_=>4-Y v.rows
 |_=>0
def yW(k:Int)(t:T):Prop:=∀{W D A B C aa x8 x9 ab af ag al an ap a0 a1 a2 a3 a4 a5 a6 a7 a8 a9 bb bf bg bk bl bo br bs bt bx b0 b1 R Q P O N M H G F z y x w b2:Int}{X:Nat->aW->Prop}{L:dK}{re:RV}{v:bn}{u s q p o m l j h g f e d:Int}{n i c:Nat}{a mp:RV}{V acc:am}{b:Nat->Bool},aoJ k v n i c a mp V acc b [R,Q,P,O,N,M,H,G,F,z,y,x,w]->(∀js,js.Perm (aDA 4)->X (i+1) [.i u,.i s,.i q,.i p,.i o,.i m,.i l,.i j,.i h,.i g,.i f,.i e,.i d,.r (aq (acc++lR b (bm V i 0) js))])->T.wp TB.Ev (· =v) t (⟨[W,D,A,B,C,dg,(c:Int),aa,x8,x9,ab,af,ag,al,an,ap,a0,a1,a2,a3,a4,a5,a6,a7,a8,a9,bb,bf,bg,bk,bl,bo,br,bs,bt,bx,b0,b1,(i:Int),R,Q,P,O,N,M,H,G,F,z,y,x,w,u,s,q,p,o,m,l,j,h,g,f,e,d,b2],[],[ak,iO,jg,jh,aP,a,re,mp,aq V,aq acc],[]⟩:ac) (⟨2,wU n X,vg n,n-i⟩::L)
def AU(k:Int)(t:T):Prop:=∀{W D A B C aa x8 x9 ag al an ap a0 a1 a2 a3 a4 a5 a6 a7 a8 a9 bb bf bg bk bl bo br bs bt bx b0 b1 b2 b3 q p o l h g f e d c a ab af b4:Int}{X:Nat->aW->Prop}{L:dK}{re:RV}{o0:bn}{Q P O N H G F y x w v u s:Int}{n i rn:Nat}{bd mp:RV}{R acc:am}{b:Nat->Bool},aoJ k o0 n i rn bd mp R acc b [q,p,o,l,h,g,f,e,d,c,a,ab,af]->∀{js:aj}{j:Nat}{z:Int}{V:aW->Prop}{μ:aW->Nat}{m:Nat},axc js j z b (bm R i 0)->(∀M,M=[.i Q,.i P,.i O,.i N,.i H,.i G,.i F,.i y,.i x,.i w,.i v,.i u,.i s,.r (aq (acc++lR b (bm R i 0) (js++[j]))),.r (aq (ky (js++[j])))]->OO (U ⟨3,V,μ,m⟩) M)->T.wp TB.Ev (· =o0) t (((⟨[W,D,A,B,C,dg,(rn:Int),aa,x8,x9,ag,al,an,ap,a0,a1,a2,a3,a4,a5,a6,a7,a8,a9,bb,bf,bg,bk,bl,bo,br,bs,bt,bx,b0,b1,b2,b3,(i:Int),q,p,o,l,h,g,f,e,d,c,a,ab,af,Q,P,O,N,H,G,F,y,x,w,v,u,s,b4],[],[ak,iO,jg,jh,aP,bd,re,mp,aq R,aq acc],[]⟩:ac).ext [.i Q,.i P,.i O,.i N,.i H,.i G,.i F,.i y,.i x,.i w,.i v,.i u,.i s,.r (aq (acc++lR b (bm R i 0) js)),.r (aq (ky js))]).add (.i z)) (⟨3,V,μ,m⟩::⟨2,wU n X,vg n,n-i⟩::L)
def yX(t:T):T:=match dW.at [0,1,0,0,1,0,1,0,0,0,0,0,0,0,0,1,0] with
 |.loop a b c (.pick d e f _ g)=>.loop a b c (.pick d e f t g)
 |x=>x
set_option maxHeartbeats 8000000 in
def CM {t:T} (N:AU Q t):yW Q (yX t):=by
 unfold yW;intros;rename_i M L H G F D C B A y x w v n i m l h u acc b R s;rw[show yX t=T.loop _ _ _ (T.pick _ _ _ t _) from rfl];refine CA (λq=>∃js,q=[.i M,.i L,.i H,.i G,.i F,.i D,.i C,.i B,.i A,.i y,.i x,.i w,.i v,.r (aq (acc++lR b (bm u i 0) js)),.r (aq (ky js))]/\Pk 4 js) aoK ⟨[],by simp[lR,ky],Pk.nil _⟩ ?_;rintro _ ⟨js,rfl,V⟩;have g:=V.len;rw[anT];refine⟨single R.ho, ?_, ?_, ?_⟩;by_cases p:4<=Y js;exact aFF (Z5 (by simp[OU];omega));obtain⟨j,X,W⟩:=Pk.more p;refine aFF (Z4 (j:=(j:Int)) (by omega) (by simp;omega) ?_);simp[Wt,W];intro z f X W;obtain⟨j,P⟩:∃Q:Nat,(Q:Int)=z:=⟨z.toNat,by omega⟩;have X:j<4:=by simp at X;omega
 have W:j∉js:=by rw[<-P] at W;simp[Wt] at W;exact W
 have O:=OV (b:=aDA 4) (V.add W X).nd λj O=>aEd.2 ((V.add W X).lt j O)
 simp at O;refine N (js:=js) (j:=j) (z:=z) R ⟨by omega,by omega,by rw[<-P];exact aoD W,by simp[ky],by simp only[ay];rw[cQ (by omega) (by omega)];omega, ?_,aoI _ _ _,aw9,axa⟩ ?_;rw[<-P,ky,aE3];rw[show aEZ (λ(j:Nat)=>[iV (j:Int)]) [j]=[[iV (j:Int)]] from rfl,qF (by simp)];rfl;rintro _ rfl;rw[Cz];exact⟨⟨_,rfl,V.add W X⟩,by simp[aoK,aq,ky];omega⟩;intro X;have X:4<=Y js:=by simp[OU] at X;omega
 have o:=V.perm X;simp[bH R.hi (show n<=140737488355328 by have:=R.hn;omega)];exact s js o
set_option maxHeartbeats 8000000 in
def br1:yW 1 (dW.at [0,1,0,0,1,0,1,0,0,0,0,0,0,0,0,1,0]):=by
 rw[show dW.at [0,1,0,0,1,0,1,0,0,0,0,0,0,0,0,1,0]=yX (dW.at [0,1,0,0,1,0,1,0,0,0,0,0,0,0,0,1,0,0,0]) from rfl];refine CM ?_;rw[show dW.at [0,1,0,0,1,0,1,0,0,0,0,0,0,0,0,1,0,0,0]=T.rows _ _ _ _ from rfl];unfold AU;intros;rename_i n i N M L Q acc b P js j z _ _ _ O X;obtain⟨H,h,W,G,F,bI,CL,oh,bJ,gC,kU,iq,V⟩:=P;obtain⟨D,C,dU,cU,cu,bq,AT,dR,eu⟩:=O;have B:(i:Int)<Y Q:=by omega
 rcases(show z=0/\j=0\/z=1/\j=1\/z=2/\j=2\/z=3/\j=3 by omega) with⟨rfl,rfl⟩|⟨rfl,rfl⟩|⟨rfl,rfl⟩|⟨rfl,rfl⟩;have e:b 0=false:=by rw[W];simp[eE,V]
 simp[dU,cu,bq,cU];exact⟨by omega,X _ (by rw[eu e])⟩;have e:b 1=false:=by rw[W];simp[eE,V]
 simp[dU,cu,bq,cU];exact⟨by omega,X _ (by rw[eu e])⟩;simp[dU,cu,bq,cU];refine⟨by omega, ?_⟩;refine aN (λR=>⟨by omega,X _ ?_⟩) (λR=>X _ ?_);have e:b 2=true:=by
  rw[W];simp only[eE,V];exact decide_eq_true R
 rw[dR e];rfl;have e:b 2=false:=by
  rw[W];simp only[eE,V];exact decide_eq_false R
 rw[eu e];have e:b 3=false:=by rw[W];simp[eE,V]
 simp[dU,cu,bq,cU];exact⟨by omega,X _ (by rw[eu e])⟩
set_option maxHeartbeats 8000000 in
def br2:yW 2 (dW.at [0,1,0,0,1,0,1,0,0,0,0,0,0,0,0,1,1,0]):=by
 rw[show dW.at [0,1,0,0,1,0,1,0,0,0,0,0,0,0,0,1,1,0]=yX (dW.at [0,1,0,0,1,0,1,0,0,0,0,0,0,0,0,1,1,0,0,0]) from rfl];refine CM ?_;rw[show dW.at [0,1,0,0,1,0,1,0,0,0,0,0,0,0,0,1,1,0,0,0]=T.rows _ _ _ _ from rfl];unfold AU;intros;rename_i n i N M L Q acc b P js j z _ _ _ O X;obtain⟨H,h,W,G,F,bI,CL,oh,bJ,gC,kU,iq,V⟩:=P;obtain⟨D,C,dU,cU,cu,bq,AT,dR,eu⟩:=O;have B:(i:Int)<Y Q:=by omega
 rcases(show z=0/\j=0\/z=1/\j=1\/z=2/\j=2\/z=3/\j=3 by omega) with⟨rfl,rfl⟩|⟨rfl,rfl⟩|⟨rfl,rfl⟩|⟨rfl,rfl⟩;have e:b 0=false:=by rw[W];simp[eE,V]
 simp[dU,cu,bq,cU];exact⟨by omega,X _ (by rw[eu e])⟩;have e:b 1=false:=by rw[W];simp[eE,V]
 simp[dU,cu,bq,cU];exact⟨by omega,X _ (by rw[eu e])⟩;simp[dU,cu,bq,cU];refine⟨by omega, ?_⟩;refine aN (λR=>⟨by omega,X _ ?_⟩) (λR=>X _ ?_);have e:b 2=true:=by
  rw[W];simp only[eE,V];exact decide_eq_true R
 rw[dR e];rfl;have e:b 2=false:=by
  rw[W];simp only[eE,V];exact decide_eq_false R
 rw[eu e];have e:b 3=false:=by rw[W];simp[eE,V]
 simp[dU,cu,bq,cU];exact⟨by omega,X _ (by rw[eu e])⟩
set_option maxHeartbeats 8000000 in
def br3:yW 3 (dW.at [0,1,0,0,1,0,1,0,0,0,0,0,0,0,0,1,1,1,0]):=by
 rw[show dW.at [0,1,0,0,1,0,1,0,0,0,0,0,0,0,0,1,1,1,0]=yX (dW.at [0,1,0,0,1,0,1,0,0,0,0,0,0,0,0,1,1,1,0,0,0]) from rfl];refine CM ?_;rw[show dW.at [0,1,0,0,1,0,1,0,0,0,0,0,0,0,0,1,1,1,0,0,0]=T.rows _ _ _ _ from rfl];unfold AU;intros;rename_i n i H G F W acc b N js j z _ _ _ M V;obtain⟨D,h,R,C,B,bI,CL,oh,bJ,gC,kU,iq,Q⟩:=N;obtain⟨A,y,dU,cU,cu,bq,AT,dR,eu⟩:=M;have x:(i:Int)<Y W:=by omega
 have L:aO (cellAt W (i:Int) 5).val=1\/aO (cellAt W (i:Int) 5).val=2:=by
  have:=iq.side;rw[if_pos (by omega)] at this;simp only[bm] at this;omega
 have P:ay .sub I (aO (cellAt W (i:Int) 5).val) 1=aO (cellAt W (i:Int) 5).val-1:=by simp only[ay];rw[cQ (by omega) (by omega)]
 have O:ay .quo I (aO (cellAt W (i:Int) 5).val-1) 2=0:=by rcases L with h|h<;>rw[h]<;>decide
 rcases(show z=0/\j=0\/z=1/\j=1\/z=2/\j=2\/z=3/\j=3 by omega) with⟨rfl,rfl⟩|⟨rfl,rfl⟩|⟨rfl,rfl⟩|⟨rfl,rfl⟩;simp[dU,cu,bq,cU,P,O];refine⟨by omega, ?_⟩;refine aN (λX=>⟨by omega,V _ ?_⟩) (λX=>V _ ?_);have e:b 0=true:=by
  rw[R];simp only[eE,Q];exact decide_eq_true X
 rw[dR e];rfl;have e:b 0=false:=by
  rw[R];simp only[eE,Q];exact decide_eq_false X
 rw[eu e];simp[dU,cu,bq,cU,P,O,ae0 dg iO jg jh h.tp h.ps h.sp];refine⟨by omega,⟨by omega,by omega⟩,by omega, ?_⟩;refine aN (λX=>⟨by omega,V _ ?_⟩) (λX=>V _ ?_);have e:b 1=true:=by
  rw[R];simp only[eE,Q];exact decide_eq_true X
 rw[dR e];rfl;have e:b 1=false:=by
  rw[R];simp only[eE,Q];exact decide_eq_false X
 rw[eu e];have e:b 2=false:=by rw[R];simp[eE,Q]
 simp[dU,cu,bq,cU];exact⟨by omega,V _ (by rw[eu e])⟩;have e:b 3=false:=by rw[R];simp[eE,Q]
 simp[dU,cu,bq,cU];exact⟨by omega,V _ (by rw[eu e])⟩
set_option maxHeartbeats 8000000 in
def br4:yW 4 (dW.at [0,1,0,0,1,0,1,0,0,0,0,0,0,0,0,1,1,1,1,0]):=by
 rw[show dW.at [0,1,0,0,1,0,1,0,0,0,0,0,0,0,0,1,1,1,1,0]=yX (dW.at [0,1,0,0,1,0,1,0,0,0,0,0,0,0,0,1,1,1,1,0,0,0]) from rfl];refine CM ?_;rw[show dW.at [0,1,0,0,1,0,1,0,0,0,0,0,0,0,0,1,1,1,1,0,0,0]=T.rows _ _ _ _ from rfl];unfold AU;intros;rename_i n i H G F W acc b N js j z _ _ _ M V;obtain⟨D,h,R,C,B,bI,CL,oh,bJ,gC,kU,iq,Q⟩:=N;obtain⟨A,y,dU,cU,cu,bq,AT,dR,eu⟩:=M;have x:(i:Int)<Y W:=by omega
 have L:aO (cellAt W (i:Int) 5).val=1\/aO (cellAt W (i:Int) 5).val=2:=by
  have:=iq.side;rw[if_pos (by omega)] at this;simp only[bm] at this;omega
 have P:ay .add I (aO (cellAt W (i:Int) 5).val) 1=aO (cellAt W (i:Int) 5).val+1:=by simp only[ay];rw[cQ (by omega) (by omega)]
 have O:ay .quo I (aO (cellAt W (i:Int) 5).val+1) 2=1:=by rcases L with h|h<;>rw[h]<;>decide
 rcases(show z=0/\j=0\/z=1/\j=1\/z=2/\j=2\/z=3/\j=3 by omega) with⟨rfl,rfl⟩|⟨rfl,rfl⟩|⟨rfl,rfl⟩|⟨rfl,rfl⟩;simp[dU,cu,bq,cU,P,O];refine⟨by omega, ?_⟩;refine aN (λX=>⟨by omega,V _ ?_⟩) (λX=>V _ ?_);have e:b 0=true:=by
  rw[R];simp only[eE,Q];exact decide_eq_true X
 rw[dR e];rfl;have e:b 0=false:=by
  rw[R];simp only[eE,Q];exact decide_eq_false X
 rw[eu e];simp[dU,cu,bq,cU,P,O,ae0 dg iO jg jh h.tp h.ps h.sp];refine⟨by omega,⟨by omega,by omega⟩,by omega, ?_⟩;refine aN (λX=>⟨by omega,V _ ?_⟩) (λX=>V _ ?_);have e:b 1=true:=by
  rw[R];simp only[eE,Q];exact decide_eq_true X
 rw[dR e];rfl;have e:b 1=false:=by
  rw[R];simp only[eE,Q];exact decide_eq_false X
 rw[eu e];have e:b 2=false:=by rw[R];simp[eE,Q]
 simp[dU,cu,bq,cU];exact⟨by omega,V _ (by rw[eu e])⟩;have e:b 3=false:=by rw[R];simp[eE,Q]
 simp[dU,cu,bq,cU];exact⟨by omega,V _ (by rw[eu e])⟩
set_option maxHeartbeats 8000000 in
def br5:yW 5 (dW.at [0,1,0,0,1,0,1,0,0,0,0,0,0,0,0,1,1,1,1,1,0]):=by
 rw[show dW.at [0,1,0,0,1,0,1,0,0,0,0,0,0,0,0,1,1,1,1,1,0]=yX (dW.at [0,1,0,0,1,0,1,0,0,0,0,0,0,0,0,1,1,1,1,1,0,0,0]) from rfl];refine CM ?_;rw[show dW.at [0,1,0,0,1,0,1,0,0,0,0,0,0,0,0,1,1,1,1,1,0,0,0]=T.rows _ _ _ _ from rfl];unfold AU;intros;rename_i n i N M L Q acc b P js j z _ _ _ O W;obtain⟨H,h,V,G,F,bI,CL,oh,bJ,gC,kU,iq,R⟩:=P;obtain⟨D,C,dU,cU,cu,bq,AT,dR,eu⟩:=O;have B:(i:Int)<Y Q:=by omega
 rcases(show z=0/\j=0\/z=1/\j=1\/z=2/\j=2\/z=3/\j=3 by omega) with⟨rfl,rfl⟩|⟨rfl,rfl⟩|⟨rfl,rfl⟩|⟨rfl,rfl⟩;simp[dU,cu,bq,cU];refine⟨by omega, ?_⟩;refine aN (λX=>⟨by omega,W _ ?_⟩) (λX=>W _ ?_);have e:b 0=true:=by
  rw[V];simp only[eE,R];exact decide_eq_true X
 rw[dR e];rfl;have e:b 0=false:=by
  rw[V];simp only[eE,R];exact decide_eq_false X
 rw[eu e];simp[dU,cu,bq,cU,ae0 dg iO jg jh h.tp h.ps h.sp];refine⟨by omega, ?_⟩;refine aN (λX=>⟨by omega,W _ ?_⟩) (λX=>W _ ?_);have e:b 1=true:=by
  rw[V];simp only[eE,R];exact decide_eq_true X
 rw[dR e];rfl;have e:b 1=false:=by
  rw[V];simp only[eE,R];exact decide_eq_false X
 rw[eu e];have e:b 2=false:=by rw[V];simp[eE,R]
 simp[dU,cu,bq,cU];exact⟨by omega,W _ (by rw[eu e])⟩;have e:b 3=false:=by rw[V];simp[eE,R]
 simp[dU,cu,bq,cU];exact⟨by omega,W _ (by rw[eu e])⟩
set_option maxHeartbeats 8000000 in
def br6:yW 6 (dW.at [0,1,0,0,1,0,1,0,0,0,0,0,0,0,0,1,1,1,1,1,1,0]):=by
 rw[show dW.at [0,1,0,0,1,0,1,0,0,0,0,0,0,0,0,1,1,1,1,1,1,0]=yX (dW.at [0,1,0,0,1,0,1,0,0,0,0,0,0,0,0,1,1,1,1,1,1,0,0,0]) from rfl];refine CM ?_;rw[show dW.at [0,1,0,0,1,0,1,0,0,0,0,0,0,0,0,1,1,1,1,1,1,0,0,0]=T.rows _ _ _ _ from rfl];unfold AU;intros;rename_i n i O N M R acc b Q js j z _ _ _ P X;obtain⟨L,h,W,H,G,bI,CL,oh,bJ,gC,kU,iq,V⟩:=Q;obtain⟨F,D,dU,cU,cu,bq,AT,dR,eu⟩:=P;have C:(i:Int)<Y R:=by omega
 rcases(show z=0/\j=0\/z=1/\j=1\/z=2/\j=2\/z=3/\j=3 by omega) with⟨rfl,rfl⟩|⟨rfl,rfl⟩|⟨rfl,rfl⟩|⟨rfl,rfl⟩;have e:b 0=false:=by rw[W];simp[eE,V]
 simp[dU,cu,bq,cU];exact⟨by omega,X _ (by rw[eu e])⟩;have e:b 1=false:=by rw[W];simp[eE,V]
 simp[dU,cu,bq,cU];exact⟨by omega,X _ (by rw[eu e])⟩;have e:b 2=false:=by rw[W];simp[eE,V]
 simp[dU,cu,bq,cU];exact⟨by omega,X _ (by rw[eu e])⟩;have e:b 3=false:=by rw[W];simp[eE,V]
 simp[dU,cu,bq,cU];exact⟨by omega,X _ (by rw[eu e])⟩
set_option maxHeartbeats 8000000 in
def br7:yW 7 (dW.at [0,1,0,0,1,0,1,0,0,0,0,0,0,0,0,1,1,1,1,1,1,1,0]):=by
 rw[show dW.at [0,1,0,0,1,0,1,0,0,0,0,0,0,0,0,1,1,1,1,1,1,1,0]=yX (dW.at [0,1,0,0,1,0,1,0,0,0,0,0,0,0,0,1,1,1,1,1,1,1,0,0,0]) from rfl];refine CM ?_;rw[show dW.at [0,1,0,0,1,0,1,0,0,0,0,0,0,0,0,1,1,1,1,1,1,1,0,0,0]=T.rows _ _ _ _ from rfl];unfold AU;intros;rename_i n i M L H X acc b P js j z _ _ _ O W;obtain⟨G,h,V,F,D,bI,CL,oh,bJ,gC,kU,iq,R⟩:=P;obtain⟨C,B,dU,cU,cu,bq,AT,dR,eu⟩:=O;have A:(i:Int)<Y X:=by omega
 have y:1<=bm X i 9/\bm X i 9<=Y ak.rows:=by
  have:=iq.OP;rw[if_pos (by omega)] at this;exact this
 have N:ay .sub I (aO (cellAt X (i:Int) 9).val) 1=(((bm X i 9).toNat-1:Nat):Int):=by
  have:aO (cellAt X (i:Int) 9).val=bm X i 9:=rfl;rw[this];simp only[ay];rw[cQ (by omega) (by omega)];omega
 rcases(show z=0/\j=0\/z=1/\j=1\/z=2/\j=2\/z=3/\j=3 by omega) with⟨rfl,rfl⟩|⟨rfl,rfl⟩|⟨rfl,rfl⟩|⟨rfl,rfl⟩;have e:b 0=false:=by rw[V];simp[eE,R]
 simp[dU,cu,bq,cU];exact⟨by omega,W _ (by rw[eu e])⟩;have e:b 1=false:=by rw[V];simp[eE,R]
 simp[dU,cu,bq,cU];exact⟨by omega,W _ (by rw[eu e])⟩;have e:b 2=false:=by rw[V];simp[eE,R]
 simp[dU,cu,bq,cU];exact⟨by omega,W _ (by rw[eu e])⟩;simp[dU,cu,bq,cU,bJ.len,N];refine⟨by omega,by omega, ?_⟩;refine aN (λQ=>⟨by omega,W _ ?_⟩) (λQ=>W _ ?_);have e:b 3=true:=by
  rw[V];simp only[eE,R];exact decide_eq_true Q
 rw[dR e];rfl;have e:b 3=false:=by
  rw[V];simp only[eE,R];exact decide_eq_false Q
 rw[eu e]
set_option maxHeartbeats 8000000 in
def br9:yW 9 (dW.at [0,1,0,0,1,0,1,0,0,0,0,0,0,0,0,1,1,1,1,1,1,1,1,0]):=by
 rw[show dW.at [0,1,0,0,1,0,1,0,0,0,0,0,0,0,0,1,1,1,1,1,1,1,1,0]=yX (dW.at [0,1,0,0,1,0,1,0,0,0,0,0,0,0,0,1,1,1,1,1,1,1,1,0,0,0]) from rfl];refine CM ?_;rw[show dW.at [0,1,0,0,1,0,1,0,0,0,0,0,0,0,0,1,1,1,1,1,1,1,1,0,0,0]=T.rows _ _ _ _ from rfl];unfold AU;intros;rename_i n i H G F X acc b P js j z _ _ _ O W;obtain⟨D,h,V,C,B,bI,CL,oh,bJ,gC,kU,iq,R⟩:=P;obtain⟨A,y,dU,cU,cu,bq,AT,dR,eu⟩:=O;have x:(i:Int)<Y X:=by omega
 have N:aO (cellAt X (i:Int) 5).val=1\/aO (cellAt X (i:Int) 5).val=2:=by
  have:=iq.side;rw[if_pos (by omega)] at this;simp only[bm] at this;omega
 have M:ay .add I (aO (cellAt X (i:Int) 5).val) 1=aO (cellAt X (i:Int) 5).val+1:=by simp only[ay];rw[cQ (by omega) (by omega)]
 have L:ay .quo I (aO (cellAt X (i:Int) 5).val+1) 2=1:=by rcases N with h|h<;>rw[h]<;>decide
 rcases(show z=0/\j=0\/z=1/\j=1\/z=2/\j=2\/z=3/\j=3 by omega) with⟨rfl,rfl⟩|⟨rfl,rfl⟩|⟨rfl,rfl⟩|⟨rfl,rfl⟩;simp[dU,cu,bq,cU,M,L];refine⟨by omega, ?_⟩;refine aN (λQ=>⟨by omega,W _ ?_⟩) (λQ=>W _ ?_);have e:b 0=true:=by
  rw[V];simp only[eE,R];exact decide_eq_true Q
 rw[dR e];rfl;have e:b 0=false:=by
  rw[V];simp only[eE,R];exact decide_eq_false Q
 rw[eu e];have e:b 1=false:=by rw[V];simp[eE,R]
 simp[dU,cu,bq,cU];exact⟨by omega,W _ (by rw[eu e])⟩;have e:b 2=false:=by rw[V];simp[eE,R]
 simp[dU,cu,bq,cU];exact⟨by omega,W _ (by rw[eu e])⟩;have e:b 3=false:=by rw[V];simp[eE,R]
 simp[dU,cu,bq,cU];exact⟨by omega,W _ (by rw[eu e])⟩
set_option maxHeartbeats 8000000 in
def br8:yW 8 (dW.at [0,1,0,0,1,0,1,0,0,0,0,0,0,0,0,1,1,1,1,1,1,1,1,1]):=by
 rw[show dW.at [0,1,0,0,1,0,1,0,0,0,0,0,0,0,0,1,1,1,1,1,1,1,1,1]=yX (dW.at [0,1,0,0,1,0,1,0,0,0,0,0,0,0,0,1,1,1,1,1,1,1,1,1,0,0]) from rfl];refine CM ?_;rw[show dW.at [0,1,0,0,1,0,1,0,0,0,0,0,0,0,0,1,1,1,1,1,1,1,1,1,0,0]=T.rows _ _ _ _ from rfl];unfold AU;intros;rename_i n i N M L R acc b P js j z _ _ _ O W;obtain⟨H,h,V,G,F,bI,CL,oh,bJ,gC,kU,iq,X⟩:=P;obtain⟨D,C,dU,cU,cu,bq,AT,dR,eu⟩:=O;have B:(i:Int)<Y R:=by omega
 have Q:aO (cellAt R (i:Int) 4).val=8:=X;rcases(show z=0/\j=0\/z=1/\j=1\/z=2/\j=2\/z=3/\j=3 by omega) with⟨rfl,rfl⟩|⟨rfl,rfl⟩|⟨rfl,rfl⟩|⟨rfl,rfl⟩;have e:b 0=false:=by rw[V];simp[eE,X]
 simp[dU,cu,bq,cU];exact⟨by omega,W _ (by rw[eu e])⟩;have e:b 1=false:=by rw[V];simp[eE,X]
 simp[dU,cu,bq,cU,Q];exact⟨by omega,W _ (by rw[eu e])⟩;have e:b 2=false:=by rw[V];simp[eE,X]
 simp[dU,cu,bq,cU];exact⟨by omega,W _ (by rw[eu e])⟩;have e:b 3=false:=by rw[V];simp[eE,X]
 simp[dU,cu,bq,cU,Q];exact⟨by omega,W _ (by rw[eu e])⟩
end

section
variable{p:FuncId->aW->bn->Prop}{R:bn->Prop}{O:ac}{L:dK}
def aoL{M:aR}{N:ai}{t:T}(Q:bn->Prop)(H:∀o,Q o->R o)(n:Nat)(W:Nat->aW->Prop)(G:wU n W (N.map (SV.xv O)))(h:∀(i:Nat) V,i<=n->W i V->t.wp p Q (O.ext (.i i::V)) [⟨X,wU n W,vg n,n-i⟩]):T.wp p R (.loop X M N t) O L:=by
 refine anU Q H (wU n W) (vg n) G λF P=> ?_
 match F,P with
 |.i j::V,P=>
  obtain⟨i,rfl,D,C⟩:=P;have:=h i V D C;simpa[vg] using this
def Li(X:RV)(id:Int)(k:Nat):Bool:=match fJ 1 [id,0,0] X.rows with
 |U W=>fm (W[k]?.getD default).val
 |none=>E
def bE(W:RV)(X:am)(V:Nat->Int):Nat->Nat->Int
 |0,j=>V j
 |k+1,j=>oi 227 ([.i (bE W X V k 0),.i (bE W X V k 1),.i (bE W X V k 2),.i (bE W X V k 3),.i (bE W X V k 4),.i (bE W X V k 5),.i (bE W X V k 6),.i (bE W X V k 7),.i (bE W X V k 8),.i (bE W X V k 9),.i (bE W X V k 10),.i (bE W X V k 11),.i (bE W X V k 12)]++iX (bm X k)++[.i (oR W (bm X k 0) 1),.i (oR W (bm X k 0) 2),.i (oR W (bm X k 0) 3),.b (Li W (bm X k 0) 4)]) j
def nz(Q:RV)(P:Nat)(W:RV)(X:am)(V:Nat->Int):Nat->am
 |0=>[]
 |k+1=>nz Q P W X V k++if Li W (bm X k 0) 4 then[] else lR (eE Q P W (bm X k) (Hv [bE W X V k 0,bE W X V k 1,bE W X V k 2,bE W X V k 3,bE W X V k 4,bE W X V k 5,bE W X V k 6,bE W X V k 7,bE W X V k 8,bE W X V k 9,bE W X V k 10,bE W X V k 11,bE W X V k 12])) (bm X k 0) (aDA 4)
def axm{js X:aj}(h:js.Perm X):(lR V Q js).Perm (lR V Q X):=(h.filter V).map _
def Ww(Q:RV)(P:Nat)(W:RV)(X:am)(V:Nat->Int):∀k,(nz Q P W X V k).length<=4*k
 |0=>by simp[nz]
 |k+1=>by
  have M:=Ww Q P W X V k;have N:=aoI (eE Q P W (bm X k) (Hv [bE W X V k 0,bE W X V k 1,bE W X V k 2,bE W X V k 3,bE W X V k 4,bE W X V k 5,bE W X V k 6,bE W X V k 7,bE W X V k 8,bE W X V k 9,bE W X V k 10,bE W X V k 11,bE W X V k 12])) (bm X k 0) (aDA 4);simp only[nz,aDs];split;simp;omega;simp only[aFK] at N;omega
def aoM(V:RV)(Q:Nat)(P:RV)(W:am)(N:Nat->Int):∀k,∀x∈nz V Q P W N k,∃q<k,ax 1 x=bm W q 0
 |0,x,X=>by simp[nz] at X
 |k+1,x,X=>by
  rw[nz] at X;rcases aDo.1 X with h|h;obtain⟨q,H,M⟩:=aoM V Q P W N k x h;exact⟨q,by omega,M⟩;split at h;simp at h;obtain⟨m,-,rfl⟩:=aDF.1 h;exact⟨k,by omega,rfl⟩
def axn(b:Nat->Bool)(id:Int){js:aj}(h:js.Nodup):yV [1,0] (lR b id js):=by
 refine aFq.2 ((h.sublist List.filter_sublist).imp λ{x y} X=>⟨0,by simp, ?_⟩);simp[Wu,ax,iV,aO];omega
def axo(Q:tG W){k:Nat}(P:X<k)(V:k<Y W):bm W X 0≠bm W k 0:=by
 have:=aET.1 Q X k (by omega) V P;simpa[bm,cellAt,ax,V,show X<Y W by omega] using this
def aoN(W:RV)(V:Nat)(Q:RV)(X:am)(P:Nat->Int)(M:tG X):∀k≤Y X,yV [1,0] (nz W V Q X P k)
 |0,_=>aD6
 |k+1,h=>by
  rw[nz];refine aDH.2 ⟨aoN W V Q X P M k (by omega), ?_, ?_⟩;split;exact aD6;exact axn _ _ List.nodup_range;intro x H y N;obtain⟨q,G,F⟩:=aoM W V Q X P k x H;split at N;simp at N;obtain⟨m,-,rfl⟩:=aDF.1 N;refine⟨1,by simp, ?_⟩;rw[F];exact axo M G (by omega)
end
section
set_option maxHeartbeats 16000000 in
def axp (R:bn->Prop) (L:dK) (h:dD) (N:Nat) (aa A z y x w v u t s q p n m g f e d c a ab af ag al an ap a0 a1 a2 a3 a4:Int) (Q re V:RV) (X:am) (W:Nat->Int) (l:[A,z,y,x,w,v,u,t,s,q,p,n,m]=[W 0,W 1,W 2,W 3,W 4,W 5,W 6,W 7,W 8,W 9,W 10,W 11,W 12])
  (G:Y X<=4096) (oh:N<Y Q.rows) (bJ:Sl Q) (gC:Y Q.rows=Y ak.rows) (kU:Y ak.rows<=64) (iq:∀i<Y X,wW (Y ak.rows) dg (bm X i)) (hk:tG X)
  (hR:R (.ret [.r (aq (bD (be.lex [1,0] E).lt (nz Q N V X W (Y X)))),.i 0])):
  T.wp TB.Ev R (dW.at [0,1,0,0,1,0,1,0,0,0]) ⟨[gO,gw,ny,tH,tI,dg,(N:Int),aa,A,z,y,x,w,v,u,t,s,q,p,n,m,g,f,e,d,c,a,ab,af,ag,al,an,ap,a0,a1,a2,a3,a4],[],[ak,iO,jg,jh,aP,Q,re,V,aq X],[]⟩ L:=by
 rw[show dW.at [0,1,0,0,1,0,1,0,0,0]=(T.loop _ _ _ (T.node _ (T.aV _ (T.aV _ (T.call _ _ _ _ _ _ (T.node _ _ (T.node _ (dW.at [0,1,0,0,1,0,1,0,0,0,0,0,0,0,0,1,0]) (T.node _ (dW.at [0,1,0,0,1,0,1,0,0,0,0,0,0,0,0,1,1,0]) (T.node _ (dW.at [0,1,0,0,1,0,1,0,0,0,0,0,0,0,0,1,1,1,0]) (T.node _ (dW.at [0,1,0,0,1,0,1,0,0,0,0,0,0,0,0,1,1,1,1,0]) (T.node _ (dW.at [0,1,0,0,1,0,1,0,0,0,0,0,0,0,0,1,1,1,1,1,0]) (T.node _ (dW.at [0,1,0,0,1,0,1,0,0,0,0,0,0,0,0,1,1,1,1,1,1,0]) (T.node _ (dW.at [0,1,0,0,1,0,1,0,0,0,0,0,0,0,0,1,1,1,1,1,1,1,0]) (T.node _ (dW.at [0,1,0,0,1,0,1,0,0,0,0,0,0,0,0,1,1,1,1,1,1,1,1,0]) (dW.at [0,1,0,0,1,0,1,0,0,0,0,0,0,0,0,1,1,1,1,1,1,1,1,1]))))))))))))) _)) from rfl];simp only[aEg,and_true] at l;obtain⟨rfl,rfl,rfl,rfl,rfl,rfl,rfl,rfl,rfl,rfl,rfl,rfl,rfl⟩:=l;have a5:∀acc:am,acc.Perm (nz Q N V X W (Y X))->fU (.lex [1,0] E) E acc=U (bD (be.lex [1,0] E).lt (nz Q N V X W (Y X))):=λacc C=>aoz (by have:=Ww Q N V X W (Y X);omega) (aoN Q N V X W hk _ (aDm _)) C
 have F:vR (.ret [.r (aq (bD (be.lex [1,0] E).lt (nz Q N V X W (Y X)))),.i 0]) (.ret [.r (aq (bD (be.lex [1,0] E).lt (nz Q N V X W (Y X)))),.i 0])=true:=Jf _;refine aoL (· =.ret [.r (aq (bD (be.lex [1,0] E).lt (nz Q N V X W (Y X)))),.i 0]) (λo h=>h▸hR) (Y X) (λi a6=>∃acc,a6=[.i (bE V X W i 0),.i (bE V X W i 1),.i (bE V X W i 2),.i (bE V X W i 3),.i (bE V X W i 4),.i (bE V X W i 5),.i (bE V X W i 6),.i (bE V X W i 7),.i (bE V X W i 8),.i (bE V X W i 9),.i (bE V X W i 10),.i (bE V X W i 11),.i (bE V X W i 12),.r (aq acc)]/\acc.Perm (nz Q N V X W i)) ⟨0,rfl,aD0 _,[],rfl,aF3 _⟩ ?_;rintro i _ M ⟨acc,rfl,C⟩;have a7:=C.length_eq;have AT:=Ww Q N V X W i;simp;refine aN (λM=> ?_) (λbb=> ?_);have k:=jP _ (aoe (bE V X W i 0) (bE V X W i 1) (bE V X W i 2) (bE V X W i 3) (bE V X W i 4) (bE V X W i 5) (bE V X W i 6) (bE V X W i 7) (bE V X W i 8) (bE V X W i 9) (bE V X W i 10) (bE V X W i 11) (bE V X W i 12) (bm X i) (oR V (bm X i 0) 1) (oR V (bm X i 0) 2) (oR V (bm X i 0) 3) (Li V (bm X i 0) 4));simp only[iX,aDi,aDl,AM,CD,od] at k;change _/\fD TB.Ev _ 227 [.i (bE V X W i 0),.i (bE V X W i 1),.i (bE V X W i 2),.i (bE V X W i 3),.i (bE V X W i 4),.i (bE V X W i 5),.i (bE V X W i 6),.i (bE V X W i 7),.i (bE V X W i 8),.i (bE V X W i 9),.i (bE V X W i 10),.i (bE V X W i 11),.i (bE V X W i 12),.i (bm X i 0),.i (bm X i 1),.i (bm X i 2),.i (bm X i 3),.i (bm X i 4),.i (bm X i 5),.i (bm X i 6),.i (bm X i 7),.i (bm X i 8),.i (bm X i 9),.i (bm X i 10),.i (bm X i 11),.i (bm X i 12),.i (bm X i 13),.i (oR V (bm X i 0) 1),.i (oR V (bm X i 0) 2),.i (oR V (bm X i 0) 3),.b (Li V (bm X i 0) 4)] _ _ _ _;rw[bp k];simp[M,bH M (show Y X<=140737488355328 by omega)];have H:=iq i M;refine aN (λB=> ?_) (λB=> ?_);refine⟨acc,⟨rfl,rfl,rfl,rfl,rfl,rfl,rfl,rfl,rfl,rfl,rfl,rfl,rfl,rfl⟩, ?_⟩;rw[nz,if_pos (show Li V (bm X i 0) 4=J from B),aEO];exact C;have a8:Li V (bm X i 0) 4=false:=aEE.2 B;have D:∀js,js.Perm (aDA 4)->∃j,[.i (bE V X W (i+1) 0),.i (bE V X W (i+1) 1),.i (bE V X W (i+1) 2),.i (bE V X W (i+1) 3),.i (bE V X W (i+1) 4),.i (bE V X W (i+1) 5),.i (bE V X W (i+1) 6),.i (bE V X W (i+1) 7),.i (bE V X W (i+1) 8),.i (bE V X W (i+1) 9),.i (bE V X W (i+1) 10),.i (bE V X W (i+1) 11),.i (bE V X W (i+1) 12),XV.r (aq (acc++lR (eE Q N V (bm X i) (Hv [bE V X W i 0,bE V X W i 1,bE V X W i 2,bE V X W i 3,bE V X W i 4,bE V X W i 5,bE V X W i 6,bE V X W i 7,bE V X W i 8,bE V X W i 9,bE V X W i 10,bE V X W i 11,bE V X W i 12])) (bm X i 0) js))]=[.i (bE V X W (i+1) 0),.i (bE V X W (i+1) 1),.i (bE V X W (i+1) 2),.i (bE V X W (i+1) 3),.i (bE V X W (i+1) 4),.i (bE V X W (i+1) 5),.i (bE V X W (i+1) 6),.i (bE V X W (i+1) 7),.i (bE V X W (i+1) 8),.i (bE V X W (i+1) 9),.i (bE V X W (i+1) 10),.i (bE V X W (i+1) 11),.i (bE V X W (i+1) 12),.r (aq j)]/\j.Perm (nz Q N V X W (i+1)):=λjs hj=>⟨_,rfl,by
  rw[nz,a8];exact C.append (axm hj)⟩
 have h4:=H.kind;refine aN (λP=>br1 ⟨F,h,rfl,M,G,rfl,by omega,oh,bJ,gC,kU,H,P⟩ D) (λbf=> ?_);refine aN (λP=>br2 ⟨F,h,rfl,M,G,rfl,by omega,oh,bJ,gC,kU,H,P⟩ D) (λbg=> ?_);refine aN (λP=>br3 ⟨F,h,rfl,M,G,rfl,by omega,oh,bJ,gC,kU,H,P⟩ D) (λbk=> ?_);refine aN (λP=>br4 ⟨F,h,rfl,M,G,rfl,by omega,oh,bJ,gC,kU,H,P⟩ D) (λbl=> ?_);refine aN (λP=>br5 ⟨F,h,rfl,M,G,rfl,by omega,oh,bJ,gC,kU,H,P⟩ D) (λbo=> ?_);refine aN (λP=>br6 ⟨F,h,rfl,M,G,rfl,by omega,oh,bJ,gC,kU,H,P⟩ D) (λbr=> ?_);refine aN (λP=>br7 ⟨F,h,rfl,M,G,rfl,by omega,oh,bJ,gC,kU,H,P⟩ D) (λbs=> ?_);refine aN (λP=>br9 ⟨F,h,rfl,M,G,rfl,by omega,oh,bJ,gC,kU,H,P⟩ D) (λbt=> ?_);exact br8 ⟨F,h,rfl,M,G,rfl,by omega,oh,bJ,gC,kU,H,(by simp only[bm] at h4⊢;omega)⟩ D;have a9:i=Y X:=by omega
 subst a9
 first|rw[tE]|rw[tF]
 refine⟨_,a5 acc C, ?_⟩;simp[aq,a7,(yR _).length_eq]
end

def axq(h:dD)(aS aa:Int)(x:Nat->Int)(r:RV)(R:Sl r):∃o,TB.Ev 89 (wk++[.i aS,.i aa,.i (x 0),.i (x 1),.i (x 2),.i (x 3),.i (x 4),.i (x 5),.i (x 6),.i (x 7),.i (x 8),.i (x 9),.i (x 10),.i (x 11),.i (x 12),.r r]) o/\∃X,o=.ret X/\fq (kI 14) X=J/\(xi X 13=0->j7 aS aa=0):=by
 by_cases V:j7 aS aa=0;obtain⟨o,W,X,Q,P⟩:=Lc h aS aa x r R;exact⟨o,W,X,Q,P,λ_=>V⟩;refine dX rfl rfl (.inl rfl) ?_;have W:=EN iP h aS aa;simp only[wk,aDi,aDl] at W;simp[V4,wk,bp W,V,xi]
def Lj(r:RV):Nat->am
 |0=>[]
 |k+1=>di 1 [.mk (.int I (ci r k 0)) [],.mk (.int I (ci r k 0)) [],.mk (.int I (ci r k 1)) [],.mk (.int I (ci r k 2)) [],.mk (.bool (cb r k 3)) []] (Lj r k)
def axr{aa:Int}(V:gP=0->qC)(W:X<(cj Q aa).length):wW (Y ak.rows) dg (bm (cj Q aa) X):=by
 obtain⟨k,_,R,_,_,P⟩:=aeE V (aD3 W);have e:∀j<14,bm (cj Q aa) X j=ci aP k j:=λj O=>by
  rw[<-Hl (ci aP k) j O,<-R];simp[bm,cellAt,ax,W]
 have:=P;constructor;rw[e 4 (by omega)];exact this.kind;rw[e 1 (by omega)];exact this.aS;rw[e 2 (by omega)];exact this.aa;rw[e 3 (by omega)];exact this.mark;rw[e 4 (by omega),e 5 (by omega)];exact this.side;rw[e 4 (by omega),e 6 (by omega)];exact this.dir;rw[e 4 (by omega),e 7 (by omega)];exact this.avU;rw[e 4 (by omega),e 8 (by omega)];exact this.size;rw[e 4 (by omega),e 9 (by omega)];exact this.OP;rw[e 10 (by omega),e 11 (by omega)];exact this.from_;rw[e 12 (by omega),e 13 (by omega)];exact this.to
set_option maxHeartbeats 16000000 in
def axs (h:dD) (aS aa:Int) (x:Nat->Int) (X r:RV) (bJ:Sl X) (P:Sl r):∃o,TB.Ev 104 (wk++[.i aS,.i aa,.i (x 0),.i (x 1),.i (x 2),.i (x 3),.i (x 4),.i (x 5),.i (x 6),.i (x 7),.i (x 8),.i (x 9),.i (x 10),.i (x 11),.i (x 12),.r X,.r r]) o/\∃v e,o=.ret [.r (aq v),.i e]/\Y v<=100000/\(¬e=0->v=[])/\(e=0->v=bD (be.lex [1,0] E).lt (nz X aS.toNat (aq (Lj r (Y r.rows))) (cj aS aa) (Hv [x 0,x 1,x 2,x 3,x 4,x 5,x 6,x 7,x 8,x 9,x 10,x 11,x 12]) (cj aS aa).length))/\((oi 89 (wk++[.i aS,.i aa,.i (x 0),.i (x 1),.i (x 2),.i (x 3),.i (x 4),.i (x 5),.i (x 6),.i (x 7),.i (x 8),.i (x 9),.i (x 10),.i (x 11),.i (x 12),.r r]) 13=0/\Y X.rows=Y ak.rows/\∀k<Y X.rows,Hq X k=0)->e=0):=by
 generalize O:(oi 89 (wk++[.i aS,.i aa,.i (x 0),.i (x 1),.i (x 2),.i (x 3),.i (x 4),.i (x 5),.i (x 6),.i (x 7),.i (x 8),.i (x 9),.i (x 10),.i (x 11),.i (x 12),.r r]) 13=0/\Y X.rows=Y ak.rows/\∀k<Y X.rows,Hq X k=0)=K;refine dX rfl rfl (.inl rfl) ?_;obtain⟨o,R,n,rfl,F,H⟩:=axq h aS aa x r P;obtain⟨f,rfl⟩:=aoi F;rw[show aDA 14=[0,1,2,3,4,5,6,7,8,9,10,11,12,13] from rfl] at R H;have D:K->f 13=0:=λk=>by
  rw[<-O] at k;have:=k.1;rw[oi,iW R] at this;exact this
 simp only[wk,aDi,aDl,aDt,aEK] at R;rw[show dW=(T.call _ _ _ _ _ _ (T.node _ _ (T.node _ (T.loop _ _ _ (T.node _ (T.aV _ (T.aV _ (T.call _ _ _ _ _ _ (T.node _ (T.node _ _ (dW.at [0,1,0,0,0,0,0,0,0,1])) _)))) (dW.at [0,1,0,0,1]))) _))) from rfl];simp[wk,bp R];refine aN (λC=> ?_) (λB=>⟨[],_,⟨rfl,rfl⟩,by simp,λ_=>rfl,λh=>absurd h B,D⟩);have N:=H C;have Q:qC:=(pH iP h).2 (by
  have:=N;unfold j7 at this;by_cases V:gP=0;exact V;rw[if_neg V] at this;exact this)
 have m:0<=aS/\aS<Y ak.rows:=by
  have V:gP=0:=by
   have:=N;unfold j7 at this;by_cases V:gP=0;exact V;rw[if_neg V] at this;exact this
  have:=N;unfold j7 at this;rw[if_pos V] at this;by_cases W:(gq aS 0 (Y ak.rows-1)&&gq aa 0 (dg-1))=J;simp[gq] at W;omega;rw[if_neg W] at this;omega
 have A:=Ww X aS.toNat (aq (Lj r (Y r.rows))) (cj aS aa) (Hv [x 0,x 1,x 2,x 3,x 4,x 5,x 6,x 7,x 8,x 9,x 10,x 11,x 12]) (cj aS aa).length;have bI:=La (aS:=aS) (aa:=aa) (λ_=>Q);have z:=We (aS:=aS) (aa:=aa) (λ_=>Q);have y:∀i<(cj aS aa).length,wW (Y ak.rows) dg (bm (cj aS aa) i):=λi W=>axr (λ_=>Q) W
 have G:=EN iP h aS aa;simp only[wk,aDi,aDl] at G;have w:=bJ.sm;refine aN (λgC=> ?_) (λu=>⟨[],_,⟨rfl,rfl⟩,by simp,λ_=>rfl,λh=>absurd h (by omega),λk=>absurd (by rw[<-O] at k;rw[bJ.len,h.rl.len,k.2.1]) u⟩);rw[bJ.len,h.rl.len] at gC;refine bU (Y X.rows) (λi M=>M=[]) ⟨0,rfl,aD0 _,rfl⟩ ?_;rintro i _ W rfl;simp[bJ.len];refine aN (λW=> ?_) (λl=> ?_);simp[bH W w,W];refine λt=>⟨[],280,⟨rfl,rfl⟩,by simp,by simp,by simp,λk=>absurd (by rw[<-O] at k;exact k.2.2 i W) t⟩
 rw[show dW.at [0,1,0,0,1]=(T.loop _ _ _ (T.node _ _ (T.call _ _ _ _ _ _ (T.aV _ (T.aV _ (dW.at [0,1,0,0,1,0,1,0,0,0])))))) from rfl];refine bU (Y r.rows) (λi M=>M=[.r (aq (Lj r i))]) ⟨0,rfl,aD0 _,rfl⟩ ?_;rintro q _ L rfl;simp[P.len];refine aN (λL=> ?_) (λj=> ?_);simp[bH L P.sm,L,Lj,ci,cb];have s:q=Y r.rows:=by omega
 subst s;obtain⟨p,rfl⟩:∃k:Nat,aS=k:=⟨aS.toNat,by omega⟩;rw[bp G];simp[bJ.len];refine⟨by omega, ?_⟩;refine axp _ _ h p aa _ _ _ _ _ _ _ _ _ _ _ _ _ _ _ _ _ _ _ _ _ _ _ _ _ _ _ _ _ _ X r (aq (Lj r (Y r.rows))) _ (Hv [x 0,x 1,x 2,x 3,x 4,x 5,x 6,x 7,x 8,x 9,x 10,x 11,x 12]) rfl bI (by omega) bJ (by omega) Q.nr.2 y z ?_;refine⟨_,0,rfl, ?_,by simp,by simp,λ_=>rfl⟩;rw[(yR _).length_eq];simp only[aEa] at A;omega
end
def ae2:aj:=[0,1,1,0,0,0,1,0,0,0,1,0,1,0,1,0,1,0,0,0,1,0,1,0,1]
section
variable{R:bn->Prop}{G:aR}{t:T}{O:ac}{L:dK}
variable[Inhabited dl]
def aoO{a b c:Bool}(h:(a&&b&&c)=J)(X:(a=E\/b=E)\/c=E):False:=by cases a<;>cases b<;>cases c<;>simp_all
def aoP{a b c:Bool}(X:¬((a=E\/b=E)\/c=E)):(a&&b&&c)=true:=by cases a<;>cases b<;>cases c<;>simp_all
def OX(V Q W:RV)(X:am)(p:Nat):Prop:=vk V W (ci (aq X) p 0).toNat (ci (aq X) p 1).toNat=J/\vk Q W (ci (aq X) p 0).toNat (ci (aq X) p 1).toNat=J
set_option maxHeartbeats 8000000 in
def axt (h:dD) (aa:Int) (g X mv W V re f:RV) (y:AQ ak g X mv W V re f) (K P:Prop) (x7 x8 x9 a9 bb bg bk:Int) (bl bo br bs bt:RV) (m Q:am) (L:dK)
  (hn:Y ak.rows<=64) (b0:Y X.rows=Y ak.rows) (b1:Y W.rows=Y ak.rows) (b2:Y V.rows=Y ak.rows)
  (b3:gK m) (cp:Y m<=200000*Y ak.rows) (hm:m=[]<->P) (an:aoa (Y ak.rows) Q)
  (B:K<->P/\(∀i<Y ak.rows,cd W X i 4=0)/\(∀i<Y ak.rows,cd V X i 4=0)/\Hp g aa f (aq (mA W X (Y ak.rows))) (aq Q)/\∀p<Y Q,OX W V X Q p):
  T.wp TB.Ev (λo=>∃v e,o=bn.ret [.r (aq v),.i e]/\(¬e=0->v=[])/\((e=0/\v=[])<->K)) (nx.at ae2) ⟨[gO,gw,ny,tH,tI,dg,aa,x7,x8,x9,a9,bb,bg,bk],[],[ak,iO,jg,jh,aP,g,X,mv,W,V,re,f,bl,bo,br,bs,bt,aq m,aq Q],[]⟩ L:=by
 rw[show nx.at ae2=T.loop _ _ _ _ from rfl];have ap:Y ak.rows<=140737488355328:=by omega
 have pJ:lenOf W.val=(Y ak.rows:Int):=by rw[y.bf.len,b1]
 have AR:lenOf V.val=(Y ak.rows:Int):=by rw[y.af.len,b2]
 have lQ:lenOf X.val=(Y ak.rows:Int):=by rw[y.bd.len,b0]
 have u:∀{e:Int},e≠0->¬K->∃v b,(aq []=aq v/\e=b)/\(¬b=0->v=[])/\(b=0/\v=[]<->K):=λ{e} he b4=>⟨[],e,⟨rfl,rfl⟩,λ_=>rfl,by simp[he,b4]⟩
 have s1:K->∀i<Y ak.rows,cd W X i 4=0:=λk=>(B.1 k).2.1
 have s2:K->∀i<Y ak.rows,cd V X i 4=0:=λk=>(B.1 k).2.2.1
 refine bU (Y ak.rows) (λi C=>C=[.r (aq (mA W X i))]/\∀k<i,cd W X k 4=0) ⟨0,rfl,aD0 _,rfl,by omega⟩ ?_;rintro i _ H ⟨rfl,a0⟩;simp[pJ,lQ];refine aN (λH=> ?_) (λa=> ?_);simp[bH H ap,H];have q1:=CJ W X i;exact aN (λs=>⟨by omega,rfl,qD a0 s⟩) (λN=>u N λk=>N (s1 k i H));have ab:i=Y ak.rows:=aEz H (aEr a);subst ab;refine bU (Y ak.rows) (λi C=>C=[.r (aq (mA V X i))]/\∀k<i,cd V X k 4=0) ⟨0,rfl,aD0 _,rfl,by omega⟩ ?_;rintro i _ H ⟨rfl,a2⟩;simp[AR,lQ];refine aN (λH=> ?_) (λa=> ?_);simp[bH H ap,H];have q1:=CJ V X i;exact aN (λs=>⟨by omega,rfl,qD a2 s⟩) (λN=>u N λk=>N (s2 k i H));have ab:i=Y ak.rows:=aEz H (aEr a);subst ab;have b5:=CJ W X (Y ak.rows);have b6:=CJ V X (Y ak.rows);have cs:=an.1;obtain⟨o,n,d,b7,rfl,ct,cv,a3⟩:=awP h g aa f (aq (mA W X (Y ak.rows))) (aq Q) y.wg y.bx (kw (by omega)) (kw (by omega));simp only[wk,aDi,aDl] at n;rw[bp n];simp;have a4:K->b7=0/\d=[]:=λk=>a3.2 (B.1 k).2.2.2.1
 refine aN (λb8=> ?_) (λN=>u N λk=>N (a4 k).1);refine bU (Y d) (λj C=>∃M,C=[.r (aq M)]/\gK M/\Y M<=200000*Y ak.rows+2*j/\(M=[]<->m=[]/\j=0)) ⟨0,rfl,aD0 _,m,rfl,b3,by omega,by simp⟩ ?_;rintro j _ l ⟨M,rfl,ag,cx,a5⟩;simp;refine aN (λl=>⟨l, ?_⟩) (λca=> ?_);refine aN (λs=> ?_) (λs=> ?_);rw[bH l (by omega)];exact⟨_,rfl,gK.ins rfl (gK.ins rfl ag),by refine aDY (rO _ _ _) ?_;refine aDY (aGk (rO _ _ _)) ?_;omega,AS (by omega)⟩;rw[bH l (by omega)];exact⟨_,rfl,gK.ins rfl ag,by refine aDY (rO _ _ _) ?_;omega,AS (by omega)⟩;have cc:j=Y d:=aEz l (aEr ca);subst cc;refine bU (Y Q) (λp C=>∃A,C=[.r (aq A)]/\gK A/\Y A<=200000*Y ak.rows+2*Y d+2*p/\(A=[]<->M=[]/\∀p'<p,OX W V X Q p')) ⟨0,rfl,aD0 _,M,rfl,ag,by omega,by simp⟩ ?_;rintro p _ G ⟨A,rfl,c,cy,al⟩;simp[b5,b6];refine aN (λG=>⟨G, ?_⟩) (λcf=> ?_);obtain⟨x,hx⟩:∃x,Q[p]?=U x:=⟨_,aDe G⟩;have cA:=an.2 x (aDx hx);have a6:aO (cellAt Q (p:Int) 0).val=ax 0 x:=by simp[cellAt,ax,hx]
 have a7:aO (cellAt Q (p:Int) 1).val=ax 1 x:=by simp[cellAt,ax,hx]
 have z:OX W V X Q p<->vk W X (ax 0 x).toNat (ax 1 x).toNat=J/\vk V X (ax 0 x).toNat (ax 1 x).toNat=true:=by
  rw[OX,show ci (aq Q) p 0=ax 0 x from a6,show ci (aq Q) p 1=ax 1 x from a7]
 have a8:K->OX W V X Q p:=λk=>(B.1 k).2.2.2.2 p G
 generalize ax 0 x=z0 at*;generalize ax 1 x=z1 at*;have F:z0.toNat<Y ak.rows:=by omega
 have D:z1.toNat<Y ak.rows:=by omega
 simp only[a6,a7,og W X F 0 (by omega),og W X F 1 (by omega),og W X F 2 (by omega),og W X F 3 (by omega),og W X D 0 (by omega),og W X D 1 (by omega),og W X D 2 (by omega),og W X D 3 (by omega),og V X F 0 (by omega),og V X F 1 (by omega),og V X F 2 (by omega),og V X F 3 (by omega),og V X D 0 (by omega),og V X D 1 (by omega),og V X D 2 (by omega),og V X D 3 (by omega)];simp only[vk] at z;refine⟨by omega,by omega,aN (λN=>u (by rw[if_neg (EW N)];omega) λk=> ?_) (λcB=>⟨by omega,by omega,aN (λN=>u (by rw[if_neg (EW N)];omega) λk=> ?_) (λcC=> ?_)⟩)⟩;have:=(z.1 (a8 k)).1;simp only[aDc] at this;exact EW N this.1;have:=(z.1 (a8 k)).2;simp only[aDc] at this;exact EW N this.1;refine aN (λc1=> ?_) (λc1=>aN (λc2=> ?_) (λc2=> ?_));rw[bH G (by omega)];refine⟨_,rfl,gK.ins rfl (gK.ins rfl c),by refine aDY (rO _ _ _) ?_;refine aDY (aGk (rO _ _ _)) ?_;omega,AS λw=> ?_⟩;exact aoO (z.1 (w.2 p (aFb p))).1 c1;rw[bH G (by omega)];refine⟨_,rfl,gK.ins rfl (gK.ins rfl c),by refine aDY (rO _ _ _) ?_;refine aDY (aGk (rO _ _ _)) ?_;omega,AS λw=> ?_⟩;exact aoO (z.1 (w.2 p (aFb p))).2 c2;rw[bH G (by omega)];exact⟨_,rfl,c,by omega,Wk al (z.2 ⟨aoP c1,aoP c2⟩)⟩;have ch:p=Y Q:=aEz G (aEr cf);subst ch;have cl:∀i<Y ak.rows,cd W X i 4=0:=a0;have cm:∀i<Y ak.rows,cd V X i 4=0:=a2;refine awZ _ _ _ _ _ _ _ _ _ _ _ _ _ _ _ _ _ _ _ _ _ _ _ _ _ _ _ _ _ _ _ _ _ _ _ _ _ _ _ _ _ _ _ A c (by omega) ⟨_,_,rfl,λh=>absurd rfl h, ?_⟩;rw[awY];constructor;rintro⟨_,h2⟩;have g2:=al.1 h2;have n:=a5.1 g2.1;exact B.2 ⟨hm.1 n.1,cl,cm,a3.1 ⟨b8,aDT.1 n.2⟩,g2.2⟩;intro k;have q:=B.1 k;have hv:=(a4 k).2;exact⟨rfl,al.2 ⟨a5.2 ⟨hm.2 q.1,by rw[hv];rfl⟩,q.2.2.2.2⟩⟩
end
section
variable[Inhabited dl]
def Lk(aa:Int)(X R W Q V P:RV)(i:Nat):Prop:=cb R i 0=J->(∀k<(cj i aa).length,OT aa X R W Q V P i k)/\xi (wZ aa W X V i) 1=0/\(xr (wZ aa W X V i) 0).rows=[]
def Wy:aj:=[0,1,1,0,0,0,1,0,0,0,1,0,1,0,1,0,1,0,0,0,1,0,0,0,0,0,0,0,0,0,0,0,0,0,0,0,0,0,0,0,0,0,1,0,0]
def Wz:aj:=[0,1,1,0,0,0,1,0,0,0,1,0,1,0,1,0,1,0,0,0,1,0,0,0,0,0,0,0,0,0,0,0,0,0,0,0,0,0,0,0,0,0,1,1]
def WA:aj:=[0,1,1,0,0,0,1,0,0,0,1,0,1,0,1,0,1,0,0,0,1,0,0,0,0,0,0,0,0,0,0,0,0,0,0,1,0,0,0,0,0,1,0,0]
def WB:aj:=[0,1,1,0,0,0,1,0,0,0,1,0,1,0,1,0,1,0,0,0,1,0,0,0,0,0,0,0,0,0,0,0,0,0,0,1,0,0,0,0,0,1,1]
def SgQ(q:aj)(W:aF):Prop:=(q=Wy/\∃X V,W=[X,V])\/(q=Wz/\∃X,W=[X])\/(q=WA/\∃X,W=[X])\/(q=WB/\W=[])
set_option maxHeartbeats 16000000 in
def WC (q:aj) (ms:aF) (F:SgQ q ms) (R:bn->Prop) (X:Nat->aW->Prop) (L:dK) (bs:Ws) (h:dD) (hw:qC) (aa:Int) (wg V Q P O W N:RV) (z:AQ ak wg V Q P O W N) (n i:Nat) (cI:n=Y ak.rows) (hi:i<n) (hn:n<=64) (cO:Y Q.rows=n) (bt:Y W.rows=n)
  (b1:cb Q i 0=J->j7 i aa=0/\∃v,wY (cj i aa) (cr 96 W i) (cj i aa).length v)
  (x7 x8 x9 b2 b3 b4:Int) (b0:Bool) (b5 b6 b7 b8 ca:RV) (y:am) (a8:gK y) (cW:Y y<=200000*i+2)
  (p:∀e:Int,¬e=0->¬Lk aa V Q P O W N i->R (.ret [.r (aq []),.i e]))
  (m:∀M,gK M->Y M<=200000*(i+1)->(M=[]<->y=[]/\Lk aa V Q P O W N i)->X (i+1) [.r (aq M)]):
  T.wp TB.Ev R (nx.at q) ⟨[gO,gw,ny,tH,tI,dg,aa,x7,x8,x9,b2,b3,(i:Int),b4],[b0],[ak,iO,jg,jh,aP,wg,V,Q,P,O,W,N,b5,b6,b7,b8,ca]++ms++[aq y],[]⟩ (⟨4,wU n X,vg n,n-i⟩::L):=by
 obtain⟨rfl,m1,m2,rfl⟩|⟨rfl,m1,rfl⟩|⟨rfl,m1,rfl⟩|⟨rfl,rfl⟩:=F;rw[show nx.at Wy=T.node _ _ _ from rfl]
 rotate_left
 rw[show nx.at Wz=T.node _ _ _ from rfl]
 rotate_left
 rw[show nx.at WA=T.node _ _ _ from rfl]
 rotate_left
 rw[show nx.at WB=T.node _ _ _ from rfl]
 rotate_left
 all_goals simp only[aDi,aDl]
 all_goals
  have a9:n<=140737488355328:=by omega
  have bb:=z.fG i (by omega);have bg:=EN iP h i aa;simp only[wk,aDi,aDl] at bg;have bq:lenOf (cT (.sl 96) (cellAt W.rows (i:Int) 0)).val=((cr 96 W i).rows.length:Int):=bb.1.len;have c0:lenOf W.val=(n:Int):=by rw[z.ET.len,bt]
  have c1:=La (aS:=i) (aa:=aa) (λ_=>hw);simp[bp bg];refine aN (λa3=> ?_) (λa3=> ?_);have x:cb Q i 0=true:=a3;obtain⟨cc,sv,cf⟩:=b1 x;refine aN (λ_=> ?_) (λC=>absurd cc C);refine bU (cj i aa).length (λk l=>∃G,l=[.r (aq G)]/\gK G/\Y G<=200000*i+2+10*k/\(G=[]<->y=[]/\∀k'<k,OT aa V Q P O W N i k')) ⟨0,rfl,aD0 _,_,rfl,a8,by omega,ER Iff.rfl⟩ ?_;rintro k _ u ⟨G,rfl,ab,c2,g⟩;simp;refine aN (λu=> ?_) (λch=> ?_);refine⟨u, ?_⟩;refine bU (cr 96 W i).rows.length (λq l=>l=[]/\∀f<q,ci (cr 96 W i) f 0≠bm (cj i aa) k 0) ⟨0,rfl,aD0 _,rfl,by omega⟩ ?_;rintro q _ F ⟨rfl,ag⟩;simp[bq];refine aN (λF=> ?_) (λc3=> ?_);refine⟨F,aN (λa0=> ?_) (λa0=> ?_)⟩
  ·have hF:Wr (cr 96 W i) (bm (cj i aa) k 0) q:=⟨F,a0,ag⟩;obtain⟨o,B,a1,a2,rfl,c4⟩:=t78 iP h (bm (cj i aa) k 0) _ (rN (cellAt V.rows (i:Int) 0)) (ci V i 1) (ci V i 2) (ci V i 3) (ci V i 4) (ci V i 5) (ci V i 6) (ci V i 7) (ci V i 8) (ci V i 9) (ci V i 10) (ci V i 11) (ci V i 12) (ci V i 13) (ci V i 14) (ci V i 15) (ci V i 16);have t:EV V (bm (cj i aa) k 0) i=[.r (aq a1),.i a2]:=iW B;simp only[wk,ci,bm,aDi,aDl] at B;rw[bp B];simp[bq];have al:Lk aa V Q P O W N i->a2=0:=λK=>by
    have:=((K x).1 k u q hF).1;rw[t] at this;exact this
   refine aN (λcl=> ?_) (λC=>p a2 C λK=>C (al K));refine⟨F, ?_⟩;rw[aeP (aq a1) (kw (by omega))];simp[bq];obtain⟨cm,A⟩:∃b,ob 102 [.r (aq a1),.i (ci (cr 96 W i) q 0),.i (ci (cr 96 W i) q 1),.i (ci (cr 96 W i) q 2),.b (cb (cr 96 W i) q 3)] 0=b:=⟨_,rfl⟩;have iq:OT aa V Q P O W N i k<->(cm=J/\(bm (cj i aa) k 4=7\/bm (cj i aa) k 4=8->cb (cr 96 W i) q 3=J\/Lh aa Q P O W N (bm (cj i aa) k)=J)):=by
    refine⟨λH=>by have:=(H q hF).2;rw[t] at this;rw[<-A];exact this,λH f bk=> ?_⟩;have cp:f=q:=by
     rcases Nat.lt_trichotomy f q with d|d|d;exact absurd bk.2.1 (ag f d);exact d;exact absurd hF.2.1 (bk.2.2 q d)
    subst cp;rw[t];exact⟨cl,by rw[<-A] at H;exact H⟩
   have a4:=jP [.bool] (awz hw h aa Q P O W N (bm (cj i aa) k) z.mv z.ET (by omega) (by omega) (λj c=>(z.fG j c).1));have bl:Lh aa Q P O W N (bm (cj i aa) k)=xb (out 103 (wk++[.i aa,.r Q,.r P,.r O,.r W,.r N]++iX (bm (cj i aa) k))) 0:=rfl;generalize Lh aa Q P O W N (bm (cj i aa) k)=c5 at iq bl;simp only[od,<-bl] at a4;simp only[wk,iX,bm,aDi,aDl] at a4;simp only[ci,cb,cr] at A;simp only[A];simp only[bm,cb,cr] at iq;have cs:(cj i aa).length<=140737488355328:=by omega
   have an:∀{D:aF},(di 3 D G).length<=200000*i+2+10*(k+1):=λ{D}=>by have:=rO 3 D G;omega
   have a:∀{D a5:aF},(di 3 a5 (di 3 D G)).length<=200000*i+2+10*(k+1):=λ{D a5}=>by have:=rO 3 D G;have:=rO 3 a5 (di 3 D G);omega
   have ct:Y G<=200000*i+2+10*(k+1):=by omega
   refine aN (λcv=> ?_) (λcv=> ?_)
   all_goals
    refine aN (λh7=>⟨F,aN (λhd=> ?_) (λhd=> ?_)⟩) (λh7=>aN (λh8=>⟨F,aN (λhd=> ?_) (λhd=> ?_)⟩) (λh8=> ?_))
   all_goals
    try rw[bp a4]
    try simp
    try refine aN (λcx=> ?_) (λcx=> ?_)
   all_goals
    rw[bH u cs]
    first
     |exact⟨_,rfl,ab,ct,Wk g (iq.2 (by clear g iq an a p m t A al;grind))⟩
     |exact⟨_,rfl,gK.ins rfl ab,an,AS (λw=>by have:=iq.1 (w.2 k (aFb k));clear w g iq an a p m t A al;grind)⟩
     |exact⟨_,rfl,gK.ins rfl (gK.ins rfl ab),a,AS (λw=>by have:=iq.1 (w.2 k (aFb k));clear w g iq an a p m t A al;grind)⟩
  have cy:(cr 96 W i).rows.length<=140737488355328:=by omega
  rw[bH F cy];exact⟨rfl,qD ag a0⟩;exfalso;obtain⟨k',w1,w2,w3⟩:=cf.2 k u;exact ag k' (by omega) w3;have cA:k=(cj i aa).length:=aEz u (aEr ch);subst cA;obtain⟨o,B,ap,a6,rfl,c6⟩:=bs h i aa (ci P i) V (cr 96 W i) z.bd bb.1;have a7:wZ aa P V W i=[.r (aq ap),.i a6]:=iW B;have bo:Lk aa V Q P O W N i->a6=0/\ap=[]:=λK=>by
   have:=(K x).2;rw[a7] at this;exact this
  simp only[wk,ci,cr,aDi,aDl] at B;rw[bp B];simp;refine aN (λcB=> ?_) (λC=>p a6 C λK=>C (bo K).1);refine bU (Y ap) (λj l=>∃s,l=[.r (aq s)]/\gK s/\Y s<=200000*i+50000+j/\(s=[]<->G=[]/\j=0)) ⟨0,rfl,aD0 _,G,rfl,ab,by omega,by simp⟩ ?_;rintro j _ c ⟨s,rfl,br,a,cC⟩;simp;refine aN (λc=>⟨c, ?_⟩) (λc7=> ?_);rw[bH c (by omega)];exact⟨_,rfl,gK.ins rfl br,by refine aDY (rO _ _ _) ?_;omega,AS (by omega)⟩;rw[bH hi a9];refine m s br (by omega) ?_;have cD:j=0<->ap=[]:=by rw[<-aDT];omega
  rw[cC,g,cD];exact⟨λw=>⟨w.1.1,λ_=>⟨w.1.2,by rw[a7];exact cB,by rw[a7];exact w.2⟩⟩,λw=>⟨⟨w.1,(w.2 x).1⟩,(bo w.2).2⟩⟩;have x:¬cb Q i 0=true:=a3;rw[bH hi a9];exact m y a8 (by omega) ⟨λq=>⟨q,λw=>absurd w x⟩,λq=>q.1⟩

def RoA(aa:Int)(R X W P V Q:RV)(i:Nat):Prop:=(∀j<13,ci P i j=gS aa X W V i j)/\oO (gB aa X W R V i 0) (gB aa X W R V i 1) (gB aa X W R V i 2) (gB aa X W R V i 3) (ci Q i 0) (ci Q i 1) (ci Q i 2) (ci Q i 3)=J
def RoI(aa:Int)(X W V R Q:RV)(i:Nat):Prop:=bF (gB aa X W V R i 0) (gB aa X W V R i 1) (gB aa X W V R i 2) (gB aa X W V R i 3)=J/\vB Q i=J
def axv(aa:Int)(X W V P R Q:RV)(i:Nat):Ht aa X W V P R Q i<->RoA aa X W V P R Q i/\RoI aa W V X R Q i/\Lk aa X W V P R Q i:=⟨λh=>⟨⟨h.eN,h.ins⟩,h.inb,h.AL⟩,λh=>⟨h.1.1,h.2.1,h.1.2,h.2.2⟩⟩
def WD{Q V S:Prop}{R:am}{F:Nat->Prop}(P:F X<->Q/\V/\S)(O:V)(h:W=[]<->R=[]/\S)(N:R=[]<->(∀k<X,F k)/\Q):W=[]<->∀k<X+1,F k:=by
 rw[h,N,awR,P];exact⟨λw=>⟨w.1.1,w.1.2,O,w.2⟩,λw=>⟨⟨w.1,w.2.1⟩,w.2.2.2⟩⟩
def ae3:aj:=[0,1,1,0,0,0,1,0,0,0,1,0,1,0,1,0,1,0,0,0,1]
set_option maxHeartbeats 16000000 in
def axw (al:Ws) (h:dD) (hw:qC) (aa:Int) (z W V X O R Q:RV) (C:AQ ak z W V X O R Q) (K:Prop) (L:dK)
  (f:Y ak.rows<=64) (a3:Y O.rows=Y ak.rows) (a8:Y Q.rows=Y ak.rows) (a4:Y W.rows=Y ak.rows) (d:Y V.rows=Y ak.rows) (a5:Y X.rows=Y ak.rows) (c:Y R.rows=Y ak.rows)
  (an:∀i<Y ak.rows,cb V i 0=J->j7 i aa=0/\∃v,wY (cj i aa) (cr 96 R i) (cj i aa).length v)
  (x7 x8 x9 a9 bb:Int) (bg bk:RV) (vs vr vb:am) (bl:Y vs=Y ak.rows) (bo:Y vb=Y ak.rows)
  (br:∀i<Y ak.rows,(∀j<13,aO (cellAt vs (i:Int) j).val=gS aa V X R i j)/\∀j<4,aO (cellAt vb (i:Int) j).val=gB aa V X W R i j)
  (hK:K<->(∀i<Y ak.rows,Ht aa W V X O R Q i)/\xi (oQ aa) 1=0/\(∀i<Y ak.rows,cd X W i 4=0)/\(∀i<Y ak.rows,cd O W i 4=0)/\Hp z aa Q (aq (mA X W (Y ak.rows))) (xr (oQ aa) 0)/\∀p<(xr (oQ aa) 0).rows.length,vk X W (ci (xr (oQ aa) 0) p 0).toNat (ci (xr (oQ aa) 0) p 1).toNat=J/\vk O W (ci (xr (oQ aa) 0) p 0).toNat (ci (xr (oQ aa) 0) p 1).toNat=J):
  T.wp TB.Ev (λo=>∃v e,o=bn.ret [.r (aq v),.i e]/\(¬e=0->v=[])/\((e=0/\v=[])<->K)) (nx.at ae3) ⟨[gO,gw,ny,tH,tI,dg,aa,x7,x8,x9,a9,bb],[],[ak,iO,jg,jh,aP,z,W,V,X,O,R,Q,bg,bk,aq vs,aq vr,aq vb],[]⟩ L:=by
 rw[show nx.at ae3=(T.loop _ _ _ (T.node _ (T.aV _ (T.aV _ (T.aV _ (T.aV _ (T.aV _ (T.aV _ (T.aV _ (T.aV _ (T.aV _ (T.aV _ (T.aV _ (T.aV _ (T.node _ (T.rows _ _ _ (T.aV _ (T.aV _ (T.aV _ (T.aV _ (T.call _ _ _ _ _ _ (T.node _ _ (T.node _ (T.rows _ _ _ (nx.at Wy)) (nx.at Wz))))))))) (T.aV _ (T.aV _ (T.aV _ (T.aV _ (T.call _ _ _ _ _ _ (T.node _ _ (T.node _ (T.rows _ _ _ (nx.at WA)) (nx.at WB))))))))))))))))))))) (T.call _ _ _ _ _ _ (T.node _ _ (nx.at ae2))))) from rfl];have cm:Y ak.rows<=140737488355328:=by omega
 have AR:lenOf O.val=(Y ak.rows:Int):=by rw[C.af.len,a3]
 have EU:lenOf Q.val=(Y ak.rows:Int):=by rw[C.bx.len,a8]
 have lQ:lenOf W.val=(Y ak.rows:Int):=by rw[C.bd.len,a4]
 have tM:lenOf V.val=(Y ak.rows:Int):=by rw[C.mv.len,d]
 have pJ:lenOf X.val=(Y ak.rows:Int):=by rw[C.bf.len,a5]
 have lB:lenOf R.val=(Y ak.rows:Int):=by rw[C.ET.len,c]
 have a0:∀{e:Int},e≠0->¬K->∃v B,(aq []=aq v/\e=B)/\(¬B=0->v=[])/\(B=0/\v=[]<->K):=λ{e} F g=>⟨[],e,⟨rfl,rfl⟩,λ_=>rfl,by simp[F,g]⟩
 have bs:∀{e:Int},¬e=0->¬K->∃v B,bn.ret [.r (aq []),.i e]=bn.ret [.r (aq v),.i B]/\(¬B=0->v=[])/\(B=0/\v=[]<->K):=λ{e} F g=>⟨[],e,rfl,λ_=>rfl,by simp[F,g]⟩
 have bt:K->∀i<Y ak.rows,Ht aa W V X O R Q i:=λk=>(hK.1 k).1
 refine bU (Y ak.rows) (λi b0=>∃m,b0=[.r (aq m)]/\gK m/\Y m<=200000*i/\(m=[]<->∀k<i,Ht aa W V X O R Q k)) ⟨0,rfl,aD0 _,[],rfl,gK.nil,by simp,by simp⟩ ?_;rintro i _ H ⟨m,rfl,b,b1,hm⟩;simp[AR,EU,lQ,tM,pJ,lB,bl,bo];refine aN (λH=> ?_) (λb2=> ?_);obtain⟨D,q3⟩:=br i H;have s:=axv aa W V X O R Q i;simp only[D 0 (by omega),D 1 (by omega),D 2 (by omega),D 3 (by omega),D 4 (by omega),D 5 (by omega),D 6 (by omega),D 7 (by omega),D 8 (by omega),D 9 (by omega),D 10 (by omega),D 11 (by omega),D 12 (by omega),q3 0 (by omega),q3 1 (by omega),q3 2 (by omega),q3 3 (by omega)];have y:RoA aa W V X O R Q i<->(∀j<13,ci O i j=gS aa V X R i j)/\oO (gB aa V X W R i 0) (gB aa V X W R i 1) (gB aa V X W R i 2) (gB aa V X W R i 3) (ci Q i 0) (ci Q i 1) (ci Q i 2) (ci Q i 3)=true:=Iff.rfl;have x:RoI aa V X W R Q i<->bF (gB aa V X W R i 0) (gB aa V X W R i 1) (gB aa V X W R i 2) (gB aa V X W R i 3)=J/\vB Q i=true:=Iff.rfl;generalize gB aa V X W R i 0=g0 at y x;generalize gB aa V X W R i 1=a at y x;generalize gB aa V X W R i 2=g2 at y x;generalize gB aa V X W R i 3=g3 at y x;have a1:K->Ht aa W V X O R Q i:=λk=>bt k i H
 have ap:∀{e:Int},¬e=0->¬Lk aa W V X O R Q i->∃v B,bn.ret [.r (aq []),.i e]=bn.ret [.r (aq v),.i B]/\(¬B=0->v=[])/\(B=0/\v=[]<->K):=λF A=>bs F λk=>A (s.1 (a1 k)).2.2
 have cU:∀{u:aF},(di 3 u m).length<=200000*i+2:=λ{u}=>by have:=rO 3 u m;omega
 have b3:∀{u a2:aF},(di 3 a2 (di 3 u m)).length<=200000*i+2:=λ{u a2}=>by have:=rO 3 u m;have:=rO 3 a2 (di 3 u m);omega
 refine⟨H,aN (λN=>⟨H, ?_⟩) (λN=>⟨H, ?_⟩)⟩;have g:¬∀j<13,ci O i j=gS aa V X R i j:=λG=>by
  simp only[ci] at G;have e0:=G 0 (by omega);have e1:=G 1 (by omega);have e2:=G 2 (by omega);have e3:=G 3 (by omega);have e4:=G 4 (by omega);have e5:=G 5 (by omega);have e6:=G 6 (by omega);have e7:=G 7 (by omega);have e8:=G 8 (by omega);have e9:=G 9 (by omega);have b4:=G 10 (by omega);have b5:=G 11 (by omega);have b6:=G 12 (by omega);rcases N with P|P|P|P|P|P|P|P|P|P|P|P|P;exact P e0;exact P e1;exact P e2;exact P e3;exact P e4;exact P e5;exact P e6;exact P e7;exact P e8;exact P e9;exact P b4;exact P b5;exact P b6
 refine aN (λt=>a0 (by rw[if_neg (EW t)];omega) λk=>EW t (x.1 (s.1 (a1 k)).2.1)) (λab=> ?_);have ag:=x.2 (aoB ab);refine aN (λhB=> ?_) (λhB=> ?_);refine WC Wy [_,_] (.inl ⟨rfl,_,_,rfl⟩) _ _ L al h hw aa z W V X O R Q C (Y ak.rows) i rfl H f d c (an i H) _ _ _ _ _ _ _ _ _ _ _ _ _ ?_ ?_ (λe F A=>ap F A) (λM q n l=>⟨M,rfl,q,n,WD s ag l ?_⟩);exact gK.ins rfl (gK.ins rfl b);exact b3;exact AS λw=>g (y.1 w.2).1
 refine WC Wz [_] (.inr (.inl ⟨rfl,_,rfl⟩)) _ _ L al h hw aa z W V X O R Q C (Y ak.rows) i rfl H f d c (an i H) _ _ _ _ _ _ _ _ _ _ _ _ _ ?_ ?_ (λe F A=>ap F A) (λM q n l=>⟨M,rfl,q,n,WD s ag l ?_⟩);exact gK.ins rfl b;exact cU;exact AS λw=>g (y.1 w.2).1
 have b7:∀j<13,ci O i j=gS aa V X R i j:=by
  simp only[not_or,Classical.not_not] at N;exact awU N.1 N.2.1 N.2.2.1 N.2.2.2.1 N.2.2.2.2.1 N.2.2.2.2.2.1 N.2.2.2.2.2.2.1 N.2.2.2.2.2.2.2.1 N.2.2.2.2.2.2.2.2.1 N.2.2.2.2.2.2.2.2.2.1 N.2.2.2.2.2.2.2.2.2.2.1 N.2.2.2.2.2.2.2.2.2.2.2.1 N.2.2.2.2.2.2.2.2.2.2.2.2
 refine aN (λt=>a0 (by rw[if_neg (EW t)];omega) λk=>EW t (x.1 (s.1 (a1 k)).2.1)) (λab=> ?_);have ag:=x.2 (aoB ab);refine aN (λhB=> ?_) (λhB=> ?_);have b8:¬oO g0 a g2 g3 (ci Q i 0) (ci Q i 1) (ci Q i 2) (ci Q i 3)=true:=awS ab hB;refine WC WA [_] (.inr (.inr (.inl ⟨rfl,_,rfl⟩))) _ _ L al h hw aa z W V X O R Q C (Y ak.rows) i rfl H f d c (an i H) _ _ _ _ _ _ _ _ _ _ _ _ _ ?_ ?_ (λe F A=>ap F A) (λM q n l=>⟨M,rfl,q,n,WD s ag l ?_⟩);exact gK.ins rfl b;exact cU;exact AS λw=>b8 (y.1 w.2).2
 refine WC WB [] (.inr (.inr (.inr ⟨rfl,rfl⟩))) _ _ L al h hw aa z W V X O R Q C (Y ak.rows) i rfl H f d c (an i H) _ _ _ _ _ _ _ _ _ _ _ _ _ ?_ ?_ (λe F A=>ap F A) (λM q n l=>⟨M,rfl,q,n,WD s ag l ?_⟩);exact b;omega;exact⟨λw=>⟨hm.1 w,y.2 ⟨b7,awT ab hB⟩⟩,λw=>hm.2 w.1⟩;have ca:i=Y ak.rows:=aEz H (aEr b2);subst ca;obtain⟨o,a,a6,a7,rfl,cp,cc,cs⟩:=t23 iP h aa;have cf:oQ aa=[.r (aq a6),.i a7]:=iW a;rw[cf] at hK;have ch:K->a7=0:=λk=>(hK.1 k).2.1
 simp only[wk,aDi,aDl] at a;rw[bp a];simp;refine aN (λcl=> ?_) (λt=>a0 t λk=>t (ch k));refine axt h aa z W V X O R Q C K (∀k<Y ak.rows,Ht aa W V X O R Q k) _ _ _ _ _ _ _ _ _ _ _ _ m a6 _ f a4 a5 a3 b b1 hm cc ?_;refine hK.trans ⟨λw=>⟨w.1,w.2.2⟩,λw=>⟨w.1,cl,w.2⟩⟩

set_option maxHeartbeats 16000000 in
def t16 (bl:Ws) (h:dD) (aa:Int) (H L P N G V F:RV) (Q:AQ ak H L P N G V F):∃o,TB.Ev 16 (wk++[.r H,.r L,.i aa,.r P,.r N,.r G,.r V,.r F]) o/\∃v e,o=.ret [.r (aq v),.i e]/\(e≠0->v=[])/\((e=0/\v=[])<->CI aa H L P N G V F):=by
 generalize hK:CI aa H L P N G V F=K;refine dX rfl rfl (.inr λv hv=>by obtain⟨_,_,h,_⟩:=hv;cases h) ?_;obtain⟨h1,h2⟩:=pH iP h;simp only[wk] at h1;have R:∀{e:Int},e≠0->¬CI aa H L P N G V F->∃v n,(aq []=aq v/\e=n)/\(¬n=0->v=[])/\(n=0/\v=[]<->K):=λ{e} he bo=>⟨[],e,⟨rfl,rfl⟩,λ_=>rfl,by rw[<-hK];simp[he,bo]⟩
 rw[show nx=(T.call _ _ _ _ _ _ (T.node _ _ (T.node _ _ (T.node _ (T.node _ (T.node _ (T.node _ _ (T.node _ (T.node _ (T.node _ (T.node _ _ (T.loop _ _ _ (T.node _ _ (T.loop _ _ _ (T.node _ _ (T.loop _ _ _ (T.node _ _ (T.call _ _ _ _ _ _ (T.call _ _ _ _ _ _ (T.loop _ _ _ (T.node _ _ (nx.at ae3)))))))))))) _) _) _)) _) _) _)))) from rfl];simp[wk,bp h1];simp only[h.rl.len,Q.wg.len,Q.bd.len,Q.mv.len,Q.bf.len,Q.af.len,Q.ET.len,Q.bx.len];refine aN (λh0=> ?_) (λab=>R ab λK=>ab K.ex.wk);have hw:=h2 h0;have hn:=hw.nr;refine aN (λh8=>R (by omega) λK=>by have:=K.ex.nw;omega) (λh8=> ?_);refine aN (λb3=> ?_) (λW=>R (by omega) λK=>by have:=K.ex.br;omega);refine aN (λb4=> ?_) (λW=>R (by omega) λK=>by have:=K.ex.br;omega);refine aN (λAR=> ?_) (λW=>R (by omega) λK=>by have:=K.ex.AR;omega);refine aN (λEU=> ?_) (λW=>R (by omega) λK=>by have:=K.ex.EU;omega);refine aN (λlQ=> ?_) (λW=>R (by omega) λK=>by have:=K.ex.lQ;omega);refine aN (λtM=> ?_) (λW=>R (by omega) λK=>by have:=K.ex.tM;omega);refine aN (λpJ=> ?_) (λW=>R (by omega) λK=>by have:=K.ex.pJ;omega);refine aN (λlB=> ?_) (λW=>R (by omega) λK=>by have:=K.ex.lB;omega);have bs:lenOf G.val=(Y ak.rows:Int):=by rw[Q.af.len];exact AR
 have bt:lenOf F.val=(Y ak.rows:Int):=by rw[Q.bx.len];exact EU
 have ag:lenOf L.val=(Y ak.rows:Int):=by rw[Q.bd.len];exact lQ
 have al:lenOf P.val=(Y ak.rows:Int):=by rw[Q.mv.len];exact tM
 have an:lenOf N.val=(Y ak.rows:Int):=by rw[Q.bf.len];exact pJ
 have ap:lenOf V.val=(Y ak.rows:Int):=by rw[Q.ET.len];exact lB
 have u:Y ak.rows<=140737488355328:=by omega
 have D:∀i<Y ak.rows,Sl (cr 96 V i)/\(cr 96 V i).rows.length<=100:=λi X=>Q.fG i (by omega)
 refine bU (Y ak.rows) (λi C=>C=[]/\∀k<i,Hq L k=0/\tL N k=0/\(if cb P k 0 then CH aa V k=0 else(cr 96 V k).rows=[])) ⟨0,rfl,by omega,rfl,by omega⟩ ?_;rintro i _ X ⟨rfl,t⟩;simp[ag,al,an,ap];refine aN (λX=> ?_) (λm=> ?_);have a0:=(wV (Hm iP h i aa (cr 96 V i) (D i X).1)).1;simp only[wk,cr,aDi,aDl] at a0;have a6:=(D i X).1.len;simp only[cr] at a6;simp[bH X u,X,bp a0,a6];refine aN (λy=> ?_) (λW=>R (by omega) λK=>W (K.ex.eI i X).1);refine aN (λs=> ?_) (λW=>R (by omega) λK=>W (K.ex.eI i X).2.1);refine aN (λB=> ?_) (λB=> ?_);have M:cb P i 0=true:=B;refine aN (λA=> ?_) (λW=>R (by omega) λK=>W (by have:=(K.ex.eI i X).2.2;rw[if_pos M] at this;exact this));exact qD t ⟨y,s,by rw[if_pos M];exact A⟩;have M:¬cb P i 0=true:=B;refine aN (λA=> ?_) (λW=>R (by omega) λK=>W (by have:=(K.ex.eI i X).2.2;rw[if_neg M] at this;exact this));exact qD t ⟨y,s,by rw[if_neg M];exact A⟩;have z:i=Y ak.rows:=by omega
 subst z;refine bU (Y ak.rows) (λi C=>C=[]/\∀k<i,vB F k=J/\tL G k=0) ⟨0,rfl,by omega,rfl,by omega⟩ ?_;rintro i _ X ⟨rfl,a7⟩;simp[h.rl.len,bs,bt];refine aN (λX=> ?_) (λm=> ?_);simp[bH X u,X];refine aN (λy=>aN (λs=>qD a7 ⟨y,s⟩) (λW=>R (by omega) λK=>W (K.ex.box i X).2)) (λW=>R (by omega) λK=>W (K.ex.box i X).1);have z:i=Y ak.rows:=by omega
 subst z;refine bU (Y H.rows) (λi C=>C=[]/\∀k<i,jQ (ci H k) aa 4=0) ⟨0,rfl,by omega,rfl,by omega⟩ ?_;rintro i _ X ⟨rfl,a8⟩;simp[Q.wg.len];refine aN (λX=> ?_) (λm=> ?_);have a9:=f25 (ci H i) aa;simp only[EO,ci,aDi,aDl] at a9;simp[bH X Q.wg.sm,X,bp a9];exact aN (λy=>qD a8 y) (λW=>R W λK=>W (K.ex.EQ i X));have z:i=Y H.rows:=by omega
 subst z;rw[bp (e86 P Q.mv (by omega))];simp;rw[bp (e87 N Q.bf (by omega))];simp;have b0:Lg aa H L P N G V F:=⟨h0,by omega,by omega,by omega,by omega,by omega,by omega,by omega,by omega,t,a7,a8⟩;refine bU (Y ak.rows) (λi C=>∃x q w,C=[.r (aq x),.r (aq q),.r (aq w)]/\Y x=i/\Y q=i/\Y w=i/\∀k<i,iw aa P N L V k/\(∀j<13,aO (cellAt x (k:Int) j).val=gS aa P N V k j)/\∀j<4,aO (cellAt w (k:Int) j).val=gB aa P N L V k j) ⟨0,rfl,by omega,[],[],[],rfl,rfl,rfl,rfl,by omega⟩ ?_;rintro i _ X ⟨x,q,w,rfl,l,b5,g,p⟩;simp[ag,al,an,ap];refine aN (λX=> ?_) (λm=> ?_);have bb:=e88 (cr 96 V i) (D i X).1 (by have:=(D i X).2;omega);simp only[cr] at bb;simp[bH X u,X,bp bb];refine⟨by omega,aN (λB=> ?_) (λB=> ?_)⟩;have M:cb P i 0=true:=B;have bg:=jP _ (Lc h i aa (ci N i) (cr 96 V i) (D i X).1);simp only[wk,ci,cr,aDi,aDl,AM,CD,od] at bg;rw[bp bg];simp;refine aN (λA=> ?_) (λW=>R W λK=>W (by have:=K.tN i X;rw[iw,if_pos M] at this;exact this.1));have bk:=jP _ (OS h i aa (ci N i) _ (rN (cellAt L.rows (i:Int) 0)) (ci L i) (cr 96 V i) (D i X).1);simp only[wk,ci,cr,aDi,aDl,AM,CD,od] at bk;rw[bp bk];simp[bH X u];refine aN (λa5=> ?_) (λW=>R W λK=>W (by have:=K.tN i X;rw[iw,if_pos M] at this;exact this.2));refine⟨by omega,by omega,_,_,_,⟨rfl,rfl,rfl⟩,by simp;omega,by simp;omega,by simp;omega,λk f=> ?_⟩;by_cases d:k=i;subst d;refine⟨by rw[iw,if_pos M];exact⟨A,a5⟩,λj O=> ?_,λj O=> ?_⟩;rw[qF l,gS,if_pos M]
 match j,O with
 |0,_|1,_|2,_|3,_|4,_|5,_|6,_|7,_|8,_|9,_|10,_|11,_|12,_=>rfl
 rw[qF g,gB,if_pos M]
 match j,O with
 |0,_|1,_|2,_|3,_=>rfl
 obtain⟨c,b,a⟩:=p k (by omega);exact⟨c,λj O=>by rw[tO (by omega)];exact b j O,λj O=>by rw[tO (by omega)];exact a j O⟩;have M:¬cb P i 0=true:=B;refine aN (λA=> ?_) (λW=>R W λK=>W (by have:=K.tN i X;rw[iw,if_neg M] at this;exact this));refine⟨by omega,by omega,_,_,_,⟨rfl,rfl,rfl⟩,by simp;omega,by simp;omega,by simp;omega,λk f=> ?_⟩;by_cases d:k=i;subst d;refine⟨by rw[iw,if_neg M];exact A,λj O=> ?_,λj O=> ?_⟩;rw[qF l,gS,if_neg M]
 match j,O with
 |0,_|1,_|2,_|3,_|4,_|5,_|6,_|7,_|8,_|9,_|10,_|11,_|12,_=>rfl
 rw[qF g,gB,if_neg M]
 match j,O with
 |0,_|1,_|2,_|3,_=>rfl
 obtain⟨c,b,a⟩:=p k (by omega);exact⟨c,λj O=>by rw[tO (by omega)];exact b j O,λj O=>by rw[tO (by omega)];exact a j O⟩;have z:i=Y ak.rows:=by omega
 subst z;have b1:K<->CI aa H L P N G V F:=by rw[hK]
 refine axw bl h hw aa H L P N G V F Q K _ hn.2 (by omega) (by omega) (by omega) (by omega) (by omega) (by omega) (λi X b2=> ?_) _ _ _ _ _ _ _ x q w l g (λk f=>(p k f).2) (b1.trans ⟨λk=>⟨k.ro,k.Le,k.st1,k.st2,k.cl,k.eC⟩,λk=>⟨b0,λj O=>(p j O).1,k.1,k.2.1,k.2.2.1,k.2.2.2.1,k.2.2.2.2.1,k.2.2.2.2.2⟩⟩);have:=(t i X).2.2;rw[if_pos b2] at this;exact(wV (Hm iP h i aa (cr 96 V i) (D i X).1)).2 this

def brc:Ws:=λh aS aa x X r bJ W=>by
 obtain⟨o,V,v,e,R,Q,_⟩:=axs h aS aa x X r bJ W;exact⟨o,V,v,e,R,Q⟩
def t18(h:dD)(aa:Int)(X W V R Q P O:RV)(H:AQ ak X W V R Q P O):∃o,TB.Ev 18 (wk++[.r X,.r W,.i aa,.r V,.r R,.r Q,.r P,.r O]) o/\∃b e,o=.ret [.b b,.i e]/\(¬e=0->b=E)/\(b=J<->CI aa X W V R Q P O):=by
 generalize G:CI aa X W V R Q P O=K;refine dX rfl rfl (.inl rfl) ?_;obtain⟨o,L,v,e,rfl,D,N⟩:=t16 brc h aa X W V R Q P O H;rw[G] at N;simp only[wk,aDi,aDl] at L;simp[T18,wk,bp L];refine aN (λM=> ?_) (λM=> ?_);by_cases k:K;exact .inr ⟨e,⟨(N.2 k).2,rfl⟩,M,k⟩;exact .inl ⟨λF=>k (N.1 ⟨M,F⟩),k⟩;exact λk=>M (N.2 k).1
structure aC7(wg' wg:RV):Prop where
 len:Y wg'.rows<=Y wg.rows
 row:∀g<Y wg'.rows,∃g'<Y wg.rows,ci wg' g=ci wg g'
end
