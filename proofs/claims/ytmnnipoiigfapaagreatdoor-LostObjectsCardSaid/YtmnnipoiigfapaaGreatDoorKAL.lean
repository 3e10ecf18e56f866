/-
  The functions of this seat, compiled (1).
-/
import Derived.Test.YtmnnipoiigfapaaGreatDoorKAK
import Derived.KernelRfl
set_option linter.unusedVariables false
set_option maxRecDepth 100000
noncomputable section
namespace Rm
open Go Go.Proofs Cx
def Fw:Option PC:=cF [12,13,14,15] [] Tryz.f4 4 [6,8,9]
def Q3:PT:=
 (.call ⟨[],[(9,(.mk [r3])),(8,(.mk [r2])),(6,(.mk [r0]))]⟩ [] 16 7 []
 (.call ⟨[(13,dP)],[]⟩ [] 20 8 [(aw 8 o6),(aw 19 o8),(aw 6 o9)]
 (.ite (.pick (.nt fV) pT (aX r4 (pi 100000)))
 (.ret cW)
 (.call ⟨[],[]⟩ [] 32 16 [(aw 8 o6),r1,(aw 19 o8),(aw 6 o9),r4]
 (.call ⟨[(14,Ai)],[]⟩ [] 41 16 [(aw 8 o6),r1,(aw 19 o8),(aw 6 o9),(be r4 (.conv .i64 r5))]
 (.ite (aj r4 (pc o9 3))
 (.ret (.pick cW (aq cv (pi 0)) pF))
 (.call ⟨[(58,(bF r4 (pc o9 4))),(53,(aq cv (pi 1))),(15,qH)],[]⟩ [(58,false),(53,true)] 62 17 [(aw 8 o6),(aw 19 o8),(aw 6 o9)]
 (.ite (.pick Ph (.pick Al pT (aU mg (pi 0))) pF)
 (.ret pF)
 (.ret (.pick cW (.pick (aq cv jF) pT (aq cv (pi 2))) pF))))))))))
theorem Yk:Fw.map told=some (Q3,[]):=by kernel_rfl
theorem ao1:tree (ae Fw)=Q3:=bo Yk
def Fy:Option PC:=cF [0,4,6,8,9,10,1000003] [] Tryz.f7 7 [1,2,3,24579,5]
def Q6:PT:=
 (.call ⟨[],[]⟩ [] 12 20 []
 (.call ⟨[],[(3,(.setc DA 0 (.tget bP 2))),(2,(.setc qC 0 (.tget bP 1))),(1,(.setc O0 0 (.tget bP 0))),(24579,pL)]⟩ [] 19 16 [(aw 8 (.setc O0 0 (.tget bP 0))),(pi 0),(aw 19 (.setc qC 0 (.tget bP 1))),(aw 6 (.setc DA 0 (.tget bP 2))),(pi 41)]
 (.call ⟨[(21,(aq jG (pi 2)))],[]⟩ [(21,true)] 25 16 [(aw 8 o1),(pi 0),(aw 19 o2),(aw 6 o3),(pi 42)]
 (.call ⟨[(28,(.pick qF (aq jH (pi 2)) pF))],[]⟩ [(28,true)] 32 16 [(aw 8 o1),(pi 0),(aw 19 o2),(aw 6 o3),(pi 43)]
 (.call ⟨[(4,(.pick sE (aq Ai (pi 1)) pF))],[]⟩ [] 39 9 [(aw 8 o1),(pi 0),(aw 19 o2),(aw 6 o3),(pi 43)]
 (.call ⟨[(6,(.tget wP 1))],[(5,(.setc qC 0 (.tget wP 0)))]⟩ [] 46 9 [(aw 8 o1),(pi 0),(aw 19 o2),(aw 6 o3),(pi 42)]
 (.call ⟨[(8,(.tget IT 1))],[(24579,(.lst [(.mk [(pi 1),(pi 42),pT])])),(3,(.setc o3 5 pN))]⟩ [] 55 16 [(aw 8 o1),(pi 0),(aw 19 o2),(.mk [(pc (.setc o3 5 pN) 0),(pc (.setc o3 5 pN) 1),(pc (.setc o3 5 pN) 2),(pc (.setc o3 5 pN) 3),(pc (.setc o3 5 pN) 4),(.lst [(.mk [(pi 1),(pi 42),pT])])]),(pi 41)]
 (.call ⟨[(57,(aq wQ (pi 2)))],[]⟩ [(57,true)] 61 16 [(aw 8 o1),(pi 0),(aw 19 o2),IK,(pi 42)]
 (.call ⟨[(64,(.pick Ak (aq nU (pi 0)) pF))],[]⟩ [(64,true)] 68 16 [(aw 8 o1),(pi 0),(aw 19 o2),IK,(pi 43)]
 (.chk (ax (.o 24579) (pi 0))
 (.call ⟨[(9,(.pick lh (aq Pj (pi 0)) pF))],[(24579,(.setn (.o 24579) (pi 0) 1 (pi 43)))]⟩ [] 78 16 [(aw 8 o1),(pi 0),(aw 19 o2),(.mk [(pc o3 0),(pc o3 1),(pc o3 2),(pc o3 3),(pc o3 4),(.setn (.o 24579) (pi 0) 1 (pi 43))]),(pi 42)]
 (.call ⟨[(80,(aq r78 (pi 2)))],[]⟩ [(80,true)] 84 16 [(aw 8 o1),(pi 0),(aw 19 o2),IK,(pi 43)]
 (.call ⟨[(87,(.pick uz (aq Pm (pi 1)) pF))],[]⟩ [(87,true)] 91 17 [(aw 8 o1),(aw 19 o2),IK]
 (.chk (ax (.o 24579) (pi 0))
 (.ite (.pick (.pick (.pick (aU r6 (pi 0)) pT (aU r8 (pi 7))) pT (aU (.llen (pc o5 17)) (pi 1))) pT (aU (.llen (pc o5 15)) (pi 2)))
 (.ret pF)
 (.chk (.nt (.an (.an (.pick (.pick r4 r9 pF) (.pick IX (aq r91 (pi 0)) pF) pF) pT) (.nt (ax (pc o5 17) (pi 0)))))
 (.call ⟨[(131,(.pick (.pick (.pick r4 r9 pF) (.pick IX (aq r91 (pi 0)) pF) pF) (.an (aq (pc sA 0) (pi 7)) (.an (aq (pc sA 1) (pi 2)) (.an (aq (pc sA 2) (pi (-1))) (.an (aq (pc sA 3) (pi 0)) (.an (aq (pc sA 4) (pi 1)) (.an (aq (pc sA 5) (pi 0)) (.an (aq (pc sA 6) (pi 43)) (.an (aq (pc sA 7) (pi 0)) (.an (aq (pc sA 8) (pi 0)) pT))))))))) pF))],[]⟩ [(131,true)] 135 17 [(aw 8 o1),(aw 19 o2),(.mk [(pc o3 0),(pc o3 1),(pc o3 2),(pc o3 3),(pc o3 4),(.setn (.o 24579) (pi 0) 1 (pi 11))])]
 (.ret (.pick (.r 131) (aq (.r 135) (pi 13)) pF)))))))))))))))))))
theorem Yn:Fy.map told=some (Q6,[]):=by kernel_rfl
theorem ao5:tree (ae Fy)=Q6:=bo Yn
def Bn:Option PC:=cF [] [] Tryz.f20 20 [0,1,2,24578,3,12291,4,24580,28676,32772,5,65541,69637,73733,77829]
def ao3:PT:=
 (.chk (bF (.llen ZV) cq)
 (.chk (bF (.llen Z8) cq)
 (.ret (.tup [(aw 8 (.setc O0 0 (.mk [(pc Du 0),(pc Du 1),(pc Du 2),(pc Du 3),(pc Du 4),pL,pL,pL]))),(aw 19 (.setc qC 0 (.mk [(pc kX 0),(pc kX 1),(pc kX 2),(pc kX 3),(pc kX 4),(pc kX 5),(pc kX 6),(pc kX 7),(pc kX 8),(pc kX 9),(pc kX 10),(pc kX 11),(pc kX 12),(pc kX 13),(pc kX 14),Z8,pL,pL,pL]))),(.mk [(pc Dw 0),(pc Dw 1),(pc Dw 2),(pc Dw 3),(pc Dw 4),pL])]))))
theorem Yl:Bn.map told=some (ao3,[]):=by kernel_rfl
def xF:Option PC:=cF [10,11,13] [] Tryz.f16 16 [5,7,8,12,15]
def Kt:Nat→PC:=bB xF
def akc (b:Nat→PC):PC:=.block 0 [10,61,62] [] (.loop [10,61] [] (b 0))
def DH (b:Nat→PC):PT:=
 (.ite (aj nU ux)
 (.chk (ax sH nU)
 (.ite (.pick (.pick (pc (.setc sv 0 (pn sH nU)) 2) (bF (pc (.setc sv 0 (pn sH nU)) 1) cW) pF) (bF (pc (.setc sv 0 (pn sH nU)) 1) r4) pF)
 (.ret (pi 0))
 (.next ⟨[(61,(be nU (pi 1)))],[]⟩)))
 (.exit 0 ⟨[(62,(aj nU ux))],[]⟩))
def Rf (b:Nat→PC):PT:=
 (.call ⟨[(10,(pi 0))],[(8,(.mk [r3])),(7,(.mk [r2])),(5,(.mk [r0]))]⟩ [] 19 17 [kL,(aw 19 (.mk [r2])),(aw 6 (.mk [r3]))]
 (.ite (.pick (aU jG (pi 0)) pT (aj r4 (pc o8 3)))
 (.ret (pi 0))
 (.call ⟨[],[]⟩ [] 32 35 [(aw 8 o5),r1,(pi 20),(aw 19 o7),(pc o8 3)]
 (.call ⟨[],[]⟩ [] 33 34 [Ai]
 (.call ⟨[(11,DC)],[]⟩ [] 39 12 [(aw 19 o7),(pc o8 1),(pc o8 3)]
 (.ite (.pick (.pick (aq bG (pi (-1))) pT (aU (pc (.setc IJ 0 wP) 1) (pc o8 2))) pT (aU (pc (.setc IJ 0 wP) 2) (pi (-1))))
 (.ret (pi 0))
 (.brk ⟨[(61,(pi 0)),(60,(.llen (pc o8 5))),(59,(pc o8 5)),(13,(be (pc o8 4) bG))],[]⟩
(akc b)
 (.ite (aX r4 cW)
 (.ret (pi 1))
 (.ret (pi 2))))))))))
def afn (b:Nat→PC):PT×List (Shp×PT):=(Rf b,[(.lp 0 [10,61,62] [] [10,61] [],DH b)])
theorem N5:xF.map told=some (afn (bq xF)):=by kernel_rfl
theorem ape:tree (ae xF)=Rf Kt:=bO N5
theorem Pv:round 0 [10,61,62] [] [10,61] [] (Kt 0)=DH Kt:=bp N5 0 fun _=>rfl
def xE:Option PC:=cF [6,7] [] Tryz.f17 17 [3,4,5,8,28,10]
def Ks:Nat→PC:=bB xE
def akb (b:Nat→PC):PC:=.block 0 [6,30,31] [] (.loop [6,30] [] (b 0))
def DG (b:Nat→PC):PT:=
 (.ite (aj pB nS)
 (.blockS ⟨[],[]⟩ 1 [6,10,32,33,34,35,36] [10]
 (.chk (ax X3 pB)
 (.callc ⟨[],[(10,aad)]⟩ [] 36 (pc aad 0) []
 (.ite pC
 (.ret (pc bT 1))
 (.next ⟨[],[]⟩))))
 (.next ⟨[(30,(be pB (pi 1)))],[]⟩))
 (.exit 0 ⟨[(31,(aj pB nS))],[]⟩))
def Q8 (b:Nat→PC):PT:=
 (.call ⟨[(6,(pi 0))],[(5,(.mk [r2])),(4,(.mk [r1])),(3,(.mk [r0]))]⟩ [] 13 36 [kL,Dt]
 (.ite (aU cW (pi 0))
 (.ret cW)
 (.brk ⟨[(30,(pi 0)),(29,(.llen ZS))],[(28,ZS)]⟩
(akb b)
 (.ret (pi 0)))))
def afm (b:Nat→PC):PT×List (Shp×PT):=(Q8 b,[(.lp 0 [6,30,31] [] [6,30] [],DG b)])
theorem N4:xE.map told=some (afm (bq xE)):=by kernel_rfl
theorem apd:tree (ae xE)=Q8 Ks:=bO N4
theorem Pu:round 0 [6,30,31] [] [6,30] [] (Ks 0)=DG Ks:=bp N4 0 fun _=>rfl
def vk:Option PC:=cF [4,5,6,7,8,11] [] Tryz.f36 36 [2,3,10]
def A4:Nat→PC:=bB vk
def ake (b:Nat→PC):PC:=.block 0 [4,48,49] [] (.loop [4,48] [] (b 0))
def akf (b:Nat→PC):PC:=.block 2 [4,8,62,63] [] (.loop [4,8,62] [] (b 1))
def DI (b:Nat→PC):PT:=
 (.ite (aj me Pg)
 (.blockS ⟨[],[]⟩ 1 [4,6,7,50,51,52,53,54,55,56] []
 (.call ⟨[],[]⟩ [] 54 67 [(aw 8 o2),(aw 19 o3),me]
 (.ite (aU qJ (pi 0))
 (.ret qJ)
 (.next ⟨[],[]⟩)))
 (.next ⟨[(48,(be me (pi 1)))],[]⟩))
 (.exit 0 ⟨[(49,(aj me Pg))],[]⟩))
def DJ (b:Nat→PC):PT:=
 (.ite (aj mg nU)
 (.blockS ⟨[],[]⟩ 3 [4,8,10,64,65,66,67,68,69,70,71,72,73,74,75,76,77,78,79,80] [10]
 (.chk (ax ux mg)
 (.call ⟨[],[(10,(.setc z2 0 (pn ux mg)))]⟩ [] 73 68 [(pc (.setc z2 0 (pn ux mg)) 0),uu,(.llen (pc o3 15))]
 (.ite (.nt DD)
 (.ret (pi 1))
 (.call ⟨[],[]⟩ [] 77 68 [(pc bT 1),(pi 1),Af]
 (.ite (.nt Pl)
 (.ret (pi 3))
 (.next ⟨[(8,(pc bT 0))],[]⟩))))))
 (.next ⟨[(62,(be mg (pi 1)))],[]⟩))
 (.exit 2 ⟨[(63,(aj mg nU))],[]⟩))
def Rm (b:Nat→PC):PT:=
 (.ite (.pick (.pick (.pick (aX (.llen (pc (.mk [r1]) 15)) (pi 40)) pT (aX (.llen (pc (.mk [r1]) 16)) (pi 4))) pT (aX (.llen (pc (.mk [r1]) 17)) (pi 100))) pT (aX (.llen (pc (.mk [r1]) 18)) (pi 200)))
 (.ret (pi 6))
 (.call ⟨[(4,(pi 0))],[(3,(.mk [r1])),(2,(.mk [r0]))]⟩ [] 37 66 [kL,(aw 15 (.mk [r1]))]
 (.ite (aU nT (pi 0))
 (.ret nT)
 (.ite (aq (.llen (pc o3 15)) (pi 0))
 (.ret (pi 14))
 (.brk ⟨[(48,(pi 0)),(47,(.llen (pc o3 15)))],[]⟩
(ake b)
 (.brk ⟨[(62,(pi 0)),(61,(.llen (pc o3 16))),(60,(pc o3 16)),(8,(pi 0))],[]⟩
(akf b)
 (.call ⟨[],[]⟩ [] 84 69 [(aw 8 o2),(aw 19 o3)]
 (.ite (aU Pm (pi 0))
 (.ret Pm)
 (.call ⟨[],[]⟩ [] 89 70 [(aw 19 o3)]
 (.ret r89))))))))))
def afp (b:Nat→PC):PT×List (Shp×PT):=(Rm b,[(.lp 0 [4,48,49] [] [4,48] [],DI b),(.lp 2 [4,8,62,63] [] [4,8,62] [],DJ b)])
theorem Ie:vk.map told=some (afp (bq vk)):=by kernel_rfl
theorem apl:tree (ae vk)=Rm A4:=bO Ie
theorem Pw:round 0 [4,48,49] [] [4,48] [] (A4 0)=DI A4:=bp Ie 0 fun _=>rfl
theorem Px:round 2 [4,8,62,63] [] [4,8,62] [] (A4 1)=DJ A4:=bp Ie 1 fun _=>rfl
def Bo:Option PC:=cF [4,5,6,7,8,54,80,109,118,9,10] [] Tryz.f66 66 [2,3]
def SJ:PT:=
 (.call ⟨[],[(3,(.mk [r1])),(2,(.mk [r0]))]⟩ [] 12 85 [kL]
 (.ite (aU bP (pi 0))
 (.ret bP)
 (.call ⟨[(7,(.llen (pc o2 1))),(6,(.llen (pc o2 3)))],[]⟩ [] 25 86 [(pc o3 0),(.llen (pc o2 3))]
 (.call ⟨[(26,jH)],[]⟩ [(26,true)] 30 86 [(pc o3 1),r6]
 (.call ⟨[(36,(aq (pc o3 2) (pi (-1)))),(32,(.pick j8 pB pF))],[]⟩ [(36,false),(32,true)] 40 86 [(pc o3 2),r6]
 (.call ⟨[(47,(aq (pc o3 11) (pi (-1)))),(43,(.pick Ai (.pick pC pT qG) pF))],[]⟩ [(47,false),(43,true)] 51 86 [(pc o3 11),r6]
 (.blockS ⟨[(8,(.pick sG (.pick Pg pT lg) pF))],[]⟩ 0 [4,54,55,56,57,65,66,72,73,79,80,81,82,83,84,88,89,93,94,98,99,103,104,108,109,110,111,112,113,117,118,119,120,121,122,126,127,137,138,142] []
 (.call ⟨[(57,(.nt r8))],[]⟩ [(57,false)] 63 86 [(pc o3 4),(.llen (pc o2 0))]
 (.call ⟨[(66,(.pick Ak pT (.nt IV)))],[]⟩ [(66,false)] 70 86 [(pc o3 9),r7]
 (.call ⟨[(73,(.pick r66 pT (.nt r70)))],[]⟩ [(73,false)] 77 86 [(pc o3 10),r7]
 (.iteS ⟨[],[]⟩ (.pick DD pT (.nt Pl)) [4,80,81,82,83,84,88,89,93,94,98,99,103,104,108,109,110,111,112,113,117,118,119,120,121,122,126,127,137,138,142] []
 (.ret (pi 1))
 (.iteS ⟨[],[]⟩ (.pick (.pick (.pick (.pick (.pick (aj (pc o3 3) (pi 1)) pT (aX (pc o3 3) Af)) pT (aj (pc o3 8) (pi 0))) pT (aX (pc o3 8) (pi 100000))) pT (aj (pc o3 12) (pi 0))) pT (aX (pc o3 12) (pi 1000))) [4,109,110,111,112,113,117,118,119,120,121,122,126,127,137,138,142] []
 (.ret (pi 3))
 (.iteS ⟨[],[]⟩ (.pick (aj (pc o3 14) (pi 1)) pT (aX (pc o3 14) (pi 4))) [4,118,119,120,121,122,126,127,137,138,142] []
 (.ret (pi 15))
 (.call ⟨[(138,(.pick (.pick (aj (pc o3 13) (pi 0)) pT (aX (pc o3 13) (pi 7))) pT (.pick (aU (.ai .and .i64 (pc o3 13) (pi 4)) (pi 0)) (aq (pc o3 2) (pi (-1))) pF)))],[]⟩ [(138,false)] 140 87 [(aw 15 o3)]
 (.ite (.pick (.r 138) pT (.nt (.r 140)))
 (.ret (pi 2))
 (.next ⟨[],[]⟩)))
 (.next ⟨[],[]⟩))
 (.next ⟨[],[]⟩))
 (.next ⟨[],[]⟩)))))
 (.iteS ⟨[],[]⟩ (aq (pc o3 5) (pi 4)) [4] []
 (.call ⟨[],[]⟩ [] 153 88 [(aw 8 o2),(pc o3 9),(pc o3 10)]
 (.ret (.tget (.r 153) 1)))
 (.next ⟨[],[]⟩)
 (.ret (pi 0))))))))))
theorem Zo:Bo.map told=some (SJ,[]):=by kernel_rfl
theorem aqH:tree (ae Bo)=SJ:=bo Zo
def xX:Option PC:=cF [2,3,4,5,6,7,10,11,12] [] Tryz.f85 85 [1,9]
def KH:Nat→PC:=bB xX
def akD (b:Nat→PC):PC:=.block 0 [2,38,39] [] (.loop [2,38] [] (b 0))
def D2 (b:Nat→PC):PT:=
 (.ite (aj gm nT)
 (.blockS ⟨[],[]⟩ 1 [2,9,40,41,42,43,44,45] [9]
 (.chk (ax pC gm)
 (.call ⟨[],[]⟩ [] 44 111 [(pc (.setc IF 0 (pn pC gm)) 0),(pi 10)]
 (.ite (.nt Aj)
 (.ret (pi 1))
 (.next ⟨[],[]⟩))))
 (.next ⟨[(38,(be gm (pi 1)))],[]⟩))
 (.exit 0 ⟨[(39,(aj gm nT))],[]⟩))
def RO (b:Nat→PC):PT:=
 (.call ⟨[(2,(pi 0))],[(1,(.mk [r0]))]⟩ [] 15 106 [kL]
 (.call ⟨[(5,(.tget jF 2)),(4,(.tget jF 1)),(3,(.tget jF 0))],[]⟩ [] 21 107 [(pc o1 0),(pi 8),(.con (.clo 108 []))]
 (.ite (aU qF (pi 0))
 (.ret qF)
 (.call ⟨[],[(1,(aw 8 o1))]⟩ [] 27 107 [r3,(pi 40),(.clo 109 [(.ref (aw 8 o1))])]
 (.ite (aU fW (pi 0))
 (.ret fW)
 (.ite (aX qE (pi 20))
 (.ret (pi 6))
 (.brk ⟨[(38,(pi 0)),(37,qE),(36,(pc o1 2))],[]⟩
(akD b)
 (.call ⟨[],[]⟩ [] 49 107 [r4,(pi 200),(.clo 112 [(.ref o1)])]
 (.ite (aU pD (pi 0))
 (.ret pD)
 (.call ⟨[],[]⟩ [] 55 107 [r5,(pi 20),(.clo 113 [(.ref o1)])]
 (.ite (aU wQ (pi 0))
 (.ret wQ)
 (.call ⟨[],[]⟩ [] 60 115 [(.sub o1 0 8)]
 (.ite (aU ux (pi 0))
 (.ret ux)
 (.call ⟨[],[]⟩ [] 65 116 [(.sub o1 0 8)]
 (.ret Am)))))))))))))))
def afI (b:Nat→PC):PT×List (Shp×PT):=(RO b,[(.lp 0 [2,38,39] [] [2,38] [],D2 b)])
theorem Oj:xX.map told=some (afI (bq xX)):=by kernel_rfl
theorem apS:tree (ae xX)=RO KH:=bO Oj
theorem PU:round 0 [2,38,39] [] [2,38] [] (KH 0)=D2 KH:=bp Oj 0 fun _=>rfl
def yb:Option PC:=cF [] [] Tryz.f106 106 [1,2,3,4,6,16390,20486,24582,21,8,34,10,12298,16394,47]
def vi:Nat→PC:=bB yb
def akI (b:Nat→PC):PC:=.block 0 [2,14,15] [2] (.loop [2,14] [2] (b 0))
def akJ (b:Nat→PC):PC:=.block 2 [3,27,28] [3] (.loop [3,27] [3] (b 1))
def akK (b:Nat→PC):PC:=.block 4 [4,40,41] [4] (.loop [4,40] [4] (b 2))
def I9 (b:Nat→PC):PT:=
 (.ite sC
 (.chk (ax bP cv)
 (.chk (bF (.llen ZY) cq)
 (.next ⟨[(2,pN),(14,(be cv (pi 1)))],[(2,ZY)]⟩)))
 (.exit 0 ⟨[(15,sC)],[]⟩))
def Ja (b:Nat→PC):PT:=
 (.ite (aj fW j8)
 (.chk (ax jH fW)
 (.chk (bF (.llen Z4) cq)
 (.next ⟨[(3,pN),(27,(be fW (pi 1)))],[(3,Z4)]⟩)))
 (.exit 2 ⟨[(28,(aj fW j8))],[]⟩))
def Jb (b:Nat→PC):PT:=
 (.ite (aj qG wP)
 (.chk (ax gm qG)
 (.chk (bF (.llen Z0) cq)
 (.next ⟨[(4,pN),(40,(be qG (pi 1)))],[(4,Z0)]⟩)))
 (.exit 4 ⟨[(41,(aj qG wP))],[]⟩))
def R0 (b:Nat→PC):PT:=
 (.brk ⟨[(14,(pi 0)),(13,(.llen wM)),(12,wM),(4,pN),(3,pN),(2,pN)],[(4,pL),(3,pL),(2,pL),(1,(.mk [r0]))]⟩
(akI b)
 (.brk ⟨[(27,(pi 0)),(26,mW),(25,(pc o1 3))],[]⟩
(akJ b)
 (.brk ⟨[(40,(pi 0)),(39,nQ),(38,(pc o1 4))],[]⟩
(akK b)
 (.ret (.tup [o2,o3,o4])))))
def afN (b:Nat→PC):PT×List (Shp×PT):=(R0 b,[(.lp 0 [2,14,15] [2] [2,14] [2],I9 b),(.lp 2 [3,27,28] [3] [3,27] [3],Ja b),(.lp 4 [4,40,41] [4] [4,40] [4],Jb b)])
theorem Dj:yb.map told=some (afN (bq yb)):=by kernel_rfl
theorem ap0:tree (ae yb)=R0 vi:=bO Dj
theorem aav:round 0 [2,14,15] [2] [2,14] [2] (vi 0)=I9 vi:=bp Dj 0 fun _=>rfl
theorem aaw:round 2 [3,27,28] [3] [3,27] [3] (vi 1)=Ja vi:=bp Dj 1 fun _=>rfl
theorem aax:round 4 [4,40,41] [4] [4,40] [4] (vi 2)=Jb vi:=bp Dj 2 fun _=>rfl
def x9:Option PC:=cF [6,7,8] [] Tryz.f107 107 []
def KK:Nat→PC:=bB x9
def akG (b:Nat→PC):PC:=.block 0 [6,15,16] [] (.loop [6,15] [] (b 0))
def D5 (b:Nat→PC):PT:=
 (.ite (aj jF cv)
 (.blockS ⟨[],[]⟩ 1 [6,7,8,17,18,19,20,21,22,24,25,26,27] []
 (.call ⟨[(7,jF)],[]⟩ [] 20 135 [r0,jF]
 (.ite (aU fV (pi 0))
 (.ret fV)
 (.callc ⟨[],[]⟩ [] 26 r2 [r7]
 (.ite (.nt j8)
 (.ret (pi 1))
 (.next ⟨[],[]⟩)))))
 (.next ⟨[(15,(be jF (pi 1)))],[]⟩))
 (.exit 0 ⟨[(16,(aj jF cv))],[]⟩))
def RW (b:Nat→PC):PT:=
 (.ite (aX (.llen r0) r1)
 (.ret (pi 6))
 (.brk ⟨[(15,(pi 0)),(14,(.llen r0)),(6,(pi 0))],[]⟩
(akG b)
 (.ret (pi 0))))
def afL (b:Nat→PC):PT×List (Shp×PT):=(RW b,[(.lp 0 [6,15,16] [] [6,15] [],D5 b)])
theorem Om:x9.map told=some (afL (bq x9)):=by kernel_rfl
theorem apW:tree (ae x9)=RW KK:=bO Om
theorem PX:round 0 [6,15,16] [] [6,15] [] (KK 0)=D5 KK:=bp Om 0 fun _=>rfl
def F3:Option PC:=cF [4] [] Tryz.f135 135 []
def RZ:PT:=
 (.chk (ax r0 r1)
 (.call ⟨[],[]⟩ [] 9 151 [(pn r0 r1)]
 (.ite (.nt r9)
 (.ret (pi 2))
 (.chk (.slok r0 (pi 0) r1)
 (.chk (ax r0 r1)
 (.call ⟨[],[]⟩ [] 18 152 [(.slc r0 (pi 0) r1),(pn r0 r1)]
 (.ite lf
 (.ret (pi 5))
 (.ret (pi 0)))))))))
theorem YR:F3.map told=some (RZ,[]):=by kernel_rfl
theorem apZ:tree (ae F3)=RZ:=bo YR
def ya:Option PC:=cF [2,3,4,5] [] Tryz.f151 151 []
def KL:Nat→PC:=bB ya
def akH (b:Nat→PC):PC:=.block 0 [2,16,17] [] (.loop [2,16] [] (b 0))
def D6 (b:Nat→PC):PT:=
 (.ite (aj dP jF)
 (.chk (ax cv dP)
 (.ite (.pick (.nt (.pick (.pick (dc (pn cv dP) (.con (.v (.int .u8 97)))) (bF (pn cv dP) (.con (.v (.int .u8 122)))) pF) pT (.pick (dc (pn cv dP) (.con (.v (.int .u8 65)))) (bF (pn cv dP) (.con (.v (.int .u8 90)))) pF))) (.pick (aq dP (pi 0)) pT (.pick (aU (pn cv dP) (.con (.v (.int .u8 95)))) (.pick (aj (pn cv dP) (.con (.v (.int .u8 48)))) pT (aX (pn cv dP) (.con (.v (.int .u8 57))))) pF)) pF)
 (.ret pF)
 (.next ⟨[(16,(be dP (pi 1)))],[]⟩)))
 (.exit 0 ⟨[(17,(aj dP jF))],[]⟩))
def RY (b:Nat→PC):PT:=
 (.ite (.pick (.cs .eql r0 (.con (.v (.string ⟨#[]⟩)))) pT (aX (.slen r0) (pi 20)))
 (.ret pF)
 (.chk (bF (.slen r0) cq)
 (.brk ⟨[(16,(pi 0)),(15,(.llen (.bytes r0))),(14,(.bytes r0)),(2,pF)],[]⟩
(akH b)
 (.ret pT))))
def afM (b:Nat→PC):PT×List (Shp×PT):=(RY b,[(.lp 0 [2,16,17] [] [2,16] [],D6 b)])
theorem On:ya.map told=some (afM (bq ya)):=by kernel_rfl
theorem apY:tree (ae ya)=RY KL:=bO On
theorem PY:round 0 [2,16,17] [] [2,16] [] (KL 0)=D6 KL:=bp On 0 fun _=>rfl
def Gb:Option PC:=cF [4] [] Tryz.f152 152 []
def Sf:PT:=
 (.call ⟨[],[]⟩ [] 7 165 [r0,r1]
 (.ret (dc r7 (pi 0))))
theorem YZ:Gb.map told=some (Sf,[]):=by kernel_rfl
theorem aqg:tree (ae Gb)=Sf:=bo YZ
def yq:Option PC:=cF [4,5] [] Tryz.f165 165 []
def KT:Nat→PC:=bB yq
def ak4 (b:Nat→PC):PC:=.block 0 [4,8,9] [] (.loop [4,8] [] (b 0))
def El (b:Nat→PC):PT:=
 (.ite (aj r8 r7)
 (.chk (ax r0 r8)
 (.ite (.cs .eql r1 (pn r0 r8))
 (.ret r8)
 (.next ⟨[(8,uu)],[]⟩)))
 (.exit 0 ⟨[(9,(aj r8 r7))],[]⟩))
def Sm (b:Nat→PC):PT:=
 (.brk ⟨[(8,(pi 0)),(7,(.llen r0)),(4,(pi 0))],[]⟩
(ak4 b)
 (.ret (pi (-1))))
def af1 (b:Nat→PC):PT×List (Shp×PT):=(Sm b,[(.lp 0 [4,8,9] [] [4,8] [],El b)])
theorem Oy:yq.map told=some (af1 (bq yq)):=by kernel_rfl
theorem aqm:tree (ae yq)=Sm KT:=bO Oy
theorem Qf:round 0 [4,8,9] [] [4,8] [] (KT 0)=El KT:=bp Oy 0 fun _=>rfl
def FX:Option PC:=cF [2] [] Tryz.f108 108 []
def RP:PT:=
 (.ret pT)
theorem YL:FX.map told=some (RP,[]):=by kernel_rfl
theorem apO:tree (ae FX)=RP:=bo YL
def FY:Option PC:=cF [3] [] Tryz.f109 109 []
def RQ:PT:=
 (.chk (ax (pc (.deref r1) 1) r0)
 (.call ⟨[],[]⟩ [] 10 110 [(.deref r1),(pn (pc (.deref r1) 1) r0)]
 (.ret de)))
theorem YM:FY.map told=some (RQ,[]):=by kernel_rfl
theorem apP:tree (ae FY)=RQ:=bo YM
def xZ:Option PC:=cF [4,6] [] Tryz.f110 110 [2,3]
def KJ:Nat→PC:=bB xZ
def akF (b:Nat→PC):PC:=.block 0 [4,10,11] [] (.loop [4,10] [] (b 0))
def D4 (b:Nat→PC):PT:=
 (.ite (aj de r9)
 (.chk (ax r8 de)
 (.chk (aU (pi 100) (pi 0))
 (.chk (.nt (.an (.an (.nt (aj OY (pi 1))) pT) (.nt (aU (pi 100) (pi 0)))))
 (.ite (.pick (aj OY (pi 1)) pT (aX OY (pi 31)))
 (.ret pF)
 (.next ⟨[(10,(be de (pi 1)))],[]⟩)))))
 (.exit 0 ⟨[(11,(aj de r9))],[]⟩))
def RV (b:Nat→PC):PT:=
 (.brk ⟨[(10,(pi 0)),(9,(.llen (pc (.mk [r1]) 4))),(8,(pc (.mk [r1]) 4)),(4,pF)],[(3,(.mk [r1])),(2,(.mk [r0]))]⟩
(akF b)
 (.call ⟨[(33,(.pick (aX (.llen (pc o3 4)) (pi 60)) pT (aX (.llen (pc o3 5)) (pi 200))))],[]⟩ [(33,false)] 39 111 [(pc o3 1),(.llen (pc o2 4))]
 (.call ⟨[(42,(.pick DC pT (.nt wP)))],[]⟩ [(42,false)] 48 111 [(pc o3 2),(.llen (pc o2 0))]
 (.ite (.pick sF pT (.nt me))
 (.ret pF)
 (.call ⟨[],[]⟩ [] 53 136 [(pc o3 3),(pi 0),(pi 6)]
 (.call ⟨[(54,Ph)],[]⟩ [(54,true)] 57 136 [(pc o3 4),(pi 101),(pi 1231)]
 (.call ⟨[(59,(.pick qJ Ak pF))],[]⟩ [(59,true)] 62 136 [(pc o3 5),(pi 0),(pi 100000)]
 (.ret (.pick sH mg pF)))))))))
def afK (b:Nat→PC):PT×List (Shp×PT):=(RV b,[(.lp 0 [4,10,11] [] [4,10] [],D4 b)])
theorem Ol:xZ.map told=some (afK (bq xZ)):=by kernel_rfl
theorem apV:tree (ae xZ)=RV KJ:=bO Ol
theorem PW:round 0 [4,10,11] [] [4,10] [] (KJ 0)=D4 KJ:=bp Ol 0 fun _=>rfl
def F2:Option PC:=cF [4] [] Tryz.f111 111 []
def RX:PT:=
 (.ret Pb)
theorem YQ:F2.map told=some (RX,[]):=by kernel_rfl
theorem apX:tree (ae F2)=RX:=bo YQ
def ye:Option PC:=cF [6,7,8] [] Tryz.f136 136 []
def KM:Nat→PC:=bB ye
def akP (b:Nat→PC):PC:=.block 0 [6,11,12] [] (.loop [6,11] [] (b 0))
def uA (b:Nat→PC):PT:=
 (.ite (aj bG de)
 (.chk (ax r9 bG)
 (.chk (.nt (.an (.an (aX bG (pi 0)) (.an (.nt (.pick (aj (pn r9 bG) r1) pT (aX (pn r9 bG) r2))) pT)) (.nt (ax r0 (bW bG (pi 1))))))
 (.ite (.pick (.pick (aj (pn r9 bG) r1) pT (aX (pn r9 bG) r2)) pT (.pick (aX bG (pi 0)) (bF (pn r9 bG) (pn r0 (bW bG (pi 1)))) pF))
 (.ret pF)
 (.next ⟨[(11,(be bG (pi 1)))],[]⟩))))
 (.exit 0 ⟨[(12,(aj bG de))],[]⟩))
def R3 (b:Nat→PC):PT:=
 (.brk ⟨[(11,(pi 0)),(10,(.llen r0)),(9,r0),(6,pF)],[]⟩
(akP b)
 (.ret pT))
def afQ (b:Nat→PC):PT×List (Shp×PT):=(R3 b,[(.lp 0 [6,11,12] [] [6,11] [],uA b)])
theorem Oo:ye.map told=some (afQ (bq ye)):=by kernel_rfl
theorem ap3:tree (ae ye)=R3 KM:=bO Oo
theorem Ar:round 0 [6,11,12] [] [6,11] [] (KM 0)=uA KM:=bp Oo 0 fun _=>rfl
def FZ:Option PC:=cF [3] [] Tryz.f112 112 []
def RR:PT:=
 (.chk (ax (pc (.deref r1) 3) r0)
 (.call ⟨[],[]⟩ [] 13 111 [(pc (pn (pc (.deref r1) 3) r0) 1),(.llen (pc (.deref r1) 1))]
 (.chk (.nt (.an (.an cW pT) (.nt (ax (pc (.deref r1) 3) r0))))
 (.call ⟨[(14,cW)],[]⟩ [(14,true)] 24 111 [(pc (pn (pc (.deref r1) 3) r0) 2),(.llen (pc (.deref r1) 2))]
 (.ret (.pick cv nR pF))))))
theorem YN:FZ.map told=some (RR,[]):=by kernel_rfl
theorem apQ:tree (ae FZ)=RR:=bo YN
def F0:Option PC:=cF [3] [] Tryz.f113 113 []
def RS:PT:=
 (.chk (ax (pc (.deref r1) 4) r0)
 (.call ⟨[],[]⟩ [] 9 114 [(pn (pc (.deref r1) 4) r0)]
 (.ret r9)))
theorem YO:F0.map told=some (RS,[]):=by kernel_rfl
theorem apR:tree (ae F0)=RS:=bo YO
def yc:Option PC:=cF [2] [] Tryz.f114 114 [1,3,4,6,19,8,16392,36]
def Bb:Nat→PC:=bB yc
def akL (b:Nat→PC):PC:=.block 0 [2,3,12,13] [3] (.loop [2,3,12] [3] (b 0))
def akM (b:Nat→PC):PC:=.block 2 [4,29,30] [4] (.loop [4,29] [4] (b 1))
def D7 (b:Nat→PC):PT:=
 (.ite (aj bP bG)
 (.blockS ⟨[],[]⟩ 1 [2,3,6,14,15,17,18,19,20,21,22,23,24] [6,19,3]
 (.chk (ax de bP)
 (.chk (bF (.llen (.app o3 (.lst [(pc (.setc sv 0 sD) 0)]))) cq)
 (.call ⟨[(3,pN)],[(3,(.app o3 (.lst [(pc (.setc sv 0 sD) 0)])))]⟩ [] 23 111 [(pc (.setc sv 0 sD) 1),(pi 5)]
 (.ite (.nt mX)
 (.ret pF)
 (.next ⟨[],[]⟩)))))
 (.next ⟨[(12,(be bP (pi 1)))],[]⟩))
 (.exit 0 ⟨[(13,(aj bP bG))],[]⟩))
def Jc (b:Nat→PC):PT:=
 (.ite (aj nS sE)
 (.chk (ax fW nS)
 (.chk (bF (.llen Z5) cq)
 (.next ⟨[(4,pN),(29,(be nS (pi 1)))],[(4,Z5)]⟩)))
 (.exit 2 ⟨[(30,(aj nS sE))],[]⟩))
def R1 (b:Nat→PC):PT:=
 (.brk ⟨[(12,(pi 0)),(11,pA),(10,sw),(4,pN),(3,pN),(2,pF)],[(4,pL),(3,pL),(1,(.mk [r0]))]⟩
(akL b)
 (.brk ⟨[(29,(pi 0)),(28,mW),(27,(pc o1 3))],[]⟩
(akM b)
 (.call ⟨[],[]⟩ [] 40 136 [o3,(pi 0),(pi 21)]
 (.call ⟨[(41,qG)],[]⟩ [(41,true)] 43 136 [o4,(pi 0),(pi 21)]
 (.ret (.pick qH sG pF))))))
def afO (b:Nat→PC):PT×List (Shp×PT):=(R1 b,[(.lp 0 [2,3,12,13] [3] [2,3,12] [3],D7 b),(.lp 2 [4,29,30] [4] [4,29] [4],Jc b)])
theorem Il:yc.map told=some (afO (bq yc)):=by kernel_rfl
theorem ap1:tree (ae yc)=R1 Bb:=bO Il
theorem PZ:round 0 [2,3,12,13] [3] [2,3,12] [3] (Bb 0)=D7 Bb:=bp Il 0 fun _=>rfl
theorem aay:round 2 [4,29,30] [4] [4,29] [4] (Bb 1)=Jc Bb:=bp Il 1 fun _=>rfl
def yf:Option PC:=cF [2,3] [] Tryz.f115 115 [1,4,6]
def Bd:Nat→PC:=bB yf
def akQ (b:Nat→PC):PC:=.block 2 [2,50,51] [] (.loop [2,50] [] (b 0))
def akR (b:Nat→PC):PC:=.block 0 [2,14,15] [] (.loop [2,14] [] (b 1))
def As (b:Nat→PC):PT:=
 (.ite (aj mf pD)
 (.chk (ax me mf)
 (.ite (.pick (aq (pc (.setc z3 0 (pn me mf)) 0) (pc o4 0)) (aq (pc (.setc z3 0 (pn me mf)) 1) (pc o4 1)) pF)
 (.ret (pi 5))
 (.next ⟨[(50,(be mf (pi 1)))],[]⟩)))
 (.exit 2 ⟨[(51,(aj mf pD))],[]⟩))
def Ea (b:Nat→PC):PT:=
 (.ite sC
 (.blockS ⟨[(15,sC)],[]⟩ 1 [2,3,4,16,17,18,19,20,21,22,23,24,25,26,34,35,39,40,44,45,46,47,48,49,50,51] [4]
 (.chk (ax bP cv)
 (.call ⟨[(3,cv)],[(4,(.setc z3 0 (pn bP cv)))]⟩ [] 24 111 [(pc (.setc z3 0 (pn bP cv)) 0),la]
 (.call ⟨[(26,(.nt nR))],[]⟩ [(26,false)] 32 111 [(pc o4 1),la]
 (.ite (.pick (.pick (.pick j8 pT (.nt Ai)) pT (aj (pc o4 2) (pi 1))) pT (aX (pc o4 2) (pi 20000)))
 (.ret (pi 1))
 (.chk (.slok (pc o1 5) (pi 0) r3)
 (.brk ⟨[(50,(pi 0)),(49,(.llen (.slc (pc o1 5) (pi 0) r3))),(48,(.slc (pc o1 5) (pi 0) r3))],[]⟩
(akQ b)
 (.next ⟨[],[]⟩)))))))
 (.next ⟨[(14,(be cv (pi 1)))],[]⟩))
 (.exit 0 ⟨[(15,sC)],[]⟩))
def R4 (b:Nat→PC):PT:=
 (.ite (aX (.llen Ag) (pi 100))
 (.ret (pi 6))
 (.brk ⟨[(14,(pi 0)),(13,(.llen Ag)),(12,Ag),(2,(pi 0))],[(1,(.mk [r0]))]⟩
(akR b)
 (.ret (pi 0))))
def afR (b:Nat→PC):PT×List (Shp×PT):=(R4 b,[(.lp 2 [2,50,51] [] [2,50] [],As b),(.lp 0 [2,14,15] [] [2,14] [],Ea b)])
theorem Ip:yf.map told=some (afR (bq yf)):=by kernel_rfl
theorem ap4:tree (ae yf)=R4 Bd:=bO Ip
theorem Jd:round 2 [2,50,51] [] [2,50] [] (Bd 0)=As Bd:=bp Ip 0 fun _=>rfl
theorem P2:round 0 [2,14,15] [] [2,14] [] (Bd 1)=Ea Bd:=bp Ip 1 fun _=>rfl
def yd:Option PC:=cF [2] [] Tryz.f116 116 [1,4,6]
def Bc:Nat→PC:=bB yd
def akN (b:Nat→PC):PC:=.block 0 [2,14,15] [] (.loop [2,14] [] (b 0))
def akO (b:Nat→PC):PC:=.block 2 [2,69,70] [] (.loop [2,69] [] (b 1))
def D8 (b:Nat→PC):PT:=
 (.ite sC
 (.blockS ⟨[],[]⟩ 1 [2,4,16,17,18,19,20,21,22,23,24,25,33,34,40,41,47,48,54,55,60] [4]
 (.chk (ax bP cv)
 (.call ⟨[],[(4,(.setc z5 0 (pn bP cv)))]⟩ [] 23 111 [(pc (.setc z5 0 (pn bP cv)) 0),ur]
 (.call ⟨[(25,(.nt mX))],[]⟩ [(25,false)] 31 111 [(pc o4 1),ur]
 (.call ⟨[(41,(.pick (.pick jH pT (.nt uw)) pT (aq (pc o4 0) (pc o4 1))))],[]⟩ [(41,false)] 45 111 [(bW (pc o4 2) (pi 1)),(pi 1073741824)]
 (.call ⟨[(48,(.pick qH pT (.nt qI)))],[]⟩ [(48,false)] 52 111 [(bW (pc o4 3) (pi 1)),(pi 1073741824)]
 (.call ⟨[(55,(.pick me pT (.nt IU)))],[]⟩ [(55,false)] 58 111 [(pc o4 4),(pi 100001)]
 (.ite (.pick wQ pT (.nt Al))
 (.ret (pi 1))
 (.next ⟨[],[]⟩))))))))
 (.next ⟨[(14,(be cv (pi 1)))],[]⟩))
 (.exit 0 ⟨[(15,sC)],[]⟩))
def D9 (b:Nat→PC):PT:=
 (.ite (aj wR Pj)
 (.blockS ⟨[],[]⟩ 3 [2,6,71,72,73,74,75,76,77,78,79,80,84,85,91,92,96] [6]
 (.chk (ax sI wR)
 (.call ⟨[],[(6,(.setc z3 0 (pn sI wR)))]⟩ [] 78 111 [(pc (.setc z3 0 (pn sI wR)) 0),nQ]
 (.ite (.pick (.pick (.pick (.nt r78) pT (aj (pc o6 1) (pi 0))) pT (aX (pc o6 1) (pc o6 2))) pT (aX (pc o6 2) (pi 100000)))
 (.ret (pi 1))
 (.next ⟨[],[]⟩))))
 (.next ⟨[(69,(be wR (pi 1)))],[]⟩))
 (.exit 2 ⟨[(70,(aj wR Pj))],[]⟩))
def R2 (b:Nat→PC):PT:=
 (.ite (aX (.llen (pc (.mk [r0]) 6)) (pi 100))
 (.ret (pi 6))
 (.brk ⟨[(14,(pi 0)),(13,(.llen (pc (.mk [r0]) 6))),(12,(pc (.mk [r0]) 6)),(2,(pi 0))],[(1,(.mk [r0]))]⟩
(akN b)
 (.ite (aX wO (pi 20))
 (.ret (pi 6))
 (.brk ⟨[(69,(pi 0)),(68,wO),(67,(pc o1 7))],[]⟩
(akO b)
 (.ret (pi 0))))))
def afP (b:Nat→PC):PT×List (Shp×PT):=(R2 b,[(.lp 0 [2,14,15] [] [2,14] [],D8 b),(.lp 2 [2,69,70] [] [2,69] [],D9 b)])
theorem Io:yd.map told=some (afP (bq yd)):=by kernel_rfl
theorem ap2:tree (ae yd)=R2 Bc:=bO Io
theorem P0:round 0 [2,14,15] [] [2,14] [] (Bc 0)=D8 Bc:=bp Io 0 fun _=>rfl
theorem P1:round 2 [2,69,70] [] [2,69] [] (Bc 1)=D9 Bc:=bp Io 1 fun _=>rfl
def Gs:Option PC:=cF [4] [] Tryz.f86 86 []
def SK:PT:=
 (.ret Pb)
theorem Zp:Gs.map told=some (SK,[]):=by kernel_rfl
theorem aqI:tree (ae Gs)=SK:=bo Zp
def Gt:Option PC:=cF [2,8,19,40] [] Tryz.f87 87 [1,3]
def SL:PT:=
 (.ite (.pick (aq (pc kM 0) (pi 0)) (aq (pc kM 0) (pi 0)) (aq (pc kM 0) (pi 4)))
 (.ret (.pick (aq (pc kM 1) (pi 0)) (aq (pc kM 2) (pi 0)) pF))
 (.ite (.pick (aq (pc kM 0) (pi 1)) (aq (pc kM 0) (pi 1)) (aq (pc kM 0) (pi 2)))
 (.ret (.pick (.pick (dc (pc kM 1) (pi 1)) (bF (pc kM 1) (pi 400)) pF) (.pick (aq (pc kM 2) (pi 0)) pT (aq (pc kM 2) (pi 1))) pF))
 (.ite (aq (pc kM 0) (pi 3))
 (.ret (.pick (.pick (dc (pc kM 1) (pc (.mk [r0]) 8)) (bF (pc kM 1) (pi 100000)) pF) (aq (pc kM 2) (pi 0)) pF))
 (.ret pF))))
theorem Zq:Gt.map told=some (SL,[]):=by kernel_rfl
theorem aqJ:tree (ae Gt)=SL:=bo Zq
end Rm
