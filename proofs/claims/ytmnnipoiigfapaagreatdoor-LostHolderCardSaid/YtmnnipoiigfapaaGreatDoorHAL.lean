/-
  The functions of this seat, compiled (1).
-/
import Derived.Test.YtmnnipoiigfapaaGreatDoorHAK
import Derived.KernelRfl
set_option linter.unusedVariables false
set_option maxRecDepth 100000
noncomputable section
namespace Rm
open Go Go.Proofs Cx
def yB:Option PC:=cF [10,11,13,14,16] [] Tryz.f3 3 [5,7,8,12,15,17]
def BV:Nat→PC:=bx yB
def amy (b:Nat→PC):PC:=.block 0 [10,14,53,54,55,56,57,58,61] [] (.loop [10,14] [] (b 0))
def amz (b:Nat→PC):PC:=.block 2 [10,16,88,89,90,91,92] [] (.loop [10,16] [] (b 1))
def Ki (b:Nat→PC):PT:=
 (.ite (.pick (aj cj (pc o7 14)) (aj cj (pi 4)) pF)
 (.blockS ⟨[],[]⟩ 1 [10,64,65,66,67,68,81] []
 (.call ⟨[(68,(aR cj (pc o8 1)))],[]⟩ [(68,true)] 72 12 [(ax 19 Z1),cj,r4]
 (.call ⟨[],[]⟩ [(68,true)] 75 13 [(ax 19 o7),r4]
 (.call ⟨[],[]⟩ [(68,true)] 78 12 [Kb,cj,r4]
 (.call ⟨[],[]⟩ [(68,true)] 79 11 [Bd,Kc]
 (.ite (.pick Ka (.nt r79) pF)
 (.ret pF)
 (.next ⟨[],[]⟩))))))
 (.next ⟨[(14,(bu cj (pi 1)))],[]⟩))
 (.exit 0 ⟨[(53,cj),(54,pN),(55,pN),(56,(pc o7 14)),(57,(aj cj (pc o7 14))),(58,(aj cj (pc o7 14))),(61,(.pick (aj cj (pc o7 14)) (aj cj (pi 4)) pF))],[]⟩))
def EB (b:Nat→PC):PT:=
 (.ite (aj dh (.llen (pc uZ 0)))
 (.blockS ⟨[],[]⟩ 3 [10,95,96,97,98,99,100,101,102] []
 (.chk (ar (pc uZ 0) dh)
 (.call ⟨[],[]⟩ [] 102 14 [(ax 19 o7),(pn (pc uZ 0) dh),r4]
 (.ite apK
 (.ret bF)
 (.next ⟨[],[]⟩))))
 (.next ⟨[(16,(bu dh (pi 1)))],[]⟩))
 (.exit 2 ⟨[(88,dh),(89,pN),(90,(pc uZ 0)),(91,(.llen (pc uZ 0))),(92,(aj dh (.llen (pc uZ 0))))],[]⟩))
def SG (b:Nat→PC):PT:=
 (.call ⟨[(10,pF)],[(8,(.mk [r3])),(7,(.mk [r2])),(5,(.mk [r0]))]⟩ [] 18 7 []
 (.call ⟨[(11,kz)],[]⟩ [] 22 8 [(ax 8 o5),(ax 19 o7),(ax 6 o8)]
 (.ite (.nt J6)
 (.ret bF)
 (.call ⟨[],[]⟩ [] 31 9 [(ax 8 o5),r1,(ax 19 o7),(ax 6 o8),r4]
 (.ite (aR (.tget rq 1) (pi 0))
 (.ret (.pick (.pick bF (af (.llen (pc JR 15)) (pi 0)) pF) (af (.llen (pc JR 17)) (pi 0)) pF))
 (.call ⟨[],[(12,JR)]⟩ [] 51 10 [(ax 8 o5),(ax 19 JR)]
 (.ite (aR la (pi 0))
 (.ret pF)
 (.brk ⟨[(14,(pi 0))],[]⟩
(amy b)
 (.call ⟨[],[]⟩ [] 87 12 [(ax 19 o7),(pc o8 1),(pc o8 3)]
 (.brk ⟨[(16,(pi 0))],[(15,(.setc A6 0 Ey))]⟩
(amz b)
 (.call ⟨[],[]⟩ [] 108 12 [(ax 19 Z1),(pc o8 1),r4]
 (.call ⟨[(134,(.pick (.pick (.pick (.pick bF (af (pc El 1) (pc o8 2)) pF) (af (pc El 2) (pi (-1))) pF) (.nt (pc El 3)) pF) (af (pc El 4) (pc uZ 4)) pF))],[]⟩ [(134,true)] 139 15 [(pc El 0),(pc uZ 0)]
 (.ret (.pick (.r 134) (.r 139) pF))))))))))))))
def ahz (b:Nat→PC):PT×List (Shp×PT):=(SG b,[(.lp 0 [10,14,53,54,55,56,57,58,61] [] [10,14] [],Ki b),(.lp 2 [10,16,88,89,90,91,92] [] [10,16] [],EB b)])
theorem Jr:yB.map told=some (ahz (br yB)):=by kernel_rfl
theorem arT:tree (ae yB)=SG BV:=bN Jr
theorem acB:round 0 [10,14,53,54,55,56,57,58,61] [] [10,14] [] (BV 0)=Ki BV:=bj Jr 0 fun _=>rfl
theorem Q6:round 2 [10,16,88,89,90,91,92] [] [10,16] [] (BV 1)=EB BV:=bj Jr 1 fun _=>rfl
def GA:Option PC:=cF [0,4,6,8,9,10,1000003] [] Tryz.f7 7 [1,2,3,24579,5]
def SI:PT:=
 (.call ⟨[],[]⟩ [] 12 20 []
 (.call ⟨[],[(3,ack),(2,(.setc oC 0 (.tget cg 1))),(1,(.setc QG 0 (.tget cg 0))),(24579,pL)]⟩ [] 19 16 [(ax 8 (.setc QG 0 (.tget cg 0))),(pi 0),(ax 19 (.setc oC 0 (.tget cg 1))),(ax 6 ack),(pi 41)]
 (.call ⟨[(21,(af jz (pi 2)))],[]⟩ [(21,true)] 25 16 [(ax 8 o1),(pi 0),(ax 19 o2),(ax 6 o3),(pi 42)]
 (.call ⟨[(28,(.pick rp (af iX (pi 2)) pF))],[]⟩ [(28,true)] 32 16 [(ax 8 o1),(pi 0),(ax 19 o2),(ax 6 o3),(pi 43)]
 (.call ⟨[(4,(.pick qh (af A8 (pi 1)) pF))],[]⟩ [] 39 9 [(ax 8 o1),(pi 0),(ax 19 o2),(ax 6 o3),(pi 43)]
 (.call ⟨[(6,(.tget xN 1))],[(5,(.setc oC 0 (.tget xN 0)))]⟩ [] 46 9 [(ax 8 o1),(pi 0),(ax 19 o2),(ax 6 o3),(pi 42)]
 (.call ⟨[(8,(.tget J7 1))],[(24579,(.lst [(.mk [(pi 1),(pi 42),pT])])),(3,(.setc o3 5 pN))]⟩ [] 55 16 [(ax 8 o1),(pi 0),(ax 19 o2),(.mk [(pc (.setc o3 5 pN) 0),(pc (.setc o3 5 pN) 1),(pc (.setc o3 5 pN) 2),(pc (.setc o3 5 pN) 3),(pc (.setc o3 5 pN) 4),(.lst [(.mk [(pi 1),(pi 42),pT])])]),(pi 41)]
 (.call ⟨[(57,(af xP (pi 2)))],[]⟩ [(57,true)] 61 16 [(ax 8 o1),(pi 0),(ax 19 o2),JY,(pi 42)]
 (.call ⟨[(64,(.pick Bb (af oJ (pi 0)) pF))],[]⟩ [(64,true)] 68 16 [(ax 8 o1),(pi 0),(ax 19 o2),JY,(pi 43)]
 (.chk (ar (.o 24579) (pi 0))
 (.call ⟨[(9,(.pick lL (af Ka (pi 0)) pF))],[(24579,(.setn (.o 24579) (pi 0) 1 (pi 43)))]⟩ [] 78 16 [(ax 8 o1),(pi 0),(ax 19 o2),(.mk [(pc o3 0),(pc o3 1),(pc o3 2),(pc o3 3),(pc o3 4),(.setn (.o 24579) (pi 0) 1 (pi 43))]),(pi 42)]
 (.call ⟨[(80,(af Kc (pi 2)))],[]⟩ [(80,true)] 84 16 [(ax 8 o1),(pi 0),(ax 19 o2),JY,(pi 43)]
 (.call ⟨[(87,(.pick vi (af QX (pi 1)) pF))],[]⟩ [(87,true)] 91 17 [(ax 8 o1),(ax 19 o2),JY]
 (.chk (ar (.o 24579) (pi 0))
 (.ite (.pick (.pick (.pick (aR r6 (pi 0)) pT (aR r8 (pi 7))) pT (aR (.llen (pc o5 17)) (pi 1))) pT (aR (.llen (pc o5 15)) (pi 2)))
 (.ret pF)
 (.chk (.nt (.an (.an (.pick (.pick r4 r9 pF) (.pick Ey (af Ke (pi 0)) pF) pF) pT) (.nt (ar (pc o5 17) (pi 0)))))
 (.call ⟨[(131,(.pick (.pick (.pick r4 r9 pF) (.pick Ey (af Ke (pi 0)) pF) pF) (.an (af (pc tu 0) (pi 7)) (.an (af (pc tu 1) (pi 2)) (.an (af (pc tu 2) (pi (-1))) (.an (af (pc tu 3) (pi 0)) (.an (af (pc tu 4) (pi 1)) (.an (af (pc tu 5) (pi 0)) (.an (af (pc tu 6) (pi 43)) (.an (af (pc tu 7) (pi 0)) (.an (af (pc tu 8) (pi 0)) pT))))))))) pF))],[]⟩ [(131,true)] 135 17 [(ax 8 o1),(ax 19 o2),(.mk [(pc o3 0),(pc o3 1),(pc o3 2),(pc o3 3),(pc o3 4),(.setn (.o 24579) (pi 0) 1 (pi 11))])]
 (.ret (.pick (.r 131) (af (.r 135) (pi 13)) pF)))))))))))))))))))
theorem aal:GA.map told=some (SI,[]):=by kernel_rfl
theorem arW:tree (ae GA)=SI:=ba aal
def Cg:Option PC:=cF [] [] Tryz.f20 20 [0,1,2,24578,3,12291,4,24580,28676,32772,5,65541,69637,73733,77829]
def arU:PT:=
 (.chk (bU (.llen ab3) cL)
 (.chk (bU (.llen acj) cL)
 (.ret (.tup [(ax 8 (.setc QG 0 (.mk [(pc En 0),(pc En 1),(pc En 2),(pc En 3),(pc En 4),pL,pL,pL]))),(ax 19 (.setc oC 0 (.mk [(pc lH 0),(pc lH 1),(pc lH 2),(pc lH 3),(pc lH 4),(pc lH 5),(pc lH 6),(pc lH 7),(pc lH 8),(pc lH 9),(pc lH 10),(pc lH 11),(pc lH 12),(pc lH 13),(pc lH 14),acj,pL,pL,pL]))),(.mk [(pc Em 0),(pc Em 1),(pc Em 2),(pc Em 3),(pc Em 4),pL])]))))
theorem aaj:Cg.map told=some (arU,[]):=by kernel_rfl
def yE:Option PC:=cF [10,11,13] [] Tryz.f16 16 [5,7,8,12,15]
def LX:Nat→PC:=bx yE
def amC (b:Nat→PC):PC:=.block 0 [10,61,62] [] (.loop [10,61] [] (b 0))
def ED (b:Nat→PC):PT:=
 (.ite (aj oJ tC)
 (.chk (ar rA oJ)
 (.ite (.pick (.pick (pc (.setc tp 0 (pn rA oJ)) 2) (bU (pc (.setc tp 0 (pn rA oJ)) 1) dD) pF) (bU (pc (.setc tp 0 (pn rA oJ)) 1) r4) pF)
 (.ret (pi 0))
 (.next ⟨[(61,(bu oJ (pi 1)))],[]⟩)))
 (.exit 0 ⟨[(62,(aj oJ tC))],[]⟩))
def SR (b:Nat→PC):PT:=
 (.call ⟨[(10,(pi 0))],[(8,(.mk [r3])),(7,(.mk [r2])),(5,(.mk [r0]))]⟩ [] 19 17 [jY,(ax 19 (.mk [r2])),(ax 6 (.mk [r3]))]
 (.ite (.pick (aR jz (pi 0)) pT (aj r4 (pc o8 3)))
 (.ret (pi 0))
 (.call ⟨[],[]⟩ [] 32 35 [(ax 8 o5),r1,(pi 20),(ax 19 o7),(pc o8 3)]
 (.call ⟨[],[]⟩ [] 33 34 [A8]
 (.call ⟨[(11,A9)],[]⟩ [] 39 12 [(ax 19 o7),(pc o8 1),(pc o8 3)]
 (.ite (.pick (.pick (af bF (pi (-1))) pT (aR (pc (.setc A6 0 xN) 1) (pc o8 2))) pT (aR (pc (.setc A6 0 xN) 2) (pi (-1))))
 (.ret (pi 0))
 (.brk ⟨[(61,(pi 0)),(60,(.llen (pc o8 5))),(59,(pc o8 5)),(13,(bu (pc o8 4) bF))],[]⟩
(amC b)
 (.ite (aV r4 dD)
 (.ret (pi 1))
 (.ret (pi 2))))))))))
def ahC (b:Nat→PC):PT×List (Shp×PT):=(SR b,[(.lp 0 [10,61,62] [] [10,61] [],ED b)])
theorem PJ:yE.map told=some (ahC (br yE)):=by kernel_rfl
theorem ar5:tree (ae yE)=SR LX:=bN PJ
theorem Q8:round 0 [10,61,62] [] [10,61] [] (LX 0)=ED LX:=bj PJ 0 fun _=>rfl
def yD:Option PC:=cF [6,7] [] Tryz.f17 17 [3,4,5,8,28,10]
def LW:Nat→PC:=bx yD
def amB (b:Nat→PC):PC:=.block 0 [6,30,31] [] (.loop [6,30] [] (b 0))
def EC (b:Nat→PC):PT:=
 (.ite (aj oH mC)
 (.blockS ⟨[],[]⟩ 1 [6,10,32,33,34,35,36] [10]
 (.chk (ar Z2 oH)
 (.callc ⟨[],[(10,abT)]⟩ [] 36 (pc abT 0) []
 (.ite oI
 (.ret (pc cT 1))
 (.next ⟨[],[]⟩))))
 (.next ⟨[(30,(bu oH (pi 1)))],[]⟩))
 (.exit 0 ⟨[(31,(aj oH mC))],[]⟩))
def SK (b:Nat→PC):PT:=
 (.call ⟨[(6,(pi 0))],[(5,(.mk [r2])),(4,(.mk [r1])),(3,(.mk [r0]))]⟩ [] 13 36 [jY,Ek]
 (.ite (aR dD (pi 0))
 (.ret dD)
 (.brk ⟨[(30,(pi 0)),(29,(.llen abZ))],[(28,abZ)]⟩
(amB b)
 (.ret (pi 0)))))
def ahB (b:Nat→PC):PT×List (Shp×PT):=(SK b,[(.lp 0 [6,30,31] [] [6,30] [],EC b)])
theorem PH:yD.map told=some (ahB (br yD)):=by kernel_rfl
theorem ar4:tree (ae yD)=SK LW:=bN PH
theorem Q7:round 0 [6,30,31] [] [6,30] [] (LW 0)=EC LW:=bj PH 0 fun _=>rfl
def we:Option PC:=cF [4,5,6,7,8,11] [] Tryz.f36 36 [2,3,10]
def BW:Nat→PC:=bx we
def amE (b:Nat→PC):PC:=.block 0 [4,48,49] [] (.loop [4,48] [] (b 0))
def amF (b:Nat→PC):PC:=.block 2 [4,8,62,63] [] (.loop [4,8,62] [] (b 1))
def EE (b:Nat→PC):PT:=
 (.ite (aj mE J8)
 (.blockS ⟨[],[]⟩ 1 [4,6,7,50,51,52,53,54,55,56] []
 (.call ⟨[],[]⟩ [] 54 67 [(ax 8 o2),(ax 19 o3),mE]
 (.ite (aR rz (pi 0))
 (.ret rz)
 (.next ⟨[],[]⟩)))
 (.next ⟨[(48,(bu mE (pi 1)))],[]⟩))
 (.exit 0 ⟨[(49,(aj mE J8))],[]⟩))
def EF (b:Nat→PC):PT:=
 (.ite (aj nw oJ)
 (.blockS ⟨[],[]⟩ 3 [4,8,10,64,65,66,67,68,69,70,71,72,73,74,75,76,77,78,79,80] [10]
 (.chk (ar tC nw)
 (.call ⟨[],[(10,(.setc z2 0 (pn tC nw)))]⟩ [] 73 68 [(pc (.setc z2 0 (pn tC nw)) 0),rn,qd]
 (.ite (.nt Ex)
 (.ret (pi 1))
 (.call ⟨[],[]⟩ [] 77 68 [(pc cT 1),(pi 1),oD]
 (.ite (.nt QW)
 (.ret (pi 3))
 (.next ⟨[(8,(pc cT 0))],[]⟩))))))
 (.next ⟨[(62,(bu nw (pi 1)))],[]⟩))
 (.exit 2 ⟨[(63,(aj nw oJ))],[]⟩))
def SZ (b:Nat→PC):PT:=
 (.ite ab2
 (.ret (pi 6))
 (.call ⟨[(4,(pi 0))],[(3,(.mk [r1])),(2,(.mk [r0]))]⟩ [] 37 66 [jY,(ax 15 (.mk [r1]))]
 (.ite (aR mD (pi 0))
 (.ret mD)
 (.ite (af qd (pi 0))
 (.ret (pi 14))
 (.brk ⟨[(48,(pi 0)),(47,qd)],[]⟩
(amE b)
 (.brk ⟨[(62,(pi 0)),(61,AW),(60,(pc o3 16)),(8,(pi 0))],[]⟩
(amF b)
 (.call ⟨[],[]⟩ [] 84 69 [(ax 8 o2),(ax 19 o3)]
 (.ite (aR QX (pi 0))
 (.ret QX)
 (.call ⟨[],[]⟩ [] 89 70 [(ax 19 o3)]
 (.ret r89))))))))))
def ahE (b:Nat→PC):PT×List (Shp×PT):=(SZ b,[(.lp 0 [4,48,49] [] [4,48] [],EE b),(.lp 2 [4,8,62,63] [] [4,8,62] [],EF b)])
theorem Js:we.map told=some (ahE (br we)):=by kernel_rfl
theorem asc:tree (ae we)=SZ BW:=bN Js
theorem Q9:round 0 [4,48,49] [] [4,48] [] (BW 0)=EE BW:=bj Js 0 fun _=>rfl
theorem Ra:round 2 [4,8,62,63] [] [4,8,62] [] (BW 1)=EF BW:=bj Js 1 fun _=>rfl
def Ch:Option PC:=cF [4,5,6,7,8,54,80,109,118,9,10] [] Tryz.f66 66 [2,3]
def UE:PT:=
 (.call ⟨[],[(3,(.mk [r1])),(2,(.mk [r0]))]⟩ [] 12 85 [jY]
 (.ite (aR cg (pi 0))
 (.ret cg)
 (.call ⟨[(7,(.llen (pc o2 1))),(6,(.llen (pc o2 3)))],[]⟩ [] 25 86 [(pc o3 0),(.llen (pc o2 3))]
 (.call ⟨[(26,iX)],[]⟩ [(26,true)] 30 86 [(pc o3 1),r6]
 (.call ⟨[(36,(af (pc o3 2) (pi (-1)))),(32,(.pick jA oH pF))],[]⟩ [(36,false),(32,true)] 40 86 [(pc o3 2),r6]
 (.call ⟨[(47,(af (pc o3 11) (pi (-1)))),(43,(.pick A8 (.pick oI pT qj) pF))],[]⟩ [(47,false),(43,true)] 51 86 [(pc o3 11),r6]
 (.blockS ⟨[(8,(.pick rv (.pick J8 pT la) pF))],[]⟩ 0 [4,54,55,56,57,65,66,72,73,79,80,81,82,83,84,88,89,93,94,98,99,103,104,108,109,110,111,112,113,117,118,119,120,121,122,126,127,137,138,142] []
 (.call ⟨[(57,(.nt r8))],[]⟩ [(57,false)] 63 86 [(pc o3 4),(.llen (pc o2 0))]
 (.call ⟨[(66,(.pick Bb pT (.nt Ew)))],[]⟩ [(66,false)] 70 86 [(pc o3 9),r7]
 (.call ⟨[(73,(.pick r66 pT (.nt QU)))],[]⟩ [(73,false)] 77 86 [(pc o3 10),r7]
 (.iteS ⟨[],[]⟩ (.pick Ex pT (.nt QW)) [4,80,81,82,83,84,88,89,93,94,98,99,103,104,108,109,110,111,112,113,117,118,119,120,121,122,126,127,137,138,142] []
 (.ret (pi 1))
 (.iteS ⟨[],[]⟩ (.pick (.pick (.pick (.pick (.pick (aj (pc o3 3) (pi 1)) pT (aV (pc o3 3) oD)) pT (aj (pc o3 8) (pi 0))) pT (aV (pc o3 8) (pi 100000))) pT (aj (pc o3 12) (pi 0))) pT (aV (pc o3 12) (pi 1000))) [4,109,110,111,112,113,117,118,119,120,121,122,126,127,137,138,142] []
 (.ret (pi 3))
 (.iteS ⟨[],[]⟩ (.pick (aj (pc o3 14) (pi 1)) pT (aV (pc o3 14) (pi 4))) [4,118,119,120,121,122,126,127,137,138,142] []
 (.ret (pi 15))
 (.call ⟨[(138,(.pick (.pick (aj (pc o3 13) (pi 0)) pT (aV (pc o3 13) (pi 7))) pT (.pick (aR (.ai .and .i64 (pc o3 13) (pi 4)) (pi 0)) (af (pc o3 2) (pi (-1))) pF)))],[]⟩ [(138,false)] 140 87 [(ax 15 o3)]
 (.ite (.pick (.r 138) pT (.nt (.r 140)))
 (.ret (pi 2))
 (.next ⟨[],[]⟩)))
 (.next ⟨[],[]⟩))
 (.next ⟨[],[]⟩))
 (.next ⟨[],[]⟩)))))
 (.iteS ⟨[],[]⟩ (af (pc o3 5) (pi 4)) [4] []
 (.call ⟨[],[]⟩ [] 153 88 [(ax 8 o2),(pc o3 9),(pc o3 10)]
 (.ret (.tget (.r 153) 1)))
 (.next ⟨[],[]⟩)
 (.ret (pi 0))))))))))
theorem abn:Ch.map told=some (UE,[]):=by kernel_rfl
theorem atT:tree (ae Ch)=UE:=ba abn
def y1:Option PC:=cF [2,3,4,5,6,7,10,11,12] [] Tryz.f85 85 [1,9]
def Md:Nat→PC:=bx y1
def am9 (b:Nat→PC):PC:=.block 0 [2,38,39] [] (.loop [2,38] [] (b 0))
def E0 (b:Nat→PC):PT:=
 (.ite (aj fQ mD)
 (.blockS ⟨[],[]⟩ 1 [2,9,40,41,42,43,44,45] [9]
 (.chk (ar oI fQ)
 (.call ⟨[],[]⟩ [] 44 111 [(pc (.setc JW 0 (pn oI fQ)) 0),(pi 10)]
 (.ite (.nt xO)
 (.ret (pi 1))
 (.next ⟨[],[]⟩))))
 (.next ⟨[(38,(bu fQ (pi 1)))],[]⟩))
 (.exit 0 ⟨[(39,(aj fQ mD))],[]⟩))
def TK (b:Nat→PC):PT:=
 (.call ⟨[(2,(pi 0))],[(1,(.mk [r0]))]⟩ [] 15 106 [jY]
 (.call ⟨[(5,(.tget kZ 2)),(4,(.tget kZ 1)),(3,(.tget kZ 0))],[]⟩ [] 21 107 [(pc o1 0),(pi 8),(.con (.clo 108 []))]
 (.ite (aR rp (pi 0))
 (.ret rp)
 (.call ⟨[],[(1,(ax 8 o1))]⟩ [] 27 107 [r3,(pi 40),(.clo 109 [(.ref (ax 8 o1))])]
 (.ite (aR fP (pi 0))
 (.ret fP)
 (.ite (aV rl (pi 20))
 (.ret (pi 6))
 (.brk ⟨[(38,(pi 0)),(37,rl),(36,(pc o1 2))],[]⟩
(am9 b)
 (.call ⟨[],[]⟩ [] 49 107 [r4,(pi 200),(.clo 112 [(.ref o1)])]
 (.ite (aR qk (pi 0))
 (.ret qk)
 (.call ⟨[],[]⟩ [] 55 107 [r5,(pi 20),(.clo 113 [(.ref o1)])]
 (.ite (aR xP (pi 0))
 (.ret xP)
 (.call ⟨[],[]⟩ [] 60 115 [(.sub o1 0 8)]
 (.ite (aR tC (pi 0))
 (.ret tC)
 (.call ⟨[],[]⟩ [] 65 116 [(.sub o1 0 8)]
 (.ret Bc)))))))))))))))
def ah0 (b:Nat→PC):PT×List (Shp×PT):=(TK b,[(.lp 0 [2,38,39] [] [2,38] [],E0 b)])
theorem P1:y1.map told=some (ah0 (br y1)):=by kernel_rfl
theorem as0:tree (ae y1)=TK Md:=bN P1
theorem Ru:round 0 [2,38,39] [] [2,38] [] (Md 0)=E0 Md:=bj P1 0 fun _=>rfl
def y6:Option PC:=cF [] [] Tryz.f106 106 [1,2,3,4,6,16390,20486,24582,21,8,34,10,12298,16394,47]
def v9:Nat→PC:=bx y6
def anf (b:Nat→PC):PC:=.block 0 [2,14,15] [2] (.loop [2,14] [2] (b 0))
def ang (b:Nat→PC):PC:=.block 2 [3,27,28] [3] (.loop [3,27] [3] (b 1))
def anh (b:Nat→PC):PC:=.block 4 [4,40,41] [4] (.loop [4,40] [4] (b 2))
def Ky (b:Nat→PC):PT:=
 (.ite tA
 (.chk (ar cg cj)
 (.chk (bU (.llen ab6) cL)
 (.next ⟨[(2,pN),(14,(bu cj (pi 1)))],[(2,ab6)]⟩)))
 (.exit 0 ⟨[(15,tA)],[]⟩))
def Kz (b:Nat→PC):PT:=
 (.ite (aj fP jA)
 (.chk (ar iX fP)
 (.chk (bU (.llen acf) cL)
 (.next ⟨[(3,pN),(27,(bu fP (pi 1)))],[(3,acf)]⟩)))
 (.exit 2 ⟨[(28,(aj fP jA))],[]⟩))
def KA (b:Nat→PC):PT:=
 (.ite (aj qj xN)
 (.chk (ar fQ qj)
 (.chk (bU (.llen aca) cL)
 (.next ⟨[(4,pN),(40,(bu qj (pi 1)))],[(4,aca)]⟩)))
 (.exit 4 ⟨[(41,(aj qj xN))],[]⟩))
def TX (b:Nat→PC):PT:=
 (.brk ⟨[(14,(pi 0)),(13,(.llen xK)),(12,xK),(4,pN),(3,pN),(2,pN)],[(4,pL),(3,pL),(2,pL),(1,(.mk [r0]))]⟩
(anf b)
 (.brk ⟨[(27,(pi 0)),(26,nv),(25,(pc o1 3))],[]⟩
(ang b)
 (.brk ⟨[(40,(pi 0)),(39,oF),(38,(pc o1 4))],[]⟩
(anh b)
 (.ret (.tup [o2,o3,o4])))))
def ah5 (b:Nat→PC):PT×List (Shp×PT):=(TX b,[(.lp 0 [2,14,15] [2] [2,14] [2],Ky b),(.lp 2 [3,27,28] [3] [3,27] [3],Kz b),(.lp 4 [4,40,41] [4] [4,40] [4],KA b)])
theorem Ea:y6.map told=some (ah5 (br y6)):=by kernel_rfl
theorem as8:tree (ae y6)=TX v9:=bN Ea
theorem acM:round 0 [2,14,15] [2] [2,14] [2] (v9 0)=Ky v9:=bj Ea 0 fun _=>rfl
theorem acN:round 2 [3,27,28] [3] [3,27] [3] (v9 1)=Kz v9:=bj Ea 1 fun _=>rfl
theorem acO:round 4 [4,40,41] [4] [4,40] [4] (v9 2)=KA v9:=bj Ea 2 fun _=>rfl
def y4:Option PC:=cF [6,7,8] [] Tryz.f107 107 []
def Mg:Nat→PC:=bx y4
def anc (b:Nat→PC):PC:=.block 0 [6,15,16] [] (.loop [6,15] [] (b 0))
def E3 (b:Nat→PC):PT:=
 (.ite (aj kZ cj)
 (.blockS ⟨[],[]⟩ 1 [6,7,8,17,18,19,20,21,22,24,25,26,27] []
 (.call ⟨[(7,kZ)],[]⟩ [] 20 135 [r0,kZ]
 (.ite (aR eP (pi 0))
 (.ret eP)
 (.callc ⟨[],[]⟩ [] 26 r2 [r7]
 (.ite (.nt jA)
 (.ret (pi 1))
 (.next ⟨[],[]⟩)))))
 (.next ⟨[(15,(bu kZ (pi 1)))],[]⟩))
 (.exit 0 ⟨[(16,(aj kZ cj))],[]⟩))
def TS (b:Nat→PC):PT:=
 (.ite (aV (.llen r0) r1)
 (.ret (pi 6))
 (.brk ⟨[(15,(pi 0)),(14,(.llen r0)),(6,(pi 0))],[]⟩
(anc b)
 (.ret (pi 0))))
def ah3 (b:Nat→PC):PT×List (Shp×PT):=(TS b,[(.lp 0 [6,15,16] [] [6,15] [],E3 b)])
theorem P4:y4.map told=some (ah3 (br y4)):=by kernel_rfl
theorem as4:tree (ae y4)=TS Mg:=bN P4
theorem Rx:round 0 [6,15,16] [] [6,15] [] (Mg 0)=E3 Mg:=bj P4 0 fun _=>rfl
def Hh:Option PC:=cF [4] [] Tryz.f135 135 []
def TW:PT:=
 (.chk (ar r0 r1)
 (.call ⟨[],[]⟩ [] 9 151 [(pn r0 r1)]
 (.ite (.nt r9)
 (.ret (pi 2))
 (.chk (.slok r0 (pi 0) r1)
 (.chk (ar r0 r1)
 (.call ⟨[],[]⟩ [] 18 152 [(.slc r0 (pi 0) r1),(pn r0 r1)]
 (.ite kz
 (.ret (pi 5))
 (.ret (pi 0)))))))))
theorem aa0:Hh.map told=some (TW,[]):=by kernel_rfl
theorem as7:tree (ae Hh)=TW:=ba aa0
def y5:Option PC:=cF [2,3,4,5] [] Tryz.f151 151 []
def Mh:Nat→PC:=bx y5
def ane (b:Nat→PC):PC:=.block 0 [2,16,17] [] (.loop [2,16] [] (b 0))
def E4 (b:Nat→PC):PT:=
 (.ite (aj dh kZ)
 (.chk (ar cj dh)
 (.ite (.pick (.nt (.pick (.pick (cX (pn cj dh) (.con (.v (.int .u8 97)))) (bU (pn cj dh) (.con (.v (.int .u8 122)))) pF) pT (.pick (cX (pn cj dh) (.con (.v (.int .u8 65)))) (bU (pn cj dh) (.con (.v (.int .u8 90)))) pF))) (.pick (af dh (pi 0)) pT (.pick (aR (pn cj dh) (.con (.v (.int .u8 95)))) (.pick (aj (pn cj dh) (.con (.v (.int .u8 48)))) pT (aV (pn cj dh) (.con (.v (.int .u8 57))))) pF)) pF)
 (.ret pF)
 (.next ⟨[(16,(bu dh (pi 1)))],[]⟩)))
 (.exit 0 ⟨[(17,(aj dh kZ))],[]⟩))
def TV (b:Nat→PC):PT:=
 (.ite (.pick (.cs .eql r0 (.con (.v (.string ⟨#[]⟩)))) pT (aV (.slen r0) (pi 20)))
 (.ret pF)
 (.chk (bU (.slen r0) cL)
 (.brk ⟨[(16,(pi 0)),(15,(.llen (.bytes r0))),(14,(.bytes r0)),(2,pF)],[]⟩
(ane b)
 (.ret pT))))
def ah4 (b:Nat→PC):PT×List (Shp×PT):=(TV b,[(.lp 0 [2,16,17] [] [2,16] [],E4 b)])
theorem P5:y5.map told=some (ah4 (br y5)):=by kernel_rfl
theorem as6:tree (ae y5)=TV Mh:=bN P5
theorem Ry:round 0 [2,16,17] [] [2,16] [] (Mh 0)=E4 Mh:=bj P5 0 fun _=>rfl
def Hp:Option PC:=cF [4] [] Tryz.f152 152 []
def Ue:PT:=
 (.call ⟨[],[]⟩ [] 7 165 [r0,r1]
 (.ret (cX r7 (pi 0))))
theorem aa8:Hp.map told=some (Ue,[]):=by kernel_rfl
theorem ato:tree (ae Hp)=Ue:=ba aa8
def zk:Option PC:=cF [4,5] [] Tryz.f165 165 []
def Mp:Nat→PC:=bx zk
def anC (b:Nat→PC):PC:=.block 0 [4,8,9] [] (.loop [4,8] [] (b 0))
def Fk (b:Nat→PC):PT:=
 (.ite (aj r8 r7)
 (.chk (ar r0 r8)
 (.ite (.cs .eql r1 (pn r0 r8))
 (.ret r8)
 (.next ⟨[(8,rn)],[]⟩)))
 (.exit 0 ⟨[(9,(aj r8 r7))],[]⟩))
def Uk (b:Nat→PC):PT:=
 (.brk ⟨[(8,(pi 0)),(7,(.llen r0)),(4,(pi 0))],[]⟩
(anC b)
 (.ret (pi (-1))))
def aik (b:Nat→PC):PT×List (Shp×PT):=(Uk b,[(.lp 0 [4,8,9] [] [4,8] [],Fk b)])
theorem Qd:zk.map told=some (aik (br zk)):=by kernel_rfl
theorem atu:tree (ae zk)=Uk Mp:=bN Qd
theorem RQ:round 0 [4,8,9] [] [4,8] [] (Mp 0)=Fk Mp:=bj Qd 0 fun _=>rfl
def Hb:Option PC:=cF [2] [] Tryz.f108 108 []
def TL:PT:=
 (.ret pT)
theorem aaU:Hb.map told=some (TL,[]):=by kernel_rfl
theorem asW:tree (ae Hb)=TL:=ba aaU
def Hc:Option PC:=cF [3] [] Tryz.f109 109 []
def TM:PT:=
 (.chk (ar (pc (.deref r1) 1) r0)
 (.call ⟨[],[]⟩ [] 10 110 [(.deref r1),(pn (pc (.deref r1) 1) r0)]
 (.ret cM)))
theorem aaV:Hc.map told=some (TM,[]):=by kernel_rfl
theorem asX:tree (ae Hc)=TM:=ba aaV
def y3:Option PC:=cF [4,6] [] Tryz.f110 110 [2,3]
def Mf:Nat→PC:=bx y3
def anb (b:Nat→PC):PC:=.block 0 [4,10,11] [] (.loop [4,10] [] (b 0))
def E2 (b:Nat→PC):PT:=
 (.ite (aj cM r9)
 (.chk (ar r8 cM)
 (.chk (aR (pi 100) (pi 0))
 (.chk (.nt (.an (.an (.nt (aj QE (pi 1))) pT) (.nt (aR (pi 100) (pi 0)))))
 (.ite (.pick (aj QE (pi 1)) pT (aV QE (pi 31)))
 (.ret pF)
 (.next ⟨[(10,(bu cM (pi 1)))],[]⟩)))))
 (.exit 0 ⟨[(11,(aj cM r9))],[]⟩))
def TR (b:Nat→PC):PT:=
 (.brk ⟨[(10,(pi 0)),(9,(.llen (pc (.mk [r1]) 4))),(8,(pc (.mk [r1]) 4)),(4,pF)],[(3,(.mk [r1])),(2,(.mk [r0]))]⟩
(anb b)
 (.call ⟨[(33,(.pick (aV (.llen (pc o3 4)) (pi 60)) pT (aV (.llen (pc o3 5)) (pi 200))))],[]⟩ [(33,false)] 39 111 [(pc o3 1),(.llen (pc o2 4))]
 (.call ⟨[(42,(.pick A9 pT (.nt xN)))],[]⟩ [(42,false)] 48 111 [(pc o3 2),(.llen (pc o2 0))]
 (.ite (.pick ru pT (.nt mE))
 (.ret pF)
 (.call ⟨[],[]⟩ [] 53 136 [(pc o3 3),(pi 0),(pi 6)]
 (.call ⟨[(54,QT)],[]⟩ [(54,true)] 57 136 [(pc o3 4),(pi 101),(pi 1231)]
 (.call ⟨[(59,(.pick rz Bb pF))],[]⟩ [(59,true)] 62 136 [(pc o3 5),(pi 0),(pi 100000)]
 (.ret (.pick rA nw pF)))))))))
def ah2 (b:Nat→PC):PT×List (Shp×PT):=(TR b,[(.lp 0 [4,10,11] [] [4,10] [],E2 b)])
theorem P3:y3.map told=some (ah2 (br y3)):=by kernel_rfl
theorem as3:tree (ae y3)=TR Mf:=bN P3
theorem Rw:round 0 [4,10,11] [] [4,10] [] (Mf 0)=E2 Mf:=bj P3 0 fun _=>rfl
def Hg:Option PC:=cF [4] [] Tryz.f111 111 []
def TU:PT:=
 (.ret J0)
theorem aaZ:Hg.map told=some (TU,[]):=by kernel_rfl
theorem as5:tree (ae Hg)=TU:=ba aaZ
def y9:Option PC:=cF [6,7,8] [] Tryz.f136 136 []
def Mi:Nat→PC:=bx y9
def anm (b:Nat→PC):PC:=.block 0 [6,11,12] [] (.loop [6,11] [] (b 0))
def vk (b:Nat→PC):PT:=
 (.ite (aj bF cM)
 (.chk (ar r9 bF)
 (.chk (.nt (.an (.an (aV bF (pi 0)) (.an (.nt (.pick (aj (pn r9 bF) r1) pT (aV (pn r9 bF) r2))) pT)) (.nt (ar r0 (bK bF (pi 1))))))
 (.ite (.pick (.pick (aj (pn r9 bF) r1) pT (aV (pn r9 bF) r2)) pT (.pick (aV bF (pi 0)) (bU (pn r9 bF) (pn r0 (bK bF (pi 1)))) pF))
 (.ret pF)
 (.next ⟨[(11,(bu bF (pi 1)))],[]⟩))))
 (.exit 0 ⟨[(12,(aj bF cM))],[]⟩))
def T2 (b:Nat→PC):PT:=
 (.brk ⟨[(11,(pi 0)),(10,(.llen r0)),(9,r0),(6,pF)],[]⟩
(anm b)
 (.ret pT))
def ah8 (b:Nat→PC):PT×List (Shp×PT):=(T2 b,[(.lp 0 [6,11,12] [] [6,11] [],vk b)])
theorem P6:y9.map told=some (ah8 (br y9)):=by kernel_rfl
theorem atb:tree (ae y9)=T2 Mi:=bN P6
theorem Bi:round 0 [6,11,12] [] [6,11] [] (Mi 0)=vk Mi:=bj P6 0 fun _=>rfl
def Hd:Option PC:=cF [3] [] Tryz.f112 112 []
def TN:PT:=
 (.chk (ar (pc (.deref r1) 3) r0)
 (.call ⟨[],[]⟩ [] 13 111 [(pc (pn (pc (.deref r1) 3) r0) 1),(.llen (pc (.deref r1) 1))]
 (.chk (.nt (.an (.an dD pT) (.nt (ar (pc (.deref r1) 3) r0))))
 (.call ⟨[(14,dD)],[]⟩ [(14,true)] 24 111 [(pc (pn (pc (.deref r1) 3) r0) 2),(.llen (pc (.deref r1) 2))]
 (.ret (.pick cj oG pF))))))
theorem aaW:Hd.map told=some (TN,[]):=by kernel_rfl
theorem asY:tree (ae Hd)=TN:=ba aaW
def He:Option PC:=cF [3] [] Tryz.f113 113 []
def TO:PT:=
 (.chk (ar (pc (.deref r1) 4) r0)
 (.call ⟨[],[]⟩ [] 9 114 [(pn (pc (.deref r1) 4) r0)]
 (.ret r9)))
theorem aaX:He.map told=some (TO,[]):=by kernel_rfl
theorem asZ:tree (ae He)=TO:=ba aaX
def y7:Option PC:=cF [2] [] Tryz.f114 114 [1,3,4,6,19,8,16392,36]
def B4:Nat→PC:=bx y7
def ani (b:Nat→PC):PC:=.block 0 [2,3,12,13] [3] (.loop [2,3,12] [3] (b 0))
def anj (b:Nat→PC):PC:=.block 2 [4,29,30] [4] (.loop [4,29] [4] (b 1))
def E5 (b:Nat→PC):PT:=
 (.ite (aj cg bF)
 (.blockS ⟨[],[]⟩ 1 [2,3,6,14,15,17,18,19,20,21,22,23,24] [6,19,3]
 (.chk (ar cM cg)
 (.chk (bU (.llen (.app o3 (.lst [(pc (.setc tp 0 tn) 0)]))) cL)
 (.call ⟨[(3,pN)],[(3,(.app o3 (.lst [(pc (.setc tp 0 tn) 0)])))]⟩ [] 23 111 [(pc (.setc tp 0 tn) 1),(pi 5)]
 (.ite (.nt mB)
 (.ret pF)
 (.next ⟨[],[]⟩)))))
 (.next ⟨[(12,(bu cg (pi 1)))],[]⟩))
 (.exit 0 ⟨[(13,(aj cg bF))],[]⟩))
def KB (b:Nat→PC):PT:=
 (.ite (aj mC qh)
 (.chk (ar fP mC)
 (.chk (bU (.llen acg) cL)
 (.next ⟨[(4,pN),(29,(bu mC (pi 1)))],[(4,acg)]⟩)))
 (.exit 2 ⟨[(30,(aj mC qh))],[]⟩))
def TY (b:Nat→PC):PT:=
 (.brk ⟨[(12,(pi 0)),(11,qf),(10,tq),(4,pN),(3,pN),(2,pF)],[(4,pL),(3,pL),(1,(.mk [r0]))]⟩
(ani b)
 (.brk ⟨[(29,(pi 0)),(28,nv),(27,(pc o1 3))],[]⟩
(anj b)
 (.call ⟨[],[]⟩ [] 40 136 [o3,(pi 0),(pi 21)]
 (.call ⟨[(41,qj)],[]⟩ [(41,true)] 43 136 [o4,(pi 0),(pi 21)]
 (.ret (.pick tB rv pF))))))
def ah6 (b:Nat→PC):PT×List (Shp×PT):=(TY b,[(.lp 0 [2,3,12,13] [3] [2,3,12] [3],E5 b),(.lp 2 [4,29,30] [4] [4,29] [4],KB b)])
theorem Jz:y7.map told=some (ah6 (br y7)):=by kernel_rfl
theorem as9:tree (ae y7)=TY B4:=bN Jz
theorem Rz:round 0 [2,3,12,13] [3] [2,3,12] [3] (B4 0)=E5 B4:=bj Jz 0 fun _=>rfl
theorem acP:round 2 [4,29,30] [4] [4,29] [4] (B4 1)=KB B4:=bj Jz 1 fun _=>rfl
def za:Option PC:=cF [2,3] [] Tryz.f115 115 [1,4,6]
def B6:Nat→PC:=bx za
def ann (b:Nat→PC):PC:=.block 2 [2,50,51] [] (.loop [2,50] [] (b 0))
def ano (b:Nat→PC):PC:=.block 0 [2,14,15] [] (.loop [2,14] [] (b 1))
def Bj (b:Nat→PC):PT:=
 (.ite (aj mF qk)
 (.chk (ar mE mF)
 (.ite (.pick (af (pc (.setc z3 0 (pn mE mF)) 0) (pc o4 0)) (af (pc (.setc z3 0 (pn mE mF)) 1) (pc o4 1)) pF)
 (.ret (pi 5))
 (.next ⟨[(50,(bu mF (pi 1)))],[]⟩)))
 (.exit 2 ⟨[(51,(aj mF qk))],[]⟩))
def E8 (b:Nat→PC):PT:=
 (.ite tA
 (.blockS ⟨[(15,tA)],[]⟩ 1 [2,3,4,16,17,18,19,20,21,22,23,24,25,26,34,35,39,40,44,45,46,47,48,49,50,51] [4]
 (.chk (ar cg cj)
 (.call ⟨[(3,cj)],[(4,(.setc z3 0 (pn cg cj)))]⟩ [] 24 111 [(pc (.setc z3 0 (pn cg cj)) 0),lI]
 (.call ⟨[(26,(.nt oG))],[]⟩ [(26,false)] 32 111 [(pc o4 1),lI]
 (.ite (.pick (.pick (.pick jA pT (.nt A8)) pT (aj (pc o4 2) (pi 1))) pT (aV (pc o4 2) (pi 20000)))
 (.ret (pi 1))
 (.chk (.slok (pc o1 5) (pi 0) r3)
 (.brk ⟨[(50,(pi 0)),(49,(.llen (.slc (pc o1 5) (pi 0) r3))),(48,(.slc (pc o1 5) (pi 0) r3))],[]⟩
(ann b)
 (.next ⟨[],[]⟩)))))))
 (.next ⟨[(14,(bu cj (pi 1)))],[]⟩))
 (.exit 0 ⟨[(15,tA)],[]⟩))
def T3 (b:Nat→PC):PT:=
 (.ite (aV (.llen AX) (pi 100))
 (.ret (pi 6))
 (.brk ⟨[(14,(pi 0)),(13,(.llen AX)),(12,AX),(2,(pi 0))],[(1,(.mk [r0]))]⟩
(ano b)
 (.ret (pi 0))))
def ah9 (b:Nat→PC):PT×List (Shp×PT):=(T3 b,[(.lp 2 [2,50,51] [] [2,50] [],Bj b),(.lp 0 [2,14,15] [] [2,14] [],E8 b)])
theorem JB:za.map told=some (ah9 (br za)):=by kernel_rfl
theorem atc:tree (ae za)=T3 B6:=bN JB
theorem KC:round 2 [2,50,51] [] [2,50] [] (B6 0)=Bj B6:=bj JB 0 fun _=>rfl
theorem RD:round 0 [2,14,15] [] [2,14] [] (B6 1)=E8 B6:=bj JB 1 fun _=>rfl
def y8:Option PC:=cF [2] [] Tryz.f116 116 [1,4,6]
def B5:Nat→PC:=bx y8
def ank (b:Nat→PC):PC:=.block 0 [2,14,15] [] (.loop [2,14] [] (b 0))
def anl (b:Nat→PC):PC:=.block 2 [2,69,70] [] (.loop [2,69] [] (b 1))
def E6 (b:Nat→PC):PT:=
 (.ite tA
 (.blockS ⟨[],[]⟩ 1 [2,4,16,17,18,19,20,21,22,23,24,25,33,34,40,41,47,48,54,55,60] [4]
 (.chk (ar cg cj)
 (.call ⟨[],[(4,(.setc z5 0 (pn cg cj)))]⟩ [] 23 111 [(pc (.setc z5 0 (pn cg cj)) 0),vf]
 (.call ⟨[(25,(.nt mB))],[]⟩ [(25,false)] 31 111 [(pc o4 1),vf]
 (.call ⟨[(41,(.pick (.pick iX pT (.nt rq)) pT (af (pc o4 0) (pc o4 1))))],[]⟩ [(41,false)] 45 111 [(bK (pc o4 2) (pi 1)),(pi 1073741824)]
 (.call ⟨[(48,(.pick tB pT (.nt ry)))],[]⟩ [(48,false)] 52 111 [(bK (pc o4 3) (pi 1)),(pi 1073741824)]
 (.call ⟨[(55,(.pick mE pT (.nt J9)))],[]⟩ [(55,false)] 58 111 [(pc o4 4),(pi 100001)]
 (.ite (.pick xP pT (.nt Ev))
 (.ret (pi 1))
 (.next ⟨[],[]⟩))))))))
 (.next ⟨[(14,(bu cj (pi 1)))],[]⟩))
 (.exit 0 ⟨[(15,tA)],[]⟩))
def E7 (b:Nat→PC):PT:=
 (.ite (aj xQ Ka)
 (.blockS ⟨[],[]⟩ 3 [2,6,71,72,73,74,75,76,77,78,79,80,84,85,91,92,96] [6]
 (.chk (ar rB xQ)
 (.call ⟨[],[(6,(.setc z3 0 (pn rB xQ)))]⟩ [] 78 111 [(pc (.setc z3 0 (pn rB xQ)) 0),oF]
 (.ite (.pick (.pick (.pick (.nt Kc) pT (aj (pc o6 1) (pi 0))) pT (aV (pc o6 1) (pc o6 2))) pT (aV (pc o6 2) (pi 100000)))
 (.ret (pi 1))
 (.next ⟨[],[]⟩))))
 (.next ⟨[(69,(bu xQ (pi 1)))],[]⟩))
 (.exit 2 ⟨[(70,(aj xQ Ka))],[]⟩))
def TZ (b:Nat→PC):PT:=
 (.ite (aV (.llen (pc (.mk [r0]) 6)) (pi 100))
 (.ret (pi 6))
 (.brk ⟨[(14,(pi 0)),(13,(.llen (pc (.mk [r0]) 6))),(12,(pc (.mk [r0]) 6)),(2,(pi 0))],[(1,(.mk [r0]))]⟩
(ank b)
 (.ite (aV xM (pi 20))
 (.ret (pi 6))
 (.brk ⟨[(69,(pi 0)),(68,xM),(67,(pc o1 7))],[]⟩
(anl b)
 (.ret (pi 0))))))
def ah7 (b:Nat→PC):PT×List (Shp×PT):=(TZ b,[(.lp 0 [2,14,15] [] [2,14] [],E6 b),(.lp 2 [2,69,70] [] [2,69] [],E7 b)])
theorem JA:y8.map told=some (ah7 (br y8)):=by kernel_rfl
theorem ata:tree (ae y8)=TZ B5:=bN JA
theorem RA:round 0 [2,14,15] [] [2,14] [] (B5 0)=E6 B5:=bj JA 0 fun _=>rfl
theorem RB:round 2 [2,69,70] [] [2,69] [] (B5 1)=E7 B5:=bj JA 1 fun _=>rfl
def HE:Option PC:=cF [4] [] Tryz.f86 86 []
def UF:PT:=
 (.ret J0)
theorem abo:HE.map told=some (UF,[]):=by kernel_rfl
theorem atU:tree (ae HE)=UF:=ba abo
def HF:Option PC:=cF [2,8,19,40] [] Tryz.f87 87 [1,3]
def UG:PT:=
 (.ite (.pick (af (pc gy 0) (pi 0)) (af (pc gy 0) (pi 0)) (af (pc gy 0) (pi 4)))
 (.ret (.pick (af (pc gy 1) (pi 0)) JV pF))
 (.ite (.pick (af (pc gy 0) (pi 1)) (af (pc gy 0) (pi 1)) (af (pc gy 0) (pi 2)))
 (.ret ab7)
 (.ite (af (pc gy 0) (pi 3))
 (.ret (.pick (.pick (cX (pc gy 1) (pc (.mk [r0]) 8)) (bU (pc gy 1) (pi 100000)) pF) JV pF))
 (.ret pF))))
theorem abp:HF.map told=some (UG,[]):=by kernel_rfl
theorem atV:tree (ae HF)=UG:=ba abp
def y2:Option PC:=cF [6,7] [] Tryz.f88 88 [3,9]
def Me:Nat→PC:=bx y2
def ana (b:Nat→PC):PC:=.block 0 [6,7,13,14] [] (.loop [6,7,13] [] (b 0))
def E1 (b:Nat→PC):PT:=
 (.ite (aj dD cg)
 (.chk (ar bF dD)
 (.ite (.pick (af (pc (.setc z3 0 (pn bF dD)) 0) r1) (af (pc (.setc z3 0 (pn bF dD)) 1) r2) pF)
 (.ret (.tup [(pc (.setc z3 0 (pn bF dD)) 2),(pi 0)]))
 (.next ⟨[(13,(bu dD (pi 1)))],[]⟩)))
 (.exit 0 ⟨[(14,(aj dD cg))],[]⟩))
def TQ (b:Nat→PC):PT:=
 (.brk ⟨[(13,(pi 0)),(12,(.llen AX)),(11,AX),(7,(pi 0)),(6,(pi 0))],[]⟩
(ana b)
 (.ret (.tup [(pi 0),(pi 4)])))
def ah1 (b:Nat→PC):PT×List (Shp×PT):=(TQ b,[(.lp 0 [6,7,13,14] [] [6,7,13] [],E1 b)])
theorem P2:y2.map told=some (ah1 (br y2)):=by kernel_rfl
theorem as2:tree (ae y2)=TQ Me:=bN P2
theorem Rv:round 0 [6,7,13,14] [] [6,7,13] [] (Me 0)=E1 Me:=bj P2 0 fun _=>rfl
def yI:Option PC:=cF [6,8,9,76,92,98] [] Tryz.f67 67 [3,4,7,11]
def L2:Nat→PC:=bx yI
def amI (b:Nat→PC):PC:=.block 0 [8,9,51,52] [] (.loop [8,9,51] [] (b 0))
def Ko (b:Nat→PC):PT:=
 (.ite (aj la mF)
 (.chk (ar qk la)
 (.next ⟨[(8,(pc (.setc z9 0 (pn qk la)) 6)),(9,(.pick r9 pT (.pick (.pick (af (pc o7 0) (pi 1)) (af (pc (.setc z9 0 (pn qk la)) 0) (pi 1)) pF) (af (pc (.setc z9 0 (pn qk la)) 1) (pc o7 1)) pF))),(51,(bu la (pi 1)))],[]⟩))
 (.exit 0 ⟨[(52,(aj la mF))],[]⟩))
def Ta (b:Nat→PC):PT:=
 (.chk JT
 (.call ⟨[],[(7,kY),(4,(.mk [r1])),(3,(.mk [r0]))]⟩ [] 23 68 [(pc kY 1),(pi 0),(bK (pc (.mk [r1]) 14) (pi 1))]
 (.ite (.nt mB)
 (.ret (pi 15))
 (.call ⟨[],[]⟩ [] 31 68 [(pc o7 2),(pi 0),xH]
 (.call ⟨[(33,(.nt rq))],[]⟩ [(33,false)] 40 68 [(pc o7 7),(pi 0),(bK (.llen (pc o3 1)) (pi 1))]
 (.ite (.pick A9 pT (.nt qj))
 (.ret (pi 1))
 (.chk (.slok (pc o4 15) (pi 0) r2)
 (.brk ⟨[(51,(pi 0)),(50,(.llen (.slc (pc o4 15) (pi 0) r2))),(49,(.slc (pc o4 15) (pi 0) r2)),(9,pF),(8,(pc o4 8))],[]⟩
(amI b)
 (.blockS ⟨[],[]⟩ 2 [6,76,77,78,79,80,81,82,91,92,93,94,95,96,97,98,99] []
 (.call ⟨[],[]⟩ [] 80 68 [(pc o7 6),r8,(pi 100000)]
 (.iteS ⟨[],[]⟩ (.pick (.nt vi) pT (.pick (af r2 (pi 0)) (aR (pc o7 6) r8) pF)) [6,92,93,94,95,96,97,98,99] []
 (.ret (pi 13))
 (.call ⟨[],[]⟩ [] 96 89 [(ax 8 o3),(ax 19 o4),r2]
 (.ite (.nt r96)
 (.ret (pi 14))
 (.ite r9
 (.ret (pi 5))
 (.next ⟨[],[]⟩))))
 (.next ⟨[],[]⟩)))
 (.ret (pi 0)))))))))))
def ahH (b:Nat→PC):PT×List (Shp×PT):=(Ta b,[(.lp 0 [8,9,51,52] [] [8,9,51] [],Ko b)])
theorem PN:yI.map told=some (ahH (br yI)):=by kernel_rfl
theorem asj:tree (ae yI)=Ta L2:=bN PN
theorem acG:round 0 [8,9,51,52] [] [8,9,51] [] (L2 0)=Ko L2:=bj PN 0 fun _=>rfl
def GQ:Option PC:=cF [6] [] Tryz.f68 68 []
def S9:PT:=
 (.ret (.pick (cX r0 r1) (bU r0 r2) pF))
theorem aaA:GQ.map told=some (S9,[]):=by kernel_rfl
theorem asi:tree (ae GQ)=S9:=ba aaA
end Rm
