/-
  The functions of this seat, compiled (2).
-/
import Derived.Test.YtibbcfbmjlehcaaGreatDoorGAJ
import Derived.KernelRfl
set_option linter.defProp false
set_option linter.unusedVariables false
set_option maxRecDepth 100000
noncomputable section
namespace Rm
open Go Go.Proofs Cx
def K1:Option PC:=cF [2,3,12,20,4,5] [] Tryz.f208 208 [1]
def ZQ:PT:=
 (.ite (aU sJ (pi 0))
 (.ret (.tup [(pi 0),(pi 2)]))
 (.blockS ⟨[(11,j9)],[(1,(.mk [r0]))]⟩ 0 [2,3,12,13,20,21] []
 (.iteS ⟨[],[]⟩ (peq bQ (pi 0)) [2,3,20,21] []
 (.call ⟨[],[]⟩ [] 16 212 [(pc o1 1)]
 (.ite (aJ cA (pc o1 1))
 (.ret (.tup [(pi 0),(pi 3)]))
 (.ret (.tup [(pi 0),(pi 0)]))))
 (.ite (peq bQ (pi 1))
 (.ite (.pick (aj (pc o1 1) (pi 0)) pT (aU (pc o1 1) (pi 1)))
 (.ret (.tup [(pi 0),(pi 3)]))
 (.ret (.tup [(pi 1),(pi 0)])))
 (.next ⟨[],[]⟩))
 (.next ⟨[],[]⟩))
 (.call ⟨[],[]⟩ [] 33 210 [(pc o1 1)]
 (.ite (.nt (.tget uk 1))
 (.ret (.tup [(pi 0),(pi 10)]))
 (.ret (.tup [(.tget uk 0),(pi 0)]))))))
def ahJ:K1.map told=some (ZQ,[]):=by kernel_rfl
def aA6:tree (ab K1)=ZQ:=aW ahJ
def K0:Option PC:=cF [2] [] Tryz.f212 212 []
def ZP:PT:=
 (.ret (.mn (.mx r0 (pi (-1099511627776))) zQ))
def ahI:K0.map told=some (ZP,[]):=by kernel_rfl
def aA5:tree (ab K0)=ZP:=aW ahI
def KX:Option PC:=cF [2,3,4,11] [] Tryz.f210 210 []
def ZL:PT:=
 (.ite (.pick (aj r0 (pi 0)) pT (aU r0 (pi 19)))
 (.ret (.tup [(pi 0),pF]))
 (.ite (aj r0 (pi 7))
 (.ret (.tup [(pi 0),pT]))
 (.ret (.tup [(pi 1),pT]))))
def ahF:KX.map told=some (ZL,[]):=by kernel_rfl
def aA1:tree (ab KX)=ZL:=aW ahF
def K6:Option PC:=cF [4,8,13,17,21] [] Tryz.f209 209 [2]
def ZT:PT:=
 (.ite (peq r0 (pi 3))
 (.ret (.mk [(pc (.setc mH 0 (.mk [(.lst [(pi 1)]),(pi 1)])) 0),(pc (.setc mH 0 (.mk [(.lst [(pi 1)]),(pi 1)])) 1)]))
 (.ite (.pick (peq r0 (pi 4)) (peq r0 (pi 4)) (peq r0 (pi 5)))
 (.ret (.mk [(pc (.setc mH 0 (.mk [(.lst [(pi 1),(pi 1)]),(pi 1)])) 0),(pc (.setc mH 0 (.mk [(.lst [(pi 1),(pi 1)]),(pi 1)])) 1)]))
 (.ite (peq r0 (pi 6))
 (.ret (.mk [(pc ais 0),(pc ais 1)]))
 (.ite (peq r0 (pi 7))
 (.ret (.mk [(pc (.setc mH 0 (.mk [(.lst [(pi 0),(pi 0)]),(pi 1)])) 0),(pc (.setc mH 0 (.mk [(.lst [(pi 0),(pi 0)]),(pi 1)])) 1)]))
 (.ite (peq r0 (pi 8))
 (.ret (.mk [(pc (.setc mH 0 (.mk [(.lst [(pi (-1)),(pi (-1))]),(pi 1)])) 0),(pc (.setc mH 0 (.mk [(.lst [(pi (-1)),(pi (-1))]),(pi 1)])) 1)]))
 (.ret (.mk [(pc (.setc mH 0 (.mk [(.lst [(pi 0),(pi 0)]),(pi 0)])) 0),(pc (.setc mH 0 (.mk [(.lst [(pi 0),(pi 0)]),(pi 0)])) 1)])))))))
def ahM:K6.map told=some (ZT,[]):=by kernel_rfl
def aBa:tree (ab K6)=ZT:=aW ahM
def KW:Option PC:=cF [5,6,8] [] Tryz.f161 161 [2,4,7]
def ZK:PT:=
 (.call ⟨[],[(4,gl),(2,(.mk [r0]))]⟩ [] 11 181 [(.mk [j9,mI,zY])]
 (.ite (aJ (.tget bQ 1) (pi 0))
 (.ret Hl)
 (.call ⟨[],[]⟩ [] 21 182 [(.mk [r1]),(.mk [(pc o2 0),(pc o2 1),(pc o2 2)])]
 (.ret (.mk [(pc ail 0),(pc ail 1)])))))
def ahE:KW.map told=some (ZK,[]):=by kernel_rfl
def aA0:tree (ab KW)=ZK:=aW ahE
def BQ:Option PC:=cF [5,15,21,9,11] [] Tryz.f182 182 [2,3,4,6,33,7,8,10,12298,12]
def QN:Nat->PC:=bm BQ
variable(b:Nat->PC)
def auX:PC:=.block 1 [45,46] [7,8] (.loop [45] [7,8] (b 0))
def Iy (b:Nat->PC):PT:=
 (.ite (aj sN xl)
 (.blockS ⟨[],[]⟩ 2 [9,10,47,48,49,50,51,52,53,54,55,56,57,58,59,60,61] [10,12298,8,7]
 (.chk (aq vz sN)
 (.call ⟨[(54,sN),(52,sN)],[]⟩ [] 57 182 [(.mk [(pc o2 0)]),(.mk [(pc (.setc nH 0 (pn vz sN)) 0),(pc (.setc nH 0 (pn vz sN)) 1),(pc (.setc nH 0 (pn vz sN)) 2)])]
 (.chk (aq o7 Du)
 (.chk (aq o8 mO)
 (.next ⟨[],[(8,(.setn o8 mO 0 (.tget N2 1))),(7,(.setn o7 Du 0 (.tget N2 0)))]⟩)))))
 (.next ⟨[(45,(aE sN (pi 1)))],[]⟩))
 (.exit 1 ⟨[(46,(aj sN xl))],[]⟩))
def IZ:PT:=
 (.blockS ⟨[(14,(pc (.mk [r1]) 0))],[(4,gl),(3,(.mk [r1])),(2,(.mk [r0]))]⟩ 0 [5,15,16,21,22] [4]
 (.iteS ⟨[],[]⟩ (.pick (peq cw (pi 0)) (peq cw (pi 0)) (peq cw (pi 1))) [5,21,22] [4]
 (.ret (.tup [(.mk [(pc (.setc o4 0 (.mk [pT,(pc o3 1)])) 0),(pc (.setc o4 0 (.mk [pT,(pc o3 1)])) 1)]),pL]))
 (.iteS ⟨[],[]⟩ (peq cw (pi 2)) [5] [4]
 (.call ⟨[],[]⟩ [] 26 201 [(.mk [(pc o2 0)]),(pc o3 1)]
 (.ite (pc (.setc gl 0 nJ) 0)
 (.ret (.tup [(.mk [(pc air 0),(pc air 1)]),pL]))
 (.ret (.tup [Hl,(.lst [(pc o3 1)])]))))
 (.next ⟨[],[]⟩)
 (.next ⟨[],[]⟩))
 (.next ⟨[],[]⟩))
 (.chk (.an (bk nI (pi 0)) (bE nI cK))
 (.chk (peq nI nI)
 (.brk ⟨[(45,(pi 0)),(44,nI),(43,(pc o3 2)),(8,pN),(7,pN)],[(8,(.rep nI pL)),(7,(.rep nI gl))]⟩
(auX b)
 (.chk (.nt (.an (.an (peq (pc o3 0) (pi 6)) pT) (.nt (aq o7 (pi 0)))))
 (.ite (.pick (peq (pc o3 0) (pi 6)) (pc (pn o7 (pi 0)) 0) pF)
 (.chk (aq o7 (pi 0))
 (.chk (aq o7 Ho)
 (.chk (aq o8 Ho)
 (.ret (.tup [(.mk [(pc (.setc o4 0 (.sub (pn o7 Ho) 0 2)) 0),(pc (.setc o4 0 (.sub (pn o7 Ho) 0 2)) 1)]),(pn o8 Ho)])))))
 (.call ⟨[],[]⟩ [] 88 202 [(pc o3 0),o7]
 (.ite (pc (.setc gl 0 Dx) 0)
 (.ret (.tup [(.mk [(pc aiq 0),(pc aiq 1)]),pL]))
 (.call ⟨[(92,(.mk [pF,(pi 0)]))],[]⟩ [] 94 203 [o8]
 (.ret (.tup [(.mk [(pc (.setc o4 0 VX) 0),(pc (.setc o4 0 VX) 1)]),r94])))))))))))
def apF:PT×List (Shp×PT):=(IZ b,[(.lp 1 [45,46] [7,8] [45] [7,8],Iy b)])
def U0:BQ.map told=some (apF (bo BQ)):=by kernel_rfl
def aA7:tree (ab BQ)=IZ QN:=bF U0
def WU:round 1 [45,46] [7,8] [45] [7,8] (QN 0)=Iy QN:=bj U0 0 λ_=>rfl
def K4:Option PC:=cF [5,6] [] Tryz.f201 201 [2,4]
def ZR:PT:=
 (.chk (.nt (.an (.an (.nt (bk r1 (.llen j9))) pT) (.nt (aq j9 r1))))
 (.ite (.pick (bk r1 (.llen j9)) pT (.nt (pc (pn j9 r1) 0)))
 (.ret (.mk [(pc (.setc gl 0 (.mk [pF,(pi 0)])) 0),(pc (.setc gl 0 (.mk [pF,(pi 0)])) 1)]))
 (.call ⟨[],[(4,gl),(2,(.mk [r0]))]⟩ [] 24 210 [r1]
 (.iteS ⟨[],[]⟩ (peq (.tget pA 0) (pi 1)) [] [4]
 (.chk (aq (pc o2 0) r1)
 (.call ⟨[],[]⟩ [] 36 211 [(aJ (pc (pn (pc o2 0) r1) 1) (pi 0))]
 (.ret (.mk [(pc (.setc o4 0 lE) 0),(pc (.setc o4 0 lE) 1)]))))
 (.next ⟨[],[]⟩)
 (.chk (aq (pc o2 0) r1)
 (.call ⟨[],[]⟩ [] 43 212 [(pc (pn (pc o2 0) r1) 1)]
 (.ret (.mk [(pc (.setc o4 0 (.mk [pT,vz])) 0),(pc (.setc o4 0 (.mk [pT,vz])) 1)]))))))))
def ahK:K4.map told=some (ZR,[]):=by kernel_rfl
def aA8:tree (ab K4)=ZR:=aW ahK
def K7:Option PC:=cF [] [] Tryz.f211 211 [2]
def ZU:PT:=
 (.ite r0
 (.ret (.mk [(pc NF 0),(pc NF 1)]))
 (.ret (.mk [(pc NG 0),(pc NG 1)])))
def ahN:K7.map told=some (ZU,[]):=by kernel_rfl
def aBb:tree (ab K7)=ZU:=aW ahN
def KZ:Option PC:=cF [9,22,41,6,7,82,88,94] [] Tryz.f202 202 [4,5]
def ZO:PT:=
 (.blockS ⟨[(8,r0)],[(4,gl)]⟩ 0 [9,10,22,23] [4]
 (.iteS ⟨[],[]⟩ (peq r8 (pi 3)) [22,23] [4]
 (.chk (aq r1 (pi 0))
 (.iteS ⟨[],[]⟩ (pc (pn r1 (pi 0)) 0) [] [4]
 (.chk (aq r1 (pi 0))
 (.call ⟨[],[]⟩ [] 20 211 [(peq (pc (pn r1 (pi 0)) 1) (pi 0))]
 (.ret (.mk [(pc (.setc o4 0 fc) 0),(pc (.setc o4 0 fc) 1)]))))
 (.next ⟨[],[]⟩)
 (.ret Hl)))
 (.iteS ⟨[],[]⟩ (.pick (peq r8 (pi 4)) (peq r8 (pi 4)) (peq r8 (pi 5))) [] [4]
 (.call ⟨[],[]⟩ [] 27 211 [(peq r0 (pi 5))]
 (.chk (aq r1 (pi 0))
 (.chk (.nt (.an (.an (.nt aiL) pT) (.nt (aq r1 (pi 1)))))
 (.ite (.pick aiL pT (.an (.cb .eql (pc sG 0) (pc Dj 0)) (.an (peq (pc sG 1) (pc Dj 1)) pT)))
 (.ret (.mk [(pc (.setc o4 0 Dj) 0),(pc (.setc o4 0 Dj) 1)]))
 (.next ⟨[],[]⟩)))))
 (.ite (peq r8 (pi 6))
 (.chk (aq r1 (pi 1))
 (.chk (.nt (.an (.an (pc sG 0) pT) (.nt (aq r1 (pi 1)))))
 (.chk (.nt (.an (.an (pc sG 0) pT) (.nt (aq r1 (pi 2)))))
 (.ite (.pick (pc sG 0) (.an (.cb .eql (pc sG 0) (pc (pn r1 (pi 2)) 0)) (.an (peq (pc sG 1) (pc (pn r1 (pi 2)) 1)) pT)) pF)
 (.ret (.mk [(pc (.setc o4 0 sG) 0),(pc (.setc o4 0 sG) 1)]))
 (.ret Hl)))))
 (.next ⟨[],[]⟩))
 (.next ⟨[],[]⟩))
 (.next ⟨[],[]⟩))
 (.chk (aq r1 (pi 0))
 (.chk (.nt (.an (.an (.nt (.nt (pc (pn r1 (pi 0)) 0))) pT) (.nt (aq r1 (pi 1)))))
 (.ite (.pick (.nt (pc (pn r1 (pi 0)) 0)) pT (.nt (pc sG 0)))
 (.ret Hl)
 (.chk (aq r1 (pi 1))
 (.blockS ⟨[(81,r0),(7,(pc sG 1)),(6,(pc (pn r1 (pi 0)) 1))],[]⟩ 1 [82,83,88,89,94,95] [4]
 (.iteS ⟨[],[]⟩ (.pick (peq vB (pi 4)) (peq vB (pi 4)) (peq vB (pi 5))) [88,89,94,95] [4]
 (.call ⟨[],[]⟩ [] 87 211 [(peq r0 (pi 4))]
 (.ret (.mk [(pc (.setc o4 0 r87) 0),(pc (.setc o4 0 r87) 1)])))
 (.iteS ⟨[],[]⟩ (peq vB (pi 7)) [94,95] [4]
 (.call ⟨[],[]⟩ [] 93 211 [(aj r6 r7)]
 (.ret (.mk [(pc (.setc o4 0 N4) 0),(pc (.setc o4 0 N4) 1)])))
 (.iteS ⟨[],[]⟩ (peq vB (pi 8)) [] [4]
 (.call ⟨[],[]⟩ [] 99 211 [(peq r6 r7)]
 (.ret (.mk [(pc (.setc o4 0 r99) 0),(pc (.setc o4 0 r99) 1)])))
 (.next ⟨[],[]⟩)
 (.next ⟨[],[]⟩))
 (.next ⟨[],[]⟩))
 (.next ⟨[],[]⟩))
 (.call ⟨[],[]⟩ [] 103 213 [r0,r6,r7]
 (.ret (.mk [(pc (.setc o4 0 (.mk [pT,aiO])) 0),(pc (.setc o4 0 (.mk [pT,aiO])) 1)])))))))))
def ahH:KZ.map told=some (ZO,[]):=by kernel_rfl
def aA4:tree (ab KZ)=ZO:=aW ahH
def KY:Option PC:=cF [6,8,14,20,25] [] Tryz.f213 213 []
def ZM:PT:=
 (.blockS ⟨[(7,r0)],[]⟩ 0 [6,8,9,14,15,20,21,25,26] []
 (.iteS ⟨[],[]⟩ (peq r7 (pi 9)) [6,14,15,20,21,25,26] []
 (.call ⟨[],[]⟩ [] 13 212 [(aE r1 r2)]
 (.ret dy))
 (.iteS ⟨[],[]⟩ (peq r7 (pi 10)) [6,20,21,25,26] []
 (.call ⟨[],[]⟩ [] 19 212 [(br r1 r2)]
 (.ret jv))
 (.iteS ⟨[],[]⟩ (peq r7 (pi 11)) [6,25,26] []
 (.call ⟨[],[]⟩ [] 24 215 [r1,r2]
 (.ret pA))
 (.ite (peq r7 (pi 12))
 (.ret (.mn r1 r2))
 (.next ⟨[],[]⟩))
 (.next ⟨[],[]⟩))
 (.next ⟨[],[]⟩))
 (.next ⟨[],[]⟩))
 (.ret (.mx r1 r2)))
def ahG:KY.map told=some (ZM,[]):=by kernel_rfl
def aA2:tree (ab KY)=ZM:=aW ahG
def K5:Option PC:=cF [4,5,6,7] [] Tryz.f215 215 []
def ZS:PT:=
 (.call ⟨[],[]⟩ [] 19 79 [(.conv .u64 (.mx r0 (br (pi 0) r0))),(.conv .u64 (.mx r1 (br (pi 0) r1)))]
 (.ite (.cb .neq (aj r0 (pi 0)) (aj r1 (pi 0)))
 (.ret (br (pi 0) aiz))
 (.ret aiz)))
def ahL:K5.map told=some (ZS,[]):=by kernel_rfl
def aA9:tree (ab K5)=ZS:=aW ahL
def J0:Option PC:=cF [4,5,6,7,8,9,10,11,12,13] [] Tryz.f79 79 []
def XP:PT:=
 (.chk Df
 (.ret (.tup [(.ai .add .u64 (.ai .add .u64 (.ai .mul .u64 vx (.ai .shr .u64 r1 xf)) (.ai .shr .u64 aiC xf)) (.ai .shr .u64 (.ai .add .u64 (.ai .and .u64 aiC zV) (.ai .mul .u64 (.ai .and .u64 r0 zV) (.ai .shr .u64 r1 xf))) xf)),(.ai .mul .u64 r0 r1)])))
def agC:J0.map told=some (XP,[]):=by kernel_rfl
def ay9:tree (ab J0)=XP:=aW agC
def BF:Option PC:=cF [2,3,5,8] [] Tryz.f203 203 [6]
def EL:Nat->PC:=bm BF
def auK:PC:=.block 0 [3,11,12] [] (.loop [3,11] [] (b 0))
def auL:PC:=.block 2 [6,27,28] [6] (.loop [6,27] [6] (b 1))
def Ox (b:Nat->PC):PT:=
 (.ite (aj bQ dx)
 (.chk (aq r9 bQ)
 (.ite (aj (aE r3 (.llen (pn r9 bQ))) (pi 0))
 (.chk (.nt pT)
 (.chk (.nt pT)
 (.next ⟨[(3,(aE r3 (.llen (pn r9 bQ)))),(11,(aE bQ (pi 1)))],[]⟩)))
 (.next ⟨[(3,(aE r3 (.llen (pn r9 bQ)))),(11,(aE bQ (pi 1)))],[]⟩)))
 (.exit 0 ⟨[(12,(aj bQ dx))],[]⟩))
def Oy (b:Nat->PC):PT:=
 (.ite (aj eK nJ)
 (.chk (aq ka eK)
 (.chk (bE (.llen (.app o6 (pn ka eK))) cK)
 (.next ⟨[(6,pN),(27,(aE eK (pi 1)))],[(6,(.app o6 (pn ka eK)))]⟩)))
 (.exit 2 ⟨[(28,(aj eK nJ))],[]⟩))
def Zq:PT:=
 (.brk ⟨[(11,(pi 0)),(10,(.llen r0)),(9,r0),(3,(pi 0))],[]⟩
(auK b)
 (.call ⟨[],[]⟩ [] 24 214 [pL,r3]
 (.brk ⟨[(27,(pi 0)),(26,(.llen r0)),(25,r0),(6,pN)],[(6,pA)]⟩
(auL b)
 (.ret o6))))
def apu:PT×List (Shp×PT):=(Zq b,[(.lp 0 [3,11,12] [] [3,11] [],Ox b),(.lp 2 [6,27,28] [6] [6,27] [6],Oy b)])
def Nk:BF.map told=some (apu (bo BF)):=by kernel_rfl
def aAH:tree (ab BF)=Zq EL:=bF Nk
def ajl:round 0 [3,11,12] [] [3,11] [] (EL 0)=Ox EL:=bj Nk 0 λ_=>rfl
def ajm:round 2 [6,27,28] [6] [6,27] [6] (EL 1)=Oy EL:=bj Nk 1 λ_=>rfl
def JQ:Option PC:=cF [2,3,7,12] [] Tryz.f65 65 [1]
def XD:PT:=
 (.ite (aJ (pc (.mk [r0]) 4) (pi 0))
 (.ret (pi 0))
 (.ite (.nt j9)
 (.ret (pi 2))
 (.ite (aJ mI (pi 0))
 (.ret (pi 1))
 (.ret (pi 0)))))
def agr:JQ.map told=some (XD,[]):=by kernel_rfl
def ayV:tree (ab JQ)=XD:=aW agr
def JO:Option PC:=cF [8,9,10,11] [] Tryz.f13 13 [4,6]
def XB:PT:=
 (.call ⟨[],[(6,(.mk [r2])),(4,(.mk [r0]))]⟩ [] 14 34 [Hj,r3]
 (.ite (peq (.llen (pc (.setc o6 0 cw) 15)) (pi 0))
 (.ret (pi (-1)))
 (.call ⟨[],[(6,(.setc o6 0 cw))]⟩ [] 23 36 [(aA 8 o4),r1,(pi 6),(aA 19 (.setc o6 0 cw)),r3]
 (.call ⟨[],[]⟩ [] 24 35 [iu]
 (.call ⟨[(29,(aA 15 o6)),(27,(aA 8 o4)),(9,(.mx pA (pi 0)))],[]⟩ [] 31 38 [(aA 19 o6)]
 (.call ⟨[],[]⟩ [] 33 37 [eK,mM,sL,r9]
 (.ite (aJ (.tget uk 1) (pi 0))
 (.ret (pi (-1)))
 (.ret (.tget uk 0)))))))))
def agp:JO.map told=some (XB,[]):=by kernel_rfl
def ayT:tree (ab JO)=XB:=aW agp
def JP:Option PC:=cF [2] [] Tryz.f35 35 [1]
def XC:PT:=
 (.ite (.pick (aJ (pc (.mk [r0]) 4) (pi 0)) pT (.nt j9))
 (.ret (pi (-1)))
 (.ret mI))
def agq:JP.map told=some (XC,[]):=by kernel_rfl
def ayU:tree (ab JP)=XC:=aW agq
def BD:Option PC:=cF [2,4] [] Tryz.f38 38 [1,3,6,8]
def EJ:Nat->PC:=bm BD
def auI:PC:=.block 0 [3,16,17] [3] (.loop [3,16] [3] (b 0))
def auJ:PC:=.block 2 [2,3,36,37] [3] (.loop [2,3,36] [3] (b 1))
def Ip (b:Nat->PC):PT:=
 (.ite (aj cA cR)
 (.chk (aq cw cA)
 (.ite (.pick (peq r4 (pi 1)) (peq (pc (.setc z9 0 mL) 0) (pi 1)) pF)
 (.chk (bE (.llen (.app o3 (.lst [(pc (.setc z9 0 mL) 6)]))) cK)
 (.next ⟨[(3,pN),(16,(aE cA (pi 1)))],[(3,(.app o3 (.lst [(pc (.setc z9 0 mL) 6)])))]⟩))
 (.next ⟨[(16,(aE cA (pi 1)))],[]⟩)))
 (.exit 0 ⟨[(17,(aj cA cR))],[]⟩))
def Ae (b:Nat->PC):PT:=
 (.ite (aj lE sM)
 (.chk (aq Hu lE)
 (.ite (.pick (peq r4 (pi 0)) (peq (pc Hf 0) (pi 2)) pF)
 (.ret (pc Hf 6))
 (.ite (.pick (peq r4 (pi 1)) (peq (pc Hf 0) (pi 1)) pF)
 (.chk (bE (.llen (.app o3 (.lst [(pc Hf 6)]))) cK)
 (.next ⟨[(3,pN),(36,(aE lE (pi 1)))],[(3,(.app o3 (.lst [(pc Hf 6)])))]⟩))
 (.next ⟨[(36,(aE lE (pi 1)))],[]⟩))))
 (.exit 2 ⟨[(37,(aj lE sM))],[]⟩))
def Zm:PT:=
 (.brk ⟨[(16,(pi 0)),(15,(.llen sE)),(14,sE),(4,xh),(3,pN),(2,(pi 0))],[(3,pL),(1,(.mk [r0]))]⟩
(auI b)
 (.brk ⟨[(36,(pi 0)),(35,(.llen (pc o1 17))),(34,(pc o1 17))],[]⟩
(auJ b)
 (.ite (peq (.llen o3) (pi 0))
 (.ret (pi (-1)))
 (.call ⟨[],[]⟩ [] 66 78 [o3]
 (.ret r66)))))
def aps:PT×List (Shp×PT):=(Zm b,[(.lp 0 [3,16,17] [3] [3,16] [3],Ip b),(.lp 2 [2,3,36,37] [3] [2,3,36] [3],Ae b)])
def Ni:BD.map told=some (aps (bo BD)):=by kernel_rfl
def aAC:tree (ab BD)=Zm EJ:=bF Ni
def WH:round 0 [3,16,17] [3] [3,16] [3] (EJ 0)=Ip EJ:=bj Ni 0 λ_=>rfl
def Iq:round 2 [2,3,36,37] [3] [2,3,36] [3] (EJ 1)=Ae EJ:=bj Ni 1 λ_=>rfl
def BM:Option PC:=cF [2,3,4] [] Tryz.f78 78 []
def QL:Nat->PC:=bm BM
def afH:PC:=.block 0 [3,4,12,13,14,15] [] (.loop [3,4] [] (b 0))
def Oz (b:Nat->PC):PT:=
 (.ite (aj r4 (.llen r0))
 (.chk (aq r0 r4)
 (.next ⟨[(3,(.mn r3 (pn r0 r4))),(4,(aE r4 (pi 1)))],[]⟩))
 (.exit 0 ⟨[(12,r4),(13,r0),(14,(.llen r0)),(15,(aj r4 (.llen r0)))],[]⟩))
def ZC:PT:=
 (.ite (aj (.llen r0) (pi 1))
 (.chk (.nt pT)
 (.chk (.nt pT)
 (.chk (aq r0 (pi 0))
 (.brk ⟨[(4,(pi 1)),(3,(pn r0 (pi 0)))],[]⟩
(afH b)
 (.ret r3)))))
 (.chk (aq r0 (pi 0))
 (.brk ⟨[(4,(pi 1)),(3,(pn r0 (pi 0)))],[]⟩
(afH b)
 (.ret r3))))
def apB:PT×List (Shp×PT):=(ZC b,[(.lp 0 [3,4,12,13,14,15] [] [3,4] [],Oz b)])
def UY:BM.map told=some (apB (bo BM)):=by kernel_rfl
def aAT:tree (ab BM)=ZC QL:=bF UY
def ajn:round 0 [3,4,12,13,14,15] [] [3,4] [] (QL 0)=Oz QL:=bj UY 0 λ_=>rfl
def E1:Option PC:=cF [8,9,15,39,58,74,11,12] [] Tryz.f37 37 [4,5,10]
def IY:PT:=
 (.blockS ⟨[],[(10,(.setc z3 0 (.mk [(pc (.mk [r1]) 5),(pc (.mk [r1]) 6),(pc (.mk [r1]) 7)]))),(5,(.mk [r1])),(4,(.mk [r0]))]⟩ 0 [8,9,15,16,17,18,19,25,26,32,33,38,39,40,41,42,43,47,48,52,53,57,58,59,60,61,65,66,69,70,73,74,75,76,77,80] []
 (.call ⟨[],[]⟩ [] 17 72 [(aA 8 o4)]
 (.call ⟨[(19,(aJ lD (pi 0)))],[]⟩ [(19,false)] 23 73 [(aA 8 o4),(pc o5 9)]
 (.call ⟨[(26,(.pick jv pT (.nt iu)))],[]⟩ [(26,false)] 30 73 [(aA 8 o4),(pc o5 10)]
 (.call ⟨[(33,(.pick nJ pT (.nt sK)))],[]⟩ [(33,false)] 36 74 [(pc o5 8)]
 (.iteS ⟨[],[]⟩ (.pick uk pT (.nt lE)) [8,9,39,40,41,42,43,47,48,52,53,57,58,59,60,61,65,66,69,70,73,74,75,76,77,80] []
 (.ret (.tup [(pi 0),(pi 1)]))
 (.iteS ⟨[],[]⟩ (.pick (.pick (.pick (aj (pc cg 0) (pi 0)) pT (bk (pc cg 0) (pi 5))) pT (aj (pc cg 2) (pi 0))) pT (bk (pc cg 2) (pi 2))) [8,9,58,59,60,61,65,66,69,70,73,74,75,76,77,80] []
 (.ret (.tup [(pi 0),(pi 1)]))
 (.call ⟨[(61,(aJ r2 (pi (-1))))],[]⟩ [(61,true)] 63 74 [r2]
 (.iteS ⟨[],[]⟩ (.pick (.pick (.pick Hx (.nt N3) pF) pT (aj r3 (pi 0))) pT (aU r3 (pi 20000))) [8,9,74,75,76,77,80] []
 (.ret (.tup [(pi 0),(pi 1)]))
 (.call ⟨[],[]⟩ [] 76 75 [(.mk [(pc cg 0),(pc cg 1),(pc cg 2)])]
 (.ite (.pick vA (peq r2 (pi (-1))) pF)
 (.ret (.tup [(pi 0),(pi 4)]))
 (.next ⟨[],[]⟩)))
 (.next ⟨[],[]⟩)))
 (.next ⟨[],[]⟩))
 (.next ⟨[],[]⟩))))))
 (.call ⟨[],[]⟩ [] 85 76 [(aA 8 o4),(aA 15 o5),r2]
 (.ite (aJ (.tget HA 1) (pi 0))
 (.ret (.tup [(pi 0),(.tget HA 1)]))
 (.call ⟨[(11,(.tget HA 0))],[]⟩ [] 92 74 [(.tget HA 0)]
 (.ite (.pick (.nt VX) pT (aU (aE bQ r3) (pi 100000)))
 (.ret (.tup [(pi 0),(pi 3)]))
 (.call ⟨[],[]⟩ [] 106 77 [(aA 8 o4),(pc o5 10),(aE bQ r3)]
 (.ret (.tup [(.tget Dr 0),(.tget Dr 1)]))))))))
def ahx:E1.map told=some (IY,[]):=by kernel_rfl
def ZD:tree (ab E1)=IY:=aW ahx
def Bs:Option PC:=cF [2,3,4,5,6,7,10,11,12] [] Tryz.f72 72 [1,9]
def Qy:Nat->PC:=bm Bs
def aun:PC:=.block 0 [2,38,39] [] (.loop [2,38] [] (b 0))
def H9 (b:Nat->PC):PT:=
 (.ite (aj jK mN)
 (.blockS ⟨[],[]⟩ 1 [2,9,40,41,42,43,44,45] [9]
 (.chk (aq lE jK)
 (.call ⟨[],[]⟩ [] 44 116 [(pc (.setc Hh 0 (pn lE jK)) 0),(pi 10)]
 (.ite (.nt xl)
 (.ret (pi 1))
 (.next ⟨[],[]⟩))))
 (.next ⟨[(38,(aE jK (pi 1)))],[]⟩))
 (.exit 0 ⟨[(39,(aj jK mN))],[]⟩))
def YU:PT:=
 (.call ⟨[(2,(pi 0))],[(1,(.mk [r0]))]⟩ [] 15 111 [j7]
 (.call ⟨[(5,(.tget cR 2)),(4,(.tget cR 1)),(3,(.tget cR 0))],[]⟩ [] 21 112 [(pc o1 0),(pi 8),(.con (.clo 113 []))]
 (.ite (aJ iT (pi 0))
 (.ret iT)
 (.call ⟨[],[(1,(aA 8 o1))]⟩ [] 27 112 [r3,(pi 40),(.clo 114 [(.ref (aA 8 o1))])]
 (.ite (aJ eK (pi 0))
 (.ret eK)
 (.ite (aU ui (pi 20))
 (.ret (pi 6))
 (.brk ⟨[(38,(pi 0)),(37,ui),(36,(pc o1 2))],[]⟩
(aun b)
 (.call ⟨[],[]⟩ [] 49 112 [r4,(pi 200),(.clo 117 [(.ref o1)])]
 (.ite (aJ pB (pi 0))
 (.ret pB)
 (.call ⟨[],[]⟩ [] 55 112 [r5,(pi 20),(.clo 118 [(.ref o1)])]
 (.ite (aJ Dv (pi 0))
 (.ret Dv)
 (.call ⟨[],[]⟩ [] 60 120 [(.sub o1 0 8)]
 (.ite (aJ Hw (pi 0))
 (.ret Hw)
 (.call ⟨[],[]⟩ [] 65 121 [(.sub o1 0 8)]
 (.ret Dw)))))))))))))))
def apf:PT×List (Shp×PT):=(YU b,[(.lp 0 [2,38,39] [] [2,38] [],H9 b)])
def UK:Bs.map told=some (apf (bo Bs)):=by kernel_rfl
def aAo:tree (ab Bs)=YU Qy:=bF UK
def Wt:round 0 [2,38,39] [] [2,38] [] (Qy 0)=H9 Qy:=bj UK 0 λ_=>rfl
def Bw:Option PC:=cF [] [] Tryz.f111 111 [1,2,3,4,6,16390,20486,24582,21,8,34,10,12298,16394,47]
def yo:Nat->PC:=bm Bw
def aus:PC:=.block 0 [2,14,15] [2] (.loop [2,14] [2] (b 0))
def aut:PC:=.block 2 [3,27,28] [3] (.loop [3,27] [3] (b 1))
def auu:PC:=.block 4 [4,40,41] [4] (.loop [4,40] [4] (b 2))
def Oq (b:Nat->PC):PT:=
 (.ite sH
 (.chk (aq cn cw)
 (.chk (bE (.llen aiD) cK)
 (.next ⟨[(2,pN),(14,(aE cw (pi 1)))],[(2,aiD)]⟩)))
 (.exit 0 ⟨[(15,sH)],[]⟩))
def Ot (b:Nat->PC):PT:=
 (.ite (aj eK nJ)
 (.chk (aq ka eK)
 (.chk (bE (.llen aiJ) cK)
 (.next ⟨[(3,pN),(27,(aE eK (pi 1)))],[(3,aiJ)]⟩)))
 (.exit 2 ⟨[(28,(aj eK nJ))],[]⟩))
def Ou (b:Nat->PC):PT:=
 (.ite (aj qO qN)
 (.chk (aq jK qO)
 (.chk (bE (.llen aiE) cK)
 (.next ⟨[(4,pN),(40,(aE qO (pi 1)))],[(4,aiE)]⟩)))
 (.exit 4 ⟨[(41,(aj qO qN))],[]⟩))
def Zf:PT:=
 (.brk ⟨[(14,(pi 0)),(13,(.llen mI)),(12,mI),(4,pN),(3,pN),(2,pN)],[(4,pL),(3,pL),(2,pL),(1,(.mk [r0]))]⟩
(aus b)
 (.brk ⟨[(27,(pi 0)),(26,py),(25,(pc o1 3))],[]⟩
(aut b)
 (.brk ⟨[(40,(pi 0)),(39,qL),(38,(pc o1 4))],[]⟩
(auu b)
 (.ret (.tup [o2,o3,o4])))))
def apk:PT×List (Shp×PT):=(Zf b,[(.lp 0 [2,14,15] [2] [2,14] [2],Oq b),(.lp 2 [3,27,28] [3] [3,27] [3],Ot b),(.lp 4 [4,40,41] [4] [4,40] [4],Ou b)])
def G5:Bw.map told=some (apk (bo Bw)):=by kernel_rfl
def aAv:tree (ab Bw)=Zf yo:=bF G5
def ajh:round 0 [2,14,15] [2] [2,14] [2] (yo 0)=Oq yo:=bj G5 0 λ_=>rfl
def aji:round 2 [3,27,28] [3] [3,27] [3] (yo 1)=Ot yo:=bj G5 1 λ_=>rfl
def ajj:round 4 [4,40,41] [4] [4,40] [4] (yo 2)=Ou yo:=bj G5 2 λ_=>rfl
def Bu:Option PC:=cF [6,7,8] [] Tryz.f112 112 []
def QB:Nat->PC:=bm Bu
def auq:PC:=.block 0 [6,15,16] [] (.loop [6,15] [] (b 0))
def Ib (b:Nat->PC):PT:=
 (.ite (aj cR cw)
 (.blockS ⟨[],[]⟩ 1 [6,7,8,17,18,19,20,21,22,24,25,26,27] []
 (.call ⟨[(7,cR)],[]⟩ [] 20 162 [r0,cR]
 (.ite (aJ fc (pi 0))
 (.ret fc)
 (.callc ⟨[],[]⟩ [] 26 r2 [r7]
 (.ite (.nt nJ)
 (.ret (pi 1))
 (.next ⟨[],[]⟩)))))
 (.next ⟨[(15,(aE cR (pi 1)))],[]⟩))
 (.exit 0 ⟨[(16,(aj cR cw))],[]⟩))
def Zb:PT:=
 (.ite (aU (.llen r0) r1)
 (.ret (pi 6))
 (.brk ⟨[(15,(pi 0)),(14,(.llen r0)),(6,(pi 0))],[]⟩
(auq b)
 (.ret (pi 0))))
def api:PT×List (Shp×PT):=(Zb b,[(.lp 0 [6,15,16] [] [6,15] [],Ib b)])
def UN:Bu.map told=some (api (bo Bu)):=by kernel_rfl
def aAr:tree (ab Bu)=Zb QB:=bF UN
def Wv:round 0 [6,15,16] [] [6,15] [] (QB 0)=Ib QB:=bj UN 0 λ_=>rfl
def KJ:Option PC:=cF [4] [] Tryz.f162 162 []
def Ze:PT:=
 (.chk (aq r0 r1)
 (.call ⟨[],[]⟩ [] 9 183 [(pn r0 r1)]
 (.ite (.nt r9)
 (.ret (pi 2))
 (.chk (.slok r0 (pi 0) r1)
 (.chk (aq r0 r1)
 (.call ⟨[],[]⟩ [] 18 184 [(.slc r0 (pi 0) r1),(pn r0 r1)]
 (.ite cP
 (.ret (pi 5))
 (.ret (pi 0)))))))))
def aho:KJ.map told=some (Ze,[]):=by kernel_rfl
def aAu:tree (ab KJ)=Ze:=aW aho
def Bv:Option PC:=cF [2,3,4,5] [] Tryz.f183 183 []
def QC:Nat->PC:=bm Bv
def aur:PC:=.block 0 [2,16,17] [] (.loop [2,16] [] (b 0))
def Ic (b:Nat->PC):PT:=
 (.ite (aj cA cR)
 (.chk (aq cw cA)
 (.ite (.pick (.nt (.pick (.pick (bk mL (.con (.v (.int .u8 97)))) (bE mL (.con (.v (.int .u8 122)))) pF) pT (.pick (bk mL (.con (.v (.int .u8 65)))) (bE mL (.con (.v (.int .u8 90)))) pF))) (.pick (peq cA (pi 0)) pT (.pick (aJ mL (.con (.v (.int .u8 95)))) (.pick (aj mL (.con (.v (.int .u8 48)))) pT (aU mL (.con (.v (.int .u8 57))))) pF)) pF)
 (.ret pF)
 (.next ⟨[(16,(aE cA (pi 1)))],[]⟩)))
 (.exit 0 ⟨[(17,(aj cA cR))],[]⟩))
def Zd:PT:=
 (.ite (.pick (.cs .eql r0 (.con (.v (.string ⟨#[]⟩)))) pT (aU (.slen r0) (pi 20)))
 (.ret pF)
 (.chk (bE (.slen r0) cK)
 (.brk ⟨[(16,(pi 0)),(15,(.llen (.bytes r0))),(14,(.bytes r0)),(2,pF)],[]⟩
(aur b)
 (.ret pT))))
def apj:PT×List (Shp×PT):=(Zd b,[(.lp 0 [2,16,17] [] [2,16] [],Ic b)])
def UO:Bv.map told=some (apj (bo Bv)):=by kernel_rfl
def aAt:tree (ab Bv)=Zd QC:=bF UO
def Ww:round 0 [2,16,17] [] [2,16] [] (QC 0)=Ic QC:=bj UO 0 λ_=>rfl
def KR:Option PC:=cF [4] [] Tryz.f184 184 []
def Zv:PT:=
 (.call ⟨[],[]⟩ [] 7 204 [r0,r1]
 (.ret (bk r7 (pi 0))))
def ahw:KR.map told=some (Zv,[]):=by kernel_rfl
def aAM:tree (ab KR)=Zv:=aW ahw
def BL:Option PC:=cF [4,5] [] Tryz.f204 204 []
def QK:Nat->PC:=bm BL
def auR:PC:=.block 0 [4,8,9] [] (.loop [4,8] [] (b 0))
def Iw (b:Nat->PC):PT:=
 (.ite (aj r8 r7)
 (.chk (aq r0 r8)
 (.ite (.cs .eql r1 (pn r0 r8))
 (.ret r8)
 (.next ⟨[(8,sF)],[]⟩)))
 (.exit 0 ⟨[(9,(aj r8 r7))],[]⟩))
def ZB:PT:=
 (.brk ⟨[(8,(pi 0)),(7,(.llen r0)),(4,(pi 0))],[]⟩
(auR b)
 (.ret (pi (-1))))
def apA:PT×List (Shp×PT):=(ZB b,[(.lp 0 [4,8,9] [] [4,8] [],Iw b)])
def UX:BL.map told=some (apA (bo BL)):=by kernel_rfl
def aAS:tree (ab BL)=ZB QK:=bF UX
def WQ:round 0 [4,8,9] [] [4,8] [] (QK 0)=Iw QK:=bj UX 0 λ_=>rfl
def KD:Option PC:=cF [2] [] Tryz.f113 113 []
def YV:PT:=
 (.ret pT)
def ahi:KD.map told=some (YV,[]):=by kernel_rfl
def aAk:tree (ab KD)=YV:=aW ahi
def KE:Option PC:=cF [3] [] Tryz.f114 114 []
def YW:PT:=
 (.chk (aq (pc (.deref r1) 1) r0)
 (.call ⟨[],[]⟩ [] 10 115 [(.deref r1),(pn (pc (.deref r1) 1) r0)]
 (.ret dx)))
def ahj:KE.map told=some (YW,[]):=by kernel_rfl
def aAl:tree (ab KE)=YW:=aW ahj
def Bt:Option PC:=cF [4,6] [] Tryz.f115 115 [2,3]
def QA:Nat->PC:=bm Bt
def aup:PC:=.block 0 [4,10,11] [] (.loop [4,10] [] (b 0))
def Ia (b:Nat->PC):PT:=
 (.ite (aj dx r9)
 (.chk (aq r8 dx)
 (.chk De
 (.chk (.nt (.an (.an (.nt (aj VH (pi 1))) pT) (.nt De)))
 (.ite (.pick (aj VH (pi 1)) pT (aU VH (pi 31)))
 (.ret pF)
 (.next ⟨[(10,(aE dx (pi 1)))],[]⟩)))))
 (.exit 0 ⟨[(11,(aj dx r9))],[]⟩))
def Za:PT:=
 (.brk ⟨[(10,(pi 0)),(9,(.llen (pc (.mk [r1]) 4))),(8,(pc (.mk [r1]) 4)),(4,pF)],[(3,(.mk [r1])),(2,(.mk [r0]))]⟩
(aup b)
 (.call ⟨[(33,(.pick (aU (.llen (pc o3 4)) (pi 60)) pT (aU (.llen (pc o3 5)) (pi 200))))],[]⟩ [(33,false)] 39 116 [(pc o3 1),(.llen (pc o2 4))]
 (.call ⟨[(42,(.pick uk pT (.nt qN)))],[]⟩ [(42,false)] 48 116 [(pc o3 2),(.llen (pc o2 0))]
 (.ite (.pick r42 pT (.nt kc))
 (.ret pF)
 (.call ⟨[],[]⟩ [] 53 163 [(pc o3 3),(pi 0),(pi 6)]
 (.call ⟨[(54,VU)],[]⟩ [(54,true)] 57 163 [(pc o3 4),(pi 101),(pi 1231)]
 (.call ⟨[(59,(.pick mO N2 pF))],[]⟩ [(59,true)] 62 163 [(pc o3 5),(pi 0),(pi 100000)]
 (.ret (.pick r59 pC pF)))))))))
def aph:PT×List (Shp×PT):=(Za b,[(.lp 0 [4,10,11] [] [4,10] [],Ia b)])
def UM:Bt.map told=some (aph (bo Bt)):=by kernel_rfl
def aAq:tree (ab Bt)=Za QA:=bF UM
def Wu:round 0 [4,10,11] [] [4,10] [] (QA 0)=Ia QA:=bj UM 0 λ_=>rfl
def Bz:Option PC:=cF [6,7,8] [] Tryz.f163 163 []
def QD:Nat->PC:=bm Bz
def auA:PC:=.block 0 [6,11,12] [] (.loop [6,11] [] (b 0))
def xo (b:Nat->PC):PT:=
 (.ite (aj bQ dx)
 (.chk (aq r9 bQ)
 (.chk (.nt (.an (.an (aU bQ (pi 0)) (.an (.nt (.pick (aj (pn r9 bQ) r1) pT (aU (pn r9 bQ) r2))) pT)) (.nt (aq r0 (br bQ (pi 1))))))
 (.ite (.pick (.pick (aj (pn r9 bQ) r1) pT (aU (pn r9 bQ) r2)) pT (.pick (aU bQ (pi 0)) (bE (pn r9 bQ) (pn r0 (br bQ (pi 1)))) pF))
 (.ret pF)
 (.next ⟨[(11,(aE bQ (pi 1)))],[]⟩))))
 (.exit 0 ⟨[(12,(aj bQ dx))],[]⟩))
def Zi:PT:=
 (.brk ⟨[(11,(pi 0)),(10,(.llen r0)),(9,r0),(6,pF)],[]⟩
(auA b)
 (.ret pT))
def apn:PT×List (Shp×PT):=(Zi b,[(.lp 0 [6,11,12] [] [6,11] [],xo b)])
def UP:Bz.map told=some (apn (bo Bz)):=by kernel_rfl
def aAy:tree (ab Bz)=Zi QD:=bF UP
def DF:round 0 [6,11,12] [] [6,11] [] (QD 0)=xo QD:=bj UP 0 λ_=>rfl
def KF:Option PC:=cF [3] [] Tryz.f117 117 []
def YX:PT:=
 (.chk (aq (pc (.deref r1) 3) r0)
 (.call ⟨[],[]⟩ [] 13 116 [(pc (pn (pc (.deref r1) 3) r0) 1),(.llen (pc (.deref r1) 1))]
 (.chk (.nt (.an (.an dy pT) (.nt (aq (pc (.deref r1) 3) r0))))
 (.call ⟨[(14,dy)],[]⟩ [(14,true)] 24 116 [(pc (pn (pc (.deref r1) 3) r0) 2),(.llen (pc (.deref r1) 2))]
 (.ret (.pick cw pA pF))))))
def ahk:KF.map told=some (YX,[]):=by kernel_rfl
def aAm:tree (ab KF)=YX:=aW ahk
def KG:Option PC:=cF [3] [] Tryz.f118 118 []
def YY:PT:=
 (.chk (aq (pc (.deref r1) 4) r0)
 (.call ⟨[],[]⟩ [] 9 119 [(pn (pc (.deref r1) 4) r0)]
 (.ret r9)))
def ahl:KG.map told=some (YY,[]):=by kernel_rfl
def aAn:tree (ab KG)=YY:=aW ahl
def Bx:Option PC:=cF [2] [] Tryz.f119 119 [1,3,4,6,19,8,16392,36]
def EG:Nat->PC:=bm Bx
def auv:PC:=.block 0 [2,3,12,13] [3] (.loop [2,3,12] [3] (b 0))
def auw:PC:=.block 2 [4,29,30] [4] (.loop [4,29] [4] (b 1))
def Ie (b:Nat->PC):PT:=
 (.ite xe
 (.blockS ⟨[],[]⟩ 1 [2,3,6,14,15,17,18,19,20,21,22,23,24] [6,19,3]
 (.chk (aq dx cn)
 (.chk (bE (.llen (.app o3 (.lst [(pc (.setc NQ 0 qM) 0)]))) cK)
 (.call ⟨[(3,pN)],[(3,(.app o3 (.lst [(pc (.setc NQ 0 qM) 0)])))]⟩ [] 23 116 [(pc (.setc NQ 0 qM) 1),(pi 5)]
 (.ite (.nt iu)
 (.ret pF)
 (.next ⟨[],[]⟩)))))
 (.next ⟨[(12,Dg)],[]⟩))
 (.exit 0 ⟨[(13,xe)],[]⟩))
def Ov (b:Nat->PC):PT:=
 (.ite (aj mM uj)
 (.chk (aq eK mM)
 (.chk (bE (.llen aiK) cK)
 (.next ⟨[(4,pN),(29,(aE mM (pi 1)))],[(4,aiK)]⟩)))
 (.exit 2 ⟨[(30,(aj mM uj))],[]⟩))
def Zg:PT:=
 (.brk ⟨[(12,(pi 0)),(11,sJ),(10,zY),(4,pN),(3,pN),(2,pF)],[(4,pL),(3,pL),(1,(.mk [r0]))]⟩
(auv b)
 (.brk ⟨[(29,(pi 0)),(28,py),(27,(pc o1 3))],[]⟩
(auw b)
 (.call ⟨[],[]⟩ [] 40 163 [o3,(pi 0),(pi 21)]
 (.call ⟨[(41,qO)],[]⟩ [(41,true)] 43 163 [o4,(pi 0),(pi 21)]
 (.ret (.pick um vz pF))))))
def apl:PT×List (Shp×PT):=(Zg b,[(.lp 0 [2,3,12,13] [3] [2,3,12] [3],Ie b),(.lp 2 [4,29,30] [4] [4,29] [4],Ov b)])
def Nf:Bx.map told=some (apl (bo Bx)):=by kernel_rfl
def aAw:tree (ab Bx)=Zg EG:=bF Nf
def Wx:round 0 [2,3,12,13] [3] [2,3,12] [3] (EG 0)=Ie EG:=bj Nf 0 λ_=>rfl
def ajk:round 2 [4,29,30] [4] [4,29] [4] (EG 1)=Ov EG:=bj Nf 1 λ_=>rfl
def BA:Option PC:=cF [2,3] [] Tryz.f120 120 [1,4,6]
def EI:Nat->PC:=bm BA
def auB:PC:=.block 2 [2,50,51] [] (.loop [2,50] [] (b 0))
def auC:PC:=.block 0 [2,14,15] [] (.loop [2,14] [] (b 1))
def DG (b:Nat->PC):PT:=
 (.ite (aj nK pB)
 (.chk (aq kc nK)
 (.ite (.pick (peq (pc (.setc z3 0 (pn kc nK)) 0) (pc o4 0)) (peq (pc (.setc z3 0 (pn kc nK)) 1) (pc o4 1)) pF)
 (.ret (pi 5))
 (.next ⟨[(50,(aE nK (pi 1)))],[]⟩)))
 (.exit 2 ⟨[(51,(aj nK pB))],[]⟩))
def Ih:PT:=
 (.ite sH
 (.blockS ⟨[(15,sH)],[]⟩ 1 [2,3,4,16,17,18,19,20,21,22,23,24,25,26,34,35,39,40,44,45,46,47,48,49,50,51] [4]
 (.chk (aq cn cw)
 (.call ⟨[(3,cw)],[(4,Dp)]⟩ [] 24 116 [(pc Dp 0),mJ]
 (.call ⟨[(26,(.nt pA))],[]⟩ [(26,false)] 32 116 [(pc o4 1),mJ]
 (.ite (.pick (.pick (.pick nJ pT (.nt xk)) pT (aj (pc o4 2) (pi 1))) pT (aU (pc o4 2) (pi 20000)))
 (.ret (pi 1))
 (.chk (.slok (pc o1 5) (pi 0) r3)
 (.brk ⟨[(50,(pi 0)),(49,(.llen (.slc (pc o1 5) (pi 0) r3))),(48,(.slc (pc o1 5) (pi 0) r3))],[]⟩
(auB b)
 (.next ⟨[],[]⟩)))))))
 (.next ⟨[(14,(aE cw (pi 1)))],[]⟩))
 (.exit 0 ⟨[(15,sH)],[]⟩))
def Zj:PT:=
 (.ite (aU (.llen xh) (pi 100))
 (.ret (pi 6))
 (.brk ⟨[(14,(pi 0)),(13,(.llen xh)),(12,xh),(2,(pi 0))],[(1,(.mk [r0]))]⟩
(auC b)
 (.ret (pi 0))))
def apo:PT×List (Shp×PT):=(Zj b,[(.lp 2 [2,50,51] [] [2,50] [],DG b),(.lp 0 [2,14,15] [] [2,14] [],Ih b)])
def Nh:BA.map told=some (apo (bo BA)):=by kernel_rfl
def aAz:tree (ab BA)=Zj EI:=bF Nh
def Ow:round 2 [2,50,51] [] [2,50] [] (EI 0)=DG EI:=bj Nh 0 λ_=>rfl
def WA:round 0 [2,14,15] [] [2,14] [] (EI 1)=Ih EI:=bj Nh 1 λ_=>rfl
def By:Option PC:=cF [2] [] Tryz.f121 121 [1,4,6]
def EH:Nat->PC:=bm By
def auy:PC:=.block 0 [2,14,15] [] (.loop [2,14] [] (b 0))
def auz:PC:=.block 2 [2,69,70] [] (.loop [2,69] [] (b 1))
def If (b:Nat->PC):PT:=
 (.ite sH
 (.blockS ⟨[],[]⟩ 1 [2,4,16,17,18,19,20,21,22,23,24,25,33,34,40,41,47,48,54,55,60] [4]
 (.chk (aq cn cw)
 (.call ⟨[],[(4,(.setc z5 0 (pn cn cw)))]⟩ [] 23 116 [(pc (.setc z5 0 (pn cn cw)) 0),xj]
 (.call ⟨[(25,(.nt iu))],[]⟩ [(25,false)] 31 116 [(pc o4 1),xj]
 (.call ⟨[(41,(.pick (.pick ka pT (.nt sL)) pT (peq (pc o4 0) (pc o4 1))))],[]⟩ [(41,false)] 45 116 [(br (pc o4 2) (pi 1)),(pi 1073741824)]
 (.call ⟨[(48,(.pick um pT (.nt sN)))],[]⟩ [(48,false)] 52 116 [(br (pc o4 3) (pi 1)),(pi 1073741824)]
 (.call ⟨[(55,(.pick kc pT (.nt Du)))],[]⟩ [(55,false)] 58 116 [(pc o4 4),(pi 100001)]
 (.ite (.pick Dv pT (.nt Hv))
 (.ret (pi 1))
 (.next ⟨[],[]⟩))))))))
 (.next ⟨[(14,(aE cw (pi 1)))],[]⟩))
 (.exit 0 ⟨[(15,sH)],[]⟩))
def Ig (b:Nat->PC):PT:=
 (.ite (aj z8 r68)
 (.blockS ⟨[],[]⟩ 3 [2,6,71,72,73,74,75,76,77,78,79,80,84,85,91,92,96] [6]
 (.chk (aq xm z8)
 (.call ⟨[],[(6,(.setc z3 0 (pn xm z8)))]⟩ [] 78 116 [(pc (.setc z3 0 (pn xm z8)) 0),qL]
 (.ite (.pick (.pick (.pick (.nt r78) pT (aj (pc o6 1) (pi 0))) pT (aU (pc o6 1) (pc o6 2))) pT (aU (pc o6 2) (pi 100000)))
 (.ret (pi 1))
 (.next ⟨[],[]⟩))))
 (.next ⟨[(69,(aE z8 (pi 1)))],[]⟩))
 (.exit 2 ⟨[(70,(aj z8 r68))],[]⟩))
def Zh:PT:=
 (.ite (aU (.llen (pc (.mk [r0]) 6)) (pi 100))
 (.ret (pi 6))
 (.brk ⟨[(14,(pi 0)),(13,(.llen (pc (.mk [r0]) 6))),(12,(pc (.mk [r0]) 6)),(2,(pi 0))],[(1,(.mk [r0]))]⟩
(auy b)
 (.ite (aU zT (pi 20))
 (.ret (pi 6))
 (.brk ⟨[(69,(pi 0)),(68,zT),(67,(pc o1 7))],[]⟩
(auz b)
 (.ret (pi 0))))))
def apm:PT×List (Shp×PT):=(Zh b,[(.lp 0 [2,14,15] [] [2,14] [],If b),(.lp 2 [2,69,70] [] [2,69] [],Ig b)])
def Ng:By.map told=some (apm (bo By)):=by kernel_rfl
def aAx:tree (ab By)=Zh EH:=bF Ng
def Wy:round 0 [2,14,15] [] [2,14] [] (EH 0)=If EH:=bj Ng 0 λ_=>rfl
def Wz:round 2 [2,69,70] [] [2,69] [] (EH 1)=Ig EH:=bj Ng 1 λ_=>rfl
def KT:Option PC:=cF [4] [] Tryz.f73 73 [2]
def ZF:PT:=
 (.ret (.pick (bk r1 (pi 0)) (aj r1 (.llen mI)) pF))
def ahB:KT.map told=some (ZF,[]):=by kernel_rfl
def aAV:tree (ab KT)=ZF:=aW ahB
def KU:Option PC:=cF [2] [] Tryz.f74 74 []
def ZG:PT:=
 (.ret (.pick (bk r0 (pi 0)) (bE r0 (pi 100000)) pF))
def ahC:KU.map told=some (ZG,[]):=by kernel_rfl
def aAW:tree (ab KU)=ZG:=aW ahC
def KS:Option PC:=cF [2] [] Tryz.f75 75 [1]
def ZE:PT:=
 (.ret (.pick (peq j9 (pi 0)) pT (peq j9 (pi 1))))
def ahy:KS.map told=some (ZE,[]):=by kernel_rfl
def aAU:tree (ab KS)=ZE:=aW ahy
def E3:Option PC:=cF [6,7,13,16,24,33,8,9] [] Tryz.f76 76 [3,4]
def pI:PT:=
 (.blockS ⟨[(12,(pc (.mk [r1]) 5))],[(4,(.mk [r1])),(3,(.mk [r0]))]⟩ 0 [6,7,13,14,16,17,24,25,33,34] []
 (.iteS ⟨[],[]⟩ (peq cn (pi 0)) [6,7,16,17,24,25,33,34] []
 (.ret (.tup [r2,(pi 0)]))
 (.iteS ⟨[],[]⟩ (peq cn (pi 1)) [6,7,24,25,33,34] []
 (.call ⟨[],[]⟩ [] 21 122 [r2,(.mk [(pc o4 5),(pc o4 6),(pc o4 7)])]
 (.ret (.tup [(.tget iT 0),(.tget iT 1)])))
 (.iteS ⟨[],[]⟩ (peq cn (pi 2)) [6,7,33,34] []
 (.call ⟨[],[]⟩ [] 30 122 [(pc o4 8),(.mk [(pc o4 5),(pc o4 6),(pc o4 7)])]
 (.ret (.tup [(.tget sK 0),(.tget sK 1)])))
 (.iteS ⟨[],[]⟩ (peq cn (pi 4)) [6,7] []
 (.call ⟨[],[]⟩ [] 41 89 [(aA 8 o3),(pc o4 9),(pc o4 10)]
 (.ret (.tup [(aE (pc o4 8) (.tget um 0)),(.tget um 1)])))
 (.next ⟨[],[]⟩)
 (.next ⟨[],[]⟩))
 (.next ⟨[],[]⟩))
 (.next ⟨[],[]⟩))
 (.next ⟨[],[]⟩))
 (.ret (.tup [(pc o4 6),(pi 0)])))
def ahA:E3.map told=some (pI,[]):=by kernel_rfl
def Ao:tree (ab E3)=pI:=aW ahA
def E2:Option PC:=cF [4,5] [] Tryz.f122 122 [3]
def D0:PT:=
 (.ite (.pick (aj (pc (.mk [r1]) 1) (pi 0)) pT (aU (pc (.mk [r1]) 1) (pi 20000)))
 (.ret (.tup [(pi 0),(pi 3)]))
 (.iteS ⟨[],[(3,(.mk [r1]))]⟩ (peq (pc (.mk [r1]) 2) (pi 1)) [4,5] []
 (.call ⟨[],[]⟩ [] 20 164 [r0,(pc o3 1)]
 (.ret (.tup [(.tget fc 0),(.tget fc 1)])))
 (.next ⟨[],[]⟩)
 (.ret (.tup [(aE r0 (pc o3 1)),(pi 0)]))))
def ahz:E2.map told=some (D0,[]):=by kernel_rfl
def Pf:tree (ab E2)=D0:=aW ahz
def EX:Option PC:=cF [4,5,6,7,8,9] [] Tryz.f164 164 []
def O8:PT:=
 (.call ⟨[],[]⟩ [] 11 165 [r0]
 (.ite (.pick (.pick (.nt bQ) pT (aj r1 (pi (-5000)))) pT (aU r1 (pi 5000)))
 (.ret (.tup [(pi 0),(pi 3)]))
 (.call ⟨[],[]⟩ [] 23 185 [r0]
 (.chk (aJ (pi 12) (pi 0))
 (.call ⟨[(41,(.tget iu 2)),(40,(aE (.ai .rem .i64 NT (pi 12)) (pi 1))),(39,(.ai .quo .i64 NT (pi 12)))],[]⟩ [] 44 187 [(.ai .quo .i64 NT (pi 12)),(aE (.ai .rem .i64 NT (pi 12)) (pi 1))]
 (.call ⟨[],[]⟩ [] 46 186 [qN,qO,(.mn um xl)]
 (.ret (.tup [(.tget Ds 0),(.tget Ds 1)]))))))))
def agD:EX.map told=some (O8,[]):=by kernel_rfl
def aka:tree (ab EX)=O8:=aW agD
def J5:Option PC:=cF [2] [] Tryz.f165 165 []
def XV:PT:=
 (.ret (.pick (bE (pi 0) r0) (bE r0 (pi 100000)) pF))
def agL:J5.map told=some (XV,[]):=by kernel_rfl
def azg:tree (ab J5)=XV:=aW agL
def J1:Option PC:=cF [2,3,4,5,6,7,8,9] [] Tryz.f185 185 []
def XR:PT:=
 (.chk (aJ (pi 146097) (pi 0))
 (.chk (aJ (pi 1460) (pi 0))
 (.chk (aJ (pi 36524) (pi 0))
 (.chk (aJ (pi 146096) (pi 0))
 (.chk (aJ (pi 365) (pi 0))
 (.chk (aJ (pi 4) (pi 0))
 (.chk De
 (.chk (aJ (pi 153) (pi 0))
 (.chk (aJ (pi 5) (pi 0))
 (.ret (.tup [(.pick (aj aij (pi 3)) (aE aio (pi 1)) aio),aij,(aE (br (br (.ai .rem .i64 (aE r0 (pi 730425)) (pi 146097)) (br (aE (.ai .mul .i64 (pi 365) zW) (.ai .quo .i64 zW (pi 4))) (.ai .quo .i64 zW (pi 100)))) (.ai .quo .i64 (aE (.ai .mul .i64 (pi 153) NC) (pi 2)) (pi 5))) (pi 1))])))))))))))
def agG:J1.map told=some (XR,[]):=by kernel_rfl
def azb:tree (ab J1)=XR:=aW agG
def J3:Option PC:=cF [4] [] Tryz.f187 187 []
def Pa:PT:=
 (.ite (peq r1 (pi 12))
 (.ret (pi 31))
 (.call ⟨[],[]⟩ [] 10 205 [r0,(aE r1 (pi 1)),(pi 1)]
 (.call ⟨[],[]⟩ [] 13 205 [r0,r1,(pi 1)]
 (.ret (br dx dy)))))
def agI:J3.map told=some (Pa,[]):=by kernel_rfl
def aze:tree (ab J3)=Pa:=aW agI
def EZ:Option PC:=cF [6,0,1] [] Tryz.f205 205 []
def Pb:PT:=
 (.chk (aJ (pi 4) (pi 0))
 (.chk De
 (.chk (aJ (pi 400) (pi 0))
 (.chk (aJ (pi 5) (pi 0))
 (.ret (br (br (aE (aE (aE (br (aE (.ai .mul .i64 (pi 365) N0) (.ai .quo .i64 N0 (pi 4))) (.ai .quo .i64 N0 (pi 100))) (.ai .quo .i64 N0 (pi 400))) (.ai .quo .i64 (aE (.ai .mul .i64 (pi 153) (br (.pick (aj r1 (pi 3)) (aE r1 (pi 12)) r1) (pi 3))) (pi 2)) (pi 5))) r2) (pi 1)) (pi 730425)))))))
def agJ:EZ.map told=some (Pb,[]):=by kernel_rfl
def akb:tree (ab EZ)=Pb:=aW agJ
def EY:Option PC:=cF [6,7,8] [] Tryz.f186 186 []
def DY:PT:=
 (.call ⟨[(28,r2),(27,(.pick (.pick (.pick (.pick (aj r0 (pi 2000)) pT (aU r0 (pi 2300))) pT (aj r1 (pi 1))) pT (aU r1 (pi 12))) pT (aj r2 (pi 1))))],[]⟩ [(27,false)] 31 187 [r0,r1]
 (.ite (.pick eK pT (aU uj sL))
 (.ret (.tup [(pi 0),(pi 3)]))
 (.call ⟨[],[]⟩ [] 37 205 [r0,r1,r2]
 (.call ⟨[(8,mN)],[]⟩ [] 39 165 [mN]
 (.ite (.nt qN)
 (.ret (.tup [(pi 0),(pi 3)]))
 (.ret (.tup [r8,(pi 0)])))))))
def agF:EY.map told=some (DY,[]):=by kernel_rfl
def O9:tree (ab EY)=DY:=aW agF
def yy:Option PC:=cF [6,7] [] Tryz.f89 89 [3,9]
def Qz:Nat->PC:=bm yy
def auo:PC:=.block 0 [6,7,13,14] [] (.loop [6,7,13] [] (b 0))
def xn (b:Nat->PC):PT:=
 (.ite (aj dy cn)
 (.chk (aq bQ dy)
 (.ite (.pick (peq (pc (.setc z3 0 (pn bQ dy)) 0) r1) (peq (pc (.setc z3 0 (pn bQ dy)) 1) r2) pF)
 (.ret (.tup [(pc (.setc z3 0 (pn bQ dy)) 2),(pi 0)]))
 (.next ⟨[(13,(aE dy (pi 1)))],[]⟩)))
 (.exit 0 ⟨[(14,(aj dy cn))],[]⟩))
def Pe:PT:=
 (.brk ⟨[(13,(pi 0)),(12,(.llen xh)),(11,xh),(7,(pi 0)),(6,(pi 0))],[]⟩
(auo b)
 (.ret (.tup [(pi 0),(pi 4)])))
def apg:PT×List (Shp×PT):=(Pe b,[(.lp 0 [6,7,13,14] [] [6,7,13] [],xn b)])
def UL:yy.map told=some (apg (bo yy)):=by kernel_rfl
def akd:tree (ab yy)=Pe Qz:=bF UL
def DE:round 0 [6,7,13,14] [] [6,7,13] [] (Qz 0)=xn Qz:=bj UL 0 λ_=>rfl
def BN:Option PC:=cF [6,7,8,2,9,10] [] Tryz.f77 77 [3]
def QM:Nat->PC:=bm BN
def auS:PC:=.block 0 [] [] (.loop [2,6,7] [] (b 0))
def WR (b:Nat->PC):PT:=
 (.blockS ⟨[],[]⟩ 1 [2,6,7,9,10,14,15,16,17,18,19,20,21,22,23,24,25,26,27,28,29,30,31,32,34] []
 (.call ⟨[],[]⟩ [] 17 124 [(aA 8 o3),r8,r2]
 (.chk (aq (pc o3 1) r1)
 (.call ⟨[(2,lD)],[]⟩ [] 25 125 [(pn (pc o3 1) r1),lD]
 (.ite (aJ (.tget ka 1) (pi 0))
 (.ret (.tup [(pi 0),(pi 3)]))
 (.ite (peq (.tget ka 0) r2)
 (.ret (.tup [r2,(pi 0)]))
 (.next ⟨[(2,(.tget ka 0))],[]⟩))))))
 (.next ⟨[],[]⟩))
def ZH:PT:=
 (.call ⟨[(7,(pi 0)),(6,(pi 0))],[(3,(.mk [r0]))]⟩ [] 13 123 [j7,r1]
 (.brk ⟨[(8,dy)],[]⟩
(auS b)
 (.next ⟨[],[]⟩)))
def apC:PT×List (Shp×PT):=(ZH b,[(.lp 0 [] [] [2,6,7] [],WR b)])
def UZ:BN.map told=some (apC (bo BN)):=by kernel_rfl
def aAX:tree (ab BN)=ZH QM:=bF UZ
def axn:round 0 [] [] [2,6,7] [] (QM 0)=WR QM:=bj UZ 0 λ_=>rfl
def BO:Option PC:=cF [6,7,2] [] Tryz.f124 124 [3,9]
def EM:Nat->PC:=bm BO
def auT:PC:=.block 2 [2,7,14,15] [] (.loop [2,7,14] [] (b 0))
def auU:PC:=.block 0 [2,7,10] [] (.loop [2,7] [] (b 1))
def DH (b:Nat->PC):PT:=
 (.ite sH
 (.chk (aq cn cw)
 (.next ⟨[(2,(.pick ain (aE (pc Dp 2) (pi 1)) r2)),(7,(.pick ain pT r7)),(14,(aE cw (pi 1)))],[]⟩))
 (.exit 2 ⟨[(15,sH)],[]⟩))
def OB:PT:=
 (.ite r7
 (.blockS ⟨[(10,r7)],[]⟩ 1 [2,7,11,12,13,14,15] []
 (.brk ⟨[(14,(pi 0)),(13,(.llen (pc o3 7))),(12,(pc o3 7)),(7,pF)],[]⟩
(auT b)
 (.next ⟨[],[]⟩))
 (.next ⟨[],[]⟩))
 (.exit 0 ⟨[(10,r7)],[]⟩))
def ZI:PT:=
 (.brk ⟨[(7,pT)],[(3,(.mk [r0]))]⟩
(auU b)
 (.ret r2))
def apD:PT×List (Shp×PT):=(ZI b,[(.lp 2 [2,7,14,15] [] [2,7,14] [],DH b),(.lp 0 [2,7,10] [] [2,7] [],OB b)])
def Nl:BO.map told=some (apD (bo BO)):=by kernel_rfl
def aAY:tree (ab BO)=ZI EM:=bF Nl
def OA:round 2 [2,7,14,15] [] [2,7,14] [] (EM 0)=DH EM:=bj Nl 0 λ_=>rfl
def ajo:round 0 [2,7,10] [] [2,7] [] (EM 1)=OB EM:=bj Nl 1 λ_=>rfl
def AY:Option PC:=cF [6] [] Tryz.f125 125 [2,4,5]
def P9:Nat->PC:=bm AY
def an0:PC:=.each cP [16] [4,5] (some (.tup [(pc o4 0),(pc o5 0)])) (b 0)
def V5 (b:Nat->PC):PT:=
 (.exit 1000000007 ⟨[],[(4,(.setc o4 0 cA)),(5,(.setc o5 0 (pi 0)))]⟩)
def XQ:PT:=
 (.call ⟨[],[(5,Hh),(4,Hh),(2,(.mk [r0]))]⟩ [] 8 165 [r1]
 (.ite (.nt r8)
 (.ret (.tup [(pc (.setc o4 0 (pi 0)) 0),(pc (.setc o5 0 (pi 3)) 0)]))
 (.call ⟨[],[]⟩ [] 15 166 [(aA 6 o2),r1,(.mn (aE r1 (pi 400)) (pi 100000))]
 (.blockS ⟨[],[]⟩ 0 [] [4,5]
 (.callc ⟨[],[]⟩ [] 18 cR []
 (.brk ⟨[],[]⟩
(an0 b)
 (.next ⟨[],[]⟩)))
 (.ret (.tup [(pc (.setc o4 0 (pi 0)) 0),(pc (.setc o5 0 (pi 3)) 0)]))))))
def aoI:PT×List (Shp×PT):=(XQ b,[(.ea [4,5],V5 b)])
def Ul:AY.map told=some (aoI (bo AY)):=by kernel_rfl
def aza:tree (ab AY)=XQ P9:=bF Ul
def axi:sS [4,5] (P9 0)=V5 P9:=Xy Ul 0 λ_=>rfl
def J2:Option PC:=cF [6] [] Tryz.f166 166 [3,4,5]
def XS:PT:=
 (.ret (.clo 188 [(.ref (pc (.mk [r1]) 0)),(.ref (pc (.mk [r2]) 0)),(.ref (aA 6 (.mk [r0])))]))
def agH:J2.map told=some (XS,[]):=by kernel_rfl
def azd:tree (ab J2)=XS:=aW agH
def uO:Option PC:=E5 {ctx with fr:=[5],nh:=[]} Tryz.f188 [(.ref I),(.ref I),(.ref Y0)] [I] 1000 [1000]
def Qa:Nat->PC:=bm uO
def atE:PC:=.block 0 [5,7,8,9] [1000] (.loop [5] [1000] (b 0))
def N7 (b:Nat->PC):PT:=
 (.ite (bE r5 (.deref r2))
 (.blockS ⟨[],[]⟩ 1 [12,13,14,15,20] [1000]
 (.call ⟨[],[]⟩ [] 14 189 [(.deref r3),r5]
 (.call ⟨[(15,cw)],[(1000,aik)]⟩ [(15,true)] 18 1000000009 [aik]
 (.ite (.pick cR (.nt cP) pF)
 (.ret (.o 1000))
 (.next ⟨[],[]⟩))))
 (.next ⟨[(5,zU)],[]⟩))
 (.exit 0 ⟨[(7,r5),(8,(.deref r2)),(9,(bE r5 (.deref r2)))],[]⟩))
def XT:PT:=
 (.brk ⟨[(5,(.deref r1))],[]⟩
(atE b)
 (.ret (.o 1000)))
def aoJ:PT×List (Shp×PT):=(XT b,[(.lp 0 [5,7,8,9] [1000] [5] [1000],N7 b)])
def Um:uO.map told=some (aoJ (bo uO)):=by kernel_rfl
def azc:tree (ab uO)=XT Qa:=bF Um
def ai6:round 0 [5,7,8,9] [1000] [5] [1000] (Qa 0)=N7 Qa:=bj Um 0 λ_=>rfl
def amj:∀yv,E5 {ctx with fr:=[5],nh:=[],yv:=yv} Tryz.f188 [(.ref I),(.ref I),(.ref Y0)] [I] 1000 [1000]=some (ab uO):=λyv=>(show _=uO by kernel_rfl).trans (av uO Um)
def J4:Option PC:=cF [4,5,6,7] [] Tryz.f189 189 [2]
def XU:PT:=
 (.call ⟨[],[(2,(.mk [r0]))]⟩ [] 10 185 [r1]
 (.chk (aJ (pi 7) (pi 0))
 (.call ⟨[(7,(.tget dx 2)),(6,(.tget dx 1))],[]⟩ [] 19 168 [(pc o2 3),(.ai .rem .i64 (aE r1 (pi 5)) (pi 7))]
 (.call ⟨[(21,(.nt jv))],[]⟩ [(21,true)] 28 168 [(pc o2 4),(aE (.ai .mul .i64 (pi 100) r6) r7)]
 (.call ⟨[(31,(.pick iT (.nt uj) pF))],[]⟩ [(31,true)] 35 168 [(pc o2 5),r1]
 (.ret (.pick sL (.nt sM) pF)))))))
def agK:J4.map told=some (XU,[]):=by kernel_rfl
def azf:tree (ab J4)=XU:=aW agK
def JW:Option PC:=cF [] [] Tryz.f33 33 [2,4,5,6,43]
def XK:PT:=
 (.chk (aq (pc (.mk [r0]) 25) r1)
 (.call ⟨[],[(6,(.setc Di 0 (.mk [r1,(pc Hn 0),(pc Hn 2),(pi 0),(pi 0),(pi 0),(.pick (aJ (pc Hn 0) (pi 1)) (peq (.ai .and .i64 (pc Hn 8) (pi 1)) (pi 0)) pF)]))),(5,Hn),(4,Di),(2,(.mk [r0]))]⟩ [] 33 66 [VI,r1,(pc (.mk [r0]) 9)]
 (.iteS ⟨[],[]⟩ (.nt uk) [] [6]
 (.call ⟨[(36,(pc o2 29))],[]⟩ [] 39 68 [(aA 31 o2),(pi 1),r1]
 (.call ⟨[],[]⟩ [] 42 68 [(aA 31 o2),(pi 2),r1]
 (.call ⟨[],[]⟩ [] 44 67 [(.lst [lE,qN,r42])]
 (.next ⟨[],[(6,(.setc o6 3 xl))]⟩))))
 (.next ⟨[],[]⟩)
 (.call ⟨[],[]⟩ [] 49 69 [(aA 31 o2),r1]
 (.ret (aA 7 (.setc o4 0 (aA 7 (.pick (.pick (peq (pc o5 0) (pi 1)) pT (peq (pc o5 0) (pi 4))) (.setc VB 5 (.mn (pc VB 5) (pc o5 5))) VB)))))))))
def agx:JW.map told=some (XK,[]):=by kernel_rfl
def ay3:tree (ab JW)=XK:=aW agx
def K8:Option PC:=cF [6] [] Tryz.f66 66 [3]
def ZV:PT:=
 (.call ⟨[(16,(.pick (bk r1 (pi 0)) (aj r1 (.llen sE)) pF))],[]⟩ [(16,true)] 19 107 [(aA 19 (.mk [r0])),r2]
 (.ret (.pick cA (.look jv r1 pF) pF)))
def ahO:K8.map told=some (ZV,[]):=by kernel_rfl
def aBc:tree (ab K8)=ZV:=aW ahO
def BR:Option PC:=cF [4] [] Tryz.f107 107 [2,5,7]
def QP:Nat->PC:=bm BR
def auZ:PC:=.block 0 [12,13] [5] (.loop [12] [5] (b 0))
def IA (b:Nat->PC):PT:=
 (.ite xe
 (.chk (aq dx cn)
 (.ite (.pick (peq (pc (.setc z9 0 qM) 0) (pi 7)) (bE (pc (.setc z9 0 qM) 6) r1) pF)
 (.chk (aj (.mlen o5) cK)
 (.next ⟨[(12,Dg)],[(5,(.put o5 (pc (.setc z9 0 qM) 4) pT))]⟩))
 (.next ⟨[(12,Dg)],[]⟩)))
 (.exit 0 ⟨[(13,xe)],[]⟩))
def ZW:PT:=
 (.brk ⟨[(12,(pi 0)),(11,(.llen (pc (.mk [r0]) 17))),(10,(pc (.mk [r0]) 17)),(5,pN)],[(5,(.con (.map [])))]⟩
(auZ b)
 (.ret o5))
def apH:PT×List (Shp×PT):=(ZW b,[(.lp 0 [12,13] [5] [12] [5],IA b)])
def U2:BR.map told=some (apH (bo BR)):=by kernel_rfl
def aBd:tree (ab BR)=ZW QP:=bF U2
def WW:round 0 [12,13] [5] [12] [5] (QP 0)=IA QP:=bj U2 0 λ_=>rfl
def JX:Option PC:=cF [6] [] Tryz.f68 68 [3,7]
def XL:PT:=
 (.call ⟨[],[]⟩ [] 23 71 [j7,(pc (.mk [r0]) 8),r1,(aA 24 (.setc aiy 0 (.mk [VI,r2,r2,(pi (-1)),(pc (.mk [r0]) 30),(pc (.mk [r0]) 9)])))]
 (.call ⟨[],[]⟩ [] 24 65 [iu]
 (.ret pA)))
def agy:JX.map told=some (XL,[]):=by kernel_rfl
def ay4:tree (ab JX)=XL:=aW agy
def AV:Option PC:=cF [2,3,5,12,15] [] Tryz.f67 67 []
def P7:Nat->PC:=bm AV
def atC:PC:=.block 0 [2,3,8,9] [] (.loop [2,3,8] [] (b 0))
def HC (b:Nat->PC):PT:=
 (.ite (aj r8 r7)
 (.chk (aq r6 r8)
 (.ite (peq (pn r6 r8) (pi 0))
 (.ret (pi 0))
 (.next ⟨[(3,(.pick (peq (pn r6 r8) (pi 2)) (pi 2) r3)),(8,sF)],[]⟩)))
 (.exit 0 ⟨[(9,(aj r8 r7))],[]⟩))
def XI:PT:=
 (.brk ⟨[(8,(pi 0)),(7,(.llen r0)),(6,r0),(3,(pi 1)),(2,(pi 0))],[]⟩
(atC b)
 (.ret r3))
def aoF:PT×List (Shp×PT):=(XI b,[(.lp 0 [2,3,8,9] [] [2,3,8] [],HC b)])
def Uj:AV.map told=some (aoF (bo AV)):=by kernel_rfl
def ay1:tree (ab AV)=XI P7:=bF Uj
def V1:round 0 [2,3,8,9] [] [2,3,8] [] (P7 0)=HC P7:=bj Uj 0 λ_=>rfl
def AW:Option PC:=cF [4,5,6,7,10,50,54] [] Tryz.f69 69 [2,9]
def P8:Nat->PC:=bm AW
def atD:PC:=.block 0 [7,23,24] [] (.loop [7,23] [] (b 0))
def HE (b:Nat->PC):PT:=
 (.ite (aj iu pz)
 (.chk (aq iT iu)
 (.next ⟨[(7,(.pick r7 pT (aU (pc (.setc z2 0 (pn iT iu)) 0) r1))),(23,(aE iu (pi 1)))],[]⟩))
 (.exit 0 ⟨[(24,(aj iu pz))],[]⟩))
def XM:PT:=
 (.call ⟨[(5,(pi 0))],[(2,(.mk [r0]))]⟩ [] 14 108 [VI,r1]
 (.brk ⟨[(23,(pi 0)),(22,(.llen (pc o2 26))),(21,(pc o2 26)),(7,pF),(6,(.llen (pc o2 26))),(5,cw)],[]⟩
(atD b)
 (.ite (.nt r7)
 (.ret (.tup [(pi 0),r5]))
 (.chk (aq (pc o2 26) (br r6 (pi 1)))
 (.call ⟨[(10,(pc (pn (pc o2 26) (br r6 (pi 1))) 1))],[]⟩ [] 48 68 [(aA 31 o2),(pi 4),r1]
 (.ite (peq kc (pi 1))
 (.ret (.tup [kc,dx]))
 (.ite (peq kc (pi 2))
 (.ret (.tup [kc,(.mn r5 dx)]))
 (.ret (.tup [kc,r5])))))))))
def aoG:PT×List (Shp×PT):=(XM b,[(.lp 0 [7,23,24] [] [7,23] [],HE b)])
def Uk:AW.map told=some (aoG (bo AW)):=by kernel_rfl
def ay5:tree (ab AW)=XM P8:=bF Uk
def V2:round 0 [7,23,24] [] [7,23] [] (P8 0)=HE P8:=bj Uk 0 λ_=>rfl
end Rm
