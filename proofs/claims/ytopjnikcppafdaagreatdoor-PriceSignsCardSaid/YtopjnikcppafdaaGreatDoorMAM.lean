/-
  The functions of this seat, compiled (2).
-/
import Derived.Test.YtopjnikcppafdaaGreatDoorMAJ
import Derived.KernelRfl
set_option linter.defProp false
set_option linter.unusedVariables false
set_option maxRecDepth 100000
noncomputable section
namespace Rm
open Go Go.Proofs Cx
def KO:Option PC:=cF [4,8,13,17,21] [] Tryz.f226 226 [2]
def ZB:PT:=
 (.ite (peq r0 (pi 3))
 (.ret (.mk [(pc (.setc mw 0 (.mk [(.lst [(pi 1)]),(pi 1)])) 0),(pc (.setc mw 0 (.mk [(.lst [(pi 1)]),(pi 1)])) 1)]))
 (.ite (.pick (peq r0 (pi 4)) (peq r0 (pi 4)) (peq r0 (pi 5)))
 (.ret (.mk [(pc (.setc mw 0 (.mk [(.lst [(pi 1),(pi 1)]),(pi 1)])) 0),(pc (.setc mw 0 (.mk [(.lst [(pi 1),(pi 1)]),(pi 1)])) 1)]))
 (.ite (peq r0 (pi 6))
 (.ret (.mk [(pc ahY 0),(pc ahY 1)]))
 (.ite (peq r0 (pi 7))
 (.ret (.mk [(pc (.setc mw 0 (.mk [(.lst [(pi 0),(pi 0)]),(pi 1)])) 0),(pc (.setc mw 0 (.mk [(.lst [(pi 0),(pi 0)]),(pi 1)])) 1)]))
 (.ite (peq r0 (pi 8))
 (.ret (.mk [(pc (.setc mw 0 (.mk [(.lst [(pi (-1)),(pi (-1))]),(pi 1)])) 0),(pc (.setc mw 0 (.mk [(.lst [(pi (-1)),(pi (-1))]),(pi 1)])) 1)]))
 (.ret (.mk [(pc (.setc mw 0 (.mk [(.lst [(pi 0),(pi 0)]),(pi 0)])) 0),(pc (.setc mw 0 (.mk [(.lst [(pi 0),(pi 0)]),(pi 0)])) 1)])))))))
def ahg:KO.map told=some (ZB,[]):=by kernel_rfl
def aAb:tree (ab KO)=ZB:=aT ahg
def KG:Option PC:=cF [5,6,8] [] Tryz.f182 182 [2,4,7]
def Zs:PT:=
 (.call ⟨[],[(4,gF),(2,(.mk [r0]))]⟩ [] 11 201 [(.mk [j5,mz,zK])]
 (.ite (aJ (.tget bQ 1) (pi 0))
 (.ret G4)
 (.call ⟨[],[]⟩ [] 21 202 [(.mk [r1]),(.mk [(pc o2 0),(pc o2 1),(pc o2 2)])]
 (.ret (.mk [(pc ahR 0),(pc ahR 1)])))))
def ag8:KG.map told=some (Zs,[]):=by kernel_rfl
def az1:tree (ab KG)=Zs:=aT ag8
def Bz:Option PC:=cF [5,15,21,9,11] [] Tryz.f202 202 [2,3,4,6,33,7,8,10,12298,12]
def Qv:Nat->PC:=bn Bz
variable(b:Nat->PC)
def aua:PC:=.block 1 [45,46] [7,8] (.loop [45] [7,8] (b 0))
def If (b:Nat->PC):PT:=
 (.ite (aj sw wY)
 (.blockS ⟨[],[]⟩ 2 [9,10,47,48,49,50,51,52,53,54,55,56,57,58,59,60,61] [10,12298,8,7]
 (.chk (aq vh sw)
 (.call ⟨[(54,sw),(52,sw)],[]⟩ [] 57 202 [(.mk [(pc o2 0)]),(.mk [(pc (.setc nr 0 (pn vh sw)) 0),(pc (.setc nr 0 (pn vh sw)) 1),(pc (.setc nr 0 (pn vh sw)) 2)])]
 (.chk (aq o7 Da)
 (.chk (aq o8 mE)
 (.next ⟨[],[(8,(.setn o8 mE 0 (.tget NL 1))),(7,(.setn o7 Da 0 (.tget NL 0)))]⟩)))))
 (.next ⟨[(45,(aF sw (pi 1)))],[]⟩))
 (.exit 1 ⟨[(46,(aj sw wY))],[]⟩))
def IG:PT:=
 (.blockS ⟨[(14,(pc (.mk [r1]) 0))],[(4,gF),(3,(.mk [r1])),(2,(.mk [r0]))]⟩ 0 [5,15,16,21,22] [4]
 (.iteS ⟨[],[]⟩ (.pick (peq cu (pi 0)) (peq cu (pi 0)) (peq cu (pi 1))) [5,21,22] [4]
 (.ret (.tup [(.mk [(pc (.setc o4 0 (.mk [pT,(pc o3 1)])) 0),(pc (.setc o4 0 (.mk [pT,(pc o3 1)])) 1)]),pL]))
 (.iteS ⟨[],[]⟩ (peq cu (pi 2)) [5] [4]
 (.call ⟨[],[]⟩ [] 26 219 [(.mk [(pc o2 0)]),(pc o3 1)]
 (.ite (pc (.setc gF 0 lU) 0)
 (.ret (.tup [(.mk [(pc ahX 0),(pc ahX 1)]),pL]))
 (.ret (.tup [G4,(.lst [(pc o3 1)])]))))
 (.next ⟨[],[]⟩)
 (.next ⟨[],[]⟩))
 (.next ⟨[],[]⟩))
 (.chk (.an (bk ns (pi 0)) (bG ns cO))
 (.chk (peq ns ns)
 (.brk ⟨[(45,(pi 0)),(44,ns),(43,(pc o3 2)),(8,pN),(7,pN)],[(8,(.rep ns pL)),(7,(.rep ns gF))]⟩
(aua b)
 (.chk (.nt (.an (.an (peq (pc o3 0) (pi 6)) pT) (.nt (aq o7 (pi 0)))))
 (.ite (.pick (peq (pc o3 0) (pi 6)) (pc (pn o7 (pi 0)) 0) pF)
 (.chk (aq o7 (pi 0))
 (.chk (aq o7 G7)
 (.chk (aq o8 G7)
 (.ret (.tup [(.mk [(pc (.setc o4 0 (.sub (pn o7 G7) 0 2)) 0),(pc (.setc o4 0 (.sub (pn o7 G7) 0 2)) 1)]),(pn o8 G7)])))))
 (.call ⟨[],[]⟩ [] 88 220 [(pc o3 0),o7]
 (.ite (pc (.setc gF 0 NQ) 0)
 (.ret (.tup [(.mk [(pc ahW 0),(pc ahW 1)]),pL]))
 (.call ⟨[(92,zE)],[]⟩ [] 94 221 [o8]
 (.ret (.tup [(.mk [(pc (.setc o4 0 VH) 0),(pc (.setc o4 0 VH) 1)]),r94])))))))))))
def ao1:PT×List (Shp×PT):=(IG b,[(.lp 1 [45,46] [7,8] [45] [7,8],If b)])
def UJ:Bz.map told=some (ao1 (bt Bz)):=by kernel_rfl
def az8:tree (ab Bz)=IG Qv:=bH UJ
def WB:round 1 [45,46] [7,8] [45] [7,8] (Qv 0)=If Qv:=bm UJ 0 λ_=>rfl
def KM:Option PC:=cF [5,6] [] Tryz.f219 219 [2,4]
def Zz:PT:=
 (.chk (.nt (.an (.an (.nt (bk r1 (.llen j5))) pT) (.nt (aq j5 r1))))
 (.ite (.pick (bk r1 (.llen j5)) pT (.nt (pc (pn j5 r1) 0)))
 (.ret (.mk [(pc (.setc gF 0 zE) 0),(pc (.setc gF 0 zE) 1)]))
 (.call ⟨[],[(4,gF),(2,(.mk [r0]))]⟩ [] 24 227 [r1]
 (.iteS ⟨[],[]⟩ (peq (.tget nu 0) (pi 1)) [] [4]
 (.chk (aq (pc o2 0) r1)
 (.call ⟨[],[]⟩ [] 36 228 [(aJ (pc (pn (pc o2 0) r1) 1) (pi 0))]
 (.ret (.mk [(pc (.setc o4 0 lg) 0),(pc (.setc o4 0 lg) 1)]))))
 (.next ⟨[],[]⟩)
 (.chk (aq (pc o2 0) r1)
 (.call ⟨[],[]⟩ [] 43 229 [(pc (pn (pc o2 0) r1) 1)]
 (.ret (.mk [(pc (.setc o4 0 (.mk [pT,vh])) 0),(pc (.setc o4 0 (.mk [pT,vh])) 1)]))))))))
def ahe:KM.map told=some (Zz,[]):=by kernel_rfl
def az9:tree (ab KM)=Zz:=aT ahe
def KP:Option PC:=cF [] [] Tryz.f228 228 [2]
def ZC:PT:=
 (.ite r0
 (.ret (.mk [(pc Nk 0),(pc Nk 1)]))
 (.ret (.mk [(pc Nl 0),(pc Nl 1)])))
def ahh:KP.map told=some (ZC,[]):=by kernel_rfl
def aAc:tree (ab KP)=ZC:=aT ahh
def KJ:Option PC:=cF [9,22,41,6,7,82,88,94] [] Tryz.f220 220 [4,5]
def Zw:PT:=
 (.blockS ⟨[(8,r0)],[(4,gF)]⟩ 0 [9,10,22,23] [4]
 (.iteS ⟨[],[]⟩ (peq r8 (pi 3)) [22,23] [4]
 (.chk (aq r1 (pi 0))
 (.iteS ⟨[],[]⟩ (pc (pn r1 (pi 0)) 0) [] [4]
 (.chk (aq r1 (pi 0))
 (.call ⟨[],[]⟩ [] 20 228 [(peq (pc (pn r1 (pi 0)) 1) (pi 0))]
 (.ret (.mk [(pc (.setc o4 0 eI) 0),(pc (.setc o4 0 eI) 1)]))))
 (.next ⟨[],[]⟩)
 (.ret G4)))
 (.iteS ⟨[],[]⟩ (.pick (peq r8 (pi 4)) (peq r8 (pi 4)) (peq r8 (pi 5))) [] [4]
 (.call ⟨[],[]⟩ [] 27 228 [(peq r0 (pi 5))]
 (.chk (aq r1 (pi 0))
 (.chk (.nt (.an (.an (.nt aif) pT) (.nt (aq r1 (pi 1)))))
 (.ite (.pick aif pT (.an (.cb .eql (pc sk 0) (pc C3 0)) (.an (peq (pc sk 1) (pc C3 1)) pT)))
 (.ret (.mk [(pc (.setc o4 0 C3) 0),(pc (.setc o4 0 C3) 1)]))
 (.next ⟨[],[]⟩)))))
 (.ite (peq r8 (pi 6))
 (.chk (aq r1 (pi 1))
 (.chk (.nt (.an (.an (pc sk 0) pT) (.nt (aq r1 (pi 1)))))
 (.chk (.nt (.an (.an (pc sk 0) pT) (.nt (aq r1 (pi 2)))))
 (.ite (.pick (pc sk 0) (.an (.cb .eql (pc sk 0) (pc (pn r1 (pi 2)) 0)) (.an (peq (pc sk 1) (pc (pn r1 (pi 2)) 1)) pT)) pF)
 (.ret (.mk [(pc (.setc o4 0 sk) 0),(pc (.setc o4 0 sk) 1)]))
 (.ret G4)))))
 (.next ⟨[],[]⟩))
 (.next ⟨[],[]⟩))
 (.next ⟨[],[]⟩))
 (.chk (aq r1 (pi 0))
 (.chk (.nt (.an (.an (.nt (.nt (pc (pn r1 (pi 0)) 0))) pT) (.nt (aq r1 (pi 1)))))
 (.ite (.pick (.nt (pc (pn r1 (pi 0)) 0)) pT (.nt (pc sk 0)))
 (.ret G4)
 (.chk (aq r1 (pi 1))
 (.blockS ⟨[(81,r0),(7,(pc sk 1)),(6,(pc (pn r1 (pi 0)) 1))],[]⟩ 1 [82,83,88,89,94,95] [4]
 (.iteS ⟨[],[]⟩ (.pick (peq w6 (pi 4)) (peq w6 (pi 4)) (peq w6 (pi 5))) [88,89,94,95] [4]
 (.call ⟨[],[]⟩ [] 87 228 [(peq r0 (pi 4))]
 (.ret (.mk [(pc (.setc o4 0 r87) 0),(pc (.setc o4 0 r87) 1)])))
 (.iteS ⟨[],[]⟩ (peq w6 (pi 7)) [94,95] [4]
 (.call ⟨[],[]⟩ [] 93 228 [(aj r6 r7)]
 (.ret (.mk [(pc (.setc o4 0 NR) 0),(pc (.setc o4 0 NR) 1)])))
 (.iteS ⟨[],[]⟩ (peq w6 (pi 8)) [] [4]
 (.call ⟨[],[]⟩ [] 99 228 [(peq r6 r7)]
 (.ret (.mk [(pc (.setc o4 0 r99) 0),(pc (.setc o4 0 r99) 1)])))
 (.next ⟨[],[]⟩)
 (.next ⟨[],[]⟩))
 (.next ⟨[],[]⟩))
 (.next ⟨[],[]⟩))
 (.call ⟨[],[]⟩ [] 103 230 [r0,r6,r7]
 (.ret (.mk [(pc (.setc o4 0 (.mk [pT,aij])) 0),(pc (.setc o4 0 (.mk [pT,aij])) 1)])))))))))
def ahb:KJ.map told=some (Zw,[]):=by kernel_rfl
def az5:tree (ab KJ)=Zw:=aT ahb
def KI:Option PC:=cF [6,8,14,20,25] [] Tryz.f230 230 []
def Zu:PT:=
 (.blockS ⟨[(7,r0)],[]⟩ 0 [6,8,9,14,15,20,21,25,26] []
 (.iteS ⟨[],[]⟩ (peq r7 (pi 9)) [6,14,15,20,21,25,26] []
 (.call ⟨[],[]⟩ [] 13 229 [(aF r1 r2)]
 (.ret db))
 (.iteS ⟨[],[]⟩ (peq r7 (pi 10)) [6,20,21,25,26] []
 (.call ⟨[],[]⟩ [] 19 229 [(bq r1 r2)]
 (.ret jk))
 (.iteS ⟨[],[]⟩ (peq r7 (pi 11)) [6,25,26] []
 (.call ⟨[],[]⟩ [] 24 232 [r1,r2]
 (.ret nu))
 (.ite (peq r7 (pi 12))
 (.ret (.mn r1 r2))
 (.next ⟨[],[]⟩))
 (.next ⟨[],[]⟩))
 (.next ⟨[],[]⟩))
 (.next ⟨[],[]⟩))
 (.ret (.mx r1 r2)))
def aha:KI.map told=some (Zu,[]):=by kernel_rfl
def az3:tree (ab KI)=Zu:=aT aha
def KN:Option PC:=cF [4,5,6,7] [] Tryz.f232 232 []
def ZA:PT:=
 (.call ⟨[],[]⟩ [] 19 83 [(.conv .u64 (.mx r0 (bq (pi 0) r0))),(.conv .u64 (.mx r1 (bq (pi 0) r1)))]
 (.ite (.cb .neq (aj r0 (pi 0)) (aj r1 (pi 0)))
 (.ret (bq (pi 0) ah3))
 (.ret ah3)))
def ahf:KN.map told=some (ZA,[]):=by kernel_rfl
def aAa:tree (ab KN)=ZA:=aT ahf
def JJ:Option PC:=cF [4,5,6,7,8,9,10,11,12,13] [] Tryz.f83 83 []
def Xy:PT:=
 (.chk CZ
 (.ret (.tup [(.ai .add .u64 (.ai .add .u64 (.ai .mul .u64 vf (.ai .shr .u64 r1 wU)) (.ai .shr .u64 ah6 wU)) (.ai .shr .u64 (.ai .add .u64 (.ai .and .u64 ah6 zH) (.ai .mul .u64 (.ai .and .u64 r0 zH) (.ai .shr .u64 r1 wU))) wU)),(.ai .mul .u64 r0 r1)])))
def af2:JJ.map told=some (Xy,[]):=by kernel_rfl
def ayb:tree (ab JJ)=Xy:=aT af2
def Bo:Option PC:=cF [2,3,5,8] [] Tryz.f221 221 [6]
def El:Nat->PC:=bn Bo
def atV:PC:=.block 0 [3,11,12] [] (.loop [3,11] [] (b 0))
def atW:PC:=.block 2 [6,27,28] [6] (.loop [6,27] [6] (b 1))
def Oc (b:Nat->PC):PT:=
 (.ite (aj bQ dA)
 (.chk (aq r9 bQ)
 (.ite (aj (aF r3 (.llen (pn r9 bQ))) (pi 0))
 (.chk (.nt pT)
 (.chk (.nt pT)
 (.next ⟨[(3,(aF r3 (.llen (pn r9 bQ)))),(11,(aF bQ (pi 1)))],[]⟩)))
 (.next ⟨[(3,(aF r3 (.llen (pn r9 bQ)))),(11,(aF bQ (pi 1)))],[]⟩)))
 (.exit 0 ⟨[(12,(aj bQ dA))],[]⟩))
def Od (b:Nat->PC):PT:=
 (.ite (aj eJ lU)
 (.chk (aq kH eJ)
 (.chk (bG (.llen (.app o6 (pn kH eJ))) cO)
 (.next ⟨[(6,pN),(27,(aF eJ (pi 1)))],[(6,(.app o6 (pn kH eJ)))]⟩)))
 (.exit 2 ⟨[(28,(aj eJ lU))],[]⟩))
def YY:PT:=
 (.brk ⟨[(11,(pi 0)),(10,(.llen r0)),(9,r0),(3,(pi 0))],[]⟩
(atV b)
 (.call ⟨[],[]⟩ [] 24 231 [pL,r3]
 (.brk ⟨[(27,(pi 0)),(26,(.llen r0)),(25,r0),(6,pN)],[(6,nu)]⟩
(atW b)
 (.ret o6))))
def aoQ:PT×List (Shp×PT):=(YY b,[(.lp 0 [3,11,12] [] [3,11] [],Oc b),(.lp 2 [6,27,28] [6] [6,27] [6],Od b)])
def M1:Bo.map told=some (aoQ (bt Bo)):=by kernel_rfl
def azI:tree (ab Bo)=YY El:=bH M1
def aiL:round 0 [3,11,12] [] [3,11] [] (El 0)=Oc El:=bm M1 0 λ_=>rfl
def aiM:round 2 [6,27,28] [6] [6,27] [6] (El 1)=Od El:=bm M1 1 λ_=>rfl
def Jz:Option PC:=cF [2,3,7,12] [] Tryz.f78 78 [1]
def Xm:PT:=
 (.ite (aJ (pc (.mk [r0]) 4) (pi 0))
 (.ret (pi 0))
 (.ite (.nt j5)
 (.ret (pi 2))
 (.ite (aJ mz (pi 0))
 (.ret (pi 1))
 (.ret (pi 0)))))
def afS:Jz.map told=some (Xm,[]):=by kernel_rfl
def axX:tree (ab Jz)=Xm:=aT afS
def Jx:Option PC:=cF [8,9,10,11] [] Tryz.f30 30 [4,6]
def Xk:PT:=
 (.call ⟨[],[(6,(.mk [r2])),(4,(.mk [r0]))]⟩ [] 14 62 [G0,r3]
 (.ite (peq (.llen (pc (.setc o6 0 cu) 15)) (pi 0))
 (.ret (pi (-1)))
 (.call ⟨[],[(6,(.setc o6 0 cu))]⟩ [] 23 64 [(aA 8 o4),r1,(pi 6),(aA 19 (.setc o6 0 cu)),r3]
 (.call ⟨[],[]⟩ [] 24 63 [gG]
 (.call ⟨[(29,(aA 15 o6)),(27,(aA 8 o4)),(9,(.mx nu (pi 0)))],[]⟩ [] 31 66 [(aA 19 o6)]
 (.call ⟨[],[]⟩ [] 33 65 [eJ,nv,sv,r9]
 (.ite (aJ (.tget tT 1) (pi 0))
 (.ret (pi (-1)))
 (.ret (.tget tT 0)))))))))
def afQ:Jx.map told=some (Xk,[]):=by kernel_rfl
def axV:tree (ab Jx)=Xk:=aT afQ
def Jy:Option PC:=cF [2] [] Tryz.f63 63 [1]
def Xl:PT:=
 (.ite (.pick (aJ (pc (.mk [r0]) 4) (pi 0)) pT (.nt j5))
 (.ret (pi (-1)))
 (.ret mz))
def afR:Jy.map told=some (Xl,[]):=by kernel_rfl
def axW:tree (ab Jy)=Xl:=aT afR
def Bm:Option PC:=cF [2,4] [] Tryz.f66 66 [1,3,6,8]
def Ej:Nat->PC:=bn Bm
def atT:PC:=.block 0 [3,16,17] [3] (.loop [3,16] [3] (b 0))
def atU:PC:=.block 2 [2,3,36,37] [3] (.loop [2,3,36] [3] (b 1))
def H5 (b:Nat->PC):PT:=
 (.ite (aj cj dB)
 (.chk (aq cu cj)
 (.ite (.pick (peq r4 (pi 1)) (peq (pc (.setc z9 0 mC) 0) (pi 1)) pF)
 (.chk (bG (.llen (.app o3 (.lst [(pc (.setc z9 0 mC) 6)]))) cO)
 (.next ⟨[(3,pN),(16,(aF cj (pi 1)))],[(3,(.app o3 (.lst [(pc (.setc z9 0 mC) 6)])))]⟩))
 (.next ⟨[(16,(aF cj (pi 1)))],[]⟩)))
 (.exit 0 ⟨[(17,(aj cj dB))],[]⟩))
def zR (b:Nat->PC):PT:=
 (.ite (aj lg oZ)
 (.chk (aq Hd lg)
 (.ite (.pick (peq r4 (pi 0)) (peq (pc GW 0) (pi 2)) pF)
 (.ret (pc GW 6))
 (.ite (.pick (peq r4 (pi 1)) (peq (pc GW 0) (pi 1)) pF)
 (.chk (bG (.llen (.app o3 (.lst [(pc GW 6)]))) cO)
 (.next ⟨[(3,pN),(36,(aF lg (pi 1)))],[(3,(.app o3 (.lst [(pc GW 6)])))]⟩))
 (.next ⟨[(36,(aF lg (pi 1)))],[]⟩))))
 (.exit 2 ⟨[(37,(aj lg oZ))],[]⟩))
def YU:PT:=
 (.brk ⟨[(16,(pi 0)),(15,(.llen sf)),(14,sf),(4,wW),(3,pN),(2,(pi 0))],[(3,pL),(1,(.mk [r0]))]⟩
(atT b)
 (.brk ⟨[(36,(pi 0)),(35,(.llen (pc o1 17))),(34,(pc o1 17))],[]⟩
(atU b)
 (.ite (peq (.llen o3) (pi 0))
 (.ret (pi (-1)))
 (.call ⟨[],[]⟩ [] 66 109 [o3]
 (.ret r66)))))
def aoO:PT×List (Shp×PT):=(YU b,[(.lp 0 [3,16,17] [3] [3,16] [3],H5 b),(.lp 2 [2,3,36,37] [3] [2,3,36] [3],zR b)])
def MZ:Bm.map told=some (aoO (bt Bm)):=by kernel_rfl
def azD:tree (ab Bm)=YU Ej:=bH MZ
def Wq:round 0 [3,16,17] [3] [3,16] [3] (Ej 0)=H5 Ej:=bm MZ 0 λ_=>rfl
def H6:round 2 [2,3,36,37] [3] [2,3,36] [3] (Ej 1)=zR Ej:=bm MZ 1 λ_=>rfl
def Bv:Option PC:=cF [2,3,4] [] Tryz.f109 109 []
def Qt:Nat->PC:=bn Bv
def ae7:PC:=.block 0 [3,4,12,13,14,15] [] (.loop [3,4] [] (b 0))
def Oe (b:Nat->PC):PT:=
 (.ite (aj r4 (.llen r0))
 (.chk (aq r0 r4)
 (.next ⟨[(3,(.mn r3 (pn r0 r4))),(4,(aF r4 (pi 1)))],[]⟩))
 (.exit 0 ⟨[(12,r4),(13,r0),(14,(.llen r0)),(15,(aj r4 (.llen r0)))],[]⟩))
def Zk:PT:=
 (.ite (aj (.llen r0) (pi 1))
 (.chk (.nt pT)
 (.chk (.nt pT)
 (.chk (aq r0 (pi 0))
 (.brk ⟨[(4,(pi 1)),(3,(pn r0 (pi 0)))],[]⟩
(ae7 b)
 (.ret r3)))))
 (.chk (aq r0 (pi 0))
 (.brk ⟨[(4,(pi 1)),(3,(pn r0 (pi 0)))],[]⟩
(ae7 b)
 (.ret r3))))
def aoX:PT×List (Shp×PT):=(Zk b,[(.lp 0 [3,4,12,13,14,15] [] [3,4] [],Oe b)])
def UH:Bv.map told=some (aoX (bt Bv)):=by kernel_rfl
def azU:tree (ab Bv)=Zk Qt:=bH UH
def aiN:round 0 [3,4,12,13,14,15] [] [3,4] [] (Qt 0)=Oe Qt:=bm UH 0 λ_=>rfl
def EB:Option PC:=cF [8,9,15,39,58,74,11,12] [] Tryz.f65 65 [4,5,10]
def IF:PT:=
 (.blockS ⟨[],[(10,(.setc z3 0 (.mk [(pc (.mk [r1]) 5),(pc (.mk [r1]) 6),(pc (.mk [r1]) 7)]))),(5,(.mk [r1])),(4,(.mk [r0]))]⟩ 0 [8,9,15,16,17,18,19,25,26,32,33,38,39,40,41,42,43,47,48,52,53,57,58,59,60,61,65,66,69,70,73,74,75,76,77,80] []
 (.call ⟨[],[]⟩ [] 17 94 [(aA 8 o4)]
 (.call ⟨[(19,(aJ lf (pi 0)))],[]⟩ [(19,false)] 23 104 [(aA 8 o4),(pc o5 9)]
 (.call ⟨[(26,(.pick jk pT (.nt gG)))],[]⟩ [(26,false)] 30 104 [(aA 8 o4),(pc o5 10)]
 (.call ⟨[(33,(.pick lU pT (.nt su)))],[]⟩ [(33,false)] 36 105 [(pc o5 8)]
 (.iteS ⟨[],[]⟩ (.pick tT pT (.nt lg)) [8,9,39,40,41,42,43,47,48,52,53,57,58,59,60,61,65,66,69,70,73,74,75,76,77,80] []
 (.ret (.tup [(pi 0),(pi 1)]))
 (.iteS ⟨[],[]⟩ (.pick (.pick (.pick (aj (pc cd 0) (pi 0)) pT (bk (pc cd 0) (pi 5))) pT (aj (pc cd 2) (pi 0))) pT (bk (pc cd 2) (pi 2))) [8,9,58,59,60,61,65,66,69,70,73,74,75,76,77,80] []
 (.ret (.tup [(pi 0),(pi 1)]))
 (.call ⟨[(61,(aJ r2 (pi (-1))))],[]⟩ [(61,true)] 63 105 [r2]
 (.iteS ⟨[],[]⟩ (.pick (.pick (.pick Hg (.nt NM) pF) pT (aj r3 (pi 0))) pT (aW r3 (pi 20000))) [8,9,74,75,76,77,80] []
 (.ret (.tup [(pi 0),(pi 1)]))
 (.call ⟨[],[]⟩ [] 76 106 [(.mk [(pc cd 0),(pc cd 1),(pc cd 2)])]
 (.ite (.pick vi (peq r2 (pi (-1))) pF)
 (.ret (.tup [(pi 0),(pi 4)]))
 (.next ⟨[],[]⟩)))
 (.next ⟨[],[]⟩)))
 (.next ⟨[],[]⟩))
 (.next ⟨[],[]⟩))))))
 (.call ⟨[],[]⟩ [] 85 107 [(aA 8 o4),(aA 15 o5),r2]
 (.ite (aJ (.tget Hj 1) (pi 0))
 (.ret (.tup [(pi 0),(.tget Hj 1)]))
 (.call ⟨[(11,(.tget Hj 0))],[]⟩ [] 92 105 [(.tget Hj 0)]
 (.ite (.pick (.nt VH) pT (aW (aF bQ r3) (pi 100000)))
 (.ret (.tup [(pi 0),(pi 3)]))
 (.call ⟨[],[]⟩ [] 106 108 [(aA 8 o4),(pc o5 10),(aF bQ r3)]
 (.ret (.tup [(.tget NJ 0),(.tget NJ 1)]))))))))
def ag1:EB.map told=some (IF,[]):=by kernel_rfl
def Zl:tree (ab EB)=IF:=aT ag1
def Bb:Option PC:=cF [2,3,4,5,6,7,10,11,12] [] Tryz.f94 94 [1,9]
def Qg:Nat->PC:=bn Bb
def atv:PC:=.block 0 [2,38,39] [] (.loop [2,38] [] (b 0))
def HQ (b:Nat->PC):PT:=
 (.ite (aj jD mD)
 (.blockS ⟨[],[]⟩ 1 [2,9,40,41,42,43,44,45] [9]
 (.chk (aq lg jD)
 (.call ⟨[],[]⟩ [] 44 135 [(pc (.setc GY 0 (pn lg jD)) 0),(pi 10)]
 (.ite (.nt wY)
 (.ret (pi 1))
 (.next ⟨[],[]⟩))))
 (.next ⟨[(38,(aF jD (pi 1)))],[]⟩))
 (.exit 0 ⟨[(39,(aj jD mD))],[]⟩))
def YB:PT:=
 (.call ⟨[(2,(pi 0))],[(1,(.mk [r0]))]⟩ [] 15 130 [j4]
 (.call ⟨[(5,(.tget dB 2)),(4,(.tget dB 1)),(3,(.tget dB 0))],[]⟩ [] 21 131 [(pc o1 0),(pi 8),(.con (.clo 132 []))]
 (.ite (aJ iO (pi 0))
 (.ret iO)
 (.call ⟨[],[(1,(aA 8 o1))]⟩ [] 27 131 [r3,(pi 40),(.clo 133 [(.ref (aA 8 o1))])]
 (.ite (aJ eJ (pi 0))
 (.ret eJ)
 (.ite (aW tQ (pi 20))
 (.ret (pi 6))
 (.brk ⟨[(38,(pi 0)),(37,tQ),(36,(pc o1 2))],[]⟩
(atv b)
 (.call ⟨[],[]⟩ [] 49 131 [r4,(pi 200),(.clo 136 [(.ref o1)])]
 (.ite (aJ pf (pi 0))
 (.ret pf)
 (.call ⟨[],[]⟩ [] 55 131 [r5,(pi 20),(.clo 137 [(.ref o1)])]
 (.ite (aJ Db (pi 0))
 (.ret Db)
 (.call ⟨[],[]⟩ [] 60 139 [(.sub o1 0 8)]
 (.ite (aJ Hf (pi 0))
 (.ret Hf)
 (.call ⟨[],[]⟩ [] 65 140 [(.sub o1 0 8)]
 (.ret Dc)))))))))))))))
def aoC:PT×List (Shp×PT):=(YB b,[(.lp 0 [2,38,39] [] [2,38] [],HQ b)])
def Uu:Bb.map told=some (aoC (bt Bb)):=by kernel_rfl
def azp:tree (ab Bb)=YB Qg:=bH Uu
def Wd:round 0 [2,38,39] [] [2,38] [] (Qg 0)=HQ Qg:=bm Uu 0 λ_=>rfl
def Bf:Option PC:=cF [] [] Tryz.f130 130 [1,2,3,4,6,16390,20486,24582,21,8,34,10,12298,16394,47]
def yc:Nat->PC:=bn Bf
def atA:PC:=.block 0 [2,14,15] [2] (.loop [2,14] [2] (b 0))
def atC:PC:=.block 2 [3,27,28] [3] (.loop [3,27] [3] (b 1))
def atD:PC:=.block 4 [4,40,41] [4] (.loop [4,40] [4] (b 2))
def N6 (b:Nat->PC):PT:=
 (.ite sl
 (.chk (aq cm cu)
 (.chk (bG (.llen ah7) cO)
 (.next ⟨[(2,pN),(14,(aF cu (pi 1)))],[(2,ah7)]⟩)))
 (.exit 0 ⟨[(15,sl)],[]⟩))
def N7 (b:Nat->PC):PT:=
 (.ite (aj eJ lU)
 (.chk (aq kH eJ)
 (.chk (bG (.llen aid) cO)
 (.next ⟨[(3,pN),(27,(aF eJ (pi 1)))],[(3,aid)]⟩)))
 (.exit 2 ⟨[(28,(aj eJ lU))],[]⟩))
def N8 (b:Nat->PC):PT:=
 (.ite (aj qB qA)
 (.chk (aq jD qB)
 (.chk (bG (.llen ah8) cO)
 (.next ⟨[(4,pN),(40,(aF qB (pi 1)))],[(4,ah8)]⟩)))
 (.exit 4 ⟨[(41,(aj qB qA))],[]⟩))
def YN:PT:=
 (.brk ⟨[(14,(pi 0)),(13,(.llen mz)),(12,mz),(4,pN),(3,pN),(2,pN)],[(4,pL),(3,pL),(2,pL),(1,(.mk [r0]))]⟩
(atA b)
 (.brk ⟨[(27,(pi 0)),(26,oY),(25,(pc o1 3))],[]⟩
(atC b)
 (.brk ⟨[(40,(pi 0)),(39,qx),(38,(pc o1 4))],[]⟩
(atD b)
 (.ret (.tup [o2,o3,o4])))))
def aoH:PT×List (Shp×PT):=(YN b,[(.lp 0 [2,14,15] [2] [2,14] [2],N6 b),(.lp 2 [3,27,28] [3] [3,27] [3],N7 b),(.lp 4 [4,40,41] [4] [4,40] [4],N8 b)])
def GL:Bf.map told=some (aoH (bt Bf)):=by kernel_rfl
def azw:tree (ab Bf)=YN yc:=bH GL
def aiH:round 0 [2,14,15] [2] [2,14] [2] (yc 0)=N6 yc:=bm GL 0 λ_=>rfl
def aiI:round 2 [3,27,28] [3] [3,27] [3] (yc 1)=N7 yc:=bm GL 1 λ_=>rfl
def aiJ:round 4 [4,40,41] [4] [4,40] [4] (yc 2)=N8 yc:=bm GL 2 λ_=>rfl
def Bd:Option PC:=cF [6,7,8] [] Tryz.f131 131 []
def Qj:Nat->PC:=bn Bd
def aty:PC:=.block 0 [6,15,16] [] (.loop [6,15] [] (b 0))
def HT (b:Nat->PC):PT:=
 (.ite (aj dB cu)
 (.blockS ⟨[],[]⟩ 1 [6,7,8,17,18,19,20,21,22,24,25,26,27] []
 (.call ⟨[(7,dB)],[]⟩ [] 20 174 [r0,dB]
 (.ite (aJ eI (pi 0))
 (.ret eI)
 (.callc ⟨[],[]⟩ [] 26 r2 [r7]
 (.ite (.nt lU)
 (.ret (pi 1))
 (.next ⟨[],[]⟩)))))
 (.next ⟨[(15,(aF dB (pi 1)))],[]⟩))
 (.exit 0 ⟨[(16,(aj dB cu))],[]⟩))
def YJ:PT:=
 (.ite (aW (.llen r0) r1)
 (.ret (pi 6))
 (.brk ⟨[(15,(pi 0)),(14,(.llen r0)),(6,(pi 0))],[]⟩
(aty b)
 (.ret (pi 0))))
def aoF:PT×List (Shp×PT):=(YJ b,[(.lp 0 [6,15,16] [] [6,15] [],HT b)])
def Ux:Bd.map told=some (aoF (bt Bd)):=by kernel_rfl
def azs:tree (ab Bd)=YJ Qj:=bH Ux
def Wf:round 0 [6,15,16] [] [6,15] [] (Qj 0)=HT Qj:=bm Ux 0 λ_=>rfl
def Ks:Option PC:=cF [4] [] Tryz.f174 174 []
def YM:PT:=
 (.chk (aq r0 r1)
 (.call ⟨[],[]⟩ [] 9 193 [(pn r0 r1)]
 (.ite (.nt r9)
 (.ret (pi 2))
 (.chk (.slok r0 (pi 0) r1)
 (.chk (aq r0 r1)
 (.call ⟨[],[]⟩ [] 18 194 [(.slc r0 (pi 0) r1),(pn r0 r1)]
 (.ite cI
 (.ret (pi 5))
 (.ret (pi 0)))))))))
def agS:Ks.map told=some (YM,[]):=by kernel_rfl
def azv:tree (ab Ks)=YM:=aT agS
def Be:Option PC:=cF [2,3,4,5] [] Tryz.f193 193 []
def Qk:Nat->PC:=bn Be
def atz:PC:=.block 0 [2,16,17] [] (.loop [2,16] [] (b 0))
def HU (b:Nat->PC):PT:=
 (.ite (aj cj dB)
 (.chk (aq cu cj)
 (.ite (.pick (.nt (.pick (.pick (bk mC (.con (.v (.int .u8 97)))) (bG mC (.con (.v (.int .u8 122)))) pF) pT (.pick (bk mC (.con (.v (.int .u8 65)))) (bG mC (.con (.v (.int .u8 90)))) pF))) (.pick (peq cj (pi 0)) pT (.pick (aJ mC (.con (.v (.int .u8 95)))) (.pick (aj mC (.con (.v (.int .u8 48)))) pT (aW mC (.con (.v (.int .u8 57))))) pF)) pF)
 (.ret pF)
 (.next ⟨[(16,(aF cj (pi 1)))],[]⟩)))
 (.exit 0 ⟨[(17,(aj cj dB))],[]⟩))
def YL:PT:=
 (.ite (.pick (.cs .eql r0 (.con (.v (.string ⟨#[]⟩)))) pT (aW (.slen r0) (pi 20)))
 (.ret pF)
 (.chk (bG (.slen r0) cO)
 (.brk ⟨[(16,(pi 0)),(15,(.llen (.bytes r0))),(14,(.bytes r0)),(2,pF)],[]⟩
(atz b)
 (.ret pT))))
def aoG:PT×List (Shp×PT):=(YL b,[(.lp 0 [2,16,17] [] [2,16] [],HU b)])
def Uy:Be.map told=some (aoG (bt Be)):=by kernel_rfl
def azu:tree (ab Be)=YL Qk:=bH Uy
def Wg:round 0 [2,16,17] [] [2,16] [] (Qk 0)=HU Qk:=bm Uy 0 λ_=>rfl
def KB:Option PC:=cF [4] [] Tryz.f194 194 []
def Zd:PT:=
 (.call ⟨[],[]⟩ [] 7 210 [r0,r1]
 (.ret (bk r7 (pi 0))))
def ag0:KB.map told=some (Zd,[]):=by kernel_rfl
def azN:tree (ab KB)=Zd:=aT ag0
def Bu:Option PC:=cF [4,5] [] Tryz.f210 210 []
def Qs:Nat->PC:=bn Bu
def at2:PC:=.block 0 [4,8,9] [] (.loop [4,8] [] (b 0))
def Ic (b:Nat->PC):PT:=
 (.ite (aj r8 r7)
 (.chk (aq r0 r8)
 (.ite (.cs .eql r1 (pn r0 r8))
 (.ret r8)
 (.next ⟨[(8,vg)],[]⟩)))
 (.exit 0 ⟨[(9,(aj r8 r7))],[]⟩))
def Zj:PT:=
 (.brk ⟨[(8,(pi 0)),(7,(.llen r0)),(4,(pi 0))],[]⟩
(at2 b)
 (.ret (pi (-1))))
def aoW:PT×List (Shp×PT):=(Zj b,[(.lp 0 [4,8,9] [] [4,8] [],Ic b)])
def UG:Bu.map told=some (aoW (bt Bu)):=by kernel_rfl
def azT:tree (ab Bu)=Zj Qs:=bH UG
def Wy:round 0 [4,8,9] [] [4,8] [] (Qs 0)=Ic Qs:=bm UG 0 λ_=>rfl
def Kl:Option PC:=cF [2] [] Tryz.f132 132 []
def YC:PT:=
 (.ret pT)
def agM:Kl.map told=some (YC,[]):=by kernel_rfl
def azl:tree (ab Kl)=YC:=aT agM
def Km:Option PC:=cF [3] [] Tryz.f133 133 []
def YD:PT:=
 (.chk (aq (pc (.deref r1) 1) r0)
 (.call ⟨[],[]⟩ [] 10 134 [(.deref r1),(pn (pc (.deref r1) 1) r0)]
 (.ret dA)))
def agN:Km.map told=some (YD,[]):=by kernel_rfl
def azm:tree (ab Km)=YD:=aT agN
def Bc:Option PC:=cF [4,6] [] Tryz.f134 134 [2,3]
def Qi:Nat->PC:=bn Bc
def atx:PC:=.block 0 [4,10,11] [] (.loop [4,10] [] (b 0))
def HR (b:Nat->PC):PT:=
 (.ite (aj dA r9)
 (.chk (aq r8 dA)
 (.chk CY
 (.chk (.nt (.an (.an (.nt (aj Vp (pi 1))) pT) (.nt CY)))
 (.ite (.pick (aj Vp (pi 1)) pT (aW Vp (pi 31)))
 (.ret pF)
 (.next ⟨[(10,(aF dA (pi 1)))],[]⟩)))))
 (.exit 0 ⟨[(11,(aj dA r9))],[]⟩))
def YI:PT:=
 (.brk ⟨[(10,(pi 0)),(9,(.llen (pc (.mk [r1]) 4))),(8,(pc (.mk [r1]) 4)),(4,pF)],[(3,(.mk [r1])),(2,(.mk [r0]))]⟩
(atx b)
 (.call ⟨[(33,(.pick (aW (.llen (pc o3 4)) (pi 60)) pT (aW (.llen (pc o3 5)) (pi 200))))],[]⟩ [(33,false)] 39 135 [(pc o3 1),(.llen (pc o2 4))]
 (.call ⟨[(42,(.pick tT pT (.nt qA)))],[]⟩ [(42,false)] 48 135 [(pc o3 2),(.llen (pc o2 0))]
 (.ite (.pick r42 pT (.nt j6))
 (.ret pF)
 (.call ⟨[],[]⟩ [] 53 175 [(pc o3 3),(pi 0),(pi 6)]
 (.call ⟨[(54,VD)],[]⟩ [(54,true)] 57 175 [(pc o3 4),(pi 101),(pi 1231)]
 (.call ⟨[(59,(.pick mE NL pF))],[]⟩ [(59,true)] 62 175 [(pc o3 5),(pi 0),(pi 100000)]
 (.ret (.pick VE pg pF)))))))))
def aoE:PT×List (Shp×PT):=(YI b,[(.lp 0 [4,10,11] [] [4,10] [],HR b)])
def Uw:Bc.map told=some (aoE (bt Bc)):=by kernel_rfl
def azr:tree (ab Bc)=YI Qi:=bH Uw
def We:round 0 [4,10,11] [] [4,10] [] (Qi 0)=HR Qi:=bm Uw 0 λ_=>rfl
def Bi:Option PC:=cF [6,7,8] [] Tryz.f175 175 []
def Ql:Nat->PC:=bn Bi
def atJ:PC:=.block 0 [6,11,12] [] (.loop [6,11] [] (b 0))
def w9 (b:Nat->PC):PT:=
 (.ite (aj bQ dA)
 (.chk (aq r9 bQ)
 (.chk (.nt (.an (.an (aW bQ (pi 0)) (.an (.nt (.pick (aj (pn r9 bQ) r1) pT (aW (pn r9 bQ) r2))) pT)) (.nt (aq r0 (bq bQ (pi 1))))))
 (.ite (.pick (.pick (aj (pn r9 bQ) r1) pT (aW (pn r9 bQ) r2)) pT (.pick (aW bQ (pi 0)) (bG (pn r9 bQ) (pn r0 (bq bQ (pi 1)))) pF))
 (.ret pF)
 (.next ⟨[(11,(aF bQ (pi 1)))],[]⟩))))
 (.exit 0 ⟨[(12,(aj bQ dA))],[]⟩))
def YQ:PT:=
 (.brk ⟨[(11,(pi 0)),(10,(.llen r0)),(9,r0),(6,pF)],[]⟩
(atJ b)
 (.ret pT))
def aoK:PT×List (Shp×PT):=(YQ b,[(.lp 0 [6,11,12] [] [6,11] [],w9 b)])
def Uz:Bi.map told=some (aoK (bt Bi)):=by kernel_rfl
def azz:tree (ab Bi)=YQ Ql:=bH Uz
def Di:round 0 [6,11,12] [] [6,11] [] (Ql 0)=w9 Ql:=bm Uz 0 λ_=>rfl
def Ko:Option PC:=cF [3] [] Tryz.f136 136 []
def YE:PT:=
 (.chk (aq (pc (.deref r1) 3) r0)
 (.call ⟨[],[]⟩ [] 13 135 [(pc (pn (pc (.deref r1) 3) r0) 1),(.llen (pc (.deref r1) 1))]
 (.chk (.nt (.an (.an db pT) (.nt (aq (pc (.deref r1) 3) r0))))
 (.call ⟨[(14,db)],[]⟩ [(14,true)] 24 135 [(pc (pn (pc (.deref r1) 3) r0) 2),(.llen (pc (.deref r1) 2))]
 (.ret (.pick cu nu pF))))))
def agO:Ko.map told=some (YE,[]):=by kernel_rfl
def azn:tree (ab Ko)=YE:=aT agO
def Kp:Option PC:=cF [3] [] Tryz.f137 137 []
def YG:PT:=
 (.chk (aq (pc (.deref r1) 4) r0)
 (.call ⟨[],[]⟩ [] 9 138 [(pn (pc (.deref r1) 4) r0)]
 (.ret r9)))
def agP:Kp.map told=some (YG,[]):=by kernel_rfl
def azo:tree (ab Kp)=YG:=aT agP
def Bg:Option PC:=cF [2] [] Tryz.f138 138 [1,3,4,6,19,8,16392,36]
def Eg:Nat->PC:=bn Bg
def atE:PC:=.block 0 [2,3,12,13] [3] (.loop [2,3,12] [3] (b 0))
def atG:PC:=.block 2 [4,29,30] [4] (.loop [4,29] [4] (b 1))
def HV (b:Nat->PC):PT:=
 (.ite wT
 (.blockS ⟨[],[]⟩ 1 [2,3,6,14,15,17,18,19,20,21,22,23,24] [6,19,3]
 (.chk (aq dA cm)
 (.chk (bG (.llen (.app o3 (.lst [(pc (.setc Nw 0 qy) 0)]))) cO)
 (.call ⟨[(3,pN)],[(3,(.app o3 (.lst [(pc (.setc Nw 0 qy) 0)])))]⟩ [] 23 135 [(pc (.setc Nw 0 qy) 1),(pi 5)]
 (.ite (.nt gG)
 (.ret pF)
 (.next ⟨[],[]⟩)))))
 (.next ⟨[(12,C0)],[]⟩))
 (.exit 0 ⟨[(13,wT)],[]⟩))
def N9 (b:Nat->PC):PT:=
 (.ite (aj nv sr)
 (.chk (aq eJ nv)
 (.chk (bG (.llen aie) cO)
 (.next ⟨[(4,pN),(29,(aF nv (pi 1)))],[(4,aie)]⟩)))
 (.exit 2 ⟨[(30,(aj nv sr))],[]⟩))
def YO:PT:=
 (.brk ⟨[(12,(pi 0)),(11,sm),(10,zK),(4,pN),(3,pN),(2,pF)],[(4,pL),(3,pL),(1,(.mk [r0]))]⟩
(atE b)
 (.brk ⟨[(29,(pi 0)),(28,oY),(27,(pc o1 3))],[]⟩
(atG b)
 (.call ⟨[],[]⟩ [] 40 175 [o3,(pi 0),(pi 21)]
 (.call ⟨[(41,qB)],[]⟩ [(41,true)] 43 175 [o4,(pi 0),(pi 21)]
 (.ret (.pick tU vh pF))))))
def aoI:PT×List (Shp×PT):=(YO b,[(.lp 0 [2,3,12,13] [3] [2,3,12] [3],HV b),(.lp 2 [4,29,30] [4] [4,29] [4],N9 b)])
def MW:Bg.map told=some (aoI (bt Bg)):=by kernel_rfl
def azx:tree (ab Bg)=YO Eg:=bH MW
def Wh:round 0 [2,3,12,13] [3] [2,3,12] [3] (Eg 0)=HV Eg:=bm MW 0 λ_=>rfl
def aiK:round 2 [4,29,30] [4] [4,29] [4] (Eg 1)=N9 Eg:=bm MW 1 λ_=>rfl
def Bj:Option PC:=cF [2,3] [] Tryz.f139 139 [1,4,6]
def Ei:Nat->PC:=bn Bj
def atK:PC:=.block 2 [2,50,51] [] (.loop [2,50] [] (b 0))
def atL:PC:=.block 0 [2,14,15] [] (.loop [2,14] [] (b 1))
def Dj (b:Nat->PC):PT:=
 (.ite (aj nw pf)
 (.chk (aq j6 nw)
 (.ite (.pick (peq (pc (.setc z3 0 (pn j6 nw)) 0) (pc o4 0)) (peq (pc (.setc z3 0 (pn j6 nw)) 1) (pc o4 1)) pF)
 (.ret (pi 5))
 (.next ⟨[(50,(aF nw (pi 1)))],[]⟩)))
 (.exit 2 ⟨[(51,(aj nw pf))],[]⟩))
def HY:PT:=
 (.ite sl
 (.blockS ⟨[(15,sl)],[]⟩ 1 [2,3,4,16,17,18,19,20,21,22,23,24,25,26,34,35,39,40,44,45,46,47,48,49,50,51] [4]
 (.chk (aq cm cu)
 (.call ⟨[(3,cu)],[(4,C6)]⟩ [] 24 135 [(pc C6 0),mA]
 (.call ⟨[(26,(.nt nu))],[]⟩ [(26,false)] 32 135 [(pc o4 1),mA]
 (.ite (.pick (.pick (.pick lU pT (.nt tS)) pT (aj (pc o4 2) (pi 1))) pT (aW (pc o4 2) (pi 20000)))
 (.ret (pi 1))
 (.chk (.slok (pc o1 5) (pi 0) r3)
 (.brk ⟨[(50,(pi 0)),(49,(.llen (.slc (pc o1 5) (pi 0) r3))),(48,(.slc (pc o1 5) (pi 0) r3))],[]⟩
(atK b)
 (.next ⟨[],[]⟩)))))))
 (.next ⟨[(14,(aF cu (pi 1)))],[]⟩))
 (.exit 0 ⟨[(15,sl)],[]⟩))
def YR:PT:=
 (.ite (aW (.llen wW) (pi 100))
 (.ret (pi 6))
 (.brk ⟨[(14,(pi 0)),(13,(.llen wW)),(12,wW),(2,(pi 0))],[(1,(.mk [r0]))]⟩
(atL b)
 (.ret (pi 0))))
def aoL:PT×List (Shp×PT):=(YR b,[(.lp 2 [2,50,51] [] [2,50] [],Dj b),(.lp 0 [2,14,15] [] [2,14] [],HY b)])
def MY:Bj.map told=some (aoL (bt Bj)):=by kernel_rfl
def azA:tree (ab Bj)=YR Ei:=bH MY
def Oa:round 2 [2,50,51] [] [2,50] [] (Ei 0)=Dj Ei:=bm MY 0 λ_=>rfl
def Wk:round 0 [2,14,15] [] [2,14] [] (Ei 1)=HY Ei:=bm MY 1 λ_=>rfl
def Bh:Option PC:=cF [2] [] Tryz.f140 140 [1,4,6]
def Eh:Nat->PC:=bn Bh
def atH:PC:=.block 0 [2,14,15] [] (.loop [2,14] [] (b 0))
def atI:PC:=.block 2 [2,69,70] [] (.loop [2,69] [] (b 1))
def HW (b:Nat->PC):PT:=
 (.ite sl
 (.blockS ⟨[],[]⟩ 1 [2,4,16,17,18,19,20,21,22,23,24,25,33,34,40,41,47,48,54,55,60] [4]
 (.chk (aq cm cu)
 (.call ⟨[],[(4,(.setc z5 0 (pn cm cu)))]⟩ [] 23 135 [(pc (.setc z5 0 (pn cm cu)) 0),wX]
 (.call ⟨[(25,(.nt gG))],[]⟩ [(25,false)] 31 135 [(pc o4 1),wX]
 (.call ⟨[(41,(.pick (.pick kH pT (.nt sv)) pT (peq (pc o4 0) (pc o4 1))))],[]⟩ [(41,false)] 45 135 [(bq (pc o4 2) (pi 1)),(pi 1073741824)]
 (.call ⟨[(48,(.pick tU pT (.nt sw)))],[]⟩ [(48,false)] 52 135 [(bq (pc o4 3) (pi 1)),(pi 1073741824)]
 (.call ⟨[(55,(.pick j6 pT (.nt Da)))],[]⟩ [(55,false)] 58 135 [(pc o4 4),(pi 100001)]
 (.ite (.pick Db pT (.nt He))
 (.ret (pi 1))
 (.next ⟨[],[]⟩))))))))
 (.next ⟨[(14,(aF cu (pi 1)))],[]⟩))
 (.exit 0 ⟨[(15,sl)],[]⟩))
def HX (b:Nat->PC):PT:=
 (.ite (aj zM NN)
 (.blockS ⟨[],[]⟩ 3 [2,6,71,72,73,74,75,76,77,78,79,80,84,85,91,92,96] [6]
 (.chk (aq wZ zM)
 (.call ⟨[],[(6,(.setc z3 0 (pn wZ zM)))]⟩ [] 78 135 [(pc (.setc z3 0 (pn wZ zM)) 0),qx]
 (.ite (.pick (.pick (.pick (.nt r78) pT (aj (pc o6 1) (pi 0))) pT (aW (pc o6 1) (pc o6 2))) pT (aW (pc o6 2) (pi 100000)))
 (.ret (pi 1))
 (.next ⟨[],[]⟩))))
 (.next ⟨[(69,(aF zM (pi 1)))],[]⟩))
 (.exit 2 ⟨[(70,(aj zM NN))],[]⟩))
def YP:PT:=
 (.ite (aW (.llen (pc (.mk [r0]) 6)) (pi 100))
 (.ret (pi 6))
 (.brk ⟨[(14,(pi 0)),(13,(.llen (pc (.mk [r0]) 6))),(12,(pc (.mk [r0]) 6)),(2,(pi 0))],[(1,(.mk [r0]))]⟩
(atH b)
 (.ite (aW zF (pi 20))
 (.ret (pi 6))
 (.brk ⟨[(69,(pi 0)),(68,zF),(67,(pc o1 7))],[]⟩
(atI b)
 (.ret (pi 0))))))
def aoJ:PT×List (Shp×PT):=(YP b,[(.lp 0 [2,14,15] [] [2,14] [],HW b),(.lp 2 [2,69,70] [] [2,69] [],HX b)])
def MX:Bh.map told=some (aoJ (bt Bh)):=by kernel_rfl
def azy:tree (ab Bh)=YP Eh:=bH MX
def Wi:round 0 [2,14,15] [] [2,14] [] (Eh 0)=HW Eh:=bm MX 0 λ_=>rfl
def Wj:round 2 [2,69,70] [] [2,69] [] (Eh 1)=HX Eh:=bm MX 1 λ_=>rfl
def KD:Option PC:=cF [4] [] Tryz.f104 104 [2]
def Zn:PT:=
 (.ret (.pick (bk r1 (pi 0)) (aj r1 (.llen mz)) pF))
def ag5:KD.map told=some (Zn,[]):=by kernel_rfl
def azW:tree (ab KD)=Zn:=aT ag5
def KE:Option PC:=cF [2] [] Tryz.f105 105 []
def Zo:PT:=
 (.ret (.pick (bk r0 (pi 0)) (bG r0 (pi 100000)) pF))
def ag6:KE.map told=some (Zo,[]):=by kernel_rfl
def azX:tree (ab KE)=Zo:=aT ag6
def KC:Option PC:=cF [2] [] Tryz.f106 106 [1]
def Zm:PT:=
 (.ret (.pick (peq j5 (pi 0)) pT (peq j5 (pi 1))))
def ag2:KC.map told=some (Zm,[]):=by kernel_rfl
def azV:tree (ab KC)=Zm:=aT ag2
def ED:Option PC:=cF [6,7,13,16,24,33,8,9] [] Tryz.f107 107 [3,4]
def pq:PT:=
 (.blockS ⟨[(12,(pc (.mk [r1]) 5))],[(4,(.mk [r1])),(3,(.mk [r0]))]⟩ 0 [6,7,13,14,16,17,24,25,33,34] []
 (.iteS ⟨[],[]⟩ (peq cm (pi 0)) [6,7,16,17,24,25,33,34] []
 (.ret (.tup [r2,(pi 0)]))
 (.iteS ⟨[],[]⟩ (peq cm (pi 1)) [6,7,24,25,33,34] []
 (.call ⟨[],[]⟩ [] 21 146 [r2,(.mk [(pc o4 5),(pc o4 6),(pc o4 7)])]
 (.ret (.tup [(.tget iO 0),(.tget iO 1)])))
 (.iteS ⟨[],[]⟩ (peq cm (pi 2)) [6,7,33,34] []
 (.call ⟨[],[]⟩ [] 30 146 [(pc o4 8),(.mk [(pc o4 5),(pc o4 6),(pc o4 7)])]
 (.ret (.tup [(.tget su 0),(.tget su 1)])))
 (.iteS ⟨[],[]⟩ (peq cm (pi 4)) [6,7] []
 (.call ⟨[],[]⟩ [] 41 97 [(aA 8 o3),(pc o4 9),(pc o4 10)]
 (.ret (.tup [(aF (pc o4 8) (.tget tU 0)),(.tget tU 1)])))
 (.next ⟨[],[]⟩)
 (.next ⟨[],[]⟩))
 (.next ⟨[],[]⟩))
 (.next ⟨[],[]⟩))
 (.next ⟨[],[]⟩))
 (.ret (.tup [(pc o4 6),(pi 0)])))
def ag4:ED.map told=some (pq,[]):=by kernel_rfl
def z7:tree (ab ED)=pq:=aT ag4
def EC:Option PC:=cF [4,5] [] Tryz.f146 146 [3]
def DD:PT:=
 (.ite (.pick (aj (pc (.mk [r1]) 1) (pi 0)) pT (aW (pc (.mk [r1]) 1) (pi 20000)))
 (.ret (.tup [(pi 0),(pi 3)]))
 (.iteS ⟨[],[(3,(.mk [r1]))]⟩ (peq (pc (.mk [r1]) 2) (pi 1)) [4,5] []
 (.call ⟨[],[]⟩ [] 20 183 [r0,(pc o3 1)]
 (.ret (.tup [(.tget eI 0),(.tget eI 1)])))
 (.next ⟨[],[]⟩)
 (.ret (.tup [(aF r0 (pc o3 1)),(pi 0)]))))
def ag3:EC.map told=some (DD,[]):=by kernel_rfl
def OZ:tree (ab EC)=DD:=aT ag3
def Ew:Option PC:=cF [4,5,6,7,8,9] [] Tryz.f183 183 []
def OS:PT:=
 (.call ⟨[],[]⟩ [] 11 184 [r0]
 (.ite (.pick (.pick (.nt bQ) pT (aj r1 (pi (-5000)))) pT (aW r1 (pi 5000)))
 (.ret (.tup [(pi 0),(pi 3)]))
 (.call ⟨[],[]⟩ [] 23 203 [r0]
 (.chk (aJ (pi 12) (pi 0))
 (.call ⟨[(41,(.tget gG 2)),(40,(aF (.ai .rem .i64 Nz (pi 12)) (pi 1))),(39,(.ai .quo .i64 Nz (pi 12)))],[]⟩ [] 44 205 [(.ai .quo .i64 Nz (pi 12)),(aF (.ai .rem .i64 Nz (pi 12)) (pi 1))]
 (.call ⟨[],[]⟩ [] 46 204 [qA,qB,(.mn tU wY)]
 (.ret (.tup [(.tget C8 0),(.tget C8 1)]))))))))
def af3:Ew.map told=some (OS,[]):=by kernel_rfl
def ajB:tree (ab Ew)=OS:=aT af3
def JO:Option PC:=cF [2] [] Tryz.f184 184 []
def XE:PT:=
 (.ret (.pick (bG (pi 0) r0) (bG r0 (pi 100000)) pF))
def aga:JO.map told=some (XE,[]):=by kernel_rfl
def ayi:tree (ab JO)=XE:=aT aga
def JK:Option PC:=cF [2,3,4,5,6,7,8,9] [] Tryz.f203 203 []
def XA:PT:=
 (.chk (aJ (pi 146097) (pi 0))
 (.chk (aJ (pi 1460) (pi 0))
 (.chk (aJ (pi 36524) (pi 0))
 (.chk (aJ (pi 146096) (pi 0))
 (.chk (aJ (pi 365) (pi 0))
 (.chk (aJ (pi 4) (pi 0))
 (.chk CY
 (.chk (aJ (pi 153) (pi 0))
 (.chk (aJ (pi 5) (pi 0))
 (.ret (.tup [(.pick (aj ahP (pi 3)) (aF ahU (pi 1)) ahU),ahP,(aF (bq (bq (.ai .rem .i64 (aF r0 (pi 730425)) (pi 146097)) (bq (aF (.ai .mul .i64 (pi 365) zI) (.ai .quo .i64 zI (pi 4))) (.ai .quo .i64 zI (pi 100)))) (.ai .quo .i64 (aF (.ai .mul .i64 (pi 153) Nj) (pi 2)) (pi 5))) (pi 1))])))))))))))
def af5:JK.map told=some (XA,[]):=by kernel_rfl
def ayd:tree (ab JK)=XA:=aT af5
def JM:Option PC:=cF [4] [] Tryz.f205 205 []
def OU:PT:=
 (.ite (peq r1 (pi 12))
 (.ret (pi 31))
 (.call ⟨[],[]⟩ [] 10 222 [r0,(aF r1 (pi 1)),(pi 1)]
 (.call ⟨[],[]⟩ [] 13 222 [r0,r1,(pi 1)]
 (.ret (bq dA db)))))
def af7:JM.map told=some (OU,[]):=by kernel_rfl
def ayg:tree (ab JM)=OU:=aT af7
def Ey:Option PC:=cF [6,0,1] [] Tryz.f222 222 []
def OV:PT:=
 (.chk (aJ (pi 4) (pi 0))
 (.chk CY
 (.chk (aJ (pi 400) (pi 0))
 (.chk (aJ (pi 5) (pi 0))
 (.ret (bq (bq (aF (aF (aF (bq (aF (.ai .mul .i64 (pi 365) NH) (.ai .quo .i64 NH (pi 4))) (.ai .quo .i64 NH (pi 100))) (.ai .quo .i64 NH (pi 400))) (.ai .quo .i64 (aF (.ai .mul .i64 (pi 153) (bq (.pick (aj r1 (pi 3)) (aF r1 (pi 12)) r1) (pi 3))) (pi 2)) (pi 5))) r2) (pi 1)) (pi 730425)))))))
def af8:Ey.map told=some (OV,[]):=by kernel_rfl
def ajC:tree (ab Ey)=OV:=aT af8
def Ex:Option PC:=cF [6,7,8] [] Tryz.f204 204 []
def DB:PT:=
 (.call ⟨[(28,r2),(27,(.pick (.pick (.pick (.pick (aj r0 (pi 2000)) pT (aW r0 (pi 2300))) pT (aj r1 (pi 1))) pT (aW r1 (pi 12))) pT (aj r2 (pi 1))))],[]⟩ [(27,false)] 31 205 [r0,r1]
 (.ite (.pick eJ pT (aW sr sv))
 (.ret (.tup [(pi 0),(pi 3)]))
 (.call ⟨[],[]⟩ [] 37 222 [r0,r1,r2]
 (.call ⟨[(8,mD)],[]⟩ [] 39 184 [mD]
 (.ite (.nt qA)
 (.ret (.tup [(pi 0),(pi 3)]))
 (.ret (.tup [r8,(pi 0)])))))))
def af4:Ex.map told=some (DB,[]):=by kernel_rfl
def OT:tree (ab Ex)=DB:=aT af4
def yk:Option PC:=cF [6,7] [] Tryz.f97 97 [3,9]
def Qh:Nat->PC:=bn yk
def atw:PC:=.block 0 [6,7,13,14] [] (.loop [6,7,13] [] (b 0))
def w7 (b:Nat->PC):PT:=
 (.ite (aj db cm)
 (.chk (aq bQ db)
 (.ite (.pick (peq (pc (.setc z3 0 (pn bQ db)) 0) r1) (peq (pc (.setc z3 0 (pn bQ db)) 1) r2) pF)
 (.ret (.tup [(pc (.setc z3 0 (pn bQ db)) 2),(pi 0)]))
 (.next ⟨[(13,(aF db (pi 1)))],[]⟩)))
 (.exit 0 ⟨[(14,(aj db cm))],[]⟩))
def OY:PT:=
 (.brk ⟨[(13,(pi 0)),(12,(.llen wW)),(11,wW),(7,(pi 0)),(6,(pi 0))],[]⟩
(atw b)
 (.ret (.tup [(pi 0),(pi 4)])))
def aoD:PT×List (Shp×PT):=(OY b,[(.lp 0 [6,7,13,14] [] [6,7,13] [],w7 b)])
def Uv:yk.map told=some (aoD (bt yk)):=by kernel_rfl
def ajE:tree (ab yk)=OY Qh:=bH Uv
def Dh:round 0 [6,7,13,14] [] [6,7,13] [] (Qh 0)=w7 Qh:=bm Uv 0 λ_=>rfl
def Bw:Option PC:=cF [6,7,8,2,9,10] [] Tryz.f108 108 [3]
def Qu:Nat->PC:=bn Bw
def at3:PC:=.block 0 [] [] (.loop [2,6,7] [] (b 0))
def Wz (b:Nat->PC):PT:=
 (.blockS ⟨[],[]⟩ 1 [2,6,7,9,10,14,15,16,17,18,19,20,21,22,23,24,25,26,27,28,29,30,31,32,34] []
 (.call ⟨[],[]⟩ [] 17 148 [(aA 8 o3),r8,r2]
 (.chk (aq (pc o3 1) r1)
 (.call ⟨[(2,lf)],[]⟩ [] 25 149 [(pn (pc o3 1) r1),lf]
 (.ite (aJ (.tget kH 1) (pi 0))
 (.ret (.tup [(pi 0),(pi 3)]))
 (.ite (peq (.tget kH 0) r2)
 (.ret (.tup [r2,(pi 0)]))
 (.next ⟨[(2,(.tget kH 0))],[]⟩))))))
 (.next ⟨[],[]⟩))
def Zp:PT:=
 (.call ⟨[(7,(pi 0)),(6,(pi 0))],[(3,(.mk [r0]))]⟩ [] 13 147 [j4,r1]
 (.brk ⟨[(8,db)],[]⟩
(at3 b)
 (.next ⟨[],[]⟩)))
def aoY:PT×List (Shp×PT):=(Zp b,[(.lp 0 [] [] [2,6,7] [],Wz b)])
def UI:Bw.map told=some (aoY (bt Bw)):=by kernel_rfl
def azY:tree (ab Bw)=Zp Qu:=bH UI
def awu:round 0 [] [] [2,6,7] [] (Qu 0)=Wz Qu:=bm UI 0 λ_=>rfl
def Bx:Option PC:=cF [6,7,2] [] Tryz.f148 148 [3,9]
def Em:Nat->PC:=bn Bx
def at4:PC:=.block 2 [2,7,14,15] [] (.loop [2,7,14] [] (b 0))
def at5:PC:=.block 0 [2,7,10] [] (.loop [2,7] [] (b 1))
def Dk (b:Nat->PC):PT:=
 (.ite sl
 (.chk (aq cm cu)
 (.next ⟨[(2,(.pick ahT (aF (pc C6 2) (pi 1)) r2)),(7,(.pick ahT pT r7)),(14,(aF cu (pi 1)))],[]⟩))
 (.exit 2 ⟨[(15,sl)],[]⟩))
def Og:PT:=
 (.ite r7
 (.blockS ⟨[(10,r7)],[]⟩ 1 [2,7,11,12,13,14,15] []
 (.brk ⟨[(14,(pi 0)),(13,(.llen (pc o3 7))),(12,(pc o3 7)),(7,pF)],[]⟩
(at4 b)
 (.next ⟨[],[]⟩))
 (.next ⟨[],[]⟩))
 (.exit 0 ⟨[(10,r7)],[]⟩))
def Zq:PT:=
 (.brk ⟨[(7,pT)],[(3,(.mk [r0]))]⟩
(at5 b)
 (.ret r2))
def aoZ:PT×List (Shp×PT):=(Zq b,[(.lp 2 [2,7,14,15] [] [2,7,14] [],Dk b),(.lp 0 [2,7,10] [] [2,7] [],Og b)])
def M2:Bx.map told=some (aoZ (bt Bx)):=by kernel_rfl
def azZ:tree (ab Bx)=Zq Em:=bH M2
def Of:round 2 [2,7,14,15] [] [2,7,14] [] (Em 0)=Dk Em:=bm M2 0 λ_=>rfl
def aiO:round 0 [2,7,10] [] [2,7] [] (Em 1)=Og Em:=bm M2 1 λ_=>rfl
def AK:Option PC:=cF [6] [] Tryz.f149 149 [2,4,5]
def PS:Nat->PC:=bn AK
def anr:PC:=.each cI [16] [4,5] (some (.tup [(pc o4 0),(pc o5 0)])) (b 0)
def VP (b:Nat->PC):PT:=
 (.exit 1000000007 ⟨[],[(4,(.setc o4 0 cj)),(5,(.setc o5 0 (pi 0)))]⟩)
def Xz:PT:=
 (.call ⟨[],[(5,GY),(4,GY),(2,(.mk [r0]))]⟩ [] 8 184 [r1]
 (.ite (.nt r8)
 (.ret (.tup [(pc (.setc o4 0 (pi 0)) 0),(pc (.setc o5 0 (pi 3)) 0)]))
 (.call ⟨[],[]⟩ [] 15 185 [(aA 6 o2),r1,(.mn (aF r1 (pi 400)) (pi 100000))]
 (.blockS ⟨[],[]⟩ 0 [] [4,5]
 (.callc ⟨[],[]⟩ [] 18 dB []
 (.brk ⟨[],[]⟩
(anr b)
 (.next ⟨[],[]⟩)))
 (.ret (.tup [(pc (.setc o4 0 (pi 0)) 0),(pc (.setc o5 0 (pi 3)) 0)]))))))
def an8:PT×List (Shp×PT):=(Xz b,[(.ea [4,5],VP b)])
def T7:AK.map told=some (an8 (bt AK)):=by kernel_rfl
def ayc:tree (ab AK)=Xz PS:=bH T7
def awp:sD [4,5] (PS 0)=VP PS:=Xh T7 0 λ_=>rfl
def JL:Option PC:=cF [6] [] Tryz.f185 185 [3,4,5]
def XB:PT:=
 (.ret (.clo 206 [(.ref (pc (.mk [r1]) 0)),(.ref (pc (.mk [r2]) 0)),(.ref (aA 6 (.mk [r0])))]))
def af6:JL.map told=some (XB,[]):=by kernel_rfl
def ayf:tree (ab JL)=XB:=aT af6
def uA:Option PC:=EF {ctx with fr:=[5],nh:=[]} Tryz.f206 [(.ref I),(.ref I),(.ref Y0)] [I] 1000 [1000]
def PU:Nat->PC:=bn uA
def asV:PC:=.block 0 [5,7,8,9] [1000] (.loop [5] [1000] (b 0))
def NU (b:Nat->PC):PT:=
 (.ite (bG r5 (.deref r2))
 (.blockS ⟨[],[]⟩ 1 [12,13,14,15,20] [1000]
 (.call ⟨[],[]⟩ [] 14 207 [(.deref r3),r5]
 (.call ⟨[(15,cu)],[(1000,ahQ)]⟩ [(15,true)] 18 1000000009 [ahQ]
 (.ite (.pick dB (.nt cI) pF)
 (.ret (.o 1000))
 (.next ⟨[],[]⟩))))
 (.next ⟨[(5,zG)],[]⟩))
 (.exit 0 ⟨[(7,r5),(8,(.deref r2)),(9,(bG r5 (.deref r2)))],[]⟩))
def XC:PT:=
 (.brk ⟨[(5,(.deref r1))],[]⟩
(asV b)
 (.ret (.o 1000)))
def an9:PT×List (Shp×PT):=(XC b,[(.lp 0 [5,7,8,9] [1000] [5] [1000],NU b)])
def T8:uA.map told=some (an9 (bt uA)):=by kernel_rfl
def aye:tree (ab uA)=XC PU:=bH T8
def aix:round 0 [5,7,8,9] [1000] [5] [1000] (PU 0)=NU PU:=bm T8 0 λ_=>rfl
def alD:∀yv,EF {ctx with fr:=[5],nh:=[],yv:=yv} Tryz.f206 [(.ref I),(.ref I),(.ref Y0)] [I] 1000 [1000]=some (ab uA):=λyv=>(show _=uA by kernel_rfl).trans (av uA T8)
def JN:Option PC:=cF [4,5,6,7] [] Tryz.f207 207 [2]
def XD:PT:=
 (.call ⟨[],[(2,(.mk [r0]))]⟩ [] 10 203 [r1]
 (.chk (aJ (pi 7) (pi 0))
 (.call ⟨[(7,(.tget dA 2)),(6,(.tget dA 1))],[]⟩ [] 19 176 [(pc o2 3),(.ai .rem .i64 (aF r1 (pi 5)) (pi 7))]
 (.call ⟨[(21,(.nt jk))],[]⟩ [(21,true)] 28 176 [(pc o2 4),(aF (.ai .mul .i64 (pi 100) r6) r7)]
 (.call ⟨[(31,(.pick iO (.nt sr) pF))],[]⟩ [(31,true)] 35 176 [(pc o2 5),r1]
 (.ret (.pick sv (.nt oZ) pF)))))))
def af9:JN.map told=some (XD,[]):=by kernel_rfl
def ayh:tree (ab JN)=XD:=aT af9
def JF:Option PC:=cF [] [] Tryz.f39 39 [2,4,5,6,43]
def Xt:PT:=
 (.chk (aq (pc (.mk [r0]) 25) r1)
 (.call ⟨[],[(6,(.setc C2 0 (.mk [r1,(pc G6 0),(pc G6 2),(pi 0),(pi 0),(pi 0),(.pick (aJ (pc G6 0) (pi 1)) (peq (.ai .and .i64 (pc G6 8) (pi 1)) (pi 0)) pF)]))),(5,G6),(4,C2),(2,(.mk [r0]))]⟩ [] 33 79 [Vq,r1,(pc (.mk [r0]) 9)]
 (.iteS ⟨[],[]⟩ (.nt tT) [] [6]
 (.call ⟨[(36,(pc o2 29))],[]⟩ [] 39 81 [(aA 31 o2),(pi 1),r1]
 (.call ⟨[],[]⟩ [] 42 81 [(aA 31 o2),(pi 2),r1]
 (.call ⟨[],[]⟩ [] 44 80 [(.lst [lg,qA,r42])]
 (.next ⟨[],[(6,(.setc o6 3 wY))]⟩))))
 (.next ⟨[],[]⟩)
 (.call ⟨[],[]⟩ [] 49 82 [(aA 31 o2),r1]
 (.ret (aA 7 (.setc o4 0 (aA 7 (.pick (.pick (peq (pc o5 0) (pi 1)) pT (peq (pc o5 0) (pi 4))) (.setc VA 5 (.mn (pc VA 5) (pc o5 5))) VA)))))))))
def afY:JF.map told=some (Xt,[]):=by kernel_rfl
def ax5:tree (ab JF)=Xt:=aT afY
def KQ:Option PC:=cF [6] [] Tryz.f79 79 [3]
def ZD:PT:=
 (.call ⟨[(16,(.pick (bk r1 (pi 0)) (aj r1 (.llen sf)) pF))],[]⟩ [(16,true)] 19 124 [(aA 19 (.mk [r0])),r2]
 (.ret (.pick cj (.look jk r1 pF) pF)))
def ahi:KQ.map told=some (ZD,[]):=by kernel_rfl
def aAd:tree (ab KQ)=ZD:=aT ahi
def BA:Option PC:=cF [4] [] Tryz.f124 124 [2,5,7]
def Qx:Nat->PC:=bn BA
def auc:PC:=.block 0 [12,13] [5] (.loop [12] [5] (b 0))
def Ih (b:Nat->PC):PT:=
 (.ite wT
 (.chk (aq dA cm)
 (.ite (.pick (peq (pc (.setc z9 0 qy) 0) (pi 7)) (bG (pc (.setc z9 0 qy) 6) r1) pF)
 (.chk (aj (.mlen o5) cO)
 (.next ⟨[(12,C0)],[(5,(.put o5 (pc (.setc z9 0 qy) 4) pT))]⟩))
 (.next ⟨[(12,C0)],[]⟩)))
 (.exit 0 ⟨[(13,wT)],[]⟩))
def ZE:PT:=
 (.brk ⟨[(12,(pi 0)),(11,(.llen (pc (.mk [r0]) 17))),(10,(pc (.mk [r0]) 17)),(5,pN)],[(5,(.con (.map [])))]⟩
(auc b)
 (.ret o5))
def ao3:PT×List (Shp×PT):=(ZE b,[(.lp 0 [12,13] [5] [12] [5],Ih b)])
def UL:BA.map told=some (ao3 (bt BA)):=by kernel_rfl
def aAe:tree (ab BA)=ZE Qx:=bH UL
def WD:round 0 [12,13] [5] [12] [5] (Qx 0)=Ih Qx:=bm UL 0 λ_=>rfl
def JG:Option PC:=cF [6] [] Tryz.f81 81 [3,7]
def Xu:PT:=
 (.call ⟨[],[]⟩ [] 23 103 [j4,(pc (.mk [r0]) 8),r1,(aA 24 (.setc ah2 0 (.mk [Vq,r2,r2,(pi (-1)),(pc (.mk [r0]) 30),(pc (.mk [r0]) 9)])))]
 (.call ⟨[],[]⟩ [] 24 78 [gG]
 (.ret nu)))
def afZ:JG.map told=some (Xu,[]):=by kernel_rfl
def ax6:tree (ab JG)=Xu:=aT afZ
def AH:Option PC:=cF [2,3,5,12,15] [] Tryz.f80 80 []
def PQ:Nat->PC:=bn AH
def asT:PC:=.block 0 [2,3,8,9] [] (.loop [2,3,8] [] (b 0))
def Hk (b:Nat->PC):PT:=
 (.ite (aj r8 r7)
 (.chk (aq r6 r8)
 (.ite (peq (pn r6 r8) (pi 0))
 (.ret (pi 0))
 (.next ⟨[(3,(.pick (peq (pn r6 r8) (pi 2)) (pi 2) r3)),(8,vg)],[]⟩)))
 (.exit 0 ⟨[(9,(aj r8 r7))],[]⟩))
def Xr:PT:=
 (.brk ⟨[(8,(pi 0)),(7,(.llen r0)),(6,r0),(3,(pi 1)),(2,(pi 0))],[]⟩
(asT b)
 (.ret r3))
def an5:PT×List (Shp×PT):=(Xr b,[(.lp 0 [2,3,8,9] [] [2,3,8] [],Hk b)])
def T5:AH.map told=some (an5 (bt AH)):=by kernel_rfl
def ax3:tree (ab AH)=Xr PQ:=bH T5
def VL:round 0 [2,3,8,9] [] [2,3,8] [] (PQ 0)=Hk PQ:=bm T5 0 λ_=>rfl
def AI:Option PC:=cF [4,5,6,7,10,50,54] [] Tryz.f82 82 [2,9]
def PR:Nat->PC:=bn AI
def asU:PC:=.block 0 [7,23,24] [] (.loop [7,23] [] (b 0))
def Hl (b:Nat->PC):PT:=
 (.ite (aj gG qz)
 (.chk (aq iO gG)
 (.next ⟨[(7,(.pick r7 pT (aW (pc (.setc z2 0 (pn iO gG)) 0) r1))),(23,(aF gG (pi 1)))],[]⟩))
 (.exit 0 ⟨[(24,(aj gG qz))],[]⟩))
def Xv:PT:=
 (.call ⟨[(5,(pi 0))],[(2,(.mk [r0]))]⟩ [] 14 125 [Vq,r1]
 (.brk ⟨[(23,(pi 0)),(22,(.llen (pc o2 26))),(21,(pc o2 26)),(7,pF),(6,(.llen (pc o2 26))),(5,cu)],[]⟩
(asU b)
 (.ite (.nt r7)
 (.ret (.tup [(pi 0),r5]))
 (.chk (aq (pc o2 26) (bq r6 (pi 1)))
 (.call ⟨[(10,(pc (pn (pc o2 26) (bq r6 (pi 1))) 1))],[]⟩ [] 48 81 [(aA 31 o2),(pi 4),r1]
 (.ite (peq j6 (pi 1))
 (.ret (.tup [j6,dA]))
 (.ite (peq j6 (pi 2))
 (.ret (.tup [j6,(.mn r5 dA)]))
 (.ret (.tup [j6,r5])))))))))
def an6:PT×List (Shp×PT):=(Xv b,[(.lp 0 [7,23,24] [] [7,23] [],Hl b)])
def T6:AI.map told=some (an6 (bt AI)):=by kernel_rfl
def ax7:tree (ab AI)=Xv PR:=bH T6
def VM:round 0 [7,23,24] [] [7,23] [] (PR 0)=Hl PR:=bm T6 0 λ_=>rfl
def AP:Option PC:=cF [4,5] [] Tryz.f125 125 [2,7]
def PZ:Nat->PC:=bn AP
def as2:PC:=.block 0 [5,14,15] [] (.loop [5,14] [] (b 0))
def NW (b:Nat->PC):PT:=
 (.ite sl
 (.chk (aq cm cu)
 (.next ⟨[(5,(.pick (bG (pc (.setc z2 0 (pn cm cu)) 0) r1) (pc (.setc z2 0 (pn cm cu)) 1) r5)),(14,(aF cu (pi 1)))],[]⟩))
 (.exit 0 ⟨[(15,sl)],[]⟩))
def X0:PT:=
 (.brk ⟨[(14,(pi 0)),(13,(.llen (pc (.mk [r0]) 16))),(12,(pc (.mk [r0]) 16)),(5,(pc (.mk [r0]) 3))],[]⟩
(as2 b)
 (.ret r5))
def aof:PT×List (Shp×PT):=(X0 b,[(.lp 0 [5,14,15] [] [5,14] [],NW b)])
def Ud:AP.map told=some (aof (bt AP)):=by kernel_rfl
def ayF:tree (ab AP)=X0 PZ:=bH Ud
def aiz:round 0 [5,14,15] [] [5,14] [] (PZ 0)=NW PZ:=bm Ud 0 λ_=>rfl
def QL:Option PC:=cF [2] [] Tryz.f70 70 [1]
def ayZ:PT:=
 (.ret (.pick (aJ (pc (.mk [r0]) 3) (pi 1)) pT (.pick (aJ mz (pi 1)) (.nt (pc (.mk [r0]) 6)) pF)))
def auI:QL.map told=some (ayZ,[]):=by kernel_rfl
def QJ:Option PC:=cF [4] [] Tryz.f35 35 [2,3]
def ayT:PT:=
 (.ret (bq wW (pc (.mk [r1]) 5)))
def auG:QJ.map told=some (ayT,[]):=by kernel_rfl
def AW:Option PC:=cF [] [] Tryz.f37 37 [3,6,7,9]
def P6:Nat->PC:=bn AW
def as9:PC:=.block 0 [7,12,13] [7] (.loop [7,12] [7] (b 0))
def N2 (b:Nat->PC):PT:=
 (.ite wT
 (.chk (aq dA cm)
 (.ite (bk (pc (.setc C2 0 qy) 5) r2)
 (.chk (aq (pc o3 3) (pc (.setc C2 0 qy) 2))
 (.chk (bG (.llen ah0) cO)
 (.next ⟨[(7,pN),(12,C0)],[(7,ah0)]⟩)))
 (.next ⟨[(12,C0)],[]⟩)))
 (.exit 0 ⟨[(13,wT)],[]⟩))
def Ye:PT:=
 (.brk ⟨[(12,(pi 0)),(11,(.llen r1)),(10,r1),(7,pN)],[(7,pL),(3,(.mk [r0]))]⟩
(as9 b)
 (.mcall ⟨[],[]⟩ 1000000013 76 [pN,o7]
 (.call ⟨[],[]⟩ [] 34 77 [GV]
 (.ret Hd))))
def aom:PT×List (Shp×PT):=(Ye b,[(.lp 0 [7,12,13] [7] [7,12] [7],N2 b)])
def Uk:AW.map told=some (aom (bt AW)):=by kernel_rfl
def ayX:tree (ab AW)=Ye P6:=bH Uk
def aiF:round 0 [7,12,13] [7] [7,12] [7] (P6 0)=N2 P6:=bm Uk 0 λ_=>rfl
def Kc:Option PC:=cF [10,11,12,13,14,33,36,15] [] Tryz.f8 8 [5,7,9]
def Yb:PT:=
 (.call ⟨[],[(9,(.mk [r4])),(7,(.mk [r2])),(5,(.mk [r0]))]⟩ [] 22 9 [j4,r1,G0,r3,(.mk [(pc (.mk [r4]) 0),(pc (.mk [r4]) 1)])]
 (.ite (aJ (.tget qz 1) (pi 0))
 (.ret (.tup [(pi 0),(.tget qz 1)]))
 (.call ⟨[(12,(.tget qz 0))],[]⟩ [] 32 30 [(aA 8 o5),r1,(aA 19 o7),r3]
 (.ite (peq tS (pi (-1)))
 (.ret (.tup [(pi 0),(pi 4)]))
 (.ite (.pick (aW tS r3) (aW (bq tS r3) (pi 20000)) pF)
 (.ret (.tup [(pi 0),(pi 3)]))
 (.call ⟨[],[]⟩ [] 54 31 [cm,(pc o9 0),(.mx (bq tS r3) (pi 0))]
 (.ite (aJ (.tget mE 1) (pi 0))
 (.ret (.tup [(pi 0),(pi 0)]))
 (.ret (.tup [(bq cm (.tget mE 0)),(pi 0)])))))))))
def agC:Kc.map told=some (Yb,[]):=by kernel_rfl
def ayS:tree (ab Kc)=Yb:=aT agC
end Rm
