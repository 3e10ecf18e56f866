/-
  The functions of this seat, compiled (2).
-/
import Derived.Test.YtopjnikcppafdaaGreatDoorKAI
import Derived.KernelRfl
set_option linter.unusedVariables false
set_option maxRecDepth 100000
noncomputable section
namespace Rm
open Go Go.Proofs Cx
def KN:Option PC:=cF [2] [] Tryz.f229 229 []
def ZT:PT:=
 (.ret (.mn (.mx r0 (pi (-1099511627776))) zx))
theorem ahN:KN.map told=some (ZT,[]):=by kernel_rfl
theorem aBt:tree (ab KN)=ZT:=aQ ahN
def KK:Option PC:=cF [2,3,4,11] [] Tryz.f227 227 []
def ZP:PT:=
 (.ite (.pick (ak r0 (pi 0)) pT (aR r0 (pi 19)))
 (.ret (.tup [(pi 0),pF]))
 (.ite (ak r0 (pi 7))
 (.ret (.tup [(pi 0),pT]))
 (.ret (.tup [(pi 1),pT]))))
theorem ahK:KK.map told=some (ZP,[]):=by kernel_rfl
theorem aBp:tree (ab KK)=ZP:=aQ ahK
def KR:Option PC:=cF [4,8,13,17,21] [] Tryz.f226 226 [2]
def ZX:PT:=
 (.ite (peq r0 (pi 3))
 (.ret (.mk [(pc (.setc lX 0 (.mk [(.lst [(pi 1)]),(pi 1)])) 0),(pc (.setc lX 0 (.mk [(.lst [(pi 1)]),(pi 1)])) 1)]))
 (.ite (.pick (peq r0 (pi 4)) (peq r0 (pi 4)) (peq r0 (pi 5)))
 (.ret (.mk [(pc (.setc lX 0 (.mk [(.lst [(pi 1),(pi 1)]),(pi 1)])) 0),(pc (.setc lX 0 (.mk [(.lst [(pi 1),(pi 1)]),(pi 1)])) 1)]))
 (.ite (peq r0 (pi 6))
 (.ret (.mk [(pc aiC 0),(pc aiC 1)]))
 (.ite (peq r0 (pi 7))
 (.ret (.mk [(pc (.setc lX 0 (.mk [(.lst [(pi 0),(pi 0)]),(pi 1)])) 0),(pc (.setc lX 0 (.mk [(.lst [(pi 0),(pi 0)]),(pi 1)])) 1)]))
 (.ite (peq r0 (pi 8))
 (.ret (.mk [(pc (.setc lX 0 (.mk [(.lst [(pi (-1)),(pi (-1))]),(pi 1)])) 0),(pc (.setc lX 0 (.mk [(.lst [(pi (-1)),(pi (-1))]),(pi 1)])) 1)]))
 (.ret (.mk [(pc (.setc lX 0 (.mk [(.lst [(pi 0),(pi 0)]),(pi 0)])) 0),(pc (.setc lX 0 (.mk [(.lst [(pi 0),(pi 0)]),(pi 0)])) 1)])))))))
theorem ahR:KR.map told=some (ZX,[]):=by kernel_rfl
theorem aBy:tree (ab KR)=ZX:=aQ ahR
def KJ:Option PC:=cF [5,6,8] [] Tryz.f182 182 [2,4,7]
def ZO:PT:=
 (.call ⟨[],[(4,gx),(2,(.mk [r0]))]⟩ [] 11 201 [(.mk [gw,iZ,zG])]
 (.ite (aF (.tget bJ 1) (pi 0))
 (.ret GV)
 (.call ⟨[],[]⟩ [] 21 202 [(.mk [r1]),(.mk [(pc o2 0),(pc o2 1),(pc o2 2)])]
 (.ret (.mk [(pc aiv 0),(pc aiv 1)])))))
theorem ahJ:KJ.map told=some (ZO,[]):=by kernel_rfl
theorem aBo:tree (ab KJ)=ZO:=aQ ahJ
def BA:Option PC:=cF [5,15,21,9,11] [] Tryz.f202 202 [2,3,4,6,33,7,8,10,12298,12]
def QP:Nat→PC:=bo BA
def avj (b:Nat→PC):PC:=.block 1 [45,46] [7,8] (.loop [45] [7,8] (b 0))
def H7 (b:Nat→PC):PT:=
 (.ite (ak rB th)
 (.blockS ⟨[],[]⟩ 2 [9,10,47,48,49,50,51,52,53,54,55,56,57,58,59,60,61] [10,12298,8,7]
 (.chk (aq oA rB)
 (.call ⟨[(54,rB),(52,rB)],[]⟩ [] 57 202 [(.mk [(pc o2 0)]),(.mk [(pc (.setc mU 0 (pn oA rB)) 0),(pc (.setc mU 0 (pn oA rB)) 1),(pc (.setc mU 0 (pn oA rB)) 2)])]
 (.chk (aq o7 Db)
 (.chk (aq o8 l7)
 (.next ⟨[],[(8,(.setn o8 l7 0 (.tget G5 1))),(7,(.setn o7 Db 0 (.tget G5 0)))]⟩)))))
 (.next ⟨[(45,(aG rB (pi 1)))],[]⟩))
 (.exit 1 ⟨[(46,(ak rB th))],[]⟩))
def IB (b:Nat→PC):PT:=
 (.blockS ⟨[(14,(pc (.mk [r1]) 0))],[(4,gx),(3,(.mk [r1])),(2,(.mk [r0]))]⟩ 0 [5,15,16,21,22] [4]
 (.iteS ⟨[],[]⟩ (.pick (peq bQ (pi 0)) (peq bQ (pi 0)) (peq bQ (pi 1))) [5,21,22] [4]
 (.ret (.tup [(.mk [(pc (.setc o4 0 (.mk [pT,(pc o3 1)])) 0),(pc (.setc o4 0 (.mk [pT,(pc o3 1)])) 1)]),pL]))
 (.iteS ⟨[],[]⟩ (peq bQ (pi 2)) [5] [4]
 (.call ⟨[],[]⟩ [] 26 219 [(.mk [(pc o2 0)]),(pc o3 1)]
 (.ite (pc (.setc gx 0 lZ) 0)
 (.ret (.tup [(.mk [(pc aiB 0),(pc aiB 1)]),pL]))
 (.ret (.tup [GV,(.lst [(pc o3 1)])]))))
 (.next ⟨[],[]⟩)
 (.next ⟨[],[]⟩))
 (.next ⟨[],[]⟩))
 (.chk (.an (bk mV (pi 0)) (bI mV cU))
 (.chk (peq mV mV)
 (.brk ⟨[(45,(pi 0)),(44,mV),(43,(pc o3 2)),(8,pN),(7,pN)],[(8,(.rep mV pL)),(7,(.rep mV gx))]⟩
(avj b)
 (.chk (.nt (.an (.an (peq (pc o3 0) (pi 6)) pT) (.nt (aq o7 (pi 0)))))
 (.ite (.pick (peq (pc o3 0) (pi 6)) (pc (pn o7 (pi 0)) 0) pF)
 (.chk (aq o7 (pi 0))
 (.chk (aq o7 GY)
 (.chk (aq o8 GY)
 (.ret (.tup [(.mk [(pc (.setc o4 0 (.sub (pn o7 GY) 0 2)) 0),(pc (.setc o4 0 (.sub (pn o7 GY) 0 2)) 1)]),(pn o8 GY)])))))
 (.call ⟨[],[]⟩ [] 88 220 [(pc o3 0),o7]
 (.ite (pc (.setc gx 0 NU) 0)
 (.ret (.tup [(.mk [(pc aiA 0),(pc aiA 1)]),pL]))
 (.call ⟨[(92,zA)],[]⟩ [] 94 221 [o8]
 (.ret (.tup [(.mk [(pc (.setc o4 0 VY) 0),(pc (.setc o4 0 VY) 1)]),r94])))))))))))
def apO (b:Nat→PC):PT×List (Shp×PT):=(IB b,[(.lp 1 [45,46] [7,8] [45] [7,8],H7 b)])
theorem U1:BA.map told=some (apO (bq BA)):=by kernel_rfl
theorem aBv:tree (ab BA)=IB QP:=bG U1
theorem WU:round 1 [45,46] [7,8] [45] [7,8] (QP 0)=H7 QP:=bf U1 0 fun _=>rfl
def KP:Option PC:=cF [5,6] [] Tryz.f219 219 [2,4]
def ZV:PT:=
 (.chk (.nt (.an (.an (.nt (bk r1 (.llen gw))) pT) (.nt (aq gw r1))))
 (.ite (.pick (bk r1 (.llen gw)) pT (.nt (pc (pn gw r1) 0)))
 (.ret (.mk [(pc (.setc gx 0 zA) 0),(pc (.setc gx 0 zA) 1)]))
 (.call ⟨[],[(4,gx),(2,(.mk [r0]))]⟩ [] 24 227 [r1]
 (.iteS ⟨[],[]⟩ (peq (.tget oy 0) (pi 1)) [] [4]
 (.chk (aq (pc o2 0) r1)
 (.call ⟨[],[]⟩ [] 36 228 [(aF (pc (pn (pc o2 0) r1) 1) (pi 0))]
 (.ret (.mk [(pc (.setc o4 0 jR) 0),(pc (.setc o4 0 jR) 1)]))))
 (.next ⟨[],[]⟩)
 (.chk (aq (pc o2 0) r1)
 (.call ⟨[],[]⟩ [] 43 229 [(pc (pn (pc o2 0) r1) 1)]
 (.ret (.mk [(pc (.setc o4 0 (.mk [pT,oA])) 0),(pc (.setc o4 0 (.mk [pT,oA])) 1)]))))))))
theorem ahP:KP.map told=some (ZV,[]):=by kernel_rfl
theorem aBw:tree (ab KP)=ZV:=aQ ahP
def KS:Option PC:=cF [] [] Tryz.f228 228 [2]
def ZY:PT:=
 (.ite r0
 (.ret (.mk [(pc Nq 0),(pc Nq 1)]))
 (.ret (.mk [(pc Nr 0),(pc Nr 1)])))
theorem ahS:KS.map told=some (ZY,[]):=by kernel_rfl
theorem aBz:tree (ab KS)=ZY:=aQ ahS
def KM:Option PC:=cF [9,22,41,6,7,82,88,94] [] Tryz.f220 220 [4,5]
def ZS:PT:=
 (.blockS ⟨[(8,r0)],[(4,gx)]⟩ 0 [9,10,22,23] [4]
 (.iteS ⟨[],[]⟩ (peq r8 (pi 3)) [22,23] [4]
 (.chk (aq r1 (pi 0))
 (.iteS ⟨[],[]⟩ (pc (pn r1 (pi 0)) 0) [] [4]
 (.chk (aq r1 (pi 0))
 (.call ⟨[],[]⟩ [] 20 228 [(peq (pc (pn r1 (pi 0)) 1) (pi 0))]
 (.ret (.mk [(pc (.setc o4 0 fm) 0),(pc (.setc o4 0 fm) 1)]))))
 (.next ⟨[],[]⟩)
 (.ret GV)))
 (.iteS ⟨[],[]⟩ (.pick (peq r8 (pi 4)) (peq r8 (pi 4)) (peq r8 (pi 5))) [] [4]
 (.call ⟨[],[]⟩ [] 27 228 [(peq r0 (pi 5))]
 (.chk (aq r1 (pi 0))
 (.chk (.nt (.an (.an (.nt aiT) pT) (.nt (aq r1 (pi 1)))))
 (.ite (.pick aiT pT (.an (.cb .eql (pc ru 0) (pc C4 0)) (.an (peq (pc ru 1) (pc C4 1)) pT)))
 (.ret (.mk [(pc (.setc o4 0 C4) 0),(pc (.setc o4 0 C4) 1)]))
 (.next ⟨[],[]⟩)))))
 (.ite (peq r8 (pi 6))
 (.chk (aq r1 (pi 1))
 (.chk (.nt (.an (.an (pc ru 0) pT) (.nt (aq r1 (pi 1)))))
 (.chk (.nt (.an (.an (pc ru 0) pT) (.nt (aq r1 (pi 2)))))
 (.ite (.pick (pc ru 0) (.an (.cb .eql (pc ru 0) (pc (pn r1 (pi 2)) 0)) (.an (peq (pc ru 1) (pc (pn r1 (pi 2)) 1)) pT)) pF)
 (.ret (.mk [(pc (.setc o4 0 ru) 0),(pc (.setc o4 0 ru) 1)]))
 (.ret GV)))))
 (.next ⟨[],[]⟩))
 (.next ⟨[],[]⟩))
 (.next ⟨[],[]⟩))
 (.chk (aq r1 (pi 0))
 (.chk (.nt (.an (.an (.nt (.nt (pc (pn r1 (pi 0)) 0))) pT) (.nt (aq r1 (pi 1)))))
 (.ite (.pick (.nt (pc (pn r1 (pi 0)) 0)) pT (.nt (pc ru 0)))
 (.ret GV)
 (.chk (aq r1 (pi 1))
 (.blockS ⟨[(81,r0),(7,(pc ru 1)),(6,(pc (pn r1 (pi 0)) 1))],[]⟩ 1 [82,83,88,89,94,95] [4]
 (.iteS ⟨[],[]⟩ (.pick (peq rC (pi 4)) (peq rC (pi 4)) (peq rC (pi 5))) [88,89,94,95] [4]
 (.call ⟨[],[]⟩ [] 87 228 [(peq r0 (pi 4))]
 (.ret (.mk [(pc (.setc o4 0 r87) 0),(pc (.setc o4 0 r87) 1)])))
 (.iteS ⟨[],[]⟩ (peq rC (pi 7)) [94,95] [4]
 (.call ⟨[],[]⟩ [] 93 228 [(ak r6 r7)]
 (.ret (.mk [(pc (.setc o4 0 NV) 0),(pc (.setc o4 0 NV) 1)])))
 (.iteS ⟨[],[]⟩ (peq rC (pi 8)) [] [4]
 (.call ⟨[],[]⟩ [] 99 228 [(peq r6 r7)]
 (.ret (.mk [(pc (.setc o4 0 r99) 0),(pc (.setc o4 0 r99) 1)])))
 (.next ⟨[],[]⟩)
 (.next ⟨[],[]⟩))
 (.next ⟨[],[]⟩))
 (.next ⟨[],[]⟩))
 (.call ⟨[],[]⟩ [] 103 230 [r0,r6,r7]
 (.ret (.mk [(pc (.setc o4 0 (.mk [pT,aiW])) 0),(pc (.setc o4 0 (.mk [pT,aiW])) 1)])))))))))
theorem ahM:KM.map told=some (ZS,[]):=by kernel_rfl
theorem aBs:tree (ab KM)=ZS:=aQ ahM
def KL:Option PC:=cF [6,8,14,20,25] [] Tryz.f230 230 []
def ZQ:PT:=
 (.blockS ⟨[(7,r0)],[]⟩ 0 [6,8,9,14,15,20,21,25,26] []
 (.iteS ⟨[],[]⟩ (peq r7 (pi 9)) [6,14,15,20,21,25,26] []
 (.call ⟨[],[]⟩ [] 13 229 [(aG r1 r2)]
 (.ret cZ))
 (.iteS ⟨[],[]⟩ (peq r7 (pi 10)) [6,20,21,25,26] []
 (.call ⟨[],[]⟩ [] 19 229 [(bm r1 r2)]
 (.ret dC))
 (.iteS ⟨[],[]⟩ (peq r7 (pi 11)) [6,25,26] []
 (.call ⟨[],[]⟩ [] 24 232 [r1,r2]
 (.ret oy))
 (.ite (peq r7 (pi 12))
 (.ret (.mn r1 r2))
 (.next ⟨[],[]⟩))
 (.next ⟨[],[]⟩))
 (.next ⟨[],[]⟩))
 (.next ⟨[],[]⟩))
 (.ret (.mx r1 r2)))
theorem ahL:KL.map told=some (ZQ,[]):=by kernel_rfl
theorem aBq:tree (ab KL)=ZQ:=aQ ahL
def KQ:Option PC:=cF [4,5,6,7] [] Tryz.f232 232 []
def ZW:PT:=
 (.call ⟨[],[]⟩ [] 19 83 [(.conv .u64 (.mx r0 (bm (pi 0) r0))),(.conv .u64 (.mx r1 (bm (pi 0) r1)))]
 (.ite (.cb .neq (ak r0 (pi 0)) (ak r1 (pi 0)))
 (.ret (bm (pi 0) aiJ))
 (.ret aiJ)))
theorem ahQ:KQ.map told=some (ZW,[]):=by kernel_rfl
theorem aBx:tree (ab KQ)=ZW:=aQ ahQ
def JD:Option PC:=cF [4,5,6,7,8,9,10,11,12,13] [] Tryz.f83 83 []
def XK:PT:=
 (.chk C0
 (.ret (.tup [(.ai .add .u64 (.ai .add .u64 (.ai .mul .u64 uT (.ai .shr .u64 r1 wD)) (.ai .shr .u64 aiI wD)) (.ai .shr .u64 (.ai .add .u64 (.ai .and .u64 aiI zD) (.ai .mul .u64 (.ai .and .u64 r0 zD) (.ai .shr .u64 r1 wD))) wD)),(.ai .mul .u64 r0 r1)])))
theorem agv:JD.map told=some (XK,[]):=by kernel_rfl
theorem azm:tree (ab JD)=XK:=aQ agv
def Bp:Option PC:=cF [2,3,5,8] [] Tryz.f221 221 [6]
def El:Nat→PC:=bo Bp
def au6 (b:Nat→PC):PC:=.block 0 [3,11,12] [] (.loop [3,11] [] (b 0))
def au7 (b:Nat→PC):PC:=.block 2 [6,27,28] [6] (.loop [6,27] [6] (b 1))
def Oj (b:Nat→PC):PT:=
 (.ite (ak bJ cV)
 (.chk (aq r9 bJ)
 (.ite (ak (aG r3 (.llen (pn r9 bJ))) (pi 0))
 (.chk (.nt pT)
 (.chk (.nt pT)
 (.next ⟨[(3,(aG r3 (.llen (pn r9 bJ)))),(11,(aG bJ (pi 1)))],[]⟩)))
 (.next ⟨[(3,(aG r3 (.llen (pn r9 bJ)))),(11,(aG bJ (pi 1)))],[]⟩)))
 (.exit 0 ⟨[(12,(ak bJ cV))],[]⟩))
def Ol (b:Nat→PC):PT:=
 (.ite (ak dD lZ)
 (.chk (aq jQ dD)
 (.chk (bI (.llen (.app o6 (pn jQ dD))) cU)
 (.next ⟨[(6,pN),(27,(aG dD (pi 1)))],[(6,(.app o6 (pn jQ dD)))]⟩)))
 (.exit 2 ⟨[(28,(ak dD lZ))],[]⟩))
def Zv (b:Nat→PC):PT:=
 (.brk ⟨[(11,(pi 0)),(10,(.llen r0)),(9,r0),(3,(pi 0))],[]⟩
(au6 b)
 (.call ⟨[],[]⟩ [] 24 231 [pL,r3]
 (.brk ⟨[(27,(pi 0)),(26,(.llen r0)),(25,r0),(6,pN)],[(6,oy)]⟩
(au7 b)
 (.ret o6))))
def apD (b:Nat→PC):PT×List (Shp×PT):=(Zv b,[(.lp 0 [3,11,12] [] [3,11] [],Oj b),(.lp 2 [6,27,28] [6] [6,27] [6],Ol b)])
theorem M1:Bp.map told=some (apD (bq Bp)):=by kernel_rfl
theorem aA5:tree (ab Bp)=Zv El:=bG M1
theorem ajr:round 0 [3,11,12] [] [3,11] [] (El 0)=Oj El:=bf M1 0 fun _=>rfl
theorem ajs:round 2 [6,27,28] [6] [6,27] [6] (El 1)=Ol El:=bf M1 1 fun _=>rfl
def Jt:Option PC:=cF [2,3,7,12] [] Tryz.f78 78 [1]
def Xy:PT:=
 (.ite (aF (pc (.mk [r0]) 4) (pi 0))
 (.ret (pi 0))
 (.ite (.nt gw)
 (.ret (pi 2))
 (.ite (aF iZ (pi 0))
 (.ret (pi 1))
 (.ret (pi 0)))))
theorem agl:Jt.map told=some (Xy,[]):=by kernel_rfl
theorem ay8:tree (ab Jt)=Xy:=aQ agl
def Jr:Option PC:=cF [8,9,10,11] [] Tryz.f30 30 [4,6]
def Xw:PT:=
 (.call ⟨[],[(6,(.mk [r2])),(4,(.mk [r0]))]⟩ [] 14 62 [GS,r3]
 (.ite (peq (.llen (pc (.setc o6 0 bQ) 15)) (pi 0))
 (.ret (pi (-1)))
 (.call ⟨[],[(6,(.setc o6 0 bQ))]⟩ [] 23 64 [(az 8 o4),r1,(pi 6),(az 19 (.setc o6 0 bQ)),r3]
 (.call ⟨[],[]⟩ [] 24 63 [gy]
 (.call ⟨[(29,(az 15 o6)),(27,(az 8 o4)),(9,(.mx oy (pi 0)))],[]⟩ [] 31 66 [(az 19 o6)]
 (.call ⟨[],[]⟩ [] 33 65 [dD,mX,pS,r9]
 (.ite (aF (.tget rz 1) (pi 0))
 (.ret (pi (-1)))
 (.ret (.tget rz 0)))))))))
theorem agj:Jr.map told=some (Xw,[]):=by kernel_rfl
theorem ay6:tree (ab Jr)=Xw:=aQ agj
def Js:Option PC:=cF [2] [] Tryz.f63 63 [1]
def Xx:PT:=
 (.ite (.pick (aF (pc (.mk [r0]) 4) (pi 0)) pT (.nt gw))
 (.ret (pi (-1)))
 (.ret iZ))
theorem agk:Js.map told=some (Xx,[]):=by kernel_rfl
theorem ay7:tree (ab Js)=Xx:=aQ agk
def Bn:Option PC:=cF [2,4] [] Tryz.f66 66 [1,3,6,8]
def Ej:Nat→PC:=bo Bn
def au4 (b:Nat→PC):PC:=.block 0 [3,16,17] [3] (.loop [3,16] [3] (b 0))
def au5 (b:Nat→PC):PC:=.block 2 [2,3,36,37] [3] (.loop [2,3,36] [3] (b 1))
def HX (b:Nat→PC):PT:=
 (.ite (ak bT cn)
 (.chk (aq bQ bT)
 (.ite (.pick (peq r4 (pi 1)) (peq (pc (.setc z9 0 kj) 0) (pi 1)) pF)
 (.chk (bI (.llen (.app o3 (.lst [(pc (.setc z9 0 kj) 6)]))) cU)
 (.next ⟨[(3,pN),(16,(aG bT (pi 1)))],[(3,(.app o3 (.lst [(pc (.setc z9 0 kj) 6)])))]⟩))
 (.next ⟨[(16,(aG bT (pi 1)))],[]⟩)))
 (.exit 0 ⟨[(17,(ak bT cn))],[]⟩))
def zM (b:Nat→PC):PT:=
 (.ite (ak jR pV)
 (.chk (aq G4 jR)
 (.ite (.pick (peq r4 (pi 0)) (peq (pc GM 0) (pi 2)) pF)
 (.ret (pc GM 6))
 (.ite (.pick (peq r4 (pi 1)) (peq (pc GM 0) (pi 1)) pF)
 (.chk (bI (.llen (.app o3 (.lst [(pc GM 6)]))) cU)
 (.next ⟨[(3,pN),(36,(aG jR (pi 1)))],[(3,(.app o3 (.lst [(pc GM 6)])))]⟩))
 (.next ⟨[(36,(aG jR (pi 1)))],[]⟩))))
 (.exit 2 ⟨[(37,(ak jR pV))],[]⟩))
def Zr (b:Nat→PC):PT:=
 (.brk ⟨[(16,(pi 0)),(15,(.llen rp)),(14,rp),(4,wF),(3,pN),(2,(pi 0))],[(3,pL),(1,(.mk [r0]))]⟩
(au4 b)
 (.brk ⟨[(36,(pi 0)),(35,(.llen (pc o1 17))),(34,(pc o1 17))],[]⟩
(au5 b)
 (.ite (peq (.llen o3) (pi 0))
 (.ret (pi (-1)))
 (.call ⟨[],[]⟩ [] 66 109 [o3]
 (.ret r66)))))
def apB (b:Nat→PC):PT×List (Shp×PT):=(Zr b,[(.lp 0 [3,16,17] [3] [3,16] [3],HX b),(.lp 2 [2,3,36,37] [3] [2,3,36] [3],zM b)])
theorem MZ:Bn.map told=some (apB (bq Bn)):=by kernel_rfl
theorem aA0:tree (ab Bn)=Zr Ej:=bG MZ
theorem WH:round 0 [3,16,17] [3] [3,16] [3] (Ej 0)=HX Ej:=bf MZ 0 fun _=>rfl
theorem HY:round 2 [2,3,36,37] [3] [2,3,36] [3] (Ej 1)=zM Ej:=bf MZ 1 fun _=>rfl
def Bw:Option PC:=cF [2,3,4] [] Tryz.f109 109 []
def QN:Nat→PC:=bo Bw
def afF (b:Nat→PC):PC:=.block 0 [3,4,12,13,14,15] [] (.loop [3,4] [] (b 0))
def Om (b:Nat→PC):PT:=
 (.ite (ak r4 (.llen r0))
 (.chk (aq r0 r4)
 (.next ⟨[(3,(.mn r3 (pn r0 r4))),(4,(aG r4 (pi 1)))],[]⟩))
 (.exit 0 ⟨[(12,r4),(13,r0),(14,(.llen r0)),(15,(ak r4 (.llen r0)))],[]⟩))
def ZH (b:Nat→PC):PT:=
 (.ite (ak (.llen r0) (pi 1))
 (.chk (.nt pT)
 (.chk (.nt pT)
 (.chk (aq r0 (pi 0))
 (.brk ⟨[(4,(pi 1)),(3,(pn r0 (pi 0)))],[]⟩
(afF b)
 (.ret r3)))))
 (.chk (aq r0 (pi 0))
 (.brk ⟨[(4,(pi 1)),(3,(pn r0 (pi 0)))],[]⟩
(afF b)
 (.ret r3))))
def apK (b:Nat→PC):PT×List (Shp×PT):=(ZH b,[(.lp 0 [3,4,12,13,14,15] [] [3,4] [],Om b)])
theorem UZ:Bw.map told=some (apK (bq Bw)):=by kernel_rfl
theorem aBh:tree (ab Bw)=ZH QN:=bG UZ
theorem ajt:round 0 [3,4,12,13,14,15] [] [3,4] [] (QN 0)=Om QN:=bf UZ 0 fun _=>rfl
def EC:Option PC:=cF [8,9,15,39,58,74,11,12] [] Tryz.f65 65 [4,5,10]
def Pf:PT:=
 (.blockS ⟨[],[(10,(.setc z3 0 (.mk [(pc (.mk [r1]) 5),(pc (.mk [r1]) 6),(pc (.mk [r1]) 7)]))),(5,(.mk [r1])),(4,(.mk [r0]))]⟩ 0 [8,9,15,16,17,18,19,25,26,32,33,38,39,40,41,42,43,47,48,52,53,57,58,59,60,61,65,66,69,70,73,74,75,76,77,80] []
 (.call ⟨[],[]⟩ [] 17 94 [(az 8 o4)]
 (.call ⟨[(19,(aF dB (pi 0)))],[]⟩ [(19,false)] 23 104 [(az 8 o4),(pc o5 9)]
 (.call ⟨[(26,(.pick dC pT (.nt gy)))],[]⟩ [(26,false)] 30 104 [(az 8 o4),(pc o5 10)]
 (.call ⟨[(33,(.pick lZ pT (.nt oz)))],[]⟩ [(33,false)] 36 105 [(pc o5 8)]
 (.iteS ⟨[],[]⟩ (.pick rz pT (.nt jR)) [8,9,39,40,41,42,43,47,48,52,53,57,58,59,60,61,65,66,69,70,73,74,75,76,77,80] []
 (.ret (.tup [(pi 0),(pi 1)]))
 (.iteS ⟨[],[]⟩ (.pick (.pick (.pick (ak (pc cm 0) (pi 0)) pT (bk (pc cm 0) (pi 5))) pT (ak (pc cm 2) (pi 0))) pT (bk (pc cm 2) (pi 2))) [8,9,58,59,60,61,65,66,69,70,73,74,75,76,77,80] []
 (.ret (.tup [(pi 0),(pi 1)]))
 (.call ⟨[(61,(aF r2 (pi (-1))))],[]⟩ [(61,true)] 63 105 [r2]
 (.iteS ⟨[],[]⟩ (.pick (.pick (.pick G8 (.nt NS) pF) pT (ak r3 (pi 0))) pT (aR r3 (pi 20000))) [8,9,74,75,76,77,80] []
 (.ret (.tup [(pi 0),(pi 1)]))
 (.call ⟨[],[]⟩ [] 76 106 [(.mk [(pc cm 0),(pc cm 1),(pc cm 2)])]
 (.ite (.pick uV (peq r2 (pi (-1))) pF)
 (.ret (.tup [(pi 0),(pi 4)]))
 (.next ⟨[],[]⟩)))
 (.next ⟨[],[]⟩)))
 (.next ⟨[],[]⟩))
 (.next ⟨[],[]⟩))))))
 (.call ⟨[],[]⟩ [] 85 107 [(az 8 o4),(az 15 o5),r2]
 (.ite (aF (.tget Hb 1) (pi 0))
 (.ret (.tup [(pi 0),(.tget Hb 1)]))
 (.call ⟨[(11,(.tget Hb 0))],[]⟩ [] 92 105 [(.tget Hb 0)]
 (.ite (.pick (.nt VY) pT (aR (aG bJ r3) (pi 100000)))
 (.ret (.tup [(pi 0),(pi 3)]))
 (.call ⟨[],[]⟩ [] 106 108 [(az 8 o4),(pc o5 10),(aG bJ r3)]
 (.ret (.tup [(.tget NQ 0),(.tget NQ 1)]))))))))
theorem ahC:EC.map told=some (Pf,[]):=by kernel_rfl
theorem akh:tree (ab EC)=Pf:=aQ ahC
def Bb:Option PC:=cF [2,3,4,5,6,7,10,11,12] [] Tryz.f94 94 [1,9]
def QA:Nat→PC:=bo Bb
def auK (b:Nat→PC):PC:=.block 0 [2,38,39] [] (.loop [2,38] [] (b 0))
def HF (b:Nat→PC):PT:=
 (.ite (ak gZ l0)
 (.blockS ⟨[],[]⟩ 1 [2,9,40,41,42,43,44,45] [9]
 (.chk (aq jR gZ)
 (.call ⟨[],[]⟩ [] 44 135 [(pc (.setc GP 0 (pn jR gZ)) 0),(pi 10)]
 (.ite (.nt th)
 (.ret (pi 1))
 (.next ⟨[],[]⟩))))
 (.next ⟨[(38,(aG gZ (pi 1)))],[]⟩))
 (.exit 0 ⟨[(39,(ak gZ l0))],[]⟩))
def YY (b:Nat→PC):PT:=
 (.call ⟨[(2,(pi 0))],[(1,(.mk [r0]))]⟩ [] 15 130 [jP]
 (.call ⟨[(5,(.tget cn 2)),(4,(.tget cn 1)),(3,(.tget cn 0))],[]⟩ [] 21 131 [(pc o1 0),(pi 8),(.con (.clo 132 []))]
 (.ite (aF gY (pi 0))
 (.ret gY)
 (.call ⟨[],[(1,(az 8 o1))]⟩ [] 27 131 [r3,(pi 40),(.clo 133 [(.ref (az 8 o1))])]
 (.ite (aF dD (pi 0))
 (.ret dD)
 (.ite (aR tg (pi 20))
 (.ret (pi 6))
 (.brk ⟨[(38,(pi 0)),(37,tg),(36,(pc o1 2))],[]⟩
(auK b)
 (.call ⟨[],[]⟩ [] 49 131 [r4,(pi 200),(.clo 136 [(.ref o1)])]
 (.ite (aF mY (pi 0))
 (.ret mY)
 (.call ⟨[],[]⟩ [] 55 131 [r5,(pi 20),(.clo 137 [(.ref o1)])]
 (.ite (aF wH (pi 0))
 (.ret wH)
 (.call ⟨[],[]⟩ [] 60 139 [(.sub o1 0 8)]
 (.ite (aF G7 (pi 0))
 (.ret G7)
 (.call ⟨[],[]⟩ [] 65 140 [(.sub o1 0 8)]
 (.ret Dc)))))))))))))))
def apo (b:Nat→PC):PT×List (Shp×PT):=(YY b,[(.lp 0 [2,38,39] [] [2,38] [],HF b)])
theorem UL:Bb.map told=some (apo (bq Bb)):=by kernel_rfl
theorem aAL:tree (ab Bb)=YY QA:=bG UL
theorem Ws:round 0 [2,38,39] [] [2,38] [] (QA 0)=HF QA:=bf UL 0 fun _=>rfl
def Bg:Option PC:=cF [] [] Tryz.f130 130 [1,2,3,4,6,16390,20486,24582,21,8,34,10,12298,16394,47]
def xT:Nat→PC:=bo Bg
def auP (b:Nat→PC):PC:=.block 0 [2,14,15] [2] (.loop [2,14] [2] (b 0))
def auQ (b:Nat→PC):PC:=.block 2 [3,27,28] [3] (.loop [3,27] [3] (b 1))
def auR (b:Nat→PC):PC:=.block 4 [4,40,41] [4] (.loop [4,40] [4] (b 2))
def Oe (b:Nat→PC):PT:=
 (.ite rv
 (.chk (aq bY bQ)
 (.chk (bI (.llen aiL) cU)
 (.next ⟨[(2,pN),(14,(aG bQ (pi 1)))],[(2,aiL)]⟩)))
 (.exit 0 ⟨[(15,rv)],[]⟩))
def Of (b:Nat→PC):PT:=
 (.ite (ak dD lZ)
 (.chk (aq jQ dD)
 (.chk (bI (.llen aiR) cU)
 (.next ⟨[(3,pN),(27,(aG dD (pi 1)))],[(3,aiR)]⟩)))
 (.exit 2 ⟨[(28,(ak dD lZ))],[]⟩))
def Og (b:Nat→PC):PT:=
 (.ite (ak pX pW)
 (.chk (aq gZ pX)
 (.chk (bI (.llen aiM) cU)
 (.next ⟨[(4,pN),(40,(aG pX (pi 1)))],[(4,aiM)]⟩)))
 (.exit 4 ⟨[(41,(ak pX pW))],[]⟩))
def Zk (b:Nat→PC):PT:=
 (.brk ⟨[(14,(pi 0)),(13,(.llen iZ)),(12,iZ),(4,pN),(3,pN),(2,pN)],[(4,pL),(3,pL),(2,pL),(1,(.mk [r0]))]⟩
(auP b)
 (.brk ⟨[(27,(pi 0)),(26,ox),(25,(pc o1 3))],[]⟩
(auQ b)
 (.brk ⟨[(40,(pi 0)),(39,pP),(38,(pc o1 4))],[]⟩
(auR b)
 (.ret (.tup [o2,o3,o4])))))
def apu (b:Nat→PC):PT×List (Shp×PT):=(Zk b,[(.lp 0 [2,14,15] [2] [2,14] [2],Oe b),(.lp 2 [3,27,28] [3] [3,27] [3],Of b),(.lp 4 [4,40,41] [4] [4,40] [4],Og b)])
theorem GC:Bg.map told=some (apu (bq Bg)):=by kernel_rfl
theorem aAT:tree (ab Bg)=Zk xT:=bG GC
theorem ajn:round 0 [2,14,15] [2] [2,14] [2] (xT 0)=Oe xT:=bf GC 0 fun _=>rfl
theorem ajo:round 2 [3,27,28] [3] [3,27] [3] (xT 1)=Of xT:=bf GC 1 fun _=>rfl
theorem ajp:round 4 [4,40,41] [4] [4,40] [4] (xT 2)=Og xT:=bf GC 2 fun _=>rfl
def Be:Option PC:=cF [6,7,8] [] Tryz.f131 131 []
def QD:Nat→PC:=bo Be
def auN (b:Nat→PC):PC:=.block 0 [6,15,16] [] (.loop [6,15] [] (b 0))
def HJ (b:Nat→PC):PT:=
 (.ite (ak cn bQ)
 (.blockS ⟨[],[]⟩ 1 [6,7,8,17,18,19,20,21,22,24,25,26,27] []
 (.call ⟨[(7,cn)],[]⟩ [] 20 174 [r0,cn]
 (.ite (aF fm (pi 0))
 (.ret fm)
 (.callc ⟨[],[]⟩ [] 26 r2 [r7]
 (.ite (.nt lZ)
 (.ret (pi 1))
 (.next ⟨[],[]⟩)))))
 (.next ⟨[(15,(aG cn (pi 1)))],[]⟩))
 (.exit 0 ⟨[(16,(ak cn bQ))],[]⟩))
def Zg (b:Nat→PC):PT:=
 (.ite (aR (.llen r0) r1)
 (.ret (pi 6))
 (.brk ⟨[(15,(pi 0)),(14,(.llen r0)),(6,(pi 0))],[]⟩
(auN b)
 (.ret (pi 0))))
def aps (b:Nat→PC):PT×List (Shp×PT):=(Zg b,[(.lp 0 [6,15,16] [] [6,15] [],HJ b)])
theorem UO:Be.map told=some (aps (bq Be)):=by kernel_rfl
theorem aAP:tree (ab Be)=Zg QD:=bG UO
theorem Wv:round 0 [6,15,16] [] [6,15] [] (QD 0)=HJ QD:=bf UO 0 fun _=>rfl
def Kv:Option PC:=cF [4] [] Tryz.f174 174 []
def Zj:PT:=
 (.chk (aq r0 r1)
 (.call ⟨[],[]⟩ [] 9 193 [(pn r0 r1)]
 (.ite (.nt r9)
 (.ret (pi 2))
 (.chk (.slok r0 (pi 0) r1)
 (.chk (aq r0 r1)
 (.call ⟨[],[]⟩ [] 18 194 [(.slc r0 (pi 0) r1),(pn r0 r1)]
 (.ite cv
 (.ret (pi 5))
 (.ret (pi 0)))))))))
theorem aht:Kv.map told=some (Zj,[]):=by kernel_rfl
theorem aAS:tree (ab Kv)=Zj:=aQ aht
def Bf:Option PC:=cF [2,3,4,5] [] Tryz.f193 193 []
def QE:Nat→PC:=bo Bf
def auO (b:Nat→PC):PC:=.block 0 [2,16,17] [] (.loop [2,16] [] (b 0))
def HL (b:Nat→PC):PT:=
 (.ite (ak bT cn)
 (.chk (aq bQ bT)
 (.ite (.pick (.nt (.pick (.pick (bk kj (.con (.v (.int .u8 97)))) (bI kj (.con (.v (.int .u8 122)))) pF) pT (.pick (bk kj (.con (.v (.int .u8 65)))) (bI kj (.con (.v (.int .u8 90)))) pF))) (.pick (peq bT (pi 0)) pT (.pick (aF kj (.con (.v (.int .u8 95)))) (.pick (ak kj (.con (.v (.int .u8 48)))) pT (aR kj (.con (.v (.int .u8 57))))) pF)) pF)
 (.ret pF)
 (.next ⟨[(16,(aG bT (pi 1)))],[]⟩)))
 (.exit 0 ⟨[(17,(ak bT cn))],[]⟩))
def Zi (b:Nat→PC):PT:=
 (.ite (.pick (.cs .eql r0 (.con (.v (.string ⟨#[]⟩)))) pT (aR (.slen r0) (pi 20)))
 (.ret pF)
 (.chk (bI (.slen r0) cU)
 (.brk ⟨[(16,(pi 0)),(15,(.llen (.bytes r0))),(14,(.bytes r0)),(2,pF)],[]⟩
(auO b)
 (.ret pT))))
def apt (b:Nat→PC):PT×List (Shp×PT):=(Zi b,[(.lp 0 [2,16,17] [] [2,16] [],HL b)])
theorem UP:Bf.map told=some (apt (bq Bf)):=by kernel_rfl
theorem aAR:tree (ab Bf)=Zi QE:=bG UP
theorem Ww:round 0 [2,16,17] [] [2,16] [] (QE 0)=HL QE:=bf UP 0 fun _=>rfl
def KE:Option PC:=cF [4] [] Tryz.f194 194 []
def ZA:PT:=
 (.call ⟨[],[]⟩ [] 7 210 [r0,r1]
 (.ret (bk r7 (pi 0))))
theorem ahB:KE.map told=some (ZA,[]):=by kernel_rfl
theorem aBa:tree (ab KE)=ZA:=aQ ahB
def Bv:Option PC:=cF [4,5] [] Tryz.f210 210 []
def QM:Nat→PC:=bo Bv
def avd (b:Nat→PC):PC:=.block 0 [4,8,9] [] (.loop [4,8] [] (b 0))
def H5 (b:Nat→PC):PT:=
 (.ite (ak r8 r7)
 (.chk (aq r0 r8)
 (.ite (.cs .eql r1 (pn r0 r8))
 (.ret r8)
 (.next ⟨[(8,uU)],[]⟩)))
 (.exit 0 ⟨[(9,(ak r8 r7))],[]⟩))
def ZG (b:Nat→PC):PT:=
 (.brk ⟨[(8,(pi 0)),(7,(.llen r0)),(4,(pi 0))],[]⟩
(avd b)
 (.ret (pi (-1))))
def apJ (b:Nat→PC):PT×List (Shp×PT):=(ZG b,[(.lp 0 [4,8,9] [] [4,8] [],H5 b)])
theorem UY:Bv.map told=some (apJ (bq Bv)):=by kernel_rfl
theorem aBg:tree (ab Bv)=ZG QM:=bG UY
theorem WQ:round 0 [4,8,9] [] [4,8] [] (QM 0)=H5 QM:=bf UY 0 fun _=>rfl
def Kp:Option PC:=cF [2] [] Tryz.f132 132 []
def YZ:PT:=
 (.ret pT)
theorem ahn:Kp.map told=some (YZ,[]):=by kernel_rfl
theorem aAH:tree (ab Kp)=YZ:=aQ ahn
def Kq:Option PC:=cF [3] [] Tryz.f133 133 []
def Za:PT:=
 (.chk (aq (pc (.deref r1) 1) r0)
 (.call ⟨[],[]⟩ [] 10 134 [(.deref r1),(pn (pc (.deref r1) 1) r0)]
 (.ret cV)))
theorem aho:Kq.map told=some (Za,[]):=by kernel_rfl
theorem aAI:tree (ab Kq)=Za:=aQ aho
def Bd:Option PC:=cF [4,6] [] Tryz.f134 134 [2,3]
def QC:Nat→PC:=bo Bd
def auM (b:Nat→PC):PC:=.block 0 [4,10,11] [] (.loop [4,10] [] (b 0))
def HI (b:Nat→PC):PT:=
 (.ite (ak cV r9)
 (.chk (aq r8 cV)
 (.chk CZ
 (.chk (.nt (.an (.an (.nt (ak VG (pi 1))) pT) (.nt CZ)))
 (.ite (.pick (ak VG (pi 1)) pT (aR VG (pi 31)))
 (.ret pF)
 (.next ⟨[(10,(aG cV (pi 1)))],[]⟩)))))
 (.exit 0 ⟨[(11,(ak cV r9))],[]⟩))
def Zf (b:Nat→PC):PT:=
 (.brk ⟨[(10,(pi 0)),(9,(.llen (pc (.mk [r1]) 4))),(8,(pc (.mk [r1]) 4)),(4,pF)],[(3,(.mk [r1])),(2,(.mk [r0]))]⟩
(auM b)
 (.call ⟨[(33,(.pick (aR (.llen (pc o3 4)) (pi 60)) pT (aR (.llen (pc o3 5)) (pi 200))))],[]⟩ [(33,false)] 39 135 [(pc o3 1),(.llen (pc o2 4))]
 (.call ⟨[(42,(.pick rz pT (.nt pW)))],[]⟩ [(42,false)] 48 135 [(pc o3 2),(.llen (pc o2 0))]
 (.ite (.pick r42 pT (.nt jS))
 (.ret pF)
 (.call ⟨[],[]⟩ [] 53 175 [(pc o3 3),(pi 0),(pi 6)]
 (.call ⟨[(54,VV)],[]⟩ [(54,true)] 57 175 [(pc o3 4),(pi 101),(pi 1231)]
 (.call ⟨[(59,(.pick l7 G5 pF))],[]⟩ [(59,true)] 62 175 [(pc o3 5),(pi 0),(pi 100000)]
 (.ret (.pick r59 l9 pF)))))))))
def apr (b:Nat→PC):PT×List (Shp×PT):=(Zf b,[(.lp 0 [4,10,11] [] [4,10] [],HI b)])
theorem UN:Bd.map told=some (apr (bq Bd)):=by kernel_rfl
theorem aAO:tree (ab Bd)=Zf QC:=bG UN
theorem Wu:round 0 [4,10,11] [] [4,10] [] (QC 0)=HI QC:=bf UN 0 fun _=>rfl
def Bj:Option PC:=cF [6,7,8] [] Tryz.f175 175 []
def QF:Nat→PC:=bo Bj
def auW (b:Nat→PC):PC:=.block 0 [6,11,12] [] (.loop [6,11] [] (b 0))
def wK (b:Nat→PC):PT:=
 (.ite (ak bJ cV)
 (.chk (aq r9 bJ)
 (.chk (.nt (.an (.an (aR bJ (pi 0)) (.an (.nt (.pick (ak (pn r9 bJ) r1) pT (aR (pn r9 bJ) r2))) pT)) (.nt (aq r0 (bm bJ (pi 1))))))
 (.ite (.pick (.pick (ak (pn r9 bJ) r1) pT (aR (pn r9 bJ) r2)) pT (.pick (aR bJ (pi 0)) (bI (pn r9 bJ) (pn r0 (bm bJ (pi 1)))) pF))
 (.ret pF)
 (.next ⟨[(11,(aG bJ (pi 1)))],[]⟩))))
 (.exit 0 ⟨[(12,(ak bJ cV))],[]⟩))
def Zn (b:Nat→PC):PT:=
 (.brk ⟨[(11,(pi 0)),(10,(.llen r0)),(9,r0),(6,pF)],[]⟩
(auW b)
 (.ret pT))
def apx (b:Nat→PC):PT×List (Shp×PT):=(Zn b,[(.lp 0 [6,11,12] [] [6,11] [],wK b)])
theorem UQ:Bj.map told=some (apx (bq Bj)):=by kernel_rfl
theorem aAW:tree (ab Bj)=Zn QF:=bG UQ
theorem Di:round 0 [6,11,12] [] [6,11] [] (QF 0)=wK QF:=bf UQ 0 fun _=>rfl
def Kr:Option PC:=cF [3] [] Tryz.f136 136 []
def Zb:PT:=
 (.chk (aq (pc (.deref r1) 3) r0)
 (.call ⟨[],[]⟩ [] 13 135 [(pc (pn (pc (.deref r1) 3) r0) 1),(.llen (pc (.deref r1) 1))]
 (.chk (.nt (.an (.an cZ pT) (.nt (aq (pc (.deref r1) 3) r0))))
 (.call ⟨[(14,cZ)],[]⟩ [(14,true)] 24 135 [(pc (pn (pc (.deref r1) 3) r0) 2),(.llen (pc (.deref r1) 2))]
 (.ret (.pick bQ oy pF))))))
theorem ahp:Kr.map told=some (Zb,[]):=by kernel_rfl
theorem aAJ:tree (ab Kr)=Zb:=aQ ahp
def Ks:Option PC:=cF [3] [] Tryz.f137 137 []
def Zc:PT:=
 (.chk (aq (pc (.deref r1) 4) r0)
 (.call ⟨[],[]⟩ [] 9 138 [(pn (pc (.deref r1) 4) r0)]
 (.ret r9)))
theorem ahq:Ks.map told=some (Zc,[]):=by kernel_rfl
theorem aAK:tree (ab Ks)=Zc:=aQ ahq
def Bh:Option PC:=cF [2] [] Tryz.f138 138 [1,3,4,6,19,8,16392,36]
def Eg:Nat→PC:=bo Bh
def auS (b:Nat→PC):PC:=.block 0 [2,3,12,13] [3] (.loop [2,3,12] [3] (b 0))
def auT (b:Nat→PC):PC:=.block 2 [4,29,30] [4] (.loop [4,29] [4] (b 1))
def HM (b:Nat→PC):PT:=
 (.ite wC
 (.blockS ⟨[],[]⟩ 1 [2,3,6,14,15,17,18,19,20,21,22,23,24] [6,19,3]
 (.chk (aq cV bY)
 (.chk (bI (.llen (.app o3 (.lst [(pc (.setc ND 0 pQ) 0)]))) cU)
 (.call ⟨[(3,pN)],[(3,(.app o3 (.lst [(pc (.setc ND 0 pQ) 0)])))]⟩ [] 23 135 [(pc (.setc ND 0 pQ) 1),(pi 5)]
 (.ite (.nt gy)
 (.ret pF)
 (.next ⟨[],[]⟩)))))
 (.next ⟨[(12,zz)],[]⟩))
 (.exit 0 ⟨[(13,wC)],[]⟩))
def Oh (b:Nat→PC):PT:=
 (.ite (ak mX pR)
 (.chk (aq dD mX)
 (.chk (bI (.llen aiS) cU)
 (.next ⟨[(4,pN),(29,(aG mX (pi 1)))],[(4,aiS)]⟩)))
 (.exit 2 ⟨[(30,(ak mX pR))],[]⟩))
def Zl (b:Nat→PC):PT:=
 (.brk ⟨[(12,(pi 0)),(11,ry),(10,zG),(4,pN),(3,pN),(2,pF)],[(4,pL),(3,pL),(1,(.mk [r0]))]⟩
(auS b)
 (.brk ⟨[(29,(pi 0)),(28,ox),(27,(pc o1 3))],[]⟩
(auT b)
 (.call ⟨[],[]⟩ [] 40 175 [o3,(pi 0),(pi 21)]
 (.call ⟨[(41,pX)],[]⟩ [(41,true)] 43 175 [o4,(pi 0),(pi 21)]
 (.ret (.pick rA oA pF))))))
def apv (b:Nat→PC):PT×List (Shp×PT):=(Zl b,[(.lp 0 [2,3,12,13] [3] [2,3,12] [3],HM b),(.lp 2 [4,29,30] [4] [4,29] [4],Oh b)])
theorem MW:Bh.map told=some (apv (bq Bh)):=by kernel_rfl
theorem aAU:tree (ab Bh)=Zl Eg:=bG MW
theorem Wx:round 0 [2,3,12,13] [3] [2,3,12] [3] (Eg 0)=HM Eg:=bf MW 0 fun _=>rfl
theorem ajq:round 2 [4,29,30] [4] [4,29] [4] (Eg 1)=Oh Eg:=bf MW 1 fun _=>rfl
def Bk:Option PC:=cF [2,3] [] Tryz.f139 139 [1,4,6]
def Ei:Nat→PC:=bo Bk
def auX (b:Nat→PC):PC:=.block 2 [2,50,51] [] (.loop [2,50] [] (b 0))
def auY (b:Nat→PC):PC:=.block 0 [2,14,15] [] (.loop [2,14] [] (b 1))
def Dj (b:Nat→PC):PT:=
 (.ite (ak l6 mY)
 (.chk (aq jS l6)
 (.ite (.pick (peq (pc (.setc z3 0 (pn jS l6)) 0) (pc o4 0)) (peq (pc (.setc z3 0 (pn jS l6)) 1) (pc o4 1)) pF)
 (.ret (pi 5))
 (.next ⟨[(50,(aG l6 (pi 1)))],[]⟩)))
 (.exit 2 ⟨[(51,(ak l6 mY))],[]⟩))
def HQ (b:Nat→PC):PT:=
 (.ite rv
 (.blockS ⟨[(15,rv)],[]⟩ 1 [2,3,4,16,17,18,19,20,21,22,23,24,25,26,34,35,39,40,44,45,46,47,48,49,50,51] [4]
 (.chk (aq bY bQ)
 (.call ⟨[(3,bQ)],[(4,C7)]⟩ [] 24 135 [(pc C7 0),lY]
 (.call ⟨[(26,(.nt oy))],[]⟩ [(26,false)] 32 135 [(pc o4 1),lY]
 (.ite (.pick (.pick (.pick lZ pT (.nt pU)) pT (ak (pc o4 2) (pi 1))) pT (aR (pc o4 2) (pi 20000)))
 (.ret (pi 1))
 (.chk (.slok (pc o1 5) (pi 0) r3)
 (.brk ⟨[(50,(pi 0)),(49,(.llen (.slc (pc o1 5) (pi 0) r3))),(48,(.slc (pc o1 5) (pi 0) r3))],[]⟩
(auX b)
 (.next ⟨[],[]⟩)))))))
 (.next ⟨[(14,(aG bQ (pi 1)))],[]⟩))
 (.exit 0 ⟨[(15,rv)],[]⟩))
def Zo (b:Nat→PC):PT:=
 (.ite (aR (.llen wF) (pi 100))
 (.ret (pi 6))
 (.brk ⟨[(14,(pi 0)),(13,(.llen wF)),(12,wF),(2,(pi 0))],[(1,(.mk [r0]))]⟩
(auY b)
 (.ret (pi 0))))
def apy (b:Nat→PC):PT×List (Shp×PT):=(Zo b,[(.lp 2 [2,50,51] [] [2,50] [],Dj b),(.lp 0 [2,14,15] [] [2,14] [],HQ b)])
theorem MY:Bk.map told=some (apy (bq Bk)):=by kernel_rfl
theorem aAX:tree (ab Bk)=Zo Ei:=bG MY
theorem Oi:round 2 [2,50,51] [] [2,50] [] (Ei 0)=Dj Ei:=bf MY 0 fun _=>rfl
theorem WA:round 0 [2,14,15] [] [2,14] [] (Ei 1)=HQ Ei:=bf MY 1 fun _=>rfl
def Bi:Option PC:=cF [2] [] Tryz.f140 140 [1,4,6]
def Eh:Nat→PC:=bo Bi
def auU (b:Nat→PC):PC:=.block 0 [2,14,15] [] (.loop [2,14] [] (b 0))
def auV (b:Nat→PC):PC:=.block 2 [2,69,70] [] (.loop [2,69] [] (b 1))
def HO (b:Nat→PC):PT:=
 (.ite rv
 (.blockS ⟨[],[]⟩ 1 [2,4,16,17,18,19,20,21,22,23,24,25,33,34,40,41,47,48,54,55,60] [4]
 (.chk (aq bY bQ)
 (.call ⟨[],[(4,(.setc z5 0 (pn bY bQ)))]⟩ [] 23 135 [(pc (.setc z5 0 (pn bY bQ)) 0),wG]
 (.call ⟨[(25,(.nt gy))],[]⟩ [(25,false)] 31 135 [(pc o4 1),wG]
 (.call ⟨[(41,(.pick (.pick jQ pT (.nt pS)) pT (peq (pc o4 0) (pc o4 1))))],[]⟩ [(41,false)] 45 135 [(bm (pc o4 2) (pi 1)),(pi 1073741824)]
 (.call ⟨[(48,(.pick rA pT (.nt rB)))],[]⟩ [(48,false)] 52 135 [(bm (pc o4 3) (pi 1)),(pi 1073741824)]
 (.call ⟨[(55,(.pick jS pT (.nt Db)))],[]⟩ [(55,false)] 58 135 [(pc o4 4),(pi 100001)]
 (.ite (.pick wH pT (.nt G6))
 (.ret (pi 1))
 (.next ⟨[],[]⟩))))))))
 (.next ⟨[(14,(aG bQ (pi 1)))],[]⟩))
 (.exit 0 ⟨[(15,rv)],[]⟩))
def HP (b:Nat→PC):PT:=
 (.ite (ak pY NT)
 (.blockS ⟨[],[]⟩ 3 [2,6,71,72,73,74,75,76,77,78,79,80,84,85,91,92,96] [6]
 (.chk (aq wI pY)
 (.call ⟨[],[(6,(.setc z3 0 (pn wI pY)))]⟩ [] 78 135 [(pc (.setc z3 0 (pn wI pY)) 0),pP]
 (.ite (.pick (.pick (.pick (.nt r78) pT (ak (pc o6 1) (pi 0))) pT (aR (pc o6 1) (pc o6 2))) pT (aR (pc o6 2) (pi 100000)))
 (.ret (pi 1))
 (.next ⟨[],[]⟩))))
 (.next ⟨[(69,(aG pY (pi 1)))],[]⟩))
 (.exit 2 ⟨[(70,(ak pY NT))],[]⟩))
def Zm (b:Nat→PC):PT:=
 (.ite (aR (.llen C1) (pi 100))
 (.ret (pi 6))
 (.brk ⟨[(14,(pi 0)),(13,(.llen C1)),(12,C1),(2,(pi 0))],[(1,(.mk [r0]))]⟩
(auU b)
 (.ite (aR zB (pi 20))
 (.ret (pi 6))
 (.brk ⟨[(69,(pi 0)),(68,zB),(67,(pc o1 7))],[]⟩
(auV b)
 (.ret (pi 0))))))
def apw (b:Nat→PC):PT×List (Shp×PT):=(Zm b,[(.lp 0 [2,14,15] [] [2,14] [],HO b),(.lp 2 [2,69,70] [] [2,69] [],HP b)])
theorem MX:Bi.map told=some (apw (bq Bi)):=by kernel_rfl
theorem aAV:tree (ab Bi)=Zm Eh:=bG MX
theorem Wy:round 0 [2,14,15] [] [2,14] [] (Eh 0)=HO Eh:=bf MX 0 fun _=>rfl
theorem Wz:round 2 [2,69,70] [] [2,69] [] (Eh 1)=HP Eh:=bf MX 1 fun _=>rfl
def KG:Option PC:=cF [4] [] Tryz.f104 104 [2]
def ZJ:PT:=
 (.ret (.pick (bk r1 (pi 0)) (ak r1 (.llen iZ)) pF))
theorem ahG:KG.map told=some (ZJ,[]):=by kernel_rfl
theorem aBj:tree (ab KG)=ZJ:=aQ ahG
def KH:Option PC:=cF [2] [] Tryz.f105 105 []
def ZK:PT:=
 (.ret (.pick (bk r0 (pi 0)) (bI r0 (pi 100000)) pF))
theorem ahH:KH.map told=some (ZK,[]):=by kernel_rfl
theorem aBk:tree (ab KH)=ZK:=aQ ahH
def KF:Option PC:=cF [2] [] Tryz.f106 106 [1]
def ZI:PT:=
 (.ret (.pick (peq gw (pi 0)) pT (peq gw (pi 1))))
theorem ahD:KF.map told=some (ZI,[]):=by kernel_rfl
theorem aBi:tree (ab KF)=ZI:=aQ ahD
def EE:Option PC:=cF [6,7,13,16,24,33,8,9] [] Tryz.f107 107 [3,4]
def w6:PT:=
 (.blockS ⟨[(12,(pc (.mk [r1]) 5))],[(4,(.mk [r1])),(3,(.mk [r0]))]⟩ 0 [6,7,13,14,16,17,24,25,33,34] []
 (.iteS ⟨[],[]⟩ (peq bY (pi 0)) [6,7,16,17,24,25,33,34] []
 (.ret (.tup [r2,(pi 0)]))
 (.iteS ⟨[],[]⟩ (peq bY (pi 1)) [6,7,24,25,33,34] []
 (.call ⟨[],[]⟩ [] 21 146 [r2,(.mk [(pc o4 5),(pc o4 6),(pc o4 7)])]
 (.ret (.tup [(.tget gY 0),(.tget gY 1)])))
 (.iteS ⟨[],[]⟩ (peq bY (pi 2)) [6,7,33,34] []
 (.call ⟨[],[]⟩ [] 30 146 [(pc o4 8),(.mk [(pc o4 5),(pc o4 6),(pc o4 7)])]
 (.ret (.tup [(.tget oz 0),(.tget oz 1)])))
 (.iteS ⟨[],[]⟩ (peq bY (pi 4)) [6,7] []
 (.call ⟨[],[]⟩ [] 41 97 [(az 8 o3),(pc o4 9),(pc o4 10)]
 (.ret (.tup [(aG (pc o4 8) (.tget rA 0)),(.tget rA 1)])))
 (.next ⟨[],[]⟩)
 (.next ⟨[],[]⟩))
 (.next ⟨[],[]⟩))
 (.next ⟨[],[]⟩))
 (.next ⟨[],[]⟩))
 (.ret (.tup [(pc o4 6),(pi 0)])))
theorem ahF:EE.map told=some (w6,[]):=by kernel_rfl
theorem DD:tree (ab EE)=w6:=aQ ahF
def ED:Option PC:=cF [4,5] [] Tryz.f146 146 [3]
def DC:PT:=
 (.ite (.pick (ak (pc (.mk [r1]) 1) (pi 0)) pT (aR (pc (.mk [r1]) 1) (pi 20000)))
 (.ret (.tup [(pi 0),(pi 3)]))
 (.iteS ⟨[],[(3,(.mk [r1]))]⟩ (peq (pc (.mk [r1]) 2) (pi 1)) [4,5] []
 (.call ⟨[],[]⟩ [] 20 183 [r0,(pc o3 1)]
 (.ret (.tup [(.tget fm 0),(.tget fm 1)])))
 (.next ⟨[],[]⟩)
 (.ret (.tup [(aG r0 (pc o3 1)),(pi 0)]))))
theorem ahE:ED.map told=some (DC,[]):=by kernel_rfl
theorem Pg:tree (ab ED)=DC:=aQ ahE
def Ew:Option PC:=cF [4,5,6,7,8,9] [] Tryz.f183 183 []
def O7:PT:=
 (.call ⟨[],[]⟩ [] 11 184 [r0]
 (.ite (.pick (.pick (.nt bJ) pT (ak r1 (pi (-5000)))) pT (aR r1 (pi 5000)))
 (.ret (.tup [(pi 0),(pi 3)]))
 (.call ⟨[],[]⟩ [] 23 203 [r0]
 (.chk (aF (pi 12) (pi 0))
 (.call ⟨[(41,(.tget gy 2)),(40,(aG (.ai .rem .i64 NH (pi 12)) (pi 1))),(39,(.ai .quo .i64 NH (pi 12)))],[]⟩ [] 44 205 [(.ai .quo .i64 NH (pi 12)),(aG (.ai .rem .i64 NH (pi 12)) (pi 1))]
 (.call ⟨[],[]⟩ [] 46 204 [pW,pX,(.mn rA th)]
 (.ret (.tup [(.tget zJ 0),(.tget zJ 1)]))))))))
theorem agx:Ew.map told=some (O7,[]):=by kernel_rfl
theorem akd:tree (ab Ew)=O7:=aQ agx
def JJ:Option PC:=cF [2] [] Tryz.f184 184 []
def XR:PT:=
 (.ret (.pick (bI (pi 0) r0) (bI r0 (pi 100000)) pF))
theorem agF:JJ.map told=some (XR,[]):=by kernel_rfl
theorem azu:tree (ab JJ)=XR:=aQ agF
def JF:Option PC:=cF [2,3,4,5,6,7,8,9] [] Tryz.f203 203 []
def XN:PT:=
 (.chk (aF (pi 146097) (pi 0))
 (.chk (aF (pi 1460) (pi 0))
 (.chk (aF (pi 36524) (pi 0))
 (.chk (aF (pi 146096) (pi 0))
 (.chk (aF (pi 365) (pi 0))
 (.chk (aF (pi 4) (pi 0))
 (.chk CZ
 (.chk (aF (pi 153) (pi 0))
 (.chk (aF (pi 5) (pi 0))
 (.ret (.tup [(.pick (ak aiu (pi 3)) (aG aiy (pi 1)) aiy),aiu,(aG (bm (bm (.ai .rem .i64 (aG r0 (pi 730425)) (pi 146097)) (bm (aG (.ai .mul .i64 (pi 365) zE) (.ai .quo .i64 zE (pi 4))) (.ai .quo .i64 zE (pi 100)))) (.ai .quo .i64 (aG (.ai .mul .i64 (pi 153) NP) (pi 2)) (pi 5))) (pi 1))])))))))))))
theorem agz:JF.map told=some (XN,[]):=by kernel_rfl
theorem azp:tree (ab JF)=XN:=aQ agz
def JH:Option PC:=cF [4] [] Tryz.f205 205 []
def O9:PT:=
 (.ite (peq r1 (pi 12))
 (.ret (pi 31))
 (.call ⟨[],[]⟩ [] 10 222 [r0,(aG r1 (pi 1)),(pi 1)]
 (.call ⟨[],[]⟩ [] 13 222 [r0,r1,(pi 1)]
 (.ret (bm cV cZ)))))
theorem agC:JH.map told=some (O9,[]):=by kernel_rfl
theorem azs:tree (ab JH)=O9:=aQ agC
def Ey:Option PC:=cF [6,0,1] [] Tryz.f222 222 []
def Pa:PT:=
 (.chk (aF (pi 4) (pi 0))
 (.chk CZ
 (.chk (aF (pi 400) (pi 0))
 (.chk (aF (pi 5) (pi 0))
 (.ret (bm (bm (aG (aG (aG (bm (aG (.ai .mul .i64 (pi 365) NO) (.ai .quo .i64 NO (pi 4))) (.ai .quo .i64 NO (pi 100))) (.ai .quo .i64 NO (pi 400))) (.ai .quo .i64 (aG (.ai .mul .i64 (pi 153) (bm (.pick (ak r1 (pi 3)) (aG r1 (pi 12)) r1) (pi 3))) (pi 2)) (pi 5))) r2) (pi 1)) (pi 730425)))))))
theorem agD:Ey.map told=some (Pa,[]):=by kernel_rfl
theorem ake:tree (ab Ey)=Pa:=aQ agD
def Ex:Option PC:=cF [6,7,8] [] Tryz.f204 204 []
def DA:PT:=
 (.call ⟨[(28,r2),(27,(.pick (.pick (.pick (.pick (ak r0 (pi 2000)) pT (aR r0 (pi 2300))) pT (ak r1 (pi 1))) pT (aR r1 (pi 12))) pT (ak r2 (pi 1))))],[]⟩ [(27,false)] 31 205 [r0,r1]
 (.ite (.pick dD pT (aR pR pS))
 (.ret (.tup [(pi 0),(pi 3)]))
 (.call ⟨[],[]⟩ [] 37 222 [r0,r1,r2]
 (.call ⟨[(8,l0)],[]⟩ [] 39 184 [l0]
 (.ite (.nt pW)
 (.ret (.tup [(pi 0),(pi 3)]))
 (.ret (.tup [r8,(pi 0)])))))))
theorem agy:Ex.map told=some (DA,[]):=by kernel_rfl
theorem O8:tree (ab Ex)=DA:=aQ agy
def Bc:Option PC:=cF [6,7] [] Tryz.f97 97 [3,9]
def QB:Nat→PC:=bo Bc
def auL (b:Nat→PC):PC:=.block 0 [6,7,13,14] [] (.loop [6,7,13] [] (b 0))
def HG (b:Nat→PC):PT:=
 (.ite (ak cZ bY)
 (.chk (aq bJ cZ)
 (.ite (.pick (peq (pc (.setc z3 0 (pn bJ cZ)) 0) r1) (peq (pc (.setc z3 0 (pn bJ cZ)) 1) r2) pF)
 (.ret (.tup [(pc (.setc z3 0 (pn bJ cZ)) 2),(pi 0)]))
 (.next ⟨[(13,(aG cZ (pi 1)))],[]⟩)))
 (.exit 0 ⟨[(14,(ak cZ bY))],[]⟩))
def Ze (b:Nat→PC):PT:=
 (.brk ⟨[(13,(pi 0)),(12,(.llen wF)),(11,wF),(7,(pi 0)),(6,(pi 0))],[]⟩
(auL b)
 (.ret (.tup [(pi 0),(pi 4)])))
def apq (b:Nat→PC):PT×List (Shp×PT):=(Ze b,[(.lp 0 [6,7,13,14] [] [6,7,13] [],HG b)])
theorem UM:Bc.map told=some (apq (bq Bc)):=by kernel_rfl
theorem aAN:tree (ab Bc)=Ze QB:=bG UM
theorem Wt:round 0 [6,7,13,14] [] [6,7,13] [] (QB 0)=HG QB:=bf UM 0 fun _=>rfl
def Bx:Option PC:=cF [6,7,8,2,9,10] [] Tryz.f108 108 [3]
def QO:Nat→PC:=bo Bx
def ave (b:Nat→PC):PC:=.block 0 [] [] (.loop [2,6,7] [] (b 0))
def WR (b:Nat→PC):PT:=
 (.blockS ⟨[],[]⟩ 1 [2,6,7,9,10,14,15,16,17,18,19,20,21,22,23,24,25,26,27,28,29,30,31,32,34] []
 (.call ⟨[],[]⟩ [] 17 148 [(az 8 o3),r8,r2]
 (.chk (aq (pc o3 1) r1)
 (.call ⟨[(2,dB)],[]⟩ [] 25 149 [(pn (pc o3 1) r1),dB]
 (.ite (aF (.tget jQ 1) (pi 0))
 (.ret (.tup [(pi 0),(pi 3)]))
 (.ite (peq (.tget jQ 0) r2)
 (.ret (.tup [r2,(pi 0)]))
 (.next ⟨[(2,(.tget jQ 0))],[]⟩))))))
 (.next ⟨[],[]⟩))
def ZL (b:Nat→PC):PT:=
 (.call ⟨[(7,(pi 0)),(6,(pi 0))],[(3,(.mk [r0]))]⟩ [] 13 147 [jP,r1]
 (.brk ⟨[(8,cZ)],[]⟩
(ave b)
 (.next ⟨[],[]⟩)))
def apL (b:Nat→PC):PT×List (Shp×PT):=(ZL b,[(.lp 0 [] [] [2,6,7] [],WR b)])
theorem U0:Bx.map told=some (apL (bq Bx)):=by kernel_rfl
theorem aBl:tree (ab Bx)=ZL QO:=bG U0
theorem axC:round 0 [] [] [2,6,7] [] (QO 0)=WR QO:=bf U0 0 fun _=>rfl
def By:Option PC:=cF [6,7,2] [] Tryz.f148 148 [3,9]
def Em:Nat→PC:=bo By
def avf (b:Nat→PC):PC:=.block 2 [2,7,14,15] [] (.loop [2,7,14] [] (b 0))
def avg (b:Nat→PC):PC:=.block 0 [2,7,10] [] (.loop [2,7] [] (b 1))
def Dk (b:Nat→PC):PT:=
 (.ite rv
 (.chk (aq bY bQ)
 (.next ⟨[(2,(.pick aix (aG (pc C7 2) (pi 1)) r2)),(7,(.pick aix pT r7)),(14,(aG bQ (pi 1)))],[]⟩))
 (.exit 2 ⟨[(15,rv)],[]⟩))
def Oo (b:Nat→PC):PT:=
 (.ite r7
 (.blockS ⟨[(10,r7)],[]⟩ 1 [2,7,11,12,13,14,15] []
 (.brk ⟨[(14,(pi 0)),(13,(.llen (pc o3 7))),(12,(pc o3 7)),(7,pF)],[]⟩
(avf b)
 (.next ⟨[],[]⟩))
 (.next ⟨[],[]⟩))
 (.exit 0 ⟨[(10,r7)],[]⟩))
def ZM (b:Nat→PC):PT:=
 (.brk ⟨[(7,pT)],[(3,(.mk [r0]))]⟩
(avg b)
 (.ret r2))
def apM (b:Nat→PC):PT×List (Shp×PT):=(ZM b,[(.lp 2 [2,7,14,15] [] [2,7,14] [],Dk b),(.lp 0 [2,7,10] [] [2,7] [],Oo b)])
theorem M2:By.map told=some (apM (bq By)):=by kernel_rfl
theorem aBm:tree (ab By)=ZM Em:=bG M2
theorem On:round 2 [2,7,14,15] [] [2,7,14] [] (Em 0)=Dk Em:=bf M2 0 fun _=>rfl
theorem aju:round 0 [2,7,10] [] [2,7] [] (Em 1)=Oo Em:=bf M2 1 fun _=>rfl
def AI:Option PC:=cF [6] [] Tryz.f149 149 [2,4,5]
def Qc:Nat→PC:=bo AI
def aoc (b:Nat→PC):PC:=.each cv [16] [4,5] (some (.tup [(pc o4 0),(pc o5 0)])) (b 0)
def V4 (b:Nat→PC):PT:=
 (.exit 1000000007 ⟨[],[(4,(.setc o4 0 bT)),(5,(.setc o5 0 (pi 0)))]⟩)
def XM (b:Nat→PC):PT:=
 (.call ⟨[],[(5,GP),(4,GP),(2,(.mk [r0]))]⟩ [] 8 184 [r1]
 (.ite (.nt r8)
 (.ret (.tup [(pc (.setc o4 0 (pi 0)) 0),(pc (.setc o5 0 (pi 3)) 0)]))
 (.call ⟨[],[]⟩ [] 15 185 [(az 6 o2),r1,(.mn (aG r1 (pi 400)) (pi 100000))]
 (.blockS ⟨[],[]⟩ 0 [] [4,5]
 (.callc ⟨[],[]⟩ [] 18 cn []
 (.brk ⟨[],[]⟩
(aoc b)
 (.next ⟨[],[]⟩)))
 (.ret (.tup [(pc (.setc o4 0 (pi 0)) 0),(pc (.setc o5 0 (pi 3)) 0)]))))))
def aoS (b:Nat→PC):PT×List (Shp×PT):=(XM b,[(.ea [4,5],V4 b)])
theorem Un:AI.map told=some (aoS (bq AI)):=by kernel_rfl
theorem azo:tree (ab AI)=XM Qc:=bG Un
theorem axx:rG [4,5] (Qc 0)=V4 Qc:=Xt Un 0 fun _=>rfl
def JG:Option PC:=cF [6] [] Tryz.f185 185 [3,4,5]
def XO:PT:=
 (.ret (.clo 206 [(.ref (pc (.mk [r1]) 0)),(.ref (pc (.mk [r2]) 0)),(.ref (az 6 (.mk [r0])))]))
theorem agA:JG.map told=some (XO,[]):=by kernel_rfl
theorem azr:tree (ab JG)=XO:=aQ agA
def ub:Option PC:=EG {ctx with fr:=[5],nh:=[]} Tryz.f206 [(.ref I),(.ref I),(.ref Y0)] [I] 1000 [1000]
def Qd:Nat→PC:=bo ub
def at4 (b:Nat→PC):PC:=.block 0 [5,7,8,9] [1000] (.loop [5] [1000] (b 0))
def NY (b:Nat→PC):PT:=
 (.ite (bI r5 (.deref r2))
 (.blockS ⟨[],[]⟩ 1 [12,13,14,15,20] [1000]
 (.call ⟨[],[]⟩ [] 14 207 [(.deref r3),r5]
 (.call ⟨[(15,bQ)],[(1000,ait)]⟩ [(15,true)] 18 1000000009 [ait]
 (.ite (.pick cn (.nt cv) pF)
 (.ret (.o 1000))
 (.next ⟨[],[]⟩))))
 (.next ⟨[(5,zC)],[]⟩))
 (.exit 0 ⟨[(7,r5),(8,(.deref r2)),(9,(bI r5 (.deref r2)))],[]⟩))
def XP (b:Nat→PC):PT:=
 (.brk ⟨[(5,(.deref r1))],[]⟩
(at4 b)
 (.ret (.o 1000)))
def aoT (b:Nat→PC):PT×List (Shp×PT):=(XP b,[(.lp 0 [5,7,8,9] [1000] [5] [1000],NY b)])
theorem Uo:ub.map told=some (aoT (bq ub)):=by kernel_rfl
theorem azq:tree (ab ub)=XP Qd:=bG Uo
theorem aja:round 0 [5,7,8,9] [1000] [5] [1000] (Qd 0)=NY Qd:=bf Uo 0 fun _=>rfl
theorem amv:∀yv,EG {ctx with fr:=[5],nh:=[],yv:=yv} Tryz.f206 [(.ref I),(.ref I),(.ref Y0)] [I] 1000 [1000]=some (ab ub):=fun yv=>(show _=ub by kernel_rfl).trans (ar ub Uo)
def JI:Option PC:=cF [4,5,6,7] [] Tryz.f207 207 [2]
def XQ:PT:=
 (.call ⟨[],[(2,(.mk [r0]))]⟩ [] 10 203 [r1]
 (.chk (aF (pi 7) (pi 0))
 (.call ⟨[(7,(.tget cV 2)),(6,(.tget cV 1))],[]⟩ [] 19 176 [(pc o2 3),(.ai .rem .i64 (aG r1 (pi 5)) (pi 7))]
 (.call ⟨[(21,(.nt dC))],[]⟩ [(21,true)] 28 176 [(pc o2 4),(aG (.ai .mul .i64 (pi 100) r6) r7)]
 (.call ⟨[(31,(.pick gY (.nt pR) pF))],[]⟩ [(31,true)] 35 176 [(pc o2 5),r1]
 (.ret (.pick pS (.nt pV) pF)))))))
theorem agE:JI.map told=some (XQ,[]):=by kernel_rfl
theorem azt:tree (ab JI)=XQ:=aQ agE
def Jz:Option PC:=cF [] [] Tryz.f39 39 [2,4,5,6,43]
def XF:PT:=
 (.chk (aq (pc (.mk [r0]) 25) r1)
 (.call ⟨[],[(6,(.setc C3 0 (.mk [r1,(pc GX 0),(pc GX 2),(pi 0),(pi 0),(pi 0),(.pick (aF (pc GX 0) (pi 1)) (peq (.ai .and .i64 (pc GX 8) (pi 1)) (pi 0)) pF)]))),(5,GX),(4,C3),(2,(.mk [r0]))]⟩ [] 33 79 [VH,r1,(pc (.mk [r0]) 9)]
 (.iteS ⟨[],[]⟩ (.nt rz) [] [6]
 (.call ⟨[(36,(pc o2 29))],[]⟩ [] 39 81 [(az 31 o2),(pi 1),r1]
 (.call ⟨[],[]⟩ [] 42 81 [(az 31 o2),(pi 2),r1]
 (.call ⟨[],[]⟩ [] 44 80 [(.lst [jR,pW,r42])]
 (.next ⟨[],[(6,(.setc o6 3 th))]⟩))))
 (.next ⟨[],[]⟩)
 (.call ⟨[],[]⟩ [] 49 82 [(az 31 o2),r1]
 (.ret (az 7 (.setc o4 0 (az 7 (.pick (.pick (peq (pc o5 0) (pi 1)) pT (peq (pc o5 0) (pi 4))) (.setc Vz 5 (.mn (pc Vz 5) (pc o5 5))) Vz)))))))))
theorem agr:Jz.map told=some (XF,[]):=by kernel_rfl
theorem azg:tree (ab Jz)=XF:=aQ agr
def KT:Option PC:=cF [6] [] Tryz.f79 79 [3]
def ZZ:PT:=
 (.call ⟨[(16,(.pick (bk r1 (pi 0)) (ak r1 (.llen rp)) pF))],[]⟩ [(16,true)] 19 124 [(az 19 (.mk [r0])),r2]
 (.ret (.pick bT (.look dC r1 pF) pF)))
theorem ahT:KT.map told=some (ZZ,[]):=by kernel_rfl
theorem aBA:tree (ab KT)=ZZ:=aQ ahT
def BB:Option PC:=cF [4] [] Tryz.f124 124 [2,5,7]
def QS:Nat→PC:=bo BB
def avl (b:Nat→PC):PC:=.block 0 [12,13] [5] (.loop [12] [5] (b 0))
def H9 (b:Nat→PC):PT:=
 (.ite wC
 (.chk (aq cV bY)
 (.ite (.pick (peq (pc (.setc z9 0 pQ) 0) (pi 7)) (bI (pc (.setc z9 0 pQ) 6) r1) pF)
 (.chk (ak (.mlen o5) cU)
 (.next ⟨[(12,zz)],[(5,(.put o5 (pc (.setc z9 0 pQ) 4) pT))]⟩))
 (.next ⟨[(12,zz)],[]⟩)))
 (.exit 0 ⟨[(13,wC)],[]⟩))
def Z0 (b:Nat→PC):PT:=
 (.brk ⟨[(12,(pi 0)),(11,(.llen (pc (.mk [r0]) 17))),(10,(pc (.mk [r0]) 17)),(5,pN)],[(5,(.con (.map [])))]⟩
(avl b)
 (.ret o5))
def apQ (b:Nat→PC):PT×List (Shp×PT):=(Z0 b,[(.lp 0 [12,13] [5] [12] [5],H9 b)])
theorem U3:BB.map told=some (apQ (bq BB)):=by kernel_rfl
theorem aBB:tree (ab BB)=Z0 QS:=bG U3
theorem WW:round 0 [12,13] [5] [12] [5] (QS 0)=H9 QS:=bf U3 0 fun _=>rfl
def JA:Option PC:=cF [6] [] Tryz.f81 81 [3,7]
def XG:PT:=
 (.call ⟨[],[]⟩ [] 23 103 [jP,(pc (.mk [r0]) 8),r1,(az 24 (.setc aiF 0 (.mk [VH,r2,r2,(pi (-1)),(pc (.mk [r0]) 30),(pc (.mk [r0]) 9)])))]
 (.call ⟨[],[]⟩ [] 24 78 [gy]
 (.ret oy)))
theorem ags:JA.map told=some (XG,[]):=by kernel_rfl
theorem azh:tree (ab JA)=XG:=aQ ags
def AF:Option PC:=cF [2,3,5,12,15] [] Tryz.f80 80 []
def Qa:Nat→PC:=bo AF
def at2 (b:Nat→PC):PC:=.block 0 [2,3,8,9] [] (.loop [2,3,8] [] (b 0))
def Hc (b:Nat→PC):PT:=
 (.ite (ak r8 r7)
 (.chk (aq r6 r8)
 (.ite (peq (pn r6 r8) (pi 0))
 (.ret (pi 0))
 (.next ⟨[(3,(.pick (peq (pn r6 r8) (pi 2)) (pi 2) r3)),(8,uU)],[]⟩)))
 (.exit 0 ⟨[(9,(ak r8 r7))],[]⟩))
def XD (b:Nat→PC):PT:=
 (.brk ⟨[(8,(pi 0)),(7,(.llen r0)),(6,r0),(3,(pi 1)),(2,(pi 0))],[]⟩
(at2 b)
 (.ret r3))
def aoP (b:Nat→PC):PT×List (Shp×PT):=(XD b,[(.lp 0 [2,3,8,9] [] [2,3,8] [],Hc b)])
theorem Ul:AF.map told=some (aoP (bq AF)):=by kernel_rfl
theorem aze:tree (ab AF)=XD Qa:=bG Ul
theorem V0:round 0 [2,3,8,9] [] [2,3,8] [] (Qa 0)=Hc Qa:=bf Ul 0 fun _=>rfl
def AG:Option PC:=cF [4,5,6,7,10,50,54] [] Tryz.f82 82 [2,9]
def Qb:Nat→PC:=bo AG
def at3 (b:Nat→PC):PC:=.block 0 [7,23,24] [] (.loop [7,23] [] (b 0))
def Hd (b:Nat→PC):PT:=
 (.ite (ak gy mW)
 (.chk (aq gY gy)
 (.next ⟨[(7,(.pick r7 pT (aR (pc (.setc z2 0 (pn gY gy)) 0) r1))),(23,(aG gy (pi 1)))],[]⟩))
 (.exit 0 ⟨[(24,(ak gy mW))],[]⟩))
def XH (b:Nat→PC):PT:=
 (.call ⟨[(5,(pi 0))],[(2,(.mk [r0]))]⟩ [] 14 125 [VH,r1]
 (.brk ⟨[(23,(pi 0)),(22,(.llen (pc o2 26))),(21,(pc o2 26)),(7,pF),(6,(.llen (pc o2 26))),(5,bQ)],[]⟩
(at3 b)
 (.ite (.nt r7)
 (.ret (.tup [(pi 0),r5]))
 (.chk (aq (pc o2 26) (bm r6 (pi 1)))
 (.call ⟨[(10,(pc (pn (pc o2 26) (bm r6 (pi 1))) 1))],[]⟩ [] 48 81 [(az 31 o2),(pi 4),r1]
 (.ite (peq jS (pi 1))
 (.ret (.tup [jS,cV]))
 (.ite (peq jS (pi 2))
 (.ret (.tup [jS,(.mn r5 cV)]))
 (.ret (.tup [jS,r5])))))))))
def aoQ (b:Nat→PC):PT×List (Shp×PT):=(XH b,[(.lp 0 [7,23,24] [] [7,23] [],Hd b)])
theorem Um:AG.map told=some (aoQ (bq AG)):=by kernel_rfl
theorem azi:tree (ab AG)=XH Qb:=bG Um
theorem V1:round 0 [7,23,24] [] [7,23] [] (Qb 0)=Hd Qb:=bf Um 0 fun _=>rfl
def AO:Option PC:=cF [4,5] [] Tryz.f125 125 [2,7]
def Qi:Nat→PC:=bo AO
def auf (b:Nat→PC):PC:=.block 0 [5,14,15] [] (.loop [5,14] [] (b 0))
def N2 (b:Nat→PC):PT:=
 (.ite rv
 (.chk (aq bY bQ)
 (.next ⟨[(5,(.pick (bI (pc (.setc z2 0 (pn bY bQ)) 0) r1) (pc (.setc z2 0 (pn bY bQ)) 1) r5)),(14,(aG bQ (pi 1)))],[]⟩))
 (.exit 0 ⟨[(15,rv)],[]⟩))
def Yc (b:Nat→PC):PT:=
 (.brk ⟨[(14,(pi 0)),(13,(.llen (pc (.mk [r0]) 16))),(12,(pc (.mk [r0]) 16)),(5,(pc (.mk [r0]) 3))],[]⟩
(auf b)
 (.ret r5))
def ao0 (b:Nat→PC):PT×List (Shp×PT):=(Yc b,[(.lp 0 [5,14,15] [] [5,14] [],N2 b)])
theorem Ut:AO.map told=some (ao0 (bq AO)):=by kernel_rfl
theorem azQ:tree (ab AO)=Yc Qi:=bG Ut
theorem aje:round 0 [5,14,15] [] [5,14] [] (Qi 0)=N2 Qi:=bf Ut 0 fun _=>rfl
def Q8:Option PC:=cF [2] [] Tryz.f70 70 [1]
def az9:PT:=
 (.ret (.pick (aF (pc (.mk [r0]) 3) (pi 1)) pT (.pick (aF iZ (pi 1)) (.nt C1) pF)))
theorem avR:Q8.map told=some (az9,[]):=by kernel_rfl
def Q6:Option PC:=cF [4] [] Tryz.f35 35 [2,3]
def az3:PT:=
 (.ret (bm wF (pc (.mk [r1]) 5)))
theorem avP:Q6.map told=some (az3,[]):=by kernel_rfl
end Rm
