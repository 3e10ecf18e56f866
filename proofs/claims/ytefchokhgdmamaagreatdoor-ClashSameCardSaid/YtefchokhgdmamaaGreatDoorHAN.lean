/-
  The functions of this seat, compiled (2).
-/
import Derived.Test.YtefchokhgdmamaaGreatDoorHAJ
import Derived.KernelRfl
set_option linter.unusedVariables false
set_option maxRecDepth 100000
noncomputable section
namespace Rm
open Go Go.Proofs Cx
def FV:Option PC:=cF [5,6] [] Tryz.f133 133 [2,4]
def Rl:PT:=
 (.chk (.nt (.an (.an (.nt (dD r1 (.llen pk))) pT) (.nt (aB pk r1))))
 (.ite (.pick (dD r1 (.llen pk)) pT (.nt (pc (pn pk r1) 0)))
 (.ret (.mk [(pc (.setc fY 0 wG) 0),(pc (.setc fY 0 wG) 1)]))
 (.call ⟨[],[(4,fY),(2,(.mk [r0]))]⟩ [] 24 144 [r1]
 (.iteS ⟨[],[]⟩ (ar (.tget nV 0) (pi 1)) [] [4]
 (.chk (aB (pc o2 0) r1)
 (.call ⟨[],[]⟩ [] 36 145 [(bC (pc (pn (pc o2 0) r1) 1) (pi 0))]
 (.ret (.mk [(pc (.setc o4 0 se) 0),(pc (.setc o4 0 se) 1)]))))
 (.next ⟨[],[]⟩)
 (.chk (aB (pc o2 0) r1)
 (.call ⟨[],[]⟩ [] 43 146 [(pc (pn (pc o2 0) r1) 1)]
 (.ret (.mk [(pc (.setc o4 0 (.mk [pT,ud])) 0),(pc (.setc o4 0 (.mk [pT,ud])) 1)]))))))))
theorem XN:FV.map told=some (Rl,[]):=by kernel_rfl
theorem anQ:tree (ah FV)=Rl:=bA XN
def FY:Option PC:=cF [] [] Tryz.f145 145 [2]
def Ro:PT:=
 (.ite r0
 (.ret (.mk [(pc Iq 0),(pc Iq 1)]))
 (.ret (.mk [(pc Ir 0),(pc Ir 1)])))
theorem XQ:FY.map told=some (Ro,[]):=by kernel_rfl
theorem anT:tree (ah FY)=Ro:=bA XQ
def FQ:Option PC:=cF [9,22,41,6,7,82,88,94] [] Tryz.f134 134 [4,5]
def Ri:PT:=
 (.blockS ⟨[(8,r0)],[(4,fY)]⟩ 0 [9,10,22,23] [4]
 (.iteS ⟨[],[]⟩ (ar r8 (pi 3)) [22,23] [4]
 (.chk (aB r1 (pi 0))
 (.iteS ⟨[],[]⟩ (pc (pn r1 (pi 0)) 0) [] [4]
 (.chk (aB r1 (pi 0))
 (.call ⟨[],[]⟩ [] 20 145 [(ar (pc (pn r1 (pi 0)) 1) (pi 0))]
 (.ret (.mk [(pc (.setc o4 0 gX) 0),(pc (.setc o4 0 gX) 1)]))))
 (.next ⟨[],[]⟩)
 (.ret Dc)))
 (.iteS ⟨[],[]⟩ (.pick (ar r8 (pi 4)) (ar r8 (pi 4)) (ar r8 (pi 5))) [] [4]
 (.call ⟨[],[]⟩ [] 27 145 [(ar r0 (pi 5))]
 (.chk (aB r1 (pi 0))
 (.chk (.nt (.an (.an (.nt Yp) pT) (.nt (aB r1 (pi 1)))))
 (.ite (.pick Yp pT (.an (.cb .eql (pc po 0) (pc zF 0)) (.an (ar (pc po 1) (pc zF 1)) pT)))
 (.ret (.mk [(pc (.setc o4 0 zF) 0),(pc (.setc o4 0 zF) 1)]))
 (.next ⟨[],[]⟩)))))
 (.ite (ar r8 (pi 6))
 (.chk (aB r1 (pi 1))
 (.chk (.nt (.an (.an (pc po 0) pT) (.nt (aB r1 (pi 1)))))
 (.chk (.nt (.an (.an (pc po 0) pT) (.nt (aB r1 (pi 2)))))
 (.ite (.pick (pc po 0) (.an (.cb .eql (pc po 0) (pc (pn r1 (pi 2)) 0)) (.an (ar (pc po 1) (pc (pn r1 (pi 2)) 1)) pT)) pF)
 (.ret (.mk [(pc (.setc o4 0 po) 0),(pc (.setc o4 0 po) 1)]))
 (.ret Dc)))))
 (.next ⟨[],[]⟩))
 (.next ⟨[],[]⟩))
 (.next ⟨[],[]⟩))
 (.chk (aB r1 (pi 0))
 (.chk (.nt (.an (.an (.nt (.nt (pc (pn r1 (pi 0)) 0))) pT) (.nt (aB r1 (pi 1)))))
 (.ite (.pick (.nt (pc (pn r1 (pi 0)) 0)) pT (.nt (pc po 0)))
 (.ret Dc)
 (.chk (aB r1 (pi 1))
 (.blockS ⟨[(81,r0),(7,(pc po 1)),(6,(pc (pn r1 (pi 0)) 1))],[]⟩ 1 [82,83,88,89,94,95] [4]
 (.iteS ⟨[],[]⟩ (.pick (ar uj (pi 4)) (ar uj (pi 4)) (ar uj (pi 5))) [88,89,94,95] [4]
 (.call ⟨[],[]⟩ [] 87 145 [(ar r0 (pi 4))]
 (.ret (.mk [(pc (.setc o4 0 YK) 0),(pc (.setc o4 0 YK) 1)])))
 (.iteS ⟨[],[]⟩ (ar uj (pi 7)) [94,95] [4]
 (.call ⟨[],[]⟩ [] 93 145 [(ak r6 r7)]
 (.ret (.mk [(pc (.setc o4 0 OP) 0),(pc (.setc o4 0 OP) 1)])))
 (.iteS ⟨[],[]⟩ (ar uj (pi 8)) [] [4]
 (.call ⟨[],[]⟩ [] 99 145 [(ar r6 r7)]
 (.ret (.mk [(pc (.setc o4 0 YM) 0),(pc (.setc o4 0 YM) 1)])))
 (.next ⟨[],[]⟩)
 (.next ⟨[],[]⟩))
 (.next ⟨[],[]⟩))
 (.next ⟨[],[]⟩))
 (.call ⟨[],[]⟩ [] 103 147 [r0,r6,r7]
 (.ret (.mk [(pc (.setc o4 0 (.mk [pT,YA])) 0),(pc (.setc o4 0 (.mk [pT,YA])) 1)])))))))))
theorem XK:FQ.map told=some (Ri,[]):=by kernel_rfl
theorem anM:tree (ah FQ)=Ri:=bA XK
def FP:Option PC:=cF [6,8,14,20,25] [] Tryz.f147 147 []
def Rg:PT:=
 (.blockS ⟨[(7,r0)],[]⟩ 0 [6,8,9,14,15,20,21,25,26] []
 (.iteS ⟨[],[]⟩ (ar r7 (pi 9)) [6,14,15,20,21,25,26] []
 (.call ⟨[],[]⟩ [] 13 146 [(bB r1 r2)]
 (.ret eC))
 (.iteS ⟨[],[]⟩ (ar r7 (pi 10)) [6,20,21,25,26] []
 (.call ⟨[],[]⟩ [] 19 146 [(cJ r1 r2)]
 (.ret jI))
 (.iteS ⟨[],[]⟩ (ar r7 (pi 11)) [6,25,26] []
 (.call ⟨[],[]⟩ [] 24 156 [r1,r2]
 (.ret nV))
 (.ite (ar r7 (pi 12))
 (.ret (.mn r1 r2))
 (.next ⟨[],[]⟩))
 (.next ⟨[],[]⟩))
 (.next ⟨[],[]⟩))
 (.next ⟨[],[]⟩))
 (.ret (.mx r1 r2)))
theorem XJ:FP.map told=some (Rg,[]):=by kernel_rfl
theorem anK:tree (ah FP)=Rg:=bA XJ
def FW:Option PC:=cF [4,5,6,7] [] Tryz.f156 156 []
def Rm:PT:=
 (.call ⟨[],[]⟩ [] 19 157 [(.conv .u64 (.mx r0 (cJ (pi 0) r0))),(.conv .u64 (.mx r1 (cJ (pi 0) r1)))]
 (.ite (.cb .neq (ak r0 (pi 0)) (ak r1 (pi 0)))
 (.ret (cJ (pi 0) Yh))
 (.ret Yh)))
theorem XO:FW.map told=some (Rm,[]):=by kernel_rfl
theorem anR:tree (ah FW)=Rm:=bA XO
def E7:Option PC:=cF [4,5,6,7,8,9,10,11,12,13] [] Tryz.f157 157 []
def P4:PT:=
 (.chk (dD zH (pi 0))
 (.ret (.tup [(.ai .add .u64 (.ai .add .u64 (.ai .mul .u64 (.ai .shr .u64 r0 zH) (.ai .shr .u64 r1 zH)) (.ai .shr .u64 Yg zH)) (.ai .shr .u64 (.ai .add .u64 (.ai .and .u64 Yg (.con (.v (.int .u64 4294967295)))) (.ai .mul .u64 (.ai .and .u64 r0 (.con (.v (.int .u64 4294967295)))) (.ai .shr .u64 r1 zH))) zH)),(.ai .mul .u64 r0 r1)])))
theorem WX:E7.map told=some (P4,[]):=by kernel_rfl
theorem amu:tree (ah E7)=P4:=bA WX
def xP:Option PC:=cF [2,3,5,8] [] Tryz.f135 135 [6]
def AP:Nat→PC:=cd xP
def aiM (b:Nat→PC):PC:=.block 0 [3,11,12] [] (.loop [3,11] [] (b 0))
def aiN (b:Nat→PC):PC:=.block 2 [6,27,28] [6] (.loop [6,27] [6] (b 1))
def IS (b:Nat→PC):PT:=
 (.ite ub
 (.chk (aB r9 bK)
 (.ite (ak (bB r3 (.llen (pn r9 bK))) (pi 0))
 (.chk (.nt pT)
 (.chk (.nt pT)
 (.next ⟨[(3,(bB r3 (.llen (pn r9 bK)))),(11,(bB bK (pi 1)))],[]⟩)))
 (.next ⟨[(3,(bB r3 (.llen (pn r9 bK)))),(11,(bB bK (pi 1)))],[]⟩)))
 (.exit 0 ⟨[(12,ub)],[]⟩))
def IT (b:Nat→PC):PT:=
 (.ite (ak fZ pq)
 (.chk (aB mg fZ)
 (.chk (cS (.llen (.app o6 (pn mg fZ))) dx)
 (.next ⟨[(6,pN),(27,(bB fZ (pi 1)))],[(6,(.app o6 (pn mg fZ)))]⟩)))
 (.exit 2 ⟨[(28,(ak fZ pq))],[]⟩))
def Q0 (b:Nat→PC):PT:=
 (.brk ⟨[(11,(pi 0)),(10,(.llen r0)),(9,r0),(3,(pi 0))],[]⟩
(aiM b)
 (.call ⟨[],[]⟩ [] 24 148 [pL,r3]
 (.brk ⟨[(27,(pi 0)),(26,(.llen r0)),(25,r0),(6,pN)],[(6,nV)]⟩
(aiN b)
 (.ret o6))))
def aeg (b:Nat→PC):PT×List (Shp×PT):=(Q0 b,[(.lp 0 [3,11,12] [] [3,11] [],IS b),(.lp 2 [6,27,28] [6] [6,27] [6],IT b)])
theorem H4:xP.map told=some (aeg (bT xP)):=by kernel_rfl
theorem anv:tree (ah xP)=Q0 AP:=cT H4
theorem Za:round 0 [3,11,12] [] [3,11] [] (AP 0)=IS AP:=bN H4 0 fun _=>rfl
theorem Zb:round 2 [6,27,28] [6] [6,27] [6] (AP 1)=IT AP:=bN H4 1 fun _=>rfl
def vf:Option PC:=cF [4,6,8] [] Tryz.f27 27 [5,29,32]
def AI:Nat→PC:=cd vf
def aia (b:Nat→PC):PC:=.block 2 [5,23,24] [5] (.loop [5,23] [5] (b 0))
def aib (b:Nat→PC):PC:=.block 0 [5,6,13,14] [5] (.loop [5,6] [5] (b 1))
def ID (b:Nat→PC):PT:=
 (.ite (ak jk zM)
 (.chk (aB mf jk)
 (.chk (cS (.llen (.app (.lst [r6]) (pn mf jk))) dx)
 (.chk (cS (.llen (.app o5 (.lst [(.app (.lst [r6]) (pn mf jk))]))) dx)
 (.next ⟨[(5,pN),(23,(bB jk (pi 1)))],[(5,(.app o5 (.lst [(.app (.lst [r6]) (pn mf jk))])))]⟩))))
 (.exit 2 ⟨[(24,(ak jk zM))],[]⟩))
def IE (b:Nat→PC):PT:=
 (.ite (ak r6 (pi 5))
 (.blockS ⟨[(14,(ak r6 (pi 5))),(13,r6)],[]⟩ 1 [5,17,18,19,20,21,22,23,24] [5]
 (.call ⟨[],[]⟩ [] 21 27 [(cJ r0 (pi 1)),(bB r6 (pi 1))]
 (.brk ⟨[(23,(pi 0)),(22,(.llen mf))],[]⟩
(aia b)
 (.next ⟨[],[]⟩)))
 (.next ⟨[(6,(bB r6 (pi 1)))],[]⟩))
 (.exit 0 ⟨[(13,r6),(14,(ak r6 (pi 5)))],[]⟩))
def Jm (b:Nat→PC):PT:=
 (.ite (ar r0 (pi 0))
 (.ret (.lst [pL]))
 (.brk ⟨[(6,r1),(5,pN)],[(5,pL)]⟩
(aib b)
 (.ret o5)))
def adP (b:Nat→PC):PT×List (Shp×PT):=(Jm b,[(.lp 2 [5,23,24] [5] [5,23] [5],ID b),(.lp 0 [5,6,13,14] [5] [5,6] [5],IE b)])
theorem HU:vf.map told=some (adP (bT vf)):=by kernel_rfl
theorem Z5:tree (ah vf)=Jm AI:=cT HU
theorem YQ:round 2 [5,23,24] [5] [5,23] [5] (AI 0)=ID AI:=bN HU 0 fun _=>rfl
theorem YR:round 0 [5,6,13,14] [5] [5,6] [5] (AI 1)=IE AI:=bN HU 1 fun _=>rfl
def xp:Option PC:=cF [7,8] [] Tryz.f28 28 [3,6]
def J6:Nat→PC:=cd xp
def aic (b:Nat→PC):PC:=.block 0 [11,12] [3] (.loop [11] [3] (b 0))
def IF (b:Nat→PC):PT:=
 (.ite ub
 (.blockS ⟨[],[]⟩ 1 [7,8,13,14,15,16,17,18,19,20,21,22,23,24,25,26,27,28,29,30,31] [3]
 (.chk (aB r9 bK)
 (.call ⟨[(18,(pn r9 bK)),(17,(aI 19 o3)),(7,bK)],[]⟩ [] 21 61 [(aI 24 o3),(pn r9 bK)]
 (.chk (dD (cJ (cJ (.llen r1) (pi 1)) r7) (pi 0))
 (.call ⟨[],[]⟩ [] 30 16 [mY,lu,mf,(.ai .and .i64 (.ai .shr .i64 r2 (cJ (cJ (.llen r1) (pi 1)) r7)) (pi 1))]
 (.next ⟨[],[(3,(.setc o3 0 uc))]⟩)))))
 (.next ⟨[(11,(bB bK (pi 1)))],[]⟩))
 (.exit 0 ⟨[(12,ub)],[]⟩))
def P8 (b:Nat→PC):PT:=
 (.brk ⟨[(11,(pi 0)),(10,(.llen r1)),(9,r1)],[(6,zI),(3,(.mk [r0]))]⟩
(aic b)
 (.ret (aI 24 (.setc o6 0 (aI 24 o3)))))
def adQ (b:Nat→PC):PT×List (Shp×PT):=(P8 b,[(.lp 0 [11,12] [3] [11] [3],IF b)])
theorem NJ:xp.map told=some (adQ (bT xp)):=by kernel_rfl
theorem amz:tree (ah xp)=P8 J6:=cT NJ
theorem YS:round 0 [11,12] [3] [11] [3] (J6 0)=IF J6:=bN NJ 0 fun _=>rfl
def Fb:Option PC:=cF [4] [] Tryz.f61 61 [2]
def P9:PT:=
 (.ite (.pick (ar r1 (pi 3)) pT (ar r1 (pi 4)))
 (.ret (.mx (pi 0) (pc (.mk [r0]) 20)))
 (.ret (pc (.mk [r0]) 19)))
theorem W5:Fb.map told=some (P9,[]):=by kernel_rfl
theorem amA:tree (ah Fb)=P9:=bA W5
def xy:Option PC:=cF [4,5] [] Tryz.f12 12 []
def Kd:Nat→PC:=cd xy
def aim (b:Nat→PC):PC:=.block 0 [4,5,11,12,13,14] [] (.loop [4,5] [] (b 0))
def Dy (b:Nat→PC):PT:=
 (.ite (ak r5 (.llen r0))
 (.chk (aB r0 r5)
 (.chk (aB r1 r5)
 (.ite (bC (pn r0 r5) (pn r1 r5))
 (.ret pF)
 (.next ⟨[(5,(bB r5 (pi 1)))],[]⟩))))
 (.exit 0 ⟨[(11,r5),(12,r0),(13,(.llen r0)),(14,(ak r5 (.llen r0)))],[]⟩))
def Qx (b:Nat→PC):PT:=
 (.ite (bC (.llen r0) (.llen r1))
 (.ret pF)
 (.brk ⟨[(5,(pi 0)),(4,pF)],[]⟩
(aim b)
 (.ret pT)))
def adY (b:Nat→PC):PT×List (Shp×PT):=(Qx b,[(.lp 0 [4,5,11,12,13,14] [] [4,5] [],Dy b)])
theorem NQ:xy.map told=some (adY (bT xy)):=by kernel_rfl
theorem am0:tree (ah xy)=Qx Kd:=cT NQ
theorem O1:round 0 [4,5,11,12,13,14] [] [4,5] [] (Kd 0)=Dy Kd:=bN NQ 0 fun _=>rfl
def AW:Option PC:=cF [4] [] Tryz.f9 9 [2,3]
def Qi:PT:=
 (.call ⟨[],[(3,(.mk [r1])),(2,(.mk [r0]))]⟩ [] 8 24 [mX,(aI 19 (.mk [r1]))]
 (.call ⟨[(9,r8)],[]⟩ [(9,true)] 11 25 [(aI 8 o2)]
 (.call ⟨[(14,(.pick r9 (ar bK (pi 0)) pF))],[]⟩ [(14,true)] 17 26 [(aI 19 o3)]
 (.call ⟨[(19,(.pick cG mY pF))],[]⟩ [(19,true)] 23 21 [(aI 8 o2),(aI 19 o3)]
 (.ret (.pick jI (ar jk (pi 0)) pF))))))
theorem Xd:AW.map told=some (Qi,[]):=by kernel_rfl
theorem amK:tree (ah AW)=Qi:=bA Xd
def xB:Option PC:=cF [4,5] [] Tryz.f24 24 [2,3]
def Kg:Nat→PC:=cd xB
def air (b:Nat→PC):PC:=.block 0 [4,5,14,15,16,17,18] [] (.loop [4,5] [] (b 0))
def DC (b:Nat→PC):PT:=
 (.ite (ak r5 (.llen (pc o2 4)))
 (.blockS ⟨[],[]⟩ 1 [4,21,22,23,24,25,26,27] []
 (.chk (aB (pc o2 4) r5)
 (.call ⟨[],[]⟩ [] 26 49 [(pn (pc o2 4) r5)]
 (.ite (.nt pq)
 (.ret pF)
 (.next ⟨[],[]⟩))))
 (.next ⟨[(5,(bB r5 (pi 1)))],[]⟩))
 (.exit 0 ⟨[(14,r5),(15,pN),(16,(pc o2 4)),(17,(.llen (pc o2 4))),(18,(ak r5 (.llen (pc o2 4))))],[]⟩))
def QD (b:Nat→PC):PT:=
 (.call ⟨[(4,pF)],[(3,(.mk [r1])),(2,(.mk [r0]))]⟩ [] 7 47 [mX]
 (.call ⟨[(9,(.nt r7))],[]⟩ [(9,false)] 11 48 [(aI 19 o3)]
 (.ite (.pick r9 pT (.nt bK))
 (.ret pF)
 (.brk ⟨[(5,(pi 0))],[]⟩
(air b)
 (.ret pT)))))
def ad2 (b:Nat→PC):PT×List (Shp×PT):=(QD b,[(.lp 0 [4,5,14,15,16,17,18] [] [4,5] [],DC b)])
theorem NT:xB.map told=some (ad2 (bT xB)):=by kernel_rfl
theorem am6:tree (ah xB)=QD Kg:=cT NT
theorem O4:round 0 [4,5,14,15,16,17,18] [] [4,5] [] (Kg 0)=DC Kg:=bN NT 0 fun _=>rfl
def xz:Option PC:=cF [2,3,4] [] Tryz.f47 47 [1]
def AK:Nat→PC:=cd xz
def ain (b:Nat→PC):PC:=.block 0 [2,3,5,6,7,8,9,10,13] [] (.loop [2,3] [] (b 0))
def aio (b:Nat→PC):PC:=.block 2 [2,4,44,45,46,47,48,49,52] [] (.loop [2,4] [] (b 1))
def wL (b:Nat→PC):PT:=
 (.ite (.pick (ak r3 tZ) (ak r3 (pi 50)) pF)
 (.chk (aB (pc o1 1) r3)
 (.chk (.nt (.an (.an (.nt (bY (.llen (pc (pn (pc o1 1) r3) 4)) (pi 70))) pT) (.nt (aB (pc o1 1) r3))))
 (.chk (.nt (.an (.an (.nt Ym) pT) (.nt (aB (pc o1 1) r3))))
 (.ite (.pick Ym pT (bY (.llen (pc (pn (pc o1 1) r3) 3)) (pi 8)))
 (.ret pF)
 (.next ⟨[(3,(bB r3 (pi 1)))],[]⟩)))))
 (.exit 0 ⟨[(5,r3),(6,pN),(7,(pc o1 1)),(8,tZ),(9,(ak r3 tZ)),(10,(ak r3 tZ)),(13,(.pick (ak r3 tZ) (ak r3 (pi 50)) pF))],[]⟩))
def zS (b:Nat→PC):PT:=
 (.ite (.pick (ak r4 tY) (ak r4 (pi 50)) pF)
 (.chk (aB (pc o1 4) r4)
 (.chk (.nt (.an (.an (.nt (bY (.llen (pc (pn (pc o1 4) r4) 2)) (pi 40))) pT) (.nt (aB (pc o1 4) r4))))
 (.ite (.pick (bY (.llen (pc (pn (pc o1 4) r4) 2)) (pi 40)) pT (bY (.llen (pc (pn (pc o1 4) r4) 3)) (pi 40)))
 (.ret pF)
 (.next ⟨[(4,(bB r4 (pi 1)))],[]⟩))))
 (.exit 2 ⟨[(44,r4),(45,pN),(46,(pc o1 4)),(47,tY),(48,(ak r4 tY)),(49,(ak r4 tY)),(52,(.pick (ak r4 tY) (ak r4 (pi 50)) pF))],[]⟩))
def Qy (b:Nat→PC):PT:=
 (.brk ⟨[(3,(pi 0)),(2,pF)],[(1,(.mk [r0]))]⟩
(ain b)
 (.brk ⟨[(4,(pi 0))],[]⟩
(aio b)
 (.ret (.pick (.pick (.pick (.pick (.pick (.pick (.pick (ak (.llen (pc o1 0)) (pi 50)) (ak tZ (pi 50)) pF) (ak (.llen (pc o1 2)) (pi 50)) pF) (ak zL (pi 210)) pF) (ak tY (pi 50)) pF) (ak (.llen (pc o1 5)) (pi 110)) pF) (ak (.llen (pc o1 6)) (pi 110)) pF) (ak (.llen (pc o1 7)) (pi 50)) pF))))
def adZ (b:Nat→PC):PT×List (Shp×PT):=(Qy b,[(.lp 0 [2,3,5,6,7,8,9,10,13] [] [2,3] [],wL b),(.lp 2 [2,4,44,45,46,47,48,49,52] [] [2,4] [],zS b)])
theorem HY:xz.map told=some (adZ (bT xz)):=by kernel_rfl
theorem am1:tree (ah xz)=Qy AK:=cT HY
theorem Dz:round 0 [2,3,5,6,7,8,9,10,13] [] [2,3] [] (AK 0)=wL AK:=bN HY 0 fun _=>rfl
theorem IK:round 2 [2,4,44,45,46,47,48,49,52] [] [2,4] [] (AK 1)=zS AK:=bN HY 1 fun _=>rfl
def Fw:Option PC:=cF [2] [] Tryz.f48 48 [1]
def QA:PT:=
 (.ret (.pick (.pick (.pick (cS (.llen rZ) (pi 50)) (cS (.llen (pc (.mk [r0]) 16)) (pi 10)) pF) (cS (.llen (pc (.mk [r0]) 17)) (pi 110)) pF) (cS (.llen zK) (pi 220)) pF))
theorem Xq:Fw.map told=some (QA,[]):=by kernel_rfl
theorem am3:tree (ah Fw)=QA:=bA Xq
def xA:Option PC:=cF [2,3] [] Tryz.f49 49 [1]
def Kf:Nat→PC:=cd xA
def aiq (b:Nat→PC):PC:=.block 0 [2,3,14,15,16,17,18] [] (.loop [2,3] [] (b 0))
def DB (b:Nat→PC):PT:=
 (.ite (ak r3 zL)
 (.blockS ⟨[],[]⟩ 1 [2,21,22,23,24,25,26,27,28] []
 (.chk (aB (pc o1 3) r3)
 (.call ⟨[],[]⟩ [] 27 78 [(.sub (pn (pc o1 3) r3) 1 3)]
 (.ite (.nt fZ)
 (.ret pF)
 (.next ⟨[],[]⟩))))
 (.next ⟨[(3,(bB r3 (pi 1)))],[]⟩))
 (.exit 0 ⟨[(14,r3),(15,pN),(16,(pc o1 3)),(17,zL),(18,(ak r3 zL))],[]⟩))
def QC (b:Nat→PC):PT:=
 (.ite (.pick (bY (.llen (pc (.mk [r0]) 3)) (pi 60)) pT (bY qw (pi 60)))
 (.ret pF)
 (.brk ⟨[(3,(pi 0)),(2,pF)],[(1,(.mk [r0]))]⟩
(aiq b)
 (.ret pT)))
def ad1 (b:Nat→PC):PT×List (Shp×PT):=(QC b,[(.lp 0 [2,3,14,15,16,17,18] [] [2,3] [],DB b)])
theorem NS:xA.map told=some (ad1 (bT xA)):=by kernel_rfl
theorem am5:tree (ah xA)=QC Kf:=cT NS
theorem O3:round 0 [2,3,14,15,16,17,18] [] [2,3] [] (Kf 0)=DB Kf:=bN NS 0 fun _=>rfl
def Fx:Option PC:=cF [2] [] Tryz.f78 78 [1]
def QB:PT:=
 (.call ⟨[],[]⟩ [] 4 100 [(.mk [pk,tX,wF]),(pi 100),(pi 20)]
 (.ret (dD r4 (pi 0))))
theorem Xr:Fx.map told=some (QB,[]):=by kernel_rfl
theorem am4:tree (ah Fx)=QB:=bA Xr
def vh:Option PC:=cF [6,1,7] [] Tryz.f100 100 [3]
def Ke:Nat→PC:=cd vh
def aip (b:Nat→PC):PC:=.block 0 [1,7,12,13,14,15,16,17,20] [] (.loop [1,7] [] (b 0))
def DA (b:Nat→PC):PT:=
 (.ite (.pick (ak r7 nU) (dD r1 (pi 0)) pF)
 (.blockS ⟨[],[]⟩ 1 [1,23,24,25,26,27,28,29,30,31] []
 (.chk (aB (pc o3 2) r7)
 (.call ⟨[],[]⟩ [] 31 100 [(pn (pc o3 2) r7),r1,(cJ r2 (pi 1))]
 (.next ⟨[(1,zN)],[]⟩)))
 (.next ⟨[(7,(bB r7 (pi 1)))],[]⟩))
 (.exit 0 ⟨[(12,r7),(13,pN),(14,(pc o3 2)),(15,nU),(16,(ak r7 nU)),(17,(ak r7 nU)),(20,(.pick (ak r7 nU) (dD r1 (pi 0)) pF))],[]⟩))
def Jo (b:Nat→PC):PT:=
 (.ite (ak r2 (pi 1))
 (.ret (pi (-1)))
 (.brk ⟨[(7,(pi 0)),(1,(cJ r1 (pi 1)))],[(3,(.mk [r0]))]⟩
(aip b)
 (.ret r1)))
def ad0 (b:Nat→PC):PT×List (Shp×PT):=(Jo b,[(.lp 0 [1,7,12,13,14,15,16,17,20] [] [1,7] [],DA b)])
theorem NR:vh.map told=some (ad0 (bT vh)):=by kernel_rfl
theorem Z6:tree (ah vh)=Jo Ke:=cT NR
theorem O2:round 0 [1,7,12,13,14,15,16,17,20] [] [1,7] [] (Ke 0)=DA Ke:=bN NR 0 fun _=>rfl
def xC:Option PC:=cF [2,3,4,5,6,7,10,11,12] [] Tryz.f25 25 [1,9]
def Kh:Nat→PC:=cd xC
def ais (b:Nat→PC):PC:=.block 0 [2,38,39] [] (.loop [2,38] [] (b 0))
def DD (b:Nat→PC):PT:=
 (.ite (ak lx pv)
 (.blockS ⟨[],[]⟩ 1 [2,9,40,41,42,43,44,45] [9]
 (.chk (aB se lx)
 (.call ⟨[],[]⟩ [] 44 55 [(pc (.setc (.con (.agg [(.int 0)])) 0 (pn se lx)) 0),(pi 10)]
 (.ite (.nt Dj)
 (.ret (pi 1))
 (.next ⟨[],[]⟩))))
 (.next ⟨[(38,(bB lx (pi 1)))],[]⟩))
 (.exit 0 ⟨[(39,(ak lx pv))],[]⟩))
def QE (b:Nat→PC):PT:=
 (.call ⟨[(2,(pi 0))],[(1,(.mk [r0]))]⟩ [] 15 50 [mX]
 (.call ⟨[(5,(.tget gq 2)),(4,(.tget gq 1)),(3,(.tget gq 0))],[]⟩ [] 21 51 [(pc o1 0),(pi 8),(.con (.clo 52 []))]
 (.ite (bC mf (pi 0))
 (.ret mf)
 (.call ⟨[],[(1,(aI 8 o1))]⟩ [] 27 51 [r3,(pi 40),(.clo 53 [(.ref (aI 8 o1))])]
 (.ite (bC fZ (pi 0))
 (.ret fZ)
 (.ite (bY (.llen (pc o1 2)) (pi 20))
 (.ret (pi 6))
 (.brk ⟨[(38,(pi 0)),(37,(.llen (pc o1 2))),(36,(pc o1 2))],[]⟩
(ais b)
 (.call ⟨[],[]⟩ [] 49 51 [r4,(pi 200),(.clo 56 [(.ref o1)])]
 (.ite (bC uf (pi 0))
 (.ret uf)
 (.call ⟨[],[]⟩ [] 55 51 [r5,(pi 20),(.clo 57 [(.ref o1)])]
 (.ite (bC Dk (pi 0))
 (.ret Dk)
 (.call ⟨[],[]⟩ [] 60 59 [(.sub o1 0 8)]
 (.ite (bC zO (pi 0))
 (.ret zO)
 (.call ⟨[],[]⟩ [] 65 60 [(.sub o1 0 8)]
 (.ret zP)))))))))))))))
def ad3 (b:Nat→PC):PT×List (Shp×PT):=(QE b,[(.lp 0 [2,38,39] [] [2,38] [],DD b)])
theorem NU:xC.map told=some (ad3 (bT xC)):=by kernel_rfl
theorem anb:tree (ah xC)=QE Kh:=cT NU
theorem O5:round 0 [2,38,39] [] [2,38] [] (Kh 0)=DD Kh:=bN NU 0 fun _=>rfl
def xH:Option PC:=cF [] [] Tryz.f50 50 [1,2,3,4,6,16390,20486,24582,21,8,34,10,12298,16394,47]
def vd:Nat→PC:=cd xH
def aix (b:Nat→PC):PC:=.block 0 [2,14,15] [2] (.loop [2,14] [2] (b 0))
def aiy (b:Nat→PC):PC:=.block 2 [3,27,28] [3] (.loop [3,27] [3] (b 1))
def aiz (b:Nat→PC):PC:=.block 4 [4,40,41] [4] (.loop [4,40] [4] (b 2))
def IL (b:Nat→PC):PT:=
 (.ite (ak cG eC)
 (.chk (aB cN cG)
 (.chk (cS (.llen Yj) dx)
 (.next ⟨[(2,pN),(14,(bB cG (pi 1)))],[(2,Yj)]⟩)))
 (.exit 0 ⟨[(15,(ak cG eC))],[]⟩))
def IM (b:Nat→PC):PT:=
 (.ite (ak fZ pq)
 (.chk (aB mg fZ)
 (.chk (cS (.llen Yn) dx)
 (.next ⟨[(3,pN),(27,(bB fZ (pi 1)))],[(3,Yn)]⟩)))
 (.exit 2 ⟨[(28,(ak fZ pq))],[]⟩))
def IN (b:Nat→PC):PT:=
 (.ite (ak pw Iw)
 (.chk (aB lx pw)
 (.chk (cS (.llen Yk) dx)
 (.next ⟨[(4,pN),(40,(bB pw (pi 1)))],[(4,Yk)]⟩)))
 (.exit 4 ⟨[(41,(ak pw Iw))],[]⟩))
def QQ (b:Nat→PC):PT:=
 (.brk ⟨[(14,(pi 0)),(13,(.llen tX)),(12,tX),(4,pN),(3,pN),(2,pN)],[(4,pL),(3,pL),(2,pL),(1,(.mk [r0]))]⟩
(aix b)
 (.brk ⟨[(27,(pi 0)),(26,zL),(25,(pc o1 3))],[]⟩
(aiy b)
 (.brk ⟨[(40,(pi 0)),(39,tY),(38,(pc o1 4))],[]⟩
(aiz b)
 (.ret (.tup [o2,o3,o4])))))
def ad8 (b:Nat→PC):PT×List (Shp×PT):=(QQ b,[(.lp 0 [2,14,15] [2] [2,14] [2],IL b),(.lp 2 [3,27,28] [3] [3,27] [3],IM b),(.lp 4 [4,40,41] [4] [4,40] [4],IN b)])
theorem C3:xH.map told=some (ad8 (bT xH)):=by kernel_rfl
theorem ank:tree (ah xH)=QQ vd:=cT C3
theorem YW:round 0 [2,14,15] [2] [2,14] [2] (vd 0)=IL vd:=bN C3 0 fun _=>rfl
theorem YX:round 2 [3,27,28] [3] [3,27] [3] (vd 1)=IM vd:=bN C3 1 fun _=>rfl
theorem YY:round 4 [4,40,41] [4] [4,40] [4] (vd 2)=IN vd:=bN C3 2 fun _=>rfl
def xF:Option PC:=cF [6,7,8] [] Tryz.f51 51 []
def Kk:Nat→PC:=cd xF
def aiv (b:Nat→PC):PC:=.block 0 [6,15,16] [] (.loop [6,15] [] (b 0))
def DG (b:Nat→PC):PT:=
 (.ite (ak gq cG)
 (.blockS ⟨[],[]⟩ 1 [6,7,8,17,18,19,20,21,22,24,25,26,27] []
 (.call ⟨[(7,gq)],[]⟩ [] 20 79 [r0,gq]
 (.ite (bC gX (pi 0))
 (.ret gX)
 (.callc ⟨[],[]⟩ [] 26 r2 [r7]
 (.ite (.nt pq)
 (.ret (pi 1))
 (.next ⟨[],[]⟩)))))
 (.next ⟨[(15,(bB gq (pi 1)))],[]⟩))
 (.exit 0 ⟨[(16,(ak gq cG))],[]⟩))
def QM (b:Nat→PC):PT:=
 (.ite (bY (.llen r0) r1)
 (.ret (pi 6))
 (.brk ⟨[(15,(pi 0)),(14,(.llen r0)),(6,(pi 0))],[]⟩
(aiv b)
 (.ret (pi 0))))
def ad6 (b:Nat→PC):PT×List (Shp×PT):=(QM b,[(.lp 0 [6,15,16] [] [6,15] [],DG b)])
theorem NX:xF.map told=some (ad6 (bT xF)):=by kernel_rfl
theorem ang:tree (ah xF)=QM Kk:=cT NX
theorem O8:round 0 [6,15,16] [] [6,15] [] (Kk 0)=DG Kk:=bN NX 0 fun _=>rfl
def FE:Option PC:=cF [4] [] Tryz.f79 79 []
def QP:PT:=
 (.chk (aB r0 r1)
 (.call ⟨[],[]⟩ [] 9 101 [(pn r0 r1)]
 (.ite (.nt r9)
 (.ret (pi 2))
 (.chk (.slok r0 (pi 0) r1)
 (.chk (aB r0 r1)
 (.call ⟨[],[]⟩ [] 18 102 [(.slc r0 (pi 0) r1),(pn r0 r1)]
 (.ite lu
 (.ret (pi 5))
 (.ret (pi 0)))))))))
theorem Xy:FE.map told=some (QP,[]):=by kernel_rfl
theorem anj:tree (ah FE)=QP:=bA Xy
def xG:Option PC:=cF [2,3,4,5] [] Tryz.f101 101 []
def Kl:Nat→PC:=cd xG
def aiw (b:Nat→PC):PC:=.block 0 [2,16,17] [] (.loop [2,16] [] (b 0))
def DH (b:Nat→PC):PT:=
 (.ite (ak dE gq)
 (.chk (aB cG dE)
 (.ite (.pick (.nt (.pick (.pick (dD (pn cG dE) (.con (.v (.int .u8 97)))) (cS (pn cG dE) (.con (.v (.int .u8 122)))) pF) pT (.pick (dD (pn cG dE) (.con (.v (.int .u8 65)))) (cS (pn cG dE) (.con (.v (.int .u8 90)))) pF))) (.pick (ar dE (pi 0)) pT (.pick (bC (pn cG dE) (.con (.v (.int .u8 95)))) (.pick (ak (pn cG dE) (.con (.v (.int .u8 48)))) pT (bY (pn cG dE) (.con (.v (.int .u8 57))))) pF)) pF)
 (.ret pF)
 (.next ⟨[(16,(bB dE (pi 1)))],[]⟩)))
 (.exit 0 ⟨[(17,(ak dE gq))],[]⟩))
def QO (b:Nat→PC):PT:=
 (.ite (.pick (.cs .eql r0 (.con (.v (.string ⟨#[]⟩)))) pT (bY (.slen r0) (pi 20)))
 (.ret pF)
 (.chk (cS (.slen r0) dx)
 (.brk ⟨[(16,(pi 0)),(15,(.llen (.bytes r0))),(14,(.bytes r0)),(2,pF)],[]⟩
(aiw b)
 (.ret pT))))
def ad7 (b:Nat→PC):PT×List (Shp×PT):=(QO b,[(.lp 0 [2,16,17] [] [2,16] [],DH b)])
theorem NY:xG.map told=some (ad7 (bT xG)):=by kernel_rfl
theorem ani:tree (ah xG)=QO Kl:=cT NY
theorem O9:round 0 [2,16,17] [] [2,16] [] (Kl 0)=DH Kl:=bN NY 0 fun _=>rfl
def FL:Option PC:=cF [4] [] Tryz.f102 102 []
def Q6:PT:=
 (.call ⟨[],[]⟩ [] 7 122 [r0,r1]
 (.ret (dD r7 (pi 0))))
theorem XF:FL.map told=some (Q6,[]):=by kernel_rfl
theorem anA:tree (ah FL)=Q6:=bA XF
def xV:Option PC:=cF [4,5] [] Tryz.f122 122 []
def Ku:Nat→PC:=cd xV
def aiT (b:Nat→PC):PC:=.block 0 [4,8,9] [] (.loop [4,8] [] (b 0))
def DW (b:Nat→PC):PT:=
 (.ite (ak r8 r7)
 (.chk (aB r0 r8)
 (.ite (.cs .eql r1 (pn r0 r8))
 (.ret r8)
 (.next ⟨[(8,ua)],[]⟩)))
 (.exit 0 ⟨[(9,(ak r8 r7))],[]⟩))
def Rc (b:Nat→PC):PT:=
 (.brk ⟨[(8,(pi 0)),(7,(.llen r0)),(4,(pi 0))],[]⟩
(aiT b)
 (.ret (pi (-1))))
def aem (b:Nat→PC):PT×List (Shp×PT):=(Rc b,[(.lp 0 [4,8,9] [] [4,8] [],DW b)])
theorem N6:xV.map told=some (aem (bT xV)):=by kernel_rfl
theorem anG:tree (ah xV)=Rc Ku:=cT N6
theorem Ps:round 0 [4,8,9] [] [4,8] [] (Ku 0)=DW Ku:=bN N6 0 fun _=>rfl
def Fy:Option PC:=cF [2] [] Tryz.f52 52 []
def QF:PT:=
 (.ret pT)
theorem Xs:Fy.map told=some (QF,[]):=by kernel_rfl
theorem am7:tree (ah Fy)=QF:=bA Xs
def Fz:Option PC:=cF [3] [] Tryz.f53 53 []
def QG:PT:=
 (.chk (aB (pc (.deref r1) 1) r0)
 (.call ⟨[],[]⟩ [] 10 54 [(.deref r1),(pn (pc (.deref r1) 1) r0)]
 (.ret fP)))
theorem Xt:Fz.map told=some (QG,[]):=by kernel_rfl
theorem am8:tree (ah Fz)=QG:=bA Xt
def xE:Option PC:=cF [4,6] [] Tryz.f54 54 [2,3]
def Kj:Nat→PC:=cd xE
def aiu (b:Nat→PC):PC:=.block 0 [4,10,11] [] (.loop [4,10] [] (b 0))
def DF (b:Nat→PC):PT:=
 (.ite (ak fP r9)
 (.chk (aB r8 fP)
 (.chk (bC (pi 100) (pi 0))
 (.chk (.nt (.an (.an (.nt (ak OF (pi 1))) pT) (.nt (bC (pi 100) (pi 0)))))
 (.ite (.pick (ak OF (pi 1)) pT (bY OF (pi 31)))
 (.ret pF)
 (.next ⟨[(10,(bB fP (pi 1)))],[]⟩)))))
 (.exit 0 ⟨[(11,(ak fP r9))],[]⟩))
def QL (b:Nat→PC):PT:=
 (.brk ⟨[(10,(pi 0)),(9,(.llen (pc (.mk [r1]) 4))),(8,(pc (.mk [r1]) 4)),(4,pF)],[(3,(.mk [r1])),(2,(.mk [r0]))]⟩
(aiu b)
 (.call ⟨[(33,(.pick (bY (.llen (pc o3 4)) (pi 60)) pT (bY (.llen (pc o3 5)) (pi 200))))],[]⟩ [(33,false)] 39 55 [(pc o3 1),(.llen (pc o2 4))]
 (.call ⟨[(42,(.pick Iu pT (.nt Iw)))],[]⟩ [(42,false)] 48 55 [(pc o3 2),(.llen (pc o2 0))]
 (.ite (.pick YE pT (.nt qz))
 (.ret pF)
 (.call ⟨[],[]⟩ [] 53 80 [(pc o3 3),(pi 0),(pi 6)]
 (.call ⟨[(54,OM)],[]⟩ [(54,true)] 57 80 [(pc o3 4),(pi 101),(pi 1231)]
 (.call ⟨[(59,(.pick sf wI pF))],[]⟩ [(59,true)] 62 80 [(pc o3 5),(pi 0),(pi 100000)]
 (.ret (.pick r59 py pF)))))))))
def ad5 (b:Nat→PC):PT×List (Shp×PT):=(QL b,[(.lp 0 [4,10,11] [] [4,10] [],DF b)])
theorem NW:xE.map told=some (ad5 (bT xE)):=by kernel_rfl
theorem anf:tree (ah xE)=QL Kj:=cT NW
theorem O7:round 0 [4,10,11] [] [4,10] [] (Kj 0)=DF Kj:=bN NW 0 fun _=>rfl
def xK:Option PC:=cF [6,7,8] [] Tryz.f80 80 []
def Km:Nat→PC:=cd xK
def aiE (b:Nat→PC):PC:=.block 0 [6,11,12] [] (.loop [6,11] [] (b 0))
def uk (b:Nat→PC):PT:=
 (.ite ub
 (.chk (aB r9 bK)
 (.chk (.nt (.an (.an (bY bK (pi 0)) (.an (.nt (.pick (ak (pn r9 bK) r1) pT (bY (pn r9 bK) r2))) pT)) (.nt (aB r0 (cJ bK (pi 1))))))
 (.ite (.pick (.pick (ak (pn r9 bK) r1) pT (bY (pn r9 bK) r2)) pT (.pick (bY bK (pi 0)) (cS (pn r9 bK) (pn r0 (cJ bK (pi 1)))) pF))
 (.ret pF)
 (.next ⟨[(11,(bB bK (pi 1)))],[]⟩))))
 (.exit 0 ⟨[(12,ub)],[]⟩))
def QT (b:Nat→PC):PT:=
 (.brk ⟨[(11,(pi 0)),(10,(.llen r0)),(9,r0),(6,pF)],[]⟩
(aiE b)
 (.ret pT))
def aeb (b:Nat→PC):PT×List (Shp×PT):=(QT b,[(.lp 0 [6,11,12] [] [6,11] [],uk b)])
theorem NZ:xK.map told=some (aeb (bT xK)):=by kernel_rfl
theorem ann:tree (ah xK)=QT Km:=cT NZ
theorem zT:round 0 [6,11,12] [] [6,11] [] (Km 0)=uk Km:=bN NZ 0 fun _=>rfl
def FA:Option PC:=cF [3] [] Tryz.f56 56 []
def QH:PT:=
 (.chk (aB (pc (.deref r1) 3) r0)
 (.call ⟨[],[]⟩ [] 13 55 [(pc (pn (pc (.deref r1) 3) r0) 1),(.llen (pc (.deref r1) 1))]
 (.chk (.nt (.an (.an eC pT) (.nt (aB (pc (.deref r1) 3) r0))))
 (.call ⟨[(14,eC)],[]⟩ [(14,true)] 24 55 [(pc (pn (pc (.deref r1) 3) r0) 2),(.llen (pc (.deref r1) 2))]
 (.ret (.pick cG nV pF))))))
theorem Xu:FA.map told=some (QH,[]):=by kernel_rfl
theorem am9:tree (ah FA)=QH:=bA Xu
def FB:Option PC:=cF [3] [] Tryz.f57 57 []
def QI:PT:=
 (.chk (aB (pc (.deref r1) 4) r0)
 (.call ⟨[],[]⟩ [] 9 58 [(pn (pc (.deref r1) 4) r0)]
 (.ret r9)))
theorem Xv:FB.map told=some (QI,[]):=by kernel_rfl
theorem ana:tree (ah FB)=QI:=bA Xv
def xI:Option PC:=cF [2] [] Tryz.f58 58 [1,3,4,6,19,8,16392,36]
def AL:Nat→PC:=cd xI
def aiA (b:Nat→PC):PC:=.block 0 [2,3,12,13] [3] (.loop [2,3,12] [3] (b 0))
def aiB (b:Nat→PC):PC:=.block 2 [4,29,30] [4] (.loop [4,29] [4] (b 1))
def DI (b:Nat→PC):PT:=
 (.ite (ak cN bK)
 (.blockS ⟨[],[]⟩ 1 [2,3,6,14,15,17,18,19,20,21,22,23,24] [6,19,3]
 (.chk (aB fP cN)
 (.chk (cS (.llen (.app o3 (.lst [(pc (.setc Il 0 (pn fP cN)) 0)]))) dx)
 (.call ⟨[(3,pN)],[(3,(.app o3 (.lst [(pc (.setc Il 0 (pn fP cN)) 0)])))]⟩ [] 23 55 [(pc (.setc Il 0 (pn fP cN)) 1),(pi 5)]
 (.ite (.nt jk)
 (.ret pF)
 (.next ⟨[],[]⟩)))))
 (.next ⟨[(12,(bB cN (pi 1)))],[]⟩))
 (.exit 0 ⟨[(13,(ak cN bK))],[]⟩))
def IP (b:Nat→PC):PT:=
 (.ite (ak sd Di)
 (.chk (aB fZ sd)
 (.chk (cS (.llen Yo) dx)
 (.next ⟨[(4,pN),(29,(bB sd (pi 1)))],[(4,Yo)]⟩)))
 (.exit 2 ⟨[(30,(ak sd Di))],[]⟩))
def QR (b:Nat→PC):PT:=
 (.brk ⟨[(12,(pi 0)),(11,qw),(10,wF),(4,pN),(3,pN),(2,pF)],[(4,pL),(3,pL),(1,(.mk [r0]))]⟩
(aiA b)
 (.brk ⟨[(29,(pi 0)),(28,zL),(27,(pc o1 3))],[]⟩
(aiB b)
 (.call ⟨[],[]⟩ [] 40 80 [o3,(pi 0),(pi 21)]
 (.call ⟨[(41,pw)],[]⟩ [(41,true)] 43 80 [o4,(pi 0),(pi 21)]
 (.ret (.pick wH ud pF))))))
def ad9 (b:Nat→PC):PT×List (Shp×PT):=(QR b,[(.lp 0 [2,3,12,13] [3] [2,3,12] [3],DI b),(.lp 2 [4,29,30] [4] [4,29] [4],IP b)])
theorem HZ:xI.map told=some (ad9 (bT xI)):=by kernel_rfl
theorem anl:tree (ah xI)=QR AL:=cT HZ
theorem Pb:round 0 [2,3,12,13] [3] [2,3,12] [3] (AL 0)=DI AL:=bN HZ 0 fun _=>rfl
theorem YZ:round 2 [4,29,30] [4] [4,29] [4] (AL 1)=IP AL:=bN HZ 1 fun _=>rfl
def xL:Option PC:=cF [2,3] [] Tryz.f59 59 [1,4,6]
def AN:Nat→PC:=cd xL
def aiF (b:Nat→PC):PC:=.block 2 [2,50,51] [] (.loop [2,50] [] (b 0))
def aiG (b:Nat→PC):PC:=.block 0 [2,14,15] [] (.loop [2,14] [] (b 1))
def zU (b:Nat→PC):PT:=
 (.ite (ak ly uf)
 (.chk (aB qz ly)
 (.ite (.pick (ar (pc (.setc z3 0 (pn qz ly)) 0) (pc o4 0)) (ar (pc (.setc z3 0 (pn qz ly)) 1) (pc o4 1)) pF)
 (.ret (pi 5))
 (.next ⟨[(50,(bB ly (pi 1)))],[]⟩)))
 (.exit 2 ⟨[(51,(ak ly uf))],[]⟩))
def DL (b:Nat→PC):PT:=
 (.ite (ak cG eC)
 (.blockS ⟨[(15,(ak cG eC))],[]⟩ 1 [2,3,4,16,17,18,19,20,21,22,23,24,25,26,34,35,39,40,44,45,46,47,48,49,50,51] [4]
 (.chk (aB cN cG)
 (.call ⟨[(3,cG)],[(4,(.setc z3 0 (pn cN cG)))]⟩ [] 24 55 [(pc (.setc z3 0 (pn cN cG)) 0),tZ]
 (.call ⟨[(26,(.nt nV))],[]⟩ [(26,false)] 32 55 [(pc o4 1),tZ]
 (.ite (.pick (.pick (.pick pq pT (.nt OI)) pT (ak (pc o4 2) (pi 1))) pT (bY (pc o4 2) (pi 20000)))
 (.ret (pi 1))
 (.chk (.slok (pc o1 5) (pi 0) r3)
 (.brk ⟨[(50,(pi 0)),(49,(.llen (.slc (pc o1 5) (pi 0) r3))),(48,(.slc (pc o1 5) (pi 0) r3))],[]⟩
(aiF b)
 (.next ⟨[],[]⟩)))))))
 (.next ⟨[(14,(bB cG (pi 1)))],[]⟩))
 (.exit 0 ⟨[(15,(ak cG eC))],[]⟩))
def QU (b:Nat→PC):PT:=
 (.ite (bY (.llen (pc (.mk [r0]) 5)) (pi 100))
 (.ret (pi 6))
 (.brk ⟨[(14,(pi 0)),(13,(.llen (pc (.mk [r0]) 5))),(12,(pc (.mk [r0]) 5)),(2,(pi 0))],[(1,(.mk [r0]))]⟩
(aiG b)
 (.ret (pi 0))))
def aec (b:Nat→PC):PT×List (Shp×PT):=(QU b,[(.lp 2 [2,50,51] [] [2,50] [],zU b),(.lp 0 [2,14,15] [] [2,14] [],DL b)])
theorem H2:xL.map told=some (aec (bT xL)):=by kernel_rfl
theorem ano:tree (ah xL)=QU AN:=cT H2
theorem IQ:round 2 [2,50,51] [] [2,50] [] (AN 0)=zU AN:=bN H2 0 fun _=>rfl
theorem Pe:round 0 [2,14,15] [] [2,14] [] (AN 1)=DL AN:=bN H2 1 fun _=>rfl
def xJ:Option PC:=cF [2] [] Tryz.f60 60 [1,4,6]
def AM:Nat→PC:=cd xJ
def aiC (b:Nat→PC):PC:=.block 0 [2,14,15] [] (.loop [2,14] [] (b 0))
def aiD (b:Nat→PC):PC:=.block 2 [2,69,70] [] (.loop [2,69] [] (b 1))
def DJ (b:Nat→PC):PT:=
 (.ite (ak cG eC)
 (.blockS ⟨[],[]⟩ 1 [2,4,16,17,18,19,20,21,22,23,24,25,33,34,40,41,47,48,54,55,60] [4]
 (.chk (aB cN cG)
 (.call ⟨[],[(4,(.setc z5 0 (pn cN cG)))]⟩ [] 23 55 [(pc (.setc z5 0 (pn cN cG)) 0),(.llen (pc o1 0))]
 (.call ⟨[(25,(.nt jk))],[]⟩ [(25,false)] 31 55 [(pc o4 1),(.llen (pc o1 0))]
 (.call ⟨[(41,(.pick (.pick mg pT (.nt zN)) pT (ar (pc o4 0) (pc o4 1))))],[]⟩ [(41,false)] 45 55 [(cJ (pc o4 2) (pi 1)),(pi 1073741824)]
 (.call ⟨[(48,(.pick wH pT (.nt qy)))],[]⟩ [(48,false)] 52 55 [(cJ (pc o4 3) (pi 1)),(pi 1073741824)]
 (.call ⟨[(55,(.pick qz pT (.nt OL)))],[]⟩ [(55,false)] 58 55 [(pc o4 4),(pi 100001)]
 (.ite (.pick Dk pT (.nt ug))
 (.ret (pi 1))
 (.next ⟨[],[]⟩))))))))
 (.next ⟨[(14,(bB cG (pi 1)))],[]⟩))
 (.exit 0 ⟨[(15,(ak cG eC))],[]⟩))
def DK (b:Nat→PC):PT:=
 (.ite (ak wJ ON)
 (.blockS ⟨[],[]⟩ 3 [2,6,71,72,73,74,75,76,77,78,79,80,84,85,91,92,96] [6]
 (.chk (aB uh wJ)
 (.call ⟨[],[(6,(.setc z3 0 (pn uh wJ)))]⟩ [] 78 55 [(pc (.setc z3 0 (pn uh wJ)) 0),tY]
 (.ite (.pick (.pick (.pick (.nt r78) pT (ak (pc o6 1) (pi 0))) pT (bY (pc o6 1) (pc o6 2))) pT (bY (pc o6 2) (pi 100000)))
 (.ret (pi 1))
 (.next ⟨[],[]⟩))))
 (.next ⟨[(69,(bB wJ (pi 1)))],[]⟩))
 (.exit 2 ⟨[(70,(ak wJ ON))],[]⟩))
def QS (b:Nat→PC):PT:=
 (.ite (bY (.llen (pc (.mk [r0]) 6)) (pi 100))
 (.ret (pi 6))
 (.brk ⟨[(14,(pi 0)),(13,(.llen (pc (.mk [r0]) 6))),(12,(pc (.mk [r0]) 6)),(2,(pi 0))],[(1,(.mk [r0]))]⟩
(aiC b)
 (.ite (bY (.llen (pc o1 7)) (pi 20))
 (.ret (pi 6))
 (.brk ⟨[(69,(pi 0)),(68,(.llen (pc o1 7))),(67,(pc o1 7))],[]⟩
(aiD b)
 (.ret (pi 0))))))
def aea (b:Nat→PC):PT×List (Shp×PT):=(QS b,[(.lp 0 [2,14,15] [] [2,14] [],DJ b),(.lp 2 [2,69,70] [] [2,69] [],DK b)])
theorem H0:xJ.map told=some (aea (bT xJ)):=by kernel_rfl
theorem anm:tree (ah xJ)=QS AM:=cT H0
theorem Pc:round 0 [2,14,15] [] [2,14] [] (AM 0)=DJ AM:=bN H0 0 fun _=>rfl
theorem Pd:round 2 [2,69,70] [] [2,69] [] (AM 1)=DK AM:=bN H0 1 fun _=>rfl
def AX:Option PC:=cF [2] [] Tryz.f26 26 [1]
def Qz:PT:=
 (.ret (.pick (.pick (.pick (cS (.llen rZ) (pi 42)) (cS (.llen (pc (.mk [r0]) 16)) (pi 6)) pF) (cS (.llen (pc (.mk [r0]) 17)) (pi 102)) pF) (cS (.llen zK) (pi 202)) pF))
theorem Xp:AX.map told=some (Qz,[]):=by kernel_rfl
theorem am2:tree (ah AX)=Qz:=bA Xp
def vg:Option PC:=cF [4,5,6,7,8,11] [] Tryz.f21 21 [2,3,10]
def AJ:Nat→PC:=cd vg
def aih (b:Nat→PC):PC:=.block 0 [4,48,49] [] (.loop [4,48] [] (b 0))
def aii (b:Nat→PC):PC:=.block 2 [4,8,62,63] [] (.loop [4,8,62] [] (b 1))
def Dw (b:Nat→PC):PT:=
 (.ite (ak qz Ix)
 (.blockS ⟨[],[]⟩ 1 [4,6,7,50,51,52,53,54,55,56] []
 (.call ⟨[],[]⟩ [] 54 43 [(aI 8 o2),(aI 19 o3),qz]
 (.ite (bC sf (pi 0))
 (.ret sf)
 (.next ⟨[],[]⟩)))
 (.next ⟨[(48,(bB qz (pi 1)))],[]⟩))
 (.exit 0 ⟨[(49,(ak qz Ix))],[]⟩))
def Dx (b:Nat→PC):PT:=
 (.ite (ak py YG)
 (.blockS ⟨[],[]⟩ 3 [4,8,10,64,65,66,67,68,69,70,71,72,73,74,75,76,77,78,79,80] [10]
 (.chk (aB zO py)
 (.call ⟨[],[(10,(.setc z2 0 (pn zO py)))]⟩ [] 73 44 [(pc (.setc z2 0 (pn zO py)) 0),ua,(.llen (pc o3 15))]
 (.ite (.nt Dn)
 (.ret (pi 1))
 (.call ⟨[],[]⟩ [] 77 44 [(pc cZ 1),(pi 1),zJ]
 (.ite (.nt YJ)
 (.ret (pi 3))
 (.next ⟨[(8,(pc cZ 0))],[]⟩))))))
 (.next ⟨[(62,(bB py (pi 1)))],[]⟩))
 (.exit 2 ⟨[(63,(ak py YG))],[]⟩))
def Qp (b:Nat→PC):PT:=
 (.ite (.pick (.pick (.pick (bY (.llen (pc (.mk [r1]) 15)) (pi 40)) pT (bY (.llen (pc (.mk [r1]) 16)) (pi 4))) pT (bY (.llen (pc (.mk [r1]) 17)) (pi 100))) pT (bY (.llen (pc (.mk [r1]) 18)) (pi 200)))
 (.ret (pi 6))
 (.call ⟨[(4,(pi 0))],[(3,(.mk [r1])),(2,(.mk [r0]))]⟩ [] 37 42 [mX,(aI 15 (.mk [r1]))]
 (.ite (bC pv (pi 0))
 (.ret pv)
 (.ite (ar (.llen (pc o3 15)) (pi 0))
 (.ret (pi 14))
 (.brk ⟨[(48,(pi 0)),(47,(.llen (pc o3 15)))],[]⟩
(aih b)
 (.brk ⟨[(62,(pi 0)),(61,(.llen (pc o3 16))),(60,(pc o3 16)),(8,(pi 0))],[]⟩
(aii b)
 (.call ⟨[],[]⟩ [] 84 45 [(aI 8 o2),(aI 19 o3)]
 (.ite (bC Iz (pi 0))
 (.ret Iz)
 (.call ⟨[],[]⟩ [] 89 46 [(aI 19 o3)]
 (.ret r89))))))))))
def adU (b:Nat→PC):PT×List (Shp×PT):=(Qp b,[(.lp 0 [4,48,49] [] [4,48] [],Dw b),(.lp 2 [4,8,62,63] [] [4,8,62] [],Dx b)])
theorem HX:vg.map told=some (adU (bT vg)):=by kernel_rfl
theorem amR:tree (ah vg)=Qp AJ:=cT HX
theorem OZ:round 0 [4,48,49] [] [4,48] [] (AJ 0)=Dw AJ:=bN HX 0 fun _=>rfl
theorem O0:round 2 [4,8,62,63] [] [4,8,62] [] (AJ 1)=Dx AJ:=bN HX 1 fun _=>rfl
def AY:Option PC:=cF [4,5,6,7,8,54,80,109,118,9,10] [] Tryz.f42 42 [2,3]
def Rp:PT:=
 (.call ⟨[],[(3,(.mk [r1])),(2,(.mk [r0]))]⟩ [] 12 25 [mX]
 (.ite (bC cN (pi 0))
 (.ret cN)
 (.call ⟨[(7,(.llen (pc o2 1))),(6,(.llen (pc o2 3)))],[]⟩ [] 25 73 [(pc o3 0),(.llen (pc o2 3))]
 (.call ⟨[(26,mg)],[]⟩ [(26,true)] 30 73 [(pc o3 1),r6]
 (.call ⟨[(36,(ar (pc o3 2) (pi (-1)))),(32,(.pick pq uc pF))],[]⟩ [(36,false),(32,true)] 40 73 [(pc o3 2),r6]
 (.call ⟨[(47,(ar (pc o3 11) (pi (-1)))),(43,(.pick OI (.pick se pT pw) pF))],[]⟩ [(47,false),(43,true)] 51 73 [(pc o3 11),r6]
 (.blockS ⟨[(8,(.pick ud (.pick Ix pT px) pF))],[]⟩ 0 [4,54,55,56,57,65,66,72,73,79,80,81,82,83,84,88,89,93,94,98,99,103,104,108,109,110,111,112,113,117,118,119,120,121,122,126,127,137,138,142] []
 (.call ⟨[(57,(.nt r8))],[]⟩ [(57,false)] 63 73 [(pc o3 4),(.llen (pc o2 0))]
 (.call ⟨[(66,(.pick wI pT (.nt Dl)))],[]⟩ [(66,false)] 70 73 [(pc o3 9),r7]
 (.call ⟨[(73,(.pick YH pT (.nt YI)))],[]⟩ [(73,false)] 77 73 [(pc o3 10),r7]
 (.iteS ⟨[],[]⟩ (.pick Dn pT (.nt YJ)) [4,80,81,82,83,84,88,89,93,94,98,99,103,104,108,109,110,111,112,113,117,118,119,120,121,122,126,127,137,138,142] []
 (.ret (pi 1))
 (.iteS ⟨[],[]⟩ (.pick (.pick (.pick (.pick (.pick (ak (pc o3 3) (pi 1)) pT (bY (pc o3 3) zJ)) pT (ak (pc o3 8) (pi 0))) pT (bY (pc o3 8) (pi 100000))) pT (ak (pc o3 12) (pi 0))) pT (bY (pc o3 12) (pi 1000))) [4,109,110,111,112,113,117,118,119,120,121,122,126,127,137,138,142] []
 (.ret (pi 3))
 (.iteS ⟨[],[]⟩ (.pick (ak (pc o3 14) (pi 1)) pT (bY (pc o3 14) (pi 4))) [4,118,119,120,121,122,126,127,137,138,142] []
 (.ret (pi 15))
 (.call ⟨[(138,(.pick (.pick (ak (pc o3 13) (pi 0)) pT (bY (pc o3 13) (pi 7))) pT (.pick (bC (.ai .and .i64 (pc o3 13) (pi 4)) (pi 0)) (ar (pc o3 2) (pi (-1))) pF)))],[]⟩ [(138,false)] 140 74 [(aI 15 o3)]
 (.ite (.pick (.r 138) pT (.nt (.r 140)))
 (.ret (pi 2))
 (.next ⟨[],[]⟩)))
 (.next ⟨[],[]⟩))
 (.next ⟨[],[]⟩))
 (.next ⟨[],[]⟩)))))
 (.iteS ⟨[],[]⟩ (ar (pc o3 5) (pi 4)) [4] []
 (.call ⟨[],[]⟩ [] 153 75 [(aI 8 o2),(pc o3 9),(pc o3 10)]
 (.ret (.tget (.r 153) 1)))
 (.next ⟨[],[]⟩)
 (.ret (pi 0))))))))))
theorem XR:AY.map told=some (Rp,[]):=by kernel_rfl
theorem anU:tree (ah AY)=Rp:=bA XR
def FZ:Option PC:=cF [4] [] Tryz.f73 73 []
def Rq:PT:=
 (.ret OE)
theorem XS:FZ.map told=some (Rq,[]):=by kernel_rfl
theorem anV:tree (ah FZ)=Rq:=bA XS
def F0:Option PC:=cF [2,8,19,40] [] Tryz.f74 74 [1,3]
def Rr:PT:=
 (.ite (.pick (ar (pc kM 0) (pi 0)) (ar (pc kM 0) (pi 0)) (ar (pc kM 0) (pi 4)))
 (.ret (.pick (ar (pc kM 1) (pi 0)) (ar (pc kM 2) (pi 0)) pF))
 (.ite (.pick (ar (pc kM 0) (pi 1)) (ar (pc kM 0) (pi 1)) (ar (pc kM 0) (pi 2)))
 (.ret (.pick (.pick (dD (pc kM 1) (pi 1)) (cS (pc kM 1) (pi 400)) pF) (.pick (ar (pc kM 2) (pi 0)) pT (ar (pc kM 2) (pi 1))) pF))
 (.ite (ar (pc kM 0) (pi 3))
 (.ret (.pick (.pick (dD (pc kM 1) (pc (.mk [r0]) 8)) (cS (pc kM 1) (pi 100000)) pF) (ar (pc kM 2) (pi 0)) pF))
 (.ret pF))))
theorem XT:F0.map told=some (Rr,[]):=by kernel_rfl
theorem anW:tree (ah F0)=Rr:=bA XT
def xD:Option PC:=cF [6,7] [] Tryz.f75 75 [3,9]
def Ki:Nat→PC:=cd xD
def ait (b:Nat→PC):PC:=.block 0 [6,7,13,14] [] (.loop [6,7,13] [] (b 0))
def DE (b:Nat→PC):PT:=
 (.ite (ak eC cN)
 (.chk (aB bK eC)
 (.ite (.pick (ar (pc (.setc z3 0 (pn bK eC)) 0) r1) (ar (pc (.setc z3 0 (pn bK eC)) 1) r2) pF)
 (.ret (.tup [(pc (.setc z3 0 (pn bK eC)) 2),(pi 0)]))
 (.next ⟨[(13,(bB eC (pi 1)))],[]⟩)))
 (.exit 0 ⟨[(14,(ak eC cN))],[]⟩))
def QK (b:Nat→PC):PT:=
 (.brk ⟨[(13,(pi 0)),(12,(.llen (pc (.mk [r0]) 5))),(11,(pc (.mk [r0]) 5)),(7,(pi 0)),(6,(pi 0))],[]⟩
(ait b)
 (.ret (.tup [(pi 0),(pi 4)])))
def ad4 (b:Nat→PC):PT×List (Shp×PT):=(QK b,[(.lp 0 [6,7,13,14] [] [6,7,13] [],DE b)])
theorem NV:xD.map told=some (ad4 (bT xD)):=by kernel_rfl
theorem ane:tree (ah xD)=QK Ki:=cT NV
theorem O6:round 0 [6,7,13,14] [] [6,7,13] [] (Ki 0)=DE Ki:=bN NV 0 fun _=>rfl
def xx:Option PC:=cF [6,8,9,76,92,98] [] Tryz.f43 43 [3,4,7,11]
def Kc:Nat→PC:=cd xx
def ail (b:Nat→PC):PC:=.block 0 [8,9,51,52] [] (.loop [8,9,51] [] (b 0))
def IJ (b:Nat→PC):PT:=
 (.ite (ak px ly)
 (.chk (aB uf px)
 (.next ⟨[(8,(pc (.setc z9 0 (pn uf px)) 6)),(9,(.pick r9 pT (.pick (.pick (ar (pc o7 0) (pi 1)) (ar (pc (.setc z9 0 (pn uf px)) 0) (pi 1)) pF) (ar (pc (.setc z9 0 (pn uf px)) 1) (pc o7 1)) pF))),(51,(bB px (pi 1)))],[]⟩))
 (.exit 0 ⟨[(52,(ak px ly))],[]⟩))
def Qw (b:Nat→PC):PT:=
 (.chk (aB (pc (.mk [r1]) 15) r2)
 (.call ⟨[],[(7,nT),(4,(.mk [r1])),(3,(.mk [r0]))]⟩ [] 23 44 [(pc nT 1),(pi 0),(cJ (pc (.mk [r1]) 14) (pi 1))]
 (.ite (.nt jk)
 (.ret (pi 15))
 (.call ⟨[],[]⟩ [] 31 44 [(pc o7 2),(pi 0),Is]
 (.call ⟨[(33,(.nt zN))],[]⟩ [(33,false)] 40 44 [(pc o7 7),(pi 0),(cJ (.llen (pc o3 1)) (pi 1))]
 (.ite (.pick Iu pT (.nt pw))
 (.ret (pi 1))
 (.chk (.slok (pc o4 15) (pi 0) r2)
 (.brk ⟨[(51,(pi 0)),(50,(.llen (.slc (pc o4 15) (pi 0) r2))),(49,(.slc (pc o4 15) (pi 0) r2)),(9,pF),(8,(pc o4 8))],[]⟩
(ail b)
 (.blockS ⟨[],[]⟩ 2 [6,76,77,78,79,80,81,82,91,92,93,94,95,96,97,98,99] []
 (.call ⟨[],[]⟩ [] 80 44 [(pc o7 6),r8,(pi 100000)]
 (.iteS ⟨[],[]⟩ (.pick (.nt wK) pT (.pick (ar r2 (pi 0)) (bC (pc o7 6) r8) pF)) [6,92,93,94,95,96,97,98,99] []
 (.ret (pi 13))
 (.call ⟨[],[]⟩ [] 96 76 [(aI 8 o3),(aI 19 o4),r2]
 (.ite (.nt r96)
 (.ret (pi 14))
 (.ite r9
 (.ret (pi 5))
 (.next ⟨[],[]⟩))))
 (.next ⟨[],[]⟩)))
 (.ret (pi 0)))))))))))
def adX (b:Nat→PC):PT×List (Shp×PT):=(Qw b,[(.lp 0 [8,9,51,52] [] [8,9,51] [],IJ b)])
theorem NP:xx.map told=some (adX (bT xx)):=by kernel_rfl
theorem amY:tree (ah xx)=Qw Kc:=cT NP
theorem YV:round 0 [8,9,51,52] [] [8,9,51] [] (Kc 0)=IJ Kc:=bN NP 0 fun _=>rfl
def Fu:Option PC:=cF [6] [] Tryz.f44 44 []
def Qv:PT:=
 (.ret (.pick (dD r0 r1) (cS r0 r2) pF))
theorem Xn:Fu.map told=some (Qv,[]):=by kernel_rfl
theorem amX:tree (ah Fu)=Qv:=bA Xn
def Ft:Option PC:=cF [6,9,10,66,103,113,11,140,149] [] Tryz.f76 76 [3,4,7,8]
def Qu:PT:=
 (.chk (aB (pc (.mk [r1]) 15) r2)
 (.ite (.pick (.cb .neq (ar r2 (pi 0)) (ar (pc nT 0) (pi 0))) pT (.pick (bC (pc nT 0) (pi 2)) (bC (pc nT 4) (pi (-1))) pF))
 (.ret pF)
 (.ite (.pick (.pick (bC (pc nT 0) (pi 3)) (bC (pc nT 0) (pi 4)) pF) (bC (pc nT 3) (pi (-1))) pF)
 (.ret pF)
 (.call ⟨[(9,(.pick (ar (pc nT 5) (pi 0)) (ar (pc nT 8) (pi 0)) pF))],[(8,(.setc Jw 0 (aI 15 (.mk [r1])))),(7,nT),(4,(.mk [r1])),(3,(.mk [r0]))]⟩ [] 58 44 [(pc nT 5),(pi 1),zJ]
 (.blockS ⟨[(65,(pc o7 0)),(10,(.pick ug (ar (pc o7 8) (pi 0)) pF))],[]⟩ 0 [6,66,67,103,104,113,114,140,141,149,150] []
 (.iteS ⟨[],[]⟩ (ar zP (pi 0)) [6,103,104,113,114,140,141,149,150] []
 (.ret (.pick (.pick (.pick (.pick (.pick (ar (pc o7 2) (pc o8 0)) (ar (pc o7 5) (pi 0)) pF) (ar (.ai .or .i64 (pc o7 8) (pi 1)) (pi 1)) pF) (ar (pc o7 1) (pi 0)) pF) (ar (pc o7 6) (pc o8 8)) pF) (ar (pc o7 7) (pc o8 9)) pF))
 (.iteS ⟨[],[]⟩ (ar zP (pi 1)) [6,113,114,140,141,149,150] []
 (.ret (.pick (ar (pc o7 2) (pc o8 1)) fP pF))
 (.iteS ⟨[],[]⟩ (ar zP (pi 2)) [6,140,141,149,150] []
 (.call ⟨[(11,(pi 6))],[]⟩ [] 121 44 [(pc o7 4),(pi (-1)),Is]
 (.call ⟨[(127,(.pick akN (ar (pc o7 5) (pi 0)) pF))],[]⟩ [(127,true)] 130 44 [(pc o7 8),(pi 0),(pi 7)]
 (.ret (.pick (.pick akO (.r 130) pF) (bC (.ai .and .i64 (pc o7 8) bK) bK) pF))))
 (.iteS ⟨[],[]⟩ (ar zP (pi 3)) [6,149,150] []
 (.call ⟨[(143,r9)],[]⟩ [(143,true)] 147 98 [(aI 19 o4),r2,(.lst [(pi 0),(pi 1),(pi 2),(pi 4)])]
 (.ret (.pick (.r 143) (.r 147) pF)))
 (.iteS ⟨[],[]⟩ (ar zP (pi 4)) [6] []
 (.call ⟨[(159,(.pick fP (bC (pc o7 2) (pc o8 1)) pF))],[]⟩ [(159,true)] 163 98 [(aI 19 o4),r2,(.lst [(pi 0),(pi 2)])]
 (.ret (.pick (.r 159) (.r 163) pF)))
 (.next ⟨[],[]⟩)
 (.next ⟨[],[]⟩))
 (.next ⟨[],[]⟩))
 (.next ⟨[],[]⟩))
 (.next ⟨[],[]⟩))
 (.next ⟨[],[]⟩))
 (.ret pF))))))
theorem Xm:Ft.map told=some (Qu,[]):=by kernel_rfl
theorem amW:tree (ah Ft)=Qu:=bA Xm
def Fs:Option PC:=cF [6,7] [] Tryz.f98 98 [3]
def Qs:PT:=
 (.chk (aB rZ r1)
 (.call ⟨[(7,(pc (pn rZ r1) 3))],[(3,(.mk [r0]))]⟩ [] 17 44 [(pc (pn rZ r1) 3),(pi 0),(cJ r1 (pi 1))]
 (.chk (.nt (.an (.an mY pT) (.nt (aB (pc o3 15) r1))))
 (.call ⟨[(18,mY)],[]⟩ [(18,true)] 27 99 [(aI 19 o3),r7,(pc (pn (pc o3 15) r1) 1)]
 (.chk (.nt (.an (.an (.pick lu fZ pF) pT) (.nt (aB (pc o3 15) r7))))
 (.call ⟨[(29,(.pick lu fZ pF))],[]⟩ [(29,true)] 37 105 [r2,(pc (pn (pc o3 15) r7) 0)]
 (.ret (.pick sd pv pF))))))))
theorem Xl:Fs.map told=some (Qs,[]):=by kernel_rfl
theorem amU:tree (ah Fs)=Qs:=bA Xl
def Fv:Option PC:=cF [6] [] Tryz.f99 99 [3]
def Jn:PT:=
 (.chk (.nt (.an (.an (.nt (ar r1 (pi 0))) pT) (.nt (aB rZ r1))))
 (.ret (.pick (ar r1 (pi 0)) pT (ar (pc (pn rZ r1) 1) r2))))
theorem Xo:Fv.map told=some (Jn,[]):=by kernel_rfl
theorem amZ:tree (ah Fv)=Jn:=bA Xo
def xu:Option PC:=cF [4,5,7] [] Tryz.f45 45 [2,3,6]
def Ka:Nat→PC:=cd xu
def aij (b:Nat→PC):PC:=.block 0 [4,11,12] [] (.loop [4,11] [] (b 0))
def IG (b:Nat→PC):PT:=
 (.ite ub
 (.blockS ⟨[],[]⟩ 1 [4,5,6,7,13,14,15,16,17,18,19,20,21,22,23,24,25,26,27,28,29,30,31,32,37,38,39,40,41,42,43,44,45,46,47,48,58,59,69,70,71,72,73] [6]
 (.chk (aB r9 bK)
 (.call ⟨[(5,bK)],[(6,(.setc z9 0 (pn r9 bK)))]⟩ [] 22 44 [(pc (.setc z9 0 (pn r9 bK)) 3),(pi 0),(cJ (pc o3 14) (pi 1))]
 (.ite (.nt zM)
 (.ret (pi 15))
 (.call ⟨[],[]⟩ [] 30 44 [(pc o6 7),(pi 0),(cJ (.llen (pc o2 1)) (pi 1))]
 (.call ⟨[(32,(.nt uc))],[]⟩ [(32,false)] 35 44 [(pc o6 0),(pi 0),(pi 9)]
 (.ite (.pick OI pT (.nt Iv))
 (.ret (pi 1))
 (.call ⟨[],[]⟩ [] 41 77 [(aI 8 o2),(aI 19 o3),(aI 9 o6)]
 (.ite (.nt wH)
 (.ret (pi 14))
 (.ite (bC (pc o6 4) (pi (-1)))
 (.chk (aB (pc o3 15) (pc o6 4))
 (.ite (bY r5 (pi 0))
 (.chk (aB (pc o3 17) (cJ r5 (pi 1)))
 (.call ⟨[],[]⟩ [] 72 44 [(pc o6 6),(.mx (.mx (pc o3 8) (pc (pn (pc o3 15) (pc o6 4)) 6)) (pc (pn (pc o3 17) (cJ r5 (pi 1))) 6)),(pi 100000)]
 (.ite (.nt Dm)
 (.ret (pi 13))
 (.next ⟨[],[]⟩))))
 (.call ⟨[],[]⟩ [] 72 44 [(pc o6 6),(.mx (pc o3 8) (pc (pn (pc o3 15) (pc o6 4)) 6)),(pi 100000)]
 (.ite (.nt Dm)
 (.ret (pi 13))
 (.next ⟨[],[]⟩)))))
 (.ite (bY r5 (pi 0))
 (.chk (aB (pc o3 17) (cJ r5 (pi 1)))
 (.call ⟨[],[]⟩ [] 72 44 [(pc o6 6),(.mx (pc o3 8) (pc (pn (pc o3 17) (cJ r5 (pi 1))) 6)),(pi 100000)]
 (.ite (.nt Dm)
 (.ret (pi 13))
 (.next ⟨[],[]⟩))))
 (.call ⟨[],[]⟩ [] 72 44 [(pc o6 6),(pc o3 8),(pi 100000)]
 (.ite (.nt Dm)
 (.ret (pi 13))
 (.next ⟨[],[]⟩)))))))))))))
 (.next ⟨[(11,(bB bK (pi 1)))],[]⟩))
 (.exit 0 ⟨[(12,ub)],[]⟩))
def Qr (b:Nat→PC):PT:=
 (.brk ⟨[(11,(pi 0)),(10,(.llen (pc (.mk [r1]) 17))),(9,(pc (.mk [r1]) 17)),(4,(pi 0))],[(3,(.mk [r1])),(2,(.mk [r0]))]⟩
(aij b)
 (.ret (pi 0)))
def adV (b:Nat→PC):PT×List (Shp×PT):=(Qr b,[(.lp 0 [4,11,12] [] [4,11] [],IG b)])
theorem NN:xu.map told=some (adV (bT xu)):=by kernel_rfl
theorem amT:tree (ah xu)=Qr Ka:=cT NN
theorem YT:round 0 [4,11,12] [] [4,11] [] (Ka 0)=IG Ka:=bN NN 0 fun _=>rfl
def Fq:Option PC:=cF [6,7,8,9,65,80,100,111] [] Tryz.f77 77 [3,4,5]
def Qq:PT:=
 (.call ⟨[],[(5,(.mk [r2])),(4,(.mk [r1])),(3,(.mk [r0]))]⟩ [] 16 44 [(pc (.mk [r2]) 4),(pi 0),(cJ (.llen (pc (.mk [r1]) 15)) (pi 1))]
 (.call ⟨[(17,dE)],[]⟩ [(17,true)] 23 99 [(aI 19 o4),(pc o5 4),(pc o5 3)]
 (.chk (.nt (.an (.an (.pick mY jk pF) pT) (.nt (aB (pc o4 15) (pc o5 4)))))
 (.call ⟨[(8,(.pick (.pick mY jk pF) (ar (pc (pn (pc o4 15) (pc o5 4)) 2) (pc o5 1)) pF)),(7,(.pick mY jk pF))],[]⟩ [] 44 44 [(pc o5 2),(pi 0),Is]
 (.call ⟨[(9,Dj)],[]⟩ [] 51 44 [(pc o5 1),(pi 0),Is]
 (.ite (.pick (.nt px) pT (.pick (bC (pc o5 0) (pi 4)) (bC (pc o5 8) (pi 0)) pF))
 (.ret pF)
 (.blockS ⟨[(64,(pc o5 0))],[]⟩ 0 [6,65,66,80,81,100,101,111,112] []
 (.iteS ⟨[],[]⟩ (.pick (ar jJ (pi 0)) (ar jJ (pi 0)) (.pick (ar jJ (pi 1)) (ar jJ (pi 1)) (ar jJ (pi 2)))) [6,80,81,100,101,111,112] []
 (.ret (.pick (.pick r9 (ar (pc o5 4) (pi (-1))) pF) (ar (pc o5 5) (pi 0)) pF))
 (.iteS ⟨[],[]⟩ (.pick (ar jJ (pi 3)) (ar jJ (pi 3)) (.pick (ar jJ (pi 5)) (ar jJ (pi 5)) (ar jJ (pi 4)))) [6,100,101,111,112] []
 (.call ⟨[(90,(.pick r9 (ar (pc o5 4) (pi (-1))) pF))],[]⟩ [(90,true)] 93 44 [(pc o5 5),(pi 0),zJ]
 (.call ⟨[(95,(.pick r90 OP pF))],[]⟩ [(95,true)] 98 44 [(pc o5 8),(pi 0),(pi 1)]
 (.ret (.pick r95 r98 pF))))
 (.iteS ⟨[],[]⟩ (ar jJ (pi 6)) [6,111,112] []
 (.call ⟨[(106,(.pick r9 r8 pF))],[]⟩ [(106,true)] 109 44 [(pc o5 5),(pi 1),zJ]
 (.ret (.pick akL akM pF)))
 (.ite (ar jJ (pi 9))
 (.ret (.pick (.pick (ar (pc o5 2) (pi (-1))) r8 pF) (ar (pc o5 5) (pi 0)) pF))
 (.next ⟨[],[]⟩))
 (.next ⟨[],[]⟩))
 (.next ⟨[],[]⟩))
 (.next ⟨[],[]⟩))
 (.ret (.pick (.pick (ar (pc o5 2) (pi (-1))) r7 pF) (ar (pc o5 5) (pi 0)) pF)))))))))
theorem Xk:Fq.map told=some (Qq,[]):=by kernel_rfl
theorem amS:tree (ah Fq)=Qq:=bA Xk
def xw:Option PC:=cF [2,3] [] Tryz.f46 46 [1,4,5]
def Kb:Nat→PC:=cd xw
def aik (b:Nat→PC):PC:=.block 0 [2,9,10] [] (.loop [2,9] [] (b 0))
def II (b:Nat→PC):PT:=
 (.ite (ak r9 r8)
 (.blockS ⟨[],[]⟩ 1 [2,3,4,11,12,13,14,15,16,17,18,27,28,33,34,35] [4]
 (.chk (aB r7 r9)
 (.call ⟨[(3,r9)],[(4,(.setc z3 0 (pn r7 r9)))]⟩ [] 16 44 [(pc (.setc z3 0 (pn r7 r9)) 0),(pi 0),(pi 4)]
 (.call ⟨[(18,(.nt dE))],[]⟩ [(18,false)] 25 44 [(pc o4 1),(pi 0),(cJ (.llen (pc o1 15)) (pi 1))]
 (.call ⟨[(28,(.pick lu pT (.nt mg)))],[]⟩ [(28,false)] 31 44 [(pc o4 2),(pi 0),(pi 1)]
 (.ite (.pick Di pT (.nt zN))
 (.ret (pi 1))
 (.ite (ar r3 (pi 0))
 (.exit 1 ⟨[],[]⟩)
 (.chk (aB (pc o1 18) (cJ r3 (pi 1)))
 (.call ⟨[],[(5,(.setc z3 0 (pn (pc o1 18) (cJ r3 (pi 1)))))]⟩ [] 46 38 [(pc (.setc z3 0 (pn (pc o1 18) (cJ r3 (pi 1)))) 1),(pc o4 1)]
 (.call ⟨[],[]⟩ [] 51 38 [(pc o5 0),(pc o4 0)]
 (.call ⟨[],[]⟩ [] 53 37 [(.lst [OJ,px])]
 (.ite (dD OM (pi 0))
 (.ret (pi 5))
 (.next ⟨[],[]⟩))))))))))))
 (.next ⟨[(9,(bB r9 (pi 1)))],[]⟩))
 (.exit 0 ⟨[(10,(ak r9 r8))],[]⟩))
def Qt (b:Nat→PC):PT:=
 (.brk ⟨[(9,(pi 0)),(8,(.llen zK)),(7,zK),(2,(pi 0))],[(1,(.mk [r0]))]⟩
(aik b)
 (.ret (pi 0)))
def adW (b:Nat→PC):PT×List (Shp×PT):=(Qt b,[(.lp 0 [2,9,10] [] [2,9] [],II b)])
theorem NO:xw.map told=some (adW (bT xw)):=by kernel_rfl
theorem amV:tree (ah xw)=Qt Kb:=cT NO
theorem YU:round 0 [2,9,10] [] [2,9] [] (Kb 0)=II Kb:=bN NO 0 fun _=>rfl
def Fc:Option PC:=cF [4,5,6] [] Tryz.f38 38 []
def Qa:PT:=
 (.call ⟨[],[]⟩ [] 8 70 [r0]
 (.call ⟨[(5,r8)],[]⟩ [] 10 70 [r1]
 (.ite r5
 (.ite fP
 (.ret (pi 0))
 (.ret (pi (-1))))
 (.ite fP
 (.ret (pi 1))
 (.ite (ak r0 r1)
 (.ret (pi (-1)))
 (.ite (bY r0 r1)
 (.ret (pi 1))
 (.ret (pi 0))))))))
theorem W7:Fc.map told=some (Qa,[]):=by kernel_rfl
theorem amB:tree (ah Fc)=Qa:=bA W7
def Fe:Option PC:=cF [2] [] Tryz.f70 70 []
def Qc:PT:=
 (.ret (bC r0 r0))
theorem W8:Fe.map told=some (Qc,[]):=by kernel_rfl
theorem amD:tree (ah Fe)=Qc:=bA W8
end Rm
