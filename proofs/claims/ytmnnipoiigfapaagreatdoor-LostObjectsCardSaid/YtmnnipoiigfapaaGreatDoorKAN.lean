/-
  The functions of this seat, compiled (3).
-/
import Derived.Test.YtmnnipoiigfapaaGreatDoorKAK
import Derived.KernelRfl
set_option linter.unusedVariables false
set_option maxRecDepth 100000
noncomputable section
namespace Rm
open Go Go.Proofs Cx
def F9:Option PC:=cF [4] [] Tryz.f144 144 []
def Sd:PT:=
 (.call ⟨[],[]⟩ [] 7 157 [r0,r1]
 (.ret (dc r7 (pi 0))))
theorem YX:F9.map told=some (Sd,[]):=by kernel_rfl
theorem aqe:tree (ae F9)=Sd:=bo YX
def yo:Option PC:=cF [4,5] [] Tryz.f157 157 []
def KR:Nat→PC:=bB yo
def ak2 (b:Nat→PC):PC:=.block 0 [4,8,9] [] (.loop [4,8] [] (b 0))
def Ej (b:Nat→PC):PT:=
 (.ite (aj r8 r7)
 (.blockS ⟨[],[]⟩ 1 [4,5,10,11,12,13,14,15,16] []
 (.chk (ax r0 r8)
 (.callc ⟨[(5,r8)],[]⟩ [] 16 r1 [(pn r0 r8)]
 (.ite dP
 (.ret r5)
 (.next ⟨[],[]⟩))))
 (.next ⟨[(8,uu)],[]⟩))
 (.exit 0 ⟨[(9,(aj r8 r7))],[]⟩))
def Sk (b:Nat→PC):PT:=
 (.brk ⟨[(8,(pi 0)),(7,(.llen r0)),(4,(pi 0))],[]⟩
(ak2 b)
 (.ret (pi (-1))))
def afZ (b:Nat→PC):PT×List (Shp×PT):=(Sk b,[(.lp 0 [4,8,9] [] [4,8] [],Ej b)])
theorem Ow:yo.map told=some (afZ (bq yo)):=by kernel_rfl
theorem aqk:tree (ae yo)=Sk KR:=bO Ow
theorem Qd:round 0 [4,8,9] [] [4,8] [] (KR 0)=Ej KR:=bp Ow 0 fun _=>rfl
def xB:Option PC:=cF [8,9] [] Tryz.f130 130 [4,11]
def Kp:Nat→PC:=bB xB
def aj8 (b:Nat→PC):PC:=.block 0 [8,9,25,26] [] (.loop [8,9,25] [] (b 0))
def DF (b:Nat→PC):PT:=
 (.ite (aj jH nR)
 (.chk (ax mX jH)
 (.ite (.pick (aq (pc Dy 0) r2) (aU (pc Dy 1) (pi 0)) pF)
 (.chk (ax r3 (pc Dy 1))
 (.ret (.tup [(pn r3 (pc Dy 1)),(pc Dy 2)])))
 (.next ⟨[(25,(be jH (pi 1)))],[]⟩)))
 (.exit 0 ⟨[(26,(aj jH nR))],[]⟩))
def QZ (b:Nat→PC):PT:=
 (.call ⟨[(9,pF),(8,(pi 0))],[(4,(.mk [r0]))]⟩ [] 16 129 [kL,r1,r2,r3]
 (.ite (.nt dP)
 (.ret (.tup [(pi (-1)),pF]))
 (.chk (ax (pc o4 4) r1)
 (.brk ⟨[(25,(pi 0)),(24,(.llen (pc (pn (pc o4 4) r1) 2))),(23,(pc (pn (pc o4 4) r1) 2))],[]⟩
(aj8 b)
 (.ret (.tup [r1,pF]))))))
def afj (b:Nat→PC):PT×List (Shp×PT):=(QZ b,[(.lp 0 [8,9,25,26] [] [8,9,25] [],DF b)])
theorem N1:xB.map told=some (afj (bq xB)):=by kernel_rfl
theorem aoY:tree (ae xB)=QZ Kp:=bO N1
theorem Pt:round 0 [8,9,25,26] [] [8,9,25] [] (Kp 0)=DF Kp:=bp N1 0 fun _=>rfl
def FG:Option PC:=cF [7,9,11,12] [] Tryz.f84 84 [3,6,8,10]
def Ri:PT:=
 (.call ⟨[],[(6,fU)]⟩ [] 16 104 [(aw 4 (.mk [r0])),r1]
 (.ite (aU (.tget dP 1) (pi 0))
 (.ret (.tup [(.mk [(pc (.setc o6 0 wN) 0),(pc (.setc o6 0 wN) 1)]),(.tget dP 1)]))
 (.call ⟨[],[]⟩ [] 25 105 [(.mk [(pc (.setc mc 0 (.tget dP 0)) 0),(pc (.setc mc 0 (.tget dP 0)) 1),(pc (.setc mc 0 (.tget dP 0)) 2)]),r2]
 (.call ⟨[],[(10,(.setc fU 0 jH))]⟩ [] 28 101 [r1]
 (.ret (.tup [(.mk [(pc (.setc o6 0 (.mk [(pc II 0),(pc II 1)])) 0),(pc (.setc o6 0 (.mk [(pc II 0),(pc II 1)])) 1)]),(pi 0)]))))))
theorem Yv:FG.map told=some (Ri,[]):=by kernel_rfl
theorem aph:tree (ae FG)=Ri:=bo Yv
def FI:Option PC:=cF [5,6,7,8,10,11] [] Tryz.f104 104 [2,3,4,12292,9]
def Rk:PT:=
 (.call ⟨[],[(4,mc),(3,(.mk [r1])),(2,(.mk [r0]))]⟩ [] 14 101 [(pc (.mk [r1]) 0)]
 (.ite (.nt (.tget cv 1))
 (.ret (.tup [O1,(pi 1)]))
 (.call ⟨[(6,(.tget cv 0))],[]⟩ [] 23 131 [(pc o2 3),(.clo 132 [(.ref (pc o3 0))])]
 (.ite (aj mX (pi 0))
 (.ret (.tup [O1,(pi 4)]))
 (.chk (ax (pc o2 3) mX)
 (.call ⟨[],[(9,IL)]⟩ [] 35 133 [(.mk [(pc IL 0),(pc IL 1),(pc IL 2)])]
 (.ite (.pick (aU (.tget IS 1) (pi 0)) pT (aU (.tget IS 0) r6))
 (.ret (.tup [O1,(pi 11)]))
 (.ret (.tup [(.mk [(pc O7 0),(pc O7 1),(pc O7 2)]),(pi 0)])))))))))
theorem Yx:FI.map told=some (Rk,[]):=by kernel_rfl
theorem apk:tree (ae FI)=Rk:=bo Yx
def FJ:Option PC:=cF [3] [] Tryz.f132 132 [2]
def Rl:PT:=
 (.ret (aq mV (.deref r1)))
theorem Yy:FJ.map told=some (Rl,[]):=by kernel_rfl
theorem apj:tree (ae FJ)=Rl:=bo Yy
def yn:Option PC:=cF [4,5] [] Tryz.f131 131 []
def KQ:Nat→PC:=bB yn
def ak1 (b:Nat→PC):PC:=.block 0 [4,8,9] [] (.loop [4,8] [] (b 0))
def Ei (b:Nat→PC):PT:=
 (.ite (aj r8 r7)
 (.blockS ⟨[],[]⟩ 1 [4,5,10,11,12,13,14,15,16] []
 (.chk (ax r0 r8)
 (.callc ⟨[(5,r8)],[]⟩ [] 16 r1 [(pn r0 r8)]
 (.ite dP
 (.ret r5)
 (.next ⟨[],[]⟩))))
 (.next ⟨[(8,uu)],[]⟩))
 (.exit 0 ⟨[(9,(aj r8 r7))],[]⟩))
def Sj (b:Nat→PC):PT:=
 (.brk ⟨[(8,(pi 0)),(7,(.llen r0)),(4,(pi 0))],[]⟩
(ak1 b)
 (.ret (pi (-1))))
def afY (b:Nat→PC):PT×List (Shp×PT):=(Sj b,[(.lp 0 [4,8,9] [] [4,8] [],Ei b)])
theorem Ov:yn.map told=some (afY (bq yn)):=by kernel_rfl
theorem aqj:tree (ae yn)=Sj KQ:=bO Ov
theorem Qc:round 0 [4,8,9] [] [4,8] [] (KQ 0)=Ei KQ:=bp Ov 0 fun _=>rfl
def Gc:Option PC:=cF [2,3] [] Tryz.f133 133 [1]
def Sn:PT:=
 (.call ⟨[],[(1,(.mk [r0]))]⟩ [] 5 146 [(.mk [mV,wM,sw]),(pi 1)]
 (.ite (aX r5 (pi 60))
 (.ret (.tup [(pi 0),(pi 6)]))
 (.call ⟨[],[]⟩ [] 8 147 [(.mk [(pc o1 0),(pc o1 1),(pc o1 2)])]
 (.ret (.tup [(.tget r8 0),(.tget r8 1)])))))
theorem Za:Gc.map told=some (Sn,[]):=by kernel_rfl
theorem aqn:tree (ae Gc)=Sn:=bo Za
def vm:Option PC:=cF [4,5] [] Tryz.f146 146 [2,7,12295]
def KV:Nat→PC:=bB vm
def ak8 (b:Nat→PC):PC:=.block 0 [5,13,14] [] (.loop [5,13] [] (b 0))
def Eo (b:Nat→PC):PT:=
 (.ite (aj cW bP)
 (.blockS ⟨[(14,(aj cW bP))],[]⟩ 1 [5,7,15,16,17,18,19,20,21,22,23,24] [7,12295]
 (.chk (ax bG cW)
 (.call ⟨[(17,r5)],[]⟩ [] 21 146 [(.mk [(pc (.setc mc 0 (pn bG cW)) 0),(pc (.setc mc 0 (pn bG cW)) 1),(pc (.setc mc 0 (pn bG cW)) 2)]),(be r1 (pi 1))]
 (.ite (aX (be jb qF) (pi 60))
 (.exit 0 ⟨[(5,(be jb qF))],[]⟩)
 (.next ⟨[(5,(be jb qF))],[]⟩))))
 (.next ⟨[(13,(be cW (pi 1)))],[]⟩))
 (.exit 0 ⟨[(14,(aj cW bP))],[]⟩))
def JK (b:Nat→PC):PT:=
 (.ite (aX r1 (pi 8))
 (.ret (pi 61))
 (.brk ⟨[(13,(pi 0)),(12,pA),(11,sw),(5,(pi 1))],[]⟩
(ak8 b)
 (.ret r5)))
def af4 (b:Nat→PC):PT×List (Shp×PT):=(JK b,[(.lp 0 [5,13,14] [] [5,13] [],Eo b)])
theorem OA:vm.map told=some (af4 (bq vm)):=by kernel_rfl
theorem abE:tree (ae vm)=JK KV:=bO OA
theorem Qi:round 0 [5,13,14] [] [5,13] [] (KV 0)=Eo KV:=bp OA 0 fun _=>rfl
def yr:Option PC:=cF [2,3,5,7,8,38,47,10,11,12] [] Tryz.f147 147 [1,4,6,12294,9]
def Bg:Nat→PC:=bB yr
def ak5 (b:Nat→PC):PC:=.block 0 [2,3,20,21] [4] (.loop [2,3,20] [4] (b 0))
def ak6 (b:Nat→PC):PC:=.block 3 [2,3,10,82,83] [] (.loop [2,3,10,82] [] (b 1))
def Em (b:Nat→PC):PT:=
 (.ite (aj fV jG)
 (.blockS ⟨[],[]⟩ 1 [2,3,5,6,7,8,22,23,24,25,26,27,28,29,30,31,33,34,35,36] [6,12294,4]
 (.chk (ax lf fV)
 (.call ⟨[(5,fV)],[]⟩ [] 27 147 [(.mk [(pc (.setc mc 0 (pn lf fV)) 0),(pc (.setc mc 0 (pn lf fV)) 1),(pc (.setc mc 0 (pn lf fV)) 2)])]
 (.ite (aU (.tget fW 1) (pi 0))
 (.ret (.tup [(pi 0),(.tget fW 1)]))
 (.chk (ax o4 r5)
 (.next ⟨[],[(4,(.setn o4 r5 0 (.tget fW 0)))]⟩)))))
 (.next ⟨[(20,(be fV (pi 1)))],[]⟩))
 (.exit 0 ⟨[(21,(aj fV jG))],[]⟩))
def uB (b:Nat→PC):PT:=
 (.ite (aj j9 wS)
 (.chk (ax uz j9)
 (.ite (.pick (aq (pn uz j9) (pi (-1))) (aq de (pi (-1))) pF)
 (.chk (ax o4 j9)
 (.ite (aU (pn o4 j9) (.pick (aq (pn uz j9) (pi (-1))) (pn o4 j9) (pn uz j9)))
 (.ret (.tup [(pi 0),(pi 11)]))
 (.next ⟨[(10,(pn o4 j9)),(82,(be j9 (pi 1)))],[]⟩)))
 (.chk (ax o4 j9)
 (.ite (aU (pn o4 j9) (.pick (aq (pn uz j9) (pi (-1))) de (pn uz j9)))
 (.ret (.tup [(pi 0),(pi 11)]))
 (.next ⟨[(82,(be j9 (pi 1)))],[]⟩)))))
 (.exit 3 ⟨[(83,(aj j9 wS))],[]⟩))
def Sr (b:Nat→PC):PT:=
 (.chk (.an (dc pA (pi 0)) (bF pA cq))
 (.chk (aq pA pA)
 (.brk ⟨[(20,(pi 0)),(19,pA),(18,sw),(4,pN),(3,(pi 0)),(2,(pi 0))],[(4,(.rep pA (pi 0))),(1,(.mk [r0]))]⟩
(ak5 b)
 (.blockS ⟨[],[]⟩ 2 [2,3,38,39,40,41,42,46,47,48,49,50,51,55,56,60] []
 (.iteS ⟨[],[]⟩ (.pick (aj (pc o1 0) (pi 0)) pT (aX (pc o1 0) (pi 13))) [2,3,47,48,49,50,51,55,56,60] []
 (.ret (.tup [(pi 0),(pi 1)]))
 (.iteS ⟨[],[]⟩ (.pick (.pick (aq (pc o1 0) (pi 0)) pT (aq (pc o1 0) (pi 1))) pT (aq (pc o1 0) (pi 2))) [2,3] []
 (.call ⟨[],[]⟩ [] 62 158 [(.mk [(pc o1 0),(pc o1 1),(pc o1 2)])]
 (.ret (.tup [(.tget mg 0),(.tget mg 1)])))
 (.next ⟨[],[]⟩)
 (.next ⟨[],[]⟩))
 (.next ⟨[],[]⟩))
 (.call ⟨[],[]⟩ [] 67 159 [(pc o1 0)]
 (.ite (.pick (aU (.llen o4) (.llen (pc (.setc kY 0 sI) 0))) pT (aU (pc o1 1) (pi 0)))
 (.ret (.tup [(pi 0),(pi 2)]))
 (.brk ⟨[(82,(pi 0)),(81,(.llen (pc (.setc kY 0 sI) 0))),(80,(pc (.setc kY 0 sI) 0)),(10,(pi (-1)))],[(9,(.setc kY 0 sI))]⟩
(ak6 b)
 (.ite (aq (pc o9 1) (pi (-1)))
 (.ret (.tup [de,(pi 0)]))
 (.ret (.tup [(pc o9 1),(pi 0)]))))))))))
def af2 (b:Nat→PC):PT×List (Shp×PT):=(Sr b,[(.lp 0 [2,3,20,21] [4] [2,3,20] [4],Em b),(.lp 3 [2,3,10,82,83] [] [2,3,10,82] [],uB b)])
theorem Is:yr.map told=some (af2 (bq yr)):=by kernel_rfl
theorem aqr:tree (ae yr)=Sr Bg:=bO Is
theorem Qg:round 0 [2,3,20,21] [4] [2,3,20] [4] (Bg 0)=Em Bg:=bp Is 0 fun _=>rfl
theorem At:round 3 [2,3,10,82,83] [] [2,3,10,82] [] (Bg 1)=uB Bg:=bp Is 1 fun _=>rfl
def Gj:Option PC:=cF [2,3,12,20,4,5] [] Tryz.f158 158 [1]
def Sv:PT:=
 (.ite (aX pA (pi 0))
 (.ret (.tup [(pi 0),(pi 2)]))
 (.blockS ⟨[(11,mV)],[(1,(.mk [r0]))]⟩ 0 [2,3,12,13,20,21] []
 (.iteS ⟨[],[]⟩ (aq bG (pi 0)) [2,3,20,21] []
 (.call ⟨[],[]⟩ [] 16 162 [(pc o1 1)]
 (.ite (aU dP (pc o1 1))
 (.ret (.tup [(pi 0),(pi 3)]))
 (.ret (.tup [(pi 0),(pi 0)]))))
 (.ite (aq bG (pi 1))
 (.ite (.pick (aj (pc o1 1) (pi 0)) pT (aX (pc o1 1) (pi 1)))
 (.ret (.tup [(pi 0),(pi 3)]))
 (.ret (.tup [(pi 1),(pi 0)])))
 (.next ⟨[],[]⟩))
 (.next ⟨[],[]⟩))
 (.call ⟨[],[]⟩ [] 33 160 [(pc o1 1)]
 (.ite (.nt (.tget DC 1))
 (.ret (.tup [(pi 0),(pi 10)]))
 (.ret (.tup [(.tget DC 0),(pi 0)]))))))
theorem Zg:Gj.map told=some (Sv,[]):=by kernel_rfl
theorem aqu:tree (ae Gj)=Sv:=bo Zg
def Gi:Option PC:=cF [2] [] Tryz.f162 162 []
def Su:PT:=
 (.ret (.mn (.mx r0 (pi (-1099511627776))) Af))
theorem Zf:Gi.map told=some (Su,[]):=by kernel_rfl
theorem aqt:tree (ae Gi)=Su:=bo Zf
def Ge:Option PC:=cF [2,3,4,11] [] Tryz.f160 160 []
def Sp:PT:=
 (.ite (.pick (aj r0 (pi 0)) pT (aX r0 (pi 19)))
 (.ret (.tup [(pi 0),pF]))
 (.ite (aj r0 (pi 7))
 (.ret (.tup [(pi 0),pT]))
 (.ret (.tup [(pi 1),pT]))))
theorem Zc:Ge.map told=some (Sp,[]):=by kernel_rfl
theorem aqp:tree (ae Ge)=Sp:=bo Zc
def Gm:Option PC:=cF [4,8,13,17,21] [] Tryz.f159 159 [2]
def Sz:PT:=
 (.ite (aq r0 (pi 3))
 (.ret (.mk [(pc (.setc kY 0 (.mk [(.lst [(pi 1)]),(pi 1)])) 0),(pc (.setc kY 0 (.mk [(.lst [(pi 1)]),(pi 1)])) 1)]))
 (.ite (.pick (aq r0 (pi 4)) (aq r0 (pi 4)) (aq r0 (pi 5)))
 (.ret (.mk [(pc (.setc kY 0 (.mk [(.lst [(pi 1),(pi 1)]),(pi 1)])) 0),(pc (.setc kY 0 (.mk [(.lst [(pi 1),(pi 1)]),(pi 1)])) 1)]))
 (.ite (aq r0 (pi 6))
 (.ret (.mk [(pc aae 0),(pc aae 1)]))
 (.ite (aq r0 (pi 7))
 (.ret (.mk [(pc (.setc kY 0 (.mk [(.lst [(pi 0),(pi 0)]),(pi 1)])) 0),(pc (.setc kY 0 (.mk [(.lst [(pi 0),(pi 0)]),(pi 1)])) 1)]))
 (.ite (aq r0 (pi 8))
 (.ret (.mk [(pc (.setc kY 0 (.mk [(.lst [(pi (-1)),(pi (-1))]),(pi 1)])) 0),(pc (.setc kY 0 (.mk [(.lst [(pi (-1)),(pi (-1))]),(pi 1)])) 1)]))
 (.ret (.mk [(pc (.setc kY 0 (.mk [(.lst [(pi 0),(pi 0)]),(pi 0)])) 0),(pc (.setc kY 0 (.mk [(.lst [(pi 0),(pi 0)]),(pi 0)])) 1)])))))))
theorem Zj:Gm.map told=some (Sz,[]):=by kernel_rfl
theorem aqy:tree (ae Gm)=Sz:=bo Zj
def Gd:Option PC:=cF [5,6,8] [] Tryz.f105 105 [2,4,7]
def So:PT:=
 (.call ⟨[],[(4,fU),(2,(.mk [r0]))]⟩ [] 11 133 [(.mk [mV,wM,sw])]
 (.ite (aU (.tget bG 1) (pi 0))
 (.ret Dv)
 (.call ⟨[],[]⟩ [] 21 134 [(.mk [r1]),(.mk [(pc o2 0),(pc o2 1),(pc o2 2)])]
 (.ret (.mk [(pc Z9 0),(pc Z9 1)])))))
theorem Zb:Gd.map told=some (So,[]):=by kernel_rfl
theorem aqo:tree (ae Gd)=So:=bo Zb
def yt:Option PC:=cF [5,15,21,9,11] [] Tryz.f134 134 [2,3,4,6,33,7,8,10,12298,12]
def KU:Nat→PC:=bB yt
def ak7 (b:Nat→PC):PC:=.block 1 [45,46] [7,8] (.loop [45] [7,8] (b 0))
def En (b:Nat→PC):PT:=
 (.ite (aj qI Aj)
 (.blockS ⟨[],[]⟩ 2 [9,10,47,48,49,50,51,52,53,54,55,56,57,58,59,60,61] [10,12298,8,7]
 (.chk (ax sG qI)
 (.call ⟨[(54,qI),(52,qI)],[]⟩ [] 57 134 [(.mk [(pc o2 0)]),(.mk [(pc (.setc mc 0 (pn sG qI)) 0),(pc (.setc mc 0 (pn sG qI)) 1),(pc (.setc mc 0 (pn sG qI)) 2)])]
 (.chk (ax o7 IU)
 (.chk (ax o8 qJ)
 (.next ⟨[],[(8,(.setn o8 qJ 0 (.tget Ak 1))),(7,(.setn o7 IU 0 (.tget Ak 0)))]⟩)))))
 (.next ⟨[(45,(be qI (pi 1)))],[]⟩))
 (.exit 1 ⟨[(46,(aj qI Aj))],[]⟩))
def EK (b:Nat→PC):PT:=
 (.blockS ⟨[(14,(pc (.mk [r1]) 0))],[(4,fU),(3,(.mk [r1])),(2,(.mk [r0]))]⟩ 0 [5,15,16,21,22] [4]
 (.iteS ⟨[],[]⟩ (.pick (aq cv (pi 0)) (aq cv (pi 0)) (aq cv (pi 1))) [5,21,22] [4]
 (.ret (.tup [(.mk [(pc (.setc o4 0 (.mk [pT,(pc o3 1)])) 0),(pc (.setc o4 0 (.mk [pT,(pc o3 1)])) 1)]),pL]))
 (.iteS ⟨[],[]⟩ (aq cv (pi 2)) [5] [4]
 (.call ⟨[],[]⟩ [] 26 148 [(.mk [(pc o2 0)]),(pc o3 1)]
 (.ite (pc (.setc fU 0 j8) 0)
 (.ret (.tup [(.mk [(pc aac 0),(pc aac 1)]),pL]))
 (.ret (.tup [Dv,(.lst [(pc o3 1)])]))))
 (.next ⟨[],[]⟩)
 (.next ⟨[],[]⟩))
 (.next ⟨[],[]⟩))
 (.chk (.an (dc nP (pi 0)) (bF nP cq))
 (.chk (aq nP nP)
 (.brk ⟨[(45,(pi 0)),(44,nP),(43,(pc o3 2)),(8,pN),(7,pN)],[(8,(.rep nP pL)),(7,(.rep nP fU))]⟩
(ak7 b)
 (.chk (.nt (.an (.an (aq (pc o3 0) (pi 6)) pT) (.nt (ax o7 (pi 0)))))
 (.ite (.pick (aq (pc o3 0) (pi 6)) (pc (pn o7 (pi 0)) 0) pF)
 (.chk (ax o7 (pi 0))
 (.chk (ax o7 Dx)
 (.chk (ax o8 Dx)
 (.ret (.tup [(.mk [(pc (.setc o4 0 (.sub (pn o7 Dx) 0 2)) 0),(pc (.setc o4 0 (.sub (pn o7 Dx) 0 2)) 1)]),(pn o8 Dx)])))))
 (.call ⟨[],[]⟩ [] 88 149 [(pc o3 0),o7]
 (.ite (pc (.setc fU 0 IY) 0)
 (.ret (.tup [(.mk [(pc aab 0),(pc aab 1)]),pL]))
 (.call ⟨[(92,wN)],[]⟩ [] 94 150 [o8]
 (.ret (.tup [(.mk [(pc (.setc o4 0 r92) 0),(pc (.setc o4 0 r92) 1)]),r94])))))))))))
def af3 (b:Nat→PC):PT×List (Shp×PT):=(EK b,[(.lp 1 [45,46] [7,8] [45] [7,8],En b)])
theorem Oz:yt.map told=some (af3 (bq yt)):=by kernel_rfl
theorem aqv:tree (ae yt)=EK KU:=bO Oz
theorem Qh:round 1 [45,46] [7,8] [45] [7,8] (KU 0)=En KU:=bp Oz 0 fun _=>rfl
def Gk:Option PC:=cF [5,6] [] Tryz.f148 148 [2,4]
def Sw:PT:=
 (.chk (.nt (.an (.an (.nt (dc r1 (.llen mV))) pT) (.nt (ax mV r1))))
 (.ite (.pick (dc r1 (.llen mV)) pT (.nt (pc (pn mV r1) 0)))
 (.ret (.mk [(pc (.setc fU 0 wN) 0),(pc (.setc fU 0 wN) 1)]))
 (.call ⟨[],[(4,fU),(2,(.mk [r0]))]⟩ [] 24 160 [r1]
 (.iteS ⟨[],[]⟩ (aq (.tget nR 0) (pi 1)) [] [4]
 (.chk (ax (pc o2 0) r1)
 (.call ⟨[],[]⟩ [] 36 161 [(aU (pc (pn (pc o2 0) r1) 1) (pi 0))]
 (.ret (.mk [(pc (.setc o4 0 pC) 0),(pc (.setc o4 0 pC) 1)]))))
 (.next ⟨[],[]⟩)
 (.chk (ax (pc o2 0) r1)
 (.call ⟨[],[]⟩ [] 43 162 [(pc (pn (pc o2 0) r1) 1)]
 (.ret (.mk [(pc (.setc o4 0 (.mk [pT,sG])) 0),(pc (.setc o4 0 (.mk [pT,sG])) 1)]))))))))
theorem Zh:Gk.map told=some (Sw,[]):=by kernel_rfl
theorem aqw:tree (ae Gk)=Sw:=bo Zh
def Gn:Option PC:=cF [] [] Tryz.f161 161 [2]
def SA:PT:=
 (.ite r0
 (.ret (.mk [(pc IM 0),(pc IM 1)]))
 (.ret (.mk [(pc IP 0),(pc IP 1)])))
theorem Zk:Gn.map told=some (SA,[]):=by kernel_rfl
theorem aqz:tree (ae Gn)=SA:=bo Zk
def Gg:Option PC:=cF [9,22,41,6,7,82,88,94] [] Tryz.f149 149 [4,5]
def Ss:PT:=
 (.blockS ⟨[(8,r0)],[(4,fU)]⟩ 0 [9,10,22,23] [4]
 (.iteS ⟨[],[]⟩ (aq r8 (pi 3)) [22,23] [4]
 (.chk (ax r1 (pi 0))
 (.iteS ⟨[],[]⟩ (pc (pn r1 (pi 0)) 0) [] [4]
 (.chk (ax r1 (pi 0))
 (.call ⟨[],[]⟩ [] 20 161 [(aq (pc (pn r1 (pi 0)) 1) (pi 0))]
 (.ret (.mk [(pc (.setc o4 0 fV) 0),(pc (.setc o4 0 fV) 1)]))))
 (.next ⟨[],[]⟩)
 (.ret Dv)))
 (.iteS ⟨[],[]⟩ (.pick (aq r8 (pi 4)) (aq r8 (pi 4)) (aq r8 (pi 5))) [] [4]
 (.call ⟨[],[]⟩ [] 27 161 [(aq r0 (pi 5))]
 (.chk (ax r1 (pi 0))
 (.chk (.nt (.an (.an (.nt Z6) pT) (.nt (ax r1 (pi 1)))))
 (.ite (.pick Z6 pT (.an (.cb .eql (pc pz 0) (pc z8 0)) (.an (aq (pc pz 1) (pc z8 1)) pT)))
 (.ret (.mk [(pc (.setc o4 0 z8) 0),(pc (.setc o4 0 z8) 1)]))
 (.next ⟨[],[]⟩)))))
 (.ite (aq r8 (pi 6))
 (.chk (ax r1 (pi 1))
 (.chk (.nt (.an (.an (pc pz 0) pT) (.nt (ax r1 (pi 1)))))
 (.chk (.nt (.an (.an (pc pz 0) pT) (.nt (ax r1 (pi 2)))))
 (.ite (.pick (pc pz 0) (.an (.cb .eql (pc pz 0) (pc (pn r1 (pi 2)) 0)) (.an (aq (pc pz 1) (pc (pn r1 (pi 2)) 1)) pT)) pF)
 (.ret (.mk [(pc (.setc o4 0 pz) 0),(pc (.setc o4 0 pz) 1)]))
 (.ret Dv)))))
 (.next ⟨[],[]⟩))
 (.next ⟨[],[]⟩))
 (.next ⟨[],[]⟩))
 (.chk (ax r1 (pi 0))
 (.chk (.nt (.an (.an (.nt (.nt (pc (pn r1 (pi 0)) 0))) pT) (.nt (ax r1 (pi 1)))))
 (.ite (.pick (.nt (pc (pn r1 (pi 0)) 0)) pT (.nt (pc pz 0)))
 (.ret Dv)
 (.chk (ax r1 (pi 1))
 (.blockS ⟨[(81,r0),(7,(pc pz 1)),(6,(pc (pn r1 (pi 0)) 1))],[]⟩ 1 [82,83,88,89,94,95] [4]
 (.iteS ⟨[],[]⟩ (.pick (aq wS (pi 4)) (aq wS (pi 4)) (aq wS (pi 5))) [88,89,94,95] [4]
 (.call ⟨[],[]⟩ [] 87 161 [(aq r0 (pi 4))]
 (.ret (.mk [(pc (.setc o4 0 IX) 0),(pc (.setc o4 0 IX) 1)])))
 (.iteS ⟨[],[]⟩ (aq wS (pi 7)) [94,95] [4]
 (.call ⟨[],[]⟩ [] 93 161 [(aj r6 r7)]
 (.ret (.mk [(pc (.setc o4 0 IZ) 0),(pc (.setc o4 0 IZ) 1)])))
 (.iteS ⟨[],[]⟩ (aq wS (pi 8)) [] [4]
 (.call ⟨[],[]⟩ [] 99 161 [(aq r6 r7)]
 (.ret (.mk [(pc (.setc o4 0 Pn) 0),(pc (.setc o4 0 Pn) 1)])))
 (.next ⟨[],[]⟩)
 (.next ⟨[],[]⟩))
 (.next ⟨[],[]⟩))
 (.next ⟨[],[]⟩))
 (.call ⟨[],[]⟩ [] 103 163 [r0,r6,r7]
 (.ret (.mk [(pc (.setc o4 0 (.mk [pT,aag])) 0),(pc (.setc o4 0 (.mk [pT,aag])) 1)])))))))))
theorem Ze:Gg.map told=some (Ss,[]):=by kernel_rfl
theorem aqs:tree (ae Gg)=Ss:=bo Ze
def Gf:Option PC:=cF [6,8,14,20,25] [] Tryz.f163 163 []
def Sq:PT:=
 (.blockS ⟨[(7,r0)],[]⟩ 0 [6,8,9,14,15,20,21,25,26] []
 (.iteS ⟨[],[]⟩ (aq r7 (pi 9)) [6,14,15,20,21,25,26] []
 (.call ⟨[],[]⟩ [] 13 162 [(be r1 r2)]
 (.ret cW))
 (.iteS ⟨[],[]⟩ (aq r7 (pi 10)) [6,20,21,25,26] []
 (.call ⟨[],[]⟩ [] 19 162 [(bW r1 r2)]
 (.ret jG))
 (.iteS ⟨[],[]⟩ (aq r7 (pi 11)) [6,25,26] []
 (.call ⟨[],[]⟩ [] 24 171 [r1,r2]
 (.ret nR))
 (.ite (aq r7 (pi 12))
 (.ret (.mn r1 r2))
 (.next ⟨[],[]⟩))
 (.next ⟨[],[]⟩))
 (.next ⟨[],[]⟩))
 (.next ⟨[],[]⟩))
 (.ret (.mx r1 r2)))
theorem Zd:Gf.map told=some (Sq,[]):=by kernel_rfl
theorem aqq:tree (ae Gf)=Sq:=bo Zd
def Gl:Option PC:=cF [4,5,6,7] [] Tryz.f171 171 []
def Sy:PT:=
 (.call ⟨[],[]⟩ [] 19 173 [(.conv .u64 (.mx r0 (bW (pi 0) r0))),(.conv .u64 (.mx r1 (bW (pi 0) r1)))]
 (.ite (.cb .neq (aj r0 (pi 0)) (aj r1 (pi 0)))
 (.ret (bW (pi 0) ZW))
 (.ret ZW)))
theorem Zi:Gl.map told=some (Sy,[]):=by kernel_rfl
theorem aqx:tree (ae Gl)=Sy:=bo Zi
def Fq:Option PC:=cF [4,5,6,7,8,9,10,11,12,13] [] Tryz.f173 173 []
def QU:PT:=
 (.chk (dc Ae (pi 0))
 (.ret (.tup [(.ai .add .u64 (.ai .add .u64 (.ai .mul .u64 (.ai .shr .u64 r0 Ae) (.ai .shr .u64 r1 Ae)) (.ai .shr .u64 ZT Ae)) (.ai .shr .u64 (.ai .add .u64 (.ai .and .u64 ZT (.con (.v (.int .u64 4294967295)))) (.ai .mul .u64 (.ai .and .u64 r0 (.con (.v (.int .u64 4294967295)))) (.ai .shr .u64 r1 Ae))) Ae)),(.ai .mul .u64 r0 r1)])))
theorem Yf:Fq.map told=some (QU,[]):=by kernel_rfl
theorem aoT:tree (ae Fq)=QU:=bo Yf
def yj:Option PC:=cF [2,3,5,8] [] Tryz.f150 150 [6]
def Bf:Nat→PC:=bB yj
def akX (b:Nat→PC):PC:=.block 0 [3,11,12] [] (.loop [3,11] [] (b 0))
def akY (b:Nat→PC):PC:=.block 2 [6,27,28] [6] (.loop [6,27] [6] (b 1))
def Je (b:Nat→PC):PT:=
 (.ite (aj bG de)
 (.chk (ax r9 bG)
 (.ite (aj (be r3 (.llen (pn r9 bG))) (pi 0))
 (.chk (.nt pT)
 (.chk (.nt pT)
 (.next ⟨[(3,(be r3 (.llen (pn r9 bG)))),(11,(be bG (pi 1)))],[]⟩)))
 (.next ⟨[(3,(be r3 (.llen (pn r9 bG)))),(11,(be bG (pi 1)))],[]⟩)))
 (.exit 0 ⟨[(12,(aj bG de))],[]⟩))
def Jf (b:Nat→PC):PT:=
 (.ite (aj fW j8)
 (.chk (ax jH fW)
 (.chk (bF (.llen (.app o6 (pn jH fW))) cq)
 (.next ⟨[(6,pN),(27,(be fW (pi 1)))],[(6,(.app o6 (pn jH fW)))]⟩)))
 (.exit 2 ⟨[(28,(aj fW j8))],[]⟩))
def Sa (b:Nat→PC):PT:=
 (.brk ⟨[(11,(pi 0)),(10,(.llen r0)),(9,r0),(3,(pi 0))],[]⟩
(akX b)
 (.call ⟨[],[]⟩ [] 24 164 [pL,r3]
 (.brk ⟨[(27,(pi 0)),(26,(.llen r0)),(25,r0),(6,pN)],[(6,nR)]⟩
(akY b)
 (.ret o6))))
def afV (b:Nat→PC):PT×List (Shp×PT):=(Sa b,[(.lp 0 [3,11,12] [] [3,11] [],Je b),(.lp 2 [6,27,28] [6] [6,27] [6],Jf b)])
theorem Ir:yj.map told=some (afV (bq yj)):=by kernel_rfl
theorem aqb:tree (ae yj)=Sa Bf:=bO Ir
theorem aaz:round 0 [3,11,12] [] [3,11] [] (Bf 0)=Je Bf:=bp Ir 0 fun _=>rfl
theorem aaA:round 2 [6,27,28] [6] [6,27] [6] (Bf 1)=Jf Bf:=bp Ir 1 fun _=>rfl
def Fk:Option PC:=cF [2] [] Tryz.f34 34 [1]
def QQ:PT:=
 (.ite (.pick (aU (pc (.mk [r0]) 4) (pi 0)) pT (.nt mV))
 (.ret (pi (-1)))
 (.ret wM))
theorem Ya:Fk.map told=some (QQ,[]):=by kernel_rfl
theorem aoO:tree (ae Fk)=QQ:=bo Ya
def yu:Option PC:=cF [10] [] Tryz.f12 12 [3,6,7,4103,24583,8,9,11,47]
def E9:Nat→PC:=bB yu
def UB (b:Nat→PC):PC:=.each Pl [30,31] [11,4103,24583,7] none (b 0)
def Qj (b:Nat→PC):PT:=
 (.blockS ⟨[(11,pN),(10,pB)],[(11,(.setc z9 0 uw)),(11,z9)]⟩ 1 [32,33,34,35,41,44,46,47,48,49,50,51,52,53,54,55,56,57,58,59,60,61,62,63,64,69] [47,4103,24583,7]
 (.ite O6
 (.exit 0 ⟨[(43,pN),(42,de),(41,O6),(40,(aU (pc l7 2) (pc o7 1))),(39,(pc o7 1)),(38,pN),(37,(pc l7 2)),(36,pN),(35,(.nt (pc o7 3))),(34,(.nt (pc o7 3))),(33,(pc o7 3)),(32,pN)],[(7,(.setc o7 2 de))]⟩)
 (.chk (bF (.llen (.app (.o 4103) (.lst [de]))) cq)
 (.call ⟨[(58,(pc l7 8)),(57,pN),(56,(pc (.setc o7 0 pN) 4)),(55,pN),(54,(aq (pc l7 4) (pi (-1)))),(53,(pc l7 4)),(52,pN),(51,(pc l7 4)),(50,pN),(49,pN),(48,pN),(47,pN),(46,de),(45,pN),(44,pN),(41,O6),(40,(aU (pc l7 2) (pc o7 1))),(39,(pc o7 1)),(38,pN),(37,(pc l7 2)),(36,pN),(35,(.nt (pc o7 3))),(34,(.nt (pc o7 3))),(33,(pc o7 3)),(32,pN)],[(7,(.setc o7 0 pN)),(4103,(.app (.o 4103) (.lst [de]))),(47,(.lst [de])),(7,o7)]⟩ [] 59 31 [(pc (.setc o7 0 pN) 4),(pc l7 8)]
 (.ite (.pick (pc o9 0) Dz pF)
 (.chk (bF (.llen (.app (.o 24583) (.lst [de]))) cq)
 (.next ⟨[(69,(.pick (pc o9 0) Dz pF)),(68,Dz),(67,(pc o8 0)),(66,(pc l7 6)),(65,pN),(64,(pc o9 0)),(63,(pc o9 0)),(62,pN),(61,pN),(60,pN)],[(24583,(.app (.o 24583) (.lst [de]))),(7,(.setc (.setc Ad 4 sH) 5 pN)),(7,(.setc Ad 4 sH)),(7,Ad),(7,(.setc o7 1 lg))]⟩))
 (.next ⟨[(69,(.pick (pc o9 0) Dz pF)),(68,Dz),(67,(pc o8 0)),(66,(pc l7 6)),(65,pN),(64,(pc o9 0)),(63,(pc o9 0)),(62,pN),(61,pN),(60,pN)],[(24583,(.o 24583)),(7,(.setc Ad 4 sH)),(7,(.setc Ad 4 sH)),(7,Ad),(7,(.setc o7 1 lg))]⟩)))))
 (.next ⟨[],[(11,l7),(4103,(.o 4103)),(24583,(.o 24583)),(7,o7)]⟩))
def SB (b:Nat→PC):PT:=
 (.call ⟨[],[(24583,pL),(4103,pL),(7,(.setc IJ 0 (.mk [pL,sw,(pi (-1)),(aq sw (pi (-1))),(pi 0),pL]))),(6,IJ),(3,(.mk [r0]))]⟩ [] 23 29 [(aw 19 (.mk [r0])),r2]
 (.call ⟨[],[(9,(.setc (.con (.agg [(.bool false)])) 0 (.tget mX 1))),(8,(.setc IF 0 (.tget mX 0)))]⟩ [] 29 30 [(aw 19 o3),r1,r2]
 (.blockS ⟨[],[]⟩ 0 [] [4103,24583,7]
 (.callc ⟨[],[]⟩ [] 77 nS []
 (.brk ⟨[],[]⟩
(UB b)
 (.next ⟨[],[]⟩)))
 (.ret (aw 6 (.setc o6 0 (.mk [(.o 4103),(pc o7 1),(pc o7 2),(pc o7 3),(pc o7 4),(.o 24583)])))))))
def af5 (b:Nat→PC):PT×List (Shp×PT):=(SB b,[(.ea [11,4103,24583,7],Qj b)])
theorem OB:yu.map told=some (af5 (bq yu)):=by kernel_rfl
theorem aqA:tree (ae yu)=SB E9:=bO OB
theorem anC:pH [11,4103,24583,7] (E9 0)=Qj E9:=QN OB 0 fun _=>rfl
def yw:Option PC:=cF [4,5,6,7] [] Tryz.f29 29 [2,9]
def KW:Nat→PC:=bB yw
def ak9 (b:Nat→PC):PC:=.block 0 [6,7,13,14] [] (.loop [6,7,13] [] (b 0))
def Jg (b:Nat→PC):PT:=
 (.ite (aj cW bP)
 (.chk (ax bG cW)
 (.ite (.pick (.pick (.pick (aU (pc wK 0) (pi 1)) (aU (pc wK 0) (pi 3)) pF) (aU (pc wK 0) (pi 4)) pF) pT (aX (pc wK 6) r1))
 (.next ⟨[(13,(be cW (pi 1)))],[]⟩)
 (.next ⟨[(6,(.pick (.pick (.nt r7) pT (aj (pc wK 6) r6)) (pc wK 6) r6)),(7,(.pick (.pick (.nt r7) pT (aj (pc wK 6) r6)) pT r7)),(13,(be cW (pi 1)))],[]⟩)))
 (.exit 0 ⟨[(14,(aj cW bP))],[]⟩))
def SD (b:Nat→PC):PT:=
 (.brk ⟨[(13,(pi 0)),(12,(.llen (pc (.mk [r0]) 17))),(11,(pc (.mk [r0]) 17)),(7,pF),(6,(pi 0))],[]⟩
(ak9 b)
 (.ret (.tup [r6,r7])))
def af6 (b:Nat→PC):PT×List (Shp×PT):=(SD b,[(.lp 0 [6,7,13,14] [] [6,7,13] [],Jg b)])
theorem OC:yw.map told=some (af6 (bq yw)):=by kernel_rfl
theorem aqC:tree (ae yw)=SD KW:=bO OC
theorem aaB:round 0 [6,7,13,14] [] [6,7,13] [] (KW 0)=Jg KW:=bp OC 0 fun _=>rfl
def Gq:Option PC:=cF [6] [] Tryz.f30 30 [3,4,5]
def SF:PT:=
 (.ret (.clo 64 [(.ref (aw 19 (.mk [r0]))),(.ref (pc (.mk [r2]) 0)),(.ref (pc (.mk [r1]) 0))]))
theorem Zm:Gq.map told=some (SF,[]):=by kernel_rfl
theorem aqE:tree (ae Gq)=SF:=bo Zm
def rz:Option PC:=Bp {ctx with fr:=[5,6],nh:=[]} Tryz.f64 [(.ref df),(.ref I),(.ref I)] [I,Y9] 1000 [1000,7]
def KX:Nat→PC:=bB rz
def ala (b:Nat→PC):PC:=.block 0 [14,15] [1000] (.loop [14] [1000] (b 0))
def Jh (b:Nat→PC):PT:=
 (.ite sC
 (.blockS ⟨[],[]⟩ 1 [6,7,16,17,18,19,20,21,22,27,28,33,34,39,40,46] [7,1000]
 (.chk (ax bP cv)
 (.call ⟨[(40,ZR)],[(1000,ZZ)]⟩ [(40,true)] 44 1000000009 [ZZ]
 (.ite (.pick qG (.nt Aj) pF)
 (.ret (.o 1000))
 (.next ⟨[],[]⟩))))
 (.next ⟨[(14,(be cv (pi 1)))],[]⟩))
 (.exit 0 ⟨[(15,sC)],[]⟩))
def SG (b:Nat→PC):PT:=
 (.call ⟨[],[]⟩ [] 10 33 [(.deref r1),(.deref r2)]
 (.brk ⟨[(14,(pi 0)),(13,(.llen (pc (.deref r1) 15))),(12,(pc (.deref r1) 15)),(5,de)],[]⟩
(ala b)
 (.ret (.o 1000))))
def af7 (b:Nat→PC):PT×List (Shp×PT):=(SG b,[(.lp 0 [14,15] [1000] [14] [1000],Jh b)])
theorem OD:rz.map told=some (af7 (bq rz)):=by kernel_rfl
theorem aqD:tree (ae rz)=SG KX:=bO OD
theorem aaC:round 0 [14,15] [1000] [14] [1000] (KX 0)=Jh KX:=bp OD 0 fun _=>rfl
theorem adi:∀yv,Bp {ctx with fr:=[5,6],nh:=[],yv:=yv} Tryz.f64 [(.ref df),(.ref I),(.ref I)] [I,Y9] 1000 [1000,7]=some (ae rz):=fun yv=>(show _=rz by kernel_rfl).trans (aE rz OD)
def yx:Option PC:=cF [4] [] Tryz.f33 33 [2,5,7]
def KY:Nat→PC:=bB yx
def alb (b:Nat→PC):PC:=.block 0 [12,13] [5] (.loop [12] [5] (b 0))
def Ep (b:Nat→PC):PT:=
 (.ite (aj bP bG)
 (.chk (ax de bP)
 (.ite (.pick (aq (pc (.setc z9 0 sD) 0) (pi 7)) (bF (pc (.setc z9 0 sD) 6) r1) pF)
 (.chk (aj (.mlen o5) cq)
 (.next ⟨[(12,(be bP (pi 1)))],[(5,(.put o5 (pc (.setc z9 0 sD) 4) pT))]⟩))
 (.next ⟨[(12,(be bP (pi 1)))],[]⟩)))
 (.exit 0 ⟨[(13,(aj bP bG))],[]⟩))
def SI (b:Nat→PC):PT:=
 (.brk ⟨[(12,(pi 0)),(11,(.llen (pc (.mk [r0]) 17))),(10,(pc (.mk [r0]) 17)),(5,pN)],[(5,(.con (.map [])))]⟩
(alb b)
 (.ret o5))
def af8 (b:Nat→PC):PT×List (Shp×PT):=(SI b,[(.lp 0 [12,13] [5] [12] [5],Ep b)])
theorem OE:yx.map told=some (af8 (bq yx)):=by kernel_rfl
theorem aqG:tree (ae yx)=SI KY:=bO OE
theorem Qk:round 0 [12,13] [5] [12] [5] (KY 0)=Ep KY:=bp OE 0 fun _=>rfl
def Gr:Option PC:=cF [4,5,13] [] Tryz.f31 31 []
def SH:PT:=
 (.ite (.pick (aU (.ai .and .i64 r1 (pi 2)) (pi 0)) pT (aU r0 (pi 0)))
 (.ret (pi 1))
 (.ite (aU (.ai .and .i64 r1 (pi 4)) (pi 0))
 (.ret (pi 2))
 (.ret (pi 0))))
theorem Zn:Gr.map told=some (SH,[]):=by kernel_rfl
theorem aqF:tree (ae Gr)=SH:=bo Zn
def xD:Option PC:=cF [11,12,15,2000038,1000013] [] Tryz.f9 9 [5,7,8,10,65546,69642,73738,77834,13,65549,69645,73741,77837,14,16,85]
def Kr:Nat→PC:=bB xD
def aka (b:Nat→PC):PC:=.block 0 [14,42,43] [14] (.loop [14,42] [14] (b 0))
def I2 (b:Nat→PC):PT:=
 (.ite (aj sF qH)
 (.blockS ⟨[],[]⟩ 1 [14,15,16,44,45,46,47,48,49,50,56,57,62,63,69] [16,14]
 (.chk (ax (.o 65549) sF)
 (.call ⟨[(57,(.pick (aq (pc (.setc z9 0 (.sub (pn (.o 65549) sF) 0 9)) 0) (pi 2)) (aq (pc (.setc z9 0 (.sub (pn (.o 65549) sF) 0 9)) 1) (pc o8 1)) pF)),(15,sF)],[]⟩ [(57,true)] 60 23 [bP,sF]
 (.call ⟨[(63,(.pick Ak (.nt ux) pF))],[]⟩ [(63,true)] 67 14 [(.mk [(pc ja 0),(pc ja 1),(pc ja 2),(pc ja 3),(pc ja 4),(pc ja 5),(pc ja 6),(pc ja 7),(pc ja 8),(pc ja 9),(pc ja 10),(pc ja 11),(pc ja 12),(pc ja 13),(pc ja 14),(.o 65549),(.o 69645),(.o 73741),(.o 77837)]),jF,r4]
 (.ite (.pick IV (.nt sI) pF)
 (.chk (ax (pc o5 3) (pc o8 2))
 (.chk (bF (.llen Z1) cq)
 (.next ⟨[(14,pN)],[(14,Z1)]⟩)))
 (.next ⟨[],[]⟩)))))
 (.next ⟨[(42,(be sF (pi 1)))],[]⟩))
 (.exit 0 ⟨[(43,(aj sF qH))],[]⟩))
def Q7 (b:Nat→PC):PT:=
 (.call ⟨[(19,(aX r4 (pi 100000)))],[(10,qC),(8,(.mk [r3])),(7,(.mk [r2])),(5,(.mk [r0]))]⟩ [(19,false)] 25 16 [kL,r1,(aw 19 (.mk [r2])),(aw 6 (.mk [r3])),r4]
 (.ite (.pick jG pT (aU jH (pi 1)))
 (.ret (.tup [ZU,(pi 7)]))
 (.call ⟨[],[]⟩ [] 34 12 [(aw 19 o7),(pc o8 1),(pc o8 3)]
 (.call ⟨[(12,(pc r34 0))],[]⟩ [] 38 13 [(aw 19 o7),r4]
 (.brk ⟨[(42,(pi 0)),(41,(.llen (pc gm 15))),(14,pN)],[(14,pL),(77837,(pc gm 18)),(73741,(pc gm 17)),(69645,(pc gm 16)),(65549,(pc gm 15)),(13,(.setc qC 0 gm))]⟩
(aka b)
 (.chk (bF (.llen (.app (.o 73741) Ib)) cq)
 (.ite (aX (.llen (.app (.o 73741) Ib)) (pi 100))
 (.ret (.tup [ZU,(pi 6)]))
 (.ret (.tup [(.mk [(pc kZ 0),(pc kZ 1),(pc kZ 2),(pc kZ 3),(pc kZ 4),(pc kZ 5),(pc kZ 6),(pc kZ 7),(pc kZ 8),(pc kZ 9),(pc kZ 10),(pc kZ 11),(pc kZ 12),(pc kZ 13),(pc kZ 14),(.o 65549),(.o 69645),(.app (.o 73741) Ib),(.o 77837)]),(pi 0)])))))))))
def afl (b:Nat→PC):PT×List (Shp×PT):=(Q7 b,[(.lp 0 [14,42,43] [14] [14,42] [14],I2 b)])
theorem N3:xD.map told=some (afl (bq xD)):=by kernel_rfl
theorem ao6:tree (ae xD)=Q7 Kr:=bO N3
theorem aaq:round 0 [14,42,43] [14] [14,42] [14] (Kr 0)=I2 Kr:=bp N3 0 fun _=>rfl
def Gp:Option PC:=cF [6] [] Tryz.f14 14 [3]
def SC:PT:=
 (.call ⟨[(16,(.pick (dc r1 (pi 0)) (aj r1 (.llen sB)) pF))],[]⟩ [(16,true)] 19 33 [(aw 19 (.mk [r0])),r2]
 (.ret (.pick dP (.look jG r1 pF) pF)))
theorem Zl:Gp.map told=some (SC,[]):=by kernel_rfl
theorem aqB:tree (ae Gp)=SC:=bo Zl
def Fx:Option PC:=cF [6] [] Tryz.f8 8 [3,4,5]
def Q5:PT:=
 (.call ⟨[],[(5,(.mk [r2])),(3,(.mk [r0]))]⟩ [] 9 21 [kL,Dt]
 (.call ⟨[(10,r9)],[]⟩ [(10,true)] 12 22 [(aw 8 o3)]
 (.ret (.pick (.pick de (aq bP (pi 0)) pF) (bF (.llen (pc o5 5)) (pi 30)) pF))))
theorem Ym:Fx.map told=some (Q5,[]):=by kernel_rfl
theorem ao4:tree (ae Fx)=Q5:=bo Ym
def xW:Option PC:=cF [4,5] [] Tryz.f21 21 [2,3]
def KG:Nat→PC:=bB xW
def akC (b:Nat→PC):PC:=.block 0 [4,5,14,15,16,17,18] [] (.loop [4,5] [] (b 0))
def D1 (b:Nat→PC):PT:=
 (.ite (aj r5 (.llen (pc o2 4)))
 (.blockS ⟨[],[]⟩ 1 [4,21,22,23,24,25,26,27] []
 (.chk (ax (pc o2 4) r5)
 (.call ⟨[],[]⟩ [] 26 50 [(pn (pc o2 4) r5)]
 (.ite (.nt j8)
 (.ret pF)
 (.next ⟨[],[]⟩))))
 (.next ⟨[(5,(be r5 (pi 1)))],[]⟩))
 (.exit 0 ⟨[(14,r5),(15,pN),(16,(pc o2 4)),(17,(.llen (pc o2 4))),(18,(aj r5 (.llen (pc o2 4))))],[]⟩))
def RN (b:Nat→PC):PT:=
 (.call ⟨[(4,pF)],[(3,(.mk [r1])),(2,(.mk [r0]))]⟩ [] 7 48 [kL]
 (.call ⟨[(9,(.nt r7))],[]⟩ [(9,false)] 11 49 [(aw 19 o3)]
 (.ite (.pick r9 pT (.nt bG))
 (.ret pF)
 (.brk ⟨[(5,(pi 0))],[]⟩
(akC b)
 (.ret pT)))))
def afH (b:Nat→PC):PT×List (Shp×PT):=(RN b,[(.lp 0 [4,5,14,15,16,17,18] [] [4,5] [],D1 b)])
theorem Oi:xW.map told=some (afH (bq xW)):=by kernel_rfl
theorem apN:tree (ae xW)=RN KG:=bO Oi
theorem PS:round 0 [4,5,14,15,16,17,18] [] [4,5] [] (KG 0)=D1 KG:=bp Oi 0 fun _=>rfl
end Rm
