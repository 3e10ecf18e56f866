/-
  The functions of this seat, compiled (2).
-/
import Derived.Test.YtbeeplempgffoaaGreatDoorDAH
import Derived.KernelRfl
set_option linter.unusedVariables false
set_option maxRecDepth 100000
noncomputable section
namespace Rm
open Go Go.Proofs Cx
def Ae:Option PC:=cF [2,3,5,7,8,38,47,10,11,12] [] Tryz.f202 202 [1,4,6,12294,9]
def C3:Nat→PC:=aZ Ae
def asR (b:Nat→PC):PC:=.block 0 [2,3,20,21] [4] (.loop [2,3,20] [4] (b 0))
def asS (b:Nat→PC):PC:=.block 3 [2,3,10,82,83] [] (.loop [2,3,10,82] [] (b 1))
def GA (b:Nat→PC):PT:=
 (.ite (ao dU gY)
 (.blockS ⟨[],[]⟩ 1 [2,3,5,6,7,8,22,23,24,25,26,27,28,29,30,31,33,34,35,36] [6,12294,4]
 (.chk (aq fW dU)
 (.call ⟨[(5,dU)],[]⟩ [] 27 202 [(.mk [(pc (.setc mG 0 (pn fW dU)) 0),(pc (.setc mG 0 (pn fW dU)) 1),(pc (.setc mG 0 (pn fW dU)) 2)])]
 (.ite (aC (.tget eG 1) (pi 0))
 (.ret (.tup [(pi 0),(.tget eG 1)]))
 (.chk (aq o4 r5)
 (.next ⟨[],[(4,(.setn o4 r5 0 (.tget eG 0)))]⟩)))))
 (.next ⟨[(20,(aH dU (pi 1)))],[]⟩))
 (.exit 0 ⟨[(21,(ao dU gY))],[]⟩))
def vz (b:Nat→PC):PT:=
 (.ite (ao lq yk)
 (.chk (aq qm lq)
 (.ite (.pick (ae (pn qm lq) (pi (-1))) (ae bN (pi (-1))) pF)
 (.chk (aq o4 lq)
 (.ite (aC (pn o4 lq) (.pick (ae (pn qm lq) (pi (-1))) (pn o4 lq) (pn qm lq)))
 (.ret (.tup [(pi 0),(pi 11)]))
 (.next ⟨[(10,(pn o4 lq)),(82,(aH lq (pi 1)))],[]⟩)))
 (.chk (aq o4 lq)
 (.ite (aC (pn o4 lq) (.pick (ae (pn qm lq) (pi (-1))) bN (pn qm lq)))
 (.ret (.tup [(pi 0),(pi 11)]))
 (.next ⟨[(82,(aH lq (pi 1)))],[]⟩)))))
 (.exit 3 ⟨[(83,(ao lq yk))],[]⟩))
def XQ (b:Nat→PC):PT:=
 (.chk (.an (bD qk (pi 0)) (aX qk cq))
 (.chk (ae qk qk)
 (.brk ⟨[(20,(pi 0)),(19,qk),(18,Fl),(4,pN),(3,(pi 0)),(2,(pi 0))],[(4,(.rep qk (pi 0))),(1,(.mk [r0]))]⟩
(asR b)
 (.blockS ⟨[],[]⟩ 2 [2,3,38,39,40,41,42,46,47,48,49,50,51,55,56,60] []
 (.iteS ⟨[],[]⟩ (.pick (ao (pc o1 0) (pi 0)) pT (aP (pc o1 0) (pi 13))) [2,3,47,48,49,50,51,55,56,60] []
 (.ret (.tup [(pi 0),(pi 1)]))
 (.iteS ⟨[],[]⟩ (.pick (.pick (ae (pc o1 0) (pi 0)) pT (ae (pc o1 0) (pi 1))) pT (ae (pc o1 0) (pi 2))) [2,3] []
 (.call ⟨[],[]⟩ [] 62 218 [Mb]
 (.ret (.tup [(.tget kF 0),(.tget kF 1)])))
 (.next ⟨[],[]⟩)
 (.next ⟨[],[]⟩))
 (.next ⟨[],[]⟩))
 (.call ⟨[],[]⟩ [] 67 219 [(pc o1 0)]
 (.ite (.pick (aC (.llen o4) (.llen (pc (.setc lP 0 rB) 0))) pT (aC (pc o1 1) (pi 0)))
 (.ret (.tup [(pi 0),(pi 2)]))
 (.brk ⟨[(82,(pi 0)),(81,(.llen (pc (.setc lP 0 rB) 0))),(80,(pc (.setc lP 0 rB) 0)),(10,(pi (-1)))],[(9,(.setc lP 0 rB))]⟩
(asS b)
 (.ite (ae (pc o9 1) (pi (-1)))
 (.ret (.tup [bN,(pi 0)]))
 (.ret (.tup [(pc o9 1),(pi 0)]))))))))))
def anF (b:Nat→PC):PT×List (Shp×PT):=(XQ b,[(.lp 0 [2,3,20,21] [4] [2,3,20] [4],GA b),(.lp 3 [2,3,10,82,83] [] [2,3,10,82] [],vz b)])
theorem LB:Ae.map told=some (anF (bl Ae)):=by kernel_rfl
theorem azM:tree (ab Ae)=XQ C3:=bE LB
theorem UP:round 0 [2,3,20,21] [4] [2,3,20] [4] (C3 0)=GA C3:=aT LB 0 fun _=>rfl
theorem BW:round 3 [2,3,10,82,83] [] [2,3,10,82] [] (C3 1)=vz C3:=aT LB 1 fun _=>rfl
def Jt:Option PC:=cF [2,3,12,20,4,5] [] Tryz.f218 218 [1]
def XT:PT:=
 (.ite (aP qk (pi 0))
 (.ret (.tup [(pi 0),(pi 2)]))
 (.blockS ⟨[(11,iO)],[(1,(.mk [r0]))]⟩ 0 [2,3,12,13,20,21] []
 (.iteS ⟨[],[]⟩ (ae bW (pi 0)) [2,3,20,21] []
 (.call ⟨[],[]⟩ [] 16 222 [(pc o1 1)]
 (.ite (aC dA (pc o1 1))
 (.ret (.tup [(pi 0),(pi 3)]))
 (.ret (.tup [(pi 0),(pi 0)]))))
 (.ite (ae bW (pi 1))
 (.ite (.pick (ao (pc o1 1) (pi 0)) pT (aP (pc o1 1) (pi 1)))
 (.ret (.tup [(pi 0),(pi 3)]))
 (.ret (.tup [(pi 1),(pi 0)])))
 (.next ⟨[],[]⟩))
 (.next ⟨[],[]⟩))
 (.call ⟨[],[]⟩ [] 33 220 [(pc o1 1)]
 (.ite (.nt (.tget nG 1))
 (.ret (.tup [(pi 0),(pi 10)]))
 (.ret (.tup [(.tget nG 0),(pi 0)]))))))
theorem afz:Jt.map told=some (XT,[]):=by kernel_rfl
theorem azP:tree (ab Jt)=XT:=aF afz
def Js:Option PC:=cF [2] [] Tryz.f222 222 []
def XS:PT:=
 (.ret (.mn (.mx r0 (pi (-1099511627776))) qg))
theorem afy:Js.map told=some (XS,[]):=by kernel_rfl
theorem azO:tree (ab Js)=XS:=aF afy
def Jp:Option PC:=cF [2,3,4,11] [] Tryz.f220 220 []
def XO:PT:=
 (.ite (.pick ya pT (aP r0 (pi 19)))
 (.ret (.tup [(pi 0),pF]))
 (.ite (ao r0 (pi 7))
 (.ret (.tup [(pi 0),pT]))
 (.ret (.tup [(pi 1),pT]))))
theorem afv:Jp.map told=some (XO,[]):=by kernel_rfl
theorem azK:tree (ab Jp)=XO:=aF afv
def Jw:Option PC:=cF [4,8,13,17,21] [] Tryz.f219 219 [2]
def XW:PT:=
 (.ite (ae r0 (pi 3))
 (.ret (.mk [(pc (.setc lP 0 (.mk [(.lst [(pi 1)]),(pi 1)])) 0),(pc (.setc lP 0 (.mk [(.lst [(pi 1)]),(pi 1)])) 1)]))
 (.ite (.pick (ae r0 (pi 4)) (ae r0 (pi 4)) (ae r0 (pi 5)))
 (.ret (.mk [(pc (.setc lP 0 (.mk [(.lst [(pi 1),(pi 1)]),(pi 1)])) 0),(pc (.setc lP 0 (.mk [(.lst [(pi 1),(pi 1)]),(pi 1)])) 1)]))
 (.ite (ae r0 (pi 6))
 (.ret (.mk [(pc aga 0),(pc aga 1)]))
 (.ite (ae r0 (pi 7))
 (.ret (.mk [(pc (.setc lP 0 (.mk [(.lst [(pi 0),(pi 0)]),(pi 1)])) 0),(pc (.setc lP 0 (.mk [(.lst [(pi 0),(pi 0)]),(pi 1)])) 1)]))
 (.ite (ae r0 (pi 8))
 (.ret (.mk [(pc (.setc lP 0 (.mk [(.lst [(pi (-1)),(pi (-1))]),(pi 1)])) 0),(pc (.setc lP 0 (.mk [(.lst [(pi (-1)),(pi (-1))]),(pi 1)])) 1)]))
 (.ret (.mk [(pc (.setc lP 0 (.mk [(.lst [(pi 0),(pi 0)]),(pi 0)])) 0),(pc (.setc lP 0 (.mk [(.lst [(pi 0),(pi 0)]),(pi 0)])) 1)])))))))
theorem afC:Jw.map told=some (XW,[]):=by kernel_rfl
theorem azT:tree (ab Jw)=XW:=aF afC
def Jo:Option PC:=cF [5,6,8] [] Tryz.f156 156 [2,4,7]
def XN:PT:=
 (.call ⟨[],[(4,cr),(2,(.mk [r0]))]⟩ [] 11 179 [Fe]
 (.ite (aC (.tget bW 1) (pi 0))
 (.ret tD)
 (.call ⟨[],[]⟩ [] 21 180 [(.mk [r1]),(.mk [(pc o2 0),(pc o2 1),(pc o2 2)])]
 (.ret (.mk [(pc af3 0),(pc af3 1)])))))
theorem afu:Jo.map told=some (XN,[]):=by kernel_rfl
theorem azJ:tree (ab Jo)=XN:=aF afu
def Af:Option PC:=cF [5,15,21,9,11] [] Tryz.f180 180 [2,3,4,6,33,7,8,10,12298,12]
def O9:Nat→PC:=aZ Af
def asT (b:Nat→PC):PC:=.block 1 [45,46] [7,8] (.loop [45] [7,8] (b 0))
def GB (b:Nat→PC):PT:=
 (.ite (ao ll yh)
 (.blockS ⟨[],[]⟩ 2 [9,10,47,48,49,50,51,52,53,54,55,56,57,58,59,60,61] [10,12298,8,7]
 (.chk (aq rz ll)
 (.call ⟨[(54,ll),(52,ll)],[]⟩ [] 57 180 [(.mk [(pc o2 0)]),(.mk [(pc (.setc mG 0 (pn rz ll)) 0),(pc (.setc mG 0 (pn rz ll)) 1),(pc (.setc mG 0 (pn rz ll)) 2)])]
 (.chk (aq o7 tJ)
 (.chk (aq o8 ql)
 (.next ⟨[],[(8,(.setn o8 ql 0 (.tget BL 1))),(7,(.setn o7 tJ 0 (.tget BL 0)))]⟩)))))
 (.next ⟨[(45,(aH ll (pi 1)))],[]⟩))
 (.exit 1 ⟨[(46,(ao ll yh))],[]⟩))
def G2 (b:Nat→PC):PT:=
 (.blockS ⟨[(14,xW)],[(4,cr),(3,(.mk [r1])),(2,(.mk [r0]))]⟩ 0 [5,15,16,21,22] [4]
 (.iteS ⟨[],[]⟩ (.pick (ae bH (pi 0)) (ae bH (pi 0)) (ae bH (pi 1))) [5,21,22] [4]
 (.ret (.tup [(.mk [(pc (.setc o4 0 (.mk [pT,(pc o3 1)])) 0),(pc (.setc o4 0 (.mk [pT,(pc o3 1)])) 1)]),pL]))
 (.iteS ⟨[],[]⟩ (ae bH (pi 2)) [5] [4]
 (.call ⟨[],[]⟩ [] 26 203 [(.mk [(pc o2 0)]),(pc o3 1)]
 (.ite (pc xT 0)
 (.ret (.tup [(.mk [(pc (.setc o4 0 (.mk [(pc xT 0),(pc xT 1)])) 0),(pc (.setc o4 0 (.mk [(pc xT 0),(pc xT 1)])) 1)]),pL]))
 (.ret (.tup [tD,(.lst [(pc o3 1)])]))))
 (.next ⟨[],[]⟩)
 (.next ⟨[],[]⟩))
 (.next ⟨[],[]⟩))
 (.chk (.an (bD oH (pi 0)) (aX oH cq))
 (.chk (ae oH oH)
 (.brk ⟨[(45,(pi 0)),(44,oH),(43,(pc o3 2)),(8,pN),(7,pN)],[(8,(.rep oH pL)),(7,(.rep oH cr))]⟩
(asT b)
 (.chk (.nt (.an (.an (ae (pc o3 0) (pi 6)) pT) (.nt (aq o7 (pi 0)))))
 (.ite (.pick (ae (pc o3 0) (pi 6)) (pc (pn o7 (pi 0)) 0) pF)
 (.chk (aq o7 (pi 0))
 (.chk (aq o7 Fm)
 (.chk (aq o8 Fm)
 (.ret (.tup [(.mk [(pc (.setc o4 0 (.sub (pn o7 Fm) 0 2)) 0),(pc (.setc o4 0 (.sub (pn o7 Fm) 0 2)) 1)]),(pn o8 Fm)])))))
 (.call ⟨[],[]⟩ [] 88 204 [(pc o3 0),o7]
 (.ite (pc (.setc cr 0 Mg) 0)
 (.ret (.tup [(.mk [(pc af9 0),(pc af9 1)]),pL]))
 (.call ⟨[(92,(.mk [pF,(pi 0)]))],[]⟩ [] 94 205 [o8]
 (.ret (.tup [(.mk [(pc (.setc o4 0 TM) 0),(pc (.setc o4 0 TM) 1)]),r94])))))))))))
def anG (b:Nat→PC):PT×List (Shp×PT):=(G2 b,[(.lp 1 [45,46] [7,8] [45] [7,8],GB b)])
theorem Sw:Af.map told=some (anG (bl Af)):=by kernel_rfl
theorem azQ:tree (ab Af)=G2 O9:=bE Sw
theorem UQ:round 1 [45,46] [7,8] [45] [7,8] (O9 0)=GB O9:=aT Sw 0 fun _=>rfl
def Ju:Option PC:=cF [5,6] [] Tryz.f203 203 [2,4]
def XU:PT:=
 (.chk (.nt (.an (.an (.nt (bD r1 (.llen iO))) pT) (.nt (aq iO r1))))
 (.ite (.pick (bD r1 (.llen iO)) pT (.nt (pc (pn iO r1) 0)))
 (.ret Fj)
 (.call ⟨[],[(4,cr),(2,(.mk [r0]))]⟩ [] 24 220 [r1]
 (.iteS ⟨[],[]⟩ (ae (.tget lh 0) (pi 1)) [] [4]
 (.chk (aq (pc o2 0) r1)
 (.call ⟨[],[]⟩ [] 36 221 [(aC (pc (pn (pc o2 0) r1) 1) (pi 0))]
 (.ret (.mk [(pc (.setc o4 0 jH) 0),(pc (.setc o4 0 jH) 1)]))))
 (.next ⟨[],[]⟩)
 (.chk (aq (pc o2 0) r1)
 (.call ⟨[],[]⟩ [] 43 222 [(pc (pn (pc o2 0) r1) 1)]
 (.ret (.mk [(pc (.setc o4 0 (.mk [pT,rz])) 0),(pc (.setc o4 0 (.mk [pT,rz])) 1)]))))))))
theorem afA:Ju.map told=some (XU,[]):=by kernel_rfl
theorem azR:tree (ab Ju)=XU:=aF afA
def Jx:Option PC:=cF [] [] Tryz.f221 221 [2]
def XX:PT:=
 (.ite r0
 (.ret Tr)
 (.ret Ts))
theorem afD:Jx.map told=some (XX,[]):=by kernel_rfl
theorem azU:tree (ab Jx)=XX:=aF afD
def Jr:Option PC:=cF [9,22,41,6,7,82,88,94] [] Tryz.f204 204 [4,5]
def XR:PT:=
 (.blockS ⟨[(8,r0)],[(4,cr)]⟩ 0 [9,10,22,23] [4]
 (.iteS ⟨[],[]⟩ (ae r8 (pi 3)) [22,23] [4]
 (.chk rv
 (.iteS ⟨[],[]⟩ (pc nC 0) [] [4]
 (.chk rv
 (.call ⟨[],[]⟩ [] 20 221 [(ae (pc nC 1) (pi 0))]
 (.ret (.mk [(pc (.setc o4 0 dU) 0),(pc (.setc o4 0 dU) 1)]))))
 (.next ⟨[],[]⟩)
 (.ret tD)))
 (.iteS ⟨[],[]⟩ (.pick (ae r8 (pi 4)) (ae r8 (pi 4)) (ae r8 (pi 5))) [] [4]
 (.call ⟨[],[]⟩ [] 27 221 [(ae r0 (pi 5))]
 (.chk rv
 (.chk (.nt (.an (.an (.nt af7) pT) (.nt qj)))
 (.ite (.pick af7 pT (.an (.cb .eql (pc kD 0) (pc BG 0)) (.an (ae (pc kD 1) (pc BG 1)) pT)))
 (.ret (.mk [(pc (.setc o4 0 BG) 0),(pc (.setc o4 0 BG) 1)]))
 (.next ⟨[],[]⟩)))))
 (.ite (ae r8 (pi 6))
 (.chk qj
 (.chk (.nt (.an (.an (pc kD 0) pT) (.nt qj)))
 (.chk (.nt (.an (.an (pc kD 0) pT) (.nt (aq r1 (pi 2)))))
 (.ite (.pick (pc kD 0) (.an (.cb .eql (pc kD 0) (pc (pn r1 (pi 2)) 0)) (.an (ae (pc kD 1) (pc (pn r1 (pi 2)) 1)) pT)) pF)
 (.ret (.mk [(pc (.setc o4 0 kD) 0),(pc (.setc o4 0 kD) 1)]))
 (.ret tD)))))
 (.next ⟨[],[]⟩))
 (.next ⟨[],[]⟩))
 (.next ⟨[],[]⟩))
 (.chk rv
 (.chk (.nt (.an (.an (.nt (.nt (pc nC 0))) pT) (.nt qj)))
 (.ite (.pick (.nt (pc nC 0)) pT (.nt (pc kD 0)))
 (.ret tD)
 (.chk qj
 (.blockS ⟨[(81,r0),(7,(pc kD 1)),(6,(pc nC 1))],[]⟩ 1 [82,83,88,89,94,95] [4]
 (.iteS ⟨[],[]⟩ (.pick (ae yk (pi 4)) (ae yk (pi 4)) (ae yk (pi 5))) [88,89,94,95] [4]
 (.call ⟨[],[]⟩ [] 87 221 [(ae r0 (pi 4))]
 (.ret (.mk [(pc (.setc o4 0 r87) 0),(pc (.setc o4 0 r87) 1)])))
 (.iteS ⟨[],[]⟩ (ae yk (pi 7)) [94,95] [4]
 (.call ⟨[],[]⟩ [] 93 221 [(ao r6 r7)]
 (.ret (.mk [(pc (.setc o4 0 Mh) 0),(pc (.setc o4 0 Mh) 1)])))
 (.iteS ⟨[],[]⟩ (ae yk (pi 8)) [] [4]
 (.call ⟨[],[]⟩ [] 99 221 [(ae r6 r7)]
 (.ret (.mk [(pc (.setc o4 0 r99) 0),(pc (.setc o4 0 r99) 1)])))
 (.next ⟨[],[]⟩)
 (.next ⟨[],[]⟩))
 (.next ⟨[],[]⟩))
 (.next ⟨[],[]⟩))
 (.call ⟨[],[]⟩ [] 103 223 [r0,r6,r7]
 (.ret (.mk [(pc (.setc o4 0 (.mk [pT,agA])) 0),(pc (.setc o4 0 (.mk [pT,agA])) 1)])))))))))
theorem afx:Jr.map told=some (XR,[]):=by kernel_rfl
theorem azN:tree (ab Jr)=XR:=aF afx
def Jq:Option PC:=cF [6,8,14,20,25] [] Tryz.f223 223 []
def XP:PT:=
 (.blockS ⟨[(7,r0)],[]⟩ 0 [6,8,9,14,15,20,21,25,26] []
 (.iteS ⟨[],[]⟩ (ae r7 (pi 9)) [6,14,15,20,21,25,26] []
 (.call ⟨[],[]⟩ [] 13 222 [(aH r1 r2)]
 (.ret cO))
 (.iteS ⟨[],[]⟩ (ae r7 (pi 10)) [6,20,21,25,26] []
 (.call ⟨[],[]⟩ [] 19 222 [(aS r1 r2)]
 (.ret gY))
 (.iteS ⟨[],[]⟩ (ae r7 (pi 11)) [6,25,26] []
 (.call ⟨[],[]⟩ [] 24 225 [r1,r2]
 (.ret lh))
 (.ite (ae r7 (pi 12))
 (.ret (.mn r1 r2))
 (.next ⟨[],[]⟩))
 (.next ⟨[],[]⟩))
 (.next ⟨[],[]⟩))
 (.next ⟨[],[]⟩))
 (.ret (.mx r1 r2)))
theorem afw:Jq.map told=some (XP,[]):=by kernel_rfl
theorem azL:tree (ab Jq)=XP:=aF afw
def Jv:Option PC:=cF [4,5,6,7] [] Tryz.f225 225 []
def XV:PT:=
 (.call ⟨[],[]⟩ [] 19 226 [(.conv .u64 (.mx r0 (aS (pi 0) r0))),(.conv .u64 (.mx r1 (aS (pi 0) r1)))]
 (.ite (.cb .neq ya (ao r1 (pi 0)))
 (.ret (aS (pi 0) agi))
 (.ret agi)))
theorem afB:Jv.map told=some (XV,[]):=by kernel_rfl
theorem azS:tree (ab Jv)=XV:=aF afB
def HG:Option PC:=cF [4,5,6,7,8,9,10,11,12,13] [] Tryz.f226 226 []
def Vp:PT:=
 (.chk (bD BJ (pi 0))
 (.ret (.tup [(.ai .add .u64 (.ai .add .u64 (.ai .mul .u64 (.ai .shr .u64 r0 BJ) (.ai .shr .u64 r1 BJ)) (.ai .shr .u64 age BJ)) (.ai .shr .u64 (.ai .add .u64 (.ai .and .u64 age (.con (.v (.int .u64 4294967295)))) (.ai .mul .u64 (.ai .and .u64 r0 (.con (.v (.int .u64 4294967295)))) (.ai .shr .u64 r1 BJ))) BJ)),(.ai .mul .u64 r0 r1)])))
theorem adO:HG.map told=some (Vp,[]):=by kernel_rfl
theorem aw1:tree (ab HG)=Vp:=aF adO
def zX:Option PC:=cF [2,3,5,8] [] Tryz.f205 205 [6]
def C1:Nat→PC:=aZ zX
def asH (b:Nat→PC):PC:=.block 0 [3,11,12] [] (.loop [3,11] [] (b 0))
def asI (b:Nat→PC):PC:=.block 2 [6,27,28] [6] (.loop [6,27] [6] (b 1))
def MI (b:Nat→PC):PT:=
 (.ite (ao bW bN)
 (.chk (aq r9 bW)
 (.ite (ao (aH r3 (.llen (pn r9 bW))) (pi 0))
 (.chk (.nt pT)
 (.chk (.nt pT)
 (.next ⟨[(3,(aH r3 (.llen (pn r9 bW)))),(11,(aH bW (pi 1)))],[]⟩)))
 (.next ⟨[(3,(aH r3 (.llen (pn r9 bW)))),(11,(aH bW (pi 1)))],[]⟩)))
 (.exit 0 ⟨[(12,(ao bW bN))],[]⟩))
def MJ (b:Nat→PC):PT:=
 (.ite (ao eG jE)
 (.chk (aq dV eG)
 (.chk (aX (.llen (.app o6 (pn dV eG))) cq)
 (.next ⟨[(6,pN),(27,(aH eG (pi 1)))],[(6,(.app o6 (pn dV eG)))]⟩)))
 (.exit 2 ⟨[(28,(ao eG jE))],[]⟩))
def Xv (b:Nat→PC):PT:=
 (.brk ⟨[(11,(pi 0)),(10,(.llen r0)),(9,r0),(3,(pi 0))],[]⟩
(asH b)
 (.call ⟨[],[]⟩ [] 24 224 [pL,r3]
 (.brk ⟨[(27,(pi 0)),(26,(.llen r0)),(25,r0),(6,pN)],[(6,lh)]⟩
(asI b)
 (.ret o6))))
def anv (b:Nat→PC):PT×List (Shp×PT):=(Xv b,[(.lp 0 [3,11,12] [] [3,11] [],MI b),(.lp 2 [6,27,28] [6] [6,27] [6],MJ b)])
theorem Lz:zX.map told=some (anv (bl zX)):=by kernel_rfl
theorem azs:tree (ab zX)=Xv C1:=bE Lz
theorem ahh:round 0 [3,11,12] [] [3,11] [] (C1 0)=MI C1:=aT Lz 0 fun _=>rfl
theorem ahi:round 2 [6,27,28] [6] [6,27] [6] (C1 1)=MJ C1:=aT Lz 1 fun _=>rfl
def HA:Option PC:=cF [2] [] Tryz.f34 34 [1]
def Vk:PT:=
 (.ite (.pick (aC xX (pi 0)) pT (.nt iO))
 (.ret (pi (-1)))
 (.ret jc))
theorem adI:HA.map told=some (Vk,[]):=by kernel_rfl
theorem awV:tree (ab HA)=Vk:=aF adI
def zV:Option PC:=cF [2,4] [] Tryz.f37 37 [1,3,6,8]
def CZ:Nat→PC:=aZ zV
def asF (b:Nat→PC):PC:=.block 0 [3,16,17] [3] (.loop [3,16] [3] (b 0))
def asG (b:Nat→PC):PC:=.block 2 [2,3,36,37] [3] (.loop [2,3,36] [3] (b 1))
def Gt (b:Nat→PC):PT:=
 (.ite (ao dA df)
 (.chk (aq bH dA)
 (.ite (.pick (ae r4 (pi 1)) (ae (pc (.setc z9 0 rp) 0) (pi 1)) pF)
 (.chk (aX (.llen (.app o3 (.lst [(pc (.setc z9 0 rp) 6)]))) cq)
 (.next ⟨[(3,pN),(16,(aH dA (pi 1)))],[(3,(.app o3 (.lst [(pc (.setc z9 0 rp) 6)])))]⟩))
 (.next ⟨[(16,(aH dA (pi 1)))],[]⟩)))
 (.exit 0 ⟨[(17,(ao dA df))],[]⟩))
def yr (b:Nat→PC):PT:=
 (.ite (ao jH nH)
 (.chk (aq Fw jH)
 (.ite (.pick (ae r4 (pi 0)) (ae (pc Fb 0) (pi 2)) pF)
 (.ret (pc Fb 6))
 (.ite (.pick (ae r4 (pi 1)) (ae (pc Fb 0) (pi 1)) pF)
 (.chk (aX (.llen (.app o3 (.lst [(pc Fb 6)]))) cq)
 (.next ⟨[(3,pN),(36,(aH jH (pi 1)))],[(3,(.app o3 (.lst [(pc Fb 6)])))]⟩))
 (.next ⟨[(36,(aH jH (pi 1)))],[]⟩))))
 (.exit 2 ⟨[(37,(ao jH nH))],[]⟩))
def Xr (b:Nat→PC):PT:=
 (.brk ⟨[(16,(pi 0)),(15,(.llen ru)),(14,ru),(4,vm),(3,pN),(2,(pi 0))],[(3,pL),(1,(.mk [r0]))]⟩
(asF b)
 (.brk ⟨[(36,(pi 0)),(35,xU),(34,(pc o1 17))],[]⟩
(asG b)
 (.ite (ae (.llen o3) (pi 0))
 (.ret (pi (-1)))
 (.call ⟨[],[]⟩ [] 66 80 [o3]
 (.ret Mf)))))
def ant (b:Nat→PC):PT×List (Shp×PT):=(Xr b,[(.lp 0 [3,16,17] [3] [3,16] [3],Gt b),(.lp 2 [2,3,36,37] [3] [2,3,36] [3],yr b)])
theorem Lx:zV.map told=some (ant (bl zV)):=by kernel_rfl
theorem azn:tree (ab zV)=Xr CZ:=bE Lx
theorem UG:round 0 [3,16,17] [3] [3,16] [3] (CZ 0)=Gt CZ:=aT Lx 0 fun _=>rfl
theorem Gu:round 2 [2,3,36,37] [3] [2,3,36] [3] (CZ 1)=yr CZ:=aT Lx 1 fun _=>rfl
def Ab:Option PC:=cF [2,3,4] [] Tryz.f80 80 []
def O7:Nat→PC:=aZ Ab
def acY (b:Nat→PC):PC:=.block 0 [3,4,12,13,14,15] [] (.loop [3,4] [] (b 0))
def MK (b:Nat→PC):PT:=
 (.ite (ao r4 (.llen r0))
 (.chk (aq r0 r4)
 (.next ⟨[(3,(.mn r3 (pn r0 r4))),(4,(aH r4 (pi 1)))],[]⟩))
 (.exit 0 ⟨[(12,r4),(13,r0),(14,(.llen r0)),(15,(ao r4 (.llen r0)))],[]⟩))
def XF (b:Nat→PC):PT:=
 (.ite (ao (.llen r0) (pi 1))
 (.chk (.nt pT)
 (.chk (.nt pT)
 (.chk (aq r0 (pi 0))
 (.brk ⟨[(4,(pi 1)),(3,(pn r0 (pi 0)))],[]⟩
(acY b)
 (.ret r3)))))
 (.chk (aq r0 (pi 0))
 (.brk ⟨[(4,(pi 1)),(3,(pn r0 (pi 0)))],[]⟩
(acY b)
 (.ret r3))))
def anC (b:Nat→PC):PT×List (Shp×PT):=(XF b,[(.lp 0 [3,4,12,13,14,15] [] [3,4] [],MK b)])
theorem Su:Ab.map told=some (anC (bl Ab)):=by kernel_rfl
theorem azC:tree (ab Ab)=XF O7:=bE Su
theorem ahj:round 0 [3,4,12,13,14,15] [] [3,4] [] (O7 0)=MK O7:=aT Su 0 fun _=>rfl
def Dc:Option PC:=cF [8,9,15,39,58,74,11,12] [] Tryz.f36 36 [4,5,10]
def G1:PT:=
 (.blockS ⟨[],[(10,yb),(5,(.mk [r1])),(4,(.mk [r0]))]⟩ 0 [8,9,15,16,17,18,19,25,26,32,33,38,39,40,41,42,43,47,48,52,53,57,58,59,60,61,65,66,69,70,73,74,75,76,77,80] []
 (.call ⟨[],[]⟩ [] 17 74 [(ah 8 o4)]
 (.call ⟨[(19,(aC fy (pi 0)))],[]⟩ [(19,false)] 23 75 [(ah 8 o4),(pc o5 9)]
 (.call ⟨[(26,(.pick gY pT (.nt eF)))],[]⟩ [(26,false)] 30 75 [(ah 8 o4),(pc o5 10)]
 (.call ⟨[(33,(.pick jE pT (.nt jG)))],[]⟩ [(33,false)] 36 76 [(pc o5 8)]
 (.iteS ⟨[],[]⟩ (.pick nG pT (.nt jH)) [8,9,39,40,41,42,43,47,48,52,53,57,58,59,60,61,65,66,69,70,73,74,75,76,77,80] []
 (.ret (.tup [(pi 0),(pi 1)]))
 (.iteS ⟨[],[]⟩ agm [8,9,58,59,60,61,65,66,69,70,73,74,75,76,77,80] []
 (.ret (.tup [(pi 0),(pi 1)]))
 (.call ⟨[(61,(aC r2 (pi (-1))))],[]⟩ [(61,true)] 63 76 [r2]
 (.iteS ⟨[],[]⟩ (.pick (.pick (.pick vu (.nt yi) pF) pT (ao r3 (pi 0))) pT (aP r3 (pi 20000))) [8,9,74,75,76,77,80] []
 (.ret (.tup [(pi 0),(pi 1)]))
 (.call ⟨[],[]⟩ [] 76 77 [(.mk [(pc bY 0),(pc bY 1),(pc bY 2)])]
 (.ite (.pick tM (ae r2 (pi (-1))) pF)
 (.ret (.tup [(pi 0),(pi 4)]))
 (.next ⟨[],[]⟩)))
 (.next ⟨[],[]⟩)))
 (.next ⟨[],[]⟩))
 (.next ⟨[],[]⟩))))))
 (.call ⟨[],[]⟩ [] 85 78 [(ah 8 o4),(ah 15 o5),r2]
 (.ite (aC (.tget FA 1) (pi 0))
 (.ret (.tup [(pi 0),(.tget FA 1)]))
 (.call ⟨[(11,(.tget FA 0))],[]⟩ [] 92 76 [(.tget FA 0)]
 (.ite (.pick (.nt TM) pT (aP (aH bW r3) (pi 100000)))
 (.ret (.tup [(pi 0),(pi 3)]))
 (.call ⟨[],[]⟩ [] 106 79 [(ah 8 o4),(pc o5 10),(aH bW r3)]
 (.ret (.tup [(.tget TC 0),(.tget TC 1)]))))))))
theorem afn:Dc.map told=some (G1,[]):=by kernel_rfl
theorem XG:tree (ab Dc)=G1:=aF afn
def zK:Option PC:=cF [2,3,4,5,6,7,10,11,12] [] Tryz.f74 74 [1,9]
def OV:Nat→PC:=aZ zK
def asj (b:Nat→PC):PC:=.block 0 [2,38,39] [] (.loop [2,38] [] (b 0))
def Ge (b:Nat→PC):PT:=
 (.ite (ao jd lR)
 (.blockS ⟨[],[]⟩ 1 [2,9,40,41,42,43,44,45] [9]
 (.chk (aq jH jd)
 (.call ⟨[],[]⟩ [] 44 118 [(pc (.setc Fg 0 (pn jH jd)) 0),(pi 10)]
 (.ite (.nt yh)
 (.ret (pi 1))
 (.next ⟨[],[]⟩))))
 (.next ⟨[(38,(aH jd (pi 1)))],[]⟩))
 (.exit 0 ⟨[(39,(ao jd lR))],[]⟩))
def W9 (b:Nat→PC):PT:=
 (.call ⟨[(2,(pi 0))],[(1,(.mk [r0]))]⟩ [] 15 113 [fw]
 (.call ⟨[(5,(.tget df 2)),(4,(.tget df 1)),(3,(.tget df 0))],[]⟩ [] 21 114 [(pc o1 0),(pi 8),(.con (.clo 115 []))]
 (.ite (aC iP (pi 0))
 (.ret iP)
 (.call ⟨[],[(1,(ah 8 o1))]⟩ [] 27 114 [r3,(pi 40),(.clo 116 [(.ref (ah 8 o1))])]
 (.ite (aC eG (pi 0))
 (.ret eG)
 (.ite (aP nE (pi 20))
 (.ret (pi 6))
 (.brk ⟨[(38,(pi 0)),(37,nE),(36,(pc o1 2))],[]⟩
(asj b)
 (.call ⟨[],[]⟩ [] 49 114 [r4,(pi 200),(.clo 119 [(.ref o1)])]
 (.ite (aC mI (pi 0))
 (.ret mI)
 (.call ⟨[],[]⟩ [] 55 114 [r5,(pi 20),(.clo 120 [(.ref o1)])]
 (.ite (aC vt (pi 0))
 (.ret vt)
 (.call ⟨[],[]⟩ [] 60 122 [(.sub o1 0 8)]
 (.ite (aC tK (pi 0))
 (.ret tK)
 (.call ⟨[],[]⟩ [] 65 123 [(.sub o1 0 8)]
 (.ret vw)))))))))))))))
def anh (b:Nat→PC):PT×List (Shp×PT):=(W9 b,[(.lp 0 [2,38,39] [] [2,38] [],Ge b)])
theorem Sg:zK.map told=some (anh (bl zK)):=by kernel_rfl
theorem ay9:tree (ab zK)=W9 OV:=bE Sg
theorem Ut:round 0 [2,38,39] [] [2,38] [] (OV 0)=Ge OV:=aT Sg 0 fun _=>rfl
def zO:Option PC:=cF [] [] Tryz.f113 113 [1,2,3,4,6,16390,20486,24582,21,8,34,10,12298,16394,47]
def wu:Nat→PC:=aZ zO
def asq (b:Nat→PC):PC:=.block 0 [2,14,15] [2] (.loop [2,14] [2] (b 0))
def asr (b:Nat→PC):PC:=.block 2 [3,27,28] [3] (.loop [3,27] [3] (b 1))
def ass (b:Nat→PC):PC:=.block 4 [4,40,41] [4] (.loop [4,40] [4] (b 2))
def MD (b:Nat→PC):PT:=
 (.ite tC
 (.chk (aq bQ bH)
 (.chk (aX (.llen agk) cq)
 (.next ⟨[(2,pN),(14,(aH bH (pi 1)))],[(2,agk)]⟩)))
 (.exit 0 ⟨[(15,tC)],[]⟩))
def ME (b:Nat→PC):PT:=
 (.ite (ao eG jE)
 (.chk (aq dV eG)
 (.chk (aX (.llen agr) cq)
 (.next ⟨[(3,pN),(27,(aH eG (pi 1)))],[(3,agr)]⟩)))
 (.exit 2 ⟨[(28,(ao eG jE))],[]⟩))
def MF (b:Nat→PC):PT:=
 (.ite (ao lS yg)
 (.chk (aq jd lS)
 (.chk (aX (.llen agn) cq)
 (.next ⟨[(4,pN),(40,(aH lS (pi 1)))],[(4,agn)]⟩)))
 (.exit 4 ⟨[(41,(ao lS yg))],[]⟩))
def Xk (b:Nat→PC):PT:=
 (.brk ⟨[(14,(pi 0)),(13,(.llen jc)),(12,jc),(4,pN),(3,pN),(2,pN)],[(4,pL),(3,pL),(2,pL),(1,(.mk [r0]))]⟩
(asq b)
 (.brk ⟨[(27,(pi 0)),(26,nD),(25,(pc o1 3))],[]⟩
(asr b)
 (.brk ⟨[(40,(pi 0)),(39,oI),(38,(pc o1 4))],[]⟩
(ass b)
 (.ret (.tup [o2,o3,o4])))))
def anm (b:Nat→PC):PT×List (Shp×PT):=(Xk b,[(.lp 0 [2,14,15] [2] [2,14] [2],MD b),(.lp 2 [3,27,28] [3] [3,27] [3],ME b),(.lp 4 [4,40,41] [4] [4,40] [4],MF b)])
theorem E1:zO.map told=some (anm (bl zO)):=by kernel_rfl
theorem azg:tree (ab zO)=Xk wu:=bE E1
theorem ahd:round 0 [2,14,15] [2] [2,14] [2] (wu 0)=MD wu:=aT E1 0 fun _=>rfl
theorem ahe:round 2 [3,27,28] [3] [3,27] [3] (wu 1)=ME wu:=aT E1 1 fun _=>rfl
theorem ahf:round 4 [4,40,41] [4] [4,40] [4] (wu 2)=MF wu:=aT E1 2 fun _=>rfl
def zM:Option PC:=cF [6,7,8] [] Tryz.f114 114 []
def OY:Nat→PC:=aZ zM
def aso (b:Nat→PC):PC:=.block 0 [6,15,16] [] (.loop [6,15] [] (b 0))
def Gg (b:Nat→PC):PT:=
 (.ite (ao df bH)
 (.blockS ⟨[],[]⟩ 1 [6,7,8,17,18,19,20,21,22,24,25,26,27] []
 (.call ⟨[(7,df)],[]⟩ [] 20 157 [r0,df]
 (.ite (aC dU (pi 0))
 (.ret dU)
 (.callc ⟨[],[]⟩ [] 26 r2 [r7]
 (.ite (.nt jE)
 (.ret (pi 1))
 (.next ⟨[],[]⟩)))))
 (.next ⟨[(15,(aH df (pi 1)))],[]⟩))
 (.exit 0 ⟨[(16,(ao df bH))],[]⟩))
def Xg (b:Nat→PC):PT:=
 (.ite (aP (.llen r0) r1)
 (.ret (pi 6))
 (.brk ⟨[(15,(pi 0)),(14,(.llen r0)),(6,(pi 0))],[]⟩
(aso b)
 (.ret (pi 0))))
def ank (b:Nat→PC):PT×List (Shp×PT):=(Xg b,[(.lp 0 [6,15,16] [] [6,15] [],Gg b)])
theorem Sk:zM.map told=some (ank (bl zM)):=by kernel_rfl
theorem azc:tree (ab zM)=Xg OY:=bE Sk
theorem Uv:round 0 [6,15,16] [] [6,15] [] (OY 0)=Gg OY:=aT Sk 0 fun _=>rfl
def Jc:Option PC:=cF [4] [] Tryz.f157 157 []
def Xj:PT:=
 (.chk (aq r0 r1)
 (.call ⟨[],[]⟩ [] 9 181 [(pn r0 r1)]
 (.ite (.nt r9)
 (.ret (pi 2))
 (.chk (.slok r0 (pi 0) r1)
 (.chk (aq r0 r1)
 (.call ⟨[],[]⟩ [] 18 182 [(.slc r0 (pi 0) r1),(pn r0 r1)]
 (.ite fW
 (.ret (pi 5))
 (.ret (pi 0)))))))))
theorem aff:Jc.map told=some (Xj,[]):=by kernel_rfl
theorem azf:tree (ab Jc)=Xj:=aF aff
def zN:Option PC:=cF [2,3,4,5] [] Tryz.f181 181 []
def OZ:Nat→PC:=aZ zN
def asp (b:Nat→PC):PC:=.block 0 [2,16,17] [] (.loop [2,16] [] (b 0))
def Gi (b:Nat→PC):PT:=
 (.ite (ao dA df)
 (.chk (aq bH dA)
 (.ite (.pick (.nt (.pick (.pick (bD rp (.con (.v (.int .u8 97)))) (aX rp (.con (.v (.int .u8 122)))) pF) pT (.pick (bD rp (.con (.v (.int .u8 65)))) (aX rp (.con (.v (.int .u8 90)))) pF))) (.pick (ae dA (pi 0)) pT (.pick (aC rp (.con (.v (.int .u8 95)))) (.pick (ao rp (.con (.v (.int .u8 48)))) pT (aP rp (.con (.v (.int .u8 57))))) pF)) pF)
 (.ret pF)
 (.next ⟨[(16,(aH dA (pi 1)))],[]⟩)))
 (.exit 0 ⟨[(17,(ao dA df))],[]⟩))
def Xi (b:Nat→PC):PT:=
 (.ite (.pick (.cs .eql r0 (.con (.v (.string ⟨#[]⟩)))) pT (aP (.slen r0) (pi 20)))
 (.ret pF)
 (.chk (aX (.slen r0) cq)
 (.brk ⟨[(16,(pi 0)),(15,(.llen (.bytes r0))),(14,(.bytes r0)),(2,pF)],[]⟩
(asp b)
 (.ret pT))))
def anl (b:Nat→PC):PT×List (Shp×PT):=(Xi b,[(.lp 0 [2,16,17] [] [2,16] [],Gi b)])
theorem Sl:zN.map told=some (anl (bl zN)):=by kernel_rfl
theorem aze:tree (ab zN)=Xi OZ:=bE Sl
theorem Uw:round 0 [2,16,17] [] [2,16] [] (OZ 0)=Gi OZ:=aT Sl 0 fun _=>rfl
def Jj:Option PC:=cF [4] [] Tryz.f182 182 []
def Xz:PT:=
 (.call ⟨[],[]⟩ [] 7 206 [r0,r1]
 (.ret (bD r7 (pi 0))))
theorem afm:Jj.map told=some (Xz,[]):=by kernel_rfl
theorem azw:tree (ab Jj)=Xz:=aF afm
def Aa:Option PC:=cF [4,5] [] Tryz.f206 206 []
def O6:Nat→PC:=aZ Aa
def asN (b:Nat→PC):PC:=.block 0 [4,8,9] [] (.loop [4,8] [] (b 0))
def Gz (b:Nat→PC):PT:=
 (.ite (ao r8 r7)
 (.chk (aq r0 r8)
 (.ite (.cs .eql r1 (pn r0 r8))
 (.ret r8)
 (.next ⟨[(8,oJ)],[]⟩)))
 (.exit 0 ⟨[(9,(ao r8 r7))],[]⟩))
def XE (b:Nat→PC):PT:=
 (.brk ⟨[(8,(pi 0)),(7,(.llen r0)),(4,(pi 0))],[]⟩
(asN b)
 (.ret (pi (-1))))
def anB (b:Nat→PC):PT×List (Shp×PT):=(XE b,[(.lp 0 [4,8,9] [] [4,8] [],Gz b)])
theorem Ss:Aa.map told=some (anB (bl Aa)):=by kernel_rfl
theorem azB:tree (ab Aa)=XE O6:=bE Ss
theorem UN:round 0 [4,8,9] [] [4,8] [] (O6 0)=Gz O6:=aT Ss 0 fun _=>rfl
def I6:Option PC:=cF [2] [] Tryz.f115 115 []
def Xa:PT:=
 (.ret pT)
theorem ae9:I6.map told=some (Xa,[]):=by kernel_rfl
theorem ay5:tree (ab I6)=Xa:=aF ae9
def I7:Option PC:=cF [3] [] Tryz.f116 116 []
def Xb:PT:=
 (.chk (aq (pc (.deref r1) 1) r0)
 (.call ⟨[],[]⟩ [] 10 117 [(.deref r1),(pn (pc (.deref r1) 1) r0)]
 (.ret bN)))
theorem afa:I7.map told=some (Xb,[]):=by kernel_rfl
theorem ay6:tree (ab I7)=Xb:=aF afa
def zL:Option PC:=cF [4,6] [] Tryz.f117 117 [2,3]
def OX:Nat→PC:=aZ zL
def asn (b:Nat→PC):PC:=.block 0 [4,10,11] [] (.loop [4,10] [] (b 0))
def Gf (b:Nat→PC):PT:=
 (.ite (ao bN r9)
 (.chk (aq r8 bN)
 (.chk yf
 (.chk (.nt (.an (.an (.nt (ao Tl (pi 1))) pT) (.nt yf)))
 (.ite (.pick (ao Tl (pi 1)) pT (aP Tl (pi 31)))
 (.ret pF)
 (.next ⟨[(10,(aH bN (pi 1)))],[]⟩)))))
 (.exit 0 ⟨[(11,(ao bN r9))],[]⟩))
def Xf (b:Nat→PC):PT:=
 (.brk ⟨[(10,(pi 0)),(9,(.llen (pc (.mk [r1]) 4))),(8,(pc (.mk [r1]) 4)),(4,pF)],[(3,(.mk [r1])),(2,(.mk [r0]))]⟩
(asn b)
 (.call ⟨[(33,(.pick (aP BC (pi 60)) pT (aP (.llen (pc o3 5)) (pi 200))))],[]⟩ [(33,false)] 39 118 [(pc o3 1),(.llen (pc o2 4))]
 (.call ⟨[(42,(.pick nG pT (.nt yg)))],[]⟩ [(42,false)] 48 118 [(pc o3 2),(.llen (pc o2 0))]
 (.ite (.pick r42 pT (.nt ln))
 (.ret pF)
 (.call ⟨[],[]⟩ [] 53 158 [(pc o3 3),(pi 0),(pi 6)]
 (.call ⟨[(54,Me)],[]⟩ [(54,true)] 57 158 [(pc o3 4),(pi 101),(pi 1231)]
 (.call ⟨[(59,(.pick ql BL pF))],[]⟩ [(59,true)] 62 158 [(pc o3 5),(pi 0),(pi 100000)]
 (.ret (.pick r59 kF pF)))))))))
def anj (b:Nat→PC):PT×List (Shp×PT):=(Xf b,[(.lp 0 [4,10,11] [] [4,10] [],Gf b)])
theorem Sj:zL.map told=some (anj (bl zL)):=by kernel_rfl
theorem azb:tree (ab zL)=Xf OX:=bE Sj
theorem Uu:round 0 [4,10,11] [] [4,10] [] (OX 0)=Gf OX:=aT Sj 0 fun _=>rfl
def zR:Option PC:=cF [6,7,8] [] Tryz.f158 158 []
def O0:Nat→PC:=aZ zR
def asx (b:Nat→PC):PC:=.block 0 [6,11,12] [] (.loop [6,11] [] (b 0))
def vy (b:Nat→PC):PT:=
 (.ite (ao bW bN)
 (.chk (aq r9 bW)
 (.chk (.nt (.an (.an (aP bW (pi 0)) (.an (.nt (.pick (ao (pn r9 bW) r1) pT (aP (pn r9 bW) r2))) pT)) (.nt (aq r0 (aS bW (pi 1))))))
 (.ite (.pick (.pick (ao (pn r9 bW) r1) pT (aP (pn r9 bW) r2)) pT (.pick (aP bW (pi 0)) (aX (pn r9 bW) (pn r0 (aS bW (pi 1)))) pF))
 (.ret pF)
 (.next ⟨[(11,(aH bW (pi 1)))],[]⟩))))
 (.exit 0 ⟨[(12,(ao bW bN))],[]⟩))
def Xn (b:Nat→PC):PT:=
 (.brk ⟨[(11,(pi 0)),(10,(.llen r0)),(9,r0),(6,pF)],[]⟩
(asx b)
 (.ret pT))
def anp (b:Nat→PC):PT×List (Shp×PT):=(Xn b,[(.lp 0 [6,11,12] [] [6,11] [],vy b)])
theorem Sm:zR.map told=some (anp (bl zR)):=by kernel_rfl
theorem azj:tree (ab zR)=Xn O0:=bE Sm
theorem BT:round 0 [6,11,12] [] [6,11] [] (O0 0)=vy O0:=aT Sm 0 fun _=>rfl
def I8:Option PC:=cF [3] [] Tryz.f119 119 []
def Xc:PT:=
 (.chk (aq (pc (.deref r1) 3) r0)
 (.call ⟨[],[]⟩ [] 13 118 [(pc (pn (pc (.deref r1) 3) r0) 1),(.llen (pc (.deref r1) 1))]
 (.chk (.nt (.an (.an cO pT) (.nt (aq (pc (.deref r1) 3) r0))))
 (.call ⟨[(14,cO)],[]⟩ [(14,true)] 24 118 [(pc (pn (pc (.deref r1) 3) r0) 2),(.llen (pc (.deref r1) 2))]
 (.ret (.pick bH lh pF))))))
theorem afb:I8.map told=some (Xc,[]):=by kernel_rfl
theorem ay7:tree (ab I8)=Xc:=aF afb
def I9:Option PC:=cF [3] [] Tryz.f120 120 []
def Xd:PT:=
 (.chk (aq (pc (.deref r1) 4) r0)
 (.call ⟨[],[]⟩ [] 9 121 [(pn (pc (.deref r1) 4) r0)]
 (.ret r9)))
theorem afc:I9.map told=some (Xd,[]):=by kernel_rfl
theorem ay8:tree (ab I9)=Xd:=aF afc
def zP:Option PC:=cF [2] [] Tryz.f121 121 [1,3,4,6,19,8,16392,36]
def CW:Nat→PC:=aZ zP
def ast (b:Nat→PC):PC:=.block 0 [2,3,12,13] [3] (.loop [2,3,12] [3] (b 0))
def asu (b:Nat→PC):PC:=.block 2 [4,29,30] [4] (.loop [4,29] [4] (b 1))
def Gj (b:Nat→PC):PT:=
 (.ite (ao bQ bW)
 (.blockS ⟨[],[]⟩ 1 [2,3,6,14,15,17,18,19,20,21,22,23,24] [6,19,3]
 (.chk (aq bN bQ)
 (.chk (aX (.llen (.app o3 (.lst [(pc (.setc tE 0 (pn bN bQ)) 0)]))) cq)
 (.call ⟨[(3,pN)],[(3,(.app o3 (.lst [(pc (.setc tE 0 (pn bN bQ)) 0)])))]⟩ [] 23 118 [(pc (.setc tE 0 (pn bN bQ)) 1),(pi 5)]
 (.ite (.nt eF)
 (.ret pF)
 (.next ⟨[],[]⟩)))))
 (.next ⟨[(12,(aH bQ (pi 1)))],[]⟩))
 (.exit 0 ⟨[(13,(ao bQ bW))],[]⟩))
def MG (b:Nat→PC):PT:=
 (.ite (ao jF gK)
 (.chk (aq eG jF)
 (.chk (aX (.llen ags) cq)
 (.next ⟨[(4,pN),(29,(aH jF (pi 1)))],[(4,ags)]⟩)))
 (.exit 2 ⟨[(30,(ao jF gK))],[]⟩))
def Xl (b:Nat→PC):PT:=
 (.brk ⟨[(12,(pi 0)),(11,qk),(10,Fl),(4,pN),(3,pN),(2,pF)],[(4,pL),(3,pL),(1,(.mk [r0]))]⟩
(ast b)
 (.brk ⟨[(29,(pi 0)),(28,nD),(27,(pc o1 3))],[]⟩
(asu b)
 (.call ⟨[],[]⟩ [] 40 158 [o3,(pi 0),(pi 21)]
 (.call ⟨[(41,lS)],[]⟩ [(41,true)] 43 158 [o4,(pi 0),(pi 21)]
 (.ret (.pick mH rz pF))))))
def ann (b:Nat→PC):PT×List (Shp×PT):=(Xl b,[(.lp 0 [2,3,12,13] [3] [2,3,12] [3],Gj b),(.lp 2 [4,29,30] [4] [4,29] [4],MG b)])
theorem Lu:zP.map told=some (ann (bl zP)):=by kernel_rfl
theorem azh:tree (ab zP)=Xl CW:=bE Lu
theorem Ux:round 0 [2,3,12,13] [3] [2,3,12] [3] (CW 0)=Gj CW:=aT Lu 0 fun _=>rfl
theorem ahg:round 2 [4,29,30] [4] [4,29] [4] (CW 1)=MG CW:=aT Lu 1 fun _=>rfl
def zS:Option PC:=cF [2,3] [] Tryz.f122 122 [1,4,6]
def CY:Nat→PC:=aZ zS
def asy (b:Nat→PC):PC:=.block 2 [2,50,51] [] (.loop [2,50] [] (b 0))
def asz (b:Nat→PC):PC:=.block 0 [2,14,15] [] (.loop [2,14] [] (b 1))
def BU (b:Nat→PC):PT:=
 (.ite (ao gZ mI)
 (.chk (aq ln gZ)
 (.ite (.pick (ae (pc (.setc z3 0 (pn ln gZ)) 0) (pc o4 0)) (ae (pc (.setc z3 0 (pn ln gZ)) 1) (pc o4 1)) pF)
 (.ret (pi 5))
 (.next ⟨[(50,(aH gZ (pi 1)))],[]⟩)))
 (.exit 2 ⟨[(51,(ao gZ mI))],[]⟩))
def Gm (b:Nat→PC):PT:=
 (.ite tC
 (.blockS ⟨[(15,tC)],[]⟩ 1 [2,3,4,16,17,18,19,20,21,22,23,24,25,26,34,35,39,40,44,45,46,47,48,49,50,51] [4]
 (.chk (aq bQ bH)
 (.call ⟨[(3,bH)],[(4,BI)]⟩ [] 24 118 [(pc BI 0),lQ]
 (.call ⟨[(26,(.nt lh))],[]⟩ [(26,false)] 32 118 [(pc o4 1),lQ]
 (.ite (.pick (.pick (.pick jE pT (.nt kE)) pT (ao (pc o4 2) (pi 1))) pT (aP (pc o4 2) (pi 20000)))
 (.ret (pi 1))
 (.chk (.slok (pc o1 5) (pi 0) r3)
 (.brk ⟨[(50,(pi 0)),(49,(.llen (.slc (pc o1 5) (pi 0) r3))),(48,(.slc (pc o1 5) (pi 0) r3))],[]⟩
(asy b)
 (.next ⟨[],[]⟩)))))))
 (.next ⟨[(14,(aH bH (pi 1)))],[]⟩))
 (.exit 0 ⟨[(15,tC)],[]⟩))
def Xo (b:Nat→PC):PT:=
 (.ite (aP (.llen vm) (pi 100))
 (.ret (pi 6))
 (.brk ⟨[(14,(pi 0)),(13,(.llen vm)),(12,vm),(2,(pi 0))],[(1,(.mk [r0]))]⟩
(asz b)
 (.ret (pi 0))))
def anq (b:Nat→PC):PT×List (Shp×PT):=(Xo b,[(.lp 2 [2,50,51] [] [2,50] [],BU b),(.lp 0 [2,14,15] [] [2,14] [],Gm b)])
theorem Lw:zS.map told=some (anq (bl zS)):=by kernel_rfl
theorem azk:tree (ab zS)=Xo CY:=bE Lw
theorem MH:round 2 [2,50,51] [] [2,50] [] (CY 0)=BU CY:=aT Lw 0 fun _=>rfl
theorem UA:round 0 [2,14,15] [] [2,14] [] (CY 1)=Gm CY:=aT Lw 1 fun _=>rfl
def zQ:Option PC:=cF [2] [] Tryz.f123 123 [1,4,6]
def CX:Nat→PC:=aZ zQ
def asv (b:Nat→PC):PC:=.block 0 [2,14,15] [] (.loop [2,14] [] (b 0))
def asw (b:Nat→PC):PC:=.block 2 [2,69,70] [] (.loop [2,69] [] (b 1))
def Gk (b:Nat→PC):PT:=
 (.ite tC
 (.blockS ⟨[],[]⟩ 1 [2,4,16,17,18,19,20,21,22,23,24,25,33,34,40,41,47,48,54,55,60] [4]
 (.chk (aq bQ bH)
 (.call ⟨[],[(4,(.setc z5 0 (pn bQ bH)))]⟩ [] 23 118 [(pc (.setc z5 0 (pn bQ bH)) 0),vn]
 (.call ⟨[(25,(.nt eF))],[]⟩ [(25,false)] 31 118 [(pc o4 1),vn]
 (.call ⟨[(41,(.pick (.pick dV pT (.nt lj)) pT (ae (pc o4 0) (pc o4 1))))],[]⟩ [(41,false)] 45 118 [(aS (pc o4 2) (pi 1)),(pi 1073741824)]
 (.call ⟨[(48,(.pick mH pT (.nt ll)))],[]⟩ [(48,false)] 52 118 [(aS (pc o4 3) (pi 1)),(pi 1073741824)]
 (.call ⟨[(55,(.pick ln pT (.nt tJ)))],[]⟩ [(55,false)] 58 118 [(pc o4 4),(pi 100001)]
 (.ite (.pick vt pT (.nt BM))
 (.ret (pi 1))
 (.next ⟨[],[]⟩))))))))
 (.next ⟨[(14,(aH bH (pi 1)))],[]⟩))
 (.exit 0 ⟨[(15,tC)],[]⟩))
def Gl (b:Nat→PC):PT:=
 (.ite (ao tL Fy)
 (.blockS ⟨[],[]⟩ 3 [2,6,71,72,73,74,75,76,77,78,79,80,84,85,91,92,96] [6]
 (.chk (aq rB tL)
 (.call ⟨[],[(6,(.setc z3 0 (pn rB tL)))]⟩ [] 78 118 [(pc (.setc z3 0 (pn rB tL)) 0),oI]
 (.ite (.pick (.pick (.pick (.nt r78) pT (ao (pc o6 1) (pi 0))) pT (aP (pc o6 1) (pc o6 2))) pT (aP (pc o6 2) (pi 100000)))
 (.ret (pi 1))
 (.next ⟨[],[]⟩))))
 (.next ⟨[(69,(aH tL (pi 1)))],[]⟩))
 (.exit 2 ⟨[(70,(ao tL Fy))],[]⟩))
def Xm (b:Nat→PC):PT:=
 (.ite (aP (.llen (pc (.mk [r0]) 6)) (pi 100))
 (.ret (pi 6))
 (.brk ⟨[(14,(pi 0)),(13,(.llen (pc (.mk [r0]) 6))),(12,(pc (.mk [r0]) 6)),(2,(pi 0))],[(1,(.mk [r0]))]⟩
(asv b)
 (.ite (aP xY (pi 20))
 (.ret (pi 6))
 (.brk ⟨[(69,(pi 0)),(68,xY),(67,(pc o1 7))],[]⟩
(asw b)
 (.ret (pi 0))))))
def ano (b:Nat→PC):PT×List (Shp×PT):=(Xm b,[(.lp 0 [2,14,15] [] [2,14] [],Gk b),(.lp 2 [2,69,70] [] [2,69] [],Gl b)])
theorem Lv:zQ.map told=some (ano (bl zQ)):=by kernel_rfl
theorem azi:tree (ab zQ)=Xm CX:=bE Lv
theorem Uy:round 0 [2,14,15] [] [2,14] [] (CX 0)=Gk CX:=aT Lv 0 fun _=>rfl
theorem Uz:round 2 [2,69,70] [] [2,69] [] (CX 1)=Gl CX:=aT Lv 1 fun _=>rfl
def Jl:Option PC:=cF [4] [] Tryz.f75 75 [2]
def XI:PT:=
 (.ret (.pick (bD r1 (pi 0)) (ao r1 (.llen jc)) pF))
theorem afr:Jl.map told=some (XI,[]):=by kernel_rfl
theorem azE:tree (ab Jl)=XI:=aF afr
def Jm:Option PC:=cF [2] [] Tryz.f76 76 []
def XJ:PT:=
 (.ret (.pick (bD r0 (pi 0)) (aX r0 (pi 100000)) pF))
theorem afs:Jm.map told=some (XJ,[]):=by kernel_rfl
theorem azF:tree (ab Jm)=XJ:=aF afs
def Jk:Option PC:=cF [2] [] Tryz.f77 77 [1]
def XH:PT:=
 (.ret (.pick (ae iO (pi 0)) pT (ae iO (pi 1))))
theorem afo:Jk.map told=some (XH,[]):=by kernel_rfl
theorem azD:tree (ab Jk)=XH:=aF afo
def Df:Option PC:=cF [6,7,13,16,24,33,8,9] [] Tryz.f78 78 [3,4]
def nO:PT:=
 (.blockS ⟨[(12,(pc (.mk [r1]) 5))],[(4,(.mk [r1])),(3,(.mk [r0]))]⟩ 0 [6,7,13,14,16,17,24,25,33,34] []
 (.iteS ⟨[],[]⟩ (ae bQ (pi 0)) [6,7,16,17,24,25,33,34] []
 (.ret (.tup [r2,(pi 0)]))
 (.iteS ⟨[],[]⟩ (ae bQ (pi 1)) [6,7,24,25,33,34] []
 (.call ⟨[],[]⟩ [] 21 124 [r2,(.mk [(pc o4 5),(pc o4 6),(pc o4 7)])]
 (.ret (.tup [(.tget iP 0),(.tget iP 1)])))
 (.iteS ⟨[],[]⟩ (ae bQ (pi 2)) [6,7,33,34] []
 (.call ⟨[],[]⟩ [] 30 124 [(pc o4 8),(.mk [(pc o4 5),(pc o4 6),(pc o4 7)])]
 (.ret (.tup [(.tget jG 0),(.tget jG 1)])))
 (.iteS ⟨[],[]⟩ (ae bQ (pi 4)) [6,7] []
 (.call ⟨[],[]⟩ [] 41 83 [(ah 8 o3),(pc o4 9),(pc o4 10)]
 (.ret (.tup [(aH (pc o4 8) (.tget mH 0)),(.tget mH 1)])))
 (.next ⟨[],[]⟩)
 (.next ⟨[],[]⟩))
 (.next ⟨[],[]⟩))
 (.next ⟨[],[]⟩))
 (.next ⟨[],[]⟩))
 (.ret (.tup [(pc o4 6),(pi 0)])))
theorem afq:Df.map told=some (nO,[]):=by kernel_rfl
theorem yC:tree (ab Df)=nO:=aF afq
def De:Option PC:=cF [4,5] [] Tryz.f124 124 [3]
def oR:PT:=
 (.ite (.pick (ao vl (pi 0)) pT (aP vl (pi 20000)))
 (.ret (.tup [(pi 0),(pi 3)]))
 (.iteS ⟨[],[(3,(.mk [r1]))]⟩ (ae (pc (.mk [r1]) 2) (pi 1)) [4,5] []
 (.call ⟨[],[]⟩ [] 20 159 [r0,(pc o3 1)]
 (.ret (.tup [(.tget dU 0),(.tget dU 1)])))
 (.next ⟨[],[]⟩)
 (.ret (.tup [(aH r0 (pc o3 1)),(pi 0)]))))
theorem afp:De.map told=some (oR,[]):=by kernel_rfl
theorem rJ:tree (ab De)=oR:=aF afp
def C8:Option PC:=cF [4,5,6,7,8,9] [] Tryz.f159 159 []
def yB:PT:=
 (.call ⟨[],[]⟩ [] 11 160 [r0]
 (.ite (.pick (.pick (.nt bW) pT (ao r1 (pi (-5000)))) pT (aP r1 (pi 5000)))
 (.ret (.tup [(pi 0),(pi 3)]))
 (.call ⟨[],[]⟩ [] 23 183 [r0]
 (.chk (aC (pi 12) (pi 0))
 (.call ⟨[(41,(.tget eF 2)),(40,(aH (.ai .rem .i64 L6 (pi 12)) (pi 1))),(39,(.ai .quo .i64 L6 (pi 12)))],[]⟩ [] 44 185 [(.ai .quo .i64 L6 (pi 12)),(aH (.ai .rem .i64 L6 (pi 12)) (pi 1))]
 (.call ⟨[],[]⟩ [] 46 184 [yg,lS,(.mn mH yh)]
 (.ret (.tup [(.tget Fx 0),(.tget Fx 1)]))))))))
theorem adP:C8.map told=some (yB,[]):=by kernel_rfl
theorem GX:tree (ab C8)=yB:=aF adP
def HL:Option PC:=cF [2] [] Tryz.f160 160 []
def Vx:PT:=
 (.ret (.pick (aX (pi 0) r0) (aX r0 (pi 100000)) pF))
theorem adW:HL.map told=some (Vx,[]):=by kernel_rfl
theorem aw9:tree (ab HL)=Vx:=aF adW
def HH:Option PC:=cF [2,3,4,5,6,7,8,9] [] Tryz.f183 183 []
def Vs:PT:=
 (.chk (aC (pi 146097) (pi 0))
 (.chk (aC (pi 1460) (pi 0))
 (.chk (aC (pi 36524) (pi 0))
 (.chk (aC (pi 146096) (pi 0))
 (.chk (aC (pi 365) (pi 0))
 (.chk (aC (pi 4) (pi 0))
 (.chk yf
 (.chk (aC (pi 153) (pi 0))
 (.chk (aC (pi 5) (pi 0))
 (.ret (.tup [(.pick (ao af2 (pi 3)) (aH af5 (pi 1)) af5),af2,(aH (aS (aS (.ai .rem .i64 (aH r0 (pi 730425)) (pi 146097)) (aS (aH (.ai .mul .i64 (pi 365) yd) (.ai .quo .i64 yd (pi 4))) (.ai .quo .i64 yd (pi 100)))) (.ai .quo .i64 (aH (.ai .mul .i64 (pi 153) L7) (pi 2)) (pi 5))) (pi 1))])))))))))))
theorem adR:HH.map told=some (Vs,[]):=by kernel_rfl
theorem aw4:tree (ab HH)=Vs:=aF adR
def HJ:Option PC:=cF [4] [] Tryz.f185 185 []
def Nj:PT:=
 (.ite (ae r1 (pi 12))
 (.ret (pi 31))
 (.call ⟨[],[]⟩ [] 10 207 [r0,(aH r1 (pi 1)),(pi 1)]
 (.call ⟨[],[]⟩ [] 13 207 [r0,r1,(pi 1)]
 (.ret (aS bN cO)))))
theorem adT:HJ.map told=some (Nj,[]):=by kernel_rfl
theorem aw7:tree (ab HJ)=Nj:=aF adT
def Da:Option PC:=cF [6,0,1] [] Tryz.f207 207 []
def B8:PT:=
 (.chk (aC (pi 4) (pi 0))
 (.chk yf
 (.chk (aC (pi 400) (pi 0))
 (.chk (aC (pi 5) (pi 0))
 (.ret (aS (aS (aH (aH (aH (aS (aH (.ai .mul .i64 (pi 365) L9) (.ai .quo .i64 L9 (pi 4))) (.ai .quo .i64 L9 (pi 100))) (.ai .quo .i64 L9 (pi 400))) (.ai .quo .i64 (aH (.ai .mul .i64 (pi 153) (aS (.pick (ao r1 (pi 3)) (aH r1 (pi 12)) r1) (pi 3))) (pi 2)) (pi 5))) r2) (pi 1)) (pi 730425)))))))
theorem adU:Da.map told=some (B8,[]):=by kernel_rfl
theorem Vv:tree (ab Da)=B8:=aF adU
def C9:Option PC:=cF [6,7,8] [] Tryz.f184 184 []
def oQ:PT:=
 (.call ⟨[(28,r2),(27,agl)],[]⟩ [(27,false)] 31 185 [r0,r1]
 (.ite (.pick eG pT (aP gK lj))
 (.ret (.tup [(pi 0),(pi 3)]))
 (.call ⟨[],[]⟩ [] 37 207 [r0,r1,r2]
 (.call ⟨[(8,lR)],[]⟩ [] 39 160 [lR]
 (.ite (.nt yg)
 (.ret (.tup [(pi 0),(pi 3)]))
 (.ret (.tup [r8,(pi 0)])))))))
theorem adQ:C9.map told=some (oQ,[]):=by kernel_rfl
theorem tU:tree (ab C9)=oQ:=aF adQ
def wC:Option PC:=cF [6,7] [] Tryz.f83 83 [3,9]
def OW:Nat→PC:=aZ wC
def asl (b:Nat→PC):PC:=.block 0 [6,7,13,14] [] (.loop [6,7,13] [] (b 0))
def vx (b:Nat→PC):PT:=
 (.ite (ao cO bQ)
 (.chk (aq bW cO)
 (.ite (.pick (ae (pc (.setc z3 0 rq) 0) r1) (ae (pc (.setc z3 0 rq) 1) r2) pF)
 (.ret (.tup [(pc (.setc z3 0 rq) 2),(pi 0)]))
 (.next ⟨[(13,(aH cO (pi 1)))],[]⟩)))
 (.exit 0 ⟨[(14,(ao cO bQ))],[]⟩))
def Nv (b:Nat→PC):PT:=
 (.brk ⟨[(13,(pi 0)),(12,(.llen vm)),(11,vm),(7,(pi 0)),(6,(pi 0))],[]⟩
(asl b)
 (.ret (.tup [(pi 0),(pi 4)])))
def ani (b:Nat→PC):PT×List (Shp×PT):=(Nv b,[(.lp 0 [6,7,13,14] [] [6,7,13] [],vx b)])
theorem Si:wC.map told=some (ani (bl wC)):=by kernel_rfl
theorem ahZ:tree (ab wC)=Nv OW:=bE Si
theorem BS:round 0 [6,7,13,14] [] [6,7,13] [] (OW 0)=vx OW:=aT Si 0 fun _=>rfl
def Ac:Option PC:=cF [6,7,8,2,9,10] [] Tryz.f79 79 [3]
def O8:Nat→PC:=aZ Ac
def asO (b:Nat→PC):PC:=.block 0 [] [] (.loop [2,6,7] [] (b 0))
def UO (b:Nat→PC):PT:=
 (.blockS ⟨[],[]⟩ 1 [2,6,7,9,10,14,15,16,17,18,19,20,21,22,23,24,25,26,27,28,29,30,31,32,34] []
 (.call ⟨[],[]⟩ [] 17 126 [(ah 8 o3),r8,r2]
 (.chk (aq (pc o3 1) r1)
 (.call ⟨[(2,fy)],[]⟩ [] 25 127 [(pn (pc o3 1) r1),fy]
 (.ite (aC (.tget dV 1) (pi 0))
 (.ret (.tup [(pi 0),(pi 3)]))
 (.ite (ae (.tget dV 0) r2)
 (.ret (.tup [r2,(pi 0)]))
 (.next ⟨[(2,(.tget dV 0))],[]⟩))))))
 (.next ⟨[],[]⟩))
def XK (b:Nat→PC):PT:=
 (.call ⟨[(7,(pi 0)),(6,(pi 0))],[(3,(.mk [r0]))]⟩ [] 13 125 [fw,r1]
 (.brk ⟨[(8,cO)],[]⟩
(asO b)
 (.next ⟨[],[]⟩)))
def anD (b:Nat→PC):PT×List (Shp×PT):=(XK b,[(.lp 0 [] [] [2,6,7] [],UO b)])
theorem Sv:Ac.map told=some (anD (bl Ac)):=by kernel_rfl
theorem azG:tree (ab Ac)=XK O8:=bE Sv
theorem avD:round 0 [] [] [2,6,7] [] (O8 0)=UO O8:=aT Sv 0 fun _=>rfl
def Ad:Option PC:=cF [6,7,2] [] Tryz.f126 126 [3,9]
def C2:Nat→PC:=aZ Ad
def asP (b:Nat→PC):PC:=.block 2 [2,7,14,15] [] (.loop [2,7,14] [] (b 0))
def asQ (b:Nat→PC):PC:=.block 0 [2,7,10] [] (.loop [2,7] [] (b 1))
def BV (b:Nat→PC):PT:=
 (.ite tC
 (.chk (aq bQ bH)
 (.next ⟨[(2,(.pick af4 (aH (pc BI 2) (pi 1)) r2)),(7,(.pick af4 pT r7)),(14,(aH bH (pi 1)))],[]⟩))
 (.exit 2 ⟨[(15,tC)],[]⟩))
def MM (b:Nat→PC):PT:=
 (.ite r7
 (.blockS ⟨[(10,r7)],[]⟩ 1 [2,7,11,12,13,14,15] []
 (.brk ⟨[(14,(pi 0)),(13,(.llen (pc o3 7))),(12,(pc o3 7)),(7,pF)],[]⟩
(asP b)
 (.next ⟨[],[]⟩))
 (.next ⟨[],[]⟩))
 (.exit 0 ⟨[(10,r7)],[]⟩))
def XL (b:Nat→PC):PT:=
 (.brk ⟨[(7,pT)],[(3,(.mk [r0]))]⟩
(asQ b)
 (.ret r2))
def anE (b:Nat→PC):PT×List (Shp×PT):=(XL b,[(.lp 2 [2,7,14,15] [] [2,7,14] [],BV b),(.lp 0 [2,7,10] [] [2,7] [],MM b)])
theorem LA:Ad.map told=some (anE (bl Ad)):=by kernel_rfl
theorem azH:tree (ab Ad)=XL C2:=bE LA
theorem ML:round 2 [2,7,14,15] [] [2,7,14] [] (C2 0)=BV C2:=aT LA 0 fun _=>rfl
theorem ahk:round 0 [2,7,10] [] [2,7] [] (C2 1)=MM C2:=aT LA 1 fun _=>rfl
def yZ:Option PC:=cF [6] [] Tryz.f127 127 [2,4,5]
def Ok:Nat→PC:=aZ yZ
def alY (b:Nat→PC):PC:=.each fW [16] [4,5] (some (.tup [(pc o4 0),(pc o5 0)])) (b 0)
def TO (b:Nat→PC):PT:=
 (.exit 1000000007 ⟨[],[(4,(.setc o4 0 dA)),(5,(.setc o5 0 (pi 0)))]⟩)
def Vq (b:Nat→PC):PT:=
 (.call ⟨[],[(5,Fg),(4,Fg),(2,(.mk [r0]))]⟩ [] 8 160 [r1]
 (.ite (.nt r8)
 (.ret (.tup [(pc (.setc o4 0 (pi 0)) 0),(pc (.setc o5 0 (pi 3)) 0)]))
 (.call ⟨[],[]⟩ [] 15 161 [(ah 6 o2),r1,(.mn (aH r1 (pi 400)) (pi 100000))]
 (.blockS ⟨[],[]⟩ 0 [] [4,5]
 (.callc ⟨[],[]⟩ [] 18 df []
 (.brk ⟨[],[]⟩
(alY b)
 (.next ⟨[],[]⟩)))
 (.ret (.tup [(pc (.setc o4 0 (pi 0)) 0),(pc (.setc o5 0 (pi 3)) 0)]))))))
def amw (b:Nat→PC):PT×List (Shp×PT):=(Vq b,[(.ea [4,5],TO b)])
theorem RJ:yZ.map told=some (amw (bl yZ)):=by kernel_rfl
theorem aw2:tree (ab yZ)=Vq Ok:=bE RJ
theorem avx:qq [4,5] (Ok 0)=TO Ok:=Vg RJ 0 fun _=>rfl
def HI:Option PC:=cF [6] [] Tryz.f161 161 [3,4,5]
def Vt:PT:=
 (.ret (.clo 186 [(.ref xW),(.ref (pc (.mk [r2]) 0)),(.ref (ah 6 (.mk [r0])))]))
theorem adS:HI.map told=some (Vt,[]):=by kernel_rfl
theorem aw6:tree (ab HI)=Vt:=aF adS
def sw:Option PC:=Dj {ctx with fr:=[5],nh:=[]} Tryz.f186 [(.ref I),(.ref I),(.ref Y0)] [I] 1000 [1000]
def Om:Nat→PC:=aZ sw
def ark (b:Nat→PC):PC:=.block 0 [5,7,8,9] [1000] (.loop [5] [1000] (b 0))
def Mk (b:Nat→PC):PT:=
 (.ite (aX r5 (.deref r2))
 (.blockS ⟨[],[]⟩ 1 [12,13,14,15,20] [1000]
 (.call ⟨[],[]⟩ [] 14 187 [(.deref r3),r5]
 (.call ⟨[(15,bH)],[(1000,af1)]⟩ [(15,true)] 18 1000000009 [af1]
 (.ite (.pick df (.nt fW) pF)
 (.ret (.o 1000))
 (.next ⟨[],[]⟩))))
 (.next ⟨[(5,oK)],[]⟩))
 (.exit 0 ⟨[(7,r5),(8,(.deref r2)),(9,(aX r5 (.deref r2)))],[]⟩))
def Vu (b:Nat→PC):PT:=
 (.brk ⟨[(5,(.deref r1))],[]⟩
(ark b)
 (.ret (.o 1000)))
def amy (b:Nat→PC):PT×List (Shp×PT):=(Vu b,[(.lp 0 [5,7,8,9] [1000] [5] [1000],Mk b)])
theorem RL:sw.map told=some (amy (bl sw)):=by kernel_rfl
theorem aw5:tree (ab sw)=Vu Om:=bE RL
theorem agZ:round 0 [5,7,8,9] [1000] [5] [1000] (Om 0)=Mk Om:=aT RL 0 fun _=>rfl
theorem akz:∀yv,Dj {ctx with fr:=[5],nh:=[],yv:=yv} Tryz.f186 [(.ref I),(.ref I),(.ref Y0)] [I] 1000 [1000]=some (ab sw):=fun yv=>(show _=sw by kernel_rfl).trans (au sw RL)
def HK:Option PC:=cF [4,5,6,7] [] Tryz.f187 187 [2]
def Vw:PT:=
 (.call ⟨[],[(2,(.mk [r0]))]⟩ [] 10 183 [r1]
 (.chk (aC (pi 7) (pi 0))
 (.call ⟨[(7,(.tget bN 2)),(6,(.tget bN 1))],[]⟩ [] 19 93 [(pc o2 3),(.ai .rem .i64 (aH r1 (pi 5)) (pi 7))]
 (.call ⟨[(21,(.nt gY))],[]⟩ [(21,true)] 28 93 [(pc o2 4),(aH (.ai .mul .i64 (pi 100) r6) r7)]
 (.call ⟨[(31,(.pick iP (.nt gK) pF))],[]⟩ [(31,true)] 35 93 [(pc o2 5),r1]
 (.ret (.pick lj (.nt nH) pF)))))))
theorem adV:HK.map told=some (Vw,[]):=by kernel_rfl
theorem aw8:tree (ab HK)=Vw:=aF adV
def HY:Option PC:=cF [2,3,4,27,32] [] Tryz.f44 44 [1,52]
def VN:PT:=
 (.iteS ⟨[(3,(pc (.mk [r0]) 14))],[(1,(.mk [r0]))]⟩ (ae (pc (.mk [r0]) 14) (pi 0)) [2] []
 (.call ⟨[(12,(ah 31 o1))],[]⟩ [] 14 89 [(ah 31 o1),(pi 2),(pi 0)]
 (.call ⟨[],[]⟩ [] 16 90 [(ah 31 o1)]
 (.call ⟨[],[]⟩ [] 17 88 [bQ,bH,dA]
 (.ret fy))))
 (.next ⟨[],[]⟩)
 (.iteS ⟨[(4,(pi 1))],[]⟩ (ae r3 (pi 1)) [4] []
 (.call ⟨[(20,(ah 31 o1))],[]⟩ [] 23 37 [(.mk [(pc o1 9),(pc o1 10),(pc o1 11),(pc o1 12),(pc o1 13),(pc o1 14),(pc o1 15),(pc o1 16),(pc o1 17),(pc o1 18),(pc o1 19),(pc o1 20),(pc o1 21),(pc o1 22),(pc o1 23),(pc o1 24),(pc o1 25),(pc o1 26),(pc o1 27)])]
 (.call ⟨[],[]⟩ [] 25 90 [(ah 31 o1)]
 (.call ⟨[],[]⟩ [] 26 88 [dU,eF,dV]
 (.next ⟨[(4,jE)],[]⟩))))
 (.next ⟨[],[]⟩)
 (.blockS ⟨[],[]⟩ 0 [2,27,28,29,30,32,33,34,35] []
 (.call ⟨[],[]⟩ [] 29 91 [(ah 31 o1)]
 (.iteS ⟨[],[]⟩ (aC jF (pi (-1))) [2,32,33,34,35] []
 (.ret r4)
 (.iteS ⟨[],[]⟩ (ae (pc o1 30) (pi (-1))) [2] []
 (.call ⟨[],[]⟩ [] 38 49 [(.lst [r4,(pi 2)])]
 (.ret jd))
 (.next ⟨[],[]⟩)
 (.next ⟨[],[]⟩))
 (.next ⟨[],[]⟩)))
 (.call ⟨[(40,(ah 31 o1)),(39,r4)],[]⟩ [] 44 89 [(ah 31 o1),(pi 2),(pc o1 30)]
 (.call ⟨[(45,(ah 31 o1))],[]⟩ [] 47 46 [(ah 31 o1),(pi 10)]
 (.call ⟨[],[]⟩ [] 50 92 [ll,BK,(pc o1 30)]
 (.call ⟨[],[]⟩ [] 51 88 [lS,yh,gZ]
 (.call ⟨[],[]⟩ [] 53 49 [(.lst [yg,mJ])]
 (.ret Me)))))))))
theorem ad9:HY.map told=some (VN,[]):=by kernel_rfl
theorem axr:tree (ab HY)=VN:=aF ad9
def y6:Option PC:=cF [6] [] Tryz.f89 89 [3,8]
def Ot:Nat→PC:=aZ y6
def arp (b:Nat→PC):PC:=.block 0 [6,13,14] [] (.loop [6,13] [] (b 0))
def FD (b:Nat→PC):PT:=
 (.ite (ao cO bQ)
 (.chk (aq bW cO)
 (.ite (.pick (.pick (ae (pc (.setc z9 0 rq) 0) r1) (ae (pc (.setc z9 0 rq) 2) (pc o3 10)) pF) (bD (pc (.setc z9 0 rq) 6) r2) pF)
 (.ret (pc (.setc z9 0 rq) 6))
 (.next ⟨[(13,(aH cO (pi 1)))],[]⟩)))
 (.exit 0 ⟨[(14,(ao cO bQ))],[]⟩))
def VL (b:Nat→PC):PT:=
 (.brk ⟨[(13,(pi 0)),(12,(.llen (pc (.mk [r0]) 26))),(11,(pc (.mk [r0]) 26)),(6,(pi 0))],[(3,(.mk [r0]))]⟩
(arp b)
 (.ret (pi (-1))))
def amC (b:Nat→PC):PT×List (Shp×PT):=(VL b,[(.lp 0 [6,13,14] [] [6,13] [],FD b)])
theorem RP:y6.map told=some (amC (bl y6)):=by kernel_rfl
theorem axp:tree (ab y6)=VL Ot:=bE RP
theorem TS:round 0 [6,13,14] [] [6,13] [] (Ot 0)=FD Ot:=aT RP 0 fun _=>rfl
def H0:Option PC:=cF [13,18,24] [] Tryz.f90 90 [1,2,3]
def VQ:PT:=
 (.call ⟨[],[(2,cr),(1,(.mk [r0]))]⟩ [] 12 35 [fw,(pc (.mk [r0]) 8),(pi 7),agc,(pc (.mk [r0]) 29)]
 (.ite (aC (pc (.setc j4 0 bQ) 4) (pi 0))
 (.ret (.mk [(pc LW 0),(pc LW 1)]))
 (.ite (.nt (pc (.setc j4 0 bQ) 0))
 (.ret (.mk [(pc (.setc o2 0 (.mk [pF,(pi 0)])) 0),(pc (.setc o2 0 (.mk [pF,(pi 0)])) 1)]))
 (.ite (aP Tg (pi 100000))
 (.ret (.mk [(pc LW 0),(pc LW 1)]))
 (.ret (.mk [(pc (.setc o2 0 (.mk [pT,Tg])) 0),(pc (.setc o2 0 (.mk [pT,Tg])) 1)]))))))
theorem aeb:H0.map told=some (VQ,[]):=by kernel_rfl
theorem axu:tree (ab H0)=VQ:=aF aeb
def H2:Option PC:=cF [6,7,11,20] [] Tryz.f88 88 [3,5]
def Nk:PT:=
 (.ite (.nt (pc (.mk [r2]) 0))
 (.ret (pi 2))
 (.ite (.pick (aC r1 (pi (-1))) (aX r1 (pc (.mk [r2]) 1)) pF)
 (.ret (pi 1))
 (.ite (.pick (aC r1 (pi (-1))) pT (aP (pc (.mk [r0]) 29) (pc (.mk [r2]) 1)))
 (.ret (pi 0))
 (.ret (pi 2)))))
theorem aec:H2.map told=some (Nk,[]):=by kernel_rfl
theorem axv:tree (ab H2)=Nk:=aF aec
def HZ:Option PC:=cF [2,3] [] Tryz.f91 91 [1]
def VP:PT:=
 (.call ⟨[],[(1,(.mk [r0]))]⟩ [] 5 89 [(ah 31 (.mk [r0])),(pi 1),(pi 0)]
 (.ite (aP r5 (pc o1 30))
 (.ret (pi (-1)))
 (.ret r5)))
theorem aea:HZ.map told=some (VP,[]):=by kernel_rfl
theorem axt:tree (ab HZ)=VP:=aF aea
def HS:Option PC:=cF [2,3,6] [] Tryz.f49 49 []
def VG:PT:=
 (.blockS ⟨[],[]⟩ 0 [2,3,4,5,6,7,8] []
 (.call ⟨[],[]⟩ [] 5 93 [r0,(pi 0)]
 (.iteS ⟨[],[]⟩ r5 [2,6,7,8] []
 (.ret (pi 0))
 (.call ⟨[],[]⟩ [] 8 93 [r0,(pi 2)]
 (.ite r8
 (.ret (pi 2))
 (.next ⟨[],[]⟩)))
 (.next ⟨[],[]⟩)))
 (.ret (pi 1)))
theorem ad3:HS.map told=some (VG,[]):=by kernel_rfl
theorem axj:tree (ab HS)=VG:=aF ad3
def HV:Option PC:=cF [] [] Tryz.f46 46 [2,4]
def VJ:PT:=
 (.call ⟨[],[(4,j4)]⟩ [] 21 73 [fw,(pc (.mk [r0]) 8),r1,(.mk [agc,(pc (.mk [r0]) 28),(pc (.mk [r0]) 28),(pi (-1)),(pc (.mk [r0]) 30),(pc (.mk [r0]) 29)])]
 (.ret (ah 5 (.setc o4 0 iP))))
theorem ad6:HV.map told=some (VJ,[]):=by kernel_rfl
theorem axm:tree (ab HV)=VJ:=aF ad6
end Rm
