/-
  The functions of this seat, compiled (3).
-/
import Derived.Test.YtopjnikcppafdaaGreatDoorKAI
import Derived.KernelRfl
set_option linter.unusedVariables false
set_option maxRecDepth 100000
noncomputable section
namespace Rm
open Go Go.Proofs Cx
def AV:Option PC:=cF [] [] Tryz.f37 37 [3,6,7,9]
def Qp:Nat→PC:=bo AV
def aum (b:Nat→PC):PC:=.block 0 [7,12,13] [7] (.loop [7,12] [7] (b 0))
def N8 (b:Nat→PC):PT:=
 (.ite wC
 (.chk (aq cV bY)
 (.ite (bk (pc (.setc C3 0 pQ) 5) r2)
 (.chk (aq (pc o3 3) (pc (.setc C3 0 pQ) 2))
 (.chk (bI (.llen aiE) cU)
 (.next ⟨[(7,pN),(12,zz)],[(7,aiE)]⟩)))
 (.next ⟨[(12,zz)],[]⟩)))
 (.exit 0 ⟨[(13,wC)],[]⟩))
def Yp (b:Nat→PC):PT:=
 (.brk ⟨[(12,(pi 0)),(11,(.llen r1)),(10,r1),(7,pN)],[(7,pL),(3,(.mk [r0]))]⟩
(aum b)
 (.mcall ⟨[],[]⟩ 1000000013 76 [pN,o7]
 (.call ⟨[],[]⟩ [] 34 77 [GL]
 (.ret G4))))
def ao7 (b:Nat→PC):PT×List (Shp×PT):=(Yp b,[(.lp 0 [7,12,13] [7] [7,12] [7],N8 b)])
theorem UA:AV.map told=some (ao7 (bq AV)):=by kernel_rfl
theorem az7:tree (ab AV)=Yp Qp:=bG UA
theorem ajk:round 0 [7,12,13] [7] [7,12] [7] (Qp 0)=N8 Qp:=bf UA 0 fun _=>rfl
def J5:Option PC:=cF [10,11,12,13,14,33,36,15] [] Tryz.f8 8 [5,7,9]
def Ym:PT:=
 (.call ⟨[],[(9,(.mk [r4])),(7,(.mk [r2])),(5,(.mk [r0]))]⟩ [] 22 9 [jP,r1,GS,r3,(.mk [(pc (.mk [r4]) 0),(pc (.mk [r4]) 1)])]
 (.ite (aF (.tget mW 1) (pi 0))
 (.ret (.tup [(pi 0),(.tget mW 1)]))
 (.call ⟨[(12,(.tget mW 0))],[]⟩ [] 32 30 [(az 8 o5),r1,(az 19 o7),r3]
 (.ite (peq pU (pi (-1)))
 (.ret (.tup [(pi 0),(pi 4)]))
 (.ite (.pick (aR pU r3) (aR (bm pU r3) (pi 20000)) pF)
 (.ret (.tup [(pi 0),(pi 3)]))
 (.call ⟨[],[]⟩ [] 54 31 [bY,(pc o9 0),(.mx (bm pU r3) (pi 0))]
 (.ite (aF (.tget l7 1) (pi 0))
 (.ret (.tup [(pi 0),(pi 0)]))
 (.ret (.tup [(bm bY (.tget l7 0)),(pi 0)])))))))))
theorem ag3:J5.map told=some (Ym,[]):=by kernel_rfl
theorem az2:tree (ab J5)=Ym:=aQ ag3
def JR:Option PC:=cF [6,7,8,9,10] [] Tryz.f31 31 []
def X4:PT:=
 (.call ⟨[],[]⟩ [] 12 67 [r0,zx]
 (.call ⟨[(14,(.nt bY))],[]⟩ [(14,false)] 16 67 [r1,(pi 1000)]
 (.call ⟨[(19,(.pick bQ pT (.nt bT)))],[]⟩ [(19,false)] 21 67 [r2,(pi 20000)]
 (.ite (.pick dC pT (.nt gY))
 (.ret (.tup [(pi 0),(pi 1)]))
 (.call ⟨[],[]⟩ [] 29 68 [r0,(.ai .mul .i64 r1 r2),(pi 360000)]
 (.ite (.pick (.nt (.tget mX 2)) pT (aR aiz r0))
 (.ret (.tup [(pi 0),(pi 3)]))
 (.ret (.tup [aiz,(pi 0)]))))))))
theorem agO:JR.map told=some (X4,[]):=by kernel_rfl
theorem azI:tree (ab JR)=X4:=aQ agO
def JT:Option PC:=cF [4] [] Tryz.f67 67 []
def X6:PT:=
 (.ret (.pick (bk r0 (pi 0)) (bI r0 r1) pF))
theorem agQ:JT.map told=some (X6,[]):=by kernel_rfl
theorem azK:tree (ab JT)=X6:=aQ agQ
def JS:Option PC:=cF [6,7,8,9,10,11,12] [] Tryz.f68 68 []
def X5:PT:=
 (.call ⟨[],[]⟩ [] 18 83 [(.conv .u64 r0),(.conv .u64 r1)]
 (.ite (bk (.tget cv 0) (.conv .u64 r2))
 (.ret (.tup [(pi 0),(pi 0),pF]))
 (.call ⟨[],[]⟩ [] 30 110 [(.tget cv 0),(.tget cv 1),(.conv .u64 r2)]
 (.ite (aR (.tget oz 0) (.con (.v (.int .u64 1099511627776))))
 (.ret (.tup [(pi 0),(pi 0),pF]))
 (.ret (.tup [(.conv .i64 (.tget oz 0)),(.conv .i64 (.tget oz 1)),pT]))))))
theorem agP:JS.map told=some (X5,[]):=by kernel_rfl
theorem azJ:tree (ab JS)=X5:=aQ agP
def AH:Option PC:=cF [6,7,8,2,9,10,11,12,13,14,15,16,17,18] [] Tryz.f110 110 []
def xS:Nat→PC:=bo AH
def Gu (b:Nat→PC):PC:=.block 0 [15,16,67,68,69,78] [] (.loop [15,16] [] (b 0))
def Gv (b:Nat→PC):PC:=.block 2 [16,18,102,103,104,113] [] (.loop [16,18] [] (b 1))
def He (b:Nat→PC):PT:=
 (.ite VL
 (.ite (bk C9 kN)
 (.exit 0 ⟨[(15,(.ai .sub .u64 cn GO)),(16,C9),(67,cn),(68,(bk cn kN)),(69,(bk cn kN)),(78,VL)],[]⟩)
 (.next ⟨[(15,(.ai .sub .u64 cn GO)),(16,C9)],[]⟩))
 (.exit 0 ⟨[(67,cn),(68,(bk cn kN)),(69,(bk cn kN)),(78,VL)],[]⟩))
def Hf (b:Nat→PC):PT:=
 (.ite VK
 (.ite (bk C9 kN)
 (.exit 2 ⟨[(16,C9),(18,(.ai .sub .u64 cv GO)),(102,cv),(103,(bk cv kN)),(104,(bk cv kN)),(113,VK)],[]⟩)
 (.next ⟨[(16,C9),(18,(.ai .sub .u64 cv GO))],[]⟩))
 (.exit 2 ⟨[(102,cv),(103,(bk cv kN)),(104,(bk cv kN)),(113,VK)],[]⟩))
def O6 (b:Nat→PC):PT:=
 (.ite (peq r2 kh)
 (.chk pF
 (.chk (.nt pT)
 (.ite (bI r2 r0)
 (.chk pF
 (.chk (.nt pT)
 (.ite (peq r0 kh)
 (.chk (aF r2 (pi 0))
 (.ret (.tup [(.ai .quo .u64 r1 r2),(.ai .rem .u64 r1 r2)])))
 (.call ⟨[],[]⟩ [] 35 150 [r2]
 (.chk (bk rn (pi 0))
 (.chk C0
 (.chk NK
 (.chk (aF rq (pi 0))
 (.brk ⟨[(16,NI),(15,NA),(14,Ny),(13,Nx),(11,zH),(10,Nz),(9,rq),(2,GW),(8,rn)],[]⟩
(Gu b)
 (.chk (aF r9 (pi 0))
 (.brk ⟨[(16,NJ),(18,(.ai .quo .u64 tc r9)),(17,tc)],[]⟩
(Gv b)
 (.chk (bk r8 (pi 0))
 (.ret (.tup [NN,NF]))))))))))))))
 (.ite (peq r0 kh)
 (.chk (aF r2 (pi 0))
 (.ret (.tup [(.ai .quo .u64 r1 r2),(.ai .rem .u64 r1 r2)])))
 (.call ⟨[],[]⟩ [] 35 150 [r2]
 (.chk (bk rn (pi 0))
 (.chk C0
 (.chk NK
 (.chk (aF rq (pi 0))
 (.brk ⟨[(16,NI),(15,NA),(14,Ny),(13,Nx),(11,zH),(10,Nz),(9,rq),(2,GW),(8,rn)],[]⟩
(Gu b)
 (.chk (aF r9 (pi 0))
 (.brk ⟨[(16,NJ),(18,(.ai .quo .u64 tc r9)),(17,tc)],[]⟩
(Gv b)
 (.chk (bk r8 (pi 0))
 (.ret (.tup [NN,NF])))))))))))))))
 (.ite (bI r2 r0)
 (.chk pF
 (.chk (.nt pT)
 (.ite (peq r0 kh)
 (.chk (aF r2 (pi 0))
 (.ret (.tup [(.ai .quo .u64 r1 r2),(.ai .rem .u64 r1 r2)])))
 (.call ⟨[],[]⟩ [] 35 150 [r2]
 (.chk (bk rn (pi 0))
 (.chk C0
 (.chk NK
 (.chk (aF rq (pi 0))
 (.brk ⟨[(16,NI),(15,NA),(14,Ny),(13,Nx),(11,zH),(10,Nz),(9,rq),(2,GW),(8,rn)],[]⟩
(Gu b)
 (.chk (aF r9 (pi 0))
 (.brk ⟨[(16,NJ),(18,(.ai .quo .u64 tc r9)),(17,tc)],[]⟩
(Gv b)
 (.chk (bk r8 (pi 0))
 (.ret (.tup [NN,NF]))))))))))))))
 (.ite (peq r0 kh)
 (.chk (aF r2 (pi 0))
 (.ret (.tup [(.ai .quo .u64 r1 r2),(.ai .rem .u64 r1 r2)])))
 (.call ⟨[],[]⟩ [] 35 150 [r2]
 (.chk (bk rn (pi 0))
 (.chk C0
 (.chk NK
 (.chk (aF rq (pi 0))
 (.brk ⟨[(16,NI),(15,NA),(14,Ny),(13,Nx),(11,zH),(10,Nz),(9,rq),(2,GW),(8,rn)],[]⟩
(Gu b)
 (.chk (aF r9 (pi 0))
 (.brk ⟨[(16,NJ),(18,(.ai .quo .u64 tc r9)),(17,tc)],[]⟩
(Gv b)
 (.chk (bk r8 (pi 0))
 (.ret (.tup [NN,NF]))))))))))))))
def aoR (b:Nat→PC):PT×List (Shp×PT):=(O6 b,[(.lp 0 [15,16,67,68,69,78] [] [15,16] [],He b),(.lp 2 [16,18,102,103,104,113] [] [16,18] [],Hf b)])
theorem MM:AH.map told=some (aoR (bq AH)):=by kernel_rfl
theorem azj:tree (ab AH)=O6 xS:=bG MM
theorem V2:round 0 [15,16,67,68,69,78] [] [15,16] [] (xS 0)=He xS:=bf MM 0 fun _=>rfl
theorem V3:round 2 [16,18,102,103,104,113] [] [16,18] [] (xS 1)=Hf xS:=bf MM 1 fun _=>rfl
def JB:Option PC:=cF [2] [] Tryz.f150 150 []
def XI:PT:=
 (.call ⟨[],[]⟩ [] 4 121 [r0]
 (.ret (bm (pi 64) r4)))
theorem agt:JB.map told=some (XI,[]):=by kernel_rfl
theorem azk:tree (ab JB)=XI:=aQ agt
def JC:Option PC:=cF [2,0] [] Tryz.f121 121 []
def XJ:PT:=
 (.ite (bk r0 kN)
 (.chk C0
 (.ite (bk uT (.con (.v (.int .u64 65536))))
 (.chk (bk NG (pi 0))
 (.ite (bk G0 Nw)
 (.chk (bk pO (pi 0))
 (.chk (.sok kO (.conv .u8 (.ai .shr .u64 G0 pO)))
 (.ret (aG (aG (aG (pi 32) (pi 16)) (pi 8)) (.conv .i64 (.sidx kO (.conv .u8 (.ai .shr .u64 G0 pO))))))))
 (.chk (.sok kO (.conv .u8 G0))
 (.ret (aG (aG (pi 32) (pi 16)) (.conv .i64 (.sidx kO (.conv .u8 G0))))))))
 (.ite (bk uT Nw)
 (.chk (bk pO (pi 0))
 (.chk (.sok kO (.conv .u8 (.ai .shr .u64 uT pO)))
 (.ret (aG (aG (pi 32) (pi 8)) (.conv .i64 (.sidx kO (.conv .u8 (.ai .shr .u64 uT pO))))))))
 (.chk (.sok kO (.conv .u8 uT))
 (.ret (aG (pi 32) (.conv .i64 (.sidx kO (.conv .u8 uT)))))))))
 (.ite (bk r0 (.con (.v (.int .u64 65536))))
 (.chk (bk NG (pi 0))
 (.ite (bk GQ Nw)
 (.chk (bk pO (pi 0))
 (.chk (.sok kO (.conv .u8 (.ai .shr .u64 GQ pO)))
 (.ret (aG (aG (aG (pi 0) (pi 16)) (pi 8)) (.conv .i64 (.sidx kO (.conv .u8 (.ai .shr .u64 GQ pO))))))))
 (.chk (.sok kO (.conv .u8 GQ))
 (.ret (aG (aG (pi 0) (pi 16)) (.conv .i64 (.sidx kO (.conv .u8 GQ))))))))
 (.ite (bk r0 Nw)
 (.chk (bk pO (pi 0))
 (.chk (.sok kO (.conv .u8 (.ai .shr .u64 r0 pO)))
 (.ret (aG (aG (pi 0) (pi 8)) (.conv .i64 (.sidx kO (.conv .u8 (.ai .shr .u64 r0 pO))))))))
 (.chk (.sok kO (.conv .u8 r0))
 (.ret (aG (pi 0) (.conv .i64 (.sidx kO (.conv .u8 r0)))))))))
theorem agu:JC.map told=some (XJ,[]):=by kernel_rfl
theorem azl:tree (ab JC)=XJ:=aQ agu
def EA:Option PC:=cF [10] [] Tryz.f12 12 [5,7,20,22]
def Pc:PT:=
 (.call ⟨[],[(7,(.mk [r2])),(5,(.mk [r0]))]⟩ [] 13 32 [jP,r1]
 (.ite (.nt cZ)
 (.ret pL)
 (.call ⟨[(15,(az 8 o5))],[]⟩ [] 20 33 [(az 8 o5),r1,(az 19 o7),r3]
 (.call ⟨[],[]⟩ [] 22 37 [cn,fm,r4]
 (.ret mW)))))
theorem ag2:EA.map told=some (Pc,[]):=by kernel_rfl
theorem akf:tree (ab EA)=Pc:=aQ ag2
def A7:Option PC:=cF [4,5] [] Tryz.f22 22 []
def Qv:Nat→PC:=bo A7
def auF (b:Nat→PC):PC:=.block 0 [4,5,11,12,13,14] [] (.loop [4,5] [] (b 0))
def Oc (b:Nat→PC):PT:=
 (.ite (ak r5 (.llen r0))
 (.chk (aq r0 r5)
 (.chk (aq r1 r5)
 (.ite (aF (pn r0 r5) (pn r1 r5))
 (.ret pF)
 (.next ⟨[(5,zC)],[]⟩))))
 (.exit 0 ⟨[(11,r5),(12,r0),(13,(.llen r0)),(14,(ak r5 (.llen r0)))],[]⟩))
def YK (b:Nat→PC):PT:=
 (.ite (aF (.llen r0) (.llen r1))
 (.ret pF)
 (.brk ⟨[(5,(pi 0)),(4,pF)],[]⟩
(auF b)
 (.ret pT)))
def apj (b:Nat→PC):PT×List (Shp×PT):=(YK b,[(.lp 0 [4,5,11,12,13,14] [] [4,5] [],Oc b)])
theorem UG:A7.map told=some (apj (bq A7)):=by kernel_rfl
theorem aAs:tree (ab A7)=YK Qv:=bG UG
theorem ajl:round 0 [4,5,11,12,13,14] [] [4,5] [] (Qv 0)=Oc Qv:=bf UG 0 fun _=>rfl
def Ez:Option PC:=cF [6] [] Tryz.f6 6 [3,4,5]
def X0:PT:=
 (.call ⟨[(11,(bI (.llen (pc (.mk [r2]) 1)) (pi 20)))],[(4,(.mk [r1])),(3,(.mk [r0]))]⟩ [(11,true)] 14 23 [jP,(az 19 (.mk [r1]))]
 (.call ⟨[(16,(.pick bJ bQ pF))],[]⟩ [(16,true)] 18 24 [(az 8 o3)]
 (.call ⟨[(21,(.pick bT (peq cv (pi 0)) pF))],[]⟩ [(21,true)] 24 25 [(az 8 o3),(az 19 o4)]
 (.ret (.pick gY (peq oy (pi 0)) pF)))))
theorem agL:Ez.map told=some (X0,[]):=by kernel_rfl
theorem azE:tree (ab Ez)=X0:=aQ agL
def A9:Option PC:=cF [4,5] [] Tryz.f23 23 [2,3]
def Qy:Nat→PC:=bo A9
def auI (b:Nat→PC):PC:=.block 0 [4,5,14,15,16,17,18] [] (.loop [4,5] [] (b 0))
def HE (b:Nat→PC):PT:=
 (.ite (ak r5 (.llen (pc o2 4)))
 (.blockS ⟨[],[]⟩ 1 [4,21,22,23,24,25,26,27] []
 (.chk (aq (pc o2 4) r5)
 (.call ⟨[],[]⟩ [] 26 51 [(pn (pc o2 4) r5)]
 (.ite (.nt lZ)
 (.ret pF)
 (.next ⟨[],[]⟩))))
 (.next ⟨[(5,zC)],[]⟩))
 (.exit 0 ⟨[(14,r5),(15,pN),(16,(pc o2 4)),(17,(.llen (pc o2 4))),(18,(ak r5 (.llen (pc o2 4))))],[]⟩))
def YM (b:Nat→PC):PT:=
 (.call ⟨[(4,pF)],[(3,(.mk [r1])),(2,(.mk [r0]))]⟩ [] 7 49 [jP]
 (.call ⟨[(9,(.nt r7))],[]⟩ [(9,false)] 11 50 [(az 19 o3)]
 (.ite (.pick r9 pT (.nt bJ))
 (.ret pF)
 (.brk ⟨[(5,(pi 0))],[]⟩
(auI b)
 (.ret pT)))))
def apm (b:Nat→PC):PT×List (Shp×PT):=(YM b,[(.lp 0 [4,5,14,15,16,17,18] [] [4,5] [],HE b)])
theorem UJ:A9.map told=some (apm (bq A9)):=by kernel_rfl
theorem aAu:tree (ab A9)=YM Qy:=bG UJ
theorem Wr:round 0 [4,5,14,15,16,17,18] [] [4,5] [] (Qy 0)=HE Qy:=bf UJ 0 fun _=>rfl
def AX:Option PC:=cF [2,3,4] [] Tryz.f49 49 [1]
def Ea:Nat→PC:=bo AX
def auo (b:Nat→PC):PC:=.block 0 [2,3,5,6,7,8,9,10,13] [] (.loop [2,3] [] (b 0))
def aup (b:Nat→PC):PC:=.block 2 [2,4,44,45,46,47,48,49,52] [] (.loop [2,4] [] (b 1))
def zL (b:Nat→PC):PT:=
 (.ite (.pick (ak r3 lY) (ak r3 (pi 50)) pF)
 (.chk (aq (pc o1 1) r3)
 (.chk (.nt (.an (.an (.nt (aR (.llen (pc (pn (pc o1 1) r3) 4)) (pi 70))) pT) (.nt (aq (pc o1 1) r3))))
 (.chk (.nt (.an (.an (.nt aiQ) pT) (.nt (aq (pc o1 1) r3))))
 (.ite (.pick aiQ pT (aR (.llen (pc (pn (pc o1 1) r3) 3)) (pi 8)))
 (.ret pF)
 (.next ⟨[(3,wB)],[]⟩)))))
 (.exit 0 ⟨[(5,r3),(6,pN),(7,(pc o1 1)),(8,lY),(9,(ak r3 lY)),(10,(ak r3 lY)),(13,(.pick (ak r3 lY) (ak r3 (pi 50)) pF))],[]⟩))
def Dg (b:Nat→PC):PT:=
 (.ite (.pick (ak r4 pP) (ak r4 (pi 50)) pF)
 (.chk (aq (pc o1 4) r4)
 (.chk (.nt (.an (.an (.nt (aR (.llen (pc zy 2)) (pi 40))) pT) (.nt (aq (pc o1 4) r4))))
 (.ite (.pick (aR (.llen (pc zy 2)) (pi 40)) pT (aR (.llen (pc zy 3)) (pi 40)))
 (.ret pF)
 (.next ⟨[(4,(aG r4 (pi 1)))],[]⟩))))
 (.exit 2 ⟨[(44,r4),(45,pN),(46,(pc o1 4)),(47,pP),(48,(ak r4 pP)),(49,(ak r4 pP)),(52,(.pick (ak r4 pP) (ak r4 (pi 50)) pF))],[]⟩))
def Yu (b:Nat→PC):PT:=
 (.brk ⟨[(3,(pi 0)),(2,pF)],[(1,(.mk [r0]))]⟩
(auo b)
 (.brk ⟨[(4,(pi 0))],[]⟩
(aup b)
 (.ret (.pick (.pick (.pick (.pick (.pick (.pick (.pick (ak wG (pi 50)) (ak lY (pi 50)) pF) (ak tg (pi 50)) pF) (ak ox (pi 210)) pF) (ak pP (pi 50)) pF) (ak C2 (pi 110)) pF) (ak (.llen (pc o1 6)) (pi 110)) pF) (ak zB (pi 50)) pF))))
def ao9 (b:Nat→PC):PT×List (Shp×PT):=(Yu b,[(.lp 0 [2,3,5,6,7,8,9,10,13] [] [2,3] [],zL b),(.lp 2 [2,4,44,45,46,47,48,49,52] [] [2,4] [],Dg b)])
theorem MQ:AX.map told=some (ao9 (bq AX)):=by kernel_rfl
theorem aAd:tree (ab AX)=Yu Ea:=bG MQ
theorem Hm:round 0 [2,3,5,6,7,8,9,10,13] [] [2,3] [] (Ea 0)=zL Ea:=bf MQ 0 fun _=>rfl
theorem N9:round 2 [2,4,44,45,46,47,48,49,52] [] [2,4] [] (Ea 1)=Dg Ea:=bf MQ 1 fun _=>rfl
def Kc:Option PC:=cF [2] [] Tryz.f50 50 [1]
def YI:PT:=
 (.ret (.pick (.pick (.pick (bI (.llen rp) (pi 50)) (bI (.llen (pc (.mk [r0]) 16)) (pi 10)) pF) (bI (.llen (pc (.mk [r0]) 17)) (pi 110)) pF) (bI (.llen (pc (.mk [r0]) 18)) (pi 220)) pF))
theorem aha:Kc.map told=some (YI,[]):=by kernel_rfl
theorem aAq:tree (ab Kc)=YI:=aQ aha
def A8:Option PC:=cF [2,3] [] Tryz.f51 51 [1]
def Qx:Nat→PC:=bo A8
def auH (b:Nat→PC):PC:=.block 0 [2,3,14,15,16,17,18] [] (.loop [2,3] [] (b 0))
def HC (b:Nat→PC):PT:=
 (.ite (ak r3 ox)
 (.blockS ⟨[],[]⟩ 1 [2,21,22,23,24,25,26,27,28] []
 (.chk (aq (pc o1 3) r3)
 (.call ⟨[],[]⟩ [] 27 89 [(.sub (pn (pc o1 3) r3) 1 3)]
 (.ite (.nt dD)
 (.ret pF)
 (.next ⟨[],[]⟩))))
 (.next ⟨[(3,wB)],[]⟩))
 (.exit 0 ⟨[(14,r3),(15,pN),(16,(pc o1 3)),(17,ox),(18,(ak r3 ox))],[]⟩))
def YL (b:Nat→PC):PT:=
 (.ite (.pick (aR (.llen (pc (.mk [r0]) 3)) (pi 60)) pT (aR ry (pi 60)))
 (.ret pF)
 (.brk ⟨[(3,(pi 0)),(2,pF)],[(1,(.mk [r0]))]⟩
(auH b)
 (.ret pT)))
def apl (b:Nat→PC):PT×List (Shp×PT):=(YL b,[(.lp 0 [2,3,14,15,16,17,18] [] [2,3] [],HC b)])
theorem UI:A8.map told=some (apl (bq A8)):=by kernel_rfl
theorem aAt:tree (ab A8)=YL Qx:=bG UI
theorem Wq:round 0 [2,3,14,15,16,17,18] [] [2,3] [] (Qx 0)=HC Qx:=bf UI 0 fun _=>rfl
def Kd:Option PC:=cF [2] [] Tryz.f89 89 [1]
def YJ:PT:=
 (.call ⟨[],[]⟩ [] 4 126 [(.mk [gw,iZ,zG]),(pi 100),(pi 20)]
 (.ret (bk r4 (pi 0))))
theorem ahb:Kd.map told=some (YJ,[]):=by kernel_rfl
theorem aAr:tree (ab Kd)=YJ:=aQ ahb
def x9:Option PC:=cF [6,1,7] [] Tryz.f126 126 [3]
def Qw:Nat→PC:=bo x9
def auG (b:Nat→PC):PC:=.block 0 [1,7,12,13,14,15,16,17,20] [] (.loop [1,7] [] (b 0))
def HA (b:Nat→PC):PT:=
 (.ite (.pick (ak r7 mV) (bk r1 (pi 0)) pF)
 (.blockS ⟨[],[]⟩ 1 [1,23,24,25,26,27,28,29,30,31] []
 (.chk (aq (pc o3 2) r7)
 (.call ⟨[],[]⟩ [] 31 126 [(pn (pc o3 2) r7),r1,(bm r2 (pi 1))]
 (.next ⟨[(1,pS)],[]⟩)))
 (.next ⟨[(7,(aG r7 (pi 1)))],[]⟩))
 (.exit 0 ⟨[(12,r7),(13,pN),(14,(pc o3 2)),(15,mV),(16,(ak r7 mV)),(17,(ak r7 mV)),(20,(.pick (ak r7 mV) (bk r1 (pi 0)) pF))],[]⟩))
def Pd (b:Nat→PC):PT:=
 (.ite (ak r2 (pi 1))
 (.ret (pi (-1)))
 (.brk ⟨[(7,(pi 0)),(1,(bm r1 (pi 1)))],[(3,(.mk [r0]))]⟩
(auG b)
 (.ret r1)))
def apk (b:Nat→PC):PT×List (Shp×PT):=(Pd b,[(.lp 0 [1,7,12,13,14,15,16,17,20] [] [1,7] [],HA b)])
theorem UH:x9.map told=some (apk (bq x9)):=by kernel_rfl
theorem akg:tree (ab x9)=Pd Qw:=bG UH
theorem Wp:round 0 [1,7,12,13,14,15,16,17,20] [] [1,7] [] (Qw 0)=HA Qw:=bf UH 0 fun _=>rfl
def J8:Option PC:=cF [2,3] [] Tryz.f24 24 [1]
def Yt:PT:=
 (.call ⟨[],[(1,(.mk [r0]))]⟩ [] 5 52 [jP]
 (.iteS ⟨[(3,r5)],[]⟩ (peq r5 (pi 0)) [3] []
 (.call ⟨[],[]⟩ [] 9 53 [(az 8 o1)]
 (.next ⟨[(3,r9)],[]⟩))
 (.next ⟨[],[]⟩)
 (.iteS ⟨[],[]⟩ (peq r3 (pi 0)) [3] []
 (.call ⟨[],[]⟩ [] 13 54 [(az 8 o1)]
 (.next ⟨[(3,cZ)],[]⟩))
 (.next ⟨[],[]⟩)
 (.iteS ⟨[],[]⟩ (peq r3 (pi 0)) [3] []
 (.call ⟨[],[]⟩ [] 17 55 [(az 8 o1)]
 (.next ⟨[(3,dB)],[]⟩))
 (.next ⟨[],[]⟩)
 (.iteS ⟨[],[]⟩ (peq r3 (pi 0)) [3] []
 (.call ⟨[],[]⟩ [] 21 56 [(az 8 o1)]
 (.next ⟨[(3,gY)],[]⟩))
 (.next ⟨[],[]⟩)
 (.ret r3))))))
theorem ag6:J8.map told=some (Yt,[]):=by kernel_rfl
theorem aAc:tree (ab J8)=Yt:=aQ ag6
def A2:Option PC:=cF [2,3,4,6,7] [] Tryz.f52 52 [1,5,44]
def Ec:Nat→PC:=bo A2
def auv (b:Nat→PC):PC:=.block 0 [2,3,12,13,14,15,16] [] (.loop [2,3] [] (b 0))
def auw (b:Nat→PC):PC:=.block 2 [2,5,6,30,31,32,33,34] [5] (.loop [2,5,6] [5] (b 1))
def Hs (b:Nat→PC):PT:=
 (.ite (ak r3 wG)
 (.blockS ⟨[],[]⟩ 1 [2,4,19,20,21,22,23,24] []
 (.call ⟨[],[]⟩ [] 22 90 [(pc o1 0),r3]
 (.ite (aF mW (pi 0))
 (.ret mW)
 (.next ⟨[],[]⟩)))
 (.next ⟨[(3,wB)],[]⟩))
 (.exit 0 ⟨[(12,r3),(13,pN),(14,(pc o1 0)),(15,wG),(16,(ak r3 wG))],[]⟩))
def Ht (b:Nat→PC):PT:=
 (.ite (ak r6 lY)
 (.blockS ⟨[],[]⟩ 3 [2,5,7,38,39,40,41,42,43,44,45,46,47,48,49,50,52,53,54,55,56,57,58,59] [44,5]
 (.chk (aq (pc o1 1) r6)
 (.chk (bI (.llen VC) cU)
 (.call ⟨[(5,pN)],[(5,VC)]⟩ [] 48 90 [VC,r6]
 (.ite (aF jS (pi 0))
 (.ret jS)
 (.chk (aq (pc o1 1) r6)
 (.call ⟨[],[]⟩ [] 58 91 [(az 8 o1),(pn (pc o1 1) r6)]
 (.ite (.nt G6)
 (.ret (pi 1))
 (.next ⟨[],[]⟩))))))))
 (.next ⟨[(6,(aG r6 (pi 1)))],[]⟩))
 (.exit 2 ⟨[(30,r6),(31,pN),(32,(pc o1 1)),(33,lY),(34,(ak r6 lY))],[]⟩))
def YB (b:Nat→PC):PT:=
 (.ite (aR (.llen gw) (pi 8))
 (.ret (pi 6))
 (.brk ⟨[(3,(pi 0)),(2,(pi 0))],[(1,(.mk [r0]))]⟩
(auv b)
 (.ite (aR lY (pi 40))
 (.ret (pi 6))
 (.brk ⟨[(6,(pi 0)),(5,pN)],[(5,pL)]⟩
(auw b)
 (.ret (pi 0))))))
def ape (b:Nat→PC):PT×List (Shp×PT):=(YB b,[(.lp 0 [2,3,12,13,14,15,16] [] [2,3] [],Hs b),(.lp 2 [2,5,6,30,31,32,33,34] [5] [2,5,6] [5],Ht b)])
theorem MS:A2.map told=some (ape (bq A2)):=by kernel_rfl
theorem aAk:tree (ab A2)=YB Ec:=bG MS
theorem Wh:round 0 [2,3,12,13,14,15,16] [] [2,3] [] (Ec 0)=Hs Ec:=bf MS 0 fun _=>rfl
theorem Wi:round 2 [2,5,6,30,31,32,33,34] [5] [2,5,6] [5] (Ec 1)=Ht Ec:=bf MS 1 fun _=>rfl
def Kb:Option PC:=cF [4] [] Tryz.f90 90 []
def YD:PT:=
 (.chk (aq r0 r1)
 (.call ⟨[],[]⟩ [] 9 127 [(pn r0 r1)]
 (.ite (.nt r9)
 (.ret (pi 2))
 (.chk (aq r0 r1)
 (.call ⟨[],[]⟩ [] 17 128 [r0,r1,(pn r0 r1)]
 (.ite dB
 (.ret (pi 5))
 (.ret (pi 0))))))))
theorem ag9:Kb.map told=some (YD,[]):=by kernel_rfl
theorem aAm:tree (ab Kb)=YD:=aQ ag9
def AY:Option PC:=cF [2,3,4] [] Tryz.f127 127 []
def Qr:Nat→PC:=bo AY
def auq (b:Nat→PC):PC:=.block 0 [2,3,13,14,15,16] [] (.loop [2,3] [] (b 0))
def Hn (b:Nat→PC):PT:=
 (.ite (ak r3 (.slen r0))
 (.blockS ⟨[],[]⟩ 1 [2,4,19,20,21,22,23,34,35,36,37,38,39,40,47] []
 (.chk (.sok r0 r3)
 (.chk (.nt (.an (.an (.nt VA) pT) (.nt (.sok r0 r3))))
 (.chk (.nt (.an (.an (bI (.con (.v (.int .u8 48))) (.sidx r0 r3)) (.an (.nt VA) pT)) (.nt (.sok r0 r3))))
 (.call ⟨[(4,(.pick VA pT (.pick (bI (.con (.v (.int .u8 48))) (.sidx r0 r3)) (bI (.sidx r0 r3) (.con (.v (.int .u8 57)))) pF)))],[]⟩ [] 38 173 [(.sidx r0 r3)]
 (.ite (.pick (.nt gZ) (.pick (peq r3 (pi 0)) pT (.nt r4)) pF)
 (.ret pF)
 (.next ⟨[],[]⟩))))))
 (.next ⟨[(3,wB)],[]⟩))
 (.exit 0 ⟨[(13,r3),(14,r0),(15,(.slen r0)),(16,(ak r3 (.slen r0)))],[]⟩))
def Yw (b:Nat→PC):PT:=
 (.ite (.pick (ak (.slen r0) (pi 1)) pT (aR (.slen r0) (pi 20)))
 (.ret pF)
 (.brk ⟨[(3,(pi 0)),(2,pF)],[]⟩
(auq b)
 (.ret pT)))
def apa (b:Nat→PC):PT×List (Shp×PT):=(Yw b,[(.lp 0 [2,3,13,14,15,16] [] [2,3] [],Hn b)])
theorem UC:AY.map told=some (apa (bq AY)):=by kernel_rfl
theorem aAf:tree (ab AY)=Yw Qr:=bG UC
theorem Wc:round 0 [2,3,13,14,15,16] [] [2,3] [] (Qr 0)=Hn Qr:=bf UC 0 fun _=>rfl
def J9:Option PC:=cF [2] [] Tryz.f173 173 []
def Yv:PT:=
 (.ret (.pick (.pick (bI (.con (.v (.int .u8 97))) r0) (bI r0 (.con (.v (.int .u8 122)))) pF) pT (.pick (bI (.con (.v (.int .u8 65))) r0) (bI r0 (.con (.v (.int .u8 90)))) pF)))
theorem ag7:J9.map told=some (Yv,[]):=by kernel_rfl
theorem aAe:tree (ab J9)=Yv:=aQ ag7
def AW:Option PC:=cF [6,7] [] Tryz.f128 128 []
def Qq:Nat→PC:=bo AW
def aun (b:Nat→PC):PC:=.block 0 [6,7,8,9,10,11,16] [] (.loop [6,7] [] (b 0))
def Hl (b:Nat→PC):PT:=
 (.ite (.pick (ak r7 r1) (ak r7 (.llen r0)) pF)
 (.chk (aq r0 r7)
 (.ite (.cs .eql (pn r0 r7) r2)
 (.ret pT)
 (.next ⟨[(7,(aG r7 (pi 1)))],[]⟩)))
 (.exit 0 ⟨[(8,r7),(9,r1),(10,(ak r7 r1)),(11,(ak r7 r1)),(16,(.pick (ak r7 r1) (ak r7 (.llen r0)) pF))],[]⟩))
def Ys (b:Nat→PC):PT:=
 (.brk ⟨[(7,(pi 0)),(6,pF)],[]⟩
(aun b)
 (.ret pF))
def ao8 (b:Nat→PC):PT×List (Shp×PT):=(Ys b,[(.lp 0 [6,7,8,9,10,11,16] [] [6,7] [],Hl b)])
theorem UB:AW.map told=some (ao8 (bq AW)):=by kernel_rfl
theorem aAb:tree (ab AW)=Ys Qq:=bG UB
theorem Wb:round 0 [6,7,8,9,10,11,16] [] [6,7] [] (Qq 0)=Hl Qq:=bf UB 0 fun _=>rfl
def AZ:Option PC:=cF [4,5] [] Tryz.f91 91 [2,3]
def Qs:Nat→PC:=bo AZ
def aur (b:Nat→PC):PC:=.block 0 [4,5,36,37,38,39,40] [] (.loop [4,5] [] (b 0))
def Ho (b:Nat→PC):PT:=
 (.ite (ak r5 (.llen (pc o3 4)))
 (.blockS ⟨[],[]⟩ 1 [4,43,44,45,46,47,48,49,50,51,60] []
 (.chk (aq (pc o3 4) r5)
 (.chk CZ
 (.call ⟨[],[]⟩ [] 49 92 [(.ai .quo .i64 (pn (pc o3 4) r5) (pi 100)),(pi 1),(pi 12)]
 (.chk (.nt (.an (.an (.nt (.nt mY)) pT) (.nt (aq (pc o3 4) r5))))
 (.chk (.nt (.an (.an (.nt (.nt mY)) pT) (.nt CZ)))
 (.call ⟨[(51,(.nt mY))],[]⟩ [(51,false)] 58 92 [(.ai .rem .i64 (pn (pc o3 4) r5) (pi 100)),(pi 1),(pi 31)]
 (.ite (.pick lF pT (.nt G6))
 (.ret pF)
 (.next ⟨[],[]⟩))))))))
 (.next ⟨[(5,zC)],[]⟩))
 (.exit 0 ⟨[(36,r5),(37,pN),(38,(pc o3 4)),(39,(.llen (pc o3 4))),(40,(ak r5 (.llen (pc o3 4))))],[]⟩))
def Yx (b:Nat→PC):PT:=
 (.call ⟨[(4,pF)],[(3,(.mk [r1])),(2,(.mk [r0]))]⟩ [] 12 92 [(pc (.mk [r1]) 1),(pi 0),(bm GN (pi 1))]
 (.call ⟨[(14,(.nt bY))],[]⟩ [(14,false)] 21 92 [(pc o3 2),(pi 0),(bm (.llen (pc o2 0)) (pi 1))]
 (.ite (.pick (.pick (.pick bQ pT (.nt gY)) pT (aR (.llen (pc o3 4)) (pi 60))) pT (aR (.llen (pc o3 5)) (pi 200)))
 (.ret pF)
 (.brk ⟨[(5,(pi 0))],[]⟩
(aur b)
 (.call ⟨[],[]⟩ [] 63 129 [(pc o3 3),(pi 0),(pi 6)]
 (.call ⟨[(64,NS)],[]⟩ [(64,true)] 67 129 [(pc o3 4),(pi 0),(pi 2000)]
 (.call ⟨[(69,(.pick mZ wI pF))],[]⟩ [(69,true)] 72 129 [(pc o3 5),(pi 0),(pi 100000)]
 (.ret (.pick pY G9 pF)))))))))
def apb (b:Nat→PC):PT×List (Shp×PT):=(Yx b,[(.lp 0 [4,5,36,37,38,39,40] [] [4,5] [],Ho b)])
theorem UD:AZ.map told=some (apb (bq AZ)):=by kernel_rfl
theorem aAg:tree (ab AZ)=Yx Qs:=bG UD
theorem Wd:round 0 [4,5,36,37,38,39,40] [] [4,5] [] (Qs 0)=Ho Qs:=bf UD 0 fun _=>rfl
def Ka:Option PC:=cF [6] [] Tryz.f92 92 []
def YA:PT:=
 (.ret (.pick (bI r1 r0) (bI r0 r2) pF))
theorem ag8:Ka.map told=some (YA,[]):=by kernel_rfl
theorem aAj:tree (ab Ka)=YA:=aQ ag8
def A1:Option PC:=cF [6,7] [] Tryz.f129 129 []
def Qt:Nat→PC:=bo A1
def auu (b:Nat→PC):PC:=.block 0 [6,7,8,9,10,11] [] (.loop [6,7] [] (b 0))
def Hr (b:Nat→PC):PT:=
 (.ite (ak r7 (.llen r0))
 (.blockS ⟨[],[]⟩ 1 [6,14,15,16,17,18,19,20,21,22,23,24,35] []
 (.chk (aq r0 r7)
 (.call ⟨[],[]⟩ [] 20 92 [(pn r0 r7),r1,r2]
 (.ite (.nt fm)
 (.ret pF)
 (.chk (.nt (.an (.an (aR r7 (pi 0)) pT) (.nt (aq r0 (bm r7 (pi 1))))))
 (.chk (.nt (.an (.an (aR r7 (pi 0)) pT) (.nt (aq r0 r7))))
 (.ite (.pick (aR r7 (pi 0)) (bk (pn r0 (bm r7 (pi 1))) (pn r0 r7)) pF)
 (.ret pF)
 (.next ⟨[],[]⟩)))))))
 (.next ⟨[(7,(aG r7 (pi 1)))],[]⟩))
 (.exit 0 ⟨[(8,r7),(9,r0),(10,(.llen r0)),(11,(ak r7 (.llen r0)))],[]⟩))
def Yz (b:Nat→PC):PT:=
 (.brk ⟨[(7,(pi 0)),(6,pF)],[]⟩
(auu b)
 (.ret pT))
def apd (b:Nat→PC):PT×List (Shp×PT):=(Yz b,[(.lp 0 [6,7,8,9,10,11] [] [6,7] [],Hr b)])
theorem UE:A1.map told=some (apd (bq A1)):=by kernel_rfl
theorem aAi:tree (ab A1)=Yz Qt:=bG UE
theorem Wg:round 0 [6,7,8,9,10,11] [] [6,7] [] (Qt 0)=Hr Qt:=bf UE 0 fun _=>rfl
def A3:Option PC:=cF [2,3,5,6] [] Tryz.f53 53 [1,4,44]
def Ed:Nat→PC:=bo A3
def auy (b:Nat→PC):PC:=.block 0 [2,3,11,12,13,14,15] [] (.loop [2,3] [] (b 0))
def auz (b:Nat→PC):PC:=.block 2 [2,4,5,30,31,32,33,34] [4] (.loop [2,4,5] [4] (b 1))
def Hu (b:Nat→PC):PT:=
 (.ite (ak r3 tg)
 (.blockS ⟨[],[]⟩ 1 [2,18,19,20,21,22,23,24,25] []
 (.chk (aq (pc o1 2) r3)
 (.call ⟨[],[]⟩ [] 24 92 [(pc (pn (pc o1 2) r3) 0),(pi 0),(pi 9)]
 (.ite (.nt oy)
 (.ret (pi 1))
 (.next ⟨[],[]⟩))))
 (.next ⟨[(3,wB)],[]⟩))
 (.exit 0 ⟨[(11,r3),(12,pN),(13,(pc o1 2)),(14,tg),(15,(ak r3 tg))],[]⟩))
def Hv (b:Nat→PC):PT:=
 (.ite (ak r5 ox)
 (.blockS ⟨[],[]⟩ 3 [2,4,6,38,39,40,41,42,43,44,45,46,47,48,49,50,52,53,54,55,56,57,58,59,60,61,62,63,64,77] [44,4]
 (.chk (aq (pc o1 3) r5)
 (.chk (bI (.llen VD) cU)
 (.call ⟨[(4,pN)],[(4,VD)]⟩ [] 48 90 [VD,r5]
 (.ite (aF jS (pi 0))
 (.ret jS)
 (.chk (aq (pc o1 3) r5)
 (.call ⟨[],[]⟩ [] 62 92 [(pc (pn (pc o1 3) r5) 1),(pi 0),(bm lY (pi 1))]
 (.chk (.nt (.an (.an (.nt (.nt l9)) pT) (.nt (aq (pc o1 3) r5))))
 (.call ⟨[(64,(.nt l9))],[]⟩ [(64,false)] 75 92 [(pc (pn (pc o1 3) r5) 2),(pi 0),(bm tg (pi 1))]
 (.ite (.pick mZ pT (.nt VX))
 (.ret (pi 1))
 (.next ⟨[],[]⟩))))))))))
 (.next ⟨[(5,zC)],[]⟩))
 (.exit 2 ⟨[(30,r5),(31,pN),(32,(pc o1 3)),(33,ox),(34,(ak r5 ox))],[]⟩))
def YC (b:Nat→PC):PT:=
 (.ite (aR ry (pi 20))
 (.ret (pi 6))
 (.brk ⟨[(3,(pi 0)),(2,(pi 0))],[(1,(.mk [r0]))]⟩
(auy b)
 (.ite (aR ox (pi 200))
 (.ret (pi 6))
 (.brk ⟨[(5,(pi 0)),(4,pN)],[(4,pL)]⟩
(auz b)
 (.ret (pi 0))))))
def apf (b:Nat→PC):PT×List (Shp×PT):=(YC b,[(.lp 0 [2,3,11,12,13,14,15] [] [2,3] [],Hu b),(.lp 2 [2,4,5,30,31,32,33,34] [4] [2,4,5] [4],Hv b)])
theorem MT:A3.map told=some (apf (bq A3)):=by kernel_rfl
theorem aAl:tree (ab A3)=YC Ed:=bG MT
theorem Wj:round 0 [2,3,11,12,13,14,15] [] [2,3] [] (Ed 0)=Hu Ed:=bf MT 0 fun _=>rfl
theorem Wk:round 2 [2,4,5,30,31,32,33,34] [4] [2,4,5] [4] (Ed 1)=Hv Ed:=bf MT 1 fun _=>rfl
def A4:Option PC:=cF [2,4,5] [] Tryz.f54 54 [1,3,24]
def Qu:Nat→PC:=bo A4
def auA (b:Nat→PC):PC:=.block 0 [2,3,4,10,11,12,13,14] [3] (.loop [2,3,4] [3] (b 0))
def Hw (b:Nat→PC):PT:=
 (.ite (ak r4 pP)
 (.blockS ⟨[],[]⟩ 1 [2,3,5,18,19,20,21,22,23,24,25,26,27,28,29,30,32,33,34,35,36,37,38] [24,3]
 (.chk (aq (pc o1 4) r4)
 (.chk (bI (.llen (.app o3 (.lst [(pc zy 0)]))) cU)
 (.call ⟨[(3,pN)],[(3,(.app o3 (.lst [(pc zy 0)])))]⟩ [] 28 90 [(.app o3 (.lst [(pc zy 0)])),r4]
 (.ite (aF pR (pi 0))
 (.ret pR)
 (.chk (aq (pc o1 4) r4)
 (.call ⟨[],[]⟩ [] 37 93 [zy]
 (.ite (.nt l0)
 (.ret (pi 1))
 (.next ⟨[],[]⟩))))))))
 (.next ⟨[(4,(aG r4 (pi 1)))],[]⟩))
 (.exit 0 ⟨[(10,r4),(11,pN),(12,(pc o1 4)),(13,pP),(14,(ak r4 pP))],[]⟩))
def YE (b:Nat→PC):PT:=
 (.ite (aR GN (pi 20))
 (.ret (pi 6))
 (.brk ⟨[(4,(pi 0)),(3,pN),(2,(pi 0))],[(3,pL),(1,(.mk [r0]))]⟩
(auA b)
 (.ret (pi 0))))
def apg (b:Nat→PC):PT×List (Shp×PT):=(YE b,[(.lp 0 [2,3,4,10,11,12,13,14] [3] [2,3,4] [3],Hw b)])
theorem UF:A4.map told=some (apg (bq A4)):=by kernel_rfl
theorem aAn:tree (ab A4)=YE Qu:=bG UF
theorem Wl:round 0 [2,3,4,10,11,12,13,14] [3] [2,3,4] [3] (Qu 0)=Hw Qu:=bf UF 0 fun _=>rfl
def A0:Option PC:=cF [2,3,4] [] Tryz.f93 93 [1]
def Eb:Nat→PC:=bo A0
def aus (b:Nat→PC):PC:=.block 0 [2,3,5,6,7,8,9] [] (.loop [2,3] [] (b 0))
def aut (b:Nat→PC):PC:=.block 2 [2,4,48,49,50,51,52] [] (.loop [2,4] [] (b 1))
def Hp (b:Nat→PC):PT:=
 (.ite (ak r3 tg)
 (.blockS ⟨[],[]⟩ 1 [2,12,13,14,15,16,17,18,19,20,29,30,31,32,47] []
 (.chk (aq (pc o1 2) r3)
 (.call ⟨[],[]⟩ [] 18 92 [(pc (pn (pc o1 2) r3) 0),(pi 0),(pi 21)]
 (.chk (.nt (.an (.an (.nt (.nt cv)) pT) (.nt (aq (pc o1 2) r3))))
 (.call ⟨[(20,(.nt cv))],[]⟩ [(20,false)] 27 92 [(pc (pn (pc o1 2) r3) 1),(pi 0),(pi 4)]
 (.ite (.pick fm pT (.nt dD))
 (.ret pF)
 (.chk (.nt (.an (.an (aR r3 (pi 0)) pT) (.nt (aq (pc o1 2) (bm r3 (pi 1))))))
 (.chk (.nt (.an (.an (aR r3 (pi 0)) pT) (.nt (aq (pc o1 2) r3))))
 (.ite (.pick (aR r3 (pi 0)) (bk (pc (pn (pc o1 2) (bm r3 (pi 1))) 0) (pc (pn (pc o1 2) r3) 0)) pF)
 (.ret pF)
 (.next ⟨[],[]⟩)))))))))
 (.next ⟨[(3,wB)],[]⟩))
 (.exit 0 ⟨[(5,r3),(6,pN),(7,(pc o1 2)),(8,tg),(9,(ak r3 tg))],[]⟩))
def Hq (b:Nat→PC):PT:=
 (.ite (ak r4 ox)
 (.blockS ⟨[],[]⟩ 3 [2,55,56,57,58,59,60,61,62,63,64,65,80] []
 (.chk (aq (pc o1 3) r4)
 (.call ⟨[],[]⟩ [] 61 92 [(pc (pn (pc o1 3) r4) 0),(pi 0),(pi 21)]
 (.ite (.nt G8)
 (.ret pF)
 (.chk (.nt (.an (.an (aR r4 (pi 0)) pT) (.nt (aq (pc o1 3) (bm r4 (pi 1))))))
 (.chk (.nt (.an (.an (aR r4 (pi 0)) pT) (.nt (aq (pc o1 3) r4))))
 (.ite (.pick (aR r4 (pi 0)) (bk (pc (pn (pc o1 3) (bm r4 (pi 1))) 0) (pc (pn (pc o1 3) r4) 0)) pF)
 (.ret pF)
 (.next ⟨[],[]⟩)))))))
 (.next ⟨[(4,(aG r4 (pi 1)))],[]⟩))
 (.exit 2 ⟨[(48,r4),(49,pN),(50,(pc o1 3)),(51,ox),(52,(ak r4 ox))],[]⟩))
def Yy (b:Nat→PC):PT:=
 (.brk ⟨[(3,(pi 0)),(2,pF)],[(1,(.mk [r0]))]⟩
(aus b)
 (.brk ⟨[(4,(pi 0))],[]⟩
(aut b)
 (.ret pT)))
def apc (b:Nat→PC):PT×List (Shp×PT):=(Yy b,[(.lp 0 [2,3,5,6,7,8,9] [] [2,3] [],Hp b),(.lp 2 [2,4,48,49,50,51,52] [] [2,4] [],Hq b)])
theorem MR:A0.map told=some (apc (bq A0)):=by kernel_rfl
theorem aAh:tree (ab A0)=Yy Eb:=bG MR
theorem We:round 0 [2,3,5,6,7,8,9] [] [2,3] [] (Eb 0)=Hp Eb:=bf MR 0 fun _=>rfl
theorem Wf:round 2 [2,4,48,49,50,51,52] [] [2,4] [] (Eb 1)=Hq Eb:=bf MR 1 fun _=>rfl
def A6:Option PC:=cF [2,3,5] [] Tryz.f55 55 [1,4]
def Ef:Nat→PC:=bo A6
def auD (b:Nat→PC):PC:=.block 2 [2,5,46,47,48] [] (.loop [2,5] [] (b 0))
def auE (b:Nat→PC):PC:=.block 0 [2,3,10,11,12,13,14] [] (.loop [2,3] [] (b 1))
def Dh (b:Nat→PC):PT:=
 (.ite (ak r5 r3)
 (.chk (aq (pc o1 5) r5)
 (.chk (.nt (.an (.an (peq (pc (pn (pc o1 5) r5) 0) (pc o4 0)) pT) (.nt (aq (pc o1 5) r5))))
 (.ite (.pick (peq (pc (pn (pc o1 5) r5) 0) (pc o4 0)) (peq (pc (pn (pc o1 5) r5) 1) (pc o4 1)) pF)
 (.ret (pi 5))
 (.next ⟨[(5,zC)],[]⟩))))
 (.exit 2 ⟨[(46,r5),(47,r3),(48,(ak r5 r3))],[]⟩))
def Hz (b:Nat→PC):PT:=
 (.ite (ak r3 C2)
 (.blockS ⟨[(14,(ak r3 C2)),(13,C2),(12,(pc o1 5)),(11,pN),(10,r3)],[]⟩ 1 [2,4,5,17,18,19,20,21,22,23,24,25,26,27,28,29,30,39,40,45,46,47,48] [4]
 (.chk (aq (pc o1 5) r3)
 (.call ⟨[],[(4,(.setc z3 0 (pn (pc o1 5) r3)))]⟩ [] 28 92 [(pc (.setc z3 0 (pn (pc o1 5) r3)) 0),(pi 0),(bm lY (pi 1))]
 (.call ⟨[(30,(.nt pR))],[]⟩ [(30,false)] 37 92 [(pc o4 1),(pi 0),(bm lY (pi 1))]
 (.call ⟨[(40,(.pick oz pT (.nt l0)))],[]⟩ [(40,false)] 43 92 [(pc o4 2),(pi 1),(pi 20000)]
 (.ite (.pick pX pT (.nt oA))
 (.ret (pi 1))
 (.brk ⟨[(5,(pi 0))],[]⟩
(auD b)
 (.next ⟨[],[]⟩)))))))
 (.next ⟨[(3,wB)],[]⟩))
 (.exit 0 ⟨[(10,r3),(11,pN),(12,(pc o1 5)),(13,C2),(14,(ak r3 C2))],[]⟩))
def YH (b:Nat→PC):PT:=
 (.ite (aR (.llen wF) (pi 100))
 (.ret (pi 6))
 (.brk ⟨[(3,(pi 0)),(2,(pi 0))],[(1,(.mk [r0]))]⟩
(auE b)
 (.ret (pi 0))))
def api (b:Nat→PC):PT×List (Shp×PT):=(YH b,[(.lp 2 [2,5,46,47,48] [] [2,5] [],Dh b),(.lp 0 [2,3,10,11,12,13,14] [] [2,3] [],Hz b)])
theorem MV:A6.map told=some (api (bq A6)):=by kernel_rfl
theorem aAp:tree (ab A6)=YH Ef:=bG MV
theorem Oa:round 2 [2,5,46,47,48] [] [2,5] [] (Ef 0)=Dh Ef:=bf MV 0 fun _=>rfl
theorem Wo:round 0 [2,3,10,11,12,13,14] [] [2,3] [] (Ef 1)=Hz Ef:=bf MV 1 fun _=>rfl
def A5:Option PC:=cF [2,3,5] [] Tryz.f56 56 [1,4,6]
def Ee:Nat→PC:=bo A5
def auB (b:Nat→PC):PC:=.block 0 [2,3,11,12,13,14,15] [] (.loop [2,3] [] (b 0))
def auC (b:Nat→PC):PC:=.block 2 [2,5,68,69,70,71,72] [] (.loop [2,5] [] (b 1))
def Hx (b:Nat→PC):PT:=
 (.ite (ak r3 (.llen (pc o1 6)))
 (.blockS ⟨[],[]⟩ 1 [2,4,18,19,20,21,22,23,24,25,26,27,28,29,30,31,40,41,47,48,49,50,51,52,57,58,63] [4]
 (.chk (aq (pc o1 6) r3)
 (.call ⟨[],[(4,(.setc z5 0 (pn (pc o1 6) r3)))]⟩ [] 29 92 [(pc (.setc z5 0 (pn (pc o1 6) r3)) 0),(pi 0),(bm wG (pi 1))]
 (.call ⟨[(31,(.nt mX))],[]⟩ [(31,false)] 38 92 [(pc o4 1),(pi 0),(bm wG (pi 1))]
 (.ite (.pick (.pick pS pT (.nt gZ)) pT (peq (pc o4 0) (pc o4 1)))
 (.ret (pi 1))
 (.call ⟨[],[]⟩ [] 50 92 [(pc o4 2),(pi 1),(pi 1073741824)]
 (.call ⟨[(52,(.nt l6))],[]⟩ [(52,false)] 55 92 [(pc o4 3),(pi 1),(pi 1073741824)]
 (.call ⟨[(58,(.pick Db pT (.nt wH)))],[]⟩ [(58,false)] 61 92 [(pc o4 4),(pi 0),(pi 100000)]
 (.ite (.pick G6 pT (.nt G8))
 (.ret (pi 1))
 (.next ⟨[],[]⟩)))))))))
 (.next ⟨[(3,wB)],[]⟩))
 (.exit 0 ⟨[(11,r3),(12,pN),(13,(pc o1 6)),(14,(.llen (pc o1 6))),(15,(ak r3 (.llen (pc o1 6))))],[]⟩))
def Hy (b:Nat→PC):PT:=
 (.ite (ak r5 zB)
 (.blockS ⟨[],[]⟩ 3 [2,6,75,76,77,78,79,80,81,82,83,84,85,86,87,88,95,96,100] [6]
 (.chk (aq (pc o1 7) r5)
 (.call ⟨[],[(6,(.setc z3 0 (pn (pc o1 7) r5)))]⟩ [] 86 92 [(pc (.setc z3 0 (pn (pc o1 7) r5)) 0),(pi 0),(bm pP (pi 1))]
 (.call ⟨[(88,(.nt r86))],[]⟩ [(88,false)] 93 92 [(pc o6 1),(pi 0),(pc o6 2)]
 (.ite (.pick (.pick NU pT (.nt NV)) pT (aR (pc o6 2) (pi 100000)))
 (.ret (pi 1))
 (.next ⟨[],[]⟩)))))
 (.next ⟨[(5,zC)],[]⟩))
 (.exit 2 ⟨[(68,r5),(69,pN),(70,(pc o1 7)),(71,zB),(72,(ak r5 zB))],[]⟩))
def YG (b:Nat→PC):PT:=
 (.ite (aR (.llen C1) (pi 100))
 (.ret (pi 6))
 (.brk ⟨[(3,(pi 0)),(2,(pi 0))],[(1,(.mk [r0]))]⟩
(auB b)
 (.ite (aR zB (pi 20))
 (.ret (pi 6))
 (.brk ⟨[(5,(pi 0))],[]⟩
(auC b)
 (.ret (pi 0))))))
def aph (b:Nat→PC):PT×List (Shp×PT):=(YG b,[(.lp 0 [2,3,11,12,13,14,15] [] [2,3] [],Hx b),(.lp 2 [2,5,68,69,70,71,72] [] [2,5] [],Hy b)])
theorem MU:A5.map told=some (aph (bq A5)):=by kernel_rfl
theorem aAo:tree (ab A5)=YG Ee:=bG MU
theorem Wm:round 0 [2,3,11,12,13,14,15] [] [2,3] [] (Ee 0)=Hx Ee:=bf MU 0 fun _=>rfl
theorem Wn:round 2 [2,5,68,69,70,71,72] [] [2,5] [] (Ee 1)=Hy Ee:=bf MU 1 fun _=>rfl
def xZ:Option PC:=cF [4,5,6,7,8,11] [] Tryz.f25 25 [2,3,10]
def D9:Nat→PC:=bo xZ
def aud (b:Nat→PC):PC:=.block 0 [4,48,49] [] (.loop [4,48] [] (b 0))
def aue (b:Nat→PC):PC:=.block 2 [4,8,62,63] [] (.loop [4,8,62] [] (b 1))
def Hi (b:Nat→PC):PT:=
 (.ite (ak jS Da)
 (.blockS ⟨[],[]⟩ 1 [4,6,7,50,51,52,53,54,55,56] []
 (.call ⟨[],[]⟩ [] 54 58 [(az 8 o2),(az 19 o3),jS]
 (.ite (aF l7 (pi 0))
 (.ret l7)
 (.next ⟨[],[]⟩)))
 (.next ⟨[(48,(aG jS (pi 1)))],[]⟩))
 (.exit 0 ⟨[(49,(ak jS Da))],[]⟩))
def Hj (b:Nat→PC):PT:=
 (.ite (ak l9 G8)
 (.blockS ⟨[],[]⟩ 3 [4,8,10,64,65,66,67,68,69,70,71,72,73,74,75,76,77,78,79,80] [10]
 (.chk (aq G7 l9)
 (.call ⟨[],[(10,(.setc z2 0 (pn G7 l9)))]⟩ [] 73 59 [(pc (.setc z2 0 (pn G7 l9)) 0),uU,(.llen (pc o3 15))]
 (.ite (.nt De)
 (.ret (pi 1))
 (.call ⟨[],[]⟩ [] 77 59 [(pc cm 1),(pi 1),zx]
 (.ite (.nt r77)
 (.ret (pi 3))
 (.next ⟨[(8,(pc cm 0))],[]⟩))))))
 (.next ⟨[(62,(aG l9 (pi 1)))],[]⟩))
 (.exit 2 ⟨[(63,(ak l9 G8))],[]⟩))
def Yb (b:Nat→PC):PT:=
 (.ite (.pick (.pick (.pick (aR (.llen (pc (.mk [r1]) 15)) (pi 40)) pT (aR (.llen (pc (.mk [r1]) 16)) (pi 4))) pT (aR (.llen (pc (.mk [r1]) 17)) (pi 100))) pT (aR (.llen (pc (.mk [r1]) 18)) (pi 200)))
 (.ret (pi 6))
 (.call ⟨[(4,(pi 0))],[(3,(.mk [r1])),(2,(.mk [r0]))]⟩ [] 37 57 [jP,(az 15 (.mk [r1]))]
 (.ite (aF l0 (pi 0))
 (.ret l0)
 (.ite (peq (.llen (pc o3 15)) (pi 0))
 (.ret (pi 14))
 (.brk ⟨[(48,(pi 0)),(47,(.llen (pc o3 15)))],[]⟩
(aud b)
 (.brk ⟨[(62,(pi 0)),(61,(.llen (pc o3 16))),(60,(pc o3 16)),(8,(pi 0))],[]⟩
(aue b)
 (.call ⟨[],[]⟩ [] 84 60 [(az 8 o2),(az 19 o3)]
 (.ite (aF Ha (pi 0))
 (.ret Ha)
 (.call ⟨[],[]⟩ [] 89 61 [(az 19 o3)]
 (.ret r89))))))))))
def aoZ (b:Nat→PC):PT×List (Shp×PT):=(Yb b,[(.lp 0 [4,48,49] [] [4,48] [],Hi b),(.lp 2 [4,8,62,63] [] [4,8,62] [],Hj b)])
theorem MO:xZ.map told=some (aoZ (bq xZ)):=by kernel_rfl
theorem azP:tree (ab xZ)=Yb D9:=bG MO
theorem V8:round 0 [4,48,49] [] [4,48] [] (D9 0)=Hi D9:=bf MO 0 fun _=>rfl
theorem V9:round 2 [4,8,62,63] [] [4,8,62] [] (D9 1)=Hj D9:=bf MO 1 fun _=>rfl
def EF:Option PC:=cF [4,5,6,7,8,54,80,109,118,9,10] [] Tryz.f57 57 [2,3]
def Z1:PT:=
 (.call ⟨[],[(3,(.mk [r1])),(2,(.mk [r0]))]⟩ [] 12 94 [jP]
 (.ite (aF bY (pi 0))
 (.ret bY)
 (.call ⟨[(7,(.llen (pc o2 1))),(6,(.llen (pc o2 3)))],[]⟩ [] 25 95 [(pc o3 0),(.llen (pc o2 3))]
 (.call ⟨[(26,jQ)],[]⟩ [(26,true)] 30 95 [(pc o3 1),r6]
 (.call ⟨[(36,(peq (pc o3 2) (pi (-1)))),(32,(.pick lZ oz pF))],[]⟩ [(36,false),(32,true)] 40 95 [(pc o3 2),r6]
 (.call ⟨[(47,(peq (pc o3 11) (pi (-1)))),(43,(.pick pU (.pick jR pT pX) pF))],[]⟩ [(47,false),(43,true)] 51 95 [(pc o3 11),r6]
 (.blockS ⟨[(8,(.pick oA (.pick Da pT lF) pF))],[]⟩ 0 [4,54,55,56,57,65,66,72,73,79,80,81,82,83,84,88,89,93,94,98,99,103,104,108,109,110,111,112,113,117,118,119,120,121,122,126,127,137,138,142] []
 (.call ⟨[(57,(.nt r8))],[]⟩ [(57,false)] 63 95 [(pc o3 4),(.llen (pc o2 0))]
 (.call ⟨[(66,(.pick G5 pT (.nt NS)))],[]⟩ [(66,false)] 70 95 [(pc o3 9),r7]
 (.call ⟨[(73,(.pick r66 pT (.nt r70)))],[]⟩ [(73,false)] 77 95 [(pc o3 10),r7]
 (.iteS ⟨[],[]⟩ (.pick De pT (.nt r77)) [4,80,81,82,83,84,88,89,93,94,98,99,103,104,108,109,110,111,112,113,117,118,119,120,121,122,126,127,137,138,142] []
 (.ret (pi 1))
 (.iteS ⟨[],[]⟩ (.pick (.pick (.pick (.pick (.pick (ak (pc o3 3) (pi 1)) pT (aR (pc o3 3) zx)) pT (ak (pc o3 8) (pi 0))) pT (aR (pc o3 8) (pi 100000))) pT (ak (pc o3 12) (pi 0))) pT (aR (pc o3 12) (pi 1000))) [4,109,110,111,112,113,117,118,119,120,121,122,126,127,137,138,142] []
 (.ret (pi 3))
 (.iteS ⟨[],[]⟩ (.pick (ak (pc o3 14) (pi 1)) pT (aR (pc o3 14) (pi 4))) [4,118,119,120,121,122,126,127,137,138,142] []
 (.ret (pi 15))
 (.call ⟨[(138,(.pick (.pick (ak (pc o3 13) (pi 0)) pT (aR (pc o3 13) (pi 7))) pT (.pick (aF (.ai .and .i64 (pc o3 13) (pi 4)) (pi 0)) (peq (pc o3 2) (pi (-1))) pF)))],[]⟩ [(138,false)] 140 96 [(az 15 o3)]
 (.ite (.pick (.r 138) pT (.nt (.r 140)))
 (.ret (pi 2))
 (.next ⟨[],[]⟩)))
 (.next ⟨[],[]⟩))
 (.next ⟨[],[]⟩))
 (.next ⟨[],[]⟩)))))
 (.iteS ⟨[],[]⟩ (peq (pc o3 5) (pi 4)) [4] []
 (.call ⟨[],[]⟩ [] 153 97 [(az 8 o2),(pc o3 9),(pc o3 10)]
 (.ret (.tget (.r 153) 1)))
 (.next ⟨[],[]⟩)
 (.ret (pi 0))))))))))
theorem ahU:EF.map told=some (Z1,[]):=by kernel_rfl
theorem aBC:tree (ab EF)=Z1:=aQ ahU
def KU:Option PC:=cF [4] [] Tryz.f95 95 []
def Z2:PT:=
 (.ret VF)
theorem ahV:KU.map told=some (Z2,[]):=by kernel_rfl
theorem aBD:tree (ab KU)=Z2:=aQ ahV
def KV:Option PC:=cF [2,8,19,40] [] Tryz.f96 96 [1,3]
def Z3:PT:=
 (.ite (.pick (peq (pc lE 0) (pi 0)) (peq (pc lE 0) (pi 0)) (peq (pc lE 0) (pi 4)))
 (.ret (.pick (peq (pc lE 1) (pi 0)) (peq (pc lE 2) (pi 0)) pF))
 (.ite (.pick (peq (pc lE 0) (pi 1)) (peq (pc lE 0) (pi 1)) (peq (pc lE 0) (pi 2)))
 (.ret (.pick (.pick (bk (pc lE 1) (pi 1)) (bI (pc lE 1) (pi 400)) pF) (.pick (peq (pc lE 2) (pi 0)) pT (peq (pc lE 2) (pi 1))) pF))
 (.ite (peq (pc lE 0) (pi 3))
 (.ret (.pick (.pick (bk (pc lE 1) (pc (.mk [r0]) 8)) (bI (pc lE 1) (pi 100000)) pF) (peq (pc lE 2) (pi 0)) pF))
 (.ret pF))))
theorem ahW:KV.map told=some (Z3,[]):=by kernel_rfl
theorem aBE:tree (ab KV)=Z3:=aQ ahW
def AR:Option PC:=cF [6,8,9,76,92,98] [] Tryz.f58 58 [3,4,7,11]
def Ql:Nat→PC:=bo AR
def aui (b:Nat→PC):PC:=.block 0 [8,9,51,52] [] (.loop [8,9,51] [] (b 0))
def N5 (b:Nat→PC):PT:=
 (.ite (ak lF l6)
 (.chk (aq mY lF)
 (.next ⟨[(8,(pc (.setc z9 0 (pn mY lF)) 6)),(9,(.pick r9 pT (.pick (.pick (peq (pc o7 0) (pi 1)) (peq (pc (.setc z9 0 (pn mY lF)) 0) (pi 1)) pF) (peq (pc (.setc z9 0 (pn mY lF)) 1) (pc o7 1)) pF))),(51,(aG lF (pi 1)))],[]⟩))
 (.exit 0 ⟨[(52,(ak lF l6))],[]⟩))
def Yj (b:Nat→PC):PT:=
 (.chk (aq (pc (.mk [r1]) 15) r2)
 (.call ⟨[],[(7,pM),(4,(.mk [r1])),(3,(.mk [r0]))]⟩ [] 23 59 [(pc pM 1),(pi 0),(bm (pc (.mk [r1]) 14) (pi 1))]
 (.ite (.nt gy)
 (.ret (pi 15))
 (.call ⟨[],[]⟩ [] 31 59 [(pc o7 2),(pi 0),Ns]
 (.call ⟨[(33,(.nt pS))],[]⟩ [(33,false)] 40 59 [(pc o7 7),(pi 0),(bm (.llen (pc o3 1)) (pi 1))]
 (.ite (.pick rz pT (.nt pX))
 (.ret (pi 1))
 (.chk (.slok (pc o4 15) (pi 0) r2)
 (.brk ⟨[(51,(pi 0)),(50,(.llen (.slc (pc o4 15) (pi 0) r2))),(49,(.slc (pc o4 15) (pi 0) r2)),(9,pF),(8,(pc o4 8))],[]⟩
(aui b)
 (.blockS ⟨[],[]⟩ 2 [6,76,77,78,79,80,81,82,91,92,93,94,95,96,97,98,99] []
 (.call ⟨[],[]⟩ [] 80 59 [(pc o7 6),r8,(pi 100000)]
 (.iteS ⟨[],[]⟩ (.pick (.nt wJ) pT (.pick (peq r2 (pi 0)) (aF (pc o7 6) r8) pF)) [6,92,93,94,95,96,97,98,99] []
 (.ret (pi 13))
 (.call ⟨[],[]⟩ [] 96 98 [(az 8 o3),(az 19 o4),r2]
 (.ite (.nt r96)
 (.ret (pi 14))
 (.ite r9
 (.ret (pi 5))
 (.next ⟨[],[]⟩))))
 (.next ⟨[],[]⟩)))
 (.ret (pi 0)))))))))))
def ao3 (b:Nat→PC):PT×List (Shp×PT):=(Yj b,[(.lp 0 [8,9,51,52] [] [8,9,51] [],N5 b)])
theorem Uw:AR.map told=some (ao3 (bq AR)):=by kernel_rfl
theorem azX:tree (ab AR)=Yj Ql:=bG Uw
theorem ajh:round 0 [8,9,51,52] [] [8,9,51] [] (Ql 0)=N5 Ql:=bf Uw 0 fun _=>rfl
def J1:Option PC:=cF [6] [] Tryz.f59 59 []
def Yi:PT:=
 (.ret (.pick (bk r0 r1) (bI r0 r2) pF))
theorem agY:J1.map told=some (Yi,[]):=by kernel_rfl
theorem azW:tree (ab J1)=Yi:=aQ agY
def J0:Option PC:=cF [6,9,10,66,103,113,11,140,149] [] Tryz.f98 98 [3,4,7,8]
def Yh:PT:=
 (.chk (aq (pc (.mk [r1]) 15) r2)
 (.ite (.pick (.cb .neq (peq r2 (pi 0)) (peq (pc pM 0) (pi 0))) pT (.pick (aF (pc pM 0) (pi 2)) (aF (pc pM 4) (pi (-1))) pF))
 (.ret pF)
 (.ite (.pick (.pick (aF (pc pM 0) (pi 3)) (aF (pc pM 0) (pi 4)) pF) (aF (pc pM 3) (pi (-1))) pF)
 (.ret pF)
 (.call ⟨[(9,(.pick (peq (pc pM 5) (pi 0)) (peq (pc pM 8) (pi 0)) pF))],[(8,(.setc IK 0 (az 15 (.mk [r1])))),(7,pM),(4,(.mk [r1])),(3,(.mk [r0]))]⟩ [] 58 59 [(pc pM 5),(pi 1),zx]
 (.blockS ⟨[(65,(pc o7 0)),(10,(.pick G6 (peq (pc o7 8) (pi 0)) pF))],[]⟩ 0 [6,66,67,103,104,113,114,140,141,149,150] []
 (.iteS ⟨[],[]⟩ (peq Dc (pi 0)) [6,103,104,113,114,140,141,149,150] []
 (.ret (.pick (.pick (.pick (.pick (.pick (peq (pc o7 2) (pc o8 0)) (peq (pc o7 5) (pi 0)) pF) (peq (.ai .or .i64 (pc o7 8) (pi 1)) (pi 1)) pF) (peq (pc o7 1) (pi 0)) pF) (peq (pc o7 6) (pc o8 8)) pF) (peq (pc o7 7) (pc o8 9)) pF))
 (.iteS ⟨[],[]⟩ (peq Dc (pi 1)) [6,113,114,140,141,149,150] []
 (.ret (.pick (peq (pc o7 2) (pc o8 1)) cV pF))
 (.iteS ⟨[],[]⟩ (peq Dc (pi 2)) [6,140,141,149,150] []
 (.call ⟨[(11,(pi 6))],[]⟩ [] 121 59 [(pc o7 4),(pi (-1)),Ns]
 (.call ⟨[(127,(.pick axd (peq (pc o7 5) (pi 0)) pF))],[]⟩ [(127,true)] 130 59 [(pc o7 8),(pi 0),(pi 7)]
 (.ret (.pick (.pick axe (.r 130) pF) (aF (.ai .and .i64 (pc o7 8) bJ) bJ) pF))))
 (.iteS ⟨[],[]⟩ (peq Dc (pi 3)) [6,149,150] []
 (.call ⟨[(143,r9)],[]⟩ [(143,true)] 147 141 [(az 19 o4),r2,(.lst [(pi 0),(pi 1),(pi 2),(pi 4)])]
 (.ret (.pick (.r 143) (.r 147) pF)))
 (.iteS ⟨[],[]⟩ (peq Dc (pi 4)) [6] []
 (.call ⟨[(159,(.pick cV (aF (pc o7 2) (pc o8 1)) pF))],[]⟩ [(159,true)] 163 141 [(az 19 o4),r2,(.lst [(pi 0),(pi 2)])]
 (.ret (.pick (.r 159) (.r 163) pF)))
 (.next ⟨[],[]⟩)
 (.next ⟨[],[]⟩))
 (.next ⟨[],[]⟩))
 (.next ⟨[],[]⟩))
 (.next ⟨[],[]⟩))
 (.next ⟨[],[]⟩))
 (.ret pF))))))
theorem agX:J0.map told=some (Yh,[]):=by kernel_rfl
theorem azV:tree (ab J0)=Yh:=aQ agX
def JZ:Option PC:=cF [6,7] [] Tryz.f141 141 [3]
def Yf:PT:=
 (.chk (aq rp r1)
 (.call ⟨[(7,(pc (pn rp r1) 3))],[(3,(.mk [r0]))]⟩ [] 17 59 [(pc (pn rp r1) 3),(pi 0),(bm r1 (pi 1))]
 (.chk (.nt (.an (.an dB pT) (.nt (aq (pc o3 15) r1))))
 (.call ⟨[(18,dB)],[]⟩ [(18,true)] 27 142 [(az 19 o3),r7,(pc (pn (pc o3 15) r1) 1)]
 (.chk (.nt (.an (.an (.pick cv dD pF) pT) (.nt (aq (pc o3 15) r7))))
 (.call ⟨[(29,(.pick cv dD pF))],[]⟩ [(29,true)] 37 176 [r2,(pc (pn (pc o3 15) r7) 0)]
 (.ret (.pick mX l0 pF))))))))
theorem agW:JZ.map told=some (Yf,[]):=by kernel_rfl
theorem azT:tree (ab JZ)=Yf:=aQ agW
def J2:Option PC:=cF [6] [] Tryz.f142 142 [3]
def Pb:PT:=
 (.chk (.nt (.an (.an (.nt (peq r1 (pi 0))) pT) (.nt (aq rp r1))))
 (.ret (.pick (peq r1 (pi 0)) pT (peq (pc (pn rp r1) 1) r2))))
theorem agZ:J2.map told=some (Pb,[]):=by kernel_rfl
theorem azY:tree (ab J2)=Pb:=aQ agZ
def AP:Option PC:=cF [4,5,7] [] Tryz.f60 60 [2,3,6]
def Qj:Nat→PC:=bo AP
def aug (b:Nat→PC):PC:=.block 0 [4,11,12] [] (.loop [4,11] [] (b 0))
def N3 (b:Nat→PC):PT:=
 (.ite (ak bJ cV)
 (.blockS ⟨[],[]⟩ 1 [4,5,6,7,13,14,15,16,17,18,19,20,21,22,23,24,25,26,27,28,29,30,31,32,37,38,39,40,41,42,43,44,45,46,47,48,58,59,69,70,71,72,73] [6]
 (.chk (aq r9 bJ)
 (.call ⟨[(5,bJ)],[(6,(.setc z9 0 (pn r9 bJ)))]⟩ [] 22 59 [(pc (.setc z9 0 (pn r9 bJ)) 3),(pi 0),(bm (pc o3 14) (pi 1))]
 (.ite (.nt mW)
 (.ret (pi 15))
 (.call ⟨[],[]⟩ [] 30 59 [(pc o6 7),(pi 0),(bm (.llen (pc o2 1)) (pi 1))]
 (.call ⟨[(32,(.nt oz))],[]⟩ [(32,false)] 35 59 [(pc o6 0),(pi 0),(pi 9)]
 (.ite (.pick pU pT (.nt pV))
 (.ret (pi 1))
 (.call ⟨[],[]⟩ [] 41 99 [(az 8 o2),(az 19 o3),(az 9 o6)]
 (.ite (.nt rA)
 (.ret (pi 14))
 (.ite (aF (pc o6 4) (pi (-1)))
 (.chk (aq (pc o3 15) (pc o6 4))
 (.ite (aR r5 (pi 0))
 (.chk (aq (pc o3 17) (bm r5 (pi 1)))
 (.call ⟨[],[]⟩ [] 72 59 [(pc o6 6),(.mx (.mx (pc o3 8) (pc (pn (pc o3 15) (pc o6 4)) 6)) (pc (pn (pc o3 17) (bm r5 (pi 1))) 6)),(pi 100000)]
 (.ite (.nt G9)
 (.ret (pi 13))
 (.next ⟨[],[]⟩))))
 (.call ⟨[],[]⟩ [] 72 59 [(pc o6 6),(.mx (pc o3 8) (pc (pn (pc o3 15) (pc o6 4)) 6)),(pi 100000)]
 (.ite (.nt G9)
 (.ret (pi 13))
 (.next ⟨[],[]⟩)))))
 (.ite (aR r5 (pi 0))
 (.chk (aq (pc o3 17) (bm r5 (pi 1)))
 (.call ⟨[],[]⟩ [] 72 59 [(pc o6 6),(.mx (pc o3 8) (pc (pn (pc o3 17) (bm r5 (pi 1))) 6)),(pi 100000)]
 (.ite (.nt G9)
 (.ret (pi 13))
 (.next ⟨[],[]⟩))))
 (.call ⟨[],[]⟩ [] 72 59 [(pc o6 6),(pc o3 8),(pi 100000)]
 (.ite (.nt G9)
 (.ret (pi 13))
 (.next ⟨[],[]⟩)))))))))))))
 (.next ⟨[(11,(aG bJ (pi 1)))],[]⟩))
 (.exit 0 ⟨[(12,(ak bJ cV))],[]⟩))
def Ye (b:Nat→PC):PT:=
 (.brk ⟨[(11,(pi 0)),(10,(.llen (pc (.mk [r1]) 17))),(9,(pc (.mk [r1]) 17)),(4,(pi 0))],[(3,(.mk [r1])),(2,(.mk [r0]))]⟩
(aug b)
 (.ret (pi 0)))
def ao1 (b:Nat→PC):PT×List (Shp×PT):=(Ye b,[(.lp 0 [4,11,12] [] [4,11] [],N3 b)])
theorem Uu:AP.map told=some (ao1 (bq AP)):=by kernel_rfl
theorem azS:tree (ab AP)=Ye Qj:=bG Uu
theorem ajf:round 0 [4,11,12] [] [4,11] [] (Qj 0)=N3 Qj:=bf Uu 0 fun _=>rfl
def JY:Option PC:=cF [6,7,8,9,65,80,100,111] [] Tryz.f99 99 [3,4,5]
def Yd:PT:=
 (.call ⟨[],[(5,(.mk [r2])),(4,(.mk [r1])),(3,(.mk [r0]))]⟩ [] 16 59 [(pc (.mk [r2]) 4),(pi 0),(bm (.llen (pc (.mk [r1]) 15)) (pi 1))]
 (.call ⟨[(17,bT)],[]⟩ [(17,true)] 23 142 [(az 19 o4),(pc o5 4),(pc o5 3)]
 (.chk (.nt (.an (.an (.pick dB gy pF) pT) (.nt (aq (pc o4 15) (pc o5 4)))))
 (.call ⟨[(8,(.pick (.pick dB gy pF) (peq (pc (pn (pc o4 15) (pc o5 4)) 2) (pc o5 1)) pF)),(7,(.pick dB gy pF))],[]⟩ [] 44 59 [(pc o5 2),(pi 0),Ns]
 (.call ⟨[(9,th)],[]⟩ [] 51 59 [(pc o5 1),(pi 0),Ns]
 (.ite (.pick (.nt lF) pT (.pick (aF (pc o5 0) (pi 4)) (aF (pc o5 8) (pi 0)) pF))
 (.ret pF)
 (.blockS ⟨[(64,(pc o5 0))],[]⟩ 0 [6,65,66,80,81,100,101,111,112] []
 (.iteS ⟨[],[]⟩ (.pick (peq mZ (pi 0)) (peq mZ (pi 0)) (.pick (peq mZ (pi 1)) (peq mZ (pi 1)) (peq mZ (pi 2)))) [6,80,81,100,101,111,112] []
 (.ret (.pick (.pick r9 (peq (pc o5 4) (pi (-1))) pF) (peq (pc o5 5) (pi 0)) pF))
 (.iteS ⟨[],[]⟩ (.pick (peq mZ (pi 3)) (peq mZ (pi 3)) (.pick (peq mZ (pi 5)) (peq mZ (pi 5)) (peq mZ (pi 4)))) [6,100,101,111,112] []
 (.call ⟨[(90,(.pick r9 (peq (pc o5 4) (pi (-1))) pF))],[]⟩ [(90,true)] 93 59 [(pc o5 5),(pi 0),zx]
 (.call ⟨[(95,(.pick r90 NV pF))],[]⟩ [(95,true)] 98 59 [(pc o5 8),(pi 0),(pi 1)]
 (.ret (.pick r95 r98 pF))))
 (.iteS ⟨[],[]⟩ (peq mZ (pi 6)) [6,111,112] []
 (.call ⟨[(106,(.pick r9 r8 pF))],[]⟩ [(106,true)] 109 59 [(pc o5 5),(pi 1),zx]
 (.ret (.pick NQ aiX pF)))
 (.ite (peq mZ (pi 9))
 (.ret (.pick (.pick (peq (pc o5 2) (pi (-1))) r8 pF) (peq (pc o5 5) (pi 0)) pF))
 (.next ⟨[],[]⟩))
 (.next ⟨[],[]⟩))
 (.next ⟨[],[]⟩))
 (.next ⟨[],[]⟩))
 (.ret (.pick (.pick (peq (pc o5 2) (pi (-1))) r7 pF) (peq (pc o5 5) (pi 0)) pF)))))))))
theorem agV:JY.map told=some (Yd,[]):=by kernel_rfl
theorem azR:tree (ab JY)=Yd:=aQ agV
def AQ:Option PC:=cF [2,3] [] Tryz.f61 61 [1,4,5,52]
def Qk:Nat→PC:=bo AQ
def auh (b:Nat→PC):PC:=.block 0 [2,9,10] [] (.loop [2,9] [] (b 0))
def N4 (b:Nat→PC):PT:=
 (.ite (ak r9 r8)
 (.blockS ⟨[],[]⟩ 1 [2,3,4,11,12,13,14,15,16,17,18,27,28,33,34,35] [4]
 (.chk (aq r7 r9)
 (.call ⟨[(3,r9)],[(4,(.setc z3 0 (pn r7 r9)))]⟩ [] 16 59 [(pc (.setc z3 0 (pn r7 r9)) 0),(pi 0),(pi 4)]
 (.call ⟨[(18,(.nt bT))],[]⟩ [(18,false)] 25 59 [(pc o4 1),(pi 0),(bm (.llen (pc o1 15)) (pi 1))]
 (.call ⟨[(28,(.pick cv pT (.nt jQ)))],[]⟩ [(28,false)] 31 59 [(pc o4 2),(pi 0),(pi 1)]
 (.ite (.pick pR pT (.nt pS))
 (.ret (pi 1))
 (.ite (peq r3 (pi 0))
 (.exit 1 ⟨[],[]⟩)
 (.chk (aq (pc o1 18) (bm r3 (pi 1)))
 (.call ⟨[],[(5,(.setc z3 0 (pn (pc o1 18) (bm r3 (pi 1)))))]⟩ [] 46 101 [(pc (.setc z3 0 (pn (pc o1 18) (bm r3 (pi 1)))) 1),(pc o4 1)]
 (.call ⟨[],[]⟩ [] 51 101 [(pc o5 0),(pc o4 0)]
 (.call ⟨[],[]⟩ [] 53 100 [(.lst [zJ,lF])]
 (.ite (bk VV (pi 0))
 (.ret (pi 5))
 (.next ⟨[],[]⟩))))))))))))
 (.next ⟨[(9,(aG r9 (pi 1)))],[]⟩))
 (.exit 0 ⟨[(10,(ak r9 r8))],[]⟩))
def Yg (b:Nat→PC):PT:=
 (.brk ⟨[(9,(pi 0)),(8,(.llen (pc (.mk [r0]) 18))),(7,(pc (.mk [r0]) 18)),(2,(pi 0))],[(1,(.mk [r0]))]⟩
(auh b)
 (.ret (pi 0)))
def ao2 (b:Nat→PC):PT×List (Shp×PT):=(Yg b,[(.lp 0 [2,9,10] [] [2,9] [],N4 b)])
theorem Uv:AQ.map told=some (ao2 (bq AQ)):=by kernel_rfl
theorem azU:tree (ab AQ)=Yg Qk:=bG Uv
theorem ajg:round 0 [2,9,10] [] [2,9] [] (Qk 0)=N4 Qk:=bf Uv 0 fun _=>rfl
def JK:Option PC:=cF [4,5,6] [] Tryz.f101 101 []
def XS:PT:=
 (.call ⟨[],[]⟩ [] 8 143 [r0]
 (.call ⟨[(5,r8)],[]⟩ [] 10 143 [r1]
 (.ite r5
 (.ite cV
 (.ret (pi 0))
 (.ret (pi (-1))))
 (.ite cV
 (.ret (pi 1))
 (.ite (ak r0 r1)
 (.ret (pi (-1)))
 (.ite (aR r0 r1)
 (.ret (pi 1))
 (.ret (pi 0))))))))
theorem agG:JK.map told=some (XS,[]):=by kernel_rfl
theorem azv:tree (ab JK)=XS:=aQ agG
def JL:Option PC:=cF [2] [] Tryz.f143 143 []
def XU:PT:=
 (.ret (aF r0 r0))
theorem agH:JL.map told=some (XU,[]):=by kernel_rfl
theorem azx:tree (ab JL)=XU:=aQ agH
def AJ:Option PC:=cF [2,3,5] [] Tryz.f100 100 []
def Qe:Nat→PC:=bo AJ
def at5 (b:Nat→PC):PC:=.block 0 [2,8,9] [] (.loop [2,8] [] (b 0))
def Hg (b:Nat→PC):PT:=
 (.ite (ak r8 r7)
 (.chk (aq r6 r8)
 (.ite (aF (pn r6 r8) r3)
 (.ret (pn r6 r8))
 (.next ⟨[(8,uU)],[]⟩)))
 (.exit 0 ⟨[(9,(ak r8 r7))],[]⟩))
def XT (b:Nat→PC):PT:=
 (.brk ⟨[(8,(pi 0)),(7,(.llen r0)),(6,r0),(3,(pi 0)),(2,(pi 0))],[]⟩
(at5 b)
 (.ret r3))
def aoU (b:Nat→PC):PT×List (Shp×PT):=(XT b,[(.lp 0 [2,8,9] [] [2,8] [],Hg b)])
theorem Up:AJ.map told=some (aoU (bq AJ)):=by kernel_rfl
theorem azw:tree (ab AJ)=XT Qe:=bG Up
theorem V5:round 0 [2,8,9] [] [2,8] [] (Qe 0)=Hg Qe:=bf Up 0 fun _=>rfl
def Ke:Option PC:=cF [2] [] Tryz.f11 11 [1]
def YN:PT:=
 (.ret (.pick (peq (pc (.mk [r0]) 3) (pi 1)) (.pick (peq iZ (pi 1)) pT C1) pF))
theorem ahc:Ke.map told=some (YN,[]):=by kernel_rfl
theorem aAv:tree (ab Ke)=YN:=aQ ahc
def Kg:Option PC:=cF [5,6,7,8] [] Tryz.f13 13 [4]
def YQ:PT:=
 (.ite (peq r1 (pi 0))
 (.ret (.tup [(.mk [(pc No 0),(pc No 1)]),(pi 1)]))
 (.call ⟨[],[(4,z2)]⟩ [] 13 40 [r0]
 (.call ⟨[],[]⟩ [] 15 40 [r1]
 (.call ⟨[(7,cn),(6,cZ)],[]⟩ [] 18 41 [cZ,cn]
 (.chk (aF cv (pi 0))
 (.call ⟨[],[]⟩ [] 32 42 [(.cb .neq (ak r0 (pi 0)) (ak r1 (pi 0))),(.mk [kh,(.ai .quo .u64 r6 cv)]),(.mk [kh,(.ai .quo .u64 r7 cv)])]
 (.ret (.tup [(.mk [(pc (.setc o4 0 (.tget pU 0)) 0),(pc (.setc o4 0 (.tget pU 0)) 1)]),(.tget pU 1)]))))))))
theorem ahf:Kg.map told=some (YQ,[]):=by kernel_rfl
theorem aAy:tree (ab Kg)=YQ:=aQ ahf
end Rm
