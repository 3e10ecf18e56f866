/-
  The functions of this seat, compiled (3).
-/
import Derived.Test.YtibbcfbmjlehcaaGreatDoorBAJ
import Derived.KernelRfl
set_option linter.defProp false
set_option linter.unusedVariables false
set_option maxRecDepth 100000
noncomputable section
namespace Rm
open Go Go.Proofs Cx
def Aw:Option PC:=cF [2,3,5,12,15] [] Tryz.f67 67 []
def PD:Nat->PC:=bn Aw
variable(b:Nat->PC)
def asK:PC:=.block 0 [2,3,8,9] [] (.loop [2,3,8] [] (b 0))
def G9 (b:Nat->PC):PT:=
 (.ite (aj r8 r7)
 (.chk (aq r6 r8)
 (.ite (peq (pn r6 r8) (pi 0))
 (.ret (pi 0))
 (.next ⟨[(3,(.pick (peq (pn r6 r8) (pi 2)) (pi 2) r3)),(8,uZ)],[]⟩)))
 (.exit 0 ⟨[(9,(aj r8 r7))],[]⟩))
def Xh:PT:=
 (.brk ⟨[(8,(pi 0)),(7,(.llen r0)),(6,r0),(3,(pi 1)),(2,(pi 0))],[]⟩
(asK b)
 (.ret r3))
def anT:PT×List (Shp×PT):=(Xh b,[(.lp 0 [2,3,8,9] [] [2,3,8] [],G9 b)])
def TU:Aw.map told=some (anT (bp Aw)):=by kernel_rfl
def axY:tree (ab Aw)=Xh PD:=bF TU
def VC:round 0 [2,3,8,9] [] [2,3,8] [] (PD 0)=G9 PD:=bh TU 0 λ_=>rfl
def Ax:Option PC:=cF [4,5,6,7,10,50,54] [] Tryz.f69 69 [2,9]
def PF:Nat->PC:=bn Ax
def asL:PC:=.block 0 [7,23,24] [] (.loop [7,23] [] (b 0))
def Ha (b:Nat->PC):PT:=
 (.ite (aj gY qg)
 (.chk (aq jh gY)
 (.next ⟨[(7,(.pick r7 pT (aS (pc (.setc z2 0 (pn jh gY)) 0) r1))),(23,(aF gY (pi 1)))],[]⟩))
 (.exit 0 ⟨[(24,(aj gY qg))],[]⟩))
def Xl:PT:=
 (.call ⟨[(5,(pi 0))],[(2,(.mk [r0]))]⟩ [] 14 108 [Vj,r1]
 (.brk ⟨[(23,(pi 0)),(22,(.llen (pc o2 26))),(21,(pc o2 26)),(7,pF),(6,(.llen (pc o2 26))),(5,bX)],[]⟩
(asL b)
 (.ite (.nt r7)
 (.ret (.tup [(pi 0),r5]))
 (.chk (aq (pc o2 26) (bm r6 (pi 1)))
 (.call ⟨[(10,(pc (pn (pc o2 26) (bm r6 (pi 1))) 1))],[]⟩ [] 48 68 [(aA 31 o2),(pi 4),r1]
 (.ite (peq jY (pi 1))
 (.ret (.tup [jY,dw]))
 (.ite (peq jY (pi 2))
 (.ret (.tup [jY,(.mn r5 dw)]))
 (.ret (.tup [jY,r5])))))))))
def anU:PT×List (Shp×PT):=(Xl b,[(.lp 0 [7,23,24] [] [7,23] [],Ha b)])
def TV:Ax.map told=some (anU (bp Ax)):=by kernel_rfl
def ax2:tree (ab Ax)=Xl PF:=bF TV
def VD:round 0 [7,23,24] [] [7,23] [] (PF 0)=Ha PF:=bh TV 0 λ_=>rfl
def AH:Option PC:=cF [4,5] [] Tryz.f108 108 [2,7]
def PN:Nat->PC:=bn AH
def asV:PC:=.block 0 [5,14,15] [] (.loop [5,14] [] (b 0))
def NH (b:Nat->PC):PT:=
 (.ite rP
 (.chk (aq bR bX)
 (.next ⟨[(5,(.pick (bI (pc (.setc z2 0 (pn bR bX)) 0) r1) (pc (.setc z2 0 (pn bR bX)) 1) r5)),(14,(aF bX (pi 1)))],[]⟩))
 (.exit 0 ⟨[(15,rP)],[]⟩))
def XP:PT:=
 (.brk ⟨[(14,(pi 0)),(13,(.llen (pc (.mk [r0]) 16))),(12,(pc (.mk [r0]) 16)),(5,(pc (.mk [r0]) 3))],[]⟩
(asV b)
 (.ret r5))
def an4:PT×List (Shp×PT):=(XP b,[(.lp 0 [5,14,15] [] [5,14] [],NH b)])
def T4:AH.map told=some (an4 (bp AH)):=by kernel_rfl
def ayz:tree (ab AH)=XP PN:=bF T4
def aiu:round 0 [5,14,15] [] [5,14] [] (PN 0)=NH PN:=bh T4 0 λ_=>rfl
def QB:Option PC:=cF [2] [] Tryz.f57 57 [1]
def ayT:PT:=
 (.ret (.pick (aI (pc (.mk [r0]) 3) (pi 1)) pT (.pick (aI lP (pi 1)) (.nt CP) pF)))
def auE:QB.map told=some (ayT,[]):=by kernel_rfl
def Qz:Option PC:=cF [4] [] Tryz.f29 29 [2,3]
def ayN:PT:=
 (.ret (bm wF (pc (.mk [r1]) 5)))
def auC:Qz.map told=some (ayN,[]):=by kernel_rfl
def AO:Option PC:=cF [] [] Tryz.f31 31 [3,6,7,9]
def PW:Nat->PC:=bn AO
def as2:PC:=.block 0 [7,12,13] [7] (.loop [7,12] [7] (b 0))
def NN (b:Nat->PC):PT:=
 (.ite wC
 (.chk (aq dw bR)
 (.ite (bk (pc (.setc CS 0 qf) 5) r2)
 (.chk (aq (pc o3 3) (pc (.setc CS 0 qf) 2))
 (.chk (bI (.llen ahR) cO)
 (.next ⟨[(7,pN),(12,CQ)],[(7,ahR)]⟩)))
 (.next ⟨[(12,CQ)],[]⟩)))
 (.exit 0 ⟨[(13,wC)],[]⟩))
def X3:PT:=
 (.brk ⟨[(12,(pi 0)),(11,(.llen r1)),(10,r1),(7,pN)],[(7,pL),(3,(.mk [r0]))]⟩
(as2 b)
 (.mcall ⟨[],[]⟩ 1000000013 63 [pN,o7]
 (.call ⟨[],[]⟩ [] 34 64 [GN]
 (.ret G3))))
def aob:PT×List (Shp×PT):=(X3 b,[(.lp 0 [7,12,13] [7] [7,12] [7],NN b)])
def Ub:AO.map told=some (aob (bp AO)):=by kernel_rfl
def ayR:tree (ab AO)=X3 PW:=bF Ub
def aiA:round 0 [7,12,13] [7] [7,12] [7] (PW 0)=NN PW:=bh Ub 0 λ_=>rfl
def JW:Option PC:=cF [10,11,12,13,14,33,36,15] [] Tryz.f9 9 [5,7,9]
def X0:PT:=
 (.call ⟨[],[(9,(.mk [r4])),(7,(.mk [r2])),(5,(.mk [r0]))]⟩ [] 22 10 [jU,r1,GS,r3,(.mk [(pc (.mk [r4]) 0),(pc (.mk [r4]) 1)])]
 (.ite (aI (.tget qg 1) (pi 0))
 (.ret (.tup [(pi 0),(.tget qg 1)]))
 (.call ⟨[(12,(.tget qg 0))],[]⟩ [] 32 13 [(aA 8 o5),r1,(aA 19 o7),r3]
 (.ite (peq wI (pi (-1)))
 (.ret (.tup [(pi 0),(pi 4)]))
 (.ite (.pick (aS wI r3) (aS (bm wI r3) (pi 20000)) pF)
 (.ret (.tup [(pi 0),(pi 3)]))
 (.call ⟨[],[]⟩ [] 54 14 [bR,(pc o9 0),(.mx (bm wI r3) (pi 0))]
 (.ite (aI (.tget mq 1) (pi 0))
 (.ret (.tup [(pi 0),(pi 0)]))
 (.ret (.tup [(bm bR (.tget mq 0)),(pi 0)])))))))))
def agv:JW.map told=some (X0,[]):=by kernel_rfl
def ayM:tree (ab JW)=X0:=aU agv
def JH:Option PC:=cF [6,7,8,9,10] [] Tryz.f14 14 []
def XH:PT:=
 (.call ⟨[],[]⟩ [] 12 39 [r0,zt]
 (.call ⟨[(14,(.nt bR))],[]⟩ [(14,false)] 16 39 [r1,(pi 1000)]
 (.call ⟨[(19,(.pick bX pT (.nt bN)))],[]⟩ [(19,false)] 21 39 [r2,(pi 20000)]
 (.ite (.pick jC pT (.nt jh))
 (.ret (.tup [(pi 0),(pi 1)]))
 (.call ⟨[],[]⟩ [] 29 40 [r0,(.ai .mul .i64 r1 r2),(pi 360000)]
 (.ite (.pick (.nt (.tget ml 2)) pT (aS ahM r0))
 (.ret (.tup [(pi 0),(pi 3)]))
 (.ret (.tup [ahM,(pi 0)]))))))))
def agf:JH.map told=some (XH,[]):=by kernel_rfl
def ayr:tree (ab JH)=XH:=aU agf
def JJ:Option PC:=cF [4] [] Tryz.f39 39 []
def XJ:PT:=
 (.ret (.pick (bk r0 (pi 0)) (bI r0 r1) pF))
def agi:JJ.map told=some (XJ,[]):=by kernel_rfl
def ayt:tree (ab JJ)=XJ:=aU agi
def JI:Option PC:=cF [6,7,8,9,10,11,12] [] Tryz.f40 40 []
def XI:PT:=
 (.call ⟨[],[]⟩ [] 18 79 [(.conv .u64 r0),(.conv .u64 r1)]
 (.ite (bk (.tget cf 0) (.conv .u64 r2))
 (.ret (.tup [(pi 0),(pi 0),pF]))
 (.call ⟨[],[]⟩ [] 30 80 [(.tget cf 0),(.tget cf 1),(.conv .u64 r2)]
 (.ite (aS (.tget rR 0) (.con (.v (.int .u64 1099511627776))))
 (.ret (.tup [(pi 0),(pi 0),pF]))
 (.ret (.tup [(.conv .i64 (.tget rR 0)),(.conv .i64 (.tget rR 1)),pT]))))))
def agh:JI.map told=some (XI,[]):=by kernel_rfl
def ays:tree (ab JI)=XI:=aU agh
def Ay:Option PC:=cF [6,7,8,2,9,10,11,12,13,14,15,16,17,18] [] Tryz.f80 80 []
def xO:Nat->PC:=bn Ay
def Gw:PC:=.block 0 [15,16,67,68,69,78] [] (.loop [15,16] [] (b 0))
def Gx:PC:=.block 2 [16,18,102,103,104,113] [] (.loop [16,18] [] (b 1))
def Hb (b:Nat->PC):PT:=
 (.ite Vn
 (.ite (bk CY kY)
 (.exit 0 ⟨[(15,(.ai .sub .u64 de M9)),(16,CY),(67,de),(68,(bk de kY)),(69,(bk de kY)),(78,Vn)],[]⟩)
 (.next ⟨[(15,(.ai .sub .u64 de M9)),(16,CY)],[]⟩))
 (.exit 0 ⟨[(67,de),(68,(bk de kY)),(69,(bk de kY)),(78,Vn)],[]⟩))
def Hc (b:Nat->PC):PT:=
 (.ite Vm
 (.ite (bk CY kY)
 (.exit 2 ⟨[(16,CY),(18,(.ai .sub .u64 cf M9)),(102,cf),(103,(bk cf kY)),(104,(bk cf kY)),(113,Vm)],[]⟩)
 (.next ⟨[(16,CY),(18,(.ai .sub .u64 cf M9))],[]⟩))
 (.exit 2 ⟨[(102,cf),(103,(bk cf kY)),(104,(bk cf kY)),(113,Vm)],[]⟩))
def OE:PT:=
 (.ite (peq r2 (.con (.v (.int .u64 0))))
 (.chk pF
 (.chk (.nt pT)
 (.ite (bI r2 r0)
 (.chk pF
 (.chk (.nt pT)
 (.ite Nq
 (.chk (aI r2 (pi 0))
 (.ret (.tup [(.ai .quo .u64 r1 r2),(.ai .rem .u64 r1 r2)])))
 (.call ⟨[],[]⟩ [] 35 126 [r2]
 (.chk (bk rL (pi 0))
 (.chk CO
 (.chk Nj
 (.chk (aI rO (pi 0))
 (.brk ⟨[(16,Nh),(15,Na),(14,M6),(13,M5),(11,zD),(10,M7),(9,rO),(2,GW),(8,rL)],[]⟩
(Gw b)
 (.chk (aI r9 (pi 0))
 (.brk ⟨[(16,Ni),(18,(.ai .quo .u64 tw r9)),(17,tw)],[]⟩
(Gx b)
 (.chk (bk r8 (pi 0))
 (.ret (.tup [Nn,Nd]))))))))))))))
 (.ite Nq
 (.chk (aI r2 (pi 0))
 (.ret (.tup [(.ai .quo .u64 r1 r2),(.ai .rem .u64 r1 r2)])))
 (.call ⟨[],[]⟩ [] 35 126 [r2]
 (.chk (bk rL (pi 0))
 (.chk CO
 (.chk Nj
 (.chk (aI rO (pi 0))
 (.brk ⟨[(16,Nh),(15,Na),(14,M6),(13,M5),(11,zD),(10,M7),(9,rO),(2,GW),(8,rL)],[]⟩
(Gw b)
 (.chk (aI r9 (pi 0))
 (.brk ⟨[(16,Ni),(18,(.ai .quo .u64 tw r9)),(17,tw)],[]⟩
(Gx b)
 (.chk (bk r8 (pi 0))
 (.ret (.tup [Nn,Nd])))))))))))))))
 (.ite (bI r2 r0)
 (.chk pF
 (.chk (.nt pT)
 (.ite Nq
 (.chk (aI r2 (pi 0))
 (.ret (.tup [(.ai .quo .u64 r1 r2),(.ai .rem .u64 r1 r2)])))
 (.call ⟨[],[]⟩ [] 35 126 [r2]
 (.chk (bk rL (pi 0))
 (.chk CO
 (.chk Nj
 (.chk (aI rO (pi 0))
 (.brk ⟨[(16,Nh),(15,Na),(14,M6),(13,M5),(11,zD),(10,M7),(9,rO),(2,GW),(8,rL)],[]⟩
(Gw b)
 (.chk (aI r9 (pi 0))
 (.brk ⟨[(16,Ni),(18,(.ai .quo .u64 tw r9)),(17,tw)],[]⟩
(Gx b)
 (.chk (bk r8 (pi 0))
 (.ret (.tup [Nn,Nd]))))))))))))))
 (.ite Nq
 (.chk (aI r2 (pi 0))
 (.ret (.tup [(.ai .quo .u64 r1 r2),(.ai .rem .u64 r1 r2)])))
 (.call ⟨[],[]⟩ [] 35 126 [r2]
 (.chk (bk rL (pi 0))
 (.chk CO
 (.chk Nj
 (.chk (aI rO (pi 0))
 (.brk ⟨[(16,Nh),(15,Na),(14,M6),(13,M5),(11,zD),(10,M7),(9,rO),(2,GW),(8,rL)],[]⟩
(Gw b)
 (.chk (aI r9 (pi 0))
 (.brk ⟨[(16,Ni),(18,(.ai .quo .u64 tw r9)),(17,tw)],[]⟩
(Gx b)
 (.chk (bk r8 (pi 0))
 (.ret (.tup [Nn,Nd]))))))))))))))
def anV:PT×List (Shp×PT):=(OE b,[(.lp 0 [15,16,67,68,69,78] [] [15,16] [],Hb b),(.lp 2 [16,18,102,103,104,113] [] [16,18] [],Hc b)])
def Mv:Ay.map told=some (anV (bp Ay)):=by kernel_rfl
def ax3:tree (ab Ay)=OE xO:=bF Mv
def VE:round 0 [15,16,67,68,69,78] [] [15,16] [] (xO 0)=Hb xO:=bh Mv 0 λ_=>rfl
def VF:round 2 [16,18,102,103,104,113] [] [16,18] [] (xO 1)=Hc xO:=bh Mv 1 λ_=>rfl
def Js:Option PC:=cF [2] [] Tryz.f126 126 []
def Xm:PT:=
 (.call ⟨[],[]⟩ [] 4 104 [r0]
 (.ret (bm (pi 64) r4)))
def afW:Js.map told=some (Xm,[]):=by kernel_rfl
def ax4:tree (ab Js)=Xm:=aU afW
def Jt:Option PC:=cF [2,0] [] Tryz.f104 104 []
def Xn:PT:=
 (.ite (bk r0 kY)
 (.chk CO
 (.ite (bk uY (.con (.v (.int .u64 65536))))
 (.chk (bk Nf (pi 0))
 (.ite (bk G0 M4)
 (.chk (bk qd (pi 0))
 (.chk (.sok kZ (.conv .u8 (.ai .shr .u64 G0 qd)))
 (.ret (aF (aF (aF (pi 32) (pi 16)) (pi 8)) (.conv .i64 (.sidx kZ (.conv .u8 (.ai .shr .u64 G0 qd))))))))
 (.chk (.sok kZ (.conv .u8 G0))
 (.ret (aF (aF (pi 32) (pi 16)) (.conv .i64 (.sidx kZ (.conv .u8 G0))))))))
 (.ite (bk uY M4)
 (.chk (bk qd (pi 0))
 (.chk (.sok kZ (.conv .u8 (.ai .shr .u64 uY qd)))
 (.ret (aF (aF (pi 32) (pi 8)) (.conv .i64 (.sidx kZ (.conv .u8 (.ai .shr .u64 uY qd))))))))
 (.chk (.sok kZ (.conv .u8 uY))
 (.ret (aF (pi 32) (.conv .i64 (.sidx kZ (.conv .u8 uY)))))))))
 (.ite (bk r0 (.con (.v (.int .u64 65536))))
 (.chk (bk Nf (pi 0))
 (.ite (bk GR M4)
 (.chk (bk qd (pi 0))
 (.chk (.sok kZ (.conv .u8 (.ai .shr .u64 GR qd)))
 (.ret (aF (aF (aF (pi 0) (pi 16)) (pi 8)) (.conv .i64 (.sidx kZ (.conv .u8 (.ai .shr .u64 GR qd))))))))
 (.chk (.sok kZ (.conv .u8 GR))
 (.ret (aF (aF (pi 0) (pi 16)) (.conv .i64 (.sidx kZ (.conv .u8 GR))))))))
 (.ite (bk r0 M4)
 (.chk (bk qd (pi 0))
 (.chk (.sok kZ (.conv .u8 (.ai .shr .u64 r0 qd)))
 (.ret (aF (aF (pi 0) (pi 8)) (.conv .i64 (.sidx kZ (.conv .u8 (.ai .shr .u64 r0 qd))))))))
 (.chk (.sok kZ (.conv .u8 r0))
 (.ret (aF (pi 0) (.conv .i64 (.sidx kZ (.conv .u8 r0)))))))))
def afX:Jt.map told=some (Xn,[]):=by kernel_rfl
def ax5:tree (ab Jt)=Xn:=aU afX
def JV:Option PC:=cF [10] [] Tryz.f21 21 [5,7,20,22]
def XZ:PT:=
 (.call ⟨[],[(7,(.mk [r2])),(5,(.mk [r0]))]⟩ [] 13 26 [jU,r1]
 (.ite (.nt dx)
 (.ret pL)
 (.call ⟨[(15,(aA 8 o5))],[]⟩ [] 20 27 [(aA 8 o5),r1,(aA 19 o7),r3]
 (.call ⟨[],[]⟩ [] 22 31 [de,fe,r4]
 (.ret qg)))))
def agu:JV.map told=some (XZ,[]):=by kernel_rfl
def ayL:tree (ab JV)=XZ:=aU agu
def A0:Option PC:=cF [4,5] [] Tryz.f20 20 []
def P2:Nat->PC:=bn A0
def atk:PC:=.block 0 [4,5,11,12,13,14] [] (.loop [4,5] [] (b 0))
def NQ (b:Nat->PC):PT:=
 (.ite (aj r5 (.llen r0))
 (.chk (aq r0 r5)
 (.chk (aq r1 r5)
 (.ite (aI (pn r0 r5) (pn r1 r5))
 (.ret pF)
 (.next ⟨[(5,zy)],[]⟩))))
 (.exit 0 ⟨[(11,r5),(12,r0),(13,(.llen r0)),(14,(aj r5 (.llen r0)))],[]⟩))
def Yn:PT:=
 (.ite (aI (.llen r0) (.llen r1))
 (.ret pF)
 (.brk ⟨[(5,(pi 0)),(4,pF)],[]⟩
(atk b)
 (.ret pT)))
def aon:PT×List (Shp×PT):=(Yn b,[(.lp 0 [4,5,11,12,13,14] [] [4,5] [],NQ b)])
def Uh:A0.map told=some (aon (bp A0)):=by kernel_rfl
def azc:tree (ab A0)=Yn P2:=bF Uh
def aiB:round 0 [4,5,11,12,13,14] [] [4,5] [] (P2 0)=NQ P2:=bh Uh 0 λ_=>rfl
def Ew:Option PC:=cF [6] [] Tryz.f7 7 [3,4,5]
def XD:PT:=
 (.call ⟨[(11,(bI (.llen (pc (.mk [r2]) 1)) (pi 20)))],[(4,(.mk [r1])),(3,(.mk [r0]))]⟩ [(11,true)] 14 22 [jU,(aA 19 (.mk [r1]))]
 (.call ⟨[(16,(.pick bK bX pF))],[]⟩ [(16,true)] 18 23 [(aA 8 o3)]
 (.call ⟨[(21,(.pick bN (peq cf (pi 0)) pF))],[]⟩ [(21,true)] 24 24 [(aA 8 o3),(aA 19 o4)]
 (.ret (.pick jh (peq ji (pi 0)) pF)))))
def agc:Ew.map told=some (XD,[]):=by kernel_rfl
def ayn:tree (ab Ew)=XD:=aU agc
def A2:Option PC:=cF [4,5] [] Tryz.f22 22 [2,3]
def P5:Nat->PC:=bn A2
def atn:PC:=.block 0 [4,5,14,15,16,17,18] [] (.loop [4,5] [] (b 0))
def Hz (b:Nat->PC):PT:=
 (.ite (aj r5 (.llen (pc o2 4)))
 (.blockS ⟨[],[]⟩ 1 [4,21,22,23,24,25,26,27] []
 (.chk (aq (pc o2 4) r5)
 (.call ⟨[],[]⟩ [] 26 45 [(pn (pc o2 4) r5)]
 (.ite (.nt mj)
 (.ret pF)
 (.next ⟨[],[]⟩))))
 (.next ⟨[(5,zy)],[]⟩))
 (.exit 0 ⟨[(14,r5),(15,pN),(16,(pc o2 4)),(17,(.llen (pc o2 4))),(18,(aj r5 (.llen (pc o2 4))))],[]⟩))
def Yp:PT:=
 (.call ⟨[(4,pF)],[(3,(.mk [r1])),(2,(.mk [r0]))]⟩ [] 7 43 [jU]
 (.call ⟨[(9,(.nt r7))],[]⟩ [(9,false)] 11 44 [(aA 19 o3)]
 (.ite (.pick r9 pT (.nt bK))
 (.ret pF)
 (.brk ⟨[(5,(pi 0))],[]⟩
(atn b)
 (.ret pT)))))
def aoq:PT×List (Shp×PT):=(Yp b,[(.lp 0 [4,5,14,15,16,17,18] [] [4,5] [],Hz b)])
def Uk:A2.map told=some (aoq (bp A2)):=by kernel_rfl
def aze:tree (ab A2)=Yp P5:=bF Uk
def V3:round 0 [4,5,14,15,16,17,18] [] [4,5] [] (P5 0)=Hz P5:=bh Uk 0 λ_=>rfl
def AQ:Option PC:=cF [2,3,4] [] Tryz.f43 43 [1]
def D7:Nat->PC:=bn AQ
def as4:PC:=.block 0 [2,3,5,6,7,8,9,10,13] [] (.loop [2,3] [] (b 0))
def as5:PC:=.block 2 [2,4,44,45,46,47,48,49,52] [] (.loop [2,4] [] (b 1))
def zI (b:Nat->PC):PT:=
 (.ite (.pick (aj r3 mf) (aj r3 (pi 50)) pF)
 (.chk (aq (pc o1 1) r3)
 (.chk (.nt (.an (.an (.nt (aS (.llen (pc (pn (pc o1 1) r3) 4)) (pi 70))) pT) (.nt (aq (pc o1 1) r3))))
 (.chk (.nt (.an (.an (.nt ah3) pT) (.nt (aq (pc o1 1) r3))))
 (.ite (.pick ah3 pT (aS (.llen (pc (pn (pc o1 1) r3) 3)) (pi 8)))
 (.ret pF)
 (.next ⟨[(3,wH)],[]⟩)))))
 (.exit 0 ⟨[(5,r3),(6,pN),(7,(pc o1 1)),(8,mf),(9,(aj r3 mf)),(10,(aj r3 mf)),(13,(.pick (aj r3 mf) (aj r3 (pi 50)) pF))],[]⟩))
def C6 (b:Nat->PC):PT:=
 (.ite (.pick (aj r4 qe) (aj r4 (pi 50)) pF)
 (.chk (aq (pc o1 4) r4)
 (.chk (.nt (.an (.an (.nt (aS (.llen (pc zu 2)) (pi 40))) pT) (.nt (aq (pc o1 4) r4))))
 (.ite (.pick (aS (.llen (pc zu 2)) (pi 40)) pT (aS (.llen (pc zu 3)) (pi 40)))
 (.ret pF)
 (.next ⟨[(4,(aF r4 (pi 1)))],[]⟩))))
 (.exit 2 ⟨[(44,r4),(45,pN),(46,(pc o1 4)),(47,qe),(48,(aj r4 qe)),(49,(aj r4 qe)),(52,(.pick (aj r4 qe) (aj r4 (pi 50)) pF))],[]⟩))
def X8:PT:=
 (.brk ⟨[(3,(pi 0)),(2,pF)],[(1,(.mk [r0]))]⟩
(as4 b)
 (.brk ⟨[(4,(pi 0))],[]⟩
(as5 b)
 (.ret (.pick (.pick (.pick (.pick (.pick (.pick (.pick (aj wG (pi 50)) (aj mf (pi 50)) pF) (aj tz (pi 50)) pF) (aj oN (pi 210)) pF) (aj qe (pi 50)) pF) (aj CR (pi 110)) pF) (aj (.llen (pc o1 6)) (pi 110)) pF) (aj zx (pi 50)) pF))))
def aod:PT×List (Shp×PT):=(X8 b,[(.lp 0 [2,3,5,6,7,8,9,10,13] [] [2,3] [],zI b),(.lp 2 [2,4,44,45,46,47,48,49,52] [] [2,4] [],C6 b)])
def My:AQ.map told=some (aod (bp AQ)):=by kernel_rfl
def ayX:tree (ab AQ)=X8 D7:=bF My
def Hj:round 0 [2,3,5,6,7,8,9,10,13] [] [2,3] [] (D7 0)=zI D7:=bh My 0 λ_=>rfl
def NO:round 2 [2,4,44,45,46,47,48,49,52] [] [2,4] [] (D7 1)=C6 D7:=bh My 1 λ_=>rfl
def J3:Option PC:=cF [2] [] Tryz.f44 44 [1]
def Yl:PT:=
 (.ret (.pick (.pick (.pick (bI (.llen rM) (pi 50)) (bI (.llen (pc (.mk [r0]) 16)) (pi 10)) pF) (bI (.llen (pc (.mk [r0]) 17)) (pi 110)) pF) (bI (.llen (pc (.mk [r0]) 18)) (pi 220)) pF))
def agD:J3.map told=some (Yl,[]):=by kernel_rfl
def aza:tree (ab J3)=Yl:=aU agD
def A1:Option PC:=cF [2,3] [] Tryz.f45 45 [1]
def P4:Nat->PC:=bn A1
def atm:PC:=.block 0 [2,3,14,15,16,17,18] [] (.loop [2,3] [] (b 0))
def Hy (b:Nat->PC):PT:=
 (.ite (aj r3 oN)
 (.blockS ⟨[],[]⟩ 1 [2,21,22,23,24,25,26,27,28] []
 (.chk (aq (pc o1 3) r3)
 (.call ⟨[],[]⟩ [] 27 82 [(.sub (pn (pc o1 3) r3) 1 3)]
 (.ite (.nt eF)
 (.ret pF)
 (.next ⟨[],[]⟩))))
 (.next ⟨[(3,wH)],[]⟩))
 (.exit 0 ⟨[(14,r3),(15,pN),(16,(pc o1 3)),(17,oN),(18,(aj r3 oN))],[]⟩))
def Yo:PT:=
 (.ite (.pick (aS (.llen (pc (.mk [r0]) 3)) (pi 60)) pT (aS rQ (pi 60)))
 (.ret pF)
 (.brk ⟨[(3,(pi 0)),(2,pF)],[(1,(.mk [r0]))]⟩
(atm b)
 (.ret pT)))
def aop:PT×List (Shp×PT):=(Yo b,[(.lp 0 [2,3,14,15,16,17,18] [] [2,3] [],Hy b)])
def Uj:A1.map told=some (aop (bp A1)):=by kernel_rfl
def azd:tree (ab A1)=Yo P4:=bF Uj
def V2:round 0 [2,3,14,15,16,17,18] [] [2,3] [] (P4 0)=Hy P4:=bh Uj 0 λ_=>rfl
def J4:Option PC:=cF [2] [] Tryz.f82 82 [1]
def Ym:PT:=
 (.call ⟨[],[]⟩ [] 4 127 [(.mk [jV,lP,zC]),(pi 100),(pi 20)]
 (.ret (bk r4 (pi 0))))
def agF:J4.map told=some (Ym,[]):=by kernel_rfl
def azb:tree (ab J4)=Ym:=aU agF
def xW:Option PC:=cF [6,1,7] [] Tryz.f127 127 [3]
def P3:Nat->PC:=bn xW
def atl:PC:=.block 0 [1,7,12,13,14,15,16,17,20] [] (.loop [1,7] [] (b 0))
def Hx (b:Nat->PC):PT:=
 (.ite (.pick (aj r7 nk) (bk r1 (pi 0)) pF)
 (.blockS ⟨[],[]⟩ 1 [1,23,24,25,26,27,28,29,30,31] []
 (.chk (aq (pc o3 2) r7)
 (.call ⟨[],[]⟩ [] 31 127 [(pn (pc o3 2) r7),r1,(bm r2 (pi 1))]
 (.next ⟨[(1,rS)],[]⟩)))
 (.next ⟨[(7,(aF r7 (pi 1)))],[]⟩))
 (.exit 0 ⟨[(12,r7),(13,pN),(14,(pc o3 2)),(15,nk),(16,(aj r7 nk)),(17,(aj r7 nk)),(20,(.pick (aj r7 nk) (bk r1 (pi 0)) pF))],[]⟩))
def OL:PT:=
 (.ite (aj r2 (pi 1))
 (.ret (pi (-1)))
 (.brk ⟨[(7,(pi 0)),(1,(bm r1 (pi 1)))],[(3,(.mk [r0]))]⟩
(atl b)
 (.ret r1)))
def aoo:PT×List (Shp×PT):=(OL b,[(.lp 0 [1,7,12,13,14,15,16,17,20] [] [1,7] [],Hx b)])
def Ui:xW.map told=some (aoo (bp xW)):=by kernel_rfl
def ajy:tree (ab xW)=OL P3:=bF Ui
def V1:round 0 [1,7,12,13,14,15,16,17,20] [] [1,7] [] (P3 0)=Hx P3:=bh Ui 0 λ_=>rfl
def JZ:Option PC:=cF [2,3] [] Tryz.f23 23 [1]
def X7:PT:=
 (.call ⟨[],[(1,(.mk [r0]))]⟩ [] 5 46 [jU]
 (.iteS ⟨[(3,r5)],[]⟩ (peq r5 (pi 0)) [3] []
 (.call ⟨[],[]⟩ [] 9 47 [(aA 8 o1)]
 (.next ⟨[(3,r9)],[]⟩))
 (.next ⟨[],[]⟩)
 (.iteS ⟨[],[]⟩ (peq r3 (pi 0)) [3] []
 (.call ⟨[],[]⟩ [] 13 48 [(aA 8 o1)]
 (.next ⟨[(3,dx)],[]⟩))
 (.next ⟨[],[]⟩)
 (.iteS ⟨[],[]⟩ (peq r3 (pi 0)) [3] []
 (.call ⟨[],[]⟩ [] 17 49 [(aA 8 o1)]
 (.next ⟨[(3,jW)],[]⟩))
 (.next ⟨[],[]⟩)
 (.iteS ⟨[],[]⟩ (peq r3 (pi 0)) [3] []
 (.call ⟨[],[]⟩ [] 21 50 [(aA 8 o1)]
 (.next ⟨[(3,jh)],[]⟩))
 (.next ⟨[],[]⟩)
 (.ret r3))))))
def agy:JZ.map told=some (X7,[]):=by kernel_rfl
def ayW:tree (ab JZ)=X7:=aU agy
def AV:Option PC:=cF [2,3,4,6,7] [] Tryz.f46 46 [1,5,44]
def D9:Nat->PC:=bn AV
def atb:PC:=.block 0 [2,3,12,13,14,15,16] [] (.loop [2,3] [] (b 0))
def atc:PC:=.block 2 [2,5,6,30,31,32,33,34] [5] (.loop [2,5,6] [5] (b 1))
def Hp (b:Nat->PC):PT:=
 (.ite (aj r3 wG)
 (.blockS ⟨[],[]⟩ 1 [2,4,19,20,21,22,23,24] []
 (.call ⟨[],[]⟩ [] 22 83 [(pc o1 0),r3]
 (.ite (aI qg (pi 0))
 (.ret qg)
 (.next ⟨[],[]⟩)))
 (.next ⟨[(3,wH)],[]⟩))
 (.exit 0 ⟨[(12,r3),(13,pN),(14,(pc o1 0)),(15,wG),(16,(aj r3 wG))],[]⟩))
def Hq (b:Nat->PC):PT:=
 (.ite (aj r6 mf)
 (.blockS ⟨[],[]⟩ 3 [2,5,7,38,39,40,41,42,43,44,45,46,47,48,49,50,52,53,54,55,56,57,58,59] [44,5]
 (.chk (aq (pc o1 1) r6)
 (.chk (bI (.llen Vd) cO)
 (.call ⟨[(5,pN)],[(5,Vd)]⟩ [] 48 83 [Vd,r6]
 (.ite (aI jY (pi 0))
 (.ret jY)
 (.chk (aq (pc o1 1) r6)
 (.call ⟨[],[]⟩ [] 58 84 [(aA 8 o1),(pn (pc o1 1) r6)]
 (.ite (.nt G4)
 (.ret (pi 1))
 (.next ⟨[],[]⟩))))))))
 (.next ⟨[(6,(aF r6 (pi 1)))],[]⟩))
 (.exit 2 ⟨[(30,r6),(31,pN),(32,(pc o1 1)),(33,mf),(34,(aj r6 mf))],[]⟩))
def Yf:PT:=
 (.ite (aS (.llen jV) (pi 8))
 (.ret (pi 6))
 (.brk ⟨[(3,(pi 0)),(2,(pi 0))],[(1,(.mk [r0]))]⟩
(atb b)
 (.ite (aS mf (pi 40))
 (.ret (pi 6))
 (.brk ⟨[(6,(pi 0)),(5,pN)],[(5,pL)]⟩
(atc b)
 (.ret (pi 0))))))
def aoi:PT×List (Shp×PT):=(Yf b,[(.lp 0 [2,3,12,13,14,15,16] [] [2,3] [],Hp b),(.lp 2 [2,5,6,30,31,32,33,34] [5] [2,5,6] [5],Hq b)])
def MA:AV.map told=some (aoi (bp AV)):=by kernel_rfl
def ay4:tree (ab AV)=Yf D9:=bF MA
def VT:round 0 [2,3,12,13,14,15,16] [] [2,3] [] (D9 0)=Hp D9:=bh MA 0 λ_=>rfl
def VU:round 2 [2,5,6,30,31,32,33,34] [5] [2,5,6] [5] (D9 1)=Hq D9:=bh MA 1 λ_=>rfl
def J2:Option PC:=cF [4] [] Tryz.f83 83 []
def Yh:PT:=
 (.chk (aq r0 r1)
 (.call ⟨[],[]⟩ [] 9 128 [(pn r0 r1)]
 (.ite (.nt r9)
 (.ret (pi 2))
 (.chk (aq r0 r1)
 (.call ⟨[],[]⟩ [] 17 129 [r0,r1,(pn r0 r1)]
 (.ite jW
 (.ret (pi 5))
 (.ret (pi 0))))))))
def agC:J2.map told=some (Yh,[]):=by kernel_rfl
def ay6:tree (ab J2)=Yh:=aU agC
def AR:Option PC:=cF [2,3,4] [] Tryz.f128 128 []
def PY:Nat->PC:=bn AR
def as6:PC:=.block 0 [2,3,13,14,15,16] [] (.loop [2,3] [] (b 0))
def Hk (b:Nat->PC):PT:=
 (.ite (aj r3 (.slen r0))
 (.blockS ⟨[],[]⟩ 1 [2,4,19,20,21,22,23,34,35,36,37,38,39,40,47] []
 (.chk (.sok r0 r3)
 (.chk (.nt (.an (.an (.nt Vc) pT) (.nt (.sok r0 r3))))
 (.chk (.nt (.an (.an (bI (.con (.v (.int .u8 48))) (.sidx r0 r3)) (.an (.nt Vc) pT)) (.nt (.sok r0 r3))))
 (.call ⟨[(4,(.pick Vc pT (.pick (bI (.con (.v (.int .u8 48))) (.sidx r0 r3)) (bI (.sidx r0 r3) (.con (.v (.int .u8 57)))) pF)))],[]⟩ [] 38 167 [(.sidx r0 r3)]
 (.ite (.pick (.nt jD) (.pick (peq r3 (pi 0)) pT (.nt r4)) pF)
 (.ret pF)
 (.next ⟨[],[]⟩))))))
 (.next ⟨[(3,wH)],[]⟩))
 (.exit 0 ⟨[(13,r3),(14,r0),(15,(.slen r0)),(16,(aj r3 (.slen r0)))],[]⟩))
def Ya:PT:=
 (.ite (.pick (aj (.slen r0) (pi 1)) pT (aS (.slen r0) (pi 20)))
 (.ret pF)
 (.brk ⟨[(3,(pi 0)),(2,pF)],[]⟩
(as6 b)
 (.ret pT)))
def aoe:PT×List (Shp×PT):=(Ya b,[(.lp 0 [2,3,13,14,15,16] [] [2,3] [],Hk b)])
def Ud:AR.map told=some (aoe (bp AR)):=by kernel_rfl
def ayZ:tree (ab AR)=Ya PY:=bF Ud
def VO:round 0 [2,3,13,14,15,16] [] [2,3] [] (PY 0)=Hk PY:=bh Ud 0 λ_=>rfl
def J0:Option PC:=cF [2] [] Tryz.f167 167 []
def X9:PT:=
 (.ret (.pick (.pick (bI (.con (.v (.int .u8 97))) r0) (bI r0 (.con (.v (.int .u8 122)))) pF) pT (.pick (bI (.con (.v (.int .u8 65))) r0) (bI r0 (.con (.v (.int .u8 90)))) pF)))
def agz:J0.map told=some (X9,[]):=by kernel_rfl
def ayY:tree (ab J0)=X9:=aU agz
def AP:Option PC:=cF [6,7] [] Tryz.f129 129 []
def PX:Nat->PC:=bn AP
def as3:PC:=.block 0 [6,7,8,9,10,11,16] [] (.loop [6,7] [] (b 0))
def Hi (b:Nat->PC):PT:=
 (.ite (.pick (aj r7 r1) (aj r7 (.llen r0)) pF)
 (.chk (aq r0 r7)
 (.ite (.cs .eql (pn r0 r7) r2)
 (.ret pT)
 (.next ⟨[(7,(aF r7 (pi 1)))],[]⟩)))
 (.exit 0 ⟨[(8,r7),(9,r1),(10,(aj r7 r1)),(11,(aj r7 r1)),(16,(.pick (aj r7 r1) (aj r7 (.llen r0)) pF))],[]⟩))
def X6:PT:=
 (.brk ⟨[(7,(pi 0)),(6,pF)],[]⟩
(as3 b)
 (.ret pF))
def aoc:PT×List (Shp×PT):=(X6 b,[(.lp 0 [6,7,8,9,10,11,16] [] [6,7] [],Hi b)])
def Uc:AP.map told=some (aoc (bp AP)):=by kernel_rfl
def ayV:tree (ab AP)=X6 PX:=bF Uc
def VN:round 0 [6,7,8,9,10,11,16] [] [6,7] [] (PX 0)=Hi PX:=bh Uc 0 λ_=>rfl
def AS:Option PC:=cF [4,5] [] Tryz.f84 84 [2,3]
def PZ:Nat->PC:=bn AS
def as7:PC:=.block 0 [4,5,36,37,38,39,40] [] (.loop [4,5] [] (b 0))
def Hl (b:Nat->PC):PT:=
 (.ite (aj r5 (.llen (pc o3 4)))
 (.blockS ⟨[],[]⟩ 1 [4,43,44,45,46,47,48,49,50,51,60] []
 (.chk (aq (pc o3 4) r5)
 (.chk CN
 (.call ⟨[],[]⟩ [] 49 85 [(.ai .quo .i64 (pn (pc o3 4) r5) (pi 100)),(pi 1),(pi 12)]
 (.chk (.nt (.an (.an (.nt (.nt oO)) pT) (.nt (aq (pc o3 4) r5))))
 (.chk (.nt (.an (.an (.nt (.nt oO)) pT) (.nt CN)))
 (.call ⟨[(51,(.nt oO))],[]⟩ [(51,false)] 58 85 [(.ai .rem .i64 (pn (pc o3 4) r5) (pi 100)),(pi 1),(pi 31)]
 (.ite (.pick kA pT (.nt G4))
 (.ret pF)
 (.next ⟨[],[]⟩))))))))
 (.next ⟨[(5,zy)],[]⟩))
 (.exit 0 ⟨[(36,r5),(37,pN),(38,(pc o3 4)),(39,(.llen (pc o3 4))),(40,(aj r5 (.llen (pc o3 4))))],[]⟩))
def Yb:PT:=
 (.call ⟨[(4,pF)],[(3,(.mk [r1])),(2,(.mk [r0]))]⟩ [] 12 85 [(pc (.mk [r1]) 1),(pi 0),(bm GP (pi 1))]
 (.call ⟨[(14,(.nt bR))],[]⟩ [(14,false)] 21 85 [(pc o3 2),(pi 0),(bm (.llen (pc o2 0)) (pi 1))]
 (.ite (.pick (.pick (.pick bX pT (.nt jh)) pT (aS (.llen (pc o3 4)) (pi 60))) pT (aS (.llen (pc o3 5)) (pi 200)))
 (.ret pF)
 (.brk ⟨[(5,(pi 0))],[]⟩
(as7 b)
 (.call ⟨[],[]⟩ [] 63 130 [(pc o3 3),(pi 0),(pi 6)]
 (.call ⟨[(64,Nw)],[]⟩ [(64,true)] 67 130 [(pc o3 4),(pi 0),(pi 2000)]
 (.call ⟨[(69,(.pick nm wK pF))],[]⟩ [(69,true)] 72 130 [(pc o3 5),(pi 0),(pi 100000)]
 (.ret (.pick zE G7 pF)))))))))
def aof:PT×List (Shp×PT):=(Yb b,[(.lp 0 [4,5,36,37,38,39,40] [] [4,5] [],Hl b)])
def Ue:AS.map told=some (aof (bp AS)):=by kernel_rfl
def ay0:tree (ab AS)=Yb PZ:=bF Ue
def VP:round 0 [4,5,36,37,38,39,40] [] [4,5] [] (PZ 0)=Hl PZ:=bh Ue 0 λ_=>rfl
def J1:Option PC:=cF [6] [] Tryz.f85 85 []
def Ye:PT:=
 (.ret (.pick (bI r1 r0) (bI r0 r2) pF))
def agA:J1.map told=some (Ye,[]):=by kernel_rfl
def ay3:tree (ab J1)=Ye:=aU agA
def AU:Option PC:=cF [6,7] [] Tryz.f130 130 []
def P0:Nat->PC:=bn AU
def ata:PC:=.block 0 [6,7,8,9,10,11] [] (.loop [6,7] [] (b 0))
def Ho (b:Nat->PC):PT:=
 (.ite (aj r7 (.llen r0))
 (.blockS ⟨[],[]⟩ 1 [6,14,15,16,17,18,19,20,21,22,23,24,35] []
 (.chk (aq r0 r7)
 (.call ⟨[],[]⟩ [] 20 85 [(pn r0 r7),r1,r2]
 (.ite (.nt fe)
 (.ret pF)
 (.chk (.nt (.an (.an (aS r7 (pi 0)) pT) (.nt (aq r0 (bm r7 (pi 1))))))
 (.chk (.nt (.an (.an (aS r7 (pi 0)) pT) (.nt (aq r0 r7))))
 (.ite (.pick (aS r7 (pi 0)) (bk (pn r0 (bm r7 (pi 1))) (pn r0 r7)) pF)
 (.ret pF)
 (.next ⟨[],[]⟩)))))))
 (.next ⟨[(7,(aF r7 (pi 1)))],[]⟩))
 (.exit 0 ⟨[(8,r7),(9,r0),(10,(.llen r0)),(11,(aj r7 (.llen r0)))],[]⟩))
def Yd:PT:=
 (.brk ⟨[(7,(pi 0)),(6,pF)],[]⟩
(ata b)
 (.ret pT))
def aoh:PT×List (Shp×PT):=(Yd b,[(.lp 0 [6,7,8,9,10,11] [] [6,7] [],Ho b)])
def Uf:AU.map told=some (aoh (bp AU)):=by kernel_rfl
def ay2:tree (ab AU)=Yd P0:=bF Uf
def VS:round 0 [6,7,8,9,10,11] [] [6,7] [] (P0 0)=Ho P0:=bh Uf 0 λ_=>rfl
def AW:Option PC:=cF [2,3,5,6] [] Tryz.f47 47 [1,4,44]
def Ea:Nat->PC:=bn AW
def atd:PC:=.block 0 [2,3,11,12,13,14,15] [] (.loop [2,3] [] (b 0))
def ate:PC:=.block 2 [2,4,5,30,31,32,33,34] [4] (.loop [2,4,5] [4] (b 1))
def Hr (b:Nat->PC):PT:=
 (.ite (aj r3 tz)
 (.blockS ⟨[],[]⟩ 1 [2,18,19,20,21,22,23,24,25] []
 (.chk (aq (pc o1 2) r3)
 (.call ⟨[],[]⟩ [] 24 85 [(pc (pn (pc o1 2) r3) 0),(pi 0),(pi 9)]
 (.ite (.nt ji)
 (.ret (pi 1))
 (.next ⟨[],[]⟩))))
 (.next ⟨[(3,wH)],[]⟩))
 (.exit 0 ⟨[(11,r3),(12,pN),(13,(pc o1 2)),(14,tz),(15,(aj r3 tz))],[]⟩))
def Hs (b:Nat->PC):PT:=
 (.ite (aj r5 oN)
 (.blockS ⟨[],[]⟩ 3 [2,4,6,38,39,40,41,42,43,44,45,46,47,48,49,50,52,53,54,55,56,57,58,59,60,61,62,63,64,77] [44,4]
 (.chk (aq (pc o1 3) r5)
 (.chk (bI (.llen Ve) cO)
 (.call ⟨[(4,pN)],[(4,Ve)]⟩ [] 48 83 [Ve,r5]
 (.ite (aI jY (pi 0))
 (.ret jY)
 (.chk (aq (pc o1 3) r5)
 (.call ⟨[],[]⟩ [] 62 85 [(pc (pn (pc o1 3) r5) 1),(pi 0),(bm mf (pi 1))]
 (.chk (.nt (.an (.an (.nt (.nt oP)) pT) (.nt (aq (pc o1 3) r5))))
 (.call ⟨[(64,(.nt oP))],[]⟩ [(64,false)] 75 85 [(pc (pn (pc o1 3) r5) 2),(pi 0),(bm tz (pi 1))]
 (.ite (.pick nm pT (.nt Vx))
 (.ret (pi 1))
 (.next ⟨[],[]⟩))))))))))
 (.next ⟨[(5,zy)],[]⟩))
 (.exit 2 ⟨[(30,r5),(31,pN),(32,(pc o1 3)),(33,oN),(34,(aj r5 oN))],[]⟩))
def Yg:PT:=
 (.ite (aS rQ (pi 20))
 (.ret (pi 6))
 (.brk ⟨[(3,(pi 0)),(2,(pi 0))],[(1,(.mk [r0]))]⟩
(atd b)
 (.ite (aS oN (pi 200))
 (.ret (pi 6))
 (.brk ⟨[(5,(pi 0)),(4,pN)],[(4,pL)]⟩
(ate b)
 (.ret (pi 0))))))
def aoj:PT×List (Shp×PT):=(Yg b,[(.lp 0 [2,3,11,12,13,14,15] [] [2,3] [],Hr b),(.lp 2 [2,4,5,30,31,32,33,34] [4] [2,4,5] [4],Hs b)])
def MB:AW.map told=some (aoj (bp AW)):=by kernel_rfl
def ay5:tree (ab AW)=Yg Ea:=bF MB
def VV:round 0 [2,3,11,12,13,14,15] [] [2,3] [] (Ea 0)=Hr Ea:=bh MB 0 λ_=>rfl
def VW:round 2 [2,4,5,30,31,32,33,34] [4] [2,4,5] [4] (Ea 1)=Hs Ea:=bh MB 1 λ_=>rfl
def AX:Option PC:=cF [2,4,5] [] Tryz.f48 48 [1,3,24]
def P1:Nat->PC:=bn AX
def atf:PC:=.block 0 [2,3,4,10,11,12,13,14] [3] (.loop [2,3,4] [3] (b 0))
def Ht (b:Nat->PC):PT:=
 (.ite (aj r4 qe)
 (.blockS ⟨[],[]⟩ 1 [2,3,5,18,19,20,21,22,23,24,25,26,27,28,29,30,32,33,34,35,36,37,38] [24,3]
 (.chk (aq (pc o1 4) r4)
 (.chk (bI (.llen (.app o3 (.lst [(pc zu 0)]))) cO)
 (.call ⟨[(3,pN)],[(3,(.app o3 (.lst [(pc zu 0)])))]⟩ [] 28 83 [(.app o3 (.lst [(pc zu 0)])),r4]
 (.ite (aI tA (pi 0))
 (.ret tA)
 (.chk (aq (pc o1 4) r4)
 (.call ⟨[],[]⟩ [] 37 86 [zu]
 (.ite (.nt mm)
 (.ret (pi 1))
 (.next ⟨[],[]⟩))))))))
 (.next ⟨[(4,(aF r4 (pi 1)))],[]⟩))
 (.exit 0 ⟨[(10,r4),(11,pN),(12,(pc o1 4)),(13,qe),(14,(aj r4 qe))],[]⟩))
def Yi:PT:=
 (.ite (aS GP (pi 20))
 (.ret (pi 6))
 (.brk ⟨[(4,(pi 0)),(3,pN),(2,(pi 0))],[(3,pL),(1,(.mk [r0]))]⟩
(atf b)
 (.ret (pi 0))))
def aok:PT×List (Shp×PT):=(Yi b,[(.lp 0 [2,3,4,10,11,12,13,14] [3] [2,3,4] [3],Ht b)])
def Ug:AX.map told=some (aok (bp AX)):=by kernel_rfl
def ay7:tree (ab AX)=Yi P1:=bF Ug
def VX:round 0 [2,3,4,10,11,12,13,14] [3] [2,3,4] [3] (P1 0)=Ht P1:=bh Ug 0 λ_=>rfl
def AT:Option PC:=cF [2,3,4] [] Tryz.f86 86 [1]
def D8:Nat->PC:=bn AT
def as8:PC:=.block 0 [2,3,5,6,7,8,9] [] (.loop [2,3] [] (b 0))
def as9:PC:=.block 2 [2,4,48,49,50,51,52] [] (.loop [2,4] [] (b 1))
def Hm (b:Nat->PC):PT:=
 (.ite (aj r3 tz)
 (.blockS ⟨[],[]⟩ 1 [2,12,13,14,15,16,17,18,19,20,29,30,31,32,47] []
 (.chk (aq (pc o1 2) r3)
 (.call ⟨[],[]⟩ [] 18 85 [(pc (pn (pc o1 2) r3) 0),(pi 0),(pi 21)]
 (.chk (.nt (.an (.an (.nt (.nt cf)) pT) (.nt (aq (pc o1 2) r3))))
 (.call ⟨[(20,(.nt cf))],[]⟩ [(20,false)] 27 85 [(pc (pn (pc o1 2) r3) 1),(pi 0),(pi 4)]
 (.ite (.pick fe pT (.nt eF))
 (.ret pF)
 (.chk (.nt (.an (.an (aS r3 (pi 0)) pT) (.nt (aq (pc o1 2) (bm r3 (pi 1))))))
 (.chk (.nt (.an (.an (aS r3 (pi 0)) pT) (.nt (aq (pc o1 2) r3))))
 (.ite (.pick (aS r3 (pi 0)) (bk (pc (pn (pc o1 2) (bm r3 (pi 1))) 0) (pc (pn (pc o1 2) r3) 0)) pF)
 (.ret pF)
 (.next ⟨[],[]⟩)))))))))
 (.next ⟨[(3,wH)],[]⟩))
 (.exit 0 ⟨[(5,r3),(6,pN),(7,(pc o1 2)),(8,tz),(9,(aj r3 tz))],[]⟩))
def Hn (b:Nat->PC):PT:=
 (.ite (aj r4 oN)
 (.blockS ⟨[],[]⟩ 3 [2,55,56,57,58,59,60,61,62,63,64,65,80] []
 (.chk (aq (pc o1 3) r4)
 (.call ⟨[],[]⟩ [] 61 85 [(pc (pn (pc o1 3) r4) 0),(pi 0),(pi 21)]
 (.ite (.nt G6)
 (.ret pF)
 (.chk (.nt (.an (.an (aS r4 (pi 0)) pT) (.nt (aq (pc o1 3) (bm r4 (pi 1))))))
 (.chk (.nt (.an (.an (aS r4 (pi 0)) pT) (.nt (aq (pc o1 3) r4))))
 (.ite (.pick (aS r4 (pi 0)) (bk (pc (pn (pc o1 3) (bm r4 (pi 1))) 0) (pc (pn (pc o1 3) r4) 0)) pF)
 (.ret pF)
 (.next ⟨[],[]⟩)))))))
 (.next ⟨[(4,(aF r4 (pi 1)))],[]⟩))
 (.exit 2 ⟨[(48,r4),(49,pN),(50,(pc o1 3)),(51,oN),(52,(aj r4 oN))],[]⟩))
def Yc:PT:=
 (.brk ⟨[(3,(pi 0)),(2,pF)],[(1,(.mk [r0]))]⟩
(as8 b)
 (.brk ⟨[(4,(pi 0))],[]⟩
(as9 b)
 (.ret pT)))
def aog:PT×List (Shp×PT):=(Yc b,[(.lp 0 [2,3,5,6,7,8,9] [] [2,3] [],Hm b),(.lp 2 [2,4,48,49,50,51,52] [] [2,4] [],Hn b)])
def Mz:AT.map told=some (aog (bp AT)):=by kernel_rfl
def ay1:tree (ab AT)=Yc D8:=bF Mz
def VQ:round 0 [2,3,5,6,7,8,9] [] [2,3] [] (D8 0)=Hm D8:=bh Mz 0 λ_=>rfl
def VR:round 2 [2,4,48,49,50,51,52] [] [2,4] [] (D8 1)=Hn D8:=bh Mz 1 λ_=>rfl
def AZ:Option PC:=cF [2,3,5] [] Tryz.f49 49 [1,4]
def Ec:Nat->PC:=bn AZ
def ati:PC:=.block 2 [2,5,46,47,48] [] (.loop [2,5] [] (b 0))
def atj:PC:=.block 0 [2,3,10,11,12,13,14] [] (.loop [2,3] [] (b 1))
def C7 (b:Nat->PC):PT:=
 (.ite (aj r5 r3)
 (.chk (aq (pc o1 5) r5)
 (.chk (.nt (.an (.an (peq (pc (pn (pc o1 5) r5) 0) (pc o4 0)) pT) (.nt (aq (pc o1 5) r5))))
 (.ite (.pick (peq (pc (pn (pc o1 5) r5) 0) (pc o4 0)) (peq (pc (pn (pc o1 5) r5) 1) (pc o4 1)) pF)
 (.ret (pi 5))
 (.next ⟨[(5,zy)],[]⟩))))
 (.exit 2 ⟨[(46,r5),(47,r3),(48,(aj r5 r3))],[]⟩))
def Hw:PT:=
 (.ite (aj r3 CR)
 (.blockS ⟨[(14,(aj r3 CR)),(13,CR),(12,(pc o1 5)),(11,pN),(10,r3)],[]⟩ 1 [2,4,5,17,18,19,20,21,22,23,24,25,26,27,28,29,30,39,40,45,46,47,48] [4]
 (.chk (aq (pc o1 5) r3)
 (.call ⟨[],[(4,(.setc z3 0 (pn (pc o1 5) r3)))]⟩ [] 28 85 [(pc (.setc z3 0 (pn (pc o1 5) r3)) 0),(pi 0),(bm mf (pi 1))]
 (.call ⟨[(30,(.nt tA))],[]⟩ [(30,false)] 37 85 [(pc o4 1),(pi 0),(bm mf (pi 1))]
 (.call ⟨[(40,(.pick rR pT (.nt mm)))],[]⟩ [(40,false)] 43 85 [(pc o4 2),(pi 1),(pi 20000)]
 (.ite (.pick qj pT (.nt u7))
 (.ret (pi 1))
 (.brk ⟨[(5,(pi 0))],[]⟩
(ati b)
 (.next ⟨[],[]⟩)))))))
 (.next ⟨[(3,wH)],[]⟩))
 (.exit 0 ⟨[(10,r3),(11,pN),(12,(pc o1 5)),(13,CR),(14,(aj r3 CR))],[]⟩))
def Yk:PT:=
 (.ite (aS (.llen wF) (pi 100))
 (.ret (pi 6))
 (.brk ⟨[(3,(pi 0)),(2,(pi 0))],[(1,(.mk [r0]))]⟩
(atj b)
 (.ret (pi 0))))
def aom:PT×List (Shp×PT):=(Yk b,[(.lp 2 [2,5,46,47,48] [] [2,5] [],C7 b),(.lp 0 [2,3,10,11,12,13,14] [] [2,3] [],Hw b)])
def MD:AZ.map told=some (aom (bp AZ)):=by kernel_rfl
def ay9:tree (ab AZ)=Yk Ec:=bF MD
def NP:round 2 [2,5,46,47,48] [] [2,5] [] (Ec 0)=C7 Ec:=bh MD 0 λ_=>rfl
def V0:round 0 [2,3,10,11,12,13,14] [] [2,3] [] (Ec 1)=Hw Ec:=bh MD 1 λ_=>rfl
def AY:Option PC:=cF [2,3,5] [] Tryz.f50 50 [1,4,6]
def Eb:Nat->PC:=bn AY
def atg:PC:=.block 0 [2,3,11,12,13,14,15] [] (.loop [2,3] [] (b 0))
def ath:PC:=.block 2 [2,5,68,69,70,71,72] [] (.loop [2,5] [] (b 1))
def Hu (b:Nat->PC):PT:=
 (.ite (aj r3 (.llen (pc o1 6)))
 (.blockS ⟨[],[]⟩ 1 [2,4,18,19,20,21,22,23,24,25,26,27,28,29,30,31,40,41,47,48,49,50,51,52,57,58,63] [4]
 (.chk (aq (pc o1 6) r3)
 (.call ⟨[],[(4,(.setc z5 0 (pn (pc o1 6) r3)))]⟩ [] 29 85 [(pc (.setc z5 0 (pn (pc o1 6) r3)) 0),(pi 0),(bm wG (pi 1))]
 (.call ⟨[(31,(.nt ml))],[]⟩ [(31,false)] 38 85 [(pc o4 1),(pi 0),(bm wG (pi 1))]
 (.ite (.pick (.pick rS pT (.nt jD)) pT (peq (pc o4 0) (pc o4 1)))
 (.ret (pi 1))
 (.call ⟨[],[]⟩ [] 50 85 [(pc o4 2),(pi 1),(pi 1073741824)]
 (.call ⟨[(52,(.nt nl))],[]⟩ [(52,false)] 55 85 [(pc o4 3),(pi 1),(pi 1073741824)]
 (.call ⟨[(58,(.pick C1 pT (.nt C2)))],[]⟩ [(58,false)] 61 85 [(pc o4 4),(pi 0),(pi 100000)]
 (.ite (.pick G4 pT (.nt G6))
 (.ret (pi 1))
 (.next ⟨[],[]⟩)))))))))
 (.next ⟨[(3,wH)],[]⟩))
 (.exit 0 ⟨[(11,r3),(12,pN),(13,(pc o1 6)),(14,(.llen (pc o1 6))),(15,(aj r3 (.llen (pc o1 6))))],[]⟩))
def Hv (b:Nat->PC):PT:=
 (.ite (aj r5 zx)
 (.blockS ⟨[],[]⟩ 3 [2,6,75,76,77,78,79,80,81,82,83,84,85,86,87,88,95,96,100] [6]
 (.chk (aq (pc o1 7) r5)
 (.call ⟨[],[(6,(.setc z3 0 (pn (pc o1 7) r5)))]⟩ [] 86 85 [(pc (.setc z3 0 (pn (pc o1 7) r5)) 0),(pi 0),(bm qe (pi 1))]
 (.call ⟨[(88,(.nt r86))],[]⟩ [(88,false)] 93 85 [(pc o6 1),(pi 0),(pc o6 2)]
 (.ite (.pick (.pick Ny pT (.nt Nz)) pT (aS (pc o6 2) (pi 100000)))
 (.ret (pi 1))
 (.next ⟨[],[]⟩)))))
 (.next ⟨[(5,zy)],[]⟩))
 (.exit 2 ⟨[(68,r5),(69,pN),(70,(pc o1 7)),(71,zx),(72,(aj r5 zx))],[]⟩))
def Yj:PT:=
 (.ite (aS (.llen CP) (pi 100))
 (.ret (pi 6))
 (.brk ⟨[(3,(pi 0)),(2,(pi 0))],[(1,(.mk [r0]))]⟩
(atg b)
 (.ite (aS zx (pi 20))
 (.ret (pi 6))
 (.brk ⟨[(5,(pi 0))],[]⟩
(ath b)
 (.ret (pi 0))))))
def aol:PT×List (Shp×PT):=(Yj b,[(.lp 0 [2,3,11,12,13,14,15] [] [2,3] [],Hu b),(.lp 2 [2,5,68,69,70,71,72] [] [2,5] [],Hv b)])
def MC:AY.map told=some (aol (bp AY)):=by kernel_rfl
def ay8:tree (ab AY)=Yj Eb:=bF MC
def VY:round 0 [2,3,11,12,13,14,15] [] [2,3] [] (Eb 0)=Hu Eb:=bh MC 0 λ_=>rfl
def VZ:round 2 [2,5,68,69,70,71,72] [] [2,5] [] (Eb 1)=Hv Eb:=bh MC 1 λ_=>rfl
def xV:Option PC:=cF [4,5,6,7,8,11] [] Tryz.f24 24 [2,3,10]
def D6:Nat->PC:=bn xV
def asT:PC:=.block 0 [4,48,49] [] (.loop [4,48] [] (b 0))
def asU:PC:=.block 2 [4,8,62,63] [] (.loop [4,8,62] [] (b 1))
def Hf (b:Nat->PC):PT:=
 (.ite (aj jY C0)
 (.blockS ⟨[],[]⟩ 1 [4,6,7,50,51,52,53,54,55,56] []
 (.call ⟨[],[]⟩ [] 54 52 [(aA 8 o2),(aA 19 o3),jY]
 (.ite (aI mq (pi 0))
 (.ret mq)
 (.next ⟨[],[]⟩)))
 (.next ⟨[(48,(aF jY (pi 1)))],[]⟩))
 (.exit 0 ⟨[(49,(aj jY C0))],[]⟩))
def Hg (b:Nat->PC):PT:=
 (.ite (aj oP G6)
 (.blockS ⟨[],[]⟩ 3 [4,8,10,64,65,66,67,68,69,70,71,72,73,74,75,76,77,78,79,80] [10]
 (.chk (aq G5 oP)
 (.call ⟨[],[(10,(.setc z2 0 (pn G5 oP)))]⟩ [] 73 53 [(pc (.setc z2 0 (pn G5 oP)) 0),uZ,(.llen (pc o3 15))]
 (.ite (.nt G8)
 (.ret (pi 1))
 (.call ⟨[],[]⟩ [] 77 53 [(pc cm 1),(pi 1),zt]
 (.ite (.nt r77)
 (.ret (pi 3))
 (.next ⟨[(8,(pc cm 0))],[]⟩))))))
 (.next ⟨[(62,(aF oP (pi 1)))],[]⟩))
 (.exit 2 ⟨[(63,(aj oP G6))],[]⟩))
def XO:PT:=
 (.ite (.pick (.pick (.pick (aS (.llen (pc (.mk [r1]) 15)) (pi 40)) pT (aS (.llen (pc (.mk [r1]) 16)) (pi 4))) pT (aS (.llen (pc (.mk [r1]) 17)) (pi 100))) pT (aS (.llen (pc (.mk [r1]) 18)) (pi 200)))
 (.ret (pi 6))
 (.call ⟨[(4,(pi 0))],[(3,(.mk [r1])),(2,(.mk [r0]))]⟩ [] 37 51 [jU,(aA 15 (.mk [r1]))]
 (.ite (aI mm (pi 0))
 (.ret mm)
 (.ite (peq (.llen (pc o3 15)) (pi 0))
 (.ret (pi 14))
 (.brk ⟨[(48,(pi 0)),(47,(.llen (pc o3 15)))],[]⟩
(asT b)
 (.brk ⟨[(62,(pi 0)),(61,(.llen (pc o3 16))),(60,(pc o3 16)),(8,(pi 0))],[]⟩
(asU b)
 (.call ⟨[],[]⟩ [] 84 54 [(aA 8 o2),(aA 19 o3)]
 (.ite (aI r84 (pi 0))
 (.ret r84)
 (.call ⟨[],[]⟩ [] 89 55 [(aA 19 o3)]
 (.ret r89))))))))))
def an3:PT×List (Shp×PT):=(XO b,[(.lp 0 [4,48,49] [] [4,48] [],Hf b),(.lp 2 [4,8,62,63] [] [4,8,62] [],Hg b)])
def Mx:xV.map told=some (an3 (bp xV)):=by kernel_rfl
def ayy:tree (ab xV)=XO D6:=bF Mx
def VK:round 0 [4,48,49] [] [4,48] [] (D6 0)=Hf D6:=bh Mx 0 λ_=>rfl
def VL:round 2 [4,8,62,63] [] [4,8,62] [] (D6 1)=Hg D6:=bh Mx 1 λ_=>rfl
def EA:Option PC:=cF [4,5,6,7,8,54,80,109,118,9,10] [] Tryz.f51 51 [2,3]
def Zv:PT:=
 (.call ⟨[],[(3,(.mk [r1])),(2,(.mk [r0]))]⟩ [] 12 72 [jU]
 (.ite (aI bR (pi 0))
 (.ret bR)
 (.call ⟨[(7,(.llen (pc o2 1))),(6,(.llen (pc o2 3)))],[]⟩ [] 25 87 [(pc o3 0),(.llen (pc o2 3))]
 (.call ⟨[(26,jX)],[]⟩ [(26,true)] 30 87 [(pc o3 1),r6]
 (.call ⟨[(36,(peq (pc o3 2) (pi (-1)))),(32,(.pick mj rR pF))],[]⟩ [(36,false),(32,true)] 40 87 [(pc o3 2),r6]
 (.call ⟨[(47,(peq (pc o3 11) (pi (-1)))),(43,(.pick wI (.pick la pT qj) pF))],[]⟩ [(47,false),(43,true)] 51 87 [(pc o3 11),r6]
 (.blockS ⟨[(8,(.pick u7 (.pick C0 pT kA) pF))],[]⟩ 0 [4,54,55,56,57,65,66,72,73,79,80,81,82,83,84,88,89,93,94,98,99,103,104,108,109,110,111,112,113,117,118,119,120,121,122,126,127,137,138,142] []
 (.call ⟨[(57,(.nt r8))],[]⟩ [(57,false)] 63 87 [(pc o3 4),(.llen (pc o2 0))]
 (.call ⟨[(66,(.pick Nv pT (.nt Nw)))],[]⟩ [(66,false)] 70 87 [(pc o3 9),r7]
 (.call ⟨[(73,(.pick r66 pT (.nt r70)))],[]⟩ [(73,false)] 77 87 [(pc o3 10),r7]
 (.iteS ⟨[],[]⟩ (.pick G8 pT (.nt r77)) [4,80,81,82,83,84,88,89,93,94,98,99,103,104,108,109,110,111,112,113,117,118,119,120,121,122,126,127,137,138,142] []
 (.ret (pi 1))
 (.iteS ⟨[],[]⟩ (.pick (.pick (.pick (.pick (.pick (aj (pc o3 3) (pi 1)) pT (aS (pc o3 3) zt)) pT (aj (pc o3 8) (pi 0))) pT (aS (pc o3 8) (pi 100000))) pT (aj (pc o3 12) (pi 0))) pT (aS (pc o3 12) (pi 1000))) [4,109,110,111,112,113,117,118,119,120,121,122,126,127,137,138,142] []
 (.ret (pi 3))
 (.iteS ⟨[],[]⟩ (.pick (aj (pc o3 14) (pi 1)) pT (aS (pc o3 14) (pi 4))) [4,118,119,120,121,122,126,127,137,138,142] []
 (.ret (pi 15))
 (.call ⟨[(138,(.pick (.pick (aj (pc o3 13) (pi 0)) pT (aS (pc o3 13) (pi 7))) pT (.pick (aI (.ai .and .i64 (pc o3 13) (pi 4)) (pi 0)) (peq (pc o3 2) (pi (-1))) pF)))],[]⟩ [(138,false)] 140 88 [(aA 15 o3)]
 (.ite (.pick (.r 138) pT (.nt (.r 140)))
 (.ret (pi 2))
 (.next ⟨[],[]⟩)))
 (.next ⟨[],[]⟩))
 (.next ⟨[],[]⟩))
 (.next ⟨[],[]⟩)))))
 (.iteS ⟨[],[]⟩ (peq (pc o3 5) (pi 4)) [4] []
 (.call ⟨[],[]⟩ [] 153 89 [(aA 8 o2),(pc o3 9),(pc o3 10)]
 (.ret (.tget (.r 153) 1)))
 (.next ⟨[],[]⟩)
 (.ret (pi 0))))))))))
def ahe:EA.map told=some (Zv,[]):=by kernel_rfl
def aAa:tree (ab EA)=Zv:=aU ahe
def KC:Option PC:=cF [4] [] Tryz.f87 87 []
def Zw:PT:=
 (.ret Vg)
def ahf:KC.map told=some (Zw,[]):=by kernel_rfl
def aAb:tree (ab KC)=Zw:=aU ahf
def KD:Option PC:=cF [2,8,19,40] [] Tryz.f88 88 [1,3]
def Zx:PT:=
 (.ite (.pick (peq (pc lO 0) (pi 0)) (peq (pc lO 0) (pi 0)) (peq (pc lO 0) (pi 4)))
 (.ret (.pick (peq (pc lO 1) (pi 0)) (peq (pc lO 2) (pi 0)) pF))
 (.ite (.pick (peq (pc lO 0) (pi 1)) (peq (pc lO 0) (pi 1)) (peq (pc lO 0) (pi 2)))
 (.ret (.pick (.pick (bk (pc lO 1) (pi 1)) (bI (pc lO 1) (pi 400)) pF) (.pick (peq (pc lO 2) (pi 0)) pT (peq (pc lO 2) (pi 1))) pF))
 (.ite (peq (pc lO 0) (pi 3))
 (.ret (.pick (.pick (bk (pc lO 1) (pc (.mk [r0]) 8)) (bI (pc lO 1) (pi 100000)) pF) (peq (pc lO 2) (pi 0)) pF))
 (.ret pF))))
def ahg:KD.map told=some (Zx,[]):=by kernel_rfl
def aAc:tree (ab KD)=Zx:=aU ahg
def AK:Option PC:=cF [6,8,9,76,92,98] [] Tryz.f52 52 [3,4,7,11]
def PR:Nat->PC:=bn AK
def asY:PC:=.block 0 [8,9,51,52] [] (.loop [8,9,51] [] (b 0))
def NK (b:Nat->PC):PT:=
 (.ite (aj kA nl)
 (.chk (aq oO kA)
 (.next ⟨[(8,(pc (.setc z9 0 (pn oO kA)) 6)),(9,(.pick r9 pT (.pick (.pick (peq (pc o7 0) (pi 1)) (peq (pc (.setc z9 0 (pn oO kA)) 0) (pi 1)) pF) (peq (pc (.setc z9 0 (pn oO kA)) 1) (pc o7 1)) pF))),(51,(aF kA (pi 1)))],[]⟩))
 (.exit 0 ⟨[(52,(aj kA nl))],[]⟩))
def XW:PT:=
 (.chk (aq (pc (.mk [r1]) 15) r2)
 (.call ⟨[],[(7,qa),(4,(.mk [r1])),(3,(.mk [r0]))]⟩ [] 23 53 [(pc qa 1),(pi 0),(bm (pc (.mk [r1]) 14) (pi 1))]
 (.ite (.nt gY)
 (.ret (pi 15))
 (.call ⟨[],[]⟩ [] 31 53 [(pc o7 2),(pi 0),M3]
 (.call ⟨[(33,(.nt rS))],[]⟩ [(33,false)] 40 53 [(pc o7 7),(pi 0),(bm (.llen (pc o3 1)) (pi 1))]
 (.ite (.pick rT pT (.nt qj))
 (.ret (pi 1))
 (.chk (.slok (pc o4 15) (pi 0) r2)
 (.brk ⟨[(51,(pi 0)),(50,(.llen (.slc (pc o4 15) (pi 0) r2))),(49,(.slc (pc o4 15) (pi 0) r2)),(9,pF),(8,(pc o4 8))],[]⟩
(asY b)
 (.blockS ⟨[],[]⟩ 2 [6,76,77,78,79,80,81,82,91,92,93,94,95,96,97,98,99] []
 (.call ⟨[],[]⟩ [] 80 53 [(pc o7 6),r8,(pi 100000)]
 (.iteS ⟨[],[]⟩ (.pick (.nt zF) pT (.pick (peq r2 (pi 0)) (aI (pc o7 6) r8) pF)) [6,92,93,94,95,96,97,98,99] []
 (.ret (pi 13))
 (.call ⟨[],[]⟩ [] 96 90 [(aA 8 o3),(aA 19 o4),r2]
 (.ite (.nt r96)
 (.ret (pi 14))
 (.ite r9
 (.ret (pi 5))
 (.next ⟨[],[]⟩))))
 (.next ⟨[],[]⟩)))
 (.ret (pi 0)))))))))))
def an7:PT×List (Shp×PT):=(XW b,[(.lp 0 [8,9,51,52] [] [8,9,51] [],NK b)])
def T7:AK.map told=some (an7 (bp AK)):=by kernel_rfl
def ayG:tree (ab AK)=XW PR:=bF T7
def aix:round 0 [8,9,51,52] [] [8,9,51] [] (PR 0)=NK PR:=bh T7 0 λ_=>rfl
def JR:Option PC:=cF [6] [] Tryz.f53 53 []
def XV:PT:=
 (.ret (.pick (bk r0 r1) (bI r0 r2) pF))
def agq:JR.map told=some (XV,[]):=by kernel_rfl
def ayF:tree (ab JR)=XV:=aU agq
def JQ:Option PC:=cF [6,9,10,66,103,113,11,140,149] [] Tryz.f90 90 [3,4,7,8]
def XU:PT:=
 (.chk (aq (pc (.mk [r1]) 15) r2)
 (.ite (.pick (.cb .neq (peq r2 (pi 0)) (peq (pc qa 0) (pi 0))) pT (.pick (aI (pc qa 0) (pi 2)) (aI (pc qa 4) (pi (-1))) pF))
 (.ret pF)
 (.ite (.pick (.pick (aI (pc qa 0) (pi 3)) (aI (pc qa 0) (pi 4)) pF) (aI (pc qa 3) (pi (-1))) pF)
 (.ret pF)
 (.call ⟨[(9,(.pick (peq (pc qa 5) (pi 0)) (peq (pc qa 8) (pi 0)) pF))],[(8,(.setc IE 0 (aA 15 (.mk [r1])))),(7,qa),(4,(.mk [r1])),(3,(.mk [r0]))]⟩ [] 58 53 [(pc qa 5),(pi 1),zt]
 (.blockS ⟨[(65,(pc o7 0)),(10,(.pick G4 (peq (pc o7 8) (pi 0)) pF))],[]⟩ 0 [6,66,67,103,104,113,114,140,141,149,150] []
 (.iteS ⟨[],[]⟩ (peq C3 (pi 0)) [6,103,104,113,114,140,141,149,150] []
 (.ret (.pick (.pick (.pick (.pick (.pick (peq (pc o7 2) (pc o8 0)) (peq (pc o7 5) (pi 0)) pF) (peq (.ai .or .i64 (pc o7 8) (pi 1)) (pi 1)) pF) (peq (pc o7 1) (pi 0)) pF) (peq (pc o7 6) (pc o8 8)) pF) (peq (pc o7 7) (pc o8 9)) pF))
 (.iteS ⟨[],[]⟩ (peq C3 (pi 1)) [6,113,114,140,141,149,150] []
 (.ret (.pick (peq (pc o7 2) (pc o8 1)) dw pF))
 (.iteS ⟨[],[]⟩ (peq C3 (pi 2)) [6,140,141,149,150] []
 (.call ⟨[(11,(pi 6))],[]⟩ [] 121 53 [(pc o7 4),(pi (-1)),M3]
 (.call ⟨[(127,(.pick avZ (peq (pc o7 5) (pi 0)) pF))],[]⟩ [(127,true)] 130 53 [(pc o7 8),(pi 0),(pi 7)]
 (.ret (.pick (.pick av0 (.r 130) pF) (aI (.ai .and .i64 (pc o7 8) bK) bK) pF))))
 (.iteS ⟨[],[]⟩ (peq C3 (pi 3)) [6,149,150] []
 (.call ⟨[(143,r9)],[]⟩ [(143,true)] 147 131 [(aA 19 o4),r2,(.lst [(pi 0),(pi 1),(pi 2),(pi 4)])]
 (.ret (.pick (.r 143) (.r 147) pF)))
 (.iteS ⟨[],[]⟩ (peq C3 (pi 4)) [6] []
 (.call ⟨[(159,(.pick dw (aI (pc o7 2) (pc o8 1)) pF))],[]⟩ [(159,true)] 163 131 [(aA 19 o4),r2,(.lst [(pi 0),(pi 2)])]
 (.ret (.pick (.r 159) (.r 163) pF)))
 (.next ⟨[],[]⟩)
 (.next ⟨[],[]⟩))
 (.next ⟨[],[]⟩))
 (.next ⟨[],[]⟩))
 (.next ⟨[],[]⟩))
 (.next ⟨[],[]⟩))
 (.ret pF))))))
def agp:JQ.map told=some (XU,[]):=by kernel_rfl
def ayE:tree (ab JQ)=XU:=aU agp
def JP:Option PC:=cF [6,7] [] Tryz.f131 131 [3]
def XS:PT:=
 (.chk (aq rM r1)
 (.call ⟨[(7,(pc (pn rM r1) 3))],[(3,(.mk [r0]))]⟩ [] 17 53 [(pc (pn rM r1) 3),(pi 0),(bm r1 (pi 1))]
 (.chk (.nt (.an (.an jW pT) (.nt (aq (pc o3 15) r1))))
 (.call ⟨[(18,jW)],[]⟩ [(18,true)] 27 132 [(aA 19 o3),r7,(pc (pn (pc o3 15) r1) 1)]
 (.chk (.nt (.an (.an (.pick cf eF pF) pT) (.nt (aq (pc o3 15) r7))))
 (.call ⟨[(29,(.pick cf eF pF))],[]⟩ [(29,true)] 37 168 [r2,(pc (pn (pc o3 15) r7) 0)]
 (.ret (.pick ml mm pF))))))))
def ago:JP.map told=some (XS,[]):=by kernel_rfl
def ayC:tree (ab JP)=XS:=aU ago
def JS:Option PC:=cF [6] [] Tryz.f132 132 [3]
def OJ:PT:=
 (.chk (.nt (.an (.an (.nt (peq r1 (pi 0))) pT) (.nt (aq rM r1))))
 (.ret (.pick (peq r1 (pi 0)) pT (peq (pc (pn rM r1) 1) r2))))
def agr:JS.map told=some (OJ,[]):=by kernel_rfl
def ayH:tree (ab JS)=OJ:=aU agr
end Rm
