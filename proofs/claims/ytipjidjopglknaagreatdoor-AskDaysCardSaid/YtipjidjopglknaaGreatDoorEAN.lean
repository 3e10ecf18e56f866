/-
  The functions of this seat, compiled (3).
-/
import Derived.Test.YtipjidjopglknaaGreatDoorEAK
import Derived.KernelRfl
set_option linter.unusedVariables false
set_option maxRecDepth 100000
noncomputable section
namespace Rm
open Go Go.Proofs Cx
def F6:Option PC:=cF [4] [] Tryz.f200 200 []
def RB:PT:=
 (.call ⟨[],[]⟩ [] 7 215 [r0,r1]
 (.ret (dx r7 (pi 0))))
theorem Yu:F6.map told=some (RB,[]):=by kernel_rfl
theorem apO:tree (ae F6)=RB:=bj Yu
def yf:Option PC:=cF [4,5] [] Tryz.f215 215 []
def KC:Nat→PC:=bB yf
def akV (b:Nat→PC):PC:=.block 0 [4,8,9] [] (.loop [4,8] [] (b 0))
def Ej (b:Nat→PC):PT:=
 (.ite (ao r8 r7)
 (.chk (az r0 r8)
 (.ite (.cs .eql r1 (pn r0 r8))
 (.ret r8)
 (.next ⟨[(8,(aP r8 (pi 1)))],[]⟩)))
 (.exit 0 ⟨[(9,(ao r8 r7))],[]⟩))
def RH (b:Nat→PC):PT:=
 (.brk ⟨[(8,(pi 0)),(7,(.llen r0)),(4,(pi 0))],[]⟩
(akV b)
 (.ret (pi (-1))))
def agj (b:Nat→PC):PT×List (Shp×PT):=(RH b,[(.lp 0 [4,8,9] [] [4,8] [],Ej b)])
theorem N4:yf.map told=some (agj (bA yf)):=by kernel_rfl
theorem apT:tree (ae yf)=RH KC:=cd N4
theorem PH:round 0 [4,8,9] [] [4,8] [] (KC 0)=Ej KC:=bx N4 0 fun _=>rfl
def FT:Option PC:=cF [2] [] Tryz.f130 130 []
def Ra:PT:=
 (.ret pT)
theorem Yh:FT.map told=some (Ra,[]):=by kernel_rfl
theorem apl:tree (ae FT)=Ra:=bj Yh
def FU:Option PC:=cF [3] [] Tryz.f131 131 []
def Rb:PT:=
 (.chk (az (pc (.deref r1) 1) r0)
 (.call ⟨[],[]⟩ [] 10 132 [(.deref r1),(pn (pc (.deref r1) 1) r0)]
 (.ret dL)))
theorem Yi:FU.map told=some (Rb,[]):=by kernel_rfl
theorem apm:tree (ae FU)=Rb:=bj Yi
def xQ:Option PC:=cF [4,6] [] Tryz.f132 132 [2,3]
def Ks:Nat→PC:=bB xQ
def akv (b:Nat→PC):PC:=.block 0 [4,10,11] [] (.loop [4,10] [] (b 0))
def D1 (b:Nat→PC):PT:=
 (.ite (ao dL r9)
 (.chk (az r8 dL)
 (.chk zW
 (.chk (.nt (.an (.an (.nt (ao OG (pi 1))) pT) (.nt zW)))
 (.ite (.pick (ao OG (pi 1)) pT (bp OG (pi 31)))
 (.ret pF)
 (.next ⟨[(10,(aP dL (pi 1)))],[]⟩)))))
 (.exit 0 ⟨[(11,(ao dL r9))],[]⟩))
def Rh (b:Nat→PC):PT:=
 (.brk ⟨[(10,(pi 0)),(9,(.llen (pc (.mk [r1]) 4))),(8,(pc (.mk [r1]) 4)),(4,pF)],[(3,(.mk [r1])),(2,(.mk [r0]))]⟩
(akv b)
 (.call ⟨[(33,(.pick (bp (.llen (pc o3 4)) (pi 60)) pT (bp (.llen (pc o3 5)) (pi 200))))],[]⟩ [(33,false)] 39 105 [(pc o3 1),(.llen (pc o2 4))]
 (.call ⟨[(42,(.pick tY pT (.nt DA)))],[]⟩ [(42,false)] 48 105 [(pc o3 2),(.llen (pc o2 0))]
 (.ite (.pick r42 pT (.nt qx))
 (.ret pF)
 (.call ⟨[],[]⟩ [] 53 164 [(pc o3 3),(pi 0),(pi 6)]
 (.call ⟨[(54,r53)],[]⟩ [(54,true)] 57 164 [(pc o3 4),(pi 101),(pi 1231)]
 (.call ⟨[(59,(.pick se OO pF))],[]⟩ [(59,true)] 62 164 [(pc o3 5),(pi 0),(pi 100000)]
 (.ret (.pick OP wK pF)))))))))
def af1 (b:Nat→PC):PT×List (Shp×PT):=(Rh b,[(.lp 0 [4,10,11] [] [4,10] [],D1 b)])
theorem NV:xQ.map told=some (af1 (bA xQ)):=by kernel_rfl
theorem apt:tree (ae xQ)=Rh Ks:=cd NV
theorem Pm:round 0 [4,10,11] [] [4,10] [] (Ks 0)=D1 Ks:=bx NV 0 fun _=>rfl
def xW:Option PC:=cF [6,7,8] [] Tryz.f164 164 []
def Kv:Nat→PC:=bB xW
def akF (b:Nat→PC):PC:=.block 0 [6,11,12] [] (.loop [6,11] [] (b 0))
def tZ (b:Nat→PC):PT:=
 (.ite (ao bQ dL)
 (.chk (az r9 bQ)
 (.chk (.nt (.an (.an (bp bQ (pi 0)) (.an (.nt (.pick (ao (pn r9 bQ) r1) pT (bp (pn r9 bQ) r2))) pT)) (.nt (az r0 (bZ bQ (pi 1))))))
 (.ite (.pick (.pick (ao (pn r9 bQ) r1) pT (bp (pn r9 bQ) r2)) pT (.pick (bp bQ (pi 0)) (bY (pn r9 bQ) (pn r0 (bZ bQ (pi 1)))) pF))
 (.ret pF)
 (.next ⟨[(11,(aP bQ (pi 1)))],[]⟩))))
 (.exit 0 ⟨[(12,(ao bQ dL))],[]⟩))
def Rp (b:Nat→PC):PT:=
 (.brk ⟨[(11,(pi 0)),(10,(.llen r0)),(9,r0),(6,pF)],[]⟩
(akF b)
 (.ret pT))
def af7 (b:Nat→PC):PT×List (Shp×PT):=(Rp b,[(.lp 0 [6,11,12] [] [6,11] [],tZ b)])
theorem NY:xW.map told=some (af7 (bA xW)):=by kernel_rfl
theorem apB:tree (ae xW)=Rp Kv:=cd NY
theorem Ac:round 0 [6,11,12] [] [6,11] [] (Kv 0)=tZ Kv:=bx NY 0 fun _=>rfl
def FV:Option PC:=cF [3] [] Tryz.f133 133 []
def Rc:PT:=
 (.chk (az (pc (.deref r1) 3) r0)
 (.call ⟨[],[]⟩ [] 13 105 [(pc (pn (pc (.deref r1) 3) r0) 1),(.llen (pc (.deref r1) 1))]
 (.chk (.nt (.an (.an eC pT) (.nt (az (pc (.deref r1) 3) r0))))
 (.call ⟨[(14,eC)],[]⟩ [(14,true)] 24 105 [(pc (pn (pc (.deref r1) 3) r0) 2),(.llen (pc (.deref r1) 2))]
 (.ret (.pick dj oZ pF))))))
theorem Yj:FV.map told=some (Rc,[]):=by kernel_rfl
theorem apn:tree (ae FV)=Rc:=bj Yj
def FW:Option PC:=cF [3] [] Tryz.f134 134 []
def Re:PT:=
 (.chk (az (pc (.deref r1) 4) r0)
 (.call ⟨[],[]⟩ [] 9 135 [(pn (pc (.deref r1) 4) r0)]
 (.ret r9)))
theorem Yk:FW.map told=some (Re,[]):=by kernel_rfl
theorem apo:tree (ae FW)=Re:=bj Yk
def xU:Option PC:=cF [2] [] Tryz.f135 135 [1,3,4,6,19,8,16392,36]
def AY:Nat→PC:=bB xU
def akB (b:Nat→PC):PC:=.block 0 [2,3,12,13] [3] (.loop [2,3,12] [3] (b 0))
def akC (b:Nat→PC):PC:=.block 2 [4,29,30] [4] (.loop [4,29] [4] (b 1))
def D4 (b:Nat→PC):PT:=
 (.ite (ao cj bQ)
 (.blockS ⟨[],[]⟩ 1 [2,3,6,14,15,17,18,19,20,21,22,23,24] [6,19,3]
 (.chk (az dL cj)
 (.chk (bY (.llen (.app o3 (.lst [(pc (.setc Io 0 (pn dL cj)) 0)]))) cX)
 (.call ⟨[(3,pN)],[(3,(.app o3 (.lst [(pc (.setc Io 0 (pn dL cj)) 0)])))]⟩ [] 23 105 [(pc (.setc Io 0 (pn dL cj)) 1),(pi 5)]
 (.ite (.nt lN)
 (.ret pF)
 (.next ⟨[],[]⟩)))))
 (.next ⟨[(12,(aP cj (pi 1)))],[]⟩))
 (.exit 0 ⟨[(13,(ao cj bQ))],[]⟩))
def IQ (b:Nat→PC):PT:=
 (.ite (ao qw rY)
 (.chk (az fS qw)
 (.chk (bY (.llen Zw) cX)
 (.next ⟨[(4,pN),(29,(aP qw (pi 1)))],[(4,Zw)]⟩)))
 (.exit 2 ⟨[(30,(ao qw rY))],[]⟩))
def Rn (b:Nat→PC):PT:=
 (.brk ⟨[(12,(pi 0)),(11,oX),(10,tT),(4,pN),(3,pN),(2,pF)],[(4,pL),(3,pL),(1,(.mk [r0]))]⟩
(akB b)
 (.brk ⟨[(29,(pi 0)),(28,mD),(27,(pc o1 3))],[]⟩
(akC b)
 (.call ⟨[],[]⟩ [] 40 164 [o3,(pi 0),(pi 21)]
 (.call ⟨[(41,pg)],[]⟩ [(41,true)] 43 164 [o4,(pi 0),(pi 21)]
 (.ret (.pick rZ sc pF))))))
def af5 (b:Nat→PC):PT×List (Shp×PT):=(Rn b,[(.lp 0 [2,3,12,13] [3] [2,3,12] [3],D4 b),(.lp 2 [4,29,30] [4] [4,29] [4],IQ b)])
theorem HZ:xU.map told=some (af5 (bA xU)):=by kernel_rfl
theorem apz:tree (ae xU)=Rn AY:=cd HZ
theorem Pp:round 0 [2,3,12,13] [3] [2,3,12] [3] (AY 0)=D4 AY:=bx HZ 0 fun _=>rfl
theorem aaa:round 2 [4,29,30] [4] [4,29] [4] (AY 1)=IQ AY:=bx HZ 1 fun _=>rfl
def xX:Option PC:=cF [2,3] [] Tryz.f136 136 [1,4,6]
def A0:Nat→PC:=bB xX
def akG (b:Nat→PC):PC:=.block 2 [2,50,51] [] (.loop [2,50] [] (b 0))
def akH (b:Nat→PC):PC:=.block 0 [2,14,15] [] (.loop [2,14] [] (b 1))
def Ad (b:Nat→PC):PT:=
 (.ite (ao mF sd)
 (.chk (az qx mF)
 (.ite (.pick (peq (pc (.setc z3 0 (pn qx mF)) 0) (pc o4 0)) (peq (pc (.setc z3 0 (pn qx mF)) 1) (pc o4 1)) pF)
 (.ret (pi 5))
 (.next ⟨[(50,(aP mF (pi 1)))],[]⟩)))
 (.exit 2 ⟨[(51,(ao mF sd))],[]⟩))
def D7 (b:Nat→PC):PT:=
 (.ite rX
 (.blockS ⟨[(15,rX)],[]⟩ 1 [2,3,4,16,17,18,19,20,21,22,23,24,25,26,34,35,39,40,44,45,46,47,48,49,50,51] [4]
 (.chk (az cj dj)
 (.call ⟨[(3,dj)],[(4,zU)]⟩ [] 24 105 [(pc zU 0),kU]
 (.call ⟨[(26,(.nt oZ))],[]⟩ [(26,false)] 32 105 [(pc o4 1),kU]
 (.ite (.pick (.pick (.pick mE pT (.nt ON)) pT (ao (pc o4 2) (pi 1))) pT (bp (pc o4 2) (pi 20000)))
 (.ret (pi 1))
 (.chk (.slok (pc o1 5) (pi 0) r3)
 (.brk ⟨[(50,(pi 0)),(49,(.llen (.slc (pc o1 5) (pi 0) r3))),(48,(.slc (pc o1 5) (pi 0) r3))],[]⟩
(akG b)
 (.next ⟨[],[]⟩)))))))
 (.next ⟨[(14,(aP dj (pi 1)))],[]⟩))
 (.exit 0 ⟨[(15,rX)],[]⟩))
def Rq (b:Nat→PC):PT:=
 (.ite (bp (.llen wD) (pi 100))
 (.ret (pi 6))
 (.brk ⟨[(14,(pi 0)),(13,(.llen wD)),(12,wD),(2,(pi 0))],[(1,(.mk [r0]))]⟩
(akH b)
 (.ret (pi 0))))
def af8 (b:Nat→PC):PT×List (Shp×PT):=(Rq b,[(.lp 2 [2,50,51] [] [2,50] [],Ad b),(.lp 0 [2,14,15] [] [2,14] [],D7 b)])
theorem H2:xX.map told=some (af8 (bA xX)):=by kernel_rfl
theorem apC:tree (ae xX)=Rq A0:=cd H2
theorem IS:round 2 [2,50,51] [] [2,50] [] (A0 0)=Ad A0:=bx H2 0 fun _=>rfl
theorem Ps:round 0 [2,14,15] [] [2,14] [] (A0 1)=D7 A0:=bx H2 1 fun _=>rfl
def xV:Option PC:=cF [2] [] Tryz.f137 137 [1,4,6]
def AZ:Nat→PC:=bB xV
def akD (b:Nat→PC):PC:=.block 0 [2,14,15] [] (.loop [2,14] [] (b 0))
def akE (b:Nat→PC):PC:=.block 2 [2,69,70] [] (.loop [2,69] [] (b 1))
def D5 (b:Nat→PC):PT:=
 (.ite rX
 (.blockS ⟨[],[]⟩ 1 [2,4,16,17,18,19,20,21,22,23,24,25,33,34,40,41,47,48,54,55,60] [4]
 (.chk (az cj dj)
 (.call ⟨[],[(4,(.setc z5 0 (pn cj dj)))]⟩ [] 23 105 [(pc (.setc z5 0 (pn cj dj)) 0),tU]
 (.call ⟨[(25,(.nt lN))],[]⟩ [(25,false)] 31 105 [(pc o4 1),tU]
 (.call ⟨[(41,(.pick (.pick jZ pT (.nt tX)) pT (peq (pc o4 0) (pc o4 1))))],[]⟩ [(41,false)] 45 105 [(bZ (pc o4 2) (pi 1)),(pi 1073741824)]
 (.call ⟨[(48,(.pick rZ pT (.nt ph)))],[]⟩ [(48,false)] 52 105 [(bZ (pc o4 3) (pi 1)),(pi 1073741824)]
 (.call ⟨[(55,(.pick qx pT (.nt IA)))],[]⟩ [(55,false)] 58 105 [(pc o4 4),(pi 100001)]
 (.ite (.pick wJ pT (.nt IB))
 (.ret (pi 1))
 (.next ⟨[],[]⟩))))))))
 (.next ⟨[(14,(aP dj (pi 1)))],[]⟩))
 (.exit 0 ⟨[(15,rX)],[]⟩))
def D6 (b:Nat→PC):PT:=
 (.ite (ao sk ZR)
 (.blockS ⟨[],[]⟩ 3 [2,6,71,72,73,74,75,76,77,78,79,80,84,85,91,92,96] [6]
 (.chk (az sf sk)
 (.call ⟨[],[(6,(.setc z3 0 (pn sf sk)))]⟩ [] 78 105 [(pc (.setc z3 0 (pn sf sk)) 0),nB]
 (.ite (.pick (.pick (.pick (.nt OV) pT (ao (pc o6 1) (pi 0))) pT (bp (pc o6 1) (pc o6 2))) pT (bp (pc o6 2) (pi 100000)))
 (.ret (pi 1))
 (.next ⟨[],[]⟩))))
 (.next ⟨[(69,(aP sk (pi 1)))],[]⟩))
 (.exit 2 ⟨[(70,(ao sk ZR))],[]⟩))
def Ro (b:Nat→PC):PT:=
 (.ite (bp (.llen (pc (.mk [r0]) 6)) (pi 100))
 (.ret (pi 6))
 (.brk ⟨[(14,(pi 0)),(13,(.llen (pc (.mk [r0]) 6))),(12,(pc (.mk [r0]) 6)),(2,(pi 0))],[(1,(.mk [r0]))]⟩
(akD b)
 (.ite (bp wG (pi 20))
 (.ret (pi 6))
 (.brk ⟨[(69,(pi 0)),(68,wG),(67,(pc o1 7))],[]⟩
(akE b)
 (.ret (pi 0))))))
def af6 (b:Nat→PC):PT×List (Shp×PT):=(Ro b,[(.lp 0 [2,14,15] [] [2,14] [],D5 b),(.lp 2 [2,69,70] [] [2,69] [],D6 b)])
theorem H0:xV.map told=some (af6 (bA xV)):=by kernel_rfl
theorem apA:tree (ae xV)=Ro AZ:=cd H0
theorem Pq:round 0 [2,14,15] [] [2,14] [] (AZ 0)=D5 AZ:=bx H0 0 fun _=>rfl
theorem Pr:round 2 [2,69,70] [] [2,69] [] (AZ 1)=D6 AZ:=bx H0 1 fun _=>rfl
def F8:Option PC:=cF [4] [] Tryz.f85 85 [2]
def RK:PT:=
 (.ret (.pick (dx r1 (pi 0)) (ao r1 (.llen oV)) pF))
theorem Yz:F8.map told=some (RK,[]):=by kernel_rfl
theorem apW:tree (ae F8)=RK:=bj Yz
def F9:Option PC:=cF [2] [] Tryz.f86 86 []
def RL:PT:=
 (.ret (.pick (dx r0 (pi 0)) (bY r0 (pi 100000)) pF))
theorem YA:F9.map told=some (RL,[]):=by kernel_rfl
theorem apX:tree (ae F9)=RL:=bj YA
def F7:Option PC:=cF [2] [] Tryz.f87 87 [1]
def RJ:PT:=
 (.ret (.pick (peq jW (pi 0)) pT (peq jW (pi 1))))
theorem Yw:F7.map told=some (RJ,[]):=by kernel_rfl
theorem apV:tree (ae F7)=RJ:=bj Yw
def Bk:Option PC:=cF [6,7,13,16,24,33,8,9] [] Tryz.f88 88 [3,4]
def ur:PT:=
 (.blockS ⟨[(12,(pc (.mk [r1]) 5))],[(4,(.mk [r1])),(3,(.mk [r0]))]⟩ 0 [6,7,13,14,16,17,24,25,33,34] []
 (.iteS ⟨[],[]⟩ (peq cj (pi 0)) [6,7,16,17,24,25,33,34] []
 (.ret (.tup [r2,(pi 0)]))
 (.iteS ⟨[],[]⟩ (peq cj (pi 1)) [6,7,24,25,33,34] []
 (.call ⟨[],[]⟩ [] 21 138 [r2,(.mk [(pc o4 5),(pc o4 6),(pc o4 7)])]
 (.ret (.tup [(.tget lM 0),(.tget lM 1)])))
 (.iteS ⟨[],[]⟩ (peq cj (pi 2)) [6,7,33,34] []
 (.call ⟨[],[]⟩ [] 30 138 [(pc o4 8),(.mk [(pc o4 5),(pc o4 6),(pc o4 7)])]
 (.ret (.tup [(.tget zY 0),(.tget zY 1)])))
 (.iteS ⟨[],[]⟩ (peq cj (pi 4)) [6,7] []
 (.call ⟨[],[]⟩ [] 41 99 [(aB 8 o3),(pc o4 9),(pc o4 10)]
 (.ret (.tup [(aP (pc o4 8) (.tget rZ 0)),(.tget rZ 1)])))
 (.next ⟨[],[]⟩)
 (.next ⟨[],[]⟩))
 (.next ⟨[],[]⟩))
 (.next ⟨[],[]⟩))
 (.next ⟨[],[]⟩))
 (.ret (.tup [(pc o4 6),(pi 0)])))
theorem Yy:Bk.map told=some (ur,[]):=by kernel_rfl
theorem Aw:tree (ae Bk)=ur:=bj Yy
def Bj:Option PC:=cF [4,5] [] Tryz.f138 138 [3]
def Av:PT:=
 (.ite (.pick (ao (pc (.mk [r1]) 1) (pi 0)) pT (bp (pc (.mk [r1]) 1) (pi 20000)))
 (.ret (.tup [(pi 0),(pi 3)]))
 (.iteS ⟨[],[(3,(.mk [r1]))]⟩ (peq (pc (.mk [r1]) 2) (pi 1)) [4,5] []
 (.call ⟨[],[]⟩ [] 20 165 [r0,(pc o3 1)]
 (.ret (.tup [(.tget eN 0),(.tget eN 1)])))
 (.next ⟨[],[]⟩)
 (.ret (.tup [(aP r0 (pc o3 1)),(pi 0)]))))
theorem Yx:Bj.map told=some (Av,[]):=by kernel_rfl
theorem Jv:tree (ae Bj)=Av:=bj Yx
def Bf:Option PC:=cF [4,5,6,7,8,9] [] Tryz.f165 165 []
def Jp:PT:=
 (.call ⟨[],[]⟩ [] 11 166 [r0]
 (.ite (.pick (.pick (.nt bQ) pT (ao r1 (pi (-5000)))) pT (bp r1 (pi 5000)))
 (.ret (.tup [(pi 0),(pi 3)]))
 (.call ⟨[],[]⟩ [] 23 201 [r0]
 (.chk (bk (pi 12) (pi 0))
 (.call ⟨[(41,(.tget lN 2)),(40,(aP (.ai .rem .i64 Ip (pi 12)) (pi 1))),(39,(.ai .quo .i64 Ip (pi 12)))],[]⟩ [] 44 203 [(.ai .quo .i64 Ip (pi 12)),(aP (.ai .rem .i64 Ip (pi 12)) (pi 1))]
 (.call ⟨[],[]⟩ [] 46 202 [DA,pg,(.mn rZ wI)]
 (.ret (.tup [(.tget Iy 0),(.tget Iy 1)]))))))))
theorem XQ:Bf.map told=some (Jp,[]):=by kernel_rfl
theorem aa5:tree (ae Bf)=Jp:=bj XQ
def Fx:Option PC:=cF [2] [] Tryz.f166 166 []
def Qx:PT:=
 (.ret (.pick (bY (pi 0) r0) (bY r0 (pi 100000)) pF))
theorem XX:Fx.map told=some (Qx,[]):=by kernel_rfl
theorem aoJ:tree (ae Fx)=Qx:=bj XX
def Ft:Option PC:=cF [2,3,4,5,6,7,8,9] [] Tryz.f201 201 []
def Qt:PT:=
 (.chk (bk (pi 146097) (pi 0))
 (.chk (bk (pi 1460) (pi 0))
 (.chk (bk (pi 36524) (pi 0))
 (.chk (bk (pi 146096) (pi 0))
 (.chk (bk (pi 365) (pi 0))
 (.chk (bk (pi 4) (pi 0))
 (.chk zW
 (.chk (bk (pi 153) (pi 0))
 (.chk (bk (pi 5) (pi 0))
 (.ret (.tup [(.pick (ao ZA (pi 3)) (aP ZD (pi 1)) ZD),ZA,(aP (bZ (bZ (.ai .rem .i64 (aP r0 (pi 730425)) (pi 146097)) (bZ (aP (.ai .mul .i64 (pi 365) wz) (.ai .quo .i64 wz (pi 4))) (.ai .quo .i64 wz (pi 100)))) (.ai .quo .i64 (aP (.ai .mul .i64 (pi 153) Is) (pi 2)) (pi 5))) (pi 1))])))))))))))
theorem XS:Ft.map told=some (Qt,[]):=by kernel_rfl
theorem aoE:tree (ae Ft)=Qt:=bj XS
def Fv:Option PC:=cF [4] [] Tryz.f203 203 []
def Jr:PT:=
 (.ite (peq r1 (pi 12))
 (.ret (pi 31))
 (.call ⟨[],[]⟩ [] 10 216 [r0,(aP r1 (pi 1)),(pi 1)]
 (.call ⟨[],[]⟩ [] 13 216 [r0,r1,(pi 1)]
 (.ret (bZ dL eC)))))
theorem XU:Fv.map told=some (Jr,[]):=by kernel_rfl
theorem aoH:tree (ae Fv)=Jr:=bj XU
def Bh:Option PC:=cF [6,0,1] [] Tryz.f216 216 []
def Js:PT:=
 (.chk (bk (pi 4) (pi 0))
 (.chk zW
 (.chk (bk (pi 400) (pi 0))
 (.chk (bk (pi 5) (pi 0))
 (.ret (bZ (bZ (aP (aP (aP (bZ (aP (.ai .mul .i64 (pi 365) Ir) (.ai .quo .i64 Ir (pi 4))) (.ai .quo .i64 Ir (pi 100))) (.ai .quo .i64 Ir (pi 400))) (.ai .quo .i64 (aP (.ai .mul .i64 (pi 153) (bZ (.pick (ao r1 (pi 3)) (aP r1 (pi 12)) r1) (pi 3))) (pi 2)) (pi 5))) r2) (pi 1)) (pi 730425)))))))
theorem XV:Bh.map told=some (Js,[]):=by kernel_rfl
theorem aa6:tree (ae Bh)=Js:=bj XV
def Bg:Option PC:=cF [6,7,8] [] Tryz.f202 202 []
def Au:PT:=
 (.call ⟨[(28,r2),(27,(.pick (.pick (.pick (.pick (ao r0 (pi 2000)) pT (bp r0 (pi 2300))) pT (ao r1 (pi 1))) pT (bp r1 (pi 12))) pT (ao r2 (pi 1))))],[]⟩ [(27,false)] 31 203 [r0,r1]
 (.ite (.pick fS pT (bp rY tX))
 (.ret (.tup [(pi 0),(pi 3)]))
 (.call ⟨[],[]⟩ [] 37 216 [r0,r1,r2]
 (.call ⟨[(8,pf)],[]⟩ [] 39 166 [pf]
 (.ite (.nt DA)
 (.ret (.tup [(pi 0),(pi 3)]))
 (.ret (.tup [r8,(pi 0)])))))))
theorem XR:Bg.map told=some (Au,[]):=by kernel_rfl
theorem Jq:tree (ae Bg)=Au:=bj XR
def xP:Option PC:=cF [6,7] [] Tryz.f99 99 [3,9]
def Kr:Nat→PC:=bB xP
def aku (b:Nat→PC):PC:=.block 0 [6,7,13,14] [] (.loop [6,7,13] [] (b 0))
def D0 (b:Nat→PC):PT:=
 (.ite (ao eC cj)
 (.chk (az bQ eC)
 (.ite (.pick (peq (pc (.setc z3 0 (pn bQ eC)) 0) r1) (peq (pc (.setc z3 0 (pn bQ eC)) 1) r2) pF)
 (.ret (.tup [(pc (.setc z3 0 (pn bQ eC)) 2),(pi 0)]))
 (.next ⟨[(13,(aP eC (pi 1)))],[]⟩)))
 (.exit 0 ⟨[(14,(ao eC cj))],[]⟩))
def Rg (b:Nat→PC):PT:=
 (.brk ⟨[(13,(pi 0)),(12,(.llen wD)),(11,wD),(7,(pi 0)),(6,(pi 0))],[]⟩
(aku b)
 (.ret (.tup [(pi 0),(pi 4)])))
def af0 (b:Nat→PC):PT×List (Shp×PT):=(Rg b,[(.lp 0 [6,7,13,14] [] [6,7,13] [],D0 b)])
theorem NU:xP.map told=some (af0 (bA xP)):=by kernel_rfl
theorem aps:tree (ae xP)=Rg Kr:=cd NU
theorem Pl:round 0 [6,7,13,14] [] [6,7,13] [] (Kr 0)=D0 Kr:=bx NU 0 fun _=>rfl
def yh:Option PC:=cF [6,7,8,2,9,10] [] Tryz.f89 89 [3]
def KE:Nat→PC:=bB yh
def akW (b:Nat→PC):PC:=.block 0 [] [] (.loop [2,6,7] [] (b 0))
def PJ (b:Nat→PC):PT:=
 (.blockS ⟨[],[]⟩ 1 [2,6,7,9,10,14,15,16,17,18,19,20,21,22,23,24,25,26,27,28,29,30,31,32,34] []
 (.call ⟨[],[]⟩ [] 17 139 [(aB 8 o3),r8,r2]
 (.chk (az (pc o3 1) r1)
 (.call ⟨[(2,qv)],[]⟩ [] 25 140 [(pn (pc o3 1) r1),qv]
 (.ite (bk (.tget jZ 1) (pi 0))
 (.ret (.tup [(pi 0),(pi 3)]))
 (.ite (peq (.tget jZ 0) r2)
 (.ret (.tup [r2,(pi 0)]))
 (.next ⟨[(2,(.tget jZ 0))],[]⟩))))))
 (.next ⟨[],[]⟩))
def RM (b:Nat→PC):PT:=
 (.call ⟨[(7,(pi 0)),(6,(pi 0))],[(3,(.mk [r0]))]⟩ [] 13 57 [lL,r1]
 (.brk ⟨[(8,eC)],[]⟩
(akW b)
 (.next ⟨[],[]⟩)))
def agl (b:Nat→PC):PT×List (Shp×PT):=(RM b,[(.lp 0 [] [] [2,6,7] [],PJ b)])
theorem N6:yh.map told=some (agl (bA yh)):=by kernel_rfl
theorem apY:tree (ae yh)=RM KE:=cd N6
theorem ana:round 0 [] [] [2,6,7] [] (KE 0)=PJ KE:=bx N6 0 fun _=>rfl
def yi:Option PC:=cF [6,7,2] [] Tryz.f139 139 [3,9]
def A4:Nat→PC:=bB yi
def akX (b:Nat→PC):PC:=.block 2 [2,7,14,15] [] (.loop [2,7,14] [] (b 0))
def akY (b:Nat→PC):PC:=.block 0 [2,7,10] [] (.loop [2,7] [] (b 1))
def Ae (b:Nat→PC):PT:=
 (.ite rX
 (.chk (az cj dj)
 (.next ⟨[(2,(.pick ZC (aP (pc zU 2) (pi 1)) r2)),(7,(.pick ZC pT r7)),(14,(aP dj (pi 1)))],[]⟩))
 (.exit 2 ⟨[(15,rX)],[]⟩))
def IX (b:Nat→PC):PT:=
 (.ite r7
 (.blockS ⟨[(10,r7)],[]⟩ 1 [2,7,11,12,13,14,15] []
 (.brk ⟨[(14,(pi 0)),(13,(.llen (pc o3 7))),(12,(pc o3 7)),(7,pF)],[]⟩
(akX b)
 (.next ⟨[],[]⟩))
 (.next ⟨[],[]⟩))
 (.exit 0 ⟨[(10,r7)],[]⟩))
def RN (b:Nat→PC):PT:=
 (.brk ⟨[(7,pT)],[(3,(.mk [r0]))]⟩
(akY b)
 (.ret r2))
def agm (b:Nat→PC):PT×List (Shp×PT):=(RN b,[(.lp 2 [2,7,14,15] [] [2,7,14] [],Ae b),(.lp 0 [2,7,10] [] [2,7] [],IX b)])
theorem H6:yi.map told=some (agm (bA yi)):=by kernel_rfl
theorem apZ:tree (ae yi)=RN A4:=cd H6
theorem IW:round 2 [2,7,14,15] [] [2,7,14] [] (A4 0)=Ae A4:=bx H6 0 fun _=>rfl
theorem aae:round 0 [2,7,10] [] [2,7] [] (A4 1)=IX A4:=bx H6 1 fun _=>rfl
def xw:Option PC:=cF [6] [] Tryz.f140 140 [2,4,5]
def Kb:Nat→PC:=bB xw
def ae3 (b:Nat→PC):PC:=.each kz [16] [4,5] (some (.tup [(pc o4 0),(pc o5 0)])) (b 0)
def OZ (b:Nat→PC):PT:=
 (.exit 1000000007 ⟨[],[(4,(.setc o4 0 eD)),(5,(.setc o5 0 (pi 0)))]⟩)
def Qs (b:Nat→PC):PT:=
 (.call ⟨[],[(5,Dy),(4,Dy),(2,(.mk [r0]))]⟩ [] 8 166 [r1]
 (.ite (.nt r8)
 (.ret (.tup [(pc (.setc o4 0 (pi 0)) 0),(pc (.setc o5 0 (pi 3)) 0)]))
 (.call ⟨[],[]⟩ [] 15 167 [(aB 6 o2),r1,(.mn (aP r1 (pi 400)) (pi 100000))]
 (.blockS ⟨[],[]⟩ 0 [] [4,5]
 (.callc ⟨[],[]⟩ [] 18 ji []
 (.brk ⟨[],[]⟩
(ae3 b)
 (.next ⟨[],[]⟩)))
 (.ret (.tup [(pc (.setc o4 0 (pi 0)) 0),(pc (.setc o5 0 (pi 3)) 0)]))))))
def afF (b:Nat→PC):PT×List (Shp×PT):=(Qs b,[(.ea [4,5],OZ b)])
theorem NF:xw.map told=some (afF (bA xw)):=by kernel_rfl
theorem aoD:tree (ae xw)=Qs Kb:=cd NF
theorem am5:pw [4,5] (Kb 0)=OZ Kb:=Qh NF 0 fun _=>rfl
def Fu:Option PC:=cF [6] [] Tryz.f167 167 [3,4,5]
def Qu:PT:=
 (.ret (.clo 204 [(.ref (pc (.mk [r1]) 0)),(.ref (pc (.mk [r2]) 0)),(.ref (aB 6 (.mk [r0])))]))
theorem XT:Fu.map told=some (Qu,[]):=by kernel_rfl
theorem aoG:tree (ae Fu)=Qu:=bj XT
def q7:Option PC:=Bs {ctx with fr:=[5],nh:=[]} Tryz.f204 [(.ref I),(.ref I),(.ref Y0)] [I] 1000 [1000]
def Kc:Nat→PC:=bB q7
def aj4 (b:Nat→PC):PC:=.block 0 [5,7,8,9] [1000] (.loop [5] [1000] (b 0))
def IG (b:Nat→PC):PT:=
 (.ite (bY r5 (.deref r2))
 (.blockS ⟨[],[]⟩ 1 [12,13,14,15,20] [1000]
 (.call ⟨[],[]⟩ [] 14 205 [(.deref r3),r5]
 (.call ⟨[(15,dj)],[(1000,Zz)]⟩ [(15,true)] 18 1000000009 [Zz]
 (.ite (.pick ji (.nt kz) pF)
 (.ret (.o 1000))
 (.next ⟨[],[]⟩))))
 (.next ⟨[(5,tV)],[]⟩))
 (.exit 0 ⟨[(7,r5),(8,(.deref r2)),(9,(bY r5 (.deref r2)))],[]⟩))
def Qv (b:Nat→PC):PT:=
 (.brk ⟨[(5,(.deref r1))],[]⟩
(aj4 b)
 (.ret (.o 1000)))
def afG (b:Nat→PC):PT×List (Shp×PT):=(Qv b,[(.lp 0 [5,7,8,9] [1000] [5] [1000],IG b)])
theorem NG:q7.map told=some (afG (bA q7)):=by kernel_rfl
theorem aoF:tree (ae q7)=Qv Kc:=cd NG
theorem Z4:round 0 [5,7,8,9] [1000] [5] [1000] (Kc 0)=IG Kc:=bx NG 0 fun _=>rfl
theorem adH:∀yv,Bs {ctx with fr:=[5],nh:=[],yv:=yv} Tryz.f204 [(.ref I),(.ref I),(.ref Y0)] [I] 1000 [1000]=some (ae q7):=fun yv=>(show _=q7 by kernel_rfl).trans (aF q7 NG)
def Fw:Option PC:=cF [4,5,6,7] [] Tryz.f205 205 [2]
def Qw:PT:=
 (.call ⟨[],[(2,(.mk [r0]))]⟩ [] 10 201 [r1]
 (.chk (bk (pi 7) (pi 0))
 (.call ⟨[(7,(.tget dL 2)),(6,(.tget dL 1))],[]⟩ [] 19 81 [(pc o2 3),(.ai .rem .i64 (aP r1 (pi 5)) (pi 7))]
 (.call ⟨[(21,(.nt iP))],[]⟩ [(21,true)] 28 81 [(pc o2 4),(aP (.ai .mul .i64 (pi 100) r6) r7)]
 (.call ⟨[(31,(.pick lM (.nt rY) pF))],[]⟩ [(31,true)] 35 81 [(pc o2 5),r1]
 (.ret (.pick tX (.nt wH) pF)))))))
theorem XW:Fw.map told=some (Qw,[]):=by kernel_rfl
theorem aoI:tree (ae Fw)=Qw:=bj XW
def FC:Option PC:=cF [4] [] Tryz.f7 7 [2,3]
def QD:PT:=
 (.call ⟨[],[(2,(.mk [r0]))]⟩ [] 7 31 [lL,(aB 19 (.mk [r1]))]
 (.call ⟨[(8,r7)],[]⟩ [(8,true)] 10 32 [(aB 8 o2)]
 (.ret (.pick r8 (peq dL (pi 0)) pF))))
theorem X2:FC.map told=some (QD,[]):=by kernel_rfl
theorem aoQ:tree (ae FC)=QD:=bj X2
def xM:Option PC:=cF [4,5] [] Tryz.f31 31 [2,3]
def Ko:Nat→PC:=bB xM
def akr (b:Nat→PC):PC:=.block 0 [4,5,14,15,16,17,18] [] (.loop [4,5] [] (b 0))
def DY (b:Nat→PC):PT:=
 (.ite (ao r5 (.llen (pc o2 4)))
 (.blockS ⟨[],[]⟩ 1 [4,21,22,23,24,25,26,27] []
 (.chk (az (pc o2 4) r5)
 (.call ⟨[],[]⟩ [] 26 63 [(pn (pc o2 4) r5)]
 (.ite (.nt mE)
 (.ret pF)
 (.next ⟨[],[]⟩))))
 (.next ⟨[(5,tV)],[]⟩))
 (.exit 0 ⟨[(14,r5),(15,pN),(16,(pc o2 4)),(17,(.llen (pc o2 4))),(18,(ao r5 (.llen (pc o2 4))))],[]⟩))
def Q7 (b:Nat→PC):PT:=
 (.call ⟨[(4,pF)],[(3,(.mk [r1])),(2,(.mk [r0]))]⟩ [] 7 61 [lL]
 (.call ⟨[(9,(.nt r7))],[]⟩ [(9,false)] 11 62 [(aB 19 o3)]
 (.ite (.pick r9 pT (.nt bQ))
 (.ret pF)
 (.brk ⟨[(5,(pi 0))],[]⟩
(akr b)
 (.ret pT)))))
def afX (b:Nat→PC):PT×List (Shp×PT):=(Q7 b,[(.lp 0 [4,5,14,15,16,17,18] [] [4,5] [],DY b)])
theorem NR:xM.map told=some (afX (bA xM)):=by kernel_rfl
theorem apj:tree (ae xM)=Q7 Ko:=cd NR
theorem Pj:round 0 [4,5,14,15,16,17,18] [] [4,5] [] (Ko 0)=DY Ko:=bx NR 0 fun _=>rfl
def xA:Option PC:=cF [2,3,4] [] Tryz.f61 61 [1]
def AS:Nat→PC:=bB xA
def aj8 (b:Nat→PC):PC:=.block 0 [2,3,5,6,7,8,9,10,13] [] (.loop [2,3] [] (b 0))
def aj9 (b:Nat→PC):PC:=.block 2 [2,4,44,45,46,47,48,49,52] [] (.loop [2,4] [] (b 1))
def wM (b:Nat→PC):PT:=
 (.ite (.pick (ao r3 kU) (ao r3 (pi 50)) pF)
 (.chk (az (pc o1 1) r3)
 (.chk (.nt (.an (.an (.nt (bp (.llen (pc (pn (pc o1 1) r3) 4)) (pi 70))) pT) (.nt (az (pc o1 1) r3))))
 (.chk (.nt (.an (.an (.nt Zu) pT) (.nt (az (pc o1 1) r3))))
 (.ite (.pick Zu pT (bp (.llen (pc (pn (pc o1 1) r3) 3)) (pi 8)))
 (.ret pF)
 (.next ⟨[(3,tW)],[]⟩)))))
 (.exit 0 ⟨[(5,r3),(6,pN),(7,(pc o1 1)),(8,kU),(9,(ao r3 kU)),(10,(ao r3 kU)),(13,(.pick (ao r3 kU) (ao r3 (pi 50)) pF))],[]⟩))
def Aa (b:Nat→PC):PT:=
 (.ite (.pick (ao r4 nB) (ao r4 (pi 50)) pF)
 (.chk (az (pc o1 4) r4)
 (.chk (.nt (.an (.an (.nt (bp (.llen (pc wC 2)) (pi 40))) pT) (.nt (az (pc o1 4) r4))))
 (.ite (.pick (bp (.llen (pc wC 2)) (pi 40)) pT (bp (.llen (pc wC 3)) (pi 40)))
 (.ret pF)
 (.next ⟨[(4,(aP r4 (pi 1)))],[]⟩))))
 (.exit 2 ⟨[(44,r4),(45,pN),(46,(pc o1 4)),(47,nB),(48,(ao r4 nB)),(49,(ao r4 nB)),(52,(.pick (ao r4 nB) (ao r4 (pi 50)) pF))],[]⟩))
def QO (b:Nat→PC):PT:=
 (.brk ⟨[(3,(pi 0)),(2,pF)],[(1,(.mk [r0]))]⟩
(aj8 b)
 (.brk ⟨[(4,(pi 0))],[]⟩
(aj9 b)
 (.ret (.pick (.pick (.pick (.pick (.pick (.pick (.pick (ao tU (pi 50)) (ao kU (pi 50)) pF) (ao qs (pi 50)) pF) (ao mD (pi 210)) pF) (ao nB (pi 50)) pF) (ao zX (pi 110)) pF) (ao (.llen (pc o1 6)) (pi 110)) pF) (ao wG (pi 50)) pF))))
def afK (b:Nat→PC):PT×List (Shp×PT):=(QO b,[(.lp 0 [2,3,5,6,7,8,9,10,13] [] [2,3] [],wM b),(.lp 2 [2,4,44,45,46,47,48,49,52] [] [2,4] [],Aa b)])
theorem HT:xA.map told=some (afK (bA xA)):=by kernel_rfl
theorem ao2:tree (ae xA)=QO AS:=cd HT
theorem DI:round 0 [2,3,5,6,7,8,9,10,13] [] [2,3] [] (AS 0)=wM AS:=bx HT 0 fun _=>rfl
theorem II:round 2 [2,4,44,45,46,47,48,49,52] [] [2,4] [] (AS 1)=Aa AS:=bx HT 1 fun _=>rfl
def FP:Option PC:=cF [2] [] Tryz.f62 62 [1]
def Q3:PT:=
 (.ret (.pick (.pick (.pick (bY (.llen (pc (.mk [r0]) 15)) (pi 50)) (bY (.llen (pc (.mk [r0]) 16)) (pi 10)) pF) (bY (.llen (pc (.mk [r0]) 17)) (pi 110)) pF) (bY (.llen (pc (.mk [r0]) 18)) (pi 220)) pF))
theorem Yf:FP.map told=some (Q3,[]):=by kernel_rfl
theorem apf:tree (ae FP)=Q3:=bj Yf
def xL:Option PC:=cF [2,3] [] Tryz.f63 63 [1]
def Km:Nat→PC:=bB xL
def akq (b:Nat→PC):PC:=.block 0 [2,3,14,15,16,17,18] [] (.loop [2,3] [] (b 0))
def DX (b:Nat→PC):PT:=
 (.ite (ao r3 mD)
 (.blockS ⟨[],[]⟩ 1 [2,21,22,23,24,25,26,27,28] []
 (.chk (az (pc o1 3) r3)
 (.call ⟨[],[]⟩ [] 27 107 [(.sub (pn (pc o1 3) r3) 1 3)]
 (.ite (.nt fS)
 (.ret pF)
 (.next ⟨[],[]⟩))))
 (.next ⟨[(3,tW)],[]⟩))
 (.exit 0 ⟨[(14,r3),(15,pN),(16,(pc o1 3)),(17,mD),(18,(ao r3 mD))],[]⟩))
def Q6 (b:Nat→PC):PT:=
 (.ite (.pick (bp (.llen (pc (.mk [r0]) 3)) (pi 60)) pT (bp oX (pi 60)))
 (.ret pF)
 (.brk ⟨[(3,(pi 0)),(2,pF)],[(1,(.mk [r0]))]⟩
(akq b)
 (.ret pT)))
def afW (b:Nat→PC):PT×List (Shp×PT):=(Q6 b,[(.lp 0 [2,3,14,15,16,17,18] [] [2,3] [],DX b)])
theorem NQ:xL.map told=some (afW (bA xL)):=by kernel_rfl
theorem api:tree (ae xL)=Q6 Km:=cd NQ
theorem Ph:round 0 [2,3,14,15,16,17,18] [] [2,3] [] (Km 0)=DX Km:=bx NQ 0 fun _=>rfl
def FQ:Option PC:=cF [2] [] Tryz.f107 107 [1]
def Q4:PT:=
 (.call ⟨[],[]⟩ [] 4 146 [(.mk [jW,oV,tT]),(pi 100),(pi 20)]
 (.ret (dx r4 (pi 0))))
theorem Yg:FQ.map told=some (Q4,[]):=by kernel_rfl
theorem apg:tree (ae FQ)=Q4:=bj Yg
def uU:Option PC:=cF [6,1,7] [] Tryz.f146 146 [3]
def Kl:Nat→PC:=bB uU
def akp (b:Nat→PC):PC:=.block 0 [1,7,12,13,14,15,16,17,20] [] (.loop [1,7] [] (b 0))
def DW (b:Nat→PC):PT:=
 (.ite (.pick (ao r7 nA) (dx r1 (pi 0)) pF)
 (.blockS ⟨[],[]⟩ 1 [1,23,24,25,26,27,28,29,30,31] []
 (.chk (az (pc o3 2) r7)
 (.call ⟨[],[]⟩ [] 31 146 [(pn (pc o3 2) r7),r1,(bZ r2 (pi 1))]
 (.next ⟨[(1,tX)],[]⟩)))
 (.next ⟨[(7,(aP r7 (pi 1)))],[]⟩))
 (.exit 0 ⟨[(12,r7),(13,pN),(14,(pc o3 2)),(15,nA),(16,(ao r7 nA)),(17,(ao r7 nA)),(20,(.pick (ao r7 nA) (dx r1 (pi 0)) pF))],[]⟩))
def Jt (b:Nat→PC):PT:=
 (.ite (ao r2 (pi 1))
 (.ret (pi (-1)))
 (.brk ⟨[(7,(pi 0)),(1,(bZ r1 (pi 1)))],[(3,(.mk [r0]))]⟩
(akp b)
 (.ret r1)))
def afV (b:Nat→PC):PT×List (Shp×PT):=(Jt b,[(.lp 0 [1,7,12,13,14,15,16,17,20] [] [1,7] [],DW b)])
theorem NP:uU.map told=some (afV (bA uU)):=by kernel_rfl
theorem aa7:tree (ae uU)=Jt Kl:=cd NP
theorem Pg:round 0 [1,7,12,13,14,15,16,17,20] [] [1,7] [] (Kl 0)=DW Kl:=bx NP 0 fun _=>rfl
def FL:Option PC:=cF [2,3] [] Tryz.f32 32 [1]
def QN:PT:=
 (.call ⟨[],[(1,(.mk [r0]))]⟩ [] 5 64 [lL]
 (.iteS ⟨[(3,r5)],[]⟩ (peq r5 (pi 0)) [3] []
 (.call ⟨[],[]⟩ [] 9 65 [(aB 8 o1)]
 (.next ⟨[(3,r9)],[]⟩))
 (.next ⟨[],[]⟩)
 (.iteS ⟨[],[]⟩ (peq r3 (pi 0)) [3] []
 (.call ⟨[],[]⟩ [] 13 66 [(aB 8 o1)]
 (.next ⟨[(3,eC)],[]⟩))
 (.next ⟨[],[]⟩)
 (.iteS ⟨[],[]⟩ (peq r3 (pi 0)) [3] []
 (.call ⟨[],[]⟩ [] 17 67 [(aB 8 o1)]
 (.next ⟨[(3,qv)],[]⟩))
 (.next ⟨[],[]⟩)
 (.iteS ⟨[],[]⟩ (peq r3 (pi 0)) [3] []
 (.call ⟨[],[]⟩ [] 21 68 [(aB 8 o1)]
 (.next ⟨[(3,lM)],[]⟩))
 (.next ⟨[],[]⟩)
 (.ret r3))))))
theorem Yb:FL.map told=some (QN,[]):=by kernel_rfl
theorem ao1:tree (ae FL)=QN:=bj Yb
def xF:Option PC:=cF [2,3,4,6,7] [] Tryz.f64 64 [1,5,44]
def AU:Nat→PC:=bB xF
def akf (b:Nat→PC):PC:=.block 0 [2,3,12,13,14,15,16] [] (.loop [2,3] [] (b 0))
def akg (b:Nat→PC):PC:=.block 2 [2,5,6,30,31,32,33,34] [5] (.loop [2,5,6] [5] (b 1))
def DO (b:Nat→PC):PT:=
 (.ite (ao r3 tU)
 (.blockS ⟨[],[]⟩ 1 [2,4,19,20,21,22,23,24] []
 (.call ⟨[],[]⟩ [] 22 108 [(pc o1 0),r3]
 (.ite (bk Ix (pi 0))
 (.ret Ix)
 (.next ⟨[],[]⟩)))
 (.next ⟨[(3,tW)],[]⟩))
 (.exit 0 ⟨[(12,r3),(13,pN),(14,(pc o1 0)),(15,tU),(16,(ao r3 tU))],[]⟩))
def DP (b:Nat→PC):PT:=
 (.ite (ao r6 kU)
 (.blockS ⟨[],[]⟩ 3 [2,5,7,38,39,40,41,42,43,44,45,46,47,48,49,50,52,53,54,55,56,57,58,59] [44,5]
 (.chk (az (pc o1 1) r6)
 (.chk (bY (.llen OE) cX)
 (.call ⟨[(5,pN)],[(5,OE)]⟩ [] 48 108 [OE,r6]
 (.ite (bk qx (pi 0))
 (.ret qx)
 (.chk (az (pc o1 1) r6)
 (.call ⟨[],[]⟩ [] 58 109 [(aB 8 o1),(pn (pc o1 1) r6)]
 (.ite (.nt IB)
 (.ret (pi 1))
 (.next ⟨[],[]⟩))))))))
 (.next ⟨[(6,(aP r6 (pi 1)))],[]⟩))
 (.exit 2 ⟨[(30,r6),(31,pN),(32,(pc o1 1)),(33,kU),(34,(ao r6 kU))],[]⟩))
def QV (b:Nat→PC):PT:=
 (.ite (bp (.llen jW) (pi 8))
 (.ret (pi 6))
 (.brk ⟨[(3,(pi 0)),(2,(pi 0))],[(1,(.mk [r0]))]⟩
(akf b)
 (.ite (bp kU (pi 40))
 (.ret (pi 6))
 (.brk ⟨[(6,(pi 0)),(5,pN)],[(5,pL)]⟩
(akg b)
 (.ret (pi 0))))))
def afP (b:Nat→PC):PT×List (Shp×PT):=(QV b,[(.lp 0 [2,3,12,13,14,15,16] [] [2,3] [],DO b),(.lp 2 [2,5,6,30,31,32,33,34] [5] [2,5,6] [5],DP b)])
theorem HV:xF.map told=some (afP (bA xF)):=by kernel_rfl
theorem ao9:tree (ae xF)=QV AU:=cd HV
theorem O8:round 0 [2,3,12,13,14,15,16] [] [2,3] [] (AU 0)=DO AU:=bx HV 0 fun _=>rfl
theorem O9:round 2 [2,5,6,30,31,32,33,34] [5] [2,5,6] [5] (AU 1)=DP AU:=bx HV 1 fun _=>rfl
def FO:Option PC:=cF [4] [] Tryz.f108 108 []
def QX:PT:=
 (.chk (az r0 r1)
 (.call ⟨[],[]⟩ [] 9 147 [(pn r0 r1)]
 (.ite (.nt r9)
 (.ret (pi 2))
 (.chk (az r0 r1)
 (.call ⟨[],[]⟩ [] 17 148 [r0,r1,(pn r0 r1)]
 (.ite qv
 (.ret (pi 5))
 (.ret (pi 0))))))))
theorem Ye:FO.map told=some (QX,[]):=by kernel_rfl
theorem apb:tree (ae FO)=QX:=bj Ye
def xB:Option PC:=cF [2,3,4] [] Tryz.f147 147 []
def Kg:Nat→PC:=bB xB
def aka (b:Nat→PC):PC:=.block 0 [2,3,13,14,15,16] [] (.loop [2,3] [] (b 0))
def DJ (b:Nat→PC):PT:=
 (.ite (ao r3 (.slen r0))
 (.blockS ⟨[],[]⟩ 1 [2,4,19,20,21,22,23,34,35,36,37,38,39,40,47] []
 (.chk (.sok r0 r3)
 (.chk (.nt (.an (.an (.nt OD) pT) (.nt (.sok r0 r3))))
 (.chk (.nt (.an (.an (bY (.con (.v (.int .u8 48))) (.sidx r0 r3)) (.an (.nt OD) pT)) (.nt (.sok r0 r3))))
 (.call ⟨[(4,(.pick OD pT (.pick (bY (.con (.v (.int .u8 48))) (.sidx r0 r3)) (bY (.sidx r0 r3) (.con (.v (.int .u8 57)))) pF)))],[]⟩ [] 38 172 [(.sidx r0 r3)]
 (.ite (.pick (.nt jj) (.pick (peq r3 (pi 0)) pT (.nt r4)) pF)
 (.ret pF)
 (.next ⟨[],[]⟩))))))
 (.next ⟨[(3,tW)],[]⟩))
 (.exit 0 ⟨[(13,r3),(14,r0),(15,(.slen r0)),(16,(ao r3 (.slen r0)))],[]⟩))
def QQ (b:Nat→PC):PT:=
 (.ite (.pick (ao (.slen r0) (pi 1)) pT (bp (.slen r0) (pi 20)))
 (.ret pF)
 (.brk ⟨[(3,(pi 0)),(2,pF)],[]⟩
(aka b)
 (.ret pT)))
def afL (b:Nat→PC):PT×List (Shp×PT):=(QQ b,[(.lp 0 [2,3,13,14,15,16] [] [2,3] [],DJ b)])
theorem NK:xB.map told=some (afL (bA xB)):=by kernel_rfl
theorem ao4:tree (ae xB)=QQ Kg:=cd NK
theorem O3:round 0 [2,3,13,14,15,16] [] [2,3] [] (Kg 0)=DJ Kg:=bx NK 0 fun _=>rfl
def FM:Option PC:=cF [2] [] Tryz.f172 172 []
def QP:PT:=
 (.ret (.pick (.pick (bY (.con (.v (.int .u8 97))) r0) (bY r0 (.con (.v (.int .u8 122)))) pF) pT (.pick (bY (.con (.v (.int .u8 65))) r0) (bY r0 (.con (.v (.int .u8 90)))) pF)))
theorem Yc:FM.map told=some (QP,[]):=by kernel_rfl
theorem ao3:tree (ae FM)=QP:=bj Yc
end Rm
