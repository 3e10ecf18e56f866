/-
  The functions of this seat, compiled (1).
-/
import Derived.Test.YtibbcfbmjlehcaaGreatDoorBAJ
import Derived.KernelRfl
set_option linter.defProp false
set_option linter.unusedVariables false
set_option maxRecDepth 100000
noncomputable section
namespace Rm
open Go Go.Proofs Cx
def AF:Option PC:=cF [10,11,12,13,14,15,16,17,18,19,20,21,24,25,26,27,28] [] Tryz.f5 5 [5,7,9,22,8214,23,8215]
def D5:Nat->PC:=bn AF
variable(b:Nat->PC)
def asQ:PC:=.block 0 [17,18,75,76,77,78] [] (.loop [17,18] [] (b 0))
def asR:PC:=.block 2 [24,171,172] [8215,8214] (.loop [24] [8215,8214] (b 1))
def ND (b:Nat->PC):PT:=
 (.ite (aj cf (.llen bN))
 (.blockS ⟨[],[]⟩ 1 [17,81,82,83,84,85] []
 (.chk (aq bN cf)
 (.call ⟨[],[]⟩ [] 85 12 [(pn bN cf)]
 (.ite C4
 (.chk (aq bN cf)
 (.next ⟨[(17,(.mx jW (pc (pn bN cf) 5)))],[]⟩))
 (.next ⟨[],[]⟩))))
 (.next ⟨[(18,(aF cf (pi 1)))],[]⟩))
 (.exit 0 ⟨[(75,cf),(76,bN),(77,(.llen bN)),(78,(aj cf (.llen bN)))],[]⟩))
def NF (b:Nat->PC):PT:=
 (.ite (aj ji (pi 10))
 (.chk (aq (.o 8214) ji)
 (.chk (aq (.o 8215) ji)
 (.next ⟨[(24,(aF ji (pi 1)))],[(8215,(.setn (.o 8215) ji 0 (.mk [(pi 1),(pi 1)]))),(8214,(.setn (.o 8214) ji 0 (.mk [(pi 0),(pi 1)])))]⟩)))
 (.exit 2 ⟨[(171,ji),(172,(aj ji (pi 10)))],[]⟩))
def XB:PT:=
 (.call ⟨[],[(9,(.mk [r4])),(7,(.mk [r2])),(5,(.mk [r0]))]⟩ [] 29 6 []
 (.call ⟨[(11,ml)],[]⟩ [] 33 7 [(aA 8 o5),(aA 19 o7),CX]
 (.ite (.nt rT)
 (.ret bK)
 (.call ⟨[],[]⟩ [] 42 10 [(aA 8 o5),r1,(aA 19 o7),r3,CX]
 (.call ⟨[(13,(.tget Nu 1)),(12,(.tget Nu 0))],[]⟩ [] 51 9 [(aA 8 o5),r1,(aA 19 o7),r3,CX]
 (.ite (aI dx (pi 0))
 (.ret (.pick (.pick (.pick bK (peq bR (pi 0)) pF) (peq (.tget kA 0) (pi 0)) pF) (peq (.tget kA 1) dx) pF))
 (.call ⟨[(15,(.tget kA 1)),(14,(.tget kA 0))],[]⟩ [] 74 11 [(aA 8 o5),r1,(aA 19 o7),r3]
 (.brk ⟨[(18,(pi 0)),(17,(pi 0)),(16,Nx)],[]⟩
(asQ b)
 (.ite (.pick (.pick (.pick (aj bX (pi 0)) pT (aS bX bR)) pT (aS bR jW)) pT (aj bR (pi 0)))
 (.ret pF)
 (.call ⟨[],[]⟩ [] 113 13 [(aA 8 o5),r1,(aA 19 o7),r3]
 (.ite (.pick (peq Nt (pi (-1))) pT (.pick (aS Nt r3) (aS (bm Nt r3) (pi 20000)) pF))
 (.ret (.pick bK (aI de (pi 0)) pF))
 (.call ⟨[],[]⟩ [] 141 14 [bR,(pc o9 0),(bm (.mx Nt r3) r3)]
 (.ite (.pick (.pick (aI de (pi 0)) pT (.pick (peq (.tget (.r 141) 1) (pi 0)) (aI bX (bm bR (.tget (.r 141) 0))) pF)) pT (.pick (aI (.tget (.r 141) 1) (pi 0)) (aI bX (pi 0)) pF))
 (.ret pF)
 (.chk (.an (bk (pi 10) (pi 0)) (bI (pi 10) cO))
 (.chk (peq (pi 10) (pi 10))
 (.brk ⟨[(24,(pi 0))],[(8215,(.rep (pi 10) z2)),(23,(.setc (.setc Vi 0 CX) 1 pN)),(8214,(.rep (pi 10) z2)),(22,(.setc (.setc Vi 0 CX) 1 pN))]⟩
(asR b)
 (.call ⟨[],[]⟩ [] 191 10 [(aA 8 o5),r1,(aA 19 o7),r3,(.mk [(pc o22 0),(.o 8214)])]
 (.call ⟨[(26,(.tget (.r 191) 1)),(25,(.tget (.r 191) 0))],[]⟩ [] 200 10 [(aA 8 o5),r1,(aA 19 o7),r3,(.mk [(pc o23 0),(.o 8215)])]
 (.ret (.pick (.pick (.pick (.pick bK (peq mj (pi 0)) pF) (peq jX jW) pF) (peq (.tget (.r 200) 1) (pi 0)) pF) (peq (.tget (.r 200) 0) (pi 0)) pF))))))))))))))))))))
def an1:PT×List (Shp×PT):=(XB b,[(.lp 0 [17,18,75,76,77,78] [] [17,18] [],ND b),(.lp 2 [24,171,172] [8215,8214] [24] [8215,8214],NF b)])
def Mw:AF.map told=some (an1 (bp AF)):=by kernel_rfl
def ayl:tree (ab AF)=XB D5:=bF Mw
def air:round 0 [17,18,75,76,77,78] [] [17,18] [] (D5 0)=ND D5:=bh Mw 0 λ_=>rfl
def ais:round 2 [24,171,172] [8215,8214] [24] [8215,8214] (D5 1)=NF D5:=bh Mw 1 λ_=>rfl
def JG:Option PC:=cF [0,2,3,4,5,6,7,8,9,10,11,12,13] [] Tryz.f6 6 [1,17]
def XG:PT:=
 (.call ⟨[],[]⟩ [] 14 15 []
 (.call ⟨[(16,(aA 8 ah0))],[(17,(.lst [(pi 0),(pi 1)])),(1,ah0)]⟩ [] 18 17 []
 (.call ⟨[],[]⟩ [] 19 16 [bN,Mt,cf]
 (.call ⟨[(23,(aA 8 o1)),(3,(.tget jC 1)),(2,(.tget jC 0))],[]⟩ [] 24 18 [(pi 1000),(pi 0)]
 (.call ⟨[],[]⟩ [] 25 17 []
 (.call ⟨[],[]⟩ [] 26 10 [gY,(pi 0),ji,(pi 4),jX]
 (.call ⟨[(30,(aA 8 o1)),(5,(.tget mj 1)),(4,(.tget mj 0))],[]⟩ [] 31 18 [(pi 1000),(pi 0)]
 (.call ⟨[],[]⟩ [] 32 17 []
 (.call ⟨[],[]⟩ [] 33 9 [rR,(pi 0),rS,(pi 4),wI]
 (.call ⟨[(37,(aA 8 o1)),(7,(.tget rT 1)),(6,(.tget rT 0))],[]⟩ [] 38 18 [(pi 1000),(pi 1)]
 (.call ⟨[],[]⟩ [] 39 17 []
 (.call ⟨[],[]⟩ [] 40 9 [mm,(pi 0),jD,(pi 4),qh]
 (.call ⟨[(44,(aA 8 o1)),(9,(.tget qj 1)),(8,(.tget qj 0))],[]⟩ [] 45 18 [(pi 600),(pi 1)]
 (.call ⟨[],[]⟩ [] 46 17 []
 (.call ⟨[],[]⟩ [] 47 10 [wJ,(pi 0),rV,(pi 4),CZ]
 (.call ⟨[(51,(aA 8 o1)),(11,(.tget C0 1)),(10,(.tget C0 0))],[]⟩ [] 52 18 [(pi 600),(pi 1)]
 (.call ⟨[],[]⟩ [] 53 17 []
 (.call ⟨[],[]⟩ [] 54 9 [kA,(pi 0),C1,(pi 4),Vw]
 (.call ⟨[(79,(.pick (.pick (.pick (.pick (.pick (aI r3 (pi 0)) pT (aI r5 (pi 0))) pT (aI r7 (pi 0))) pT (aI r9 (pi 0))) pT (aI bK (pi 0))) pT (aI (.tget mq 1) (pi 0)))),(12,(.tget mq 0))],[]⟩ [(79,false)] 81 19 [(.mk [(pi 0),pL])]
 (.ite (.pick r79 pT (aI wL (pi 1)))
 (.ret pF)
 (.call ⟨[(107,(aA 8 o1)),(106,(.pick (.pick (.pick (.pick (.pick (peq r2 (pi 50000000)) (peq r4 (pi 900)) pF) (peq r6 (pi 891)) pF) (peq r8 (pi 940)) pF) (peq dw (pi 770)) pF) (peq bR (pi 762)) pF))],[]⟩ [(106,true)] 108 18 [(pi 600),(pi 1)]
 (.call ⟨[],[]⟩ [(106,true)] 109 21 [avX,(pi 0),Ns,(pi 4),(pi 601)]
 (.call ⟨[],[]⟩ [(106,true)] 111 20 [aib,(.lst [(pi 1)])]
 (.ret (.pick Nr avY pF)))))))))))))))))))))))))
def age:JG.map told=some (XG,[]):=by kernel_rfl
def ayq:tree (ab JG)=XG:=aU age
def JF:Option PC:=cF [] [] Tryz.f15 15 [0,24576,28672,32768,1,12289,2,12290]
def XE:PT:=
 (.ret (.mk [(pc GU 0),(pc GU 1),(pc GU 2),(pc GU 3),(pc GU 4),pL,pL,pL]))
def agd:JF.map told=some (XE,[]):=by kernel_rfl
def ayo:tree (ab JF)=XE:=aU agd
def AG:Option PC:=cF [2] [] Tryz.f17 17 [0,1]
def PM:Nat->PC:=bn AG
def asS:PC:=.block 0 [2,4,5,6,7] [1] (.loop [2] [1] (b 0))
def NG (b:Nat->PC):PT:=
 (.ite (aj r2 (.llen o1))
 (.chk (aq o1 r2)
 (.next ⟨[(2,(aF r2 (pi 1)))],[(1,(.setn o1 r2 0 (.mk [(pi 1),(pi 1)])))]⟩))
 (.exit 0 ⟨[(4,r2),(5,r1),(6,(.llen o1)),(7,(aj r2 (.llen o1)))],[]⟩))
def XF:PT:=
 (.chk (.an (bk (pi 10) (pi 0)) (bI (pi 10) cO))
 (.chk (peq (pi 10) (pi 10))
 (.brk ⟨[(2,(pi 0)),(1,pN)],[(1,(.rep (pi 10) z2)),(0,Vi)]⟩
(asS b)
 (.chk (aq o1 (pi 3))
 (.chk (aq (.setn o1 (pi 3) 0 (.mk [(pi 1),(pi 10)])) (pi 5))
 (.ret (.mk [(pc ah2 0),(pc ah2 1)])))))))
def an2:PT×List (Shp×PT):=(XF b,[(.lp 0 [2,4,5,6,7] [1] [2] [1],NG b)])
def T3:AG.map told=some (an2 (bp AG)):=by kernel_rfl
def ayp:tree (ab AG)=XF PM:=bF T3
def ait:round 0 [2,4,5,6,7] [1] [2] [1] (PM 0)=NG PM:=bh T3 0 λ_=>rfl
def AL:Option PC:=cF [6,7,8,9,10] [] Tryz.f16 16 [3,5]
def PS:Nat->PC:=bn AL
def asZ:PC:=.block 0 [8,16,17] [] (.loop [8,16] [] (b 0))
def Hh (b:Nat->PC):PT:=
 (.ite (aj bN de)
 (.chk (aq bX bN)
 (.chk (.nt (.an (.an (aS bN (pi 0)) (.an (.nt (.pick (.pick r8 pT (aj mi (pi 0))) pT (bk mi nk))) pT)) (.nt (aq r1 (bm bN (pi 1))))))
 (.next ⟨[(8,(.pick (.pick (.pick r8 pT (aj mi (pi 0))) pT (bk mi nk)) pT (.pick (aS bN (pi 0)) (bk (pn r1 (bm bN (pi 1))) mi) pF))),(16,(aF bN (pi 1)))],[]⟩)))
 (.exit 0 ⟨[(17,(aj bN de))],[]⟩))
def XX:PT:=
 (.call ⟨[],[(5,(.mk [r2])),(3,(.mk [r0]))]⟩ [] 12 19 [(.mk [(pc (.mk [r2]) 0),(pc (.mk [r2]) 1)])]
 (.brk ⟨[(16,(pi 0)),(15,(.llen r1)),(14,r1),(8,(aI bR (pi 0)))],[]⟩
(asZ b)
 (.ite r8
 (.ret (.tup [(pi 0),(pi 1)]))
 (.call ⟨[],[]⟩ [] 51 30 [(aA 8 o3),r1,(.mk [(pc o5 0),(pc o5 1)])]
 (.ret (.tup [kA,(pi 0)]))))))
def an8:PT×List (Shp×PT):=(XX b,[(.lp 0 [8,16,17] [] [8,16] [],Hh b)])
def T8:AL.map told=some (an8 (bp AL)):=by kernel_rfl
def ayI:tree (ab AL)=XX PS:=bF T8
def VM:round 0 [8,16,17] [] [8,16] [] (PS 0)=Hh PS:=bh T8 0 λ_=>rfl
def JT:Option PC:=cF [2,3] [] Tryz.f19 19 [1]
def Dv:PT:=
 (.call ⟨[(18,(.pick (.pick (aj jV (pi 0)) pT (aS jV (pi 1000))) pT (aI (.llen lP) (pi 10))))],[]⟩ [(18,false)] 22 42 [lP,(.con (.clo 41 []))]
 (.ite (.pick cf pT qg)
 (.ret (pi 1))
 (.ret (pi 0))))
def ags:JT.map told=some (Dv,[]):=by kernel_rfl
def ayK:tree (ab JT)=Dv:=aU ags
def JU:Option PC:=cF [2] [] Tryz.f41 41 [1]
def XY:PT:=
 (.ret (.pick (.pick (.pick (aj lP (pi 1)) pT (aS lP (pi 1073741824))) pT (aj jV (pi 0))) pT (aS jV lP)))
def agt:JU.map told=some (XY,[]):=by kernel_rfl
def ayJ:tree (ab JU)=XY:=aU agt
def Kh:Option PC:=cF [4] [] Tryz.f42 42 []
def YQ:PT:=
 (.call ⟨[],[]⟩ [] 7 81 [r0,r1]
 (.ret (bk r7 (pi 0))))
def agS:Kh.map told=some (YQ,[]):=by kernel_rfl
def azF:tree (ab Kh)=YQ:=aU agS
def Bi:Option PC:=cF [4,5] [] Tryz.f81 81 []
def Qe:Nat->PC:=bn Bi
def atP:PC:=.block 0 [4,8,9] [] (.loop [4,8] [] (b 0))
def HW (b:Nat->PC):PT:=
 (.ite (aj r8 r7)
 (.blockS ⟨[],[]⟩ 1 [4,5,10,11,12,13,14,15,16] []
 (.chk (aq r0 r8)
 (.callc ⟨[(5,r8)],[]⟩ [] 16 r1 [(pn r0 r8)]
 (.ite bN
 (.ret r5)
 (.next ⟨[],[]⟩))))
 (.next ⟨[(8,uZ)],[]⟩))
 (.exit 0 ⟨[(9,(aj r8 r7))],[]⟩))
def YV:PT:=
 (.brk ⟨[(8,(pi 0)),(7,(.llen r0)),(4,(pi 0))],[]⟩
(atP b)
 (.ret (pi (-1))))
def aoH:PT×List (Shp×PT):=(YV b,[(.lp 0 [4,8,9] [] [4,8] [],HW b)])
def Ut:Bi.map told=some (aoH (bp Bi)):=by kernel_rfl
def azK:tree (ab Bi)=YV Qe:=bF Ut
def Wl:round 0 [4,8,9] [] [4,8] [] (Qe 0)=HW Qe:=bh Ut 0 λ_=>rfl
def AN:Option PC:=cF [6,7,9] [] Tryz.f30 30 [3,5,1,10]
def PV:Nat->PC:=bn AN
def as1:PC:=.block 0 [7,18,19] [] (.loop [7,18] [] (b 0))
def NM (b:Nat->PC):PT:=
 (.ite (aj cf jW)
 (.chk (aq o1 cf)
 (.chk (aq (pc o3 2) (pn o1 cf))
 (.chk (aq (pc o5 1) (pc (pn (pc o3 2) (pn o1 cf)) 0))
 (.chk (aI (pc Nk 1) (pi 0))
 (.next ⟨[(7,(.ai .quo .i64 (bm (aF (.ai .mul .i64 r7 (pc Nk 0)) (pc Nk 1)) (pi 1)) (pc Nk 1))),(18,(aF cf (pi 1)))],[]⟩)))))
 (.exit 0 ⟨[(19,(aj cf jW))],[]⟩))
def X2:PT:=
 (.call ⟨[],[(5,(.mk [r2])),(3,(.mk [r0]))]⟩ [] 12 60 [r1]
 (.mcall ⟨[],[(3,(aA 8 o3)),(1,bR)]⟩ 1000000013 61 [pN,(.clo 62 [(.ref (aA 8 o3))]),bR]
 (.brk ⟨[(18,(pi 0)),(17,(.llen GN)),(7,wE)],[(1,GN)]⟩
(as1 b)
 (.ret r7))))
def aoa:PT×List (Shp×PT):=(X2 b,[(.lp 0 [7,18,19] [] [7,18] [],NM b)])
def Ua:AN.map told=some (aoa (bp AN)):=by kernel_rfl
def ayQ:tree (ab AN)=X2 PV:=bF Ua
def aiz:round 0 [7,18,19] [] [7,18] [] (PV 0)=NM PV:=bh Ua 0 λ_=>rfl
def QA:Option PC:=cF [5] [] Tryz.f62 62 []
def ayP:PT:=
 (.chk (aq (pc (.deref r2) 2) r0)
 (.chk (aq (pc (.deref r2) 2) r1)
 (.ret (bm (pc (pn (pc (.deref r2) 2) r0) 0) (pc (pn (pc (.deref r2) 2) r1) 0)))))
def auD:QA.map told=some (ayP,[]):=by kernel_rfl
def JE:Option PC:=cF [] [] Tryz.f18 18 [4,69636,73732,5,6,7]
def XC:PT:=
 (.ret (.mk [(pc kX 0),(pc kX 1),(pc kX 2),(pc kX 3),(pc kX 4),(pc kX 5),(pc kX 6),(pc kX 7),(pc kX 8),(pc kX 9),(pc kX 10),(pc kX 11),(pc kX 12),(pc kX 13),(pc kX 14),(pc kX 15),pL,pL,(pc kX 18)]))
def agb:JE.map told=some (XC,[]):=by kernel_rfl
def aym:tree (ab JE)=XC:=aU agb
def AM:Option PC:=cF [10,11,13,14,15,18,19,20] [] Tryz.f10 10 [5,7,9,12,17,52]
def PU:Nat->PC:=bn AM
def as0:PC:=.block 0 [13,14,15,39,40] [] (.loop [13,14,15,39] [] (b 0))
def NL (b:Nat->PC):PT:=
 (.ite (aj qh jD)
 (.blockS ⟨[],[]⟩ 1 [13,14,15,17,41,42,43,44,45,46] [17]
 (.chk (aq TQ qh)
 (.ite (bI (pc Vf 5) de)
 (.exit 1 ⟨[],[]⟩)
 (.call ⟨[(47,(aA 8 o5))],[(17,Vf)]⟩ [] 52 31 [(aA 8 o5),TQ,(pc Vf 5)]
 (.call ⟨[],[]⟩ [] 54 30 [C0,C1,CX]
 (.chk (aI wE (pi 0))
 (.next ⟨[(15,(pc Mt 5)),(14,(.ai .rem .i64 ahJ wE)),(13,(aF (aF dx (.ai .mul .i64 (.ai .quo .i64 (bm (pc Mt 5) de) wE) (bm wE mq))) (.ai .quo .i64 ahJ wE)))],[]⟩))))))
 (.next ⟨[(39,(aF qh (pi 1)))],[]⟩))
 (.exit 0 ⟨[(40,(aj qh jD))],[]⟩))
def X1:PT:=
 (.call ⟨[],[(9,(.mk [r4])),(7,(.mk [r2])),(5,(.mk [r0]))]⟩ [] 22 19 [(.mk [(pc (.mk [r4]) 0),(pc (.mk [r4]) 1)])]
 (.call ⟨[(24,(aI qg (pi 0)))],[]⟩ [(24,false)] 27 26 [(aA 8 o5),r1]
 (.ite (.pick ji pT (.nt eF))
 (.ret (.tup [(pi 0),(pi 1)]))
 (.call ⟨[],[]⟩ [] 34 27 [(aA 8 o5),r1,(aA 19 o7),r3]
 (.mcall ⟨[(12,pN)],[(12,G3)]⟩ 1000000013 28 [pN,(.con (.clo 29 [])),G3]
 (.brk ⟨[(39,(pi 0)),(38,(.llen GN)),(15,(pi 0)),(14,(pi 0)),(13,(pi 0))],[(12,GN)]⟩
(as0 b)
 (.ret (.tup [dx,(pi 0)]))))))))
def an9:PT×List (Shp×PT):=(X1 b,[(.lp 0 [13,14,15,39,40] [] [13,14,15,39] [],NL b)])
def T9:AM.map told=some (an9 (bp AM)):=by kernel_rfl
def ayO:tree (ab AM)=X1 PU:=bF T9
def aiy:round 0 [13,14,15,39,40] [] [13,14,15,39] [] (PU 0)=NL PU:=bh T9 0 λ_=>rfl
def JX:Option PC:=cF [4] [] Tryz.f26 26 [2]
def X4:PT:=
 (.ret (.pick (bk r1 (pi 0)) (aj r1 GP) pF))
def agw:JX.map told=some (X4,[]):=by kernel_rfl
def ayS:tree (ab JX)=X4:=aU agw
def JY:Option PC:=cF [] [] Tryz.f27 27 [4,6,8]
def X5:PT:=
 (.call ⟨[],[]⟩ [] 13 11 [jU,r1,GS,r3]
 (.call ⟨[],[]⟩ [] 14 56 [dx,(.con (.clo 57 []))]
 (.ret bX)))
def agx:JY.map told=some (X5,[]):=by kernel_rfl
def ayU:tree (ab JY)=X5:=aU agx
def Av:Option PC:=cF [11] [] Tryz.f11 11 [4,6,8,9,10,28]
def PB:Nat->PC:=bn Av
def asJ:PC:=.block 0 [10,21,22] [10] (.loop [10,21] [10] (b 0))
def NB (b:Nat->PC):PT:=
 (.ite (aj jh fe)
 (.blockS ⟨[],[]⟩ 1 [10,11,23,25,26,27,28,29] [10,28]
 (.call ⟨[],[]⟩ [] 27 33 [(aA 31 o9),jh]
 (.chk (bI (.llen (.app cm (.lst [eF]))) cO)
 (.next ⟨[(10,pN)],[(10,(.app cm (.lst [eF])))]⟩)))
 (.next ⟨[(21,(aF jh (pi 1)))],[]⟩))
 (.exit 0 ⟨[(22,(aj jh fe))],[]⟩))
def Xg:PT:=
 (.call ⟨[],[]⟩ [] 16 32 [jU,r1,GS,r3]
 (.brk ⟨[(21,(pi 0)),(20,(.llen (pc (.setc Vk 0 bN) 25))),(10,pN)],[(10,pL),(9,(.setc Vk 0 bN))]⟩
(asJ b)
 (.ret cm)))
def anS:PT×List (Shp×PT):=(Xg b,[(.lp 0 [10,21,22] [10] [10,21] [10],NB b)])
def TS:Av.map told=some (anS (bp Av)):=by kernel_rfl
def axX:tree (ab Av)=Xg PB:=bF TS
def aip:round 0 [10,21,22] [10] [10,21] [10] (PB 0)=NB PB:=bh TS 0 λ_=>rfl
def Jp:Option PC:=cF [] [] Tryz.f32 32 [4,6,8,9]
def Xi:PT:=
 (.call ⟨[],[(8,Vk),(4,(.mk [r0]))]⟩ [] 12 34 [GS,r3]
 (.call ⟨[(16,(aA 19 (.setc zr 0 bR))),(15,r3),(14,r1),(13,(aA 8 o4))],[(9,(.setc zr 0 bR))]⟩ [] 21 36 [(aA 8 o4),r1,(pi 0),(aA 19 (.setc zr 0 bR)),r3]
 (.call ⟨[],[]⟩ [] 22 65 [jh]
 (.call ⟨[],[]⟩ [] 27 13 [(aA 8 o4),r1,(aA 19 o9),r3]
 (.ret (aA 31 (.setc o8 0 (.mk [dx,bX,de,bN,qg,eF]))))))))
def afT:Jp.map told=some (Xi,[]):=by kernel_rfl
def axZ:tree (ab Jp)=Xi:=aU afT
def Bc:Option PC:=cF [1000004,1000005] [] Tryz.f34 34 [2,4,65540,69636,73732,77828,5,65541,69637,73733,77829,7,31,9,49,11,13]
def ug:Nat->PC:=bn Bc
def atE:PC:=.block 0 [20,21] [65541,5] (.loop [20] [65541,5] (b 0))
def atG:PC:=.block 2 [38,39] [73733,5] (.loop [38] [73733,5] (b 1))
def atH:PC:=.block 4 [56,57] [5,69637] (.loop [56] [5,69637] (b 2))
def atI:PC:=.block 6 [76,77] [5,77829] (.loop [76] [5,77829] (b 3))
def HM (b:Nat->PC):PT:=
 (.ite (aj fe jC)
 (.chk (aq cf fe)
 (.ite (aS (pc (.setc z9 0 (pn cf fe)) 6) r1)
 (.exit 0 ⟨[(21,(aj fe jC))],[]⟩)
 (.chk (bI (.llen (.app (.o 65541) (.lst [(aA 9 (.setc z9 0 (pn cf fe)))]))) cO)
 (.next ⟨[(20,(aF fe (pi 1)))],[(65541,(.app (.o 65541) (.lst [(aA 9 (.setc z9 0 (pn cf fe)))]))),(5,(.setc o5 15 pN))]⟩))))
 (.exit 0 ⟨[(21,(aj fe jC))],[]⟩))
def HO (b:Nat->PC):PT:=
 (.ite (aj jD mm)
 (.chk (aq la jD)
 (.ite (aS (pc (.setc z9 0 (pn la jD)) 6) r1)
 (.exit 2 ⟨[(39,(aj jD mm))],[]⟩)
 (.chk (bI (.llen (.app (.o 73733) (.lst [(aA 9 (.setc z9 0 (pn la jD)))]))) cO)
 (.next ⟨[(38,(aF jD (pi 1)))],[(73733,(.app (.o 73733) (.lst [(aA 9 (.setc z9 0 (pn la jD)))]))),(5,(.setc o5 17 pN))]⟩))))
 (.exit 2 ⟨[(39,(aj jD mm))],[]⟩))
def HP (b:Nat->PC):PT:=
 (.ite (aj tC C2)
 (.chk (aq mq tC)
 (.ite (bI (pc (.setc z2 0 (pn mq tC)) 0) (.llen (.o 65541)))
 (.chk (bI (.llen ah7) cO)
 (.next ⟨[(56,(aF tC (pi 1)))],[(5,(.setc o5 16 pN)),(69637,ah7)]⟩))
 (.next ⟨[(56,(aF tC (pi 1)))],[]⟩)))
 (.exit 4 ⟨[(57,(aj tC C2))],[]⟩))
def HQ (b:Nat->PC):PT:=
 (.ite (aj u9 Vx)
 (.blockS ⟨[],[]⟩ 7 [13,78,79,80,81,82,83,84,85] [13,77829,5]
 (.chk (aq Nx u9)
 (.call ⟨[],[(13,(.setc z3 0 (pn Nx u9)))]⟩ [] 85 70 [(pc (.setc z3 0 (pn Nx u9)) 1),(.llen (.o 65541))]
 (.ite C4
 (.chk (bI (.llen ahS) cO)
 (.next ⟨[],[(77829,ahS),(5,(.setc o5 18 pN))]⟩))
 (.next ⟨[],[]⟩))))
 (.next ⟨[(76,(aF u9 (pi 1)))],[]⟩))
 (.exit 6 ⟨[(77,(aj u9 Vx))],[]⟩))
def YI:PT:=
 (.brk ⟨[(20,(pi 0)),(19,(.llen rM)),(18,rM)],[(77829,pL),(73733,pL),(69637,pL),(65541,pL),(5,(.setc zr 0 (.mk [(aA 15 (.mk [r0])),pL,pL,pL,pL]))),(4,zr),(2,(.mk [r0]))]⟩
(atE b)
 (.brk ⟨[(38,(pi 0)),(37,(.llen (pc o2 17))),(36,(pc o2 17))],[]⟩
(atG b)
 (.brk ⟨[(56,(pi 0)),(55,(.llen (pc o2 16))),(54,(pc o2 16))],[]⟩
(atH b)
 (.brk ⟨[(76,(pi 0)),(75,(.llen (pc o2 18))),(74,(pc o2 18))],[]⟩
(atI b)
 (.ret (.mk [(pc mh 0),(pc mh 1),(pc mh 2),(pc mh 3),(pc mh 4),(pc mh 5),(pc mh 6),(pc mh 7),(pc mh 8),(pc mh 9),(pc mh 10),(pc mh 11),(pc mh 12),(pc mh 13),(pc mh 14),(.o 65541),(.o 69637),(.o 73733),(.o 77829)]))))))
def aoB:PT×List (Shp×PT):=(YI b,[(.lp 0 [20,21] [65541,5] [20] [65541,5],HM b),(.lp 2 [38,39] [73733,5] [38] [73733,5],HO b),(.lp 4 [56,57] [5,69637] [56] [5,69637],HP b),(.lp 6 [76,77] [5,77829] [76] [5,77829],HQ b)])
def CC:Bc.map told=some (aoB (bp Bc)):=by kernel_rfl
def azw:tree (ab Bc)=YI ug:=bF CC
def Wc:round 0 [20,21] [65541,5] [20] [65541,5] (ug 0)=HM ug:=bh CC 0 λ_=>rfl
def Wd:round 2 [38,39] [73733,5] [38] [73733,5] (ug 1)=HO ug:=bh CC 1 λ_=>rfl
def We:round 4 [56,57] [5,69637] [56] [5,69637] (ug 2)=HP ug:=bh CC 2 λ_=>rfl
def Wf:round 6 [76,77] [5,77829] [76] [5,77829] (ug 3)=HQ ug:=bh CC 3 λ_=>rfl
def Kf:Option PC:=cF [4] [] Tryz.f70 70 []
def YN:PT:=
 (.ret Vg)
def agQ:Kf.map told=some (YN,[]):=by kernel_rfl
def azC:tree (ab Kf)=YN:=aU agQ
def Jh:Option PC:=cF [] [] Tryz.f36 36 [5,8,77832,10]
def W9:PT:=
 (.call ⟨[],[(10,CV)]⟩ [] 18 71 [jU,r1,r2,(.mk [(.mk [(pc kz 0),(pc kz 1),(pc kz 2),(pc kz 3),(pc kz 4),(pc kz 5),(pc kz 6),(pc kz 7),(pc kz 8),(pc kz 9),(pc kz 10),(pc kz 11),(pc kz 12),(pc kz 13),(pc kz 14),(pc kz 15),(pc kz 16),(pc kz 17),pL]),(pi 0),(pi (-1)),(pi (-1)),(pi (-1)),r4])]
 (.ret (aA 5 (.setc cm 0 cf))))
def afL:Jh.map told=some (W9,[]):=by kernel_rfl
def axP:tree (ab Jh)=W9:=aU afL
def Jg:Option PC:=cF [10] [] Tryz.f71 71 [4,7,8,9]
def W8:PT:=
 (.call ⟨[],[(8,CV),(4,(.mk [r0]))]⟩ [] 16 109 [jU,r1,r2,(aA 24 (.mk [r3]))]
 (.iteS ⟨[(10,(.tget bN 1))],[(9,(.setc CV 0 (.tget bN 0)))]⟩ (aI (pc (.setc CV 0 (.tget bN 0)) 2) (pi (-1))) [] [9]
 (.chk (aq (pc o4 4) (pc o9 2))
 (.call ⟨[],[]⟩ [] 31 110 [(pn (pc o4 4) (pc o9 2)),r2,dw]
 (.next ⟨[],[(9,(.setc (.setc o9 0 (.tget rS 0)) 4 (.tget rS 1)))]⟩)))
 (.next ⟨[],[]⟩)
 (.ret (aA 5 (.setc o8 0 (aA 5 o9))))))
def afK:Jg.map told=some (W8,[]):=by kernel_rfl
def axO:tree (ab Jg)=W8:=aU afK
def Jl:Option PC:=cF [9,11,12,13,14] [] Tryz.f109 109 [4,7,8,10,16394]
def Xd:PT:=
 (.call ⟨[],[(16394,pL),(10,(.setc CV 0 (.mk [gD,(pi (-1)),pL,(pi 1)]))),(8,CV),(7,(.mk [r3])),(4,(.mk [r0]))]⟩ [] 19 156 [jU,(aA 24 (.mk [r3]))]
 (.ite (peq (.llen (.tget jC 1)) (pi 0))
 (.ret (.tup [Vp,pL]))
 (.call ⟨[(11,(.tget jC 1))],[(7,(.setc o7 0 (.tget jC 0)))]⟩ [] 28 157 [r2]
 (.ite (.nt (.tget tA 1))
 (.ret (.tup [Vp,pL]))
 (.call ⟨[],[]⟩ [] 37 158 [(aA 8 o4),r1,(aA 24 o7)]
 (.ite (peq (.llen mm) (pi 0))
 (.ret (.tup [Vp,pL]))
 (.call ⟨[],[]⟩ [] 46 159 [(aA 8 o4),r1,r2,mm]
 (.ite (peq (pc zB 4) (pi 0))
 (.chk (aq (pc zB 3) (bm (.llen (pc zB 3)) (pi 1)))
 (.ret (.tup [(aA 5 (.setc o8 0 (aA 5 (.setc zB 2 (pn (pc zB 3) (bm (.llen (pc zB 3)) (pi 1))))))),bK])))
 (.ret (.tup [(aA 5 (.setc o8 0 (aA 5 zB))),bK]))))))))))
def afP:Jl.map told=some (Xd,[]):=by kernel_rfl
def axT:tree (ab Jl)=Xd:=aU afP
def Jm:Option PC:=cF [5] [] Tryz.f156 156 [2,3,4]
def Xe:PT:=
 (.call ⟨[],[(4,ahT),(3,(.mk [r1])),(2,(.mk [r0]))]⟩ [] 10 34 [(aA 19 (.mk [r1])),(pc (.mk [r1]) 23)]
 (.call ⟨[(12,(aA 24 (.setc o3 0 dw)))],[]⟩ [] 15 176 [(aA 8 o2),(aA 24 (.setc o3 0 dw))]
 (.ret (.tup [(aA 24 (.setc o4 0 bR)),de]))))
def afQ:Jm.map told=some (Xe,[]):=by kernel_rfl
def axU:tree (ab Jm)=Xe:=aU afQ
def Bf:Option PC:=cF [4,7,9,11,12,13,14,15,16] [] Tryz.f176 176 [2,3,5,6,8,10,90,139]
def Eh:Nat->PC:=bn Bf
def at6:PC:=.meach 90 [94,95,11,12] [0,1,0,1] [10] (b 0)
def at7:PC:=.meach 139 [143,144,15,16] [0,1,0,1] [10] (b 1)
def Wi (b:Nat->PC):PT:=
 (.chk (aq cm bK)
 (.next ⟨[],[(10,(.setn cm bK 0 (.mk [pT,bR])))]⟩))
def Wj (b:Nat->PC):PT:=
 (.blockS ⟨[],[]⟩ 3 [145,146,147,148,149] [10]
 (.call ⟨[(146,de)],[]⟩ [] 148 195 [bN]
 (.chk (aq cm (.r 146))
 (.next ⟨[],[(10,(.setn cm (.r 146) 0 (.r 148)))]⟩)))
 (.next ⟨[],[]⟩))
def w6:PT:=
 (.call ⟨[(7,(.mx (pc (.mk [r1]) 20) (pi 0)))],[(6,(.setc IE 0 (aA 15 (.mk [r1])))),(5,(.setc zr 0 (aA 19 (.mk [r1])))),(3,(.mk [r1])),(2,(.mk [r0]))]⟩ [] 30 70 [(pc (.mk [r1]) 19),(.llen (pc (.setc zr 0 (aA 19 (.mk [r1]))) 15))]
 (.call ⟨[(48,(aI (pc o3 22) (pi (-1)))),(44,(.pick (.pick (.nt rR) pT (aj (pc o3 20) (pi (-1)))) pT (bk r7 (.llen (pc o5 15)))))],[]⟩ [(48,true),(44,false)] 51 70 [(pc o3 22),(pi 100001)]
 (.ite (.pick wJ pT (.pick jY (.nt kA) pF))
 (.ret pL)
 (.chk (aq (pc o5 15) (pc o3 19))
 (.call ⟨[],[(8,(.setc z9 0 (pn (pc o5 15) (pc o3 19))))]⟩ [] 63 70 [(pc (.setc z9 0 (pn (pc o5 15) (pc o3 19))) 6),(pi 100001)]
 (.ite (.nt Nw)
 (.ret pL)
 (.chk (.an (bk (pi 20) (pi 0)) (bI (pi 20) cO))
 (.chk (peq (pi 20) (pi 20))
 (.chk (aj (.mlen (.con (.map []))) cO)
 (.chk (aj (.mlen (.put (.con (.map [])) (pi 0) (pc o6 3))) cO)
 (.chk (aj (.mlen (.put (.put (.con (.map [])) (pi 0) (pc o6 3)) (pi 1) (pc o6 14))) cO)
 (.chk (aj (.mlen Vl) cO)
 (.chk (aj (.mlen (.put Vl (pi 3) (pc o6 12))) cO)
 (.chk (aj (.mlen Vr) cO)
 (.chk (aj (.mlen (.put Vr (pi 5) (pc o3 21))) cO)
 (.blockS ⟨[(10,pN),(9,ahQ)],[(90,(.tup [(.lst []),(.put (.put Vr (pi 5) (pc o3 21)) (pi 6) ahQ)])),(10,(.rep (pi 20) gD))]⟩ 0 [] [10]
 (.brk ⟨[],[]⟩
(at6 b)
 (.exit 0 ⟨[],[]⟩))
 (.call ⟨[],[(3,(aA 24 o3))]⟩ [] 104 193 [(pc o5 16),(.clo 194 [(.ref (aA 24 o3))])]
 (.call ⟨[(13,avW)],[]⟩ [] 108 123 [(aA 8 o2),(pc o6 9)]
 (.call ⟨[],[]⟩ [] 112 123 [(aA 8 o2),(pc o6 10)]
 (.chk (aj (.mlen (.con (.map []))) cO)
 (.chk (aj (.mlen Vq) cO)
 (.chk (aj (.mlen (.put Vq (pi 8) (peq (pc o6 2) (pi (-1))))) cO)
 (.chk (aj (.mlen (.put (.put Vq (pi 8) (peq (pc o6 2) (pi (-1)))) (pi 9) (aI (.ai .and .i64 (pc o6 13) (pi 4)) (pi 0)))) cO)
 (.chk (aj (.mlen M8) cO)
 (.chk (aj (.mlen (.put M8 (pi 11) (aI Ns Vv))) cO)
 (.chk (aj (.mlen (.put (.put M8 (pi 11) (aI Ns Vv)) (pi 12) dx)) cO)
 (.chk (aj (.mlen ah1) cO)
 (.blockS ⟨[],[(139,(.tup [(.lst []),(.put ah1 (pi 14) (aS r9 (pi 0)))]))]⟩ 2 [] [10]
 (.brk ⟨[],[]⟩
(at7 b)
 (.exit 2 ⟨[],[]⟩))
 (.call ⟨[],[]⟩ [] 154 196 [(aA 19 o5),(pi 0),(pc o3 19)]
 (.chk (aq cm (pi 15))
 (.call ⟨[],[(10,(.setn cm (pi 15) 0 (.r 154)))]⟩ [] 160 196 [(aA 19 o5),(pi 1),(pc o3 19)]
 (.chk (aq cm (pi 16))
 (.call ⟨[],[(10,(.setn cm (pi 16) 0 (.r 160)))]⟩ [] 166 196 [(aA 19 o5),(pi 2),(pc o3 19)]
 (.chk (aq cm (pi 17))
 (.call ⟨[],[(10,(.setn cm (pi 17) 0 (.r 166)))]⟩ [] 171 196 [(aA 19 o5),(pi 3),r7]
 (.chk (aq cm (pi 18))
 (.call ⟨[],[(10,(.setn cm (pi 18) 0 (.r 171)))]⟩ [] 176 196 [(aA 19 o5),(pi 4),r7]
 (.chk (aq cm (pi 19))
 (.ret (.setn cm (pi 19) 0 (.r 176)))))))))))))))))))))))))))))))))))))))))
def aoE:PT×List (Shp×PT):=(w6 b,[(.ea [10],Wi b),(.ea [10],Wj b)])
def MI:Bf.map told=some (aoE (bp Bf)):=by kernel_rfl
def azA:tree (ab Bf)=w6 Eh:=bF MI
def awo:sc [10] (Eh 0)=Wi Eh:=W7 MI 0 λ_=>rfl
def awp:sc [10] (Eh 1)=Wj Eh:=W7 MI 1 λ_=>rfl
def Kd:Option PC:=cF [3] [] Tryz.f194 194 [2]
def YL:PT:=
 (.ret (bI jV (pc (.deref r1) 19)))
def agO:Kd.map told=some (YL,[]):=by kernel_rfl
def azz:tree (ab Kd)=YL:=aU agO
def Kg:Option PC:=cF [4] [] Tryz.f193 193 []
def YP:PT:=
 (.call ⟨[],[]⟩ [] 7 206 [r0,r1]
 (.ret (bk r7 (pi 0))))
def agR:Kg.map told=some (YP,[]):=by kernel_rfl
def azE:tree (ab Kg)=YP:=aU agR
def Bh:Option PC:=cF [4,5] [] Tryz.f206 206 []
def Qd:Nat->PC:=bn Bh
def atO:PC:=.block 0 [4,8,9] [] (.loop [4,8] [] (b 0))
def HV (b:Nat->PC):PT:=
 (.ite (aj r8 r7)
 (.blockS ⟨[],[]⟩ 1 [4,5,10,11,12,13,14,15,16] []
 (.chk (aq r0 r8)
 (.callc ⟨[(5,r8)],[]⟩ [] 16 r1 [(pn r0 r8)]
 (.ite bN
 (.ret r5)
 (.next ⟨[],[]⟩))))
 (.next ⟨[(8,uZ)],[]⟩))
 (.exit 0 ⟨[(9,(aj r8 r7))],[]⟩))
def YU:PT:=
 (.brk ⟨[(8,(pi 0)),(7,(.llen r0)),(4,(pi 0))],[]⟩
(atO b)
 (.ret (pi (-1))))
def aoG:PT×List (Shp×PT):=(YU b,[(.lp 0 [4,8,9] [] [4,8] [],HV b)])
def Us:Bh.map told=some (aoG (bp Bh)):=by kernel_rfl
def azJ:tree (ab Bh)=YU Qd:=bF Us
def Wk:round 0 [4,8,9] [] [4,8] [] (Qd 0)=HV Qd:=bh Us 0 λ_=>rfl
def Ka:Option PC:=cF [4] [] Tryz.f123 123 [2]
def Yw:PT:=
 (.call ⟨[],[(2,(.mk [r0]))]⟩ [] 9 116 [r1,(.llen lP)]
 (.ite (.nt r9)
 (.ret (pi (-1)))
 (.chk (aq (pc o2 1) r1)
 (.ret (pc (pn (pc o2 1) r1) 1)))))
def agL:Ka.map told=some (Yw,[]):=by kernel_rfl
def azl:tree (ab Ka)=Yw:=aU agL
def Kb:Option PC:=cF [4] [] Tryz.f116 116 []
def Yz:PT:=
 (.ret Vg)
def agM:Kb.map told=some (Yz,[]):=by kernel_rfl
def azo:tree (ab Kb)=Yz:=aU agM
def Ke:Option PC:=cF [] [] Tryz.f195 195 [2]
def YM:PT:=
 (.ite r0
 (.ret (.mk [(pc M1 0),(pc M1 1)]))
 (.ret (.mk [(pc M2 0),(pc M2 1)])))
def agP:Ke.map told=some (YM,[]):=by kernel_rfl
def azB:tree (ab Ke)=YM:=aU agP
def Bd:Option PC:=cF [] [] Tryz.f196 196 [3,6,8]
def Qc:Nat->PC:=bn Bd
def atJ:PC:=.block 0 [12,13] [6] (.loop [12] [6] (b 0))
def HR (b:Nat->PC):PT:=
 (.ite wC
 (.blockS ⟨[],[]⟩ 1 [8,14,15,16,17,18,19,20,25] [8,6]
 (.chk (aq dw bR)
 (.iteS ⟨[],[(8,(.setc z3 0 qf))]⟩ (.pick (peq (pc (.setc z3 0 qf) 0) r1) (peq (pc (.setc z3 0 qf) 1) r2) pF) [] [6]
 (.call ⟨[],[]⟩ [] 29 195 [(aI (pc o8 2) (pi 0))]
 (.ret (.mk [(pc (.setc o6 0 ml) 0),(pc (.setc o6 0 ml) 1)])))
 (.next ⟨[],[]⟩)
 (.next ⟨[],[]⟩)))
 (.next ⟨[(12,CQ)],[]⟩))
 (.exit 0 ⟨[(13,wC)],[]⟩))
def YJ:PT:=
 (.brk ⟨[(12,(pi 0)),(11,(.llen (pc (.mk [r0]) 18))),(10,(pc (.mk [r0]) 18))],[(6,gD)]⟩
(atJ b)
 (.ret (.mk [(pc (.setc o6 0 zw) 0),(pc (.setc o6 0 zw) 1)])))
def aoC:PT×List (Shp×PT):=(YJ b,[(.lp 0 [12,13] [6] [12] [6],HR b)])
def Ur:Bd.map told=some (aoC (bp Bd)):=by kernel_rfl
def azx:tree (ab Bd)=YJ Qc:=bF Ur
def Wg:round 0 [12,13] [6] [12] [6] (Qc 0)=HR Qc:=bh Ur 0 λ_=>rfl
def JL:Option PC:=cF [2,3,4,11] [] Tryz.f157 157 []
def XL:PT:=
 (.blockS ⟨[],[]⟩ 0 [2,3,4,5,6,7,10,11,12,13,14] []
 (.iteS ⟨[],[]⟩ (.pick (aj r0 (pi 0)) pT (bk r0 (pi 22))) [2,3,11,12,13,14] []
 (.ret (.tup [(pi 0),pF]))
 (.call ⟨[],[]⟩ [] 14 168 [(.lst [(pc tu 0),(pc tu 1),(pc tu 2),(pc tu 3),(pc tu 4),(pc tu 5),(pc tu 6),(pc tu 7),(pc tu 8),(pc tu 9)]),r0]
 (.ite bX
 (.ret (.tup [(pi 0),pT]))
 (.next ⟨[],[]⟩)))
 (.next ⟨[],[]⟩))
 (.ret (.tup [(pi 1),pT])))
def agk:JL.map told=some (XL,[]):=by kernel_rfl
def ayv:tree (ab JL)=XL:=aU agk
def Kj:Option PC:=cF [4] [] Tryz.f168 168 []
def YS:PT:=
 (.call ⟨[],[]⟩ [] 7 190 [r0,r1]
 (.ret (bk r7 (pi 0))))
def agU:Kj.map told=some (YS,[]):=by kernel_rfl
def azH:tree (ab Kj)=YS:=aU agU
def Bl:Option PC:=cF [4,5] [] Tryz.f190 190 []
def Qh:Nat->PC:=bn Bl
def atU:PC:=.block 0 [4,8,9] [] (.loop [4,8] [] (b 0))
def HZ (b:Nat->PC):PT:=
 (.ite (aj r8 r7)
 (.chk (aq r0 r8)
 (.ite (peq r1 (pn r0 r8))
 (.ret r8)
 (.next ⟨[(8,uZ)],[]⟩)))
 (.exit 0 ⟨[(9,(aj r8 r7))],[]⟩))
def YY:PT:=
 (.brk ⟨[(8,(pi 0)),(7,(.llen r0)),(4,(pi 0))],[]⟩
(atU b)
 (.ret (pi (-1))))
def aoK:PT×List (Shp×PT):=(YY b,[(.lp 0 [4,8,9] [] [4,8] [],HZ b)])
def Uw:Bl.map told=some (aoK (bp Bl)):=by kernel_rfl
def azN:tree (ab Bl)=YY Qh:=bF Uw
def Wo:round 0 [4,8,9] [] [4,8] [] (Qh 0)=HZ Qh:=bh Uw 0 λ_=>rfl
def AB:Option PC:=cF [8,9,11,12,13,14,55,70] [] Tryz.f159 159 [4,10,53]
def PK:Nat->PC:=bn AB
def asO:PC:=.block 0 [] [] (.loop [8,9,10] [10] (b 0))
def VI (b:Nat->PC):PT:=
 (.blockS ⟨[],[]⟩ 1 [8,9,10,11,12,13,14,32,33,35,36,37,38,39,40,41,42,43,44,45,46,49,50,52,53,54,55,56,57,58,68,70,71] [53,10]
 (.chk (aq cm (bm (.llen cm) (pi 1)))
 (.call ⟨[(11,(pn cm (bm (.llen cm) (pi 1))))],[]⟩ [] 41 178 [(aA 8 o4),(pn cm (bm (.llen cm) (pi 1))),r2,r3]
 (.ite (peq (.tget tB 0) bK)
 (.ret (.tup [cm,(pi 0)]))
 (.call ⟨[(13,(.tget tB 1)),(12,(.tget tB 0))],[]⟩ [] 50 168 [cm,(.tget tB 0)]
 (.chk (bI (.llen (.app cm (.lst [bR]))) cO)
 (.chk (.nt (.an (.an nl (.an (.nt (.nt dx)) pT)) (.nt (aq (pc o4 4) bR))))
 (.ite (.pick (.nt dx) pT (.pick nl (pc (pn (pc o4 4) bR) 1) pF))
 (.ret (.tup [(.app cm (.lst [bR])),(pi 0)]))
 (.ite nl
 (.ret (.tup [(.app cm (.lst [bR])),(pi 12)]))
 (.next ⟨[(10,pN)],[(10,(.app cm (.lst [bR])))]⟩)))))))))
 (.next ⟨[],[]⟩))
def Xy:PT:=
 (.call ⟨[(9,(pi 0)),(8,pL)],[(4,(.mk [r0]))]⟩ [] 19 177 [jU,r1,r2,r3]
 (.chk (.nt (.an (.an (.nt (.nt jC)) pT) (.nt (aq r3 (pi 0)))))
 (.ite (.pick (.nt jC) pT (aI (pn r3 (pi 0)) r1))
 (.ret (.tup [pL,(pi 1)]))
 (.brk ⟨[(10,pN)],[(10,(.lst [r1]))]⟩
(asO b)
 (.next ⟨[],[]⟩)))))
def anZ:PT×List (Shp×PT):=(Xy b,[(.lp 0 [] [] [8,9,10] [10],VI b)])
def TZ:AB.map told=some (anZ (bp AB)):=by kernel_rfl
def ayh:tree (ab AB)=Xy PK:=bF TZ
def awm:round 0 [] [] [8,9,10] [10] (PK 0)=VI PK:=bh TZ 0 λ_=>rfl
def JC:Option PC:=cF [8] [] Tryz.f177 177 [4,9]
def wZ:PT:=
 (.ite (.pick (.pick (.pick (.pick (aj r1 (pi 0)) pT (bk r1 (pc (.setc GQ 0 GP) 0))) pT (aj r2 (pi 0))) pT (bk r2 (pi 22))) pT (aI (.llen r3) (pi 5)))
 (.ret pF)
 (.call ⟨[],[]⟩ [] 35 197 [r3,(.clo 198 [(.ref (pc (.setc GQ 0 GP) 0))])]
 (.ret (.nt rU))))
def af9:JC.map told=some (wZ,[]):=by kernel_rfl
def ayk:tree (ab JC)=wZ:=aU af9
def JD:Option PC:=cF [3] [] Tryz.f198 198 []
def XA:PT:=
 (.ret (.pick (aj r0 (pi 0)) pT (bk r0 (.deref r1))))
def aga:JD.map told=some (XA,[]):=by kernel_rfl
def ayj:tree (ab JD)=XA:=aU aga
def Ki:Option PC:=cF [4] [] Tryz.f197 197 []
def YR:PT:=
 (.call ⟨[],[]⟩ [] 7 207 [r0,r1]
 (.ret (bk r7 (pi 0))))
def agT:Ki.map told=some (YR,[]):=by kernel_rfl
def azG:tree (ab Ki)=YR:=aU agT
def Bk:Option PC:=cF [4,5] [] Tryz.f207 207 []
def Qg:Nat->PC:=bn Bk
def atT:PC:=.block 0 [4,8,9] [] (.loop [4,8] [] (b 0))
def HY (b:Nat->PC):PT:=
 (.ite (aj r8 r7)
 (.blockS ⟨[],[]⟩ 1 [4,5,10,11,12,13,14,15,16] []
 (.chk (aq r0 r8)
 (.callc ⟨[(5,r8)],[]⟩ [] 16 r1 [(pn r0 r8)]
 (.ite bN
 (.ret r5)
 (.next ⟨[],[]⟩))))
 (.next ⟨[(8,uZ)],[]⟩))
 (.exit 0 ⟨[(9,(aj r8 r7))],[]⟩))
def YX:PT:=
 (.brk ⟨[(8,(pi 0)),(7,(.llen r0)),(4,(pi 0))],[]⟩
(atT b)
 (.ret (pi (-1))))
def aoJ:PT×List (Shp×PT):=(YX b,[(.lp 0 [4,8,9] [] [4,8] [],HY b)])
def Uv:Bk.map told=some (aoJ (bp Bk)):=by kernel_rfl
def azM:tree (ab Bk)=YX Qg:=bF Uv
def Wn:round 0 [4,8,9] [] [4,8] [] (Qg 0)=HY Qg:=bh Uv 0 λ_=>rfl
def AE:Option PC:=cF [8,9] [] Tryz.f178 178 [4,11]
def PL:Nat->PC:=bn AE
def asP:PC:=.block 0 [8,9,25,26] [] (.loop [8,9,25] [] (b 0))
def He (b:Nat->PC):PT:=
 (.ite (aj jX ji)
 (.chk (aq gY jX)
 (.ite (.pick (peq (pc GZ 0) r2) (aI (pc GZ 1) (pi 0)) pF)
 (.chk (aq r3 (pc GZ 1))
 (.ret (.tup [(pn r3 (pc GZ 1)),(pc GZ 2)])))
 (.next ⟨[(25,(aF jX (pi 1)))],[]⟩)))
 (.exit 0 ⟨[(26,(aj jX ji))],[]⟩))
def Xz:PT:=
 (.call ⟨[(9,pF),(8,(pi 0))],[(4,(.mk [r0]))]⟩ [] 16 177 [jU,r1,r2,r3]
 (.ite (.nt bN)
 (.ret (.tup [(pi (-1)),pF]))
 (.chk (aq (pc o4 4) r1)
 (.brk ⟨[(25,(pi 0)),(24,(.llen (pc (pn (pc o4 4) r1) 2))),(23,(pc (pn (pc o4 4) r1) 2))],[]⟩
(asP b)
 (.ret (.tup [r1,pF]))))))
def an0:PT×List (Shp×PT):=(Xz b,[(.lp 0 [8,9,25,26] [] [8,9,25] [],He b)])
def T2:AE.map told=some (an0 (bp AE)):=by kernel_rfl
def ayi:tree (ab AE)=Xz PL:=bF T2
def VJ:round 0 [8,9,25,26] [] [8,9,25] [] (PL 0)=He PL:=bh T2 0 λ_=>rfl
def JK:Option PC:=cF [7,9,11,12] [] Tryz.f110 110 [3,6,8,10]
def XK:PT:=
 (.call ⟨[],[(6,gD)]⟩ [] 16 160 [(aA 4 (.mk [r0])),r1]
 (.ite (aI (.tget bN 1) (pi 0))
 (.ret (.tup [(.mk [(pc (.setc o6 0 zw) 0),(pc (.setc o6 0 zw) 1)]),(.tget bN 1)]))
 (.call ⟨[],[]⟩ [] 25 161 [(.mk [(pc (.setc nj 0 (.tget bN 0)) 0),(pc (.setc nj 0 (.tget bN 0)) 1),(pc (.setc nj 0 (.tget bN 0)) 2)]),r2]
 (.call ⟨[],[(10,(.setc gD 0 jX))]⟩ [] 28 157 [r1]
 (.ret (.tup [(.mk [(pc (.setc o6 0 (.mk [(pc Nb 0),(pc Nb 1)])) 0),(pc (.setc o6 0 (.mk [(pc Nb 0),(pc Nb 1)])) 1)]),(pi 0)]))))))
def agj:JK.map told=some (XK,[]):=by kernel_rfl
def ayu:tree (ab JK)=XK:=aU agj
def JM:Option PC:=cF [5,6,7,8,10,11] [] Tryz.f160 160 [2,3,4,12292,9]
def XM:PT:=
 (.call ⟨[],[(4,nj),(3,(.mk [r1])),(2,(.mk [r0]))]⟩ [] 14 157 [(pc (.mk [r1]) 0)]
 (.ite (.nt (.tget bX 1))
 (.ret (.tup [Vo,(pi 1)]))
 (.call ⟨[(6,(.tget bX 0))],[]⟩ [] 23 179 [(pc o2 3),(.clo 180 [(.ref (pc o3 0))])]
 (.ite (aj gY (pi 0))
 (.ret (.tup [Vo,(pi 4)]))
 (.chk (aq (pc o2 3) gY)
 (.call ⟨[],[(9,Nl)]⟩ [] 35 181 [(.mk [(pc Nl 0),(pc Nl 1),(pc Nl 2)])]
 (.ite (.pick (aI (.tget rU 1) (pi 0)) pT (aI (.tget rU 0) r6))
 (.ret (.tup [Vo,(pi 11)]))
 (.ret (.tup [(.mk [(pc Vs 0),(pc Vs 1),(pc Vs 2)]),(pi 0)])))))))))
def agl:JM.map told=some (XM,[]):=by kernel_rfl
def ayx:tree (ab JM)=XM:=aU agl
def JN:Option PC:=cF [3] [] Tryz.f180 180 [2]
def XN:PT:=
 (.ret (peq jV (.deref r1)))
def agm:JN.map told=some (XN,[]):=by kernel_rfl
def ayw:tree (ab JN)=XN:=aU agm
def Bj:Option PC:=cF [4,5] [] Tryz.f179 179 []
def Qf:Nat->PC:=bn Bj
def atQ:PC:=.block 0 [4,8,9] [] (.loop [4,8] [] (b 0))
def HX (b:Nat->PC):PT:=
 (.ite (aj r8 r7)
 (.blockS ⟨[],[]⟩ 1 [4,5,10,11,12,13,14,15,16] []
 (.chk (aq r0 r8)
 (.callc ⟨[(5,r8)],[]⟩ [] 16 r1 [(pn r0 r8)]
 (.ite bN
 (.ret r5)
 (.next ⟨[],[]⟩))))
 (.next ⟨[(8,uZ)],[]⟩))
 (.exit 0 ⟨[(9,(aj r8 r7))],[]⟩))
def YW:PT:=
 (.brk ⟨[(8,(pi 0)),(7,(.llen r0)),(4,(pi 0))],[]⟩
(atQ b)
 (.ret (pi (-1))))
def aoI:PT×List (Shp×PT):=(YW b,[(.lp 0 [4,8,9] [] [4,8] [],HX b)])
def Uu:Bj.map told=some (aoI (bp Bj)):=by kernel_rfl
def azL:tree (ab Bj)=YW Qf:=bF Uu
def Wm:round 0 [4,8,9] [] [4,8] [] (Qf 0)=HX Qf:=bh Uu 0 λ_=>rfl
def Kp:Option PC:=cF [2,3] [] Tryz.f181 181 [1]
def Zh:PT:=
 (.call ⟨[],[(1,(.mk [r0]))]⟩ [] 5 199 [(.mk [jV,lP,zC]),(pi 1)]
 (.ite (aS r5 (pi 60))
 (.ret (.tup [(pi 0),(pi 6)]))
 (.call ⟨[],[]⟩ [] 8 200 [(.mk [(pc o1 0),(pc o1 1),(pc o1 2)])]
 (.ret (.tup [(.tget r8 0),(.tget r8 1)])))))
def ag2:Kp.map told=some (Zh,[]):=by kernel_rfl
def azV:tree (ab Kp)=Zh:=aU ag2
def xY:Option PC:=cF [4,5] [] Tryz.f199 199 [2,7,12295]
def Qm:Nat->PC:=bn xY
def at2:PC:=.block 0 [5,13,14] [] (.loop [5,13] [] (b 0))
def H4 (b:Nat->PC):PT:=
 (.ite (aj dx bR)
 (.blockS ⟨[(14,(aj dx bR))],[]⟩ 1 [5,7,15,16,17,18,19,20,21,22,23,24] [7,12295]
 (.chk (aq bK dx)
 (.call ⟨[(17,r5)],[]⟩ [] 21 199 [(.mk [(pc (.setc nj 0 (pn bK dx)) 0),(pc (.setc nj 0 (pn bK dx)) 1),(pc (.setc nj 0 (pn bK dx)) 2)]),(aF r1 (pi 1))]
 (.ite (aS (aF jW jh) (pi 60))
 (.exit 0 ⟨[(5,(aF jW jh))],[]⟩)
 (.next ⟨[(5,(aF jW jh))],[]⟩))))
 (.next ⟨[(13,(aF dx (pi 1)))],[]⟩))
 (.exit 0 ⟨[(14,(aj dx bR))],[]⟩))
def OO:PT:=
 (.ite (aS r1 (pi 8))
 (.ret (pi 61))
 (.brk ⟨[(13,(pi 0)),(12,rQ),(11,zC),(5,(pi 1))],[]⟩
(at2 b)
 (.ret r5)))
def aoR:PT×List (Shp×PT):=(OO b,[(.lp 0 [5,13,14] [] [5,13] [],H4 b)])
def UB:xY.map told=some (aoR (bp xY)):=by kernel_rfl
def ajA:tree (ab xY)=OO Qm:=bF UB
def Wt:round 0 [5,13,14] [] [5,13] [] (Qm 0)=H4 Qm:=bh UB 0 λ_=>rfl
end Rm
