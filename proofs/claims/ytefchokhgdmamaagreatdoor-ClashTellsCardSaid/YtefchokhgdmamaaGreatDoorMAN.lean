/-
  The functions of this seat, compiled (2).
-/
import Derived.Test.YtefchokhgdmamaaGreatDoorMAJ
import Derived.KernelRfl
set_option linter.defProp false
set_option linter.unusedVariables false
set_option maxRecDepth 100000
noncomputable section
namespace Rm
open Go Go.Proofs Cx
def Is:Option PC:=cF [4,5,6,7,8,9,10,11,12,13] [] Tryz.f157 157 []
def U4:PT:=
 (.chk (cB CE (pi 0))
 (.ret (.tup [(.ai .add .u64 (.ai .add .u64 (.ai .mul .u64 (.ai .shr .u64 r0 CE) (.ai .shr .u64 r1 CE)) (.ai .shr .u64 aeD CE)) (.ai .shr .u64 (.ai .add .u64 (.ai .and .u64 aeD (.con (.v (.int .u64 4294967295)))) (.ai .mul .u64 (.ai .and .u64 r0 (.con (.v (.int .u64 4294967295)))) (.ai .shr .u64 r1 CE))) CE)),(.ai .mul .u64 r0 r1)])))
def acN:Is.map told=some (U4,[]):=by kernel_rfl
def auW:tree (ae Is)=U4:=aU acN
def AP:Option PC:=cF [2,3,5,8] [] Tryz.f135 135 [6]
def DA:Nat->PC:=bI AP
variable(b:Nat->PC)
def aqy:PC:=.block 0 [3,11,12] [] (.loop [3,11] [] (b 0))
def aqz:PC:=.block 2 [6,27,28] [6] (.loop [6,27] [6] (b 1))
def MU (b:Nat->PC):PT:=
 (.ite wO
 (.chk (ak r9 bQ)
 (.ite (aj (bH r3 (.llen (pn r9 bQ))) (pi 0))
 (.chk (.nt pT)
 (.chk (.nt pT)
 (.next ⟨[(3,(bH r3 (.llen (pn r9 bQ)))),(11,Cy)],[]⟩)))
 (.next ⟨[(3,(bH r3 (.llen (pn r9 bQ)))),(11,Cy)],[]⟩)))
 (.exit 0 ⟨[(12,wO)],[]⟩))
def MV (b:Nat->PC):PT:=
 (.ite (aj gj sN)
 (.chk (ak hH gj)
 (.chk (bD (.llen (.app o6 (pn hH gj))) cI)
 (.next ⟨[(6,pN),(27,(bH gj (pi 1)))],[(6,(.app o6 (pn hH gj)))]⟩)))
 (.exit 2 ⟨[(28,(aj gj sN))],[]⟩))
def Wy:PT:=
 (.brk ⟨[(11,(pi 0)),(10,(.llen r0)),(9,r0),(3,(pi 0))],[]⟩
(aqy b)
 (.call ⟨[],[]⟩ [] 24 148 [pL,r3]
 (.brk ⟨[(27,(pi 0)),(26,(.llen r0)),(25,r0),(6,pN)],[(6,mu)]⟩
(aqz b)
 (.ret o6))))
def alB:PT×List (Shp×PT):=(Wy b,[(.lp 0 [3,11,12] [] [3,11] [],MU b),(.lp 2 [6,27,28] [6] [6,27] [6],MV b)])
def LR:AP.map told=some (alB (bz AP)):=by kernel_rfl
def awH:tree (ae AP)=Wy DA:=cl LR
def afD:round 0 [3,11,12] [] [3,11] [] (DA 0)=MU DA:=bl LR 0 λ_=>rfl
def afE:round 2 [6,27,28] [6] [6,27] [6] (DA 1)=MV DA:=bl LR 1 λ_=>rfl
def xO:Option PC:=cF [4,6,8] [] Tryz.f27 27 [5,29,32]
def Dr:Nat->PC:=bI xO
def apB:PC:=.block 2 [5,23,24] [5] (.loop [5,23] [5] (b 0))
def apC:PC:=.block 0 [5,6,13,14] [5] (.loop [5,6] [5] (b 1))
def Mw (b:Nat->PC):PT:=
 (.ite (aj ju p7)
 (.chk (ak kV ju)
 (.chk (bD (.llen (.app (.lst [r6]) (pn kV ju))) cI)
 (.chk (bD (.llen (.app o5 (.lst [(.app (.lst [r6]) (pn kV ju))]))) cI)
 (.next ⟨[(5,pN),(23,(bH ju (pi 1)))],[(5,(.app o5 (.lst [(.app (.lst [r6]) (pn kV ju))])))]⟩))))
 (.exit 2 ⟨[(24,(aj ju p7))],[]⟩))
def Mx:PT:=
 (.ite (aj r6 (pi 5))
 (.blockS ⟨[(14,(aj r6 (pi 5))),(13,r6)],[]⟩ 1 [5,17,18,19,20,21,22,23,24] [5]
 (.call ⟨[],[]⟩ [] 21 27 [(bx r0 (pi 1)),zc]
 (.brk ⟨[(23,(pi 0)),(22,(.llen kV))],[]⟩
(apB b)
 (.next ⟨[],[]⟩)))
 (.next ⟨[(6,zc)],[]⟩))
 (.exit 0 ⟨[(13,r6),(14,(aj r6 (pi 5)))],[]⟩))
def Nu:PT:=
 (.ite (af r0 (pi 0))
 (.ret (.lst [pL]))
 (.brk ⟨[(6,r1),(5,pN)],[(5,pL)]⟩
(apC b)
 (.ret o5)))
def akS:PT×List (Shp×PT):=(Nu b,[(.lp 2 [5,23,24] [5] [5,23] [5],Mw b),(.lp 0 [5,6,13,14] [5] [5,6] [5],Mx b)])
def LI:xO.map told=some (akS (bz xO)):=by kernel_rfl
def agA:tree (ae xO)=Nu Dr:=cl LI
def afj:round 2 [5,23,24] [5] [5,23] [5] (Dr 0)=Mw Dr:=bl LI 0 λ_=>rfl
def afk:round 0 [5,6,13,14] [5] [5,6] [5] (Dr 1)=Mx Dr:=bl LI 1 λ_=>rfl
def Aa:Option PC:=cF [7,8] [] Tryz.f28 28 [3,6]
def On:Nat->PC:=bI Aa
def apD:PC:=.block 0 [11,12] [3] (.loop [11] [3] (b 0))
def My (b:Nat->PC):PT:=
 (.ite wO
 (.blockS ⟨[],[]⟩ 1 [7,8,13,14,15,16,17,18,19,20,21,22,23,24,25,26,27,28,29,30,31] [3]
 (.chk (ak r9 bQ)
 (.call ⟨[(18,(pn r9 bQ)),(17,(ax 19 o3)),(7,bQ)],[]⟩ [] 21 61 [(ax 24 o3),(pn r9 bQ)]
 (.chk (cB (bx (bx (.llen r1) (pi 1)) r7) (pi 0))
 (.call ⟨[],[]⟩ [] 30 16 [gi,jU,kV,(.ai .and .i64 (.ai .shr .i64 r2 (bx (bx (.llen r1) (pi 1)) r7)) (pi 1))]
 (.next ⟨[],[(3,(.setc o3 0 zm))]⟩)))))
 (.next ⟨[(11,Cy)],[]⟩))
 (.exit 0 ⟨[(12,wO)],[]⟩))
def U8:PT:=
 (.brk ⟨[(11,(pi 0)),(10,(.llen r1)),(9,r1)],[(6,zf),(3,(.mk [r0]))]⟩
(apD b)
 (.ret (ax 24 (.setc o6 0 (ax 24 o3)))))
def akT:PT×List (Shp×PT):=(U8 b,[(.lp 0 [11,12] [3] [11] [3],My b)])
def Sa:Aa.map told=some (akT (bz Aa)):=by kernel_rfl
def au1:tree (ae Aa)=U8 On:=cl Sa
def afl:round 0 [11,12] [3] [11] [3] (On 0)=My On:=bl Sa 0 λ_=>rfl
def Iw:Option PC:=cF [4] [] Tryz.f61 61 [2]
def U9:PT:=
 (.ite (.pick (af r1 (pi 3)) pT (af r1 (pi 4)))
 (.ret (.mx (pi 0) (pc (.mk [r0]) 20)))
 (.ret (pc (.mk [r0]) 19)))
def acR:Iw.map told=some (U9,[]):=by kernel_rfl
def au2:tree (ae Iw)=U9:=aU acR
def Ah:Option PC:=cF [4,5] [] Tryz.f12 12 []
def Ox:Nat->PC:=bI Ah
def apM:PC:=.block 0 [4,5,11,12,13,14] [] (.loop [4,5] [] (b 0))
def Gr (b:Nat->PC):PT:=
 (.ite (aj r5 (.llen r0))
 (.chk (ak r0 r5)
 (.chk (ak r1 r5)
 (.ite (aW (pn r0 r5) (pn r1 r5))
 (.ret pF)
 (.next ⟨[(5,wT)],[]⟩))))
 (.exit 0 ⟨[(11,r5),(12,r0),(13,(.llen r0)),(14,(aj r5 (.llen r0)))],[]⟩))
def Vx:PT:=
 (.ite (aW (.llen r0) (.llen r1))
 (.ret pF)
 (.brk ⟨[(5,(pi 0)),(4,pF)],[]⟩
(apM b)
 (.ret pT)))
def ak1:PT×List (Shp×PT):=(Vx b,[(.lp 0 [4,5,11,12,13,14] [] [4,5] [],Gr b)])
def Si:Ah.map told=some (ak1 (bz Ah)):=by kernel_rfl
def avs:tree (ae Ah)=Vx Ox:=cl Si
def TU:round 0 [4,5,11,12,13,14] [] [4,5] [] (Ox 0)=Gr Ox:=bl Si 0 λ_=>rfl
def DH:Option PC:=cF [4] [] Tryz.f9 9 [2,3]
def Vi:PT:=
 (.call ⟨[],[(3,(.mk [r1])),(2,(.mk [r0]))]⟩ [] 8 24 [ky,(ax 19 (.mk [r1]))]
 (.call ⟨[(9,r8)],[]⟩ [(9,true)] 11 25 [(ax 8 o2)]
 (.call ⟨[(14,(.pick r9 (af bQ (pi 0)) pF))],[]⟩ [(14,true)] 17 26 [(ax 19 o3)]
 (.call ⟨[(19,(.pick cG gi pF))],[]⟩ [(19,true)] 23 21 [(ax 8 o2),(ax 19 o3)]
 (.ret (.pick gR (af ju (pi 0)) pF))))))
def acY:DH.map told=some (Vi,[]):=by kernel_rfl
def avc:tree (ae DH)=Vi:=aU acY
def Au:Option PC:=cF [4,5] [] Tryz.f24 24 [2,3]
def OI:Nat->PC:=bI Au
def ap6:PC:=.block 0 [4,5,14,15,16,17,18] [] (.loop [4,5] [] (b 0))
def GB (b:Nat->PC):PT:=
 (.ite (aj r5 (.llen (pc o2 4)))
 (.blockS ⟨[],[]⟩ 1 [4,21,22,23,24,25,26,27] []
 (.chk (ak (pc o2 4) r5)
 (.call ⟨[],[]⟩ [] 26 49 [(pn (pc o2 4) r5)]
 (.ite (.nt sN)
 (.ret pF)
 (.next ⟨[],[]⟩))))
 (.next ⟨[(5,wT)],[]⟩))
 (.exit 0 ⟨[(14,r5),(15,pN),(16,(pc o2 4)),(17,(.llen (pc o2 4))),(18,(aj r5 (.llen (pc o2 4))))],[]⟩))
def V2:PT:=
 (.call ⟨[(4,pF)],[(3,(.mk [r1])),(2,(.mk [r0]))]⟩ [] 7 47 [ky]
 (.call ⟨[(9,(.nt r7))],[]⟩ [(9,false)] 11 48 [(ax 19 o3)]
 (.ite (.pick r9 pT (.nt bQ))
 (.ret pF)
 (.brk ⟨[(5,(pi 0))],[]⟩
(ap6 b)
 (.ret pT)))))
def alf:PT×List (Shp×PT):=(V2 b,[(.lp 0 [4,5,14,15,16,17,18] [] [4,5] [],GB b)])
def Su:Au.map told=some (alf (bz Au)):=by kernel_rfl
def av8:tree (ae Au)=V2 OI:=cl Su
def T6:round 0 [4,5,14,15,16,17,18] [] [4,5] [] (OI 0)=GB OI:=bl Su 0 λ_=>rfl
def Ai:Option PC:=cF [2,3,4] [] Tryz.f47 47 [1]
def Dt:Nat->PC:=bI Ai
def apN:PC:=.block 0 [2,3,5,6,7,8,9,10,13] [] (.loop [2,3] [] (b 0))
def apO:PC:=.block 2 [2,4,44,45,46,47,48,49,52] [] (.loop [2,4] [] (b 1))
def zr (b:Nat->PC):PT:=
 (.ite (.pick (aj r3 wS) (aj r3 (pi 50)) pF)
 (.chk (ak (pc o1 1) r3)
 (.chk (.nt (.an (.an (.nt (bP (.llen (pc (pn (pc o1 1) r3) 4)) (pi 70))) pT) (.nt (ak (pc o1 1) r3))))
 (.chk (.nt (.an (.an (.nt aeK) pT) (.nt (ak (pc o1 1) r3))))
 (.ite (.pick aeK pT (bP (.llen (pc (pn (pc o1 1) r3) 3)) (pi 8)))
 (.ret pF)
 (.next ⟨[(3,(bH r3 (pi 1)))],[]⟩)))))
 (.exit 0 ⟨[(5,r3),(6,pN),(7,(pc o1 1)),(8,wS),(9,(aj r3 wS)),(10,(aj r3 wS)),(13,(.pick (aj r3 wS) (aj r3 (pi 50)) pF))],[]⟩))
def CM (b:Nat->PC):PT:=
 (.ite (.pick (aj r4 wR) (aj r4 (pi 50)) pF)
 (.chk (ak (pc o1 4) r4)
 (.chk (.nt (.an (.an (.nt (bP (.llen (pc (pn (pc o1 4) r4) 2)) (pi 40))) pT) (.nt (ak (pc o1 4) r4))))
 (.ite (.pick (bP (.llen (pc (pn (pc o1 4) r4) 2)) (pi 40)) pT (bP (.llen (pc (pn (pc o1 4) r4) 3)) (pi 40)))
 (.ret pF)
 (.next ⟨[(4,(bH r4 (pi 1)))],[]⟩))))
 (.exit 2 ⟨[(44,r4),(45,pN),(46,(pc o1 4)),(47,wR),(48,(aj r4 wR)),(49,(aj r4 wR)),(52,(.pick (aj r4 wR) (aj r4 (pi 50)) pF))],[]⟩))
def Vy:PT:=
 (.brk ⟨[(3,(pi 0)),(2,pF)],[(1,(.mk [r0]))]⟩
(apN b)
 (.brk ⟨[(4,(pi 0))],[]⟩
(apO b)
 (.ret (.pick (.pick (.pick (.pick (.pick (.pick (.pick (aj (.llen (pc o1 0)) (pi 50)) (aj wS (pi 50)) pF) (aj CB (pi 50)) pF) (aj CA (pi 210)) pF) (aj wR (pi 50)) pF) (aj (.llen (pc o1 5)) (pi 110)) pF) (aj (.llen (pc o1 6)) (pi 110)) pF) (aj (.llen (pc o1 7)) (pi 50)) pF))))
def ak2:PT×List (Shp×PT):=(Vy b,[(.lp 0 [2,3,5,6,7,8,9,10,13] [] [2,3] [],zr b),(.lp 2 [2,4,44,45,46,47,48,49,52] [] [2,4] [],CM b)])
def LK:Ai.map told=some (ak2 (bz Ai)):=by kernel_rfl
def avt:tree (ae Ai)=Vy Dt:=cl LK
def Gs:round 0 [2,3,5,6,7,8,9,10,13] [] [2,3] [] (Dt 0)=zr Dt:=bl LK 0 λ_=>rfl
def MC:round 2 [2,4,44,45,46,47,48,49,52] [] [2,4] [] (Dt 1)=CM Dt:=bl LK 1 λ_=>rfl
def IU:Option PC:=cF [2] [] Tryz.f48 48 [1]
def VF:PT:=
 (.ret (.pick (.pick (.pick (bD (.llen sI) (pi 50)) (bD (.llen (pc (.mk [r0]) 16)) (pi 10)) pF) (bD (.llen (pc (.mk [r0]) 17)) (pi 110)) pF) (bD F8 (pi 220)) pF))
def adg:IU.map told=some (VF,[]):=by kernel_rfl
def avB:tree (ae IU)=VF:=aU adg
def Ap:Option PC:=cF [2,3] [] Tryz.f49 49 [1]
def OD:Nat->PC:=bI Ap
def ap1:PC:=.block 0 [2,3,14,15,16,17,18] [] (.loop [2,3] [] (b 0))
def Gy (b:Nat->PC):PT:=
 (.ite (aj r3 CA)
 (.blockS ⟨[],[]⟩ 1 [2,21,22,23,24,25,26,27,28] []
 (.chk (ak (pc o1 3) r3)
 (.call ⟨[],[]⟩ [] 27 78 [(.sub (pn (pc o1 3) r3) 1 3)]
 (.ite (.nt gj)
 (.ret pF)
 (.next ⟨[],[]⟩))))
 (.next ⟨[(3,(bH r3 (pi 1)))],[]⟩))
 (.exit 0 ⟨[(14,r3),(15,pN),(16,(pc o1 3)),(17,CA),(18,(aj r3 CA))],[]⟩))
def VR:PT:=
 (.ite (.pick (bP (.llen (pc (.mk [r0]) 3)) (pi 60)) pT (bP sM (pi 60)))
 (.ret pF)
 (.brk ⟨[(3,(pi 0)),(2,pF)],[(1,(.mk [r0]))]⟩
(ap1 b)
 (.ret pT)))
def ala:PT×List (Shp×PT):=(VR b,[(.lp 0 [2,3,14,15,16,17,18] [] [2,3] [],Gy b)])
def So:Ap.map told=some (ala (bz Ap)):=by kernel_rfl
def avX:tree (ae Ap)=VR OD:=cl So
def T2:round 0 [2,3,14,15,16,17,18] [] [2,3] [] (OD 0)=Gy OD:=bl So 0 λ_=>rfl
def I1:Option PC:=cF [2] [] Tryz.f78 78 [1]
def VL:PT:=
 (.call ⟨[],[]⟩ [] 4 100 [F9,(pi 100),(pi 20)]
 (.ret (cB r4 (pi 0))))
def adn:I1.map told=some (VL,[]):=by kernel_rfl
def avK:tree (ae I1)=VL:=aU adn
def xQ:Option PC:=cF [6,1,7] [] Tryz.f100 100 [3]
def OB:Nat->PC:=bI xQ
def apZ:PC:=.block 0 [1,7,12,13,14,15,16,17,20] [] (.loop [1,7] [] (b 0))
def Gw (b:Nat->PC):PT:=
 (.ite (.pick (aj r7 p5) (cB r1 (pi 0)) pF)
 (.blockS ⟨[],[]⟩ 1 [1,23,24,25,26,27,28,29,30,31] []
 (.chk (ak (pc o3 2) r7)
 (.call ⟨[],[]⟩ [] 31 100 [(pn (pc o3 2) r7),r1,(bx r2 (pi 1))]
 (.next ⟨[(1,sP)],[]⟩)))
 (.next ⟨[(7,(bH r7 (pi 1)))],[]⟩))
 (.exit 0 ⟨[(12,r7),(13,pN),(14,(pc o3 2)),(15,p5),(16,(aj r7 p5)),(17,(aj r7 p5)),(20,(.pick (aj r7 p5) (cB r1 (pi 0)) pF))],[]⟩))
def NA:PT:=
 (.ite (aj r2 (pi 1))
 (.ret (pi (-1)))
 (.brk ⟨[(7,(pi 0)),(1,(bx r1 (pi 1)))],[(3,(.mk [r0]))]⟩
(apZ b)
 (.ret r1)))
def ak8:PT×List (Shp×PT):=(NA b,[(.lp 0 [1,7,12,13,14,15,16,17,20] [] [1,7] [],Gw b)])
def Sm:xQ.map told=some (ak8 (bz xQ)):=by kernel_rfl
def agC:tree (ae xQ)=NA OB:=cl Sm
def TY:round 0 [1,7,12,13,14,15,16,17,20] [] [1,7] [] (OB 0)=Gw OB:=bl Sm 0 λ_=>rfl
def AB:Option PC:=cF [2,3,4,5,6,7,10,11,12] [] Tryz.f25 25 [1,9]
def OO:Nat->PC:=bI AB
def aqe:PC:=.block 0 [2,38,39] [] (.loop [2,38] [] (b 0))
def GH (b:Nat->PC):PT:=
 (.ite (aj lI rq)
 (.blockS ⟨[],[]⟩ 1 [2,9,40,41,42,43,44,45] [9]
 (.chk (ak m4 lI)
 (.call ⟨[],[]⟩ [] 44 55 [(pc (.setc (.con (.agg [(.int 0)])) 0 (pn m4 lI)) 0),(pi 10)]
 (.ite (.nt Gc)
 (.ret (pi 1))
 (.next ⟨[],[]⟩))))
 (.next ⟨[(38,(bH lI (pi 1)))],[]⟩))
 (.exit 0 ⟨[(39,(aj lI rq))],[]⟩))
def Wc:PT:=
 (.call ⟨[(2,(pi 0))],[(1,(.mk [r0]))]⟩ [] 15 50 [ky]
 (.call ⟨[(5,(.tget fj 2)),(4,(.tget fj 1)),(3,(.tget fj 0))],[]⟩ [] 21 51 [(pc o1 0),(pi 8),(.con (.clo 52 []))]
 (.ite (aW kV (pi 0))
 (.ret kV)
 (.call ⟨[],[(1,(ax 8 o1))]⟩ [] 27 51 [r3,(pi 40),(.clo 53 [(.ref (ax 8 o1))])]
 (.ite (aW gj (pi 0))
 (.ret gj)
 (.ite (bP CB (pi 20))
 (.ret (pi 6))
 (.brk ⟨[(38,(pi 0)),(37,CB),(36,(pc o1 2))],[]⟩
(aqe b)
 (.call ⟨[],[]⟩ [] 49 51 [r4,(pi 200),(.clo 56 [(.ref o1)])]
 (.ite (aW wX (pi 0))
 (.ret wX)
 (.call ⟨[],[]⟩ [] 55 51 [r5,(pi 20),(.clo 57 [(.ref o1)])]
 (.ite (aW CI (pi 0))
 (.ret CI)
 (.call ⟨[],[]⟩ [] 60 59 [(.sub o1 0 8)]
 (.ite (aW uY (pi 0))
 (.ret uY)
 (.call ⟨[],[]⟩ [] 65 60 [(.sub o1 0 8)]
 (.ret uZ)))))))))))))))
def aln:PT×List (Shp×PT):=(Wc b,[(.lp 0 [2,38,39] [] [2,38] [],GH b)])
def SA:AB.map told=some (aln (bz AB)):=by kernel_rfl
def awo:tree (ae AB)=Wc OO:=cl SA
def Ub:round 0 [2,38,39] [] [2,38] [] (OO 0)=GH OO:=bl SA 0 λ_=>rfl
def AH:Option PC:=cF [] [] Tryz.f50 50 [1,2,3,4,6,16390,20486,24582,21,8,34,10,12298,16394,47]
def xM:Nat->PC:=bI AH
def aqj:PC:=.block 0 [2,14,15] [2] (.loop [2,14] [2] (b 0))
def aqk:PC:=.block 2 [3,27,28] [3] (.loop [3,27] [3] (b 1))
def aql:PC:=.block 4 [4,40,41] [4] (.loop [4,40] [4] (b 2))
def MO (b:Nat->PC):PT:=
 (.ite (aj cG dS)
 (.chk (ak cP cG)
 (.chk (bD (.llen aeH) cI)
 (.next ⟨[(2,pN),(14,(bH cG (pi 1)))],[(2,aeH)]⟩)))
 (.exit 0 ⟨[(15,(aj cG dS))],[]⟩))
def MQ (b:Nat->PC):PT:=
 (.ite (aj gj sN)
 (.chk (ak hH gj)
 (.chk (bD (.llen aeL) cI)
 (.next ⟨[(3,pN),(27,(bH gj (pi 1)))],[(3,aeL)]⟩)))
 (.exit 2 ⟨[(28,(aj gj sN))],[]⟩))
def MR (b:Nat->PC):PT:=
 (.ite (aj p8 Mo)
 (.chk (ak lI p8)
 (.chk (bD (.llen aeI) cI)
 (.next ⟨[(4,pN),(40,(bH p8 (pi 1)))],[(4,aeI)]⟩)))
 (.exit 4 ⟨[(41,(aj p8 Mo))],[]⟩))
def Wo:PT:=
 (.brk ⟨[(14,(pi 0)),(13,(.llen mY)),(12,mY),(4,pN),(3,pN),(2,pN)],[(4,pL),(3,pL),(2,pL),(1,(.mk [r0]))]⟩
(aqj b)
 (.brk ⟨[(27,(pi 0)),(26,CA),(25,(pc o1 3))],[]⟩
(aqk b)
 (.brk ⟨[(40,(pi 0)),(39,wR),(38,(pc o1 4))],[]⟩
(aql b)
 (.ret (.tup [o2,o3,o4])))))
def als:PT×List (Shp×PT):=(Wo b,[(.lp 0 [2,14,15] [2] [2,14] [2],MO b),(.lp 2 [3,27,28] [3] [3,27] [3],MQ b),(.lp 4 [4,40,41] [4] [4,40] [4],MR b)])
def FP:AH.map told=some (als (bz AH)):=by kernel_rfl
def aww:tree (ae AH)=Wo xM:=cl FP
def afz:round 0 [2,14,15] [2] [2,14] [2] (xM 0)=MO xM:=bl FP 0 λ_=>rfl
def afA:round 2 [3,27,28] [3] [3,27] [3] (xM 1)=MQ xM:=bl FP 1 λ_=>rfl
def afB:round 4 [4,40,41] [4] [4,40] [4] (xM 2)=MR xM:=bl FP 2 λ_=>rfl
def AF:Option PC:=cF [6,7,8] [] Tryz.f51 51 []
def OR:Nat->PC:=bI AF
def aqh:PC:=.block 0 [6,15,16] [] (.loop [6,15] [] (b 0))
def GK (b:Nat->PC):PT:=
 (.ite (aj fj cG)
 (.blockS ⟨[],[]⟩ 1 [6,7,8,17,18,19,20,21,22,24,25,26,27] []
 (.call ⟨[(7,fj)],[]⟩ [] 20 79 [r0,fj]
 (.ite (aW gS (pi 0))
 (.ret gS)
 (.callc ⟨[],[]⟩ [] 26 r2 [r7]
 (.ite (.nt sN)
 (.ret (pi 1))
 (.next ⟨[],[]⟩)))))
 (.next ⟨[(15,(bH fj (pi 1)))],[]⟩))
 (.exit 0 ⟨[(16,(aj fj cG))],[]⟩))
def Wk:PT:=
 (.ite (bP (.llen r0) r1)
 (.ret (pi 6))
 (.brk ⟨[(15,(pi 0)),(14,(.llen r0)),(6,(pi 0))],[]⟩
(aqh b)
 (.ret (pi 0))))
def alq:PT×List (Shp×PT):=(Wk b,[(.lp 0 [6,15,16] [] [6,15] [],GK b)])
def SD:AF.map told=some (alq (bz AF)):=by kernel_rfl
def aws:tree (ae AF)=Wk OR:=cl SD
def Ue:round 0 [6,15,16] [] [6,15] [] (OR 0)=GK OR:=bl SD 0 λ_=>rfl
def Js:Option PC:=cF [4] [] Tryz.f79 79 []
def Wn:PT:=
 (.chk (ak r0 r1)
 (.call ⟨[],[]⟩ [] 9 101 [(pn r0 r1)]
 (.ite (.nt r9)
 (.ret (pi 2))
 (.chk (.slok r0 (pi 0) r1)
 (.chk (ak r0 r1)
 (.call ⟨[],[]⟩ [] 18 102 [(.slc r0 (pi 0) r1),(pn r0 r1)]
 (.ite jU
 (.ret (pi 5))
 (.ret (pi 0)))))))))
def adO:Js.map told=some (Wn,[]):=by kernel_rfl
def awv:tree (ae Js)=Wn:=aU adO
def AG:Option PC:=cF [2,3,4,5] [] Tryz.f101 101 []
def OS:Nat->PC:=bI AG
def aqi:PC:=.block 0 [2,16,17] [] (.loop [2,16] [] (b 0))
def GL (b:Nat->PC):PT:=
 (.ite (aj dt fj)
 (.chk (ak cG dt)
 (.ite (.pick (.nt (.pick (.pick (cB (pn cG dt) (.con (.v (.int .u8 97)))) (bD (pn cG dt) (.con (.v (.int .u8 122)))) pF) pT (.pick (cB (pn cG dt) (.con (.v (.int .u8 65)))) (bD (pn cG dt) (.con (.v (.int .u8 90)))) pF))) (.pick (af dt (pi 0)) pT (.pick (aW (pn cG dt) (.con (.v (.int .u8 95)))) (.pick (aj (pn cG dt) (.con (.v (.int .u8 48)))) pT (bP (pn cG dt) (.con (.v (.int .u8 57))))) pF)) pF)
 (.ret pF)
 (.next ⟨[(16,(bH dt (pi 1)))],[]⟩)))
 (.exit 0 ⟨[(17,(aj dt fj))],[]⟩))
def Wm:PT:=
 (.ite (.pick (.cs .eql r0 (.con (.v (.string ⟨#[]⟩)))) pT (bP (.slen r0) (pi 20)))
 (.ret pF)
 (.chk (bD (.slen r0) cI)
 (.brk ⟨[(16,(pi 0)),(15,(.llen (.bytes r0))),(14,(.bytes r0)),(2,pF)],[]⟩
(aqi b)
 (.ret pT))))
def alr:PT×List (Shp×PT):=(Wm b,[(.lp 0 [2,16,17] [] [2,16] [],GL b)])
def SF:AG.map told=some (alr (bz AG)):=by kernel_rfl
def awu:tree (ae AG)=Wm OS:=cl SF
def Uf:round 0 [2,16,17] [] [2,16] [] (OS 0)=GL OS:=bl SF 0 λ_=>rfl
def Jz:Option PC:=cF [4] [] Tryz.f102 102 []
def WC:PT:=
 (.call ⟨[],[]⟩ [] 7 122 [r0,r1]
 (.ret (cB r7 (pi 0))))
def adV:Jz.map told=some (WC,[]):=by kernel_rfl
def awL:tree (ae Jz)=WC:=aU adV
def AV:Option PC:=cF [4,5] [] Tryz.f122 122 []
def O0:Nat->PC:=bI AV
def aqF:PC:=.block 0 [4,8,9] [] (.loop [4,8] [] (b 0))
def G1 (b:Nat->PC):PT:=
 (.ite (aj r8 r7)
 (.chk (ak r0 r8)
 (.ite (.cs .eql r1 (pn r0 r8))
 (.ret r8)
 (.next ⟨[(8,rn)],[]⟩)))
 (.exit 0 ⟨[(9,(aj r8 r7))],[]⟩))
def WJ:PT:=
 (.brk ⟨[(8,(pi 0)),(7,(.llen r0)),(4,(pi 0))],[]⟩
(aqF b)
 (.ret (pi (-1))))
def alH:PT×List (Shp×PT):=(WJ b,[(.lp 0 [4,8,9] [] [4,8] [],G1 b)])
def SN:AV.map told=some (alH (bz AV)):=by kernel_rfl
def awR:tree (ae AV)=WJ O0:=cl SN
def Uw:round 0 [4,8,9] [] [4,8] [] (O0 0)=G1 O0:=bl SN 0 λ_=>rfl
def Jm:Option PC:=cF [2] [] Tryz.f52 52 []
def Wd:PT:=
 (.ret pT)
def adI:Jm.map told=some (Wd,[]):=by kernel_rfl
def awk:tree (ae Jm)=Wd:=aU adI
def Jn:Option PC:=cF [3] [] Tryz.f53 53 []
def We:PT:=
 (.chk (ak (pc (.deref r1) 1) r0)
 (.call ⟨[],[]⟩ [] 10 54 [(.deref r1),(pn (pc (.deref r1) 1) r0)]
 (.ret cC)))
def adJ:Jn.map told=some (We,[]):=by kernel_rfl
def awl:tree (ae Jn)=We:=aU adJ
def AE:Option PC:=cF [4,6] [] Tryz.f54 54 [2,3]
def OQ:Nat->PC:=bI AE
def aqg:PC:=.block 0 [4,10,11] [] (.loop [4,10] [] (b 0))
def GJ (b:Nat->PC):PT:=
 (.ite (aj cC r9)
 (.chk (ak r8 cC)
 (.chk (aW (pi 100) (pi 0))
 (.chk (.nt (.an (.an (.nt (aj Tf (pi 1))) pT) (.nt (aW (pi 100) (pi 0)))))
 (.ite (.pick (aj Tf (pi 1)) pT (bP Tf (pi 31)))
 (.ret pF)
 (.next ⟨[(10,(bH cC (pi 1)))],[]⟩)))))
 (.exit 0 ⟨[(11,(aj cC r9))],[]⟩))
def Wj:PT:=
 (.brk ⟨[(10,(pi 0)),(9,(.llen (pc (.mk [r1]) 4))),(8,(pc (.mk [r1]) 4)),(4,pF)],[(3,(.mk [r1])),(2,(.mk [r0]))]⟩
(aqg b)
 (.call ⟨[(33,(.pick (bP (.llen (pc o3 4)) (pi 60)) pT (bP (.llen (pc o3 5)) (pi 200))))],[]⟩ [(33,false)] 39 55 [(pc o3 1),(.llen (pc o2 4))]
 (.call ⟨[(42,(.pick Mm pT (.nt Mo)))],[]⟩ [(42,false)] 48 55 [(pc o3 2),(.llen (pc o2 0))]
 (.ite (.pick r42 pT (.nt sQ))
 (.ret pF)
 (.call ⟨[],[]⟩ [] 53 80 [(pc o3 3),(pi 0),(pi 6)]
 (.call ⟨[(54,TD)],[]⟩ [(54,true)] 57 80 [(pc o3 4),(pi 101),(pi 1231)]
 (.call ⟨[(59,(.pick uX zo pF))],[]⟩ [(59,true)] 62 80 [(pc o3 5),(pi 0),(pi 100000)]
 (.ret (.pick r59 lJ pF)))))))))
def alp:PT×List (Shp×PT):=(Wj b,[(.lp 0 [4,10,11] [] [4,10] [],GJ b)])
def SC:AE.map told=some (alp (bz AE)):=by kernel_rfl
def awr:tree (ae AE)=Wj OQ:=cl SC
def Ud:round 0 [4,10,11] [] [4,10] [] (OQ 0)=GJ OQ:=bl SC 0 λ_=>rfl
def AK:Option PC:=cF [6,7,8] [] Tryz.f80 80 []
def OT:Nat->PC:=bI AK
def aqq:PC:=.block 0 [6,11,12] [] (.loop [6,11] [] (b 0))
def w6 (b:Nat->PC):PT:=
 (.ite wO
 (.chk (ak r9 bQ)
 (.chk (.nt (.an (.an (bP bQ (pi 0)) (.an (.nt (.pick (aj (pn r9 bQ) r1) pT (bP (pn r9 bQ) r2))) pT)) (.nt (ak r0 (bx bQ (pi 1))))))
 (.ite (.pick (.pick (aj (pn r9 bQ) r1) pT (bP (pn r9 bQ) r2)) pT (.pick (bP bQ (pi 0)) (bD (pn r9 bQ) (pn r0 (bx bQ (pi 1)))) pF))
 (.ret pF)
 (.next ⟨[(11,Cy)],[]⟩))))
 (.exit 0 ⟨[(12,wO)],[]⟩))
def Wr:PT:=
 (.brk ⟨[(11,(pi 0)),(10,(.llen r0)),(9,r0),(6,pF)],[]⟩
(aqq b)
 (.ret pT))
def alw:PT×List (Shp×PT):=(Wr b,[(.lp 0 [6,11,12] [] [6,11] [],w6 b)])
def SG:AK.map told=some (alw (bz AK)):=by kernel_rfl
def awz:tree (ae AK)=Wr OT:=cl SG
def CP:round 0 [6,11,12] [] [6,11] [] (OT 0)=w6 OT:=bl SG 0 λ_=>rfl
def Jo:Option PC:=cF [3] [] Tryz.f56 56 []
def Wf:PT:=
 (.chk (ak (pc (.deref r1) 3) r0)
 (.call ⟨[],[]⟩ [] 13 55 [(pc (pn (pc (.deref r1) 3) r0) 1),(.llen (pc (.deref r1) 1))]
 (.chk (.nt (.an (.an dS pT) (.nt (ak (pc (.deref r1) 3) r0))))
 (.call ⟨[(14,dS)],[]⟩ [(14,true)] 24 55 [(pc (pn (pc (.deref r1) 3) r0) 2),(.llen (pc (.deref r1) 2))]
 (.ret (.pick cG mu pF))))))
def adK:Jo.map told=some (Wf,[]):=by kernel_rfl
def awm:tree (ae Jo)=Wf:=aU adK
def Jp:Option PC:=cF [3] [] Tryz.f57 57 []
def Wg:PT:=
 (.chk (ak (pc (.deref r1) 4) r0)
 (.call ⟨[],[]⟩ [] 9 58 [(pn (pc (.deref r1) 4) r0)]
 (.ret r9)))
def adL:Jp.map told=some (Wg,[]):=by kernel_rfl
def awn:tree (ae Jp)=Wg:=aU adL
def AI:Option PC:=cF [2] [] Tryz.f58 58 [1,3,4,6,19,8,16392,36]
def Dw:Nat->PC:=bI AI
def aqm:PC:=.block 0 [2,3,12,13] [3] (.loop [2,3,12] [3] (b 0))
def aqn:PC:=.block 2 [4,29,30] [4] (.loop [4,29] [4] (b 1))
def GM (b:Nat->PC):PT:=
 (.ite (aj cP bQ)
 (.blockS ⟨[],[]⟩ 1 [2,3,6,14,15,17,18,19,20,21,22,23,24] [6,19,3]
 (.chk (ak cC cP)
 (.chk (bD (.llen (.app o3 (.lst [(pc (.setc uQ 0 (pn cC cP)) 0)]))) cI)
 (.call ⟨[(3,pN)],[(3,(.app o3 (.lst [(pc (.setc uQ 0 (pn cC cP)) 0)])))]⟩ [] 23 55 [(pc (.setc uQ 0 (pn cC cP)) 1),(pi 5)]
 (.ite (.nt ju)
 (.ret pF)
 (.next ⟨[],[]⟩)))))
 (.next ⟨[(12,(bH cP (pi 1)))],[]⟩))
 (.exit 0 ⟨[(13,(aj cP bQ))],[]⟩))
def MS (b:Nat->PC):PT:=
 (.ite (aj sO zl)
 (.chk (ak gj sO)
 (.chk (bD (.llen aeM) cI)
 (.next ⟨[(4,pN),(29,(bH sO (pi 1)))],[(4,aeM)]⟩)))
 (.exit 2 ⟨[(30,(aj sO zl))],[]⟩))
def Wp:PT:=
 (.brk ⟨[(12,(pi 0)),(11,sM),(10,F3),(4,pN),(3,pN),(2,pF)],[(4,pL),(3,pL),(1,(.mk [r0]))]⟩
(aqm b)
 (.brk ⟨[(29,(pi 0)),(28,CA),(27,(pc o1 3))],[]⟩
(aqn b)
 (.call ⟨[],[]⟩ [] 40 80 [o3,(pi 0),(pi 21)]
 (.call ⟨[(41,p8)],[]⟩ [(41,true)] 43 80 [o4,(pi 0),(pi 21)]
 (.ret (.pick zn wW pF))))))
def alu:PT×List (Shp×PT):=(Wp b,[(.lp 0 [2,3,12,13] [3] [2,3,12] [3],GM b),(.lp 2 [4,29,30] [4] [4,29] [4],MS b)])
def LN:AI.map told=some (alu (bz AI)):=by kernel_rfl
def awx:tree (ae AI)=Wp Dw:=cl LN
def Ug:round 0 [2,3,12,13] [3] [2,3,12] [3] (Dw 0)=GM Dw:=bl LN 0 λ_=>rfl
def afC:round 2 [4,29,30] [4] [4,29] [4] (Dw 1)=MS Dw:=bl LN 1 λ_=>rfl
def AL:Option PC:=cF [2,3] [] Tryz.f59 59 [1,4,6]
def Dy:Nat->PC:=bI AL
def aqr:PC:=.block 2 [2,50,51] [] (.loop [2,50] [] (b 0))
def aqs:PC:=.block 0 [2,14,15] [] (.loop [2,14] [] (b 1))
def CQ (b:Nat->PC):PT:=
 (.ite (aj kW wX)
 (.chk (ak sQ kW)
 (.ite (.pick (af (pc (.setc z3 0 (pn sQ kW)) 0) (pc o4 0)) (af (pc (.setc z3 0 (pn sQ kW)) 1) (pc o4 1)) pF)
 (.ret (pi 5))
 (.next ⟨[(50,(bH kW (pi 1)))],[]⟩)))
 (.exit 2 ⟨[(51,(aj kW wX))],[]⟩))
def GP:PT:=
 (.ite (aj cG dS)
 (.blockS ⟨[(15,(aj cG dS))],[]⟩ 1 [2,3,4,16,17,18,19,20,21,22,23,24,25,26,34,35,39,40,44,45,46,47,48,49,50,51] [4]
 (.chk (ak cP cG)
 (.call ⟨[(3,cG)],[(4,(.setc z3 0 (pn cP cG)))]⟩ [] 24 55 [(pc (.setc z3 0 (pn cP cG)) 0),wS]
 (.call ⟨[(26,(.nt mu))],[]⟩ [(26,false)] 32 55 [(pc o4 1),wS]
 (.ite (.pick (.pick (.pick sN pT (.nt m3)) pT (aj (pc o4 2) (pi 1))) pT (bP (pc o4 2) (pi 20000)))
 (.ret (pi 1))
 (.chk (.slok (pc o1 5) (pi 0) r3)
 (.brk ⟨[(50,(pi 0)),(49,(.llen (.slc (pc o1 5) (pi 0) r3))),(48,(.slc (pc o1 5) (pi 0) r3))],[]⟩
(aqr b)
 (.next ⟨[],[]⟩)))))))
 (.next ⟨[(14,(bH cG (pi 1)))],[]⟩))
 (.exit 0 ⟨[(15,(aj cG dS))],[]⟩))
def Ws:PT:=
 (.ite (bP (.llen (pc (.mk [r0]) 5)) (pi 100))
 (.ret (pi 6))
 (.brk ⟨[(14,(pi 0)),(13,(.llen (pc (.mk [r0]) 5))),(12,(pc (.mk [r0]) 5)),(2,(pi 0))],[(1,(.mk [r0]))]⟩
(aqs b)
 (.ret (pi 0))))
def alx:PT×List (Shp×PT):=(Ws b,[(.lp 2 [2,50,51] [] [2,50] [],CQ b),(.lp 0 [2,14,15] [] [2,14] [],GP b)])
def LP:AL.map told=some (alx (bz AL)):=by kernel_rfl
def awA:tree (ae AL)=Ws Dy:=cl LP
def MT:round 2 [2,50,51] [] [2,50] [] (Dy 0)=CQ Dy:=bl LP 0 λ_=>rfl
def Uj:round 0 [2,14,15] [] [2,14] [] (Dy 1)=GP Dy:=bl LP 1 λ_=>rfl
def AJ:Option PC:=cF [2] [] Tryz.f60 60 [1,4,6]
def Dx:Nat->PC:=bI AJ
def aqo:PC:=.block 0 [2,14,15] [] (.loop [2,14] [] (b 0))
def aqp:PC:=.block 2 [2,69,70] [] (.loop [2,69] [] (b 1))
def GN (b:Nat->PC):PT:=
 (.ite (aj cG dS)
 (.blockS ⟨[],[]⟩ 1 [2,4,16,17,18,19,20,21,22,23,24,25,33,34,40,41,47,48,54,55,60] [4]
 (.chk (ak cP cG)
 (.call ⟨[],[(4,(.setc z5 0 (pn cP cG)))]⟩ [] 23 55 [(pc (.setc z5 0 (pn cP cG)) 0),(.llen (pc o1 0))]
 (.call ⟨[(25,(.nt ju))],[]⟩ [(25,false)] 31 55 [(pc o4 1),(.llen (pc o1 0))]
 (.call ⟨[(41,(.pick (.pick hH pT (.nt sP)) pT (af (pc o4 0) (pc o4 1))))],[]⟩ [(41,false)] 45 55 [(bx (pc o4 2) (pi 1)),(pi 1073741824)]
 (.call ⟨[(48,(.pick zn pT (.nt oP)))],[]⟩ [(48,false)] 52 55 [(bx (pc o4 3) (pi 1)),(pi 1073741824)]
 (.call ⟨[(55,(.pick sQ pT (.nt Gd)))],[]⟩ [(55,false)] 58 55 [(pc o4 4),(pi 100001)]
 (.ite (.pick CI pT (.nt wY))
 (.ret (pi 1))
 (.next ⟨[],[]⟩))))))))
 (.next ⟨[(14,(bH cG (pi 1)))],[]⟩))
 (.exit 0 ⟨[(15,(aj cG dS))],[]⟩))
def GO (b:Nat->PC):PT:=
 (.ite (aj u3 Ge)
 (.blockS ⟨[],[]⟩ 3 [2,6,71,72,73,74,75,76,77,78,79,80,84,85,91,92,96] [6]
 (.chk (ak sR u3)
 (.call ⟨[],[(6,(.setc z3 0 (pn sR u3)))]⟩ [] 78 55 [(pc (.setc z3 0 (pn sR u3)) 0),wR]
 (.ite (.pick (.pick (.pick (.nt r78) pT (aj (pc o6 1) (pi 0))) pT (bP (pc o6 1) (pc o6 2))) pT (bP (pc o6 2) (pi 100000)))
 (.ret (pi 1))
 (.next ⟨[],[]⟩))))
 (.next ⟨[(69,(bH u3 (pi 1)))],[]⟩))
 (.exit 2 ⟨[(70,(aj u3 Ge))],[]⟩))
def Wq:PT:=
 (.ite (bP (.llen (pc (.mk [r0]) 6)) (pi 100))
 (.ret (pi 6))
 (.brk ⟨[(14,(pi 0)),(13,(.llen (pc (.mk [r0]) 6))),(12,(pc (.mk [r0]) 6)),(2,(pi 0))],[(1,(.mk [r0]))]⟩
(aqo b)
 (.ite (bP (.llen (pc o1 7)) (pi 20))
 (.ret (pi 6))
 (.brk ⟨[(69,(pi 0)),(68,(.llen (pc o1 7))),(67,(pc o1 7))],[]⟩
(aqp b)
 (.ret (pi 0))))))
def alv:PT×List (Shp×PT):=(Wq b,[(.lp 0 [2,14,15] [] [2,14] [],GN b),(.lp 2 [2,69,70] [] [2,69] [],GO b)])
def LO:AJ.map told=some (alv (bz AJ)):=by kernel_rfl
def awy:tree (ae AJ)=Wq Dx:=cl LO
def Uh:round 0 [2,14,15] [] [2,14] [] (Dx 0)=GN Dx:=bl LO 0 λ_=>rfl
def Ui:round 2 [2,69,70] [] [2,69] [] (Dx 1)=GO Dx:=bl LO 1 λ_=>rfl
def DI:Option PC:=cF [2] [] Tryz.f26 26 [1]
def VB:PT:=
 (.ret (.pick (.pick (.pick (bD (.llen sI) (pi 42)) (bD (.llen (pc (.mk [r0]) 16)) (pi 6)) pF) (bD (.llen (pc (.mk [r0]) 17)) (pi 102)) pF) (bD F8 (pi 202)) pF))
def adf:DI.map told=some (VB,[]):=by kernel_rfl
def avx:tree (ae DI)=VB:=aU adf
def xP:Option PC:=cF [4,5,6,7,8,11] [] Tryz.f21 21 [2,3,10]
def Ds:Nat->PC:=bI xP
def apH:PC:=.block 0 [4,48,49] [] (.loop [4,48] [] (b 0))
def apI:PC:=.block 2 [4,8,62,63] [] (.loop [4,8,62] [] (b 1))
def Gp (b:Nat->PC):PT:=
 (.ite (aj sQ TC)
 (.blockS ⟨[],[]⟩ 1 [4,6,7,50,51,52,53,54,55,56] []
 (.call ⟨[],[]⟩ [] 54 43 [(ax 8 o2),(ax 19 o3),sQ]
 (.ite (aW uX (pi 0))
 (.ret uX)
 (.next ⟨[],[]⟩)))
 (.next ⟨[(48,(bH sQ (pi 1)))],[]⟩))
 (.exit 0 ⟨[(49,(aj sQ TC))],[]⟩))
def Gq (b:Nat->PC):PT:=
 (.ite (aj lJ TE)
 (.blockS ⟨[],[]⟩ 3 [4,8,10,64,65,66,67,68,69,70,71,72,73,74,75,76,77,78,79,80] [10]
 (.chk (ak uY lJ)
 (.call ⟨[],[(10,(.setc z2 0 (pn uY lJ)))]⟩ [] 73 44 [(pc (.setc z2 0 (pn uY lJ)) 0),rn,(.llen (pc o3 15))]
 (.ite (.nt zq)
 (.ret (pi 1))
 (.call ⟨[],[]⟩ [] 77 44 [(pc cX 1),(pi 1),rj]
 (.ite (.nt Mq)
 (.ret (pi 3))
 (.next ⟨[(8,(pc cX 0))],[]⟩))))))
 (.next ⟨[(62,(bH lJ (pi 1)))],[]⟩))
 (.exit 2 ⟨[(63,(aj lJ TE))],[]⟩))
def Vp:PT:=
 (.ite (.pick (.pick (.pick (bP (.llen (pc (.mk [r1]) 15)) (pi 40)) pT (bP (.llen (pc (.mk [r1]) 16)) (pi 4))) pT (bP (.llen (pc (.mk [r1]) 17)) (pi 100))) pT (bP (.llen (pc (.mk [r1]) 18)) (pi 200)))
 (.ret (pi 6))
 (.call ⟨[(4,(pi 0))],[(3,(.mk [r1])),(2,(.mk [r0]))]⟩ [] 37 42 [ky,kU]
 (.ite (aW rq (pi 0))
 (.ret rq)
 (.ite (af (.llen (pc o3 15)) (pi 0))
 (.ret (pi 14))
 (.brk ⟨[(48,(pi 0)),(47,(.llen (pc o3 15)))],[]⟩
(apH b)
 (.brk ⟨[(62,(pi 0)),(61,(.llen (pc o3 16))),(60,(pc o3 16)),(8,(pi 0))],[]⟩
(apI b)
 (.call ⟨[],[]⟩ [] 84 45 [(ax 8 o2),(ax 19 o3)]
 (.ite (aW Mr (pi 0))
 (.ret Mr)
 (.call ⟨[],[]⟩ [] 89 46 [(ax 19 o3)]
 (.ret r89))))))))))
def akX:PT×List (Shp×PT):=(Vp b,[(.lp 0 [4,48,49] [] [4,48] [],Gp b),(.lp 2 [4,8,62,63] [] [4,8,62] [],Gq b)])
def LJ:xP.map told=some (akX (bz xP)):=by kernel_rfl
def avj:tree (ae xP)=Vp Ds:=cl LJ
def TR:round 0 [4,48,49] [] [4,48] [] (Ds 0)=Gp Ds:=bl LJ 0 λ_=>rfl
def TS:round 2 [4,8,62,63] [] [4,8,62] [] (Ds 1)=Gq Ds:=bl LJ 1 λ_=>rfl
def DJ:Option PC:=cF [4,5,6,7,8,54,80,109,118,9,10] [] Tryz.f42 42 [2,3]
def WX:PT:=
 (.call ⟨[],[(3,(.mk [r1])),(2,(.mk [r0]))]⟩ [] 12 25 [ky]
 (.ite (aW cP (pi 0))
 (.ret cP)
 (.call ⟨[(7,(.llen (pc o2 1))),(6,(.llen (pc o2 3)))],[]⟩ [] 25 73 [(pc o3 0),(.llen (pc o2 3))]
 (.call ⟨[(26,hH)],[]⟩ [(26,true)] 30 73 [(pc o3 1),r6]
 (.call ⟨[(36,(af (pc o3 2) (pi (-1)))),(32,(.pick sN zm pF))],[]⟩ [(36,false),(32,true)] 40 73 [(pc o3 2),r6]
 (.call ⟨[(47,(af (pc o3 11) (pi (-1)))),(43,(.pick m3 (.pick m4 pT p8) pF))],[]⟩ [(47,false),(43,true)] 51 73 [(pc o3 11),r6]
 (.blockS ⟨[(8,(.pick wW (.pick TC pT ru) pF))],[]⟩ 0 [4,54,55,56,57,65,66,72,73,79,80,81,82,83,84,88,89,93,94,98,99,103,104,108,109,110,111,112,113,117,118,119,120,121,122,126,127,137,138,142] []
 (.call ⟨[(57,(.nt r8))],[]⟩ [(57,false)] 63 73 [(pc o3 4),(.llen (pc o2 0))]
 (.call ⟨[(66,(.pick zo pT (.nt zp)))],[]⟩ [(66,false)] 70 73 [(pc o3 9),r7]
 (.call ⟨[(73,(.pick r66 pT (.nt Gf)))],[]⟩ [(73,false)] 77 73 [(pc o3 10),r7]
 (.iteS ⟨[],[]⟩ (.pick zq pT (.nt Mq)) [4,80,81,82,83,84,88,89,93,94,98,99,103,104,108,109,110,111,112,113,117,118,119,120,121,122,126,127,137,138,142] []
 (.ret (pi 1))
 (.iteS ⟨[],[]⟩ (.pick (.pick (.pick (.pick (.pick (aj (pc o3 3) (pi 1)) pT (bP (pc o3 3) rj)) pT (aj (pc o3 8) (pi 0))) pT (bP (pc o3 8) (pi 100000))) pT (aj (pc o3 12) (pi 0))) pT (bP (pc o3 12) (pi 1000))) [4,109,110,111,112,113,117,118,119,120,121,122,126,127,137,138,142] []
 (.ret (pi 3))
 (.iteS ⟨[],[]⟩ (.pick (aj (pc o3 14) (pi 1)) pT (bP (pc o3 14) (pi 4))) [4,118,119,120,121,122,126,127,137,138,142] []
 (.ret (pi 15))
 (.call ⟨[(138,(.pick (.pick (aj (pc o3 13) (pi 0)) pT (bP (pc o3 13) (pi 7))) pT (.pick (aW (.ai .and .i64 (pc o3 13) (pi 4)) (pi 0)) (af (pc o3 2) (pi (-1))) pF)))],[]⟩ [(138,false)] 140 74 [(ax 15 o3)]
 (.ite (.pick (.r 138) pT (.nt (.r 140)))
 (.ret (pi 2))
 (.next ⟨[],[]⟩)))
 (.next ⟨[],[]⟩))
 (.next ⟨[],[]⟩))
 (.next ⟨[],[]⟩)))))
 (.iteS ⟨[],[]⟩ (af (pc o3 5) (pi 4)) [4] []
 (.call ⟨[],[]⟩ [] 153 75 [(ax 8 o2),(pc o3 9),(pc o3 10)]
 (.ret (.tget (.r 153) 1)))
 (.next ⟨[],[]⟩)
 (.ret (pi 0))))))))))
def ad7:DJ.map told=some (WX,[]):=by kernel_rfl
def aw5:tree (ae DJ)=WX:=aU ad7
def JL:Option PC:=cF [4] [] Tryz.f73 73 []
def WY:PT:=
 (.ret Te)
def ad8:JL.map told=some (WY,[]):=by kernel_rfl
def aw6:tree (ae JL)=WY:=aU ad8
def JM:Option PC:=cF [2,8,19,40] [] Tryz.f74 74 [1,3]
def WZ:PT:=
 (.ite (.pick (af (pc mq 0) (pi 0)) (af (pc mq 0) (pi 0)) (af (pc mq 0) (pi 4)))
 (.ret (.pick (af (pc mq 1) (pi 0)) (af (pc mq 2) (pi 0)) pF))
 (.ite (.pick (af (pc mq 0) (pi 1)) (af (pc mq 0) (pi 1)) (af (pc mq 0) (pi 2)))
 (.ret (.pick (.pick (cB (pc mq 1) (pi 1)) (bD (pc mq 1) (pi 400)) pF) (.pick (af (pc mq 2) (pi 0)) pT (af (pc mq 2) (pi 1))) pF))
 (.ite (af (pc mq 0) (pi 3))
 (.ret (.pick (.pick (cB (pc mq 1) (pc (.mk [r0]) 8)) (bD (pc mq 1) (pi 100000)) pF) (af (pc mq 2) (pi 0)) pF))
 (.ret pF))))
def ad9:JM.map told=some (WZ,[]):=by kernel_rfl
def aw7:tree (ae JM)=WZ:=aU ad9
def AD:Option PC:=cF [6,7] [] Tryz.f75 75 [3,9]
def OP:Nat->PC:=bI AD
def aqf:PC:=.block 0 [6,7,13,14] [] (.loop [6,7,13] [] (b 0))
def GI (b:Nat->PC):PT:=
 (.ite (aj dS cP)
 (.chk (ak bQ dS)
 (.ite (.pick (af (pc (.setc z3 0 (pn bQ dS)) 0) r1) (af (pc (.setc z3 0 (pn bQ dS)) 1) r2) pF)
 (.ret (.tup [(pc (.setc z3 0 (pn bQ dS)) 2),(pi 0)]))
 (.next ⟨[(13,(bH dS (pi 1)))],[]⟩)))
 (.exit 0 ⟨[(14,(aj dS cP))],[]⟩))
def Wi:PT:=
 (.brk ⟨[(13,(pi 0)),(12,(.llen (pc (.mk [r0]) 5))),(11,(pc (.mk [r0]) 5)),(7,(pi 0)),(6,(pi 0))],[]⟩
(aqf b)
 (.ret (.tup [(pi 0),(pi 4)])))
def alo:PT×List (Shp×PT):=(Wi b,[(.lp 0 [6,7,13,14] [] [6,7,13] [],GI b)])
def SB:AD.map told=some (alo (bz AD)):=by kernel_rfl
def awq:tree (ae AD)=Wi OP:=cl SB
def Uc:round 0 [6,7,13,14] [] [6,7,13] [] (OP 0)=GI OP:=bl SB 0 λ_=>rfl
def Ag:Option PC:=cF [6,8,9,76,92,98] [] Tryz.f43 43 [3,4,7,11]
def Ow:Nat->PC:=bI Ag
def apL:PC:=.block 0 [8,9,51,52] [] (.loop [8,9,51] [] (b 0))
def MB (b:Nat->PC):PT:=
 (.ite (aj ru kW)
 (.chk (ak wX ru)
 (.next ⟨[(8,(pc (.setc z9 0 (pn wX ru)) 6)),(9,(.pick r9 pT (.pick (.pick (af (pc o7 0) (pi 1)) (af (pc (.setc z9 0 (pn wX ru)) 0) (pi 1)) pF) (af (pc (.setc z9 0 (pn wX ru)) 1) (pc o7 1)) pF))),(51,(bH ru (pi 1)))],[]⟩))
 (.exit 0 ⟨[(52,(aj ru kW))],[]⟩))
def Vw:PT:=
 (.chk (ak (pc (.mk [r1]) 15) r2)
 (.call ⟨[],[(7,pZ),(4,(.mk [r1])),(3,(.mk [r0]))]⟩ [] 23 44 [(pc pZ 1),(pi 0),(bx (pc (.mk [r1]) 14) (pi 1))]
 (.ite (.nt ju)
 (.ret (pi 15))
 (.call ⟨[],[]⟩ [] 31 44 [(pc o7 2),(pi 0),Mk]
 (.call ⟨[(33,(.nt sP))],[]⟩ [(33,false)] 40 44 [(pc o7 7),(pi 0),(bx (.llen (pc o3 1)) (pi 1))]
 (.ite (.pick Mm pT (.nt p8))
 (.ret (pi 1))
 (.chk (.slok (pc o4 15) (pi 0) r2)
 (.brk ⟨[(51,(pi 0)),(50,(.llen (.slc (pc o4 15) (pi 0) r2))),(49,(.slc (pc o4 15) (pi 0) r2)),(9,pF),(8,(pc o4 8))],[]⟩
(apL b)
 (.blockS ⟨[],[]⟩ 2 [6,76,77,78,79,80,81,82,91,92,93,94,95,96,97,98,99] []
 (.call ⟨[],[]⟩ [] 80 44 [(pc o7 6),r8,(pi 100000)]
 (.iteS ⟨[],[]⟩ (.pick (.nt sS) pT (.pick (af r2 (pi 0)) (aW (pc o7 6) r8) pF)) [6,92,93,94,95,96,97,98,99] []
 (.ret (pi 13))
 (.call ⟨[],[]⟩ [] 96 76 [(ax 8 o3),(ax 19 o4),r2]
 (.ite (.nt TH)
 (.ret (pi 14))
 (.ite r9
 (.ret (pi 5))
 (.next ⟨[],[]⟩))))
 (.next ⟨[],[]⟩)))
 (.ret (pi 0)))))))))))
def ak0:PT×List (Shp×PT):=(Vw b,[(.lp 0 [8,9,51,52] [] [8,9,51] [],MB b)])
def Sg:Ag.map told=some (ak0 (bz Ag)):=by kernel_rfl
def avq:tree (ae Ag)=Vw Ow:=cl Sg
def afo:round 0 [8,9,51,52] [] [8,9,51] [] (Ow 0)=MB Ow:=bl Sg 0 λ_=>rfl
def IN:Option PC:=cF [6] [] Tryz.f44 44 []
def Vv:PT:=
 (.ret (.pick (cB r0 r1) (bD r0 r2) pF))
def ac8:IN.map told=some (Vv,[]):=by kernel_rfl
def avp:tree (ae IN)=Vv:=aU ac8
def IM:Option PC:=cF [6,9,10,66,103,113,11,140,149] [] Tryz.f76 76 [3,4,7,8]
def Vu:PT:=
 (.chk (ak (pc (.mk [r1]) 15) r2)
 (.ite (.pick (.cb .neq (af r2 (pi 0)) (af (pc pZ 0) (pi 0))) pT (.pick (aW (pc pZ 0) (pi 2)) (aW (pc pZ 4) (pi (-1))) pF))
 (.ret pF)
 (.ite (.pick (.pick (aW (pc pZ 0) (pi 3)) (aW (pc pZ 0) (pi 4)) pF) (aW (pc pZ 3) (pi (-1))) pF)
 (.ret pF)
 (.call ⟨[(9,(.pick (af (pc pZ 5) (pi 0)) (af (pc pZ 8) (pi 0)) pF))],[(8,(.setc NK 0 kU)),(7,pZ),(4,(.mk [r1])),(3,(.mk [r0]))]⟩ [] 58 44 [(pc pZ 5),(pi 1),rj]
 (.blockS ⟨[(65,(pc o7 0)),(10,(.pick wY (af (pc o7 8) (pi 0)) pF))],[]⟩ 0 [6,66,67,103,104,113,114,140,141,149,150] []
 (.iteS ⟨[],[]⟩ (af uZ (pi 0)) [6,103,104,113,114,140,141,149,150] []
 (.ret (.pick (.pick (.pick (.pick (.pick (af (pc o7 2) (pc o8 0)) (af (pc o7 5) (pi 0)) pF) (af (.ai .or .i64 (pc o7 8) (pi 1)) (pi 1)) pF) (af (pc o7 1) (pi 0)) pF) (af (pc o7 6) (pc o8 8)) pF) (af (pc o7 7) (pc o8 9)) pF))
 (.iteS ⟨[],[]⟩ (af uZ (pi 1)) [6,113,114,140,141,149,150] []
 (.ret (.pick (af (pc o7 2) (pc o8 1)) cC pF))
 (.iteS ⟨[],[]⟩ (af uZ (pi 2)) [6,140,141,149,150] []
 (.call ⟨[(11,(pi 6))],[]⟩ [] 121 44 [(pc o7 4),(pi (-1)),Mk]
 (.call ⟨[(127,(.pick asL (af (pc o7 5) (pi 0)) pF))],[]⟩ [(127,true)] 130 44 [(pc o7 8),(pi 0),(pi 7)]
 (.ret (.pick (.pick Tv (.r 130) pF) (aW (.ai .and .i64 (pc o7 8) bQ) bQ) pF))))
 (.iteS ⟨[],[]⟩ (af uZ (pi 3)) [6,149,150] []
 (.call ⟨[(143,r9)],[]⟩ [(143,true)] 147 98 [(ax 19 o4),r2,(.lst [(pi 0),(pi 1),(pi 2),(pi 4)])]
 (.ret (.pick (.r 143) (.r 147) pF)))
 (.iteS ⟨[],[]⟩ (af uZ (pi 4)) [6] []
 (.call ⟨[(159,(.pick cC (aW (pc o7 2) (pc o8 1)) pF))],[]⟩ [(159,true)] 163 98 [(ax 19 o4),r2,(.lst [(pi 0),(pi 2)])]
 (.ret (.pick (.r 159) (.r 163) pF)))
 (.next ⟨[],[]⟩)
 (.next ⟨[],[]⟩))
 (.next ⟨[],[]⟩))
 (.next ⟨[],[]⟩))
 (.next ⟨[],[]⟩))
 (.next ⟨[],[]⟩))
 (.ret pF))))))
def ac7:IM.map told=some (Vu,[]):=by kernel_rfl
def avo:tree (ae IM)=Vu:=aU ac7
def IL:Option PC:=cF [6,7] [] Tryz.f98 98 [3]
def Vs:PT:=
 (.chk (ak sI r1)
 (.call ⟨[(7,(pc (pn sI r1) 3))],[(3,(.mk [r0]))]⟩ [] 17 44 [(pc (pn sI r1) 3),(pi 0),(bx r1 (pi 1))]
 (.chk (.nt (.an (.an gi pT) (.nt (ak (pc o3 15) r1))))
 (.call ⟨[(18,gi)],[]⟩ [(18,true)] 27 99 [(ax 19 o3),r7,(pc (pn (pc o3 15) r1) 1)]
 (.chk (.nt (.an (.an (.pick jU gj pF) pT) (.nt (ak (pc o3 15) r7))))
 (.call ⟨[(29,(.pick jU gj pF))],[]⟩ [(29,true)] 37 105 [r2,(pc (pn (pc o3 15) r7) 0)]
 (.ret (.pick sO rq pF))))))))
def ac6:IL.map told=some (Vs,[]):=by kernel_rfl
def avm:tree (ae IL)=Vs:=aU ac6
def IP:Option PC:=cF [6] [] Tryz.f99 99 [3]
def Nv:PT:=
 (.chk (.nt (.an (.an (.nt (af r1 (pi 0))) pT) (.nt (ak sI r1))))
 (.ret (.pick (af r1 (pi 0)) pT (af (pc (pn sI r1) 1) r2))))
def ac9:IP.map told=some (Nv,[]):=by kernel_rfl
def avr:tree (ae IP)=Nv:=aU ac9
def Ae:Option PC:=cF [4,5,7] [] Tryz.f45 45 [2,3,6]
def Ou:Nat->PC:=bI Ae
def apJ:PC:=.block 0 [4,11,12] [] (.loop [4,11] [] (b 0))
def Mz (b:Nat->PC):PT:=
 (.ite wO
 (.blockS ⟨[],[]⟩ 1 [4,5,6,7,13,14,15,16,17,18,19,20,21,22,23,24,25,26,27,28,29,30,31,32,37,38,39,40,41,42,43,44,45,46,47,48,58,59,69,70,71,72,73] [6]
 (.chk (ak r9 bQ)
 (.call ⟨[(5,bQ)],[(6,(.setc z9 0 (pn r9 bQ)))]⟩ [] 22 44 [(pc (.setc z9 0 (pn r9 bQ)) 3),(pi 0),(bx (pc o3 14) (pi 1))]
 (.ite (.nt p7)
 (.ret (pi 15))
 (.call ⟨[],[]⟩ [] 30 44 [(pc o6 7),(pi 0),(bx (.llen (pc o2 1)) (pi 1))]
 (.call ⟨[(32,(.nt zm))],[]⟩ [(32,false)] 35 44 [(pc o6 0),(pi 0),(pi 9)]
 (.ite (.pick m3 pT (.nt wV))
 (.ret (pi 1))
 (.call ⟨[],[]⟩ [] 41 77 [(ax 8 o2),(ax 19 o3),(ax 9 o6)]
 (.ite (.nt zn)
 (.ret (pi 14))
 (.ite (aW (pc o6 4) (pi (-1)))
 (.chk (ak (pc o3 15) (pc o6 4))
 (.ite (bP r5 (pi 0))
 (.chk (ak (pc o3 17) (bx r5 (pi 1)))
 (.call ⟨[],[]⟩ [] 72 44 [(pc o6 6),(.mx (.mx (pc o3 8) (pc (pn (pc o3 15) (pc o6 4)) 6)) (pc (pn (pc o3 17) (bx r5 (pi 1))) 6)),(pi 100000)]
 (.ite (.nt CJ)
 (.ret (pi 13))
 (.next ⟨[],[]⟩))))
 (.call ⟨[],[]⟩ [] 72 44 [(pc o6 6),(.mx (pc o3 8) (pc (pn (pc o3 15) (pc o6 4)) 6)),(pi 100000)]
 (.ite (.nt CJ)
 (.ret (pi 13))
 (.next ⟨[],[]⟩)))))
 (.ite (bP r5 (pi 0))
 (.chk (ak (pc o3 17) (bx r5 (pi 1)))
 (.call ⟨[],[]⟩ [] 72 44 [(pc o6 6),(.mx (pc o3 8) (pc (pn (pc o3 17) (bx r5 (pi 1))) 6)),(pi 100000)]
 (.ite (.nt CJ)
 (.ret (pi 13))
 (.next ⟨[],[]⟩))))
 (.call ⟨[],[]⟩ [] 72 44 [(pc o6 6),(pc o3 8),(pi 100000)]
 (.ite (.nt CJ)
 (.ret (pi 13))
 (.next ⟨[],[]⟩)))))))))))))
 (.next ⟨[(11,Cy)],[]⟩))
 (.exit 0 ⟨[(12,wO)],[]⟩))
def Vr:PT:=
 (.brk ⟨[(11,(pi 0)),(10,(.llen (pc (.mk [r1]) 17))),(9,(pc (.mk [r1]) 17)),(4,(pi 0))],[(3,(.mk [r1])),(2,(.mk [r0]))]⟩
(apJ b)
 (.ret (pi 0)))
def akY:PT×List (Shp×PT):=(Vr b,[(.lp 0 [4,11,12] [] [4,11] [],Mz b)])
def Se:Ae.map told=some (akY (bz Ae)):=by kernel_rfl
def avl:tree (ae Ae)=Vr Ou:=cl Se
def afm:round 0 [4,11,12] [] [4,11] [] (Ou 0)=Mz Ou:=bl Se 0 λ_=>rfl
def IK:Option PC:=cF [6,7,8,9,65,80,100,111] [] Tryz.f77 77 [3,4,5]
def Vq:PT:=
 (.call ⟨[],[(5,(.mk [r2])),(4,(.mk [r1])),(3,(.mk [r0]))]⟩ [] 16 44 [(pc (.mk [r2]) 4),(pi 0),(bx (.llen (pc (.mk [r1]) 15)) (pi 1))]
 (.call ⟨[(17,dt)],[]⟩ [(17,true)] 23 99 [(ax 19 o4),(pc o5 4),(pc o5 3)]
 (.chk (.nt (.an (.an (.pick gi ju pF) pT) (.nt (ak (pc o4 15) (pc o5 4)))))
 (.call ⟨[(8,(.pick (.pick gi ju pF) (af (pc (pn (pc o4 15) (pc o5 4)) 2) (pc o5 1)) pF)),(7,(.pick gi ju pF))],[]⟩ [] 44 44 [(pc o5 2),(pi 0),Mk]
 (.call ⟨[(9,Gc)],[]⟩ [] 51 44 [(pc o5 1),(pi 0),Mk]
 (.ite (.pick (.nt ru) pT (.pick (aW (pc o5 0) (pi 4)) (aW (pc o5 8) (pi 0)) pF))
 (.ret pF)
 (.blockS ⟨[(64,(pc o5 0))],[]⟩ 0 [6,65,66,80,81,100,101,111,112] []
 (.iteS ⟨[],[]⟩ (.pick (af jx (pi 0)) (af jx (pi 0)) (.pick (af jx (pi 1)) (af jx (pi 1)) (af jx (pi 2)))) [6,80,81,100,101,111,112] []
 (.ret (.pick (.pick r9 (af (pc o5 4) (pi (-1))) pF) (af (pc o5 5) (pi 0)) pF))
 (.iteS ⟨[],[]⟩ (.pick (af jx (pi 3)) (af jx (pi 3)) (.pick (af jx (pi 5)) (af jx (pi 5)) (af jx (pi 4)))) [6,100,101,111,112] []
 (.call ⟨[(90,(.pick r9 (af (pc o5 4) (pi (-1))) pF))],[]⟩ [(90,true)] 93 44 [(pc o5 5),(pi 0),rj]
 (.call ⟨[(95,(.pick r90 Ms pF))],[]⟩ [(95,true)] 98 44 [(pc o5 8),(pi 0),(pi 1)]
 (.ret (.pick r95 r98 pF))))
 (.iteS ⟨[],[]⟩ (af jx (pi 6)) [6,111,112] []
 (.call ⟨[(106,(.pick r9 r8 pF))],[]⟩ [(106,true)] 109 44 [(pc o5 5),(pi 1),rj]
 (.ret (.pick asJ asK pF)))
 (.ite (af jx (pi 9))
 (.ret (.pick (.pick (af (pc o5 2) (pi (-1))) r8 pF) (af (pc o5 5) (pi 0)) pF))
 (.next ⟨[],[]⟩))
 (.next ⟨[],[]⟩))
 (.next ⟨[],[]⟩))
 (.next ⟨[],[]⟩))
 (.ret (.pick (.pick (af (pc o5 2) (pi (-1))) r7 pF) (af (pc o5 5) (pi 0)) pF)))))))))
def ac5:IK.map told=some (Vq,[]):=by kernel_rfl
def avk:tree (ae IK)=Vq:=aU ac5
def Af:Option PC:=cF [2,3] [] Tryz.f46 46 [1,4,5]
def Ov:Nat->PC:=bI Af
def apK:PC:=.block 0 [2,9,10] [] (.loop [2,9] [] (b 0))
def MA (b:Nat->PC):PT:=
 (.ite (aj r9 r8)
 (.blockS ⟨[],[]⟩ 1 [2,3,4,11,12,13,14,15,16,17,18,27,28,33,34,35] [4]
 (.chk (ak r7 r9)
 (.call ⟨[(3,r9)],[(4,(.setc z3 0 (pn r7 r9)))]⟩ [] 16 44 [(pc (.setc z3 0 (pn r7 r9)) 0),(pi 0),(pi 4)]
 (.call ⟨[(18,(.nt dt))],[]⟩ [(18,false)] 25 44 [(pc o4 1),(pi 0),(bx (.llen (pc o1 15)) (pi 1))]
 (.call ⟨[(28,(.pick jU pT (.nt hH)))],[]⟩ [(28,false)] 31 44 [(pc o4 2),(pi 0),(pi 1)]
 (.ite (.pick zl pT (.nt sP))
 (.ret (pi 1))
 (.ite (af r3 (pi 0))
 (.exit 1 ⟨[],[]⟩)
 (.chk (ak (pc o1 18) (bx r3 (pi 1)))
 (.call ⟨[],[(5,(.setc z3 0 (pn (pc o1 18) (bx r3 (pi 1)))))]⟩ [] 46 38 [(pc (.setc z3 0 (pn (pc o1 18) (bx r3 (pi 1)))) 1),(pc o4 1)]
 (.call ⟨[],[]⟩ [] 51 38 [(pc o5 0),(pc o4 0)]
 (.call ⟨[],[]⟩ [] 53 37 [(.lst [CH,ru])]
 (.ite (cB TD (pi 0))
 (.ret (pi 5))
 (.next ⟨[],[]⟩))))))))))))
 (.next ⟨[(9,(bH r9 (pi 1)))],[]⟩))
 (.exit 0 ⟨[(10,(aj r9 r8))],[]⟩))
def Vt:PT:=
 (.brk ⟨[(9,(pi 0)),(8,F8),(7,(pc (.mk [r0]) 18)),(2,(pi 0))],[(1,(.mk [r0]))]⟩
(apK b)
 (.ret (pi 0)))
def akZ:PT×List (Shp×PT):=(Vt b,[(.lp 0 [2,9,10] [] [2,9] [],MA b)])
def Sf:Af.map told=some (akZ (bz Af)):=by kernel_rfl
def avn:tree (ae Af)=Vt Ov:=cl Sf
def afn:round 0 [2,9,10] [] [2,9] [] (Ov 0)=MA Ov:=bl Sf 0 λ_=>rfl
def Ix:Option PC:=cF [4,5,6] [] Tryz.f38 38 []
def Va:PT:=
 (.call ⟨[],[]⟩ [] 8 70 [r0]
 (.call ⟨[(5,r8)],[]⟩ [] 10 70 [r1]
 (.ite r5
 (.ite cC
 (.ret (pi 0))
 (.ret (pi (-1))))
 (.ite cC
 (.ret (pi 1))
 (.ite (aj r0 r1)
 (.ret (pi (-1)))
 (.ite (bP r0 r1)
 (.ret (pi 1))
 (.ret (pi 0))))))))
def acS:Ix.map told=some (Va,[]):=by kernel_rfl
def au3:tree (ae Ix)=Va:=aU acS
def Iy:Option PC:=cF [2] [] Tryz.f70 70 []
def Vc:PT:=
 (.ret (aW r0 r0))
def acT:Iy.map told=some (Vc,[]):=by kernel_rfl
def au5:tree (ae Iy)=Vc:=aU acT
def Ab:Option PC:=cF [2,3,5] [] Tryz.f37 37 []
def Oo:Nat->PC:=bI Ab
def apE:PC:=.block 0 [2,8,9] [] (.loop [2,8] [] (b 0))
def Gm (b:Nat->PC):PT:=
 (.ite (aj r8 r7)
 (.chk (ak r6 r8)
 (.ite (aW (pn r6 r8) r3)
 (.ret (pn r6 r8))
 (.next ⟨[(8,rn)],[]⟩)))
 (.exit 0 ⟨[(9,(aj r8 r7))],[]⟩))
def Vb:PT:=
 (.brk ⟨[(8,(pi 0)),(7,(.llen r0)),(6,r0),(3,(pi 0)),(2,(pi 0))],[]⟩
(apE b)
 (.ret r3))
def akU:PT×List (Shp×PT):=(Vb b,[(.lp 0 [2,8,9] [] [2,8] [],Gm b)])
def Sb:Ab.map told=some (akU (bz Ab)):=by kernel_rfl
def au4:tree (ae Ab)=Vb Oo:=cl Sb
def TO:round 0 [2,8,9] [] [2,8] [] (Oo 0)=Gm Oo:=bl Sb 0 λ_=>rfl
def Az:Option PC:=cF [10,11,12,13,14,15,16,17,18,19] [] Tryz.f11 11 [5,9]
def OM:Nat->PC:=bI Az
def aqc:PC:=.block 0 [14,15,16,17,44,45] [] (.loop [14,15,16,17] [] (b 0))
def MM (b:Nat->PC):PT:=
 (.ite (aj gi (pi 243))
 (.blockS ⟨[],[]⟩ 1 [14,15,16,18,19,48,49,50,51,52,53,54,55,61,62,71] []
 (.call ⟨[],[]⟩ [] 50 19 [gi]
 (.call ⟨[(55,(.nt cG)),(19,(.tget kW 1)),(18,(.tget kW 0))],[]⟩ [(55,false)] 60 20 [(.tget kW 0),(.tget kW 1),fj,dt]
 (.call ⟨[(62,(.pick CI pT uY))],[]⟩ [(62,true)] 70 29 [(ax 8 o5),r1,r2,r3,(ax 24 o9),jU,gR]
 (.next ⟨[(14,(.pick (.pick lJ Gf pF) pT cG)),(15,(.pick (.pick lJ Gf pF) jU fj)),(16,(.pick (.pick lJ Gf pF) gR dt))],[]⟩))))
 (.next ⟨[(17,(bH gi (pi 1)))],[]⟩))
 (.exit 0 ⟨[(44,gi),(45,(aj gi (pi 243)))],[]⟩))
def NB:PT:=
 (.ite aeE
 (.ret (.tup [pL,pL,pF]))
 (.brk ⟨[(17,(pi 1)),(16,pL),(15,pL),(14,pF)],[(9,(.mk [r4])),(5,(.mk [r0]))]⟩
(aqc b)
 (.ret (.tup [fj,dt,cG]))))
def alk:PT×List (Shp×PT):=(NB b,[(.lp 0 [14,15,16,17,44,45] [] [14,15,16,17] [],MM b)])
def Sy:Az.map told=some (alk (bz Az)):=by kernel_rfl
def awh:tree (ae Az)=NB OM:=cl Sy
def afx:round 0 [14,15,16,17,44,45] [] [14,15,16,17] [] (OM 0)=MM OM:=bl Sy 0 λ_=>rfl
def Ax:Option PC:=cF [2,3,6,0] [] Tryz.f19 19 [4,5]
def OL:Nat->PC:=bI Ax
def ap9:PC:=.block 0 [0,4,5,6,7,8] [5,4] (.loop [0,4,5,6] [5,4] (b 0))
def GG (b:Nat->PC):PT:=
 (.ite (aj r6 (pi 5))
 (.chk (aW (pi 3) (pi 0))
 (.ite (bP (.ai .rem .i64 r0 (pi 3)) (pi 0))
 (.chk (bD (.llen (.app o4 (.lst [r6]))) cI)
 (.chk (bD (.llen (.app o5 (.lst [(bx (.ai .rem .i64 r0 (pi 3)) (pi 1))]))) cI)
 (.next ⟨[(0,(.ai .quo .i64 r0 (pi 3))),(4,pN),(5,pN),(6,zc)],[(5,(.app o5 (.lst [(bx (.ai .rem .i64 r0 (pi 3)) (pi 1))]))),(4,(.app o4 (.lst [r6])))]⟩)))
 (.next ⟨[(0,(.ai .quo .i64 r0 (pi 3))),(6,zc)],[]⟩)))
 (.exit 0 ⟨[(7,r6),(8,(aj r6 (pi 5)))],[]⟩))
def V7:PT:=
 (.brk ⟨[(6,(pi 0)),(5,pN),(4,pN)],[(5,pL),(4,pL)]⟩
(ap9 b)
 (.ret (.tup [o4,o5])))
def ali:PT×List (Shp×PT):=(V7 b,[(.lp 0 [0,4,5,6,7,8] [5,4] [0,4,5,6] [5,4],GG b)])
def Sw:Ax.map told=some (ali (bz Ax)):=by kernel_rfl
def awe:tree (ae Ax)=V7 OL:=cl Sw
def Ua:round 0 [0,4,5,6,7,8] [5,4] [0,4,5,6] [5,4] (OL 0)=GG OL:=bl Sw 0 λ_=>rfl
def Aw:Option PC:=cF [8,9,10] [] Tryz.f20 20 []
def Du:Nat->PC:=bI Aw
def ap7:PC:=.block 0 [8,9,21,22,23,24] [] (.loop [8,9] [] (b 0))
def ap8:PC:=.block 2 [8,10,45,46,47,48,49,54] [] (.loop [8,10] [] (b 1))
def GD (b:Nat->PC):PT:=
 (.ite (aj r9 (.llen r0))
 (.chk (ak r0 r9)
 (.chk (ak r2 r9)
 (.ite (aW (pn r0 r9) (pn r2 r9))
 (.ret (aj (pn r0 r9) (pn r2 r9)))
 (.next ⟨[(9,(bH r9 (pi 1)))],[]⟩))))
 (.exit 0 ⟨[(21,r9),(22,r0),(23,(.llen r0)),(24,(aj r9 (.llen r0)))],[]⟩))
def GF (b:Nat->PC):PT:=
 (.ite (.pick (aj cC (.llen r1)) (aj cC (.llen r3)) pF)
 (.chk (ak r1 cC)
 (.chk (ak r3 cC)
 (.ite (aW (pn r1 cC) (pn r3 cC))
 (.ret (aj (pn r1 cC) (pn r3 cC)))
 (.next ⟨[(10,(bH cC (pi 1)))],[]⟩))))
 (.exit 2 ⟨[(45,cC),(46,r1),(47,(.llen r1)),(48,(aj cC (.llen r1))),(49,(aj cC (.llen r1))),(54,(.pick (aj cC (.llen r1)) (aj cC (.llen r3)) pF))],[]⟩))
def V5:PT:=
 (.ite (aW (.llen r0) (.llen r2))
 (.ret (aj (.llen r0) (.llen r2)))
 (.brk ⟨[(9,(pi 0)),(8,pF)],[]⟩
(ap7 b)
 (.brk ⟨[(10,(pi 0))],[]⟩
(ap8 b)
 (.ret pF))))
def alh:PT×List (Shp×PT):=(V5 b,[(.lp 0 [8,9,21,22,23,24] [] [8,9] [],GD b),(.lp 2 [8,10,45,46,47,48,49,54] [] [8,10] [],GF b)])
def LL:Aw.map told=some (alh (bz Aw)):=by kernel_rfl
def awc:tree (ae Aw)=V5 Du:=cl LL
def T8:round 0 [8,9,21,22,23,24] [] [8,9] [] (Du 0)=GD Du:=bl LL 0 λ_=>rfl
def T9:round 2 [8,10,45,46,47,48,49,54] [] [8,10] [] (Du 1)=GF Du:=bl LL 1 λ_=>rfl
def Jl:Option PC:=cF [14,15] [] Tryz.f29 29 [7,11]
def Wa:PT:=
 (.call ⟨[(19,r3),(18,r2),(17,r1),(16,ky)],[(11,(.mk [r4])),(7,(.mk [r0]))]⟩ [] 23 62 [(ax 24 (.mk [r4])),r5,r6]
 (.call ⟨[],[]⟩ [] 24 14 [dt,gi,jU,gR,ju]
 (.call ⟨[(28,mu),(27,(aW mu (pi 2)))],[]⟩ [(27,true)] 34 14 [(ax 8 o7),r1,r2,r3,(ax 24 iT)]
 (.ret (.pick gj (aW zl Mn) pF)))))
def adH:Jl.map told=some (Wa,[]):=by kernel_rfl
def awi:tree (ae Jl)=Wa:=aU adH
def AA:Option PC:=cF [7] [] Tryz.f62 62 [3,6]
def ON:Nat->PC:=bI AA
def aqd:PC:=.block 0 [7,8,9,10,11,12,17] [3] (.loop [7] [3] (b 0))
def MN (b:Nat->PC):PT:=
 (.ite (.pick (aj r7 (.llen r1)) (aj r7 (.llen r2)) pF)
 (.blockS ⟨[],[]⟩ 1 [20,21,22,23,24,25,26,27,28,29,30,31,32,33,34,35,36,37] [3]
 (.chk (ak r1 r7)
 (.call ⟨[(25,(pn r1 r7)),(21,(ax 19 o3))],[]⟩ [] 31 41 [(ax 24 o3),(pn r1 r7)]
 (.chk (ak r2 r7)
 (.call ⟨[],[]⟩ [] 36 17 [kV,hH,sP,(pn r2 r7)]
 (.next ⟨[],[(3,(.setc o3 0 m4))]⟩)))))
 (.next ⟨[(7,(bH r7 (pi 1)))],[]⟩))
 (.exit 0 ⟨[(8,r7),(9,r1),(10,(.llen r1)),(11,(aj r7 (.llen r1))),(12,(aj r7 (.llen r1))),(17,(.pick (aj r7 (.llen r1)) (aj r7 (.llen r2)) pF))],[]⟩))
def Wb:PT:=
 (.brk ⟨[(7,(pi 0))],[(6,zf),(3,(.mk [r0]))]⟩
(aqd b)
 (.ret (ax 24 (.setc o6 0 (ax 24 o3)))))
def alm:PT×List (Shp×PT):=(Wb b,[(.lp 0 [7,8,9,10,11,12,17] [3] [7] [3],MN b)])
def Sz:AA.map told=some (alm (bz AA)):=by kernel_rfl
def awj:tree (ae AA)=Wb ON:=cl Sz
def afy:round 0 [7,8,9,10,11,12,17] [3] [7] [3] (ON 0)=MN ON:=bl Sz 0 λ_=>rfl
def Jk:Option PC:=cF [4] [] Tryz.f41 41 [2]
def V9:PT:=
 (.ite (.pick (.pick (af r1 (pi 0)) pT (af r1 (pi 1))) pT (af r1 (pi 2)))
 (.ret (pc (.mk [r0]) 19))
 (.ite (af (pc (.mk [r0]) 20) (pi (-1)))
 (.ret (pi 0))
 (.ret (pc (.mk [r0]) 20))))
def adG:Jk.map told=some (V9,[]):=by kernel_rfl
def awg:tree (ae Jk)=V9:=aU adG
def Ay:Option PC:=cF [10,11,13,14,16] [] Tryz.f17 17 [4,77828,8,9,12,15]
def Dv:Nat->PC:=bI Ay
def aqa:PC:=.block 0 [10,11,23,24,25,26,27] [] (.loop [10,11] [] (b 0))
def aqb:PC:=.block 2 [12,13,14,51,52,53,54,55] [12] (.loop [12,13,14] [12] (b 1))
def ML (b:Nat->PC):PT:=
 (.ite (aj bQ Cw)
 (.chk (.nt (.an (.an (.nt cC) pT) (.nt (ak (pc o4 18) bQ))))
 (.chk (.nt (.an (.an (af (pc (pn (pc o4 18) bQ) 0) r1) (.an (.nt cC) pT)) (.nt (ak (pc o4 18) bQ))))
 (.next ⟨[(10,(.pick cC pT (.pick (af (pc (pn (pc o4 18) bQ) 0) r1) (af (pc (pn (pc o4 18) bQ) 1) r2) pF))),(11,Cy)],[]⟩)))
 (.exit 0 ⟨[(23,bQ),(24,pN),(25,(pc o4 18)),(26,Cw),(27,(aj bQ Cw))],[]⟩))
def lK (b:Nat->PC):PT:=
 (.ite (aj cG Cw)
 (.blockS ⟨[],[]⟩ 3 [12,13,15,16,58,59,60,61,62,63,64,65,66,67,72,73,74,75,86,91,92] [15,12]
 (.chk (ak (pc o4 18) cG)
 (.call ⟨[(80,(.nt cC)),(77,(.pick (af (pc wQ 0) r1) (af (pc wQ 1) r2) pF)),(75,(.nt dS)),(16,(.pick (af (pc wQ 0) r1) (af (pc wQ 1) r2) pF))],[(15,wQ)]⟩ [(80,true),(77,false),(75,true)] 83 40 [(.mk [(pc wQ 0),(pc wQ 1),(pc wQ 2)]),F2]
 (.ite (.pick Gg (.pick Mq pT (.pick sS r83 pF)) pF)
 (.chk (bD (.llen CF) cI)
 (.ite (.nt dt)
 (.chk (bD (.llen (.app CF Mf)) cI)
 (.next ⟨[(12,pN),(13,pT)],[(12,(.app CF Mf))]⟩))
 (.next ⟨[(12,pN),(13,pT)],[(12,CF)]⟩)))
 (.ite (.nt dt)
 (.chk (bD (.llen (.app q8 Mf)) cI)
 (.next ⟨[(12,pN)],[(12,(.app q8 Mf))]⟩))
 (.next ⟨[],[]⟩)))))
 (.next ⟨[(14,(bH cG (pi 1)))],[]⟩))
 (.exit 2 ⟨[(51,cG),(52,pN),(53,(pc o4 18)),(54,Cw),(55,(aj cG Cw))],[]⟩))
def V8:PT:=
 (.brk ⟨[(11,(pi 0)),(10,pF)],[(9,(.pick (af r3 (pi 0)) (.setc (.setc z3 0 (.mk [r1,r2,(pi 1)])) 2 (pi 0)) (.setc z3 0 (.mk [r1,r2,(pi 1)])))),(8,wN),(4,(.mk [r0]))]⟩
(aqa b)
 (.brk ⟨[(14,(pi 0)),(13,pF),(12,pN)],[(12,pL)]⟩
(aqb b)
 (.ite (.nt dS)
 (.chk (bD (.llen CF) cI)
 (.ret (ax 19 (.setc o8 0 (.mk [(pc dQ 0),(pc dQ 1),(pc dQ 2),(pc dQ 3),(pc dQ 4),(pc dQ 5),(pc dQ 6),(pc dQ 7),(pc dQ 8),(pc dQ 9),(pc dQ 10),(pc dQ 11),(pc dQ 12),(pc dQ 13),(pc dQ 14),(pc dQ 15),(pc dQ 16),(pc dQ 17),CF])))))
 (.ret (ax 19 (.setc o8 0 (.mk [(pc dQ 0),(pc dQ 1),(pc dQ 2),(pc dQ 3),(pc dQ 4),(pc dQ 5),(pc dQ 6),(pc dQ 7),(pc dQ 8),(pc dQ 9),(pc dQ 10),(pc dQ 11),(pc dQ 12),(pc dQ 13),(pc dQ 14),(pc dQ 15),(pc dQ 16),(pc dQ 17),q8])))))))
def alj:PT×List (Shp×PT):=(V8 b,[(.lp 0 [10,11,23,24,25,26,27] [] [10,11] [],ML b),(.lp 2 [12,13,14,51,52,53,54,55] [12] [12,13,14] [12],lK b)])
def LM:Ay.map told=some (alj (bz Ay)):=by kernel_rfl
def awf:tree (ae Ay)=V8 Dv:=cl LM
def afw:round 0 [10,11,23,24,25,26,27] [] [10,11] [] (Dv 0)=ML Dv:=bl LM 0 λ_=>rfl
def m7:round 2 [12,13,14,51,52,53,54,55] [12] [12,13,14] [12] (Dv 1)=lK Dv:=bl LM 1 λ_=>rfl
def Ji:Option PC:=cF [4] [] Tryz.f40 40 [2,3]
def V4:PT:=
 (.ret (.pick (bP mY (pc (.mk [r1]) 1)) pT (.pick (af mY (pc (.mk [r1]) 1)) (bP mZ (pc (.mk [r1]) 0)) pF)))
def adE:Ji.map told=some (V4,[]):=by kernel_rfl
def awb:tree (ae Ji)=V4:=aU adE
def Jj:Option PC:=cF [10] [] Tryz.f14 14 [5,9,11,12]
def V6:PT:=
 (.call ⟨[],[(9,(.mk [r4])),(5,(.mk [r0]))]⟩ [] 17 31 [ky,r1,r3,(ax 24 (.mk [r4]))]
 (.call ⟨[],[(11,(.setc jT 0 gi))]⟩ [] 22 31 [(ax 8 o5),r2,r3,(ax 24 o9)]
 (.ite (.pick (af (pc iT 4) (pi 0)) (.nt (pc iT 0)) pF)
 (.ret (pi 2))
 (.ite (.pick (af (pc (.setc jT 0 p7) 4) (pi 0)) (.nt (pc (.setc jT 0 p7) 0)) pF)
 (.ret (pi 2))
 (.ite (.pick (.pick (.pick (af (pc iT 4) (pi 0)) (af (pc (.setc jT 0 p7) 4) (pi 0)) pF) (af (pc iT 1) (pc (.setc jT 0 p7) 1)) pF) pT (.pick (aW (pc iT 4) (pi 0)) (aW (pc (.setc jT 0 p7) 4) (pi 0)) pF))
 (.ret (pi 0))
 (.ret (pi 1)))))))
def adF:Jj.map told=some (V6,[]):=by kernel_rfl
def awd:tree (ae Jj)=V6:=aU adF
end Rm
