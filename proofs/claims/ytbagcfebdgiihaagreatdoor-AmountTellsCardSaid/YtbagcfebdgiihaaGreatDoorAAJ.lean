import Derived.Test.YtbagcfebdgiihaaGreatDoorAAH
import Derived.KernelRfl
set_option maxRecDepth 100000
noncomputable section
set_option linter.all false
namespace Rm
open Go Go.Proofs Cx
def Cp:Option PC:=cF [2,3,5,8] [] Tryz.f228 228 [6]
def Fm:Nat->PC:=aV Cp
variable(b:Nat->PC)
def ayU:PC:=.block 0 [3,11,12] [] (.loop [3,11] [] (b 0))
def ayV:PC:=.block 2 [6,27,28] [6] (.loop [6,27] [6] (b 1))
def Qi (b:Nat->PC):PT:=
 (.ite (aj bJ aZ)
 (.chk (ao r9 bJ)
 (.ite (aj (ay r3 (.llen (pn r9 bJ))) (pi 0))
 (.chk (.nt pT)
 (.chk (.nt pT)
 (.next ⟨[(3,(ay r3 (.llen (pn r9 bJ)))),(11,(ay bJ (pi 1)))],[]⟩)))
 (.next ⟨[(3,(ay r3 (.llen (pn r9 bJ)))),(11,(ay bJ (pi 1)))],[]⟩)))
 (.exit 0 ⟨[(12,(aj bJ aZ))],[]⟩))
def Qj (b:Nat->PC):PT:=
 (.ite (aj eP lU)
 (.chk (ao dZ eP)
 (.chk (aY (.llen (.app o6 (pn dZ eP))) cJ)
 (.next ⟨[(6,pN),(27,(ay eP (pi 1)))],[(6,(.app o6 (pn dZ eP)))]⟩)))
 (.exit 2 ⟨[(28,(aj eP lU))],[]⟩))
def acW:PT:=
 (.brk ⟨[(11,(pi 0)),(10,(.llen r0)),(9,r0),(3,(pi 0))],[]⟩
(ayU b)
 (.call ⟨[],[]⟩ [] 24 254 [pL,r3]
 (.brk ⟨[(27,(pi 0)),(26,(.llen r0)),(25,r0),(6,pN)],[(6,mD)]⟩
(ayV b)
 (.ret o6))))
def atm:PT×List (Shp×PT):=(acW b,[(.lp 0 [3,11,12] [] [3,11] [],Qi b),(.lp 2 [6,27,28] [6] [6,27] [6],Qj b)])
def OS:Cp.map told=some (atm (aU Cp)):=by kernel_rfl
def aGp:tree (ab Cp)=acW Fm:=bk OS
def am6:round 0 [3,11,12] [] [3,11] [] (Fm 0)=Qi Fm:=aQ OS 0 λ_=>rfl
def am7:round 2 [6,27,28] [6] [6,27] [6] (Fm 1)=Qj Fm:=aQ OS 1 λ_=>rfl
def KF:Option PC:=cF [2,3,7,12] [] Tryz.f35 35 [1]
def aam:PT:=
 (.ite (aC xK (pi 0))
 (.ret (pi 0))
 (.ite (.nt fL)
 (.ret (pi 2))
 (.ite (aC gJ (pi 0))
 (.ret (pi 1))
 (.ret (pi 0)))))
def ai7:KF.map told=some (aam,[]):=by kernel_rfl
def aDw:tree (ab KF)=aam:=aD ai7
def KD:Option PC:=cF [8,9,10,11] [] Tryz.f31 31 [4,6]
def aak:PT:=
 (.call ⟨[],[(6,(.mk [r2])),(4,(.mk [r0]))]⟩ [] 14 29 [xI,r3]
 (.ite (ae (.llen (pc (.setc o6 0 cn) 15)) (pi 0))
 (.ret (pi (-1)))
 (.call ⟨[],[(6,(.setc o6 0 cn))]⟩ [] 23 81 [(ar 8 o4),r1,(pi 6),(ar 19 (.setc o6 0 cn)),r3]
 (.call ⟨[],[]⟩ [] 24 32 [fa]
 (.call ⟨[(29,(ar 15 o6)),(27,(ar 8 o4)),(9,(.mx mD (pi 0)))],[]⟩ [] 31 83 [(ar 19 o6)]
 (.call ⟨[],[]⟩ [] 33 82 [eP,lV,g9,r9]
 (.ite (aC (.tget py 1) (pi 0))
 (.ret (pi (-1)))
 (.ret (.tget py 0)))))))))
def ai5:KD.map told=some (aak,[]):=by kernel_rfl
def aDu:tree (ab KD)=aak:=aD ai5
def KE:Option PC:=cF [2] [] Tryz.f32 32 [1]
def aal:PT:=
 (.ite (.pick (aC xK (pi 0)) pT (.nt fL))
 (.ret (pi (-1)))
 (.ret gJ))
def ai6:KE.map told=some (aal,[]):=by kernel_rfl
def aDv:tree (ab KE)=aal:=aD ai6
def Cn:Option PC:=cF [2,4] [] Tryz.f83 83 [1,3,6,8]
def Fk:Nat->PC:=aV Cn
def ayS:PC:=.block 0 [3,16,17] [3] (.loop [3,16] [3] (b 0))
def ayT:PC:=.block 2 [2,3,36,37] [3] (.loop [2,3,36] [3] (b 1))
def Ja (b:Nat->PC):PT:=
 (.ite (aj cq bZ)
 (.chk (ao cn cq)
 (.ite (.pick (ae r4 (pi 1)) (ae (pc (.setc z9 0 (pn cn cq)) 0) (pi 1)) pF)
 (.chk (aY (.llen (.app o3 (.lst [(pc (.setc z9 0 (pn cn cq)) 6)]))) cJ)
 (.next ⟨[(3,pN),(16,(ay cq (pi 1)))],[(3,(.app o3 (.lst [(pc (.setc z9 0 (pn cn cq)) 6)])))]⟩))
 (.next ⟨[(16,(ay cq (pi 1)))],[]⟩)))
 (.exit 0 ⟨[(17,(aj cq bZ))],[]⟩))
def AM (b:Nat->PC):PT:=
 (.ite (aj fM hH)
 (.chk (ao qs fM)
 (.ite (.pick (ae r4 (pi 0)) (ae (pc (.setc z9 0 (pn qs fM)) 0) (pi 2)) pF)
 (.ret (pc (.setc z9 0 (pn qs fM)) 6))
 (.ite (.pick (ae r4 (pi 1)) (ae (pc (.setc z9 0 (pn qs fM)) 0) (pi 1)) pF)
 (.chk (aY (.llen (.app o3 (.lst [(pc (.setc z9 0 (pn qs fM)) 6)]))) cJ)
 (.next ⟨[(3,pN),(36,(ay fM (pi 1)))],[(3,(.app o3 (.lst [(pc (.setc z9 0 (pn qs fM)) 6)])))]⟩))
 (.next ⟨[(36,(ay fM (pi 1)))],[]⟩))))
 (.exit 2 ⟨[(37,(aj fM hH))],[]⟩))
def acS:PT:=
 (.brk ⟨[(16,(pi 0)),(15,(.llen pk)),(14,pk),(4,xJ),(3,pN),(2,(pi 0))],[(3,pL),(1,(.mk [r0]))]⟩
(ayS b)
 (.brk ⟨[(36,(pi 0)),(35,(.llen (pc o1 17))),(34,(pc o1 17))],[]⟩
(ayT b)
 (.ite (ae (.llen o3) (pi 0))
 (.ret (pi (-1)))
 (.call ⟨[],[]⟩ [] 66 125 [o3]
 (.ret PB)))))
def atk:PT×List (Shp×PT):=(acS b,[(.lp 0 [3,16,17] [3] [3,16] [3],Ja b),(.lp 2 [2,3,36,37] [3] [2,3,36] [3],AM b)])
def OQ:Cn.map told=some (atk (aU Cn)):=by kernel_rfl
def aGk:tree (ab Cn)=acS Fk:=bk OQ
def Zy:round 0 [3,16,17] [3] [3,16] [3] (Fk 0)=Ja Fk:=aQ OQ 0 λ_=>rfl
def Jb:round 2 [2,3,36,37] [3] [2,3,36] [3] (Fk 1)=AM Fk:=aQ OQ 1 λ_=>rfl
def Cv:Option PC:=cF [2,3,4] [] Tryz.f125 125 []
def Ta:Nat->PC:=aV Cv
def aik:PC:=.block 0 [3,4,12,13,14,15] [] (.loop [3,4] [] (b 0))
def Qk (b:Nat->PC):PT:=
 (.ite (aj r4 (.llen r0))
 (.chk (ao r0 r4)
 (.next ⟨[(3,(.mn r3 (pn r0 r4))),(4,(ay r4 (pi 1)))],[]⟩))
 (.exit 0 ⟨[(12,r4),(13,r0),(14,(.llen r0)),(15,(aj r4 (.llen r0)))],[]⟩))
def ac6:PT:=
 (.ite (aj (.llen r0) (pi 1))
 (.chk (.nt pT)
 (.chk (.nt pT)
 (.chk (ao r0 (pi 0))
 (.brk ⟨[(4,(pi 1)),(3,(pn r0 (pi 0)))],[]⟩
(aik b)
 (.ret r3)))))
 (.chk (ao r0 (pi 0))
 (.brk ⟨[(4,(pi 1)),(3,(pn r0 (pi 0)))],[]⟩
(aik b)
 (.ret r3))))
def ats:PT×List (Shp×PT):=(ac6 b,[(.lp 0 [3,4,12,13,14,15] [] [3,4] [],Qk b)])
def Xb:Cv.map told=some (ats (aU Cv)):=by kernel_rfl
def aGz:tree (ab Cv)=ac6 Ta:=bk Xb
def am8:round 0 [3,4,12,13,14,15] [] [3,4] [] (Ta 0)=Qk Ta:=aQ Xb 0 λ_=>rfl
def FC:Option PC:=cF [8,9,15,39,58,74,11,12] [] Tryz.f82 82 [4,5,10]
def JF:PT:=
 (.blockS ⟨[],[(10,AF),(5,(.mk [r1])),(4,(.mk [r0]))]⟩ 0 [8,9,15,16,17,18,19,25,26,32,33,38,39,40,41,42,43,47,48,52,53,57,58,59,60,61,65,66,69,70,73,74,75,76,77,80] []
 (.call ⟨[],[]⟩ [] 17 14 [(ar 8 o4)]
 (.call ⟨[(19,(aC dR (pi 0)))],[]⟩ [(19,false)] 23 120 [(ar 8 o4),(pc o5 9)]
 (.call ⟨[(26,(.pick gK pT (.nt fa)))],[]⟩ [(26,false)] 30 120 [(ar 8 o4),(pc o5 10)]
 (.call ⟨[(33,(.pick lU pT (.nt jC)))],[]⟩ [(33,false)] 36 121 [(pc o5 8)]
 (.iteS ⟨[],[]⟩ (.pick py pT (.nt fM)) [8,9,39,40,41,42,43,47,48,52,53,57,58,59,60,61,65,66,69,70,73,74,75,76,77,80] []
 (.ret (.tup [(pi 0),(pi 1)]))
 (.iteS ⟨[],[]⟩ alJ [8,9,58,59,60,61,65,66,69,70,73,74,75,76,77,80] []
 (.ret (.tup [(pi 0),(pi 1)]))
 (.call ⟨[(61,(aC r2 (pi (-1))))],[]⟩ [(61,true)] 63 121 [r2]
 (.iteS ⟨[],[]⟩ (.pick (.pick (.pick DX (.nt DY) pF) pT (aj r3 (pi 0))) pT (aS r3 (pi 20000))) [8,9,74,75,76,77,80] []
 (.ret (.tup [(pi 0),(pi 1)]))
 (.call ⟨[],[]⟩ [] 76 122 [(.mk [(pc bP 0),(pc bP 1),(pc bP 2)])]
 (.ite (.pick vA (ae r2 (pi (-1))) pF)
 (.ret (.tup [(pi 0),(pi 4)]))
 (.next ⟨[],[]⟩)))
 (.next ⟨[],[]⟩)))
 (.next ⟨[],[]⟩))
 (.next ⟨[],[]⟩))))))
 (.call ⟨[],[]⟩ [] 85 123 [(ar 8 o4),(ar 15 o5),r2]
 (.ite (aC (.tget H7 1) (pi 0))
 (.ret (.tup [(pi 0),(.tget H7 1)]))
 (.call ⟨[(11,(.tget H7 0))],[]⟩ [] 92 121 [(.tget H7 0)]
 (.ite (.pick (.nt Yo) pT (aS (ay bJ r3) (pi 100000)))
 (.ret (.tup [(pi 0),(pi 3)]))
 (.call ⟨[],[]⟩ [] 106 124 [(ar 8 o4),(pc o5 10),(ay bJ r3)]
 (.ret (.tup [(.tget X9 0),(.tget X9 1)]))))))))
def akZ:FC.map told=some (JF,[]):=by kernel_rfl
def ac7:tree (ab FC)=JF:=aD akZ
def Cc:Option PC:=cF [2,3,4,5,6,7,10,11,12] [] Tryz.f14 14 [1,9]
def SU:Nat->PC:=aV Cc
def ayy:PC:=.block 0 [2,38,39] [] (.loop [2,38] [] (b 0))
def IX (b:Nat->PC):PT:=
 (.ite (aj jW kW)
 (.blockS ⟨[],[]⟩ 1 [2,9,40,41,42,43,44,45] [9]
 (.chk (ao fM jW)
 (.call ⟨[],[]⟩ [] 44 57 [(pc (.setc (.con (.agg [(.int 0)])) 0 (pn fM jW)) 0),(pi 10)]
 (.ite (.nt rD)
 (.ret (pi 1))
 (.next ⟨[],[]⟩))))
 (.next ⟨[(38,(ay jW (pi 1)))],[]⟩))
 (.exit 0 ⟨[(39,(aj jW kW))],[]⟩))
def acA:PT:=
 (.call ⟨[(2,(pi 0))],[(1,(.mk [r0]))]⟩ [] 15 52 [fU]
 (.call ⟨[(5,(.tget bZ 2)),(4,(.tget bZ 1)),(3,(.tget bZ 0))],[]⟩ [] 21 53 [(pc o1 0),(pi 8),(.con (.clo 54 []))]
 (.ite (aC fE (pi 0))
 (.ret fE)
 (.call ⟨[],[(1,(ar 8 o1))]⟩ [] 27 53 [r3,(pi 40),(.clo 55 [(.ref (ar 8 o1))])]
 (.ite (aC eP (pi 0))
 (.ret eP)
 (.ite (aS pq (pi 20))
 (.ret (pi 6))
 (.brk ⟨[(38,(pi 0)),(37,pq),(36,(pc o1 2))],[]⟩
(ayy b)
 (.call ⟨[],[]⟩ [] 49 53 [r4,(pi 200),(.clo 58 [(.ref o1)])]
 (.ite (aC jD (pi 0))
 (.ret jD)
 (.call ⟨[],[]⟩ [] 55 53 [r5,(pi 20),(.clo 59 [(.ref o1)])]
 (.ite (aC tp (pi 0))
 (.ret tp)
 (.call ⟨[],[]⟩ [] 60 61 [(.sub o1 0 8)]
 (.ite (aC rF (pi 0))
 (.ret rF)
 (.call ⟨[],[]⟩ [] 65 62 [(.sub o1 0 8)]
 (.ret lW)))))))))))))))
def as8:PT×List (Shp×PT):=(acA b,[(.lp 0 [2,38,39] [] [2,38] [],IX b)])
def WY:Cc.map told=some (as8 (aU Cc)):=by kernel_rfl
def aF6:tree (ab Cc)=acA SU:=bk WY
def Zl:round 0 [2,38,39] [] [2,38] [] (SU 0)=IX SU:=aQ WY 0 λ_=>rfl
def Cg:Option PC:=cF [] [] Tryz.f52 52 [1,2,3,4,6,16390,20486,24582,21,8,34,10,12298,16394,47]
def yY:Nat->PC:=aV Cg
def ayD:PC:=.block 0 [2,14,15] [2] (.loop [2,14] [2] (b 0))
def ayE:PC:=.block 2 [3,27,28] [3] (.loop [3,27] [3] (b 1))
def ayF:PC:=.block 4 [4,40,41] [4] (.loop [4,40] [4] (b 2))
def Qd (b:Nat->PC):PT:=
 (.ite pf
 (.chk (ao bK cn)
 (.chk (aY (.llen al3) cJ)
 (.next ⟨[(2,pN),(14,(ay cn (pi 1)))],[(2,al3)]⟩)))
 (.exit 0 ⟨[(15,pf)],[]⟩))
def Qe (b:Nat->PC):PT:=
 (.ite (aj eP lU)
 (.chk (ao dZ eP)
 (.chk (aY (.llen alQ) cJ)
 (.next ⟨[(3,pN),(27,(ay eP (pi 1)))],[(3,alQ)]⟩)))
 (.exit 2 ⟨[(28,(aj eP lU))],[]⟩))
def Qf (b:Nat->PC):PT:=
 (.ite (aj nv tn)
 (.chk (ao jW nv)
 (.chk (aY (.llen alM) cJ)
 (.next ⟨[(4,pN),(40,(ay nv (pi 1)))],[(4,alM)]⟩)))
 (.exit 4 ⟨[(41,(aj nv tn))],[]⟩))
def acL:PT:=
 (.brk ⟨[(14,(pi 0)),(13,(.llen gJ)),(12,gJ),(4,pN),(3,pN),(2,pN)],[(4,pL),(3,pL),(2,pL),(1,(.mk [r0]))]⟩
(ayD b)
 (.brk ⟨[(27,(pi 0)),(26,po),(25,(pc o1 3))],[]⟩
(ayE b)
 (.brk ⟨[(40,(pi 0)),(39,qp),(38,(pc o1 4))],[]⟩
(ayF b)
 (.ret (.tup [o2,o3,o4])))))
def atd:PT×List (Shp×PT):=(acL b,[(.lp 0 [2,14,15] [2] [2,14] [2],Qd b),(.lp 2 [3,27,28] [3] [3,27] [3],Qe b),(.lp 4 [4,40,41] [4] [4,40] [4],Qf b)])
def HC:Cg.map told=some (atd (aU Cg)):=by kernel_rfl
def aGd:tree (ab Cg)=acL yY:=bk HC
def am2:round 0 [2,14,15] [2] [2,14] [2] (yY 0)=Qd yY:=aQ HC 0 λ_=>rfl
def am3:round 2 [3,27,28] [3] [3,27] [3] (yY 1)=Qe yY:=aQ HC 1 λ_=>rfl
def am4:round 4 [4,40,41] [4] [4,40] [4] (yY 2)=Qf yY:=aQ HC 2 λ_=>rfl
def Ce:Option PC:=cF [6,7,8] [] Tryz.f53 53 []
def SX:Nat->PC:=aV Ce
def ayB:PC:=.block 0 [6,15,16] [] (.loop [6,15] [] (b 0))
def IZ (b:Nat->PC):PT:=
 (.ite (aj bZ cn)
 (.blockS ⟨[],[]⟩ 1 [6,7,8,17,18,19,20,21,22,24,25,26,27] []
 (.call ⟨[(7,bZ)],[]⟩ [] 20 102 [r0,bZ]
 (.ite (aC dt (pi 0))
 (.ret dt)
 (.callc ⟨[],[]⟩ [] 26 r2 [r7]
 (.ite (.nt lU)
 (.ret (pi 1))
 (.next ⟨[],[]⟩)))))
 (.next ⟨[(15,(ay bZ (pi 1)))],[]⟩))
 (.exit 0 ⟨[(16,(aj bZ cn))],[]⟩))
def acH:PT:=
 (.ite (aS (.llen r0) r1)
 (.ret (pi 6))
 (.brk ⟨[(15,(pi 0)),(14,(.llen r0)),(6,(pi 0))],[]⟩
(ayB b)
 (.ret (pi 0))))
def atb:PT×List (Shp×PT):=(acH b,[(.lp 0 [6,15,16] [] [6,15] [],IZ b)])
def W2:Ce.map told=some (atb (aU Ce)):=by kernel_rfl
def aF9:tree (ab Ce)=acH SX:=bk W2
def Zn:round 0 [6,15,16] [] [6,15] [] (SX 0)=IZ SX:=aQ W2 0 λ_=>rfl
def Ms:Option PC:=cF [4] [] Tryz.f102 102 []
def acK:PT:=
 (.chk (ao r0 r1)
 (.call ⟨[],[]⟩ [] 9 160 [(pn r0 r1)]
 (.ite (.nt r9)
 (.ret (pi 2))
 (.chk (.slok r0 (pi 0) r1)
 (.chk (ao r0 r1)
 (.call ⟨[],[]⟩ [] 18 161 [(.slc r0 (pi 0) r1),(pn r0 r1)]
 (.ite cR
 (.ret (pi 5))
 (.ret (pi 0)))))))))
def akR:Ms.map told=some (acK,[]):=by kernel_rfl
def aGc:tree (ab Ms)=acK:=aD akR
def Cf:Option PC:=cF [2,3,4,5] [] Tryz.f160 160 []
def SY:Nat->PC:=aV Cf
def ayC:PC:=.block 0 [2,16,17] [] (.loop [2,16] [] (b 0))
def I0 (b:Nat->PC):PT:=
 (.ite (aj cq bZ)
 (.chk (ao cn cq)
 (.ite (.pick (.nt (.pick (.pick (aN (pn cn cq) (.con (.v (.int .u8 97)))) (aY (pn cn cq) (.con (.v (.int .u8 122)))) pF) pT (.pick (aN (pn cn cq) (.con (.v (.int .u8 65)))) (aY (pn cn cq) (.con (.v (.int .u8 90)))) pF))) (.pick (ae cq (pi 0)) pT (.pick (aC (pn cn cq) (.con (.v (.int .u8 95)))) (.pick (aj (pn cn cq) (.con (.v (.int .u8 48)))) pT (aS (pn cn cq) (.con (.v (.int .u8 57))))) pF)) pF)
 (.ret pF)
 (.next ⟨[(16,(ay cq (pi 1)))],[]⟩)))
 (.exit 0 ⟨[(17,(aj cq bZ))],[]⟩))
def acJ:PT:=
 (.ite (.pick (.cs .eql r0 (.con (.v (.string ⟨#[]⟩)))) pT (aS (.slen r0) (pi 20)))
 (.ret pF)
 (.chk (aY (.slen r0) cJ)
 (.brk ⟨[(16,(pi 0)),(15,(.llen (.bytes r0))),(14,(.bytes r0)),(2,pF)],[]⟩
(ayC b)
 (.ret pT))))
def atc:PT×List (Shp×PT):=(acJ b,[(.lp 0 [2,16,17] [] [2,16] [],I0 b)])
def W3:Cf.map told=some (atc (aU Cf)):=by kernel_rfl
def aGb:tree (ab Cf)=acJ SY:=bk W3
def Zo:round 0 [2,16,17] [] [2,16] [] (SY 0)=I0 SY:=aQ W3 0 λ_=>rfl
def Mz:Option PC:=cF [4] [] Tryz.f161 161 []
def ac0:PT:=
 (.call ⟨[],[]⟩ [] 7 208 [r0,r1]
 (.ret (aN r7 (pi 0))))
def akY:Mz.map told=some (ac0,[]):=by kernel_rfl
def aGt:tree (ab Mz)=ac0:=aD akY
def Cu:Option PC:=cF [4,5] [] Tryz.f208 208 []
def S9:Nat->PC:=aV Cu
def ay0:PC:=.block 0 [4,8,9] [] (.loop [4,8] [] (b 0))
def Jg (b:Nat->PC):PT:=
 (.ite (aj r8 r7)
 (.chk (ao r0 r8)
 (.ite (.cs .eql r1 (pn r0 r8))
 (.ret r8)
 (.next ⟨[(8,pv)],[]⟩)))
 (.exit 0 ⟨[(9,(aj r8 r7))],[]⟩))
def ac5:PT:=
 (.brk ⟨[(8,(pi 0)),(7,(.llen r0)),(4,(pi 0))],[]⟩
(ay0 b)
 (.ret (pi (-1))))
def atr:PT×List (Shp×PT):=(ac5 b,[(.lp 0 [4,8,9] [] [4,8] [],Jg b)])
def Xa:Cu.map told=some (atr (aU Cu)):=by kernel_rfl
def aGy:tree (ab Cu)=ac5 S9:=bk Xa
def ZF:round 0 [4,8,9] [] [4,8] [] (S9 0)=Jg S9:=aQ Xa 0 λ_=>rfl
def Mm:Option PC:=cF [2] [] Tryz.f54 54 []
def acB:PT:=
 (.ret pT)
def akL:Mm.map told=some (acB,[]):=by kernel_rfl
def aF2:tree (ab Mm)=acB:=aD akL
def Mn:Option PC:=cF [3] [] Tryz.f55 55 []
def acC:PT:=
 (.chk (ao (pc (.deref r1) 1) r0)
 (.call ⟨[],[]⟩ [] 10 56 [(.deref r1),(pn (pc (.deref r1) 1) r0)]
 (.ret aZ)))
def akM:Mn.map told=some (acC,[]):=by kernel_rfl
def aF3:tree (ab Mn)=acC:=aD akM
def Cd:Option PC:=cF [4,6] [] Tryz.f56 56 [2,3]
def SW:Nat->PC:=aV Cd
def ayA:PC:=.block 0 [4,10,11] [] (.loop [4,10] [] (b 0))
def IY (b:Nat->PC):PT:=
 (.ite (aj aZ r9)
 (.chk (ao r8 aZ)
 (.chk AA
 (.chk (.nt (.an (.an (.nt (aj (.ai .rem .i64 (pn r8 aZ) (pi 100)) (pi 1))) pT) (.nt AA)))
 (.ite (.pick (aj (.ai .rem .i64 (pn r8 aZ) (pi 100)) (pi 1)) pT (aS (.ai .rem .i64 (pn r8 aZ) (pi 100)) (pi 31)))
 (.ret pF)
 (.next ⟨[(10,(ay aZ (pi 1)))],[]⟩)))))
 (.exit 0 ⟨[(11,(aj aZ r9))],[]⟩))
def acG:PT:=
 (.brk ⟨[(10,(pi 0)),(9,(.llen (pc (.mk [r1]) 4))),(8,(pc (.mk [r1]) 4)),(4,pF)],[(3,(.mk [r1])),(2,(.mk [r0]))]⟩
(ayA b)
 (.call ⟨[(33,(.pick (aS (.llen (pc o3 4)) (pi 60)) pT (aS (.llen (pc o3 5)) (pi 200))))],[]⟩ [(33,false)] 39 57 [(pc o3 1),(.llen (pc o2 4))]
 (.call ⟨[(42,(.pick py pT (.nt tn)))],[]⟩ [(42,false)] 48 57 [(pc o3 2),(.llen (pc o2 0))]
 (.ite (.pick Yj pT (.nt hZ))
 (.ret pF)
 (.call ⟨[],[]⟩ [] 53 103 [(pc o3 3),(pi 0),(pi 6)]
 (.call ⟨[(54,Yk)],[]⟩ [(54,true)] 57 103 [(pc o3 4),(pi 101),(pi 1231)]
 (.call ⟨[(59,(.pick rE vz pF))],[]⟩ [(59,true)] 62 103 [(pc o3 5),(pi 0),(pi 100000)]
 (.ret (.pick nz jc pF)))))))))
def ata:PT×List (Shp×PT):=(acG b,[(.lp 0 [4,10,11] [] [4,10] [],IY b)])
def W0:Cd.map told=some (ata (aU Cd)):=by kernel_rfl
def aF8:tree (ab Cd)=acG SW:=bk W0
def Zm:round 0 [4,10,11] [] [4,10] [] (SW 0)=IY SW:=aQ W0 0 λ_=>rfl
def Cj:Option PC:=cF [6,7,8] [] Tryz.f103 103 []
def SZ:Nat->PC:=aV Cj
def ayK:PC:=.block 0 [6,11,12] [] (.loop [6,11] [] (b 0))
def x9 (b:Nat->PC):PT:=
 (.ite (aj bJ aZ)
 (.chk (ao r9 bJ)
 (.chk (.nt (.an (.an (aS bJ (pi 0)) (.an (.nt (.pick (aj (pn r9 bJ) r1) pT (aS (pn r9 bJ) r2))) pT)) (.nt (ao r0 (aO bJ (pi 1))))))
 (.ite (.pick (.pick (aj (pn r9 bJ) r1) pT (aS (pn r9 bJ) r2)) pT (.pick (aS bJ (pi 0)) (aY (pn r9 bJ) (pn r0 (aO bJ (pi 1)))) pF))
 (.ret pF)
 (.next ⟨[(11,(ay bJ (pi 1)))],[]⟩))))
 (.exit 0 ⟨[(12,(aj bJ aZ))],[]⟩))
def acO:PT:=
 (.brk ⟨[(11,(pi 0)),(10,(.llen r0)),(9,r0),(6,pF)],[]⟩
(ayK b)
 (.ret pT))
def atg:PT×List (Shp×PT):=(acO b,[(.lp 0 [6,11,12] [] [6,11] [],x9 b)])
def W4:Cj.map told=some (atg (aU Cj)):=by kernel_rfl
def aGg:tree (ab Cj)=acO SZ:=bk W4
def D9:round 0 [6,11,12] [] [6,11] [] (SZ 0)=x9 SZ:=aQ W4 0 λ_=>rfl
def Mo:Option PC:=cF [3] [] Tryz.f58 58 []
def acD:PT:=
 (.chk (ao (pc (.deref r1) 3) r0)
 (.call ⟨[],[]⟩ [] 13 57 [(pc (pn (pc (.deref r1) 3) r0) 1),(.llen (pc (.deref r1) 1))]
 (.chk (.nt (.an (.an cK pT) (.nt (ao (pc (.deref r1) 3) r0))))
 (.call ⟨[(14,cK)],[]⟩ [(14,true)] 24 57 [(pc (pn (pc (.deref r1) 3) r0) 2),(.llen (pc (.deref r1) 2))]
 (.ret (.pick cn mD pF))))))
def akN:Mo.map told=some (acD,[]):=by kernel_rfl
def aF4:tree (ab Mo)=acD:=aD akN
def Mp:Option PC:=cF [3] [] Tryz.f59 59 []
def acE:PT:=
 (.chk (ao (pc (.deref r1) 4) r0)
 (.call ⟨[],[]⟩ [] 9 60 [(pn (pc (.deref r1) 4) r0)]
 (.ret r9)))
def akO:Mp.map told=some (acE,[]):=by kernel_rfl
def aF5:tree (ab Mp)=acE:=aD akO
def Ch:Option PC:=cF [2] [] Tryz.f60 60 [1,3,4,6,19,8,16392,36]
def Fh:Nat->PC:=aV Ch
def ayG:PC:=.block 0 [2,3,12,13] [3] (.loop [2,3,12] [3] (b 0))
def ayH:PC:=.block 2 [4,29,30] [4] (.loop [4,29] [4] (b 1))
def I1 (b:Nat->PC):PT:=
 (.ite (aj bK bJ)
 (.blockS ⟨[],[]⟩ 1 [2,3,6,14,15,17,18,19,20,21,22,23,24] [6,19,3]
 (.chk (ao aZ bK)
 (.chk (aY (.llen (.app o3 (.lst [(pc (.setc vl 0 (pn aZ bK)) 0)]))) cJ)
 (.call ⟨[(3,pN)],[(3,(.app o3 (.lst [(pc (.setc vl 0 (pn aZ bK)) 0)])))]⟩ [] 23 57 [(pc (.setc vl 0 (pn aZ bK)) 1),(pi 5)]
 (.ite (.nt fa)
 (.ret pF)
 (.next ⟨[],[]⟩)))))
 (.next ⟨[(12,(ay bK (pi 1)))],[]⟩))
 (.exit 0 ⟨[(13,(aj bK bJ))],[]⟩))
def Qg (b:Nat->PC):PT:=
 (.ite (aj lV mE)
 (.chk (ao eP lV)
 (.chk (aY (.llen alR) cJ)
 (.next ⟨[(4,pN),(29,(ay lV (pi 1)))],[(4,alR)]⟩)))
 (.exit 2 ⟨[(30,(aj lV mE))],[]⟩))
def acM:PT:=
 (.brk ⟨[(12,(pi 0)),(11,rz),(10,vq),(4,pN),(3,pN),(2,pF)],[(4,pL),(3,pL),(1,(.mk [r0]))]⟩
(ayG b)
 (.brk ⟨[(29,(pi 0)),(28,po),(27,(pc o1 3))],[]⟩
(ayH b)
 (.call ⟨[],[]⟩ [] 40 103 [o3,(pi 0),(pi 21)]
 (.call ⟨[(41,nv)],[]⟩ [(41,true)] 43 103 [o4,(pi 0),(pi 21)]
 (.ret (.pick mF rC pF))))))
def ate:PT×List (Shp×PT):=(acM b,[(.lp 0 [2,3,12,13] [3] [2,3,12] [3],I1 b),(.lp 2 [4,29,30] [4] [4,29] [4],Qg b)])
def ON:Ch.map told=some (ate (aU Ch)):=by kernel_rfl
def aGe:tree (ab Ch)=acM Fh:=bk ON
def Zp:round 0 [2,3,12,13] [3] [2,3,12] [3] (Fh 0)=I1 Fh:=aQ ON 0 λ_=>rfl
def am5:round 2 [4,29,30] [4] [4,29] [4] (Fh 1)=Qg Fh:=aQ ON 1 λ_=>rfl
def Ck:Option PC:=cF [2,3] [] Tryz.f61 61 [1,4,6]
def Fj:Nat->PC:=aV Ck
def ayL:PC:=.block 2 [2,50,51] [] (.loop [2,50] [] (b 0))
def ayM:PC:=.block 0 [2,14,15] [] (.loop [2,14] [] (b 1))
def Ea (b:Nat->PC):PT:=
 (.ite (aj nw jD)
 (.chk (ao hZ nw)
 (.ite (.pick (ae (pc (.setc z3 0 (pn hZ nw)) 0) (pc o4 0)) (ae (pc (.setc z3 0 (pn hZ nw)) 1) (pc o4 1)) pF)
 (.ret (pi 5))
 (.next ⟨[(50,(ay nw (pi 1)))],[]⟩)))
 (.exit 2 ⟨[(51,(aj nw jD))],[]⟩))
def I4:PT:=
 (.ite pf
 (.blockS ⟨[(15,pf)],[]⟩ 1 [2,3,4,16,17,18,19,20,21,22,23,24,25,26,34,35,39,40,44,45,46,47,48,49,50,51] [4]
 (.chk (ao bK cn)
 (.call ⟨[(3,cn)],[(4,(.setc z3 0 mC))]⟩ [] 24 57 [(pc (.setc z3 0 mC) 0),mB]
 (.call ⟨[(26,(.nt mD))],[]⟩ [(26,false)] 32 57 [(pc o4 1),mB]
 (.ite (.pick (.pick (.pick lU pT (.nt ku)) pT (aj (pc o4 2) (pi 1))) pT (aS (pc o4 2) (pi 20000)))
 (.ret (pi 1))
 (.chk (.slok (pc o1 5) (pi 0) r3)
 (.brk ⟨[(50,(pi 0)),(49,(.llen (.slc (pc o1 5) (pi 0) r3))),(48,(.slc (pc o1 5) (pi 0) r3))],[]⟩
(ayL b)
 (.next ⟨[],[]⟩)))))))
 (.next ⟨[(14,(ay cn (pi 1)))],[]⟩))
 (.exit 0 ⟨[(15,pf)],[]⟩))
def acP:PT:=
 (.ite (aS (.llen xJ) (pi 100))
 (.ret (pi 6))
 (.brk ⟨[(14,(pi 0)),(13,(.llen xJ)),(12,xJ),(2,(pi 0))],[(1,(.mk [r0]))]⟩
(ayM b)
 (.ret (pi 0))))
def ath:PT×List (Shp×PT):=(acP b,[(.lp 2 [2,50,51] [] [2,50] [],Ea b),(.lp 0 [2,14,15] [] [2,14] [],I4 b)])
def OP:Ck.map told=some (ath (aU Ck)):=by kernel_rfl
def aGh:tree (ab Ck)=acP Fj:=bk OP
def Qh:round 2 [2,50,51] [] [2,50] [] (Fj 0)=Ea Fj:=aQ OP 0 λ_=>rfl
def Zs:round 0 [2,14,15] [] [2,14] [] (Fj 1)=I4 Fj:=aQ OP 1 λ_=>rfl
def Ci:Option PC:=cF [2] [] Tryz.f62 62 [1,4,6]
def Fi:Nat->PC:=aV Ci
def ayI:PC:=.block 0 [2,14,15] [] (.loop [2,14] [] (b 0))
def ayJ:PC:=.block 2 [2,69,70] [] (.loop [2,69] [] (b 1))
def I2 (b:Nat->PC):PT:=
 (.ite pf
 (.blockS ⟨[],[]⟩ 1 [2,4,16,17,18,19,20,21,22,23,24,25,33,34,40,41,47,48,54,55,60] [4]
 (.chk (ao bK cn)
 (.call ⟨[],[(4,(.setc z5 0 mC))]⟩ [] 23 57 [(pc (.setc z5 0 mC) 0),xL]
 (.call ⟨[(25,(.nt fa))],[]⟩ [(25,false)] 31 57 [(pc o4 1),xL]
 (.call ⟨[(41,(.pick (.pick dZ pT (.nt g9)) pT (ae (pc o4 0) (pc o4 1))))],[]⟩ [(41,false)] 45 57 [(aO (pc o4 2) (pi 1)),lT]
 (.call ⟨[(48,(.pick mF pT (.nt mG)))],[]⟩ [(48,false)] 52 57 [(aO (pc o4 3) (pi 1)),lT]
 (.call ⟨[(55,(.pick hZ pT (.nt vw)))],[]⟩ [(55,false)] 58 57 [(pc o4 4),(pi 100001)]
 (.ite (.pick tp pT (.nt ny))
 (.ret (pi 1))
 (.next ⟨[],[]⟩))))))))
 (.next ⟨[(14,(ay cn (pi 1)))],[]⟩))
 (.exit 0 ⟨[(15,pf)],[]⟩))
def I3 (b:Nat->PC):PT:=
 (.ite (aj tw PD)
 (.blockS ⟨[],[]⟩ 3 [2,6,71,72,73,74,75,76,77,78,79,80,84,85,91,92,96] [6]
 (.chk (ao tu tw)
 (.call ⟨[],[(6,(.setc z3 0 (pn tu tw)))]⟩ [] 78 57 [(pc (.setc z3 0 (pn tu tw)) 0),qp]
 (.ite (.pick (.pick (.pick (.nt r78) pT (aj (pc o6 1) (pi 0))) pT (aS (pc o6 1) (pc o6 2))) pT (aS (pc o6 2) (pi 100000)))
 (.ret (pi 1))
 (.next ⟨[],[]⟩))))
 (.next ⟨[(69,(ay tw (pi 1)))],[]⟩))
 (.exit 2 ⟨[(70,(aj tw PD))],[]⟩))
def acN:PT:=
 (.ite (aS (.llen (pc (.mk [r0]) 6)) (pi 100))
 (.ret (pi 6))
 (.brk ⟨[(14,(pi 0)),(13,(.llen (pc (.mk [r0]) 6))),(12,(pc (.mk [r0]) 6)),(2,(pi 0))],[(1,(.mk [r0]))]⟩
(ayI b)
 (.ite (aS (.llen (pc o1 7)) (pi 20))
 (.ret (pi 6))
 (.brk ⟨[(69,(pi 0)),(68,(.llen (pc o1 7))),(67,(pc o1 7))],[]⟩
(ayJ b)
 (.ret (pi 0))))))
def atf:PT×List (Shp×PT):=(acN b,[(.lp 0 [2,14,15] [] [2,14] [],I2 b),(.lp 2 [2,69,70] [] [2,69] [],I3 b)])
def OO:Ci.map told=some (atf (aU Ci)):=by kernel_rfl
def aGf:tree (ab Ci)=acN Fi:=bk OO
def Zq:round 0 [2,14,15] [] [2,14] [] (Fi 0)=I2 Fi:=aQ OO 0 λ_=>rfl
def Zr:round 2 [2,69,70] [] [2,69] [] (Fi 1)=I3 Fi:=aQ OO 1 λ_=>rfl
def MB:Option PC:=cF [4] [] Tryz.f120 120 [2]
def ac9:PT:=
 (.ret (.pick (aN r1 (pi 0)) (aj r1 (.llen gJ)) pF))
def ak3:MB.map told=some (ac9,[]):=by kernel_rfl
def aGB:tree (ab MB)=ac9:=aD ak3
def MC:Option PC:=cF [2] [] Tryz.f121 121 []
def ada:PT:=
 (.ret (.pick vj (aY r0 (pi 100000)) pF))
def ak4:MC.map told=some (ada,[]):=by kernel_rfl
def aGC:tree (ab MC)=ada:=aD ak4
def MA:Option PC:=cF [2] [] Tryz.f122 122 [1]
def ac8:PT:=
 (.ret (.pick (ae fL (pi 0)) pT (ae fL (pi 1))))
def ak0:MA.map told=some (ac8,[]):=by kernel_rfl
def aGA:tree (ab MA)=ac8:=aD ak0
def FE:Option PC:=cF [6,7,13,16,24,33,8,9] [] Tryz.f123 123 [3,4]
def pD:PT:=
 (.blockS ⟨[(12,(pc (.mk [r1]) 5))],[(4,(.mk [r1])),(3,(.mk [r0]))]⟩ 0 [6,7,13,14,16,17,24,25,33,34] []
 (.iteS ⟨[],[]⟩ (ae bK (pi 0)) [6,7,16,17,24,25,33,34] []
 (.ret (.tup [r2,(pi 0)]))
 (.iteS ⟨[],[]⟩ (ae bK (pi 1)) [6,7,24,25,33,34] []
 (.call ⟨[],[]⟩ [] 21 180 [r2,(.mk [(pc o4 5),(pc o4 6),(pc o4 7)])]
 (.ret (.tup [(.tget fE 0),(.tget fE 1)])))
 (.iteS ⟨[],[]⟩ (ae bK (pi 2)) [6,7,33,34] []
 (.call ⟨[],[]⟩ [] 30 180 [(pc o4 8),(.mk [(pc o4 5),(pc o4 6),(pc o4 7)])]
 (.ret (.tup [(.tget jC 0),(.tget jC 1)])))
 (.iteS ⟨[],[]⟩ (ae bK (pi 4)) [6,7] []
 (.call ⟨[],[]⟩ [] 41 106 [(ar 8 o3),(pc o4 9),(pc o4 10)]
 (.ret (.tup [(ay (pc o4 8) (.tget mF 0)),(.tget mF 1)])))
 (.next ⟨[],[]⟩)
 (.next ⟨[],[]⟩))
 (.next ⟨[],[]⟩))
 (.next ⟨[],[]⟩))
 (.next ⟨[],[]⟩))
 (.ret (.tup [(pc o4 6),(pi 0)])))
def ak2:FE.map told=some (pD,[]):=by kernel_rfl
def AU:tree (ab FE)=pD:=aD ak2
def FD:Option PC:=cF [4,5] [] Tryz.f180 180 [3]
def tJ:PT:=
 (.ite (.pick (aj xS (pi 0)) pT (aS xS (pi 20000)))
 (.ret (.tup [(pi 0),(pi 3)]))
 (.iteS ⟨[],[(3,(.mk [r1]))]⟩ (ae (pc (.mk [r1]) 2) (pi 1)) [4,5] []
 (.call ⟨[],[]⟩ [] 20 214 [r0,(pc o3 1)]
 (.ret (.tup [(.tget dt 0),(.tget dt 1)])))
 (.next ⟨[],[]⟩)
 (.ret (.tup [(ay r0 (pc o3 1)),(pi 0)]))))
def ak1:FD.map told=some (tJ,[]):=by kernel_rfl
def yr:tree (ab FD)=tJ:=aD ak1
def Fv:Option PC:=cF [4,5,6,7,8,9] [] Tryz.f214 214 []
def En:PT:=
 (.call ⟨[],[]⟩ [] 11 215 [r0]
 (.ite (.pick (.pick (.nt bJ) pT (aj r1 (pi (-5000)))) pT (aS r1 (pi 5000)))
 (.ret (.tup [(pi 0),(pi 3)]))
 (.call ⟨[],[]⟩ [] 23 241 [r0]
 (.chk (aC (pi 12) (pi 0))
 (.call ⟨[(41,(.tget fa 2)),(40,(ay (.ai .rem .i64 Po (pi 12)) (pi 1))),(39,(.ai .quo .i64 Po (pi 12)))],[]⟩ [] 44 243 [(.ai .quo .i64 Po (pi 12)),(ay (.ai .rem .i64 Po (pi 12)) (pi 1))]
 (.call ⟨[],[]⟩ [] 46 242 [tn,nv,(.mn mF rD)]
 (.ret (.tup [(.tget xX 0),(.tget xX 1)]))))))))
def ajj:Fv.map told=some (En,[]):=by kernel_rfl
def QU:tree (ab Fv)=En:=aD ajj
def KV:Option PC:=cF [2] [] Tryz.f215 215 []
def aaF:PT:=
 (.ret (.pick (aY (pi 0) r0) (aY r0 (pi 100000)) pF))
def ajq:KV.map told=some (aaF,[]):=by kernel_rfl
def aDR:tree (ab KV)=aaF:=aD ajq
def KR:Option PC:=cF [2,3,4,5,6,7,8,9] [] Tryz.f241 241 []
def aaA:PT:=
 (.chk (aC (pi 146097) (pi 0))
 (.chk (aC (pi 1460) (pi 0))
 (.chk (aC (pi 36524) (pi 0))
 (.chk (aC (pi 146096) (pi 0))
 (.chk (aC (pi 365) (pi 0))
 (.chk (aC (pi 4) (pi 0))
 (.chk AA
 (.chk (aC (pi 153) (pi 0))
 (.chk (aC (pi 5) (pi 0))
 (.ret (.tup [(.pick (aj alT (pi 3)) (ay (ay xN (.ai .mul .i64 (pi 400) (.ai .quo .i64 (ay r0 (pi 730425)) (pi 146097)))) (pi 1)) (ay xN (.ai .mul .i64 (pi 400) (.ai .quo .i64 (ay r0 (pi 730425)) (pi 146097))))),alT,(ay (aO (aO (.ai .rem .i64 (ay r0 (pi 730425)) (pi 146097)) (aO (ay (.ai .mul .i64 (pi 365) xN) (.ai .quo .i64 xN (pi 4))) (.ai .quo .i64 xN (pi 100)))) (.ai .quo .i64 (ay (.ai .mul .i64 (pi 153) O9) (pi 2)) (pi 5))) (pi 1))])))))))))))
def ajl:KR.map told=some (aaA,[]):=by kernel_rfl
def aDM:tree (ab KR)=aaA:=aD ajl
def KT:Option PC:=cF [4] [] Tryz.f243 243 []
def QV:PT:=
 (.ite (ae r1 (pi 12))
 (.ret (pi 31))
 (.call ⟨[],[]⟩ [] 10 268 [r0,(ay r1 (pi 1)),(pi 1)]
 (.call ⟨[],[]⟩ [] 13 268 [r0,r1,(pi 1)]
 (.ret (aO aZ cK)))))
def ajn:KT.map told=some (QV,[]):=by kernel_rfl
def aDP:tree (ab KT)=QV:=aD ajn
def Fx:Option PC:=cF [6,0,1] [] Tryz.f268 268 []
def Eo:PT:=
 (.chk (aC (pi 4) (pi 0))
 (.chk AA
 (.chk (aC (pi 400) (pi 0))
 (.chk (aC (pi 5) (pi 0))
 (.ret (aO (aO (ay (ay (ay (aO (ay (.ai .mul .i64 (pi 365) Pb) (.ai .quo .i64 Pb (pi 4))) (.ai .quo .i64 Pb (pi 100))) (.ai .quo .i64 Pb (pi 400))) (.ai .quo .i64 (ay (.ai .mul .i64 (pi 153) (aO (.pick (aj r1 (pi 3)) (ay r1 (pi 12)) r1) (pi 3))) (pi 2)) (pi 5))) r2) (pi 1)) (pi 730425)))))))
def ajo:Fx.map told=some (Eo,[]):=by kernel_rfl
def aaD:tree (ab Fx)=Eo:=aD ajo
def Fw:Option PC:=cF [6,7,8] [] Tryz.f242 242 []
def ym:PT:=
 (.call ⟨[(28,r2),(27,al2)],[]⟩ [(27,false)] 31 243 [r0,r1]
 (.ite (.pick eP pT (aS mE g9))
 (.ret (.tup [(pi 0),(pi 3)]))
 (.call ⟨[],[]⟩ [] 37 268 [r0,r1,r2]
 (.call ⟨[(8,kW)],[]⟩ [] 39 215 [kW]
 (.ite (.nt tn)
 (.ret (.tup [(pi 0),(pi 3)]))
 (.ret (.tup [r8,(pi 0)])))))))
def ajk:Fw.map told=some (ym,[]):=by kernel_rfl
def JC:tree (ab Fw)=ym:=aD ajk
def y9:Option PC:=cF [6,7] [] Tryz.f106 106 [3,9]
def SV:Nat->PC:=aV y9
def ayz:PC:=.block 0 [6,7,13,14] [] (.loop [6,7,13] [] (b 0))
def xZ (b:Nat->PC):PT:=
 (.ite (aj cK bK)
 (.chk (ao bJ cK)
 (.ite (.pick (ae (pc (.setc z3 0 (pn bJ cK)) 0) r1) (ae (pc (.setc z3 0 (pn bJ cK)) 1) r2) pF)
 (.ret (.tup [(pc (.setc z3 0 (pn bJ cK)) 2),(pi 0)]))
 (.next ⟨[(13,(ay cK (pi 1)))],[]⟩)))
 (.exit 0 ⟨[(14,(aj cK bK))],[]⟩))
def Q9:PT:=
 (.brk ⟨[(13,(pi 0)),(12,(.llen xJ)),(11,xJ),(7,(pi 0)),(6,(pi 0))],[]⟩
(ayz b)
 (.ret (.tup [(pi 0),(pi 4)])))
def as9:PT×List (Shp×PT):=(Q9 b,[(.lp 0 [6,7,13,14] [] [6,7,13] [],xZ b)])
def WZ:y9.map told=some (as9 (aU y9)):=by kernel_rfl
def anQ:tree (ab y9)=Q9 SV:=bk WZ
def D8:round 0 [6,7,13,14] [] [6,7,13] [] (SV 0)=xZ SV:=aQ WZ 0 λ_=>rfl
def Cw:Option PC:=cF [6,7,8,2,9,10] [] Tryz.f124 124 [3]
def Tb:Nat->PC:=aV Cw
def ay1:PC:=.block 0 [] [] (.loop [2,6,7] [] (b 0))
def ZG (b:Nat->PC):PT:=
 (.blockS ⟨[],[]⟩ 1 [2,6,7,9,10,14,15,16,17,18,19,20,21,22,23,24,25,26,27,28,29,30,31,32,34] []
 (.call ⟨[],[]⟩ [] 17 182 [(ar 8 o3),r8,r2]
 (.chk (ao (pc o3 1) r1)
 (.call ⟨[(2,dR)],[]⟩ [] 25 183 [(pn (pc o3 1) r1),dR]
 (.ite (aC (.tget dZ 1) (pi 0))
 (.ret (.tup [(pi 0),(pi 3)]))
 (.ite (ae (.tget dZ 0) r2)
 (.ret (.tup [r2,(pi 0)]))
 (.next ⟨[(2,(.tget dZ 0))],[]⟩))))))
 (.next ⟨[],[]⟩))
def adb:PT:=
 (.call ⟨[(7,(pi 0)),(6,(pi 0))],[(3,(.mk [r0]))]⟩ [] 13 181 [fU,r1]
 (.brk ⟨[(8,cK)],[]⟩
(ay1 b)
 (.next ⟨[],[]⟩)))
def att:PT×List (Shp×PT):=(adb b,[(.lp 0 [] [] [2,6,7] [],ZG b)])
def Xc:Cw.map told=some (att (aU Cw)):=by kernel_rfl
def aGD:tree (ab Cw)=adb Tb:=bk Xc
def aBU:round 0 [] [] [2,6,7] [] (Tb 0)=ZG Tb:=aQ Xc 0 λ_=>rfl
def Cy:Option PC:=cF [6,7,2] [] Tryz.f182 182 [3,9]
def Fo:Nat->PC:=aV Cy
def ay2:PC:=.block 2 [2,7,14,15] [] (.loop [2,7,14] [] (b 0))
def ay3:PC:=.block 0 [2,7,10] [] (.loop [2,7] [] (b 1))
def Eb (b:Nat->PC):PT:=
 (.ite pf
 (.chk (ao bK cn)
 (.next ⟨[(2,(.pick alL (ay (pc (.setc z3 0 mC) 2) (pi 1)) r2)),(7,(.pick alL pT r7)),(14,(ay cn (pi 1)))],[]⟩))
 (.exit 2 ⟨[(15,pf)],[]⟩))
def Qm:PT:=
 (.ite r7
 (.blockS ⟨[(10,r7)],[]⟩ 1 [2,7,11,12,13,14,15] []
 (.brk ⟨[(14,(pi 0)),(13,(.llen (pc o3 7))),(12,(pc o3 7)),(7,pF)],[]⟩
(ay2 b)
 (.next ⟨[],[]⟩))
 (.next ⟨[],[]⟩))
 (.exit 0 ⟨[(10,r7)],[]⟩))
def ade:PT:=
 (.brk ⟨[(7,pT)],[(3,(.mk [r0]))]⟩
(ay3 b)
 (.ret r2))
def atu:PT×List (Shp×PT):=(ade b,[(.lp 2 [2,7,14,15] [] [2,7,14] [],Eb b),(.lp 0 [2,7,10] [] [2,7] [],Qm b)])
def OT:Cy.map told=some (atu (aU Cy)):=by kernel_rfl
def aGE:tree (ab Cy)=ade Fo:=bk OT
def Ql:round 2 [2,7,14,15] [] [2,7,14] [] (Fo 0)=Eb Fo:=aQ OT 0 λ_=>rfl
def am9:round 0 [2,7,10] [] [2,7] [] (Fo 1)=Qm Fo:=aQ OT 1 λ_=>rfl
def Bn:Option PC:=cF [6] [] Tryz.f183 183 [2,4,5]
def Sb:Nat->PC:=aV Bn
def arw:PC:=.each cR [16] [4,5] (some (.tup [(pc o4 0),(pc o5 0)])) (b 0)
def Yw (b:Nat->PC):PT:=
 (.exit 1000000007 ⟨[],[(4,(.setc o4 0 cq)),(5,(.setc o5 0 (pi 0)))]⟩)
def aaz:PT:=
 (.call ⟨[],[(5,(.con (.agg [(.int 0)]))),(4,(.con (.agg [(.int 0)]))),(2,(.mk [r0]))]⟩ [] 8 215 [r1]
 (.ite (.nt r8)
 (.ret (.tup [(pc (.setc o4 0 (pi 0)) 0),(pc (.setc o5 0 (pi 3)) 0)]))
 (.call ⟨[],[]⟩ [] 15 216 [(ar 6 o2),r1,(.mn (ay r1 (pi 400)) (pi 100000))]
 (.blockS ⟨[],[]⟩ 0 [] [4,5]
 (.callc ⟨[],[]⟩ [] 18 bZ []
 (.brk ⟨[],[]⟩
(arw b)
 (.next ⟨[],[]⟩)))
 (.ret (.tup [(pc (.setc o4 0 (pi 0)) 0),(pc (.setc o5 0 (pi 3)) 0)]))))))
def ase:PT×List (Shp×PT):=(aaz b,[(.ea [4,5],Yw b)])
def Wh:Bn.map told=some (ase (aU Bn)):=by kernel_rfl
def aDL:tree (ab Bn)=aaz Sb:=bk Wh
def aBO:rL [4,5] (Sb 0)=Yw Sb:=aab Wh 0 λ_=>rfl
def KS:Option PC:=cF [6] [] Tryz.f216 216 [3,4,5]
def aaB:PT:=
 (.ret (.clo 244 [(.ref vh),(.ref (pc (.mk [r2]) 0)),(.ref (ar 6 (.mk [r0])))]))
def ajm:KS.map told=some (aaB,[]):=by kernel_rfl
def aDO:tree (ab KS)=aaB:=aD ajm
def uo:Option PC:=FJ {ctx with fr:=[5],nh:=[]} Tryz.f244 [(.ref I),(.ref I),(.ref Y0)] [I] 1000 [1000]
def Sc:Nat->PC:=aV uo
def axu:PC:=.block 0 [5,7,8,9] [1000] (.loop [5] [1000] (b 0))
def PL (b:Nat->PC):PT:=
 (.ite (aY r5 (.deref r2))
 (.blockS ⟨[],[]⟩ 1 [12,13,14,15,20] [1000]
 (.call ⟨[],[]⟩ [] 14 245 [(.deref r3),r5]
 (.call ⟨[(15,cn)],[(1000,alU)]⟩ [(15,true)] 18 1000000009 [alU]
 (.ite (.pick bZ (.nt cR) pF)
 (.ret (.o 1000))
 (.next ⟨[],[]⟩))))
 (.next ⟨[(5,px)],[]⟩))
 (.exit 0 ⟨[(7,r5),(8,(.deref r2)),(9,(aY r5 (.deref r2)))],[]⟩))
def aaC:PT:=
 (.brk ⟨[(5,(.deref r1))],[]⟩
(axu b)
 (.ret (.o 1000)))
def asf:PT×List (Shp×PT):=(aaC b,[(.lp 0 [5,7,8,9] [1000] [5] [1000],PL b)])
def Wi:uo.map told=some (asf (aU uo)):=by kernel_rfl
def aDN:tree (ab uo)=aaC Sc:=bk Wi
def amJ:round 0 [5,7,8,9] [1000] [5] [1000] (Sc 0)=PL Sc:=aQ Wi 0 λ_=>rfl
def aqc:∀yv,FJ {ctx with fr:=[5],nh:=[],yv:=yv} Tryz.f244 [(.ref I),(.ref I),(.ref Y0)] [I] 1000 [1000]=some (ab uo):=λyv=>(show _=uo by kernel_rfl).trans (au uo Wi)
def KU:Option PC:=cF [4,5,6,7] [] Tryz.f245 245 [2]
def aaE:PT:=
 (.call ⟨[],[(2,(.mk [r0]))]⟩ [] 10 241 [r1]
 (.chk (aC (pi 7) (pi 0))
 (.call ⟨[(7,(.tget aZ 2)),(6,(.tget aZ 1))],[]⟩ [] 19 185 [(pc o2 3),(.ai .rem .i64 (ay r1 (pi 5)) (pi 7))]
 (.call ⟨[(21,(.nt gK))],[]⟩ [(21,true)] 28 185 [(pc o2 4),(ay (.ai .mul .i64 (pi 100) r6) r7)]
 (.call ⟨[(31,(.pick fE (.nt mE) pF))],[]⟩ [(31,true)] 35 185 [(pc o2 5),r1]
 (.ret (.pick g9 (.nt hH) pF)))))))
def ajp:KU.map told=some (aaE,[]):=by kernel_rfl
def aDQ:tree (ab KU)=aaE:=aD ajp
def KM:Option PC:=cF [] [] Tryz.f74 74 [2,4,5,6,43]
def aat:PT:=
 (.chk (ao (pc (.mk [r0]) 25) r1)
 (.call ⟨[],[(6,(.setc xO 0 (.mk [r1,(pc HW 0),(pc HW 2),(pi 0),(pi 0),(pi 0),(.pick (aC (pc HW 0) (pi 1)) (ae (.ai .and .i64 (pc HW 8) (pi 1)) (pi 0)) pF)]))),(5,HW),(4,xO),(2,(.mk [r0]))]⟩ [] 33 113 [XR,r1,(pc (.mk [r0]) 9)]
 (.iteS ⟨[],[]⟩ (.nt py) [] [6]
 (.call ⟨[(36,(pc o2 29))],[]⟩ [] 39 115 [(ar 31 o2),(pi 1),r1]
 (.call ⟨[],[]⟩ [] 42 115 [(ar 31 o2),(pi 2),r1]
 (.call ⟨[],[]⟩ [] 44 114 [(.lst [fM,tn,Yj])]
 (.next ⟨[],[(6,(.setc o6 3 rD))]⟩))))
 (.next ⟨[],[]⟩)
 (.call ⟨[],[]⟩ [] 49 116 [(ar 31 o2),r1]
 (.ret (ar 7 (.setc o4 0 (ar 7 (.pick (.pick (ae (pc o5 0) (pi 1)) pT (ae (pc o5 0) (pi 4))) (.setc XQ 5 (.mn (pc XQ 5) (pc o5 5))) XQ)))))))))
def aje:KM.map told=some (aat,[]):=by kernel_rfl
def aDE:tree (ab KM)=aat:=aD aje
def MO:Option PC:=cF [6] [] Tryz.f113 113 [3]
def adr:PT:=
 (.call ⟨[(16,(.pick (aN r1 (pi 0)) (aj r1 (.llen pk)) pF))],[]⟩ [(16,true)] 19 176 [(ar 19 (.mk [r0])),r2]
 (.ret (.pick cq (.look gK r1 pF) pF)))
def alg:MO.map told=some (adr,[]):=by kernel_rfl
def aGS:tree (ab MO)=adr:=aD alg
def CB:Option PC:=cF [4] [] Tryz.f176 176 [2,5,7]
def Te:Nat->PC:=aV CB
def ay8:PC:=.block 0 [12,13] [5] (.loop [12] [5] (b 0))
def Jk (b:Nat->PC):PT:=
 (.ite (aj bK bJ)
 (.chk (ao aZ bK)
 (.ite (.pick (ae (pc (.setc z9 0 (pn aZ bK)) 0) (pi 7)) (aY (pc (.setc z9 0 (pn aZ bK)) 6) r1) pF)
 (.chk (aj (.mlen o5) cJ)
 (.next ⟨[(12,(ay bK (pi 1)))],[(5,(.put o5 (pc (.setc z9 0 (pn aZ bK)) 4) pT))]⟩))
 (.next ⟨[(12,(ay bK (pi 1)))],[]⟩)))
 (.exit 0 ⟨[(13,(aj bK bJ))],[]⟩))
def ads:PT:=
 (.brk ⟨[(12,(pi 0)),(11,(.llen (pc (.mk [r0]) 17))),(10,(pc (.mk [r0]) 17)),(5,pN)],[(5,(.con (.map [])))]⟩
(ay8 b)
 (.ret o5))
def aty:PT×List (Shp×PT):=(ads b,[(.lp 0 [12,13] [5] [12] [5],Jk b)])
def Xf:CB.map told=some (aty (aU CB)):=by kernel_rfl
def aGT:tree (ab CB)=ads Te:=bk Xf
def ZK:round 0 [12,13] [5] [12] [5] (Te 0)=Jk Te:=aQ Xf 0 λ_=>rfl
def KN:Option PC:=cF [6] [] Tryz.f115 115 [3,7]
def aau:PT:=
 (.call ⟨[],[]⟩ [] 23 33 [fU,(pc (.mk [r0]) 8),r1,(ar 24 (.setc HP 0 (.mk [XR,r2,r2,(pi (-1)),(pc (.mk [r0]) 30),(pc (.mk [r0]) 9)])))]
 (.call ⟨[],[]⟩ [] 24 35 [fa]
 (.ret mD)))
def ajf:KN.map told=some (aau,[]):=by kernel_rfl
def aDF:tree (ab KN)=aau:=aD ajf
def Bl:Option PC:=cF [2,3,5,12,15] [] Tryz.f114 114 []
def R9:Nat->PC:=aV Bl
def axs:PC:=.block 0 [2,3,8,9] [] (.loop [2,3,8] [] (b 0))
def Ia (b:Nat->PC):PT:=
 (.ite (aj r8 r7)
 (.chk (ao r6 r8)
 (.ite (ae (pn r6 r8) (pi 0))
 (.ret (pi 0))
 (.next ⟨[(3,(.pick (ae (pn r6 r8) (pi 2)) (pi 2) r3)),(8,pv)],[]⟩)))
 (.exit 0 ⟨[(9,(aj r8 r7))],[]⟩))
def aar:PT:=
 (.brk ⟨[(8,(pi 0)),(7,(.llen r0)),(6,r0),(3,(pi 1)),(2,(pi 0))],[]⟩
(axs b)
 (.ret r3))
def asb:PT×List (Shp×PT):=(aar b,[(.lp 0 [2,3,8,9] [] [2,3,8] [],Ia b)])
def Wf:Bl.map told=some (asb (aU Bl)):=by kernel_rfl
def aDC:tree (ab Bl)=aar R9:=bk Wf
def Ys:round 0 [2,3,8,9] [] [2,3,8] [] (R9 0)=Ia R9:=aQ Wf 0 λ_=>rfl
def Bm:Option PC:=cF [4,5,6,7,10,50,54] [] Tryz.f116 116 [2,9]
def Sa:Nat->PC:=aV Bm
def axt:PC:=.block 0 [7,23,24] [] (.loop [7,23] [] (b 0))
def Ib (b:Nat->PC):PT:=
 (.ite (aj fa jB)
 (.chk (ao fE fa)
 (.next ⟨[(7,(.pick r7 pT (aS (pc (.setc z2 0 (pn fE fa)) 0) r1))),(23,(ay fa (pi 1)))],[]⟩))
 (.exit 0 ⟨[(24,(aj fa jB))],[]⟩))
def aav:PT:=
 (.call ⟨[(5,(pi 0))],[(2,(.mk [r0]))]⟩ [] 14 177 [XR,r1]
 (.brk ⟨[(23,(pi 0)),(22,(.llen (pc o2 26))),(21,(pc o2 26)),(7,pF),(6,(.llen (pc o2 26))),(5,cn)],[]⟩
(axt b)
 (.ite (.nt r7)
 (.ret (.tup [(pi 0),r5]))
 (.chk (ao (pc o2 26) (aO r6 (pi 1)))
 (.call ⟨[(10,(pc (pn (pc o2 26) (aO r6 (pi 1))) 1))],[]⟩ [] 48 115 [(ar 31 o2),(pi 4),r1]
 (.ite (ae hZ (pi 1))
 (.ret (.tup [hZ,aZ]))
 (.ite (ae hZ (pi 2))
 (.ret (.tup [hZ,(.mn r5 aZ)]))
 (.ret (.tup [hZ,r5])))))))))
def asc:PT×List (Shp×PT):=(aav b,[(.lp 0 [7,23,24] [] [7,23] [],Ib b)])
def Wg:Bm.map told=some (asc (aU Bm)):=by kernel_rfl
def aDG:tree (ab Bm)=aav Sa:=bk Wg
def Yt:round 0 [7,23,24] [] [7,23] [] (Sa 0)=Ib Sa:=aQ Wg 0 λ_=>rfl
def Br:Option PC:=cF [4,5] [] Tryz.f177 177 [2,7]
def Sg:Nat->PC:=aV Br
def axA:PC:=.block 0 [5,14,15] [] (.loop [5,14] [] (b 0))
def PM (b:Nat->PC):PT:=
 (.ite pf
 (.chk (ao bK cn)
 (.next ⟨[(5,(.pick (aY (pc (.setc z2 0 mC) 0) r1) (pc (.setc z2 0 mC) 1) r5)),(14,(ay cn (pi 1)))],[]⟩))
 (.exit 0 ⟨[(15,pf)],[]⟩))
def aaZ:PT:=
 (.brk ⟨[(14,(pi 0)),(13,(.llen (pc (.mk [r0]) 16))),(12,(pc (.mk [r0]) 16)),(5,(pc (.mk [r0]) 3))],[]⟩
(axA b)
 (.ret r5))
def asl:PT×List (Shp×PT):=(aaZ b,[(.lp 0 [5,14,15] [] [5,14] [],PM b)])
def Wm:Br.map told=some (asl (aU Br)):=by kernel_rfl
def aEc:tree (ab Br)=aaZ Sg:=bk Wm
def amK:round 0 [5,14,15] [] [5,14] [] (Sg 0)=PM Sg:=aQ Wm 0 λ_=>rfl
def Kz:Option PC:=cF [8,9,10] [] Tryz.f34 34 []
def aaf:PT:=
 (.call ⟨[],[]⟩ [] 16 86 [r0,r1,r2,r3,(pi 360)]
 (.ite (ae (.tget cq 1) (pi 3))
 (.ret jb)
 (.ret (.tget cq 0))))
def ai1:Kz.map told=some (aaf,[]):=by kernel_rfl
def aDp:tree (ab Kz)=aaf:=aD ai1
def K6:Option PC:=cF [10,11,12,13,14] [] Tryz.f86 86 []
def aaR:PT:=
 (.call ⟨[],[]⟩ [] 16 132 [r0,jb]
 (.call ⟨[(18,(.nt cq))],[]⟩ [(18,false)] 20 132 [r1,(pi 1000)]
 (.call ⟨[(23,(.pick cR pT (.nt dt)))],[]⟩ [(23,false)] 25 132 [r2,(pi 100000)]
 (.call ⟨[(28,(.pick fa pT (.nt dZ)))],[]⟩ [(28,false)] 30 132 [r3,(pi 100000)]
 (.ite (.pick (.pick (.pick mE pT (.nt jC)) pT (aj r3 r2)) pT (.pick (aC r4 (pi 360)) (aC r4 (pi 365)) pF))
 (.ret (.tup [(pi 0),(pi 1)]))
 (.call ⟨[],[]⟩ [] 55 133 [r0,(.ai .mul .i64 r1 (aO r3 r2)),(.ai .mul .i64 (pi 1000) r4)]
 (.ite (.nt (.tget tp 2))
 (.ret (.tup [(pi 0),(pi 3)]))
 (.ret (.tup [(.tget tp 0),(pi 0)])))))))))
def ajA:K6.map told=some (aaR,[]):=by kernel_rfl
def aD4:tree (ab K6)=aaR:=aD ajA
def K7:Option PC:=cF [4] [] Tryz.f132 132 []
def aaT:PT:=
 (.ret (.pick vj (aY r0 r1) pF))
def ajC:K7.map told=some (aaT,[]):=by kernel_rfl
def aD6:tree (ab K7)=aaT:=aD ajC
def Fz:Option PC:=cF [6,7,8,9,10,11,12] [] Tryz.f133 133 []
def aaS:PT:=
 (.call ⟨[],[]⟩ [] 18 134 [(.conv .u64 r0),(.conv .u64 r1)]
 (.ite (aN (.tget cR 0) (.conv .u64 r2))
 (.ret (.tup [(pi 0),(pi 0),pF]))
 (.call ⟨[],[]⟩ [] 30 135 [(.tget cR 0),(.tget cR 1),(.conv .u64 r2)]
 (.ite (aS (.tget jC 0) (.con (.v (.int .u64 1099511627776))))
 (.ret (.tup [(pi 0),(pi 0),pF]))
 (.ret (.tup [(.conv .i64 (.tget jC 0)),(.conv .i64 (.tget jC 1)),pT]))))))
def ajB:Fz.map told=some (aaS,[]):=by kernel_rfl
def aD5:tree (ab Fz)=aaS:=aD ajB
def y6:Option PC:=cF [6,7,8,2,9,10,11,12,13,14,15,16,17,18] [] Tryz.f135 135 []
def yW:Nat->PC:=aV y6
def Hp:PC:=.block 0 [15,16,67,68,69,78] [] (.loop [15,16] [] (b 0))
def Hq:PC:=.block 2 [16,18,102,103,104,113] [] (.loop [16,18] [] (b 1))
def Ic (b:Nat->PC):PT:=
 (.ite XW
 (.ite (aN DV kT)
 (.exit 0 ⟨[(15,(.ai .sub .u64 bZ (.con (.v (.int .u64 1))))),(16,DV),(67,bZ),(68,(aN bZ kT)),(69,(aN bZ kT)),(78,XW)],[]⟩)
 (.next ⟨[(15,(.ai .sub .u64 bZ (.con (.v (.int .u64 1))))),(16,DV)],[]⟩))
 (.exit 0 ⟨[(67,bZ),(68,(aN bZ kT)),(69,(aN bZ kT)),(78,XW)],[]⟩))
def Ie (b:Nat->PC):PT:=
 (.ite XV
 (.ite (aN DV kT)
 (.exit 2 ⟨[(16,DV),(18,(.ai .sub .u64 cR (.con (.v (.int .u64 1))))),(102,cR),(103,(aN cR kT)),(104,(aN cR kT)),(113,XV)],[]⟩)
 (.next ⟨[(16,DV),(18,(.ai .sub .u64 cR (.con (.v (.int .u64 1)))))],[]⟩))
 (.exit 2 ⟨[(102,cR),(103,(aN cR kT)),(104,(aN cR kT)),(113,XV)],[]⟩))
def QT:PT:=
 (.ite (ae r2 ph)
 (.chk pF
 (.chk (.nt pT)
 (.ite (aY r2 r0)
 (.chk pF
 (.chk (.nt pT)
 (.ite (ae r0 ph)
 (.chk (aC r2 (pi 0))
 (.ret (.tup [(.ai .quo .u64 r1 r2),(.ai .rem .u64 r1 r2)])))
 (.call ⟨[],[]⟩ [] 35 192 [r2]
 (.chk (aN rA (pi 0))
 (.chk (aN lR (pi 0))
 (.chk Pt
 (.chk (aC nu (pi 0))
 (.brk ⟨[(16,Pq),(15,(.ai .quo .u64 tj nu)),(14,(.ai .and .u64 xU pg)),(13,(.ai .shr .u64 xU lR)),(11,tj),(10,(.ai .and .u64 xT pg)),(9,nu),(2,xT),(8,rA)],[]⟩
(Hp b)
 (.chk (aC r9 (pi 0))
 (.brk ⟨[(16,Ps),(18,(.ai .quo .u64 tl r9)),(17,tl)],[]⟩
(Hq b)
 (.chk (aN r8 (pi 0))
 (.ret (.tup [Pa,Pl]))))))))))))))
 (.ite (ae r0 ph)
 (.chk (aC r2 (pi 0))
 (.ret (.tup [(.ai .quo .u64 r1 r2),(.ai .rem .u64 r1 r2)])))
 (.call ⟨[],[]⟩ [] 35 192 [r2]
 (.chk (aN rA (pi 0))
 (.chk (aN lR (pi 0))
 (.chk Pt
 (.chk (aC nu (pi 0))
 (.brk ⟨[(16,Pq),(15,(.ai .quo .u64 tj nu)),(14,(.ai .and .u64 xU pg)),(13,(.ai .shr .u64 xU lR)),(11,tj),(10,(.ai .and .u64 xT pg)),(9,nu),(2,xT),(8,rA)],[]⟩
(Hp b)
 (.chk (aC r9 (pi 0))
 (.brk ⟨[(16,Ps),(18,(.ai .quo .u64 tl r9)),(17,tl)],[]⟩
(Hq b)
 (.chk (aN r8 (pi 0))
 (.ret (.tup [Pa,Pl])))))))))))))))
 (.ite (aY r2 r0)
 (.chk pF
 (.chk (.nt pT)
 (.ite (ae r0 ph)
 (.chk (aC r2 (pi 0))
 (.ret (.tup [(.ai .quo .u64 r1 r2),(.ai .rem .u64 r1 r2)])))
 (.call ⟨[],[]⟩ [] 35 192 [r2]
 (.chk (aN rA (pi 0))
 (.chk (aN lR (pi 0))
 (.chk Pt
 (.chk (aC nu (pi 0))
 (.brk ⟨[(16,Pq),(15,(.ai .quo .u64 tj nu)),(14,(.ai .and .u64 xU pg)),(13,(.ai .shr .u64 xU lR)),(11,tj),(10,(.ai .and .u64 xT pg)),(9,nu),(2,xT),(8,rA)],[]⟩
(Hp b)
 (.chk (aC r9 (pi 0))
 (.brk ⟨[(16,Ps),(18,(.ai .quo .u64 tl r9)),(17,tl)],[]⟩
(Hq b)
 (.chk (aN r8 (pi 0))
 (.ret (.tup [Pa,Pl]))))))))))))))
 (.ite (ae r0 ph)
 (.chk (aC r2 (pi 0))
 (.ret (.tup [(.ai .quo .u64 r1 r2),(.ai .rem .u64 r1 r2)])))
 (.call ⟨[],[]⟩ [] 35 192 [r2]
 (.chk (aN rA (pi 0))
 (.chk (aN lR (pi 0))
 (.chk Pt
 (.chk (aC nu (pi 0))
 (.brk ⟨[(16,Pq),(15,(.ai .quo .u64 tj nu)),(14,(.ai .and .u64 xU pg)),(13,(.ai .shr .u64 xU lR)),(11,tj),(10,(.ai .and .u64 xT pg)),(9,nu),(2,xT),(8,rA)],[]⟩
(Hp b)
 (.chk (aC r9 (pi 0))
 (.brk ⟨[(16,Ps),(18,(.ai .quo .u64 tl r9)),(17,tl)],[]⟩
(Hq b)
 (.chk (aN r8 (pi 0))
 (.ret (.tup [Pa,Pl]))))))))))))))
def asd:PT×List (Shp×PT):=(QT b,[(.lp 0 [15,16,67,68,69,78] [] [15,16] [],Ic b),(.lp 2 [16,18,102,103,104,113] [] [16,18] [],Ie b)])
def OA:y6.map told=some (asd (aU y6)):=by kernel_rfl
def aDH:tree (ab y6)=QT yW:=bk OA
def Yu:round 0 [15,16,67,68,69,78] [] [15,16] [] (yW 0)=Ic yW:=aQ OA 0 λ_=>rfl
def Yv:round 2 [16,18,102,103,104,113] [] [16,18] [] (yW 1)=Ie yW:=aQ OA 1 λ_=>rfl
def KO:Option PC:=cF [2] [] Tryz.f192 192 []
def aaw:PT:=
 (.call ⟨[],[]⟩ [] 4 175 [r0]
 (.ret (aO (pi 64) r4)))
def ajg:KO.map told=some (aaw,[]):=by kernel_rfl
def aDI:tree (ab KO)=aaw:=aD ajg
end Rm
