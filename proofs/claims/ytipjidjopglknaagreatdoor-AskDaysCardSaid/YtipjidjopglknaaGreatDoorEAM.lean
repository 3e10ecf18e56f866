/-
  The functions of this seat, compiled (2).
-/
import Derived.Test.YtipjidjopglknaaGreatDoorEAK
import Derived.KernelRfl
set_option linter.unusedVariables false
set_option maxRecDepth 100000
noncomputable section
namespace Rm
open Go Go.Proofs Cx
def yd:Option PC:=cF [4,5] [] Tryz.f173 173 []
def KA:Nat→PC:=bB yd
def akT (b:Nat→PC):PC:=.block 0 [4,8,9] [] (.loop [4,8] [] (b 0))
def Eh (b:Nat→PC):PT:=
 (.ite (ao r8 r7)
 (.blockS ⟨[],[]⟩ 1 [4,5,10,11,12,13,14,15,16] []
 (.chk (az r0 r8)
 (.callc ⟨[(5,r8)],[]⟩ [] 16 r1 [(pn r0 r8)]
 (.ite eD
 (.ret r5)
 (.next ⟨[],[]⟩))))
 (.next ⟨[(8,(aP r8 (pi 1)))],[]⟩))
 (.exit 0 ⟨[(9,(ao r8 r7))],[]⟩))
def RF (b:Nat→PC):PT:=
 (.brk ⟨[(8,(pi 0)),(7,(.llen r0)),(4,(pi 0))],[]⟩
(akT b)
 (.ret (pi (-1))))
def agh (b:Nat→PC):PT×List (Shp×PT):=(RF b,[(.lp 0 [4,8,9] [] [4,8] [],Eh b)])
theorem N2:yd.map told=some (agh (bA yd)):=by kernel_rfl
theorem apR:tree (ae yd)=RF KA:=cd N2
theorem PF:round 0 [4,8,9] [] [4,8] [] (KA 0)=Eh KA:=bx N2 0 fun _=>rfl
def xy:Option PC:=cF [8,9] [] Tryz.f112 112 [4,11]
def Ke:Nat→PC:=bB xy
def aj6 (b:Nat→PC):PC:=.block 0 [8,9,25,26] [] (.loop [8,9,25] [] (b 0))
def DG (b:Nat→PC):PT:=
 (.ite (ao jZ oZ)
 (.chk (az lN jZ)
 (.ite (.pick (peq (pc Dw 0) r2) (bk (pc Dw 1) (pi 0)) pF)
 (.chk (az r3 (pc Dw 1))
 (.ret (.tup [(pn r3 (pc Dw 1)),(pc Dw 2)])))
 (.next ⟨[(25,(aP jZ (pi 1)))],[]⟩)))
 (.exit 0 ⟨[(26,(ao jZ oZ))],[]⟩))
def Qz (b:Nat→PC):PT:=
 (.call ⟨[(9,pF),(8,(pi 0))],[(4,(.mk [r0]))]⟩ [] 16 111 [lL,r1,r2,r3]
 (.ite (.nt eD)
 (.ret (.tup [(pi (-1)),pF]))
 (.chk (az (pc o4 4) r1)
 (.brk ⟨[(25,(pi 0)),(24,(.llen (pc (pn (pc o4 4) r1) 2))),(23,(pc (pn (pc o4 4) r1) 2))],[]⟩
(aj6 b)
 (.ret (.tup [r1,pF]))))))
def afI (b:Nat→PC):PT×List (Shp×PT):=(Qz b,[(.lp 0 [8,9,25,26] [] [8,9,25] [],DG b)])
theorem NI:xy.map told=some (afI (bA xy)):=by kernel_rfl
theorem aoL:tree (ae xy)=Qz Ke:=cd NI
theorem O1:round 0 [8,9,25,26] [] [8,9,25] [] (Ke 0)=DG Ke:=bx NI 0 fun _=>rfl
def FG:Option PC:=cF [7,9,11,12] [] Tryz.f34 34 [3,6,8,10]
def QH:PT:=
 (.call ⟨[],[(6,fE)]⟩ [] 16 71 [(aB 4 (.mk [r0])),r1]
 (.ite (bk (.tget eD 1) (pi 0))
 (.ret (.tup [(.mk [(pc (.setc o6 0 wF) 0),(pc (.setc o6 0 wF) 1)]),(.tget eD 1)]))
 (.call ⟨[],[]⟩ [] 25 72 [(.mk [(pc (.setc jY 0 (.tget eD 0)) 0),(pc (.setc jY 0 (.tget eD 0)) 1),(pc (.setc jY 0 (.tget eD 0)) 2)]),r2]
 (.call ⟨[],[(10,(.setc fE 0 jZ))]⟩ [] 28 69 [r1]
 (.ret (.tup [(.mk [(pc (.setc o6 0 (.mk [(pc Il 0),(pc Il 1)])) 0),(pc (.setc o6 0 (.mk [(pc Il 0),(pc Il 1)])) 1)]),(pi 0)]))))))
theorem X6:FG.map told=some (QH,[]):=by kernel_rfl
theorem aoV:tree (ae FG)=QH:=bj X6
def FJ:Option PC:=cF [5,6,7,8,10,11] [] Tryz.f71 71 [2,3,4,12292,9]
def QK:PT:=
 (.call ⟨[],[(4,jY),(3,(.mk [r1])),(2,(.mk [r0]))]⟩ [] 14 69 [(pc (.mk [r1]) 0)]
 (.ite (.nt (.tget dj 1))
 (.ret (.tup [Oy,(pi 1)]))
 (.call ⟨[(6,(.tget dj 0))],[]⟩ [] 23 113 [(pc o2 3),(.clo 114 [(.ref (pc o3 0))])]
 (.ite (ao lN (pi 0))
 (.ret (.tup [Oy,(pi 4)]))
 (.chk (az (pc o2 3) lN)
 (.call ⟨[],[(9,Iq)]⟩ [] 35 115 [(.mk [(pc Iq 0),(pc Iq 1),(pc Iq 2)])]
 (.ite (.pick (bk (.tget wH 1) (pi 0)) pT (bk (.tget wH 0) r6))
 (.ret (.tup [Oy,(pi 11)]))
 (.ret (.tup [(.mk [(pc OC 0),(pc OC 1),(pc OC 2)]),(pi 0)])))))))))
theorem X9:FJ.map told=some (QK,[]):=by kernel_rfl
theorem aoZ:tree (ae FJ)=QK:=bj X9
def FK:Option PC:=cF [3] [] Tryz.f114 114 [2]
def QL:PT:=
 (.ret (peq jW (.deref r1)))
theorem Ya:FK.map told=some (QL,[]):=by kernel_rfl
theorem aoY:tree (ae FK)=QL:=bj Ya
def yc:Option PC:=cF [4,5] [] Tryz.f113 113 []
def Kz:Nat→PC:=bB yc
def akS (b:Nat→PC):PC:=.block 0 [4,8,9] [] (.loop [4,8] [] (b 0))
def Eg (b:Nat→PC):PT:=
 (.ite (ao r8 r7)
 (.blockS ⟨[],[]⟩ 1 [4,5,10,11,12,13,14,15,16] []
 (.chk (az r0 r8)
 (.callc ⟨[(5,r8)],[]⟩ [] 16 r1 [(pn r0 r8)]
 (.ite eD
 (.ret r5)
 (.next ⟨[],[]⟩))))
 (.next ⟨[(8,(aP r8 (pi 1)))],[]⟩))
 (.exit 0 ⟨[(9,(ao r8 r7))],[]⟩))
def RE (b:Nat→PC):PT:=
 (.brk ⟨[(8,(pi 0)),(7,(.llen r0)),(4,(pi 0))],[]⟩
(akS b)
 (.ret (pi (-1))))
def agf (b:Nat→PC):PT×List (Shp×PT):=(RE b,[(.lp 0 [4,8,9] [] [4,8] [],Eg b)])
theorem N1:yc.map told=some (agf (bA yc)):=by kernel_rfl
theorem apQ:tree (ae yc)=RE Kz:=cd N1
theorem PD:round 0 [4,8,9] [] [4,8] [] (Kz 0)=Eg Kz:=bx N1 0 fun _=>rfl
def Ga:Option PC:=cF [2,3] [] Tryz.f115 115 [1]
def RO:PT:=
 (.call ⟨[],[(1,(.mk [r0]))]⟩ [] 5 152 [(.mk [jW,oV,tT]),(pi 1)]
 (.ite (bp r5 (pi 60))
 (.ret (.tup [(pi 0),(pi 6)]))
 (.call ⟨[],[]⟩ [] 8 153 [(.mk [(pc o1 0),(pc o1 1),(pc o1 2)])]
 (.ret (.tup [(.tget r8 0),(.tget r8 1)])))))
theorem YB:Ga.map told=some (RO,[]):=by kernel_rfl
theorem ap0:tree (ae Ga)=RO:=bj YB
def uX:Option PC:=cF [4,5] [] Tryz.f152 152 [2,7,12295]
def KG:Nat→PC:=bB uX
def ak2 (b:Nat→PC):PC:=.block 0 [5,13,14] [] (.loop [5,13] [] (b 0))
def Em (b:Nat→PC):PT:=
 (.ite (ao eC cj)
 (.blockS ⟨[(14,(ao eC cj))],[]⟩ 1 [5,7,15,16,17,18,19,20,21,22,23,24] [7,12295]
 (.chk (az bQ eC)
 (.call ⟨[(17,r5)],[]⟩ [] 21 152 [(.mk [(pc (.setc jY 0 (pn bQ eC)) 0),(pc (.setc jY 0 (pn bQ eC)) 1),(pc (.setc jY 0 (pn bQ eC)) 2)]),(aP r1 (pi 1))]
 (.ite (bp (aP qv lM) (pi 60))
 (.exit 0 ⟨[(5,(aP qv lM))],[]⟩)
 (.next ⟨[(5,(aP qv lM))],[]⟩))))
 (.next ⟨[(13,(aP eC (pi 1)))],[]⟩))
 (.exit 0 ⟨[(14,(ao eC cj))],[]⟩))
def Jw (b:Nat→PC):PT:=
 (.ite (bp r1 (pi 8))
 (.ret (pi 61))
 (.brk ⟨[(13,(pi 0)),(12,oX),(11,tT),(5,(pi 1))],[]⟩
(ak2 b)
 (.ret r5)))
def agp (b:Nat→PC):PT×List (Shp×PT):=(Jw b,[(.lp 0 [5,13,14] [] [5,13] [],Em b)])
theorem N8:uX.map told=some (agp (bA uX)):=by kernel_rfl
theorem aa9:tree (ae uX)=Jw KG:=cd N8
theorem PM:round 0 [5,13,14] [] [5,13] [] (KG 0)=Em KG:=bx N8 0 fun _=>rfl
def yj:Option PC:=cF [2,3,5,7,8,38,47,10,11,12] [] Tryz.f153 153 [1,4,6,12294,9]
def A5:Nat→PC:=bB yj
def akZ (b:Nat→PC):PC:=.block 0 [2,3,20,21] [4] (.loop [2,3,20] [4] (b 0))
def ak0 (b:Nat→PC):PC:=.block 3 [2,3,10,82,83] [] (.loop [2,3,10,82] [] (b 1))
def Ek (b:Nat→PC):PT:=
 (.ite (ao eN iP)
 (.blockS ⟨[],[]⟩ 1 [2,3,5,6,7,8,22,23,24,25,26,27,28,29,30,31,33,34,35,36] [6,12294,4]
 (.chk (az kz eN)
 (.call ⟨[(5,eN)],[]⟩ [] 27 153 [(.mk [(pc (.setc jY 0 (pn kz eN)) 0),(pc (.setc jY 0 (pn kz eN)) 1),(pc (.setc jY 0 (pn kz eN)) 2)])]
 (.ite (bk (.tget fS 1) (pi 0))
 (.ret (.tup [(pi 0),(.tget fS 1)]))
 (.chk (az o4 r5)
 (.next ⟨[],[(4,(.setn o4 r5 0 (.tget fS 0)))]⟩)))))
 (.next ⟨[(20,(aP eN (pi 1)))],[]⟩))
 (.exit 0 ⟨[(21,(ao eN iP))],[]⟩))
def ua (b:Nat→PC):PT:=
 (.ite (ao kA sl)
 (.chk (az z7 kA)
 (.ite (.pick (peq (pn z7 kA) (pi (-1))) (peq dL (pi (-1))) pF)
 (.chk (az o4 kA)
 (.ite (bk (pn o4 kA) (.pick (peq (pn z7 kA) (pi (-1))) (pn o4 kA) (pn z7 kA)))
 (.ret (.tup [(pi 0),(pi 11)]))
 (.next ⟨[(10,(pn o4 kA)),(82,(aP kA (pi 1)))],[]⟩)))
 (.chk (az o4 kA)
 (.ite (bk (pn o4 kA) (.pick (peq (pn z7 kA) (pi (-1))) dL (pn z7 kA)))
 (.ret (.tup [(pi 0),(pi 11)]))
 (.next ⟨[(82,(aP kA (pi 1)))],[]⟩)))))
 (.exit 3 ⟨[(83,(ao kA sl))],[]⟩))
def RS (b:Nat→PC):PT:=
 (.chk (.an (dx oX (pi 0)) (bY oX cX))
 (.chk (peq oX oX)
 (.brk ⟨[(20,(pi 0)),(19,oX),(18,tT),(4,pN),(3,(pi 0)),(2,(pi 0))],[(4,(.rep oX (pi 0))),(1,(.mk [r0]))]⟩
(akZ b)
 (.blockS ⟨[],[]⟩ 2 [2,3,38,39,40,41,42,46,47,48,49,50,51,55,56,60] []
 (.iteS ⟨[],[]⟩ (.pick (ao (pc o1 0) (pi 0)) pT (bp (pc o1 0) (pi 13))) [2,3,47,48,49,50,51,55,56,60] []
 (.ret (.tup [(pi 0),(pi 1)]))
 (.iteS ⟨[],[]⟩ (.pick (.pick (peq (pc o1 0) (pi 0)) pT (peq (pc o1 0) (pi 1))) pT (peq (pc o1 0) (pi 2))) [2,3] []
 (.call ⟨[],[]⟩ [] 62 174 [(.mk [(pc o1 0),(pc o1 1),(pc o1 2)])]
 (.ret (.tup [(.tget wK 0),(.tget wK 1)])))
 (.next ⟨[],[]⟩)
 (.next ⟨[],[]⟩))
 (.next ⟨[],[]⟩))
 (.call ⟨[],[]⟩ [] 67 175 [(pc o1 0)]
 (.ite (.pick (bk (.llen o4) (.llen (pc (.setc kT 0 sf) 0))) pT (bk (pc o1 1) (pi 0)))
 (.ret (.tup [(pi 0),(pi 2)]))
 (.brk ⟨[(82,(pi 0)),(81,(.llen (pc (.setc kT 0 sf) 0))),(80,(pc (.setc kT 0 sf) 0)),(10,(pi (-1)))],[(9,(.setc kT 0 sf))]⟩
(ak0 b)
 (.ite (peq (pc o9 1) (pi (-1)))
 (.ret (.tup [dL,(pi 0)]))
 (.ret (.tup [(pc o9 1),(pi 0)]))))))))))
def agn (b:Nat→PC):PT×List (Shp×PT):=(RS b,[(.lp 0 [2,3,20,21] [4] [2,3,20] [4],Ek b),(.lp 3 [2,3,10,82,83] [] [2,3,10,82] [],ua b)])
theorem H7:yj.map told=some (agn (bA yj)):=by kernel_rfl
theorem ap4:tree (ae yj)=RS A5:=cd H7
theorem PK:round 0 [2,3,20,21] [4] [2,3,20] [4] (A5 0)=Ek A5:=bx H7 0 fun _=>rfl
theorem Af:round 3 [2,3,10,82,83] [] [2,3,10,82] [] (A5 1)=ua A5:=bx H7 1 fun _=>rfl
def Gc:Option PC:=cF [2,3,12,20,4,5] [] Tryz.f174 174 [1]
def RV:PT:=
 (.ite (bp oX (pi 0))
 (.ret (.tup [(pi 0),(pi 2)]))
 (.blockS ⟨[(11,jW)],[(1,(.mk [r0]))]⟩ 0 [2,3,12,13,20,21] []
 (.iteS ⟨[],[]⟩ (peq bQ (pi 0)) [2,3,20,21] []
 (.call ⟨[],[]⟩ [] 16 178 [(pc o1 1)]
 (.ite (bk eD (pc o1 1))
 (.ret (.tup [(pi 0),(pi 3)]))
 (.ret (.tup [(pi 0),(pi 0)]))))
 (.ite (peq bQ (pi 1))
 (.ite (.pick (ao (pc o1 1) (pi 0)) pT (bp (pc o1 1) (pi 1)))
 (.ret (.tup [(pi 0),(pi 3)]))
 (.ret (.tup [(pi 1),(pi 0)])))
 (.next ⟨[],[]⟩))
 (.next ⟨[],[]⟩))
 (.call ⟨[],[]⟩ [] 33 176 [(pc o1 1)]
 (.ite (.nt (.tget tY 1))
 (.ret (.tup [(pi 0),(pi 10)]))
 (.ret (.tup [(.tget tY 0),(pi 0)]))))))
theorem YI:Gc.map told=some (RV,[]):=by kernel_rfl
theorem ap7:tree (ae Gc)=RV:=bj YI
def Bo:Option PC:=eW {dA with fr:=[2],nh:=[]} Tryz.f178 ((aY iS 178).getD default) []
def RU:PT:=
 (.ret (.mn (.mx r0 (pi (-1099511627776))) (pi 1099511627776)))
theorem YH:Bo.map told=some (RU,[]):=by kernel_rfl
theorem ap6:tree (ae Bo)=RU:=bj YH
def Bl:Option PC:=eW {dA with fr:=[2,3,4,11],nh:=[]} Tryz.f176 ((aY iS 176).getD default) []
def RQ:PT:=
 (.ite (.pick (ao r0 (pi 0)) pT (bp r0 (pi 19)))
 (.ret (.tup [(pi 0),pF]))
 (.ite (ao r0 (pi 7))
 (.ret (.tup [(pi 0),pT]))
 (.ret (.tup [(pi 1),pT]))))
theorem YD:Bl.map told=some (RQ,[]):=by kernel_rfl
theorem ap2:tree (ae Bl)=RQ:=bj YD
def Gd:Option PC:=cF [4,8,13,17,21] [] Tryz.f175 175 [2]
def RY:PT:=
 (.ite (peq r0 (pi 3))
 (.ret (.mk [(pc (.setc kT 0 (.mk [(.lst [(pi 1)]),(pi 1)])) 0),(pc (.setc kT 0 (.mk [(.lst [(pi 1)]),(pi 1)])) 1)]))
 (.ite (.pick (peq r0 (pi 4)) (peq r0 (pi 4)) (peq r0 (pi 5)))
 (.ret (.mk [(pc (.setc kT 0 (.mk [(.lst [(pi 1),(pi 1)]),(pi 1)])) 0),(pc (.setc kT 0 (.mk [(.lst [(pi 1),(pi 1)]),(pi 1)])) 1)]))
 (.ite (peq r0 (pi 6))
 (.ret (.mk [(pc ZG 0),(pc ZG 1)]))
 (.ite (peq r0 (pi 7))
 (.ret (.mk [(pc (.setc kT 0 (.mk [(.lst [(pi 0),(pi 0)]),(pi 1)])) 0),(pc (.setc kT 0 (.mk [(.lst [(pi 0),(pi 0)]),(pi 1)])) 1)]))
 (.ite (peq r0 (pi 8))
 (.ret (.mk [(pc (.setc kT 0 (.mk [(.lst [(pi (-1)),(pi (-1))]),(pi 1)])) 0),(pc (.setc kT 0 (.mk [(.lst [(pi (-1)),(pi (-1))]),(pi 1)])) 1)]))
 (.ret (.mk [(pc (.setc kT 0 (.mk [(.lst [(pi 0),(pi 0)]),(pi 0)])) 0),(pc (.setc kT 0 (.mk [(.lst [(pi 0),(pi 0)]),(pi 0)])) 1)])))))))
theorem YL:Gd.map told=some (RY,[]):=by kernel_rfl
theorem aqb:tree (ae Gd)=RY:=bj YL
def Gb:Option PC:=cF [5,6,8] [] Tryz.f72 72 [2,4,7]
def RP:PT:=
 (.call ⟨[],[(4,fE),(2,(.mk [r0]))]⟩ [] 11 115 [(.mk [jW,oV,tT])]
 (.ite (bk (.tget bQ 1) (pi 0))
 (.ret Dt)
 (.call ⟨[],[]⟩ [] 21 116 [(.mk [r1]),(.mk [(pc o2 0),(pc o2 1),(pc o2 2)])]
 (.ret (.mk [(pc ZB 0),(pc ZB 1)])))))
theorem YC:Gb.map told=some (RP,[]):=by kernel_rfl
theorem ap1:tree (ae Gb)=RP:=bj YC
def uW:Option PC:=eW {dA with fr:=[5,15,21,9,11],nh:=[]} Tryz.f116 ((aY iS 116).getD default) [2,3,4,6,33,7,8,10,12298,12]
def KF:Nat→PC:=bB uW
def ak1 (b:Nat→PC):PC:=.block 1 [45,46] [7,8] (.loop [45] [7,8] (b 0))
def El (b:Nat→PC):PT:=
 (.ite (ao ph wI)
 (.blockS ⟨[],[]⟩ 2 [9,10,47,48,49,50,51,52,53,54,55,56,57,58,59,60,61] [10,12298,8,7]
 (.chk (az sc ph)
 (.call ⟨[(54,ph),(52,ph)],[]⟩ [] 57 116 [(.mk [(pc o2 0)]),(.mk [(pc (.setc jY 0 (pn sc ph)) 0),(pc (.setc jY 0 (pn sc ph)) 1),(pc (.setc jY 0 (pn sc ph)) 2)])]
 (.chk (az o7 IA)
 (.chk (az o8 se)
 (.next ⟨[],[(8,(.setn o8 se 0 (.tget OO 1))),(7,(.setn o7 IA 0 (.tget OO 0)))]⟩)))))
 (.next ⟨[(45,(aP ph (pi 1)))],[]⟩))
 (.exit 1 ⟨[(46,(ao ph wI))],[]⟩))
def EH (b:Nat→PC):PT:=
 (.blockS ⟨[(14,(pc (.mk [r1]) 0))],[(4,fE),(3,(.mk [r1])),(2,(.mk [r0]))]⟩ 0 [5,15,16,21,22] [4]
 (.iteS ⟨[],[]⟩ (.pick (peq dj (pi 0)) (peq dj (pi 0)) (peq dj (pi 1))) [5,21,22] [4]
 (.ret (.tup [(.mk [(pc (.setc o4 0 (.mk [pT,(pc o3 1)])) 0),(pc (.setc o4 0 (.mk [pT,(pc o3 1)])) 1)]),pL]))
 (.iteS ⟨[],[]⟩ (peq dj (pi 2)) [5] [4]
 (.call ⟨[],[]⟩ [] 26 154 [(.mk [(pc o2 0)]),(pc o3 1)]
 (.ite (pc (.setc fE 0 mE) 0)
 (.ret (.tup [(.mk [(pc ZF 0),(pc ZF 1)]),pL]))
 (.ret (.tup [Dt,(.lst [(pc o3 1)])]))))
 (.next ⟨[],[]⟩)
 (.next ⟨[],[]⟩))
 (.next ⟨[],[]⟩))
 (.chk (.an (dx nA (pi 0)) (bY nA cX))
 (.chk (peq nA nA)
 (.brk ⟨[(45,(pi 0)),(44,nA),(43,(pc o3 2)),(8,pN),(7,pN)],[(8,(.rep nA pL)),(7,(.rep nA fE))]⟩
(ak1 b)
 (.chk (.nt (.an (.an (peq (pc o3 0) (pi 6)) pT) (.nt (az o7 (pi 0)))))
 (.ite (.pick (peq (pc o3 0) (pi 6)) (pc (pn o7 (pi 0)) 0) pF)
 (.chk (az o7 (pi 0))
 (.chk (az o7 Du)
 (.chk (az o8 Du)
 (.ret (.tup [(.mk [(pc (.setc o4 0 (.sub (pn o7 Du) 0 2)) 0),(pc (.setc o4 0 (.sub (pn o7 Du) 0 2)) 1)]),(pn o8 Du)])))))
 (.call ⟨[],[]⟩ [] 88 155 [(pc o3 0),o7]
 (.ite (pc (.setc fE 0 ID) 0)
 (.ret (.tup [(.mk [(pc ZE 0),(pc ZE 1)]),pL]))
 (.call ⟨[(92,wF)],[]⟩ [] 94 156 [o8]
 (.ret (.tup [(.mk [(pc (.setc o4 0 DE) 0),(pc (.setc o4 0 DE) 1)]),r94])))))))))))
def ago (b:Nat→PC):PT×List (Shp×PT):=(EH b,[(.lp 1 [45,46] [7,8] [45] [7,8],El b)])
theorem N7:uW.map told=some (ago (bA uW)):=by kernel_rfl
theorem ap8:tree (ae uW)=EH KF:=cd N7
theorem PL:round 1 [45,46] [7,8] [45] [7,8] (KF 0)=El KF:=bx N7 0 fun _=>rfl
def Bp:Option PC:=eW {dA with fr:=[5,6],nh:=[]} Tryz.f154 ((aY iS 154).getD default) [2,4]
def RW:PT:=
 (.chk (.nt (.an (.an (.nt (dx r1 (.llen jW))) pT) (.nt (az jW r1))))
 (.ite (.pick (dx r1 (.llen jW)) pT (.nt (pc (pn jW r1) 0)))
 (.ret (.mk [(pc (.setc fE 0 wF) 0),(pc (.setc fE 0 wF) 1)]))
 (.call ⟨[],[(4,fE),(2,(.mk [r0]))]⟩ [] 24 176 [r1]
 (.iteS ⟨[],[]⟩ (peq (.tget oZ 0) (pi 1)) [] [4]
 (.chk (az (pc o2 0) r1)
 (.call ⟨[],[]⟩ [] 36 177 [(bk (pc (pn (pc o2 0) r1) 1) (pi 0))]
 (.ret (.mk [(pc (.setc o4 0 kW) 0),(pc (.setc o4 0 kW) 1)]))))
 (.next ⟨[],[]⟩)
 (.chk (az (pc o2 0) r1)
 (.call ⟨[],[]⟩ [] 43 178 [(pc (pn (pc o2 0) r1) 1)]
 (.ret (.mk [(pc (.setc o4 0 (.mk [pT,sc])) 0),(pc (.setc o4 0 (.mk [pT,sc])) 1)]))))))))
theorem YJ:Bp.map told=some (RW,[]):=by kernel_rfl
theorem ap9:tree (ae Bp)=RW:=bj YJ
def Br:Option PC:=eW {dA with fr:=[],nh:=[]} Tryz.f177 ((aY iS 177).getD default) [2]
def RZ:PT:=
 (.ite r0
 (.ret (.mk [(pc wB 0),(pc wB 1)]))
 (.ret (.mk [(pc It 0),(pc It 1)])))
theorem YM:Br.map told=some (RZ,[]):=by kernel_rfl
theorem aqc:tree (ae Br)=RZ:=bj YM
def Bn:Option PC:=eW {dA with fr:=[9,22,41,6,7,82,88,94],nh:=[]} Tryz.f155 ((aY iS 155).getD default) [4,5]
def RT:PT:=
 (.blockS ⟨[(8,r0)],[(4,fE)]⟩ 0 [9,10,22,23] [4]
 (.iteS ⟨[],[]⟩ (peq r8 (pi 3)) [22,23] [4]
 (.chk (az r1 (pi 0))
 (.iteS ⟨[],[]⟩ (pc (pn r1 (pi 0)) 0) [] [4]
 (.chk (az r1 (pi 0))
 (.call ⟨[],[]⟩ [] 20 177 [(peq (pc (pn r1 (pi 0)) 1) (pi 0))]
 (.ret (.mk [(pc (.setc o4 0 eN) 0),(pc (.setc o4 0 eN) 1)]))))
 (.next ⟨[],[]⟩)
 (.ret Dt)))
 (.iteS ⟨[],[]⟩ (.pick (peq r8 (pi 4)) (peq r8 (pi 4)) (peq r8 (pi 5))) [] [4]
 (.call ⟨[],[]⟩ [] 27 177 [(peq r0 (pi 5))]
 (.chk (az r1 (pi 0))
 (.chk (.nt (.an (.an (.nt Zx) pT) (.nt (az r1 (pi 1)))))
 (.ite (.pick Zx pT (.an (.cb .eql (pc oW 0) (pc zS 0)) (.an (peq (pc oW 1) (pc zS 1)) pT)))
 (.ret (.mk [(pc (.setc o4 0 zS) 0),(pc (.setc o4 0 zS) 1)]))
 (.next ⟨[],[]⟩)))))
 (.ite (peq r8 (pi 6))
 (.chk (az r1 (pi 1))
 (.chk (.nt (.an (.an (pc oW 0) pT) (.nt (az r1 (pi 1)))))
 (.chk (.nt (.an (.an (pc oW 0) pT) (.nt (az r1 (pi 2)))))
 (.ite (.pick (pc oW 0) (.an (.cb .eql (pc oW 0) (pc (pn r1 (pi 2)) 0)) (.an (peq (pc oW 1) (pc (pn r1 (pi 2)) 1)) pT)) pF)
 (.ret (.mk [(pc (.setc o4 0 oW) 0),(pc (.setc o4 0 oW) 1)]))
 (.ret Dt)))))
 (.next ⟨[],[]⟩))
 (.next ⟨[],[]⟩))
 (.next ⟨[],[]⟩))
 (.chk (az r1 (pi 0))
 (.chk (.nt (.an (.an (.nt (.nt (pc (pn r1 (pi 0)) 0))) pT) (.nt (az r1 (pi 1)))))
 (.ite (.pick (.nt (pc (pn r1 (pi 0)) 0)) pT (.nt (pc oW 0)))
 (.ret Dt)
 (.chk (az r1 (pi 1))
 (.blockS ⟨[(81,r0),(7,(pc oW 1)),(6,(pc (pn r1 (pi 0)) 1))],[]⟩ 1 [82,83,88,89,94,95] [4]
 (.iteS ⟨[],[]⟩ (.pick (peq sl (pi 4)) (peq sl (pi 4)) (peq sl (pi 5))) [88,89,94,95] [4]
 (.call ⟨[],[]⟩ [] 87 177 [(peq r0 (pi 4))]
 (.ret (.mk [(pc (.setc o4 0 ZW) 0),(pc (.setc o4 0 ZW) 1)])))
 (.iteS ⟨[],[]⟩ (peq sl (pi 7)) [94,95] [4]
 (.call ⟨[],[]⟩ [] 93 177 [(ao r6 r7)]
 (.ret (.mk [(pc (.setc o4 0 DF) 0),(pc (.setc o4 0 DF) 1)])))
 (.iteS ⟨[],[]⟩ (peq sl (pi 8)) [] [4]
 (.call ⟨[],[]⟩ [] 99 177 [(peq r6 r7)]
 (.ret (.mk [(pc (.setc o4 0 IE) 0),(pc (.setc o4 0 IE) 1)])))
 (.next ⟨[],[]⟩)
 (.next ⟨[],[]⟩))
 (.next ⟨[],[]⟩))
 (.next ⟨[],[]⟩))
 (.call ⟨[],[]⟩ [] 103 179 [r0,r6,r7]
 (.ret (.mk [(pc (.setc o4 0 (.mk [pT,Iv])) 0),(pc (.setc o4 0 (.mk [pT,Iv])) 1)])))))))))
theorem YG:Bn.map told=some (RT,[]):=by kernel_rfl
theorem ap5:tree (ae Bn)=RT:=bj YG
def Bm:Option PC:=eW {dA with fr:=[6,8,14,20,25],nh:=[]} Tryz.f179 ((aY iS 179).getD default) []
def RR:PT:=
 (.blockS ⟨[(7,r0)],[]⟩ 0 [6,8,9,14,15,20,21,25,26] []
 (.iteS ⟨[],[]⟩ (peq r7 (pi 9)) [6,14,15,20,21,25,26] []
 (.call ⟨[],[]⟩ [] 13 178 [(aP r1 r2)]
 (.ret eC))
 (.iteS ⟨[],[]⟩ (peq r7 (pi 10)) [6,20,21,25,26] []
 (.call ⟨[],[]⟩ [] 19 178 [(bZ r1 r2)]
 (.ret iP))
 (.iteS ⟨[],[]⟩ (peq r7 (pi 11)) [6,25,26] []
 (.call ⟨[],[]⟩ [] 24 209 [r1,r2]
 (.ret oZ))
 (.ite (peq r7 (pi 12))
 (.ret (.mn r1 r2))
 (.next ⟨[],[]⟩))
 (.next ⟨[],[]⟩))
 (.next ⟨[],[]⟩))
 (.next ⟨[],[]⟩))
 (.ret (.mx r1 r2)))
theorem YE:Bm.map told=some (RR,[]):=by kernel_rfl
theorem ap3:tree (ae Bm)=RR:=bj YE
def Bq:Option PC:=eW {dA with fr:=[4,5,6,7],nh:=[]} Tryz.f209 ((aY iS 209).getD default) []
def RX:PT:=
 (.call ⟨[],[]⟩ [] 19 217 [(.conv .u64 (.mx r0 (bZ (pi 0) r0))),(.conv .u64 (.mx r1 (bZ (pi 0) r1)))]
 (.ite (.cb .neq (ao r0 (pi 0)) (ao r1 (pi 0)))
 (.ret (bZ (pi 0) Zo))
 (.ret Zo)))
theorem YK:Bq.map told=some (RX,[]):=by kernel_rfl
theorem aqa:tree (ae Bq)=RX:=bj YK
def Be:Option PC:=eW {dA with fr:=[4,5,6,7,8,9,10,11,12,13],nh:=[]} Tryz.f217 ((aY iS 217).getD default) []
def Qr:PT:=
 (.chk (dx zV (pi 0))
 (.ret (.tup [(.ai .add .u64 (.ai .add .u64 (.ai .mul .u64 (.ai .shr .u64 r0 zV) (.ai .shr .u64 r1 zV)) (.ai .shr .u64 Zn zV)) (.ai .shr .u64 (.ai .add .u64 (.ai .and .u64 Zn (.con (.v (.int .u64 4294967295)))) (.ai .mul .u64 (.ai .and .u64 r0 (.con (.v (.int .u64 4294967295)))) (.ai .shr .u64 r1 zV))) zV)),(.ai .mul .u64 r0 r1)])))
theorem XP:Be.map told=some (Qr,[]):=by kernel_rfl
theorem aoC:tree (ae Be)=Qr:=bj XP
def uV:Option PC:=eW {dA with fr:=[2,3,5,8],nh:=[]} Tryz.f156 ((aY iS 156).getD default) [6]
def A3:Nat→PC:=bB uV
def akP (b:Nat→PC):PC:=.block 0 [3,11,12] [] (.loop [3,11] [] (b 0))
def akQ (b:Nat→PC):PC:=.block 2 [6,27,28] [6] (.loop [6,27] [6] (b 1))
def IT (b:Nat→PC):PT:=
 (.ite (ao bQ dL)
 (.chk (az r9 bQ)
 (.ite (ao (aP r3 (.llen (pn r9 bQ))) (pi 0))
 (.chk (.nt pT)
 (.chk (.nt pT)
 (.next ⟨[(3,(aP r3 (.llen (pn r9 bQ)))),(11,(aP bQ (pi 1)))],[]⟩)))
 (.next ⟨[(3,(aP r3 (.llen (pn r9 bQ)))),(11,(aP bQ (pi 1)))],[]⟩)))
 (.exit 0 ⟨[(12,(ao bQ dL))],[]⟩))
def IU (b:Nat→PC):PT:=
 (.ite (ao fS mE)
 (.chk (az jZ fS)
 (.chk (bY (.llen (.app o6 (pn jZ fS))) cX)
 (.next ⟨[(6,pN),(27,(aP fS (pi 1)))],[(6,(.app o6 (pn jZ fS)))]⟩)))
 (.exit 2 ⟨[(28,(ao fS mE))],[]⟩))
def Rx (b:Nat→PC):PT:=
 (.brk ⟨[(11,(pi 0)),(10,(.llen r0)),(9,r0),(3,(pi 0))],[]⟩
(akP b)
 (.call ⟨[],[]⟩ [] 24 180 [pL,r3]
 (.brk ⟨[(27,(pi 0)),(26,(.llen r0)),(25,r0),(6,pN)],[(6,oZ)]⟩
(akQ b)
 (.ret o6))))
def agd (b:Nat→PC):PT×List (Shp×PT):=(Rx b,[(.lp 0 [3,11,12] [] [3,11] [],IT b),(.lp 2 [6,27,28] [6] [6,27] [6],IU b)])
theorem H5:uV.map told=some (agd (bA uV)):=by kernel_rfl
theorem apK:tree (ae uV)=Rx A3:=cd H5
theorem aab:round 0 [3,11,12] [] [3,11] [] (A3 0)=IT A3:=bx H5 0 fun _=>rfl
theorem aac:round 2 [6,27,28] [6] [6,27] [6] (A3 1)=IU A3:=bx H5 1 fun _=>rfl
def xN:Option PC:=cF [4,5] [] Tryz.f12 12 [2,3]
def Kp:Nat→PC:=bB xN
def aks (b:Nat→PC):PC:=.block 0 [4,5,34,35,36,37,38] [] (.loop [4,5] [] (b 0))
def IL (b:Nat→PC):PT:=
 (.ite (ao r5 (.llen (pc o2 3)))
 (.chk (az (pc o2 3) r5)
 (.chk (az (pc o3 3) r5)
 (.ite (bk (pn (pc o2 3) r5) (pn (pc o3 3) r5))
 (.ret pF)
 (.next ⟨[(5,tV)],[]⟩))))
 (.exit 0 ⟨[(34,r5),(35,pN),(36,(pc o2 3)),(37,(.llen (pc o2 3))),(38,(ao r5 (.llen (pc o2 3))))],[]⟩))
def Q8 (b:Nat→PC):PT:=
 (.ite (.pick (.pick (.pick (.nt (.an (.cb .eql (pc (.mk [jW,oV]) 0) (pc (.mk [(pc (.mk [r1]) 0),(pc (.mk [r1]) 1)]) 0)) (.an (peq (pc (.mk [jW,oV]) 1) (pc (.mk [(pc (.mk [r1]) 0),(pc (.mk [r1]) 1)]) 1)) pT))) pT (bk tT (pc (.mk [r1]) 2))) pT (bk wE (pc (.mk [r1]) 4))) pT (bk (.llen (pc (.mk [r0]) 3)) (.llen (pc (.mk [r1]) 3))))
 (.ret pF)
 (.brk ⟨[(5,(pi 0)),(4,pF)],[(3,(.mk [r1])),(2,(.mk [r0]))]⟩
(aks b)
 (.ret pT)))
def afY (b:Nat→PC):PT×List (Shp×PT):=(Q8 b,[(.lp 0 [4,5,34,35,36,37,38] [] [4,5] [],IL b)])
theorem NS:xN.map told=some (afY (bA xN)):=by kernel_rfl
theorem apk:tree (ae xN)=Q8 Kp:=cd NS
theorem Z6:round 0 [4,5,34,35,36,37,38] [] [4,5] [] (Kp 0)=IL Kp:=bx NS 0 fun _=>rfl
def Fm:Option PC:=cF [2,3,7,12] [] Tryz.f13 13 [1]
def Qn:PT:=
 (.ite (bk wE (pi 0))
 (.ret (pi 0))
 (.ite (.nt jW)
 (.ret (pi 2))
 (.ite (bk oV (pi 0))
 (.ret (pi 1))
 (.ret (pi 0)))))
theorem XK:Fm.map told=some (Qn,[]):=by kernel_rfl
theorem aox:tree (ae Fm)=Qn:=bj XK
def Fk:Option PC:=cF [2] [] Tryz.f15 15 [1]
def Ql:PT:=
 (.ite (.pick (bk wE (pi 0)) pT (.nt jW))
 (.ret (pi (-1)))
 (.ret oV))
theorem XI:Fk.map told=some (Ql,[]):=by kernel_rfl
theorem aov:tree (ae Fk)=Ql:=bj XI
def Bd:Option PC:=cF [8,10] [] Tryz.f20 20 [4,7,9]
def Jn:PT:=
 (.call ⟨[],[(4,(.mk [r0]))]⟩ [] 16 33 [lL,r1,r2,(aB 24 (.mk [r3]))]
 (.ite (peq (pc Dv 2) (pi (-1)))
 (.ret pL)
 (.chk (az (pc o4 4) (pc Dv 2))
 (.call ⟨[],[]⟩ [] 30 42 [(pn (pc o4 4) (pc Dv 2)),r2,(.tget eD 1)]
 (.ret zY)))))
theorem XH:Bd.map told=some (Jn,[]):=by kernel_rfl
theorem aa4:tree (ae Bd)=Jn:=bj XH
def FH:Option PC:=cF [6,8] [] Tryz.f42 42 [3,7]
def QI:PT:=
 (.call ⟨[],[]⟩ [] 12 71 [(aB 4 (.mk [r0])),r1]
 (.ite (bk (.tget cj 1) (pi 0))
 (.ret pL)
 (.call ⟨[],[]⟩ [] 19 82 [(.mk [(pc (.setc jY 0 (.tget cj 0)) 0),(pc (.setc jY 0 (.tget cj 0)) 1),(pc (.setc jY 0 (.tget cj 0)) 2)]),r2]
 (.ret iP))))
theorem X7:FH.map told=some (QI,[]):=by kernel_rfl
theorem aoW:tree (ae FH)=QI:=bj X7
def xK:Option PC:=cF [4,5] [] Tryz.f17 17 []
def Kk:Nat→PC:=bB xK
def ako (b:Nat→PC):PC:=.block 0 [4,5,11,12,13,14] [] (.loop [4,5] [] (b 0))
def IK (b:Nat→PC):PT:=
 (.ite (ao r5 (.llen r0))
 (.chk (az r0 r5)
 (.chk (az r1 r5)
 (.ite (bk (pn r0 r5) (pn r1 r5))
 (.ret pF)
 (.next ⟨[(5,tV)],[]⟩))))
 (.exit 0 ⟨[(11,r5),(12,r0),(13,(.llen r0)),(14,(ao r5 (.llen r0)))],[]⟩))
def Q5 (b:Nat→PC):PT:=
 (.ite (bk (.llen r0) (.llen r1))
 (.ret pF)
 (.brk ⟨[(5,(pi 0)),(4,pF)],[]⟩
(ako b)
 (.ret pT)))
def afU (b:Nat→PC):PT×List (Shp×PT):=(Q5 b,[(.lp 0 [4,5,11,12,13,14] [] [4,5] [],IK b)])
theorem NO:xK.map told=some (afU (bA xK)):=by kernel_rfl
theorem aph:tree (ae xK)=Q5 Kk:=cd NO
theorem Z5:round 0 [4,5,11,12,13,14] [] [4,5] [] (Kk 0)=IK Kk:=bx NO 0 fun _=>rfl
def Fl:Option PC:=cF [6,7] [] Tryz.f18 18 [3,5]
def Qm:PT:=
 (.call ⟨[],[(5,(.mk [r2])),(3,(.mk [r0]))]⟩ [] 11 39 [lL,(aB 24 (.mk [r2]))]
 (.ite (peq (.llen (.tget bQ 1)) (pi 0))
 (.ret pL)
 (.call ⟨[],[]⟩ [] 20 40 [(aB 8 o3),r1,(aB 24 (.setc o5 0 (.tget bQ 0)))]
 (.ret eN))))
theorem XJ:Fl.map told=some (Qm,[]):=by kernel_rfl
theorem aow:tree (ae Fl)=Qm:=bj XJ
def Fj:Option PC:=cF [8,9,10,11] [] Tryz.f22 22 [4,6]
def Qk:PT:=
 (.call ⟨[],[(6,(.mk [r2])),(4,(.mk [r0]))]⟩ [] 14 24 [(aB 19 (.mk [r2])),r3]
 (.ite (peq (.llen (pc (.setc o6 0 dj) 15)) (pi 0))
 (.ret (pi (-1)))
 (.call ⟨[],[(6,(.setc o6 0 dj))]⟩ [] 23 10 [(aB 8 o4),r1,(pi 6),(aB 19 (.setc o6 0 dj)),r3]
 (.call ⟨[],[]⟩ [] 24 15 [lN]
 (.call ⟨[(29,(aB 15 o6)),(27,(aB 8 o4)),(9,(.mx oZ (pi 0)))],[]⟩ [] 31 45 [(aB 19 o6)]
 (.call ⟨[],[]⟩ [] 33 44 [fS,qw,tX,r9]
 (.ite (bk (.tget tY 1) (pi 0))
 (.ret (pi (-1)))
 (.ret (.tget tY 0)))))))))
theorem XG:Fj.map told=some (Qk,[]):=by kernel_rfl
theorem aou:tree (ae Fj)=Qk:=bj XG
def Fi:Option PC:=cF [] [] Tryz.f10 10 [5,8,77832,10]
def Qj:PT:=
 (.call ⟨[],[(10,oY)]⟩ [] 18 8 [lL,r1,r2,(.mk [(.mk [(pc jC 0),(pc jC 1),(pc jC 2),(pc jC 3),(pc jC 4),(pc jC 5),(pc jC 6),(pc jC 7),(pc jC 8),(pc jC 9),(pc jC 10),(pc jC 11),(pc jC 12),(pc jC 13),(pc jC 14),(pc jC 15),(pc jC 16),(pc jC 17),pL]),(pi 0),(pi (-1)),(pi (-1)),(pi (-1)),r4])]
 (.ret (aB 5 (.setc cA 0 kz))))
theorem XF:Fi.map told=some (Qj,[]):=by kernel_rfl
theorem aot:tree (ae Fi)=Qj:=bj XF
def x9:Option PC:=cF [2,4] [] Tryz.f45 45 [1,3,6,8]
def A1:Nat→PC:=bB x9
def akN (b:Nat→PC):PC:=.block 0 [3,16,17] [3] (.loop [3,16] [3] (b 0))
def akO (b:Nat→PC):PC:=.block 2 [2,3,36,37] [3] (.loop [2,3,36] [3] (b 1))
def Ed (b:Nat→PC):PT:=
 (.ite (ao eD ji)
 (.chk (az dj eD)
 (.ite (.pick (peq r4 (pi 1)) (peq (pc (.setc z9 0 qu) 0) (pi 1)) pF)
 (.chk (bY (.llen (.app o3 (.lst [(pc (.setc z9 0 qu) 6)]))) cX)
 (.next ⟨[(3,pN),(16,(aP eD (pi 1)))],[(3,(.app o3 (.lst [(pc (.setc z9 0 qu) 6)])))]⟩))
 (.next ⟨[(16,(aP eD (pi 1)))],[]⟩)))
 (.exit 0 ⟨[(17,(ao eD ji))],[]⟩))
def wN (b:Nat→PC):PT:=
 (.ite (ao kW wH)
 (.chk (az ZQ kW)
 (.ite (.pick (peq r4 (pi 0)) (peq (pc Dx 0) (pi 2)) pF)
 (.ret (pc Dx 6))
 (.ite (.pick (peq r4 (pi 1)) (peq (pc Dx 0) (pi 1)) pF)
 (.chk (bY (.llen (.app o3 (.lst [(pc Dx 6)]))) cX)
 (.next ⟨[(3,pN),(36,(aP kW (pi 1)))],[(3,(.app o3 (.lst [(pc Dx 6)])))]⟩))
 (.next ⟨[(36,(aP kW (pi 1)))],[]⟩))))
 (.exit 2 ⟨[(37,(ao kW wH))],[]⟩))
def Rt (b:Nat→PC):PT:=
 (.brk ⟨[(16,(pi 0)),(15,(.llen (pc (.mk [r0]) 15))),(14,(pc (.mk [r0]) 15)),(4,wD),(3,pN),(2,(pi 0))],[(3,pL),(1,(.mk [r0]))]⟩
(akN b)
 (.brk ⟨[(36,(pi 0)),(35,(.llen (pc o1 17))),(34,(pc o1 17))],[]⟩
(akO b)
 (.ite (peq (.llen o3) (pi 0))
 (.ret (pi (-1)))
 (.call ⟨[],[]⟩ [] 66 90 [o3]
 (.ret OS)))))
def agb (b:Nat→PC):PT×List (Shp×PT):=(Rt b,[(.lp 0 [3,16,17] [3] [3,16] [3],Ed b),(.lp 2 [2,3,36,37] [3] [2,3,36] [3],wN b)])
theorem H3:x9.map told=some (agb (bA x9)):=by kernel_rfl
theorem apF:tree (ae x9)=Rt A1:=cd H3
theorem Py:round 0 [3,16,17] [3] [3,16] [3] (A1 0)=Ed A1:=bx H3 0 fun _=>rfl
theorem Ee:round 2 [2,3,36,37] [3] [2,3,36] [3] (A1 1)=wN A1:=bx H3 1 fun _=>rfl
def yg:Option PC:=cF [2,3,4] [] Tryz.f90 90 []
def KD:Nat→PC:=bB yg
def W0 (b:Nat→PC):PC:=.block 0 [3,4,12,13,14,15] [] (.loop [3,4] [] (b 0))
def IV (b:Nat→PC):PT:=
 (.ite (ao r4 (.llen r0))
 (.chk (az r0 r4)
 (.next ⟨[(3,(.mn r3 (pn r0 r4))),(4,(aP r4 (pi 1)))],[]⟩))
 (.exit 0 ⟨[(12,r4),(13,r0),(14,(.llen r0)),(15,(ao r4 (.llen r0)))],[]⟩))
def RI (b:Nat→PC):PT:=
 (.ite (ao (.llen r0) (pi 1))
 (.chk (.nt pT)
 (.chk (.nt pT)
 (.chk (az r0 (pi 0))
 (.brk ⟨[(4,(pi 1)),(3,(pn r0 (pi 0)))],[]⟩
(W0 b)
 (.ret r3)))))
 (.chk (az r0 (pi 0))
 (.brk ⟨[(4,(pi 1)),(3,(pn r0 (pi 0)))],[]⟩
(W0 b)
 (.ret r3))))
def agk (b:Nat→PC):PT×List (Shp×PT):=(RI b,[(.lp 0 [3,4,12,13,14,15] [] [3,4] [],IV b)])
theorem N5:yg.map told=some (agk (bA yg)):=by kernel_rfl
theorem apU:tree (ae yg)=RI KD:=cd N5
theorem aad:round 0 [3,4,12,13,14,15] [] [3,4] [] (KD 0)=IV KD:=bx N5 0 fun _=>rfl
def Bi:Option PC:=cF [8,9,15,39,58,74,11,12] [] Tryz.f44 44 [4,5,10]
def Ju:PT:=
 (.blockS ⟨[],[(10,(.setc z3 0 (.mk [(pc (.mk [r1]) 5),(pc (.mk [r1]) 6),(pc (.mk [r1]) 7)]))),(5,(.mk [r1])),(4,(.mk [r0]))]⟩ 0 [8,9,15,16,17,18,19,25,26,32,33,38,39,40,41,42,43,47,48,52,53,57,58,59,60,61,65,66,69,70,73,74,75,76,77,80] []
 (.call ⟨[],[]⟩ [] 17 84 [(aB 8 o4)]
 (.call ⟨[(19,(bk qv (pi 0)))],[]⟩ [(19,false)] 23 85 [(aB 8 o4),(pc o5 9)]
 (.call ⟨[(26,(.pick iP pT (.nt lN)))],[]⟩ [(26,false)] 30 85 [(aB 8 o4),(pc o5 10)]
 (.call ⟨[(33,(.pick mE pT (.nt zY)))],[]⟩ [(33,false)] 36 86 [(pc o5 8)]
 (.iteS ⟨[],[]⟩ (.pick tY pT (.nt kW)) [8,9,39,40,41,42,43,47,48,52,53,57,58,59,60,61,65,66,69,70,73,74,75,76,77,80] []
 (.ret (.tup [(pi 0),(pi 1)]))
 (.iteS ⟨[],[]⟩ (.pick (.pick (.pick (ao (pc cA 0) (pi 0)) pT (dx (pc cA 0) (pi 5))) pT (ao (pc cA 2) (pi 0))) pT (dx (pc cA 2) (pi 2))) [8,9,58,59,60,61,65,66,69,70,73,74,75,76,77,80] []
 (.ret (.tup [(pi 0),(pi 1)]))
 (.call ⟨[(61,(bk r2 (pi (-1))))],[]⟩ [(61,true)] 63 86 [r2]
 (.iteS ⟨[],[]⟩ (.pick (.pick (.pick DB (.nt OR) pF) pT (ao r3 (pi 0))) pT (bp r3 (pi 20000))) [8,9,74,75,76,77,80] []
 (.ret (.tup [(pi 0),(pi 1)]))
 (.call ⟨[],[]⟩ [] 76 87 [(.mk [(pc cA 0),(pc cA 1),(pc cA 2)])]
 (.ite (.pick pj (peq r2 (pi (-1))) pF)
 (.ret (.tup [(pi 0),(pi 4)]))
 (.next ⟨[],[]⟩)))
 (.next ⟨[],[]⟩)))
 (.next ⟨[],[]⟩))
 (.next ⟨[],[]⟩))))))
 (.call ⟨[],[]⟩ [] 85 88 [(aB 8 o4),(aB 15 o5),r2]
 (.ite (bk (.tget DD 1) (pi 0))
 (.ret (.tup [(pi 0),(.tget DD 1)]))
 (.call ⟨[(11,(.tget DD 0))],[]⟩ [] 92 86 [(.tget DD 0)]
 (.ite (.pick (.nt DE) pT (bp (aP bQ r3) (pi 100000)))
 (.ret (.tup [(pi 0),(pi 3)]))
 (.call ⟨[],[]⟩ [] 106 89 [(aB 8 o4),(pc o5 10),(aP bQ r3)]
 (.ret (.tup [(.tget ZM 0),(.tget ZM 1)]))))))))
theorem Yv:Bi.map told=some (Ju,[]):=by kernel_rfl
theorem aa8:tree (ae Bi)=Ju:=bj Yv
def xO:Option PC:=cF [2,3,4,5,6,7,10,11,12] [] Tryz.f84 84 [1,9]
def Kq:Nat→PC:=bB xO
def akt (b:Nat→PC):PC:=.block 0 [2,38,39] [] (.loop [2,38] [] (b 0))
def DZ (b:Nat→PC):PT:=
 (.ite (ao jj pf)
 (.blockS ⟨[],[]⟩ 1 [2,9,40,41,42,43,44,45] [9]
 (.chk (az kW jj)
 (.call ⟨[],[]⟩ [] 44 105 [(pc (.setc Dy 0 (pn kW jj)) 0),(pi 10)]
 (.ite (.nt wI)
 (.ret (pi 1))
 (.next ⟨[],[]⟩))))
 (.next ⟨[(38,(aP jj (pi 1)))],[]⟩))
 (.exit 0 ⟨[(39,(ao jj pf))],[]⟩))
def Q9 (b:Nat→PC):PT:=
 (.call ⟨[(2,(pi 0))],[(1,(.mk [r0]))]⟩ [] 15 128 [lL]
 (.call ⟨[(5,(.tget ji 2)),(4,(.tget ji 1)),(3,(.tget ji 0))],[]⟩ [] 21 129 [(pc o1 0),(pi 8),(.con (.clo 130 []))]
 (.ite (bk lM (pi 0))
 (.ret lM)
 (.call ⟨[],[(1,(aB 8 o1))]⟩ [] 27 129 [r3,(pi 40),(.clo 131 [(.ref (aB 8 o1))])]
 (.ite (bk fS (pi 0))
 (.ret fS)
 (.ite (bp qs (pi 20))
 (.ret (pi 6))
 (.brk ⟨[(38,(pi 0)),(37,qs),(36,(pc o1 2))],[]⟩
(akt b)
 (.call ⟨[],[]⟩ [] 49 129 [r4,(pi 200),(.clo 133 [(.ref o1)])]
 (.ite (bk sd (pi 0))
 (.ret sd)
 (.call ⟨[],[]⟩ [] 55 129 [r5,(pi 20),(.clo 134 [(.ref o1)])]
 (.ite (bk wJ (pi 0))
 (.ret wJ)
 (.call ⟨[],[]⟩ [] 60 136 [(.sub o1 0 8)]
 (.ite (bk OQ (pi 0))
 (.ret OQ)
 (.call ⟨[],[]⟩ [] 65 137 [(.sub o1 0 8)]
 (.ret r65)))))))))))))))
def afZ (b:Nat→PC):PT×List (Shp×PT):=(Q9 b,[(.lp 0 [2,38,39] [] [2,38] [],DZ b)])
theorem NT:xO.map told=some (afZ (bA xO)):=by kernel_rfl
theorem apq:tree (ae xO)=Q9 Kq:=cd NT
theorem Pk:round 0 [2,38,39] [] [2,38] [] (Kq 0)=DZ Kq:=bx NT 0 fun _=>rfl
def xT:Option PC:=cF [] [] Tryz.f128 128 [1,2,3,4,6,16390,20486,24582,21,8,34,10,12298,16394,47]
def uS:Nat→PC:=bB xT
def aky (b:Nat→PC):PC:=.block 0 [2,14,15] [2] (.loop [2,14] [2] (b 0))
def akz (b:Nat→PC):PC:=.block 2 [3,27,28] [3] (.loop [3,27] [3] (b 1))
def akA (b:Nat→PC):PC:=.block 4 [4,40,41] [4] (.loop [4,40] [4] (b 2))
def IM (b:Nat→PC):PT:=
 (.ite rX
 (.chk (az cj dj)
 (.chk (bY (.llen Zq) cX)
 (.next ⟨[(2,pN),(14,(aP dj (pi 1)))],[(2,Zq)]⟩)))
 (.exit 0 ⟨[(15,rX)],[]⟩))
def IN (b:Nat→PC):PT:=
 (.ite (ao fS mE)
 (.chk (az jZ fS)
 (.chk (bY (.llen Zv) cX)
 (.next ⟨[(3,pN),(27,(aP fS (pi 1)))],[(3,Zv)]⟩)))
 (.exit 2 ⟨[(28,(ao fS mE))],[]⟩))
def IP (b:Nat→PC):PT:=
 (.ite (ao pg DA)
 (.chk (az jj pg)
 (.chk (bY (.llen Zr) cX)
 (.next ⟨[(4,pN),(40,(aP pg (pi 1)))],[(4,Zr)]⟩)))
 (.exit 4 ⟨[(41,(ao pg DA))],[]⟩))
def Rm (b:Nat→PC):PT:=
 (.brk ⟨[(14,(pi 0)),(13,(.llen oV)),(12,oV),(4,pN),(3,pN),(2,pN)],[(4,pL),(3,pL),(2,pL),(1,(.mk [r0]))]⟩
(aky b)
 (.brk ⟨[(27,(pi 0)),(26,mD),(25,(pc o1 3))],[]⟩
(akz b)
 (.brk ⟨[(40,(pi 0)),(39,nB),(38,(pc o1 4))],[]⟩
(akA b)
 (.ret (.tup [o2,o3,o4])))))
def af4 (b:Nat→PC):PT×List (Shp×PT):=(Rm b,[(.lp 0 [2,14,15] [2] [2,14] [2],IM b),(.lp 2 [3,27,28] [3] [3,27] [3],IN b),(.lp 4 [4,40,41] [4] [4,40] [4],IP b)])
theorem Dg:xT.map told=some (af4 (bA xT)):=by kernel_rfl
theorem apy:tree (ae xT)=Rm uS:=cd Dg
theorem Z7:round 0 [2,14,15] [2] [2,14] [2] (uS 0)=IM uS:=bx Dg 0 fun _=>rfl
theorem Z8:round 2 [3,27,28] [3] [3,27] [3] (uS 1)=IN uS:=bx Dg 1 fun _=>rfl
theorem Z9:round 4 [4,40,41] [4] [4,40] [4] (uS 2)=IP uS:=bx Dg 2 fun _=>rfl
def xR:Option PC:=cF [6,7,8] [] Tryz.f129 129 []
def Kt:Nat→PC:=bB xR
def akw (b:Nat→PC):PC:=.block 0 [6,15,16] [] (.loop [6,15] [] (b 0))
def D2 (b:Nat→PC):PT:=
 (.ite (ao ji dj)
 (.blockS ⟨[],[]⟩ 1 [6,7,8,17,18,19,20,21,22,24,25,26,27] []
 (.call ⟨[(7,ji)],[]⟩ [] 20 163 [r0,ji]
 (.ite (bk eN (pi 0))
 (.ret eN)
 (.callc ⟨[],[]⟩ [] 26 r2 [r7]
 (.ite (.nt mE)
 (.ret (pi 1))
 (.next ⟨[],[]⟩)))))
 (.next ⟨[(15,(aP ji (pi 1)))],[]⟩))
 (.exit 0 ⟨[(16,(ao ji dj))],[]⟩))
def Ri (b:Nat→PC):PT:=
 (.ite (bp (.llen r0) r1)
 (.ret (pi 6))
 (.brk ⟨[(15,(pi 0)),(14,(.llen r0)),(6,(pi 0))],[]⟩
(akw b)
 (.ret (pi 0))))
def af2 (b:Nat→PC):PT×List (Shp×PT):=(Ri b,[(.lp 0 [6,15,16] [] [6,15] [],D2 b)])
theorem NW:xR.map told=some (af2 (bA xR)):=by kernel_rfl
theorem apu:tree (ae xR)=Ri Kt:=cd NW
theorem Pn:round 0 [6,15,16] [] [6,15] [] (Kt 0)=D2 Kt:=bx NW 0 fun _=>rfl
def FZ:Option PC:=cF [4] [] Tryz.f163 163 []
def Rl:PT:=
 (.chk (az r0 r1)
 (.call ⟨[],[]⟩ [] 9 199 [(pn r0 r1)]
 (.ite (.nt r9)
 (.ret (pi 2))
 (.chk (.slok r0 (pi 0) r1)
 (.chk (az r0 r1)
 (.call ⟨[],[]⟩ [] 18 200 [(.slc r0 (pi 0) r1),(pn r0 r1)]
 (.ite kz
 (.ret (pi 5))
 (.ret (pi 0)))))))))
theorem Yn:FZ.map told=some (Rl,[]):=by kernel_rfl
theorem apx:tree (ae FZ)=Rl:=bj Yn
def xS:Option PC:=cF [2,3,4,5] [] Tryz.f199 199 []
def Ku:Nat→PC:=bB xS
def akx (b:Nat→PC):PC:=.block 0 [2,16,17] [] (.loop [2,16] [] (b 0))
def D3 (b:Nat→PC):PT:=
 (.ite (ao eD ji)
 (.chk (az dj eD)
 (.ite (.pick (.nt (.pick (.pick (dx qu (.con (.v (.int .u8 97)))) (bY qu (.con (.v (.int .u8 122)))) pF) pT (.pick (dx qu (.con (.v (.int .u8 65)))) (bY qu (.con (.v (.int .u8 90)))) pF))) (.pick (peq eD (pi 0)) pT (.pick (bk qu (.con (.v (.int .u8 95)))) (.pick (ao qu (.con (.v (.int .u8 48)))) pT (bp qu (.con (.v (.int .u8 57))))) pF)) pF)
 (.ret pF)
 (.next ⟨[(16,(aP eD (pi 1)))],[]⟩)))
 (.exit 0 ⟨[(17,(ao eD ji))],[]⟩))
def Rk (b:Nat→PC):PT:=
 (.ite (.pick (.cs .eql r0 (.con (.v (.string ⟨#[]⟩)))) pT (bp (.slen r0) (pi 20)))
 (.ret pF)
 (.chk (bY (.slen r0) cX)
 (.brk ⟨[(16,(pi 0)),(15,(.llen (.bytes r0))),(14,(.bytes r0)),(2,pF)],[]⟩
(akx b)
 (.ret pT))))
def af3 (b:Nat→PC):PT×List (Shp×PT):=(Rk b,[(.lp 0 [2,16,17] [] [2,16] [],D3 b)])
theorem NX:xS.map told=some (af3 (bA xS)):=by kernel_rfl
theorem apw:tree (ae xS)=Rk Ku:=cd NX
theorem Po:round 0 [2,16,17] [] [2,16] [] (Ku 0)=D3 Ku:=bx NX 0 fun _=>rfl
end Rm
