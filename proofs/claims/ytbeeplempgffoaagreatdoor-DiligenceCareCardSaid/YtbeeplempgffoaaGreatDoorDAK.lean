/-
  The functions of this seat, compiled (3).
-/
import Derived.Test.YtbeeplempgffoaaGreatDoorDAH
import Derived.KernelRfl
set_option linter.unusedVariables false
set_option maxRecDepth 100000
noncomputable section
namespace Rm
open Go Go.Proofs Cx
def HW:Option PC:=cF [7,8] [] Tryz.f92 92 [3,4,6]
def GY:PT:=
 (.ite (aC (pc (.mk [r1]) 4) (pi 0))
 (.ret (.mk [(pc (.setc cr 0 (.mk [pT,ye])) 0),(pc (.setc cr 0 (.mk [pT,ye])) 1)]))
 (.ite (.nt xW)
 (.ret Fj)
 (.chk (aq jc (pc (.mk [r0]) 19))
 (.call ⟨[],[(6,cr)]⟩ [] 32 131 [(pn jc (pc (.mk [r0]) 19)),r2,vl]
 (.ret (.mk [(pc af8 0),(pc af8 1)]))))))
theorem ad7:HW.map told=some (GY,[]):=by kernel_rfl
theorem axn:tree (ab HW)=GY:=aF ad7
def y2:Option PC:=cF [6,7,8,9,1] [] Tryz.f131 131 [3]
def Ol:Nat→PC:=aZ y2
def arj (b:Nat→PC):PC:=.block 0 [1,6,7,22,23] [] (.loop [1,6,7,22] [] (b 0))
def Mj (b:Nat→PC):PT:=
 (.ite (ao vq iP)
 (.blockS ⟨[],[]⟩ 1 [1,6,7,8,9,24,25,26,27,28,29,30,31,32,34] []
 (.call ⟨[],[]⟩ [] 28 127 [(ah 6 o3),(aH r1 (pi 1))]
 (.ite (aC (.tget gK 1) (pi 0))
 (.ret (.tup [(pi 0),(.tget gK 1)]))
 (.next ⟨[(1,(.tget gK 0))],[]⟩)))
 (.next ⟨[(22,(aH vq (pi 1)))],[]⟩))
 (.exit 0 ⟨[(23,(ao vq iP))],[]⟩))
def Vr (b:Nat→PC):PT:=
 (.call ⟨[(7,(pi 0)),(6,(pi 0))],[(3,(.mk [r0]))]⟩ [] 11 160 [r1]
 (.ite (.pick (.pick (.nt bW) pT (ao r2 (pi 0))) pT (aP r2 (pi 20000)))
 (.ret (.tup [(pi 0),(pi 3)]))
 (.brk ⟨[(22,(pi 0)),(21,r2)],[]⟩
(arj b)
 (.ret (.tup [r1,(pi 0)])))))
def amx (b:Nat→PC):PT×List (Shp×PT):=(Vr b,[(.lp 0 [1,6,7,22,23] [] [1,6,7,22] [],Mj b)])
theorem RK:y2.map told=some (amx (bl y2)):=by kernel_rfl
theorem aw3:tree (ab y2)=Vr Ol:=bE RK
theorem agY:round 0 [1,6,7,22,23] [] [1,6,7,22] [] (Ol 0)=Mj Ol:=aT RK 0 fun _=>rfl
def y8:Option PC:=cF [2,3,5,8,63,66] [] Tryz.f47 47 [1,4,7]
def Ou:Nat→PC:=aZ y8
def art (b:Nat→PC):PC:=.block 0 [2,5,28,29] [] (.loop [2,5,28] [] (b 0))
def Mn (b:Nat→PC):PT:=
 (.ite (ao gK eG)
 (.blockS ⟨[],[]⟩ 1 [2,5,7,30,31,32,33,34,35,43,44,49,50,56] [7]
 (.chk (aq jE gK)
 (.ite (.pick (.pick (.pick (aC (pc Fc 0) (pi 4)) pT (aC (pc Fc 2) (pc o1 10))) pT (ao (pc Fc 6) r3)) pT (aP (pc Fc 6) (pc o4 1)))
 (.exit 1 ⟨[],[]⟩)
 (.iteS ⟨[(8,(pi 1))],[]⟩ (ae (pc Fc 8) (pi 1)) [8] []
 (.call ⟨[],[]⟩ [] 61 46 [(ah 31 o1),(pi 9)]
 (.call ⟨[],[]⟩ [] 62 22 [vu]
 (.next ⟨[(8,kF)],[]⟩)))
 (.next ⟨[],[]⟩)
 (.ite (ae r8 (pi 1))
 (.ret (pi 1))
 (.next ⟨[(5,(.pick (ae r8 (pi 2)) (pi 2) r5))],[]⟩)))))
 (.next ⟨[(28,(aH gK (pi 1)))],[]⟩))
 (.exit 0 ⟨[(29,(ao gK eG))],[]⟩))
def VO (b:Nat→PC):PT:=
 (.call ⟨[(2,(pi 0))],[(1,(.mk [r0]))]⟩ [] 10 50 [(ah 31 (.mk [r0]))]
 (.call ⟨[(11,(ah 31 o1)),(3,bN)],[]⟩ [] 13 46 [(ah 31 o1),(pi 10)]
 (.call ⟨[],[]⟩ [] 15 92 [bW,cO,r3]
 (.ite (.nt (pc (.setc cr 0 df) 0))
 (.ret (pi 2))
 (.brk ⟨[(28,(pi 0)),(27,(.llen (pc o1 26))),(26,(pc o1 26)),(5,(.pick (aX (pc o1 29) (pc (.setc cr 0 df) 1)) (pi 2) (pi 0)))],[(4,(.setc cr 0 df))]⟩
(art b)
 (.ret r5))))))
def amE (b:Nat→PC):PT×List (Shp×PT):=(VO b,[(.lp 0 [2,5,28,29] [] [2,5,28] [],Mn b)])
theorem RQ:y8.map told=some (amE (bl y8)):=by kernel_rfl
theorem axs:tree (ab y8)=VO Ou:=bE RQ
theorem ag2:round 0 [2,5,28,29] [] [2,5,28] [] (Ou 0)=Mn Ou:=aT RQ 0 fun _=>rfl
def HX:Option PC:=cF [2,3] [] Tryz.f50 50 [1]
def VK:PT:=
 (.call ⟨[],[(1,(.mk [r0]))]⟩ [] 5 91 [(ah 31 (.mk [r0]))]
 (.ite (aC r5 (pi (-1)))
 (.ret r5)
 (.ret (pc o1 30))))
theorem ad8:HX.map told=some (VK,[]):=by kernel_rfl
theorem axo:tree (ab HX)=VK:=aF ad8
def HB:Option PC:=cF [2,3,7,12] [] Tryz.f22 22 [1]
def Vl:PT:=
 (.ite (aC xX (pi 0))
 (.ret (pi 0))
 (.ite (.nt iO)
 (.ret (pi 2))
 (.ite (aC jc (pi 0))
 (.ret (pi 1))
 (.ret (pi 0)))))
theorem adJ:HB.map told=some (Vl,[]):=by kernel_rfl
theorem awW:tree (ab HB)=Vl:=aF adJ
def HU:Option PC:=cF [4,5] [] Tryz.f45 45 [2]
def VI:PT:=
 (.call ⟨[],[]⟩ [] 7 22 [(ah 5 (.mk [r0]))]
 (.ite (.pick (ae r7 (pi 0)) pT (ae r1 (pi 1)))
 (.ret (pi 1))
 (.ite (ae r7 (pi 2))
 (.ret (pi 2))
 (.ret r1))))
theorem ad5:HU.map told=some (VI,[]):=by kernel_rfl
theorem axl:tree (ab HU)=VI:=aF ad5
def y7:Option PC:=cF [2,3,6,10] [] Tryz.f48 48 [1,4,5,7,9,12]
def CL:Nat→PC:=aZ y7
def arq (b:Nat→PC):PC:=.block 2 [10,50,51] [] (.loop [10,50] [] (b 0))
def ars (b:Nat→PC):PC:=.block 0 [2,6,7,30,31] [7] (.loop [2,6,7,30] [7] (b 1))
def Ml (b:Nat→PC):PT:=
 (.ite (ao gZ mI)
 (.blockS ⟨[],[]⟩ 3 [10,12,52,53,54,55,72] [12]
 (.chk (aq o7 gZ)
 (.call ⟨[(63,(pc o9 6)),(61,(ae (pc (.setc z9 0 (.sub (pn o7 gZ) 0 9)) 2) (pc o9 1))),(55,bN)],[]⟩ [(61,true),(55,false)] 68 92 [(ah 31 o1),(ah 5 o4),(pc (.setc z9 0 (.sub (pn o7 gZ) 0 9)) 6)]
 (.next ⟨[(10,(.pick vt pT (.pick vu (aX yi (pc Fy 1)) pF)))],[]⟩)))
 (.next ⟨[(50,(aH gZ (pi 1)))],[]⟩))
 (.exit 2 ⟨[(51,(ao gZ mI))],[]⟩))
def Mm (b:Nat→PC):PT:=
 (.ite (ao jG jF)
 (.blockS ⟨[(31,(ao jG jF))],[]⟩ 1 [2,6,7,9,32,33,34,35,36] [9,7]
 (.chk (aq gK jG)
 (.ite (aC (pc LZ 0) (pi 5))
 (.exit 1 ⟨[],[]⟩)
 (.brk ⟨[(50,(pi 0)),(49,(.llen o7)),(10,(.pick (bD (pc LZ 6) r3) (aX (pc LZ 6) (pc o5 1)) pF))],[(9,LZ)]⟩
(arq b)
 (.ite (.nt bN)
 (.exit 1 ⟨[],[]⟩)
 (.chk (aq (pc o1 24) (pc o1 28))
 (.ite (ae (pc o9 2) (pc (pn (pc o1 24) (pc o1 28)) 2))
 (.ret (pi 1))
 (.chk (aX (.llen (.app o7 (.lst [(ah 9 o9)]))) cq)
 (.call ⟨[(91,r6),(7,pN)],[(7,(.app o7 (.lst [(ah 9 o9)])))]⟩ [] 96 92 [(ah 31 o1),(ah 5 o4),(pc o9 6)]
 (.next ⟨[(6,(.mx TL (pc Mi 1)))],[]⟩)))))))))
 (.next ⟨[(30,(aH jG (pi 1)))],[]⟩))
 (.exit 0 ⟨[(31,(ao jG jF))],[]⟩))
def VM (b:Nat→PC):PT:=
 (.call ⟨[(2,(pi 0))],[(1,(.mk [r0]))]⟩ [] 14 50 [(ah 31 (.mk [r0]))]
 (.call ⟨[(3,bH)],[]⟩ [] 16 46 [(ah 31 o1),(pi 12)]
 (.call ⟨[],[(4,(.setc j4 0 dA))]⟩ [] 20 92 [(ah 31 o1),(ah 5 (.setc j4 0 dA)),r3]
 (.ite (.nt (pc (.setc cr 0 dU) 0))
 (.ret (pi 2))
 (.brk ⟨[(30,(pi 0)),(29,(.llen (pc o1 26))),(28,(pc o1 26)),(7,pN),(6,(pc (.setc cr 0 dU) 1))],[(7,pL),(5,(.setc cr 0 dU))]⟩
(ars b)
 (.ite (aP (pc o1 29) r6)
 (.ret (pi 0))
 (.ret (pi 2))))))))
def amD (b:Nat→PC):PT×List (Shp×PT):=(VM b,[(.lp 2 [10,50,51] [] [10,50] [],Ml b),(.lp 0 [2,6,7,30,31] [7] [2,6,7,30] [7],Mm b)])
theorem Li:y7.map told=some (amD (bl y7)):=by kernel_rfl
theorem axq:tree (ab y7)=VM CL:=bE Li
theorem ag0:round 2 [10,50,51] [] [10,50] [] (CL 0)=Ml CL:=aT Li 0 fun _=>rfl
theorem ag1:round 0 [2,6,7,30,31] [7] [2,6,7,30] [7] (CL 1)=Mm CL:=aT Li 1 fun _=>rfl
def HQ:Option PC:=cF [8] [] Tryz.f19 19 [4,6]
def VE:PT:=
 (.call ⟨[],[]⟩ [] 13 43 [fw,r1,Fh,(pi 0),r3]
 (.call ⟨[],[]⟩ [] 14 50 [cO]
 (.ret bH)))
theorem ad1:HQ.map told=some (VE,[]):=by kernel_rfl
theorem axh:tree (ab HQ)=VE:=aF ad1
def Db:Option PC:=cF [4] [] Tryz.f15 15 [2,3]
def VS:PT:=
 (.call ⟨[],[(3,(.mk [r1])),(2,(.mk [r0]))]⟩ [] 7 24 [fw,(ah 19 (.mk [r1]))]
 (.call ⟨[(8,r7)],[]⟩ [(8,true)] 10 25 [(ah 8 o2)]
 (.call ⟨[(13,(.pick r8 (ae bN (pi 0)) pF))],[]⟩ [(13,true)] 16 17 [(ah 8 o2),(ah 19 o3)]
 (.ret (.pick cO (ae dA (pi 0)) pF)))))
theorem aed:Db.map told=some (VS,[]):=by kernel_rfl
theorem axy:tree (ab Db)=VS:=aF aed
def zI:Option PC:=cF [4,5] [] Tryz.f24 24 [2,3]
def OT:Nat→PC:=aZ zI
def asi (b:Nat→PC):PC:=.block 0 [4,5,14,15,16,17,18] [] (.loop [4,5] [] (b 0))
def Gc (b:Nat→PC):PT:=
 (.ite (ao r5 (.llen (pc o2 4)))
 (.blockS ⟨[],[]⟩ 1 [4,21,22,23,24,25,26,27] []
 (.chk (aq (pc o2 4) r5)
 (.call ⟨[],[]⟩ [] 26 57 [(pn (pc o2 4) r5)]
 (.ite (.nt jE)
 (.ret pF)
 (.next ⟨[],[]⟩))))
 (.next ⟨[(5,oK)],[]⟩))
 (.exit 0 ⟨[(14,r5),(15,pN),(16,(pc o2 4)),(17,(.llen (pc o2 4))),(18,(ao r5 (.llen (pc o2 4))))],[]⟩))
def W5 (b:Nat→PC):PT:=
 (.call ⟨[(4,pF)],[(3,(.mk [r1])),(2,(.mk [r0]))]⟩ [] 7 55 [fw]
 (.call ⟨[(9,(.nt r7))],[]⟩ [(9,false)] 11 56 [(ah 19 o3)]
 (.ite (.pick r9 pT (.nt bW))
 (.ret pF)
 (.brk ⟨[(5,(pi 0))],[]⟩
(asi b)
 (.ret pT)))))
def anf (b:Nat→PC):PT×List (Shp×PT):=(W5 b,[(.lp 0 [4,5,14,15,16,17,18] [] [4,5] [],Gc b)])
theorem Se:zI.map told=some (anf (bl zI)):=by kernel_rfl
theorem ayY:tree (ab zI)=W5 OT:=bE Se
theorem Ur:round 0 [4,5,14,15,16,17,18] [] [4,5] [] (OT 0)=Gc OT:=aT Se 0 fun _=>rfl
def zj:Option PC:=cF [2,3,4] [] Tryz.f55 55 [1]
def CP:Nat→PC:=aZ zj
def arJ (b:Nat→PC):PC:=.block 0 [2,3,5,6,7,8,9,10,13] [] (.loop [2,3] [] (b 0))
def arK (b:Nat→PC):PC:=.block 2 [2,4,44,45,46,47,48,49,52] [] (.loop [2,4] [] (b 1))
def yo (b:Nat→PC):PT:=
 (.ite (.pick (ao r3 lQ) (ao r3 (pi 50)) pF)
 (.chk (aq (pc o1 1) r3)
 (.chk (.nt (.an (.an (.nt (aP (.llen (pc (pn (pc o1 1) r3) 4)) (pi 70))) pT) (.nt (aq (pc o1 1) r3))))
 (.chk (.nt (.an (.an (.nt agq) pT) (.nt (aq (pc o1 1) r3))))
 (.ite (.pick agq pT (aP (.llen (pc (pn (pc o1 1) r3) 3)) (pi 8)))
 (.ret pF)
 (.next ⟨[(3,tH)],[]⟩)))))
 (.exit 0 ⟨[(5,r3),(6,pN),(7,(pc o1 1)),(8,lQ),(9,(ao r3 lQ)),(10,(ao r3 lQ)),(13,(.pick (ao r3 lQ) (ao r3 (pi 50)) pF))],[]⟩))
def BN (b:Nat→PC):PT:=
 (.ite (.pick (ao r4 oI) (ao r4 (pi 50)) pF)
 (.chk (aq (pc o1 4) r4)
 (.chk (.nt (.an (.an (.nt (aP (.llen (pc xV 2)) (pi 40))) pT) (.nt (aq (pc o1 4) r4))))
 (.ite (.pick (aP (.llen (pc xV 2)) (pi 40)) pT (aP (.llen (pc xV 3)) (pi 40)))
 (.ret pF)
 (.next ⟨[(4,(aH r4 (pi 1)))],[]⟩))))
 (.exit 2 ⟨[(44,r4),(45,pN),(46,(pc o1 4)),(47,oI),(48,(ao r4 oI)),(49,(ao r4 oI)),(52,(.pick (ao r4 oI) (ao r4 (pi 50)) pF))],[]⟩))
def Wj (b:Nat→PC):PT:=
 (.brk ⟨[(3,(pi 0)),(2,pF)],[(1,(.mk [r0]))]⟩
(arJ b)
 (.brk ⟨[(4,(pi 0))],[]⟩
(arK b)
 (.ret (.pick (.pick (.pick (.pick (.pick (.pick (.pick (ao vn (pi 50)) (ao lQ (pi 50)) pF) (ao nE (pi 50)) pF) (ao nD (pi 210)) pF) (ao oI (pi 50)) pF) (ao BE (pi 110)) pF) (ao (.llen (pc o1 6)) (pi 110)) pF) (ao xY (pi 50)) pF))))
def amQ (b:Nat→PC):PT×List (Shp×PT):=(Wj b,[(.lp 0 [2,3,5,6,7,8,9,10,13] [] [2,3] [],yo b),(.lp 2 [2,4,44,45,46,47,48,49,52] [] [2,4] [],BN b)])
theorem Ln:zj.map told=some (amQ (bl zj)):=by kernel_rfl
theorem ax2:tree (ab zj)=Wj CP:=bE Ln
theorem FL:round 0 [2,3,5,6,7,8,9,10,13] [] [2,3] [] (CP 0)=yo CP:=aT Ln 0 fun _=>rfl
theorem Mv:round 2 [2,4,44,45,46,47,48,49,52] [] [2,4] [] (CP 1)=BN CP:=aT Ln 1 fun _=>rfl
def Iy:Option PC:=cF [2] [] Tryz.f56 56 [1]
def WE:PT:=
 (.ret (.pick (.pick (.pick (aX (.llen ru) (pi 50)) (aX (.llen (pc (.mk [r0]) 16)) (pi 10)) pF) (aX (.llen (pc (.mk [r0]) 17)) (pi 110)) pF) (aX (.llen (pc (.mk [r0]) 18)) (pi 220)) pF))
theorem aeG:Iy.map told=some (WE,[]):=by kernel_rfl
theorem ayp:tree (ab Iy)=WE:=aF aeG
def zD:Option PC:=cF [2,3] [] Tryz.f57 57 [1]
def OO:Nat→PC:=aZ zD
def asd (b:Nat→PC):PC:=.block 0 [2,3,14,15,16,17,18] [] (.loop [2,3] [] (b 0))
def F9 (b:Nat→PC):PT:=
 (.ite (ao r3 nD)
 (.blockS ⟨[],[]⟩ 1 [2,21,22,23,24,25,26,27,28] []
 (.chk (aq (pc o1 3) r3)
 (.call ⟨[],[]⟩ [] 27 104 [(.sub (pn (pc o1 3) r3) 1 3)]
 (.ite (.nt eG)
 (.ret pF)
 (.next ⟨[],[]⟩))))
 (.next ⟨[(3,tH)],[]⟩))
 (.exit 0 ⟨[(14,r3),(15,pN),(16,(pc o1 3)),(17,nD),(18,(ao r3 nD))],[]⟩))
def WS (b:Nat→PC):PT:=
 (.ite (.pick (aP (.llen (pc (.mk [r0]) 3)) (pi 60)) pT (aP qk (pi 60)))
 (.ret pF)
 (.brk ⟨[(3,(pi 0)),(2,pF)],[(1,(.mk [r0]))]⟩
(asd b)
 (.ret pT)))
def am9 (b:Nat→PC):PT×List (Shp×PT):=(WS b,[(.lp 0 [2,3,14,15,16,17,18] [] [2,3] [],F9 b)])
theorem R9:zD.map told=some (am9 (bl zD)):=by kernel_rfl
theorem ayM:tree (ab zD)=WS OO:=bE R9
theorem Un:round 0 [2,3,14,15,16,17,18] [] [2,3] [] (OO 0)=F9 OO:=aT R9 0 fun _=>rfl
def IF:Option PC:=cF [2] [] Tryz.f104 104 [1]
def WL:PT:=
 (.call ⟨[],[]⟩ [] 4 147 [Fe,(pi 100),(pi 20)]
 (.ret (bD r4 (pi 0))))
theorem aeN:IF.map told=some (WL,[]):=by kernel_rfl
theorem ayz:tree (ab IF)=WL:=aF aeN
def wB:Option PC:=cF [6,1,7] [] Tryz.f147 147 [3]
def OM:Nat→PC:=aZ wB
def asb (b:Nat→PC):PC:=.block 0 [1,7,12,13,14,15,16,17,20] [] (.loop [1,7] [] (b 0))
def F7 (b:Nat→PC):PT:=
 (.ite (.pick (ao r7 oH) (bD r1 (pi 0)) pF)
 (.blockS ⟨[],[]⟩ 1 [1,23,24,25,26,27,28,29,30,31] []
 (.chk (aq (pc o3 2) r7)
 (.call ⟨[],[]⟩ [] 31 147 [(pn (pc o3 2) r7),r1,(aS r2 (pi 1))]
 (.next ⟨[(1,lj)],[]⟩)))
 (.next ⟨[(7,xZ)],[]⟩))
 (.exit 0 ⟨[(12,r7),(13,pN),(14,(pc o3 2)),(15,oH),(16,(ao r7 oH)),(17,(ao r7 oH)),(20,(.pick (ao r7 oH) (bD r1 (pi 0)) pF))],[]⟩))
def Nt (b:Nat→PC):PT:=
 (.ite (ao r2 (pi 1))
 (.ret (pi (-1)))
 (.brk ⟨[(7,(pi 0)),(1,(aS r1 (pi 1)))],[(3,(.mk [r0]))]⟩
(asb b)
 (.ret r1)))
def am7 (b:Nat→PC):PT×List (Shp×PT):=(Nt b,[(.lp 0 [1,7,12,13,14,15,16,17,20] [] [1,7] [],F7 b)])
theorem R7:wB.map told=some (am7 (bl wB)):=by kernel_rfl
theorem ahY:tree (ab wB)=Nt OM:=bE R7
theorem Ul:round 0 [1,7,12,13,14,15,16,17,20] [] [1,7] [] (OM 0)=F7 OM:=aT R7 0 fun _=>rfl
def Io:Option PC:=cF [2,3] [] Tryz.f25 25 [1]
def Wi:PT:=
 (.call ⟨[],[(1,(.mk [r0]))]⟩ [] 5 58 [fw]
 (.iteS ⟨[(3,r5)],[]⟩ (ae r5 (pi 0)) [3] []
 (.call ⟨[],[]⟩ [] 9 59 [(ah 8 o1)]
 (.next ⟨[(3,r9)],[]⟩))
 (.next ⟨[],[]⟩)
 (.iteS ⟨[],[]⟩ (ae r3 (pi 0)) [3] []
 (.call ⟨[],[]⟩ [] 13 60 [(ah 8 o1)]
 (.next ⟨[(3,cO)],[]⟩))
 (.next ⟨[],[]⟩)
 (.iteS ⟨[],[]⟩ (ae r3 (pi 0)) [3] []
 (.call ⟨[],[]⟩ [] 17 61 [(ah 8 o1)]
 (.next ⟨[(3,fy)],[]⟩))
 (.next ⟨[],[]⟩)
 (.iteS ⟨[],[]⟩ (ae r3 (pi 0)) [3] []
 (.call ⟨[],[]⟩ [] 21 62 [(ah 8 o1)]
 (.next ⟨[(3,iP)],[]⟩))
 (.next ⟨[],[]⟩)
 (.ret r3))))))
theorem aew:Io.map told=some (Wi,[]):=by kernel_rfl
theorem ax1:tree (ab Io)=Wi:=aF aew
def zp:Option PC:=cF [2,3,4,6,7] [] Tryz.f58 58 [1,5,44]
def CR:Nat→PC:=aZ zp
def arR (b:Nat→PC):PC:=.block 0 [2,3,12,13,14,15,16] [] (.loop [2,3] [] (b 0))
def arS (b:Nat→PC):PC:=.block 2 [2,5,6,30,31,32,33,34] [5] (.loop [2,5,6] [5] (b 1))
def FU (b:Nat→PC):PT:=
 (.ite (ao r3 vn)
 (.blockS ⟨[],[]⟩ 1 [2,4,19,20,21,22,23,24] []
 (.call ⟨[],[]⟩ [] 22 105 [(pc o1 0),r3]
 (.ite (aC vq (pi 0))
 (.ret vq)
 (.next ⟨[],[]⟩)))
 (.next ⟨[(3,tH)],[]⟩))
 (.exit 0 ⟨[(12,r3),(13,pN),(14,(pc o1 0)),(15,vn),(16,(ao r3 vn))],[]⟩))
def FV (b:Nat→PC):PT:=
 (.ite (ao r6 lQ)
 (.blockS ⟨[],[]⟩ 3 [2,5,7,38,39,40,41,42,43,44,45,46,47,48,49,50,52,53,54,55,56,57,58,59] [44,5]
 (.chk (aq (pc o1 1) r6)
 (.chk (aX (.llen Th) cq)
 (.call ⟨[(5,pN)],[(5,Th)]⟩ [] 48 105 [Th,r6]
 (.ite (aC ln (pi 0))
 (.ret ln)
 (.chk (aq (pc o1 1) r6)
 (.call ⟨[],[]⟩ [] 58 106 [(ah 8 o1),(pn (pc o1 1) r6)]
 (.ite (.nt BM)
 (.ret (pi 1))
 (.next ⟨[],[]⟩))))))))
 (.next ⟨[(6,x9)],[]⟩))
 (.exit 2 ⟨[(30,r6),(31,pN),(32,(pc o1 1)),(33,lQ),(34,(ao r6 lQ))],[]⟩))
def Ws (b:Nat→PC):PT:=
 (.ite (aP (.llen iO) (pi 8))
 (.ret (pi 6))
 (.brk ⟨[(3,(pi 0)),(2,(pi 0))],[(1,(.mk [r0]))]⟩
(arR b)
 (.ite (aP lQ (pi 40))
 (.ret (pi 6))
 (.brk ⟨[(6,(pi 0)),(5,pN)],[(5,pL)]⟩
(arS b)
 (.ret (pi 0))))))
def amW (b:Nat→PC):PT×List (Shp×PT):=(Ws b,[(.lp 0 [2,3,12,13,14,15,16] [] [2,3] [],FU b),(.lp 2 [2,5,6,30,31,32,33,34] [5] [2,5,6] [5],FV b)])
theorem Lp:zp.map told=some (amW (bl zp)):=by kernel_rfl
theorem ayc:tree (ab zp)=Ws CR:=bE Lp
theorem T9:round 0 [2,3,12,13,14,15,16] [] [2,3] [] (CR 0)=FU CR:=aT Lp 0 fun _=>rfl
theorem Ua:round 2 [2,5,6,30,31,32,33,34] [5] [2,5,6] [5] (CR 1)=FV CR:=aT Lp 1 fun _=>rfl
def It:Option PC:=cF [4] [] Tryz.f105 105 []
def Wu:PT:=
 (.chk (aq r0 r1)
 (.call ⟨[],[]⟩ [] 9 148 [(pn r0 r1)]
 (.ite (.nt r9)
 (.ret (pi 2))
 (.chk (aq r0 r1)
 (.call ⟨[],[]⟩ [] 17 149 [r0,r1,(pn r0 r1)]
 (.ite fy
 (.ret (pi 5))
 (.ret (pi 0))))))))
theorem aeB:It.map told=some (Wu,[]):=by kernel_rfl
theorem aye:tree (ab It)=Wu:=aF aeB
def zk:Option PC:=cF [2,3,4] [] Tryz.f148 148 []
def OD:Nat→PC:=aZ zk
def arL (b:Nat→PC):PC:=.block 0 [2,3,13,14,15,16] [] (.loop [2,3] [] (b 0))
def FM (b:Nat→PC):PT:=
 (.ite (ao r3 (.slen r0))
 (.blockS ⟨[],[]⟩ 1 [2,4,19,20,21,22,23,34,35,36,37,38,39,40,47] []
 (.chk (.sok r0 r3)
 (.chk (.nt (.an (.an (.nt Td) pT) (.nt (.sok r0 r3))))
 (.chk (.nt (.an (.an (aX (.con (.v (.int .u8 48))) (.sidx r0 r3)) (.an (.nt Td) pT)) (.nt (.sok r0 r3))))
 (.call ⟨[(4,(.pick Td pT (.pick (aX (.con (.v (.int .u8 48))) (.sidx r0 r3)) (aX (.sidx r0 r3) (.con (.v (.int .u8 57)))) pF)))],[]⟩ [] 38 173 [(.sidx r0 r3)]
 (.ite (.pick (.nt jd) (.pick (ae r3 (pi 0)) pT (.nt r4)) pF)
 (.ret pF)
 (.next ⟨[],[]⟩))))))
 (.next ⟨[(3,tH)],[]⟩))
 (.exit 0 ⟨[(13,r3),(14,r0),(15,(.slen r0)),(16,(ao r3 (.slen r0)))],[]⟩))
def Wl (b:Nat→PC):PT:=
 (.ite (.pick (ao (.slen r0) (pi 1)) pT (aP (.slen r0) (pi 20)))
 (.ret pF)
 (.brk ⟨[(3,(pi 0)),(2,pF)],[]⟩
(arL b)
 (.ret pT)))
def amR (b:Nat→PC):PT×List (Shp×PT):=(Wl b,[(.lp 0 [2,3,13,14,15,16] [] [2,3] [],FM b)])
theorem RZ:zk.map told=some (amR (bl zk)):=by kernel_rfl
theorem ax5:tree (ab zk)=Wl OD:=bE RZ
theorem T3:round 0 [2,3,13,14,15,16] [] [2,3] [] (OD 0)=FM OD:=aT RZ 0 fun _=>rfl
def Iq:Option PC:=cF [2] [] Tryz.f173 173 []
def Wk:PT:=
 (.ret (.pick (.pick (aX (.con (.v (.int .u8 97))) r0) (aX r0 (.con (.v (.int .u8 122)))) pF) pT (.pick (aX (.con (.v (.int .u8 65))) r0) (aX r0 (.con (.v (.int .u8 90)))) pF)))
theorem aey:Iq.map told=some (Wk,[]):=by kernel_rfl
theorem ax4:tree (ab Iq)=Wk:=aF aey
def zi:Option PC:=cF [6,7] [] Tryz.f149 149 []
def OC:Nat→PC:=aZ zi
def arH (b:Nat→PC):PC:=.block 0 [6,7,8,9,10,11,16] [] (.loop [6,7] [] (b 0))
def FK (b:Nat→PC):PT:=
 (.ite (.pick (ao r7 r1) (ao r7 (.llen r0)) pF)
 (.chk (aq r0 r7)
 (.ite (.cs .eql (pn r0 r7) r2)
 (.ret pT)
 (.next ⟨[(7,xZ)],[]⟩)))
 (.exit 0 ⟨[(8,r7),(9,r1),(10,(ao r7 r1)),(11,(ao r7 r1)),(16,(.pick (ao r7 r1) (ao r7 (.llen r0)) pF))],[]⟩))
def Wh (b:Nat→PC):PT:=
 (.brk ⟨[(7,(pi 0)),(6,pF)],[]⟩
(arH b)
 (.ret pF))
def amP (b:Nat→PC):PT×List (Shp×PT):=(Wh b,[(.lp 0 [6,7,8,9,10,11,16] [] [6,7] [],FK b)])
theorem RY:zi.map told=some (amP (bl zi)):=by kernel_rfl
theorem ax0:tree (ab zi)=Wh OC:=bE RY
theorem T2:round 0 [6,7,8,9,10,11,16] [] [6,7] [] (OC 0)=FK OC:=aT RY 0 fun _=>rfl
def zl:Option PC:=cF [4,5] [] Tryz.f106 106 [2,3]
def OE:Nat→PC:=aZ zl
def arM (b:Nat→PC):PC:=.block 0 [4,5,36,37,38,39,40] [] (.loop [4,5] [] (b 0))
def FN (b:Nat→PC):PT:=
 (.ite (ao r5 BC)
 (.blockS ⟨[],[]⟩ 1 [4,43,44,45,46,47,48,49,50,51,60] []
 (.chk (aq (pc o3 4) r5)
 (.chk yf
 (.call ⟨[],[]⟩ [] 49 107 [(.ai .quo .i64 (pn (pc o3 4) r5) (pi 100)),(pi 1),(pi 12)]
 (.chk (.nt (.an (.an (.nt (.nt mI)) pT) (.nt (aq (pc o3 4) r5))))
 (.chk (.nt (.an (.an (.nt (.nt mI)) pT) (.nt yf)))
 (.call ⟨[(51,(.nt mI))],[]⟩ [(51,false)] 58 107 [(.ai .rem .i64 (pn (pc o3 4) r5) (pi 100)),(pi 1),(pi 31)]
 (.ite (.pick mJ pT (.nt BM))
 (.ret pF)
 (.next ⟨[],[]⟩))))))))
 (.next ⟨[(5,oK)],[]⟩))
 (.exit 0 ⟨[(36,r5),(37,pN),(38,(pc o3 4)),(39,BC),(40,(ao r5 BC))],[]⟩))
def Wn (b:Nat→PC):PT:=
 (.call ⟨[(4,pF)],[(3,(.mk [r1])),(2,(.mk [r0]))]⟩ [] 12 107 [vl,(pi 0),(aS (.llen xX) (pi 1))]
 (.call ⟨[(14,(.nt bQ))],[]⟩ [(14,false)] 21 107 [(pc o3 2),(pi 0),(aS (.llen (pc o2 0)) (pi 1))]
 (.ite (.pick (.pick (.pick bH pT (.nt iP)) pT (aP BC (pi 60))) pT (aP (.llen (pc o3 5)) (pi 200)))
 (.ret pF)
 (.brk ⟨[(5,(pi 0))],[]⟩
(arM b)
 (.call ⟨[],[]⟩ [] 63 150 [(pc o3 3),(pi 0),(pi 6)]
 (.call ⟨[(64,yi)],[]⟩ [(64,true)] 67 150 [(pc o3 4),(pi 0),(pi 2000)]
 (.call ⟨[(69,(.pick kG rB pF))],[]⟩ [(69,true)] 72 150 [(pc o3 5),(pi 0),(pi 100000)]
 (.ret (.pick tL yj pF)))))))))
def amS (b:Nat→PC):PT×List (Shp×PT):=(Wn b,[(.lp 0 [4,5,36,37,38,39,40] [] [4,5] [],FN b)])
theorem R0:zl.map told=some (amS (bl zl)):=by kernel_rfl
theorem ax7:tree (ab zl)=Wn OE:=bE R0
theorem T4:round 0 [4,5,36,37,38,39,40] [] [4,5] [] (OE 0)=FN OE:=aT R0 0 fun _=>rfl
def Is:Option PC:=cF [6] [] Tryz.f107 107 []
def Wr:PT:=
 (.ret (.pick (aX r1 r0) (aX r0 r2) pF))
theorem aeA:Is.map told=some (Wr,[]):=by kernel_rfl
theorem ayb:tree (ab Is)=Wr:=aF aeA
def zn:Option PC:=cF [6,7] [] Tryz.f150 150 []
def OF:Nat→PC:=aZ zn
def arP (b:Nat→PC):PC:=.block 0 [6,7,8,9,10,11] [] (.loop [6,7] [] (b 0))
def FQ (b:Nat→PC):PT:=
 (.ite (ao r7 (.llen r0))
 (.blockS ⟨[],[]⟩ 1 [6,14,15,16,17,18,19,20,21,22,23,24,35] []
 (.chk (aq r0 r7)
 (.call ⟨[],[]⟩ [] 20 107 [(pn r0 r7),r1,r2]
 (.ite (.nt dU)
 (.ret pF)
 (.chk (.nt (.an (.an (aP r7 (pi 0)) pT) (.nt (aq r0 (aS r7 (pi 1))))))
 (.chk (.nt (.an (.an (aP r7 (pi 0)) pT) (.nt (aq r0 r7))))
 (.ite (.pick (aP r7 (pi 0)) (bD (pn r0 (aS r7 (pi 1))) (pn r0 r7)) pF)
 (.ret pF)
 (.next ⟨[],[]⟩)))))))
 (.next ⟨[(7,xZ)],[]⟩))
 (.exit 0 ⟨[(8,r7),(9,r0),(10,(.llen r0)),(11,(ao r7 (.llen r0)))],[]⟩))
def Wp (b:Nat→PC):PT:=
 (.brk ⟨[(7,(pi 0)),(6,pF)],[]⟩
(arP b)
 (.ret pT))
def amU (b:Nat→PC):PT×List (Shp×PT):=(Wp b,[(.lp 0 [6,7,8,9,10,11] [] [6,7] [],FQ b)])
theorem R1:zn.map told=some (amU (bl zn)):=by kernel_rfl
theorem ax9:tree (ab zn)=Wp OF:=bE R1
theorem T7:round 0 [6,7,8,9,10,11] [] [6,7] [] (OF 0)=FQ OF:=aT R1 0 fun _=>rfl
def zq:Option PC:=cF [2,3,5,6] [] Tryz.f59 59 [1,4,44]
def CS:Nat→PC:=aZ zq
def arT (b:Nat→PC):PC:=.block 0 [2,3,11,12,13,14,15] [] (.loop [2,3] [] (b 0))
def arU (b:Nat→PC):PC:=.block 2 [2,4,5,30,31,32,33,34] [4] (.loop [2,4,5] [4] (b 1))
def FW (b:Nat→PC):PT:=
 (.ite (ao r3 nE)
 (.blockS ⟨[],[]⟩ 1 [2,18,19,20,21,22,23,24,25] []
 (.chk (aq (pc o1 2) r3)
 (.call ⟨[],[]⟩ [] 24 107 [(pc (pn (pc o1 2) r3) 0),(pi 0),(pi 9)]
 (.ite (.nt lh)
 (.ret (pi 1))
 (.next ⟨[],[]⟩))))
 (.next ⟨[(3,tH)],[]⟩))
 (.exit 0 ⟨[(11,r3),(12,pN),(13,(pc o1 2)),(14,nE),(15,(ao r3 nE))],[]⟩))
def FX (b:Nat→PC):PT:=
 (.ite (ao r5 nD)
 (.blockS ⟨[],[]⟩ 3 [2,4,6,38,39,40,41,42,43,44,45,46,47,48,49,50,52,53,54,55,56,57,58,59,60,61,62,63,64,77] [44,4]
 (.chk (aq (pc o1 3) r5)
 (.chk (aX (.llen Ti) cq)
 (.call ⟨[(4,pN)],[(4,Ti)]⟩ [] 48 105 [Ti,r5]
 (.ite (aC ln (pi 0))
 (.ret ln)
 (.chk (aq (pc o1 3) r5)
 (.call ⟨[],[]⟩ [] 62 107 [(pc (pn (pc o1 3) r5) 1),(pi 0),(aS lQ (pi 1))]
 (.chk (.nt (.an (.an (.nt (.nt kF)) pT) (.nt (aq (pc o1 3) r5))))
 (.call ⟨[(64,(.nt kF))],[]⟩ [(64,false)] 75 107 [(pc (pn (pc o1 3) r5) 2),(pi 0),(aS nE (pi 1))]
 (.ite (.pick kG pT (.nt Fz))
 (.ret (pi 1))
 (.next ⟨[],[]⟩))))))))))
 (.next ⟨[(5,oK)],[]⟩))
 (.exit 2 ⟨[(30,r5),(31,pN),(32,(pc o1 3)),(33,nD),(34,(ao r5 nD))],[]⟩))
def Wt (b:Nat→PC):PT:=
 (.ite (aP qk (pi 20))
 (.ret (pi 6))
 (.brk ⟨[(3,(pi 0)),(2,(pi 0))],[(1,(.mk [r0]))]⟩
(arT b)
 (.ite (aP nD (pi 200))
 (.ret (pi 6))
 (.brk ⟨[(5,(pi 0)),(4,pN)],[(4,pL)]⟩
(arU b)
 (.ret (pi 0))))))
def amX (b:Nat→PC):PT×List (Shp×PT):=(Wt b,[(.lp 0 [2,3,11,12,13,14,15] [] [2,3] [],FW b),(.lp 2 [2,4,5,30,31,32,33,34] [4] [2,4,5] [4],FX b)])
theorem Lq:zq.map told=some (amX (bl zq)):=by kernel_rfl
theorem ayd:tree (ab zq)=Wt CS:=bE Lq
theorem Ub:round 0 [2,3,11,12,13,14,15] [] [2,3] [] (CS 0)=FW CS:=aT Lq 0 fun _=>rfl
theorem Uc:round 2 [2,4,5,30,31,32,33,34] [4] [2,4,5] [4] (CS 1)=FX CS:=aT Lq 1 fun _=>rfl
def zr:Option PC:=cF [2,4,5] [] Tryz.f60 60 [1,3,24]
def OH:Nat→PC:=aZ zr
def arV (b:Nat→PC):PC:=.block 0 [2,3,4,10,11,12,13,14] [3] (.loop [2,3,4] [3] (b 0))
def FY (b:Nat→PC):PT:=
 (.ite (ao r4 oI)
 (.blockS ⟨[],[]⟩ 1 [2,3,5,18,19,20,21,22,23,24,25,26,27,28,29,30,32,33,34,35,36,37,38] [24,3]
 (.chk (aq (pc o1 4) r4)
 (.chk (aX (.llen (.app o3 (.lst [(pc xV 0)]))) cq)
 (.call ⟨[(3,pN)],[(3,(.app o3 (.lst [(pc xV 0)])))]⟩ [] 28 105 [(.app o3 (.lst [(pc xV 0)])),r4]
 (.ite (aC gK (pi 0))
 (.ret gK)
 (.chk (aq (pc o1 4) r4)
 (.call ⟨[],[]⟩ [] 37 108 [xV]
 (.ite (.nt lR)
 (.ret (pi 1))
 (.next ⟨[],[]⟩))))))))
 (.next ⟨[(4,(aH r4 (pi 1)))],[]⟩))
 (.exit 0 ⟨[(10,r4),(11,pN),(12,(pc o1 4)),(13,oI),(14,(ao r4 oI))],[]⟩))
def Wv (b:Nat→PC):PT:=
 (.ite (aP (.llen xX) (pi 20))
 (.ret (pi 6))
 (.brk ⟨[(4,(pi 0)),(3,pN),(2,(pi 0))],[(3,pL),(1,(.mk [r0]))]⟩
(arV b)
 (.ret (pi 0))))
def amY (b:Nat→PC):PT×List (Shp×PT):=(Wv b,[(.lp 0 [2,3,4,10,11,12,13,14] [3] [2,3,4] [3],FY b)])
theorem R3:zr.map told=some (amY (bl zr)):=by kernel_rfl
theorem ayf:tree (ab zr)=Wv OH:=bE R3
theorem Ud:round 0 [2,3,4,10,11,12,13,14] [3] [2,3,4] [3] (OH 0)=FY OH:=aT R3 0 fun _=>rfl
def zm:Option PC:=cF [2,3,4] [] Tryz.f108 108 [1]
def CQ:Nat→PC:=aZ zm
def arN (b:Nat→PC):PC:=.block 0 [2,3,5,6,7,8,9] [] (.loop [2,3] [] (b 0))
def arO (b:Nat→PC):PC:=.block 2 [2,4,48,49,50,51,52] [] (.loop [2,4] [] (b 1))
def FO (b:Nat→PC):PT:=
 (.ite (ao r3 nE)
 (.blockS ⟨[],[]⟩ 1 [2,12,13,14,15,16,17,18,19,20,29,30,31,32,47] []
 (.chk (aq (pc o1 2) r3)
 (.call ⟨[],[]⟩ [] 18 107 [(pc (pn (pc o1 2) r3) 0),(pi 0),(pi 21)]
 (.chk (.nt (.an (.an (.nt (.nt fW)) pT) (.nt (aq (pc o1 2) r3))))
 (.call ⟨[(20,(.nt fW))],[]⟩ [(20,false)] 27 107 [(pc (pn (pc o1 2) r3) 1),(pi 0),(pi 4)]
 (.ite (.pick dU pT (.nt eG))
 (.ret pF)
 (.chk (.nt (.an (.an (aP r3 (pi 0)) pT) (.nt (aq (pc o1 2) (aS r3 (pi 1))))))
 (.chk (.nt (.an (.an (aP r3 (pi 0)) pT) (.nt (aq (pc o1 2) r3))))
 (.ite (.pick (aP r3 (pi 0)) (bD (pc (pn (pc o1 2) (aS r3 (pi 1))) 0) (pc (pn (pc o1 2) r3) 0)) pF)
 (.ret pF)
 (.next ⟨[],[]⟩)))))))))
 (.next ⟨[(3,tH)],[]⟩))
 (.exit 0 ⟨[(5,r3),(6,pN),(7,(pc o1 2)),(8,nE),(9,(ao r3 nE))],[]⟩))
def FP (b:Nat→PC):PT:=
 (.ite (ao r4 nD)
 (.blockS ⟨[],[]⟩ 3 [2,55,56,57,58,59,60,61,62,63,64,65,80] []
 (.chk (aq (pc o1 3) r4)
 (.call ⟨[],[]⟩ [] 61 107 [(pc (pn (pc o1 3) r4) 0),(pi 0),(pi 21)]
 (.ite (.nt vu)
 (.ret pF)
 (.chk (.nt (.an (.an (aP r4 (pi 0)) pT) (.nt (aq (pc o1 3) (aS r4 (pi 1))))))
 (.chk (.nt (.an (.an (aP r4 (pi 0)) pT) (.nt (aq (pc o1 3) r4))))
 (.ite (.pick (aP r4 (pi 0)) (bD (pc (pn (pc o1 3) (aS r4 (pi 1))) 0) (pc (pn (pc o1 3) r4) 0)) pF)
 (.ret pF)
 (.next ⟨[],[]⟩)))))))
 (.next ⟨[(4,(aH r4 (pi 1)))],[]⟩))
 (.exit 2 ⟨[(48,r4),(49,pN),(50,(pc o1 3)),(51,nD),(52,(ao r4 nD))],[]⟩))
def Wo (b:Nat→PC):PT:=
 (.brk ⟨[(3,(pi 0)),(2,pF)],[(1,(.mk [r0]))]⟩
(arN b)
 (.brk ⟨[(4,(pi 0))],[]⟩
(arO b)
 (.ret pT)))
def amT (b:Nat→PC):PT×List (Shp×PT):=(Wo b,[(.lp 0 [2,3,5,6,7,8,9] [] [2,3] [],FO b),(.lp 2 [2,4,48,49,50,51,52] [] [2,4] [],FP b)])
theorem Lo:zm.map told=some (amT (bl zm)):=by kernel_rfl
theorem ax8:tree (ab zm)=Wo CQ:=bE Lo
theorem T5:round 0 [2,3,5,6,7,8,9] [] [2,3] [] (CQ 0)=FO CQ:=aT Lo 0 fun _=>rfl
theorem T6:round 2 [2,4,48,49,50,51,52] [] [2,4] [] (CQ 1)=FP CQ:=aT Lo 1 fun _=>rfl
def zu:Option PC:=cF [2,3,5] [] Tryz.f61 61 [1,4]
def CU:Nat→PC:=aZ zu
def arY (b:Nat→PC):PC:=.block 2 [2,5,46,47,48] [] (.loop [2,5] [] (b 0))
def arZ (b:Nat→PC):PC:=.block 0 [2,3,10,11,12,13,14] [] (.loop [2,3] [] (b 1))
def BO (b:Nat→PC):PT:=
 (.ite (ao r5 r3)
 (.chk (aq (pc o1 5) r5)
 (.chk (.nt (.an (.an (ae (pc (pn (pc o1 5) r5) 0) (pc o4 0)) pT) (.nt (aq (pc o1 5) r5))))
 (.ite (.pick (ae (pc (pn (pc o1 5) r5) 0) (pc o4 0)) (ae (pc (pn (pc o1 5) r5) 1) (pc o4 1)) pF)
 (.ret (pi 5))
 (.next ⟨[(5,oK)],[]⟩))))
 (.exit 2 ⟨[(46,r5),(47,r3),(48,(ao r5 r3))],[]⟩))
def F1 (b:Nat→PC):PT:=
 (.ite (ao r3 BE)
 (.blockS ⟨[(14,(ao r3 BE)),(13,BE),(12,(pc o1 5)),(11,pN),(10,r3)],[]⟩ 1 [2,4,5,17,18,19,20,21,22,23,24,25,26,27,28,29,30,39,40,45,46,47,48] [4]
 (.chk (aq (pc o1 5) r3)
 (.call ⟨[],[(4,(.setc z3 0 (pn (pc o1 5) r3)))]⟩ [] 28 107 [(pc (.setc z3 0 (pn (pc o1 5) r3)) 0),(pi 0),(aS lQ (pi 1))]
 (.call ⟨[(30,(.nt gK))],[]⟩ [(30,false)] 37 107 [(pc o4 1),(pi 0),(aS lQ (pi 1))]
 (.call ⟨[(40,(.pick jG pT (.nt lR)))],[]⟩ [(40,false)] 43 107 [(pc o4 2),(pi 1),(pi 20000)]
 (.ite (.pick lS pT (.nt rz))
 (.ret (pi 1))
 (.brk ⟨[(5,(pi 0))],[]⟩
(arY b)
 (.next ⟨[],[]⟩)))))))
 (.next ⟨[(3,tH)],[]⟩))
 (.exit 0 ⟨[(10,r3),(11,pN),(12,(pc o1 5)),(13,BE),(14,(ao r3 BE))],[]⟩))
def Wx (b:Nat→PC):PT:=
 (.ite (aP (.llen vm) (pi 100))
 (.ret (pi 6))
 (.brk ⟨[(3,(pi 0)),(2,(pi 0))],[(1,(.mk [r0]))]⟩
(arZ b)
 (.ret (pi 0))))
def am0 (b:Nat→PC):PT×List (Shp×PT):=(Wx b,[(.lp 2 [2,5,46,47,48] [] [2,5] [],BO b),(.lp 0 [2,3,10,11,12,13,14] [] [2,3] [],F1 b)])
theorem Ls:zu.map told=some (am0 (bl zu)):=by kernel_rfl
theorem ayh:tree (ab zu)=Wx CU:=bE Ls
theorem Mw:round 2 [2,5,46,47,48] [] [2,5] [] (CU 0)=BO CU:=aT Ls 0 fun _=>rfl
theorem Ug:round 0 [2,3,10,11,12,13,14] [] [2,3] [] (CU 1)=F1 CU:=aT Ls 1 fun _=>rfl
def zt:Option PC:=cF [2,3,5] [] Tryz.f62 62 [1,4,6]
def CT:Nat→PC:=aZ zt
def arW (b:Nat→PC):PC:=.block 0 [2,3,11,12,13,14,15] [] (.loop [2,3] [] (b 0))
def arX (b:Nat→PC):PC:=.block 2 [2,5,68,69,70,71,72] [] (.loop [2,5] [] (b 1))
def FZ (b:Nat→PC):PT:=
 (.ite (ao r3 (.llen (pc o1 6)))
 (.blockS ⟨[],[]⟩ 1 [2,4,18,19,20,21,22,23,24,25,26,27,28,29,30,31,40,41,47,48,49,50,51,52,57,58,63] [4]
 (.chk (aq (pc o1 6) r3)
 (.call ⟨[],[(4,(.setc z5 0 (pn (pc o1 6) r3)))]⟩ [] 29 107 [(pc (.setc z5 0 (pn (pc o1 6) r3)) 0),(pi 0),(aS vn (pi 1))]
 (.call ⟨[(31,(.nt jF))],[]⟩ [(31,false)] 38 107 [(pc o4 1),(pi 0),(aS vn (pi 1))]
 (.ite (.pick (.pick lj pT (.nt jd)) pT (ae (pc o4 0) (pc o4 1)))
 (.ret (pi 1))
 (.call ⟨[],[]⟩ [] 50 107 [(pc o4 2),(pi 1),(pi 1073741824)]
 (.call ⟨[(52,(.nt gZ))],[]⟩ [(52,false)] 55 107 [(pc o4 3),(pi 1),(pi 1073741824)]
 (.call ⟨[(58,(.pick tJ pT (.nt vt)))],[]⟩ [(58,false)] 61 107 [(pc o4 4),(pi 0),(pi 100000)]
 (.ite (.pick BM pT (.nt vu))
 (.ret (pi 1))
 (.next ⟨[],[]⟩)))))))))
 (.next ⟨[(3,tH)],[]⟩))
 (.exit 0 ⟨[(11,r3),(12,pN),(13,(pc o1 6)),(14,(.llen (pc o1 6))),(15,(ao r3 (.llen (pc o1 6))))],[]⟩))
def F0 (b:Nat→PC):PT:=
 (.ite (ao r5 xY)
 (.blockS ⟨[],[]⟩ 3 [2,6,75,76,77,78,79,80,81,82,83,84,85,86,87,88,95,96,100] [6]
 (.chk (aq (pc o1 7) r5)
 (.call ⟨[],[(6,(.setc z3 0 (pn (pc o1 7) r5)))]⟩ [] 86 107 [(pc (.setc z3 0 (pn (pc o1 7) r5)) 0),(pi 0),(aS oI (pi 1))]
 (.call ⟨[(88,(.nt TK))],[]⟩ [(88,false)] 93 107 [(pc o6 1),(pi 0),(pc o6 2)]
 (.ite (.pick (.pick Mg pT (.nt Mh)) pT (aP (pc o6 2) (pi 100000)))
 (.ret (pi 1))
 (.next ⟨[],[]⟩)))))
 (.next ⟨[(5,oK)],[]⟩))
 (.exit 2 ⟨[(68,r5),(69,pN),(70,(pc o1 7)),(71,xY),(72,(ao r5 xY))],[]⟩))
def Ww (b:Nat→PC):PT:=
 (.ite (aP (.llen (pc (.mk [r0]) 6)) (pi 100))
 (.ret (pi 6))
 (.brk ⟨[(3,(pi 0)),(2,(pi 0))],[(1,(.mk [r0]))]⟩
(arW b)
 (.ite (aP xY (pi 20))
 (.ret (pi 6))
 (.brk ⟨[(5,(pi 0))],[]⟩
(arX b)
 (.ret (pi 0))))))
def amZ (b:Nat→PC):PT×List (Shp×PT):=(Ww b,[(.lp 0 [2,3,11,12,13,14,15] [] [2,3] [],FZ b),(.lp 2 [2,5,68,69,70,71,72] [] [2,5] [],F0 b)])
theorem Lr:zt.map told=some (amZ (bl zt)):=by kernel_rfl
theorem ayg:tree (ab zt)=Ww CT:=bE Lr
theorem Ue:round 0 [2,3,11,12,13,14,15] [] [2,3] [] (CT 0)=FZ CT:=aT Lr 0 fun _=>rfl
theorem Uf:round 2 [2,5,68,69,70,71,72] [] [2,5] [] (CT 1)=F0 CT:=aT Lr 1 fun _=>rfl
def wz:Option PC:=cF [4,5,6,7,8,11] [] Tryz.f17 17 [2,3,10]
def CM:Nat→PC:=aZ wz
def aru (b:Nat→PC):PC:=.block 0 [4,48,49] [] (.loop [4,48] [] (b 0))
def arv (b:Nat→PC):PC:=.block 2 [4,8,62,63] [] (.loop [4,8,62] [] (b 1))
def FF (b:Nat→PC):PT:=
 (.ite (ao ln BK)
 (.blockS ⟨[],[]⟩ 1 [4,6,7,50,51,52,53,54,55,56] []
 (.call ⟨[],[]⟩ [] 54 39 [(ah 8 o2),(ah 19 o3),ln]
 (.ite (aC ql (pi 0))
 (.ret ql)
 (.next ⟨[],[]⟩)))
 (.next ⟨[(48,(aH ln (pi 1)))],[]⟩))
 (.exit 0 ⟨[(49,(ao ln BK))],[]⟩))
def FG (b:Nat→PC):PT:=
 (.ite (ao kF vu)
 (.blockS ⟨[],[]⟩ 3 [4,8,10,64,65,66,67,68,69,70,71,72,73,74,75,76,77,78,79,80] [10]
 (.chk (aq tK kF)
 (.call ⟨[],[(10,(.setc z2 0 (pn tK kF)))]⟩ [] 73 40 [(pc (.setc z2 0 (pn tK kF)) 0),oJ,(.llen (pc o3 15))]
 (.ite (.nt rC)
 (.ret (pi 1))
 (.call ⟨[],[]⟩ [] 77 40 [(pc bY 1),(pi 1),qg]
 (.ite (.nt TJ)
 (.ret (pi 3))
 (.next ⟨[(8,(pc bY 0))],[]⟩))))))
 (.next ⟨[(62,(aH kF (pi 1)))],[]⟩))
 (.exit 2 ⟨[(63,(ao kF vu))],[]⟩))
def VZ (b:Nat→PC):PT:=
 (.ite (.pick (.pick (.pick (aP (.llen (pc (.mk [r1]) 15)) (pi 40)) pT (aP (.llen (pc (.mk [r1]) 16)) (pi 4))) pT (aP (.llen (pc (.mk [r1]) 17)) (pi 100))) pT (aP (.llen (pc (.mk [r1]) 18)) (pi 200)))
 (.ret (pi 6))
 (.call ⟨[(4,(pi 0))],[(3,(.mk [r1])),(2,(.mk [r0]))]⟩ [] 37 38 [fw,(ah 15 (.mk [r1]))]
 (.ite (aC lR (pi 0))
 (.ret lR)
 (.ite (ae (.llen (pc o3 15)) (pi 0))
 (.ret (pi 14))
 (.brk ⟨[(48,(pi 0)),(47,(.llen (pc o3 15)))],[]⟩
(aru b)
 (.brk ⟨[(62,(pi 0)),(61,(.llen (pc o3 16))),(60,(pc o3 16)),(8,(pi 0))],[]⟩
(arv b)
 (.call ⟨[],[]⟩ [] 84 41 [(ah 8 o2),(ah 19 o3)]
 (.ite (aC r84 (pi 0))
 (.ret r84)
 (.call ⟨[],[]⟩ [] 89 42 [(ah 19 o3)]
 (.ret r89))))))))))
def amG (b:Nat→PC):PT×List (Shp×PT):=(VZ b,[(.lp 0 [4,48,49] [] [4,48] [],FF b),(.lp 2 [4,8,62,63] [] [4,8,62] [],FG b)])
theorem Lj:wz.map told=some (amG (bl wz)):=by kernel_rfl
theorem axG:tree (ab wz)=VZ CM:=bE Lj
theorem TV:round 0 [4,48,49] [] [4,48] [] (CM 0)=FF CM:=aT Lj 0 fun _=>rfl
theorem TW:round 2 [4,8,62,63] [] [4,8,62] [] (CM 1)=FG CM:=aT Lj 1 fun _=>rfl
def Dg:Option PC:=cF [4,5,6,7,8,54,80,109,118,9,10] [] Tryz.f38 38 [2,3]
def XY:PT:=
 (.call ⟨[],[(3,(.mk [r1])),(2,(.mk [r0]))]⟩ [] 12 74 [fw]
 (.ite (aC bQ (pi 0))
 (.ret bQ)
 (.call ⟨[(7,(.llen (pc o2 1))),(6,(.llen (pc o2 3)))],[]⟩ [] 25 81 [(pc o3 0),(.llen (pc o2 3))]
 (.call ⟨[(26,dV)],[]⟩ [(26,true)] 30 81 [(pc o3 1),r6]
 (.call ⟨[(36,(ae (pc o3 2) (pi (-1)))),(32,(.pick jE jG pF))],[]⟩ [(36,false),(32,true)] 40 81 [(pc o3 2),r6]
 (.call ⟨[(47,(ae (pc o3 11) (pi (-1)))),(43,(.pick kE (.pick jH pT lS) pF))],[]⟩ [(47,false),(43,true)] 51 81 [(pc o3 11),r6]
 (.blockS ⟨[(8,(.pick rz (.pick BK pT mJ) pF))],[]⟩ 0 [4,54,55,56,57,65,66,72,73,79,80,81,82,83,84,88,89,93,94,98,99,103,104,108,109,110,111,112,113,117,118,119,120,121,122,126,127,137,138,142] []
 (.call ⟨[(57,(.nt r8))],[]⟩ [(57,false)] 63 81 [(pc o3 4),(.llen (pc o2 0))]
 (.call ⟨[(66,(.pick BL pT (.nt yi)))],[]⟩ [(66,false)] 70 81 [(pc o3 9),r7]
 (.call ⟨[(73,(.pick Mf pT (.nt r70)))],[]⟩ [(73,false)] 77 81 [(pc o3 10),r7]
 (.iteS ⟨[],[]⟩ (.pick rC pT (.nt TJ)) [4,80,81,82,83,84,88,89,93,94,98,99,103,104,108,109,110,111,112,113,117,118,119,120,121,122,126,127,137,138,142] []
 (.ret (pi 1))
 (.iteS ⟨[],[]⟩ (.pick (.pick (.pick (.pick (.pick (ao (pc o3 3) (pi 1)) pT (aP (pc o3 3) qg)) pT (ao (pc o3 8) (pi 0))) pT (aP (pc o3 8) (pi 100000))) pT (ao (pc o3 12) (pi 0))) pT (aP (pc o3 12) (pi 1000))) [4,109,110,111,112,113,117,118,119,120,121,122,126,127,137,138,142] []
 (.ret (pi 3))
 (.iteS ⟨[],[]⟩ (.pick (ao (pc o3 14) (pi 1)) pT (aP (pc o3 14) (pi 4))) [4,118,119,120,121,122,126,127,137,138,142] []
 (.ret (pi 15))
 (.call ⟨[(138,(.pick (.pick (ao (pc o3 13) (pi 0)) pT (aP (pc o3 13) (pi 7))) pT (.pick (aC (.ai .and .i64 (pc o3 13) (pi 4)) (pi 0)) (ae (pc o3 2) (pi (-1))) pF)))],[]⟩ [(138,false)] 140 82 [(ah 15 o3)]
 (.ite (.pick (.r 138) pT (.nt (.r 140)))
 (.ret (pi 2))
 (.next ⟨[],[]⟩)))
 (.next ⟨[],[]⟩))
 (.next ⟨[],[]⟩))
 (.next ⟨[],[]⟩)))))
 (.iteS ⟨[],[]⟩ (ae (pc o3 5) (pi 4)) [4] []
 (.call ⟨[],[]⟩ [] 153 83 [(ah 8 o2),(pc o3 9),(pc o3 10)]
 (.ret (.tget (.r 153) 1)))
 (.next ⟨[],[]⟩)
 (.ret (pi 0))))))))))
theorem afE:Dg.map told=some (XY,[]):=by kernel_rfl
theorem azV:tree (ab Dg)=XY:=aF afE
def Jy:Option PC:=cF [4] [] Tryz.f81 81 []
def XZ:PT:=
 (.ret Tk)
theorem afF:Jy.map told=some (XZ,[]):=by kernel_rfl
theorem azW:tree (ab Jy)=XZ:=aF afF
def Jz:Option PC:=cF [2,8,19,40] [] Tryz.f82 82 [1,3]
def X0:PT:=
 (.ite (.pick (ae (pc lf 0) (pi 0)) (ae (pc lf 0) (pi 0)) (ae (pc lf 0) (pi 4)))
 (.ret (.pick (ae (pc lf 1) (pi 0)) (ae (pc lf 2) (pi 0)) pF))
 (.ite (.pick (ae (pc lf 0) (pi 1)) (ae (pc lf 0) (pi 1)) (ae (pc lf 0) (pi 2)))
 (.ret (.pick (.pick (bD (pc lf 1) (pi 1)) (aX (pc lf 1) (pi 400)) pF) (.pick (ae (pc lf 2) (pi 0)) pT (ae (pc lf 2) (pi 1))) pF))
 (.ite (ae (pc lf 0) (pi 3))
 (.ret (.pick (.pick (bD (pc lf 1) (pc (.mk [r0]) 8)) (aX (pc lf 1) (pi 100000)) pF) (ae (pc lf 2) (pi 0)) pF))
 (.ret pF))))
theorem afG:Jz.map told=some (X0,[]):=by kernel_rfl
theorem azX:tree (ab Jz)=X0:=aF afG
def zc:Option PC:=cF [6,8,9,76,92,98] [] Tryz.f39 39 [3,4,7,11]
def Oy:Nat→PC:=aZ zc
def ary (b:Nat→PC):PC:=.block 0 [8,9,51,52] [] (.loop [8,9,51] [] (b 0))
def Mq (b:Nat→PC):PT:=
 (.ite (ao mJ gZ)
 (.chk (aq mI mJ)
 (.next ⟨[(8,(pc (.setc z9 0 (pn mI mJ)) 6)),(9,(.pick r9 pT (.pick (.pick (ae (pc o7 0) (pi 1)) (ae (pc (.setc z9 0 (pn mI mJ)) 0) (pi 1)) pF) (ae (pc (.setc z9 0 (pn mI mJ)) 1) (pc o7 1)) pF))),(51,(aH mJ (pi 1)))],[]⟩))
 (.exit 0 ⟨[(52,(ao mJ gZ))],[]⟩))
def V6 (b:Nat→PC):PT:=
 (.chk (aq (pc (.mk [r1]) 15) r2)
 (.call ⟨[],[(7,oG),(4,(.mk [r1])),(3,(.mk [r0]))]⟩ [] 23 40 [(pc oG 1),(pi 0),(aS (pc (.mk [r1]) 14) (pi 1))]
 (.ite (.nt eF)
 (.ret (pi 15))
 (.call ⟨[],[]⟩ [] 31 40 [(pc o7 2),(pi 0),LU]
 (.call ⟨[(33,(.nt lj))],[]⟩ [(33,false)] 40 40 [(pc o7 7),(pi 0),(aS (.llen (pc o3 1)) (pi 1))]
 (.ite (.pick nG pT (.nt lS))
 (.ret (pi 1))
 (.chk (.slok (pc o4 15) (pi 0) r2)
 (.brk ⟨[(51,(pi 0)),(50,(.llen (.slc (pc o4 15) (pi 0) r2))),(49,(.slc (pc o4 15) (pi 0) r2)),(9,pF),(8,(pc o4 8))],[]⟩
(ary b)
 (.blockS ⟨[],[]⟩ 2 [6,76,77,78,79,80,81,82,91,92,93,94,95,96,97,98,99] []
 (.call ⟨[],[]⟩ [] 80 40 [(pc o7 6),r8,(pi 100000)]
 (.iteS ⟨[],[]⟩ (.pick (.nt qm) pT (.pick (ae r2 (pi 0)) (aC (pc o7 6) r8) pF)) [6,92,93,94,95,96,97,98,99] []
 (.ret (pi 13))
 (.call ⟨[],[]⟩ [] 96 84 [(ah 8 o3),(ah 19 o4),r2]
 (.ite (.nt Mi)
 (.ret (pi 14))
 (.ite r9
 (.ret (pi 5))
 (.next ⟨[],[]⟩))))
 (.next ⟨[],[]⟩)))
 (.ret (pi 0)))))))))))
def amJ (b:Nat→PC):PT×List (Shp×PT):=(V6 b,[(.lp 0 [8,9,51,52] [] [8,9,51] [],Mq b)])
theorem RU:zc.map told=some (amJ (bl zc)):=by kernel_rfl
theorem axN:tree (ab zc)=V6 Oy:=bE RU
theorem ag5:round 0 [8,9,51,52] [] [8,9,51] [] (Oy 0)=Mq Oy:=aT RU 0 fun _=>rfl
def Ie:Option PC:=cF [6] [] Tryz.f40 40 []
def V5:PT:=
 (.ret (.pick (bD r0 r1) (aX r0 r2) pF))
theorem aeo:Ie.map told=some (V5,[]):=by kernel_rfl
theorem axM:tree (ab Ie)=V5:=aF aeo
def Ic:Option PC:=cF [6,9,10,66,103,113,11,140,149] [] Tryz.f84 84 [3,4,7,8]
def V4:PT:=
 (.chk (aq (pc (.mk [r1]) 15) r2)
 (.ite (.pick (.cb .neq (ae r2 (pi 0)) (ae (pc oG 0) (pi 0))) pT (.pick (aC (pc oG 0) (pi 2)) (aC (pc oG 4) (pi (-1))) pF))
 (.ret pF)
 (.ite (.pick (.pick (aC (pc oG 0) (pi 3)) (aC (pc oG 0) (pi 4)) pF) (aC (pc oG 3) (pi (-1))) pF)
 (.ret pF)
 (.call ⟨[(9,(.pick (ae (pc oG 5) (pi 0)) (ae (pc oG 8) (pi 0)) pF))],[(8,(.setc dD 0 (ah 15 (.mk [r1])))),(7,oG),(4,(.mk [r1])),(3,(.mk [r0]))]⟩ [] 58 40 [(pc oG 5),(pi 1),qg]
 (.blockS ⟨[(65,(pc o7 0)),(10,(.pick BM (ae (pc o7 8) (pi 0)) pF))],[]⟩ 0 [6,66,67,103,104,113,114,140,141,149,150] []
 (.iteS ⟨[],[]⟩ (ae vw (pi 0)) [6,103,104,113,114,140,141,149,150] []
 (.ret (.pick (.pick (.pick (.pick (.pick (ae (pc o7 2) (pc o8 0)) (ae (pc o7 5) (pi 0)) pF) (ae (.ai .or .i64 (pc o7 8) (pi 1)) (pi 1)) pF) (ae (pc o7 1) (pi 0)) pF) (ae (pc o7 6) (pc o8 8)) pF) (ae (pc o7 7) (pc o8 9)) pF))
 (.iteS ⟨[],[]⟩ (ae vw (pi 1)) [6,113,114,140,141,149,150] []
 (.ret (.pick (ae (pc o7 2) (pc o8 1)) bN pF))
 (.iteS ⟨[],[]⟩ (ae vw (pi 2)) [6,140,141,149,150] []
 (.call ⟨[(11,(pi 6))],[]⟩ [] 121 40 [(pc o7 4),(pi (-1)),LU]
 (.call ⟨[(127,(.pick auW (ae (pc o7 5) (pi 0)) pF))],[]⟩ [(127,true)] 130 40 [(pc o7 8),(pi 0),(pi 7)]
 (.ret (.pick (.pick TD (.r 130) pF) (aC (.ai .and .i64 (pc o7 8) bW) bW) pF))))
 (.iteS ⟨[],[]⟩ (ae vw (pi 3)) [6,149,150] []
 (.call ⟨[(143,r9)],[]⟩ [(143,true)] 147 128 [(ah 19 o4),r2,(.lst [(pi 0),(pi 1),(pi 2),(pi 4)])]
 (.ret (.pick (.r 143) (.r 147) pF)))
 (.iteS ⟨[],[]⟩ (ae vw (pi 4)) [6] []
 (.call ⟨[(159,(.pick bN (aC (pc o7 2) (pc o8 1)) pF))],[]⟩ [(159,true)] 163 128 [(ah 19 o4),r2,(.lst [(pi 0),(pi 2)])]
 (.ret (.pick (.r 159) (.r 163) pF)))
 (.next ⟨[],[]⟩)
 (.next ⟨[],[]⟩))
 (.next ⟨[],[]⟩))
 (.next ⟨[],[]⟩))
 (.next ⟨[],[]⟩))
 (.next ⟨[],[]⟩))
 (.ret pF))))))
theorem aen:Ic.map told=some (V4,[]):=by kernel_rfl
theorem axL:tree (ab Ic)=V4:=aF aen
def Ib:Option PC:=cF [6,7] [] Tryz.f128 128 [3]
def V2:PT:=
 (.chk (aq ru r1)
 (.call ⟨[(7,(pc (pn ru r1) 3))],[(3,(.mk [r0]))]⟩ [] 17 40 [(pc (pn ru r1) 3),(pi 0),(aS r1 (pi 1))]
 (.chk (.nt (.an (.an fy pT) (.nt (aq (pc o3 15) r1))))
 (.call ⟨[(18,fy)],[]⟩ [(18,true)] 27 129 [(ah 19 o3),r7,(pc (pn (pc o3 15) r1) 1)]
 (.chk (.nt (.an (.an (.pick fW eG pF) pT) (.nt (aq (pc o3 15) r7))))
 (.call ⟨[(29,(.pick fW eG pF))],[]⟩ [(29,true)] 37 93 [r2,(pc (pn (pc o3 15) r7) 0)]
 (.ret (.pick jF lR pF))))))))
theorem aem:Ib.map told=some (V2,[]):=by kernel_rfl
theorem axJ:tree (ab Ib)=V2:=aF aem
def If:Option PC:=cF [6] [] Tryz.f129 129 [3]
def Nm:PT:=
 (.chk (.nt (.an (.an (.nt (ae r1 (pi 0))) pT) (.nt (aq ru r1))))
 (.ret (.pick (ae r1 (pi 0)) pT (ae (pc (pn ru r1) 1) r2))))
theorem aep:If.map told=some (Nm,[]):=by kernel_rfl
theorem axO:tree (ab If)=Nm:=aF aep
def za:Option PC:=cF [4,5,7] [] Tryz.f41 41 [2,3,6]
def Ow:Nat→PC:=aZ za
def arw (b:Nat→PC):PC:=.block 0 [4,11,12] [] (.loop [4,11] [] (b 0))
def Mo (b:Nat→PC):PT:=
 (.ite (ao bW bN)
 (.blockS ⟨[],[]⟩ 1 [4,5,6,7,13,14,15,16,17,18,19,20,21,22,23,24,25,26,27,28,29,30,31,32,37,38,39,40,41,42,43,44,45,46,47,48,58,59,69,70,71,72,73] [6]
 (.chk (aq r9 bW)
 (.call ⟨[(5,bW)],[(6,(.setc z9 0 (pn r9 bW)))]⟩ [] 22 40 [(pc (.setc z9 0 (pn r9 bW)) 3),(pi 0),(aS (pc o3 14) (pi 1))]
 (.ite (.nt vq)
 (.ret (pi 15))
 (.call ⟨[],[]⟩ [] 30 40 [(pc o6 7),(pi 0),(aS (.llen (pc o2 1)) (pi 1))]
 (.call ⟨[(32,(.nt jG))],[]⟩ [(32,false)] 35 40 [(pc o6 0),(pi 0),(pi 9)]
 (.ite (.pick kE pT (.nt nH))
 (.ret (pi 1))
 (.call ⟨[],[]⟩ [] 41 85 [(ah 8 o2),(ah 19 o3),(ah 9 o6)]
 (.ite (.nt mH)
 (.ret (pi 14))
 (.ite (aC (pc o6 4) (pi (-1)))
 (.chk (aq (pc o3 15) (pc o6 4))
 (.ite (aP r5 (pi 0))
 (.chk (aq (pc o3 17) (aS r5 (pi 1)))
 (.call ⟨[],[]⟩ [] 72 40 [(pc o6 6),(.mx (.mx (pc o3 8) (pc (pn (pc o3 15) (pc o6 4)) 6)) (pc (pn (pc o3 17) (aS r5 (pi 1))) 6)),(pi 100000)]
 (.ite (.nt yj)
 (.ret (pi 13))
 (.next ⟨[],[]⟩))))
 (.call ⟨[],[]⟩ [] 72 40 [(pc o6 6),(.mx (pc o3 8) (pc (pn (pc o3 15) (pc o6 4)) 6)),(pi 100000)]
 (.ite (.nt yj)
 (.ret (pi 13))
 (.next ⟨[],[]⟩)))))
 (.ite (aP r5 (pi 0))
 (.chk (aq (pc o3 17) (aS r5 (pi 1)))
 (.call ⟨[],[]⟩ [] 72 40 [(pc o6 6),(.mx (pc o3 8) (pc (pn (pc o3 17) (aS r5 (pi 1))) 6)),(pi 100000)]
 (.ite (.nt yj)
 (.ret (pi 13))
 (.next ⟨[],[]⟩))))
 (.call ⟨[],[]⟩ [] 72 40 [(pc o6 6),(pc o3 8),(pi 100000)]
 (.ite (.nt yj)
 (.ret (pi 13))
 (.next ⟨[],[]⟩)))))))))))))
 (.next ⟨[(11,(aH bW (pi 1)))],[]⟩))
 (.exit 0 ⟨[(12,(ao bW bN))],[]⟩))
def V1 (b:Nat→PC):PT:=
 (.brk ⟨[(11,(pi 0)),(10,(.llen (pc (.mk [r1]) 17))),(9,(pc (.mk [r1]) 17)),(4,(pi 0))],[(3,(.mk [r1])),(2,(.mk [r0]))]⟩
(arw b)
 (.ret (pi 0)))
def amH (b:Nat→PC):PT×List (Shp×PT):=(V1 b,[(.lp 0 [4,11,12] [] [4,11] [],Mo b)])
theorem RS:za.map told=some (amH (bl za)):=by kernel_rfl
theorem axI:tree (ab za)=V1 Ow:=bE RS
theorem ag3:round 0 [4,11,12] [] [4,11] [] (Ow 0)=Mo Ow:=aT RS 0 fun _=>rfl
def Ia:Option PC:=cF [6,7,8,9,65,80,100,111] [] Tryz.f85 85 [3,4,5]
def V0:PT:=
 (.call ⟨[],[(5,(.mk [r2])),(4,(.mk [r1])),(3,(.mk [r0]))]⟩ [] 16 40 [(pc (.mk [r2]) 4),(pi 0),(aS (.llen (pc (.mk [r1]) 15)) (pi 1))]
 (.call ⟨[(17,dA)],[]⟩ [(17,true)] 23 129 [(ah 19 o4),(pc o5 4),(pc o5 3)]
 (.chk (.nt (.an (.an (.pick fy eF pF) pT) (.nt (aq (pc o4 15) (pc o5 4)))))
 (.call ⟨[(8,(.pick (.pick fy eF pF) (ae (pc (pn (pc o4 15) (pc o5 4)) 2) (pc o5 1)) pF)),(7,(.pick fy eF pF))],[]⟩ [] 44 40 [(pc o5 2),(pi 0),LU]
 (.call ⟨[(9,yh)],[]⟩ [] 51 40 [(pc o5 1),(pi 0),LU]
 (.ite (.pick (.nt mJ) pT (.pick (aC (pc o5 0) (pi 4)) (aC (pc o5 8) (pi 0)) pF))
 (.ret pF)
 (.blockS ⟨[(64,(pc o5 0))],[]⟩ 0 [6,65,66,80,81,100,101,111,112] []
 (.iteS ⟨[],[]⟩ (.pick (ae kG (pi 0)) (ae kG (pi 0)) (.pick (ae kG (pi 1)) (ae kG (pi 1)) (ae kG (pi 2)))) [6,80,81,100,101,111,112] []
 (.ret (.pick (.pick r9 (ae (pc o5 4) (pi (-1))) pF) (ae (pc o5 5) (pi 0)) pF))
 (.iteS ⟨[],[]⟩ (.pick (ae kG (pi 3)) (ae kG (pi 3)) (.pick (ae kG (pi 5)) (ae kG (pi 5)) (ae kG (pi 4)))) [6,100,101,111,112] []
 (.call ⟨[(90,(.pick r9 (ae (pc o5 4) (pi (-1))) pF))],[]⟩ [(90,true)] 93 40 [(pc o5 5),(pi 0),qg]
 (.call ⟨[(95,(.pick r90 Mh pF))],[]⟩ [(95,true)] 98 40 [(pc o5 8),(pi 0),(pi 1)]
 (.ret (.pick r95 r98 pF))))
 (.iteS ⟨[],[]⟩ (ae kG (pi 6)) [6,111,112] []
 (.call ⟨[(106,(.pick r9 r8 pF))],[]⟩ [(106,true)] 109 40 [(pc o5 5),(pi 1),qg]
 (.ret (.pick TC auR pF)))
 (.ite (ae kG (pi 9))
 (.ret (.pick (.pick (ae (pc o5 2) (pi (-1))) r8 pF) (ae (pc o5 5) (pi 0)) pF))
 (.next ⟨[],[]⟩))
 (.next ⟨[],[]⟩))
 (.next ⟨[],[]⟩))
 (.next ⟨[],[]⟩))
 (.ret (.pick (.pick (ae (pc o5 2) (pi (-1))) r7 pF) (ae (pc o5 5) (pi 0)) pF)))))))))
theorem ael:Ia.map told=some (V0,[]):=by kernel_rfl
theorem axH:tree (ab Ia)=V0:=aF ael
def zb:Option PC:=cF [2,3] [] Tryz.f42 42 [1,4,5,52]
def Ox:Nat→PC:=aZ zb
def arx (b:Nat→PC):PC:=.block 0 [2,9,10] [] (.loop [2,9] [] (b 0))
def Mp (b:Nat→PC):PT:=
 (.ite (ao r9 r8)
 (.blockS ⟨[],[]⟩ 1 [2,3,4,11,12,13,14,15,16,17,18,27,28,33,34,35] [4]
 (.chk (aq r7 r9)
 (.call ⟨[(3,r9)],[(4,(.setc z3 0 (pn r7 r9)))]⟩ [] 16 40 [(pc (.setc z3 0 (pn r7 r9)) 0),(pi 0),(pi 4)]
 (.call ⟨[(18,(.nt dA))],[]⟩ [(18,false)] 25 40 [(pc o4 1),(pi 0),(aS (.llen (pc o1 15)) (pi 1))]
 (.call ⟨[(28,(.pick fW pT (.nt dV)))],[]⟩ [(28,false)] 31 40 [(pc o4 2),(pi 0),(pi 1)]
 (.ite (.pick gK pT (.nt lj))
 (.ret (pi 1))
 (.ite (ae r3 (pi 0))
 (.exit 1 ⟨[],[]⟩)
 (.chk (aq (pc o1 18) (aS r3 (pi 1)))
 (.call ⟨[],[(5,(.setc z3 0 (pn (pc o1 18) (aS r3 (pi 1)))))]⟩ [] 46 87 [(pc (.setc z3 0 (pn (pc o1 18) (aS r3 (pi 1)))) 1),(pc o4 1)]
 (.call ⟨[],[]⟩ [] 51 87 [(pc o5 0),(pc o4 0)]
 (.call ⟨[],[]⟩ [] 53 86 [(.lst [Fx,mJ])]
 (.ite (bD Me (pi 0))
 (.ret (pi 5))
 (.next ⟨[],[]⟩))))))))))))
 (.next ⟨[(9,BF)],[]⟩))
 (.exit 0 ⟨[(10,(ao r9 r8))],[]⟩))
def V3 (b:Nat→PC):PT:=
 (.brk ⟨[(9,(pi 0)),(8,(.llen (pc (.mk [r0]) 18))),(7,(pc (.mk [r0]) 18)),(2,(pi 0))],[(1,(.mk [r0]))]⟩
(arx b)
 (.ret (pi 0)))
def amI (b:Nat→PC):PT×List (Shp×PT):=(V3 b,[(.lp 0 [2,9,10] [] [2,9] [],Mp b)])
theorem RT:zb.map told=some (amI (bl zb)):=by kernel_rfl
theorem axK:tree (ab zb)=V3 Ox:=bE RT
theorem ag4:round 0 [2,9,10] [] [2,9] [] (Ox 0)=Mp Ox:=aT RT 0 fun _=>rfl
def HM:Option PC:=cF [4,5,6] [] Tryz.f87 87 []
def Vy:PT:=
 (.call ⟨[],[]⟩ [] 8 130 [r0]
 (.call ⟨[(5,r8)],[]⟩ [] 10 130 [r1]
 (.ite r5
 (.ite bN
 (.ret (pi 0))
 (.ret (pi (-1))))
 (.ite bN
 (.ret (pi 1))
 (.ite (ao r0 r1)
 (.ret (pi (-1)))
 (.ite (aP r0 r1)
 (.ret (pi 1))
 (.ret (pi 0))))))))
theorem adX:HM.map told=some (Vy,[]):=by kernel_rfl
theorem axa:tree (ab HM)=Vy:=aF adX
def HN:Option PC:=cF [2] [] Tryz.f130 130 []
def VA:PT:=
 (.ret (aC r0 r0))
theorem adY:HN.map told=some (VA,[]):=by kernel_rfl
theorem axc:tree (ab HN)=VA:=aF adY
def y3:Option PC:=cF [2,3,5] [] Tryz.f86 86 []
def On:Nat→PC:=aZ y3
def arl (b:Nat→PC):PC:=.block 0 [2,8,9] [] (.loop [2,8] [] (b 0))
def FB (b:Nat→PC):PT:=
 (.ite (ao r8 r7)
 (.chk (aq r6 r8)
 (.ite (aC (pn r6 r8) r3)
 (.ret (pn r6 r8))
 (.next ⟨[(8,oJ)],[]⟩)))
 (.exit 0 ⟨[(9,(ao r8 r7))],[]⟩))
def Vz (b:Nat→PC):PT:=
 (.brk ⟨[(8,(pi 0)),(7,(.llen r0)),(6,r0),(3,(pi 0)),(2,(pi 0))],[]⟩
(arl b)
 (.ret r3))
def amz (b:Nat→PC):PT×List (Shp×PT):=(Vz b,[(.lp 0 [2,8,9] [] [2,8] [],FB b)])
theorem RM:y3.map told=some (amz (bl y3)):=by kernel_rfl
theorem axb:tree (ab y3)=Vz On:=bE RM
theorem TP:round 0 [2,8,9] [] [2,8] [] (On 0)=FB On:=aT RM 0 fun _=>rfl
def I4:Option PC:=cF [13] [] Tryz.f20 20 [6,9,12]
def W8:PT:=
 (.call ⟨[],[(12,j4),(9,(.mk [r3])),(6,(.mk [r0]))]⟩ [] 18 51 [fw,r1,(ah 19 (.mk [r3])),r5]
 (.call ⟨[],[]⟩ [] 28 52 [(ah 8 o6),r1,r2,(.mk [(ah 19 o9),r4,r4,(pi (-1)),fW,r5])]
 (.ret (ah 5 (.setc vh 0 gK)))))
theorem ae7:I4.map told=some (W8,[]):=by kernel_rfl
theorem ay3:tree (ab I4)=W8:=aF ae7
def I0:Option PC:=cF [8,10,11,12] [] Tryz.f51 51 [4,6,9]
def W6:PT:=
 (.call ⟨[],[(6,(.mk [r2])),(4,(.mk [r0]))]⟩ [] 15 28 [Fh,r3]
 (.ite (ae (.llen (pc (.setc oF 0 df) 15)) (pi 0))
 (.ret (pi (-1)))
 (.call ⟨[],[(9,(.setc oF 0 df))]⟩ [] 24 67 [(ah 8 o4),r1,(pi 6),(ah 19 o6),r3]
 (.call ⟨[],[]⟩ [] 25 94 [lh]
 (.call ⟨[(31,(ah 15 o6)),(29,(ah 8 o4)),(10,(.pick (ae dV (pi (-1))) (pi 0) dV))],[]⟩ [] 33 96 [(ah 19 o9)]
 (.call ⟨[],[]⟩ [] 35 95 [jF,lj,nG,bN]
 (.ite (aC (.tget nH 1) (pi 0))
 (.ret (pi (-1)))
 (.ret (.tget nH 0)))))))))
theorem ae5:I0.map told=some (W6,[]):=by kernel_rfl
theorem ayZ:tree (ab I0)=W6:=aF ae5
def zx:Option PC:=cF [5,6,8,9] [] Tryz.f28 28 [2,4,46,52,7,69639,77831,81,115]
def ss:Nat→PC:=aZ zx
def ar2 (b:Nat→PC):PC:=.block 0 [5,10,11,12,13,14,15,24] [] (.loop [5] [] (b 0))
def ar3 (b:Nat→PC):PC:=.block 2 [6,27,28,29,30,31,32,41] [] (.loop [6] [] (b 1))
def ar4 (b:Nat→PC):PC:=.block 4 [8,59,60,61,62,63] [7,69639] (.loop [8] [7,69639] (b 2))
def ar5 (b:Nat→PC):PC:=.block 6 [9,84,85,86,87,88] [7,77831] (.loop [9] [7,77831] (b 3))
def F2 (b:Nat→PC):PT:=
 (.chk (.nt (.an (.an Fq pT) (.nt (aq (pc o2 15) r5))))
 (.ite (.pick Fq (aX (pc (pn (pc o2 15) r5) 6) r1) pF)
 (.next ⟨[(5,oK)],[]⟩)
 (.exit 0 ⟨[(10,r5),(11,pN),(12,(pc o2 15)),(13,(.llen (pc o2 15))),(14,Fq),(15,Fq),(24,(.pick Fq (aX (pc (pn (pc o2 15) r5) 6) r1) pF))],[]⟩)))
def F3 (b:Nat→PC):PT:=
 (.chk (.nt (.an (.an Fp pT) (.nt (aq (pc o2 17) r6))))
 (.ite (.pick Fp (aX (pc (pn (pc o2 17) r6) 6) r1) pF)
 (.next ⟨[(6,x9)],[]⟩)
 (.exit 2 ⟨[(27,r6),(28,pN),(29,(pc o2 17)),(30,(.llen (pc o2 17))),(31,Fp),(32,Fp),(41,(.pick Fp (aX (pc (pn (pc o2 17) r6) 6) r1) pF))],[]⟩)))
def F4 (b:Nat→PC):PT:=
 (.ite (ao r8 (.llen (pc o2 16)))
 (.chk (aq (pc o2 16) r8)
 (.ite (aX (pc (pn (pc o2 16) r8) 0) r5)
 (.chk (aX (.llen (.app (.o 69639) (.lst [(pn (pc o2 16) r8)]))) cq)
 (.next ⟨[(8,oJ)],[(7,(.setc o7 16 pN)),(69639,(.app (.o 69639) (.lst [(pn (pc o2 16) r8)])))]⟩))
 (.next ⟨[(8,oJ)],[]⟩)))
 (.exit 4 ⟨[(59,r8),(60,pN),(61,(pc o2 16)),(62,(.llen (pc o2 16))),(63,(ao r8 (.llen (pc o2 16))))],[]⟩))
def BQ (b:Nat→PC):PT:=
 (.ite (ao r9 (.llen (pc o2 18)))
 (.chk (aq (pc o2 18) r9)
 (.chk (.nt (.an (.an (bD (pc (pn (pc o2 18) r9) 1) (pi 0)) pT) (.nt (aq (pc o2 18) r9))))
 (.ite (.pick (bD (pc (pn (pc o2 18) r9) 1) (pi 0)) (ao (pc (pn (pc o2 18) r9) 1) r5) pF)
 (.chk (aX (.llen (.app (.o 77831) (.lst [(pn (pc o2 18) r9)]))) cq)
 (.next ⟨[(9,BF)],[(7,(.setc o7 18 pN)),(77831,(.app (.o 77831) (.lst [(pn (pc o2 18) r9)])))]⟩))
 (.next ⟨[(9,BF)],[]⟩))))
 (.exit 6 ⟨[(84,r9),(85,pN),(86,(pc o2 18)),(87,(.llen (pc o2 18))),(88,(ao r9 (.llen (pc o2 18))))],[]⟩))
def WC (b:Nat→PC):PT:=
 (.brk ⟨[(5,(pi 0))],[(4,oF),(2,(.mk [r0]))]⟩
(ar2 b)
 (.brk ⟨[(6,(pi 0))],[]⟩
(ar3 b)
 (.chk (.slok (pc o2 15) (pi 0) r5)
 (.chk (aX (.llen (.app (.lst []) (.slc (pc o2 15) (pi 0) r5))) cq)
 (.chk (.slok (pc o2 17) (pi 0) r6)
 (.chk (aX (.llen (.app (.lst []) (.slc (pc o2 17) (pi 0) r6))) cq)
 (.brk ⟨[(8,(pi 0))],[(77831,pL),(69639,pL),(7,(.setc oF 0 (.mk [(ah 15 o2),(.app (.lst []) (.slc (pc o2 15) (pi 0) r5)),pL,(.app (.lst []) (.slc (pc o2 17) (pi 0) r6)),pL])))]⟩
(ar4 b)
 (.brk ⟨[(9,(pi 0))],[]⟩
(ar5 b)
 (.ret (ah 19 (.setc o4 0 (.mk [(pc o7 0),(pc o7 1),(pc o7 2),(pc o7 3),(pc o7 4),(pc o7 5),(pc o7 6),(pc o7 7),(pc o7 8),(pc o7 9),(pc o7 10),(pc o7 11),(pc o7 12),(pc o7 13),(pc o7 14),(pc o7 15),(.o 69639),(pc o7 17),(.o 77831)]))))))))))))
def am2 (b:Nat→PC):PT×List (Shp×PT):=(WC b,[(.lp 0 [5,10,11,12,13,14,15,24] [] [5] [],F2 b),(.lp 2 [6,27,28,29,30,31,32,41] [] [6] [],F3 b),(.lp 4 [8,59,60,61,62,63] [7,69639] [8] [7,69639],F4 b),(.lp 6 [9,84,85,86,87,88] [7,77831] [9] [7,77831],BQ b)])
theorem Br:zx.map told=some (am2 (bl zx)):=by kernel_rfl
theorem ayn:tree (ab zx)=WC ss:=bE Br
theorem Uh:round 0 [5,10,11,12,13,14,15,24] [] [5] [] (ss 0)=F2 ss:=aT Br 0 fun _=>rfl
theorem Ui:round 2 [6,27,28,29,30,31,32,41] [] [6] [] (ss 1)=F3 ss:=aT Br 1 fun _=>rfl
theorem Uj:round 4 [8,59,60,61,62,63] [7,69639] [8] [7,69639] (ss 2)=F4 ss:=aT Br 2 fun _=>rfl
theorem Mz:round 6 [9,84,85,86,87,88] [7,77831] [9] [7,77831] (ss 3)=BQ ss:=aT Br 3 fun _=>rfl
def IY:Option PC:=cF [] [] Tryz.f67 67 [5,8,77832,10]
def W3:PT:=
 (.call ⟨[],[(10,j4)]⟩ [] 18 52 [fw,r1,r2,agd]
 (.ret (ah 5 (.setc bY 0 fW))))
theorem ae3:IY.map told=some (W3,[]):=by kernel_rfl
theorem ayW:tree (ab IY)=W3:=aF ae3
def IX:Option PC:=cF [10,11,12] [] Tryz.f52 52 [4,7,8,9,16393]
def W2:PT:=
 (.call ⟨[],[(16393,pL),(9,(.setc j4 0 (.mk [cr,(pi (-1)),pL,(pi 1)]))),(8,j4),(7,(.mk [r3])),(4,(.mk [r0]))]⟩ [] 17 97 [fw,r1,(ah 24 (.mk [r3]))]
 (.call ⟨[(21,(ae (.llen fy) (pi 0))),(10,fy)],[]⟩ [(21,false)] 23 98 [r2]
 (.ite (.pick iP pT (.nt eF))
 (.ret (ah 5 (.setc o8 0 (.mk [(pc o9 0),(pc o9 1),(pc o9 2),(.o 16393),(pc o9 4)]))))
 (.call ⟨[],[]⟩ [] 32 99 [(ah 8 o4),r1,r2,bN]
 (.ite (.pick (aC (.tget kE 1) (pi 0)) pT (ae (.llen (.tget kE 0)) (pi 0)))
 (.ret (ah 5 (.setc o8 0 (ah 5 (.setc (.setc o9 3 (.tget kE 0)) 4 (.tget kE 1))))))
 (.chk (aq (.tget kE 0) (aS (.llen (.tget kE 0)) (pi 1)))
 (.chk (aq (pc o4 4) (pc Tp 2))
 (.call ⟨[(61,r2),(60,(pn (pc o4 4) (pc Tp 2)))],[(9,Tp)]⟩ [] 64 101 [(ah 8 o4),(ah 24 o7)]
 (.call ⟨[],[]⟩ [] 65 100 [tK,vu,kG]
 (.ret (ah 5 (.setc o8 0 (ah 5 (.setc (.setc o9 0 (.tget vw 0)) 4 (.tget vw 1)))))))))))))))
theorem ae2:IX.map told=some (W2,[]):=by kernel_rfl
theorem ayV:tree (ab IX)=W2:=aF ae2
def zJ:Option PC:=cF [6,9] [] Tryz.f97 97 [3,5,7,8]
def OU:Nat→PC:=aZ zJ
def acX (b:Nat→PC):PC:=.block 0 [6,9,81,82,83,84] [] (.loop [6,9] [] (b 0))
def Gd (b:Nat→PC):PT:=
 (.ite (ao r9 (.llen o8))
 (.chk (aq o8 r9)
 (.ite (ao (pn o8 r9) (pi 0))
 (.ret pL)
 (.next ⟨[(9,BF)],[]⟩)))
 (.exit 0 ⟨[(81,r9),(82,r8),(83,(.llen o8)),(84,(ao r9 (.llen o8)))],[]⟩))
def W7 (b:Nat→PC):PT:=
 (.call ⟨[(6,pL)],[(5,(.mk [r2])),(3,(.mk [r0]))]⟩ [] 12 101 [fw,(ah 24 (.mk [r2]))]
 (.ite (.pick (.pick (ae (.llen bQ) (pi 0)) pT (ao r1 (pi 0))) pT (bD r1 BC))
 (.ret pL)
 (.chk (aq (pc o5 15) (pc o5 19))
 (.ite (.pick (ao (pc Ma 2) (pi 0)) pT (bD (pc Ma 2) (.llen (pc o3 3))))
 (.ret pL)
 (.chk Tf
 (.chk (ae (pi 5) (pi 5))
 (.chk (aq BA (pi 0))
 (.call ⟨[(8,pN)],[(8,(.setn BA (pi 0) 0 r1)),(7,Ma)]⟩ [] 52 138 [(ah 8 o3),(pc Ma 7)]
 (.chk (aq o8 (pi 1))
 (.call ⟨[],[(8,(.setn o8 (pi 1) 0 tJ))]⟩ [] 60 138 [(ah 8 o3),(pc o5 10)]
 (.chk (aq o8 (pi 2))
 (.call ⟨[],[(8,(.setn o8 (pi 2) 0 tK))]⟩ [] 68 138 [(ah 8 o3),(pc o5 9)]
 (.chk (aq o8 (pi 3))
 (.chk (aq (pc o3 3) (pc o7 2))
 (.call ⟨[],[(8,(.setn o8 (pi 3) 0 Fy))]⟩ [] 79 138 [(ah 8 o3),(pc (pn (pc o3 3) (pc o7 2)) 1)]
 (.chk (aq o8 (pi 4))
 (.brk ⟨[(9,(pi 0))],[(8,(.setn o8 (pi 4) 0 r79))]⟩
(acX b)
 (.ret o8))))))))))))))))))
def ang (b:Nat→PC):PT×List (Shp×PT):=(W7 b,[(.lp 0 [6,9,81,82,83,84] [] [6,9] [],Gd b)])
theorem Sf:zJ.map told=some (ang (bl zJ)):=by kernel_rfl
theorem ay2:tree (ab zJ)=W7 OU:=bE Sf
theorem Us:round 0 [6,9,81,82,83,84] [] [6,9] [] (OU 0)=Gd OU:=aT Sf 0 fun _=>rfl
def IZ:Option PC:=cF [4] [] Tryz.f101 101 [2,3]
def W4:PT:=
 (.call ⟨[],[(3,(.mk [r1])),(2,(.mk [r0]))]⟩ [] 9 28 [(ah 19 (.mk [r1])),(pc (.mk [r1]) 23)]
 (.call ⟨[],[]⟩ [] 13 145 [(ah 8 o2),(ah 24 (.setc o3 0 r9))]
 (.ret cO)))
theorem ae4:IZ.map told=some (W4,[]):=by kernel_rfl
theorem ayX:tree (ab IZ)=W4:=aF ae4
def zA:Option PC:=cF [4,8,9,10,11] [] Tryz.f145 145 [2,3,5,6,7]
def OJ:Nat→PC:=aZ zA
def acW (b:Nat→PC):PC:=.block 0 [9,10,157,158,159,160,161] [] (.loop [9,10] [] (b 0))
def MB (b:Nat→PC):PT:=
 (.ite (ao bN (.llen (pc o5 16)))
 (.chk (.nt (.an (.an (.nt r9) pT) (.nt (aq (pc o5 16) bN))))
 (.next ⟨[(9,(.pick r9 pT (aX (pc (pn (pc o5 16) bN) 0) (pc o3 19)))),(10,(aH bN (pi 1)))],[]⟩))
 (.exit 0 ⟨[(157,bN),(158,pN),(159,(pc o5 16)),(160,(.llen (pc o5 16))),(161,(ao bN (.llen (pc o5 16))))],[]⟩))
def WG (b:Nat→PC):PT:=
 (.ite (.pick (.pick (.pick (.pick (.pick (ao (pc (.mk [r1]) 19) (pi 0)) pT (bD (pc (.mk [r1]) 19) (.llen (pc vk 15)))) pT (ao (pc (.mk [r1]) 20) (pi (-1)))) pT (bD (pc (.mk [r1]) 20) (.llen (pc vk 15)))) pT (ao (pc (.mk [r1]) 22) (pi (-1)))) pT (aP (pc (.mk [r1]) 22) (pi 100000)))
 (.ret pL)
 (.chk (aq (pc vk 15) (pc (.mk [r1]) 19))
 (.ite (.pick (ao (pc Tb 6) (pi 0)) pT (aP (pc Tb 6) (pi 100000)))
 (.ret pL)
 (.chk (.an (bD (pi 20) (pi 0)) (aX (pi 20) cq))
 (.chk (ae (pi 20) (pi 20))
 (.call ⟨[],[(7,(.rep (pi 20) cr)),(6,Tb),(5,vk),(3,(.mk [r1])),(2,(.mk [r0]))]⟩ [] 67 167 [(pc vk 3)]
 (.chk (aq o7 (pi 0))
 (.call ⟨[],[(7,(.setn o7 (pi 0) 0 rB))]⟩ [] 73 167 [(pc o5 14)]
 (.chk (aq o7 (pi 1))
 (.call ⟨[],[(7,(.setn o7 (pi 1) 0 rC))]⟩ [] 80 167 [(pc o5 5)]
 (.chk (aq o7 (pi 2))
 (.call ⟨[],[(7,(.setn o7 (pi 2) 0 qm))]⟩ [] 86 167 [(pc o5 12)]
 (.chk (aq o7 (pi 3))
 (.call ⟨[],[(7,(.setn o7 (pi 3) 0 TK))]⟩ [] 91 167 [(pc o6 0)]
 (.chk (aq o7 (pi 4))
 (.call ⟨[],[(7,(.setn o7 (pi 4) 0 TL))]⟩ [] 96 167 [(pc o3 21)]
 (.chk (aq o7 (pi 5))
 (.call ⟨[(8,(.pick Fa (aS (pc o6 6) (pc o3 22)) (pi 0)))],[(7,(.setn o7 (pi 5) 0 Mi))]⟩ [] 108 167 [(.pick Fa (aS (pc o6 6) (pc o3 22)) (pi 0))]
 (.chk (aq o7 (pi 6))
 (.call ⟨[],[(7,(.setn o7 (pi 6) 0 Fu))]⟩ [] 113 168 [(aP r8 (pi 0))]
 (.chk (aq o7 (pi 14))
 (.call ⟨[],[(7,(.setn o7 (pi 14) 0 agB))]⟩ [] 119 169 [(pc o5 13),(pi 1)]
 (.call ⟨[],[]⟩ [] 120 168 [agC]
 (.chk (aq o7 (pi 7))
 (.call ⟨[],[(7,(.setn o7 (pi 7) 0 agE))]⟩ [] 126 169 [(pc o5 13),(pi 2)]
 (.call ⟨[],[]⟩ [] 127 168 [agF]
 (.chk (aq o7 (pi 10))
 (.call ⟨[],[(7,(.setn o7 (pi 10) 0 TD))]⟩ [] 133 169 [(pc o5 13),(pi 4)]
 (.call ⟨[],[]⟩ [] 134 168 [(.r 133)]
 (.chk (aq o7 (pi 9))
 (.call ⟨[],[(7,(.setn o7 (pi 9) 0 (.r 134)))]⟩ [] 141 168 [(ae (pc o5 2) (pi (-1)))]
 (.chk (aq o7 (pi 8))
 (.call ⟨[],[(7,(.setn o7 (pi 8) 0 (.r 141)))]⟩ [] 148 138 [(ah 8 o2),(pc o5 9)]
 (.call ⟨[],[]⟩ [] 153 138 [(ah 8 o2),(pc o5 10)]
 (.call ⟨[],[]⟩ [] 155 168 [(aC (.r 148) (.r 153))]
 (.chk (aq o7 (pi 11))
 (.brk ⟨[(10,(pi 0)),(9,pF)],[(7,(.setn o7 (pi 11) 0 (.r 155)))]⟩
(acW b)
 (.call ⟨[],[]⟩ [] 178 168 [r9]
 (.chk (aq o7 (pi 12))
 (.call ⟨[],[(7,(.setn o7 (pi 12) 0 (.r 178)))]⟩ [] 183 169 [(pc o6 8),(pi 1)]
 (.call ⟨[],[]⟩ [] 184 168 [(.r 183)]
 (.chk (aq o7 (pi 13))
 (.call ⟨[(11,(.mx (pc o3 20) (pi 0)))],[(7,(.setn o7 (pi 13) 0 (.r 184)))]⟩ [] 193 170 [(ah 19 o5),(pi 0),(pc o3 19)]
 (.chk (aq o7 (pi 15))
 (.call ⟨[],[(7,(.setn o7 (pi 15) 0 (.r 193)))]⟩ [] 199 170 [(ah 19 o5),(pi 1),(pc o3 19)]
 (.chk (aq o7 (pi 16))
 (.call ⟨[],[(7,(.setn o7 (pi 16) 0 (.r 199)))]⟩ [] 205 170 [(ah 19 o5),(pi 2),(pc o3 19)]
 (.chk (aq o7 (pi 17))
 (.call ⟨[],[(7,(.setn o7 (pi 17) 0 (.r 205)))]⟩ [] 210 170 [(ah 19 o5),(pi 3),bW]
 (.chk (aq o7 (pi 18))
 (.call ⟨[],[(7,(.setn o7 (pi 18) 0 (.r 210)))]⟩ [] 215 170 [(ah 19 o5),(pi 4),bW]
 (.chk (aq o7 (pi 19))
 (.ret (.setn o7 (pi 19) 0 (.r 215)))))))))))))))))))))))))))))))))))))))))))))))))))))))
def am5 (b:Nat→PC):PT×List (Shp×PT):=(WG b,[(.lp 0 [9,10,157,158,159,160,161] [] [9,10] [],MB b)])
theorem R5:zA.map told=some (am5 (bl zA)):=by kernel_rfl
theorem ays:tree (ab zA)=WG OJ:=bE R5
theorem ahb:round 0 [9,10,157,158,159,160,161] [] [9,10] [] (OJ 0)=MB OJ:=aT R5 0 fun _=>rfl
def IA:Option PC:=cF [] [] Tryz.f167 167 [2]
def WI:PT:=
 (.ret (.mk [(pc (.setc cr 0 (.mk [pT,r0])) 0),(pc (.setc cr 0 (.mk [pT,r0])) 1)]))
theorem aeI:IA.map told=some (WI,[]):=by kernel_rfl
theorem ayu:tree (ab IA)=WI:=aF aeI
def IB:Option PC:=cF [] [] Tryz.f168 168 [2]
def Nq:PT:=
 (.iteS ⟨[],[(2,cr)]⟩ r0 [] [2]
 (.call ⟨[],[]⟩ [] 4 167 [(pi 1)]
 (.ret (.mk [(pc (.setc o2 0 r4) 0),(pc (.setc o2 0 r4) 1)])))
 (.next ⟨[],[]⟩)
 (.call ⟨[],[]⟩ [] 5 167 [(pi 0)]
 (.ret (.mk [(pc (.setc o2 0 r5) 0),(pc (.setc o2 0 r5) 1)]))))
theorem aeJ:IB.map told=some (Nq,[]):=by kernel_rfl
theorem ayv:tree (ab IB)=Nq:=aF aeJ
def Iz:Option PC:=cF [4] [] Tryz.f169 169 []
def WH:PT:=
 (.ret (ae (.ai .and .i64 r0 r1) r1))
theorem aeH:Iz.map told=some (WH,[]):=by kernel_rfl
theorem ayt:tree (ab Iz)=WH:=aF aeH
def Ir:Option PC:=cF [4] [] Tryz.f138 138 [2]
def Wm:PT:=
 (.call ⟨[],[(2,(.mk [r0]))]⟩ [] 10 107 [r1,(pi 0),(aS (.llen jc) (pi 1))]
 (.ite bN
 (.chk (aq (pc o2 1) r1)
 (.ret (pc (pn (pc o2 1) r1) 1)))
 (.ret (pi (-1)))))
theorem aez:Ir.map told=some (Wm,[]):=by kernel_rfl
theorem ax6:tree (ab Ir)=Wm:=aF aez
def zy:Option PC:=cF [7] [] Tryz.f170 170 [3,6]
def OI:Nat→PC:=aZ zy
def ar6 (b:Nat→PC):PC:=.block 0 [7,8,9,10,11,12] [6] (.loop [7] [6] (b 0))
def BR (b:Nat→PC):PT:=
 (.ite (ao r7 (.llen (pc o3 18)))
 (.chk (aq (pc o3 18) r7)
 (.chk (.nt (.an (.an (ae (pc (pn (pc o3 18) r7) 0) r1) pT) (.nt (aq (pc o3 18) r7))))
 (.ite (.pick (ae (pc (pn (pc o3 18) r7) 0) r1) (ae (pc (pn (pc o3 18) r7) 1) r2) pF)
 (.ite (ae (pc (pn (pc o3 18) r7) 2) (pi 0))
 (.ret (.mk [(pc (.setc o6 0 (.mk [pT,(pi 0)])) 0),(pc (.setc o6 0 (.mk [pT,(pi 0)])) 1)]))
 (.ret (.mk [(pc (.setc o6 0 (.mk [pT,(pi 1)])) 0),(pc (.setc o6 0 (.mk [pT,(pi 1)])) 1)])))
 (.next ⟨[(7,xZ)],[]⟩))))
 (.exit 0 ⟨[(8,r7),(9,pN),(10,(pc o3 18)),(11,(.llen (pc o3 18))),(12,(ao r7 (.llen (pc o3 18))))],[]⟩))
def WD (b:Nat→PC):PT:=
 (.brk ⟨[(7,(pi 0))],[(6,cr),(3,(.mk [r0]))]⟩
(ar6 b)
 (.ret L5))
def am3 (b:Nat→PC):PT×List (Shp×PT):=(WD b,[(.lp 0 [7,8,9,10,11,12] [6] [7] [6],BR b)])
theorem R4:zy.map told=some (am3 (bl zy)):=by kernel_rfl
theorem ayo:tree (ab zy)=WD OI:=bE R4
theorem MA:round 0 [7,8,9,10,11,12] [6] [7] [6] (OI 0)=BR OI:=aT R4 0 fun _=>rfl
def IT:Option PC:=cF [2] [] Tryz.f98 98 []
def WT:PT:=
 (.ret (.pick (bD r0 (pi 0)) (ao r0 (pi 22)) pF))
theorem aeY:IT.map told=some (WT,[]):=by kernel_rfl
theorem ayN:tree (ab IT)=WT:=aF aeY
end Rm
