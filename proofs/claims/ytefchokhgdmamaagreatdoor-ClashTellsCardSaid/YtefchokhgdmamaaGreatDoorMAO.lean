/-
  The functions of this seat, compiled (3).
-/
import Derived.Test.YtefchokhgdmamaaGreatDoorMAJ
import Derived.KernelRfl
set_option linter.defProp false
set_option linter.unusedVariables false
set_option maxRecDepth 100000
noncomputable section
namespace Rm
open Go Go.Proofs Cx
def Jg:Option PC:=cF [10,11,12] [] Tryz.f31 31 [4,7,8,9,16393]
def V0:PT:=
 (.call ⟨[],[(16393,pL),(9,(.setc jT 0 (.mk [dk,(pi (-1)),pL,(pi 1)]))),(8,jT),(7,(.mk [r3])),(4,(.mk [r0]))]⟩ [] 17 65 [ky,r1,(ax 24 (.mk [r3]))]
 (.call ⟨[(21,(af (.llen gi) (pi 0))),(10,gi)],[]⟩ [(21,false)] 23 66 [r2]
 (.ite (.pick kV pT (.nt ju))
 (.ret (ax 5 (.setc o8 0 (.mk [(pc o9 0),(pc o9 1),(pc o9 2),(.o 16393),(pc o9 4)]))))
 (.call ⟨[],[]⟩ [] 32 67 [(ax 8 o4),r1,r2,cC]
 (.ite (.pick (aW (.tget m3 1) (pi 0)) pT (af (.llen (.tget m3 0)) (pi 0)))
 (.ret (ax 5 (.setc o8 0 (ax 5 (.setc (.setc o9 3 (.tget m3 0)) 4 (.tget m3 1))))))
 (.chk (ak (.tget m3 0) (bx (.llen (.tget m3 0)) (pi 1)))
 (.chk (ak (pc o4 4) (pc Ti 2))
 (.call ⟨[(61,r2),(60,(pn (pc o4 4) (pc Ti 2)))],[(9,Ti)]⟩ [] 64 69 [(ax 8 o4),(ax 24 o7)]
 (.call ⟨[],[]⟩ [] 65 68 [uY,TE,jx]
 (.ret (ax 5 (.setc o8 0 (ax 5 (.setc (.setc o9 0 (.tget uZ 0)) 4 (.tget uZ 1)))))))))))))))
def adC:Jg.map told=some (V0,[]):=by kernel_rfl
def av6:tree (ae Jg)=V0:=aU adC
def Av:Option PC:=cF [6,9] [] Tryz.f65 65 [3,5,7,8]
def OJ:Nat->PC:=bI Av
variable(b:Nat->PC)
def ab5:PC:=.block 0 [6,9,81,82,83,84] [] (.loop [6,9] [] (b 0))
def GC (b:Nat->PC):PT:=
 (.ite (aj r9 (.llen o8))
 (.chk (ak o8 r9)
 (.ite (aj (pn o8 r9) (pi 0))
 (.ret pL)
 (.next ⟨[(9,(bH r9 (pi 1)))],[]⟩)))
 (.exit 0 ⟨[(81,r9),(82,r8),(83,(.llen o8)),(84,(aj r9 (.llen o8)))],[]⟩))
def V3:PT:=
 (.call ⟨[(6,pL)],[(5,(.mk [r2])),(3,(.mk [r0]))]⟩ [] 12 69 [ky,(ax 24 (.mk [r2]))]
 (.ite (.pick (.pick (af (.llen cP) (pi 0)) pT (aj r1 (pi 0))) pT (cB r1 (.llen (pc o3 4))))
 (.ret pL)
 (.chk (ak (pc o5 15) (pc o5 19))
 (.ite (.pick (aj (pc Mi 2) (pi 0)) pT (cB (pc Mi 2) (.llen (pc o3 3))))
 (.ret pL)
 (.chk Tc
 (.chk (af (pi 5) (pi 5))
 (.chk (ak CG (pi 0))
 (.call ⟨[(8,pN)],[(8,(.setn CG (pi 0) 0 r1)),(7,Mi)]⟩ [] 52 87 [(ax 8 o3),(pc Mi 7)]
 (.chk (ak o8 (pi 1))
 (.call ⟨[],[(8,(.setn o8 (pi 1) 0 Gd))]⟩ [] 60 87 [(ax 8 o3),(pc o5 10)]
 (.chk (ak o8 (pi 2))
 (.call ⟨[],[(8,(.setn o8 (pi 2) 0 uY))]⟩ [] 68 87 [(ax 8 o3),(pc o5 9)]
 (.chk (ak o8 (pi 3))
 (.chk (ak (pc o3 3) (pc o7 2))
 (.call ⟨[],[(8,(.setn o8 (pi 3) 0 Ge))]⟩ [] 79 87 [(ax 8 o3),(pc (pn (pc o3 3) (pc o7 2)) 1)]
 (.chk (ak o8 (pi 4))
 (.brk ⟨[(9,(pi 0))],[(8,(.setn o8 (pi 4) 0 r79))]⟩
(ab5 b)
 (.ret o8))))))))))))))))))
def alg:PT×List (Shp×PT):=(V3 b,[(.lp 0 [6,9,81,82,83,84] [] [6,9] [],GC b)])
def Sv:Av.map told=some (alg (bz Av)):=by kernel_rfl
def awa:tree (ae Av)=V3 OJ:=cl Sv
def T7:round 0 [6,9,81,82,83,84] [] [6,9] [] (OJ 0)=GC OJ:=bl Sv 0 λ_=>rfl
def Jh:Option PC:=cF [4] [] Tryz.f69 69 [2,3]
def V1:PT:=
 (.call ⟨[],[(3,(.mk [r1])),(2,(.mk [r0]))]⟩ [] 9 95 [(ax 19 (.mk [r1])),(pc (.mk [r1]) 23)]
 (.call ⟨[],[]⟩ [] 13 96 [(ax 8 o2),(ax 24 (.setc o3 0 r9))]
 (.ret dS)))
def adD:Jh.map told=some (V1,[]):=by kernel_rfl
def av7:tree (ae Jh)=V1:=aU adD
def Ak:Option PC:=cF [5,6,8,9] [] Tryz.f95 95 [2,4,46,52,7,69639,77831,81,115]
def tN:Nat->PC:=bI Ak
def apT:PC:=.block 0 [5,10,11,12,13,14,15,24] [] (.loop [5] [] (b 0))
def apU:PC:=.block 2 [6,27,28,29,30,31,32,41] [] (.loop [6] [] (b 1))
def apV:PC:=.block 4 [8,59,60,61,62,63] [7,69639] (.loop [8] [7,69639] (b 2))
def apW:PC:=.block 6 [9,84,85,86,87,88] [7,77831] (.loop [9] [7,77831] (b 3))
def Gt (b:Nat->PC):PT:=
 (.chk (.nt (.an (.an zg pT) (.nt (ak (pc o2 15) r5))))
 (.ite (.pick zg (bD (pc rk 6) r1) pF)
 (.next ⟨[(5,wT)],[]⟩)
 (.exit 0 ⟨[(10,r5),(11,pN),(12,(pc o2 15)),(13,(.llen (pc o2 15))),(14,zg),(15,zg),(24,(.pick zg (bD (pc rk 6) r1) pF))],[]⟩)))
def Gu (b:Nat->PC):PT:=
 (.chk (.nt (.an (.an (aj r6 sJ) pT) (.nt (ak (pc o2 17) r6))))
 (.ite (.pick (aj r6 sJ) (bD (pc (pn (pc o2 17) r6) 6) r1) pF)
 (.next ⟨[(6,zc)],[]⟩)
 (.exit 2 ⟨[(27,r6),(28,pN),(29,(pc o2 17)),(30,sJ),(31,(aj r6 sJ)),(32,(aj r6 sJ)),(41,(.pick (aj r6 sJ) (bD (pc (pn (pc o2 17) r6) 6) r1) pF))],[]⟩)))
def Gv (b:Nat->PC):PT:=
 (.ite (aj r8 zj)
 (.chk (ak (pc o2 16) r8)
 (.ite (bD (pc (pn (pc o2 16) r8) 0) r5)
 (.chk (bD (.llen (.app (.o 69639) (.lst [(pn (pc o2 16) r8)]))) cI)
 (.next ⟨[(8,rn)],[(7,(.setc o7 16 pN)),(69639,(.app (.o 69639) (.lst [(pn (pc o2 16) r8)])))]⟩))
 (.next ⟨[(8,rn)],[]⟩)))
 (.exit 4 ⟨[(59,r8),(60,pN),(61,(pc o2 16)),(62,zj),(63,(aj r8 zj))],[]⟩))
def CN (b:Nat->PC):PT:=
 (.ite (aj r9 zi)
 (.chk (ak (pc o2 18) r9)
 (.chk (.nt (.an (.an (cB (pc (pn (pc o2 18) r9) 1) (pi 0)) pT) (.nt (ak (pc o2 18) r9))))
 (.ite (.pick (cB (pc (pn (pc o2 18) r9) 1) (pi 0)) (aj (pc (pn (pc o2 18) r9) 1) r5) pF)
 (.chk (bD (.llen (.app (.o 77831) (.lst [(pn (pc o2 18) r9)]))) cI)
 (.next ⟨[(9,(bH r9 (pi 1)))],[(7,(.setc o7 18 pN)),(77831,(.app (.o 77831) (.lst [(pn (pc o2 18) r9)])))]⟩))
 (.next ⟨[(9,(bH r9 (pi 1)))],[]⟩))))
 (.exit 6 ⟨[(84,r9),(85,pN),(86,(pc o2 18)),(87,zi),(88,(aj r9 zi))],[]⟩))
def VD:PT:=
 (.brk ⟨[(5,(pi 0))],[(4,wN),(2,(.mk [r0]))]⟩
(apT b)
 (.brk ⟨[(6,(pi 0))],[]⟩
(apU b)
 (.chk (.slok (pc o2 15) (pi 0) r5)
 (.chk (bD (.llen (.app (.lst []) (.slc (pc o2 15) (pi 0) r5))) cI)
 (.chk (.slok (pc o2 17) (pi 0) r6)
 (.chk (bD (.llen (.app (.lst []) (.slc (pc o2 17) (pi 0) r6))) cI)
 (.brk ⟨[(8,(pi 0))],[(77831,pL),(69639,pL),(7,(.setc wN 0 (.mk [(ax 15 o2),(.app (.lst []) (.slc (pc o2 15) (pi 0) r5)),pL,(.app (.lst []) (.slc (pc o2 17) (pi 0) r6)),pL])))]⟩
(apV b)
 (.brk ⟨[(9,(pi 0))],[]⟩
(apW b)
 (.ret (ax 19 (.setc o4 0 (.mk [(pc o7 0),(pc o7 1),(pc o7 2),(pc o7 3),(pc o7 4),(pc o7 5),(pc o7 6),(pc o7 7),(pc o7 8),(pc o7 9),(pc o7 10),(pc o7 11),(pc o7 12),(pc o7 13),(pc o7 14),(pc o7 15),(.o 69639),(pc o7 17),(.o 77831)]))))))))))))
def ak4:PT×List (Shp×PT):=(VD b,[(.lp 0 [5,10,11,12,13,14,15,24] [] [5] [],Gt b),(.lp 2 [6,27,28,29,30,31,32,41] [] [6] [],Gu b),(.lp 4 [8,59,60,61,62,63] [7,69639] [8] [7,69639],Gv b),(.lp 6 [9,84,85,86,87,88] [7,77831] [9] [7,77831],CN b)])
def B9:Ak.map told=some (ak4 (bz Ak)):=by kernel_rfl
def avz:tree (ae Ak)=VD tN:=cl B9
def TV:round 0 [5,10,11,12,13,14,15,24] [] [5] [] (tN 0)=Gt tN:=bl B9 0 λ_=>rfl
def TW:round 2 [6,27,28,29,30,31,32,41] [] [6] [] (tN 1)=Gu tN:=bl B9 1 λ_=>rfl
def TX:round 4 [8,59,60,61,62,63] [7,69639] [8] [7,69639] (tN 2)=Gv tN:=bl B9 2 λ_=>rfl
def MH:round 6 [9,84,85,86,87,88] [7,77831] [9] [7,77831] (tN 3)=CN tN:=bl B9 3 λ_=>rfl
def Am:Option PC:=cF [4,8,9,10,11] [] Tryz.f96 96 [2,3,5,6,7]
def Oz:Nat->PC:=bI Am
def ab4:PC:=.block 0 [9,10,157,158,159,160,161] [] (.loop [9,10] [] (b 0))
def MJ (b:Nat->PC):PT:=
 (.ite (aj cC (.llen (pc o5 16)))
 (.chk (.nt (.an (.an (.nt r9) pT) (.nt (ak (pc o5 16) cC))))
 (.next ⟨[(9,(.pick r9 pT (bD (pc (pn (pc o5 16) cC) 0) (pc o3 19)))),(10,(bH cC (pi 1)))],[]⟩))
 (.exit 0 ⟨[(157,cC),(158,pN),(159,(pc o5 16)),(160,(.llen (pc o5 16))),(161,(aj cC (.llen (pc o5 16))))],[]⟩))
def VG:PT:=
 (.ite (.pick (.pick (.pick (.pick (.pick (aj (pc (.mk [r1]) 19) (pi 0)) pT (cB (pc (.mk [r1]) 19) (.llen (pc wP 15)))) pT (aj (pc (.mk [r1]) 20) (pi (-1)))) pT (cB (pc (.mk [r1]) 20) (.llen (pc wP 15)))) pT (aj (pc (.mk [r1]) 22) (pi (-1)))) pT (bP (pc (.mk [r1]) 22) (pi 100000)))
 (.ret pL)
 (.chk (ak (pc wP 15) (pc (.mk [r1]) 19))
 (.ite (.pick (aj (pc Tr 6) (pi 0)) pT (bP (pc Tr 6) (pi 100000)))
 (.ret pL)
 (.chk (.an (cB (pi 20) (pi 0)) (bD (pi 20) cI))
 (.chk (af (pi 20) (pi 20))
 (.call ⟨[],[(7,(.rep (pi 20) dk)),(6,Tr),(5,wP),(3,(.mk [r1])),(2,(.mk [r0]))]⟩ [] 67 117 [(pc wP 3)]
 (.chk (ak o7 (pi 0))
 (.call ⟨[],[(7,(.setn o7 (pi 0) 0 sR))]⟩ [] 73 117 [(pc o5 14)]
 (.chk (ak o7 (pi 1))
 (.call ⟨[],[(7,(.setn o7 (pi 1) 0 zq))]⟩ [] 80 117 [(pc o5 5)]
 (.chk (ak o7 (pi 2))
 (.call ⟨[],[(7,(.setn o7 (pi 2) 0 sS))]⟩ [] 86 117 [(pc o5 12)]
 (.chk (ak o7 (pi 3))
 (.call ⟨[],[(7,(.setn o7 (pi 3) 0 r86))]⟩ [] 91 117 [(pc o6 0)]
 (.chk (ak o7 (pi 4))
 (.call ⟨[],[(7,(.setn o7 (pi 4) 0 r91))]⟩ [] 96 117 [(pc o3 21)]
 (.chk (ak o7 (pi 5))
 (.call ⟨[(8,(.pick F7 (bx (pc o6 6) (pc o3 22)) (pi 0)))],[(7,(.setn o7 (pi 5) 0 TH))]⟩ [] 108 117 [(.pick F7 (bx (pc o6 6) (pc o3 22)) (pi 0))]
 (.chk (ak o7 (pi 6))
 (.call ⟨[],[(7,(.setn o7 (pi 6) 0 Gb))]⟩ [] 113 118 [(bP r8 (pi 0))]
 (.chk (ak o7 (pi 14))
 (.call ⟨[],[(7,(.setn o7 (pi 14) 0 aeS))]⟩ [] 119 119 [(pc o5 13),(pi 1)]
 (.call ⟨[],[]⟩ [] 120 118 [aeT]
 (.chk (ak o7 (pi 7))
 (.call ⟨[],[(7,(.setn o7 (pi 7) 0 aeU))]⟩ [] 126 119 [(pc o5 13),(pi 2)]
 (.call ⟨[],[]⟩ [] 127 118 [aeV]
 (.chk (ak o7 (pi 10))
 (.call ⟨[],[(7,(.setn o7 (pi 10) 0 Tv))]⟩ [] 133 119 [(pc o5 13),(pi 4)]
 (.call ⟨[],[]⟩ [] 134 118 [(.r 133)]
 (.chk (ak o7 (pi 9))
 (.call ⟨[],[(7,(.setn o7 (pi 9) 0 (.r 134)))]⟩ [] 141 118 [(af (pc o5 2) (pi (-1)))]
 (.chk (ak o7 (pi 8))
 (.call ⟨[],[(7,(.setn o7 (pi 8) 0 (.r 141)))]⟩ [] 148 87 [(ax 8 o2),(pc o5 9)]
 (.call ⟨[],[]⟩ [] 153 87 [(ax 8 o2),(pc o5 10)]
 (.call ⟨[],[]⟩ [] 155 118 [(aW (.r 148) (.r 153))]
 (.chk (ak o7 (pi 11))
 (.brk ⟨[(10,(pi 0)),(9,pF)],[(7,(.setn o7 (pi 11) 0 (.r 155)))]⟩
(ab4 b)
 (.call ⟨[],[]⟩ [] 178 118 [r9]
 (.chk (ak o7 (pi 12))
 (.call ⟨[],[(7,(.setn o7 (pi 12) 0 (.r 178)))]⟩ [] 183 119 [(pc o6 8),(pi 1)]
 (.call ⟨[],[]⟩ [] 184 118 [(.r 183)]
 (.chk (ak o7 (pi 13))
 (.call ⟨[(11,(.mx (pc o3 20) (pi 0)))],[(7,(.setn o7 (pi 13) 0 (.r 184)))]⟩ [] 193 120 [(ax 19 o5),(pi 0),(pc o3 19)]
 (.chk (ak o7 (pi 15))
 (.call ⟨[],[(7,(.setn o7 (pi 15) 0 (.r 193)))]⟩ [] 199 120 [(ax 19 o5),(pi 1),(pc o3 19)]
 (.chk (ak o7 (pi 16))
 (.call ⟨[],[(7,(.setn o7 (pi 16) 0 (.r 199)))]⟩ [] 205 120 [(ax 19 o5),(pi 2),(pc o3 19)]
 (.chk (ak o7 (pi 17))
 (.call ⟨[],[(7,(.setn o7 (pi 17) 0 (.r 205)))]⟩ [] 210 120 [(ax 19 o5),(pi 3),bQ]
 (.chk (ak o7 (pi 18))
 (.call ⟨[],[(7,(.setn o7 (pi 18) 0 (.r 210)))]⟩ [] 215 120 [(ax 19 o5),(pi 4),bQ]
 (.chk (ak o7 (pi 19))
 (.ret (.setn o7 (pi 19) 0 (.r 215)))))))))))))))))))))))))))))))))))))))))))))))))))))))
def ak6:PT×List (Shp×PT):=(VG b,[(.lp 0 [9,10,157,158,159,160,161] [] [9,10] [],MJ b)])
def Sk:Am.map told=some (ak6 (bz Am)):=by kernel_rfl
def avD:tree (ae Am)=VG Oz:=cl Sk
def afu:round 0 [9,10,157,158,159,160,161] [] [9,10] [] (Oz 0)=MJ Oz:=bl Sk 0 λ_=>rfl
def IW:Option PC:=cF [] [] Tryz.f117 117 [2]
def VI:PT:=
 (.ret (.mk [(pc (.setc dk 0 (.mk [pT,r0])) 0),(pc (.setc dk 0 (.mk [pT,r0])) 1)]))
def adi:IW.map told=some (VI,[]):=by kernel_rfl
def avF:tree (ae IW)=VI:=aU adi
def IX:Option PC:=cF [] [] Tryz.f118 118 [2]
def Nx:PT:=
 (.iteS ⟨[],[(2,dk)]⟩ r0 [] [2]
 (.call ⟨[],[]⟩ [] 4 117 [(pi 1)]
 (.ret (.mk [(pc (.setc o2 0 r4) 0),(pc (.setc o2 0 r4) 1)])))
 (.next ⟨[],[]⟩)
 (.call ⟨[],[]⟩ [] 5 117 [(pi 0)]
 (.ret (.mk [(pc (.setc o2 0 r5) 0),(pc (.setc o2 0 r5) 1)]))))
def adj:IX.map told=some (Nx,[]):=by kernel_rfl
def avG:tree (ae IX)=Nx:=aU adj
def IV:Option PC:=cF [4] [] Tryz.f119 119 []
def VH:PT:=
 (.ret (af (.ai .and .i64 r0 r1) r1))
def adh:IV.map told=some (VH,[]):=by kernel_rfl
def avE:tree (ae IV)=VH:=aU adh
def IS:Option PC:=cF [4] [] Tryz.f87 87 [2]
def Vz:PT:=
 (.call ⟨[],[(2,(.mk [r0]))]⟩ [] 10 89 [r1,(pi 0),(bx (.llen mY) (pi 1))]
 (.ite cC
 (.chk (ak (pc o2 1) r1)
 (.ret (pc (pn (pc o2 1) r1) 1)))
 (.ret (pi (-1)))))
def adb:IS.map told=some (Vz,[]):=by kernel_rfl
def avv:tree (ae IS)=Vz:=aU adb
def IT:Option PC:=cF [6] [] Tryz.f89 89 []
def VA:PT:=
 (.ret (.pick (bD r1 r0) (bD r0 r2) pF))
def ade:IT.map told=some (VA,[]):=by kernel_rfl
def avw:tree (ae IT)=VA:=aU ade
def Al:Option PC:=cF [7] [] Tryz.f120 120 [3,6]
def Oy:Nat->PC:=bI Al
def apX:PC:=.block 0 [7,8,9,10,11,12] [6] (.loop [7] [6] (b 0))
def CO (b:Nat->PC):PT:=
 (.ite (aj r7 (.llen (pc o3 18)))
 (.chk (ak (pc o3 18) r7)
 (.chk (.nt (.an (.an (af (pc (pn (pc o3 18) r7) 0) r1) pT) (.nt (ak (pc o3 18) r7))))
 (.ite (.pick (af (pc (pn (pc o3 18) r7) 0) r1) (af (pc (pn (pc o3 18) r7) 1) r2) pF)
 (.ite (af (pc (pn (pc o3 18) r7) 2) (pi 0))
 (.ret (.mk [(pc (.setc o6 0 (.mk [pT,(pi 0)])) 0),(pc (.setc o6 0 (.mk [pT,(pi 0)])) 1)]))
 (.ret (.mk [(pc (.setc o6 0 (.mk [pT,(pi 1)])) 0),(pc (.setc o6 0 (.mk [pT,(pi 1)])) 1)])))
 (.next ⟨[(7,(bH r7 (pi 1)))],[]⟩))))
 (.exit 0 ⟨[(8,r7),(9,pN),(10,(pc o3 18)),(11,(.llen (pc o3 18))),(12,(aj r7 (.llen (pc o3 18))))],[]⟩))
def VE:PT:=
 (.brk ⟨[(7,(pi 0))],[(6,dk),(3,(.mk [r0]))]⟩
(apX b)
 (.ret Me))
def ak5:PT×List (Shp×PT):=(VE b,[(.lp 0 [7,8,9,10,11,12] [6] [7] [6],CO b)])
def Sj:Al.map told=some (ak5 (bz Al)):=by kernel_rfl
def avA:tree (ae Al)=VE Oy:=cl Sj
def MI:round 0 [7,8,9,10,11,12] [6] [7] [6] (Oy 0)=CO Oy:=bl Sj 0 λ_=>rfl
def Jc:Option PC:=cF [2] [] Tryz.f66 66 []
def VS:PT:=
 (.ret (.pick (cB r0 (pi 0)) (aj r0 (pi 22)) pF))
def ady:Jc.map told=some (VS,[]):=by kernel_rfl
def avY:tree (ae Jc)=VS:=aU ady
def As:Option PC:=cF [8,9,12,13,14] [] Tryz.f67 67 [4,10,11,78]
def OG:Nat->PC:=bI As
def ap4:PC:=.block 0 [8,9,11,12,47,48,49,50,51] [10,11] (.loop [8,9,11,12] [10,11] (b 0))
def T5 (b:Nat->PC):PT:=
 (.ite (bD cP rl)
 (.blockS ⟨[],[]⟩ 1 [8,9,11,13,14,54,55,58,59,61,62,63,64,65,66,67,70,71,73,74,77,78,79,80,81,83,84,85,86,87,94,96,97,98,99,101,102,103] [78,11,10]
 (.chk (ak iT Ma)
 (.call ⟨[],[]⟩ [] 64 90 [(ax 8 o4),(pn iT Ma),r2,r3]
 (.chk (ak iT Ma)
 (.ite (af uU (pn iT Ma))
 (.ret (.tup [iT,(pi 0)]))
 (.chk (bD (.llen Ga) cI)
 (.ite (.nt (.tget jx 1))
 (.ret (.tup [Ga,(pi 0)]))
 (.chk (ak cX uU)
 (.chk (.nt (.an (.an (pn cX uU) pT) (.nt (ak (pc o4 4) uU))))
 (.ite (.pick (pn cX uU) (pc (pn (pc o4 4) uU) 1) pF)
 (.ret (.tup [Ga,(pi 0)]))
 (.ite (pn cX uU)
 (.ret (.tup [Ga,(pi 12)]))
 (.next ⟨[(11,pN)],[(10,(.setn cX uU 0 pT)),(11,Ga)]⟩)))))))))))
 (.next ⟨[(12,(bH cP (pi 1)))],[]⟩))
 (.exit 0 ⟨[(47,cP),(48,pN),(49,(pc o4 4)),(50,rl),(51,(bD cP rl))],[]⟩))
def VX:PT:=
 (.call ⟨[(9,(pi 0)),(8,pL)],[(4,(.mk [r0]))]⟩ [] 17 88 [ky,r3]
 (.call ⟨[(19,(.nt gi))],[]⟩ [(19,false)] 25 89 [r1,(pi 0),(bx rl (pi 1))]
 (.call ⟨[(28,(.pick gR pT (.nt hH)))],[]⟩ [(28,false)] 30 89 [r2,(pi 0),(pi 21)]
 (.ite (.pick zl pT (.nt zm))
 (.ret (.tup [pL,(pi 1)]))
 (.chk (ak r3 (pi 0))
 (.ite (aW (pn r3 (pi 0)) r1)
 (.ret (.tup [pL,(pi 1)]))
 (.chk (.an (cB rl (pi 0)) (bD rl cI))
 (.chk (af rl rl)
 (.chk (ak (.rep rl pF) r1)
 (.brk ⟨[(12,(pi 0)),(11,pN),(10,pN)],[(10,(.setn (.rep rl pF) r1 0 pT)),(11,(.lst [r1]))]⟩
(ap4 b)
 (.ret (.tup [iT,(pi 12)]))))))))))))
def ald:PT×List (Shp×PT):=(VX b,[(.lp 0 [8,9,11,12,47,48,49,50,51] [10,11] [8,9,11,12] [10,11],T5 b)])
def Sr:As.map told=some (ald (bz As)):=by kernel_rfl
def av3:tree (ae As)=VX OG:=cl Sr
def atq:round 0 [8,9,11,12,47,48,49,50,51] [10,11] [8,9,11,12] [10,11] (OG 0)=T5 OG:=bl Sr 0 λ_=>rfl
def At:Option PC:=cF [4,5] [] Tryz.f88 88 [2]
def OH:Nat->PC:=bI At
def ap5:PC:=.block 0 [4,5,6,7,8,9] [] (.loop [4,5] [] (b 0))
def MK (b:Nat->PC):PT:=
 (.ite (aj r5 (.llen r1))
 (.blockS ⟨[],[]⟩ 1 [4,12,13,14,15,16,17,18,19,20,21] []
 (.chk (ak r1 r5)
 (.call ⟨[],[]⟩ [] 20 89 [(pn r1 r5),(pi 0),(bx (.llen (pc o2 4)) (pi 1))]
 (.ite (.nt gS)
 (.ret pF)
 (.next ⟨[],[]⟩))))
 (.next ⟨[(5,wT)],[]⟩))
 (.exit 0 ⟨[(6,r5),(7,r1),(8,(.llen r1)),(9,(aj r5 (.llen r1)))],[]⟩))
def VZ:PT:=
 (.brk ⟨[(5,(pi 0)),(4,pF)],[(2,(.mk [r0]))]⟩
(ap5 b)
 (.ret (af (.llen r1) (pi 5))))
def ale:PT×List (Shp×PT):=(VZ b,[(.lp 0 [4,5,6,7,8,9] [] [4,5] [],MK b)])
def Ss:At.map told=some (ale (bz At)):=by kernel_rfl
def av5:tree (ae At)=VZ OH:=cl Ss
def afv:round 0 [4,5,6,7,8,9] [] [4,5] [] (OH 0)=MK OH:=bl Ss 0 λ_=>rfl
def Jf:Option PC:=cF [8,9] [] Tryz.f90 90 [4,10]
def VY:PT:=
 (.call ⟨[],[(4,(.mk [r0]))]⟩ [] 13 88 [ky,r3]
 (.call ⟨[(15,(.nt dS))],[]⟩ [(15,false)] 21 89 [r1,(pi 0),(bx rl (pi 1))]
 (.call ⟨[(24,(.pick fj pT (.nt kV)))],[]⟩ [(24,false)] 26 89 [r2,(pi 0),(pi 21)]
 (.ite (.pick mu pT (.nt sN))
 (.ret (.tup [(pi (-1)),pF]))
 (.chk (ak (pc o4 4) r1)
 (.call ⟨[],[]⟩ [] 35 113 [(pn (pc o4 4) r1),r2]
 (.ite (af (pc (.setc uQ 0 wV) 1) (pi 0))
 (.ret (.tup [r1,pF]))
 (.chk (ak r3 (pc (.setc uQ 0 wV) 1))
 (.ret (.tup [(pn r3 (pc (.setc uQ 0 wV) 1)),(pc (.setc uQ 0 wV) 2)]))))))))))
def adB:Jf.map told=some (VY,[]):=by kernel_rfl
def av4:tree (ae Jf)=VY:=aU adB
def Ar:Option PC:=cF [5] [] Tryz.f113 113 [2,4]
def OF:Nat->PC:=bI Ar
def ap3:PC:=.block 0 [5,6,7,8,9,10] [4] (.loop [5] [4] (b 0))
def GA (b:Nat->PC):PT:=
 (.ite (aj r5 Cz)
 (.chk (ak (pc o2 2) r5)
 (.ite (af (pc (pn (pc o2 2) r5) 0) r1)
 (.ret (.mk [(pc (.setc o4 0 (pn (pc o2 2) r5)) 0),(pc (.setc o4 0 (pn (pc o2 2) r5)) 1),(pc (.setc o4 0 (pn (pc o2 2) r5)) 2)]))
 (.next ⟨[(5,wT)],[]⟩)))
 (.exit 0 ⟨[(6,r5),(7,pN),(8,(pc o2 2)),(9,Cz),(10,(aj r5 Cz))],[]⟩))
def VW:PT:=
 (.brk ⟨[(5,(pi 0))],[(4,uQ),(2,(.mk [r0]))]⟩
(ap3 b)
 (.ret (.mk [(pc (.setc o4 0 (.mk [r1,(pi 0),pF])) 0),(pc (.setc o4 0 (.mk [r1,(pi 0),pF])) 1),(pc (.setc o4 0 (.mk [r1,(pi 0),pF])) 2)])))
def alc:PT×List (Shp×PT):=(VW b,[(.lp 0 [5,6,7,8,9,10] [4] [5] [4],GA b)])
def Sq:Ar.map told=some (alc (bz Ar)):=by kernel_rfl
def av2:tree (ae Ar)=VW OF:=cl Sq
def T4:round 0 [5,6,7,8,9,10] [4] [5] [4] (OF 0)=GA OF:=bl Sq 0 λ_=>rfl
def Jb:Option PC:=cF [7,8] [] Tryz.f68 68 [3,6,9]
def VQ:PT:=
 (.call ⟨[],[(6,dk),(3,(.mk [r0]))]⟩ [] 12 91 [(ax 4 (.mk [r0])),r1]
 (.ite (aW cP (pi 0))
 (.ret (.tup [Me,cP]))
 (.call ⟨[(18,(pc o3 3))],[]⟩ [] 21 93 [(ax 4 o3),r1]
 (.chk (ak jU kV)
 (.call ⟨[],[]⟩ [] 26 92 [(.sub (pn jU kV) 1 3),r2]
 (.call ⟨[(29,(pc zh 0))],[(9,zh)]⟩ [(29,true)] 31 94 [r1]
 (.ret (.tup [(.mk [(pc (.setc o6 0 (.mk [(pc L9 0),(pc L9 1)])) 0),(pc (.setc o6 0 (.mk [(pc L9 0),(pc L9 1)])) 1)]),(pi 0)]))))))))
def adx:Jb.map told=some (VQ,[]):=by kernel_rfl
def avW:tree (ae Jb)=VQ:=aU adx
def Je:Option PC:=cF [4,5,6,7,8,9] [] Tryz.f91 91 [2]
def VV:PT:=
 (.call ⟨[],[(2,(.mk [r0]))]⟩ [] 11 66 [r1]
 (.ite (.nt bQ)
 (.ret (pi 1))
 (.call ⟨[],[]⟩ [] 15 93 [(ax 4 o2),r1]
 (.ite (aj fj (pi 0))
 (.ret (pi 4))
 (.chk (ak (pc o2 3) fj)
 (.call ⟨[],[]⟩ [] 25 114 [(.sub (pn (pc o2 3) fj) 1 3)]
 (.call ⟨[(7,(.tget hH 1)),(6,(.tget hH 0))],[]⟩ [] 30 115 [r1]
 (.ite (.pick (aW r7 (pi 0)) pT (aW r6 (.tget zm 0)))
 (.ret (pi 11))
 (.ret (pi 0))))))))))
def adA:Je.map told=some (VV,[]):=by kernel_rfl
def av1:tree (ae Je)=VV:=aU adA
def Aq:Option PC:=cF [4,5] [] Tryz.f93 93 [2]
def OE:Nat->PC:=bI Aq
def ap2:PC:=.block 0 [4,5,6,7,8,9,10] [] (.loop [4,5] [] (b 0))
def Gz (b:Nat->PC):PT:=
 (.ite (aj r5 (.llen (pc o2 3)))
 (.chk (ak (pc o2 3) r5)
 (.ite (af (pc (pn (pc o2 3) r5) 0) r1)
 (.ret r5)
 (.next ⟨[(5,wT)],[]⟩)))
 (.exit 0 ⟨[(6,r5),(7,pN),(8,(pc o2 3)),(9,(.llen (pc o2 3))),(10,(aj r5 (.llen (pc o2 3))))],[]⟩))
def VT:PT:=
 (.brk ⟨[(5,(pi 0)),(4,(pi 0))],[(2,(.mk [r0]))]⟩
(ap2 b)
 (.ret (pi (-1))))
def alb:PT×List (Shp×PT):=(VT b,[(.lp 0 [4,5,6,7,8,9,10] [] [4,5] [],Gz b)])
def Sp:Aq.map told=some (alb (bz Aq)):=by kernel_rfl
def avZ:tree (ae Aq)=VT OE:=cl Sp
def T3:round 0 [4,5,6,7,8,9,10] [] [4,5] [] (OE 0)=Gz OE:=bl Sp 0 λ_=>rfl
def IY:Option PC:=cF [2,3] [] Tryz.f114 114 [1]
def VJ:PT:=
 (.call ⟨[],[(1,(.mk [r0]))]⟩ [] 5 100 [F9,(pi 60),(pi 8)]
 (.ite (aj r5 (pi 0))
 (.ret (.tup [(pi 0),(pi 6)]))
 (.call ⟨[],[]⟩ [] 8 136 [Mj]
 (.ret (.tup [(.tget r8 0),(.tget r8 1)])))))
def adk:IY.map told=some (VJ,[]):=by kernel_rfl
def avH:tree (ae IY)=VJ:=aU adk
def Ao:Option PC:=cF [2,3,5,6,7,8,9,10] [] Tryz.f136 136 [1,4,33]
def OC:Nat->PC:=bI Ao
def ap0:PC:=.block 0 [2,3,4,5,12,13,14,15,16] [4] (.loop [2,3,4,5] [4] (b 0))
def Gx (b:Nat->PC):PT:=
 (.ite (aj r5 CB)
 (.blockS ⟨[],[]⟩ 1 [2,3,4,6,7,19,20,21,22,23,24,25,26,27,28,29,32,33,34] [4,33]
 (.chk (ak (pc o1 2) r5)
 (.call ⟨[],[]⟩ [] 25 136 [(pn (pc o1 2) r5)]
 (.ite (aW (.tget hH 1) (pi 0))
 (.ret (.tup [(pi 0),(.tget hH 1)]))
 (.chk (bD (.llen (.app o4 (.lst [(.tget hH 0)]))) cI)
 (.next ⟨[(4,pN)],[(4,(.app o4 (.lst [(.tget hH 0)])))]⟩)))))
 (.next ⟨[(5,wT)],[]⟩))
 (.exit 0 ⟨[(12,r5),(13,pN),(14,(pc o1 2)),(15,CB),(16,(aj r5 CB))],[]⟩))
def VP:PT:=
 (.brk ⟨[(5,(pi 0)),(4,pN),(3,(pi 0)),(2,(pi 0))],[(4,(.lst [])),(1,(.mk [r0]))]⟩
(ap0 b)
 (.ite (.pick (aj (pc o1 0) (pi 0)) pT (cB (pc o1 0) (pi 14)))
 (.ret (.tup [(pi 0),(pi 1)]))
 (.call ⟨[],[]⟩ [] 45 149 [(pc o1 0)]
 (.ite (.pick (aW (.llen o4) oP) pT (.pick (bP oP (pi 0)) (aW (pc o1 1) (pi 0)) pF))
 (.ret (.tup [(pi 0),(pi 2)]))
 (.iteS ⟨[],[]⟩ (af oP (pi 0)) [2,3] []
 (.call ⟨[],[]⟩ [] 62 150 [Mj]
 (.ret (.tup [(.tget lJ 0),(.tget lJ 1)])))
 (.next ⟨[],[]⟩)
 (.call ⟨[],[]⟩ [] 69 151 [(pc o1 0),o4]
 (.ite (.nt (.tget u3 1))
 (.ret (.tup [(pi 0),(pi 11)]))
 (.ret (.tup [(.tget u3 0),(pi 0)])))))))))
def ak9:PT×List (Shp×PT):=(VP b,[(.lp 0 [2,3,4,5,12,13,14,15,16] [4] [2,3,4,5] [4],Gx b)])
def Sn:Ao.map told=some (ak9 (bz Ao)):=by kernel_rfl
def avV:tree (ae Ao)=VP OC:=cl Sn
def TZ:round 0 [2,3,4,5,12,13,14,15,16] [4] [2,3,4,5] [4] (OC 0)=Gx OC:=bl Sn 0 λ_=>rfl
def I5:Option PC:=cF [2,4,8,10] [] Tryz.f149 149 []
def xm:PT:=
 (.ite (.pick (af r0 (pi 0)) (af r0 (pi 0)) (.pick (af r0 (pi 1)) (af r0 (pi 1)) (af r0 (pi 2))))
 (.ret (pi 0))
 (.ite (af r0 (pi 3))
 (.ret (pi 1))
 (.ite (af r0 (pi 6))
 (.ret (pi 3))
 (.ret (pi 2)))))
def adr:I5.map told=some (xm,[]):=by kernel_rfl
def avO:tree (ae I5)=xm:=aU adr
def I7:Option PC:=cF [2,3,4,5] [] Tryz.f150 150 [1]
def xn:PT:=
 (.ite (af mZ (pi 0))
 (.ite (.pick (aj mY (pi (-1099511627776))) pT (bP mY rj))
 (.ret (.tup [(pi 0),(pi 3)]))
 (.ret (.tup [(pi 0),(pi 0)])))
 (.ite (af mZ (pi 1))
 (.ite (.pick (aW mY (pi 0)) (aW mY (pi 1)) pF)
 (.ret (.tup [(pi 0),(pi 3)]))
 (.ret (.tup [(pi 1),(pi 0)])))
 (.call ⟨[],[]⟩ [] 31 152 [mY]
 (.ite (.nt (.tget sP 1))
 (.ret (.tup [(pi 0),(pi 10)]))
 (.ret (.tup [(.tget sP 0),(pi 0)]))))))
def adt:I7.map told=some (xn,[]):=by kernel_rfl
def avR:tree (ae I7)=xn:=aU adt
def I4:Option PC:=cF [2,3] [] Tryz.f152 152 []
def C6:PT:=
 (.ite (.pick zd pT (cB r0 (pi 20)))
 (.ret (.tup [(pi 0),pF]))
 (.ite (bD r0 (pi 6))
 (.ret (.tup [(pi 0),pT]))
 (.ret (.tup [(pi 1),pT]))))
def adq:I4.map told=some (C6,[]):=by kernel_rfl
def avN:tree (ae I4)=C6:=aU adq
def I6:Option PC:=cF [4,5,7,13,26,44,56] [] Tryz.f151 151 []
def vc:PT:=
 (.ite (af r0 (pi 3))
 (.chk sL
 (.ret (.tup [(pi 1),Cv])))
 (.ite (.pick (af r0 (pi 4)) (af r0 (pi 4)) (af r0 (pi 5)))
 (.chk sL
 (.chk (.nt (.an (.an Cv pT) (.nt rp)))
 (.ret (.tup [(pi 1),(.pick Cv (af lH (pi 1)) pF)]))))
 (.ite (af r0 (pi 6))
 (.chk rp
 (.chk sL
 (.chk (.nt (.an (.an Cv pT) (.nt rp)))
 (.chk (.nt (.an (.an Cv pT) (.nt (ak r1 (pi 2)))))
 (.ret (.tup [lH,(.pick Cv (af lH (pn r1 (pi 2))) pF)]))))))
 (.ite (af r0 (pi 7))
 (.chk sL
 (.chk (.nt (.an (.an (af oO (pi 0)) pT) (.nt rp)))
 (.ret (.tup [(pi 1),(.pick (af oO (pi 0)) (af lH (pi 0)) pF)]))))
 (.ite (af r0 (pi 8))
 (.chk sL
 (.chk rp
 (.ret (.tup [(pi 1),(af oO lH)]))))
 (.chk sL
 (.chk (.nt (.an (.an (af oO (pi 0)) pT) (.nt rp)))
 (.ret (.tup [(pi 0),(.pick (af oO (pi 0)) (af lH (pi 0)) pF)])))))))))
def ads:I6.map told=some (vc,[]):=by kernel_rfl
def avQ:tree (ae I6)=vc:=aU ads
def Jd:Option PC:=cF [2,3] [] Tryz.f115 115 []
def VU:PT:=
 (.call ⟨[],[]⟩ [] 5 66 [r0]
 (.ite (.nt r5)
 (.ret (.tup [(pi 0),pF]))
 (.call ⟨[],[]⟩ [] 8 94 [r0]
 (.ite r8
 (.ret (.tup [(pi 1),pT]))
 (.ret (.tup [(pi 0),pT]))))))
def adz:Jd.map told=some (VU,[]):=by kernel_rfl
def av0:tree (ae Jd)=VU:=aU adz
def IQ:Option PC:=cF [2,4] [] Tryz.f94 94 []
def Nw:PT:=
 (.ite (.pick (af r0 (pi 6)) (af r0 (pi 6)) (.pick (af r0 (pi 7)) (af r0 (pi 7)) (.pick (af r0 (pi 10)) (af r0 (pi 10)) (.pick (af r0 (pi 12)) (af r0 (pi 12)) (.pick (af r0 (pi 13)) (af r0 (pi 13)) (.pick (af r0 (pi 14)) (af r0 (pi 14)) (.pick (af r0 (pi 15)) (af r0 (pi 15)) (.pick (af r0 (pi 16)) (af r0 (pi 16)) (.pick (af r0 (pi 20)) (af r0 (pi 20)) (af r0 (pi 21)))))))))))
 (.ret pF)
 (.call ⟨[],[]⟩ [] 16 89 [r0,(pi 0),(pi 21)]
 (.ret dt)))
def ada:IQ.map told=some (Nw,[]):=by kernel_rfl
def avu:tree (ae IQ)=Nw:=aU ada
def I0:Option PC:=cF [5,6] [] Tryz.f92 92 [2,4]
def VK:PT:=
 (.call ⟨[],[(4,dk),(2,(.mk [r0]))]⟩ [] 9 114 [F9]
 (.ite (aW (.tget r9 1) (pi 0))
 (.ret uP)
 (.call ⟨[],[]⟩ [] 17 116 [(.mk [(pc o2 0),(pc o2 1),(pc o2 2)]),r1]
 (.ret (.mk [(pc (.setc o4 0 gi) 0),(pc (.setc o4 0 gi) 1)])))))
def adm:I0.map told=some (VK,[]):=by kernel_rfl
def avJ:tree (ae I0)=VK:=aU adm
def An:Option PC:=cF [9,15,6,41,55,64,73] [] Tryz.f116 116 [2,4,5,37]
def OA:Nat->PC:=bI An
def apY:PC:=.block 1 [5,6,22,23,24,25,26] [5] (.loop [5,6] [5] (b 0))
def rv (b:Nat->PC):PT:=
 (.ite (aj r6 Cz)
 (.blockS ⟨[],[]⟩ 2 [5,30,31,32,33,34,35,36,37,38] [5,37]
 (.chk (ak (pc o2 2) r6)
 (.call ⟨[],[]⟩ [] 36 116 [(pn (pc o2 2) r6),r1]
 (.chk (bD (.llen (.app o5 (.lst [m4]))) cI)
 (.next ⟨[(5,pN)],[(5,(.app o5 (.lst [m4])))]⟩))))
 (.next ⟨[(6,zc)],[]⟩))
 (.exit 1 ⟨[(22,r6),(23,pN),(24,(pc o2 2)),(25,Cz),(26,(aj r6 Cz))],[]⟩))
def Ho:PT:=
 (.blockS ⟨[(8,mZ)],[(4,dk),(2,(.mk [r0]))]⟩ 0 [9,10,15,16] [4]
 (.iteS ⟨[],[]⟩ (.pick (af r8 (pi 0)) (af r8 (pi 0)) (af r8 (pi 1))) [15,16] [4]
 (.ret (.mk [(pc (.setc o4 0 (.mk [pT,(pc o2 1)])) 0),(pc (.setc o4 0 (.mk [pT,(pc o2 1)])) 1)]))
 (.iteS ⟨[],[]⟩ (af r8 (pi 2)) [] [4]
 (.call ⟨[],[]⟩ [] 20 137 [(pc o2 1),r1]
 (.ret (.mk [(pc (.setc o4 0 gS) 0),(pc (.setc o4 0 gS) 1)])))
 (.next ⟨[],[]⟩)
 (.next ⟨[],[]⟩))
 (.next ⟨[],[]⟩))
 (.brk ⟨[(6,(pi 0)),(5,pN)],[(5,(.lst []))]⟩
(apY b)
 (.blockS ⟨[(40,(pc o2 0))],[]⟩ 3 [41,42,55,56,64,65,73,74] [4]
 (.iteS ⟨[],[]⟩ (af p8 (pi 3)) [55,56,64,65,73,74] [4]
 (.chk (ak o5 (pi 0))
 (.ite (.nt (pc p6 0))
 (.ret uP)
 (.ret (.mk [(pc (.setc o4 0 (.mk [pT,(bx (pi 1) (pc p6 1))])) 0),(pc (.setc o4 0 (.mk [pT,(bx (pi 1) (pc p6 1))])) 1)]))))
 (.iteS ⟨[],[]⟩ (af p8 (pi 4)) [64,65,73,74] [4]
 (.chk (ak o5 (pi 0))
 (.chk (ak o5 (pi 1))
 (.call ⟨[],[]⟩ [] 63 138 [(.sub p6 0 2),(.sub uV 0 2),(pi 0)]
 (.ret (.mk [(pc (.setc o4 0 zp) 0),(pc (.setc o4 0 zp) 1)])))))
 (.iteS ⟨[],[]⟩ (af p8 (pi 5)) [73,74] [4]
 (.chk (ak o5 (pi 0))
 (.chk (ak o5 (pi 1))
 (.call ⟨[],[]⟩ [] 72 138 [(.sub p6 0 2),(.sub uV 0 2),(pi 1)]
 (.ret (.mk [(pc (.setc o4 0 CJ) 0),(pc (.setc o4 0 CJ) 1)])))))
 (.ite (af p8 (pi 6))
 (.chk (ak o5 (pi 0))
 (.ite (pc p6 0)
 (.chk (ak o5 (bx (pi 2) (pc p6 1)))
 (.ret (.mk [(pc (.setc o4 0 (.sub (pn o5 (bx (pi 2) (pc p6 1))) 0 2)) 0),(pc (.setc o4 0 (.sub (pn o5 (bx (pi 2) (pc p6 1))) 0 2)) 1)])))
 (.chk (ak o5 (pi 1))
 (.chk (.nt (.an (.an (pc uV 0) pT) (.nt (ak o5 (pi 2)))))
 (.chk (.nt (.an (.an Ts pT) (.nt (ak o5 (pi 1)))))
 (.chk (.nt (.an (.an Ts pT) (.nt (ak o5 (pi 2)))))
 (.ite (.pick Ts (af (pc uV 1) (pc (pn o5 (pi 2)) 1)) pF)
 (.ret (.mk [(pc (.setc o4 0 (.sub uV 0 2)) 0),(pc (.setc o4 0 (.sub uV 0 2)) 1)]))
 (.ret uP))))))))
 (.next ⟨[],[]⟩))
 (.next ⟨[],[]⟩))
 (.next ⟨[],[]⟩))
 (.next ⟨[],[]⟩))
 (.chk (ak o5 (pi 0))
 (.chk (.nt (.an (.an (.nt (.nt (pc p6 0))) pT) (.nt (ak o5 (pi 1)))))
 (.ite (.pick (.nt (pc p6 0)) pT (.nt (pc uV 0)))
 (.ret uP)
 (.chk (ak o5 (pi 1))
 (.call ⟨[],[]⟩ [] 135 139 [(pc o2 0),(pc p6 1),(pc uV 1)]
 (.ret (.mk [(pc (.setc o4 0 (.r 135)) 0),(pc (.setc o4 0 (.r 135)) 1)]))))))))))
def ak7:PT×List (Shp×PT):=(Ho b,[(.lp 1 [5,6,22,23,24,25,26] [5] [5,6] [5],rv b)])
def Sl:An.map told=some (ak7 (bz An)):=by kernel_rfl
def avP:tree (ae An)=Ho OA:=cl Sl
def u4:round 1 [5,6,22,23,24,25,26] [5] [5,6] [5] (OA 0)=rv OA:=bl Sl 0 λ_=>rfl
def I3:Option PC:=cF [6,7] [] Tryz.f137 137 [4,5]
def VM:PT:=
 (.ite (.pick zd pT (cB r0 (.llen r1)))
 (.ret Md)
 (.chk (ak r1 r0)
 (.ite (.nt (pc (.setc dk 0 (pn r1 r0)) 0))
 (.ret Md)
 (.call ⟨[],[(4,dk),(5,(.setc dk 0 (pn r1 r0)))]⟩ [] 27 152 [r0]
 (.iteS ⟨[],[]⟩ (af (.tget gj 0) (pi 0)) [] [4]
 (.call ⟨[],[]⟩ [] 34 153 [(pc o5 1)]
 (.ret (.mk [(pc (.setc o4 0 (.mk [pT,Mn])) 0),(pc (.setc o4 0 (.mk [pT,Mn])) 1)])))
 (.next ⟨[],[]⟩)
 (.ite (aW (pc o5 1) (pi 0))
 (.ret (.mk [(pc (.setc o4 0 (.mk [pT,(pi 1)])) 0),(pc (.setc o4 0 (.mk [pT,(pi 1)])) 1)]))
 (.ret (.mk [(pc (.setc o4 0 (.mk [pT,(pi 0)])) 0),(pc (.setc o4 0 (.mk [pT,(pi 0)])) 1)]))))))))
def adp:I3.map told=some (VM,[]):=by kernel_rfl
def avM:tree (ae I3)=VM:=aU adp
def IZ:Option PC:=cF [2] [] Tryz.f153 153 []
def Ny:PT:=
 (.ret (.mx (pi (-1099511627776)) (.mn rj r0)))
def adl:IZ.map told=some (Ny,[]):=by kernel_rfl
def avI:tree (ae IZ)=Ny:=aU adl
def I8:Option PC:=cF [] [] Tryz.f138 138 [3,4,6]
def VN:PT:=
 (.ite (.pick (.pick mZ (af mY r2) pF) pT (.pick (pc (.mk [r1]) 0) (af (pc (.mk [r1]) 1) r2) pF))
 (.ret (.mk [(pc (.setc dk 0 (.mk [pT,r2])) 0),(pc (.setc dk 0 (.mk [pT,r2])) 1)]))
 (.ite (.pick mZ (pc (.mk [r1]) 0) pF)
 (.ret (.mk [(pc (.setc dk 0 (.mk [pT,(bx (pi 1) r2)])) 0),(pc (.setc dk 0 (.mk [pT,(bx (pi 1) r2)])) 1)]))
 (.ret Md)))
def adu:I8.map told=some (VN,[]):=by kernel_rfl
def avS:tree (ae I8)=VN:=aU adu
def I9:Option PC:=cF [8,14,20,27,34,40] [] Tryz.f139 139 [6]
def vd:PT:=
 (.blockS ⟨[(7,r0)],[(6,dk)]⟩ 0 [8,9,14,15,20,21,27,28,34,35,40,41] [6]
 (.iteS ⟨[],[]⟩ (af r7 (pi 7)) [14,15,20,21,27,28,34,35,40,41] [6]
 (.call ⟨[],[]⟩ [] 13 154 [(aj r1 r2)]
 (.ret (.mk [(pc (.setc o6 0 dS) 0),(pc (.setc o6 0 dS) 1)])))
 (.iteS ⟨[],[]⟩ (af r7 (pi 8)) [20,21,27,28,34,35,40,41] [6]
 (.call ⟨[],[]⟩ [] 19 154 [(af r1 r2)]
 (.ret (.mk [(pc (.setc o6 0 gR) 0),(pc (.setc o6 0 gR) 1)])))
 (.iteS ⟨[],[]⟩ (af r7 (pi 9)) [27,28,34,35,40,41] [6]
 (.call ⟨[],[]⟩ [] 25 153 [(bH r1 r2)]
 (.ret (.mk [(pc (.setc o6 0 (.mk [pT,hH])) 0),(pc (.setc o6 0 (.mk [pT,hH])) 1)])))
 (.iteS ⟨[],[]⟩ (af r7 (pi 10)) [34,35,40,41] [6]
 (.call ⟨[],[]⟩ [] 32 153 [(bx r1 r2)]
 (.ret (.mk [(pc (.setc o6 0 (.mk [pT,m3])) 0),(pc (.setc o6 0 (.mk [pT,m3])) 1)])))
 (.iteS ⟨[],[]⟩ (af r7 (pi 11)) [40,41] [6]
 (.call ⟨[],[]⟩ [] 38 155 [r1,r2]
 (.ret (.mk [(pc (.setc o6 0 (.mk [pT,lI])) 0),(pc (.setc o6 0 (.mk [pT,lI])) 1)])))
 (.ite (af r7 (pi 12))
 (.ret (.mk [(pc (.setc o6 0 (.mk [pT,(.mn r1 r2)])) 0),(pc (.setc o6 0 (.mk [pT,(.mn r1 r2)])) 1)]))
 (.next ⟨[],[]⟩))
 (.next ⟨[],[]⟩))
 (.next ⟨[],[]⟩))
 (.next ⟨[],[]⟩))
 (.next ⟨[],[]⟩))
 (.next ⟨[],[]⟩))
 (.ret (.mk [(pc (.setc o6 0 (.mk [pT,(.mx r1 r2)])) 0),(pc (.setc o6 0 (.mk [pT,(.mx r1 r2)])) 1)])))
def adv:I9.map told=some (vd,[]):=by kernel_rfl
def avT:tree (ae I9)=vd:=aU adv
def Ja:Option PC:=cF [] [] Tryz.f154 154 [2]
def VO:PT:=
 (.ite r0
 (.ret Tl)
 (.ret Tn))
def adw:Ja.map told=some (VO,[]):=by kernel_rfl
def avU:tree (ae Ja)=VO:=aU adw
def I2:Option PC:=cF [4,5,6] [] Tryz.f155 155 []
def Nz:PT:=
 (.ite (.pick (af r0 (pi 0)) pT (af r1 (pi 0)))
 (.ret (pi 0))
 (.chk (aW (.mx r1 (bx (pi 0) r1)) (pi 0))
 (.ite (.cb .neq zd (aj r1 (pi 0)))
 (.ret (.ai .mul .i64 (bx (pi 0) (.pick Mc rj (.mx r0 (bx (pi 0) r0)))) (.pick Mc (pi 1) (.mx r1 (bx (pi 0) r1)))))
 (.ret (.ai .mul .i64 (.pick Mc rj (.mx r0 (bx (pi 0) r0))) (.pick Mc (pi 1) (.mx r1 (bx (pi 0) r1))))))))
def ado:I2.map told=some (Nz,[]):=by kernel_rfl
def avL:tree (ae I2)=Nz:=aU ado
def Aj:Option PC:=cF [4,5,6,7,8] [] Tryz.f15 15 [2,3]
def tM:Nat->PC:=bI Aj
def apP:PC:=.block 0 [4,5,50,51,52,53,54] [] (.loop [4,5] [] (b 0))
def apQ:PC:=.block 2 [4,6,68,69,70,71,72] [] (.loop [4,6] [] (b 1))
def apR:PC:=.block 4 [4,7,86,87,88,89,90] [] (.loop [4,7] [] (b 2))
def apS:PC:=.block 6 [4,8,104,105,106,107,108] [] (.loop [4,8] [] (b 3))
def MD (b:Nat->PC):PT:=
 (.ite zg
 (.chk (ak (pc o2 15) r5)
 (.chk (ak (pc o3 15) r5)
 (.ite (.nt (.an (af (pc rk 0) (pc uS 0)) (.an (af (pc rk 1) (pc uS 1)) (.an (af (pc rk 2) (pc uS 2)) (.an (af (pc rk 3) (pc uS 3)) (.an (af (pc rk 4) (pc uS 4)) (.an (af (pc rk 5) (pc uS 5)) (.an (af (pc rk 6) (pc uS 6)) (.an (af (pc rk 7) (pc uS 7)) (.an (af (pc rk 8) (pc uS 8)) pT))))))))))
 (.ret pF)
 (.next ⟨[(5,wT)],[]⟩))))
 (.exit 0 ⟨[(50,r5),(51,pN),(52,(pc o2 15)),(53,(.llen (pc o2 15))),(54,zg)],[]⟩))
def ME (b:Nat->PC):PT:=
 (.ite (aj r6 zj)
 (.chk (ak (pc o2 16) r6)
 (.chk (ak (pc o3 16) r6)
 (.ite (.nt (.an (af (pc (pn (pc o2 16) r6) 0) (pc (pn (pc o3 16) r6) 0)) (.an (af (pc (pn (pc o2 16) r6) 1) (pc (pn (pc o3 16) r6) 1)) pT)))
 (.ret pF)
 (.next ⟨[(6,zc)],[]⟩))))
 (.exit 2 ⟨[(68,r6),(69,pN),(70,(pc o2 16)),(71,zj),(72,(aj r6 zj))],[]⟩))
def MF (b:Nat->PC):PT:=
 (.ite (aj r7 sJ)
 (.chk (ak (pc o2 17) r7)
 (.chk (ak (pc o3 17) r7)
 (.ite (.nt (.an (af (pc uT 0) (pc uR 0)) (.an (af (pc uT 1) (pc uR 1)) (.an (af (pc uT 2) (pc uR 2)) (.an (af (pc uT 3) (pc uR 3)) (.an (af (pc uT 4) (pc uR 4)) (.an (af (pc uT 5) (pc uR 5)) (.an (af (pc uT 6) (pc uR 6)) (.an (af (pc uT 7) (pc uR 7)) (.an (af (pc uT 8) (pc uR 8)) pT))))))))))
 (.ret pF)
 (.next ⟨[(7,(bH r7 (pi 1)))],[]⟩))))
 (.exit 4 ⟨[(86,r7),(87,pN),(88,(pc o2 17)),(89,sJ),(90,(aj r7 sJ))],[]⟩))
def MG (b:Nat->PC):PT:=
 (.ite (aj r8 zi)
 (.chk (ak (pc o2 18) r8)
 (.chk (ak (pc o3 18) r8)
 (.ite (.nt (.an (af (pc (pn (pc o2 18) r8) 0) (pc (pn (pc o3 18) r8) 0)) (.an (af (pc (pn (pc o2 18) r8) 1) (pc (pn (pc o3 18) r8) 1)) (.an (af (pc (pn (pc o2 18) r8) 2) (pc (pn (pc o3 18) r8) 2)) pT))))
 (.ret pF)
 (.next ⟨[(8,rn)],[]⟩))))
 (.exit 6 ⟨[(104,r8),(105,pN),(106,(pc o2 18)),(107,zi),(108,(aj r8 zi))],[]⟩))
def VC:PT:=
 (.ite (.pick (.pick (.pick (.pick (.nt (.an (af (pc mm 0) (pc kU 0)) (.an (af (pc mm 1) (pc kU 1)) (.an (af (pc mm 2) (pc kU 2)) (.an (af (pc mm 3) (pc kU 3)) (.an (af (pc mm 4) (pc kU 4)) (.an (.an (af (pc mm 5) (pc kU 5)) (.an (af (pc mm 6) (pc kU 6)) (.an (af (pc mm 7) (pc kU 7)) pT))) (.an (af (pc mm 8) (pc kU 8)) (.an (af (pc mm 9) (pc kU 9)) (.an (af (pc mm 10) (pc kU 10)) (.an (af (pc mm 11) (pc kU 11)) (.an (af (pc mm 12) (pc kU 12)) (.an (af (pc mm 13) (pc kU 13)) (.an (af (pc mm 14) (pc kU 14)) pT)))))))))))))) pT (aW (.llen sI) (.llen (pc (.mk [r1]) 15)))) pT (aW (.llen (pc (.mk [r0]) 16)) (.llen (pc (.mk [r1]) 16)))) pT (aW (.llen (pc (.mk [r0]) 17)) (.llen (pc (.mk [r1]) 17)))) pT (aW F8 (.llen (pc (.mk [r1]) 18))))
 (.ret pF)
 (.brk ⟨[(5,(pi 0)),(4,pF)],[(3,(.mk [r1])),(2,(.mk [r0]))]⟩
(apP b)
 (.brk ⟨[(6,(pi 0))],[]⟩
(apQ b)
 (.brk ⟨[(7,(pi 0))],[]⟩
(apR b)
 (.brk ⟨[(8,(pi 0))],[]⟩
(apS b)
 (.ret pT))))))
def ak3:PT×List (Shp×PT):=(VC b,[(.lp 0 [4,5,50,51,52,53,54] [] [4,5] [],MD b),(.lp 2 [4,6,68,69,70,71,72] [] [4,6] [],ME b),(.lp 4 [4,7,86,87,88,89,90] [] [4,7] [],MF b),(.lp 6 [4,8,104,105,106,107,108] [] [4,8] [],MG b)])
def B8:Aj.map told=some (ak3 (bz Aj)):=by kernel_rfl
def avy:tree (ae Aj)=VC tM:=cl B8
def afp:round 0 [4,5,50,51,52,53,54] [] [4,5] [] (tM 0)=MD tM:=bl B8 0 λ_=>rfl
def afq:round 2 [4,6,68,69,70,71,72] [] [4,6] [] (tM 1)=ME tM:=bl B8 1 λ_=>rfl
def afr:round 4 [4,7,86,87,88,89,90] [] [4,7] [] (tM 2)=MF tM:=bl B8 2 λ_=>rfl
def afs:round 6 [4,8,104,105,106,107,108] [] [4,8] [] (tM 3)=MG tM:=bl B8 3 λ_=>rfl
def AR:Option PC:=cF [4,5] [] Tryz.f34 34 []
def OW:Nat->PC:=bI AR
def aqB:PC:=.block 0 [4,8,9] [] (.loop [4,8] [] (b 0))
def GX (b:Nat->PC):PT:=
 (.ite (aj r8 r7)
 (.blockS ⟨[],[]⟩ 1 [4,5,10,11,12,13,14,15,16] []
 (.chk (ak r0 r8)
 (.callc ⟨[(5,r8)],[]⟩ [] 16 r1 [(pn r0 r8)]
 (.ite dt
 (.ret r5)
 (.next ⟨[],[]⟩))))
 (.next ⟨[(8,rn)],[]⟩))
 (.exit 0 ⟨[(9,(aj r8 r7))],[]⟩))
def WE:PT:=
 (.brk ⟨[(8,(pi 0)),(7,(.llen r0)),(4,(pi 0))],[]⟩
(aqB b)
 (.ret (pi (-1))))
def alD:PT×List (Shp×PT):=(WE b,[(.lp 0 [4,8,9] [] [4,8] [],GX b)])
def SJ:AR.map told=some (alD (bz AR)):=by kernel_rfl
def awN:tree (ae AR)=WE OW:=cl SJ
def Us:round 0 [4,8,9] [] [4,8] [] (OW 0)=GX OW:=bl SJ 0 λ_=>rfl
def Iu:Option PC:=cF [4] [] Tryz.f32 32 [3]
def U6:PT:=
 (.ret (.pick (af mZ (.deref r1)) (af mY (.deref r2)) pF))
def acP:Iu.map told=some (U6,[]):=by kernel_rfl
def auY:tree (ae Iu)=U6:=aU acP
def Iv:Option PC:=cF [4] [] Tryz.f36 36 [3]
def U7:PT:=
 (.call ⟨[],[(3,(.mk [r0]))]⟩ [] 8 38 [mY,(.deref r1)]
 (.call ⟨[],[]⟩ [] 12 38 [(pc o3 0),(.deref r2)]
 (.call ⟨[],[]⟩ [] 14 37 [(.lst [r8,cP])]
 (.ret (bP cG (pi 0))))))
def acQ:Iv.map told=some (U7,[]):=by kernel_rfl
def auZ:tree (ae Iv)=U7:=aU acQ
def Iq:Option PC:=nu {ctx with fr:=[6],nh:=[]} Tryz.f83 ⟨[Y8,I,fE],.slice I,.dat⟩ [3,5,7,8,42,9]
def U3:PT:=
 (.chk (ak (pc (.mk [r2]) 15) (pc (.mk [r2]) 19))
 (.ite aeG
 (.ret pL)
 (.chk Tc
 (.chk (af (pi 5) (pi 5))
 (.chk (ak CG (pi 0))
 (.call ⟨[],[(9,(.setn CG (pi 0) 0 r1)),(8,(.setc NK 0 (ax 15 (.mk [r2])))),(7,CD),(3,(.mk [r0]))]⟩ [] 50 106 [ky,(pc CD 7)]
 (.chk (ak o9 (pi 1))
 (.call ⟨[],[(9,(.setn o9 (pi 1) 0 kW))]⟩ [] 56 106 [(ax 8 o3),(pc o8 10)]
 (.chk (ak o9 (pi 2))
 (.call ⟨[],[(9,(.setn o9 (pi 2) 0 nN))]⟩ [] 62 106 [(ax 8 o3),(pc o8 9)]
 (.chk (ak o9 (pi 3))
 (.chk (ak (pc o3 3) (pc o7 2))
 (.call ⟨[],[(9,(.setn o9 (pi 3) 0 lJ))]⟩ [] 73 106 [(ax 8 o3),(pc (pn (pc o3 3) (pc o7 2)) 1)]
 (.chk (ak o9 (pi 4))
 (.call ⟨[],[(9,(.setn o9 (pi 4) 0 zq))]⟩ [] 76 105 [(.setn o9 (pi 4) 0 zq),(pi (-1))]
 (.ite wZ
 (.ret pL)
 (.ret o9)))))))))))))))))
def acL:Iq.map told=some (U3,[]):=by kernel_rfl
def auU:tree (ae Iq)=U3:=aU acL
def Ir:Option PC:=nu {ctx with fr:=[6],nh:=[]} Tryz.f83 ⟨[Y8,I,fE],.nils .bool,.dat⟩ [3,5,7,8,42,9]
def Ns:PT:=
 (.chk (ak (pc (.mk [r2]) 15) (pc (.mk [r2]) 19))
 (.ite aeG
 (.ret pL)
 (.chk Tc
 (.chk (af (pi 5) (pi 5))
 (.chk (ak CG (pi 0))
 (.call ⟨[],[(9,(.setn CG (pi 0) 0 r1)),(8,(.setc NK 0 (ax 15 (.mk [r2])))),(7,CD),(3,(.mk [r0]))]⟩ [] 50 106 [ky,(pc CD 7)]
 (.chk (ak o9 (pi 1))
 (.call ⟨[],[(9,(.setn o9 (pi 1) 0 kW))]⟩ [] 56 106 [(ax 8 o3),(pc o8 10)]
 (.chk (ak o9 (pi 2))
 (.call ⟨[],[(9,(.setn o9 (pi 2) 0 nN))]⟩ [] 62 106 [(ax 8 o3),(pc o8 9)]
 (.chk (ak o9 (pi 3))
 (.chk (ak (pc o3 3) (pc o7 2))
 (.call ⟨[],[(9,(.setn o9 (pi 3) 0 lJ))]⟩ [] 73 106 [(ax 8 o3),(pc (pn (pc o3 3) (pc o7 2)) 1)]
 (.chk (ak o9 (pi 4))
 (.call ⟨[],[]⟩ [] 76 105 [(.setn o9 (pi 4) 0 zq),(pi (-1))]
 (.ite wZ
 (.ret pL)
 (.chk pF
 (.next ⟨[],[]⟩))))))))))))))))))
def acM:Ir.map told=some (Ns,[]):=by kernel_rfl
def auV:tree (ae Ir)=Ns:=aU acM
end Rm
