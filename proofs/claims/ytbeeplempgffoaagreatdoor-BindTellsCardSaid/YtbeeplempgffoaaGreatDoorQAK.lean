/-
  The functions of this seat, compiled (3).
-/
import Derived.Test.YtbeeplempgffoaaGreatDoorQAH
import Derived.KernelRfl
set_option linter.unusedVariables false
set_option maxRecDepth 100000
noncomputable section
namespace Rm
open Go Go.Proofs Cx
def yn:Option PC:=cF [5,6,8,9] [] Tryz.f28 28 [2,4,46,52,7,69639,77831,81,115]
def qV:Nat→PC:=bf yn
def aom (b:Nat→PC):PC:=.block 0 [5,10,11,12,13,14,15,24] [] (.loop [5] [] (b 0))
def aon (b:Nat→PC):PC:=.block 2 [6,27,28,29,30,31,32,41] [] (.loop [6] [] (b 1))
def aoo (b:Nat→PC):PC:=.block 4 [8,59,60,61,62,63] [7,69639] (.loop [8] [7,69639] (b 2))
def aop (b:Nat→PC):PC:=.block 6 [9,84,85,86,87,88] [7,77831] (.loop [9] [7,77831] (b 3))
def EB (b:Nat→PC):PT:=
 (.chk (.nt (.an (.an D0 pT) (.nt (ao (pc o2 15) r5))))
 (.ite (.pick D0 (aX (pc (pn (pc o2 15) r5) 6) r1) pF)
 (.next ⟨[(5,lH)],[]⟩)
 (.exit 0 ⟨[(10,r5),(11,pN),(12,(pc o2 15)),(13,(.llen (pc o2 15))),(14,D0),(15,D0),(24,(.pick D0 (aX (pc (pn (pc o2 15) r5) 6) r1) pF))],[]⟩)))
def EC (b:Nat→PC):PT:=
 (.chk (.nt (.an (.an DZ pT) (.nt (ao (pc o2 17) r6))))
 (.ite (.pick DZ (aX (pc (pn (pc o2 17) r6) 6) r1) pF)
 (.next ⟨[(6,wR)],[]⟩)
 (.exit 2 ⟨[(27,r6),(28,pN),(29,(pc o2 17)),(30,(.llen (pc o2 17))),(31,DZ),(32,DZ),(41,(.pick DZ (aX (pc (pn (pc o2 17) r6) 6) r1) pF))],[]⟩)))
def ED (b:Nat→PC):PT:=
 (.ite (ah r8 wN)
 (.chk (ao (pc o2 16) r8)
 (.ite (aX (pc (pn (pc o2 16) r8) 0) r5)
 (.chk (aX (.llen (.app (.o 69639) (.lst [(pn (pc o2 16) r8)]))) cj)
 (.next ⟨[(8,qe)],[(7,(.setc o7 16 pN)),(69639,(.app (.o 69639) (.lst [(pn (pc o2 16) r8)])))]⟩))
 (.next ⟨[(8,qe)],[]⟩)))
 (.exit 4 ⟨[(59,r8),(60,pN),(61,(pc o2 16)),(62,wN),(63,(ah r8 wN))],[]⟩))
def AP (b:Nat→PC):PT:=
 (.ite (ah r9 (.llen (pc o2 18)))
 (.chk (ao (pc o2 18) r9)
 (.chk (.nt (.an (.an (bN (pc (pn (pc o2 18) r9) 1) (pi 0)) pT) (.nt (ao (pc o2 18) r9))))
 (.ite (.pick (bN (pc (pn (pc o2 18) r9) 1) (pi 0)) (ah (pc (pn (pc o2 18) r9) 1) r5) pF)
 (.chk (aX (.llen (.app (.o 77831) (.lst [(pn (pc o2 18) r9)]))) cj)
 (.next ⟨[(9,(aD r9 (pi 1)))],[(7,(.setc o7 18 pN)),(77831,(.app (.o 77831) (.lst [(pn (pc o2 18) r9)])))]⟩))
 (.next ⟨[(9,(aD r9 (pi 1)))],[]⟩))))
 (.exit 6 ⟨[(84,r9),(85,pN),(86,(pc o2 18)),(87,(.llen (pc o2 18))),(88,(ah r9 (.llen (pc o2 18))))],[]⟩))
def Uy (b:Nat→PC):PT:=
 (.brk ⟨[(5,(pi 0))],[(4,jL),(2,(.mk [r0]))]⟩
(aom b)
 (.brk ⟨[(6,(pi 0))],[]⟩
(aon b)
 (.chk (.slok (pc o2 15) (pi 0) r5)
 (.chk (aX (.llen (.app (.lst []) (.slc (pc o2 15) (pi 0) r5))) cj)
 (.chk (.slok (pc o2 17) (pi 0) r6)
 (.chk (aX (.llen (.app (.lst []) (.slc (pc o2 17) (pi 0) r6))) cj)
 (.brk ⟨[(8,(pi 0))],[(77831,pL),(69639,pL),(7,(.setc jL 0 (.mk [(ar 15 o2),(.app (.lst []) (.slc (pc o2 15) (pi 0) r5)),pL,(.app (.lst []) (.slc (pc o2 17) (pi 0) r6)),pL])))]⟩
(aoo b)
 (.brk ⟨[(9,(pi 0))],[]⟩
(aop b)
 (.ret (ar 19 (.setc o4 0 (.mk [(pc o7 0),(pc o7 1),(pc o7 2),(pc o7 3),(pc o7 4),(pc o7 5),(pc o7 6),(pc o7 7),(pc o7 8),(pc o7 9),(pc o7 10),(pc o7 11),(pc o7 12),(pc o7 13),(pc o7 14),(pc o7 15),(.o 69639),(pc o7 17),(.o 77831)]))))))))))))
def ajv (b:Nat→PC):PT×List (Shp×PT):=(Uy b,[(.lp 0 [5,10,11,12,13,14,15,24] [] [5] [],EB b),(.lp 2 [6,27,28,29,30,31,32,41] [] [6] [],EC b),(.lp 4 [8,59,60,61,62,63] [7,69639] [8] [7,69639],ED b),(.lp 6 [9,84,85,86,87,88] [7,77831] [9] [7,77831],AP b)])
theorem Aq:yn.map told=some (ajv (aV yn)):=by kernel_rfl
theorem auq:tree (ab yn)=Uy qV:=bz Aq
theorem R9:round 0 [5,10,11,12,13,14,15,24] [] [5] [] (qV 0)=EB qV:=aQ Aq 0 fun _=>rfl
theorem Sa:round 2 [6,27,28,29,30,31,32,41] [] [6] [] (qV 1)=EC qV:=aQ Aq 1 fun _=>rfl
theorem Sb:round 4 [8,59,60,61,62,63] [7,69639] [8] [7,69639] (qV 2)=ED qV:=aQ Aq 2 fun _=>rfl
theorem KB:round 6 [9,84,85,86,87,88] [7,77831] [9] [7,77831] (qV 3)=AP qV:=aQ Aq 3 fun _=>rfl
def Hx:Option PC:=cF [14,15] [] Tryz.f29 29 [5,7,10,11,12,13]
def U6:PT:=
 (.call ⟨[],[(10,rV),(7,(.mk [r2])),(5,(.mk [r0]))]⟩ [] 18 28 [tZ,r4]
 (.chk (ao (pc (.setc jL 0 ij) 15) r3)
 (.call ⟨[],[(13,(.setc (.setc rV 0 (.mk [r3,(pc DU 0),(pc DU 2),(pi 0),(pi 0),(pi 0),pF])) 6 (.pick (aP (pc DU 0) (pi 1)) (ak (.ai .and .i64 (pc DU 8) (pi 1)) (pi 0)) pF))),(12,DU),(11,(.setc jL 0 ij))]⟩ [] 44 67 [(ar 8 o5),r1,(pi 0),(ar 19 o7),r4]
 (.call ⟨[],[]⟩ [] 45 66 [w6]
 (.call ⟨[(46,kN)],[]⟩ [] 52 68 [(ar 8 o5),r1,(pi 1),(ar 19 o7),r3,r4]
 (.call ⟨[],[]⟩ [] 58 68 [(ar 8 o5),r1,(pi 2),(ar 19 o7),r3,r4]
 (.call ⟨[],[]⟩ [] 59 13 [sc,AK]
 (.call ⟨[],[]⟩ [] 60 13 [D9,RD]
 (.call ⟨[],[(13,(.setc kI 3 uh))]⟩ [] 65 69 [(ar 19 kH),r3,r4]
 (.call ⟨[],[(13,(.pick Km (.setc kI 3 (pi 0)) kI))]⟩ [] 69 70 [(ar 19 kH),r3]
 (.call ⟨[],[(13,(.setc kI 5 qk))]⟩ [] 73 71 [(ar 19 kH),r3]
 (.iteS ⟨[],[]⟩ ql [] [13]
 (.chk (ao (pc kH 16) (aY (.llen (pc kH 16)) (pi 1)))
 (.call ⟨[(15,(pc (pn (pc kH 16) (aY (.llen (pc kH 16)) (pi 1))) 1))],[]⟩ [] 88 68 [(ar 8 o5),r1,(pi 4),(ar 19 o7),r3,r4]
 (.next ⟨[],[(13,(.pick (.pick (ak (pc (.setc kI 4 se) 4) (pi 1)) pT (.pick (ak (pc (.setc kI 4 se) 4) (pi 2)) (ah dx (pc (.setc kI 4 se) 5)) pF)) (.setc (.setc kI 4 se) 5 dx) (.setc kI 4 se)))]⟩)))
 (.next ⟨[],[]⟩)
 (.ret (ar 7 (.setc bI 0 (ar 7 (.pick (.pick (ak (pc PM 0) (pi 1)) pT (ak (pc PM 0) (pi 4))) (.setc kI 5 (.mn (pc kI 5) (pc PM 5))) kI)))))))))))))))))
theorem acr:Hx.map told=some (U6,[]):=by kernel_rfl
theorem avc:tree (ab Hx)=U6:=aI acr
def Hr:Option PC:=cF [] [] Tryz.f67 67 [5,8,77832,10]
def UX:PT:=
 (.call ⟨[],[(10,rT)]⟩ [] 18 52 [gd,r1,r2,adu]
 (.ret (ar 5 (.setc bI 0 ij))))
theorem ack:Hr.map told=some (UX,[]):=by kernel_rfl
theorem au1:tree (ab Hr)=UX:=aI ack
def Hq:Option PC:=cF [10,11,12] [] Tryz.f52 52 [4,7,8,9,16393]
def UW:PT:=
 (.call ⟨[],[(16393,pL),(9,(.setc rT 0 (.mk [cQ,(pi (-1)),pL,(pi 1)]))),(8,rT),(7,(.mk [r3])),(4,(.mk [r0]))]⟩ [] 17 97 [gd,r1,(ar 24 (.mk [r3]))]
 (.call ⟨[(21,(ak (.llen gf) (pi 0))),(10,gf)],[]⟩ [(21,false)] 23 98 [r2]
 (.ite (.pick fB pT (.nt gx))
 (.ret (ar 5 (.setc o8 0 (.mk [(pc o9 0),(pc o9 1),(pc o9 2),(.o 16393),(pc o9 4)]))))
 (.call ⟨[],[]⟩ [] 32 99 [(ar 8 o4),r1,r2,bY]
 (.ite (.pick (aP (.tget lI 1) (pi 0)) pT (ak (.llen (.tget lI 0)) (pi 0)))
 (.ret (ar 5 (.setc o8 0 (ar 5 (.setc (.setc o9 3 (.tget lI 0)) 4 (.tget lI 1))))))
 (.chk (ao (.tget lI 0) (aY (.llen (.tget lI 0)) (pi 1)))
 (.chk (ao (pc o4 4) (pc Ri 2))
 (.call ⟨[(61,r2),(60,(pn (pc o4 4) (pc Ri 2)))],[(9,Ri)]⟩ [] 64 101 [(ar 8 o4),(ar 24 o7)]
 (.call ⟨[],[]⟩ [] 65 100 [uh,Kl,AL]
 (.ret (ar 5 (.setc o8 0 (ar 5 (.setc (.setc o9 0 (.tget Km 0)) 4 (.tget Km 1)))))))))))))))
theorem acj:Hq.map told=some (UW,[]):=by kernel_rfl
theorem au0:tree (ab Hq)=UW:=aI acj
def yC:Option PC:=cF [6,9] [] Tryz.f97 97 [3,5,7,8]
def MU:Nat→PC:=bf yC
def aaw (b:Nat→PC):PC:=.block 0 [6,9,81,82,83,84] [] (.loop [6,9] [] (b 0))
def EM (b:Nat→PC):PT:=
 (.ite (ah r9 (.llen o8))
 (.chk (ao o8 r9)
 (.ite (ah (pn o8 r9) (pi 0))
 (.ret pL)
 (.next ⟨[(9,(aD r9 (pi 1)))],[]⟩)))
 (.exit 0 ⟨[(81,r9),(82,r8),(83,(.llen o8)),(84,(ah r9 (.llen o8)))],[]⟩))
def U1 (b:Nat→PC):PT:=
 (.call ⟨[(6,pL)],[(5,(.mk [r2])),(3,(.mk [r0]))]⟩ [] 12 101 [gd,(ar 24 (.mk [r2]))]
 (.ite (.pick (.pick (ak (.llen bR) (pi 0)) pT (ah r1 (pi 0))) pT (bN r1 AB))
 (.ret pL)
 (.chk (ao (pc o5 15) (pc o5 19))
 (.ite (.pick (ah (pc Ke 2) (pi 0)) pT (bN (pc Ke 2) (.llen (pc o3 3))))
 (.ret pL)
 (.chk Ra
 (.chk (ak (pi 5) (pi 5))
 (.chk (ao Az (pi 0))
 (.call ⟨[(8,pN)],[(8,(.setn Az (pi 0) 0 r1)),(7,Ke)]⟩ [] 52 138 [(ar 8 o3),(pc Ke 7)]
 (.chk (ao o8 (pi 1))
 (.call ⟨[],[(8,(.setn o8 (pi 1) 0 sc))]⟩ [] 60 138 [(ar 8 o3),(pc o5 10)]
 (.chk (ao o8 (pi 2))
 (.call ⟨[],[(8,(.setn o8 (pi 2) 0 uh))]⟩ [] 68 138 [(ar 8 o3),(pc o5 9)]
 (.chk (ao o8 (pi 3))
 (.chk (ao (pc o3 3) (pc o7 2))
 (.call ⟨[],[(8,(.setn o8 (pi 3) 0 Ea))]⟩ [] 79 138 [(ar 8 o3),(pc (pn (pc o3 3) (pc o7 2)) 1)]
 (.chk (ao o8 (pi 4))
 (.brk ⟨[(9,(pi 0))],[(8,(.setn o8 (pi 4) 0 RG))]⟩
(aaw b)
 (.ret o8))))))))))))))))))
def ajI (b:Nat→PC):PT×List (Shp×PT):=(U1 b,[(.lp 0 [6,9,81,82,83,84] [] [6,9] [],EM b)])
theorem Qi:yC.map told=some (ajI (aV yC)):=by kernel_rfl
theorem au7:tree (ab yC)=U1 MU:=bz Qi
theorem Sl:round 0 [6,9,81,82,83,84] [] [6,9] [] (MU 0)=EM MU:=aQ Qi 0 fun _=>rfl
def Hs:Option PC:=cF [4] [] Tryz.f101 101 [2,3]
def UY:PT:=
 (.call ⟨[],[(3,(.mk [r1])),(2,(.mk [r0]))]⟩ [] 9 28 [(ar 19 (.mk [r1])),(pc (.mk [r1]) 23)]
 (.call ⟨[],[]⟩ [] 13 145 [(ar 8 o2),(ar 24 (.setc o3 0 r9))]
 (.ret cU)))
theorem acm:Hs.map told=some (UY,[]):=by kernel_rfl
theorem au2:tree (ab Hs)=UY:=aI acm
def yq:Option PC:=cF [4,8,9,10,11] [] Tryz.f145 145 [2,3,5,6,7]
def MJ:Nat→PC:=bf yq
def aav (b:Nat→PC):PC:=.block 0 [9,10,157,158,159,160,161] [] (.loop [9,10] [] (b 0))
def KD (b:Nat→PC):PT:=
 (.ite (ah bY (.llen (pc o5 16)))
 (.chk (.nt (.an (.an (.nt r9) pT) (.nt (ao (pc o5 16) bY))))
 (.next ⟨[(9,(.pick r9 pT (aX (pc (pn (pc o5 16) bY) 0) (pc o3 19)))),(10,(aD bY (pi 1)))],[]⟩))
 (.exit 0 ⟨[(157,bY),(158,pN),(159,(pc o5 16)),(160,(.llen (pc o5 16))),(161,(ah bY (.llen (pc o5 16))))],[]⟩))
def UB (b:Nat→PC):PT:=
 (.ite (.pick (.pick (.pick (.pick (.pick (ah (pc (.mk [r1]) 19) (pi 0)) pT (bN (pc (.mk [r1]) 19) (.llen (pc tY 15)))) pT (ah (pc (.mk [r1]) 20) (pi (-1)))) pT (bN (pc (.mk [r1]) 20) (.llen (pc tY 15)))) pT (ah (pc (.mk [r1]) 22) (pi (-1)))) pT (bj (pc (.mk [r1]) 22) (pi 100000)))
 (.ret pL)
 (.chk (ao (pc tY 15) (pc (.mk [r1]) 19))
 (.ite (.pick (ah (pc Rp 6) (pi 0)) pT (bj (pc Rp 6) (pi 100000)))
 (.ret pL)
 (.chk (.an (bN (pi 20) (pi 0)) (aX (pi 20) cj))
 (.chk (ak (pi 20) (pi 20))
 (.call ⟨[],[(7,(.rep (pi 20) cQ)),(6,Rp),(5,tY),(3,(.mk [r1])),(2,(.mk [r0]))]⟩ [] 67 167 [(pc tY 3)]
 (.chk (ao o7 (pi 0))
 (.call ⟨[],[(7,(.setn o7 (pi 0) 0 qj))]⟩ [] 73 167 [(pc o5 14)]
 (.chk (ao o7 (pi 1))
 (.call ⟨[],[(7,(.setn o7 (pi 1) 0 ql))]⟩ [] 80 167 [(pc o5 5)]
 (.chk (ao o7 (pi 2))
 (.call ⟨[],[(7,(.setn o7 (pi 2) 0 ui))]⟩ [] 86 167 [(pc o5 12)]
 (.chk (ao o7 (pi 3))
 (.call ⟨[],[(7,(.setn o7 (pi 3) 0 RH))]⟩ [] 91 167 [(pc o6 0)]
 (.chk (ao o7 (pi 4))
 (.call ⟨[],[(7,(.setn o7 (pi 4) 0 r91))]⟩ [] 96 167 [(pc o3 21)]
 (.chk (ao o7 (pi 5))
 (.call ⟨[(8,(.pick D1 (aY (pc o6 6) (pc o3 22)) (pi 0)))],[(7,(.setn o7 (pi 5) 0 r96))]⟩ [] 108 167 [(.pick D1 (aY (pc o6 6) (pc o3 22)) (pi 0))]
 (.chk (ao o7 (pi 6))
 (.call ⟨[],[(7,(.setn o7 (pi 6) 0 D5))]⟩ [] 113 168 [(bj r8 (pi 0))]
 (.chk (ao o7 (pi 14))
 (.call ⟨[],[(7,(.setn o7 (pi 14) 0 adR))]⟩ [] 119 169 [(pc o5 13),(pi 1)]
 (.call ⟨[],[]⟩ [] 120 168 [adS]
 (.chk (ao o7 (pi 7))
 (.call ⟨[],[(7,(.setn o7 (pi 7) 0 adU))]⟩ [] 126 169 [(pc o5 13),(pi 2)]
 (.call ⟨[],[]⟩ [] 127 168 [adV]
 (.chk (ao o7 (pi 10))
 (.call ⟨[],[(7,(.setn o7 (pi 10) 0 adW))]⟩ [] 133 169 [(pc o5 13),(pi 4)]
 (.call ⟨[],[]⟩ [] 134 168 [(.r 133)]
 (.chk (ao o7 (pi 9))
 (.call ⟨[],[(7,(.setn o7 (pi 9) 0 (.r 134)))]⟩ [] 141 168 [(ak (pc o5 2) (pi (-1)))]
 (.chk (ao o7 (pi 8))
 (.call ⟨[],[(7,(.setn o7 (pi 8) 0 (.r 141)))]⟩ [] 148 138 [(ar 8 o2),(pc o5 9)]
 (.call ⟨[],[]⟩ [] 153 138 [(ar 8 o2),(pc o5 10)]
 (.call ⟨[],[]⟩ [] 155 168 [(aP (.r 148) (.r 153))]
 (.chk (ao o7 (pi 11))
 (.brk ⟨[(10,(pi 0)),(9,pF)],[(7,(.setn o7 (pi 11) 0 (.r 155)))]⟩
(aav b)
 (.call ⟨[],[]⟩ [] 178 168 [r9]
 (.chk (ao o7 (pi 12))
 (.call ⟨[],[(7,(.setn o7 (pi 12) 0 (.r 178)))]⟩ [] 183 169 [(pc o6 8),(pi 1)]
 (.call ⟨[],[]⟩ [] 184 168 [(.r 183)]
 (.chk (ao o7 (pi 13))
 (.call ⟨[(11,(.mx (pc o3 20) (pi 0)))],[(7,(.setn o7 (pi 13) 0 (.r 184)))]⟩ [] 193 170 [(ar 19 o5),(pi 0),(pc o3 19)]
 (.chk (ao o7 (pi 15))
 (.call ⟨[],[(7,(.setn o7 (pi 15) 0 (.r 193)))]⟩ [] 199 170 [(ar 19 o5),(pi 1),(pc o3 19)]
 (.chk (ao o7 (pi 16))
 (.call ⟨[],[(7,(.setn o7 (pi 16) 0 (.r 199)))]⟩ [] 205 170 [(ar 19 o5),(pi 2),(pc o3 19)]
 (.chk (ao o7 (pi 17))
 (.call ⟨[],[(7,(.setn o7 (pi 17) 0 (.r 205)))]⟩ [] 210 170 [(ar 19 o5),(pi 3),bK]
 (.chk (ao o7 (pi 18))
 (.call ⟨[],[(7,(.setn o7 (pi 18) 0 (.r 210)))]⟩ [] 215 170 [(ar 19 o5),(pi 4),bK]
 (.chk (ao o7 (pi 19))
 (.ret (.setn o7 (pi 19) 0 (.r 215)))))))))))))))))))))))))))))))))))))))))))))))))))))))
def ajy (b:Nat→PC):PT×List (Shp×PT):=(UB b,[(.lp 0 [9,10,157,158,159,160,161] [] [9,10] [],KD b)])
theorem P8:yq.map told=some (ajy (aV yq)):=by kernel_rfl
theorem auv:tree (ab yq)=UB MJ:=bz P8
theorem aep:round 0 [9,10,157,158,159,160,161] [] [9,10] [] (MJ 0)=KD MJ:=aQ P8 0 fun _=>rfl
def G5:Option PC:=cF [] [] Tryz.f167 167 [2]
def UD:PT:=
 (.ret (.mk [(pc (.setc cQ 0 (.mk [pT,r0])) 0),(pc (.setc cQ 0 (.mk [pT,r0])) 1)]))
theorem abX:G5.map told=some (UD,[]):=by kernel_rfl
theorem auy:tree (ab G5)=UD:=aI abX
def G6:Option PC:=cF [] [] Tryz.f168 168 [2]
def Ls:PT:=
 (.iteS ⟨[],[(2,cQ)]⟩ r0 [] [2]
 (.call ⟨[],[]⟩ [] 4 167 [(pi 1)]
 (.ret (.mk [(pc (.setc o2 0 r4) 0),(pc (.setc o2 0 r4) 1)])))
 (.next ⟨[],[]⟩)
 (.call ⟨[],[]⟩ [] 5 167 [(pi 0)]
 (.ret (.mk [(pc (.setc o2 0 r5) 0),(pc (.setc o2 0 r5) 1)]))))
theorem abY:G6.map told=some (Ls,[]):=by kernel_rfl
theorem auz:tree (ab G6)=Ls:=aI abY
def G4:Option PC:=cF [4] [] Tryz.f169 169 []
def UC:PT:=
 (.ret (ak (.ai .and .i64 r0 r1) r1))
theorem abW:G4.map told=some (UC,[]):=by kernel_rfl
theorem auw:tree (ab G4)=UC:=aI abW
def GW:Option PC:=cF [4] [] Tryz.f138 138 [2]
def Uh:PT:=
 (.call ⟨[],[(2,(.mk [r0]))]⟩ [] 10 107 [r1,(pi 0),(aY (.llen jM) (pi 1))]
 (.ite bY
 (.chk (ao (pc o2 1) r1)
 (.ret (pc (pn (pc o2 1) r1) 1)))
 (.ret (pi (-1)))))
theorem abO:GW.map told=some (Uh,[]):=by kernel_rfl
theorem at5:tree (ab GW)=Uh:=aI abO
def yo:Option PC:=cF [7] [] Tryz.f170 170 [3,6]
def MI:Nat→PC:=bf yo
def aoq (b:Nat→PC):PC:=.block 0 [7,8,9,10,11,12] [6] (.loop [7] [6] (b 0))
def AQ (b:Nat→PC):PT:=
 (.ite (ah r7 (.llen (pc o3 18)))
 (.chk (ao (pc o3 18) r7)
 (.chk (.nt (.an (.an (ak (pc (pn (pc o3 18) r7) 0) r1) pT) (.nt (ao (pc o3 18) r7))))
 (.ite (.pick (ak (pc (pn (pc o3 18) r7) 0) r1) (ak (pc (pn (pc o3 18) r7) 1) r2) pF)
 (.ite (ak (pc (pn (pc o3 18) r7) 2) (pi 0))
 (.ret (.mk [(pc (.setc o6 0 (.mk [pT,(pi 0)])) 0),(pc (.setc o6 0 (.mk [pT,(pi 0)])) 1)]))
 (.ret (.mk [(pc (.setc o6 0 (.mk [pT,(pi 1)])) 0),(pc (.setc o6 0 (.mk [pT,(pi 1)])) 1)])))
 (.next ⟨[(7,ud)],[]⟩))))
 (.exit 0 ⟨[(8,r7),(9,pN),(10,(pc o3 18)),(11,(.llen (pc o3 18))),(12,(ah r7 (.llen (pc o3 18))))],[]⟩))
def Uz (b:Nat→PC):PT:=
 (.brk ⟨[(7,(pi 0))],[(6,cQ),(3,(.mk [r0]))]⟩
(aoq b)
 (.ret J9))
def ajw (b:Nat→PC):PT×List (Shp×PT):=(Uz b,[(.lp 0 [7,8,9,10,11,12] [6] [7] [6],AQ b)])
theorem P7:yo.map told=some (ajw (aV yo)):=by kernel_rfl
theorem aur:tree (ab yo)=Uz MI:=bz P7
theorem KC:round 0 [7,8,9,10,11,12] [6] [7] [6] (MI 0)=AQ MI:=aQ P7 0 fun _=>rfl
def Hl:Option PC:=cF [2] [] Tryz.f98 98 []
def UN:PT:=
 (.ret (.pick (bN r0 (pi 0)) (ah r0 (pi 22)) pF))
theorem ace:Hl.map told=some (UN,[]):=by kernel_rfl
theorem auR:tree (ab Hl)=UN:=aI ace
def yz:Option PC:=cF [8,9,12,13,14] [] Tryz.f99 99 [4,10,11,78]
def MR:Nat→PC:=bf yz
def aoA (b:Nat→PC):PC:=.block 0 [8,9,11,12,47,48,49,50,51] [10,11] (.loop [8,9,11,12] [10,11] (b 0))
def Sj (b:Nat→PC):PT:=
 (.ite (aX bR oR)
 (.blockS ⟨[],[]⟩ 1 [8,9,11,13,14,54,55,58,59,61,62,63,64,65,66,67,70,71,73,74,77,78,79,80,81,83,84,85,86,87,94,96,97,98,99,101,102,103] [78,11,10]
 (.chk (ao kH J5)
 (.call ⟨[],[]⟩ [] 64 140 [(ar 8 o4),(pn kH J5),r2,r3]
 (.chk (ao kH J5)
 (.ite (ak rU (pn kH J5))
 (.ret (.tup [kH,(pi 0)]))
 (.chk (aX (.llen DQ) cj)
 (.ite (.nt (.tget AL 1))
 (.ret (.tup [DQ,(pi 0)]))
 (.chk (ao bI rU)
 (.chk (.nt (.an (.an (pn bI rU) pT) (.nt (ao (pc o4 4) rU))))
 (.ite (.pick (pn bI rU) (pc (pn (pc o4 4) rU) 1) pF)
 (.ret (.tup [DQ,(pi 0)]))
 (.ite (pn bI rU)
 (.ret (.tup [DQ,(pi 12)]))
 (.next ⟨[(11,pN)],[(10,(.setn bI rU 0 pT)),(11,DQ)]⟩)))))))))))
 (.next ⟨[(12,(aD bR (pi 1)))],[]⟩))
 (.exit 0 ⟨[(47,bR),(48,pN),(49,(pc o4 4)),(50,oR),(51,(aX bR oR))],[]⟩))
def US (b:Nat→PC):PT:=
 (.call ⟨[(9,(pi 0)),(8,pL)],[(4,(.mk [r0]))]⟩ [] 17 139 [gd,r3]
 (.call ⟨[(19,(.nt gf))],[]⟩ [(19,false)] 25 107 [r1,(pi 0),(aY oR (pi 1))]
 (.call ⟨[(28,(.pick fA pT (.nt eB)))],[]⟩ [(28,false)] 30 107 [r2,(pi 0),(pi 21)]
 (.ite (.pick nD pT (.nt nE))
 (.ret (.tup [pL,(pi 1)]))
 (.chk (ao r3 (pi 0))
 (.ite (aP (pn r3 (pi 0)) r1)
 (.ret (.tup [pL,(pi 1)]))
 (.chk (.an (bN oR (pi 0)) (aX oR cj))
 (.chk (ak oR oR)
 (.chk (ao (.rep oR pF) r1)
 (.brk ⟨[(12,(pi 0)),(11,pN),(10,pN)],[(10,(.setn (.rep oR pF) r1 0 pT)),(11,(.lst [r1]))]⟩
(aoA b)
 (.ret (.tup [kH,(pi 12)]))))))))))))
def ajF (b:Nat→PC):PT×List (Shp×PT):=(US b,[(.lp 0 [8,9,11,12,47,48,49,50,51] [10,11] [8,9,11,12] [10,11],Sj b)])
theorem Qf:yz.map told=some (ajF (aV yz)):=by kernel_rfl
theorem auW:tree (ab yz)=US MR:=bz Qf
theorem arK:round 0 [8,9,11,12,47,48,49,50,51] [10,11] [8,9,11,12] [10,11] (MR 0)=Sj MR:=aQ Qf 0 fun _=>rfl
def yA:Option PC:=cF [4,5] [] Tryz.f139 139 [2]
def MS:Nat→PC:=bf yA
def aoB (b:Nat→PC):PC:=.block 0 [4,5,6,7,8,9] [] (.loop [4,5] [] (b 0))
def KE (b:Nat→PC):PT:=
 (.ite (ah r5 (.llen r1))
 (.blockS ⟨[],[]⟩ 1 [4,12,13,14,15,16,17,18,19,20,21] []
 (.chk (ao r1 r5)
 (.call ⟨[],[]⟩ [] 20 107 [(pn r1 r5),(pi 0),(aY (.llen (pc o2 4)) (pi 1))]
 (.ite (.nt eA)
 (.ret pF)
 (.next ⟨[],[]⟩))))
 (.next ⟨[(5,lH)],[]⟩))
 (.exit 0 ⟨[(6,r5),(7,r1),(8,(.llen r1)),(9,(ah r5 (.llen r1)))],[]⟩))
def UU (b:Nat→PC):PT:=
 (.brk ⟨[(5,(pi 0)),(4,pF)],[(2,(.mk [r0]))]⟩
(aoB b)
 (.ret (ak (.llen r1) (pi 5))))
def ajG (b:Nat→PC):PT×List (Shp×PT):=(UU b,[(.lp 0 [4,5,6,7,8,9] [] [4,5] [],KE b)])
theorem Qg:yA.map told=some (ajG (aV yA)):=by kernel_rfl
theorem auY:tree (ab yA)=UU MS:=bz Qg
theorem aeq:round 0 [4,5,6,7,8,9] [] [4,5] [] (MS 0)=KE MS:=aQ Qg 0 fun _=>rfl
def Ho:Option PC:=cF [8,9] [] Tryz.f140 140 [4,10]
def UT:PT:=
 (.call ⟨[],[(4,(.mk [r0]))]⟩ [] 13 139 [gd,r3]
 (.call ⟨[(15,(.nt cU))],[]⟩ [(15,false)] 21 107 [r1,(pi 0),(aY oR (pi 1))]
 (.call ⟨[(24,(.pick dx pT (.nt fB)))],[]⟩ [(24,false)] 26 107 [r2,(pi 0),(pi 21)]
 (.ite (.pick nC pT (.nt mL))
 (.ret (.tup [(pi (-1)),pF]))
 (.chk (ao (pc o4 4) r1)
 (.call ⟨[],[]⟩ [] 35 163 [(pn (pc o4 4) r1),r2]
 (.ite (ak (pc (.setc rS 0 nF) 1) (pi 0))
 (.ret (.tup [r1,pF]))
 (.chk (ao r3 (pc (.setc rS 0 nF) 1))
 (.ret (.tup [(pn r3 (pc (.setc rS 0 nF) 1)),(pc (.setc rS 0 nF) 2)]))))))))))
theorem ach:Ho.map told=some (UT,[]):=by kernel_rfl
theorem auX:tree (ab Ho)=UT:=aI ach
def yy:Option PC:=cF [5] [] Tryz.f163 163 [2,4]
def MQ:Nat→PC:=bf yy
def aoz (b:Nat→PC):PC:=.block 0 [5,6,7,8,9,10] [4] (.loop [5] [4] (b 0))
def EK (b:Nat→PC):PT:=
 (.ite (ah r5 AD)
 (.chk (ao (pc o2 2) r5)
 (.ite (ak (pc (pn (pc o2 2) r5) 0) r1)
 (.ret (.mk [(pc (.setc o4 0 (pn (pc o2 2) r5)) 0),(pc (.setc o4 0 (pn (pc o2 2) r5)) 1),(pc (.setc o4 0 (pn (pc o2 2) r5)) 2)]))
 (.next ⟨[(5,lH)],[]⟩)))
 (.exit 0 ⟨[(6,r5),(7,pN),(8,(pc o2 2)),(9,AD),(10,(ah r5 AD))],[]⟩))
def UR (b:Nat→PC):PT:=
 (.brk ⟨[(5,(pi 0))],[(4,rS),(2,(.mk [r0]))]⟩
(aoz b)
 (.ret (.mk [(pc (.setc o4 0 (.mk [r1,(pi 0),pF])) 0),(pc (.setc o4 0 (.mk [r1,(pi 0),pF])) 1),(pc (.setc o4 0 (.mk [r1,(pi 0),pF])) 2)])))
def ajE (b:Nat→PC):PT×List (Shp×PT):=(UR b,[(.lp 0 [5,6,7,8,9,10] [4] [5] [4],EK b)])
theorem Qe:yy.map told=some (ajE (aV yy)):=by kernel_rfl
theorem auV:tree (ab yy)=UR MQ:=bz Qe
theorem Si:round 0 [5,6,7,8,9,10] [4] [5] [4] (MQ 0)=EK MQ:=aQ Qe 0 fun _=>rfl
def Hk:Option PC:=cF [7,8] [] Tryz.f100 100 [3,6,9]
def UL:PT:=
 (.call ⟨[],[(6,cQ),(3,(.mk [r0]))]⟩ [] 12 141 [(ar 4 (.mk [r0])),r1]
 (.ite (aP bR (pi 0))
 (.ret (.tup [J9,bR]))
 (.call ⟨[(18,(pc o3 3))],[]⟩ [] 21 143 [(ar 4 o3),r1]
 (.chk (ao ij fB)
 (.call ⟨[],[]⟩ [] 26 142 [(.sub (pn ij fB) 1 3),r2]
 (.call ⟨[(29,(pc wL 0))],[(9,wL)]⟩ [(29,true)] 31 144 [r1]
 (.ret (.tup [(.mk [(pc (.setc o6 0 (.mk [(pc Kh 0),(pc Kh 1)])) 0),(pc (.setc o6 0 (.mk [(pc Kh 0),(pc Kh 1)])) 1)]),(pi 0)]))))))))
theorem acd:Hk.map told=some (UL,[]):=by kernel_rfl
theorem auP:tree (ab Hk)=UL:=aI acd
def Hn:Option PC:=cF [4,5,6,7,8,9] [] Tryz.f141 141 [2]
def UQ:PT:=
 (.call ⟨[],[(2,(.mk [r0]))]⟩ [] 11 98 [r1]
 (.ite (.nt bK)
 (.ret (pi 1))
 (.call ⟨[],[]⟩ [] 15 143 [(ar 4 o2),r1]
 (.ite (ah dx (pi 0))
 (.ret (pi 4))
 (.chk (ao (pc o2 3) dx)
 (.call ⟨[],[]⟩ [] 25 164 [(.sub (pn (pc o2 3) dx) 1 3)]
 (.call ⟨[(7,(.tget eB 1)),(6,(.tget eB 0))],[]⟩ [] 30 165 [r1]
 (.ite (.pick (aP r7 (pi 0)) pT (aP r6 (.tget nE 0)))
 (.ret (pi 11))
 (.ret (pi 0))))))))))
theorem acg:Hn.map told=some (UQ,[]):=by kernel_rfl
theorem auU:tree (ab Hn)=UQ:=aI acg
def yx:Option PC:=cF [4,5] [] Tryz.f143 143 [2]
def MO:Nat→PC:=bf yx
def aoy (b:Nat→PC):PC:=.block 0 [4,5,6,7,8,9,10] [] (.loop [4,5] [] (b 0))
def EJ (b:Nat→PC):PT:=
 (.ite (ah r5 (.llen (pc o2 3)))
 (.chk (ao (pc o2 3) r5)
 (.ite (ak (pc (pn (pc o2 3) r5) 0) r1)
 (.ret r5)
 (.next ⟨[(5,lH)],[]⟩)))
 (.exit 0 ⟨[(6,r5),(7,pN),(8,(pc o2 3)),(9,(.llen (pc o2 3))),(10,(ah r5 (.llen (pc o2 3))))],[]⟩))
def UO (b:Nat→PC):PT:=
 (.brk ⟨[(5,(pi 0)),(4,(pi 0))],[(2,(.mk [r0]))]⟩
(aoy b)
 (.ret (pi (-1))))
def ajD (b:Nat→PC):PT×List (Shp×PT):=(UO b,[(.lp 0 [4,5,6,7,8,9,10] [] [4,5] [],EJ b)])
theorem Qd:yx.map told=some (ajD (aV yx)):=by kernel_rfl
theorem auS:tree (ab yx)=UO MO:=bz Qd
theorem Sg:round 0 [4,5,6,7,8,9,10] [] [4,5] [] (MO 0)=EJ MO:=aQ Qd 0 fun _=>rfl
def G7:Option PC:=cF [2,3] [] Tryz.f164 164 [1]
def UE:PT:=
 (.call ⟨[],[(1,(.mk [r0]))]⟩ [] 5 147 [DP,(pi 60),(pi 8)]
 (.ite (ah r5 (pi 0))
 (.ret (.tup [(pi 0),(pi 6)]))
 (.call ⟨[],[]⟩ [] 8 190 [Kg]
 (.ret (.tup [(.tget r8 0),(.tget r8 1)])))))
theorem abZ:G7.map told=some (UE,[]):=by kernel_rfl
theorem auA:tree (ab G7)=UE:=aI abZ
def yt:Option PC:=cF [2,3,5,6,7,8,9,10] [] Tryz.f190 190 [1,4,33]
def MM:Nat→PC:=bf yt
def aow (b:Nat→PC):PC:=.block 0 [2,3,4,5,12,13,14,15,16] [4] (.loop [2,3,4,5] [4] (b 0))
def EH (b:Nat→PC):PT:=
 (.ite (ah r5 mK)
 (.blockS ⟨[],[]⟩ 1 [2,3,4,6,7,19,20,21,22,23,24,25,26,27,28,29,32,33,34] [4,33]
 (.chk (ao (pc o1 2) r5)
 (.call ⟨[],[]⟩ [] 25 190 [(pn (pc o1 2) r5)]
 (.ite (aP (.tget eB 1) (pi 0))
 (.ret (.tup [(pi 0),(.tget eB 1)]))
 (.chk (aX (.llen (.app o4 (.lst [(.tget eB 0)]))) cj)
 (.next ⟨[(4,pN)],[(4,(.app o4 (.lst [(.tget eB 0)])))]⟩)))))
 (.next ⟨[(5,lH)],[]⟩))
 (.exit 0 ⟨[(12,r5),(13,pN),(14,(pc o1 2)),(15,mK),(16,(ah r5 mK))],[]⟩))
def UK (b:Nat→PC):PT:=
 (.brk ⟨[(5,(pi 0)),(4,pN),(3,(pi 0)),(2,(pi 0))],[(4,(.lst [])),(1,(.mk [r0]))]⟩
(aow b)
 (.ite (.pick (ah (pc o1 0) (pi 0)) pT (bN (pc o1 0) (pi 14)))
 (.ret (.tup [(pi 0),(pi 1)]))
 (.call ⟨[],[]⟩ [] 45 209 [(pc o1 0)]
 (.ite (.pick (aP (.llen o4) kN) pT (.pick (bj kN (pi 0)) (aP (pc o1 1) (pi 0)) pF))
 (.ret (.tup [(pi 0),(pi 2)]))
 (.iteS ⟨[],[]⟩ (ak kN (pi 0)) [2,3] []
 (.call ⟨[],[]⟩ [] 62 210 [Kg]
 (.ret (.tup [(.tget qh 0),(.tget qh 1)])))
 (.next ⟨[],[]⟩)
 (.call ⟨[],[]⟩ [] 69 211 [(pc o1 0),o4]
 (.ite (.nt (.tget qk 1))
 (.ret (.tup [(pi 0),(pi 11)]))
 (.ret (.tup [(.tget qk 0),(pi 0)])))))))))
def ajB (b:Nat→PC):PT×List (Shp×PT):=(UK b,[(.lp 0 [2,3,4,5,12,13,14,15,16] [4] [2,3,4,5] [4],EH b)])
theorem Qb:yt.map told=some (ajB (aV yt)):=by kernel_rfl
theorem auO:tree (ab yt)=UK MM:=bz Qb
theorem Se:round 0 [2,3,4,5,12,13,14,15,16] [4] [2,3,4,5] [4] (MM 0)=EH MM:=aQ Qb 0 fun _=>rfl
def He:Option PC:=cF [2,4,8,10] [] Tryz.f209 209 []
def uF:PT:=
 (.ite (.pick (ak r0 (pi 0)) (ak r0 (pi 0)) (.pick (ak r0 (pi 1)) (ak r0 (pi 1)) (ak r0 (pi 2))))
 (.ret (pi 0))
 (.ite (ak r0 (pi 3))
 (.ret (pi 1))
 (.ite (ak r0 (pi 6))
 (.ret (pi 3))
 (.ret (pi 2)))))
theorem ab6:He.map told=some (uF,[]):=by kernel_rfl
theorem auH:tree (ab He)=uF:=aI ab6
def Hg:Option PC:=cF [2,3,4,5] [] Tryz.f210 210 [1]
def uG:PT:=
 (.ite (ak ga (pi 0))
 (.ite (.pick (ah jM (pi (-1099511627776))) pT (bj jM (pi 1099511627776)))
 (.ret (.tup [(pi 0),(pi 3)]))
 (.ret (.tup [(pi 0),(pi 0)])))
 (.ite (ak ga (pi 1))
 (.ite (.pick (aP jM (pi 0)) (aP jM (pi 1)) pF)
 (.ret (.tup [(pi 0),(pi 3)]))
 (.ret (.tup [(pi 1),(pi 0)])))
 (.call ⟨[],[]⟩ [] 31 212 [jM]
 (.ite (.nt (.tget kM 1))
 (.ret (.tup [(pi 0),(pi 10)]))
 (.ret (.tup [(.tget kM 0),(pi 0)]))))))
theorem ab8:Hg.map told=some (uG,[]):=by kernel_rfl
theorem auK:tree (ab Hg)=uG:=aI ab8
def Hd:Option PC:=cF [2,3] [] Tryz.f212 212 []
def A6:PT:=
 (.ite (.pick wS pT (bN r0 (pi 20)))
 (.ret (.tup [(pi 0),pF]))
 (.ite (aX r0 (pi 6))
 (.ret (.tup [(pi 0),pT]))
 (.ret (.tup [(pi 1),pT]))))
theorem ab5:Hd.map told=some (A6,[]):=by kernel_rfl
theorem auG:tree (ab Hd)=A6:=aI ab5
def Hf:Option PC:=cF [4,5,7,13,26,44,56] [] Tryz.f211 211 []
def sy:PT:=
 (.ite (ak r0 (pi 3))
 (.chk qf
 (.ret (.tup [(pi 1),AA])))
 (.ite (.pick (ak r0 (pi 4)) (ak r0 (pi 4)) (ak r0 (pi 5)))
 (.chk qf
 (.chk (.nt (.an (.an AA pT) (.nt oS)))
 (.ret (.tup [(pi 1),(.pick AA (ak jN (pi 1)) pF)]))))
 (.ite (ak r0 (pi 6))
 (.chk oS
 (.chk qf
 (.chk (.nt (.an (.an AA pT) (.nt oS)))
 (.chk (.nt (.an (.an AA pT) (.nt (ao r1 (pi 2)))))
 (.ret (.tup [jN,(.pick AA (ak jN (pn r1 (pi 2))) pF)]))))))
 (.ite (ak r0 (pi 7))
 (.chk qf
 (.chk (.nt (.an (.an (ak mI (pi 0)) pT) (.nt oS)))
 (.ret (.tup [(pi 1),(.pick (ak mI (pi 0)) (ak jN (pi 0)) pF)]))))
 (.ite (ak r0 (pi 8))
 (.chk qf
 (.chk oS
 (.ret (.tup [(pi 1),(ak mI jN)]))))
 (.chk qf
 (.chk (.nt (.an (.an (ak mI (pi 0)) pT) (.nt oS)))
 (.ret (.tup [(pi 0),(.pick (ak mI (pi 0)) (ak jN (pi 0)) pF)])))))))))
theorem ab7:Hf.map told=some (sy,[]):=by kernel_rfl
theorem auJ:tree (ab Hf)=sy:=aI ab7
def Hm:Option PC:=cF [2,3] [] Tryz.f165 165 []
def UP:PT:=
 (.call ⟨[],[]⟩ [] 5 98 [r0]
 (.ite (.nt r5)
 (.ret (.tup [(pi 0),pF]))
 (.call ⟨[],[]⟩ [] 8 144 [r0]
 (.ite r8
 (.ret (.tup [(pi 1),pT]))
 (.ret (.tup [(pi 0),pT]))))))
theorem acf:Hm.map told=some (UP,[]):=by kernel_rfl
theorem auT:tree (ab Hm)=UP:=aI acf
def GU:Option PC:=cF [2,4] [] Tryz.f144 144 []
def Lp:PT:=
 (.ite (.pick (ak r0 (pi 6)) (ak r0 (pi 6)) (.pick (ak r0 (pi 7)) (ak r0 (pi 7)) (.pick (ak r0 (pi 10)) (ak r0 (pi 10)) (.pick (ak r0 (pi 12)) (ak r0 (pi 12)) (.pick (ak r0 (pi 13)) (ak r0 (pi 13)) (.pick (ak r0 (pi 14)) (ak r0 (pi 14)) (.pick (ak r0 (pi 15)) (ak r0 (pi 15)) (.pick (ak r0 (pi 16)) (ak r0 (pi 16)) (.pick (ak r0 (pi 20)) (ak r0 (pi 20)) (ak r0 (pi 21)))))))))))
 (.ret pF)
 (.call ⟨[],[]⟩ [] 16 107 [r0,(pi 0),(pi 21)]
 (.ret dk)))
theorem abM:GU.map told=some (Lp,[]):=by kernel_rfl
theorem at2:tree (ab GU)=Lp:=aI abM
def G9:Option PC:=cF [5,6] [] Tryz.f142 142 [2,4]
def UF:PT:=
 (.call ⟨[],[(4,cQ),(2,(.mk [r0]))]⟩ [] 9 164 [DP]
 (.ite (aP (.tget r9 1) (pi 0))
 (.ret rR)
 (.call ⟨[],[]⟩ [] 17 166 [(.mk [(pc o2 0),(pc o2 1),(pc o2 2)]),r1]
 (.ret (.mk [(pc (.setc o4 0 gf) 0),(pc (.setc o4 0 gf) 1)])))))
theorem ab1:G9.map told=some (UF,[]):=by kernel_rfl
theorem auC:tree (ab G9)=UF:=aI ab1
def yr:Option PC:=cF [9,15,6,41,55,64,73] [] Tryz.f166 166 [2,4,5,37]
def MK:Nat→PC:=bf yr
def aou (b:Nat→PC):PC:=.block 1 [5,6,22,23,24,25,26] [5] (.loop [5,6] [5] (b 0))
def oW (b:Nat→PC):PT:=
 (.ite (ah r6 AD)
 (.blockS ⟨[],[]⟩ 2 [5,30,31,32,33,34,35,36,37,38] [5,37]
 (.chk (ao (pc o2 2) r6)
 (.call ⟨[],[]⟩ [] 36 166 [(pn (pc o2 2) r6),r1]
 (.chk (aX (.llen (.app o5 (.lst [il]))) cj)
 (.next ⟨[(5,pN)],[(5,(.app o5 (.lst [il])))]⟩))))
 (.next ⟨[(6,wR)],[]⟩))
 (.exit 1 ⟨[(22,r6),(23,pN),(24,(pc o2 2)),(25,AD),(26,(ah r6 AD))],[]⟩))
def Fx (b:Nat→PC):PT:=
 (.blockS ⟨[(8,ga)],[(4,cQ),(2,(.mk [r0]))]⟩ 0 [9,10,15,16] [4]
 (.iteS ⟨[],[]⟩ (.pick (ak r8 (pi 0)) (ak r8 (pi 0)) (ak r8 (pi 1))) [15,16] [4]
 (.ret (.mk [(pc (.setc o4 0 (.mk [pT,(pc o2 1)])) 0),(pc (.setc o4 0 (.mk [pT,(pc o2 1)])) 1)]))
 (.iteS ⟨[],[]⟩ (ak r8 (pi 2)) [] [4]
 (.call ⟨[],[]⟩ [] 20 191 [(pc o2 1),r1]
 (.ret (.mk [(pc (.setc o4 0 eA) 0),(pc (.setc o4 0 eA) 1)])))
 (.next ⟨[],[]⟩)
 (.next ⟨[],[]⟩))
 (.next ⟨[],[]⟩))
 (.brk ⟨[(6,(pi 0)),(5,pN)],[(5,(.lst []))]⟩
(aou b)
 (.blockS ⟨[(40,(pc o2 0))],[]⟩ 3 [41,42,55,56,64,65,73,74] [4]
 (.iteS ⟨[],[]⟩ (ak lJ (pi 3)) [55,56,64,65,73,74] [4]
 (.chk (ao o5 (pi 0))
 (.ite (.nt (pc nA 0))
 (.ret rR)
 (.ret (.mk [(pc (.setc o4 0 (.mk [pT,(aY (pi 1) (pc nA 1))])) 0),(pc (.setc o4 0 (.mk [pT,(aY (pi 1) (pc nA 1))])) 1)]))))
 (.iteS ⟨[],[]⟩ (ak lJ (pi 4)) [64,65,73,74] [4]
 (.chk (ao o5 (pi 0))
 (.chk (ao o5 (pi 1))
 (.call ⟨[],[]⟩ [] 63 192 [(.sub nA 0 2),(.sub rW 0 2),(pi 0)]
 (.ret (.mk [(pc (.setc o4 0 w7) 0),(pc (.setc o4 0 w7) 1)])))))
 (.iteS ⟨[],[]⟩ (ak lJ (pi 5)) [73,74] [4]
 (.chk (ao o5 (pi 0))
 (.chk (ao o5 (pi 1))
 (.call ⟨[],[]⟩ [] 72 192 [(.sub nA 0 2),(.sub rW 0 2),(pi 1)]
 (.ret (.mk [(pc (.setc o4 0 RF) 0),(pc (.setc o4 0 RF) 1)])))))
 (.ite (ak lJ (pi 6))
 (.chk (ao o5 (pi 0))
 (.ite (pc nA 0)
 (.chk (ao o5 (aY (pi 2) (pc nA 1)))
 (.ret (.mk [(pc (.setc o4 0 (.sub (pn o5 (aY (pi 2) (pc nA 1))) 0 2)) 0),(pc (.setc o4 0 (.sub (pn o5 (aY (pi 2) (pc nA 1))) 0 2)) 1)])))
 (.chk (ao o5 (pi 1))
 (.chk (.nt (.an (.an (pc rW 0) pT) (.nt (ao o5 (pi 2)))))
 (.chk (.nt (.an (.an Q9 pT) (.nt (ao o5 (pi 1)))))
 (.chk (.nt (.an (.an Q9 pT) (.nt (ao o5 (pi 2)))))
 (.ite (.pick Q9 (ak (pc rW 1) (pc (pn o5 (pi 2)) 1)) pF)
 (.ret (.mk [(pc (.setc o4 0 (.sub rW 0 2)) 0),(pc (.setc o4 0 (.sub rW 0 2)) 1)]))
 (.ret rR))))))))
 (.next ⟨[],[]⟩))
 (.next ⟨[],[]⟩))
 (.next ⟨[],[]⟩))
 (.next ⟨[],[]⟩))
 (.chk (ao o5 (pi 0))
 (.chk (.nt (.an (.an (.nt (.nt (pc nA 0))) pT) (.nt (ao o5 (pi 1)))))
 (.ite (.pick (.nt (pc nA 0)) pT (.nt (pc rW 0)))
 (.ret rR)
 (.chk (ao o5 (pi 1))
 (.call ⟨[],[]⟩ [] 135 193 [(pc o2 0),(pc nA 1),(pc rW 1)]
 (.ret (.mk [(pc (.setc o4 0 (.r 135)) 0),(pc (.setc o4 0 (.r 135)) 1)]))))))))))
def ajz (b:Nat→PC):PT×List (Shp×PT):=(Fx b,[(.lp 1 [5,6,22,23,24,25,26] [5] [5,6] [5],oW b)])
theorem P9:yr.map told=some (ajz (aV yr)):=by kernel_rfl
theorem auI:tree (ab yr)=Fx MK:=bz P9
theorem sk:round 1 [5,6,22,23,24,25,26] [5] [5,6] [5] (MK 0)=oW MK:=aQ P9 0 fun _=>rfl
def Hc:Option PC:=cF [6,7] [] Tryz.f191 191 [4,5]
def UH:PT:=
 (.ite (.pick wS pT (bN r0 (.llen r1)))
 (.ret J8)
 (.chk (ao r1 r0)
 (.ite (.nt (pc (.setc cQ 0 (pn r1 r0)) 0))
 (.ret J8)
 (.call ⟨[],[(4,cQ),(5,(.setc cQ 0 (pn r1 r0)))]⟩ [] 27 212 [r0]
 (.iteS ⟨[],[]⟩ (ak (.tget eC 0) (pi 0)) [] [4]
 (.call ⟨[],[]⟩ [] 34 213 [(pc o5 1)]
 (.ret (.mk [(pc (.setc o4 0 (.mk [pT,D8])) 0),(pc (.setc o4 0 (.mk [pT,D8])) 1)])))
 (.next ⟨[],[]⟩)
 (.ite (aP (pc o5 1) (pi 0))
 (.ret (.mk [(pc (.setc o4 0 (.mk [pT,(pi 1)])) 0),(pc (.setc o4 0 (.mk [pT,(pi 1)])) 1)]))
 (.ret (.mk [(pc (.setc o4 0 (.mk [pT,(pi 0)])) 0),(pc (.setc o4 0 (.mk [pT,(pi 0)])) 1)]))))))))
theorem ab4:Hc.map told=some (UH,[]):=by kernel_rfl
theorem auF:tree (ab Hc)=UH:=aI ab4
def G8:Option PC:=cF [2] [] Tryz.f213 213 []
def Lt:PT:=
 (.ret (.mx (pi (-1099511627776)) (.mn (pi 1099511627776) r0)))
theorem ab0:G8.map told=some (Lt,[]):=by kernel_rfl
theorem auB:tree (ab G8)=Lt:=aI ab0
def Hh:Option PC:=cF [] [] Tryz.f192 192 [3,4,6]
def UI:PT:=
 (.ite (.pick (.pick ga (ak jM r2) pF) pT (.pick (pc (.mk [r1]) 0) (ak (pc (.mk [r1]) 1) r2) pF))
 (.ret (.mk [(pc (.setc cQ 0 (.mk [pT,r2])) 0),(pc (.setc cQ 0 (.mk [pT,r2])) 1)]))
 (.ite (.pick ga (pc (.mk [r1]) 0) pF)
 (.ret (.mk [(pc (.setc cQ 0 (.mk [pT,(aY (pi 1) r2)])) 0),(pc (.setc cQ 0 (.mk [pT,(aY (pi 1) r2)])) 1)]))
 (.ret J8)))
theorem ab9:Hh.map told=some (UI,[]):=by kernel_rfl
theorem auL:tree (ab Hh)=UI:=aI ab9
def Hi:Option PC:=cF [8,14,20,27,34,40] [] Tryz.f193 193 [6]
def sA:PT:=
 (.blockS ⟨[(7,r0)],[(6,cQ)]⟩ 0 [8,9,14,15,20,21,27,28,34,35,40,41] [6]
 (.iteS ⟨[],[]⟩ (ak r7 (pi 7)) [14,15,20,21,27,28,34,35,40,41] [6]
 (.call ⟨[],[]⟩ [] 13 214 [(ah r1 r2)]
 (.ret (.mk [(pc (.setc o6 0 cU) 0),(pc (.setc o6 0 cU) 1)])))
 (.iteS ⟨[],[]⟩ (ak r7 (pi 8)) [20,21,27,28,34,35,40,41] [6]
 (.call ⟨[],[]⟩ [] 19 214 [(ak r1 r2)]
 (.ret (.mk [(pc (.setc o6 0 fA) 0),(pc (.setc o6 0 fA) 1)])))
 (.iteS ⟨[],[]⟩ (ak r7 (pi 9)) [27,28,34,35,40,41] [6]
 (.call ⟨[],[]⟩ [] 25 213 [(aD r1 r2)]
 (.ret (.mk [(pc (.setc o6 0 (.mk [pT,eB])) 0),(pc (.setc o6 0 (.mk [pT,eB])) 1)])))
 (.iteS ⟨[],[]⟩ (ak r7 (pi 10)) [34,35,40,41] [6]
 (.call ⟨[],[]⟩ [] 32 213 [(aY r1 r2)]
 (.ret (.mk [(pc (.setc o6 0 (.mk [pT,lI])) 0),(pc (.setc o6 0 (.mk [pT,lI])) 1)])))
 (.iteS ⟨[],[]⟩ (ak r7 (pi 11)) [40,41] [6]
 (.call ⟨[],[]⟩ [] 38 215 [r1,r2]
 (.ret (.mk [(pc (.setc o6 0 (.mk [pT,iQ])) 0),(pc (.setc o6 0 (.mk [pT,iQ])) 1)])))
 (.ite (ak r7 (pi 12))
 (.ret (.mk [(pc (.setc o6 0 (.mk [pT,(.mn r1 r2)])) 0),(pc (.setc o6 0 (.mk [pT,(.mn r1 r2)])) 1)]))
 (.next ⟨[],[]⟩))
 (.next ⟨[],[]⟩))
 (.next ⟨[],[]⟩))
 (.next ⟨[],[]⟩))
 (.next ⟨[],[]⟩))
 (.next ⟨[],[]⟩))
 (.ret (.mk [(pc (.setc o6 0 (.mk [pT,(.mx r1 r2)])) 0),(pc (.setc o6 0 (.mk [pT,(.mx r1 r2)])) 1)])))
theorem aca:Hi.map told=some (sA,[]):=by kernel_rfl
theorem auM:tree (ab Hi)=sA:=aI aca
def Hj:Option PC:=cF [] [] Tryz.f214 214 [2]
def UJ:PT:=
 (.ite r0
 (.ret Rk)
 (.ret Rl))
theorem acb:Hj.map told=some (UJ,[]):=by kernel_rfl
theorem auN:tree (ab Hj)=UJ:=aI acb
def Hb:Option PC:=cF [4,5,6] [] Tryz.f215 215 []
def Lu:PT:=
 (.ite (.pick (ak r0 (pi 0)) pT (ak r1 (pi 0)))
 (.ret (pi 0))
 (.chk (aP (.mx r1 (aY (pi 0) r1)) (pi 0))
 (.ite (.cb .neq wS (ah r1 (pi 0)))
 (.ret (.ai .mul .i64 (aY (pi 0) (.pick J7 (pi 1099511627776) (.mx r0 (aY (pi 0) r0)))) (.pick J7 (pi 1) (.mx r1 (aY (pi 0) r1)))))
 (.ret (.ai .mul .i64 (.pick J7 (pi 1099511627776) (.mx r0 (aY (pi 0) r0))) (.pick J7 (pi 1) (.mx r1 (aY (pi 0) r1))))))))
theorem ab3:Hb.map told=some (Lu,[]):=by kernel_rfl
theorem auE:tree (ab Hb)=Lu:=aI ab3
def Hv:Option PC:=cF [2] [] Tryz.f66 66 [1]
def U2:PT:=
 (.ite (.pick (aP ub (pi 0)) pT (.pick ga (ak jM (pi 0)) pF))
 (.ret (pi 0))
 (.ite ga
 (.ret (pi 1))
 (.ret (pi 2))))
theorem acp:Hv.map told=some (U2,[]):=by kernel_rfl
theorem au8:tree (ab Hv)=U2:=aI acp
def Hy:Option PC:=cF [12] [] Tryz.f68 68 [6,9,13]
def U8:PT:=
 (.call ⟨[(16,r4),(15,r4),(14,(ar 19 (.mk [r3])))],[(6,(.mk [r0]))]⟩ [] 21 51 [gd,r1,(ar 19 (.mk [r3])),r5]
 (.call ⟨[],[]⟩ [] 28 52 [(ar 8 o6),r1,r2,(ar 24 (.setc Rg 0 (.mk [ct,dx,dk,(pi (-1)),fB,r5])))]
 (.call ⟨[],[]⟩ [] 29 66 [nD]
 (.ret kL))))
theorem acs:Hy.map told=some (U8,[]):=by kernel_rfl
theorem ave:tree (ab Hy)=U8:=aI acs
def Ht:Option PC:=cF [8,10,11,12] [] Tryz.f51 51 [4,6,9]
def U0:PT:=
 (.call ⟨[],[(6,(.mk [r2])),(4,(.mk [r0]))]⟩ [] 15 28 [tZ,r3]
 (.ite (ak (.llen (pc (.setc jL 0 dx) 15)) (pi 0))
 (.ret (pi (-1)))
 (.call ⟨[],[(9,(.setc jL 0 dx))]⟩ [] 24 67 [(ar 8 o4),r1,(pi 6),(ar 19 o6),r3]
 (.call ⟨[],[]⟩ [] 25 94 [nC]
 (.call ⟨[(31,(ar 15 o6)),(29,(ar 8 o4)),(10,(.pick (ak eB (pi (-1))) (pi 0) eB))],[]⟩ [] 33 96 [(ar 19 o9)]
 (.call ⟨[],[]⟩ [] 35 95 [kL,kM,mM,bY]
 (.ite (aP (.tget nF 1) (pi 0))
 (.ret (pi (-1)))
 (.ret (.tget nF 0)))))))))
theorem acn:Ht.map told=some (U0,[]):=by kernel_rfl
theorem au4:tree (ab Ht)=U0:=aI acn
def Hu:Option PC:=cF [2] [] Tryz.f94 94 [1]
def Lw:PT:=
 (.ite (.pick (ak ub (pi 0)) ga pF)
 (.ret jM)
 (.ret (pi (-1))))
theorem aco:Hu.map told=some (Lw,[]):=by kernel_rfl
theorem au5:tree (ab Hu)=Lw:=aI aco
def yp:Option PC:=cF [2,3,4,5,6,7] [] Tryz.f96 96 [1]
def u7:Nat→PC:=bf yp
def aor (b:Nat→PC):PC:=.block 0 [2,3,13,14,15,16,17] [] (.loop [2,3] [] (b 0))
def aos (b:Nat→PC):PC:=.block 2 [4,5,6,33,34,35,36,37] [] (.loop [4,5,6] [] (b 1))
def aot (b:Nat→PC):PC:=.block 4 [4,5,7,67,68,69,70,71] [] (.loop [4,5,7] [] (b 2))
def EE (b:Nat→PC):PT:=
 (.ite (ah r3 wO)
 (.chk (ao (pc o1 17) r3)
 (.ite (ak (pc (pn (pc o1 17) r3) 0) (pi 2))
 (.ret (pc (pn (pc o1 17) r3) 6))
 (.next ⟨[(3,rX)],[]⟩)))
 (.exit 0 ⟨[(13,r3),(14,pN),(15,(pc o1 17)),(16,wO),(17,(ah r3 wO))],[]⟩))
def xc (b:Nat→PC):PT:=
 (.ite (ah r6 (.llen (pc o1 15)))
 (.chk (ao (pc o1 15) r6)
 (.chk (.nt (.an (.an (.nt (.nt r4)) (.an (ak (pc (pn (pc o1 15) r6) 0) (pi 1)) pT)) (.nt (ao (pc o1 15) r6))))
 (.ite (.pick (ak (pc (pn (pc o1 15) r6) 0) (pi 1)) (.pick (.nt r4) pT (ah (pc (pn (pc o1 15) r6) 6) r5)) pF)
 (.next ⟨[(4,pT),(5,(pc (pn (pc o1 15) r6) 6)),(6,wR)],[]⟩)
 (.next ⟨[(6,wR)],[]⟩))))
 (.exit 2 ⟨[(33,r6),(34,pN),(35,(pc o1 15)),(36,(.llen (pc o1 15))),(37,(ah r6 (.llen (pc o1 15))))],[]⟩))
def sf (b:Nat→PC):PT:=
 (.ite (ah r7 wO)
 (.chk (ao (pc o1 17) r7)
 (.chk (.nt (.an (.an (.nt (.nt r4)) (.an (ak (pc (pn (pc o1 17) r7) 0) (pi 1)) pT)) (.nt (ao (pc o1 17) r7))))
 (.ite (.pick (ak (pc (pn (pc o1 17) r7) 0) (pi 1)) (.pick (.nt r4) pT (ah (pc (pn (pc o1 17) r7) 6) r5)) pF)
 (.next ⟨[(4,pT),(5,(pc (pn (pc o1 17) r7) 6)),(7,ud)],[]⟩)
 (.next ⟨[(7,ud)],[]⟩))))
 (.exit 4 ⟨[(67,r7),(68,pN),(69,(pc o1 17)),(70,wO),(71,(ah r7 wO))],[]⟩))
def Lr (b:Nat→PC):PT:=
 (.iteS ⟨[(2,(pi 0))],[(1,(.mk [r0]))]⟩ (ak ua (pi 0)) [2] []
 (.brk ⟨[(3,(pi 0))],[]⟩
(aor b)
 (.ret (pi (-1))))
 (.next ⟨[],[]⟩)
 (.brk ⟨[(6,(pi 0)),(5,(pi 0)),(4,pF)],[]⟩
(aos b)
 (.brk ⟨[(7,(pi 0))],[]⟩
(aot b)
 (.ite (.pick (aP (pc o1 5) (pi 1)) pT (.nt r4))
 (.ret (pi (-1)))
 (.ret r5)))))
def ajx (b:Nat→PC):PT×List (Shp×PT):=(Lr b,[(.lp 0 [2,3,13,14,15,16,17] [] [2,3] [],EE b),(.lp 2 [4,5,6,33,34,35,36,37] [] [4,5,6] [],xc b),(.lp 4 [4,5,7,67,68,69,70,71] [] [4,5,7] [],sf b)])
theorem DE:yp.map told=some (ajx (aV yp)):=by kernel_rfl
theorem aut:tree (ab yp)=Lr u7:=bz DE
theorem Sc:round 0 [2,3,13,14,15,16,17] [] [2,3] [] (u7 0)=EE u7:=aQ DE 0 fun _=>rfl
theorem EF:round 2 [4,5,6,33,34,35,36,37] [] [4,5,6] [] (u7 1)=xc u7:=aQ DE 1 fun _=>rfl
theorem xd:round 4 [4,5,7,67,68,69,70,71] [] [4,5,7] [] (u7 2)=sf u7:=aQ DE 2 fun _=>rfl
def G0:Option PC:=cF [8,9,11,12,13] [] Tryz.f95 95 [4,5,10]
def Ut:PT:=
 (.call ⟨[],[(10,wU),(5,(.mk [r1])),(4,(.mk [r0]))]⟩ [] 17 25 [gd]
 (.call ⟨[(19,(aP gf (pi 0)))],[]⟩ [(19,false)] 23 133 [(ar 8 o4),(pc o5 9)]
 (.call ⟨[(26,(.pick fA pT (.nt gx)))],[]⟩ [(26,false)] 30 133 [(ar 8 o4),(pc o5 10)]
 (.call ⟨[(33,(.pick mL pT (.nt nE)))],[]⟩ [(33,false)] 36 102 [(pc o5 8)]
 (.ite (.pick mM pT (.nt il))
 (.ret (.tup [(pi 0),(pi 1)]))
 (.call ⟨[(60,(aP r2 (pi (-1)))),(57,adA)],[]⟩ [(60,true),(57,false)] 62 102 [r2]
 (.ite (.pick (.pick (.pick Kk pT (.pick uh (.nt qh) pF)) pT (ah r3 (pi 0))) pT (bj r3 (pi 20000)))
 (.ret (.tup [(pi 0),(pi 1)]))
 (.call ⟨[],[]⟩ [] 75 134 [(.mk [(pc bI 0),(pc bI 1),(pc bI 2)])]
 (.ite (.pick Eb (ak r2 (pi (-1))) pF)
 (.ret (.tup [(pi 0),(pi 4)]))
 (.iteS ⟨[],[]⟩ (ak (pc bI 0) (pi 4)) [8,9] []
 (.call ⟨[],[]⟩ [] 89 135 [(ar 8 o4),(pc o5 9),(pc o5 10)]
 (.ite (aP (.tget r89 1) (pi 0))
 (.ret (.tup [(pi 0),(pi 4)]))
 (.next ⟨[],[]⟩)))
 (.next ⟨[],[]⟩)
 (.call ⟨[],[]⟩ [] 97 136 [(ar 8 o4),(ar 15 o5),r2]
 (.ite (.pick (ah RK (pi 0)) pT (bj (aD RK r3) (pi 100000)))
 (.ret (.tup [(pi 0),(pi 3)]))
 (.call ⟨[],[]⟩ [] 112 137 [(ar 8 o4),(pc o5 10),(aD RK r3)]
 (.ret (.tup [(.tget D6 0),(.tget D6 1)])))))))))))))))
theorem abS:G0.map told=some (Ut,[]):=by kernel_rfl
theorem auk:tree (ab G0)=Ut:=aI abS
def G2:Option PC:=cF [4] [] Tryz.f133 133 [2]
def Uv:PT:=
 (.ret (.pick (bN r1 (pi 0)) (ah r1 (.llen jM)) pF))
theorem abU:G2.map told=some (Uv,[]):=by kernel_rfl
theorem aum:tree (ab G2)=Uv:=aI abU
def GP:Option PC:=cF [2] [] Tryz.f102 102 []
def T8:PT:=
 (.ret (.pick (bN r0 (pi 0)) (aX r0 (pi 100000)) pF))
theorem abI:GP.map told=some (T8,[]):=by kernel_rfl
theorem atV:tree (ab GP)=T8:=aI abI
def G1:Option PC:=cF [2] [] Tryz.f134 134 [1]
def Uu:PT:=
 (.ret (.pick (ak ga (pi 0)) pT (ak ga (pi 1))))
theorem abT:G1.map told=some (Uu,[]):=by kernel_rfl
theorem aul:tree (ab G1)=Uu:=aI abT
def yd:Option PC:=cF [6,7,8] [] Tryz.f135 135 [3]
def ME:Nat→PC:=bf yd
def an8 (b:Nat→PC):PC:=.block 0 [6,7,8,9,10,11,12,13] [] (.loop [6,7,8] [] (b 0))
def Ep (b:Nat→PC):PT:=
 (.ite (ah r8 (.llen (pc o3 5)))
 (.chk (ao (pc o3 5) r8)
 (.chk (.nt (.an (.an (ak (pc (pn (pc o3 5) r8) 0) r1) pT) (.nt (ao (pc o3 5) r8))))
 (.ite (.pick (ak (pc (pn (pc o3 5) r8) 0) r1) (ak (pc (pn (pc o3 5) r8) 1) r2) pF)
 (.ret (.tup [(pc (pn (pc o3 5) r8) 2),(pi 0)]))
 (.next ⟨[(8,qe)],[]⟩))))
 (.exit 0 ⟨[(9,r8),(10,pN),(11,(pc o3 5)),(12,(.llen (pc o3 5))),(13,(ah r8 (.llen (pc o3 5))))],[]⟩))
def Ul (b:Nat→PC):PT:=
 (.brk ⟨[(8,(pi 0)),(7,(pi 0)),(6,(pi 0))],[(3,(.mk [r0]))]⟩
(an8 b)
 (.ret (.tup [(pi 0),(pi 4)])))
def ajm (b:Nat→PC):PT×List (Shp×PT):=(Ul b,[(.lp 0 [6,7,8,9,10,11,12,13] [] [6,7,8] [],Ep b)])
theorem P3:yd.map told=some (ajm (aV yd)):=by kernel_rfl
theorem aub:tree (ab yd)=Ul ME:=bz P3
theorem RY:round 0 [6,7,8,9,10,11,12,13] [] [6,7,8] [] (ME 0)=Ep ME:=aQ P3 0 fun _=>rfl
def GZ:Option PC:=cF [6,8,9] [] Tryz.f136 136 [3,4,7]
def sw:PT:=
 (.iteS ⟨[(8,(.pick (ak (pc wU 0) (pi 3)) (pc wU 1) (.pick (ak (pc wU 0) (pi 0)) r2 (pi 0)))),(9,(pi 0))],[(7,wU),(4,(.mk [r1])),(3,(.mk [r0]))]⟩ (ak (pc wU 0) (pi 4)) [8,9] []
 (.call ⟨[],[]⟩ [] 30 135 [(ar 8 o3),(pc o4 9),(pc o4 10)]
 (.next ⟨[(8,(aD (.tget nE 0) (pc o4 8))),(9,(.tget nE 1))],[]⟩))
 (.next ⟨[],[]⟩)
 (.iteS ⟨[],[]⟩ (.pick (ak (pc o7 0) (pi 1)) pT (ak (pc o7 0) (pi 2))) [6,8,9] []
 (.ite (.pick (ah (pc o7 1) (pi 0)) pT (bj (pc o7 1) (pi 20000)))
 (.ret (pi (-1)))
 (.iteS ⟨[(8,(.pick (ak (pc o7 0) (pi 1)) r2 (pc o4 8)))],[]⟩ (ak (pc o7 2) (pi 1)) [8,9] []
 (.call ⟨[],[]⟩ [] 66 162 [r8,(pc o7 1)]
 (.next ⟨[(9,(.tget RE 1)),(8,(.tget RE 0))],[]⟩))
 (.next ⟨[(8,(aD r8 (pc o7 1)))],[]⟩)
 (.next ⟨[],[]⟩)))
 (.next ⟨[],[]⟩)
 (.call ⟨[(75,(aP r9 (pi 0)))],[]⟩ [(75,false)] 77 102 [r8]
 (.ite (.pick Eb pT (.nt r77))
 (.ret (pi (-1)))
 (.ret r8)))))
theorem abR:GZ.map told=some (sw,[]):=by kernel_rfl
theorem auj:tree (ab GZ)=sw:=aI abR
def GM:Option PC:=cF [4,5,6,7,8,9,10,11,12,13,14] [] Tryz.f162 162 []
def T3:PT:=
 (.call ⟨[],[]⟩ [] 17 171 [r0]
 (.ite (.pick (.pick (aP (.tget gf 3) (pi 0)) pT (ah r1 (pi (-5000)))) pT (bj r1 (pi 5000)))
 (.ret (.tup [(pi 0),(pi 3)]))
 (.ite (ah DS (pi 24000))
 (.ret (.tup [(pi 0),(pi 3)]))
 (.chk (aP (pi 12) (pi 0))
 (.call ⟨[(49,(.tget gf 2)),(48,(aD (.ai .rem .i64 DS (pi 12)) (pi 1))),(47,(.ai .quo .i64 DS (pi 12)))],[]⟩ [] 52 189 [(.ai .quo .i64 DS (pi 12)),(aD (.ai .rem .i64 DS (pi 12)) (pi 1))]
 (.call ⟨[],[]⟩ [] 54 188 [r47,kf,(.mn nH sc)]
 (.ret (.tup [(.tget sd 0),(.tget sd 1)]))))))))
theorem abF:GM.map told=some (T3,[]):=by kernel_rfl
theorem atN:tree (ab GM)=T3:=aI abF
def xU:Option PC:=cF [2,3,4,5,6,7,8] [] Tryz.f171 171 []
def BA:Nat→PC:=bf xU
def anU (b:Nat→PC):PC:=.block 0 [6,7,13,14,15,16] [] (.loop [6,7] [] (b 0))
def anV (b:Nat→PC):PC:=.block 2 [7,8,23,24,25,26,27] [] (.loop [7,8] [] (b 1))
def Ks (b:Nat→PC):PT:=
 (.call ⟨[(14,r6),(13,r7)],[]⟩ [] 15 194 [r6]
 (.ite (bN cU dx)
 (.blockS ⟨[],[]⟩ 1 [6,7,17,18,19,20,21,22] []
 (.call ⟨[(17,r7)],[]⟩ [] 19 194 [r6]
 (.next ⟨[(6,wR),(7,(aY gf fA))],[]⟩))
 (.next ⟨[],[]⟩))
 (.exit 0 ⟨[(16,(bN cU dx))],[]⟩)))
def Kt (b:Nat→PC):PT:=
 (.call ⟨[(25,r8),(24,r6),(23,r7)],[]⟩ [] 26 189 [r6,r8]
 (.ite (bN gx mL)
 (.blockS ⟨[],[]⟩ 3 [7,8,28,29,30,31,32,33,34] []
 (.call ⟨[(28,r7)],[]⟩ [] 31 189 [r6,r8]
 (.next ⟨[(8,qe),(7,(aY nD kM))],[]⟩))
 (.next ⟨[],[]⟩))
 (.exit 2 ⟨[(27,(bN gx mL))],[]⟩)))
def T4 (b:Nat→PC):PT:=
 (.call ⟨[],[]⟩ [] 10 102 [r0]
 (.ite (.nt bY)
 (.ret (.tup [(pi 0),(pi 0),(pi 0),(pi 3)]))
 (.brk ⟨[(7,r0),(6,(pi 2000))],[]⟩
(anU b)
 (.brk ⟨[(8,(pi 1))],[]⟩
(anV b)
 (.ret (.tup [r6,r8,ud,(pi 0)]))))))
def ajc (b:Nat→PC):PT×List (Shp×PT):=(T4 b,[(.lp 0 [6,7,13,14,15,16] [] [6,7] [],Ks b),(.lp 2 [7,8,23,24,25,26,27] [] [7,8] [],Kt b)])
theorem Jz:xU.map told=some (ajc (aV xU)):=by kernel_rfl
theorem atO:tree (ab xU)=T4 BA:=bz Jz
theorem aek:round 0 [6,7,13,14,15,16] [] [6,7] [] (BA 0)=Ks BA:=aQ Jz 0 fun _=>rfl
theorem ael:round 2 [7,8,23,24,25,26,27] [] [7,8] [] (BA 1)=Kt BA:=aQ Jz 1 fun _=>rfl
def GQ:Option PC:=cF [2] [] Tryz.f194 194 []
def T9:PT:=
 (.call ⟨[],[]⟩ [] 4 208 [r0]
 (.ite r4
 (.ret (pi 366))
 (.ret (pi 365))))
theorem abJ:GQ.map told=some (T9,[]):=by kernel_rfl
theorem atW:tree (ab GQ)=T9:=aI abJ
def GR:Option PC:=cF [2] [] Tryz.f208 208 []
def Ub:PT:=
 (.chk (aP (pi 4) (pi 0))
 (.chk (.nt (.an (.an Re pT) (.nt wX)))
 (.chk (.nt (.an (.an (.nt (aP (.ai .rem .i64 r0 (pi 100)) (pi 0))) (.an Re pT)) (.nt (aP (pi 400) (pi 0)))))
 (.ret (.pick Re (.pick (aP (.ai .rem .i64 r0 (pi 100)) (pi 0)) pT (ak (.ai .rem .i64 r0 (pi 400)) (pi 0))) pF)))))
theorem abK:GR.map told=some (Ub,[]):=by kernel_rfl
theorem atY:tree (ab GR)=Ub:=aI abK
def GN:Option PC:=cF [4] [] Tryz.f189 189 []
def Lo:PT:=
 (.call ⟨[(7,(ak r1 (pi 2)))],[]⟩ [(7,true)] 9 208 [r0]
 (.ite (.pick r7 r9 pF)
 (.ret (pi 29))
 (.ite (ak r1 (pi 2))
 (.ret (pi 28))
 (.ite (.pick (.pick (.pick (ak r1 (pi 4)) pT (ak r1 (pi 6))) pT (ak r1 (pi 9))) pT (ak r1 (pi 11)))
 (.ret (pi 30))
 (.ret (pi 31))))))
theorem abG:GN.map told=some (Lo,[]):=by kernel_rfl
theorem atQ:tree (ab GN)=Lo:=aI abG
def xV:Option PC:=cF [6,7,8,9,10] [] Tryz.f188 188 []
def BB:Nat→PC:=bf xV
def anW (b:Nat→PC):PC:=.block 0 [8,9,38,39,40] [] (.loop [8,9] [] (b 0))
def anX (b:Nat→PC):PC:=.block 2 [8,10,47,48,49] [] (.loop [8,10] [] (b 1))
def Ku (b:Nat→PC):PT:=
 (.ite (ah r9 r0)
 (.blockS ⟨[],[]⟩ 1 [8,43,44,45,46] []
 (.call ⟨[(43,r8)],[]⟩ [] 45 194 [r9]
 (.next ⟨[(8,(aD rZ kN))],[]⟩))
 (.next ⟨[(9,(aD r9 (pi 1)))],[]⟩))
 (.exit 0 ⟨[(38,r9),(39,r0),(40,(ah r9 r0))],[]⟩))
def Kv (b:Nat→PC):PT:=
 (.ite (ah bY r1)
 (.blockS ⟨[],[]⟩ 3 [8,52,53,54,55,56] []
 (.call ⟨[(52,r8)],[]⟩ [] 55 189 [r0,bY]
 (.next ⟨[(8,(aD sc ug))],[]⟩))
 (.next ⟨[(10,(aD bY (pi 1)))],[]⟩))
 (.exit 2 ⟨[(47,bY),(48,r1),(49,(ah bY r1))],[]⟩))
def T5 (b:Nat→PC):PT:=
 (.call ⟨[(30,r2),(29,adz)],[]⟩ [(29,false)] 33 189 [r0,r1]
 (.ite (.pick kL pT (bj nE mM))
 (.ret (.tup [(pi 0),(pi 3)]))
 (.brk ⟨[(9,(pi 2000)),(8,(aY r2 (pi 1)))],[]⟩
(anW b)
 (.brk ⟨[(10,(pi 1))],[]⟩
(anX b)
 (.call ⟨[],[]⟩ [] 58 102 [r8]
 (.ite (.nt AK)
 (.ret (.tup [(pi 0),(pi 3)]))
 (.ret (.tup [r8,(pi 0)]))))))))
def ajd (b:Nat→PC):PT×List (Shp×PT):=(T5 b,[(.lp 0 [8,9,38,39,40] [] [8,9] [],Ku b),(.lp 2 [8,10,47,48,49] [] [8,10] [],Kv b)])
theorem JA:xV.map told=some (ajd (aV xV)):=by kernel_rfl
theorem atP:tree (ab xV)=T5 BB:=bz JA
theorem aem:round 0 [8,9,38,39,40] [] [8,9] [] (BB 0)=Ku BB:=aQ JA 0 fun _=>rfl
theorem aen:round 2 [8,10,47,48,49] [] [8,10] [] (BB 1)=Kv BB:=aQ JA 1 fun _=>rfl
def yj:Option PC:=cF [6,7,8,9,10,11,12,2] [] Tryz.f137 137 [3]
def BI:Nat→PC:=bf yj
def aoi (b:Nat→PC):PC:=.block 2 [9,10,19,20,21,22,23] [] (.loop [9,10] [] (b 0))
def aoj (b:Nat→PC):PC:=.block 0 [2,6,7,16,17] [] (.loop [2,6,7] [] (b 1))
def AO (b:Nat→PC):PT:=
 (.ite (ah bY (.llen (pc o3 7)))
 (.chk (ao (pc o3 7) bY)
 (.chk (.nt (.an (.an (ak (pc wZ 0) r8) pT) (.nt (ao (pc o3 7) bY))))
 (.chk (.nt (.an (.an (.pick (ak (pc wZ 0) r8) (aX (pc wZ 1) r2) pF) pT) (.nt (ao (pc o3 7) bY))))
 (.ite (.pick (.pick (ak (pc wZ 0) r8) (aX (pc wZ 1) r2) pF) (aX r2 (pc wZ 2)) pF)
 (.next ⟨[(9,(.mx r9 (aD (pc wZ 2) (pi 1)))),(10,(aD bY (pi 1)))],[]⟩)
 (.next ⟨[(10,(aD bY (pi 1)))],[]⟩)))))
 (.exit 2 ⟨[(19,bY),(20,pN),(21,(pc o3 7)),(22,(.llen (pc o3 7))),(23,(ah bY (.llen (pc o3 7))))],[]⟩))
def KA (b:Nat→PC):PT:=
 (.ite (aX r2 (pi 100000))
 (.blockS ⟨[(17,(aX r2 (pi 100000))),(16,r2)],[]⟩ 1 [2,6,7,9,10,18,19,20,21,22,23,63,64,65,80,81,82,84] []
 (.brk ⟨[(10,(pi 0)),(9,r2)],[]⟩
(aoi b)
 (.iteS ⟨[],[]⟩ (ak r9 r2) [6,7,9] []
 (.chk (ao (pc o3 1) r1)
 (.call ⟨[],[]⟩ [] 73 103 [(pn (pc o3 1) r1),r2]
 (.ite (aP (.tget ql 1) (pi 0))
 (.ret (.tup [(pi 0),(.tget ql 1)]))
 (.next ⟨[(9,(.tget ql 0))],[]⟩))))
 (.next ⟨[],[]⟩)
 (.ite (ak r9 r2)
 (.ret (.tup [r2,(pi 0)]))
 (.next ⟨[(2,r9)],[]⟩))))
 (.next ⟨[],[]⟩))
 (.exit 0 ⟨[(16,r2),(17,(aX r2 (pi 100000)))],[]⟩))
def Uw (b:Nat→PC):PT:=
 (.call ⟨[(7,(pi 0)),(6,(pi 0))],[(3,(.mk [r0]))]⟩ [] 15 138 [gd,r1]
 (.brk ⟨[(8,dx)],[]⟩
(aoj b)
 (.ret (.tup [(pi 0),(pi 3)]))))
def ajs (b:Nat→PC):PT×List (Shp×PT):=(Uw b,[(.lp 2 [9,10,19,20,21,22,23] [] [9,10] [],AO b),(.lp 0 [2,6,7,16,17] [] [2,6,7] [],KA b)])
theorem JH:yj.map told=some (ajs (aV yj)):=by kernel_rfl
theorem aun:tree (ab yj)=Uw BI:=bz JH
theorem Kz:round 2 [9,10,19,20,21,22,23] [] [9,10] [] (BI 0)=AO BI:=aQ JH 0 fun _=>rfl
theorem aeo:round 0 [2,6,7,16,17] [] [2,6,7] [] (BI 1)=KA BI:=aQ JH 1 fun _=>rfl
def xW:Option PC:=cF [4,5,6,7,8] [] Tryz.f103 103 [2]
def My:Nat→PC:=bf xW
def anY (b:Nat→PC):PC:=.block 0 [4,5,6,12,13] [] (.loop [4,5,6] [] (b 0))
def Eg (b:Nat→PC):PT:=
 (.ite (aX r6 (pi 400))
 (.blockS ⟨[],[]⟩ 1 [4,5,7,8,16,17,18,19,20,21,22,23,24] []
 (.call ⟨[],[]⟩ [] 21 146 [(ar 6 o2),(aD r1 r6)]
 (.ite (.tget fB 0)
 (.ret (.tup [(aD r1 r6),(pi 0)]))
 (.next ⟨[],[]⟩)))
 (.next ⟨[(6,wR)],[]⟩))
 (.exit 0 ⟨[(12,r6),(13,(aX r6 (pi 400)))],[]⟩))
def T6 (b:Nat→PC):PT:=
 (.call ⟨[(5,(pi 0)),(4,(pi 0))],[(2,(.mk [r0]))]⟩ [] 10 102 [r1]
 (.ite (.nt bY)
 (.ret (.tup [(pi 0),(pi 3)]))
 (.brk ⟨[(6,(pi 0))],[]⟩
(anY b)
 (.ret (.tup [(pi 0),(pi 3)])))))
def aje (b:Nat→PC):PT×List (Shp×PT):=(T6 b,[(.lp 0 [4,5,6,12,13] [] [4,5,6] [],Eg b)])
theorem PX:xW.map told=some (aje (aV xW)):=by kernel_rfl
theorem atT:tree (ab xW)=T6 My:=bz PX
theorem RQ:round 0 [4,5,6,12,13] [] [4,5,6] [] (My 0)=Eg My:=aQ PX 0 fun _=>rfl
def GO:Option PC:=cF [4,5,6,7,8,9] [] Tryz.f146 146 [2]
def T7:PT:=
 (.call ⟨[],[(2,(.mk [r0]))]⟩ [] 12 171 [r1]
 (.ite (aP (.tget bR 3) (pi 0))
 (.ret (.tup [pF,(.tget bR 3)]))
 (.chk (aP (pi 7) (pi 0))
 (.call ⟨[(8,(.tget bR 2)),(7,(.tget bR 1))],[]⟩ [] 25 172 [(pc o2 3),(.ai .rem .i64 (aD r1 (pi 5)) (pi 7))]
 (.call ⟨[(27,(.nt eB))],[]⟩ [(27,true)] 34 172 [(pc o2 4),(aD (.ai .mul .i64 (pi 100) r7) r8)]
 (.call ⟨[(37,(.pick eC (.nt D8) pF))],[]⟩ [(37,true)] 41 172 [(pc o2 5),r1]
 (.ret (.tup [(.pick nG (.nt qg) pF),(pi 0)]))))))))
theorem abH:GO.map told=some (T7,[]):=by kernel_rfl
theorem atU:tree (ab GO)=T7:=aI abH
def xX:Option PC:=cF [4,5] [] Tryz.f172 172 []
def Mz:Nat→PC:=bf xX
def anZ (b:Nat→PC):PC:=.block 0 [4,5,6,7,8,9] [] (.loop [4,5] [] (b 0))
def Eh (b:Nat→PC):PT:=
 (.ite (ah r5 (.llen r0))
 (.chk (ao r0 r5)
 (.ite (ak (pn r0 r5) r1)
 (.ret pT)
 (.next ⟨[(5,lH)],[]⟩)))
 (.exit 0 ⟨[(6,r5),(7,r0),(8,(.llen r0)),(9,(ah r5 (.llen r0)))],[]⟩))
def Ua (b:Nat→PC):PT:=
 (.brk ⟨[(5,(pi 0)),(4,pF)],[]⟩
(anZ b)
 (.ret pF))
def ajf (b:Nat→PC):PT×List (Shp×PT):=(Ua b,[(.lp 0 [4,5,6,7,8,9] [] [4,5] [],Eh b)])
theorem PY:xX.map told=some (ajf (aV xX)):=by kernel_rfl
theorem atX:tree (ab xX)=Ua Mz:=bz PY
theorem RR:round 0 [4,5,6,7,8,9] [] [4,5] [] (Mz 0)=Eh Mz:=aQ PY 0 fun _=>rfl
def Hp:Option PC:=cF [4] [] Tryz.f13 13 []
def Fy:PT:=
 (.ite (.pick (ak r0 (pi 0)) pT (ak r1 (pi 0)))
 (.ret (pi 0))
 (.ite (.pick (ak r0 (pi 1)) (ak r1 (pi 1)) pF)
 (.ret (pi 1))
 (.ret (pi 2))))
theorem aci:Hp.map told=some (Fy,[]):=by kernel_rfl
theorem auZ:tree (ab Hp)=Fy:=aI aci
def ym:Option PC:=cF [6,7] [] Tryz.f69 69 [3]
def MH:Nat→PC:=bf ym
def aol (b:Nat→PC):PC:=.block 0 [6,7,17,18,19,20,21] [] (.loop [6,7] [] (b 0))
def EA (b:Nat→PC):PT:=
 (.ite (ah r7 (.llen (pc o3 17)))
 (.chk (ao (pc o3 17) r7)
 (.chk (.nt (.an (.an (ak (pc (pn (pc o3 17) r7) 0) (pi 7)) pT) (.nt (ao (pc o3 17) r7))))
 (.chk (.nt (.an (.an ado pT) (.nt (ao (pc o3 17) r7))))
 (.ite (.pick ado (aX (pc (pn (pc o3 17) r7) 6) r2) pF)
 (.ret pT)
 (.next ⟨[(7,ud)],[]⟩)))))
 (.exit 0 ⟨[(17,r7),(18,pN),(19,(pc o3 17)),(20,(.llen (pc o3 17))),(21,(ah r7 (.llen (pc o3 17))))],[]⟩))
def Lq (b:Nat→PC):PT:=
 (.ite (.pick (ah r1 (pi 0)) pT (bN r1 D2))
 (.ret pF)
 (.brk ⟨[(7,(pi 0)),(6,pF)],[(3,(.mk [r0]))]⟩
(aol b)
 (.ret pF)))
def aju (b:Nat→PC):PT×List (Shp×PT):=(Lq b,[(.lp 0 [6,7,17,18,19,20,21] [] [6,7] [],EA b)])
theorem P6:ym.map told=some (aju (aV ym)):=by kernel_rfl
theorem aup:tree (ab ym)=Lq MH:=bz P6
theorem R8:round 0 [6,7,17,18,19,20,21] [] [6,7] [] (MH 0)=EA MH:=aQ P6 0 fun _=>rfl
def yk:Option PC:=cF [4,5] [] Tryz.f70 70 [2]
def MG:Nat→PC:=bf yk
def aok (b:Nat→PC):PC:=.block 0 [4,5,10,11] [] (.loop [4,5] [] (b 0))
def Ez (b:Nat→PC):PT:=
 (.ite (bN r5 (pi 0))
 (.chk (ao (pc o2 16) r5)
 (.ite (aX (pc (pn (pc o2 16) r5) 0) r1)
 (.ret (pc (pn (pc o2 16) r5) 1))
 (.next ⟨[(5,(aY r5 (pi 1)))],[]⟩)))
 (.exit 0 ⟨[(10,r5),(11,(bN r5 (pi 0)))],[]⟩))
def Ux (b:Nat→PC):PT:=
 (.brk ⟨[(5,(aY (.llen (pc (.mk [r0]) 16)) (pi 1))),(4,(pi 0))],[(2,(.mk [r0]))]⟩
(aok b)
 (.ret (pc o2 3)))
def ajt (b:Nat→PC):PT×List (Shp×PT):=(Ux b,[(.lp 0 [4,5,10,11] [] [4,5] [],Ez b)])
theorem P5:yk.map told=some (ajt (aV yk)):=by kernel_rfl
theorem auo:tree (ab yk)=Ux MG:=bz P5
theorem R7:round 0 [4,5,10,11] [] [4,5] [] (MG 0)=Ez MG:=aQ P5 0 fun _=>rfl
def yD:Option PC:=cF [4,5] [] Tryz.f71 71 [2]
def MV:Nat→PC:=bf yD
def aoD (b:Nat→PC):PC:=.block 0 [4,5,6,7,8,9,10] [] (.loop [4,5] [] (b 0))
def EN (b:Nat→PC):PT:=
 (.ite (ah r5 wN)
 (.chk (ao (pc o2 16) r5)
 (.ite (bj (pc (pn (pc o2 16) r5) 0) r1)
 (.ret pT)
 (.next ⟨[(5,lH)],[]⟩)))
 (.exit 0 ⟨[(6,r5),(7,pN),(8,(pc o2 16)),(9,wN),(10,(ah r5 wN))],[]⟩))
def U3 (b:Nat→PC):PT:=
 (.brk ⟨[(5,(pi 0)),(4,pF)],[(2,(.mk [r0]))]⟩
(aoD b)
 (.ret pF))
def ajJ (b:Nat→PC):PT×List (Shp×PT):=(U3 b,[(.lp 0 [4,5,6,7,8,9,10] [] [4,5] [],EN b)])
theorem Qj:yD.map told=some (ajJ (aV yD)):=by kernel_rfl
theorem au9:tree (ab yD)=U3 MV:=bz Qj
theorem Sm:round 0 [4,5,6,7,8,9,10] [] [4,5] [] (MV 0)=EN MV:=aQ Qj 0 fun _=>rfl
def yE:Option PC:=cF [8,11] [] Tryz.f11 11 [4,6,9,10,30]
def MW:Nat→PC:=bf yE
def aoE (b:Nat→PC):PC:=.block 0 [9,11,16,17,18,19,20] [9] (.loop [9,11] [9] (b 0))
def KF (b:Nat→PC):PT:=
 (.ite (ah bK (.llen (pc bI 15)))
 (.blockS ⟨[],[]⟩ 1 [9,24,25,26,27,28,29,30,31] [9,30]
 (.call ⟨[],[]⟩ [] 29 29 [(ar 8 o4),r1,(ar 19 o6),bK,r3]
 (.chk (aX (.llen (.app o9 (.lst [kL]))) cj)
 (.next ⟨[(9,pN)],[(9,(.app o9 (.lst [kL])))]⟩)))
 (.next ⟨[(11,(aD bK (pi 1)))],[]⟩))
 (.exit 0 ⟨[(16,bK),(17,pN),(18,(pc bI 15)),(19,(.llen (pc bI 15))),(20,(ah bK (.llen (pc bI 15))))],[]⟩))
def U5 (b:Nat→PC):PT:=
 (.call ⟨[(9,pN)],[(9,(.lst [])),(6,(.mk [r2])),(4,(.mk [r0]))]⟩ [] 15 28 [tZ,r3]
 (.brk ⟨[(11,(pi 0))],[(10,(.setc jL 0 dx))]⟩
(aoE b)
 (.ret o9)))
def ajK (b:Nat→PC):PT×List (Shp×PT):=(U5 b,[(.lp 0 [9,11,16,17,18,19,20] [9] [9,11] [9],KF b)])
theorem Qk:yE.map told=some (ajK (aV yE)):=by kernel_rfl
theorem avb:tree (ab yE)=U5 MW:=bz Qk
theorem aer:round 0 [9,11,16,17,18,19,20] [9] [9,11] [9] (MW 0)=KF MW:=aQ Qk 0 fun _=>rfl
def Gn:Option PC:=l5 {ctx with fr:=[6],nh:=[]} Tryz.f153 ⟨[Y8,I,k9],.slice I,.dat⟩ [3,5,7,8,42,9]
def Tv:PT:=
 (.chk (ao (pc (.mk [r2]) 15) (pc (.mk [r2]) 19))
 (.ite adx
 (.ret pL)
 (.chk Ra
 (.chk (ak (pi 5) (pi 5))
 (.chk (ao Az (pi 0))
 (.call ⟨[],[(9,(.setn Az (pi 0) 0 r1)),(8,(.setc Wo 0 (ar 15 (.mk [r2])))),(7,AG),(3,(.mk [r0]))]⟩ [] 50 125 [gd,(pc AG 7)]
 (.chk (ao o9 (pi 1))
 (.call ⟨[],[(9,(.setn o9 (pi 1) 0 nI))]⟩ [] 56 125 [(ar 8 o3),(pc o8 10)]
 (.chk (ao o9 (pi 2))
 (.call ⟨[],[(9,(.setn o9 (pi 2) 0 oV))]⟩ [] 62 125 [(ar 8 o3),(pc o8 9)]
 (.chk (ao o9 (pi 3))
 (.chk (ao (pc o3 3) (pc o7 2))
 (.call ⟨[],[(9,(.setn o9 (pi 3) 0 qh))]⟩ [] 73 125 [(ar 8 o3),(pc (pn (pc o3 3) (pc o7 2)) 1)]
 (.chk (ao o9 (pi 4))
 (.call ⟨[],[(9,(.setn o9 (pi 4) 0 ql))]⟩ [] 76 93 [(.setn o9 (pi 4) 0 ql),(pi (-1))]
 (.ite qm
 (.ret pL)
 (.ret o9)))))))))))))))))
theorem abe:Gn.map told=some (Tv,[]):=by kernel_rfl
theorem atg:tree (ab Gn)=Tv:=aI abe
def Gp:Option PC:=l5 {ctx with fr:=[6],nh:=[]} Tryz.f153 ⟨[Y8,I,k9],.nils .bool,.dat⟩ [3,5,7,8,42,9]
def Ll:PT:=
 (.chk (ao (pc (.mk [r2]) 15) (pc (.mk [r2]) 19))
 (.ite adx
 (.ret pL)
 (.chk Ra
 (.chk (ak (pi 5) (pi 5))
 (.chk (ao Az (pi 0))
 (.call ⟨[],[(9,(.setn Az (pi 0) 0 r1)),(8,(.setc Wo 0 (ar 15 (.mk [r2])))),(7,AG),(3,(.mk [r0]))]⟩ [] 50 125 [gd,(pc AG 7)]
 (.chk (ao o9 (pi 1))
 (.call ⟨[],[(9,(.setn o9 (pi 1) 0 nI))]⟩ [] 56 125 [(ar 8 o3),(pc o8 10)]
 (.chk (ao o9 (pi 2))
 (.call ⟨[],[(9,(.setn o9 (pi 2) 0 oV))]⟩ [] 62 125 [(ar 8 o3),(pc o8 9)]
 (.chk (ao o9 (pi 3))
 (.chk (ao (pc o3 3) (pc o7 2))
 (.call ⟨[],[(9,(.setn o9 (pi 3) 0 qh))]⟩ [] 73 125 [(ar 8 o3),(pc (pn (pc o3 3) (pc o7 2)) 1)]
 (.chk (ao o9 (pi 4))
 (.call ⟨[],[]⟩ [] 76 93 [(.setn o9 (pi 4) 0 ql),(pi (-1))]
 (.ite qm
 (.ret pL)
 (.chk pF
 (.next ⟨[],[]⟩))))))))))))))))))
theorem abf:Gp.map told=some (Ll,[]):=by kernel_rfl
theorem ath:tree (ab Gp)=Ll:=aI abf
end Rm
