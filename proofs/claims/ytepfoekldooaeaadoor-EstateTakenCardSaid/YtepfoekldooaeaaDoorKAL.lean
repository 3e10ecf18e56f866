/-
  The functions of this seat, compiled (2).
-/
import Derived.Test.YtepfoekldooaeaaDoorKAJ
import Derived.KernelRfl
set_option linter.unusedVariables false
set_option maxRecDepth 100000
namespace Rm
open Go Go.Proofs Cx
noncomputable def vN:Option PC:=aB {ctx with fr:=[9,10,12],nh:=[]} Tryd.f9 ((ab ah 9).getD default) [4,6,7,8,11]
noncomputable def Dj:PC:=aA vN
noncomputable def F5:Nat→PC:=bL vN
def aiu (b:Nat→PC):PC:=.block 0 [8,9,16,17] [8] (.loop [8,9,16] [8] (b 0))
def E5 (b:Nat→PC):PT:=
 (.ite (aj cg cZ)
 (.blockS ⟨[],[]⟩ 1 [8,9,10,11,18,19,20,21,22,23,24,30,31,37] [11,8]
 (.chk (aq bG cg)
 (.ite (.pick (.pick (aT (pc (.setc z9 0 kN) 0) (pi 6)) pT (aT (pc (.setc z9 0 kN) 1) (pc o7 0))) pT (bm (pc (.setc z9 0 kN) 6) (pc o7 1)))
 (.exit 1 ⟨[],[]⟩)
 (.call ⟨[(10,cg)],[(11,(.setc z9 0 kN))]⟩ [] 46 11 [(aQ 8 o4),r1,(pi 21),(.mk [(aQ 19 o6),(pc (.setc z9 0 kN) 4),(pi (-1)),(pi (-1)),(pi (-1)),(pc o7 1)])]
 (.call ⟨[],[]⟩ [] 47 10 [y5]
 (.ite (.pick (aT y6 (pi (-1))) (bO (bS (pc o7 1) (pc pG 6)) y6) pF)
 (.chk (bO (.llen (.app o8 (.lst [bY]))) cq)
 (.next ⟨[(8,pN),(9,(aL r9 (pc pG 5)))],[(8,(.app o8 (.lst [bY])))]⟩))
 (.next ⟨[],[]⟩))))))
 (.next ⟨[(16,(aL cg (pi 1)))],[]⟩))
 (.exit 0 ⟨[(17,(aj cg cZ))],[]⟩))
def Mc (b:Nat→PC):PT:=
 (.brk ⟨[(16,(pi 0)),(15,(.llen (pc (.mk [r2]) 17))),(14,(pc (.mk [r2]) 17)),(9,(pi 0)),(8,pN)],[(8,pL),(7,(.mk [r3])),(6,(.mk [r2])),(4,(.mk [r0]))]⟩
(aiu b)
 (.ret (.tup [o8,r9])))
def adh (b:Nat→PC):PT×List (Shp×PT):=(Mc b,[(.lp 0 [8,9,16,17] [8] [8,9,16] [8],E5 b)])
theorem JL:vN.map told=some (adh (az vN)):=by kernel_rfl
theorem anL:tree Dj=Mc F5:=aP JL
theorem Vo:round 0 [8,9,16,17] [8] [8,9,16] [8] (F5 0)=E5 F5:=bI JL 0 fun _=>rfl
theorem ZQ:vN=some Dj:=aE JL
noncomputable def At:Option PC:=aB {ctx with fr:=[10],nh:=[]} Tryd.f11 ((ab ah 11).getD default) [4,7,8,9]
noncomputable def C6:PC:=aA At
def LZ:PT:=
 (.call ⟨[],[(8,yX),(4,(.mk [r0]))]⟩ [] 16 37 [mR,r1,r2,(aQ 24 (.mk [r3]))]
 (.iteS ⟨[(10,(.tget cg 1))],[(9,(.setc yX 0 (.tget cg 0)))]⟩ (aT (pc (.setc yX 0 (.tget cg 0)) 2) (pi (-1))) [] [9]
 (.chk (aq (pc o4 4) (pc o9 2))
 (.call ⟨[],[]⟩ [] 31 38 [(pn (pc o4 4) (pc o9 2)),r2,bY]
 (.next ⟨[],[(9,(.setc (.setc o9 0 (.tget sk 0)) 4 (.tget sk 1)))]⟩)))
 (.next ⟨[],[]⟩)
 (.ret (aQ 5 (.setc o8 0 (aQ 5 o9))))))
def acT (b:Nat→PC):PT×List (Shp×PT):=(LZ,[])
theorem Tz:At.map told=some (acT (az At)):=by kernel_rfl
theorem ano:tree C6=LZ:=aP Tz
theorem ZD:At=some C6:=aE Tz
noncomputable def Av:Option PC:=aB {ctx with fr:=[9,11,12,13,14],nh:=[]} Tryd.f37 ((ab ah 37).getD default) [4,7,8,10,16394]
noncomputable def C8:PC:=aA Av
def L2:PT:=
 (.call ⟨[],[(16394,pL),(10,(.setc yX 0 (.mk [ez,(pi (-1)),pL,(pi 1)]))),(8,yX),(7,(.mk [r3])),(4,(.mk [r0]))]⟩ [] 19 52 [mR,(aQ 24 (.mk [r3]))]
 (.ite (ao (.llen (.tget gJ 1)) (pi 0))
 (.ret (.tup [KL,pL]))
 (.call ⟨[(11,(.tget gJ 1))],[(7,(.setc o7 0 (.tget gJ 0)))]⟩ [] 28 53 [r2]
 (.ite (.nt (.tget oq 1))
 (.ret (.tup [KL,pL]))
 (.call ⟨[],[]⟩ [] 37 54 [(aQ 8 o4),r1,(aQ 24 o7)]
 (.ite (ao (.llen jB) (pi 0))
 (.ret (.tup [KL,pL]))
 (.call ⟨[],[]⟩ [] 46 55 [(aQ 8 o4),r1,r2,jB]
 (.ite (ao (pc rZ 4) (pi 0))
 (.chk (aq (pc rZ 3) (bS (.llen (pc rZ 3)) (pi 1)))
 (.ret (.tup [(aQ 5 (.setc o8 0 (aQ 5 (.setc rZ 2 (pn (pc rZ 3) (bS (.llen (pc rZ 3)) (pi 1))))))),bl])))
 (.ret (.tup [(aQ 5 (.setc o8 0 (aQ 5 rZ))),bl]))))))))))
def acV (b:Nat→PC):PT×List (Shp×PT):=(L2,[])
theorem TB:Av.map told=some (acV (az Av)):=by kernel_rfl
theorem anq:tree C8=L2:=aP TB
theorem ZF:Av=some C8:=aE TB
noncomputable def Aw:Option PC:=aB {ctx with fr:=[5],nh:=[]} Tryd.f52 ((ab ah 52).getD default) [2,3,4]
noncomputable def C9:PC:=aA Aw
def L3:PT:=
 (.call ⟨[],[(4,(.con (.agg [(.int 0),(.int 0),(.int 0),(.int 0),(.int 0),(.int 0),(.int 0),(.int 0),(.int 0),(.int 0),(.int 0),(.int 0),(.int 0),(.int 0),(.int 0),(.list []),(.list []),(.list []),(.list []),(.int 0),(.int 0),(.int 0),(.int 0),(.int 0)]))),(3,(.mk [r1])),(2,(.mk [r0]))]⟩ [] 10 65 [(aQ 19 (.mk [r1])),(pc (.mk [r1]) 23)]
 (.call ⟨[(12,(aQ 24 (.setc o3 0 bY)))],[]⟩ [] 15 66 [(aQ 8 o2),(aQ 24 (.setc o3 0 bY))]
 (.ret (.tup [(aQ 24 (.setc o4 0 bZ)),cZ]))))
def acW (b:Nat→PC):PT×List (Shp×PT):=(L3,[])
theorem TC:Aw.map told=some (acW (az Aw)):=by kernel_rfl
theorem anr:tree C9=L3:=aP TC
theorem ZG:Aw=some C9:=aE TC
noncomputable def wv:Option PC:=aB {ctx with fr:=[],nh:=[]} Tryd.f65 ((ab ah 65).getD default) [2,4,5,65541,69637,73733,77829,7,31,9,49,11,13]
noncomputable def DX:PC:=aA wv
noncomputable def nk:Nat→PC:=bL wv
def ai0 (b:Nat→PC):PC:=.block 0 [20,21] [65541,5] (.loop [20] [65541,5] (b 0))
def ai1 (b:Nat→PC):PC:=.block 2 [38,39] [73733,5] (.loop [38] [73733,5] (b 1))
def ai2 (b:Nat→PC):PC:=.block 4 [56,57] [5,69637] (.loop [56] [5,69637] (b 2))
def ai3 (b:Nat→PC):PC:=.block 6 [76,77] [5,77829] (.loop [76] [5,77829] (b 3))
def zt (b:Nat→PC):PT:=
 (.ite (aj fj gJ)
 (.chk (aq fA fj)
 (.ite (bm (pc (.setc z9 0 oo) 6) r1)
 (.exit 0 ⟨[(21,(aj fj gJ))],[]⟩)
 (.chk (bO (.llen (.app (.o 65541) (.lst [(aQ 9 (.setc z9 0 oo))]))) cq)
 (.next ⟨[(20,(aL fj (pi 1)))],[(65541,(.app (.o 65541) (.lst [(aQ 9 (.setc z9 0 oo))]))),(5,(.setc o5 15 pN))]⟩))))
 (.exit 0 ⟨[(21,(aj fj gJ))],[]⟩))
def zu (b:Nat→PC):PT:=
 (.ite (aj fB jB)
 (.chk (aq mU fB)
 (.ite (bm (pc (.setc z9 0 (pn mU fB)) 6) r1)
 (.exit 2 ⟨[(39,(aj fB jB))],[]⟩)
 (.chk (bO (.llen (.app (.o 73733) (.lst [(aQ 9 (.setc z9 0 (pn mU fB)))]))) cq)
 (.next ⟨[(38,(aL fB (pi 1)))],[(73733,(.app (.o 73733) (.lst [(aQ 9 (.setc z9 0 (pn mU fB)))]))),(5,(.setc o5 17 pN))]⟩))))
 (.exit 2 ⟨[(39,(aj fB jB))],[]⟩))
def zw (b:Nat→PC):PT:=
 (.ite (aj kQ y7)
 (.chk (aq ou kQ)
 (.ite (bO (pc (.setc z2 0 (pn ou kQ)) 0) (.llen (.o 65541)))
 (.chk (bO (.llen U0) cq)
 (.next ⟨[(56,(aL kQ (pi 1)))],[(5,(.setc o5 16 pN)),(69637,U0)]⟩))
 (.next ⟨[(56,(aL kQ (pi 1)))],[]⟩)))
 (.exit 4 ⟨[(57,(aj kQ y7))],[]⟩))
def zx (b:Nat→PC):PT:=
 (.ite (aj pY Vj)
 (.blockS ⟨[],[]⟩ 7 [13,78,79,80,81,82,83,84,85] [13,77829,5]
 (.chk (aq E2 pY)
 (.call ⟨[],[(13,(.setc z3 0 (pn E2 pY)))]⟩ [] 85 78 [(pc (.setc z3 0 (pn E2 pY)) 1),(.llen (.o 65541))]
 (.ite r85
 (.chk (bO (.llen UM) cq)
 (.next ⟨[],[(77829,UM),(5,(.setc o5 18 pN))]⟩))
 (.next ⟨[],[]⟩))))
 (.next ⟨[(76,(aL pY (pi 1)))],[]⟩))
 (.exit 6 ⟨[(77,(aj pY Vj))],[]⟩))
def MN (b:Nat→PC):PT:=
 (.brk ⟨[(20,(pi 0)),(19,(.llen om)),(18,om)],[(77829,pL),(73733,pL),(69637,pL),(65541,pL),(5,(.setc ED 0 (.mk [(aQ 15 (.mk [r0])),pL,pL,pL,pL]))),(4,ED),(2,(.mk [r0]))]⟩
(ai0 b)
 (.brk ⟨[(38,(pi 0)),(37,(.llen (pc o2 17))),(36,(pc o2 17))],[]⟩
(ai1 b)
 (.brk ⟨[(56,(pi 0)),(55,(.llen (pc o2 16))),(54,(pc o2 16))],[]⟩
(ai2 b)
 (.brk ⟨[(76,(pi 0)),(75,(.llen (pc o2 18))),(74,(pc o2 18))],[]⟩
(ai3 b)
 (.ret (aQ 19 (.setc o4 0 (.mk [(pc o5 0),(pc o5 1),(pc o5 2),(pc o5 3),(pc o5 4),(pc o5 5),(pc o5 6),(pc o5 7),(pc o5 8),(pc o5 9),(pc o5 10),(pc o5 11),(pc o5 12),(pc o5 13),(pc o5 14),(.o 65541),(.o 69637),(.o 73733),(.o 77829)]))))))))
def ad0 (b:Nat→PC):PT×List (Shp×PT):=(MN b,[(.lp 0 [20,21] [65541,5] [20] [65541,5],zt b),(.lp 2 [38,39] [73733,5] [38] [73733,5],zu b),(.lp 4 [56,57] [5,69637] [56] [5,69637],zw b),(.lp 6 [76,77] [5,77829] [76] [5,77829],zx b)])
theorem ub:wv.map told=some (ad0 (az wv)):=by kernel_rfl
theorem aot:tree DX=MN nk:=aP ub
theorem Lg:round 0 [20,21] [65541,5] [20] [65541,5] (nk 0)=zt nk:=bI ub 0 fun _=>rfl
theorem Lh:round 2 [38,39] [73733,5] [38] [73733,5] (nk 1)=zu nk:=bI ub 1 fun _=>rfl
theorem Li:round 4 [56,57] [5,69637] [56] [5,69637] (nk 2)=zw nk:=bI ub 2 fun _=>rfl
theorem Lj:round 6 [76,77] [5,77829] [76] [5,77829] (nk 3)=zx nk:=bI ub 3 fun _=>rfl
theorem aat:wv=some DX:=aE ub
noncomputable def AZ:Option PC:=aB {ctx with fr:=[4],nh:=[]} Tryd.f78 ((ab ah 78).getD default) []
noncomputable def D2:PC:=aA AZ
def MS:PT:=
 (.ret KP)
def ad5 (b:Nat→PC):PT×List (Shp×PT):=(MS,[])
theorem T8:AZ.map told=some (ad5 (az AZ)):=by kernel_rfl
theorem aoy:tree D2=MS:=aP T8
theorem aay:AZ=some D2:=aE T8
noncomputable def wy:Option PC:=aB {ctx with fr:=[4,7,9,11,12,13,14,15,16],nh:=[]} Tryd.f66 ((ab ah 66).getD default) [2,3,5,6,8,10,90,139]
noncomputable def DZ:PC:=aA wy
noncomputable def vt:Nat→PC:=bL wy
def ajL (b:Nat→PC):PC:=.meach 90 [94,95,11,12] [0,1,0,1] [10] (b 0)
def ajM (b:Nat→PC):PC:=.meach 139 [143,144,15,16] [0,1,0,1] [10] (b 1)
def Lm (b:Nat→PC):PT:=
 (.chk (aq cw bl)
 (.next ⟨[],[(10,(.setn cw bl 0 (.mk [pT,bZ])))]⟩))
def Ln (b:Nat→PC):PT:=
 (.blockS ⟨[],[]⟩ 3 [145,146,147,148,149] [10]
 (.call ⟨[(146,cZ)],[]⟩ [] 148 81 [cg]
 (.chk (aq cw (.r 146))
 (.next ⟨[],[(10,(.setn cw (.r 146) 0 (.r 148)))]⟩)))
 (.next ⟨[],[]⟩))
def qp (b:Nat→PC):PT:=
 (.call ⟨[(7,(.mx (pc (.mk [r1]) 20) (pi 0)))],[(6,(.setc FN 0 (aQ 15 (.mk [r1])))),(5,(.setc ED 0 (aQ 19 (.mk [r1])))),(3,(.mk [r1])),(2,(.mk [r0]))]⟩ [] 30 78 [(pc (.mk [r1]) 19),(.llen (pc (.setc ED 0 (aQ 19 (.mk [r1]))) 15))]
 (.call ⟨[(48,(aT (pc o3 22) (pi (-1)))),(44,(.pick (.pick (.nt pW) pT (aj (pc o3 20) (pi (-1)))) pT (aY r7 (.llen (pc o5 15)))))],[]⟩ [(48,true),(44,false)] 51 78 [(pc o3 22),(pi 100001)]
 (.ite (.pick y4 pT (.pick mX (.nt eT) pF))
 (.ret pL)
 (.chk (aq (pc o5 15) (pc o3 19))
 (.call ⟨[],[(8,(.setc z9 0 (pn (pc o5 15) (pc o3 19))))]⟩ [] 63 78 [(pc (.setc z9 0 (pn (pc o5 15) (pc o3 19))) 6),(pi 100001)]
 (.ite (.nt Vg)
 (.ret pL)
 (.chk (.an (aY (pi 20) (pi 0)) (bO (pi 20) cq))
 (.chk (ao (pi 20) (pi 20))
 (.chk (aj (.mlen (.con (.map []))) cq)
 (.chk (aj (.mlen (.put (.con (.map [])) (pi 0) (pc o6 3))) cq)
 (.chk (aj (.mlen (.put (.put (.con (.map [])) (pi 0) (pc o6 3)) (pi 1) (pc o6 14))) cq)
 (.chk (aj (.mlen KH) cq)
 (.chk (aj (.mlen (.put KH (pi 3) (pc o6 12))) cq)
 (.chk (aj (.mlen KN) cq)
 (.chk (aj (.mlen (.put KN (pi 5) (pc o3 21))) cq)
 (.blockS ⟨[(10,pN),(9,U7)],[(90,(.tup [(.lst []),(.put (.put KN (pi 5) (pc o3 21)) (pi 6) U7)])),(10,(.rep (pi 20) ez))]⟩ 0 [] [10]
 (.brk ⟨[],[]⟩
(ajL b)
 (.exit 0 ⟨[],[]⟩))
 (.call ⟨[],[(3,(aQ 24 o3))]⟩ [] 104 79 [(pc o5 16),(.clo 80 [(.ref (aQ 24 o3))])]
 (.call ⟨[(13,alG)],[]⟩ [] 108 68 [(aQ 8 o2),(pc o6 9)]
 (.call ⟨[],[]⟩ [] 112 68 [(aQ 8 o2),(pc o6 10)]
 (.chk (aj (.mlen (.con (.map []))) cq)
 (.chk (aj (.mlen KM) cq)
 (.chk (aj (.mlen (.put KM (pi 8) (ao (pc o6 2) (pi (-1))))) cq)
 (.chk (aj (.mlen (.put (.put KM (pi 8) (ao (pc o6 2) (pi (-1)))) (pi 9) (aT (.ai .and .i64 (pc o6 13) (pi 4)) (pi 0)))) cq)
 (.chk (aj (.mlen ES) cq)
 (.chk (aj (.mlen (.put ES (pi 11) (aT KQ KR))) cq)
 (.chk (aj (.mlen (.put (.put ES (pi 11) (aT KQ KR)) (pi 12) bF)) cq)
 (.chk (aj (.mlen UU) cq)
 (.blockS ⟨[],[(139,(.tup [(.lst []),(.put UU (pi 14) (bm r9 (pi 0)))]))]⟩ 2 [] [10]
 (.brk ⟨[],[]⟩
(ajM b)
 (.exit 2 ⟨[],[]⟩))
 (.call ⟨[],[]⟩ [] 154 82 [(aQ 19 o5),(pi 0),(pc o3 19)]
 (.chk (aq cw (pi 15))
 (.call ⟨[],[(10,(.setn cw (pi 15) 0 (.r 154)))]⟩ [] 160 82 [(aQ 19 o5),(pi 1),(pc o3 19)]
 (.chk (aq cw (pi 16))
 (.call ⟨[],[(10,(.setn cw (pi 16) 0 (.r 160)))]⟩ [] 166 82 [(aQ 19 o5),(pi 2),(pc o3 19)]
 (.chk (aq cw (pi 17))
 (.call ⟨[],[(10,(.setn cw (pi 17) 0 (.r 166)))]⟩ [] 171 82 [(aQ 19 o5),(pi 3),r7]
 (.chk (aq cw (pi 18))
 (.call ⟨[],[(10,(.setn cw (pi 18) 0 (.r 171)))]⟩ [] 176 82 [(aQ 19 o5),(pi 4),r7]
 (.chk (aq cw (pi 19))
 (.ret (.setn cw (pi 19) 0 (.r 176)))))))))))))))))))))))))))))))))))))))))
def ad2 (b:Nat→PC):PT×List (Shp×PT):=(qp b,[(.ea [10],Lm b),(.ea [10],Ln b)])
theorem CX:wy.map told=some (ad2 (az wy)):=by kernel_rfl
theorem aow:tree DZ=qp vt:=aP CX
theorem aml:oy [10] (vt 0)=Lm vt:=Wh CX 0 fun _=>rfl
theorem amm:oy [10] (vt 1)=Ln vt:=Wh CX 1 fun _=>rfl
theorem aaw:wy=some DZ:=aE CX
noncomputable def AX:Option PC:=aB {ctx with fr:=[3],nh:=[]} Tryd.f80 ((ab ah 80).getD default) [2]
noncomputable def D0:PC:=aA AX
def MQ:PT:=
 (.ret (bO lU (pc (.deref r1) 19)))
def ad3 (b:Nat→PC):PT×List (Shp×PT):=(MQ,[])
theorem T6:AX.map told=some (ad3 (az AX)):=by kernel_rfl
theorem aov:tree D0=MQ:=aP T6
theorem aav:AX=some D0:=aE T6
noncomputable def A0:Option PC:=aB {ctx with fr:=[4],nh:=[]} Tryd.f79 ((ab ah 79).getD default) []
noncomputable def D4:PC:=aA A0
def MU:PT:=
 (.call ⟨[],[]⟩ [] 7 92 [r0,r1]
 (.ret (aY r7 (pi 0))))
def ad7 (b:Nat→PC):PT×List (Shp×PT):=(MU,[])
theorem T9:A0.map told=some (ad7 (az A0)):=by kernel_rfl
theorem aoA:tree D4=MU:=aP T9
theorem aaA:A0=some D4:=aE T9
noncomputable def wA:Option PC:=aB {ctx with fr:=[4,5],nh:=[]} Tryd.f92 ((ab ah 92).getD default) []
noncomputable def D8:PC:=aA wA
noncomputable def Gl:Nat→PC:=bL wA
def ai7 (b:Nat→PC):PC:=.block 0 [4,8,9] [] (.loop [4,8] [] (b 0))
def zz (b:Nat→PC):PT:=
 (.ite (aj r8 r7)
 (.blockS ⟨[],[]⟩ 1 [4,5,10,11,12,13,14,15,16] []
 (.chk (aq r0 r8)
 (.callc ⟨[(5,r8)],[]⟩ [] 16 r1 [(pn r0 r8)]
 (.ite cg
 (.ret r5)
 (.next ⟨[],[]⟩))))
 (.next ⟨[(8,sf)],[]⟩))
 (.exit 0 ⟨[(9,(aj r8 r7))],[]⟩))
def MY (b:Nat→PC):PT:=
 (.brk ⟨[(8,(pi 0)),(7,(.llen r0)),(4,(pi 0))],[]⟩
(ai7 b)
 (.ret (pi (-1))))
def aeb (b:Nat→PC):PT×List (Shp×PT):=(MY b,[(.lp 0 [4,8,9] [] [4,8] [],zz b)])
theorem J0:wA.map told=some (aeb (az wA)):=by kernel_rfl
theorem aoE:tree D8=MY Gl:=aP J0
theorem Lo:round 0 [4,8,9] [] [4,8] [] (Gl 0)=zz Gl:=bI J0 0 fun _=>rfl
theorem aaE:wA=some D8:=aE J0
noncomputable def AU:Option PC:=aB {ctx with fr:=[4],nh:=[]} Tryd.f68 ((ab ah 68).getD default) [2]
noncomputable def DL:PC:=aA AU
def MB:PT:=
 (.call ⟨[],[(2,(.mk [r0]))]⟩ [] 9 26 [r1,(.llen sd)]
 (.ite (.nt r9)
 (.ret (pi (-1)))
 (.chk (aq (pc o2 1) r1)
 (.ret (pc (pn (pc o2 1) r1) 1)))))
def adO (b:Nat→PC):PT×List (Shp×PT):=(MB,[])
theorem T3:AU.map told=some (adO (az AU)):=by kernel_rfl
theorem aoh:tree DL=MB:=aP T3
theorem aah:AU=some DL:=aE T3
noncomputable def AY:Option PC:=aB {ctx with fr:=[],nh:=[]} Tryd.f81 ((ab ah 81).getD default) [2]
noncomputable def D1:PC:=aA AY
def MR:PT:=
 (.ite r0
 (.ret (.mk [(pc EO 0),(pc EO 1)]))
 (.ret (.mk [(pc EP 0),(pc EP 1)])))
def ad4 (b:Nat→PC):PT×List (Shp×PT):=(MR,[])
theorem T7:AY.map told=some (ad4 (az AY)):=by kernel_rfl
theorem aox:tree D1=MR:=aP T7
theorem aax:AY=some D1:=aE T7
noncomputable def wx:Option PC:=aB {ctx with fr:=[],nh:=[]} Tryd.f82 ((ab ah 82).getD default) [3,6,8]
noncomputable def DY:PC:=aA wx
noncomputable def Gk:Nat→PC:=bL wx
def ai4 (b:Nat→PC):PC:=.block 0 [12,13] [6] (.loop [12] [6] (b 0))
def zy (b:Nat→PC):PT:=
 (.ite (aj bZ bl)
 (.blockS ⟨[],[]⟩ 1 [8,14,15,16,17,18,19,20,25] [8,6]
 (.chk (aq bY bZ)
 (.iteS ⟨[],[(8,(.setc z3 0 pQ))]⟩ (.pick (ao (pc (.setc z3 0 pQ) 0) r1) (ao (pc (.setc z3 0 pQ) 1) r2) pF) [] [6]
 (.call ⟨[],[]⟩ [] 29 81 [(aT (pc o8 2) (pi 0))]
 (.ret (.mk [(pc (.setc o6 0 gn) 0),(pc (.setc o6 0 gn) 1)])))
 (.next ⟨[],[]⟩)
 (.next ⟨[],[]⟩)))
 (.next ⟨[(12,(aL bZ (pi 1)))],[]⟩))
 (.exit 0 ⟨[(13,(aj bZ bl))],[]⟩))
def MO (b:Nat→PC):PT:=
 (.brk ⟨[(12,(pi 0)),(11,(.llen uG)),(10,uG)],[(6,ez)]⟩
(ai4 b)
 (.ret (.mk [(pc (.setc o6 0 se) 0),(pc (.setc o6 0 se) 1)])))
def ad1 (b:Nat→PC):PT×List (Shp×PT):=(MO b,[(.lp 0 [12,13] [6] [12] [6],zy b)])
theorem JZ:wx.map told=some (ad1 (az wx)):=by kernel_rfl
theorem aou:tree DY=MO Gk:=aP JZ
theorem Ll:round 0 [12,13] [6] [12] [6] (Gk 0)=zy Gk:=bI JZ 0 fun _=>rfl
theorem aau:wx=some DY:=aE JZ
noncomputable def AF:Option PC:=aB {ctx with fr:=[2,3,4,11],nh:=[]} Tryd.f53 ((ab ah 53).getD default) []
noncomputable def Dm:PC:=aA AF
def Mf:PT:=
 (.blockS ⟨[],[]⟩ 0 [2,3,4,5,6,7,10,11,12,13,14] []
 (.iteS ⟨[],[]⟩ (.pick (aj r0 (pi 0)) pT (aY r0 (pi 22))) [2,3,11,12,13,14] []
 (.ret (.tup [(pi 0),pF]))
 (.call ⟨[],[]⟩ [] 14 67 [(.lst [(pc mS 0),(pc mS 1),(pc mS 2),(pc mS 3),(pc mS 4),(pc mS 5),(pc mS 6),(pc mS 7),(pc mS 8),(pc mS 9)]),r0]
 (.ite bG
 (.ret (.tup [(pi 0),pT]))
 (.next ⟨[],[]⟩)))
 (.next ⟨[],[]⟩))
 (.ret (.tup [(pi 1),pT])))
def adp (b:Nat→PC):PT×List (Shp×PT):=(Mf,[])
theorem TL:AF.map told=some (adp (az AF)):=by kernel_rfl
theorem anT:tree Dm=Mf:=aP TL
theorem ZT:AF=some Dm:=aE TL
noncomputable def vG:Option PC:=aB {ctx with fr:=[8,9,11,12,13,14,55,70],nh:=[]} Tryd.f55 ((ab ah 55).getD default) [4,10,53]
noncomputable def Df:PC:=aA vG
noncomputable def F3:Nat→PC:=bL vG
def aii (b:Nat→PC):PC:=.block 0 [] [] (.loop [8,9,10] [10] (b 0))
def KY (b:Nat→PC):PT:=
 (.blockS ⟨[],[]⟩ 1 [8,9,10,11,12,13,14,32,33,35,36,37,38,39,40,41,42,43,44,45,46,49,50,52,53,54,55,56,57,58,68,70,71] [53,10]
 (.chk (aq cw (bS (.llen cw) (pi 1)))
 (.call ⟨[(11,(pn cw (bS (.llen cw) (pi 1))))],[]⟩ [] 41 70 [(aQ 8 o4),(pn cw (bS (.llen cw) (pi 1))),r2,r3]
 (.ite (ao (.tget iy 0) bl)
 (.ret (.tup [cw,(pi 0)]))
 (.call ⟨[(13,(.tget iy 1)),(12,(.tget iy 0))],[]⟩ [] 50 67 [cw,(.tget iy 0)]
 (.chk (bO (.llen (.app cw (.lst [bZ]))) cq)
 (.chk (.nt (.an (.an gK (.an (.nt (.nt bF)) pT)) (.nt (aq (pc o4 4) bZ))))
 (.ite (.pick (.nt bF) pT (.pick gK (pc (pn (pc o4 4) bZ) 1) pF))
 (.ret (.tup [(.app cw (.lst [bZ])),(pi 0)]))
 (.ite gK
 (.ret (.tup [(.app cw (.lst [bZ])),(pi 12)]))
 (.next ⟨[(10,pN)],[(10,(.app cw (.lst [bZ])))]⟩)))))))))
 (.next ⟨[],[]⟩))
def L9 (b:Nat→PC):PT:=
 (.call ⟨[(9,(pi 0)),(8,pL)],[(4,(.mk [r0]))]⟩ [] 19 69 [mR,r1,r2,r3]
 (.chk (.nt (.an (.an (.nt (.nt gJ)) pT) (.nt (aq r3 (pi 0)))))
 (.ite (.pick (.nt gJ) pT (aT (pn r3 (pi 0)) r1))
 (.ret (.tup [pL,(pi 1)]))
 (.brk ⟨[(10,pN)],[(10,(.lst [r1]))]⟩
(aii b)
 (.next ⟨[],[]⟩)))))
def ac6 (b:Nat→PC):PT×List (Shp×PT):=(L9 b,[(.lp 0 [] [] [8,9,10] [10],KY b)])
theorem JJ:vG.map told=some (ac6 (az vG)):=by kernel_rfl
theorem anC:tree Df=L9 F3:=aP JJ
theorem al4:round 0 [] [] [8,9,10] [10] (F3 0)=KY F3:=bI JJ 0 fun _=>rfl
theorem ZM:vG=some Df:=aE JJ
noncomputable def AB:Option PC:=aB {ctx with fr:=[8],nh:=[]} Tryd.f69 ((ab ah 69).getD default) [4,9]
noncomputable def Dh:PC:=aA AB
def qo:PT:=
 (.ite (.pick (.pick (.pick (.pick (aj r1 (pi 0)) pT (aY r1 UL)) pT (aj r2 (pi 0))) pT (aY r2 (pi 22))) pT (aT (.llen r3) (pi 5)))
 (.ret pF)
 (.call ⟨[],[]⟩ [] 35 84 [r3,(.clo 85 [(.ref UL)])]
 (.ret (.nt pX))))
def ac8 (b:Nat→PC):PT×List (Shp×PT):=(qo,[])
theorem TI:AB.map told=some (ac8 (az AB)):=by kernel_rfl
theorem anF:tree Dh=qo:=aP TI
theorem ZP:AB=some Dh:=aE TI
noncomputable def AD:Option PC:=aB {ctx with fr:=[3],nh:=[]} Tryd.f85 ((ab ah 85).getD default) []
noncomputable def Di:PC:=aA AD
def Mb:PT:=
 (.ret (.pick (aj r0 (pi 0)) pT (aY r0 (.deref r1))))
def ac9 (b:Nat→PC):PT×List (Shp×PT):=(Mb,[])
theorem TJ:AD.map told=some (ac9 (az AD)):=by kernel_rfl
theorem anE:tree Di=Mb:=aP TJ
theorem ZO:AD=some Di:=aE TJ
noncomputable def A1:Option PC:=aB {ctx with fr:=[4],nh:=[]} Tryd.f84 ((ab ah 84).getD default) []
noncomputable def D5:PC:=aA A1
def MV:PT:=
 (.call ⟨[],[]⟩ [] 7 93 [r0,r1]
 (.ret (aY r7 (pi 0))))
def ad8 (b:Nat→PC):PT×List (Shp×PT):=(MV,[])
theorem Ua:A1.map told=some (ad8 (az A1)):=by kernel_rfl
theorem aoB:tree D5=MV:=aP Ua
theorem aaB:A1=some D5:=aE Ua
noncomputable def wC:Option PC:=aB {ctx with fr:=[4,5],nh:=[]} Tryd.f93 ((ab ah 93).getD default) []
noncomputable def Ea:PC:=aA wC
noncomputable def Gn:Nat→PC:=bL wC
def ai9 (b:Nat→PC):PC:=.block 0 [4,8,9] [] (.loop [4,8] [] (b 0))
def zB (b:Nat→PC):PT:=
 (.ite (aj r8 r7)
 (.blockS ⟨[],[]⟩ 1 [4,5,10,11,12,13,14,15,16] []
 (.chk (aq r0 r8)
 (.callc ⟨[(5,r8)],[]⟩ [] 16 r1 [(pn r0 r8)]
 (.ite cg
 (.ret r5)
 (.next ⟨[],[]⟩))))
 (.next ⟨[(8,sf)],[]⟩))
 (.exit 0 ⟨[(9,(aj r8 r7))],[]⟩))
def M0 (b:Nat→PC):PT:=
 (.brk ⟨[(8,(pi 0)),(7,(.llen r0)),(4,(pi 0))],[]⟩
(ai9 b)
 (.ret (pi (-1))))
def aed (b:Nat→PC):PT×List (Shp×PT):=(M0 b,[(.lp 0 [4,8,9] [] [4,8] [],zB b)])
theorem J2:wC.map told=some (aed (az wC)):=by kernel_rfl
theorem aoG:tree Ea=M0 Gn:=aP J2
theorem Lq:round 0 [4,8,9] [] [4,8] [] (Gn 0)=zB Gn:=bI J2 0 fun _=>rfl
theorem aaG:wC=some Ea:=aE J2
noncomputable def vH:Option PC:=aB {ctx with fr:=[8,9],nh:=[]} Tryd.f70 ((ab ah 70).getD default) [4,11]
noncomputable def Dg:PC:=aA vH
noncomputable def F4:Nat→PC:=bL vH
def aij (b:Nat→PC):PC:=.block 0 [8,9,25,26] [] (.loop [8,9,25] [] (b 0))
def zc (b:Nat→PC):PT:=
 (.ite (aj fV lZ)
 (.chk (aq lY fV)
 (.ite (.pick (ao (pc y0 0) r2) (aT (pc y0 1) (pi 0)) pF)
 (.chk (aq r3 (pc y0 1))
 (.ret (.tup [(pn r3 (pc y0 1)),(pc y0 2)])))
 (.next ⟨[(25,(aL fV (pi 1)))],[]⟩)))
 (.exit 0 ⟨[(26,(aj fV lZ))],[]⟩))
def Ma (b:Nat→PC):PT:=
 (.call ⟨[(9,pF),(8,(pi 0))],[(4,(.mk [r0]))]⟩ [] 16 69 [mR,r1,r2,r3]
 (.ite (.nt cg)
 (.ret (.tup [(pi (-1)),pF]))
 (.chk (aq (pc o4 4) r1)
 (.brk ⟨[(25,(pi 0)),(24,(.llen (pc (pn (pc o4 4) r1) 2))),(23,(pc (pn (pc o4 4) r1) 2))],[]⟩
(aij b)
 (.ret (.tup [r1,pF]))))))
def ac7 (b:Nat→PC):PT×List (Shp×PT):=(Ma b,[(.lp 0 [8,9,25,26] [] [8,9,25] [],zc b)])
theorem JK:vH.map told=some (ac7 (az vH)):=by kernel_rfl
theorem anD:tree Dg=Ma F4:=aP JK
theorem KZ:round 0 [8,9,25,26] [] [8,9,25] [] (F4 0)=zc F4:=bI JK 0 fun _=>rfl
theorem ZN:vH=some Dg:=aE JK
noncomputable def AE:Option PC:=aB {ctx with fr:=[7,9,11,12],nh:=[]} Tryd.f38 ((ab ah 38).getD default) [3,6,8,10]
noncomputable def Dl:PC:=aA AE
def Me:PT:=
 (.call ⟨[],[(6,ez)]⟩ [] 16 56 [(aQ 4 (.mk [r0])),r1]
 (.ite (aT (.tget cg 1) (pi 0))
 (.ret (.tup [(.mk [(pc (.setc o6 0 se) 0),(pc (.setc o6 0 se) 1)]),(.tget cg 1)]))
 (.call ⟨[],[]⟩ [] 25 57 [(.mk [(pc (.setc jA 0 (.tget cg 0)) 0),(pc (.setc jA 0 (.tget cg 0)) 1),(pc (.setc jA 0 (.tget cg 0)) 2)]),r2]
 (.call ⟨[],[(10,(.setc ez 0 fV))]⟩ [] 28 53 [r1]
 (.ret (.tup [(.mk [(pc (.setc o6 0 (.mk [(pc EE 0),(pc EE 1)])) 0),(pc (.setc o6 0 (.mk [(pc EE 0),(pc EE 1)])) 1)]),(pi 0)]))))))
def ado (b:Nat→PC):PT×List (Shp×PT):=(Me,[])
theorem TK:AE.map told=some (ado (az AE)):=by kernel_rfl
theorem anS:tree Dl=Me:=aP TK
theorem ZS:AE=some Dl:=aE TK
noncomputable def AG:Option PC:=aB {ctx with fr:=[5,6,7,8,10,11],nh:=[]} Tryd.f56 ((ab ah 56).getD default) [2,3,4,12292,9]
noncomputable def Dn:PC:=aA AG
def Mg:PT:=
 (.call ⟨[],[(4,jA),(3,(.mk [r1])),(2,(.mk [r0]))]⟩ [] 14 53 [(pc (.mk [r1]) 0)]
 (.ite (.nt (.tget bG 1))
 (.ret (.tup [KK,(pi 1)]))
 (.call ⟨[(6,(.tget bG 0))],[]⟩ [] 23 71 [(pc o2 3),(.clo 72 [(.ref (pc o3 0))])]
 (.ite (aj lY (pi 0))
 (.ret (.tup [KK,(pi 4)]))
 (.chk (aq (pc o2 3) lY)
 (.call ⟨[],[(9,EL)]⟩ [] 35 73 [(.mk [(pc EL 0),(pc EL 1),(pc EL 2)])]
 (.ite (.pick (aT (.tget pX 1) (pi 0)) pT (aT (.tget pX 0) r6))
 (.ret (.tup [KK,(pi 11)]))
 (.ret (.tup [(.mk [(pc KO 0),(pc KO 1),(pc KO 2)]),(pi 0)])))))))))
def adq (b:Nat→PC):PT×List (Shp×PT):=(Mg,[])
theorem TM:AG.map told=some (adq (az AG)):=by kernel_rfl
theorem anV:tree Dn=Mg:=aP TM
theorem ZV:AG=some Dn:=aE TM
noncomputable def AH:Option PC:=aB {ctx with fr:=[3],nh:=[]} Tryd.f72 ((ab ah 72).getD default) [2]
noncomputable def Dp:PC:=aA AH
def Mh:PT:=
 (.ret (ao lU (.deref r1)))
def adr (b:Nat→PC):PT×List (Shp×PT):=(Mh,[])
theorem TN:AH.map told=some (adr (az AH)):=by kernel_rfl
theorem anU:tree Dp=Mh:=aP TN
theorem ZU:AH=some Dp:=aE TN
noncomputable def wB:Option PC:=aB {ctx with fr:=[4,5],nh:=[]} Tryd.f71 ((ab ah 71).getD default) []
noncomputable def D9:PC:=aA wB
noncomputable def Gm:Nat→PC:=bL wB
def ai8 (b:Nat→PC):PC:=.block 0 [4,8,9] [] (.loop [4,8] [] (b 0))
def zA (b:Nat→PC):PT:=
 (.ite (aj r8 r7)
 (.blockS ⟨[],[]⟩ 1 [4,5,10,11,12,13,14,15,16] []
 (.chk (aq r0 r8)
 (.callc ⟨[(5,r8)],[]⟩ [] 16 r1 [(pn r0 r8)]
 (.ite cg
 (.ret r5)
 (.next ⟨[],[]⟩))))
 (.next ⟨[(8,sf)],[]⟩))
 (.exit 0 ⟨[(9,(aj r8 r7))],[]⟩))
def MZ (b:Nat→PC):PT:=
 (.brk ⟨[(8,(pi 0)),(7,(.llen r0)),(4,(pi 0))],[]⟩
(ai8 b)
 (.ret (pi (-1))))
def aec (b:Nat→PC):PT×List (Shp×PT):=(MZ b,[(.lp 0 [4,8,9] [] [4,8] [],zA b)])
theorem J1:wB.map told=some (aec (az wB)):=by kernel_rfl
theorem aoF:tree D9=MZ Gm:=aP J1
theorem Lp:round 0 [4,8,9] [] [4,8] [] (Gm 0)=zA Gm:=bI J1 0 fun _=>rfl
theorem aaF:wB=some D9:=aE J1
noncomputable def A4:Option PC:=aB {ctx with fr:=[2,3],nh:=[]} Tryd.f73 ((ab ah 73).getD default) [1]
noncomputable def Ed:PC:=aA A4
def M3:PT:=
 (.call ⟨[],[(1,(.mk [r0]))]⟩ [] 5 86 [(.mk [lU,sd,sc]),(pi 1)]
 (.ite (bm r5 (pi 60))
 (.ret (.tup [(pi 0),(pi 6)]))
 (.call ⟨[],[]⟩ [] 8 87 [(.mk [(pc o1 0),(pc o1 1),(pc o1 2)])]
 (.ret (.tup [(.tget r8 0),(.tget r8 1)])))))
def aeg (b:Nat→PC):PT×List (Shp×PT):=(M3,[])
theorem Ud:A4.map told=some (aeg (az A4)):=by kernel_rfl
theorem aoJ:tree Ed=M3:=aP Ud
theorem aaJ:A4=some Ed:=aE Ud
noncomputable def wH:Option PC:=aB {ctx with fr:=[4,5],nh:=[]} Tryd.f86 ((ab ah 86).getD default) [2,7,12295]
noncomputable def En:PC:=aA wH
noncomputable def Gs:Nat→PC:=bL wH
def ajf (b:Nat→PC):PC:=.block 0 [5,13,14] [] (.loop [5,13] [] (b 0))
def zG (b:Nat→PC):PT:=
 (.ite (aj bF bZ)
 (.blockS ⟨[(14,(aj bF bZ))],[]⟩ 1 [5,7,15,16,17,18,19,20,21,22,23,24] [7,12295]
 (.chk (aq bl bF)
 (.call ⟨[(17,r5)],[]⟩ [] 21 86 [(.mk [(pc (.setc jA 0 pP) 0),(pc (.setc jA 0 pP) 1),(pc (.setc jA 0 pP) 2)]),(aL r1 (pi 1))]
 (.ite (bm (aL gm lX) (pi 60))
 (.exit 0 ⟨[(5,(aL gm lX))],[]⟩)
 (.next ⟨[(5,(aL gm lX))],[]⟩))))
 (.next ⟨[(13,(aL bF (pi 1)))],[]⟩))
 (.exit 0 ⟨[(14,(aj bF bZ))],[]⟩))
def FG (b:Nat→PC):PT:=
 (.ite (bm r1 (pi 8))
 (.ret (pi 61))
 (.brk ⟨[(13,(pi 0)),(12,mT),(11,sc),(5,(pi 1))],[]⟩
(ajf b)
 (.ret r5)))
def aeq (b:Nat→PC):PT×List (Shp×PT):=(FG b,[(.lp 0 [5,13,14] [] [5,13] [],zG b)])
theorem J6:wH.map told=some (aeq (az wH)):=by kernel_rfl
theorem Wj:tree En=FG Gs:=aP J6
theorem Lv:round 0 [5,13,14] [] [5,13] [] (Gs 0)=zG Gs:=bI J6 0 fun _=>rfl
theorem aaT:wH=some En:=aE J6
noncomputable def wF:Option PC:=aB {ctx with fr:=[2,3,5,7,8,38,47,10,11,12],nh:=[]} Tryd.f87 ((ab ah 87).getD default) [1,4,6,12294,9]
noncomputable def Eh:PC:=aA wF
noncomputable def vw:Nat→PC:=bL wF
def ajc (b:Nat→PC):PC:=.block 0 [2,3,20,21] [4] (.loop [2,3,20] [4] (b 0))
def ajd (b:Nat→PC):PC:=.block 3 [2,3,10,82,83] [] (.loop [2,3,10,82] [] (b 1))
def zE (b:Nat→PC):PT:=
 (.ite (aj fj gJ)
 (.blockS ⟨[],[]⟩ 1 [2,3,5,6,7,8,22,23,24,25,26,27,28,29,30,31,33,34,35,36] [6,12294,4]
 (.chk (aq fA fj)
 (.call ⟨[(5,fj)],[]⟩ [] 27 87 [(.mk [(pc (.setc jA 0 oo) 0),(pc (.setc jA 0 oo) 1),(pc (.setc jA 0 oo) 2)])]
 (.ite (aT (.tget dJ 1) (pi 0))
 (.ret (.tup [(pi 0),(.tget dJ 1)]))
 (.chk (aq o4 r5)
 (.next ⟨[],[(4,(.setn o4 r5 0 (.tget dJ 0)))]⟩)))))
 (.next ⟨[(20,(aL fj (pi 1)))],[]⟩))
 (.exit 0 ⟨[(21,(aj fj gJ))],[]⟩))
def p7 (b:Nat→PC):PT:=
 (.ite (aj gL p5)
 (.chk (aq pZ gL)
 (.ite (.pick (ao (pn pZ gL) (pi (-1))) (ao bY (pi (-1))) pF)
 (.chk (aq o4 gL)
 (.ite (aT (pn o4 gL) (.pick (ao (pn pZ gL) (pi (-1))) (pn o4 gL) (pn pZ gL)))
 (.ret (.tup [(pi 0),(pi 11)]))
 (.next ⟨[(10,(pn o4 gL)),(82,(aL gL (pi 1)))],[]⟩)))
 (.chk (aq o4 gL)
 (.ite (aT (pn o4 gL) (.pick (ao (pn pZ gL) (pi (-1))) bY (pn pZ gL)))
 (.ret (.tup [(pi 0),(pi 11)]))
 (.next ⟨[(82,(aL gL (pi 1)))],[]⟩)))))
 (.exit 3 ⟨[(83,(aj gL p5))],[]⟩))
def M7 (b:Nat→PC):PT:=
 (.chk (.an (aY mT (pi 0)) (bO mT cq))
 (.chk (ao mT mT)
 (.brk ⟨[(20,(pi 0)),(19,mT),(18,sc),(4,pN),(3,(pi 0)),(2,(pi 0))],[(4,(.rep mT (pi 0))),(1,(.mk [r0]))]⟩
(ajc b)
 (.blockS ⟨[],[]⟩ 2 [2,3,38,39,40,41,42,46,47,48,49,50,51,55,56,60] []
 (.iteS ⟨[],[]⟩ (.pick (aj (pc o1 0) (pi 0)) pT (bm (pc o1 0) (pi 13))) [2,3,47,48,49,50,51,55,56,60] []
 (.ret (.tup [(pi 0),(pi 1)]))
 (.iteS ⟨[],[]⟩ (.pick (.pick (ao (pc o1 0) (pi 0)) pT (ao (pc o1 0) (pi 1))) pT (ao (pc o1 0) (pi 2))) [2,3] []
 (.call ⟨[],[]⟩ [] 62 94 [(.mk [(pc o1 0),(pc o1 1),(pc o1 2)])]
 (.ret (.tup [(.tget j7 0),(.tget j7 1)])))
 (.next ⟨[],[]⟩)
 (.next ⟨[],[]⟩))
 (.next ⟨[],[]⟩))
 (.call ⟨[],[]⟩ [] 67 95 [(pc o1 0)]
 (.ite (.pick (aT (.llen o4) (.llen (pc (.setc iV 0 mZ) 0))) pT (aT (pc o1 1) (pi 0)))
 (.ret (.tup [(pi 0),(pi 2)]))
 (.brk ⟨[(82,(pi 0)),(81,(.llen (pc (.setc iV 0 mZ) 0))),(80,(pc (.setc iV 0 mZ) 0)),(10,(pi (-1)))],[(9,(.setc iV 0 mZ))]⟩
(ajd b)
 (.ite (ao (pc o9 1) (pi (-1)))
 (.ret (.tup [bY,(pi 0)]))
 (.ret (.tup [(pc o9 1),(pi 0)]))))))))))
def aek (b:Nat→PC):PT×List (Shp×PT):=(M7 b,[(.lp 0 [2,3,20,21] [4] [2,3,20] [4],zE b),(.lp 3 [2,3,10,82,83] [] [2,3,10,82] [],p7 b)])
theorem CZ:wF.map told=some (aek (az wF)):=by kernel_rfl
theorem aoN:tree Eh=M7 vw:=aP CZ
theorem Lt:round 0 [2,3,20,21] [4] [2,3,20] [4] (vw 0)=zE vw:=bI CZ 0 fun _=>rfl
theorem uP:round 3 [2,3,10,82,83] [] [2,3,10,82] [] (vw 1)=p7 vw:=bI CZ 1 fun _=>rfl
theorem aaN:wF=some Eh:=aE CZ
noncomputable def Ba:Option PC:=aB {ctx with fr:=[2,3,12,20,4,5],nh:=[]} Tryd.f94 ((ab ah 94).getD default) [1]
noncomputable def Ek:PC:=aA Ba
def Na:PT:=
 (.ite (bm mT (pi 0))
 (.ret (.tup [(pi 0),(pi 2)]))
 (.blockS ⟨[(11,lU)],[(1,(.mk [r0]))]⟩ 0 [2,3,12,13,20,21] []
 (.iteS ⟨[],[]⟩ (ao bl (pi 0)) [2,3,20,21] []
 (.call ⟨[],[]⟩ [] 16 98 [(pc o1 1)]
 (.ite (aT cg (pc o1 1))
 (.ret (.tup [(pi 0),(pi 3)]))
 (.ret (.tup [(pi 0),(pi 0)]))))
 (.ite (ao bl (pi 1))
 (.ite (.pick (aj (pc o1 1) (pi 0)) pT (bm (pc o1 1) (pi 1)))
 (.ret (.tup [(pi 0),(pi 3)]))
 (.ret (.tup [(pi 1),(pi 0)])))
 (.next ⟨[],[]⟩))
 (.next ⟨[],[]⟩))
 (.call ⟨[],[]⟩ [] 33 96 [(pc o1 1)]
 (.ite (.nt (.tget EZ 1))
 (.ret (.tup [(pi 0),(pi 10)]))
 (.ret (.tup [(.tget EZ 0),(pi 0)]))))))
def aen (b:Nat→PC):PT×List (Shp×PT):=(Na,[])
theorem Uj:Ba.map told=some (aen (az Ba)):=by kernel_rfl
theorem aoQ:tree Ek=Na:=aP Uj
theorem aaQ:Ba=some Ek:=aE Uj
noncomputable def A9:Option PC:=aB {ctx with fr:=[2],nh:=[]} Tryd.f98 ((ab ah 98).getD default) []
noncomputable def Ej:PC:=aA A9
def M9:PT:=
 (.ret (.mn (.mx r0 (pi (-1099511627776))) pR))
def aem (b:Nat→PC):PT×List (Shp×PT):=(M9,[])
theorem Ui:A9.map told=some (aem (az A9)):=by kernel_rfl
theorem aoP:tree Ej=M9:=aP Ui
theorem aaP:A9=some Ej:=aE Ui
noncomputable def A6:Option PC:=aB {ctx with fr:=[2,3,4,11],nh:=[]} Tryd.f96 ((ab ah 96).getD default) []
noncomputable def Ef:PC:=aA A6
def M5:PT:=
 (.ite (.pick (aj r0 (pi 0)) pT (bm r0 (pi 19)))
 (.ret (.tup [(pi 0),pF]))
 (.ite (aj r0 (pi 7))
 (.ret (.tup [(pi 0),pT]))
 (.ret (.tup [(pi 1),pT]))))
def aei (b:Nat→PC):PT×List (Shp×PT):=(M5,[])
theorem Uf:A6.map told=some (aei (az A6)):=by kernel_rfl
theorem aoL:tree Ef=M5:=aP Uf
theorem aaL:A6=some Ef:=aE Uf
noncomputable def Bd:Option PC:=aB {ctx with fr:=[4,8,13,17,21],nh:=[]} Tryd.f95 ((ab ah 95).getD default) [2]
noncomputable def Ep:PC:=aA Bd
def Nd:PT:=
 (.ite (ao r0 (pi 3))
 (.ret (.mk [(pc (.setc iV 0 (.mk [(.lst [(pi 1)]),(pi 1)])) 0),(pc (.setc iV 0 (.mk [(.lst [(pi 1)]),(pi 1)])) 1)]))
 (.ite (.pick (ao r0 (pi 4)) (ao r0 (pi 4)) (ao r0 (pi 5)))
 (.ret (.mk [(pc (.setc iV 0 (.mk [(.lst [(pi 1),(pi 1)]),(pi 1)])) 0),(pc (.setc iV 0 (.mk [(.lst [(pi 1),(pi 1)]),(pi 1)])) 1)]))
 (.ite (ao r0 (pi 6))
 (.ret (.mk [(pc U6 0),(pc U6 1)]))
 (.ite (ao r0 (pi 7))
 (.ret (.mk [(pc (.setc iV 0 (.mk [(.lst [(pi 0),(pi 0)]),(pi 1)])) 0),(pc (.setc iV 0 (.mk [(.lst [(pi 0),(pi 0)]),(pi 1)])) 1)]))
 (.ite (ao r0 (pi 8))
 (.ret (.mk [(pc (.setc iV 0 (.mk [(.lst [(pi (-1)),(pi (-1))]),(pi 1)])) 0),(pc (.setc iV 0 (.mk [(.lst [(pi (-1)),(pi (-1))]),(pi 1)])) 1)]))
 (.ret (.mk [(pc (.setc iV 0 (.mk [(.lst [(pi 0),(pi 0)]),(pi 0)])) 0),(pc (.setc iV 0 (.mk [(.lst [(pi 0),(pi 0)]),(pi 0)])) 1)])))))))
def aes (b:Nat→PC):PT×List (Shp×PT):=(Nd,[])
theorem Um:Bd.map told=some (aes (az Bd)):=by kernel_rfl
theorem aoU:tree Ep=Nd:=aP Um
theorem aaV:Bd=some Ep:=aE Um
noncomputable def A5:Option PC:=aB {ctx with fr:=[5,6,8],nh:=[]} Tryd.f57 ((ab ah 57).getD default) [2,4,7]
noncomputable def Ee:PC:=aA A5
def M4:PT:=
 (.call ⟨[],[(4,ez),(2,(.mk [r0]))]⟩ [] 11 73 [(.mk [lU,sd,sc])]
 (.ite (aT (.tget bl 1) (pi 0))
 (.ret yW)
 (.call ⟨[],[]⟩ [] 21 74 [(.mk [r1]),(.mk [(pc o2 0),(pc o2 1),(pc o2 2)])]
 (.ret (.mk [(pc U2 0),(pc U2 1)])))))
def aeh (b:Nat→PC):PT×List (Shp×PT):=(M4,[])
theorem Ue:A5.map told=some (aeh (az A5)):=by kernel_rfl
theorem aoK:tree Ee=M4:=aP Ue
theorem aaK:A5=some Ee:=aE Ue
noncomputable def wG:Option PC:=aB {ctx with fr:=[5,15,21,9,11],nh:=[]} Tryd.f74 ((ab ah 74).getD default) [2,3,4,6,33,7,8,10,12298,12]
noncomputable def El:PC:=aA wG
noncomputable def Gr:Nat→PC:=bL wG
def aje (b:Nat→PC):PC:=.block 1 [45,46] [7,8] (.loop [45] [7,8] (b 0))
def zF (b:Nat→PC):PT:=
 (.ite (aj mW y4)
 (.blockS ⟨[],[]⟩ 2 [9,10,47,48,49,50,51,52,53,54,55,56,57,58,59,60,61] [10,12298,8,7]
 (.chk (aq gp mW)
 (.call ⟨[(54,mW),(52,mW)],[]⟩ [] 57 74 [(.mk [(pc o2 0)]),(.mk [(pc (.setc jA 0 (pn gp mW)) 0),(pc (.setc jA 0 (pn gp mW)) 1),(pc (.setc jA 0 (pn gp mW)) 2)])]
 (.chk (aq o7 ot)
 (.chk (aq o8 ou)
 (.next ⟨[],[(8,(.setn o8 ou 0 (.tget E1 1))),(7,(.setn o7 ot 0 (.tget E1 0)))]⟩)))))
 (.next ⟨[(45,(aL mW (pi 1)))],[]⟩))
 (.exit 1 ⟨[(46,(aj mW y4))],[]⟩))
def z7 (b:Nat→PC):PT:=
 (.blockS ⟨[(14,(pc (.mk [r1]) 0))],[(4,ez),(3,(.mk [r1])),(2,(.mk [r0]))]⟩ 0 [5,15,16,21,22] [4]
 (.iteS ⟨[],[]⟩ (.pick (ao bG (pi 0)) (ao bG (pi 0)) (ao bG (pi 1))) [5,21,22] [4]
 (.ret (.tup [(.mk [(pc (.setc o4 0 (.mk [pT,(pc o3 1)])) 0),(pc (.setc o4 0 (.mk [pT,(pc o3 1)])) 1)]),pL]))
 (.iteS ⟨[],[]⟩ (ao bG (pi 2)) [5] [4]
 (.call ⟨[],[]⟩ [] 26 88 [(.mk [(pc o2 0)]),(pc o3 1)]
 (.ite (pc (.setc ez 0 kO) 0)
 (.ret (.tup [(.mk [(pc U5 0),(pc U5 1)]),pL]))
 (.ret (.tup [yW,(.lst [(pc o3 1)])]))))
 (.next ⟨[],[]⟩)
 (.next ⟨[],[]⟩))
 (.next ⟨[],[]⟩))
 (.chk (.an (aY kM (pi 0)) (bO kM cq))
 (.chk (ao kM kM)
 (.brk ⟨[(45,(pi 0)),(44,kM),(43,(pc o3 2)),(8,pN),(7,pN)],[(8,(.rep kM pL)),(7,(.rep kM ez))]⟩
(aje b)
 (.chk (.nt (.an (.an (ao (pc o3 0) (pi 6)) pT) (.nt (aq o7 (pi 0)))))
 (.ite (.pick (ao (pc o3 0) (pi 6)) (pc (pn o7 (pi 0)) 0) pF)
 (.chk (aq o7 (pi 0))
 (.chk (aq o7 yZ)
 (.chk (aq o8 yZ)
 (.ret (.tup [(.mk [(pc (.setc o4 0 (.sub (pn o7 yZ) 0 2)) 0),(pc (.setc o4 0 (.sub (pn o7 yZ) 0 2)) 1)]),(pn o8 yZ)])))))
 (.call ⟨[],[]⟩ [] 88 89 [(pc o3 0),o7]
 (.ite (pc (.setc ez 0 KU) 0)
 (.ret (.tup [(.mk [(pc U4 0),(pc U4 1)]),pL]))
 (.call ⟨[(92,se)],[]⟩ [] 94 90 [o8]
 (.ret (.tup [(.mk [(pc (.setc o4 0 Vm) 0),(pc (.setc o4 0 Vm) 1)]),r94])))))))))))
def aeo (b:Nat→PC):PT×List (Shp×PT):=(z7 b,[(.lp 1 [45,46] [7,8] [45] [7,8],zF b)])
theorem J5:wG.map told=some (aeo (az wG)):=by kernel_rfl
theorem aoR:tree El=z7 Gr:=aP J5
theorem Lu:round 1 [45,46] [7,8] [45] [7,8] (Gr 0)=zF Gr:=bI J5 0 fun _=>rfl
theorem aaR:wG=some El:=aE J5
noncomputable def Bb:Option PC:=aB {ctx with fr:=[5,6],nh:=[]} Tryd.f88 ((ab ah 88).getD default) [2,4]
noncomputable def Em:PC:=aA Bb
def Nb:PT:=
 (.chk (.nt (.an (.an (.nt (aY r1 (.llen lU))) pT) (.nt (aq lU r1))))
 (.ite (.pick (aY r1 (.llen lU)) pT (.nt (pc (pn lU r1) 0)))
 (.ret (.mk [(pc (.setc ez 0 se) 0),(pc (.setc ez 0 se) 1)]))
 (.call ⟨[],[(4,ez),(2,(.mk [r0]))]⟩ [] 24 96 [r1]
 (.iteS ⟨[],[]⟩ (ao (.tget lZ 0) (pi 1)) [] [4]
 (.chk (aq (pc o2 0) r1)
 (.call ⟨[],[]⟩ [] 36 97 [(aT (pc (pn (pc o2 0) r1) 1) (pi 0))]
 (.ret (.mk [(pc (.setc o4 0 mU) 0),(pc (.setc o4 0 mU) 1)]))))
 (.next ⟨[],[]⟩)
 (.chk (aq (pc o2 0) r1)
 (.call ⟨[],[]⟩ [] 43 98 [(pc (pn (pc o2 0) r1) 1)]
 (.ret (.mk [(pc (.setc o4 0 (.mk [pT,gp])) 0),(pc (.setc o4 0 (.mk [pT,gp])) 1)]))))))))
def aep (b:Nat→PC):PT×List (Shp×PT):=(Nb,[])
theorem Uk:Bb.map told=some (aep (az Bb)):=by kernel_rfl
theorem aoS:tree Em=Nb:=aP Uk
theorem aaS:Bb=some Em:=aE Uk
noncomputable def Be:Option PC:=aB {ctx with fr:=[],nh:=[]} Tryd.f97 ((ab ah 97).getD default) [2]
noncomputable def Er:PC:=aA Be
def Nf:PT:=
 (.ite r0
 (.ret (.mk [(pc EO 0),(pc EO 1)]))
 (.ret (.mk [(pc EP 0),(pc EP 1)])))
def aet (b:Nat→PC):PT×List (Shp×PT):=(Nf,[])
theorem Un:Be.map told=some (aet (az Be)):=by kernel_rfl
theorem aoV:tree Er=Nf:=aP Un
theorem aaW:Be=some Er:=aE Un
noncomputable def A8:Option PC:=aB {ctx with fr:=[9,22,41,6,7,82,88,94],nh:=[]} Tryd.f89 ((ab ah 89).getD default) [4,5]
noncomputable def Ei:PC:=aA A8
def M8:PT:=
 (.blockS ⟨[(8,r0)],[(4,ez)]⟩ 0 [9,10,22,23] [4]
 (.iteS ⟨[],[]⟩ (ao r8 (pi 3)) [22,23] [4]
 (.chk (aq r1 (pi 0))
 (.iteS ⟨[],[]⟩ (pc (pn r1 (pi 0)) 0) [] [4]
 (.chk (aq r1 (pi 0))
 (.call ⟨[],[]⟩ [] 20 97 [(ao (pc (pn r1 (pi 0)) 1) (pi 0))]
 (.ret (.mk [(pc (.setc o4 0 fj) 0),(pc (.setc o4 0 fj) 1)]))))
 (.next ⟨[],[]⟩)
 (.ret yW)))
 (.iteS ⟨[],[]⟩ (.pick (ao r8 (pi 4)) (ao r8 (pi 4)) (ao r8 (pi 5))) [] [4]
 (.call ⟨[],[]⟩ [] 27 97 [(ao r0 (pi 5))]
 (.chk (aq r1 (pi 0))
 (.chk (.nt (.an (.an (.nt UZ) pT) (.nt (aq r1 (pi 1)))))
 (.ite (.pick UZ pT (.an (.cb .eql (pc lW 0) (pc uB 0)) (.an (ao (pc lW 1) (pc uB 1)) pT)))
 (.ret (.mk [(pc (.setc o4 0 uB) 0),(pc (.setc o4 0 uB) 1)]))
 (.next ⟨[],[]⟩)))))
 (.ite (ao r8 (pi 6))
 (.chk (aq r1 (pi 1))
 (.chk (.nt (.an (.an (pc lW 0) pT) (.nt (aq r1 (pi 1)))))
 (.chk (.nt (.an (.an (pc lW 0) pT) (.nt (aq r1 (pi 2)))))
 (.ite (.pick (pc lW 0) (.an (.cb .eql (pc lW 0) (pc (pn r1 (pi 2)) 0)) (.an (ao (pc lW 1) (pc (pn r1 (pi 2)) 1)) pT)) pF)
 (.ret (.mk [(pc (.setc o4 0 lW) 0),(pc (.setc o4 0 lW) 1)]))
 (.ret yW)))))
 (.next ⟨[],[]⟩))
 (.next ⟨[],[]⟩))
 (.next ⟨[],[]⟩))
 (.chk (aq r1 (pi 0))
 (.chk (.nt (.an (.an (.nt (.nt (pc (pn r1 (pi 0)) 0))) pT) (.nt (aq r1 (pi 1)))))
 (.ite (.pick (.nt (pc (pn r1 (pi 0)) 0)) pT (.nt (pc lW 0)))
 (.ret yW)
 (.chk (aq r1 (pi 1))
 (.blockS ⟨[(81,r0),(7,(pc lW 1)),(6,(pc (pn r1 (pi 0)) 1))],[]⟩ 1 [82,83,88,89,94,95] [4]
 (.iteS ⟨[],[]⟩ (.pick (ao p5 (pi 4)) (ao p5 (pi 4)) (ao p5 (pi 5))) [88,89,94,95] [4]
 (.call ⟨[],[]⟩ [] 87 97 [(ao r0 (pi 4))]
 (.ret (.mk [(pc (.setc o4 0 Vl) 0),(pc (.setc o4 0 Vl) 1)])))
 (.iteS ⟨[],[]⟩ (ao p5 (pi 7)) [94,95] [4]
 (.call ⟨[],[]⟩ [] 93 97 [(aj r6 r7)]
 (.ret (.mk [(pc (.setc o4 0 KW) 0),(pc (.setc o4 0 KW) 1)])))
 (.iteS ⟨[],[]⟩ (ao p5 (pi 8)) [] [4]
 (.call ⟨[],[]⟩ [] 99 97 [(ao r6 r7)]
 (.ret (.mk [(pc (.setc o4 0 Vn) 0),(pc (.setc o4 0 Vn) 1)])))
 (.next ⟨[],[]⟩)
 (.next ⟨[],[]⟩))
 (.next ⟨[],[]⟩))
 (.next ⟨[],[]⟩))
 (.call ⟨[],[]⟩ [] 103 99 [r0,r6,r7]
 (.ret (.mk [(pc (.setc o4 0 (.mk [pT,U8])) 0),(pc (.setc o4 0 (.mk [pT,U8])) 1)])))))))))
def ael (b:Nat→PC):PT×List (Shp×PT):=(M8,[])
theorem Uh:A8.map told=some (ael (az A8)):=by kernel_rfl
theorem aoO:tree Ei=M8:=aP Uh
theorem aaO:A8=some Ei:=aE Uh
noncomputable def A7:Option PC:=aB {ctx with fr:=[6,8,14,20,25],nh:=[]} Tryd.f99 ((ab ah 99).getD default) []
noncomputable def Eg:PC:=aA A7
def M6:PT:=
 (.blockS ⟨[(7,r0)],[]⟩ 0 [6,8,9,14,15,20,21,25,26] []
 (.iteS ⟨[],[]⟩ (ao r7 (pi 9)) [6,14,15,20,21,25,26] []
 (.call ⟨[],[]⟩ [] 13 98 [(aL r1 r2)]
 (.ret bF))
 (.iteS ⟨[],[]⟩ (ao r7 (pi 10)) [6,20,21,25,26] []
 (.call ⟨[],[]⟩ [] 19 98 [(bS r1 r2)]
 (.ret gJ))
 (.iteS ⟨[],[]⟩ (ao r7 (pi 11)) [6,25,26] []
 (.call ⟨[],[]⟩ [] 24 102 [r1,r2]
 (.ret lZ))
 (.ite (ao r7 (pi 12))
 (.ret (.mn r1 r2))
 (.next ⟨[],[]⟩))
 (.next ⟨[],[]⟩))
 (.next ⟨[],[]⟩))
 (.next ⟨[],[]⟩))
 (.ret (.mx r1 r2)))
def aej (b:Nat→PC):PT×List (Shp×PT):=(M6,[])
theorem Ug:A7.map told=some (aej (az A7)):=by kernel_rfl
theorem aoM:tree Eg=M6:=aP Ug
theorem aaM:A7=some Eg:=aE Ug
noncomputable def Bc:Option PC:=aB {ctx with fr:=[4,5,6,7],nh:=[]} Tryd.f102 ((ab ah 102).getD default) []
noncomputable def Eo:PC:=aA Bc
def Nc:PT:=
 (.call ⟨[],[]⟩ [] 19 75 [(.conv .u64 (.mx r0 (bS (pi 0) r0))),(.conv .u64 (.mx r1 (bS (pi 0) r1)))]
 (.ite (.cb .neq (aj r0 (pi 0)) (aj r1 (pi 0)))
 (.ret (bS (pi 0) UO))
 (.ret UO)))
def aer (b:Nat→PC):PT×List (Shp×PT):=(Nc,[])
theorem Ul:Bc.map told=some (aer (az Bc)):=by kernel_rfl
theorem aoT:tree Eo=Nc:=aP Ul
theorem aaU:Bc=some Eo:=aE Ul
noncomputable def wz:Option PC:=aB {ctx with fr:=[2,3,5,8],nh:=[]} Tryd.f90 ((ab ah 90).getD default) [6]
noncomputable def D3:PC:=aA wz
noncomputable def vu:Nat→PC:=bL wz
def ai5 (b:Nat→PC):PC:=.block 0 [3,11,12] [] (.loop [3,11] [] (b 0))
def ai6 (b:Nat→PC):PC:=.block 2 [6,27,28] [6] (.loop [6,27] [6] (b 1))
def Fh (b:Nat→PC):PT:=
 (.ite (aj bl bY)
 (.chk (aq r9 bl)
 (.ite (aj (aL r3 (.llen (pn r9 bl))) (pi 0))
 (.chk (.nt pT)
 (.chk (.nt pT)
 (.next ⟨[(3,(aL r3 (.llen (pn r9 bl)))),(11,(aL bl (pi 1)))],[]⟩)))
 (.next ⟨[(3,(aL r3 (.llen (pn r9 bl)))),(11,(aL bl (pi 1)))],[]⟩)))
 (.exit 0 ⟨[(12,(aj bl bY))],[]⟩))
def Fi (b:Nat→PC):PT:=
 (.ite (aj dJ kO)
 (.chk (aq fV dJ)
 (.chk (bO (.llen (.app o6 (pn fV dJ))) cq)
 (.next ⟨[(6,pN),(27,(aL dJ (pi 1)))],[(6,(.app o6 (pn fV dJ)))]⟩)))
 (.exit 2 ⟨[(28,(aj dJ kO))],[]⟩))
def MT (b:Nat→PC):PT:=
 (.brk ⟨[(11,(pi 0)),(10,(.llen r0)),(9,r0),(3,(pi 0))],[]⟩
(ai5 b)
 (.call ⟨[],[]⟩ [] 24 100 [pL,r3]
 (.brk ⟨[(27,(pi 0)),(26,(.llen r0)),(25,r0),(6,pN)],[(6,lZ)]⟩
(ai6 b)
 (.ret o6))))
def ad6 (b:Nat→PC):PT×List (Shp×PT):=(MT b,[(.lp 0 [3,11,12] [] [3,11] [],Fh b),(.lp 2 [6,27,28] [6] [6,27] [6],Fi b)])
theorem CY:wz.map told=some (ad6 (az wz)):=by kernel_rfl
theorem aoz:tree D3=MT vu:=aP CY
theorem Vx:round 0 [3,11,12] [] [3,11] [] (vu 0)=Fh vu:=bI CY 0 fun _=>rfl
theorem Vy:round 2 [6,27,28] [6] [6,27] [6] (vu 1)=Fi vu:=bI CY 1 fun _=>rfl
theorem aaz:wz=some D3:=aE CY
noncomputable def Au:Option PC:=aB {ctx with fr:=[2],nh:=[]} Tryd.f10 ((ab ah 10).getD default) [1]
noncomputable def C7:PC:=aA Au
def L1:PT:=
 (.ite (.pick (aT (pc (.mk [r0]) 4) (pi 0)) pT (.nt lU))
 (.ret (pi (-1)))
 (.ret sd))
def acU (b:Nat→PC):PT×List (Shp×PT):=(L1,[])
theorem TA:Au.map told=some (acU (az Au)):=by kernel_rfl
theorem anp:tree C7=L1:=aP TA
theorem ZE:Au=some C7:=aE TA
noncomputable def Ax:Option PC:=aB {ctx with fr:=[6],nh:=[]} Tryd.f54 ⟨[Y8,I,l9],.slice I,.dat⟩ [3,5,7,8,42,9]
noncomputable def Ke:PC:=aA Ax
def L4:PT:=
 (.chk (aq (pc (.mk [r2]) 15) (pc (.mk [r2]) 19))
 (.ite UP
 (.ret pL)
 (.chk (.an (aY (pi 5) (pi 0)) (bO (pi 5) cq))
 (.chk (ao (pi 5) (pi 5))
 (.chk (aq (.rep (pi 5) (pi 0)) (pi 0))
 (.call ⟨[],[(9,(.setn (.rep (pi 5) (pi 0)) (pi 0) 0 r1)),(8,(.setc FN 0 (aQ 15 (.mk [r2])))),(7,uC),(3,(.mk [r0]))]⟩ [] 50 68 [mR,(pc uC 7)]
 (.chk (aq o9 (pi 1))
 (.call ⟨[],[(9,(.setn o9 (pi 1) 0 gK))]⟩ [] 56 68 [(aQ 8 o3),(pc o8 10)]
 (.chk (aq o9 (pi 2))
 (.call ⟨[],[(9,(.setn o9 (pi 2) 0 kQ))]⟩ [] 62 68 [(aQ 8 o3),(pc o8 9)]
 (.chk (aq o9 (pi 3))
 (.chk (aq (pc o3 3) (pc o7 2))
 (.call ⟨[],[(9,(.setn o9 (pi 3) 0 j7))]⟩ [] 73 68 [(aQ 8 o3),(pc (pn (pc o3 3) (pc o7 2)) 1)]
 (.chk (aq o9 (pi 4))
 (.call ⟨[],[(9,(.setn o9 (pi 4) 0 za))]⟩ [] 76 67 [(.setn o9 (pi 4) 0 za),(pi (-1))]
 (.ite pY
 (.ret pL)
 (.ret o9)))))))))))))))))
def acX (b:Nat→PC):PT×List (Shp×PT):=(L4,[])
theorem TD:Ax.map told=some (acX (az Ax)):=by kernel_rfl
theorem ans:tree Ke=L4:=aP TD
theorem ZH:Ax=some Ke:=aE TD
noncomputable def Ay:Option PC:=aB {ctx with fr:=[6],nh:=[]} Tryd.f54 ⟨[Y8,I,l9],.nils .bool,.dat⟩ [3,5,7,8,42,9]
noncomputable def Kf:PC:=aA Ay
def FD:PT:=
 (.chk (aq (pc (.mk [r2]) 15) (pc (.mk [r2]) 19))
 (.ite UP
 (.ret pL)
 (.chk (.an (aY (pi 5) (pi 0)) (bO (pi 5) cq))
 (.chk (ao (pi 5) (pi 5))
 (.chk (aq (.rep (pi 5) (pi 0)) (pi 0))
 (.call ⟨[],[(9,(.setn (.rep (pi 5) (pi 0)) (pi 0) 0 r1)),(8,(.setc FN 0 (aQ 15 (.mk [r2])))),(7,uC),(3,(.mk [r0]))]⟩ [] 50 68 [mR,(pc uC 7)]
 (.chk (aq o9 (pi 1))
 (.call ⟨[],[(9,(.setn o9 (pi 1) 0 gK))]⟩ [] 56 68 [(aQ 8 o3),(pc o8 10)]
 (.chk (aq o9 (pi 2))
 (.call ⟨[],[(9,(.setn o9 (pi 2) 0 kQ))]⟩ [] 62 68 [(aQ 8 o3),(pc o8 9)]
 (.chk (aq o9 (pi 3))
 (.chk (aq (pc o3 3) (pc o7 2))
 (.call ⟨[],[(9,(.setn o9 (pi 3) 0 j7))]⟩ [] 73 68 [(aQ 8 o3),(pc (pn (pc o3 3) (pc o7 2)) 1)]
 (.chk (aq o9 (pi 4))
 (.call ⟨[],[]⟩ [] 76 67 [(.setn o9 (pi 4) 0 za),(pi (-1))]
 (.ite pY
 (.ret pL)
 (.chk pF
 (.next ⟨[],[]⟩))))))))))))))))))
def acY (b:Nat→PC):PT×List (Shp×PT):=(FD,[])
theorem TE:Ay.map told=some (acY (az Ay)):=by kernel_rfl
theorem ant:tree Kf=FD:=aP TE
theorem ZI:Ay=some Kf:=aE TE
end Rm
