/-
  The functions of this seat, compiled (1).
-/
import Derived.Test.YtipjidjopglknaaGreatDoorEAK
import Derived.KernelRfl
set_option linter.unusedVariables false
set_option maxRecDepth 100000
noncomputable section
namespace Rm
open Go Go.Proofs Cx
def FA:Option PC:=cF [10,11] [] Tryz.f4 4 [5,8,12,13,14]
def QB:PT:=
 (.call ⟨[],[(8,(.mk [r3])),(5,(.mk [r0]))]⟩ [] 15 6 []
 (.call ⟨[(11,ji)],[]⟩ [] 19 7 [(aB 8 o5),(aB 19 o8)]
 (.ite (.nt iP)
 (.ret bQ)
 (.call ⟨[],[(12,(.setc Ow 0 (aB 24 o8)))]⟩ [] 29 24 [(aB 19 o8),(.mx (pc o8 23) r4)]
 (.call ⟨[],[(12,(.setc HQ 0 qw))]⟩ [] 35 8 [(aB 8 o5),r1,r2,(aB 24 o8)]
 (.call ⟨[],[(13,(.setc oY 0 wH))]⟩ [] 40 8 [(aB 8 o5),r1,r2,(aB 24 HQ)]
 (.call ⟨[],[]⟩ [] 43 12 [(aB 5 HR),(aB 5 (.setc oY 0 pg))]
 (.call ⟨[(45,(.nt sc))],[]⟩ [(45,false)] 50 20 [(aB 8 o5),r1,r2,(aB 24 o8)]
 (.call ⟨[],[]⟩ [(45,false)] 55 20 [(aB 8 o5),r1,r2,(aB 24 HQ)]
 (.call ⟨[],[]⟩ [(45,false)] 56 17 [mF,wJ]
 (.ite (.pick ph pT (.nt mG))
 (.ret pF)
 (.call ⟨[(60,bQ)],[]⟩ [(60,true)] 67 22 [(aB 8 o5),r1,(aB 19 o8),(pc o8 23)]
 (.call ⟨[],[]⟩ [(60,true)] 74 22 [(aB 8 o5),r1,(aB 19 HQ),(pc o8 23)]
 (.ret (.pick OQ (peq sf zZ) pF)))))))))))))))
theorem X0:FA.map told=some (QB,[]):=by kernel_rfl
theorem aoO:tree (ae FA)=QB:=bj X0
def FF:Option PC:=cF [0,7,8,9] [] Tryz.f6 6 [1,2,3,4,5,6,73]
def QG:PT:=
 (.call ⟨[],[]⟩ [] 10 28 []
 (.call ⟨[(11,(aB 8 Zs))],[(1,Zs)]⟩ [] 12 30 [(pi 0)]
 (.call ⟨[],[]⟩ [] 13 29 [cj]
 (.call ⟨[],[]⟩ [] 14 8 [bQ,(pi 0),(pi 2),eC]
 (.call ⟨[(15,(aB 8 o1))],[(2,(.setc oY 0 dj))]⟩ [] 16 30 [(pi 0)]
 (.call ⟨[],[]⟩ [] 17 29 [eD]
 (.call ⟨[],[]⟩ [] 18 8 [ji,(pi 1),(pi 2),qv]
 (.call ⟨[(19,(aB 8 o1))],[(3,(.setc oY 0 kz))]⟩ [] 20 30 [(pi 1)]
 (.call ⟨[],[]⟩ [] 21 29 [eN]
 (.call ⟨[],[]⟩ [] 22 8 [iP,(pi 1),(pi 2),lM]
 (.call ⟨[(23,(aB 8 o1))],[(4,(.setc oY 0 Ix))]⟩ [] 24 30 [(pi 0)]
 (.call ⟨[],[]⟩ [] 25 29 [oZ]
 (.call ⟨[],[]⟩ [] 26 8 [lN,(pi 0),(pi 0),jZ]
 (.call ⟨[],[(6,wB),(5,(.setc oY 0 mE))]⟩ [] 32 12 [(aB 5 o2),(.mk [(.mk [(pc wB 0),(pc wB 1)]),(pi 0),(.lst [(pi 0)]),(pi 0)])]
 (.call ⟨[(33,ON)],[]⟩ [(33,true)] 38 12 [(aB 5 o3),(.mk [(.mk [(pc o6 0),(pc o6 1)]),(pi 0),(.lst [(pi 1),(pi 0)]),(pi 0)])]
 (.call ⟨[(40,(.pick tY jj pF))],[]⟩ [(40,true)] 44 12 [(aB 5 o4),(.mk [fE,(pi 1),(.lst [(pi 1)]),(pi 0)])]
 (.call ⟨[(49,(peq (pc o5 4) (pi 4))),(7,(.pick pg wI pF))],[]⟩ [(49,true)] 51 13 [(aB 5 o5)]
 (.call ⟨[(54,(.pick sd (peq Iz (pi 0)) pF))],[]⟩ [(54,true)] 56 15 [(aB 5 o5)]
 (.call ⟨[(59,(.pick se (peq mG (pi (-1))) pF))],[]⟩ [(59,true)] 61 13 [(aB 5 o2)]
 (.call ⟨[(64,(.pick OP (peq DB (pi 1)) pF))],[]⟩ [(64,true)] 66 13 [(aB 5 o4)]
 (.call ⟨[(69,(aB 8 o1)),(8,(.pick IC (peq OS (pi 2)) pF))],[]⟩ [] 70 30 [(pi 1)]
 (.call ⟨[],[]⟩ [] 71 29 [ZS]
 (.call ⟨[],[]⟩ [] 72 20 [sk,(pi 1),(pi 2),ZT]
 (.call ⟨[],[]⟩ [] 74 17 [OT,(.lst [(pi 17)])]
 (.call ⟨[(76,(aB 8 o1)),(75,zZ)],[]⟩ [(75,true)] 77 30 [(pi 0)]
 (.call ⟨[],[]⟩ [(75,true)] 78 29 [ZU]
 (.call ⟨[],[]⟩ [(75,true)] 79 18 [pj,(pi 1),OV]
 (.call ⟨[],[]⟩ [(75,true)] 81 17 [ZV,(.lst [(pi 1),(pi 0),(pi 1),(pi 0),(pi 0)])]
 (.call ⟨[(91,(aB 8 o1)),(90,(.pick (.pick r7 r8 pF) (.pick DC sl pF) pF))],[]⟩ [(90,true)] 92 30 [(pi 0)]
 (.call ⟨[],[]⟩ [(90,true)] 93 22 [ZY,(pi 0),DE,(pi 5)]
 (.call ⟨[(97,(aB 8 o1)),(96,(.pick ZX (peq DF (pi 10)) pF))],[]⟩ [(96,true)] 98 30 [(pi 0)]
 (.call ⟨[],[]⟩ [(96,true)] 99 22 [Z0,(pi 1),Z1,(pi 5)]
 (.call ⟨[(103,(aB 8 o1)),(102,(.pick ZZ (peq IE (pi 13)) pF))],[]⟩ [(102,true)] 104 30 [(pi 0)]
 (.call ⟨[],[]⟩ [(102,true)] 105 22 [Iv,(pi 0),OI,(pi 1)]
 (.ret (.pick ZK (peq ZL (pi (-1))) pF))))))))))))))))))))))))))))))))))))
theorem X5:FF.map told=some (QG,[]):=by kernel_rfl
theorem aoU:tree (ae FF)=QG:=bj X5
def FE:Option PC:=cF [5] [] Tryz.f28 28 [0,24576,28672,32768,1,12289,2,3,12291,4]
def QF:PT:=
 (.ret (.mk [(pc Ds 0),(pc Ds 1),(pc Ds 2),(pc Ds 3),(pc Ds 4),pL,pL,pL]))
theorem X4:FE.map told=some (QF,[]):=by kernel_rfl
theorem aoS:tree (ae FE)=QF:=bj X4
def FD:Option PC:=cF [] [] Tryz.f30 30 [2,69634,73730,3,4]
def QE:PT:=
 (.ret (.mk [(pc jX 0),(pc jX 1),(pc jX 2),(pc jX 3),(pc jX 4),(pc jX 5),(pc jX 6),(pc jX 7),(pc jX 8),(pc jX 9),(pc jX 10),(pc jX 11),(pc jX 12),(pc jX 13),(pc jX 14),(pc jX 15),pL,pL,(pc jX 18)]))
theorem X3:FD.map told=some (QE,[]):=by kernel_rfl
theorem aoR:tree (ae FD)=QE:=bj X3
def FB:Option PC:=cF [] [] Tryz.f29 29 [1,2]
def QC:PT:=
 (.ret (aB 24 (.setc Ow 0 (.mk [(aB 19 (.mk [r0])),(pi 0),(pi (-1)),(pi (-1)),(pi (-1)),(pi 5)]))))
theorem X1:FB.map told=some (QC,[]):=by kernel_rfl
theorem aoP:tree (ae FB)=QC:=bj X1
def Fh:Option PC:=cF [10] [] Tryz.f8 8 [4,7,8,9]
def Qi:PT:=
 (.call ⟨[],[(8,oY),(4,(.mk [r0]))]⟩ [] 16 33 [lL,r1,r2,(aB 24 (.mk [r3]))]
 (.iteS ⟨[(10,(.tget eD 1))],[(9,Dv)]⟩ (bk (pc Dv 2) (pi (-1))) [] [9]
 (.chk (az (pc o4 4) (pc o9 2))
 (.call ⟨[],[]⟩ [] 31 34 [(pn (pc o4 4) (pc o9 2)),r2,dL]
 (.next ⟨[],[(9,(.setc (.setc o9 0 (.tget tX 0)) 4 (.tget tX 1)))]⟩)))
 (.next ⟨[],[]⟩)
 (.ret (aB 5 (.setc o8 0 (aB 5 o9))))))
theorem XE:Fh.map told=some (Qi,[]):=by kernel_rfl
theorem aos:tree (ae Fh)=Qi:=bj XE
def Fo:Option PC:=cF [9,11,12,13,14] [] Tryz.f33 33 [4,7,8,10,16394]
def Qo:PT:=
 (.call ⟨[],[(16394,pL),(10,(.setc oY 0 (.mk [fE,(pi (-1)),pL,(pi 1)]))),(8,oY),(7,(.mk [r3])),(4,(.mk [r0]))]⟩ [] 19 39 [lL,(aB 24 (.mk [r3]))]
 (.ite (peq (.llen (.tget iP 1)) (pi 0))
 (.ret (.tup [Oz,pL]))
 (.call ⟨[(11,(.tget iP 1))],[(7,(.setc o7 0 (.tget iP 0)))]⟩ [] 28 69 [r2]
 (.ite (.nt (.tget rY 1))
 (.ret (.tup [Oz,pL]))
 (.call ⟨[],[]⟩ [] 37 40 [(aB 8 o4),r1,(aB 24 o7)]
 (.ite (peq (.llen pf) (pi 0))
 (.ret (.tup [Oz,pL]))
 (.call ⟨[],[]⟩ [] 46 70 [(aB 8 o4),r1,r2,pf]
 (.ite (peq (pc wA 4) (pi 0))
 (.chk (az (pc wA 3) (bZ (.llen (pc wA 3)) (pi 1)))
 (.ret (.tup [(aB 5 (.setc o8 0 (aB 5 (.setc wA 2 (pn (pc wA 3) (bZ (.llen (pc wA 3)) (pi 1))))))),bQ])))
 (.ret (.tup [(aB 5 (.setc o8 0 (aB 5 wA))),bQ]))))))))))
theorem XL:Fo.map told=some (Qo,[]):=by kernel_rfl
theorem aoy:tree (ae Fo)=Qo:=bj XL
def Fp:Option PC:=cF [5] [] Tryz.f39 39 [2,3,4]
def Qp:PT:=
 (.call ⟨[],[(4,Ow),(3,(.mk [r1])),(2,(.mk [r0]))]⟩ [] 10 24 [(aB 19 (.mk [r1])),(pc (.mk [r1]) 23)]
 (.call ⟨[(12,(aB 24 (.setc o3 0 dL)))],[]⟩ [] 15 26 [(aB 8 o2),(aB 24 (.setc o3 0 dL))]
 (.ret (.tup [(aB 24 (.setc o4 0 cj)),ji]))))
theorem XM:Fp.map told=some (Qp,[]):=by kernel_rfl
theorem aoz:tree (ae Fp)=Qp:=bj XM
def xY:Option PC:=cF [1000004,1000005] [] Tryz.f24 24 [2,4,65540,69636,73732,77828,5,65541,69637,73733,77829,7,31,9,49,11,13]
def qY:Nat→PC:=bB xY
def akI (b:Nat→PC):PC:=.block 0 [20,21] [65541,5] (.loop [20] [65541,5] (b 0))
def akJ (b:Nat→PC):PC:=.block 2 [38,39] [73733,5] (.loop [38] [73733,5] (b 1))
def akK (b:Nat→PC):PC:=.block 4 [56,57] [5,69637] (.loop [56] [5,69637] (b 2))
def akL (b:Nat→PC):PC:=.block 6 [76,77] [5,77829] (.loop [76] [5,77829] (b 3))
def D8 (b:Nat→PC):PT:=
 (.ite (ao eN iP)
 (.chk (az kz eN)
 (.ite (bp (pc (.setc z9 0 (pn kz eN)) 6) r1)
 (.exit 0 ⟨[(21,(ao eN iP))],[]⟩)
 (.chk (bY (.llen (.app (.o 65541) (.lst [(aB 9 (.setc z9 0 (pn kz eN)))]))) cX)
 (.next ⟨[(20,(aP eN (pi 1)))],[(65541,(.app (.o 65541) (.lst [(aB 9 (.setc z9 0 (pn kz eN)))]))),(5,(.setc o5 15 pN))]⟩))))
 (.exit 0 ⟨[(21,(ao eN iP))],[]⟩))
def D9 (b:Nat→PC):PT:=
 (.ite (ao jj pf)
 (.chk (az kW jj)
 (.ite (bp (pc (.setc z9 0 (pn kW jj)) 6) r1)
 (.exit 2 ⟨[(39,(ao jj pf))],[]⟩)
 (.chk (bY (.llen (.app (.o 73733) (.lst [(aB 9 (.setc z9 0 (pn kW jj)))]))) cX)
 (.next ⟨[(38,(aP jj (pi 1)))],[(73733,(.app (.o 73733) (.lst [(aB 9 (.setc z9 0 (pn kW jj)))]))),(5,(.setc o5 17 pN))]⟩))))
 (.exit 2 ⟨[(39,(ao jj pf))],[]⟩))
def Ea (b:Nat→PC):PT:=
 (.ite (ao mG wJ)
 (.chk (az se mG)
 (.ite (bY (pc (.setc z2 0 (pn se mG)) 0) (.llen (.o 65541)))
 (.chk (bY (.llen Zy) cX)
 (.next ⟨[(56,(aP mG (pi 1)))],[(5,(.setc o5 16 pN)),(69637,Zy)]⟩))
 (.next ⟨[(56,(aP mG (pi 1)))],[]⟩)))
 (.exit 4 ⟨[(57,(ao mG wJ))],[]⟩))
def Eb (b:Nat→PC):PT:=
 (.ite (ao pj DC)
 (.blockS ⟨[],[]⟩ 7 [13,78,79,80,81,82,83,84,85] [13,77829,5]
 (.chk (az zZ pj)
 (.call ⟨[],[(13,(.setc z3 0 (pn zZ pj)))]⟩ [] 85 49 [(pc (.setc z3 0 (pn zZ pj)) 1),(.llen (.o 65541))]
 (.ite DD
 (.chk (bY (.llen ZI) cX)
 (.next ⟨[],[(77829,ZI),(5,(.setc o5 18 pN))]⟩))
 (.next ⟨[],[]⟩))))
 (.next ⟨[(76,(aP pj (pi 1)))],[]⟩))
 (.exit 6 ⟨[(77,(ao pj DC))],[]⟩))
def Rr (b:Nat→PC):PT:=
 (.brk ⟨[(20,(pi 0)),(19,(.llen (pc (.mk [r0]) 15))),(18,(pc (.mk [r0]) 15))],[(77829,pL),(73733,pL),(69637,pL),(65541,pL),(5,(.setc Ik 0 (.mk [(aB 15 (.mk [r0])),pL,pL,pL,pL]))),(4,Ik),(2,(.mk [r0]))]⟩
(akI b)
 (.brk ⟨[(38,(pi 0)),(37,(.llen (pc o2 17))),(36,(pc o2 17))],[]⟩
(akJ b)
 (.brk ⟨[(56,(pi 0)),(55,(.llen (pc o2 16))),(54,(pc o2 16))],[]⟩
(akK b)
 (.brk ⟨[(76,(pi 0)),(75,(.llen (pc o2 18))),(74,(pc o2 18))],[]⟩
(akL b)
 (.ret (.mk [(pc kV 0),(pc kV 1),(pc kV 2),(pc kV 3),(pc kV 4),(pc kV 5),(pc kV 6),(pc kV 7),(pc kV 8),(pc kV 9),(pc kV 10),(pc kV 11),(pc kV 12),(pc kV 13),(pc kV 14),(.o 65541),(.o 69637),(.o 73733),(.o 77829)]))))))
def af9 (b:Nat→PC):PT×List (Shp×PT):=(Rr b,[(.lp 0 [20,21] [65541,5] [20] [65541,5],D8 b),(.lp 2 [38,39] [73733,5] [38] [73733,5],D9 b),(.lp 4 [56,57] [5,69637] [56] [5,69637],Ea b),(.lp 6 [76,77] [5,77829] [76] [5,77829],Eb b)])
theorem zu:xY.map told=some (af9 (bA xY)):=by kernel_rfl
theorem apD:tree (ae xY)=Rr qY:=cd zu
theorem Pt:round 0 [20,21] [65541,5] [20] [65541,5] (qY 0)=D8 qY:=bx zu 0 fun _=>rfl
theorem Pu:round 2 [38,39] [73733,5] [38] [73733,5] (qY 1)=D9 qY:=bx zu 1 fun _=>rfl
theorem Pv:round 4 [56,57] [5,69637] [56] [5,69637] (qY 2)=Ea qY:=bx zu 2 fun _=>rfl
theorem Pw:round 6 [76,77] [5,77829] [76] [5,77829] (qY 3)=Eb qY:=bx zu 3 fun _=>rfl
def F2:Option PC:=cF [4] [] Tryz.f49 49 []
def Rw:PT:=
 (.ret (.pick (dx r0 (pi 0)) (ao r0 r1) pF))
theorem Yq:F2.map told=some (Rw,[]):=by kernel_rfl
theorem apJ:tree (ae F2)=Rw:=bj Yq
def ya:Option PC:=cF [4,7,9,11,12,13,14,15,16] [] Tryz.f26 26 [2,3,5,6,8,10,90,139]
def A2:Nat→PC:=bB ya
def ak4 (b:Nat→PC):PC:=.meach 90 [94,95,11,12] [0,1,0,1] [10] (b 0)
def ak5 (b:Nat→PC):PC:=.meach 139 [143,144,15,16] [0,1,0,1] [10] (b 1)
def Pz (b:Nat→PC):PT:=
 (.chk (az cA bQ)
 (.next ⟨[],[(10,(.setn cA bQ 0 (.mk [pT,cj])))]⟩))
def PA (b:Nat→PC):PT:=
 (.blockS ⟨[],[]⟩ 3 [145,146,147,148,149] [10]
 (.call ⟨[(146,ji)],[]⟩ [] 148 58 [eD]
 (.chk (az cA (.r 146))
 (.next ⟨[],[(10,(.setn cA (.r 146) 0 (.r 148)))]⟩)))
 (.next ⟨[],[]⟩))
def uq (b:Nat→PC):PT:=
 (.call ⟨[(7,(.mx (pc (.mk [r1]) 20) (pi 0)))],[(6,(.setc JD 0 (aB 15 (.mk [r1])))),(5,(.setc Ik 0 (aB 19 (.mk [r1])))),(3,(.mk [r1])),(2,(.mk [r0]))]⟩ [] 30 49 [(pc (.mk [r1]) 19),(.llen (pc (.setc Ik 0 (aB 19 (.mk [r1]))) 15))]
 (.call ⟨[(48,(bk (pc o3 22) (pi (-1)))),(44,(.pick (.pick (.nt zY) pT (ao (pc o3 20) (pi (-1)))) pT (dx r7 (.llen (pc o5 15)))))],[]⟩ [(48,true),(44,false)] 51 49 [(pc o3 22),(pi 100001)]
 (.ite (.pick wI pT (.pick qx (.nt Iz) pF))
 (.ret pL)
 (.chk (az (pc o5 15) (pc o3 19))
 (.call ⟨[],[(8,(.setc z9 0 (pn (pc o5 15) (pc o3 19))))]⟩ [] 63 49 [(pc (.setc z9 0 (pn (pc o5 15) (pc o3 19))) 6),(pi 100001)]
 (.ite (.nt OR)
 (.ret pL)
 (.chk (.an (dx (pi 20) (pi 0)) (bY (pi 20) cX))
 (.chk (peq (pi 20) (pi 20))
 (.chk (ao (.mlen (.con (.map []))) cX)
 (.chk (ao (.mlen (.put (.con (.map [])) (pi 0) (pc o6 3))) cX)
 (.chk (ao (.mlen (.put (.put (.con (.map [])) (pi 0) (pc o6 3)) (pi 1) (pc o6 14))) cX)
 (.chk (ao (.mlen Ox) cX)
 (.chk (ao (.mlen (.put Ox (pi 3) (pc o6 12))) cX)
 (.chk (ao (.mlen OB) cX)
 (.chk (ao (.mlen (.put OB (pi 5) (pc o3 21))) cX)
 (.blockS ⟨[(10,pN),(9,ZH)],[(90,(.tup [(.lst []),(.put (.put OB (pi 5) (pc o3 21)) (pi 6) ZH)])),(10,(.rep (pi 20) fE))]⟩ 0 [] [10]
 (.brk ⟨[],[]⟩
(ak4 b)
 (.exit 0 ⟨[],[]⟩))
 (.call ⟨[],[(3,(aB 24 o3))]⟩ [] 104 55 [(pc o5 16),(.clo 56 [(.ref (aB 24 o3))])]
 (.call ⟨[(13,OI)],[]⟩ [] 108 57 [(aB 8 o2),(pc o6 9)]
 (.call ⟨[],[]⟩ [] 112 57 [(aB 8 o2),(pc o6 10)]
 (.chk (ao (.mlen (.con (.map []))) cX)
 (.chk (ao (.mlen OA) cX)
 (.chk (ao (.mlen (.put OA (pi 8) (peq (pc o6 2) (pi (-1))))) cX)
 (.chk (ao (.mlen (.put (.put OA (pi 8) (peq (pc o6 2) (pi (-1)))) (pi 9) (bk (.ai .and .i64 (pc o6 13) (pi 4)) (pi 0)))) cX)
 (.chk (ao (.mlen Iu) cX)
 (.chk (ao (.mlen (.put Iu (pi 11) (bk OJ OL))) cX)
 (.chk (ao (.mlen (.put (.put Iu (pi 11) (bk OJ OL)) (pi 12) eC)) cX)
 (.chk (ao (.mlen Zt) cX)
 (.blockS ⟨[],[(139,(.tup [(.lst []),(.put Zt (pi 14) (bp r9 (pi 0)))]))]⟩ 2 [] [10]
 (.brk ⟨[],[]⟩
(ak5 b)
 (.exit 2 ⟨[],[]⟩))
 (.call ⟨[],[]⟩ [] 154 59 [(aB 19 o5),(pi 0),(pc o3 19)]
 (.chk (az cA (pi 15))
 (.call ⟨[],[(10,(.setn cA (pi 15) 0 (.r 154)))]⟩ [] 160 59 [(aB 19 o5),(pi 1),(pc o3 19)]
 (.chk (az cA (pi 16))
 (.call ⟨[],[(10,(.setn cA (pi 16) 0 (.r 160)))]⟩ [] 166 59 [(aB 19 o5),(pi 2),(pc o3 19)]
 (.chk (az cA (pi 17))
 (.call ⟨[],[(10,(.setn cA (pi 17) 0 (.r 166)))]⟩ [] 171 59 [(aB 19 o5),(pi 3),r7]
 (.chk (az cA (pi 18))
 (.call ⟨[],[(10,(.setn cA (pi 18) 0 (.r 171)))]⟩ [] 176 59 [(aB 19 o5),(pi 4),r7]
 (.chk (az cA (pi 19))
 (.ret (.setn cA (pi 19) 0 (.r 176)))))))))))))))))))))))))))))))))))))))))
def agc (b:Nat→PC):PT×List (Shp×PT):=(uq b,[(.ea [10],Pz b),(.ea [10],PA b)])
theorem H4:ya.map told=some (agc (bA ya)):=by kernel_rfl
theorem apH:tree (ae ya)=uq A2:=cd H4
theorem am8:pw [10] (A2 0)=Pz A2:=Qh H4 0 fun _=>rfl
theorem am9:pw [10] (A2 1)=PA A2:=Qh H4 1 fun _=>rfl
def F0:Option PC:=cF [3] [] Tryz.f56 56 [2]
def Ru:PT:=
 (.ret (bY jW (pc (.deref r1) 19)))
theorem Yo:F0.map told=some (Ru,[]):=by kernel_rfl
theorem apG:tree (ae F0)=Ru:=bj Yo
def F3:Option PC:=cF [4] [] Tryz.f55 55 []
def Ry:PT:=
 (.call ⟨[],[]⟩ [] 7 104 [r0,r1]
 (.ret (dx r7 (pi 0))))
theorem Yr:F3.map told=some (Ry,[]):=by kernel_rfl
theorem apL:tree (ae F3)=Ry:=bj Yr
def yb:Option PC:=cF [4,5] [] Tryz.f104 104 []
def Ky:Nat→PC:=bB yb
def akR (b:Nat→PC):PC:=.block 0 [4,8,9] [] (.loop [4,8] [] (b 0))
def Ef (b:Nat→PC):PT:=
 (.ite (ao r8 r7)
 (.blockS ⟨[],[]⟩ 1 [4,5,10,11,12,13,14,15,16] []
 (.chk (az r0 r8)
 (.callc ⟨[(5,r8)],[]⟩ [] 16 r1 [(pn r0 r8)]
 (.ite eD
 (.ret r5)
 (.next ⟨[],[]⟩))))
 (.next ⟨[(8,(aP r8 (pi 1)))],[]⟩))
 (.exit 0 ⟨[(9,(ao r8 r7))],[]⟩))
def RD (b:Nat→PC):PT:=
 (.brk ⟨[(8,(pi 0)),(7,(.llen r0)),(4,(pi 0))],[]⟩
(akR b)
 (.ret (pi (-1))))
def age (b:Nat→PC):PT×List (Shp×PT):=(RD b,[(.lp 0 [4,8,9] [] [4,8] [],Ef b)])
theorem N0:yb.map told=some (age (bA yb)):=by kernel_rfl
theorem apP:tree (ae yb)=RD Ky:=cd N0
theorem PB:round 0 [4,8,9] [] [4,8] [] (Ky 0)=Ef Ky:=bx N0 0 fun _=>rfl
def FX:Option PC:=cF [4] [] Tryz.f57 57 [2]
def Rf:PT:=
 (.call ⟨[],[(2,(.mk [r0]))]⟩ [] 9 105 [r1,(.llen oV)]
 (.ite (.nt r9)
 (.ret (pi (-1)))
 (.chk (az (pc o2 1) r1)
 (.ret (pc (pn (pc o2 1) r1) 1)))))
theorem Yl:FX.map told=some (Rf,[]):=by kernel_rfl
theorem apr:tree (ae FX)=Rf:=bj Yl
def FY:Option PC:=cF [4] [] Tryz.f105 105 []
def Rj:PT:=
 (.ret (.pick (dx r0 (pi 0)) (ao r0 r1) pF))
theorem Ym:FY.map told=some (Rj,[]):=by kernel_rfl
theorem apv:tree (ae FY)=Rj:=bj Ym
def F1:Option PC:=cF [] [] Tryz.f58 58 [2]
def Rv:PT:=
 (.ite r0
 (.ret (.mk [(pc wB 0),(pc wB 1)]))
 (.ret (.mk [(pc It 0),(pc It 1)])))
theorem Yp:F1.map told=some (Rv,[]):=by kernel_rfl
theorem apI:tree (ae F1)=Rv:=bj Yp
def xZ:Option PC:=cF [] [] Tryz.f59 59 [3,6,8]
def Kw:Nat→PC:=bB xZ
def akM (b:Nat→PC):PC:=.block 0 [12,13] [6] (.loop [12] [6] (b 0))
def Ec (b:Nat→PC):PT:=
 (.ite (ao cj bQ)
 (.blockS ⟨[],[]⟩ 1 [8,14,15,16,17,18,19,20,25] [8,6]
 (.chk (az dL cj)
 (.iteS ⟨[],[(8,(.setc z3 0 (pn dL cj)))]⟩ (.pick (peq (pc (.setc z3 0 (pn dL cj)) 0) r1) (peq (pc (.setc z3 0 (pn dL cj)) 1) r2) pF) [] [6]
 (.call ⟨[],[]⟩ [] 29 58 [(bk (pc o8 2) (pi 0))]
 (.ret (.mk [(pc (.setc o6 0 qw) 0),(pc (.setc o6 0 qw) 1)])))
 (.next ⟨[],[]⟩)
 (.next ⟨[],[]⟩)))
 (.next ⟨[(12,(aP cj (pi 1)))],[]⟩))
 (.exit 0 ⟨[(13,(ao cj bQ))],[]⟩))
def Rs (b:Nat→PC):PT:=
 (.brk ⟨[(12,(pi 0)),(11,(.llen (pc (.mk [r0]) 18))),(10,(pc (.mk [r0]) 18))],[(6,fE)]⟩
(akM b)
 (.ret (.mk [(pc (.setc o6 0 wF) 0),(pc (.setc o6 0 wF) 1)])))
def aga (b:Nat→PC):PT×List (Shp×PT):=(Rs b,[(.lp 0 [12,13] [6] [12] [6],Ec b)])
theorem NZ:xZ.map told=some (aga (bA xZ)):=by kernel_rfl
theorem apE:tree (ae xZ)=Rs Kw:=cd NZ
theorem Px:round 0 [12,13] [6] [12] [6] (Kw 0)=Ec Kw:=bx NZ 0 fun _=>rfl
def FI:Option PC:=cF [2,3,4,11] [] Tryz.f69 69 []
def QJ:PT:=
 (.blockS ⟨[],[]⟩ 0 [2,3,4,5,6,7,10,11,12,13,14] []
 (.iteS ⟨[],[]⟩ (.pick (ao r0 (pi 0)) pT (dx r0 (pi 22))) [2,3,11,12,13,14] []
 (.ret (.tup [(pi 0),pF]))
 (.call ⟨[],[]⟩ [] 14 81 [(.lst [(pc qt 0),(pc qt 1),(pc qt 2),(pc qt 3),(pc qt 4),(pc qt 5),(pc qt 6),(pc qt 7),(pc qt 8),(pc qt 9)]),r0]
 (.ite dj
 (.ret (.tup [(pi 0),pT]))
 (.next ⟨[],[]⟩)))
 (.next ⟨[],[]⟩))
 (.ret (.tup [(pi 1),pT])))
theorem X8:FI.map told=some (QJ,[]):=by kernel_rfl
theorem aoX:tree (ae FI)=QJ:=bj X8
def F5:Option PC:=cF [4] [] Tryz.f81 81 []
def RA:PT:=
 (.call ⟨[],[]⟩ [] 7 124 [r0,r1]
 (.ret (dx r7 (pi 0))))
theorem Yt:F5.map told=some (RA,[]):=by kernel_rfl
theorem apN:tree (ae F5)=RA:=bj Yt
def ye:Option PC:=cF [4,5] [] Tryz.f124 124 []
def KB:Nat→PC:=bB ye
def akU (b:Nat→PC):PC:=.block 0 [4,8,9] [] (.loop [4,8] [] (b 0))
def Ei (b:Nat→PC):PT:=
 (.ite (ao r8 r7)
 (.chk (az r0 r8)
 (.ite (peq r1 (pn r0 r8))
 (.ret r8)
 (.next ⟨[(8,(aP r8 (pi 1)))],[]⟩)))
 (.exit 0 ⟨[(9,(ao r8 r7))],[]⟩))
def RG (b:Nat→PC):PT:=
 (.brk ⟨[(8,(pi 0)),(7,(.llen r0)),(4,(pi 0))],[]⟩
(akU b)
 (.ret (pi (-1))))
def agi (b:Nat→PC):PT×List (Shp×PT):=(RG b,[(.lp 0 [4,8,9] [] [4,8] [],Ei b)])
theorem N3:ye.map told=some (agi (bA ye)):=by kernel_rfl
theorem apS:tree (ae ye)=RG KB:=cd N3
theorem PG:round 0 [4,8,9] [] [4,8] [] (KB 0)=Ei KB:=bx N3 0 fun _=>rfl
def xx:Option PC:=cF [8,9,11,12,13,14,55,70] [] Tryz.f70 70 [4,10,53]
def Kd:Nat→PC:=bB xx
def aj5 (b:Nat→PC):PC:=.block 0 [] [] (.loop [8,9,10] [10] (b 0))
def O0 (b:Nat→PC):PT:=
 (.blockS ⟨[],[]⟩ 1 [8,9,10,11,12,13,14,32,33,35,36,37,38,39,40,41,42,43,44,45,46,49,50,52,53,54,55,56,57,58,68,70,71] [53,10]
 (.chk (az cA (bZ (.llen cA) (pi 1)))
 (.call ⟨[(11,(pn cA (bZ (.llen cA) (pi 1))))],[]⟩ [] 41 112 [(aB 8 o4),(pn cA (bZ (.llen cA) (pi 1))),r2,r3]
 (.ite (peq (.tget rZ 0) bQ)
 (.ret (.tup [cA,(pi 0)]))
 (.call ⟨[(13,(.tget rZ 1)),(12,(.tget rZ 0))],[]⟩ [] 50 81 [cA,(.tget rZ 0)]
 (.chk (bY (.llen (.app cA (.lst [cj]))) cX)
 (.chk (.nt (.an (.an mF (.an (.nt (.nt eC)) pT)) (.nt (az (pc o4 4) cj))))
 (.ite (.pick (.nt eC) pT (.pick mF (pc (pn (pc o4 4) cj) 1) pF))
 (.ret (.tup [(.app cA (.lst [cj])),(pi 0)]))
 (.ite mF
 (.ret (.tup [(.app cA (.lst [cj])),(pi 12)]))
 (.next ⟨[(10,pN)],[(10,(.app cA (.lst [cj])))]⟩)))))))))
 (.next ⟨[],[]⟩))
def Qy (b:Nat→PC):PT:=
 (.call ⟨[(9,(pi 0)),(8,pL)],[(4,(.mk [r0]))]⟩ [] 19 111 [lL,r1,r2,r3]
 (.chk (.nt (.an (.an (.nt (.nt iP)) pT) (.nt (az r3 (pi 0)))))
 (.ite (.pick (.nt iP) pT (bk (pn r3 (pi 0)) r1))
 (.ret (.tup [pL,(pi 1)]))
 (.brk ⟨[(10,pN)],[(10,(.lst [r1]))]⟩
(aj5 b)
 (.next ⟨[],[]⟩)))))
def afH (b:Nat→PC):PT×List (Shp×PT):=(Qy b,[(.lp 0 [] [] [8,9,10] [10],O0 b)])
theorem NH:xx.map told=some (afH (bA xx)):=by kernel_rfl
theorem aoK:tree (ae xx)=Qy Kd:=cd NH
theorem am6:round 0 [] [] [8,9,10] [10] (Kd 0)=O0 Kd:=bx NH 0 fun _=>rfl
def Fy:Option PC:=cF [8] [] Tryz.f111 111 [4,9]
def uo:PT:=
 (.ite (.pick (.pick (.pick (.pick (ao r1 (pi 0)) pT (dx r1 (pc (.setc Dy 0 (.llen wE)) 0))) pT (ao r2 (pi 0))) pT (dx r2 (pi 22))) pT (bk (.llen r3) (pi 5)))
 (.ret pF)
 (.call ⟨[],[]⟩ [] 35 150 [r3,(.clo 151 [(.ref (pc (.setc Dy 0 (.llen wE)) 0))])]
 (.ret (.nt wH))))
theorem XY:Fy.map told=some (uo,[]):=by kernel_rfl
theorem aoN:tree (ae Fy)=uo:=bj XY
def Fz:Option PC:=cF [3] [] Tryz.f151 151 []
def QA:PT:=
 (.ret (.pick (ao r0 (pi 0)) pT (dx r0 (.deref r1))))
theorem XZ:Fz.map told=some (QA,[]):=by kernel_rfl
theorem aoM:tree (ae Fz)=QA:=bj XZ
def F4:Option PC:=cF [4] [] Tryz.f150 150 []
def Rz:PT:=
 (.call ⟨[],[]⟩ [] 7 173 [r0,r1]
 (.ret (dx r7 (pi 0))))
theorem Ys:F4.map told=some (Rz,[]):=by kernel_rfl
theorem apM:tree (ae F4)=Rz:=bj Ys
end Rm
