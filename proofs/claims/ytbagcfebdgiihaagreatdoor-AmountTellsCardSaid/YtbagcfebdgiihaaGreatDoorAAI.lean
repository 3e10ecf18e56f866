import Derived.Test.YtbagcfebdgiihaaGreatDoorAAH
import Derived.KernelRfl
set_option maxRecDepth 100000
noncomputable section
set_option linter.all false
namespace Rm
open Go Go.Proofs Cx
def K0:Option PC:=cF [14,15,17,19] [] Tryz.f3 3 [7,9,16,18]
def aaM:PT:=
 (.call ⟨[],[(9,(.mk [r2])),(7,(.mk [r0]))]⟩ [] 20 6 []
 (.call ⟨[(15,dt)],[]⟩ [] 23 7 [(ar 8 o7),(ar 19 o9)]
 (.ite (.nt fa)
 (.ret bZ)
 (.call ⟨[],[]⟩ [] 31 8 [(ar 8 o7),r5,r6,r4]
 (.call ⟨[(17,(.tget g9 1))],[(16,(.setc z2 0 (.tget g9 0)))]⟩ [] 39 9 [(ar 8 o7),r5,r6,r4]
 (.call ⟨[(53,(.pick (.pick bZ (.an (ae (pc (.mk [(pc DJ 0),(pc DJ 1)]) 0) (pc (.mk [(pc HR 0),(pc HR 1)]) 0)) (.an (ae (pc (.mk [(pc DJ 0),(pc DJ 1)]) 1) (pc (.mk [(pc HR 0),(pc HR 1)]) 1)) pT)) pF) (.cb .eql dR (.tget tn 1)) pF))],[]⟩ [(53,true)] 59 10 [(ar 8 o7),r1,(ar 19 o9),r3,r4]
 (.call ⟨[],[]⟩ [(53,true)] 65 11 [(ar 8 o7),r1,(ar 19 o9),r3,r4]
 (.ret (.pick Yk (.an (ae (pc nz 0) (pc lW 0)) (.an (ae (pc nz 1) (pc lW 1)) (.an (ae (pc nz 2) (pc lW 2)) (.an (ae (pc nz 3) (pc lW 3)) (.an (ae (pc nz 4) (pc lW 4)) (.an (ae (pc nz 5) (pc lW 5)) (.an (ae (pc nz 6) (pc lW 6)) pT))))))) pF)))))))))
def ajv:K0.map told=some (aaM,[]):=by kernel_rfl
def aDZ:tree (ab K0)=aaM:=aD ajv
def K4:Option PC:=cF [0,4,6,7,8] [] Tryz.f6 6 [1,2,3]
def aaP:PT:=
 (.call ⟨[],[]⟩ [] 10 23 [(pi 20),(pi 25)]
 (.call ⟨[],[(2,(.setc ja 0 (.tget aZ 1))),(1,(.setc Pk 0 (.tget aZ 0)))]⟩ [] 15 8 [(ar 8 (.setc Pk 0 (.tget aZ 0))),(pi 1),(pi 0),(pi 50)]
 (.call ⟨[(4,(.tget bZ 1))],[(3,(.setc z2 0 (.tget bZ 0)))]⟩ [] 20 8 [(ar 8 o1),(pi 0),(pi 0),(pi 50)]
 (.call ⟨[(6,(.tget dt 1))],[]⟩ [] 24 24 [(pi 20),(pi 25),(pi 100),(.mk [(pi 1000),(pi 0),(pi 0),(pi 0),(pi 0),(pi 1000),(pi 0)])]
 (.call ⟨[(25,mD)],[]⟩ [(25,true)] 27 24 [(pi 20),(pi 25),(pi 101),(.mk [(pi 1000),(pi 0),(pi 5),(pi 0),(pi 0),(pi 1005),(pi 0)])]
 (.call ⟨[(29,(.pick dZ eP pF))],[]⟩ [(29,true)] 31 24 [(pi 20),(pi 25),(pi 106),(.mk [(pi 1000),(pi 1),(pi 5),(pi 0),(pi 0),(pi 1006),(pi 0)])]
 (.call ⟨[(7,(.pick lV g9 pF))],[]⟩ [] 34 24 [(pi 20),(pi 25),(pi 130),(.mk [(pi 1000),(pi 5),(pi 5),(pi 0),(pi 0),(pi 1010),(pi 0)])]
 (.call ⟨[(35,qs)],[]⟩ [(35,true)] 37 24 [(pi 25),(pi 20),(pi 130),(.mk [(pi 1000),(pi 5),(pi 5),(pi 200),(pi 0),(pi 1210),(pi 0)])]
 (.call ⟨[(55,(.pick (.pick (.pick (.pick r7 (.pick hH kW pF) pF) r4 pF) (.nt r6) pF) (.an (ae (pc (.mk [(pc o3 0),(pc o3 1)]) 0) (pi 20)) (.an (ae (pc (.mk [(pc o3 0),(pc o3 1)]) 1) (pi 1)) pT)) pF))],[]⟩ [(55,true)] 58 10 [(ar 8 o1),(pi 0),(ar 19 o2),(pi 1),(pi 130)]
 (.ret (.pick tp (.an (ae (pc ny 0) (pi 0)) (.an (ae (pc ny 1) (pi 0)) (.an (ae (pc ny 2) (pi 0)) (.an (ae (pc ny 3) (pi 0)) (.an (ae (pc ny 4) (pi 0)) (.an (ae (pc ny 5) (pi 0)) (.an (ae (pc ny 6) (pi 0)) pT))))))) pF)))))))))))
def ajy:K4.map told=some (aaP,[]):=by kernel_rfl
def aD2:tree (ab K4)=aaP:=aD ajy
def K1:Option PC:=cF [] [] Tryz.f23 23 [4,5,6,20486,24582,28678,32774,7,65543,69639,73735,77831]
def aaN:PT:=
 (.ret (.tup [(ar 8 (.setc Pk 0 (.mk [(pc Pr 0),(pc Pr 1),(pc Pr 2),(pc Pr 3),(.lst [(.mk [(.con (.v (.string ⟨#[103,101,110,101,118,97]⟩))),pF,pL,(.lst [(.mk [(pi 17),(.mk [(pi 1),(pi 1),pL])])])])]),pL,(.lst [(.mk [(pi 0),(pi 1),(pi 1),r0,(pi 0)]),(.mk [(pi 0),(pi 1),(pi 1),r1,(pi 120)])]),pL]))),(ar 19 (.setc ja 0 (.mk [(pc mA 0),(pc mA 1),(pc mA 2),(pc mA 3),(pc mA 4),(pc mA 5),(pc mA 6),(pc mA 7),(pc mA 8),(pc mA 9),(pc mA 10),(pc mA 11),(pc mA 12),(pc mA 13),(pc mA 14),(.lst [(.mk [(pi 0),(pi 0),(pi 0),(pi (-1)),(pi (-1)),(pi 0),(pi 10),(pi 0),(pi 0)])]),pL,(.lst [(.mk [(pi 4),(pi 1),(pi 1),(pi 0),(pi (-1)),(pi 5),(pi 101),(pi 0),(pi 0)])]),pL])))]))
def ajw:K1.map told=some (aaN,[]):=by kernel_rfl
def aD0:tree (ab K1)=aaN:=aD ajw
def Kw:Option PC:=cF [9,10,11,12,13,15] [] Tryz.f8 8 [4,8,14]
def aad:PT:=
 (.call ⟨[(11,(pi 0)),(10,(pi 0))],[(8,z2),(4,(.mk [r0]))]⟩ [] 21 25 [(pc (.mk [r0]) 6),r1,r2,r3]
 (.iteS ⟨[(12,fE)],[]⟩ (aN fE (pi 0)) [10,11] []
 (.chk (ao (pc o4 6) bK)
 (.next ⟨[(11,(pc (pn (pc o4 6) bK) 3)),(10,(pc (pn (pc o4 6) bK) 2))],[]⟩))
 (.call ⟨[],[]⟩ [] 41 25 [(pc o4 6),r2,r1,r3]
 (.ite (aN mF (pi 0))
 (.chk (ao (pc o4 6) mF)
 (.next ⟨[(10,(pc (pn (pc o4 6) mF) 3)),(11,(pc (pn (pc o4 6) mF) 2))],[]⟩))
 (.next ⟨[],[]⟩)))
 (.call ⟨[],[]⟩ [] 59 26 [aZ,bJ]
 (.ret (.tup [(.mk [(pc (.setc o8 0 (.mk [(pc (.setc z2 0 (.tget nz 0)) 0),(pc (.setc z2 0 (.tget nz 0)) 1)])) 0),(pc (.setc o8 0 (.mk [(pc (.setc z2 0 (.tget nz 0)) 0),(pc (.setc z2 0 (.tget nz 0)) 1)])) 1)]),(ae (.tget nz 1) (pi 0))])))))
def aiZ:Kw.map told=some (aad,[]):=by kernel_rfl
def aDn:tree (ab Kw)=aad:=aD aiZ
def Bk:Option PC:=cF [8,9,10] [] Tryz.f25 25 [11]
def R8:Nat->PC:=aV Bk
variable(b:Nat->PC)
def axr:PC:=.block 0 [9,14,15] [] (.loop [9,14] [] (b 0))
def PK (b:Nat->PC):PT:=
 (.ite pf
 (.chk (ao bK cn)
 (.chk (.nt (.an (.an (.nt (aj r9 (pi 0))) (.an alK pT)) (.nt (ao r0 r9))))
 (.next ⟨[(9,(.pick (.pick alK (.pick (aj r9 (pi 0)) pT (aS (pc (.setc z5 0 mC) 4) (pc (pn r0 r9) 4))) pF) cn r9)),(14,(ay cn (pi 1)))],[]⟩)))
 (.exit 0 ⟨[(15,pf)],[]⟩))
def aah:PT:=
 (.brk ⟨[(14,(pi 0)),(13,(.llen r0)),(12,r0),(9,(pi (-1)))],[]⟩
(axr b)
 (.ret r9))
def asa:PT×List (Shp×PT):=(aah b,[(.lp 0 [9,14,15] [] [9,14] [],PK b)])
def We:Bk.map told=some (asa (aU Bk)):=by kernel_rfl
def aDr:tree (ab Bk)=aah R8:=bk We
def amI:round 0 [9,14,15] [] [9,14] [] (R8 0)=PK R8:=aQ We 0 λ_=>rfl
def FB:Option PC:=cF [5,6,7,8] [] Tryz.f26 26 [4]
def Q8:PT:=
 (.ite (ae r1 (pi 0))
 (.ret (.tup [XY,(pi 1)]))
 (.call ⟨[],[(4,z2)]⟩ [] 13 75 [r0]
 (.call ⟨[],[]⟩ [] 15 75 [r1]
 (.call ⟨[(7,bZ),(6,cK)],[]⟩ [] 18 76 [cK,bZ]
 (.chk (aC cR (pi 0))
 (.call ⟨[],[]⟩ [] 32 77 [Pc,(.mk [ph,(.ai .quo .u64 r6 cR)]),(.mk [ph,(.ai .quo .u64 r7 cR)])]
 (.ret (.tup [(.mk [(pc (.setc o4 0 (.tget ku 0)) 0),(pc (.setc o4 0 (.tget ku 0)) 1)]),(.tget ku 1)]))))))))
def akI:FB.map told=some (Q8,[]):=by kernel_rfl
def anP:tree (ab FB)=Q8:=aD akI
def Mj:Option PC:=cF [2] [] Tryz.f75 75 []
def acx:PT:=
 (.ite (aj r0 (pi 0))
 (.ret (.ai .sub .u64 ph (.conv .u64 r0)))
 (.ret (.conv .u64 r0)))
def akJ:Mj.map told=some (acx,[]):=by kernel_rfl
def aFZ:tree (ab Mj)=acx:=aD akJ
def Cb:Option PC:=cF [4,0,1] [] Tryz.f76 76 []
def SS:Nat->PC:=aV Cb
def ayx:PC:=.block 0 [0,1,5,6] [] (.loop [0,1] [] (b 0))
def Qc (b:Nat->PC):PT:=
 (.ite (aC r1 ph)
 (.chk (aC r1 (pi 0))
 (.next ⟨[(0,r1),(1,(.ai .rem .u64 r0 r1))],[]⟩))
 (.exit 0 ⟨[(5,r1),(6,(aC r1 ph))],[]⟩))
def acy:PT:=
 (.brk ⟨[],[]⟩
(ayx b)
 (.ret r0))
def as7:PT×List (Shp×PT):=(acy b,[(.lp 0 [0,1,5,6] [] [0,1] [],Qc b)])
def WX:Cb.map told=some (as7 (aU Cb)):=by kernel_rfl
def aF0:tree (ab Cb)=acy SS:=bk WX
def am1:round 0 [0,1,5,6] [] [0,1] [] (SS 0)=Qc SS:=aQ WX 0 λ_=>rfl
def Ml:Option PC:=cF [7,8] [] Tryz.f77 77 [4,5,6]
def acz:PT:=
 (.ite (.pick (.pick (.pick (aS vh ph) pT (aS (pc (.mk [r2]) 0) ph)) pT (aS xS (.con (.v (.int .u64 1152921504606846976))))) pT (aS (pc (.mk [r2]) 1) (.con (.v (.int .u64 1152921504606846976)))))
 (.ret (.tup [XY,(pi 3)]))
 (.ret (.tup [(.mk [(pc alO 0),(pc alO 1)]),(pi 0)])))
def akK:Ml.map told=some (acz,[]):=by kernel_rfl
def aF1:tree (ab Ml)=acz:=aD akK
def K5:Option PC:=cF [8] [] Tryz.f24 24 [7,9,10]
def aaQ:PT:=
 (.call ⟨[],[(7,(.mk [r3]))]⟩ [] 14 23 [r0,r1]
 (.call ⟨[],[]⟩ [] 20 10 [(ar 8 (.setc Pk 0 (.tget cn 0))),(pi 0),(ar 19 (.setc ja 0 (.tget cn 1))),(pi 0),r2]
 (.ret (.an (ae (pc dt 0) (pc (ar 7 o7) 0)) (.an (ae (pc dt 1) (pc (ar 7 o7) 1)) (.an (ae (pc dt 2) (pc (ar 7 o7) 2)) (.an (ae (pc dt 3) (pc (ar 7 o7) 3)) (.an (ae (pc dt 4) (pc (ar 7 o7) 4)) (.an (ae (pc dt 5) (pc (ar 7 o7) 5)) (.an (ae (pc dt 6) (pc (ar 7 o7) 6)) pT))))))))))
def ajz:K5.map told=some (aaQ,[]):=by kernel_rfl
def aD3:tree (ab K5)=aaQ:=aD ajz
def Bj:Option PC:=cF [13,15,16,18] [] Tryz.f10 10 [5,7,10,11,12,14,17,20]
def Ko:Nat->PC:=aV Bj
def aif:PC:=.block 0 [116,117] [14] (.loop [116] [14] (b 0))
def PJ (b:Nat->PC):PT:=
 (.ite (aj AH amg)
 (.chk (ao Px AH)
 (.next ⟨[(116,(ay AH (pi 1)))],[(14,(.pick (.pick (ae (pc (.setc z9 0 (pn Px AH)) 0) (pi 4)) pT (ae (pc (.setc z9 0 (pn Px AH)) 0) (pi 5))) (.setc lO 2 (.mn jb (ay (pc lO 2) (pc (.setc z9 0 (pn Px AH)) 5)))) lO))]⟩))
 (.exit 0 ⟨[(117,(aj AH amg))],[]⟩))
def aac:PT:=
 (.call ⟨[],[(10,z7),(7,(.mk [r2])),(5,(.mk [r0]))]⟩ [] 23 29 [xI,r4]
 (.call ⟨[],[(11,(.setc ja 0 fa))]⟩ [] 30 30 [(ar 8 o5),r1,(ar 19 o7),r3,r4]
 (.ite (.pick (.pick (.nt (.tget jC 1)) pT (aj r3 (pi 0))) pT (aN r3 (.llen (pc dK 15))))
 (.ret (ar 7 (.setc bP 0 (.mk [(pi 0),(pi 0),(pi 0),(pi 0),(pi 0),(pi 0),(pi 0)]))))
 (.call ⟨[],[(14,(.setc z7 0 (.mk [(pc (.setc xO 0 (.tget jC 0)) 5),(pi 0),(pi 0),(pi 0),(pi 0),(pi 0),(pc o7 4)])))]⟩ [] 57 31 [(ar 8 o5),r1,(ar 19 o7),r4]
 (.iteS ⟨[(16,(.mn r4 (pi 100000))),(15,vz)],[(17,(.setc HP 0 (.mk [(ar 19 o7),r3,r3,(pi (-1)),vz,r4])))]⟩ (.pick (aC vz (pi (-1))) (aY vz (.mn r4 (pi 100000))) pF) [] [14]
 (.iteS ⟨[(18,(pc o7 12))],[]⟩ (ae (pc o7 12) (pi 0)) [18] []
 (.call ⟨[],[]⟩ [] 81 33 [(ar 8 o5),r1,(pi 16),(ar 24 rp)]
 (.call ⟨[],[]⟩ [] 82 32 [vB]
 (.next ⟨[(18,(.mn (pi 1000) (.mx (pi 0) kY)))],[]⟩)))
 (.next ⟨[],[]⟩)
 (.call ⟨[],[]⟩ [] 90 34 [(pc lO 0),cR,bZ,cq]
 (.call ⟨[],[(14,(.setc lO 1 H8))]⟩ [] 95 33 [(ar 8 o5),r1,(pi 17),(ar 24 rp)]
 (.call ⟨[],[]⟩ [] 96 35 [r95]
 (.iteS ⟨[],[]⟩ (ae PG (pi 1)) [] [14]
 (.chk (ao (pc dK 15) r3)
 (.call ⟨[],[]⟩ [] 111 36 [(ar 8 o5),(ar 15 o7),(pc (pn (pc dK 15) r3) 2),(pc lO 0),bZ,cq]
 (.next ⟨[],[(14,(.setc lO 3 aA8))]⟩)))
 (.next ⟨[],[]⟩)
 (.next ⟨[],[]⟩))))))
 (.next ⟨[],[]⟩)
 (.brk ⟨[(116,(pi 0)),(115,(.llen (pc dK 17))),(114,(pc dK 17))],[]⟩
(aif b)
 (.ret (ar 7 (.setc bP 0 (ar 7 (.setc lO 5 (.mn jb (ay (ay (ay (pc lO 0) (pc lO 1)) (pc lO 2)) (pc lO 3))))))))))))))
def ar9:PT×List (Shp×PT):=(aac b,[(.lp 0 [116,117] [14] [116] [14],PJ b)])
def Wd:Bj.map told=some (ar9 (aU Bj)):=by kernel_rfl
def aDm:tree (ab Bj)=aac Ko:=bk Wd
def amH:round 0 [116,117] [14] [116] [14] (Ko 0)=PJ Ko:=aQ Wd 0 λ_=>rfl
def Cl:Option PC:=cF [] [] Tryz.f29 29 [2,4,5,65541,69637,73733,77829,7,31,9,49,11,13]
def uk:Nat->PC:=aV Cl
def ayN:PC:=.block 0 [20,21] [65541,5] (.loop [20] [65541,5] (b 0))
def ayO:PC:=.block 2 [38,39] [73733,5] (.loop [38] [73733,5] (b 1))
def ayP:PC:=.block 4 [56,57] [5,69637] (.loop [56] [5,69637] (b 2))
def ayQ:PC:=.block 6 [76,77] [5,77829] (.loop [76] [5,77829] (b 3))
def I5 (b:Nat->PC):PT:=
 (.ite (aj dt gK)
 (.chk (ao cR dt)
 (.ite (aS (pc (.setc z9 0 (pn cR dt)) 6) r1)
 (.exit 0 ⟨[(21,(aj dt gK))],[]⟩)
 (.chk (aY (.llen (.app (.o 65541) (.lst [(ar 9 (.setc z9 0 (pn cR dt)))]))) cJ)
 (.next ⟨[(20,(ay dt (pi 1)))],[(65541,(.app (.o 65541) (.lst [(ar 9 (.setc z9 0 (pn cR dt)))]))),(5,(.setc o5 15 pN))]⟩))))
 (.exit 0 ⟨[(21,(aj dt gK))],[]⟩))
def I6 (b:Nat->PC):PT:=
 (.ite (aj jW kW)
 (.chk (ao fM jW)
 (.ite (aS (pc (.setc z9 0 (pn fM jW)) 6) r1)
 (.exit 2 ⟨[(39,(aj jW kW))],[]⟩)
 (.chk (aY (.llen (.app (.o 73733) (.lst [(ar 9 (.setc z9 0 (pn fM jW)))]))) cJ)
 (.next ⟨[(38,(ay jW (pi 1)))],[(73733,(.app (.o 73733) (.lst [(ar 9 (.setc z9 0 (pn fM jW)))]))),(5,(.setc o5 17 pN))]⟩))))
 (.exit 2 ⟨[(39,(aj jW kW))],[]⟩))
def I7 (b:Nat->PC):PT:=
 (.ite (aj tq tp)
 (.chk (ao rE tq)
 (.ite (aY (pc (.setc z2 0 (pn rE tq)) 0) (.llen (.o 65541)))
 (.chk (aY (.llen alS) cJ)
 (.next ⟨[(56,(ay tq (pi 1)))],[(5,(.setc o5 16 pN)),(69637,alS)]⟩))
 (.next ⟨[(56,(ay tq (pi 1)))],[]⟩)))
 (.exit 4 ⟨[(57,(aj tq tp))],[]⟩))
def I8 (b:Nat->PC):PT:=
 (.ite (aj vA H6)
 (.blockS ⟨[],[]⟩ 7 [13,78,79,80,81,82,83,84,85] [13,77829,5]
 (.chk (ao Yl vA)
 (.call ⟨[],[(13,(.setc z3 0 (pn Yl vA)))]⟩ [] 85 80 [(pc (.setc z3 0 (pn Yl vA)) 1),(.llen (.o 65541))]
 (.ite H7
 (.chk (aY (.llen (.app (.o 77829) (.lst [(.mk [(pc kp 0),(pc kp 1),(pc kp 2)])]))) cJ)
 (.next ⟨[],[(77829,(.app (.o 77829) (.lst [(.mk [(pc kp 0),(pc kp 1),(pc kp 2)])]))),(5,(.setc o5 18 pN))]⟩))
 (.next ⟨[],[]⟩))))
 (.next ⟨[(76,(ay vA (pi 1)))],[]⟩))
 (.exit 6 ⟨[(77,(aj vA H6))],[]⟩))
def acQ:PT:=
 (.brk ⟨[(20,(pi 0)),(19,(.llen pk)),(18,pk)],[(77829,pL),(73733,pL),(69637,pL),(65541,pL),(5,(.setc ja 0 (.mk [(ar 15 (.mk [r0])),pL,pL,pL,pL]))),(4,ja),(2,(.mk [r0]))]⟩
(ayN b)
 (.brk ⟨[(38,(pi 0)),(37,(.llen (pc o2 17))),(36,(pc o2 17))],[]⟩
(ayO b)
 (.brk ⟨[(56,(pi 0)),(55,AE),(54,(pc o2 16))],[]⟩
(ayP b)
 (.brk ⟨[(76,(pi 0)),(75,(.llen (pc o2 18))),(74,(pc o2 18))],[]⟩
(ayQ b)
 (.ret (ar 19 (.setc o4 0 (.mk [(pc o5 0),(pc o5 1),(pc o5 2),(pc o5 3),(pc o5 4),(pc o5 5),(pc o5 6),(pc o5 7),(pc o5 8),(pc o5 9),(pc o5 10),(pc o5 11),(pc o5 12),(pc o5 13),(pc o5 14),(.o 65541),(.o 69637),(.o 73733),(.o 77829)]))))))))
def ati:PT×List (Shp×PT):=(acQ b,[(.lp 0 [20,21] [65541,5] [20] [65541,5],I5 b),(.lp 2 [38,39] [73733,5] [38] [73733,5],I6 b),(.lp 4 [56,57] [5,69637] [56] [5,69637],I7 b),(.lp 6 [76,77] [5,77829] [76] [5,77829],I8 b)])
def DN:Cl.map told=some (ati (aU Cl)):=by kernel_rfl
def aGi:tree (ab Cl)=acQ uk:=bk DN
def Zt:round 0 [20,21] [65541,5] [20] [65541,5] (uk 0)=I5 uk:=aQ DN 0 λ_=>rfl
def Zu:round 2 [38,39] [73733,5] [38] [73733,5] (uk 1)=I6 uk:=aQ DN 1 λ_=>rfl
def Zv:round 4 [56,57] [5,69637] [56] [5,69637] (uk 2)=I7 uk:=aQ DN 2 λ_=>rfl
def Zw:round 6 [76,77] [5,77829] [76] [5,77829] (uk 3)=I8 uk:=aQ DN 3 λ_=>rfl
def Mv:Option PC:=cF [4] [] Tryz.f80 80 []
def acV:PT:=
 (.ret (.pick vj (aj r0 r1) pF))
def akU:Mv.map told=some (acV,[]):=by kernel_rfl
def aGo:tree (ab Mv)=acV:=aD akU
def KK:Option PC:=cF [11] [] Tryz.f30 30 [5,7,10,12]
def aaq:PT:=
 (.call ⟨[],[(10,xO)]⟩ [] 17 73 [fU,r1,xI,r4]
 (.ite (.pick (aj r3 (pi 0)) pT (aN r3 (.llen (pc (.setc XS 0 dR) 25))))
 (.ret (.tup [(ar 7 (.setc bP 0 (.mk [(pi 0),(pi 0),(pi 0),(pi 0),(pi 0),(pi 0),pF]))),pF]))
 (.call ⟨[],[]⟩ [] 31 74 [(ar 31 (.setc XS 0 dR)),r3]
 (.ret (.tup [(ar 7 (.setc bP 0 g9)),pT])))))
def ajc:KK.map told=some (aaq,[]):=by kernel_rfl
def aDB:tree (ab KK)=aaq:=aD ajc
def KL:Option PC:=cF [] [] Tryz.f73 73 [4,6,8,9]
def aas:PT:=
 (.call ⟨[],[(8,XS),(4,(.mk [r0]))]⟩ [] 12 29 [xI,r3]
 (.call ⟨[(16,(ar 19 (.setc ja 0 bK))),(15,r3),(14,r1),(13,(ar 8 o4))],[(9,(.setc ja 0 bK))]⟩ [] 21 81 [(ar 8 o4),r1,(pi 0),(ar 19 (.setc ja 0 bK)),r3]
 (.call ⟨[],[]⟩ [] 22 35 [fE]
 (.call ⟨[],[]⟩ [] 27 31 [(ar 8 o4),r1,(ar 19 o9),r3]
 (.ret (ar 31 (.setc o8 0 (.mk [cK,cn,bZ,cq,jB,eP]))))))))
def ajd:KL.map told=some (aas,[]):=by kernel_rfl
def aDD:tree (ab KL)=aas:=aD ajd
def KC:Option PC:=cF [] [] Tryz.f81 81 [5,8,77832,10]
def aaj:PT:=
 (.call ⟨[],[(10,vm)]⟩ [] 18 33 [fU,r1,r2,alW]
 (.ret (ar 5 (.setc bP 0 cR))))
def ai4:KC.map told=some (aaj,[]):=by kernel_rfl
def aDt:tree (ab KC)=aaj:=aD ai4
def KB:Option PC:=cF [10] [] Tryz.f33 33 [4,7,8,9]
def aai:PT:=
 (.call ⟨[],[(8,vm),(4,(.mk [r0]))]⟩ [] 16 84 [fU,r1,r2,(ar 24 (.mk [r3]))]
 (.iteS ⟨[(10,(.tget cq 1))],[(9,(.setc vm 0 (.tget cq 0)))]⟩ (aC (pc (.setc vm 0 (.tget cq 0)) 2) (pi (-1))) [] [9]
 (.chk (ao (pc o4 4) (pc o9 2))
 (.call ⟨[],[]⟩ [] 31 85 [(pn (pc o4 4) (pc o9 2)),r2,aZ]
 (.next ⟨[],[(9,(.setc (.setc o9 0 (.tget g9 0)) 4 (.tget g9 1)))]⟩)))
 (.next ⟨[],[]⟩)
 (.ret (ar 5 (.setc o8 0 (ar 5 o9))))))
def ai3:KB.map told=some (aai,[]):=by kernel_rfl
def aDs:tree (ab KB)=aai:=aD ai3
def KG:Option PC:=cF [9,11,12,13,14] [] Tryz.f84 84 [4,7,8,10,16394]
def aan:PT:=
 (.call ⟨[],[(16394,pL),(10,(.setc vm 0 (.mk [cN,(pi (-1)),pL,(pi 1)]))),(8,vm),(7,(.mk [r3])),(4,(.mk [r0]))]⟩ [] 19 126 [fU,(ar 24 (.mk [r3]))]
 (.ite (ae (.llen (.tget gK 1)) (pi 0))
 (.ret (.tup [X1,pL]))
 (.call ⟨[(11,(.tget gK 1))],[(7,(.setc o7 0 (.tget gK 0)))]⟩ [] 28 127 [r2]
 (.ite (.nt (.tget mE 1))
 (.ret (.tup [X1,pL]))
 (.call ⟨[],[]⟩ [] 37 128 [(ar 8 o4),r1,(ar 24 o7)]
 (.ite (ae (.llen kW) (pi 0))
 (.ret (.tup [X1,pL]))
 (.call ⟨[],[]⟩ [] 46 129 [(ar 8 o4),r1,r2,kW]
 (.ite (ae (pc AG 4) (pi 0))
 (.chk (ao (pc AG 3) (aO (.llen (pc AG 3)) (pi 1)))
 (.ret (.tup [(ar 5 (.setc o8 0 (ar 5 (.setc AG 2 (pn (pc AG 3) (aO (.llen (pc AG 3)) (pi 1))))))),bJ])))
 (.ret (.tup [(ar 5 (.setc o8 0 (ar 5 AG))),bJ]))))))))))
def ai8:KG.map told=some (aan,[]):=by kernel_rfl
def aDx:tree (ab KG)=aan:=aD ai8
def KH:Option PC:=cF [5] [] Tryz.f126 126 [2,3,4]
def aao:PT:=
 (.call ⟨[],[(4,HP),(3,(.mk [r1])),(2,(.mk [r0]))]⟩ [] 10 29 [(ar 19 (.mk [r1])),(pc (.mk [r1]) 23)]
 (.call ⟨[(12,(ar 24 (.setc o3 0 aZ)))],[]⟩ [] 15 184 [(ar 8 o2),(ar 24 (.setc o3 0 aZ))]
 (.ret (.tup [(ar 24 (.setc o4 0 bK)),bZ]))))
def ai9:KH.map told=some (aao,[]):=by kernel_rfl
def aDy:tree (ab KH)=aao:=aD ai9
def Co:Option PC:=cF [4,7,9,11,12,13,14,15,16] [] Tryz.f184 184 [2,3,5,6,8,10,90,139]
def Fl:Nat->PC:=aV Co
def azc:PC:=.meach 90 [94,95,11,12] [0,1,0,1] [10] (b 0)
def azd:PC:=.meach 139 [143,144,15,16] [0,1,0,1] [10] (b 1)
def Zz (b:Nat->PC):PT:=
 (.chk (ao bP bJ)
 (.next ⟨[],[(10,(.setn bP bJ 0 (.mk [pT,bK])))]⟩))
def ZA (b:Nat->PC):PT:=
 (.blockS ⟨[],[]⟩ 3 [145,146,147,148,149] [10]
 (.call ⟨[(146,bZ)],[]⟩ [] 148 219 [cq]
 (.chk (ao bP (.r 146))
 (.next ⟨[],[(10,(.setn bP (.r 146) 0 (.r 148)))]⟩)))
 (.next ⟨[],[]⟩))
def yq:PT:=
 (.call ⟨[(7,(.mx (pc (.mk [r1]) 20) (pi 0)))],[(6,(.setc Ri 0 (ar 15 (.mk [r1])))),(5,xQ),(3,(.mk [r1])),(2,(.mk [r0]))]⟩ [] 30 80 [(pc (.mk [r1]) 19),(.llen (pc xQ 15))]
 (.call ⟨[(48,HQ),(44,(.pick (.pick (.nt jC) pT (aj (pc o3 20) (pi (-1)))) pT (aN r7 (.llen (pc o5 15)))))],[]⟩ [(48,true),(44,false)] 51 80 [(pc o3 22),(pi 100001)]
 (.ite (.pick rD pT (.pick hZ (.nt qt) pF))
 (.ret pL)
 (.chk (ao (pc o5 15) (pc o3 19))
 (.call ⟨[],[(8,(.setc z9 0 (pn (pc o5 15) (pc o3 19))))]⟩ [] 63 80 [(pc (.setc z9 0 (pn (pc o5 15) (pc o3 19))) 6),(pi 100001)]
 (.ite (.nt DY)
 (.ret pL)
 (.chk (.an (aN (pi 20) (pi 0)) (aY (pi 20) cJ))
 (.chk (ae (pi 20) (pi 20))
 (.chk (aj (.mlen (.con (.map []))) cJ)
 (.chk (aj (.mlen (.put (.con (.map [])) (pi 0) (pc o6 3))) cJ)
 (.chk (aj (.mlen (.put (.put (.con (.map [])) (pi 0) (pc o6 3)) (pi 1) (pc o6 14))) cJ)
 (.chk (aj (.mlen XT) cJ)
 (.chk (aj (.mlen (.put XT (pi 3) (pc o6 12))) cJ)
 (.chk (aj (.mlen XN) cJ)
 (.chk (aj (.mlen (.put XN (pi 5) (pc o3 21))) cJ)
 (.blockS ⟨[(10,pN),(9,(.pick HQ (aO (pc o8 6) (pc o3 22)) (pi 0)))],[(90,(.tup [(.lst []),(.put (.put XN (pi 5) (pc o3 21)) (pi 6) (.pick HQ (aO (pc o8 6) (pc o3 22)) (pi 0)))])),(10,(.rep (pi 20) cN))]⟩ 0 [] [10]
 (.brk ⟨[],[]⟩
(azc b)
 (.exit 0 ⟨[],[]⟩))
 (.call ⟨[],[(3,(ar 24 o3))]⟩ [] 104 217 [(pc o5 16),(.clo 218 [(.ref (ar 24 o3))])]
 (.call ⟨[(13,ame)],[]⟩ [] 108 181 [(ar 8 o2),(pc o6 9)]
 (.call ⟨[],[]⟩ [] 112 181 [(ar 8 o2),(pc o6 10)]
 (.chk (aj (.mlen (.con (.map []))) cJ)
 (.chk (aj (.mlen X2) cJ)
 (.chk (aj (.mlen (.put X2 (pi 8) (ae (pc o6 2) (pi (-1))))) cJ)
 (.chk (aj (.mlen (.put (.put X2 (pi 8) (ae (pc o6 2) (pi (-1)))) (pi 9) (aC (.ai .and .i64 (pc o6 13) (pi 4)) (pi 0)))) cJ)
 (.chk (aj (.mlen Pg) cJ)
 (.chk (aj (.mlen (.put Pg (pi 11) (aC H3 H4))) cJ)
 (.chk (aj (.mlen (.put (.put Pg (pi 11) (aC H3 H4)) (pi 12) cK)) cJ)
 (.chk (aj (.mlen alN) cJ)
 (.blockS ⟨[],[(139,(.tup [(.lst []),(.put alN (pi 14) (aS r9 (pi 0)))]))]⟩ 2 [] [10]
 (.brk ⟨[],[]⟩
(azd b)
 (.exit 2 ⟨[],[]⟩))
 (.call ⟨[],[]⟩ [] 154 220 [(ar 19 o5),(pi 0),(pc o3 19)]
 (.chk (ao bP (pi 15))
 (.call ⟨[],[(10,(.setn bP (pi 15) 0 (.r 154)))]⟩ [] 160 220 [(ar 19 o5),(pi 1),(pc o3 19)]
 (.chk (ao bP (pi 16))
 (.call ⟨[],[(10,(.setn bP (pi 16) 0 (.r 160)))]⟩ [] 166 220 [(ar 19 o5),(pi 2),(pc o3 19)]
 (.chk (ao bP (pi 17))
 (.call ⟨[],[(10,(.setn bP (pi 17) 0 (.r 166)))]⟩ [] 171 220 [(ar 19 o5),(pi 3),r7]
 (.chk (ao bP (pi 18))
 (.call ⟨[],[(10,(.setn bP (pi 18) 0 (.r 171)))]⟩ [] 176 220 [(ar 19 o5),(pi 4),r7]
 (.chk (ao bP (pi 19))
 (.ret (.setn bP (pi 19) 0 (.r 176)))))))))))))))))))))))))))))))))))))))))
def atl:PT×List (Shp×PT):=(yq b,[(.ea [10],Zz b),(.ea [10],ZA b)])
def OR:Co.map told=some (atl (aU Co)):=by kernel_rfl
def aGm:tree (ab Co)=yq Fl:=bk OR
def aBS:rL [10] (Fl 0)=Zz Fl:=aab OR 0 λ_=>rfl
def aBT:rL [10] (Fl 1)=ZA Fl:=aab OR 1 λ_=>rfl
def Mt:Option PC:=cF [3] [] Tryz.f218 218 [2]
def acT:PT:=
 (.ret (aY fL (pc (.deref r1) 19)))
def akS:Mt.map told=some (acT,[]):=by kernel_rfl
def aGl:tree (ab Mt)=acT:=aD akS
def Mw:Option PC:=cF [4] [] Tryz.f217 217 []
def acX:PT:=
 (.call ⟨[],[]⟩ [] 7 246 [r0,r1]
 (.ret (aN r7 (pi 0))))
def akV:Mw.map told=some (acX,[]):=by kernel_rfl
def aGq:tree (ab Mw)=acX:=aD akV
def Cq:Option PC:=cF [4,5] [] Tryz.f246 246 []
def S5:Nat->PC:=aV Cq
def ayW:PC:=.block 0 [4,8,9] [] (.loop [4,8] [] (b 0))
def Jc (b:Nat->PC):PT:=
 (.ite (aj r8 r7)
 (.blockS ⟨[],[]⟩ 1 [4,5,10,11,12,13,14,15,16] []
 (.chk (ao r0 r8)
 (.callc ⟨[(5,r8)],[]⟩ [] 16 r1 [(pn r0 r8)]
 (.ite cq
 (.ret r5)
 (.next ⟨[],[]⟩))))
 (.next ⟨[(8,pv)],[]⟩))
 (.exit 0 ⟨[(9,(aj r8 r7))],[]⟩))
def ac1:PT:=
 (.brk ⟨[(8,(pi 0)),(7,(.llen r0)),(4,(pi 0))],[]⟩
(ayW b)
 (.ret (pi (-1))))
def atn:PT×List (Shp×PT):=(ac1 b,[(.lp 0 [4,8,9] [] [4,8] [],Jc b)])
def W6:Cq.map told=some (atn (aU Cq)):=by kernel_rfl
def aGu:tree (ab Cq)=ac1 S5:=bk W6
def ZB:round 0 [4,8,9] [] [4,8] [] (S5 0)=Jc S5:=aQ W6 0 λ_=>rfl
def Mq:Option PC:=cF [4] [] Tryz.f181 181 [2]
def acF:PT:=
 (.call ⟨[],[(2,(.mk [r0]))]⟩ [] 9 57 [r1,(.llen gJ)]
 (.ite (.nt r9)
 (.ret (pi (-1)))
 (.chk (ao (pc o2 1) r1)
 (.ret (pc (pn (pc o2 1) r1) 1)))))
def akP:Mq.map told=some (acF,[]):=by kernel_rfl
def aF7:tree (ab Mq)=acF:=aD akP
def Mr:Option PC:=cF [4] [] Tryz.f57 57 []
def acI:PT:=
 (.ret (.pick vj (aj r0 r1) pF))
def akQ:Mr.map told=some (acI,[]):=by kernel_rfl
def aGa:tree (ab Mr)=acI:=aD akQ
def Mu:Option PC:=cF [] [] Tryz.f219 219 [2]
def acU:PT:=
 (.ite r0
 (.ret XZ)
 (.ret X0))
def akT:Mu.map told=some (acU,[]):=by kernel_rfl
def aGn:tree (ab Mu)=acU:=aD akT
def Cm:Option PC:=cF [] [] Tryz.f220 220 [3,6,8]
def S4:Nat->PC:=aV Cm
def ayR:PC:=.block 0 [12,13] [6] (.loop [12] [6] (b 0))
def I9 (b:Nat->PC):PT:=
 (.ite (aj bK bJ)
 (.blockS ⟨[],[]⟩ 1 [8,14,15,16,17,18,19,20,25] [8,6]
 (.chk (ao aZ bK)
 (.iteS ⟨[],[(8,(.setc z3 0 (pn aZ bK)))]⟩ (.pick (ae (pc (.setc z3 0 (pn aZ bK)) 0) r1) (ae (pc (.setc z3 0 (pn aZ bK)) 1) r2) pF) [] [6]
 (.call ⟨[],[]⟩ [] 29 219 [(aC (pc o8 2) (pi 0))]
 (.ret (.mk [(pc (.setc o6 0 lV) 0),(pc (.setc o6 0 lV) 1)])))
 (.next ⟨[],[]⟩)
 (.next ⟨[],[]⟩)))
 (.next ⟨[(12,(ay bK (pi 1)))],[]⟩))
 (.exit 0 ⟨[(13,(aj bK bJ))],[]⟩))
def acR:PT:=
 (.brk ⟨[(12,(pi 0)),(11,(.llen (pc (.mk [r0]) 18))),(10,(pc (.mk [r0]) 18))],[(6,cN)]⟩
(ayR b)
 (.ret Pn))
def atj:PT×List (Shp×PT):=(acR b,[(.lp 0 [12,13] [6] [12] [6],I9 b)])
def W5:Cm.map told=some (atj (aU Cm)):=by kernel_rfl
def aGj:tree (ab Cm)=acR S4:=bk W5
def Zx:round 0 [12,13] [6] [12] [6] (S4 0)=I9 S4:=aQ W5 0 λ_=>rfl
def K9:Option PC:=cF [2,3,4,11] [] Tryz.f127 127 []
def aaV:PT:=
 (.blockS ⟨[],[]⟩ 0 [2,3,4,5,6,7,10,11,12,13,14] []
 (.iteS ⟨[],[]⟩ (.pick (aj r0 (pi 0)) pT (aN r0 (pi 22))) [2,3,11,12,13,14] []
 (.ret (.tup [(pi 0),pF]))
 (.call ⟨[],[]⟩ [] 14 185 [(.lst [(pc tc 0),(pc tc 1),(pc tc 2),(pc tc 3),(pc tc 4),(pc tc 5),(pc tc 6),(pc tc 7),(pc tc 8),(pc tc 9)]),r0]
 (.ite cn
 (.ret (.tup [(pi 0),pT]))
 (.next ⟨[],[]⟩)))
 (.next ⟨[],[]⟩))
 (.ret (.tup [(pi 1),pT])))
def ajE:K9.map told=some (aaV,[]):=by kernel_rfl
def aD8:tree (ab K9)=aaV:=aD ajE
def My:Option PC:=cF [4] [] Tryz.f185 185 []
def acZ:PT:=
 (.call ⟨[],[]⟩ [] 7 221 [r0,r1]
 (.ret (aN r7 (pi 0))))
def akX:My.map told=some (acZ,[]):=by kernel_rfl
def aGs:tree (ab My)=acZ:=aD akX
def Ct:Option PC:=cF [4,5] [] Tryz.f221 221 []
def S8:Nat->PC:=aV Ct
def ayZ:PC:=.block 0 [4,8,9] [] (.loop [4,8] [] (b 0))
def Jf (b:Nat->PC):PT:=
 (.ite (aj r8 r7)
 (.chk (ao r0 r8)
 (.ite (ae r1 (pn r0 r8))
 (.ret r8)
 (.next ⟨[(8,pv)],[]⟩)))
 (.exit 0 ⟨[(9,(aj r8 r7))],[]⟩))
def ac4:PT:=
 (.brk ⟨[(8,(pi 0)),(7,(.llen r0)),(4,(pi 0))],[]⟩
(ayZ b)
 (.ret (pi (-1))))
def atq:PT×List (Shp×PT):=(ac4 b,[(.lp 0 [4,8,9] [] [4,8] [],Jf b)])
def W9:Ct.map told=some (atq (aU Ct)):=by kernel_rfl
def aGx:tree (ab Ct)=ac4 S8:=bk W9
def ZE:round 0 [4,8,9] [] [4,8] [] (S8 0)=Jf S8:=aQ W9 0 λ_=>rfl
def Bp:Option PC:=cF [8,9,11,12,13,14,55,70] [] Tryz.f129 129 [4,10,53]
def Se:Nat->PC:=aV Bp
def axw:PC:=.block 0 [] [] (.loop [8,9,10] [10] (b 0))
def Yy (b:Nat->PC):PT:=
 (.blockS ⟨[],[]⟩ 1 [8,9,10,11,12,13,14,32,33,35,36,37,38,39,40,41,42,43,44,45,46,49,50,52,53,54,55,56,57,58,68,70,71] [53,10]
 (.chk (ao bP (aO (.llen bP) (pi 1)))
 (.call ⟨[(11,(pn bP (aO (.llen bP) (pi 1))))],[]⟩ [] 41 187 [(ar 8 o4),(pn bP (aO (.llen bP) (pi 1))),r2,r3]
 (.ite (ae (.tget mF 0) bJ)
 (.ret (.tup [bP,(pi 0)]))
 (.call ⟨[(13,(.tget mF 1)),(12,(.tget mF 0))],[]⟩ [] 50 185 [bP,(.tget mF 0)]
 (.chk (aY (.llen (.app bP (.lst [bK]))) cJ)
 (.chk (.nt (.an (.an nw (.an (.nt (.nt cK)) pT)) (.nt (ao (pc o4 4) bK))))
 (.ite (.pick (.nt cK) pT (.pick nw (pc (pn (pc o4 4) bK) 1) pF))
 (.ret (.tup [(.app bP (.lst [bK])),(pi 0)]))
 (.ite nw
 (.ret (.tup [(.app bP (.lst [bK])),(pi 12)]))
 (.next ⟨[(10,pN)],[(10,(.app bP (.lst [bK])))]⟩)))))))))
 (.next ⟨[],[]⟩))
def aaJ:PT:=
 (.call ⟨[(9,(pi 0)),(8,pL)],[(4,(.mk [r0]))]⟩ [] 19 186 [fU,r1,r2,r3]
 (.chk (.nt (.an (.an (.nt (.nt gK)) pT) (.nt (ao r3 (pi 0)))))
 (.ite (.pick (.nt gK) pT (aC (pn r3 (pi 0)) r1))
 (.ret (.tup [pL,(pi 1)]))
 (.brk ⟨[(10,pN)],[(10,(.lst [r1]))]⟩
(axw b)
 (.next ⟨[],[]⟩)))))
def ash:PT×List (Shp×PT):=(aaJ b,[(.lp 0 [] [] [8,9,10] [10],Yy b)])
def Wk:Bp.map told=some (ash (aU Bp)):=by kernel_rfl
def aDV:tree (ab Bp)=aaJ Se:=bk Wk
def aBP:round 0 [] [] [8,9,10] [10] (Se 0)=Yy Se:=aQ Wk 0 λ_=>rfl
def KY:Option PC:=cF [8] [] Tryz.f186 186 [4,9]
def yn:PT:=
 (.ite (.pick (.pick (.pick (.pick (aj r1 (pi 0)) pT (aN r1 (pc (.setc (.con (.agg [(.int 0)])) 0 (.llen xK)) 0))) pT (aj r2 (pi 0))) pT (aN r2 (pi 22))) pT (aC (.llen r3) (pi 5)))
 (.ret pF)
 (.call ⟨[],[]⟩ [] 35 222 [r3,(.clo 223 [(.ref (pc (.setc (.con (.agg [(.int 0)])) 0 (.llen xK)) 0))])]
 (.ret (.nt hH))))
def ajt:KY.map told=some (yn,[]):=by kernel_rfl
def aDY:tree (ab KY)=yn:=aD ajt
def KZ:Option PC:=cF [3] [] Tryz.f223 223 []
def aaL:PT:=
 (.ret (.pick (aj r0 (pi 0)) pT (aN r0 (.deref r1))))
def aju:KZ.map told=some (aaL,[]):=by kernel_rfl
def aDX:tree (ab KZ)=aaL:=aD aju
def Mx:Option PC:=cF [4] [] Tryz.f222 222 []
def acY:PT:=
 (.call ⟨[],[]⟩ [] 7 247 [r0,r1]
 (.ret (aN r7 (pi 0))))
def akW:Mx.map told=some (acY,[]):=by kernel_rfl
def aGr:tree (ab Mx)=acY:=aD akW
def Cs:Option PC:=cF [4,5] [] Tryz.f247 247 []
def S7:Nat->PC:=aV Cs
def ayY:PC:=.block 0 [4,8,9] [] (.loop [4,8] [] (b 0))
def Je (b:Nat->PC):PT:=
 (.ite (aj r8 r7)
 (.blockS ⟨[],[]⟩ 1 [4,5,10,11,12,13,14,15,16] []
 (.chk (ao r0 r8)
 (.callc ⟨[(5,r8)],[]⟩ [] 16 r1 [(pn r0 r8)]
 (.ite cq
 (.ret r5)
 (.next ⟨[],[]⟩))))
 (.next ⟨[(8,pv)],[]⟩))
 (.exit 0 ⟨[(9,(aj r8 r7))],[]⟩))
def ac3:PT:=
 (.brk ⟨[(8,(pi 0)),(7,(.llen r0)),(4,(pi 0))],[]⟩
(ayY b)
 (.ret (pi (-1))))
def atp:PT×List (Shp×PT):=(ac3 b,[(.lp 0 [4,8,9] [] [4,8] [],Je b)])
def W8:Cs.map told=some (atp (aU Cs)):=by kernel_rfl
def aGw:tree (ab Cs)=ac3 S7:=bk W8
def ZD:round 0 [4,8,9] [] [4,8] [] (S7 0)=Je S7:=aQ W8 0 λ_=>rfl
def Bq:Option PC:=cF [8,9] [] Tryz.f187 187 [4,11]
def Sf:Nat->PC:=aV Bq
def axx:PC:=.block 0 [8,9,25,26] [] (.loop [8,9,25] [] (b 0))
def Ig (b:Nat->PC):PT:=
 (.ite (aj dZ mD)
 (.chk (ao fa dZ)
 (.ite (.pick (ae (pc HL 0) r2) (aC (pc HL 1) (pi 0)) pF)
 (.chk (ao r3 (pc HL 1))
 (.ret (.tup [(pn r3 (pc HL 1)),(pc HL 2)])))
 (.next ⟨[(25,(ay dZ (pi 1)))],[]⟩)))
 (.exit 0 ⟨[(26,(aj dZ mD))],[]⟩))
def aaK:PT:=
 (.call ⟨[(9,pF),(8,(pi 0))],[(4,(.mk [r0]))]⟩ [] 16 186 [fU,r1,r2,r3]
 (.ite (.nt cq)
 (.ret (.tup [(pi (-1)),pF]))
 (.chk (ao (pc o4 4) r1)
 (.brk ⟨[(25,(pi 0)),(24,(.llen (pc (pn (pc o4 4) r1) 2))),(23,(pc (pn (pc o4 4) r1) 2))],[]⟩
(axx b)
 (.ret (.tup [r1,pF]))))))
def asi:PT×List (Shp×PT):=(aaK b,[(.lp 0 [8,9,25,26] [] [8,9,25] [],Ig b)])
def Wl:Bq.map told=some (asi (aU Bq)):=by kernel_rfl
def aDW:tree (ab Bq)=aaK Sf:=bk Wl
def Yz:round 0 [8,9,25,26] [] [8,9,25] [] (Sf 0)=Ig Sf:=aQ Wl 0 λ_=>rfl
def K8:Option PC:=cF [7,9,11,12] [] Tryz.f85 85 [3,6,8,10]
def aaU:PT:=
 (.call ⟨[],[(6,cN)]⟩ [] 16 130 [(ar 4 (.mk [r0])),r1]
 (.ite (aC (.tget cq 1) (pi 0))
 (.ret (.tup [Pn,(.tget cq 1)]))
 (.call ⟨[],[]⟩ [] 25 131 [(.mk [(pc (.setc ns 0 (.tget cq 0)) 0),(pc (.setc ns 0 (.tget cq 0)) 1),(pc (.setc ns 0 (.tget cq 0)) 2)]),r2]
 (.call ⟨[],[(10,(.setc cN 0 dZ))]⟩ [] 28 127 [r1]
 (.ret (.tup [(.mk [(pc (.setc o6 0 (.mk [(pc Pj 0),(pc Pj 1)])) 0),(pc (.setc o6 0 (.mk [(pc Pj 0),(pc Pj 1)])) 1)]),(pi 0)]))))))
def ajD:K8.map told=some (aaU,[]):=by kernel_rfl
def aD7:tree (ab K8)=aaU:=aD ajD
def La:Option PC:=cF [5,6,7,8,10,11] [] Tryz.f130 130 [2,3,4,12292,9]
def aaW:PT:=
 (.call ⟨[],[(4,ns),(3,(.mk [r1])),(2,(.mk [r0]))]⟩ [] 14 127 [vh]
 (.ite (.nt (.tget cn 1))
 (.ret (.tup [XX,(pi 1)]))
 (.call ⟨[(6,(.tget cn 0))],[]⟩ [] 23 188 [(pc o2 3),(.clo 189 [(.ref (pc o3 0))])]
 (.ite (aj fa (pi 0))
 (.ret (.tup [XX,(pi 4)]))
 (.chk (ao (pc o2 3) fa)
 (.call ⟨[],[(9,Pu)]⟩ [] 35 190 [(.mk [(pc Pu 0),(pc Pu 1),(pc Pu 2)])]
 (.ite (.pick (aC (.tget hH 1) (pi 0)) pT (aC (.tget hH 0) r6))
 (.ret (.tup [XX,(pi 11)]))
 (.ret (.tup [(.mk [(pc XP 0),(pc XP 1),(pc XP 2)]),(pi 0)])))))))))
def ajF:La.map told=some (aaW,[]):=by kernel_rfl
def aEa:tree (ab La)=aaW:=aD ajF
def Lb:Option PC:=cF [3] [] Tryz.f189 189 [2]
def aaX:PT:=
 (.ret (ae fL (.deref r1)))
def ajG:Lb.map told=some (aaX,[]):=by kernel_rfl
def aD9:tree (ab Lb)=aaX:=aD ajG
def Cr:Option PC:=cF [4,5] [] Tryz.f188 188 []
def S6:Nat->PC:=aV Cr
def ayX:PC:=.block 0 [4,8,9] [] (.loop [4,8] [] (b 0))
def Jd (b:Nat->PC):PT:=
 (.ite (aj r8 r7)
 (.blockS ⟨[],[]⟩ 1 [4,5,10,11,12,13,14,15,16] []
 (.chk (ao r0 r8)
 (.callc ⟨[(5,r8)],[]⟩ [] 16 r1 [(pn r0 r8)]
 (.ite cq
 (.ret r5)
 (.next ⟨[],[]⟩))))
 (.next ⟨[(8,pv)],[]⟩))
 (.exit 0 ⟨[(9,(aj r8 r7))],[]⟩))
def ac2:PT:=
 (.brk ⟨[(8,(pi 0)),(7,(.llen r0)),(4,(pi 0))],[]⟩
(ayX b)
 (.ret (pi (-1))))
def ato:PT×List (Shp×PT):=(ac2 b,[(.lp 0 [4,8,9] [] [4,8] [],Jd b)])
def W7:Cr.map told=some (ato (aU Cr)):=by kernel_rfl
def aGv:tree (ab Cr)=ac2 S6:=bk W7
def ZC:round 0 [4,8,9] [] [4,8] [] (S6 0)=Jd S6:=aQ W7 0 λ_=>rfl
def MD:Option PC:=cF [2,3] [] Tryz.f190 190 [1]
def adf:PT:=
 (.call ⟨[],[(1,(.mk [r0]))]⟩ [] 5 224 [(.mk [fL,gJ,vq]),(pi 1)]
 (.ite (aS r5 (pi 60))
 (.ret (.tup [(pi 0),(pi 6)]))
 (.call ⟨[],[]⟩ [] 8 225 [Pf]
 (.ret (.tup [(.tget r8 0),(.tget r8 1)])))))
def ak5:MD.map told=some (adf,[]):=by kernel_rfl
def aGF:tree (ab MD)=adf:=aD ak5
def za:Option PC:=cF [4,5] [] Tryz.f224 224 [2,7,12295]
def Td:Nat->PC:=aV za
def ay7:PC:=.block 0 [5,13,14] [] (.loop [5,13] [] (b 0))
def Jj (b:Nat->PC):PT:=
 (.ite (aj cK bK)
 (.blockS ⟨[(14,(aj cK bK))],[]⟩ 1 [5,7,15,16,17,18,19,20,21,22,23,24] [7,12295]
 (.chk (ao bJ cK)
 (.call ⟨[(17,r5)],[]⟩ [] 21 224 [(.mk [(pc (.setc ns 0 (pn bJ cK)) 0),(pc (.setc ns 0 (pn bJ cK)) 1),(pc (.setc ns 0 (pn bJ cK)) 2)]),(ay r1 (pi 1))]
 (.ite (aS (ay dR fE) (pi 60))
 (.exit 0 ⟨[(5,(ay dR fE))],[]⟩)
 (.next ⟨[(5,(ay dR fE))],[]⟩))))
 (.next ⟨[(13,(ay cK (pi 1)))],[]⟩))
 (.exit 0 ⟨[(14,(aj cK bK))],[]⟩))
def Ra:PT:=
 (.ite (aS r1 (pi 8))
 (.ret (pi 61))
 (.brk ⟨[(13,(pi 0)),(12,rz),(11,vq),(5,(pi 1))],[]⟩
(ay7 b)
 (.ret r5)))
def atx:PT×List (Shp×PT):=(Ra b,[(.lp 0 [5,13,14] [] [5,13] [],Jj b)])
def Xe:za.map told=some (atx (aU za)):=by kernel_rfl
def anR:tree (ab za)=Ra Td:=bk Xe
def ZJ:round 0 [5,13,14] [] [5,13] [] (Td 0)=Jj Td:=aQ Xe 0 λ_=>rfl
def Cz:Option PC:=cF [2,3,5,7,8,38,47,10,11,12] [] Tryz.f225 225 [1,4,6,12294,9]
def Fp:Nat->PC:=aV Cz
def ay4:PC:=.block 0 [2,3,20,21] [4] (.loop [2,3,20] [4] (b 0))
def ay5:PC:=.block 3 [2,3,10,82,83] [] (.loop [2,3,10,82] [] (b 1))
def Jh (b:Nat->PC):PT:=
 (.ite (aj dt gK)
 (.blockS ⟨[],[]⟩ 1 [2,3,5,6,7,8,22,23,24,25,26,27,28,29,30,31,33,34,35,36] [6,12294,4]
 (.chk (ao cR dt)
 (.call ⟨[(5,dt)],[]⟩ [] 27 225 [(.mk [(pc (.setc ns 0 (pn cR dt)) 0),(pc (.setc ns 0 (pn cR dt)) 1),(pc (.setc ns 0 (pn cR dt)) 2)])]
 (.ite (aC (.tget eP 1) (pi 0))
 (.ret (.tup [(pi 0),(.tget eP 1)]))
 (.chk (ao o4 r5)
 (.next ⟨[],[(4,(.setn o4 r5 0 (.tget eP 0)))]⟩)))))
 (.next ⟨[(20,(ay dt (pi 1)))],[]⟩))
 (.exit 0 ⟨[(21,(aj dt gK))],[]⟩))
def ya (b:Nat->PC):PT:=
 (.ite (aj kY vB)
 (.chk (ao tz kY)
 (.ite (.pick (ae (pn tz kY) (pi (-1))) (ae aZ (pi (-1))) pF)
 (.chk (ao o4 kY)
 (.ite (aC (pn o4 kY) (.pick (ae (pn tz kY) (pi (-1))) (pn o4 kY) (pn tz kY)))
 (.ret (.tup [(pi 0),(pi 11)]))
 (.next ⟨[(10,(pn o4 kY)),(82,(ay kY (pi 1)))],[]⟩)))
 (.chk (ao o4 kY)
 (.ite (aC (pn o4 kY) (.pick (ae (pn tz kY) (pi (-1))) aZ (pn tz kY)))
 (.ret (.tup [(pi 0),(pi 11)]))
 (.next ⟨[(82,(ay kY (pi 1)))],[]⟩)))))
 (.exit 3 ⟨[(83,(aj kY vB))],[]⟩))
def adj:PT:=
 (.chk (.an (aN rz (pi 0)) (aY rz cJ))
 (.chk (ae rz rz)
 (.brk ⟨[(20,(pi 0)),(19,rz),(18,vq),(4,pN),(3,(pi 0)),(2,(pi 0))],[(4,(.rep rz (pi 0))),(1,(.mk [r0]))]⟩
(ay4 b)
 (.blockS ⟨[],[]⟩ 2 [2,3,38,39,40,41,42,46,47,48,49,50,51,55,56,60] []
 (.iteS ⟨[],[]⟩ (.pick (aj (pc o1 0) (pi 0)) pT (aS (pc o1 0) (pi 13))) [2,3,47,48,49,50,51,55,56,60] []
 (.ret (.tup [(pi 0),(pi 1)]))
 (.iteS ⟨[],[]⟩ (.pick (.pick (ae (pc o1 0) (pi 0)) pT (ae (pc o1 0) (pi 1))) pT (ae (pc o1 0) (pi 2))) [2,3] []
 (.call ⟨[],[]⟩ [] 62 248 [Pf]
 (.ret (.tup [(.tget jc 0),(.tget jc 1)])))
 (.next ⟨[],[]⟩)
 (.next ⟨[],[]⟩))
 (.next ⟨[],[]⟩))
 (.call ⟨[],[]⟩ [] 67 249 [(pc o1 0)]
 (.ite (.pick (aC (.llen o4) (.llen (pc (.setc lS 0 tu) 0))) pT (aC (pc o1 1) (pi 0)))
 (.ret (.tup [(pi 0),(pi 2)]))
 (.brk ⟨[(82,(pi 0)),(81,(.llen (pc (.setc lS 0 tu) 0))),(80,(pc (.setc lS 0 tu) 0)),(10,(pi (-1)))],[(9,(.setc lS 0 tu))]⟩
(ay5 b)
 (.ite (ae (pc o9 1) (pi (-1)))
 (.ret (.tup [aZ,(pi 0)]))
 (.ret (.tup [(pc o9 1),(pi 0)]))))))))))
def atv:PT×List (Shp×PT):=(adj b,[(.lp 0 [2,3,20,21] [4] [2,3,20] [4],Jh b),(.lp 3 [2,3,10,82,83] [] [2,3,10,82] [],ya b)])
def OU:Cz.map told=some (atv (aU Cz)):=by kernel_rfl
def aGJ:tree (ab Cz)=adj Fp:=bk OU
def ZH:round 0 [2,3,20,21] [4] [2,3,20] [4] (Fp 0)=Jh Fp:=aQ OU 0 λ_=>rfl
def Ec:round 3 [2,3,10,82,83] [] [2,3,10,82] [] (Fp 1)=ya Fp:=aQ OU 1 λ_=>rfl
def MJ:Option PC:=cF [2,3,12,20,4,5] [] Tryz.f248 248 [1]
def adm:PT:=
 (.ite (aS rz (pi 0))
 (.ret (.tup [(pi 0),(pi 2)]))
 (.blockS ⟨[(11,fL)],[(1,(.mk [r0]))]⟩ 0 [2,3,12,13,20,21] []
 (.iteS ⟨[],[]⟩ (ae bJ (pi 0)) [2,3,20,21] []
 (.call ⟨[],[]⟩ [] 16 252 [(pc o1 1)]
 (.ite (aC cq (pc o1 1))
 (.ret (.tup [(pi 0),(pi 3)]))
 (.ret (.tup [(pi 0),(pi 0)]))))
 (.ite (ae bJ (pi 1))
 (.ite (.pick (aj (pc o1 1) (pi 0)) pT (aS (pc o1 1) (pi 1)))
 (.ret (.tup [(pi 0),(pi 3)]))
 (.ret (.tup [(pi 1),(pi 0)])))
 (.next ⟨[],[]⟩))
 (.next ⟨[],[]⟩))
 (.call ⟨[],[]⟩ [] 33 250 [(pc o1 1)]
 (.ite (.nt (.tget py 1))
 (.ret (.tup [(pi 0),(pi 10)]))
 (.ret (.tup [(.tget py 0),(pi 0)]))))))
def alb:MJ.map told=some (adm,[]):=by kernel_rfl
def aGM:tree (ab MJ)=adm:=aD alb
def MI:Option PC:=cF [2] [] Tryz.f252 252 []
def adl:PT:=
 (.ret (.mn (.mx r0 (pi (-1099511627776))) jb))
def ala:MI.map told=some (adl,[]):=by kernel_rfl
def aGL:tree (ab MI)=adl:=aD ala
def MF:Option PC:=cF [2,3,4,11] [] Tryz.f250 250 []
def adh:PT:=
 (.ite (.pick (aj r0 (pi 0)) pT (aS r0 (pi 19)))
 (.ret (.tup [(pi 0),pF]))
 (.ite (aj r0 (pi 7))
 (.ret (.tup [(pi 0),pT]))
 (.ret (.tup [(pi 1),pT]))))
def ak7:MF.map told=some (adh,[]):=by kernel_rfl
def aGH:tree (ab MF)=adh:=aD ak7
def MM:Option PC:=cF [4,8,13,17,21] [] Tryz.f249 249 [2]
def adp:PT:=
 (.ite (ae r0 (pi 3))
 (.ret (.mk [(pc (.setc lS 0 (.mk [(.lst [(pi 1)]),(pi 1)])) 0),(pc (.setc lS 0 (.mk [(.lst [(pi 1)]),(pi 1)])) 1)]))
 (.ite (.pick (ae r0 (pi 4)) (ae r0 (pi 4)) (ae r0 (pi 5)))
 (.ret (.mk [(pc (.setc lS 0 (.mk [(.lst [(pi 1),(pi 1)]),(pi 1)])) 0),(pc (.setc lS 0 (.mk [(.lst [(pi 1),(pi 1)]),(pi 1)])) 1)]))
 (.ite (ae r0 (pi 6))
 (.ret (.mk [(pc (.setc lS 0 (.mk [(.lst [(pi 1),(pi (-1)),(pi (-1))]),(pi (-1))])) 0),(pc (.setc lS 0 (.mk [(.lst [(pi 1),(pi (-1)),(pi (-1))]),(pi (-1))])) 1)]))
 (.ite (ae r0 (pi 7))
 (.ret (.mk [(pc (.setc lS 0 (.mk [(.lst [(pi 0),(pi 0)]),(pi 1)])) 0),(pc (.setc lS 0 (.mk [(.lst [(pi 0),(pi 0)]),(pi 1)])) 1)]))
 (.ite (ae r0 (pi 8))
 (.ret (.mk [(pc (.setc lS 0 (.mk [(.lst [(pi (-1)),(pi (-1))]),(pi 1)])) 0),(pc (.setc lS 0 (.mk [(.lst [(pi (-1)),(pi (-1))]),(pi 1)])) 1)]))
 (.ret (.mk [(pc (.setc lS 0 (.mk [(.lst [(pi 0),(pi 0)]),(pi 0)])) 0),(pc (.setc lS 0 (.mk [(.lst [(pi 0),(pi 0)]),(pi 0)])) 1)])))))))
def ale:MM.map told=some (adp,[]):=by kernel_rfl
def aGQ:tree (ab MM)=adp:=aD ale
def ME:Option PC:=cF [5,6,8] [] Tryz.f131 131 [2,4,7]
def adg:PT:=
 (.call ⟨[],[(4,cN),(2,(.mk [r0]))]⟩ [] 11 190 [(.mk [fL,gJ,vq])]
 (.ite (aC (.tget bJ 1) (pi 0))
 (.ret vk)
 (.call ⟨[],[]⟩ [] 21 191 [(.mk [r1]),(.mk [(pc o2 0),(pc o2 1),(pc o2 2)])]
 (.ret (.mk [(pc (.setc o4 0 (.mk [(pc (.setc cN 0 (.tget fE 0)) 0),(pc (.setc cN 0 (.tget fE 0)) 1)])) 0),(pc (.setc o4 0 (.mk [(pc (.setc cN 0 (.tget fE 0)) 0),(pc (.setc cN 0 (.tget fE 0)) 1)])) 1)])))))
def ak6:ME.map told=some (adg,[]):=by kernel_rfl
def aGG:tree (ab ME)=adg:=aD ak6
def CA:Option PC:=cF [5,15,21,9,11] [] Tryz.f191 191 [2,3,4,6,33,7,8,10,12298,12]
def Tc:Nat->PC:=aV CA
def ay6:PC:=.block 1 [45,46] [7,8] (.loop [45] [7,8] (b 0))
def Ji (b:Nat->PC):PT:=
 (.ite (aj mG rD)
 (.blockS ⟨[],[]⟩ 2 [9,10,47,48,49,50,51,52,53,54,55,56,57,58,59,60,61] [10,12298,8,7]
 (.chk (ao rC mG)
 (.call ⟨[(54,mG),(52,mG)],[]⟩ [] 57 191 [(.mk [(pc o2 0)]),(.mk [(pc (.setc ns 0 (pn rC mG)) 0),(pc (.setc ns 0 (pn rC mG)) 1),(pc (.setc ns 0 (pn rC mG)) 2)])]
 (.chk (ao o7 vw)
 (.chk (ao o8 rE)
 (.next ⟨[],[(8,(.setn o8 rE 0 (.tget vz 1))),(7,(.setn o7 vw 0 (.tget vz 0)))]⟩)))))
 (.next ⟨[(45,(ay mG (pi 1)))],[]⟩))
 (.exit 1 ⟨[(46,(aj mG rD))],[]⟩))
def JG:PT:=
 (.blockS ⟨[(14,vh)],[(4,cN),(3,(.mk [r1])),(2,(.mk [r0]))]⟩ 0 [5,15,16,21,22] [4]
 (.iteS ⟨[],[]⟩ (.pick (ae cn (pi 0)) (ae cn (pi 0)) (ae cn (pi 1))) [5,21,22] [4]
 (.ret (.tup [(.mk [(pc (.setc o4 0 (.mk [pT,(pc o3 1)])) 0),(pc (.setc o4 0 (.mk [pT,(pc o3 1)])) 1)]),pL]))
 (.iteS ⟨[],[]⟩ (ae cn (pi 2)) [5] [4]
 (.call ⟨[],[]⟩ [] 26 226 [(.mk [(pc o2 0)]),(pc o3 1)]
 (.ite (pc AD 0)
 (.ret (.tup [(.mk [(pc (.setc o4 0 (.mk [(pc AD 0),(pc AD 1)])) 0),(pc (.setc o4 0 (.mk [(pc AD 0),(pc AD 1)])) 1)]),pL]))
 (.ret (.tup [vk,(.lst [(pc o3 1)])]))))
 (.next ⟨[],[]⟩)
 (.next ⟨[],[]⟩))
 (.next ⟨[],[]⟩))
 (.chk (.an (aN qo (pi 0)) (aY qo cJ))
 (.chk (ae qo qo)
 (.brk ⟨[(45,(pi 0)),(44,qo),(43,(pc o3 2)),(8,pN),(7,pN)],[(8,(.rep qo pL)),(7,(.rep qo cN))]⟩
(ay6 b)
 (.chk (.nt (.an (.an (ae (pc o3 0) (pi 6)) pT) (.nt (ao o7 (pi 0)))))
 (.ite (.pick (ae (pc o3 0) (pi 6)) (pc (pn o7 (pi 0)) 0) pF)
 (.chk (ao o7 (pi 0))
 (.chk (ao o7 HY)
 (.chk (ao o8 HY)
 (.ret (.tup [(.mk [(pc (.setc o4 0 (.sub (pn o7 HY) 0 2)) 0),(pc (.setc o4 0 (.sub (pn o7 HY) 0 2)) 1)]),(pn o8 HY)])))))
 (.call ⟨[],[]⟩ [] 88 227 [(pc o3 0),o7]
 (.ite (pc (.setc cN 0 rH) 0)
 (.ret (.tup [(.mk [(pc (.setc o4 0 (.mk [(pc (.setc cN 0 rH) 0),(pc (.setc cN 0 rH) 1)])) 0),(pc (.setc o4 0 (.mk [(pc (.setc cN 0 rH) 0),(pc (.setc cN 0 rH) 1)])) 1)]),pL]))
 (.call ⟨[(92,(.mk [pF,(pi 0)]))],[]⟩ [] 94 228 [o8]
 (.ret (.tup [(.mk [(pc (.setc o4 0 Yo) 0),(pc (.setc o4 0 Yo) 1)]),r94])))))))))))
def atw:PT×List (Shp×PT):=(JG b,[(.lp 1 [45,46] [7,8] [45] [7,8],Ji b)])
def Xd:CA.map told=some (atw (aU CA)):=by kernel_rfl
def aGN:tree (ab CA)=JG Tc:=bk Xd
def ZI:round 1 [45,46] [7,8] [45] [7,8] (Tc 0)=Ji Tc:=aQ Xd 0 λ_=>rfl
def MK:Option PC:=cF [5,6] [] Tryz.f226 226 [2,4]
def adn:PT:=
 (.chk (.nt (.an (.an (.nt (aN r1 (.llen fL))) pT) (.nt (ao fL r1))))
 (.ite (.pick (aN r1 (.llen fL)) pT (.nt (pc (pn fL r1) 0)))
 (.ret Pm)
 (.call ⟨[],[(4,cN),(2,(.mk [r0]))]⟩ [] 24 250 [r1]
 (.iteS ⟨[],[]⟩ (ae (.tget mD 0) (pi 1)) [] [4]
 (.chk (ao (pc o2 0) r1)
 (.call ⟨[],[]⟩ [] 36 251 [(aC (pc (pn (pc o2 0) r1) 1) (pi 0))]
 (.ret (.mk [(pc (.setc o4 0 fM) 0),(pc (.setc o4 0 fM) 1)]))))
 (.next ⟨[],[]⟩)
 (.chk (ao (pc o2 0) r1)
 (.call ⟨[],[]⟩ [] 43 252 [(pc (pn (pc o2 0) r1) 1)]
 (.ret (.mk [(pc (.setc o4 0 (.mk [pT,rC])) 0),(pc (.setc o4 0 (.mk [pT,rC])) 1)]))))))))
def alc:MK.map told=some (adn,[]):=by kernel_rfl
def aGO:tree (ab MK)=adn:=aD alc
def MN:Option PC:=cF [] [] Tryz.f251 251 [2]
def adq:PT:=
 (.ite r0
 (.ret XZ)
 (.ret X0))
def alf:MN.map told=some (adq,[]):=by kernel_rfl
def aGR:tree (ab MN)=adq:=aD alf
def MH:Option PC:=cF [9,22,41,6,7,82,88,94] [] Tryz.f227 227 [4,5]
def adk:PT:=
 (.blockS ⟨[(8,r0)],[(4,cN)]⟩ 0 [9,10,22,23] [4]
 (.iteS ⟨[],[]⟩ (ae r8 (pi 3)) [22,23] [4]
 (.chk tg
 (.iteS ⟨[],[]⟩ (pc jA 0) [] [4]
 (.chk tg
 (.call ⟨[],[]⟩ [] 20 251 [(ae (pc jA 1) (pi 0))]
 (.ret (.mk [(pc (.setc o4 0 dt) 0),(pc (.setc o4 0 dt) 1)]))))
 (.next ⟨[],[]⟩)
 (.ret vk)))
 (.iteS ⟨[],[]⟩ (.pick (ae r8 (pi 4)) (ae r8 (pi 4)) (ae r8 (pi 5))) [] [4]
 (.call ⟨[],[]⟩ [] 27 251 [(ae r0 (pi 5))]
 (.chk tg
 (.chk (.nt (.an (.an (.nt (.an (.cb .eql (pc jA 0) (pc xP 0)) (.an (ae (pc jA 1) (pc xP 1)) pT))) pT) (.nt rv)))
 (.ite (.pick (.an (.cb .eql (pc jA 0) (pc xP 0)) (.an (ae (pc jA 1) (pc xP 1)) pT)) pT (.an (.cb .eql (pc kV 0) (pc xP 0)) (.an (ae (pc kV 1) (pc xP 1)) pT)))
 (.ret (.mk [(pc (.setc o4 0 xP) 0),(pc (.setc o4 0 xP) 1)]))
 (.next ⟨[],[]⟩)))))
 (.ite (ae r8 (pi 6))
 (.chk rv
 (.chk (.nt (.an (.an (pc kV 0) pT) (.nt rv)))
 (.chk (.nt (.an (.an (pc kV 0) pT) (.nt (ao r1 (pi 2)))))
 (.ite (.pick (pc kV 0) (.an (.cb .eql (pc kV 0) (pc (pn r1 (pi 2)) 0)) (.an (ae (pc kV 1) (pc (pn r1 (pi 2)) 1)) pT)) pF)
 (.ret (.mk [(pc (.setc o4 0 kV) 0),(pc (.setc o4 0 kV) 1)]))
 (.ret vk)))))
 (.next ⟨[],[]⟩))
 (.next ⟨[],[]⟩))
 (.next ⟨[],[]⟩))
 (.chk tg
 (.chk (.nt (.an (.an (.nt (.nt (pc jA 0))) pT) (.nt rv)))
 (.ite (.pick (.nt (pc jA 0)) pT (.nt (pc kV 0)))
 (.ret vk)
 (.chk rv
 (.blockS ⟨[(81,r0),(7,(pc kV 1)),(6,(pc jA 1))],[]⟩ 1 [82,83,88,89,94,95] [4]
 (.iteS ⟨[],[]⟩ (.pick (ae vB (pi 4)) (ae vB (pi 4)) (ae vB (pi 5))) [88,89,94,95] [4]
 (.call ⟨[],[]⟩ [] 87 251 [(ae r0 (pi 4))]
 (.ret (.mk [(pc (.setc o4 0 r87) 0),(pc (.setc o4 0 r87) 1)])))
 (.iteS ⟨[],[]⟩ (ae vB (pi 7)) [94,95] [4]
 (.call ⟨[],[]⟩ [] 93 251 [(aj r6 r7)]
 (.ret (.mk [(pc (.setc o4 0 PF) 0),(pc (.setc o4 0 PF) 1)])))
 (.iteS ⟨[],[]⟩ (ae vB (pi 8)) [] [4]
 (.call ⟨[],[]⟩ [] 99 251 [(ae r6 r7)]
 (.ret (.mk [(pc (.setc o4 0 Yq) 0),(pc (.setc o4 0 Yq) 1)])))
 (.next ⟨[],[]⟩)
 (.next ⟨[],[]⟩))
 (.next ⟨[],[]⟩))
 (.next ⟨[],[]⟩))
 (.call ⟨[],[]⟩ [] 103 253 [r0,r6,r7]
 (.ret (.mk [(pc (.setc o4 0 (.mk [pT,X8])) 0),(pc (.setc o4 0 (.mk [pT,X8])) 1)])))))))))
def ak9:MH.map told=some (adk,[]):=by kernel_rfl
def aGK:tree (ab MH)=adk:=aD ak9
def MG:Option PC:=cF [6,8,14,20,25] [] Tryz.f253 253 []
def adi:PT:=
 (.blockS ⟨[(7,r0)],[]⟩ 0 [6,8,9,14,15,20,21,25,26] []
 (.iteS ⟨[],[]⟩ (ae r7 (pi 9)) [6,14,15,20,21,25,26] []
 (.call ⟨[],[]⟩ [] 13 252 [(ay r1 r2)]
 (.ret cK))
 (.iteS ⟨[],[]⟩ (ae r7 (pi 10)) [6,20,21,25,26] []
 (.call ⟨[],[]⟩ [] 19 252 [(aO r1 r2)]
 (.ret gK))
 (.iteS ⟨[],[]⟩ (ae r7 (pi 11)) [6,25,26] []
 (.call ⟨[],[]⟩ [] 24 269 [r1,r2]
 (.ret mD))
 (.ite (ae r7 (pi 12))
 (.ret (.mn r1 r2))
 (.next ⟨[],[]⟩))
 (.next ⟨[],[]⟩))
 (.next ⟨[],[]⟩))
 (.next ⟨[],[]⟩))
 (.ret (.mx r1 r2)))
def ak8:MG.map told=some (adi,[]):=by kernel_rfl
def aGI:tree (ab MG)=adi:=aD ak8
def ML:Option PC:=cF [4,5,6,7] [] Tryz.f269 269 []
def ado:PT:=
 (.call ⟨[],[]⟩ [] 19 134 [(.conv .u64 (.mx r0 (aO (pi 0) r0))),(.conv .u64 (.mx r1 (aO (pi 0) r1)))]
 (.ite Pc
 (.ret (aO (pi 0) al1))
 (.ret al1)))
def ald:ML.map told=some (ado,[]):=by kernel_rfl
def aGP:tree (ab ML)=ado:=aD ald
def KQ:Option PC:=cF [4,5,6,7,8,9,10,11,12,13] [] Tryz.f134 134 []
def aay:PT:=
 (.chk (aN lR (pi 0))
 (.ret (.tup [(.ai .add .u64 (.ai .add .u64 (.ai .mul .u64 vp (.ai .shr .u64 r1 lR)) (.ai .shr .u64 alZ lR)) (.ai .shr .u64 (.ai .add .u64 (.ai .and .u64 alZ pg) (.ai .mul .u64 (.ai .and .u64 r0 pg) (.ai .shr .u64 r1 lR))) lR)),(.ai .mul .u64 r0 r1)])))
def aji:KQ.map told=some (aay,[]):=by kernel_rfl
def aDK:tree (ab KQ)=aay:=aD aji
end Rm
