/-
  The functions of this seat, compiled (1).
-/
import Derived.Test.YtbeeplempgffoaaGreatDoorDAH
import Derived.KernelRfl
set_option linter.unusedVariables false
set_option maxRecDepth 100000
noncomputable section
namespace Rm
open Go Go.Proofs Cx
def y9:Option PC:=cF [12,13,14,15,23,24,25] [] Tryz.f4 4 [6,8,16,17,73745,167,18,19,73747,20,21,22]
def Ov:Nat→PC:=aZ y9
def acV (b:Nat→PC):PC:=.block 0 [12,15,81,82,83,84,85] [] (.loop [12,15] [] (b 0))
def FE (b:Nat→PC):PT:=
 (.ite (ao df (.llen (pc o8 17)))
 (.chk (aq (pc o8 17) df)
 (.chk (.nt (.an (.an (.nt (ae (pc (pn (pc o8 17) df) 0) (pi 1))) pT) (.nt (aq (pc o8 17) df))))
 (.ite (.pick (ae (pc (pn (pc o8 17) df) 0) (pi 1)) pT (aP (pc (pn (pc o8 17) df) 6) bH))
 (.ret cO)
 (.next ⟨[(15,(aH df (pi 1)))],[]⟩))))
 (.exit 0 ⟨[(81,df),(82,pN),(83,(pc o8 17)),(84,(.llen (pc o8 17))),(85,(ao df (.llen (pc o8 17))))],[]⟩))
def VR (b:Nat→PC):PT:=
 (.call ⟨[(12,pF)],[(8,(.mk [r2])),(6,(.mk [r0]))]⟩ [] 26 14 []
 (.call ⟨[(13,jE)],[]⟩ [] 29 15 [(ah 8 o6),(ah 19 o8)]
 (.ite (.pick (.pick (.pick (.pick (.pick (.pick (.pick (.nt jF) pT (aP (.llen (pc o8 17)) (pi 97))) pT (ao r3 (pi 0))) pT (bD r3 (.llen (pc o8 15)))) pT (ae (pc o8 5) (pi 0))) pT (ae (pc o8 5) (pi 1))) pT (ao r4 (pi 0))) pT (bD r4 (.llen (pc o6 3))))
 (.ret cO)
 (.call ⟨[],[]⟩ [] 80 16 [(ah 8 o6),r1,(ah 19 o8),(pc o8 8)]
 (.brk ⟨[(15,(pi 0)),(14,qm)],[]⟩
(acV b)
 (.chk (.nt (.an (.an (.nt (ae bH (pi (-1)))) pT) (.nt (aq (pc o8 15) (aS (.llen (pc o8 15)) (pi 1))))))
 (.ite (.pick (ae bH (pi (-1))) pT (aP (pc (pn (pc o8 15) (aS (.llen (pc o8 15)) (pi 1))) 6) bH))
 (.ret cO)
 (.chk (aX (.llen (.app (.lst []) (pc o8 17))) cq)
 (.chk (aX (.llen (.app (.app (.lst []) (pc o8 17)) (.lst [(.mk [(pi 2),r4,(pc (.setc dD 0 (ah 15 o8)) 1),(pi 0),(pi (-1)),(pi 0),bH,(pc (.setc dD 0 (ah 15 o8)) 10),(pi 0)])]))) cq)
 (.chk (aX (.llen af6) cq)
 (.chk (aq (pc o8 15) r3)
 (.chk (aX (.llen To) cq)
 (.call ⟨[],[(17,jD),(73745,To),(16,(.setc dD 0 (ah 15 o8)))]⟩ [] 172 17 [(ah 8 o6),(.mk [(pc jD 0),(pc jD 1),(pc jD 2),(pc jD 3),(pc jD 4),(pc jD 5),(pc jD 6),(pc jD 7),(pc jD 8),(pc jD 9),(pc jD 10),(pc jD 11),(pc jD 12),(pc jD 13),(pc jD 14),(pc jD 15),(pc jD 16),To,(pc jD 18)])]
 (.ite (aC (.r 172) (pi 0))
 (.ret pF)
 (.call ⟨[],[]⟩ [] 181 18 [(ah 8 o6),r1,agf,r3,(.mx bH r5)]
 (.call ⟨[(200,(.pick (.pick (.pick (ae (pc (.setc z4 0 (.r 181)) 0) (pi 0)) pT (ae (pc (.setc z4 0 (.r 181)) 1) (pi 0))) pT (ae (pc (.setc z4 0 (.r 181)) 2) (pi 0))) pT (ae (pc (.setc z4 0 (.r 181)) 3) (pi 0))))],[]⟩ [(200,false)] 207 19 [(ah 8 o6),r1,agf,(.mx bH r5)]
 (.ite (.pick (.r 200) pT (aC (.r 207) bH))
 (.ret pF)
 (.call ⟨[],[(73747,pL),(19,jC)]⟩ [] 217 18 [(ah 8 o6),r1,(.mk [(pc jC 0),(pc jC 1),(pc jC 2),(pc jC 3),(pc jC 4),(pc jC 5),(pc jC 6),(pc jC 7),(pc jC 8),(pc jC 9),(pc jC 10),(pc jC 11),(pc jC 12),(pc jC 13),(pc jC 14),(pc jC 15),(pc jC 16),pL,(pc jC 18)]),r3,(pi 100000)]
 (.call ⟨[],[(20,(.setc z4 0 (.r 217)))]⟩ [] 222 20 [(ah 8 o6),r1,(pi 8),L2,r3,(pi 100000)]
 (.call ⟨[],[(21,(.setc j4 0 (.r 222)))]⟩ [] 227 20 [(ah 8 o6),r1,(pi 11),L2,r3,(pi 100000)]
 (.call ⟨[(228,(ah 8 o6))],[(22,(.setc j4 0 (.r 227)))]⟩ [] 233 20 [(ah 8 o6),r1,(pi 10),L2,r3,(pi 100000)]
 (.call ⟨[],[]⟩ [] 237 21 [(.r 228),(.r 233),bH,(pc Lh 10)]
 (.call ⟨[(238,(ah 8 o6)),(23,(.r 237))],[]⟩ [] 243 20 [(ah 8 o6),r1,(pi 12),L2,r3,(pi 100000)]
 (.call ⟨[],[]⟩ [] 247 21 [(.r 238),(.r 243),bH,(pc Lh 10)]
 (.call ⟨[(259,(aC (pc vi 0) (pi 0))),(255,(.pick (bD eF (pi 0)) (ao eF (pi 100000)) pF)),(25,(.pick (bD eF (pi 0)) (ao eF (pi 100000)) pF)),(24,(.r 247))],[]⟩ [(259,false),(255,true)] 261 22 [(ah 5 o21)]
 (.ite (.pick (.pick (.r 255) (.pick (.r 259) pT (.pick (ae (.r 261) (pi 1)) (aC (pc vi 1) (pi 0)) pF)) pF) pT (.pick (.nt dV) (aC (pc vi 0) (pi 2)) pF))
 (.ret pF)
 (.call ⟨[(287,(.pick (ao lh (pi 0)) pT (bD lh (pi 100000)))),(280,cO)],[]⟩ [(287,false),(280,true)] 289 22 [(ah 5 o22)]
 (.ret (.pick (.r 280) (.pick (.pick (.r 287) pT (aC (.r 289) (pi 1))) pT (ae (pc vi 2) (pi 0))) pF)))))))))))))))))))))))))))))
def amF (b:Nat→PC):PT×List (Shp×PT):=(VR b,[(.lp 0 [12,15,81,82,83,84,85] [] [12,15] [],FE b)])
theorem RR:y9.map told=some (amF (bl y9)):=by kernel_rfl
theorem axx:tree (ab y9)=VR Ov:=bE RR
theorem TU:round 0 [12,15,81,82,83,84,85] [] [12,15] [] (Ov 0)=FE Ov:=aT RR 0 fun _=>rfl
def H4:Option PC:=cF [0,7,8] [] Tryz.f14 14 [1,2,3,4,5,6]
def VU:PT:=
 (.call ⟨[],[]⟩ [] 9 31 []
 (.call ⟨[(10,(ah 8 ago))],[(1,ago)]⟩ [] 11 32 [(pi 0),(pi (-1))]
 (.call ⟨[],[]⟩ [] 12 18 [bN,(pi 0),bW,(pi 0),(pi 12)]
 (.call ⟨[(13,(ah 8 o1))],[(2,(.setc z4 0 bQ))]⟩ [] 14 32 [(pi 0),(pi (-1))]
 (.call ⟨[],[]⟩ [] 15 18 [cO,(pi 0),bH,(pi 0),(pi 13)]
 (.call ⟨[(16,(ah 8 o1))],[(3,(.setc z4 0 df))]⟩ [] 17 32 [(pi 12),(pi 0)]
 (.call ⟨[],[]⟩ [] 18 18 [dA,(pi 0),fy,(pi 0),(pi 40)]
 (.call ⟨[(19,(ah 8 o1))],[(4,(.setc z4 0 fW))]⟩ [] 20 32 [(pi 12),(pi 1)]
 (.call ⟨[],[]⟩ [] 21 18 [gY,(pi 0),dU,(pi 0),(pi 40)]
 (.call ⟨[(22,(ah 8 o1))],[(5,(.setc z4 0 iP))]⟩ [] 23 32 [(pi 12),(pi 0)]
 (.call ⟨[],[]⟩ [] 24 18 [vq,(pi 0),eF,(pi 0),(pi 1)]
 (.call ⟨[(51,(ah 8 o1)),(50,(.pick (.pick (.pick (.an (ae (pc (ah 4 o2) 0) (pi 1)) (.an (ae (pc (ah 4 o2) 1) (pi 2)) (.an (ae (pc (ah 4 o2) 2) (pi 1)) (.an (ae (pc (ah 4 o2) 3) (pi 2)) pT)))) (.an (ae (pc (ah 4 o3) 0) (pi 1)) (.an (ae (pc (ah 4 o3) 1) (pi 0)) (.an (ae (pc (ah 4 o3) 2) (pi 1)) (.an (ae (pc (ah 4 o3) 3) (pi 0)) pT)))) pF) (.pick (.an (ae (pc (ah 4 o4) 0) (pi 1)) (.an (ae (pc (ah 4 o4) 1) (pi 1)) (.an (ae (pc (ah 4 o4) 2) (pi 1)) (.an (ae (pc (ah 4 o4) 3) (pi 1)) pT)))) (.an (ae (pc (ah 4 o5) 0) (pi 1)) (.an (ae (pc (ah 4 o5) 1) (pi 2)) (.an (ae (pc (ah 4 o5) 2) (pi 1)) (.an (ae (pc (ah 4 o5) 3) (pi 2)) pT)))) pF) pF) (.an (ae (pc L1 0) (pi 0)) (.an (ae (pc L1 1) (pi 0)) (.an (ae (pc L1 2) (pi 0)) (.an (ae (pc L1 3) (pi 0)) pT)))) pF))],[]⟩ [(50,true)] 52 32 [(pi 0),(pi (-1))]
 (.call ⟨[],[]⟩ [(50,true)] 53 19 [mJ,(pi 0),tJ,(pi 12)]
 (.ret (.pick gZ (ae Me (pi 10)) pF)))))))))))))))
theorem aef:H4.map told=some (VU,[]):=by kernel_rfl
theorem axA:tree (ab H4)=VU:=aF aef
def H3:Option PC:=cF [] [] Tryz.f31 31 [0,24576,28672,32768,1,12289,2,12290,3,12291]
def VT:PT:=
 (.ret (.mk [(pc Fi 0),(pc Fi 1),(pc Fi 2),(pc Fi 3),(pc Fi 4),pL,pL,pL]))
theorem aee:H3.map told=some (VT,[]):=by kernel_rfl
theorem axz:tree (ab H3)=VT:=aF aee
def H5:Option PC:=cF [] [] Tryz.f32 32 [4,5,6,69638,73734,77830]
def Nl:PT:=
 (.ite (bD r1 (pi 0))
 (.chk (aX (.llen agh) cq)
 (.ret (ah 19 (.setc oF 0 (.mk [(pc lg 0),(pc lg 1),(pc lg 2),(pc lg 3),(pc lg 4),(pc lg 5),(pc lg 6),(pc lg 7),(pc lg 8),(pc lg 9),(pc lg 10),(pc lg 11),(pc lg 12),(pc lg 13),(pc lg 14),(pc lg 15),pL,agh,pL])))))
 (.ret (ah 19 (.setc oF 0 (.mk [(pc kC 0),(pc kC 1),(pc kC 2),(pc kC 3),(pc kC 4),(pc kC 5),(pc kC 6),(pc kC 7),(pc kC 8),(pc kC 9),(pc kC 10),(pc kC 11),(pc kC 12),(pc kC 13),(pc kC 14),(pc kC 15),pL,(.lst [(.mk [(pi 2),(pi 0),(pi 1),(pi 0),(pi (-1)),(pi 0),(pi 10),(pi 0),(pi 0)])]),pL])))))
theorem aeg:H5.map told=some (Nl,[]):=by kernel_rfl
theorem axB:tree (ab H5)=Nl:=aF aeg
def HR:Option PC:=cF [] [] Tryz.f18 18 [5,7,10,11,12]
def VF:PT:=
 (.call ⟨[],[(10,z4)]⟩ [] 18 43 [fw,r1,Fh,r3,r4]
 (.ite (.pick (ao r3 (pi 0)) pT (bD r3 (.llen (pc (.setc LV 0 fW) 24))))
 (.ret (ah 4 (.setc bY 0 (.mk [(pi 0),(pi 0),(pi 0),(pi 0)]))))
 (.call ⟨[],[(12,z4),(11,(.setc LV 0 fW))]⟩ [] 31 44 [(ah 31 (.setc LV 0 fW))]
 (.iteS ⟨[],[(12,(.setc (.setc (.setc vh 0 lj) 1 (pi 2)) 2 (pi 2)))]⟩ (aC (pc nz 30) (pi (-1))) [] [12]
 (.call ⟨[],[]⟩ [] 39 46 [(ah 31 nz),(pi 8)]
 (.call ⟨[],[]⟩ [] 41 47 [(ah 31 nz)]
 (.call ⟨[],[]⟩ [] 42 45 [yg,mH]
 (.call ⟨[],[(12,(.setc vh 1 r42))]⟩ [] 45 46 [(ah 31 nz),(pi 11)]
 (.call ⟨[],[]⟩ [] 47 48 [(ah 31 nz)]
 (.call ⟨[],[]⟩ [] 48 45 [ll,BK]
 (.next ⟨[],[(12,(.setc vh 2 ln))]⟩)))))))
 (.next ⟨[],[]⟩)
 (.call ⟨[],[]⟩ [] 57 49 [(.lst [(pc vh 0),(pc vh 1),(pc vh 2)])]
 (.ret (ah 4 (.setc bY 0 (ah 4 (.setc vh 3 BL))))))))))
theorem ad2:HR.map told=some (VF,[]):=by kernel_rfl
theorem axi:tree (ab HR)=VF:=aF ad2
def HT:Option PC:=cF [] [] Tryz.f43 43 [5,7,10]
def VH:PT:=
 (.call ⟨[(12,r1),(11,fw)],[(10,LV),(7,(.mk [r2])),(5,(.mk [r0]))]⟩ [] 15 33 [Fh,r4]
 (.call ⟨[(17,r4),(16,r3)],[]⟩ [] 22 16 [(ah 8 o5),r1,(ah 19 o7),r4]
 (.ret (ah 31 (.setc bY 0 (.mk [bW,bQ,df,dA,fy,vq]))))))
theorem ad4:HT.map told=some (VH,[]):=by kernel_rfl
theorem axk:tree (ab HT)=VH:=aF ad4
def zT:Option PC:=cF [] [] Tryz.f33 33 [2,4,5,65541,69637,73733,77829,7,31,9,49,11,13]
def su:Nat→PC:=aZ zT
def asA (b:Nat→PC):PC:=.block 0 [20,21] [65541,5] (.loop [20] [65541,5] (b 0))
def asB (b:Nat→PC):PC:=.block 2 [38,39] [73733,5] (.loop [38] [73733,5] (b 1))
def asC (b:Nat→PC):PC:=.block 4 [56,57] [5,69637] (.loop [56] [5,69637] (b 2))
def asD (b:Nat→PC):PC:=.block 6 [76,77] [5,77829] (.loop [76] [5,77829] (b 3))
def Gn (b:Nat→PC):PT:=
 (.ite (ao dU gY)
 (.chk (aq fW dU)
 (.ite (aP (pc (.setc z9 0 (pn fW dU)) 6) r1)
 (.exit 0 ⟨[(21,(ao dU gY))],[]⟩)
 (.chk (aX (.llen (.app (.o 65541) (.lst [(ah 9 (.setc z9 0 (pn fW dU)))]))) cq)
 (.next ⟨[(20,(aH dU (pi 1)))],[(65541,(.app (.o 65541) (.lst [(ah 9 (.setc z9 0 (pn fW dU)))]))),(5,(.setc o5 15 pN))]⟩))))
 (.exit 0 ⟨[(21,(ao dU gY))],[]⟩))
def Gp (b:Nat→PC):PT:=
 (.ite (ao jd lR)
 (.chk (aq jH jd)
 (.ite (aP (pc (.setc z9 0 (pn jH jd)) 6) r1)
 (.exit 2 ⟨[(39,(ao jd lR))],[]⟩)
 (.chk (aX (.llen (.app (.o 73733) (.lst [(ah 9 (.setc z9 0 (pn jH jd)))]))) cq)
 (.next ⟨[(38,(aH jd (pi 1)))],[(73733,(.app (.o 73733) (.lst [(ah 9 (.setc z9 0 (pn jH jd)))]))),(5,(.setc o5 17 pN))]⟩))))
 (.exit 2 ⟨[(39,(ao jd lR))],[]⟩))
def Gq (b:Nat→PC):PT:=
 (.ite (ao rA vt)
 (.chk (aq ql rA)
 (.ite (aX (pc (.setc z2 0 (pn ql rA)) 0) (.llen (.o 65541)))
 (.chk (aX (.llen agt) cq)
 (.next ⟨[(56,(aH rA (pi 1)))],[(5,(.setc o5 16 pN)),(69637,agt)]⟩))
 (.next ⟨[(56,(aH rA (pi 1)))],[]⟩)))
 (.exit 4 ⟨[(57,(ao rA vt))],[]⟩))
def Gr (b:Nat→PC):PT:=
 (.ite (ao tM Fz)
 (.blockS ⟨[],[]⟩ 7 [13,78,79,80,81,82,83,84,85] [13,77829,5]
 (.chk (aq TI tM)
 (.call ⟨[],[(13,(.setc z3 0 (pn TI tM)))]⟩ [] 85 72 [(pc (.setc z3 0 (pn TI tM)) 1),(.llen (.o 65541))]
 (.ite FA
 (.chk (aX (.llen agb) cq)
 (.next ⟨[],[(77829,agb),(5,(.setc o5 18 pN))]⟩))
 (.next ⟨[],[]⟩))))
 (.next ⟨[(76,(aH tM (pi 1)))],[]⟩))
 (.exit 6 ⟨[(77,(ao tM Fz))],[]⟩))
def Xp (b:Nat→PC):PT:=
 (.brk ⟨[(20,(pi 0)),(19,(.llen ru)),(18,ru)],[(77829,pL),(73733,pL),(69637,pL),(65541,pL),(5,(.setc oF 0 (.mk [(ah 15 (.mk [r0])),pL,pL,pL,pL]))),(4,oF),(2,(.mk [r0]))]⟩
(asA b)
 (.brk ⟨[(38,(pi 0)),(37,(.llen (pc o2 17))),(36,(pc o2 17))],[]⟩
(asB b)
 (.brk ⟨[(56,(pi 0)),(55,(.llen (pc o2 16))),(54,(pc o2 16))],[]⟩
(asC b)
 (.brk ⟨[(76,(pi 0)),(75,(.llen (pc o2 18))),(74,(pc o2 18))],[]⟩
(asD b)
 (.ret (ah 19 (.setc o4 0 (.mk [(pc o5 0),(pc o5 1),(pc o5 2),(pc o5 3),(pc o5 4),(pc o5 5),(pc o5 6),(pc o5 7),(pc o5 8),(pc o5 9),(pc o5 10),(pc o5 11),(pc o5 12),(pc o5 13),(pc o5 14),(.o 65541),(.o 69637),(.o 73733),(.o 77829)]))))))))
def anr (b:Nat→PC):PT×List (Shp×PT):=(Xp b,[(.lp 0 [20,21] [65541,5] [20] [65541,5],Gn b),(.lp 2 [38,39] [73733,5] [38] [73733,5],Gp b),(.lp 4 [56,57] [5,69637] [56] [5,69637],Gq b),(.lp 6 [76,77] [5,77829] [76] [5,77829],Gr b)])
theorem Bs:zT.map told=some (anr (bl zT)):=by kernel_rfl
theorem azl:tree (ab zT)=Xp su:=bE Bs
theorem UB:round 0 [20,21] [65541,5] [20] [65541,5] (su 0)=Gn su:=aT Bs 0 fun _=>rfl
theorem UC:round 2 [38,39] [73733,5] [38] [73733,5] (su 1)=Gp su:=aT Bs 1 fun _=>rfl
theorem UD:round 4 [56,57] [5,69637] [56] [5,69637] (su 2)=Gq su:=aT Bs 2 fun _=>rfl
theorem UE:round 6 [76,77] [5,77829] [76] [5,77829] (su 3)=Gr su:=aT Bs 3 fun _=>rfl
def Jf:Option PC:=cF [4] [] Tryz.f72 72 []
def Xu:PT:=
 (.ret Tk)
theorem afi:Jf.map told=some (Xu,[]):=by kernel_rfl
theorem azr:tree (ab Jf)=Xu:=aF afi
def Hz:Option PC:=cF [8,9,10,11] [] Tryz.f16 16 [4,6]
def Vj:PT:=
 (.call ⟨[],[(6,(.mk [r2])),(4,(.mk [r0]))]⟩ [] 14 33 [Fh,r3]
 (.ite (ae (.llen (pc (.setc o6 0 bH) 15)) (pi 0))
 (.ret (pi (-1)))
 (.call ⟨[],[(6,(.setc o6 0 bH))]⟩ [] 23 35 [(ah 8 o4),r1,(pi 6),(ah 19 (.setc o6 0 bH)),r3]
 (.call ⟨[],[]⟩ [] 24 34 [eF]
 (.call ⟨[(29,(ah 15 o6)),(27,(ah 8 o4)),(9,(.mx lh (pi 0)))],[]⟩ [] 31 37 [(ah 19 o6)]
 (.call ⟨[],[]⟩ [] 33 36 [eG,jF,lj,r9]
 (.ite (aC (.tget nG 1) (pi 0))
 (.ret (pi (-1)))
 (.ret (.tget nG 0)))))))))
theorem adH:Hz.map told=some (Vj,[]):=by kernel_rfl
theorem awU:tree (ab Hz)=Vj:=aF adH
def Hy:Option PC:=cF [] [] Tryz.f35 35 [5,8,77832,10]
def Vi:PT:=
 (.call ⟨[],[(10,j4)]⟩ [] 18 73 [fw,r1,r2,agd]
 (.ret (ah 5 (.setc bY 0 fW))))
theorem adG:Hy.map told=some (Vi,[]):=by kernel_rfl
theorem awT:tree (ab Hy)=Vi:=aF adG
def Hx:Option PC:=cF [10] [] Tryz.f73 73 [4,7,8,9]
def Vh:PT:=
 (.call ⟨[],[(8,j4),(4,(.mk [r0]))]⟩ [] 16 111 [fw,r1,r2,(ah 24 (.mk [r3]))]
 (.iteS ⟨[(10,(.tget dA 1))],[(9,(.setc j4 0 (.tget dA 0)))]⟩ (aC (pc (.setc j4 0 (.tget dA 0)) 2) (pi (-1))) [] [9]
 (.chk (aq (pc o4 4) (pc o9 2))
 (.call ⟨[],[]⟩ [] 31 112 [(pn (pc o4 4) (pc o9 2)),r2,bN]
 (.next ⟨[],[(9,(.setc (.setc o9 0 (.tget lj 0)) 4 (.tget lj 1)))]⟩)))
 (.next ⟨[],[]⟩)
 (.ret (ah 5 (.setc o8 0 (ah 5 o9))))))
theorem adF:Hx.map told=some (Vh,[]):=by kernel_rfl
theorem awS:tree (ab Hx)=Vh:=aF adF
def HC:Option PC:=cF [9,11,12,13,14] [] Tryz.f111 111 [4,7,8,10,16394]
def Vm:PT:=
 (.call ⟨[],[(16394,pL),(10,(.setc j4 0 (.mk [cr,(pi (-1)),pL,(pi 1)]))),(8,j4),(7,(.mk [r3])),(4,(.mk [r0]))]⟩ [] 19 151 [fw,(ah 24 (.mk [r3]))]
 (.ite (ae (.llen (.tget gY 1)) (pi 0))
 (.ret (.tup [Tt,pL]))
 (.call ⟨[(11,(.tget gY 1))],[(7,(.setc o7 0 (.tget gY 0)))]⟩ [] 28 152 [r2]
 (.ite (.nt (.tget gK 1))
 (.ret (.tup [Tt,pL]))
 (.call ⟨[],[]⟩ [] 37 153 [(ah 8 o4),r1,(ah 24 o7)]
 (.ite (ae (.llen lR) (pi 0))
 (.ret (.tup [Tt,pL]))
 (.call ⟨[],[]⟩ [] 46 154 [(ah 8 o4),r1,r2,lR]
 (.ite (ae (pc yc 4) (pi 0))
 (.chk (aq (pc yc 3) (aS (.llen (pc yc 3)) (pi 1)))
 (.ret (.tup [(ah 5 (.setc o8 0 (ah 5 (.setc yc 2 (pn (pc yc 3) (aS (.llen (pc yc 3)) (pi 1))))))),bW])))
 (.ret (.tup [(ah 5 (.setc o8 0 (ah 5 yc))),bW]))))))))))
theorem adK:HC.map told=some (Vm,[]):=by kernel_rfl
theorem awX:tree (ab HC)=Vm:=aF adK
def HD:Option PC:=cF [5] [] Tryz.f151 151 [2,3,4]
def Vn:PT:=
 (.call ⟨[],[(4,(.con (.agg [(.int 0),(.int 0),(.int 0),(.int 0),(.int 0),(.int 0),(.int 0),(.int 0),(.int 0),(.int 0),(.int 0),(.int 0),(.int 0),(.int 0),(.int 0),(.list []),(.list []),(.list []),(.list []),(.int 0),(.int 0),(.int 0),(.int 0),(.int 0)]))),(3,(.mk [r1])),(2,(.mk [r0]))]⟩ [] 10 33 [(ah 19 (.mk [r1])),(pc (.mk [r1]) 23)]
 (.call ⟨[(12,(ah 24 (.setc o3 0 bN)))],[]⟩ [] 15 174 [(ah 8 o2),(ah 24 (.setc o3 0 bN))]
 (.ret (.tup [(ah 24 (.setc o4 0 bQ)),df]))))
theorem adL:HD.map told=some (Vn,[]):=by kernel_rfl
theorem awY:tree (ab HD)=Vn:=aF adL
def zW:Option PC:=cF [4,7,9,11,12,13,14,15,16] [] Tryz.f174 174 [2,3,5,6,8,10,90,139]
def C0:Nat→PC:=aZ zW
def asW (b:Nat→PC):PC:=.meach 90 [94,95,11,12] [0,1,0,1] [10] (b 0)
def asX (b:Nat→PC):PC:=.meach 139 [143,144,15,16] [0,1,0,1] [10] (b 1)
def UH (b:Nat→PC):PT:=
 (.chk (aq bY bW)
 (.next ⟨[],[(10,(.setn bY bW 0 (.mk [pT,bQ])))]⟩))
def UI (b:Nat→PC):PT:=
 (.blockS ⟨[],[]⟩ 3 [145,146,147,148,149] [10]
 (.call ⟨[(146,df)],[]⟩ [] 148 197 [dA]
 (.chk (aq bY (.r 146))
 (.next ⟨[],[(10,(.setn bY (.r 146) 0 (.r 148)))]⟩)))
 (.next ⟨[],[]⟩))
def vM (b:Nat→PC):PT:=
 (.call ⟨[(7,(.mx (pc (.mk [r1]) 20) (pi 0)))],[(6,(.setc dD 0 (ah 15 (.mk [r1])))),(5,vk),(3,(.mk [r1])),(2,(.mk [r0]))]⟩ [] 30 72 [(pc (.mk [r1]) 19),(.llen (pc vk 15))]
 (.call ⟨[(48,Fa),(44,(.pick (.pick (.nt jG) pT (ao (pc o3 20) (pi (-1)))) pT (bD r7 (.llen (pc o5 15)))))],[]⟩ [(48,true),(44,false)] 51 72 [(pc o3 22),(pi 100001)]
 (.ite (.pick yh pT (.pick ln (.nt mJ) pF))
 (.ret pL)
 (.chk (aq (pc o5 15) (pc o3 19))
 (.call ⟨[],[(8,(.setc z9 0 (pn (pc o5 15) (pc o3 19))))]⟩ [] 63 72 [(pc (.setc z9 0 (pn (pc o5 15) (pc o3 19))) 6),(pi 100001)]
 (.ite (.nt yi)
 (.ret pL)
 (.chk (.an (bD (pi 20) (pi 0)) (aX (pi 20) cq))
 (.chk (ae (pi 20) (pi 20))
 (.chk (ao (.mlen (.con (.map []))) cq)
 (.chk (ao (.mlen (.put (.con (.map [])) (pi 0) (pc o6 3))) cq)
 (.chk (ao (.mlen (.put (.put (.con (.map [])) (pi 0) (pc o6 3)) (pi 1) (pc o6 14))) cq)
 (.chk (ao (.mlen Tn) cq)
 (.chk (ao (.mlen (.put Tn (pi 3) (pc o6 12))) cq)
 (.chk (ao (.mlen Tv) cq)
 (.chk (ao (.mlen (.put Tv (pi 5) (pc o3 21))) cq)
 (.blockS ⟨[(10,pN),(9,(.pick Fa (aS (pc o8 6) (pc o3 22)) (pi 0)))],[(90,(.tup [(.lst []),(.put (.put Tv (pi 5) (pc o3 21)) (pi 6) (.pick Fa (aS (pc o8 6) (pc o3 22)) (pi 0)))])),(10,(.rep (pi 20) cr))]⟩ 0 [] [10]
 (.brk ⟨[],[]⟩
(asW b)
 (.exit 0 ⟨[],[]⟩))
 (.call ⟨[],[(3,(ah 24 o3))]⟩ [] 104 195 [(pc o5 16),(.clo 196 [(.ref (ah 24 o3))])]
 (.call ⟨[(13,auQ)],[]⟩ [] 108 125 [(ah 8 o2),(pc o6 9)]
 (.call ⟨[],[]⟩ [] 112 125 [(ah 8 o2),(pc o6 10)]
 (.chk (ao (.mlen (.con (.map []))) cq)
 (.chk (ao (.mlen Tu) cq)
 (.chk (ao (.mlen (.put Tu (pi 8) (ae (pc o6 2) (pi (-1))))) cq)
 (.chk (ao (.mlen (.put (.put Tu (pi 8) (ae (pc o6 2) (pi (-1)))) (pi 9) (aC (.ai .and .i64 (pc o6 13) (pi 4)) (pi 0)))) cq)
 (.chk (ao (.mlen LS) cq)
 (.chk (ao (.mlen (.put LS (pi 11) (aC Fu Fv))) cq)
 (.chk (ao (.mlen (.put (.put LS (pi 11) (aC Fu Fv)) (pi 12) cO)) cq)
 (.chk (ao (.mlen agp) cq)
 (.blockS ⟨[],[(139,(.tup [(.lst []),(.put agp (pi 14) (aP r9 (pi 0)))]))]⟩ 2 [] [10]
 (.brk ⟨[],[]⟩
(asX b)
 (.exit 2 ⟨[],[]⟩))
 (.call ⟨[],[]⟩ [] 154 198 [(ah 19 o5),(pi 0),(pc o3 19)]
 (.chk (aq bY (pi 15))
 (.call ⟨[],[(10,(.setn bY (pi 15) 0 (.r 154)))]⟩ [] 160 198 [(ah 19 o5),(pi 1),(pc o3 19)]
 (.chk (aq bY (pi 16))
 (.call ⟨[],[(10,(.setn bY (pi 16) 0 (.r 160)))]⟩ [] 166 198 [(ah 19 o5),(pi 2),(pc o3 19)]
 (.chk (aq bY (pi 17))
 (.call ⟨[],[(10,(.setn bY (pi 17) 0 (.r 166)))]⟩ [] 171 198 [(ah 19 o5),(pi 3),r7]
 (.chk (aq bY (pi 18))
 (.call ⟨[],[(10,(.setn bY (pi 18) 0 (.r 171)))]⟩ [] 176 198 [(ah 19 o5),(pi 4),r7]
 (.chk (aq bY (pi 19))
 (.ret (.setn bY (pi 19) 0 (.r 176)))))))))))))))))))))))))))))))))))))))))
def anu (b:Nat→PC):PT×List (Shp×PT):=(vM b,[(.ea [10],UH b),(.ea [10],UI b)])
theorem Ly:zW.map told=some (anu (bl zW)):=by kernel_rfl
theorem azp:tree (ab zW)=vM C0:=bE Ly
theorem avB:qq [10] (C0 0)=UH C0:=Vg Ly 0 fun _=>rfl
theorem avC:qq [10] (C0 1)=UI C0:=Vg Ly 1 fun _=>rfl
def Jd:Option PC:=cF [3] [] Tryz.f196 196 [2]
def Xs:PT:=
 (.ret (aX iO (pc (.deref r1) 19)))
theorem afg:Jd.map told=some (Xs,[]):=by kernel_rfl
theorem azo:tree (ab Jd)=Xs:=aF afg
def Jg:Option PC:=cF [4] [] Tryz.f195 195 []
def Xw:PT:=
 (.call ⟨[],[]⟩ [] 7 216 [r0,r1]
 (.ret (bD r7 (pi 0))))
theorem afj:Jg.map told=some (Xw,[]):=by kernel_rfl
theorem azt:tree (ab Jg)=Xw:=aF afj
def zY:Option PC:=cF [4,5] [] Tryz.f216 216 []
def O2:Nat→PC:=aZ zY
def asJ (b:Nat→PC):PC:=.block 0 [4,8,9] [] (.loop [4,8] [] (b 0))
def Gv (b:Nat→PC):PT:=
 (.ite (ao r8 r7)
 (.blockS ⟨[],[]⟩ 1 [4,5,10,11,12,13,14,15,16] []
 (.chk (aq r0 r8)
 (.callc ⟨[(5,r8)],[]⟩ [] 16 r1 [(pn r0 r8)]
 (.ite dA
 (.ret r5)
 (.next ⟨[],[]⟩))))
 (.next ⟨[(8,oJ)],[]⟩))
 (.exit 0 ⟨[(9,(ao r8 r7))],[]⟩))
def XA (b:Nat→PC):PT:=
 (.brk ⟨[(8,(pi 0)),(7,(.llen r0)),(4,(pi 0))],[]⟩
(asJ b)
 (.ret (pi (-1))))
def anw (b:Nat→PC):PT×List (Shp×PT):=(XA b,[(.lp 0 [4,8,9] [] [4,8] [],Gv b)])
theorem So:zY.map told=some (anw (bl zY)):=by kernel_rfl
theorem azx:tree (ab zY)=XA O2:=bE So
theorem UJ:round 0 [4,8,9] [] [4,8] [] (O2 0)=Gv O2:=aT So 0 fun _=>rfl
def Ja:Option PC:=cF [4] [] Tryz.f125 125 [2]
def Xe:PT:=
 (.call ⟨[],[(2,(.mk [r0]))]⟩ [] 9 118 [r1,(.llen jc)]
 (.ite (.nt r9)
 (.ret (pi (-1)))
 (.chk (aq (pc o2 1) r1)
 (.ret (pc (pn (pc o2 1) r1) 1)))))
theorem afd:Ja.map told=some (Xe,[]):=by kernel_rfl
theorem aza:tree (ab Ja)=Xe:=aF afd
def Jb:Option PC:=cF [4] [] Tryz.f118 118 []
def Xh:PT:=
 (.ret Tk)
theorem afe:Jb.map told=some (Xh,[]):=by kernel_rfl
theorem azd:tree (ab Jb)=Xh:=aF afe
def Je:Option PC:=cF [] [] Tryz.f197 197 [2]
def Xt:PT:=
 (.ite r0
 (.ret Tr)
 (.ret Ts))
theorem afh:Je.map told=some (Xt,[]):=by kernel_rfl
theorem azq:tree (ab Je)=Xt:=aF afh
def zU:Option PC:=cF [] [] Tryz.f198 198 [3,6,8]
def O1:Nat→PC:=aZ zU
def asE (b:Nat→PC):PC:=.block 0 [12,13] [6] (.loop [12] [6] (b 0))
def Gs (b:Nat→PC):PT:=
 (.ite (ao bQ bW)
 (.blockS ⟨[],[]⟩ 1 [8,14,15,16,17,18,19,20,25] [8,6]
 (.chk (aq bN bQ)
 (.iteS ⟨[],[(8,(.setc z3 0 (pn bN bQ)))]⟩ (.pick (ae (pc (.setc z3 0 (pn bN bQ)) 0) r1) (ae (pc (.setc z3 0 (pn bN bQ)) 1) r2) pF) [] [6]
 (.call ⟨[],[]⟩ [] 29 197 [(aC (pc o8 2) (pi 0))]
 (.ret (.mk [(pc (.setc o6 0 jF) 0),(pc (.setc o6 0 jF) 1)])))
 (.next ⟨[],[]⟩)
 (.next ⟨[],[]⟩)))
 (.next ⟨[(12,(aH bQ (pi 1)))],[]⟩))
 (.exit 0 ⟨[(13,(ao bQ bW))],[]⟩))
def Xq (b:Nat→PC):PT:=
 (.brk ⟨[(12,(pi 0)),(11,(.llen (pc (.mk [r0]) 18))),(10,(pc (.mk [r0]) 18))],[(6,cr)]⟩
(asE b)
 (.ret L5))
def ans (b:Nat→PC):PT×List (Shp×PT):=(Xq b,[(.lp 0 [12,13] [6] [12] [6],Gs b)])
theorem Sn:zU.map told=some (ans (bl zU)):=by kernel_rfl
theorem azm:tree (ab zU)=Xq O1:=bE Sn
theorem UF:round 0 [12,13] [6] [12] [6] (O1 0)=Gs O1:=aT Sn 0 fun _=>rfl
def H7:Option PC:=cF [2,3,4,11] [] Tryz.f152 152 []
def VW:PT:=
 (.blockS ⟨[],[]⟩ 0 [2,3,4,5,6,7,10,11,12,13,14] []
 (.iteS ⟨[],[]⟩ (.pick ya pT (bD r0 (pi 22))) [2,3,11,12,13,14] []
 (.ret (.tup [(pi 0),pF]))
 (.call ⟨[],[]⟩ [] 14 93 [(.lst [(pc ry 0),(pc ry 1),(pc ry 2),(pc ry 3),(pc ry 4),(pc ry 5),(pc ry 6),(pc ry 7),(pc ry 8),(pc ry 9)]),r0]
 (.ite bH
 (.ret (.tup [(pi 0),pT]))
 (.next ⟨[],[]⟩)))
 (.next ⟨[],[]⟩))
 (.ret (.tup [(pi 1),pT])))
theorem aei:H7.map told=some (VW,[]):=by kernel_rfl
theorem axD:tree (ab H7)=VW:=aF aei
def Ji:Option PC:=cF [4] [] Tryz.f93 93 []
def Xy:PT:=
 (.call ⟨[],[]⟩ [] 7 132 [r0,r1]
 (.ret (bD r7 (pi 0))))
theorem afl:Ji.map told=some (Xy,[]):=by kernel_rfl
theorem azv:tree (ab Ji)=Xy:=aF afl
def z8:Option PC:=cF [4,5] [] Tryz.f132 132 []
def O5:Nat→PC:=aZ z8
def asM (b:Nat→PC):PC:=.block 0 [4,8,9] [] (.loop [4,8] [] (b 0))
def Gy (b:Nat→PC):PT:=
 (.ite (ao r8 r7)
 (.chk (aq r0 r8)
 (.ite (ae r1 (pn r0 r8))
 (.ret r8)
 (.next ⟨[(8,oJ)],[]⟩)))
 (.exit 0 ⟨[(9,(ao r8 r7))],[]⟩))
def XD (b:Nat→PC):PT:=
 (.brk ⟨[(8,(pi 0)),(7,(.llen r0)),(4,(pi 0))],[]⟩
(asM b)
 (.ret (pi (-1))))
def anA (b:Nat→PC):PT×List (Shp×PT):=(XD b,[(.lp 0 [4,8,9] [] [4,8] [],Gy b)])
theorem Sr:z8.map told=some (anA (bl z8)):=by kernel_rfl
theorem azA:tree (ab z8)=XD O5:=bE Sr
theorem UM:round 0 [4,8,9] [] [4,8] [] (O5 0)=Gy O5:=aT Sr 0 fun _=>rfl
def y4:Option PC:=cF [8,9,11,12,13,14,55,70] [] Tryz.f154 154 [4,10,53]
def Oo:Nat→PC:=aZ y4
def arn (b:Nat→PC):PC:=.block 0 [] [] (.loop [8,9,10] [10] (b 0))
def TQ (b:Nat→PC):PT:=
 (.blockS ⟨[],[]⟩ 1 [8,9,10,11,12,13,14,32,33,35,36,37,38,39,40,41,42,43,44,45,46,49,50,52,53,54,55,56,57,58,68,70,71] [53,10]
 (.chk (aq bY (aS (.llen bY) (pi 1)))
 (.call ⟨[(11,(pn bY (aS (.llen bY) (pi 1))))],[]⟩ [] 41 176 [(ah 8 o4),(pn bY (aS (.llen bY) (pi 1))),r2,r3]
 (.ite (ae (.tget mH 0) bW)
 (.ret (.tup [bY,(pi 0)]))
 (.call ⟨[(13,(.tget mH 1)),(12,(.tget mH 0))],[]⟩ [] 50 93 [bY,(.tget mH 0)]
 (.chk (aX (.llen (.app bY (.lst [bQ]))) cq)
 (.chk (.nt (.an (.an gZ (.an (.nt (.nt cO)) pT)) (.nt (aq (pc o4 4) bQ))))
 (.ite (.pick (.nt cO) pT (.pick gZ (pc (pn (pc o4 4) bQ) 1) pF))
 (.ret (.tup [(.app bY (.lst [bQ])),(pi 0)]))
 (.ite gZ
 (.ret (.tup [(.app bY (.lst [bQ])),(pi 12)]))
 (.next ⟨[(10,pN)],[(10,(.app bY (.lst [bQ])))]⟩)))))))))
 (.next ⟨[],[]⟩))
def VB (b:Nat→PC):PT:=
 (.call ⟨[(9,(pi 0)),(8,pL)],[(4,(.mk [r0]))]⟩ [] 19 175 [fw,r1,r2,r3]
 (.chk (.nt (.an (.an (.nt (.nt gY)) pT) (.nt (aq r3 (pi 0)))))
 (.ite (.pick (.nt gY) pT (aC (pn r3 (pi 0)) r1))
 (.ret (.tup [pL,(pi 1)]))
 (.brk ⟨[(10,pN)],[(10,(.lst [r1]))]⟩
(arn b)
 (.next ⟨[],[]⟩)))))
def amA (b:Nat→PC):PT×List (Shp×PT):=(VB b,[(.lp 0 [] [] [8,9,10] [10],TQ b)])
theorem RN:y4.map told=some (amA (bl y4)):=by kernel_rfl
theorem axd:tree (ab y4)=VB Oo:=bE RN
theorem avy:round 0 [] [] [8,9,10] [10] (Oo 0)=TQ Oo:=aT RN 0 fun _=>rfl
def HO:Option PC:=cF [8] [] Tryz.f175 175 [4,9]
def vJ:PT:=
 (.ite (.pick (.pick (.pick (.pick (ao r1 (pi 0)) pT (bD r1 (pc (.setc Fg 0 (.llen xX)) 0))) pT (ao r2 (pi 0))) pT (bD r2 (pi 22))) pT (aC (.llen r3) (pi 5)))
 (.ret pF)
 (.call ⟨[],[]⟩ [] 35 199 [r3,(.clo 200 [(.ref (pc (.setc Fg 0 (.llen xX)) 0))])]
 (.ret (.nt nH))))
theorem adZ:HO.map told=some (vJ,[]):=by kernel_rfl
theorem axg:tree (ab HO)=vJ:=aF adZ
def HP:Option PC:=cF [3] [] Tryz.f200 200 []
def VD:PT:=
 (.ret (.pick ya pT (bD r0 (.deref r1))))
theorem ad0:HP.map told=some (VD,[]):=by kernel_rfl
theorem axf:tree (ab HP)=VD:=aF ad0
def Jh:Option PC:=cF [4] [] Tryz.f199 199 []
def Xx:PT:=
 (.call ⟨[],[]⟩ [] 7 217 [r0,r1]
 (.ret (bD r7 (pi 0))))
theorem afk:Jh.map told=some (Xx,[]):=by kernel_rfl
theorem azu:tree (ab Jh)=Xx:=aF afk
def z7:Option PC:=cF [4,5] [] Tryz.f217 217 []
def O4:Nat→PC:=aZ z7
def asL (b:Nat→PC):PC:=.block 0 [4,8,9] [] (.loop [4,8] [] (b 0))
def Gx (b:Nat→PC):PT:=
 (.ite (ao r8 r7)
 (.blockS ⟨[],[]⟩ 1 [4,5,10,11,12,13,14,15,16] []
 (.chk (aq r0 r8)
 (.callc ⟨[(5,r8)],[]⟩ [] 16 r1 [(pn r0 r8)]
 (.ite dA
 (.ret r5)
 (.next ⟨[],[]⟩))))
 (.next ⟨[(8,oJ)],[]⟩))
 (.exit 0 ⟨[(9,(ao r8 r7))],[]⟩))
def XC (b:Nat→PC):PT:=
 (.brk ⟨[(8,(pi 0)),(7,(.llen r0)),(4,(pi 0))],[]⟩
(asL b)
 (.ret (pi (-1))))
def anz (b:Nat→PC):PT×List (Shp×PT):=(XC b,[(.lp 0 [4,8,9] [] [4,8] [],Gx b)])
theorem Sq:z7.map told=some (anz (bl z7)):=by kernel_rfl
theorem azz:tree (ab z7)=XC O4:=bE Sq
theorem UL:round 0 [4,8,9] [] [4,8] [] (O4 0)=Gx O4:=aT Sq 0 fun _=>rfl
def y5:Option PC:=cF [8,9] [] Tryz.f176 176 [4,11]
def Oq:Nat→PC:=aZ y5
def aro (b:Nat→PC):PC:=.block 0 [8,9,25,26] [] (.loop [8,9,25] [] (b 0))
def FC (b:Nat→PC):PT:=
 (.ite (ao dV lh)
 (.chk (aq eF dV)
 (.ite (.pick (ae (pc Fo 0) r2) (aC (pc Fo 1) (pi 0)) pF)
 (.chk (aq r3 (pc Fo 1))
 (.ret (.tup [(pn r3 (pc Fo 1)),(pc Fo 2)])))
 (.next ⟨[(25,(aH dV (pi 1)))],[]⟩)))
 (.exit 0 ⟨[(26,(ao dV lh))],[]⟩))
def VC (b:Nat→PC):PT:=
 (.call ⟨[(9,pF),(8,(pi 0))],[(4,(.mk [r0]))]⟩ [] 16 175 [fw,r1,r2,r3]
 (.ite (.nt dA)
 (.ret (.tup [(pi (-1)),pF]))
 (.chk (aq (pc o4 4) r1)
 (.brk ⟨[(25,(pi 0)),(24,(.llen (pc (pn (pc o4 4) r1) 2))),(23,(pc (pn (pc o4 4) r1) 2))],[]⟩
(aro b)
 (.ret (.tup [r1,pF]))))))
def amB (b:Nat→PC):PT×List (Shp×PT):=(VC b,[(.lp 0 [8,9,25,26] [] [8,9,25] [],FC b)])
theorem RO:y5.map told=some (amB (bl y5)):=by kernel_rfl
theorem axe:tree (ab y5)=VC Oq:=bE RO
theorem TR:round 0 [8,9,25,26] [] [8,9,25] [] (Oq 0)=FC Oq:=aT RO 0 fun _=>rfl
def H6:Option PC:=cF [7,9,11,12] [] Tryz.f112 112 [3,6,8,10]
def VV:PT:=
 (.call ⟨[],[(6,cr)]⟩ [] 16 155 [(ah 4 (.mk [r0])),r1]
 (.ite (aC (.tget dA 1) (pi 0))
 (.ret (.tup [L5,(.tget dA 1)]))
 (.call ⟨[],[]⟩ [] 25 156 [(.mk [(pc (.setc mG 0 (.tget dA 0)) 0),(pc (.setc mG 0 (.tget dA 0)) 1),(pc (.setc mG 0 (.tget dA 0)) 2)]),r2]
 (.call ⟨[],[(10,(.setc cr 0 dV))]⟩ [] 28 152 [r1]
 (.ret (.tup [(.mk [(pc (.setc o6 0 (.mk [(pc L3 0),(pc L3 1)])) 0),(pc (.setc o6 0 (.mk [(pc L3 0),(pc L3 1)])) 1)]),(pi 0)]))))))
theorem aeh:H6.map told=some (VV,[]):=by kernel_rfl
theorem axC:tree (ab H6)=VV:=aF aeh
def H8:Option PC:=cF [5,6,7,8,10,11] [] Tryz.f155 155 [2,3,4,12292,9]
def VX:PT:=
 (.call ⟨[],[(4,mG),(3,(.mk [r1])),(2,(.mk [r0]))]⟩ [] 14 152 [xW]
 (.ite (.nt (.tget bH 1))
 (.ret (.tup [Tq,(pi 1)]))
 (.call ⟨[(6,(.tget bH 0))],[]⟩ [] 23 177 [(pc o2 3),(.clo 178 [(.ref (pc o3 0))])]
 (.ite (ao eF (pi 0))
 (.ret (.tup [Tq,(pi 4)]))
 (.chk (aq (pc o2 3) eF)
 (.call ⟨[],[(9,L8)]⟩ [] 35 179 [(.mk [(pc L8 0),(pc L8 1),(pc L8 2)])]
 (.ite (.pick (aC (.tget nH 1) (pi 0)) pT (aC (.tget nH 0) r6))
 (.ret (.tup [Tq,(pi 11)]))
 (.ret (.tup [(.mk [(pc Tc 0),(pc Tc 1),(pc Tc 2)]),(pi 0)])))))))))
theorem aej:H8.map told=some (VX,[]):=by kernel_rfl
theorem axF:tree (ab H8)=VX:=aF aej
def H9:Option PC:=cF [3] [] Tryz.f178 178 [2]
def VY:PT:=
 (.ret (ae iO (.deref r1)))
theorem aek:H9.map told=some (VY,[]):=by kernel_rfl
theorem axE:tree (ab H9)=VY:=aF aek
def zZ:Option PC:=cF [4,5] [] Tryz.f177 177 []
def O3:Nat→PC:=aZ zZ
def asK (b:Nat→PC):PC:=.block 0 [4,8,9] [] (.loop [4,8] [] (b 0))
def Gw (b:Nat→PC):PT:=
 (.ite (ao r8 r7)
 (.blockS ⟨[],[]⟩ 1 [4,5,10,11,12,13,14,15,16] []
 (.chk (aq r0 r8)
 (.callc ⟨[(5,r8)],[]⟩ [] 16 r1 [(pn r0 r8)]
 (.ite dA
 (.ret r5)
 (.next ⟨[],[]⟩))))
 (.next ⟨[(8,oJ)],[]⟩))
 (.exit 0 ⟨[(9,(ao r8 r7))],[]⟩))
def XB (b:Nat→PC):PT:=
 (.brk ⟨[(8,(pi 0)),(7,(.llen r0)),(4,(pi 0))],[]⟩
(asK b)
 (.ret (pi (-1))))
def anx (b:Nat→PC):PT×List (Shp×PT):=(XB b,[(.lp 0 [4,8,9] [] [4,8] [],Gw b)])
theorem Sp:zZ.map told=some (anx (bl zZ)):=by kernel_rfl
theorem azy:tree (ab zZ)=XB O3:=bE Sp
theorem UK:round 0 [4,8,9] [] [4,8] [] (O3 0)=Gw O3:=aT Sp 0 fun _=>rfl
def Jn:Option PC:=cF [2,3] [] Tryz.f179 179 [1]
def XM:PT:=
 (.call ⟨[],[(1,(.mk [r0]))]⟩ [] 5 201 [Fe,(pi 1)]
 (.ite (aP r5 (pi 60))
 (.ret (.tup [(pi 0),(pi 6)]))
 (.call ⟨[],[]⟩ [] 8 202 [Mb]
 (.ret (.tup [(.tget r8 0),(.tget r8 1)])))))
theorem aft:Jn.map told=some (XM,[]):=by kernel_rfl
theorem azI:tree (ab Jn)=XM:=aF aft
def wD:Option PC:=cF [4,5] [] Tryz.f201 201 [2,7,12295]
def Pa:Nat→PC:=aZ wD
def asU (b:Nat→PC):PC:=.block 0 [5,13,14] [] (.loop [5,13] [] (b 0))
def GC (b:Nat→PC):PT:=
 (.ite (ao cO bQ)
 (.blockS ⟨[(14,(ao cO bQ))],[]⟩ 1 [5,7,15,16,17,18,19,20,21,22,23,24] [7,12295]
 (.chk (aq bW cO)
 (.call ⟨[(17,r5)],[]⟩ [] 21 201 [(.mk [(pc (.setc mG 0 rq) 0),(pc (.setc mG 0 rq) 1),(pc (.setc mG 0 rq) 2)]),(aH r1 (pi 1))]
 (.ite (aP (aH fy iP) (pi 60))
 (.exit 0 ⟨[(5,(aH fy iP))],[]⟩)
 (.next ⟨[(5,(aH fy iP))],[]⟩))))
 (.next ⟨[(13,(aH cO (pi 1)))],[]⟩))
 (.exit 0 ⟨[(14,(ao cO bQ))],[]⟩))
def Nw (b:Nat→PC):PT:=
 (.ite (aP r1 (pi 8))
 (.ret (pi 61))
 (.brk ⟨[(13,(pi 0)),(12,qk),(11,Fl),(5,(pi 1))],[]⟩
(asU b)
 (.ret r5)))
def anH (b:Nat→PC):PT×List (Shp×PT):=(Nw b,[(.lp 0 [5,13,14] [] [5,13] [],GC b)])
theorem Sy:wD.map told=some (anH (bl wD)):=by kernel_rfl
theorem ah0:tree (ab wD)=Nw Pa:=bE Sy
theorem UR:round 0 [5,13,14] [] [5,13] [] (Pa 0)=GC Pa:=aT Sy 0 fun _=>rfl
end Rm
