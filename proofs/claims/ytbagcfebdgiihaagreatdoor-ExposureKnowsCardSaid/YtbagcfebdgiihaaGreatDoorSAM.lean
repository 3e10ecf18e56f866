/-
  The functions of this seat, compiled (3).
-/
import Derived.Test.YtbagcfebdgiihaaGreatDoorSAJ
import Derived.KernelRfl
set_option linter.unusedVariables false
set_option maxRecDepth 100000
noncomputable section
namespace Rm
open Go Go.Proofs Cx
def xI:Option PC:=cF [6,7,2] [] Tryz.f182 182 [3,9]
def Ax:Nat→PC:=br xI
def alB (b:Nat→PC):PC:=.block 2 [2,7,14,15] [] (.loop [2,7,14] [] (b 0))
def alC (b:Nat→PC):PC:=.block 0 [2,7,10] [] (.loop [2,7] [] (b 1))
def zu (b:Nat→PC):PT:=
 (.ite om
 (.chk (ao bU bD)
 (.next ⟨[(2,(.pick ZO (aG (pc ze 2) (pi 1)) r2)),(7,(.pick ZO pT r7)),(14,vS)],[]⟩))
 (.exit 2 ⟨[(15,om)],[]⟩))
def IP (b:Nat→PC):PT:=
 (.ite r7
 (.blockS ⟨[(10,r7)],[]⟩ 1 [2,7,11,12,13,14,15] []
 (.brk ⟨[(14,(pi 0)),(13,(.llen (pc o3 7))),(12,(pc o3 7)),(7,pF)],[]⟩
(alB b)
 (.next ⟨[],[]⟩))
 (.next ⟨[],[]⟩))
 (.exit 0 ⟨[(10,r7)],[]⟩))
def RX (b:Nat→PC):PT:=
 (.brk ⟨[(7,pT)],[(3,(.mk [r0]))]⟩
(alC b)
 (.ret r2))
def agm (b:Nat→PC):PT×List (Shp×PT):=(RX b,[(.lp 2 [2,7,14,15] [] [2,7,14] [],zu b),(.lp 0 [2,7,10] [] [2,7] [],IP b)])
theorem HM:xI.map told=some (agm (bj xI)):=by kernel_rfl
theorem aru:tree (ae xI)=RX Ax:=bO HM
theorem IN:round 2 [2,7,14,15] [] [2,7,14] [] (Ax 0)=zu Ax:=bn HM 0 fun _=>rfl
theorem aau:round 0 [2,7,10] [] [2,7] [] (Ax 1)=IP Ax:=bn HM 1 fun _=>rfl
def wX:Option PC:=cF [6] [] Tryz.f183 183 [2,4,5]
def J2:Nat→PC:=br wX
def aeF (b:Nat→PC):PC:=.each dI [16] [4,5] (some (.tup [(pc o4 0),(pc o5 0)])) (b 0)
def Ph (b:Nat→PC):PT:=
 (.exit 1000000007 ⟨[],[(4,(.setc o4 0 bx)),(5,(.setc o5 0 (pi 0)))]⟩)
def QE (b:Nat→PC):PT:=
 (.call ⟨[],[(5,CV),(4,CV),(2,(.mk [r0]))]⟩ [] 8 215 [r1]
 (.ite (.nt r8)
 (.ret (.tup [(pc (.setc o4 0 (pi 0)) 0),(pc (.setc o5 0 (pi 3)) 0)]))
 (.call ⟨[],[]⟩ [] 15 216 [(aD 6 o2),r1,(.mn (aG r1 (pi 400)) (pi 100000))]
 (.blockS ⟨[],[]⟩ 0 [] [4,5]
 (.callc ⟨[],[]⟩ [] 18 bF []
 (.brk ⟨[],[]⟩
(aeF b)
 (.next ⟨[],[]⟩)))
 (.ret (.tup [(pc (.setc o4 0 (pi 0)) 0),(pc (.setc o5 0 (pi 3)) 0)]))))))
def afz (b:Nat→PC):PT×List (Shp×PT):=(QE b,[(.ea [4,5],Ph b)])
theorem NK:wX.map told=some (afz (bj wX)):=by kernel_rfl
theorem apZ:tree (ae wX)=QE J2:=bO NK
theorem anZ:oA [4,5] (J2 0)=Ph J2:=Qo NK 0 fun _=>rfl
def EU:Option PC:=cF [6] [] Tryz.f216 216 [3,4,5]
def QG:PT:=
 (.ret (.clo 244 [(.ref (pc (.mk [r1]) 0)),(.ref (pc (.mk [r2]) 0)),(.ref (aD 6 (.mk [r0])))]))
theorem X6:EU.map told=some (QG,[]):=by kernel_rfl
theorem ap2:tree (ae EU)=QG:=ba X6
def qx:Option PC:=AN {ctx with fr:=[5],nh:=[]} Tryz.f244 [(.ref I),(.ref I),(.ref Y0)] [I] 1000 [1000]
def J3:Nat→PC:=br qx
def akt (b:Nat→PC):PC:=.block 0 [5,7,8,9] [1000] (.loop [5] [1000] (b 0))
def Iq (b:Nat→PC):PT:=
 (.ite (bB r5 (.deref r2))
 (.blockS ⟨[],[]⟩ 1 [12,13,14,15,20] [1000]
 (.call ⟨[],[]⟩ [] 14 245 [(.deref r3),r5]
 (.call ⟨[(15,bD)],[(1000,ZL)]⟩ [(15,true)] 18 1000000009 [ZL]
 (.ite (.pick bF (.nt dI) pF)
 (.ret (.o 1000))
 (.next ⟨[],[]⟩))))
 (.next ⟨[(5,(aG r5 (pi 1)))],[]⟩))
 (.exit 0 ⟨[(7,r5),(8,(.deref r2)),(9,(bB r5 (.deref r2)))],[]⟩))
def QH (b:Nat→PC):PT:=
 (.brk ⟨[(5,(.deref r1))],[]⟩
(akt b)
 (.ret (.o 1000)))
def afA (b:Nat→PC):PT×List (Shp×PT):=(QH b,[(.lp 0 [5,7,8,9] [1000] [5] [1000],Iq b)])
theorem NL:qx.map told=some (afA (bj qx)):=by kernel_rfl
theorem ap1:tree (ae qx)=QH J3:=bO NL
theorem aaa:round 0 [5,7,8,9] [1000] [5] [1000] (J3 0)=Iq J3:=bn NL 0 fun _=>rfl
theorem adi:∀yv,AN {ctx with fr:=[5],nh:=[],yv:=yv} Tryz.f244 [(.ref I),(.ref I),(.ref Y0)] [I] 1000 [1000]=some (ae qx):=fun yv=>(show _=qx by kernel_rfl).trans (av qx NL)
def EW:Option PC:=cF [4,5,6,7] [] Tryz.f245 245 [2]
def QI:PT:=
 (.call ⟨[],[(2,(.mk [r0]))]⟩ [] 10 241 [r1]
 (.chk (aP (pi 7) (pi 0))
 (.call ⟨[(7,(.tget bC 2)),(6,(.tget bC 1))],[]⟩ [] 19 185 [(pc o2 3),(.ai .rem .i64 (aG r1 (pi 5)) (pi 7))]
 (.call ⟨[(21,(.nt dR))],[]⟩ [(21,true)] 28 185 [(pc o2 4),(aG (.ai .mul .i64 (pi 100) r6) r7)]
 (.call ⟨[(31,(.pick fu (.nt oq) pF))],[]⟩ [(31,true)] 35 185 [(pc o2 5),r1]
 (.ret (.pick jW (.nt vU) pF)))))))
theorem X9:EW.map told=some (QI,[]):=by kernel_rfl
theorem ap4:tree (ae EW)=QI:=ba X9
def EP:Option PC:=cF [] [] Tryz.f74 74 [2,4,5,6,43]
def QA:PT:=
 (.chk (ao (pc (.mk [r0]) 25) r1)
 (.call ⟨[],[(6,(.setc ZQ 0 (.mk [r1,(pc CR 0),(pc CR 2),(pi 0),(pi 0),(pi 0),(.pick (aP (pc CR 0) (pi 1)) (peq (.ai .and .i64 (pc CR 8) (pi 1)) (pi 0)) pF)]))),(5,CR),(4,ZQ),(2,(.mk [r0]))]⟩ [] 33 113 [O0,r1,(pc (.mk [r0]) 9)]
 (.iteS ⟨[],[]⟩ (.nt pU) [] [6]
 (.call ⟨[(36,(pc o2 29))],[]⟩ [] 39 115 [(aD 31 o2),(pi 1),r1]
 (.call ⟨[],[]⟩ [] 42 115 [(aD 31 o2),(pi 2),r1]
 (.call ⟨[],[]⟩ [] 44 114 [(.lst [iV,rB,O7])]
 (.next ⟨[],[(6,(.setc o6 3 vV))]⟩))))
 (.next ⟨[],[]⟩)
 (.call ⟨[],[]⟩ [] 49 116 [(aD 31 o2),r1]
 (.ret (aD 7 (.setc o4 0 (aD 7 (.pick (.pick (peq (pc o5 0) (pi 1)) pT (peq (pc o5 0) (pi 4))) (.setc OZ 5 (.mn (pc OZ 5) (pc o5 5))) OZ)))))))))
theorem X0:EP.map told=some (QA,[]):=by kernel_rfl
theorem apV:tree (ae EP)=QA:=ba X0
def FK:Option PC:=cF [6] [] Tryz.f113 113 [3]
def Sa:PT:=
 (.call ⟨[(16,(.pick (cg r1 (pi 0)) (ah r1 (.llen mS)) pF))],[]⟩ [(16,true)] 19 176 [(aD 19 (.mk [r0])),r2]
 (.ret (.pick bx (.look dR r1 pF) pF)))
theorem Zd:FK.map told=some (Sa,[]):=by kernel_rfl
theorem arJ:tree (ae FK)=Sa:=ba Zd
def xL:Option PC:=cF [4] [] Tryz.f176 176 [2,5,7]
def Kz:Nat→PC:=br xL
def alH (b:Nat→PC):PC:=.block 0 [12,13] [5] (.loop [12] [5] (b 0))
def DC (b:Nat→PC):PT:=
 (.ite oo
 (.chk (ao bC bU)
 (.ite (.pick (peq (pc (.setc z9 0 ry) 0) (pi 7)) (bB (pc (.setc z9 0 ry) 6) r1) pF)
 (.chk (ah (.mlen o5) cn)
 (.next ⟨[(12,zi)],[(5,(.put o5 (pc (.setc z9 0 ry) 4) pT))]⟩))
 (.next ⟨[(12,zi)],[]⟩)))
 (.exit 0 ⟨[(13,oo)],[]⟩))
def Sb (b:Nat→PC):PT:=
 (.brk ⟨[(12,(pi 0)),(11,(.llen (pc (.mk [r0]) 17))),(10,(pc (.mk [r0]) 17)),(5,pN)],[(5,(.con (.map [])))]⟩
(alH b)
 (.ret o5))
def agq (b:Nat→PC):PT×List (Shp×PT):=(Sb b,[(.lp 0 [12,13] [5] [12] [5],DC b)])
theorem Oe:xL.map told=some (agq (bj xL)):=by kernel_rfl
theorem arK:tree (ae xL)=Sb Kz:=bO Oe
theorem PX:round 0 [12,13] [5] [12] [5] (Kz 0)=DC Kz:=bn Oe 0 fun _=>rfl
def ER:Option PC:=cF [6] [] Tryz.f115 115 [3,7]
def QB:PT:=
 (.call ⟨[],[]⟩ [] 23 33 [kW,(pc (.mk [r0]) 8),r1,(aD 24 (.setc ZB 0 (.mk [O0,r2,r2,(pi (-1)),(pc (.mk [r0]) 30),(pc (.mk [r0]) 9)])))]
 (.call ⟨[],[]⟩ [] 24 35 [dJ]
 (.ret jt)))
theorem X1:ER.map told=some (QB,[]):=by kernel_rfl
theorem apW:tree (ae ER)=QB:=ba X1
def wV:Option PC:=cF [2,3,5,12,15] [] Tryz.f114 114 []
def J0:Nat→PC:=br wV
def akr (b:Nat→PC):PC:=.block 0 [2,3,8,9] [] (.loop [2,3,8] [] (b 0))
def C0 (b:Nat→PC):PT:=
 (.ite (ah r8 r7)
 (.chk (ao r6 r8)
 (.ite (peq (pn r6 r8) (pi 0))
 (.ret (pi 0))
 (.next ⟨[(3,(.pick (peq (pn r6 r8) (pi 2)) (pi 2) r3)),(8,og)],[]⟩)))
 (.exit 0 ⟨[(9,(ah r8 r7))],[]⟩))
def Qy (b:Nat→PC):PT:=
 (.brk ⟨[(8,(pi 0)),(7,(.llen r0)),(6,r0),(3,(pi 1)),(2,(pi 0))],[]⟩
(akr b)
 (.ret r3))
def afx (b:Nat→PC):PT×List (Shp×PT):=(Qy b,[(.lp 0 [2,3,8,9] [] [2,3,8] [],C0 b)])
theorem NI:wV.map told=some (afx (bj wV)):=by kernel_rfl
theorem apT:tree (ae wV)=Qy J0:=bO NI
theorem Pf:round 0 [2,3,8,9] [] [2,3,8] [] (J0 0)=C0 J0:=bn NI 0 fun _=>rfl
def wW:Option PC:=cF [4,5,6,7,10,50,54] [] Tryz.f116 116 [2,9]
def J1:Nat→PC:=br wW
def aks (b:Nat→PC):PC:=.block 0 [7,23,24] [] (.loop [7,23] [] (b 0))
def C1 (b:Nat→PC):PT:=
 (.ite (ah dJ rz)
 (.chk (ao fu dJ)
 (.next ⟨[(7,(.pick r7 pT (bh (pc (.setc z2 0 (pn fu dJ)) 0) r1))),(23,(aG dJ (pi 1)))],[]⟩))
 (.exit 0 ⟨[(24,(ah dJ rz))],[]⟩))
def QC (b:Nat→PC):PT:=
 (.call ⟨[(5,(pi 0))],[(2,(.mk [r0]))]⟩ [] 14 177 [O0,r1]
 (.brk ⟨[(23,(pi 0)),(22,(.llen (pc o2 26))),(21,(pc o2 26)),(7,pF),(6,(.llen (pc o2 26))),(5,bD)],[]⟩
(aks b)
 (.ite (.nt r7)
 (.ret (.tup [(pi 0),r5]))
 (.chk (ao (pc o2 26) (bH r6 (pi 1)))
 (.call ⟨[(10,(pc (pn (pc o2 26) (bH r6 (pi 1))) 1))],[]⟩ [] 48 115 [(aD 31 o2),(pi 4),r1]
 (.ite (peq kz (pi 1))
 (.ret (.tup [kz,bC]))
 (.ite (peq kz (pi 2))
 (.ret (.tup [kz,(.mn r5 bC)]))
 (.ret (.tup [kz,r5])))))))))
def afy (b:Nat→PC):PT×List (Shp×PT):=(QC b,[(.lp 0 [7,23,24] [] [7,23] [],C1 b)])
theorem NJ:wW.map told=some (afy (bj wW)):=by kernel_rfl
theorem apX:tree (ae wW)=QC J1:=bO NJ
theorem Pg:round 0 [7,23,24] [] [7,23] [] (J1 0)=C1 J1:=bn NJ 0 fun _=>rfl
def xc:Option PC:=cF [4,5] [] Tryz.f177 177 [2,7]
def Ka:Nat→PC:=br xc
def akU (b:Nat→PC):PC:=.block 0 [5,14,15] [] (.loop [5,14] [] (b 0))
def Iz (b:Nat→PC):PT:=
 (.ite om
 (.chk (ao bU bD)
 (.next ⟨[(5,(.pick (bB (pc (.setc z2 0 (pn bU bD)) 0) r1) (pc (.setc z2 0 (pn bU bD)) 1) r5)),(14,vS)],[]⟩))
 (.exit 0 ⟨[(15,om)],[]⟩))
def Q4 (b:Nat→PC):PT:=
 (.brk ⟨[(14,(pi 0)),(13,(.llen (pc (.mk [r0]) 16))),(12,(pc (.mk [r0]) 16)),(5,(pc (.mk [r0]) 3))],[]⟩
(akU b)
 (.ret r5))
def afP (b:Nat→PC):PT×List (Shp×PT):=(Q4 b,[(.lp 0 [5,14,15] [] [5,14] [],Iz b)])
theorem NQ:xc.map told=some (afP (bj xc)):=by kernel_rfl
theorem aqv:tree (ae xc)=Q4 Ka:=bO NQ
theorem aaj:round 0 [5,14,15] [] [5,14] [] (Ka 0)=Iz Ka:=bn NQ 0 fun _=>rfl
def E2:Option PC:=cF [8,9,10,11,12,14,15,16,17,18,19,20,21,22,23] [] Tryz.f5 5 [4,13,94]
def akL (b:Nat→PC):PC:=.block 0 [8,10,39,40,41,42] [] (.loop [8,10] [] (b 0))
def akM (b:Nat→PC):PC:=.block 2 [13,14,85,86,87,88,89] [13] (.loop [13,14] [13] (b 1))
def akN (b:Nat→PC):PC:=.block 10 [18,21,134,135,136,137] [] (.loop [18,21] [] (b 2))
def akO (b:Nat→PC):PC:=.block 8 [18,20,128,129,130,131] [] (.loop [18,20] [] (b 3))
def akP (b:Nat→PC):PC:=.block 12 [22,23,176,177,178,179,180,181,182,183] [] (.loop [22,23] [] (b 4))
def akQ (b:Nat→PC):PC:=.block 6 [8,17,118,119,120,121,122] [] (.loop [8,17] [] (b 5))
def akR (b:Nat→PC):PC:=.block 4 [8,12,15,96,97,98,99] [] (.loop [8,12,15] [] (b 6))
def an8 (b:Nat→PC):PT:=
 (.ite (ah bC (.llen r2))
 (.blockS ⟨[],[]⟩ 1 [8,45,46,47,48,49,50,51,52,59,60,68] []
 (.chk (ao r2 bC)
 (.call ⟨[],[]⟩ [] 50 13 [(aD 8 o4),(pn r2 bC)]
 (.chk (.nt (.an (.an (.nt (.nt kA)) pT) (.nt (ao r2 bC))))
 (.call ⟨[(52,(.nt kA))],[]⟩ [(52,false)] 57 15 [(pn r2 bC)]
 (.chk (.nt (.an (.an (.nt (.pick ot pT (.nt zl))) pT) (.nt (ao r2 bC))))
 (.call ⟨[(60,(.pick ot pT (.nt zl)))],[]⟩ [(60,false)] 66 16 [(aD 8 o4),(pn r2 bC)]
 (.ite (.pick vW pT (aP O9 (pi 0)))
 (.ret r9)
 (.next ⟨[],[]⟩))))))))
 (.next ⟨[(10,(aG bC (pi 1)))],[]⟩))
 (.exit 0 ⟨[(39,bC),(40,r2),(41,(.llen r2)),(42,(ah bC (.llen r2)))],[]⟩))
def an9 (b:Nat→PC):PT:=
 (.ite (ah bD td)
 (.chk (bB (.llen (.app y1 (.lst [bD]))) cn)
 (.next ⟨[(13,pN),(14,vS)],[(13,(.app y1 (.lst [bD])))]⟩))
 (.exit 2 ⟨[(85,bD),(86,pN),(87,(pc o4 2)),(88,td),(89,(ah bD td))],[]⟩))
def aoa (b:Nat→PC):PT:=
 (.ite (ah fu (.llen dR))
 (.chk (.nt (.an (.an (.nt dI) pT) (.nt (ao bx bR))))
 (.chk (.nt (.an (.an (peq (pc (pn bx bR) 3) (pi 1)) (.an (.nt dI) pT)) (.nt (ao bx bR))))
 (.chk (.nt (.an (.an (peq (pc (pn bx bR) 3) (pi 1)) (.an (.nt dI) pT)) (.nt (ao dR fu))))
 (.chk (.nt (.an (.an OU (.an (.nt dI) pT)) (.nt (ao bx bR))))
 (.chk (.nt (.an (.an (.nt (peq (pc (pn bx bR) 1) (pi 1))) (.an OU (.an (.nt dI) pT))) (.nt (ao bx bR))))
 (.next ⟨[(18,(.pick dI pT (.pick OU (.pick (peq (pc (pn bx bR) 1) (pi 1)) pT (pc (pn bx bR) 6)) pF))),(21,(aG fu (pi 1)))],[]⟩))))))
 (.exit 10 ⟨[(134,fu),(135,dR),(136,(.llen dR)),(137,(ah fu (.llen dR)))],[]⟩))
def aob (b:Nat→PC):PT:=
 (.ite (ah bR (.llen bx))
 (.blockS ⟨[(131,(ah bR (.llen bx))),(130,(.llen bx)),(129,bx),(128,bR)],[]⟩ 9 [18,21,134,135,136,137] []
 (.brk ⟨[(21,(pi 0))],[]⟩
(akN b)
 (.next ⟨[],[]⟩))
 (.next ⟨[(20,(aG bR (pi 1)))],[]⟩))
 (.exit 8 ⟨[(128,bR),(129,bx),(130,(.llen bx)),(131,(ah bR (.llen bx)))],[]⟩))
def aoc (b:Nat→PC):PT:=
 (.chk (ao bz bF)
 (.ite (ah dJ (.llen vQ))
 (.chk (.nt (.an (.an (.nt rz) pT) (.nt (ao bz bF))))
 (.chk (.nt (.an (.an (.nt rz) pT) (.nt (ao vQ dJ))))
 (.next ⟨[(22,(.pick rz pT (peq (pn vQ dJ) dt))),(23,(aG dJ (pi 1)))],[]⟩)))
 (.exit 12 ⟨[(176,dJ),(177,bz),(178,bF),(179,(.ref (pn bz bF))),(180,(.ref vQ)),(181,vQ),(182,(.llen vQ)),(183,(ah dJ (.llen vQ)))],[]⟩)))
def aod (b:Nat→PC):PT:=
 (.ite (ah dt td)
 (.blockS ⟨[(122,(ah dt td)),(121,td),(120,(pc o4 2)),(119,pN),(118,dt)],[]⟩ 7 [8,18,19,20,22,23,125,126,127,128,129,130,131,176,177,178,179,180,181,182,183,199,200,201] []
 (.call ⟨[(18,pF)],[]⟩ [] 127 22 [(aD 8 o4),dt]
 (.brk ⟨[(20,(pi 0)),(19,ZY)],[]⟩
(akO b)
 (.brk ⟨[(23,(pi 0)),(22,pF)],[]⟩
(akP b)
 (.ite (.cb .neq rz dI)
 (.ret pF)
 (.next ⟨[],[]⟩)))))
 (.next ⟨[(17,(aG dt (pi 1)))],[]⟩))
 (.exit 6 ⟨[(118,dt),(119,pN),(120,(pc o4 2)),(121,td),(122,(ah dt td))],[]⟩))
def aoe (b:Nat→PC):PT:=
 (.ite (ah bF (.llen r2))
 (.blockS ⟨[(99,(ah bF (.llen r2))),(98,(.llen r2)),(97,r2),(96,bF)],[]⟩ 5 [8,12,16,17,102,103,104,105,106,107,108,109,110,111,112,113,114,115,116,117,118,119,120,121,122,202,203,204,205,206,207,208,209,210,211,212,213] []
 (.chk (ao r2 bF)
 (.call ⟨[(12,(aG bU (pc (.sub (pn r2 bF) 0 15) 3)))],[]⟩ [] 117 21 [(aD 8 o4),r1,(pn r2 bF),r3]
 (.brk ⟨[(17,(pi 0)),(16,anJ)],[]⟩
(akQ b)
 (.chk (ao bz bF)
 (.chk (ao r2 bF)
 (.ite (aP (pc (pn bz bF) 0) (pc (.sub (pn r2 bF) 0 15) 3))
 (.ret pF)
 (.next ⟨[],[]⟩)))))))
 (.next ⟨[(15,(aG bF (pi 1)))],[]⟩))
 (.exit 4 ⟨[(96,bF),(97,r2),(98,(.llen r2)),(99,(ah bF (.llen r2)))],[]⟩))
def aqn (b:Nat→PC):PT:=
 (.call ⟨[(8,pF)],[(4,(.mk [r0]))]⟩ [] 24 12 []
 (.call ⟨[(9,jt)],[]⟩ [] 26 19 [(aD 8 o4)]
 (.call ⟨[(28,(.nt ib))],[]⟩ [(28,false)] 30 14 [(aD 8 o4)]
 (.ite (.pick (.pick oq pT (aP rA (pi 0))) pT (bh (.llen r2) (pi 4)))
 (.ret r9)
 (.brk ⟨[(10,(pi 0))],[]⟩
(akL b)
 (.call ⟨[],[]⟩ [] 74 17 [(aD 8 o4),r1,r2,r3]
 (.call ⟨[(80,(aP (.llen zn) (.llen r2))),(11,zn)],[]⟩ [(80,false)] 82 20 [zn]
 (.ite (.pick rE pT (.nt ju))
 (.ret pF)
 (.brk ⟨[(14,(pi 0)),(13,pN),(12,(pi 0))],[(13,pL)]⟩
(akM b)
 (.brk ⟨[(15,(pi 0))],[]⟩
(akR b)
 (.call ⟨[(215,r9)],[]⟩ [(215,true)] 218 18 [bz,y1]
 (.ret (.pick (.r 215) (peq (.r 218) bU) pF)))))))))))))
def afN (b:Nat→PC):PT×List (Shp×PT):=(aqn b,[(.lp 0 [8,10,39,40,41,42] [] [8,10] [],an8 b),(.lp 2 [13,14,85,86,87,88,89] [13] [13,14] [13],an9 b),(.lp 10 [18,21,134,135,136,137] [] [18,21] [],aoa b),(.lp 8 [18,20,128,129,130,131] [] [18,20] [],aob b),(.lp 12 [22,23,176,177,178,179,180,181,182,183] [] [22,23] [],aoc b),(.lp 6 [8,17,118,119,120,121,122] [] [8,17] [],aod b),(.lp 4 [8,12,15,96,97,98,99] [] [8,12,15] [],aoe b)])
theorem amI:E2.map told=some (afN (bj E2)):=by kernel_rfl
def Fj:Option PC:=cF [4,6] [] Tryz.f22 22 [2,5,7]
def ak5 (b:Nat→PC):PC:=.block 0 [5,11,12] [5] (.loop [5,11] [5] (b 0))
def aoh (b:Nat→PC):PT:=
 (.ite tj
 (.chk (ao r9 bz)
 (.ite (peq (pc (.setc OX 0 (pn r9 bz)) 2) r1)
 (.chk (bB (.llen (.app o5 (.lst [bz]))) cn)
 (.next ⟨[(5,pN),(11,zj)],[(5,(.app o5 (.lst [bz])))]⟩))
 (.next ⟨[(11,zj)],[]⟩)))
 (.exit 0 ⟨[(12,tj)],[]⟩))
def aqQ (b:Nat→PC):PT:=
 (.brk ⟨[(11,(pi 0)),(10,(.llen (pc (.mk [r0]) 3))),(9,(pc (.mk [r0]) 3)),(5,pN)],[(5,pL)]⟩
(ak5 b)
 (.ret o5))
def afZ (b:Nat→PC):PT×List (Shp×PT):=(aqQ b,[(.lp 0 [5,11,12] [5] [5,11] [5],aoh b)])
theorem amJ:Fj.map told=some (afZ (bj Fj)):=by kernel_rfl
def EM:Option PC:=kG {ctx with fr:=[6],nh:=[]} Tryz.f128 ⟨[Y8,I,oN],.slice I,.dat⟩ [3,5,7,8,42,9]
def Qw:PT:=
 (.chk (ao (pc (.mk [r2]) 15) (pc (.mk [r2]) 19))
 (.ite ZD
 (.ret pL)
 (.chk (.an (cg (pi 5) (pi 0)) (bB (pi 5) cn))
 (.chk (peq (pi 5) (pi 5))
 (.chk (ao (.rep (pi 5) (pi 0)) (pi 0))
 (.call ⟨[],[(9,(.setn (.rep (pi 5) (pi 0)) (pi 0) 0 r1)),(8,(.setc Jw 0 (aD 15 (.mk [r2])))),(7,zb),(3,(.mk [r0]))]⟩ [] 50 181 [kW,(pc zb 7)]
 (.chk (ao o9 (pi 1))
 (.call ⟨[],[(9,(.setn o9 (pi 1) 0 kA))]⟩ [] 56 181 [(aD 8 o3),(pc o8 10)]
 (.chk (ao o9 (pi 2))
 (.call ⟨[],[(9,(.setn o9 (pi 2) 0 ou))]⟩ [] 62 181 [(aD 8 o3),(pc o8 9)]
 (.chk (ao o9 (pi 3))
 (.chk (ao (pc o3 3) (pc o7 2))
 (.call ⟨[],[(9,(.setn o9 (pi 3) 0 mW))]⟩ [] 73 181 [(aD 8 o3),(pc (pn (pc o3 3) (pc o7 2)) 1)]
 (.chk (ao o9 (pi 4))
 (.call ⟨[],[(9,(.setn o9 (pi 4) 0 CY))]⟩ [] 76 185 [(.setn o9 (pi 4) 0 CY),(pi (-1))]
 (.ite rD
 (.ret pL)
 (.ret o9)))))))))))))))))
theorem XX:EM.map told=some (Qw,[]):=by kernel_rfl
theorem apQ:tree (ae EM)=Qw:=ba XX
def EN:Option PC:=kG {ctx with fr:=[6],nh:=[]} Tryz.f128 ⟨[Y8,I,oN],.nils .bool,.dat⟩ [3,5,7,8,42,9]
def Ji:PT:=
 (.chk (ao (pc (.mk [r2]) 15) (pc (.mk [r2]) 19))
 (.ite ZD
 (.ret pL)
 (.chk (.an (cg (pi 5) (pi 0)) (bB (pi 5) cn))
 (.chk (peq (pi 5) (pi 5))
 (.chk (ao (.rep (pi 5) (pi 0)) (pi 0))
 (.call ⟨[],[(9,(.setn (.rep (pi 5) (pi 0)) (pi 0) 0 r1)),(8,(.setc Jw 0 (aD 15 (.mk [r2])))),(7,zb),(3,(.mk [r0]))]⟩ [] 50 181 [kW,(pc zb 7)]
 (.chk (ao o9 (pi 1))
 (.call ⟨[],[(9,(.setn o9 (pi 1) 0 kA))]⟩ [] 56 181 [(aD 8 o3),(pc o8 10)]
 (.chk (ao o9 (pi 2))
 (.call ⟨[],[(9,(.setn o9 (pi 2) 0 ou))]⟩ [] 62 181 [(aD 8 o3),(pc o8 9)]
 (.chk (ao o9 (pi 3))
 (.chk (ao (pc o3 3) (pc o7 2))
 (.call ⟨[],[(9,(.setn o9 (pi 3) 0 mW))]⟩ [] 73 181 [(aD 8 o3),(pc (pn (pc o3 3) (pc o7 2)) 1)]
 (.chk (ao o9 (pi 4))
 (.call ⟨[],[]⟩ [] 76 185 [(.setn o9 (pi 4) 0 CY),(pi (-1))]
 (.ite rD
 (.ret pL)
 (.chk pF
 (.next ⟨[],[]⟩))))))))))))))))))
theorem XY:EN.map told=some (Ji,[]):=by kernel_rfl
theorem apR:tree (ae EN)=Ji:=ba XY
end Rm
