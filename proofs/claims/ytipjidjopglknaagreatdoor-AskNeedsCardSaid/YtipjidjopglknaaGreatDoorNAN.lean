/-
  The functions of this seat, compiled (3).
-/
import Derived.Test.YtipjidjopglknaaGreatDoorNAK
import Derived.KernelRfl
set_option linter.unusedVariables false
set_option maxRecDepth 100000
noncomputable section
namespace Rm
open Go Go.Proofs Cx
def HU:Option PC:=cF [4] [] Tryz.f163 163 []
def Uq:PT:=
 (.chk (ar r0 r1)
 (.call ⟨[],[]⟩ [] 9 199 [(pn r0 r1)]
 (.ite (.nt r9)
 (.ret (pi 2))
 (.chk (.slok r0 (pi 0) r1)
 (.chk (ar r0 r1)
 (.call ⟨[],[]⟩ [] 18 200 [(.slc r0 (pi 0) r1),(pn r0 r1)]
 (.ite eg
 (.ret (pi 5))
 (.ret (pi 0)))))))))
theorem abG:HU.map told=some (Uq,[]):=by kernel_rfl
theorem aue:tree (ae HU)=Uq:=ba abG
def zf:Option PC:=cF [2,3,4,5] [] Tryz.f199 199 []
def MN:Nat→PC:=br zf
def aoC (b:Nat→PC):PC:=.block 0 [2,16,17] [] (.loop [2,16] [] (b 0))
def FM (b:Nat→PC):PT:=
 (.ite (aj cN gZ)
 (.chk (ar dx cN)
 (.ite (.pick (.nt (.pick (.pick (cL rK (.con (.v (.int .u8 97)))) (bM rK (.con (.v (.int .u8 122)))) pF) pT (.pick (cL rK (.con (.v (.int .u8 65)))) (bM rK (.con (.v (.int .u8 90)))) pF))) (.pick (peq cN (pi 0)) pT (.pick (aU rK (.con (.v (.int .u8 95)))) (.pick (aj rK (.con (.v (.int .u8 48)))) pT (aZ rK (.con (.v (.int .u8 57))))) pF)) pF)
 (.ret pF)
 (.next ⟨[(16,(aN cN (pi 1)))],[]⟩)))
 (.exit 0 ⟨[(17,(aj cN gZ))],[]⟩))
def Up (b:Nat→PC):PT:=
 (.ite (.pick (.cs .eql r0 (.con (.v (.string ⟨#[]⟩)))) pT (aZ (.slen r0) (pi 20)))
 (.ret pF)
 (.chk (bM (.slen r0) cM)
 (.brk ⟨[(16,(pi 0)),(15,(.llen (.bytes r0))),(14,(.bytes r0)),(2,pF)],[]⟩
(aoC b)
 (.ret pT))))
def ajP (b:Nat→PC):PT×List (Shp×PT):=(Up b,[(.lp 0 [2,16,17] [] [2,16] [],FM b)])
theorem QA:zf.map told=some (ajP (bq zf)):=by kernel_rfl
theorem aud:tree (ae zf)=Up MN:=bN QA
theorem R6:round 0 [2,16,17] [] [2,16] [] (MN 0)=FM MN:=bj QA 0 fun _=>rfl
def H2:Option PC:=cF [4] [] Tryz.f200 200 []
def UG:PT:=
 (.call ⟨[],[]⟩ [] 7 215 [r0,r1]
 (.ret (cL r7 (pi 0))))
theorem abN:H2.map told=some (UG,[]):=by kernel_rfl
theorem auv:tree (ae H2)=UG:=ba abN
def zu:Option PC:=cF [4,5] [] Tryz.f215 215 []
def MV:Nat→PC:=br zu
def ao0 (b:Nat→PC):PC:=.block 0 [4,8,9] [] (.loop [4,8] [] (b 0))
def F4 (b:Nat→PC):PT:=
 (.ite (aj r8 r7)
 (.chk (ar r0 r8)
 (.ite (.cs .eql r1 (pn r0 r8))
 (.ret r8)
 (.next ⟨[(8,tC)],[]⟩)))
 (.exit 0 ⟨[(9,(aj r8 r7))],[]⟩))
def UL (b:Nat→PC):PT:=
 (.brk ⟨[(8,(pi 0)),(7,(.llen r0)),(4,(pi 0))],[]⟩
(ao0 b)
 (.ret (pi (-1))))
def aj4 (b:Nat→PC):PT×List (Shp×PT):=(UL b,[(.lp 0 [4,8,9] [] [4,8] [],F4 b)])
theorem QH:zu.map told=some (aj4 (bq zu)):=by kernel_rfl
theorem auB:tree (ae zu)=UL MV:=bN QH
theorem Sp:round 0 [4,8,9] [] [4,8] [] (MV 0)=F4 MV:=bj QH 0 fun _=>rfl
def HO:Option PC:=cF [2] [] Tryz.f130 130 []
def Ug:PT:=
 (.ret pT)
theorem abA:HO.map told=some (Ug,[]):=by kernel_rfl
theorem at1:tree (ae HO)=Ug:=ba abA
def HP:Option PC:=cF [3] [] Tryz.f131 131 []
def Uh:PT:=
 (.chk (ar (pc (.deref r1) 1) r0)
 (.call ⟨[],[]⟩ [] 10 132 [(.deref r1),(pn (pc (.deref r1) 1) r0)]
 (.ret di)))
theorem abB:HP.map told=some (Uh,[]):=by kernel_rfl
theorem at2:tree (ae HP)=Uh:=ba abB
def zd:Option PC:=cF [4,6] [] Tryz.f132 132 [2,3]
def ML:Nat→PC:=br zd
def aoA (b:Nat→PC):PC:=.block 0 [4,10,11] [] (.loop [4,10] [] (b 0))
def FK (b:Nat→PC):PT:=
 (.ite (aj di r9)
 (.chk (ar r8 di)
 (.chk Bl
 (.chk (.nt (.an (.an (.nt (aj Q8 (pi 1))) pT) (.nt Bl)))
 (.ite (.pick (aj Q8 (pi 1)) pT (aZ Q8 (pi 31)))
 (.ret pF)
 (.next ⟨[(10,(aN di (pi 1)))],[]⟩)))))
 (.exit 0 ⟨[(11,(aj di r9))],[]⟩))
def Um (b:Nat→PC):PT:=
 (.brk ⟨[(10,(pi 0)),(9,(.llen (pc (.mk [r1]) 4))),(8,(pc (.mk [r1]) 4)),(4,pF)],[(3,(.mk [r1])),(2,(.mk [r0]))]⟩
(aoA b)
 (.call ⟨[(33,(.pick (aZ (.llen (pc o3 4)) (pi 60)) pT (aZ (.llen (pc o3 5)) (pi 200))))],[]⟩ [(33,false)] 39 105 [(pc o3 1),(.llen (pc o2 4))]
 (.call ⟨[(42,(.pick tG pT (.nt E9)))],[]⟩ [(42,false)] 48 105 [(pc o3 2),(.llen (pc o2 0))]
 (.ite (.pick r42 pT (.nt mH))
 (.ret pF)
 (.call ⟨[],[]⟩ [] 53 164 [(pc o3 3),(pi 0),(pi 6)]
 (.call ⟨[(54,Ru)],[]⟩ [(54,true)] 57 164 [(pc o3 4),(pi 101),(pi 1231)]
 (.call ⟨[(59,(.pick qx Ky pF))],[]⟩ [(59,true)] 62 164 [(pc o3 5),(pi 0),(pi 100000)]
 (.ret (.pick Rv ny pF)))))))))
def ajN (b:Nat→PC):PT×List (Shp×PT):=(Um b,[(.lp 0 [4,10,11] [] [4,10] [],FK b)])
theorem Qy:zd.map told=some (ajN (bq zd)):=by kernel_rfl
theorem aua:tree (ae zd)=Um ML:=bN Qy
theorem R4:round 0 [4,10,11] [] [4,10] [] (ML 0)=FK ML:=bj Qy 0 fun _=>rfl
def zj:Option PC:=cF [6,7,8] [] Tryz.f164 164 []
def MO:Nat→PC:=br zj
def aoK (b:Nat→PC):PC:=.block 0 [6,11,12] [] (.loop [6,11] [] (b 0))
def vi (b:Nat→PC):PT:=
 (.ite (aj bH di)
 (.chk (ar r9 bH)
 (.chk (.nt (.an (.an (aZ bH (pi 0)) (.an (.nt (.pick (aj (pn r9 bH) r1) pT (aZ (pn r9 bH) r2))) pT)) (.nt (ar r0 (bD bH (pi 1))))))
 (.ite (.pick (.pick (aj (pn r9 bH) r1) pT (aZ (pn r9 bH) r2)) pT (.pick (aZ bH (pi 0)) (bM (pn r9 bH) (pn r0 (bD bH (pi 1)))) pF))
 (.ret pF)
 (.next ⟨[(11,(aN bH (pi 1)))],[]⟩))))
 (.exit 0 ⟨[(12,(aj bH di))],[]⟩))
def Uu (b:Nat→PC):PT:=
 (.brk ⟨[(11,(pi 0)),(10,(.llen r0)),(9,r0),(6,pF)],[]⟩
(aoK b)
 (.ret pT))
def ajT (b:Nat→PC):PT×List (Shp×PT):=(Uu b,[(.lp 0 [6,11,12] [] [6,11] [],vi b)])
theorem QB:zj.map told=some (ajT (bq zj)):=by kernel_rfl
theorem aui:tree (ae zj)=Uu MO:=bN QB
theorem BA:round 0 [6,11,12] [] [6,11] [] (MO 0)=vi MO:=bj QB 0 fun _=>rfl
def HQ:Option PC:=cF [3] [] Tryz.f133 133 []
def Ui:PT:=
 (.chk (ar (pc (.deref r1) 3) r0)
 (.call ⟨[],[]⟩ [] 13 105 [(pc (pn (pc (.deref r1) 3) r0) 1),(.llen (pc (.deref r1) 1))]
 (.chk (.nt (.an (.an cR pT) (.nt (ar (pc (.deref r1) 3) r0))))
 (.call ⟨[(14,cR)],[]⟩ [(14,true)] 24 105 [(pc (pn (pc (.deref r1) 3) r0) 2),(.llen (pc (.deref r1) 2))]
 (.ret (.pick dx oT pF))))))
theorem abC:HQ.map told=some (Ui,[]):=by kernel_rfl
theorem at3:tree (ae HQ)=Ui:=ba abC
def HR:Option PC:=cF [3] [] Tryz.f134 134 []
def Uj:PT:=
 (.chk (ar (pc (.deref r1) 4) r0)
 (.call ⟨[],[]⟩ [] 9 135 [(pn (pc (.deref r1) 4) r0)]
 (.ret r9)))
theorem abD:HR.map told=some (Uj,[]):=by kernel_rfl
theorem at4:tree (ae HR)=Uj:=ba abD
def zh:Option PC:=cF [2] [] Tryz.f135 135 [1,3,4,6,19,8,16392,36]
def Co:Nat→PC:=br zh
def aoG (b:Nat→PC):PC:=.block 0 [2,3,12,13] [3] (.loop [2,3,12] [3] (b 0))
def aoH (b:Nat→PC):PC:=.block 2 [4,29,30] [4] (.loop [4,29] [4] (b 1))
def FN (b:Nat→PC):PT:=
 (.ite (aj cg bH)
 (.blockS ⟨[],[]⟩ 1 [2,3,6,14,15,17,18,19,20,21,22,23,24] [6,19,3]
 (.chk (ar di cg)
 (.chk (bM (.llen (.app o3 (.lst [(pc (.setc Ko 0 (pn di cg)) 0)]))) cM)
 (.call ⟨[(3,pN)],[(3,(.app o3 (.lst [(pc (.setc Ko 0 (pn di cg)) 0)])))]⟩ [] 23 105 [(pc (.setc Ko 0 (pn di cg)) 1),(pi 5)]
 (.ite (.nt j2)
 (.ret pF)
 (.next ⟨[],[]⟩)))))
 (.next ⟨[(12,(aN cg (pi 1)))],[]⟩))
 (.exit 0 ⟨[(13,(aj cg bH))],[]⟩))
def KW (b:Nat→PC):PT:=
 (.ite (aj rM rL)
 (.chk (ar fH rM)
 (.chk (bM (.llen acS) cM)
 (.next ⟨[(4,pN),(29,(aN rM (pi 1)))],[(4,acS)]⟩)))
 (.exit 2 ⟨[(30,(aj rM rL))],[]⟩))
def Us (b:Nat→PC):PT:=
 (.brk ⟨[(12,(pi 0)),(11,qw),(10,vd),(4,pN),(3,pN),(2,pF)],[(4,pL),(3,pL),(1,(.mk [r0]))]⟩
(aoG b)
 (.brk ⟨[(29,(pi 0)),(28,nv),(27,(pc o1 3))],[]⟩
(aoH b)
 (.call ⟨[],[]⟩ [] 40 164 [o3,(pi 0),(pi 21)]
 (.call ⟨[(41,oU)],[]⟩ [(41,true)] 43 164 [o4,(pi 0),(pi 21)]
 (.ret (.pick rO rP pF))))))
def ajR (b:Nat→PC):PT×List (Shp×PT):=(Us b,[(.lp 0 [2,3,12,13] [3] [2,3,12] [3],FN b),(.lp 2 [4,29,30] [4] [4,29] [4],KW b)])
theorem J2:zh.map told=some (ajR (bq zh)):=by kernel_rfl
theorem aug:tree (ae zh)=Us Co:=bN J2
theorem R7:round 0 [2,3,12,13] [3] [2,3,12] [3] (Co 0)=FN Co:=bj J2 0 fun _=>rfl
theorem adw:round 2 [4,29,30] [4] [4,29] [4] (Co 1)=KW Co:=bj J2 1 fun _=>rfl
def zk:Option PC:=cF [2,3] [] Tryz.f136 136 [1,4,6]
def Cq:Nat→PC:=br zk
def aoL (b:Nat→PC):PC:=.block 2 [2,50,51] [] (.loop [2,50] [] (b 0))
def aoM (b:Nat→PC):PC:=.block 0 [2,14,15] [] (.loop [2,14] [] (b 1))
def BB (b:Nat→PC):PT:=
 (.ite (aj lV lU)
 (.chk (ar mH lV)
 (.ite (.pick (peq (pc (.setc z3 0 (pn mH lV)) 0) (pc o4 0)) (peq (pc (.setc z3 0 (pn mH lV)) 1) (pc o4 1)) pF)
 (.ret (pi 5))
 (.next ⟨[(50,(aN lV (pi 1)))],[]⟩)))
 (.exit 2 ⟨[(51,(aj lV lU))],[]⟩))
def FQ (b:Nat→PC):PT:=
 (.ite tE
 (.blockS ⟨[(15,tE)],[]⟩ 1 [2,3,4,16,17,18,19,20,21,22,23,24,25,26,34,35,39,40,44,45,46,47,48,49,50,51] [4]
 (.chk (ar cg dx)
 (.call ⟨[(3,dx)],[(4,Bj)]⟩ [] 24 105 [(pc Bj 0),lQ]
 (.call ⟨[(26,(.nt oT))],[]⟩ [(26,false)] 32 105 [(pc o4 1),lQ]
 (.ite (.pick (.pick (.pick lT pT (.nt E8)) pT (aj (pc o4 2) (pi 1))) pT (aZ (pc o4 2) (pi 20000)))
 (.ret (pi 1))
 (.chk (.slok (pc o1 5) (pi 0) r3)
 (.brk ⟨[(50,(pi 0)),(49,(.llen (.slc (pc o1 5) (pi 0) r3))),(48,(.slc (pc o1 5) (pi 0) r3))],[]⟩
(aoL b)
 (.next ⟨[],[]⟩)))))))
 (.next ⟨[(14,(aN dx (pi 1)))],[]⟩))
 (.exit 0 ⟨[(15,tE)],[]⟩))
def Uv (b:Nat→PC):PT:=
 (.ite (aZ (.llen xM) (pi 100))
 (.ret (pi 6))
 (.brk ⟨[(14,(pi 0)),(13,(.llen xM)),(12,xM),(2,(pi 0))],[(1,(.mk [r0]))]⟩
(aoM b)
 (.ret (pi 0))))
def ajU (b:Nat→PC):PT×List (Shp×PT):=(Uv b,[(.lp 2 [2,50,51] [] [2,50] [],BB b),(.lp 0 [2,14,15] [] [2,14] [],FQ b)])
theorem J4:zk.map told=some (ajU (bq zk)):=by kernel_rfl
theorem auj:tree (ae zk)=Uv Cq:=bN J4
theorem KX:round 2 [2,50,51] [] [2,50] [] (Cq 0)=BB Cq:=bj J4 0 fun _=>rfl
theorem Sa:round 0 [2,14,15] [] [2,14] [] (Cq 1)=FQ Cq:=bj J4 1 fun _=>rfl
def zi:Option PC:=cF [2] [] Tryz.f137 137 [1,4,6]
def Cp:Nat→PC:=br zi
def aoI (b:Nat→PC):PC:=.block 0 [2,14,15] [] (.loop [2,14] [] (b 0))
def aoJ (b:Nat→PC):PC:=.block 2 [2,69,70] [] (.loop [2,69] [] (b 1))
def FO (b:Nat→PC):PT:=
 (.ite tE
 (.blockS ⟨[],[]⟩ 1 [2,4,16,17,18,19,20,21,22,23,24,25,33,34,40,41,47,48,54,55,60] [4]
 (.chk (ar cg dx)
 (.call ⟨[],[(4,(.setc z5 0 (pn cg dx)))]⟩ [] 23 105 [(pc (.setc z5 0 (pn cg dx)) 0),ve]
 (.call ⟨[(25,(.nt j2))],[]⟩ [(25,false)] 31 105 [(pc o4 1),ve]
 (.call ⟨[(41,(.pick (.pick jI pT (.nt rN)) pT (peq (pc o4 0) (pc o4 1))))],[]⟩ [(41,false)] 45 105 [(bD (pc o4 2) (pi 1)),(pi 1073741824)]
 (.call ⟨[(48,(.pick rO pT (.nt rQ)))],[]⟩ [(48,false)] 52 105 [(bD (pc o4 3) (pi 1)),(pi 1073741824)]
 (.call ⟨[(55,(.pick mH pT (.nt Kw)))],[]⟩ [(55,false)] 58 105 [(pc o4 4),(pi 100001)]
 (.ite (.pick Br pT (.nt Fb))
 (.ret (pi 1))
 (.next ⟨[],[]⟩))))))))
 (.next ⟨[(14,(aN dx (pi 1)))],[]⟩))
 (.exit 0 ⟨[(15,tE)],[]⟩))
def FP (b:Nat→PC):PT:=
 (.ite (aj tH r68)
 (.blockS ⟨[],[]⟩ 3 [2,6,71,72,73,74,75,76,77,78,79,80,84,85,91,92,96] [6]
 (.chk (ar vh tH)
 (.call ⟨[],[(6,(.setc z3 0 (pn vh tH)))]⟩ [] 78 105 [(pc (.setc z3 0 (pn vh tH)) 0),oS]
 (.ite (.pick (.pick (.pick (.nt Rx) pT (aj (pc o6 1) (pi 0))) pT (aZ (pc o6 1) (pc o6 2))) pT (aZ (pc o6 2) (pi 100000)))
 (.ret (pi 1))
 (.next ⟨[],[]⟩))))
 (.next ⟨[(69,(aN tH (pi 1)))],[]⟩))
 (.exit 2 ⟨[(70,(aj tH r68))],[]⟩))
def Ut (b:Nat→PC):PT:=
 (.ite (aZ (.llen (pc (.mk [r0]) 6)) (pi 100))
 (.ret (pi 6))
 (.brk ⟨[(14,(pi 0)),(13,(.llen (pc (.mk [r0]) 6))),(12,(pc (.mk [r0]) 6)),(2,(pi 0))],[(1,(.mk [r0]))]⟩
(aoI b)
 (.ite (aZ xO (pi 20))
 (.ret (pi 6))
 (.brk ⟨[(69,(pi 0)),(68,xO),(67,(pc o1 7))],[]⟩
(aoJ b)
 (.ret (pi 0))))))
def ajS (b:Nat→PC):PT×List (Shp×PT):=(Ut b,[(.lp 0 [2,14,15] [] [2,14] [],FO b),(.lp 2 [2,69,70] [] [2,69] [],FP b)])
theorem J3:zi.map told=some (ajS (bq zi)):=by kernel_rfl
theorem auh:tree (ae zi)=Ut Cp:=bN J3
theorem R8:round 0 [2,14,15] [] [2,14] [] (Cp 0)=FO Cp:=bj J3 0 fun _=>rfl
theorem R9:round 2 [2,69,70] [] [2,69] [] (Cp 1)=FP Cp:=bj J3 1 fun _=>rfl
def H4:Option PC:=cF [4] [] Tryz.f85 85 [2]
def UO:PT:=
 (.ret (.pick (cL r1 (pi 0)) (aj r1 (.llen qu)) pF))
theorem abS:H4.map told=some (UO,[]):=by kernel_rfl
theorem auE:tree (ae H4)=UO:=ba abS
def H5:Option PC:=cF [2] [] Tryz.f86 86 []
def UP:PT:=
 (.ret (.pick (cL r0 (pi 0)) (bM r0 (pi 100000)) pF))
theorem abT:H5.map told=some (UP,[]):=by kernel_rfl
theorem auF:tree (ae H5)=UP:=ba abT
def H3:Option PC:=cF [2] [] Tryz.f87 87 [1]
def UN:PT:=
 (.ret (.pick (peq kB (pi 0)) pT (peq kB (pi 1))))
theorem abP:H3.map told=some (UN,[]):=by kernel_rfl
theorem auD:tree (ae H3)=UN:=ba abP
def CL:Option PC:=cF [6,7,13,16,24,33,8,9] [] Tryz.f88 88 [3,4]
def vz:PT:=
 (.blockS ⟨[(12,(pc (.mk [r1]) 5))],[(4,(.mk [r1])),(3,(.mk [r0]))]⟩ 0 [6,7,13,14,16,17,24,25,33,34] []
 (.iteS ⟨[],[]⟩ (peq cg (pi 0)) [6,7,16,17,24,25,33,34] []
 (.ret (.tup [r2,(pi 0)]))
 (.iteS ⟨[],[]⟩ (peq cg (pi 1)) [6,7,24,25,33,34] []
 (.call ⟨[],[]⟩ [] 21 138 [r2,(.mk [(pc o4 5),(pc o4 6),(pc o4 7)])]
 (.ret (.tup [(.tget mF 0),(.tget mF 1)])))
 (.iteS ⟨[],[]⟩ (peq cg (pi 2)) [6,7,33,34] []
 (.call ⟨[],[]⟩ [] 30 138 [(pc o4 8),(.mk [(pc o4 5),(pc o4 6),(pc o4 7)])]
 (.ret (.tup [(.tget tF 0),(.tget tF 1)])))
 (.iteS ⟨[],[]⟩ (peq cg (pi 4)) [6,7] []
 (.call ⟨[],[]⟩ [] 41 99 [(ax 8 o3),(pc o4 9),(pc o4 10)]
 (.ret (.tup [(aN (pc o4 8) (.tget rO 0)),(.tget rO 1)])))
 (.next ⟨[],[]⟩)
 (.next ⟨[],[]⟩))
 (.next ⟨[],[]⟩))
 (.next ⟨[],[]⟩))
 (.next ⟨[],[]⟩))
 (.ret (.tup [(pc o4 6),(pi 0)])))
theorem abR:CL.map told=some (vz,[]):=by kernel_rfl
theorem BV:tree (ae CL)=vz:=ba abR
def CK:Option PC:=cF [4,5] [] Tryz.f138 138 [3]
def BU:PT:=
 (.ite (.pick (aj Bo (pi 0)) pT (aZ Bo (pi 20000)))
 (.ret (.tup [(pi 0),(pi 3)]))
 (.iteS ⟨[],[(3,(.mk [r1]))]⟩ (peq (pc (.mk [r1]) 2) (pi 1)) [4,5] []
 (.call ⟨[],[]⟩ [] 20 165 [r0,(pc o3 1)]
 (.ret (.tup [(.tget eZ 0),(.tget eZ 1)])))
 (.next ⟨[],[]⟩)
 (.ret (.tup [(aN r0 (pc o3 1)),(pi 0)]))))
theorem abQ:CK.map told=some (BU,[]):=by kernel_rfl
theorem LH:tree (ae CK)=BU:=ba abQ
def CG:Option PC:=cF [4,5,6,7,8,9] [] Tryz.f165 165 []
def Ly:PT:=
 (.call ⟨[],[]⟩ [] 11 166 [r0]
 (.ite (.pick (.pick (.nt bH) pT (aj r1 (pi (-5000)))) pT (aZ r1 (pi 5000)))
 (.ret (.tup [(pi 0),(pi 3)]))
 (.call ⟨[],[]⟩ [] 23 201 [r0]
 (.chk (aU (pi 12) (pi 0))
 (.call ⟨[(41,(.tget j2 2)),(40,(aN (.ai .rem .i64 Kp (pi 12)) (pi 1))),(39,(.ai .quo .i64 Kp (pi 12)))],[]⟩ [] 44 203 [(.ai .quo .i64 Kp (pi 12)),(aN (.ai .rem .i64 Kp (pi 12)) (pi 1))]
 (.call ⟨[],[]⟩ [] 46 202 [E9,oU,(.mn rO vg)]
 (.ret (.tup [(.tget Fa 0),(.tget Fa 1)]))))))))
theorem aa2:CG.map told=some (Ly,[]):=by kernel_rfl
theorem aes:tree (ae CG)=Ly:=ba aa2
def Ho:Option PC:=cF [2] [] Tryz.f166 166 []
def Tn:PT:=
 (.ret (.pick (bM (pi 0) r0) (bM r0 (pi 100000)) pF))
theorem aa9:Ho.map told=some (Tn,[]):=by kernel_rfl
theorem as6:tree (ae Ho)=Tn:=ba aa9
def Hk:Option PC:=cF [2,3,4,5,6,7,8,9] [] Tryz.f201 201 []
def Ti:PT:=
 (.chk (aU (pi 146097) (pi 0))
 (.chk (aU (pi 1460) (pi 0))
 (.chk (aU (pi 36524) (pi 0))
 (.chk (aU (pi 146096) (pi 0))
 (.chk (aU (pi 365) (pi 0))
 (.chk (aU (pi 4) (pi 0))
 (.chk Bl
 (.chk (aU (pi 153) (pi 0))
 (.chk (aU (pi 5) (pi 0))
 (.ret (.tup [(.pick (aj acW (pi 3)) (aN acZ (pi 1)) acZ),acW,(aN (bD (bD (.ai .rem .i64 (aN r0 (pi 730425)) (pi 146097)) (bD (aN (.ai .mul .i64 (pi 365) xG) (.ai .quo .i64 xG (pi 4))) (.ai .quo .i64 xG (pi 100)))) (.ai .quo .i64 (aN (.ai .mul .i64 (pi 153) Kq) (pi 2)) (pi 5))) (pi 1))])))))))))))
theorem aa4:Hk.map told=some (Ti,[]):=by kernel_rfl
theorem as1:tree (ae Hk)=Ti:=ba aa4
def Hm:Option PC:=cF [4] [] Tryz.f203 203 []
def LA:PT:=
 (.ite (peq r1 (pi 12))
 (.ret (pi 31))
 (.call ⟨[],[]⟩ [] 10 216 [r0,(aN r1 (pi 1)),(pi 1)]
 (.call ⟨[],[]⟩ [] 13 216 [r0,r1,(pi 1)]
 (.ret (bD di cR)))))
theorem aa6:Hm.map told=some (LA,[]):=by kernel_rfl
theorem as4:tree (ae Hm)=LA:=ba aa6
def CI:Option PC:=cF [6,0,1] [] Tryz.f216 216 []
def LB:PT:=
 (.chk (aU (pi 4) (pi 0))
 (.chk Bl
 (.chk (aU (pi 400) (pi 0))
 (.chk (aU (pi 5) (pi 0))
 (.ret (bD (bD (aN (aN (aN (bD (aN (.ai .mul .i64 (pi 365) Ks) (.ai .quo .i64 Ks (pi 4))) (.ai .quo .i64 Ks (pi 100))) (.ai .quo .i64 Ks (pi 400))) (.ai .quo .i64 (aN (.ai .mul .i64 (pi 153) (bD (.pick (aj r1 (pi 3)) (aN r1 (pi 12)) r1) (pi 3))) (pi 2)) (pi 5))) r2) (pi 1)) (pi 730425)))))))
theorem aa7:CI.map told=some (LB,[]):=by kernel_rfl
theorem aet:tree (ae CI)=LB:=ba aa7
def CH:Option PC:=cF [6,7,8] [] Tryz.f202 202 []
def BT:PT:=
 (.call ⟨[(28,r2),(27,(.pick (.pick (.pick (.pick (aj r0 (pi 2000)) pT (aZ r0 (pi 2300))) pT (aj r1 (pi 1))) pT (aZ r1 (pi 12))) pT (aj r2 (pi 1))))],[]⟩ [(27,false)] 31 203 [r0,r1]
 (.ite (.pick fH pT (aZ rL rN))
 (.ret (.tup [(pi 0),(pi 3)]))
 (.call ⟨[],[]⟩ [] 37 216 [r0,r1,r2]
 (.call ⟨[(8,mG)],[]⟩ [] 39 166 [mG]
 (.ite (.nt E9)
 (.ret (.tup [(pi 0),(pi 3)]))
 (.ret (.tup [r8,(pi 0)])))))))
theorem aa3:CH.map told=some (BT,[]):=by kernel_rfl
theorem Lz:tree (ae CH)=BT:=ba aa3
def zc:Option PC:=cF [6,7] [] Tryz.f99 99 [3,9]
def MK:Nat→PC:=br zc
def aoz (b:Nat→PC):PC:=.block 0 [6,7,13,14] [] (.loop [6,7,13] [] (b 0))
def FJ (b:Nat→PC):PT:=
 (.ite (aj cR cg)
 (.chk (ar bH cR)
 (.ite (.pick (peq (pc (.setc z3 0 (pn bH cR)) 0) r1) (peq (pc (.setc z3 0 (pn bH cR)) 1) r2) pF)
 (.ret (.tup [(pc (.setc z3 0 (pn bH cR)) 2),(pi 0)]))
 (.next ⟨[(13,(aN cR (pi 1)))],[]⟩)))
 (.exit 0 ⟨[(14,(aj cR cg))],[]⟩))
def Ul (b:Nat→PC):PT:=
 (.brk ⟨[(13,(pi 0)),(12,(.llen xM)),(11,xM),(7,(pi 0)),(6,(pi 0))],[]⟩
(aoz b)
 (.ret (.tup [(pi 0),(pi 4)])))
def ajM (b:Nat→PC):PT×List (Shp×PT):=(Ul b,[(.lp 0 [6,7,13,14] [] [6,7,13] [],FJ b)])
theorem Qx:zc.map told=some (ajM (bq zc)):=by kernel_rfl
theorem at7:tree (ae zc)=Ul MK:=bN Qx
theorem R3:round 0 [6,7,13,14] [] [6,7,13] [] (MK 0)=FJ MK:=bj Qx 0 fun _=>rfl
def zx:Option PC:=cF [6,7,8,2,9,10] [] Tryz.f89 89 [3]
def MX:Nat→PC:=br zx
def ao1 (b:Nat→PC):PC:=.block 0 [] [] (.loop [2,6,7] [] (b 0))
def Sq (b:Nat→PC):PT:=
 (.blockS ⟨[],[]⟩ 1 [2,6,7,9,10,14,15,16,17,18,19,20,21,22,23,24,25,26,27,28,29,30,31,32,34] []
 (.call ⟨[],[]⟩ [] 17 139 [(ax 8 o3),r8,r2]
 (.chk (ar (pc o3 1) r1)
 (.call ⟨[(2,lS)],[]⟩ [] 25 140 [(pn (pc o3 1) r1),lS]
 (.ite (aU (.tget jI 1) (pi 0))
 (.ret (.tup [(pi 0),(pi 3)]))
 (.ite (peq (.tget jI 0) r2)
 (.ret (.tup [r2,(pi 0)]))
 (.next ⟨[(2,(.tget jI 0))],[]⟩))))))
 (.next ⟨[],[]⟩))
def UQ (b:Nat→PC):PT:=
 (.call ⟨[(7,(pi 0)),(6,(pi 0))],[(3,(.mk [r0]))]⟩ [] 13 57 [lg,r1]
 (.brk ⟨[(8,cR)],[]⟩
(ao1 b)
 (.next ⟨[],[]⟩)))
def aj6 (b:Nat→PC):PT×List (Shp×PT):=(UQ b,[(.lp 0 [] [] [2,6,7] [],Sq b)])
theorem QJ:zx.map told=some (aj6 (bq zx)):=by kernel_rfl
theorem auG:tree (ae zx)=UQ MX:=bN QJ
theorem art:round 0 [] [] [2,6,7] [] (MX 0)=Sq MX:=bj QJ 0 fun _=>rfl
def zy:Option PC:=cF [6,7,2] [] Tryz.f139 139 [3,9]
def Cu:Nat→PC:=br zy
def ao2 (b:Nat→PC):PC:=.block 2 [2,7,14,15] [] (.loop [2,7,14] [] (b 0))
def ao3 (b:Nat→PC):PC:=.block 0 [2,7,10] [] (.loop [2,7] [] (b 1))
def BC (b:Nat→PC):PT:=
 (.ite tE
 (.chk (ar cg dx)
 (.next ⟨[(2,(.pick acY (aN (pc Bj 2) (pi 1)) r2)),(7,(.pick acY pT r7)),(14,(aN dx (pi 1)))],[]⟩))
 (.exit 2 ⟨[(15,tE)],[]⟩))
def K4 (b:Nat→PC):PT:=
 (.ite r7
 (.blockS ⟨[(10,r7)],[]⟩ 1 [2,7,11,12,13,14,15] []
 (.brk ⟨[(14,(pi 0)),(13,(.llen (pc o3 7))),(12,(pc o3 7)),(7,pF)],[]⟩
(ao2 b)
 (.next ⟨[],[]⟩))
 (.next ⟨[],[]⟩))
 (.exit 0 ⟨[(10,r7)],[]⟩))
def UR (b:Nat→PC):PT:=
 (.brk ⟨[(7,pT)],[(3,(.mk [r0]))]⟩
(ao3 b)
 (.ret r2))
def aj7 (b:Nat→PC):PT×List (Shp×PT):=(UR b,[(.lp 2 [2,7,14,15] [] [2,7,14] [],BC b),(.lp 0 [2,7,10] [] [2,7] [],K4 b)])
theorem J8:zy.map told=some (aj7 (bq zy)):=by kernel_rfl
theorem auH:tree (ae zy)=UR Cu:=bN J8
theorem K1:round 2 [2,7,14,15] [] [2,7,14] [] (Cu 0)=BC Cu:=bj J8 0 fun _=>rfl
theorem adA:round 0 [2,7,10] [] [2,7] [] (Cu 1)=K4 Cu:=bj J8 1 fun _=>rfl
def yJ:Option PC:=cF [6] [] Tryz.f140 140 [2,4,5]
def Mp:Nat→PC:=br yJ
def aiE (b:Nat→PC):PC:=.each eg [16] [4,5] (some (.tup [(pc o4 0),(pc o5 0)])) (b 0)
def RF (b:Nat→PC):PT:=
 (.exit 1000000007 ⟨[],[(4,(.setc o4 0 cN)),(5,(.setc o5 0 (pi 0)))]⟩)
def Th (b:Nat→PC):PT:=
 (.call ⟨[],[(5,E5),(4,E5),(2,(.mk [r0]))]⟩ [] 8 166 [r1]
 (.ite (.nt r8)
 (.ret (.tup [(pc (.setc o4 0 (pi 0)) 0),(pc (.setc o5 0 (pi 3)) 0)]))
 (.call ⟨[],[]⟩ [] 15 167 [(ax 6 o2),r1,(.mn (aN r1 (pi 400)) (pi 100000))]
 (.blockS ⟨[],[]⟩ 0 [] [4,5]
 (.callc ⟨[],[]⟩ [] 18 gZ []
 (.brk ⟨[],[]⟩
(aiE b)
 (.next ⟨[],[]⟩)))
 (.ret (.tup [(pc (.setc o4 0 (pi 0)) 0),(pc (.setc o5 0 (pi 3)) 0)]))))))
def aji (b:Nat→PC):PT×List (Shp×PT):=(Th b,[(.ea [4,5],RF b)])
theorem Qc:yJ.map told=some (aji (bq yJ)):=by kernel_rfl
theorem as0:tree (ae yJ)=Th Mp:=bN Qc
theorem arn:qD [4,5] (Mp 0)=RF Mp:=S6 Qc 0 fun _=>rfl
def Hl:Option PC:=cF [6] [] Tryz.f167 167 [3,4,5]
def Tj:PT:=
 (.ret (.clo 204 [(.ref Bp),(.ref (pc (.mk [r2]) 0)),(.ref (ax 6 (.mk [r0])))]))
theorem aa5:Hl.map told=some (Tj,[]):=by kernel_rfl
theorem as3:tree (ae Hl)=Tj:=ba aa5
def sE:Option PC:=CU {ctx with fr:=[5],nh:=[]} Tryz.f204 [(.ref I),(.ref I),(.ref Y0)] [I] 1000 [1000]
def Mq:Nat→PC:=br sE
def anX (b:Nat→PC):PC:=.block 0 [5,7,8,9] [1000] (.loop [5] [1000] (b 0))
def KF (b:Nat→PC):PT:=
 (.ite (bM r5 (.deref r2))
 (.blockS ⟨[],[]⟩ 1 [12,13,14,15,20] [1000]
 (.call ⟨[],[]⟩ [] 14 205 [(.deref r3),r5]
 (.call ⟨[(15,dx)],[(1000,acV)]⟩ [(15,true)] 18 1000000009 [acV]
 (.ite (.pick gZ (.nt eg) pF)
 (.ret (.o 1000))
 (.next ⟨[],[]⟩))))
 (.next ⟨[(5,tD)],[]⟩))
 (.exit 0 ⟨[(7,r5),(8,(.deref r2)),(9,(bM r5 (.deref r2)))],[]⟩))
def Tk (b:Nat→PC):PT:=
 (.brk ⟨[(5,(.deref r1))],[]⟩
(anX b)
 (.ret (.o 1000)))
def ajj (b:Nat→PC):PT×List (Shp×PT):=(Tk b,[(.lp 0 [5,7,8,9] [1000] [5] [1000],KF b)])
theorem Qd:sE.map told=some (ajj (bq sE)):=by kernel_rfl
theorem as2:tree (ae sE)=Tk Mq:=bN Qd
theorem adk:round 0 [5,7,8,9] [1000] [5] [1000] (Mq 0)=KF Mq:=bj Qd 0 fun _=>rfl
theorem ahf:∀yv,CU {ctx with fr:=[5],nh:=[],yv:=yv} Tryz.f204 [(.ref I),(.ref I),(.ref Y0)] [I] 1000 [1000]=some (ae sE):=fun yv=>(show _=sE by kernel_rfl).trans (aB sE Qd)
def Hn:Option PC:=cF [4,5,6,7] [] Tryz.f205 205 [2]
def Tl:PT:=
 (.call ⟨[],[(2,(.mk [r0]))]⟩ [] 10 201 [r1]
 (.chk (aU (pi 7) (pi 0))
 (.call ⟨[(7,(.tget di 2)),(6,(.tget di 1))],[]⟩ [] 19 81 [(pc o2 3),(.ai .rem .i64 (aN r1 (pi 5)) (pi 7))]
 (.call ⟨[(21,(.nt jH))],[]⟩ [(21,true)] 28 81 [(pc o2 4),(aN (.ai .mul .i64 (pi 100) r6) r7)]
 (.call ⟨[(31,(.pick mF (.nt rL) pF))],[]⟩ [(31,true)] 35 81 [(pc o2 5),r1]
 (.ret (.pick rN (.nt xP) pF)))))))
theorem aa8:Hn.map told=some (Tl,[]):=by kernel_rfl
theorem as5:tree (ae Hn)=Tl:=ba aa8
def Hu:Option PC:=cF [4] [] Tryz.f7 7 [2,3]
def Tx:PT:=
 (.call ⟨[],[(2,(.mk [r0]))]⟩ [] 7 31 [lg,(ax 19 (.mk [r1]))]
 (.call ⟨[(8,r7)],[]⟩ [(8,true)] 10 32 [(ax 8 o2)]
 (.ret (.pick r8 (peq di (pi 0)) pF))))
theorem abf:Hu.map told=some (Tx,[]):=by kernel_rfl
theorem ath:tree (ae Hu)=Tx:=ba abf
def y9:Option PC:=cF [4,5] [] Tryz.f31 31 [2,3]
def MH:Nat→PC:=br y9
def aow (b:Nat→PC):PC:=.block 0 [4,5,14,15,16,17,18] [] (.loop [4,5] [] (b 0))
def FH (b:Nat→PC):PT:=
 (.ite (aj r5 (.llen (pc o2 4)))
 (.blockS ⟨[],[]⟩ 1 [4,21,22,23,24,25,26,27] []
 (.chk (ar (pc o2 4) r5)
 (.call ⟨[],[]⟩ [] 26 63 [(pn (pc o2 4) r5)]
 (.ite (.nt lT)
 (.ret pF)
 (.next ⟨[],[]⟩))))
 (.next ⟨[(5,tD)],[]⟩))
 (.exit 0 ⟨[(14,r5),(15,pN),(16,(pc o2 4)),(17,(.llen (pc o2 4))),(18,(aj r5 (.llen (pc o2 4))))],[]⟩))
def Ud (b:Nat→PC):PT:=
 (.call ⟨[(4,pF)],[(3,(.mk [r1])),(2,(.mk [r0]))]⟩ [] 7 61 [lg]
 (.call ⟨[(9,(.nt r7))],[]⟩ [(9,false)] 11 62 [(ax 19 o3)]
 (.ite (.pick r9 pT (.nt bH))
 (.ret pF)
 (.brk ⟨[(5,(pi 0))],[]⟩
(aow b)
 (.ret pT)))))
def ajJ (b:Nat→PC):PT×List (Shp×PT):=(Ud b,[(.lp 0 [4,5,14,15,16,17,18] [] [4,5] [],FH b)])
theorem Qu:y9.map told=some (ajJ (bq y9)):=by kernel_rfl
theorem atZ:tree (ae y9)=Ud MH:=bN Qu
theorem R1:round 0 [4,5,14,15,16,17,18] [] [4,5] [] (MH 0)=FH MH:=bj Qu 0 fun _=>rfl
def yT:Option PC:=cF [2,3,4] [] Tryz.f61 61 [1]
def Ch:Nat→PC:=br yT
def aoa (b:Nat→PC):PC:=.block 0 [2,3,5,6,7,8,9,10,13] [] (.loop [2,3] [] (b 0))
def aob (b:Nat→PC):PC:=.block 2 [2,4,44,45,46,47,48,49,52] [] (.loop [2,4] [] (b 1))
def xU (b:Nat→PC):PT:=
 (.ite (.pick (aj r3 lQ) (aj r3 (pi 50)) pF)
 (.chk (ar (pc o1 1) r3)
 (.chk (.nt (.an (.an (.nt (aZ (.llen (pc (pn (pc o1 1) r3) 4)) (pi 70))) pT) (.nt (ar (pc o1 1) r3))))
 (.chk (.nt (.an (.an (.nt acQ) pT) (.nt (ar (pc o1 1) r3))))
 (.ite (.pick acQ pT (aZ (.llen (pc (pn (pc o1 1) r3) 3)) (pi 8)))
 (.ret pF)
 (.next ⟨[(3,vf)],[]⟩)))))
 (.exit 0 ⟨[(5,r3),(6,pN),(7,(pc o1 1)),(8,lQ),(9,(aj r3 lQ)),(10,(aj r3 lQ)),(13,(.pick (aj r3 lQ) (aj r3 (pi 50)) pF))],[]⟩))
def Bv (b:Nat→PC):PT:=
 (.ite (.pick (aj r4 oS) (aj r4 (pi 50)) pF)
 (.chk (ar (pc o1 4) r4)
 (.chk (.nt (.an (.an (.nt (aZ (.llen (pc xL 2)) (pi 40))) pT) (.nt (ar (pc o1 4) r4))))
 (.ite (.pick (aZ (.llen (pc xL 2)) (pi 40)) pT (aZ (.llen (pc xL 3)) (pi 40)))
 (.ret pF)
 (.next ⟨[(4,(aN r4 (pi 1)))],[]⟩))))
 (.exit 2 ⟨[(44,r4),(45,pN),(46,(pc o1 4)),(47,oS),(48,(aj r4 oS)),(49,(aj r4 oS)),(52,(.pick (aj r4 oS) (aj r4 (pi 50)) pF))],[]⟩))
def TR (b:Nat→PC):PT:=
 (.brk ⟨[(3,(pi 0)),(2,pF)],[(1,(.mk [r0]))]⟩
(aoa b)
 (.brk ⟨[(4,(pi 0))],[]⟩
(aob b)
 (.ret (.pick (.pick (.pick (.pick (.pick (.pick (.pick (aj ve (pi 50)) (aj lQ (pi 50)) pF) (aj rI (pi 50)) pF) (aj nv (pi 210)) pF) (aj oS (pi 50)) pF) (aj Bq (pi 110)) pF) (aj (.llen (pc o1 6)) (pi 110)) pF) (aj xO (pi 50)) pF))))
def aju (b:Nat→PC):PT×List (Shp×PT):=(TR b,[(.lp 0 [2,3,5,6,7,8,9,10,13] [] [2,3] [],xU b),(.lp 2 [2,4,44,45,46,47,48,49,52] [] [2,4] [],Bv b)])
theorem JV:yT.map told=some (aju (bq yT)):=by kernel_rfl
theorem atD:tree (ae yT)=TR Ch:=bN JV
theorem Fq:round 0 [2,3,5,6,7,8,9,10,13] [] [2,3] [] (Ch 0)=xU Ch:=bj JV 0 fun _=>rfl
theorem KM:round 2 [2,4,44,45,46,47,48,49,52] [] [2,4] [] (Ch 1)=Bv Ch:=bj JV 1 fun _=>rfl
def HM:Option PC:=cF [2] [] Tryz.f62 62 [1]
def T8:PT:=
 (.ret (.pick (.pick (.pick (bM (.llen rH) (pi 50)) (bM (.llen (pc (.mk [r0]) 16)) (pi 10)) pF) (bM (.llen (pc (.mk [r0]) 17)) (pi 110)) pF) (bM (.llen (pc (.mk [r0]) 18)) (pi 220)) pF))
theorem aby:HM.map told=some (T8,[]):=by kernel_rfl
theorem atU:tree (ae HM)=T8:=ba aby
def y8:Option PC:=cF [2,3] [] Tryz.f63 63 [1]
def MG:Nat→PC:=br y8
def aov (b:Nat→PC):PC:=.block 0 [2,3,14,15,16,17,18] [] (.loop [2,3] [] (b 0))
def FG (b:Nat→PC):PT:=
 (.ite (aj r3 nv)
 (.blockS ⟨[],[]⟩ 1 [2,21,22,23,24,25,26,27,28] []
 (.chk (ar (pc o1 3) r3)
 (.call ⟨[],[]⟩ [] 27 107 [(.sub (pn (pc o1 3) r3) 1 3)]
 (.ite (.nt fH)
 (.ret pF)
 (.next ⟨[],[]⟩))))
 (.next ⟨[(3,vf)],[]⟩))
 (.exit 0 ⟨[(14,r3),(15,pN),(16,(pc o1 3)),(17,nv),(18,(aj r3 nv))],[]⟩))
def Uc (b:Nat→PC):PT:=
 (.ite (.pick (aZ (.llen (pc (.mk [r0]) 3)) (pi 60)) pT (aZ qw (pi 60)))
 (.ret pF)
 (.brk ⟨[(3,(pi 0)),(2,pF)],[(1,(.mk [r0]))]⟩
(aov b)
 (.ret pT)))
def ajI (b:Nat→PC):PT×List (Shp×PT):=(Uc b,[(.lp 0 [2,3,14,15,16,17,18] [] [2,3] [],FG b)])
theorem Qt:y8.map told=some (ajI (bq y8)):=by kernel_rfl
theorem atY:tree (ae y8)=Uc MG:=bN Qt
theorem R0:round 0 [2,3,14,15,16,17,18] [] [2,3] [] (MG 0)=FG MG:=bj Qt 0 fun _=>rfl
def HN:Option PC:=cF [2] [] Tryz.f107 107 [1]
def Ua:PT:=
 (.call ⟨[],[]⟩ [] 4 146 [(.mk [kB,qu,vd]),(pi 100),(pi 20)]
 (.ret (cL r4 (pi 0))))
theorem abz:HN.map told=some (Ua,[]):=by kernel_rfl
theorem atW:tree (ae HN)=Ua:=ba abz
def vZ:Option PC:=cF [6,1,7] [] Tryz.f146 146 [3]
def MF:Nat→PC:=br vZ
def aou (b:Nat→PC):PC:=.block 0 [1,7,12,13,14,15,16,17,20] [] (.loop [1,7] [] (b 0))
def FF (b:Nat→PC):PT:=
 (.ite (.pick (aj r7 oR) (cL r1 (pi 0)) pF)
 (.blockS ⟨[],[]⟩ 1 [1,23,24,25,26,27,28,29,30,31] []
 (.chk (ar (pc o3 2) r7)
 (.call ⟨[],[]⟩ [] 31 146 [(pn (pc o3 2) r7),r1,(bD r2 (pi 1))]
 (.next ⟨[(1,rN)],[]⟩)))
 (.next ⟨[(7,(aN r7 (pi 1)))],[]⟩))
 (.exit 0 ⟨[(12,r7),(13,pN),(14,(pc o3 2)),(15,oR),(16,(aj r7 oR)),(17,(aj r7 oR)),(20,(.pick (aj r7 oR) (cL r1 (pi 0)) pF))],[]⟩))
def LF (b:Nat→PC):PT:=
 (.ite (aj r2 (pi 1))
 (.ret (pi (-1)))
 (.brk ⟨[(7,(pi 0)),(1,(bD r1 (pi 1)))],[(3,(.mk [r0]))]⟩
(aou b)
 (.ret r1)))
def ajH (b:Nat→PC):PT×List (Shp×PT):=(LF b,[(.lp 0 [1,7,12,13,14,15,16,17,20] [] [1,7] [],FF b)])
theorem Qs:vZ.map told=some (ajH (bq vZ)):=by kernel_rfl
theorem aeu:tree (ae vZ)=LF MF:=bN Qs
theorem RZ:round 0 [1,7,12,13,14,15,16,17,20] [] [1,7] [] (MF 0)=FF MF:=bj Qs 0 fun _=>rfl
def HI:Option PC:=cF [2,3] [] Tryz.f32 32 [1]
def TQ:PT:=
 (.call ⟨[],[(1,(.mk [r0]))]⟩ [] 5 64 [lg]
 (.iteS ⟨[(3,r5)],[]⟩ (peq r5 (pi 0)) [3] []
 (.call ⟨[],[]⟩ [] 9 65 [(ax 8 o1)]
 (.next ⟨[(3,r9)],[]⟩))
 (.next ⟨[],[]⟩)
 (.iteS ⟨[],[]⟩ (peq r3 (pi 0)) [3] []
 (.call ⟨[],[]⟩ [] 13 66 [(ax 8 o1)]
 (.next ⟨[(3,cR)],[]⟩))
 (.next ⟨[],[]⟩)
 (.iteS ⟨[],[]⟩ (peq r3 (pi 0)) [3] []
 (.call ⟨[],[]⟩ [] 17 67 [(ax 8 o1)]
 (.next ⟨[(3,lS)],[]⟩))
 (.next ⟨[],[]⟩)
 (.iteS ⟨[],[]⟩ (peq r3 (pi 0)) [3] []
 (.call ⟨[],[]⟩ [] 21 68 [(ax 8 o1)]
 (.next ⟨[(3,mF)],[]⟩))
 (.next ⟨[],[]⟩)
 (.ret r3))))))
theorem abu:HI.map told=some (TQ,[]):=by kernel_rfl
theorem atC:tree (ae HI)=TQ:=ba abu
def yY:Option PC:=cF [2,3,4,6,7] [] Tryz.f64 64 [1,5,44]
def Cj:Nat→PC:=br yY
def aoh (b:Nat→PC):PC:=.block 0 [2,3,12,13,14,15,16] [] (.loop [2,3] [] (b 0))
def aoi (b:Nat→PC):PC:=.block 2 [2,5,6,30,31,32,33,34] [5] (.loop [2,5,6] [5] (b 1))
def Fx (b:Nat→PC):PT:=
 (.ite (aj r3 ve)
 (.blockS ⟨[],[]⟩ 1 [2,4,19,20,21,22,23,24] []
 (.call ⟨[],[]⟩ [] 22 108 [(pc o1 0),r3]
 (.ite (aU E7 (pi 0))
 (.ret E7)
 (.next ⟨[],[]⟩)))
 (.next ⟨[(3,vf)],[]⟩))
 (.exit 0 ⟨[(12,r3),(13,pN),(14,(pc o1 0)),(15,ve),(16,(aj r3 ve))],[]⟩))
def Fy (b:Nat→PC):PT:=
 (.ite (aj r6 lQ)
 (.blockS ⟨[],[]⟩ 3 [2,5,7,38,39,40,41,42,43,44,45,46,47,48,49,50,52,53,54,55,56,57,58,59] [44,5]
 (.chk (ar (pc o1 1) r6)
 (.chk (bM (.llen Rk) cM)
 (.call ⟨[(5,pN)],[(5,Rk)]⟩ [] 48 108 [Rk,r6]
 (.ite (aU mH (pi 0))
 (.ret mH)
 (.chk (ar (pc o1 1) r6)
 (.call ⟨[],[]⟩ [] 58 109 [(ax 8 o1),(pn (pc o1 1) r6)]
 (.ite (.nt Fb)
 (.ret (pi 1))
 (.next ⟨[],[]⟩))))))))
 (.next ⟨[(6,(aN r6 (pi 1)))],[]⟩))
 (.exit 2 ⟨[(30,r6),(31,pN),(32,(pc o1 1)),(33,lQ),(34,(aj r6 lQ))],[]⟩))
def TZ (b:Nat→PC):PT:=
 (.ite (aZ (.llen kB) (pi 8))
 (.ret (pi 6))
 (.brk ⟨[(3,(pi 0)),(2,(pi 0))],[(1,(.mk [r0]))]⟩
(aoh b)
 (.ite (aZ lQ (pi 40))
 (.ret (pi 6))
 (.brk ⟨[(6,(pi 0)),(5,pN)],[(5,pL)]⟩
(aoi b)
 (.ret (pi 0))))))
def ajz (b:Nat→PC):PT×List (Shp×PT):=(TZ b,[(.lp 0 [2,3,12,13,14,15,16] [] [2,3] [],Fx b),(.lp 2 [2,5,6,30,31,32,33,34] [5] [2,5,6] [5],Fy b)])
theorem JX:yY.map told=some (ajz (bq yY)):=by kernel_rfl
theorem atL:tree (ae yY)=TZ Cj:=bN JX
theorem RR:round 0 [2,3,12,13,14,15,16] [] [2,3] [] (Cj 0)=Fx Cj:=bj JX 0 fun _=>rfl
theorem RS:round 2 [2,5,6,30,31,32,33,34] [5] [2,5,6] [5] (Cj 1)=Fy Cj:=bj JX 1 fun _=>rfl
def HL:Option PC:=cF [4] [] Tryz.f108 108 []
def T3:PT:=
 (.chk (ar r0 r1)
 (.call ⟨[],[]⟩ [] 9 147 [(pn r0 r1)]
 (.ite (.nt r9)
 (.ret (pi 2))
 (.chk (ar r0 r1)
 (.call ⟨[],[]⟩ [] 17 148 [r0,r1,(pn r0 r1)]
 (.ite lS
 (.ret (pi 5))
 (.ret (pi 0))))))))
theorem abx:HL.map told=some (T3,[]):=by kernel_rfl
theorem atN:tree (ae HL)=T3:=ba abx
end Rm
