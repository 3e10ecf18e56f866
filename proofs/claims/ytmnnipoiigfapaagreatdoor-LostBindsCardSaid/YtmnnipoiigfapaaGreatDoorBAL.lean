/-
  The functions of this seat, compiled (1).
-/
import Derived.Test.YtmnnipoiigfapaaGreatDoorBAK
import Derived.KernelRfl
set_option linter.unusedVariables false
set_option maxRecDepth 100000
noncomputable section
namespace Rm
open Go Go.Proofs Cx
def y7:Option PC:=cF [12,13,15,18,19,20] [] Tryz.f6 6 [6,9,10,14,16,17,21,22]
def M5:Nat→PC:=bn y7
def aoX (b:Nat→PC):PC:=.block 0 [12,20,87,88,89,90] [] (.loop [12,20] [] (b 0))
def Ld (b:Nat→PC):PT:=
 (.ite (ah cv (.llen fA))
 (.chk (ar (pc xN 15) cv)
 (.chk (ar fA cv)
 (.chk (ar eB cv)
 (.ite (.nt (.an (aj (pc (pn eB cv) 0) (pc ye 0)) (.an (aj (pc (pn eB cv) 1) (pc ye 1)) (.an (aj (pc (pn eB cv) 2) (pc ye 2)) (.an (aj (pc (pn eB cv) 3) (pc ye 3)) (.an (aj (pc (pn eB cv) 4) (pc ye 4)) (.an (aj (pc (pn eB cv) 5) (pc ye 5)) (.an (.cb .eql (pc (pn eB cv) 6) (pc ye 6)) pT))))))))
 (.ret pF)
 (.next ⟨[(20,(aL cv (pi 1)))],[]⟩)))))
 (.exit 0 ⟨[(87,cv),(88,fA),(89,(.llen fA)),(90,(ah cv (.llen fA)))],[]⟩))
def Uj (b:Nat→PC):PT:=
 (.call ⟨[(12,pF)],[(10,(.mk [r4])),(9,(.mk [r3])),(6,(.mk [r0]))]⟩ [] 23 7 []
 (.call ⟨[(13,fV)],[]⟩ [] 27 8 [(au 8 o6),(au 19 o9),(au 6 bO)]
 (.ite (.nt ei)
 (.ret cU)
 (.call ⟨[],[]⟩ [] 36 9 [(au 8 o6),r1,(au 19 o9),(au 6 bO),r5]
 (.ite (aO (.tget iY 1) (pi 0))
 (.ret cU)
 (.call ⟨[],[(14,(.setc j6 0 (.tget iY 0)))]⟩ [] 44 13 [(au 19 o9),r5]
 (.call ⟨[],[(17,(.setc (.setc j6 0 (au 19 xM)) 17 (pc (.setc j6 0 sc) 17))),(16,(.setc j6 0 sc))]⟩ [] 53 18 [(au 8 o6),r2,(au 19 o9),r5]
 (.call ⟨[(18,R8)],[]⟩ [] 58 18 [(au 8 o6),r2,(au 19 xM),r5]
 (.call ⟨[(19,BR)],[]⟩ [] 61 19 [(au 19 o17),(au 19 xN)]
 (.ite (.pick (.pick (.pick (.nt mQ) pT (aO (.llen fA) (.llen eB))) pT (ah (.llen (pc xM 17)) (.llen (pc xN 17)))) pT (aO (.llen fA) (.llen (pc xN 15))))
 (.ret pF)
 (.brk ⟨[(20,(pi 0))],[]⟩
(aoX b)
 (.ret cU))))))))))))
def ajQ (b:Nat→PC):PT×List (Shp×PT):=(Uj b,[(.lp 0 [12,20,87,88,89,90] [] [12,20] [],Ld b)])
theorem QP:y7.map told=some (ajQ (bj y7)):=by kernel_rfl
theorem auB:tree (ab y7)=Uj M5:=bB QP
theorem aet:round 0 [12,20,87,88,89,90] [] [12,20] [] (M5 0)=Ld M5:=be QP 0 fun _=>rfl
def HL:Option PC:=cF [0,4,6,8,9,10,1000003] [] Tryz.f7 7 [1,2,3,24579,5]
def Ul:PT:=
 (.call ⟨[],[]⟩ [] 12 20 []
 (.call ⟨[],[(3,aec),(2,(.setc j6 0 (.tget bH 1))),(1,(.setc RU 0 (.tget bH 0))),(24579,pL)]⟩ [] 19 16 [(au 8 (.setc RU 0 (.tget bH 0))),(pi 0),(au 19 (.setc j6 0 (.tget bH 1))),(au 6 aec),(pi 41)]
 (.call ⟨[(21,(aj eB (pi 2)))],[]⟩ [(21,true)] 25 16 [(au 8 o1),(pi 0),(au 19 o2),(au 6 o3),(pi 42)]
 (.call ⟨[(28,(.pick iX (aj iv (pi 2)) pF))],[]⟩ [(28,true)] 32 16 [(au 8 o1),(pi 0),(au 19 o2),(au 6 o3),(pi 43)]
 (.call ⟨[(4,(.pick qE (aj Fl (pi 1)) pF))],[]⟩ [] 39 9 [(au 8 o1),(pi 0),(au 19 o2),(au 6 o3),(pi 43)]
 (.call ⟨[(6,(.tget rY 1))],[(5,(.setc j6 0 (.tget rY 0)))]⟩ [] 46 9 [(au 8 o1),(pi 0),(au 19 o2),(au 6 o3),(pi 42)]
 (.call ⟨[(8,(.tget BP 1))],[(24579,(.lst [(.mk [(pi 1),(pi 42),pT])])),(3,(.setc o3 5 pN))]⟩ [] 55 16 [(au 8 o1),(pi 0),(au 19 o2),(.mk [(pc (.setc o3 5 pN) 0),(pc (.setc o3 5 pN) 1),(pc (.setc o3 5 pN) 2),(pc (.setc o3 5 pN) 3),(pc (.setc o3 5 pN) 4),(.lst [(.mk [(pi 1),(pi 42),pT])])]),(pi 41)]
 (.call ⟨[(57,(aj yh (pi 2)))],[]⟩ [(57,true)] 61 16 [(au 8 o1),(pi 0),(au 19 o2),K0,(pi 42)]
 (.call ⟨[(64,(.pick BQ (aj mQ (pi 0)) pF))],[]⟩ [(64,true)] 68 16 [(au 8 o1),(pi 0),(au 19 o2),K0,(pi 43)]
 (.chk (ar (.o 24579) (pi 0))
 (.call ⟨[(9,(.pick lV (aj R9 (pi 0)) pF))],[(24579,(.setn (.o 24579) (pi 0) 1 (pi 43)))]⟩ [] 78 16 [(au 8 o1),(pi 0),(au 19 o2),(.mk [(pc o3 0),(pc o3 1),(pc o3 2),(pc o3 3),(pc o3 4),(.setn (.o 24579) (pi 0) 1 (pi 43))]),(pi 42)]
 (.call ⟨[(80,(aj r78 (pi 2)))],[]⟩ [(80,true)] 84 16 [(au 8 o1),(pi 0),(au 19 o2),K0,(pi 43)]
 (.call ⟨[(87,(.pick vE (aj Sd (pi 1)) pF))],[]⟩ [(87,true)] 91 17 [(au 8 o1),(au 19 o2),K0]
 (.chk (ar (.o 24579) (pi 0))
 (.ite (.pick (.pick (.pick (aO r6 (pi 0)) pT (aO r8 (pi 7))) pT (aO (.llen (pc o5 17)) (pi 1))) pT (aO (.llen (pc o5 15)) (pi 2)))
 (.ret pF)
 (.chk (.nt (.an (.an (.pick (.pick r4 r9 pF) (.pick K7 (aj r91 (pi 0)) pF) pF) pT) (.nt (ar (pc o5 17) (pi 0)))))
 (.call ⟨[(131,(.pick (.pick (.pick r4 r9 pF) (.pick K7 (aj r91 (pi 0)) pF) pF) (.an (aj (pc tX 0) (pi 7)) (.an (aj (pc tX 1) (pi 2)) (.an (aj (pc tX 2) (pi (-1))) (.an (aj (pc tX 3) (pi 0)) (.an (aj (pc tX 4) (pi 1)) (.an (aj (pc tX 5) (pi 0)) (.an (aj (pc tX 6) (pi 43)) (.an (aj (pc tX 7) (pi 0)) (.an (aj (pc tX 8) (pi 0)) pT))))))))) pF))],[]⟩ [(131,true)] 135 17 [(au 8 o1),(au 19 o2),(.mk [(pc o3 0),(pc o3 1),(pc o3 2),(pc o3 3),(pc o3 4),(.setn (.o 24579) (pi 0) 1 (pi 11))])]
 (.ret (.pick (.r 131) (aj (.r 135) (pi 13)) pF)))))))))))))))))))
theorem aci:HL.map told=some (Ul,[]):=by kernel_rfl
theorem auE:tree (ab HL)=Ul:=aV aci
def C4:Option PC:=cF [] [] Tryz.f20 20 [0,1,2,24578,3,12291,4,24580,28676,32772,5,65541,69637,73733,77829]
def auC:PT:=
 (.chk (bD (.llen adY) cu)
 (.chk (bD (.llen aeb) cu)
 (.ret (.tup [(au 8 (.setc RU 0 (.mk [(pc Fe 0),(pc Fe 1),(pc Fe 2),(pc Fe 3),(pc Fe 4),pL,pL,pL]))),(au 19 (.setc j6 0 (.mk [(pc lT 0),(pc lT 1),(pc lT 2),(pc lT 3),(pc lT 4),(pc lT 5),(pc lT 6),(pc lT 7),(pc lT 8),(pc lT 9),(pc lT 10),(pc lT 11),(pc lT 12),(pc lT 13),(pc lT 14),aeb,pL,pL,pL]))),(.mk [(pc Fb 0),(pc Fb 1),(pc Fb 2),(pc Fb 3),(pc Fb 4),pL])]))))
theorem acg:C4.map told=some (auC,[]):=by kernel_rfl
def za:Option PC:=cF [10,11,13] [] Tryz.f16 16 [5,7,8,12,15]
def M8:Nat→PC:=bn za
def ao0 (b:Nat→PC):PC:=.block 0 [10,61,62] [] (.loop [10,61] [] (b 0))
def Fx (b:Nat→PC):PT:=
 (.ite (ah mQ vD)
 (.chk (ar ug mQ)
 (.ite (.pick (.pick (pc (.setc tV 0 (pn ug mQ)) 2) (bD (pc (.setc tV 0 (pn ug mQ)) 1) cU) pF) (bD (pc (.setc tV 0 (pn ug mQ)) 1) r4) pF)
 (.ret (pi 0))
 (.next ⟨[(61,(aL mQ (pi 1)))],[]⟩)))
 (.exit 0 ⟨[(62,(ah mQ vD))],[]⟩))
def Uu (b:Nat→PC):PT:=
 (.call ⟨[(10,(pi 0))],[(8,(.mk [r3])),(7,(.mk [r2])),(5,(.mk [r0]))]⟩ [] 19 17 [jA,E9,(au 6 (.mk [r3]))]
 (.ite (.pick (aO eB (pi 0)) pT (ah r4 (pc o8 3)))
 (.ret (pi 0))
 (.call ⟨[],[]⟩ [] 32 35 [(au 8 o5),r1,(pi 20),(au 19 o7),(pc o8 3)]
 (.call ⟨[],[]⟩ [] 33 34 [Fl]
 (.call ⟨[(11,ud)],[]⟩ [] 39 12 [(au 19 o7),(pc o8 1),(pc o8 3)]
 (.ite (.pick (.pick (aj bJ (pi (-1))) pT (aO (pc (.setc KZ 0 rY) 1) (pc o8 2))) pT (aO (pc (.setc KZ 0 rY) 2) (pi (-1))))
 (.ret (pi 0))
 (.brk ⟨[(61,(pi 0)),(60,(.llen (pc o8 5))),(59,(pc o8 5)),(13,(aL (pc o8 4) bJ))],[]⟩
(ao0 b)
 (.ite (aX r4 cU)
 (.ret (pi 1))
 (.ret (pi 2))))))))))
def ajT (b:Nat→PC):PT×List (Shp×PT):=(Uu b,[(.lp 0 [10,61,62] [] [10,61] [],Fx b)])
theorem QS:za.map told=some (ajT (bj za)):=by kernel_rfl
theorem auN:tree (ab za)=Uu M8:=bB QS
theorem Sq:round 0 [10,61,62] [] [10,61] [] (M8 0)=Fx M8:=be QS 0 fun _=>rfl
def y9:Option PC:=cF [6,7] [] Tryz.f17 17 [3,4,5,8,28,10]
def M7:Nat→PC:=bn y9
def aoZ (b:Nat→PC):PC:=.block 0 [6,30,31] [] (.loop [6,30] [] (b 0))
def Fw (b:Nat→PC):PT:=
 (.ite (ah nM nL)
 (.blockS ⟨[],[]⟩ 1 [6,10,32,33,34,35,36] [10]
 (.chk (ar o28 nM)
 (.callc ⟨[],[(10,adP)]⟩ [] 36 (pc adP 0) []
 (.ite iY
 (.ret (pc bO 1))
 (.next ⟨[],[]⟩))))
 (.next ⟨[(30,(aL nM (pi 1)))],[]⟩))
 (.exit 0 ⟨[(31,(ah nM nL))],[]⟩))
def Un (b:Nat→PC):PT:=
 (.call ⟨[(6,(pi 0))],[(5,(.mk [r2])),(4,(.mk [r1])),(3,(.mk [r0]))]⟩ [] 13 36 [jA,Fa]
 (.ite (aO cU (pi 0))
 (.ret cU)
 (.brk ⟨[(30,(pi 0)),(29,(.llen adU))],[(28,adU)]⟩
(aoZ b)
 (.ret (pi 0)))))
def ajS (b:Nat→PC):PT×List (Shp×PT):=(Un b,[(.lp 0 [6,30,31] [] [6,30] [],Fw b)])
theorem QR:y9.map told=some (ajS (bj y9)):=by kernel_rfl
theorem auM:tree (ab y9)=Un M7:=bB QR
theorem Sp:round 0 [6,30,31] [] [6,30] [] (M7 0)=Fw M7:=be QR 0 fun _=>rfl
def wz:Option PC:=cF [4,5,6,7,8,11] [] Tryz.f36 36 [2,3,10]
def CG:Nat→PC:=bn wz
def ao2 (b:Nat→PC):PC:=.block 0 [4,48,49] [] (.loop [4,48] [] (b 0))
def ao3 (b:Nat→PC):PC:=.block 2 [4,8,62,63] [] (.loop [4,8,62] [] (b 1))
def Fy (b:Nat→PC):PT:=
 (.ite (ah jC R7)
 (.blockS ⟨[],[]⟩ 1 [4,6,7,50,51,52,53,54,55,56] []
 (.call ⟨[],[]⟩ [] 54 67 [(au 8 o2),(au 19 o3),jC]
 (.ite (aO se (pi 0))
 (.ret se)
 (.next ⟨[],[]⟩)))
 (.next ⟨[(48,(aL jC (pi 1)))],[]⟩))
 (.exit 0 ⟨[(49,(ah jC R7))],[]⟩))
def Fz (b:Nat→PC):PT:=
 (.ite (ah nO mQ)
 (.blockS ⟨[],[]⟩ 3 [4,8,10,64,65,66,67,68,69,70,71,72,73,74,75,76,77,78,79,80] [10]
 (.chk (ar vD nO)
 (.call ⟨[],[(10,(.setc z2 0 (pn vD nO)))]⟩ [] 73 68 [(pc (.setc z2 0 (pn vD nO)) 0),rW,(.llen (pc o3 15))]
 (.ite (.nt Fp)
 (.ret (pi 1))
 (.call ⟨[],[]⟩ [] 77 68 [(pc bO 1),(pi 1),BA]
 (.ite (.nt Sc)
 (.ret (pi 3))
 (.next ⟨[(8,(pc bO 0))],[]⟩))))))
 (.next ⟨[(62,(aL nO (pi 1)))],[]⟩))
 (.exit 2 ⟨[(63,(ah nO mQ))],[]⟩))
def UB (b:Nat→PC):PT:=
 (.ite (.pick (.pick (.pick (aX (.llen (pc (.mk [r1]) 15)) (pi 40)) pT (aX (.llen (pc (.mk [r1]) 16)) (pi 4))) pT (aX (.llen (pc (.mk [r1]) 17)) (pi 100))) pT (aX (.llen (pc (.mk [r1]) 18)) (pi 200)))
 (.ret (pi 6))
 (.call ⟨[(4,(pi 0))],[(3,(.mk [r1])),(2,(.mk [r0]))]⟩ [] 37 66 [jA,j8]
 (.ite (aO mO (pi 0))
 (.ret mO)
 (.ite (aj (.llen (pc o3 15)) (pi 0))
 (.ret (pi 14))
 (.brk ⟨[(48,(pi 0)),(47,(.llen (pc o3 15)))],[]⟩
(ao2 b)
 (.brk ⟨[(62,(pi 0)),(61,(.llen (pc o3 16))),(60,(pc o3 16)),(8,(pi 0))],[]⟩
(ao3 b)
 (.call ⟨[],[]⟩ [] 84 69 [(au 8 o2),(au 19 o3)]
 (.ite (aO Sd (pi 0))
 (.ret Sd)
 (.call ⟨[],[]⟩ [] 89 70 [(au 19 o3)]
 (.ret r89))))))))))
def ajV (b:Nat→PC):PT×List (Shp×PT):=(UB b,[(.lp 0 [4,48,49] [] [4,48] [],Fy b),(.lp 2 [4,8,62,63] [] [4,8,62] [],Fz b)])
theorem Ks:wz.map told=some (ajV (bj wz)):=by kernel_rfl
theorem auU:tree (ab wz)=UB CG:=bB Ks
theorem Sr:round 0 [4,48,49] [] [4,48] [] (CG 0)=Fy CG:=be Ks 0 fun _=>rfl
theorem Ss:round 2 [4,8,62,63] [] [4,8,62] [] (CG 1)=Fz CG:=be Ks 1 fun _=>rfl
def C8:Option PC:=cF [4,5,6,7,8,54,80,109,118,9,10] [] Tryz.f66 66 [2,3]
def V4:PT:=
 (.call ⟨[],[(3,(.mk [r1])),(2,(.mk [r0]))]⟩ [] 12 85 [jA]
 (.ite (aO bH (pi 0))
 (.ret bH)
 (.call ⟨[(7,(.llen (pc o2 1))),(6,(.llen (pc o2 3)))],[]⟩ [] 25 86 [(pc o3 0),(.llen (pc o2 3))]
 (.call ⟨[(26,iv)],[]⟩ [(26,true)] 30 86 [(pc o3 1),r6]
 (.call ⟨[(36,(aj (pc o3 2) (pi (-1)))),(32,(.pick j9 nM pF))],[]⟩ [(36,false),(32,true)] 40 86 [(pc o3 2),r6]
 (.call ⟨[(47,(aj (pc o3 11) (pi (-1)))),(43,(.pick Fl (.pick iY pT qG) pF))],[]⟩ [(47,false),(43,true)] 51 86 [(pc o3 11),r6]
 (.blockS ⟨[(8,(.pick uf (.pick R7 pT lU) pF))],[]⟩ 0 [4,54,55,56,57,65,66,72,73,79,80,81,82,83,84,88,89,93,94,98,99,103,104,108,109,110,111,112,113,117,118,119,120,121,122,126,127,137,138,142] []
 (.call ⟨[(57,(.nt r8))],[]⟩ [(57,false)] 63 86 [(pc o3 4),(.llen (pc o2 0))]
 (.call ⟨[(66,(.pick BQ pT (.nt Fm)))],[]⟩ [(66,false)] 70 86 [(pc o3 9),r7]
 (.call ⟨[(73,(.pick r66 pT (.nt r70)))],[]⟩ [(73,false)] 77 86 [(pc o3 10),r7]
 (.iteS ⟨[],[]⟩ (.pick Fp pT (.nt Sc)) [4,80,81,82,83,84,88,89,93,94,98,99,103,104,108,109,110,111,112,113,117,118,119,120,121,122,126,127,137,138,142] []
 (.ret (pi 1))
 (.iteS ⟨[],[]⟩ (.pick (.pick (.pick (.pick (.pick (ah (pc o3 3) (pi 1)) pT (aX (pc o3 3) BA)) pT (ah (pc o3 8) (pi 0))) pT (aX (pc o3 8) (pi 100000))) pT (ah (pc o3 12) (pi 0))) pT (aX (pc o3 12) (pi 1000))) [4,109,110,111,112,113,117,118,119,120,121,122,126,127,137,138,142] []
 (.ret (pi 3))
 (.iteS ⟨[],[]⟩ (.pick (ah (pc o3 14) (pi 1)) pT (aX (pc o3 14) (pi 4))) [4,118,119,120,121,122,126,127,137,138,142] []
 (.ret (pi 15))
 (.call ⟨[(138,(.pick (.pick (ah (pc o3 13) (pi 0)) pT (aX (pc o3 13) (pi 7))) pT (.pick (aO (.ai .and .i64 (pc o3 13) (pi 4)) (pi 0)) (aj (pc o3 2) (pi (-1))) pF)))],[]⟩ [(138,false)] 140 87 [(au 15 o3)]
 (.ite (.pick (.r 138) pT (.nt (.r 140)))
 (.ret (pi 2))
 (.next ⟨[],[]⟩)))
 (.next ⟨[],[]⟩))
 (.next ⟨[],[]⟩))
 (.next ⟨[],[]⟩)))))
 (.iteS ⟨[],[]⟩ (aj (pc o3 5) (pi 4)) [4] []
 (.call ⟨[],[]⟩ [] 153 88 [(au 8 o2),(pc o3 9),(pc o3 10)]
 (.ret (.tget (.r 153) 1)))
 (.next ⟨[],[]⟩)
 (.ret (pi 0))))))))))
theorem adi:C8.map told=some (V4,[]):=by kernel_rfl
theorem awp:tree (ab C8)=V4:=aV adi
def zw:Option PC:=cF [2,3,4,5,6,7,10,11,12] [] Tryz.f85 85 [1,9]
def Nn:Nat→PC:=bn zw
def apx (b:Nat→PC):PC:=.block 0 [2,38,39] [] (.loop [2,38] [] (b 0))
def FU (b:Nat→PC):PT:=
 (.ite (ah gC mO)
 (.blockS ⟨[],[]⟩ 1 [2,9,40,41,42,43,44,45] [9]
 (.chk (ar iY gC)
 (.call ⟨[],[]⟩ [] 44 111 [(pc (.setc BM 0 (pn iY gC)) 0),(pi 10)]
 (.ite (.nt sc)
 (.ret (pi 1))
 (.next ⟨[],[]⟩))))
 (.next ⟨[(38,(aL gC (pi 1)))],[]⟩))
 (.exit 0 ⟨[(39,(ah gC mO))],[]⟩))
def U5 (b:Nat→PC):PT:=
 (.call ⟨[(2,(pi 0))],[(1,(.mk [r0]))]⟩ [] 15 106 [jA]
 (.call ⟨[(5,(.tget jB 2)),(4,(.tget jB 1)),(3,(.tget jB 0))],[]⟩ [] 21 107 [(pc o1 0),(pi 8),(.con (.clo 108 []))]
 (.ite (aO iX (pi 0))
 (.ret iX)
 (.call ⟨[],[(1,(au 8 o1))]⟩ [] 27 107 [r3,(pi 40),(.clo 109 [(.ref (au 8 o1))])]
 (.ite (aO ei (pi 0))
 (.ret ei)
 (.ite (aX rV (pi 20))
 (.ret (pi 6))
 (.brk ⟨[(38,(pi 0)),(37,rV),(36,(pc o1 2))],[]⟩
(apx b)
 (.call ⟨[],[]⟩ [] 49 107 [r4,(pi 200),(.clo 112 [(.ref o1)])]
 (.ite (aO nN (pi 0))
 (.ret nN)
 (.call ⟨[],[]⟩ [] 55 107 [r5,(pi 20),(.clo 113 [(.ref o1)])]
 (.ite (aO yh (pi 0))
 (.ret yh)
 (.call ⟨[],[]⟩ [] 60 115 [(.sub o1 0 8)]
 (.ite (aO vD (pi 0))
 (.ret vD)
 (.call ⟨[],[]⟩ [] 65 116 [(.sub o1 0 8)]
 (.ret BS)))))))))))))))
def akf (b:Nat→PC):PT×List (Shp×PT):=(U5 b,[(.lp 0 [2,38,39] [] [2,38] [],FU b)])
theorem Q8:zw.map told=some (akf (bj zw)):=by kernel_rfl
theorem avs:tree (ab zw)=U5 Nn:=bB Q8
theorem SN:round 0 [2,38,39] [] [2,38] [] (Nn 0)=FU Nn:=be Q8 0 fun _=>rfl
def zB:Option PC:=cF [] [] Tryz.f106 106 [1,2,3,4,6,16390,20486,24582,21,8,34,10,12298,16394,47]
def wx:Nat→PC:=bn zB
def apC (b:Nat→PC):PC:=.block 0 [2,14,15] [2] (.loop [2,14] [2] (b 0))
def apD (b:Nat→PC):PC:=.block 2 [3,27,28] [3] (.loop [3,27] [3] (b 1))
def apE (b:Nat→PC):PC:=.block 4 [4,40,41] [4] (.loop [4,40] [4] (b 2))
def Ls (b:Nat→PC):PT:=
 (.ite nI
 (.chk (ar bH cI)
 (.chk (bD (.llen ad1) cu)
 (.next ⟨[(2,pN),(14,BE)],[(2,ad1)]⟩)))
 (.exit 0 ⟨[(15,nI)],[]⟩))
def Lt (b:Nat→PC):PT:=
 (.ite (ah ei j9)
 (.chk (ar iv ei)
 (.chk (bD (.llen ad7) cu)
 (.next ⟨[(3,pN),(27,(aL ei (pi 1)))],[(3,ad7)]⟩)))
 (.exit 2 ⟨[(28,(ah ei j9))],[]⟩))
def Lu (b:Nat→PC):PT:=
 (.ite (ah qG rY)
 (.chk (ar gC qG)
 (.chk (bD (.llen ad3) cu)
 (.next ⟨[(4,pN),(40,(aL qG (pi 1)))],[(4,ad3)]⟩)))
 (.exit 4 ⟨[(41,(ah qG rY))],[]⟩))
def Vh (b:Nat→PC):PT:=
 (.brk ⟨[(14,(pi 0)),(13,(.llen uc)),(12,uc),(4,pN),(3,pN),(2,pN)],[(4,pL),(3,pL),(2,pL),(1,(.mk [r0]))]⟩
(apC b)
 (.brk ⟨[(27,(pi 0)),(26,nH),(25,(pc o1 3))],[]⟩
(apD b)
 (.brk ⟨[(40,(pi 0)),(39,oT),(38,(pc o1 4))],[]⟩
(apE b)
 (.ret (.tup [o2,o3,o4])))))
def akk (b:Nat→PC):PT×List (Shp×PT):=(Vh b,[(.lp 0 [2,14,15] [2] [2,14] [2],Ls b),(.lp 2 [3,27,28] [3] [3,27] [3],Lt b),(.lp 4 [4,40,41] [4] [4,40] [4],Lu b)])
theorem E0:zB.map told=some (akk (bj zB)):=by kernel_rfl
theorem avA:tree (ab zB)=Vh wx:=bB E0
theorem aeE:round 0 [2,14,15] [2] [2,14] [2] (wx 0)=Ls wx:=be E0 0 fun _=>rfl
theorem aeF:round 2 [3,27,28] [3] [3,27] [3] (wx 1)=Lt wx:=be E0 1 fun _=>rfl
theorem aeG:round 4 [4,40,41] [4] [4,40] [4] (wx 2)=Lu wx:=be E0 2 fun _=>rfl
def zz:Option PC:=cF [6,7,8] [] Tryz.f107 107 []
def Nq:Nat→PC:=bn zz
def apA (b:Nat→PC):PC:=.block 0 [6,15,16] [] (.loop [6,15] [] (b 0))
def FX (b:Nat→PC):PT:=
 (.ite (ah jB cI)
 (.blockS ⟨[],[]⟩ 1 [6,7,8,17,18,19,20,21,22,24,25,26,27] []
 (.call ⟨[(7,jB)],[]⟩ [] 20 135 [r0,jB]
 (.ite (aO cv (pi 0))
 (.ret cv)
 (.callc ⟨[],[]⟩ [] 26 r2 [r7]
 (.ite (.nt j9)
 (.ret (pi 1))
 (.next ⟨[],[]⟩)))))
 (.next ⟨[(15,(aL jB (pi 1)))],[]⟩))
 (.exit 0 ⟨[(16,(ah jB cI))],[]⟩))
def Vd (b:Nat→PC):PT:=
 (.ite (aX (.llen r0) r1)
 (.ret (pi 6))
 (.brk ⟨[(15,(pi 0)),(14,(.llen r0)),(6,(pi 0))],[]⟩
(apA b)
 (.ret (pi 0))))
def aki (b:Nat→PC):PT×List (Shp×PT):=(Vd b,[(.lp 0 [6,15,16] [] [6,15] [],FX b)])
theorem Rb:zz.map told=some (aki (bj zz)):=by kernel_rfl
theorem avw:tree (ab zz)=Vd Nq:=bB Rb
theorem SQ:round 0 [6,15,16] [] [6,15] [] (Nq 0)=FX Nq:=be Rb 0 fun _=>rfl
def Ig:Option PC:=cF [4] [] Tryz.f135 135 []
def Vg:PT:=
 (.chk (ar r0 r1)
 (.call ⟨[],[]⟩ [] 9 151 [(pn r0 r1)]
 (.ite (.nt r9)
 (.ret (pi 2))
 (.chk (.slok r0 (pi 0) r1)
 (.chk (ar r0 r1)
 (.call ⟨[],[]⟩ [] 18 152 [(.slc r0 (pi 0) r1),(pn r0 r1)]
 (.ite fA
 (.ret (pi 5))
 (.ret (pi 0)))))))))
theorem acN:Ig.map told=some (Vg,[]):=by kernel_rfl
theorem avz:tree (ab Ig)=Vg:=aV acN
def zA:Option PC:=cF [2,3,4,5] [] Tryz.f151 151 []
def Nr:Nat→PC:=bn zA
def apB (b:Nat→PC):PC:=.block 0 [2,16,17] [] (.loop [2,16] [] (b 0))
def FY (b:Nat→PC):PT:=
 (.ite (ah dI jB)
 (.chk (ar cI dI)
 (.ite (.pick (.nt (.pick (.pick (cS rU (.con (.v (.int .u8 97)))) (bD rU (.con (.v (.int .u8 122)))) pF) pT (.pick (cS rU (.con (.v (.int .u8 65)))) (bD rU (.con (.v (.int .u8 90)))) pF))) (.pick (aj dI (pi 0)) pT (.pick (aO rU (.con (.v (.int .u8 95)))) (.pick (ah rU (.con (.v (.int .u8 48)))) pT (aX rU (.con (.v (.int .u8 57))))) pF)) pF)
 (.ret pF)
 (.next ⟨[(16,(aL dI (pi 1)))],[]⟩)))
 (.exit 0 ⟨[(17,(ah dI jB))],[]⟩))
def Vf (b:Nat→PC):PT:=
 (.ite (.pick (.cs .eql r0 (.con (.v (.string ⟨#[]⟩)))) pT (aX (.slen r0) (pi 20)))
 (.ret pF)
 (.chk (bD (.slen r0) cu)
 (.brk ⟨[(16,(pi 0)),(15,(.llen (.bytes r0))),(14,(.bytes r0)),(2,pF)],[]⟩
(apB b)
 (.ret pT))))
def akj (b:Nat→PC):PT×List (Shp×PT):=(Vf b,[(.lp 0 [2,16,17] [] [2,16] [],FY b)])
theorem Rc:zA.map told=some (akj (bj zA)):=by kernel_rfl
theorem avy:tree (ab zA)=Vf Nr:=bB Rc
theorem SR:round 0 [2,16,17] [] [2,16] [] (Nr 0)=FY Nr:=be Rc 0 fun _=>rfl
def Iq:Option PC:=cF [4] [] Tryz.f152 152 []
def Vx:PT:=
 (.call ⟨[],[]⟩ [] 7 165 [r0,r1]
 (.ret (cS r7 (pi 0))))
theorem acV:Iq.map told=some (Vx,[]):=by kernel_rfl
theorem avR:tree (ab Iq)=Vx:=aV acV
def zR:Option PC:=cF [4,5] [] Tryz.f165 165 []
def Nz:Nat→PC:=bn zR
def ap0 (b:Nat→PC):PC:=.block 0 [4,8,9] [] (.loop [4,8] [] (b 0))
def Gf (b:Nat→PC):PT:=
 (.ite (ah r8 r7)
 (.chk (ar r0 r8)
 (.ite (.cs .eql r1 (pn r0 r8))
 (.ret r8)
 (.next ⟨[(8,rW)],[]⟩)))
 (.exit 0 ⟨[(9,(ah r8 r7))],[]⟩))
def VD (b:Nat→PC):PT:=
 (.brk ⟨[(8,(pi 0)),(7,(.llen r0)),(4,(pi 0))],[]⟩
(ap0 b)
 (.ret (pi (-1))))
def akz (b:Nat→PC):PT×List (Shp×PT):=(VD b,[(.lp 0 [4,8,9] [] [4,8] [],Gf b)])
theorem Rk:zR.map told=some (akz (bj zR)):=by kernel_rfl
theorem avX:tree (ab zR)=VD Nz:=bB Rk
theorem Te:round 0 [4,8,9] [] [4,8] [] (Nz 0)=Gf Nz:=be Rk 0 fun _=>rfl
def H9:Option PC:=cF [2] [] Tryz.f108 108 []
def U6:PT:=
 (.ret pT)
theorem acH:H9.map told=some (U6,[]):=by kernel_rfl
theorem avo:tree (ab H9)=U6:=aV acH
def Ia:Option PC:=cF [3] [] Tryz.f109 109 []
def U7:PT:=
 (.chk (ar (pc (.deref r1) 1) r0)
 (.call ⟨[],[]⟩ [] 10 110 [(.deref r1),(pn (pc (.deref r1) 1) r0)]
 (.ret cO)))
theorem acI:Ia.map told=some (U7,[]):=by kernel_rfl
theorem avp:tree (ab Ia)=U7:=aV acI
def zy:Option PC:=cF [4,6] [] Tryz.f110 110 [2,3]
def Np:Nat→PC:=bn zy
def apz (b:Nat→PC):PC:=.block 0 [4,10,11] [] (.loop [4,10] [] (b 0))
def FW (b:Nat→PC):PT:=
 (.ite (ah cO r9)
 (.chk (ar r8 cO)
 (.chk BN
 (.chk (.nt (.an (.an (.nt (ah RR (pi 1))) pT) (.nt BN)))
 (.ite (.pick (ah RR (pi 1)) pT (aX RR (pi 31)))
 (.ret pF)
 (.next ⟨[(10,(aL cO (pi 1)))],[]⟩)))))
 (.exit 0 ⟨[(11,(ah cO r9))],[]⟩))
def Vc (b:Nat→PC):PT:=
 (.brk ⟨[(10,(pi 0)),(9,(.llen (pc (.mk [r1]) 4))),(8,(pc (.mk [r1]) 4)),(4,pF)],[(3,(.mk [r1])),(2,(.mk [r0]))]⟩
(apz b)
 (.call ⟨[(33,(.pick (aX (.llen (pc o3 4)) (pi 60)) pT (aX (.llen (pc o3 5)) (pi 200))))],[]⟩ [(33,false)] 39 111 [(pc o3 1),(.llen (pc o2 4))]
 (.call ⟨[(42,(.pick ud pT (.nt rY)))],[]⟩ [(42,false)] 48 111 [(pc o3 2),(.llen (pc o2 0))]
 (.ite (.pick rZ pT (.nt jC))
 (.ret pF)
 (.call ⟨[],[]⟩ [] 53 136 [(pc o3 3),(pi 0),(pi 6)]
 (.call ⟨[(54,R8)],[]⟩ [(54,true)] 57 136 [(pc o3 4),(pi 101),(pi 1231)]
 (.call ⟨[(59,(.pick se BQ pF))],[]⟩ [(59,true)] 62 136 [(pc o3 5),(pi 0),(pi 100000)]
 (.ret (.pick ug nO pF)))))))))
def akh (b:Nat→PC):PT×List (Shp×PT):=(Vc b,[(.lp 0 [4,10,11] [] [4,10] [],FW b)])
theorem Ra:zy.map told=some (akh (bj zy)):=by kernel_rfl
theorem avv:tree (ab zy)=Vc Np:=bB Ra
theorem SP:round 0 [4,10,11] [] [4,10] [] (Np 0)=FW Np:=be Ra 0 fun _=>rfl
def If:Option PC:=cF [4] [] Tryz.f111 111 []
def Ve:PT:=
 (.ret RQ)
theorem acM:If.map told=some (Ve,[]):=by kernel_rfl
theorem avx:tree (ab If)=Ve:=aV acM
def zE:Option PC:=cF [6,7,8] [] Tryz.f136 136 []
def Ns:Nat→PC:=bn zE
def apJ (b:Nat→PC):PC:=.block 0 [6,11,12] [] (.loop [6,11] [] (b 0))
def vF (b:Nat→PC):PT:=
 (.ite (ah bJ cO)
 (.chk (ar r9 bJ)
 (.chk (.nt (.an (.an (aX bJ (pi 0)) (.an (.nt (.pick (ah (pn r9 bJ) r1) pT (aX (pn r9 bJ) r2))) pT)) (.nt (ar r0 (bE bJ (pi 1))))))
 (.ite (.pick (.pick (ah (pn r9 bJ) r1) pT (aX (pn r9 bJ) r2)) pT (.pick (aX bJ (pi 0)) (bD (pn r9 bJ) (pn r0 (bE bJ (pi 1)))) pF))
 (.ret pF)
 (.next ⟨[(11,(aL bJ (pi 1)))],[]⟩))))
 (.exit 0 ⟨[(12,(ah bJ cO))],[]⟩))
def Vk (b:Nat→PC):PT:=
 (.brk ⟨[(11,(pi 0)),(10,(.llen r0)),(9,r0),(6,pF)],[]⟩
(apJ b)
 (.ret pT))
def akn (b:Nat→PC):PT×List (Shp×PT):=(Vk b,[(.lp 0 [6,11,12] [] [6,11] [],vF b)])
theorem Rd:zE.map told=some (akn (bj zE)):=by kernel_rfl
theorem avD:tree (ab zE)=Vk Ns:=bB Rd
theorem BW:round 0 [6,11,12] [] [6,11] [] (Ns 0)=vF Ns:=be Rd 0 fun _=>rfl
def Ib:Option PC:=cF [3] [] Tryz.f112 112 []
def U8:PT:=
 (.chk (ar (pc (.deref r1) 3) r0)
 (.call ⟨[],[]⟩ [] 13 111 [(pc (pn (pc (.deref r1) 3) r0) 1),(.llen (pc (.deref r1) 1))]
 (.chk (.nt (.an (.an cU pT) (.nt (ar (pc (.deref r1) 3) r0))))
 (.call ⟨[(14,cU)],[]⟩ [(14,true)] 24 111 [(pc (pn (pc (.deref r1) 3) r0) 2),(.llen (pc (.deref r1) 2))]
 (.ret (.pick cI nK pF))))))
theorem acJ:Ib.map told=some (U8,[]):=by kernel_rfl
theorem avq:tree (ab Ib)=U8:=aV acJ
def Ic:Option PC:=cF [3] [] Tryz.f113 113 []
def U9:PT:=
 (.chk (ar (pc (.deref r1) 4) r0)
 (.call ⟨[],[]⟩ [] 9 114 [(pn (pc (.deref r1) 4) r0)]
 (.ret r9)))
theorem acK:Ic.map told=some (U9,[]):=by kernel_rfl
theorem avr:tree (ab Ic)=U9:=aV acK
def zC:Option PC:=cF [2] [] Tryz.f114 114 [1,3,4,6,19,8,16392,36]
def CN:Nat→PC:=bn zC
def apF (b:Nat→PC):PC:=.block 0 [2,3,12,13] [3] (.loop [2,3,12] [3] (b 0))
def apG (b:Nat→PC):PC:=.block 2 [4,29,30] [4] (.loop [4,29] [4] (b 1))
def FZ (b:Nat→PC):PT:=
 (.ite (ah bH bJ)
 (.blockS ⟨[],[]⟩ 1 [2,3,6,14,15,17,18,19,20,21,22,23,24] [6,19,3]
 (.chk (ar cO bH)
 (.chk (bD (.llen (.app o3 (.lst [(pc (.setc tV 0 tU) 0)]))) cu)
 (.call ⟨[(3,pN)],[(3,(.app o3 (.lst [(pc (.setc tV 0 tU) 0)])))]⟩ [] 23 111 [(pc (.setc tV 0 tU) 1),(pi 5)]
 (.ite (.nt fV)
 (.ret pF)
 (.next ⟨[],[]⟩)))))
 (.next ⟨[(12,(aL bH (pi 1)))],[]⟩))
 (.exit 0 ⟨[(13,(ah bH bJ))],[]⟩))
def Lv (b:Nat→PC):PT:=
 (.ite (ah nL qE)
 (.chk (ar ei nL)
 (.chk (bD (.llen ad8) cu)
 (.next ⟨[(4,pN),(29,(aL nL (pi 1)))],[(4,ad8)]⟩)))
 (.exit 2 ⟨[(30,(ah nL qE))],[]⟩))
def Vi (b:Nat→PC):PT:=
 (.brk ⟨[(12,(pi 0)),(11,qD),(10,tW),(4,pN),(3,pN),(2,pF)],[(4,pL),(3,pL),(1,(.mk [r0]))]⟩
(apF b)
 (.brk ⟨[(29,(pi 0)),(28,nH),(27,(pc o1 3))],[]⟩
(apG b)
 (.call ⟨[],[]⟩ [] 40 136 [o3,(pi 0),(pi 21)]
 (.call ⟨[(41,qG)],[]⟩ [(41,true)] 43 136 [o4,(pi 0),(pi 21)]
 (.ret (.pick oU uf pF))))))
def akl (b:Nat→PC):PT×List (Shp×PT):=(Vi b,[(.lp 0 [2,3,12,13] [3] [2,3,12] [3],FZ b),(.lp 2 [4,29,30] [4] [4,29] [4],Lv b)])
theorem KA:zC.map told=some (akl (bj zC)):=by kernel_rfl
theorem avB:tree (ab zC)=Vi CN:=bB KA
theorem SS:round 0 [2,3,12,13] [3] [2,3,12] [3] (CN 0)=FZ CN:=be KA 0 fun _=>rfl
theorem aeH:round 2 [4,29,30] [4] [4,29] [4] (CN 1)=Lv CN:=be KA 1 fun _=>rfl
def zG:Option PC:=cF [2,3] [] Tryz.f115 115 [1,4,6]
def CP:Nat→PC:=bn zG
def apK (b:Nat→PC):PC:=.block 2 [2,50,51] [] (.loop [2,50] [] (b 0))
def apL (b:Nat→PC):PC:=.block 0 [2,14,15] [] (.loop [2,14] [] (b 1))
def BX (b:Nat→PC):PT:=
 (.ite (ah mP nN)
 (.chk (ar jC mP)
 (.ite (.pick (aj (pc (.setc z3 0 (pn jC mP)) 0) (pc o4 0)) (aj (pc (.setc z3 0 (pn jC mP)) 1) (pc o4 1)) pF)
 (.ret (pi 5))
 (.next ⟨[(50,(aL mP (pi 1)))],[]⟩)))
 (.exit 2 ⟨[(51,(ah mP nN))],[]⟩))
def F2 (b:Nat→PC):PT:=
 (.ite nI
 (.blockS ⟨[(15,nI)],[]⟩ 1 [2,3,4,16,17,18,19,20,21,22,23,24,25,26,34,35,39,40,44,45,46,47,48,49,50,51] [4]
 (.chk (ar bH cI)
 (.call ⟨[(3,cI)],[(4,BJ)]⟩ [] 24 111 [(pc BJ 0),lR]
 (.call ⟨[(26,(.nt nK))],[]⟩ [(26,false)] 32 111 [(pc o4 1),lR]
 (.ite (.pick (.pick (.pick j9 pT (.nt Fl)) pT (ah (pc o4 2) (pi 1))) pT (aX (pc o4 2) (pi 20000)))
 (.ret (pi 1))
 (.chk (.slok (pc o1 5) (pi 0) r3)
 (.brk ⟨[(50,(pi 0)),(49,(.llen (.slc (pc o1 5) (pi 0) r3))),(48,(.slc (pc o1 5) (pi 0) r3))],[]⟩
(apK b)
 (.next ⟨[],[]⟩)))))))
 (.next ⟨[(14,BE)],[]⟩))
 (.exit 0 ⟨[(15,nI)],[]⟩))
def Vl (b:Nat→PC):PT:=
 (.ite (aX (.llen x9) (pi 100))
 (.ret (pi 6))
 (.brk ⟨[(14,(pi 0)),(13,(.llen x9)),(12,x9),(2,(pi 0))],[(1,(.mk [r0]))]⟩
(apL b)
 (.ret (pi 0))))
def ako (b:Nat→PC):PT×List (Shp×PT):=(Vl b,[(.lp 2 [2,50,51] [] [2,50] [],BX b),(.lp 0 [2,14,15] [] [2,14] [],F2 b)])
theorem KC:zG.map told=some (ako (bj zG)):=by kernel_rfl
theorem avE:tree (ab zG)=Vl CP:=bB KC
theorem Lw:round 2 [2,50,51] [] [2,50] [] (CP 0)=BX CP:=be KC 0 fun _=>rfl
theorem SW:round 0 [2,14,15] [] [2,14] [] (CP 1)=F2 CP:=be KC 1 fun _=>rfl
def zD:Option PC:=cF [2] [] Tryz.f116 116 [1,4,6]
def CO:Nat→PC:=bn zD
def apH (b:Nat→PC):PC:=.block 0 [2,14,15] [] (.loop [2,14] [] (b 0))
def apI (b:Nat→PC):PC:=.block 2 [2,69,70] [] (.loop [2,69] [] (b 1))
def F0 (b:Nat→PC):PT:=
 (.ite nI
 (.blockS ⟨[],[]⟩ 1 [2,4,16,17,18,19,20,21,22,23,24,25,33,34,40,41,47,48,54,55,60] [4]
 (.chk (ar bH cI)
 (.call ⟨[],[(4,(.setc z5 0 (pn bH cI)))]⟩ [] 23 111 [(pc (.setc z5 0 (pn bH cI)) 0),vB]
 (.call ⟨[(25,(.nt fV))],[]⟩ [(25,false)] 31 111 [(pc o4 1),vB]
 (.call ⟨[(41,(.pick (.pick iv pT (.nt qF)) pT (aj (pc o4 0) (pc o4 1))))],[]⟩ [(41,false)] 45 111 [(bE (pc o4 2) (pi 1)),(pi 1073741824)]
 (.call ⟨[(48,(.pick oU pT (.nt sd)))],[]⟩ [(48,false)] 52 111 [(bE (pc o4 3) (pi 1)),(pi 1073741824)]
 (.call ⟨[(55,(.pick jC pT (.nt K6)))],[]⟩ [(55,false)] 58 111 [(pc o4 4),(pi 100001)]
 (.ite (.pick yh pT (.nt BR))
 (.ret (pi 1))
 (.next ⟨[],[]⟩))))))))
 (.next ⟨[(14,BE)],[]⟩))
 (.exit 0 ⟨[(15,nI)],[]⟩))
def F1 (b:Nat→PC):PT:=
 (.ite (ah yi R9)
 (.blockS ⟨[],[]⟩ 3 [2,6,71,72,73,74,75,76,77,78,79,80,84,85,91,92,96] [6]
 (.chk (ar uh yi)
 (.call ⟨[],[(6,(.setc z3 0 (pn uh yi)))]⟩ [] 78 111 [(pc (.setc z3 0 (pn uh yi)) 0),oT]
 (.ite (.pick (.pick (.pick (.nt r78) pT (ah (pc o6 1) (pi 0))) pT (aX (pc o6 1) (pc o6 2))) pT (aX (pc o6 2) (pi 100000)))
 (.ret (pi 1))
 (.next ⟨[],[]⟩))))
 (.next ⟨[(69,(aL yi (pi 1)))],[]⟩))
 (.exit 2 ⟨[(70,(ah yi R9))],[]⟩))
def Vj (b:Nat→PC):PT:=
 (.ite (aX (.llen (pc (.mk [r0]) 6)) (pi 100))
 (.ret (pi 6))
 (.brk ⟨[(14,(pi 0)),(13,(.llen (pc (.mk [r0]) 6))),(12,(pc (.mk [r0]) 6)),(2,(pi 0))],[(1,(.mk [r0]))]⟩
(apH b)
 (.ite (aX yb (pi 20))
 (.ret (pi 6))
 (.brk ⟨[(69,(pi 0)),(68,yb),(67,(pc o1 7))],[]⟩
(apI b)
 (.ret (pi 0))))))
def akm (b:Nat→PC):PT×List (Shp×PT):=(Vj b,[(.lp 0 [2,14,15] [] [2,14] [],F0 b),(.lp 2 [2,69,70] [] [2,69] [],F1 b)])
theorem KB:zD.map told=some (akm (bj zD)):=by kernel_rfl
theorem avC:tree (ab zD)=Vj CO:=bB KB
theorem SU:round 0 [2,14,15] [] [2,14] [] (CO 0)=F0 CO:=be KB 0 fun _=>rfl
theorem SV:round 2 [2,69,70] [] [2,69] [] (CO 1)=F1 CO:=be KB 1 fun _=>rfl
def IJ:Option PC:=cF [4] [] Tryz.f86 86 []
def V5:PT:=
 (.ret RQ)
theorem adj:IJ.map told=some (V5,[]):=by kernel_rfl
theorem awq:tree (ab IJ)=V5:=aV adj
def IK:Option PC:=cF [2,8,19,40] [] Tryz.f87 87 [1,3]
def V6:PT:=
 (.ite (.pick (aj (pc lq 0) (pi 0)) (aj (pc lq 0) (pi 0)) (aj (pc lq 0) (pi 4)))
 (.ret (.pick (aj (pc lq 1) (pi 0)) (aj (pc lq 2) (pi 0)) pF))
 (.ite (.pick (aj (pc lq 0) (pi 1)) (aj (pc lq 0) (pi 1)) (aj (pc lq 0) (pi 2)))
 (.ret (.pick (.pick (cS (pc lq 1) (pi 1)) (bD (pc lq 1) (pi 400)) pF) (.pick (aj (pc lq 2) (pi 0)) pT (aj (pc lq 2) (pi 1))) pF))
 (.ite (aj (pc lq 0) (pi 3))
 (.ret (.pick (.pick (cS (pc lq 1) (pc (.mk [r0]) 8)) (bD (pc lq 1) (pi 100000)) pF) (aj (pc lq 2) (pi 0)) pF))
 (.ret pF))))
theorem adk:IK.map told=some (V6,[]):=by kernel_rfl
theorem awr:tree (ab IK)=V6:=aV adk
def zx:Option PC:=cF [6,7] [] Tryz.f88 88 [3,9]
def No:Nat→PC:=bn zx
def apy (b:Nat→PC):PC:=.block 0 [6,7,13,14] [] (.loop [6,7,13] [] (b 0))
def FV (b:Nat→PC):PT:=
 (.ite (ah cU bH)
 (.chk (ar bJ cU)
 (.ite (.pick (aj (pc (.setc z3 0 (pn bJ cU)) 0) r1) (aj (pc (.setc z3 0 (pn bJ cU)) 1) r2) pF)
 (.ret (.tup [(pc (.setc z3 0 (pn bJ cU)) 2),(pi 0)]))
 (.next ⟨[(13,(aL cU (pi 1)))],[]⟩)))
 (.exit 0 ⟨[(14,(ah cU bH))],[]⟩))
def Vb (b:Nat→PC):PT:=
 (.brk ⟨[(13,(pi 0)),(12,(.llen x9)),(11,x9),(7,(pi 0)),(6,(pi 0))],[]⟩
(apy b)
 (.ret (.tup [(pi 0),(pi 4)])))
def akg (b:Nat→PC):PT×List (Shp×PT):=(Vb b,[(.lp 0 [6,7,13,14] [] [6,7,13] [],FV b)])
theorem Q9:zx.map told=some (akg (bj zx)):=by kernel_rfl
theorem avu:tree (ab zx)=Vb No:=bB Q9
theorem SO:round 0 [6,7,13,14] [] [6,7,13] [] (No 0)=FV No:=be Q9 0 fun _=>rfl
def zf:Option PC:=cF [6,8,9,76,92,98] [] Tryz.f67 67 [3,4,7,11]
def Nd:Nat→PC:=bn zf
def ao7 (b:Nat→PC):PC:=.block 0 [8,9,51,52] [] (.loop [8,9,51] [] (b 0))
def Ll (b:Nat→PC):PT:=
 (.ite (ah lU mP)
 (.chk (ar nN lU)
 (.next ⟨[(8,(pc (.setc z9 0 (pn nN lU)) 6)),(9,(.pick r9 pT (.pick (.pick (aj (pc o7 0) (pi 1)) (aj (pc (.setc z9 0 (pn nN lU)) 0) (pi 1)) pF) (aj (pc (.setc z9 0 (pn nN lU)) 1) (pc o7 1)) pF))),(51,(aL lU (pi 1)))],[]⟩))
 (.exit 0 ⟨[(52,(ah lU mP))],[]⟩))
def UJ (b:Nat→PC):PT:=
 (.chk (ar (pc (.mk [r1]) 15) r2)
 (.call ⟨[],[(7,oQ),(4,(.mk [r1])),(3,(.mk [r0]))]⟩ [] 23 68 [(pc oQ 1),(pi 0),(bE (pc (.mk [r1]) 14) (pi 1))]
 (.ite (.nt fV)
 (.ret (pi 15))
 (.call ⟨[],[]⟩ [] 31 68 [(pc o7 2),(pi 0),KV]
 (.call ⟨[(33,(.nt qF))],[]⟩ [(33,false)] 40 68 [(pc o7 7),(pi 0),(bE (.llen (pc o3 1)) (pi 1))]
 (.ite (.pick ud pT (.nt qG))
 (.ret (pi 1))
 (.chk (.slok (pc o4 15) (pi 0) r2)
 (.brk ⟨[(51,(pi 0)),(50,(.llen (.slc (pc o4 15) (pi 0) r2))),(49,(.slc (pc o4 15) (pi 0) r2)),(9,pF),(8,(pc o4 8))],[]⟩
(ao7 b)
 (.blockS ⟨[],[]⟩ 2 [6,76,77,78,79,80,81,82,91,92,93,94,95,96,97,98,99] []
 (.call ⟨[],[]⟩ [] 80 68 [(pc o7 6),r8,(pi 100000)]
 (.iteS ⟨[],[]⟩ (.pick (.nt vE) pT (.pick (aj r2 (pi 0)) (aO (pc o7 6) r8) pF)) [6,92,93,94,95,96,97,98,99] []
 (.ret (pi 13))
 (.call ⟨[],[]⟩ [] 96 89 [(au 8 o3),(au 19 o4),r2]
 (.ite (.nt r96)
 (.ret (pi 14))
 (.ite r9
 (.ret (pi 5))
 (.next ⟨[],[]⟩))))
 (.next ⟨[],[]⟩)))
 (.ret (pi 0)))))))))))
def ajZ (b:Nat→PC):PT×List (Shp×PT):=(UJ b,[(.lp 0 [8,9,51,52] [] [8,9,51] [],Ll b)])
theorem QX:zf.map told=some (ajZ (bj zf)):=by kernel_rfl
theorem au2:tree (ab zf)=UJ Nd:=bB QX
theorem aez:round 0 [8,9,51,52] [] [8,9,51] [] (Nd 0)=Ll Nd:=be QX 0 fun _=>rfl
def H0:Option PC:=cF [6] [] Tryz.f68 68 []
def UI:PT:=
 (.ret (.pick (cS r0 r1) (bD r0 r2) pF))
theorem acz:H0.map told=some (UI,[]):=by kernel_rfl
theorem au1:tree (ab H0)=UI:=aV acz
def HZ:Option PC:=cF [6,9,10,66,103,113,11,140,149] [] Tryz.f89 89 [3,4,7,8]
def UH:PT:=
 (.chk (ar (pc (.mk [r1]) 15) r2)
 (.ite (.pick (.cb .neq (aj r2 (pi 0)) (aj (pc oQ 0) (pi 0))) pT (.pick (aO (pc oQ 0) (pi 2)) (aO (pc oQ 4) (pi (-1))) pF))
 (.ret pF)
 (.ite (.pick (.pick (aO (pc oQ 0) (pi 3)) (aO (pc oQ 0) (pi 4)) pF) (aO (pc oQ 3) (pi (-1))) pF)
 (.ret pF)
 (.call ⟨[(9,(.pick (aj (pc oQ 5) (pi 0)) (aj (pc oQ 8) (pi 0)) pF))],[(8,(.setc GS 0 j8)),(7,oQ),(4,(.mk [r1])),(3,(.mk [r0]))]⟩ [] 58 68 [(pc oQ 5),(pi 1),BA]
 (.blockS ⟨[(65,(pc o7 0)),(10,(.pick BR (aj (pc o7 8) (pi 0)) pF))],[]⟩ 0 [6,66,67,103,104,113,114,140,141,149,150] []
 (.iteS ⟨[],[]⟩ (aj BS (pi 0)) [6,103,104,113,114,140,141,149,150] []
 (.ret (.pick (.pick (.pick (.pick (.pick (aj (pc o7 2) (pc o8 0)) (aj (pc o7 5) (pi 0)) pF) (aj (.ai .or .i64 (pc o7 8) (pi 1)) (pi 1)) pF) (aj (pc o7 1) (pi 0)) pF) (aj (pc o7 6) (pc o8 8)) pF) (aj (pc o7 7) (pc o8 9)) pF))
 (.iteS ⟨[],[]⟩ (aj BS (pi 1)) [6,113,114,140,141,149,150] []
 (.ret (.pick (aj (pc o7 2) (pc o8 1)) cO pF))
 (.iteS ⟨[],[]⟩ (aj BS (pi 2)) [6,140,141,149,150] []
 (.call ⟨[(11,(pi 6))],[]⟩ [] 121 68 [(pc o7 4),(pi (-1)),KV]
 (.call ⟨[(127,(.pick asi (aj (pc o7 5) (pi 0)) pF))],[]⟩ [(127,true)] 130 68 [(pc o7 8),(pi 0),(pi 7)]
 (.ret (.pick (.pick asj (.r 130) pF) (aO (.ai .and .i64 (pc o7 8) bJ) bJ) pF))))
 (.iteS ⟨[],[]⟩ (aj BS (pi 3)) [6,149,150] []
 (.call ⟨[(143,r9)],[]⟩ [(143,true)] 147 117 [(au 19 o4),r2,(.lst [(pi 0),(pi 1),(pi 2),(pi 4)])]
 (.ret (.pick (.r 143) (.r 147) pF)))
 (.iteS ⟨[],[]⟩ (aj BS (pi 4)) [6] []
 (.call ⟨[(159,(.pick cO (aO (pc o7 2) (pc o8 1)) pF))],[]⟩ [(159,true)] 163 117 [(au 19 o4),r2,(.lst [(pi 0),(pi 2)])]
 (.ret (.pick (.r 159) (.r 163) pF)))
 (.next ⟨[],[]⟩)
 (.next ⟨[],[]⟩))
 (.next ⟨[],[]⟩))
 (.next ⟨[],[]⟩))
 (.next ⟨[],[]⟩))
 (.next ⟨[],[]⟩))
 (.ret pF))))))
theorem acy:HZ.map told=some (UH,[]):=by kernel_rfl
theorem au0:tree (ab HZ)=UH:=aV acy
def HY:Option PC:=cF [6,7] [] Tryz.f117 117 [3]
def UF:PT:=
 (.chk (ar oR r1)
 (.call ⟨[(7,(pc (pn oR r1) 3))],[(3,(.mk [r0]))]⟩ [] 17 68 [(pc (pn oR r1) 3),(pi 0),(bE r1 (pi 1))]
 (.chk (.nt (.an (.an nJ pT) (.nt (ar (pc o3 15) r1))))
 (.call ⟨[(18,nJ)],[]⟩ [(18,true)] 27 118 [(au 19 o3),r7,(pc (pn (pc o3 15) r1) 1)]
 (.chk (.nt (.an (.an (.pick fA ei pF) pT) (.nt (ar (pc o3 15) r7))))
 (.call ⟨[(29,(.pick fA ei pF))],[]⟩ [(29,true)] 37 23 [r2,(pc (pn (pc o3 15) r7) 0)]
 (.ret (.pick nL mO pF))))))))
theorem acx:HY.map told=some (UF,[]):=by kernel_rfl
theorem auY:tree (ab HY)=UF:=aV acx
def H2:Option PC:=cF [6] [] Tryz.f118 118 [3]
def Mf:PT:=
 (.chk (.nt (.an (.an (.nt (aj r1 (pi 0))) pT) (.nt (ar oR r1))))
 (.ret (.pick (aj r1 (pi 0)) pT (aj (pc (pn oR r1) 1) r2))))
theorem acA:H2.map told=some (Mf,[]):=by kernel_rfl
theorem au3:tree (ab H2)=Mf:=aV acA
def Ip:Option PC:=cF [4] [] Tryz.f23 23 []
def Vw:PT:=
 (.call ⟨[],[]⟩ [] 7 56 [r0,r1]
 (.ret (cS r7 (pi 0))))
theorem acU:Ip.map told=some (Vw,[]):=by kernel_rfl
theorem avQ:tree (ab Ip)=Vw:=aV acU
def zQ:Option PC:=cF [4,5] [] Tryz.f56 56 []
def Ny:Nat→PC:=bn zQ
def apZ (b:Nat→PC):PC:=.block 0 [4,8,9] [] (.loop [4,8] [] (b 0))
def Ge (b:Nat→PC):PT:=
 (.ite (ah r8 r7)
 (.chk (ar r0 r8)
 (.ite (aj r1 (pn r0 r8))
 (.ret r8)
 (.next ⟨[(8,rW)],[]⟩)))
 (.exit 0 ⟨[(9,(ah r8 r7))],[]⟩))
def VC (b:Nat→PC):PT:=
 (.brk ⟨[(8,(pi 0)),(7,(.llen r0)),(4,(pi 0))],[]⟩
(apZ b)
 (.ret (pi (-1))))
def aky (b:Nat→PC):PT×List (Shp×PT):=(VC b,[(.lp 0 [4,8,9] [] [4,8] [],Ge b)])
theorem Rj:zQ.map told=some (aky (bj zQ)):=by kernel_rfl
theorem avW:tree (ab zQ)=VC Ny:=bB Rj
theorem Td:round 0 [4,8,9] [] [4,8] [] (Ny 0)=Ge Ny:=be Rj 0 fun _=>rfl
end Rm
