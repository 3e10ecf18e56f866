/-
  The functions of this seat, compiled (1).
-/
import Derived.Test.YtkhkejmimnklfaaGreatDoorKAK
import Derived.KernelRfl
set_option linter.unusedVariables false
set_option maxRecDepth 100000
namespace Rm
open Go Go.Proofs Cx
noncomputable def EH:Option PC:=ay {ctx with fr:=[12,13],nh:=[]} Tryz.f9 ((ab af 9).getD default) [6,8,14,15,28687,16]
noncomputable def It:PC:=ax EH
def Ta:PT:=
 (.call ⟨[],[(8,(.mk [r2])),(6,(.mk [r0]))]⟩ [] 17 40 []
 (.call ⟨[(13,jE)],[]⟩ [] 20 41 [(av 8 o6),(av 19 o8)]
 (.ite (.nt dp)
 (.ret db)
 (.call ⟨[],[]⟩ [] 28 42 [(av 8 o6),r1,(av 19 o8),r3,r4]
 (.ite (.pick (aq (pc sF 3) (pi 0)) pT (bh (pc sF 3) (pc sF 0)))
 (.ret pF)
 (.ite (.pick (aV r3 (pi 0)) (aq r3 (.llen (pc o8 15))) pF)
 (.chk (az (pc o8 15) r3)
 (.chk (az (pc o6 3) (pc (pn (pc o8 15) r3) 2))
 (.chk (az (pc o6 1) (pc (pn (pc o6 3) (pc (pn (pc o8 15) r3) 2)) 1))
 (.ite (.pick (ao (pc (pn (pc o6 1) (pc (pn (pc o6 3) (pc (pn (pc o8 15) r3) 2)) 1)) 2) (pc o8 4)) (aO (pc sF 3) (pi 0)) pF)
 (.ret pF)
 (.ite (.pick (aV r5 (pi 0)) (aq r5 (.llen (pc o6 6))) pF)
 (.chk (az (pc o6 6) r5)
 (.call ⟨[],[(14,sF)]⟩ [] 96 42 [adD,r1,(av 19 o8),r3,r4]
 (.ret Kl)))
 (.call ⟨[],[(14,sF)]⟩ [] 96 42 [adV,r1,(av 19 o8),r3,r4]
 (.ret Kl)))))))
 (.ite (.pick (aV r5 (pi 0)) (aq r5 (.llen (pc o6 6))) pF)
 (.chk (az (pc o6 6) r5)
 (.call ⟨[],[(14,sF)]⟩ [] 96 42 [adD,r1,(av 19 o8),r3,r4]
 (.ret Kl)))
 (.call ⟨[],[(14,sF)]⟩ [] 96 42 [adV,r1,(av 19 o8),r3,r4]
 (.ret Kl)))))))))
def anV (b:Nat→PC):PT×List (Shp×PT):=(Ta,[])
theorem ab5:EH.map told=some (anV (aw EH)):=by kernel_rfl
theorem ayi:tree It=Ta:=aB ab5
theorem ajy:EH=some It:=aA ab5
noncomputable def EK:Option PC:=ay {ctx with fr:=[0,4,6,7,8],nh:=[]} Tryz.f40 ((ab af 40).getD default) [1,2,3]
noncomputable def Iw:PC:=ax EK
def Td:PT:=
 (.call ⟨[],[]⟩ [] 10 104 [(pi 20),(pi 25)]
 (.call ⟨[],[(2,(.setc nW 0 (.tget cD 1))),(1,(.setc Kp 0 (.tget cD 0)))]⟩ [] 15 105 [(av 8 (.setc Kp 0 (.tget cD 0))),(pi 1),(pi 0),(pi 50)]
 (.call ⟨[(4,(.tget cJ 1))],[(3,(.setc z2 0 (.tget cJ 0)))]⟩ [] 20 105 [(av 8 o1),(pi 0),(pi 0),(pi 50)]
 (.call ⟨[(6,(.tget dp 1))],[]⟩ [] 24 106 [(pi 20),(pi 25),(pi 100),(.mk [(pi 1000),(pi 0),(pi 0),(pi 0),(pi 0),(pi 1000),(pi 0)])]
 (.call ⟨[(25,pD)],[]⟩ [(25,true)] 27 106 [(pi 20),(pi 25),(pi 101),(.mk [(pi 1000),(pi 0),(pi 5),(pi 0),(pi 0),(pi 1005),(pi 0)])]
 (.call ⟨[(29,(.pick gM ec pF))],[]⟩ [(29,true)] 31 106 [(pi 20),(pi 25),(pi 106),(.mk [(pi 1000),(pi 1),(pi 5),(pi 0),(pi 0),(pi 1006),(pi 0)])]
 (.call ⟨[(7,(.pick pE oa pF))],[]⟩ [] 34 106 [(pi 20),(pi 25),(pi 130),(.mk [(pi 1000),(pi 5),(pi 5),(pi 0),(pi 0),(pi 1010),(pi 0)])]
 (.call ⟨[(35,Rc)],[]⟩ [(35,true)] 37 106 [(pi 25),(pi 20),(pi 130),(.mk [(pi 1000),(pi 5),(pi 5),(pi 200),(pi 0),(pi 1210),(pi 0)])]
 (.call ⟨[(55,(.pick (.pick (.pick (.pick r7 (.pick mU lV pF) pF) r4 pF) (.nt r6) pF) (.an (ao (pc (.mk [(pc o3 0),(pc o3 1)]) 0) (pi 20)) (.an (ao (pc (.mk [(pc o3 0),(pc o3 1)]) 1) (pi 1)) pT)) pF))],[]⟩ [(55,true)] 58 42 [(av 8 o1),(pi 0),(av 19 o2),(pi 1),(pi 130)]
 (.ret (.pick sI (.an (ao (pc qL 0) (pi 0)) (.an (ao (pc qL 1) (pi 0)) (.an (ao (pc qL 2) (pi 0)) (.an (ao (pc qL 3) (pi 0)) (.an (ao (pc qL 4) (pi 0)) (.an (ao (pc qL 5) (pi 0)) (.an (ao (pc qL 6) (pi 0)) pT))))))) pF)))))))))))
def anY (b:Nat→PC):PT×List (Shp×PT):=(Td,[])
theorem ab8:EK.map told=some (anY (aw EK)):=by kernel_rfl
theorem ayl:tree Iw=Td:=aB ab8
theorem ajB:EK=some Iw:=aA ab8
noncomputable def EI:Option PC:=ay {ctx with fr:=[],nh:=[]} Tryz.f104 ((ab af 104).getD default) [4,5,6,20486,24582,28678,32774,7,65543,69639,73735,77831]
noncomputable def Iu:PC:=ax EI
def Tb:PT:=
 (.ret (.tup [(av 8 (.setc Kp 0 (.mk [(pc KB 0),(pc KB 1),(pc KB 2),(pc KB 3),(.lst [(.mk [(.con (.v (.string ⟨#[103,101,110,101,118,97]⟩))),pF,pL,(.lst [(.mk [(pi 17),(.mk [(pi 1),(pi 1),pL])])])])]),pL,(.lst [(.mk [(pi 0),(pi 1),(pi 1),r0,(pi 0)]),(.mk [(pi 0),(pi 1),(pi 1),r1,(pi 120)])]),pL]))),(av 19 (.setc nW 0 (.mk [(pc jW 0),(pc jW 1),(pc jW 2),(pc jW 3),(pc jW 4),(pc jW 5),(pc jW 6),(pc jW 7),(pc jW 8),(pc jW 9),(pc jW 10),(pc jW 11),(pc jW 12),(pc jW 13),(pc jW 14),(.lst [(.mk [(pi 0),(pi 0),(pi 0),(pi (-1)),(pi (-1)),(pi 0),(pi 10),(pi 0),(pi 0)])]),pL,(.lst [(.mk [(pi 4),(pi 1),(pi 1),(pi 0),(pi (-1)),(pi 5),(pi 101),(pi 0),(pi 0)])]),pL])))]))
def anW (b:Nat→PC):PT×List (Shp×PT):=(Tb,[])
theorem ab6:EI.map told=some (anW (aw EI)):=by kernel_rfl
theorem ayj:tree Iu=Tb:=aB ab6
theorem ajz:EI=some Iu:=aA ab6
noncomputable def Ea:Option PC:=ay {ctx with fr:=[9,10,11,12,13,15],nh:=[]} Tryz.f105 ((ab af 105).getD default) [4,8,14]
noncomputable def HN:PC:=ax Ea
def Sv:PT:=
 (.call ⟨[(11,(pi 0)),(10,(pi 0))],[(8,z2),(4,(.mk [r0]))]⟩ [] 21 172 [(pc (.mk [r0]) 6),r1,r2,r3]
 (.iteS ⟨[(12,jY)],[]⟩ (aV jY (pi 0)) [10,11] []
 (.chk (az (pc o4 6) bV)
 (.next ⟨[(11,(pc (pn (pc o4 6) bV) 3)),(10,(pc (pn (pc o4 6) bV) 2))],[]⟩))
 (.call ⟨[],[]⟩ [] 41 172 [(pc o4 6),r2,r1,r3]
 (.ite (aV kE (pi 0))
 (.chk (az (pc o4 6) kE)
 (.next ⟨[(10,(pc (pn (pc o4 6) kE) 3)),(11,(pc (pn (pc o4 6) kE) 2))],[]⟩))
 (.next ⟨[],[]⟩)))
 (.call ⟨[],[]⟩ [] 59 173 [cD,br]
 (.ret (.tup [(.mk [(pc adv 0),(pc adv 1)]),(ao (.tget KF 1) (pi 0))])))))
def anf (b:Nat→PC):PT×List (Shp×PT):=(Sv,[])
theorem abz:Ea.map told=some (anf (aw Ea)):=by kernel_rfl
theorem axG:tree HN=Sv:=aB abz
theorem aiT:Ea=some HN:=aA abz
noncomputable def zu:Option PC:=ay {ctx with fr:=[8,9,10],nh:=[]} Tryz.f172 ((ab af 172).getD default) [11]
noncomputable def HR:PC:=ax zu
noncomputable def Me:Nat→PC:=bt zu
def atj (b:Nat→PC):PC:=.block 0 [9,14,15] [] (.loop [9,14] [] (b 0))
def KI (b:Nat→PC):PT:=
 (.ite lU
 (.chk (az bV cU)
 (.chk (.nt (.an (.an (.nt (aq r9 (pi 0))) (.an adK pT)) (.nt (az r0 r9))))
 (.next ⟨[(9,(.pick (.pick adK (.pick (aq r9 (pi 0)) pT (bh (pc (.setc z5 0 jX) 4) (pc (pn r0 r9) 4))) pF) cU r9)),(14,yh)],[]⟩)))
 (.exit 0 ⟨[(15,lU)],[]⟩))
def SA (b:Nat→PC):PT:=
 (.brk ⟨[(14,(pi 0)),(13,(.llen r0)),(12,r0),(9,(pi (-1)))],[]⟩
(atj b)
 (.ret r9))
def anj (b:Nat→PC):PT×List (Shp×PT):=(SA b,[(.lp 0 [9,14,15] [] [9,14] [],KI b)])
theorem P0:zu.map told=some (anj (aw zu)):=by kernel_rfl
theorem axK:tree HR=SA Me:=aB P0
theorem aef:round 0 [9,14,15] [] [9,14] [] (Me 0)=KI Me:=bq P0 0 fun _=>rfl
theorem aiX:zu=some HR:=aA P0
noncomputable def E2:Option PC:=ay {ctx with fr:=[5,6,7,8],nh:=[]} Tryz.f173 ((ab af 173).getD default) [4]
noncomputable def IZ:PC:=ax E2
def LB:PT:=
 (.ite (ao r1 (pi 0))
 (.ret (.tup [(.mk [(pc KC 0),(pc KC 1)]),(pi 1)]))
 (.call ⟨[],[(4,z2)]⟩ [] 13 215 [r0]
 (.call ⟨[],[]⟩ [] 15 215 [r1]
 (.call ⟨[(7,cJ),(6,db)],[]⟩ [] 18 216 [db,cJ]
 (.chk (aO cV (pi 0))
 (.call ⟨[],[]⟩ [] 32 217 [(.cb .neq (aq r0 (pi 0)) (aq r1 (pi 0))),(.mk [lT,(.ai .quo .u64 r6 cV)]),(.mk [lT,(.ai .quo .u64 r7 cV)])]
 (.ret (.tup [(.mk [(pc (.setc o4 0 (.tget yo 0)) 0),(pc (.setc o4 0 (.tget yo 0)) 1)]),(.tget yo 1)]))))))))
def aoo (b:Nat→PC):PT×List (Shp×PT):=(LB,[])
theorem acr:E2.map told=some (aoo (aw E2)):=by kernel_rfl
theorem afh:tree IZ=LB:=aB acr
theorem aj1:E2=some IZ:=aA acr
noncomputable def E3:Option PC:=ay {ctx with fr:=[2],nh:=[]} Tryz.f215 ((ab af 215).getD default) []
noncomputable def I0:PC:=ax E3
def TD:PT:=
 (.ite (aq r0 (pi 0))
 (.ret (.ai .sub .u64 lT (.conv .u64 r0)))
 (.ret (.conv .u64 r0)))
def aop (b:Nat→PC):PT×List (Shp×PT):=(TD,[])
theorem acs:E3.map told=some (aop (aw E3)):=by kernel_rfl
theorem ayK:tree I0=TD:=aB acs
theorem aj2:E3=some I0:=aA acs
noncomputable def zM:Option PC:=ay {ctx with fr:=[4,0,1],nh:=[]} Tryz.f216 ((ab af 216).getD default) []
noncomputable def I1:PC:=ax zM
noncomputable def Mt:Nat→PC:=bt zM
def atC (b:Nat→PC):PC:=.block 0 [0,1,5,6] [] (.loop [0,1] [] (b 0))
def KP (b:Nat→PC):PT:=
 (.ite (aO r1 lT)
 (.chk (aO r1 (pi 0))
 (.next ⟨[(0,r1),(1,(.ai .rem .u64 r0 r1))],[]⟩))
 (.exit 0 ⟨[(5,r1),(6,(aO r1 lT))],[]⟩))
def TE (b:Nat→PC):PT:=
 (.brk ⟨[],[]⟩
(atC b)
 (.ret r0))
def aoq (b:Nat→PC):PT×List (Shp×PT):=(TE b,[(.lp 0 [0,1,5,6] [] [0,1] [],KP b)])
theorem Qf:zM.map told=some (aoq (aw zM)):=by kernel_rfl
theorem ayL:tree I1=TE Mt:=aB Qf
theorem ael:round 0 [0,1,5,6] [] [0,1] [] (Mt 0)=KP Mt:=bq Qf 0 fun _=>rfl
theorem aj3:zM=some I1:=aA Qf
noncomputable def E4:Option PC:=ay {ctx with fr:=[7,8],nh:=[]} Tryz.f217 ((ab af 217).getD default) [4,5,6]
noncomputable def I2:PC:=ax E4
def TF:PT:=
 (.ite (.pick (.pick (.pick (bh (pc (.mk [r1]) 0) lT) pT (bh (pc (.mk [r2]) 0) lT)) pT (bh (pc (.mk [r1]) 1) (.con (.v (.int .u64 1152921504606846976))))) pT (bh (pc (.mk [r2]) 1) (.con (.v (.int .u64 1152921504606846976)))))
 (.ret (.tup [(.mk [(pc KC 0),(pc KC 1)]),(pi 3)]))
 (.ret (.tup [(.mk [(pc adH 0),(pc adH 1)]),(pi 0)])))
def aor (b:Nat→PC):PT×List (Shp×PT):=(TF,[])
theorem acu:E4.map told=some (aor (aw E4)):=by kernel_rfl
theorem ayM:tree I2=TF:=aB acu
theorem aj4:E4=some I2:=aA acu
noncomputable def EL:Option PC:=ay {ctx with fr:=[8],nh:=[]} Tryz.f106 ((ab af 106).getD default) [7,9,10]
noncomputable def Ix:PC:=ax EL
def Te:PT:=
 (.call ⟨[],[(7,(.mk [r3]))]⟩ [] 14 104 [r0,r1]
 (.call ⟨[],[]⟩ [] 20 42 [(av 8 (.setc Kp 0 (.tget cU 0))),(pi 0),(av 19 (.setc nW 0 (.tget cU 1))),(pi 0),r2]
 (.ret (.an (ao (pc dp 0) (pc (av 7 o7) 0)) (.an (ao (pc dp 1) (pc (av 7 o7) 1)) (.an (ao (pc dp 2) (pc (av 7 o7) 2)) (.an (ao (pc dp 3) (pc (av 7 o7) 3)) (.an (ao (pc dp 4) (pc (av 7 o7) 4)) (.an (ao (pc dp 5) (pc (av 7 o7) 5)) (.an (ao (pc dp 6) (pc (av 7 o7) 6)) pT))))))))))
def anZ (b:Nat→PC):PT×List (Shp×PT):=(Te,[])
theorem ab9:EL.map told=some (anZ (aw EL)):=by kernel_rfl
theorem aym:tree Ix=Te:=aB ab9
theorem ajC:EL=some Ix:=aA ab9
noncomputable def zt:Option PC:=ay {ctx with fr:=[13,15,16,18],nh:=[]} Tryz.f42 ((ab af 42).getD default) [5,7,10,11,12,14,17,20]
noncomputable def HM:PC:=ax zt
noncomputable def D3:Nat→PC:=bt zt
def YW (b:Nat→PC):PC:=.block 0 [116,117] [14] (.loop [116] [14] (b 0))
def KH (b:Nat→PC):PT:=
 (.ite (aq vw adX)
 (.chk (az KD vw)
 (.next ⟨[(116,(aJ vw (pi 1)))],[(14,(.pick (.pick (ao (pc (.setc z9 0 (pn KD vw)) 0) (pi 4)) pT (ao (pc (.setc z9 0 (pn KD vw)) 0) (pi 5))) (.setc iU 2 (.mn nY (aJ (pc iU 2) (pc (.setc z9 0 (pn KD vw)) 5)))) iU))]⟩))
 (.exit 0 ⟨[(117,(aq vw adX))],[]⟩))
def Su (b:Nat→PC):PT:=
 (.call ⟨[],[(10,z7),(7,(.mk [r2])),(5,(.mk [r0]))]⟩ [] 23 26 [(av 19 (.mk [r2])),r4]
 (.call ⟨[],[(11,(.setc nW 0 ff))]⟩ [] 30 107 [(av 8 o5),r1,(av 19 o7),r3,r4]
 (.ite (.pick (.pick (.nt (.tget mT 1)) pT (aq r3 (pi 0))) pT (aV r3 (.llen (pc Cf 15))))
 (.ret (av 7 (.setc bK 0 (.mk [(pi 0),(pi 0),(pi 0),(pi 0),(pi 0),(pi 0),(pi 0)]))))
 (.call ⟨[],[(14,(.setc z7 0 (.mk [(pc (.setc Ks 0 (.tget mT 0)) 5),(pi 0),(pi 0),(pi 0),(pi 0),(pi 0),(pc o7 4)])))]⟩ [] 57 34 [(av 8 o5),r1,(av 19 o7),r4]
 (.iteS ⟨[(16,(.mn r4 (pi 100000))),(15,sJ)],[(17,(.setc QV 0 (.mk [(av 19 o7),r3,r3,(pi (-1)),sJ,r4])))]⟩ (.pick (aO sJ (pi (-1))) (bL sJ (.mn r4 (pi 100000))) pF) [] [14]
 (.iteS ⟨[(18,(pc o7 12))],[]⟩ (ao (pc o7 12) (pi 0)) [18] []
 (.call ⟨[],[]⟩ [] 81 24 [(av 8 o5),r1,(pi 16),(av 24 o17)]
 (.call ⟨[],[]⟩ [] 82 44 [sK]
 (.next ⟨[(18,(.mn (pi 1000) (.mx (pi 0) iZ)))],[]⟩)))
 (.next ⟨[],[]⟩)
 (.call ⟨[],[]⟩ [] 90 108 [(pc iU 0),cV,cJ,cE]
 (.call ⟨[],[(14,(.setc iU 1 r90))]⟩ [] 95 24 [(av 8 o5),r1,(pi 17),(av 24 o17)]
 (.call ⟨[],[]⟩ [] 96 39 [r95]
 (.iteS ⟨[],[]⟩ (ao yt (pi 1)) [] [14]
 (.chk (az (pc Cf 15) r3)
 (.call ⟨[],[]⟩ [] 111 109 [(av 8 o5),(av 15 o7),(pc (pn (pc Cf 15) r3) 2),(pc iU 0),cJ,cE]
 (.next ⟨[],[(14,(.setc iU 3 awa))]⟩)))
 (.next ⟨[],[]⟩)
 (.next ⟨[],[]⟩))))))
 (.next ⟨[],[]⟩)
 (.brk ⟨[(116,(pi 0)),(115,(.llen (pc Cf 17))),(114,(pc Cf 17))],[]⟩
(YW b)
 (.ret (av 7 (.setc bK 0 (av 7 (.setc iU 5 (.mn nY (aJ (aJ (aJ (pc iU 0) (pc iU 1)) (pc iU 2)) (pc iU 3))))))))))))))
def ane (b:Nat→PC):PT×List (Shp×PT):=(Su b,[(.lp 0 [116,117] [14] [116] [14],KH b)])
theorem PZ:zt.map told=some (ane (aw zt)):=by kernel_rfl
theorem axF:tree HM=Su D3:=aB PZ
theorem aee:round 0 [116,117] [14] [116] [14] (D3 0)=KH D3:=bq PZ 0 fun _=>rfl
theorem aiS:zt=some HM:=aA PZ
noncomputable def zX:Option PC:=ay {ctx with fr:=[],nh:=[]} Tryz.f26 ((ab af 26).getD default) [2,4,5,65541,69637,73733,77829,7,31,9,49,11,13]
noncomputable def Jk:PC:=ax zX
noncomputable def pY:Nat→PC:=bt zX
def atV (b:Nat→PC):PC:=.block 0 [20,21] [65541,5] (.loop [20] [65541,5] (b 0))
def atW (b:Nat→PC):PC:=.block 2 [38,39] [73733,5] (.loop [38] [73733,5] (b 1))
def atX (b:Nat→PC):PC:=.block 4 [56,57] [5,69637] (.loop [56] [5,69637] (b 2))
def atY (b:Nat→PC):PC:=.block 6 [76,77] [5,77829] (.loop [76] [5,77829] (b 3))
def CY (b:Nat→PC):PT:=
 (.ite (aq dp iY)
 (.chk (az cV dp)
 (.ite (bh (pc (.setc z9 0 (pn cV dp)) 6) r1)
 (.exit 0 ⟨[(21,(aq dp iY))],[]⟩)
 (.chk (bL (.llen (.app (.o 65541) (.lst [(av 9 (.setc z9 0 (pn cV dp)))]))) cT)
 (.next ⟨[(20,(aJ dp (pi 1)))],[(65541,(.app (.o 65541) (.lst [(av 9 (.setc z9 0 (pn cV dp)))]))),(5,(.setc o5 15 pN))]⟩))))
 (.exit 0 ⟨[(21,(aq dp iY))],[]⟩))
def CZ (b:Nat→PC):PT:=
 (.ite (aq jZ lV)
 (.chk (az gN jZ)
 (.ite (bh (pc (.setc z9 0 (pn gN jZ)) 6) r1)
 (.exit 2 ⟨[(39,(aq jZ lV))],[]⟩)
 (.chk (bL (.llen (.app (.o 73733) (.lst [(av 9 (.setc z9 0 (pn gN jZ)))]))) cT)
 (.next ⟨[(38,(aJ jZ (pi 1)))],[(73733,(.app (.o 73733) (.lst [(av 9 (.setc z9 0 (pn gN jZ)))]))),(5,(.setc o5 17 pN))]⟩))))
 (.exit 2 ⟨[(39,(aq jZ lV))],[]⟩))
def C0 (b:Nat→PC):PT:=
 (.ite (aq pI sI)
 (.chk (az qK pI)
 (.ite (bL (pc (.setc z2 0 (pn qK pI)) 0) (.llen (.o 65541)))
 (.chk (bL (.llen adS) cT)
 (.next ⟨[(56,(aJ pI (pi 1)))],[(5,(.setc o5 16 pN)),(69637,adS)]⟩))
 (.next ⟨[(56,(aJ pI (pi 1)))],[]⟩)))
 (.exit 4 ⟨[(57,(aq pI sI))],[]⟩))
def C1 (b:Nat→PC):PT:=
 (.ite (aq qM r75)
 (.blockS ⟨[],[]⟩ 7 [13,78,79,80,81,82,83,84,85] [13,77829,5]
 (.chk (az Rh qM)
 (.call ⟨[],[(13,(.setc z3 0 (pn Rh qM)))]⟩ [] 85 77 [(pc (.setc z3 0 (pn Rh qM)) 1),(.llen (.o 65541))]
 (.ite CD
 (.chk (bL (.llen adC) cT)
 (.next ⟨[],[(77829,adC),(5,(.setc o5 18 pN))]⟩))
 (.next ⟨[],[]⟩))))
 (.next ⟨[(76,(aJ qM (pi 1)))],[]⟩))
 (.exit 6 ⟨[(77,(aq qM r75))],[]⟩))
def TX (b:Nat→PC):PT:=
 (.brk ⟨[(20,(pi 0)),(19,(.llen mQ)),(18,mQ)],[(77829,pL),(73733,pL),(69637,pL),(65541,pL),(5,(.setc nW 0 (.mk [(av 15 (.mk [r0])),pL,pL,pL,pL]))),(4,nW),(2,(.mk [r0]))]⟩
(atV b)
 (.brk ⟨[(38,(pi 0)),(37,(.llen (pc o2 17))),(36,(pc o2 17))],[]⟩
(atW b)
 (.brk ⟨[(56,(pi 0)),(55,(.llen (pc o2 16))),(54,(pc o2 16))],[]⟩
(atX b)
 (.brk ⟨[(76,(pi 0)),(75,(.llen (pc o2 18))),(74,(pc o2 18))],[]⟩
(atY b)
 (.ret (av 19 (.setc o4 0 (.mk [(pc o5 0),(pc o5 1),(pc o5 2),(pc o5 3),(pc o5 4),(pc o5 5),(pc o5 6),(pc o5 7),(pc o5 8),(pc o5 9),(pc o5 10),(pc o5 11),(pc o5 12),(pc o5 13),(pc o5 14),(.o 65541),(.o 69637),(.o 73733),(.o 77829)]))))))))
def aoJ (b:Nat→PC):PT×List (Shp×PT):=(TX b,[(.lp 0 [20,21] [65541,5] [20] [65541,5],CY b),(.lp 2 [38,39] [73733,5] [38] [73733,5],CZ b),(.lp 4 [56,57] [5,69637] [56] [5,69637],C0 b),(.lp 6 [76,77] [5,77829] [76] [5,77829],C1 b)])
theorem xK:zX.map told=some (aoJ (aw zX)):=by kernel_rfl
theorem ay3:tree Jk=TX pY:=aB xK
theorem RH:round 0 [20,21] [65541,5] [20] [65541,5] (pY 0)=CY pY:=bq xK 0 fun _=>rfl
theorem RI:round 2 [38,39] [73733,5] [38] [73733,5] (pY 1)=CZ pY:=bq xK 1 fun _=>rfl
theorem RJ:round 4 [56,57] [5,69637] [56] [5,69637] (pY 2)=C0 pY:=bq xK 2 fun _=>rfl
theorem RK:round 6 [76,77] [5,77829] [76] [5,77829] (pY 3)=C1 pY:=bq xK 3 fun _=>rfl
theorem akm:zX=some Jk:=aA xK
noncomputable def Ff:Option PC:=ay {ctx with fr:=[4],nh:=[]} Tryz.f77 ((ab af 77).getD default) []
noncomputable def Jq:PC:=ax Ff
def T4:PT:=
 (.ret QR)
def aoP (b:Nat→PC):PT×List (Shp×PT):=(T4,[])
theorem acE:Ff.map told=some (aoP (aw Ff)):=by kernel_rfl
theorem ay9:tree Jq=T4:=aB acE
theorem aks:Ff=some Jq:=aA acE
noncomputable def En:Option PC:=ay {ctx with fr:=[11],nh:=[]} Tryz.f107 ((ab af 107).getD default) [5,7,10,12]
noncomputable def HZ:PC:=ax En
def SK:PT:=
 (.call ⟨[],[(10,Ks)]⟩ [] 17 174 [jD,r1,(av 19 (.mk [r2])),r4]
 (.ite (.pick (aq r3 (pi 0)) pT (aV r3 (.llen (pc (.setc QU 0 jE) 25))))
 (.ret (.tup [(av 7 (.setc bK 0 (.mk [(pi 0),(pi 0),(pi 0),(pi 0),(pi 0),(pi 0),pF]))),pF]))
 (.call ⟨[],[]⟩ [] 31 175 [(av 31 (.setc QU 0 jE)),r3]
 (.ret (.tup [(av 7 (.setc bK 0 oa)),pT])))))
def ant (b:Nat→PC):PT×List (Shp×PT):=(SK,[])
theorem abM:En.map told=some (ant (aw En)):=by kernel_rfl
theorem axU:tree HZ=SK:=aB abM
theorem ai7:En=some HZ:=aA abM
noncomputable def Eo:Option PC:=ay {ctx with fr:=[],nh:=[]} Tryz.f174 ((ab af 174).getD default) [4,6,8,9]
noncomputable def H2:PC:=ax Eo
def SM:PT:=
 (.call ⟨[],[(8,QU),(4,(.mk [r0]))]⟩ [] 12 26 [(av 19 (.mk [r2])),r3]
 (.call ⟨[(16,(av 19 (.setc nW 0 bV))),(15,r3),(14,r1),(13,(av 8 o4))],[(9,(.setc nW 0 bV))]⟩ [] 21 46 [(av 8 o4),r1,(pi 0),(av 19 (.setc nW 0 bV)),r3]
 (.call ⟨[],[]⟩ [] 22 39 [jY]
 (.call ⟨[],[]⟩ [] 27 34 [(av 8 o4),r1,(av 19 o9),r3]
 (.ret (av 31 (.setc o8 0 (.mk [db,cU,cJ,cE,KE,ec]))))))))
def anv (b:Nat→PC):PT×List (Shp×PT):=(SM,[])
theorem abN:Eo.map told=some (anv (aw Eo)):=by kernel_rfl
theorem axW:tree H2=SM:=aB abN
theorem ai9:Eo=some H2:=aA abN
noncomputable def Ef:Option PC:=ay {ctx with fr:=[],nh:=[]} Tryz.f46 ((ab af 46).getD default) [5,8,77832,10]
noncomputable def HT:PC:=ax Ef
def SC:PT:=
 (.call ⟨[],[(10,ym)]⟩ [] 18 24 [jD,r1,r2,(.mk [(.mk [(pc il 0),(pc il 1),(pc il 2),(pc il 3),(pc il 4),(pc il 5),(pc il 6),(pc il 7),(pc il 8),(pc il 9),(pc il 10),(pc il 11),(pc il 12),(pc il 13),(pc il 14),(pc il 15),(pc il 16),(pc il 17),pL]),(pi 0),(pi (-1)),(pi (-1)),(pi (-1)),r4])]
 (.ret (av 5 (.setc bK 0 cV))))
def anl (b:Nat→PC):PT×List (Shp×PT):=(SC,[])
theorem abE:Ef.map told=some (anl (aw Ef)):=by kernel_rfl
theorem axM:tree HT=SC:=aB abE
theorem aiZ:Ef=some HT:=aA abE
noncomputable def Ee:Option PC:=ay {ctx with fr:=[10],nh:=[]} Tryz.f24 ((ab af 24).getD default) [4,7,8,9]
noncomputable def HS:PC:=ax Ee
def SB:PT:=
 (.call ⟨[],[(8,ym),(4,(.mk [r0]))]⟩ [] 16 74 [jD,r1,r2,(av 24 (.mk [r3]))]
 (.iteS ⟨[(10,(.tget cE 1))],[(9,(.setc ym 0 (.tget cE 0)))]⟩ (aO (pc (.setc ym 0 (.tget cE 0)) 2) (pi (-1))) [] [9]
 (.chk (az (pc o4 4) (pc o9 2))
 (.call ⟨[],[]⟩ [] 31 31 [(pn (pc o4 4) (pc o9 2)),r2,cD]
 (.next ⟨[],[(9,(.setc (.setc o9 0 (.tget oa 0)) 4 (.tget oa 1)))]⟩)))
 (.next ⟨[],[]⟩)
 (.ret (av 5 (.setc o8 0 (av 5 o9))))))
def ank (b:Nat→PC):PT×List (Shp×PT):=(SB,[])
theorem abD:Ee.map told=some (ank (aw Ee)):=by kernel_rfl
theorem axL:tree HS=SB:=aB abD
theorem aiY:Ee=some HS:=aA abD
noncomputable def Ej:Option PC:=ay {ctx with fr:=[9,11,12,13,14],nh:=[]} Tryz.f74 ((ab af 74).getD default) [4,7,8,10,16394]
noncomputable def HX:PC:=ax Ej
def SH:PT:=
 (.call ⟨[],[(16394,pL),(10,(.setc ym 0 (.mk [fe,(pi (-1)),pL,(pi 1)]))),(8,ym),(7,(.mk [r3])),(4,(.mk [r0]))]⟩ [] 19 75 [jD,(av 24 (.mk [r3]))]
 (.ite (ao (.llen (.tget iY 1)) (pi 0))
 (.ret (.tup [Q0,pL]))
 (.call ⟨[(11,(.tget iY 1))],[(7,(.setc o7 0 (.tget iY 0)))]⟩ [] 28 88 [r2]
 (.ite (.nt (.tget qH 1))
 (.ret (.tup [Q0,pL]))
 (.call ⟨[],[]⟩ [] 37 76 [(av 8 o4),r1,(av 24 o7)]
 (.ite (ao (.llen lV) (pi 0))
 (.ret (.tup [Q0,pL]))
 (.call ⟨[],[]⟩ [] 46 29 [(av 8 o4),r1,r2,lV]
 (.ite (ao (pc vq 4) (pi 0))
 (.chk (az (pc vq 3) (bG (.llen (pc vq 3)) (pi 1)))
 (.ret (.tup [(av 5 (.setc o8 0 (av 5 (.setc vq 2 (pn (pc vq 3) (bG (.llen (pc vq 3)) (pi 1))))))),br])))
 (.ret (.tup [(av 5 (.setc o8 0 (av 5 vq))),br]))))))))))
def anp (b:Nat→PC):PT×List (Shp×PT):=(SH,[])
theorem abI:Ej.map told=some (anp (aw Ej)):=by kernel_rfl
theorem axQ:tree HX=SH:=aB abI
theorem ai3:Ej=some HX:=aA abI
noncomputable def Ek:Option PC:=ay {ctx with fr:=[5],nh:=[]} Tryz.f75 ((ab af 75).getD default) [2,3,4]
noncomputable def HY:PC:=ax Ek
def SI:PT:=
 (.call ⟨[],[(4,QV),(3,(.mk [r1])),(2,(.mk [r0]))]⟩ [] 10 26 [(av 19 (.mk [r1])),(pc (.mk [r1]) 23)]
 (.call ⟨[(12,(av 24 (.setc o3 0 cD)))],[]⟩ [] 15 27 [(av 8 o2),(av 24 (.setc o3 0 cD))]
 (.ret (.tup [(av 24 (.setc o4 0 bV)),cJ]))))
def anq (b:Nat→PC):PT×List (Shp×PT):=(SI,[])
theorem abJ:Ek.map told=some (anq (aw Ek)):=by kernel_rfl
theorem axR:tree HY=SI:=aB abJ
theorem ai4:Ek=some HY:=aA abJ
noncomputable def z8:Option PC:=ay {ctx with fr:=[4,7,9,11,12,13,14,15,16],nh:=[]} Tryz.f27 ((ab af 27).getD default) [2,3,5,6,8,10,90,139]
noncomputable def Jn:PC:=ax z8
noncomputable def zk:Nat→PC:=bt z8
def aul (b:Nat→PC):PC:=.meach 90 [94,95,11,12] [0,1,0,1] [10] (b 0)
def aum (b:Nat→PC):PC:=.meach 139 [143,144,15,16] [0,1,0,1] [10] (b 1)
def RN (b:Nat→PC):PT:=
 (.chk (az bK br)
 (.next ⟨[],[(10,(.setn bK br 0 (.mk [pT,bV])))]⟩))
def RO (b:Nat→PC):PT:=
 (.blockS ⟨[],[]⟩ 3 [145,146,147,148,149] [10]
 (.call ⟨[(146,cJ)],[]⟩ [] 148 80 [cE]
 (.chk (az bK (.r 146))
 (.next ⟨[],[(10,(.setn bK (.r 146) 0 (.r 148)))]⟩)))
 (.next ⟨[],[]⟩))
def td (b:Nat→PC):PT:=
 (.call ⟨[(7,(.mx (pc (.mk [r1]) 20) (pi 0)))],[(6,(.setc LP 0 (av 15 (.mk [r1])))),(5,(.setc nW 0 (av 19 (.mk [r1])))),(3,(.mk [r1])),(2,(.mk [r0]))]⟩ [] 30 77 [(pc (.mk [r1]) 19),(.llen (pc (.setc nW 0 (av 19 (.mk [r1]))) 15))]
 (.call ⟨[(48,(aO (pc o3 22) (pi (-1)))),(44,(.pick (.pick (.nt mT) pT (aq (pc o3 20) (pi (-1)))) pT (aV r7 (.llen (pc o5 15)))))],[]⟩ [(48,true),(44,false)] 51 77 [(pc o3 22),(pi 100001)]
 (.ite (.pick vx pT (.pick ir (.nt oc) pF))
 (.ret pL)
 (.chk (az (pc o5 15) (pc o3 19))
 (.call ⟨[],[(8,(.setc z9 0 (pn (pc o5 15) (pc o3 19))))]⟩ [] 63 77 [(pc (.setc z9 0 (pn (pc o5 15) (pc o3 19))) 6),(pi 100001)]
 (.ite (.nt Rg)
 (.ret pL)
 (.chk (.an (aV (pi 20) (pi 0)) (bL (pi 20) cT))
 (.chk (ao (pi 20) (pi 20))
 (.chk (aq (.mlen (.con (.map []))) cT)
 (.chk (aq (.mlen (.put (.con (.map [])) (pi 0) (pc o6 3))) cT)
 (.chk (aq (.mlen (.put (.put (.con (.map [])) (pi 0) (pc o6 3)) (pi 1) (pc o6 14))) cT)
 (.chk (aq (.mlen QW) cT)
 (.chk (aq (.mlen (.put QW (pi 3) (pc o6 12))) cT)
 (.chk (aq (.mlen Q5) cT)
 (.chk (aq (.mlen (.put Q5 (pi 5) (pc o3 21))) cT)
 (.blockS ⟨[(10,pN),(9,adB)],[(90,(.tup [(.lst []),(.put (.put Q5 (pi 5) (pc o3 21)) (pi 6) adB)])),(10,(.rep (pi 20) fe))]⟩ 0 [] [10]
 (.brk ⟨[],[]⟩
(aul b)
 (.exit 0 ⟨[],[]⟩))
 (.call ⟨[],[(3,(av 24 o3))]⟩ [] 104 78 [(pc o5 16),(.clo 79 [(.ref (av 24 o3))])]
 (.call ⟨[(13,av8)],[]⟩ [] 108 28 [(av 8 o2),(pc o6 9)]
 (.call ⟨[],[]⟩ [] 112 28 [(av 8 o2),(pc o6 10)]
 (.chk (aq (.mlen (.con (.map []))) cT)
 (.chk (aq (.mlen Q3) cT)
 (.chk (aq (.mlen (.put Q3 (pi 8) (ao (pc o6 2) (pi (-1))))) cT)
 (.chk (aq (.mlen (.put (.put Q3 (pi 8) (ao (pc o6 2) (pi (-1)))) (pi 9) (aO (.ai .and .i64 (pc o6 13) (pi 4)) (pi 0)))) cT)
 (.chk (aq (.mlen Kk) cT)
 (.chk (aq (.mlen (.put Kk (pi 11) (aO Ra Rb))) cT)
 (.chk (aq (.mlen (.put (.put Kk (pi 11) (aO Ra Rb)) (pi 12) db)) cT)
 (.chk (aq (.mlen adN) cT)
 (.blockS ⟨[],[(139,(.tup [(.lst []),(.put adN (pi 14) (bh r9 (pi 0)))]))]⟩ 2 [] [10]
 (.brk ⟨[],[]⟩
(aum b)
 (.exit 2 ⟨[],[]⟩))
 (.call ⟨[],[]⟩ [] 154 81 [(av 19 o5),(pi 0),(pc o3 19)]
 (.chk (az bK (pi 15))
 (.call ⟨[],[(10,(.setn bK (pi 15) 0 (.r 154)))]⟩ [] 160 81 [(av 19 o5),(pi 1),(pc o3 19)]
 (.chk (az bK (pi 16))
 (.call ⟨[],[(10,(.setn bK (pi 16) 0 (.r 160)))]⟩ [] 166 81 [(av 19 o5),(pi 2),(pc o3 19)]
 (.chk (az bK (pi 17))
 (.call ⟨[],[(10,(.setn bK (pi 17) 0 (.r 166)))]⟩ [] 171 81 [(av 19 o5),(pi 3),r7]
 (.chk (az bK (pi 18))
 (.call ⟨[],[(10,(.setn bK (pi 18) 0 (.r 171)))]⟩ [] 176 81 [(av 19 o5),(pi 4),r7]
 (.chk (az bK (pi 19))
 (.ret (.setn bK (pi 19) 0 (.r 176)))))))))))))))))))))))))))))))))))))))))
def aoM (b:Nat→PC):PT×List (Shp×PT):=(td b,[(.ea [10],RN b),(.ea [10],RO b)])
theorem HB:z8.map told=some (aoM (aw z8)):=by kernel_rfl
theorem ay7:tree Jn=td zk:=aB HB
theorem aws:om [10] (zk 0)=RN zk:=Ss HB 0 fun _=>rfl
theorem awt:om [10] (zk 1)=RO zk:=Ss HB 1 fun _=>rfl
theorem akq:z8=some Jn:=aA HB
noncomputable def Fc:Option PC:=ay {ctx with fr:=[3],nh:=[]} Tryz.f79 ((ab af 79).getD default) [2]
noncomputable def Jo:PC:=ax Fc
def T2:PT:=
 (.ret (bL kD (pc (.deref r1) 19)))
def aoN (b:Nat→PC):PT×List (Shp×PT):=(T2,[])
theorem acC:Fc.map told=some (aoN (aw Fc)):=by kernel_rfl
theorem ay6:tree Jo=T2:=aB acC
theorem akp:Fc=some Jo:=aA acC
noncomputable def Fg:Option PC:=ay {ctx with fr:=[4],nh:=[]} Tryz.f78 ((ab af 78).getD default) []
noncomputable def Js:PC:=ax Fg
def T6:PT:=
 (.call ⟨[],[]⟩ [] 7 141 [r0,r1]
 (.ret (aV r7 (pi 0))))
def aoR (b:Nat→PC):PT×List (Shp×PT):=(T6,[])
theorem acF:Fg.map told=some (aoR (aw Fg)):=by kernel_rfl
theorem azb:tree Js=T6:=aB acF
theorem aku:Fg=some Js:=aA acF
noncomputable def Ab:Option PC:=ay {ctx with fr:=[4,5],nh:=[]} Tryz.f141 ((ab af 141).getD default) []
noncomputable def Jw:PC:=ax Ab
noncomputable def MB:Nat→PC:=bt Ab
def at4 (b:Nat→PC):PC:=.block 0 [4,8,9] [] (.loop [4,8] [] (b 0))
def C5 (b:Nat→PC):PT:=
 (.ite (aq r8 r7)
 (.blockS ⟨[],[]⟩ 1 [4,5,10,11,12,13,14,15,16] []
 (.chk (az r0 r8)
 (.callc ⟨[(5,r8)],[]⟩ [] 16 r1 [(pn r0 r8)]
 (.ite cE
 (.ret r5)
 (.next ⟨[],[]⟩))))
 (.next ⟨[(8,sE)],[]⟩))
 (.exit 0 ⟨[(9,(aq r8 r7))],[]⟩))
def Ua (b:Nat→PC):PT:=
 (.brk ⟨[(8,(pi 0)),(7,(.llen r0)),(4,(pi 0))],[]⟩
(at4 b)
 (.ret (pi (-1))))
def aoV (b:Nat→PC):PT×List (Shp×PT):=(Ua b,[(.lp 0 [4,8,9] [] [4,8] [],C5 b)])
theorem Qn:Ab.map told=some (aoV (aw Ab)):=by kernel_rfl
theorem azf:tree Jw=Ua MB:=aB Qn
theorem RP:round 0 [4,8,9] [] [4,8] [] (MB 0)=C5 MB:=bq Qn 0 fun _=>rfl
theorem aky:Ab=some Jw:=aA Qn
noncomputable def E9:Option PC:=ay {ctx with fr:=[4],nh:=[]} Tryz.f28 ((ab af 28).getD default) [2]
noncomputable def I8:PC:=ax E9
def TL:PT:=
 (.call ⟨[],[(2,(.mk [r0]))]⟩ [] 9 82 [r1,(.llen nX)]
 (.ite (.nt r9)
 (.ret (pi (-1)))
 (.chk (az (pc o2 1) r1)
 (.ret (pc (pn (pc o2 1) r1) 1)))))
def aox (b:Nat→PC):PT×List (Shp×PT):=(TL,[])
theorem acz:E9.map told=some (aox (aw E9)):=by kernel_rfl
theorem ayS:tree I8=TL:=aB acz
theorem aka:E9=some I8:=aA acz
noncomputable def Fa:Option PC:=ay {ctx with fr:=[4],nh:=[]} Tryz.f82 ((ab af 82).getD default) []
noncomputable def Jc:PC:=ax Fa
def TO:PT:=
 (.ret QR)
def aoB (b:Nat→PC):PT×List (Shp×PT):=(TO,[])
theorem acA:Fa.map told=some (aoB (aw Fa)):=by kernel_rfl
theorem ayV:tree Jc=TO:=aB acA
theorem ake:Fa=some Jc:=aA acA
noncomputable def Fe:Option PC:=ay {ctx with fr:=[],nh:=[]} Tryz.f80 ((ab af 80).getD default) [2]
noncomputable def Jp:PC:=ax Fe
def T3:PT:=
 (.ite r0
 (.ret (.mk [(pc Ka 0),(pc Ka 1)]))
 (.ret (.mk [(pc Kb 0),(pc Kb 1)])))
def aoO (b:Nat→PC):PT×List (Shp×PT):=(T3,[])
theorem acD:Fe.map told=some (aoO (aw Fe)):=by kernel_rfl
theorem ay8:tree Jp=T3:=aB acD
theorem akr:Fe=some Jp:=aA acD
noncomputable def zY:Option PC:=ay {ctx with fr:=[],nh:=[]} Tryz.f81 ((ab af 81).getD default) [3,6,8]
noncomputable def Jl:PC:=ax zY
noncomputable def MA:Nat→PC:=bt zY
def atZ (b:Nat→PC):PC:=.block 0 [12,13] [6] (.loop [12] [6] (b 0))
def C2 (b:Nat→PC):PT:=
 (.ite (aq bV br)
 (.blockS ⟨[],[]⟩ 1 [8,14,15,16,17,18,19,20,25] [8,6]
 (.chk (az cD bV)
 (.iteS ⟨[],[(8,(.setc z3 0 qF))]⟩ (.pick (ao (pc (.setc z3 0 qF) 0) r1) (ao (pc (.setc z3 0 qF) 1) r2) pF) [] [6]
 (.call ⟨[],[]⟩ [] 29 80 [(aO (pc o8 2) (pi 0))]
 (.ret (.mk [(pc (.setc o6 0 pE) 0),(pc (.setc o6 0 pE) 1)])))
 (.next ⟨[],[]⟩)
 (.next ⟨[],[]⟩)))
 (.next ⟨[(12,(aJ bV (pi 1)))],[]⟩))
 (.exit 0 ⟨[(13,(aq bV br))],[]⟩))
def TY (b:Nat→PC):PT:=
 (.brk ⟨[(12,(pi 0)),(11,(.llen yf)),(10,yf)],[(6,fe)]⟩
(atZ b)
 (.ret (.mk [(pc (.setc o6 0 vn) 0),(pc (.setc o6 0 vn) 1)])))
def aoK (b:Nat→PC):PT×List (Shp×PT):=(TY b,[(.lp 0 [12,13] [6] [12] [6],C2 b)])
theorem Qm:zY.map told=some (aoK (aw zY)):=by kernel_rfl
theorem ay4:tree Jl=TY MA:=aB Qm
theorem RL:round 0 [12,13] [6] [12] [6] (MA 0)=C2 MA:=bq Qm 0 fun _=>rfl
theorem akn:zY=some Jl:=aA Qm
noncomputable def ER:Option PC:=ay {ctx with fr:=[2,3,4,11],nh:=[]} Tryz.f88 ((ab af 88).getD default) []
noncomputable def IC:PC:=ax ER
def Tj:PT:=
 (.blockS ⟨[],[]⟩ 0 [2,3,4,5,6,7,10,11,12,13,14] []
 (.iteS ⟨[],[]⟩ (.pick (aq r0 (pi 0)) pT (aV r0 (pi 22))) [2,3,11,12,13,14] []
 (.ret (.tup [(pi 0),pF]))
 (.call ⟨[],[]⟩ [] 14 85 [(.lst [(pc pB 0),(pc pB 1),(pc pB 2),(pc pB 3),(pc pB 4),(pc pB 5),(pc pB 6),(pc pB 7),(pc pB 8),(pc pB 9)]),r0]
 (.ite cU
 (.ret (.tup [(pi 0),pT]))
 (.next ⟨[],[]⟩)))
 (.next ⟨[],[]⟩))
 (.ret (.tup [(pi 1),pT])))
def an4 (b:Nat→PC):PT×List (Shp×PT):=(Tj,[])
theorem acf:ER.map told=some (an4 (aw ER)):=by kernel_rfl
theorem ayr:tree IC=Tj:=aB acf
theorem ajH:ER=some IC:=aA acf
noncomputable def Fi:Option PC:=ay {ctx with fr:=[4],nh:=[]} Tryz.f85 ((ab af 85).getD default) []
noncomputable def Ju:PC:=ax Fi
def T8:PT:=
 (.call ⟨[],[]⟩ [] 7 144 [r0,r1]
 (.ret (aV r7 (pi 0))))
def aoT (b:Nat→PC):PT×List (Shp×PT):=(T8,[])
theorem acH:Fi.map told=some (aoT (aw Fi)):=by kernel_rfl
theorem azd:tree Ju=T8:=aB acH
theorem akw:Fi=some Ju:=aA acH
noncomputable def Ae:Option PC:=ay {ctx with fr:=[4,5],nh:=[]} Tryz.f144 ((ab af 144).getD default) []
noncomputable def Jz:PC:=ax Ae
noncomputable def ME:Nat→PC:=bt Ae
def at7 (b:Nat→PC):PC:=.block 0 [4,8,9] [] (.loop [4,8] [] (b 0))
def C8 (b:Nat→PC):PT:=
 (.ite (aq r8 r7)
 (.chk (az r0 r8)
 (.ite (ao r1 (pn r0 r8))
 (.ret r8)
 (.next ⟨[(8,sE)],[]⟩)))
 (.exit 0 ⟨[(9,(aq r8 r7))],[]⟩))
def Ud (b:Nat→PC):PT:=
 (.brk ⟨[(8,(pi 0)),(7,(.llen r0)),(4,(pi 0))],[]⟩
(at7 b)
 (.ret (pi (-1))))
def aoY (b:Nat→PC):PT×List (Shp×PT):=(Ud b,[(.lp 0 [4,8,9] [] [4,8] [],C8 b)])
theorem Qq:Ae.map told=some (aoY (aw Ae)):=by kernel_rfl
theorem azi:tree Jz=Ud ME:=aB Qq
theorem RS:round 0 [4,8,9] [] [4,8] [] (ME 0)=C8 ME:=bq Qq 0 fun _=>rfl
theorem akB:Ae=some Jz:=aA Qq
noncomputable def zB:Option PC:=ay {ctx with fr:=[8,9,11,12,13,14,55,70],nh:=[]} Tryz.f29 ((ab af 29).getD default) [4,10,53]
noncomputable def Ip:PC:=ax zB
noncomputable def Mk:Nat→PC:=bt zB
def ato (b:Nat→PC):PC:=.block 0 [] [] (.loop [8,9,10] [10] (b 0))
def Rs (b:Nat→PC):PT:=
 (.blockS ⟨[],[]⟩ 1 [8,9,10,11,12,13,14,32,33,35,36,37,38,39,40,41,42,43,44,45,46,49,50,52,53,54,55,56,57,58,68,70,71] [53,10]
 (.chk (az bK (bG (.llen bK) (pi 1)))
 (.call ⟨[(11,(pn bK (bG (.llen bK) (pi 1))))],[]⟩ [] 41 84 [(av 8 o4),(pn bK (bG (.llen bK) (pi 1))),r2,r3]
 (.ite (ao (.tget kE 0) br)
 (.ret (.tup [bK,(pi 0)]))
 (.call ⟨[(13,(.tget kE 1)),(12,(.tget kE 0))],[]⟩ [] 50 85 [bK,(.tget kE 0)]
 (.chk (bL (.llen (.app bK (.lst [bV]))) cT)
 (.chk (.nt (.an (.an lW (.an (.nt (.nt db)) pT)) (.nt (az (pc o4 4) bV))))
 (.ite (.pick (.nt db) pT (.pick lW (pc (pn (pc o4 4) bV) 1) pF))
 (.ret (.tup [(.app bK (.lst [bV])),(pi 0)]))
 (.ite lW
 (.ret (.tup [(.app bK (.lst [bV])),(pi 12)]))
 (.next ⟨[(10,pN)],[(10,(.app bK (.lst [bV])))]⟩)))))))))
 (.next ⟨[],[]⟩))
def S7 (b:Nat→PC):PT:=
 (.call ⟨[(9,(pi 0)),(8,pL)],[(4,(.mk [r0]))]⟩ [] 19 83 [jD,r1,r2,r3]
 (.chk (.nt (.an (.an (.nt (.nt iY)) pT) (.nt (az r3 (pi 0)))))
 (.ite (.pick (.nt iY) pT (aO (pn r3 (pi 0)) r1))
 (.ret (.tup [pL,(pi 1)]))
 (.brk ⟨[(10,pN)],[(10,(.lst [r1]))]⟩
(ato b)
 (.next ⟨[],[]⟩)))))
def anR (b:Nat→PC):PT×List (Shp×PT):=(S7 b,[(.lp 0 [] [] [8,9,10] [10],Rs b)])
theorem P6:zB.map told=some (anR (aw zB)):=by kernel_rfl
theorem aye:tree Ip=S7 Mk:=aB P6
theorem awq:round 0 [] [] [8,9,10] [10] (Mk 0)=Rs Mk:=bq P6 0 fun _=>rfl
theorem aju:zB=some Ip:=aA P6
noncomputable def EF:Option PC:=ay {ctx with fr:=[8],nh:=[]} Tryz.f83 ((ab af 83).getD default) [4,9]
noncomputable def Ir:PC:=ax EF
def tc:PT:=
 (.ite (.pick (.pick (.pick (.pick (aq r1 (pi 0)) pT (aV r1 (pc (.setc Cs 0 (.llen (pc (.mk [r0]) 4))) 0))) pT (aq r2 (pi 0))) pT (aV r2 (pi 22))) pT (aO (.llen r3) (pi 5)))
 (.ret pF)
 (.call ⟨[],[]⟩ [] 35 142 [r3,(.clo 143 [(.ref (pc (.setc Cs 0 (.llen (pc (.mk [r0]) 4))) 0))])]
 (.ret (.nt mU))))
def anT (b:Nat→PC):PT×List (Shp×PT):=(tc,[])
theorem ab3:EF.map told=some (anT (aw EF)):=by kernel_rfl
theorem ayh:tree Ir=tc:=aB ab3
theorem ajx:EF=some Ir:=aA ab3
noncomputable def EG:Option PC:=ay {ctx with fr:=[3],nh:=[]} Tryz.f143 ((ab af 143).getD default) []
noncomputable def Is:PC:=ax EG
def S9:PT:=
 (.ret (.pick (aq r0 (pi 0)) pT (aV r0 (.deref r1))))
def anU (b:Nat→PC):PT×List (Shp×PT):=(S9,[])
theorem ab4:EG.map told=some (anU (aw EG)):=by kernel_rfl
theorem ayg:tree Is=S9:=aB ab4
theorem ajw:EG=some Is:=aA ab4
noncomputable def Fh:Option PC:=ay {ctx with fr:=[4],nh:=[]} Tryz.f142 ((ab af 142).getD default) []
noncomputable def Jt:PC:=ax Fh
def T7:PT:=
 (.call ⟨[],[]⟩ [] 7 191 [r0,r1]
 (.ret (aV r7 (pi 0))))
def aoS (b:Nat→PC):PT×List (Shp×PT):=(T7,[])
theorem acG:Fh.map told=some (aoS (aw Fh)):=by kernel_rfl
theorem azc:tree Jt=T7:=aB acG
theorem akv:Fh=some Jt:=aA acG
noncomputable def Ad:Option PC:=ay {ctx with fr:=[4,5],nh:=[]} Tryz.f191 ((ab af 191).getD default) []
noncomputable def Jy:PC:=ax Ad
noncomputable def MD:Nat→PC:=bt Ad
def at6 (b:Nat→PC):PC:=.block 0 [4,8,9] [] (.loop [4,8] [] (b 0))
def C7 (b:Nat→PC):PT:=
 (.ite (aq r8 r7)
 (.blockS ⟨[],[]⟩ 1 [4,5,10,11,12,13,14,15,16] []
 (.chk (az r0 r8)
 (.callc ⟨[(5,r8)],[]⟩ [] 16 r1 [(pn r0 r8)]
 (.ite cE
 (.ret r5)
 (.next ⟨[],[]⟩))))
 (.next ⟨[(8,sE)],[]⟩))
 (.exit 0 ⟨[(9,(aq r8 r7))],[]⟩))
def Uc (b:Nat→PC):PT:=
 (.brk ⟨[(8,(pi 0)),(7,(.llen r0)),(4,(pi 0))],[]⟩
(at6 b)
 (.ret (pi (-1))))
def aoX (b:Nat→PC):PT×List (Shp×PT):=(Uc b,[(.lp 0 [4,8,9] [] [4,8] [],C7 b)])
theorem Qp:Ad.map told=some (aoX (aw Ad)):=by kernel_rfl
theorem azh:tree Jy=Uc MD:=aB Qp
theorem RR:round 0 [4,8,9] [] [4,8] [] (MD 0)=C7 MD:=bq Qp 0 fun _=>rfl
theorem akA:Ad=some Jy:=aA Qp
noncomputable def zC:Option PC:=ay {ctx with fr:=[8,9],nh:=[]} Tryz.f84 ((ab af 84).getD default) [4,11]
noncomputable def Iq:PC:=ax zC
noncomputable def Ml:Nat→PC:=bt zC
def atp (b:Nat→PC):PC:=.block 0 [8,9,25,26] [] (.loop [8,9,25] [] (b 0))
def CJ (b:Nat→PC):PT:=
 (.ite (aq gM pD)
 (.chk (az ff gM)
 (.ite (.pick (ao (pc Cz 0) r2) (aO (pc Cz 1) (pi 0)) pF)
 (.chk (az r3 (pc Cz 1))
 (.ret (.tup [(pn r3 (pc Cz 1)),(pc Cz 2)])))
 (.next ⟨[(25,(aJ gM (pi 1)))],[]⟩)))
 (.exit 0 ⟨[(26,(aq gM pD))],[]⟩))
def S8 (b:Nat→PC):PT:=
 (.call ⟨[(9,pF),(8,(pi 0))],[(4,(.mk [r0]))]⟩ [] 16 83 [jD,r1,r2,r3]
 (.ite (.nt cE)
 (.ret (.tup [(pi (-1)),pF]))
 (.chk (az (pc o4 4) r1)
 (.brk ⟨[(25,(pi 0)),(24,(.llen (pc (pn (pc o4 4) r1) 2))),(23,(pc (pn (pc o4 4) r1) 2))],[]⟩
(atp b)
 (.ret (.tup [r1,pF]))))))
def anS (b:Nat→PC):PT×List (Shp×PT):=(S8 b,[(.lp 0 [8,9,25,26] [] [8,9,25] [],CJ b)])
theorem P7:zC.map told=some (anS (aw zC)):=by kernel_rfl
theorem ayf:tree Iq=S8 Ml:=aB P7
theorem Rt:round 0 [8,9,25,26] [] [8,9,25] [] (Ml 0)=CJ Ml:=bq P7 0 fun _=>rfl
theorem ajv:zC=some Iq:=aA P7
noncomputable def EP:Option PC:=ay {ctx with fr:=[7,9,11,12],nh:=[]} Tryz.f31 ((ab af 31).getD default) [3,6,8,10]
noncomputable def IB:PC:=ax EP
def Ti:PT:=
 (.call ⟨[],[(6,fe)]⟩ [] 16 86 [(av 4 (.mk [r0])),r1]
 (.ite (aO (.tget cE 1) (pi 0))
 (.ret (.tup [(.mk [(pc (.setc o6 0 vn) 0),(pc (.setc o6 0 vn) 1)]),(.tget cE 1)]))
 (.call ⟨[],[]⟩ [] 25 87 [(.mk [(pc (.setc kB 0 (.tget cE 0)) 0),(pc (.setc kB 0 (.tget cE 0)) 1),(pc (.setc kB 0 (.tget cE 0)) 2)]),r2]
 (.call ⟨[],[(10,(.setc fe 0 gM))]⟩ [] 28 88 [r1]
 (.ret (.tup [(.mk [(pc (.setc o6 0 (.mk [(pc Km 0),(pc Km 1)])) 0),(pc (.setc o6 0 (.mk [(pc Km 0),(pc Km 1)])) 1)]),(pi 0)]))))))
def an3 (b:Nat→PC):PT×List (Shp×PT):=(Ti,[])
theorem ace:EP.map told=some (an3 (aw EP)):=by kernel_rfl
theorem ayq:tree IB=Ti:=aB ace
theorem ajG:EP=some IB:=aA ace
noncomputable def ES:Option PC:=ay {ctx with fr:=[5,6,7,8,10,11],nh:=[]} Tryz.f86 ((ab af 86).getD default) [2,3,4,12292,9]
noncomputable def ID:PC:=ax ES
def Tk:PT:=
 (.call ⟨[],[(4,kB),(3,(.mk [r1])),(2,(.mk [r0]))]⟩ [] 14 88 [(pc (.mk [r1]) 0)]
 (.ite (.nt (.tget cU 1))
 (.ret (.tup [QZ,(pi 1)]))
 (.call ⟨[(6,(.tget cU 0))],[]⟩ [] 23 145 [(pc o2 3),(.clo 146 [(.ref (pc o3 0))])]
 (.ite (aq ff (pi 0))
 (.ret (.tup [QZ,(pi 4)]))
 (.chk (az (pc o2 3) ff)
 (.call ⟨[],[(9,Ky)]⟩ [] 35 147 [(.mk [(pc Ky 0),(pc Ky 1),(pc Ky 2)])]
 (.ite (.pick (aO (.tget mU 1) (pi 0)) pT (aO (.tget mU 0) r6))
 (.ret (.tup [QZ,(pi 11)]))
 (.ret (.tup [(.mk [(pc Q7 0),(pc Q7 1),(pc Q7 2)]),(pi 0)])))))))))
def an5 (b:Nat→PC):PT×List (Shp×PT):=(Tk,[])
theorem acg:ES.map told=some (an5 (aw ES)):=by kernel_rfl
theorem ayt:tree ID=Tk:=aB acg
theorem ajJ:ES=some ID:=aA acg
noncomputable def ET:Option PC:=ay {ctx with fr:=[3],nh:=[]} Tryz.f146 ((ab af 146).getD default) [2]
noncomputable def IE:PC:=ax ET
def Tl:PT:=
 (.ret (ao kD (.deref r1)))
def an6 (b:Nat→PC):PT×List (Shp×PT):=(Tl,[])
theorem ach:ET.map told=some (an6 (aw ET)):=by kernel_rfl
theorem ays:tree IE=Tl:=aB ach
theorem ajI:ET=some IE:=aA ach
noncomputable def Ac:Option PC:=ay {ctx with fr:=[4,5],nh:=[]} Tryz.f145 ((ab af 145).getD default) []
noncomputable def Jx:PC:=ax Ac
noncomputable def MC:Nat→PC:=bt Ac
def at5 (b:Nat→PC):PC:=.block 0 [4,8,9] [] (.loop [4,8] [] (b 0))
def C6 (b:Nat→PC):PT:=
 (.ite (aq r8 r7)
 (.blockS ⟨[],[]⟩ 1 [4,5,10,11,12,13,14,15,16] []
 (.chk (az r0 r8)
 (.callc ⟨[(5,r8)],[]⟩ [] 16 r1 [(pn r0 r8)]
 (.ite cE
 (.ret r5)
 (.next ⟨[],[]⟩))))
 (.next ⟨[(8,sE)],[]⟩))
 (.exit 0 ⟨[(9,(aq r8 r7))],[]⟩))
def Ub (b:Nat→PC):PT:=
 (.brk ⟨[(8,(pi 0)),(7,(.llen r0)),(4,(pi 0))],[]⟩
(at5 b)
 (.ret (pi (-1))))
def aoW (b:Nat→PC):PT×List (Shp×PT):=(Ub b,[(.lp 0 [4,8,9] [] [4,8] [],C6 b)])
theorem Qo:Ac.map told=some (aoW (aw Ac)):=by kernel_rfl
theorem azg:tree Jx=Ub MC:=aB Qo
theorem RQ:round 0 [4,8,9] [] [4,8] [] (MC 0)=C6 MC:=bq Qo 0 fun _=>rfl
theorem akz:Ac=some Jx:=aA Qo
noncomputable def Fs:Option PC:=ay {ctx with fr:=[2,3],nh:=[]} Tryz.f147 ((ab af 147).getD default) [1]
noncomputable def JK:PC:=ax Fs
def Um:PT:=
 (.call ⟨[],[(1,(.mk [r0]))]⟩ [] 5 192 [(.mk [kD,nX,vt]),(pi 1)]
 (.ite (bh r5 (pi 60))
 (.ret (.tup [(pi 0),(pi 6)]))
 (.call ⟨[],[]⟩ [] 8 193 [(.mk [(pc o1 0),(pc o1 1),(pc o1 2)])]
 (.ret (.tup [(.tget r8 0),(.tget r8 1)])))))
def ao9 (b:Nat→PC):PT×List (Shp×PT):=(Um,[])
theorem acP:Fs.map told=some (ao9 (aw Fs)):=by kernel_rfl
theorem azq:tree JK=Um:=aB acP
theorem akM:Fs=some JK:=aA acP
noncomputable def Al:Option PC:=ay {ctx with fr:=[4,5],nh:=[]} Tryz.f192 ((ab af 192).getD default) [2,7,12295]
noncomputable def JU:PC:=ax Al
noncomputable def MJ:Nat→PC:=bt Al
def auh (b:Nat→PC):PC:=.block 0 [5,13,14] [] (.loop [5,13] [] (b 0))
def Dc (b:Nat→PC):PT:=
 (.ite (aq db bV)
 (.blockS ⟨[(14,(aq db bV))],[]⟩ 1 [5,7,15,16,17,18,19,20,21,22,23,24] [7,12295]
 (.chk (az br db)
 (.call ⟨[(17,r5)],[]⟩ [] 21 192 [(.mk [(pc (.setc kB 0 (pn br db)) 0),(pc (.setc kB 0 (pn br db)) 1),(pc (.setc kB 0 (pn br db)) 2)]),(aJ r1 (pi 1))]
 (.ite (bh (aJ jE jY) (pi 60))
 (.exit 0 ⟨[(5,(aJ jE jY))],[]⟩)
 (.next ⟨[(5,(aJ jE jY))],[]⟩))))
 (.next ⟨[(13,(aJ db (pi 1)))],[]⟩))
 (.exit 0 ⟨[(14,(aq db bV))],[]⟩))
def LG (b:Nat→PC):PT:=
 (.ite (bh r1 (pi 8))
 (.ret (pi 61))
 (.brk ⟨[(13,(pi 0)),(12,pz),(11,vt),(5,(pi 1))],[]⟩
(auh b)
 (.ret r5)))
def apj (b:Nat→PC):PT×List (Shp×PT):=(LG b,[(.lp 0 [5,13,14] [] [5,13] [],Dc b)])
theorem Qv:Al.map told=some (apj (aw Al)):=by kernel_rfl
theorem afj:tree JU=LG MJ:=aB Qv
theorem RX:round 0 [5,13,14] [] [5,13] [] (MJ 0)=Dc MJ:=bq Qv 0 fun _=>rfl
theorem akW:Al=some JU:=aA Qv
noncomputable def Aj:Option PC:=ay {ctx with fr:=[2,3,5,7,8,38,47,10,11,12],nh:=[]} Tryz.f193 ((ab af 193).getD default) [1,4,6,12294,9]
noncomputable def JO:PC:=ax Aj
noncomputable def zn:Nat→PC:=bt Aj
def aue (b:Nat→PC):PC:=.block 0 [2,3,20,21] [4] (.loop [2,3,20] [4] (b 0))
def auf (b:Nat→PC):PC:=.block 3 [2,3,10,82,83] [] (.loop [2,3,10,82] [] (b 1))
def Da (b:Nat→PC):PT:=
 (.ite (aq dp iY)
 (.blockS ⟨[],[]⟩ 1 [2,3,5,6,7,8,22,23,24,25,26,27,28,29,30,31,33,34,35,36] [6,12294,4]
 (.chk (az cV dp)
 (.call ⟨[(5,dp)],[]⟩ [] 27 193 [(.mk [(pc (.setc kB 0 (pn cV dp)) 0),(pc (.setc kB 0 (pn cV dp)) 1),(pc (.setc kB 0 (pn cV dp)) 2)])]
 (.ite (aO (.tget ec 1) (pi 0))
 (.ret (.tup [(pi 0),(.tget ec 1)]))
 (.chk (az o4 r5)
 (.next ⟨[],[(4,(.setn o4 r5 0 (.tget ec 0)))]⟩)))))
 (.next ⟨[(20,(aJ dp (pi 1)))],[]⟩))
 (.exit 0 ⟨[(21,(aq dp iY))],[]⟩))
def sO (b:Nat→PC):PT:=
 (.ite (aq iZ sK)
 (.chk (az vz iZ)
 (.ite (.pick (ao (pn vz iZ) (pi (-1))) (ao cD (pi (-1))) pF)
 (.chk (az o4 iZ)
 (.ite (aO (pn o4 iZ) (.pick (ao (pn vz iZ) (pi (-1))) (pn o4 iZ) (pn vz iZ)))
 (.ret (.tup [(pi 0),(pi 11)]))
 (.next ⟨[(10,(pn o4 iZ)),(82,(aJ iZ (pi 1)))],[]⟩)))
 (.chk (az o4 iZ)
 (.ite (aO (pn o4 iZ) (.pick (ao (pn vz iZ) (pi (-1))) cD (pn vz iZ)))
 (.ret (.tup [(pi 0),(pi 11)]))
 (.next ⟨[(82,(aJ iZ (pi 1)))],[]⟩)))))
 (.exit 3 ⟨[(83,(aq iZ sK))],[]⟩))
def Uq (b:Nat→PC):PT:=
 (.chk (.an (aV pz (pi 0)) (bL pz cT))
 (.chk (ao pz pz)
 (.brk ⟨[(20,(pi 0)),(19,pz),(18,vt),(4,pN),(3,(pi 0)),(2,(pi 0))],[(4,(.rep pz (pi 0))),(1,(.mk [r0]))]⟩
(aue b)
 (.blockS ⟨[],[]⟩ 2 [2,3,38,39,40,41,42,46,47,48,49,50,51,55,56,60] []
 (.iteS ⟨[],[]⟩ (.pick (aq (pc o1 0) (pi 0)) pT (bh (pc o1 0) (pi 13))) [2,3,47,48,49,50,51,55,56,60] []
 (.ret (.tup [(pi 0),(pi 1)]))
 (.iteS ⟨[],[]⟩ (.pick (.pick (ao (pc o1 0) (pi 0)) pT (ao (pc o1 0) (pi 1))) pT (ao (pc o1 0) (pi 2))) [2,3] []
 (.call ⟨[],[]⟩ [] 62 235 [(.mk [(pc o1 0),(pc o1 1),(pc o1 2)])]
 (.ret (.tup [(.tget od 0),(.tget od 1)])))
 (.next ⟨[],[]⟩)
 (.next ⟨[],[]⟩))
 (.next ⟨[],[]⟩))
 (.call ⟨[],[]⟩ [] 67 236 [(pc o1 0)]
 (.ite (.pick (aO (.llen o4) (.llen (pc (.setc jV 0 vy) 0))) pT (aO (pc o1 1) (pi 0)))
 (.ret (.tup [(pi 0),(pi 2)]))
 (.brk ⟨[(82,(pi 0)),(81,(.llen (pc (.setc jV 0 vy) 0))),(80,(pc (.setc jV 0 vy) 0)),(10,(pi (-1)))],[(9,(.setc jV 0 vy))]⟩
(auf b)
 (.ite (ao (pc o9 1) (pi (-1)))
 (.ret (.tup [cD,(pi 0)]))
 (.ret (.tup [(pc o9 1),(pi 0)]))))))))))
def apd (b:Nat→PC):PT×List (Shp×PT):=(Uq b,[(.lp 0 [2,3,20,21] [4] [2,3,20] [4],Da b),(.lp 3 [2,3,10,82,83] [] [2,3,10,82] [],sO b)])
theorem HE:Aj.map told=some (apd (aw Aj)):=by kernel_rfl
theorem azu:tree JO=Uq zn:=aB HE
theorem RV:round 0 [2,3,20,21] [4] [2,3,20] [4] (zn 0)=Da zn:=bq HE 0 fun _=>rfl
theorem yB:round 3 [2,3,10,82,83] [] [2,3,10,82] [] (zn 1)=sO zn:=bq HE 1 fun _=>rfl
theorem akQ:Aj=some JO:=aA HE
noncomputable def Fy:Option PC:=ay {ctx with fr:=[2,3,12,20,4,5],nh:=[]} Tryz.f235 ((ab af 235).getD default) [1]
noncomputable def JR:PC:=ax Fy
def Ut:PT:=
 (.ite (bh pz (pi 0))
 (.ret (.tup [(pi 0),(pi 2)]))
 (.blockS ⟨[(11,kD)],[(1,(.mk [r0]))]⟩ 0 [2,3,12,13,20,21] []
 (.iteS ⟨[],[]⟩ (ao br (pi 0)) [2,3,20,21] []
 (.call ⟨[],[]⟩ [] 16 239 [(pc o1 1)]
 (.ite (aO cE (pc o1 1))
 (.ret (.tup [(pi 0),(pi 3)]))
 (.ret (.tup [(pi 0),(pi 0)]))))
 (.ite (ao br (pi 1))
 (.ite (.pick (aq (pc o1 1) (pi 0)) pT (bh (pc o1 1) (pi 1)))
 (.ret (.tup [(pi 0),(pi 3)]))
 (.ret (.tup [(pi 1),(pi 0)])))
 (.next ⟨[],[]⟩))
 (.next ⟨[],[]⟩))
 (.call ⟨[],[]⟩ [] 33 237 [(pc o1 1)]
 (.ite (.nt (.tget sG 1))
 (.ret (.tup [(pi 0),(pi 10)]))
 (.ret (.tup [(.tget sG 0),(pi 0)]))))))
def apg (b:Nat→PC):PT×List (Shp×PT):=(Ut,[])
theorem acV:Fy.map told=some (apg (aw Fy)):=by kernel_rfl
theorem azx:tree JR=Ut:=aB acV
theorem akT:Fy=some JR:=aA acV
noncomputable def Fx:Option PC:=ay {ctx with fr:=[2],nh:=[]} Tryz.f239 ((ab af 239).getD default) []
noncomputable def JQ:PC:=ax Fx
def Us:PT:=
 (.ret (.mn (.mx r0 (pi (-1099511627776))) nY))
def apf (b:Nat→PC):PT×List (Shp×PT):=(Us,[])
theorem acU:Fx.map told=some (apf (aw Fx)):=by kernel_rfl
theorem azw:tree JQ=Us:=aB acU
theorem akS:Fx=some JQ:=aA acU
noncomputable def Fu:Option PC:=ay {ctx with fr:=[2,3,4,11],nh:=[]} Tryz.f237 ((ab af 237).getD default) []
noncomputable def JM:PC:=ax Fu
def Uo:PT:=
 (.ite (.pick (aq r0 (pi 0)) pT (bh r0 (pi 19)))
 (.ret (.tup [(pi 0),pF]))
 (.ite (aq r0 (pi 7))
 (.ret (.tup [(pi 0),pT]))
 (.ret (.tup [(pi 1),pT]))))
def apb (b:Nat→PC):PT×List (Shp×PT):=(Uo,[])
theorem acR:Fu.map told=some (apb (aw Fu)):=by kernel_rfl
theorem azs:tree JM=Uo:=aB acR
theorem akO:Fu=some JM:=aA acR
noncomputable def FB:Option PC:=ay {ctx with fr:=[4,8,13,17,21],nh:=[]} Tryz.f236 ((ab af 236).getD default) [2]
noncomputable def JW:PC:=ax FB
def Uw:PT:=
 (.ite (ao r0 (pi 3))
 (.ret (.mk [(pc (.setc jV 0 (.mk [(.lst [(pi 1)]),(pi 1)])) 0),(pc (.setc jV 0 (.mk [(.lst [(pi 1)]),(pi 1)])) 1)]))
 (.ite (.pick (ao r0 (pi 4)) (ao r0 (pi 4)) (ao r0 (pi 5)))
 (.ret (.mk [(pc (.setc jV 0 (.mk [(.lst [(pi 1),(pi 1)]),(pi 1)])) 0),(pc (.setc jV 0 (.mk [(.lst [(pi 1),(pi 1)]),(pi 1)])) 1)]))
 (.ite (ao r0 (pi 6))
 (.ret (.mk [(pc adA 0),(pc adA 1)]))
 (.ite (ao r0 (pi 7))
 (.ret (.mk [(pc (.setc jV 0 (.mk [(.lst [(pi 0),(pi 0)]),(pi 1)])) 0),(pc (.setc jV 0 (.mk [(.lst [(pi 0),(pi 0)]),(pi 1)])) 1)]))
 (.ite (ao r0 (pi 8))
 (.ret (.mk [(pc (.setc jV 0 (.mk [(.lst [(pi (-1)),(pi (-1))]),(pi 1)])) 0),(pc (.setc jV 0 (.mk [(.lst [(pi (-1)),(pi (-1))]),(pi 1)])) 1)]))
 (.ret (.mk [(pc (.setc jV 0 (.mk [(.lst [(pi 0),(pi 0)]),(pi 0)])) 0),(pc (.setc jV 0 (.mk [(.lst [(pi 0),(pi 0)]),(pi 0)])) 1)])))))))
def apl (b:Nat→PC):PT×List (Shp×PT):=(Uw,[])
theorem acY:FB.map told=some (apl (aw FB)):=by kernel_rfl
theorem azB:tree JW=Uw:=aB acY
theorem akY:FB=some JW:=aA acY
noncomputable def Ft:Option PC:=ay {ctx with fr:=[5,6,8],nh:=[]} Tryz.f87 ((ab af 87).getD default) [2,4,7]
noncomputable def JL:PC:=ax Ft
def Un:PT:=
 (.call ⟨[],[(4,fe),(2,(.mk [r0]))]⟩ [] 11 147 [(.mk [kD,nX,vt])]
 (.ite (aO (.tget br 1) (pi 0))
 (.ret Cu)
 (.call ⟨[],[]⟩ [] 21 148 [(.mk [r1]),(.mk [(pc o2 0),(pc o2 1),(pc o2 2)])]
 (.ret (.mk [(pc adu 0),(pc adu 1)])))))
def apa (b:Nat→PC):PT×List (Shp×PT):=(Un,[])
theorem acQ:Ft.map told=some (apa (aw Ft)):=by kernel_rfl
theorem azr:tree JL=Un:=aB acQ
theorem akN:Ft=some JL:=aA acQ
noncomputable def Ak:Option PC:=ay {ctx with fr:=[5,15,21,9,11],nh:=[]} Tryz.f148 ((ab af 148).getD default) [2,3,4,6,33,7,8,10,12298,12]
noncomputable def JS:PC:=ax Ak
noncomputable def MI:Nat→PC:=bt Ak
def aug (b:Nat→PC):PC:=.block 1 [45,46] [7,8] (.loop [45] [7,8] (b 0))
def Db (b:Nat→PC):PT:=
 (.ite (aq pG vx)
 (.blockS ⟨[],[]⟩ 2 [9,10,47,48,49,50,51,52,53,54,55,56,57,58,59,60,61] [10,12298,8,7]
 (.chk (az qJ pG)
 (.call ⟨[(54,pG),(52,pG)],[]⟩ [] 57 148 [(.mk [(pc o2 0)]),(.mk [(pc (.setc kB 0 (pn qJ pG)) 0),(pc (.setc kB 0 (pn qJ pG)) 1),(pc (.setc kB 0 (pn qJ pG)) 2)])]
 (.chk (az o7 Re)
 (.chk (az o8 qK)
 (.next ⟨[],[(8,(.setn o8 qK 0 (.tget sJ 1))),(7,(.setn o7 Re 0 (.tget sJ 0)))]⟩)))))
 (.next ⟨[(45,(aJ pG (pi 1)))],[]⟩))
 (.exit 1 ⟨[(46,(aq pG vx))],[]⟩))
def DD (b:Nat→PC):PT:=
 (.blockS ⟨[(14,(pc (.mk [r1]) 0))],[(4,fe),(3,(.mk [r1])),(2,(.mk [r0]))]⟩ 0 [5,15,16,21,22] [4]
 (.iteS ⟨[],[]⟩ (.pick (ao cU (pi 0)) (ao cU (pi 0)) (ao cU (pi 1))) [5,21,22] [4]
 (.ret (.tup [(.mk [(pc (.setc o4 0 (.mk [pT,(pc o3 1)])) 0),(pc (.setc o4 0 (.mk [pT,(pc o3 1)])) 1)]),pL]))
 (.iteS ⟨[],[]⟩ (ao cU (pi 2)) [5] [4]
 (.call ⟨[],[]⟩ [] 26 194 [(.mk [(pc o2 0)]),(pc o3 1)]
 (.ite (pc (.setc fe 0 mS) 0)
 (.ret (.tup [(.mk [(pc adz 0),(pc adz 1)]),pL]))
 (.ret (.tup [Cu,(.lst [(pc o3 1)])]))))
 (.next ⟨[],[]⟩)
 (.next ⟨[],[]⟩))
 (.next ⟨[],[]⟩))
 (.chk (.an (aV mR (pi 0)) (bL mR cT))
 (.chk (ao mR mR)
 (.brk ⟨[(45,(pi 0)),(44,mR),(43,(pc o3 2)),(8,pN),(7,pN)],[(8,(.rep mR pL)),(7,(.rep mR fe))]⟩
(aug b)
 (.chk (.nt (.an (.an (ao (pc o3 0) (pi 6)) pT) (.nt (az o7 (pi 0)))))
 (.ite (.pick (ao (pc o3 0) (pi 6)) (pc (pn o7 (pi 0)) 0) pF)
 (.chk (az o7 (pi 0))
 (.chk (az o7 Cy)
 (.chk (az o8 Cy)
 (.ret (.tup [(.mk [(pc (.setc o4 0 (.sub (pn o7 Cy) 0 2)) 0),(pc (.setc o4 0 (.sub (pn o7 Cy) 0 2)) 1)]),(pn o8 Cy)])))))
 (.call ⟨[],[]⟩ [] 88 195 [(pc o3 0),o7]
 (.ite (pc (.setc fe 0 Ri) 0)
 (.ret (.tup [(.mk [(pc ady 0),(pc ady 1)]),pL]))
 (.call ⟨[(92,vn)],[]⟩ [] 94 196 [o8]
 (.ret (.tup [(.mk [(pc (.setc o4 0 Rj) 0),(pc (.setc o4 0 Rj) 1)]),r94])))))))))))
def aph (b:Nat→PC):PT×List (Shp×PT):=(DD b,[(.lp 1 [45,46] [7,8] [45] [7,8],Db b)])
theorem Qu:Ak.map told=some (aph (aw Ak)):=by kernel_rfl
theorem azy:tree JS=DD MI:=aB Qu
theorem RW:round 1 [45,46] [7,8] [45] [7,8] (MI 0)=Db MI:=bq Qu 0 fun _=>rfl
theorem akU:Ak=some JS:=aA Qu
noncomputable def Fz:Option PC:=ay {ctx with fr:=[5,6],nh:=[]} Tryz.f194 ((ab af 194).getD default) [2,4]
noncomputable def JT:PC:=ax Fz
def Uu:PT:=
 (.chk (.nt (.an (.an (.nt (aV r1 (.llen kD))) pT) (.nt (az kD r1))))
 (.ite (.pick (aV r1 (.llen kD)) pT (.nt (pc (pn kD r1) 0)))
 (.ret (.mk [(pc (.setc fe 0 vn) 0),(pc (.setc fe 0 vn) 1)]))
 (.call ⟨[],[(4,fe),(2,(.mk [r0]))]⟩ [] 24 237 [r1]
 (.iteS ⟨[],[]⟩ (ao (.tget pD 0) (pi 1)) [] [4]
 (.chk (az (pc o2 0) r1)
 (.call ⟨[],[]⟩ [] 36 238 [(aO (pc (pn (pc o2 0) r1) 1) (pi 0))]
 (.ret (.mk [(pc (.setc o4 0 gN) 0),(pc (.setc o4 0 gN) 1)]))))
 (.next ⟨[],[]⟩)
 (.chk (az (pc o2 0) r1)
 (.call ⟨[],[]⟩ [] 43 239 [(pc (pn (pc o2 0) r1) 1)]
 (.ret (.mk [(pc (.setc o4 0 (.mk [pT,qJ])) 0),(pc (.setc o4 0 (.mk [pT,qJ])) 1)]))))))))
def api (b:Nat→PC):PT×List (Shp×PT):=(Uu,[])
theorem acW:Fz.map told=some (api (aw Fz)):=by kernel_rfl
theorem azz:tree JT=Uu:=aB acW
theorem akV:Fz=some JT:=aA acW
noncomputable def FC:Option PC:=ay {ctx with fr:=[],nh:=[]} Tryz.f238 ((ab af 238).getD default) [2]
noncomputable def JX:PC:=ax FC
def Ux:PT:=
 (.ite r0
 (.ret (.mk [(pc Ka 0),(pc Ka 1)]))
 (.ret (.mk [(pc Kb 0),(pc Kb 1)])))
def apm (b:Nat→PC):PT×List (Shp×PT):=(Ux,[])
theorem acZ:FC.map told=some (apm (aw FC)):=by kernel_rfl
theorem azC:tree JX=Ux:=aB acZ
theorem akZ:FC=some JX:=aA acZ
noncomputable def Fw:Option PC:=ay {ctx with fr:=[9,22,41,6,7,82,88,94],nh:=[]} Tryz.f195 ((ab af 195).getD default) [4,5]
noncomputable def JP:PC:=ax Fw
def Ur:PT:=
 (.blockS ⟨[(8,r0)],[(4,fe)]⟩ 0 [9,10,22,23] [4]
 (.iteS ⟨[],[]⟩ (ao r8 (pi 3)) [22,23] [4]
 (.chk (az r1 (pi 0))
 (.iteS ⟨[],[]⟩ (pc (pn r1 (pi 0)) 0) [] [4]
 (.chk (az r1 (pi 0))
 (.call ⟨[],[]⟩ [] 20 238 [(ao (pc (pn r1 (pi 0)) 1) (pi 0))]
 (.ret (.mk [(pc (.setc o4 0 dp) 0),(pc (.setc o4 0 dp) 1)]))))
 (.next ⟨[],[]⟩)
 (.ret Cu)))
 (.iteS ⟨[],[]⟩ (.pick (ao r8 (pi 4)) (ao r8 (pi 4)) (ao r8 (pi 5))) [] [4]
 (.call ⟨[],[]⟩ [] 27 238 [(ao r0 (pi 5))]
 (.chk (az r1 (pi 0))
 (.chk (.nt (.an (.an (.nt adR) pT) (.nt (az r1 (pi 1)))))
 (.ite (.pick adR pT (.an (.cb .eql (pc nZ 0) (pc yj 0)) (.an (ao (pc nZ 1) (pc yj 1)) pT)))
 (.ret (.mk [(pc (.setc o4 0 yj) 0),(pc (.setc o4 0 yj) 1)]))
 (.next ⟨[],[]⟩)))))
 (.ite (ao r8 (pi 6))
 (.chk (az r1 (pi 1))
 (.chk (.nt (.an (.an (pc nZ 0) pT) (.nt (az r1 (pi 1)))))
 (.chk (.nt (.an (.an (pc nZ 0) pT) (.nt (az r1 (pi 2)))))
 (.ite (.pick (pc nZ 0) (.an (.cb .eql (pc nZ 0) (pc (pn r1 (pi 2)) 0)) (.an (ao (pc nZ 1) (pc (pn r1 (pi 2)) 1)) pT)) pF)
 (.ret (.mk [(pc (.setc o4 0 nZ) 0),(pc (.setc o4 0 nZ) 1)]))
 (.ret Cu)))))
 (.next ⟨[],[]⟩))
 (.next ⟨[],[]⟩))
 (.next ⟨[],[]⟩))
 (.chk (az r1 (pi 0))
 (.chk (.nt (.an (.an (.nt (.nt (pc (pn r1 (pi 0)) 0))) pT) (.nt (az r1 (pi 1)))))
 (.ite (.pick (.nt (pc (pn r1 (pi 0)) 0)) pT (.nt (pc nZ 0)))
 (.ret Cu)
 (.chk (az r1 (pi 1))
 (.blockS ⟨[(81,r0),(7,(pc nZ 1)),(6,(pc (pn r1 (pi 0)) 1))],[]⟩ 1 [82,83,88,89,94,95] [4]
 (.iteS ⟨[],[]⟩ (.pick (ao sK (pi 4)) (ao sK (pi 4)) (ao sK (pi 5))) [88,89,94,95] [4]
 (.call ⟨[],[]⟩ [] 87 238 [(ao r0 (pi 4))]
 (.ret (.mk [(pc (.setc o4 0 r87) 0),(pc (.setc o4 0 r87) 1)])))
 (.iteS ⟨[],[]⟩ (ao sK (pi 7)) [94,95] [4]
 (.call ⟨[],[]⟩ [] 93 238 [(aq r6 r7)]
 (.ret (.mk [(pc (.setc o4 0 Rk) 0),(pc (.setc o4 0 Rk) 1)])))
 (.iteS ⟨[],[]⟩ (ao sK (pi 8)) [] [4]
 (.call ⟨[],[]⟩ [] 99 238 [(ao r6 r7)]
 (.ret (.mk [(pc (.setc o4 0 r99) 0),(pc (.setc o4 0 r99) 1)])))
 (.next ⟨[],[]⟩)
 (.next ⟨[],[]⟩))
 (.next ⟨[],[]⟩))
 (.next ⟨[],[]⟩))
 (.call ⟨[],[]⟩ [] 103 240 [r0,r6,r7]
 (.ret (.mk [(pc (.setc o4 0 (.mk [pT,adW])) 0),(pc (.setc o4 0 (.mk [pT,adW])) 1)])))))))))
def ape (b:Nat→PC):PT×List (Shp×PT):=(Ur,[])
theorem acT:Fw.map told=some (ape (aw Fw)):=by kernel_rfl
theorem azv:tree JP=Ur:=aB acT
theorem akR:Fw=some JP:=aA acT
noncomputable def Fv:Option PC:=ay {ctx with fr:=[6,8,14,20,25],nh:=[]} Tryz.f240 ((ab af 240).getD default) []
noncomputable def JN:PC:=ax Fv
def Up:PT:=
 (.blockS ⟨[(7,r0)],[]⟩ 0 [6,8,9,14,15,20,21,25,26] []
 (.iteS ⟨[],[]⟩ (ao r7 (pi 9)) [6,14,15,20,21,25,26] []
 (.call ⟨[],[]⟩ [] 13 239 [(aJ r1 r2)]
 (.ret db))
 (.iteS ⟨[],[]⟩ (ao r7 (pi 10)) [6,20,21,25,26] []
 (.call ⟨[],[]⟩ [] 19 239 [(bG r1 r2)]
 (.ret iY))
 (.iteS ⟨[],[]⟩ (ao r7 (pi 11)) [6,25,26] []
 (.call ⟨[],[]⟩ [] 24 261 [r1,r2]
 (.ret pD))
 (.ite (ao r7 (pi 12))
 (.ret (.mn r1 r2))
 (.next ⟨[],[]⟩))
 (.next ⟨[],[]⟩))
 (.next ⟨[],[]⟩))
 (.next ⟨[],[]⟩))
 (.ret (.mx r1 r2)))
def apc (b:Nat→PC):PT×List (Shp×PT):=(Up,[])
theorem acS:Fv.map told=some (apc (aw Fv)):=by kernel_rfl
theorem azt:tree JN=Up:=aB acS
theorem akP:Fv=some JN:=aA acS
noncomputable def FA:Option PC:=ay {ctx with fr:=[4,5,6,7],nh:=[]} Tryz.f261 ((ab af 261).getD default) []
noncomputable def JV:PC:=ax FA
def Uv:PT:=
 (.call ⟨[],[]⟩ [] 19 224 [(.conv .u64 (.mx r0 (bG (pi 0) r0))),(.conv .u64 (.mx r1 (bG (pi 0) r1)))]
 (.ite (.cb .neq (aq r0 (pi 0)) (aq r1 (pi 0)))
 (.ret (bG (pi 0) adI))
 (.ret adI)))
def apk (b:Nat→PC):PT×List (Shp×PT):=(Uv,[])
theorem acX:FA.map told=some (apk (aw FA)):=by kernel_rfl
theorem azA:tree JV=Uv:=aB acX
theorem akX:FA=some JV:=aA acX
noncomputable def Eu:Option PC:=ay {ctx with fr:=[4,5,6,7,8,9,10,11,12,13],nh:=[]} Tryz.f224 ((ab af 224).getD default) []
noncomputable def H9:PC:=ax Eu
def SS:PT:=
 (.chk ye
 (.ret (.tup [(.ai .add .u64 (.ai .add .u64 (.ai .mul .u64 qG (.ai .shr .u64 r1 sB)) (.ai .shr .u64 adG sB)) (.ai .shr .u64 (.ai .add .u64 (.ai .and .u64 adG vp) (.ai .mul .u64 (.ai .and .u64 r0 vp) (.ai .shr .u64 r1 sB))) sB)),(.ai .mul .u64 r0 r1)])))
def anD (b:Nat→PC):PT×List (Shp×PT):=(SS,[])
theorem abS:Eu.map told=some (anD (aw Eu)):=by kernel_rfl
theorem ax3:tree H9=SS:=aB abS
theorem ajg:Eu=some H9:=aA abS
noncomputable def Aa:Option PC:=ay {ctx with fr:=[2,3,5,8],nh:=[]} Tryz.f196 ((ab af 196).getD default) [6]
noncomputable def Jr:PC:=ax Aa
noncomputable def zl:Nat→PC:=bt Aa
def at2 (b:Nat→PC):PC:=.block 0 [3,11,12] [] (.loop [3,11] [] (b 0))
def at3 (b:Nat→PC):PC:=.block 2 [6,27,28] [6] (.loop [6,27] [6] (b 1))
def KV (b:Nat→PC):PT:=
 (.ite (aq br cD)
 (.chk (az r9 br)
 (.ite (aq (aJ r3 (.llen (pn r9 br))) (pi 0))
 (.chk (.nt pT)
 (.chk (.nt pT)
 (.next ⟨[(3,(aJ r3 (.llen (pn r9 br)))),(11,(aJ br (pi 1)))],[]⟩)))
 (.next ⟨[(3,(aJ r3 (.llen (pn r9 br)))),(11,(aJ br (pi 1)))],[]⟩)))
 (.exit 0 ⟨[(12,(aq br cD))],[]⟩))
def KW (b:Nat→PC):PT:=
 (.ite (aq ec mS)
 (.chk (az gM ec)
 (.chk (bL (.llen (.app o6 (pn gM ec))) cT)
 (.next ⟨[(6,pN),(27,(aJ ec (pi 1)))],[(6,(.app o6 (pn gM ec)))]⟩)))
 (.exit 2 ⟨[(28,(aq ec mS))],[]⟩))
def T5 (b:Nat→PC):PT:=
 (.brk ⟨[(11,(pi 0)),(10,(.llen r0)),(9,r0),(3,(pi 0))],[]⟩
(at2 b)
 (.call ⟨[],[]⟩ [] 24 241 [pL,r3]
 (.brk ⟨[(27,(pi 0)),(26,(.llen r0)),(25,r0),(6,pN)],[(6,pD)]⟩
(at3 b)
 (.ret o6))))
def aoQ (b:Nat→PC):PT×List (Shp×PT):=(T5 b,[(.lp 0 [3,11,12] [] [3,11] [],KV b),(.lp 2 [6,27,28] [6] [6,27] [6],KW b)])
theorem HC:Aa.map told=some (aoQ (aw Aa)):=by kernel_rfl
theorem aza:tree Jr=T5 zl:=aB HC
theorem aeq:round 0 [3,11,12] [] [3,11] [] (zl 0)=KV zl:=bq HC 0 fun _=>rfl
theorem aer:round 2 [6,27,28] [6] [6,27] [6] (zl 1)=KW zl:=bq HC 1 fun _=>rfl
theorem akt:Aa=some Jr:=aA HC
noncomputable def Ei:Option PC:=ay {ctx with fr:=[2,3,7,12],nh:=[]} Tryz.f39 ((ab af 39).getD default) [1]
noncomputable def HW:PC:=ax Ei
def SG:PT:=
 (.ite (aO (pc (.mk [r0]) 4) (pi 0))
 (.ret (pi 0))
 (.ite (.nt kD)
 (.ret (pi 2))
 (.ite (aO nX (pi 0))
 (.ret (pi 1))
 (.ret (pi 0)))))
def ano (b:Nat→PC):PT×List (Shp×PT):=(SG,[])
theorem abH:Ei.map told=some (ano (aw Ei)):=by kernel_rfl
theorem axP:tree HW=SG:=aB abH
theorem ai2:Ei=some HW:=aA abH
noncomputable def Eg:Option PC:=ay {ctx with fr:=[8,9,10,11],nh:=[]} Tryz.f34 ((ab af 34).getD default) [4,6]
noncomputable def HU:PC:=ax Eg
def SD:PT:=
 (.call ⟨[],[(6,(.mk [r2])),(4,(.mk [r0]))]⟩ [] 14 26 [(av 19 (.mk [r2])),r3]
 (.ite (ao (.llen (pc (.setc o6 0 cU) 15)) (pi 0))
 (.ret (pi (-1)))
 (.call ⟨[],[(6,(.setc o6 0 cU))]⟩ [] 23 46 [(av 8 o4),r1,(pi 6),(av 19 (.setc o6 0 cU)),r3]
 (.call ⟨[],[]⟩ [] 24 44 [ff]
 (.call ⟨[(29,(av 15 o6)),(27,(av 8 o4)),(9,(.mx pD (pi 0)))],[]⟩ [] 31 92 [(av 19 o6)]
 (.call ⟨[],[]⟩ [] 33 91 [ec,pE,oa,r9]
 (.ite (aO (.tget sG 1) (pi 0))
 (.ret (pi (-1)))
 (.ret (.tget sG 0)))))))))
def anm (b:Nat→PC):PT×List (Shp×PT):=(SD,[])
theorem abF:Eg.map told=some (anm (aw Eg)):=by kernel_rfl
theorem axN:tree HU=SD:=aB abF
theorem ai0:Eg=some HU:=aA abF
noncomputable def Eh:Option PC:=ay {ctx with fr:=[2],nh:=[]} Tryz.f44 ((ab af 44).getD default) [1]
noncomputable def HV:PC:=ax Eh
def SF:PT:=
 (.ite (.pick (aO (pc (.mk [r0]) 4) (pi 0)) pT (.nt kD))
 (.ret (pi (-1)))
 (.ret nX))
def ann (b:Nat→PC):PT×List (Shp×PT):=(SF,[])
theorem abG:Eh.map told=some (ann (aw Eh)):=by kernel_rfl
theorem axO:tree HV=SF:=aB abG
theorem ai1:Eh=some HV:=aA abG
noncomputable def zZ:Option PC:=ay {ctx with fr:=[2,4],nh:=[]} Tryz.f92 ((ab af 92).getD default) [1,3,6,8]
noncomputable def Jm:PC:=ax zZ
noncomputable def zj:Nat→PC:=bt zZ
def at0 (b:Nat→PC):PC:=.block 0 [3,16,17] [3] (.loop [3,16] [3] (b 0))
def at1 (b:Nat→PC):PC:=.block 2 [2,3,36,37] [3] (.loop [2,3,36] [3] (b 1))
def C3 (b:Nat→PC):PT:=
 (.ite (aq cE cJ)
 (.chk (az cU cE)
 (.ite (.pick (ao r4 (pi 1)) (ao (pc (.setc z9 0 pA) 0) (pi 1)) pF)
 (.chk (bL (.llen (.app o3 (.lst [(pc (.setc z9 0 pA) 6)]))) cT)
 (.next ⟨[(3,pN),(16,(aJ cE (pi 1)))],[(3,(.app o3 (.lst [(pc (.setc z9 0 pA) 6)])))]⟩))
 (.next ⟨[(16,(aJ cE (pi 1)))],[]⟩)))
 (.exit 0 ⟨[(17,(aq cE cJ))],[]⟩))
def vC (b:Nat→PC):PT:=
 (.ite (aq gN mU)
 (.chk (az Rc gN)
 (.ite (.pick (ao r4 (pi 0)) (ao (pc Cr 0) (pi 2)) pF)
 (.ret (pc Cr 6))
 (.ite (.pick (ao r4 (pi 1)) (ao (pc Cr 0) (pi 1)) pF)
 (.chk (bL (.llen (.app o3 (.lst [(pc Cr 6)]))) cT)
 (.next ⟨[(3,pN),(36,(aJ gN (pi 1)))],[(3,(.app o3 (.lst [(pc Cr 6)])))]⟩))
 (.next ⟨[(36,(aJ gN (pi 1)))],[]⟩))))
 (.exit 2 ⟨[(37,(aq gN mU))],[]⟩))
def TZ (b:Nat→PC):PT:=
 (.brk ⟨[(16,(pi 0)),(15,(.llen mQ)),(14,mQ),(4,yg),(3,pN),(2,(pi 0))],[(3,pL),(1,(.mk [r0]))]⟩
(at0 b)
 (.brk ⟨[(36,(pi 0)),(35,(.llen (pc o1 17))),(34,(pc o1 17))],[]⟩
(at1 b)
 (.ite (ao (.llen o3) (pi 0))
 (.ret (pi (-1)))
 (.call ⟨[],[]⟩ [] 66 154 [o3]
 (.ret r66)))))
def aoL (b:Nat→PC):PT×List (Shp×PT):=(TZ b,[(.lp 0 [3,16,17] [3] [3,16] [3],C3 b),(.lp 2 [2,3,36,37] [3] [2,3,36] [3],vC b)])
theorem HA:zZ.map told=some (aoL (aw zZ)):=by kernel_rfl
theorem ay5:tree Jm=TZ zj:=aB HA
theorem RM:round 0 [3,16,17] [3] [3,16] [3] (zj 0)=C3 zj:=bq HA 0 fun _=>rfl
theorem C4:round 2 [2,3,36,37] [3] [2,3,36] [3] (zj 1)=vC zj:=bq HA 1 fun _=>rfl
theorem ako:zZ=some Jm:=aA HA
noncomputable def Ag:Option PC:=ay {ctx with fr:=[2,3,4],nh:=[]} Tryz.f154 ((ab af 154).getD default) []
noncomputable def JB:PC:=ax Ag
noncomputable def MG:Nat→PC:=bt Ag
def YX (b:Nat→PC):PC:=.block 0 [3,4,12,13,14,15] [] (.loop [3,4] [] (b 0))
def KX (b:Nat→PC):PT:=
 (.ite (aq r4 (.llen r0))
 (.chk (az r0 r4)
 (.next ⟨[(3,(.mn r3 (pn r0 r4))),(4,(aJ r4 (pi 1)))],[]⟩))
 (.exit 0 ⟨[(12,r4),(13,r0),(14,(.llen r0)),(15,(aq r4 (.llen r0)))],[]⟩))
def Uf (b:Nat→PC):PT:=
 (.ite (aq (.llen r0) (pi 1))
 (.chk (.nt pT)
 (.chk (.nt pT)
 (.chk (az r0 (pi 0))
 (.brk ⟨[(4,(pi 1)),(3,(pn r0 (pi 0)))],[]⟩
(YX b)
 (.ret r3)))))
 (.chk (az r0 (pi 0))
 (.brk ⟨[(4,(pi 1)),(3,(pn r0 (pi 0)))],[]⟩
(YX b)
 (.ret r3))))
def ao0 (b:Nat→PC):PT×List (Shp×PT):=(Uf b,[(.lp 0 [3,4,12,13,14,15] [] [3,4] [],KX b)])
theorem Qs:Ag.map told=some (ao0 (aw Ag)):=by kernel_rfl
theorem azk:tree JB=Uf MG:=aB Qs
theorem aes:round 0 [3,4,12,13,14,15] [] [3,4] [] (MG 0)=KX MG:=bq Qs 0 fun _=>rfl
theorem akD:Ag=some JB:=aA Qs
noncomputable def Fk:Option PC:=ay {ctx with fr:=[8,9,15,39,58,74,11,12],nh:=[]} Tryz.f91 ((ab af 91).getD default) [4,5,10]
noncomputable def JC:PC:=ax Fk
def DC:PT:=
 (.blockS ⟨[],[(10,(.setc z3 0 (.mk [(pc (.mk [r1]) 5),(pc (.mk [r1]) 6),(pc (.mk [r1]) 7)]))),(5,(.mk [r1])),(4,(.mk [r0]))]⟩ 0 [8,9,15,16,17,18,19,25,26,32,33,38,39,40,41,42,43,47,48,52,53,57,58,59,60,61,65,66,69,70,73,74,75,76,77,80] []
 (.call ⟨[],[]⟩ [] 17 51 [(av 8 o4)]
 (.call ⟨[(19,(aO jE (pi 0)))],[]⟩ [(19,false)] 23 149 [(av 8 o4),(pc o5 9)]
 (.call ⟨[(26,(.pick iY pT (.nt ff)))],[]⟩ [(26,false)] 30 149 [(av 8 o4),(pc o5 10)]
 (.call ⟨[(33,(.pick mS pT (.nt mT)))],[]⟩ [(33,false)] 36 150 [(pc o5 8)]
 (.iteS ⟨[],[]⟩ (.pick sG pT (.nt gN)) [8,9,39,40,41,42,43,47,48,52,53,57,58,59,60,61,65,66,69,70,73,74,75,76,77,80] []
 (.ret (.tup [(pi 0),(pi 1)]))
 (.iteS ⟨[],[]⟩ (.pick (.pick (.pick (aq (pc bK 0) (pi 0)) pT (aV (pc bK 0) (pi 5))) pT (aq (pc bK 2) (pi 0))) pT (aV (pc bK 2) (pi 2))) [8,9,58,59,60,61,65,66,69,70,73,74,75,76,77,80] []
 (.ret (.tup [(pi 0),(pi 1)]))
 (.call ⟨[(61,(aO r2 (pi (-1))))],[]⟩ [(61,true)] 63 150 [r2]
 (.iteS ⟨[],[]⟩ (.pick (.pick (.pick Rf (.nt Rg) pF) pT (aq r3 (pi 0))) pT (bh r3 (pi 20000))) [8,9,74,75,76,77,80] []
 (.ret (.tup [(pi 0),(pi 1)]))
 (.call ⟨[],[]⟩ [] 76 151 [(.mk [(pc bK 0),(pc bK 1),(pc bK 2)])]
 (.ite (.pick qM (ao r2 (pi (-1))) pF)
 (.ret (.tup [(pi 0),(pi 4)]))
 (.next ⟨[],[]⟩)))
 (.next ⟨[],[]⟩)))
 (.next ⟨[],[]⟩))
 (.next ⟨[],[]⟩))))))
 (.call ⟨[],[]⟩ [] 85 152 [(av 8 o4),(av 15 o5),r2]
 (.ite (aO (.tget CD 1) (pi 0))
 (.ret (.tup [(pi 0),(.tget CD 1)]))
 (.call ⟨[(11,(.tget CD 0))],[]⟩ [] 92 150 [(.tget CD 0)]
 (.ite (.pick (.nt Rj) pT (bh (aJ br r3) (pi 100000)))
 (.ret (.tup [(pi 0),(pi 3)]))
 (.call ⟨[],[]⟩ [] 106 153 [(av 8 o4),(pc o5 10),(aJ br r3)]
 (.ret (.tup [(.tget Q9 0),(.tget Q9 1)]))))))))
def ao1 (b:Nat→PC):PT×List (Shp×PT):=(DC,[])
theorem acJ:Fk.map told=some (ao1 (aw Fk)):=by kernel_rfl
theorem Ug:tree JC=DC:=aB acJ
theorem akE:Fk=some JC:=aA acJ
noncomputable def zN:Option PC:=ay {ctx with fr:=[2,3,4,5,6,7,10,11,12],nh:=[]} Tryz.f51 ((ab af 51).getD default) [1,9]
noncomputable def I3:PC:=ax zN
noncomputable def Mu:Nat→PC:=bt zN
def atD (b:Nat→PC):PC:=.block 0 [2,38,39] [] (.loop [2,38] [] (b 0))
def CQ (b:Nat→PC):PT:=
 (.ite (aq jZ lV)
 (.blockS ⟨[],[]⟩ 1 [2,9,40,41,42,43,44,45] [9]
 (.chk (az gN jZ)
 (.call ⟨[],[]⟩ [] 44 82 [(pc (.setc Cs 0 (pn gN jZ)) 0),(pi 10)]
 (.ite (.nt vx)
 (.ret (pi 1))
 (.next ⟨[],[]⟩))))
 (.next ⟨[(38,(aJ jZ (pi 1)))],[]⟩))
 (.exit 0 ⟨[(39,(aq jZ lV))],[]⟩))
def TG (b:Nat→PC):PT:=
 (.call ⟨[(2,(pi 0))],[(1,(.mk [r0]))]⟩ [] 15 116 [jD]
 (.call ⟨[(5,(.tget cJ 2)),(4,(.tget cJ 1)),(3,(.tget cJ 0))],[]⟩ [] 21 117 [(pc o1 0),(pi 8),(.con (.clo 118 []))]
 (.ite (aO jY (pi 0))
 (.ret jY)
 (.call ⟨[],[(1,(av 8 o1))]⟩ [] 27 117 [r3,(pi 40),(.clo 119 [(.ref (av 8 o1))])]
 (.ite (aO ec (pi 0))
 (.ret ec)
 (.ite (bh (.llen (pc o1 2)) (pi 20))
 (.ret (pi 6))
 (.brk ⟨[(38,(pi 0)),(37,(.llen (pc o1 2))),(36,(pc o1 2))],[]⟩
(atD b)
 (.call ⟨[],[]⟩ [] 49 117 [r4,(pi 200),(.clo 121 [(.ref o1)])]
 (.ite (aO pH (pi 0))
 (.ret pH)
 (.call ⟨[],[]⟩ [] 55 117 [r5,(pi 20),(.clo 122 [(.ref o1)])]
 (.ite (aO sI (pi 0))
 (.ret sI)
 (.call ⟨[],[]⟩ [] 60 124 [(.sub o1 0 8)]
 (.ite (aO yp (pi 0))
 (.ret yp)
 (.call ⟨[],[]⟩ [] 65 125 [(.sub o1 0 8)]
 (.ret yq)))))))))))))))
def aos (b:Nat→PC):PT×List (Shp×PT):=(TG b,[(.lp 0 [2,38,39] [] [2,38] [],CQ b)])
theorem Qg:zN.map told=some (aos (aw zN)):=by kernel_rfl
theorem ayR:tree I3=TG Mu:=aB Qg
theorem Rz:round 0 [2,38,39] [] [2,38] [] (Mu 0)=CQ Mu:=bq Qg 0 fun _=>rfl
theorem aj9:zN=some I3:=aA Qg
noncomputable def zS:Option PC:=ay {ctx with fr:=[],nh:=[]} Tryz.f116 ((ab af 116).getD default) [1,2,3,4,6,16390,20486,24582,21,8,34,10,12298,16394,47]
noncomputable def Jf:PC:=ax zS
noncomputable def tK:Nat→PC:=bt zS
def atJ (b:Nat→PC):PC:=.block 0 [2,14,15] [2] (.loop [2,14] [2] (b 0))
def atK (b:Nat→PC):PC:=.block 2 [3,27,28] [3] (.loop [3,27] [3] (b 1))
def atL (b:Nat→PC):PC:=.block 4 [4,40,41] [4] (.loop [4,40] [4] (b 2))
def KQ (b:Nat→PC):PT:=
 (.ite lU
 (.chk (az bV cU)
 (.chk (bL (.llen adJ) cT)
 (.next ⟨[(2,pN),(14,yh)],[(2,adJ)]⟩)))
 (.exit 0 ⟨[(15,lU)],[]⟩))
def KR (b:Nat→PC):PT:=
 (.ite (aq ec mS)
 (.chk (az gM ec)
 (.chk (bL (.llen adP) cT)
 (.next ⟨[(3,pN),(27,(aJ ec (pi 1)))],[(3,adP)]⟩)))
 (.exit 2 ⟨[(28,(aq ec mS))],[]⟩))
def KS (b:Nat→PC):PT:=
 (.ite (aq qI sH)
 (.chk (az jZ qI)
 (.chk (bL (.llen adM) cT)
 (.next ⟨[(4,pN),(40,(aJ qI (pi 1)))],[(4,adM)]⟩)))
 (.exit 4 ⟨[(41,(aq qI sH))],[]⟩))
def TR (b:Nat→PC):PT:=
 (.brk ⟨[(14,(pi 0)),(13,(.llen nX)),(12,nX),(4,pN),(3,pN),(2,pN)],[(4,pL),(3,pL),(2,pL),(1,(.mk [r0]))]⟩
(atJ b)
 (.brk ⟨[(27,(pi 0)),(26,yi),(25,(pc o1 3))],[]⟩
(atK b)
 (.brk ⟨[(40,(pi 0)),(39,sC),(38,(pc o1 4))],[]⟩
(atL b)
 (.ret (.tup [o2,o3,o4])))))
def aoE (b:Nat→PC):PT×List (Shp×PT):=(TR b,[(.lp 0 [2,14,15] [2] [2,14] [2],KQ b),(.lp 2 [3,27,28] [3] [3,27] [3],KR b),(.lp 4 [4,40,41] [4] [4,40] [4],KS b)])
theorem Ch:zS.map told=some (aoE (aw zS)):=by kernel_rfl
theorem ayY:tree Jf=TR tK:=aB Ch
theorem aem:round 0 [2,14,15] [2] [2,14] [2] (tK 0)=KQ tK:=bq Ch 0 fun _=>rfl
theorem aen:round 2 [3,27,28] [3] [3,27] [3] (tK 1)=KR tK:=bq Ch 1 fun _=>rfl
theorem aeo:round 4 [4,40,41] [4] [4,40] [4] (tK 2)=KS tK:=bq Ch 2 fun _=>rfl
theorem akh:zS=some Jf:=aA Ch
noncomputable def zQ:Option PC:=ay {ctx with fr:=[6,7,8],nh:=[]} Tryz.f117 ((ab af 117).getD default) []
noncomputable def Jb:PC:=ax zQ
noncomputable def Mx:Nat→PC:=bt zQ
def atH (b:Nat→PC):PC:=.block 0 [6,15,16] [] (.loop [6,15] [] (b 0))
def CS (b:Nat→PC):PT:=
 (.ite (aq cJ cU)
 (.blockS ⟨[],[]⟩ 1 [6,7,8,17,18,19,20,21,22,24,25,26,27] []
 (.call ⟨[(7,cJ)],[]⟩ [] 20 181 [r0,cJ]
 (.ite (aO dp (pi 0))
 (.ret dp)
 (.callc ⟨[],[]⟩ [] 26 r2 [r7]
 (.ite (.nt mS)
 (.ret (pi 1))
 (.next ⟨[],[]⟩)))))
 (.next ⟨[(15,(aJ cJ (pi 1)))],[]⟩))
 (.exit 0 ⟨[(16,(aq cJ cU))],[]⟩))
def TN (b:Nat→PC):PT:=
 (.ite (bh (.llen r0) r1)
 (.ret (pi 6))
 (.brk ⟨[(15,(pi 0)),(14,(.llen r0)),(6,(pi 0))],[]⟩
(atH b)
 (.ret (pi 0))))
def aoA (b:Nat→PC):PT×List (Shp×PT):=(TN b,[(.lp 0 [6,15,16] [] [6,15] [],CS b)])
theorem Qj:zQ.map told=some (aoA (aw zQ)):=by kernel_rfl
theorem ayU:tree Jb=TN Mx:=aB Qj
theorem RB:round 0 [6,15,16] [] [6,15] [] (Mx 0)=CS Mx:=bq Qj 0 fun _=>rfl
theorem akd:zQ=some Jb:=aA Qj
noncomputable def Fb:Option PC:=ay {ctx with fr:=[4],nh:=[]} Tryz.f181 ((ab af 181).getD default) []
noncomputable def Je:PC:=ax Fb
def TQ:PT:=
 (.chk (az r0 r1)
 (.call ⟨[],[]⟩ [] 9 227 [(pn r0 r1)]
 (.ite (.nt r9)
 (.ret (pi 2))
 (.chk (.slok r0 (pi 0) r1)
 (.chk (az r0 r1)
 (.call ⟨[],[]⟩ [] 18 228 [(.slc r0 (pi 0) r1),(pn r0 r1)]
 (.ite cV
 (.ret (pi 5))
 (.ret (pi 0)))))))))
def aoD (b:Nat→PC):PT×List (Shp×PT):=(TQ,[])
theorem acB:Fb.map told=some (aoD (aw Fb)):=by kernel_rfl
theorem ayX:tree Je=TQ:=aB acB
theorem akg:Fb=some Je:=aA acB
end Rm
