/-
  The functions of this seat, compiled (1).
-/
import Derived.Test.YtepfoekldooaeaaGreatDoorKAK
import Derived.KernelRfl
set_option linter.unusedVariables false
set_option maxRecDepth 100000
namespace Rm
open Go Go.Proofs Cx
noncomputable def At:Option PC:=aw {ctx with fr:=[12,13,15],nh:=[]} Tryz.f10 ((aa ae 10).getD default) [6,8,14,77838,46,16,17]
noncomputable def Js:PC:=av At
noncomputable def No:Nat→PC:=bx At
def avM (b:Nat→PC):PC:=.block 0 [15,26,27,28,29,30] [14,77838] (.loop [15] [14,77838] (b 0))
def LL (b:Nat→PC):PT:=
 (.ite (aq cm (.llen (pc o8 18)))
 (.chk (aL (pi 64) (pi 0))
 (.chk (aY (.ai .rem .i64 cm (pi 64)) (pi 0))
 (.ite (ah (.ai .and .u64 (.ai .shr .u64 r5 (.ai .rem .i64 cm (pi 64))) Da) lF)
 (.chk (aD (pc o8 18) cm)
 (.chk (bz (.llen (.app (.o 77838) (.lst [(pn (pc o8 18) cm)]))) cO)
 (.next ⟨[(15,(aH cm (pi 1)))],[(14,(.setc bH 18 pN)),(77838,(.app (.o 77838) (.lst [(pn (pc o8 18) cm)])))]⟩)))
 (.next ⟨[(15,(aH cm (pi 1)))],[]⟩))))
 (.exit 0 ⟨[(26,cm),(27,pN),(28,(pc o8 18)),(29,(.llen (pc o8 18))),(30,(aq cm (.llen (pc o8 18))))],[]⟩))
def Ug (b:Nat→PC):PT:=
 (.call ⟨[],[(8,(.mk [r2])),(6,(.mk [r0]))]⟩ [] 18 37 []
 (.call ⟨[(13,cT)],[]⟩ [] 21 38 [(ao 8 o6),(ao 19 o8)]
 (.ite (.nt jU)
 (.ret cB)
 (.brk ⟨[(15,(pi 0))],[(77838,pL),(14,(.setc (.setc jt 0 (ao 19 o8)) 18 pL))]⟩
(avM b)
 (.call ⟨[],[]⟩ [] 54 39 [(ao 8 o6),r1,(.mk [(pc bH 0),(pc bH 1),(pc bH 2),(pc bH 3),(pc bH 4),(pc bH 5),(pc bH 6),(pc bH 7),(pc bH 8),(pc bH 9),(pc bH 10),(pc bH 11),(pc bH 12),(pc bH 13),(pc bH 14),(pc bH 15),(pc bH 16),(pc bH 17),(.o 77838)]),r3,r4]
 (.call ⟨[],[(16,(.setc z7 0 qA))]⟩ [] 60 39 [(ao 8 o6),r1,(ao 19 o8),r3,r4]
 (.ret (.pick (.pick (.pick (.pick (.pick (.pick (.pick (.pick cB (bz (pc fS 0) (pc wq 0)) pF) (bz (pc fS 1) (pc wq 1)) pF) (ah (pc fS 2) (pc wq 2)) pF) (bz (pc fS 3) (pc wq 3)) pF) (bz (pc fS 5) (pc wq 5)) pF) (ah (pc fS 4) (pi 0)) pF) (ah (pc wq 4) (pi 0)) pF) (ah (pc fS 6) (pc wq 6)) pF))))))))
def ap1 (b:Nat→PC):PT×List (Shp×PT):=(Ug b,[(.lp 0 [15,26,27,28,29,30] [14,77838] [15] [14,77838],LL b)])
theorem Q8:At.map told=some (ap1 (au At)):=by kernel_rfl
theorem aAy:tree Js=Ug No:=ay Q8
theorem afI:round 0 [15,26,27,28,29,30] [14,77838] [15] [14,77838] (No 0)=LL No:=bt Q8 0 fun _=>rfl
theorem alD:At=some Js:=ax Q8
noncomputable def FD:Option PC:=aw {ctx with fr:=[0,4,6,7,8],nh:=[]} Tryz.f37 ((aa ae 37).getD default) [1,2,3]
noncomputable def Jw:PC:=av FD
def Uk:PT:=
 (.call ⟨[],[]⟩ [] 10 86 [(pi 20),(pi 25)]
 (.call ⟨[],[(2,(.setc jt 0 (.tget cP 1))),(1,(.setc Lp 0 (.tget cP 0)))]⟩ [] 15 87 [(ao 8 (.setc Lp 0 (.tget cP 0))),(pi 1),(pi 0),(pi 50)]
 (.call ⟨[(4,(.tget cm 1))],[(3,(.setc z2 0 (.tget cm 0)))]⟩ [] 20 87 [(ao 8 o1),(pi 0),(pi 0),(pi 50)]
 (.call ⟨[(6,(.tget dG 1))],[]⟩ [] 24 88 [(pi 20),(pi 25),(pi 100),(.mk [(pi 1000),(pi 0),(pi 0),(pi 0),(pi 0),(pi 1000),(pi 0)])]
 (.call ⟨[(25,qw)],[]⟩ [(25,true)] 27 88 [(pi 20),(pi 25),(pi 101),(.mk [(pi 1000),(pi 0),(pi 5),(pi 0),(pi 0),(pi 1005),(pi 0)])]
 (.call ⟨[(29,(.pick iL eG pF))],[]⟩ [(29,true)] 31 88 [(pi 20),(pi 25),(pi 106),(.mk [(pi 1000),(pi 1),(pi 5),(pi 0),(pi 0),(pi 1006),(pi 0)])]
 (.call ⟨[(7,(.pick qx oX pF))],[]⟩ [] 34 88 [(pi 20),(pi 25),(pi 130),(.mk [(pi 1000),(pi 5),(pi 5),(pi 0),(pi 0),(pi 1010),(pi 0)])]
 (.call ⟨[(35,Sb)],[]⟩ [(35,true)] 37 88 [(pi 25),(pi 20),(pi 130),(.mk [(pi 1000),(pi 5),(pi 5),(pi 200),(pi 0),(pi 1210),(pi 0)])]
 (.call ⟨[(55,(.pick (.pick (.pick (.pick r7 (.pick nN kQ pF) pF) r4 pF) (.nt r6) pF) (.an (ah (pc (.mk [(pc o3 0),(pc o3 1)]) 0) (pi 20)) (.an (ah (pc (.mk [(pc o3 0),(pc o3 1)]) 1) (pi 1)) pT)) pF))],[]⟩ [(55,true)] 58 39 [(ao 8 o1),(pi 0),(ao 19 o2),(pi 1),(pi 130)]
 (.ret (.pick tU (.an (ah (pc rT 0) (pi 0)) (.an (ah (pc rT 1) (pi 0)) (.an (ah (pc rT 2) (pi 0)) (.an (ah (pc rT 3) (pi 0)) (.an (ah (pc rT 4) (pi 0)) (.an (ah (pc rT 5) (pi 0)) (.an (ah (pc rT 6) (pi 0)) pT))))))) pF)))))))))))
def ap5 (b:Nat→PC):PT×List (Shp×PT):=(Uk,[])
theorem adG:FD.map told=some (ap5 (au FD)):=by kernel_rfl
theorem aAC:tree Jw=Uk:=ay adG
theorem alH:FD=some Jw:=ax adG
noncomputable def FB:Option PC:=aw {ctx with fr:=[],nh:=[]} Tryz.f86 ((aa ae 86).getD default) [4,5,6,20486,24582,28678,32774,7,65543,69639,73735,77831]
noncomputable def Ju:PC:=av FB
def Ui:PT:=
 (.ret (.tup [(ao 8 (.setc Lp 0 (.mk [(pc Lx 0),(pc Lx 1),(pc Lx 2),(pc Lx 3),(.lst [(.mk [(.con (.v (.string ⟨#[103,101,110,101,118,97]⟩))),pF,pL,(.lst [(.mk [(pi 17),(.mk [(pi 1),(pi 1),pL])])])])]),pL,(.lst [(.mk [(pi 0),(pi 1),(pi 1),r0,(pi 0)]),(.mk [(pi 0),(pi 1),(pi 1),r1,(pi 120)])]),pL]))),(ao 19 (.setc jt 0 (.mk [(pc kN 0),(pc kN 1),(pc kN 2),(pc kN 3),(pc kN 4),(pc kN 5),(pc kN 6),(pc kN 7),(pc kN 8),(pc kN 9),(pc kN 10),(pc kN 11),(pc kN 12),(pc kN 13),(pc kN 14),(.lst [(.mk [(pi 0),(pi 0),(pi 0),(pi (-1)),(pi (-1)),(pi 0),(pi 10),(pi 0),(pi 0)])]),pL,(.lst [(.mk [(pi 4),(pi 1),(pi 1),(pi 0),(pi (-1)),(pi 5),(pi 101),(pi 0),(pi 0)])]),pL])))]))
def ap3 (b:Nat→PC):PT×List (Shp×PT):=(Ui,[])
theorem adE:FB.map told=some (ap3 (au FB)):=by kernel_rfl
theorem aAA:tree Ju=Ui:=ay adE
theorem alF:FB=some Ju:=ax adE
noncomputable def EZ:Option PC:=aw {ctx with fr:=[9,10,11,12,13,15],nh:=[]} Tryz.f87 ((aa ae 87).getD default) [4,8,14]
noncomputable def IM:PC:=av EZ
def TD:PT:=
 (.call ⟨[(11,(pi 0)),(10,(pi 0))],[(8,z2),(4,(.mk [r0]))]⟩ [] 21 139 [(pc (.mk [r0]) 6),r1,r2,r3]
 (.iteS ⟨[(12,jU)],[]⟩ (aY jU (pi 0)) [10,11] []
 (.chk (aD (pc o4 6) cn)
 (.next ⟨[(11,(pc (pn (pc o4 6) cn) 3)),(10,(pc (pn (pc o4 6) cn) 2))],[]⟩))
 (.call ⟨[],[]⟩ [] 41 139 [(pc o4 6),r2,r1,r3]
 (.ite (aY lI (pi 0))
 (.chk (aD (pc o4 6) lI)
 (.next ⟨[(10,(pc (pn (pc o4 6) lI) 3)),(11,(pc (pn (pc o4 6) lI) 2))],[]⟩))
 (.next ⟨[],[]⟩)))
 (.call ⟨[],[]⟩ [] 59 140 [cP,bp]
 (.ret (.tup [(.mk [(pc aeX 0),(pc aeX 1)]),(ah (.tget LD 1) (pi 0))])))))
def apj (b:Nat→PC):PT×List (Shp×PT):=(TD,[])
theorem ac3:EZ.map told=some (apj (au EZ)):=by kernel_rfl
theorem azU:tree IM=TD:=ay ac3
theorem akU:EZ=some IM:=ax ac3
noncomputable def Al:Option PC:=aw {ctx with fr:=[8,9,10],nh:=[]} Tryz.f139 ((aa ae 139).getD default) [11]
noncomputable def IS:PC:=av Al
noncomputable def Ng:Nat→PC:=bx Al
def avF (b:Nat→PC):PC:=.block 0 [9,14,15] [] (.loop [9,14] [] (b 0))
def LJ (b:Nat→PC):PT:=
 (.ite mR
 (.chk (aD cn dc)
 (.chk (.nt (.an (.an (.nt (aq r9 (pi 0))) (.an afb pT)) (.nt (aD r0 r9))))
 (.next ⟨[(9,(.pick (.pick afb (.pick (aq r9 (pi 0)) pT (bj (pc (.setc z5 0 kO) 4) (pc (pn r0 r9) 4))) pF) dc r9)),(14,y2)],[]⟩)))
 (.exit 0 ⟨[(15,mR)],[]⟩))
def TH (b:Nat→PC):PT:=
 (.brk ⟨[(14,(pi 0)),(13,(.llen r0)),(12,r0),(9,(pi (-1)))],[]⟩
(avF b)
 (.ret r9))
def apn (b:Nat→PC):PT×List (Shp×PT):=(TH b,[(.lp 0 [9,14,15] [] [9,14] [],LJ b)])
theorem QY:Al.map told=some (apn (au Al)):=by kernel_rfl
theorem azY:tree IS=TH Ng:=ay QY
theorem afG:round 0 [9,14,15] [] [9,14] [] (Ng 0)=LJ Ng:=bt QY 0 fun _=>rfl
theorem akY:Al=some IS:=ax QY
noncomputable def FW:Option PC:=aw {ctx with fr:=[5,6,7,8],nh:=[]} Tryz.f140 ((aa ae 140).getD default) [4]
noncomputable def JW:PC:=av FW
def MF:PT:=
 (.ite (ah r1 (pi 0))
 (.ret (.tup [(.mk [(pc LA 0),(pc LA 1)]),(pi 1)]))
 (.call ⟨[],[(4,z2)]⟩ [] 13 181 [r0]
 (.call ⟨[],[]⟩ [] 15 181 [r1]
 (.call ⟨[(7,cm),(6,cB)],[]⟩ [] 18 182 [cB,cm]
 (.chk (aL cT (pi 0))
 (.call ⟨[],[]⟩ [] 32 183 [(.cb .neq (aq r0 (pi 0)) (aq r1 (pi 0))),(.mk [lF,(.ai .quo .u64 r6 cT)]),(.mk [lF,(.ai .quo .u64 r7 cT)])]
 (.ret (.tup [(.mk [(pc (.setc o4 0 (.tget y9 0)) 0),(pc (.setc o4 0 (.tget y9 0)) 1)]),(.tget y9 1)]))))))))
def aqv (b:Nat→PC):PT×List (Shp×PT):=(MF,[])
theorem adX:FW.map told=some (aqv (au FW)):=by kernel_rfl
theorem agK:tree JW=MF:=ay adX
theorem al9:FW=some JW:=ax adX
noncomputable def FX:Option PC:=aw {ctx with fr:=[2],nh:=[]} Tryz.f181 ((aa ae 181).getD default) []
noncomputable def JX:PC:=av FX
def UI:PT:=
 (.ite (aq r0 (pi 0))
 (.ret (.ai .sub .u64 lF (.conv .u64 r0)))
 (.ret (.conv .u64 r0)))
def aqw (b:Nat→PC):PT×List (Shp×PT):=(UI,[])
theorem adY:FX.map told=some (aqw (au FX)):=by kernel_rfl
theorem aA1:tree JX=UI:=ay adY
theorem ama:FX=some JX:=ax adY
noncomputable def AE:Option PC:=aw {ctx with fr:=[4,0,1],nh:=[]} Tryz.f182 ((aa ae 182).getD default) []
noncomputable def JY:PC:=av AE
noncomputable def Nw:Nat→PC:=bx AE
def avY (b:Nat→PC):PC:=.block 0 [0,1,5,6] [] (.loop [0,1] [] (b 0))
def LR (b:Nat→PC):PT:=
 (.ite (aL r1 lF)
 (.chk (aL r1 (pi 0))
 (.next ⟨[(0,r1),(1,(.ai .rem .u64 r0 r1))],[]⟩))
 (.exit 0 ⟨[(5,r1),(6,(aL r1 lF))],[]⟩))
def UJ (b:Nat→PC):PT:=
 (.brk ⟨[],[]⟩
(avY b)
 (.ret r0))
def aqx (b:Nat→PC):PT×List (Shp×PT):=(UJ b,[(.lp 0 [0,1,5,6] [] [0,1] [],LR b)])
theorem Rg:AE.map told=some (aqx (au AE)):=by kernel_rfl
theorem aA2:tree JY=UJ Nw:=ay Rg
theorem afN:round 0 [0,1,5,6] [] [0,1] [] (Nw 0)=LR Nw:=bt Rg 0 fun _=>rfl
theorem amb:AE=some JY:=ax Rg
noncomputable def FY:Option PC:=aw {ctx with fr:=[7,8],nh:=[]} Tryz.f183 ((aa ae 183).getD default) [4,5,6]
noncomputable def JZ:PC:=av FY
def UK:PT:=
 (.ite (.pick (.pick (.pick (bj (pc (.mk [r1]) 0) lF) pT (bj (pc (.mk [r2]) 0) lF)) pT (bj (pc (.mk [r1]) 1) (.con (.v (.int .u64 1152921504606846976))))) pT (bj (pc (.mk [r2]) 1) (.con (.v (.int .u64 1152921504606846976)))))
 (.ret (.tup [(.mk [(pc LA 0),(pc LA 1)]),(pi 3)]))
 (.ret (.tup [(.mk [(pc ae8 0),(pc ae8 1)]),(pi 0)])))
def aqy (b:Nat→PC):PT×List (Shp×PT):=(UK,[])
theorem adZ:FY.map told=some (aqy (au FY)):=by kernel_rfl
theorem aA3:tree JZ=UK:=ay adZ
theorem amc:FY=some JZ:=ax adZ
noncomputable def FE:Option PC:=aw {ctx with fr:=[8],nh:=[]} Tryz.f88 ((aa ae 88).getD default) [7,9,10]
noncomputable def Jx:PC:=av FE
def Ul:PT:=
 (.call ⟨[],[(7,(.mk [r3]))]⟩ [] 14 86 [r0,r1]
 (.call ⟨[],[]⟩ [] 20 39 [(ao 8 (.setc Lp 0 (.tget dc 0))),(pi 0),(ao 19 (.setc jt 0 (.tget dc 1))),(pi 0),r2]
 (.ret (.an (ah (pc dG 0) (pc (ao 7 o7) 0)) (.an (ah (pc dG 1) (pc (ao 7 o7) 1)) (.an (ah (pc dG 2) (pc (ao 7 o7) 2)) (.an (ah (pc dG 3) (pc (ao 7 o7) 3)) (.an (ah (pc dG 4) (pc (ao 7 o7) 4)) (.an (ah (pc dG 5) (pc (ao 7 o7) 5)) (.an (ah (pc dG 6) (pc (ao 7 o7) 6)) pT))))))))))
def ap6 (b:Nat→PC):PT×List (Shp×PT):=(Ul,[])
theorem adH:FE.map told=some (ap6 (au FE)):=by kernel_rfl
theorem aAD:tree Jx=Ul:=ay adH
theorem alI:FE=some Jx:=ax adH
noncomputable def Ak:Option PC:=aw {ctx with fr:=[13,15,16,18],nh:=[]} Tryz.f39 ((aa ae 39).getD default) [5,7,10,11,12,14,17,20]
noncomputable def IL:PC:=av Ak
noncomputable def ES:Nat→PC:=bx Ak
def aao (b:Nat→PC):PC:=.block 0 [116,117] [14] (.loop [116] [14] (b 0))
def LI (b:Nat→PC):PT:=
 (.ite (aq wD afo)
 (.chk (aD LB wD)
 (.next ⟨[(116,(aH wD (pi 1)))],[(14,(.pick (.pick (ah (pc (.setc z9 0 (pn LB wD)) 0) (pi 4)) pT (ah (pc (.setc z9 0 (pn LB wD)) 0) (pi 5))) (.setc bH 2 (.mn lG (aH (pc bH 2) (pc (.setc z9 0 (pn LB wD)) 5)))) bH))]⟩))
 (.exit 0 ⟨[(117,(aq wD afo))],[]⟩))
def TC (b:Nat→PC):PT:=
 (.call ⟨[],[(10,z7),(7,(.mk [r2])),(5,(.mk [r0]))]⟩ [] 23 20 [(ao 19 (.mk [r2])),r4]
 (.call ⟨[],[(11,(.setc jt 0 fF))]⟩ [] 30 40 [(ao 8 o5),r1,(ao 19 o7),r3,r4]
 (.ite (.pick (.pick (.nt (.tget mS 1)) pT (aq r3 (pi 0))) pT (aY r3 (.llen (pc qo 15))))
 (.ret (ao 7 (.setc bQ 0 (.mk [(pi 0),(pi 0),(pi 0),(pi 0),(pi 0),(pi 0),(pi 0)]))))
 (.call ⟨[],[(14,(.setc z7 0 (.mk [(pc (.setc Df 0 (.tget mS 0)) 5),(pi 0),(pi 0),(pi 0),(pi 0),(pi 0),(pc o7 4)])))]⟩ [] 57 32 [(ao 8 o5),r1,(ao 19 o7),r4]
 (.iteS ⟨[(16,(.mn r4 (pi 100000))),(15,tV)],[(17,(.setc RV 0 (.mk [(ao 19 o7),r3,r3,(pi (-1)),tV,r4])))]⟩ (.pick (aL tV (pi (-1))) (bz tV (.mn r4 (pi 100000))) pF) [] [14]
 (.iteS ⟨[(18,(pc o7 12))],[]⟩ (ah (pc o7 12) (pi 0)) [18] []
 (.call ⟨[],[]⟩ [] 81 34 [(ao 8 o5),r1,(pi 16),(ao 24 o17)]
 (.call ⟨[],[]⟩ [] 82 56 [tW]
 (.next ⟨[(18,(.mn (pi 1000) (.mx (pi 0) jV)))],[]⟩)))
 (.next ⟨[],[]⟩)
 (.call ⟨[],[]⟩ [] 90 91 [(pc bH 0),cT,cm,cQ]
 (.call ⟨[],[(14,(.setc bH 1 r90))]⟩ [] 95 34 [(ao 8 o5),r1,(pi 17),(ao 24 o17)]
 (.call ⟨[],[]⟩ [] 96 33 [r95]
 (.iteS ⟨[],[]⟩ (ah r96 (pi 1)) [] [14]
 (.chk (aD (pc qo 15) r3)
 (.call ⟨[],[]⟩ [] 111 92 [(ao 8 o5),(ao 15 o7),(pc (pn (pc qo 15) r3) 2),(pc bH 0),cm,cQ]
 (.next ⟨[],[(14,(.setc bH 3 ayn))]⟩)))
 (.next ⟨[],[]⟩)
 (.next ⟨[],[]⟩))))))
 (.next ⟨[],[]⟩)
 (.brk ⟨[(116,(pi 0)),(115,(.llen (pc qo 17))),(114,(pc qo 17))],[]⟩
(aao b)
 (.ret (ao 7 (.setc bQ 0 (ao 7 (.setc bH 5 (.mn lG (aH (aH (aH (pc bH 0) (pc bH 1)) (pc bH 2)) (pc bH 3))))))))))))))
def api (b:Nat→PC):PT×List (Shp×PT):=(TC b,[(.lp 0 [116,117] [14] [116] [14],LI b)])
theorem QX:Ak.map told=some (api (au Ak)):=by kernel_rfl
theorem azT:tree IL=TC ES:=ay QX
theorem afF:round 0 [116,117] [14] [116] [14] (ES 0)=LI ES:=bt QX 0 fun _=>rfl
theorem akT:Ak=some IL:=ax QX
noncomputable def AP:Option PC:=aw {ctx with fr:=[],nh:=[]} Tryz.f20 ((aa ae 20).getD default) [2,4,5,65541,69637,73733,77829,7,31,9,49,11,13]
noncomputable def Kh:PC:=av AP
noncomputable def qO:Nat→PC:=bx AP
def awe (b:Nat→PC):PC:=.block 0 [20,21] [65541,5] (.loop [20] [65541,5] (b 0))
def awf (b:Nat→PC):PC:=.block 2 [38,39] [73733,5] (.loop [38] [73733,5] (b 1))
def awg (b:Nat→PC):PC:=.block 4 [56,57] [5,69637] (.loop [56] [5,69637] (b 2))
def awh (b:Nat→PC):PC:=.block 6 [76,77] [5,77829] (.loop [76] [5,77829] (b 3))
def DM (b:Nat→PC):PT:=
 (.ite (aq dG iK)
 (.chk (aD cT dG)
 (.ite (bj (pc (.setc z9 0 (pn cT dG)) 6) r1)
 (.exit 0 ⟨[(21,(aq dG iK))],[]⟩)
 (.chk (bz (.llen (.app (.o 65541) (.lst [(ao 9 (.setc z9 0 (pn cT dG)))]))) cO)
 (.next ⟨[(20,(aH dG (pi 1)))],[(65541,(.app (.o 65541) (.lst [(ao 9 (.setc z9 0 (pn cT dG)))]))),(5,(.setc o5 15 pN))]⟩))))
 (.exit 0 ⟨[(21,(aq dG iK))],[]⟩))
def DN (b:Nat→PC):PT:=
 (.ite (aq kR kQ)
 (.chk (aD gW kR)
 (.ite (bj (pc (.setc z9 0 (pn gW kR)) 6) r1)
 (.exit 2 ⟨[(39,(aq kR kQ))],[]⟩)
 (.chk (bz (.llen (.app (.o 73733) (.lst [(ao 9 (.setc z9 0 (pn gW kR)))]))) cO)
 (.next ⟨[(38,(aH kR (pi 1)))],[(73733,(.app (.o 73733) (.lst [(ao 9 (.setc z9 0 (pn gW kR)))]))),(5,(.setc o5 17 pN))]⟩))))
 (.exit 2 ⟨[(39,(aq kR kQ))],[]⟩))
def DO (b:Nat→PC):PT:=
 (.ite (aq oZ tU)
 (.chk (aD qA oZ)
 (.ite (bz (pc (.setc z2 0 (pn qA oZ)) 0) (.llen (.o 65541)))
 (.chk (bz (.llen afj) cO)
 (.next ⟨[(56,(aH oZ (pi 1)))],[(5,(.setc o5 16 pN)),(69637,afj)]⟩))
 (.next ⟨[(56,(aH oZ (pi 1)))],[]⟩)))
 (.exit 4 ⟨[(57,(aq oZ tU))],[]⟩))
def DP (b:Nat→PC):PT:=
 (.ite (aq rU r75)
 (.blockS ⟨[],[]⟩ 7 [13,78,79,80,81,82,83,84,85] [13,77829,5]
 (.chk (aD Se rU)
 (.call ⟨[],[(13,(.setc z3 0 (pn Se rU)))]⟩ [] 85 54 [(pc (.setc z3 0 (pn Se rU)) 1),(.llen (.o 65541))]
 (.ite Dp
 (.chk (bz (.llen ae4) cO)
 (.next ⟨[],[(77829,ae4),(5,(.setc o5 18 pN))]⟩))
 (.next ⟨[],[]⟩))))
 (.next ⟨[(76,(aH rU (pi 1)))],[]⟩))
 (.exit 6 ⟨[(77,(aq rU r75))],[]⟩))
def U3 (b:Nat→PC):PT:=
 (.brk ⟨[(20,(pi 0)),(19,(.llen nK)),(18,nK)],[(77829,pL),(73733,pL),(69637,pL),(65541,pL),(5,(.setc jt 0 (.mk [(ao 15 (.mk [r0])),pL,pL,pL,pL]))),(4,jt),(2,(.mk [r0]))]⟩
(awe b)
 (.brk ⟨[(38,(pi 0)),(37,(.llen (pc o2 17))),(36,(pc o2 17))],[]⟩
(awf b)
 (.brk ⟨[(56,(pi 0)),(55,(.llen (pc o2 16))),(54,(pc o2 16))],[]⟩
(awg b)
 (.brk ⟨[(76,(pi 0)),(75,(.llen (pc o2 18))),(74,(pc o2 18))],[]⟩
(awh b)
 (.ret (ao 19 (.setc o4 0 (.mk [(pc o5 0),(pc o5 1),(pc o5 2),(pc o5 3),(pc o5 4),(pc o5 5),(pc o5 6),(pc o5 7),(pc o5 8),(pc o5 9),(pc o5 10),(pc o5 11),(pc o5 12),(pc o5 13),(pc o5 14),(.o 65541),(.o 69637),(.o 73733),(.o 77829)]))))))))
def aqQ (b:Nat→PC):PT×List (Shp×PT):=(U3 b,[(.lp 0 [20,21] [65541,5] [20] [65541,5],DM b),(.lp 2 [38,39] [73733,5] [38] [73733,5],DN b),(.lp 4 [56,57] [5,69637] [56] [5,69637],DO b),(.lp 6 [76,77] [5,77829] [76] [5,77829],DP b)])
theorem yD:AP.map told=some (aqQ (au AP)):=by kernel_rfl
theorem aBl:tree Kh=U3 qO:=ay yD
theorem SI:round 0 [20,21] [65541,5] [20] [65541,5] (qO 0)=DM qO:=bt yD 0 fun _=>rfl
theorem SJ:round 2 [38,39] [73733,5] [38] [73733,5] (qO 1)=DN qO:=bt yD 1 fun _=>rfl
theorem SK:round 4 [56,57] [5,69637] [56] [5,69637] (qO 2)=DO qO:=bt yD 2 fun _=>rfl
theorem SL:round 6 [76,77] [5,77829] [76] [5,77829] (qO 3)=DP qO:=bt yD 3 fun _=>rfl
theorem amu:AP=some Kh:=ax yD
noncomputable def F8:Option PC:=aw {ctx with fr:=[4],nh:=[]} Tryz.f54 ((aa ae 54).getD default) []
noncomputable def Ko:PC:=av F8
def U8:PT:=
 (.ret RR)
def aqW (b:Nat→PC):PT×List (Shp×PT):=(U8,[])
theorem ad9:F8.map told=some (aqW (au F8)):=by kernel_rfl
theorem aBr:tree Ko=U8:=ay ad9
theorem amA:F8=some Ko:=ax ad9
noncomputable def Fc:Option PC:=aw {ctx with fr:=[11],nh:=[]} Tryz.f40 ((aa ae 40).getD default) [5,7,10,12]
noncomputable def I0:PC:=av Fc
def TQ:PT:=
 (.call ⟨[],[(10,Df)]⟩ [] 17 84 [ko,r1,(ao 19 (.mk [r2])),r4]
 (.ite (.pick (aq r3 (pi 0)) pT (aY r3 (.llen (pc (.setc RU 0 kP) 25))))
 (.ret (.tup [(ao 7 (.setc bQ 0 (.mk [(pi 0),(pi 0),(pi 0),(pi 0),(pi 0),(pi 0),pF]))),pF]))
 (.call ⟨[],[]⟩ [] 31 85 [(ao 31 (.setc RU 0 kP)),r3]
 (.ret (.tup [(ao 7 (.setc bQ 0 oX)),pT])))))
def apy (b:Nat→PC):PT×List (Shp×PT):=(TQ,[])
theorem adi:Fc.map told=some (apy (au Fc)):=by kernel_rfl
theorem az8:tree I0=TQ:=ay adi
theorem ak8:Fc=some I0:=ax adi
noncomputable def Fe:Option PC:=aw {ctx with fr:=[],nh:=[]} Tryz.f84 ((aa ae 84).getD default) [4,6,8,9]
noncomputable def I2:PC:=av Fe
def TS:PT:=
 (.call ⟨[],[(8,RU),(4,(.mk [r0]))]⟩ [] 12 20 [(ao 19 (.mk [r2])),r3]
 (.call ⟨[(16,(ao 19 (.setc jt 0 cn))),(15,r3),(14,r1),(13,(ao 8 o4))],[(9,(.setc jt 0 cn))]⟩ [] 21 57 [(ao 8 o4),r1,(pi 0),(ao 19 (.setc jt 0 cn)),r3]
 (.call ⟨[],[]⟩ [] 22 33 [jU]
 (.call ⟨[],[]⟩ [] 27 32 [(ao 8 o4),r1,(ao 19 o9),r3]
 (.ret (ao 31 (.setc o8 0 (.mk [cB,dc,cm,cQ,y8,eG]))))))))
def apA (b:Nat→PC):PT×List (Shp×PT):=(TS,[])
theorem adj:Fe.map told=some (apA (au Fe)):=by kernel_rfl
theorem aAa:tree I2=TS:=ay adj
theorem ala:Fe=some I2:=ax adj
noncomputable def E4:Option PC:=aw {ctx with fr:=[],nh:=[]} Tryz.f57 ((aa ae 57).getD default) [5,8,77832,10]
noncomputable def IU:PC:=av E4
def TJ:PT:=
 (.call ⟨[],[(10,y6)]⟩ [] 18 34 [ko,r1,r2,(.mk [(.mk [(pc ju 0),(pc ju 1),(pc ju 2),(pc ju 3),(pc ju 4),(pc ju 5),(pc ju 6),(pc ju 7),(pc ju 8),(pc ju 9),(pc ju 10),(pc ju 11),(pc ju 12),(pc ju 13),(pc ju 14),(pc ju 15),(pc ju 16),(pc ju 17),pL]),(pi 0),(pi (-1)),(pi (-1)),(pi (-1)),r4])]
 (.ret (ao 5 (.setc bQ 0 cT))))
def apq (b:Nat→PC):PT×List (Shp×PT):=(TJ,[])
theorem ac8:E4.map told=some (apq (au E4)):=by kernel_rfl
theorem az0:tree IU=TJ:=ay ac8
theorem ak0:E4=some IU:=ax ac8
noncomputable def E3:Option PC:=aw {ctx with fr:=[10],nh:=[]} Tryz.f34 ((aa ae 34).getD default) [4,7,8,9]
noncomputable def IT:PC:=av E3
def TI:PT:=
 (.call ⟨[],[(8,y6),(4,(.mk [r0]))]⟩ [] 16 82 [ko,r1,r2,(ao 24 (.mk [r3]))]
 (.iteS ⟨[(10,(.tget cQ 1))],[(9,(.setc y6 0 (.tget cQ 0)))]⟩ (aL (pc (.setc y6 0 (.tget cQ 0)) 2) (pi (-1))) [] [9]
 (.chk (aD (pc o4 4) (pc o9 2))
 (.call ⟨[],[]⟩ [] 31 83 [(pn (pc o4 4) (pc o9 2)),r2,cP]
 (.next ⟨[],[(9,(.setc (.setc o9 0 (.tget oX 0)) 4 (.tget oX 1)))]⟩)))
 (.next ⟨[],[]⟩)
 (.ret (ao 5 (.setc o8 0 (ao 5 o9))))))
def apo (b:Nat→PC):PT×List (Shp×PT):=(TI,[])
theorem ac7:E3.map told=some (apo (au E3)):=by kernel_rfl
theorem azZ:tree IT=TI:=ay ac7
theorem akZ:E3=some IT:=ax ac7
noncomputable def E8:Option PC:=aw {ctx with fr:=[9,11,12,13,14],nh:=[]} Tryz.f82 ((aa ae 82).getD default) [4,7,8,10,16394]
noncomputable def IY:PC:=av E8
def TN:PT:=
 (.call ⟨[],[(16394,pL),(10,(.setc y6 0 (.mk [fE,(pi (-1)),pL,(pi 1)]))),(8,y6),(7,(.mk [r3])),(4,(.mk [r0]))]⟩ [] 19 130 [ko,(ao 24 (.mk [r3]))]
 (.ite (ah (.llen (.tget iK 1)) (pi 0))
 (.ret (.tup [R0,pL]))
 (.call ⟨[(11,(.tget iK 1))],[(7,(.setc o7 0 (.tget iK 0)))]⟩ [] 28 131 [r2]
 (.ite (.nt (.tget tR 1))
 (.ret (.tup [R0,pL]))
 (.call ⟨[],[]⟩ [] 37 132 [(ao 8 o4),r1,(ao 24 o7)]
 (.ite (ah (.llen kQ) (pi 0))
 (.ret (.tup [R0,pL]))
 (.call ⟨[],[]⟩ [] 46 133 [(ao 8 o4),r1,r2,kQ]
 (.ite (ah (pc wx 4) (pi 0))
 (.chk (aD (pc wx 3) (bJ (.llen (pc wx 3)) (pi 1)))
 (.ret (.tup [(ao 5 (.setc o8 0 (ao 5 (.setc wx 2 (pn (pc wx 3) (bJ (.llen (pc wx 3)) (pi 1))))))),bp])))
 (.ret (.tup [(ao 5 (.setc o8 0 (ao 5 wx))),bp]))))))))))
def apu (b:Nat→PC):PT×List (Shp×PT):=(TN,[])
theorem ade:E8.map told=some (apu (au E8)):=by kernel_rfl
theorem az4:tree IY=TN:=ay ade
theorem ak4:E8=some IY:=ax ade
noncomputable def E9:Option PC:=aw {ctx with fr:=[5],nh:=[]} Tryz.f130 ((aa ae 130).getD default) [2,3,4]
noncomputable def IZ:PC:=av E9
def TO:PT:=
 (.call ⟨[],[(4,RV),(3,(.mk [r1])),(2,(.mk [r0]))]⟩ [] 10 20 [(ao 19 (.mk [r1])),(pc (.mk [r1]) 23)]
 (.call ⟨[(12,(ao 24 (.setc o3 0 cP)))],[]⟩ [] 15 173 [(ao 8 o2),(ao 24 (.setc o3 0 cP))]
 (.ret (.tup [(ao 24 (.setc o4 0 cn)),cm]))))
def apv (b:Nat→PC):PT×List (Shp×PT):=(TO,[])
theorem adf:E9.map told=some (apv (au E9)):=by kernel_rfl
theorem az5:tree IZ=TO:=ay adf
theorem ak5:E9=some IZ:=ax adf
noncomputable def AS:Option PC:=aw {ctx with fr:=[4,7,9,11,12,13,14,15,16],nh:=[]} Tryz.f173 ((aa ae 173).getD default) [2,3,5,6,8,10,90,139]
noncomputable def Kk:PC:=av AS
noncomputable def Ac:Nat→PC:=bx AS
def awC (b:Nat→PC):PC:=.meach 90 [94,95,11,12] [0,1,0,1] [10] (b 0)
def awD (b:Nat→PC):PC:=.meach 139 [143,144,15,16] [0,1,0,1] [10] (b 1)
def SO (b:Nat→PC):PT:=
 (.chk (aD bQ bp)
 (.next ⟨[],[(10,(.setn bQ bp 0 (.mk [pT,cn])))]⟩))
def SP (b:Nat→PC):PT:=
 (.blockS ⟨[],[]⟩ 3 [145,146,147,148,149] [10]
 (.call ⟨[(146,cm)],[]⟩ [] 148 199 [cQ]
 (.chk (aD bQ (.r 146))
 (.next ⟨[],[(10,(.setn bQ (.r 146) 0 (.r 148)))]⟩)))
 (.next ⟨[],[]⟩))
def um (b:Nat→PC):PT:=
 (.call ⟨[(7,(.mx (pc (.mk [r1]) 20) (pi 0)))],[(6,(.setc MS 0 (ao 15 (.mk [r1])))),(5,(.setc jt 0 (ao 19 (.mk [r1])))),(3,(.mk [r1])),(2,(.mk [r0]))]⟩ [] 30 54 [(pc (.mk [r1]) 19),(.llen (pc (.setc jt 0 (ao 19 (.mk [r1]))) 15))]
 (.call ⟨[(48,(aL (pc o3 22) (pi (-1)))),(44,(.pick (.pick (.nt mS) pT (aq (pc o3 20) (pi (-1)))) pT (aY r7 (.llen (pc o5 15)))))],[]⟩ [(48,true),(44,false)] 51 54 [(pc o3 22),(pi 100001)]
 (.ite (.pick wF pT (.pick jv (.nt oY) pF))
 (.ret pL)
 (.chk (aD (pc o5 15) (pc o3 19))
 (.call ⟨[],[(8,(.setc z9 0 (pn (pc o5 15) (pc o3 19))))]⟩ [] 63 54 [(pc (.setc z9 0 (pn (pc o5 15) (pc o3 19))) 6),(pi 100001)]
 (.ite (.nt LF)
 (.ret pL)
 (.chk (.an (aY (pi 20) (pi 0)) (bz (pi 20) cO))
 (.chk (ah (pi 20) (pi 20))
 (.chk (aq (.mlen (.con (.map []))) cO)
 (.chk (aq (.mlen (.put (.con (.map [])) (pi 0) (pc o6 3))) cO)
 (.chk (aq (.mlen (.put (.put (.con (.map [])) (pi 0) (pc o6 3)) (pi 1) (pc o6 14))) cO)
 (.chk (aq (.mlen RW) cO)
 (.chk (aq (.mlen (.put RW (pi 3) (pc o6 12))) cO)
 (.chk (aq (.mlen R4) cO)
 (.chk (aq (.mlen (.put R4 (pi 5) (pc o3 21))) cO)
 (.blockS ⟨[(10,pN),(9,ae3)],[(90,(.tup [(.lst []),(.put (.put R4 (pi 5) (pc o3 21)) (pi 6) ae3)])),(10,(.rep (pi 20) fE))]⟩ 0 [] [10]
 (.brk ⟨[],[]⟩
(awC b)
 (.exit 0 ⟨[],[]⟩))
 (.call ⟨[],[(3,(ao 24 o3))]⟩ [] 104 197 [(pc o5 16),(.clo 198 [(.ref (ao 24 o3))])]
 (.call ⟨[(13,ayl)],[]⟩ [] 108 170 [(ao 8 o2),(pc o6 9)]
 (.call ⟨[],[]⟩ [] 112 170 [(ao 8 o2),(pc o6 10)]
 (.chk (aq (.mlen (.con (.map []))) cO)
 (.chk (aq (.mlen R1) cO)
 (.chk (aq (.mlen (.put R1 (pi 8) (ah (pc o6 2) (pi (-1))))) cO)
 (.chk (aq (.mlen (.put (.put R1 (pi 8) (ah (pc o6 2) (pi (-1)))) (pi 9) (aL (.ai .and .i64 (pc o6 13) (pi 4)) (pi 0)))) cO)
 (.chk (aq (.mlen Lm) cO)
 (.chk (aq (.mlen (.put Lm (pi 11) (aL R9 Sa))) cO)
 (.chk (aq (.mlen (.put (.put Lm (pi 11) (aL R9 Sa)) (pi 12) cB)) cO)
 (.chk (aq (.mlen afe) cO)
 (.blockS ⟨[],[(139,(.tup [(.lst []),(.put afe (pi 14) (bj r9 (pi 0)))]))]⟩ 2 [] [10]
 (.brk ⟨[],[]⟩
(awD b)
 (.exit 2 ⟨[],[]⟩))
 (.call ⟨[],[]⟩ [] 154 200 [(ao 19 o5),(pi 0),(pc o3 19)]
 (.chk (aD bQ (pi 15))
 (.call ⟨[],[(10,(.setn bQ (pi 15) 0 (.r 154)))]⟩ [] 160 200 [(ao 19 o5),(pi 1),(pc o3 19)]
 (.chk (aD bQ (pi 16))
 (.call ⟨[],[(10,(.setn bQ (pi 16) 0 (.r 160)))]⟩ [] 166 200 [(ao 19 o5),(pi 2),(pc o3 19)]
 (.chk (aD bQ (pi 17))
 (.call ⟨[],[(10,(.setn bQ (pi 17) 0 (.r 166)))]⟩ [] 171 200 [(ao 19 o5),(pi 3),r7]
 (.chk (aD bQ (pi 18))
 (.call ⟨[],[(10,(.setn bQ (pi 18) 0 (.r 171)))]⟩ [] 176 200 [(ao 19 o5),(pi 4),r7]
 (.chk (aD bQ (pi 19))
 (.ret (.setn bQ (pi 19) 0 (.r 176)))))))))))))))))))))))))))))))))))))))))
def aqT (b:Nat→PC):PT×List (Shp×PT):=(um b,[(.ea [10],SO b),(.ea [10],SP b)])
theorem IA:AS.map told=some (aqT (au AS)):=by kernel_rfl
theorem aBp:tree Kk=um Ac:=ay IA
theorem ayH:po [10] (Ac 0)=SO Ac:=TB IA 0 fun _=>rfl
theorem ayI:po [10] (Ac 1)=SP Ac:=TB IA 1 fun _=>rfl
theorem amy:AS=some Kk:=ax IA
noncomputable def F6:Option PC:=aw {ctx with fr:=[3],nh:=[]} Tryz.f198 ((aa ae 198).getD default) [2]
noncomputable def Kl:PC:=av F6
def U6:PT:=
 (.ret (bz lH (pc (.deref r1) 19)))
def aqU (b:Nat→PC):PT×List (Shp×PT):=(U6,[])
theorem ad7:F6.map told=some (aqU (au F6)):=by kernel_rfl
theorem aBo:tree Kl=U6:=ay ad7
theorem amx:F6=some Kl:=ax ad7
noncomputable def F9:Option PC:=aw {ctx with fr:=[4],nh:=[]} Tryz.f197 ((aa ae 197).getD default) []
noncomputable def Kq:PC:=av F9
def Va:PT:=
 (.call ⟨[],[]⟩ [] 7 217 [r0,r1]
 (.ret (aY r7 (pi 0))))
def aqY (b:Nat→PC):PT×List (Shp×PT):=(Va,[])
theorem aea:F9.map told=some (aqY (au F9)):=by kernel_rfl
theorem aBt:tree Kq=Va:=ay aea
theorem amC:F9=some Kq:=ax aea
noncomputable def AU:Option PC:=aw {ctx with fr:=[4,5],nh:=[]} Tryz.f217 ((aa ae 217).getD default) []
noncomputable def Ku:PC:=av AU
noncomputable def NF:Nat→PC:=bx AU
def awn (b:Nat→PC):PC:=.block 0 [4,8,9] [] (.loop [4,8] [] (b 0))
def DT (b:Nat→PC):PT:=
 (.ite (aq r8 r7)
 (.blockS ⟨[],[]⟩ 1 [4,5,10,11,12,13,14,15,16] []
 (.chk (aD r0 r8)
 (.callc ⟨[(5,r8)],[]⟩ [] 16 r1 [(pn r0 r8)]
 (.ite cQ
 (.ret r5)
 (.next ⟨[],[]⟩))))
 (.next ⟨[(8,tQ)],[]⟩))
 (.exit 0 ⟨[(9,(aq r8 r7))],[]⟩))
def Ve (b:Nat→PC):PT:=
 (.brk ⟨[(8,(pi 0)),(7,(.llen r0)),(4,(pi 0))],[]⟩
(awn b)
 (.ret (pi (-1))))
def aq2 (b:Nat→PC):PT×List (Shp×PT):=(Ve b,[(.lp 0 [4,8,9] [] [4,8] [],DT b)])
theorem Ro:AU.map told=some (aq2 (au AU)):=by kernel_rfl
theorem aBx:tree Ku=Ve NF:=ay Ro
theorem SQ:round 0 [4,8,9] [] [4,8] [] (NF 0)=DT NF:=bt Ro 0 fun _=>rfl
theorem amG:AU=some Ku:=ax Ro
noncomputable def F3:Option PC:=aw {ctx with fr:=[4],nh:=[]} Tryz.f170 ((aa ae 170).getD default) [2]
noncomputable def J5:PC:=av F3
def UQ:PT:=
 (.call ⟨[],[(2,(.mk [r0]))]⟩ [] 9 146 [r1,(.llen oU)]
 (.ite (.nt r9)
 (.ret (pi (-1)))
 (.chk (aD (pc o2 1) r1)
 (.ret (pc (pn (pc o2 1) r1) 1)))))
def aqE (b:Nat→PC):PT×List (Shp×PT):=(UQ,[])
theorem ad4:F3.map told=some (aqE (au F3)):=by kernel_rfl
theorem aA9:tree J5=UQ:=ay ad4
theorem ami:F3=some J5:=ax ad4
noncomputable def F4:Option PC:=aw {ctx with fr:=[4],nh:=[]} Tryz.f146 ((aa ae 146).getD default) []
noncomputable def J9:PC:=av F4
def UU:PT:=
 (.ret RR)
def aqI (b:Nat→PC):PT×List (Shp×PT):=(UU,[])
theorem ad5:F4.map told=some (aqI (au F4)):=by kernel_rfl
theorem aBd:tree J9=UU:=ay ad5
theorem amm:F4=some J9:=ax ad5
noncomputable def F7:Option PC:=aw {ctx with fr:=[],nh:=[]} Tryz.f199 ((aa ae 199).getD default) [2]
noncomputable def Km:PC:=av F7
def U7:PT:=
 (.ite r0
 (.ret (.mk [(pc Lc 0),(pc Lc 1)]))
 (.ret (.mk [(pc Ld 0),(pc Ld 1)])))
def aqV (b:Nat→PC):PT×List (Shp×PT):=(U7,[])
theorem ad8:F7.map told=some (aqV (au F7)):=by kernel_rfl
theorem aBq:tree Km=U7:=ay ad8
theorem amz:F7=some Km:=ax ad8
noncomputable def AQ:Option PC:=aw {ctx with fr:=[],nh:=[]} Tryz.f200 ((aa ae 200).getD default) [3,6,8]
noncomputable def Ki:PC:=av AQ
noncomputable def ND:Nat→PC:=bx AQ
def awi (b:Nat→PC):PC:=.block 0 [12,13] [6] (.loop [12] [6] (b 0))
def DQ (b:Nat→PC):PT:=
 (.ite (aq cn bp)
 (.blockS ⟨[],[]⟩ 1 [8,14,15,16,17,18,19,20,25] [8,6]
 (.chk (aD cP cn)
 (.iteS ⟨[],[(8,(.setc z3 0 rP))]⟩ (.pick (ah (pc (.setc z3 0 rP) 0) r1) (ah (pc (.setc z3 0 rP) 1) r2) pF) [] [6]
 (.call ⟨[],[]⟩ [] 29 199 [(aL (pc o8 2) (pi 0))]
 (.ret (.mk [(pc (.setc o6 0 qx) 0),(pc (.setc o6 0 qx) 1)])))
 (.next ⟨[],[]⟩)
 (.next ⟨[],[]⟩)))
 (.next ⟨[(12,(aH cn (pi 1)))],[]⟩))
 (.exit 0 ⟨[(13,(aq cn bp))],[]⟩))
def U4 (b:Nat→PC):PT:=
 (.brk ⟨[(12,(pi 0)),(11,(.llen y0)),(10,y0)],[(6,fE)]⟩
(awi b)
 (.ret (.mk [(pc (.setc o6 0 wk) 0),(pc (.setc o6 0 wk) 1)])))
def aqR (b:Nat→PC):PT×List (Shp×PT):=(U4 b,[(.lp 0 [12,13] [6] [12] [6],DQ b)])
theorem Rn:AQ.map told=some (aqR (au AQ)):=by kernel_rfl
theorem aBm:tree Ki=U4 ND:=ay Rn
theorem SM:round 0 [12,13] [6] [12] [6] (ND 0)=DQ ND:=bt Rn 0 fun _=>rfl
theorem amv:AQ=some Ki:=ax Rn
noncomputable def FJ:Option PC:=aw {ctx with fr:=[2,3,4,11],nh:=[]} Tryz.f131 ((aa ae 131).getD default) []
noncomputable def JC:PC:=av FJ
def Uq:PT:=
 (.blockS ⟨[],[]⟩ 0 [2,3,4,5,6,7,10,11,12,13,14] []
 (.iteS ⟨[],[]⟩ (.pick (aq r0 (pi 0)) pT (aY r0 (pi 22))) [2,3,11,12,13,14] []
 (.ret (.tup [(pi 0),pF]))
 (.call ⟨[],[]⟩ [] 14 45 [(.lst [(pc qt 0),(pc qt 1),(pc qt 2),(pc qt 3),(pc qt 4),(pc qt 5),(pc qt 6),(pc qt 7),(pc qt 8),(pc qt 9)]),r0]
 (.ite dc
 (.ret (.tup [(pi 0),pT]))
 (.next ⟨[],[]⟩)))
 (.next ⟨[],[]⟩))
 (.ret (.tup [(pi 1),pT])))
def aqb (b:Nat→PC):PT×List (Shp×PT):=(Uq,[])
theorem adM:FJ.map told=some (aqb (au FJ)):=by kernel_rfl
theorem aAI:tree JC=Uq:=ay adM
theorem alN:FJ=some JC:=ax adM
noncomputable def Gb:Option PC:=aw {ctx with fr:=[4],nh:=[]} Tryz.f45 ((aa ae 45).getD default) []
noncomputable def Ks:PC:=av Gb
def Vc:PT:=
 (.call ⟨[],[]⟩ [] 7 103 [r0,r1]
 (.ret (aY r7 (pi 0))))
def aq0 (b:Nat→PC):PT×List (Shp×PT):=(Vc,[])
theorem aec:Gb.map told=some (aq0 (au Gb)):=by kernel_rfl
theorem aBv:tree Ks=Vc:=ay aec
theorem amE:Gb=some Ks:=ax aec
noncomputable def AX:Option PC:=aw {ctx with fr:=[4,5],nh:=[]} Tryz.f103 ((aa ae 103).getD default) []
noncomputable def Ky:PC:=av AX
noncomputable def NI:Nat→PC:=bx AX
def awq (b:Nat→PC):PC:=.block 0 [4,8,9] [] (.loop [4,8] [] (b 0))
def DW (b:Nat→PC):PT:=
 (.ite (aq r8 r7)
 (.chk (aD r0 r8)
 (.ite (ah r1 (pn r0 r8))
 (.ret r8)
 (.next ⟨[(8,tQ)],[]⟩)))
 (.exit 0 ⟨[(9,(aq r8 r7))],[]⟩))
def Vh (b:Nat→PC):PT:=
 (.brk ⟨[(8,(pi 0)),(7,(.llen r0)),(4,(pi 0))],[]⟩
(awq b)
 (.ret (pi (-1))))
def aq5 (b:Nat→PC):PT×List (Shp×PT):=(Vh b,[(.lp 0 [4,8,9] [] [4,8] [],DW b)])
theorem Rr:AX.map told=some (aq5 (au AX)):=by kernel_rfl
theorem aBA:tree Ky=Vh NI:=ay Rr
theorem SU:round 0 [4,8,9] [] [4,8] [] (NI 0)=DW NI:=bt Rr 0 fun _=>rfl
theorem amJ:AX=some Ky:=ax Rr
noncomputable def Ar:Option PC:=aw {ctx with fr:=[8,9,11,12,13,14,55,70],nh:=[]} Tryz.f133 ((aa ae 133).getD default) [4,10,53]
noncomputable def Jm:PC:=av Ar
noncomputable def Nm:Nat→PC:=bx Ar
def avK (b:Nat→PC):PC:=.block 0 [] [] (.loop [8,9,10] [10] (b 0))
def Sp (b:Nat→PC):PT:=
 (.blockS ⟨[],[]⟩ 1 [8,9,10,11,12,13,14,32,33,35,36,37,38,39,40,41,42,43,44,45,46,49,50,52,53,54,55,56,57,58,68,70,71] [53,10]
 (.chk (aD bQ (bJ (.llen bQ) (pi 1)))
 (.call ⟨[(11,(pn bQ (bJ (.llen bQ) (pi 1))))],[]⟩ [] 41 175 [(ao 8 o4),(pn bQ (bJ (.llen bQ) (pi 1))),r2,r3]
 (.ite (ah (.tget lI 0) bp)
 (.ret (.tup [bQ,(pi 0)]))
 (.call ⟨[(13,(.tget lI 1)),(12,(.tget lI 0))],[]⟩ [] 50 45 [bQ,(.tget lI 0)]
 (.chk (bz (.llen (.app bQ (.lst [cn]))) cO)
 (.chk (.nt (.an (.an lJ (.an (.nt (.nt cB)) pT)) (.nt (aD (pc o4 4) cn))))
 (.ite (.pick (.nt cB) pT (.pick lJ (pc (pn (pc o4 4) cn) 1) pF))
 (.ret (.tup [(.app bQ (.lst [cn])),(pi 0)]))
 (.ite lJ
 (.ret (.tup [(.app bQ (.lst [cn])),(pi 12)]))
 (.next ⟨[(10,pN)],[(10,(.app bQ (.lst [cn])))]⟩)))))))))
 (.next ⟨[],[]⟩))
def Ub (b:Nat→PC):PT:=
 (.call ⟨[(9,(pi 0)),(8,pL)],[(4,(.mk [r0]))]⟩ [] 19 174 [ko,r1,r2,r3]
 (.chk (.nt (.an (.an (.nt (.nt iK)) pT) (.nt (aD r3 (pi 0)))))
 (.ite (.pick (.nt iK) pT (aL (pn r3 (pi 0)) r1))
 (.ret (.tup [pL,(pi 1)]))
 (.brk ⟨[(10,pN)],[(10,(.lst [r1]))]⟩
(avK b)
 (.next ⟨[],[]⟩)))))
def apV (b:Nat→PC):PT×List (Shp×PT):=(Ub b,[(.lp 0 [] [] [8,9,10] [10],Sp b)])
theorem Q6:Ar.map told=some (apV (au Ar)):=by kernel_rfl
theorem aAs:tree Jm=Ub Nm:=ay Q6
theorem ayF:round 0 [] [] [8,9,10] [10] (Nm 0)=Sp Nm:=bt Q6 0 fun _=>rfl
theorem alx:Ar=some Jm:=ax Q6
noncomputable def Fw:Option PC:=aw {ctx with fr:=[8],nh:=[]} Tryz.f174 ((aa ae 174).getD default) [4,9]
noncomputable def Jo:PC:=av Fw
def uk:PT:=
 (.ite (.pick (.pick (.pick (.pick (aq r1 (pi 0)) pT (aY r1 (pc (.setc Db 0 (.llen (pc (.mk [r0]) 4))) 0))) pT (aq r2 (pi 0))) pT (aY r2 (pi 22))) pT (aL (.llen r3) (pi 5)))
 (.ret pF)
 (.call ⟨[],[]⟩ [] 35 201 [r3,(.clo 202 [(.ref (pc (.setc Db 0 (.llen (pc (.mk [r0]) 4))) 0))])]
 (.ret (.nt nN))))
def apX (b:Nat→PC):PT×List (Shp×PT):=(uk,[])
theorem adz:Fw.map told=some (apX (au Fw)):=by kernel_rfl
theorem aAv:tree Jo=uk:=ay adz
theorem alA:Fw=some Jo:=ax adz
noncomputable def Fx:Option PC:=aw {ctx with fr:=[3],nh:=[]} Tryz.f202 ((aa ae 202).getD default) []
noncomputable def Jp:PC:=av Fx
def Ud:PT:=
 (.ret (.pick (aq r0 (pi 0)) pT (aY r0 (.deref r1))))
def apY (b:Nat→PC):PT×List (Shp×PT):=(Ud,[])
theorem adA:Fx.map told=some (apY (au Fx)):=by kernel_rfl
theorem aAu:tree Jp=Ud:=ay adA
theorem alz:Fx=some Jp:=ax adA
noncomputable def Ga:Option PC:=aw {ctx with fr:=[4],nh:=[]} Tryz.f201 ((aa ae 201).getD default) []
noncomputable def Kr:PC:=av Ga
def Vb:PT:=
 (.call ⟨[],[]⟩ [] 7 218 [r0,r1]
 (.ret (aY r7 (pi 0))))
def aqZ (b:Nat→PC):PT×List (Shp×PT):=(Vb,[])
theorem aeb:Ga.map told=some (aqZ (au Ga)):=by kernel_rfl
theorem aBu:tree Kr=Vb:=ay aeb
theorem amD:Ga=some Kr:=ax aeb
noncomputable def AW:Option PC:=aw {ctx with fr:=[4,5],nh:=[]} Tryz.f218 ((aa ae 218).getD default) []
noncomputable def Kw:PC:=av AW
noncomputable def NH:Nat→PC:=bx AW
def awp (b:Nat→PC):PC:=.block 0 [4,8,9] [] (.loop [4,8] [] (b 0))
def DV (b:Nat→PC):PT:=
 (.ite (aq r8 r7)
 (.blockS ⟨[],[]⟩ 1 [4,5,10,11,12,13,14,15,16] []
 (.chk (aD r0 r8)
 (.callc ⟨[(5,r8)],[]⟩ [] 16 r1 [(pn r0 r8)]
 (.ite cQ
 (.ret r5)
 (.next ⟨[],[]⟩))))
 (.next ⟨[(8,tQ)],[]⟩))
 (.exit 0 ⟨[(9,(aq r8 r7))],[]⟩))
def Vg (b:Nat→PC):PT:=
 (.brk ⟨[(8,(pi 0)),(7,(.llen r0)),(4,(pi 0))],[]⟩
(awp b)
 (.ret (pi (-1))))
def aq4 (b:Nat→PC):PT×List (Shp×PT):=(Vg b,[(.lp 0 [4,8,9] [] [4,8] [],DV b)])
theorem Rq:AW.map told=some (aq4 (au AW)):=by kernel_rfl
theorem aBz:tree Kw=Vg NH:=ay Rq
theorem SS:round 0 [4,8,9] [] [4,8] [] (NH 0)=DV NH:=bt Rq 0 fun _=>rfl
theorem amI:AW=some Kw:=ax Rq
noncomputable def As:Option PC:=aw {ctx with fr:=[8,9],nh:=[]} Tryz.f175 ((aa ae 175).getD default) [4,11]
noncomputable def Jn:PC:=av As
noncomputable def Nn:Nat→PC:=bx As
def avL (b:Nat→PC):PC:=.block 0 [8,9,25,26] [] (.loop [8,9,25] [] (b 0))
def Dw (b:Nat→PC):PT:=
 (.ite (aq iL qw)
 (.chk (aD fF iL)
 (.ite (.pick (ah (pc Dj 0) r2) (aL (pc Dj 1) (pi 0)) pF)
 (.chk (aD r3 (pc Dj 1))
 (.ret (.tup [(pn r3 (pc Dj 1)),(pc Dj 2)])))
 (.next ⟨[(25,(aH iL (pi 1)))],[]⟩)))
 (.exit 0 ⟨[(26,(aq iL qw))],[]⟩))
def Uc (b:Nat→PC):PT:=
 (.call ⟨[(9,pF),(8,(pi 0))],[(4,(.mk [r0]))]⟩ [] 16 174 [ko,r1,r2,r3]
 (.ite (.nt cQ)
 (.ret (.tup [(pi (-1)),pF]))
 (.chk (aD (pc o4 4) r1)
 (.brk ⟨[(25,(pi 0)),(24,(.llen (pc (pn (pc o4 4) r1) 2))),(23,(pc (pn (pc o4 4) r1) 2))],[]⟩
(avL b)
 (.ret (.tup [r1,pF]))))))
def apW (b:Nat→PC):PT×List (Shp×PT):=(Uc b,[(.lp 0 [8,9,25,26] [] [8,9,25] [],Dw b)])
theorem Q7:As.map told=some (apW (au As)):=by kernel_rfl
theorem aAt:tree Jn=Uc Nn:=ay Q7
theorem Sq:round 0 [8,9,25,26] [] [8,9,25] [] (Nn 0)=Dw Nn:=bt Q7 0 fun _=>rfl
theorem aly:As=some Jn:=ax Q7
noncomputable def FI:Option PC:=aw {ctx with fr:=[7,9,11,12],nh:=[]} Tryz.f83 ((aa ae 83).getD default) [3,6,8,10]
noncomputable def JB:PC:=av FI
def Up:PT:=
 (.call ⟨[],[(6,fE)]⟩ [] 16 134 [(ao 4 (.mk [r0])),r1]
 (.ite (aL (.tget cQ 1) (pi 0))
 (.ret (.tup [(.mk [(pc (.setc o6 0 wk) 0),(pc (.setc o6 0 wk) 1)]),(.tget cQ 1)]))
 (.call ⟨[],[]⟩ [] 25 135 [(.mk [(pc (.setc lE 0 (.tget cQ 0)) 0),(pc (.setc lE 0 (.tget cQ 0)) 1),(pc (.setc lE 0 (.tget cQ 0)) 2)]),r2]
 (.call ⟨[],[(10,(.setc fE 0 iL))]⟩ [] 28 131 [r1]
 (.ret (.tup [(.mk [(pc (.setc o6 0 (.mk [(pc Ln 0),(pc Ln 1)])) 0),(pc (.setc o6 0 (.mk [(pc Ln 0),(pc Ln 1)])) 1)]),(pi 0)]))))))
def aqa (b:Nat→PC):PT×List (Shp×PT):=(Up,[])
theorem adL:FI.map told=some (aqa (au FI)):=by kernel_rfl
theorem aAH:tree JB=Up:=ay adL
theorem alM:FI=some JB:=ax adL
noncomputable def FK:Option PC:=aw {ctx with fr:=[5,6,7,8,10,11],nh:=[]} Tryz.f134 ((aa ae 134).getD default) [2,3,4,12292,9]
noncomputable def JD:PC:=av FK
def Ur:PT:=
 (.call ⟨[],[(4,lE),(3,(.mk [r1])),(2,(.mk [r0]))]⟩ [] 14 131 [(pc (.mk [r1]) 0)]
 (.ite (.nt (.tget dc 1))
 (.ret (.tup [RZ,(pi 1)]))
 (.call ⟨[(6,(.tget dc 0))],[]⟩ [] 23 176 [(pc o2 3),(.clo 177 [(.ref (pc o3 0))])]
 (.ite (aq fF (pi 0))
 (.ret (.tup [RZ,(pi 4)]))
 (.chk (aD (pc o2 3) fF)
 (.call ⟨[],[(9,Lw)]⟩ [] 35 178 [(.mk [(pc Lw 0),(pc Lw 1),(pc Lw 2)])]
 (.ite (.pick (aL (.tget nN 1) (pi 0)) pT (aL (.tget nN 0) r6))
 (.ret (.tup [RZ,(pi 11)]))
 (.ret (.tup [(.mk [(pc R6 0),(pc R6 1),(pc R6 2)]),(pi 0)])))))))))
def aqc (b:Nat→PC):PT×List (Shp×PT):=(Ur,[])
theorem adN:FK.map told=some (aqc (au FK)):=by kernel_rfl
theorem aAK:tree JD=Ur:=ay adN
theorem alP:FK=some JD:=ax adN
noncomputable def FL:Option PC:=aw {ctx with fr:=[3],nh:=[]} Tryz.f177 ((aa ae 177).getD default) [2]
noncomputable def JE:PC:=av FL
def Us:PT:=
 (.ret (ah lH (.deref r1)))
def aqd (b:Nat→PC):PT×List (Shp×PT):=(Us,[])
theorem adO:FL.map told=some (aqd (au FL)):=by kernel_rfl
theorem aAJ:tree JE=Us:=ay adO
theorem alO:FL=some JE:=ax adO
noncomputable def AV:Option PC:=aw {ctx with fr:=[4,5],nh:=[]} Tryz.f176 ((aa ae 176).getD default) []
noncomputable def Kv:PC:=av AV
noncomputable def NG:Nat→PC:=bx AV
def awo (b:Nat→PC):PC:=.block 0 [4,8,9] [] (.loop [4,8] [] (b 0))
def DU (b:Nat→PC):PT:=
 (.ite (aq r8 r7)
 (.blockS ⟨[],[]⟩ 1 [4,5,10,11,12,13,14,15,16] []
 (.chk (aD r0 r8)
 (.callc ⟨[(5,r8)],[]⟩ [] 16 r1 [(pn r0 r8)]
 (.ite cQ
 (.ret r5)
 (.next ⟨[],[]⟩))))
 (.next ⟨[(8,tQ)],[]⟩))
 (.exit 0 ⟨[(9,(aq r8 r7))],[]⟩))
def Vf (b:Nat→PC):PT:=
 (.brk ⟨[(8,(pi 0)),(7,(.llen r0)),(4,(pi 0))],[]⟩
(awo b)
 (.ret (pi (-1))))
def aq3 (b:Nat→PC):PT×List (Shp×PT):=(Vf b,[(.lp 0 [4,8,9] [] [4,8] [],DU b)])
theorem Rp:AV.map told=some (aq3 (au AV)):=by kernel_rfl
theorem aBy:tree Kv=Vf NG:=ay Rp
theorem SR:round 0 [4,8,9] [] [4,8] [] (NG 0)=DU NG:=bt Rp 0 fun _=>rfl
theorem amH:AV=some Kv:=ax Rp
noncomputable def Gk:Option PC:=aw {ctx with fr:=[2,3],nh:=[]} Tryz.f178 ((aa ae 178).getD default) [1]
noncomputable def KJ:PC:=av Gk
def Vq:PT:=
 (.call ⟨[],[(1,(.mk [r0]))]⟩ [] 5 203 [(.mk [lH,oU,wy]),(pi 1)]
 (.ite (bj r5 (pi 60))
 (.ret (.tup [(pi 0),(pi 6)]))
 (.call ⟨[],[]⟩ [] 8 204 [(.mk [(pc o1 0),(pc o1 1),(pc o1 2)])]
 (.ret (.tup [(.tget r8 0),(.tget r8 1)])))))
def ari (b:Nat→PC):PT×List (Shp×PT):=(Vq,[])
theorem aek:Gk.map told=some (ari (au Gk)):=by kernel_rfl
theorem aBI:tree KJ=Vq:=ay aek
theorem amU:Gk=some KJ:=ax aek
noncomputable def A4:Option PC:=aw {ctx with fr:=[4,5],nh:=[]} Tryz.f203 ((aa ae 203).getD default) [2,7,12295]
noncomputable def KT:PC:=av A4
noncomputable def NN:Nat→PC:=bx A4
def awy (b:Nat→PC):PC:=.block 0 [5,13,14] [] (.loop [5,13] [] (b 0))
def D0 (b:Nat→PC):PT:=
 (.ite (aq cB cn)
 (.blockS ⟨[(14,(aq cB cn))],[]⟩ 1 [5,7,15,16,17,18,19,20,21,22,23,24] [7,12295]
 (.chk (aD bp cB)
 (.call ⟨[(17,r5)],[]⟩ [] 21 203 [(.mk [(pc (.setc lE 0 (pn bp cB)) 0),(pc (.setc lE 0 (pn bp cB)) 1),(pc (.setc lE 0 (pn bp cB)) 2)]),(aH r1 (pi 1))]
 (.ite (bj (aH kP jU) (pi 60))
 (.exit 0 ⟨[(5,(aH kP jU))],[]⟩)
 (.next ⟨[(5,(aH kP jU))],[]⟩))))
 (.next ⟨[(13,(aH cB (pi 1)))],[]⟩))
 (.exit 0 ⟨[(14,(aq cB cn))],[]⟩))
def MH (b:Nat→PC):PT:=
 (.ite (bj r1 (pi 8))
 (.ret (pi 61))
 (.brk ⟨[(13,(pi 0)),(12,qv),(11,wy),(5,(pi 1))],[]⟩
(awy b)
 (.ret r5)))
def aru (b:Nat→PC):PT×List (Shp×PT):=(MH b,[(.lp 0 [5,13,14] [] [5,13] [],D0 b)])
theorem Rw:A4.map told=some (aru (au A4)):=by kernel_rfl
theorem agL:tree KT=MH NN:=ay Rw
theorem SZ:round 0 [5,13,14] [] [5,13] [] (NN 0)=D0 NN:=bt Rw 0 fun _=>rfl
theorem am4:A4=some KT:=ax Rw
noncomputable def A2:Option PC:=aw {ctx with fr:=[2,3,5,7,8,38,47,10,11,12],nh:=[]} Tryz.f204 ((aa ae 204).getD default) [1,4,6,12294,9]
noncomputable def KN:PC:=av A2
noncomputable def Af:Nat→PC:=bx A2
def awv (b:Nat→PC):PC:=.block 0 [2,3,20,21] [4] (.loop [2,3,20] [4] (b 0))
def aww (b:Nat→PC):PC:=.block 3 [2,3,10,82,83] [] (.loop [2,3,10,82] [] (b 1))
def DY (b:Nat→PC):PT:=
 (.ite (aq dG iK)
 (.blockS ⟨[],[]⟩ 1 [2,3,5,6,7,8,22,23,24,25,26,27,28,29,30,31,33,34,35,36] [6,12294,4]
 (.chk (aD cT dG)
 (.call ⟨[(5,dG)],[]⟩ [] 27 204 [(.mk [(pc (.setc lE 0 (pn cT dG)) 0),(pc (.setc lE 0 (pn cT dG)) 1),(pc (.setc lE 0 (pn cT dG)) 2)])]
 (.ite (aL (.tget eG 1) (pi 0))
 (.ret (.tup [(pi 0),(.tget eG 1)]))
 (.chk (aD o4 r5)
 (.next ⟨[],[(4,(.setn o4 r5 0 (.tget eG 0)))]⟩)))))
 (.next ⟨[(20,(aH dG (pi 1)))],[]⟩))
 (.exit 0 ⟨[(21,(aq dG iK))],[]⟩))
def tY (b:Nat→PC):PT:=
 (.ite (aq jV tW)
 (.chk (aD wI jV)
 (.ite (.pick (ah (pn wI jV) (pi (-1))) (ah cP (pi (-1))) pF)
 (.chk (aD o4 jV)
 (.ite (aL (pn o4 jV) (.pick (ah (pn wI jV) (pi (-1))) (pn o4 jV) (pn wI jV)))
 (.ret (.tup [(pi 0),(pi 11)]))
 (.next ⟨[(10,(pn o4 jV)),(82,(aH jV (pi 1)))],[]⟩)))
 (.chk (aD o4 jV)
 (.ite (aL (pn o4 jV) (.pick (ah (pn wI jV) (pi (-1))) cP (pn wI jV)))
 (.ret (.tup [(pi 0),(pi 11)]))
 (.next ⟨[(82,(aH jV (pi 1)))],[]⟩)))))
 (.exit 3 ⟨[(83,(aq jV tW))],[]⟩))
def Vu (b:Nat→PC):PT:=
 (.chk (.an (aY qv (pi 0)) (bz qv cO))
 (.chk (ah qv qv)
 (.brk ⟨[(20,(pi 0)),(19,qv),(18,wy),(4,pN),(3,(pi 0)),(2,(pi 0))],[(4,(.rep qv (pi 0))),(1,(.mk [r0]))]⟩
(awv b)
 (.blockS ⟨[],[]⟩ 2 [2,3,38,39,40,41,42,46,47,48,49,50,51,55,56,60] []
 (.iteS ⟨[],[]⟩ (.pick (aq (pc o1 0) (pi 0)) pT (bj (pc o1 0) (pi 13))) [2,3,47,48,49,50,51,55,56,60] []
 (.ret (.tup [(pi 0),(pi 1)]))
 (.iteS ⟨[],[]⟩ (.pick (.pick (ah (pc o1 0) (pi 0)) pT (ah (pc o1 0) (pi 1))) pT (ah (pc o1 0) (pi 2))) [2,3] []
 (.call ⟨[],[]⟩ [] 62 219 [(.mk [(pc o1 0),(pc o1 1),(pc o1 2)])]
 (.ret (.tup [(.tget pf 0),(.tget pf 1)])))
 (.next ⟨[],[]⟩)
 (.next ⟨[],[]⟩))
 (.next ⟨[],[]⟩))
 (.call ⟨[],[]⟩ [] 67 220 [(pc o1 0)]
 (.ite (.pick (aL (.llen o4) (.llen (pc (.setc kM 0 wH) 0))) pT (aL (pc o1 1) (pi 0)))
 (.ret (.tup [(pi 0),(pi 2)]))
 (.brk ⟨[(82,(pi 0)),(81,(.llen (pc (.setc kM 0 wH) 0))),(80,(pc (.setc kM 0 wH) 0)),(10,(pi (-1)))],[(9,(.setc kM 0 wH))]⟩
(aww b)
 (.ite (ah (pc o9 1) (pi (-1)))
 (.ret (.tup [cP,(pi 0)]))
 (.ret (.tup [(pc o9 1),(pi 0)]))))))))))
def arn (b:Nat→PC):PT×List (Shp×PT):=(Vu b,[(.lp 0 [2,3,20,21] [4] [2,3,20] [4],DY b),(.lp 3 [2,3,10,82,83] [] [2,3,10,82] [],tY b)])
theorem ID:A2.map told=some (arn (au A2)):=by kernel_rfl
theorem aBM:tree KN=Vu Af:=ay ID
theorem SX:round 0 [2,3,20,21] [4] [2,3,20] [4] (Af 0)=DY Af:=bt ID 0 fun _=>rfl
theorem zj:round 3 [2,3,10,82,83] [] [2,3,10,82] [] (Af 1)=tY Af:=bt ID 1 fun _=>rfl
theorem amY:A2=some KN:=ax ID
noncomputable def Gr:Option PC:=aw {ctx with fr:=[2,3,12,20,4,5],nh:=[]} Tryz.f219 ((aa ae 219).getD default) [1]
noncomputable def KQ:PC:=av Gr
def Vx:PT:=
 (.ite (bj qv (pi 0))
 (.ret (.tup [(pi 0),(pi 2)]))
 (.blockS ⟨[(11,lH)],[(1,(.mk [r0]))]⟩ 0 [2,3,12,13,20,21] []
 (.iteS ⟨[],[]⟩ (ah bp (pi 0)) [2,3,20,21] []
 (.call ⟨[],[]⟩ [] 16 223 [(pc o1 1)]
 (.ite (aL cQ (pc o1 1))
 (.ret (.tup [(pi 0),(pi 3)]))
 (.ret (.tup [(pi 0),(pi 0)]))))
 (.ite (ah bp (pi 1))
 (.ite (.pick (aq (pc o1 1) (pi 0)) pT (bj (pc o1 1) (pi 1)))
 (.ret (.tup [(pi 0),(pi 3)]))
 (.ret (.tup [(pi 1),(pi 0)])))
 (.next ⟨[],[]⟩))
 (.next ⟨[],[]⟩))
 (.call ⟨[],[]⟩ [] 33 221 [(pc o1 1)]
 (.ite (.nt (.tget tS 1))
 (.ret (.tup [(pi 0),(pi 10)]))
 (.ret (.tup [(.tget tS 0),(pi 0)]))))))
def arq (b:Nat→PC):PT×List (Shp×PT):=(Vx,[])
theorem aeq:Gr.map told=some (arq (au Gr)):=by kernel_rfl
theorem aBP:tree KQ=Vx:=ay aeq
theorem am1:Gr=some KQ:=ax aeq
noncomputable def Gq:Option PC:=aw {ctx with fr:=[2],nh:=[]} Tryz.f223 ((aa ae 223).getD default) []
noncomputable def KP:PC:=av Gq
def Vw:PT:=
 (.ret (.mn (.mx r0 (pi (-1099511627776))) lG))
def arp (b:Nat→PC):PT×List (Shp×PT):=(Vw,[])
theorem aep:Gq.map told=some (arp (au Gq)):=by kernel_rfl
theorem aBO:tree KP=Vw:=ay aep
theorem am0:Gq=some KP:=ax aep
noncomputable def Gm:Option PC:=aw {ctx with fr:=[2,3,4,11],nh:=[]} Tryz.f221 ((aa ae 221).getD default) []
noncomputable def KL:PC:=av Gm
def Vs:PT:=
 (.ite (.pick (aq r0 (pi 0)) pT (bj r0 (pi 19)))
 (.ret (.tup [(pi 0),pF]))
 (.ite (aq r0 (pi 7))
 (.ret (.tup [(pi 0),pT]))
 (.ret (.tup [(pi 1),pT]))))
def ark (b:Nat→PC):PT×List (Shp×PT):=(Vs,[])
theorem aem:Gm.map told=some (ark (au Gm)):=by kernel_rfl
theorem aBK:tree KL=Vs:=ay aem
theorem amW:Gm=some KL:=ax aem
noncomputable def Gu:Option PC:=aw {ctx with fr:=[4,8,13,17,21],nh:=[]} Tryz.f220 ((aa ae 220).getD default) [2]
noncomputable def KV:PC:=av Gu
def VA:PT:=
 (.ite (ah r0 (pi 3))
 (.ret (.mk [(pc (.setc kM 0 (.mk [(.lst [(pi 1)]),(pi 1)])) 0),(pc (.setc kM 0 (.mk [(.lst [(pi 1)]),(pi 1)])) 1)]))
 (.ite (.pick (ah r0 (pi 4)) (ah r0 (pi 4)) (ah r0 (pi 5)))
 (.ret (.mk [(pc (.setc kM 0 (.mk [(.lst [(pi 1),(pi 1)]),(pi 1)])) 0),(pc (.setc kM 0 (.mk [(.lst [(pi 1),(pi 1)]),(pi 1)])) 1)]))
 (.ite (ah r0 (pi 6))
 (.ret (.mk [(pc ae2 0),(pc ae2 1)]))
 (.ite (ah r0 (pi 7))
 (.ret (.mk [(pc (.setc kM 0 (.mk [(.lst [(pi 0),(pi 0)]),(pi 1)])) 0),(pc (.setc kM 0 (.mk [(.lst [(pi 0),(pi 0)]),(pi 1)])) 1)]))
 (.ite (ah r0 (pi 8))
 (.ret (.mk [(pc (.setc kM 0 (.mk [(.lst [(pi (-1)),(pi (-1))]),(pi 1)])) 0),(pc (.setc kM 0 (.mk [(.lst [(pi (-1)),(pi (-1))]),(pi 1)])) 1)]))
 (.ret (.mk [(pc (.setc kM 0 (.mk [(.lst [(pi 0),(pi 0)]),(pi 0)])) 0),(pc (.setc kM 0 (.mk [(.lst [(pi 0),(pi 0)]),(pi 0)])) 1)])))))))
def arw (b:Nat→PC):PT×List (Shp×PT):=(VA,[])
theorem aet:Gu.map told=some (arw (au Gu)):=by kernel_rfl
theorem aBT:tree KV=VA:=ay aet
theorem am6:Gu=some KV:=ax aet
noncomputable def Gl:Option PC:=aw {ctx with fr:=[5,6,8],nh:=[]} Tryz.f135 ((aa ae 135).getD default) [2,4,7]
noncomputable def KK:PC:=av Gl
def Vr:PT:=
 (.call ⟨[],[(4,fE),(2,(.mk [r0]))]⟩ [] 11 178 [(.mk [lH,oU,wy])]
 (.ite (aL (.tget bp 1) (pi 0))
 (.ret De)
 (.call ⟨[],[]⟩ [] 21 179 [(.mk [r1]),(.mk [(pc o2 0),(pc o2 1),(pc o2 2)])]
 (.ret (.mk [(pc afm 0),(pc afm 1)])))))
def arj (b:Nat→PC):PT×List (Shp×PT):=(Vr,[])
theorem ael:Gl.map told=some (arj (au Gl)):=by kernel_rfl
theorem aBJ:tree KK=Vr:=ay ael
theorem amV:Gl=some KK:=ax ael
noncomputable def A3:Option PC:=aw {ctx with fr:=[5,15,21,9,11],nh:=[]} Tryz.f179 ((aa ae 179).getD default) [2,3,4,6,33,7,8,10,12298,12]
noncomputable def KR:PC:=av A3
noncomputable def NM:Nat→PC:=bx A3
def awx (b:Nat→PC):PC:=.block 1 [45,46] [7,8] (.loop [45] [7,8] (b 0))
def DZ (b:Nat→PC):PT:=
 (.ite (aq qy wF)
 (.blockS ⟨[],[]⟩ 2 [9,10,47,48,49,50,51,52,53,54,55,56,57,58,59,60,61] [10,12298,8,7]
 (.chk (aD rS qy)
 (.call ⟨[(54,qy),(52,qy)],[]⟩ [] 57 179 [(.mk [(pc o2 0)]),(.mk [(pc (.setc lE 0 (pn rS qy)) 0),(pc (.setc lE 0 (pn rS qy)) 1),(pc (.setc lE 0 (pn rS qy)) 2)])]
 (.chk (aD o7 zb)
 (.chk (aD o8 qA)
 (.next ⟨[],[(8,(.setn o8 qA 0 (.tget tV 1))),(7,(.setn o7 zb 0 (.tget tV 0)))]⟩)))))
 (.next ⟨[(45,(aH qy (pi 1)))],[]⟩))
 (.exit 1 ⟨[(46,(aq qy wF))],[]⟩))
def Es (b:Nat→PC):PT:=
 (.blockS ⟨[(14,(pc (.mk [r1]) 0))],[(4,fE),(3,(.mk [r1])),(2,(.mk [r0]))]⟩ 0 [5,15,16,21,22] [4]
 (.iteS ⟨[],[]⟩ (.pick (ah dc (pi 0)) (ah dc (pi 0)) (ah dc (pi 1))) [5,21,22] [4]
 (.ret (.tup [(.mk [(pc (.setc o4 0 (.mk [pT,(pc o3 1)])) 0),(pc (.setc o4 0 (.mk [pT,(pc o3 1)])) 1)]),pL]))
 (.iteS ⟨[],[]⟩ (ah dc (pi 2)) [5] [4]
 (.call ⟨[],[]⟩ [] 26 205 [(.mk [(pc o2 0)]),(pc o3 1)]
 (.ite (pc (.setc fE 0 nM) 0)
 (.ret (.tup [(.mk [(pc ae1 0),(pc ae1 1)]),pL]))
 (.ret (.tup [De,(.lst [(pc o3 1)])]))))
 (.next ⟨[],[]⟩)
 (.next ⟨[],[]⟩))
 (.next ⟨[],[]⟩))
 (.chk (.an (aY nL (pi 0)) (bz nL cO))
 (.chk (ah nL nL)
 (.brk ⟨[(45,(pi 0)),(44,nL),(43,(pc o3 2)),(8,pN),(7,pN)],[(8,(.rep nL pL)),(7,(.rep nL fE))]⟩
(awx b)
 (.chk (.nt (.an (.an (ah (pc o3 0) (pi 6)) pT) (.nt (aD o7 (pi 0)))))
 (.ite (.pick (ah (pc o3 0) (pi 6)) (pc (pn o7 (pi 0)) 0) pF)
 (.chk (aD o7 (pi 0))
 (.chk (aD o7 Di)
 (.chk (aD o8 Di)
 (.ret (.tup [(.mk [(pc (.setc o4 0 (.sub (pn o7 Di) 0 2)) 0),(pc (.setc o4 0 (.sub (pn o7 Di) 0 2)) 1)]),(pn o8 Di)])))))
 (.call ⟨[],[]⟩ [] 88 206 [(pc o3 0),o7]
 (.ite (pc (.setc fE 0 Sf) 0)
 (.ret (.tup [(.mk [(pc ae0 0),(pc ae0 1)]),pL]))
 (.call ⟨[(92,wk)],[]⟩ [] 94 207 [o8]
 (.ret (.tup [(.mk [(pc (.setc o4 0 Sg) 0),(pc (.setc o4 0 Sg) 1)]),r94])))))))))))
def ars (b:Nat→PC):PT×List (Shp×PT):=(Es b,[(.lp 1 [45,46] [7,8] [45] [7,8],DZ b)])
theorem Rv:A3.map told=some (ars (au A3)):=by kernel_rfl
theorem aBQ:tree KR=Es NM:=ay Rv
theorem SY:round 1 [45,46] [7,8] [45] [7,8] (NM 0)=DZ NM:=bt Rv 0 fun _=>rfl
theorem am2:A3=some KR:=ax Rv
noncomputable def Gs:Option PC:=aw {ctx with fr:=[5,6],nh:=[]} Tryz.f205 ((aa ae 205).getD default) [2,4]
noncomputable def KS:PC:=av Gs
def Vy:PT:=
 (.chk (.nt (.an (.an (.nt (aY r1 (.llen lH))) pT) (.nt (aD lH r1))))
 (.ite (.pick (aY r1 (.llen lH)) pT (.nt (pc (pn lH r1) 0)))
 (.ret (.mk [(pc (.setc fE 0 wk) 0),(pc (.setc fE 0 wk) 1)]))
 (.call ⟨[],[(4,fE),(2,(.mk [r0]))]⟩ [] 24 221 [r1]
 (.iteS ⟨[],[]⟩ (ah (.tget qw 0) (pi 1)) [] [4]
 (.chk (aD (pc o2 0) r1)
 (.call ⟨[],[]⟩ [] 36 222 [(aL (pc (pn (pc o2 0) r1) 1) (pi 0))]
 (.ret (.mk [(pc (.setc o4 0 gW) 0),(pc (.setc o4 0 gW) 1)]))))
 (.next ⟨[],[]⟩)
 (.chk (aD (pc o2 0) r1)
 (.call ⟨[],[]⟩ [] 43 223 [(pc (pn (pc o2 0) r1) 1)]
 (.ret (.mk [(pc (.setc o4 0 (.mk [pT,rS])) 0),(pc (.setc o4 0 (.mk [pT,rS])) 1)]))))))))
def art (b:Nat→PC):PT×List (Shp×PT):=(Vy,[])
theorem aer:Gs.map told=some (art (au Gs)):=by kernel_rfl
theorem aBR:tree KS=Vy:=ay aer
theorem am3:Gs=some KS:=ax aer
noncomputable def Gv:Option PC:=aw {ctx with fr:=[],nh:=[]} Tryz.f222 ((aa ae 222).getD default) [2]
noncomputable def KW:PC:=av Gv
def VB:PT:=
 (.ite r0
 (.ret (.mk [(pc Lc 0),(pc Lc 1)]))
 (.ret (.mk [(pc Ld 0),(pc Ld 1)])))
def arx (b:Nat→PC):PT×List (Shp×PT):=(VB,[])
theorem aeu:Gv.map told=some (arx (au Gv)):=by kernel_rfl
theorem aBU:tree KW=VB:=ay aeu
theorem am7:Gv=some KW:=ax aeu
noncomputable def Gp:Option PC:=aw {ctx with fr:=[9,22,41,6,7,82,88,94],nh:=[]} Tryz.f206 ((aa ae 206).getD default) [4,5]
noncomputable def KO:PC:=av Gp
def Vv:PT:=
 (.blockS ⟨[(8,r0)],[(4,fE)]⟩ 0 [9,10,22,23] [4]
 (.iteS ⟨[],[]⟩ (ah r8 (pi 3)) [22,23] [4]
 (.chk (aD r1 (pi 0))
 (.iteS ⟨[],[]⟩ (pc (pn r1 (pi 0)) 0) [] [4]
 (.chk (aD r1 (pi 0))
 (.call ⟨[],[]⟩ [] 20 222 [(ah (pc (pn r1 (pi 0)) 1) (pi 0))]
 (.ret (.mk [(pc (.setc o4 0 dG) 0),(pc (.setc o4 0 dG) 1)]))))
 (.next ⟨[],[]⟩)
 (.ret De)))
 (.iteS ⟨[],[]⟩ (.pick (ah r8 (pi 4)) (ah r8 (pi 4)) (ah r8 (pi 5))) [] [4]
 (.call ⟨[],[]⟩ [] 27 222 [(ah r0 (pi 5))]
 (.chk (aD r1 (pi 0))
 (.chk (.nt (.an (.an (.nt afi) pT) (.nt (aD r1 (pi 1)))))
 (.ite (.pick afi pT (.an (.cb .eql (pc oV 0) (pc y4 0)) (.an (ah (pc oV 1) (pc y4 1)) pT)))
 (.ret (.mk [(pc (.setc o4 0 y4) 0),(pc (.setc o4 0 y4) 1)]))
 (.next ⟨[],[]⟩)))))
 (.ite (ah r8 (pi 6))
 (.chk (aD r1 (pi 1))
 (.chk (.nt (.an (.an (pc oV 0) pT) (.nt (aD r1 (pi 1)))))
 (.chk (.nt (.an (.an (pc oV 0) pT) (.nt (aD r1 (pi 2)))))
 (.ite (.pick (pc oV 0) (.an (.cb .eql (pc oV 0) (pc (pn r1 (pi 2)) 0)) (.an (ah (pc oV 1) (pc (pn r1 (pi 2)) 1)) pT)) pF)
 (.ret (.mk [(pc (.setc o4 0 oV) 0),(pc (.setc o4 0 oV) 1)]))
 (.ret De)))))
 (.next ⟨[],[]⟩))
 (.next ⟨[],[]⟩))
 (.next ⟨[],[]⟩))
 (.chk (aD r1 (pi 0))
 (.chk (.nt (.an (.an (.nt (.nt (pc (pn r1 (pi 0)) 0))) pT) (.nt (aD r1 (pi 1)))))
 (.ite (.pick (.nt (pc (pn r1 (pi 0)) 0)) pT (.nt (pc oV 0)))
 (.ret De)
 (.chk (aD r1 (pi 1))
 (.blockS ⟨[(81,r0),(7,(pc oV 1)),(6,(pc (pn r1 (pi 0)) 1))],[]⟩ 1 [82,83,88,89,94,95] [4]
 (.iteS ⟨[],[]⟩ (.pick (ah tW (pi 4)) (ah tW (pi 4)) (ah tW (pi 5))) [88,89,94,95] [4]
 (.call ⟨[],[]⟩ [] 87 222 [(ah r0 (pi 4))]
 (.ret (.mk [(pc (.setc o4 0 ze) 0),(pc (.setc o4 0 ze) 1)])))
 (.iteS ⟨[],[]⟩ (ah tW (pi 7)) [94,95] [4]
 (.call ⟨[],[]⟩ [] 93 222 [(aq r6 r7)]
 (.ret (.mk [(pc (.setc o4 0 Si) 0),(pc (.setc o4 0 Si) 1)])))
 (.iteS ⟨[],[]⟩ (ah tW (pi 8)) [] [4]
 (.call ⟨[],[]⟩ [] 99 222 [(ah r6 r7)]
 (.ret (.mk [(pc (.setc o4 0 r99) 0),(pc (.setc o4 0 r99) 1)])))
 (.next ⟨[],[]⟩)
 (.next ⟨[],[]⟩))
 (.next ⟨[],[]⟩))
 (.next ⟨[],[]⟩))
 (.call ⟨[],[]⟩ [] 103 224 [r0,r6,r7]
 (.ret (.mk [(pc (.setc o4 0 (.mk [pT,afn])) 0),(pc (.setc o4 0 (.mk [pT,afn])) 1)])))))))))
def aro (b:Nat→PC):PT×List (Shp×PT):=(Vv,[])
theorem aeo:Gp.map told=some (aro (au Gp)):=by kernel_rfl
theorem aBN:tree KO=Vv:=ay aeo
theorem amZ:Gp=some KO:=ax aeo
noncomputable def Gn:Option PC:=aw {ctx with fr:=[6,8,14,20,25],nh:=[]} Tryz.f224 ((aa ae 224).getD default) []
noncomputable def KM:PC:=av Gn
def Vt:PT:=
 (.blockS ⟨[(7,r0)],[]⟩ 0 [6,8,9,14,15,20,21,25,26] []
 (.iteS ⟨[],[]⟩ (ah r7 (pi 9)) [6,14,15,20,21,25,26] []
 (.call ⟨[],[]⟩ [] 13 223 [(aH r1 r2)]
 (.ret cB))
 (.iteS ⟨[],[]⟩ (ah r7 (pi 10)) [6,20,21,25,26] []
 (.call ⟨[],[]⟩ [] 19 223 [(bJ r1 r2)]
 (.ret iK))
 (.iteS ⟨[],[]⟩ (ah r7 (pi 11)) [6,25,26] []
 (.call ⟨[],[]⟩ [] 24 228 [r1,r2]
 (.ret qw))
 (.ite (ah r7 (pi 12))
 (.ret (.mn r1 r2))
 (.next ⟨[],[]⟩))
 (.next ⟨[],[]⟩))
 (.next ⟨[],[]⟩))
 (.next ⟨[],[]⟩))
 (.ret (.mx r1 r2)))
def arl (b:Nat→PC):PT×List (Shp×PT):=(Vt,[])
theorem aen:Gn.map told=some (arl (au Gn)):=by kernel_rfl
theorem aBL:tree KM=Vt:=ay aen
theorem amX:Gn=some KM:=ax aen
noncomputable def Gt:Option PC:=aw {ctx with fr:=[4,5,6,7],nh:=[]} Tryz.f228 ((aa ae 228).getD default) []
noncomputable def KU:PC:=av Gt
def Vz:PT:=
 (.call ⟨[],[]⟩ [] 19 153 [(.conv .u64 (.mx r0 (bJ (pi 0) r0))),(.conv .u64 (.mx r1 (bJ (pi 0) r1)))]
 (.ite (.cb .neq (aq r0 (pi 0)) (aq r1 (pi 0)))
 (.ret (bJ (pi 0) ae9))
 (.ret ae9)))
def arv (b:Nat→PC):PT×List (Shp×PT):=(Vz,[])
theorem aes:Gt.map told=some (arv (au Gt)):=by kernel_rfl
theorem aBS:tree KU=Vz:=ay aes
theorem am5:Gt=some KU:=ax aes
noncomputable def Fj:Option PC:=aw {ctx with fr:=[4,5,6,7,8,9,10,11,12,13],nh:=[]} Tryz.f153 ((aa ae 153).getD default) []
noncomputable def I9:PC:=av Fj
def TZ:PT:=
 (.chk yZ
 (.ret (.tup [(.ai .add .u64 (.ai .add .u64 (.ai .mul .u64 rQ (.ai .shr .u64 r1 tN)) (.ai .shr .u64 ae7 tN)) (.ai .shr .u64 (.ai .add .u64 (.ai .and .u64 ae7 wv) (.ai .mul .u64 (.ai .and .u64 r0 wv) (.ai .shr .u64 r1 tN))) tN)),(.ai .mul .u64 r0 r1)])))
def apH (b:Nat→PC):PT×List (Shp×PT):=(TZ,[])
theorem ado:Fj.map told=some (apH (au Fj)):=by kernel_rfl
theorem aAh:tree I9=TZ:=ay ado
theorem alh:Fj=some I9:=ax ado
noncomputable def AT:Option PC:=aw {ctx with fr:=[2,3,5,8],nh:=[]} Tryz.f207 ((aa ae 207).getD default) [6]
noncomputable def Kp:PC:=av AT
noncomputable def Ad:Nat→PC:=bx AT
def awl (b:Nat→PC):PC:=.block 0 [3,11,12] [] (.loop [3,11] [] (b 0))
def awm (b:Nat→PC):PC:=.block 2 [6,27,28] [6] (.loop [6,27] [6] (b 1))
def LY (b:Nat→PC):PT:=
 (.ite (aq bp cP)
 (.chk (aD r9 bp)
 (.ite (aq (aH r3 (.llen (pn r9 bp))) (pi 0))
 (.chk (.nt pT)
 (.chk (.nt pT)
 (.next ⟨[(3,(aH r3 (.llen (pn r9 bp)))),(11,(aH bp (pi 1)))],[]⟩)))
 (.next ⟨[(3,(aH r3 (.llen (pn r9 bp)))),(11,(aH bp (pi 1)))],[]⟩)))
 (.exit 0 ⟨[(12,(aq bp cP))],[]⟩))
def LZ (b:Nat→PC):PT:=
 (.ite (aq eG nM)
 (.chk (aD iL eG)
 (.chk (bz (.llen (.app o6 (pn iL eG))) cO)
 (.next ⟨[(6,pN),(27,(aH eG (pi 1)))],[(6,(.app o6 (pn iL eG)))]⟩)))
 (.exit 2 ⟨[(28,(aq eG nM))],[]⟩))
def U9 (b:Nat→PC):PT:=
 (.brk ⟨[(11,(pi 0)),(10,(.llen r0)),(9,r0),(3,(pi 0))],[]⟩
(awl b)
 (.call ⟨[],[]⟩ [] 24 225 [pL,r3]
 (.brk ⟨[(27,(pi 0)),(26,(.llen r0)),(25,r0),(6,pN)],[(6,qw)]⟩
(awm b)
 (.ret o6))))
def aqX (b:Nat→PC):PT×List (Shp×PT):=(U9 b,[(.lp 0 [3,11,12] [] [3,11] [],LY b),(.lp 2 [6,27,28] [6] [6,27] [6],LZ b)])
theorem IB:AT.map told=some (aqX (au AT)):=by kernel_rfl
theorem aBs:tree Kp=U9 Ad:=ay IB
theorem afS:round 0 [3,11,12] [] [3,11] [] (Ad 0)=LY Ad:=bt IB 0 fun _=>rfl
theorem afT:round 2 [6,27,28] [6] [6,27] [6] (Ad 1)=LZ Ad:=bt IB 1 fun _=>rfl
theorem amB:AT=some Kp:=ax IB
noncomputable def E7:Option PC:=aw {ctx with fr:=[2,3,7,12],nh:=[]} Tryz.f33 ((aa ae 33).getD default) [1]
noncomputable def IX:PC:=av E7
def TM:PT:=
 (.ite (aL (pc (.mk [r0]) 4) (pi 0))
 (.ret (pi 0))
 (.ite (.nt lH)
 (.ret (pi 2))
 (.ite (aL oU (pi 0))
 (.ret (pi 1))
 (.ret (pi 0)))))
def apt (b:Nat→PC):PT×List (Shp×PT):=(TM,[])
theorem adb:E7.map told=some (apt (au E7)):=by kernel_rfl
theorem az3:tree IX=TM:=ay adb
theorem ak3:E7=some IX:=ax adb
noncomputable def E5:Option PC:=aw {ctx with fr:=[8,9,10,11],nh:=[]} Tryz.f32 ((aa ae 32).getD default) [4,6]
noncomputable def IV:PC:=av E5
def TK:PT:=
 (.call ⟨[],[(6,(.mk [r2])),(4,(.mk [r0]))]⟩ [] 14 20 [(ao 19 (.mk [r2])),r3]
 (.ite (ah (.llen (pc (.setc o6 0 dc) 15)) (pi 0))
 (.ret (pi (-1)))
 (.call ⟨[],[(6,(.setc o6 0 dc))]⟩ [] 23 57 [(ao 8 o4),r1,(pi 6),(ao 19 (.setc o6 0 dc)),r3]
 (.call ⟨[],[]⟩ [] 24 56 [fF]
 (.call ⟨[(29,(ao 15 o6)),(27,(ao 8 o4)),(9,(.mx qw (pi 0)))],[]⟩ [] 31 81 [(ao 19 o6)]
 (.call ⟨[],[]⟩ [] 33 80 [eG,qx,oX,r9]
 (.ite (aL (.tget tS 1) (pi 0))
 (.ret (pi (-1)))
 (.ret (.tget tS 0)))))))))
def apr (b:Nat→PC):PT×List (Shp×PT):=(TK,[])
theorem ac9:E5.map told=some (apr (au E5)):=by kernel_rfl
theorem az1:tree IV=TK:=ay ac9
theorem ak1:E5=some IV:=ax ac9
noncomputable def E6:Option PC:=aw {ctx with fr:=[2],nh:=[]} Tryz.f56 ((aa ae 56).getD default) [1]
noncomputable def IW:PC:=av E6
def TL:PT:=
 (.ite (.pick (aL (pc (.mk [r0]) 4) (pi 0)) pT (.nt lH))
 (.ret (pi (-1)))
 (.ret oU))
def aps (b:Nat→PC):PT×List (Shp×PT):=(TL,[])
theorem ada:E6.map told=some (aps (au E6)):=by kernel_rfl
theorem az2:tree IW=TL:=ay ada
theorem ak2:E6=some IW:=ax ada
noncomputable def AR:Option PC:=aw {ctx with fr:=[2,4],nh:=[]} Tryz.f81 ((aa ae 81).getD default) [1,3,6,8]
noncomputable def Kj:PC:=av AR
noncomputable def Ab:Nat→PC:=bx AR
def awj (b:Nat→PC):PC:=.block 0 [3,16,17] [3] (.loop [3,16] [3] (b 0))
def awk (b:Nat→PC):PC:=.block 2 [2,3,36,37] [3] (.loop [2,3,36] [3] (b 1))
def DR (b:Nat→PC):PT:=
 (.ite (aq cQ cm)
 (.chk (aD dc cQ)
 (.ite (.pick (ah r4 (pi 1)) (ah (pc (.setc z9 0 qs) 0) (pi 1)) pF)
 (.chk (bz (.llen (.app o3 (.lst [(pc (.setc z9 0 qs) 6)]))) cO)
 (.next ⟨[(3,pN),(16,(aH cQ (pi 1)))],[(3,(.app o3 (.lst [(pc (.setc z9 0 qs) 6)])))]⟩))
 (.next ⟨[(16,(aH cQ (pi 1)))],[]⟩)))
 (.exit 0 ⟨[(17,(aq cQ cm))],[]⟩))
def wL (b:Nat→PC):PT:=
 (.ite (aq gW nN)
 (.chk (aD Sb gW)
 (.ite (.pick (ah r4 (pi 0)) (ah (pc Dl 0) (pi 2)) pF)
 (.ret (pc Dl 6))
 (.ite (.pick (ah r4 (pi 1)) (ah (pc Dl 0) (pi 1)) pF)
 (.chk (bz (.llen (.app o3 (.lst [(pc Dl 6)]))) cO)
 (.next ⟨[(3,pN),(36,(aH gW (pi 1)))],[(3,(.app o3 (.lst [(pc Dl 6)])))]⟩))
 (.next ⟨[(36,(aH gW (pi 1)))],[]⟩))))
 (.exit 2 ⟨[(37,(aq gW nN))],[]⟩))
def U5 (b:Nat→PC):PT:=
 (.brk ⟨[(16,(pi 0)),(15,(.llen nK)),(14,nK),(4,y1),(3,pN),(2,(pi 0))],[(3,pL),(1,(.mk [r0]))]⟩
(awj b)
 (.brk ⟨[(36,(pi 0)),(35,(.llen (pc o1 17))),(34,(pc o1 17))],[]⟩
(awk b)
 (.ite (ah (.llen o3) (pi 0))
 (.ret (pi (-1)))
 (.call ⟨[],[]⟩ [] 66 129 [o3]
 (.ret r66)))))
def aqS (b:Nat→PC):PT×List (Shp×PT):=(U5 b,[(.lp 0 [3,16,17] [3] [3,16] [3],DR b),(.lp 2 [2,3,36,37] [3] [2,3,36] [3],wL b)])
theorem Iz:AR.map told=some (aqS (au AR)):=by kernel_rfl
theorem aBn:tree Kj=U5 Ab:=ay Iz
theorem SN:round 0 [3,16,17] [3] [3,16] [3] (Ab 0)=DR Ab:=bt Iz 0 fun _=>rfl
theorem DS:round 2 [2,3,36,37] [3] [2,3,36] [3] (Ab 1)=wL Ab:=bt Iz 1 fun _=>rfl
theorem amw:AR=some Kj:=ax Iz
noncomputable def AZ:Option PC:=aw {ctx with fr:=[2,3,4],nh:=[]} Tryz.f129 ((aa ae 129).getD default) []
noncomputable def KA:PC:=av AZ
noncomputable def NK:Nat→PC:=bx AZ
def aap (b:Nat→PC):PC:=.block 0 [3,4,12,13,14,15] [] (.loop [3,4] [] (b 0))
def L1 (b:Nat→PC):PT:=
 (.ite (aq r4 (.llen r0))
 (.chk (aD r0 r4)
 (.next ⟨[(3,(.mn r3 (pn r0 r4))),(4,(aH r4 (pi 1)))],[]⟩))
 (.exit 0 ⟨[(12,r4),(13,r0),(14,(.llen r0)),(15,(aq r4 (.llen r0)))],[]⟩))
def Vj (b:Nat→PC):PT:=
 (.ite (aq (.llen r0) (pi 1))
 (.chk (.nt pT)
 (.chk (.nt pT)
 (.chk (aD r0 (pi 0))
 (.brk ⟨[(4,(pi 1)),(3,(pn r0 (pi 0)))],[]⟩
(aap b)
 (.ret r3)))))
 (.chk (aD r0 (pi 0))
 (.brk ⟨[(4,(pi 1)),(3,(pn r0 (pi 0)))],[]⟩
(aap b)
 (.ret r3))))
def aq7 (b:Nat→PC):PT×List (Shp×PT):=(Vj b,[(.lp 0 [3,4,12,13,14,15] [] [3,4] [],L1 b)])
theorem Rt:AZ.map told=some (aq7 (au AZ)):=by kernel_rfl
theorem aBC:tree KA=Vj NK:=ay Rt
theorem afU:round 0 [3,4,12,13,14,15] [] [3,4] [] (NK 0)=L1 NK:=bt Rt 0 fun _=>rfl
theorem amL:AZ=some KA:=ax Rt
noncomputable def Gd:Option PC:=aw {ctx with fr:=[8,9,15,39,58,74,11,12],nh:=[]} Tryz.f80 ((aa ae 80).getD default) [4,5,10]
noncomputable def KB:PC:=av Gd
def Er:PT:=
 (.blockS ⟨[],[(10,(.setc z3 0 (.mk [(pc (.mk [r1]) 5),(pc (.mk [r1]) 6),(pc (.mk [r1]) 7)]))),(5,(.mk [r1])),(4,(.mk [r0]))]⟩ 0 [8,9,15,16,17,18,19,25,26,32,33,38,39,40,41,42,43,47,48,52,53,57,58,59,60,61,65,66,69,70,73,74,75,76,77,80] []
 (.call ⟨[],[]⟩ [] 17 89 [(ao 8 o4)]
 (.call ⟨[(19,(aL kP (pi 0)))],[]⟩ [(19,false)] 23 124 [(ao 8 o4),(pc o5 9)]
 (.call ⟨[(26,(.pick iK pT (.nt fF)))],[]⟩ [(26,false)] 30 124 [(ao 8 o4),(pc o5 10)]
 (.call ⟨[(33,(.pick nM pT (.nt mS)))],[]⟩ [(33,false)] 36 125 [(pc o5 8)]
 (.iteS ⟨[],[]⟩ (.pick tS pT (.nt gW)) [8,9,39,40,41,42,43,47,48,52,53,57,58,59,60,61,65,66,69,70,73,74,75,76,77,80] []
 (.ret (.tup [(pi 0),(pi 1)]))
 (.iteS ⟨[],[]⟩ (.pick (.pick (.pick (aq (pc bQ 0) (pi 0)) pT (aY (pc bQ 0) (pi 5))) pT (aq (pc bQ 2) (pi 0))) pT (aY (pc bQ 2) (pi 2))) [8,9,58,59,60,61,65,66,69,70,73,74,75,76,77,80] []
 (.ret (.tup [(pi 0),(pi 1)]))
 (.call ⟨[(61,(aL r2 (pi (-1))))],[]⟩ [(61,true)] 63 125 [r2]
 (.iteS ⟨[],[]⟩ (.pick (.pick (.pick Sd (.nt LF) pF) pT (aq r3 (pi 0))) pT (bj r3 (pi 20000))) [8,9,74,75,76,77,80] []
 (.ret (.tup [(pi 0),(pi 1)]))
 (.call ⟨[],[]⟩ [] 76 126 [(.mk [(pc bQ 0),(pc bQ 1),(pc bQ 2)])]
 (.ite (.pick rU (ah r2 (pi (-1))) pF)
 (.ret (.tup [(pi 0),(pi 4)]))
 (.next ⟨[],[]⟩)))
 (.next ⟨[],[]⟩)))
 (.next ⟨[],[]⟩))
 (.next ⟨[],[]⟩))))))
 (.call ⟨[],[]⟩ [] 85 127 [(ao 8 o4),(ao 15 o5),r2]
 (.ite (aL (.tget Dp 1) (pi 0))
 (.ret (.tup [(pi 0),(.tget Dp 1)]))
 (.call ⟨[(11,(.tget Dp 0))],[]⟩ [] 92 125 [(.tget Dp 0)]
 (.ite (.pick (.nt Sg) pT (bj (aH bp r3) (pi 100000)))
 (.ret (.tup [(pi 0),(pi 3)]))
 (.call ⟨[],[]⟩ [] 106 128 [(ao 8 o4),(pc o5 10),(aH bp r3)]
 (.ret (.tup [(.tget R8 0),(.tget R8 1)]))))))))
def aq8 (b:Nat→PC):PT×List (Shp×PT):=(Er,[])
theorem aee:Gd.map told=some (aq8 (au Gd)):=by kernel_rfl
theorem Vk:tree KB=Er:=ay aee
theorem amM:Gd=some KB:=ax aee
noncomputable def AF:Option PC:=aw {ctx with fr:=[2,3,4,5,6,7,10,11,12],nh:=[]} Tryz.f89 ((aa ae 89).getD default) [1,9]
noncomputable def J0:PC:=av AF
noncomputable def Nx:Nat→PC:=bx AF
def avZ (b:Nat→PC):PC:=.block 0 [2,38,39] [] (.loop [2,38] [] (b 0))
def DD (b:Nat→PC):PT:=
 (.ite (aq kR kQ)
 (.blockS ⟨[],[]⟩ 1 [2,9,40,41,42,43,44,45] [9]
 (.chk (aD gW kR)
 (.call ⟨[],[]⟩ [] 44 146 [(pc (.setc Db 0 (pn gW kR)) 0),(pi 10)]
 (.ite (.nt wF)
 (.ret (pi 1))
 (.next ⟨[],[]⟩))))
 (.next ⟨[(38,(aH kR (pi 1)))],[]⟩))
 (.exit 0 ⟨[(39,(aq kR kQ))],[]⟩))
def UL (b:Nat→PC):PT:=
 (.call ⟨[(2,(pi 0))],[(1,(.mk [r0]))]⟩ [] 15 141 [ko]
 (.call ⟨[(5,(.tget cm 2)),(4,(.tget cm 1)),(3,(.tget cm 0))],[]⟩ [] 21 142 [(pc o1 0),(pi 8),(.con (.clo 143 []))]
 (.ite (aL jU (pi 0))
 (.ret jU)
 (.call ⟨[],[(1,(ao 8 o1))]⟩ [] 27 142 [r3,(pi 40),(.clo 144 [(.ref (ao 8 o1))])]
 (.ite (aL eG (pi 0))
 (.ret eG)
 (.ite (bj (.llen (pc o1 2)) (pi 20))
 (.ret (pi 6))
 (.brk ⟨[(38,(pi 0)),(37,(.llen (pc o1 2))),(36,(pc o1 2))],[]⟩
(avZ b)
 (.call ⟨[],[]⟩ [] 49 142 [r4,(pi 200),(.clo 147 [(.ref o1)])]
 (.ite (aL qz (pi 0))
 (.ret qz)
 (.call ⟨[],[]⟩ [] 55 142 [r5,(pi 20),(.clo 148 [(.ref o1)])]
 (.ite (aL tU (pi 0))
 (.ret tU)
 (.call ⟨[],[]⟩ [] 60 150 [(.sub o1 0 8)]
 (.ite (aL wG (pi 0))
 (.ret wG)
 (.call ⟨[],[]⟩ [] 65 151 [(.sub o1 0 8)]
 (.ret zc)))))))))))))))
def aqz (b:Nat→PC):PT×List (Shp×PT):=(UL b,[(.lp 0 [2,38,39] [] [2,38] [],DD b)])
theorem Rh:AF.map told=some (aqz (au AF)):=by kernel_rfl
theorem aA8:tree J0=UL Nx:=ay Rh
theorem Sy:round 0 [2,38,39] [] [2,38] [] (Nx 0)=DD Nx:=bt Rh 0 fun _=>rfl
theorem amh:AF=some J0:=ax Rh
noncomputable def AK:Option PC:=aw {ctx with fr:=[],nh:=[]} Tryz.f141 ((aa ae 141).getD default) [1,2,3,4,6,16390,20486,24582,21,8,34,10,12298,16394,47]
noncomputable def Kc:PC:=av AK
noncomputable def uJ:Nat→PC:=bx AK
def av4 (b:Nat→PC):PC:=.block 0 [2,14,15] [2] (.loop [2,14] [2] (b 0))
def av5 (b:Nat→PC):PC:=.block 2 [3,27,28] [3] (.loop [3,27] [3] (b 1))
def av6 (b:Nat→PC):PC:=.block 4 [4,40,41] [4] (.loop [4,40] [4] (b 2))
def LS (b:Nat→PC):PT:=
 (.ite mR
 (.chk (aD cn dc)
 (.chk (bz (.llen afa) cO)
 (.next ⟨[(2,pN),(14,y2)],[(2,afa)]⟩)))
 (.exit 0 ⟨[(15,mR)],[]⟩))
def LU (b:Nat→PC):PT:=
 (.ite (aq eG nM)
 (.chk (aD iL eG)
 (.chk (bz (.llen afg) cO)
 (.next ⟨[(3,pN),(27,(aH eG (pi 1)))],[(3,afg)]⟩)))
 (.exit 2 ⟨[(28,(aq eG nM))],[]⟩))
def LV (b:Nat→PC):PT:=
 (.ite (aq rR tT)
 (.chk (aD kR rR)
 (.chk (bz (.llen afd) cO)
 (.next ⟨[(4,pN),(40,(aH rR (pi 1)))],[(4,afd)]⟩)))
 (.exit 4 ⟨[(41,(aq rR tT))],[]⟩))
def UY (b:Nat→PC):PT:=
 (.brk ⟨[(14,(pi 0)),(13,(.llen oU)),(12,oU),(4,pN),(3,pN),(2,pN)],[(4,pL),(3,pL),(2,pL),(1,(.mk [r0]))]⟩
(av4 b)
 (.brk ⟨[(27,(pi 0)),(26,y3),(25,(pc o1 3))],[]⟩
(av5 b)
 (.brk ⟨[(40,(pi 0)),(39,tO),(38,(pc o1 4))],[]⟩
(av6 b)
 (.ret (.tup [o2,o3,o4])))))
def aqL (b:Nat→PC):PT×List (Shp×PT):=(UY b,[(.lp 0 [2,14,15] [2] [2,14] [2],LS b),(.lp 2 [3,27,28] [3] [3,27] [3],LU b),(.lp 4 [4,40,41] [4] [4,40] [4],LV b)])
theorem CZ:AK.map told=some (aqL (au AK)):=by kernel_rfl
theorem aBg:tree Kc=UY uJ:=ay CZ
theorem afO:round 0 [2,14,15] [2] [2,14] [2] (uJ 0)=LS uJ:=bt CZ 0 fun _=>rfl
theorem afP:round 2 [3,27,28] [3] [3,27] [3] (uJ 1)=LU uJ:=bt CZ 1 fun _=>rfl
theorem afQ:round 4 [4,40,41] [4] [4,40] [4] (uJ 2)=LV uJ:=bt CZ 2 fun _=>rfl
theorem amp:AK=some Kc:=ax CZ
noncomputable def AI:Option PC:=aw {ctx with fr:=[6,7,8],nh:=[]} Tryz.f142 ((aa ae 142).getD default) []
noncomputable def J8:PC:=av AI
noncomputable def NA:Nat→PC:=bx AI
def av2 (b:Nat→PC):PC:=.block 0 [6,15,16] [] (.loop [6,15] [] (b 0))
def DG (b:Nat→PC):PT:=
 (.ite (aq cm dc)
 (.blockS ⟨[],[]⟩ 1 [6,7,8,17,18,19,20,21,22,24,25,26,27] []
 (.call ⟨[(7,cm)],[]⟩ [] 20 184 [r0,cm]
 (.ite (aL dG (pi 0))
 (.ret dG)
 (.callc ⟨[],[]⟩ [] 26 r2 [r7]
 (.ite (.nt nM)
 (.ret (pi 1))
 (.next ⟨[],[]⟩)))))
 (.next ⟨[(15,(aH cm (pi 1)))],[]⟩))
 (.exit 0 ⟨[(16,(aq cm dc))],[]⟩))
def UT (b:Nat→PC):PT:=
 (.ite (bj (.llen r0) r1)
 (.ret (pi 6))
 (.brk ⟨[(15,(pi 0)),(14,(.llen r0)),(6,(pi 0))],[]⟩
(av2 b)
 (.ret (pi 0))))
def aqH (b:Nat→PC):PT×List (Shp×PT):=(UT b,[(.lp 0 [6,15,16] [] [6,15] [],DG b)])
theorem Rk:AI.map told=some (aqH (au AI)):=by kernel_rfl
theorem aBc:tree J8=UT NA:=ay Rk
theorem SB:round 0 [6,15,16] [] [6,15] [] (NA 0)=DG NA:=bt Rk 0 fun _=>rfl
theorem aml:AI=some J8:=ax Rk
noncomputable def F5:Option PC:=aw {ctx with fr:=[4],nh:=[]} Tryz.f184 ((aa ae 184).getD default) []
noncomputable def Kb:PC:=av F5
def UX:PT:=
 (.chk (aD r0 r1)
 (.call ⟨[],[]⟩ [] 9 208 [(pn r0 r1)]
 (.ite (.nt r9)
 (.ret (pi 2))
 (.chk (.slok r0 (pi 0) r1)
 (.chk (aD r0 r1)
 (.call ⟨[],[]⟩ [] 18 209 [(.slc r0 (pi 0) r1),(pn r0 r1)]
 (.ite cT
 (.ret (pi 5))
 (.ret (pi 0)))))))))
def aqK (b:Nat→PC):PT×List (Shp×PT):=(UX,[])
theorem ad6:F5.map told=some (aqK (au F5)):=by kernel_rfl
theorem aBf:tree Kb=UX:=ay ad6
theorem amo:F5=some Kb:=ax ad6
noncomputable def AJ:Option PC:=aw {ctx with fr:=[2,3,4,5],nh:=[]} Tryz.f208 ((aa ae 208).getD default) []
noncomputable def Ka:PC:=av AJ
noncomputable def NB:Nat→PC:=bx AJ
def av3 (b:Nat→PC):PC:=.block 0 [2,16,17] [] (.loop [2,16] [] (b 0))
def DH (b:Nat→PC):PT:=
 (.ite (aq cQ cm)
 (.chk (aD dc cQ)
 (.ite (.pick (.nt (.pick (.pick (aY qs (.con (.v (.int .u8 97)))) (bz qs (.con (.v (.int .u8 122)))) pF) pT (.pick (aY qs (.con (.v (.int .u8 65)))) (bz qs (.con (.v (.int .u8 90)))) pF))) (.pick (ah cQ (pi 0)) pT (.pick (aL qs (.con (.v (.int .u8 95)))) (.pick (aq qs (.con (.v (.int .u8 48)))) pT (bj qs (.con (.v (.int .u8 57))))) pF)) pF)
 (.ret pF)
 (.next ⟨[(16,(aH cQ (pi 1)))],[]⟩)))
 (.exit 0 ⟨[(17,(aq cQ cm))],[]⟩))
def UW (b:Nat→PC):PT:=
 (.ite (.pick (.cs .eql r0 (.con (.v (.string ⟨#[]⟩)))) pT (bj (.slen r0) (pi 20)))
 (.ret pF)
 (.chk (bz (.slen r0) cO)
 (.brk ⟨[(16,(pi 0)),(15,(.llen (.bytes r0))),(14,(.bytes r0)),(2,pF)],[]⟩
(av3 b)
 (.ret pT))))
def aqJ (b:Nat→PC):PT×List (Shp×PT):=(UW b,[(.lp 0 [2,16,17] [] [2,16] [],DH b)])
theorem Rl:AJ.map told=some (aqJ (au AJ)):=by kernel_rfl
theorem aBe:tree Ka=UW NB:=ay Rl
theorem SC:round 0 [2,16,17] [] [2,16] [] (NB 0)=DH NB:=bt Rl 0 fun _=>rfl
theorem amn:AJ=some Ka:=ax Rl
noncomputable def Gc:Option PC:=aw {ctx with fr:=[4],nh:=[]} Tryz.f209 ((aa ae 209).getD default) []
noncomputable def Kt:PC:=av Gc
def Vd:PT:=
 (.call ⟨[],[]⟩ [] 7 226 [r0,r1]
 (.ret (aY r7 (pi 0))))
def aq1 (b:Nat→PC):PT×List (Shp×PT):=(Vd,[])
theorem aed:Gc.map told=some (aq1 (au Gc)):=by kernel_rfl
theorem aBw:tree Kt=Vd:=ay aed
theorem amF:Gc=some Kt:=ax aed
noncomputable def AY:Option PC:=aw {ctx with fr:=[4,5],nh:=[]} Tryz.f226 ((aa ae 226).getD default) []
noncomputable def Kz:PC:=av AY
noncomputable def NJ:Nat→PC:=bx AY
def awr (b:Nat→PC):PC:=.block 0 [4,8,9] [] (.loop [4,8] [] (b 0))
def DX (b:Nat→PC):PT:=
 (.ite (aq r8 r7)
 (.chk (aD r0 r8)
 (.ite (.cs .eql r1 (pn r0 r8))
 (.ret r8)
 (.next ⟨[(8,tQ)],[]⟩)))
 (.exit 0 ⟨[(9,(aq r8 r7))],[]⟩))
def Vi (b:Nat→PC):PT:=
 (.brk ⟨[(8,(pi 0)),(7,(.llen r0)),(4,(pi 0))],[]⟩
(awr b)
 (.ret (pi (-1))))
def aq6 (b:Nat→PC):PT×List (Shp×PT):=(Vi b,[(.lp 0 [4,8,9] [] [4,8] [],DX b)])
theorem Rs:AY.map told=some (aq6 (au AY)):=by kernel_rfl
theorem aBB:tree Kz=Vi NJ:=ay Rs
theorem SV:round 0 [4,8,9] [] [4,8] [] (NJ 0)=DX NJ:=bt Rs 0 fun _=>rfl
theorem amK:AY=some Kz:=ax Rs
end Rm
