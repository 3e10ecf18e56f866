/-
  The functions of this seat, compiled (1).
-/
import Derived.Test.YtbeeplempgffoaaGreatDoorQAH
import Derived.KernelRfl
set_option linter.unusedVariables false
set_option maxRecDepth 100000
noncomputable section
namespace Rm
open Go Go.Proofs Cx
def GD:Option PC:=cF [14,15,16,17,19,21] [] Tryz.f3 3 [7,9,18,20]
def TQ:PT:=
 (.call ⟨[],[(9,(.mk [r2])),(7,(.mk [r0]))]⟩ [] 22 5 []
 (.call ⟨[(15,AJ)],[]⟩ [] 25 6 [(ar 8 o7),(ar 19 o9)]
 (.ite (.nt eB)
 (.ret dx)
 (.chk (aP (pi 3) (pi 0))
 (.call ⟨[(17,(.ai .rem .i64 (.conv .i64 r6) (pi 3))),(16,(.ai .rem .i64 (.conv .i64 r5) (pi 3)))],[]⟩ [] 40 7 [(ar 8 o7),r1,(ar 19 o9),r3,r4]
 (.call ⟨[(19,(.tget lJ 1))],[(18,(.setc rV 0 (.tget lJ 0)))]⟩ [] 49 8 [(ar 8 o7),r1,(ar 19 o9),r3,r4]
 (.call ⟨[(63,(.pick (.pick dx (.an (ak (pc (ar 7 wC) 0) (pc wW 0)) (.an (ak (pc (ar 7 wC) 1) (pc wW 1)) (.an (ak (pc (ar 7 wC) 2) (pc wW 2)) (.an (ak (pc (ar 7 wC) 3) (pc wW 3)) (.an (ak (pc (ar 7 wC) 4) (pc wW 4)) (.an (ak (pc (ar 7 wC) 5) (pc wW 5)) (.an (.cb .eql (pc (ar 7 wC) 6) (pc wW 6)) pT))))))) pF) (.cb .eql fA (.tget nH 1)) pF))],[]⟩ [(63,true)] 68 10 [(ar 8 o7),r1,(ar 19 o9),r4]
 (.call ⟨[],[]⟩ [(63,true)] 73 11 [(ar 8 o7),r1,(ar 19 o9),r4]
 (.call ⟨[],[]⟩ [(63,true)] 74 9 [Ea,ql]
 (.call ⟨[(76,(.pick w7 Ko pF))],[]⟩ [(76,true)] 79 12 [dk,gf]
 (.call ⟨[],[]⟩ [(76,true)] 82 13 [dk,gf]
 (.ret (.pick qm (ak RG jO) pF)))))))))))))
theorem abx:GD.map told=some (TQ,[]):=by kernel_rfl
theorem atC:tree (ab GD)=TQ:=aI abx
def GG:Option PC:=cF [0,3,5,7] [] Tryz.f5 5 [1,2,4]
def TU:PT:=
 (.call ⟨[],[]⟩ [] 9 23 []
 (.call ⟨[(3,(.lst [(.mk [(pi 0),(pi 0),(pi 0),(pi 1),(pi 0),(pi 500),pT]),(.mk [(pi 1),(pi 1),(pi 1),(pi 2),(pi 0),(pi 400),pF]),(.mk [(pi 2),(pi 2),(pi 0),(pi 2),(pi 0),(pi 900),pT])]))],[(2,(.setc jL 0 (.tget r9 1))),(1,adB)]⟩ [] 19 7 [(ar 8 adB),(pi 0),(ar 19 (.setc jL 0 (.tget r9 1))),(pi 2),(pi 5)]
 (.call ⟨[(5,(.tget fA 1))],[(4,(.setc rV 0 (.tget fA 0)))]⟩ [] 25 7 [(ar 8 o1),(pi 0),(ar 19 o2),(pi 1),(pi 2)]
 (.call ⟨[(7,(.tget eB 1))],[]⟩ [] 30 10 [(ar 8 o1),(pi 0),(ar 19 o2),(pi 5)]
 (.call ⟨[],[]⟩ [] 32 9 [nE,r3]
 (.call ⟨[(33,lI)],[]⟩ [(33,true)] 36 10 [(ar 8 o1),(pi 0),(ar 19 o2),(pi 2)]
 (.chk (.nt (.an (.an mM pT) (.nt (.slok r3 (pi 0) (pi 1)))))
 (.call ⟨[],[]⟩ [(33,true)] 39 9 [il,(.slc r3 (pi 0) (pi 1))]
 (.chk (.nt (.an (.an (.pick mM uf pF) pT) (.nt (ao r3 (pi 2)))))
 (.call ⟨[(55,(.pick (.pick (.pick (.pick mM uf pF) (.an (ak (pc (ar 7 o4) 0) (pc wT 0)) (.an (ak (pc (ar 7 o4) 1) (pc wT 1)) (.an (ak (pc (ar 7 o4) 2) (pc wT 2)) (.an (ak (pc (ar 7 o4) 3) (pc wT 3)) (.an (ak (pc (ar 7 o4) 4) (pc wT 4)) (.an (ak (pc (ar 7 o4) 5) (pc wT 5)) (.an (.cb .eql (pc (ar 7 o4) 6) (pc wT 6)) pT))))))) pF) r5 pF) (.nt r7) pF))],[]⟩ [(55,true)] 56 12 [(pi 1),(pi 2)]
 (.call ⟨[(59,(.pick ug (ak oV (pi 2)) pF))],[]⟩ [(59,true)] 60 12 [(pi 2),(pi 0)]
 (.call ⟨[(63,(.pick RD (ak uh (pi 0)) pF))],[]⟩ [(63,true)] 64 12 [(pi 1),(pi 1)]
 (.ret (.pick w7 (ak AL (pi 1)) pF))))))))))))))
theorem abz:GG.map told=some (TU,[]):=by kernel_rfl
theorem atG:tree (ab GG)=TU:=aI abz
def xS:Option PC:=cF [] [] Tryz.f23 23 [0,1,2,12290,16386,16,3,24579,28675,32771,4,65540,69636,73732,77828]
theorem ahd:xS=some (ab xS):=asH (by kernel_rfl)
def GH:Option PC:=cF [] [] Tryz.f54 54 [2,12290]
def TV:PT:=
 (.ret (.mk [(pc (.setc ke 0 (.mk [(pi 2),r0,pL])) 0),(pc (.setc ke 0 (.mk [(pi 2),r0,pL])) 1),pL]))
theorem abA:GH.map told=some (TV,[]):=by kernel_rfl
theorem atH:tree (ab GH)=TV:=aI abA
def Gr:Option PC:=cF [11] [] Tryz.f7 7 [5,7,10,12]
def Tx:PT:=
 (.call ⟨[],[(10,rV)]⟩ [] 17 26 [gd,r1,tZ,r4]
 (.ite (.pick (ah r3 (pi 0)) pT (bN r3 (.llen (pc (.setc DV 0 gf) 25))))
 (.ret (.tup [adq,pF]))
 (.call ⟨[],[]⟩ [] 31 27 [(ar 31 (.setc DV 0 gf)),r3]
 (.ret (.tup [(ar 7 (.setc bI 0 kM)),pT])))))
theorem abh:Gr.map told=some (Tx,[]):=by kernel_rfl
theorem atj:tree (ab Gr)=Tx:=aI abh
def Gs:Option PC:=cF [] [] Tryz.f26 26 [4,6,8,9]
def TB:PT:=
 (.call ⟨[],[(8,DV),(4,(.mk [r0]))]⟩ [] 12 33 [tZ,r3]
 (.call ⟨[(16,(ar 19 (.setc jL 0 bR))),(15,r3),(14,r1),(13,(ar 8 o4))],[(9,(.setc jL 0 bR))]⟩ [] 21 35 [(ar 8 o4),r1,(pi 0),(ar 19 (.setc jL 0 bR)),r3]
 (.call ⟨[],[]⟩ [] 22 22 [fB]
 (.call ⟨[],[]⟩ [] 27 16 [(ar 8 o4),r1,(ar 19 o9),r3]
 (.ret (ar 31 (.setc o8 0 (.mk [cU,ct,dx,dk,AJ,eC]))))))))
theorem abi:Gs.map told=some (TB,[]):=by kernel_rfl
theorem atm:tree (ab Gs)=TB:=aI abi
def yP:Option PC:=cF [] [] Tryz.f33 33 [2,4,5,65541,69637,73733,77829,7,31,9,49,11,13]
def qW:Nat→PC:=bf yP
def aoV (b:Nat→PC):PC:=.block 0 [20,21] [65541,5] (.loop [20] [65541,5] (b 0))
def aoW (b:Nat→PC):PC:=.block 2 [38,39] [73733,5] (.loop [38] [73733,5] (b 1))
def aoX (b:Nat→PC):PC:=.block 4 [56,57] [5,69637] (.loop [56] [5,69637] (b 2))
def aoY (b:Nat→PC):PC:=.block 6 [76,77] [5,77829] (.loop [76] [5,77829] (b 3))
def EY (b:Nat→PC):PT:=
 (.ite (ah eA fA)
 (.chk (ao ij eA)
 (.ite (bj (pc (.setc z9 0 (pn ij eA)) 6) r1)
 (.exit 0 ⟨[(21,(ah eA fA))],[]⟩)
 (.chk (aX (.llen (.app (.o 65541) (.lst [(ar 9 (.setc z9 0 (pn ij eA)))]))) cj)
 (.next ⟨[(20,(aD eA (pi 1)))],[(65541,(.app (.o 65541) (.lst [(ar 9 (.setc z9 0 (pn ij eA)))]))),(5,(.setc o5 15 pN))]⟩))))
 (.exit 0 ⟨[(21,(ah eA fA))],[]⟩))
def EZ (b:Nat→PC):PT:=
 (.ite (ah iQ nG)
 (.chk (ao il iQ)
 (.ite (bj (pc (.setc z9 0 (pn il iQ)) 6) r1)
 (.exit 2 ⟨[(39,(ah iQ nG))],[]⟩)
 (.chk (aX (.llen (.app (.o 73733) (.lst [(ar 9 (.setc z9 0 (pn il iQ)))]))) cj)
 (.next ⟨[(38,(aD iQ (pi 1)))],[(73733,(.app (.o 73733) (.lst [(ar 9 (.setc z9 0 (pn il iQ)))]))),(5,(.setc o5 17 pN))]⟩))))
 (.exit 2 ⟨[(39,(ah iQ nG))],[]⟩))
def E0 (b:Nat→PC):PT:=
 (.ite (ah oV ug)
 (.chk (ao sd oV)
 (.ite (aX (pc (.setc z2 0 (pn sd oV)) 0) (.llen (.o 65541)))
 (.chk (aX (.llen adH) cj)
 (.next ⟨[(56,(aD oV (pi 1)))],[(5,(.setc o5 16 pN)),(69637,adH)]⟩))
 (.next ⟨[(56,(aD oV (pi 1)))],[]⟩)))
 (.exit 4 ⟨[(57,(ah oV ug))],[]⟩))
def E1 (b:Nat→PC):PT:=
 (.ite (ah qm Eb)
 (.blockS ⟨[],[]⟩ 7 [13,78,79,80,81,82,83,84,85] [13,77829,5]
 (.chk (ao Ko qm)
 (.call ⟨[],[(13,(.setc z3 0 (pn Ko qm)))]⟩ [] 85 72 [(pc (.setc z3 0 (pn Ko qm)) 1),(.llen (.o 65541))]
 (.ite Ec
 (.chk (aX (.llen adt) cj)
 (.next ⟨[],[(77829,adt),(5,(.setc o5 18 pN))]⟩))
 (.next ⟨[],[]⟩))))
 (.next ⟨[(76,(aD qm (pi 1)))],[]⟩))
 (.exit 6 ⟨[(77,(ah qm Eb))],[]⟩))
def Vp (b:Nat→PC):PT:=
 (.brk ⟨[(20,(pi 0)),(19,D2),(18,(pc (.mk [r0]) 15))],[(77829,pL),(73733,pL),(69637,pL),(65541,pL),(5,(.setc jL 0 (.mk [(ar 15 (.mk [r0])),pL,pL,pL,pL]))),(4,jL),(2,(.mk [r0]))]⟩
(aoV b)
 (.brk ⟨[(38,(pi 0)),(37,(.llen (pc o2 17))),(36,(pc o2 17))],[]⟩
(aoW b)
 (.brk ⟨[(56,(pi 0)),(55,wN),(54,(pc o2 16))],[]⟩
(aoX b)
 (.brk ⟨[(76,(pi 0)),(75,(.llen (pc o2 18))),(74,(pc o2 18))],[]⟩
(aoY b)
 (.ret (ar 19 (.setc o4 0 (.mk [(pc o5 0),(pc o5 1),(pc o5 2),(pc o5 3),(pc o5 4),(pc o5 5),(pc o5 6),(pc o5 7),(pc o5 8),(pc o5 9),(pc o5 10),(pc o5 11),(pc o5 12),(pc o5 13),(pc o5 14),(.o 65541),(.o 69637),(.o 73733),(.o 77829)]))))))))
def ajW (b:Nat→PC):PT×List (Shp×PT):=(Vp b,[(.lp 0 [20,21] [65541,5] [20] [65541,5],EY b),(.lp 2 [38,39] [73733,5] [38] [73733,5],EZ b),(.lp 4 [56,57] [5,69637] [56] [5,69637],E0 b),(.lp 6 [76,77] [5,77829] [76] [5,77829],E1 b)])
theorem Ar:yP.map told=some (ajW (aV yP)):=by kernel_rfl
theorem avv:tree (ab yP)=Vp qW:=bz Ar
theorem Sy:round 0 [20,21] [65541,5] [20] [65541,5] (qW 0)=EY qW:=aQ Ar 0 fun _=>rfl
theorem Sz:round 2 [38,39] [73733,5] [38] [73733,5] (qW 1)=EZ qW:=aQ Ar 1 fun _=>rfl
theorem SA:round 4 [56,57] [5,69637] [56] [5,69637] (qW 2)=E0 qW:=aQ Ar 2 fun _=>rfl
theorem SB:round 6 [76,77] [5,77829] [76] [5,77829] (qW 3)=E1 qW:=aQ Ar 3 fun _=>rfl
def HI:Option PC:=cF [4] [] Tryz.f72 72 []
def Vu:PT:=
 (.ret (.pick (bN r0 (pi 0)) (ah r0 r1) pF))
theorem acD:HI.map told=some (Vu,[]):=by kernel_rfl
theorem avB:tree (ab HI)=Vu:=aI acD
def Gg:Option PC:=cF [] [] Tryz.f35 35 [5,8,77832,10]
def Tp:PT:=
 (.call ⟨[],[(10,rT)]⟩ [] 18 73 [gd,r1,r2,adu]
 (.ret (ar 5 (.setc bI 0 ij))))
theorem aa8:Gg.map told=some (Tp,[]):=by kernel_rfl
theorem ata:tree (ab Gg)=Tp:=aI aa8
def Gf:Option PC:=cF [10] [] Tryz.f73 73 [4,7,8,9]
def To:PT:=
 (.call ⟨[],[(8,rT),(4,(.mk [r0]))]⟩ [] 16 111 [gd,r1,r2,(ar 24 (.mk [r3]))]
 (.iteS ⟨[(10,(.tget dk 1))],[(9,(.setc rT 0 (.tget dk 0)))]⟩ (aP (pc (.setc rT 0 (.tget dk 0)) 2) (pi (-1))) [] [9]
 (.chk (ao (pc o4 4) (pc o9 2))
 (.call ⟨[],[]⟩ [] 31 112 [(pn (pc o4 4) (pc o9 2)),r2,bY]
 (.next ⟨[],[(9,(.setc (.setc o9 0 (.tget kM 0)) 4 (.tget kM 1)))]⟩)))
 (.next ⟨[],[]⟩)
 (.ret (ar 5 (.setc o8 0 (ar 5 o9))))))
theorem aa7:Gf.map told=some (To,[]):=by kernel_rfl
theorem as9:tree (ab Gf)=To:=aI aa7
def Gl:Option PC:=cF [9,11,12,13,14] [] Tryz.f111 111 [4,7,8,10,16394]
def Tt:PT:=
 (.call ⟨[],[(16394,pL),(10,(.setc rT 0 (.mk [cQ,(pi (-1)),pL,(pi 1)]))),(8,rT),(7,(.mk [r3])),(4,(.mk [r0]))]⟩ [] 19 151 [gd,(ar 24 (.mk [r3]))]
 (.ite (ak (.llen (.tget fA 1)) (pi 0))
 (.ret (.tup [Rm,pL]))
 (.call ⟨[(11,(.tget fA 1))],[(7,(.setc o7 0 (.tget fA 0)))]⟩ [] 28 152 [r2]
 (.ite (.nt (.tget nD 1))
 (.ret (.tup [Rm,pL]))
 (.call ⟨[],[]⟩ [] 37 153 [(ar 8 o4),r1,(ar 24 o7)]
 (.ite (ak (.llen nG) (pi 0))
 (.ret (.tup [Rm,pL]))
 (.call ⟨[],[]⟩ [] 46 154 [(ar 8 o4),r1,r2,nG]
 (.ite (ak (pc wV 4) (pi 0))
 (.chk (ao (pc wV 3) (aY (.llen (pc wV 3)) (pi 1)))
 (.ret (.tup [(ar 5 (.setc o8 0 (ar 5 (.setc wV 2 (pn (pc wV 3) (aY (.llen (pc wV 3)) (pi 1))))))),bK])))
 (.ret (.tup [(ar 5 (.setc o8 0 (ar 5 wV))),bK]))))))))))
theorem abc:Gl.map told=some (Tt,[]):=by kernel_rfl
theorem ate:tree (ab Gl)=Tt:=aI abc
def Gm:Option PC:=cF [5] [] Tryz.f151 151 [2,3,4]
def Tu:PT:=
 (.call ⟨[],[(4,Rg),(3,(.mk [r1])),(2,(.mk [r0]))]⟩ [] 10 33 [(ar 19 (.mk [r1])),(pc (.mk [r1]) 23)]
 (.call ⟨[(12,(ar 24 (.setc o3 0 bY)))],[]⟩ [] 15 174 [(ar 8 o2),(ar 24 (.setc o3 0 bY))]
 (.ret (.tup [(ar 24 (.setc o4 0 bR)),dx]))))
theorem abd:Gm.map told=some (Tu,[]):=by kernel_rfl
theorem atf:tree (ab Gm)=Tu:=aI abd
def yS:Option PC:=cF [4,7,9,11,12,13,14,15,16] [] Tryz.f174 174 [2,3,5,6,8,10,90,139]
def BN:Nat→PC:=bf yS
def api (b:Nat→PC):PC:=.meach 90 [94,95,11,12] [0,1,0,1] [10] (b 0)
def apj (b:Nat→PC):PC:=.meach 139 [143,144,15,16] [0,1,0,1] [10] (b 1)
def SF (b:Nat→PC):PT:=
 (.chk (ao bI bK)
 (.next ⟨[],[(10,(.setn bI bK 0 (.mk [pT,bR])))]⟩))
def SG (b:Nat→PC):PT:=
 (.blockS ⟨[],[]⟩ 3 [145,146,147,148,149] [10]
 (.call ⟨[(146,dx)],[]⟩ [] 148 197 [dk]
 (.chk (ao bI (.r 146))
 (.next ⟨[],[(10,(.setn bI (.r 146) 0 (.r 148)))]⟩)))
 (.next ⟨[],[]⟩))
def uH (b:Nat→PC):PT:=
 (.call ⟨[(7,(.mx (pc (.mk [r1]) 20) (pi 0)))],[(6,(.setc Wo 0 (ar 15 (.mk [r1])))),(5,tY),(3,(.mk [r1])),(2,(.mk [r0]))]⟩ [] 30 72 [(pc (.mk [r1]) 19),(.llen (pc tY 15))]
 (.call ⟨[(48,D1),(44,(.pick (.pick (.nt nE) pT (ah (pc o3 20) (pi (-1)))) pT (bN r7 (.llen (pc o5 15)))))],[]⟩ [(48,true),(44,false)] 51 72 [(pc o3 22),(pi 100001)]
 (.ite (.pick w6 pT (.pick kf (.nt r51) pF))
 (.ret pL)
 (.chk (ao (pc o5 15) (pc o3 19))
 (.call ⟨[],[(8,(.setc z9 0 (pn (pc o5 15) (pc o3 19))))]⟩ [] 63 72 [(pc (.setc z9 0 (pn (pc o5 15) (pc o3 19))) 6),(pi 100001)]
 (.ite (.nt w7)
 (.ret pL)
 (.chk (.an (bN (pi 20) (pi 0)) (aX (pi 20) cj))
 (.chk (ak (pi 20) (pi 20))
 (.chk (ah (.mlen (.con (.map []))) cj)
 (.chk (ah (.mlen (.put (.con (.map [])) (pi 0) (pc o6 3))) cj)
 (.chk (ah (.mlen (.put (.put (.con (.map [])) (pi 0) (pc o6 3)) (pi 1) (pc o6 14))) cj)
 (.chk (ah (.mlen Rh) cj)
 (.chk (ah (.mlen (.put Rh (pi 3) (pc o6 12))) cj)
 (.chk (ah (.mlen Ro) cj)
 (.chk (ah (.mlen (.put Ro (pi 5) (pc o3 21))) cj)
 (.blockS ⟨[(10,pN),(9,(.pick D1 (aY (pc o8 6) (pc o3 22)) (pi 0)))],[(90,(.tup [(.lst []),(.put (.put Ro (pi 5) (pc o3 21)) (pi 6) (.pick D1 (aY (pc o8 6) (pc o3 22)) (pi 0)))])),(10,(.rep (pi 20) cQ))]⟩ 0 [] [10]
 (.brk ⟨[],[]⟩
(api b)
 (.exit 0 ⟨[],[]⟩))
 (.call ⟨[],[(3,(ar 24 o3))]⟩ [] 104 195 [(pc o5 16),(.clo 196 [(.ref (ar 24 o3))])]
 (.call ⟨[(13,aqV)],[]⟩ [] 108 125 [(ar 8 o2),(pc o6 9)]
 (.call ⟨[],[]⟩ [] 112 125 [(ar 8 o2),(pc o6 10)]
 (.chk (ah (.mlen (.con (.map []))) cj)
 (.chk (ah (.mlen Rn) cj)
 (.chk (ah (.mlen (.put Rn (pi 8) (ak (pc o6 2) (pi (-1))))) cj)
 (.chk (ah (.mlen (.put (.put Rn (pi 8) (ak (pc o6 2) (pi (-1)))) (pi 9) (aP (.ai .and .i64 (pc o6 13) (pi 4)) (pi 0)))) cj)
 (.chk (ah (.mlen Kf) cj)
 (.chk (ah (.mlen (.put Kf (pi 11) (aP D5 D6))) cj)
 (.chk (ah (.mlen (.put (.put Kf (pi 11) (aP D5 D6)) (pi 12) cU)) cj)
 (.chk (ah (.mlen adD) cj)
 (.blockS ⟨[],[(139,(.tup [(.lst []),(.put adD (pi 14) (bj r9 (pi 0)))]))]⟩ 2 [] [10]
 (.brk ⟨[],[]⟩
(apj b)
 (.exit 2 ⟨[],[]⟩))
 (.call ⟨[],[]⟩ [] 154 198 [(ar 19 o5),(pi 0),(pc o3 19)]
 (.chk (ao bI (pi 15))
 (.call ⟨[],[(10,(.setn bI (pi 15) 0 (.r 154)))]⟩ [] 160 198 [(ar 19 o5),(pi 1),(pc o3 19)]
 (.chk (ao bI (pi 16))
 (.call ⟨[],[(10,(.setn bI (pi 16) 0 (.r 160)))]⟩ [] 166 198 [(ar 19 o5),(pi 2),(pc o3 19)]
 (.chk (ao bI (pi 17))
 (.call ⟨[],[(10,(.setn bI (pi 17) 0 (.r 166)))]⟩ [] 171 198 [(ar 19 o5),(pi 3),r7]
 (.chk (ao bI (pi 18))
 (.call ⟨[],[(10,(.setn bI (pi 18) 0 (.r 171)))]⟩ [] 176 198 [(ar 19 o5),(pi 4),r7]
 (.chk (ao bI (pi 19))
 (.ret (.setn bI (pi 19) 0 (.r 176)))))))))))))))))))))))))))))))))))))))))
def ajZ (b:Nat→PC):PT×List (Shp×PT):=(uH b,[(.ea [10],SF b),(.ea [10],SG b)])
theorem JM:yS.map told=some (ajZ (aV yS)):=by kernel_rfl
theorem avz:tree (ab yS)=uH BN:=bz JM
theorem arL:oZ [10] (BN 0)=SF BN:=Tn JM 0 fun _=>rfl
theorem arM:oZ [10] (BN 1)=SG BN:=Tn JM 1 fun _=>rfl
def HG:Option PC:=cF [3] [] Tryz.f196 196 [2]
def Vs:PT:=
 (.ret (aX ga (pc (.deref r1) 19)))
theorem acB:HG.map told=some (Vs,[]):=by kernel_rfl
theorem avy:tree (ab HG)=Vs:=aI acB
def HJ:Option PC:=cF [4] [] Tryz.f195 195 []
def Vw:PT:=
 (.call ⟨[],[]⟩ [] 7 216 [r0,r1]
 (.ret (bN r7 (pi 0))))
theorem acE:HJ.map told=some (Vw,[]):=by kernel_rfl
theorem avD:tree (ab HJ)=Vw:=aI acE
def yU:Option PC:=cF [4,5] [] Tryz.f216 216 []
def M5:Nat→PC:=bf yU
def ao4 (b:Nat→PC):PC:=.block 0 [4,8,9] [] (.loop [4,8] [] (b 0))
def E5 (b:Nat→PC):PT:=
 (.ite (ah r8 r7)
 (.blockS ⟨[],[]⟩ 1 [4,5,10,11,12,13,14,15,16] []
 (.chk (ao r0 r8)
 (.callc ⟨[(5,r8)],[]⟩ [] 16 r1 [(pn r0 r8)]
 (.ite dk
 (.ret r5)
 (.next ⟨[],[]⟩))))
 (.next ⟨[(8,qe)],[]⟩))
 (.exit 0 ⟨[(9,(ah r8 r7))],[]⟩))
def VA (b:Nat→PC):PT:=
 (.brk ⟨[(8,(pi 0)),(7,(.llen r0)),(4,(pi 0))],[]⟩
(ao4 b)
 (.ret (pi (-1))))
def aj1 (b:Nat→PC):PT×List (Shp×PT):=(VA b,[(.lp 0 [4,8,9] [] [4,8] [],E5 b)])
theorem Qt:yU.map told=some (aj1 (aV yU)):=by kernel_rfl
theorem avH:tree (ab yU)=VA M5:=bz Qt
theorem SH:round 0 [4,8,9] [] [4,8] [] (M5 0)=E5 M5:=aQ Qt 0 fun _=>rfl
def HD:Option PC:=cF [4] [] Tryz.f125 125 [2]
def Ve:PT:=
 (.call ⟨[],[(2,(.mk [r0]))]⟩ [] 9 118 [r1,(.llen jM)]
 (.ite (.nt r9)
 (.ret (pi (-1)))
 (.chk (ao (pc o2 1) r1)
 (.ret (pc (pn (pc o2 1) r1) 1)))))
theorem acy:HD.map told=some (Ve,[]):=by kernel_rfl
theorem avk:tree (ab HD)=Ve:=aI acy
def HE:Option PC:=cF [4] [] Tryz.f118 118 []
def Vh:PT:=
 (.ret (.pick (bN r0 (pi 0)) (ah r0 r1) pF))
theorem acz:HE.map told=some (Vh,[]):=by kernel_rfl
theorem avn:tree (ab HE)=Vh:=aI acz
def HH:Option PC:=cF [] [] Tryz.f197 197 [2]
def Vt:PT:=
 (.ite r0
 (.ret Rk)
 (.ret Rl))
theorem acC:HH.map told=some (Vt,[]):=by kernel_rfl
theorem avA:tree (ab HH)=Vt:=aI acC
def yQ:Option PC:=cF [] [] Tryz.f198 198 [3,6,8]
def M4:Nat→PC:=bf yQ
def aoZ (b:Nat→PC):PC:=.block 0 [12,13] [6] (.loop [12] [6] (b 0))
def E2 (b:Nat→PC):PT:=
 (.ite (ah bR bK)
 (.blockS ⟨[],[]⟩ 1 [8,14,15,16,17,18,19,20,25] [8,6]
 (.chk (ao bY bR)
 (.iteS ⟨[],[(8,(.setc z3 0 rQ))]⟩ (.pick (ak (pc (.setc z3 0 rQ) 0) r1) (ak (pc (.setc z3 0 rQ) 1) r2) pF) [] [6]
 (.call ⟨[],[]⟩ [] 29 197 [(aP (pc o8 2) (pi 0))]
 (.ret (.mk [(pc (.setc o6 0 kL) 0),(pc (.setc o6 0 kL) 1)])))
 (.next ⟨[],[]⟩)
 (.next ⟨[],[]⟩)))
 (.next ⟨[(12,(aD bR (pi 1)))],[]⟩))
 (.exit 0 ⟨[(13,(ah bR bK))],[]⟩))
def Vq (b:Nat→PC):PT:=
 (.brk ⟨[(12,(pi 0)),(11,(.llen (pc (.mk [r0]) 18))),(10,(pc (.mk [r0]) 18))],[(6,cQ)]⟩
(aoZ b)
 (.ret J9))
def ajX (b:Nat→PC):PT×List (Shp×PT):=(Vq b,[(.lp 0 [12,13] [6] [12] [6],E2 b)])
theorem Qs:yQ.map told=some (ajX (aV yQ)):=by kernel_rfl
theorem avw:tree (ab yQ)=Vq M4:=bz Qs
theorem SC:round 0 [12,13] [6] [12] [6] (M4 0)=E2 M4:=aQ Qs 0 fun _=>rfl
def GJ:Option PC:=cF [2,3,4,11] [] Tryz.f152 152 []
def TX:PT:=
 (.blockS ⟨[],[]⟩ 0 [2,3,4,5,6,7,10,11,12,13,14] []
 (.iteS ⟨[],[]⟩ (.pick wS pT (bN r0 (pi 22))) [2,3,11,12,13,14] []
 (.ret (.tup [(pi 0),pF]))
 (.call ⟨[],[]⟩ [] 14 93 [(.lst [(pc qd 0),(pc qd 1),(pc qd 2),(pc qd 3),(pc qd 4),(pc qd 5),(pc qd 6),(pc qd 7),(pc qd 8),(pc qd 9)]),r0]
 (.ite ct
 (.ret (.tup [(pi 0),pT]))
 (.next ⟨[],[]⟩)))
 (.next ⟨[],[]⟩))
 (.ret (.tup [(pi 1),pT])))
theorem abC:GJ.map told=some (TX,[]):=by kernel_rfl
theorem atJ:tree (ab GJ)=TX:=aI abC
def HL:Option PC:=cF [4] [] Tryz.f93 93 []
def Vy:PT:=
 (.call ⟨[],[]⟩ [] 7 132 [r0,r1]
 (.ret (bN r7 (pi 0))))
theorem acG:HL.map told=some (Vy,[]):=by kernel_rfl
theorem avF:tree (ab HL)=Vy:=aI acG
def yX:Option PC:=cF [4,5] [] Tryz.f132 132 []
def M8:Nat→PC:=bf yX
def ao7 (b:Nat→PC):PC:=.block 0 [4,8,9] [] (.loop [4,8] [] (b 0))
def E8 (b:Nat→PC):PT:=
 (.ite (ah r8 r7)
 (.chk (ao r0 r8)
 (.ite (ak r1 (pn r0 r8))
 (.ret r8)
 (.next ⟨[(8,qe)],[]⟩)))
 (.exit 0 ⟨[(9,(ah r8 r7))],[]⟩))
def VD (b:Nat→PC):PT:=
 (.brk ⟨[(8,(pi 0)),(7,(.llen r0)),(4,(pi 0))],[]⟩
(ao7 b)
 (.ret (pi (-1))))
def aj4 (b:Nat→PC):PT×List (Shp×PT):=(VD b,[(.lp 0 [4,8,9] [] [4,8] [],E8 b)])
theorem Qw:yX.map told=some (aj4 (aV yX)):=by kernel_rfl
theorem avK:tree (ab yX)=VD M8:=bz Qw
theorem SK:round 0 [4,8,9] [] [4,8] [] (M8 0)=E8 M8:=aQ Qw 0 fun _=>rfl
def xQ:Option PC:=cF [8,9,11,12,13,14,55,70] [] Tryz.f154 154 [4,10,53]
def Mv:Nat→PC:=bf xQ
def anR (b:Nat→PC):PC:=.block 0 [] [] (.loop [8,9,10] [10] (b 0))
def RO (b:Nat→PC):PT:=
 (.blockS ⟨[],[]⟩ 1 [8,9,10,11,12,13,14,32,33,35,36,37,38,39,40,41,42,43,44,45,46,49,50,52,53,54,55,56,57,58,68,70,71] [53,10]
 (.chk (ao bI (aY (.llen bI) (pi 1)))
 (.call ⟨[(11,(pn bI (aY (.llen bI) (pi 1))))],[]⟩ [] 41 176 [(ar 8 o4),(pn bI (aY (.llen bI) (pi 1))),r2,r3]
 (.ite (ak (.tget qg 0) bK)
 (.ret (.tup [bI,(pi 0)]))
 (.call ⟨[(13,(.tget qg 1)),(12,(.tget qg 0))],[]⟩ [] 50 93 [bI,(.tget qg 0)]
 (.chk (aX (.llen (.app bI (.lst [bR]))) cj)
 (.chk (.nt (.an (.an nI (.an (.nt (.nt cU)) pT)) (.nt (ao (pc o4 4) bR))))
 (.ite (.pick (.nt cU) pT (.pick nI (pc (pn (pc o4 4) bR) 1) pF))
 (.ret (.tup [(.app bI (.lst [bR])),(pi 0)]))
 (.ite nI
 (.ret (.tup [(.app bI (.lst [bR])),(pi 12)]))
 (.next ⟨[(10,pN)],[(10,(.app bI (.lst [bR])))]⟩)))))))))
 (.next ⟨[],[]⟩))
def TN (b:Nat→PC):PT:=
 (.call ⟨[(9,(pi 0)),(8,pL)],[(4,(.mk [r0]))]⟩ [] 19 175 [gd,r1,r2,r3]
 (.chk (.nt (.an (.an (.nt (.nt fA)) pT) (.nt (ao r3 (pi 0)))))
 (.ite (.pick (.nt fA) pT (aP (pn r3 (pi 0)) r1))
 (.ret (.tup [pL,(pi 1)]))
 (.brk ⟨[(10,pN)],[(10,(.lst [r1]))]⟩
(anR b)
 (.next ⟨[],[]⟩)))))
def ai8 (b:Nat→PC):PT×List (Shp×PT):=(TN b,[(.lp 0 [] [] [8,9,10] [10],RO b)])
theorem PU:xQ.map told=some (ai8 (aV xQ)):=by kernel_rfl
theorem aty:tree (ab xQ)=TN Mv:=bz PU
theorem arH:round 0 [] [] [8,9,10] [10] (Mv 0)=RO Mv:=aQ PU 0 fun _=>rfl
def GB:Option PC:=cF [8] [] Tryz.f175 175 [4,9]
def uE:PT:=
 (.ite (.pick (.pick (.pick (.pick (ah r1 (pi 0)) pT (bN r1 (pc (.setc DR 0 (.llen ub)) 0))) pT (ah r2 (pi 0))) pT (bN r2 (pi 22))) pT (aP (.llen r3) (pi 5)))
 (.ret pF)
 (.call ⟨[],[]⟩ [] 35 199 [r3,(.clo 200 [(.ref (pc (.setc DR 0 (.llen ub)) 0))])]
 (.ret (.nt nF))))
theorem abv:GB.map told=some (uE,[]):=by kernel_rfl
theorem atB:tree (ab GB)=uE:=aI abv
def GC:Option PC:=cF [3] [] Tryz.f200 200 []
def TP:PT:=
 (.ret (.pick wS pT (bN r0 (.deref r1))))
theorem abw:GC.map told=some (TP,[]):=by kernel_rfl
theorem atA:tree (ab GC)=TP:=aI abw
def HK:Option PC:=cF [4] [] Tryz.f199 199 []
def Vx:PT:=
 (.call ⟨[],[]⟩ [] 7 217 [r0,r1]
 (.ret (bN r7 (pi 0))))
theorem acF:HK.map told=some (Vx,[]):=by kernel_rfl
theorem avE:tree (ab HK)=Vx:=aI acF
def yW:Option PC:=cF [4,5] [] Tryz.f217 217 []
def M7:Nat→PC:=bf yW
def ao6 (b:Nat→PC):PC:=.block 0 [4,8,9] [] (.loop [4,8] [] (b 0))
def E7 (b:Nat→PC):PT:=
 (.ite (ah r8 r7)
 (.blockS ⟨[],[]⟩ 1 [4,5,10,11,12,13,14,15,16] []
 (.chk (ao r0 r8)
 (.callc ⟨[(5,r8)],[]⟩ [] 16 r1 [(pn r0 r8)]
 (.ite dk
 (.ret r5)
 (.next ⟨[],[]⟩))))
 (.next ⟨[(8,qe)],[]⟩))
 (.exit 0 ⟨[(9,(ah r8 r7))],[]⟩))
def VC (b:Nat→PC):PT:=
 (.brk ⟨[(8,(pi 0)),(7,(.llen r0)),(4,(pi 0))],[]⟩
(ao6 b)
 (.ret (pi (-1))))
def aj3 (b:Nat→PC):PT×List (Shp×PT):=(VC b,[(.lp 0 [4,8,9] [] [4,8] [],E7 b)])
theorem Qv:yW.map told=some (aj3 (aV yW)):=by kernel_rfl
theorem avJ:tree (ab yW)=VC M7:=bz Qv
theorem SJ:round 0 [4,8,9] [] [4,8] [] (M7 0)=E7 M7:=aQ Qv 0 fun _=>rfl
def xR:Option PC:=cF [8,9] [] Tryz.f176 176 [4,11]
def Mw:Nat→PC:=bf xR
def anS (b:Nat→PC):PC:=.block 0 [8,9,25,26] [] (.loop [8,9,25] [] (b 0))
def Ef (b:Nat→PC):PT:=
 (.ite (ah eB nC)
 (.chk (ao gx eB)
 (.ite (.pick (ak (pc DY 0) r2) (aP (pc DY 1) (pi 0)) pF)
 (.chk (ao r3 (pc DY 1))
 (.ret (.tup [(pn r3 (pc DY 1)),(pc DY 2)])))
 (.next ⟨[(25,(aD eB (pi 1)))],[]⟩)))
 (.exit 0 ⟨[(26,(ah eB nC))],[]⟩))
def TO (b:Nat→PC):PT:=
 (.call ⟨[(9,pF),(8,(pi 0))],[(4,(.mk [r0]))]⟩ [] 16 175 [gd,r1,r2,r3]
 (.ite (.nt dk)
 (.ret (.tup [(pi (-1)),pF]))
 (.chk (ao (pc o4 4) r1)
 (.brk ⟨[(25,(pi 0)),(24,(.llen (pc (pn (pc o4 4) r1) 2))),(23,(pc (pn (pc o4 4) r1) 2))],[]⟩
(anS b)
 (.ret (.tup [r1,pF]))))))
def ai9 (b:Nat→PC):PT×List (Shp×PT):=(TO b,[(.lp 0 [8,9,25,26] [] [8,9,25] [],Ef b)])
theorem PV:xR.map told=some (ai9 (aV xR)):=by kernel_rfl
theorem atz:tree (ab xR)=TO Mw:=bz PV
theorem RP:round 0 [8,9,25,26] [] [8,9,25] [] (Mw 0)=Ef Mw:=aQ PV 0 fun _=>rfl
def GI:Option PC:=cF [7,9,11,12] [] Tryz.f112 112 [3,6,8,10]
def TW:PT:=
 (.call ⟨[],[(6,cQ)]⟩ [] 16 155 [(ar 4 (.mk [r0])),r1]
 (.ite (aP (.tget dk 1) (pi 0))
 (.ret (.tup [J9,(.tget dk 1)]))
 (.call ⟨[],[]⟩ [] 25 156 [(.mk [(pc (.setc ke 0 (.tget dk 0)) 0),(pc (.setc ke 0 (.tget dk 0)) 1),(pc (.setc ke 0 (.tget dk 0)) 2)]),r2]
 (.call ⟨[],[(10,(.setc cQ 0 eB))]⟩ [] 28 152 [r1]
 (.ret (.tup [(.mk [(pc (.setc o6 0 (.mk [(pc J6 0),(pc J6 1)])) 0),(pc (.setc o6 0 (.mk [(pc J6 0),(pc J6 1)])) 1)]),(pi 0)]))))))
theorem abB:GI.map told=some (TW,[]):=by kernel_rfl
theorem atI:tree (ab GI)=TW:=aI abB
def GK:Option PC:=cF [5,6,7,8,10,11] [] Tryz.f155 155 [2,3,4,12292,9]
def TY:PT:=
 (.call ⟨[],[(4,ke),(3,(.mk [r1])),(2,(.mk [r0]))]⟩ [] 14 152 [(pc (.mk [r1]) 0)]
 (.ite (.nt (.tget ct 1))
 (.ret (.tup [Rj,(pi 1)]))
 (.call ⟨[(6,(.tget ct 0))],[]⟩ [] 23 177 [(pc o2 3),(.clo 178 [(.ref (pc o3 0))])]
 (.ite (ah gx (pi 0))
 (.ret (.tup [Rj,(pi 4)]))
 (.chk (ao (pc o2 3) gx)
 (.call ⟨[],[(9,Kc)]⟩ [] 35 179 [(.mk [(pc Kc 0),(pc Kc 1),(pc Kc 2)])]
 (.ite (.pick (aP (.tget nF 1) (pi 0)) pT (aP (.tget nF 0) r6))
 (.ret (.tup [Rj,(pi 11)]))
 (.ret (.tup [(.mk [(pc Rq 0),(pc Rq 1),(pc Rq 2)]),(pi 0)])))))))))
theorem abD:GK.map told=some (TY,[]):=by kernel_rfl
theorem atL:tree (ab GK)=TY:=aI abD
def GL:Option PC:=cF [3] [] Tryz.f178 178 [2]
def TZ:PT:=
 (.ret (ak ga (.deref r1)))
theorem abE:GL.map told=some (TZ,[]):=by kernel_rfl
theorem atK:tree (ab GL)=TZ:=aI abE
def yV:Option PC:=cF [4,5] [] Tryz.f177 177 []
def M6:Nat→PC:=bf yV
def ao5 (b:Nat→PC):PC:=.block 0 [4,8,9] [] (.loop [4,8] [] (b 0))
def E6 (b:Nat→PC):PT:=
 (.ite (ah r8 r7)
 (.blockS ⟨[],[]⟩ 1 [4,5,10,11,12,13,14,15,16] []
 (.chk (ao r0 r8)
 (.callc ⟨[(5,r8)],[]⟩ [] 16 r1 [(pn r0 r8)]
 (.ite dk
 (.ret r5)
 (.next ⟨[],[]⟩))))
 (.next ⟨[(8,qe)],[]⟩))
 (.exit 0 ⟨[(9,(ah r8 r7))],[]⟩))
def VB (b:Nat→PC):PT:=
 (.brk ⟨[(8,(pi 0)),(7,(.llen r0)),(4,(pi 0))],[]⟩
(ao5 b)
 (.ret (pi (-1))))
def aj2 (b:Nat→PC):PT×List (Shp×PT):=(VB b,[(.lp 0 [4,8,9] [] [4,8] [],E6 b)])
theorem Qu:yV.map told=some (aj2 (aV yV)):=by kernel_rfl
theorem avI:tree (ab yV)=VB M6:=bz Qu
theorem SI:round 0 [4,8,9] [] [4,8] [] (M6 0)=E6 M6:=aQ Qu 0 fun _=>rfl
def HQ:Option PC:=cF [2,3] [] Tryz.f179 179 [1]
def VM:PT:=
 (.call ⟨[],[(1,(.mk [r0]))]⟩ [] 5 201 [DP,(pi 1)]
 (.ite (bj r5 (pi 60))
 (.ret (.tup [(pi 0),(pi 6)]))
 (.call ⟨[],[]⟩ [] 8 202 [Kg]
 (.ret (.tup [(.tget r8 0),(.tget r8 1)])))))
theorem acO:HQ.map told=some (VM,[]):=by kernel_rfl
theorem avS:tree (ab HQ)=VM:=aI acO
def vf:Option PC:=cF [4,5] [] Tryz.f201 201 [2,7,12295]
def Nd:Nat→PC:=bf vf
def apf (b:Nat→PC):PC:=.block 0 [5,13,14] [] (.loop [5,13] [] (b 0))
def Fc (b:Nat→PC):PT:=
 (.ite (ah cU bR)
 (.blockS ⟨[(14,(ah cU bR))],[]⟩ 1 [5,7,15,16,17,18,19,20,21,22,23,24] [7,12295]
 (.chk (ao bK cU)
 (.call ⟨[(17,r5)],[]⟩ [] 21 201 [(.mk [(pc (.setc ke 0 (pn bK cU)) 0),(pc (.setc ke 0 (pn bK cU)) 1),(pc (.setc ke 0 (pn bK cU)) 2)]),(aD r1 (pi 1))]
 (.ite (bj (aD gf fB) (pi 60))
 (.exit 0 ⟨[(5,(aD gf fB))],[]⟩)
 (.next ⟨[(5,(aD gf fB))],[]⟩))))
 (.next ⟨[(13,(aD cU (pi 1)))],[]⟩))
 (.exit 0 ⟨[(14,(ah cU bR))],[]⟩))
def Ly (b:Nat→PC):PT:=
 (.ite (bj r1 (pi 8))
 (.ret (pi 61))
 (.brk ⟨[(13,(pi 0)),(12,oU),(11,DT),(5,(pi 1))],[]⟩
(apf b)
 (.ret r5)))
def akb (b:Nat→PC):PT×List (Shp×PT):=(Ly b,[(.lp 0 [5,13,14] [] [5,13] [],Fc b)])
theorem QB:vf.map told=some (akb (aV vf)):=by kernel_rfl
theorem aff:tree (ab vf)=Ly Nd:=bz QB
theorem SP:round 0 [5,13,14] [] [5,13] [] (Nd 0)=Fc Nd:=aQ QB 0 fun _=>rfl
def y4:Option PC:=cF [2,3,5,7,8,38,47,10,11,12] [] Tryz.f202 202 [1,4,6,12294,9]
def BQ:Nat→PC:=bf y4
def apc (b:Nat→PC):PC:=.block 0 [2,3,20,21] [4] (.loop [2,3,20] [4] (b 0))
def apd (b:Nat→PC):PC:=.block 3 [2,3,10,82,83] [] (.loop [2,3,10,82] [] (b 1))
def Fa (b:Nat→PC):PT:=
 (.ite (ah eA fA)
 (.blockS ⟨[],[]⟩ 1 [2,3,5,6,7,8,22,23,24,25,26,27,28,29,30,31,33,34,35,36] [6,12294,4]
 (.chk (ao ij eA)
 (.call ⟨[(5,eA)],[]⟩ [] 27 202 [(.mk [(pc (.setc ke 0 (pn ij eA)) 0),(pc (.setc ke 0 (pn ij eA)) 1),(pc (.setc ke 0 (pn ij eA)) 2)])]
 (.ite (aP (.tget eC 1) (pi 0))
 (.ret (.tup [(pi 0),(.tget eC 1)]))
 (.chk (ao o4 r5)
 (.next ⟨[],[(4,(.setn o4 r5 0 (.tget eC 0)))]⟩)))))
 (.next ⟨[(20,(aD eA (pi 1)))],[]⟩))
 (.exit 0 ⟨[(21,(ah eA fA))],[]⟩))
def um (b:Nat→PC):PT:=
 (.ite (ah jO w8)
 (.chk (ao ui jO)
 (.ite (.pick (ak (pn ui jO) (pi (-1))) (ak bY (pi (-1))) pF)
 (.chk (ao o4 jO)
 (.ite (aP (pn o4 jO) (.pick (ak (pn ui jO) (pi (-1))) (pn o4 jO) (pn ui jO)))
 (.ret (.tup [(pi 0),(pi 11)]))
 (.next ⟨[(10,(pn o4 jO)),(82,(aD jO (pi 1)))],[]⟩)))
 (.chk (ao o4 jO)
 (.ite (aP (pn o4 jO) (.pick (ak (pn ui jO) (pi (-1))) bY (pn ui jO)))
 (.ret (.tup [(pi 0),(pi 11)]))
 (.next ⟨[(82,(aD jO (pi 1)))],[]⟩)))))
 (.exit 3 ⟨[(83,(ah jO w8))],[]⟩))
def VQ (b:Nat→PC):PT:=
 (.chk (.an (bN oU (pi 0)) (aX oU cj))
 (.chk (ak oU oU)
 (.brk ⟨[(20,(pi 0)),(19,oU),(18,DT),(4,pN),(3,(pi 0)),(2,(pi 0))],[(4,(.rep oU (pi 0))),(1,(.mk [r0]))]⟩
(apc b)
 (.blockS ⟨[],[]⟩ 2 [2,3,38,39,40,41,42,46,47,48,49,50,51,55,56,60] []
 (.iteS ⟨[],[]⟩ (.pick (ah (pc o1 0) (pi 0)) pT (bj (pc o1 0) (pi 13))) [2,3,47,48,49,50,51,55,56,60] []
 (.ret (.tup [(pi 0),(pi 1)]))
 (.iteS ⟨[],[]⟩ (.pick (.pick (ak (pc o1 0) (pi 0)) pT (ak (pc o1 0) (pi 1))) pT (ak (pc o1 0) (pi 2))) [2,3] []
 (.call ⟨[],[]⟩ [] 62 218 [Kg]
 (.ret (.tup [(.tget qh 0),(.tget qh 1)])))
 (.next ⟨[],[]⟩)
 (.next ⟨[],[]⟩))
 (.next ⟨[],[]⟩))
 (.call ⟨[],[]⟩ [] 67 219 [(pc o1 0)]
 (.ite (.pick (aP (.llen o4) (.llen (pc (.setc kJ 0 qj) 0))) pT (aP (pc o1 1) (pi 0)))
 (.ret (.tup [(pi 0),(pi 2)]))
 (.brk ⟨[(82,(pi 0)),(81,(.llen (pc (.setc kJ 0 qj) 0))),(80,(pc (.setc kJ 0 qj) 0)),(10,(pi (-1)))],[(9,(.setc kJ 0 qj))]⟩
(apd b)
 (.ite (ak (pc o9 1) (pi (-1)))
 (.ret (.tup [bY,(pi 0)]))
 (.ret (.tup [(pc o9 1),(pi 0)]))))))))))
def aj9 (b:Nat→PC):PT×List (Shp×PT):=(VQ b,[(.lp 0 [2,3,20,21] [4] [2,3,20] [4],Fa b),(.lp 3 [2,3,10,82,83] [] [2,3,10,82] [],um b)])
theorem JP:y4.map told=some (aj9 (aV y4)):=by kernel_rfl
theorem avW:tree (ab y4)=VQ BQ:=bz JP
theorem SN:round 0 [2,3,20,21] [4] [2,3,20] [4] (BQ 0)=Fa BQ:=aQ JP 0 fun _=>rfl
theorem AV:round 3 [2,3,10,82,83] [] [2,3,10,82] [] (BQ 1)=um BQ:=aQ JP 1 fun _=>rfl
def HW:Option PC:=cF [2,3,12,20,4,5] [] Tryz.f218 218 [1]
def VT:PT:=
 (.ite (bj oU (pi 0))
 (.ret (.tup [(pi 0),(pi 2)]))
 (.blockS ⟨[(11,ga)],[(1,(.mk [r0]))]⟩ 0 [2,3,12,13,20,21] []
 (.iteS ⟨[],[]⟩ (ak bK (pi 0)) [2,3,20,21] []
 (.call ⟨[],[]⟩ [] 16 222 [(pc o1 1)]
 (.ite (aP dk (pc o1 1))
 (.ret (.tup [(pi 0),(pi 3)]))
 (.ret (.tup [(pi 0),(pi 0)]))))
 (.ite (ak bK (pi 1))
 (.ite (.pick (ah (pc o1 1) (pi 0)) pT (bj (pc o1 1) (pi 1)))
 (.ret (.tup [(pi 0),(pi 3)]))
 (.ret (.tup [(pi 1),(pi 0)])))
 (.next ⟨[],[]⟩))
 (.next ⟨[],[]⟩))
 (.call ⟨[],[]⟩ [] 33 220 [(pc o1 1)]
 (.ite (.nt (.tget mM 1))
 (.ret (.tup [(pi 0),(pi 10)]))
 (.ret (.tup [(.tget mM 0),(pi 0)]))))))
theorem acU:HW.map told=some (VT,[]):=by kernel_rfl
theorem avZ:tree (ab HW)=VT:=aI acU
def HV:Option PC:=cF [2] [] Tryz.f222 222 []
def VS:PT:=
 (.ret (.mn (.mx r0 (pi (-1099511627776))) (pi 1099511627776)))
theorem acT:HV.map told=some (VS,[]):=by kernel_rfl
theorem avY:tree (ab HV)=VS:=aI acT
def HS:Option PC:=cF [2,3,4,11] [] Tryz.f220 220 []
def VO:PT:=
 (.ite (.pick wS pT (bj r0 (pi 19)))
 (.ret (.tup [(pi 0),pF]))
 (.ite (ah r0 (pi 7))
 (.ret (.tup [(pi 0),pT]))
 (.ret (.tup [(pi 1),pT]))))
theorem acQ:HS.map told=some (VO,[]):=by kernel_rfl
theorem avU:tree (ab HS)=VO:=aI acQ
def HZ:Option PC:=cF [4,8,13,17,21] [] Tryz.f219 219 [2]
def VW:PT:=
 (.ite (ak r0 (pi 3))
 (.ret (.mk [(pc (.setc kJ 0 (.mk [(.lst [(pi 1)]),(pi 1)])) 0),(pc (.setc kJ 0 (.mk [(.lst [(pi 1)]),(pi 1)])) 1)]))
 (.ite (.pick (ak r0 (pi 4)) (ak r0 (pi 4)) (ak r0 (pi 5)))
 (.ret (.mk [(pc (.setc kJ 0 (.mk [(.lst [(pi 1),(pi 1)]),(pi 1)])) 0),(pc (.setc kJ 0 (.mk [(.lst [(pi 1),(pi 1)]),(pi 1)])) 1)]))
 (.ite (ak r0 (pi 6))
 (.ret (.mk [(pc ads 0),(pc ads 1)]))
 (.ite (ak r0 (pi 7))
 (.ret (.mk [(pc (.setc kJ 0 (.mk [(.lst [(pi 0),(pi 0)]),(pi 1)])) 0),(pc (.setc kJ 0 (.mk [(.lst [(pi 0),(pi 0)]),(pi 1)])) 1)]))
 (.ite (ak r0 (pi 8))
 (.ret (.mk [(pc (.setc kJ 0 (.mk [(.lst [(pi (-1)),(pi (-1))]),(pi 1)])) 0),(pc (.setc kJ 0 (.mk [(.lst [(pi (-1)),(pi (-1))]),(pi 1)])) 1)]))
 (.ret (.mk [(pc (.setc kJ 0 (.mk [(.lst [(pi 0),(pi 0)]),(pi 0)])) 0),(pc (.setc kJ 0 (.mk [(.lst [(pi 0),(pi 0)]),(pi 0)])) 1)])))))))
theorem acX:HZ.map told=some (VW,[]):=by kernel_rfl
theorem av3:tree (ab HZ)=VW:=aI acX
def HR:Option PC:=cF [5,6,8] [] Tryz.f156 156 [2,4,7]
def VN:PT:=
 (.call ⟨[],[(4,cQ),(2,(.mk [r0]))]⟩ [] 11 179 [DP]
 (.ite (aP (.tget bK 1) (pi 0))
 (.ret rR)
 (.call ⟨[],[]⟩ [] 21 180 [(.mk [r1]),(.mk [(pc o2 0),(pc o2 1),(pc o2 2)])]
 (.ret (.mk [(pc adl 0),(pc adl 1)])))))
theorem acP:HR.map told=some (VN,[]):=by kernel_rfl
theorem avT:tree (ab HR)=VN:=aI acP
def y5:Option PC:=cF [5,15,21,9,11] [] Tryz.f180 180 [2,3,4,6,33,7,8,10,12298,12]
def Nc:Nat→PC:=bf y5
def ape (b:Nat→PC):PC:=.block 1 [45,46] [7,8] (.loop [45] [7,8] (b 0))
def Fb (b:Nat→PC):PT:=
 (.ite (ah kN w6)
 (.blockS ⟨[],[]⟩ 2 [9,10,47,48,49,50,51,52,53,54,55,56,57,58,59,60,61] [10,12298,8,7]
 (.chk (ao rZ kN)
 (.call ⟨[(54,kN),(52,kN)],[]⟩ [] 57 180 [(.mk [(pc o2 0)]),(.mk [(pc (.setc ke 0 (pn rZ kN)) 0),(pc (.setc ke 0 (pn rZ kN)) 1),(pc (.setc ke 0 (pn rZ kN)) 2)])]
 (.chk (ao o7 sc)
 (.chk (ao o8 sd)
 (.next ⟨[],[(8,(.setn o8 sd 0 (.tget Kk 1))),(7,(.setn o7 sc 0 (.tget Kk 0)))]⟩)))))
 (.next ⟨[(45,(aD kN (pi 1)))],[]⟩))
 (.exit 1 ⟨[(46,(ah kN w6))],[]⟩))
def FA (b:Nat→PC):PT:=
 (.blockS ⟨[(14,(pc (.mk [r1]) 0))],[(4,cQ),(3,(.mk [r1])),(2,(.mk [r0]))]⟩ 0 [5,15,16,21,22] [4]
 (.iteS ⟨[],[]⟩ (.pick (ak ct (pi 0)) (ak ct (pi 0)) (ak ct (pi 1))) [5,21,22] [4]
 (.ret (.tup [(.mk [(pc (.setc o4 0 (.mk [pT,(pc o3 1)])) 0),(pc (.setc o4 0 (.mk [pT,(pc o3 1)])) 1)]),pL]))
 (.iteS ⟨[],[]⟩ (ak ct (pi 2)) [5] [4]
 (.call ⟨[],[]⟩ [] 26 203 [(.mk [(pc o2 0)]),(pc o3 1)]
 (.ite (pc wL 0)
 (.ret (.tup [(.mk [(pc (.setc o4 0 (.mk [(pc wL 0),(pc wL 1)])) 0),(pc (.setc o4 0 (.mk [(pc wL 0),(pc wL 1)])) 1)]),pL]))
 (.ret (.tup [rR,(.lst [(pc o3 1)])]))))
 (.next ⟨[],[]⟩)
 (.next ⟨[],[]⟩))
 (.next ⟨[],[]⟩))
 (.chk (.an (bN ny (pi 0)) (aX ny cj))
 (.chk (ak ny ny)
 (.brk ⟨[(45,(pi 0)),(44,ny),(43,(pc o3 2)),(8,pN),(7,pN)],[(8,(.rep ny pL)),(7,(.rep ny cQ))]⟩
(ape b)
 (.chk (.nt (.an (.an (ak (pc o3 0) (pi 6)) pT) (.nt (ao o7 (pi 0)))))
 (.ite (.pick (ak (pc o3 0) (pi 6)) (pc (pn o7 (pi 0)) 0) pF)
 (.chk (ao o7 (pi 0))
 (.chk (ao o7 DX)
 (.chk (ao o8 DX)
 (.ret (.tup [(.mk [(pc (.setc o4 0 (.sub (pn o7 DX) 0 2)) 0),(pc (.setc o4 0 (.sub (pn o7 DX) 0 2)) 1)]),(pn o8 DX)])))))
 (.call ⟨[],[]⟩ [] 88 204 [(pc o3 0),o7]
 (.ite (pc (.setc cQ 0 se) 0)
 (.ret (.tup [(.mk [(pc adr 0),(pc adr 1)]),pL]))
 (.call ⟨[(92,(.mk [pF,(pi 0)]))],[]⟩ [] 94 205 [o8]
 (.ret (.tup [(.mk [(pc (.setc o4 0 RI) 0),(pc (.setc o4 0 RI) 1)]),r94])))))))))))
def aka (b:Nat→PC):PT×List (Shp×PT):=(FA b,[(.lp 1 [45,46] [7,8] [45] [7,8],Fb b)])
theorem QA:y5.map told=some (aka (aV y5)):=by kernel_rfl
theorem av0:tree (ab y5)=FA Nc:=bz QA
theorem SO:round 1 [45,46] [7,8] [45] [7,8] (Nc 0)=Fb Nc:=aQ QA 0 fun _=>rfl
def HX:Option PC:=cF [5,6] [] Tryz.f203 203 [2,4]
def VU:PT:=
 (.chk (.nt (.an (.an (.nt (bN r1 (.llen ga))) pT) (.nt (ao ga r1))))
 (.ite (.pick (bN r1 (.llen ga)) pT (.nt (pc (pn ga r1) 0)))
 (.ret J8)
 (.call ⟨[],[(4,cQ),(2,(.mk [r0]))]⟩ [] 24 220 [r1]
 (.iteS ⟨[],[]⟩ (ak (.tget nC 0) (pi 1)) [] [4]
 (.chk (ao (pc o2 0) r1)
 (.call ⟨[],[]⟩ [] 36 221 [(aP (pc (pn (pc o2 0) r1) 1) (pi 0))]
 (.ret (.mk [(pc (.setc o4 0 il) 0),(pc (.setc o4 0 il) 1)]))))
 (.next ⟨[],[]⟩)
 (.chk (ao (pc o2 0) r1)
 (.call ⟨[],[]⟩ [] 43 222 [(pc (pn (pc o2 0) r1) 1)]
 (.ret (.mk [(pc (.setc o4 0 (.mk [pT,rZ])) 0),(pc (.setc o4 0 (.mk [pT,rZ])) 1)]))))))))
theorem acV:HX.map told=some (VU,[]):=by kernel_rfl
theorem av1:tree (ab HX)=VU:=aI acV
def H0:Option PC:=cF [] [] Tryz.f221 221 [2]
def VX:PT:=
 (.ite r0
 (.ret Rk)
 (.ret Rl))
theorem acY:H0.map told=some (VX,[]):=by kernel_rfl
theorem av4:tree (ab H0)=VX:=aI acY
def HU:Option PC:=cF [9,22,41,6,7,82,88,94] [] Tryz.f204 204 [4,5]
def VR:PT:=
 (.blockS ⟨[(8,r0)],[(4,cQ)]⟩ 0 [9,10,22,23] [4]
 (.iteS ⟨[],[]⟩ (ak r8 (pi 3)) [22,23] [4]
 (.chk qf
 (.iteS ⟨[],[]⟩ (pc mI 0) [] [4]
 (.chk qf
 (.call ⟨[],[]⟩ [] 20 221 [(ak (pc mI 1) (pi 0))]
 (.ret (.mk [(pc (.setc o4 0 eA) 0),(pc (.setc o4 0 eA) 1)]))))
 (.next ⟨[],[]⟩)
 (.ret rR)))
 (.iteS ⟨[],[]⟩ (.pick (ak r8 (pi 4)) (ak r8 (pi 4)) (ak r8 (pi 5))) [] [4]
 (.call ⟨[],[]⟩ [] 27 221 [(ak r0 (pi 5))]
 (.chk qf
 (.chk (.nt (.an (.an (.nt adp) pT) (.nt oS)))
 (.ite (.pick adp pT (.an (.cb .eql (pc jN 0) (pc AF 0)) (.an (ak (pc jN 1) (pc AF 1)) pT)))
 (.ret (.mk [(pc (.setc o4 0 AF) 0),(pc (.setc o4 0 AF) 1)]))
 (.next ⟨[],[]⟩)))))
 (.ite (ak r8 (pi 6))
 (.chk oS
 (.chk (.nt (.an (.an (pc jN 0) pT) (.nt oS)))
 (.chk (.nt (.an (.an (pc jN 0) pT) (.nt (ao r1 (pi 2)))))
 (.ite (.pick (pc jN 0) (.an (.cb .eql (pc jN 0) (pc (pn r1 (pi 2)) 0)) (.an (ak (pc jN 1) (pc (pn r1 (pi 2)) 1)) pT)) pF)
 (.ret (.mk [(pc (.setc o4 0 jN) 0),(pc (.setc o4 0 jN) 1)]))
 (.ret rR)))))
 (.next ⟨[],[]⟩))
 (.next ⟨[],[]⟩))
 (.next ⟨[],[]⟩))
 (.chk qf
 (.chk (.nt (.an (.an (.nt (.nt (pc mI 0))) pT) (.nt oS)))
 (.ite (.pick (.nt (pc mI 0)) pT (.nt (pc jN 0)))
 (.ret rR)
 (.chk oS
 (.blockS ⟨[(81,r0),(7,(pc jN 1)),(6,(pc mI 1))],[]⟩ 1 [82,83,88,89,94,95] [4]
 (.iteS ⟨[],[]⟩ (.pick (ak w8 (pi 4)) (ak w8 (pi 4)) (ak w8 (pi 5))) [88,89,94,95] [4]
 (.call ⟨[],[]⟩ [] 87 221 [(ak r0 (pi 4))]
 (.ret (.mk [(pc (.setc o4 0 r87) 0),(pc (.setc o4 0 r87) 1)])))
 (.iteS ⟨[],[]⟩ (ak w8 (pi 7)) [94,95] [4]
 (.call ⟨[],[]⟩ [] 93 221 [(ah r6 r7)]
 (.ret (.mk [(pc (.setc o4 0 RJ) 0),(pc (.setc o4 0 RJ) 1)])))
 (.iteS ⟨[],[]⟩ (ak w8 (pi 8)) [] [4]
 (.call ⟨[],[]⟩ [] 99 221 [(ak r6 r7)]
 (.ret (.mk [(pc (.setc o4 0 r99) 0),(pc (.setc o4 0 r99) 1)])))
 (.next ⟨[],[]⟩)
 (.next ⟨[],[]⟩))
 (.next ⟨[],[]⟩))
 (.next ⟨[],[]⟩))
 (.call ⟨[],[]⟩ [] 103 223 [r0,r6,r7]
 (.ret (.mk [(pc (.setc o4 0 (.mk [pT,adP])) 0),(pc (.setc o4 0 (.mk [pT,adP])) 1)])))))))))
theorem acS:HU.map told=some (VR,[]):=by kernel_rfl
theorem avX:tree (ab HU)=VR:=aI acS
def HT:Option PC:=cF [6,8,14,20,25] [] Tryz.f223 223 []
def VP:PT:=
 (.blockS ⟨[(7,r0)],[]⟩ 0 [6,8,9,14,15,20,21,25,26] []
 (.iteS ⟨[],[]⟩ (ak r7 (pi 9)) [6,14,15,20,21,25,26] []
 (.call ⟨[],[]⟩ [] 13 222 [(aD r1 r2)]
 (.ret cU))
 (.iteS ⟨[],[]⟩ (ak r7 (pi 10)) [6,20,21,25,26] []
 (.call ⟨[],[]⟩ [] 19 222 [(aY r1 r2)]
 (.ret fA))
 (.iteS ⟨[],[]⟩ (ak r7 (pi 11)) [6,25,26] []
 (.call ⟨[],[]⟩ [] 24 225 [r1,r2]
 (.ret nC))
 (.ite (ak r7 (pi 12))
 (.ret (.mn r1 r2))
 (.next ⟨[],[]⟩))
 (.next ⟨[],[]⟩))
 (.next ⟨[],[]⟩))
 (.next ⟨[],[]⟩))
 (.ret (.mx r1 r2)))
theorem acR:HT.map told=some (VP,[]):=by kernel_rfl
theorem avV:tree (ab HT)=VP:=aI acR
def HY:Option PC:=cF [4,5,6,7] [] Tryz.f225 225 []
def VV:PT:=
 (.call ⟨[],[]⟩ [] 19 226 [(.conv .u64 (.mx r0 (aY (pi 0) r0))),(.conv .u64 (.mx r1 (aY (pi 0) r1)))]
 (.ite (.cb .neq wS (ah r1 (pi 0)))
 (.ret (aY (pi 0) adw))
 (.ret adw)))
theorem acW:HY.map told=some (VV,[]):=by kernel_rfl
theorem av2:tree (ab HY)=VV:=aI acW
def Gv:Option PC:=cF [4,5,6,7,8,9,10,11,12,13] [] Tryz.f226 226 []
def TF:PT:=
 (.chk (bN AI (pi 0))
 (.ret (.tup [(.ai .add .u64 (.ai .add .u64 (.ai .mul .u64 (.ai .shr .u64 r0 AI) (.ai .shr .u64 r1 AI)) (.ai .shr .u64 adv AI)) (.ai .shr .u64 (.ai .add .u64 (.ai .and .u64 adv (.con (.v (.int .u64 4294967295)))) (.ai .mul .u64 (.ai .and .u64 r0 (.con (.v (.int .u64 4294967295)))) (.ai .shr .u64 r1 AI))) AI)),(.ai .mul .u64 r0 r1)])))
theorem abl:Gv.map told=some (TF,[]):=by kernel_rfl
theorem atq:tree (ab Gv)=TF:=aI abl
def yT:Option PC:=cF [2,3,5,8] [] Tryz.f205 205 [6]
def BO:Nat→PC:=bf yT
def ao2 (b:Nat→PC):PC:=.block 0 [3,11,12] [] (.loop [3,11] [] (b 0))
def ao3 (b:Nat→PC):PC:=.block 2 [6,27,28] [6] (.loop [6,27] [6] (b 1))
def KL (b:Nat→PC):PT:=
 (.ite (ah bK bY)
 (.chk (ao r9 bK)
 (.ite (ah (aD r3 (.llen (pn r9 bK))) (pi 0))
 (.chk (.nt pT)
 (.chk (.nt pT)
 (.next ⟨[(3,(aD r3 (.llen (pn r9 bK)))),(11,(aD bK (pi 1)))],[]⟩)))
 (.next ⟨[(3,(aD r3 (.llen (pn r9 bK)))),(11,(aD bK (pi 1)))],[]⟩)))
 (.exit 0 ⟨[(12,(ah bK bY))],[]⟩))
def KM (b:Nat→PC):PT:=
 (.ite (ah eC mL)
 (.chk (ao eB eC)
 (.chk (aX (.llen (.app o6 (pn eB eC))) cj)
 (.next ⟨[(6,pN),(27,(aD eC (pi 1)))],[(6,(.app o6 (pn eB eC)))]⟩)))
 (.exit 2 ⟨[(28,(ah eC mL))],[]⟩))
def Vv (b:Nat→PC):PT:=
 (.brk ⟨[(11,(pi 0)),(10,(.llen r0)),(9,r0),(3,(pi 0))],[]⟩
(ao2 b)
 (.call ⟨[],[]⟩ [] 24 224 [pL,r3]
 (.brk ⟨[(27,(pi 0)),(26,(.llen r0)),(25,r0),(6,pN)],[(6,nC)]⟩
(ao3 b)
 (.ret o6))))
def aj0 (b:Nat→PC):PT×List (Shp×PT):=(Vv b,[(.lp 0 [3,11,12] [] [3,11] [],KL b),(.lp 2 [6,27,28] [6] [6,27] [6],KM b)])
theorem JN:yT.map told=some (aj0 (aV yT)):=by kernel_rfl
theorem avC:tree (ab yT)=Vv BO:=bz JN
theorem aew:round 0 [3,11,12] [] [3,11] [] (BO 0)=KL BO:=aQ JN 0 fun _=>rfl
theorem aex:round 2 [6,27,28] [6] [6,27] [6] (BO 1)=KM BO:=aQ JN 1 fun _=>rfl
def Gk:Option PC:=cF [2,3,7,12] [] Tryz.f22 22 [1]
def Ts:PT:=
 (.ite (aP ub (pi 0))
 (.ret (pi 0))
 (.ite (.nt ga)
 (.ret (pi 2))
 (.ite (aP jM (pi 0))
 (.ret (pi 1))
 (.ret (pi 0)))))
theorem abb:Gk.map told=some (Ts,[]):=by kernel_rfl
theorem atd:tree (ab Gk)=Ts:=aI abb
def Gi:Option PC:=cF [8,9,10,11] [] Tryz.f16 16 [4,6]
def Tq:PT:=
 (.call ⟨[],[(6,(.mk [r2])),(4,(.mk [r0]))]⟩ [] 14 33 [tZ,r3]
 (.ite (ak (.llen (pc (.setc o6 0 ct) 15)) (pi 0))
 (.ret (pi (-1)))
 (.call ⟨[],[(6,(.setc o6 0 ct))]⟩ [] 23 35 [(ar 8 o4),r1,(pi 6),(ar 19 (.setc o6 0 ct)),r3]
 (.call ⟨[],[]⟩ [] 24 34 [gx]
 (.call ⟨[(29,(ar 15 o6)),(27,(ar 8 o4)),(9,(.mx nC (pi 0)))],[]⟩ [] 31 37 [(ar 19 o6)]
 (.call ⟨[],[]⟩ [] 33 36 [eC,kL,kM,r9]
 (.ite (aP (.tget mM 1) (pi 0))
 (.ret (pi (-1)))
 (.ret (.tget mM 0)))))))))
theorem aa9:Gi.map told=some (Tq,[]):=by kernel_rfl
theorem atb:tree (ab Gi)=Tq:=aI aa9
def Gj:Option PC:=cF [2] [] Tryz.f34 34 [1]
def Tr:PT:=
 (.ite (.pick (aP ub (pi 0)) pT (.nt ga))
 (.ret (pi (-1)))
 (.ret jM))
theorem aba:Gj.map told=some (Tr,[]):=by kernel_rfl
theorem atc:tree (ab Gj)=Tr:=aI aba
def yR:Option PC:=cF [2,4] [] Tryz.f37 37 [1,3,6,8]
def BM:Nat→PC:=bf yR
def ao0 (b:Nat→PC):PC:=.block 0 [3,16,17] [3] (.loop [3,16] [3] (b 0))
def ao1 (b:Nat→PC):PC:=.block 2 [2,3,36,37] [3] (.loop [2,3,36] [3] (b 1))
def E3 (b:Nat→PC):PT:=
 (.ite (ah dk dx)
 (.chk (ao ct dk)
 (.ite (.pick (ak r4 (pi 1)) (ak (pc (.setc z9 0 qa) 0) (pi 1)) pF)
 (.chk (aX (.llen (.app o3 (.lst [(pc (.setc z9 0 qa) 6)]))) cj)
 (.next ⟨[(3,pN),(16,(aD dk (pi 1)))],[(3,(.app o3 (.lst [(pc (.setc z9 0 qa) 6)])))]⟩))
 (.next ⟨[(16,(aD dk (pi 1)))],[]⟩)))
 (.exit 0 ⟨[(17,(ah dk dx))],[]⟩))
def xe (b:Nat→PC):PT:=
 (.ite (ah il nF)
 (.chk (ao D8 il)
 (.ite (.pick (ak r4 (pi 0)) (ak (pc DO 0) (pi 2)) pF)
 (.ret (pc DO 6))
 (.ite (.pick (ak r4 (pi 1)) (ak (pc DO 0) (pi 1)) pF)
 (.chk (aX (.llen (.app o3 (.lst [(pc DO 6)]))) cj)
 (.next ⟨[(3,pN),(36,(aD il (pi 1)))],[(3,(.app o3 (.lst [(pc DO 6)])))]⟩))
 (.next ⟨[(36,(aD il (pi 1)))],[]⟩))))
 (.exit 2 ⟨[(37,(ah il nF))],[]⟩))
def Vr (b:Nat→PC):PT:=
 (.brk ⟨[(16,(pi 0)),(15,D2),(14,(pc (.mk [r0]) 15)),(4,ua),(3,pN),(2,(pi 0))],[(3,pL),(1,(.mk [r0]))]⟩
(ao0 b)
 (.brk ⟨[(36,(pi 0)),(35,wO),(34,(pc o1 17))],[]⟩
(ao1 b)
 (.ite (ak (.llen o3) (pi 0))
 (.ret (pi (-1)))
 (.call ⟨[],[]⟩ [] 66 80 [o3]
 (.ret RE)))))
def ajY (b:Nat→PC):PT×List (Shp×PT):=(Vr b,[(.lp 0 [3,16,17] [3] [3,16] [3],E3 b),(.lp 2 [2,3,36,37] [3] [2,3,36] [3],xe b)])
theorem JL:yR.map told=some (ajY (aV yR)):=by kernel_rfl
theorem avx:tree (ab yR)=Vr BM:=bz JL
theorem SD:round 0 [3,16,17] [3] [3,16] [3] (BM 0)=E3 BM:=aQ JL 0 fun _=>rfl
theorem E4:round 2 [2,3,36,37] [3] [2,3,36] [3] (BM 1)=xe BM:=aQ JL 1 fun _=>rfl
def yZ:Option PC:=cF [2,3,4] [] Tryz.f80 80 []
def Na:Nat→PC:=bf yZ
def aax (b:Nat→PC):PC:=.block 0 [3,4,12,13,14,15] [] (.loop [3,4] [] (b 0))
def KN (b:Nat→PC):PT:=
 (.ite (ah r4 (.llen r0))
 (.chk (ao r0 r4)
 (.next ⟨[(3,(.mn r3 (pn r0 r4))),(4,(aD r4 (pi 1)))],[]⟩))
 (.exit 0 ⟨[(12,r4),(13,r0),(14,(.llen r0)),(15,(ah r4 (.llen r0)))],[]⟩))
def VF (b:Nat→PC):PT:=
 (.ite (ah (.llen r0) (pi 1))
 (.chk (.nt pT)
 (.chk (.nt pT)
 (.chk (ao r0 (pi 0))
 (.brk ⟨[(4,(pi 1)),(3,(pn r0 (pi 0)))],[]⟩
(aax b)
 (.ret r3)))))
 (.chk (ao r0 (pi 0))
 (.brk ⟨[(4,(pi 1)),(3,(pn r0 (pi 0)))],[]⟩
(aax b)
 (.ret r3))))
def aj6 (b:Nat→PC):PT×List (Shp×PT):=(VF b,[(.lp 0 [3,4,12,13,14,15] [] [3,4] [],KN b)])
theorem Qy:yZ.map told=some (aj6 (aV yZ)):=by kernel_rfl
theorem avM:tree (ab yZ)=VF Na:=bz Qy
theorem aey:round 0 [3,4,12,13,14,15] [] [3,4] [] (Na 0)=KN Na:=aQ Qy 0 fun _=>rfl
def BY:Option PC:=cF [8,9,15,39,58,74,11,12] [] Tryz.f36 36 [4,5,10]
def Fz:PT:=
 (.blockS ⟨[],[(10,wU),(5,(.mk [r1])),(4,(.mk [r0]))]⟩ 0 [8,9,15,16,17,18,19,25,26,32,33,38,39,40,41,42,43,47,48,52,53,57,58,59,60,61,65,66,69,70,73,74,75,76,77,80] []
 (.call ⟨[],[]⟩ [] 17 74 [(ar 8 o4)]
 (.call ⟨[(19,(aP gf (pi 0)))],[]⟩ [(19,false)] 23 75 [(ar 8 o4),(pc o5 9)]
 (.call ⟨[(26,(.pick fA pT (.nt gx)))],[]⟩ [(26,false)] 30 75 [(ar 8 o4),(pc o5 10)]
 (.call ⟨[(33,(.pick mL pT (.nt nE)))],[]⟩ [(33,false)] 36 76 [(pc o5 8)]
 (.iteS ⟨[],[]⟩ (.pick mM pT (.nt il)) [8,9,39,40,41,42,43,47,48,52,53,57,58,59,60,61,65,66,69,70,73,74,75,76,77,80] []
 (.ret (.tup [(pi 0),(pi 1)]))
 (.iteS ⟨[],[]⟩ adA [8,9,58,59,60,61,65,66,69,70,73,74,75,76,77,80] []
 (.ret (.tup [(pi 0),(pi 1)]))
 (.call ⟨[(61,(aP r2 (pi (-1))))],[]⟩ [(61,true)] 63 76 [r2]
 (.iteS ⟨[],[]⟩ (.pick (.pick (.pick Kl (.nt w7) pF) pT (ah r3 (pi 0))) pT (bj r3 (pi 20000))) [8,9,74,75,76,77,80] []
 (.ret (.tup [(pi 0),(pi 1)]))
 (.call ⟨[],[]⟩ [] 76 77 [(.mk [(pc bI 0),(pc bI 1),(pc bI 2)])]
 (.ite (.pick qm (ak r2 (pi (-1))) pF)
 (.ret (.tup [(pi 0),(pi 4)]))
 (.next ⟨[],[]⟩)))
 (.next ⟨[],[]⟩)))
 (.next ⟨[],[]⟩))
 (.next ⟨[],[]⟩))))))
 (.call ⟨[],[]⟩ [] 85 78 [(ar 8 o4),(ar 15 o5),r2]
 (.ite (aP (.tget Ec 1) (pi 0))
 (.ret (.tup [(pi 0),(.tget Ec 1)]))
 (.call ⟨[(11,(.tget Ec 0))],[]⟩ [] 92 76 [(.tget Ec 0)]
 (.ite (.pick (.nt RI) pT (bj (aD bK r3) (pi 100000)))
 (.ret (.tup [(pi 0),(pi 3)]))
 (.call ⟨[],[]⟩ [] 106 79 [(ar 8 o4),(pc o5 10),(aD bK r3)]
 (.ret (.tup [(.tget adQ 0),(.tget adQ 1)]))))))))
theorem acI:BY.map told=some (Fz,[]):=by kernel_rfl
theorem VG:tree (ab BY)=Fz:=aI acI
def yG:Option PC:=cF [2,3,4,5,6,7,10,11,12] [] Tryz.f74 74 [1,9]
def MY:Nat→PC:=bf yG
def aoG (b:Nat→PC):PC:=.block 0 [2,38,39] [] (.loop [2,38] [] (b 0))
def EP (b:Nat→PC):PT:=
 (.ite (ah iQ nG)
 (.blockS ⟨[],[]⟩ 1 [2,9,40,41,42,43,44,45] [9]
 (.chk (ao il iQ)
 (.call ⟨[],[]⟩ [] 44 118 [(pc (.setc DR 0 (pn il iQ)) 0),(pi 10)]
 (.ite (.nt w6)
 (.ret (pi 1))
 (.next ⟨[],[]⟩))))
 (.next ⟨[(38,(aD iQ (pi 1)))],[]⟩))
 (.exit 0 ⟨[(39,(ah iQ nG))],[]⟩))
def U9 (b:Nat→PC):PT:=
 (.call ⟨[(2,(pi 0))],[(1,(.mk [r0]))]⟩ [] 15 113 [gd]
 (.call ⟨[(5,(.tget dx 2)),(4,(.tget dx 1)),(3,(.tget dx 0))],[]⟩ [] 21 114 [(pc o1 0),(pi 8),(.con (.clo 115 []))]
 (.ite (aP fB (pi 0))
 (.ret fB)
 (.call ⟨[],[(1,(ar 8 o1))]⟩ [] 27 114 [r3,(pi 40),(.clo 116 [(.ref (ar 8 o1))])]
 (.ite (aP eC (pi 0))
 (.ret eC)
 (.ite (bj mK (pi 20))
 (.ret (pi 6))
 (.brk ⟨[(38,(pi 0)),(37,mK),(36,(pc o1 2))],[]⟩
(aoG b)
 (.call ⟨[],[]⟩ [] 49 114 [r4,(pi 200),(.clo 119 [(.ref o1)])]
 (.ite (aP nH (pi 0))
 (.ret nH)
 (.call ⟨[],[]⟩ [] 55 114 [r5,(pi 20),(.clo 120 [(.ref o1)])]
 (.ite (aP ug (pi 0))
 (.ret ug)
 (.call ⟨[],[]⟩ [] 60 122 [(.sub o1 0 8)]
 (.ite (aP uh (pi 0))
 (.ret uh)
 (.call ⟨[],[]⟩ [] 65 123 [(.sub o1 0 8)]
 (.ret Km)))))))))))))))
def ajM (b:Nat→PC):PT×List (Shp×PT):=(U9 b,[(.lp 0 [2,38,39] [] [2,38] [],EP b)])
theorem Qm:yG.map told=some (ajM (aV yG)):=by kernel_rfl
theorem avj:tree (ab yG)=U9 MY:=bz Qm
theorem So:round 0 [2,38,39] [] [2,38] [] (MY 0)=EP MY:=aQ Qm 0 fun _=>rfl
def yK:Option PC:=cF [] [] Tryz.f113 113 [1,2,3,4,6,16390,20486,24582,21,8,34,10,12298,16394,47]
def u9:Nat→PC:=bf yK
def aoL (b:Nat→PC):PC:=.block 0 [2,14,15] [2] (.loop [2,14] [2] (b 0))
def aoM (b:Nat→PC):PC:=.block 2 [3,27,28] [3] (.loop [3,27] [3] (b 1))
def aoN (b:Nat→PC):PC:=.block 4 [4,40,41] [4] (.loop [4,40] [4] (b 2))
def KG (b:Nat→PC):PT:=
 (.ite oT
 (.chk (ao bR ct)
 (.chk (aX (.llen ady) cj)
 (.next ⟨[(2,pN),(14,(aD ct (pi 1)))],[(2,ady)]⟩)))
 (.exit 0 ⟨[(15,oT)],[]⟩))
def KH (b:Nat→PC):PT:=
 (.ite (ah eC mL)
 (.chk (ao eB eC)
 (.chk (aX (.llen adF) cj)
 (.next ⟨[(3,pN),(27,(aD eC (pi 1)))],[(3,adF)]⟩)))
 (.exit 2 ⟨[(28,(ah eC mL))],[]⟩))
def KI (b:Nat→PC):PT:=
 (.ite (ah lJ uf)
 (.chk (ao iQ lJ)
 (.chk (aX (.llen adC) cj)
 (.next ⟨[(4,pN),(40,(aD lJ (pi 1)))],[(4,adC)]⟩)))
 (.exit 4 ⟨[(41,(ah lJ uf))],[]⟩))
def Vk (b:Nat→PC):PT:=
 (.brk ⟨[(14,(pi 0)),(13,(.llen jM)),(12,jM),(4,pN),(3,pN),(2,pN)],[(4,pL),(3,pL),(2,pL),(1,(.mk [r0]))]⟩
(aoL b)
 (.brk ⟨[(27,(pi 0)),(26,mJ),(25,(pc o1 3))],[]⟩
(aoM b)
 (.brk ⟨[(40,(pi 0)),(39,nz),(38,(pc o1 4))],[]⟩
(aoN b)
 (.ret (.tup [o2,o3,o4])))))
def ajR (b:Nat→PC):PT×List (Shp×PT):=(Vk b,[(.lp 0 [2,14,15] [2] [2,14] [2],KG b),(.lp 2 [3,27,28] [3] [3,27] [3],KH b),(.lp 4 [4,40,41] [4] [4,40] [4],KI b)])
theorem DF:yK.map told=some (ajR (aV yK)):=by kernel_rfl
theorem avq:tree (ab yK)=Vk u9:=bz DF
theorem aes:round 0 [2,14,15] [2] [2,14] [2] (u9 0)=KG u9:=aQ DF 0 fun _=>rfl
theorem aet:round 2 [3,27,28] [3] [3,27] [3] (u9 1)=KH u9:=aQ DF 1 fun _=>rfl
theorem aeu:round 4 [4,40,41] [4] [4,40] [4] (u9 2)=KI u9:=aQ DF 2 fun _=>rfl
def yI:Option PC:=cF [6,7,8] [] Tryz.f114 114 []
def M1:Nat→PC:=bf yI
def aoJ (b:Nat→PC):PC:=.block 0 [6,15,16] [] (.loop [6,15] [] (b 0))
def ES (b:Nat→PC):PT:=
 (.ite (ah dx ct)
 (.blockS ⟨[],[]⟩ 1 [6,7,8,17,18,19,20,21,22,24,25,26,27] []
 (.call ⟨[(7,dx)],[]⟩ [] 20 157 [r0,dx]
 (.ite (aP eA (pi 0))
 (.ret eA)
 (.callc ⟨[],[]⟩ [] 26 r2 [r7]
 (.ite (.nt mL)
 (.ret (pi 1))
 (.next ⟨[],[]⟩)))))
 (.next ⟨[(15,(aD dx (pi 1)))],[]⟩))
 (.exit 0 ⟨[(16,(ah dx ct))],[]⟩))
def Vg (b:Nat→PC):PT:=
 (.ite (bj (.llen r0) r1)
 (.ret (pi 6))
 (.brk ⟨[(15,(pi 0)),(14,(.llen r0)),(6,(pi 0))],[]⟩
(aoJ b)
 (.ret (pi 0))))
def ajP (b:Nat→PC):PT×List (Shp×PT):=(Vg b,[(.lp 0 [6,15,16] [] [6,15] [],ES b)])
theorem Qp:yI.map told=some (ajP (aV yI)):=by kernel_rfl
theorem avm:tree (ab yI)=Vg M1:=bz Qp
theorem Sq:round 0 [6,15,16] [] [6,15] [] (M1 0)=ES M1:=aQ Qp 0 fun _=>rfl
def HF:Option PC:=cF [4] [] Tryz.f157 157 []
def Vj:PT:=
 (.chk (ao r0 r1)
 (.call ⟨[],[]⟩ [] 9 181 [(pn r0 r1)]
 (.ite (.nt r9)
 (.ret (pi 2))
 (.chk (.slok r0 (pi 0) r1)
 (.chk (ao r0 r1)
 (.call ⟨[],[]⟩ [] 18 182 [(.slc r0 (pi 0) r1),(pn r0 r1)]
 (.ite ij
 (.ret (pi 5))
 (.ret (pi 0)))))))))
theorem acA:HF.map told=some (Vj,[]):=by kernel_rfl
theorem avp:tree (ab HF)=Vj:=aI acA
def yJ:Option PC:=cF [2,3,4,5] [] Tryz.f181 181 []
def M2:Nat→PC:=bf yJ
def aoK (b:Nat→PC):PC:=.block 0 [2,16,17] [] (.loop [2,16] [] (b 0))
def ET (b:Nat→PC):PT:=
 (.ite (ah dk dx)
 (.chk (ao ct dk)
 (.ite (.pick (.nt (.pick (.pick (bN qa (.con (.v (.int .u8 97)))) (aX qa (.con (.v (.int .u8 122)))) pF) pT (.pick (bN qa (.con (.v (.int .u8 65)))) (aX qa (.con (.v (.int .u8 90)))) pF))) (.pick (ak dk (pi 0)) pT (.pick (aP qa (.con (.v (.int .u8 95)))) (.pick (ah qa (.con (.v (.int .u8 48)))) pT (bj qa (.con (.v (.int .u8 57))))) pF)) pF)
 (.ret pF)
 (.next ⟨[(16,(aD dk (pi 1)))],[]⟩)))
 (.exit 0 ⟨[(17,(ah dk dx))],[]⟩))
def Vi (b:Nat→PC):PT:=
 (.ite (.pick (.cs .eql r0 (.con (.v (.string ⟨#[]⟩)))) pT (bj (.slen r0) (pi 20)))
 (.ret pF)
 (.chk (aX (.slen r0) cj)
 (.brk ⟨[(16,(pi 0)),(15,(.llen (.bytes r0))),(14,(.bytes r0)),(2,pF)],[]⟩
(aoK b)
 (.ret pT))))
def ajQ (b:Nat→PC):PT×List (Shp×PT):=(Vi b,[(.lp 0 [2,16,17] [] [2,16] [],ET b)])
theorem Qq:yJ.map told=some (ajQ (aV yJ)):=by kernel_rfl
theorem avo:tree (ab yJ)=Vi M2:=bz Qq
theorem Sr:round 0 [2,16,17] [] [2,16] [] (M2 0)=ET M2:=aQ Qq 0 fun _=>rfl
end Rm
