/-
  The functions of this seat, compiled (2).
-/
import Derived.Test.YtbagcfebdgiihaaGreatDoorSAJ
import Derived.KernelRfl
set_option linter.unusedVariables false
set_option maxRecDepth 100000
noncomputable section
namespace Rm
open Go Go.Proofs Cx
def xw:Option PC:=cF [] [] Tryz.f29 29 [2,4,5,65541,69637,73733,77829,7,31,9,49,11,13]
def qw:Nat→PC:=br xw
def alk (b:Nat→PC):PC:=.block 0 [20,21] [65541,5] (.loop [20] [65541,5] (b 0))
def alm (b:Nat→PC):PC:=.block 2 [38,39] [73733,5] (.loop [38] [73733,5] (b 1))
def aln (b:Nat→PC):PC:=.block 4 [56,57] [5,69637] (.loop [56] [5,69637] (b 2))
def alo (b:Nat→PC):PC:=.block 6 [76,77] [5,77829] (.loop [76] [5,77829] (b 3))
def Dm (b:Nat→PC):PT:=
 (.ite (ah bR dR)
 (.chk (ao dI bR)
 (.ite (bh (pc (.setc z9 0 (pn dI bR)) 6) r1)
 (.exit 0 ⟨[(21,(ah bR dR))],[]⟩)
 (.chk (bB (.llen (.app (.o 65541) (.lst [(aD 9 (.setc z9 0 (pn dI bR)))]))) cn)
 (.next ⟨[(20,(aG bR (pi 1)))],[(65541,(.app (.o 65541) (.lst [(aD 9 (.setc z9 0 (pn dI bR)))]))),(5,(.setc o5 15 pN))]⟩))))
 (.exit 0 ⟨[(21,(ah bR dR))],[]⟩))
def Dn (b:Nat→PC):PT:=
 (.ite (ah ky mV)
 (.chk (ao iV ky)
 (.ite (bh (pc (.setc z9 0 (pn iV ky)) 6) r1)
 (.exit 2 ⟨[(39,(ah ky mV))],[]⟩)
 (.chk (bB (.llen (.app (.o 73733) (.lst [(aD 9 (.setc z9 0 (pn iV ky)))]))) cn)
 (.next ⟨[(38,(aG ky (pi 1)))],[(73733,(.app (.o 73733) (.lst [(aD 9 (.setc z9 0 (pn iV ky)))]))),(5,(.setc o5 17 pN))]⟩))))
 (.exit 2 ⟨[(39,(ah ky mV))],[]⟩))
def Dp (b:Nat→PC):PT:=
 (.ite (ah ou CX)
 (.chk (ao pY ou)
 (.ite (bB (pc (.setc z2 0 (pn pY ou)) 0) (.llen (.o 65541)))
 (.chk (bB (.llen ZK) cn)
 (.next ⟨[(56,(aG ou (pi 1)))],[(5,(.setc o5 16 pN)),(69637,ZK)]⟩))
 (.next ⟨[(56,(aG ou (pi 1)))],[]⟩)))
 (.exit 4 ⟨[(57,(ah ou CX))],[]⟩))
def Dq (b:Nat→PC):PT:=
 (.ite (ah rD Pb)
 (.blockS ⟨[],[]⟩ 7 [13,78,79,80,81,82,83,84,85] [13,77829,5]
 (.chk (ao zn rD)
 (.call ⟨[],[(13,(.setc z3 0 (pn zn rD)))]⟩ [] 85 80 [(pc (.setc z3 0 (pn zn rD)) 1),(.llen (.o 65541))]
 (.ite zo
 (.chk (bB (.llen ZW) cn)
 (.next ⟨[],[(77829,ZW),(5,(.setc o5 18 pN))]⟩))
 (.next ⟨[],[]⟩))))
 (.next ⟨[(76,(aG rD (pi 1)))],[]⟩))
 (.exit 6 ⟨[(77,(ah rD Pb))],[]⟩))
def RB (b:Nat→PC):PT:=
 (.brk ⟨[(20,(pi 0)),(19,(.llen mS)),(18,mS)],[(77829,pL),(73733,pL),(69637,pL),(65541,pL),(5,(.setc pP 0 (.mk [(aD 15 (.mk [r0])),pL,pL,pL,pL]))),(4,pP),(2,(.mk [r0]))]⟩
(alk b)
 (.brk ⟨[(38,(pi 0)),(37,(.llen (pc o2 17))),(36,(pc o2 17))],[]⟩
(alm b)
 (.brk ⟨[(56,(pi 0)),(55,(.llen (pc o2 16))),(54,(pc o2 16))],[]⟩
(aln b)
 (.brk ⟨[(76,(pi 0)),(75,(.llen (pc o2 18))),(74,(pc o2 18))],[]⟩
(alo b)
 (.ret (aD 19 (.setc o4 0 (.mk [(pc o5 0),(pc o5 1),(pc o5 2),(pc o5 3),(pc o5 4),(pc o5 5),(pc o5 6),(pc o5 7),(pc o5 8),(pc o5 9),(pc o5 10),(pc o5 11),(pc o5 12),(pc o5 13),(pc o5 14),(.o 65541),(.o 69637),(.o 73733),(.o 77829)]))))))))
def af9 (b:Nat→PC):PT×List (Shp×PT):=(RB b,[(.lp 0 [20,21] [65541,5] [20] [65541,5],Dm b),(.lp 2 [38,39] [73733,5] [38] [73733,5],Dn b),(.lp 4 [56,57] [5,69637] [56] [5,69637],Dp b),(.lp 6 [76,77] [5,77829] [76] [5,77829],Dq b)])
theorem y3:xw.map told=some (af9 (bj xw)):=by kernel_rfl
theorem aq3:tree (ae xw)=RB qw:=bO y3
theorem PB:round 0 [20,21] [65541,5] [20] [65541,5] (qw 0)=Dm qw:=bn y3 0 fun _=>rfl
theorem PD:round 2 [38,39] [73733,5] [38] [73733,5] (qw 1)=Dn qw:=bn y3 1 fun _=>rfl
theorem PF:round 4 [56,57] [5,69637] [56] [5,69637] (qw 2)=Dp qw:=bn y3 2 fun _=>rfl
theorem PG:round 6 [76,77] [5,77829] [76] [5,77829] (qw 3)=Dq qw:=bn y3 3 fun _=>rfl
def Fq:Option PC:=cF [4] [] Tryz.f80 80 []
def RG:PT:=
 (.ret O1)
theorem YH:Fq.map told=some (RG,[]):=by kernel_rfl
theorem aq9:tree (ae Fq)=RG:=ba YH
def EG:Option PC:=cF [] [] Tryz.f81 81 [5,8,77832,10]
def Qq:PT:=
 (.call ⟨[],[(10,zc)]⟩ [] 18 33 [kW,r1,r2,(.mk [(.mk [(pc iU 0),(pc iU 1),(pc iU 2),(pc iU 3),(pc iU 4),(pc iU 5),(pc iU 6),(pc iU 7),(pc iU 8),(pc iU 9),(pc iU 10),(pc iU 11),(pc iU 12),(pc iU 13),(pc iU 14),(pc iU 15),(pc iU 16),(pc iU 17),pL]),(pi 0),(pi (-1)),(pi (-1)),(pi (-1)),r4])]
 (.ret (aD 5 (.setc bX 0 dI))))
theorem XR:EG.map told=some (Qq,[]):=by kernel_rfl
theorem apK:tree (ae EG)=Qq:=ba XR
def EF:Option PC:=cF [10] [] Tryz.f33 33 [4,7,8,9]
def Qp:PT:=
 (.call ⟨[],[(8,zc),(4,(.mk [r0]))]⟩ [] 16 84 [kW,r1,r2,(aD 24 (.mk [r3]))]
 (.iteS ⟨[(10,(.tget bx 1))],[(9,(.setc zc 0 (.tget bx 0)))]⟩ (aP (pc (.setc zc 0 (.tget bx 0)) 2) (pi (-1))) [] [9]
 (.chk (ao (pc o4 4) (pc o9 2))
 (.call ⟨[],[]⟩ [] 31 85 [(pn (pc o4 4) (pc o9 2)),r2,bC]
 (.next ⟨[],[(9,(.setc (.setc o9 0 (.tget jW 0)) 4 (.tget jW 1)))]⟩)))
 (.next ⟨[],[]⟩)
 (.ret (aD 5 (.setc o8 0 (aD 5 o9))))))
theorem XQ:EF.map told=some (Qp,[]):=by kernel_rfl
theorem apJ:tree (ae EF)=Qp:=ba XQ
def EK:Option PC:=cF [9,11,12,13,14] [] Tryz.f84 84 [4,7,8,10,16394]
def Qu:PT:=
 (.call ⟨[],[(16394,pL),(10,(.setc zc 0 (.mk [fq,(pi (-1)),pL,(pi 1)]))),(8,zc),(7,(.mk [r3])),(4,(.mk [r0]))]⟩ [] 19 126 [kW,(aD 24 (.mk [r3]))]
 (.ite (peq (.llen (.tget dR 1)) (pi 0))
 (.ret (.tup [OT,pL]))
 (.call ⟨[(11,(.tget dR 1))],[(7,(.setc o7 0 (.tget dR 0)))]⟩ [] 28 127 [r2]
 (.ite (.nt (.tget oq 1))
 (.ret (.tup [OT,pL]))
 (.call ⟨[],[]⟩ [] 37 128 [(aD 8 o4),r1,(aD 24 o7)]
 (.ite (peq (.llen mV) (pi 0))
 (.ret (.tup [OT,pL]))
 (.call ⟨[],[]⟩ [] 46 129 [(aD 8 o4),r1,r2,mV]
 (.ite (peq (pc vN 4) (pi 0))
 (.chk (ao (pc vN 3) (bH (.llen (pc vN 3)) (pi 1)))
 (.ret (.tup [(aD 5 (.setc o8 0 (aD 5 (.setc vN 2 (pn (pc vN 3) (bH (.llen (pc vN 3)) (pi 1))))))),bz])))
 (.ret (.tup [(aD 5 (.setc o8 0 (aD 5 vN))),bz]))))))))))
theorem XV:EK.map told=some (Qu,[]):=by kernel_rfl
theorem apO:tree (ae EK)=Qu:=ba XV
def EL:Option PC:=cF [5] [] Tryz.f126 126 [2,3,4]
def Qv:PT:=
 (.call ⟨[],[(4,ZB),(3,(.mk [r1])),(2,(.mk [r0]))]⟩ [] 10 29 [(aD 19 (.mk [r1])),(pc (.mk [r1]) 23)]
 (.call ⟨[(12,(aD 24 (.setc o3 0 bC)))],[]⟩ [] 15 184 [(aD 8 o2),(aD 24 (.setc o3 0 bC))]
 (.ret (.tup [(aD 24 (.setc o4 0 bU)),bF]))))
theorem XW:EL.map told=some (Qv,[]):=by kernel_rfl
theorem apP:tree (ae EL)=Qv:=ba XW
def xz:Option PC:=cF [4,7,9,11,12,13,14,15,16] [] Tryz.f184 184 [2,3,5,6,8,10,90,139]
def Av:Nat→PC:=br xz
def al7 (b:Nat→PC):PC:=.meach 90 [94,95,11,12] [0,1,0,1] [10] (b 0)
def al8 (b:Nat→PC):PC:=.meach 139 [143,144,15,16] [0,1,0,1] [10] (b 1)
def PK (b:Nat→PC):PT:=
 (.chk (ao bX bz)
 (.next ⟨[],[(10,(.setn bX bz 0 (.mk [pT,bU])))]⟩))
def PL (b:Nat→PC):PT:=
 (.blockS ⟨[],[]⟩ 3 [145,146,147,148,149] [10]
 (.call ⟨[(146,bF)],[]⟩ [] 148 219 [bx]
 (.chk (ao bX (.r 146))
 (.next ⟨[],[(10,(.setn bX (.r 146) 0 (.r 148)))]⟩)))
 (.next ⟨[],[]⟩))
def tI (b:Nat→PC):PT:=
 (.call ⟨[(7,(.mx (pc (.mk [r1]) 20) (pi 0)))],[(6,(.setc Jw 0 (aD 15 (.mk [r1])))),(5,(.setc pP 0 (aD 19 (.mk [r1])))),(3,(.mk [r1])),(2,(.mk [r0]))]⟩ [] 30 80 [(pc (.mk [r1]) 19),(.llen (pc (.setc pP 0 (aD 19 (.mk [r1]))) 15))]
 (.call ⟨[(48,(aP (pc o3 22) (pi (-1)))),(44,(.pick (.pick (.nt rA) pT (ah (pc o3 20) (pi (-1)))) pT (cg r7 (.llen (pc o5 15)))))],[]⟩ [(48,true),(44,false)] 51 80 [(pc o3 22),(pi 100001)]
 (.ite (.pick vV pT (.pick kz (.nt l8) pF))
 (.ret pL)
 (.chk (ao (pc o5 15) (pc o3 19))
 (.call ⟨[],[(8,(.setc z9 0 (pn (pc o5 15) (pc o3 19))))]⟩ [] 63 80 [(pc (.setc z9 0 (pn (pc o5 15) (pc o3 19))) 6),(pi 100001)]
 (.ite (.nt Ig)
 (.ret pL)
 (.chk (.an (cg (pi 20) (pi 0)) (bB (pi 20) cn))
 (.chk (peq (pi 20) (pi 20))
 (.chk (ah (.mlen (.con (.map []))) cn)
 (.chk (ah (.mlen (.put (.con (.map [])) (pi 0) (pc o6 3))) cn)
 (.chk (ah (.mlen (.put (.put (.con (.map [])) (pi 0) (pc o6 3)) (pi 1) (pc o6 14))) cn)
 (.chk (ah (.mlen OR) cn)
 (.chk (ah (.mlen (.put OR (pi 3) (pc o6 12))) cn)
 (.chk (ah (.mlen OW) cn)
 (.chk (ah (.mlen (.put OW (pi 5) (pc o3 21))) cn)
 (.blockS ⟨[(10,pN),(9,ZV)],[(90,(.tup [(.lst []),(.put (.put OW (pi 5) (pc o3 21)) (pi 6) ZV)])),(10,(.rep (pi 20) fq))]⟩ 0 [] [10]
 (.brk ⟨[],[]⟩
(al7 b)
 (.exit 0 ⟨[],[]⟩))
 (.call ⟨[],[(3,(aD 24 o3))]⟩ [] 104 217 [(pc o5 16),(.clo 218 [(.ref (aD 24 o3))])]
 (.call ⟨[(13,anH)],[]⟩ [] 108 181 [(aD 8 o2),(pc o6 9)]
 (.call ⟨[],[]⟩ [] 112 181 [(aD 8 o2),(pc o6 10)]
 (.chk (ah (.mlen (.con (.map []))) cn)
 (.chk (ah (.mlen OV) cn)
 (.chk (ah (.mlen (.put OV (pi 8) (peq (pc o6 2) (pi (-1))))) cn)
 (.chk (ah (.mlen (.put (.put OV (pi 8) (peq (pc o6 2) (pi (-1)))) (pi 9) (aP (.ai .and .i64 (pc o6 13) (pi 4)) (pi 0)))) cn)
 (.chk (ah (.mlen Ia) cn)
 (.chk (ah (.mlen (.put Ia (pi 11) (aP O4 O5))) cn)
 (.chk (ah (.mlen (.put (.put Ia (pi 11) (aP O4 O5)) (pi 12) cK)) cn)
 (.chk (ah (.mlen ZG) cn)
 (.blockS ⟨[],[(139,(.tup [(.lst []),(.put ZG (pi 14) (bh r9 (pi 0)))]))]⟩ 2 [] [10]
 (.brk ⟨[],[]⟩
(al8 b)
 (.exit 2 ⟨[],[]⟩))
 (.call ⟨[],[]⟩ [] 154 220 [(aD 19 o5),(pi 0),(pc o3 19)]
 (.chk (ao bX (pi 15))
 (.call ⟨[],[(10,(.setn bX (pi 15) 0 (.r 154)))]⟩ [] 160 220 [(aD 19 o5),(pi 1),(pc o3 19)]
 (.chk (ao bX (pi 16))
 (.call ⟨[],[(10,(.setn bX (pi 16) 0 (.r 160)))]⟩ [] 166 220 [(aD 19 o5),(pi 2),(pc o3 19)]
 (.chk (ao bX (pi 17))
 (.call ⟨[],[(10,(.setn bX (pi 17) 0 (.r 166)))]⟩ [] 171 220 [(aD 19 o5),(pi 3),r7]
 (.chk (ao bX (pi 18))
 (.call ⟨[],[(10,(.setn bX (pi 18) 0 (.r 171)))]⟩ [] 176 220 [(aD 19 o5),(pi 4),r7]
 (.chk (ao bX (pi 19))
 (.ret (.setn bX (pi 19) 0 (.r 176)))))))))))))))))))))))))))))))))))))))))
def agc (b:Nat→PC):PT×List (Shp×PT):=(tI b,[(.ea [10],PK b),(.ea [10],PL b)])
theorem HK:xz.map told=some (agc (bj xz)):=by kernel_rfl
theorem aq7:tree (ae xz)=tI Av:=bO HK
theorem aoi:oA [10] (Av 0)=PK Av:=Qo HK 0 fun _=>rfl
theorem aoj:oA [10] (Av 1)=PL Av:=Qo HK 1 fun _=>rfl
def Fo:Option PC:=cF [3] [] Tryz.f218 218 [2]
def RE:PT:=
 (.ret (bB kX (pc (.deref r1) 19)))
theorem YE:Fo.map told=some (RE,[]):=by kernel_rfl
theorem aq6:tree (ae Fo)=RE:=ba YE
def Fs:Option PC:=cF [4] [] Tryz.f217 217 []
def RI:PT:=
 (.call ⟨[],[]⟩ [] 7 246 [r0,r1]
 (.ret (cg r7 (pi 0))))
theorem YI:Fs.map told=some (RI,[]):=by kernel_rfl
theorem arb:tree (ae Fs)=RI:=ba YI
def xB:Option PC:=cF [4,5] [] Tryz.f246 246 []
def Kp:Nat→PC:=br xB
def alv (b:Nat→PC):PC:=.block 0 [4,8,9] [] (.loop [4,8] [] (b 0))
def Du (b:Nat→PC):PT:=
 (.ite (ah r8 r7)
 (.blockS ⟨[],[]⟩ 1 [4,5,10,11,12,13,14,15,16] []
 (.chk (ao r0 r8)
 (.callc ⟨[(5,r8)],[]⟩ [] 16 r1 [(pn r0 r8)]
 (.ite bx
 (.ret r5)
 (.next ⟨[],[]⟩))))
 (.next ⟨[(8,og)],[]⟩))
 (.exit 0 ⟨[(9,(ah r8 r7))],[]⟩))
def RM (b:Nat→PC):PT:=
 (.brk ⟨[(8,(pi 0)),(7,(.llen r0)),(4,(pi 0))],[]⟩
(alv b)
 (.ret (pi (-1))))
def age (b:Nat→PC):PT×List (Shp×PT):=(RM b,[(.lp 0 [4,8,9] [] [4,8] [],Du b)])
theorem N4:xB.map told=some (age (bj xB)):=by kernel_rfl
theorem arh:tree (ae xB)=RM Kp:=bO N4
theorem PM:round 0 [4,8,9] [] [4,8] [] (Kp 0)=Du Kp:=bn N4 0 fun _=>rfl
def Fk:Option PC:=cF [4] [] Tryz.f181 181 [2]
def Ro:PT:=
 (.call ⟨[],[(2,(.mk [r0]))]⟩ [] 9 57 [r1,(.llen ru)]
 (.ite (.nt r9)
 (.ret (pi (-1)))
 (.chk (ao (pc o2 1) r1)
 (.ret (pc (pn (pc o2 1) r1) 1)))))
theorem YB:Fk.map told=some (Ro,[]):=by kernel_rfl
theorem aqR:tree (ae Fk)=Ro:=ba YB
def Fp:Option PC:=cF [] [] Tryz.f219 219 [2]
def RF:PT:=
 (.ite r0
 (.ret (.mk [(pc Ib 0),(pc Ib 1)]))
 (.ret (.mk [(pc Ic 0),(pc Ic 1)])))
theorem YG:Fp.map told=some (RF,[]):=by kernel_rfl
theorem aq8:tree (ae Fp)=RF:=ba YG
def xx:Option PC:=cF [] [] Tryz.f220 220 [3,6,8]
def Ko:Nat→PC:=br xx
def alp (b:Nat→PC):PC:=.block 0 [12,13] [6] (.loop [12] [6] (b 0))
def Dr (b:Nat→PC):PT:=
 (.ite oo
 (.blockS ⟨[],[]⟩ 1 [8,14,15,16,17,18,19,20,25] [8,6]
 (.chk (ao bC bU)
 (.iteS ⟨[],[(8,(.setc z3 0 ry))]⟩ (.pick (peq (pc (.setc z3 0 ry) 0) r1) (peq (pc (.setc z3 0 ry) 1) r2) pF) [] [6]
 (.call ⟨[],[]⟩ [] 29 219 [(aP (pc o8 2) (pi 0))]
 (.ret (.mk [(pc (.setc o6 0 mU) 0),(pc (.setc o6 0 mU) 1)])))
 (.next ⟨[],[]⟩)
 (.next ⟨[],[]⟩)))
 (.next ⟨[(12,zi)],[]⟩))
 (.exit 0 ⟨[(13,oo)],[]⟩))
def RC (b:Nat→PC):PT:=
 (.brk ⟨[(12,(pi 0)),(11,(.llen zg)),(10,zg)],[(6,fq)]⟩
(alp b)
 (.ret (.mk [(pc (.setc o6 0 vT) 0),(pc (.setc o6 0 vT) 1)])))
def aga (b:Nat→PC):PT×List (Shp×PT):=(RC b,[(.lp 0 [12,13] [6] [12] [6],Dr b)])
theorem N3:xx.map told=some (aga (bj xx)):=by kernel_rfl
theorem aq4:tree (ae xx)=RC Ko:=bO N3
theorem PH:round 0 [12,13] [6] [12] [6] (Ko 0)=Dr Ko:=bn N3 0 fun _=>rfl
def E4:Option PC:=cF [2,3,4,11] [] Tryz.f127 127 []
def QY:PT:=
 (.blockS ⟨[],[]⟩ 0 [2,3,4,5,6,7,10,11,12,13,14] []
 (.iteS ⟨[],[]⟩ (.pick (ah r0 (pi 0)) pT (cg r0 (pi 22))) [2,3,11,12,13,14] []
 (.ret (.tup [(pi 0),pF]))
 (.call ⟨[],[]⟩ [] 14 185 [(.lst [(pc pQ 0),(pc pQ 1),(pc pQ 2),(pc pQ 3),(pc pQ 4),(pc pQ 5),(pc pQ 6),(pc pQ 7),(pc pQ 8),(pc pQ 9)]),r0]
 (.ite bD
 (.ret (.tup [(pi 0),pT]))
 (.next ⟨[],[]⟩)))
 (.next ⟨[],[]⟩))
 (.ret (.tup [(pi 1),pT])))
theorem Yl:E4.map told=some (QY,[]):=by kernel_rfl
theorem aqr:tree (ae E4)=QY:=ba Yl
def wZ:Option PC:=cF [8,9,11,12,13,14,55,70] [] Tryz.f129 129 [4,10,53]
def J5:Nat→PC:=br wZ
def akv (b:Nat→PC):PC:=.block 0 [] [] (.loop [8,9,10] [10] (b 0))
def Pk (b:Nat→PC):PT:=
 (.blockS ⟨[],[]⟩ 1 [8,9,10,11,12,13,14,32,33,35,36,37,38,39,40,41,42,43,44,45,46,49,50,52,53,54,55,56,57,58,68,70,71] [53,10]
 (.chk (ao bX (bH (.llen bX) (pi 1)))
 (.call ⟨[(11,(pn bX (bH (.llen bX) (pi 1))))],[]⟩ [] 41 187 [(aD 8 o4),(pn bX (bH (.llen bX) (pi 1))),r2,r3]
 (.ite (peq (.tget pV 0) bz)
 (.ret (.tup [bX,(pi 0)]))
 (.call ⟨[(13,(.tget pV 1)),(12,(.tget pV 0))],[]⟩ [] 50 185 [bX,(.tget pV 0)]
 (.chk (bB (.llen (.app bX (.lst [bU]))) cn)
 (.chk (.nt (.an (.an kA (.an (.nt (.nt cK)) pT)) (.nt (ao (pc o4 4) bU))))
 (.ite (.pick (.nt cK) pT (.pick kA (pc (pn (pc o4 4) bU) 1) pF))
 (.ret (.tup [(.app bX (.lst [bU])),(pi 0)]))
 (.ite kA
 (.ret (.tup [(.app bX (.lst [bU])),(pi 12)]))
 (.next ⟨[(10,pN)],[(10,(.app bX (.lst [bU])))]⟩)))))))))
 (.next ⟨[],[]⟩))
def QN (b:Nat→PC):PT:=
 (.call ⟨[(9,(pi 0)),(8,pL)],[(4,(.mk [r0]))]⟩ [] 19 186 [kW,r1,r2,r3]
 (.chk (.nt (.an (.an (.nt (.nt dR)) pT) (.nt (ao r3 (pi 0)))))
 (.ite (.pick (.nt dR) pT (aP (pn r3 (pi 0)) r1))
 (.ret (.tup [pL,(pi 1)]))
 (.brk ⟨[(10,pN)],[(10,(.lst [r1]))]⟩
(akv b)
 (.next ⟨[],[]⟩)))))
def afC (b:Nat→PC):PT×List (Shp×PT):=(QN b,[(.lp 0 [] [] [8,9,10] [10],Pk b)])
theorem NN:wZ.map told=some (afC (bj wZ)):=by kernel_rfl
theorem ap9:tree (ae wZ)=QN J5:=bO NN
theorem an0:round 0 [] [] [8,9,10] [10] (J5 0)=Pk J5:=bn NN 0 fun _=>rfl
def E0:Option PC:=cF [8] [] Tryz.f186 186 [4,9]
def tH:PT:=
 (.ite (.pick (.pick (.pick (.pick (ah r1 (pi 0)) pT (cg r1 (pc (.setc CV 0 (.llen (pc (.mk [r0]) 4))) 0))) pT (ah r2 (pi 0))) pT (cg r2 (pi 22))) pT (aP (.llen r3) (pi 5)))
 (.ret pF)
 (.call ⟨[],[]⟩ [] 35 222 [r3,(.clo 223 [(.ref (pc (.setc CV 0 (.llen (pc (.mk [r0]) 4))) 0))])]
 (.ret (.nt vU))))
theorem Yd:E0.map told=some (tH,[]):=by kernel_rfl
theorem aqc:tree (ae E0)=tH:=ba Yd
def E1:Option PC:=cF [3] [] Tryz.f223 223 []
def QP:PT:=
 (.ret (.pick (ah r0 (pi 0)) pT (cg r0 (.deref r1))))
theorem Ye:E1.map told=some (QP,[]):=by kernel_rfl
theorem aqb:tree (ae E1)=QP:=ba Ye
def Ft:Option PC:=cF [4] [] Tryz.f222 222 []
def RJ:PT:=
 (.call ⟨[],[]⟩ [] 7 247 [r0,r1]
 (.ret (cg r7 (pi 0))))
theorem YJ:Ft.map told=some (RJ,[]):=by kernel_rfl
theorem arc:tree (ae Ft)=RJ:=ba YJ
def xD:Option PC:=cF [4,5] [] Tryz.f247 247 []
def Kr:Nat→PC:=br xD
def alx (b:Nat→PC):PC:=.block 0 [4,8,9] [] (.loop [4,8] [] (b 0))
def Dw (b:Nat→PC):PT:=
 (.ite (ah r8 r7)
 (.blockS ⟨[],[]⟩ 1 [4,5,10,11,12,13,14,15,16] []
 (.chk (ao r0 r8)
 (.callc ⟨[(5,r8)],[]⟩ [] 16 r1 [(pn r0 r8)]
 (.ite bx
 (.ret r5)
 (.next ⟨[],[]⟩))))
 (.next ⟨[(8,og)],[]⟩))
 (.exit 0 ⟨[(9,(ah r8 r7))],[]⟩))
def RO (b:Nat→PC):PT:=
 (.brk ⟨[(8,(pi 0)),(7,(.llen r0)),(4,(pi 0))],[]⟩
(alx b)
 (.ret (pi (-1))))
def agh (b:Nat→PC):PT×List (Shp×PT):=(RO b,[(.lp 0 [4,8,9] [] [4,8] [],Dw b)])
theorem N6:xD.map told=some (agh (bj xD)):=by kernel_rfl
theorem arj:tree (ae xD)=RO Kr:=bO N6
theorem PO:round 0 [4,8,9] [] [4,8] [] (Kr 0)=Dw Kr:=bn N6 0 fun _=>rfl
def w6:Option PC:=cF [8,9] [] Tryz.f187 187 [4,11]
def J6:Nat→PC:=br w6
def akw (b:Nat→PC):PC:=.block 0 [8,9,25,26] [] (.loop [8,9,25] [] (b 0))
def C3 (b:Nat→PC):PT:=
 (.ite (ah jV jt)
 (.chk (ao dJ jV)
 (.ite (.pick (peq (pc CT 0) r2) (aP (pc CT 1) (pi 0)) pF)
 (.chk (ao r3 (pc CT 1))
 (.ret (.tup [(pn r3 (pc CT 1)),(pc CT 2)])))
 (.next ⟨[(25,(aG jV (pi 1)))],[]⟩)))
 (.exit 0 ⟨[(26,(ah jV jt))],[]⟩))
def QO (b:Nat→PC):PT:=
 (.call ⟨[(9,pF),(8,(pi 0))],[(4,(.mk [r0]))]⟩ [] 16 186 [kW,r1,r2,r3]
 (.ite (.nt bx)
 (.ret (.tup [(pi (-1)),pF]))
 (.chk (ao (pc o4 4) r1)
 (.brk ⟨[(25,(pi 0)),(24,(.llen (pc (pn (pc o4 4) r1) 2))),(23,(pc (pn (pc o4 4) r1) 2))],[]⟩
(akw b)
 (.ret (.tup [r1,pF]))))))
def afD (b:Nat→PC):PT×List (Shp×PT):=(QO b,[(.lp 0 [8,9,25,26] [] [8,9,25] [],C3 b)])
theorem NO:w6.map told=some (afD (bj w6)):=by kernel_rfl
theorem aqa:tree (ae w6)=QO J6:=bO NO
theorem Pl:round 0 [8,9,25,26] [] [8,9,25] [] (J6 0)=C3 J6:=bn NO 0 fun _=>rfl
def E3:Option PC:=cF [7,9,11,12] [] Tryz.f85 85 [3,6,8,10]
def QX:PT:=
 (.call ⟨[],[(6,fq)]⟩ [] 16 130 [(aD 4 (.mk [r0])),r1]
 (.ite (aP (.tget bx 1) (pi 0))
 (.ret (.tup [(.mk [(pc (.setc o6 0 vT) 0),(pc (.setc o6 0 vT) 1)]),(.tget bx 1)]))
 (.call ⟨[],[]⟩ [] 25 131 [(.mk [(pc (.setc kV 0 (.tget bx 0)) 0),(pc (.setc kV 0 (.tget bx 0)) 1),(pc (.setc kV 0 (.tget bx 0)) 2)]),r2]
 (.call ⟨[],[(10,(.setc fq 0 jV))]⟩ [] 28 127 [r1]
 (.ret (.tup [(.mk [(pc (.setc o6 0 (.mk [(pc H4 0),(pc H4 1)])) 0),(pc (.setc o6 0 (.mk [(pc H4 0),(pc H4 1)])) 1)]),(pi 0)]))))))
theorem Yk:E3.map told=some (QX,[]):=by kernel_rfl
theorem aqq:tree (ae E3)=QX:=ba Yk
def E5:Option PC:=cF [5,6,7,8,10,11] [] Tryz.f130 130 [2,3,4,12292,9]
def QZ:PT:=
 (.call ⟨[],[(4,kV),(3,(.mk [r1])),(2,(.mk [r0]))]⟩ [] 14 127 [(pc (.mk [r1]) 0)]
 (.ite (.nt (.tget bD 1))
 (.ret (.tup [OS,(pi 1)]))
 (.call ⟨[(6,(.tget bD 0))],[]⟩ [] 23 188 [(pc o2 3),(.clo 189 [(.ref (pc o3 0))])]
 (.ite (ah dJ (pi 0))
 (.ret (.tup [OS,(pi 4)]))
 (.chk (ao (pc o2 3) dJ)
 (.call ⟨[],[(9,H8)]⟩ [] 35 190 [(.mk [(pc H8 0),(pc H8 1),(pc H8 2)])]
 (.ite (.pick (aP (.tget vU 1) (pi 0)) pT (aP (.tget vU 0) r6))
 (.ret (.tup [OS,(pi 11)]))
 (.ret (.tup [(.mk [(pc OY 0),(pc OY 1),(pc OY 2)]),(pi 0)])))))))))
theorem Ym:E5.map told=some (QZ,[]):=by kernel_rfl
theorem aqt:tree (ae E5)=QZ:=ba Ym
def E6:Option PC:=cF [3] [] Tryz.f189 189 [2]
def Q0:PT:=
 (.ret (peq kX (.deref r1)))
theorem Yn:E6.map told=some (Q0,[]):=by kernel_rfl
theorem aqs:tree (ae E6)=Q0:=ba Yn
def xC:Option PC:=cF [4,5] [] Tryz.f188 188 []
def Kq:Nat→PC:=br xC
def alw (b:Nat→PC):PC:=.block 0 [4,8,9] [] (.loop [4,8] [] (b 0))
def Dv (b:Nat→PC):PT:=
 (.ite (ah r8 r7)
 (.blockS ⟨[],[]⟩ 1 [4,5,10,11,12,13,14,15,16] []
 (.chk (ao r0 r8)
 (.callc ⟨[(5,r8)],[]⟩ [] 16 r1 [(pn r0 r8)]
 (.ite bx
 (.ret r5)
 (.next ⟨[],[]⟩))))
 (.next ⟨[(8,og)],[]⟩))
 (.exit 0 ⟨[(9,(ah r8 r7))],[]⟩))
def RN (b:Nat→PC):PT:=
 (.brk ⟨[(8,(pi 0)),(7,(.llen r0)),(4,(pi 0))],[]⟩
(alw b)
 (.ret (pi (-1))))
def agf (b:Nat→PC):PT×List (Shp×PT):=(RN b,[(.lp 0 [4,8,9] [] [4,8] [],Dv b)])
theorem N5:xC.map told=some (agf (bj xC)):=by kernel_rfl
theorem ari:tree (ae xC)=RN Kq:=bO N5
theorem PN:round 0 [4,8,9] [] [4,8] [] (Kq 0)=Dv Kq:=bn N5 0 fun _=>rfl
def Fz:Option PC:=cF [2,3] [] Tryz.f190 190 [1]
def RY:PT:=
 (.call ⟨[],[(1,(.mk [r0]))]⟩ [] 5 224 [(.mk [kX,ru,vO]),(pi 1)]
 (.ite (bh r5 (pi 60))
 (.ret (.tup [(pi 0),(pi 6)]))
 (.call ⟨[],[]⟩ [] 8 225 [(.mk [(pc o1 0),(pc o1 1),(pc o1 2)])]
 (.ret (.tup [(.tget r8 0),(.tget r8 1)])))))
theorem YS:Fz.map told=some (RY,[]):=by kernel_rfl
theorem arv:tree (ae Fz)=RY:=ba YS
def ur:Option PC:=cF [4,5] [] Tryz.f224 224 [2,7,12295]
def Ky:Nat→PC:=br ur
def alG (b:Nat→PC):PC:=.block 0 [5,13,14] [] (.loop [5,13] [] (b 0))
def DB (b:Nat→PC):PT:=
 (.ite (ah cK bU)
 (.blockS ⟨[(14,(ah cK bU))],[]⟩ 1 [5,7,15,16,17,18,19,20,21,22,23,24] [7,12295]
 (.chk (ao bz cK)
 (.call ⟨[(17,r5)],[]⟩ [] 21 224 [(.mk [(pc (.setc kV 0 (pn bz cK)) 0),(pc (.setc kV 0 (pn bz cK)) 1),(pc (.setc kV 0 (pn bz cK)) 2)]),(aG r1 (pi 1))]
 (.ite (bh (aG dt fu) (pi 60))
 (.exit 0 ⟨[(5,(aG dt fu))],[]⟩)
 (.next ⟨[(5,(aG dt fu))],[]⟩))))
 (.next ⟨[(13,(aG cK (pi 1)))],[]⟩))
 (.exit 0 ⟨[(14,(ah cK bU))],[]⟩))
def Jq (b:Nat→PC):PT:=
 (.ite (bh r1 (pi 8))
 (.ret (pi 61))
 (.brk ⟨[(13,(pi 0)),(12,pR),(11,vO),(5,(pi 1))],[]⟩
(alG b)
 (.ret r5)))
def agp (b:Nat→PC):PT×List (Shp×PT):=(Jq b,[(.lp 0 [5,13,14] [] [5,13] [],DB b)])
theorem Od:ur.map told=some (agp (bj ur)):=by kernel_rfl
theorem abd:tree (ae ur)=Jq Ky:=bO Od
theorem PW:round 0 [5,13,14] [] [5,13] [] (Ky 0)=DB Ky:=bn Od 0 fun _=>rfl
def xJ:Option PC:=cF [2,3,5,7,8,38,47,10,11,12] [] Tryz.f225 225 [1,4,6,12294,9]
def Ay:Nat→PC:=br xJ
def alD (b:Nat→PC):PC:=.block 0 [2,3,20,21] [4] (.loop [2,3,20] [4] (b 0))
def alE (b:Nat→PC):PC:=.block 3 [2,3,10,82,83] [] (.loop [2,3,10,82] [] (b 1))
def Dz (b:Nat→PC):PT:=
 (.ite (ah bR dR)
 (.blockS ⟨[],[]⟩ 1 [2,3,5,6,7,8,22,23,24,25,26,27,28,29,30,31,33,34,35,36] [6,12294,4]
 (.chk (ao dI bR)
 (.call ⟨[(5,bR)],[]⟩ [] 27 225 [(.mk [(pc (.setc kV 0 (pn dI bR)) 0),(pc (.setc kV 0 (pn dI bR)) 1),(pc (.setc kV 0 (pn dI bR)) 2)])]
 (.ite (aP (.tget de 1) (pi 0))
 (.ret (.tup [(pi 0),(.tget de 1)]))
 (.chk (ao o4 r5)
 (.next ⟨[],[(4,(.setn o4 r5 0 (.tget de 0)))]⟩)))))
 (.next ⟨[(20,(aG bR (pi 1)))],[]⟩))
 (.exit 0 ⟨[(21,(ah bR dR))],[]⟩))
def tq (b:Nat→PC):PT:=
 (.ite (ah ju vZ)
 (.chk (ao rE ju)
 (.ite (.pick (peq (pn rE ju) (pi (-1))) (peq bC (pi (-1))) pF)
 (.chk (ao o4 ju)
 (.ite (aP (pn o4 ju) (.pick (peq (pn rE ju) (pi (-1))) (pn o4 ju) (pn rE ju)))
 (.ret (.tup [(pi 0),(pi 11)]))
 (.next ⟨[(10,(pn o4 ju)),(82,(aG ju (pi 1)))],[]⟩)))
 (.chk (ao o4 ju)
 (.ite (aP (pn o4 ju) (.pick (peq (pn rE ju) (pi (-1))) bC (pn rE ju)))
 (.ret (.tup [(pi 0),(pi 11)]))
 (.next ⟨[(82,(aG ju (pi 1)))],[]⟩)))))
 (.exit 3 ⟨[(83,(ah ju vZ))],[]⟩))
def R2 (b:Nat→PC):PT:=
 (.chk (.an (cg pR (pi 0)) (bB pR cn))
 (.chk (peq pR pR)
 (.brk ⟨[(20,(pi 0)),(19,pR),(18,vO),(4,pN),(3,(pi 0)),(2,(pi 0))],[(4,(.rep pR (pi 0))),(1,(.mk [r0]))]⟩
(alD b)
 (.blockS ⟨[],[]⟩ 2 [2,3,38,39,40,41,42,46,47,48,49,50,51,55,56,60] []
 (.iteS ⟨[],[]⟩ (.pick (ah (pc o1 0) (pi 0)) pT (bh (pc o1 0) (pi 13))) [2,3,47,48,49,50,51,55,56,60] []
 (.ret (.tup [(pi 0),(pi 1)]))
 (.iteS ⟨[],[]⟩ (.pick (.pick (peq (pc o1 0) (pi 0)) pT (peq (pc o1 0) (pi 1))) pT (peq (pc o1 0) (pi 2))) [2,3] []
 (.call ⟨[],[]⟩ [] 62 248 [(.mk [(pc o1 0),(pc o1 1),(pc o1 2)])]
 (.ret (.tup [(.tget mW 0),(.tget mW 1)])))
 (.next ⟨[],[]⟩)
 (.next ⟨[],[]⟩))
 (.next ⟨[],[]⟩))
 (.call ⟨[],[]⟩ [] 67 249 [(pc o1 0)]
 (.ite (.pick (aP (.llen o4) (.llen (pc (.setc ku 0 vY) 0))) pT (aP (pc o1 1) (pi 0)))
 (.ret (.tup [(pi 0),(pi 2)]))
 (.brk ⟨[(82,(pi 0)),(81,(.llen (pc (.setc ku 0 vY) 0))),(80,(pc (.setc ku 0 vY) 0)),(10,(pi (-1)))],[(9,(.setc ku 0 vY))]⟩
(alE b)
 (.ite (peq (pc o9 1) (pi (-1)))
 (.ret (.tup [bC,(pi 0)]))
 (.ret (.tup [(pc o9 1),(pi 0)]))))))))))
def agn (b:Nat→PC):PT×List (Shp×PT):=(R2 b,[(.lp 0 [2,3,20,21] [4] [2,3,20] [4],Dz b),(.lp 3 [2,3,10,82,83] [] [2,3,10,82] [],tq b)])
theorem HN:xJ.map told=some (agn (bj xJ)):=by kernel_rfl
theorem arz:tree (ae xJ)=R2 Ay:=bO HN
theorem PU:round 0 [2,3,20,21] [4] [2,3,20] [4] (Ay 0)=Dz Ay:=bn HN 0 fun _=>rfl
theorem zw:round 3 [2,3,10,82,83] [] [2,3,10,82] [] (Ay 1)=tq Ay:=bn HN 1 fun _=>rfl
def FF:Option PC:=cF [2,3,12,20,4,5] [] Tryz.f248 248 [1]
def R5:PT:=
 (.ite (bh pR (pi 0))
 (.ret (.tup [(pi 0),(pi 2)]))
 (.blockS ⟨[(11,kX)],[(1,(.mk [r0]))]⟩ 0 [2,3,12,13,20,21] []
 (.iteS ⟨[],[]⟩ (peq bz (pi 0)) [2,3,20,21] []
 (.call ⟨[],[]⟩ [] 16 252 [(pc o1 1)]
 (.ite (aP bx (pc o1 1))
 (.ret (.tup [(pi 0),(pi 3)]))
 (.ret (.tup [(pi 0),(pi 0)]))))
 (.ite (peq bz (pi 1))
 (.ite (.pick (ah (pc o1 1) (pi 0)) pT (bh (pc o1 1) (pi 1)))
 (.ret (.tup [(pi 0),(pi 3)]))
 (.ret (.tup [(pi 1),(pi 0)])))
 (.next ⟨[],[]⟩))
 (.next ⟨[],[]⟩))
 (.call ⟨[],[]⟩ [] 33 250 [(pc o1 1)]
 (.ite (.nt (.tget pU 1))
 (.ret (.tup [(pi 0),(pi 10)]))
 (.ret (.tup [(.tget pU 0),(pi 0)]))))))
theorem YY:FF.map told=some (R5,[]):=by kernel_rfl
theorem arC:tree (ae FF)=R5:=ba YY
def FE:Option PC:=cF [2] [] Tryz.f252 252 []
def R4:PT:=
 (.ret (.mn (.mx r0 (pi (-1099511627776))) vR))
theorem YX:FE.map told=some (R4,[]):=by kernel_rfl
theorem arB:tree (ae FE)=R4:=ba YX
def FB:Option PC:=cF [2,3,4,11] [] Tryz.f250 250 []
def R0:PT:=
 (.ite (.pick (ah r0 (pi 0)) pT (bh r0 (pi 19)))
 (.ret (.tup [(pi 0),pF]))
 (.ite (ah r0 (pi 7))
 (.ret (.tup [(pi 0),pT]))
 (.ret (.tup [(pi 1),pT]))))
theorem YU:FB.map told=some (R0,[]):=by kernel_rfl
theorem arx:tree (ae FB)=R0:=ba YU
def FI:Option PC:=cF [4,8,13,17,21] [] Tryz.f249 249 [2]
def R8:PT:=
 (.ite (peq r0 (pi 3))
 (.ret (.mk [(pc (.setc ku 0 (.mk [(.lst [(pi 1)]),(pi 1)])) 0),(pc (.setc ku 0 (.mk [(.lst [(pi 1)]),(pi 1)])) 1)]))
 (.ite (.pick (peq r0 (pi 4)) (peq r0 (pi 4)) (peq r0 (pi 5)))
 (.ret (.mk [(pc (.setc ku 0 (.mk [(.lst [(pi 1),(pi 1)]),(pi 1)])) 0),(pc (.setc ku 0 (.mk [(.lst [(pi 1),(pi 1)]),(pi 1)])) 1)]))
 (.ite (peq r0 (pi 6))
 (.ret (.mk [(pc ZU 0),(pc ZU 1)]))
 (.ite (peq r0 (pi 7))
 (.ret (.mk [(pc (.setc ku 0 (.mk [(.lst [(pi 0),(pi 0)]),(pi 1)])) 0),(pc (.setc ku 0 (.mk [(.lst [(pi 0),(pi 0)]),(pi 1)])) 1)]))
 (.ite (peq r0 (pi 8))
 (.ret (.mk [(pc (.setc ku 0 (.mk [(.lst [(pi (-1)),(pi (-1))]),(pi 1)])) 0),(pc (.setc ku 0 (.mk [(.lst [(pi (-1)),(pi (-1))]),(pi 1)])) 1)]))
 (.ret (.mk [(pc (.setc ku 0 (.mk [(.lst [(pi 0),(pi 0)]),(pi 0)])) 0),(pc (.setc ku 0 (.mk [(.lst [(pi 0),(pi 0)]),(pi 0)])) 1)])))))))
theorem Zb:FI.map told=some (R8,[]):=by kernel_rfl
theorem arG:tree (ae FI)=R8:=ba Zb
def FA:Option PC:=cF [5,6,8] [] Tryz.f131 131 [2,4,7]
def RZ:PT:=
 (.call ⟨[],[(4,fq),(2,(.mk [r0]))]⟩ [] 11 190 [(.mk [kX,ru,vO])]
 (.ite (aP (.tget bz 1) (pi 0))
 (.ret CQ)
 (.call ⟨[],[]⟩ [] 21 191 [(.mk [r1]),(.mk [(pc o2 0),(pc o2 1),(pc o2 2)])]
 (.ret (.mk [(pc ZN 0),(pc ZN 1)])))))
theorem YT:FA.map told=some (RZ,[]):=by kernel_rfl
theorem arw:tree (ae FA)=RZ:=ba YT
def xK:Option PC:=cF [5,15,21,9,11] [] Tryz.f191 191 [2,3,4,6,33,7,8,10,12298,12]
def Kw:Nat→PC:=br xK
def alF (b:Nat→PC):PC:=.block 1 [45,46] [7,8] (.loop [45] [7,8] (b 0))
def DA (b:Nat→PC):PT:=
 (.ite (ah pW vV)
 (.blockS ⟨[],[]⟩ 2 [9,10,47,48,49,50,51,52,53,54,55,56,57,58,59,60,61] [10,12298,8,7]
 (.chk (ao tn pW)
 (.call ⟨[(54,pW),(52,pW)],[]⟩ [] 57 191 [(.mk [(pc o2 0)]),(.mk [(pc (.setc kV 0 (pn tn pW)) 0),(pc (.setc kV 0 (pn tn pW)) 1),(pc (.setc kV 0 (pn tn pW)) 2)])]
 (.chk (ao o7 ot)
 (.chk (ao o8 pY)
 (.next ⟨[],[(8,(.setn o8 pY 0 (.tget zl 1))),(7,(.setn o7 ot 0 (.tget zl 0)))]⟩)))))
 (.next ⟨[(45,(aG pW (pi 1)))],[]⟩))
 (.exit 1 ⟨[(46,(ah pW vV))],[]⟩))
def DZ (b:Nat→PC):PT:=
 (.blockS ⟨[(14,(pc (.mk [r1]) 0))],[(4,fq),(3,(.mk [r1])),(2,(.mk [r0]))]⟩ 0 [5,15,16,21,22] [4]
 (.iteS ⟨[],[]⟩ (.pick (peq bD (pi 0)) (peq bD (pi 0)) (peq bD (pi 1))) [5,21,22] [4]
 (.ret (.tup [(.mk [(pc (.setc o4 0 (.mk [pT,(pc o3 1)])) 0),(pc (.setc o4 0 (.mk [pT,(pc o3 1)])) 1)]),pL]))
 (.iteS ⟨[],[]⟩ (peq bD (pi 2)) [5] [4]
 (.call ⟨[],[]⟩ [] 26 226 [(.mk [(pc o2 0)]),(pc o3 1)]
 (.ite (pc (.setc fq 0 ib) 0)
 (.ret (.tup [(.mk [(pc ZS 0),(pc ZS 1)]),pL]))
 (.ret (.tup [CQ,(.lst [(pc o3 1)])]))))
 (.next ⟨[],[]⟩)
 (.next ⟨[],[]⟩))
 (.next ⟨[],[]⟩))
 (.chk (.an (cg mT (pi 0)) (bB mT cn))
 (.chk (peq mT mT)
 (.brk ⟨[(45,(pi 0)),(44,mT),(43,(pc o3 2)),(8,pN),(7,pN)],[(8,(.rep mT pL)),(7,(.rep mT fq))]⟩
(alF b)
 (.chk (.nt (.an (.an (peq (pc o3 0) (pi 6)) pT) (.nt (ao o7 (pi 0)))))
 (.ite (.pick (peq (pc o3 0) (pi 6)) (pc (pn o7 (pi 0)) 0) pF)
 (.chk (ao o7 (pi 0))
 (.chk (ao o7 CS)
 (.chk (ao o8 CS)
 (.ret (.tup [(.mk [(pc (.setc o4 0 (.sub (pn o7 CS) 0 2)) 0),(pc (.setc o4 0 (.sub (pn o7 CS) 0 2)) 1)]),(pn o8 CS)])))))
 (.call ⟨[],[]⟩ [] 88 227 [(pc o3 0),o7]
 (.ite (pc (.setc fq 0 Il) 0)
 (.ret (.tup [(.mk [(pc ZR 0),(pc ZR 1)]),pL]))
 (.call ⟨[(92,vT)],[]⟩ [] 94 228 [o8]
 (.ret (.tup [(.mk [(pc (.setc o4 0 Io) 0),(pc (.setc o4 0 Io) 1)]),Z8])))))))))))
def ago (b:Nat→PC):PT×List (Shp×PT):=(DZ b,[(.lp 1 [45,46] [7,8] [45] [7,8],DA b)])
theorem Oc:xK.map told=some (ago (bj xK)):=by kernel_rfl
theorem arD:tree (ae xK)=DZ Kw:=bO Oc
theorem PV:round 1 [45,46] [7,8] [45] [7,8] (Kw 0)=DA Kw:=bn Oc 0 fun _=>rfl
def FG:Option PC:=cF [5,6] [] Tryz.f226 226 [2,4]
def R6:PT:=
 (.chk (.nt (.an (.an (.nt (cg r1 (.llen kX))) pT) (.nt (ao kX r1))))
 (.ite (.pick (cg r1 (.llen kX)) pT (.nt (pc (pn kX r1) 0)))
 (.ret (.mk [(pc (.setc fq 0 vT) 0),(pc (.setc fq 0 vT) 1)]))
 (.call ⟨[],[(4,fq),(2,(.mk [r0]))]⟩ [] 24 250 [r1]
 (.iteS ⟨[],[]⟩ (peq (.tget jt 0) (pi 1)) [] [4]
 (.chk (ao (pc o2 0) r1)
 (.call ⟨[],[]⟩ [] 36 251 [(aP (pc (pn (pc o2 0) r1) 1) (pi 0))]
 (.ret (.mk [(pc (.setc o4 0 iV) 0),(pc (.setc o4 0 iV) 1)]))))
 (.next ⟨[],[]⟩)
 (.chk (ao (pc o2 0) r1)
 (.call ⟨[],[]⟩ [] 43 252 [(pc (pn (pc o2 0) r1) 1)]
 (.ret (.mk [(pc (.setc o4 0 (.mk [pT,tn])) 0),(pc (.setc o4 0 (.mk [pT,tn])) 1)]))))))))
theorem YZ:FG.map told=some (R6,[]):=by kernel_rfl
theorem arE:tree (ae FG)=R6:=ba YZ
def FJ:Option PC:=cF [] [] Tryz.f251 251 [2]
def R9:PT:=
 (.ite r0
 (.ret (.mk [(pc Ib 0),(pc Ib 1)]))
 (.ret (.mk [(pc Ic 0),(pc Ic 1)])))
theorem Zc:FJ.map told=some (R9,[]):=by kernel_rfl
theorem arH:tree (ae FJ)=R9:=ba Zc
def FD:Option PC:=cF [9,22,41,6,7,82,88,94] [] Tryz.f227 227 [4,5]
def R3:PT:=
 (.blockS ⟨[(8,r0)],[(4,fq)]⟩ 0 [9,10,22,23] [4]
 (.iteS ⟨[],[]⟩ (peq r8 (pi 3)) [22,23] [4]
 (.chk (ao r1 (pi 0))
 (.iteS ⟨[],[]⟩ (pc (pn r1 (pi 0)) 0) [] [4]
 (.chk (ao r1 (pi 0))
 (.call ⟨[],[]⟩ [] 20 251 [(peq (pc (pn r1 (pi 0)) 1) (pi 0))]
 (.ret (.mk [(pc (.setc o4 0 bR) 0),(pc (.setc o4 0 bR) 1)]))))
 (.next ⟨[],[]⟩)
 (.ret CQ)))
 (.iteS ⟨[],[]⟩ (.pick (peq r8 (pi 4)) (peq r8 (pi 4)) (peq r8 (pi 5))) [] [4]
 (.call ⟨[],[]⟩ [] 27 251 [(peq r0 (pi 5))]
 (.chk (ao r1 (pi 0))
 (.chk (.nt (.an (.an (.nt ZJ) pT) (.nt (ao r1 (pi 1)))))
 (.ite (.pick ZJ pT (.an (.cb .eql (pc oh 0) (pc za 0)) (.an (peq (pc oh 1) (pc za 1)) pT)))
 (.ret (.mk [(pc (.setc o4 0 za) 0),(pc (.setc o4 0 za) 1)]))
 (.next ⟨[],[]⟩)))))
 (.ite (peq r8 (pi 6))
 (.chk (ao r1 (pi 1))
 (.chk (.nt (.an (.an (pc oh 0) pT) (.nt (ao r1 (pi 1)))))
 (.chk (.nt (.an (.an (pc oh 0) pT) (.nt (ao r1 (pi 2)))))
 (.ite (.pick (pc oh 0) (.an (.cb .eql (pc oh 0) (pc (pn r1 (pi 2)) 0)) (.an (peq (pc oh 1) (pc (pn r1 (pi 2)) 1)) pT)) pF)
 (.ret (.mk [(pc (.setc o4 0 oh) 0),(pc (.setc o4 0 oh) 1)]))
 (.ret CQ)))))
 (.next ⟨[],[]⟩))
 (.next ⟨[],[]⟩))
 (.next ⟨[],[]⟩))
 (.chk (ao r1 (pi 0))
 (.chk (.nt (.an (.an (.nt (.nt (pc (pn r1 (pi 0)) 0))) pT) (.nt (ao r1 (pi 1)))))
 (.ite (.pick (.nt (pc (pn r1 (pi 0)) 0)) pT (.nt (pc oh 0)))
 (.ret CQ)
 (.chk (ao r1 (pi 1))
 (.blockS ⟨[(81,r0),(7,(pc oh 1)),(6,(pc (pn r1 (pi 0)) 1))],[]⟩ 1 [82,83,88,89,94,95] [4]
 (.iteS ⟨[],[]⟩ (.pick (peq vZ (pi 4)) (peq vZ (pi 4)) (peq vZ (pi 5))) [88,89,94,95] [4]
 (.call ⟨[],[]⟩ [] 87 251 [(peq r0 (pi 4))]
 (.ret (.mk [(pc (.setc o4 0 Z6) 0),(pc (.setc o4 0 Z6) 1)])))
 (.iteS ⟨[],[]⟩ (peq vZ (pi 7)) [94,95] [4]
 (.call ⟨[],[]⟩ [] 93 251 [(ah r6 r7)]
 (.ret (.mk [(pc (.setc o4 0 Pd) 0),(pc (.setc o4 0 Pd) 1)])))
 (.iteS ⟨[],[]⟩ (peq vZ (pi 8)) [] [4]
 (.call ⟨[],[]⟩ [] 99 251 [(peq r6 r7)]
 (.ret (.mk [(pc (.setc o4 0 Pe) 0),(pc (.setc o4 0 Pe) 1)])))
 (.next ⟨[],[]⟩)
 (.next ⟨[],[]⟩))
 (.next ⟨[],[]⟩))
 (.next ⟨[],[]⟩))
 (.call ⟨[],[]⟩ [] 103 253 [r0,r6,r7]
 (.ret (.mk [(pc (.setc o4 0 (.mk [pT,ZX])) 0),(pc (.setc o4 0 (.mk [pT,ZX])) 1)])))))))))
theorem YW:FD.map told=some (R3,[]):=by kernel_rfl
theorem arA:tree (ae FD)=R3:=ba YW
def FC:Option PC:=cF [6,8,14,20,25] [] Tryz.f253 253 []
def R1:PT:=
 (.blockS ⟨[(7,r0)],[]⟩ 0 [6,8,9,14,15,20,21,25,26] []
 (.iteS ⟨[],[]⟩ (peq r7 (pi 9)) [6,14,15,20,21,25,26] []
 (.call ⟨[],[]⟩ [] 13 252 [(aG r1 r2)]
 (.ret cK))
 (.iteS ⟨[],[]⟩ (peq r7 (pi 10)) [6,20,21,25,26] []
 (.call ⟨[],[]⟩ [] 19 252 [(bH r1 r2)]
 (.ret dR))
 (.iteS ⟨[],[]⟩ (peq r7 (pi 11)) [6,25,26] []
 (.call ⟨[],[]⟩ [] 24 269 [r1,r2]
 (.ret jt))
 (.ite (peq r7 (pi 12))
 (.ret (.mn r1 r2))
 (.next ⟨[],[]⟩))
 (.next ⟨[],[]⟩))
 (.next ⟨[],[]⟩))
 (.next ⟨[],[]⟩))
 (.ret (.mx r1 r2)))
theorem YV:FC.map told=some (R1,[]):=by kernel_rfl
theorem ary:tree (ae FC)=R1:=ba YV
def FH:Option PC:=cF [4,5,6,7] [] Tryz.f269 269 []
def R7:PT:=
 (.call ⟨[],[]⟩ [] 19 134 [(.conv .u64 (.mx r0 (bH (pi 0) r0))),(.conv .u64 (.mx r1 (bH (pi 0) r1)))]
 (.ite (.cb .neq (ah r0 (pi 0)) (ah r1 (pi 0)))
 (.ret (bH (pi 0) ZC))
 (.ret ZC)))
theorem Za:FH.map told=some (R7,[]):=by kernel_rfl
theorem arF:tree (ae FH)=R7:=ba Za
def ES:Option PC:=cF [4,5,6,7,8,9,10,11,12,13] [] Tryz.f134 134 []
def QD:PT:=
 (.chk (cg zf (pi 0))
 (.ret (.tup [(.ai .add .u64 (.ai .add .u64 (.ai .mul .u64 (.ai .shr .u64 r0 zf) (.ai .shr .u64 r1 zf)) (.ai .shr .u64 ZA zf)) (.ai .shr .u64 (.ai .add .u64 (.ai .and .u64 ZA (.con (.v (.int .u64 4294967295)))) (.ai .mul .u64 (.ai .and .u64 r0 (.con (.v (.int .u64 4294967295)))) (.ai .shr .u64 r1 zf))) zf)),(.ai .mul .u64 r0 r1)])))
theorem X2:ES.map told=some (QD,[]):=by kernel_rfl
theorem apY:tree (ae ES)=QD:=ba X2
def xA:Option PC:=cF [2,3,5,8] [] Tryz.f228 228 [6]
def Aw:Nat→PC:=br xA
def als (b:Nat→PC):PC:=.block 0 [3,11,12] [] (.loop [3,11] [] (b 0))
def alu (b:Nat→PC):PC:=.block 2 [6,27,28] [6] (.loop [6,27] [6] (b 1))
def IK (b:Nat→PC):PT:=
 (.ite tj
 (.chk (ao r9 bz)
 (.ite (ah (aG r3 (.llen (pn r9 bz))) (pi 0))
 (.chk (.nt pT)
 (.chk (.nt pT)
 (.next ⟨[(3,(aG r3 (.llen (pn r9 bz)))),(11,zj)],[]⟩)))
 (.next ⟨[(3,(aG r3 (.llen (pn r9 bz)))),(11,zj)],[]⟩)))
 (.exit 0 ⟨[(12,tj)],[]⟩))
def IL (b:Nat→PC):PT:=
 (.ite (ah de ib)
 (.chk (ao jV de)
 (.chk (bB (.llen (.app o6 rv)) cn)
 (.next ⟨[(6,pN),(27,(aG de (pi 1)))],[(6,(.app o6 rv))]⟩)))
 (.exit 2 ⟨[(28,(ah de ib))],[]⟩))
def RH (b:Nat→PC):PT:=
 (.brk ⟨[(11,(pi 0)),(10,(.llen r0)),(9,r0),(3,(pi 0))],[]⟩
(als b)
 (.call ⟨[],[]⟩ [] 24 254 [pL,r3]
 (.brk ⟨[(27,(pi 0)),(26,(.llen r0)),(25,r0),(6,pN)],[(6,jt)]⟩
(alu b)
 (.ret o6))))
def agd (b:Nat→PC):PT×List (Shp×PT):=(RH b,[(.lp 0 [3,11,12] [] [3,11] [],IK b),(.lp 2 [6,27,28] [6] [6,27] [6],IL b)])
theorem HL:xA.map told=some (agd (bj xA)):=by kernel_rfl
theorem ara:tree (ae xA)=RH Aw:=bO HL
theorem aar:round 0 [3,11,12] [] [3,11] [] (Aw 0)=IK Aw:=bn HL 0 fun _=>rfl
theorem aas:round 2 [6,27,28] [6] [6,27] [6] (Aw 1)=IL Aw:=bn HL 1 fun _=>rfl
def EJ:Option PC:=cF [2,3,7,12] [] Tryz.f35 35 [1]
def Qt:PT:=
 (.ite (aP (pc (.mk [r0]) 4) (pi 0))
 (.ret (pi 0))
 (.ite (.nt kX)
 (.ret (pi 2))
 (.ite (aP ru (pi 0))
 (.ret (pi 1))
 (.ret (pi 0)))))
theorem XU:EJ.map told=some (Qt,[]):=by kernel_rfl
theorem apN:tree (ae EJ)=Qt:=ba XU
def EH:Option PC:=cF [8,9,10,11] [] Tryz.f31 31 [4,6]
def Qr:PT:=
 (.call ⟨[],[(6,(.mk [r2])),(4,(.mk [r0]))]⟩ [] 14 29 [(aD 19 (.mk [r2])),r3]
 (.ite (peq (.llen (pc (.setc o6 0 bD) 15)) (pi 0))
 (.ret (pi (-1)))
 (.call ⟨[],[(6,(.setc o6 0 bD))]⟩ [] 23 81 [(aD 8 o4),r1,(pi 6),(aD 19 (.setc o6 0 bD)),r3]
 (.call ⟨[],[]⟩ [] 24 32 [dJ]
 (.call ⟨[(29,(aD 15 o6)),(27,(aD 8 o4)),(9,(.mx jt (pi 0)))],[]⟩ [] 31 83 [(aD 19 o6)]
 (.call ⟨[],[]⟩ [] 33 82 [de,mU,jW,r9]
 (.ite (aP (.tget pU 1) (pi 0))
 (.ret (pi (-1)))
 (.ret (.tget pU 0)))))))))
theorem XS:EH.map told=some (Qr,[]):=by kernel_rfl
theorem apL:tree (ae EH)=Qr:=ba XS
def EI:Option PC:=cF [2] [] Tryz.f32 32 [1]
def Qs:PT:=
 (.ite (.pick (aP (pc (.mk [r0]) 4) (pi 0)) pT (.nt kX))
 (.ret (pi (-1)))
 (.ret ru))
theorem XT:EI.map told=some (Qs,[]):=by kernel_rfl
theorem apM:tree (ae EI)=Qs:=ba XT
def xy:Option PC:=cF [2,4] [] Tryz.f83 83 [1,3,6,8]
def Au:Nat→PC:=br xy
def alq (b:Nat→PC):PC:=.block 0 [3,16,17] [3] (.loop [3,16] [3] (b 0))
def alr (b:Nat→PC):PC:=.block 2 [2,3,36,37] [3] (.loop [2,3,36] [3] (b 1))
def Ds (b:Nat→PC):PT:=
 (.ite (ah bx bF)
 (.chk (ao bD bx)
 (.ite (.pick (peq r4 (pi 1)) (peq (pc (.setc z9 0 pS) 0) (pi 1)) pF)
 (.chk (bB (.llen (.app o3 (.lst [(pc (.setc z9 0 pS) 6)]))) cn)
 (.next ⟨[(3,pN),(16,(aG bx (pi 1)))],[(3,(.app o3 (.lst [(pc (.setc z9 0 pS) 6)])))]⟩))
 (.next ⟨[(16,(aG bx (pi 1)))],[]⟩)))
 (.exit 0 ⟨[(17,(ah bx bF))],[]⟩))
def wc (b:Nat→PC):PT:=
 (.ite (ah iV vU)
 (.chk (ao Z2 iV)
 (.ite (.pick (peq r4 (pi 0)) (peq (pc CU 0) (pi 2)) pF)
 (.ret (pc CU 6))
 (.ite (.pick (peq r4 (pi 1)) (peq (pc CU 0) (pi 1)) pF)
 (.chk (bB (.llen (.app o3 (.lst [(pc CU 6)]))) cn)
 (.next ⟨[(3,pN),(36,(aG iV (pi 1)))],[(3,(.app o3 (.lst [(pc CU 6)])))]⟩))
 (.next ⟨[(36,(aG iV (pi 1)))],[]⟩))))
 (.exit 2 ⟨[(37,(ah iV vU))],[]⟩))
def RD (b:Nat→PC):PT:=
 (.brk ⟨[(16,(pi 0)),(15,(.llen mS)),(14,mS),(4,zh),(3,pN),(2,(pi 0))],[(3,pL),(1,(.mk [r0]))]⟩
(alq b)
 (.brk ⟨[(36,(pi 0)),(35,(.llen (pc o1 17))),(34,(pc o1 17))],[]⟩
(alr b)
 (.ite (peq (.llen o3) (pi 0))
 (.ret (pi (-1)))
 (.call ⟨[],[]⟩ [] 66 125 [o3]
 (.ret O9)))))
def agb (b:Nat→PC):PT×List (Shp×PT):=(RD b,[(.lp 0 [3,16,17] [3] [3,16] [3],Ds b),(.lp 2 [2,3,36,37] [3] [2,3,36] [3],wc b)])
theorem HJ:xy.map told=some (agb (bj xy)):=by kernel_rfl
theorem aq5:tree (ae xy)=RD Au:=bO HJ
theorem PJ:round 0 [3,16,17] [3] [3,16] [3] (Au 0)=Ds Au:=bn HJ 0 fun _=>rfl
theorem Dt:round 2 [2,3,36,37] [3] [2,3,36] [3] (Au 1)=wc Au:=bn HJ 1 fun _=>rfl
def xG:Option PC:=cF [2,3,4] [] Tryz.f125 125 []
def Ku:Nat→PC:=br xG
def Xg (b:Nat→PC):PC:=.block 0 [3,4,12,13,14,15] [] (.loop [3,4] [] (b 0))
def IM (b:Nat→PC):PT:=
 (.ite (ah r4 (.llen r0))
 (.chk (ao r0 r4)
 (.next ⟨[(3,(.mn r3 (pn r0 r4))),(4,(aG r4 (pi 1)))],[]⟩))
 (.exit 0 ⟨[(12,r4),(13,r0),(14,(.llen r0)),(15,(ah r4 (.llen r0)))],[]⟩))
def RR (b:Nat→PC):PT:=
 (.ite (ah (.llen r0) (pi 1))
 (.chk (.nt pT)
 (.chk (.nt pT)
 (.chk (ao r0 (pi 0))
 (.brk ⟨[(4,(pi 1)),(3,(pn r0 (pi 0)))],[]⟩
(Xg b)
 (.ret r3)))))
 (.chk (ao r0 (pi 0))
 (.brk ⟨[(4,(pi 1)),(3,(pn r0 (pi 0)))],[]⟩
(Xg b)
 (.ret r3))))
def agk (b:Nat→PC):PT×List (Shp×PT):=(RR b,[(.lp 0 [3,4,12,13,14,15] [] [3,4] [],IM b)])
theorem N9:xG.map told=some (agk (bj xG)):=by kernel_rfl
theorem arn:tree (ae xG)=RR Ku:=bO N9
theorem aat:round 0 [3,4,12,13,14,15] [] [3,4] [] (Ku 0)=IM Ku:=bn N9 0 fun _=>rfl
def AI:Option PC:=cF [8,9,15,39,58,74,11,12] [] Tryz.f82 82 [4,5,10]
def RS:PT:=
 (.blockS ⟨[],[(10,(.setc z3 0 (.mk [(pc (.mk [r1]) 5),(pc (.mk [r1]) 6),(pc (.mk [r1]) 7)]))),(5,(.mk [r1])),(4,(.mk [r0]))]⟩ 0 [8,9,15,16,17,18,19,25,26,32,33,38,39,40,41,42,43,47,48,52,53,57,58,59,60,61,65,66,69,70,73,74,75,76,77,80] []
 (.call ⟨[],[]⟩ [] 17 14 [(aD 8 o4)]
 (.call ⟨[(19,(aP dt (pi 0)))],[]⟩ [(19,false)] 23 120 [(aD 8 o4),(pc o5 9)]
 (.call ⟨[(26,(.pick dR pT (.nt dJ)))],[]⟩ [(26,false)] 30 120 [(aD 8 o4),(pc o5 10)]
 (.call ⟨[(33,(.pick ib pT (.nt rA)))],[]⟩ [(33,false)] 36 121 [(pc o5 8)]
 (.iteS ⟨[],[]⟩ (.pick pU pT (.nt iV)) [8,9,39,40,41,42,43,47,48,52,53,57,58,59,60,61,65,66,69,70,73,74,75,76,77,80] []
 (.ret (.tup [(pi 0),(pi 1)]))
 (.iteS ⟨[],[]⟩ (.pick (.pick (.pick (ah (pc bX 0) (pi 0)) pT (cg (pc bX 0) (pi 5))) pT (ah (pc bX 2) (pi 0))) pT (cg (pc bX 2) (pi 2))) [8,9,58,59,60,61,65,66,69,70,73,74,75,76,77,80] []
 (.ret (.tup [(pi 0),(pi 1)]))
 (.call ⟨[(61,(aP r2 (pi (-1))))],[]⟩ [(61,true)] 63 121 [r2]
 (.iteS ⟨[],[]⟩ (.pick (.pick (.pick If (.nt Ig) pF) pT (ah r3 (pi 0))) pT (bh r3 (pi 20000))) [8,9,74,75,76,77,80] []
 (.ret (.tup [(pi 0),(pi 1)]))
 (.call ⟨[],[]⟩ [] 76 122 [(.mk [(pc bX 0),(pc bX 1),(pc bX 2)])]
 (.ite (.pick rD (peq r2 (pi (-1))) pF)
 (.ret (.tup [(pi 0),(pi 4)]))
 (.next ⟨[],[]⟩)))
 (.next ⟨[],[]⟩)))
 (.next ⟨[],[]⟩))
 (.next ⟨[],[]⟩))))))
 (.call ⟨[],[]⟩ [] 85 123 [(aD 8 o4),(aD 15 o5),r2]
 (.ite (aP (.tget zo 1) (pi 0))
 (.ret (.tup [(pi 0),(.tget zo 1)]))
 (.call ⟨[(11,(.tget zo 0))],[]⟩ [] 92 121 [(.tget zo 0)]
 (.ite (.pick (.nt Io) pT (bh (aG bz r3) (pi 100000)))
 (.ret (.tup [(pi 0),(pi 3)]))
 (.call ⟨[],[]⟩ [] 106 124 [(aD 8 o4),(pc o5 10),(aG bz r3)]
 (.ret (.tup [(.tget O3 0),(.tget O3 1)]))))))))
theorem YM:AI.map told=some (RS,[]):=by kernel_rfl
theorem aro:tree (ae AI)=RS:=ba YM
def Fx:Option PC:=cF [4] [] Tryz.f120 120 [2]
def RU:PT:=
 (.ret (.pick (cg r1 (pi 0)) (ah r1 (.llen ru)) pF))
theorem YQ:Fx.map told=some (RU,[]):=by kernel_rfl
theorem arq:tree (ae Fx)=RU:=ba YQ
def Fy:Option PC:=cF [2] [] Tryz.f121 121 []
def RV:PT:=
 (.ret (.pick (cg r0 (pi 0)) (bB r0 (pi 100000)) pF))
theorem YR:Fy.map told=some (RV,[]):=by kernel_rfl
theorem ars:tree (ae Fy)=RV:=ba YR
def Fw:Option PC:=cF [2] [] Tryz.f122 122 [1]
def RT:PT:=
 (.ret (.pick (peq kX (pi 0)) pT (peq kX (pi 1))))
theorem YN:Fw.map told=some (RT,[]):=by kernel_rfl
theorem arp:tree (ae Fw)=RT:=ba YN
def AK:Option PC:=cF [6,7,13,16,24,33,8,9] [] Tryz.f123 123 [3,4]
def wy:PT:=
 (.blockS ⟨[(12,(pc (.mk [r1]) 5))],[(4,(.mk [r1])),(3,(.mk [r0]))]⟩ 0 [6,7,13,14,16,17,24,25,33,34] []
 (.iteS ⟨[],[]⟩ (peq bU (pi 0)) [6,7,16,17,24,25,33,34] []
 (.ret (.tup [r2,(pi 0)]))
 (.iteS ⟨[],[]⟩ (peq bU (pi 1)) [6,7,24,25,33,34] []
 (.call ⟨[],[]⟩ [] 21 180 [r2,(.mk [(pc o4 5),(pc o4 6),(pc o4 7)])]
 (.ret (.tup [(.tget fu 0),(.tget fu 1)])))
 (.iteS ⟨[],[]⟩ (peq bU (pi 2)) [6,7,33,34] []
 (.call ⟨[],[]⟩ [] 30 180 [(pc o4 8),(.mk [(pc o4 5),(pc o4 6),(pc o4 7)])]
 (.ret (.tup [(.tget rA 0),(.tget rA 1)])))
 (.iteS ⟨[],[]⟩ (peq bU (pi 4)) [6,7] []
 (.call ⟨[],[]⟩ [] 41 106 [(aD 8 o3),(pc o4 9),(pc o4 10)]
 (.ret (.tup [(aG (pc o4 8) (.tget pV 0)),(.tget pV 1)])))
 (.next ⟨[],[]⟩)
 (.next ⟨[],[]⟩))
 (.next ⟨[],[]⟩))
 (.next ⟨[],[]⟩))
 (.next ⟨[],[]⟩))
 (.ret (.tup [(pc o4 6),(pi 0)])))
theorem YP:AK.map told=some (wy,[]):=by kernel_rfl
theorem DY:tree (ae AK)=wy:=ba YP
def AJ:Option PC:=cF [4,5] [] Tryz.f180 180 [3]
def zM:PT:=
 (.ite (.pick (ah (pc (.mk [r1]) 1) (pi 0)) pT (bh (pc (.mk [r1]) 1) (pi 20000)))
 (.ret (.tup [(pi 0),(pi 3)]))
 (.iteS ⟨[],[(3,(.mk [r1]))]⟩ (peq (pc (.mk [r1]) 2) (pi 1)) [4,5] []
 (.call ⟨[],[]⟩ [] 20 214 [r0,(pc o3 1)]
 (.ret (.tup [(.tget bR 0),(.tget bR 1)])))
 (.next ⟨[],[]⟩)
 (.ret (.tup [(aG r0 (pc o3 1)),(pi 0)]))))
theorem YO:AJ.map told=some (zM,[]):=by kernel_rfl
theorem Jp:tree (ae AJ)=zM:=ba YO
def AE:Option PC:=cF [4,5,6,7,8,9] [] Tryz.f214 214 []
def Jj:PT:=
 (.call ⟨[],[]⟩ [] 11 215 [r0]
 (.ite (.pick (.pick (.nt bz) pT (ah r1 (pi (-5000)))) pT (bh r1 (pi 5000)))
 (.ret (.tup [(pi 0),(pi 3)]))
 (.call ⟨[],[]⟩ [] 23 241 [r0]
 (.chk (aP (pi 12) (pi 0))
 (.call ⟨[(41,(.tget dJ 2)),(40,(aG (.ai .rem .i64 H6 (pi 12)) (pi 1))),(39,(.ai .quo .i64 H6 (pi 12)))],[]⟩ [] 44 243 [(.ai .quo .i64 H6 (pi 12)),(aG (.ai .rem .i64 H6 (pi 12)) (pi 1))]
 (.call ⟨[],[]⟩ [] 46 242 [rB,rC,(.mn pV vV)]
 (.ret (.tup [(.tget CW 0),(.tget CW 1)]))))))))
theorem X3:AE.map told=some (Jj,[]):=by kernel_rfl
theorem aba:tree (ae AE)=Jj:=ba X3
def EX:Option PC:=cF [2] [] Tryz.f215 215 []
def QJ:PT:=
 (.ret (.pick (bB (pi 0) r0) (bB r0 (pi 100000)) pF))
theorem Ya:EX.map told=some (QJ,[]):=by kernel_rfl
theorem ap5:tree (ae EX)=QJ:=ba Ya
def ET:Option PC:=cF [2,3,4,5,6,7,8,9] [] Tryz.f241 241 []
def QF:PT:=
 (.chk (aP (pi 146097) (pi 0))
 (.chk (aP (pi 1460) (pi 0))
 (.chk (aP (pi 36524) (pi 0))
 (.chk (aP (pi 146096) (pi 0))
 (.chk (aP (pi 365) (pi 0))
 (.chk (aP (pi 4) (pi 0))
 (.chk (aP (pi 100) (pi 0))
 (.chk (aP (pi 153) (pi 0))
 (.chk (aP (pi 5) (pi 0))
 (.ret (.tup [(.pick (ah ZM (pi 3)) (aG ZP (pi 1)) ZP),ZM,(aG (bH (bH (.ai .rem .i64 (aG r0 (pi 730425)) (pi 146097)) (bH (aG (.ai .mul .i64 (pi 365) vM) (.ai .quo .i64 vM (pi 4))) (.ai .quo .i64 vM (pi 100)))) (.ai .quo .i64 (aG (.ai .mul .i64 (pi 153) H7) (pi 2)) (pi 5))) (pi 1))])))))))))))
theorem X5:ET.map told=some (QF,[]):=by kernel_rfl
theorem ap0:tree (ae ET)=QF:=ba X5
def EV:Option PC:=cF [4] [] Tryz.f243 243 []
def Jl:PT:=
 (.ite (peq r1 (pi 12))
 (.ret (pi 31))
 (.call ⟨[],[]⟩ [] 10 268 [r0,(aG r1 (pi 1)),(pi 1)]
 (.call ⟨[],[]⟩ [] 13 268 [r0,r1,(pi 1)]
 (.ret (bH bC cK)))))
theorem X7:EV.map told=some (Jl,[]):=by kernel_rfl
theorem ap3:tree (ae EV)=Jl:=ba X7
def AG:Option PC:=cF [6,0,1] [] Tryz.f268 268 []
def Jm:PT:=
 (.chk (aP (pi 4) (pi 0))
 (.chk (aP (pi 100) (pi 0))
 (.chk (aP (pi 400) (pi 0))
 (.chk (aP (pi 5) (pi 0))
 (.ret (bH (bH (aG (aG (aG (bH (aG (.ai .mul .i64 (pi 365) H9) (.ai .quo .i64 H9 (pi 4))) (.ai .quo .i64 H9 (pi 100))) (.ai .quo .i64 H9 (pi 400))) (.ai .quo .i64 (aG (.ai .mul .i64 (pi 153) (bH (.pick (ah r1 (pi 3)) (aG r1 (pi 12)) r1) (pi 3))) (pi 2)) (pi 5))) r2) (pi 1)) (pi 730425)))))))
theorem X8:AG.map told=some (Jm,[]):=by kernel_rfl
theorem abb:tree (ae AG)=Jm:=ba X8
def AF:Option PC:=cF [6,7,8] [] Tryz.f242 242 []
def zL:PT:=
 (.call ⟨[(28,r2),(27,(.pick (.pick (.pick (.pick (ah r0 (pi 2000)) pT (bh r0 (pi 2300))) pT (ah r1 (pi 1))) pT (bh r1 (pi 12))) pT (ah r2 (pi 1))))],[]⟩ [(27,false)] 31 243 [r0,r1]
 (.ite (.pick de pT (bh oq jW))
 (.ret (.tup [(pi 0),(pi 3)]))
 (.call ⟨[],[]⟩ [] 37 268 [r0,r1,r2]
 (.call ⟨[(8,mV)],[]⟩ [] 39 215 [mV]
 (.ite (.nt rB)
 (.ret (.tup [(pi 0),(pi 3)]))
 (.ret (.tup [r8,(pi 0)])))))))
theorem X4:AF.map told=some (zL,[]):=by kernel_rfl
theorem Jk:tree (ae AF)=zL:=ba X4
def xH:Option PC:=cF [6,7,8,2,9,10] [] Tryz.f124 124 [3]
def Kv:Nat→PC:=br xH
def alA (b:Nat→PC):PC:=.block 0 [] [] (.loop [2,6,7] [] (b 0))
def PS (b:Nat→PC):PT:=
 (.blockS ⟨[],[]⟩ 1 [2,6,7,9,10,14,15,16,17,18,19,20,21,22,23,24,25,26,27,28,29,30,31,32,34] []
 (.call ⟨[],[]⟩ [] 17 182 [(aD 8 o3),r8,r2]
 (.chk (ao (pc o3 1) r1)
 (.call ⟨[(2,dt)],[]⟩ [] 25 183 [(pn (pc o3 1) r1),dt]
 (.ite (aP (.tget jV 1) (pi 0))
 (.ret (.tup [(pi 0),(pi 3)]))
 (.ite (peq (.tget jV 0) r2)
 (.ret (.tup [r2,(pi 0)]))
 (.next ⟨[(2,(.tget jV 0))],[]⟩))))))
 (.next ⟨[],[]⟩))
def RW (b:Nat→PC):PT:=
 (.call ⟨[(7,(pi 0)),(6,(pi 0))],[(3,(.mk [r0]))]⟩ [] 13 181 [kW,r1]
 (.brk ⟨[(8,cK)],[]⟩
(alA b)
 (.next ⟨[],[]⟩)))
def agl (b:Nat→PC):PT×List (Shp×PT):=(RW b,[(.lp 0 [] [] [2,6,7] [],PS b)])
theorem Oa:xH.map told=some (agl (bj xH)):=by kernel_rfl
theorem art:tree (ae xH)=RW Kv:=bO Oa
theorem aok:round 0 [] [] [2,6,7] [] (Kv 0)=PS Kv:=bn Oa 0 fun _=>rfl
end Rm
