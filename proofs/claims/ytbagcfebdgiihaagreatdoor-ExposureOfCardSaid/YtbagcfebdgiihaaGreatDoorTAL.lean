/-
  The functions of this seat, compiled (2).
-/
import Derived.Test.YtbagcfebdgiihaaGreatDoorTAJ
import Derived.KernelRfl
set_option linter.unusedVariables false
set_option maxRecDepth 100000
noncomputable section
namespace Rm
open Go Go.Proofs Cx
def xb:Option PC:=cF [] [] Tryz.f29 29 [2,4,5,65541,69637,73733,77829,7,31,9,49,11,13]
def pX:Nat→PC:=br xb
def alf (b:Nat→PC):PC:=.block 0 [20,21] [65541,5] (.loop [20] [65541,5] (b 0))
def alg (b:Nat→PC):PC:=.block 2 [38,39] [73733,5] (.loop [38] [73733,5] (b 1))
def alh (b:Nat→PC):PC:=.block 4 [56,57] [5,69637] (.loop [56] [5,69637] (b 2))
def ali (b:Nat→PC):PC:=.block 6 [76,77] [5,77829] (.loop [76] [5,77829] (b 3))
def C4 (b:Nat→PC):PT:=
 (.ite (ah bQ dK)
 (.chk (ao dD bQ)
 (.ite (bj (pc (.setc z9 0 (pn dD bQ)) 6) r1)
 (.exit 0 ⟨[(21,(ah bQ dK))],[]⟩)
 (.chk (bB (.llen (.app (.o 65541) (.lst [(aC 9 (.setc z9 0 (pn dD bQ)))]))) cl)
 (.next ⟨[(20,(aG bQ (pi 1)))],[(65541,(.app (.o 65541) (.lst [(aC 9 (.setc z9 0 (pn dD bQ)))]))),(5,(.setc o5 15 pN))]⟩))))
 (.exit 0 ⟨[(21,(ah bQ dK))],[]⟩))
def C5 (b:Nat→PC):PT:=
 (.ite (ah j9 my)
 (.chk (ao iK j9)
 (.ite (bj (pc (.setc z9 0 (pn iK j9)) 6) r1)
 (.exit 2 ⟨[(39,(ah j9 my))],[]⟩)
 (.chk (bB (.llen (.app (.o 73733) (.lst [(aC 9 (.setc z9 0 (pn iK j9)))]))) cl)
 (.next ⟨[(38,(aG j9 (pi 1)))],[(73733,(.app (.o 73733) (.lst [(aC 9 (.setc z9 0 (pn iK j9)))]))),(5,(.setc o5 17 pN))]⟩))))
 (.exit 2 ⟨[(39,(ah j9 my))],[]⟩))
def C6 (b:Nat→PC):PT:=
 (.ite (ah nJ CF)
 (.chk (ao pv nJ)
 (.ite (bB (pc (.setc z2 0 (pn pv nJ)) 0) (.llen (.o 65541)))
 (.chk (bB (.llen ZB) cl)
 (.next ⟨[(56,(aG nJ (pi 1)))],[(5,(.setc o5 16 pN)),(69637,ZB)]⟩))
 (.next ⟨[(56,(aG nJ (pi 1)))],[]⟩)))
 (.exit 4 ⟨[(57,(ah nJ CF))],[]⟩))
def C7 (b:Nat→PC):PT:=
 (.ite (ah qZ O4)
 (.blockS ⟨[],[]⟩ 7 [13,78,79,80,81,82,83,84,85] [13,77829,5]
 (.chk (ao y2 qZ)
 (.call ⟨[],[(13,(.setc z3 0 (pn y2 qZ)))]⟩ [] 85 80 [(pc (.setc z3 0 (pn y2 qZ)) 1),(.llen (.o 65541))]
 (.ite y3
 (.chk (bB (.llen ZN) cl)
 (.next ⟨[],[(77829,ZN),(5,(.setc o5 18 pN))]⟩))
 (.next ⟨[],[]⟩))))
 (.next ⟨[(76,(aG qZ (pi 1)))],[]⟩))
 (.exit 6 ⟨[(77,(ah qZ O4))],[]⟩))
def Rw (b:Nat→PC):PT:=
 (.brk ⟨[(20,(pi 0)),(19,(.llen mq)),(18,mq)],[(77829,pL),(73733,pL),(69637,pL),(65541,pL),(5,(.setc oZ 0 (.mk [(aC 15 (.mk [r0])),pL,pL,pL,pL]))),(4,oZ),(2,(.mk [r0]))]⟩
(alf b)
 (.brk ⟨[(38,(pi 0)),(37,(.llen (pc o2 17))),(36,(pc o2 17))],[]⟩
(alg b)
 (.brk ⟨[(56,(pi 0)),(55,(.llen (pc o2 16))),(54,(pc o2 16))],[]⟩
(alh b)
 (.brk ⟨[(76,(pi 0)),(75,(.llen (pc o2 18))),(74,(pc o2 18))],[]⟩
(ali b)
 (.ret (aC 19 (.setc o4 0 (.mk [(pc o5 0),(pc o5 1),(pc o5 2),(pc o5 3),(pc o5 4),(pc o5 5),(pc o5 6),(pc o5 7),(pc o5 8),(pc o5 9),(pc o5 10),(pc o5 11),(pc o5 12),(pc o5 13),(pc o5 14),(.o 65541),(.o 69637),(.o 73733),(.o 77829)]))))))))
def af5 (b:Nat→PC):PT×List (Shp×PT):=(Rw b,[(.lp 0 [20,21] [65541,5] [20] [65541,5],C4 b),(.lp 2 [38,39] [73733,5] [38] [73733,5],C5 b),(.lp 4 [56,57] [5,69637] [56] [5,69637],C6 b),(.lp 6 [76,77] [5,77829] [76] [5,77829],C7 b)])
theorem yH:xb.map told=some (af5 (bk xb)):=by kernel_rfl
theorem aqK:tree (ae xb)=Rw pX:=bN yH
theorem Pv:round 0 [20,21] [65541,5] [20] [65541,5] (pX 0)=C4 pX:=be yH 0 fun _=>rfl
theorem Pw:round 2 [38,39] [73733,5] [38] [73733,5] (pX 1)=C5 pX:=be yH 1 fun _=>rfl
theorem Px:round 4 [56,57] [5,69637] [56] [5,69637] (pX 2)=C6 pX:=be yH 2 fun _=>rfl
theorem Py:round 6 [76,77] [5,77829] [76] [5,77829] (pX 3)=C7 pX:=be yH 3 fun _=>rfl
def E6:Option PC:=cF [4] [] Tryz.f80 80 []
def RB:PT:=
 (.ret OU)
theorem Yw:E6.map told=some (RB,[]):=by kernel_rfl
theorem aqQ:tree (ae E6)=RB:=ba Yw
def Eo:Option PC:=cF [] [] Tryz.f81 81 [5,8,77832,10]
def Qk:PT:=
 (.call ⟨[],[(10,yR)]⟩ [] 18 33 [kI,r1,r2,(.mk [(.mk [(pc iJ 0),(pc iJ 1),(pc iJ 2),(pc iJ 3),(pc iJ 4),(pc iJ 5),(pc iJ 6),(pc iJ 7),(pc iJ 8),(pc iJ 9),(pc iJ 10),(pc iJ 11),(pc iJ 12),(pc iJ 13),(pc iJ 14),(pc iJ 15),(pc iJ 16),(pc iJ 17),pL]),(pi 0),(pi (-1)),(pi (-1)),(pi (-1)),r4])]
 (.ret (aC 5 (.setc bV 0 dD))))
theorem XH:Eo.map told=some (Qk,[]):=by kernel_rfl
theorem apr:tree (ae Eo)=Qk:=ba XH
def En:Option PC:=cF [10] [] Tryz.f33 33 [4,7,8,9]
def Qj:PT:=
 (.call ⟨[],[(8,yR),(4,(.mk [r0]))]⟩ [] 16 84 [kI,r1,r2,(aC 24 (.mk [r3]))]
 (.iteS ⟨[(10,(.tget bx 1))],[(9,(.setc yR 0 (.tget bx 0)))]⟩ (aO (pc (.setc yR 0 (.tget bx 0)) 2) (pi (-1))) [] [9]
 (.chk (ao (pc o4 4) (pc o9 2))
 (.call ⟨[],[]⟩ [] 31 85 [(pn (pc o4 4) (pc o9 2)),r2,bC]
 (.next ⟨[],[(9,(.setc (.setc o9 0 (.tget jJ 0)) 4 (.tget jJ 1)))]⟩)))
 (.next ⟨[],[]⟩)
 (.ret (aC 5 (.setc o8 0 (aC 5 o9))))))
theorem XG:En.map told=some (Qj,[]):=by kernel_rfl
theorem apq:tree (ae En)=Qj:=ba XG
def Et:Option PC:=cF [9,11,12,13,14] [] Tryz.f84 84 [4,7,8,10,16394]
def Qo:PT:=
 (.call ⟨[],[(16394,pL),(10,(.setc yR 0 (.mk [fh,(pi (-1)),pL,(pi 1)]))),(8,yR),(7,(.mk [r3])),(4,(.mk [r0]))]⟩ [] 19 126 [kI,(aC 24 (.mk [r3]))]
 (.ite (peq (.llen (.tget dK 1)) (pi 0))
 (.ret (.tup [OM,pL]))
 (.call ⟨[(11,(.tget dK 1))],[(7,(.setc o7 0 (.tget dK 0)))]⟩ [] 28 127 [r2]
 (.ite (.nt (.tget nH 1))
 (.ret (.tup [OM,pL]))
 (.call ⟨[],[]⟩ [] 37 128 [(aC 8 o4),r1,(aC 24 o7)]
 (.ite (peq (.llen my) (pi 0))
 (.ret (.tup [OM,pL]))
 (.call ⟨[],[]⟩ [] 46 129 [(aC 8 o4),r1,r2,my]
 (.ite (peq (pc vk 4) (pi 0))
 (.chk (ao (pc vk 3) (bH (.llen (pc vk 3)) (pi 1)))
 (.ret (.tup [(aC 5 (.setc o8 0 (aC 5 (.setc vk 2 (pn (pc vk 3) (bH (.llen (pc vk 3)) (pi 1))))))),bz])))
 (.ret (.tup [(aC 5 (.setc o8 0 (aC 5 vk))),bz]))))))))))
theorem XL:Et.map told=some (Qo,[]):=by kernel_rfl
theorem apv:tree (ae Et)=Qo:=ba XL
def Eu:Option PC:=cF [5] [] Tryz.f126 126 [2,3,4]
def Qp:PT:=
 (.call ⟨[],[(4,Zs),(3,(.mk [r1])),(2,(.mk [r0]))]⟩ [] 10 29 [(aC 19 (.mk [r1])),(pc (.mk [r1]) 23)]
 (.call ⟨[(12,(aC 24 (.setc o3 0 bC)))],[]⟩ [] 15 184 [(aC 8 o2),(aC 24 (.setc o3 0 bC))]
 (.ret (.tup [(aC 24 (.setc o4 0 bS)),bG]))))
theorem XM:Eu.map told=some (Qp,[]):=by kernel_rfl
theorem apw:tree (ae Eu)=Qp:=ba XM
def xe:Option PC:=cF [4,7,9,11,12,13,14,15,16] [] Tryz.f184 184 [2,3,5,6,8,10,90,139]
def z7:Nat→PC:=br xe
def al0 (b:Nat→PC):PC:=.meach 90 [94,95,11,12] [0,1,0,1] [10] (b 0)
def al3 (b:Nat→PC):PC:=.meach 139 [143,144,15,16] [0,1,0,1] [10] (b 1)
def PB (b:Nat→PC):PT:=
 (.chk (ao bV bz)
 (.next ⟨[],[(10,(.setn bV bz 0 (.mk [pT,bS])))]⟩))
def PD (b:Nat→PC):PT:=
 (.blockS ⟨[],[]⟩ 3 [145,146,147,148,149] [10]
 (.call ⟨[(146,bG)],[]⟩ [] 148 219 [bx]
 (.chk (ao bV (.r 146))
 (.next ⟨[],[(10,(.setn bV (.r 146) 0 (.r 148)))]⟩)))
 (.next ⟨[],[]⟩))
def sY (b:Nat→PC):PT:=
 (.call ⟨[(7,(.mx (pc (.mk [r1]) 20) (pi 0)))],[(6,(.setc Jn 0 (aC 15 (.mk [r1])))),(5,(.setc oZ 0 (aC 19 (.mk [r1])))),(3,(.mk [r1])),(2,(.mk [r0]))]⟩ [] 30 80 [(pc (.mk [r1]) 19),(.llen (pc (.setc oZ 0 (aC 19 (.mk [r1]))) 15))]
 (.call ⟨[(48,(aO (pc o3 22) (pi (-1)))),(44,(.pick (.pick (.nt qW) pT (ah (pc o3 20) (pi (-1)))) pT (bZ r7 (.llen (pc o5 15)))))],[]⟩ [(48,true),(44,false)] 51 80 [(pc o3 22),(pi 100001)]
 (.ite (.pick vw pT (.pick ka (.nt lL) pF))
 (.ret pL)
 (.chk (ao (pc o5 15) (pc o3 19))
 (.call ⟨[],[(8,(.setc z9 0 (pn (pc o5 15) (pc o3 19))))]⟩ [] 63 80 [(pc (.setc z9 0 (pn (pc o5 15) (pc o3 19))) 6),(pi 100001)]
 (.ite (.nt HY)
 (.ret pL)
 (.chk (.an (bZ (pi 20) (pi 0)) (bB (pi 20) cl))
 (.chk (peq (pi 20) (pi 20))
 (.chk (ah (.mlen (.con (.map []))) cl)
 (.chk (ah (.mlen (.put (.con (.map [])) (pi 0) (pc o6 3))) cl)
 (.chk (ah (.mlen (.put (.put (.con (.map [])) (pi 0) (pc o6 3)) (pi 1) (pc o6 14))) cl)
 (.chk (ah (.mlen OJ) cl)
 (.chk (ah (.mlen (.put OJ (pi 3) (pc o6 12))) cl)
 (.chk (ah (.mlen OP) cl)
 (.chk (ah (.mlen (.put OP (pi 5) (pc o3 21))) cl)
 (.blockS ⟨[(10,pN),(9,ZM)],[(90,(.tup [(.lst []),(.put (.put OP (pi 5) (pc o3 21)) (pi 6) ZM)])),(10,(.rep (pi 20) fh))]⟩ 0 [] [10]
 (.brk ⟨[],[]⟩
(al0 b)
 (.exit 0 ⟨[],[]⟩))
 (.call ⟨[],[(3,(aC 24 o3))]⟩ [] 104 217 [(pc o5 16),(.clo 218 [(.ref (aC 24 o3))])]
 (.call ⟨[(13,anA)],[]⟩ [] 108 181 [(aC 8 o2),(pc o6 9)]
 (.call ⟨[],[]⟩ [] 112 181 [(aC 8 o2),(pc o6 10)]
 (.chk (ah (.mlen (.con (.map []))) cl)
 (.chk (ah (.mlen OO) cl)
 (.chk (ah (.mlen (.put OO (pi 8) (peq (pc o6 2) (pi (-1))))) cl)
 (.chk (ah (.mlen (.put (.put OO (pi 8) (peq (pc o6 2) (pi (-1)))) (pi 9) (aO (.ai .and .i64 (pc o6 13) (pi 4)) (pi 0)))) cl)
 (.chk (ah (.mlen HT) cl)
 (.chk (ah (.mlen (.put HT (pi 11) (aO OX OY))) cl)
 (.chk (ah (.mlen (.put (.put HT (pi 11) (aO OX OY)) (pi 12) cK)) cl)
 (.chk (ah (.mlen Zx) cl)
 (.blockS ⟨[],[(139,(.tup [(.lst []),(.put Zx (pi 14) (bj r9 (pi 0)))]))]⟩ 2 [] [10]
 (.brk ⟨[],[]⟩
(al3 b)
 (.exit 2 ⟨[],[]⟩))
 (.call ⟨[],[]⟩ [] 154 220 [(aC 19 o5),(pi 0),(pc o3 19)]
 (.chk (ao bV (pi 15))
 (.call ⟨[],[(10,(.setn bV (pi 15) 0 (.r 154)))]⟩ [] 160 220 [(aC 19 o5),(pi 1),(pc o3 19)]
 (.chk (ao bV (pi 16))
 (.call ⟨[],[(10,(.setn bV (pi 16) 0 (.r 160)))]⟩ [] 166 220 [(aC 19 o5),(pi 2),(pc o3 19)]
 (.chk (ao bV (pi 17))
 (.call ⟨[],[(10,(.setn bV (pi 17) 0 (.r 166)))]⟩ [] 171 220 [(aC 19 o5),(pi 3),r7]
 (.chk (ao bV (pi 18))
 (.call ⟨[],[(10,(.setn bV (pi 18) 0 (.r 171)))]⟩ [] 176 220 [(aC 19 o5),(pi 4),r7]
 (.chk (ao bV (pi 19))
 (.ret (.setn bV (pi 19) 0 (.r 176)))))))))))))))))))))))))))))))))))))))))
def af8 (b:Nat→PC):PT×List (Shp×PT):=(sY b,[(.ea [10],PB b),(.ea [10],PD b)])
theorem Hu:xe.map told=some (af8 (bk xe)):=by kernel_rfl
theorem aqO:tree (ae xe)=sY z7:=bN Hu
theorem an4:nN [10] (z7 0)=PB z7:=Qi Hu 0 fun _=>rfl
theorem an5:nN [10] (z7 1)=PD z7:=Qi Hu 1 fun _=>rfl
def E4:Option PC:=cF [3] [] Tryz.f218 218 [2]
def Rz:PT:=
 (.ret (bB kJ (pc (.deref r1) 19)))
theorem Yu:E4.map told=some (Rz,[]):=by kernel_rfl
theorem aqN:tree (ae E4)=Rz:=ba Yu
def E7:Option PC:=cF [4] [] Tryz.f217 217 []
def RD:PT:=
 (.call ⟨[],[]⟩ [] 7 246 [r0,r1]
 (.ret (bZ r7 (pi 0))))
theorem Yx:E7.map told=some (RD,[]):=by kernel_rfl
theorem aqS:tree (ae E7)=RD:=ba Yx
def xg:Option PC:=cF [4,5] [] Tryz.f246 246 []
def Kc:Nat→PC:=br xg
def alp (b:Nat→PC):PC:=.block 0 [4,8,9] [] (.loop [4,8] [] (b 0))
def Db (b:Nat→PC):PT:=
 (.ite (ah r8 r7)
 (.blockS ⟨[],[]⟩ 1 [4,5,10,11,12,13,14,15,16] []
 (.chk (ao r0 r8)
 (.callc ⟨[(5,r8)],[]⟩ [] 16 r1 [(pn r0 r8)]
 (.ite bx
 (.ret r5)
 (.next ⟨[],[]⟩))))
 (.next ⟨[(8,nD)],[]⟩))
 (.exit 0 ⟨[(9,(ah r8 r7))],[]⟩))
def RH (b:Nat→PC):PT:=
 (.brk ⟨[(8,(pi 0)),(7,(.llen r0)),(4,(pi 0))],[]⟩
(alp b)
 (.ret (pi (-1))))
def aga (b:Nat→PC):PT×List (Shp×PT):=(RH b,[(.lp 0 [4,8,9] [] [4,8] [],Db b)])
theorem NX:xg.map told=some (aga (bk xg)):=by kernel_rfl
theorem aqW:tree (ae xg)=RH Kc:=bN NX
theorem PF:round 0 [4,8,9] [] [4,8] [] (Kc 0)=Db Kc:=be NX 0 fun _=>rfl
def E1:Option PC:=cF [4] [] Tryz.f181 181 [2]
def Rj:PT:=
 (.call ⟨[],[(2,(.mk [r0]))]⟩ [] 9 57 [r1,(.llen qQ)]
 (.ite (.nt r9)
 (.ret (pi (-1)))
 (.chk (ao (pc o2 1) r1)
 (.ret (pc (pn (pc o2 1) r1) 1)))))
theorem Yr:E1.map told=some (Rj,[]):=by kernel_rfl
theorem aqy:tree (ae E1)=Rj:=ba Yr
def E5:Option PC:=cF [] [] Tryz.f219 219 [2]
def RA:PT:=
 (.ite r0
 (.ret (.mk [(pc HU 0),(pc HU 1)]))
 (.ret (.mk [(pc HV 0),(pc HV 1)])))
theorem Yv:E5.map told=some (RA,[]):=by kernel_rfl
theorem aqP:tree (ae E5)=RA:=ba Yv
def xc:Option PC:=cF [] [] Tryz.f220 220 [3,6,8]
def Kb:Nat→PC:=br xc
def alj (b:Nat→PC):PC:=.block 0 [12,13] [6] (.loop [12] [6] (b 0))
def C8 (b:Nat→PC):PT:=
 (.ite nG
 (.blockS ⟨[],[]⟩ 1 [8,14,15,16,17,18,19,20,25] [8,6]
 (.chk (ao bC bS)
 (.iteS ⟨[],[(8,(.setc z3 0 qU))]⟩ (.pick (peq (pc (.setc z3 0 qU) 0) r1) (peq (pc (.setc z3 0 qU) 1) r2) pF) [] [6]
 (.call ⟨[],[]⟩ [] 29 219 [(aO (pc o8 2) (pi 0))]
 (.ret (.mk [(pc (.setc o6 0 mw) 0),(pc (.setc o6 0 mw) 1)])))
 (.next ⟨[],[]⟩)
 (.next ⟨[],[]⟩)))
 (.next ⟨[(12,yX)],[]⟩))
 (.exit 0 ⟨[(13,nG)],[]⟩))
def Rx (b:Nat→PC):PT:=
 (.brk ⟨[(12,(pi 0)),(11,(.llen yV)),(10,yV)],[(6,fh)]⟩
(alj b)
 (.ret (.mk [(pc (.setc o6 0 vt) 0),(pc (.setc o6 0 vt) 1)])))
def af6 (b:Nat→PC):PT×List (Shp×PT):=(Rx b,[(.lp 0 [12,13] [6] [12] [6],C8 b)])
theorem NW:xc.map told=some (af6 (bk xc)):=by kernel_rfl
theorem aqL:tree (ae xc)=Rx Kb:=bN NW
theorem Pz:round 0 [12,13] [6] [12] [6] (Kb 0)=C8 Kb:=be NW 0 fun _=>rfl
def EM:Option PC:=cF [2,3,4,11] [] Tryz.f127 127 []
def QS:PT:=
 (.blockS ⟨[],[]⟩ 0 [2,3,4,5,6,7,10,11,12,13,14] []
 (.iteS ⟨[],[]⟩ (.pick (ah r0 (pi 0)) pT (bZ r0 (pi 22))) [2,3,11,12,13,14] []
 (.ret (.tup [(pi 0),pF]))
 (.call ⟨[],[]⟩ [] 14 185 [(.lst [(pc pf 0),(pc pf 1),(pc pf 2),(pc pf 3),(pc pf 4),(pc pf 5),(pc pf 6),(pc pf 7),(pc pf 8),(pc pf 9)]),r0]
 (.ite bD
 (.ret (.tup [(pi 0),pT]))
 (.next ⟨[],[]⟩)))
 (.next ⟨[],[]⟩))
 (.ret (.tup [(pi 1),pT])))
theorem Yb:EM.map told=some (QS,[]):=by kernel_rfl
theorem ap8:tree (ae EM)=QS:=ba Yb
def wG:Option PC:=cF [8,9,11,12,13,14,55,70] [] Tryz.f129 129 [4,10,53]
def JS:Nat→PC:=br wG
def akp (b:Nat→PC):PC:=.block 0 [] [] (.loop [8,9,10] [10] (b 0))
def Pc (b:Nat→PC):PT:=
 (.blockS ⟨[],[]⟩ 1 [8,9,10,11,12,13,14,32,33,35,36,37,38,39,40,41,42,43,44,45,46,49,50,52,53,54,55,56,57,58,68,70,71] [53,10]
 (.chk (ao bV (bH (.llen bV) (pi 1)))
 (.call ⟨[(11,(pn bV (bH (.llen bV) (pi 1))))],[]⟩ [] 41 187 [(aC 8 o4),(pn bV (bH (.llen bV) (pi 1))),r2,r3]
 (.ite (peq (.tget pk 0) bz)
 (.ret (.tup [bV,(pi 0)]))
 (.call ⟨[(13,(.tget pk 1)),(12,(.tget pk 0))],[]⟩ [] 50 185 [bV,(.tget pk 0)]
 (.chk (bB (.llen (.app bV (.lst [bS]))) cl)
 (.chk (.nt (.an (.an kc (.an (.nt (.nt cK)) pT)) (.nt (ao (pc o4 4) bS))))
 (.ite (.pick (.nt cK) pT (.pick kc (pc (pn (pc o4 4) bS) 1) pF))
 (.ret (.tup [(.app bV (.lst [bS])),(pi 0)]))
 (.ite kc
 (.ret (.tup [(.app bV (.lst [bS])),(pi 12)]))
 (.next ⟨[(10,pN)],[(10,(.app bV (.lst [bS])))]⟩)))))))))
 (.next ⟨[],[]⟩))
def QH (b:Nat→PC):PT:=
 (.call ⟨[(9,(pi 0)),(8,pL)],[(4,(.mk [r0]))]⟩ [] 19 186 [kI,r1,r2,r3]
 (.chk (.nt (.an (.an (.nt (.nt dK)) pT) (.nt (ao r3 (pi 0)))))
 (.ite (.pick (.nt dK) pT (aO (pn r3 (pi 0)) r1))
 (.ret (.tup [pL,(pi 1)]))
 (.brk ⟨[(10,pN)],[(10,(.lst [r1]))]⟩
(akp b)
 (.next ⟨[],[]⟩)))))
def afy (b:Nat→PC):PT×List (Shp×PT):=(QH b,[(.lp 0 [] [] [8,9,10] [10],Pc b)])
theorem NF:wG.map told=some (afy (bk wG)):=by kernel_rfl
theorem apQ:tree (ae wG)=QH JS:=bN NF
theorem anR:round 0 [] [] [8,9,10] [10] (JS 0)=Pc JS:=be NF 0 fun _=>rfl
def EI:Option PC:=cF [8] [] Tryz.f186 186 [4,9]
def sX:PT:=
 (.ite (.pick (.pick (.pick (.pick (ah r1 (pi 0)) pT (bZ r1 (pc (.setc CD 0 (.llen (pc (.mk [r0]) 4))) 0))) pT (ah r2 (pi 0))) pT (bZ r2 (pi 22))) pT (aO (.llen r3) (pi 5)))
 (.ret pF)
 (.call ⟨[],[]⟩ [] 35 222 [r3,(.clo 223 [(.ref (pc (.setc CD 0 (.llen (pc (.mk [r0]) 4))) 0))])]
 (.ret (.nt vu))))
theorem X3:EI.map told=some (sX,[]):=by kernel_rfl
theorem apT:tree (ae EI)=sX:=ba X3
def EJ:Option PC:=cF [3] [] Tryz.f223 223 []
def QJ:PT:=
 (.ret (.pick (ah r0 (pi 0)) pT (bZ r0 (.deref r1))))
theorem X4:EJ.map told=some (QJ,[]):=by kernel_rfl
theorem apS:tree (ae EJ)=QJ:=ba X4
def E8:Option PC:=cF [4] [] Tryz.f222 222 []
def RE:PT:=
 (.call ⟨[],[]⟩ [] 7 247 [r0,r1]
 (.ret (bZ r7 (pi 0))))
theorem Yy:E8.map told=some (RE,[]):=by kernel_rfl
theorem aqT:tree (ae E8)=RE:=ba Yy
def xj:Option PC:=cF [4,5] [] Tryz.f247 247 []
def Ke:Nat→PC:=br xj
def alr (b:Nat→PC):PC:=.block 0 [4,8,9] [] (.loop [4,8] [] (b 0))
def De (b:Nat→PC):PT:=
 (.ite (ah r8 r7)
 (.blockS ⟨[],[]⟩ 1 [4,5,10,11,12,13,14,15,16] []
 (.chk (ao r0 r8)
 (.callc ⟨[(5,r8)],[]⟩ [] 16 r1 [(pn r0 r8)]
 (.ite bx
 (.ret r5)
 (.next ⟨[],[]⟩))))
 (.next ⟨[(8,nD)],[]⟩))
 (.exit 0 ⟨[(9,(ah r8 r7))],[]⟩))
def RJ (b:Nat→PC):PT:=
 (.brk ⟨[(8,(pi 0)),(7,(.llen r0)),(4,(pi 0))],[]⟩
(alr b)
 (.ret (pi (-1))))
def agc (b:Nat→PC):PT×List (Shp×PT):=(RJ b,[(.lp 0 [4,8,9] [] [4,8] [],De b)])
theorem NZ:xj.map told=some (agc (bk xj)):=by kernel_rfl
theorem aqY:tree (ae xj)=RJ Ke:=bN NZ
theorem PH:round 0 [4,8,9] [] [4,8] [] (Ke 0)=De Ke:=be NZ 0 fun _=>rfl
def wH:Option PC:=cF [8,9] [] Tryz.f187 187 [4,11]
def JT:Nat→PC:=br wH
def akq (b:Nat→PC):PC:=.block 0 [8,9,25,26] [] (.loop [8,9,25] [] (b 0))
def CL (b:Nat→PC):PT:=
 (.ite (ah jI ja)
 (.chk (ao dE jI)
 (.ite (.pick (peq (pc CB 0) r2) (aO (pc CB 1) (pi 0)) pF)
 (.chk (ao r3 (pc CB 1))
 (.ret (.tup [(pn r3 (pc CB 1)),(pc CB 2)])))
 (.next ⟨[(25,(aG jI (pi 1)))],[]⟩)))
 (.exit 0 ⟨[(26,(ah jI ja))],[]⟩))
def QI (b:Nat→PC):PT:=
 (.call ⟨[(9,pF),(8,(pi 0))],[(4,(.mk [r0]))]⟩ [] 16 186 [kI,r1,r2,r3]
 (.ite (.nt bx)
 (.ret (.tup [(pi (-1)),pF]))
 (.chk (ao (pc o4 4) r1)
 (.brk ⟨[(25,(pi 0)),(24,(.llen (pc (pn (pc o4 4) r1) 2))),(23,(pc (pn (pc o4 4) r1) 2))],[]⟩
(akq b)
 (.ret (.tup [r1,pF]))))))
def afz (b:Nat→PC):PT×List (Shp×PT):=(QI b,[(.lp 0 [8,9,25,26] [] [8,9,25] [],CL b)])
theorem NG:wH.map told=some (afz (bk wH)):=by kernel_rfl
theorem apR:tree (ae wH)=QI JT:=bN NG
theorem Pd:round 0 [8,9,25,26] [] [8,9,25] [] (JT 0)=CL JT:=be NG 0 fun _=>rfl
def EL:Option PC:=cF [7,9,11,12] [] Tryz.f85 85 [3,6,8,10]
def QR:PT:=
 (.call ⟨[],[(6,fh)]⟩ [] 16 130 [(aC 4 (.mk [r0])),r1]
 (.ite (aO (.tget bx 1) (pi 0))
 (.ret (.tup [(.mk [(pc (.setc o6 0 vt) 0),(pc (.setc o6 0 vt) 1)]),(.tget bx 1)]))
 (.call ⟨[],[]⟩ [] 25 131 [(.mk [(pc (.setc kH 0 (.tget bx 0)) 0),(pc (.setc kH 0 (.tget bx 0)) 1),(pc (.setc kH 0 (.tget bx 0)) 2)]),r2]
 (.call ⟨[],[(10,(.setc fh 0 jI))]⟩ [] 28 127 [r1]
 (.ret (.tup [(.mk [(pc (.setc o6 0 (.mk [(pc HN 0),(pc HN 1)])) 0),(pc (.setc o6 0 (.mk [(pc HN 0),(pc HN 1)])) 1)]),(pi 0)]))))))
theorem Ya:EL.map told=some (QR,[]):=by kernel_rfl
theorem ap7:tree (ae EL)=QR:=ba Ya
def EN:Option PC:=cF [5,6,7,8,10,11] [] Tryz.f130 130 [2,3,4,12292,9]
def QT:PT:=
 (.call ⟨[],[(4,kH),(3,(.mk [r1])),(2,(.mk [r0]))]⟩ [] 14 127 [(pc (.mk [r1]) 0)]
 (.ite (.nt (.tget bD 1))
 (.ret (.tup [OL,(pi 1)]))
 (.call ⟨[(6,(.tget bD 0))],[]⟩ [] 23 188 [(pc o2 3),(.clo 189 [(.ref (pc o3 0))])]
 (.ite (ah dE (pi 0))
 (.ret (.tup [OL,(pi 4)]))
 (.chk (ao (pc o2 3) dE)
 (.call ⟨[],[(9,HR)]⟩ [] 35 190 [(.mk [(pc HR 0),(pc HR 1),(pc HR 2)])]
 (.ite (.pick (aO (.tget vu 1) (pi 0)) pT (aO (.tget vu 0) r6))
 (.ret (.tup [OL,(pi 11)]))
 (.ret (.tup [(.mk [(pc OR 0),(pc OR 1),(pc OR 2)]),(pi 0)])))))))))
theorem Yc:EN.map told=some (QT,[]):=by kernel_rfl
theorem aqa:tree (ae EN)=QT:=ba Yc
def EO:Option PC:=cF [3] [] Tryz.f189 189 [2]
def QU:PT:=
 (.ret (peq kJ (.deref r1)))
theorem Yd:EO.map told=some (QU,[]):=by kernel_rfl
theorem ap9:tree (ae EO)=QU:=ba Yd
def xh:Option PC:=cF [4,5] [] Tryz.f188 188 []
def Kd:Nat→PC:=br xh
def alq (b:Nat→PC):PC:=.block 0 [4,8,9] [] (.loop [4,8] [] (b 0))
def Dc (b:Nat→PC):PT:=
 (.ite (ah r8 r7)
 (.blockS ⟨[],[]⟩ 1 [4,5,10,11,12,13,14,15,16] []
 (.chk (ao r0 r8)
 (.callc ⟨[(5,r8)],[]⟩ [] 16 r1 [(pn r0 r8)]
 (.ite bx
 (.ret r5)
 (.next ⟨[],[]⟩))))
 (.next ⟨[(8,nD)],[]⟩))
 (.exit 0 ⟨[(9,(ah r8 r7))],[]⟩))
def RI (b:Nat→PC):PT:=
 (.brk ⟨[(8,(pi 0)),(7,(.llen r0)),(4,(pi 0))],[]⟩
(alq b)
 (.ret (pi (-1))))
def agb (b:Nat→PC):PT×List (Shp×PT):=(RI b,[(.lp 0 [4,8,9] [] [4,8] [],Dc b)])
theorem NY:xh.map told=some (agb (bk xh)):=by kernel_rfl
theorem aqX:tree (ae xh)=RI Kd:=bN NY
theorem PG:round 0 [4,8,9] [] [4,8] [] (Kd 0)=Dc Kd:=be NY 0 fun _=>rfl
def Ff:Option PC:=cF [2,3] [] Tryz.f190 190 [1]
def RT:PT:=
 (.call ⟨[],[(1,(.mk [r0]))]⟩ [] 5 224 [(.mk [kJ,qQ,vl]),(pi 1)]
 (.ite (bj r5 (pi 60))
 (.ret (.tup [(pi 0),(pi 6)]))
 (.call ⟨[],[]⟩ [] 8 225 [(.mk [(pc o1 0),(pc o1 1),(pc o1 2)])]
 (.ret (.tup [(.tget r8 0),(.tget r8 1)])))))
theorem YI:Ff.map told=some (RT,[]):=by kernel_rfl
theorem aq8:tree (ae Ff)=RT:=ba YI
def tN:Option PC:=cF [4,5] [] Tryz.f224 224 [2,7,12295]
def Kk:Nat→PC:=br tN
def alB (b:Nat→PC):PC:=.block 0 [5,13,14] [] (.loop [5,13] [] (b 0))
def Dj (b:Nat→PC):PT:=
 (.ite (ah cK bS)
 (.blockS ⟨[(14,(ah cK bS))],[]⟩ 1 [5,7,15,16,17,18,19,20,21,22,23,24] [7,12295]
 (.chk (ao bz cK)
 (.call ⟨[(17,r5)],[]⟩ [] 21 224 [(.mk [(pc (.setc kH 0 (pn bz cK)) 0),(pc (.setc kH 0 (pn bz cK)) 1),(pc (.setc kH 0 (pn bz cK)) 2)]),(aG r1 (pi 1))]
 (.ite (bj (aG dk fi) (pi 60))
 (.exit 0 ⟨[(5,(aG dk fi))],[]⟩)
 (.next ⟨[(5,(aG dk fi))],[]⟩))))
 (.next ⟨[(13,(aG cK (pi 1)))],[]⟩))
 (.exit 0 ⟨[(14,(ah cK bS))],[]⟩))
def Jf (b:Nat→PC):PT:=
 (.ite (bj r1 (pi 8))
 (.ret (pi 61))
 (.brk ⟨[(13,(pi 0)),(12,pg),(11,vl),(5,(pi 1))],[]⟩
(alB b)
 (.ret r5)))
def agl (b:Nat→PC):PT×List (Shp×PT):=(Jf b,[(.lp 0 [5,13,14] [] [5,13] [],Dj b)])
theorem N5:tN.map told=some (agl (bk tN)):=by kernel_rfl
theorem abd:tree (ae tN)=Jf Kk:=bN N5
theorem PO:round 0 [5,13,14] [] [5,13] [] (Kk 0)=Dj Kk:=be N5 0 fun _=>rfl
def xp:Option PC:=cF [2,3,5,7,8,38,47,10,11,12] [] Tryz.f225 225 [1,4,6,12294,9]
def Ab:Nat→PC:=br xp
def aly (b:Nat→PC):PC:=.block 0 [2,3,20,21] [4] (.loop [2,3,20] [4] (b 0))
def alz (b:Nat→PC):PC:=.block 3 [2,3,10,82,83] [] (.loop [2,3,10,82] [] (b 1))
def Dh (b:Nat→PC):PT:=
 (.ite (ah bQ dK)
 (.blockS ⟨[],[]⟩ 1 [2,3,5,6,7,8,22,23,24,25,26,27,28,29,30,31,33,34,35,36] [6,12294,4]
 (.chk (ao dD bQ)
 (.call ⟨[(5,bQ)],[]⟩ [] 27 225 [(.mk [(pc (.setc kH 0 (pn dD bQ)) 0),(pc (.setc kH 0 (pn dD bQ)) 1),(pc (.setc kH 0 (pn dD bQ)) 2)])]
 (.ite (aO (.tget da 1) (pi 0))
 (.ret (.tup [(pi 0),(.tget da 1)]))
 (.chk (ao o4 r5)
 (.next ⟨[],[(4,(.setn o4 r5 0 (.tget da 0)))]⟩)))))
 (.next ⟨[(20,(aG bQ (pi 1)))],[]⟩))
 (.exit 0 ⟨[(21,(ah bQ dK))],[]⟩))
def sL (b:Nat→PC):PT:=
 (.ite (ah jb vA)
 (.chk (ao q5 jb)
 (.ite (.pick (peq (pn q5 jb) (pi (-1))) (peq bC (pi (-1))) pF)
 (.chk (ao o4 jb)
 (.ite (aO (pn o4 jb) (.pick (peq (pn q5 jb) (pi (-1))) (pn o4 jb) (pn q5 jb)))
 (.ret (.tup [(pi 0),(pi 11)]))
 (.next ⟨[(10,(pn o4 jb)),(82,(aG jb (pi 1)))],[]⟩)))
 (.chk (ao o4 jb)
 (.ite (aO (pn o4 jb) (.pick (peq (pn q5 jb) (pi (-1))) bC (pn q5 jb)))
 (.ret (.tup [(pi 0),(pi 11)]))
 (.next ⟨[(82,(aG jb (pi 1)))],[]⟩)))))
 (.exit 3 ⟨[(83,(ah jb vA))],[]⟩))
def RX (b:Nat→PC):PT:=
 (.chk (.an (bZ pg (pi 0)) (bB pg cl))
 (.chk (peq pg pg)
 (.brk ⟨[(20,(pi 0)),(19,pg),(18,vl),(4,pN),(3,(pi 0)),(2,(pi 0))],[(4,(.rep pg (pi 0))),(1,(.mk [r0]))]⟩
(aly b)
 (.blockS ⟨[],[]⟩ 2 [2,3,38,39,40,41,42,46,47,48,49,50,51,55,56,60] []
 (.iteS ⟨[],[]⟩ (.pick (ah (pc o1 0) (pi 0)) pT (bj (pc o1 0) (pi 13))) [2,3,47,48,49,50,51,55,56,60] []
 (.ret (.tup [(pi 0),(pi 1)]))
 (.iteS ⟨[],[]⟩ (.pick (.pick (peq (pc o1 0) (pi 0)) pT (peq (pc o1 0) (pi 1))) pT (peq (pc o1 0) (pi 2))) [2,3] []
 (.call ⟨[],[]⟩ [] 62 248 [(.mk [(pc o1 0),(pc o1 1),(pc o1 2)])]
 (.ret (.tup [(.tget mz 0),(.tget mz 1)])))
 (.next ⟨[],[]⟩)
 (.next ⟨[],[]⟩))
 (.next ⟨[],[]⟩))
 (.call ⟨[],[]⟩ [] 67 249 [(pc o1 0)]
 (.ite (.pick (aO (.llen o4) (.llen (pc (.setc j8 0 vz) 0))) pT (aO (pc o1 1) (pi 0)))
 (.ret (.tup [(pi 0),(pi 2)]))
 (.brk ⟨[(82,(pi 0)),(81,(.llen (pc (.setc j8 0 vz) 0))),(80,(pc (.setc j8 0 vz) 0)),(10,(pi (-1)))],[(9,(.setc j8 0 vz))]⟩
(alz b)
 (.ite (peq (pc o9 1) (pi (-1)))
 (.ret (.tup [bC,(pi 0)]))
 (.ret (.tup [(pc o9 1),(pi 0)]))))))))))
def agj (b:Nat→PC):PT×List (Shp×PT):=(RX b,[(.lp 0 [2,3,20,21] [4] [2,3,20] [4],Dh b),(.lp 3 [2,3,10,82,83] [] [2,3,10,82] [],sL b)])
theorem Hx:xp.map told=some (agj (bk xp)):=by kernel_rfl
theorem arc:tree (ae xp)=RX Ab:=bN Hx
theorem PM:round 0 [2,3,20,21] [4] [2,3,20] [4] (Ab 0)=Dh Ab:=be Hx 0 fun _=>rfl
theorem y9:round 3 [2,3,10,82,83] [] [2,3,10,82] [] (Ab 1)=sL Ab:=be Hx 1 fun _=>rfl
def Fl:Option PC:=cF [2,3,12,20,4,5] [] Tryz.f248 248 [1]
def R0:PT:=
 (.ite (bj pg (pi 0))
 (.ret (.tup [(pi 0),(pi 2)]))
 (.blockS ⟨[(11,kJ)],[(1,(.mk [r0]))]⟩ 0 [2,3,12,13,20,21] []
 (.iteS ⟨[],[]⟩ (peq bz (pi 0)) [2,3,20,21] []
 (.call ⟨[],[]⟩ [] 16 252 [(pc o1 1)]
 (.ite (aO bx (pc o1 1))
 (.ret (.tup [(pi 0),(pi 3)]))
 (.ret (.tup [(pi 0),(pi 0)]))))
 (.ite (peq bz (pi 1))
 (.ite (.pick (ah (pc o1 1) (pi 0)) pT (bj (pc o1 1) (pi 1)))
 (.ret (.tup [(pi 0),(pi 3)]))
 (.ret (.tup [(pi 1),(pi 0)])))
 (.next ⟨[],[]⟩))
 (.next ⟨[],[]⟩))
 (.call ⟨[],[]⟩ [] 33 250 [(pc o1 1)]
 (.ite (.nt (.tget pj 1))
 (.ret (.tup [(pi 0),(pi 10)]))
 (.ret (.tup [(.tget pj 0),(pi 0)]))))))
theorem YO:Fl.map told=some (R0,[]):=by kernel_rfl
theorem arh:tree (ae Fl)=R0:=ba YO
def Fk:Option PC:=cF [2] [] Tryz.f252 252 []
def RZ:PT:=
 (.ret (.mn (.mx r0 (pi (-1099511627776))) vp))
theorem YN:Fk.map told=some (RZ,[]):=by kernel_rfl
theorem arf:tree (ae Fk)=RZ:=ba YN
def Fh:Option PC:=cF [2,3,4,11] [] Tryz.f250 250 []
def RV:PT:=
 (.ite (.pick (ah r0 (pi 0)) pT (bj r0 (pi 19)))
 (.ret (.tup [(pi 0),pF]))
 (.ite (ah r0 (pi 7))
 (.ret (.tup [(pi 0),pT]))
 (.ret (.tup [(pi 1),pT]))))
theorem YK:Fh.map told=some (RV,[]):=by kernel_rfl
theorem ara:tree (ae Fh)=RV:=ba YK
def Fp:Option PC:=cF [4,8,13,17,21] [] Tryz.f249 249 [2]
def R3:PT:=
 (.ite (peq r0 (pi 3))
 (.ret (.mk [(pc (.setc j8 0 (.mk [(.lst [(pi 1)]),(pi 1)])) 0),(pc (.setc j8 0 (.mk [(.lst [(pi 1)]),(pi 1)])) 1)]))
 (.ite (.pick (peq r0 (pi 4)) (peq r0 (pi 4)) (peq r0 (pi 5)))
 (.ret (.mk [(pc (.setc j8 0 (.mk [(.lst [(pi 1),(pi 1)]),(pi 1)])) 0),(pc (.setc j8 0 (.mk [(.lst [(pi 1),(pi 1)]),(pi 1)])) 1)]))
 (.ite (peq r0 (pi 6))
 (.ret (.mk [(pc ZL 0),(pc ZL 1)]))
 (.ite (peq r0 (pi 7))
 (.ret (.mk [(pc (.setc j8 0 (.mk [(.lst [(pi 0),(pi 0)]),(pi 1)])) 0),(pc (.setc j8 0 (.mk [(.lst [(pi 0),(pi 0)]),(pi 1)])) 1)]))
 (.ite (peq r0 (pi 8))
 (.ret (.mk [(pc (.setc j8 0 (.mk [(.lst [(pi (-1)),(pi (-1))]),(pi 1)])) 0),(pc (.setc j8 0 (.mk [(.lst [(pi (-1)),(pi (-1))]),(pi 1)])) 1)]))
 (.ret (.mk [(pc (.setc j8 0 (.mk [(.lst [(pi 0),(pi 0)]),(pi 0)])) 0),(pc (.setc j8 0 (.mk [(.lst [(pi 0),(pi 0)]),(pi 0)])) 1)])))))))
theorem YR:Fp.map told=some (R3,[]):=by kernel_rfl
theorem arl:tree (ae Fp)=R3:=ba YR
def Fg:Option PC:=cF [5,6,8] [] Tryz.f131 131 [2,4,7]
def RU:PT:=
 (.call ⟨[],[(4,fh),(2,(.mk [r0]))]⟩ [] 11 190 [(.mk [kJ,qQ,vl])]
 (.ite (aO (.tget bz 1) (pi 0))
 (.ret Cy)
 (.call ⟨[],[]⟩ [] 21 191 [(.mk [r1]),(.mk [(pc o2 0),(pc o2 1),(pc o2 2)])]
 (.ret (.mk [(pc ZE 0),(pc ZE 1)])))))
theorem YJ:Fg.map told=some (RU,[]):=by kernel_rfl
theorem aq9:tree (ae Fg)=RU:=ba YJ
def xq:Option PC:=cF [5,15,21,9,11] [] Tryz.f191 191 [2,3,4,6,33,7,8,10,12298,12]
def Kj:Nat→PC:=br xq
def alA (b:Nat→PC):PC:=.block 1 [45,46] [7,8] (.loop [45] [7,8] (b 0))
def Di (b:Nat→PC):PT:=
 (.ite (ah po vw)
 (.blockS ⟨[],[]⟩ 2 [9,10,47,48,49,50,51,52,53,54,55,56,57,58,59,60,61] [10,12298,8,7]
 (.chk (ao sJ po)
 (.call ⟨[(54,po),(52,po)],[]⟩ [] 57 191 [(.mk [(pc o2 0)]),(.mk [(pc (.setc kH 0 (pn sJ po)) 0),(pc (.setc kH 0 (pn sJ po)) 1),(pc (.setc kH 0 (pn sJ po)) 2)])]
 (.chk (ao o7 nI)
 (.chk (ao o8 pv)
 (.next ⟨[],[(8,(.setn o8 pv 0 (.tget y0 1))),(7,(.setn o7 nI 0 (.tget y0 0)))]⟩)))))
 (.next ⟨[(45,(aG po (pi 1)))],[]⟩))
 (.exit 1 ⟨[(46,(ah po vw))],[]⟩))
def DI (b:Nat→PC):PT:=
 (.blockS ⟨[(14,(pc (.mk [r1]) 0))],[(4,fh),(3,(.mk [r1])),(2,(.mk [r0]))]⟩ 0 [5,15,16,21,22] [4]
 (.iteS ⟨[],[]⟩ (.pick (peq bD (pi 0)) (peq bD (pi 0)) (peq bD (pi 1))) [5,21,22] [4]
 (.ret (.tup [(.mk [(pc (.setc o4 0 (.mk [pT,(pc o3 1)])) 0),(pc (.setc o4 0 (.mk [pT,(pc o3 1)])) 1)]),pL]))
 (.iteS ⟨[],[]⟩ (peq bD (pi 2)) [5] [4]
 (.call ⟨[],[]⟩ [] 26 226 [(.mk [(pc o2 0)]),(pc o3 1)]
 (.ite (pc (.setc fh 0 gT) 0)
 (.ret (.tup [(.mk [(pc ZJ 0),(pc ZJ 1)]),pL]))
 (.ret (.tup [Cy,(.lst [(pc o3 1)])]))))
 (.next ⟨[],[]⟩)
 (.next ⟨[],[]⟩))
 (.next ⟨[],[]⟩))
 (.chk (.an (bZ mu (pi 0)) (bB mu cl))
 (.chk (peq mu mu)
 (.brk ⟨[(45,(pi 0)),(44,mu),(43,(pc o3 2)),(8,pN),(7,pN)],[(8,(.rep mu pL)),(7,(.rep mu fh))]⟩
(alA b)
 (.chk (.nt (.an (.an (peq (pc o3 0) (pi 6)) pT) (.nt (ao o7 (pi 0)))))
 (.ite (.pick (peq (pc o3 0) (pi 6)) (pc (pn o7 (pi 0)) 0) pF)
 (.chk (ao o7 (pi 0))
 (.chk (ao o7 CA)
 (.chk (ao o8 CA)
 (.ret (.tup [(.mk [(pc (.setc o4 0 (.sub (pn o7 CA) 0 2)) 0),(pc (.setc o4 0 (.sub (pn o7 CA) 0 2)) 1)]),(pn o8 CA)])))))
 (.call ⟨[],[]⟩ [] 88 227 [(pc o3 0),o7]
 (.ite (pc (.setc fh 0 H4) 0)
 (.ret (.tup [(.mk [(pc ZI 0),(pc ZI 1)]),pL]))
 (.call ⟨[(92,vt)],[]⟩ [] 94 228 [o8]
 (.ret (.tup [(.mk [(pc (.setc o4 0 H5) 0),(pc (.setc o4 0 H5) 1)]),Z2])))))))))))
def agk (b:Nat→PC):PT×List (Shp×PT):=(DI b,[(.lp 1 [45,46] [7,8] [45] [7,8],Di b)])
theorem N4:xq.map told=some (agk (bk xq)):=by kernel_rfl
theorem ari:tree (ae xq)=DI Kj:=bN N4
theorem PN:round 1 [45,46] [7,8] [45] [7,8] (Kj 0)=Di Kj:=be N4 0 fun _=>rfl
def Fm:Option PC:=cF [5,6] [] Tryz.f226 226 [2,4]
def R1:PT:=
 (.chk (.nt (.an (.an (.nt (bZ r1 (.llen kJ))) pT) (.nt (ao kJ r1))))
 (.ite (.pick (bZ r1 (.llen kJ)) pT (.nt (pc (pn kJ r1) 0)))
 (.ret (.mk [(pc (.setc fh 0 vt) 0),(pc (.setc fh 0 vt) 1)]))
 (.call ⟨[],[(4,fh),(2,(.mk [r0]))]⟩ [] 24 250 [r1]
 (.iteS ⟨[],[]⟩ (peq (.tget ja 0) (pi 1)) [] [4]
 (.chk (ao (pc o2 0) r1)
 (.call ⟨[],[]⟩ [] 36 251 [(aO (pc (pn (pc o2 0) r1) 1) (pi 0))]
 (.ret (.mk [(pc (.setc o4 0 iK) 0),(pc (.setc o4 0 iK) 1)]))))
 (.next ⟨[],[]⟩)
 (.chk (ao (pc o2 0) r1)
 (.call ⟨[],[]⟩ [] 43 252 [(pc (pn (pc o2 0) r1) 1)]
 (.ret (.mk [(pc (.setc o4 0 (.mk [pT,sJ])) 0),(pc (.setc o4 0 (.mk [pT,sJ])) 1)]))))))))
theorem YP:Fm.map told=some (R1,[]):=by kernel_rfl
theorem arj:tree (ae Fm)=R1:=ba YP
def Fq:Option PC:=cF [] [] Tryz.f251 251 [2]
def R4:PT:=
 (.ite r0
 (.ret (.mk [(pc HU 0),(pc HU 1)]))
 (.ret (.mk [(pc HV 0),(pc HV 1)])))
theorem YS:Fq.map told=some (R4,[]):=by kernel_rfl
theorem arn:tree (ae Fq)=R4:=ba YS
def Fj:Option PC:=cF [9,22,41,6,7,82,88,94] [] Tryz.f227 227 [4,5]
def RY:PT:=
 (.blockS ⟨[(8,r0)],[(4,fh)]⟩ 0 [9,10,22,23] [4]
 (.iteS ⟨[],[]⟩ (peq r8 (pi 3)) [22,23] [4]
 (.chk (ao r1 (pi 0))
 (.iteS ⟨[],[]⟩ (pc (pn r1 (pi 0)) 0) [] [4]
 (.chk (ao r1 (pi 0))
 (.call ⟨[],[]⟩ [] 20 251 [(peq (pc (pn r1 (pi 0)) 1) (pi 0))]
 (.ret (.mk [(pc (.setc o4 0 bQ) 0),(pc (.setc o4 0 bQ) 1)]))))
 (.next ⟨[],[]⟩)
 (.ret Cy)))
 (.iteS ⟨[],[]⟩ (.pick (peq r8 (pi 4)) (peq r8 (pi 4)) (peq r8 (pi 5))) [] [4]
 (.call ⟨[],[]⟩ [] 27 251 [(peq r0 (pi 5))]
 (.chk (ao r1 (pi 0))
 (.chk (.nt (.an (.an (.nt ZA) pT) (.nt (ao r1 (pi 1)))))
 (.ite (.pick ZA pT (.an (.cb .eql (pc nE 0) (pc yP 0)) (.an (peq (pc nE 1) (pc yP 1)) pT)))
 (.ret (.mk [(pc (.setc o4 0 yP) 0),(pc (.setc o4 0 yP) 1)]))
 (.next ⟨[],[]⟩)))))
 (.ite (peq r8 (pi 6))
 (.chk (ao r1 (pi 1))
 (.chk (.nt (.an (.an (pc nE 0) pT) (.nt (ao r1 (pi 1)))))
 (.chk (.nt (.an (.an (pc nE 0) pT) (.nt (ao r1 (pi 2)))))
 (.ite (.pick (pc nE 0) (.an (.cb .eql (pc nE 0) (pc (pn r1 (pi 2)) 0)) (.an (peq (pc nE 1) (pc (pn r1 (pi 2)) 1)) pT)) pF)
 (.ret (.mk [(pc (.setc o4 0 nE) 0),(pc (.setc o4 0 nE) 1)]))
 (.ret Cy)))))
 (.next ⟨[],[]⟩))
 (.next ⟨[],[]⟩))
 (.next ⟨[],[]⟩))
 (.chk (ao r1 (pi 0))
 (.chk (.nt (.an (.an (.nt (.nt (pc (pn r1 (pi 0)) 0))) pT) (.nt (ao r1 (pi 1)))))
 (.ite (.pick (.nt (pc (pn r1 (pi 0)) 0)) pT (.nt (pc nE 0)))
 (.ret Cy)
 (.chk (ao r1 (pi 1))
 (.blockS ⟨[(81,r0),(7,(pc nE 1)),(6,(pc (pn r1 (pi 0)) 1))],[]⟩ 1 [82,83,88,89,94,95] [4]
 (.iteS ⟨[],[]⟩ (.pick (peq vA (pi 4)) (peq vA (pi 4)) (peq vA (pi 5))) [88,89,94,95] [4]
 (.call ⟨[],[]⟩ [] 87 251 [(peq r0 (pi 4))]
 (.ret (.mk [(pc (.setc o4 0 Z0) 0),(pc (.setc o4 0 Z0) 1)])))
 (.iteS ⟨[],[]⟩ (peq vA (pi 7)) [94,95] [4]
 (.call ⟨[],[]⟩ [] 93 251 [(ah r6 r7)]
 (.ret (.mk [(pc (.setc o4 0 O6) 0),(pc (.setc o4 0 O6) 1)])))
 (.iteS ⟨[],[]⟩ (peq vA (pi 8)) [] [4]
 (.call ⟨[],[]⟩ [] 99 251 [(peq r6 r7)]
 (.ret (.mk [(pc (.setc o4 0 O7) 0),(pc (.setc o4 0 O7) 1)])))
 (.next ⟨[],[]⟩)
 (.next ⟨[],[]⟩))
 (.next ⟨[],[]⟩))
 (.next ⟨[],[]⟩))
 (.call ⟨[],[]⟩ [] 103 253 [r0,r6,r7]
 (.ret (.mk [(pc (.setc o4 0 (.mk [pT,ZP])) 0),(pc (.setc o4 0 (.mk [pT,ZP])) 1)])))))))))
theorem YM:Fj.map told=some (RY,[]):=by kernel_rfl
theorem ard:tree (ae Fj)=RY:=ba YM
def Fi:Option PC:=cF [6,8,14,20,25] [] Tryz.f253 253 []
def RW:PT:=
 (.blockS ⟨[(7,r0)],[]⟩ 0 [6,8,9,14,15,20,21,25,26] []
 (.iteS ⟨[],[]⟩ (peq r7 (pi 9)) [6,14,15,20,21,25,26] []
 (.call ⟨[],[]⟩ [] 13 252 [(aG r1 r2)]
 (.ret cK))
 (.iteS ⟨[],[]⟩ (peq r7 (pi 10)) [6,20,21,25,26] []
 (.call ⟨[],[]⟩ [] 19 252 [(bH r1 r2)]
 (.ret dK))
 (.iteS ⟨[],[]⟩ (peq r7 (pi 11)) [6,25,26] []
 (.call ⟨[],[]⟩ [] 24 269 [r1,r2]
 (.ret ja))
 (.ite (peq r7 (pi 12))
 (.ret (.mn r1 r2))
 (.next ⟨[],[]⟩))
 (.next ⟨[],[]⟩))
 (.next ⟨[],[]⟩))
 (.next ⟨[],[]⟩))
 (.ret (.mx r1 r2)))
theorem YL:Fi.map told=some (RW,[]):=by kernel_rfl
theorem arb:tree (ae Fi)=RW:=ba YL
def Fo:Option PC:=cF [4,5,6,7] [] Tryz.f269 269 []
def R2:PT:=
 (.call ⟨[],[]⟩ [] 19 134 [(.conv .u64 (.mx r0 (bH (pi 0) r0))),(.conv .u64 (.mx r1 (bH (pi 0) r1)))]
 (.ite (.cb .neq (ah r0 (pi 0)) (ah r1 (pi 0)))
 (.ret (bH (pi 0) Zt))
 (.ret Zt)))
theorem YQ:Fo.map told=some (R2,[]):=by kernel_rfl
theorem ark:tree (ae Fo)=R2:=ba YQ
def EA:Option PC:=cF [4,5,6,7,8,9,10,11,12,13] [] Tryz.f134 134 []
def Qx:PT:=
 (.chk (bZ yU (pi 0))
 (.ret (.tup [(.ai .add .u64 (.ai .add .u64 (.ai .mul .u64 (.ai .shr .u64 r0 yU) (.ai .shr .u64 r1 yU)) (.ai .shr .u64 Zr yU)) (.ai .shr .u64 (.ai .add .u64 (.ai .and .u64 Zr (.con (.v (.int .u64 4294967295)))) (.ai .mul .u64 (.ai .and .u64 r0 (.con (.v (.int .u64 4294967295)))) (.ai .shr .u64 r1 yU))) yU)),(.ai .mul .u64 r0 r1)])))
theorem XS:EA.map told=some (Qx,[]):=by kernel_rfl
theorem apF:tree (ae EA)=Qx:=ba XS
def xf:Option PC:=cF [2,3,5,8] [] Tryz.f228 228 [6]
def z8:Nat→PC:=br xf
def aln (b:Nat→PC):PC:=.block 0 [3,11,12] [] (.loop [3,11] [] (b 0))
def alo (b:Nat→PC):PC:=.block 2 [6,27,28] [6] (.loop [6,27] [6] (b 1))
def Ix (b:Nat→PC):PT:=
 (.ite sH
 (.chk (ao r9 bz)
 (.ite (ah (aG r3 (.llen (pn r9 bz))) (pi 0))
 (.chk (.nt pT)
 (.chk (.nt pT)
 (.next ⟨[(3,(aG r3 (.llen (pn r9 bz)))),(11,yY)],[]⟩)))
 (.next ⟨[(3,(aG r3 (.llen (pn r9 bz)))),(11,yY)],[]⟩)))
 (.exit 0 ⟨[(12,sH)],[]⟩))
def Iy (b:Nat→PC):PT:=
 (.ite (ah da gT)
 (.chk (ao jI da)
 (.chk (bB (.llen (.app o6 qT)) cl)
 (.next ⟨[(6,pN),(27,(aG da (pi 1)))],[(6,(.app o6 qT))]⟩)))
 (.exit 2 ⟨[(28,(ah da gT))],[]⟩))
def RC (b:Nat→PC):PT:=
 (.brk ⟨[(11,(pi 0)),(10,(.llen r0)),(9,r0),(3,(pi 0))],[]⟩
(aln b)
 (.call ⟨[],[]⟩ [] 24 254 [pL,r3]
 (.brk ⟨[(27,(pi 0)),(26,(.llen r0)),(25,r0),(6,pN)],[(6,ja)]⟩
(alo b)
 (.ret o6))))
def af9 (b:Nat→PC):PT×List (Shp×PT):=(RC b,[(.lp 0 [3,11,12] [] [3,11] [],Ix b),(.lp 2 [6,27,28] [6] [6,27] [6],Iy b)])
theorem Hv:xf.map told=some (af9 (bk xf)):=by kernel_rfl
theorem aqR:tree (ae xf)=RC z8:=bN Hv
theorem aap:round 0 [3,11,12] [] [3,11] [] (z8 0)=Ix z8:=be Hv 0 fun _=>rfl
theorem aaq:round 2 [6,27,28] [6] [6,27] [6] (z8 1)=Iy z8:=be Hv 1 fun _=>rfl
def Es:Option PC:=cF [2,3,7,12] [] Tryz.f35 35 [1]
def Qn:PT:=
 (.ite (aO (pc (.mk [r0]) 4) (pi 0))
 (.ret (pi 0))
 (.ite (.nt kJ)
 (.ret (pi 2))
 (.ite (aO qQ (pi 0))
 (.ret (pi 1))
 (.ret (pi 0)))))
theorem XK:Es.map told=some (Qn,[]):=by kernel_rfl
theorem apu:tree (ae Es)=Qn:=ba XK
def Ep:Option PC:=cF [8,9,10,11] [] Tryz.f31 31 [4,6]
def Ql:PT:=
 (.call ⟨[],[(6,(.mk [r2])),(4,(.mk [r0]))]⟩ [] 14 29 [(aC 19 (.mk [r2])),r3]
 (.ite (peq (.llen (pc (.setc o6 0 bD) 15)) (pi 0))
 (.ret (pi (-1)))
 (.call ⟨[],[(6,(.setc o6 0 bD))]⟩ [] 23 81 [(aC 8 o4),r1,(pi 6),(aC 19 (.setc o6 0 bD)),r3]
 (.call ⟨[],[]⟩ [] 24 32 [dE]
 (.call ⟨[(29,(aC 15 o6)),(27,(aC 8 o4)),(9,(.mx ja (pi 0)))],[]⟩ [] 31 83 [(aC 19 o6)]
 (.call ⟨[],[]⟩ [] 33 82 [da,mw,jJ,r9]
 (.ite (aO (.tget pj 1) (pi 0))
 (.ret (pi (-1)))
 (.ret (.tget pj 0)))))))))
theorem XI:Ep.map told=some (Ql,[]):=by kernel_rfl
theorem aps:tree (ae Ep)=Ql:=ba XI
def Er:Option PC:=cF [2] [] Tryz.f32 32 [1]
def Qm:PT:=
 (.ite (.pick (aO (pc (.mk [r0]) 4) (pi 0)) pT (.nt kJ))
 (.ret (pi (-1)))
 (.ret qQ))
theorem XJ:Er.map told=some (Qm,[]):=by kernel_rfl
theorem apt:tree (ae Er)=Qm:=ba XJ
def xd:Option PC:=cF [2,4] [] Tryz.f83 83 [1,3,6,8]
def zZ:Nat→PC:=br xd
def alk (b:Nat→PC):PC:=.block 0 [3,16,17] [3] (.loop [3,16] [3] (b 0))
def alm (b:Nat→PC):PC:=.block 2 [2,3,36,37] [3] (.loop [2,3,36] [3] (b 1))
def C9 (b:Nat→PC):PT:=
 (.ite (ah bx bG)
 (.chk (ao bD bx)
 (.ite (.pick (peq r4 (pi 1)) (peq (pc (.setc z9 0 ph) 0) (pi 1)) pF)
 (.chk (bB (.llen (.app o3 (.lst [(pc (.setc z9 0 ph) 6)]))) cl)
 (.next ⟨[(3,pN),(16,(aG bx (pi 1)))],[(3,(.app o3 (.lst [(pc (.setc z9 0 ph) 6)])))]⟩))
 (.next ⟨[(16,(aG bx (pi 1)))],[]⟩)))
 (.exit 0 ⟨[(17,(ah bx bG))],[]⟩))
def vD (b:Nat→PC):PT:=
 (.ite (ah iK vu)
 (.chk (ao ZW iK)
 (.ite (.pick (peq r4 (pi 0)) (peq (pc CC 0) (pi 2)) pF)
 (.ret (pc CC 6))
 (.ite (.pick (peq r4 (pi 1)) (peq (pc CC 0) (pi 1)) pF)
 (.chk (bB (.llen (.app o3 (.lst [(pc CC 6)]))) cl)
 (.next ⟨[(3,pN),(36,(aG iK (pi 1)))],[(3,(.app o3 (.lst [(pc CC 6)])))]⟩))
 (.next ⟨[(36,(aG iK (pi 1)))],[]⟩))))
 (.exit 2 ⟨[(37,(ah iK vu))],[]⟩))
def Ry (b:Nat→PC):PT:=
 (.brk ⟨[(16,(pi 0)),(15,(.llen mq)),(14,mq),(4,yW),(3,pN),(2,(pi 0))],[(3,pL),(1,(.mk [r0]))]⟩
(alk b)
 (.brk ⟨[(36,(pi 0)),(35,(.llen (pc o1 17))),(34,(pc o1 17))],[]⟩
(alm b)
 (.ite (peq (.llen o3) (pi 0))
 (.ret (pi (-1)))
 (.call ⟨[],[]⟩ [] 66 125 [o3]
 (.ret O2)))))
def af7 (b:Nat→PC):PT×List (Shp×PT):=(Ry b,[(.lp 0 [3,16,17] [3] [3,16] [3],C9 b),(.lp 2 [2,3,36,37] [3] [2,3,36] [3],vD b)])
theorem Ht:xd.map told=some (af7 (bk xd)):=by kernel_rfl
theorem aqM:tree (ae xd)=Ry zZ:=bN Ht
theorem PA:round 0 [3,16,17] [3] [3,16] [3] (zZ 0)=C9 zZ:=be Ht 0 fun _=>rfl
theorem Da:round 2 [2,3,36,37] [3] [2,3,36] [3] (zZ 1)=vD zZ:=be Ht 1 fun _=>rfl
def xm:Option PC:=cF [2,3,4] [] Tryz.f125 125 []
def Kh:Nat→PC:=br xm
def W6 (b:Nat→PC):PC:=.block 0 [3,4,12,13,14,15] [] (.loop [3,4] [] (b 0))
def Iz (b:Nat→PC):PT:=
 (.ite (ah r4 (.llen r0))
 (.chk (ao r0 r4)
 (.next ⟨[(3,(.mn r3 (pn r0 r4))),(4,(aG r4 (pi 1)))],[]⟩))
 (.exit 0 ⟨[(12,r4),(13,r0),(14,(.llen r0)),(15,(ah r4 (.llen r0)))],[]⟩))
def RM (b:Nat→PC):PT:=
 (.ite (ah (.llen r0) (pi 1))
 (.chk (.nt pT)
 (.chk (.nt pT)
 (.chk (ao r0 (pi 0))
 (.brk ⟨[(4,(pi 1)),(3,(pn r0 (pi 0)))],[]⟩
(W6 b)
 (.ret r3)))))
 (.chk (ao r0 (pi 0))
 (.brk ⟨[(4,(pi 1)),(3,(pn r0 (pi 0)))],[]⟩
(W6 b)
 (.ret r3))))
def agf (b:Nat→PC):PT×List (Shp×PT):=(RM b,[(.lp 0 [3,4,12,13,14,15] [] [3,4] [],Iz b)])
theorem N2:xm.map told=some (agf (bk xm)):=by kernel_rfl
theorem aq1:tree (ae xm)=RM Kh:=bN N2
theorem aar:round 0 [3,4,12,13,14,15] [] [3,4] [] (Kh 0)=Iz Kh:=be N2 0 fun _=>rfl
def Ak:Option PC:=cF [8,9,15,39,58,74,11,12] [] Tryz.f82 82 [4,5,10]
def RN:PT:=
 (.blockS ⟨[],[(10,(.setc z3 0 (.mk [(pc (.mk [r1]) 5),(pc (.mk [r1]) 6),(pc (.mk [r1]) 7)]))),(5,(.mk [r1])),(4,(.mk [r0]))]⟩ 0 [8,9,15,16,17,18,19,25,26,32,33,38,39,40,41,42,43,47,48,52,53,57,58,59,60,61,65,66,69,70,73,74,75,76,77,80] []
 (.call ⟨[],[]⟩ [] 17 14 [(aC 8 o4)]
 (.call ⟨[(19,(aO dk (pi 0)))],[]⟩ [(19,false)] 23 120 [(aC 8 o4),(pc o5 9)]
 (.call ⟨[(26,(.pick dK pT (.nt dE)))],[]⟩ [(26,false)] 30 120 [(aC 8 o4),(pc o5 10)]
 (.call ⟨[(33,(.pick gT pT (.nt qW)))],[]⟩ [(33,false)] 36 121 [(pc o5 8)]
 (.iteS ⟨[],[]⟩ (.pick pj pT (.nt iK)) [8,9,39,40,41,42,43,47,48,52,53,57,58,59,60,61,65,66,69,70,73,74,75,76,77,80] []
 (.ret (.tup [(pi 0),(pi 1)]))
 (.iteS ⟨[],[]⟩ (.pick (.pick (.pick (ah (pc bV 0) (pi 0)) pT (bZ (pc bV 0) (pi 5))) pT (ah (pc bV 2) (pi 0))) pT (bZ (pc bV 2) (pi 2))) [8,9,58,59,60,61,65,66,69,70,73,74,75,76,77,80] []
 (.ret (.tup [(pi 0),(pi 1)]))
 (.call ⟨[(61,(aO r2 (pi (-1))))],[]⟩ [(61,true)] 63 121 [r2]
 (.iteS ⟨[],[]⟩ (.pick (.pick (.pick HX (.nt HY) pF) pT (ah r3 (pi 0))) pT (bj r3 (pi 20000))) [8,9,74,75,76,77,80] []
 (.ret (.tup [(pi 0),(pi 1)]))
 (.call ⟨[],[]⟩ [] 76 122 [(.mk [(pc bV 0),(pc bV 1),(pc bV 2)])]
 (.ite (.pick qZ (peq r2 (pi (-1))) pF)
 (.ret (.tup [(pi 0),(pi 4)]))
 (.next ⟨[],[]⟩)))
 (.next ⟨[],[]⟩)))
 (.next ⟨[],[]⟩))
 (.next ⟨[],[]⟩))))))
 (.call ⟨[],[]⟩ [] 85 123 [(aC 8 o4),(aC 15 o5),r2]
 (.ite (aO (.tget y3 1) (pi 0))
 (.ret (.tup [(pi 0),(.tget y3 1)]))
 (.call ⟨[(11,(.tget y3 0))],[]⟩ [] 92 121 [(.tget y3 0)]
 (.ite (.pick (.nt H5) pT (bj (aG bz r3) (pi 100000)))
 (.ret (.tup [(pi 0),(pi 3)]))
 (.call ⟨[],[]⟩ [] 106 124 [(aC 8 o4),(pc o5 10),(aG bz r3)]
 (.ret (.tup [(.tget OW 0),(.tget OW 1)]))))))))
theorem YB:Ak.map told=some (RN,[]):=by kernel_rfl
theorem aq2:tree (ae Ak)=RN:=ba YB
def Fc:Option PC:=cF [4] [] Tryz.f120 120 [2]
def RP:PT:=
 (.ret (.pick (bZ r1 (pi 0)) (ah r1 (.llen qQ)) pF))
theorem YG:Fc.map told=some (RP,[]):=by kernel_rfl
theorem aq4:tree (ae Fc)=RP:=ba YG
def Fe:Option PC:=cF [2] [] Tryz.f121 121 []
def RQ:PT:=
 (.ret (.pick (bZ r0 (pi 0)) (bB r0 (pi 100000)) pF))
theorem YH:Fe.map told=some (RQ,[]):=by kernel_rfl
theorem aq5:tree (ae Fe)=RQ:=ba YH
def Fb:Option PC:=cF [2] [] Tryz.f122 122 [1]
def RO:PT:=
 (.ret (.pick (peq kJ (pi 0)) pT (peq kJ (pi 1))))
theorem YC:Fb.map told=some (RO,[]):=by kernel_rfl
theorem aq3:tree (ae Fb)=RO:=ba YC
def Am:Option PC:=cF [6,7,13,16,24,33,8,9] [] Tryz.f123 123 [3,4]
def vP:PT:=
 (.blockS ⟨[(12,(pc (.mk [r1]) 5))],[(4,(.mk [r1])),(3,(.mk [r0]))]⟩ 0 [6,7,13,14,16,17,24,25,33,34] []
 (.iteS ⟨[],[]⟩ (peq bS (pi 0)) [6,7,16,17,24,25,33,34] []
 (.ret (.tup [r2,(pi 0)]))
 (.iteS ⟨[],[]⟩ (peq bS (pi 1)) [6,7,24,25,33,34] []
 (.call ⟨[],[]⟩ [] 21 180 [r2,(.mk [(pc o4 5),(pc o4 6),(pc o4 7)])]
 (.ret (.tup [(.tget fi 0),(.tget fi 1)])))
 (.iteS ⟨[],[]⟩ (peq bS (pi 2)) [6,7,33,34] []
 (.call ⟨[],[]⟩ [] 30 180 [(pc o4 8),(.mk [(pc o4 5),(pc o4 6),(pc o4 7)])]
 (.ret (.tup [(.tget qW 0),(.tget qW 1)])))
 (.iteS ⟨[],[]⟩ (peq bS (pi 4)) [6,7] []
 (.call ⟨[],[]⟩ [] 41 106 [(aC 8 o3),(pc o4 9),(pc o4 10)]
 (.ret (.tup [(aG (pc o4 8) (.tget pk 0)),(.tget pk 1)])))
 (.next ⟨[],[]⟩)
 (.next ⟨[],[]⟩))
 (.next ⟨[],[]⟩))
 (.next ⟨[],[]⟩))
 (.next ⟨[],[]⟩))
 (.ret (.tup [(pc o4 6),(pi 0)])))
theorem YE:Am.map told=some (vP,[]):=by kernel_rfl
theorem DH:tree (ae Am)=vP:=ba YE
def Al:Option PC:=cF [4,5] [] Tryz.f180 180 [3]
def zo:PT:=
 (.ite (.pick (ah (pc (.mk [r1]) 1) (pi 0)) pT (bj (pc (.mk [r1]) 1) (pi 20000)))
 (.ret (.tup [(pi 0),(pi 3)]))
 (.iteS ⟨[],[(3,(.mk [r1]))]⟩ (peq (pc (.mk [r1]) 2) (pi 1)) [4,5] []
 (.call ⟨[],[]⟩ [] 20 214 [r0,(pc o3 1)]
 (.ret (.tup [(.tget bQ 0),(.tget bQ 1)])))
 (.next ⟨[],[]⟩)
 (.ret (.tup [(aG r0 (pc o3 1)),(pi 0)]))))
theorem YD:Al.map told=some (zo,[]):=by kernel_rfl
theorem Je:tree (ae Al)=zo:=ba YD
def Ag:Option PC:=cF [4,5,6,7,8,9] [] Tryz.f214 214 []
def I8:PT:=
 (.call ⟨[],[]⟩ [] 11 215 [r0]
 (.ite (.pick (.pick (.nt bz) pT (ah r1 (pi (-5000)))) pT (bj r1 (pi 5000)))
 (.ret (.tup [(pi 0),(pi 3)]))
 (.call ⟨[],[]⟩ [] 23 241 [r0]
 (.chk (aO (pi 12) (pi 0))
 (.call ⟨[(41,(.tget dE 2)),(40,(aG (.ai .rem .i64 HP (pi 12)) (pi 1))),(39,(.ai .quo .i64 HP (pi 12)))],[]⟩ [] 44 243 [(.ai .quo .i64 HP (pi 12)),(aG (.ai .rem .i64 HP (pi 12)) (pi 1))]
 (.call ⟨[],[]⟩ [] 46 242 [qX,qY,(.mn pk vw)]
 (.ret (.tup [(.tget CE 0),(.tget CE 1)]))))))))
theorem XT:Ag.map told=some (I8,[]):=by kernel_rfl
theorem aba:tree (ae Ag)=I8:=ba XT
def EF:Option PC:=cF [2] [] Tryz.f215 215 []
def QD:PT:=
 (.ret (.pick (bB (pi 0) r0) (bB r0 (pi 100000)) pF))
theorem X0:EF.map told=some (QD,[]):=by kernel_rfl
theorem apM:tree (ae EF)=QD:=ba X0
def EB:Option PC:=cF [2,3,4,5,6,7,8,9] [] Tryz.f241 241 []
def Qz:PT:=
 (.chk (aO (pi 146097) (pi 0))
 (.chk (aO (pi 1460) (pi 0))
 (.chk (aO (pi 36524) (pi 0))
 (.chk (aO (pi 146096) (pi 0))
 (.chk (aO (pi 365) (pi 0))
 (.chk (aO (pi 4) (pi 0))
 (.chk (aO (pi 100) (pi 0))
 (.chk (aO (pi 153) (pi 0))
 (.chk (aO (pi 5) (pi 0))
 (.ret (.tup [(.pick (ah ZD (pi 3)) (aG ZG (pi 1)) ZG),ZD,(aG (bH (bH (.ai .rem .i64 (aG r0 (pi 730425)) (pi 146097)) (bH (aG (.ai .mul .i64 (pi 365) vj) (.ai .quo .i64 vj (pi 4))) (.ai .quo .i64 vj (pi 100)))) (.ai .quo .i64 (aG (.ai .mul .i64 (pi 153) HQ) (pi 2)) (pi 5))) (pi 1))])))))))))))
theorem XV:EB.map told=some (Qz,[]):=by kernel_rfl
theorem apH:tree (ae EB)=Qz:=ba XV
def ED:Option PC:=cF [4] [] Tryz.f243 243 []
def Ja:PT:=
 (.ite (peq r1 (pi 12))
 (.ret (pi 31))
 (.call ⟨[],[]⟩ [] 10 268 [r0,(aG r1 (pi 1)),(pi 1)]
 (.call ⟨[],[]⟩ [] 13 268 [r0,r1,(pi 1)]
 (.ret (bH bC cK)))))
theorem XX:ED.map told=some (Ja,[]):=by kernel_rfl
theorem apK:tree (ae ED)=Ja:=ba XX
def Ai:Option PC:=cF [6,0,1] [] Tryz.f268 268 []
def Jb:PT:=
 (.chk (aO (pi 4) (pi 0))
 (.chk (aO (pi 100) (pi 0))
 (.chk (aO (pi 400) (pi 0))
 (.chk (aO (pi 5) (pi 0))
 (.ret (bH (bH (aG (aG (aG (bH (aG (.ai .mul .i64 (pi 365) HS) (.ai .quo .i64 HS (pi 4))) (.ai .quo .i64 HS (pi 100))) (.ai .quo .i64 HS (pi 400))) (.ai .quo .i64 (aG (.ai .mul .i64 (pi 153) (bH (.pick (ah r1 (pi 3)) (aG r1 (pi 12)) r1) (pi 3))) (pi 2)) (pi 5))) r2) (pi 1)) (pi 730425)))))))
theorem XY:Ai.map told=some (Jb,[]):=by kernel_rfl
theorem abb:tree (ae Ai)=Jb:=ba XY
def Ah:Option PC:=cF [6,7,8] [] Tryz.f242 242 []
def zn:PT:=
 (.call ⟨[(28,r2),(27,(.pick (.pick (.pick (.pick (ah r0 (pi 2000)) pT (bj r0 (pi 2300))) pT (ah r1 (pi 1))) pT (bj r1 (pi 12))) pT (ah r2 (pi 1))))],[]⟩ [(27,false)] 31 243 [r0,r1]
 (.ite (.pick da pT (bj nH jJ))
 (.ret (.tup [(pi 0),(pi 3)]))
 (.call ⟨[],[]⟩ [] 37 268 [r0,r1,r2]
 (.call ⟨[(8,my)],[]⟩ [] 39 215 [my]
 (.ite (.nt qX)
 (.ret (.tup [(pi 0),(pi 3)]))
 (.ret (.tup [r8,(pi 0)])))))))
theorem XU:Ah.map told=some (zn,[]):=by kernel_rfl
theorem I9:tree (ae Ah)=zn:=ba XU
def xn:Option PC:=cF [6,7,8,2,9,10] [] Tryz.f124 124 [3]
def Ki:Nat→PC:=br xn
def alv (b:Nat→PC):PC:=.block 0 [] [] (.loop [2,6,7] [] (b 0))
def PL (b:Nat→PC):PT:=
 (.blockS ⟨[],[]⟩ 1 [2,6,7,9,10,14,15,16,17,18,19,20,21,22,23,24,25,26,27,28,29,30,31,32,34] []
 (.call ⟨[],[]⟩ [] 17 182 [(aC 8 o3),r8,r2]
 (.chk (ao (pc o3 1) r1)
 (.call ⟨[(2,dk)],[]⟩ [] 25 183 [(pn (pc o3 1) r1),dk]
 (.ite (aO (.tget jI 1) (pi 0))
 (.ret (.tup [(pi 0),(pi 3)]))
 (.ite (peq (.tget jI 0) r2)
 (.ret (.tup [r2,(pi 0)]))
 (.next ⟨[(2,(.tget jI 0))],[]⟩))))))
 (.next ⟨[],[]⟩))
def RR (b:Nat→PC):PT:=
 (.call ⟨[(7,(pi 0)),(6,(pi 0))],[(3,(.mk [r0]))]⟩ [] 13 181 [kI,r1]
 (.brk ⟨[(8,cK)],[]⟩
(alv b)
 (.next ⟨[],[]⟩)))
def agh (b:Nat→PC):PT×List (Shp×PT):=(RR b,[(.lp 0 [] [] [2,6,7] [],PL b)])
theorem N3:xn.map told=some (agh (bk xn)):=by kernel_rfl
theorem aq6:tree (ae xn)=RR Ki:=bN N3
theorem an6:round 0 [] [] [2,6,7] [] (Ki 0)=PL Ki:=be N3 0 fun _=>rfl
end Rm
