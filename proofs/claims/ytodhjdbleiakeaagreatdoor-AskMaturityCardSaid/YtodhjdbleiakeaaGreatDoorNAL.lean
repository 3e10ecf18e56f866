/-
  The functions of this seat, compiled (1).
-/
import Derived.Test.YtodhjdbleiakeaaGreatDoorNAK
import Derived.KernelRfl
set_option linter.unusedVariables false
set_option maxRecDepth 100000
namespace Rm
open Go Go.Proofs Cx
noncomputable def Gz:Option PC:=aD {ctx with fr:=[12,13,15,16,17,18],nh:=[]} Tryz.f10 ((ab af 10).getD default) [6,9,14,77838]
noncomputable def JP:PC:=az Gz
def Vc:PT:=
 (.call ⟨[],[(9,(.mk [r3])),(6,(.mk [r0]))]⟩ [] 19 26 []
 (.call ⟨[(13,gr)],[]⟩ [] 22 27 [(aC 8 o6),(aC 19 o9)]
 (.call ⟨[(24,(.nt zx))],[]⟩ [(24,false)] 27 42 [(aC 8 o6),(aC 19 o9)]
 (.ite (.pick nU pT (ba eK (pi 0)))
 (.ret dL)
 (.call ⟨[],[(77838,pL),(14,(.setc (.setc D1 0 (aC 19 o9)) 18 pL))]⟩ [] 37 41 [(aC 8 o6),r1,(aC 19 o9),r4]
 (.call ⟨[(38,kH),(15,kH)],[]⟩ [] 43 41 [(aC 8 o6),r1,age,r4]
 (.call ⟨[(45,(ba iv qL))],[]⟩ [(45,false)] 51 50 [(aC 8 o6),r1,r2,(aC 19 o9),r4]
 (.call ⟨[],[]⟩ [(45,false)] 57 50 [(aC 8 o6),r1,r2,age,r4]
 (.call ⟨[],[]⟩ [(45,false)] 58 49 [lf,Ef]
 (.ite (.pick py pT (.nt zz))
 (.ret pF)
 (.ite (aq gg (pi (-1)))
 (.ret dL)
 (.ite (.pick (.pick (aj gg (pc o9 8)) pT (aj r4 (pc o9 8))) pT (bh gg (pi 100000)))
 (.ret pF)
 (.chk (av (pc o6 1) (pc o9 10))
 (.call ⟨[],[]⟩ [] 89 51 [(pn (pc o6 1) (pc o9 10)),gg]
 (.ite (.pick (ba (.tget Tp 1) (pi 0)) pT (.nt (.tget Tp 0)))
 (.ret pF)
 (.call ⟨[(102,dL)],[]⟩ [(102,true)] 107 41 [(aC 8 o6),r1,(aC 19 o9),(.mx r4 r5)]
 (.ret (.pick Tf (aq aAj gg) pF))))))))))))))))))
def aqA (b:Nat→PC):PT×List (Shp×PT):=(Vc,[])
theorem aeN:Gz.map told=some (aqA (ay Gz)):=by kernel_rfl
theorem aCl:tree JP=Vc:=aN aeN
theorem amG:Gz=some JP:=aF aeN
noncomputable def GF:Option PC:=aD {ctx with fr:=[0,7,8,9],nh:=[]} Tryz.f26 ((ab af 26).getD default) [1,2,3,4,5,6,73]
noncomputable def JU:PC:=az GF
def Vh:PT:=
 (.call ⟨[],[]⟩ [] 10 79 []
 (.call ⟨[(11,(aC 8 agk))],[(1,agk)]⟩ [] 12 81 [(pi 0)]
 (.call ⟨[],[]⟩ [] 13 80 [bY]
 (.call ⟨[],[]⟩ [] 14 28 [bD,(pi 0),(pi 2),dL]
 (.call ⟨[(15,(aC 8 o1))],[(2,(.setc se 0 dv))]⟩ [] 16 81 [(pi 0)]
 (.call ⟨[],[]⟩ [] 17 80 [dM]
 (.call ⟨[],[]⟩ [] 18 28 [gg,(pi 1),(pi 2),kF]
 (.call ⟨[(19,(aC 8 o1))],[(3,(.setc se 0 gT))]⟩ [] 20 81 [(pi 1)]
 (.call ⟨[],[]⟩ [] 21 80 [ed]
 (.call ⟨[],[]⟩ [] 22 28 [gr,(pi 1),(pi 2),lV]
 (.call ⟨[(23,(aC 8 o1))],[(4,(.setc se 0 zx))]⟩ [] 24 81 [(pi 0)]
 (.call ⟨[],[]⟩ [] 25 80 [nU]
 (.call ⟨[],[]⟩ [] 26 28 [jy,(pi 0),(pi 0),iZ]
 (.call ⟨[],[(6,wy),(5,(.setc se 0 ld))]⟩ [] 32 49 [(aC 5 o2),(.mk [(.mk [(pc wy 0),(pc wy 1)]),(pi 0),(.lst [(pi 0)]),(pi 0)])]
 (.call ⟨[(33,Ed)],[]⟩ [(33,true)] 38 49 [(aC 5 o3),(.mk [(.mk [(pc o6 0),(pc o6 1)]),(pi 0),(.lst [(pi 1),(pi 0)]),(pi 0)])]
 (.call ⟨[(40,(.pick sm iv pF))],[]⟩ [(40,true)] 44 49 [(aC 5 o4),(.mk [fD,(pi 1),(.lst [(pi 1)]),(pi 0)])]
 (.call ⟨[(49,(aq (pc o5 4) (pi 4))),(7,(.pick nW ua pF))],[]⟩ [(49,true)] 51 46 [(aC 5 o5)]
 (.call ⟨[(54,(.pick mU (aq lf (pi 0)) pF))],[]⟩ [(54,true)] 56 48 [(aC 5 o5)]
 (.call ⟨[(59,(.pick pz (aq nX (pi (-1))) pF))],[]⟩ [(59,true)] 61 46 [(aC 5 o2)]
 (.call ⟨[(64,(.pick Tl (aq wH (pi 1)) pF))],[]⟩ [(64,true)] 66 46 [(aC 5 o4)]
 (.call ⟨[(69,(aC 8 o1)),(8,(.pick kI (aq LX (pi 2)) pF))],[]⟩ [] 70 81 [(pi 1)]
 (.call ⟨[],[]⟩ [] 71 80 [Tn]
 (.call ⟨[],[]⟩ [] 72 82 [sq,(pi 1),(pi 2),r71]
 (.call ⟨[],[]⟩ [] 74 34 [ud,(.lst [(pi 17)])]
 (.call ⟨[(76,(aC 8 o1)),(75,Ei)],[]⟩ [(75,true)] 77 81 [(pi 0)]
 (.call ⟨[],[]⟩ [(75,true)] 78 80 [LY]
 (.call ⟨[],[]⟩ [(75,true)] 79 29 [pA,(pi 1),To]
 (.call ⟨[],[]⟩ [(75,true)] 81 34 [r79,(.lst [(pi 1),(pi 0),(pi 1),(pi 0),(pi 0)])]
 (.call ⟨[(91,(aC 8 o1)),(90,(.pick (.pick r7 r8 pF) (.pick zB sr pF) pF))],[]⟩ [(90,true)] 92 81 [(pi 0)]
 (.call ⟨[],[]⟩ [(90,true)] 93 41 [r91,(pi 0),zD,(pi 5)]
 (.call ⟨[(97,(aC 8 o1)),(96,(.pick Tq (aq zE (pi 10)) pF))],[]⟩ [(96,true)] 98 81 [(pi 0)]
 (.call ⟨[],[]⟩ [(96,true)] 99 41 [r97,(pi 1),Ts,(pi 5)]
 (.call ⟨[(103,(aC 8 o1)),(102,(.pick Tr (aq qM (pi 13)) pF))],[]⟩ [(102,true)] 104 81 [(pi 0)]
 (.call ⟨[],[]⟩ [(102,true)] 105 41 [LS,(pi 0),Tg,(pi 1)]
 (.ret (.pick Tf (aq agx (pi (-1))) pF))))))))))))))))))))))))))))))))))))
def aqF (b:Nat→PC):PT×List (Shp×PT):=(Vh,[])
theorem aeS:GF.map told=some (aqF (ay GF)):=by kernel_rfl
theorem aCr:tree JU=Vh:=aN aeS
theorem amL:GF=some JU:=aF aeS
noncomputable def GD:Option PC:=aD {ctx with fr:=[5],nh:=[]} Tryz.f79 ((ab af 79).getD default) [0,24576,28672,32768,1,12289,2,3,12291,4]
noncomputable def JT:PC:=az GD
def Vg:PT:=
 (.ret (.mk [(pc D2 0),(pc D2 1),(pc D2 2),(pc D2 3),(pc D2 4),pL,pL,pL]))
def aqE (b:Nat→PC):PT×List (Shp×PT):=(Vg,[])
theorem aeR:GD.map told=some (aqE (ay GD)):=by kernel_rfl
theorem aCp:tree JT=Vg:=aN aeR
theorem amK:GD=some JT:=aF aeR
noncomputable def GC:Option PC:=aD {ctx with fr:=[],nh:=[]} Tryz.f81 ((ab af 81).getD default) [2,69634,73730,3,4]
noncomputable def JS:PC:=az GC
def Vf:PT:=
 (.ret (.mk [(pc jZ 0),(pc jZ 1),(pc jZ 2),(pc jZ 3),(pc jZ 4),(pc jZ 5),(pc jZ 6),(pc jZ 7),(pc jZ 8),(pc jZ 9),(pc jZ 10),(pc jZ 11),(pc jZ 12),(pc jZ 13),(pc jZ 14),(pc jZ 15),pL,pL,(pc jZ 18)]))
def aqD (b:Nat→PC):PT×List (Shp×PT):=(Vf,[])
theorem aeQ:GC.map told=some (aqD (ay GC)):=by kernel_rfl
theorem aCo:tree JS=Vf:=aN aeQ
theorem amJ:GC=some JS:=aF aeQ
noncomputable def GA:Option PC:=aD {ctx with fr:=[],nh:=[]} Tryz.f80 ((ab af 80).getD default) [1,2]
noncomputable def JQ:PC:=az GA
def Vd:PT:=
 (.ret (aC 24 (.setc agd 0 (.mk [(aC 19 (.mk [r0])),(pi 0),(pi (-1)),(pi (-1)),(pi (-1)),(pi 5)]))))
def aqB (b:Nat→PC):PT×List (Shp×PT):=(Vd,[])
theorem aeO:GA.map told=some (aqB (ay GA)):=by kernel_rfl
theorem aCm:tree JQ=Vd:=aN aeO
theorem amH:GA=some JQ:=aF aeO
noncomputable def F6:Option PC:=aD {ctx with fr:=[10],nh:=[]} Tryz.f28 ((ab af 28).getD default) [4,7,8,9]
noncomputable def Jo:PC:=az F6
def UL:PT:=
 (.call ⟨[],[(8,se),(4,(.mk [r0]))]⟩ [] 16 83 [kD,r1,r2,(aC 24 (.mk [r3]))]
 (.iteS ⟨[(10,(.tget dM 1))],[(9,D5)]⟩ (ba (pc D5 2) (pi (-1))) [] [9]
 (.chk (av (pc o4 4) (pc o9 2))
 (.call ⟨[],[]⟩ [] 31 35 [(pn (pc o4 4) (pc o9 2)),r2,cT]
 (.next ⟨[],[(9,(.setc (.setc o9 0 (.tget qJ 0)) 4 (.tget qJ 1)))]⟩)))
 (.next ⟨[],[]⟩)
 (.ret (aC 5 (.setc o8 0 (aC 5 o9))))))
def ap2 (b:Nat→PC):PT×List (Shp×PT):=(UL,[])
theorem aeo:F6.map told=some (ap2 (ay F6)):=by kernel_rfl
theorem aBQ:tree Jo=UL:=aN aeo
theorem ama:F6=some Jo:=aF aeo
noncomputable def Gd:Option PC:=aD {ctx with fr:=[9,11,12,13,14],nh:=[]} Tryz.f83 ((ab af 83).getD default) [4,7,8,10,16394]
noncomputable def Jv:PC:=az Gd
def US:PT:=
 (.call ⟨[],[(16394,pL),(10,(.setc se 0 (.mk [fD,(pi (-1)),pL,(pi 1)]))),(8,se),(7,(.mk [r3])),(4,(.mk [r0]))]⟩ [] 19 84 [kD,(aC 24 (.mk [r3]))]
 (.ite (aq (.llen (.tget gr 1)) (pi 0))
 (.ret (.tup [S6,pL]))
 (.call ⟨[(11,(.tget gr 1))],[(7,(.setc o7 0 (.tget gr 0)))]⟩ [] 28 97 [r2]
 (.ite (.nt (.tget qI 1))
 (.ret (.tup [S6,pL]))
 (.call ⟨[],[]⟩ [] 37 85 [(aC 8 o4),r1,(aC 24 o7)]
 (.ite (aq (.llen kH) (pi 0))
 (.ret (.tup [S6,pL]))
 (.call ⟨[],[]⟩ [] 46 33 [(aC 8 o4),r1,r2,kH]
 (.ite (aq (pc wv 4) (pi 0))
 (.chk (av (pc wv 3) (bC (.llen (pc wv 3)) (pi 1)))
 (.ret (.tup [(aC 5 (.setc o8 0 (aC 5 (.setc wv 2 (pn (pc wv 3) (bC (.llen (pc wv 3)) (pi 1))))))),bD])))
 (.ret (.tup [(aC 5 (.setc o8 0 (aC 5 wv))),bD]))))))))))
def ap9 (b:Nat→PC):PT×List (Shp×PT):=(US,[])
theorem aev:Gd.map told=some (ap9 (ay Gd)):=by kernel_rfl
theorem aBX:tree Jv=US:=aN aev
theorem amh:Gd=some Jv:=aF aev
noncomputable def Ge:Option PC:=aD {ctx with fr:=[5],nh:=[]} Tryz.f84 ((ab af 84).getD default) [2,3,4]
noncomputable def Jw:PC:=az Ge
def UT:PT:=
 (.call ⟨[],[(4,agd),(3,(.mk [r1])),(2,(.mk [r0]))]⟩ [] 10 30 [(aC 19 (.mk [r1])),(pc (.mk [r1]) 23)]
 (.call ⟨[(12,(aC 24 (.setc o3 0 cT)))],[]⟩ [] 15 31 [(aC 8 o2),(aC 24 (.setc o3 0 cT))]
 (.ret (.tup [(aC 24 (.setc o4 0 bY)),gg]))))
def aqa (b:Nat→PC):PT×List (Shp×PT):=(UT,[])
theorem aew:Ge.map told=some (aqa (ay Ge)):=by kernel_rfl
theorem aBY:tree Jw=UT:=aN aew
theorem ami:Ge=some Jw:=aF aew
noncomputable def BB:Option PC:=aD {ctx with fr:=[],nh:=[]} Tryz.f30 ((ab af 30).getD default) [2,4,5,65541,69637,73733,77829,7,31,9,49,11,13]
noncomputable def KN:PC:=az BB
noncomputable def rk:Nat→PC:=bG BB
def awW (b:Nat→PC):PC:=.block 0 [20,21] [65541,5] (.loop [20] [65541,5] (b 0))
def awX (b:Nat→PC):PC:=.block 2 [38,39] [73733,5] (.loop [38] [73733,5] (b 1))
def awY (b:Nat→PC):PC:=.block 4 [56,57] [5,69637] (.loop [56] [5,69637] (b 2))
def awZ (b:Nat→PC):PC:=.block 6 [76,77] [5,77829] (.loop [76] [5,77829] (b 3))
def EO (b:Nat→PC):PT:=
 (.ite (aj ed gr)
 (.chk (av gT ed)
 (.ite (bh (pc (.setc z9 0 (pn gT ed)) 6) r1)
 (.exit 0 ⟨[(21,(aj ed gr))],[]⟩)
 (.chk (bV (.llen (.app (.o 65541) (.lst [(aC 9 (.setc z9 0 (pn gT ed)))]))) cW)
 (.next ⟨[(20,(aP ed (pi 1)))],[(65541,(.app (.o 65541) (.lst [(aC 9 (.setc z9 0 (pn gT ed)))]))),(5,(.setc o5 15 pN))]⟩))))
 (.exit 0 ⟨[(21,(aj ed gr))],[]⟩))
def EP (b:Nat→PC):PT:=
 (.ite (aj iv kH)
 (.chk (av kG iv)
 (.ite (bh (pc (.setc z9 0 (pn kG iv)) 6) r1)
 (.exit 2 ⟨[(39,(aj iv kH))],[]⟩)
 (.chk (bV (.llen (.app (.o 73733) (.lst [(aC 9 (.setc z9 0 (pn kG iv)))]))) cW)
 (.next ⟨[(38,(aP iv (pi 1)))],[(73733,(.app (.o 73733) (.lst [(aC 9 (.setc z9 0 (pn kG iv)))]))),(5,(.setc o5 17 pN))]⟩))))
 (.exit 2 ⟨[(39,(aj iv kH))],[]⟩))
def ER (b:Nat→PC):PT:=
 (.ite (aj nX zy)
 (.chk (av pz nX)
 (.ite (bV (pc (.setc z2 0 (pn pz nX)) 0) (.llen (.o 65541)))
 (.chk (bV (.llen agq) cW)
 (.next ⟨[(56,(aP nX (pi 1)))],[(5,(.setc o5 16 pN)),(69637,agq)]⟩))
 (.next ⟨[(56,(aP nX (pi 1)))],[]⟩)))
 (.exit 4 ⟨[(57,(aj nX zy))],[]⟩))
def ES (b:Nat→PC):PT:=
 (.ite (aj pA zB)
 (.blockS ⟨[],[]⟩ 7 [13,78,79,80,81,82,83,84,85] [13,77829,5]
 (.chk (av Ei pA)
 (.call ⟨[],[(13,(.setc z3 0 (pn Ei pA)))]⟩ [] 85 86 [(pc (.setc z3 0 (pn Ei pA)) 1),(.llen (.o 65541))]
 (.ite zC
 (.chk (bV (.llen agb) cW)
 (.next ⟨[],[(77829,agb),(5,(.setc o5 18 pN))]⟩))
 (.next ⟨[],[]⟩))))
 (.next ⟨[(76,(aP pA (pi 1)))],[]⟩))
 (.exit 6 ⟨[(77,(aj pA zB))],[]⟩))
def V5 (b:Nat→PC):PT:=
 (.brk ⟨[(20,(pi 0)),(19,(.llen qC)),(18,qC)],[(77829,pL),(73733,pL),(69637,pL),(65541,pL),(5,(.setc D1 0 (.mk [(aC 15 (.mk [r0])),pL,pL,pL,pL]))),(4,D1),(2,(.mk [r0]))]⟩
(awW b)
 (.brk ⟨[(38,(pi 0)),(37,(.llen (pc o2 17))),(36,(pc o2 17))],[]⟩
(awX b)
 (.brk ⟨[(56,(pi 0)),(55,(.llen (pc o2 16))),(54,(pc o2 16))],[]⟩
(awY b)
 (.brk ⟨[(76,(pi 0)),(75,(.llen (pc o2 18))),(74,(pc o2 18))],[]⟩
(awZ b)
 (.ret (aC 19 (.setc o4 0 (.mk [(pc o5 0),(pc o5 1),(pc o5 2),(pc o5 3),(pc o5 4),(pc o5 5),(pc o5 6),(pc o5 7),(pc o5 8),(pc o5 9),(pc o5 10),(pc o5 11),(pc o5 12),(pc o5 13),(pc o5 14),(.o 65541),(.o 69637),(.o 73733),(.o 77829)]))))))))
def arB (b:Nat→PC):PT×List (Shp×PT):=(V5 b,[(.lp 0 [20,21] [65541,5] [20] [65541,5],EO b),(.lp 2 [38,39] [73733,5] [38] [73733,5],EP b),(.lp 4 [56,57] [5,69637] [56] [5,69637],ER b),(.lp 6 [76,77] [5,77829] [76] [5,77829],ES b)])
theorem yV:BB.map told=some (arB (ay BB)):=by kernel_rfl
theorem aDh:tree KN=V5 rk:=aN yV
theorem T2:round 0 [20,21] [65541,5] [20] [65541,5] (rk 0)=EO rk:=bx yV 0 fun _=>rfl
theorem T3:round 2 [38,39] [73733,5] [38] [73733,5] (rk 1)=EP rk:=bx yV 1 fun _=>rfl
theorem T4:round 4 [56,57] [5,69637] [56] [5,69637] (rk 2)=ER rk:=bx yV 2 fun _=>rfl
theorem T5:round 6 [76,77] [5,77829] [76] [5,77829] (rk 3)=ES rk:=bx yV 3 fun _=>rfl
theorem anB:BB=some KN:=aF yV
noncomputable def G2:Option PC:=aD {ctx with fr:=[4],nh:=[]} Tryz.f86 ((ab af 86).getD default) []
noncomputable def KT:PC:=az G2
def Wa:PT:=
 (.ret Td)
def arH (b:Nat→PC):PT×List (Shp×PT):=(Wa,[])
theorem afh:G2.map told=some (arH (ay G2)):=by kernel_rfl
theorem aDn:tree KT=Wa:=aN afh
theorem anH:G2=some KT:=aF afh
noncomputable def BE:Option PC:=aD {ctx with fr:=[4,7,9,11,12,13,14,15,16],nh:=[]} Tryz.f31 ((ab af 31).getD default) [2,3,5,6,8,10,90,139]
noncomputable def KQ:PC:=az BE
noncomputable def AO:Nat→PC:=bG BE
def ayb (b:Nat→PC):PC:=.meach 90 [94,95,11,12] [0,1,0,1] [10] (b 0)
def ayc (b:Nat→PC):PC:=.meach 139 [143,144,15,16] [0,1,0,1] [10] (b 1)
def T8 (b:Nat→PC):PT:=
 (.chk (av ct bD)
 (.next ⟨[],[(10,(.setn ct bD 0 (.mk [pT,bY])))]⟩))
def T9 (b:Nat→PC):PT:=
 (.blockS ⟨[],[]⟩ 3 [145,146,147,148,149] [10]
 (.call ⟨[(146,gg)],[]⟩ [] 148 89 [dM]
 (.chk (av ct (.r 146))
 (.next ⟨[],[(10,(.setn ct (.r 146) 0 (.r 148)))]⟩)))
 (.next ⟨[],[]⟩))
def uz (b:Nat→PC):PT:=
 (.call ⟨[(7,(.mx (pc (.mk [r1]) 20) (pi 0)))],[(6,(.setc FB 0 (aC 15 (.mk [r1])))),(5,(.setc D1 0 (aC 19 (.mk [r1])))),(3,(.mk [r1])),(2,(.mk [r0]))]⟩ [] 30 86 [(pc (.mk [r1]) 19),(.llen (pc (.setc D1 0 (aC 19 (.mk [r1]))) 15))]
 (.call ⟨[(48,(ba (pc o3 22) (pi (-1)))),(44,(.pick (.pick (.nt tZ) pT (aj (pc o3 20) (pi (-1)))) pT (bR r7 (.llen (pc o5 15)))))],[]⟩ [(48,true),(44,false)] 51 86 [(pc o3 22),(pi 100001)]
 (.ite (.pick ua pT (.pick lW (.nt lf) pF))
 (.ret pL)
 (.chk (av (pc o5 15) (pc o3 19))
 (.call ⟨[],[(8,(.setc z9 0 (pn (pc o5 15) (pc o3 19))))]⟩ [] 63 86 [(pc (.setc z9 0 (pn (pc o5 15) (pc o3 19))) 6),(pi 100001)]
 (.ite (.nt LW)
 (.ret pL)
 (.chk (.an (bR (pi 20) (pi 0)) (bV (pi 20) cW))
 (.chk (aq (pi 20) (pi 20))
 (.chk (aj (.mlen (.con (.map []))) cW)
 (.chk (aj (.mlen (.put (.con (.map [])) (pi 0) (pc o6 3))) cW)
 (.chk (aj (.mlen (.put (.put (.con (.map [])) (pi 0) (pc o6 3)) (pi 1) (pc o6 14))) cW)
 (.chk (aj (.mlen SZ) cW)
 (.chk (aj (.mlen (.put SZ (pi 3) (pc o6 12))) cW)
 (.chk (aj (.mlen S8) cW)
 (.chk (aj (.mlen (.put S8 (pi 5) (pc o3 21))) cW)
 (.blockS ⟨[(10,pN),(9,aga)],[(90,(.tup [(.lst []),(.put (.put S8 (pi 5) (pc o3 21)) (pi 6) aga)])),(10,(.rep (pi 20) fD))]⟩ 0 [] [10]
 (.brk ⟨[],[]⟩
(ayb b)
 (.exit 0 ⟨[],[]⟩))
 (.call ⟨[],[(3,(aC 24 o3))]⟩ [] 104 87 [(pc o5 16),(.clo 88 [(.ref (aC 24 o3))])]
 (.call ⟨[(13,Tg)],[]⟩ [] 108 32 [(aC 8 o2),(pc o6 9)]
 (.call ⟨[],[]⟩ [] 112 32 [(aC 8 o2),(pc o6 10)]
 (.chk (aj (.mlen (.con (.map []))) cW)
 (.chk (aj (.mlen S7) cW)
 (.chk (aj (.mlen (.put S7 (pi 8) (aq (pc o6 2) (pi (-1))))) cW)
 (.chk (aj (.mlen (.put (.put S7 (pi 8) (aq (pc o6 2) (pi (-1)))) (pi 9) (ba (.ai .and .i64 (pc o6 13) (pi 4)) (pi 0)))) cW)
 (.chk (aj (.mlen LQ) cW)
 (.chk (aj (.mlen (.put LQ (pi 11) (ba Ti Tj))) cW)
 (.chk (aj (.mlen (.put (.put LQ (pi 11) (ba Ti Tj)) (pi 12) dL)) cW)
 (.chk (aj (.mlen agl) cW)
 (.blockS ⟨[],[(139,(.tup [(.lst []),(.put agl (pi 14) (bh r9 (pi 0)))]))]⟩ 2 [] [10]
 (.brk ⟨[],[]⟩
(ayc b)
 (.exit 2 ⟨[],[]⟩))
 (.call ⟨[],[]⟩ [] 154 90 [(aC 19 o5),(pi 0),(pc o3 19)]
 (.chk (av ct (pi 15))
 (.call ⟨[],[(10,(.setn ct (pi 15) 0 (.r 154)))]⟩ [] 160 90 [(aC 19 o5),(pi 1),(pc o3 19)]
 (.chk (av ct (pi 16))
 (.call ⟨[],[(10,(.setn ct (pi 16) 0 (.r 160)))]⟩ [] 166 90 [(aC 19 o5),(pi 2),(pc o3 19)]
 (.chk (av ct (pi 17))
 (.call ⟨[],[(10,(.setn ct (pi 17) 0 (.r 166)))]⟩ [] 171 90 [(aC 19 o5),(pi 3),r7]
 (.chk (av ct (pi 18))
 (.call ⟨[],[(10,(.setn ct (pi 18) 0 (.r 171)))]⟩ [] 176 90 [(aC 19 o5),(pi 4),r7]
 (.chk (av ct (pi 19))
 (.ret (.setn ct (pi 19) 0 (.r 176)))))))))))))))))))))))))))))))))))))))))
def arE (b:Nat→PC):PT×List (Shp×PT):=(uz b,[(.ea [10],T8 b),(.ea [10],T9 b)])
theorem Jf:BE.map told=some (arE (ay BE)):=by kernel_rfl
theorem aDl:tree KQ=uz AO:=aN Jf
theorem aAB:pE [10] (AO 0)=T8 AO:=UK Jf 0 fun _=>rfl
theorem aAC:pE [10] (AO 1)=T9 AO:=UK Jf 1 fun _=>rfl
theorem anF:BE=some KQ:=aF Jf
noncomputable def G0:Option PC:=aD {ctx with fr:=[3],nh:=[]} Tryz.f88 ((ab af 88).getD default) [2]
noncomputable def KR:PC:=az G0
def V8:PT:=
 (.ret (bV la (pc (.deref r1) 19)))
def arF (b:Nat→PC):PT×List (Shp×PT):=(V8,[])
theorem aff:G0.map told=some (arF (ay G0)):=by kernel_rfl
theorem aDk:tree KR=V8:=aN aff
theorem anE:G0=some KR:=aF aff
noncomputable def G3:Option PC:=aD {ctx with fr:=[4],nh:=[]} Tryz.f87 ((ab af 87).getD default) []
noncomputable def KV:PC:=az G3
def Wc:PT:=
 (.call ⟨[],[]⟩ [] 7 164 [r0,r1]
 (.ret (bR r7 (pi 0))))
def arL (b:Nat→PC):PT×List (Shp×PT):=(Wc,[])
theorem afi:G3.map told=some (arL (ay G3)):=by kernel_rfl
theorem aDq:tree KV=Wc:=aN afi
theorem anI:G3=some KV:=aF afi
noncomputable def BH:Option PC:=aD {ctx with fr:=[4,5],nh:=[]} Tryz.f164 ((ab af 164).getD default) []
noncomputable def KZ:PC:=az BH
noncomputable def NU:Nat→PC:=bG BH
def aw7 (b:Nat→PC):PC:=.block 0 [4,8,9] [] (.loop [4,8] [] (b 0))
def EW (b:Nat→PC):PT:=
 (.ite (aj r8 r7)
 (.blockS ⟨[],[]⟩ 1 [4,5,10,11,12,13,14,15,16] []
 (.chk (av r0 r8)
 (.callc ⟨[(5,r8)],[]⟩ [] 16 r1 [(pn r0 r8)]
 (.ite dM
 (.ret r5)
 (.next ⟨[],[]⟩))))
 (.next ⟨[(8,wF)],[]⟩))
 (.exit 0 ⟨[(9,(aj r8 r7))],[]⟩))
def Wg (b:Nat→PC):PT:=
 (.brk ⟨[(8,(pi 0)),(7,(.llen r0)),(4,(pi 0))],[]⟩
(aw7 b)
 (.ret (pi (-1))))
def arP (b:Nat→PC):PT×List (Shp×PT):=(Wg b,[(.lp 0 [4,8,9] [] [4,8] [],EW b)])
theorem Sj:BH.map told=some (arP (ay BH)):=by kernel_rfl
theorem aDu:tree KZ=Wg NU:=aN Sj
theorem Ua:round 0 [4,8,9] [] [4,8] [] (NU 0)=EW NU:=bx Sj 0 fun _=>rfl
theorem anL:BH=some KZ:=aF Sj
noncomputable def GX:Option PC:=aD {ctx with fr:=[4],nh:=[]} Tryz.f32 ((ab af 32).getD default) [2]
noncomputable def KB:PC:=az GX
def VU:PT:=
 (.call ⟨[],[(2,(.mk [r0]))]⟩ [] 9 91 [r1,(.llen sk)]
 (.ite (.nt r9)
 (.ret (pi (-1)))
 (.chk (av (pc o2 1) r1)
 (.ret (pc (pn (pc o2 1) r1) 1)))))
def aro (b:Nat→PC):PT×List (Shp×PT):=(VU,[])
theorem afc:GX.map told=some (aro (ay GX)):=by kernel_rfl
theorem aC6:tree KB=VU:=aN afc
theorem ano:GX=some KB:=aF afc
noncomputable def GY:Option PC:=aD {ctx with fr:=[4],nh:=[]} Tryz.f91 ((ab af 91).getD default) []
noncomputable def KF:PC:=az GY
def VX:PT:=
 (.ret Td)
def art (b:Nat→PC):PT×List (Shp×PT):=(VX,[])
theorem afd:GY.map told=some (art (ay GY)):=by kernel_rfl
theorem aC9:tree KF=VX:=aN afd
theorem ans:GY=some KF:=aF afd
noncomputable def G1:Option PC:=aD {ctx with fr:=[],nh:=[]} Tryz.f89 ((ab af 89).getD default) [2]
noncomputable def KS:PC:=az G1
def V9:PT:=
 (.ite r0
 (.ret (.mk [(pc wy 0),(pc wy 1)]))
 (.ret (.mk [(pc LO 0),(pc LO 1)])))
def arG (b:Nat→PC):PT×List (Shp×PT):=(V9,[])
theorem afg:G1.map told=some (arG (ay G1)):=by kernel_rfl
theorem aDm:tree KS=V9:=aN afg
theorem anG:G1=some KS:=aF afg
noncomputable def BC:Option PC:=aD {ctx with fr:=[],nh:=[]} Tryz.f90 ((ab af 90).getD default) [3,6,8]
noncomputable def KO:PC:=az BC
noncomputable def NT:Nat→PC:=bG BC
def aw0 (b:Nat→PC):PC:=.block 0 [12,13] [6] (.loop [12] [6] (b 0))
def ET (b:Nat→PC):PT:=
 (.ite (aj bY bD)
 (.blockS ⟨[],[]⟩ 1 [8,14,15,16,17,18,19,20,25] [8,6]
 (.chk (av cT bY)
 (.iteS ⟨[],[(8,(.setc z3 0 (pn cT bY)))]⟩ (.pick (aq (pc (.setc z3 0 (pn cT bY)) 0) r1) (aq (pc (.setc z3 0 (pn cT bY)) 1) r2) pF) [] [6]
 (.call ⟨[],[]⟩ [] 29 89 [(ba (pc o8 2) (pi 0))]
 (.ret (.mk [(pc (.setc o6 0 nV) 0),(pc (.setc o6 0 nV) 1)])))
 (.next ⟨[],[]⟩)
 (.next ⟨[],[]⟩)))
 (.next ⟨[(12,(aP bY (pi 1)))],[]⟩))
 (.exit 0 ⟨[(13,(aj bY bD))],[]⟩))
def V6 (b:Nat→PC):PT:=
 (.brk ⟨[(12,(pi 0)),(11,(.llen (pc (.mk [r0]) 18))),(10,(pc (.mk [r0]) 18))],[(6,fD)]⟩
(aw0 b)
 (.ret (.mk [(pc (.setc o6 0 wD) 0),(pc (.setc o6 0 wD) 1)])))
def arC (b:Nat→PC):PT×List (Shp×PT):=(V6 b,[(.lp 0 [12,13] [6] [12] [6],ET b)])
theorem Si:BC.map told=some (arC (ay BC)):=by kernel_rfl
theorem aDi:tree KO=V6 NT:=aN Si
theorem T6:round 0 [12,13] [6] [12] [6] (NT 0)=ET NT:=bx Si 0 fun _=>rfl
theorem anC:BC=some KO:=aF Si
noncomputable def A4:Option PC:=aD {ctx with fr:=[2,3,4,11],nh:=[]} Tryz.f97 ((ab af 97).getD default) []
noncomputable def JW:PC:=az A4
def Vj:PT:=
 (.blockS ⟨[],[]⟩ 0 [2,3,4,5,6,7,10,11,12,13,14] []
 (.iteS ⟨[],[]⟩ (.pick (aj r0 (pi 0)) pT (bR r0 (pi 22))) [2,3,11,12,13,14] []
 (.ret (.tup [(pi 0),pF]))
 (.call ⟨[],[]⟩ [] 14 94 [(.lst [(pc qG 0),(pc qG 1),(pc qG 2),(pc qG 3),(pc qG 4),(pc qG 5),(pc qG 6),(pc qG 7),(pc qG 8),(pc qG 9)]),r0]
 (.ite dv
 (.ret (.tup [(pi 0),pT]))
 (.next ⟨[],[]⟩)))
 (.next ⟨[],[]⟩))
 (.ret (.tup [(pi 1),pT])))
def aqI (b:Nat→PC):PT×List (Shp×PT):=(Vj,[])
theorem aeU:A4.map told=some (aqI (ay A4)):=by kernel_rfl
theorem aCu:tree JW=Vj:=aN aeU
theorem YD:A4=some JW:=aF aeU
noncomputable def BG:Option PC:=aD {ctx with fr:=[4],nh:=[]} Tryz.f94 ((ab af 94).getD default) []
noncomputable def KX:PC:=az BG
def We:PT:=
 (.call ⟨[],[]⟩ [] 7 167 [r0,r1]
 (.ret (bR r7 (pi 0))))
def arN (b:Nat→PC):PT×List (Shp×PT):=(We,[])
theorem afk:BG.map told=some (arN (ay BG)):=by kernel_rfl
theorem aDs:tree KX=We:=aN afk
theorem YJ:BG=some KX:=aF afk
noncomputable def xB:Option PC:=aD {ctx with fr:=[4,5],nh:=[]} Tryz.f167 ((ab af 167).getD default) []
noncomputable def K4:PC:=az xB
noncomputable def NX:Nat→PC:=bG xB
def axa (b:Nat→PC):PC:=.block 0 [4,8,9] [] (.loop [4,8] [] (b 0))
def EZ (b:Nat→PC):PT:=
 (.ite (aj r8 r7)
 (.chk (av r0 r8)
 (.ite (aq r1 (pn r0 r8))
 (.ret r8)
 (.next ⟨[(8,wF)],[]⟩)))
 (.exit 0 ⟨[(9,(aj r8 r7))],[]⟩))
def Wj (b:Nat→PC):PT:=
 (.brk ⟨[(8,(pi 0)),(7,(.llen r0)),(4,(pi 0))],[]⟩
(axa b)
 (.ret (pi (-1))))
def arS (b:Nat→PC):PT×List (Shp×PT):=(Wj b,[(.lp 0 [4,8,9] [] [4,8] [],EZ b)])
theorem Sm:xB.map told=some (arS (ay xB)):=by kernel_rfl
theorem aDx:tree K4=Wj NX:=aN Sm
theorem Ud:round 0 [4,8,9] [] [4,8] [] (NX 0)=EZ NX:=bx Sm 0 fun _=>rfl
theorem YL:xB=some K4:=aF Sm
noncomputable def A1:Option PC:=aD {ctx with fr:=[8,9,11,12,13,14,55,70],nh:=[]} Tryz.f33 ((ab af 33).getD default) [4,10,53]
noncomputable def JL:PC:=az A1
noncomputable def Nx:Nat→PC:=bG A1
def awe (b:Nat→PC):PC:=.block 0 [] [] (.loop [8,9,10] [10] (b 0))
def Tv (b:Nat→PC):PT:=
 (.blockS ⟨[],[]⟩ 1 [8,9,10,11,12,13,14,32,33,35,36,37,38,39,40,41,42,43,44,45,46,49,50,52,53,54,55,56,57,58,68,70,71] [53,10]
 (.chk (av ct (bC (.llen ct) (pi 1)))
 (.call ⟨[(11,(pn ct (bC (.llen ct) (pi 1))))],[]⟩ [] 41 93 [(aC 8 o4),(pn ct (bC (.llen ct) (pi 1))),r2,r3]
 (.ite (aq (.tget qK 0) bD)
 (.ret (.tup [ct,(pi 0)]))
 (.call ⟨[(13,(.tget qK 1)),(12,(.tget qK 0))],[]⟩ [] 50 94 [ct,(.tget qK 0)]
 (.chk (bV (.llen (.app ct (.lst [bY]))) cW)
 (.chk (.nt (.an (.an lX (.an (.nt (.nt dL)) pT)) (.nt (av (pc o4 4) bY))))
 (.ite (.pick (.nt dL) pT (.pick lX (pc (pn (pc o4 4) bY) 1) pF))
 (.ret (.tup [(.app ct (.lst [bY])),(pi 0)]))
 (.ite lX
 (.ret (.tup [(.app ct (.lst [bY])),(pi 12)]))
 (.next ⟨[(10,pN)],[(10,(.app ct (.lst [bY])))]⟩)))))))))
 (.next ⟨[],[]⟩))
def U9 (b:Nat→PC):PT:=
 (.call ⟨[(9,(pi 0)),(8,pL)],[(4,(.mk [r0]))]⟩ [] 19 92 [kD,r1,r2,r3]
 (.chk (.nt (.an (.an (.nt (.nt gr)) pT) (.nt (av r3 (pi 0)))))
 (.ite (.pick (.nt gr) pT (ba (pn r3 (pi 0)) r1))
 (.ret (.tup [pL,(pi 1)]))
 (.brk ⟨[(10,pN)],[(10,(.lst [r1]))]⟩
(awe b)
 (.next ⟨[],[]⟩)))))
def aqw (b:Nat→PC):PT×List (Shp×PT):=(U9 b,[(.lp 0 [] [] [8,9,10] [10],Tv b)])
theorem RW:A1.map told=some (aqw (ay A1)):=by kernel_rfl
theorem aCh:tree JL=U9 Nx:=aN RW
theorem aAz:round 0 [] [] [8,9,10] [10] (Nx 0)=Tv Nx:=bx RW 0 fun _=>rfl
theorem amC:A1=some JL:=aF RW
noncomputable def Gx:Option PC:=aD {ctx with fr:=[8],nh:=[]} Tryz.f92 ((ab af 92).getD default) [4,9]
noncomputable def JN:PC:=az Gx
def uy:PT:=
 (.ite (.pick (.pick (.pick (.pick (aj r1 (pi 0)) pT (bR r1 (pc (.setc D9 0 (.llen wC)) 0))) pT (aj r2 (pi 0))) pT (bR r2 (pi 22))) pT (ba (.llen r3) (pi 5)))
 (.ret pF)
 (.call ⟨[],[]⟩ [] 35 165 [r3,(.clo 166 [(.ref (pc (.setc D9 0 (.llen wC)) 0))])]
 (.ret (.nt wG))))
def aqy (b:Nat→PC):PT×List (Shp×PT):=(uy,[])
theorem aeL:Gx.map told=some (aqy (ay Gx)):=by kernel_rfl
theorem aCk:tree JN=uy:=aN aeL
theorem amF:Gx=some JN:=aF aeL
noncomputable def Gy:Option PC:=aD {ctx with fr:=[3],nh:=[]} Tryz.f166 ((ab af 166).getD default) []
noncomputable def JO:PC:=az Gy
def Vb:PT:=
 (.ret (.pick (aj r0 (pi 0)) pT (bR r0 (.deref r1))))
def aqz (b:Nat→PC):PT×List (Shp×PT):=(Vb,[])
theorem aeM:Gy.map told=some (aqz (ay Gy)):=by kernel_rfl
theorem aCj:tree JO=Vb:=aN aeM
theorem amE:Gy=some JO:=aF aeM
noncomputable def G4:Option PC:=aD {ctx with fr:=[4],nh:=[]} Tryz.f165 ((ab af 165).getD default) []
noncomputable def KW:PC:=az G4
def Wd:PT:=
 (.call ⟨[],[]⟩ [] 7 216 [r0,r1]
 (.ret (bR r7 (pi 0))))
def arM (b:Nat→PC):PT×List (Shp×PT):=(Wd,[])
theorem afj:G4.map told=some (arM (ay G4)):=by kernel_rfl
theorem aDr:tree KW=Wd:=aN afj
theorem anJ:G4=some KW:=aF afj
noncomputable def BI:Option PC:=aD {ctx with fr:=[4,5],nh:=[]} Tryz.f216 ((ab af 216).getD default) []
noncomputable def K1:PC:=az BI
noncomputable def NW:Nat→PC:=bG BI
def aw9 (b:Nat→PC):PC:=.block 0 [4,8,9] [] (.loop [4,8] [] (b 0))
def EY (b:Nat→PC):PT:=
 (.ite (aj r8 r7)
 (.blockS ⟨[],[]⟩ 1 [4,5,10,11,12,13,14,15,16] []
 (.chk (av r0 r8)
 (.callc ⟨[(5,r8)],[]⟩ [] 16 r1 [(pn r0 r8)]
 (.ite dM
 (.ret r5)
 (.next ⟨[],[]⟩))))
 (.next ⟨[(8,wF)],[]⟩))
 (.exit 0 ⟨[(9,(aj r8 r7))],[]⟩))
def Wi (b:Nat→PC):PT:=
 (.brk ⟨[(8,(pi 0)),(7,(.llen r0)),(4,(pi 0))],[]⟩
(aw9 b)
 (.ret (pi (-1))))
def arR (b:Nat→PC):PT×List (Shp×PT):=(Wi b,[(.lp 0 [4,8,9] [] [4,8] [],EY b)])
theorem Sl:BI.map told=some (arR (ay BI)):=by kernel_rfl
theorem aDw:tree K1=Wi NW:=aN Sl
theorem Uc:round 0 [4,8,9] [] [4,8] [] (NW 0)=EY NW:=bx Sl 0 fun _=>rfl
theorem anM:BI=some K1:=aF Sl
noncomputable def A2:Option PC:=aD {ctx with fr:=[8,9],nh:=[]} Tryz.f93 ((ab af 93).getD default) [4,11]
noncomputable def JM:PC:=az A2
noncomputable def Ny:Nat→PC:=bG A2
def awf (b:Nat→PC):PC:=.block 0 [8,9,25,26] [] (.loop [8,9,25] [] (b 0))
def Ek (b:Nat→PC):PT:=
 (.ite (aj iZ nU)
 (.chk (av jy iZ)
 (.ite (.pick (aq (pc D6 0) r2) (ba (pc D6 1) (pi 0)) pF)
 (.chk (av r3 (pc D6 1))
 (.ret (.tup [(pn r3 (pc D6 1)),(pc D6 2)])))
 (.next ⟨[(25,(aP iZ (pi 1)))],[]⟩)))
 (.exit 0 ⟨[(26,(aj iZ nU))],[]⟩))
def Va (b:Nat→PC):PT:=
 (.call ⟨[(9,pF),(8,(pi 0))],[(4,(.mk [r0]))]⟩ [] 16 92 [kD,r1,r2,r3]
 (.ite (.nt dM)
 (.ret (.tup [(pi (-1)),pF]))
 (.chk (av (pc o4 4) r1)
 (.brk ⟨[(25,(pi 0)),(24,(.llen (pc (pn (pc o4 4) r1) 2))),(23,(pc (pn (pc o4 4) r1) 2))],[]⟩
(awf b)
 (.ret (.tup [r1,pF]))))))
def aqx (b:Nat→PC):PT×List (Shp×PT):=(Va b,[(.lp 0 [8,9,25,26] [] [8,9,25] [],Ek b)])
theorem RX:A2.map told=some (aqx (ay A2)):=by kernel_rfl
theorem aCi:tree JM=Va Ny:=aN RX
theorem Tw:round 0 [8,9,25,26] [] [8,9,25] [] (Ny 0)=Ek Ny:=bx RX 0 fun _=>rfl
theorem amD:A2=some JM:=aF RX
noncomputable def GG:Option PC:=aD {ctx with fr:=[7,9,11,12],nh:=[]} Tryz.f35 ((ab af 35).getD default) [3,6,8,10]
noncomputable def JV:PC:=az GG
def Vi:PT:=
 (.call ⟨[],[(6,fD)]⟩ [] 16 95 [(aC 4 (.mk [r0])),r1]
 (.ite (ba (.tget dM 1) (pi 0))
 (.ret (.tup [(.mk [(pc (.setc o6 0 wD) 0),(pc (.setc o6 0 wD) 1)]),(.tget dM 1)]))
 (.call ⟨[],[]⟩ [] 25 96 [(.mk [(pc (.setc jY 0 (.tget dM 0)) 0),(pc (.setc jY 0 (.tget dM 0)) 1),(pc (.setc jY 0 (.tget dM 0)) 2)]),r2]
 (.call ⟨[],[(10,(.setc fD 0 iZ))]⟩ [] 28 97 [r1]
 (.ret (.tup [(.mk [(pc (.setc o6 0 (.mk [(pc LI 0),(pc LI 1)])) 0),(pc (.setc o6 0 (.mk [(pc LI 0),(pc LI 1)])) 1)]),(pi 0)]))))))
def aqG (b:Nat→PC):PT×List (Shp×PT):=(Vi,[])
theorem aeT:GG.map told=some (aqG (ay GG)):=by kernel_rfl
theorem aCs:tree JV=Vi:=aN aeT
theorem amM:GG=some JV:=aF aeT
noncomputable def A5:Option PC:=aD {ctx with fr:=[5,6,7,8,10,11],nh:=[]} Tryz.f95 ((ab af 95).getD default) [2,3,4,12292,9]
noncomputable def JX:PC:=az A5
def Vk:PT:=
 (.call ⟨[],[(4,jY),(3,(.mk [r1])),(2,(.mk [r0]))]⟩ [] 14 97 [(pc (.mk [r1]) 0)]
 (.ite (.nt (.tget dv 1))
 (.ret (.tup [S5,(pi 1)]))
 (.call ⟨[(6,(.tget dv 0))],[]⟩ [] 23 168 [(pc o2 3),(.clo 169 [(.ref (pc o3 0))])]
 (.ite (aj jy (pi 0))
 (.ret (.tup [S5,(pi 4)]))
 (.chk (av (pc o2 3) jy)
 (.call ⟨[],[(9,LL)]⟩ [] 35 170 [(.mk [(pc LL 0),(pc LL 1),(pc LL 2)])]
 (.ite (.pick (ba (.tget wG 1) (pi 0)) pT (ba (.tget wG 0) r6))
 (.ret (.tup [S5,(pi 11)]))
 (.ret (.tup [(.mk [(pc S9 0),(pc S9 1),(pc S9 2)]),(pi 0)])))))))))
def aqJ (b:Nat→PC):PT×List (Shp×PT):=(Vk,[])
theorem aeV:A5.map told=some (aqJ (ay A5)):=by kernel_rfl
theorem aCw:tree JX=Vk:=aN aeV
theorem YG:A5=some JX:=aF aeV
noncomputable def A6:Option PC:=aD {ctx with fr:=[3],nh:=[]} Tryz.f169 ((ab af 169).getD default) [2]
noncomputable def JY:PC:=az A6
def Vl:PT:=
 (.ret (aq la (.deref r1)))
def aqK (b:Nat→PC):PT×List (Shp×PT):=(Vl,[])
theorem aeW:A6.map told=some (aqK (ay A6)):=by kernel_rfl
theorem aCv:tree JY=Vl:=aN aeW
theorem YE:A6=some JY:=aF aeW
noncomputable def xA:Option PC:=aD {ctx with fr:=[4,5],nh:=[]} Tryz.f168 ((ab af 168).getD default) []
noncomputable def K0:PC:=az xA
noncomputable def NV:Nat→PC:=bG xA
def aw8 (b:Nat→PC):PC:=.block 0 [4,8,9] [] (.loop [4,8] [] (b 0))
def EX (b:Nat→PC):PT:=
 (.ite (aj r8 r7)
 (.blockS ⟨[],[]⟩ 1 [4,5,10,11,12,13,14,15,16] []
 (.chk (av r0 r8)
 (.callc ⟨[(5,r8)],[]⟩ [] 16 r1 [(pn r0 r8)]
 (.ite dM
 (.ret r5)
 (.next ⟨[],[]⟩))))
 (.next ⟨[(8,wF)],[]⟩))
 (.exit 0 ⟨[(9,(aj r8 r7))],[]⟩))
def Wh (b:Nat→PC):PT:=
 (.brk ⟨[(8,(pi 0)),(7,(.llen r0)),(4,(pi 0))],[]⟩
(aw8 b)
 (.ret (pi (-1))))
def arQ (b:Nat→PC):PT×List (Shp×PT):=(Wh b,[(.lp 0 [4,8,9] [] [4,8] [],EX b)])
theorem Sk:xA.map told=some (arQ (ay xA)):=by kernel_rfl
theorem aDv:tree K0=Wh NV:=aN Sk
theorem Ub:round 0 [4,8,9] [] [4,8] [] (NV 0)=EX NV:=bx Sk 0 fun _=>rfl
theorem YK:xA=some K0:=aF Sk
noncomputable def BQ:Option PC:=aD {ctx with fr:=[2,3],nh:=[]} Tryz.f170 ((ab af 170).getD default) [1]
noncomputable def Lg:PC:=az BQ
def Ws:PT:=
 (.call ⟨[],[(1,(.mk [r0]))]⟩ [] 5 217 [LH,(pi 1)]
 (.ite (bh r5 (pi 60))
 (.ret (.tup [(pi 0),(pi 6)]))
 (.call ⟨[],[]⟩ [] 8 218 [(.mk [(pc o1 0),(pc o1 1),(pc o1 2)])]
 (.ret (.tup [(.tget r8 0),(.tget r8 1)])))))
def ar6 (b:Nat→PC):PT×List (Shp×PT):=(Ws,[])
theorem afs:BQ.map told=some (ar6 (ay BQ)):=by kernel_rfl
theorem aDI:tree Lg=Ws:=aN afs
theorem YP:BQ=some Lg:=aF afs
noncomputable def xE:Option PC:=aD {ctx with fr:=[4,5],nh:=[]} Tryz.f217 ((ab af 217).getD default) [2,7,12295]
noncomputable def Lr:PC:=az xE
noncomputable def N2:Nat→PC:=bG xE
def axl (b:Nat→PC):PC:=.block 0 [5,13,14] [] (.loop [5,13] [] (b 0))
def E3 (b:Nat→PC):PT:=
 (.ite (aj dL bY)
 (.blockS ⟨[(14,(aj dL bY))],[]⟩ 1 [5,7,15,16,17,18,19,20,21,22,23,24] [7,12295]
 (.chk (av bD dL)
 (.call ⟨[(17,r5)],[]⟩ [] 21 217 [(.mk [(pc (.setc jY 0 (pn bD dL)) 0),(pc (.setc jY 0 (pn bD dL)) 1),(pc (.setc jY 0 (pn bD dL)) 2)]),(aP r1 (pi 1))]
 (.ite (bh (aP kF lV) (pi 60))
 (.exit 0 ⟨[(5,(aP kF lV))],[]⟩)
 (.next ⟨[(5,(aP kF lV))],[]⟩))))
 (.next ⟨[(13,(aP dL (pi 1)))],[]⟩))
 (.exit 0 ⟨[(14,(aj dL bY))],[]⟩))
def MO (b:Nat→PC):PT:=
 (.ite (bh r1 (pi 8))
 (.ret (pi 61))
 (.brk ⟨[(13,(pi 0)),(12,px),(11,zo),(5,(pi 1))],[]⟩
(axl b)
 (.ret r5)))
def ash (b:Nat→PC):PT×List (Shp×PT):=(MO b,[(.lp 0 [5,13,14] [] [5,13] [],E3 b)])
theorem Sr:xE.map told=some (ash (ay xE)):=by kernel_rfl
theorem ahM:tree Lr=MO N2:=aN Sr
theorem Ui:round 0 [5,13,14] [] [5,13] [] (N2 0)=E3 N2:=bx Sr 0 fun _=>rfl
theorem YX:xE=some Lr:=aF Sr
end Rm
