/-
  eJ functions of this T7, compiled (1).
-/
import Derived.Test.YtepfoekldooaeaaGreatDoorKAK
import Derived.KernelRfl
set_option linter.unusedVariables false
set_option maxRecDepth 100000
namespace Rm
open Go Go.Proofs Cx
noncomputable def zS:Option PC:=av {ctx with fr:=[12,13,17],nh:=[]} Tryz.f6 ((aa ab 6).getD default) [6,8,14,15,16,18]
noncomputable def JF:PC:=au zS
noncomputable def NA:Nat→PC:=bk zS
def ax8 (b:Nat→PC):PC:=.block 0 [16,17,44,45,46,47] [16] (.loop [16,17] [16] (b 0))
def C2 (b:Nat→PC):PT:=
 (.ite (aj dB (.llen r5))
 (.chk (ay r5 dB)
 (.ite (aH (pc (pn r5 dB) 1) r3)
 (.chk (aW (.llen (.app eF (.lst [(pn r5 dB)]))) cd)
 (.next ⟨[(16,pN),(17,(aD dB (pi 1)))],[(16,(.app eF (.lst [(pn r5 dB)])))]⟩))
 (.next ⟨[(17,(aD dB (pi 1)))],[]⟩)))
 (.exit 0 ⟨[(44,dB),(45,r5),(46,(.llen r5)),(47,(aj dB (.llen r5)))],[]⟩))
def U2 (b:Nat→PC):PT:=
 (.call ⟨[],[(8,(.mk [r2])),(6,(.mk [r0]))]⟩ [] 19 25 []
 (.call ⟨[(13,gu)],[]⟩ [] 22 26 [(af 8 o6),(af 19 o8)]
 (.ite (.pick (.nt kp) pT (aO (.llen r5) (pi 30)))
 (.ret bU)
 (.call ⟨[],[]⟩ [] 35 27 [(af 8 o6),r1,(af 19 o8),r3,r4]
 (.call ⟨[(37,r1),(36,(af 8 o6))],[(14,(.setc z4 0 mN))]⟩ [] 40 28 [(af 19 o8),r5]
 (.call ⟨[],[]⟩ [] 43 27 [gJ,jn,nA,r3,r4]
 (.brk ⟨[(17,(pi 0)),(16,pN)],[(16,pL),(15,(.setc z4 0 oU))]⟩
(ax8 b)
 (.call ⟨[(65,r1),(64,(af 8 o6))],[]⟩ [] 68 28 [(af 19 o8),eF]
 (.call ⟨[],[]⟩ [] 71 27 [kW,vO,L4,r3,r4]
 (.call ⟨[(73,bU)],[(18,(.setc z4 0 r71))]⟩ [(73,true)] 76 29 [(af 4 bD),(af 4 mH)]
 (.call ⟨[(85,r1),(84,(af 8 o6)),(83,(.pick (.pick yy qq pF) (.an (ah (pc (af 4 bD) 0) (pc (af 4 Iy) 0)) (.an (ah (pc (af 4 bD) 1) (pc (af 4 Iy) 1)) (.an (ah (pc (af 4 bD) 2) (pc (af 4 Iy) 2)) (.an (ah (pc (af 4 bD) 3) (pc (af 4 Iy) 3)) pT)))) pF))],[]⟩ [(83,true)] 88 28 [(af 19 o8),r5]
 (.call ⟨[],[]⟩ [(83,true)] 90 30 [SL,yz,vR,r4]
 (.call ⟨[],[]⟩ [(83,true)] 95 30 [(af 8 o6),r1,(af 19 o8),r4]
 (.ret (.pick r83 (ah SM SO) pF)))))))))))))))
def asd (b:Nat→PC):PT×List (Shp×PT):=(U2 b,[(.lp 0 [16,17,44,45,46,47] [16] [16,17] [16],C2 b)])
theorem Rt:zS.map told=some (asd (ar zS)):=by kernel_rfl
theorem aEm:tree JF=U2 NA:=aA Rt
theorem SW:round 0 [16,17,44,45,46,47] [16] [16,17] [16] (NA 0)=C2 NA:=aZ Rt 0 fun _=>rfl
theorem amV:zS=some JF:=aw Rt
noncomputable def Fw:Option PC:=av {ctx with fr:=[0,7,8],nh:=[]} Tryz.f25 ((aa ab 25).getD default) [1,2,3,4,5,6]
noncomputable def JJ:PC:=au Fw
def U6:PT:=
 (.call ⟨[],[]⟩ [] 9 68 []
 (.call ⟨[(10,(af 8 (.setc yr 0 r9)))],[(1,(.setc yr 0 r9))]⟩ [] 11 69 [(pi 0),(pi (-1))]
 (.call ⟨[],[]⟩ [] 12 27 [cf,(pi 0),bp,(pi 0),(pi 12)]
 (.call ⟨[(13,(af 8 o1))],[(2,(.setc z4 0 bI))]⟩ [] 14 69 [(pi 0),(pi (-1))]
 (.call ⟨[],[]⟩ [] 15 27 [bU,(pi 0),cj,(pi 0),(pi 13)]
 (.call ⟨[(16,(af 8 o1))],[(3,(.setc z4 0 bM))]⟩ [] 17 69 [(pi 12),(pi 0)]
 (.call ⟨[],[]⟩ [] 18 27 [ct,(pi 0),dB,(pi 0),(pi 40)]
 (.call ⟨[(19,(af 8 o1))],[(4,(.setc z4 0 cA))]⟩ [] 20 69 [(pi 12),(pi 1)]
 (.call ⟨[],[]⟩ [] 21 27 [gu,(pi 0),cM,(pi 0),(pi 40)]
 (.call ⟨[(22,(af 8 o1))],[(5,(.setc z4 0 fY))]⟩ [] 23 69 [(pi 12),(pi 0)]
 (.call ⟨[],[]⟩ [] 24 27 [kp,(pi 0),eX,(pi 0),(pi 1)]
 (.call ⟨[(51,(af 8 o1)),(50,(.pick (.pick (.pick (.an (ah (pc (af 4 o2) 0) (pi 1)) (.an (ah (pc (af 4 o2) 1) (pi 2)) (.an (ah (pc (af 4 o2) 2) (pi 1)) (.an (ah (pc (af 4 o2) 3) (pi 2)) pT)))) (.an (ah (pc (af 4 o3) 0) (pi 1)) (.an (ah (pc (af 4 o3) 1) (pi 0)) (.an (ah (pc (af 4 o3) 2) (pi 1)) (.an (ah (pc (af 4 o3) 3) (pi 0)) pT)))) pF) (.pick (.an (ah (pc (af 4 o4) 0) (pi 1)) (.an (ah (pc (af 4 o4) 1) (pi 1)) (.an (ah (pc (af 4 o4) 2) (pi 1)) (.an (ah (pc (af 4 o4) 3) (pi 1)) pT)))) (.an (ah (pc (af 4 o5) 0) (pi 1)) (.an (ah (pc (af 4 o5) 1) (pi 2)) (.an (ah (pc (af 4 o5) 2) (pi 1)) (.an (ah (pc (af 4 o5) 3) (pi 2)) pT)))) pF) pF) (.an (ah (pc (af 4 (.setc z4 0 kq)) 0) (pi 0)) (.an (ah (pc (af 4 (.setc z4 0 kq)) 1) (pi 0)) (.an (ah (pc (af 4 (.setc z4 0 kq)) 2) (pi 0)) (.an (ah (pc (af 4 (.setc z4 0 kq)) 3) (pi 0)) pT)))) pF))],[]⟩ [(50,true)] 52 69 [(pi 0),(pi (-1))]
 (.call ⟨[],[]⟩ [(50,true)] 53 30 [kV,(pi 0),tn,(pi 12)]
 (.ret (.pick fH (ah L2 (pi 10)) pF)))))))))))))))
def ash (b:Nat→PC):PT×List (Shp×PT):=(U6,[])
theorem aeo:Fw.map told=some (ash (ar Fw)):=by kernel_rfl
theorem aEq:tree JJ=U6:=aA aeo
theorem amZ:Fw=some JJ:=aw aeo
noncomputable def Fv:Option PC:=av {ctx with fr:=[],nh:=[]} Tryz.f68 ((aa ab 68).getD default) [0,24576,28672,32768,1,12289,2,12290,3,12291]
noncomputable def JI:PC:=au Fv
def U5:PT:=
 (.ret (.mk [(pc CQ 0),(pc CQ 1),(pc CQ 2),(pc CQ 3),(pc CQ 4),pL,pL,pL]))
def asg (b:Nat→PC):PT×List (Shp×PT):=(U5,[])
theorem aen:Fv.map told=some (asg (ar Fv)):=by kernel_rfl
theorem aEp:tree JI=U5:=aA aen
theorem amY:Fv=some JI:=aw aen
noncomputable def Fx:Option PC:=av {ctx with fr:=[],nh:=[]} Tryz.f69 ((aa ab 69).getD default) [4,5,6,69638,73734,77830]
noncomputable def JK:PC:=au Fx
def MW:PT:=
 (.ite (aV r1 (pi 0))
 (.chk (aW (.llen agm) cd)
 (.ret (af 19 (.setc fW 0 (.mk [(pc kl 0),(pc kl 1),(pc kl 2),(pc kl 3),(pc kl 4),(pc kl 5),(pc kl 6),(pc kl 7),(pc kl 8),(pc kl 9),(pc kl 10),(pc kl 11),(pc kl 12),(pc kl 13),(pc kl 14),(pc kl 15),pL,agm,pL])))))
 (.ret (af 19 (.setc fW 0 (.mk [(pc jP 0),(pc jP 1),(pc jP 2),(pc jP 3),(pc jP 4),(pc jP 5),(pc jP 6),(pc jP 7),(pc jP 8),(pc jP 9),(pc jP 10),(pc jP 11),(pc jP 12),(pc jP 13),(pc jP 14),(pc jP 15),pL,(.lst [(.mk [(pi 2),(pi 0),(pi 1),(pi 0),(pi (-1)),(pi 0),(pi 10),(pi 0),(pi 0)])]),pL])))))
def asi (b:Nat→PC):PT×List (Shp×PT):=(MW,[])
theorem aep:Fx.map told=some (asi (ar Fx)):=by kernel_rfl
theorem aEr:tree JK=MW:=aA aep
theorem am0:Fx=some JK:=aw aep
noncomputable def Fg:Option PC:=av {ctx with fr:=[],nh:=[]} Tryz.f27 ((aa ab 27).getD default) [5,7,10,11,12]
noncomputable def Jq:PC:=au Fg
def UO:PT:=
 (.call ⟨[],[(10,z4)]⟩ [] 18 70 [fX,r1,vz,r3,r4]
 (.ite (.pick (aj r3 (pi 0)) pT (aV r3 (.llen (pc (.setc LK 0 cA) 24))))
 (.ret (af 4 (.setc bO 0 (.mk [(pi 0),(pi 0),(pi 0),(pi 0)]))))
 (.call ⟨[],[(12,z4),(11,(.setc LK 0 cA))]⟩ [] 31 71 [(af 31 (.setc LK 0 cA))]
 (.iteS ⟨[],[(12,(.setc (.setc (.setc da 0 mM) 1 (pi 2)) 2 (pi 2)))]⟩ (aH (pc kO 30) (pi (-1))) [] [12]
 (.call ⟨[],[]⟩ [] 39 73 [(af 31 kO),(pi 8)]
 (.call ⟨[],[]⟩ [] 41 74 [(af 31 kO)]
 (.call ⟨[],[]⟩ [] 42 72 [qn,kT]
 (.call ⟨[],[(12,(.setc da 1 L1))]⟩ [] 45 73 [(af 31 kO),(pi 11)]
 (.call ⟨[],[]⟩ [] 47 75 [(af 31 kO)]
 (.call ⟨[],[]⟩ [] 48 72 [nB,tj]
 (.next ⟨[],[(12,(.setc da 2 ga))]⟩)))))))
 (.next ⟨[],[]⟩)
 (.call ⟨[],[]⟩ [] 57 76 [(.lst [(pc da 0),(pc da 1),(pc da 2)])]
 (.ret (af 4 (.setc bO 0 (af 4 (.setc da 3 rI))))))))))
def arY (b:Nat→PC):PT×List (Shp×PT):=(UO,[])
theorem aea:Fg.map told=some (arY (ar Fg)):=by kernel_rfl
theorem aD7:tree Jq=UO:=aA aea
theorem amG:Fg=some Jq:=aw aea
noncomputable def Fi:Option PC:=av {ctx with fr:=[],nh:=[]} Tryz.f70 ((aa ab 70).getD default) [5,7,10]
noncomputable def Js:PC:=au Fi
def UQ:PT:=
 (.call ⟨[(12,r1),(11,fX)],[(10,LK),(7,(.mk [r2])),(5,(.mk [r0]))]⟩ [] 15 20 [vz,r4]
 (.call ⟨[(17,r4),(16,r3)],[]⟩ [] 22 32 [(af 8 o5),r1,(af 19 o7),r4]
 (.ret (af 31 (.setc bO 0 (.mk [bp,bI,bM,ct,dB,kp]))))))
def ar0 (b:Nat→PC):PT×List (Shp×PT):=(UQ,[])
theorem aec:Fi.map told=some (ar0 (ar Fi)):=by kernel_rfl
theorem aD9:tree Js=UQ:=aA aec
theorem amI:Fi=some Js:=aw aec
noncomputable def Ax:Option PC:=av {ctx with fr:=[],nh:=[]} Tryz.f20 ((aa ab 20).getD default) [2,4,5,65541,69637,73733,77829,7,31,9,49,11,13]
noncomputable def KF:PC:=au Ax
noncomputable def qH:Nat→PC:=bk Ax
def ayU (b:Nat→PC):PC:=.block 0 [20,21] [65541,5] (.loop [20] [65541,5] (b 0))
def ayV (b:Nat→PC):PC:=.block 2 [38,39] [73733,5] (.loop [38] [73733,5] (b 1))
def ayW (b:Nat→PC):PC:=.block 4 [56,57] [5,69637] (.loop [56] [5,69637] (b 2))
def ayX (b:Nat→PC):PC:=.block 6 [76,77] [5,77829] (.loop [76] [5,77829] (b 3))
def Dy (b:Nat→PC):PT:=
 (.ite (aj cM gu)
 (.chk (ay cA cM)
 (.ite (aO (pc (.setc z9 0 (pn cA cM)) 6) r1)
 (.exit 0 ⟨[(21,(aj cM gu))],[]⟩)
 (.chk (aW (.llen (.app (.o 65541) (.lst [(af 9 (.setc z9 0 (pn cA cM)))]))) cd)
 (.next ⟨[(20,(aD cM (pi 1)))],[(65541,(.app (.o 65541) (.lst [(af 9 (.setc z9 0 (pn cA cM)))]))),(5,(.setc o5 15 pN))]⟩))))
 (.exit 0 ⟨[(21,(aj cM gu))],[]⟩))
def Dz (b:Nat→PC):PT:=
 (.ite (aj jo jn)
 (.chk (ay gJ jo)
 (.ite (aO (pc (.setc z9 0 (pn gJ jo)) 6) r1)
 (.exit 2 ⟨[(39,(aj jo jn))],[]⟩)
 (.chk (aW (.llen (.app (.o 73733) (.lst [(af 9 (.setc z9 0 (pn gJ jo)))]))) cd)
 (.next ⟨[(38,(aD jo (pi 1)))],[(73733,(.app (.o 73733) (.lst [(af 9 (.setc z9 0 (pn gJ jo)))]))),(5,(.setc o5 17 pN))]⟩))))
 (.exit 2 ⟨[(39,(aj jo jn))],[]⟩))
def DA (b:Nat→PC):PT:=
 (.ite (aj oV qp)
 (.chk (ay qo oV)
 (.ite (aW (pc (.setc z2 0 (pn qo oV)) 0) (.llen (.o 65541)))
 (.chk (aW (.llen agc) cd)
 (.next ⟨[(56,(aD oV (pi 1)))],[(5,(.setc o5 16 pN)),(69637,agc)]⟩))
 (.next ⟨[(56,(aD oV (pi 1)))],[]⟩)))
 (.exit 4 ⟨[(57,(aj oV qp))],[]⟩))
def DB (b:Nat→PC):PT:=
 (.ite (aj qq SK)
 (.blockS ⟨[],[]⟩ 7 [13,78,79,80,81,82,83,84,85] [13,77829,5]
 (.chk (ay SJ qq)
 (.call ⟨[],[(13,(.setc z3 0 (pn SJ qq)))]⟩ [] 85 54 [(pc (.setc z3 0 (pn SJ qq)) 1),(.llen (.o 65541))]
 (.ite yz
 (.chk (aW (.llen (.app (.o 77829) (.lst [(.mk [(pc vm 0),(pc vm 1),(pc vm 2)])]))) cd)
 (.next ⟨[],[(77829,(.app (.o 77829) (.lst [(.mk [(pc vm 0),(pc vm 1),(pc vm 2)])]))),(5,(.setc o5 18 pN))]⟩))
 (.next ⟨[],[]⟩))))
 (.next ⟨[(76,(aD qq (pi 1)))],[]⟩))
 (.exit 6 ⟨[(77,(aj qq SK))],[]⟩))
def VX (b:Nat→PC):PT:=
 (.brk ⟨[(20,(pi 0)),(19,(.llen nw)),(18,nw)],[(77829,pL),(73733,pL),(69637,pL),(65541,pL),(5,(.setc fW 0 (.mk [(af 15 (.mk [r0])),pL,pL,pL,pL]))),(4,fW),(2,(.mk [r0]))]⟩
(ayU b)
 (.brk ⟨[(38,(pi 0)),(37,(.llen (pc o2 17))),(36,(pc o2 17))],[]⟩
(ayV b)
 (.brk ⟨[(56,(pi 0)),(55,(.llen (pc o2 16))),(54,(pc o2 16))],[]⟩
(ayW b)
 (.brk ⟨[(76,(pi 0)),(75,vA),(74,(pc o2 18))],[]⟩
(ayX b)
 (.ret (af 19 (.setc o4 0 (.mk [(pc o5 0),(pc o5 1),(pc o5 2),(pc o5 3),(pc o5 4),(pc o5 5),(pc o5 6),(pc o5 7),(pc o5 8),(pc o5 9),(pc o5 10),(pc o5 11),(pc o5 12),(pc o5 13),(pc o5 14),(.o 65541),(.o 69637),(.o 73733),(.o 77829)]))))))))
def atu (b:Nat→PC):PT×List (Shp×PT):=(VX b,[(.lp 0 [20,21] [65541,5] [20] [65541,5],Dy b),(.lp 2 [38,39] [73733,5] [38] [73733,5],Dz b),(.lp 4 [56,57] [5,69637] [56] [5,69637],DA b),(.lp 6 [76,77] [5,77829] [76] [5,77829],DB b)])
theorem xP:Ax.map told=some (atu (ar Ax)):=by kernel_rfl
theorem aFA:tree KF=VX qH:=aA xP
theorem Tu:round 0 [20,21] [65541,5] [20] [65541,5] (qH 0)=Dy qH:=aZ xP 0 fun _=>rfl
theorem Tv:round 2 [38,39] [73733,5] [38] [73733,5] (qH 1)=Dz qH:=aZ xP 1 fun _=>rfl
theorem Tw:round 4 [56,57] [5,69637] [56] [5,69637] (qH 2)=DA qH:=aZ xP 2 fun _=>rfl
theorem Tx:round 6 [76,77] [5,77829] [76] [5,77829] (qH 3)=DB qH:=aZ xP 3 fun _=>rfl
theorem aoc:Ax=some KF:=aw xP
noncomputable def Gi:Option PC:=av {ctx with fr:=[4],nh:=[]} Tryz.f54 ((aa ab 54).getD default) []
noncomputable def KL:PC:=au Gi
def V2:PT:=
 (.ret (.pick (aV r0 (pi 0)) (aj r0 r1) pF))
def atA (b:Nat→PC):PT×List (Shp×PT):=(V2,[])
theorem aeQ:Gi.map told=some (atA (ar Gi)):=by kernel_rfl
theorem aFG:tree KL=V2:=aA aeQ
theorem aoi:Gi=some KL:=aw aeQ
noncomputable def EK:Option PC:=av {ctx with fr:=[8,9,10,11],nh:=[]} Tryz.f32 ((aa ab 32).getD default) [4,6]
noncomputable def I2:PC:=au EK
def Ut:PT:=
 (.call ⟨[],[(6,(.mk [r2])),(4,(.mk [r0]))]⟩ [] 14 20 [vz,r3]
 (.ite (ah (.llen (pc (.setc o6 0 cj) 15)) (pi 0))
 (.ret (pi (-1)))
 (.call ⟨[],[(6,(.setc o6 0 cj))]⟩ [] 23 57 [(af 8 o4),r1,(pi 6),(af 19 (.setc o6 0 cj)),r3]
 (.call ⟨[],[]⟩ [] 24 56 [eX]
 (.call ⟨[(29,(af 15 o6)),(27,(af 8 o4)),(9,(.mx kq (pi 0)))],[]⟩ [] 31 81 [(af 19 o6)]
 (.call ⟨[],[]⟩ [] 33 80 [dP,kr,mM,r9]
 (.ite (aH (.tget tg 1) (pi 0))
 (.ret (pi (-1)))
 (.ret (.tget tg 0)))))))))
def arl (b:Nat→PC):PT×List (Shp×PT):=(Ut,[])
theorem adP:EK.map told=some (arl (ar EK)):=by kernel_rfl
theorem aDA:tree I2=Ut:=aA adP
theorem al6:EK=some I2:=aw adP
noncomputable def EJ:Option PC:=av {ctx with fr:=[],nh:=[]} Tryz.f57 ((aa ab 57).getD default) [5,8,77832,10]
noncomputable def I1:PC:=au EJ
def Us:PT:=
 (.call ⟨[],[(10,ns)]⟩ [] 18 34 [fX,r1,r2,(.mk [(.mk [(pc jk 0),(pc jk 1),(pc jk 2),(pc jk 3),(pc jk 4),(pc jk 5),(pc jk 6),(pc jk 7),(pc jk 8),(pc jk 9),(pc jk 10),(pc jk 11),(pc jk 12),(pc jk 13),(pc jk 14),(pc jk 15),(pc jk 16),(pc jk 17),pL]),(pi 0),(pi (-1)),(pi (-1)),(pi (-1)),r4])]
 (.ret (af 5 (.setc bO 0 cA))))
def ark (b:Nat→PC):PT×List (Shp×PT):=(Us,[])
theorem adO:EJ.map told=some (ark (ar EJ)):=by kernel_rfl
theorem aDz:tree I1=Us:=aA adO
theorem al5:EJ=some I1:=aw adO
noncomputable def EI:Option PC:=av {ctx with fr:=[10],nh:=[]} Tryz.f34 ((aa ab 34).getD default) [4,7,8,9]
noncomputable def I0:PC:=au EI
def Ur:PT:=
 (.call ⟨[],[(8,ns),(4,(.mk [r0]))]⟩ [] 16 82 [fX,r1,r2,(af 24 (.mk [r3]))]
 (.iteS ⟨[(10,(.tget ct 1))],[(9,(.setc ns 0 (.tget ct 0)))]⟩ (aH (pc (.setc ns 0 (.tget ct 0)) 2) (pi (-1))) [] [9]
 (.chk (ay (pc o4 4) (pc o9 2))
 (.call ⟨[],[]⟩ [] 31 83 [(pn (pc o4 4) (pc o9 2)),r2,cf]
 (.next ⟨[],[(9,(.setc (.setc o9 0 (.tget mM 0)) 4 (.tget mM 1)))]⟩)))
 (.next ⟨[],[]⟩)
 (.ret (af 5 (.setc o8 0 (af 5 o9))))))
def arj (b:Nat→PC):PT×List (Shp×PT):=(Ur,[])
theorem adN:EI.map told=some (arj (ar EI)):=by kernel_rfl
theorem aDy:tree I0=Ur:=aA adN
theorem al4:EI=some I0:=aw adN
noncomputable def EN:Option PC:=av {ctx with fr:=[9,11,12,13,14],nh:=[]} Tryz.f82 ((aa ab 82).getD default) [4,7,8,10,16394]
noncomputable def I5:PC:=au EN
def Uw:PT:=
 (.call ⟨[],[(16394,pL),(10,(.setc ns 0 (.mk [cF,(pi (-1)),pL,(pi 1)]))),(8,ns),(7,(.mk [r3])),(4,(.mk [r0]))]⟩ [] 19 130 [fX,(af 24 (.mk [r3]))]
 (.ite (ah (.llen (.tget gu 1)) (pi 0))
 (.ret (.tup [Sy,pL]))
 (.call ⟨[(11,(.tget gu 1))],[(7,(.setc o7 0 (.tget gu 0)))]⟩ [] 28 131 [r2]
 (.ite (.nt (.tget fG 1))
 (.ret (.tup [Sy,pL]))
 (.call ⟨[],[]⟩ [] 37 132 [(af 8 o4),r1,(af 24 o7)]
 (.ite (ah (.llen jn) (pi 0))
 (.ret (.tup [Sy,pL]))
 (.call ⟨[],[]⟩ [] 46 133 [(af 8 o4),r1,r2,jn]
 (.ite (ah (pc vI 4) (pi 0))
 (.chk (ay (pc vI 3) (bn (.llen (pc vI 3)) (pi 1)))
 (.ret (.tup [(af 5 (.setc o8 0 (af 5 (.setc vI 2 (pn (pc vI 3) (bn (.llen (pc vI 3)) (pi 1))))))),bp])))
 (.ret (.tup [(af 5 (.setc o8 0 (af 5 vI))),bp]))))))))))
def arp (b:Nat→PC):PT×List (Shp×PT):=(Uw,[])
theorem adS:EN.map told=some (arp (ar EN)):=by kernel_rfl
theorem aDD:tree I5=Uw:=aA adS
theorem al9:EN=some I5:=aw adS
noncomputable def EO:Option PC:=av {ctx with fr:=[5],nh:=[]} Tryz.f130 ((aa ab 130).getD default) [2,3,4]
noncomputable def I6:PC:=au EO
def Ux:PT:=
 (.call ⟨[],[(4,CP),(3,(.mk [r1])),(2,(.mk [r0]))]⟩ [] 10 20 [(af 19 (.mk [r1])),(pc (.mk [r1]) 23)]
 (.call ⟨[(12,(af 24 (.setc o3 0 cf)))],[]⟩ [] 15 173 [(af 8 o2),(af 24 (.setc o3 0 cf))]
 (.ret (.tup [(af 24 (.setc o4 0 bI)),bM]))))
def arq (b:Nat→PC):PT×List (Shp×PT):=(Ux,[])
theorem adT:EO.map told=some (arq (ar EO)):=by kernel_rfl
theorem aDE:tree I6=Ux:=aA adT
theorem ama:EO=some I6:=aw adT
noncomputable def AA:Option PC:=av {ctx with fr:=[4,7,9,11,12,13,14,15,16],nh:=[]} Tryz.f173 ((aa ab 173).getD default) [2,3,5,6,8,10,90,139]
noncomputable def KI:PC:=au AA
noncomputable def zA:Nat→PC:=bk AA
def azh (b:Nat→PC):PC:=.meach 90 [94,95,11,12] [0,1,0,1] [10] (b 0)
def azi (b:Nat→PC):PC:=.meach 139 [143,144,15,16] [0,1,0,1] [10] (b 1)
def TB (b:Nat→PC):PT:=
 (.chk (ay bO bp)
 (.next ⟨[],[(10,(.setn bO bp 0 (.mk [pT,bI])))]⟩))
def TC (b:Nat→PC):PT:=
 (.blockS ⟨[],[]⟩ 3 [145,146,147,148,149] [10]
 (.call ⟨[(146,bM)],[]⟩ [] 148 199 [ct]
 (.chk (ay bO (.r 146))
 (.next ⟨[],[(10,(.setn bO (.r 146) 0 (.r 148)))]⟩)))
 (.next ⟨[],[]⟩))
def tL (b:Nat→PC):PT:=
 (.call ⟨[(7,(.mx (pc (.mk [r1]) 20) (pi 0)))],[(6,(.setc Ef 0 (af 15 (.mk [r1])))),(5,(.setc fW 0 (af 19 (.mk [r1])))),(3,(.mk [r1])),(2,(.mk [r0]))]⟩ [] 30 54 [(pc (.mk [r1]) 19),(.llen (pc (.setc fW 0 (af 19 (.mk [r1]))) 15))]
 (.call ⟨[(48,(aH (pc o3 22) (pi (-1)))),(44,(.pick (.pick (.nt fZ) pT (aj (pc o3 20) (pi (-1)))) pT (aV r7 (.llen (pc o5 15)))))],[]⟩ [(48,true),(44,false)] 51 54 [(pc o3 22),(pi 100001)]
 (.ite (.pick th pT (.pick ga (.nt kV) pF))
 (.ret pL)
 (.chk (ay (pc o5 15) (pc o3 19))
 (.call ⟨[],[(8,(.setc z9 0 (pn (pc o5 15) (pc o3 19))))]⟩ [] 63 54 [(pc (.setc z9 0 (pn (pc o5 15) (pc o3 19))) 6),(pi 100001)]
 (.ite (.nt yx)
 (.ret pL)
 (.chk (.an (aV (pi 20) (pi 0)) (aW (pi 20) cd))
 (.chk (ah (pi 20) (pi 20))
 (.chk (aj (.mlen (.con (.map []))) cd)
 (.chk (aj (.mlen (.put (.con (.map [])) (pi 0) (pc o6 3))) cd)
 (.chk (aj (.mlen (.put (.put (.con (.map [])) (pi 0) (pc o6 3)) (pi 1) (pc o6 14))) cd)
 (.chk (aj (.mlen Ss) cd)
 (.chk (aj (.mlen (.put Ss (pi 3) (pc o6 12))) cd)
 (.chk (aj (.mlen Si) cd)
 (.chk (aj (.mlen (.put Si (pi 5) (pc o3 21))) cd)
 (.blockS ⟨[(10,pN),(9,(.pick (aH (pc o3 22) (pi (-1))) (bn (pc o8 6) (pc o3 22)) (pi 0)))],[(90,(.tup [(.lst []),(.put (.put Si (pi 5) (pc o3 21)) (pi 6) (.pick (aH (pc o3 22) (pi (-1))) (bn (pc o8 6) (pc o3 22)) (pi 0)))])),(10,(.rep (pi 20) cF))]⟩ 0 [] [10]
 (.brk ⟨[],[]⟩
(azh b)
 (.exit 0 ⟨[],[]⟩))
 (.call ⟨[],[(3,(af 24 o3))]⟩ [] 104 197 [(pc o5 16),(.clo 198 [(.ref (af 24 o3))])]
 (.call ⟨[(13,LY)],[]⟩ [] 108 170 [(af 8 o2),(pc o6 9)]
 (.call ⟨[],[]⟩ [] 112 170 [(af 8 o2),(pc o6 10)]
 (.chk (aj (.mlen (.con (.map []))) cd)
 (.chk (aj (.mlen Sz) cd)
 (.chk (aj (.mlen (.put Sz (pi 8) (ah (pc o6 2) (pi (-1))))) cd)
 (.chk (aj (.mlen (.put (.put Sz (pi 8) (ah (pc o6 2) (pi (-1)))) (pi 9) (aH (.ai .and .i64 (pc o6 13) (pi 4)) (pi 0)))) cd)
 (.chk (aj (.mlen LH) cd)
 (.chk (aj (.mlen (.put LH (pi 11) (aH SG SH))) cd)
 (.chk (aj (.mlen (.put (.put LH (pi 11) (aH SG SH)) (pi 12) bU)) cd)
 (.chk (aj (.mlen agv) cd)
 (.blockS ⟨[],[(139,(.tup [(.lst []),(.put agv (pi 14) (aO r9 (pi 0)))]))]⟩ 2 [] [10]
 (.brk ⟨[],[]⟩
(azi b)
 (.exit 2 ⟨[],[]⟩))
 (.call ⟨[],[]⟩ [] 154 200 [(af 19 o5),(pi 0),(pc o3 19)]
 (.chk (ay bO (pi 15))
 (.call ⟨[],[(10,(.setn bO (pi 15) 0 (.r 154)))]⟩ [] 160 200 [(af 19 o5),(pi 1),(pc o3 19)]
 (.chk (ay bO (pi 16))
 (.call ⟨[],[(10,(.setn bO (pi 16) 0 (.r 160)))]⟩ [] 166 200 [(af 19 o5),(pi 2),(pc o3 19)]
 (.chk (ay bO (pi 17))
 (.call ⟨[],[(10,(.setn bO (pi 17) 0 (.r 166)))]⟩ [] 171 200 [(af 19 o5),(pi 3),r7]
 (.chk (ay bO (pi 18))
 (.call ⟨[],[(10,(.setn bO (pi 18) 0 (.r 171)))]⟩ [] 176 200 [(af 19 o5),(pi 4),r7]
 (.chk (ay bO (pi 19))
 (.ret (.setn bO (pi 19) 0 (.r 176)))))))))))))))))))))))))))))))))))))))))
def atx (b:Nat→PC):PT×List (Shp×PT):=(tL b,[(.ea [10],TB b),(.ea [10],TC b)])
theorem IQ:AA.map told=some (atx (ar AA)):=by kernel_rfl
theorem aFE:tree KI=tL zA:=aA IQ
theorem aCh:oZ [10] (zA 0)=TB zA:=Uq IQ 0 fun _=>rfl
theorem aCi:oZ [10] (zA 1)=TC zA:=Uq IQ 1 fun _=>rfl
theorem aog:AA=some KI:=aw IQ
noncomputable def Gf:Option PC:=av {ctx with fr:=[3],nh:=[]} Tryz.f198 ((aa ab 198).getD default) [2]
noncomputable def KJ:PC:=au Gf
def V0:PT:=
 (.ret (aW ko (pc (.deref r1) 19)))
def aty (b:Nat→PC):PT×List (Shp×PT):=(V0,[])
theorem aeO:Gf.map told=some (aty (ar Gf)):=by kernel_rfl
theorem aFD:tree KJ=V0:=aA aeO
theorem aof:Gf=some KJ:=aw aeO
noncomputable def Gj:Option PC:=av {ctx with fr:=[4],nh:=[]} Tryz.f197 ((aa ab 197).getD default) []
noncomputable def KN:PC:=au Gj
def V4:PT:=
 (.call ⟨[],[]⟩ [] 7 217 [r0,r1]
 (.ret (aV r7 (pi 0))))
def atD (b:Nat→PC):PT×List (Shp×PT):=(V4,[])
theorem aeR:Gj.map told=some (atD (ar Gj)):=by kernel_rfl
theorem aFI:tree KN=V4:=aA aeR
theorem aok:Gj=some KN:=aw aeR
noncomputable def AD:Option PC:=av {ctx with fr:=[4,5],nh:=[]} Tryz.f217 ((aa ab 217).getD default) []
noncomputable def KR:PC:=au AD
noncomputable def NW:Nat→PC:=bk AD
def ay3 (b:Nat→PC):PC:=.block 0 [4,8,9] [] (.loop [4,8] [] (b 0))
def DF (b:Nat→PC):PT:=
 (.ite (aj r8 r7)
 (.blockS ⟨[],[]⟩ 1 [4,5,10,11,12,13,14,15,16] []
 (.chk (ay r0 r8)
 (.callc ⟨[(5,r8)],[]⟩ [] 16 r1 [(pn r0 r8)]
 (.ite ct
 (.ret r5)
 (.next ⟨[],[]⟩))))
 (.next ⟨[(8,qm)],[]⟩))
 (.exit 0 ⟨[(9,(aj r8 r7))],[]⟩))
def V8 (b:Nat→PC):PT:=
 (.brk ⟨[(8,(pi 0)),(7,(.llen r0)),(4,(pi 0))],[]⟩
(ay3 b)
 (.ret (pi (-1))))
def atI (b:Nat→PC):PT×List (Shp×PT):=(V8 b,[(.lp 0 [4,8,9] [] [4,8] [],DF b)])
theorem RO:AD.map told=some (atI (ar AD)):=by kernel_rfl
theorem aFM:tree KR=V8 NW:=aA RO
theorem TD:round 0 [4,8,9] [] [4,8] [] (NW 0)=DF NW:=aZ RO 0 fun _=>rfl
theorem aoo:AD=some KR:=aw RO
noncomputable def Gc:Option PC:=av {ctx with fr:=[4],nh:=[]} Tryz.f170 ((aa ab 170).getD default) [2]
noncomputable def Ks:PC:=au Gc
def VL:PT:=
 (.call ⟨[],[(2,(.mk [r0]))]⟩ [] 9 146 [r1,(.llen mJ)]
 (.ite (.nt r9)
 (.ret (pi (-1)))
 (.chk (ay (pc o2 1) r1)
 (.ret (pc (pn (pc o2 1) r1) 1)))))
def ati (b:Nat→PC):PT×List (Shp×PT):=(VL,[])
theorem aeL:Gc.map told=some (ati (ar Gc)):=by kernel_rfl
theorem aFo:tree Ks=VL:=aA aeL
theorem an0:Gc=some Ks:=aw aeL
noncomputable def Gd:Option PC:=av {ctx with fr:=[4],nh:=[]} Tryz.f146 ((aa ab 146).getD default) []
noncomputable def Kw:PC:=au Gd
def VP:PT:=
 (.ret (.pick (aV r0 (pi 0)) (aj r0 r1) pF))
def atm (b:Nat→PC):PT×List (Shp×PT):=(VP,[])
theorem aeM:Gd.map told=some (atm (ar Gd)):=by kernel_rfl
theorem aFs:tree Kw=VP:=aA aeM
theorem an4:Gd=some Kw:=aw aeM
noncomputable def Gg:Option PC:=av {ctx with fr:=[],nh:=[]} Tryz.f199 ((aa ab 199).getD default) [2]
noncomputable def KK:PC:=au Gg
def V1:PT:=
 (.ite r0
 (.ret (.mk [(pc LA 0),(pc LA 1)]))
 (.ret (.mk [(pc LB 0),(pc LB 1)])))
def atz (b:Nat→PC):PT×List (Shp×PT):=(V1,[])
theorem aeP:Gg.map told=some (atz (ar Gg)):=by kernel_rfl
theorem aFF:tree KK=V1:=aA aeP
theorem aoh:Gg=some KK:=aw aeP
noncomputable def Ay:Option PC:=av {ctx with fr:=[],nh:=[]} Tryz.f200 ((aa ab 200).getD default) [3,6,8]
noncomputable def KG:PC:=au Ay
noncomputable def NV:Nat→PC:=bk Ay
def ayY (b:Nat→PC):PC:=.block 0 [12,13] [6] (.loop [12] [6] (b 0))
def DC (b:Nat→PC):PT:=
 (.ite (aj bI bp)
 (.blockS ⟨[],[]⟩ 1 [8,14,15,16,17,18,19,20,25] [8,6]
 (.chk (ay cf bI)
 (.iteS ⟨[],[(8,(.setc z3 0 rB))]⟩ (.pick (ah (pc (.setc z3 0 rB) 0) r1) (ah (pc (.setc z3 0 rB) 1) r2) pF) [] [6]
 (.call ⟨[],[]⟩ [] 29 199 [(aH (pc o8 2) (pi 0))]
 (.ret (.mk [(pc (.setc o6 0 kr) 0),(pc (.setc o6 0 kr) 1)])))
 (.next ⟨[],[]⟩)
 (.next ⟨[],[]⟩)))
 (.next ⟨[(12,(aD bI (pi 1)))],[]⟩))
 (.exit 0 ⟨[(13,(aj bI bp))],[]⟩))
def VY (b:Nat→PC):PT:=
 (.brk ⟨[(12,(pi 0)),(11,(.llen yq)),(10,yq)],[(6,cF)]⟩
(ayY b)
 (.ret SB))
def atv (b:Nat→PC):PT×List (Shp×PT):=(VY b,[(.lp 0 [12,13] [6] [12] [6],DC b)])
theorem RN:Ay.map told=some (atv (ar Ay)):=by kernel_rfl
theorem aFB:tree KG=VY NV:=aA RN
theorem Tz:round 0 [12,13] [6] [12] [6] (NV 0)=DC NV:=aZ RN 0 fun _=>rfl
theorem aod:Ay=some KG:=aw RN
noncomputable def FM:Option PC:=av {ctx with fr:=[2,3,4,11],nh:=[]} Tryz.f131 ((aa ab 131).getD default) []
noncomputable def JO:PC:=au FM
def Va:PT:=
 (.blockS ⟨[],[]⟩ 0 [2,3,4,5,6,7,10,11,12,13,14] []
 (.iteS ⟨[],[]⟩ (.pick (aj r0 (pi 0)) pT (aV r0 (pi 22))) [2,3,11,12,13,14] []
 (.ret (.tup [(pi 0),pF]))
 (.call ⟨[],[]⟩ [] 14 45 [(.lst [(pc qg 0),(pc qg 1),(pc qg 2),(pc qg 3),(pc qg 4),(pc qg 5),(pc qg 6),(pc qg 7),(pc qg 8),(pc qg 9)]),r0]
 (.ite cj
 (.ret (.tup [(pi 0),pT]))
 (.next ⟨[],[]⟩)))
 (.next ⟨[],[]⟩))
 (.ret (.tup [(pi 1),pT])))
def asz (b:Nat→PC):PT×List (Shp×PT):=(Va,[])
theorem aet:FM.map told=some (asz (ar FM)):=by kernel_rfl
theorem aEG:tree JO=Va:=aA aet
theorem ang:FM=some JO:=aw aet
noncomputable def Gl:Option PC:=av {ctx with fr:=[4],nh:=[]} Tryz.f45 ((aa ab 45).getD default) []
noncomputable def KP:PC:=au Gl
def V6:PT:=
 (.call ⟨[],[]⟩ [] 7 103 [r0,r1]
 (.ret (aV r7 (pi 0))))
def atG (b:Nat→PC):PT×List (Shp×PT):=(V6,[])
theorem aeT:Gl.map told=some (atG (ar Gl)):=by kernel_rfl
theorem aFK:tree KP=V6:=aA aeT
theorem aom:Gl=some KP:=aw aeT
noncomputable def AG:Option PC:=av {ctx with fr:=[4,5],nh:=[]} Tryz.f103 ((aa ab 103).getD default) []
noncomputable def KU:PC:=au AG
noncomputable def NZ:Nat→PC:=bk AG
def ay6 (b:Nat→PC):PC:=.block 0 [4,8,9] [] (.loop [4,8] [] (b 0))
def DI (b:Nat→PC):PT:=
 (.ite (aj r8 r7)
 (.chk (ay r0 r8)
 (.ite (ah r1 (pn r0 r8))
 (.ret r8)
 (.next ⟨[(8,qm)],[]⟩)))
 (.exit 0 ⟨[(9,(aj r8 r7))],[]⟩))
def Wb (b:Nat→PC):PT:=
 (.brk ⟨[(8,(pi 0)),(7,(.llen r0)),(4,(pi 0))],[]⟩
(ay6 b)
 (.ret (pi (-1))))
def atL (b:Nat→PC):PT×List (Shp×PT):=(Wb b,[(.lp 0 [4,8,9] [] [4,8] [],DI b)])
theorem RR:AG.map told=some (atL (ar AG)):=by kernel_rfl
theorem aFP:tree KU=Wb NZ:=aA RR
theorem TG:round 0 [4,8,9] [] [4,8] [] (NZ 0)=DI NZ:=aZ RR 0 fun _=>rfl
theorem aor:AG=some KU:=aw RR
noncomputable def zN:Option PC:=av {ctx with fr:=[8,9,11,12,13,14,55,70],nh:=[]} Tryz.f133 ((aa ab 133).getD default) [4,10,53]
noncomputable def Jl:PC:=au zN
noncomputable def Nw:Nat→PC:=bk zN
def ax2 (b:Nat→PC):PC:=.block 0 [] [] (.loop [8,9,10] [10] (b 0))
def SS (b:Nat→PC):PT:=
 (.blockS ⟨[],[]⟩ 1 [8,9,10,11,12,13,14,32,33,35,36,37,38,39,40,41,42,43,44,45,46,49,50,52,53,54,55,56,57,58,68,70,71] [53,10]
 (.chk (ay bO (bn (.llen bO) (pi 1)))
 (.call ⟨[(11,(pn bO (bn (.llen bO) (pi 1))))],[]⟩ [] 41 175 [(af 8 o4),(pn bO (bn (.llen bO) (pi 1))),r2,r3]
 (.ite (ah (.tget kT 0) bp)
 (.ret (.tup [bO,(pi 0)]))
 (.call ⟨[(13,(.tget kT 1)),(12,(.tget kT 0))],[]⟩ [] 50 45 [bO,(.tget kT 0)]
 (.chk (aW (.llen (.app bO (.lst [bI]))) cd)
 (.chk (.nt (.an (.an fH (.an (.nt (.nt bU)) pT)) (.nt (ay (pc o4 4) bI))))
 (.ite (.pick (.nt bU) pT (.pick fH (pc (pn (pc o4 4) bI) 1) pF))
 (.ret (.tup [(.app bO (.lst [bI])),(pi 0)]))
 (.ite fH
 (.ret (.tup [(.app bO (.lst [bI])),(pi 12)]))
 (.next ⟨[(10,pN)],[(10,(.app bO (.lst [bI])))]⟩)))))))))
 (.next ⟨[],[]⟩))
def UK (b:Nat→PC):PT:=
 (.call ⟨[(9,(pi 0)),(8,pL)],[(4,(.mk [r0]))]⟩ [] 19 174 [fX,r1,r2,r3]
 (.chk (.nt (.an (.an (.nt (.nt gu)) pT) (.nt (ay r3 (pi 0)))))
 (.ite (.pick (.nt gu) pT (aH (pn r3 (pi 0)) r1))
 (.ret (.tup [pL,(pi 1)]))
 (.brk ⟨[(10,pN)],[(10,(.lst [r1]))]⟩
(ax2 b)
 (.next ⟨[],[]⟩)))))
def arT (b:Nat→PC):PT×List (Shp×PT):=(UK b,[(.lp 0 [] [] [8,9,10] [10],SS b)])
theorem Rp:zN.map told=some (arT (ar zN)):=by kernel_rfl
theorem aD2:tree Jl=UK Nw:=aA Rp
theorem aCc:round 0 [] [] [8,9,10] [10] (Nw 0)=SS Nw:=aZ Rp 0 fun _=>rfl
theorem amB:zN=some Jl:=aw Rp
noncomputable def Fc:Option PC:=av {ctx with fr:=[8],nh:=[]} Tryz.f174 ((aa ab 174).getD default) [4,9]
noncomputable def Jn:PC:=au Fc
def tK:PT:=
 (.ite (.pick (.pick (.pick (.pick (aj r1 (pi 0)) pT (aV r1 (pc (.setc CN 0 (.llen (pc (.mk [r0]) 4))) 0))) pT (aj r2 (pi 0))) pT (aV r2 (pi 22))) pT (aH (.llen r3) (pi 5)))
 (.ret pF)
 (.call ⟨[],[]⟩ [] 35 201 [r3,(.clo 202 [(.ref (pc (.setc CN 0 (.llen (pc (.mk [r0]) 4))) 0))])]
 (.ret (.nt mN))))
def arV (b:Nat→PC):PT×List (Shp×PT):=(tK,[])
theorem ad7:Fc.map told=some (arV (ar Fc)):=by kernel_rfl
theorem aD5:tree Jn=tK:=aA ad7
theorem amE:Fc=some Jn:=aw ad7
noncomputable def Fe:Option PC:=av {ctx with fr:=[3],nh:=[]} Tryz.f202 ((aa ab 202).getD default) []
noncomputable def Jo:PC:=au Fe
def UM:PT:=
 (.ret (.pick (aj r0 (pi 0)) pT (aV r0 (.deref r1))))
def arW (b:Nat→PC):PT×List (Shp×PT):=(UM,[])
theorem ad8:Fe.map told=some (arW (ar Fe)):=by kernel_rfl
theorem aD4:tree Jo=UM:=aA ad8
theorem amD:Fe=some Jo:=aw ad8
noncomputable def Gk:Option PC:=av {ctx with fr:=[4],nh:=[]} Tryz.f201 ((aa ab 201).getD default) []
noncomputable def KO:PC:=au Gk
def V5:PT:=
 (.call ⟨[],[]⟩ [] 7 218 [r0,r1]
 (.ret (aV r7 (pi 0))))
def atE (b:Nat→PC):PT×List (Shp×PT):=(V5,[])
theorem aeS:Gk.map told=some (atE (ar Gk)):=by kernel_rfl
theorem aFJ:tree KO=V5:=aA aeS
theorem aol:Gk=some KO:=aw aeS
noncomputable def AF:Option PC:=av {ctx with fr:=[4,5],nh:=[]} Tryz.f218 ((aa ab 218).getD default) []
noncomputable def KT:PC:=au AF
noncomputable def NY:Nat→PC:=bk AF
def ay5 (b:Nat→PC):PC:=.block 0 [4,8,9] [] (.loop [4,8] [] (b 0))
def DH (b:Nat→PC):PT:=
 (.ite (aj r8 r7)
 (.blockS ⟨[],[]⟩ 1 [4,5,10,11,12,13,14,15,16] []
 (.chk (ay r0 r8)
 (.callc ⟨[(5,r8)],[]⟩ [] 16 r1 [(pn r0 r8)]
 (.ite ct
 (.ret r5)
 (.next ⟨[],[]⟩))))
 (.next ⟨[(8,qm)],[]⟩))
 (.exit 0 ⟨[(9,(aj r8 r7))],[]⟩))
def Wa (b:Nat→PC):PT:=
 (.brk ⟨[(8,(pi 0)),(7,(.llen r0)),(4,(pi 0))],[]⟩
(ay5 b)
 (.ret (pi (-1))))
def atK (b:Nat→PC):PT×List (Shp×PT):=(Wa b,[(.lp 0 [4,8,9] [] [4,8] [],DH b)])
theorem RQ:AF.map told=some (atK (ar AF)):=by kernel_rfl
theorem aFO:tree KT=Wa NY:=aA RQ
theorem TF:round 0 [4,8,9] [] [4,8] [] (NY 0)=DH NY:=aZ RQ 0 fun _=>rfl
theorem aoq:AF=some KT:=aw RQ
noncomputable def zO:Option PC:=av {ctx with fr:=[8,9],nh:=[]} Tryz.f175 ((aa ab 175).getD default) [4,11]
noncomputable def Jm:PC:=au zO
noncomputable def Nx:Nat→PC:=bk zO
def ax3 (b:Nat→PC):PC:=.block 0 [8,9,25,26] [] (.loop [8,9,25] [] (b 0))
def C0 (b:Nat→PC):PT:=
 (.ite (aj gU kq)
 (.chk (ay eX gU)
 (.ite (.pick (ah (pc CI 0) r2) (aH (pc CI 1) (pi 0)) pF)
 (.chk (ay r3 (pc CI 1))
 (.ret (.tup [(pn r3 (pc CI 1)),(pc CI 2)])))
 (.next ⟨[(25,(aD gU (pi 1)))],[]⟩)))
 (.exit 0 ⟨[(26,(aj gU kq))],[]⟩))
def UL (b:Nat→PC):PT:=
 (.call ⟨[(9,pF),(8,(pi 0))],[(4,(.mk [r0]))]⟩ [] 16 174 [fX,r1,r2,r3]
 (.ite (.nt ct)
 (.ret (.tup [(pi (-1)),pF]))
 (.chk (ay (pc o4 4) r1)
 (.brk ⟨[(25,(pi 0)),(24,(.llen (pc (pn (pc o4 4) r1) 2))),(23,(pc (pn (pc o4 4) r1) 2))],[]⟩
(ax3 b)
 (.ret (.tup [r1,pF]))))))
def arU (b:Nat→PC):PT×List (Shp×PT):=(UL b,[(.lp 0 [8,9,25,26] [] [8,9,25] [],C0 b)])
theorem Rq:zO.map told=some (arU (ar zO)):=by kernel_rfl
theorem aD3:tree Jm=UL Nx:=aA Rq
theorem SU:round 0 [8,9,25,26] [] [8,9,25] [] (Nx 0)=C0 Nx:=aZ Rq 0 fun _=>rfl
theorem amC:zO=some Jm:=aw Rq
noncomputable def FL:Option PC:=av {ctx with fr:=[7,9,11,12],nh:=[]} Tryz.f83 ((aa ab 83).getD default) [3,6,8,10]
noncomputable def JN:PC:=au FL
def U9:PT:=
 (.call ⟨[],[(6,cF)]⟩ [] 16 134 [(af 4 (.mk [r0])),r1]
 (.ite (aH (.tget ct 1) (pi 0))
 (.ret (.tup [SB,(.tget ct 1)]))
 (.call ⟨[],[]⟩ [] 25 135 [(.mk [(pc (.setc lL 0 (.tget ct 0)) 0),(pc (.setc lL 0 (.tget ct 0)) 1),(pc (.setc lL 0 (.tget ct 0)) 2)]),r2]
 (.call ⟨[],[(10,(.setc cF 0 gU))]⟩ [] 28 131 [r1]
 (.ret (.tup [(.mk [(pc (.setc o6 0 (.mk [(pc LL 0),(pc LL 1)])) 0),(pc (.setc o6 0 (.mk [(pc LL 0),(pc LL 1)])) 1)]),(pi 0)]))))))
def asy (b:Nat→PC):PT×List (Shp×PT):=(U9,[])
theorem aes:FL.map told=some (asy (ar FL)):=by kernel_rfl
theorem aEF:tree JN=U9:=aA aes
theorem anf:FL=some JN:=aw aes
noncomputable def FN:Option PC:=av {ctx with fr:=[5,6,7,8,10,11],nh:=[]} Tryz.f134 ((aa ab 134).getD default) [2,3,4,12292,9]
noncomputable def JP:PC:=au FN
def Vb:PT:=
 (.call ⟨[],[(4,lL),(3,(.mk [r1])),(2,(.mk [r0]))]⟩ [] 14 131 [rH]
 (.ite (.nt (.tget cj 1))
 (.ret (.tup [Sw,(pi 1)]))
 (.call ⟨[(6,(.tget cj 0))],[]⟩ [] 23 176 [(pc o2 3),(.clo 177 [(.ref (pc o3 0))])]
 (.ite (aj eX (pi 0))
 (.ret (.tup [Sw,(pi 4)]))
 (.chk (ay (pc o2 3) eX)
 (.call ⟨[],[(9,LU)]⟩ [] 35 178 [(.mk [(pc LU 0),(pc LU 1),(pc LU 2)])]
 (.ite (.pick (aH (.tget mN 1) (pi 0)) pT (aH (.tget mN 0) r6))
 (.ret (.tup [Sw,(pi 11)]))
 (.ret (.tup [(.mk [(pc Sk 0),(pc Sk 1),(pc Sk 2)]),(pi 0)])))))))))
def asA (b:Nat→PC):PT×List (Shp×PT):=(Vb,[])
theorem aeu:FN.map told=some (asA (ar FN)):=by kernel_rfl
theorem aEI:tree JP=Vb:=aA aeu
theorem ani:FN=some JP:=aw aeu
noncomputable def FO:Option PC:=av {ctx with fr:=[3],nh:=[]} Tryz.f177 ((aa ab 177).getD default) [2]
noncomputable def JQ:PC:=au FO
def Vc:PT:=
 (.ret (ah ko (.deref r1)))
def asB (b:Nat→PC):PT×List (Shp×PT):=(Vc,[])
theorem aev:FO.map told=some (asB (ar FO)):=by kernel_rfl
theorem aEH:tree JQ=Vc:=aA aev
theorem anh:FO=some JQ:=aw aev
noncomputable def AE:Option PC:=av {ctx with fr:=[4,5],nh:=[]} Tryz.f176 ((aa ab 176).getD default) []
noncomputable def KS:PC:=au AE
noncomputable def NX:Nat→PC:=bk AE
def ay4 (b:Nat→PC):PC:=.block 0 [4,8,9] [] (.loop [4,8] [] (b 0))
def DG (b:Nat→PC):PT:=
 (.ite (aj r8 r7)
 (.blockS ⟨[],[]⟩ 1 [4,5,10,11,12,13,14,15,16] []
 (.chk (ay r0 r8)
 (.callc ⟨[(5,r8)],[]⟩ [] 16 r1 [(pn r0 r8)]
 (.ite ct
 (.ret r5)
 (.next ⟨[],[]⟩))))
 (.next ⟨[(8,qm)],[]⟩))
 (.exit 0 ⟨[(9,(aj r8 r7))],[]⟩))
def V9 (b:Nat→PC):PT:=
 (.brk ⟨[(8,(pi 0)),(7,(.llen r0)),(4,(pi 0))],[]⟩
(ay4 b)
 (.ret (pi (-1))))
def atJ (b:Nat→PC):PT×List (Shp×PT):=(V9 b,[(.lp 0 [4,8,9] [] [4,8] [],DG b)])
theorem RP:AE.map told=some (atJ (ar AE)):=by kernel_rfl
theorem aFN:tree KS=V9 NX:=aA RP
theorem TE:round 0 [4,8,9] [] [4,8] [] (NX 0)=DG NX:=aZ RP 0 fun _=>rfl
theorem aop:AE=some KS:=aw RP
noncomputable def Gu:Option PC:=av {ctx with fr:=[2,3],nh:=[]} Tryz.f178 ((aa ab 178).getD default) [1]
noncomputable def K7:PC:=au Gu
def Wj:PT:=
 (.call ⟨[],[(1,(.mk [r0]))]⟩ [] 5 203 [(.mk [ko,mJ,vJ]),(pi 1)]
 (.ite (aO r5 (pi 60))
 (.ret (.tup [(pi 0),(pi 6)]))
 (.call ⟨[],[]⟩ [] 8 204 [(.mk [(pc o1 0),(pc o1 1),(pc o1 2)])]
 (.ret (.tup [(.tget r8 0),(.tget r8 1)])))))
def atY (b:Nat→PC):PT×List (Shp×PT):=(Wj,[])
theorem ae1:Gu.map told=some (atY (ar Gu)):=by kernel_rfl
theorem aFX:tree K7=Wj:=aA ae1
theorem aoC:Gu=some K7:=aw ae1
noncomputable def AN:Option PC:=av {ctx with fr:=[4,5],nh:=[]} Tryz.f203 ((aa ab 203).getD default) [2,7,12295]
noncomputable def Li:PC:=au AN
noncomputable def N4:Nat→PC:=bk AN
def aze (b:Nat→PC):PC:=.block 0 [5,13,14] [] (.loop [5,13] [] (b 0))
def DM (b:Nat→PC):PT:=
 (.ite (aj bU bI)
 (.blockS ⟨[(14,(aj bU bI))],[]⟩ 1 [5,7,15,16,17,18,19,20,21,22,23,24] [7,12295]
 (.chk (ay bp bU)
 (.call ⟨[(17,r5)],[]⟩ [] 21 203 [(.mk [(pc (.setc lL 0 qj) 0),(pc (.setc lL 0 qj) 1),(pc (.setc lL 0 qj) 2)]),(aD r1 (pi 1))]
 (.ite (aO (aD dB fY) (pi 60))
 (.exit 0 ⟨[(5,(aD dB fY))],[]⟩)
 (.next ⟨[(5,(aD dB fY))],[]⟩))))
 (.next ⟨[(13,(aD bU (pi 1)))],[]⟩))
 (.exit 0 ⟨[(14,(aj bU bI))],[]⟩))
def M1 (b:Nat→PC):PT:=
 (.ite (aO r1 (pi 8))
 (.ret (pi 61))
 (.brk ⟨[(13,(pi 0)),(12,oQ),(11,vJ),(5,(pi 1))],[]⟩
(aze b)
 (.ret r5)))
def aua (b:Nat→PC):PT×List (Shp×PT):=(M1 b,[(.lp 0 [5,13,14] [] [5,13] [],DM b)])
theorem RW:AN.map told=some (aua (ar AN)):=by kernel_rfl
theorem ah0:tree Li=M1 N4:=aA RW
theorem TL:round 0 [5,13,14] [] [5,13] [] (N4 0)=DM N4:=aZ RW 0 fun _=>rfl
theorem aoM:AN=some Li:=aw RW
noncomputable def AL:Option PC:=av {ctx with fr:=[2,3,5,7,8,38,47,10,11,12],nh:=[]} Tryz.f204 ((aa ab 204).getD default) [1,4,6,12294,9]
noncomputable def Lb:PC:=au AL
noncomputable def zD:Nat→PC:=bk AL
def azb (b:Nat→PC):PC:=.block 0 [2,3,20,21] [4] (.loop [2,3,20] [4] (b 0))
def azc (b:Nat→PC):PC:=.block 3 [2,3,10,82,83] [] (.loop [2,3,10,82] [] (b 1))
def DK (b:Nat→PC):PT:=
 (.ite (aj cM gu)
 (.blockS ⟨[],[]⟩ 1 [2,3,5,6,7,8,22,23,24,25,26,27,28,29,30,31,33,34,35,36] [6,12294,4]
 (.chk (ay cA cM)
 (.call ⟨[(5,cM)],[]⟩ [] 27 204 [(.mk [(pc (.setc lL 0 (pn cA cM)) 0),(pc (.setc lL 0 (pn cA cM)) 1),(pc (.setc lL 0 (pn cA cM)) 2)])]
 (.ite (aH (.tget dP 1) (pi 0))
 (.ret (.tup [(pi 0),(.tget dP 1)]))
 (.chk (ay o4 r5)
 (.next ⟨[],[(4,(.setn o4 r5 0 (.tget dP 0)))]⟩)))))
 (.next ⟨[(20,(aD cM (pi 1)))],[]⟩))
 (.exit 0 ⟨[(21,(aj cM gu))],[]⟩))
def tw (b:Nat→PC):PT:=
 (.ite (aj jR tq)
 (.chk (ay vQ jR)
 (.ite (.pick (ah (pn vQ jR) (pi (-1))) (ah cf (pi (-1))) pF)
 (.chk (ay o4 jR)
 (.ite (aH (pn o4 jR) (.pick (ah (pn vQ jR) (pi (-1))) (pn o4 jR) (pn vQ jR)))
 (.ret (.tup [(pi 0),(pi 11)]))
 (.next ⟨[(10,(pn o4 jR)),(82,(aD jR (pi 1)))],[]⟩)))
 (.chk (ay o4 jR)
 (.ite (aH (pn o4 jR) (.pick (ah (pn vQ jR) (pi (-1))) cf (pn vQ jR)))
 (.ret (.tup [(pi 0),(pi 11)]))
 (.next ⟨[(82,(aD jR (pi 1)))],[]⟩)))))
 (.exit 3 ⟨[(83,(aj jR tq))],[]⟩))
def Wn (b:Nat→PC):PT:=
 (.chk (.an (aV oQ (pi 0)) (aW oQ cd))
 (.chk (ah oQ oQ)
 (.brk ⟨[(20,(pi 0)),(19,oQ),(18,vJ),(4,pN),(3,(pi 0)),(2,(pi 0))],[(4,(.rep oQ (pi 0))),(1,(.mk [r0]))]⟩
(azb b)
 (.blockS ⟨[],[]⟩ 2 [2,3,38,39,40,41,42,46,47,48,49,50,51,55,56,60] []
 (.iteS ⟨[],[]⟩ (.pick (aj (pc o1 0) (pi 0)) pT (aO (pc o1 0) (pi 13))) [2,3,47,48,49,50,51,55,56,60] []
 (.ret (.tup [(pi 0),(pi 1)]))
 (.iteS ⟨[],[]⟩ (.pick (.pick (ah (pc o1 0) (pi 0)) pT (ah (pc o1 0) (pi 1))) pT (ah (pc o1 0) (pi 2))) [2,3] []
 (.call ⟨[],[]⟩ [] 62 219 [(.mk [(pc o1 0),(pc o1 1),(pc o1 2)])]
 (.ret (.tup [(.tget lO 0),(.tget lO 1)])))
 (.next ⟨[],[]⟩)
 (.next ⟨[],[]⟩))
 (.next ⟨[],[]⟩))
 (.call ⟨[],[]⟩ [] 67 220 [(pc o1 0)]
 (.ite (.pick (aH (.llen o4) (.llen (pc (.setc kj 0 tp) 0))) pT (aH (pc o1 1) (pi 0)))
 (.ret (.tup [(pi 0),(pi 2)]))
 (.brk ⟨[(82,(pi 0)),(81,(.llen (pc (.setc kj 0 tp) 0))),(80,(pc (.setc kj 0 tp) 0)),(10,(pi (-1)))],[(9,(.setc kj 0 tp))]⟩
(azc b)
 (.ite (ah (pc o9 1) (pi (-1)))
 (.ret (.tup [cf,(pi 0)]))
 (.ret (.tup [(pc o9 1),(pi 0)]))))))))))
def at2 (b:Nat→PC):PT×List (Shp×PT):=(Wn b,[(.lp 0 [2,3,20,21] [4] [2,3,20] [4],DK b),(.lp 3 [2,3,10,82,83] [] [2,3,10,82] [],tw b)])
theorem IU:AL.map told=some (at2 (ar AL)):=by kernel_rfl
theorem aF1:tree Lb=Wn zD:=aA IU
theorem TJ:round 0 [2,3,20,21] [4] [2,3,20] [4] (zD 0)=DK zD:=aZ IU 0 fun _=>rfl
theorem yJ:round 3 [2,3,10,82,83] [] [2,3,10,82] [] (zD 1)=tw zD:=aZ IU 1 fun _=>rfl
theorem aoG:AL=some Lb:=aw IU
noncomputable def GA:Option PC:=av {ctx with fr:=[2,3,12,20,4,5],nh:=[]} Tryz.f219 ((aa ab 219).getD default) [1]
noncomputable def Lf:PC:=au GA
def Wq:PT:=
 (.ite (aO oQ (pi 0))
 (.ret (.tup [(pi 0),(pi 2)]))
 (.blockS ⟨[(11,ko)],[(1,(.mk [r0]))]⟩ 0 [2,3,12,13,20,21] []
 (.iteS ⟨[],[]⟩ (ah bp (pi 0)) [2,3,20,21] []
 (.call ⟨[],[]⟩ [] 16 223 [(pc o1 1)]
 (.ite (aH ct (pc o1 1))
 (.ret (.tup [(pi 0),(pi 3)]))
 (.ret (.tup [(pi 0),(pi 0)]))))
 (.ite (ah bp (pi 1))
 (.ite (.pick (aj (pc o1 1) (pi 0)) pT (aO (pc o1 1) (pi 1)))
 (.ret (.tup [(pi 0),(pi 3)]))
 (.ret (.tup [(pi 1),(pi 0)])))
 (.next ⟨[],[]⟩))
 (.next ⟨[],[]⟩))
 (.call ⟨[],[]⟩ [] 33 221 [(pc o1 1)]
 (.ite (.nt (.tget tg 1))
 (.ret (.tup [(pi 0),(pi 10)]))
 (.ret (.tup [(.tget tg 0),(pi 0)]))))))
def at5 (b:Nat→PC):PT×List (Shp×PT):=(Wq,[])
theorem ae7:GA.map told=some (at5 (ar GA)):=by kernel_rfl
theorem aF4:tree Lf=Wq:=aA ae7
theorem aoJ:GA=some Lf:=aw ae7
noncomputable def Gz:Option PC:=av {ctx with fr:=[2],nh:=[]} Tryz.f223 ((aa ab 223).getD default) []
noncomputable def Ld:PC:=au Gz
def Wp:PT:=
 (.ret (.mn (.mx r0 (pi (-1099511627776))) lN))
def at4 (b:Nat→PC):PT×List (Shp×PT):=(Wp,[])
theorem ae6:Gz.map told=some (at4 (ar Gz)):=by kernel_rfl
theorem aF3:tree Ld=Wp:=aA ae6
theorem aoI:Gz=some Ld:=aw ae6
noncomputable def Gw:Option PC:=av {ctx with fr:=[2,3,4,11],nh:=[]} Tryz.f221 ((aa ab 221).getD default) []
noncomputable def K9:PC:=au Gw
def Wl:PT:=
 (.ite (.pick (aj r0 (pi 0)) pT (aO r0 (pi 19)))
 (.ret (.tup [(pi 0),pF]))
 (.ite (aj r0 (pi 7))
 (.ret (.tup [(pi 0),pT]))
 (.ret (.tup [(pi 1),pT]))))
def at0 (b:Nat→PC):PT×List (Shp×PT):=(Wl,[])
theorem ae3:Gw.map told=some (at0 (ar Gw)):=by kernel_rfl
theorem aFZ:tree K9=Wl:=aA ae3
theorem aoE:Gw=some K9:=aw ae3
noncomputable def GD:Option PC:=av {ctx with fr:=[4,8,13,17,21],nh:=[]} Tryz.f220 ((aa ab 220).getD default) [2]
noncomputable def Ll:PC:=au GD
def Wt:PT:=
 (.ite (ah r0 (pi 3))
 (.ret (.mk [(pc (.setc kj 0 (.mk [(.lst [(pi 1)]),(pi 1)])) 0),(pc (.setc kj 0 (.mk [(.lst [(pi 1)]),(pi 1)])) 1)]))
 (.ite (.pick (ah r0 (pi 4)) (ah r0 (pi 4)) (ah r0 (pi 5)))
 (.ret (.mk [(pc (.setc kj 0 (.mk [(.lst [(pi 1),(pi 1)]),(pi 1)])) 0),(pc (.setc kj 0 (.mk [(.lst [(pi 1),(pi 1)]),(pi 1)])) 1)]))
 (.ite (ah r0 (pi 6))
 (.ret (.mk [(pc (.setc kj 0 (.mk [(.lst [(pi 1),(pi (-1)),(pi (-1))]),(pi (-1))])) 0),(pc (.setc kj 0 (.mk [(.lst [(pi 1),(pi (-1)),(pi (-1))]),(pi (-1))])) 1)]))
 (.ite (ah r0 (pi 7))
 (.ret (.mk [(pc (.setc kj 0 (.mk [(.lst [(pi 0),(pi 0)]),(pi 1)])) 0),(pc (.setc kj 0 (.mk [(.lst [(pi 0),(pi 0)]),(pi 1)])) 1)]))
 (.ite (ah r0 (pi 8))
 (.ret (.mk [(pc (.setc kj 0 (.mk [(.lst [(pi (-1)),(pi (-1))]),(pi 1)])) 0),(pc (.setc kj 0 (.mk [(.lst [(pi (-1)),(pi (-1))]),(pi 1)])) 1)]))
 (.ret (.mk [(pc (.setc kj 0 (.mk [(.lst [(pi 0),(pi 0)]),(pi 0)])) 0),(pc (.setc kj 0 (.mk [(.lst [(pi 0),(pi 0)]),(pi 0)])) 1)])))))))
def auc (b:Nat→PC):PT×List (Shp×PT):=(Wt,[])
theorem afa:GD.map told=some (auc (ar GD)):=by kernel_rfl
theorem aF8:tree Ll=Wt:=aA afa
theorem aoO:GD=some Ll:=aw afa
noncomputable def Gv:Option PC:=av {ctx with fr:=[5,6,8],nh:=[]} Tryz.f135 ((aa ab 135).getD default) [2,4,7]
noncomputable def K8:PC:=au Gv
def Wk:PT:=
 (.call ⟨[],[(4,cF),(2,(.mk [r0]))]⟩ [] 11 178 [(.mk [ko,mJ,vJ])]
 (.ite (aH (.tget bp 1) (pi 0))
 (.ret CR)
 (.call ⟨[],[]⟩ [] 21 179 [(.mk [r1]),(.mk [(pc o2 0),(pc o2 1),(pc o2 2)])]
 (.ret (.mk [(pc agh 0),(pc agh 1)])))))
def atZ (b:Nat→PC):PT×List (Shp×PT):=(Wk,[])
theorem ae2:Gv.map told=some (atZ (ar Gv)):=by kernel_rfl
theorem aFY:tree K8=Wk:=aA ae2
theorem aoD:Gv=some K8:=aw ae2
noncomputable def AM:Option PC:=av {ctx with fr:=[5,15,21,9,11],nh:=[]} Tryz.f179 ((aa ab 179).getD default) [2,3,4,6,33,7,8,10,12298,12]
noncomputable def Lg:PC:=au AM
noncomputable def N3:Nat→PC:=bk AM
def azd (b:Nat→PC):PC:=.block 1 [45,46] [7,8] (.loop [45] [7,8] (b 0))
def DL (b:Nat→PC):PT:=
 (.ite (aj nB th)
 (.blockS ⟨[],[]⟩ 2 [9,10,47,48,49,50,51,52,53,54,55,56,57,58,59,60,61] [10,12298,8,7]
 (.chk (ay oU nB)
 (.call ⟨[(54,nB),(52,nB)],[]⟩ [] 57 179 [(.mk [(pc o2 0)]),(.mk [(pc (.setc lL 0 (pn oU nB)) 0),(pc (.setc lL 0 (pn oU nB)) 1),(pc (.setc lL 0 (pn oU nB)) 2)])]
 (.chk (ay o7 tn)
 (.chk (ay o8 qo)
 (.next ⟨[],[(8,(.setn o8 qo 0 (.tget rI 1))),(7,(.setn o7 tn 0 (.tget rI 0)))]⟩)))))
 (.next ⟨[(45,(aD nB (pi 1)))],[]⟩))
 (.exit 1 ⟨[(46,(aj nB th))],[]⟩))
def D7 (b:Nat→PC):PT:=
 (.blockS ⟨[(14,rH)],[(4,cF),(3,(.mk [r1])),(2,(.mk [r0]))]⟩ 0 [5,15,16,21,22] [4]
 (.iteS ⟨[],[]⟩ (.pick (ah cj (pi 0)) (ah cj (pi 0)) (ah cj (pi 1))) [5,21,22] [4]
 (.ret (.tup [(.mk [(pc (.setc o4 0 (.mk [pT,(pc o3 1)])) 0),(pc (.setc o4 0 (.mk [pT,(pc o3 1)])) 1)]),pL]))
 (.iteS ⟨[],[]⟩ (ah cj (pi 2)) [5] [4]
 (.call ⟨[],[]⟩ [] 26 205 [(.mk [(pc o2 0)]),(pc o3 1)]
 (.ite (pc (.setc cF 0 jQ) 0)
 (.ret (.tup [(.mk [(pc (.setc o4 0 (.mk [(pc (.setc cF 0 jQ) 0),(pc (.setc cF 0 jQ) 1)])) 0),(pc (.setc o4 0 (.mk [(pc (.setc cF 0 jQ) 0),(pc (.setc cF 0 jQ) 1)])) 1)]),pL]))
 (.ret (.tup [CR,(.lst [(pc o3 1)])]))))
 (.next ⟨[],[]⟩)
 (.next ⟨[],[]⟩))
 (.next ⟨[],[]⟩))
 (.chk (.an (aV ny (pi 0)) (aW ny cd))
 (.chk (ah ny ny)
 (.brk ⟨[(45,(pi 0)),(44,ny),(43,(pc o3 2)),(8,pN),(7,pN)],[(8,(.rep ny pL)),(7,(.rep ny cF))]⟩
(azd b)
 (.chk (.nt (.an (.an (ah (pc o3 0) (pi 6)) pT) (.nt (ay o7 (pi 0)))))
 (.ite (.pick (ah (pc o3 0) (pi 6)) (pc (pn o7 (pi 0)) 0) pF)
 (.chk (ay o7 (pi 0))
 (.chk (ay o7 CV)
 (.chk (ay o8 CV)
 (.ret (.tup [(.mk [(pc (.setc o4 0 (.sub (pn o7 CV) 0 2)) 0),(pc (.setc o4 0 (.sub (pn o7 CV) 0 2)) 1)]),(pn o8 CV)])))))
 (.call ⟨[],[]⟩ [] 88 206 [(pc o3 0),o7]
 (.ite (pc (.setc cF 0 vR) 0)
 (.ret (.tup [(.mk [(pc (.setc o4 0 (.mk [(pc (.setc cF 0 vR) 0),(pc (.setc cF 0 vR) 1)])) 0),(pc (.setc o4 0 (.mk [(pc (.setc cF 0 vR) 0),(pc (.setc cF 0 vR) 1)])) 1)]),pL]))
 (.call ⟨[(92,rG)],[]⟩ [] 94 207 [o8]
 (.ret (.tup [(.mk [(pc (.setc o4 0 SN) 0),(pc (.setc o4 0 SN) 1)]),r94])))))))))))
def at6 (b:Nat→PC):PT×List (Shp×PT):=(D7 b,[(.lp 1 [45,46] [7,8] [45] [7,8],DL b)])
theorem RV:AM.map told=some (at6 (ar AM)):=by kernel_rfl
theorem aF5:tree Lg=D7 N3:=aA RV
theorem TK:round 1 [45,46] [7,8] [45] [7,8] (N3 0)=DL N3:=aZ RV 0 fun _=>rfl
theorem aoK:AM=some Lg:=aw RV
noncomputable def GB:Option PC:=av {ctx with fr:=[5,6],nh:=[]} Tryz.f205 ((aa ab 205).getD default) [2,4]
noncomputable def Lh:PC:=au GB
def Wr:PT:=
 (.chk (.nt (.an (.an (.nt (aV r1 (.llen ko))) pT) (.nt (ay ko r1))))
 (.ite (.pick (aV r1 (.llen ko)) pT (.nt (pc (pn ko r1) 0)))
 (.ret (.mk [(pc (.setc cF 0 rG) 0),(pc (.setc cF 0 rG) 1)]))
 (.call ⟨[],[(4,cF),(2,(.mk [r0]))]⟩ [] 24 221 [r1]
 (.iteS ⟨[],[]⟩ (ah (.tget kq 0) (pi 1)) [] [4]
 (.chk (ay (pc o2 0) r1)
 (.call ⟨[],[]⟩ [] 36 222 [(aH (pc (pn (pc o2 0) r1) 1) (pi 0))]
 (.ret (.mk [(pc (.setc o4 0 gJ) 0),(pc (.setc o4 0 gJ) 1)]))))
 (.next ⟨[],[]⟩)
 (.chk (ay (pc o2 0) r1)
 (.call ⟨[],[]⟩ [] 43 223 [(pc (pn (pc o2 0) r1) 1)]
 (.ret (.mk [(pc (.setc o4 0 (.mk [pT,oU])) 0),(pc (.setc o4 0 (.mk [pT,oU])) 1)]))))))))
def at7 (b:Nat→PC):PT×List (Shp×PT):=(Wr,[])
theorem ae8:GB.map told=some (at7 (ar GB)):=by kernel_rfl
theorem aF6:tree Lh=Wr:=aA ae8
theorem aoL:GB=some Lh:=aw ae8
noncomputable def GF:Option PC:=av {ctx with fr:=[],nh:=[]} Tryz.f222 ((aa ab 222).getD default) [2]
noncomputable def Lm:PC:=au GF
def Wu:PT:=
 (.ite r0
 (.ret (.mk [(pc LA 0),(pc LA 1)]))
 (.ret (.mk [(pc LB 0),(pc LB 1)])))
def aud (b:Nat→PC):PT×List (Shp×PT):=(Wu,[])
theorem afb:GF.map told=some (aud (ar GF)):=by kernel_rfl
theorem aF9:tree Lm=Wu:=aA afb
theorem aoP:GF=some Lm:=aw afb
noncomputable def Gy:Option PC:=av {ctx with fr:=[9,22,41,6,7,82,88,94],nh:=[]} Tryz.f206 ((aa ab 206).getD default) [4,5]
noncomputable def Lc:PC:=au Gy
def Wo:PT:=
 (.blockS ⟨[(8,r0)],[(4,cF)]⟩ 0 [9,10,22,23] [4]
 (.iteS ⟨[],[]⟩ (ah r8 (pi 3)) [22,23] [4]
 (.chk (ay r1 (pi 0))
 (.iteS ⟨[],[]⟩ (pc (pn r1 (pi 0)) 0) [] [4]
 (.chk (ay r1 (pi 0))
 (.call ⟨[],[]⟩ [] 20 222 [(ah (pc (pn r1 (pi 0)) 1) (pi 0))]
 (.ret (.mk [(pc (.setc o4 0 cM) 0),(pc (.setc o4 0 cM) 1)]))))
 (.next ⟨[],[]⟩)
 (.ret CR)))
 (.iteS ⟨[],[]⟩ (.pick (ah r8 (pi 4)) (ah r8 (pi 4)) (ah r8 (pi 5))) [] [4]
 (.call ⟨[],[]⟩ [] 27 222 [(ah r0 (pi 5))]
 (.chk (ay r1 (pi 0))
 (.chk (.nt (.an (.an (.nt agb) pT) (.nt (ay r1 (pi 1)))))
 (.ite (.pick agb pT (.an (.cb .eql (pc oT 0) (pc yt 0)) (.an (ah (pc oT 1) (pc yt 1)) pT)))
 (.ret (.mk [(pc (.setc o4 0 yt) 0),(pc (.setc o4 0 yt) 1)]))
 (.next ⟨[],[]⟩)))))
 (.ite (ah r8 (pi 6))
 (.chk (ay r1 (pi 1))
 (.chk (.nt (.an (.an (pc oT 0) pT) (.nt (ay r1 (pi 1)))))
 (.chk (.nt (.an (.an (pc oT 0) pT) (.nt (ay r1 (pi 2)))))
 (.ite (.pick (pc oT 0) (.an (.cb .eql (pc oT 0) (pc (pn r1 (pi 2)) 0)) (.an (ah (pc oT 1) (pc (pn r1 (pi 2)) 1)) pT)) pF)
 (.ret (.mk [(pc (.setc o4 0 oT) 0),(pc (.setc o4 0 oT) 1)]))
 (.ret CR)))))
 (.next ⟨[],[]⟩))
 (.next ⟨[],[]⟩))
 (.next ⟨[],[]⟩))
 (.chk (ay r1 (pi 0))
 (.chk (.nt (.an (.an (.nt (.nt (pc (pn r1 (pi 0)) 0))) pT) (.nt (ay r1 (pi 1)))))
 (.ite (.pick (.nt (pc (pn r1 (pi 0)) 0)) pT (.nt (pc oT 0)))
 (.ret CR)
 (.chk (ay r1 (pi 1))
 (.blockS ⟨[(81,r0),(7,(pc oT 1)),(6,(pc (pn r1 (pi 0)) 1))],[]⟩ 1 [82,83,88,89,94,95] [4]
 (.iteS ⟨[],[]⟩ (.pick (ah tq (pi 4)) (ah tq (pi 4)) (ah tq (pi 5))) [88,89,94,95] [4]
 (.call ⟨[],[]⟩ [] 87 222 [(ah r0 (pi 4))]
 (.ret (.mk [(pc (.setc o4 0 yA) 0),(pc (.setc o4 0 yA) 1)])))
 (.iteS ⟨[],[]⟩ (ah tq (pi 7)) [94,95] [4]
 (.call ⟨[],[]⟩ [] 93 222 [(aj r6 r7)]
 (.ret (.mk [(pc (.setc o4 0 L5) 0),(pc (.setc o4 0 L5) 1)])))
 (.iteS ⟨[],[]⟩ (ah tq (pi 8)) [] [4]
 (.call ⟨[],[]⟩ [] 99 222 [(ah r6 r7)]
 (.ret (.mk [(pc (.setc o4 0 r99) 0),(pc (.setc o4 0 r99) 1)])))
 (.next ⟨[],[]⟩)
 (.next ⟨[],[]⟩))
 (.next ⟨[],[]⟩))
 (.next ⟨[],[]⟩))
 (.call ⟨[],[]⟩ [] 103 224 [r0,r6,r7]
 (.ret (.mk [(pc (.setc o4 0 (.mk [pT,agy])) 0),(pc (.setc o4 0 (.mk [pT,agy])) 1)])))))))))
def at3 (b:Nat→PC):PT×List (Shp×PT):=(Wo,[])
theorem ae5:Gy.map told=some (at3 (ar Gy)):=by kernel_rfl
theorem aF2:tree Lc=Wo:=aA ae5
theorem aoH:Gy=some Lc:=aw ae5
noncomputable def Gx:Option PC:=av {ctx with fr:=[6,8,14,20,25],nh:=[]} Tryz.f224 ((aa ab 224).getD default) []
noncomputable def La:PC:=au Gx
def Wm:PT:=
 (.blockS ⟨[(7,r0)],[]⟩ 0 [6,8,9,14,15,20,21,25,26] []
 (.iteS ⟨[],[]⟩ (ah r7 (pi 9)) [6,14,15,20,21,25,26] []
 (.call ⟨[],[]⟩ [] 13 223 [(aD r1 r2)]
 (.ret bU))
 (.iteS ⟨[],[]⟩ (ah r7 (pi 10)) [6,20,21,25,26] []
 (.call ⟨[],[]⟩ [] 19 223 [(bn r1 r2)]
 (.ret gu))
 (.iteS ⟨[],[]⟩ (ah r7 (pi 11)) [6,25,26] []
 (.call ⟨[],[]⟩ [] 24 228 [r1,r2]
 (.ret kq))
 (.ite (ah r7 (pi 12))
 (.ret (.mn r1 r2))
 (.next ⟨[],[]⟩))
 (.next ⟨[],[]⟩))
 (.next ⟨[],[]⟩))
 (.next ⟨[],[]⟩))
 (.ret (.mx r1 r2)))
def at1 (b:Nat→PC):PT×List (Shp×PT):=(Wm,[])
theorem ae4:Gx.map told=some (at1 (ar Gx)):=by kernel_rfl
theorem aF0:tree La=Wm:=aA ae4
theorem aoF:Gx=some La:=aw ae4
noncomputable def GC:Option PC:=av {ctx with fr:=[4,5,6,7],nh:=[]} Tryz.f228 ((aa ab 228).getD default) []
noncomputable def Lj:PC:=au GC
def Ws:PT:=
 (.call ⟨[],[]⟩ [] 19 153 [(.conv .u64 (.mx r0 (bn (pi 0) r0))),(.conv .u64 (.mx r1 (bn (pi 0) r1)))]
 (.ite (.cb .neq (aj r0 (pi 0)) (aj r1 (pi 0)))
 (.ret (bn (pi 0) agq))
 (.ret agq)))
def aub (b:Nat→PC):PT×List (Shp×PT):=(Ws,[])
theorem ae9:GC.map told=some (aub (ar GC)):=by kernel_rfl
theorem aF7:tree Lj=Ws:=aA ae9
theorem aoN:GC=some Lj:=aw ae9
noncomputable def E1:Option PC:=av {ctx with fr:=[4,5,6,7,8,9,10,11,12,13],nh:=[]} Tryz.f153 ((aa ab 153).getD default) []
noncomputable def I7:PC:=au E1
def Uz:PT:=
 (.chk yp
 (.ret (.tup [(.ai .add .u64 (.ai .add .u64 (.ai .mul .u64 rC (.ai .shr .u64 r1 tc)) (.ai .shr .u64 agp tc)) (.ai .shr .u64 (.ai .add .u64 (.ai .and .u64 agp vG) (.ai .mul .u64 (.ai .and .u64 r0 vG) (.ai .shr .u64 r1 tc))) tc)),(.ai .mul .u64 r0 r1)])))
def arD (b:Nat→PC):PT×List (Shp×PT):=(Uz,[])
theorem adW:E1.map told=some (arD (ar E1)):=by kernel_rfl
theorem aDQ:tree I7=Uz:=aA adW
theorem amm:E1=some I7:=aw adW
noncomputable def AB:Option PC:=av {ctx with fr:=[2,3,5,8],nh:=[]} Tryz.f207 ((aa ab 207).getD default) [6]
noncomputable def KM:PC:=au AB
noncomputable def zB:Nat→PC:=bk AB
def ay1 (b:Nat→PC):PC:=.block 0 [3,11,12] [] (.loop [3,11] [] (b 0))
def ay2 (b:Nat→PC):PC:=.block 2 [6,27,28] [6] (.loop [6,27] [6] (b 1))
def Mp (b:Nat→PC):PT:=
 (.ite (aj bp cf)
 (.chk (ay r9 bp)
 (.ite (aj (aD r3 (.llen (pn r9 bp))) (pi 0))
 (.chk (.nt pT)
 (.chk (.nt pT)
 (.next ⟨[(3,(aD r3 (.llen (pn r9 bp)))),(11,(aD bp (pi 1)))],[]⟩)))
 (.next ⟨[(3,(aD r3 (.llen (pn r9 bp)))),(11,(aD bp (pi 1)))],[]⟩)))
 (.exit 0 ⟨[(12,(aj bp cf))],[]⟩))
def Mq (b:Nat→PC):PT:=
 (.ite (aj dP jQ)
 (.chk (ay gU dP)
 (.chk (aW (.llen (.app o6 (pn gU dP))) cd)
 (.next ⟨[(6,pN),(27,(aD dP (pi 1)))],[(6,(.app o6 (pn gU dP)))]⟩)))
 (.exit 2 ⟨[(28,(aj dP jQ))],[]⟩))
def V3 (b:Nat→PC):PT:=
 (.brk ⟨[(11,(pi 0)),(10,(.llen r0)),(9,r0),(3,(pi 0))],[]⟩
(ay1 b)
 (.call ⟨[],[]⟩ [] 24 225 [pL,r3]
 (.brk ⟨[(27,(pi 0)),(26,(.llen r0)),(25,r0),(6,pN)],[(6,kq)]⟩
(ay2 b)
 (.ret o6))))
def atC (b:Nat→PC):PT×List (Shp×PT):=(V3 b,[(.lp 0 [3,11,12] [] [3,11] [],Mp b),(.lp 2 [6,27,28] [6] [6,27] [6],Mq b)])
theorem IS:AB.map told=some (atC (ar AB)):=by kernel_rfl
theorem aFH:tree KM=V3 zB:=aA IS
theorem agU:round 0 [3,11,12] [] [3,11] [] (zB 0)=Mp zB:=aZ IS 0 fun _=>rfl
theorem agV:round 2 [6,27,28] [6] [6,27] [6] (zB 1)=Mq zB:=aZ IS 1 fun _=>rfl
theorem aoj:AB=some KM:=aw IS
noncomputable def EL:Option PC:=av {ctx with fr:=[2],nh:=[]} Tryz.f56 ((aa ab 56).getD default) [1]
noncomputable def I3:PC:=au EL
def Uu:PT:=
 (.ite (.pick (aH (pc (.mk [r0]) 4) (pi 0)) pT (.nt ko))
 (.ret (pi (-1)))
 (.ret mJ))
def arn (b:Nat→PC):PT×List (Shp×PT):=(Uu,[])
theorem adQ:EL.map told=some (arn (ar EL)):=by kernel_rfl
theorem aDB:tree I3=Uu:=aA adQ
theorem al7:EL=some I3:=aw adQ
noncomputable def Az:Option PC:=av {ctx with fr:=[2,4],nh:=[]} Tryz.f81 ((aa ab 81).getD default) [1,3,6,8]
noncomputable def KH:PC:=au Az
noncomputable def zz:Nat→PC:=bk Az
def ayZ (b:Nat→PC):PC:=.block 0 [3,16,17] [3] (.loop [3,16] [3] (b 0))
def ay0 (b:Nat→PC):PC:=.block 2 [2,3,36,37] [3] (.loop [2,3,36] [3] (b 1))
def DD (b:Nat→PC):PT:=
 (.ite (aj ct bM)
 (.chk (ay cj ct)
 (.ite (.pick (ah r4 (pi 1)) (ah (pc (.setc z9 0 qh) 0) (pi 1)) pF)
 (.chk (aW (.llen (.app o3 (.lst [(pc (.setc z9 0 qh) 6)]))) cd)
 (.next ⟨[(3,pN),(16,(aD ct (pi 1)))],[(3,(.app o3 (.lst [(pc (.setc z9 0 qh) 6)])))]⟩))
 (.next ⟨[(16,(aD ct (pi 1)))],[]⟩)))
 (.exit 0 ⟨[(17,(aj ct bM))],[]⟩))
def vV (b:Nat→PC):PT:=
 (.ite (aj gJ mN)
 (.chk (ay SI gJ)
 (.ite (.pick (ah r4 (pi 0)) (ah (pc CK 0) (pi 2)) pF)
 (.ret (pc CK 6))
 (.ite (.pick (ah r4 (pi 1)) (ah (pc CK 0) (pi 1)) pF)
 (.chk (aW (.llen (.app o3 (.lst [(pc CK 6)]))) cd)
 (.next ⟨[(3,pN),(36,(aD gJ (pi 1)))],[(3,(.app o3 (.lst [(pc CK 6)])))]⟩))
 (.next ⟨[(36,(aD gJ (pi 1)))],[]⟩))))
 (.exit 2 ⟨[(37,(aj gJ mN))],[]⟩))
def VZ (b:Nat→PC):PT:=
 (.brk ⟨[(16,(pi 0)),(15,(.llen nw)),(14,nw),(4,vC),(3,pN),(2,(pi 0))],[(3,pL),(1,(.mk [r0]))]⟩
(ayZ b)
 (.brk ⟨[(36,(pi 0)),(35,(.llen (pc o1 17))),(34,(pc o1 17))],[]⟩
(ay0 b)
 (.ite (ah (.llen o3) (pi 0))
 (.ret (pi (-1)))
 (.call ⟨[],[]⟩ [] 66 129 [o3]
 (.ret r66)))))
def atw (b:Nat→PC):PT×List (Shp×PT):=(VZ b,[(.lp 0 [3,16,17] [3] [3,16] [3],DD b),(.lp 2 [2,3,36,37] [3] [2,3,36] [3],vV b)])
theorem IP:Az.map told=some (atw (ar Az)):=by kernel_rfl
theorem aFC:tree KH=VZ zz:=aA IP
theorem TA:round 0 [3,16,17] [3] [3,16] [3] (zz 0)=DD zz:=aZ IP 0 fun _=>rfl
theorem DE:round 2 [2,3,36,37] [3] [2,3,36] [3] (zz 1)=vV zz:=aZ IP 1 fun _=>rfl
theorem aoe:Az=some KH:=aw IP
noncomputable def AI:Option PC:=av {ctx with fr:=[2,3,4],nh:=[]} Tryz.f129 ((aa ab 129).getD default) []
noncomputable def KW:PC:=au AI
noncomputable def N1:Nat→PC:=bk AI
def abc (b:Nat→PC):PC:=.block 0 [3,4,12,13,14,15] [] (.loop [3,4] [] (b 0))
def Mr (b:Nat→PC):PT:=
 (.ite (aj r4 (.llen r0))
 (.chk (ay r0 r4)
 (.next ⟨[(3,(.mn r3 (pn r0 r4))),(4,(aD r4 (pi 1)))],[]⟩))
 (.exit 0 ⟨[(12,r4),(13,r0),(14,(.llen r0)),(15,(aj r4 (.llen r0)))],[]⟩))
def Wd (b:Nat→PC):PT:=
 (.ite (aj (.llen r0) (pi 1))
 (.chk (.nt pT)
 (.chk (.nt pT)
 (.chk (ay r0 (pi 0))
 (.brk ⟨[(4,(pi 1)),(3,(pn r0 (pi 0)))],[]⟩
(abc b)
 (.ret r3)))))
 (.chk (ay r0 (pi 0))
 (.brk ⟨[(4,(pi 1)),(3,(pn r0 (pi 0)))],[]⟩
(abc b)
 (.ret r3))))
def atN (b:Nat→PC):PT×List (Shp×PT):=(Wd b,[(.lp 0 [3,4,12,13,14,15] [] [3,4] [],Mr b)])
theorem RT:AI.map told=some (atN (ar AI)):=by kernel_rfl
theorem aFR:tree KW=Wd N1:=aA RT
theorem agW:round 0 [3,4,12,13,14,15] [] [3,4] [] (N1 0)=Mr N1:=aZ RT 0 fun _=>rfl
theorem aot:AI=some KW:=aw RT
noncomputable def Gn:Option PC:=av {ctx with fr:=[8,9,15,39,58,74,11,12],nh:=[]} Tryz.f80 ((aa ab 80).getD default) [4,5,10]
noncomputable def KX:PC:=au Gn
def MZ:PT:=
 (.blockS ⟨[],[(10,(.setc z3 0 (.mk [(pc (.mk [r1]) 5),(pc (.mk [r1]) 6),(pc (.mk [r1]) 7)]))),(5,(.mk [r1])),(4,(.mk [r0]))]⟩ 0 [8,9,15,16,17,18,19,25,26,32,33,38,39,40,41,42,43,47,48,52,53,57,58,59,60,61,65,66,69,70,73,74,75,76,77,80] []
 (.call ⟨[],[]⟩ [] 17 89 [(af 8 o4)]
 (.call ⟨[(19,(aH dB (pi 0)))],[]⟩ [(19,false)] 23 124 [(af 8 o4),(pc o5 9)]
 (.call ⟨[(26,(.pick gu pT (.nt eX)))],[]⟩ [(26,false)] 30 124 [(af 8 o4),(pc o5 10)]
 (.call ⟨[(33,(.pick jQ pT (.nt fZ)))],[]⟩ [(33,false)] 36 125 [(pc o5 8)]
 (.iteS ⟨[],[]⟩ (.pick tg pT (.nt gJ)) [8,9,39,40,41,42,43,47,48,52,53,57,58,59,60,61,65,66,69,70,73,74,75,76,77,80] []
 (.ret (.tup [(pi 0),(pi 1)]))
 (.iteS ⟨[],[]⟩ (.pick (.pick (.pick (aj (pc bO 0) (pi 0)) pT (aV (pc bO 0) (pi 5))) pT (aj (pc bO 2) (pi 0))) pT (aV (pc bO 2) (pi 2))) [8,9,58,59,60,61,65,66,69,70,73,74,75,76,77,80] []
 (.ret (.tup [(pi 0),(pi 1)]))
 (.call ⟨[(61,(aH r2 (pi (-1))))],[]⟩ [(61,true)] 63 125 [r2]
 (.iteS ⟨[],[]⟩ (.pick (.pick (.pick vN (.nt yx) pF) pT (aj r3 (pi 0))) pT (aO r3 (pi 20000))) [8,9,74,75,76,77,80] []
 (.ret (.tup [(pi 0),(pi 1)]))
 (.call ⟨[],[]⟩ [] 76 126 [(.mk [(pc bO 0),(pc bO 1),(pc bO 2)])]
 (.ite (.pick qq (ah r2 (pi (-1))) pF)
 (.ret (.tup [(pi 0),(pi 4)]))
 (.next ⟨[],[]⟩)))
 (.next ⟨[],[]⟩)))
 (.next ⟨[],[]⟩))
 (.next ⟨[],[]⟩))))))
 (.call ⟨[],[]⟩ [] 85 127 [(af 8 o4),(af 15 o5),r2]
 (.ite (aH (.tget yz 1) (pi 0))
 (.ret (.tup [(pi 0),(.tget yz 1)]))
 (.call ⟨[(11,(.tget yz 0))],[]⟩ [] 92 125 [(.tget yz 0)]
 (.ite (.pick (.nt SN) pT (aO (aD bp r3) (pi 100000)))
 (.ret (.tup [(pi 0),(pi 3)]))
 (.call ⟨[],[]⟩ [] 106 128 [(af 8 o4),(pc o5 10),(aD bp r3)]
 (.ret (.tup [(.tget SF 0),(.tget SF 1)]))))))))
def atO (b:Nat→PC):PT×List (Shp×PT):=(MZ,[])
theorem aeV:Gn.map told=some (atO (ar Gn)):=by kernel_rfl
theorem ahZ:tree KX=MZ:=aA aeV
theorem aou:Gn=some KX:=aw aeV
noncomputable def An:Option PC:=av {ctx with fr:=[2,3,4,5,6,7,10,11,12],nh:=[]} Tryz.f89 ((aa ab 89).getD default) [1,9]
noncomputable def Km:PC:=au An
noncomputable def NP:Nat→PC:=bk An
def ayF (b:Nat→PC):PC:=.block 0 [2,38,39] [] (.loop [2,38] [] (b 0))
def Dp (b:Nat→PC):PT:=
 (.ite (aj jo jn)
 (.blockS ⟨[],[]⟩ 1 [2,9,40,41,42,43,44,45] [9]
 (.chk (ay gJ jo)
 (.call ⟨[],[]⟩ [] 44 146 [(pc (.setc CN 0 (pn gJ jo)) 0),(pi 10)]
 (.ite (.nt th)
 (.ret (pi 1))
 (.next ⟨[],[]⟩))))
 (.next ⟨[(38,(aD jo (pi 1)))],[]⟩))
 (.exit 0 ⟨[(39,(aj jo jn))],[]⟩))
def VG (b:Nat→PC):PT:=
 (.call ⟨[(2,(pi 0))],[(1,(.mk [r0]))]⟩ [] 15 141 [fX]
 (.call ⟨[(5,(.tget bM 2)),(4,(.tget bM 1)),(3,(.tget bM 0))],[]⟩ [] 21 142 [(pc o1 0),(pi 8),(.con (.clo 143 []))]
 (.ite (aH fY (pi 0))
 (.ret fY)
 (.call ⟨[],[(1,(af 8 o1))]⟩ [] 27 142 [r3,(pi 40),(.clo 144 [(.ref (af 8 o1))])]
 (.ite (aH dP (pi 0))
 (.ret dP)
 (.ite (aO ql (pi 20))
 (.ret (pi 6))
 (.brk ⟨[(38,(pi 0)),(37,ql),(36,(pc o1 2))],[]⟩
(ayF b)
 (.call ⟨[],[]⟩ [] 49 142 [r4,(pi 200),(.clo 147 [(.ref o1)])]
 (.ite (aH kU (pi 0))
 (.ret kU)
 (.call ⟨[],[]⟩ [] 55 142 [r5,(pi 20),(.clo 148 [(.ref o1)])]
 (.ite (aH qp (pi 0))
 (.ret qp)
 (.call ⟨[],[]⟩ [] 60 150 [(.sub o1 0 8)]
 (.ite (aH vM (pi 0))
 (.ret vM)
 (.call ⟨[],[]⟩ [] 65 151 [(.sub o1 0 8)]
 (.ret vO)))))))))))))))
def atd (b:Nat→PC):PT×List (Shp×PT):=(VG b,[(.lp 0 [2,38,39] [] [2,38] [],Dp b)])
theorem RH:An.map told=some (atd (ar An)):=by kernel_rfl
theorem aFn:tree Km=VG NP:=aA RH
theorem Tk:round 0 [2,38,39] [] [2,38] [] (NP 0)=Dp NP:=aZ RH 0 fun _=>rfl
theorem anZ:An=some Km:=aw RH
end Rm
