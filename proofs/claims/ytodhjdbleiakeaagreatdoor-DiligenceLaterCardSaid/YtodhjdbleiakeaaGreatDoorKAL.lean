/-
  The functions of this seat, compiled (1).
-/
import Derived.Test.YtodhjdbleiakeaaGreatDoorKAK
import Derived.KernelRfl
set_option linter.unusedVariables false
set_option maxRecDepth 100000
namespace Rm
open Go Go.Proofs Cx
noncomputable def EJ:Option PC:=az {ctx with fr:=[12,13],nh:=[]} Tryz.f7 ((ab af 7).getD default) [6,8,14,15,16]
noncomputable def Iw:PC:=ay EJ
def Ti:PT:=
 (.call ⟨[],[(8,(.mk [r2])),(6,(.mk [r0]))]⟩ [] 17 36 []
 (.call ⟨[(13,iT)],[]⟩ [] 20 37 [(ar 8 o6),(ar 19 o8)]
 (.chk (.nt (.an (.an (.nt ad2) pT) (.nt (au (pc o8 15) r3))))
 (.ite (.pick ad2 pT (aj (.mn r4 r5) (pc (pn (pc o8 15) r3) 6)))
 (.ret dz)
 (.call ⟨[],[]⟩ [] 53 38 [(ar 8 o6),r1,(ar 19 o8),r3,(.mn r4 r5)]
 (.call ⟨[],[(14,(.setc z4 0 Co))]⟩ [] 61 38 [(ar 8 o6),r1,(ar 19 o8),r3,(.mx r4 r5)]
 (.call ⟨[(63,r1),(62,(ar 8 o6))],[(15,(.setc z4 0 sv))]⟩ [] 68 39 [(ar 19 o8),(.mx r4 r5)]
 (.call ⟨[],[]⟩ [] 73 38 [kp,xP,Ky,r3,(.mn r4 r5)]
 (.call ⟨[(75,dz)],[(16,(.setc z4 0 xR))]⟩ [(75,true)] 78 40 [(ar 4 BY),(ar 4 o15)]
 (.ret (.pick (.pick Kz r78 pF) (.an (aq (pc (ar 4 BY) 0) (pc (ar 4 Hr) 0)) (.an (aq (pc (ar 4 BY) 1) (pc (ar 4 Hr) 1)) (.an (aq (pc (ar 4 BY) 2) (pc (ar 4 Hr) 2)) (.an (aq (pc (ar 4 BY) 3) (pc (ar 4 Hr) 3)) pT)))) pF)))))))))))
def aom (b:Nat→PC):PT×List (Shp×PT):=(Ti,[])
theorem acm:EJ.map told=some (aom (ax EJ)):=by kernel_rfl
theorem ay9:tree Iw=Ti:=aC acm
theorem ajT:EJ=some Iw:=aB acm
noncomputable def EM:Option PC:=az {ctx with fr:=[0,7,8],nh:=[]} Tryz.f36 ((ab af 36).getD default) [1,2,3,4,5,6]
noncomputable def Iz:PC:=ay EM
def Tl:PT:=
 (.call ⟨[],[]⟩ [] 9 98 []
 (.call ⟨[(10,(ar 8 adP))],[(1,adP)]⟩ [] 11 99 [(pi 0),(pi (-1))]
 (.call ⟨[],[]⟩ [] 12 38 [cE,(pi 0),bI,(pi 0),(pi 12)]
 (.call ⟨[(13,(ar 8 o1))],[(2,(.setc z4 0 bM))]⟩ [] 14 99 [(pi 0),(pi (-1))]
 (.call ⟨[],[]⟩ [] 15 38 [dz,(pi 0),cL,(pi 0),(pi 13)]
 (.call ⟨[(16,(ar 8 o1))],[(3,(.setc z4 0 fP))]⟩ [] 17 99 [(pi 12),(pi 0)]
 (.call ⟨[],[]⟩ [] 18 38 [dc,(pi 0),iT,(pi 0),(pi 40)]
 (.call ⟨[(19,(ar 8 o1))],[(4,(.setc z4 0 gm))]⟩ [] 20 99 [(pi 12),(pi 1)]
 (.call ⟨[],[]⟩ [] 21 38 [jx,(pi 0),dL,(pi 0),(pi 40)]
 (.call ⟨[(22,(ar 8 o1))],[(5,(.setc z4 0 jU))]⟩ [] 23 99 [(pi 12),(pi 0)]
 (.call ⟨[],[]⟩ [] 24 38 [qQ,(pi 0),iU,(pi 0),(pi 1)]
 (.call ⟨[(51,(ar 8 o1)),(50,(.pick (.pick (.pick (.an (aq (pc (ar 4 o2) 0) (pi 1)) (.an (aq (pc (ar 4 o2) 1) (pi 2)) (.an (aq (pc (ar 4 o2) 2) (pi 1)) (.an (aq (pc (ar 4 o2) 3) (pi 2)) pT)))) (.an (aq (pc (ar 4 o3) 0) (pi 1)) (.an (aq (pc (ar 4 o3) 1) (pi 0)) (.an (aq (pc (ar 4 o3) 2) (pi 1)) (.an (aq (pc (ar 4 o3) 3) (pi 0)) pT)))) pF) (.pick (.an (aq (pc (ar 4 o4) 0) (pi 1)) (.an (aq (pc (ar 4 o4) 1) (pi 1)) (.an (aq (pc (ar 4 o4) 2) (pi 1)) (.an (aq (pc (ar 4 o4) 3) (pi 1)) pT)))) (.an (aq (pc (ar 4 o5) 0) (pi 1)) (.an (aq (pc (ar 4 o5) 1) (pi 2)) (.an (aq (pc (ar 4 o5) 2) (pi 1)) (.an (aq (pc (ar 4 o5) 3) (pi 2)) pT)))) pF) pF) (.an (aq (pc Kl 0) (pi 0)) (.an (aq (pc Kl 1) (pi 0)) (.an (aq (pc Kl 2) (pi 0)) (.an (aq (pc Kl 3) (pi 0)) pT)))) pF))],[]⟩ [(50,true)] 52 99 [(pi 0),(pi (-1))]
 (.call ⟨[],[]⟩ [(50,true)] 53 43 [kY,(pi 0),Cn,(pi 12)]
 (.ret (.pick fQ (aq Co (pi 10)) pF)))))))))))))))
def aop (b:Nat→PC):PT×List (Shp×PT):=(Tl,[])
theorem acp:EM.map told=some (aop (ax EM)):=by kernel_rfl
theorem azc:tree Iz=Tl:=aC acp
theorem ajW:EM=some Iz:=aB acp
noncomputable def EL:Option PC:=az {ctx with fr:=[],nh:=[]} Tryz.f98 ((ab af 98).getD default) [0,24576,28672,32768,1,12289,2,12290,3,12291]
noncomputable def Iy:PC:=ay EL
def Tk:PT:=
 (.ret (.mk [(pc Ca 0),(pc Ca 1),(pc Ca 2),(pc Ca 3),(pc Ca 4),pL,pL,pL]))
def aoo (b:Nat→PC):PT×List (Shp×PT):=(Tk,[])
theorem aco:EL.map told=some (aoo (ax EL)):=by kernel_rfl
theorem azb:tree Iy=Tk:=aC aco
theorem ajV:EL=some Iy:=aB aco
noncomputable def EN:Option PC:=az {ctx with fr:=[],nh:=[]} Tryz.f99 ((ab af 99).getD default) [4,5,6,69638,73734,77830]
noncomputable def IA:PC:=ay EN
def Lv:PT:=
 (.ite (cm r1 (pi 0))
 (.chk (br (.llen adL) cn)
 (.ret (ar 19 (.setc sq 0 (.mk [(pc jR 0),(pc jR 1),(pc jR 2),(pc jR 3),(pc jR 4),(pc jR 5),(pc jR 6),(pc jR 7),(pc jR 8),(pc jR 9),(pc jR 10),(pc jR 11),(pc jR 12),(pc jR 13),(pc jR 14),(pc jR 15),pL,adL,pL])))))
 (.ret (ar 19 (.setc sq 0 (.mk [(pc jv 0),(pc jv 1),(pc jv 2),(pc jv 3),(pc jv 4),(pc jv 5),(pc jv 6),(pc jv 7),(pc jv 8),(pc jv 9),(pc jv 10),(pc jv 11),(pc jv 12),(pc jv 13),(pc jv 14),(pc jv 15),pL,(.lst [(.mk [(pi 2),(pi 0),(pi 1),(pi 0),(pi (-1)),(pi 0),(pi 10),(pi 0),(pi 0)])]),pL])))))
def aoq (b:Nat→PC):PT×List (Shp×PT):=(Lv,[])
theorem acq:EN.map told=some (aoq (ax EN)):=by kernel_rfl
theorem azd:tree IA=Lv:=aC acq
theorem ajX:EN=some IA:=aB acq
noncomputable def Ey:Option PC:=az {ctx with fr:=[],nh:=[]} Tryz.f38 ((ab af 38).getD default) [5,7,10,11,12]
noncomputable def Ig:PC:=ay Ey
def S6:PT:=
 (.call ⟨[],[(10,z4)]⟩ [] 18 100 [hH,r1,(ar 19 (.mk [r2])),r3,r4]
 (.ite (.pick (aj r3 (pi 0)) pT (cm r3 (.llen (pc (.setc Kj 0 gm) 24))))
 (.ret (ar 4 (.setc bP 0 (.mk [(pi 0),(pi 0),(pi 0),(pi 0)]))))
 (.call ⟨[],[(12,z4),(11,(.setc Kj 0 gm))]⟩ [] 31 101 [(ar 31 (.setc Kj 0 gm))]
 (.iteS ⟨[],[(12,(.setc (.setc (.setc uG 0 oo) 1 (pi 2)) 2 (pi 2)))]⟩ (aU (pc BX 30) (pi (-1))) [] [12]
 (.call ⟨[],[]⟩ [] 39 103 [(ar 31 BX),(pi 8)]
 (.call ⟨[],[]⟩ [] 41 104 [(ar 31 BX)]
 (.call ⟨[],[]⟩ [] 42 102 [uY,ot]
 (.call ⟨[],[(12,(.setc uG 1 r42))]⟩ [] 45 103 [(ar 31 BX),(pi 11)]
 (.call ⟨[],[]⟩ [] 47 105 [(ar 31 BX)]
 (.call ⟨[],[]⟩ [] 48 102 [m4,Cm]
 (.next ⟨[],[(12,(.setc uG 2 ko))]⟩)))))))
 (.next ⟨[],[]⟩)
 (.call ⟨[],[]⟩ [] 57 106 [(.lst [(pc uG 0),(pc uG 1),(pc uG 2)])]
 (.ret (ar 4 (.setc bP 0 (ar 4 (.setc uG 3 Cp))))))))))
def an8 (b:Nat→PC):PT×List (Shp×PT):=(S6,[])
theorem ab9:Ey.map told=some (an8 (ax Ey)):=by kernel_rfl
theorem ayV:tree Ig=S6:=aC ab9
theorem ajF:Ey=some Ig:=aB ab9
noncomputable def EA:Option PC:=az {ctx with fr:=[],nh:=[]} Tryz.f100 ((ab af 100).getD default) [5,7,10]
noncomputable def Ii:PC:=ay EA
def S8:PT:=
 (.call ⟨[(12,r1),(11,hH)],[(10,Kj),(7,(.mk [r2])),(5,(.mk [r0]))]⟩ [] 15 30 [(ar 19 (.mk [r2])),r4]
 (.call ⟨[(17,r4),(16,r3)],[]⟩ [] 22 41 [(ar 8 o5),r1,(ar 19 o7),r4]
 (.ret (ar 31 (.setc bP 0 (.mk [bI,bM,fP,dc,iT,qQ]))))))
def aoa (b:Nat→PC):PT×List (Shp×PT):=(S8,[])
theorem acb:EA.map told=some (aoa (ax EA)):=by kernel_rfl
theorem ayX:tree Ii=S8:=aC acb
theorem ajH:EA=some Ii:=aB acb
noncomputable def zO:Option PC:=az {ctx with fr:=[],nh:=[]} Tryz.f30 ((ab af 30).getD default) [2,4,5,65541,69637,73733,77829,7,31,9,49,11,13]
noncomputable def Jv:PC:=ay zO
noncomputable def p7:Nat→PC:=bn zO
def auA (b:Nat→PC):PC:=.block 0 [20,21] [65541,5] (.loop [20] [65541,5] (b 0))
def auB (b:Nat→PC):PC:=.block 2 [38,39] [73733,5] (.loop [38] [73733,5] (b 1))
def auC (b:Nat→PC):PC:=.block 4 [56,57] [5,69637] (.loop [56] [5,69637] (b 2))
def auD (b:Nat→PC):PC:=.block 6 [76,77] [5,77829] (.loop [76] [5,77829] (b 3))
def C3 (b:Nat→PC):PT:=
 (.ite (aj dL jx)
 (.chk (au gm dL)
 (.ite (aV (pc (.setc z9 0 (pn gm dL)) 6) r1)
 (.exit 0 ⟨[(21,(aj dL jx))],[]⟩)
 (.chk (br (.llen (.app (.o 65541) (.lst [(ar 9 (.setc z9 0 (pn gm dL)))]))) cn)
 (.next ⟨[(20,(aN dL (pi 1)))],[(65541,(.app (.o 65541) (.lst [(ar 9 (.setc z9 0 (pn gm dL)))]))),(5,(.setc o5 15 pN))]⟩))))
 (.exit 0 ⟨[(21,(aj dL jx))],[]⟩))
def C4 (b:Nat→PC):PT:=
 (.ite (aj iW kX)
 (.chk (au jV iW)
 (.ite (aV (pc (.setc z9 0 (pn jV iW)) 6) r1)
 (.exit 2 ⟨[(39,(aj iW kX))],[]⟩)
 (.chk (br (.llen (.app (.o 73733) (.lst [(ar 9 (.setc z9 0 (pn jV iW)))]))) cn)
 (.next ⟨[(38,(aN iW (pi 1)))],[(73733,(.app (.o 73733) (.lst [(ar 9 (.setc z9 0 (pn jV iW)))]))),(5,(.setc o5 17 pN))]⟩))))
 (.exit 2 ⟨[(39,(aj iW kX))],[]⟩))
def C5 (b:Nat→PC):PT:=
 (.ite (aj pH u7)
 (.chk (au qU pH)
 (.ite (br (pc (.setc z2 0 (pn qU pH)) 0) (.llen (.o 65541)))
 (.chk (br (.llen adV) cn)
 (.next ⟨[(56,(aN pH (pi 1)))],[(5,(.setc o5 16 pN)),(69637,adV)]⟩))
 (.next ⟨[(56,(aN pH (pi 1)))],[]⟩)))
 (.exit 4 ⟨[(57,(aj pH u7))],[]⟩))
def C6 (b:Nat→PC):PT:=
 (.ite (aj qV Kz)
 (.blockS ⟨[],[]⟩ 7 [13,78,79,80,81,82,83,84,85] [13,77829,5]
 (.chk (au Rc qV)
 (.call ⟨[],[(13,(.setc z3 0 (pn Rc qV)))]⟩ [] 85 86 [(pc (.setc z3 0 (pn Rc qV)) 1),(.llen (.o 65541))]
 (.ite Ct
 (.chk (br (.llen adH) cn)
 (.next ⟨[],[(77829,adH),(5,(.setc o5 18 pN))]⟩))
 (.next ⟨[],[]⟩))))
 (.next ⟨[(76,(aN qV (pi 1)))],[]⟩))
 (.exit 6 ⟨[(77,(aj qV Kz))],[]⟩))
def Uf (b:Nat→PC):PT:=
 (.brk ⟨[(20,(pi 0)),(19,(.llen pB)),(18,pB)],[(77829,pL),(73733,pL),(69637,pL),(65541,pL),(5,(.setc sq 0 (.mk [(ar 15 (.mk [r0])),pL,pL,pL,pL]))),(4,sq),(2,(.mk [r0]))]⟩
(auA b)
 (.brk ⟨[(38,(pi 0)),(37,(.llen (pc o2 17))),(36,(pc o2 17))],[]⟩
(auB b)
 (.brk ⟨[(56,(pi 0)),(55,(.llen (pc o2 16))),(54,(pc o2 16))],[]⟩
(auC b)
 (.brk ⟨[(76,(pi 0)),(75,(.llen (pc o2 18))),(74,(pc o2 18))],[]⟩
(auD b)
 (.ret (ar 19 (.setc o4 0 (.mk [(pc o5 0),(pc o5 1),(pc o5 2),(pc o5 3),(pc o5 4),(pc o5 5),(pc o5 6),(pc o5 7),(pc o5 8),(pc o5 9),(pc o5 10),(pc o5 11),(pc o5 12),(pc o5 13),(pc o5 14),(.o 65541),(.o 69637),(.o 73733),(.o 77829)]))))))))
def api (b:Nat→PC):PT×List (Shp×PT):=(Uf b,[(.lp 0 [20,21] [65541,5] [20] [65541,5],C3 b),(.lp 2 [38,39] [73733,5] [38] [73733,5],C4 b),(.lp 4 [56,57] [5,69637] [56] [5,69637],C5 b),(.lp 6 [76,77] [5,77829] [76] [5,77829],C6 b)])
theorem xh:zO.map told=some (api (ax zO)):=by kernel_rfl
theorem az3:tree Jv=Uf p7:=aC xh
theorem RN:round 0 [20,21] [65541,5] [20] [65541,5] (p7 0)=C3 p7:=be xh 0 fun _=>rfl
theorem RO:round 2 [38,39] [73733,5] [38] [73733,5] (p7 1)=C4 p7:=be xh 1 fun _=>rfl
theorem RP:round 4 [56,57] [5,69637] [56] [5,69637] (p7 2)=C5 p7:=be xh 2 fun _=>rfl
theorem RQ:round 6 [76,77] [5,77829] [76] [5,77829] (p7 3)=C6 p7:=be xh 3 fun _=>rfl
theorem akP:zO=some Jv:=aB xh
noncomputable def Fg:Option PC:=az {ctx with fr:=[4],nh:=[]} Tryz.f86 ((ab af 86).getD default) []
noncomputable def JB:PC:=ay Fg
def Uk:PT:=
 (.ret Q7)
def apo (b:Nat→PC):PT×List (Shp×PT):=(Uk,[])
theorem acS:Fg.map told=some (apo (ax Fg)):=by kernel_rfl
theorem az9:tree JB=Uk:=aC acS
theorem akV:Fg=some JB:=aB acS
noncomputable def Ec:Option PC:=az {ctx with fr:=[8,9,10,11],nh:=[]} Tryz.f41 ((ab af 41).getD default) [4,6]
noncomputable def HQ:PC:=ay Ec
def SG:PT:=
 (.call ⟨[],[(6,(.mk [r2])),(4,(.mk [r0]))]⟩ [] 14 30 [(ar 19 (.mk [r2])),r3]
 (.ite (aq (.llen (pc (.setc o6 0 cL) 15)) (pi 0))
 (.ret (pi (-1)))
 (.call ⟨[],[(6,(.setc o6 0 cL))]⟩ [] 23 50 [(ar 8 o4),r1,(pi 6),(ar 19 (.setc o6 0 cL)),r3]
 (.call ⟨[],[]⟩ [] 24 48 [iU]
 (.call ⟨[(29,(ar 15 o6)),(27,(ar 8 o4)),(9,(.mx om (pi 0)))],[]⟩ [] 31 109 [(ar 19 o6)]
 (.call ⟨[],[]⟩ [] 33 108 [ed,km,oo,r9]
 (.ite (aU (.tget uW 1) (pi 0))
 (.ret (pi (-1)))
 (.ret (.tget uW 0)))))))))
def anH (b:Nat→PC):PT×List (Shp×PT):=(SG,[])
theorem abO:Ec.map told=some (anH (ax Ec)):=by kernel_rfl
theorem ayx:tree HQ=SG:=aC abO
theorem aje:Ec=some HQ:=aB abO
noncomputable def Eb:Option PC:=az {ctx with fr:=[],nh:=[]} Tryz.f50 ((ab af 50).getD default) [5,8,77832,10]
noncomputable def HP:PC:=ay Eb
def SF:PT:=
 (.call ⟨[],[(10,mY)]⟩ [] 18 28 [hH,r1,r2,(.mk [(.mk [(pc iS 0),(pc iS 1),(pc iS 2),(pc iS 3),(pc iS 4),(pc iS 5),(pc iS 6),(pc iS 7),(pc iS 8),(pc iS 9),(pc iS 10),(pc iS 11),(pc iS 12),(pc iS 13),(pc iS 14),(pc iS 15),(pc iS 16),(pc iS 17),pL]),(pi 0),(pi (-1)),(pi (-1)),(pi (-1)),r4])]
 (.ret (ar 5 (.setc bP 0 gm))))
def anG (b:Nat→PC):PT×List (Shp×PT):=(SF,[])
theorem abN:Eb.map told=some (anG (ax Eb)):=by kernel_rfl
theorem ayw:tree HP=SF:=aC abN
theorem ajd:Eb=some HP:=aB abN
noncomputable def Ea:Option PC:=az {ctx with fr:=[10],nh:=[]} Tryz.f28 ((ab af 28).getD default) [4,7,8,9]
noncomputable def HO:PC:=ay Ea
def SD:PT:=
 (.call ⟨[],[(8,mY),(4,(.mk [r0]))]⟩ [] 16 83 [hH,r1,r2,(ar 24 (.mk [r3]))]
 (.iteS ⟨[(10,(.tget dc 1))],[(9,(.setc mY 0 (.tget dc 0)))]⟩ (aU (pc (.setc mY 0 (.tget dc 0)) 2) (pi (-1))) [] [9]
 (.chk (au (pc o4 4) (pc o9 2))
 (.call ⟨[],[]⟩ [] 31 35 [(pn (pc o4 4) (pc o9 2)),r2,cE]
 (.next ⟨[],[(9,(.setc (.setc o9 0 (.tget oo 0)) 4 (.tget oo 1)))]⟩)))
 (.next ⟨[],[]⟩)
 (.ret (ar 5 (.setc o8 0 (ar 5 o9))))))
def anF (b:Nat→PC):PT×List (Shp×PT):=(SD,[])
theorem abM:Ea.map told=some (anF (ax Ea)):=by kernel_rfl
theorem ayv:tree HO=SD:=aC abM
theorem ajc:Ea=some HO:=aB abM
noncomputable def Ef:Option PC:=az {ctx with fr:=[9,11,12,13,14],nh:=[]} Tryz.f83 ((ab af 83).getD default) [4,7,8,10,16394]
noncomputable def HT:PC:=ay Ef
def SJ:PT:=
 (.call ⟨[],[(16394,pL),(10,(.setc mY 0 (.mk [cR,(pi (-1)),pL,(pi 1)]))),(8,mY),(7,(.mk [r3])),(4,(.mk [r0]))]⟩ [] 19 84 [hH,(ar 24 (.mk [r3]))]
 (.ite (aq (.llen (.tget jx 1)) (pi 0))
 (.ret (.tup [QX,pL]))
 (.call ⟨[(11,(.tget jx 1))],[(7,(.setc o7 0 (.tget jx 0)))]⟩ [] 28 97 [r2]
 (.ite (.nt (.tget gE 1))
 (.ret (.tup [QX,pL]))
 (.call ⟨[],[]⟩ [] 37 85 [(ar 8 o4),r1,(ar 24 o7)]
 (.ite (aq (.llen kX) (pi 0))
 (.ret (.tup [QX,pL]))
 (.call ⟨[],[]⟩ [] 46 33 [(ar 8 o4),r1,r2,kX]
 (.ite (aq (pc uP 4) (pi 0))
 (.chk (au (pc uP 3) (bz (.llen (pc uP 3)) (pi 1)))
 (.ret (.tup [(ar 5 (.setc o8 0 (ar 5 (.setc uP 2 (pn (pc uP 3) (bz (.llen (pc uP 3)) (pi 1))))))),bI])))
 (.ret (.tup [(ar 5 (.setc o8 0 (ar 5 uP))),bI]))))))))))
def anK (b:Nat→PC):PT×List (Shp×PT):=(SJ,[])
theorem abR:Ef.map told=some (anK (ax Ef)):=by kernel_rfl
theorem ayA:tree HT=SJ:=aC abR
theorem ajh:Ef=some HT:=aB abR
noncomputable def Eg:Option PC:=az {ctx with fr:=[5],nh:=[]} Tryz.f84 ((ab af 84).getD default) [2,3,4]
noncomputable def HU:PC:=ay Eg
def SK:PT:=
 (.call ⟨[],[(4,(.con (.agg [(.int 0),(.int 0),(.int 0),(.int 0),(.int 0),(.int 0),(.int 0),(.int 0),(.int 0),(.int 0),(.int 0),(.int 0),(.int 0),(.int 0),(.int 0),(.list []),(.list []),(.list []),(.list []),(.int 0),(.int 0),(.int 0),(.int 0),(.int 0)]))),(3,(.mk [r1])),(2,(.mk [r0]))]⟩ [] 10 30 [(ar 19 (.mk [r1])),(pc (.mk [r1]) 23)]
 (.call ⟨[(12,(ar 24 (.setc o3 0 cE)))],[]⟩ [] 15 31 [(ar 8 o2),(ar 24 (.setc o3 0 cE))]
 (.ret (.tup [(ar 24 (.setc o4 0 bM)),fP]))))
def anL (b:Nat→PC):PT×List (Shp×PT):=(SK,[])
theorem abS:Eg.map told=some (anL (ax Eg)):=by kernel_rfl
theorem ayB:tree HU=SK:=aC abS
theorem aji:Eg=some HU:=aB abS
noncomputable def zR:Option PC:=az {ctx with fr:=[4,7,9,11,12,13,14,15,16],nh:=[]} Tryz.f31 ((ab af 31).getD default) [2,3,5,6,8,10,90,139]
noncomputable def Jy:PC:=ay zR
noncomputable def y2:Nat→PC:=bn zR
def auW (b:Nat→PC):PC:=.meach 90 [94,95,11,12] [0,1,0,1] [10] (b 0)
def auX (b:Nat→PC):PC:=.meach 139 [143,144,15,16] [0,1,0,1] [10] (b 1)
def RT (b:Nat→PC):PT:=
 (.chk (au bP bI)
 (.next ⟨[],[(10,(.setn bP bI 0 (.mk [pT,bM])))]⟩))
def RU (b:Nat→PC):PT:=
 (.blockS ⟨[],[]⟩ 3 [145,146,147,148,149] [10]
 (.call ⟨[(146,fP)],[]⟩ [] 148 89 [dc]
 (.chk (au bP (.r 146))
 (.next ⟨[],[(10,(.setn bP (.r 146) 0 (.r 148)))]⟩)))
 (.next ⟨[],[]⟩))
def sP (b:Nat→PC):PT:=
 (.call ⟨[(7,(.mx (pc (.mk [r1]) 20) (pi 0)))],[(6,(.setc DO 0 (ar 15 (.mk [r1])))),(5,(.setc sq 0 (ar 19 (.mk [r1])))),(3,(.mk [r1])),(2,(.mk [r0]))]⟩ [] 30 86 [(pc (.mk [r1]) 19),(.llen (pc (.setc sq 0 (ar 19 (.mk [r1]))) 15))]
 (.call ⟨[(48,(aU (pc o3 22) (pi (-1)))),(44,(.pick (.pick (.nt ma) pT (aj (pc o3 20) (pi (-1)))) pT (cm r7 (.llen (pc o5 15)))))],[]⟩ [(48,true),(44,false)] 51 86 [(pc o3 22),(pi 100001)]
 (.ite (.pick uZ pT (.pick ko (.nt kY) pF))
 (.ret pL)
 (.chk (au (pc o5 15) (pc o3 19))
 (.call ⟨[],[(8,(.setc z9 0 (pn (pc o5 15) (pc o3 19))))]⟩ [] 63 86 [(pc (.setc z9 0 (pn (pc o5 15) (pc o3 19))) 6),(pi 100001)]
 (.ite (.nt xP)
 (.ret pL)
 (.chk (.an (cm (pi 20) (pi 0)) (br (pi 20) cn))
 (.chk (aq (pi 20) (pi 20))
 (.chk (aj (.mlen (.con (.map []))) cn)
 (.chk (aj (.mlen (.put (.con (.map [])) (pi 0) (pc o6 3))) cn)
 (.chk (aj (.mlen (.put (.put (.con (.map [])) (pi 0) (pc o6 3)) (pi 1) (pc o6 14))) cn)
 (.chk (aj (.mlen QV) cn)
 (.chk (aj (.mlen (.put QV (pi 3) (pc o6 12))) cn)
 (.chk (aj (.mlen QZ) cn)
 (.chk (aj (.mlen (.put QZ (pi 5) (pc o3 21))) cn)
 (.blockS ⟨[(10,pN),(9,adG)],[(90,(.tup [(.lst []),(.put (.put QZ (pi 5) (pc o3 21)) (pi 6) adG)])),(10,(.rep (pi 20) cR))]⟩ 0 [] [10]
 (.brk ⟨[],[]⟩
(auW b)
 (.exit 0 ⟨[],[]⟩))
 (.call ⟨[],[(3,(ar 24 o3))]⟩ [] 104 87 [(pc o5 16),(.clo 88 [(.ref (ar 24 o3))])]
 (.call ⟨[(13,awW)],[]⟩ [] 108 32 [(ar 8 o2),(pc o6 9)]
 (.call ⟨[],[]⟩ [] 112 32 [(ar 8 o2),(pc o6 10)]
 (.chk (aj (.mlen (.con (.map []))) cn)
 (.chk (aj (.mlen QY) cn)
 (.chk (aj (.mlen (.put QY (pi 8) (aq (pc o6 2) (pi (-1))))) cn)
 (.chk (aj (.mlen (.put (.put QY (pi 8) (aq (pc o6 2) (pi (-1)))) (pi 9) (aU (.ai .and .i64 (pc o6 13) (pi 4)) (pi 0)))) cn)
 (.chk (aj (.mlen Kw) cn)
 (.chk (aj (.mlen (.put Kw (pi 11) (aU Ra Rb))) cn)
 (.chk (aj (.mlen (.put (.put Kw (pi 11) (aU Ra Rb)) (pi 12) dz)) cn)
 (.chk (aj (.mlen adQ) cn)
 (.blockS ⟨[],[(139,(.tup [(.lst []),(.put adQ (pi 14) (aV r9 (pi 0)))]))]⟩ 2 [] [10]
 (.brk ⟨[],[]⟩
(auX b)
 (.exit 2 ⟨[],[]⟩))
 (.call ⟨[],[]⟩ [] 154 90 [(ar 19 o5),(pi 0),(pc o3 19)]
 (.chk (au bP (pi 15))
 (.call ⟨[],[(10,(.setn bP (pi 15) 0 (.r 154)))]⟩ [] 160 90 [(ar 19 o5),(pi 1),(pc o3 19)]
 (.chk (au bP (pi 16))
 (.call ⟨[],[(10,(.setn bP (pi 16) 0 (.r 160)))]⟩ [] 166 90 [(ar 19 o5),(pi 2),(pc o3 19)]
 (.chk (au bP (pi 17))
 (.call ⟨[],[(10,(.setn bP (pi 17) 0 (.r 166)))]⟩ [] 171 90 [(ar 19 o5),(pi 3),r7]
 (.chk (au bP (pi 18))
 (.call ⟨[],[(10,(.setn bP (pi 18) 0 (.r 171)))]⟩ [] 176 90 [(ar 19 o5),(pi 4),r7]
 (.chk (au bP (pi 19))
 (.ret (.setn bP (pi 19) 0 (.r 176)))))))))))))))))))))))))))))))))))))))))
def apl (b:Nat→PC):PT×List (Shp×PT):=(sP b,[(.ea [10],RT b),(.ea [10],RU b)])
theorem HF:zR.map told=some (apl (ax zR)):=by kernel_rfl
theorem az7:tree Jy=sP y2:=aC HF
theorem axk:oz [10] (y2 0)=RT y2:=SC HF 0 fun _=>rfl
theorem axl:oz [10] (y2 1)=RU y2:=SC HF 1 fun _=>rfl
theorem akT:zR=some Jy:=aB HF
noncomputable def Fe:Option PC:=az {ctx with fr:=[3],nh:=[]} Tryz.f88 ((ab af 88).getD default) [2]
noncomputable def Jz:PC:=ay Fe
def Ui:PT:=
 (.ret (br jS (pc (.deref r1) 19)))
def apm (b:Nat→PC):PT×List (Shp×PT):=(Ui,[])
theorem acQ:Fe.map told=some (apm (ax Fe)):=by kernel_rfl
theorem az6:tree Jz=Ui:=aC acQ
theorem akS:Fe=some Jz:=aB acQ
noncomputable def Fh:Option PC:=az {ctx with fr:=[4],nh:=[]} Tryz.f87 ((ab af 87).getD default) []
noncomputable def JD:PC:=ay Fh
def Um:PT:=
 (.call ⟨[],[]⟩ [] 7 164 [r0,r1]
 (.ret (cm r7 (pi 0))))
def apr (b:Nat→PC):PT×List (Shp×PT):=(Um,[])
theorem acT:Fh.map told=some (apr (ax Fh)):=by kernel_rfl
theorem aAb:tree JD=Um:=aC acT
theorem akX:Fh=some JD:=aB acT
noncomputable def zT:Option PC:=az {ctx with fr:=[4,5],nh:=[]} Tryz.f164 ((ab af 164).getD default) []
noncomputable def JH:PC:=ay zT
noncomputable def Mo:Nat→PC:=bn zT
def auJ (b:Nat→PC):PC:=.block 0 [4,8,9] [] (.loop [4,8] [] (b 0))
def Da (b:Nat→PC):PT:=
 (.ite (aj r8 r7)
 (.blockS ⟨[],[]⟩ 1 [4,5,10,11,12,13,14,15,16] []
 (.chk (au r0 r8)
 (.callc ⟨[(5,r8)],[]⟩ [] 16 r1 [(pn r0 r8)]
 (.ite dc
 (.ret r5)
 (.next ⟨[],[]⟩))))
 (.next ⟨[(8,qO)],[]⟩))
 (.exit 0 ⟨[(9,(aj r8 r7))],[]⟩))
def Uq (b:Nat→PC):PT:=
 (.brk ⟨[(8,(pi 0)),(7,(.llen r0)),(4,(pi 0))],[]⟩
(auJ b)
 (.ret (pi (-1))))
def apv (b:Nat→PC):PT×List (Shp×PT):=(Uq b,[(.lp 0 [4,8,9] [] [4,8] [],Da b)])
theorem Qo:zT.map told=some (apv (ax zT)):=by kernel_rfl
theorem aAf:tree JH=Uq Mo:=aC Qo
theorem RV:round 0 [4,8,9] [] [4,8] [] (Mo 0)=Da Mo:=be Qo 0 fun _=>rfl
theorem ak1:zT=some JH:=aB Qo
noncomputable def Fa:Option PC:=az {ctx with fr:=[4],nh:=[]} Tryz.f32 ((ab af 32).getD default) [2]
noncomputable def Jj:PC:=ay Fa
def T4:PT:=
 (.call ⟨[],[(2,(.mk [r0]))]⟩ [] 9 91 [r1,(.llen od)]
 (.ite (.nt r9)
 (.ret (pi (-1)))
 (.chk (au (pc o2 1) r1)
 (.ret (pc (pn (pc o2 1) r1) 1)))))
def ao6 (b:Nat→PC):PT×List (Shp×PT):=(T4,[])
theorem acN:Fa.map told=some (ao6 (ax Fa)):=by kernel_rfl
theorem azS:tree Jj=T4:=aC acN
theorem akD:Fa=some Jj:=aB acN
noncomputable def Fb:Option PC:=az {ctx with fr:=[4],nh:=[]} Tryz.f91 ((ab af 91).getD default) []
noncomputable def Jn:PC:=ay Fb
def T7:PT:=
 (.ret Q7)
def apa (b:Nat→PC):PT×List (Shp×PT):=(T7,[])
theorem acO:Fb.map told=some (apa (ax Fb)):=by kernel_rfl
theorem azV:tree Jn=T7:=aC acO
theorem akH:Fb=some Jn:=aB acO
noncomputable def Ff:Option PC:=az {ctx with fr:=[],nh:=[]} Tryz.f89 ((ab af 89).getD default) [2]
noncomputable def JA:PC:=ay Ff
def Uj:PT:=
 (.ite r0
 (.ret (.mk [(pc Kt 0),(pc Kt 1)]))
 (.ret (.mk [(pc Ku 0),(pc Ku 1)])))
def apn (b:Nat→PC):PT×List (Shp×PT):=(Uj,[])
theorem acR:Ff.map told=some (apn (ax Ff)):=by kernel_rfl
theorem az8:tree JA=Uj:=aC acR
theorem akU:Ff=some JA:=aB acR
noncomputable def zP:Option PC:=az {ctx with fr:=[],nh:=[]} Tryz.f90 ((ab af 90).getD default) [3,6,8]
noncomputable def Jw:PC:=ay zP
noncomputable def Mn:Nat→PC:=bn zP
def auE (b:Nat→PC):PC:=.block 0 [12,13] [6] (.loop [12] [6] (b 0))
def C7 (b:Nat→PC):PT:=
 (.ite (aj bM bI)
 (.blockS ⟨[],[]⟩ 1 [8,14,15,16,17,18,19,20,25] [8,6]
 (.chk (au cE bM)
 (.iteS ⟨[],[(8,(.setc z3 0 (pn cE bM)))]⟩ (.pick (aq (pc (.setc z3 0 (pn cE bM)) 0) r1) (aq (pc (.setc z3 0 (pn cE bM)) 1) r2) pF) [] [6]
 (.call ⟨[],[]⟩ [] 29 89 [(aU (pc o8 2) (pi 0))]
 (.ret (.mk [(pc (.setc o6 0 km) 0),(pc (.setc o6 0 km) 1)])))
 (.next ⟨[],[]⟩)
 (.next ⟨[],[]⟩)))
 (.next ⟨[(12,(aN bM (pi 1)))],[]⟩))
 (.exit 0 ⟨[(13,(aj bM bI))],[]⟩))
def Ug (b:Nat→PC):PT:=
 (.brk ⟨[(12,(pi 0)),(11,(.llen (pc (.mk [r0]) 18))),(10,(pc (.mk [r0]) 18))],[(6,cR)]⟩
(auE b)
 (.ret (.mk [(pc (.setc o6 0 oe) 0),(pc (.setc o6 0 oe) 1)])))
def apj (b:Nat→PC):PT×List (Shp×PT):=(Ug b,[(.lp 0 [12,13] [6] [12] [6],C7 b)])
theorem Qn:zP.map told=some (apj (ax zP)):=by kernel_rfl
theorem az4:tree Jw=Ug Mn:=aC Qn
theorem RR:round 0 [12,13] [6] [12] [6] (Mn 0)=C7 Mn:=be Qn 0 fun _=>rfl
theorem akQ:zP=some Jw:=aB Qn
noncomputable def ES:Option PC:=az {ctx with fr:=[2,3,4,11],nh:=[]} Tryz.f97 ((ab af 97).getD default) []
noncomputable def IE:PC:=ay ES
def Tq:PT:=
 (.blockS ⟨[],[]⟩ 0 [2,3,4,5,6,7,10,11,12,13,14] []
 (.iteS ⟨[],[]⟩ (.pick (aj r0 (pi 0)) pT (cm r0 (pi 22))) [2,3,11,12,13,14] []
 (.ret (.tup [(pi 0),pF]))
 (.call ⟨[],[]⟩ [] 14 94 [(.lst [(pc pD 0),(pc pD 1),(pc pD 2),(pc pD 3),(pc pD 4),(pc pD 5),(pc pD 6),(pc pD 7),(pc pD 8),(pc pD 9)]),r0]
 (.ite cL
 (.ret (.tup [(pi 0),pT]))
 (.next ⟨[],[]⟩)))
 (.next ⟨[],[]⟩))
 (.ret (.tup [(pi 1),pT])))
def aou (b:Nat→PC):PT×List (Shp×PT):=(Tq,[])
theorem acv:ES.map told=some (aou (ax ES)):=by kernel_rfl
theorem azh:tree IE=Tq:=aC acv
theorem aj1:ES=some IE:=aB acv
noncomputable def Fj:Option PC:=az {ctx with fr:=[4],nh:=[]} Tryz.f94 ((ab af 94).getD default) []
noncomputable def JF:PC:=ay Fj
def Uo:PT:=
 (.call ⟨[],[]⟩ [] 7 167 [r0,r1]
 (.ret (cm r7 (pi 0))))
def apt (b:Nat→PC):PT×List (Shp×PT):=(Uo,[])
theorem acV:Fj.map told=some (apt (ax Fj)):=by kernel_rfl
theorem aAd:tree JF=Uo:=aC acV
theorem akZ:Fj=some JF:=aB acV
noncomputable def zW:Option PC:=az {ctx with fr:=[4,5],nh:=[]} Tryz.f167 ((ab af 167).getD default) []
noncomputable def JK:PC:=ay zW
noncomputable def Mr:Nat→PC:=bn zW
def auM (b:Nat→PC):PC:=.block 0 [4,8,9] [] (.loop [4,8] [] (b 0))
def De (b:Nat→PC):PT:=
 (.ite (aj r8 r7)
 (.chk (au r0 r8)
 (.ite (aq r1 (pn r0 r8))
 (.ret r8)
 (.next ⟨[(8,qO)],[]⟩)))
 (.exit 0 ⟨[(9,(aj r8 r7))],[]⟩))
def Ut (b:Nat→PC):PT:=
 (.brk ⟨[(8,(pi 0)),(7,(.llen r0)),(4,(pi 0))],[]⟩
(auM b)
 (.ret (pi (-1))))
def apy (b:Nat→PC):PT×List (Shp×PT):=(Ut b,[(.lp 0 [4,8,9] [] [4,8] [],De b)])
theorem Qr:zW.map told=some (apy (ax zW)):=by kernel_rfl
theorem aAi:tree JK=Ut Mr:=aC Qr
theorem RY:round 0 [4,8,9] [] [4,8] [] (Mr 0)=De Mr:=be Qr 0 fun _=>rfl
theorem ak4:zW=some JK:=aB Qr
noncomputable def ze:Option PC:=az {ctx with fr:=[8,9,11,12,13,14,55,70],nh:=[]} Tryz.f33 ((ab af 33).getD default) [4,10,53]
noncomputable def Ia:PC:=ay ze
noncomputable def L2:Nat→PC:=bn ze
def atH (b:Nat→PC):PC:=.block 0 [] [] (.loop [8,9,10] [10] (b 0))
def Rg (b:Nat→PC):PT:=
 (.blockS ⟨[],[]⟩ 1 [8,9,10,11,12,13,14,32,33,35,36,37,38,39,40,41,42,43,44,45,46,49,50,52,53,54,55,56,57,58,68,70,71] [53,10]
 (.chk (au bP (bz (.llen bP) (pi 1)))
 (.call ⟨[(11,(pn bP (bz (.llen bP) (pi 1))))],[]⟩ [] 41 93 [(ar 8 o4),(pn bP (bz (.llen bP) (pi 1))),r2,r3]
 (.ite (aq (.tget ot 0) bI)
 (.ret (.tup [bP,(pi 0)]))
 (.call ⟨[(13,(.tget ot 1)),(12,(.tget ot 0))],[]⟩ [] 50 94 [bP,(.tget ot 0)]
 (.chk (br (.llen (.app bP (.lst [bM]))) cn)
 (.chk (.nt (.an (.an fQ (.an (.nt (.nt dz)) pT)) (.nt (au (pc o4 4) bM))))
 (.ite (.pick (.nt dz) pT (.pick fQ (pc (pn (pc o4 4) bM) 1) pF))
 (.ret (.tup [(.app bP (.lst [bM])),(pi 0)]))
 (.ite fQ
 (.ret (.tup [(.app bP (.lst [bM])),(pi 12)]))
 (.next ⟨[(10,pN)],[(10,(.app bP (.lst [bM])))]⟩)))))))))
 (.next ⟨[],[]⟩))
def SY (b:Nat→PC):PT:=
 (.call ⟨[(9,(pi 0)),(8,pL)],[(4,(.mk [r0]))]⟩ [] 19 92 [hH,r1,r2,r3]
 (.chk (.nt (.an (.an (.nt (.nt jx)) pT) (.nt (au r3 (pi 0)))))
 (.ite (.pick (.nt jx) pT (aU (pn r3 (pi 0)) r1))
 (.ret (.tup [pL,(pi 1)]))
 (.brk ⟨[(10,pN)],[(10,(.lst [r1]))]⟩
(atH b)
 (.next ⟨[],[]⟩)))))
def an3 (b:Nat→PC):PT×List (Shp×PT):=(SY b,[(.lp 0 [] [] [8,9,10] [10],Rg b)])
theorem P2:ze.map told=some (an3 (ax ze)):=by kernel_rfl
theorem ayQ:tree Ia=SY L2:=aC P2
theorem axi:round 0 [] [] [8,9,10] [10] (L2 0)=Rg L2:=be P2 0 fun _=>rfl
theorem ajA:ze=some Ia:=aB P2
noncomputable def Ev:Option PC:=az {ctx with fr:=[8],nh:=[]} Tryz.f92 ((ab af 92).getD default) [4,9]
noncomputable def Ic:PC:=ay Ev
def sO:PT:=
 (.ite (.pick (.pick (.pick (.pick (aj r1 (pi 0)) pT (cm r1 (pc (.setc Ci 0 (.llen xN)) 0))) pT (aj r2 (pi 0))) pT (cm r2 (pi 22))) pT (aU (.llen r3) (pi 5)))
 (.ret pF)
 (.call ⟨[],[]⟩ [] 35 165 [r3,(.clo 166 [(.ref (pc (.setc Ci 0 (.llen xN)) 0))])]
 (.ret (.nt uX))))
def an5 (b:Nat→PC):PT×List (Shp×PT):=(sO,[])
theorem ab6:Ev.map told=some (an5 (ax Ev)):=by kernel_rfl
theorem ayT:tree Ic=sO:=aC ab6
theorem ajD:Ev=some Ic:=aB ab6
noncomputable def Ew:Option PC:=az {ctx with fr:=[3],nh:=[]} Tryz.f166 ((ab af 166).getD default) []
noncomputable def Ie:PC:=ay Ew
def S4:PT:=
 (.ret (.pick (aj r0 (pi 0)) pT (cm r0 (.deref r1))))
def an6 (b:Nat→PC):PT×List (Shp×PT):=(S4,[])
theorem ab7:Ew.map told=some (an6 (ax Ew)):=by kernel_rfl
theorem ayS:tree Ie=S4:=aC ab7
theorem ajC:Ew=some Ie:=aB ab7
noncomputable def Fi:Option PC:=az {ctx with fr:=[4],nh:=[]} Tryz.f165 ((ab af 165).getD default) []
noncomputable def JE:PC:=ay Fi
def Un:PT:=
 (.call ⟨[],[]⟩ [] 7 216 [r0,r1]
 (.ret (cm r7 (pi 0))))
def aps (b:Nat→PC):PT×List (Shp×PT):=(Un,[])
theorem acU:Fi.map told=some (aps (ax Fi)):=by kernel_rfl
theorem aAc:tree JE=Un:=aC acU
theorem akY:Fi=some JE:=aB acU
end Rm
