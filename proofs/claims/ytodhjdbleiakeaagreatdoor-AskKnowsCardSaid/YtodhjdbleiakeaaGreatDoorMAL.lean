/-
  The functions of this seat, compiled (1).
-/
import Derived.Test.YtodhjdbleiakeaaGreatDoorMAK
import Derived.KernelRfl
set_option linter.unusedVariables false
set_option maxRecDepth 100000
namespace Rm
open Go Go.Proofs Cx
noncomputable def Gm:Option PC:=aB {ctx with fr:=[10,11],nh:=[]} Tryz.f9 ((ab af 9).getD default) [5,8,12,13,14]
noncomputable def JE:PC:=aA Gm
def Vn:PT:=
 (.call ⟨[],[(8,(.mk [r3])),(5,(.mk [r0]))]⟩ [] 15 26 []
 (.call ⟨[(11,gP)],[]⟩ [] 19 27 [(au 8 o5),(au 19 o8)]
 (.call ⟨[(21,(.nt gj))],[]⟩ [(21,false)] 25 42 [(au 8 o5),(au 19 o8)]
 (.ite (.pick (.pick kq pT (aU gR (pi 0))) pT (be (.llen r4) (pi 30)))
 (.ret bu)
 (.call ⟨[],[(12,(.setc Tj 0 (au 24 o8)))]⟩ [] 38 47 [(au 19 o8),r4]
 (.call ⟨[(45,(bJ (.llen (pc (.setc tN 0 fE) 18)) (pi 200)))],[(12,(.setc tN 0 fE))]⟩ [(45,true)] 49 42 [(au 8 o5),(au 19 (.setc tN 0 fE))]
 (.ite (.pick nV (aU kV (pi 0)) pF)
 (.ret pF)
 (.call ⟨[],[]⟩ [] 56 28 [(au 8 o5),r1,r2,(au 24 o8)]
 (.call ⟨[],[(13,(.setc lV 0 lZ))]⟩ [] 61 28 [(au 8 o5),r1,r2,(au 24 tN)]
 (.call ⟨[(74,(.pick (aU (pc di 2) (pc (.setc lV 0 kX) 2)) pT (aU (pc di 4) (pc (.setc lV 0 kX) 4))))],[(14,(.setc lV 0 kX))]⟩ [(74,false)] 79 34 [(pc di 3),(pc (.setc lV 0 kX) 3)]
 (.ite (.pick (.pick wB pT (.nt LR)) pT (.pick (pc di 0) (.nt (.an (.cb .eql (pc LK 0) (pc (.mk [(pc nM 0),(pc nM 1)]) 0)) (.an (aq (pc LK 1) (pc (.mk [(pc nM 0),(pc nM 1)]) 1)) pT))) pF))
 (.ret pF)
 (.call ⟨[],[]⟩ [] 95 46 [(au 5 di)]
 (.call ⟨[(97,(aU TE (pi 2)))],[]⟩ [(97,true)] 99 46 [(au 5 nM)]
 (.call ⟨[],[]⟩ [(97,true)] 101 46 [(au 5 di)]
 (.call ⟨[(104,(.pick LU (aU nW agQ) pF))],[]⟩ [(104,false)] 106 48 [(au 5 di)]
 (.call ⟨[(108,(aU DX (pi (-1))))],[]⟩ [(108,true),(104,false)] 110 48 [(au 5 nM)]
 (.call ⟨[],[]⟩ [(108,true),(104,false)] 112 48 [(au 5 di)]
 (.ite (.pick DW pT (.pick DY (aU agT DZ) pF))
 (.ret pF)
 (.ret (.pick (.pick bu (.pick (pc di 0) pT (aq (pc di 1) (pi 0))) pF) (.pick (aq (pc di 4) (pi 0)) pT (.an (.cb .eql (pc LK 0) pF) (.an (aq (pc LK 1) (pi 0)) pT))) pF))))))))))))))))))))
def aq2 (b:Nat→PC):PT×List (Shp×PT):=(Vn,[])
theorem ae9:Gm.map told=some (aq2 (ax Gm)):=by kernel_rfl
theorem aC6:tree JE=Vn:=aK ae9
theorem anb:Gm=some JE:=aC ae9
noncomputable def Gs:Option PC:=aB {ctx with fr:=[0,7,8,9],nh:=[]} Tryz.f26 ((ab af 26).getD default) [1,2,3,4,5,6,73]
noncomputable def JK:PC:=aA Gs
def Vt:PT:=
 (.call ⟨[],[]⟩ [] 10 79 []
 (.call ⟨[(11,(au 8 agD))],[(1,agD)]⟩ [] 12 81 [(pi 0)]
 (.call ⟨[],[]⟩ [] 13 80 [bW]
 (.call ⟨[],[]⟩ [] 14 28 [bu,(pi 0),(pi 2),eH]
 (.call ⟨[(15,(au 8 o1))],[(2,(.setc lV 0 du))]⟩ [] 16 81 [(pi 0)]
 (.call ⟨[],[]⟩ [] 17 80 [dJ]
 (.call ⟨[],[]⟩ [] 18 28 [gP,(pi 1),(pi 2),kp]
 (.call ⟨[(19,(au 8 o1))],[(3,(.setc lV 0 gQ))]⟩ [] 20 81 [(pi 1)]
 (.call ⟨[],[]⟩ [] 21 80 [eg]
 (.call ⟨[],[]⟩ [] 22 28 [gj,(pi 1),(pi 2),kq]
 (.call ⟨[(23,(au 8 o1))],[(4,(.setc lV 0 D0))]⟩ [] 24 81 [(pi 0)]
 (.call ⟨[],[]⟩ [] 25 80 [pJ]
 (.call ⟨[],[]⟩ [] 26 28 [jA,(pi 0),(pi 0),gR]
 (.call ⟨[],[(6,wk),(5,(.setc lV 0 kU))]⟩ [] 32 49 [(au 5 o2),(.mk [(.mk [(pc wk 0),(pc wk 1)]),(pi 0),(.lst [(pi 0)]),(pi 0)])]
 (.call ⟨[(33,D1)],[]⟩ [(33,true)] 38 49 [(au 5 o3),(.mk [(.mk [(pc o6 0),(pc o6 1)]),(pi 0),(.lst [(pi 1),(pi 0)]),(pi 0)])]
 (.call ⟨[(40,(.pick sl fE pF))],[]⟩ [(40,true)] 44 49 [(au 5 o4),(.mk [fg,(pi 1),(.lst [(pi 1)]),(pi 0)])]
 (.call ⟨[(49,(aq (pc o5 4) (pi 4))),(7,(.pick nU tV pF))],[]⟩ [(49,true)] 51 46 [(au 5 o5)]
 (.call ⟨[(54,(.pick kV (aq lY (pi 0)) pF))],[]⟩ [(54,true)] 56 48 [(au 5 o5)]
 (.call ⟨[(59,(.pick pK (aq lZ (pi (-1))) pF))],[]⟩ [(59,true)] 61 46 [(au 5 o2)]
 (.call ⟨[(64,(.pick TA (aq kX (pi 1)) pF))],[]⟩ [(64,true)] 66 46 [(au 5 o4)]
 (.call ⟨[(69,(au 8 o1)),(8,(.pick ku (aq LP (pi 2)) pF))],[]⟩ [] 70 81 [(pi 1)]
 (.call ⟨[],[]⟩ [] 71 80 [TB]
 (.call ⟨[],[]⟩ [] 72 82 [sn,(pi 1),(pi 2),r71]
 (.call ⟨[],[]⟩ [] 74 34 [tY,(.lst [(pi 17)])]
 (.call ⟨[(76,(au 8 o1)),(75,wB)],[]⟩ [(75,true)] 77 81 [(pi 0)]
 (.call ⟨[],[]⟩ [(75,true)] 78 80 [LQ]
 (.call ⟨[],[]⟩ [(75,true)] 79 29 [pM,(pi 1),TC]
 (.call ⟨[],[]⟩ [(75,true)] 81 34 [LR,(.lst [(pi 1),(pi 0),(pi 1),(pi 0),(pi 0)])]
 (.call ⟨[(91,(au 8 o1)),(90,(.pick (.pick r7 r8 pF) (.pick zk sq pF) pF))],[]⟩ [(90,true)] 92 81 [(pi 0)]
 (.call ⟨[],[]⟩ [(90,true)] 93 41 [r91,(pi 0),zm,(pi 5)]
 (.call ⟨[(97,(au 8 o1)),(96,(.pick TD (aq zn (pi 10)) pF))],[]⟩ [(96,true)] 98 81 [(pi 0)]
 (.call ⟨[],[]⟩ [(96,true)] 99 41 [LU,(pi 1),TG,(pi 5)]
 (.call ⟨[(103,(au 8 o1)),(102,(.pick TF (aq nW (pi 13)) pF))],[]⟩ [(102,true)] 104 81 [(pi 0)]
 (.call ⟨[],[]⟩ [(102,true)] 105 41 [LL,(pi 0),DW,(pi 1)]
 (.ret (.pick agR (aq agS (pi (-1))) pF))))))))))))))))))))))))))))))))))))
def aq8 (b:Nat→PC):PT×List (Shp×PT):=(Vt,[])
theorem afe:Gs.map told=some (aq8 (ax Gs)):=by kernel_rfl
theorem aDd:tree JK=Vt:=aK afe
theorem ani:Gs=some JK:=aC afe
noncomputable def Gr:Option PC:=aB {ctx with fr:=[5],nh:=[]} Tryz.f79 ((ab af 79).getD default) [0,24576,28672,32768,1,12289,2,3,12291,4]
noncomputable def JJ:PC:=aA Gr
def Vs:PT:=
 (.ret (.mk [(pc DL 0),(pc DL 1),(pc DL 2),(pc DL 3),(pc DL 4),pL,pL,pL]))
def aq7 (b:Nat→PC):PT×List (Shp×PT):=(Vs,[])
theorem afd:Gr.map told=some (aq7 (ax Gr)):=by kernel_rfl
theorem aDb:tree JJ=Vs:=aK afd
theorem anh:Gr=some JJ:=aC afd
noncomputable def Gq:Option PC:=aB {ctx with fr:=[],nh:=[]} Tryz.f81 ((ab af 81).getD default) [2,69634,73730,3,4]
noncomputable def JI:PC:=aA Gq
def Vr:PT:=
 (.ret (.mk [(pc jW 0),(pc jW 1),(pc jW 2),(pc jW 3),(pc jW 4),(pc jW 5),(pc jW 6),(pc jW 7),(pc jW 8),(pc jW 9),(pc jW 10),(pc jW 11),(pc jW 12),(pc jW 13),(pc jW 14),(pc jW 15),pL,pL,(pc jW 18)]))
def aq6 (b:Nat→PC):PT×List (Shp×PT):=(Vr,[])
theorem afc:Gq.map told=some (aq6 (ax Gq)):=by kernel_rfl
theorem aDa:tree JI=Vr:=aK afc
theorem ang:Gq=some JI:=aC afc
noncomputable def Gn:Option PC:=aB {ctx with fr:=[],nh:=[]} Tryz.f80 ((ab af 80).getD default) [1,2]
noncomputable def JF:PC:=aA Gn
def Vo:PT:=
 (.ret (au 24 (.setc Tj 0 (.mk [(au 19 (.mk [r0])),(pi 0),(pi (-1)),(pi (-1)),(pi (-1)),(pi 5)]))))
def aq3 (b:Nat→PC):PT×List (Shp×PT):=(Vo,[])
theorem afa:Gn.map told=some (aq3 (ax Gn)):=by kernel_rfl
theorem aC7:tree JF=Vo:=aK afa
theorem anc:Gn=some JF:=aC afa
noncomputable def FV:Option PC:=aB {ctx with fr:=[10],nh:=[]} Tryz.f28 ((ab af 28).getD default) [4,7,8,9]
noncomputable def Je:PC:=aA FV
def U0:PT:=
 (.call ⟨[],[(8,lV),(4,(.mk [r0]))]⟩ [] 16 83 [km,r1,r2,(au 24 (.mk [r3]))]
 (.iteS ⟨[(10,(.tget dJ 1))],[(9,DO)]⟩ (aU (pc DO 2) (pi (-1))) [] [9]
 (.chk (av (pc o4 4) (pc o9 2))
 (.call ⟨[],[]⟩ [] 31 35 [(pn (pc o4 4) (pc o9 2)),r2,cR]
 (.next ⟨[],[(9,(.setc (.setc o9 0 (.tget qT 0)) 4 (.tget qT 1)))]⟩)))
 (.next ⟨[],[]⟩)
 (.ret (au 5 (.setc o8 0 (au 5 o9))))))
def aqv (b:Nat→PC):PT×List (Shp×PT):=(U0,[])
theorem aeL:FV.map told=some (aqv (ax FV)):=by kernel_rfl
theorem aCB:tree Je=U0:=aK aeL
theorem amG:FV=some Je:=aC aeL
noncomputable def F2:Option PC:=aB {ctx with fr:=[9,11,12,13,14],nh:=[]} Tryz.f83 ((ab af 83).getD default) [4,7,8,10,16394]
noncomputable def Jl:PC:=aA F2
def U7:PT:=
 (.call ⟨[],[(16394,pL),(10,(.setc lV 0 (.mk [fg,(pi (-1)),pL,(pi 1)]))),(8,lV),(7,(.mk [r3])),(4,(.mk [r0]))]⟩ [] 19 84 [km,(au 24 (.mk [r3]))]
 (.ite (aq (.llen (.tget gj 1)) (pi 0))
 (.ret (.tup [Tn,pL]))
 (.call ⟨[(11,(.tget gj 1))],[(7,(.setc o7 0 (.tget gj 0)))]⟩ [] 28 97 [r2]
 (.ite (.nt (.tget qQ 1))
 (.ret (.tup [Tn,pL]))
 (.call ⟨[],[]⟩ [] 37 85 [(au 8 o4),r1,(au 24 o7)]
 (.ite (aq (.llen lW) (pi 0))
 (.ret (.tup [Tn,pL]))
 (.call ⟨[],[]⟩ [] 46 33 [(au 8 o4),r1,r2,lW]
 (.ite (aq (pc wh 4) (pi 0))
 (.chk (av (pc wh 3) (bD (.llen (pc wh 3)) (pi 1)))
 (.ret (.tup [(au 5 (.setc o8 0 (au 5 (.setc wh 2 (pn (pc wh 3) (bD (.llen (pc wh 3)) (pi 1))))))),bu])))
 (.ret (.tup [(au 5 (.setc o8 0 (au 5 wh))),bu]))))))))))
def aqC (b:Nat→PC):PT×List (Shp×PT):=(U7,[])
theorem aeS:F2.map told=some (aqC (ax F2)):=by kernel_rfl
theorem aCI:tree Jl=U7:=aK aeS
theorem amN:F2=some Jl:=aC aeS
noncomputable def F3:Option PC:=aB {ctx with fr:=[5],nh:=[]} Tryz.f84 ((ab af 84).getD default) [2,3,4]
noncomputable def Jm:PC:=aA F3
def U8:PT:=
 (.call ⟨[],[(4,Tj),(3,(.mk [r1])),(2,(.mk [r0]))]⟩ [] 10 30 [(au 19 (.mk [r1])),(pc (.mk [r1]) 23)]
 (.call ⟨[(12,(au 24 (.setc o3 0 cR)))],[]⟩ [] 15 31 [(au 8 o2),(au 24 (.setc o3 0 cR))]
 (.ret (.tup [(au 24 (.setc o4 0 bW)),gP]))))
def aqD (b:Nat→PC):PT×List (Shp×PT):=(U8,[])
theorem aeT:F3.map told=some (aqD (ax F3)):=by kernel_rfl
theorem aCJ:tree Jm=U8:=aK aeT
theorem amO:F3=some Jm:=aC aeT
noncomputable def Br:Option PC:=aB {ctx with fr:=[],nh:=[]} Tryz.f30 ((ab af 30).getD default) [2,4,5,65541,69637,73733,77829,7,31,9,49,11,13]
noncomputable def KF:PC:=aA Br
noncomputable def rj:Nat→PC:=bE Br
def axI (b:Nat→PC):PC:=.block 0 [20,21] [65541,5] (.loop [20] [65541,5] (b 0))
def axJ (b:Nat→PC):PC:=.block 2 [38,39] [73733,5] (.loop [38] [73733,5] (b 1))
def axK (b:Nat→PC):PC:=.block 4 [56,57] [5,69637] (.loop [56] [5,69637] (b 2))
def axL (b:Nat→PC):PC:=.block 6 [76,77] [5,77829] (.loop [76] [5,77829] (b 3))
def ED (b:Nat→PC):PT:=
 (.ite (aj eg gj)
 (.chk (av gQ eg)
 (.ite (be (pc (.setc z9 0 (pn gQ eg)) 6) r1)
 (.exit 0 ⟨[(21,(aj eg gj))],[]⟩)
 (.chk (bJ (.llen (.app (.o 65541) (.lst [(au 9 (.setc z9 0 (pn gQ eg)))]))) cK)
 (.next ⟨[(20,(aO eg (pi 1)))],[(65541,(.app (.o 65541) (.lst [(au 9 (.setc z9 0 (pn gQ eg)))]))),(5,(.setc o5 15 pN))]⟩))))
 (.exit 0 ⟨[(21,(aj eg gj))],[]⟩))
def EE (b:Nat→PC):PT:=
 (.ite (aj fE lW)
 (.chk (av kr fE)
 (.ite (be (pc (.setc z9 0 (pn kr fE)) 6) r1)
 (.exit 2 ⟨[(39,(aj fE lW))],[]⟩)
 (.chk (bJ (.llen (.app (.o 73733) (.lst [(au 9 (.setc z9 0 (pn kr fE)))]))) cK)
 (.next ⟨[(38,(aO fE (pi 1)))],[(73733,(.app (.o 73733) (.lst [(au 9 (.setc z9 0 (pn kr fE)))]))),(5,(.setc o5 17 pN))]⟩))))
 (.exit 2 ⟨[(39,(aj fE lW))],[]⟩))
def EF (b:Nat→PC):PT:=
 (.ite (aj lZ zi)
 (.chk (av pK lZ)
 (.ite (bJ (pc (.setc z2 0 (pn pK lZ)) 0) (.llen (.o 65541)))
 (.chk (bJ (.llen agJ) cK)
 (.next ⟨[(56,(aO lZ (pi 1)))],[(5,(.setc o5 16 pN)),(69637,agJ)]⟩))
 (.next ⟨[(56,(aO lZ (pi 1)))],[]⟩)))
 (.exit 4 ⟨[(57,(aj lZ zi))],[]⟩))
def EG (b:Nat→PC):PT:=
 (.ite (aj pM zk)
 (.blockS ⟨[],[]⟩ 7 [13,78,79,80,81,82,83,84,85] [13,77829,5]
 (.chk (av wB pM)
 (.call ⟨[],[(13,(.setc z3 0 (pn wB pM)))]⟩ [] 85 86 [(pc (.setc z3 0 (pn wB pM)) 1),(.llen (.o 65541))]
 (.ite zl
 (.chk (bJ (.llen agv) cK)
 (.next ⟨[],[(77829,agv),(5,(.setc o5 18 pN))]⟩))
 (.next ⟨[],[]⟩))))
 (.next ⟨[(76,(aO pM (pi 1)))],[]⟩))
 (.exit 6 ⟨[(77,(aj pM zk))],[]⟩))
def Wk (b:Nat→PC):PT:=
 (.brk ⟨[(20,(pi 0)),(19,(.llen qL)),(18,qL)],[(77829,pL),(73733,pL),(69637,pL),(65541,pL),(5,(.setc y0 0 (.mk [(au 15 (.mk [r0])),pL,pL,pL,pL]))),(4,y0),(2,(.mk [r0]))]⟩
(axI b)
 (.brk ⟨[(38,(pi 0)),(37,(.llen (pc o2 17))),(36,(pc o2 17))],[]⟩
(axJ b)
 (.brk ⟨[(56,(pi 0)),(55,(.llen (pc o2 16))),(54,(pc o2 16))],[]⟩
(axK b)
 (.brk ⟨[(76,(pi 0)),(75,wu),(74,(pc o2 18))],[]⟩
(axL b)
 (.ret (au 19 (.setc o4 0 (.mk [(pc o5 0),(pc o5 1),(pc o5 2),(pc o5 3),(pc o5 4),(pc o5 5),(pc o5 6),(pc o5 7),(pc o5 8),(pc o5 9),(pc o5 10),(pc o5 11),(pc o5 12),(pc o5 13),(pc o5 14),(.o 65541),(.o 69637),(.o 73733),(.o 77829)]))))))))
def ar7 (b:Nat→PC):PT×List (Shp×PT):=(Wk b,[(.lp 0 [20,21] [65541,5] [20] [65541,5],ED b),(.lp 2 [38,39] [73733,5] [38] [73733,5],EE b),(.lp 4 [56,57] [5,69637] [56] [5,69637],EF b),(.lp 6 [76,77] [5,77829] [76] [5,77829],EG b)])
theorem yF:Br.map told=some (ar7 (ax Br)):=by kernel_rfl
theorem aD6:tree KF=Wk rj:=aK yF
theorem Ug:round 0 [20,21] [65541,5] [20] [65541,5] (rj 0)=ED rj:=bq yF 0 fun _=>rfl
theorem Uh:round 2 [38,39] [73733,5] [38] [73733,5] (rj 1)=EE rj:=bq yF 1 fun _=>rfl
theorem Ui:round 4 [56,57] [5,69637] [56] [5,69637] (rj 2)=EF rj:=bq yF 2 fun _=>rfl
theorem Uj:round 6 [76,77] [5,77829] [76] [5,77829] (rj 3)=EG rj:=bq yF 3 fun _=>rfl
theorem an9:Br=some KF:=aC yF
noncomputable def GP:Option PC:=aB {ctx with fr:=[4],nh:=[]} Tryz.f86 ((ab af 86).getD default) []
noncomputable def KL:PC:=aA GP
def Wp:PT:=
 (.ret Th)
def asd (b:Nat→PC):PT×List (Shp×PT):=(Wp,[])
theorem afE:GP.map told=some (asd (ax GP)):=by kernel_rfl
theorem aEc:tree KL=Wp:=aK afE
theorem aof:GP=some KL:=aC afE
noncomputable def Bu:Option PC:=aB {ctx with fr:=[4,7,9,11,12,13,14,15,16],nh:=[]} Tryz.f31 ((ab af 31).getD default) [2,3,5,6,8,10,90,139]
noncomputable def KI:PC:=aA Bu
noncomputable def AA:Nat→PC:=bE Bu
def ayY (b:Nat→PC):PC:=.meach 90 [94,95,11,12] [0,1,0,1] [10] (b 0)
def ayZ (b:Nat→PC):PC:=.meach 139 [143,144,15,16] [0,1,0,1] [10] (b 1)
def Um (b:Nat→PC):PT:=
 (.chk (av cq bu)
 (.next ⟨[],[(10,(.setn cq bu 0 (.mk [pT,bW])))]⟩))
def Un (b:Nat→PC):PT:=
 (.blockS ⟨[],[]⟩ 3 [145,146,147,148,149] [10]
 (.call ⟨[(146,gP)],[]⟩ [] 148 89 [dJ]
 (.chk (av cq (.r 146))
 (.next ⟨[],[(10,(.setn cq (.r 146) 0 (.r 148)))]⟩)))
 (.next ⟨[],[]⟩))
def ur (b:Nat→PC):PT:=
 (.call ⟨[(7,(.mx (pc (.mk [r1]) 20) (pi 0)))],[(6,(.setc Fo 0 (au 15 (.mk [r1])))),(5,(.setc y0 0 (au 19 (.mk [r1])))),(3,(.mk [r1])),(2,(.mk [r0]))]⟩ [] 30 86 [(pc (.mk [r1]) 19),(.llen (pc (.setc y0 0 (au 19 (.mk [r1]))) 15))]
 (.call ⟨[(48,(aU (pc o3 22) (pi (-1)))),(44,(.pick (.pick (.nt tU) pT (aj (pc o3 20) (pi (-1)))) pT (bL r7 (.llen (pc o5 15)))))],[]⟩ [(48,true),(44,false)] 51 86 [(pc o3 22),(pi 100001)]
 (.ite (.pick tV pT (.pick lX (.nt lY) pF))
 (.ret pL)
 (.chk (av (pc o5 15) (pc o3 19))
 (.call ⟨[],[(8,(.setc z9 0 (pn (pc o5 15) (pc o3 19))))]⟩ [] 63 86 [(pc (.setc z9 0 (pn (pc o5 15) (pc o3 19))) 6),(pi 100001)]
 (.ite (.nt LO)
 (.ret pL)
 (.chk (.an (bL (pi 20) (pi 0)) (bJ (pi 20) cK))
 (.chk (aq (pi 20) (pi 20))
 (.chk (aj (.mlen (.con (.map []))) cK)
 (.chk (aj (.mlen (.put (.con (.map [])) (pi 0) (pc o6 3))) cK)
 (.chk (aj (.mlen (.put (.put (.con (.map [])) (pi 0) (pc o6 3)) (pi 1) (pc o6 14))) cK)
 (.chk (aj (.mlen Tk) cK)
 (.chk (aj (.mlen (.put Tk (pi 3) (pc o6 12))) cK)
 (.chk (aj (.mlen Tq) cK)
 (.chk (aj (.mlen (.put Tq (pi 5) (pc o3 21))) cK)
 (.blockS ⟨[(10,pN),(9,agu)],[(90,(.tup [(.lst []),(.put (.put Tq (pi 5) (pc o3 21)) (pi 6) agu)])),(10,(.rep (pi 20) fg))]⟩ 0 [] [10]
 (.brk ⟨[],[]⟩
(ayY b)
 (.exit 0 ⟨[],[]⟩))
 (.call ⟨[],[(3,(au 24 o3))]⟩ [] 104 87 [(pc o5 16),(.clo 88 [(.ref (au 24 o3))])]
 (.call ⟨[(13,DW)],[]⟩ [] 108 32 [(au 8 o2),(pc o6 9)]
 (.call ⟨[],[]⟩ [] 112 32 [(au 8 o2),(pc o6 10)]
 (.chk (aj (.mlen (.con (.map []))) cK)
 (.chk (aj (.mlen Tp) cK)
 (.chk (aj (.mlen (.put Tp (pi 8) (aq (pc o6 2) (pi (-1))))) cK)
 (.chk (aj (.mlen (.put (.put Tp (pi 8) (aq (pc o6 2) (pi (-1)))) (pi 9) (aU (.ai .and .i64 (pc o6 13) (pi 4)) (pi 0)))) cK)
 (.chk (aj (.mlen Ly) cK)
 (.chk (aj (.mlen (.put Ly (pi 11) (aU DY DZ))) cK)
 (.chk (aj (.mlen (.put (.put Ly (pi 11) (aU DY DZ)) (pi 12) eH)) cK)
 (.chk (aj (.mlen agE) cK)
 (.blockS ⟨[],[(139,(.tup [(.lst []),(.put agE (pi 14) (be r9 (pi 0)))]))]⟩ 2 [] [10]
 (.brk ⟨[],[]⟩
(ayZ b)
 (.exit 2 ⟨[],[]⟩))
 (.call ⟨[],[]⟩ [] 154 90 [(au 19 o5),(pi 0),(pc o3 19)]
 (.chk (av cq (pi 15))
 (.call ⟨[],[(10,(.setn cq (pi 15) 0 (.r 154)))]⟩ [] 160 90 [(au 19 o5),(pi 1),(pc o3 19)]
 (.chk (av cq (pi 16))
 (.call ⟨[],[(10,(.setn cq (pi 16) 0 (.r 160)))]⟩ [] 166 90 [(au 19 o5),(pi 2),(pc o3 19)]
 (.chk (av cq (pi 17))
 (.call ⟨[],[(10,(.setn cq (pi 17) 0 (.r 166)))]⟩ [] 171 90 [(au 19 o5),(pi 3),r7]
 (.chk (av cq (pi 18))
 (.call ⟨[],[(10,(.setn cq (pi 18) 0 (.r 171)))]⟩ [] 176 90 [(au 19 o5),(pi 4),r7]
 (.chk (av cq (pi 19))
 (.ret (.setn cq (pi 19) 0 (.r 176)))))))))))))))))))))))))))))))))))))))))
def asa (b:Nat→PC):PT×List (Shp×PT):=(ur b,[(.ea [10],Um b),(.ea [10],Un b)])
theorem I5:Bu.map told=some (asa (ax Bu)):=by kernel_rfl
theorem aEa:tree KI=ur AA:=aK I5
theorem aBp:pR [10] (AA 0)=Um AA:=UZ I5 0 fun _=>rfl
theorem aBq:pR [10] (AA 1)=Un AA:=UZ I5 1 fun _=>rfl
theorem aod:Bu=some KI:=aC I5
noncomputable def GN:Option PC:=aB {ctx with fr:=[3],nh:=[]} Tryz.f88 ((ab af 88).getD default) [2]
noncomputable def KJ:PC:=aA GN
def Wn:PT:=
 (.ret (bJ kS (pc (.deref r1) 19)))
def asb (b:Nat→PC):PT×List (Shp×PT):=(Wn,[])
theorem afC:GN.map told=some (asb (ax GN)):=by kernel_rfl
theorem aD9:tree KJ=Wn:=aK afC
theorem aoc:GN=some KJ:=aC afC
noncomputable def GQ:Option PC:=aB {ctx with fr:=[4],nh:=[]} Tryz.f87 ((ab af 87).getD default) []
noncomputable def KN:PC:=aA GQ
def Wr:PT:=
 (.call ⟨[],[]⟩ [] 7 164 [r0,r1]
 (.ret (bL r7 (pi 0))))
def asg (b:Nat→PC):PT×List (Shp×PT):=(Wr,[])
theorem afF:GQ.map told=some (asg (ax GQ)):=by kernel_rfl
theorem aEf:tree KN=Wr:=aK afF
theorem aog:GQ=some KN:=aC afF
noncomputable def Bx:Option PC:=aB {ctx with fr:=[4,5],nh:=[]} Tryz.f164 ((ab af 164).getD default) []
noncomputable def KR:PC:=aA Bx
noncomputable def N5:Nat→PC:=bE Bx
def axT (b:Nat→PC):PC:=.block 0 [4,8,9] [] (.loop [4,8] [] (b 0))
def EK (b:Nat→PC):PT:=
 (.ite (aj r8 r7)
 (.blockS ⟨[],[]⟩ 1 [4,5,10,11,12,13,14,15,16] []
 (.chk (av r0 r8)
 (.callc ⟨[(5,r8)],[]⟩ [] 16 r1 [(pn r0 r8)]
 (.ite dJ
 (.ret r5)
 (.next ⟨[],[]⟩))))
 (.next ⟨[(8,sf)],[]⟩))
 (.exit 0 ⟨[(9,(aj r8 r7))],[]⟩))
def Wv (b:Nat→PC):PT:=
 (.brk ⟨[(8,(pi 0)),(7,(.llen r0)),(4,(pi 0))],[]⟩
(axT b)
 (.ret (pi (-1))))
def asl (b:Nat→PC):PT×List (Shp×PT):=(Wv b,[(.lp 0 [4,8,9] [] [4,8] [],EK b)])
theorem Sz:Bx.map told=some (asl (ax Bx)):=by kernel_rfl
theorem aEj:tree KR=Wv N5:=aK Sz
theorem Uo:round 0 [4,8,9] [] [4,8] [] (N5 0)=EK N5:=bq Sz 0 fun _=>rfl
theorem aoj:Bx=some KR:=aC Sz
noncomputable def GK:Option PC:=aB {ctx with fr:=[4],nh:=[]} Tryz.f32 ((ab af 32).getD default) [2]
noncomputable def Ks:PC:=aA GK
def V8:PT:=
 (.call ⟨[],[(2,(.mk [r0]))]⟩ [] 9 91 [r1,(.llen se)]
 (.ite (.nt r9)
 (.ret (pi (-1)))
 (.chk (av (pc o2 1) r1)
 (.ret (pc (pn (pc o2 1) r1) 1)))))
def arV (b:Nat→PC):PT×List (Shp×PT):=(V8,[])
theorem afz:GK.map told=some (arV (ax GK)):=by kernel_rfl
theorem aDU:tree Ks=V8:=aK afz
theorem anX:GK=some Ks:=aC afz
noncomputable def GL:Option PC:=aB {ctx with fr:=[4],nh:=[]} Tryz.f91 ((ab af 91).getD default) []
noncomputable def Kw:PC:=aA GL
def Wc:PT:=
 (.ret Th)
def arZ (b:Nat→PC):PT×List (Shp×PT):=(Wc,[])
theorem afA:GL.map told=some (arZ (ax GL)):=by kernel_rfl
theorem aDY:tree Kw=Wc:=aK afA
theorem an1:GL=some Kw:=aC afA
noncomputable def GO:Option PC:=aB {ctx with fr:=[],nh:=[]} Tryz.f89 ((ab af 89).getD default) [2]
noncomputable def KK:PC:=aA GO
def Wo:PT:=
 (.ite r0
 (.ret (.mk [(pc wk 0),(pc wk 1)]))
 (.ret (.mk [(pc LI 0),(pc LI 1)])))
def asc (b:Nat→PC):PT×List (Shp×PT):=(Wo,[])
theorem afD:GO.map told=some (asc (ax GO)):=by kernel_rfl
theorem aEb:tree KK=Wo:=aK afD
theorem aoe:GO=some KK:=aC afD
noncomputable def Bs:Option PC:=aB {ctx with fr:=[],nh:=[]} Tryz.f90 ((ab af 90).getD default) [3,6,8]
noncomputable def KG:PC:=aA Bs
noncomputable def N4:Nat→PC:=bE Bs
def axM (b:Nat→PC):PC:=.block 0 [12,13] [6] (.loop [12] [6] (b 0))
def EH (b:Nat→PC):PT:=
 (.ite (aj bW bu)
 (.blockS ⟨[],[]⟩ 1 [8,14,15,16,17,18,19,20,25] [8,6]
 (.chk (av cR bW)
 (.iteS ⟨[],[(8,(.setc z3 0 (pn cR bW)))]⟩ (.pick (aq (pc (.setc z3 0 (pn cR bW)) 0) r1) (aq (pc (.setc z3 0 (pn cR bW)) 1) r2) pF) [] [6]
 (.call ⟨[],[]⟩ [] 29 89 [(aU (pc o8 2) (pi 0))]
 (.ret (.mk [(pc (.setc o6 0 nT) 0),(pc (.setc o6 0 nT) 1)])))
 (.next ⟨[],[]⟩)
 (.next ⟨[],[]⟩)))
 (.next ⟨[(12,(aO bW (pi 1)))],[]⟩))
 (.exit 0 ⟨[(13,(aj bW bu))],[]⟩))
def Wl (b:Nat→PC):PT:=
 (.brk ⟨[(12,(pi 0)),(11,(.llen (pc (.mk [r0]) 18))),(10,(pc (.mk [r0]) 18))],[(6,fg)]⟩
(axM b)
 (.ret To))
def ar8 (b:Nat→PC):PT×List (Shp×PT):=(Wl b,[(.lp 0 [12,13] [6] [12] [6],EH b)])
theorem Sy:Bs.map told=some (ar8 (ax Bs)):=by kernel_rfl
theorem aD7:tree KG=Wl N4:=aK Sy
theorem Uk:round 0 [12,13] [6] [12] [6] (N4 0)=EH N4:=bq Sy 0 fun _=>rfl
theorem aoa:Bs=some KG:=aC Sy
noncomputable def AS:Option PC:=aB {ctx with fr:=[2,3,4,11],nh:=[]} Tryz.f97 ((ab af 97).getD default) []
noncomputable def JM:PC:=aA AS
def Vv:PT:=
 (.blockS ⟨[],[]⟩ 0 [2,3,4,5,6,7,10,11,12,13,14] []
 (.iteS ⟨[],[]⟩ (.pick (aj r0 (pi 0)) pT (bL r0 (pi 22))) [2,3,11,12,13,14] []
 (.ret (.tup [(pi 0),pF]))
 (.call ⟨[],[]⟩ [] 14 94 [(.lst [(pc qO 0),(pc qO 1),(pc qO 2),(pc qO 3),(pc qO 4),(pc qO 5),(pc qO 6),(pc qO 7),(pc qO 8),(pc qO 9)]),r0]
 (.ite du
 (.ret (.tup [(pi 0),pT]))
 (.next ⟨[],[]⟩)))
 (.next ⟨[],[]⟩))
 (.ret (.tup [(pi 1),pT])))
def arb (b:Nat→PC):PT×List (Shp×PT):=(Vv,[])
theorem afg:AS.map told=some (arb (ax AS)):=by kernel_rfl
theorem aDg:tree JM=Vv:=aK afg
theorem YW:AS=some JM:=aC afg
noncomputable def Bw:Option PC:=aB {ctx with fr:=[4],nh:=[]} Tryz.f94 ((ab af 94).getD default) []
noncomputable def KP:PC:=aA Bw
def Wt:PT:=
 (.call ⟨[],[]⟩ [] 7 167 [r0,r1]
 (.ret (bL r7 (pi 0))))
def asi (b:Nat→PC):PT×List (Shp×PT):=(Wt,[])
theorem afH:Bw.map told=some (asi (ax Bw)):=by kernel_rfl
theorem aEh:tree KP=Wt:=aK afH
theorem Zb:Bw=some KP:=aC afH
noncomputable def xr:Option PC:=aB {ctx with fr:=[4,5],nh:=[]} Tryz.f167 ((ab af 167).getD default) []
noncomputable def KU:PC:=aA xr
noncomputable def N8:Nat→PC:=bE xr
def axW (b:Nat→PC):PC:=.block 0 [4,8,9] [] (.loop [4,8] [] (b 0))
def EN (b:Nat→PC):PT:=
 (.ite (aj r8 r7)
 (.chk (av r0 r8)
 (.ite (aq r1 (pn r0 r8))
 (.ret r8)
 (.next ⟨[(8,sf)],[]⟩)))
 (.exit 0 ⟨[(9,(aj r8 r7))],[]⟩))
def Wy (b:Nat→PC):PT:=
 (.brk ⟨[(8,(pi 0)),(7,(.llen r0)),(4,(pi 0))],[]⟩
(axW b)
 (.ret (pi (-1))))
def asp (b:Nat→PC):PT×List (Shp×PT):=(Wy b,[(.lp 0 [4,8,9] [] [4,8] [],EN b)])
theorem SC:xr.map told=some (asp (ax xr)):=by kernel_rfl
theorem aEm:tree KU=Wy N8:=aK SC
theorem Ur:round 0 [4,8,9] [] [4,8] [] (N8 0)=EN N8:=bq SC 0 fun _=>rfl
theorem Zd:xr=some KU:=aC SC
noncomputable def AO:Option PC:=aB {ctx with fr:=[8,9,11,12,13,14,55,70],nh:=[]} Tryz.f33 ((ab af 33).getD default) [4,10,53]
noncomputable def JA:PC:=aA AO
noncomputable def NH:Nat→PC:=bE AO
def awW (b:Nat→PC):PC:=.block 0 [] [] (.loop [8,9,10] [10] (b 0))
def TJ (b:Nat→PC):PT:=
 (.blockS ⟨[],[]⟩ 1 [8,9,10,11,12,13,14,32,33,35,36,37,38,39,40,41,42,43,44,45,46,49,50,52,53,54,55,56,57,58,68,70,71] [53,10]
 (.chk (av cq (bD (.llen cq) (pi 1)))
 (.call ⟨[(11,(pn cq (bD (.llen cq) (pi 1))))],[]⟩ [] 41 93 [(au 8 o4),(pn cq (bD (.llen cq) (pi 1))),r2,r3]
 (.ite (aq (.tget qU 0) bu)
 (.ret (.tup [cq,(pi 0)]))
 (.call ⟨[(13,(.tget qU 1)),(12,(.tget qU 0))],[]⟩ [] 50 94 [cq,(.tget qU 0)]
 (.chk (bJ (.llen (.app cq (.lst [bW]))) cK)
 (.chk (.nt (.an (.an kW (.an (.nt (.nt eH)) pT)) (.nt (av (pc o4 4) bW))))
 (.ite (.pick (.nt eH) pT (.pick kW (pc (pn (pc o4 4) bW) 1) pF))
 (.ret (.tup [(.app cq (.lst [bW])),(pi 0)]))
 (.ite kW
 (.ret (.tup [(.app cq (.lst [bW])),(pi 12)]))
 (.next ⟨[(10,pN)],[(10,(.app cq (.lst [bW])))]⟩)))))))))
 (.next ⟨[],[]⟩))
def Vk (b:Nat→PC):PT:=
 (.call ⟨[(9,(pi 0)),(8,pL)],[(4,(.mk [r0]))]⟩ [] 19 92 [km,r1,r2,r3]
 (.chk (.nt (.an (.an (.nt (.nt gj)) pT) (.nt (av r3 (pi 0)))))
 (.ite (.pick (.nt gj) pT (aU (pn r3 (pi 0)) r1))
 (.ret (.tup [pL,(pi 1)]))
 (.brk ⟨[(10,pN)],[(10,(.lst [r1]))]⟩
(awW b)
 (.next ⟨[],[]⟩)))))
def aqY (b:Nat→PC):PT×List (Shp×PT):=(Vk b,[(.lp 0 [] [] [8,9,10] [10],TJ b)])
theorem R8:AO.map told=some (aqY (ax AO)):=by kernel_rfl
theorem aC1:tree JA=Vk NH:=aK R8
theorem aBn:round 0 [] [] [8,9,10] [10] (NH 0)=TJ NH:=bq R8 0 fun _=>rfl
theorem am7:AO=some JA:=aC R8
noncomputable def Gk:Option PC:=aB {ctx with fr:=[8],nh:=[]} Tryz.f92 ((ab af 92).getD default) [4,9]
noncomputable def JC:PC:=aA Gk
def uq:PT:=
 (.ite (.pick (.pick (.pick (.pick (aj r1 (pi 0)) pT (bL r1 (pc (.setc DS 0 (.llen wy)) 0))) pT (aj r2 (pi 0))) pT (bL r2 (pi 22))) pT (aU (.llen r3) (pi 5)))
 (.ret pF)
 (.call ⟨[],[]⟩ [] 35 165 [r3,(.clo 166 [(.ref (pc (.setc DS 0 (.llen wy)) 0))])]
 (.ret (.nt wA))))
def aq0 (b:Nat→PC):PT×List (Shp×PT):=(uq,[])
theorem ae7:Gk.map told=some (aq0 (ax Gk)):=by kernel_rfl
theorem aC4:tree JC=uq:=aK ae7
theorem ana:Gk=some JC:=aC ae7
noncomputable def Gl:Option PC:=aB {ctx with fr:=[3],nh:=[]} Tryz.f166 ((ab af 166).getD default) []
noncomputable def JD:PC:=aA Gl
def Vm:PT:=
 (.ret (.pick (aj r0 (pi 0)) pT (bL r0 (.deref r1))))
def aq1 (b:Nat→PC):PT×List (Shp×PT):=(Vm,[])
theorem ae8:Gl.map told=some (aq1 (ax Gl)):=by kernel_rfl
theorem aC3:tree JD=Vm:=aK ae8
theorem am9:Gl=some JD:=aC ae8
noncomputable def GR:Option PC:=aB {ctx with fr:=[4],nh:=[]} Tryz.f165 ((ab af 165).getD default) []
noncomputable def KO:PC:=aA GR
def Ws:PT:=
 (.call ⟨[],[]⟩ [] 7 216 [r0,r1]
 (.ret (bL r7 (pi 0))))
def ash (b:Nat→PC):PT×List (Shp×PT):=(Ws,[])
theorem afG:GR.map told=some (ash (ax GR)):=by kernel_rfl
theorem aEg:tree KO=Ws:=aK afG
theorem aoh:GR=some KO:=aC afG
noncomputable def By:Option PC:=aB {ctx with fr:=[4,5],nh:=[]} Tryz.f216 ((ab af 216).getD default) []
noncomputable def KT:PC:=aA By
noncomputable def N7:Nat→PC:=bE By
def axV (b:Nat→PC):PC:=.block 0 [4,8,9] [] (.loop [4,8] [] (b 0))
def EM (b:Nat→PC):PT:=
 (.ite (aj r8 r7)
 (.blockS ⟨[],[]⟩ 1 [4,5,10,11,12,13,14,15,16] []
 (.chk (av r0 r8)
 (.callc ⟨[(5,r8)],[]⟩ [] 16 r1 [(pn r0 r8)]
 (.ite dJ
 (.ret r5)
 (.next ⟨[],[]⟩))))
 (.next ⟨[(8,sf)],[]⟩))
 (.exit 0 ⟨[(9,(aj r8 r7))],[]⟩))
def Wx (b:Nat→PC):PT:=
 (.brk ⟨[(8,(pi 0)),(7,(.llen r0)),(4,(pi 0))],[]⟩
(axV b)
 (.ret (pi (-1))))
def aso (b:Nat→PC):PT×List (Shp×PT):=(Wx b,[(.lp 0 [4,8,9] [] [4,8] [],EM b)])
theorem SB:By.map told=some (aso (ax By)):=by kernel_rfl
theorem aEl:tree KT=Wx N7:=aK SB
theorem Uq:round 0 [4,8,9] [] [4,8] [] (N7 0)=EM N7:=bq SB 0 fun _=>rfl
theorem aok:By=some KT:=aC SB
noncomputable def AP:Option PC:=aB {ctx with fr:=[8,9],nh:=[]} Tryz.f93 ((ab af 93).getD default) [4,11]
noncomputable def JB:PC:=aA AP
noncomputable def NI:Nat→PC:=bE AP
def awX (b:Nat→PC):PC:=.block 0 [8,9,25,26] [] (.loop [8,9,25] [] (b 0))
def D8 (b:Nat→PC):PT:=
 (.ite (aj gR pJ)
 (.chk (av jA gR)
 (.ite (.pick (aq (pc DP 0) r2) (aU (pc DP 1) (pi 0)) pF)
 (.chk (av r3 (pc DP 1))
 (.ret (.tup [(pn r3 (pc DP 1)),(pc DP 2)])))
 (.next ⟨[(25,(aO gR (pi 1)))],[]⟩)))
 (.exit 0 ⟨[(26,(aj gR pJ))],[]⟩))
def Vl (b:Nat→PC):PT:=
 (.call ⟨[(9,pF),(8,(pi 0))],[(4,(.mk [r0]))]⟩ [] 16 92 [km,r1,r2,r3]
 (.ite (.nt dJ)
 (.ret (.tup [(pi (-1)),pF]))
 (.chk (av (pc o4 4) r1)
 (.brk ⟨[(25,(pi 0)),(24,(.llen (pc (pn (pc o4 4) r1) 2))),(23,(pc (pn (pc o4 4) r1) 2))],[]⟩
(awX b)
 (.ret (.tup [r1,pF]))))))
def aqZ (b:Nat→PC):PT×List (Shp×PT):=(Vl b,[(.lp 0 [8,9,25,26] [] [8,9,25] [],D8 b)])
theorem R9:AP.map told=some (aqZ (ax AP)):=by kernel_rfl
theorem aC2:tree JB=Vl NI:=aK R9
theorem TK:round 0 [8,9,25,26] [] [8,9,25] [] (NI 0)=D8 NI:=bq R9 0 fun _=>rfl
theorem am8:AP=some JB:=aC R9
noncomputable def Gt:Option PC:=aB {ctx with fr:=[7,9,11,12],nh:=[]} Tryz.f35 ((ab af 35).getD default) [3,6,8,10]
noncomputable def JL:PC:=aA Gt
def Vu:PT:=
 (.call ⟨[],[(6,fg)]⟩ [] 16 95 [(au 4 (.mk [r0])),r1]
 (.ite (aU (.tget dJ 1) (pi 0))
 (.ret (.tup [To,(.tget dJ 1)]))
 (.call ⟨[],[]⟩ [] 25 96 [(.mk [(pc (.setc jV 0 (.tget dJ 0)) 0),(pc (.setc jV 0 (.tget dJ 0)) 1),(pc (.setc jV 0 (.tget dJ 0)) 2)]),r2]
 (.call ⟨[],[(10,(.setc fg 0 gR))]⟩ [] 28 97 [r1]
 (.ret (.tup [(.mk [(pc (.setc o6 0 (.mk [(pc LA 0),(pc LA 1)])) 0),(pc (.setc o6 0 (.mk [(pc LA 0),(pc LA 1)])) 1)]),(pi 0)]))))))
def aq9 (b:Nat→PC):PT×List (Shp×PT):=(Vu,[])
theorem aff:Gt.map told=some (aq9 (ax Gt)):=by kernel_rfl
theorem aDe:tree JL=Vu:=aK aff
theorem anj:Gt=some JL:=aC aff
noncomputable def AT:Option PC:=aB {ctx with fr:=[5,6,7,8,10,11],nh:=[]} Tryz.f95 ((ab af 95).getD default) [2,3,4,12292,9]
noncomputable def JN:PC:=aA AT
def Vw:PT:=
 (.call ⟨[],[(4,jV),(3,(.mk [r1])),(2,(.mk [r0]))]⟩ [] 14 97 [y4]
 (.ite (.nt (.tget du 1))
 (.ret (.tup [Tl,(pi 1)]))
 (.call ⟨[(6,(.tget du 0))],[]⟩ [] 23 168 [(pc o2 3),(.clo 169 [(.ref (pc o3 0))])]
 (.ite (aj jA (pi 0))
 (.ret (.tup [Tl,(pi 4)]))
 (.chk (av (pc o2 3) jA)
 (.call ⟨[],[(9,LF)]⟩ [] 35 170 [(.mk [(pc LF 0),(pc LF 1),(pc LF 2)])]
 (.ite (.pick (aU (.tget wA 1) (pi 0)) pT (aU (.tget wA 0) r6))
 (.ret (.tup [Tl,(pi 11)]))
 (.ret (.tup [(.mk [(pc Tr 0),(pc Tr 1),(pc Tr 2)]),(pi 0)])))))))))
def arc (b:Nat→PC):PT×List (Shp×PT):=(Vw,[])
theorem afh:AT.map told=some (arc (ax AT)):=by kernel_rfl
theorem aDi:tree JN=Vw:=aK afh
theorem YY:AT=some JN:=aC afh
noncomputable def AU:Option PC:=aB {ctx with fr:=[3],nh:=[]} Tryz.f169 ((ab af 169).getD default) [2]
noncomputable def JO:PC:=aA AU
def Vx:PT:=
 (.ret (aq kS (.deref r1)))
def ard (b:Nat→PC):PT×List (Shp×PT):=(Vx,[])
theorem afi:AU.map told=some (ard (ax AU)):=by kernel_rfl
theorem aDh:tree JO=Vx:=aK afi
theorem YX:AU=some JO:=aC afi
noncomputable def xq:Option PC:=aB {ctx with fr:=[4,5],nh:=[]} Tryz.f168 ((ab af 168).getD default) []
noncomputable def KS:PC:=aA xq
noncomputable def N6:Nat→PC:=bE xq
def axU (b:Nat→PC):PC:=.block 0 [4,8,9] [] (.loop [4,8] [] (b 0))
def EL (b:Nat→PC):PT:=
 (.ite (aj r8 r7)
 (.blockS ⟨[],[]⟩ 1 [4,5,10,11,12,13,14,15,16] []
 (.chk (av r0 r8)
 (.callc ⟨[(5,r8)],[]⟩ [] 16 r1 [(pn r0 r8)]
 (.ite dJ
 (.ret r5)
 (.next ⟨[],[]⟩))))
 (.next ⟨[(8,sf)],[]⟩))
 (.exit 0 ⟨[(9,(aj r8 r7))],[]⟩))
def Ww (b:Nat→PC):PT:=
 (.brk ⟨[(8,(pi 0)),(7,(.llen r0)),(4,(pi 0))],[]⟩
(axU b)
 (.ret (pi (-1))))
def asn (b:Nat→PC):PT×List (Shp×PT):=(Ww b,[(.lp 0 [4,8,9] [] [4,8] [],EL b)])
theorem SA:xq.map told=some (asn (ax xq)):=by kernel_rfl
theorem aEk:tree KS=Ww N6:=aK SA
theorem Up:round 0 [4,8,9] [] [4,8] [] (N6 0)=EL N6:=bq SA 0 fun _=>rfl
theorem Zc:xq=some KS:=aC SA
noncomputable def BG:Option PC:=aB {ctx with fr:=[2,3],nh:=[]} Tryz.f170 ((ab af 170).getD default) [1]
noncomputable def K7:PC:=aA BG
def WH:PT:=
 (.call ⟨[],[(1,(.mk [r0]))]⟩ [] 5 217 [Lz,(pi 1)]
 (.ite (be r5 (pi 60))
 (.ret (.tup [(pi 0),(pi 6)]))
 (.call ⟨[],[]⟩ [] 8 218 [(.mk [(pc o1 0),(pc o1 1),(pc o1 2)])]
 (.ret (.tup [(.tget r8 0),(.tget r8 1)])))))
def asD (b:Nat→PC):PT×List (Shp×PT):=(WH,[])
theorem afP:BG.map told=some (asD (ax BG)):=by kernel_rfl
theorem aEx:tree K7=WH:=aK afP
theorem Zh:BG=some K7:=aC afP
noncomputable def xw:Option PC:=aB {ctx with fr:=[4,5],nh:=[]} Tryz.f217 ((ab af 217).getD default) [2,7,12295]
noncomputable def Li:PC:=aA xw
noncomputable def Oe:Nat→PC:=bE xw
def ax7 (b:Nat→PC):PC:=.block 0 [5,13,14] [] (.loop [5,13] [] (b 0))
def ES (b:Nat→PC):PT:=
 (.ite (aj eH bW)
 (.blockS ⟨[(14,(aj eH bW))],[]⟩ 1 [5,7,15,16,17,18,19,20,21,22,23,24] [7,12295]
 (.chk (av bu eH)
 (.call ⟨[(17,r5)],[]⟩ [] 21 217 [(.mk [(pc (.setc jV 0 (pn bu eH)) 0),(pc (.setc jV 0 (pn bu eH)) 1),(pc (.setc jV 0 (pn bu eH)) 2)]),(aO r1 (pi 1))]
 (.ite (be (aO kp kq) (pi 60))
 (.exit 0 ⟨[(5,(aO kp kq))],[]⟩)
 (.next ⟨[(5,(aO kp kq))],[]⟩))))
 (.next ⟨[(13,(aO eH (pi 1)))],[]⟩))
 (.exit 0 ⟨[(14,(aj eH bW))],[]⟩))
def MQ (b:Nat→PC):PT:=
 (.ite (be r1 (pi 8))
 (.ret (pi 61))
 (.brk ⟨[(13,(pi 0)),(12,pI),(11,zc),(5,(pi 1))],[]⟩
(ax7 b)
 (.ret r5)))
def asO (b:Nat→PC):PT×List (Shp×PT):=(MQ b,[(.lp 0 [5,13,14] [] [5,13] [],ES b)])
theorem SI:xw.map told=some (asO (ax xw)):=by kernel_rfl
theorem aib:tree Li=MQ Oe:=aK SI
theorem Uw:round 0 [5,13,14] [] [5,13] [] (Oe 0)=ES Oe:=bq SI 0 fun _=>rfl
theorem Zp:xw=some Li:=aC SI
end Rm
