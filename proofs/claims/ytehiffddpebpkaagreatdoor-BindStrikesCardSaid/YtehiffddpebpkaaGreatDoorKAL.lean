/-
  The functions of this seat, compiled (1).
-/
import Derived.Test.YtehiffddpebpkaaGreatDoorKAK
import Derived.KernelRfl
set_option linter.unusedVariables false
set_option maxRecDepth 100000
namespace Rm
open Go Go.Proofs Cx
noncomputable def cf_l23_BindAlone:Option PC:=av {ctx with fr:=[12,13,15,16,18,20],nh:=[]} Tryz.f4 ((aa aq 4).getD default) [6,8,14,77838,53,78,17,19]
noncomputable def vU:PC:=hpc cf_l23_BindAlone
def Ea (b:Nat→PC):PC:=.block 0 [15,34,35,36,37] [14,77838] (.loop [15] [14,77838] (b 0))
def C2 (b:Nat→PC):PC:=.block 2 [16,56,57,58,59,60] [14,77838] (.loop [16] [14,77838] (b 1))
def EA (b:Nat→PC):PT:=
 (.ite (plt r15 (.llen r5))
 (.chk (pix r5 r15)
 (.ite (pne (pc (pn r5 r15) 1) r3)
 (.chk (ple (.llen (.app (.o 77838) (.lst [(pn r5 r15)]))) aX)
 (.next ⟨[(15,(aF r15 (pi 1)))],[(14,(.setc o14 18 pN)),(77838,(.app (.o 77838) (.lst [(pn r5 r15)])))]⟩))
 (.next ⟨[(15,(aF r15 (pi 1)))],[]⟩)))
 (.exit 0 ⟨[(34,r15),(35,r5),(36,(.llen r5)),(37,(plt r15 (.llen r5)))],[]⟩))
def CW (b:Nat→PC):PT:=
 (.ite (plt r16 (.llen (pc o8 18)))
 (.chk (pix (pc o8 18) r16)
 (.ite (peq (pc (pn (pc o8 18) r16) 1) r3)
 (.chk (ple (.llen (.app (.o 77838) (.lst [(pn (pc o8 18) r16)]))) aX)
 (.next ⟨[(16,IK)],[(14,(.setc o14 18 pN)),(77838,(.app (.o 77838) (.lst [(pn (pc o8 18) r16)])))]⟩))
 (.next ⟨[(16,IK)],[]⟩)))
 (.exit 2 ⟨[(56,r16),(57,pN),(58,(pc o8 18)),(59,(.llen (pc o8 18))),(60,(plt r16 (.llen (pc o8 18))))],[]⟩))
def HE (b:Nat→PC):PT:=
 (.call ⟨[],[(8,(.mk [r2])),(6,(.mk [r0]))]⟩ [] 21 15 []
 (.call ⟨[(13,r21)],[]⟩ [] 24 16 [(mkA 8 o6),(mkA 19 o8)]
 (.ite (.pick (.nt r24) pT (pgt (.llen r5) (pi 100)))
 (.ret r13)
 (.brk ⟨[(15,(pi 0))],[(77838,pL),(14,(.setc (.setc DJ 0 (mkA 19 o8)) 18 pL))]⟩
(Ea b)
 (.brk ⟨[(16,(pi 0))],[]⟩
(C2 b)
 (.call ⟨[],[]⟩ [] 87 17 [(mkA 8 o6),r1,(mkA 19 o8),r3,r4]
 (.call ⟨[(18,(.tget r87 1))],[(17,(.setc VN 0 (.tget r87 0)))]⟩ [] 96 17 [(mkA 8 o6),r1,(.mk [(pc o14 0),(pc o14 1),(pc o14 2),(pc o14 3),(pc o14 4),(pc o14 5),(pc o14 6),(pc o14 7),(pc o14 8),(pc o14 9),(pc o14 10),(pc o14 11),(pc o14 12),(pc o14 13),(pc o14 14),(pc o14 15),(pc o14 16),(pc o14 17),(.o 77838)]),r3,r4]
 (.ret (.pick (.pick r13 (.an (peq (pc (mkA 7 o17) 0) (pc Qc 0)) (.an (peq (pc (mkA 7 o17) 1) (pc Qc 1)) (.an (peq (pc (mkA 7 o17) 2) (pc Qc 2)) (.an (peq (pc (mkA 7 o17) 3) (pc Qc 3)) (.an (peq (pc (mkA 7 o17) 4) (pc Qc 4)) (.an (peq (pc (mkA 7 o17) 5) (pc Qc 5)) (.an (.cb .eql (pc (mkA 7 o17) 6) (pc Qc 6)) pT))))))) pF) (.cb .eql r18 (.tget r96 1)) pF)))))))))
def I3 (b:Nat→PC):PT×List (Shp×PT):=(HE b,[(.lp 0 [15,34,35,36,37] [14,77838] [15] [14,77838],EA b),(.lp 2 [16,56,57,58,59,60] [14,77838] [16] [14,77838],CW b)])
theorem HT:cf_l23_BindAlone.map told=some (I3 (aA cf_l23_BindAlone)):=by kernel_rfl
theorem BQ:cf_l23_BindAlone=some vU:=ah HT
noncomputable def cf_l23_small:Option PC:=av {ctx with fr:=[0,3,5,7],nh:=[]} Tryz.f15 ((aa aq 15).getD default) [1,2,4]
noncomputable def qK:PC:=hpc cf_l23_small
def xl:PT:=
 (.call ⟨[],[]⟩ [] 9 58 []
 (.call ⟨[(3,(.lst [(.mk [(pi 0),(pi 0),(pi 0),(pi 1),(pi 0),(pi 500),pT]),(.mk [(pi 1),(pi 1),(pi 1),(pi 2),(pi 0),(pi 400),pF]),(.mk [(pi 2),(pi 2),(pi 0),(pi 2),(pi 0),(pi 900),pT])]))],[(2,(.setc DJ 0 (.tget r9 1))),(1,aeC)]⟩ [] 19 17 [(mkA 8 aeC),(pi 0),(mkA 19 (.setc DJ 0 (.tget r9 1))),(pi 2),(pi 5)]
 (.call ⟨[(5,(.tget r19 1))],[(4,(.setc VN 0 (.tget r19 0)))]⟩ [] 25 17 [(mkA 8 o1),(pi 0),(mkA 19 o2),(pi 1),(pi 2)]
 (.call ⟨[(7,(.tget r25 1))],[]⟩ [] 30 20 [(mkA 8 o1),(pi 0),(mkA 19 o2),(pi 5)]
 (.call ⟨[],[]⟩ [] 32 19 [r30,r3]
 (.call ⟨[(33,r32)],[]⟩ [(33,true)] 36 20 [(mkA 8 o1),(pi 0),(mkA 19 o2),(pi 2)]
 (.chk (.nt (.an (.an r33 pT) (.nt (.slok r3 (pi 0) (pi 1)))))
 (.call ⟨[],[]⟩ [(33,true)] 39 19 [r36,(.slc r3 (pi 0) (pi 1))]
 (.chk (.nt (.an (.an (.pick r33 r39 pF) pT) (.nt (pix r3 (pi 2)))))
 (.call ⟨[(55,(.pick (.pick (.pick (.pick r33 r39 pF) (.an (peq (pc (mkA 7 o4) 0) (pc Ec 0)) (.an (peq (pc (mkA 7 o4) 1) (pc Ec 1)) (.an (peq (pc (mkA 7 o4) 2) (pc Ec 2)) (.an (peq (pc (mkA 7 o4) 3) (pc Ec 3)) (.an (peq (pc (mkA 7 o4) 4) (pc Ec 4)) (.an (peq (pc (mkA 7 o4) 5) (pc Ec 5)) (.an (.cb .eql (pc (mkA 7 o4) 6) (pc Ec 6)) pT))))))) pF) r5 pF) (.nt r7) pF))],[]⟩ [(55,true)] 56 22 [(pi 1),(pi 2)]
 (.call ⟨[(59,(.pick r55 (peq r56 (pi 2)) pF))],[]⟩ [(59,true)] 60 22 [(pi 2),(pi 0)]
 (.call ⟨[(63,(.pick r59 (peq r60 (pi 0)) pF))],[]⟩ [(63,true)] 64 22 [(pi 1),(pi 1)]
 (.ret (.pick r63 (peq r64 (pi 1)) pF))))))))))))))
def TU (b:Nat→PC):PT×List (Shp×PT):=(xl,[])
theorem G0:cf_l23_small.map told=some (TU (aA cf_l23_small)):=by kernel_rfl
theorem Mc:tree qK=xl:=aj G0
theorem LJ:cf_l23_small=some qK:=ah G0
noncomputable def cf_l23_example:Option PC:=av {ctx with fr:=[],nh:=[]} Tryz.f58 ((aa aq 58).getD default) [0,1,2,12290,16386,16,3,24579,28675,32771,4,65540,69636,73732,77828]
noncomputable def lD:PC:=hpc cf_l23_example
theorem G5:cf_l23_example=some lD:=acv (by kernel_rfl)
noncomputable def cf_l23_variable:Option PC:=av {ctx with fr:=[],nh:=[]} Tryz.f122 ((aa aq 122).getD default) [2,12290]
noncomputable def jZ:PC:=hpc cf_l23_variable
def oV:PT:=
 (.ret (.mk [(pc (.setc qx 0 (.mk [(pi 2),r0,pL])) 0),(pc (.setc qx 0 (.mk [(pi 2),r0,pL])) 1),pL]))
def Ln (b:Nat→PC):PT×List (Shp×PT):=(oV,[])
theorem yi:cf_l23_variable.map told=some (Ln (aA cf_l23_variable)):=by kernel_rfl
theorem Dp:tree jZ=oV:=aj yi
theorem C3:cf_l23_variable=some jZ:=ah yi
noncomputable def cf_bind_Effect:Option PC:=av {ctx with fr:=[11],nh:=[]} Tryz.f17 ((aa aq 17).getD default) [5,7,10,12]
noncomputable def mu:PC:=hpc cf_bind_Effect
def sA:PT:=
 (.call ⟨[],[(10,VN)]⟩ [] 17 61 [oJ,r1,(mkA 19 (.mk [r2])),r4]
 (.ite (.pick (plt r3 (pi 0)) pT (pge r3 (.llen (pc (.setc acq 0 r17) 25))))
 (.ret (.tup [(mkA 7 (.setc o10 0 (.mk [(pi 0),(pi 0),(pi 0),(pi 0),(pi 0),(pi 0),pF]))),pF]))
 (.call ⟨[],[]⟩ [] 31 62 [(mkA 31 (.setc acq 0 r17)),r3]
 (.ret (.tup [(mkA 7 (.setc o10 0 r31)),pT])))))
def OF (b:Nat→PC):PT×List (Shp×PT):=(sA,[])
theorem Aa:cf_bind_Effect.map told=some (OF (aA cf_bind_Effect)):=by kernel_rfl
theorem EE:tree mu=sA:=aj Aa
theorem He:cf_bind_Effect=some mu:=ah Aa
noncomputable def cf_bind_open:Option PC:=av {ctx with fr:=[],nh:=[]} Tryz.f61 ((aa aq 61).getD default) [4,6,8,9]
noncomputable def q6:PC:=hpc cf_bind_open
def xz:PT:=
 (.call ⟨[],[(8,acq),(4,(.mk [r0]))]⟩ [] 12 26 [(mkA 19 (.mk [r2])),r3]
 (.call ⟨[(16,(mkA 19 (.setc DJ 0 r12))),(15,r3),(14,r1),(13,(mkA 8 o4))],[(9,(.setc DJ 0 r12))]⟩ [] 21 38 [(mkA 8 o4),r1,(pi 0),(mkA 19 (.setc DJ 0 r12)),r3]
 (.call ⟨[],[]⟩ [] 22 41 [r21]
 (.call ⟨[],[]⟩ [] 27 50 [(mkA 8 o4),r1,(mkA 19 o9),r3]
 (.ret (mkA 31 (.setc o8 0 (.mk [r13,r14,r15,r16,r22,r27]))))))))
def TM (b:Nat→PC):PT×List (Shp×PT):=(xz,[])
theorem FE:cf_bind_open.map told=some (TM (aA cf_bind_open)):=by kernel_rfl
theorem LF:tree q6=xz:=aj FE
theorem L6:cf_bind_open=some q6:=ah FE
noncomputable def cf_record_At:Option PC:=av {ctx with fr:=[],nh:=[]} Tryz.f26 ((aa aq 26).getD default) [2,4,5,65541,69637,73733,77829,7,31,9,49,11,13]
noncomputable def qF:PC:=hpc cf_record_At
noncomputable def cU:Nat→PC:=hbd cf_record_At
def Pz (b:Nat→PC):PC:=.block 0 [20,21] [65541,5] (.loop [20] [65541,5] (b 0))
def PG (b:Nat→PC):PC:=.block 2 [38,39] [73733,5] (.loop [38] [73733,5] (b 1))
def Pv (b:Nat→PC):PC:=.block 4 [56,57] [5,69637] (.loop [56] [5,69637] (b 2))
def Pt (b:Nat→PC):PC:=.block 6 [76,77] [5,77829] (.loop [76] [5,77829] (b 3))
def gL (b:Nat→PC):PT:=
 (.ite (plt r20 r19)
 (.chk (pix r18 r20)
 (.ite (pgt (pc (.setc z9 0 wc) 6) r1)
 (.exit 0 ⟨[(21,(plt r20 r19))],[]⟩)
 (.chk (ple (.llen (.app (.o 65541) (.lst [(mkA 9 (.setc z9 0 wc))]))) aX)
 (.next ⟨[(20,(aF r20 (pi 1)))],[(65541,(.app (.o 65541) (.lst [(mkA 9 (.setc z9 0 wc))]))),(5,(.setc o5 15 pN))]⟩))))
 (.exit 0 ⟨[(21,(plt r20 r19))],[]⟩))
def gW (b:Nat→PC):PT:=
 (.ite (plt r38 r37)
 (.chk (pix r36 r38)
 (.ite (pgt (pc (.setc z9 0 (pn r36 r38)) 6) r1)
 (.exit 2 ⟨[(39,(plt r38 r37))],[]⟩)
 (.chk (ple (.llen (.app (.o 73733) (.lst [(mkA 9 (.setc z9 0 (pn r36 r38)))]))) aX)
 (.next ⟨[(38,(aF r38 (pi 1)))],[(73733,(.app (.o 73733) (.lst [(mkA 9 (.setc z9 0 (pn r36 r38)))]))),(5,(.setc o5 17 pN))]⟩))))
 (.exit 2 ⟨[(39,(plt r38 r37))],[]⟩))
def gQ (b:Nat→PC):PT:=
 (.ite (plt r56 r55)
 (.chk (pix r54 r56)
 (.ite (ple (pc (.setc z2 0 (pn r54 r56)) 0) (.llen (.o 65541)))
 (.chk (ple (.llen aeg) aX)
 (.next ⟨[(56,(aF r56 (pi 1)))],[(5,(.setc o5 16 pN)),(69637,aeg)]⟩))
 (.next ⟨[(56,(aF r56 (pi 1)))],[]⟩)))
 (.exit 4 ⟨[(57,(plt r56 r55))],[]⟩))
def gU (b:Nat→PC):PT:=
 (.ite (plt r76 r75)
 (.blockS ⟨[],[]⟩ 7 [13,78,79,80,81,82,83,84,85] [13,77829,5]
 (.chk (pix r74 r76)
 (.call ⟨[],[(13,(.setc z3 0 (pn r74 r76)))]⟩ [] 85 72 [(pc (.setc z3 0 (pn r74 r76)) 1),(.llen (.o 65541))]
 (.ite r85
 (.chk (ple (.llen acI) aX)
 (.next ⟨[],[(77829,acI),(5,(.setc o5 18 pN))]⟩))
 (.next ⟨[],[]⟩))))
 (.next ⟨[(76,(aF r76 (pi 1)))],[]⟩))
 (.exit 6 ⟨[(77,(plt r76 r75))],[]⟩))
def wP (b:Nat→PC):PT:=
 (.brk ⟨[(20,(pi 0)),(19,(.llen AN)),(18,AN)],[(77829,pL),(73733,pL),(69637,pL),(65541,pL),(5,(.setc DJ 0 (.mk [(mkA 15 (.mk [r0])),pL,pL,pL,pL]))),(4,DJ),(2,(.mk [r0]))]⟩
(Pz b)
 (.brk ⟨[(38,(pi 0)),(37,(.llen (pc o2 17))),(36,(pc o2 17))],[]⟩
(PG b)
 (.brk ⟨[(56,(pi 0)),(55,(.llen (pc o2 16))),(54,(pc o2 16))],[]⟩
(Pv b)
 (.brk ⟨[(76,(pi 0)),(75,Oq),(74,(pc o2 18))],[]⟩
(Pt b)
 (.ret (mkA 19 (.setc o4 0 (.mk [(pc o5 0),(pc o5 1),(pc o5 2),(pc o5 3),(pc o5 4),(pc o5 5),(pc o5 6),(pc o5 7),(pc o5 8),(pc o5 9),(pc o5 10),(pc o5 11),(pc o5 12),(pc o5 13),(pc o5 14),(.o 65541),(.o 69637),(.o 73733),(.o 77829)]))))))))
def TW (b:Nat→PC):PT×List (Shp×PT):=(wP b,[(.lp 0 [20,21] [65541,5] [20] [65541,5],gL b),(.lp 2 [38,39] [73733,5] [38] [73733,5],gW b),(.lp 4 [56,57] [5,69637] [56] [5,69637],gQ b),(.lp 6 [76,77] [5,77829] [76] [5,77829],gU b)])
theorem iO:cf_record_At.map told=some (TW (aA cf_record_At)):=by kernel_rfl
theorem LK:tree qF=wP cU:=aj iO
theorem l0:round 0 [20,21] [65541,5] [20] [65541,5] (cU 0)=gL cU:=aw iO 0 fun _=>rfl
theorem lV:round 2 [38,39] [73733,5] [38] [73733,5] (cU 1)=gW cU:=aw iO 1 fun _=>rfl
theorem mj:round 4 [56,57] [5,69637] [56] [5,69637] (cU 2)=gQ cU:=aw iO 2 fun _=>rfl
theorem lH:round 6 [76,77] [5,77829] [76] [5,77829] (cU 3)=gU cU:=aw iO 3 fun _=>rfl
theorem LS:cf_record_At=some qF:=ah iO
noncomputable def cf_record_within:Option PC:=av {ctx with fr:=[4],nh:=[]} Tryz.f72 ((aa aq 72).getD default) []
noncomputable def ix:PC:=hpc cf_record_within
def nk:PT:=
 (.ret XG)
def Hq (b:Nat→PC):PT×List (Shp×PT):=(nk,[])
theorem vp:cf_record_within.map told=some (Hq (aA cf_record_within)):=by kernel_rfl
theorem Bx:tree ix=nk:=aj vp
theorem BC:cf_record_within=some ix:=ah vp
noncomputable def cf_ask_Bill:Option PC:=av {ctx with fr:=[],nh:=[]} Tryz.f38 ((aa aq 38).getD default) [5,8,77832,10]
noncomputable def tQ:PC:=hpc cf_ask_Bill
def AE:PT:=
 (.call ⟨[],[(10,R2)]⟩ [] 18 36 [oJ,r1,r2,(.mk [(.mk [(pc mT 0),(pc mT 1),(pc mT 2),(pc mT 3),(pc mT 4),(pc mT 5),(pc mT 6),(pc mT 7),(pc mT 8),(pc mT 9),(pc mT 10),(pc mT 11),(pc mT 12),(pc mT 13),(pc mT 14),(pc mT 15),(pc mT 16),(pc mT 17),pL]),(pi 0),(pi (-1)),(pi (-1)),(pi (-1)),r4])]
 (.ret (mkA 5 (.setc o10 0 r18))))
def VP (b:Nat→PC):PT×List (Shp×PT):=(AE,[])
theorem JP:cf_ask_Bill.map told=some (VP (aA cf_ask_Bill)):=by kernel_rfl
theorem NL:tree tQ=AE:=aj JP
theorem NT:cf_ask_Bill=some tQ:=ah JP
noncomputable def cf_ask_Ask:Option PC:=av {ctx with fr:=[10],nh:=[]} Tryz.f36 ((aa aq 36).getD default) [4,7,8,9]
noncomputable def wz:PC:=hpc cf_ask_Ask
def Di:PT:=
 (.call ⟨[],[(8,R2),(4,(.mk [r0]))]⟩ [] 16 95 [oJ,r1,r2,(mkA 24 (.mk [r3]))]
 (.iteS ⟨[(10,(.tget r16 1))],[(9,(.setc R2 0 (.tget r16 0)))]⟩ (pne (pc (.setc R2 0 (.tget r16 0)) 2) (pi (-1))) [] [9]
 (.chk (pix (pc o4 4) (pc o9 2))
 (.call ⟨[],[]⟩ [] 31 55 [(pn (pc o4 4) (pc o9 2)),r2,r10]
 (.next ⟨[],[(9,(.setc (.setc o9 0 (.tget r31 0)) 4 (.tget r31 1)))]⟩)))
 (.next ⟨[],[]⟩)
 (.ret (mkA 5 (.setc o8 0 (mkA 5 o9))))))
def Xz (b:Nat→PC):PT×List (Shp×PT):=(Di,[])
theorem Oh:cf_ask_Ask.map told=some (Xz (aA cf_ask_Ask)):=by kernel_rfl
theorem RY:tree wz=Di:=aj Oh
theorem RI:cf_ask_Ask=some wz:=ah Oh
noncomputable def cf_ask_find:Option PC:=av {ctx with fr:=[9,11,12,13,14],nh:=[]} Tryz.f95 ((aa aq 95).getD default) [4,7,8,10,16394]
noncomputable def tH:PC:=hpc cf_ask_find
def zp:PT:=
 (.call ⟨[],[(16394,pL),(10,(.setc R2 0 (.mk [pV,(pi (-1)),pL,(pi 1)]))),(8,R2),(7,(.mk [r3])),(4,(.mk [r0]))]⟩ [] 19 100 [oJ,(mkA 24 (.mk [r3]))]
 (.ite (peq (.llen (.tget r19 1)) (pi 0))
 (.ret (.tup [abp,pL]))
 (.call ⟨[(11,(.tget r19 1))],[(7,(.setc o7 0 (.tget r19 0)))]⟩ [] 28 119 [r2]
 (.ite (.nt (.tget r28 1))
 (.ret (.tup [abp,pL]))
 (.call ⟨[],[]⟩ [] 37 101 [(mkA 8 o4),r1,(mkA 24 o7)]
 (.ite (peq (.llen r37) (pi 0))
 (.ret (.tup [abp,pL]))
 (.call ⟨[],[]⟩ [] 46 54 [(mkA 8 o4),r1,r2,r37]
 (.ite (peq (pc NA 4) (pi 0))
 (.chk (pix (pc NA 3) (aO (.llen (pc NA 3)) (pi 1)))
 (.ret (.tup [(mkA 5 (.setc o8 0 (mkA 5 (.setc NA 2 (pn (pc NA 3) (aO (.llen (pc NA 3)) (pi 1))))))),r11])))
 (.ret (.tup [(mkA 5 (.setc o8 0 (mkA 5 NA))),r11]))))))))))
def Vh (b:Nat→PC):PT×List (Shp×PT):=(zp,[])
theorem J6:cf_ask_find.map told=some (Vh (aA cf_ask_find)):=by kernel_rfl
theorem P1:tree tH=zp:=aj J6
theorem PO:cf_ask_find=some tH:=ah J6
noncomputable def cf_ask_of:Option PC:=av {ctx with fr:=[5],nh:=[]} Tryz.f100 ((aa aq 100).getD default) [2,3,4]
noncomputable def Bg:PC:=hpc cf_ask_of
def Hh:PT:=
 (.call ⟨[],[(4,aeq),(3,(.mk [r1])),(2,(.mk [r0]))]⟩ [] 10 26 [(mkA 19 (.mk [r1])),(pc (.mk [r1]) 23)]
 (.call ⟨[(12,(mkA 24 (.setc o3 0 r10)))],[]⟩ [] 15 52 [(mkA 8 o2),(mkA 24 (.setc o3 0 r10))]
 (.ret (.tup [(mkA 24 (.setc o4 0 r12)),r15]))))
def aaS (b:Nat→PC):PT×List (Shp×PT):=(Hh,[])
theorem S4:cf_ask_of.map told=some (aaS (aA cf_ask_of)):=by kernel_rfl
theorem Tu:tree Bg=Hh:=aj S4
theorem Uw:cf_ask_of=some Bg:=ah S4
noncomputable def cf_record_Vars:Option PC:=av {ctx with fr:=[4,7,9,11,12,13,14,15,16],nh:=[]} Tryz.f52 ((aa aq 52).getD default) [2,3,5,6,8,10,90,139]
noncomputable def ly:PC:=hpc cf_record_Vars
noncomputable def hH:Nat→PC:=hbd cf_record_Vars
def IZ (b:Nat→PC):PC:=.meach 90 [94,95,11,12] [0,1,0,1] [10] (b 0)
def IL (b:Nat→PC):PC:=.meach 139 [143,144,15,16] [0,1,0,1] [10] (b 1)
def na (b:Nat→PC):PT:=
 (.chk (pix o10 r11)
 (.next ⟨[],[(10,(.setn o10 r11 0 (.mk [pT,r12])))]⟩))
def m6 (b:Nat→PC):PT:=
 (.blockS ⟨[],[]⟩ 3 [145,146,147,148,149] [10]
 (.call ⟨[(146,r15)],[]⟩ [] 148 111 [r16]
 (.chk (pix o10 (.r 146))
 (.next ⟨[],[(10,(.setn o10 (.r 146) 0 (.r 148)))]⟩)))
 (.next ⟨[],[]⟩))
def ct (b:Nat→PC):PT:=
 (.call ⟨[(7,(.mx (pc (.mk [r1]) 20) (pi 0)))],[(6,(.setc z15 0 (mkA 15 (.mk [r1])))),(5,(.setc DJ 0 (mkA 19 (.mk [r1])))),(3,(.mk [r1])),(2,(.mk [r0]))]⟩ [] 30 72 [(pc (.mk [r1]) 19),(.llen (pc (.setc DJ 0 (mkA 19 (.mk [r1]))) 15))]
 (.call ⟨[(48,(pne (pc o3 22) (pi (-1)))),(44,(.pick (.pick (.nt r30) pT (plt (pc o3 20) (pi (-1)))) pT (pge r7 (.llen (pc o5 15)))))],[]⟩ [(48,true),(44,false)] 51 72 [(pc o3 22),(pi 100001)]
 (.ite (.pick r44 pT (.pick r48 (.nt r51) pF))
 (.ret pL)
 (.chk (pix (pc o5 15) (pc o3 19))
 (.call ⟨[],[(8,(.setc z9 0 (pn (pc o5 15) (pc o3 19))))]⟩ [] 63 72 [(pc (.setc z9 0 (pn (pc o5 15) (pc o3 19))) 6),(pi 100001)]
 (.ite (.nt r63)
 (.ret pL)
 (.chk (.an (pge (pi 20) (pi 0)) (ple (pi 20) aX))
 (.chk (peq (pi 20) (pi 20))
 (.chk (plt (.mlen (.con (.map []))) aX)
 (.chk (plt (.mlen (.put (.con (.map [])) (pi 0) (pc o6 3))) aX)
 (.chk (plt (.mlen (.put (.put (.con (.map [])) (pi 0) (pc o6 3)) (pi 1) (pc o6 14))) aX)
 (.chk (plt (.mlen acC) aX)
 (.chk (plt (.mlen (.put acC (pi 3) (pc o6 12))) aX)
 (.chk (plt (.mlen ab3) aX)
 (.chk (plt (.mlen (.put ab3 (pi 5) (pc o3 21))) aX)
 (.blockS ⟨[(10,pN),(9,abE)],[(90,(.tup [(.lst []),(.put (.put ab3 (pi 5) (pc o3 21)) (pi 6) abE)])),(10,(.rep (pi 20) pV))]⟩ 0 [] [10]
 (.brk ⟨[],[]⟩
(IZ b)
 (.exit 0 ⟨[],[]⟩))
 (.call ⟨[],[(3,(mkA 24 o3))]⟩ [] 104 109 [(pc o5 16),(.clo 110 [(.ref (mkA 24 o3))])]
 (.call ⟨[(13,akI)],[]⟩ [] 108 53 [(mkA 8 o2),(pc o6 9)]
 (.call ⟨[],[]⟩ [] 112 53 [(mkA 8 o2),(pc o6 10)]
 (.chk (plt (.mlen (.con (.map []))) aX)
 (.chk (plt (.mlen abW) aX)
 (.chk (plt (.mlen (.put abW (pi 8) (peq (pc o6 2) (pi (-1))))) aX)
 (.chk (plt (.mlen (.put (.put abW (pi 8) (peq (pc o6 2) (pi (-1)))) (pi 9) (pne (.ai .and .i64 (pc o6 13) (pi 4)) (pi 0)))) aX)
 (.chk (plt (.mlen adE) aX)
 (.chk (plt (.mlen (.put adE (pi 11) (pne ae0 aeU))) aX)
 (.chk (plt (.mlen (.put (.put adE (pi 11) (pne ae0 aeU)) (pi 12) r13)) aX)
 (.chk (plt (.mlen ad0) aX)
 (.blockS ⟨[],[(139,(.tup [(.lst []),(.put ad0 (pi 14) (pgt r9 (pi 0)))]))]⟩ 2 [] [10]
 (.brk ⟨[],[]⟩
(IL b)
 (.exit 2 ⟨[],[]⟩))
 (.call ⟨[],[]⟩ [] 154 112 [(mkA 19 o5),(pi 0),(pc o3 19)]
 (.chk (pix o10 (pi 15))
 (.call ⟨[],[(10,(.setn o10 (pi 15) 0 (.r 154)))]⟩ [] 160 112 [(mkA 19 o5),(pi 1),(pc o3 19)]
 (.chk (pix o10 (pi 16))
 (.call ⟨[],[(10,(.setn o10 (pi 16) 0 (.r 160)))]⟩ [] 166 112 [(mkA 19 o5),(pi 2),(pc o3 19)]
 (.chk (pix o10 (pi 17))
 (.call ⟨[],[(10,(.setn o10 (pi 17) 0 (.r 166)))]⟩ [] 171 112 [(mkA 19 o5),(pi 3),r7]
 (.chk (pix o10 (pi 18))
 (.call ⟨[],[(10,(.setn o10 (pi 18) 0 (.r 171)))]⟩ [] 176 112 [(mkA 19 o5),(pi 4),r7]
 (.chk (pix o10 (pi 19))
 (.ret (.setn o10 (pi 19) 0 (.r 176)))))))))))))))))))))))))))))))))))))))))
def OU (b:Nat→PC):PT×List (Shp×PT):=(ct b,[(.ea [10],na b),(.ea [10],m6 b)])
theorem ln:cf_record_Vars.map told=some (OU (aA cf_record_Vars)):=by kernel_rfl
theorem FV:tree ly=ct hH:=aj ln
theorem Bh:sN [10] (hH 0)=na hH:=TP ln 0 fun _=>rfl
theorem Bu:sN [10] (hH 1)=m6 hH:=TP ln 1 fun _=>rfl
theorem Gj:cf_record_Vars=some ly:=ah ln
noncomputable def cf_record_Vars_1:Option PC:=av {ctx with fr:=[3],nh:=[]} Tryz.f110 ((aa aq 110).getD default) [2]
noncomputable def iT:PC:=hpc cf_record_Vars_1
def nm:PT:=
 (.ret (ple sO (pc (.deref r1) 19)))
def HV (b:Nat→PC):PT×List (Shp×PT):=(nm,[])
theorem vq:cf_record_Vars_1.map told=some (HV (aA cf_record_Vars_1)):=by kernel_rfl
theorem BF:tree iT=nm:=aj vq
theorem By:cf_record_Vars_1=some iT:=ah vq
noncomputable def cf_slices_ContainsFunc_Alter:Option PC:=av {ctx with fr:=[4],nh:=[]} Tryz.f109 ((aa aq 109).getD default) []
noncomputable def bo:PC:=hpc cf_slices_ContainsFunc_Alter
def cC:PT:=
 (.call ⟨[],[]⟩ [] 7 183 [r0,r1]
 (.ret (pge r7 (pi 0))))
def p8 (b:Nat→PC):PT×List (Shp×PT):=(cC,[])
theorem fT:cf_slices_ContainsFunc_Alter.map told=some (p8 (aA cf_slices_ContainsFunc_Alter)):=by kernel_rfl
theorem mM:tree bo=cC:=aj fT
theorem mN:cf_slices_ContainsFunc_Alter=some bo:=ah fT
noncomputable def cf_slices_IndexFunc_Alter:Option PC:=av {ctx with fr:=[4,5],nh:=[]} Tryz.f183 ((aa aq 183).getD default) []
noncomputable def bL:PC:=hpc cf_slices_IndexFunc_Alter
noncomputable def dG:Nat→PC:=hbd cf_slices_IndexFunc_Alter
def qM (b:Nat→PC):PC:=.block 0 [4,8,9] [] (.loop [4,8] [] (b 0))
def aS (b:Nat→PC):PT:=
 (.ite (plt r8 r7)
 (.blockS ⟨[],[]⟩ 1 [4,5,10,11,12,13,14,15,16] []
 (.chk (pix r0 r8)
 (.callc ⟨[(5,r8)],[]⟩ [] 16 r1 [(pn r0 r8)]
 (.ite r16
 (.ret r5)
 (.next ⟨[],[]⟩))))
 (.next ⟨[(8,B9)],[]⟩))
 (.exit 0 ⟨[(9,(plt r8 r7))],[]⟩))
def dB (b:Nat→PC):PT:=
 (.brk ⟨[(8,(pi 0)),(7,(.llen r0)),(4,(pi 0))],[]⟩
(qM b)
 (.ret (pi (-1))))
def sX (b:Nat→PC):PT×List (Shp×PT):=(dB b,[(.lp 0 [4,8,9] [] [4,8] [],aS b)])
theorem dz:cf_slices_IndexFunc_Alter.map told=some (sX (aA cf_slices_IndexFunc_Alter)):=by kernel_rfl
theorem qj:tree bL=dB dG:=aj dz
theorem bV:round 0 [4,8,9] [] [4,8] [] (dG 0)=aS dG:=aw dz 0 fun _=>rfl
theorem pA:cf_slices_IndexFunc_Alter=some bL:=ah dz
noncomputable def cf_realm_OrderAt:Option PC:=av {ctx with fr:=[4],nh:=[]} Tryz.f53 ((aa aq 53).getD default) [2]
noncomputable def iu:PC:=hpc cf_realm_OrderAt
def m3:PT:=
 (.call ⟨[],[(2,(.mk [r0]))]⟩ [] 9 113 [r1,(.llen Gq)]
 (.ite (.nt r9)
 (.ret (pi (-1)))
 (.chk (pix (pc o2 1) r1)
 (.ret (pc (pn (pc o2 1) r1) 1)))))
def Iz (b:Nat→PC):PT×List (Shp×PT):=(m3,[])
theorem vX:cf_realm_OrderAt.map told=some (Iz (aA cf_realm_OrderAt)):=by kernel_rfl
theorem BY:tree iu=m3:=aj vX
theorem Bz:cf_realm_OrderAt=some iu:=ah vX
noncomputable def cf_realm_in:Option PC:=av {ctx with fr:=[4],nh:=[]} Tryz.f113 ((aa aq 113).getD default) []
noncomputable def tO:PC:=hpc cf_realm_in
def zW:PT:=
 (.ret XG)
def Vd (b:Nat→PC):PT×List (Shp×PT):=(zW,[])
theorem JZ:cf_realm_in.map told=some (Vd (aA cf_realm_in)):=by kernel_rfl
theorem Of:tree tO=zW:=aj JZ
theorem NB:cf_realm_in=some tO:=ah JZ
noncomputable def cf_record_truth:Option PC:=av {ctx with fr:=[],nh:=[]} Tryz.f111 ((aa aq 111).getD default) [2]
noncomputable def j8:PC:=hpc cf_record_truth
def oZ:PT:=
 (.ite r0
 (.ret (.mk [(pc Zl 0),(pc Zl 1)]))
 (.ret (.mk [(pc Zu 0),(pc Zu 1)])))
def Mm (b:Nat→PC):PT×List (Shp×PT):=(oZ,[])
theorem yb:cf_record_truth.map told=some (Mm (aA cf_record_truth)):=by kernel_rfl
theorem Da:tree j8=oZ:=aj yb
theorem CY:cf_record_truth=some j8:=ah yb
noncomputable def cf_record_Fact:Option PC:=av {ctx with fr:=[],nh:=[]} Tryz.f112 ((aa aq 112).getD default) [3,6,8]
noncomputable def mE:PC:=hpc cf_record_Fact
noncomputable def sc:Nat→PC:=hbd cf_record_Fact
def HK (b:Nat→PC):PC:=.block 0 [12,13] [6] (.loop [12] [6] (b 0))
def eH (b:Nat→PC):PT:=
 (.ite (plt r12 r11)
 (.blockS ⟨[],[]⟩ 1 [8,14,15,16,17,18,19,20,25] [8,6]
 (.chk (pix r10 r12)
 (.iteS ⟨[],[(8,(.setc z3 0 wU))]⟩ (.pick (peq (pc (.setc z3 0 wU) 0) r1) (peq (pc (.setc z3 0 wU) 1) r2) pF) [] [6]
 (.call ⟨[],[]⟩ [] 29 111 [(pne (pc o8 2) (pi 0))]
 (.ret (.mk [(pc (.setc o6 0 r29) 0),(pc (.setc o6 0 r29) 1)])))
 (.next ⟨[],[]⟩)
 (.next ⟨[],[]⟩)))
 (.next ⟨[(12,(aF r12 (pi 1)))],[]⟩))
 (.exit 0 ⟨[(13,(plt r12 r11))],[]⟩))
def sB (b:Nat→PC):PT:=
 (.brk ⟨[(12,(pi 0)),(11,(.llen HZ)),(10,HZ)],[(6,pV)]⟩
(HK b)
 (.ret acZ))
def Qi (b:Nat→PC):PT×List (Shp×PT):=(sB b,[(.lp 0 [12,13] [6] [12] [6],eH b)])
theorem sM:cf_record_Fact.map told=some (Qi (aA cf_record_Fact)):=by kernel_rfl
theorem FP:tree mE=sB sc:=aj sM
theorem jq:round 0 [12,13] [6] [12] [6] (sc 0)=eH sc:=aw sM 0 fun _=>rfl
theorem Gv:cf_record_Fact=some mE:=ah sM
noncomputable def cf_order_Type:Option PC:=av {ctx with fr:=[2,3,4,11],nh:=[]} Tryz.f119 ((aa aq 119).getD default) []
noncomputable def nQ:PC:=hpc cf_order_Type
def uO:PT:=
 (.blockS ⟨[],[]⟩ 0 [2,3,4,5,6,7,10,11,12,13,14] []
 (.iteS ⟨[],[]⟩ (.pick (plt r0 (pi 0)) pT (pge r0 (pi 22))) [2,3,11,12,13,14] []
 (.ret (.tup [(pi 0),pF]))
 (.call ⟨[],[]⟩ [] 14 116 [(.lst [(pc QU 0),(pc QU 1),(pc QU 2),(pc QU 3),(pc QU 4),(pc QU 5),(pc QU 6),(pc QU 7),(pc QU 8),(pc QU 9)]),r0]
 (.ite r14
 (.ret (.tup [(pi 0),pT]))
 (.next ⟨[],[]⟩)))
 (.next ⟨[],[]⟩))
 (.ret (.tup [(pi 1),pT])))
def RS (b:Nat→PC):PT×List (Shp×PT):=(uO,[])
theorem B7:cf_order_Type.map told=some (RS (aA cf_order_Type)):=by kernel_rfl
theorem Jb:tree nQ=uO:=aj B7
theorem IU:cf_order_Type=some nQ:=ah B7
noncomputable def cf_slices_Contains_int:Option PC:=av {ctx with fr:=[4],nh:=[]} Tryz.f116 ((aa aq 116).getD default) []
noncomputable def cV:PC:=hpc cf_slices_Contains_int
def fo:PT:=
 (.call ⟨[],[]⟩ [] 7 186 [r0,r1]
 (.ret (pge r7 (pi 0))))
def xk (b:Nat→PC):PT×List (Shp×PT):=(fo,[])
theorem my:cf_slices_Contains_int.map told=some (xk (aA cf_slices_Contains_int)):=by kernel_rfl
theorem th:tree cV=fo:=aj my
theorem s9:cf_slices_Contains_int=some cV:=ah my
noncomputable def cf_slices_Index_int:Option PC:=av {ctx with fr:=[4,5],nh:=[]} Tryz.f186 ((aa aq 186).getD default) []
noncomputable def eF:PC:=hpc cf_slices_Index_int
noncomputable def ji:Nat→PC:=hbd cf_slices_Index_int
def yC (b:Nat→PC):PC:=.block 0 [4,8,9] [] (.loop [4,8] [] (b 0))
def bM (b:Nat→PC):PT:=
 (.ite (plt r8 r7)
 (.chk (pix r0 r8)
 (.ite (peq r1 (pn r0 r8))
 (.ret r8)
 (.next ⟨[(8,B9)],[]⟩)))
 (.exit 0 ⟨[(9,(plt r8 r7))],[]⟩))
def jf (b:Nat→PC):PT:=
 (.brk ⟨[(8,(pi 0)),(7,(.llen r0)),(4,(pi 0))],[]⟩
(yC b)
 (.ret (pi (-1))))
def BU (b:Nat→PC):PT×List (Shp×PT):=(jf b,[(.lp 0 [4,8,9] [] [4,8] [],bM b)])
theorem jn:cf_slices_Index_int.map told=some (BU (aA cf_slices_Index_int)):=by kernel_rfl
theorem xo:tree eF=jf ji:=aj jn
theorem dX:round 0 [4,8,9] [] [4,8] [] (ji 0)=bM ji:=aw jn 0 fun _=>rfl
theorem xg:cf_slices_Index_int=some eF:=ah jn
noncomputable def cf_conflict_Law:Option PC:=av {ctx with fr:=[8,9,11,12,13,14,55,70],nh:=[]} Tryz.f54 ((aa aq 54).getD default) [4,10,53]
noncomputable def jU:PC:=hpc cf_conflict_Law
noncomputable def pJ:Nat→PC:=hbd cf_conflict_Law
def Gl (b:Nat→PC):PC:=.block 0 [] [] (.loop [8,9,10] [10] (b 0))
def lG (b:Nat→PC):PT:=
 (.blockS ⟨[],[]⟩ 1 [8,9,10,11,12,13,14,32,33,35,36,37,38,39,40,41,42,43,44,45,46,49,50,52,53,54,55,56,57,58,68,70,71] [53,10]
 (.chk (pix o10 (aO (.llen o10) (pi 1)))
 (.call ⟨[(11,(pn o10 (aO (.llen o10) (pi 1))))],[]⟩ [] 41 115 [(mkA 8 o4),(pn o10 (aO (.llen o10) (pi 1))),r2,r3]
 (.ite (peq (.tget r41 0) r11)
 (.ret (.tup [o10,(pi 0)]))
 (.call ⟨[(13,(.tget r41 1)),(12,(.tget r41 0))],[]⟩ [] 50 116 [o10,(.tget r41 0)]
 (.chk (ple (.llen (.app o10 (.lst [r12]))) aX)
 (.chk (.nt (.an (.an r50 (.an (.nt (.nt r13)) pT)) (.nt (pix (pc o4 4) r12))))
 (.ite (.pick (.nt r13) pT (.pick r50 (pc (pn (pc o4 4) r12) 1) pF))
 (.ret (.tup [(.app o10 (.lst [r12])),(pi 0)]))
 (.ite r50
 (.ret (.tup [(.app o10 (.lst [r12])),(pi 12)]))
 (.next ⟨[(10,pN)],[(10,(.app o10 (.lst [r12])))]⟩)))))))))
 (.next ⟨[],[]⟩))
def pq (b:Nat→PC):PT:=
 (.call ⟨[(9,(pi 0)),(8,pL)],[(4,(.mk [r0]))]⟩ [] 19 114 [oJ,r1,r2,r3]
 (.chk (.nt (.an (.an (.nt (.nt r19)) pT) (.nt (pix r3 (pi 0)))))
 (.ite (.pick (.nt r19) pT (pne (pn r3 (pi 0)) r1))
 (.ret (.tup [pL,(pi 1)]))
 (.brk ⟨[(10,pN)],[(10,(.lst [r1]))]⟩
(Gl b)
 (.next ⟨[],[]⟩)))))
def Lq (b:Nat→PC):PT×List (Shp×PT):=(pq b,[(.lp 0 [] [] [8,9,10] [10],lG b)])
theorem oP:cf_conflict_Law.map told=some (Lq (aA cf_conflict_Law)):=by kernel_rfl
theorem Dz:tree jU=pq pJ:=aj oP
theorem Aj:round 0 [] [] [8,9,10] [10] (pJ 0)=lG pJ:=aw oP 0 fun _=>rfl
theorem DS:cf_conflict_Law=some jU:=ah oP
noncomputable def cf_conflict_fine:Option PC:=av {ctx with fr:=[8],nh:=[]} Tryz.f114 ((aa aq 114).getD default) [4,9]
noncomputable def iS:PC:=hpc cf_conflict_fine
def bu:PT:=
 (.ite (.pick (.pick (.pick (.pick (plt r1 (pi 0)) pT (pge r1 (pc (.setc N6 0 (.llen HX)) 0))) pT (plt r2 (pi 0))) pT (pge r2 (pi 22))) pT (pne (.llen r3) (pi 5)))
 (.ret pF)
 (.call ⟨[],[]⟩ [] 35 184 [r3,(.clo 185 [(.ref (pc (.setc N6 0 (.llen HX)) 0))])]
 (.ret (.nt r35))))
def Hp (b:Nat→PC):PT×List (Shp×PT):=(bu,[])
theorem we:cf_conflict_fine.map told=some (Hp (aA cf_conflict_fine)):=by kernel_rfl
theorem Bl:tree iS=bu:=aj we
theorem BV:cf_conflict_fine=some iS:=ah we
noncomputable def cf_conflict_fine_1:Option PC:=av {ctx with fr:=[3],nh:=[]} Tryz.f185 ((aa aq 185).getD default) []
noncomputable def fm:PC:=hpc cf_conflict_fine_1
def kI:PT:=
 (.ret (.pick (plt r0 (pi 0)) pT (pge r0 (.deref r1))))
def Eh (b:Nat→PC):PT×List (Shp×PT):=(kI,[])
theorem sT:cf_conflict_fine_1.map told=some (Eh (aA cf_conflict_fine_1)):=by kernel_rfl
theorem yG:tree fm=kI:=aj sT
theorem yw:cf_conflict_fine_1=some fm:=ah sT
noncomputable def cf_slices_ContainsFunc_int:Option PC:=av {ctx with fr:=[4],nh:=[]} Tryz.f184 ((aa aq 184).getD default) []
noncomputable def bC:PC:=hpc cf_slices_ContainsFunc_int
def dj:PT:=
 (.call ⟨[],[]⟩ [] 7 220 [r0,r1]
 (.ret (pge r7 (pi 0))))
def rB (b:Nat→PC):PT×List (Shp×PT):=(dj,[])
theorem gX:cf_slices_ContainsFunc_int.map told=some (rB (aA cf_slices_ContainsFunc_int)):=by kernel_rfl
theorem oM:tree bC=dj:=aj gX
theorem oE:cf_slices_ContainsFunc_int=some bC:=ah gX
noncomputable def cf_slices_IndexFunc_int:Option PC:=av {ctx with fr:=[4,5],nh:=[]} Tryz.f220 ((aa aq 220).getD default) []
noncomputable def cA:PC:=hpc cf_slices_IndexFunc_int
noncomputable def eJ:Nat→PC:=hbd cf_slices_IndexFunc_int
def sZ (b:Nat→PC):PC:=.block 0 [4,8,9] [] (.loop [4,8] [] (b 0))
def ba (b:Nat→PC):PT:=
 (.ite (plt r8 r7)
 (.blockS ⟨[],[]⟩ 1 [4,5,10,11,12,13,14,15,16] []
 (.chk (pix r0 r8)
 (.callc ⟨[(5,r8)],[]⟩ [] 16 r1 [(pn r0 r8)]
 (.ite r16
 (.ret r5)
 (.next ⟨[],[]⟩))))
 (.next ⟨[(8,B9)],[]⟩))
 (.exit 0 ⟨[(9,(plt r8 r7))],[]⟩))
def eK (b:Nat→PC):PT:=
 (.brk ⟨[(8,(pi 0)),(7,(.llen r0)),(4,(pi 0))],[]⟩
(sZ b)
 (.ret (pi (-1))))
def v3 (b:Nat→PC):PT×List (Shp×PT):=(eK b,[(.lp 0 [4,8,9] [] [4,8] [],ba b)])
theorem eQ:cf_slices_IndexFunc_int.map told=some (v3 (aA cf_slices_IndexFunc_int)):=by kernel_rfl
theorem sI:tree cA=eK eJ:=aj eQ
theorem cB:round 0 [4,8,9] [] [4,8] [] (eJ 0)=ba eJ:=aw eQ 0 fun _=>rfl
theorem rX:cf_slices_IndexFunc_int=some cA:=ah eQ
noncomputable def cf_conflict_Leads:Option PC:=av {ctx with fr:=[8,9],nh:=[]} Tryz.f115 ((aa aq 115).getD default) [4,11]
noncomputable def gw:PC:=hpc cf_conflict_Leads
noncomputable def lS:Nat→PC:=hbd cf_conflict_Leads
def BA (b:Nat→PC):PC:=.block 0 [8,9,25,26] [] (.loop [8,9,25] [] (b 0))
def cH (b:Nat→PC):PT:=
 (.ite (plt r25 r24)
 (.chk (pix r23 r25)
 (.ite (.pick (peq (pc WO 0) r2) (pne (pc WO 1) (pi 0)) pF)
 (.chk (pix r3 (pc WO 1))
 (.ret (.tup [(pn r3 (pc WO 1)),(pc WO 2)])))
 (.next ⟨[(25,(aF r25 (pi 1)))],[]⟩)))
 (.exit 0 ⟨[(26,(plt r25 r24))],[]⟩))
def lM (b:Nat→PC):PT:=
 (.call ⟨[(9,pF),(8,(pi 0))],[(4,(.mk [r0]))]⟩ [] 16 114 [oJ,r1,r2,r3]
 (.ite (.nt r16)
 (.ret (.tup [(pi (-1)),pF]))
 (.chk (pix (pc o4 4) r1)
 (.brk ⟨[(25,(pi 0)),(24,(.llen (pc (pn (pc o4 4) r1) 2))),(23,(pc (pn (pc o4 4) r1) 2))],[]⟩
(BA b)
 (.ret (.tup [r1,pF]))))))
def E1 (b:Nat→PC):PT×List (Shp×PT):=(lM b,[(.lp 0 [8,9,25,26] [] [8,9,25] [],cH b)])
theorem lL:cf_conflict_Leads.map told=some (E1 (aA cf_conflict_Leads)):=by kernel_rfl
theorem Ad:tree gw=lM lS:=aj lL
theorem eX:round 0 [8,9,25,26] [] [8,9,25] [] (lS 0)=cH lS:=aw lL 0 fun _=>rfl
theorem z7:cf_conflict_Leads=some gw:=ah lL
noncomputable def cf_order_Answer:Option PC:=av {ctx with fr:=[7,9,11,12],nh:=[]} Tryz.f55 ((aa aq 55).getD default) [3,6,8,10]
noncomputable def jV:PC:=hpc cf_order_Answer
def pE:PT:=
 (.call ⟨[],[(6,pV)]⟩ [] 16 117 [(mkA 4 (.mk [r0])),r1]
 (.ite (pne (.tget r16 1) (pi 0))
 (.ret (.tup [acZ,(.tget r16 1)]))
 (.call ⟨[],[]⟩ [] 25 118 [(.mk [(pc (.setc qx 0 (.tget r16 0)) 0),(pc (.setc qx 0 (.tget r16 0)) 1),(pc (.setc qx 0 (.tget r16 0)) 2)]),r2]
 (.call ⟨[],[(10,(.setc pV 0 r25))]⟩ [] 28 119 [r1]
 (.ret (.tup [(.mk [(pc (.setc o6 0 (.mk [(pc Zo 0),(pc Zo 1)])) 0),(pc (.setc o6 0 (.mk [(pc Zo 0),(pc Zo 1)])) 1)]),(pi 0)]))))))
def LH (b:Nat→PC):PT×List (Shp×PT):=(pE,[])
theorem yh:cf_order_Answer.map told=some (LH (aA cf_order_Answer)):=by kernel_rfl
theorem DH:tree jV=pE:=aj yh
theorem CU:cf_order_Answer=some jV:=ah yh
noncomputable def cf_order_find:Option PC:=av {ctx with fr:=[5,6,7,8,10,11],nh:=[]} Tryz.f117 ((aa aq 117).getD default) [2,3,4,12292,9]
noncomputable def oo:PC:=hpc cf_order_find
def uv:PT:=
 (.call ⟨[],[(4,qx),(3,(.mk [r1])),(2,(.mk [r0]))]⟩ [] 14 119 [(pc (.mk [r1]) 0)]
 (.ite (.nt (.tget r14 1))
 (.ret (.tup [ac6,(pi 1)]))
 (.call ⟨[(6,(.tget r14 0))],[]⟩ [] 23 187 [(pc o2 3),(.clo 188 [(.ref (pc o3 0))])]
 (.ite (plt r23 (pi 0))
 (.ret (.tup [ac6,(pi 4)]))
 (.chk (pix (pc o2 3) r23)
 (.call ⟨[],[(9,ZU)]⟩ [] 35 189 [(.mk [(pc ZU 0),(pc ZU 1),(pc ZU 2)])]
 (.ite (.pick (pne (.tget r35 1) (pi 0)) pT (pne (.tget r35 0) r6))
 (.ret (.tup [ac6,(pi 11)]))
 (.ret (.tup [(.mk [(pc acu 0),(pc acu 1),(pc acu 2)]),(pi 0)])))))))))
def RO (b:Nat→PC):PT×List (Shp×PT):=(uv,[])
theorem Ca:cf_order_find.map told=some (RO (aA cf_order_find)):=by kernel_rfl
theorem Ji:tree oo=uv:=aj Ca
theorem Iq:cf_order_find=some oo:=ah Ca
noncomputable def cf_order_find_1:Option PC:=av {ctx with fr:=[3],nh:=[]} Tryz.f188 ((aa aq 188).getD default) [2]
noncomputable def kg:PC:=hpc cf_order_find_1
def pw:PT:=
 (.ret (peq sO (.deref r1)))
def MG (b:Nat→PC):PT×List (Shp×PT):=(pw,[])
theorem yc:cf_order_find_1.map told=some (MG (aA cf_order_find_1)):=by kernel_rfl
theorem Ew:tree kg=pw:=aj yc
theorem CT:cf_order_find_1=some kg:=ah yc
noncomputable def cf_slices_IndexFunc_Rule:Option PC:=av {ctx with fr:=[4,5],nh:=[]} Tryz.f187 ((aa aq 187).getD default) []
noncomputable def bY:PC:=hpc cf_slices_IndexFunc_Rule
noncomputable def ei:Nat→PC:=hbd cf_slices_IndexFunc_Rule
def sQ (b:Nat→PC):PC:=.block 0 [4,8,9] [] (.loop [4,8] [] (b 0))
def aV (b:Nat→PC):PT:=
 (.ite (plt r8 r7)
 (.blockS ⟨[],[]⟩ 1 [4,5,10,11,12,13,14,15,16] []
 (.chk (pix r0 r8)
 (.callc ⟨[(5,r8)],[]⟩ [] 16 r1 [(pn r0 r8)]
 (.ite r16
 (.ret r5)
 (.next ⟨[],[]⟩))))
 (.next ⟨[(8,B9)],[]⟩))
 (.exit 0 ⟨[(9,(plt r8 r7))],[]⟩))
def ec (b:Nat→PC):PT:=
 (.brk ⟨[(8,(pi 0)),(7,(.llen r0)),(4,(pi 0))],[]⟩
(sQ b)
 (.ret (pi (-1))))
def vb (b:Nat→PC):PT×List (Shp×PT):=(ec b,[(.lp 0 [4,8,9] [] [4,8] [],aV b)])
theorem eh:cf_slices_IndexFunc_Rule.map told=some (vb (aA cf_slices_IndexFunc_Rule)):=by kernel_rfl
theorem qT:tree bY=ec ei:=aj eh
theorem cj:round 0 [4,8,9] [] [4,8] [] (ei 0)=aV ei:=aw eh 0 fun _=>rfl
theorem ri:cf_slices_IndexFunc_Rule=some bY:=ah eh
noncomputable def cf_term_Check:Option PC:=av {ctx with fr:=[2,3],nh:=[]} Tryz.f189 ((aa aq 189).getD default) [1]
noncomputable def oa:PC:=hpc cf_term_Check
def uo:PT:=
 (.call ⟨[],[(1,(.mk [r0]))]⟩ [] 5 221 [(.mk [sO,Gq,Ps]),(pi 1)]
 (.ite (pgt r5 (pi 60))
 (.ret (.tup [(pi 0),(pi 6)]))
 (.call ⟨[],[]⟩ [] 8 222 [(.mk [(pc o1 0),(pc o1 1),(pc o1 2)])]
 (.ret (.tup [(.tget r8 0),(.tget r8 1)])))))
def Rg (b:Nat→PC):PT×List (Shp×PT):=(uo,[])
theorem CI:cf_term_Check.map told=some (Rg (aA cf_term_Check)):=by kernel_rfl
theorem JI:tree oa=uo:=aj CI
theorem Hy:cf_term_Check=some oa:=ah CI
noncomputable def cf_term_measure:Option PC:=av {ctx with fr:=[4,5],nh:=[]} Tryz.f221 ((aa aq 221).getD default) [2,7,12295]
noncomputable def ke:PC:=hpc cf_term_measure
noncomputable def oU:Nat→PC:=hbd cf_term_measure
def Fl (b:Nat→PC):PC:=.block 0 [5,13,14] [] (.loop [5,13] [] (b 0))
def dV (b:Nat→PC):PT:=
 (.ite (plt r13 r12)
 (.blockS ⟨[(14,(plt r13 r12))],[]⟩ 1 [5,7,15,16,17,18,19,20,21,22,23,24] [7,12295]
 (.chk (pix r11 r13)
 (.call ⟨[(17,r5)],[]⟩ [] 21 221 [(.mk [(pc (.setc qx 0 (pn r11 r13)) 0),(pc (.setc qx 0 (pn r11 r13)) 1),(pc (.setc qx 0 (pn r11 r13)) 2)]),(aF r1 (pi 1))]
 (.ite (pgt (aF r17 r21) (pi 60))
 (.exit 0 ⟨[(5,(aF r17 r21))],[]⟩)
 (.next ⟨[(5,(aF r17 r21))],[]⟩))))
 (.next ⟨[(13,(aF r13 (pi 1)))],[]⟩))
 (.exit 0 ⟨[(14,(plt r13 r12))],[]⟩))
def jX (b:Nat→PC):PT:=
 (.ite (pgt r1 (pi 8))
 (.ret (pi 61))
 (.brk ⟨[(13,(pi 0)),(12,Ab),(11,Ps),(5,(pi 1))],[]⟩
(Fl b)
 (.ret r5)))
def MN (b:Nat→PC):PT×List (Shp×PT):=(jX b,[(.lp 0 [5,13,14] [] [5,13] [],dV b)])
theorem ql:cf_term_measure.map told=some (MN (aA cf_term_measure)):=by kernel_rfl
theorem sm:tree ke=jX oU:=aj ql
theorem gG:round 0 [5,13,14] [] [5,13] [] (oU 0)=dV oU:=aw ql 0 fun _=>rfl
theorem DT:cf_term_measure=some ke:=ah ql
noncomputable def cf_term_check:Option PC:=av {ctx with fr:=[2,3,5,7,8,38,47,10,11,12],nh:=[]} Tryz.f222 ((aa aq 222).getD default) [1,4,6,12294,9]
noncomputable def ou:PC:=hpc cf_term_check
noncomputable def jE:Nat→PC:=hbd cf_term_check
def Mx (b:Nat→PC):PC:=.block 0 [2,3,20,21] [4] (.loop [2,3,20] [4] (b 0))
def LL (b:Nat→PC):PC:=.block 3 [2,3,10,82,83] [] (.loop [2,3,10,82] [] (b 1))
def fM (b:Nat→PC):PT:=
 (.ite (plt r20 r19)
 (.blockS ⟨[],[]⟩ 1 [2,3,5,6,7,8,22,23,24,25,26,27,28,29,30,31,33,34,35,36] [6,12294,4]
 (.chk (pix r18 r20)
 (.call ⟨[(5,r20)],[]⟩ [] 27 222 [(.mk [(pc (.setc qx 0 wc) 0),(pc (.setc qx 0 wc) 1),(pc (.setc qx 0 wc) 2)])]
 (.ite (pne (.tget r27 1) (pi 0))
 (.ret (.tup [(pi 0),(.tget r27 1)]))
 (.chk (pix o4 r5)
 (.next ⟨[],[(4,(.setn o4 r5 0 (.tget r27 0)))]⟩)))))
 (.next ⟨[(20,(aF r20 (pi 1)))],[]⟩))
 (.exit 0 ⟨[(21,(plt r20 r19))],[]⟩))
def bI (b:Nat→PC):PT:=
 (.ite (plt r82 r81)
 (.chk (pix r80 r82)
 (.ite (.pick (peq (pn r80 r82) (pi (-1))) (peq r10 (pi (-1))) pF)
 (.chk (pix o4 r82)
 (.ite (pne (pn o4 r82) (.pick (peq (pn r80 r82) (pi (-1))) (pn o4 r82) (pn r80 r82)))
 (.ret (.tup [(pi 0),(pi 11)]))
 (.next ⟨[(10,(pn o4 r82)),(82,(aF r82 (pi 1)))],[]⟩)))
 (.chk (pix o4 r82)
 (.ite (pne (pn o4 r82) (.pick (peq (pn r80 r82) (pi (-1))) r10 (pn r80 r82)))
 (.ret (.tup [(pi 0),(pi 11)]))
 (.next ⟨[(82,(aF r82 (pi 1)))],[]⟩)))))
 (.exit 3 ⟨[(83,(plt r82 r81))],[]⟩))
def uz (b:Nat→PC):PT:=
 (.chk (.an (pge Ab (pi 0)) (ple Ab aX))
 (.chk (peq Ab Ab)
 (.brk ⟨[(20,(pi 0)),(19,Ab),(18,Ps),(4,pN),(3,(pi 0)),(2,(pi 0))],[(4,(.rep Ab (pi 0))),(1,(.mk [r0]))]⟩
(Mx b)
 (.blockS ⟨[],[]⟩ 2 [2,3,38,39,40,41,42,46,47,48,49,50,51,55,56,60] []
 (.iteS ⟨[],[]⟩ (.pick (plt (pc o1 0) (pi 0)) pT (pgt (pc o1 0) (pi 13))) [2,3,47,48,49,50,51,55,56,60] []
 (.ret (.tup [(pi 0),(pi 1)]))
 (.iteS ⟨[],[]⟩ (.pick (.pick (peq (pc o1 0) (pi 0)) pT (peq (pc o1 0) (pi 1))) pT (peq (pc o1 0) (pi 2))) [2,3] []
 (.call ⟨[],[]⟩ [] 62 245 [(.mk [(pc o1 0),(pc o1 1),(pc o1 2)])]
 (.ret (.tup [(.tget r62 0),(.tget r62 1)])))
 (.next ⟨[],[]⟩)
 (.next ⟨[],[]⟩))
 (.next ⟨[],[]⟩))
 (.call ⟨[],[]⟩ [] 67 246 [(pc o1 0)]
 (.ite (.pick (pne (.llen o4) (.llen (pc (.setc rR 0 r67) 0))) pT (pne (pc o1 1) (pi 0)))
 (.ret (.tup [(pi 0),(pi 2)]))
 (.brk ⟨[(82,(pi 0)),(81,(.llen (pc (.setc rR 0 r67) 0))),(80,(pc (.setc rR 0 r67) 0)),(10,(pi (-1)))],[(9,(.setc rR 0 r67))]⟩
(LL b)
 (.ite (peq (pc o9 1) (pi (-1)))
 (.ret (.tup [r10,(pi 0)]))
 (.ret (.tup [(pc o9 1),(pi 0)]))))))))))
def RC (b:Nat→PC):PT×List (Shp×PT):=(uz b,[(.lp 0 [2,3,20,21] [4] [2,3,20] [4],fM b),(.lp 3 [2,3,10,82,83] [] [2,3,10,82] [],bI b)])
theorem nR:cf_term_check.map told=some (RC (aA cf_term_check)):=by kernel_rfl
theorem IW:tree ou=uz jE:=aj nR
theorem kO:round 0 [2,3,20,21] [4] [2,3,20] [4] (jE 0)=fM jE:=aw nR 0 fun _=>rfl
theorem bR:round 3 [2,3,10,82,83] [] [2,3,10,82] [] (jE 1)=bI jE:=aw nR 1 fun _=>rfl
theorem Hj:cf_term_check=some ou:=ah nR
noncomputable def cf_term_leaf:Option PC:=av {ctx with fr:=[2,3,12,20,4,5],nh:=[]} Tryz.f245 ((aa aq 245).getD default) [1]
noncomputable def rl:PC:=hpc cf_term_leaf
def xe:PT:=
 (.ite (pgt Ab (pi 0))
 (.ret (.tup [(pi 0),(pi 2)]))
 (.blockS ⟨[(11,sO)],[(1,(.mk [r0]))]⟩ 0 [2,3,12,13,20,21] []
 (.iteS ⟨[],[]⟩ (peq r11 (pi 0)) [2,3,20,21] []
 (.call ⟨[],[]⟩ [] 16 249 [(pc o1 1)]
 (.ite (pne r16 (pc o1 1))
 (.ret (.tup [(pi 0),(pi 3)]))
 (.ret (.tup [(pi 0),(pi 0)]))))
 (.ite (peq r11 (pi 1))
 (.ite (.pick (plt (pc o1 1) (pi 0)) pT (pgt (pc o1 1) (pi 1)))
 (.ret (.tup [(pi 0),(pi 3)]))
 (.ret (.tup [(pi 1),(pi 0)])))
 (.next ⟨[],[]⟩))
 (.next ⟨[],[]⟩))
 (.call ⟨[],[]⟩ [] 33 247 [(pc o1 1)]
 (.ite (.nt (.tget r33 1))
 (.ret (.tup [(pi 0),(pi 10)]))
 (.ret (.tup [(.tget r33 0),(pi 0)]))))))
def UA (b:Nat→PC):PT×List (Shp×PT):=(xe,[])
theorem Ha:cf_term_leaf.map told=some (UA (aA cf_term_leaf)):=by kernel_rfl
theorem Lt:tree rl=xe:=aj Ha
theorem MB:cf_term_leaf=some rl:=ah Ha
noncomputable def cf_term_cut:Option PC:=av {ctx with fr:=[2],nh:=[]} Tryz.f249 ((aa aq 249).getD default) []
noncomputable def tZ:PC:=hpc cf_term_cut
def zQ:PT:=
 (.ret (.mn (.mx r0 (pi (-1099511627776))) HU))
def Vf (b:Nat→PC):PT×List (Shp×PT):=(zQ,[])
theorem JX:cf_term_cut.map told=some (Vf (aA cf_term_cut)):=by kernel_rfl
theorem Pc:tree tZ=zQ:=aj JX
theorem OZ:cf_term_cut=some tZ:=ah JX
noncomputable def cf_term_VarType:Option PC:=av {ctx with fr:=[2,3,4,11],nh:=[]} Tryz.f247 ((aa aq 247).getD default) []
noncomputable def jW:PC:=hpc cf_term_VarType
def pG:PT:=
 (.ite (.pick (plt r0 (pi 0)) pT (pgt r0 (pi 19)))
 (.ret (.tup [(pi 0),pF]))
 (.ite (plt r0 (pi 7))
 (.ret (.tup [(pi 0),pT]))
 (.ret (.tup [(pi 1),pT]))))
def LX (b:Nat→PC):PT×List (Shp×PT):=(pG,[])
theorem xK:cf_term_VarType.map told=some (LX (aA cf_term_VarType)):=by kernel_rfl
theorem Er:tree jW=pG:=aj xK
theorem DX:cf_term_VarType=some jW:=ah xK
noncomputable def cf_term_shapeOf:Option PC:=av {ctx with fr:=[4,8,13,17,21],nh:=[]} Tryz.f246 ((aa aq 246).getD default) [2]
noncomputable def jN:PC:=hpc cf_term_shapeOf
def py:PT:=
 (.ite (peq r0 (pi 3))
 (.ret (.mk [(pc (.setc rR 0 (.mk [(.lst [(pi 1)]),(pi 1)])) 0),(pc (.setc rR 0 (.mk [(.lst [(pi 1)]),(pi 1)])) 1)]))
 (.ite (.pick (peq r0 (pi 4)) (peq r0 (pi 4)) (peq r0 (pi 5)))
 (.ret (.mk [(pc (.setc rR 0 (.mk [(.lst [(pi 1),(pi 1)]),(pi 1)])) 0),(pc (.setc rR 0 (.mk [(.lst [(pi 1),(pi 1)]),(pi 1)])) 1)]))
 (.ite (peq r0 (pi 6))
 (.ret (.mk [(pc acH 0),(pc acH 1)]))
 (.ite (peq r0 (pi 7))
 (.ret (.mk [(pc (.setc rR 0 (.mk [(.lst [(pi 0),(pi 0)]),(pi 1)])) 0),(pc (.setc rR 0 (.mk [(.lst [(pi 0),(pi 0)]),(pi 1)])) 1)]))
 (.ite (peq r0 (pi 8))
 (.ret (.mk [(pc (.setc rR 0 (.mk [(.lst [(pi (-1)),(pi (-1))]),(pi 1)])) 0),(pc (.setc rR 0 (.mk [(.lst [(pi (-1)),(pi (-1))]),(pi 1)])) 1)]))
 (.ret (.mk [(pc (.setc rR 0 (.mk [(.lst [(pi 0),(pi 0)]),(pi 0)])) 0),(pc (.setc rR 0 (.mk [(.lst [(pi 0),(pi 0)]),(pi 0)])) 1)])))))))
def LN (b:Nat→PC):PT×List (Shp×PT):=(py,[])
theorem xI:cf_term_shapeOf.map told=some (LN (aA cf_term_shapeOf)):=by kernel_rfl
theorem C5:tree jN=py:=aj xI
theorem Dw:cf_term_shapeOf=some jN:=ah xI
noncomputable def cf_term_Eval:Option PC:=av {ctx with fr:=[5,6,8],nh:=[]} Tryz.f118 ((aa aq 118).getD default) [2,4,7]
noncomputable def qG:PC:=hpc cf_term_Eval
def xE:PT:=
 (.call ⟨[],[(4,pV),(2,(.mk [r0]))]⟩ [] 11 189 [(.mk [sO,Gq,Ps])]
 (.ite (pne (.tget r11 1) (pi 0))
 (.ret WU)
 (.call ⟨[],[]⟩ [] 21 190 [(.mk [r1]),(.mk [(pc o2 0),(pc o2 1),(pc o2 2)])]
 (.ret (.mk [(pc ad6 0),(pc ad6 1)])))))
def UN (b:Nat→PC):PT×List (Shp×PT):=(xE,[])
theorem Fh:cf_term_Eval.map told=some (UN (aA cf_term_Eval)):=by kernel_rfl
theorem Mz:tree qG=xE:=aj Fh
theorem LR:cf_term_Eval=some qG:=ah Fh
noncomputable def cf_term_machine_run:Option PC:=av {ctx with fr:=[5,15,21,9,11],nh:=[]} Tryz.f190 ((aa aq 190).getD default) [2,3,4,6,33,7,8,10,12298,12]
noncomputable def eD:PC:=hpc cf_term_machine_run
noncomputable def jb:Nat→PC:=hbd cf_term_machine_run
def yr (b:Nat→PC):PC:=.block 1 [45,46] [7,8] (.loop [45] [7,8] (b 0))
def bN (b:Nat→PC):PT:=
 (.ite (plt r45 r44)
 (.blockS ⟨[],[]⟩ 2 [9,10,47,48,49,50,51,52,53,54,55,56,57,58,59,60,61] [10,12298,8,7]
 (.chk (pix r43 r45)
 (.call ⟨[(54,r45),(52,r45)],[]⟩ [] 57 190 [(.mk [(pc o2 0)]),(.mk [(pc (.setc qx 0 (pn r43 r45)) 0),(pc (.setc qx 0 (pn r43 r45)) 1),(pc (.setc qx 0 (pn r43 r45)) 2)])]
 (.chk (pix o7 r52)
 (.chk (pix o8 r54)
 (.next ⟨[],[(8,(.setn o8 r54 0 (.tget r57 1))),(7,(.setn o7 r52 0 (.tget r57 0)))]⟩)))))
 (.next ⟨[(45,(aF r45 (pi 1)))],[]⟩))
 (.exit 1 ⟨[(46,(plt r45 r44))],[]⟩))
def cF (b:Nat→PC):PT:=
 (.blockS ⟨[(14,(pc (.mk [r1]) 0))],[(4,pV),(3,(.mk [r1])),(2,(.mk [r0]))]⟩ 0 [5,15,16,21,22] [4]
 (.iteS ⟨[],[]⟩ (.pick (peq r14 (pi 0)) (peq r14 (pi 0)) (peq r14 (pi 1))) [5,21,22] [4]
 (.ret (.tup [(.mk [(pc (.setc o4 0 (.mk [pT,(pc o3 1)])) 0),(pc (.setc o4 0 (.mk [pT,(pc o3 1)])) 1)]),pL]))
 (.iteS ⟨[],[]⟩ (peq r14 (pi 2)) [5] [4]
 (.call ⟨[],[]⟩ [] 26 223 [(.mk [(pc o2 0)]),(pc o3 1)]
 (.ite (pc (.setc pV 0 r26) 0)
 (.ret (.tup [(.mk [(pc ade 0),(pc ade 1)]),pL]))
 (.ret (.tup [WU,(.lst [(pc o3 1)])]))))
 (.next ⟨[],[]⟩)
 (.next ⟨[],[]⟩))
 (.next ⟨[],[]⟩))
 (.chk (.an (pge ya (pi 0)) (ple ya aX))
 (.chk (peq ya ya)
 (.brk ⟨[(45,(pi 0)),(44,ya),(43,(pc o3 2)),(8,pN),(7,pN)],[(8,(.rep ya pL)),(7,(.rep ya pV))]⟩
(yr b)
 (.chk (.nt (.an (.an (peq (pc o3 0) (pi 6)) pT) (.nt (pix o7 (pi 0)))))
 (.ite (.pick (peq (pc o3 0) (pi 6)) (pc (pn o7 (pi 0)) 0) pF)
 (.chk (pix o7 (pi 0))
 (.chk (pix o7 V3)
 (.chk (pix o8 V3)
 (.ret (.tup [(.mk [(pc (.setc o4 0 (.sub (pn o7 V3) 0 2)) 0),(pc (.setc o4 0 (.sub (pn o7 V3) 0 2)) 1)]),(pn o8 V3)])))))
 (.call ⟨[],[]⟩ [] 88 224 [(pc o3 0),o7]
 (.ite (pc (.setc pV 0 r88) 0)
 (.ret (.tup [(.mk [(pc abu 0),(pc abu 1)]),pL]))
 (.call ⟨[(92,(.mk [pF,(pi 0)]))],[]⟩ [] 94 225 [o8]
 (.ret (.tup [(.mk [(pc (.setc o4 0 r92) 0),(pc (.setc o4 0 r92) 1)]),r94])))))))))))
def Bs (b:Nat→PC):PT×List (Shp×PT):=(cF b,[(.lp 1 [45,46] [7,8] [45] [7,8],bN b)])
theorem jk:cf_term_machine_run.map told=some (Bs (aA cf_term_machine_run)):=by kernel_rfl
theorem wK:tree eD=cF jb:=aj jk
theorem eu:round 1 [45,46] [7,8] [45] [7,8] (jb 0)=bN jb:=aw jk 0 fun _=>rfl
theorem xr:cf_term_machine_run=some eD:=ah jk
noncomputable def cf_term_machine_value:Option PC:=av {ctx with fr:=[5,6],nh:=[]} Tryz.f223 ((aa aq 223).getD default) [2,4]
noncomputable def dy:PC:=hpc cf_term_machine_value
def gd:PT:=
 (.chk (.nt (.an (.an (.nt (pge r1 (.llen sO))) pT) (.nt (pix sO r1))))
 (.ite (.pick (pge r1 (.llen sO)) pT (.nt (pc (pn sO r1) 0)))
 (.ret (.mk [(pc (.setc pV 0 (.mk [pF,(pi 0)])) 0),(pc (.setc pV 0 (.mk [pF,(pi 0)])) 1)]))
 (.call ⟨[],[(4,pV),(2,(.mk [r0]))]⟩ [] 24 247 [r1]
 (.iteS ⟨[],[]⟩ (peq (.tget r24 0) (pi 1)) [] [4]
 (.chk (pix (pc o2 0) r1)
 (.call ⟨[],[]⟩ [] 36 248 [(pne (pc (pn (pc o2 0) r1) 1) (pi 0))]
 (.ret (.mk [(pc (.setc o4 0 r36) 0),(pc (.setc o4 0 r36) 1)]))))
 (.next ⟨[],[]⟩)
 (.chk (pix (pc o2 0) r1)
 (.call ⟨[],[]⟩ [] 43 249 [(pc (pn (pc o2 0) r1) 1)]
 (.ret (.mk [(pc (.setc o4 0 (.mk [pT,r43])) 0),(pc (.setc o4 0 (.mk [pT,r43])) 1)]))))))))
def yy (b:Nat→PC):PT×List (Shp×PT):=(gd,[])
theorem mS:cf_term_machine_value.map told=some (yy (aA cf_term_machine_value)):=by kernel_rfl
theorem uw:tree dy=gd:=aj mS
theorem vf:cf_term_machine_value=some dy:=ah mS
noncomputable def cf_term_yes:Option PC:=av {ctx with fr:=[],nh:=[]} Tryz.f248 ((aa aq 248).getD default) [2]
noncomputable def uj:PC:=hpc cf_term_yes
def AO:PT:=
 (.ite r0
 (.ret (.mk [(pc Zl 0),(pc Zl 1)]))
 (.ret (.mk [(pc Zu 0),(pc Zu 1)])))
def Wd (b:Nat→PC):PT×List (Shp×PT):=(AO,[])
theorem J8:cf_term_yes.map told=some (Wd (aA cf_term_yes)):=by kernel_rfl
theorem Nm:tree uj=AO:=aj J8
theorem Qu:cf_term_yes=some uj:=ah J8
noncomputable def cf_term_combine:Option PC:=av {ctx with fr:=[9,22,41,6,7,82,88,94],nh:=[]} Tryz.f224 ((aa aq 224).getD default) [4,5]
noncomputable def kf:PC:=hpc cf_term_combine
def qm:PT:=
 (.blockS ⟨[(8,r0)],[(4,pV)]⟩ 0 [9,10,22,23] [4]
 (.iteS ⟨[],[]⟩ (peq r8 (pi 3)) [22,23] [4]
 (.chk (pix r1 (pi 0))
 (.iteS ⟨[],[]⟩ (pc (pn r1 (pi 0)) 0) [] [4]
 (.chk (pix r1 (pi 0))
 (.call ⟨[],[]⟩ [] 20 248 [(peq (pc (pn r1 (pi 0)) 1) (pi 0))]
 (.ret (.mk [(pc (.setc o4 0 r20) 0),(pc (.setc o4 0 r20) 1)]))))
 (.next ⟨[],[]⟩)
 (.ret WU)))
 (.iteS ⟨[],[]⟩ (.pick (peq r8 (pi 4)) (peq r8 (pi 4)) (peq r8 (pi 5))) [] [4]
 (.call ⟨[],[]⟩ [] 27 248 [(peq r0 (pi 5))]
 (.chk (pix r1 (pi 0))
 (.chk (.nt (.an (.an (.nt aex) pT) (.nt (pix r1 (pi 1)))))
 (.ite (.pick aex pT (.an (.cb .eql (pc zd 0) (pc Su 0)) (.an (peq (pc zd 1) (pc Su 1)) pT)))
 (.ret (.mk [(pc (.setc o4 0 Su) 0),(pc (.setc o4 0 Su) 1)]))
 (.next ⟨[],[]⟩)))))
 (.ite (peq r8 (pi 6))
 (.chk (pix r1 (pi 1))
 (.chk (.nt (.an (.an (pc zd 0) pT) (.nt (pix r1 (pi 1)))))
 (.chk (.nt (.an (.an (pc zd 0) pT) (.nt (pix r1 (pi 2)))))
 (.ite (.pick (pc zd 0) (.an (.cb .eql (pc zd 0) (pc (pn r1 (pi 2)) 0)) (.an (peq (pc zd 1) (pc (pn r1 (pi 2)) 1)) pT)) pF)
 (.ret (.mk [(pc (.setc o4 0 zd) 0),(pc (.setc o4 0 zd) 1)]))
 (.ret WU)))))
 (.next ⟨[],[]⟩))
 (.next ⟨[],[]⟩))
 (.next ⟨[],[]⟩))
 (.chk (pix r1 (pi 0))
 (.chk (.nt (.an (.an (.nt (.nt (pc (pn r1 (pi 0)) 0))) pT) (.nt (pix r1 (pi 1)))))
 (.ite (.pick (.nt (pc (pn r1 (pi 0)) 0)) pT (.nt (pc zd 0)))
 (.ret WU)
 (.chk (pix r1 (pi 1))
 (.blockS ⟨[(81,r0),(7,(pc zd 1)),(6,(pc (pn r1 (pi 0)) 1))],[]⟩ 1 [82,83,88,89,94,95] [4]
 (.iteS ⟨[],[]⟩ (.pick (peq r81 (pi 4)) (peq r81 (pi 4)) (peq r81 (pi 5))) [88,89,94,95] [4]
 (.call ⟨[],[]⟩ [] 87 248 [(peq r0 (pi 4))]
 (.ret (.mk [(pc (.setc o4 0 r87) 0),(pc (.setc o4 0 r87) 1)])))
 (.iteS ⟨[],[]⟩ (peq r81 (pi 7)) [94,95] [4]
 (.call ⟨[],[]⟩ [] 93 248 [(plt r6 r7)]
 (.ret (.mk [(pc (.setc o4 0 r93) 0),(pc (.setc o4 0 r93) 1)])))
 (.iteS ⟨[],[]⟩ (peq r81 (pi 8)) [] [4]
 (.call ⟨[],[]⟩ [] 99 248 [(peq r6 r7)]
 (.ret (.mk [(pc (.setc o4 0 r99) 0),(pc (.setc o4 0 r99) 1)])))
 (.next ⟨[],[]⟩)
 (.next ⟨[],[]⟩))
 (.next ⟨[],[]⟩))
 (.next ⟨[],[]⟩))
 (.call ⟨[],[]⟩ [] 103 250 [r0,r6,r7]
 (.ret (.mk [(pc (.setc o4 0 (.mk [pT,afi])) 0),(pc (.setc o4 0 (.mk [pT,afi])) 1)])))))))))
def L9 (b:Nat→PC):PT×List (Shp×PT):=(qm,[])
theorem yk:cf_term_combine.map told=some (L9 (aA cf_term_combine)):=by kernel_rfl
theorem Dy:tree kf=qm:=aj yk
theorem CV:cf_term_combine=some kf:=ah yk
noncomputable def cf_term_arithmetic:Option PC:=av {ctx with fr:=[6,8,14,20,25],nh:=[]} Tryz.f250 ((aa aq 250).getD default) []
noncomputable def fc:PC:=hpc cf_term_arithmetic
def km:PT:=
 (.blockS ⟨[(7,r0)],[]⟩ 0 [6,8,9,14,15,20,21,25,26] []
 (.iteS ⟨[],[]⟩ (peq r7 (pi 9)) [6,14,15,20,21,25,26] []
 (.call ⟨[],[]⟩ [] 13 249 [(aF r1 r2)]
 (.ret r13))
 (.iteS ⟨[],[]⟩ (peq r7 (pi 10)) [6,20,21,25,26] []
 (.call ⟨[],[]⟩ [] 19 249 [(aO r1 r2)]
 (.ret r19))
 (.iteS ⟨[],[]⟩ (peq r7 (pi 11)) [6,25,26] []
 (.call ⟨[],[]⟩ [] 24 278 [r1,r2]
 (.ret r24))
 (.ite (peq r7 (pi 12))
 (.ret (.mn r1 r2))
 (.next ⟨[],[]⟩))
 (.next ⟨[],[]⟩))
 (.next ⟨[],[]⟩))
 (.next ⟨[],[]⟩))
 (.ret (.mx r1 r2)))
def C8 (b:Nat→PC):PT×List (Shp×PT):=(km,[])
theorem sR:cf_term_arithmetic.map told=some (C8 (aA cf_term_arithmetic)):=by kernel_rfl
theorem yF:tree fc=km:=aj sR
theorem yA:cf_term_arithmetic=some fc:=ah sR
noncomputable def cf_term_product:Option PC:=av {ctx with fr:=[4,5,6,7],nh:=[]} Tryz.f278 ((aa aq 278).getD default) []
noncomputable def j9:PC:=hpc cf_term_product
def pC:PT:=
 (.call ⟨[],[]⟩ [] 19 285 [(.conv .u64 (.mx r0 (aO (pi 0) r0))),(.conv .u64 (.mx r1 (aO (pi 0) r1)))]
 (.ite (.cb .neq (plt r0 (pi 0)) (plt r1 (pi 0)))
 (.ret (aO (pi 0) aee))
 (.ret aee)))
def MI (b:Nat→PC):PT×List (Shp×PT):=(pC,[])
theorem xY:cf_term_product.map told=some (MI (aA cf_term_product)):=by kernel_rfl
theorem DM:tree j9=pC:=aj xY
theorem DW:cf_term_product=some j9:=ah xY
noncomputable def cf_bits_Mul64:Option PC:=av {ctx with fr:=[4,5,6,7,8,9,10,11,12,13],nh:=[]} Tryz.f285 ((aa aq 285).getD default) []
noncomputable def nZ:PC:=hpc cf_bits_Mul64
def u7:PT:=
 (.chk (pge SF (pi 0))
 (.ret (.tup [(.ai .add .u64 (.ai .add .u64 (.ai .mul .u64 (.ai .shr .u64 r0 SF) (.ai .shr .u64 r1 SF)) (.ai .shr .u64 aeS SF)) (.ai .shr .u64 (.ai .add .u64 (.ai .and .u64 aeS (.con (.v (.int .u64 4294967295)))) (.ai .mul .u64 (.ai .and .u64 r0 (.con (.v (.int .u64 4294967295)))) (.ai .shr .u64 r1 SF))) SF)),(.ai .mul .u64 r0 r1)])))
def RP (b:Nat→PC):PT×List (Shp×PT):=(u7,[])
theorem Cj:cf_bits_Mul64.map told=some (RP (aA cf_bits_Mul64)):=by kernel_rfl
theorem JK:tree nZ=u7:=aj Cj
theorem Jf:cf_bits_Mul64=some nZ:=ah Cj
noncomputable def cf_slices_Concat_int:Option PC:=av {ctx with fr:=[2,3,5,8],nh:=[]} Tryz.f225 ((aa aq 225).getD default) [6]
noncomputable def dW:PC:=hpc cf_slices_Concat_int
noncomputable def cn:Nat→PC:=hbd cf_slices_Concat_int
def w8 (b:Nat→PC):PC:=.block 0 [3,11,12] [] (.loop [3,11] [] (b 0))
def xj (b:Nat→PC):PC:=.block 2 [6,27,28] [6] (.loop [6,27] [6] (b 1))
def cP (b:Nat→PC):PT:=
 (.ite (plt r11 r10)
 (.chk (pix r9 r11)
 (.ite (plt (aF r3 (.llen (pn r9 r11))) (pi 0))
 (.chk (.nt pT)
 (.chk (.nt pT)
 (.next ⟨[(3,(aF r3 (.llen (pn r9 r11)))),(11,(aF r11 (pi 1)))],[]⟩)))
 (.next ⟨[(3,(aF r3 (.llen (pn r9 r11)))),(11,(aF r11 (pi 1)))],[]⟩)))
 (.exit 0 ⟨[(12,(plt r11 r10))],[]⟩))
def cK (b:Nat→PC):PT:=
 (.ite (plt r27 r26)
 (.chk (pix r25 r27)
 (.chk (ple (.llen (.app o6 (pn r25 r27))) aX)
 (.next ⟨[(6,pN),(27,(aF r27 (pi 1)))],[(6,(.app o6 (pn r25 r27)))]⟩)))
 (.exit 2 ⟨[(28,(plt r27 r26))],[]⟩))
def gV (b:Nat→PC):PT:=
 (.brk ⟨[(11,(pi 0)),(10,(.llen r0)),(9,r0),(3,(pi 0))],[]⟩
(w8 b)
 (.call ⟨[],[]⟩ [] 24 251 [pL,r3]
 (.brk ⟨[(27,(pi 0)),(26,(.llen r0)),(25,r0),(6,pN)],[(6,r24)]⟩
(xj b)
 (.ret o6))))
def y9 (b:Nat→PC):PT×List (Shp×PT):=(gV b,[(.lp 0 [3,11,12] [] [3,11] [],cP b),(.lp 2 [6,27,28] [6] [6,27] [6],cK b)])
theorem dS:cf_slices_Concat_int.map told=some (y9 (aA cf_slices_Concat_int)):=by kernel_rfl
theorem vw:tree dW=gV cn:=aj dS
theorem iX:round 0 [3,11,12] [] [3,11] [] (cn 0)=cP cn:=aw dS 0 fun _=>rfl
theorem iY:round 2 [6,27,28] [6] [6,27] [6] (cn 1)=cK cn:=aw dS 1 fun _=>rfl
theorem vP:cf_slices_Concat_int=some dW:=ah dS
noncomputable def cf_ask_Tri:Option PC:=av {ctx with fr:=[2,3,7,12],nh:=[]} Tryz.f41 ((aa aq 41).getD default) [1]
noncomputable def w7:PC:=hpc cf_ask_Tri
def Dg:PT:=
 (.ite (pne HX (pi 0))
 (.ret (pi 0))
 (.ite (.nt sO)
 (.ret (pi 2))
 (.ite (pne Gq (pi 0))
 (.ret (pi 1))
 (.ret (pi 0)))))
def Ze (b:Nat→PC):PT×List (Shp×PT):=(Dg,[])
theorem Oi:cf_ask_Tri.map told=some (Ze (aA cf_ask_Tri)):=by kernel_rfl
theorem QP:tree w7=Dg:=aj Oi
theorem R1:cf_ask_Tri=some w7:=ah Oi
noncomputable def cf_ask_Maturity:Option PC:=av {ctx with fr:=[8,9,10,11],nh:=[]} Tryz.f50 ((aa aq 50).getD default) [4,6]
noncomputable def j5:PC:=hpc cf_ask_Maturity
def oQ:PT:=
 (.call ⟨[],[(6,(.mk [r2])),(4,(.mk [r0]))]⟩ [] 14 26 [(mkA 19 (.mk [r2])),r3]
 (.ite (peq (.llen (pc (.setc o6 0 r14) 15)) (pi 0))
 (.ret (pi (-1)))
 (.call ⟨[],[(6,(.setc o6 0 r14))]⟩ [] 23 38 [(mkA 8 o4),r1,(pi 6),(mkA 19 (.setc o6 0 r14)),r3]
 (.call ⟨[],[]⟩ [] 24 43 [r23]
 (.call ⟨[(29,(mkA 15 o6)),(27,(mkA 8 o4)),(9,(.mx r24 (pi 0)))],[]⟩ [] 31 106 [(mkA 19 o6)]
 (.call ⟨[],[]⟩ [] 33 105 [r27,r29,r31,r9]
 (.ite (pne (.tget r33 1) (pi 0))
 (.ret (pi (-1)))
 (.ret (.tget r33 0)))))))))
def Me (b:Nat→PC):PT×List (Shp×PT):=(oQ,[])
theorem yn:cf_ask_Maturity.map told=some (Me (aA cf_ask_Maturity)):=by kernel_rfl
theorem D8:tree j5=oQ:=aj yn
theorem CR:cf_ask_Maturity=some j5:=ah yn
noncomputable def cf_ask_Number:Option PC:=av {ctx with fr:=[2],nh:=[]} Tryz.f43 ((aa aq 43).getD default) [1]
noncomputable def nW:PC:=hpc cf_ask_Number
def uI:PT:=
 (.ite (.pick (pne HX (pi 0)) pT (.nt sO))
 (.ret (pi (-1)))
 (.ret Gq))
def QS (b:Nat→PC):PT×List (Shp×PT):=(uI,[])
theorem CB:cf_ask_Number.map told=some (QS (aA cf_ask_Number)):=by kernel_rfl
theorem I6:tree nW=uI:=aj CB
theorem IE:cf_ask_Number=some nW:=ah CB
noncomputable def cf_record_Seen:Option PC:=av {ctx with fr:=[2,4],nh:=[]} Tryz.f106 ((aa aq 106).getD default) [1,3,6,8]
noncomputable def ma:PC:=hpc cf_record_Seen
noncomputable def gB:Nat→PC:=hbd cf_record_Seen
def IN (b:Nat→PC):PC:=.block 0 [3,16,17] [3] (.loop [3,16] [3] (b 0))
def HQ (b:Nat→PC):PC:=.block 2 [2,3,36,37] [3] (.loop [2,3,36] [3] (b 1))
def eN (b:Nat→PC):PT:=
 (.ite (plt r16 r15)
 (.chk Au
 (.ite (.pick (peq r4 (pi 1)) (peq (pc (.setc z9 0 mV) 0) (pi 1)) pF)
 (.chk (ple (.llen (.app o3 (.lst [(pc (.setc z9 0 mV) 6)]))) aX)
 (.next ⟨[(3,pN),(16,IK)],[(3,(.app o3 (.lst [(pc (.setc z9 0 mV) 6)])))]⟩))
 (.next ⟨[(16,IK)],[]⟩)))
 (.exit 0 ⟨[(17,(plt r16 r15))],[]⟩))
def bQ (b:Nat→PC):PT:=
 (.ite (plt r36 r35)
 (.chk (pix r34 r36)
 (.ite (.pick (peq r4 (pi 0)) (peq (pc VH 0) (pi 2)) pF)
 (.ret (pc VH 6))
 (.ite (.pick (peq r4 (pi 1)) (peq (pc VH 0) (pi 1)) pF)
 (.chk (ple (.llen (.app o3 (.lst [(pc VH 6)]))) aX)
 (.next ⟨[(3,pN),(36,(aF r36 (pi 1)))],[(3,(.app o3 (.lst [(pc VH 6)])))]⟩))
 (.next ⟨[(36,(aF r36 (pi 1)))],[]⟩))))
 (.exit 2 ⟨[(37,(plt r36 r35))],[]⟩))
def rK (b:Nat→PC):PT:=
 (.brk ⟨[(16,(pi 0)),(15,(.llen AN)),(14,AN),(4,PL),(3,pN),(2,(pi 0))],[(3,pL),(1,(.mk [r0]))]⟩
(IN b)
 (.brk ⟨[(36,(pi 0)),(35,(.llen (pc o1 17))),(34,(pc o1 17))],[]⟩
(HQ b)
 (.ite (peq (.llen o3) (pi 0))
 (.ret (pi (-1)))
 (.call ⟨[],[]⟩ [] 66 178 [o3]
 (.ret r66)))))
def O8 (b:Nat→PC):PT×List (Shp×PT):=(rK b,[(.lp 0 [3,16,17] [3] [3,16] [3],eN b),(.lp 2 [2,3,36,37] [3] [2,3,36] [3],bQ b)])
theorem mI:cf_record_Seen.map told=some (O8 (aA cf_record_Seen)):=by kernel_rfl
theorem E8:tree ma=rK gB:=aj mI
theorem jh:round 0 [3,16,17] [3] [3,16] [3] (gB 0)=eN gB:=aw mI 0 fun _=>rfl
theorem cG:round 2 [2,3,36,37] [3] [2,3,36] [3] (gB 1)=bQ gB:=aw mI 1 fun _=>rfl
theorem FW:cf_record_Seen=some ma:=ah mI
noncomputable def cf_slices_Min_int:Option PC:=av {ctx with fr:=[2,3,4],nh:=[]} Tryz.f178 ((aa aq 178).getD default) []
noncomputable def gk:PC:=hpc cf_slices_Min_int
noncomputable def lJ:Nat→PC:=hbd cf_slices_Min_int
def qt (b:Nat→PC):PC:=.block 0 [3,4,12,13,14,15] [] (.loop [3,4] [] (b 0))
def eE (b:Nat→PC):PT:=
 (.ite (plt r4 (.llen r0))
 (.chk (pix r0 r4)
 (.next ⟨[(3,(.mn r3 (pn r0 r4))),(4,(aF r4 (pi 1)))],[]⟩))
 (.exit 0 ⟨[(12,r4),(13,r0),(14,(.llen r0)),(15,(plt r4 (.llen r0)))],[]⟩))
def ls (b:Nat→PC):PT:=
 (.ite (plt (.llen r0) (pi 1))
 (.chk (.nt pT)
 (.chk (.nt pT)
 (.chk (pix r0 (pi 0))
 (.brk ⟨[(4,(pi 1)),(3,(pn r0 (pi 0)))],[]⟩
(qt b)
 (.ret r3)))))
 (.chk (pix r0 (pi 0))
 (.brk ⟨[(4,(pi 1)),(3,(pn r0 (pi 0)))],[]⟩
(qt b)
 (.ret r3))))
def G7 (b:Nat→PC):PT×List (Shp×PT):=(ls b,[(.lp 0 [3,4,12,13,14,15] [] [3,4] [],eE b)])
theorem lR:cf_slices_Min_int.map told=some (G7 (aA cf_slices_Min_int)):=by kernel_rfl
theorem zH:tree gk=ls lJ:=aj lR
theorem l6:round 0 [3,4,12,13,14,15] [] [3,4] [] (lJ 0)=eE lJ:=aw lR 0 fun _=>rfl
theorem AG:cf_slices_Min_int=some gk:=ah lR
noncomputable def cf_tenor_Due:Option PC:=av {ctx with fr:=[8,9,15,39,58,74,11,12],nh:=[]} Tryz.f105 ((aa aq 105).getD default) [4,5,10]
noncomputable def rh:PC:=hpc cf_tenor_Due
def qH:PT:=
 (.blockS ⟨[],[(10,(.setc z3 0 (.mk [(pc (.mk [r1]) 5),(pc (.mk [r1]) 6),(pc (.mk [r1]) 7)]))),(5,(.mk [r1])),(4,(.mk [r0]))]⟩ 0 [8,9,15,16,17,18,19,25,26,32,33,38,39,40,41,42,43,47,48,52,53,57,58,59,60,61,65,66,69,70,73,74,75,76,77,80] []
 (.call ⟨[],[]⟩ [] 17 75 [(mkA 8 o4)]
 (.call ⟨[(19,(pne r17 (pi 0)))],[]⟩ [(19,false)] 23 173 [(mkA 8 o4),(pc o5 9)]
 (.call ⟨[(26,(.pick r19 pT (.nt r23)))],[]⟩ [(26,false)] 30 173 [(mkA 8 o4),(pc o5 10)]
 (.call ⟨[(33,(.pick r26 pT (.nt r30)))],[]⟩ [(33,false)] 36 174 [(pc o5 8)]
 (.iteS ⟨[],[]⟩ (.pick r33 pT (.nt r36)) [8,9,39,40,41,42,43,47,48,52,53,57,58,59,60,61,65,66,69,70,73,74,75,76,77,80] []
 (.ret (.tup [(pi 0),(pi 1)]))
 (.iteS ⟨[],[]⟩ (.pick (.pick (.pick (plt (pc o10 0) (pi 0)) pT (pge (pc o10 0) (pi 5))) pT (plt (pc o10 2) (pi 0))) pT (pge (pc o10 2) (pi 2))) [8,9,58,59,60,61,65,66,69,70,73,74,75,76,77,80] []
 (.ret (.tup [(pi 0),(pi 1)]))
 (.call ⟨[(61,(pne r2 (pi (-1))))],[]⟩ [(61,true)] 63 174 [r2]
 (.iteS ⟨[],[]⟩ (.pick (.pick (.pick r61 (.nt r63) pF) pT (plt r3 (pi 0))) pT (pgt r3 (pi 20000))) [8,9,74,75,76,77,80] []
 (.ret (.tup [(pi 0),(pi 1)]))
 (.call ⟨[],[]⟩ [] 76 175 [(.mk [(pc o10 0),(pc o10 1),(pc o10 2)])]
 (.ite (.pick r76 (peq r2 (pi (-1))) pF)
 (.ret (.tup [(pi 0),(pi 4)]))
 (.next ⟨[],[]⟩)))
 (.next ⟨[],[]⟩)))
 (.next ⟨[],[]⟩))
 (.next ⟨[],[]⟩))))))
 (.call ⟨[],[]⟩ [] 85 176 [(mkA 8 o4),(mkA 15 o5),r2]
 (.ite (pne (.tget r85 1) (pi 0))
 (.ret (.tup [(pi 0),(.tget r85 1)]))
 (.call ⟨[(11,(.tget r85 0))],[]⟩ [] 92 174 [(.tget r85 0)]
 (.ite (.pick (.nt r92) pT (pgt (aF r11 r3) (pi 100000)))
 (.ret (.tup [(pi 0),(pi 3)]))
 (.call ⟨[],[]⟩ [] 106 177 [(mkA 8 o4),(pc o5 10),(aF r11 r3)]
 (.ret (.tup [(.tget afN 0),(.tget afN 1)]))))))))
def UL (b:Nat→PC):PT×List (Shp×PT):=(qH,[])
theorem Ga:cf_tenor_Due.map told=some (UL (aA cf_tenor_Due)):=by kernel_rfl
theorem xF:tree rh=qH:=aj Ga
theorem Lm:cf_tenor_Due=some rh:=ah Ga
noncomputable def cf_realm_Check:Option PC:=av {ctx with fr:=[2,3,4,5,6,7,10,11,12],nh:=[]} Tryz.f75 ((aa aq 75).getD default) [1,9]
noncomputable def lP:PC:=hpc cf_realm_Check
noncomputable def su:Nat→PC:=hbd cf_realm_Check
def HF (b:Nat→PC):PC:=.block 0 [2,38,39] [] (.loop [2,38] [] (b 0))
def eO (b:Nat→PC):PT:=
 (.ite (plt r38 r37)
 (.blockS ⟨[],[]⟩ 1 [2,9,40,41,42,43,44,45] [9]
 (.chk (pix r36 r38)
 (.call ⟨[],[]⟩ [] 44 113 [(pc (.setc N6 0 (pn r36 r38)) 0),(pi 10)]
 (.ite (.nt r44)
 (.ret (pi 1))
 (.next ⟨[],[]⟩))))
 (.next ⟨[(38,(aF r38 (pi 1)))],[]⟩))
 (.exit 0 ⟨[(39,(plt r38 r37))],[]⟩))
def rZ (b:Nat→PC):PT:=
 (.call ⟨[(2,(pi 0))],[(1,(.mk [r0]))]⟩ [] 15 145 [oJ]
 (.call ⟨[(5,(.tget r15 2)),(4,(.tget r15 1)),(3,(.tget r15 0))],[]⟩ [] 21 146 [(pc o1 0),(pi 8),(.con (.clo 147 []))]
 (.ite (pne r21 (pi 0))
 (.ret r21)
 (.call ⟨[],[(1,(mkA 8 o1))]⟩ [] 27 146 [r3,(pi 40),(.clo 148 [(.ref (mkA 8 o1))])]
 (.ite (pne r27 (pi 0))
 (.ret r27)
 (.ite (pgt Cu (pi 20))
 (.ret (pi 6))
 (.brk ⟨[(38,(pi 0)),(37,Cu),(36,(pc o1 2))],[]⟩
(HF b)
 (.call ⟨[],[]⟩ [] 49 146 [r4,(pi 200),(.clo 150 [(.ref o1)])]
 (.ite (pne r49 (pi 0))
 (.ret r49)
 (.call ⟨[],[]⟩ [] 55 146 [r5,(pi 20),(.clo 151 [(.ref o1)])]
 (.ite (pne r55 (pi 0))
 (.ret r55)
 (.call ⟨[],[]⟩ [] 60 153 [(.sub o1 0 8)]
 (.ite (pne r60 (pi 0))
 (.ret r60)
 (.call ⟨[],[]⟩ [] 65 154 [(.sub o1 0 8)]
 (.ret r65)))))))))))))))
def M2 (b:Nat→PC):PT×List (Shp×PT):=(rZ b,[(.lp 0 [2,38,39] [] [2,38] [],eO b)])
theorem sU:cf_realm_Check.map told=some (M2 (aA cf_realm_Check)):=by kernel_rfl
theorem Gz:tree lP=rZ su:=aj sU
theorem ja:round 0 [2,38,39] [] [2,38] [] (su 0)=eO su:=aw sU 0 fun _=>rfl
theorem Gf:cf_realm_Check=some lP:=ah sU
noncomputable def cf_realm_names:Option PC:=av {ctx with fr:=[],nh:=[]} Tryz.f145 ((aa aq 145).getD default) [1,2,3,4,6,16390,20486,24582,21,8,34,10,12298,16394,47]
noncomputable def lC:PC:=hpc cf_realm_names
noncomputable def dh:Nat→PC:=hbd cf_realm_names
def I7 (b:Nat→PC):PC:=.block 0 [2,14,15] [2] (.loop [2,14] [2] (b 0))
def I9 (b:Nat→PC):PC:=.block 2 [3,27,28] [3] (.loop [3,27] [3] (b 1))
def HH (b:Nat→PC):PC:=.block 4 [4,40,41] [4] (.loop [4,40] [4] (b 2))
def iJ (b:Nat→PC):PT:=
 (.ite yP
 (.chk (pix r12 r14)
 (.chk (ple (.llen aea) aX)
 (.next ⟨[(2,pN),(14,(aF r14 (pi 1)))],[(2,aea)]⟩)))
 (.exit 0 ⟨[(15,yP)],[]⟩))
def il (b:Nat→PC):PT:=
 (.ite (plt r27 r26)
 (.chk (pix r25 r27)
 (.chk (ple (.llen aek) aX)
 (.next ⟨[(3,pN),(27,(aF r27 (pi 1)))],[(3,aek)]⟩)))
 (.exit 2 ⟨[(28,(plt r27 r26))],[]⟩))
def iv (b:Nat→PC):PT:=
 (.ite (plt r40 r39)
 (.chk (pix r38 r40)
 (.chk (ple (.llen aeI) aX)
 (.next ⟨[(4,pN),(40,(aF r40 (pi 1)))],[(4,aeI)]⟩)))
 (.exit 4 ⟨[(41,(plt r40 r39))],[]⟩))
def rN (b:Nat→PC):PT:=
 (.brk ⟨[(14,(pi 0)),(13,(.llen Gq)),(12,Gq),(4,pN),(3,pN),(2,pN)],[(4,pL),(3,pL),(2,pL),(1,(.mk [r0]))]⟩
(I7 b)
 (.brk ⟨[(27,(pi 0)),(26,vH),(25,(pc o1 3))],[]⟩
(I9 b)
 (.brk ⟨[(40,(pi 0)),(39,xP),(38,(pc o1 4))],[]⟩
(HH b)
 (.ret (.tup [o2,o3,o4])))))
def Nt (b:Nat→PC):PT×List (Shp×PT):=(rN b,[(.lp 0 [2,14,15] [2] [2,14] [2],iJ b),(.lp 2 [3,27,28] [3] [3,27] [3],il b),(.lp 4 [4,40,41] [4] [4,40] [4],iv b)])
theorem gP:cf_realm_names.map told=some (Nt (aA cf_realm_names)):=by kernel_rfl
theorem GK:tree lC=rN dh:=aj gP
theorem qB:round 0 [2,14,15] [2] [2,14] [2] (dh 0)=iJ dh:=aw gP 0 fun _=>rfl
theorem qz:round 2 [3,27,28] [3] [3,27] [3] (dh 1)=il dh:=aw gP 1 fun _=>rfl
theorem qu:round 4 [4,40,41] [4] [4,40] [4] (dh 2)=iv dh:=aw gP 2 fun _=>rfl
theorem Fy:cf_realm_names=some lC:=ah gP
noncomputable def cf_realm_fits:Option PC:=av {ctx with fr:=[6,7,8],nh:=[]} Tryz.f146 ((aa aq 146).getD default) []
noncomputable def ox:PC:=hpc cf_realm_fits
noncomputable def uZ:Nat→PC:=hbd cf_realm_fits
def Lg (b:Nat→PC):PC:=.block 0 [6,15,16] [] (.loop [6,15] [] (b 0))
def fG (b:Nat→PC):PT:=
 (.ite (plt r15 r14)
 (.blockS ⟨[],[]⟩ 1 [6,7,8,17,18,19,20,21,22,24,25,26,27] []
 (.call ⟨[(7,r15)],[]⟩ [] 20 200 [r0,r15]
 (.ite (pne r20 (pi 0))
 (.ret r20)
 (.callc ⟨[],[]⟩ [] 26 r2 [r7]
 (.ite (.nt r26)
 (.ret (pi 1))
 (.next ⟨[],[]⟩)))))
 (.next ⟨[(15,(aF r15 (pi 1)))],[]⟩))
 (.exit 0 ⟨[(16,(plt r15 r14))],[]⟩))
def uW (b:Nat→PC):PT:=
 (.ite (pgt (.llen r0) r1)
 (.ret (pi 6))
 (.brk ⟨[(15,(pi 0)),(14,(.llen r0)),(6,(pi 0))],[]⟩
(Lg b)
 (.ret (pi 0))))
def QA (b:Nat→PC):PT×List (Shp×PT):=(uW b,[(.lp 0 [6,15,16] [] [6,15] [],fG b)])
theorem uy:cf_realm_fits.map told=some (QA (aA cf_realm_fits)):=by kernel_rfl
theorem IP:tree ox=uW uZ:=aj uy
theorem kD:round 0 [6,15,16] [] [6,15] [] (uZ 0)=fG uZ:=aw uy 0 fun _=>rfl
theorem Hn:cf_realm_fits=some ox:=ah uy
noncomputable def cf_realm_named:Option PC:=av {ctx with fr:=[4],nh:=[]} Tryz.f200 ((aa aq 200).getD default) []
noncomputable def mi:PC:=hpc cf_realm_named
def sP:PT:=
 (.chk (pix r0 r1)
 (.call ⟨[],[]⟩ [] 9 230 [(pn r0 r1)]
 (.ite (.nt r9)
 (.ret (pi 2))
 (.chk (.slok r0 (pi 0) r1)
 (.chk (pix r0 r1)
 (.call ⟨[],[]⟩ [] 18 231 [(.slc r0 (pi 0) r1),(pn r0 r1)]
 (.ite r18
 (.ret (pi 5))
 (.ret (pi 0)))))))))
def N2 (b:Nat→PC):PT×List (Shp×PT):=(sP,[])
theorem y1:cf_realm_named.map told=some (N2 (aA cf_realm_named)):=by kernel_rfl
theorem Gp:tree mi=sP:=aj y1
theorem Fo:cf_realm_named=some mi:=ah y1
noncomputable def cf_realm_isName:Option PC:=av {ctx with fr:=[2,3,4,5],nh:=[]} Tryz.f230 ((aa aq 230).getD default) []
noncomputable def j1:PC:=hpc cf_realm_isName
noncomputable def pP:Nat→PC:=hbd cf_realm_isName
def EX (b:Nat→PC):PC:=.block 0 [2,16,17] [] (.loop [2,16] [] (b 0))
def dR (b:Nat→PC):PT:=
 (.ite (plt r16 r15)
 (.chk Au
 (.ite (.pick (.nt (.pick (.pick (pge mV (.con (.v (.int .u8 97)))) (ple mV (.con (.v (.int .u8 122)))) pF) pT (.pick (pge mV (.con (.v (.int .u8 65)))) (ple mV (.con (.v (.int .u8 90)))) pF))) (.pick (peq r16 (pi 0)) pT (.pick (pne mV (.con (.v (.int .u8 95)))) (.pick (plt mV (.con (.v (.int .u8 48)))) pT (pgt mV (.con (.v (.int .u8 57))))) pF)) pF)
 (.ret pF)
 (.next ⟨[(16,IK)],[]⟩)))
 (.exit 0 ⟨[(17,(plt r16 r15))],[]⟩))
def pQ (b:Nat→PC):PT:=
 (.ite (.pick (.cs .eql r0 (.con (.v (.string ⟨#[]⟩)))) pT (pgt (.slen r0) (pi 20)))
 (.ret pF)
 (.chk (ple (.slen r0) aX)
 (.brk ⟨[(16,(pi 0)),(15,(.llen (.bytes r0))),(14,(.bytes r0)),(2,pF)],[]⟩
(EX b)
 (.ret pT))))
def MJ (b:Nat→PC):PT×List (Shp×PT):=(pQ b,[(.lp 0 [2,16,17] [] [2,16] [],dR b)])
theorem oN:cf_realm_isName.map told=some (MJ (aA cf_realm_isName)):=by kernel_rfl
theorem Eb:tree j1=pQ pP:=aj oN
theorem gN:round 0 [2,16,17] [] [2,16] [] (pP 0)=dR pP:=aw oN 0 fun _=>rfl
theorem C7:cf_realm_isName=some j1:=ah oN
noncomputable def cf_slices_Contains_string:Option PC:=av {ctx with fr:=[4],nh:=[]} Tryz.f231 ((aa aq 231).getD default) []
noncomputable def bK:PC:=hpc cf_slices_Contains_string
def dC:PT:=
 (.call ⟨[],[]⟩ [] 7 253 [r0,r1]
 (.ret (pge r7 (pi 0))))
def tc (b:Nat→PC):PT×List (Shp×PT):=(dC,[])
theorem iW:cf_slices_Contains_string.map told=some (tc (aA cf_slices_Contains_string)):=by kernel_rfl
theorem qn:tree bK=dC:=aj iW
theorem pS:cf_slices_Contains_string=some bK:=ah iW
noncomputable def cf_slices_Index_string:Option PC:=av {ctx with fr:=[4,5],nh:=[]} Tryz.f253 ((aa aq 253).getD default) []
noncomputable def cM:PC:=hpc cf_slices_Index_string
noncomputable def fb:Nat→PC:=hbd cf_slices_Index_string
def uJ (b:Nat→PC):PC:=.block 0 [4,8,9] [] (.loop [4,8] [] (b 0))
def bm (b:Nat→PC):PT:=
 (.ite (plt r8 r7)
 (.chk (pix r0 r8)
 (.ite (.cs .eql r1 (pn r0 r8))
 (.ret r8)
 (.next ⟨[(8,B9)],[]⟩)))
 (.exit 0 ⟨[(9,(plt r8 r7))],[]⟩))
def fh (b:Nat→PC):PT:=
 (.brk ⟨[(8,(pi 0)),(7,(.llen r0)),(4,(pi 0))],[]⟩
(uJ b)
 (.ret (pi (-1))))
def wD (b:Nat→PC):PT×List (Shp×PT):=(fh b,[(.lp 0 [4,8,9] [] [4,8] [],bm b)])
theorem fE:cf_slices_Index_string.map told=some (wD (aA cf_slices_Index_string)):=by kernel_rfl
theorem tg:tree cM=fh fb:=aj fE
theorem cO:round 0 [4,8,9] [] [4,8] [] (fb 0)=bm fb:=aw fE 0 fun _=>rfl
theorem sW:cf_slices_Index_string=some cM:=ah fE
noncomputable def cf_realm_Check_1:Option PC:=av {ctx with fr:=[2],nh:=[]} Tryz.f147 ((aa aq 147).getD default) []
noncomputable def iN:PC:=hpc cf_realm_Check_1
def m9:PT:=
 (.ret pT)
def Io (b:Nat→PC):PT×List (Shp×PT):=(m9,[])
theorem vO:cf_realm_Check_1.map told=some (Io (aA cf_realm_Check_1)):=by kernel_rfl
theorem BD:tree iN=m9:=aj vO
theorem Bm:cf_realm_Check_1=some iN:=ah vO
noncomputable def cf_realm_Check_2:Option PC:=av {ctx with fr:=[3],nh:=[]} Tryz.f148 ((aa aq 148).getD default) []
noncomputable def ij:PC:=hpc cf_realm_Check_2
def nj:PT:=
 (.chk (pix (pc (.deref r1) 1) r0)
 (.call ⟨[],[]⟩ [] 10 149 [(.deref r1),(pn (pc (.deref r1) 1) r0)]
 (.ret r10)))
def Jm (b:Nat→PC):PT×List (Shp×PT):=(nj,[])
theorem vR:cf_realm_Check_2.map told=some (Jm (aA cf_realm_Check_2)):=by kernel_rfl
theorem BW:tree ij=nj:=aj vR
theorem BG:cf_realm_Check_2=some ij:=ah vR
noncomputable def cf_realm_city:Option PC:=av {ctx with fr:=[4,6],nh:=[]} Tryz.f149 ((aa aq 149).getD default) [2,3]
noncomputable def nV:PC:=hpc cf_realm_city
noncomputable def vg:Nat→PC:=hbd cf_realm_city
def Lr (b:Nat→PC):PC:=.block 0 [4,10,11] [] (.loop [4,10] [] (b 0))
def fW (b:Nat→PC):PT:=
 (.ite (plt r10 r9)
 (.chk (pix r8 r10)
 (.chk Ta
 (.chk (.nt (.an (.an (.nt (plt XB (pi 1))) pT) (.nt Ta)))
 (.ite (.pick (plt XB (pi 1)) pT (pgt XB (pi 31)))
 (.ret pF)
 (.next ⟨[(10,(aF r10 (pi 1)))],[]⟩)))))
 (.exit 0 ⟨[(11,(plt r10 r9))],[]⟩))
def uY (b:Nat→PC):PT:=
 (.brk ⟨[(10,(pi 0)),(9,(.llen (pc (.mk [r1]) 4))),(8,(pc (.mk [r1]) 4)),(4,pF)],[(3,(.mk [r1])),(2,(.mk [r0]))]⟩
(Lr b)
 (.call ⟨[(33,(.pick (pgt (.llen (pc o3 4)) (pi 60)) pT (pgt (.llen (pc o3 5)) (pi 200))))],[]⟩ [(33,false)] 39 113 [(pc o3 1),(.llen (pc o2 4))]
 (.call ⟨[(42,(.pick r33 pT (.nt r39)))],[]⟩ [(42,false)] 48 113 [(pc o3 2),(.llen (pc o2 0))]
 (.ite (.pick r42 pT (.nt r48))
 (.ret pF)
 (.call ⟨[],[]⟩ [] 53 201 [(pc o3 3),(pi 0),(pi 6)]
 (.call ⟨[(54,r53)],[]⟩ [(54,true)] 57 201 [(pc o3 4),(pi 101),(pi 1231)]
 (.call ⟨[(59,(.pick r54 r57 pF))],[]⟩ [(59,true)] 62 201 [(pc o3 5),(pi 0),(pi 100000)]
 (.ret (.pick r59 r62 pF)))))))))
def QJ (b:Nat→PC):PT×List (Shp×PT):=(uY b,[(.lp 0 [4,10,11] [] [4,10] [],fW b)])
theorem vh:cf_realm_city.map told=some (QJ (aA cf_realm_city)):=by kernel_rfl
theorem JA:tree nV=uY vg:=aj vh
theorem kj:round 0 [4,10,11] [] [4,10] [] (vg 0)=fW vg:=aw vh 0 fun _=>rfl
theorem JJ:cf_realm_city=some nV:=ah vh
noncomputable def cf_realm_rising:Option PC:=av {ctx with fr:=[6,7,8],nh:=[]} Tryz.f201 ((aa aq 201).getD default) []
noncomputable def j6:PC:=hpc cf_realm_rising
noncomputable def pD:Nat→PC:=hbd cf_realm_rising
def Fg (b:Nat→PC):PC:=.block 0 [6,11,12] [] (.loop [6,11] [] (b 0))
def bh (b:Nat→PC):PT:=
 (.ite (plt r11 r10)
 (.chk (pix r9 r11)
 (.chk (.nt (.an (.an (pgt r11 (pi 0)) (.an (.nt (.pick (plt (pn r9 r11) r1) pT (pgt (pn r9 r11) r2))) pT)) (.nt (pix r0 (aO r11 (pi 1))))))
 (.ite (.pick (.pick (plt (pn r9 r11) r1) pT (pgt (pn r9 r11) r2)) pT (.pick (pgt r11 (pi 0)) (ple (pn r9 r11) (pn r0 (aO r11 (pi 1)))) pF))
 (.ret pF)
 (.next ⟨[(11,(aF r11 (pi 1)))],[]⟩))))
 (.exit 0 ⟨[(12,(plt r11 r10))],[]⟩))
def qg (b:Nat→PC):PT:=
 (.brk ⟨[(11,(pi 0)),(10,(.llen r0)),(9,r0),(6,pF)],[]⟩
(Fg b)
 (.ret pT))
def Mu (b:Nat→PC):PT×List (Shp×PT):=(qg b,[(.lp 0 [6,11,12] [] [6,11] [],bh b)])
theorem qa:cf_realm_rising.map told=some (Mu (aA cf_realm_rising)):=by kernel_rfl
theorem C9:tree j6=qg pD:=aj qa
theorem bt:round 0 [6,11,12] [] [6,11] [] (pD 0)=bh pD:=aw qa 0 fun _=>rfl
theorem Dh:cf_realm_rising=some j6:=ah qa
noncomputable def cf_realm_Check_3:Option PC:=av {ctx with fr:=[3],nh:=[]} Tryz.f150 ((aa aq 150).getD default) []
noncomputable def iw:PC:=hpc cf_realm_Check_3
def ni:PT:=
 (.chk (pix (pc (.deref r1) 3) r0)
 (.call ⟨[],[]⟩ [] 13 113 [(pc (pn (pc (.deref r1) 3) r0) 1),(.llen (pc (.deref r1) 1))]
 (.chk (.nt (.an (.an r13 pT) (.nt (pix (pc (.deref r1) 3) r0))))
 (.call ⟨[(14,r13)],[]⟩ [(14,true)] 24 113 [(pc (pn (pc (.deref r1) 3) r0) 2),(.llen (pc (.deref r1) 2))]
 (.ret (.pick r14 r24 pF))))))
def Il (b:Nat→PC):PT×List (Shp×PT):=(ni,[])
theorem vY:cf_realm_Check_3.map told=some (Il (aA cf_realm_Check_3)):=by kernel_rfl
theorem Bi:tree iw=ni:=aj vY
theorem Bo:cf_realm_Check_3=some iw:=ah vY
noncomputable def cf_realm_Check_4:Option PC:=av {ctx with fr:=[3],nh:=[]} Tryz.f151 ((aa aq 151).getD default) []
noncomputable def iy:PC:=hpc cf_realm_Check_4
def nz:PT:=
 (.chk (pix (pc (.deref r1) 4) r0)
 (.call ⟨[],[]⟩ [] 9 152 [(pn (pc (.deref r1) 4) r0)]
 (.ret r9)))
def IY (b:Nat→PC):PT×List (Shp×PT):=(nz,[])
theorem vt:cf_realm_Check_4.map told=some (IY (aA cf_realm_Check_4)):=by kernel_rfl
theorem Bp:tree iy=nz:=aj vt
theorem BH:cf_realm_Check_4=some iy:=ah vt
noncomputable def cf_realm_order:Option PC:=av {ctx with fr:=[2],nh:=[]} Tryz.f152 ((aa aq 152).getD default) [1,3,4,6,19,8,16392,36]
noncomputable def l8:PC:=hpc cf_realm_order
noncomputable def gJ:Nat→PC:=hbd cf_realm_order
def HG (b:Nat→PC):PC:=.block 0 [2,3,12,13] [3] (.loop [2,3,12] [3] (b 0))
def I0 (b:Nat→PC):PC:=.block 2 [4,29,30] [4] (.loop [4,29] [4] (b 1))
def eM (b:Nat→PC):PT:=
 (.ite (plt r12 r11)
 (.blockS ⟨[],[]⟩ 1 [2,3,6,14,15,17,18,19,20,21,22,23,24] [6,19,3]
 (.chk (pix r10 r12)
 (.chk (ple (.llen (.app o3 (.lst [(pc (.setc Zx 0 wU) 0)]))) aX)
 (.call ⟨[(3,pN)],[(3,(.app o3 (.lst [(pc (.setc Zx 0 wU) 0)])))]⟩ [] 23 113 [(pc (.setc Zx 0 wU) 1),(pi 5)]
 (.ite (.nt r23)
 (.ret pF)
 (.next ⟨[],[]⟩)))))
 (.next ⟨[(12,(aF r12 (pi 1)))],[]⟩))
 (.exit 0 ⟨[(13,(plt r12 r11))],[]⟩))
def iL (b:Nat→PC):PT:=
 (.ite (plt r29 r28)
 (.chk (pix r27 r29)
 (.chk (ple (.llen aeR) aX)
 (.next ⟨[(4,pN),(29,(aF r29 (pi 1)))],[(4,aeR)]⟩)))
 (.exit 2 ⟨[(30,(plt r29 r28))],[]⟩))
def rP (b:Nat→PC):PT:=
 (.brk ⟨[(12,(pi 0)),(11,Ab),(10,Ps),(4,pN),(3,pN),(2,pF)],[(4,pL),(3,pL),(1,(.mk [r0]))]⟩
(HG b)
 (.brk ⟨[(29,(pi 0)),(28,vH),(27,(pc o1 3))],[]⟩
(I0 b)
 (.call ⟨[],[]⟩ [] 40 201 [o3,(pi 0),(pi 21)]
 (.call ⟨[(41,r40)],[]⟩ [(41,true)] 43 201 [o4,(pi 0),(pi 21)]
 (.ret (.pick r41 r43 pF))))))
def O6 (b:Nat→PC):PT×List (Shp×PT):=(rP b,[(.lp 0 [2,3,12,13] [3] [2,3,12] [3],eM b),(.lp 2 [4,29,30] [4] [4,29] [4],iL b)])
theorem lK:cf_realm_order.map told=some (O6 (aA cf_realm_order)):=by kernel_rfl
theorem G1:tree l8=rP gJ:=aj lK
theorem jm:round 0 [2,3,12,13] [3] [2,3,12] [3] (gJ 0)=eM gJ:=aw lK 0 fun _=>rfl
theorem qy:round 2 [4,29,30] [4] [4,29] [4] (gJ 1)=iL gJ:=aw lK 1 fun _=>rfl
theorem Fx:cf_realm_order=some l8:=ah lK
noncomputable def cf_realm_usances:Option PC:=av {ctx with fr:=[2,3],nh:=[]} Tryz.f153 ((aa aq 153).getD default) [1,4,6]
noncomputable def iK:PC:=hpc cf_realm_usances
noncomputable def eL:Nat→PC:=hbd cf_realm_usances
def DR (b:Nat→PC):PC:=.block 2 [2,50,51] [] (.loop [2,50] [] (b 0))
def D4 (b:Nat→PC):PC:=.block 0 [2,14,15] [] (.loop [2,14] [] (b 1))
def bS (b:Nat→PC):PT:=
 (.ite (plt r50 r49)
 (.chk (pix r48 r50)
 (.ite (.pick (peq (pc (.setc z3 0 (pn r48 r50)) 0) (pc o4 0)) (peq (pc (.setc z3 0 (pn r48 r50)) 1) (pc o4 1)) pF)
 (.ret (pi 5))
 (.next ⟨[(50,(aF r50 (pi 1)))],[]⟩)))
 (.exit 2 ⟨[(51,(plt r50 r49))],[]⟩))
def dk (b:Nat→PC):PT:=
 (.ite yP
 (.blockS ⟨[(15,yP)],[]⟩ 1 [2,3,4,16,17,18,19,20,21,22,23,24,25,26,34,35,39,40,44,45,46,47,48,49,50,51] [4]
 (.chk (pix r12 r14)
 (.call ⟨[(3,r14)],[(4,Sy)]⟩ [] 24 113 [(pc Sy 0),sr]
 (.call ⟨[(26,(.nt r24))],[]⟩ [(26,false)] 32 113 [(pc o4 1),sr]
 (.ite (.pick (.pick (.pick r26 pT (.nt r32)) pT (plt (pc o4 2) (pi 1))) pT (pgt (pc o4 2) (pi 20000)))
 (.ret (pi 1))
 (.chk (.slok (pc o1 5) (pi 0) r3)
 (.brk ⟨[(50,(pi 0)),(49,(.llen (.slc (pc o1 5) (pi 0) r3))),(48,(.slc (pc o1 5) (pi 0) r3))],[]⟩
(DR b)
 (.next ⟨[],[]⟩)))))))
 (.next ⟨[(14,(aF r14 (pi 1)))],[]⟩))
 (.exit 0 ⟨[(15,yP)],[]⟩))
def nB (b:Nat→PC):PT:=
 (.ite (pgt (.llen PL) (pi 100))
 (.ret (pi 6))
 (.brk ⟨[(14,(pi 0)),(13,(.llen PL)),(12,PL),(2,(pi 0))],[(1,(.mk [r0]))]⟩
(D4 b)
 (.ret (pi 0))))
def I8 (b:Nat→PC):PT×List (Shp×PT):=(nB b,[(.lp 2 [2,50,51] [] [2,50] [],bS b),(.lp 0 [2,14,15] [] [2,14] [],dk b)])
theorem iP:cf_realm_usances.map told=some (I8 (aA cf_realm_usances)):=by kernel_rfl
theorem BP:tree iK=nB eL:=aj iP
theorem dx:round 2 [2,50,51] [] [2,50] [] (eL 0)=bS eL:=aw iP 0 fun _=>rfl
theorem gg:round 0 [2,14,15] [] [2,14] [] (eL 1)=dk eL:=aw iP 1 fun _=>rfl
theorem Br:cf_realm_usances=some iK:=ah iP
noncomputable def cf_realm_rest:Option PC:=av {ctx with fr:=[2],nh:=[]} Tryz.f154 ((aa aq 154).getD default) [1,4,6]
noncomputable def nM:PC:=hpc cf_realm_rest
noncomputable def jF:Nat→PC:=hbd cf_realm_rest
def MD (b:Nat→PC):PC:=.block 0 [2,14,15] [] (.loop [2,14] [] (b 0))
def Mr (b:Nat→PC):PC:=.block 2 [2,69,70] [] (.loop [2,69] [] (b 1))
def fH (b:Nat→PC):PT:=
 (.ite yP
 (.blockS ⟨[],[]⟩ 1 [2,4,16,17,18,19,20,21,22,23,24,25,33,34,40,41,47,48,54,55,60] [4]
 (.chk (pix r12 r14)
 (.call ⟨[],[(4,(.setc z5 0 (pn r12 r14)))]⟩ [] 23 113 [(pc (.setc z5 0 (pn r12 r14)) 0),JT]
 (.call ⟨[(25,(.nt r23))],[]⟩ [(25,false)] 31 113 [(pc o4 1),JT]
 (.call ⟨[(41,(.pick (.pick r25 pT (.nt r31)) pT (peq (pc o4 0) (pc o4 1))))],[]⟩ [(41,false)] 45 113 [(aO (pc o4 2) (pi 1)),(pi 1073741824)]
 (.call ⟨[(48,(.pick r41 pT (.nt r45)))],[]⟩ [(48,false)] 52 113 [(aO (pc o4 3) (pi 1)),(pi 1073741824)]
 (.call ⟨[(55,(.pick r48 pT (.nt r52)))],[]⟩ [(55,false)] 58 113 [(pc o4 4),(pi 100001)]
 (.ite (.pick r55 pT (.nt r58))
 (.ret (pi 1))
 (.next ⟨[],[]⟩))))))))
 (.next ⟨[(14,(aF r14 (pi 1)))],[]⟩))
 (.exit 0 ⟨[(15,yP)],[]⟩))
def fR (b:Nat→PC):PT:=
 (.ite (plt r69 r68)
 (.blockS ⟨[],[]⟩ 3 [2,6,71,72,73,74,75,76,77,78,79,80,84,85,91,92,96] [6]
 (.chk (pix r67 r69)
 (.call ⟨[],[(6,(.setc z3 0 (pn r67 r69)))]⟩ [] 78 113 [(pc (.setc z3 0 (pn r67 r69)) 0),xP]
 (.ite (.pick (.pick (.pick (.nt r78) pT (plt (pc o6 1) (pi 0))) pT (pgt (pc o6 1) (pc o6 2))) pT (pgt (pc o6 2) (pi 100000)))
 (.ret (pi 1))
 (.next ⟨[],[]⟩))))
 (.next ⟨[(69,(aF r69 (pi 1)))],[]⟩))
 (.exit 2 ⟨[(70,(plt r69 r68))],[]⟩))
def uX (b:Nat→PC):PT:=
 (.ite (pgt (.llen (pc (.mk [r0]) 6)) (pi 100))
 (.ret (pi 6))
 (.brk ⟨[(14,(pi 0)),(13,(.llen (pc (.mk [r0]) 6))),(12,(pc (.mk [r0]) 6)),(2,(pi 0))],[(1,(.mk [r0]))]⟩
(MD b)
 (.ite (pgt DO (pi 20))
 (.ret (pi 6))
 (.brk ⟨[(69,(pi 0)),(68,DO),(67,(pc o1 7))],[]⟩
(Mr b)
 (.ret (pi 0))))))
def Rr (b:Nat→PC):PT×List (Shp×PT):=(uX b,[(.lp 0 [2,14,15] [] [2,14] [],fH b),(.lp 2 [2,69,70] [] [2,69] [],fR b)])
theorem oc:cf_realm_rest.map told=some (Rr (aA cf_realm_rest)):=by kernel_rfl
theorem IS:tree nM=uX jF:=aj oc
theorem ku:round 0 [2,14,15] [] [2,14] [] (jF 0)=fH jF:=aw oc 0 fun _=>rfl
theorem kz:round 2 [2,69,70] [] [2,69] [] (jF 1)=fR jF:=aw oc 1 fun _=>rfl
theorem Je:cf_realm_rest=some nM:=ah oc
noncomputable def cf_tenor_isCity:Option PC:=av {ctx with fr:=[4],nh:=[]} Tryz.f173 ((aa aq 173).getD default) [2]
noncomputable def jT:PC:=hpc cf_tenor_isCity
def pW:PT:=
 (.ret (.pick (pge r1 (pi 0)) (plt r1 (.llen Gq)) pF))
def L4 (b:Nat→PC):PT×List (Shp×PT):=(pW,[])
theorem xO:cf_tenor_isCity.map told=some (L4 (aA cf_tenor_isCity)):=by kernel_rfl
theorem CS:tree jT=pW:=aj xO
theorem Dq:cf_tenor_isCity=some jT:=ah xO
noncomputable def cf_tenor_isDay:Option PC:=av {ctx with fr:=[2],nh:=[]} Tryz.f174 ((aa aq 174).getD default) []
noncomputable def mG:PC:=hpc cf_tenor_isDay
def rA:PT:=
 (.ret (.pick (pge r0 (pi 0)) (ple r0 (pi 100000)) pF))
def OW (b:Nat→PC):PT×List (Shp×PT):=(rA,[])
theorem zz:cf_tenor_isDay.map told=some (OW (aA cf_tenor_isDay)):=by kernel_rfl
theorem F3:tree mG=rA:=aj zz
theorem ER:cf_tenor_isDay=some mG:=ah zz
noncomputable def cf_tenor_Sights:Option PC:=av {ctx with fr:=[2],nh:=[]} Tryz.f175 ((aa aq 175).getD default) [1]
noncomputable def jQ:PC:=hpc cf_tenor_Sights
def qe:PT:=
 (.ret (.pick (peq sO (pi 0)) pT (peq sO (pi 1))))
def K0 (b:Nat→PC):PT×List (Shp×PT):=(qe,[])
theorem ym:cf_tenor_Sights.map told=some (K0 (aA cf_tenor_Sights)):=by kernel_rfl
theorem Ed:tree jQ=qe:=aj ym
theorem DZ:cf_tenor_Sights=some jQ:=ah ym
noncomputable def cf_tenor_base:Option PC:=av {ctx with fr:=[6,7,13,16,24,33,8,9],nh:=[]} Tryz.f176 ((aa aq 176).getD default) [3,4]
noncomputable def od:PC:=hpc cf_tenor_base
def dc:PT:=
 (.blockS ⟨[(12,(pc (.mk [r1]) 5))],[(4,(.mk [r1])),(3,(.mk [r0]))]⟩ 0 [6,7,13,14,16,17,24,25,33,34] []
 (.iteS ⟨[],[]⟩ (peq r12 (pi 0)) [6,7,16,17,24,25,33,34] []
 (.ret (.tup [r2,(pi 0)]))
 (.iteS ⟨[],[]⟩ (peq r12 (pi 1)) [6,7,24,25,33,34] []
 (.call ⟨[],[]⟩ [] 21 215 [r2,(.mk [(pc o4 5),(pc o4 6),(pc o4 7)])]
 (.ret (.tup [(.tget r21 0),(.tget r21 1)])))
 (.iteS ⟨[],[]⟩ (peq r12 (pi 2)) [6,7,33,34] []
 (.call ⟨[],[]⟩ [] 30 215 [(pc o4 8),(.mk [(pc o4 5),(pc o4 6),(pc o4 7)])]
 (.ret (.tup [(.tget r30 0),(.tget r30 1)])))
 (.iteS ⟨[],[]⟩ (peq r12 (pi 4)) [6,7] []
 (.call ⟨[],[]⟩ [] 41 161 [(mkA 8 o3),(pc o4 9),(pc o4 10)]
 (.ret (.tup [(aF (pc o4 8) (.tget r41 0)),(.tget r41 1)])))
 (.next ⟨[],[]⟩)
 (.next ⟨[],[]⟩))
 (.next ⟨[],[]⟩))
 (.next ⟨[],[]⟩))
 (.next ⟨[],[]⟩))
 (.ret (.tup [(pc o4 6),(pi 0)])))
def Ri (b:Nat→PC):PT×List (Shp×PT):=(dc,[])
theorem B0:cf_tenor_base.map told=some (Ri (aA cf_tenor_base)):=by kernel_rfl
theorem df:tree od=dc:=aj B0
theorem Ie:cf_tenor_base=some od:=ah B0
noncomputable def cf_tenor_after:Option PC:=av {ctx with fr:=[4,5],nh:=[]} Tryz.f215 ((aa aq 215).getD default) [3]
noncomputable def mc:PC:=hpc cf_tenor_after
def eI:PT:=
 (.ite (.pick (plt (pc (.mk [r1]) 1) (pi 0)) pT (pgt (pc (.mk [r1]) 1) (pi 20000)))
 (.ret (.tup [(pi 0),(pi 3)]))
 (.iteS ⟨[],[(3,(.mk [r1]))]⟩ (peq (pc (.mk [r1]) 2) (pi 1)) [4,5] []
 (.call ⟨[],[]⟩ [] 20 239 [r0,(pc o3 1)]
 (.ret (.tup [(.tget r20 0),(.tget r20 1)])))
 (.next ⟨[],[]⟩)
 (.ret (.tup [(aF r0 (pc o3 1)),(pi 0)]))))
def Qv (b:Nat→PC):PT×List (Shp×PT):=(eI,[])
theorem zF:cf_tenor_after.map told=some (Qv (aA cf_tenor_after)):=by kernel_rfl
theorem gz:tree mc=eI:=aj zF
theorem EZ:cf_tenor_after=some mc:=ah zF
noncomputable def cf_calendar_AddMonths:Option PC:=av {ctx with fr:=[4,5,6,7,8,9],nh:=[]} Tryz.f239 ((aa aq 239).getD default) []
noncomputable def dq:PC:=hpc cf_calendar_AddMonths
def dt:PT:=
 (.call ⟨[],[]⟩ [] 11 120 [r0]
 (.ite (.pick (.pick (.nt r11) pT (plt r1 (pi (-5000)))) pT (pgt r1 (pi 5000)))
 (.ret (.tup [(pi 0),(pi 3)]))
 (.call ⟨[],[]⟩ [] 23 191 [r0]
 (.chk (pne (pi 12) (pi 0))
 (.call ⟨[(41,(.tget r23 2)),(40,(aF (.ai .rem .i64 ZS (pi 12)) (pi 1))),(39,(.ai .quo .i64 ZS (pi 12)))],[]⟩ [] 44 273 [(.ai .quo .i64 ZS (pi 12)),(aF (.ai .rem .i64 ZS (pi 12)) (pi 1))]
 (.call ⟨[],[]⟩ [] 46 272 [r39,r40,(.mn r41 r44)]
 (.ret (.tup [(.tget r46 0),(.tget r46 1)]))))))))
def yI (b:Nat→PC):PT×List (Shp×PT):=(dt,[])
theorem mW:cf_calendar_AddMonths.map told=some (yI (aA cf_calendar_AddMonths)):=by kernel_rfl
theorem jG:tree dq=dt:=aj mW
theorem uM:cf_calendar_AddMonths=some dq:=ah mW
noncomputable def cf_calendar_valid:Option PC:=av {ctx with fr:=[2],nh:=[]} Tryz.f120 ((aa aq 120).getD default) []
noncomputable def gn:PC:=hpc cf_calendar_valid
def lW:PT:=
 (.ret (.pick (ple (pi 0) r0) (ple r0 (pi 100000)) pF))
def Gg (b:Nat→PC):PT×List (Shp×PT):=(lW,[])
theorem tI:cf_calendar_valid.map told=some (Gg (aA cf_calendar_valid)):=by kernel_rfl
theorem zn:tree gn=lW:=aj tI
theorem y6:cf_calendar_valid=some gn:=ah tI
noncomputable def cf_calendar_civil:Option PC:=av {ctx with fr:=[2,3,4,5,6,7,8,9],nh:=[]} Tryz.f191 ((aa aq 191).getD default) []
noncomputable def gA:PC:=hpc cf_calendar_civil
def l5:PT:=
 (.chk (pne (pi 146097) (pi 0))
 (.chk (pne (pi 1460) (pi 0))
 (.chk (pne (pi 36524) (pi 0))
 (.chk (pne (pi 146096) (pi 0))
 (.chk (pne (pi 365) (pi 0))
 (.chk (pne (pi 4) (pi 0))
 (.chk Ta
 (.chk (pne (pi 153) (pi 0))
 (.chk (pne (pi 5) (pi 0))
 (.ret (.tup [(.pick (plt aeO (pi 3)) (aF abF (pi 1)) abF),aeO,(aF (aO (aO (.ai .rem .i64 (aF r0 (pi 730425)) (pi 146097)) (aO (aF (.ai .mul .i64 (pi 365) Yj) (.ai .quo .i64 Yj (pi 4))) (.ai .quo .i64 Yj (pi 100)))) (.ai .quo .i64 (aF (.ai .mul .i64 (pi 153) adI) (pi 2)) (pi 5))) (pi 1))])))))))))))
def E4 (b:Nat→PC):PT×List (Shp×PT):=(l5,[])
theorem ug:cf_calendar_civil.map told=some (E4 (aA cf_calendar_civil)):=by kernel_rfl
theorem Af:tree gA=l5:=aj ug
theorem Aw:cf_calendar_civil=some gA:=ah ug
noncomputable def cf_calendar_length:Option PC:=av {ctx with fr:=[4],nh:=[]} Tryz.f273 ((aa aq 273).getD default) []
noncomputable def eZ:PC:=hpc cf_calendar_length
def fg:PT:=
 (.ite (peq r1 (pi 12))
 (.ret (pi 31))
 (.call ⟨[],[]⟩ [] 10 284 [r0,(aF r1 (pi 1)),(pi 1)]
 (.call ⟨[],[]⟩ [] 13 284 [r0,r1,(pi 1)]
 (.ret (aO r10 r13)))))
def Dx (b:Nat→PC):PT×List (Shp×PT):=(fg,[])
theorem sG:cf_calendar_length.map told=some (Dx (aA cf_calendar_length)):=by kernel_rfl
theorem yq:tree eZ=fg:=aj sG
theorem yB:cf_calendar_length=some eZ:=ah sG
noncomputable def cf_calendar_number:Option PC:=av {ctx with fr:=[6,0,1],nh:=[]} Tryz.f284 ((aa aq 284).getD default) []
noncomputable def fB:PC:=hpc cf_calendar_number
def fj:PT:=
 (.chk (pne (pi 4) (pi 0))
 (.chk Ta
 (.chk (pne (pi 400) (pi 0))
 (.chk (pne (pi 5) (pi 0))
 (.ret (aO (aO (aF (aF (aF (aO (aF (.ai .mul .i64 (pi 365) Zi) (.ai .quo .i64 Zi (pi 4))) (.ai .quo .i64 Zi (pi 100))) (.ai .quo .i64 Zi (pi 400))) (.ai .quo .i64 (aF (.ai .mul .i64 (pi 153) (aO (.pick (plt r1 (pi 3)) (aF r1 (pi 12)) r1) (pi 3))) (pi 2)) (pi 5))) r2) (pi 1)) (pi 730425)))))))
def DU (b:Nat→PC):PT×List (Shp×PT):=(fj,[])
theorem sS:cf_calendar_number.map told=some (DU (aA cf_calendar_number)):=by kernel_rfl
theorem mO:tree fB=fj:=aj sS
theorem yx:cf_calendar_number=some fB:=ah sS
noncomputable def cf_calendar_Day:Option PC:=av {ctx with fr:=[6,7,8],nh:=[]} Tryz.f272 ((aa aq 272).getD default) []
noncomputable def kh:PC:=hpc cf_calendar_Day
def dI:PT:=
 (.call ⟨[(28,r2),(27,(.pick (.pick (.pick (.pick (plt r0 (pi 2000)) pT (pgt r0 (pi 2300))) pT (plt r1 (pi 1))) pT (pgt r1 (pi 12))) pT (plt r2 (pi 1))))],[]⟩ [(27,false)] 31 273 [r0,r1]
 (.ite (.pick r27 pT (pgt r28 r31))
 (.ret (.tup [(pi 0),(pi 3)]))
 (.call ⟨[],[]⟩ [] 37 284 [r0,r1,r2]
 (.call ⟨[(8,r37)],[]⟩ [] 39 120 [r37]
 (.ite (.nt r39)
 (.ret (.tup [(pi 0),(pi 3)]))
 (.ret (.tup [r8,(pi 0)])))))))
def K7 (b:Nat→PC):PT×List (Shp×PT):=(dI,[])
theorem ye:cf_calendar_Day.map told=some (K7 (aA cf_calendar_Day)):=by kernel_rfl
theorem fe:tree kh=dI:=aj ye
theorem Df:cf_calendar_Day=some kh:=ah ye
noncomputable def cf_realm_Usance:Option PC:=av {ctx with fr:=[6,7],nh:=[]} Tryz.f161 ((aa aq 161).getD default) [3,9]
noncomputable def jO:PC:=hpc cf_realm_Usance
noncomputable def oY:Nat→PC:=hbd cf_realm_Usance
def Gi (b:Nat→PC):PC:=.block 0 [6,7,13,14] [] (.loop [6,7,13] [] (b 0))
def dM (b:Nat→PC):PT:=
 (.ite (plt r13 r12)
 (.chk (pix r11 r13)
 (.ite (.pick (peq (pc (.setc z3 0 (pn r11 r13)) 0) r1) (peq (pc (.setc z3 0 (pn r11 r13)) 1) r2) pF)
 (.ret (.tup [(pc (.setc z3 0 (pn r11 r13)) 2),(pi 0)]))
 (.next ⟨[(13,(aF r13 (pi 1)))],[]⟩)))
 (.exit 0 ⟨[(14,(plt r13 r12))],[]⟩))
def pY (b:Nat→PC):PT:=
 (.brk ⟨[(13,(pi 0)),(12,(.llen PL)),(11,PL),(7,(pi 0)),(6,(pi 0))],[]⟩
(Gi b)
 (.ret (.tup [(pi 0),(pi 4)])))
def L1 (b:Nat→PC):PT×List (Shp×PT):=(pY b,[(.lp 0 [6,7,13,14] [] [6,7,13] [],dM b)])
theorem pI:cf_realm_Usance.map told=some (L1 (aA cf_realm_Usance)):=by kernel_rfl
theorem Dt:tree jO=pY oY:=aj pI
theorem gM:round 0 [6,7,13,14] [] [6,7,13] [] (oY 0)=dM oY:=aw pI 0 fun _=>rfl
theorem DD:cf_realm_Usance=some jO:=ah pI
noncomputable def cf_tenor_settle:Option PC:=av {ctx with fr:=[6,7,8,2,9,10],nh:=[]} Tryz.f177 ((aa aq 177).getD default) [3]
noncomputable def kc:PC:=hpc cf_tenor_settle
noncomputable def pB:Nat→PC:=hbd cf_tenor_settle
def Hg (b:Nat→PC):PC:=.block 0 [] [] (.loop [2,6,7] [] (b 0))
def lE (b:Nat→PC):PT:=
 (.blockS ⟨[],[]⟩ 1 [2,6,7,9,10,14,15,16,17,18,19,20,21,22,23,24,25,26,27,28,29,30,31,32,34] []
 (.call ⟨[],[]⟩ [] 17 216 [(mkA 8 o3),r8,r2]
 (.chk (pix (pc o3 1) r1)
 (.call ⟨[(2,r17)],[]⟩ [] 25 217 [(pn (pc o3 1) r1),r17]
 (.ite (pne (.tget r25 1) (pi 0))
 (.ret (.tup [(pi 0),(pi 3)]))
 (.ite (peq (.tget r25 0) r2)
 (.ret (.tup [r2,(pi 0)]))
 (.next ⟨[(2,(.tget r25 0))],[]⟩))))))
 (.next ⟨[],[]⟩))
def pH (b:Nat→PC):PT:=
 (.call ⟨[(7,(pi 0)),(6,(pi 0))],[(3,(.mk [r0]))]⟩ [] 13 53 [oJ,r1]
 (.brk ⟨[(8,r13)],[]⟩
(Hg b)
 (.next ⟨[],[]⟩)))
def MC (b:Nat→PC):PT×List (Shp×PT):=(pH b,[(.lp 0 [] [] [2,6,7] [],lE b)])
theorem pz:cf_tenor_settle.map told=some (MC (aA cf_tenor_settle)):=by kernel_rfl
theorem DB:tree kc=pH pB:=aj pz
theorem Ap:round 0 [] [] [2,6,7] [] (pB 0)=lE pB:=aw pz 0 fun _=>rfl
theorem Eu:cf_tenor_settle=some kc:=ah pz
noncomputable def cf_tenor_skip:Option PC:=av {ctx with fr:=[6,7,2],nh:=[]} Tryz.f216 ((aa aq 216).getD default) [3,9]
noncomputable def nS:PC:=hpc cf_tenor_skip
noncomputable def jz:Nat→PC:=hbd cf_tenor_skip
def L7 (b:Nat→PC):PC:=.block 2 [2,7,14,15] [] (.loop [2,7,14] [] (b 0))
def ML (b:Nat→PC):PC:=.block 0 [2,7,10] [] (.loop [2,7] [] (b 1))
def dJ (b:Nat→PC):PT:=
 (.ite yP
 (.chk (pix r12 r14)
 (.next ⟨[(2,(.pick aeD (aF (pc Sy 2) (pi 1)) r2)),(7,(.pick aeD pT r7)),(14,(aF r14 (pi 1)))],[]⟩))
 (.exit 2 ⟨[(15,yP)],[]⟩))
def j2 (b:Nat→PC):PT:=
 (.ite r7
 (.blockS ⟨[(10,r7)],[]⟩ 1 [2,7,11,12,13,14,15] []
 (.brk ⟨[(14,(pi 0)),(13,(.llen (pc o3 7))),(12,(pc o3 7)),(7,pF)],[]⟩
(L7 b)
 (.next ⟨[],[]⟩))
 (.next ⟨[],[]⟩))
 (.exit 0 ⟨[(10,r7)],[]⟩))
def uN (b:Nat→PC):PT:=
 (.brk ⟨[(7,pT)],[(3,(.mk [r0]))]⟩
(ML b)
 (.ret r2))
def Q8 (b:Nat→PC):PT×List (Shp×PT):=(uN b,[(.lp 2 [2,7,14,15] [] [2,7,14] [],dJ b),(.lp 0 [2,7,10] [] [2,7] [],j2 b)])
theorem nP:cf_tenor_skip.map told=some (Q8 (aA cf_tenor_skip)):=by kernel_rfl
theorem Ja:tree nS=uN jz:=aj nP
theorem fq:round 2 [2,7,14,15] [] [2,7,14] [] (jz 0)=dJ jz:=aw nP 0 fun _=>rfl
theorem rT:round 0 [2,7,10] [] [2,7] [] (jz 1)=j2 jz:=aw nP 1 fun _=>rfl
theorem Ih:cf_tenor_skip=some nS:=ah nP
noncomputable def cf_calendar_Next:Option PC:=av {ctx with fr:=[6],nh:=[]} Tryz.f217 ((aa aq 217).getD default) [2,4,5]
noncomputable def ia:PC:=hpc cf_calendar_Next
noncomputable def nC:Nat→PC:=hbd cf_calendar_Next
def C1 (b:Nat→PC):PC:=.each r18 [16] [4,5] (some (.tup [(pc o4 0),(pc o5 0)])) (b 0)
def kC (b:Nat→PC):PT:=
 (.exit 1000000007 ⟨[],[(4,(.setc o4 0 r16)),(5,(.setc o5 0 (pi 0)))]⟩)
def nr (b:Nat→PC):PT:=
 (.call ⟨[],[(5,N6),(4,N6),(2,(.mk [r0]))]⟩ [] 8 120 [r1]
 (.ite (.nt r8)
 (.ret (.tup [(pc (.setc o4 0 (pi 0)) 0),(pc (.setc o5 0 (pi 3)) 0)]))
 (.call ⟨[],[]⟩ [] 15 240 [(mkA 6 o2),r1,(.mn (aF r1 (pi 400)) (pi 100000))]
 (.blockS ⟨[],[]⟩ 0 [] [4,5]
 (.callc ⟨[],[]⟩ [] 18 r15 []
 (.brk ⟨[],[]⟩
(C1 b)
 (.next ⟨[],[]⟩)))
 (.ret (.tup [(pc (.setc o4 0 (pi 0)) 0),(pc (.setc o5 0 (pi 3)) 0)]))))))
def Iw (b:Nat→PC):PT×List (Shp×PT):=(nr b,[(.ea [4,5],kC b)])
theorem ns:cf_calendar_Next.map told=some (Iw (aA cf_calendar_Next)):=by kernel_rfl
theorem BL:tree ia=nr nC:=aj ns
theorem yz:sN [4,5] (nC 0)=kC nC:=TP ns 0 fun _=>rfl
theorem BE:cf_calendar_Next=some ia:=ah ns
noncomputable def cf_calendar_days:Option PC:=av {ctx with fr:=[6],nh:=[]} Tryz.f240 ((aa aq 240).getD default) [3,4,5]
noncomputable def iM:PC:=hpc cf_calendar_days
def nE:PT:=
 (.ret (.clo 274 [(.ref (pc (.mk [r1]) 0)),(.ref (pc (.mk [r2]) 0)),(.ref (mkA 6 (.mk [r0])))]))
def Jj (b:Nat→PC):PT×List (Shp×PT):=(nE,[])
theorem vx:cf_calendar_days.map told=some (Jj (aA cf_calendar_days)):=by kernel_rfl
theorem BN:tree iM=nE:=aj vx
theorem BM:cf_calendar_days=some iM:=ah vx
noncomputable def cf_calendar_days_1:Option PC:=WK {ctx with fr:=[5],nh:=[]} Tryz.f274 [(.ref I),(.ref I),(.ref Y0)] [I] 1000 [1000]
noncomputable def di:PC:=hpc cf_calendar_days_1
noncomputable def kq:Nat→PC:=hbd cf_calendar_days_1
def Ac (b:Nat→PC):PC:=.block 0 [5,7,8,9] [1000] (.loop [5] [1000] (b 0))
def dL (b:Nat→PC):PT:=
 (.ite (ple r5 (.deref r2))
 (.blockS ⟨[],[]⟩ 1 [12,13,14,15,20] [1000]
 (.call ⟨[],[]⟩ [] 14 121 [(.deref r3),r5]
 (.call ⟨[(15,r14)],[(1000,aei)]⟩ [(15,true)] 18 1000000009 [aei]
 (.ite (.pick r15 (.nt r18) pF)
 (.ret (.o 1000))
 (.next ⟨[],[]⟩))))
 (.next ⟨[(5,Ep)],[]⟩))
 (.exit 0 ⟨[(7,r5),(8,(.deref r2)),(9,(ple r5 (.deref r2)))],[]⟩))
def kr (b:Nat→PC):PT:=
 (.brk ⟨[(5,(.deref r1))],[]⟩
(Ac b)
 (.ret (.o 1000)))
def Dl (b:Nat→PC):PT×List (Shp×PT):=(kr b,[(.lp 0 [5,7,8,9] [1000] [5] [1000],dL b)])
theorem kN:cf_calendar_days_1.map told=some (Dl (aA cf_calendar_days_1)):=by kernel_rfl
theorem yJ:tree di=kr kq:=aj kN
theorem lb:round 0 [5,7,8,9] [1000] [5] [1000] (kq 0)=dL kq:=aw kN 0 fun _=>rfl
theorem yD:cf_calendar_days_1=some di:=ah kN
theorem Bj:∀yv,WK {ctx with fr:=[5],nh:=[],yv:=yv} Tryz.f274 [(.ref I),(.ref I),(.ref Y0)] [I] 1000 [1000]=some di:=fun yv=>(show _=cf_calendar_days_1 by kernel_rfl).trans yD
noncomputable def cf_calendar_open:Option PC:=av {ctx with fr:=[4,5,6,7],nh:=[]} Tryz.f121 ((aa aq 121).getD default) [2]
noncomputable def ib:PC:=hpc cf_calendar_open
def ny:PT:=
 (.call ⟨[],[(2,(.mk [r0]))]⟩ [] 10 191 [r1]
 (.chk (pne (pi 7) (pi 0))
 (.call ⟨[(7,(.tget r10 2)),(6,(.tget r10 1))],[]⟩ [] 19 116 [(pc o2 3),(.ai .rem .i64 (aF r1 (pi 5)) (pi 7))]
 (.call ⟨[(21,(.nt r19))],[]⟩ [(21,true)] 28 116 [(pc o2 4),(aF (.ai .mul .i64 (pi 100) r6) r7)]
 (.call ⟨[(31,(.pick r21 (.nt r28) pF))],[]⟩ [(31,true)] 35 116 [(pc o2 5),r1]
 (.ret (.pick r31 (.nt r35) pF)))))))
def I2 (b:Nat→PC):PT×List (Shp×PT):=(ny,[])
theorem vQ:cf_calendar_open.map told=some (I2 (aA cf_calendar_open)):=by kernel_rfl
theorem Bn:tree ib=ny:=aj vQ
theorem BS:cf_calendar_open=some ib:=ah vQ
noncomputable def cf_bind_view_effect:Option PC:=av {ctx with fr:=[],nh:=[]} Tryz.f62 ((aa aq 62).getD default) [2,4,5,6]
noncomputable def eB:PC:=hpc cf_bind_view_effect
def jc:PT:=
 (.chk (pix (pc (.mk [r0]) 25) r1)
 (.call ⟨[],[(6,(.setc VN 0 (.mk [r1,(pc V0 0),(pc V0 2),(pi 0),(pi 0),(pi 0),(.pick (pne (pc V0 0) (pi 1)) (peq (.ai .and .i64 (pc V0 8) (pi 1)) (pi 0)) pF)]))),(5,V0),(4,VN),(2,(.mk [r0]))]⟩ [] 33 131 [abh,r1,(pc (.mk [r0]) 9)]
 (.iteS ⟨[],[]⟩ (.nt r33) [] [6]
 (.call ⟨[(36,(pc o2 29))],[]⟩ [] 39 132 [(mkA 31 o2),(pi 1),r1]
 (.call ⟨[],[]⟩ [] 42 132 [(mkA 31 o2),(pi 2),r1]
 (.call ⟨[],[]⟩ [] 44 65 [(.lst [r36,r39,r42])]
 (.next ⟨[],[(6,(.setc o6 3 r44))]⟩))))
 (.next ⟨[],[]⟩)
 (.call ⟨[],[]⟩ [] 49 133 [(mkA 31 o2),r1]
 (.ret (mkA 7 (.setc o4 0 (mkA 7 (.pick (.pick (peq (pc o5 0) (pi 1)) pT (peq (pc o5 0) (pi 4))) (.setc acO 5 (.mn (pc acO 5) (pc o5 5))) acO)))))))))
def Bt (b:Nat→PC):PT×List (Shp×PT):=(jc,[])
theorem qp:cf_bind_view_effect.map told=some (Bt (aA cf_bind_view_effect)):=by kernel_rfl
theorem wh:tree eB=jc:=aj qp
theorem wF:cf_bind_view_effect=some eB:=ah qp
noncomputable def cf_title_Struck:Option PC:=av {ctx with fr:=[6],nh:=[]} Tryz.f131 ((aa aq 131).getD default) [3]
noncomputable def jR:PC:=hpc cf_title_Struck
def pf:PT:=
 (.call ⟨[(16,(.pick (pge r1 (pi 0)) (plt r1 (.llen AN)) pF))],[]⟩ [(16,true)] 19 196 [(mkA 19 (.mk [r0])),r2]
 (.ret (.pick r16 (.look r19 r1 pF) pF)))
def MA (b:Nat→PC):PT×List (Shp×PT):=(pf,[])
theorem xH:cf_title_Struck.map told=some (MA (aA cf_title_Struck)):=by kernel_rfl
theorem Ds:tree jR=pf:=aj xH
theorem DE:cf_title_Struck=some jR:=ah xH
noncomputable def cf_title_struck:Option PC:=av {ctx with fr:=[4],nh:=[]} Tryz.f196 ((aa aq 196).getD default) [2,5,7]
noncomputable def j7:PC:=hpc cf_title_struck
noncomputable def pg:Nat→PC:=hbd cf_title_struck
def F4 (b:Nat→PC):PC:=.block 0 [12,13] [5] (.loop [12] [5] (b 0))
def dK (b:Nat→PC):PT:=
 (.ite (plt r12 r11)
 (.chk (pix r10 r12)
 (.ite (.pick (peq (pc (.setc z9 0 wU) 0) (pi 7)) (ple (pc (.setc z9 0 wU) 6) r1) pF)
 (.chk (plt (.mlen o5) aX)
 (.next ⟨[(12,(aF r12 (pi 1)))],[(5,(.put o5 (pc (.setc z9 0 wU) 4) pT))]⟩))
 (.next ⟨[(12,(aF r12 (pi 1)))],[]⟩)))
 (.exit 0 ⟨[(13,(plt r12 r11))],[]⟩))
def pK (b:Nat→PC):PT:=
 (.brk ⟨[(12,(pi 0)),(11,(.llen (pc (.mk [r0]) 17))),(10,(pc (.mk [r0]) 17)),(5,pN)],[(5,(.con (.map [])))]⟩
(F4 b)
 (.ret o5))
def Lz (b:Nat→PC):PT×List (Shp×PT):=(pK b,[(.lp 0 [12,13] [5] [12] [5],dK b)])
theorem p6:cf_title_struck.map told=some (Lz (aA cf_title_struck)):=by kernel_rfl
theorem Dm:tree j7=pK pg:=aj p6
theorem gF:round 0 [12,13] [5] [12] [5] (pg 0)=dK pg:=aw p6 0 fun _=>rfl
theorem ED:cf_title_struck=some j7:=ah p6
noncomputable def cf_bind_view_says:Option PC:=av {ctx with fr:=[6],nh:=[]} Tryz.f132 ((aa aq 132).getD default) [3,7]
noncomputable def gq:PC:=hpc cf_bind_view_says
def lh:PT:=
 (.call ⟨[],[]⟩ [] 23 36 [oJ,(pc (.mk [r0]) 8),r1,(mkA 24 (.setc aeq 0 (.mk [abh,r2,r2,(pi (-1)),(pc (.mk [r0]) 30),(pc (.mk [r0]) 9)])))]
 (.call ⟨[],[]⟩ [] 24 41 [r23]
 (.ret r24)))
def EP (b:Nat→PC):PT×List (Shp×PT):=(lh,[])
theorem ua:cf_bind_view_says.map told=some (EP (aA cf_bind_view_says)):=by kernel_rfl
theorem zo:tree gq=lh:=aj ua
theorem y3:cf_bind_view_says=some gq:=ah ua
noncomputable def cf_bind_join:Option PC:=av {ctx with fr:=[2,3,5,12,15],nh:=[]} Tryz.f65 ((aa aq 65).getD default) []
noncomputable def qD:PC:=hpc cf_bind_join
noncomputable def w6:Nat→PC:=hbd cf_bind_join
def Px (b:Nat→PC):PC:=.block 0 [2,3,8,9] [] (.loop [2,3,8] [] (b 0))
def hG (b:Nat→PC):PT:=
 (.ite (plt r8 r7)
 (.chk (pix r6 r8)
 (.ite (peq (pn r6 r8) (pi 0))
 (.ret (pi 0))
 (.next ⟨[(3,(.pick (peq (pn r6 r8) (pi 2)) (pi 2) r3)),(8,B9)],[]⟩)))
 (.exit 0 ⟨[(9,(plt r8 r7))],[]⟩))
def wI (b:Nat→PC):PT:=
 (.brk ⟨[(8,(pi 0)),(7,(.llen r0)),(6,r0),(3,(pi 1)),(2,(pi 0))],[]⟩
(Px b)
 (.ret r3))
def U0 (b:Nat→PC):PT×List (Shp×PT):=(wI b,[(.lp 0 [2,3,8,9] [] [2,3,8] [],hG b)])
theorem xp:cf_bind_join.map told=some (U0 (aA cf_bind_join)):=by kernel_rfl
theorem L3:tree qD=wI w6:=aj xp
theorem lx:round 0 [2,3,8,9] [] [2,3,8] [] (w6 0)=hG w6:=aw xp 0 fun _=>rfl
theorem LY:cf_bind_join=some qD:=ah xp
noncomputable def cf_bind_view_text:Option PC:=av {ctx with fr:=[4,5,6,7,10,50,54],nh:=[]} Tryz.f133 ((aa aq 133).getD default) [2,9]
noncomputable def gr:PC:=hpc cf_bind_view_text
noncomputable def lT:Nat→PC:=hbd cf_bind_view_text
def BK (b:Nat→PC):PC:=.block 0 [7,23,24] [] (.loop [7,23] [] (b 0))
def cI (b:Nat→PC):PT:=
 (.ite (plt r23 r22)
 (.chk (pix r21 r23)
 (.next ⟨[(7,(.pick r7 pT (pgt (pc (.setc z2 0 (pn r21 r23)) 0) r1))),(23,(aF r23 (pi 1)))],[]⟩))
 (.exit 0 ⟨[(24,(plt r23 r22))],[]⟩))
def lU (b:Nat→PC):PT:=
 (.call ⟨[(5,(pi 0))],[(2,(.mk [r0]))]⟩ [] 14 197 [abh,r1]
 (.brk ⟨[(23,(pi 0)),(22,(.llen (pc o2 26))),(21,(pc o2 26)),(7,pF),(6,(.llen (pc o2 26))),(5,r14)],[]⟩
(BK b)
 (.ite (.nt r7)
 (.ret (.tup [(pi 0),r5]))
 (.chk (pix (pc o2 26) (aO r6 (pi 1)))
 (.call ⟨[(10,(pc (pn (pc o2 26) (aO r6 (pi 1))) 1))],[]⟩ [] 48 132 [(mkA 31 o2),(pi 4),r1]
 (.ite (peq r48 (pi 1))
 (.ret (.tup [r48,r10]))
 (.ite (peq r48 (pi 2))
 (.ret (.tup [r48,(.mn r5 r10)]))
 (.ret (.tup [r48,r5])))))))))
def Gs (b:Nat→PC):PT×List (Shp×PT):=(lU b,[(.lp 0 [7,23,24] [] [7,23] [],cI b)])
theorem lZ:cf_bind_view_text.map told=some (Gs (aA cf_bind_view_text)):=by kernel_rfl
theorem z8:tree gr=lU lT:=aj lZ
theorem fl:round 0 [7,23,24] [] [7,23] [] (lT 0)=cI lT:=aw lZ 0 fun _=>rfl
theorem zZ:cf_bind_view_text=some gr:=ah lZ
noncomputable def cf_paper_SumAt:Option PC:=av {ctx with fr:=[4,5],nh:=[]} Tryz.f197 ((aa aq 197).getD default) [2,7]
noncomputable def lj:PC:=hpc cf_paper_SumAt
noncomputable def rW:Nat→PC:=hbd cf_paper_SumAt
def Jl (b:Nat→PC):PC:=.block 0 [5,14,15] [] (.loop [5,14] [] (b 0))
def iQ (b:Nat→PC):PT:=
 (.ite yP
 (.chk (pix r12 r14)
 (.next ⟨[(5,(.pick (ple (pc (.setc z2 0 (pn r12 r14)) 0) r1) (pc (.setc z2 0 (pn r12 r14)) 1) r5)),(14,(aF r14 (pi 1)))],[]⟩))
 (.exit 0 ⟨[(15,yP)],[]⟩))
def rJ (b:Nat→PC):PT:=
 (.brk ⟨[(14,(pi 0)),(13,(.llen (pc (.mk [r0]) 16))),(12,(pc (.mk [r0]) 16)),(5,(pc (.mk [r0]) 3))],[]⟩
(Jl b)
 (.ret r5))
def Nz (b:Nat→PC):PT×List (Shp×PT):=(rJ b,[(.lp 0 [5,14,15] [] [5,14] [],iQ b)])
theorem rV:cf_paper_SumAt.map told=some (Nz (aA cf_paper_SumAt)):=by kernel_rfl
theorem F5:tree lj=rJ rW:=aj rV
theorem qq:round 0 [5,14,15] [] [5,14] [] (rW 0)=iQ rW:=aw rV 0 fun _=>rfl
theorem Fw:cf_paper_SumAt=some lj:=ah rV
noncomputable def cf_bind_Effects:Option PC:=av {ctx with fr:=[8,11],nh:=[]} Tryz.f20 ((aa aq 20).getD default) [4,6,9,10,28]
noncomputable def j3:PC:=hpc cf_bind_Effects
noncomputable def pj:Nat→PC:=hbd cf_bind_Effects
def GZ (b:Nat→PC):PC:=.block 0 [10,21,22] [10] (.loop [10,21] [10] (b 0))
def gy (b:Nat→PC):PT:=
 (.ite (plt r21 r20)
 (.blockS ⟨[],[]⟩ 1 [10,11,23,25,26,27,28,29] [10,28]
 (.call ⟨[],[]⟩ [] 27 62 [(mkA 31 o9),r21]
 (.chk (ple (.llen (.app o10 (.lst [r27]))) aX)
 (.next ⟨[(10,pN)],[(10,(.app o10 (.lst [r27])))]⟩)))
 (.next ⟨[(21,(aF r21 (pi 1)))],[]⟩))
 (.exit 0 ⟨[(22,(plt r21 r20))],[]⟩))
def pU (b:Nat→PC):PT:=
 (.call ⟨[],[]⟩ [] 16 61 [oJ,r1,(mkA 19 (.mk [r2])),r3]
 (.brk ⟨[(21,(pi 0)),(20,(.llen (pc (.setc acq 0 r16) 25))),(10,pN)],[(10,pL),(9,(.setc acq 0 r16))]⟩
(GZ b)
 (.ret o10)))
def Md (b:Nat→PC):PT×List (Shp×PT):=(pU b,[(.lp 0 [10,21,22] [10] [10,21] [10],gy b)])
theorem qo:cf_bind_Effects.map told=some (Md (aA cf_bind_Effects)):=by kernel_rfl
theorem D1:tree j3=pU pj:=aj qo
theorem oG:round 0 [10,21,22] [10] [10,21] [10] (pj 0)=gy pj:=aw qo 0 fun _=>rfl
theorem Ee:cf_bind_Effects=some j3:=ah qo
noncomputable def cf_r23_Same:Option PC:=av {ctx with fr:=[4,5],nh:=[]} Tryz.f19 ((aa aq 19).getD default) []
noncomputable def uc:PC:=hpc cf_r23_Same
noncomputable def zK:Nat→PC:=hbd cf_r23_Same
def RV (b:Nat→PC):PC:=.block 0 [4,5,11,12,13,14] [] (.loop [4,5] [] (b 0))
def ju (b:Nat→PC):PT:=
 (.ite (plt r5 (.llen r0))
 (.chk (pix r0 r5)
 (.chk (pix r1 r5)
 (.ite (.nt (.an (peq (pc (pn r0 r5) 0) (pc (pn r1 r5) 0)) (.an (peq (pc (pn r0 r5) 1) (pc (pn r1 r5) 1)) (.an (peq (pc (pn r0 r5) 2) (pc (pn r1 r5) 2)) (.an (peq (pc (pn r0 r5) 3) (pc (pn r1 r5) 3)) (.an (peq (pc (pn r0 r5) 4) (pc (pn r1 r5) 4)) (.an (peq (pc (pn r0 r5) 5) (pc (pn r1 r5) 5)) (.an (.cb .eql (pc (pn r0 r5) 6) (pc (pn r1 r5) 6)) pT))))))))
 (.ret pF)
 (.next ⟨[(5,Ep)],[]⟩))))
 (.exit 0 ⟨[(11,r5),(12,r0),(13,(.llen r0)),(14,(plt r5 (.llen r0)))],[]⟩))
def Ao (b:Nat→PC):PT:=
 (.ite (pne (.llen r0) (.llen r1))
 (.ret pF)
 (.brk ⟨[(5,(pi 0)),(4,pF)],[]⟩
(RV b)
 (.ret pT)))
def VK (b:Nat→PC):PT×List (Shp×PT):=(Ao b,[(.lp 0 [4,5,11,12,13,14] [] [4,5] [],ju b)])
theorem Av:cf_r23_Same.map told=some (VK (aA cf_r23_Same)):=by kernel_rfl
theorem Ng:tree uc=Ao zK:=aj Av
theorem m8:round 0 [4,5,11,12,13,14] [] [4,5] [] (zK 0)=ju zK:=aw Av 0 fun _=>rfl
theorem N4:cf_r23_Same=some uc:=ah Av
noncomputable def cf_bind_And:Option PC:=av {ctx with fr:=[4],nh:=[]} Tryz.f22 ((aa aq 22).getD default) []
noncomputable def tw:PC:=hpc cf_bind_And
def zb:PT:=
 (.call ⟨[],[]⟩ [] 8 65 [(.lst [r0,r1])]
 (.ret r8))
def VM (b:Nat→PC):PT×List (Shp×PT):=(zb,[])
theorem Kc:cf_bind_And.map told=some (VM (aA cf_bind_And)):=by kernel_rfl
theorem OS:tree tw=zb:=aj Kc
theorem OV:cf_bind_And=some tw:=ah Kc
noncomputable def cf_l23_few:Option PC:=av {ctx with fr:=[4],nh:=[]} Tryz.f16 ((aa aq 16).getD default) [2,3]
noncomputable def xC:PC:=hpc cf_l23_few
def EC:PT:=
 (.call ⟨[],[(2,(.mk [r0]))]⟩ [] 7 59 [oJ,(mkA 19 (.mk [r1]))]
 (.call ⟨[(8,r7)],[]⟩ [(8,true)] 10 60 [(mkA 8 o2)]
 (.ret (.pick r8 (peq r10 (pi 0)) pF))))
def YR (b:Nat→PC):PT×List (Shp×PT):=(EC,[])
theorem NF:cf_l23_few.map told=some (YR (aA cf_l23_few)):=by kernel_rfl
theorem Rf:tree xC=EC:=aj NF
theorem Rd:cf_l23_few=some xC:=ah NF
noncomputable def cf_r21_Few:Option PC:=av {ctx with fr:=[4,5],nh:=[]} Tryz.f59 ((aa aq 59).getD default) [2,3]
noncomputable def xu:PC:=hpc cf_r21_Few
noncomputable def De:Nat→PC:=hbd cf_r21_Few
def Uy (b:Nat→PC):PC:=.block 0 [4,5,14,15,16,17,18] [] (.loop [4,5] [] (b 0))
def ml (b:Nat→PC):PT:=
 (.ite (plt r5 (.llen (pc o2 4)))
 (.blockS ⟨[],[]⟩ 1 [4,21,22,23,24,25,26,27] []
 (.chk (pix (pc o2 4) r5)
 (.call ⟨[],[]⟩ [] 26 125 [(pn (pc o2 4) r5)]
 (.ite (.nt r26)
 (.ret pF)
 (.next ⟨[],[]⟩))))
 (.next ⟨[(5,Ep)],[]⟩))
 (.exit 0 ⟨[(14,r5),(15,pN),(16,(pc o2 4)),(17,(.llen (pc o2 4))),(18,(plt r5 (.llen (pc o2 4))))],[]⟩))
def CX (b:Nat→PC):PT:=
 (.call ⟨[(4,pF)],[(3,(.mk [r1])),(2,(.mk [r0]))]⟩ [] 7 123 [oJ]
 (.call ⟨[(9,(.nt r7))],[]⟩ [(9,false)] 11 124 [(mkA 19 o3)]
 (.ite (.pick r9 pT (.nt r11))
 (.ret pF)
 (.brk ⟨[(5,(pi 0))],[]⟩
(Uy b)
 (.ret pT)))))
def YB (b:Nat→PC):PT×List (Shp×PT):=(CX b,[(.lp 0 [4,5,14,15,16,17,18] [] [4,5] [],ml b)])
theorem En:cf_r21_Few.map told=some (YB (aA cf_r21_Few)):=by kernel_rfl
theorem Q3:tree xu=CX De:=aj En
theorem oR:round 0 [4,5,14,15,16,17,18] [] [4,5] [] (De 0)=ml De:=aw En 0 fun _=>rfl
theorem Rq:cf_r21_Few=some xu:=ah En
noncomputable def cf_r09_Few:Option PC:=av {ctx with fr:=[2,3,4],nh:=[]} Tryz.f123 ((aa aq 123).getD default) [1]
noncomputable def xn:PC:=hpc cf_r09_Few
noncomputable def rU:Nat→PC:=hbd cf_r09_Few
def Un (b:Nat→PC):PC:=.block 0 [2,3,5,6,7,8,9,10,13] [] (.loop [2,3] [] (b 0))
def UB (b:Nat→PC):PC:=.block 2 [2,4,44,45,46,47,48,49,52] [] (.loop [2,4] [] (b 1))
def eY (b:Nat→PC):PT:=
 (.ite (.pick (plt r3 sr) (plt r3 (pi 50)) pF)
 (.chk (pix (pc o1 1) r3)
 (.chk (.nt (.an (.an (.nt (pgt (.llen (pc (pn (pc o1 1) r3) 4)) (pi 70))) pT) (.nt (pix (pc o1 1) r3))))
 (.chk (.nt (.an (.an (.nt ad8) pT) (.nt (pix (pc o1 1) r3))))
 (.ite (.pick ad8 pT (pgt (.llen (pc (pn (pc o1 1) r3) 3)) (pi 8)))
 (.ret pF)
 (.next ⟨[(3,KP)],[]⟩)))))
 (.exit 0 ⟨[(5,r3),(6,pN),(7,(pc o1 1)),(8,sr),(9,(plt r3 sr)),(10,(plt r3 sr)),(13,(.pick (plt r3 sr) (plt r3 (pi 50)) pF))],[]⟩))
def iz (b:Nat→PC):PT:=
 (.ite (.pick (plt r4 xP) (plt r4 (pi 50)) pF)
 (.chk (pix (pc o1 4) r4)
 (.chk (.nt (.an (.an (.nt (pgt (.llen (pc Py 2)) (pi 40))) pT) (.nt (pix (pc o1 4) r4))))
 (.ite (.pick (pgt (.llen (pc Py 2)) (pi 40)) pT (pgt (.llen (pc Py 3)) (pi 40)))
 (.ret pF)
 (.next ⟨[(4,(aF r4 (pi 1)))],[]⟩))))
 (.exit 2 ⟨[(44,r4),(45,pN),(46,(pc o1 4)),(47,xP),(48,(plt r4 xP)),(49,(plt r4 xP)),(52,(.pick (plt r4 xP) (plt r4 (pi 50)) pF))],[]⟩))
def Es (b:Nat→PC):PT:=
 (.brk ⟨[(3,(pi 0)),(2,pF)],[(1,(.mk [r0]))]⟩
(Un b)
 (.brk ⟨[(4,(pi 0))],[]⟩
(UB b)
 (.ret (.pick (.pick (.pick (.pick (.pick (.pick (.pick (plt JT (pi 50)) (plt sr (pi 50)) pF) (plt Cu (pi 50)) pF) (plt vH (pi 210)) pF) (plt xP (pi 50)) pF) (plt H6 (pi 110)) pF) (plt (.llen (pc o1 6)) (pi 110)) pF) (plt DO (pi 50)) pF))))
def Yk (b:Nat→PC):PT×List (Shp×PT):=(Es b,[(.lp 0 [2,3,5,6,7,8,9,10,13] [] [2,3] [],eY b),(.lp 2 [2,4,44,45,46,47,48,49,52] [] [2,4] [],iz b)])
theorem wH:cf_r09_Few.map told=some (Yk (aA cf_r09_Few)):=by kernel_rfl
theorem QF:tree xn=Es rU:=aj wH
theorem fK:round 0 [2,3,5,6,7,8,9,10,13] [] [2,3] [] (rU 0)=eY rU:=aw wH 0 fun _=>rfl
theorem j4:round 2 [2,4,44,45,46,47,48,49,52] [] [2,4] [] (rU 1)=iz rU:=aw wH 1 fun _=>rfl
theorem Q4:cf_r09_Few=some xn:=ah wH
noncomputable def cf_r14_Few:Option PC:=av {ctx with fr:=[2],nh:=[]} Tryz.f124 ((aa aq 124).getD default) [1]
noncomputable def wO:PC:=hpc cf_r14_Few
def Dn:PT:=
 (.ret (.pick (.pick (.pick (ple (.llen AN) (pi 50)) (ple (.llen (pc (.mk [r0]) 16)) (pi 10)) pF) (ple (.llen (pc (.mk [r0]) 17)) (pi 110)) pF) (ple (.llen HZ) (pi 220)) pF))
def Xu (b:Nat→PC):PT×List (Shp×PT):=(Dn,[])
theorem Qd:cf_r14_Few.map told=some (Xu (aA cf_r14_Few)):=by kernel_rfl
theorem Qy:tree wO=Dn:=aj Qd
theorem QY:cf_r14_Few=some wO:=ah Qd
noncomputable def cf_r18_Few:Option PC:=av {ctx with fr:=[2,3],nh:=[]} Tryz.f125 ((aa aq 125).getD default) [1]
noncomputable def xy:PC:=hpc cf_r18_Few
noncomputable def Db:Nat→PC:=hbd cf_r18_Few
def TD (b:Nat→PC):PC:=.block 0 [2,3,14,15,16,17,18] [] (.loop [2,3] [] (b 0))
def mw (b:Nat→PC):PT:=
 (.ite (plt r3 vH)
 (.blockS ⟨[],[]⟩ 1 [2,21,22,23,24,25,26,27,28] []
 (.chk (pix (pc o1 3) r3)
 (.call ⟨[],[]⟩ [] 27 192 [(.sub (pn (pc o1 3) r3) 1 3)]
 (.ite (.nt r27)
 (.ret pF)
 (.next ⟨[],[]⟩))))
 (.next ⟨[(3,KP)],[]⟩))
 (.exit 0 ⟨[(14,r3),(15,pN),(16,(pc o1 3)),(17,vH),(18,(plt r3 vH))],[]⟩))
def CZ (b:Nat→PC):PT:=
 (.ite (.pick (pgt (.llen (pc (.mk [r0]) 3)) (pi 60)) pT (pgt Ab (pi 60)))
 (.ret pF)
 (.brk ⟨[(3,(pi 0)),(2,pF)],[(1,(.mk [r0]))]⟩
(TD b)
 (.ret pT)))
def YE (b:Nat→PC):PT×List (Shp×PT):=(CZ b,[(.lp 0 [2,3,14,15,16,17,18] [] [2,3] [],mw b)])
theorem C6:cf_r18_Few.map told=some (YE (aA cf_r18_Few)):=by kernel_rfl
theorem QM:tree xy=CZ Db:=aj C6
theorem p9:round 0 [2,3,14,15,16,17,18] [] [2,3] [] (Db 0)=mw Db:=aw C6 0 fun _=>rfl
theorem RU:cf_r18_Few=some xy:=ah C6
noncomputable def cf_r15_Few:Option PC:=av {ctx with fr:=[2],nh:=[]} Tryz.f192 ((aa aq 192).getD default) [1]
noncomputable def xq:PC:=hpc cf_r15_Few
def D2:PT:=
 (.call ⟨[],[]⟩ [] 4 226 [(.mk [sO,Gq,Ps]),(pi 100),(pi 20)]
 (.ret (pge r4 (pi 0))))
def Yc (b:Nat→PC):PT×List (Shp×PT):=(D2,[])
theorem OQ:cf_r15_Few.map told=some (Yc (aA cf_r15_Few)):=by kernel_rfl
theorem RQ:tree xq=D2:=aj OQ
theorem RJ:cf_r15_Few=some xq:=ah OQ
noncomputable def cf_r15_size:Option PC:=av {ctx with fr:=[6,1,7],nh:=[]} Tryz.f226 ((aa aq 226).getD default) [3]
noncomputable def tN:PC:=hpc cf_r15_size
noncomputable def yL:Nat→PC:=hbd cf_r15_size
def Re (b:Nat→PC):PC:=.block 0 [1,7,12,13,14,15,16,17,20] [] (.loop [1,7] [] (b 0))
def jB (b:Nat→PC):PT:=
 (.ite (.pick (plt r7 ya) (pge r1 (pi 0)) pF)
 (.blockS ⟨[],[]⟩ 1 [1,23,24,25,26,27,28,29,30,31] []
 (.chk (pix (pc o3 2) r7)
 (.call ⟨[],[]⟩ [] 31 226 [(pn (pc o3 2) r7),r1,Dr]
 (.next ⟨[(1,r31)],[]⟩)))
 (.next ⟨[(7,(aF r7 (pi 1)))],[]⟩))
 (.exit 0 ⟨[(12,r7),(13,pN),(14,(pc o3 2)),(15,ya),(16,(plt r7 ya)),(17,(plt r7 ya)),(20,(.pick (plt r7 ya) (pge r1 (pi 0)) pF))],[]⟩))
def tY (b:Nat→PC):PT:=
 (.ite (plt r2 (pi 1))
 (.ret (pi (-1)))
 (.brk ⟨[(7,(pi 0)),(1,(aO r1 (pi 1)))],[(3,(.mk [r0]))]⟩
(Re b)
 (.ret r1)))
def VO (b:Nat→PC):PT×List (Shp×PT):=(tY b,[(.lp 0 [1,7,12,13,14,15,16,17,20] [] [1,7] [],jB b)])
theorem An:cf_r15_size.map told=some (VO (aA cf_r15_size)):=by kernel_rfl
theorem AI:tree tN=tY yL:=aj An
theorem nq:round 0 [1,7,12,13,14,15,16,17,20] [] [1,7] [] (yL 0)=jB yL:=aw An 0 fun _=>rfl
theorem Ph:cf_r15_size=some tN:=ah An
noncomputable def cf_r09_Check:Option PC:=av {ctx with fr:=[2,3],nh:=[]} Tryz.f60 ((aa aq 60).getD default) [1]
noncomputable def qE:PC:=hpc cf_r09_Check
def wL:PT:=
 (.call ⟨[],[(1,(.mk [r0]))]⟩ [] 5 126 [oJ]
 (.iteS ⟨[(3,r5)],[]⟩ FZ [3] []
 (.call ⟨[],[]⟩ [] 9 127 [(mkA 8 o1)]
 (.next ⟨[(3,r9)],[]⟩))
 (.next ⟨[],[]⟩)
 (.iteS ⟨[],[]⟩ (peq r3 (pi 0)) [3] []
 (.call ⟨[],[]⟩ [] 13 128 [(mkA 8 o1)]
 (.next ⟨[(3,r13)],[]⟩))
 (.next ⟨[],[]⟩)
 (.iteS ⟨[],[]⟩ (peq r3 (pi 0)) [3] []
 (.call ⟨[],[]⟩ [] 17 129 [(mkA 8 o1)]
 (.next ⟨[(3,r17)],[]⟩))
 (.next ⟨[],[]⟩)
 (.iteS ⟨[],[]⟩ (peq r3 (pi 0)) [3] []
 (.call ⟨[],[]⟩ [] 21 130 [(mkA 8 o1)]
 (.next ⟨[(3,r21)],[]⟩))
 (.next ⟨[],[]⟩)
 (.ret r3))))))
def Tv (b:Nat→PC):PT×List (Shp×PT):=(wL,[])
theorem Hf:cf_r09_Check.map told=some (Tv (aA cf_r09_Check)):=by kernel_rfl
theorem L2:tree qE=wL:=aj Hf
theorem Li:cf_r09_Check=some qE:=ah Hf
noncomputable def cf_r09_cities:Option PC:=av {ctx with fr:=[2,3,4,6,7],nh:=[]} Tryz.f126 ((aa aq 126).getD default) [1,5,44]
noncomputable def nG:PC:=hpc cf_r09_cities
noncomputable def jx:Nat→PC:=hbd cf_r09_cities
def LP (b:Nat→PC):PC:=.block 0 [2,3,12,13,14,15,16] [] (.loop [2,3] [] (b 0))
def L8 (b:Nat→PC):PC:=.block 2 [2,5,6,30,31,32,33,34] [5] (.loop [2,5,6] [5] (b 1))
def fO (b:Nat→PC):PT:=
 (.ite (plt r3 JT)
 (.blockS ⟨[],[]⟩ 1 [2,4,19,20,21,22,23,24] []
 (.call ⟨[],[]⟩ [] 22 193 [(pc o1 0),r3]
 (.ite (pne r22 (pi 0))
 (.ret r22)
 (.next ⟨[],[]⟩)))
 (.next ⟨[(3,KP)],[]⟩))
 (.exit 0 ⟨[(12,r3),(13,pN),(14,(pc o1 0)),(15,JT),(16,(plt r3 JT))],[]⟩))
def fU (b:Nat→PC):PT:=
 (.ite (plt r6 sr)
 (.blockS ⟨[],[]⟩ 3 [2,5,7,38,39,40,41,42,43,44,45,46,47,48,49,50,52,53,54,55,56,57,58,59] [44,5]
 (.chk (pix (pc o1 1) r6)
 (.chk (ple (.llen XE) aX)
 (.call ⟨[(5,pN)],[(5,XE)]⟩ [] 48 193 [XE,r6]
 (.ite (pne r48 (pi 0))
 (.ret r48)
 (.chk (pix (pc o1 1) r6)
 (.call ⟨[],[]⟩ [] 58 194 [(mkA 8 o1),(pn (pc o1 1) r6)]
 (.ite (.nt r58)
 (.ret (pi 1))
 (.next ⟨[],[]⟩))))))))
 (.next ⟨[(6,(aF r6 (pi 1)))],[]⟩))
 (.exit 2 ⟨[(30,r6),(31,pN),(32,(pc o1 1)),(33,sr),(34,(plt r6 sr))],[]⟩))
def uH (b:Nat→PC):PT:=
 (.ite (pgt (.llen sO) (pi 8))
 (.ret (pi 6))
 (.brk ⟨[(3,(pi 0)),(2,(pi 0))],[(1,(.mk [r0]))]⟩
(LP b)
 (.ite (pgt sr (pi 40))
 (.ret (pi 6))
 (.brk ⟨[(6,(pi 0)),(5,pN)],[(5,pL)]⟩
(L8 b)
 (.ret (pi 0))))))
def Rh (b:Nat→PC):PT×List (Shp×PT):=(uH b,[(.lp 0 [2,3,12,13,14,15,16] [] [2,3] [],fO b),(.lp 2 [2,5,6,30,31,32,33,34] [5] [2,5,6] [5],fU b)])
theorem nI:cf_r09_cities.map told=some (Rh (aA cf_r09_cities)):=by kernel_rfl
theorem Jz:tree nG=uH jx:=aj nI
theorem ky:round 0 [2,3,12,13,14,15,16] [] [2,3] [] (jx 0)=fO jx:=aw nI 0 fun _=>rfl
theorem kE:round 2 [2,5,6,30,31,32,33,34] [5] [2,5,6] [5] (jx 1)=fU jx:=aw nI 1 fun _=>rfl
theorem Ib:cf_r09_cities=some nG:=ah nI
noncomputable def cf_r09_named:Option PC:=av {ctx with fr:=[4],nh:=[]} Tryz.f193 ((aa aq 193).getD default) []
noncomputable def qN:PC:=hpc cf_r09_named
def wX:PT:=
 (.chk (pix r0 r1)
 (.call ⟨[],[]⟩ [] 9 227 [(pn r0 r1)]
 (.ite (.nt r9)
 (.ret (pi 2))
 (.chk (pix r0 r1)
 (.call ⟨[],[]⟩ [] 17 228 [r0,r1,(pn r0 r1)]
 (.ite r17
 (.ret (pi 5))
 (.ret (pi 0))))))))
def TK (b:Nat→PC):PT×List (Shp×PT):=(wX,[])
theorem EK:cf_r09_named.map told=some (TK (aA cf_r09_named)):=by kernel_rfl
theorem Lf:tree qN=wX:=aj EK
theorem Lj:cf_r09_named=some qN:=ah EK
noncomputable def cf_r09_Name:Option PC:=av {ctx with fr:=[2,3,4],nh:=[]} Tryz.f227 ((aa aq 227).getD default) []
noncomputable def tF:PC:=hpc cf_r09_Name
noncomputable def za:Nat→PC:=hbd cf_r09_Name
def Rv (b:Nat→PC):PC:=.block 0 [2,3,13,14,15,16] [] (.loop [2,3] [] (b 0))
def jK (b:Nat→PC):PT:=
 (.ite (plt r3 (.slen r0))
 (.blockS ⟨[],[]⟩ 1 [2,4,19,20,21,22,23,34,35,36,37,38,39,40,47] []
 (.chk (.sok r0 r3)
 (.chk (.nt (.an (.an (.nt ac4) pT) (.nt (.sok r0 r3))))
 (.chk (.nt (.an (.an (ple (.con (.v (.int .u8 48))) (.sidx r0 r3)) (.an (.nt ac4) pT)) (.nt (.sok r0 r3))))
 (.call ⟨[(4,(.pick ac4 pT (.pick (ple (.con (.v (.int .u8 48))) (.sidx r0 r3)) (ple (.sidx r0 r3) (.con (.v (.int .u8 57)))) pF)))],[]⟩ [] 38 252 [(.sidx r0 r3)]
 (.ite (.pick (.nt r38) (.pick (peq r3 (pi 0)) pT (.nt r4)) pF)
 (.ret pF)
 (.next ⟨[],[]⟩))))))
 (.next ⟨[(3,KP)],[]⟩))
 (.exit 0 ⟨[(13,r3),(14,r0),(15,(.slen r0)),(16,(plt r3 (.slen r0)))],[]⟩))
def zi (b:Nat→PC):PT:=
 (.ite (.pick (plt (.slen r0) (pi 1)) pT (pgt (.slen r0) (pi 20)))
 (.ret pF)
 (.brk ⟨[(3,(pi 0)),(2,pF)],[]⟩
(Rv b)
 (.ret pT)))
def WL (b:Nat→PC):PT×List (Shp×PT):=(zi b,[(.lp 0 [2,3,13,14,15,16] [] [2,3] [],jK b)])
theorem Ax:cf_r09_Name.map told=some (WL (aA cf_r09_Name)):=by kernel_rfl
theorem ON:tree tF=zi za:=aj Ax
theorem np:round 0 [2,3,13,14,15,16] [] [2,3] [] (za 0)=jK za:=aw Ax 0 fun _=>rfl
theorem N0:cf_r09_Name=some tF:=ah Ax
noncomputable def cf_r09_Letter:Option PC:=av {ctx with fr:=[2],nh:=[]} Tryz.f252 ((aa aq 252).getD default) []
noncomputable def nO:PC:=hpc cf_r09_Letter
def uC:PT:=
 (.ret (.pick (.pick (ple (.con (.v (.int .u8 97))) r0) (ple r0 (.con (.v (.int .u8 122)))) pF) pT (.pick (ple (.con (.v (.int .u8 65))) r0) (ple r0 (.con (.v (.int .u8 90)))) pF)))
def Rp (b:Nat→PC):PT×List (Shp×PT):=(uC,[])
theorem CP:cf_r09_Letter.map told=some (Rp (aA cf_r09_Letter)):=by kernel_rfl
theorem IQ:tree nO=uC:=aj CP
theorem H2:cf_r09_Letter=some nO:=ah CP
noncomputable def cf_r09_Before:Option PC:=av {ctx with fr:=[6,7],nh:=[]} Tryz.f228 ((aa aq 228).getD default) []
noncomputable def og:PC:=hpc cf_r09_Before
noncomputable def ux:Nat→PC:=hbd cf_r09_Before
def Lo (b:Nat→PC):PC:=.block 0 [6,7,8,9,10,11,16] [] (.loop [6,7] [] (b 0))
def fQ (b:Nat→PC):PT:=
 (.ite (.pick (plt r7 r1) (plt r7 (.llen r0)) pF)
 (.chk (pix r0 r7)
 (.ite (.cs .eql (pn r0 r7) r2)
 (.ret pT)
 (.next ⟨[(7,(aF r7 (pi 1)))],[]⟩)))
 (.exit 0 ⟨[(8,r7),(9,r1),(10,(plt r7 r1)),(11,(plt r7 r1)),(16,(.pick (plt r7 r1) (plt r7 (.llen r0)) pF))],[]⟩))
def uR (b:Nat→PC):PT:=
 (.brk ⟨[(7,(pi 0)),(6,pF)],[]⟩
(Lo b)
 (.ret pF))
def RR (b:Nat→PC):PT×List (Shp×PT):=(uR b,[(.lp 0 [6,7,8,9,10,11,16] [] [6,7] [],fQ b)])
theorem vj:cf_r09_Before.map told=some (RR (aA cf_r09_Before)):=by kernel_rfl
theorem IG:tree og=uR ux:=aj vj
theorem kM:round 0 [6,7,8,9,10,11,16] [] [6,7] [] (ux 0)=fQ ux:=aw vj 0 fun _=>rfl
theorem Ht:cf_r09_Before=some og:=ah vj
end Rm
