/-
  The functions of this seat, compiled (1).
-/
import Derived.Test.YtehiffddpebpkaaGreatDoorKAK
import Derived.KernelRfl
set_option linter.unusedVariables false
set_option maxRecDepth 100000
namespace Rm
open Go Go.Proofs Cx
noncomputable def cf_l23_BindAlone:Option PC:=av {ctx with fr:=[12,13,15,16,18,20],nh:=[]} Tryz.f4 ((aa aq 4).getD default) [6,8,14,77838,53,78,17,19]
noncomputable def wh:PC:=hpc cf_l23_BindAlone
def ES (b:Nat→PC):PC:=.block 0 [15,34,35,36,37] [14,77838] (.loop [15] [14,77838] (b 0))
def EI (b:Nat→PC):PC:=.block 2 [16,56,57,58,59,60] [14,77838] (.loop [16] [14,77838] (b 1))
def Ec (b:Nat→PC):PT:=
 (.ite (plt r15 (.llen r5))
 (.chk (pix r5 r15)
 (.ite (pne (pc (pn r5 r15) 1) r3)
 (.chk (ple (.llen (.app (.o 77838) (.lst [(pn r5 r15)]))) aZ)
 (.next ⟨[(15,(aF r15 (pi 1)))],[(14,(.setc o14 18 pN)),(77838,(.app (.o 77838) (.lst [(pn r5 r15)])))]⟩))
 (.next ⟨[(15,(aF r15 (pi 1)))],[]⟩)))
 (.exit 0 ⟨[(34,r15),(35,r5),(36,(.llen r5)),(37,(plt r15 (.llen r5)))],[]⟩))
def Eu (b:Nat→PC):PT:=
 (.ite (plt r16 (.llen (pc o8 18)))
 (.chk (pix (pc o8 18) r16)
 (.ite (peq (pc (pn (pc o8 18) r16) 1) r3)
 (.chk (ple (.llen (.app (.o 77838) (.lst [(pn (pc o8 18) r16)]))) aZ)
 (.next ⟨[(16,Il)],[(14,(.setc o14 18 pN)),(77838,(.app (.o 77838) (.lst [(pn (pc o8 18) r16)])))]⟩))
 (.next ⟨[(16,Il)],[]⟩)))
 (.exit 2 ⟨[(56,r16),(57,pN),(58,(pc o8 18)),(59,(.llen (pc o8 18))),(60,(plt r16 (.llen (pc o8 18))))],[]⟩))
def HG (b:Nat→PC):PT:=
 (.call ⟨[],[(8,(.mk [r2])),(6,(.mk [r0]))]⟩ [] 21 15 []
 (.call ⟨[(13,r21)],[]⟩ [] 24 16 [(mkA 8 o6),(mkA 19 o8)]
 (.ite (.pick (.nt r24) pT (pgt (.llen r5) (pi 100)))
 (.ret r13)
 (.brk ⟨[(15,(pi 0))],[(77838,pL),(14,(.setc (.setc Ed 0 (mkA 19 o8)) 18 pL))]⟩
(ES b)
 (.brk ⟨[(16,(pi 0))],[]⟩
(EI b)
 (.call ⟨[],[]⟩ [] 87 17 [(mkA 8 o6),r1,(mkA 19 o8),r3,r4]
 (.call ⟨[(18,(.tget r87 1))],[(17,(.setc XL 0 (.tget r87 0)))]⟩ [] 96 17 [(mkA 8 o6),r1,(.mk [(pc o14 0),(pc o14 1),(pc o14 2),(pc o14 3),(pc o14 4),(pc o14 5),(pc o14 6),(pc o14 7),(pc o14 8),(pc o14 9),(pc o14 10),(pc o14 11),(pc o14 12),(pc o14 13),(pc o14 14),(pc o14 15),(pc o14 16),(pc o14 17),(.o 77838)]),r3,r4]
 (.ret (.pick (.pick r13 (.an (peq (pc (mkA 7 o17) 0) (pc N1 0)) (.an (peq (pc (mkA 7 o17) 1) (pc N1 1)) (.an (peq (pc (mkA 7 o17) 2) (pc N1 2)) (.an (peq (pc (mkA 7 o17) 3) (pc N1 3)) (.an (peq (pc (mkA 7 o17) 4) (pc N1 4)) (.an (peq (pc (mkA 7 o17) 5) (pc N1 5)) (.an (.cb .eql (pc (mkA 7 o17) 6) (pc N1 6)) pT))))))) pF) (.cb .eql r18 (.tget r96 1)) pF)))))))))
def IE (b:Nat→PC):PT×List (Shp×PT):=(HG b,[(.lp 0 [15,34,35,36,37] [14,77838] [15] [14,77838],Ec b),(.lp 2 [16,56,57,58,59,60] [14,77838] [16] [14,77838],Eu b)])
theorem JY:cf_l23_BindAlone.map told=some (IE (aA cf_l23_BindAlone)):=by kernel_rfl
theorem BJ:cf_l23_BindAlone=some wh:=ah JY
noncomputable def cf_l23_small:Option PC:=av {ctx with fr:=[0,3,5,7],nh:=[]} Tryz.f15 ((aa aq 15).getD default) [1,2,4]
noncomputable def rf:PC:=hpc cf_l23_small
def xz:PT:=
 (.call ⟨[],[]⟩ [] 9 58 []
 (.call ⟨[(3,(.lst [(.mk [(pi 0),(pi 0),(pi 0),(pi 1),(pi 0),(pi 500),pT]),(.mk [(pi 1),(pi 1),(pi 1),(pi 2),(pi 0),(pi 400),pF]),(.mk [(pi 2),(pi 2),(pi 0),(pi 2),(pi 0),(pi 900),pT])]))],[(2,(.setc Ed 0 (.tget r9 1))),(1,afa)]⟩ [] 19 17 [(mkA 8 afa),(pi 0),(mkA 19 (.setc Ed 0 (.tget r9 1))),(pi 2),(pi 5)]
 (.call ⟨[(5,(.tget r19 1))],[(4,(.setc XL 0 (.tget r19 0)))]⟩ [] 25 17 [(mkA 8 o1),(pi 0),(mkA 19 o2),(pi 1),(pi 2)]
 (.call ⟨[(7,(.tget r25 1))],[]⟩ [] 30 20 [(mkA 8 o1),(pi 0),(mkA 19 o2),(pi 5)]
 (.call ⟨[],[]⟩ [] 32 19 [r30,r3]
 (.call ⟨[(33,r32)],[]⟩ [(33,true)] 36 20 [(mkA 8 o1),(pi 0),(mkA 19 o2),(pi 2)]
 (.chk (.nt (.an (.an r33 pT) (.nt (.slok r3 (pi 0) (pi 1)))))
 (.call ⟨[],[]⟩ [(33,true)] 39 19 [r36,(.slc r3 (pi 0) (pi 1))]
 (.chk (.nt (.an (.an (.pick r33 r39 pF) pT) (.nt (pix r3 (pi 2)))))
 (.call ⟨[(55,(.pick (.pick (.pick (.pick r33 r39 pF) (.an (peq (pc (mkA 7 o4) 0) (pc Ew 0)) (.an (peq (pc (mkA 7 o4) 1) (pc Ew 1)) (.an (peq (pc (mkA 7 o4) 2) (pc Ew 2)) (.an (peq (pc (mkA 7 o4) 3) (pc Ew 3)) (.an (peq (pc (mkA 7 o4) 4) (pc Ew 4)) (.an (peq (pc (mkA 7 o4) 5) (pc Ew 5)) (.an (.cb .eql (pc (mkA 7 o4) 6) (pc Ew 6)) pT))))))) pF) r5 pF) (.nt r7) pF))],[]⟩ [(55,true)] 56 22 [(pi 1),(pi 2)]
 (.call ⟨[(59,(.pick r55 (peq r56 (pi 2)) pF))],[]⟩ [(59,true)] 60 22 [(pi 2),(pi 0)]
 (.call ⟨[(63,(.pick r59 (peq r60 (pi 0)) pF))],[]⟩ [(63,true)] 64 22 [(pi 1),(pi 1)]
 (.ret (.pick r63 (peq r64 (pi 1)) pF))))))))))))))
def UL (b:Nat→PC):PT×List (Shp×PT):=(xz,[])
theorem E9:cf_l23_small.map told=some (UL (aA cf_l23_small)):=by kernel_rfl
theorem MB:tree rf=xz:=aj E9
theorem Lw:cf_l23_small=some rf:=ah E9
noncomputable def cf_l23_example:Option PC:=av {ctx with fr:=[],nh:=[]} Tryz.f58 ((aa aq 58).getD default) [0,1,2,12290,16386,16,3,24579,28675,32771,4,65540,69636,73732,77828]
noncomputable def lE:PC:=hpc cf_l23_example
theorem GK:cf_l23_example=some lE:=acf (by kernel_rfl)
noncomputable def cf_l23_variable:Option PC:=av {ctx with fr:=[],nh:=[]} Tryz.f122 ((aa aq 122).getD default) [2,12290]
noncomputable def j9:PC:=hpc cf_l23_variable
def pO:PT:=
 (.ret (.mk [(pc (.setc qO 0 (.mk [(pi 2),r0,pL])) 0),(pc (.setc qO 0 (.mk [(pi 2),r0,pL])) 1),pL]))
def LU (b:Nat→PC):PT×List (Shp×PT):=(pO,[])
theorem yH:cf_l23_variable.map told=some (LU (aA cf_l23_variable)):=by kernel_rfl
theorem DE:tree j9=pO:=aj yH
theorem Ez:cf_l23_variable=some j9:=ah yH
noncomputable def cf_bind_Effect:Option PC:=av {ctx with fr:=[11],nh:=[]} Tryz.f17 ((aa aq 17).getD default) [5,7,10,12]
noncomputable def mC:PC:=hpc cf_bind_Effect
def rY:PT:=
 (.call ⟨[],[(10,XL)]⟩ [] 17 61 [oP,r1,(mkA 19 (.mk [r2])),r4]
 (.ite (.pick (plt r3 (pi 0)) pT (pge r3 (.llen (pc (.setc acR 0 r17) 25))))
 (.ret (.tup [(mkA 7 (.setc o10 0 (.mk [(pi 0),(pi 0),(pi 0),(pi 0),(pi 0),(pi 0),pF]))),pF]))
 (.call ⟨[],[]⟩ [] 31 62 [(mkA 31 (.setc acR 0 r17)),r3]
 (.ret (.tup [(mkA 7 (.setc o10 0 r31)),pT])))))
def ND (b:Nat→PC):PT×List (Shp×PT):=(rY,[])
theorem Ai:cf_bind_Effect.map told=some (ND (aA cf_bind_Effect)):=by kernel_rfl
theorem FQ:tree mC=rY:=aj Ai
theorem F4:cf_bind_Effect=some mC:=ah Ai
noncomputable def cf_bind_open:Option PC:=av {ctx with fr:=[],nh:=[]} Tryz.f61 ((aa aq 61).getD default) [4,6,8,9]
noncomputable def rI:PC:=hpc cf_bind_open
def xd:PT:=
 (.call ⟨[],[(8,acR),(4,(.mk [r0]))]⟩ [] 12 26 [(mkA 19 (.mk [r2])),r3]
 (.call ⟨[(16,(mkA 19 (.setc Ed 0 r12))),(15,r3),(14,r1),(13,(mkA 8 o4))],[(9,(.setc Ed 0 r12))]⟩ [] 21 38 [(mkA 8 o4),r1,(pi 0),(mkA 19 (.setc Ed 0 r12)),r3]
 (.call ⟨[],[]⟩ [] 22 41 [r21]
 (.call ⟨[],[]⟩ [] 27 50 [(mkA 8 o4),r1,(mkA 19 o9),r3]
 (.ret (mkA 31 (.setc o8 0 (.mk [r13,r14,r15,r16,r22,r27]))))))))
def Ug (b:Nat→PC):PT×List (Shp×PT):=(xd,[])
theorem Fm:cf_bind_open.map told=some (Ug (aA cf_bind_open)):=by kernel_rfl
theorem MA:tree rI=xd:=aj Fm
theorem L1:cf_bind_open=some rI:=ah Fm
noncomputable def cf_record_At:Option PC:=av {ctx with fr:=[],nh:=[]} Tryz.f26 ((aa aq 26).getD default) [2,4,5,65541,69637,73733,77829,7,31,9,49,11,13]
noncomputable def rK:PC:=hpc cf_record_At
noncomputable def cR:Nat→PC:=hbd cf_record_At
def NO (b:Nat→PC):PC:=.block 0 [20,21] [65541,5] (.loop [20] [65541,5] (b 0))
def NP (b:Nat→PC):PC:=.block 2 [38,39] [73733,5] (.loop [38] [73733,5] (b 1))
def QR (b:Nat→PC):PC:=.block 4 [56,57] [5,69637] (.loop [56] [5,69637] (b 2))
def Ph (b:Nat→PC):PC:=.block 6 [76,77] [5,77829] (.loop [76] [5,77829] (b 3))
def gH (b:Nat→PC):PT:=
 (.ite (plt r20 r19)
 (.chk (pix r18 r20)
 (.ite (pgt (pc (.setc z9 0 wg) 6) r1)
 (.exit 0 ⟨[(21,(plt r20 r19))],[]⟩)
 (.chk (ple (.llen (.app (.o 65541) (.lst [(mkA 9 (.setc z9 0 wg))]))) aZ)
 (.next ⟨[(20,(aF r20 (pi 1)))],[(65541,(.app (.o 65541) (.lst [(mkA 9 (.setc z9 0 wg))]))),(5,(.setc o5 15 pN))]⟩))))
 (.exit 0 ⟨[(21,(plt r20 r19))],[]⟩))
def gL (b:Nat→PC):PT:=
 (.ite (plt r38 r37)
 (.chk (pix r36 r38)
 (.ite (pgt (pc (.setc z9 0 (pn r36 r38)) 6) r1)
 (.exit 2 ⟨[(39,(plt r38 r37))],[]⟩)
 (.chk (ple (.llen (.app (.o 73733) (.lst [(mkA 9 (.setc z9 0 (pn r36 r38)))]))) aZ)
 (.next ⟨[(38,(aF r38 (pi 1)))],[(73733,(.app (.o 73733) (.lst [(mkA 9 (.setc z9 0 (pn r36 r38)))]))),(5,(.setc o5 17 pN))]⟩))))
 (.exit 2 ⟨[(39,(plt r38 r37))],[]⟩))
def gD (b:Nat→PC):PT:=
 (.ite (plt r56 r55)
 (.chk (pix r54 r56)
 (.ite (ple (pc (.setc z2 0 (pn r54 r56)) 0) (.llen (.o 65541)))
 (.chk (ple (.llen aff) aZ)
 (.next ⟨[(56,(aF r56 (pi 1)))],[(5,(.setc o5 16 pN)),(69637,aff)]⟩))
 (.next ⟨[(56,(aF r56 (pi 1)))],[]⟩)))
 (.exit 4 ⟨[(57,(plt r56 r55))],[]⟩))
def gX (b:Nat→PC):PT:=
 (.ite (plt r76 r75)
 (.blockS ⟨[],[]⟩ 7 [13,78,79,80,81,82,83,84,85] [13,77829,5]
 (.chk (pix r74 r76)
 (.call ⟨[],[(13,(.setc z3 0 (pn r74 r76)))]⟩ [] 85 72 [(pc (.setc z3 0 (pn r74 r76)) 1),(.llen (.o 65541))]
 (.ite r85
 (.chk (ple (.llen acZ) aZ)
 (.next ⟨[],[(77829,acZ),(5,(.setc o5 18 pN))]⟩))
 (.next ⟨[],[]⟩))))
 (.next ⟨[(76,(aF r76 (pi 1)))],[]⟩))
 (.exit 6 ⟨[(77,(plt r76 r75))],[]⟩))
def xK (b:Nat→PC):PT:=
 (.brk ⟨[(20,(pi 0)),(19,(.llen AY)),(18,AY)],[(77829,pL),(73733,pL),(69637,pL),(65541,pL),(5,(.setc Ed 0 (.mk [(mkA 15 (.mk [r0])),pL,pL,pL,pL]))),(4,Ed),(2,(.mk [r0]))]⟩
(NO b)
 (.brk ⟨[(38,(pi 0)),(37,(.llen (pc o2 17))),(36,(pc o2 17))],[]⟩
(NP b)
 (.brk ⟨[(56,(pi 0)),(55,(.llen (pc o2 16))),(54,(pc o2 16))],[]⟩
(QR b)
 (.brk ⟨[(76,(pi 0)),(75,Oj),(74,(pc o2 18))],[]⟩
(Ph b)
 (.ret (mkA 19 (.setc o4 0 (.mk [(pc o5 0),(pc o5 1),(pc o5 2),(pc o5 3),(pc o5 4),(pc o5 5),(pc o5 6),(pc o5 7),(pc o5 8),(pc o5 9),(pc o5 10),(pc o5 11),(pc o5 12),(pc o5 13),(pc o5 14),(.o 65541),(.o 69637),(.o 73733),(.o 77829)]))))))))
def UJ (b:Nat→PC):PT×List (Shp×PT):=(xK b,[(.lp 0 [20,21] [65541,5] [20] [65541,5],gH b),(.lp 2 [38,39] [73733,5] [38] [73733,5],gL b),(.lp 4 [56,57] [5,69637] [56] [5,69637],gD b),(.lp 6 [76,77] [5,77829] [76] [5,77829],gX b)])
theorem il:cf_record_At.map told=some (UJ (aA cf_record_At)):=by kernel_rfl
theorem LX:tree rK=xK cR:=aj il
theorem mj:round 0 [20,21] [65541,5] [20] [65541,5] (cR 0)=gH cR:=aw il 0 fun _=>rfl
theorem lX:round 2 [38,39] [73733,5] [38] [73733,5] (cR 1)=gL cR:=aw il 1 fun _=>rfl
theorem mR:round 4 [56,57] [5,69637] [56] [5,69637] (cR 2)=gD cR:=aw il 2 fun _=>rfl
theorem lz:round 6 [76,77] [5,77829] [76] [5,77829] (cR 3)=gX cR:=aw il 3 fun _=>rfl
theorem L9:cf_record_At=some rK:=ah il
noncomputable def cf_record_within:Option PC:=av {ctx with fr:=[4],nh:=[]} Tryz.f72 ((aa aq 72).getD default) []
noncomputable def jc:PC:=hpc cf_record_within
def nr:PT:=
 (.ret YO)
def Ju (b:Nat→PC):PT×List (Shp×PT):=(nr,[])
theorem wD:cf_record_within.map told=some (Ju (aA cf_record_within)):=by kernel_rfl
theorem B1:tree jc=nr:=aj wD
theorem BD:cf_record_within=some jc:=ah wD
noncomputable def cf_ask_Bill:Option PC:=av {ctx with fr:=[],nh:=[]} Tryz.f38 ((aa aq 38).getD default) [5,8,77832,10]
noncomputable def ud:PC:=hpc cf_ask_Bill
def A5:PT:=
 (.call ⟨[],[(10,Tx)]⟩ [] 18 36 [oP,r1,r2,(.mk [(.mk [(pc ng 0),(pc ng 1),(pc ng 2),(pc ng 3),(pc ng 4),(pc ng 5),(pc ng 6),(pc ng 7),(pc ng 8),(pc ng 9),(pc ng 10),(pc ng 11),(pc ng 12),(pc ng 13),(pc ng 14),(pc ng 15),(pc ng 16),(pc ng 17),pL]),(pi 0),(pi (-1)),(pi (-1)),(pi (-1)),r4])]
 (.ret (mkA 5 (.setc o10 0 r18))))
def Xe (b:Nat→PC):PT×List (Shp×PT):=(A5,[])
theorem Lc:cf_ask_Bill.map told=some (Xe (aA cf_ask_Bill)):=by kernel_rfl
theorem Nu:tree ud=A5:=aj Lc
theorem OX:cf_ask_Bill=some ud:=ah Lc
noncomputable def cf_ask_Ask:Option PC:=av {ctx with fr:=[10],nh:=[]} Tryz.f36 ((aa aq 36).getD default) [4,7,8,9]
noncomputable def wV:PC:=hpc cf_ask_Ask
def DK:PT:=
 (.call ⟨[],[(8,Tx),(4,(.mk [r0]))]⟩ [] 16 95 [oP,r1,r2,(mkA 24 (.mk [r3]))]
 (.iteS ⟨[(10,(.tget r16 1))],[(9,(.setc Tx 0 (.tget r16 0)))]⟩ (pne (pc (.setc Tx 0 (.tget r16 0)) 2) (pi (-1))) [] [9]
 (.chk (pix (pc o4 4) (pc o9 2))
 (.call ⟨[],[]⟩ [] 31 55 [(pn (pc o4 4) (pc o9 2)),r2,r10]
 (.next ⟨[],[(9,(.setc (.setc o9 0 (.tget r31 0)) 4 (.tget r31 1)))]⟩)))
 (.next ⟨[],[]⟩)
 (.ret (mkA 5 (.setc o8 0 (mkA 5 o9))))))
def Yz (b:Nat→PC):PT×List (Shp×PT):=(DK,[])
theorem Pm:cf_ask_Ask.map told=some (Yz (aA cf_ask_Ask)):=by kernel_rfl
theorem Rv:tree wV=DK:=aj Pm
theorem RO:cf_ask_Ask=some wV:=ah Pm
noncomputable def cf_ask_find:Option PC:=av {ctx with fr:=[9,11,12,13,14],nh:=[]} Tryz.f95 ((aa aq 95).getD default) [4,7,8,10,16394]
noncomputable def tP:PC:=hpc cf_ask_find
def AQ:PT:=
 (.call ⟨[],[(16394,pL),(10,(.setc Tx 0 (.mk [qv,(pi (-1)),pL,(pi 1)]))),(8,Tx),(7,(.mk [r3])),(4,(.mk [r0]))]⟩ [] 19 100 [oP,(mkA 24 (.mk [r3]))]
 (.ite (peq (.llen (.tget r19 1)) (pi 0))
 (.ret (.tup [acY,pL]))
 (.call ⟨[(11,(.tget r19 1))],[(7,(.setc o7 0 (.tget r19 0)))]⟩ [] 28 119 [r2]
 (.ite (.nt (.tget r28 1))
 (.ret (.tup [acY,pL]))
 (.call ⟨[],[]⟩ [] 37 101 [(mkA 8 o4),r1,(mkA 24 o7)]
 (.ite (peq (.llen r37) (pi 0))
 (.ret (.tup [acY,pL]))
 (.call ⟨[],[]⟩ [] 46 54 [(mkA 8 o4),r1,r2,r37]
 (.ite (peq (pc N2 4) (pi 0))
 (.chk (pix (pc N2 3) (aQ (.llen (pc N2 3)) (pi 1)))
 (.ret (.tup [(mkA 5 (.setc o8 0 (mkA 5 (.setc N2 2 (pn (pc N2 3) (aQ (.llen (pc N2 3)) (pi 1))))))),r11])))
 (.ret (.tup [(mkA 5 (.setc o8 0 (mkA 5 N2))),r11]))))))))))
def Xv (b:Nat→PC):PT×List (Shp×PT):=(AQ,[])
theorem Ld:cf_ask_find.map told=some (Xv (aA cf_ask_find)):=by kernel_rfl
theorem Pg:tree tP=AQ:=aj Ld
theorem QY:cf_ask_find=some tP:=ah Ld
noncomputable def cf_ask_of:Option PC:=av {ctx with fr:=[5],nh:=[]} Tryz.f100 ((aa aq 100).getD default) [2,3,4]
noncomputable def By:PC:=hpc cf_ask_of
def II:PT:=
 (.call ⟨[],[(4,ae2),(3,(.mk [r1])),(2,(.mk [r0]))]⟩ [] 10 26 [(mkA 19 (.mk [r1])),(pc (.mk [r1]) 23)]
 (.call ⟨[(12,(mkA 24 (.setc o3 0 r10)))],[]⟩ [] 15 52 [(mkA 8 o2),(mkA 24 (.setc o3 0 r10))]
 (.ret (.tup [(mkA 24 (.setc o4 0 r12)),r15]))))
def abt (b:Nat→PC):PT×List (Shp×PT):=(II,[])
theorem SD:cf_ask_of.map told=some (abt (aA cf_ask_of)):=by kernel_rfl
theorem Vb:tree By=II:=aj SD
theorem U5:cf_ask_of=some By:=ah SD
noncomputable def cf_record_Vars:Option PC:=av {ctx with fr:=[4,7,9,11,12,13,14,15,16],nh:=[]} Tryz.f52 ((aa aq 52).getD default) [2,3,5,6,8,10,90,139]
noncomputable def lG:PC:=hpc cf_record_Vars
noncomputable def gV:Nat→PC:=hbd cf_record_Vars
def IZ (b:Nat→PC):PC:=.meach 90 [94,95,11,12] [0,1,0,1] [10] (b 0)
def JN (b:Nat→PC):PC:=.meach 139 [143,144,15,16] [0,1,0,1] [10] (b 1)
def nT (b:Nat→PC):PT:=
 (.chk (pix o10 r11)
 (.next ⟨[],[(10,(.setn o10 r11 0 (.mk [pT,r12])))]⟩))
def nF (b:Nat→PC):PT:=
 (.blockS ⟨[],[]⟩ 3 [145,146,147,148,149] [10]
 (.call ⟨[(146,r15)],[]⟩ [] 148 111 [r16]
 (.chk (pix o10 (.r 146))
 (.next ⟨[],[(10,(.setn o10 (.r 146) 0 (.r 148)))]⟩)))
 (.next ⟨[],[]⟩))
def cm (b:Nat→PC):PT:=
 (.call ⟨[(7,(.mx (pc (.mk [r1]) 20) (pi 0)))],[(6,(.setc z15 0 (mkA 15 (.mk [r1])))),(5,(.setc Ed 0 (mkA 19 (.mk [r1])))),(3,(.mk [r1])),(2,(.mk [r0]))]⟩ [] 30 72 [(pc (.mk [r1]) 19),(.llen (pc (.setc Ed 0 (mkA 19 (.mk [r1]))) 15))]
 (.call ⟨[(48,(pne (pc o3 22) (pi (-1)))),(44,(.pick (.pick (.nt r30) pT (plt (pc o3 20) (pi (-1)))) pT (pge r7 (.llen (pc o5 15)))))],[]⟩ [(48,true),(44,false)] 51 72 [(pc o3 22),(pi 100001)]
 (.ite (.pick r44 pT (.pick r48 (.nt r51) pF))
 (.ret pL)
 (.chk (pix (pc o5 15) (pc o3 19))
 (.call ⟨[],[(8,(.setc z9 0 (pn (pc o5 15) (pc o3 19))))]⟩ [] 63 72 [(pc (.setc z9 0 (pn (pc o5 15) (pc o3 19))) 6),(pi 100001)]
 (.ite (.nt r63)
 (.ret pL)
 (.chk (.an (pge (pi 20) (pi 0)) (ple (pi 20) aZ))
 (.chk (peq (pi 20) (pi 20))
 (.chk (plt (.mlen (.con (.map []))) aZ)
 (.chk (plt (.mlen (.put (.con (.map [])) (pi 0) (pc o6 3))) aZ)
 (.chk (plt (.mlen (.put (.put (.con (.map [])) (pi 0) (pc o6 3)) (pi 1) (pc o6 14))) aZ)
 (.chk (plt (.mlen abU) aZ)
 (.chk (plt (.mlen (.put abU (pi 3) (pc o6 12))) aZ)
 (.chk (plt (.mlen abZ) aZ)
 (.chk (plt (.mlen (.put abZ (pi 5) (pc o3 21))) aZ)
 (.blockS ⟨[(10,pN),(9,acp)],[(90,(.tup [(.lst []),(.put (.put abZ (pi 5) (pc o3 21)) (pi 6) acp)])),(10,(.rep (pi 20) qv))]⟩ 0 [] [10]
 (.brk ⟨[],[]⟩
(IZ b)
 (.exit 0 ⟨[],[]⟩))
 (.call ⟨[],[(3,(mkA 24 o3))]⟩ [] 104 109 [(pc o5 16),(.clo 110 [(.ref (mkA 24 o3))])]
 (.call ⟨[(13,alc)],[]⟩ [] 108 53 [(mkA 8 o2),(pc o6 9)]
 (.call ⟨[],[]⟩ [] 112 53 [(mkA 8 o2),(pc o6 10)]
 (.chk (plt (.mlen (.con (.map []))) aZ)
 (.chk (plt (.mlen abX) aZ)
 (.chk (plt (.mlen (.put abX (pi 8) (peq (pc o6 2) (pi (-1))))) aZ)
 (.chk (plt (.mlen (.put (.put abX (pi 8) (peq (pc o6 2) (pi (-1)))) (pi 9) (pne (.ai .and .i64 (pc o6 13) (pi 4)) (pi 0)))) aZ)
 (.chk (plt (.mlen adY) aZ)
 (.chk (plt (.mlen (.put adY (pi 11) (pne af5 agk))) aZ)
 (.chk (plt (.mlen (.put (.put adY (pi 11) (pne af5 agk)) (pi 12) r13)) aZ)
 (.chk (plt (.mlen aeL) aZ)
 (.blockS ⟨[],[(139,(.tup [(.lst []),(.put aeL (pi 14) (pgt r9 (pi 0)))]))]⟩ 2 [] [10]
 (.brk ⟨[],[]⟩
(JN b)
 (.exit 2 ⟨[],[]⟩))
 (.call ⟨[],[]⟩ [] 154 112 [(mkA 19 o5),(pi 0),(pc o3 19)]
 (.chk (pix o10 (pi 15))
 (.call ⟨[],[(10,(.setn o10 (pi 15) 0 (.r 154)))]⟩ [] 160 112 [(mkA 19 o5),(pi 1),(pc o3 19)]
 (.chk (pix o10 (pi 16))
 (.call ⟨[],[(10,(.setn o10 (pi 16) 0 (.r 160)))]⟩ [] 166 112 [(mkA 19 o5),(pi 2),(pc o3 19)]
 (.chk (pix o10 (pi 17))
 (.call ⟨[],[(10,(.setn o10 (pi 17) 0 (.r 166)))]⟩ [] 171 112 [(mkA 19 o5),(pi 3),r7]
 (.chk (pix o10 (pi 18))
 (.call ⟨[],[(10,(.setn o10 (pi 18) 0 (.r 171)))]⟩ [] 176 112 [(mkA 19 o5),(pi 4),r7]
 (.chk (pix o10 (pi 19))
 (.ret (.setn o10 (pi 19) 0 (.r 176)))))))))))))))))))))))))))))))))))))))))
def NT (b:Nat→PC):PT×List (Shp×PT):=(cm b,[(.ea [10],nT b),(.ea [10],nF b)])
theorem lV:cf_record_Vars.map told=some (NT (aA cf_record_Vars)):=by kernel_rfl
theorem Gk:tree lG=cm gV:=aj lV
theorem BM:tn [10] (gV 0)=nT gV:=Un lV 0 fun _=>rfl
theorem Ci:tn [10] (gV 1)=nF gV:=Un lV 1 fun _=>rfl
theorem Fl:cf_record_Vars=some lG:=ah lV
noncomputable def cf_record_Vars_1:Option PC:=av {ctx with fr:=[3],nh:=[]} Tryz.f110 ((aa aq 110).getD default) [2]
noncomputable def iw:PC:=hpc cf_record_Vars_1
def np:PT:=
 (.ret (ple tp (pc (.deref r1) 19)))
def H4 (b:Nat→PC):PT×List (Shp×PT):=(np,[])
theorem wq:cf_record_Vars_1.map told=some (H4 (aA cf_record_Vars_1)):=by kernel_rfl
theorem B2:tree iw=np:=aj wq
theorem BH:cf_record_Vars_1=some iw:=ah wq
noncomputable def cf_slices_ContainsFunc_Alter:Option PC:=av {ctx with fr:=[4],nh:=[]} Tryz.f109 ((aa aq 109).getD default) []
noncomputable def br:PC:=hpc cf_slices_ContainsFunc_Alter
def cD:PT:=
 (.call ⟨[],[]⟩ [] 7 183 [r0,r1]
 (.ret (pge r7 (pi 0))))
def p7 (b:Nat→PC):PT×List (Shp×PT):=(cD,[])
theorem fQ:cf_slices_ContainsFunc_Alter.map told=some (p7 (aA cf_slices_ContainsFunc_Alter)):=by kernel_rfl
theorem mV:tree br=cD:=aj fQ
theorem mW:cf_slices_ContainsFunc_Alter=some br:=ah fQ
noncomputable def cf_slices_IndexFunc_Alter:Option PC:=av {ctx with fr:=[4,5],nh:=[]} Tryz.f183 ((aa aq 183).getD default) []
noncomputable def bP:PC:=hpc cf_slices_IndexFunc_Alter
noncomputable def dC:Nat→PC:=hbd cf_slices_IndexFunc_Alter
def rB (b:Nat→PC):PC:=.block 0 [4,8,9] [] (.loop [4,8] [] (b 0))
def aU (b:Nat→PC):PT:=
 (.ite (plt r8 r7)
 (.blockS ⟨[],[]⟩ 1 [4,5,10,11,12,13,14,15,16] []
 (.chk (pix r0 r8)
 (.callc ⟨[(5,r8)],[]⟩ [] 16 r1 [(pn r0 r8)]
 (.ite r16
 (.ret r5)
 (.next ⟨[],[]⟩))))
 (.next ⟨[(8,C7)],[]⟩))
 (.exit 0 ⟨[(9,(plt r8 r7))],[]⟩))
def dy (b:Nat→PC):PT:=
 (.brk ⟨[(8,(pi 0)),(7,(.llen r0)),(4,(pi 0))],[]⟩
(rB b)
 (.ret (pi (-1))))
def tz (b:Nat→PC):PT×List (Shp×PT):=(dy b,[(.lp 0 [4,8,9] [] [4,8] [],aU b)])
theorem dD:cf_slices_IndexFunc_Alter.map told=some (tz (aA cf_slices_IndexFunc_Alter)):=by kernel_rfl
theorem qq:tree bP=dy dC:=aj dD
theorem bV:round 0 [4,8,9] [] [4,8] [] (dC 0)=aU dC:=aw dD 0 fun _=>rfl
theorem qk:cf_slices_IndexFunc_Alter=some bP:=ah dD
noncomputable def cf_realm_OrderAt:Option PC:=av {ctx with fr:=[4],nh:=[]} Tryz.f53 ((aa aq 53).getD default) [2]
noncomputable def iS:PC:=hpc cf_realm_OrderAt
def nq:PT:=
 (.call ⟨[],[(2,(.mk [r0]))]⟩ [] 9 113 [r1,(.llen GF)]
 (.ite (.nt r9)
 (.ret (pi (-1)))
 (.chk (pix (pc o2 1) r1)
 (.ret (pc (pn (pc o2 1) r1) 1)))))
def JP (b:Nat→PC):PT×List (Shp×PT):=(nq,[])
theorem vU:cf_realm_OrderAt.map told=some (JP (aA cf_realm_OrderAt)):=by kernel_rfl
theorem B4:tree iS=nq:=aj vU
theorem B6:cf_realm_OrderAt=some iS:=ah vU
noncomputable def cf_realm_in:Option PC:=av {ctx with fr:=[4],nh:=[]} Tryz.f113 ((aa aq 113).getD default) []
noncomputable def tG:PC:=hpc cf_realm_in
def zg:PT:=
 (.ret YO)
def XP (b:Nat→PC):PT×List (Shp×PT):=(zg,[])
theorem Kc:cf_realm_in.map told=some (XP (aA cf_realm_in)):=by kernel_rfl
theorem PW:tree tG=zg:=aj Kc
theorem QP:cf_realm_in=some tG:=ah Kc
noncomputable def cf_record_truth:Option PC:=av {ctx with fr:=[],nh:=[]} Tryz.f111 ((aa aq 111).getD default) [2]
noncomputable def kj:PC:=hpc cf_record_truth
def pq:PT:=
 (.ite r0
 (.ret (.mk [(pc ZV 0),(pc ZV 1)]))
 (.ret (.mk [(pc aac 0),(pc aac 1)])))
def Lr (b:Nat→PC):PT×List (Shp×PT):=(pq,[])
theorem ye:cf_record_truth.map told=some (Lr (aA cf_record_truth)):=by kernel_rfl
theorem Di:tree kj=pq:=aj ye
theorem D2:cf_record_truth=some kj:=ah ye
noncomputable def cf_record_Fact:Option PC:=av {ctx with fr:=[],nh:=[]} Tryz.f112 ((aa aq 112).getD default) [3,6,8]
noncomputable def mu:PC:=hpc cf_record_Fact
noncomputable def sD:Nat→PC:=hbd cf_record_Fact
def H2 (b:Nat→PC):PC:=.block 0 [12,13] [6] (.loop [12] [6] (b 0))
def eP (b:Nat→PC):PT:=
 (.ite (plt r12 r11)
 (.blockS ⟨[],[]⟩ 1 [8,14,15,16,17,18,19,20,25] [8,6]
 (.chk (pix r10 r12)
 (.iteS ⟨[],[(8,(.setc z3 0 wQ))]⟩ (.pick (peq (pc (.setc z3 0 wQ) 0) r1) (peq (pc (.setc z3 0 wQ) 1) r2) pF) [] [6]
 (.call ⟨[],[]⟩ [] 29 111 [(pne (pc o8 2) (pi 0))]
 (.ret (.mk [(pc (.setc o6 0 r29) 0),(pc (.setc o6 0 r29) 1)])))
 (.next ⟨[],[]⟩)
 (.next ⟨[],[]⟩)))
 (.next ⟨[(12,(aF r12 (pi 1)))],[]⟩))
 (.exit 0 ⟨[(13,(plt r12 r11))],[]⟩))
def s9 (b:Nat→PC):PT:=
 (.brk ⟨[(12,(pi 0)),(11,(.llen Jm)),(10,Jm)],[(6,qv)]⟩
(H2 b)
 (.ret adH))
def NK (b:Nat→PC):PT×List (Shp×PT):=(s9 b,[(.lp 0 [12,13] [6] [12] [6],eP b)])
theorem sC:cf_record_Fact.map told=some (NK (aA cf_record_Fact)):=by kernel_rfl
theorem F1:tree mu=s9 sD:=aj sC
theorem jB:round 0 [12,13] [6] [12] [6] (sD 0)=eP sD:=aw sC 0 fun _=>rfl
theorem E6:cf_record_Fact=some mu:=ah sC
noncomputable def cf_order_Type:Option PC:=av {ctx with fr:=[2,3,4,11],nh:=[]} Tryz.f119 ((aa aq 119).getD default) []
noncomputable def oJ:PC:=hpc cf_order_Type
def vz:PT:=
 (.blockS ⟨[],[]⟩ 0 [2,3,4,5,6,7,10,11,12,13,14] []
 (.iteS ⟨[],[]⟩ (.pick (plt r0 (pi 0)) pT (pge r0 (pi 22))) [2,3,11,12,13,14] []
 (.ret (.tup [(pi 0),pF]))
 (.call ⟨[],[]⟩ [] 14 116 [(.lst [(pc Rg 0),(pc Rg 1),(pc Rg 2),(pc Rg 3),(pc Rg 4),(pc Rg 5),(pc Rg 6),(pc Rg 7),(pc Rg 8),(pc Rg 9)]),r0]
 (.ite r14
 (.ret (.tup [(pi 0),pT]))
 (.next ⟨[],[]⟩)))
 (.next ⟨[],[]⟩))
 (.ret (.tup [(pi 1),pT])))
def RN (b:Nat→PC):PT×List (Shp×PT):=(vz,[])
theorem CW:cf_order_Type.map told=some (RN (aA cf_order_Type)):=by kernel_rfl
theorem Jn:tree oJ=vz:=aj CW
theorem JL:cf_order_Type=some oJ:=ah CW
noncomputable def cf_slices_Contains_int:Option PC:=av {ctx with fr:=[4],nh:=[]} Tryz.f116 ((aa aq 116).getD default) []
noncomputable def cP:PC:=hpc cf_slices_Contains_int
def fb:PT:=
 (.call ⟨[],[]⟩ [] 7 186 [r0,r1]
 (.ret (pge r7 (pi 0))))
def wI (b:Nat→PC):PT×List (Shp×PT):=(fb,[])
theorem lL:cf_slices_Contains_int.map told=some (wI (aA cf_slices_Contains_int)):=by kernel_rfl
theorem tw:tree cP=fb:=aj lL
theorem tD:cf_slices_Contains_int=some cP:=ah lL
noncomputable def cf_slices_Index_int:Option PC:=av {ctx with fr:=[4,5],nh:=[]} Tryz.f186 ((aa aq 186).getD default) []
noncomputable def eB:PC:=hpc cf_slices_Index_int
noncomputable def jy:Nat→PC:=hbd cf_slices_Index_int
def yP (b:Nat→PC):PC:=.block 0 [4,8,9] [] (.loop [4,8] [] (b 0))
def bS (b:Nat→PC):PT:=
 (.ite (plt r8 r7)
 (.chk (pix r0 r8)
 (.ite (peq r1 (pn r0 r8))
 (.ret r8)
 (.next ⟨[(8,C7)],[]⟩)))
 (.exit 0 ⟨[(9,(plt r8 r7))],[]⟩))
def jx (b:Nat→PC):PT:=
 (.brk ⟨[(8,(pi 0)),(7,(.llen r0)),(4,(pi 0))],[]⟩
(yP b)
 (.ret (pi (-1))))
def B8 (b:Nat→PC):PT×List (Shp×PT):=(jx b,[(.lp 0 [4,8,9] [] [4,8] [],bS b)])
theorem jn:cf_slices_Index_int.map told=some (B8 (aA cf_slices_Index_int)):=by kernel_rfl
theorem w9:tree eB=jx jy:=aj jn
theorem dV:round 0 [4,8,9] [] [4,8] [] (jy 0)=bS jy:=aw jn 0 fun _=>rfl
theorem xE:cf_slices_Index_int=some eB:=ah jn
noncomputable def cf_conflict_Law:Option PC:=av {ctx with fr:=[8,9,11,12,13,14,55,70],nh:=[]} Tryz.f54 ((aa aq 54).getD default) [4,10,53]
noncomputable def j5:PC:=hpc cf_conflict_Law
noncomputable def py:Nat→PC:=hbd cf_conflict_Law
def Hg (b:Nat→PC):PC:=.block 0 [] [] (.loop [8,9,10] [10] (b 0))
def mJ (b:Nat→PC):PT:=
 (.blockS ⟨[],[]⟩ 1 [8,9,10,11,12,13,14,32,33,35,36,37,38,39,40,41,42,43,44,45,46,49,50,52,53,54,55,56,57,58,68,70,71] [53,10]
 (.chk (pix o10 (aQ (.llen o10) (pi 1)))
 (.call ⟨[(11,(pn o10 (aQ (.llen o10) (pi 1))))],[]⟩ [] 41 115 [(mkA 8 o4),(pn o10 (aQ (.llen o10) (pi 1))),r2,r3]
 (.ite (peq (.tget r41 0) r11)
 (.ret (.tup [o10,(pi 0)]))
 (.call ⟨[(13,(.tget r41 1)),(12,(.tget r41 0))],[]⟩ [] 50 116 [o10,(.tget r41 0)]
 (.chk (ple (.llen (.app o10 (.lst [r12]))) aZ)
 (.chk (.nt (.an (.an r50 (.an (.nt (.nt r13)) pT)) (.nt (pix (pc o4 4) r12))))
 (.ite (.pick (.nt r13) pT (.pick r50 (pc (pn (pc o4 4) r12) 1) pF))
 (.ret (.tup [(.app o10 (.lst [r12])),(pi 0)]))
 (.ite r50
 (.ret (.tup [(.app o10 (.lst [r12])),(pi 12)]))
 (.next ⟨[(10,pN)],[(10,(.app o10 (.lst [r12])))]⟩)))))))))
 (.next ⟨[],[]⟩))
def pH (b:Nat→PC):PT:=
 (.call ⟨[(9,(pi 0)),(8,pL)],[(4,(.mk [r0]))]⟩ [] 19 114 [oP,r1,r2,r3]
 (.chk (.nt (.an (.an (.nt (.nt r19)) pT) (.nt (pix r3 (pi 0)))))
 (.ite (.pick (.nt r19) pT (pne (pn r3 (pi 0)) r1))
 (.ret (.tup [pL,(pi 1)]))
 (.brk ⟨[(10,pN)],[(10,(.lst [r1]))]⟩
(Hg b)
 (.next ⟨[],[]⟩)))))
def Lo (b:Nat→PC):PT×List (Shp×PT):=(pH b,[(.lp 0 [] [] [8,9,10] [10],mJ b)])
theorem qn:cf_conflict_Law.map told=some (Lo (aA cf_conflict_Law)):=by kernel_rfl
theorem En:tree j5=pH py:=aj qn
theorem zV:round 0 [] [] [8,9,10] [10] (py 0)=mJ py:=aw qn 0 fun _=>rfl
theorem Ek:cf_conflict_Law=some j5:=ah qn
noncomputable def cf_conflict_fine:Option PC:=av {ctx with fr:=[8],nh:=[]} Tryz.f114 ((aa aq 114).getD default) [4,9]
noncomputable def iO:PC:=hpc cf_conflict_fine
def bz:PT:=
 (.ite (.pick (.pick (.pick (.pick (plt r1 (pi 0)) pT (pge r1 (pc (.setc Nq 0 (.llen HV)) 0))) pT (plt r2 (pi 0))) pT (pge r2 (pi 22))) pT (pne (.llen r3) (pi 5)))
 (.ret pF)
 (.call ⟨[],[]⟩ [] 35 184 [r3,(.clo 185 [(.ref (pc (.setc Nq 0 (.llen HV)) 0))])]
 (.ret (.nt r35))))
def IS (b:Nat→PC):PT×List (Shp×PT):=(bz,[])
theorem v7:cf_conflict_fine.map told=some (IS (aA cf_conflict_fine)):=by kernel_rfl
theorem Cc:tree iO=bz:=aj v7
theorem BW:cf_conflict_fine=some iO:=ah v7
noncomputable def cf_conflict_fine_1:Option PC:=av {ctx with fr:=[3],nh:=[]} Tryz.f185 ((aa aq 185).getD default) []
noncomputable def fm:PC:=hpc cf_conflict_fine_1
def kE:PT:=
 (.ret (.pick (plt r0 (pi 0)) pT (pge r0 (.deref r1))))
def Eb (b:Nat→PC):PT×List (Shp×PT):=(kE,[])
theorem tl:cf_conflict_fine_1.map told=some (Eb (aA cf_conflict_fine_1)):=by kernel_rfl
theorem yQ:tree fm=kE:=aj tl
theorem yT:cf_conflict_fine_1=some fm:=ah tl
noncomputable def cf_slices_ContainsFunc_int:Option PC:=av {ctx with fr:=[4],nh:=[]} Tryz.f184 ((aa aq 184).getD default) []
noncomputable def bG:PC:=hpc cf_slices_ContainsFunc_int
def di:PT:=
 (.call ⟨[],[]⟩ [] 7 220 [r0,r1]
 (.ret (pge r7 (pi 0))))
def rU (b:Nat→PC):PT×List (Shp×PT):=(di,[])
theorem gG:cf_slices_ContainsFunc_int.map told=some (rU (aA cf_slices_ContainsFunc_int)):=by kernel_rfl
theorem oW:tree bG=di:=aj gG
theorem pj:cf_slices_ContainsFunc_int=some bG:=ah gG
noncomputable def cf_slices_IndexFunc_int:Option PC:=av {ctx with fr:=[4,5],nh:=[]} Tryz.f220 ((aa aq 220).getD default) []
noncomputable def cv:PC:=hpc cf_slices_IndexFunc_int
noncomputable def eH:Nat→PC:=hbd cf_slices_IndexFunc_int
def tE (b:Nat→PC):PC:=.block 0 [4,8,9] [] (.loop [4,8] [] (b 0))
def bj (b:Nat→PC):PT:=
 (.ite (plt r8 r7)
 (.blockS ⟨[],[]⟩ 1 [4,5,10,11,12,13,14,15,16] []
 (.chk (pix r0 r8)
 (.callc ⟨[(5,r8)],[]⟩ [] 16 r1 [(pn r0 r8)]
 (.ite r16
 (.ret r5)
 (.next ⟨[],[]⟩))))
 (.next ⟨[(8,C7)],[]⟩))
 (.exit 0 ⟨[(9,(plt r8 r7))],[]⟩))
def eM (b:Nat→PC):PT:=
 (.brk ⟨[(8,(pi 0)),(7,(.llen r0)),(4,(pi 0))],[]⟩
(tE b)
 (.ret (pi (-1))))
def vO (b:Nat→PC):PT×List (Shp×PT):=(eM b,[(.lp 0 [4,8,9] [] [4,8] [],bj b)])
theorem eN:cf_slices_IndexFunc_int.map told=some (vO (aA cf_slices_IndexFunc_int)):=by kernel_rfl
theorem sY:tree cv=eM eH:=aj eN
theorem cC:round 0 [4,8,9] [] [4,8] [] (eH 0)=bj eH:=aw eN 0 fun _=>rfl
theorem se:cf_slices_IndexFunc_int=some cv:=ah eN
noncomputable def cf_conflict_Leads:Option PC:=av {ctx with fr:=[8,9],nh:=[]} Tryz.f115 ((aa aq 115).getD default) [4,11]
noncomputable def gn:PC:=hpc cf_conflict_Leads
noncomputable def mF:Nat→PC:=hbd cf_conflict_Leads
def BC (b:Nat→PC):PC:=.block 0 [8,9,25,26] [] (.loop [8,9,25] [] (b 0))
def cE (b:Nat→PC):PT:=
 (.ite (plt r25 r24)
 (.chk (pix r23 r25)
 (.ite (.pick (peq (pc WN 0) r2) (pne (pc WN 1) (pi 0)) pF)
 (.chk (pix r3 (pc WN 1))
 (.ret (.tup [(pn r3 (pc WN 1)),(pc WN 2)])))
 (.next ⟨[(25,(aF r25 (pi 1)))],[]⟩)))
 (.exit 0 ⟨[(26,(plt r25 r24))],[]⟩))
def ma (b:Nat→PC):PT:=
 (.call ⟨[(9,pF),(8,(pi 0))],[(4,(.mk [r0]))]⟩ [] 16 114 [oP,r1,r2,r3]
 (.ite (.nt r16)
 (.ret (.tup [(pi (-1)),pF]))
 (.chk (pix (pc o4 4) r1)
 (.brk ⟨[(25,(pi 0)),(24,(.llen (pc (pn (pc o4 4) r1) 2))),(23,(pc (pn (pc o4 4) r1) 2))],[]⟩
(BC b)
 (.ret (.tup [r1,pF]))))))
def GA (b:Nat→PC):PT×List (Shp×PT):=(ma b,[(.lp 0 [8,9,25,26] [] [8,9,25] [],cE b)])
theorem lF:cf_conflict_Leads.map told=some (GA (aA cf_conflict_Leads)):=by kernel_rfl
theorem zW:tree gn=ma mF:=aj lF
theorem fj:round 0 [8,9,25,26] [] [8,9,25] [] (mF 0)=cE mF:=aw lF 0 fun _=>rfl
theorem zY:cf_conflict_Leads=some gn:=ah lF
noncomputable def cf_order_Answer:Option PC:=av {ctx with fr:=[7,9,11,12],nh:=[]} Tryz.f55 ((aa aq 55).getD default) [3,6,8,10]
noncomputable def kc:PC:=hpc cf_order_Answer
def qt:PT:=
 (.call ⟨[],[(6,qv)]⟩ [] 16 117 [(mkA 4 (.mk [r0])),r1]
 (.ite (pne (.tget r16 1) (pi 0))
 (.ret (.tup [adH,(.tget r16 1)]))
 (.call ⟨[],[]⟩ [] 25 118 [(.mk [(pc (.setc qO 0 (.tget r16 0)) 0),(pc (.setc qO 0 (.tget r16 0)) 1),(pc (.setc qO 0 (.tget r16 0)) 2)]),r2]
 (.call ⟨[],[(10,(.setc qv 0 r25))]⟩ [] 28 119 [r1]
 (.ret (.tup [(.mk [(pc (.setc o6 0 (.mk [(pc ZO 0),(pc ZO 1)])) 0),(pc (.setc o6 0 (.mk [(pc ZO 0),(pc ZO 1)])) 1)]),(pi 0)]))))))
def MN (b:Nat→PC):PT×List (Shp×PT):=(qt,[])
theorem yJ:cf_order_Answer.map told=some (MN (aA cf_order_Answer)):=by kernel_rfl
theorem DM:tree kc=qt:=aj yJ
theorem DV:cf_order_Answer=some kc:=ah yJ
noncomputable def cf_order_find:Option PC:=av {ctx with fr:=[5,6,7,8,10,11],nh:=[]} Tryz.f117 ((aa aq 117).getD default) [2,3,4,12292,9]
noncomputable def oL:PC:=hpc cf_order_find
def vf:PT:=
 (.call ⟨[],[(4,qO),(3,(.mk [r1])),(2,(.mk [r0]))]⟩ [] 14 119 [(pc (.mk [r1]) 0)]
 (.ite (.nt (.tget r14 1))
 (.ret (.tup [adA,(pi 1)]))
 (.call ⟨[(6,(.tget r14 0))],[]⟩ [] 23 187 [(pc o2 3),(.clo 188 [(.ref (pc o3 0))])]
 (.ite (plt r23 (pi 0))
 (.ret (.tup [adA,(pi 4)]))
 (.chk (pix (pc o2 3) r23)
 (.call ⟨[],[(9,aai)]⟩ [] 35 189 [(.mk [(pc aai 0),(pc aai 1),(pc aai 2)])]
 (.ite (.pick (pne (.tget r35 1) (pi 0)) pT (pne (.tget r35 0) r6))
 (.ret (.tup [adA,(pi 11)]))
 (.ret (.tup [(.mk [(pc adL 0),(pc adL 1),(pc adL 2)]),(pi 0)])))))))))
def Se (b:Nat→PC):PT×List (Shp×PT):=(vf,[])
theorem CF:cf_order_find.map told=some (Se (aA cf_order_find)):=by kernel_rfl
theorem JR:tree oL=vf:=aj CF
theorem JI:cf_order_find=some oL:=ah CF
noncomputable def cf_order_find_1:Option PC:=av {ctx with fr:=[3],nh:=[]} Tryz.f188 ((aa aq 188).getD default) [2]
noncomputable def ka:PC:=hpc cf_order_find_1
def qa:PT:=
 (.ret (peq tp (.deref r1)))
def Me (b:Nat→PC):PT×List (Shp×PT):=(qa,[])
theorem yB:cf_order_find_1.map told=some (Me (aA cf_order_find_1)):=by kernel_rfl
theorem EJ:tree ka=qa:=aj yB
theorem Em:cf_order_find_1=some ka:=ah yB
noncomputable def cf_slices_IndexFunc_Rule:Option PC:=av {ctx with fr:=[4,5],nh:=[]} Tryz.f187 ((aa aq 187).getD default) []
noncomputable def cd:PC:=hpc cf_slices_IndexFunc_Rule
noncomputable def dW:Nat→PC:=hbd cf_slices_IndexFunc_Rule
def sZ (b:Nat→PC):PC:=.block 0 [4,8,9] [] (.loop [4,8] [] (b 0))
def aW (b:Nat→PC):PT:=
 (.ite (plt r8 r7)
 (.blockS ⟨[],[]⟩ 1 [4,5,10,11,12,13,14,15,16] []
 (.chk (pix r0 r8)
 (.callc ⟨[(5,r8)],[]⟩ [] 16 r1 [(pn r0 r8)]
 (.ite r16
 (.ret r5)
 (.next ⟨[],[]⟩))))
 (.next ⟨[(8,C7)],[]⟩))
 (.exit 0 ⟨[(9,(plt r8 r7))],[]⟩))
def eg (b:Nat→PC):PT:=
 (.brk ⟨[(8,(pi 0)),(7,(.llen r0)),(4,(pi 0))],[]⟩
(sZ b)
 (.ret (pi (-1))))
def vE (b:Nat→PC):PT×List (Shp×PT):=(eg b,[(.lp 0 [4,8,9] [] [4,8] [],aW b)])
theorem ed:cf_slices_IndexFunc_Rule.map told=some (vE (aA cf_slices_IndexFunc_Rule)):=by kernel_rfl
theorem rn:tree cd=eg dW:=aj ed
theorem cu:round 0 [4,8,9] [] [4,8] [] (dW 0)=aW dW:=aw ed 0 fun _=>rfl
theorem rG:cf_slices_IndexFunc_Rule=some cd:=ah ed
noncomputable def cf_term_Check:Option PC:=av {ctx with fr:=[2,3],nh:=[]} Tryz.f189 ((aa aq 189).getD default) [1]
noncomputable def nX:PC:=hpc cf_term_Check
def uQ:PT:=
 (.call ⟨[],[(1,(.mk [r0]))]⟩ [] 5 221 [(.mk [tp,GF,OC]),(pi 1)]
 (.ite (pgt r5 (pi 60))
 (.ret (.tup [(pi 0),(pi 6)]))
 (.call ⟨[],[]⟩ [] 8 222 [(.mk [(pc o1 0),(pc o1 1),(pc o1 2)])]
 (.ret (.tup [(.tget r8 0),(.tget r8 1)])))))
def Sb (b:Nat→PC):PT×List (Shp×PT):=(uQ,[])
theorem CV:cf_term_Check.map told=some (Sb (aA cf_term_Check)):=by kernel_rfl
theorem I6:tree nX=uQ:=aj CV
theorem Jw:cf_term_Check=some nX:=ah CV
noncomputable def cf_term_measure:Option PC:=av {ctx with fr:=[4,5],nh:=[]} Tryz.f221 ((aa aq 221).getD default) [2,7,12295]
noncomputable def j6:PC:=hpc cf_term_measure
noncomputable def qs:Nat→PC:=hbd cf_term_measure
def Gx (b:Nat→PC):PC:=.block 0 [5,13,14] [] (.loop [5,13] [] (b 0))
def dM (b:Nat→PC):PT:=
 (.ite (plt r13 r12)
 (.blockS ⟨[(14,(plt r13 r12))],[]⟩ 1 [5,7,15,16,17,18,19,20,21,22,23,24] [7,12295]
 (.chk (pix r11 r13)
 (.call ⟨[(17,r5)],[]⟩ [] 21 221 [(.mk [(pc (.setc qO 0 (pn r11 r13)) 0),(pc (.setc qO 0 (pn r11 r13)) 1),(pc (.setc qO 0 (pn r11 r13)) 2)]),(aF r1 (pi 1))]
 (.ite (pgt (aF r17 r21) (pi 60))
 (.exit 0 ⟨[(5,(aF r17 r21))],[]⟩)
 (.next ⟨[(5,(aF r17 r21))],[]⟩))))
 (.next ⟨[(13,(aF r13 (pi 1)))],[]⟩))
 (.exit 0 ⟨[(14,(plt r13 r12))],[]⟩))
def j8 (b:Nat→PC):PT:=
 (.ite (pgt r1 (pi 8))
 (.ret (pi 61))
 (.brk ⟨[(13,(pi 0)),(12,Ad),(11,OC),(5,(pi 1))],[]⟩
(Gx b)
 (.ret r5)))
def Ln (b:Nat→PC):PT×List (Shp×PT):=(j8 b,[(.lp 0 [5,13,14] [] [5,13] [],dM b)])
theorem pM:cf_term_measure.map told=some (Ln (aA cf_term_measure)):=by kernel_rfl
theorem sm:tree j6=j8 qs:=aj pM
theorem gQ:round 0 [5,13,14] [] [5,13] [] (qs 0)=dM qs:=aw pM 0 fun _=>rfl
theorem Dz:cf_term_measure=some j6:=ah pM
noncomputable def cf_term_check:Option PC:=av {ctx with fr:=[2,3,5,7,8,38,47,10,11,12],nh:=[]} Tryz.f222 ((aa aq 222).getD default) [1,4,6,12294,9]
noncomputable def oD:PC:=hpc cf_term_check
noncomputable def jJ:Nat→PC:=hbd cf_term_check
def LB (b:Nat→PC):PC:=.block 0 [2,3,20,21] [4] (.loop [2,3,20] [4] (b 0))
def LO (b:Nat→PC):PC:=.block 3 [2,3,10,82,83] [] (.loop [2,3,10,82] [] (b 1))
def fI (b:Nat→PC):PT:=
 (.ite (plt r20 r19)
 (.blockS ⟨[],[]⟩ 1 [2,3,5,6,7,8,22,23,24,25,26,27,28,29,30,31,33,34,35,36] [6,12294,4]
 (.chk (pix r18 r20)
 (.call ⟨[(5,r20)],[]⟩ [] 27 222 [(.mk [(pc (.setc qO 0 wg) 0),(pc (.setc qO 0 wg) 1),(pc (.setc qO 0 wg) 2)])]
 (.ite (pne (.tget r27 1) (pi 0))
 (.ret (.tup [(pi 0),(.tget r27 1)]))
 (.chk (pix o4 r5)
 (.next ⟨[],[(4,(.setn o4 r5 0 (.tget r27 0)))]⟩)))))
 (.next ⟨[(20,(aF r20 (pi 1)))],[]⟩))
 (.exit 0 ⟨[(21,(plt r20 r19))],[]⟩))
def bM (b:Nat→PC):PT:=
 (.ite (plt r82 r81)
 (.chk (pix r80 r82)
 (.ite (.pick (peq (pn r80 r82) (pi (-1))) (peq r10 (pi (-1))) pF)
 (.chk (pix o4 r82)
 (.ite (pne (pn o4 r82) (.pick (peq (pn r80 r82) (pi (-1))) (pn o4 r82) (pn r80 r82)))
 (.ret (.tup [(pi 0),(pi 11)]))
 (.next ⟨[(10,(pn o4 r82)),(82,(aF r82 (pi 1)))],[]⟩)))
 (.chk (pix o4 r82)
 (.ite (pne (pn o4 r82) (.pick (peq (pn r80 r82) (pi (-1))) r10 (pn r80 r82)))
 (.ret (.tup [(pi 0),(pi 11)]))
 (.next ⟨[(82,(aF r82 (pi 1)))],[]⟩)))))
 (.exit 3 ⟨[(83,(plt r82 r81))],[]⟩))
def vk (b:Nat→PC):PT:=
 (.chk (.an (pge Ad (pi 0)) (ple Ad aZ))
 (.chk (peq Ad Ad)
 (.brk ⟨[(20,(pi 0)),(19,Ad),(18,OC),(4,pN),(3,(pi 0)),(2,(pi 0))],[(4,(.rep Ad (pi 0))),(1,(.mk [r0]))]⟩
(LB b)
 (.blockS ⟨[],[]⟩ 2 [2,3,38,39,40,41,42,46,47,48,49,50,51,55,56,60] []
 (.iteS ⟨[],[]⟩ (.pick (plt (pc o1 0) (pi 0)) pT (pgt (pc o1 0) (pi 13))) [2,3,47,48,49,50,51,55,56,60] []
 (.ret (.tup [(pi 0),(pi 1)]))
 (.iteS ⟨[],[]⟩ (.pick (.pick (peq (pc o1 0) (pi 0)) pT (peq (pc o1 0) (pi 1))) pT (peq (pc o1 0) (pi 2))) [2,3] []
 (.call ⟨[],[]⟩ [] 62 245 [(.mk [(pc o1 0),(pc o1 1),(pc o1 2)])]
 (.ret (.tup [(.tget r62 0),(.tget r62 1)])))
 (.next ⟨[],[]⟩)
 (.next ⟨[],[]⟩))
 (.next ⟨[],[]⟩))
 (.call ⟨[],[]⟩ [] 67 246 [(pc o1 0)]
 (.ite (.pick (pne (.llen o4) (.llen (pc (.setc sT 0 r67) 0))) pT (pne (pc o1 1) (pi 0)))
 (.ret (.tup [(pi 0),(pi 2)]))
 (.brk ⟨[(82,(pi 0)),(81,(.llen (pc (.setc sT 0 r67) 0))),(80,(pc (.setc sT 0 r67) 0)),(10,(pi (-1)))],[(9,(.setc sT 0 r67))]⟩
(LO b)
 (.ite (peq (pc o9 1) (pi (-1)))
 (.ret (.tup [r10,(pi 0)]))
 (.ret (.tup [(pc o9 1),(pi 0)]))))))))))
def RB (b:Nat→PC):PT×List (Shp×PT):=(vk b,[(.lp 0 [2,3,20,21] [4] [2,3,20] [4],fI b),(.lp 3 [2,3,10,82,83] [] [2,3,10,82] [],bM b)])
theorem nZ:cf_term_check.map told=some (RB (aA cf_term_check)):=by kernel_rfl
theorem I7:tree oD=vk jJ:=aj nZ
theorem kO:round 0 [2,3,20,21] [4] [2,3,20] [4] (jJ 0)=fI jJ:=aw nZ 0 fun _=>rfl
theorem bX:round 3 [2,3,10,82,83] [] [2,3,10,82] [] (jJ 1)=bM jJ:=aw nZ 1 fun _=>rfl
theorem JU:cf_term_check=some oD:=ah nZ
noncomputable def cf_term_leaf:Option PC:=av {ctx with fr:=[2,3,12,20,4,5],nh:=[]} Tryz.f245 ((aa aq 245).getD default) [1]
noncomputable def qY:PC:=hpc cf_term_leaf
def xb:PT:=
 (.ite (pgt Ad (pi 0))
 (.ret (.tup [(pi 0),(pi 2)]))
 (.blockS ⟨[(11,tp)],[(1,(.mk [r0]))]⟩ 0 [2,3,12,13,20,21] []
 (.iteS ⟨[],[]⟩ (peq r11 (pi 0)) [2,3,20,21] []
 (.call ⟨[],[]⟩ [] 16 249 [(pc o1 1)]
 (.ite (pne r16 (pc o1 1))
 (.ret (.tup [(pi 0),(pi 3)]))
 (.ret (.tup [(pi 0),(pi 0)]))))
 (.ite (peq r11 (pi 1))
 (.ite (.pick (plt (pc o1 1) (pi 0)) pT (pgt (pc o1 1) (pi 1)))
 (.ret (.tup [(pi 0),(pi 3)]))
 (.ret (.tup [(pi 1),(pi 0)])))
 (.next ⟨[],[]⟩))
 (.next ⟨[],[]⟩))
 (.call ⟨[],[]⟩ [] 33 247 [(pc o1 1)]
 (.ite (.nt (.tget r33 1))
 (.ret (.tup [(pi 0),(pi 10)]))
 (.ret (.tup [(.tget r33 0),(pi 0)]))))))
def T3 (b:Nat→PC):PT×List (Shp×PT):=(xb,[])
theorem Gz:cf_term_leaf.map told=some (T3 (aA cf_term_leaf)):=by kernel_rfl
theorem Ls:tree qY=xb:=aj Gz
theorem LL:cf_term_leaf=some qY:=ah Gz
noncomputable def cf_term_cut:Option PC:=av {ctx with fr:=[2],nh:=[]} Tryz.f249 ((aa aq 249).getD default) []
noncomputable def ui:PC:=hpc cf_term_cut
def zt:PT:=
 (.ret (.mn (.mx r0 (pi (-1099511627776))) Jo))
def Wf (b:Nat→PC):PT×List (Shp×PT):=(zt,[])
theorem KV:cf_term_cut.map told=some (Wf (aA cf_term_cut)):=by kernel_rfl
theorem Pt:tree ui=zt:=aj KV
theorem NG:cf_term_cut=some ui:=ah KV
noncomputable def cf_term_VarType:Option PC:=av {ctx with fr:=[2,3,4,11],nh:=[]} Tryz.f247 ((aa aq 247).getD default) []
noncomputable def ke:PC:=hpc cf_term_VarType
def pP:PT:=
 (.ite (.pick (plt r0 (pi 0)) pT (pgt r0 (pi 19)))
 (.ret (.tup [(pi 0),pF]))
 (.ite (plt r0 (pi 7))
 (.ret (.tup [(pi 0),pT]))
 (.ret (.tup [(pi 1),pT]))))
def M2 (b:Nat→PC):PT×List (Shp×PT):=(pP,[])
theorem yk:cf_term_VarType.map told=some (M2 (aA cf_term_VarType)):=by kernel_rfl
theorem Eg:tree ke=pP:=aj yk
theorem DL:cf_term_VarType=some ke:=ah yk
noncomputable def cf_term_shapeOf:Option PC:=av {ctx with fr:=[4,8,13,17,21],nh:=[]} Tryz.f246 ((aa aq 246).getD default) [2]
noncomputable def j7:PC:=hpc cf_term_shapeOf
def qd:PT:=
 (.ite (peq r0 (pi 3))
 (.ret (.mk [(pc (.setc sT 0 (.mk [(.lst [(pi 1)]),(pi 1)])) 0),(pc (.setc sT 0 (.mk [(.lst [(pi 1)]),(pi 1)])) 1)]))
 (.ite (.pick (peq r0 (pi 4)) (peq r0 (pi 4)) (peq r0 (pi 5)))
 (.ret (.mk [(pc (.setc sT 0 (.mk [(.lst [(pi 1),(pi 1)]),(pi 1)])) 0),(pc (.setc sT 0 (.mk [(.lst [(pi 1),(pi 1)]),(pi 1)])) 1)]))
 (.ite (peq r0 (pi 6))
 (.ret (.mk [(pc acH 0),(pc acH 1)]))
 (.ite (peq r0 (pi 7))
 (.ret (.mk [(pc (.setc sT 0 (.mk [(.lst [(pi 0),(pi 0)]),(pi 1)])) 0),(pc (.setc sT 0 (.mk [(.lst [(pi 0),(pi 0)]),(pi 1)])) 1)]))
 (.ite (peq r0 (pi 8))
 (.ret (.mk [(pc (.setc sT 0 (.mk [(.lst [(pi (-1)),(pi (-1))]),(pi 1)])) 0),(pc (.setc sT 0 (.mk [(.lst [(pi (-1)),(pi (-1))]),(pi 1)])) 1)]))
 (.ret (.mk [(pc (.setc sT 0 (.mk [(.lst [(pi 0),(pi 0)]),(pi 0)])) 0),(pc (.setc sT 0 (.mk [(.lst [(pi 0),(pi 0)]),(pi 0)])) 1)])))))))
def M4 (b:Nat→PC):PT×List (Shp×PT):=(qd,[])
theorem yd:cf_term_shapeOf.map told=some (M4 (aA cf_term_shapeOf)):=by kernel_rfl
theorem Ey:tree j7=qd:=aj yd
theorem Dy:cf_term_shapeOf=some j7:=ah yd
noncomputable def cf_term_Eval:Option PC:=av {ctx with fr:=[5,6,8],nh:=[]} Tryz.f118 ((aa aq 118).getD default) [2,4,7]
noncomputable def rj:PC:=hpc cf_term_Eval
def xQ:PT:=
 (.call ⟨[],[(4,qv),(2,(.mk [r0]))]⟩ [] 11 189 [(.mk [tp,GF,OC])]
 (.ite (pne (.tget r11 1) (pi 0))
 (.ret WH)
 (.call ⟨[],[]⟩ [] 21 190 [(.mk [r1]),(.mk [(pc o2 0),(pc o2 1),(pc o2 2)])]
 (.ret (.mk [(pc aeP 0),(pc aeP 1)])))))
def TM (b:Nat→PC):PT×List (Shp×PT):=(xQ,[])
theorem FY:cf_term_Eval.map told=some (TM (aA cf_term_Eval)):=by kernel_rfl
theorem Lm:tree rj=xQ:=aj FY
theorem MT:cf_term_Eval=some rj:=ah FY
noncomputable def cf_term_machine_run:Option PC:=av {ctx with fr:=[5,15,21,9,11],nh:=[]} Tryz.f190 ((aa aq 190).getD default) [2,3,4,6,33,7,8,10,12298,12]
noncomputable def eC:PC:=hpc cf_term_machine_run
noncomputable def jq:Nat→PC:=hbd cf_term_machine_run
def yW (b:Nat→PC):PC:=.block 1 [45,46] [7,8] (.loop [45] [7,8] (b 0))
def bR (b:Nat→PC):PT:=
 (.ite (plt r45 r44)
 (.blockS ⟨[],[]⟩ 2 [9,10,47,48,49,50,51,52,53,54,55,56,57,58,59,60,61] [10,12298,8,7]
 (.chk (pix r43 r45)
 (.call ⟨[(54,r45),(52,r45)],[]⟩ [] 57 190 [(.mk [(pc o2 0)]),(.mk [(pc (.setc qO 0 (pn r43 r45)) 0),(pc (.setc qO 0 (pn r43 r45)) 1),(pc (.setc qO 0 (pn r43 r45)) 2)])]
 (.chk (pix o7 r52)
 (.chk (pix o8 r54)
 (.next ⟨[],[(8,(.setn o8 r54 0 (.tget r57 1))),(7,(.setn o7 r52 0 (.tget r57 0)))]⟩)))))
 (.next ⟨[(45,(aF r45 (pi 1)))],[]⟩))
 (.exit 1 ⟨[(46,(plt r45 r44))],[]⟩))
def cK (b:Nat→PC):PT:=
 (.blockS ⟨[(14,(pc (.mk [r1]) 0))],[(4,qv),(3,(.mk [r1])),(2,(.mk [r0]))]⟩ 0 [5,15,16,21,22] [4]
 (.iteS ⟨[],[]⟩ (.pick (peq r14 (pi 0)) (peq r14 (pi 0)) (peq r14 (pi 1))) [5,21,22] [4]
 (.ret (.tup [(.mk [(pc (.setc o4 0 (.mk [pT,(pc o3 1)])) 0),(pc (.setc o4 0 (.mk [pT,(pc o3 1)])) 1)]),pL]))
 (.iteS ⟨[],[]⟩ (peq r14 (pi 2)) [5] [4]
 (.call ⟨[],[]⟩ [] 26 223 [(.mk [(pc o2 0)]),(pc o3 1)]
 (.ite (pc (.setc qv 0 r26) 0)
 (.ret (.tup [(.mk [(pc adQ 0),(pc adQ 1)]),pL]))
 (.ret (.tup [WH,(.lst [(pc o3 1)])]))))
 (.next ⟨[],[]⟩)
 (.next ⟨[],[]⟩))
 (.next ⟨[],[]⟩))
 (.chk (.an (pge yz (pi 0)) (ple yz aZ))
 (.chk (peq yz yz)
 (.brk ⟨[(45,(pi 0)),(44,yz),(43,(pc o3 2)),(8,pN),(7,pN)],[(8,(.rep yz pL)),(7,(.rep yz qv))]⟩
(yW b)
 (.chk (.nt (.an (.an (peq (pc o3 0) (pi 6)) pT) (.nt (pix o7 (pi 0)))))
 (.ite (.pick (peq (pc o3 0) (pi 6)) (pc (pn o7 (pi 0)) 0) pF)
 (.chk (pix o7 (pi 0))
 (.chk (pix o7 XJ)
 (.chk (pix o8 XJ)
 (.ret (.tup [(.mk [(pc (.setc o4 0 (.sub (pn o7 XJ) 0 2)) 0),(pc (.setc o4 0 (.sub (pn o7 XJ) 0 2)) 1)]),(pn o8 XJ)])))))
 (.call ⟨[],[]⟩ [] 88 224 [(pc o3 0),o7]
 (.ite (pc (.setc qv 0 r88) 0)
 (.ret (.tup [(.mk [(pc adx 0),(pc adx 1)]),pL]))
 (.call ⟨[(92,(.mk [pF,(pi 0)]))],[]⟩ [] 94 225 [o8]
 (.ret (.tup [(.mk [(pc (.setc o4 0 r92) 0),(pc (.setc o4 0 r92) 1)]),r94])))))))))))
def B3 (b:Nat→PC):PT×List (Shp×PT):=(cK b,[(.lp 1 [45,46] [7,8] [45] [7,8],bR b)])
theorem jt:cf_term_machine_run.map told=some (B3 (aA cf_term_machine_run)):=by kernel_rfl
theorem wS:tree eC=cK jq:=aj jt
theorem dZ:round 1 [45,46] [7,8] [45] [7,8] (jq 0)=bR jq:=aw jt 0 fun _=>rfl
theorem xL:cf_term_machine_run=some eC:=ah jt
noncomputable def cf_term_machine_value:Option PC:=av {ctx with fr:=[5,6],nh:=[]} Tryz.f223 ((aa aq 223).getD default) [2,4]
noncomputable def dt:PC:=hpc cf_term_machine_value
def gh:PT:=
 (.chk (.nt (.an (.an (.nt (pge r1 (.llen tp))) pT) (.nt (pix tp r1))))
 (.ite (.pick (pge r1 (.llen tp)) pT (.nt (pc (pn tp r1) 0)))
 (.ret (.mk [(pc (.setc qv 0 (.mk [pF,(pi 0)])) 0),(pc (.setc qv 0 (.mk [pF,(pi 0)])) 1)]))
 (.call ⟨[],[(4,qv),(2,(.mk [r0]))]⟩ [] 24 247 [r1]
 (.iteS ⟨[],[]⟩ (peq (.tget r24 0) (pi 1)) [] [4]
 (.chk (pix (pc o2 0) r1)
 (.call ⟨[],[]⟩ [] 36 248 [(pne (pc (pn (pc o2 0) r1) 1) (pi 0))]
 (.ret (.mk [(pc (.setc o4 0 r36) 0),(pc (.setc o4 0 r36) 1)]))))
 (.next ⟨[],[]⟩)
 (.chk (pix (pc o2 0) r1)
 (.call ⟨[],[]⟩ [] 43 249 [(pc (pn (pc o2 0) r1) 1)]
 (.ret (.mk [(pc (.setc o4 0 (.mk [pT,r43])) 0),(pc (.setc o4 0 (.mk [pT,r43])) 1)]))))))))
def yR (b:Nat→PC):PT×List (Shp×PT):=(gh,[])
theorem mZ:cf_term_machine_value.map told=some (yR (aA cf_term_machine_value)):=by kernel_rfl
theorem vF:tree dt=gh:=aj mZ
theorem u7:cf_term_machine_value=some dt:=ah mZ
noncomputable def cf_term_yes:Option PC:=av {ctx with fr:=[],nh:=[]} Tryz.f248 ((aa aq 248).getD default) [2]
noncomputable def uo:PC:=hpc cf_term_yes
def AL:PT:=
 (.ite r0
 (.ret (.mk [(pc ZV 0),(pc ZV 1)]))
 (.ret (.mk [(pc aac 0),(pc aac 1)])))
def VQ (b:Nat→PC):PT×List (Shp×PT):=(AL,[])
theorem J5:cf_term_yes.map told=some (VQ (aA cf_term_yes)):=by kernel_rfl
theorem QC:tree uo=AL:=aj J5
theorem P7:cf_term_yes=some uo:=ah J5
noncomputable def cf_term_combine:Option PC:=av {ctx with fr:=[9,22,41,6,7,82,88,94],nh:=[]} Tryz.f224 ((aa aq 224).getD default) [4,5]
noncomputable def ky:PC:=hpc cf_term_combine
def pB:PT:=
 (.blockS ⟨[(8,r0)],[(4,qv)]⟩ 0 [9,10,22,23] [4]
 (.iteS ⟨[],[]⟩ (peq r8 (pi 3)) [22,23] [4]
 (.chk (pix r1 (pi 0))
 (.iteS ⟨[],[]⟩ (pc (pn r1 (pi 0)) 0) [] [4]
 (.chk (pix r1 (pi 0))
 (.call ⟨[],[]⟩ [] 20 248 [(peq (pc (pn r1 (pi 0)) 1) (pi 0))]
 (.ret (.mk [(pc (.setc o4 0 r20) 0),(pc (.setc o4 0 r20) 1)]))))
 (.next ⟨[],[]⟩)
 (.ret WH)))
 (.iteS ⟨[],[]⟩ (.pick (peq r8 (pi 4)) (peq r8 (pi 4)) (peq r8 (pi 5))) [] [4]
 (.call ⟨[],[]⟩ [] 27 248 [(peq r0 (pi 5))]
 (.chk (pix r1 (pi 0))
 (.chk (.nt (.an (.an (.nt aeU) pT) (.nt (pix r1 (pi 1)))))
 (.ite (.pick aeU pT (.an (.cb .eql (pc Aj 0) (pc Tn 0)) (.an (peq (pc Aj 1) (pc Tn 1)) pT)))
 (.ret (.mk [(pc (.setc o4 0 Tn) 0),(pc (.setc o4 0 Tn) 1)]))
 (.next ⟨[],[]⟩)))))
 (.ite (peq r8 (pi 6))
 (.chk (pix r1 (pi 1))
 (.chk (.nt (.an (.an (pc Aj 0) pT) (.nt (pix r1 (pi 1)))))
 (.chk (.nt (.an (.an (pc Aj 0) pT) (.nt (pix r1 (pi 2)))))
 (.ite (.pick (pc Aj 0) (.an (.cb .eql (pc Aj 0) (pc (pn r1 (pi 2)) 0)) (.an (peq (pc Aj 1) (pc (pn r1 (pi 2)) 1)) pT)) pF)
 (.ret (.mk [(pc (.setc o4 0 Aj) 0),(pc (.setc o4 0 Aj) 1)]))
 (.ret WH)))))
 (.next ⟨[],[]⟩))
 (.next ⟨[],[]⟩))
 (.next ⟨[],[]⟩))
 (.chk (pix r1 (pi 0))
 (.chk (.nt (.an (.an (.nt (.nt (pc (pn r1 (pi 0)) 0))) pT) (.nt (pix r1 (pi 1)))))
 (.ite (.pick (.nt (pc (pn r1 (pi 0)) 0)) pT (.nt (pc Aj 0)))
 (.ret WH)
 (.chk (pix r1 (pi 1))
 (.blockS ⟨[(81,r0),(7,(pc Aj 1)),(6,(pc (pn r1 (pi 0)) 1))],[]⟩ 1 [82,83,88,89,94,95] [4]
 (.iteS ⟨[],[]⟩ (.pick (peq r81 (pi 4)) (peq r81 (pi 4)) (peq r81 (pi 5))) [88,89,94,95] [4]
 (.call ⟨[],[]⟩ [] 87 248 [(peq r0 (pi 4))]
 (.ret (.mk [(pc (.setc o4 0 r87) 0),(pc (.setc o4 0 r87) 1)])))
 (.iteS ⟨[],[]⟩ (peq r81 (pi 7)) [94,95] [4]
 (.call ⟨[],[]⟩ [] 93 248 [(plt r6 r7)]
 (.ret (.mk [(pc (.setc o4 0 r93) 0),(pc (.setc o4 0 r93) 1)])))
 (.iteS ⟨[],[]⟩ (peq r81 (pi 8)) [] [4]
 (.call ⟨[],[]⟩ [] 99 248 [(peq r6 r7)]
 (.ret (.mk [(pc (.setc o4 0 r99) 0),(pc (.setc o4 0 r99) 1)])))
 (.next ⟨[],[]⟩)
 (.next ⟨[],[]⟩))
 (.next ⟨[],[]⟩))
 (.next ⟨[],[]⟩))
 (.call ⟨[],[]⟩ [] 103 250 [r0,r6,r7]
 (.ret (.mk [(pc (.setc o4 0 (.mk [pT,afU])) 0),(pc (.setc o4 0 (.mk [pT,afU])) 1)])))))))))
def Mv (b:Nat→PC):PT×List (Shp×PT):=(pB,[])
theorem yc:cf_term_combine.map told=some (Mv (aA cf_term_combine)):=by kernel_rfl
theorem Ev:tree ky=pB:=aj yc
theorem EG:cf_term_combine=some ky:=ah yc
noncomputable def cf_term_arithmetic:Option PC:=av {ctx with fr:=[6,8,14,20,25],nh:=[]} Tryz.f250 ((aa aq 250).getD default) []
noncomputable def fA:PC:=hpc cf_term_arithmetic
def kN:PT:=
 (.blockS ⟨[(7,r0)],[]⟩ 0 [6,8,9,14,15,20,21,25,26] []
 (.iteS ⟨[],[]⟩ (peq r7 (pi 9)) [6,14,15,20,21,25,26] []
 (.call ⟨[],[]⟩ [] 13 249 [(aF r1 r2)]
 (.ret r13))
 (.iteS ⟨[],[]⟩ (peq r7 (pi 10)) [6,20,21,25,26] []
 (.call ⟨[],[]⟩ [] 19 249 [(aQ r1 r2)]
 (.ret r19))
 (.iteS ⟨[],[]⟩ (peq r7 (pi 11)) [6,25,26] []
 (.call ⟨[],[]⟩ [] 24 278 [r1,r2]
 (.ret r24))
 (.ite (peq r7 (pi 12))
 (.ret (.mn r1 r2))
 (.next ⟨[],[]⟩))
 (.next ⟨[],[]⟩))
 (.next ⟨[],[]⟩))
 (.next ⟨[],[]⟩))
 (.ret (.mx r1 r2)))
def EO (b:Nat→PC):PT×List (Shp×PT):=(kN,[])
theorem rX:cf_term_arithmetic.map told=some (EO (aA cf_term_arithmetic)):=by kernel_rfl
theorem yX:tree fA=kN:=aj rX
theorem yM:cf_term_arithmetic=some fA:=ah rX
noncomputable def cf_term_product:Option PC:=av {ctx with fr:=[4,5,6,7],nh:=[]} Tryz.f278 ((aa aq 278).getD default) []
noncomputable def kB:PC:=hpc cf_term_product
def pA:PT:=
 (.call ⟨[],[]⟩ [] 19 285 [(.conv .u64 (.mx r0 (aQ (pi 0) r0))),(.conv .u64 (.mx r1 (aQ (pi 0) r1)))]
 (.ite (.cb .neq (plt r0 (pi 0)) (plt r1 (pi 0)))
 (.ret (aQ (pi 0) aeZ))
 (.ret aeZ)))
def LR (b:Nat→PC):PT×List (Shp×PT):=(pA,[])
theorem yA:cf_term_product.map told=some (LR (aA cf_term_product)):=by kernel_rfl
theorem DT:tree kB=pA:=aj yA
theorem DA:cf_term_product=some kB:=ah yA
noncomputable def cf_bits_Mul64:Option PC:=av {ctx with fr:=[4,5,6,7,8,9,10,11,12,13],nh:=[]} Tryz.f285 ((aa aq 285).getD default) []
noncomputable def oO:PC:=hpc cf_bits_Mul64
def ve:PT:=
 (.chk (pge Td (pi 0))
 (.ret (.tup [(.ai .add .u64 (.ai .add .u64 (.ai .mul .u64 (.ai .shr .u64 r0 Td) (.ai .shr .u64 r1 Td)) (.ai .shr .u64 aeQ Td)) (.ai .shr .u64 (.ai .add .u64 (.ai .and .u64 aeQ (.con (.v (.int .u64 4294967295)))) (.ai .mul .u64 (.ai .and .u64 r0 (.con (.v (.int .u64 4294967295)))) (.ai .shr .u64 r1 Td))) Td)),(.ai .mul .u64 r0 r1)])))
def RM (b:Nat→PC):PT×List (Shp×PT):=(ve,[])
theorem CE:cf_bits_Mul64.map told=some (RM (aA cf_bits_Mul64)):=by kernel_rfl
theorem J2:tree oO=ve:=aj CE
theorem Jx:cf_bits_Mul64=some oO:=ah CE
noncomputable def cf_slices_Concat_int:Option PC:=av {ctx with fr:=[2,3,5,8],nh:=[]} Tryz.f225 ((aa aq 225).getD default) [6]
noncomputable def dS:PC:=hpc cf_slices_Concat_int
noncomputable def cl:Nat→PC:=hbd cf_slices_Concat_int
def xH (b:Nat→PC):PC:=.block 0 [3,11,12] [] (.loop [3,11] [] (b 0))
def xS (b:Nat→PC):PC:=.block 2 [6,27,28] [6] (.loop [6,27] [6] (b 1))
def cM (b:Nat→PC):PT:=
 (.ite (plt r11 r10)
 (.chk (pix r9 r11)
 (.ite (plt (aF r3 (.llen (pn r9 r11))) (pi 0))
 (.chk (.nt pT)
 (.chk (.nt pT)
 (.next ⟨[(3,(aF r3 (.llen (pn r9 r11)))),(11,(aF r11 (pi 1)))],[]⟩)))
 (.next ⟨[(3,(aF r3 (.llen (pn r9 r11)))),(11,(aF r11 (pi 1)))],[]⟩)))
 (.exit 0 ⟨[(12,(plt r11 r10))],[]⟩))
def cT (b:Nat→PC):PT:=
 (.ite (plt r27 r26)
 (.chk (pix r25 r27)
 (.chk (ple (.llen (.app o6 (pn r25 r27))) aZ)
 (.next ⟨[(6,pN),(27,(aF r27 (pi 1)))],[(6,(.app o6 (pn r25 r27)))]⟩)))
 (.exit 2 ⟨[(28,(plt r27 r26))],[]⟩))
def gF (b:Nat→PC):PT:=
 (.brk ⟨[(11,(pi 0)),(10,(.llen r0)),(9,r0),(3,(pi 0))],[]⟩
(xH b)
 (.call ⟨[],[]⟩ [] 24 251 [pL,r3]
 (.brk ⟨[(27,(pi 0)),(26,(.llen r0)),(25,r0),(6,pN)],[(6,r24)]⟩
(xS b)
 (.ret o6))))
def AE (b:Nat→PC):PT×List (Shp×PT):=(gF b,[(.lp 0 [3,11,12] [] [3,11] [],cM b),(.lp 2 [6,27,28] [6] [6,27] [6],cT b)])
theorem dO:cf_slices_Concat_int.map told=some (AE (aA cf_slices_Concat_int)):=by kernel_rfl
theorem wu:tree dS=gF cl:=aj dO
theorem jk:round 0 [3,11,12] [] [3,11] [] (cl 0)=cM cl:=aw dO 0 fun _=>rfl
theorem jf:round 2 [6,27,28] [6] [6,27] [6] (cl 1)=cT cl:=aw dO 1 fun _=>rfl
theorem vR:cf_slices_Concat_int=some dS:=ah dO
noncomputable def cf_ask_Tri:Option PC:=av {ctx with fr:=[2,3,7,12],nh:=[]} Tryz.f41 ((aa aq 41).getD default) [1]
noncomputable def wN:PC:=hpc cf_ask_Tri
def Dk:PT:=
 (.ite (pne HV (pi 0))
 (.ret (pi 0))
 (.ite (.nt tp)
 (.ret (pi 2))
 (.ite (pne GF (pi 0))
 (.ret (pi 1))
 (.ret (pi 0)))))
def XY (b:Nat→PC):PT×List (Shp×PT):=(Dk,[])
theorem QN:cf_ask_Tri.map told=some (XY (aA cf_ask_Tri)):=by kernel_rfl
theorem Rk:tree wN=Dk:=aj QN
theorem Q4:cf_ask_Tri=some wN:=ah QN
noncomputable def cf_ask_Maturity:Option PC:=av {ctx with fr:=[8,9,10,11],nh:=[]} Tryz.f50 ((aa aq 50).getD default) [4,6]
noncomputable def kq:PC:=hpc cf_ask_Maturity
def qj:PT:=
 (.call ⟨[],[(6,(.mk [r2])),(4,(.mk [r0]))]⟩ [] 14 26 [(mkA 19 (.mk [r2])),r3]
 (.ite (peq (.llen (pc (.setc o6 0 r14) 15)) (pi 0))
 (.ret (pi (-1)))
 (.call ⟨[],[(6,(.setc o6 0 r14))]⟩ [] 23 38 [(mkA 8 o4),r1,(pi 6),(mkA 19 (.setc o6 0 r14)),r3]
 (.call ⟨[],[]⟩ [] 24 43 [r23]
 (.call ⟨[(29,(mkA 15 o6)),(27,(mkA 8 o4)),(9,(.mx r24 (pi 0)))],[]⟩ [] 31 106 [(mkA 19 o6)]
 (.call ⟨[],[]⟩ [] 33 105 [r27,r29,r31,r9]
 (.ite (pne (.tget r33 1) (pi 0))
 (.ret (pi (-1)))
 (.ret (.tget r33 0)))))))))
def Mg (b:Nat→PC):PT×List (Shp×PT):=(qj,[])
theorem xW:cf_ask_Maturity.map told=some (Mg (aA cf_ask_Maturity)):=by kernel_rfl
theorem El:tree kq=qj:=aj xW
theorem Es:cf_ask_Maturity=some kq:=ah xW
noncomputable def cf_ask_Number:Option PC:=av {ctx with fr:=[2],nh:=[]} Tryz.f43 ((aa aq 43).getD default) [1]
noncomputable def oh:PC:=hpc cf_ask_Number
def uU:PT:=
 (.ite (.pick (pne HV (pi 0)) pT (.nt tp))
 (.ret (pi (-1)))
 (.ret GF))
def Rl (b:Nat→PC):PT×List (Shp×PT):=(uU,[])
theorem De:cf_ask_Number.map told=some (Rl (aA cf_ask_Number)):=by kernel_rfl
theorem Jq:tree oh=uU:=aj De
theorem IV:cf_ask_Number=some oh:=ah De
noncomputable def cf_record_Seen:Option PC:=av {ctx with fr:=[2,4],nh:=[]} Tryz.f106 ((aa aq 106).getD default) [1,3,6,8]
noncomputable def mK:PC:=hpc cf_record_Seen
noncomputable def hG:Nat→PC:=hbd cf_record_Seen
def HO (b:Nat→PC):PC:=.block 0 [3,16,17] [3] (.loop [3,16] [3] (b 0))
def IX (b:Nat→PC):PC:=.block 2 [2,3,36,37] [3] (.loop [2,3,36] [3] (b 1))
def eO (b:Nat→PC):PT:=
 (.ite (plt r16 r15)
 (.chk zm
 (.ite (.pick (peq r4 (pi 1)) (peq (pc (.setc z9 0 m6) 0) (pi 1)) pF)
 (.chk (ple (.llen (.app o3 (.lst [(pc (.setc z9 0 m6) 6)]))) aZ)
 (.next ⟨[(3,pN),(16,Il)],[(3,(.app o3 (.lst [(pc (.setc z9 0 m6) 6)])))]⟩))
 (.next ⟨[(16,Il)],[]⟩)))
 (.exit 0 ⟨[(17,(plt r16 r15))],[]⟩))
def bW (b:Nat→PC):PT:=
 (.ite (plt r36 r35)
 (.chk (pix r34 r36)
 (.ite (.pick (peq r4 (pi 0)) (peq (pc VN 0) (pi 2)) pF)
 (.ret (pc VN 6))
 (.ite (.pick (peq r4 (pi 1)) (peq (pc VN 0) (pi 1)) pF)
 (.chk (ple (.llen (.app o3 (.lst [(pc VN 6)]))) aZ)
 (.next ⟨[(3,pN),(36,(aF r36 (pi 1)))],[(3,(.app o3 (.lst [(pc VN 6)])))]⟩))
 (.next ⟨[(36,(aF r36 (pi 1)))],[]⟩))))
 (.exit 2 ⟨[(37,(plt r36 r35))],[]⟩))
def su (b:Nat→PC):PT:=
 (.brk ⟨[(16,(pi 0)),(15,(.llen AY)),(14,AY),(4,QI),(3,pN),(2,(pi 0))],[(3,pL),(1,(.mk [r0]))]⟩
(HO b)
 (.brk ⟨[(36,(pi 0)),(35,(.llen (pc o1 17))),(34,(pc o1 17))],[]⟩
(IX b)
 (.ite (peq (.llen o3) (pi 0))
 (.ret (pi (-1)))
 (.call ⟨[],[]⟩ [] 66 178 [o3]
 (.ret r66)))))
def Qa (b:Nat→PC):PT×List (Shp×PT):=(su b,[(.lp 0 [3,16,17] [3] [3,16] [3],eO b),(.lp 2 [2,3,36,37] [3] [2,3,36] [3],bW b)])
theorem mi:cf_record_Seen.map told=some (Qa (aA cf_record_Seen)):=by kernel_rfl
theorem FN:tree mK=su hG:=aj mi
theorem ju:round 0 [3,16,17] [3] [3,16] [3] (hG 0)=eO hG:=aw mi 0 fun _=>rfl
theorem cI:round 2 [2,3,36,37] [3] [2,3,36] [3] (hG 1)=bW hG:=aw mi 1 fun _=>rfl
theorem F5:cf_record_Seen=some mK:=ah mi
noncomputable def cf_slices_Min_int:Option PC:=av {ctx with fr:=[2,3,4],nh:=[]} Tryz.f178 ((aa aq 178).getD default) []
noncomputable def gA:PC:=hpc cf_slices_Min_int
noncomputable def l9:Nat→PC:=hbd cf_slices_Min_int
def qN (b:Nat→PC):PC:=.block 0 [3,4,12,13,14,15] [] (.loop [3,4] [] (b 0))
def eA (b:Nat→PC):PT:=
 (.ite (plt r4 (.llen r0))
 (.chk (pix r0 r4)
 (.next ⟨[(3,(.mn r3 (pn r0 r4))),(4,(aF r4 (pi 1)))],[]⟩))
 (.exit 0 ⟨[(12,r4),(13,r0),(14,(.llen r0)),(15,(plt r4 (.llen r0)))],[]⟩))
def l7 (b:Nat→PC):PT:=
 (.ite (plt (.llen r0) (pi 1))
 (.chk (.nt pT)
 (.chk (.nt pT)
 (.chk (pix r0 (pi 0))
 (.brk ⟨[(4,(pi 1)),(3,(pn r0 (pi 0)))],[]⟩
(qN b)
 (.ret r3)))))
 (.chk (pix r0 (pi 0))
 (.brk ⟨[(4,(pi 1)),(3,(pn r0 (pi 0)))],[]⟩
(qN b)
 (.ret r3))))
def Fb (b:Nat→PC):PT×List (Shp×PT):=(l7 b,[(.lp 0 [3,4,12,13,14,15] [] [3,4] [],eA b)])
theorem l8:cf_slices_Min_int.map told=some (Fb (aA cf_slices_Min_int)):=by kernel_rfl
theorem A8:tree gA=l7 l9:=aj l8
theorem mO:round 0 [3,4,12,13,14,15] [] [3,4] [] (l9 0)=eA l9:=aw l8 0 fun _=>rfl
theorem Ah:cf_slices_Min_int=some gA:=ah l8
noncomputable def cf_tenor_Due:Option PC:=av {ctx with fr:=[8,9,15,39,58,74,11,12],nh:=[]} Tryz.f105 ((aa aq 105).getD default) [4,5,10]
noncomputable def rh:PC:=hpc cf_tenor_Due
def q7:PT:=
 (.blockS ⟨[],[(10,(.setc z3 0 (.mk [(pc (.mk [r1]) 5),(pc (.mk [r1]) 6),(pc (.mk [r1]) 7)]))),(5,(.mk [r1])),(4,(.mk [r0]))]⟩ 0 [8,9,15,16,17,18,19,25,26,32,33,38,39,40,41,42,43,47,48,52,53,57,58,59,60,61,65,66,69,70,73,74,75,76,77,80] []
 (.call ⟨[],[]⟩ [] 17 75 [(mkA 8 o4)]
 (.call ⟨[(19,(pne r17 (pi 0)))],[]⟩ [(19,false)] 23 173 [(mkA 8 o4),(pc o5 9)]
 (.call ⟨[(26,(.pick r19 pT (.nt r23)))],[]⟩ [(26,false)] 30 173 [(mkA 8 o4),(pc o5 10)]
 (.call ⟨[(33,(.pick r26 pT (.nt r30)))],[]⟩ [(33,false)] 36 174 [(pc o5 8)]
 (.iteS ⟨[],[]⟩ (.pick r33 pT (.nt r36)) [8,9,39,40,41,42,43,47,48,52,53,57,58,59,60,61,65,66,69,70,73,74,75,76,77,80] []
 (.ret (.tup [(pi 0),(pi 1)]))
 (.iteS ⟨[],[]⟩ (.pick (.pick (.pick (plt (pc o10 0) (pi 0)) pT (pge (pc o10 0) (pi 5))) pT (plt (pc o10 2) (pi 0))) pT (pge (pc o10 2) (pi 2))) [8,9,58,59,60,61,65,66,69,70,73,74,75,76,77,80] []
 (.ret (.tup [(pi 0),(pi 1)]))
 (.call ⟨[(61,(pne r2 (pi (-1))))],[]⟩ [(61,true)] 63 174 [r2]
 (.iteS ⟨[],[]⟩ (.pick (.pick (.pick r61 (.nt r63) pF) pT (plt r3 (pi 0))) pT (pgt r3 (pi 20000))) [8,9,74,75,76,77,80] []
 (.ret (.tup [(pi 0),(pi 1)]))
 (.call ⟨[],[]⟩ [] 76 175 [(.mk [(pc o10 0),(pc o10 1),(pc o10 2)])]
 (.ite (.pick r76 (peq r2 (pi (-1))) pF)
 (.ret (.tup [(pi 0),(pi 4)]))
 (.next ⟨[],[]⟩)))
 (.next ⟨[],[]⟩)))
 (.next ⟨[],[]⟩))
 (.next ⟨[],[]⟩))))))
 (.call ⟨[],[]⟩ [] 85 176 [(mkA 8 o4),(mkA 15 o5),r2]
 (.ite (pne (.tget r85 1) (pi 0))
 (.ret (.tup [(pi 0),(.tget r85 1)]))
 (.call ⟨[(11,(.tget r85 0))],[]⟩ [] 92 174 [(.tget r85 0)]
 (.ite (.pick (.nt r92) pT (pgt (aF r11 r3) (pi 100000)))
 (.ret (.tup [(pi 0),(pi 3)]))
 (.call ⟨[],[]⟩ [] 106 177 [(mkA 8 o4),(pc o5 10),(aF r11 r3)]
 (.ret (.tup [(.tget af4 0),(.tget af4 1)]))))))))
def U7 (b:Nat→PC):PT×List (Shp×PT):=(q7,[])
theorem G7:cf_tenor_Due.map told=some (U7 (aA cf_tenor_Due)):=by kernel_rfl
theorem yj:tree rh=q7:=aj G7
theorem L5:cf_tenor_Due=some rh:=ah G7
noncomputable def cf_realm_Check:Option PC:=av {ctx with fr:=[2,3,4,5,6,7,10,11,12],nh:=[]} Tryz.f75 ((aa aq 75).getD default) [1,9]
noncomputable def mT:PC:=hpc cf_realm_Check
noncomputable def sF:Nat→PC:=hbd cf_realm_Check
def Ip (b:Nat→PC):PC:=.block 0 [2,38,39] [] (.loop [2,38] [] (b 0))
def eD (b:Nat→PC):PT:=
 (.ite (plt r38 r37)
 (.blockS ⟨[],[]⟩ 1 [2,9,40,41,42,43,44,45] [9]
 (.chk (pix r36 r38)
 (.call ⟨[],[]⟩ [] 44 113 [(pc (.setc Nq 0 (pn r36 r38)) 0),(pi 10)]
 (.ite (.nt r44)
 (.ret (pi 1))
 (.next ⟨[],[]⟩))))
 (.next ⟨[(38,(aF r38 (pi 1)))],[]⟩))
 (.exit 0 ⟨[(39,(plt r38 r37))],[]⟩))
def sc (b:Nat→PC):PT:=
 (.call ⟨[(2,(pi 0))],[(1,(.mk [r0]))]⟩ [] 15 145 [oP]
 (.call ⟨[(5,(.tget r15 2)),(4,(.tget r15 1)),(3,(.tget r15 0))],[]⟩ [] 21 146 [(pc o1 0),(pi 8),(.con (.clo 147 []))]
 (.ite (pne r21 (pi 0))
 (.ret r21)
 (.call ⟨[],[(1,(mkA 8 o1))]⟩ [] 27 146 [r3,(pi 40),(.clo 148 [(.ref (mkA 8 o1))])]
 (.ite (pne r27 (pi 0))
 (.ret r27)
 (.ite (pgt CP (pi 20))
 (.ret (pi 6))
 (.brk ⟨[(38,(pi 0)),(37,CP),(36,(pc o1 2))],[]⟩
(Ip b)
 (.call ⟨[],[]⟩ [] 49 146 [r4,(pi 200),(.clo 150 [(.ref o1)])]
 (.ite (pne r49 (pi 0))
 (.ret r49)
 (.call ⟨[],[]⟩ [] 55 146 [r5,(pi 20),(.clo 151 [(.ref o1)])]
 (.ite (pne r55 (pi 0))
 (.ret r55)
 (.call ⟨[],[]⟩ [] 60 153 [(.sub o1 0 8)]
 (.ite (pne r60 (pi 0))
 (.ret r60)
 (.call ⟨[],[]⟩ [] 65 154 [(.sub o1 0 8)]
 (.ret r65)))))))))))))))
def OT (b:Nat→PC):PT×List (Shp×PT):=(sc b,[(.lp 0 [2,38,39] [] [2,38] [],eD b)])
theorem sA:cf_realm_Check.map told=some (OT (aA cf_realm_Check)):=by kernel_rfl
theorem F7:tree mT=sc sF:=aj sA
theorem jA:round 0 [2,38,39] [] [2,38] [] (sF 0)=eD sF:=aw sA 0 fun _=>rfl
theorem FM:cf_realm_Check=some mT:=ah sA
noncomputable def cf_realm_names:Option PC:=av {ctx with fr:=[],nh:=[]} Tryz.f145 ((aa aq 145).getD default) [1,2,3,4,6,16390,20486,24582,21,8,34,10,12298,16394,47]
noncomputable def mP:PC:=hpc cf_realm_names
noncomputable def dm:Nat→PC:=hbd cf_realm_names
def ID (b:Nat→PC):PC:=.block 0 [2,14,15] [2] (.loop [2,14] [2] (b 0))
def JJ (b:Nat→PC):PC:=.block 2 [3,27,28] [3] (.loop [3,27] [3] (b 1))
def IY (b:Nat→PC):PC:=.block 4 [4,40,41] [4] (.loop [4,40] [4] (b 2))
def iK (b:Nat→PC):PT:=
 (.ite zk
 (.chk (pix r12 r14)
 (.chk (ple (.llen afd) aZ)
 (.next ⟨[(2,pN),(14,(aF r14 (pi 1)))],[(2,afd)]⟩)))
 (.exit 0 ⟨[(15,zk)],[]⟩))
def iT (b:Nat→PC):PT:=
 (.ite (plt r27 r26)
 (.chk (pix r25 r27)
 (.chk (ple (.llen afg) aZ)
 (.next ⟨[(3,pN),(27,(aF r27 (pi 1)))],[(3,afg)]⟩)))
 (.exit 2 ⟨[(28,(plt r27 r26))],[]⟩))
def iz (b:Nat→PC):PT:=
 (.ite (plt r40 r39)
 (.chk (pix r38 r40)
 (.chk (ple (.llen aeH) aZ)
 (.next ⟨[(4,pN),(40,(aF r40 (pi 1)))],[(4,aeH)]⟩)))
 (.exit 4 ⟨[(41,(plt r40 r39))],[]⟩))
def sE (b:Nat→PC):PT:=
 (.brk ⟨[(14,(pi 0)),(13,(.llen GF)),(12,GF),(4,pN),(3,pN),(2,pN)],[(4,pL),(3,pL),(2,pL),(1,(.mk [r0]))]⟩
(ID b)
 (.brk ⟨[(27,(pi 0)),(26,vN),(25,(pc o1 3))],[]⟩
(JJ b)
 (.brk ⟨[(40,(pi 0)),(39,yF),(38,(pc o1 4))],[]⟩
(IY b)
 (.ret (.tup [o2,o3,o4])))))
def NR (b:Nat→PC):PT×List (Shp×PT):=(sE b,[(.lp 0 [2,14,15] [2] [2,14] [2],iK b),(.lp 2 [3,27,28] [3] [3,27] [3],iT b),(.lp 4 [4,40,41] [4] [4,40] [4],iz b)])
theorem hZ:cf_realm_names.map told=some (NR (aA cf_realm_names)):=by kernel_rfl
theorem Ha:tree mP=sE dm:=aj hZ
theorem qU:round 0 [2,14,15] [2] [2,14] [2] (dm 0)=iK dm:=aw hZ 0 fun _=>rfl
theorem qQ:round 2 [3,27,28] [3] [3,27] [3] (dm 1)=iT dm:=aw hZ 1 fun _=>rfl
theorem qL:round 4 [4,40,41] [4] [4,40] [4] (dm 2)=iz dm:=aw hZ 2 fun _=>rfl
theorem FJ:cf_realm_names=some mP:=ah hZ
noncomputable def cf_realm_fits:Option PC:=av {ctx with fr:=[6,7,8],nh:=[]} Tryz.f146 ((aa aq 146).getD default) []
noncomputable def oI:PC:=hpc cf_realm_fits
noncomputable def vc:Nat→PC:=hbd cf_realm_fits
def LF (b:Nat→PC):PC:=.block 0 [6,15,16] [] (.loop [6,15] [] (b 0))
def fG (b:Nat→PC):PT:=
 (.ite (plt r15 r14)
 (.blockS ⟨[],[]⟩ 1 [6,7,8,17,18,19,20,21,22,24,25,26,27] []
 (.call ⟨[(7,r15)],[]⟩ [] 20 200 [r0,r15]
 (.ite (pne r20 (pi 0))
 (.ret r20)
 (.callc ⟨[],[]⟩ [] 26 r2 [r7]
 (.ite (.nt r26)
 (.ret (pi 1))
 (.next ⟨[],[]⟩)))))
 (.next ⟨[(15,(aF r15 (pi 1)))],[]⟩))
 (.exit 0 ⟨[(16,(plt r15 r14))],[]⟩))
def vu (b:Nat→PC):PT:=
 (.ite (pgt (.llen r0) r1)
 (.ret (pi 6))
 (.brk ⟨[(15,(pi 0)),(14,(.llen r0)),(6,(pi 0))],[]⟩
(LF b)
 (.ret (pi 0))))
def R0 (b:Nat→PC):PT×List (Shp×PT):=(vu b,[(.lp 0 [6,15,16] [] [6,15] [],fG b)])
theorem uK:cf_realm_fits.map told=some (R0 (aA cf_realm_fits)):=by kernel_rfl
theorem J0:tree oI=vu vc:=aj uK
theorem kS:round 0 [6,15,16] [] [6,15] [] (vc 0)=fG vc:=aw uK 0 fun _=>rfl
theorem Ir:cf_realm_fits=some oI:=ah uK
noncomputable def cf_realm_named:Option PC:=av {ctx with fr:=[4],nh:=[]} Tryz.f200 ((aa aq 200).getD default) []
noncomputable def mE:PC:=hpc cf_realm_named
def tj:PT:=
 (.chk (pix r0 r1)
 (.call ⟨[],[]⟩ [] 9 230 [(pn r0 r1)]
 (.ite (.nt r9)
 (.ret (pi 2))
 (.chk (.slok r0 (pi 0) r1)
 (.chk (pix r0 r1)
 (.call ⟨[],[]⟩ [] 18 231 [(.slc r0 (pi 0) r1),(pn r0 r1)]
 (.ite r18
 (.ret (pi 5))
 (.ret (pi 0)))))))))
def QJ (b:Nat→PC):PT×List (Shp×PT):=(tj,[])
theorem Ay:cf_realm_named.map told=some (QJ (aA cf_realm_named)):=by kernel_rfl
theorem Fg:tree mE=tj:=aj Ay
theorem FG:cf_realm_named=some mE:=ah Ay
noncomputable def cf_realm_isName:Option PC:=av {ctx with fr:=[2,3,4,5],nh:=[]} Tryz.f230 ((aa aq 230).getD default) []
noncomputable def km:PC:=hpc cf_realm_isName
noncomputable def p6:Nat→PC:=hbd cf_realm_isName
def GQ (b:Nat→PC):PC:=.block 0 [2,16,17] [] (.loop [2,16] [] (b 0))
def dN (b:Nat→PC):PT:=
 (.ite (plt r16 r15)
 (.chk zm
 (.ite (.pick (.nt (.pick (.pick (pge m6 (.con (.v (.int .u8 97)))) (ple m6 (.con (.v (.int .u8 122)))) pF) pT (.pick (pge m6 (.con (.v (.int .u8 65)))) (ple m6 (.con (.v (.int .u8 90)))) pF))) (.pick (peq r16 (pi 0)) pT (.pick (pne m6 (.con (.v (.int .u8 95)))) (.pick (plt m6 (.con (.v (.int .u8 48)))) pT (pgt m6 (.con (.v (.int .u8 57))))) pF)) pF)
 (.ret pF)
 (.next ⟨[(16,Il)],[]⟩)))
 (.exit 0 ⟨[(17,(plt r16 r15))],[]⟩))
def qo (b:Nat→PC):PT:=
 (.ite (.pick (.cs .eql r0 (.con (.v (.string ⟨#[]⟩)))) pT (pgt (.slen r0) (pi 20)))
 (.ret pF)
 (.chk (ple (.slen r0) aZ)
 (.brk ⟨[(16,(pi 0)),(15,(.llen (.bytes r0))),(14,(.bytes r0)),(2,pF)],[]⟩
(GQ b)
 (.ret pT))))
def Mq (b:Nat→PC):PT×List (Shp×PT):=(qo b,[(.lp 0 [2,16,17] [] [2,16] [],dN b)])
theorem pV:cf_realm_isName.map told=some (Mq (aA cf_realm_isName)):=by kernel_rfl
theorem Ej:tree km=qo p6:=aj pV
theorem hH:round 0 [2,16,17] [] [2,16] [] (p6 0)=dN p6:=aw pV 0 fun _=>rfl
theorem EK:cf_realm_isName=some km:=ah pV
noncomputable def cf_slices_Contains_string:Option PC:=av {ctx with fr:=[4],nh:=[]} Tryz.f231 ((aa aq 231).getD default) []
noncomputable def bO:PC:=hpc cf_slices_Contains_string
def dz:PT:=
 (.call ⟨[],[]⟩ [] 7 253 [r0,r1]
 (.ret (pge r7 (pi 0))))
def tB (b:Nat→PC):PT×List (Shp×PT):=(dz,[])
theorem ji:cf_slices_Contains_string.map told=some (tB (aA cf_slices_Contains_string)):=by kernel_rfl
theorem pC:tree bO=dz:=aj ji
theorem pZ:cf_slices_Contains_string=some bO:=ah ji
noncomputable def cf_slices_Index_string:Option PC:=av {ctx with fr:=[4,5],nh:=[]} Tryz.f253 ((aa aq 253).getD default) []
noncomputable def cN:PC:=hpc cf_slices_Index_string
noncomputable def fc:Nat→PC:=hbd cf_slices_Index_string
def vg (b:Nat→PC):PC:=.block 0 [4,8,9] [] (.loop [4,8] [] (b 0))
def bp (b:Nat→PC):PT:=
 (.ite (plt r8 r7)
 (.chk (pix r0 r8)
 (.ite (.cs .eql r1 (pn r0 r8))
 (.ret r8)
 (.next ⟨[(8,C7)],[]⟩)))
 (.exit 0 ⟨[(9,(plt r8 r7))],[]⟩))
def fi (b:Nat→PC):PT:=
 (.brk ⟨[(8,(pi 0)),(7,(.llen r0)),(4,(pi 0))],[]⟩
(vg b)
 (.ret (pi (-1))))
def wR (b:Nat→PC):PT×List (Shp×PT):=(fi b,[(.lp 0 [4,8,9] [] [4,8] [],bp b)])
theorem eZ:cf_slices_Index_string.map told=some (wR (aA cf_slices_Index_string)):=by kernel_rfl
theorem tt:tree cN=fi fc:=aj eZ
theorem cQ:round 0 [4,8,9] [] [4,8] [] (fc 0)=bp fc:=aw eZ 0 fun _=>rfl
theorem tC:cf_slices_Index_string=some cN:=ah eZ
noncomputable def cf_realm_Check_1:Option PC:=av {ctx with fr:=[2],nh:=[]} Tryz.f147 ((aa aq 147).getD default) []
noncomputable def iI:PC:=hpc cf_realm_Check_1
def nV:PT:=
 (.ret pT)
def JB (b:Nat→PC):PT×List (Shp×PT):=(nV,[])
theorem v3:cf_realm_Check_1.map told=some (JB (aA cf_realm_Check_1)):=by kernel_rfl
theorem BE:tree iI=nV:=aj v3
theorem BQ:cf_realm_Check_1=some iI:=ah v3
noncomputable def cf_realm_Check_2:Option PC:=av {ctx with fr:=[3],nh:=[]} Tryz.f148 ((aa aq 148).getD default) []
noncomputable def iX:PC:=hpc cf_realm_Check_2
def nN:PT:=
 (.chk (pix (pc (.deref r1) 1) r0)
 (.call ⟨[],[]⟩ [] 10 149 [(.deref r1),(pn (pc (.deref r1) 1) r0)]
 (.ret r10)))
def Ik (b:Nat→PC):PT×List (Shp×PT):=(nN,[])
theorem wv:cf_realm_Check_2.map told=some (Ik (aA cf_realm_Check_2)):=by kernel_rfl
theorem BB:tree iX=nN:=aj wv
theorem BZ:cf_realm_Check_2=some iX:=ah wv
noncomputable def cf_realm_city:Option PC:=av {ctx with fr:=[4,6],nh:=[]} Tryz.f149 ((aa aq 149).getD default) [2,3]
noncomputable def oN:PC:=hpc cf_realm_city
noncomputable def u9:Nat→PC:=hbd cf_realm_city
def LN (b:Nat→PC):PC:=.block 0 [4,10,11] [] (.loop [4,10] [] (b 0))
def fR (b:Nat→PC):PT:=
 (.ite (plt r10 r9)
 (.chk (pix r8 r10)
 (.chk Sy
 (.chk (.nt (.an (.an (.nt (plt X5 (pi 1))) pT) (.nt Sy)))
 (.ite (.pick (plt X5 (pi 1)) pT (pgt X5 (pi 31)))
 (.ret pF)
 (.next ⟨[(10,(aF r10 (pi 1)))],[]⟩)))))
 (.exit 0 ⟨[(11,(plt r10 r9))],[]⟩))
def vl (b:Nat→PC):PT:=
 (.brk ⟨[(10,(pi 0)),(9,(.llen (pc (.mk [r1]) 4))),(8,(pc (.mk [r1]) 4)),(4,pF)],[(3,(.mk [r1])),(2,(.mk [r0]))]⟩
(LN b)
 (.call ⟨[(33,(.pick (pgt (.llen (pc o3 4)) (pi 60)) pT (pgt (.llen (pc o3 5)) (pi 200))))],[]⟩ [(33,false)] 39 113 [(pc o3 1),(.llen (pc o2 4))]
 (.call ⟨[(42,(.pick r33 pT (.nt r39)))],[]⟩ [(42,false)] 48 113 [(pc o3 2),(.llen (pc o2 0))]
 (.ite (.pick r42 pT (.nt r48))
 (.ret pF)
 (.call ⟨[],[]⟩ [] 53 201 [(pc o3 3),(pi 0),(pi 6)]
 (.call ⟨[(54,r53)],[]⟩ [(54,true)] 57 201 [(pc o3 4),(pi 101),(pi 1231)]
 (.call ⟨[(59,(.pick r54 r57 pF))],[]⟩ [(59,true)] 62 201 [(pc o3 5),(pi 0),(pi 100000)]
 (.ret (.pick r59 r62 pF)))))))))
def RS (b:Nat→PC):PT×List (Shp×PT):=(vl b,[(.lp 0 [4,10,11] [] [4,10] [],fR b)])
theorem vy:cf_realm_city.map told=some (RS (aA cf_realm_city)):=by kernel_rfl
theorem Ie:tree oN=vl u9:=aj vy
theorem kY:round 0 [4,10,11] [] [4,10] [] (u9 0)=fR u9:=aw vy 0 fun _=>rfl
theorem Iz:cf_realm_city=some oN:=ah vy
noncomputable def cf_realm_rising:Option PC:=av {ctx with fr:=[6,7,8],nh:=[]} Tryz.f201 ((aa aq 201).getD default) []
noncomputable def kf:PC:=hpc cf_realm_rising
noncomputable def qF:Nat→PC:=hbd cf_realm_rising
def G3 (b:Nat→PC):PC:=.block 0 [6,11,12] [] (.loop [6,11] [] (b 0))
def bl (b:Nat→PC):PT:=
 (.ite (plt r11 r10)
 (.chk (pix r9 r11)
 (.chk (.nt (.an (.an (pgt r11 (pi 0)) (.an (.nt (.pick (plt (pn r9 r11) r1) pT (pgt (pn r9 r11) r2))) pT)) (.nt (pix r0 (aQ r11 (pi 1))))))
 (.ite (.pick (.pick (plt (pn r9 r11) r1) pT (pgt (pn r9 r11) r2)) pT (.pick (pgt r11 (pi 0)) (ple (pn r9 r11) (pn r0 (aQ r11 (pi 1)))) pF))
 (.ret pF)
 (.next ⟨[(11,(aF r11 (pi 1)))],[]⟩))))
 (.exit 0 ⟨[(12,(plt r11 r10))],[]⟩))
def po (b:Nat→PC):PT:=
 (.brk ⟨[(11,(pi 0)),(10,(.llen r0)),(9,r0),(6,pF)],[]⟩
(G3 b)
 (.ret pT))
def L8 (b:Nat→PC):PT×List (Shp×PT):=(po b,[(.lp 0 [6,11,12] [] [6,11] [],bl b)])
theorem qy:cf_realm_rising.map told=some (L8 (aA cf_realm_rising)):=by kernel_rfl
theorem DY:tree kf=po qF:=aj qy
theorem bB:round 0 [6,11,12] [] [6,11] [] (qF 0)=bl qF:=aw qy 0 fun _=>rfl
theorem Ee:cf_realm_rising=some kf:=ah qy
noncomputable def cf_realm_Check_3:Option PC:=av {ctx with fr:=[3],nh:=[]} Tryz.f150 ((aa aq 150).getD default) []
noncomputable def iP:PC:=hpc cf_realm_Check_3
def nu:PT:=
 (.chk (pix (pc (.deref r1) 3) r0)
 (.call ⟨[],[]⟩ [] 13 113 [(pc (pn (pc (.deref r1) 3) r0) 1),(.llen (pc (.deref r1) 1))]
 (.chk (.nt (.an (.an r13 pT) (.nt (pix (pc (.deref r1) 3) r0))))
 (.call ⟨[(14,r13)],[]⟩ [(14,true)] 24 113 [(pc (pn (pc (.deref r1) 3) r0) 2),(.llen (pc (.deref r1) 2))]
 (.ret (.pick r14 r24 pF))))))
def Jl (b:Nat→PC):PT×List (Shp×PT):=(nu,[])
theorem we:cf_realm_Check_3.map told=some (Jl (aA cf_realm_Check_3)):=by kernel_rfl
theorem Ch:tree iP=nu:=aj we
theorem BY:cf_realm_Check_3=some iP:=ah we
noncomputable def cf_realm_Check_4:Option PC:=av {ctx with fr:=[3],nh:=[]} Tryz.f151 ((aa aq 151).getD default) []
noncomputable def iZ:PC:=hpc cf_realm_Check_4
def nO:PT:=
 (.chk (pix (pc (.deref r1) 4) r0)
 (.call ⟨[],[]⟩ [] 9 152 [(pn (pc (.deref r1) 4) r0)]
 (.ret r9)))
def IP (b:Nat→PC):PT×List (Shp×PT):=(nO,[])
theorem wk:cf_realm_Check_4.map told=some (IP (aA cf_realm_Check_4)):=by kernel_rfl
theorem Ck:tree iZ=nO:=aj wk
theorem BO:cf_realm_Check_4=some iZ:=ah wk
noncomputable def cf_realm_order:Option PC:=av {ctx with fr:=[2],nh:=[]} Tryz.f152 ((aa aq 152).getD default) [1,3,4,6,19,8,16392,36]
noncomputable def mh:PC:=hpc cf_realm_order
noncomputable def gU:Nat→PC:=hbd cf_realm_order
def IJ (b:Nat→PC):PC:=.block 0 [2,3,12,13] [3] (.loop [2,3,12] [3] (b 0))
def H5 (b:Nat→PC):PC:=.block 2 [4,29,30] [4] (.loop [4,29] [4] (b 1))
def eQ (b:Nat→PC):PT:=
 (.ite (plt r12 r11)
 (.blockS ⟨[],[]⟩ 1 [2,3,6,14,15,17,18,19,20,21,22,23,24] [6,19,3]
 (.chk (pix r10 r12)
 (.chk (ple (.llen (.app o3 (.lst [(pc (.setc ZJ 0 wQ) 0)]))) aZ)
 (.call ⟨[(3,pN)],[(3,(.app o3 (.lst [(pc (.setc ZJ 0 wQ) 0)])))]⟩ [] 23 113 [(pc (.setc ZJ 0 wQ) 1),(pi 5)]
 (.ite (.nt r23)
 (.ret pF)
 (.next ⟨[],[]⟩)))))
 (.next ⟨[(12,(aF r12 (pi 1)))],[]⟩))
 (.exit 0 ⟨[(13,(plt r12 r11))],[]⟩))
def iJ (b:Nat→PC):PT:=
 (.ite (plt r29 r28)
 (.chk (pix r27 r29)
 (.chk (ple (.llen aeW) aZ)
 (.next ⟨[(4,pN),(29,(aF r29 (pi 1)))],[(4,aeW)]⟩)))
 (.exit 2 ⟨[(30,(plt r29 r28))],[]⟩))
def sH (b:Nat→PC):PT:=
 (.brk ⟨[(12,(pi 0)),(11,Ad),(10,OC),(4,pN),(3,pN),(2,pF)],[(4,pL),(3,pL),(1,(.mk [r0]))]⟩
(IJ b)
 (.brk ⟨[(29,(pi 0)),(28,vN),(27,(pc o1 3))],[]⟩
(H5 b)
 (.call ⟨[],[]⟩ [] 40 201 [o3,(pi 0),(pi 21)]
 (.call ⟨[(41,r40)],[]⟩ [(41,true)] 43 201 [o4,(pi 0),(pi 21)]
 (.ret (.pick r41 r43 pF))))))
def PL (b:Nat→PC):PT×List (Shp×PT):=(sH b,[(.lp 0 [2,3,12,13] [3] [2,3,12] [3],eQ b),(.lp 2 [4,29,30] [4] [4,29] [4],iJ b)])
theorem my:cf_realm_order.map told=some (PL (aA cf_realm_order)):=by kernel_rfl
theorem GB:tree mh=sH gU:=aj my
theorem jr:round 0 [2,3,12,13] [3] [2,3,12] [3] (gU 0)=eQ gU:=aw my 0 fun _=>rfl
theorem qG:round 2 [4,29,30] [4] [4,29] [4] (gU 1)=iJ gU:=aw my 1 fun _=>rfl
theorem FW:cf_realm_order=some mh:=ah my
noncomputable def cf_realm_usances:Option PC:=av {ctx with fr:=[2,3],nh:=[]} Tryz.f153 ((aa aq 153).getD default) [1,4,6]
noncomputable def je:PC:=hpc cf_realm_usances
noncomputable def eL:Nat→PC:=hbd cf_realm_usances
def EM (b:Nat→PC):PC:=.block 2 [2,50,51] [] (.loop [2,50] [] (b 0))
def DJ (b:Nat→PC):PC:=.block 0 [2,14,15] [] (.loop [2,14] [] (b 1))
def bT (b:Nat→PC):PT:=
 (.ite (plt r50 r49)
 (.chk (pix r48 r50)
 (.ite (.pick (peq (pc (.setc z3 0 (pn r48 r50)) 0) (pc o4 0)) (peq (pc (.setc z3 0 (pn r48 r50)) 1) (pc o4 1)) pF)
 (.ret (pi 5))
 (.next ⟨[(50,(aF r50 (pi 1)))],[]⟩)))
 (.exit 2 ⟨[(51,(plt r50 r49))],[]⟩))
def dp (b:Nat→PC):PT:=
 (.ite zk
 (.blockS ⟨[(15,zk)],[]⟩ 1 [2,3,4,16,17,18,19,20,21,22,23,24,25,26,34,35,39,40,44,45,46,47,48,49,50,51] [4]
 (.chk (pix r12 r14)
 (.call ⟨[(3,r14)],[(4,Th)]⟩ [] 24 113 [(pc Th 0),sG]
 (.call ⟨[(26,(.nt r24))],[]⟩ [(26,false)] 32 113 [(pc o4 1),sG]
 (.ite (.pick (.pick (.pick r26 pT (.nt r32)) pT (plt (pc o4 2) (pi 1))) pT (pgt (pc o4 2) (pi 20000)))
 (.ret (pi 1))
 (.chk (.slok (pc o1 5) (pi 0) r3)
 (.brk ⟨[(50,(pi 0)),(49,(.llen (.slc (pc o1 5) (pi 0) r3))),(48,(.slc (pc o1 5) (pi 0) r3))],[]⟩
(EM b)
 (.next ⟨[],[]⟩)))))))
 (.next ⟨[(14,(aF r14 (pi 1)))],[]⟩))
 (.exit 0 ⟨[(15,zk)],[]⟩))
def nA (b:Nat→PC):PT:=
 (.ite (pgt (.llen QI) (pi 100))
 (.ret (pi 6))
 (.brk ⟨[(14,(pi 0)),(13,(.llen QI)),(12,QI),(2,(pi 0))],[(1,(.mk [r0]))]⟩
(DJ b)
 (.ret (pi 0))))
def HU (b:Nat→PC):PT×List (Shp×PT):=(nA b,[(.lp 2 [2,50,51] [] [2,50] [],bT b),(.lp 0 [2,14,15] [] [2,14] [],dp b)])
theorem iQ:cf_realm_usances.map told=some (HU (aA cf_realm_usances)):=by kernel_rfl
theorem Ca:tree je=nA eL:=aj iQ
theorem du:round 2 [2,50,51] [] [2,50] [] (eL 0)=bT eL:=aw iQ 0 fun _=>rfl
theorem gi:round 0 [2,14,15] [] [2,14] [] (eL 1)=dp eL:=aw iQ 1 fun _=>rfl
theorem B5:cf_realm_usances=some je:=ah iQ
noncomputable def cf_realm_rest:Option PC:=av {ctx with fr:=[2],nh:=[]} Tryz.f154 ((aa aq 154).getD default) [1,4,6]
noncomputable def od:PC:=hpc cf_realm_rest
noncomputable def jV:Nat→PC:=hbd cf_realm_rest
def LS (b:Nat→PC):PC:=.block 0 [2,14,15] [] (.loop [2,14] [] (b 0))
def M6 (b:Nat→PC):PC:=.block 2 [2,69,70] [] (.loop [2,69] [] (b 1))
def fF (b:Nat→PC):PT:=
 (.ite zk
 (.blockS ⟨[],[]⟩ 1 [2,4,16,17,18,19,20,21,22,23,24,25,33,34,40,41,47,48,54,55,60] [4]
 (.chk (pix r12 r14)
 (.call ⟨[],[(4,(.setc z5 0 (pn r12 r14)))]⟩ [] 23 113 [(pc (.setc z5 0 (pn r12 r14)) 0),KL]
 (.call ⟨[(25,(.nt r23))],[]⟩ [(25,false)] 31 113 [(pc o4 1),KL]
 (.call ⟨[(41,(.pick (.pick r25 pT (.nt r31)) pT (peq (pc o4 0) (pc o4 1))))],[]⟩ [(41,false)] 45 113 [(aQ (pc o4 2) (pi 1)),(pi 1073741824)]
 (.call ⟨[(48,(.pick r41 pT (.nt r45)))],[]⟩ [(48,false)] 52 113 [(aQ (pc o4 3) (pi 1)),(pi 1073741824)]
 (.call ⟨[(55,(.pick r48 pT (.nt r52)))],[]⟩ [(55,false)] 58 113 [(pc o4 4),(pi 100001)]
 (.ite (.pick r55 pT (.nt r58))
 (.ret (pi 1))
 (.next ⟨[],[]⟩))))))))
 (.next ⟨[(14,(aF r14 (pi 1)))],[]⟩))
 (.exit 0 ⟨[(15,zk)],[]⟩))
def fD (b:Nat→PC):PT:=
 (.ite (plt r69 r68)
 (.blockS ⟨[],[]⟩ 3 [2,6,71,72,73,74,75,76,77,78,79,80,84,85,91,92,96] [6]
 (.chk (pix r67 r69)
 (.call ⟨[],[(6,(.setc z3 0 (pn r67 r69)))]⟩ [] 78 113 [(pc (.setc z3 0 (pn r67 r69)) 0),yF]
 (.ite (.pick (.pick (.pick (.nt r78) pT (plt (pc o6 1) (pi 0))) pT (pgt (pc o6 1) (pc o6 2))) pT (pgt (pc o6 2) (pi 100000)))
 (.ret (pi 1))
 (.next ⟨[],[]⟩))))
 (.next ⟨[(69,(aF r69 (pi 1)))],[]⟩))
 (.exit 2 ⟨[(70,(plt r69 r68))],[]⟩))
def uS (b:Nat→PC):PT:=
 (.ite (pgt (.llen (pc (.mk [r0]) 6)) (pi 100))
 (.ret (pi 6))
 (.brk ⟨[(14,(pi 0)),(13,(.llen (pc (.mk [r0]) 6))),(12,(pc (.mk [r0]) 6)),(2,(pi 0))],[(1,(.mk [r0]))]⟩
(LS b)
 (.ite (pgt D3 (pi 20))
 (.ret (pi 6))
 (.brk ⟨[(69,(pi 0)),(68,D3),(67,(pc o1 7))],[]⟩
(M6 b)
 (.ret (pi 0))))))
def Ra (b:Nat→PC):PT×List (Shp×PT):=(uS b,[(.lp 0 [2,14,15] [] [2,14] [],fF b),(.lp 2 [2,69,70] [] [2,69] [],fD b)])
theorem oG:cf_realm_rest.map told=some (Ra (aA cf_realm_rest)):=by kernel_rfl
theorem I5:tree od=uS jV:=aj oG
theorem kX:round 0 [2,14,15] [] [2,14] [] (jV 0)=fF jV:=aw oG 0 fun _=>rfl
theorem kJ:round 2 [2,69,70] [] [2,69] [] (jV 1)=fD jV:=aw oG 1 fun _=>rfl
theorem Jc:cf_realm_rest=some od:=ah oG
noncomputable def cf_tenor_isCity:Option PC:=av {ctx with fr:=[4],nh:=[]} Tryz.f173 ((aa aq 173).getD default) [2]
noncomputable def kp:PC:=hpc cf_tenor_isCity
def pD:PT:=
 (.ret (.pick (pge r1 (pi 0)) (plt r1 (.llen GF)) pF))
def MC (b:Nat→PC):PT×List (Shp×PT):=(pD,[])
theorem yK:cf_tenor_isCity.map told=some (MC (aA cf_tenor_isCity)):=by kernel_rfl
theorem Dw:tree kp=pD:=aj yK
theorem EH:cf_tenor_isCity=some kp:=ah yK
noncomputable def cf_tenor_isDay:Option PC:=av {ctx with fr:=[2],nh:=[]} Tryz.f174 ((aa aq 174).getD default) []
noncomputable def mG:PC:=hpc cf_tenor_isDay
def rQ:PT:=
 (.ret (.pick (pge r0 (pi 0)) (ple r0 (pi 100000)) pF))
def NJ (b:Nat→PC):PT×List (Shp×PT):=(rQ,[])
theorem zA:cf_tenor_isDay.map told=some (NJ (aA cf_tenor_isDay)):=by kernel_rfl
theorem G0:tree mG=rQ:=aj zA
theorem Gm:cf_tenor_isDay=some mG:=ah zA
noncomputable def cf_tenor_Sights:Option PC:=av {ctx with fr:=[2],nh:=[]} Tryz.f175 ((aa aq 175).getD default) [1]
noncomputable def ku:PC:=hpc cf_tenor_Sights
def qu:PT:=
 (.ret (.pick (peq tp (pi 0)) pT (peq tp (pi 1))))
def Mo (b:Nat→PC):PT×List (Shp×PT):=(qu,[])
theorem yb:cf_tenor_Sights.map told=some (Mo (aA cf_tenor_Sights)):=by kernel_rfl
theorem Eo:tree ku=qu:=aj yb
theorem EB:cf_tenor_Sights=some ku:=ah yb
noncomputable def cf_tenor_base:Option PC:=av {ctx with fr:=[6,7,13,16,24,33,8,9],nh:=[]} Tryz.f176 ((aa aq 176).getD default) [3,4]
noncomputable def nW:PC:=hpc cf_tenor_base
def cZ:PT:=
 (.blockS ⟨[(12,(pc (.mk [r1]) 5))],[(4,(.mk [r1])),(3,(.mk [r0]))]⟩ 0 [6,7,13,14,16,17,24,25,33,34] []
 (.iteS ⟨[],[]⟩ (peq r12 (pi 0)) [6,7,16,17,24,25,33,34] []
 (.ret (.tup [r2,(pi 0)]))
 (.iteS ⟨[],[]⟩ (peq r12 (pi 1)) [6,7,24,25,33,34] []
 (.call ⟨[],[]⟩ [] 21 215 [r2,(.mk [(pc o4 5),(pc o4 6),(pc o4 7)])]
 (.ret (.tup [(.tget r21 0),(.tget r21 1)])))
 (.iteS ⟨[],[]⟩ (peq r12 (pi 2)) [6,7,33,34] []
 (.call ⟨[],[]⟩ [] 30 215 [(pc o4 8),(.mk [(pc o4 5),(pc o4 6),(pc o4 7)])]
 (.ret (.tup [(.tget r30 0),(.tget r30 1)])))
 (.iteS ⟨[],[]⟩ (peq r12 (pi 4)) [6,7] []
 (.call ⟨[],[]⟩ [] 41 161 [(mkA 8 o3),(pc o4 9),(pc o4 10)]
 (.ret (.tup [(aF (pc o4 8) (.tget r41 0)),(.tget r41 1)])))
 (.next ⟨[],[]⟩)
 (.next ⟨[],[]⟩))
 (.next ⟨[],[]⟩))
 (.next ⟨[],[]⟩))
 (.next ⟨[],[]⟩))
 (.ret (.tup [(pc o4 6),(pi 0)])))
def So (b:Nat→PC):PT×List (Shp×PT):=(cZ,[])
theorem Cv:cf_tenor_base.map told=some (So (aA cf_tenor_base)):=by kernel_rfl
theorem df:tree nW=cZ:=aj Cv
theorem JE:cf_tenor_base=some nW:=ah Cv
noncomputable def cf_tenor_after:Option PC:=av {ctx with fr:=[4,5],nh:=[]} Tryz.f215 ((aa aq 215).getD default) [3]
noncomputable def mN:PC:=hpc cf_tenor_after
def eI:PT:=
 (.ite (.pick (plt (pc (.mk [r1]) 1) (pi 0)) pT (pgt (pc (.mk [r1]) 1) (pi 20000)))
 (.ret (.tup [(pi 0),(pi 3)]))
 (.iteS ⟨[],[(3,(.mk [r1]))]⟩ (peq (pc (.mk [r1]) 2) (pi 1)) [4,5] []
 (.call ⟨[],[]⟩ [] 20 239 [r0,(pc o3 1)]
 (.ret (.tup [(.tget r20 0),(.tget r20 1)])))
 (.next ⟨[],[]⟩)
 (.ret (.tup [(aF r0 (pc o3 1)),(pi 0)]))))
def Qy (b:Nat→PC):PT×List (Shp×PT):=(eI,[])
theorem A9:cf_tenor_after.map told=some (Qy (aA cf_tenor_after)):=by kernel_rfl
theorem gy:tree mN=eI:=aj A9
theorem FO:cf_tenor_after=some mN:=ah A9
noncomputable def cf_calendar_AddMonths:Option PC:=av {ctx with fr:=[4,5,6,7,8,9],nh:=[]} Tryz.f239 ((aa aq 239).getD default) []
noncomputable def dv:PC:=hpc cf_calendar_AddMonths
def dw:PT:=
 (.call ⟨[],[]⟩ [] 11 120 [r0]
 (.ite (.pick (.pick (.nt r11) pT (plt r1 (pi (-5000)))) pT (pgt r1 (pi 5000)))
 (.ret (.tup [(pi 0),(pi 3)]))
 (.call ⟨[],[]⟩ [] 23 191 [r0]
 (.chk (pne (pi 12) (pi 0))
 (.call ⟨[(41,(.tget r23 2)),(40,(aF (.ai .rem .i64 Z3 (pi 12)) (pi 1))),(39,(.ai .quo .i64 Z3 (pi 12)))],[]⟩ [] 44 273 [(.ai .quo .i64 Z3 (pi 12)),(aF (.ai .rem .i64 Z3 (pi 12)) (pi 1))]
 (.call ⟨[],[]⟩ [] 46 272 [r39,r40,(.mn r41 r44)]
 (.ret (.tup [(.tget r46 0),(.tget r46 1)]))))))))
def y1 (b:Nat→PC):PT×List (Shp×PT):=(dw,[])
theorem m8:cf_calendar_AddMonths.map told=some (y1 (aA cf_calendar_AddMonths)):=by kernel_rfl
theorem jI:tree dv=dw:=aj m8
theorem uW:cf_calendar_AddMonths=some dv:=ah m8
noncomputable def cf_calendar_valid:Option PC:=av {ctx with fr:=[2],nh:=[]} Tryz.f120 ((aa aq 120).getD default) []
noncomputable def gr:PC:=hpc cf_calendar_valid
def lD:PT:=
 (.ret (.pick (ple (pi 0) r0) (ple r0 (pi 100000)) pF))
def Gw (b:Nat→PC):PT×List (Shp×PT):=(lD,[])
theorem ug:cf_calendar_valid.map told=some (Gw (aA cf_calendar_valid)):=by kernel_rfl
theorem zi:tree gr=lD:=aj ug
theorem zj:cf_calendar_valid=some gr:=ah ug
noncomputable def cf_calendar_civil:Option PC:=av {ctx with fr:=[2,3,4,5,6,7,8,9],nh:=[]} Tryz.f191 ((aa aq 191).getD default) []
noncomputable def gm:PC:=hpc cf_calendar_civil
def lP:PT:=
 (.chk (pne (pi 146097) (pi 0))
 (.chk (pne (pi 1460) (pi 0))
 (.chk (pne (pi 36524) (pi 0))
 (.chk (pne (pi 146096) (pi 0))
 (.chk (pne (pi 365) (pi 0))
 (.chk (pne (pi 4) (pi 0))
 (.chk Sy
 (.chk (pne (pi 153) (pi 0))
 (.chk (pne (pi 5) (pi 0))
 (.ret (.tup [(.pick (plt aeY (pi 3)) (aF ab9 (pi 1)) ab9),aeY,(aF (aQ (aQ (.ai .rem .i64 (aF r0 (pi 730425)) (pi 146097)) (aQ (aF (.ai .mul .i64 (pi 365) X0) (.ai .quo .i64 X0 (pi 4))) (.ai .quo .i64 X0 (pi 100)))) (.ai .quo .i64 (aF (.ai .mul .i64 (pi 153) aek) (pi 2)) (pi 5))) (pi 1))])))))))))))
def Gp (b:Nat→PC):PT×List (Shp×PT):=(lP,[])
theorem uG:cf_calendar_civil.map told=some (Gp (aA cf_calendar_civil)):=by kernel_rfl
theorem Am:tree gm=lP:=aj uG
theorem A3:cf_calendar_civil=some gm:=ah uG
noncomputable def cf_calendar_length:Option PC:=av {ctx with fr:=[4],nh:=[]} Tryz.f273 ((aa aq 273).getD default) []
noncomputable def fy:PC:=hpc cf_calendar_length
def eX:PT:=
 (.ite (peq r1 (pi 12))
 (.ret (pi 31))
 (.call ⟨[],[]⟩ [] 10 284 [r0,(aF r1 (pi 1)),(pi 1)]
 (.call ⟨[],[]⟩ [] 13 284 [r0,r1,(pi 1)]
 (.ret (aQ r10 r13)))))
def DX (b:Nat→PC):PT×List (Shp×PT):=(eX,[])
theorem rR:cf_calendar_length.map told=some (DX (aA cf_calendar_length)):=by kernel_rfl
theorem yU:tree fy=eX:=aj rR
theorem yS:cf_calendar_length=some fy:=ah rR
noncomputable def cf_calendar_number:Option PC:=av {ctx with fr:=[6,0,1],nh:=[]} Tryz.f284 ((aa aq 284).getD default) []
noncomputable def fo:PC:=hpc cf_calendar_number
def eY:PT:=
 (.chk (pne (pi 4) (pi 0))
 (.chk Sy
 (.chk (pne (pi 400) (pi 0))
 (.chk (pne (pi 5) (pi 0))
 (.ret (aQ (aQ (aF (aF (aF (aQ (aF (.ai .mul .i64 (pi 365) aag) (.ai .quo .i64 aag (pi 4))) (.ai .quo .i64 aag (pi 100))) (.ai .quo .i64 aag (pi 400))) (.ai .quo .i64 (aF (.ai .mul .i64 (pi 153) (aQ (.pick (plt r1 (pi 3)) (aF r1 (pi 12)) r1) (pi 3))) (pi 2)) (pi 5))) r2) (pi 1)) (pi 730425)))))))
def EU (b:Nat→PC):PT×List (Shp×PT):=(eY,[])
theorem sw:cf_calendar_number.map told=some (EU (aA cf_calendar_number)):=by kernel_rfl
theorem na:tree fo=eY:=aj sw
theorem yY:cf_calendar_number=some fo:=ah sw
noncomputable def cf_calendar_Day:Option PC:=av {ctx with fr:=[6,7,8],nh:=[]} Tryz.f272 ((aa aq 272).getD default) []
noncomputable def kl:PC:=hpc cf_calendar_Day
def dG:PT:=
 (.call ⟨[(28,r2),(27,(.pick (.pick (.pick (.pick (plt r0 (pi 2000)) pT (pgt r0 (pi 2300))) pT (plt r1 (pi 1))) pT (pgt r1 (pi 12))) pT (plt r2 (pi 1))))],[]⟩ [(27,false)] 31 273 [r0,r1]
 (.ite (.pick r27 pT (pgt r28 r31))
 (.ret (.tup [(pi 0),(pi 3)]))
 (.call ⟨[],[]⟩ [] 37 284 [r0,r1,r2]
 (.call ⟨[(8,r37)],[]⟩ [] 39 120 [r37]
 (.ite (.nt r39)
 (.ret (.tup [(pi 0),(pi 3)]))
 (.ret (.tup [r8,(pi 0)])))))))
def MJ (b:Nat→PC):PT×List (Shp×PT):=(dG,[])
theorem ym:cf_calendar_Day.map told=some (MJ (aA cf_calendar_Day)):=by kernel_rfl
theorem fC:tree kl=dG:=aj ym
theorem EY:cf_calendar_Day=some kl:=ah ym
noncomputable def cf_realm_Usance:Option PC:=av {ctx with fr:=[6,7],nh:=[]} Tryz.f161 ((aa aq 161).getD default) [3,9]
noncomputable def jZ:PC:=hpc cf_realm_Usance
noncomputable def qh:Nat→PC:=hbd cf_realm_Usance
def E7 (b:Nat→PC):PC:=.block 0 [6,7,13,14] [] (.loop [6,7,13] [] (b 0))
def dK (b:Nat→PC):PT:=
 (.ite (plt r13 r12)
 (.chk (pix r11 r13)
 (.ite (.pick (peq (pc (.setc z3 0 (pn r11 r13)) 0) r1) (peq (pc (.setc z3 0 (pn r11 r13)) 1) r2) pF)
 (.ret (.tup [(pc (.setc z3 0 (pn r11 r13)) 2),(pi 0)]))
 (.next ⟨[(13,(aF r13 (pi 1)))],[]⟩)))
 (.exit 0 ⟨[(14,(plt r13 r12))],[]⟩))
def pK (b:Nat→PC):PT:=
 (.brk ⟨[(13,(pi 0)),(12,(.llen QI)),(11,QI),(7,(pi 0)),(6,(pi 0))],[]⟩
(E7 b)
 (.ret (.tup [(pi 0),(pi 4)])))
def Mc (b:Nat→PC):PT×List (Shp×PT):=(pK b,[(.lp 0 [6,7,13,14] [] [6,7,13] [],dK b)])
theorem qE:cf_realm_Usance.map told=some (Mc (aA cf_realm_Usance)):=by kernel_rfl
theorem D0:tree jZ=pK qh:=aj qE
theorem gT:round 0 [6,7,13,14] [] [6,7,13] [] (qh 0)=dK qh:=aw qE 0 fun _=>rfl
theorem D9:cf_realm_Usance=some jZ:=ah qE
noncomputable def cf_tenor_settle:Option PC:=av {ctx with fr:=[6,7,8,2,9,10],nh:=[]} Tryz.f177 ((aa aq 177).getD default) [3]
noncomputable def kz:PC:=hpc cf_tenor_settle
noncomputable def pY:Nat→PC:=hbd cf_tenor_settle
def Hf (b:Nat→PC):PC:=.block 0 [] [] (.loop [2,6,7] [] (b 0))
def mQ (b:Nat→PC):PT:=
 (.blockS ⟨[],[]⟩ 1 [2,6,7,9,10,14,15,16,17,18,19,20,21,22,23,24,25,26,27,28,29,30,31,32,34] []
 (.call ⟨[],[]⟩ [] 17 216 [(mkA 8 o3),r8,r2]
 (.chk (pix (pc o3 1) r1)
 (.call ⟨[(2,r17)],[]⟩ [] 25 217 [(pn (pc o3 1) r1),r17]
 (.ite (pne (.tget r25 1) (pi 0))
 (.ret (.tup [(pi 0),(pi 3)]))
 (.ite (peq (.tget r25 0) r2)
 (.ret (.tup [r2,(pi 0)]))
 (.next ⟨[(2,(.tget r25 0))],[]⟩))))))
 (.next ⟨[],[]⟩))
def pU (b:Nat→PC):PT:=
 (.call ⟨[(7,(pi 0)),(6,(pi 0))],[(3,(.mk [r0]))]⟩ [] 13 53 [oP,r1]
 (.brk ⟨[(8,r13)],[]⟩
(Hf b)
 (.next ⟨[],[]⟩)))
def MV (b:Nat→PC):PT×List (Shp×PT):=(pU b,[(.lp 0 [] [] [2,6,7] [],mQ b)])
theorem pv:cf_tenor_settle.map told=some (MV (aA cf_tenor_settle)):=by kernel_rfl
theorem DU:tree kz=pU pY:=aj pv
theorem AN:round 0 [] [] [2,6,7] [] (pY 0)=mQ pY:=aw pv 0 fun _=>rfl
theorem EP:cf_tenor_settle=some kz:=ah pv
noncomputable def cf_tenor_skip:Option PC:=av {ctx with fr:=[6,7,2],nh:=[]} Tryz.f216 ((aa aq 216).getD default) [3,9]
noncomputable def oa:PC:=hpc cf_tenor_skip
noncomputable def jH:Nat→PC:=hbd cf_tenor_skip
def LI (b:Nat→PC):PC:=.block 2 [2,7,14,15] [] (.loop [2,7,14] [] (b 0))
def MI (b:Nat→PC):PC:=.block 0 [2,7,10] [] (.loop [2,7] [] (b 1))
def dH (b:Nat→PC):PT:=
 (.ite zk
 (.chk (pix r12 r14)
 (.next ⟨[(2,(.pick aeS (aF (pc Th 2) (pi 1)) r2)),(7,(.pick aeS pT r7)),(14,(aF r14 (pi 1)))],[]⟩))
 (.exit 2 ⟨[(15,zk)],[]⟩))
def kA (b:Nat→PC):PT:=
 (.ite r7
 (.blockS ⟨[(10,r7)],[]⟩ 1 [2,7,11,12,13,14,15] []
 (.brk ⟨[(14,(pi 0)),(13,(.llen (pc o3 7))),(12,(pc o3 7)),(7,pF)],[]⟩
(LI b)
 (.next ⟨[],[]⟩))
 (.next ⟨[],[]⟩))
 (.exit 0 ⟨[(10,r7)],[]⟩))
def vG (b:Nat→PC):PT:=
 (.brk ⟨[(7,pT)],[(3,(.mk [r0]))]⟩
(MI b)
 (.ret r2))
def RL (b:Nat→PC):PT×List (Shp×PT):=(vG b,[(.lp 2 [2,7,14,15] [] [2,7,14] [],dH b),(.lp 0 [2,7,10] [] [2,7] [],kA b)])
theorem oc:cf_tenor_skip.map told=some (RL (aA cf_tenor_skip)):=by kernel_rfl
theorem Jk:tree oa=vG jH:=aj oc
theorem fh:round 2 [2,7,14,15] [] [2,7,14] [] (jH 0)=dH jH:=aw oc 0 fun _=>rfl
theorem td:round 0 [2,7,10] [] [2,7] [] (jH 1)=kA jH:=aw oc 1 fun _=>rfl
theorem Jd:cf_tenor_skip=some oa:=ah oc
noncomputable def cf_calendar_Next:Option PC:=av {ctx with fr:=[6],nh:=[]} Tryz.f217 ((aa aq 217).getD default) [2,4,5]
noncomputable def iy:PC:=hpc cf_calendar_Next
noncomputable def nI:Nat→PC:=hbd cf_calendar_Next
def EN (b:Nat→PC):PC:=.each r18 [16] [4,5] (some (.tup [(pc o4 0),(pc o5 0)])) (b 0)
def kW (b:Nat→PC):PT:=
 (.exit 1000000007 ⟨[],[(4,(.setc o4 0 r16)),(5,(.setc o5 0 (pi 0)))]⟩)
def nB (b:Nat→PC):PT:=
 (.call ⟨[],[(5,Nq),(4,Nq),(2,(.mk [r0]))]⟩ [] 8 120 [r1]
 (.ite (.nt r8)
 (.ret (.tup [(pc (.setc o4 0 (pi 0)) 0),(pc (.setc o5 0 (pi 3)) 0)]))
 (.call ⟨[],[]⟩ [] 15 240 [(mkA 6 o2),r1,(.mn (aF r1 (pi 400)) (pi 100000))]
 (.blockS ⟨[],[]⟩ 0 [] [4,5]
 (.callc ⟨[],[]⟩ [] 18 r15 []
 (.brk ⟨[],[]⟩
(EN b)
 (.next ⟨[],[]⟩)))
 (.ret (.tup [(pc (.setc o4 0 (pi 0)) 0),(pc (.setc o5 0 (pi 3)) 0)]))))))
def HQ (b:Nat→PC):PT×List (Shp×PT):=(nB b,[(.ea [4,5],kW b)])
theorem nz:cf_calendar_Next.map told=some (HQ (aA cf_calendar_Next)):=by kernel_rfl
theorem Cb:tree iy=nB nI:=aj nz
theorem y0:tn [4,5] (nI 0)=kW nI:=Un nz 0 fun _=>rfl
theorem B7:cf_calendar_Next=some iy:=ah nz
noncomputable def cf_calendar_days:Option PC:=av {ctx with fr:=[6],nh:=[]} Tryz.f240 ((aa aq 240).getD default) [3,4,5]
noncomputable def iM:PC:=hpc cf_calendar_days
def nC:PT:=
 (.ret (.clo 274 [(.ref (pc (.mk [r1]) 0)),(.ref (pc (.mk [r2]) 0)),(.ref (mkA 6 (.mk [r0])))]))
def HK (b:Nat→PC):PT×List (Shp×PT):=(nC,[])
theorem wj:cf_calendar_days.map told=some (HK (aA cf_calendar_days)):=by kernel_rfl
theorem BS:tree iM=nC:=aj wj
theorem BG:cf_calendar_days=some iM:=ah wj
noncomputable def cf_calendar_days_1:Option PC:=Xj {ctx with fr:=[5],nh:=[]} Tryz.f274 [(.ref I),(.ref I),(.ref Y0)] [I] 1000 [1000]
noncomputable def dj:PC:=hpc cf_calendar_days_1
noncomputable def kK:Nat→PC:=hbd cf_calendar_days_1
def zN (b:Nat→PC):PC:=.block 0 [5,7,8,9] [1000] (.loop [5] [1000] (b 0))
def dR (b:Nat→PC):PT:=
 (.ite (ple r5 (.deref r2))
 (.blockS ⟨[],[]⟩ 1 [12,13,14,15,20] [1000]
 (.call ⟨[],[]⟩ [] 14 121 [(.deref r3),r5]
 (.call ⟨[(15,r14)],[(1000,afq)]⟩ [(15,true)] 18 1000000009 [afq]
 (.ite (.pick r15 (.nt r18) pF)
 (.ret (.o 1000))
 (.next ⟨[],[]⟩))))
 (.next ⟨[(5,DP)],[]⟩))
 (.exit 0 ⟨[(7,r5),(8,(.deref r2)),(9,(ple r5 (.deref r2)))],[]⟩))
def kM (b:Nat→PC):PT:=
 (.brk ⟨[(5,(.deref r1))],[]⟩
(zN b)
 (.ret (.o 1000)))
def DZ (b:Nat→PC):PT×List (Shp×PT):=(kM b,[(.lp 0 [5,7,8,9] [1000] [5] [1000],dR b)])
theorem kC:cf_calendar_days_1.map told=some (DZ (aA cf_calendar_days_1)):=by kernel_rfl
theorem yO:tree dj=kM kK:=aj kC
theorem lf:round 0 [5,7,8,9] [1000] [5] [1000] (kK 0)=dR kK:=aw kC 0 fun _=>rfl
theorem yZ:cf_calendar_days_1=some dj:=ah kC
theorem BR:∀yv,Xj {ctx with fr:=[5],nh:=[],yv:=yv} Tryz.f274 [(.ref I),(.ref I),(.ref Y0)] [I] 1000 [1000]=some dj:=fun yv=>(show _=cf_calendar_days_1 by kernel_rfl).trans yZ
noncomputable def cf_calendar_open:Option PC:=av {ctx with fr:=[4,5,6,7],nh:=[]} Tryz.f121 ((aa aq 121).getD default) [2]
noncomputable def iW:PC:=hpc cf_calendar_open
def nD:PT:=
 (.call ⟨[],[(2,(.mk [r0]))]⟩ [] 10 191 [r1]
 (.chk (pne (pi 7) (pi 0))
 (.call ⟨[(7,(.tget r10 2)),(6,(.tget r10 1))],[]⟩ [] 19 116 [(pc o2 3),(.ai .rem .i64 (aF r1 (pi 5)) (pi 7))]
 (.call ⟨[(21,(.nt r19))],[]⟩ [(21,true)] 28 116 [(pc o2 4),(aF (.ai .mul .i64 (pi 100) r6) r7)]
 (.call ⟨[(31,(.pick r21 (.nt r28) pF))],[]⟩ [(31,true)] 35 116 [(pc o2 5),r1]
 (.ret (.pick r31 (.nt r35) pF)))))))
def HF (b:Nat→PC):PT×List (Shp×PT):=(nD,[])
theorem vV:cf_calendar_open.map told=some (HF (aA cf_calendar_open)):=by kernel_rfl
theorem BX:tree iW=nD:=aj vV
theorem BF:cf_calendar_open=some iW:=ah vV
noncomputable def cf_bind_view_effect:Option PC:=av {ctx with fr:=[],nh:=[]} Tryz.f62 ((aa aq 62).getD default) [2,4,5,6]
noncomputable def ej:PC:=hpc cf_bind_view_effect
def jo:PT:=
 (.chk (pix (pc (.mk [r0]) 25) r1)
 (.call ⟨[],[(6,(.setc XL 0 (.mk [r1,(pc VW 0),(pc VW 2),(pi 0),(pi 0),(pi 0),(.pick (pne (pc VW 0) (pi 1)) (peq (.ai .and .i64 (pc VW 8) (pi 1)) (pi 0)) pF)]))),(5,VW),(4,XL),(2,(.mk [r0]))]⟩ [] 33 131 [acx,r1,(pc (.mk [r0]) 9)]
 (.iteS ⟨[],[]⟩ (.nt r33) [] [6]
 (.call ⟨[(36,(pc o2 29))],[]⟩ [] 39 132 [(mkA 31 o2),(pi 1),r1]
 (.call ⟨[],[]⟩ [] 42 132 [(mkA 31 o2),(pi 2),r1]
 (.call ⟨[],[]⟩ [] 44 65 [(.lst [r36,r39,r42])]
 (.next ⟨[],[(6,(.setc o6 3 r44))]⟩))))
 (.next ⟨[],[]⟩)
 (.call ⟨[],[]⟩ [] 49 133 [(mkA 31 o2),r1]
 (.ret (mkA 7 (.setc o4 0 (mkA 7 (.pick (.pick (peq (pc o5 0) (pi 1)) pT (peq (pc o5 0) (pi 4))) (.setc adV 5 (.mn (pc adV 5) (pc o5 5))) adV)))))))))
def Cg (b:Nat→PC):PT×List (Shp×PT):=(jo,[])
theorem qK:cf_bind_view_effect.map told=some (Cg (aA cf_bind_view_effect)):=by kernel_rfl
theorem xM:tree ej=jo:=aj qK
theorem w7:cf_bind_view_effect=some ej:=ah qK
noncomputable def cf_title_Struck:Option PC:=av {ctx with fr:=[6],nh:=[]} Tryz.f131 ((aa aq 131).getD default) [3]
noncomputable def j3:PC:=hpc cf_title_Struck
def pz:PT:=
 (.call ⟨[(16,(.pick (pge r1 (pi 0)) (plt r1 (.llen AY)) pF))],[]⟩ [(16,true)] 19 196 [(mkA 19 (.mk [r0])),r2]
 (.ret (.pick r16 (.look r19 r1 pF) pF)))
def LH (b:Nat→PC):PT×List (Shp×PT):=(pz,[])
theorem yD:cf_title_Struck.map told=some (LH (aA cf_title_Struck)):=by kernel_rfl
theorem DD:tree j3=pz:=aj yD
theorem ED:cf_title_Struck=some j3:=ah yD
noncomputable def cf_title_struck:Option PC:=av {ctx with fr:=[4],nh:=[]} Tryz.f196 ((aa aq 196).getD default) [2,5,7]
noncomputable def j0:PC:=hpc cf_title_struck
noncomputable def qm:Nat→PC:=hbd cf_title_struck
def GY (b:Nat→PC):PC:=.block 0 [12,13] [5] (.loop [12] [5] (b 0))
def dP (b:Nat→PC):PT:=
 (.ite (plt r12 r11)
 (.chk (pix r10 r12)
 (.ite (.pick (peq (pc (.setc z9 0 wQ) 0) (pi 7)) (ple (pc (.setc z9 0 wQ) 6) r1) pF)
 (.chk (plt (.mlen o5) aZ)
 (.next ⟨[(12,(aF r12 (pi 1)))],[(5,(.put o5 (pc (.setc z9 0 wQ) 4) pT))]⟩))
 (.next ⟨[(12,(aF r12 (pi 1)))],[]⟩)))
 (.exit 0 ⟨[(13,(plt r12 r11))],[]⟩))
def qA (b:Nat→PC):PT:=
 (.brk ⟨[(12,(pi 0)),(11,(.llen (pc (.mk [r0]) 17))),(10,(pc (.mk [r0]) 17)),(5,pN)],[(5,(.con (.map [])))]⟩
(GY b)
 (.ret o5))
def Lq (b:Nat→PC):PT×List (Shp×PT):=(qA b,[(.lp 0 [12,13] [5] [12] [5],dP b)])
theorem p5:cf_title_struck.map told=some (Lq (aA cf_title_struck)):=by kernel_rfl
theorem Dq:tree j0=qA qm:=aj p5
theorem gS:round 0 [12,13] [5] [12] [5] (qm 0)=dP qm:=aw p5 0 fun _=>rfl
theorem Dx:cf_title_struck=some j0:=ah p5
noncomputable def cf_bind_view_says:Option PC:=av {ctx with fr:=[6],nh:=[]} Tryz.f132 ((aa aq 132).getD default) [3,7]
noncomputable def gl:PC:=hpc cf_bind_view_says
def lQ:PT:=
 (.call ⟨[],[]⟩ [] 23 36 [oP,(pc (.mk [r0]) 8),r1,(mkA 24 (.setc ae2 0 (.mk [acx,r2,r2,(pi (-1)),(pc (.mk [r0]) 30),(pc (.mk [r0]) 9)])))]
 (.call ⟨[],[]⟩ [] 24 41 [r23]
 (.ret r24)))
def Fp (b:Nat→PC):PT×List (Shp×PT):=(lQ,[])
theorem tY:cf_bind_view_says.map told=some (Fp (aA cf_bind_view_says)):=by kernel_rfl
theorem Af:tree gl=lQ:=aj tY
theorem zD:cf_bind_view_says=some gl:=ah tY
noncomputable def cf_bind_join:Option PC:=av {ctx with fr:=[2,3,5,12,15],nh:=[]} Tryz.f65 ((aa aq 65).getD default) []
noncomputable def rC:PC:=hpc cf_bind_join
noncomputable def w6:Nat→PC:=hbd cf_bind_join
def Oz (b:Nat→PC):PC:=.block 0 [2,3,8,9] [] (.loop [2,3,8] [] (b 0))
def gN (b:Nat→PC):PT:=
 (.ite (plt r8 r7)
 (.chk (pix r6 r8)
 (.ite (peq (pn r6 r8) (pi 0))
 (.ret (pi 0))
 (.next ⟨[(3,(.pick (peq (pn r6 r8) (pi 2)) (pi 2) r3)),(8,C7)],[]⟩)))
 (.exit 0 ⟨[(9,(plt r8 r7))],[]⟩))
def xN (b:Nat→PC):PT:=
 (.brk ⟨[(8,(pi 0)),(7,(.llen r0)),(6,r0),(3,(pi 1)),(2,(pi 0))],[]⟩
(Oz b)
 (.ret r3))
def Uk (b:Nat→PC):PT×List (Shp×PT):=(xN b,[(.lp 0 [2,3,8,9] [] [2,3,8] [],gN b)])
theorem xl:cf_bind_join.map told=some (Uk (aA cf_bind_join)):=by kernel_rfl
theorem Mf:tree rC=xN w6:=aj xl
theorem mA:round 0 [2,3,8,9] [] [2,3,8] [] (w6 0)=gN w6:=aw xl 0 fun _=>rfl
theorem LA:cf_bind_join=some rC:=ah xl
noncomputable def cf_bind_view_text:Option PC:=av {ctx with fr:=[4,5,6,7,10,50,54],nh:=[]} Tryz.f133 ((aa aq 133).getD default) [2,9]
noncomputable def gx:PC:=hpc cf_bind_view_text
noncomputable def me:Nat→PC:=hbd cf_bind_view_text
def BN (b:Nat→PC):PC:=.block 0 [7,23,24] [] (.loop [7,23] [] (b 0))
def cF (b:Nat→PC):PT:=
 (.ite (plt r23 r22)
 (.chk (pix r21 r23)
 (.next ⟨[(7,(.pick r7 pT (pgt (pc (.setc z2 0 (pn r21 r23)) 0) r1))),(23,(aF r23 (pi 1)))],[]⟩))
 (.exit 0 ⟨[(24,(plt r23 r22))],[]⟩))
def mm (b:Nat→PC):PT:=
 (.call ⟨[(5,(pi 0))],[(2,(.mk [r0]))]⟩ [] 14 197 [acx,r1]
 (.brk ⟨[(23,(pi 0)),(22,(.llen (pc o2 26))),(21,(pc o2 26)),(7,pF),(6,(.llen (pc o2 26))),(5,r14)],[]⟩
(BN b)
 (.ite (.nt r7)
 (.ret (.tup [(pi 0),r5]))
 (.chk (pix (pc o2 26) (aQ r6 (pi 1)))
 (.call ⟨[(10,(pc (pn (pc o2 26) (aQ r6 (pi 1))) 1))],[]⟩ [] 48 132 [(mkA 31 o2),(pi 4),r1]
 (.ite (peq r48 (pi 1))
 (.ret (.tup [r48,r10]))
 (.ite (peq r48 (pi 2))
 (.ret (.tup [r48,(.mn r5 r10)]))
 (.ret (.tup [r48,r5])))))))))
def GW (b:Nat→PC):PT×List (Shp×PT):=(mm b,[(.lp 0 [7,23,24] [] [7,23] [],cF b)])
theorem mI:cf_bind_view_text.map told=some (GW (aA cf_bind_view_text)):=by kernel_rfl
theorem zX:tree gx=mm me:=aj mI
theorem fa:round 0 [7,23,24] [] [7,23] [] (me 0)=cF me:=aw mI 0 fun _=>rfl
theorem zB:cf_bind_view_text=some gx:=ah mI
noncomputable def cf_paper_SumAt:Option PC:=av {ctx with fr:=[4,5],nh:=[]} Tryz.f197 ((aa aq 197).getD default) [2,7]
noncomputable def lZ:PC:=hpc cf_paper_SumAt
noncomputable def rP:Nat→PC:=hbd cf_paper_SumAt
def Ix (b:Nat→PC):PC:=.block 0 [5,14,15] [] (.loop [5,14] [] (b 0))
def iN (b:Nat→PC):PT:=
 (.ite zk
 (.chk (pix r12 r14)
 (.next ⟨[(5,(.pick (ple (pc (.setc z2 0 (pn r12 r14)) 0) r1) (pc (.setc z2 0 (pn r12 r14)) 1) r5)),(14,(aF r14 (pi 1)))],[]⟩))
 (.exit 0 ⟨[(15,zk)],[]⟩))
def sL (b:Nat→PC):PT:=
 (.brk ⟨[(14,(pi 0)),(13,(.llen (pc (.mk [r0]) 16))),(12,(pc (.mk [r0]) 16)),(5,(pc (.mk [r0]) 3))],[]⟩
(Ix b)
 (.ret r5))
def PO (b:Nat→PC):PT×List (Shp×PT):=(sL b,[(.lp 0 [5,14,15] [] [5,14] [],iN b)])
theorem sX:cf_paper_SumAt.map told=some (PO (aA cf_paper_SumAt)):=by kernel_rfl
theorem Ft:tree lZ=sL rP:=aj sX
theorem qI:round 0 [5,14,15] [] [5,14] [] (rP 0)=iN rP:=aw sX 0 fun _=>rfl
theorem Hi:cf_paper_SumAt=some lZ:=ah sX
noncomputable def cf_bind_Effects:Option PC:=av {ctx with fr:=[8,11],nh:=[]} Tryz.f20 ((aa aq 20).getD default) [4,6,9,10,28]
noncomputable def kh:PC:=hpc cf_bind_Effects
noncomputable def qC:Nat→PC:=hbd cf_bind_Effects
def Gu (b:Nat→PC):PC:=.block 0 [10,21,22] [10] (.loop [10,21] [10] (b 0))
def gp (b:Nat→PC):PT:=
 (.ite (plt r21 r20)
 (.blockS ⟨[],[]⟩ 1 [10,11,23,25,26,27,28,29] [10,28]
 (.call ⟨[],[]⟩ [] 27 62 [(mkA 31 o9),r21]
 (.chk (ple (.llen (.app o10 (.lst [r27]))) aZ)
 (.next ⟨[(10,pN)],[(10,(.app o10 (.lst [r27])))]⟩)))
 (.next ⟨[(21,(aF r21 (pi 1)))],[]⟩))
 (.exit 0 ⟨[(22,(plt r21 r20))],[]⟩))
def qz (b:Nat→PC):PT:=
 (.call ⟨[],[]⟩ [] 16 61 [oP,r1,(mkA 19 (.mk [r2])),r3]
 (.brk ⟨[(21,(pi 0)),(20,(.llen (pc (.setc acR 0 r16) 25))),(10,pN)],[(10,pL),(9,(.setc acR 0 r16))]⟩
(Gu b)
 (.ret o10)))
def L3 (b:Nat→PC):PT×List (Shp×PT):=(qz b,[(.lp 0 [10,21,22] [10] [10,21] [10],gp b)])
theorem pG:cf_bind_Effects.map told=some (L3 (aA cf_bind_Effects)):=by kernel_rfl
theorem Er:tree kh=qz qC:=aj pG
theorem oS:round 0 [10,21,22] [10] [10,21] [10] (qC 0)=gp qC:=aw pG 0 fun _=>rfl
theorem DO:cf_bind_Effects=some kh:=ah pG
noncomputable def cf_r23_Same:Option PC:=av {ctx with fr:=[4,5],nh:=[]} Tryz.f19 ((aa aq 19).getD default) []
noncomputable def tR:PC:=hpc cf_r23_Same
noncomputable def zd:Nat→PC:=hbd cf_r23_Same
def RU (b:Nat→PC):PC:=.block 0 [4,5,11,12,13,14] [] (.loop [4,5] [] (b 0))
def jW (b:Nat→PC):PT:=
 (.ite (plt r5 (.llen r0))
 (.chk (pix r0 r5)
 (.chk (pix r1 r5)
 (.ite (.nt (.an (peq (pc (pn r0 r5) 0) (pc (pn r1 r5) 0)) (.an (peq (pc (pn r0 r5) 1) (pc (pn r1 r5) 1)) (.an (peq (pc (pn r0 r5) 2) (pc (pn r1 r5) 2)) (.an (peq (pc (pn r0 r5) 3) (pc (pn r1 r5) 3)) (.an (peq (pc (pn r0 r5) 4) (pc (pn r1 r5) 4)) (.an (peq (pc (pn r0 r5) 5) (pc (pn r1 r5) 5)) (.an (.cb .eql (pc (pn r0 r5) 6) (pc (pn r1 r5) 6)) pT))))))))
 (.ret pF)
 (.next ⟨[(5,DP)],[]⟩))))
 (.exit 0 ⟨[(11,r5),(12,r0),(13,(.llen r0)),(14,(plt r5 (.llen r0)))],[]⟩))
def A7 (b:Nat→PC):PT:=
 (.ite (pne (.llen r0) (.llen r1))
 (.ret pF)
 (.brk ⟨[(5,(pi 0)),(4,pF)],[]⟩
(RU b)
 (.ret pT)))
def XF (b:Nat→PC):PT×List (Shp×PT):=(A7 b,[(.lp 0 [4,5,11,12,13,14] [] [4,5] [],jW b)])
theorem AG:cf_r23_Same.map told=some (XF (aA cf_r23_Same)):=by kernel_rfl
theorem OE:tree tR=A7 zd:=aj AG
theorem nR:round 0 [4,5,11,12,13,14] [] [4,5] [] (zd 0)=jW zd:=aw AG 0 fun _=>rfl
theorem Of:cf_r23_Same=some tR:=ah AG
noncomputable def cf_bind_And:Option PC:=av {ctx with fr:=[4],nh:=[]} Tryz.f22 ((aa aq 22).getD default) []
noncomputable def tU:PC:=hpc cf_bind_And
def ze:PT:=
 (.call ⟨[],[]⟩ [] 8 65 [(.lst [r0,r1])]
 (.ret r8))
def Xn (b:Nat→PC):PT×List (Shp×PT):=(ze,[])
theorem Ko:cf_bind_And.map told=some (Xn (aA cf_bind_And)):=by kernel_rfl
theorem P5:tree tU=ze:=aj Ko
theorem Nv:cf_bind_And=some tU:=ah Ko
noncomputable def cf_l23_few:Option PC:=av {ctx with fr:=[4],nh:=[]} Tryz.f16 ((aa aq 16).getD default) [2,3]
noncomputable def wJ:PC:=hpc cf_l23_few
def Dg:PT:=
 (.call ⟨[],[(2,(.mk [r0]))]⟩ [] 7 59 [oP,(mkA 19 (.mk [r1]))]
 (.call ⟨[(8,r7)],[]⟩ [(8,true)] 10 60 [(mkA 8 o2)]
 (.ret (.pick r8 (peq r10 (pi 0)) pF))))
def YW (b:Nat→PC):PT×List (Shp×PT):=(Dg,[])
theorem NW:cf_l23_few.map told=some (YW (aA cf_l23_few)):=by kernel_rfl
theorem RI:tree wJ=Dg:=aj NW
theorem Q8:cf_l23_few=some wJ:=ah NW
noncomputable def cf_r21_Few:Option PC:=av {ctx with fr:=[4,5],nh:=[]} Tryz.f59 ((aa aq 59).getD default) [2,3]
noncomputable def wX:PC:=hpc cf_r21_Few
noncomputable def D5:Nat→PC:=hbd cf_r21_Few
def UI (b:Nat→PC):PC:=.block 0 [4,5,14,15,16,17,18] [] (.loop [4,5] [] (b 0))
def mS (b:Nat→PC):PT:=
 (.ite (plt r5 (.llen (pc o2 4)))
 (.blockS ⟨[],[]⟩ 1 [4,21,22,23,24,25,26,27] []
 (.chk (pix (pc o2 4) r5)
 (.call ⟨[],[]⟩ [] 26 125 [(pn (pc o2 4) r5)]
 (.ite (.nt r26)
 (.ret pF)
 (.next ⟨[],[]⟩))))
 (.next ⟨[(5,DP)],[]⟩))
 (.exit 0 ⟨[(14,r5),(15,pN),(16,(pc o2 4)),(17,(.llen (pc o2 4))),(18,(plt r5 (.llen (pc o2 4))))],[]⟩))
def DQ (b:Nat→PC):PT:=
 (.call ⟨[(4,pF)],[(3,(.mk [r1])),(2,(.mk [r0]))]⟩ [] 7 123 [oP]
 (.call ⟨[(9,(.nt r7))],[]⟩ [(9,false)] 11 124 [(mkA 19 o3)]
 (.ite (.pick r9 pT (.nt r11))
 (.ret pF)
 (.brk ⟨[(5,(pi 0))],[]⟩
(UI b)
 (.ret pT)))))
def Ye (b:Nat→PC):PT×List (Shp×PT):=(DQ b,[(.lp 0 [4,5,14,15,16,17,18] [] [4,5] [],mS b)])
theorem Ef:cf_r21_Few.map told=some (Ye (aA cf_r21_Few)):=by kernel_rfl
theorem Rx:tree wX=DQ D5:=aj Ef
theorem pW:round 0 [4,5,14,15,16,17,18] [] [4,5] [] (D5 0)=mS D5:=aw Ef 0 fun _=>rfl
theorem RH:cf_r21_Few=some wX:=ah Ef
noncomputable def cf_r09_Few:Option PC:=av {ctx with fr:=[2,3,4],nh:=[]} Tryz.f123 ((aa aq 123).getD default) [1]
noncomputable def wG:PC:=hpc cf_r09_Few
noncomputable def rN:Nat→PC:=hbd cf_r09_Few
def Vk (b:Nat→PC):PC:=.block 0 [2,3,5,6,7,8,9,10,13] [] (.loop [2,3] [] (b 0))
def U4 (b:Nat→PC):PC:=.block 2 [2,4,44,45,46,47,48,49,52] [] (.loop [2,4] [] (b 1))
def eW (b:Nat→PC):PT:=
 (.ite (.pick (plt r3 sG) (plt r3 (pi 50)) pF)
 (.chk (pix (pc o1 1) r3)
 (.chk (.nt (.an (.an (.nt (pgt (.llen (pc (pn (pc o1 1) r3) 4)) (pi 70))) pT) (.nt (pix (pc o1 1) r3))))
 (.chk (.nt (.an (.an (.nt afr) pT) (.nt (pix (pc o1 1) r3))))
 (.ite (.pick afr pT (pgt (.llen (pc (pn (pc o1 1) r3) 3)) (pi 8)))
 (.ret pF)
 (.next ⟨[(3,Lf)],[]⟩)))))
 (.exit 0 ⟨[(5,r3),(6,pN),(7,(pc o1 1)),(8,sG),(9,(plt r3 sG)),(10,(plt r3 sG)),(13,(.pick (plt r3 sG) (plt r3 (pi 50)) pF))],[]⟩))
def jd (b:Nat→PC):PT:=
 (.ite (.pick (plt r4 yF) (plt r4 (pi 50)) pF)
 (.chk (pix (pc o1 4) r4)
 (.chk (.nt (.an (.an (.nt (pgt (.llen (pc O2 2)) (pi 40))) pT) (.nt (pix (pc o1 4) r4))))
 (.ite (.pick (pgt (.llen (pc O2 2)) (pi 40)) pT (pgt (.llen (pc O2 3)) (pi 40)))
 (.ret pF)
 (.next ⟨[(4,(aF r4 (pi 1)))],[]⟩))))
 (.exit 2 ⟨[(44,r4),(45,pN),(46,(pc o1 4)),(47,yF),(48,(plt r4 yF)),(49,(plt r4 yF)),(52,(.pick (plt r4 yF) (plt r4 (pi 50)) pF))],[]⟩))
def DF (b:Nat→PC):PT:=
 (.brk ⟨[(3,(pi 0)),(2,pF)],[(1,(.mk [r0]))]⟩
(Vk b)
 (.brk ⟨[(4,(pi 0))],[]⟩
(U4 b)
 (.ret (.pick (.pick (.pick (.pick (.pick (.pick (.pick (plt KL (pi 50)) (plt sG (pi 50)) pF) (plt CP (pi 50)) pF) (plt vN (pi 210)) pF) (plt yF (pi 50)) pF) (plt JT (pi 110)) pF) (plt (.llen (pc o1 6)) (pi 110)) pF) (plt D3 (pi 50)) pF))))
def X6 (b:Nat→PC):PT×List (Shp×PT):=(DF b,[(.lp 0 [2,3,5,6,7,8,9,10,13] [] [2,3] [],eW b),(.lp 2 [2,4,44,45,46,47,48,49,52] [] [2,4] [],jd b)])
theorem xU:cf_r09_Few.map told=some (X6 (aA cf_r09_Few)):=by kernel_rfl
theorem RK:tree wG=DF rN:=aj xU
theorem fT:round 0 [2,3,5,6,7,8,9,10,13] [] [2,3] [] (rN 0)=eW rN:=aw xU 0 fun _=>rfl
theorem j4:round 2 [2,4,44,45,46,47,48,49,52] [] [2,4] [] (rN 1)=jd rN:=aw xU 1 fun _=>rfl
theorem RR:cf_r09_Few=some wG:=ah xU
noncomputable def cf_r14_Few:Option PC:=av {ctx with fr:=[2],nh:=[]} Tryz.f124 ((aa aq 124).getD default) [1]
noncomputable def w8:PC:=hpc cf_r14_Few
def EL:PT:=
 (.ret (.pick (.pick (.pick (ple (.llen AY) (pi 50)) (ple (.llen (pc (.mk [r0]) 16)) (pi 10)) pF) (ple (.llen (pc (.mk [r0]) 17)) (pi 110)) pF) (ple (.llen Jm) (pi 220)) pF))
def Zr (b:Nat→PC):PT×List (Shp×PT):=(EL,[])
theorem QD:cf_r14_Few.map told=some (Zr (aA cf_r14_Few)):=by kernel_rfl
theorem RA:tree w8=EL:=aj QD
theorem Rt:cf_r14_Few=some w8:=ah QD
noncomputable def cf_r18_Few:Option PC:=av {ctx with fr:=[2,3],nh:=[]} Tryz.f125 ((aa aq 125).getD default) [1]
noncomputable def xq:PC:=hpc cf_r18_Few
noncomputable def DS:Nat→PC:=hbd cf_r18_Few
def Ud (b:Nat→PC):PC:=.block 0 [2,3,14,15,16,17,18] [] (.loop [2,3] [] (b 0))
def l5 (b:Nat→PC):PT:=
 (.ite (plt r3 vN)
 (.blockS ⟨[],[]⟩ 1 [2,21,22,23,24,25,26,27,28] []
 (.chk (pix (pc o1 3) r3)
 (.call ⟨[],[]⟩ [] 27 192 [(.sub (pn (pc o1 3) r3) 1 3)]
 (.ite (.nt r27)
 (.ret pF)
 (.next ⟨[],[]⟩))))
 (.next ⟨[(3,Lf)],[]⟩))
 (.exit 0 ⟨[(14,r3),(15,pN),(16,(pc o1 3)),(17,vN),(18,(plt r3 vN))],[]⟩))
def EC (b:Nat→PC):PT:=
 (.ite (.pick (pgt (.llen (pc (.mk [r0]) 3)) (pi 60)) pT (pgt Ad (pi 60)))
 (.ret pF)
 (.brk ⟨[(3,(pi 0)),(2,pF)],[(1,(.mk [r0]))]⟩
(Ud b)
 (.ret pT)))
def YX (b:Nat→PC):PT×List (Shp×PT):=(EC b,[(.lp 0 [2,3,14,15,16,17,18] [] [2,3] [],l5 b)])
theorem Dp:cf_r18_Few.map told=some (YX (aA cf_r18_Few)):=by kernel_rfl
theorem Sv:tree xq=EC DS:=aj Dp
theorem p8:round 0 [2,3,14,15,16,17,18] [] [2,3] [] (DS 0)=l5 DS:=aw Dp 0 fun _=>rfl
theorem RZ:cf_r18_Few=some xq:=ah Dp
noncomputable def cf_r15_Few:Option PC:=av {ctx with fr:=[2],nh:=[]} Tryz.f192 ((aa aq 192).getD default) [1]
noncomputable def xj:PC:=hpc cf_r15_Few
def Dh:PT:=
 (.call ⟨[],[]⟩ [] 4 226 [(.mk [tp,GF,OC]),(pi 100),(pi 20)]
 (.ret (pge r4 (pi 0))))
def YY (b:Nat→PC):PT×List (Shp×PT):=(Dh,[])
theorem Pe:cf_r15_Few.map told=some (YY (aA cf_r15_Few)):=by kernel_rfl
theorem Rq:tree xj=Dh:=aj Pe
theorem RG:cf_r15_Few=some xj:=ah Pe
noncomputable def cf_r15_size:Option PC:=av {ctx with fr:=[6,1,7],nh:=[]} Tryz.f226 ((aa aq 226).getD default) [3]
noncomputable def uy:PC:=hpc cf_r15_size
noncomputable def Ae:Nat→PC:=hbd cf_r15_size
def RJ (b:Nat→PC):PC:=.block 0 [1,7,12,13,14,15,16,17,20] [] (.loop [1,7] [] (b 0))
def jL (b:Nat→PC):PT:=
 (.ite (.pick (plt r7 yz) (pge r1 (pi 0)) pF)
 (.blockS ⟨[],[]⟩ 1 [1,23,24,25,26,27,28,29,30,31] []
 (.chk (pix (pc o3 2) r7)
 (.call ⟨[],[]⟩ [] 31 226 [(pn (pc o3 2) r7),r1,DW]
 (.next ⟨[(1,r31)],[]⟩)))
 (.next ⟨[(7,(aF r7 (pi 1)))],[]⟩))
 (.exit 0 ⟨[(12,r7),(13,pN),(14,(pc o3 2)),(15,yz),(16,(plt r7 yz)),(17,(plt r7 yz)),(20,(.pick (plt r7 yz) (pge r1 (pi 0)) pF))],[]⟩))
def tZ (b:Nat→PC):PT:=
 (.ite (plt r2 (pi 1))
 (.ret (pi (-1)))
 (.brk ⟨[(7,(pi 0)),(1,(aQ r1 (pi 1)))],[(3,(.mk [r0]))]⟩
(RJ b)
 (.ret r1)))
def V8 (b:Nat→PC):PT×List (Shp×PT):=(tZ b,[(.lp 0 [1,7,12,13,14,15,16,17,20] [] [1,7] [],jL b)])
theorem zG:cf_r15_size.map told=some (V8 (aA cf_r15_size)):=by kernel_rfl
theorem Al:tree uy=tZ Ae:=aj zG
theorem nl:round 0 [1,7,12,13,14,15,16,17,20] [] [1,7] [] (Ae 0)=jL Ae:=aw zG 0 fun _=>rfl
theorem Qc:cf_r15_size=some uy:=ah zG
noncomputable def cf_r09_Check:Option PC:=av {ctx with fr:=[2,3],nh:=[]} Tryz.f60 ((aa aq 60).getD default) [1]
noncomputable def rJ:PC:=hpc cf_r09_Check
def xP:PT:=
 (.call ⟨[],[(1,(.mk [r0]))]⟩ [] 5 126 [oP]
 (.iteS ⟨[(3,r5)],[]⟩ FL [3] []
 (.call ⟨[],[]⟩ [] 9 127 [(mkA 8 o1)]
 (.next ⟨[(3,r9)],[]⟩))
 (.next ⟨[],[]⟩)
 (.iteS ⟨[],[]⟩ (peq r3 (pi 0)) [3] []
 (.call ⟨[],[]⟩ [] 13 128 [(mkA 8 o1)]
 (.next ⟨[(3,r13)],[]⟩))
 (.next ⟨[],[]⟩)
 (.iteS ⟨[],[]⟩ (peq r3 (pi 0)) [3] []
 (.call ⟨[],[]⟩ [] 17 129 [(mkA 8 o1)]
 (.next ⟨[(3,r17)],[]⟩))
 (.next ⟨[],[]⟩)
 (.iteS ⟨[],[]⟩ (peq r3 (pi 0)) [3] []
 (.call ⟨[],[]⟩ [] 21 130 [(mkA 8 o1)]
 (.next ⟨[(3,r21)],[]⟩))
 (.next ⟨[],[]⟩)
 (.ret r3))))))
def Vc (b:Nat→PC):PT×List (Shp×PT):=(xP,[])
theorem Hb:cf_r09_Check.map told=some (Vc (aA cf_r09_Check)):=by kernel_rfl
theorem LG:tree rJ=xP:=aj Hb
theorem MW:cf_r09_Check=some rJ:=ah Hb
noncomputable def cf_r09_cities:Option PC:=av {ctx with fr:=[2,3,4,6,7],nh:=[]} Tryz.f126 ((aa aq 126).getD default) [1,5,44]
noncomputable def oM:PC:=hpc cf_r09_cities
noncomputable def jT:Nat→PC:=hbd cf_r09_cities
def Mm (b:Nat→PC):PC:=.block 0 [2,3,12,13,14,15,16] [] (.loop [2,3] [] (b 0))
def L0 (b:Nat→PC):PC:=.block 2 [2,5,6,30,31,32,33,34] [5] (.loop [2,5,6] [5] (b 1))
def fH (b:Nat→PC):PT:=
 (.ite (plt r3 KL)
 (.blockS ⟨[],[]⟩ 1 [2,4,19,20,21,22,23,24] []
 (.call ⟨[],[]⟩ [] 22 193 [(pc o1 0),r3]
 (.ite (pne r22 (pi 0))
 (.ret r22)
 (.next ⟨[],[]⟩)))
 (.next ⟨[(3,Lf)],[]⟩))
 (.exit 0 ⟨[(12,r3),(13,pN),(14,(pc o1 0)),(15,KL),(16,(plt r3 KL))],[]⟩))
def fO (b:Nat→PC):PT:=
 (.ite (plt r6 sG)
 (.blockS ⟨[],[]⟩ 3 [2,5,7,38,39,40,41,42,43,44,45,46,47,48,49,50,52,53,54,55,56,57,58,59] [44,5]
 (.chk (pix (pc o1 1) r6)
 (.chk (ple (.llen Zu) aZ)
 (.call ⟨[(5,pN)],[(5,Zu)]⟩ [] 48 193 [Zu,r6]
 (.ite (pne r48 (pi 0))
 (.ret r48)
 (.chk (pix (pc o1 1) r6)
 (.call ⟨[],[]⟩ [] 58 194 [(mkA 8 o1),(pn (pc o1 1) r6)]
 (.ite (.nt r58)
 (.ret (pi 1))
 (.next ⟨[],[]⟩))))))))
 (.next ⟨[(6,(aF r6 (pi 1)))],[]⟩))
 (.exit 2 ⟨[(30,r6),(31,pN),(32,(pc o1 1)),(33,sG),(34,(plt r6 sG))],[]⟩))
def vj (b:Nat→PC):PT:=
 (.ite (pgt (.llen tp) (pi 8))
 (.ret (pi 6))
 (.brk ⟨[(3,(pi 0)),(2,(pi 0))],[(1,(.mk [r0]))]⟩
(Mm b)
 (.ite (pgt sG (pi 40))
 (.ret (pi 6))
 (.brk ⟨[(6,(pi 0)),(5,pN)],[(5,pL)]⟩
(L0 b)
 (.ret (pi 0))))))
def Q6 (b:Nat→PC):PT×List (Shp×PT):=(vj b,[(.lp 0 [2,3,12,13,14,15,16] [] [2,3] [],fH b),(.lp 2 [2,5,6,30,31,32,33,34] [5] [2,5,6] [5],fO b)])
theorem ox:cf_r09_cities.map told=some (Q6 (aA cf_r09_cities)):=by kernel_rfl
theorem Iq:tree oM=vj jT:=aj ox
theorem kV:round 0 [2,3,12,13,14,15,16] [] [2,3] [] (jT 0)=fH jT:=aw ox 0 fun _=>rfl
theorem kI:round 2 [2,5,6,30,31,32,33,34] [5] [2,5,6] [5] (jT 1)=fO jT:=aw ox 1 fun _=>rfl
theorem Jy:cf_r09_cities=some oM:=ah ox
noncomputable def cf_r09_named:Option PC:=av {ctx with fr:=[4],nh:=[]} Tryz.f193 ((aa aq 193).getD default) []
noncomputable def rE:PC:=hpc cf_r09_named
def xV:PT:=
 (.chk (pix r0 r1)
 (.call ⟨[],[]⟩ [] 9 227 [(pn r0 r1)]
 (.ite (.nt r9)
 (.ret (pi 2))
 (.chk (pix r0 r1)
 (.call ⟨[],[]⟩ [] 17 228 [r0,r1,(pn r0 r1)]
 (.ite r17
 (.ret (pi 5))
 (.ret (pi 0))))))))
def TS (b:Nat→PC):PT×List (Shp×PT):=(xV,[])
theorem Ga:cf_r09_named.map told=some (TS (aA cf_r09_named)):=by kernel_rfl
theorem Lx:tree rE=xV:=aj Ga
theorem Lu:cf_r09_named=some rE:=ah Ga
noncomputable def cf_r09_Name:Option PC:=av {ctx with fr:=[2,3,4],nh:=[]} Tryz.f227 ((aa aq 227).getD default) []
noncomputable def uw:PC:=hpc cf_r09_Name
noncomputable def y8:Nat→PC:=hbd cf_r09_Name
def Ri (b:Nat→PC):PC:=.block 0 [2,3,13,14,15,16] [] (.loop [2,3] [] (b 0))
def jO (b:Nat→PC):PT:=
 (.ite (plt r3 (.slen r0))
 (.blockS ⟨[],[]⟩ 1 [2,4,19,20,21,22,23,34,35,36,37,38,39,40,47] []
 (.chk (.sok r0 r3)
 (.chk (.nt (.an (.an (.nt ac9) pT) (.nt (.sok r0 r3))))
 (.chk (.nt (.an (.an (ple (.con (.v (.int .u8 48))) (.sidx r0 r3)) (.an (.nt ac9) pT)) (.nt (.sok r0 r3))))
 (.call ⟨[(4,(.pick ac9 pT (.pick (ple (.con (.v (.int .u8 48))) (.sidx r0 r3)) (ple (.sidx r0 r3) (.con (.v (.int .u8 57)))) pF)))],[]⟩ [] 38 252 [(.sidx r0 r3)]
 (.ite (.pick (.nt r38) (.pick (peq r3 (pi 0)) pT (.nt r4)) pF)
 (.ret pF)
 (.next ⟨[],[]⟩))))))
 (.next ⟨[(3,Lf)],[]⟩))
 (.exit 0 ⟨[(13,r3),(14,r0),(15,(.slen r0)),(16,(plt r3 (.slen r0)))],[]⟩))
def zy (b:Nat→PC):PT:=
 (.ite (.pick (plt (.slen r0) (pi 1)) pT (pgt (.slen r0) (pi 20)))
 (.ret pF)
 (.brk ⟨[(3,(pi 0)),(2,pF)],[]⟩
(Ri b)
 (.ret pT)))
def Xs (b:Nat→PC):PT×List (Shp×PT):=(zy b,[(.lp 0 [2,3,13,14,15,16] [] [2,3] [],jO b)])
theorem zH:cf_r09_Name.map told=some (Xs (aA cf_r09_Name)):=by kernel_rfl
theorem Pn:tree uw=zy y8:=aj zH
theorem nK:round 0 [2,3,13,14,15,16] [] [2,3] [] (y8 0)=jO y8:=aw zH 0 fun _=>rfl
theorem NV:cf_r09_Name=some uw:=ah zH
noncomputable def cf_r09_Letter:Option PC:=av {ctx with fr:=[2],nh:=[]} Tryz.f252 ((aa aq 252).getD default) []
noncomputable def oy:PC:=hpc cf_r09_Letter
def vb:PT:=
 (.ret (.pick (.pick (ple (.con (.v (.int .u8 97))) r0) (ple r0 (.con (.v (.int .u8 122)))) pF) pT (.pick (ple (.con (.v (.int .u8 65))) r0) (ple r0 (.con (.v (.int .u8 90)))) pF)))
def Rc (b:Nat→PC):PT×List (Shp×PT):=(vb,[])
theorem Cs:cf_r09_Letter.map told=some (Rc (aA cf_r09_Letter)):=by kernel_rfl
theorem JW:tree oy=vb:=aj Cs
theorem JH:cf_r09_Letter=some oy:=ah Cs
noncomputable def cf_r09_Before:Option PC:=av {ctx with fr:=[6,7],nh:=[]} Tryz.f228 ((aa aq 228).getD default) []
noncomputable def nY:PC:=hpc cf_r09_Before
noncomputable def vB:Nat→PC:=hbd cf_r09_Before
def MK (b:Nat→PC):PC:=.block 0 [6,7,8,9,10,11,16] [] (.loop [6,7] [] (b 0))
def fL (b:Nat→PC):PT:=
 (.ite (.pick (plt r7 r1) (plt r7 (.llen r0)) pF)
 (.chk (pix r0 r7)
 (.ite (.cs .eql (pn r0 r7) r2)
 (.ret pT)
 (.next ⟨[(7,(aF r7 (pi 1)))],[]⟩)))
 (.exit 0 ⟨[(8,r7),(9,r1),(10,(plt r7 r1)),(11,(plt r7 r1)),(16,(.pick (plt r7 r1) (plt r7 (.llen r0)) pF))],[]⟩))
def vm (b:Nat→PC):PT:=
 (.brk ⟨[(7,(pi 0)),(6,pF)],[]⟩
(MK b)
 (.ret pF))
def Ro (b:Nat→PC):PT×List (Shp×PT):=(vm b,[(.lp 0 [6,7,8,9,10,11,16] [] [6,7] [],fL b)])
theorem vD:cf_r09_Before.map told=some (Ro (aA cf_r09_Before)):=by kernel_rfl
theorem IA:tree nY=vm vB:=aj vD
theorem kP:round 0 [6,7,8,9,10,11,16] [] [6,7] [] (vB 0)=fL vB:=aw vD 0 fun _=>rfl
theorem Iv:cf_r09_Before=some nY:=ah vD
end Rm
