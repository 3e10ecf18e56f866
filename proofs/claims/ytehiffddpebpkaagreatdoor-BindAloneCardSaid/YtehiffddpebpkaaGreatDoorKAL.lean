/-
  The functions of this seat, compiled (1).
-/
import Derived.Test.YtehiffddpebpkaaGreatDoorKAK
import Derived.KernelRfl
set_option linter.unusedVariables false
set_option maxRecDepth 100000
namespace Rm
open Go Go.Proofs Cx
noncomputable def cf_l23_BindAlone:Option PC:=av {ctx with fr:=[12,13,15,16,18,20],nh:=[]} Tryz.f4 ((aa aq 4).getD default) [6,8,14,77838,53,78,17,19]
noncomputable def gQ:PC:=hpc cf_l23_BindAlone
noncomputable def ew:Nat→PC:=hbd cf_l23_BindAlone
def CA (b:Nat→PC):PC:=.block 0 [15,34,35,36,37] [14,77838] (.loop [15] [14,77838] (b 0))
def B9 (b:Nat→PC):PC:=.block 2 [16,56,57,58,59,60] [14,77838] (.loop [16] [14,77838] (b 1))
def db (b:Nat→PC):PT:=
 (.ite (plt r15 (.llen r5))
 (.chk (pix r5 r15)
 (.ite (pne (pc (pn r5 r15) 1) r3)
 (.chk (ple (.llen (.app (.o 77838) (.lst [(pn r5 r15)]))) (pi 4294967296))
 (.next ⟨[(15,(ao r15 (pi 1)))],[(14,(.setc o14 18 pN)),(77838,(.app (.o 77838) (.lst [(pn r5 r15)])))]⟩))
 (.next ⟨[(15,(ao r15 (pi 1)))],[]⟩)))
 (.exit 0 ⟨[(34,r15),(35,r5),(36,(.llen r5)),(37,(plt r15 (.llen r5)))],[]⟩))
def dc (b:Nat→PC):PT:=
 (.ite (plt r16 (.llen (pc o8 18)))
 (.chk (pix (pc o8 18) r16)
 (.ite (peq (pc (pn (pc o8 18) r16) 1) r3)
 (.chk (ple (.llen (.app (.o 77838) (.lst [(pn (pc o8 18) r16)]))) (pi 4294967296))
 (.next ⟨[(16,(ao r16 (pi 1)))],[(14,(.setc o14 18 pN)),(77838,(.app (.o 77838) (.lst [(pn (pc o8 18) r16)])))]⟩))
 (.next ⟨[(16,(ao r16 (pi 1)))],[]⟩)))
 (.exit 2 ⟨[(56,r16),(57,pN),(58,(pc o8 18)),(59,(.llen (pc o8 18))),(60,(plt r16 (.llen (pc o8 18))))],[]⟩))
def mO (b:Nat→PC):PT:=
 (.call ⟨[],[(8,(.mk [r2])),(6,(.mk [r0]))]⟩ [] 21 15 []
 (.call ⟨[(13,r21)],[]⟩ [] 24 16 [(mkA 8 o6),(mkA 19 o8)]
 (.ite (.pick (.nt r24) pT (pgt (.llen r5) (pi 100)))
 (.ret r13)
 (.brk ⟨[(15,(pi 0))],[(77838,pL),(14,(.setc (.setc (.con (.agg [(.int 0),(.int 0),(.int 0),(.int 0),(.int 0),(.int 0),(.int 0),(.int 0),(.int 0),(.int 0),(.int 0),(.int 0),(.int 0),(.int 0),(.int 0),(.list []),(.list []),(.list []),(.list [])])) 0 (mkA 19 o8)) 18 pL))]⟩
(CA b)
 (.brk ⟨[(16,(pi 0))],[]⟩
(B9 b)
 (.call ⟨[],[]⟩ [] 87 17 [(mkA 8 o6),r1,(mkA 19 o8),r3,r4]
 (.call ⟨[(18,(.tget r87 1))],[(17,(.setc (.con (.agg [(.int 0),(.int 0),(.int 0),(.int 0),(.int 0),(.int 0),(.bool false)])) 0 (.tget r87 0)))]⟩ [] 96 17 [(mkA 8 o6),r1,(.mk [(pc o14 0),(pc o14 1),(pc o14 2),(pc o14 3),(pc o14 4),(pc o14 5),(pc o14 6),(pc o14 7),(pc o14 8),(pc o14 9),(pc o14 10),(pc o14 11),(pc o14 12),(pc o14 13),(pc o14 14),(pc o14 15),(pc o14 16),(pc o14 17),(.o 77838)]),r3,r4]
 (.ret (.pick (.pick r13 (.an (peq (pc (mkA 7 o17) 0) (pc (mkA 7 (.setc (.con (.agg [(.int 0),(.int 0),(.int 0),(.int 0),(.int 0),(.int 0),(.bool false)])) 0 (.tget r96 0))) 0)) (.an (peq (pc (mkA 7 o17) 1) (pc (mkA 7 (.setc (.con (.agg [(.int 0),(.int 0),(.int 0),(.int 0),(.int 0),(.int 0),(.bool false)])) 0 (.tget r96 0))) 1)) (.an (peq (pc (mkA 7 o17) 2) (pc (mkA 7 (.setc (.con (.agg [(.int 0),(.int 0),(.int 0),(.int 0),(.int 0),(.int 0),(.bool false)])) 0 (.tget r96 0))) 2)) (.an (peq (pc (mkA 7 o17) 3) (pc (mkA 7 (.setc (.con (.agg [(.int 0),(.int 0),(.int 0),(.int 0),(.int 0),(.int 0),(.bool false)])) 0 (.tget r96 0))) 3)) (.an (peq (pc (mkA 7 o17) 4) (pc (mkA 7 (.setc (.con (.agg [(.int 0),(.int 0),(.int 0),(.int 0),(.int 0),(.int 0),(.bool false)])) 0 (.tget r96 0))) 4)) (.an (peq (pc (mkA 7 o17) 5) (pc (mkA 7 (.setc (.con (.agg [(.int 0),(.int 0),(.int 0),(.int 0),(.int 0),(.int 0),(.bool false)])) 0 (.tget r96 0))) 5)) (.an (.cb .eql (pc (mkA 7 o17) 6) (pc (mkA 7 (.setc (.con (.agg [(.int 0),(.int 0),(.int 0),(.int 0),(.int 0),(.int 0),(.bool false)])) 0 (.tget r96 0))) 6)) pT))))))) pF) (.cb .eql r18 (.tget r96 1)) pF)))))))))
def Hp (b:Nat→PC):PT×List (Shp×PT):=(mO b,[(.lp 0 [15,34,35,36,37] [14,77838] [15] [14,77838],db b),(.lp 2 [16,56,57,58,59,60] [14,77838] [16] [14,77838],dc b)])
theorem gN:cf_l23_BindAlone.map told=some (Hp (aA cf_l23_BindAlone)):=by kernel_rfl
theorem Ae:tree gQ=mO ew:=ah gN
theorem fO:round 0 [15,34,35,36,37] [14,77838] [15] [14,77838] (ew 0)=db ew:=ax gN 0 fun _=>rfl
theorem fP:round 2 [16,56,57,58,59,60] [14,77838] [16] [14,77838] (ew 1)=dc ew:=ax gN 1 fun _=>rfl
theorem zJ:cf_l23_BindAlone=some gQ:=af gN
noncomputable def cf_l23_small:Option PC:=av {ctx with fr:=[0,3,5,7],nh:=[]} Tryz.f15 ((aa aq 15).getD default) [1,2,4]
noncomputable def qn:PC:=hpc cf_l23_small
def vg:PT:=
 (.call ⟨[],[]⟩ [] 9 58 []
 (.call ⟨[(3,(.lst [(.mk [(pi 0),(pi 0),(pi 0),(pi 1),(pi 0),(pi 500),pT]),(.mk [(pi 1),(pi 1),(pi 1),(pi 2),(pi 0),(pi 400),pF]),(.mk [(pi 2),(pi 2),(pi 0),(pi 2),(pi 0),(pi 900),pT])]))],[(2,(.setc (.con (.agg [(.int 0),(.int 0),(.int 0),(.int 0),(.int 0),(.int 0),(.int 0),(.int 0),(.int 0),(.int 0),(.int 0),(.int 0),(.int 0),(.int 0),(.int 0),(.list []),(.list []),(.list []),(.list [])])) 0 (.tget r9 1))),(1,(.setc (.con (.agg [(.list []),(.list []),(.list []),(.list []),(.list []),(.list []),(.list []),(.list [])])) 0 (.tget r9 0)))]⟩ [] 19 17 [(mkA 8 (.setc (.con (.agg [(.list []),(.list []),(.list []),(.list []),(.list []),(.list []),(.list []),(.list [])])) 0 (.tget r9 0))),(pi 0),(mkA 19 (.setc (.con (.agg [(.int 0),(.int 0),(.int 0),(.int 0),(.int 0),(.int 0),(.int 0),(.int 0),(.int 0),(.int 0),(.int 0),(.int 0),(.int 0),(.int 0),(.int 0),(.list []),(.list []),(.list []),(.list [])])) 0 (.tget r9 1))),(pi 2),(pi 5)]
 (.call ⟨[(5,(.tget r19 1))],[(4,(.setc (.con (.agg [(.int 0),(.int 0),(.int 0),(.int 0),(.int 0),(.int 0),(.bool false)])) 0 (.tget r19 0)))]⟩ [] 25 17 [(mkA 8 o1),(pi 0),(mkA 19 o2),(pi 1),(pi 2)]
 (.call ⟨[(7,(.tget r25 1))],[]⟩ [] 30 20 [(mkA 8 o1),(pi 0),(mkA 19 o2),(pi 5)]
 (.call ⟨[],[]⟩ [] 32 19 [r30,r3]
 (.call ⟨[(33,r32)],[]⟩ [(33,true)] 36 20 [(mkA 8 o1),(pi 0),(mkA 19 o2),(pi 2)]
 (.chk (.nt (.an (.an r33 pT) (.nt (.slok r3 (pi 0) (pi 1)))))
 (.call ⟨[],[]⟩ [(33,true)] 39 19 [r36,(.slc r3 (pi 0) (pi 1))]
 (.chk (.nt (.an (.an (.pick r33 r39 pF) pT) (.nt (pix r3 (pi 2)))))
 (.call ⟨[(55,(.pick (.pick (.pick (.pick r33 r39 pF) (.an (peq (pc (mkA 7 o4) 0) (pc (pn r3 (pi 2)) 0)) (.an (peq (pc (mkA 7 o4) 1) (pc (pn r3 (pi 2)) 1)) (.an (peq (pc (mkA 7 o4) 2) (pc (pn r3 (pi 2)) 2)) (.an (peq (pc (mkA 7 o4) 3) (pc (pn r3 (pi 2)) 3)) (.an (peq (pc (mkA 7 o4) 4) (pc (pn r3 (pi 2)) 4)) (.an (peq (pc (mkA 7 o4) 5) (pc (pn r3 (pi 2)) 5)) (.an (.cb .eql (pc (mkA 7 o4) 6) (pc (pn r3 (pi 2)) 6)) pT))))))) pF) r5 pF) (.nt r7) pF))],[]⟩ [(55,true)] 56 22 [(pi 1),(pi 2)]
 (.call ⟨[(59,(.pick r55 (peq r56 (pi 2)) pF))],[]⟩ [(59,true)] 60 22 [(pi 2),(pi 0)]
 (.call ⟨[(63,(.pick r59 (peq r60 (pi 0)) pF))],[]⟩ [(63,true)] 64 22 [(pi 1),(pi 1)]
 (.ret (.pick r63 (peq r64 (pi 1)) pF))))))))))))))
def Q0 (b:Nat→PC):PT×List (Shp×PT):=(vg,[])
theorem CW:cf_l23_small.map told=some (Q0 (aA cf_l23_small)):=by kernel_rfl
theorem Jb:tree qn=vg:=ah CW
theorem Jm:cf_l23_small=some qn:=af CW
noncomputable def cf_l23_example:Option PC:=av {ctx with fr:=[],nh:=[]} Tryz.f58 ((aa aq 58).getD default) [0,1,2,12290,16386,16,3,24579,28675,32771,4,65540,69636,73732,77828]
noncomputable def lL:PC:=hpc cf_l23_example
theorem EU:cf_l23_example=some lL:=Yk (by kernel_rfl)
noncomputable def cf_l23_variable:Option PC:=av {ctx with fr:=[],nh:=[]} Tryz.f122 ((aa aq 122).getD default) [2,12290]
noncomputable def jW:PC:=hpc cf_l23_variable
def ox:PT:=
 (.ret (.mk [(pc (.setc (.con (.agg [(.int 0),(.int 0),(.list [])])) 0 (.mk [(pi 2),r0,pL])) 0),(pc (.setc (.con (.agg [(.int 0),(.int 0),(.list [])])) 0 (.mk [(pi 2),r0,pL])) 1),pL]))
def I9 (b:Nat→PC):PT×List (Shp×PT):=(ox,[])
theorem v8:cf_l23_variable.map told=some (I9 (aA cf_l23_variable)):=by kernel_rfl
theorem A7:tree jW=ox:=ah v8
theorem BZ:cf_l23_variable=some jW:=af v8
noncomputable def cf_bind_Effect:Option PC:=av {ctx with fr:=[11],nh:=[]} Tryz.f17 ((aa aq 17).getD default) [5,7,10,12]
noncomputable def ll:PC:=hpc cf_bind_Effect
def rC:PT:=
 (.call ⟨[],[(10,(.con (.agg [(.int 0),(.int 0),(.int 0),(.int 0),(.int 0),(.int 0),(.bool false)])))]⟩ [] 17 61 [(mkA 8 (.mk [r0])),r1,(mkA 19 (.mk [r2])),r4]
 (.ite (.pick (plt r3 (pi 0)) pT (pge r3 (.llen (pc (.setc (.con (.agg [(.list []),(.list []),(.list []),(.list []),(.list []),(.list []),(.list []),(.list []),(.int 0),(.int 0),(.int 0),(.int 0),(.int 0),(.int 0),(.int 0),(.int 0),(.int 0),(.int 0),(.int 0),(.int 0),(.int 0),(.int 0),(.int 0),(.int 0),(.int 0),(.list []),(.list []),(.list []),(.list []),(.int 0),(.int 0)])) 0 r17) 25))))
 (.ret (.tup [(mkA 7 (.setc o10 0 (.mk [(pi 0),(pi 0),(pi 0),(pi 0),(pi 0),(pi 0),pF]))),pF]))
 (.call ⟨[],[]⟩ [] 31 62 [(mkA 31 (.setc (.con (.agg [(.list []),(.list []),(.list []),(.list []),(.list []),(.list []),(.list []),(.list []),(.int 0),(.int 0),(.int 0),(.int 0),(.int 0),(.int 0),(.int 0),(.int 0),(.int 0),(.int 0),(.int 0),(.int 0),(.int 0),(.int 0),(.int 0),(.int 0),(.int 0),(.list []),(.list []),(.list []),(.list []),(.int 0),(.int 0)])) 0 r17)),r3]
 (.ret (.tup [(mkA 7 (.setc o10 0 r31)),pT])))))
def KK (b:Nat→PC):PT×List (Shp×PT):=(rC,[])
theorem yn:cf_bind_Effect.map told=some (KK (aA cf_bind_Effect)):=by kernel_rfl
theorem Dj:tree ll=rC:=ah yn
theorem Dx:cf_bind_Effect=some ll:=af yn
noncomputable def cf_bind_open:Option PC:=av {ctx with fr:=[],nh:=[]} Tryz.f61 ((aa aq 61).getD default) [4,6,8,9]
noncomputable def pW:PC:=hpc cf_bind_open
def vT:PT:=
 (.call ⟨[],[(8,(.con (.agg [(.list []),(.list []),(.list []),(.list []),(.list []),(.list []),(.list []),(.list []),(.int 0),(.int 0),(.int 0),(.int 0),(.int 0),(.int 0),(.int 0),(.int 0),(.int 0),(.int 0),(.int 0),(.int 0),(.int 0),(.int 0),(.int 0),(.int 0),(.int 0),(.list []),(.list []),(.list []),(.list []),(.int 0),(.int 0)]))),(4,(.mk [r0]))]⟩ [] 12 26 [(mkA 19 (.mk [r2])),r3]
 (.call ⟨[(16,(mkA 19 (.setc (.con (.agg [(.int 0),(.int 0),(.int 0),(.int 0),(.int 0),(.int 0),(.int 0),(.int 0),(.int 0),(.int 0),(.int 0),(.int 0),(.int 0),(.int 0),(.int 0),(.list []),(.list []),(.list []),(.list [])])) 0 r12))),(15,r3),(14,r1),(13,(mkA 8 o4))],[(9,(.setc (.con (.agg [(.int 0),(.int 0),(.int 0),(.int 0),(.int 0),(.int 0),(.int 0),(.int 0),(.int 0),(.int 0),(.int 0),(.int 0),(.int 0),(.int 0),(.int 0),(.list []),(.list []),(.list []),(.list [])])) 0 r12))]⟩ [] 21 38 [(mkA 8 o4),r1,(pi 0),(mkA 19 (.setc (.con (.agg [(.int 0),(.int 0),(.int 0),(.int 0),(.int 0),(.int 0),(.int 0),(.int 0),(.int 0),(.int 0),(.int 0),(.int 0),(.int 0),(.int 0),(.int 0),(.list []),(.list []),(.list []),(.list [])])) 0 r12)),r3]
 (.call ⟨[],[]⟩ [] 22 41 [r21]
 (.call ⟨[],[]⟩ [] 27 50 [(mkA 8 o4),r1,(mkA 19 o9),r3]
 (.ret (mkA 31 (.setc o8 0 (.mk [r13,r14,r15,r16,r22,r27]))))))))
def QA (b:Nat→PC):PT×List (Shp×PT):=(vT,[])
theorem En:cf_bind_open.map told=some (QA (aA cf_bind_open)):=by kernel_rfl
theorem IN:tree pW=vT:=ah En
theorem JN:cf_bind_open=some pW:=af En
noncomputable def cf_record_At:Option PC:=av {ctx with fr:=[],nh:=[]} Tryz.f26 ((aa aq 26).getD default) [2,4,5,65541,69637,73733,77829,7,31,9,49,11,13]
noncomputable def p9:PC:=hpc cf_record_At
noncomputable def cG:Nat→PC:=hbd cf_record_At
def M3 (b:Nat→PC):PC:=.block 0 [20,21] [65541,5] (.loop [20] [65541,5] (b 0))
def KX (b:Nat→PC):PC:=.block 2 [38,39] [73733,5] (.loop [38] [73733,5] (b 1))
def Ld (b:Nat→PC):PC:=.block 4 [56,57] [5,69637] (.loop [56] [5,69637] (b 2))
def Nz (b:Nat→PC):PC:=.block 6 [76,77] [5,77829] (.loop [76] [5,77829] (b 3))
def gE (b:Nat→PC):PT:=
 (.ite (plt r20 r19)
 (.chk (pix r18 r20)
 (.ite (pgt (pc (.setc z9 0 (pn r18 r20)) 6) r1)
 (.exit 0 ⟨[(21,(plt r20 r19))],[]⟩)
 (.chk (ple (.llen (.app (.o 65541) (.lst [(mkA 9 (.setc z9 0 (pn r18 r20)))]))) (pi 4294967296))
 (.next ⟨[(20,(ao r20 (pi 1)))],[(65541,(.app (.o 65541) (.lst [(mkA 9 (.setc z9 0 (pn r18 r20)))]))),(5,(.setc o5 15 pN))]⟩))))
 (.exit 0 ⟨[(21,(plt r20 r19))],[]⟩))
def gj (b:Nat→PC):PT:=
 (.ite (plt r38 r37)
 (.chk (pix r36 r38)
 (.ite (pgt (pc (.setc z9 0 (pn r36 r38)) 6) r1)
 (.exit 2 ⟨[(39,(plt r38 r37))],[]⟩)
 (.chk (ple (.llen (.app (.o 73733) (.lst [(mkA 9 (.setc z9 0 (pn r36 r38)))]))) (pi 4294967296))
 (.next ⟨[(38,(ao r38 (pi 1)))],[(73733,(.app (.o 73733) (.lst [(mkA 9 (.setc z9 0 (pn r36 r38)))]))),(5,(.setc o5 17 pN))]⟩))))
 (.exit 2 ⟨[(39,(plt r38 r37))],[]⟩))
def gI (b:Nat→PC):PT:=
 (.ite (plt r56 r55)
 (.chk (pix r54 r56)
 (.ite (ple (pc (.setc z2 0 (pn r54 r56)) 0) (.llen (.o 65541)))
 (.chk (ple (.llen (.app (.o 69637) (.lst [(.mk [(pc (.setc z2 0 (pn r54 r56)) 0),(pc (.setc z2 0 (pn r54 r56)) 1)])]))) (pi 4294967296))
 (.next ⟨[(56,(ao r56 (pi 1)))],[(5,(.setc o5 16 pN)),(69637,(.app (.o 69637) (.lst [(.mk [(pc (.setc z2 0 (pn r54 r56)) 0),(pc (.setc z2 0 (pn r54 r56)) 1)])])))]⟩))
 (.next ⟨[(56,(ao r56 (pi 1)))],[]⟩)))
 (.exit 4 ⟨[(57,(plt r56 r55))],[]⟩))
def gy (b:Nat→PC):PT:=
 (.ite (plt r76 r75)
 (.blockS ⟨[],[]⟩ 7 [13,78,79,80,81,82,83,84,85] [13,77829,5]
 (.chk (pix r74 r76)
 (.call ⟨[],[(13,(.setc z3 0 (pn r74 r76)))]⟩ [] 85 72 [(pc (.setc z3 0 (pn r74 r76)) 1),(.llen (.o 65541))]
 (.ite r85
 (.chk (ple (.llen (.app (.o 77829) (.lst [(.mk [(pc o13 0),(pc o13 1),(pc o13 2)])]))) (pi 4294967296))
 (.next ⟨[],[(77829,(.app (.o 77829) (.lst [(.mk [(pc o13 0),(pc o13 1),(pc o13 2)])]))),(5,(.setc o5 18 pN))]⟩))
 (.next ⟨[],[]⟩))))
 (.next ⟨[(76,(ao r76 (pi 1)))],[]⟩))
 (.exit 6 ⟨[(77,(plt r76 r75))],[]⟩))
def uX (b:Nat→PC):PT:=
 (.brk ⟨[(20,(pi 0)),(19,(.llen (pc (.mk [r0]) 15))),(18,(pc (.mk [r0]) 15))],[(77829,pL),(73733,pL),(69637,pL),(65541,pL),(5,(.setc (.con (.agg [(.int 0),(.int 0),(.int 0),(.int 0),(.int 0),(.int 0),(.int 0),(.int 0),(.int 0),(.int 0),(.int 0),(.int 0),(.int 0),(.int 0),(.int 0),(.list []),(.list []),(.list []),(.list [])])) 0 (.mk [(mkA 15 (.mk [r0])),pL,pL,pL,pL]))),(4,(.con (.agg [(.int 0),(.int 0),(.int 0),(.int 0),(.int 0),(.int 0),(.int 0),(.int 0),(.int 0),(.int 0),(.int 0),(.int 0),(.int 0),(.int 0),(.int 0),(.list []),(.list []),(.list []),(.list [])]))),(2,(.mk [r0]))]⟩
(M3 b)
 (.brk ⟨[(38,(pi 0)),(37,(.llen (pc o2 17))),(36,(pc o2 17))],[]⟩
(KX b)
 (.brk ⟨[(56,(pi 0)),(55,(.llen (pc o2 16))),(54,(pc o2 16))],[]⟩
(Ld b)
 (.brk ⟨[(76,(pi 0)),(75,(.llen (pc o2 18))),(74,(pc o2 18))],[]⟩
(Nz b)
 (.ret (mkA 19 (.setc o4 0 (.mk [(pc o5 0),(pc o5 1),(pc o5 2),(pc o5 3),(pc o5 4),(pc o5 5),(pc o5 6),(pc o5 7),(pc o5 8),(pc o5 9),(pc o5 10),(pc o5 11),(pc o5 12),(pc o5 13),(pc o5 14),(.o 65541),(.o 69637),(.o 73733),(.o 77829)]))))))))
def Rb (b:Nat→PC):PT×List (Shp×PT):=(uX b,[(.lp 0 [20,21] [65541,5] [20] [65541,5],gE b),(.lp 2 [38,39] [73733,5] [38] [73733,5],gj b),(.lp 4 [56,57] [5,69637] [56] [5,69637],gI b),(.lp 6 [76,77] [5,77829] [76] [5,77829],gy b)])
theorem gL:cf_record_At.map told=some (Rb (aA cf_record_At)):=by kernel_rfl
theorem J2:tree p9=uX cG:=ah gL
theorem lu:round 0 [20,21] [65541,5] [20] [65541,5] (cG 0)=gE cG:=ax gL 0 fun _=>rfl
theorem ls:round 2 [38,39] [73733,5] [38] [73733,5] (cG 1)=gj cG:=ax gL 1 fun _=>rfl
theorem lz:round 4 [56,57] [5,69637] [56] [5,69637] (cG 2)=gI cG:=ax gL 2 fun _=>rfl
theorem lj:round 6 [76,77] [5,77829] [76] [5,77829] (cG 3)=gy cG:=ax gL 3 fun _=>rfl
theorem J3:cf_record_At=some p9:=af gL
noncomputable def cf_record_within:Option PC:=av {ctx with fr:=[4],nh:=[]} Tryz.f72 ((aa aq 72).getD default) []
noncomputable def ij:PC:=hpc cf_record_within
def mK:PT:=
 (.ret (.pick (pge r0 (pi 0)) (plt r0 r1) pF))
def E7 (b:Nat→PC):PT×List (Shp×PT):=(mK,[])
theorem ua:cf_record_within.map told=some (E7 (aA cf_record_within)):=by kernel_rfl
theorem zO:tree ij=mK:=ah ua
theorem zY:cf_record_within=some ij:=af ua
noncomputable def cf_ask_Bill:Option PC:=av {ctx with fr:=[],nh:=[]} Tryz.f38 ((aa aq 38).getD default) [5,8,77832,10]
noncomputable def sE:PC:=hpc cf_ask_Bill
def xM:PT:=
 (.call ⟨[],[(10,(.con (.agg [(.bool false),(.int 0),(.int 0),(.list []),(.int 0)])))]⟩ [] 18 36 [(mkA 8 (.mk [r0])),r1,r2,(.mk [(.mk [(pc (.setc (.mk [r3]) 18 pL) 0),(pc (.setc (.mk [r3]) 18 pL) 1),(pc (.setc (.mk [r3]) 18 pL) 2),(pc (.setc (.mk [r3]) 18 pL) 3),(pc (.setc (.mk [r3]) 18 pL) 4),(pc (.setc (.mk [r3]) 18 pL) 5),(pc (.setc (.mk [r3]) 18 pL) 6),(pc (.setc (.mk [r3]) 18 pL) 7),(pc (.setc (.mk [r3]) 18 pL) 8),(pc (.setc (.mk [r3]) 18 pL) 9),(pc (.setc (.mk [r3]) 18 pL) 10),(pc (.setc (.mk [r3]) 18 pL) 11),(pc (.setc (.mk [r3]) 18 pL) 12),(pc (.setc (.mk [r3]) 18 pL) 13),(pc (.setc (.mk [r3]) 18 pL) 14),(pc (.setc (.mk [r3]) 18 pL) 15),(pc (.setc (.mk [r3]) 18 pL) 16),(pc (.setc (.mk [r3]) 18 pL) 17),pL]),(pi 0),(pi (-1)),(pi (-1)),(pi (-1)),r4])]
 (.ret (mkA 5 (.setc o10 0 r18))))
def Sy (b:Nat→PC):PT×List (Shp×PT):=(xM,[])
theorem HN:cf_ask_Bill.map told=some (Sy (aA cf_ask_Bill)):=by kernel_rfl
theorem Lq:tree sE=xM:=ah HN
theorem Mr:cf_ask_Bill=some sE:=af HN
noncomputable def cf_ask_Ask:Option PC:=av {ctx with fr:=[10],nh:=[]} Tryz.f36 ((aa aq 36).getD default) [4,7,8,9]
noncomputable def vd:PC:=hpc cf_ask_Ask
def Ca:PT:=
 (.call ⟨[],[(8,(.con (.agg [(.bool false),(.int 0),(.int 0),(.list []),(.int 0)]))),(4,(.mk [r0]))]⟩ [] 16 95 [(mkA 8 (.mk [r0])),r1,r2,(mkA 24 (.mk [r3]))]
 (.iteS ⟨[(10,(.tget r16 1))],[(9,(.setc (.con (.agg [(.bool false),(.int 0),(.int 0),(.list []),(.int 0)])) 0 (.tget r16 0)))]⟩ (pne (pc (.setc (.con (.agg [(.bool false),(.int 0),(.int 0),(.list []),(.int 0)])) 0 (.tget r16 0)) 2) (pi (-1))) [] [9]
 (.chk (pix (pc o4 4) (pc o9 2))
 (.call ⟨[],[]⟩ [] 31 55 [(pn (pc o4 4) (pc o9 2)),r2,r10]
 (.next ⟨[],[(9,(.setc (.setc o9 0 (.tget r31 0)) 4 (.tget r31 1)))]⟩)))
 (.next ⟨[],[]⟩)
 (.ret (mkA 5 (.setc o8 0 (mkA 5 o9))))))
def Va (b:Nat→PC):PT×List (Shp×PT):=(Ca,[])
theorem MW:cf_ask_Ask.map told=some (Va (aA cf_ask_Ask)):=by kernel_rfl
theorem OW:tree vd=Ca:=ah MW
theorem Ol:cf_ask_Ask=some vd:=af MW
noncomputable def cf_ask_find:Option PC:=av {ctx with fr:=[9,11,12,13,14],nh:=[]} Tryz.f95 ((aa aq 95).getD default) [4,7,8,10,16394]
noncomputable def sR:PC:=hpc cf_ask_find
def xD:PT:=
 (.call ⟨[],[(16394,pL),(10,(.setc (.con (.agg [(.bool false),(.int 0),(.int 0),(.list []),(.int 0)])) 0 (.mk [(.con (.agg [(.bool false),(.int 0)])),(pi (-1)),pL,(pi 1)]))),(8,(.con (.agg [(.bool false),(.int 0),(.int 0),(.list []),(.int 0)]))),(7,(.mk [r3])),(4,(.mk [r0]))]⟩ [] 19 100 [(mkA 8 (.mk [r0])),(mkA 24 (.mk [r3]))]
 (.ite (peq (.llen (.tget r19 1)) (pi 0))
 (.ret (.tup [(mkA 5 (.setc o8 0 (.mk [(pc o10 0),(pc o10 1),(pc o10 2),(.o 16394),(pc o10 4)]))),pL]))
 (.call ⟨[(11,(.tget r19 1))],[(7,(.setc o7 0 (.tget r19 0)))]⟩ [] 28 119 [r2]
 (.ite (.nt (.tget r28 1))
 (.ret (.tup [(mkA 5 (.setc o8 0 (.mk [(pc o10 0),(pc o10 1),(pc o10 2),(.o 16394),(pc o10 4)]))),pL]))
 (.call ⟨[],[]⟩ [] 37 101 [(mkA 8 o4),r1,(mkA 24 o7)]
 (.ite (peq (.llen r37) (pi 0))
 (.ret (.tup [(mkA 5 (.setc o8 0 (.mk [(pc o10 0),(pc o10 1),(pc o10 2),(.o 16394),(pc o10 4)]))),pL]))
 (.call ⟨[],[]⟩ [] 46 54 [(mkA 8 o4),r1,r2,r37]
 (.ite (peq (pc (.setc (.setc o10 3 (.tget r46 0)) 4 (.tget r46 1)) 4) (pi 0))
 (.chk (pix (pc (.setc (.setc o10 3 (.tget r46 0)) 4 (.tget r46 1)) 3) (aB (.llen (pc (.setc (.setc o10 3 (.tget r46 0)) 4 (.tget r46 1)) 3)) (pi 1)))
 (.ret (.tup [(mkA 5 (.setc o8 0 (mkA 5 (.setc (.setc (.setc o10 3 (.tget r46 0)) 4 (.tget r46 1)) 2 (pn (pc (.setc (.setc o10 3 (.tget r46 0)) 4 (.tget r46 1)) 3) (aB (.llen (pc (.setc (.setc o10 3 (.tget r46 0)) 4 (.tget r46 1)) 3)) (pi 1))))))),r11])))
 (.ret (.tup [(mkA 5 (.setc o8 0 (mkA 5 (.setc (.setc o10 3 (.tget r46 0)) 4 (.tget r46 1))))),r11]))))))))))
def Sg (b:Nat→PC):PT×List (Shp×PT):=(xD,[])
theorem H7:cf_ask_find.map told=some (Sg (aA cf_ask_find)):=by kernel_rfl
theorem KV:tree sR=xD:=ah H7
theorem Ks:cf_ask_find=some sR:=af H7
noncomputable def cf_ask_of:Option PC:=av {ctx with fr:=[5],nh:=[]} Tryz.f100 ((aa aq 100).getD default) [2,3,4]
noncomputable def ze:PC:=hpc cf_ask_of
def GR:PT:=
 (.call ⟨[],[(4,(.con (.agg [(.int 0),(.int 0),(.int 0),(.int 0),(.int 0),(.int 0),(.int 0),(.int 0),(.int 0),(.int 0),(.int 0),(.int 0),(.int 0),(.int 0),(.int 0),(.list []),(.list []),(.list []),(.list []),(.int 0),(.int 0),(.int 0),(.int 0),(.int 0)]))),(3,(.mk [r1])),(2,(.mk [r0]))]⟩ [] 10 26 [(mkA 19 (.mk [r1])),(pc (.mk [r1]) 23)]
 (.call ⟨[(12,(mkA 24 (.setc o3 0 r10)))],[]⟩ [] 15 52 [(mkA 8 o2),(mkA 24 (.setc o3 0 r10))]
 (.ret (.tup [(mkA 24 (.setc o4 0 r12)),r15]))))
def WH (b:Nat→PC):PT×List (Shp×PT):=(GR,[])
theorem PR:cf_ask_of.map told=some (WH (aA cf_ask_of)):=by kernel_rfl
theorem Qq:tree ze=GR:=ah PR
theorem RQ:cf_ask_of=some ze:=af PR
noncomputable def cf_record_Vars:Option PC:=av {ctx with fr:=[4,7,9,11,12,13,14,15,16],nh:=[]} Tryz.f52 ((aa aq 52).getD default) [2,3,5,6,8,10,90,139]
noncomputable def lP:PC:=hpc cf_record_Vars
noncomputable def gC:Nat→PC:=hbd cf_record_Vars
def GI (b:Nat→PC):PC:=.meach 90 [94,95,11,12] [0,1,0,1] [10] (b 0)
def Gn (b:Nat→PC):PC:=.meach 139 [143,144,15,16] [0,1,0,1] [10] (b 1)
def mQ (b:Nat→PC):PT:=
 (.chk (pix o10 r11)
 (.next ⟨[],[(10,(.setn o10 r11 0 (.mk [pT,r12])))]⟩))
def mJ (b:Nat→PC):PT:=
 (.blockS ⟨[],[]⟩ 3 [145,146,147,148,149] [10]
 (.call ⟨[(146,r15)],[]⟩ [] 148 111 [r16]
 (.chk (pix o10 (.r 146))
 (.next ⟨[],[(10,(.setn o10 (.r 146) 0 (.r 148)))]⟩)))
 (.next ⟨[],[]⟩))
def bX (b:Nat→PC):PT:=
 (.call ⟨[(7,(.mx (pc (.mk [r1]) 20) (pi 0)))],[(6,(.setc z15 0 (mkA 15 (.mk [r1])))),(5,(.setc (.con (.agg [(.int 0),(.int 0),(.int 0),(.int 0),(.int 0),(.int 0),(.int 0),(.int 0),(.int 0),(.int 0),(.int 0),(.int 0),(.int 0),(.int 0),(.int 0),(.list []),(.list []),(.list []),(.list [])])) 0 (mkA 19 (.mk [r1])))),(3,(.mk [r1])),(2,(.mk [r0]))]⟩ [] 30 72 [(pc (.mk [r1]) 19),(.llen (pc (.setc (.con (.agg [(.int 0),(.int 0),(.int 0),(.int 0),(.int 0),(.int 0),(.int 0),(.int 0),(.int 0),(.int 0),(.int 0),(.int 0),(.int 0),(.int 0),(.int 0),(.list []),(.list []),(.list []),(.list [])])) 0 (mkA 19 (.mk [r1]))) 15))]
 (.call ⟨[(48,(pne (pc o3 22) (pi (-1)))),(44,(.pick (.pick (.nt r30) pT (plt (pc o3 20) (pi (-1)))) pT (pge r7 (.llen (pc o5 15)))))],[]⟩ [(48,true),(44,false)] 51 72 [(pc o3 22),(pi 100001)]
 (.ite (.pick r44 pT (.pick r48 (.nt r51) pF))
 (.ret pL)
 (.chk (pix (pc o5 15) (pc o3 19))
 (.call ⟨[],[(8,(.setc z9 0 (pn (pc o5 15) (pc o3 19))))]⟩ [] 63 72 [(pc (.setc z9 0 (pn (pc o5 15) (pc o3 19))) 6),(pi 100001)]
 (.ite (.nt r63)
 (.ret pL)
 (.chk (.an (pge (pi 20) (pi 0)) (ple (pi 20) (pi 4294967296)))
 (.chk (peq (pi 20) (pi 20))
 (.chk (plt (.mlen (.con (.map []))) (pi 4294967296))
 (.chk (plt (.mlen (.put (.con (.map [])) (pi 0) (pc o6 3))) (pi 4294967296))
 (.chk (plt (.mlen (.put (.put (.con (.map [])) (pi 0) (pc o6 3)) (pi 1) (pc o6 14))) (pi 4294967296))
 (.chk (plt (.mlen (.put (.put (.put (.con (.map [])) (pi 0) (pc o6 3)) (pi 1) (pc o6 14)) (pi 2) (pc o6 5))) (pi 4294967296))
 (.chk (plt (.mlen (.put (.put (.put (.put (.con (.map [])) (pi 0) (pc o6 3)) (pi 1) (pc o6 14)) (pi 2) (pc o6 5)) (pi 3) (pc o6 12))) (pi 4294967296))
 (.chk (plt (.mlen (.put (.put (.put (.put (.put (.con (.map [])) (pi 0) (pc o6 3)) (pi 1) (pc o6 14)) (pi 2) (pc o6 5)) (pi 3) (pc o6 12)) (pi 4) (pc o8 0))) (pi 4294967296))
 (.chk (plt (.mlen (.put (.put (.put (.put (.put (.put (.con (.map [])) (pi 0) (pc o6 3)) (pi 1) (pc o6 14)) (pi 2) (pc o6 5)) (pi 3) (pc o6 12)) (pi 4) (pc o8 0)) (pi 5) (pc o3 21))) (pi 4294967296))
 (.blockS ⟨[(10,pN),(9,(.pick (pne (pc o3 22) (pi (-1))) (aB (pc o8 6) (pc o3 22)) (pi 0)))],[(90,(.tup [(.lst []),(.put (.put (.put (.put (.put (.put (.put (.con (.map [])) (pi 0) (pc o6 3)) (pi 1) (pc o6 14)) (pi 2) (pc o6 5)) (pi 3) (pc o6 12)) (pi 4) (pc o8 0)) (pi 5) (pc o3 21)) (pi 6) (.pick (pne (pc o3 22) (pi (-1))) (aB (pc o8 6) (pc o3 22)) (pi 0)))])),(10,(.rep (pi 20) (.con (.agg [(.bool false),(.int 0)]))))]⟩ 0 [] [10]
 (.brk ⟨[],[]⟩
(GI b)
 (.exit 0 ⟨[],[]⟩))
 (.call ⟨[],[(3,(mkA 24 o3))]⟩ [] 104 109 [(pc o5 16),(.clo 110 [(.ref (mkA 24 o3))])]
 (.call ⟨[(13,afK)],[]⟩ [] 108 53 [(mkA 8 o2),(pc o6 9)]
 (.call ⟨[],[]⟩ [] 112 53 [(mkA 8 o2),(pc o6 10)]
 (.chk (plt (.mlen (.con (.map []))) (pi 4294967296))
 (.chk (plt (.mlen (.put (.con (.map [])) (pi 7) (pne (.ai .and .i64 (pc o6 13) (pi 1)) (pi 0)))) (pi 4294967296))
 (.chk (plt (.mlen (.put (.put (.con (.map [])) (pi 7) (pne (.ai .and .i64 (pc o6 13) (pi 1)) (pi 0))) (pi 8) (peq (pc o6 2) (pi (-1))))) (pi 4294967296))
 (.chk (plt (.mlen (.put (.put (.put (.con (.map [])) (pi 7) (pne (.ai .and .i64 (pc o6 13) (pi 1)) (pi 0))) (pi 8) (peq (pc o6 2) (pi (-1)))) (pi 9) (pne (.ai .and .i64 (pc o6 13) (pi 4)) (pi 0)))) (pi 4294967296))
 (.chk (plt (.mlen (.put (.put (.put (.put (.con (.map [])) (pi 7) (pne (.ai .and .i64 (pc o6 13) (pi 1)) (pi 0))) (pi 8) (peq (pc o6 2) (pi (-1)))) (pi 9) (pne (.ai .and .i64 (pc o6 13) (pi 4)) (pi 0))) (pi 10) (pne (.ai .and .i64 (pc o6 13) (pi 2)) (pi 0)))) (pi 4294967296))
 (.chk (plt (.mlen (.put (.put (.put (.put (.put (.con (.map [])) (pi 7) (pne (.ai .and .i64 (pc o6 13) (pi 1)) (pi 0))) (pi 8) (peq (pc o6 2) (pi (-1)))) (pi 9) (pne (.ai .and .i64 (pc o6 13) (pi 4)) (pi 0))) (pi 10) (pne (.ai .and .i64 (pc o6 13) (pi 2)) (pi 0))) (pi 11) (pne ZX aab))) (pi 4294967296))
 (.chk (plt (.mlen (.put (.put (.put (.put (.put (.put (.con (.map [])) (pi 7) (pne (.ai .and .i64 (pc o6 13) (pi 1)) (pi 0))) (pi 8) (peq (pc o6 2) (pi (-1)))) (pi 9) (pne (.ai .and .i64 (pc o6 13) (pi 4)) (pi 0))) (pi 10) (pne (.ai .and .i64 (pc o6 13) (pi 2)) (pi 0))) (pi 11) (pne ZX aab)) (pi 12) r13)) (pi 4294967296))
 (.chk (plt (.mlen (.put (.put (.put (.put (.put (.put (.put (.con (.map [])) (pi 7) (pne (.ai .and .i64 (pc o6 13) (pi 1)) (pi 0))) (pi 8) (peq (pc o6 2) (pi (-1)))) (pi 9) (pne (.ai .and .i64 (pc o6 13) (pi 4)) (pi 0))) (pi 10) (pne (.ai .and .i64 (pc o6 13) (pi 2)) (pi 0))) (pi 11) (pne ZX aab)) (pi 12) r13) (pi 13) (pne (.ai .and .i64 (pc o8 8) (pi 1)) (pi 0)))) (pi 4294967296))
 (.blockS ⟨[],[(139,(.tup [(.lst []),(.put (.put (.put (.put (.put (.put (.put (.put (.con (.map [])) (pi 7) (pne (.ai .and .i64 (pc o6 13) (pi 1)) (pi 0))) (pi 8) (peq (pc o6 2) (pi (-1)))) (pi 9) (pne (.ai .and .i64 (pc o6 13) (pi 4)) (pi 0))) (pi 10) (pne (.ai .and .i64 (pc o6 13) (pi 2)) (pi 0))) (pi 11) (pne ZX aab)) (pi 12) r13) (pi 13) (pne (.ai .and .i64 (pc o8 8) (pi 1)) (pi 0))) (pi 14) (pgt r9 (pi 0)))]))]⟩ 2 [] [10]
 (.brk ⟨[],[]⟩
(Gn b)
 (.exit 2 ⟨[],[]⟩))
 (.call ⟨[],[]⟩ [] 154 112 [(mkA 19 o5),(pi 0),(pc o3 19)]
 (.chk (pix o10 (pi 15))
 (.call ⟨[],[(10,(.setn o10 (pi 15) 0 (.r 154)))]⟩ [] 160 112 [(mkA 19 o5),(pi 1),(pc o3 19)]
 (.chk (pix o10 (pi 16))
 (.call ⟨[],[(10,(.setn o10 (pi 16) 0 (.r 160)))]⟩ [] 166 112 [(mkA 19 o5),(pi 2),(pc o3 19)]
 (.chk (pix o10 (pi 17))
 (.call ⟨[],[(10,(.setn o10 (pi 17) 0 (.r 166)))]⟩ [] 171 112 [(mkA 19 o5),(pi 3),r7]
 (.chk (pix o10 (pi 18))
 (.call ⟨[],[(10,(.setn o10 (pi 18) 0 (.r 171)))]⟩ [] 176 112 [(mkA 19 o5),(pi 4),r7]
 (.chk (pix o10 (pi 19))
 (.ret (.setn o10 (pi 19) 0 (.r 176)))))))))))))))))))))))))))))))))))))))))
def MA (b:Nat→PC):PT×List (Shp×PT):=(bX b,[(.ea [10],mQ b),(.ea [10],mJ b)])
theorem kW:cf_record_Vars.map told=some (MA (aA cf_record_Vars)):=by kernel_rfl
theorem Ej:tree lP=bX gC:=ah kW
theorem zV:ri [10] (gC 0)=mQ gC:=Rq kW 0 fun _=>rfl
theorem Al:ri [10] (gC 1)=mJ gC:=Rq kW 1 fun _=>rfl
theorem Ei:cf_record_Vars=some lP:=af kW
noncomputable def cf_record_Vars_1:Option PC:=av {ctx with fr:=[3],nh:=[]} Tryz.f110 ((aa aq 110).getD default) [2]
noncomputable def gY:PC:=hpc cf_record_Vars_1
def mR:PT:=
 (.ret (ple (pc (.mk [r0]) 0) (pc (.deref r1) 19)))
def FM (b:Nat→PC):PT×List (Shp×PT):=(mR,[])
theorem ue:cf_record_Vars_1.map told=some (FM (aA cf_record_Vars_1)):=by kernel_rfl
theorem Ai:tree gY=mR:=ah ue
theorem z8:cf_record_Vars_1=some gY:=af ue
noncomputable def cf_slices_ContainsFunc_Alter:Option PC:=av {ctx with fr:=[4],nh:=[]} Tryz.f109 ((aa aq 109).getD default) []
noncomputable def bn:PC:=hpc cf_slices_ContainsFunc_Alter
def cu:PT:=
 (.call ⟨[],[]⟩ [] 7 183 [r0,r1]
 (.ret (pge r7 (pi 0))))
def oe (b:Nat→PC):PT×List (Shp×PT):=(cu,[])
theorem fi:cf_slices_ContainsFunc_Alter.map told=some (oe (aA cf_slices_ContainsFunc_Alter)):=by kernel_rfl
theorem l8:tree bn=cu:=ah fi
theorem l7:cf_slices_ContainsFunc_Alter=some bn:=af fi
noncomputable def cf_slices_IndexFunc_Alter:Option PC:=av {ctx with fr:=[4,5],nh:=[]} Tryz.f183 ((aa aq 183).getD default) []
noncomputable def bI:PC:=hpc cf_slices_IndexFunc_Alter
noncomputable def dq:Nat→PC:=hbd cf_slices_IndexFunc_Alter
def qa (b:Nat→PC):PC:=.block 0 [4,8,9] [] (.loop [4,8] [] (b 0))
def aS (b:Nat→PC):PT:=
 (.ite (plt r8 r7)
 (.blockS ⟨[],[]⟩ 1 [4,5,10,11,12,13,14,15,16] []
 (.chk (pix r0 r8)
 (.callc ⟨[(5,r8)],[]⟩ [] 16 r1 [(pn r0 r8)]
 (.ite r16
 (.ret r5)
 (.next ⟨[],[]⟩))))
 (.next ⟨[(8,(ao r8 (pi 1)))],[]⟩))
 (.exit 0 ⟨[(9,(plt r8 r7))],[]⟩))
def du (b:Nat→PC):PT:=
 (.brk ⟨[(8,(pi 0)),(7,(.llen r0)),(4,(pi 0))],[]⟩
(qa b)
 (.ret (pi (-1))))
def rP (b:Nat→PC):PT×List (Shp×PT):=(du b,[(.lp 0 [4,8,9] [] [4,8] [],aS b)])
theorem dt:cf_slices_IndexFunc_Alter.map told=some (rP (aA cf_slices_IndexFunc_Alter)):=by kernel_rfl
theorem oo:tree bI=du dq:=ah dt
theorem bO:round 0 [4,8,9] [] [4,8] [] (dq 0)=aS dq:=ax dt 0 fun _=>rfl
theorem pg:cf_slices_IndexFunc_Alter=some bI:=af dt
noncomputable def cf_realm_OrderAt:Option PC:=av {ctx with fr:=[4],nh:=[]} Tryz.f53 ((aa aq 53).getD default) [2]
noncomputable def gT:PC:=hpc cf_realm_OrderAt
def mG:PT:=
 (.call ⟨[],[(2,(.mk [r0]))]⟩ [] 9 113 [r1,(.llen (pc (.mk [r0]) 1))]
 (.ite (.nt r9)
 (.ret (pi (-1)))
 (.chk (pix (pc o2 1) r1)
 (.ret (pc (pn (pc o2 1) r1) 1)))))
def Fl (b:Nat→PC):PT×List (Shp×PT):=(mG,[])
theorem ud:cf_realm_OrderAt.map told=some (Fl (aA cf_realm_OrderAt)):=by kernel_rfl
theorem zE:tree gT=mG:=ah ud
theorem zX:cf_realm_OrderAt=some gT:=af ud
noncomputable def cf_realm_in:Option PC:=av {ctx with fr:=[4],nh:=[]} Tryz.f113 ((aa aq 113).getD default) []
noncomputable def rZ:PC:=hpc cf_realm_in
def xL:PT:=
 (.ret (.pick (pge r0 (pi 0)) (plt r0 r1) pF))
def TN (b:Nat→PC):PT×List (Shp×PT):=(xL,[])
theorem H0:cf_realm_in.map told=some (TN (aA cf_realm_in)):=by kernel_rfl
theorem KM:tree rZ=xL:=ah H0
theorem L1:cf_realm_in=some rZ:=af H0
noncomputable def cf_record_truth:Option PC:=av {ctx with fr:=[],nh:=[]} Tryz.f111 ((aa aq 111).getD default) [2]
noncomputable def jM:PC:=hpc cf_record_truth
def oR:PT:=
 (.ite r0
 (.ret (.mk [(pc (.setc (.con (.agg [(.bool false),(.int 0)])) 0 (.mk [pT,(pi 1)])) 0),(pc (.setc (.con (.agg [(.bool false),(.int 0)])) 0 (.mk [pT,(pi 1)])) 1)]))
 (.ret (.mk [(pc (.setc (.con (.agg [(.bool false),(.int 0)])) 0 (.mk [pT,(pi 0)])) 0),(pc (.setc (.con (.agg [(.bool false),(.int 0)])) 0 (.mk [pT,(pi 0)])) 1)])))
def Jq (b:Nat→PC):PT×List (Shp×PT):=(oR,[])
theorem wv:cf_record_truth.map told=some (Jq (aA cf_record_truth)):=by kernel_rfl
theorem Bz:tree jM=oR:=ah wv
theorem Be:cf_record_truth=some jM:=af wv
noncomputable def cf_record_Fact:Option PC:=av {ctx with fr:=[],nh:=[]} Tryz.f112 ((aa aq 112).getD default) [3,6,8]
noncomputable def la:PC:=hpc cf_record_Fact
noncomputable def qN:Nat→PC:=hbd cf_record_Fact
def Gm (b:Nat→PC):PC:=.block 0 [12,13] [6] (.loop [12] [6] (b 0))
def eA (b:Nat→PC):PT:=
 (.ite (plt r12 r11)
 (.blockS ⟨[],[]⟩ 1 [8,14,15,16,17,18,19,20,25] [8,6]
 (.chk (pix r10 r12)
 (.iteS ⟨[],[(8,(.setc z3 0 (pn r10 r12)))]⟩ (.pick (peq (pc (.setc z3 0 (pn r10 r12)) 0) r1) (peq (pc (.setc z3 0 (pn r10 r12)) 1) r2) pF) [] [6]
 (.call ⟨[],[]⟩ [] 29 111 [(pne (pc o8 2) (pi 0))]
 (.ret (.mk [(pc (.setc o6 0 r29) 0),(pc (.setc o6 0 r29) 1)])))
 (.next ⟨[],[]⟩)
 (.next ⟨[],[]⟩)))
 (.next ⟨[(12,(ao r12 (pi 1)))],[]⟩))
 (.exit 0 ⟨[(13,(plt r12 r11))],[]⟩))
def re (b:Nat→PC):PT:=
 (.brk ⟨[(12,(pi 0)),(11,(.llen (pc (.mk [r0]) 18))),(10,(pc (.mk [r0]) 18))],[(6,(.con (.agg [(.bool false),(.int 0)])))]⟩
(Gm b)
 (.ret (.mk [(pc (.setc o6 0 (.mk [pF,(pi 0)])) 0),(pc (.setc o6 0 (.mk [pF,(pi 0)])) 1)])))
def KD (b:Nat→PC):PT×List (Shp×PT):=(re b,[(.lp 0 [12,13] [6] [12] [6],eA b)])
theorem qI:cf_record_Fact.map told=some (KD (aA cf_record_Fact)):=by kernel_rfl
theorem CM:tree la=re qN:=ah qI
theorem iQ:round 0 [12,13] [6] [12] [6] (qN 0)=eA qN:=ax qI 0 fun _=>rfl
theorem Dy:cf_record_Fact=some la:=af qI
noncomputable def cf_order_Type:Option PC:=av {ctx with fr:=[2,3,4,11],nh:=[]} Tryz.f119 ((aa aq 119).getD default) []
noncomputable def m8:PC:=hpc cf_order_Type
def sV:PT:=
 (.blockS ⟨[],[]⟩ 0 [2,3,4,5,6,7,10,11,12,13,14] []
 (.iteS ⟨[],[]⟩ (.pick (plt r0 (pi 0)) pT (pge r0 (pi 22))) [2,3,11,12,13,14] []
 (.ret (.tup [(pi 0),pF]))
 (.call ⟨[],[]⟩ [] 14 116 [(.lst [(pc (.deref (.con (.ref (.agg [(.int 6),(.int 7),(.int 10),(.int 12),(.int 13),(.int 14),(.int 15),(.int 16),(.int 20),(.int 21)])))) 0),(pc (.deref (.con (.ref (.agg [(.int 6),(.int 7),(.int 10),(.int 12),(.int 13),(.int 14),(.int 15),(.int 16),(.int 20),(.int 21)])))) 1),(pc (.deref (.con (.ref (.agg [(.int 6),(.int 7),(.int 10),(.int 12),(.int 13),(.int 14),(.int 15),(.int 16),(.int 20),(.int 21)])))) 2),(pc (.deref (.con (.ref (.agg [(.int 6),(.int 7),(.int 10),(.int 12),(.int 13),(.int 14),(.int 15),(.int 16),(.int 20),(.int 21)])))) 3),(pc (.deref (.con (.ref (.agg [(.int 6),(.int 7),(.int 10),(.int 12),(.int 13),(.int 14),(.int 15),(.int 16),(.int 20),(.int 21)])))) 4),(pc (.deref (.con (.ref (.agg [(.int 6),(.int 7),(.int 10),(.int 12),(.int 13),(.int 14),(.int 15),(.int 16),(.int 20),(.int 21)])))) 5),(pc (.deref (.con (.ref (.agg [(.int 6),(.int 7),(.int 10),(.int 12),(.int 13),(.int 14),(.int 15),(.int 16),(.int 20),(.int 21)])))) 6),(pc (.deref (.con (.ref (.agg [(.int 6),(.int 7),(.int 10),(.int 12),(.int 13),(.int 14),(.int 15),(.int 16),(.int 20),(.int 21)])))) 7),(pc (.deref (.con (.ref (.agg [(.int 6),(.int 7),(.int 10),(.int 12),(.int 13),(.int 14),(.int 15),(.int 16),(.int 20),(.int 21)])))) 8),(pc (.deref (.con (.ref (.agg [(.int 6),(.int 7),(.int 10),(.int 12),(.int 13),(.int 14),(.int 15),(.int 16),(.int 20),(.int 21)])))) 9)]),r0]
 (.ite r14
 (.ret (.tup [(pi 0),pT]))
 (.next ⟨[],[]⟩)))
 (.next ⟨[],[]⟩))
 (.ret (.tup [(pi 1),pT])))
def Ot (b:Nat→PC):PT×List (Shp×PT):=(sV,[])
theorem AB:cf_order_Type.map told=some (Ot (aA cf_order_Type)):=by kernel_rfl
theorem GN:tree m8=sV:=ah AB
theorem Fb:cf_order_Type=some m8:=af AB
noncomputable def cf_slices_Contains_int:Option PC:=av {ctx with fr:=[4],nh:=[]} Tryz.f116 ((aa aq 116).getD default) []
noncomputable def cO:PC:=hpc cf_slices_Contains_int
def eN:PT:=
 (.call ⟨[],[]⟩ [] 7 186 [r0,r1]
 (.ret (pge r7 (pi 0))))
def vV (b:Nat→PC):PT×List (Shp×PT):=(eN,[])
theorem kP:cf_slices_Contains_int.map told=some (vV (aA cf_slices_Contains_int)):=by kernel_rfl
theorem rM:tree cO=eN:=ah kP
theorem rR:cf_slices_Contains_int=some cO:=af kP
noncomputable def cf_slices_Index_int:Option PC:=av {ctx with fr:=[4,5],nh:=[]} Tryz.f186 ((aa aq 186).getD default) []
noncomputable def dX:PC:=hpc cf_slices_Index_int
noncomputable def iT:Nat→PC:=hbd cf_slices_Index_int
def w9 (b:Nat→PC):PC:=.block 0 [4,8,9] [] (.loop [4,8] [] (b 0))
def bL (b:Nat→PC):PT:=
 (.ite (plt r8 r7)
 (.chk (pix r0 r8)
 (.ite (peq r1 (pn r0 r8))
 (.ret r8)
 (.next ⟨[(8,(ao r8 (pi 1)))],[]⟩)))
 (.exit 0 ⟨[(9,(plt r8 r7))],[]⟩))
def iS (b:Nat→PC):PT:=
 (.brk ⟨[(8,(pi 0)),(7,(.llen r0)),(4,(pi 0))],[]⟩
(w9 b)
 (.ret (pi (-1))))
def zD (b:Nat→PC):PT×List (Shp×PT):=(iS b,[(.lp 0 [4,8,9] [] [4,8] [],bL b)])
theorem iL:cf_slices_Index_int.map told=some (zD (aA cf_slices_Index_int)):=by kernel_rfl
theorem vN:tree dX=iS iT:=ah iL
theorem dQ:round 0 [4,8,9] [] [4,8] [] (iT 0)=bL iT:=ax iL 0 fun _=>rfl
theorem vC:cf_slices_Index_int=some dX:=af iL
noncomputable def cf_conflict_Law:Option PC:=av {ctx with fr:=[8,9,11,12,13,14,55,70],nh:=[]} Tryz.f54 ((aa aq 54).getD default) [4,10,53]
noncomputable def jQ:PC:=hpc cf_conflict_Law
noncomputable def oO:Nat→PC:=hbd cf_conflict_Law
def Eu (b:Nat→PC):PC:=.block 0 [] [] (.loop [8,9,10] [10] (b 0))
def lY (b:Nat→PC):PT:=
 (.blockS ⟨[],[]⟩ 1 [8,9,10,11,12,13,14,32,33,35,36,37,38,39,40,41,42,43,44,45,46,49,50,52,53,54,55,56,57,58,68,70,71] [53,10]
 (.chk (pix o10 (aB (.llen o10) (pi 1)))
 (.call ⟨[(11,(pn o10 (aB (.llen o10) (pi 1))))],[]⟩ [] 41 115 [(mkA 8 o4),(pn o10 (aB (.llen o10) (pi 1))),r2,r3]
 (.ite (peq (.tget r41 0) r11)
 (.ret (.tup [o10,(pi 0)]))
 (.call ⟨[(13,(.tget r41 1)),(12,(.tget r41 0))],[]⟩ [] 50 116 [o10,(.tget r41 0)]
 (.chk (ple (.llen (.app o10 (.lst [r12]))) (pi 4294967296))
 (.chk (.nt (.an (.an r50 (.an (.nt (.nt r13)) pT)) (.nt (pix (pc o4 4) r12))))
 (.ite (.pick (.nt r13) pT (.pick r50 (pc (pn (pc o4 4) r12) 1) pF))
 (.ret (.tup [(.app o10 (.lst [r12])),(pi 0)]))
 (.ite r50
 (.ret (.tup [(.app o10 (.lst [r12])),(pi 12)]))
 (.next ⟨[(10,pN)],[(10,(.app o10 (.lst [r12])))]⟩)))))))))
 (.next ⟨[],[]⟩))
def og (b:Nat→PC):PT:=
 (.call ⟨[(9,(pi 0)),(8,pL)],[(4,(.mk [r0]))]⟩ [] 19 114 [(mkA 8 (.mk [r0])),r1,r2,r3]
 (.chk (.nt (.an (.an (.nt (.nt r19)) pT) (.nt (pix r3 (pi 0)))))
 (.ite (.pick (.nt r19) pT (pne (pn r3 (pi 0)) r1))
 (.ret (.tup [pL,(pi 1)]))
 (.brk ⟨[(10,pN)],[(10,(.lst [r1]))]⟩
(Eu b)
 (.next ⟨[],[]⟩)))))
def Ip (b:Nat→PC):PT×List (Shp×PT):=(og b,[(.lp 0 [] [] [8,9,10] [10],lY b)])
theorem pq:cf_conflict_Law.map told=some (Ip (aA cf_conflict_Law)):=by kernel_rfl
theorem Cj:tree jQ=og oO:=ah pq
theorem yr:round 0 [] [] [8,9,10] [10] (oO 0)=lY oO:=ax pq 0 fun _=>rfl
theorem Bi:cf_conflict_Law=some jQ:=af pq
noncomputable def cf_conflict_fine:Option PC:=av {ctx with fr:=[8],nh:=[]} Tryz.f114 ((aa aq 114).getD default) [4,9]
noncomputable def gV:PC:=hpc cf_conflict_fine
def bq:PT:=
 (.ite (.pick (.pick (.pick (.pick (plt r1 (pi 0)) pT (pge r1 (pc (.setc (.con (.agg [(.int 0)])) 0 (.llen (pc (.mk [r0]) 4))) 0))) pT (plt r2 (pi 0))) pT (pge r2 (pi 22))) pT (pne (.llen r3) (pi 5)))
 (.ret pF)
 (.call ⟨[],[]⟩ [] 35 184 [r3,(.clo 185 [(.ref (pc (.setc (.con (.agg [(.int 0)])) 0 (.llen (pc (.mk [r0]) 4))) 0))])]
 (.ret (.nt r35))))
def G5 (b:Nat→PC):PT×List (Shp×PT):=(bq,[])
theorem tZ:cf_conflict_fine.map told=some (G5 (aA cf_conflict_fine)):=by kernel_rfl
theorem Am:tree gV=bq:=ah tZ
theorem zM:cf_conflict_fine=some gV:=af tZ
noncomputable def cf_conflict_fine_1:Option PC:=av {ctx with fr:=[3],nh:=[]} Tryz.f185 ((aa aq 185).getD default) []
noncomputable def fa:PC:=hpc cf_conflict_fine_1
def ke:PT:=
 (.ret (.pick (plt r0 (pi 0)) pT (pge r0 (.deref r1))))
def Bs (b:Nat→PC):PT×List (Shp×PT):=(ke,[])
theorem rk:cf_conflict_fine_1.map told=some (Bs (aA cf_conflict_fine_1)):=by kernel_rfl
theorem xe:tree fa=ke:=ah rk
theorem wU:cf_conflict_fine_1=some fa:=af rk
noncomputable def cf_slices_ContainsFunc_int:Option PC:=av {ctx with fr:=[4],nh:=[]} Tryz.f184 ((aa aq 184).getD default) []
noncomputable def bB:PC:=hpc cf_slices_ContainsFunc_int
def df:PT:=
 (.call ⟨[],[]⟩ [] 7 220 [r0,r1]
 (.ret (pge r7 (pi 0))))
def qF (b:Nat→PC):PT×List (Shp×PT):=(df,[])
theorem gm:cf_slices_ContainsFunc_int.map told=some (qF (aA cf_slices_ContainsFunc_int)):=by kernel_rfl
theorem nL:tree bB=df:=ah gm
theorem nI:cf_slices_ContainsFunc_int=some bB:=af gm
noncomputable def cf_slices_IndexFunc_int:Option PC:=av {ctx with fr:=[4,5],nh:=[]} Tryz.f220 ((aa aq 220).getD default) []
noncomputable def cn:PC:=hpc cf_slices_IndexFunc_int
noncomputable def eg:Nat→PC:=hbd cf_slices_IndexFunc_int
def rQ (b:Nat→PC):PC:=.block 0 [4,8,9] [] (.loop [4,8] [] (b 0))
def aY (b:Nat→PC):PT:=
 (.ite (plt r8 r7)
 (.blockS ⟨[],[]⟩ 1 [4,5,10,11,12,13,14,15,16] []
 (.chk (pix r0 r8)
 (.callc ⟨[(5,r8)],[]⟩ [] 16 r1 [(pn r0 r8)]
 (.ite r16
 (.ret r5)
 (.next ⟨[],[]⟩))))
 (.next ⟨[(8,(ao r8 (pi 1)))],[]⟩))
 (.exit 0 ⟨[(9,(plt r8 r7))],[]⟩))
def eE (b:Nat→PC):PT:=
 (.brk ⟨[(8,(pi 0)),(7,(.llen r0)),(4,(pi 0))],[]⟩
(rQ b)
 (.ret (pi (-1))))
def uP (b:Nat→PC):PT×List (Shp×PT):=(eE b,[(.lp 0 [4,8,9] [] [4,8] [],aY b)])
theorem ez:cf_slices_IndexFunc_int.map told=some (uP (aA cf_slices_IndexFunc_int)):=by kernel_rfl
theorem q7:tree cn=eE eg:=ah ez
theorem ct:round 0 [4,8,9] [] [4,8] [] (eg 0)=aY eg:=ax ez 0 fun _=>rfl
theorem qJ:cf_slices_IndexFunc_int=some cn:=af ez
noncomputable def cf_conflict_Leads:Option PC:=av {ctx with fr:=[8,9],nh:=[]} Tryz.f115 ((aa aq 115).getD default) [4,11]
noncomputable def fT:PC:=hpc cf_conflict_Leads
noncomputable def lx:Nat→PC:=hbd cf_conflict_Leads
def zK (b:Nat→PC):PC:=.block 0 [8,9,25,26] [] (.loop [8,9,25] [] (b 0))
def cw (b:Nat→PC):PT:=
 (.ite (plt r25 r24)
 (.chk (pix r23 r25)
 (.ite (.pick (peq (pc (.setc (.con (.agg [(.int 0),(.int 0),(.bool false)])) 0 (pn r23 r25)) 0) r2) (pne (pc (.setc (.con (.agg [(.int 0),(.int 0),(.bool false)])) 0 (pn r23 r25)) 1) (pi 0)) pF)
 (.chk (pix r3 (pc (.setc (.con (.agg [(.int 0),(.int 0),(.bool false)])) 0 (pn r23 r25)) 1))
 (.ret (.tup [(pn r3 (pc (.setc (.con (.agg [(.int 0),(.int 0),(.bool false)])) 0 (pn r23 r25)) 1)),(pc (.setc (.con (.agg [(.int 0),(.int 0),(.bool false)])) 0 (pn r23 r25)) 2)])))
 (.next ⟨[(25,(ao r25 (pi 1)))],[]⟩)))
 (.exit 0 ⟨[(26,(plt r25 r24))],[]⟩))
def kU (b:Nat→PC):PT:=
 (.call ⟨[(9,pF),(8,(pi 0))],[(4,(.mk [r0]))]⟩ [] 16 114 [(mkA 8 (.mk [r0])),r1,r2,r3]
 (.ite (.nt r16)
 (.ret (.tup [(pi (-1)),pF]))
 (.chk (pix (pc o4 4) r1)
 (.brk ⟨[(25,(pi 0)),(24,(.llen (pc (pn (pc o4 4) r1) 2))),(23,(pc (pn (pc o4 4) r1) 2))],[]⟩
(zK b)
 (.ret (.tup [r1,pF]))))))
def D3 (b:Nat→PC):PT×List (Shp×PT):=(kU b,[(.lp 0 [8,9,25,26] [] [8,9,25] [],cw b)])
theorem lO:cf_conflict_Leads.map told=some (D3 (aA cf_conflict_Leads)):=by kernel_rfl
theorem xk:tree fT=kU lx:=ah lO
theorem fb:round 0 [8,9,25,26] [] [8,9,25] [] (lx 0)=cw lx:=ax lO 0 fun _=>rfl
theorem xB:cf_conflict_Leads=some fT:=af lO
noncomputable def cf_order_Answer:Option PC:=av {ctx with fr:=[7,9,11,12],nh:=[]} Tryz.f55 ((aa aq 55).getD default) [3,6,8,10]
noncomputable def jC:PC:=hpc cf_order_Answer
def oJ:PT:=
 (.call ⟨[],[(6,(.con (.agg [(.bool false),(.int 0)])))]⟩ [] 16 117 [(mkA 4 (.mk [r0])),r1]
 (.ite (pne (.tget r16 1) (pi 0))
 (.ret (.tup [(.mk [(pc (.setc o6 0 (.mk [pF,(pi 0)])) 0),(pc (.setc o6 0 (.mk [pF,(pi 0)])) 1)]),(.tget r16 1)]))
 (.call ⟨[],[]⟩ [] 25 118 [(.mk [(pc (.setc (.con (.agg [(.int 0),(.int 0),(.list [])])) 0 (.tget r16 0)) 0),(pc (.setc (.con (.agg [(.int 0),(.int 0),(.list [])])) 0 (.tget r16 0)) 1),(pc (.setc (.con (.agg [(.int 0),(.int 0),(.list [])])) 0 (.tget r16 0)) 2)]),r2]
 (.call ⟨[],[(10,(.setc (.con (.agg [(.bool false),(.int 0)])) 0 r25))]⟩ [] 28 119 [r1]
 (.ret (.tup [(.mk [(pc (.setc o6 0 (.mk [(pc (.pick (.pick (peq (.tget r28 0) (pi 0)) (pc o10 0) pF) (.setc o10 1 (.mn (.mx (pc o10 1) (pi 0)) (pi 20000))) o10) 0),(pc (.pick (.pick (peq (.tget r28 0) (pi 0)) (pc o10 0) pF) (.setc o10 1 (.mn (.mx (pc o10 1) (pi 0)) (pi 20000))) o10) 1)])) 0),(pc (.setc o6 0 (.mk [(pc (.pick (.pick (peq (.tget r28 0) (pi 0)) (pc o10 0) pF) (.setc o10 1 (.mn (.mx (pc o10 1) (pi 0)) (pi 20000))) o10) 0),(pc (.pick (.pick (peq (.tget r28 0) (pi 0)) (pc o10 0) pF) (.setc o10 1 (.mn (.mx (pc o10 1) (pi 0)) (pi 20000))) o10) 1)])) 1)]),(pi 0)]))))))
def Iq (b:Nat→PC):PT×List (Shp×PT):=(oJ,[])
theorem wq:cf_order_Answer.map told=some (Iq (aA cf_order_Answer)):=by kernel_rfl
theorem CC:tree jC=oJ:=ah wq
theorem Bm:cf_order_Answer=some jC:=af wq
noncomputable def cf_order_find:Option PC:=av {ctx with fr:=[5,6,7,8,10,11],nh:=[]} Tryz.f117 ((aa aq 117).getD default) [2,3,4,12292,9]
noncomputable def nv:PC:=hpc cf_order_find
def s9:PT:=
 (.call ⟨[],[(4,(.con (.agg [(.int 0),(.int 0),(.list [])]))),(3,(.mk [r1])),(2,(.mk [r0]))]⟩ [] 14 119 [(pc (.mk [r1]) 0)]
 (.ite (.nt (.tget r14 1))
 (.ret (.tup [(.mk [(pc (.setc o4 0 (.mk [(pi 0),(pi 0),pL])) 0),(pc (.setc o4 0 (.mk [(pi 0),(pi 0),pL])) 1),pL]),(pi 1)]))
 (.call ⟨[(6,(.tget r14 0))],[]⟩ [] 23 187 [(pc o2 3),(.clo 188 [(.ref (pc o3 0))])]
 (.ite (plt r23 (pi 0))
 (.ret (.tup [(.mk [(pc (.setc o4 0 (.mk [(pi 0),(pi 0),pL])) 0),(pc (.setc o4 0 (.mk [(pi 0),(pi 0),pL])) 1),pL]),(pi 4)]))
 (.chk (pix (pc o2 3) r23)
 (.call ⟨[],[(9,(.setc (.con (.agg [(.int 0),(.int 0),(.list [])])) 0 (.sub (pn (pc o2 3) r23) 1 3)))]⟩ [] 35 189 [(.mk [(pc (.setc (.con (.agg [(.int 0),(.int 0),(.list [])])) 0 (.sub (pn (pc o2 3) r23) 1 3)) 0),(pc (.setc (.con (.agg [(.int 0),(.int 0),(.list [])])) 0 (.sub (pn (pc o2 3) r23) 1 3)) 1),(pc (.setc (.con (.agg [(.int 0),(.int 0),(.list [])])) 0 (.sub (pn (pc o2 3) r23) 1 3)) 2)])]
 (.ite (.pick (pne (.tget r35 1) (pi 0)) pT (pne (.tget r35 0) r6))
 (.ret (.tup [(.mk [(pc (.setc o4 0 (.mk [(pi 0),(pi 0),pL])) 0),(pc (.setc o4 0 (.mk [(pi 0),(pi 0),pL])) 1),pL]),(pi 11)]))
 (.ret (.tup [(.mk [(pc (.setc o4 0 (.mk [(pc o9 0),(pc o9 1),(pc o9 2)])) 0),(pc (.setc o4 0 (.mk [(pc o9 0),(pc o9 1),(pc o9 2)])) 1),(pc (.setc o4 0 (.mk [(pc o9 0),(pc o9 1),(pc o9 2)])) 2)]),(pi 0)])))))))))
def Pc (b:Nat→PC):PT×List (Shp×PT):=(s9,[])
theorem AH:cf_order_find.map told=some (Pc (aA cf_order_find)):=by kernel_rfl
theorem GC:tree nv=s9:=ah AH
theorem Fj:cf_order_find=some nv:=af AH
noncomputable def cf_order_find_1:Option PC:=av {ctx with fr:=[3],nh:=[]} Tryz.f188 ((aa aq 188).getD default) [2]
noncomputable def jH:PC:=hpc cf_order_find_1
def oT:PT:=
 (.ret (peq (pc (.mk [r0]) 0) (.deref r1)))
def Jd (b:Nat→PC):PT×List (Shp×PT):=(oT,[])
theorem wC:cf_order_find_1.map told=some (Jd (aA cf_order_find_1)):=by kernel_rfl
theorem BR:tree jH=oT:=ah wC
theorem Cz:cf_order_find_1=some jH:=af wC
noncomputable def cf_slices_IndexFunc_Rule:Option PC:=av {ctx with fr:=[4,5],nh:=[]} Tryz.f187 ((aa aq 187).getD default) []
noncomputable def bV:PC:=hpc cf_slices_IndexFunc_Rule
noncomputable def dM:Nat→PC:=hbd cf_slices_IndexFunc_Rule
def qT (b:Nat→PC):PC:=.block 0 [4,8,9] [] (.loop [4,8] [] (b 0))
def aU (b:Nat→PC):PT:=
 (.ite (plt r8 r7)
 (.blockS ⟨[],[]⟩ 1 [4,5,10,11,12,13,14,15,16] []
 (.chk (pix r0 r8)
 (.callc ⟨[(5,r8)],[]⟩ [] 16 r1 [(pn r0 r8)]
 (.ite r16
 (.ret r5)
 (.next ⟨[],[]⟩))))
 (.next ⟨[(8,(ao r8 (pi 1)))],[]⟩))
 (.exit 0 ⟨[(9,(plt r8 r7))],[]⟩))
def dO (b:Nat→PC):PT:=
 (.brk ⟨[(8,(pi 0)),(7,(.llen r0)),(4,(pi 0))],[]⟩
(qT b)
 (.ret (pi (-1))))
def tA (b:Nat→PC):PT×List (Shp×PT):=(dO b,[(.lp 0 [4,8,9] [] [4,8] [],aU b)])
theorem dT:cf_slices_IndexFunc_Rule.map told=some (tA (aA cf_slices_IndexFunc_Rule)):=by kernel_rfl
theorem pZ:tree bV=dO dM:=ah dT
theorem bW:round 0 [4,8,9] [] [4,8] [] (dM 0)=aU dM:=ax dT 0 fun _=>rfl
theorem p7:cf_slices_IndexFunc_Rule=some bV:=af dT
noncomputable def cf_term_Check:Option PC:=av {ctx with fr:=[2,3],nh:=[]} Tryz.f189 ((aa aq 189).getD default) [1]
noncomputable def nr:PC:=hpc cf_term_Check
def tM:PT:=
 (.call ⟨[],[(1,(.mk [r0]))]⟩ [] 5 221 [(.mk [(pc (.mk [r0]) 0),(pc (.mk [r0]) 1),(pc (.mk [r0]) 2)]),(pi 1)]
 (.ite (pgt r5 (pi 60))
 (.ret (.tup [(pi 0),(pi 6)]))
 (.call ⟨[],[]⟩ [] 8 222 [(.mk [(pc o1 0),(pc o1 1),(pc o1 2)])]
 (.ret (.tup [(.tget r8 0),(.tget r8 1)])))))
def NW (b:Nat→PC):PT×List (Shp×PT):=(tM,[])
theorem AK:cf_term_Check.map told=some (NW (aA cf_term_Check)):=by kernel_rfl
theorem Fz:tree nr=tM:=ah AK
theorem Fq:cf_term_Check=some nr:=af AK
noncomputable def cf_term_measure:Option PC:=av {ctx with fr:=[4,5],nh:=[]} Tryz.f221 ((aa aq 221).getD default) [2,7,12295]
noncomputable def jL:PC:=hpc cf_term_measure
noncomputable def oE:Nat→PC:=hbd cf_term_measure
def Dc (b:Nat→PC):PC:=.block 0 [5,13,14] [] (.loop [5,13] [] (b 0))
def dB (b:Nat→PC):PT:=
 (.ite (plt r13 r12)
 (.blockS ⟨[(14,(plt r13 r12))],[]⟩ 1 [5,7,15,16,17,18,19,20,21,22,23,24] [7,12295]
 (.chk (pix r11 r13)
 (.call ⟨[(17,r5)],[]⟩ [] 21 221 [(.mk [(pc (.setc (.con (.agg [(.int 0),(.int 0),(.list [])])) 0 (pn r11 r13)) 0),(pc (.setc (.con (.agg [(.int 0),(.int 0),(.list [])])) 0 (pn r11 r13)) 1),(pc (.setc (.con (.agg [(.int 0),(.int 0),(.list [])])) 0 (pn r11 r13)) 2)]),(ao r1 (pi 1))]
 (.ite (pgt (ao r17 r21) (pi 60))
 (.exit 0 ⟨[(5,(ao r17 r21))],[]⟩)
 (.next ⟨[(5,(ao r17 r21))],[]⟩))))
 (.next ⟨[(13,(ao r13 (pi 1)))],[]⟩))
 (.exit 0 ⟨[(14,(plt r13 r12))],[]⟩))
def jG (b:Nat→PC):PT:=
 (.ite (pgt r1 (pi 8))
 (.ret (pi 61))
 (.brk ⟨[(13,(pi 0)),(12,(.llen (pc (.mk [r0]) 2))),(11,(pc (.mk [r0]) 2)),(5,(pi 1))],[]⟩
(Dc b)
 (.ret r5)))
def Iv (b:Nat→PC):PT×List (Shp×PT):=(jG b,[(.lp 0 [5,13,14] [] [5,13] [],dB b)])
theorem om:cf_term_measure.map told=some (Iv (aA cf_term_measure)):=by kernel_rfl
theorem qD:tree jL=jG oE:=ah om
theorem gl:round 0 [5,13,14] [] [5,13] [] (oE 0)=dB oE:=ax om 0 fun _=>rfl
theorem By:cf_term_measure=some jL:=af om
noncomputable def cf_term_check:Option PC:=av {ctx with fr:=[2,3,5,7,8,38,47,10,11,12],nh:=[]} Tryz.f222 ((aa aq 222).getD default) [1,4,6,12294,9]
noncomputable def ng:PC:=hpc cf_term_check
noncomputable def iY:Nat→PC:=hbd cf_term_check
def I2 (b:Nat→PC):PC:=.block 0 [2,3,20,21] [4] (.loop [2,3,20] [4] (b 0))
def JD (b:Nat→PC):PC:=.block 3 [2,3,10,82,83] [] (.loop [2,3,10,82] [] (b 1))
def fu (b:Nat→PC):PT:=
 (.ite (plt r20 r19)
 (.blockS ⟨[],[]⟩ 1 [2,3,5,6,7,8,22,23,24,25,26,27,28,29,30,31,33,34,35,36] [6,12294,4]
 (.chk (pix r18 r20)
 (.call ⟨[(5,r20)],[]⟩ [] 27 222 [(.mk [(pc (.setc (.con (.agg [(.int 0),(.int 0),(.list [])])) 0 (pn r18 r20)) 0),(pc (.setc (.con (.agg [(.int 0),(.int 0),(.list [])])) 0 (pn r18 r20)) 1),(pc (.setc (.con (.agg [(.int 0),(.int 0),(.list [])])) 0 (pn r18 r20)) 2)])]
 (.ite (pne (.tget r27 1) (pi 0))
 (.ret (.tup [(pi 0),(.tget r27 1)]))
 (.chk (pix o4 r5)
 (.next ⟨[],[(4,(.setn o4 r5 0 (.tget r27 0)))]⟩)))))
 (.next ⟨[(20,(ao r20 (pi 1)))],[]⟩))
 (.exit 0 ⟨[(21,(plt r20 r19))],[]⟩))
def bG (b:Nat→PC):PT:=
 (.ite (plt r82 r81)
 (.chk (pix r80 r82)
 (.ite (.pick (peq (pn r80 r82) (pi (-1))) (peq r10 (pi (-1))) pF)
 (.chk (pix o4 r82)
 (.ite (pne (pn o4 r82) (.pick (peq (pn r80 r82) (pi (-1))) (pn o4 r82) (pn r80 r82)))
 (.ret (.tup [(pi 0),(pi 11)]))
 (.next ⟨[(10,(pn o4 r82)),(82,(ao r82 (pi 1)))],[]⟩)))
 (.chk (pix o4 r82)
 (.ite (pne (pn o4 r82) (.pick (peq (pn r80 r82) (pi (-1))) r10 (pn r80 r82)))
 (.ret (.tup [(pi 0),(pi 11)]))
 (.next ⟨[(82,(ao r82 (pi 1)))],[]⟩)))))
 (.exit 3 ⟨[(83,(plt r82 r81))],[]⟩))
def tz (b:Nat→PC):PT:=
 (.chk (.an (pge (.llen (pc (.mk [r0]) 2)) (pi 0)) (ple (.llen (pc (.mk [r0]) 2)) (pi 4294967296)))
 (.chk (peq (.llen (pc (.mk [r0]) 2)) (.llen (pc (.mk [r0]) 2)))
 (.brk ⟨[(20,(pi 0)),(19,(.llen (pc (.mk [r0]) 2))),(18,(pc (.mk [r0]) 2)),(4,pN),(3,(pi 0)),(2,(pi 0))],[(4,(.rep (.llen (pc (.mk [r0]) 2)) (pi 0))),(1,(.mk [r0]))]⟩
(I2 b)
 (.blockS ⟨[],[]⟩ 2 [2,3,38,39,40,41,42,46,47,48,49,50,51,55,56,60] []
 (.iteS ⟨[],[]⟩ (.pick (plt (pc o1 0) (pi 0)) pT (pgt (pc o1 0) (pi 13))) [2,3,47,48,49,50,51,55,56,60] []
 (.ret (.tup [(pi 0),(pi 1)]))
 (.iteS ⟨[],[]⟩ (.pick (.pick (peq (pc o1 0) (pi 0)) pT (peq (pc o1 0) (pi 1))) pT (peq (pc o1 0) (pi 2))) [2,3] []
 (.call ⟨[],[]⟩ [] 62 245 [(.mk [(pc o1 0),(pc o1 1),(pc o1 2)])]
 (.ret (.tup [(.tget r62 0),(.tget r62 1)])))
 (.next ⟨[],[]⟩)
 (.next ⟨[],[]⟩))
 (.next ⟨[],[]⟩))
 (.call ⟨[],[]⟩ [] 67 246 [(pc o1 0)]
 (.ite (.pick (pne (.llen o4) (.llen (pc (.setc (.con (.agg [(.list []),(.int 0)])) 0 r67) 0))) pT (pne (pc o1 1) (pi 0)))
 (.ret (.tup [(pi 0),(pi 2)]))
 (.brk ⟨[(82,(pi 0)),(81,(.llen (pc (.setc (.con (.agg [(.list []),(.int 0)])) 0 r67) 0))),(80,(pc (.setc (.con (.agg [(.list []),(.int 0)])) 0 r67) 0)),(10,(pi (-1)))],[(9,(.setc (.con (.agg [(.list []),(.int 0)])) 0 r67))]⟩
(JD b)
 (.ite (peq (pc o9 1) (pi (-1)))
 (.ret (.tup [r10,(pi 0)]))
 (.ret (.tup [(pc o9 1),(pi 0)]))))))))))
def OZ (b:Nat→PC):PT×List (Shp×PT):=(tz b,[(.lp 0 [2,3,20,21] [4] [2,3,20] [4],fu b),(.lp 3 [2,3,10,82,83] [] [2,3,10,82] [],bG b)])
theorem nB:cf_term_check.map told=some (OZ (aA cf_term_check)):=by kernel_rfl
theorem Fa:tree ng=tz iY:=ah nB
theorem j6:round 0 [2,3,20,21] [4] [2,3,20] [4] (iY 0)=fu iY:=ax nB 0 fun _=>rfl
theorem bT:round 3 [2,3,10,82,83] [] [2,3,10,82] [] (iY 1)=bG iY:=ax nB 1 fun _=>rfl
theorem Fs:cf_term_check=some ng:=af nB
noncomputable def cf_term_leaf:Option PC:=av {ctx with fr:=[2,3,12,20,4,5],nh:=[]} Tryz.f245 ((aa aq 245).getD default) [1]
noncomputable def qj:PC:=hpc cf_term_leaf
def uW:PT:=
 (.ite (pgt (.llen (pc (.mk [r0]) 2)) (pi 0))
 (.ret (.tup [(pi 0),(pi 2)]))
 (.blockS ⟨[(11,(pc (.mk [r0]) 0))],[(1,(.mk [r0]))]⟩ 0 [2,3,12,13,20,21] []
 (.iteS ⟨[],[]⟩ (peq r11 (pi 0)) [2,3,20,21] []
 (.call ⟨[],[]⟩ [] 16 249 [(pc o1 1)]
 (.ite (pne r16 (pc o1 1))
 (.ret (.tup [(pi 0),(pi 3)]))
 (.ret (.tup [(pi 0),(pi 0)]))))
 (.ite (peq r11 (pi 1))
 (.ite (.pick (plt (pc o1 1) (pi 0)) pT (pgt (pc o1 1) (pi 1)))
 (.ret (.tup [(pi 0),(pi 3)]))
 (.ret (.tup [(pi 1),(pi 0)])))
 (.next ⟨[],[]⟩))
 (.next ⟨[],[]⟩))
 (.call ⟨[],[]⟩ [] 33 247 [(pc o1 1)]
 (.ite (.nt (.tget r33 1))
 (.ret (.tup [(pi 0),(pi 10)]))
 (.ret (.tup [(.tget r33 0),(pi 0)]))))))
def QT (b:Nat→PC):PT×List (Shp×PT):=(uW,[])
theorem EX:cf_term_leaf.map told=some (QT (aA cf_term_leaf)):=by kernel_rfl
theorem IX:tree qj=uW:=ah EX
theorem Jh:cf_term_leaf=some qj:=af EX
noncomputable def cf_term_cut:Option PC:=av {ctx with fr:=[2],nh:=[]} Tryz.f249 ((aa aq 249).getD default) []
noncomputable def sk:PC:=hpc cf_term_cut
def xj:PT:=
 (.ret (.mn (.mx r0 (pi (-1099511627776))) (pi 1099511627776)))
def SX (b:Nat→PC):PT×List (Shp×PT):=(xj,[])
theorem HI:cf_term_cut.map told=some (SX (aA cf_term_cut)):=by kernel_rfl
theorem MS:tree sk=xj:=ah HI
theorem Mg:cf_term_cut=some sk:=af HI
noncomputable def cf_term_VarType:Option PC:=av {ctx with fr:=[2,3,4,11],nh:=[]} Tryz.f247 ((aa aq 247).getD default) []
noncomputable def jZ:PC:=hpc cf_term_VarType
def oh:PT:=
 (.ite (.pick (plt r0 (pi 0)) pT (pgt r0 (pi 19)))
 (.ret (.tup [(pi 0),pF]))
 (.ite (plt r0 (pi 7))
 (.ret (.tup [(pi 0),pT]))
 (.ret (.tup [(pi 1),pT]))))
def Jl (b:Nat→PC):PT×List (Shp×PT):=(oh,[])
theorem wx:cf_term_VarType.map told=some (Jl (aA cf_term_VarType)):=by kernel_rfl
theorem Co:tree jZ=oh:=ah wx
theorem B2:cf_term_VarType=some jZ:=af wx
noncomputable def cf_term_shapeOf:Option PC:=av {ctx with fr:=[4,8,13,17,21],nh:=[]} Tryz.f246 ((aa aq 246).getD default) [2]
noncomputable def jV:PC:=hpc cf_term_shapeOf
def oU:PT:=
 (.ite (peq r0 (pi 3))
 (.ret (.mk [(pc (.setc (.con (.agg [(.list []),(.int 0)])) 0 (.mk [(.lst [(pi 1)]),(pi 1)])) 0),(pc (.setc (.con (.agg [(.list []),(.int 0)])) 0 (.mk [(.lst [(pi 1)]),(pi 1)])) 1)]))
 (.ite (.pick (peq r0 (pi 4)) (peq r0 (pi 4)) (peq r0 (pi 5)))
 (.ret (.mk [(pc (.setc (.con (.agg [(.list []),(.int 0)])) 0 (.mk [(.lst [(pi 1),(pi 1)]),(pi 1)])) 0),(pc (.setc (.con (.agg [(.list []),(.int 0)])) 0 (.mk [(.lst [(pi 1),(pi 1)]),(pi 1)])) 1)]))
 (.ite (peq r0 (pi 6))
 (.ret (.mk [(pc (.setc (.con (.agg [(.list []),(.int 0)])) 0 (.mk [(.lst [(pi 1),(pi (-1)),(pi (-1))]),(pi (-1))])) 0),(pc (.setc (.con (.agg [(.list []),(.int 0)])) 0 (.mk [(.lst [(pi 1),(pi (-1)),(pi (-1))]),(pi (-1))])) 1)]))
 (.ite (peq r0 (pi 7))
 (.ret (.mk [(pc (.setc (.con (.agg [(.list []),(.int 0)])) 0 (.mk [(.lst [(pi 0),(pi 0)]),(pi 1)])) 0),(pc (.setc (.con (.agg [(.list []),(.int 0)])) 0 (.mk [(.lst [(pi 0),(pi 0)]),(pi 1)])) 1)]))
 (.ite (peq r0 (pi 8))
 (.ret (.mk [(pc (.setc (.con (.agg [(.list []),(.int 0)])) 0 (.mk [(.lst [(pi (-1)),(pi (-1))]),(pi 1)])) 0),(pc (.setc (.con (.agg [(.list []),(.int 0)])) 0 (.mk [(.lst [(pi (-1)),(pi (-1))]),(pi 1)])) 1)]))
 (.ret (.mk [(pc (.setc (.con (.agg [(.list []),(.int 0)])) 0 (.mk [(.lst [(pi 0),(pi 0)]),(pi 0)])) 0),(pc (.setc (.con (.agg [(.list []),(.int 0)])) 0 (.mk [(.lst [(pi 0),(pi 0)]),(pi 0)])) 1)])))))))
def I1 (b:Nat→PC):PT×List (Shp×PT):=(oU,[])
theorem wy:cf_term_shapeOf.map told=some (I1 (aA cf_term_shapeOf)):=by kernel_rfl
theorem A9:tree jV=oU:=ah wy
theorem A8:cf_term_shapeOf=some jV:=af wy
noncomputable def cf_term_Eval:Option PC:=av {ctx with fr:=[5,6,8],nh:=[]} Tryz.f118 ((aa aq 118).getD default) [2,4,7]
noncomputable def qg:PC:=hpc cf_term_Eval
def vf:PT:=
 (.call ⟨[],[(4,(.con (.agg [(.bool false),(.int 0)]))),(2,(.mk [r0]))]⟩ [] 11 189 [(.mk [(pc (.mk [r0]) 0),(pc (.mk [r0]) 1),(pc (.mk [r0]) 2)])]
 (.ite (pne (.tget r11 1) (pi 0))
 (.ret (.mk [(pc (.setc o4 0 (.mk [pF,(pi 0)])) 0),(pc (.setc o4 0 (.mk [pF,(pi 0)])) 1)]))
 (.call ⟨[],[]⟩ [] 21 190 [(.mk [r1]),(.mk [(pc o2 0),(pc o2 1),(pc o2 2)])]
 (.ret (.mk [(pc (.setc o4 0 (.mk [(pc (.setc (.con (.agg [(.bool false),(.int 0)])) 0 (.tget r21 0)) 0),(pc (.setc (.con (.agg [(.bool false),(.int 0)])) 0 (.tget r21 0)) 1)])) 0),(pc (.setc o4 0 (.mk [(pc (.setc (.con (.agg [(.bool false),(.int 0)])) 0 (.tget r21 0)) 0),(pc (.setc (.con (.agg [(.bool false),(.int 0)])) 0 (.tget r21 0)) 1)])) 1)])))))
def Q6 (b:Nat→PC):PT×List (Shp×PT):=(vf,[])
theorem DN:cf_term_Eval.map told=some (Q6 (aA cf_term_Eval)):=by kernel_rfl
theorem Ir:tree qg=vf:=ah DN
theorem IP:cf_term_Eval=some qg:=af DN
noncomputable def cf_term_machine_run:Option PC:=av {ctx with fr:=[5,15,21,9,11],nh:=[]} Tryz.f190 ((aa aq 190).getD default) [2,3,4,6,33,7,8,10,12298,12]
noncomputable def ec:PC:=hpc cf_term_machine_run
noncomputable def iz:Nat→PC:=hbd cf_term_machine_run
def wR (b:Nat→PC):PC:=.block 1 [45,46] [7,8] (.loop [45] [7,8] (b 0))
def bK (b:Nat→PC):PT:=
 (.ite (plt r45 r44)
 (.blockS ⟨[],[]⟩ 2 [9,10,47,48,49,50,51,52,53,54,55,56,57,58,59,60,61] [10,12298,8,7]
 (.chk (pix r43 r45)
 (.call ⟨[(54,r45),(52,r45)],[]⟩ [] 57 190 [(.mk [(pc o2 0)]),(.mk [(pc (.setc (.con (.agg [(.int 0),(.int 0),(.list [])])) 0 (pn r43 r45)) 0),(pc (.setc (.con (.agg [(.int 0),(.int 0),(.list [])])) 0 (pn r43 r45)) 1),(pc (.setc (.con (.agg [(.int 0),(.int 0),(.list [])])) 0 (pn r43 r45)) 2)])]
 (.chk (pix o7 r52)
 (.chk (pix o8 r54)
 (.next ⟨[],[(8,(.setn o8 r54 0 (.tget r57 1))),(7,(.setn o7 r52 0 (.tget r57 0)))]⟩)))))
 (.next ⟨[(45,(ao r45 (pi 1)))],[]⟩))
 (.exit 1 ⟨[(46,(plt r45 r44))],[]⟩))
def cC (b:Nat→PC):PT:=
 (.blockS ⟨[(14,(pc (.mk [r1]) 0))],[(4,(.con (.agg [(.bool false),(.int 0)]))),(3,(.mk [r1])),(2,(.mk [r0]))]⟩ 0 [5,15,16,21,22] [4]
 (.iteS ⟨[],[]⟩ (.pick (peq r14 (pi 0)) (peq r14 (pi 0)) (peq r14 (pi 1))) [5,21,22] [4]
 (.ret (.tup [(.mk [(pc (.setc o4 0 (.mk [pT,(pc o3 1)])) 0),(pc (.setc o4 0 (.mk [pT,(pc o3 1)])) 1)]),pL]))
 (.iteS ⟨[],[]⟩ (peq r14 (pi 2)) [5] [4]
 (.call ⟨[],[]⟩ [] 26 223 [(.mk [(pc o2 0)]),(pc o3 1)]
 (.ite (pc (.setc (.con (.agg [(.bool false),(.int 0)])) 0 r26) 0)
 (.ret (.tup [(.mk [(pc (.setc o4 0 (.mk [(pc (.setc (.con (.agg [(.bool false),(.int 0)])) 0 r26) 0),(pc (.setc (.con (.agg [(.bool false),(.int 0)])) 0 r26) 1)])) 0),(pc (.setc o4 0 (.mk [(pc (.setc (.con (.agg [(.bool false),(.int 0)])) 0 r26) 0),(pc (.setc (.con (.agg [(.bool false),(.int 0)])) 0 r26) 1)])) 1)]),pL]))
 (.ret (.tup [(.mk [(pc (.setc o4 0 (.mk [pF,(pi 0)])) 0),(pc (.setc o4 0 (.mk [pF,(pi 0)])) 1)]),(.lst [(pc o3 1)])]))))
 (.next ⟨[],[]⟩)
 (.next ⟨[],[]⟩))
 (.next ⟨[],[]⟩))
 (.chk (.an (pge (.llen (pc o3 2)) (pi 0)) (ple (.llen (pc o3 2)) (pi 4294967296)))
 (.chk (peq (.llen (pc o3 2)) (.llen (pc o3 2)))
 (.brk ⟨[(45,(pi 0)),(44,(.llen (pc o3 2))),(43,(pc o3 2)),(8,pN),(7,pN)],[(8,(.rep (.llen (pc o3 2)) pL)),(7,(.rep (.llen (pc o3 2)) (.con (.agg [(.bool false),(.int 0)]))))]⟩
(wR b)
 (.chk (.nt (.an (.an (peq (pc o3 0) (pi 6)) pT) (.nt (pix o7 (pi 0)))))
 (.ite (.pick (peq (pc o3 0) (pi 6)) (pc (pn o7 (pi 0)) 0) pF)
 (.chk (pix o7 (pi 0))
 (.chk (pix o7 (aB (pi 2) (pc (pn o7 (pi 0)) 1)))
 (.chk (pix o8 (aB (pi 2) (pc (pn o7 (pi 0)) 1)))
 (.ret (.tup [(.mk [(pc (.setc o4 0 (.sub (pn o7 (aB (pi 2) (pc (pn o7 (pi 0)) 1))) 0 2)) 0),(pc (.setc o4 0 (.sub (pn o7 (aB (pi 2) (pc (pn o7 (pi 0)) 1))) 0 2)) 1)]),(pn o8 (aB (pi 2) (pc (pn o7 (pi 0)) 1)))])))))
 (.call ⟨[],[]⟩ [] 88 224 [(pc o3 0),o7]
 (.ite (pc (.setc (.con (.agg [(.bool false),(.int 0)])) 0 r88) 0)
 (.ret (.tup [(.mk [(pc (.setc o4 0 (.mk [(pc (.setc (.con (.agg [(.bool false),(.int 0)])) 0 r88) 0),(pc (.setc (.con (.agg [(.bool false),(.int 0)])) 0 r88) 1)])) 0),(pc (.setc o4 0 (.mk [(pc (.setc (.con (.agg [(.bool false),(.int 0)])) 0 r88) 0),(pc (.setc (.con (.agg [(.bool false),(.int 0)])) 0 r88) 1)])) 1)]),pL]))
 (.call ⟨[(92,(.mk [pF,(pi 0)]))],[]⟩ [] 94 225 [o8]
 (.ret (.tup [(.mk [(pc (.setc o4 0 r92) 0),(pc (.setc o4 0 r92) 1)]),r94])))))))))))
def Ar (b:Nat→PC):PT×List (Shp×PT):=(cC b,[(.lp 1 [45,46] [7,8] [45] [7,8],bK b)])
theorem iN:cf_term_machine_run.map told=some (Ar (aA cf_term_machine_run)):=by kernel_rfl
theorem vD:tree ec=cC iz:=ah iN
theorem dP:round 1 [45,46] [7,8] [45] [7,8] (iz 0)=bK iz:=ax iN 0 fun _=>rfl
theorem vn:cf_term_machine_run=some ec:=af iN
noncomputable def cf_term_machine_value:Option PC:=av {ctx with fr:=[5,6],nh:=[]} Tryz.f223 ((aa aq 223).getD default) [2,4]
noncomputable def di:PC:=hpc cf_term_machine_value
def fK:PT:=
 (.chk (.nt (.an (.an (.nt (pge r1 (.llen (pc (.mk [r0]) 0)))) pT) (.nt (pix (pc (.mk [r0]) 0) r1))))
 (.ite (.pick (pge r1 (.llen (pc (.mk [r0]) 0))) pT (.nt (pc (pn (pc (.mk [r0]) 0) r1) 0)))
 (.ret (.mk [(pc (.setc (.con (.agg [(.bool false),(.int 0)])) 0 (.mk [pF,(pi 0)])) 0),(pc (.setc (.con (.agg [(.bool false),(.int 0)])) 0 (.mk [pF,(pi 0)])) 1)]))
 (.call ⟨[],[(4,(.con (.agg [(.bool false),(.int 0)]))),(2,(.mk [r0]))]⟩ [] 24 247 [r1]
 (.iteS ⟨[],[]⟩ (peq (.tget r24 0) (pi 1)) [] [4]
 (.chk (pix (pc o2 0) r1)
 (.call ⟨[],[]⟩ [] 36 248 [(pne (pc (pn (pc o2 0) r1) 1) (pi 0))]
 (.ret (.mk [(pc (.setc o4 0 r36) 0),(pc (.setc o4 0 r36) 1)]))))
 (.next ⟨[],[]⟩)
 (.chk (pix (pc o2 0) r1)
 (.call ⟨[],[]⟩ [] 43 249 [(pc (pn (pc o2 0) r1) 1)]
 (.ret (.mk [(pc (.setc o4 0 (.mk [pT,r43])) 0),(pc (.setc o4 0 (.mk [pT,r43])) 1)]))))))))
def xf (b:Nat→PC):PT×List (Shp×PT):=(fK,[])
theorem mf:cf_term_machine_value.map told=some (xf (aA cf_term_machine_value)):=by kernel_rfl
theorem tO:tree di=fK:=ah mf
theorem tN:cf_term_machine_value=some di:=af mf
noncomputable def cf_term_yes:Option PC:=av {ctx with fr:=[],nh:=[]} Tryz.f248 ((aa aq 248).getD default) [2]
noncomputable def se:PC:=hpc cf_term_yes
def xn:PT:=
 (.ite r0
 (.ret (.mk [(pc (.setc (.con (.agg [(.bool false),(.int 0)])) 0 (.mk [pT,(pi 1)])) 0),(pc (.setc (.con (.agg [(.bool false),(.int 0)])) 0 (.mk [pT,(pi 1)])) 1)]))
 (.ret (.mk [(pc (.setc (.con (.agg [(.bool false),(.int 0)])) 0 (.mk [pT,(pi 0)])) 0),(pc (.setc (.con (.agg [(.bool false),(.int 0)])) 0 (.mk [pT,(pi 0)])) 1)])))
def Tv (b:Nat→PC):PT×List (Shp×PT):=(xn,[])
theorem HJ:cf_term_yes.map told=some (Tv (aA cf_term_yes)):=by kernel_rfl
theorem MC:tree se=xn:=ah HJ
theorem Mf:cf_term_yes=some se:=af HJ
noncomputable def cf_term_combine:Option PC:=av {ctx with fr:=[9,22,41,6,7,82,88,94],nh:=[]} Tryz.f224 ((aa aq 224).getD default) [4,5]
noncomputable def j0:PC:=hpc cf_term_combine
def oD:PT:=
 (.blockS ⟨[(8,r0)],[(4,(.con (.agg [(.bool false),(.int 0)])))]⟩ 0 [9,10,22,23] [4]
 (.iteS ⟨[],[]⟩ (peq r8 (pi 3)) [22,23] [4]
 (.chk (pix r1 (pi 0))
 (.iteS ⟨[],[]⟩ (pc (pn r1 (pi 0)) 0) [] [4]
 (.chk (pix r1 (pi 0))
 (.call ⟨[],[]⟩ [] 20 248 [(peq (pc (pn r1 (pi 0)) 1) (pi 0))]
 (.ret (.mk [(pc (.setc o4 0 r20) 0),(pc (.setc o4 0 r20) 1)]))))
 (.next ⟨[],[]⟩)
 (.ret (.mk [(pc (.setc o4 0 (.mk [pF,(pi 0)])) 0),(pc (.setc o4 0 (.mk [pF,(pi 0)])) 1)]))))
 (.iteS ⟨[],[]⟩ (.pick (peq r8 (pi 4)) (peq r8 (pi 4)) (peq r8 (pi 5))) [] [4]
 (.call ⟨[],[]⟩ [] 27 248 [(peq r0 (pi 5))]
 (.chk (pix r1 (pi 0))
 (.chk (.nt (.an (.an (.nt (.an (.cb .eql (pc (pn r1 (pi 0)) 0) (pc (.mk [(pc (.setc (.con (.agg [(.bool false),(.int 0)])) 0 r27) 0),(pc (.setc (.con (.agg [(.bool false),(.int 0)])) 0 r27) 1)]) 0)) (.an (peq (pc (pn r1 (pi 0)) 1) (pc (.mk [(pc (.setc (.con (.agg [(.bool false),(.int 0)])) 0 r27) 0),(pc (.setc (.con (.agg [(.bool false),(.int 0)])) 0 r27) 1)]) 1)) pT))) pT) (.nt (pix r1 (pi 1)))))
 (.ite (.pick (.an (.cb .eql (pc (pn r1 (pi 0)) 0) (pc (.mk [(pc (.setc (.con (.agg [(.bool false),(.int 0)])) 0 r27) 0),(pc (.setc (.con (.agg [(.bool false),(.int 0)])) 0 r27) 1)]) 0)) (.an (peq (pc (pn r1 (pi 0)) 1) (pc (.mk [(pc (.setc (.con (.agg [(.bool false),(.int 0)])) 0 r27) 0),(pc (.setc (.con (.agg [(.bool false),(.int 0)])) 0 r27) 1)]) 1)) pT)) pT (.an (.cb .eql (pc (pn r1 (pi 1)) 0) (pc (.mk [(pc (.setc (.con (.agg [(.bool false),(.int 0)])) 0 r27) 0),(pc (.setc (.con (.agg [(.bool false),(.int 0)])) 0 r27) 1)]) 0)) (.an (peq (pc (pn r1 (pi 1)) 1) (pc (.mk [(pc (.setc (.con (.agg [(.bool false),(.int 0)])) 0 r27) 0),(pc (.setc (.con (.agg [(.bool false),(.int 0)])) 0 r27) 1)]) 1)) pT)))
 (.ret (.mk [(pc (.setc o4 0 (.mk [(pc (.setc (.con (.agg [(.bool false),(.int 0)])) 0 r27) 0),(pc (.setc (.con (.agg [(.bool false),(.int 0)])) 0 r27) 1)])) 0),(pc (.setc o4 0 (.mk [(pc (.setc (.con (.agg [(.bool false),(.int 0)])) 0 r27) 0),(pc (.setc (.con (.agg [(.bool false),(.int 0)])) 0 r27) 1)])) 1)]))
 (.next ⟨[],[]⟩)))))
 (.ite (peq r8 (pi 6))
 (.chk (pix r1 (pi 1))
 (.chk (.nt (.an (.an (pc (pn r1 (pi 1)) 0) pT) (.nt (pix r1 (pi 1)))))
 (.chk (.nt (.an (.an (pc (pn r1 (pi 1)) 0) pT) (.nt (pix r1 (pi 2)))))
 (.ite (.pick (pc (pn r1 (pi 1)) 0) (.an (.cb .eql (pc (pn r1 (pi 1)) 0) (pc (pn r1 (pi 2)) 0)) (.an (peq (pc (pn r1 (pi 1)) 1) (pc (pn r1 (pi 2)) 1)) pT)) pF)
 (.ret (.mk [(pc (.setc o4 0 (pn r1 (pi 1))) 0),(pc (.setc o4 0 (pn r1 (pi 1))) 1)]))
 (.ret (.mk [(pc (.setc o4 0 (.mk [pF,(pi 0)])) 0),(pc (.setc o4 0 (.mk [pF,(pi 0)])) 1)]))))))
 (.next ⟨[],[]⟩))
 (.next ⟨[],[]⟩))
 (.next ⟨[],[]⟩))
 (.chk (pix r1 (pi 0))
 (.chk (.nt (.an (.an (.nt (.nt (pc (pn r1 (pi 0)) 0))) pT) (.nt (pix r1 (pi 1)))))
 (.ite (.pick (.nt (pc (pn r1 (pi 0)) 0)) pT (.nt (pc (pn r1 (pi 1)) 0)))
 (.ret (.mk [(pc (.setc o4 0 (.mk [pF,(pi 0)])) 0),(pc (.setc o4 0 (.mk [pF,(pi 0)])) 1)]))
 (.chk (pix r1 (pi 1))
 (.blockS ⟨[(81,r0),(7,(pc (pn r1 (pi 1)) 1)),(6,(pc (pn r1 (pi 0)) 1))],[]⟩ 1 [82,83,88,89,94,95] [4]
 (.iteS ⟨[],[]⟩ (.pick (peq r81 (pi 4)) (peq r81 (pi 4)) (peq r81 (pi 5))) [88,89,94,95] [4]
 (.call ⟨[],[]⟩ [] 87 248 [(peq r0 (pi 4))]
 (.ret (.mk [(pc (.setc o4 0 r87) 0),(pc (.setc o4 0 r87) 1)])))
 (.iteS ⟨[],[]⟩ (peq r81 (pi 7)) [94,95] [4]
 (.call ⟨[],[]⟩ [] 93 248 [(plt r6 r7)]
 (.ret (.mk [(pc (.setc o4 0 r93) 0),(pc (.setc o4 0 r93) 1)])))
 (.iteS ⟨[],[]⟩ (peq r81 (pi 8)) [] [4]
 (.call ⟨[],[]⟩ [] 99 248 [(peq r6 r7)]
 (.ret (.mk [(pc (.setc o4 0 r99) 0),(pc (.setc o4 0 r99) 1)])))
 (.next ⟨[],[]⟩)
 (.next ⟨[],[]⟩))
 (.next ⟨[],[]⟩))
 (.next ⟨[],[]⟩))
 (.call ⟨[],[]⟩ [] 103 250 [r0,r6,r7]
 (.ret (.mk [(pc (.setc o4 0 (.mk [pT,aa6])) 0),(pc (.setc o4 0 (.mk [pT,aa6])) 1)])))))))))
def Iu (b:Nat→PC):PT×List (Shp×PT):=(oD,[])
theorem wN:cf_term_combine.map told=some (Iu (aA cf_term_combine)):=by kernel_rfl
theorem Cm:tree j0=oD:=ah wN
theorem Bw:cf_term_combine=some j0:=af wN
noncomputable def cf_term_arithmetic:Option PC:=av {ctx with fr:=[6,8,14,20,25],nh:=[]} Tryz.f250 ((aa aq 250).getD default) []
noncomputable def eI:PC:=hpc cf_term_arithmetic
def kc:PT:=
 (.blockS ⟨[(7,r0)],[]⟩ 0 [6,8,9,14,15,20,21,25,26] []
 (.iteS ⟨[],[]⟩ (peq r7 (pi 9)) [6,14,15,20,21,25,26] []
 (.call ⟨[],[]⟩ [] 13 249 [(ao r1 r2)]
 (.ret r13))
 (.iteS ⟨[],[]⟩ (peq r7 (pi 10)) [6,20,21,25,26] []
 (.call ⟨[],[]⟩ [] 19 249 [(aB r1 r2)]
 (.ret r19))
 (.iteS ⟨[],[]⟩ (peq r7 (pi 11)) [6,25,26] []
 (.call ⟨[],[]⟩ [] 24 278 [r1,r2]
 (.ret r24))
 (.ite (peq r7 (pi 12))
 (.ret (.mn r1 r2))
 (.next ⟨[],[]⟩))
 (.next ⟨[],[]⟩))
 (.next ⟨[],[]⟩))
 (.next ⟨[],[]⟩))
 (.ret (.mx r1 r2)))
def Cv (b:Nat→PC):PT×List (Shp×PT):=(kc,[])
theorem rn:cf_term_arithmetic.map told=some (Cv (aA cf_term_arithmetic)):=by kernel_rfl
theorem wX:tree eI=kc:=ah rn
theorem xb:cf_term_arithmetic=some eI:=af rn
noncomputable def cf_term_product:Option PC:=av {ctx with fr:=[4,5,6,7],nh:=[]} Tryz.f278 ((aa aq 278).getD default) []
noncomputable def jK:PC:=hpc cf_term_product
def oN:PT:=
 (.call ⟨[],[]⟩ [] 19 285 [(.conv .u64 (.mx r0 (aB (pi 0) r0))),(.conv .u64 (.mx r1 (aB (pi 0) r1)))]
 (.ite (.cb .neq (plt r0 (pi 0)) (plt r1 (pi 0)))
 (.ret (aB (pi 0) (.pick (.pick (peq (.tget r19 0) (.con (.v (.int .u64 0)))) (plt (.tget r19 1) (.con (.v (.int .u64 1099511627776)))) pF) (.conv .i64 (.tget r19 1)) (pi 1099511627776))))
 (.ret (.pick (.pick (peq (.tget r19 0) (.con (.v (.int .u64 0)))) (plt (.tget r19 1) (.con (.v (.int .u64 1099511627776)))) pF) (.conv .i64 (.tget r19 1)) (pi 1099511627776)))))
def Jg (b:Nat→PC):PT×List (Shp×PT):=(oN,[])
theorem wJ:cf_term_product.map told=some (Jg (aA cf_term_product)):=by kernel_rfl
theorem B0:tree jK=oN:=ah wJ
theorem Cn:cf_term_product=some jK:=af wJ
noncomputable def cf_bits_Mul64:Option PC:=av {ctx with fr:=[4,5,6,7,8,9,10,11,12,13],nh:=[]} Tryz.f285 ((aa aq 285).getD default) []
noncomputable def m9:PC:=hpc cf_bits_Mul64
def tV:PT:=
 (.chk (pge (.con (.v (.int .u64 32))) (pi 0))
 (.ret (.tup [(.ai .add .u64 (.ai .add .u64 (.ai .mul .u64 (.ai .shr .u64 r0 (.con (.v (.int .u64 32)))) (.ai .shr .u64 r1 (.con (.v (.int .u64 32))))) (.ai .shr .u64 (.ai .add .u64 (.ai .mul .u64 (.ai .shr .u64 r0 (.con (.v (.int .u64 32)))) (.ai .and .u64 r1 (.con (.v (.int .u64 4294967295))))) (.ai .shr .u64 (.ai .mul .u64 (.ai .and .u64 r0 (.con (.v (.int .u64 4294967295)))) (.ai .and .u64 r1 (.con (.v (.int .u64 4294967295))))) (.con (.v (.int .u64 32))))) (.con (.v (.int .u64 32))))) (.ai .shr .u64 (.ai .add .u64 (.ai .and .u64 (.ai .add .u64 (.ai .mul .u64 (.ai .shr .u64 r0 (.con (.v (.int .u64 32)))) (.ai .and .u64 r1 (.con (.v (.int .u64 4294967295))))) (.ai .shr .u64 (.ai .mul .u64 (.ai .and .u64 r0 (.con (.v (.int .u64 4294967295)))) (.ai .and .u64 r1 (.con (.v (.int .u64 4294967295))))) (.con (.v (.int .u64 32))))) (.con (.v (.int .u64 4294967295)))) (.ai .mul .u64 (.ai .and .u64 r0 (.con (.v (.int .u64 4294967295)))) (.ai .shr .u64 r1 (.con (.v (.int .u64 32)))))) (.con (.v (.int .u64 32))))),(.ai .mul .u64 r0 r1)])))
def O9 (b:Nat→PC):PT×List (Shp×PT):=(tV,[])
theorem A5:cf_bits_Mul64.map told=some (O9 (aA cf_bits_Mul64)):=by kernel_rfl
theorem E9:tree m9=tV:=ah A5
theorem F7:cf_bits_Mul64=some m9:=af A5
noncomputable def cf_slices_Concat_int:Option PC:=av {ctx with fr:=[2,3,5,8],nh:=[]} Tryz.f225 ((aa aq 225).getD default) [6]
noncomputable def dG:PC:=hpc cf_slices_Concat_int
noncomputable def cj:Nat→PC:=hbd cf_slices_Concat_int
def vB (b:Nat→PC):PC:=.block 0 [3,11,12] [] (.loop [3,11] [] (b 0))
def vI (b:Nat→PC):PC:=.block 2 [6,27,28] [6] (.loop [6,27] [6] (b 1))
def cH (b:Nat→PC):PT:=
 (.ite (plt r11 r10)
 (.chk (pix r9 r11)
 (.ite (plt (ao r3 (.llen (pn r9 r11))) (pi 0))
 (.chk (.nt pT)
 (.chk (.nt pT)
 (.next ⟨[(3,(ao r3 (.llen (pn r9 r11)))),(11,(ao r11 (pi 1)))],[]⟩)))
 (.next ⟨[(3,(ao r3 (.llen (pn r9 r11)))),(11,(ao r11 (pi 1)))],[]⟩)))
 (.exit 0 ⟨[(12,(plt r11 r10))],[]⟩))
def cK (b:Nat→PC):PT:=
 (.ite (plt r27 r26)
 (.chk (pix r25 r27)
 (.chk (ple (.llen (.app o6 (pn r25 r27))) (pi 4294967296))
 (.next ⟨[(6,pN),(27,(ao r27 (pi 1)))],[(6,(.app o6 (pn r25 r27)))]⟩)))
 (.exit 2 ⟨[(28,(plt r27 r26))],[]⟩))
def gp (b:Nat→PC):PT:=
 (.brk ⟨[(11,(pi 0)),(10,(.llen r0)),(9,r0),(3,(pi 0))],[]⟩
(vB b)
 (.call ⟨[],[]⟩ [] 24 251 [pL,r3]
 (.brk ⟨[(27,(pi 0)),(26,(.llen r0)),(25,r0),(6,pN)],[(6,r24)]⟩
(vI b)
 (.ret o6))))
def yy (b:Nat→PC):PT×List (Shp×PT):=(gp b,[(.lp 0 [3,11,12] [] [3,11] [],cH b),(.lp 2 [6,27,28] [6] [6,27] [6],cK b)])
theorem dD:cf_slices_Concat_int.map told=some (yy (aA cf_slices_Concat_int)):=by kernel_rfl
theorem uH:tree dG=gp cj:=ah dD
theorem iv:round 0 [3,11,12] [] [3,11] [] (cj 0)=cH cj:=ax dD 0 fun _=>rfl
theorem iw:round 2 [6,27,28] [6] [6,27] [6] (cj 1)=cK cj:=ax dD 1 fun _=>rfl
theorem uO:cf_slices_Concat_int=some dG:=af dD
noncomputable def cf_ask_Tri:Option PC:=av {ctx with fr:=[2,3,7,12],nh:=[]} Tryz.f41 ((aa aq 41).getD default) [1]
noncomputable def vG:PC:=hpc cf_ask_Tri
def B6:PT:=
 (.ite (pne (pc (.mk [r0]) 4) (pi 0))
 (.ret (pi 0))
 (.ite (.nt (pc (.mk [r0]) 0))
 (.ret (pi 2))
 (.ite (pne (pc (.mk [r0]) 1) (pi 0))
 (.ret (pi 1))
 (.ret (pi 0)))))
def Up (b:Nat→PC):PT×List (Shp×PT):=(B6,[])
theorem K6:cf_ask_Tri.map told=some (Up (aA cf_ask_Tri)):=by kernel_rfl
theorem OI:tree vG=B6:=ah K6
theorem OT:cf_ask_Tri=some vG:=af K6
noncomputable def cf_ask_Maturity:Option PC:=av {ctx with fr:=[8,9,10,11],nh:=[]} Tryz.f50 ((aa aq 50).getD default) [4,6]
noncomputable def jA:PC:=hpc cf_ask_Maturity
def px:PT:=
 (.call ⟨[],[(6,(.mk [r2])),(4,(.mk [r0]))]⟩ [] 14 26 [(mkA 19 (.mk [r2])),r3]
 (.ite (peq (.llen (pc (.setc o6 0 r14) 15)) (pi 0))
 (.ret (pi (-1)))
 (.call ⟨[],[(6,(.setc o6 0 r14))]⟩ [] 23 38 [(mkA 8 o4),r1,(pi 6),(mkA 19 (.setc o6 0 r14)),r3]
 (.call ⟨[],[]⟩ [] 24 43 [r23]
 (.call ⟨[(29,(mkA 15 o6)),(27,(mkA 8 o4)),(9,(.mx r24 (pi 0)))],[]⟩ [] 31 106 [(mkA 19 o6)]
 (.call ⟨[],[]⟩ [] 33 105 [r27,r29,r31,r9]
 (.ite (pne (.tget r33 1) (pi 0))
 (.ret (pi (-1)))
 (.ret (.tget r33 0)))))))))
def Jx (b:Nat→PC):PT×List (Shp×PT):=(px,[])
theorem wQ:cf_ask_Maturity.map told=some (Jx (aA cf_ask_Maturity)):=by kernel_rfl
theorem Bp:tree jA=px:=ah wQ
theorem CG:cf_ask_Maturity=some jA:=af wQ
noncomputable def cf_ask_Number:Option PC:=av {ctx with fr:=[2],nh:=[]} Tryz.f43 ((aa aq 43).getD default) [1]
noncomputable def nj:PC:=hpc cf_ask_Number
def tY:PT:=
 (.ite (.pick (pne (pc (.mk [r0]) 4) (pi 0)) pT (.nt (pc (.mk [r0]) 0)))
 (.ret (pi (-1)))
 (.ret (pc (.mk [r0]) 1)))
def OL (b:Nat→PC):PT×List (Shp×PT):=(tY,[])
theorem A1:cf_ask_Number.map told=some (OL (aA cf_ask_Number)):=by kernel_rfl
theorem F1:tree nj=tY:=ah A1
theorem Hi:cf_ask_Number=some nj:=af A1
noncomputable def cf_record_Seen:Option PC:=av {ctx with fr:=[2,4],nh:=[]} Tryz.f106 ((aa aq 106).getD default) [1,3,6,8]
noncomputable def kM:PC:=hpc cf_record_Seen
noncomputable def gn:Nat→PC:=hbd cf_record_Seen
def FV (b:Nat→PC):PC:=.block 0 [3,16,17] [3] (.loop [3,16] [3] (b 0))
def G7 (b:Nat→PC):PC:=.block 2 [2,3,36,37] [3] (.loop [2,3,36] [3] (b 1))
def eB (b:Nat→PC):PT:=
 (.ite (plt r16 r15)
 (.chk (pix r14 r16)
 (.ite (.pick (peq r4 (pi 1)) (peq (pc (.setc z9 0 (pn r14 r16)) 0) (pi 1)) pF)
 (.chk (ple (.llen (.app o3 (.lst [(pc (.setc z9 0 (pn r14 r16)) 6)]))) (pi 4294967296))
 (.next ⟨[(3,pN),(16,(ao r16 (pi 1)))],[(3,(.app o3 (.lst [(pc (.setc z9 0 (pn r14 r16)) 6)])))]⟩))
 (.next ⟨[(16,(ao r16 (pi 1)))],[]⟩)))
 (.exit 0 ⟨[(17,(plt r16 r15))],[]⟩))
def bP (b:Nat→PC):PT:=
 (.ite (plt r36 r35)
 (.chk (pix r34 r36)
 (.ite (.pick (peq r4 (pi 0)) (peq (pc (.setc z9 0 (pn r34 r36)) 0) (pi 2)) pF)
 (.ret (pc (.setc z9 0 (pn r34 r36)) 6))
 (.ite (.pick (peq r4 (pi 1)) (peq (pc (.setc z9 0 (pn r34 r36)) 0) (pi 1)) pF)
 (.chk (ple (.llen (.app o3 (.lst [(pc (.setc z9 0 (pn r34 r36)) 6)]))) (pi 4294967296))
 (.next ⟨[(3,pN),(36,(ao r36 (pi 1)))],[(3,(.app o3 (.lst [(pc (.setc z9 0 (pn r34 r36)) 6)])))]⟩))
 (.next ⟨[(36,(ao r36 (pi 1)))],[]⟩))))
 (.exit 2 ⟨[(37,(plt r36 r35))],[]⟩))
def qB (b:Nat→PC):PT:=
 (.brk ⟨[(16,(pi 0)),(15,(.llen (pc (.mk [r0]) 15))),(14,(pc (.mk [r0]) 15)),(4,(pc (.mk [r0]) 5)),(3,pN),(2,(pi 0))],[(3,pL),(1,(.mk [r0]))]⟩
(FV b)
 (.brk ⟨[(36,(pi 0)),(35,(.llen (pc o1 17))),(34,(pc o1 17))],[]⟩
(G7 b)
 (.ite (peq (.llen o3) (pi 0))
 (.ret (pi (-1)))
 (.call ⟨[],[]⟩ [] 66 178 [o3]
 (.ret r66)))))
def KS (b:Nat→PC):PT×List (Shp×PT):=(qB b,[(.lp 0 [3,16,17] [3] [3,16] [3],eB b),(.lp 2 [2,3,36,37] [3] [2,3,36] [3],bP b)])
theorem lK:cf_record_Seen.map told=some (KS (aA cf_record_Seen)):=by kernel_rfl
theorem Ex:tree kM=qB gn:=ah lK
theorem iJ:round 0 [3,16,17] [3] [3,16] [3] (gn 0)=eB gn:=ax lK 0 fun _=>rfl
theorem cE:round 2 [2,3,36,37] [3] [2,3,36] [3] (gn 1)=bP gn:=ax lK 1 fun _=>rfl
theorem EO:cf_record_Seen=some kM:=af lK
noncomputable def cf_slices_Min_int:Option PC:=av {ctx with fr:=[2,3,4],nh:=[]} Tryz.f178 ((aa aq 178).getD default) []
noncomputable def gd:PC:=hpc cf_slices_Min_int
noncomputable def kY:Nat→PC:=hbd cf_slices_Min_int
def pM (b:Nat→PC):PC:=.block 0 [3,4,12,13,14,15] [] (.loop [3,4] [] (b 0))
def dU (b:Nat→PC):PT:=
 (.ite (plt r4 (.llen r0))
 (.chk (pix r0 r4)
 (.next ⟨[(3,(.mn r3 (pn r0 r4))),(4,(ao r4 (pi 1)))],[]⟩))
 (.exit 0 ⟨[(12,r4),(13,r0),(14,(.llen r0)),(15,(plt r4 (.llen r0)))],[]⟩))
def lq (b:Nat→PC):PT:=
 (.ite (plt (.llen r0) (pi 1))
 (.chk (.nt pT)
 (.chk (.nt pT)
 (.chk (pix r0 (pi 0))
 (.brk ⟨[(4,(pi 1)),(3,(pn r0 (pi 0)))],[]⟩
(pM b)
 (.ret r3)))))
 (.chk (pix r0 (pi 0))
 (.brk ⟨[(4,(pi 1)),(3,(pn r0 (pi 0)))],[]⟩
(pM b)
 (.ret r3))))
def D5 (b:Nat→PC):PT×List (Shp×PT):=(lq b,[(.lp 0 [3,4,12,13,14,15] [] [3,4] [],dU b)])
theorem ld:cf_slices_Min_int.map told=some (D5 (aA cf_slices_Min_int)):=by kernel_rfl
theorem yP:tree gd=lq kY:=ah ld
theorem lT:round 0 [3,4,12,13,14,15] [] [3,4] [] (kY 0)=dU kY:=ax ld 0 fun _=>rfl
theorem xG:cf_slices_Min_int=some gd:=af ld
noncomputable def cf_tenor_Due:Option PC:=av {ctx with fr:=[8,9,15,39,58,74,11,12],nh:=[]} Tryz.f105 ((aa aq 105).getD default) [4,5,10]
noncomputable def pU:PC:=hpc cf_tenor_Due
def ql:PT:=
 (.blockS ⟨[],[(10,(.setc z3 0 (.mk [(pc (.mk [r1]) 5),(pc (.mk [r1]) 6),(pc (.mk [r1]) 7)]))),(5,(.mk [r1])),(4,(.mk [r0]))]⟩ 0 [8,9,15,16,17,18,19,25,26,32,33,38,39,40,41,42,43,47,48,52,53,57,58,59,60,61,65,66,69,70,73,74,75,76,77,80] []
 (.call ⟨[],[]⟩ [] 17 75 [(mkA 8 o4)]
 (.call ⟨[(19,(pne r17 (pi 0)))],[]⟩ [(19,false)] 23 173 [(mkA 8 o4),(pc o5 9)]
 (.call ⟨[(26,(.pick r19 pT (.nt r23)))],[]⟩ [(26,false)] 30 173 [(mkA 8 o4),(pc o5 10)]
 (.call ⟨[(33,(.pick r26 pT (.nt r30)))],[]⟩ [(33,false)] 36 174 [(pc o5 8)]
 (.iteS ⟨[],[]⟩ (.pick r33 pT (.nt r36)) [8,9,39,40,41,42,43,47,48,52,53,57,58,59,60,61,65,66,69,70,73,74,75,76,77,80] []
 (.ret (.tup [(pi 0),(pi 1)]))
 (.iteS ⟨[],[]⟩ (.pick (.pick (.pick (plt (pc o10 0) (pi 0)) pT (pge (pc o10 0) (pi 5))) pT (plt (pc o10 2) (pi 0))) pT (pge (pc o10 2) (pi 2))) [8,9,58,59,60,61,65,66,69,70,73,74,75,76,77,80] []
 (.ret (.tup [(pi 0),(pi 1)]))
 (.call ⟨[(61,(pne r2 (pi (-1))))],[]⟩ [(61,true)] 63 174 [r2]
 (.iteS ⟨[],[]⟩ (.pick (.pick (.pick r61 (.nt r63) pF) pT (plt r3 (pi 0))) pT (pgt r3 (pi 20000))) [8,9,74,75,76,77,80] []
 (.ret (.tup [(pi 0),(pi 1)]))
 (.call ⟨[],[]⟩ [] 76 175 [(.mk [(pc o10 0),(pc o10 1),(pc o10 2)])]
 (.ite (.pick r76 (peq r2 (pi (-1))) pF)
 (.ret (.tup [(pi 0),(pi 4)]))
 (.next ⟨[],[]⟩)))
 (.next ⟨[],[]⟩)))
 (.next ⟨[],[]⟩))
 (.next ⟨[],[]⟩))))))
 (.call ⟨[],[]⟩ [] 85 176 [(mkA 8 o4),(mkA 15 o5),r2]
 (.ite (pne (.tget r85 1) (pi 0))
 (.ret (.tup [(pi 0),(.tget r85 1)]))
 (.call ⟨[(11,(.tget r85 0))],[]⟩ [] 92 174 [(.tget r85 0)]
 (.ite (.pick (.nt r92) pT (pgt (ao r11 r3) (pi 100000)))
 (.ret (.tup [(pi 0),(pi 3)]))
 (.call ⟨[],[]⟩ [] 106 177 [(mkA 8 o4),(pc o5 10),(ao r11 r3)]
 (.ret (.tup [(.tget aaZ 0),(.tget aaZ 1)]))))))))
def Rl (b:Nat→PC):PT×List (Shp×PT):=(ql,[])
theorem C3:cf_tenor_Due.map told=some (Rl (aA cf_tenor_Due)):=by kernel_rfl
theorem vZ:tree pU=ql:=ah C3
theorem IA:cf_tenor_Due=some pU:=af C3
noncomputable def cf_realm_Check:Option PC:=av {ctx with fr:=[2,3,4,5,6,7,10,11,12],nh:=[]} Tryz.f75 ((aa aq 75).getD default) [1,9]
noncomputable def kO:PC:=hpc cf_realm_Check
noncomputable def qQ:Nat→PC:=hbd cf_realm_Check
def FB (b:Nat→PC):PC:=.block 0 [2,38,39] [] (.loop [2,38] [] (b 0))
def eD (b:Nat→PC):PT:=
 (.ite (plt r38 r37)
 (.blockS ⟨[],[]⟩ 1 [2,9,40,41,42,43,44,45] [9]
 (.chk (pix r36 r38)
 (.call ⟨[],[]⟩ [] 44 113 [(pc (.setc (.con (.agg [(.int 0)])) 0 (pn r36 r38)) 0),(pi 10)]
 (.ite (.nt r44)
 (.ret (pi 1))
 (.next ⟨[],[]⟩))))
 (.next ⟨[(38,(ao r38 (pi 1)))],[]⟩))
 (.exit 0 ⟨[(39,(plt r38 r37))],[]⟩))
def rl (b:Nat→PC):PT:=
 (.call ⟨[(2,(pi 0))],[(1,(.mk [r0]))]⟩ [] 15 145 [(mkA 8 (.mk [r0]))]
 (.call ⟨[(5,(.tget r15 2)),(4,(.tget r15 1)),(3,(.tget r15 0))],[]⟩ [] 21 146 [(pc o1 0),(pi 8),(.con (.clo 147 []))]
 (.ite (pne r21 (pi 0))
 (.ret r21)
 (.call ⟨[],[(1,(mkA 8 o1))]⟩ [] 27 146 [r3,(pi 40),(.clo 148 [(.ref (mkA 8 o1))])]
 (.ite (pne r27 (pi 0))
 (.ret r27)
 (.ite (pgt (.llen (pc o1 2)) (pi 20))
 (.ret (pi 6))
 (.brk ⟨[(38,(pi 0)),(37,(.llen (pc o1 2))),(36,(pc o1 2))],[]⟩
(FB b)
 (.call ⟨[],[]⟩ [] 49 146 [r4,(pi 200),(.clo 150 [(.ref o1)])]
 (.ite (pne r49 (pi 0))
 (.ret r49)
 (.call ⟨[],[]⟩ [] 55 146 [r5,(pi 20),(.clo 151 [(.ref o1)])]
 (.ite (pne r55 (pi 0))
 (.ret r55)
 (.call ⟨[],[]⟩ [] 60 153 [(.sub o1 0 8)]
 (.ite (pne r60 (pi 0))
 (.ret r60)
 (.call ⟨[],[]⟩ [] 65 154 [(.sub o1 0 8)]
 (.ret r65)))))))))))))))
def Mz (b:Nat→PC):PT×List (Shp×PT):=(rl b,[(.lp 0 [2,38,39] [] [2,38] [],eD b)])
theorem ru:cf_realm_Check.map told=some (Mz (aA cf_realm_Check)):=by kernel_rfl
theorem CR:tree kO=rl qQ:=ah ru
theorem iO:round 0 [2,38,39] [] [2,38] [] (qQ 0)=eD qQ:=ax ru 0 fun _=>rfl
theorem CN:cf_realm_Check=some kO:=af ru
noncomputable def cf_realm_names:Option PC:=av {ctx with fr:=[],nh:=[]} Tryz.f145 ((aa aq 145).getD default) [1,2,3,4,6,16390,20486,24582,21,8,34,10,12298,16394,47]
noncomputable def lG:PC:=hpc cf_realm_names
noncomputable def cZ:Nat→PC:=hbd cf_realm_names
def FP (b:Nat→PC):PC:=.block 0 [2,14,15] [2] (.loop [2,14] [2] (b 0))
def FA (b:Nat→PC):PC:=.block 2 [3,27,28] [3] (.loop [3,27] [3] (b 1))
def Fw (b:Nat→PC):PC:=.block 4 [4,40,41] [4] (.loop [4,40] [4] (b 2))
def gX (b:Nat→PC):PT:=
 (.ite (plt r14 r13)
 (.chk (pix r12 r14)
 (.chk (ple (.llen (.app o2 (.lst [(pc (.setc (.con (.agg [(.v (.string ⟨#[]⟩)),(.int 0),(.int 0),(.list []),(.list []),(.list [])])) 0 (pn r12 r14)) 0)]))) (pi 4294967296))
 (.next ⟨[(2,pN),(14,(ao r14 (pi 1)))],[(2,(.app o2 (.lst [(pc (.setc (.con (.agg [(.v (.string ⟨#[]⟩)),(.int 0),(.int 0),(.list []),(.list []),(.list [])])) 0 (pn r12 r14)) 0)])))]⟩)))
 (.exit 0 ⟨[(15,(plt r14 r13))],[]⟩))
def gW (b:Nat→PC):PT:=
 (.ite (plt r27 r26)
 (.chk (pix r25 r27)
 (.chk (ple (.llen (.app o3 (.lst [(pc (.setc (.con (.agg [(.v (.string ⟨#[]⟩)),(.int 0),(.int 0)])) 0 (pn r25 r27)) 0)]))) (pi 4294967296))
 (.next ⟨[(3,pN),(27,(ao r27 (pi 1)))],[(3,(.app o3 (.lst [(pc (.setc (.con (.agg [(.v (.string ⟨#[]⟩)),(.int 0),(.int 0)])) 0 (pn r25 r27)) 0)])))]⟩)))
 (.exit 2 ⟨[(28,(plt r27 r26))],[]⟩))
def gU (b:Nat→PC):PT:=
 (.ite (plt r40 r39)
 (.chk (pix r38 r40)
 (.chk (ple (.llen (.app o4 (.lst [(pc (.setc (.con (.agg [(.v (.string ⟨#[]⟩)),(.bool false),(.list []),(.list [])])) 0 (pn r38 r40)) 0)]))) (pi 4294967296))
 (.next ⟨[(4,pN),(40,(ao r40 (pi 1)))],[(4,(.app o4 (.lst [(pc (.setc (.con (.agg [(.v (.string ⟨#[]⟩)),(.bool false),(.list []),(.list [])])) 0 (pn r38 r40)) 0)])))]⟩)))
 (.exit 4 ⟨[(41,(plt r40 r39))],[]⟩))
def qy (b:Nat→PC):PT:=
 (.brk ⟨[(14,(pi 0)),(13,(.llen (pc (.mk [r0]) 1))),(12,(pc (.mk [r0]) 1)),(4,pN),(3,pN),(2,pN)],[(4,pL),(3,pL),(2,pL),(1,(.mk [r0]))]⟩
(FP b)
 (.brk ⟨[(27,(pi 0)),(26,(.llen (pc o1 3))),(25,(pc o1 3))],[]⟩
(FA b)
 (.brk ⟨[(40,(pi 0)),(39,(.llen (pc o1 4))),(38,(pc o1 4))],[]⟩
(Fw b)
 (.ret (.tup [o2,o3,o4])))))
def Nw (b:Nat→PC):PT×List (Shp×PT):=(qy b,[(.lp 0 [2,14,15] [2] [2,14] [2],gX b),(.lp 2 [3,27,28] [3] [3,27] [3],gW b),(.lp 4 [4,40,41] [4] [4,40] [4],gU b)])
theorem gk:cf_realm_names.map told=some (Nw (aA cf_realm_names)):=by kernel_rfl
theorem Eg:tree lG=qy cZ:=ah gk
theorem pG:round 0 [2,14,15] [2] [2,14] [2] (cZ 0)=gX cZ:=ax gk 0 fun _=>rfl
theorem pO:round 2 [3,27,28] [3] [3,27] [3] (cZ 1)=gW cZ:=ax gk 1 fun _=>rfl
theorem pK:round 4 [4,40,41] [4] [4,40] [4] (cZ 2)=gU cZ:=ax gk 2 fun _=>rfl
theorem Dz:cf_realm_names=some lG:=af gk
noncomputable def cf_realm_fits:Option PC:=av {ctx with fr:=[6,7,8],nh:=[]} Tryz.f146 ((aa aq 146).getD default) []
noncomputable def m5:PC:=hpc cf_realm_fits
noncomputable def tP:Nat→PC:=hbd cf_realm_fits
def Jo (b:Nat→PC):PC:=.block 0 [6,15,16] [] (.loop [6,15] [] (b 0))
def fD (b:Nat→PC):PT:=
 (.ite (plt r15 r14)
 (.blockS ⟨[],[]⟩ 1 [6,7,8,17,18,19,20,21,22,24,25,26,27] []
 (.call ⟨[(7,r15)],[]⟩ [] 20 200 [r0,r15]
 (.ite (pne r20 (pi 0))
 (.ret r20)
 (.callc ⟨[],[]⟩ [] 26 r2 [r7]
 (.ite (.nt r26)
 (.ret (pi 1))
 (.next ⟨[],[]⟩)))))
 (.next ⟨[(15,(ao r15 (pi 1)))],[]⟩))
 (.exit 0 ⟨[(16,(plt r15 r14))],[]⟩))
def tK (b:Nat→PC):PT:=
 (.ite (pgt (.llen r0) r1)
 (.ret (pi 6))
 (.brk ⟨[(15,(pi 0)),(14,(.llen r0)),(6,(pi 0))],[]⟩
(Jo b)
 (.ret (pi 0))))
def Oc (b:Nat→PC):PT×List (Shp×PT):=(tK b,[(.lp 0 [6,15,16] [] [6,15] [],fD b)])
theorem tL:cf_realm_fits.map told=some (Oc (aA cf_realm_fits)):=by kernel_rfl
theorem Hh:tree m5=tK tP:=ah tL
theorem j2:round 0 [6,15,16] [] [6,15] [] (tP 0)=fD tP:=ax tL 0 fun _=>rfl
theorem Gx:cf_realm_fits=some m5:=af tL
noncomputable def cf_realm_named:Option PC:=av {ctx with fr:=[4],nh:=[]} Tryz.f200 ((aa aq 200).getD default) []
noncomputable def kQ:PC:=hpc cf_realm_named
def rE:PT:=
 (.chk (pix r0 r1)
 (.call ⟨[],[]⟩ [] 9 230 [(pn r0 r1)]
 (.ite (.nt r9)
 (.ret (pi 2))
 (.chk (.slok r0 (pi 0) r1)
 (.chk (pix r0 r1)
 (.call ⟨[],[]⟩ [] 18 231 [(.slc r0 (pi 0) r1),(pn r0 r1)]
 (.ite r18
 (.ret (pi 5))
 (.ret (pi 0)))))))))
def Lw (b:Nat→PC):PT×List (Shp×PT):=(rE,[])
theorem y5:cf_realm_named.map told=some (Lw (aA cf_realm_named)):=by kernel_rfl
theorem DK:tree kQ=rE:=ah y5
theorem Eo:cf_realm_named=some kQ:=af y5
noncomputable def cf_realm_isName:Option PC:=av {ctx with fr:=[2,3,4,5],nh:=[]} Tryz.f230 ((aa aq 230).getD default) []
noncomputable def jP:PC:=hpc cf_realm_isName
noncomputable def nZ:Nat→PC:=hbd cf_realm_isName
def ET (b:Nat→PC):PC:=.block 0 [2,16,17] [] (.loop [2,16] [] (b 0))
def dA (b:Nat→PC):PT:=
 (.ite (plt r16 r15)
 (.chk (pix r14 r16)
 (.ite (.pick (.nt (.pick (.pick (pge (pn r14 r16) (.con (.v (.int .u8 97)))) (ple (pn r14 r16) (.con (.v (.int .u8 122)))) pF) pT (.pick (pge (pn r14 r16) (.con (.v (.int .u8 65)))) (ple (pn r14 r16) (.con (.v (.int .u8 90)))) pF))) (.pick (peq r16 (pi 0)) pT (.pick (pne (pn r14 r16) (.con (.v (.int .u8 95)))) (.pick (plt (pn r14 r16) (.con (.v (.int .u8 48)))) pT (pgt (pn r14 r16) (.con (.v (.int .u8 57))))) pF)) pF)
 (.ret pF)
 (.next ⟨[(16,(ao r16 (pi 1)))],[]⟩)))
 (.exit 0 ⟨[(17,(plt r16 r15))],[]⟩))
def nW (b:Nat→PC):PT:=
 (.ite (.pick (.cs .eql r0 (.con (.v (.string ⟨#[]⟩)))) pT (pgt (.slen r0) (pi 20)))
 (.ret pF)
 (.chk (ple (.slen r0) (pi 4294967296))
 (.brk ⟨[(16,(pi 0)),(15,(.llen (.bytes r0))),(14,(.bytes r0)),(2,pF)],[]⟩
(ET b)
 (.ret pT))))
def JZ (b:Nat→PC):PT×List (Shp×PT):=(nW b,[(.lp 0 [2,16,17] [] [2,16] [],dA b)])
theorem nV:cf_realm_isName.map told=some (JZ (aA cf_realm_isName)):=by kernel_rfl
theorem Bg:tree jP=nW nZ:=ah nV
theorem gr:round 0 [2,16,17] [] [2,16] [] (nZ 0)=dA nZ:=ax nV 0 fun _=>rfl
theorem Cq:cf_realm_isName=some jP:=af nV
noncomputable def cf_slices_Contains_string:Option PC:=av {ctx with fr:=[4],nh:=[]} Tryz.f231 ((aa aq 231).getD default) []
noncomputable def bJ:PC:=hpc cf_slices_Contains_string
def dv:PT:=
 (.call ⟨[],[]⟩ [] 7 253 [r0,r1]
 (.ret (pge r7 (pi 0))))
def rO (b:Nat→PC):PT×List (Shp×PT):=(dv,[])
theorem iy:cf_slices_Contains_string.map told=some (rO (aA cf_slices_Contains_string)):=by kernel_rfl
theorem oF:tree bJ=dv:=ah iy
theorem pw:cf_slices_Contains_string=some bJ:=af iy
noncomputable def cf_slices_Index_string:Option PC:=av {ctx with fr:=[4,5],nh:=[]} Tryz.f253 ((aa aq 253).getD default) []
noncomputable def cI:PC:=hpc cf_slices_Index_string
noncomputable def fh:Nat→PC:=hbd cf_slices_Index_string
def sZ (b:Nat→PC):PC:=.block 0 [4,8,9] [] (.loop [4,8] [] (b 0))
def bl (b:Nat→PC):PT:=
 (.ite (plt r8 r7)
 (.chk (pix r0 r8)
 (.ite (.cs .eql r1 (pn r0 r8))
 (.ret r8)
 (.next ⟨[(8,(ao r8 (pi 1)))],[]⟩)))
 (.exit 0 ⟨[(9,(plt r8 r7))],[]⟩))
def fe (b:Nat→PC):PT:=
 (.brk ⟨[(8,(pi 0)),(7,(.llen r0)),(4,(pi 0))],[]⟩
(sZ b)
 (.ret (pi (-1))))
def vS (b:Nat→PC):PT×List (Shp×PT):=(fe b,[(.lp 0 [4,8,9] [] [4,8] [],bl b)])
theorem eJ:cf_slices_Index_string.map told=some (vS (aA cf_slices_Index_string)):=by kernel_rfl
theorem rT:tree cI=fe fh:=ah eJ
theorem cF:round 0 [4,8,9] [] [4,8] [] (fh 0)=bl fh:=ax eJ 0 fun _=>rfl
theorem rN:cf_slices_Index_string=some cI:=af eJ
noncomputable def cf_realm_Check_1:Option PC:=av {ctx with fr:=[2],nh:=[]} Tryz.f147 ((aa aq 147).getD default) []
noncomputable def hZ:PC:=hpc cf_realm_Check_1
def mM:PT:=
 (.ret pT)
def GL (b:Nat→PC):PT×List (Shp×PT):=(mM,[])
theorem uA:cf_realm_Check_1.map told=some (GL (aA cf_realm_Check_1)):=by kernel_rfl
theorem zI:tree hZ=mM:=ah uA
theorem Ak:cf_realm_Check_1=some hZ:=af uA
noncomputable def cf_realm_Check_2:Option PC:=av {ctx with fr:=[3],nh:=[]} Tryz.f148 ((aa aq 148).getD default) []
noncomputable def iu:PC:=hpc cf_realm_Check_2
def mz:PT:=
 (.chk (pix (pc (.deref r1) 1) r0)
 (.call ⟨[],[]⟩ [] 10 149 [(.deref r1),(pn (pc (.deref r1) 1) r0)]
 (.ret r10)))
def Ff (b:Nat→PC):PT×List (Shp×PT):=(mz,[])
theorem uh:cf_realm_Check_2.map told=some (Ff (aA cf_realm_Check_2)):=by kernel_rfl
theorem As:tree iu=mz:=ah uh
theorem z7:cf_realm_Check_2=some iu:=af uh
noncomputable def cf_realm_city:Option PC:=av {ctx with fr:=[4,6],nh:=[]} Tryz.f149 ((aa aq 149).getD default) [2,3]
noncomputable def nf:PC:=hpc cf_realm_city
noncomputable def tC:Nat→PC:=hbd cf_realm_city
def Jk (b:Nat→PC):PC:=.block 0 [4,10,11] [] (.loop [4,10] [] (b 0))
def fy (b:Nat→PC):PT:=
 (.ite (plt r10 r9)
 (.chk (pix r8 r10)
 (.chk (pne (pi 100) (pi 0))
 (.chk (.nt (.an (.an (.nt (plt (.ai .rem .i64 (pn r8 r10) (pi 100)) (pi 1))) pT) (.nt (pne (pi 100) (pi 0)))))
 (.ite (.pick (plt (.ai .rem .i64 (pn r8 r10) (pi 100)) (pi 1)) pT (pgt (.ai .rem .i64 (pn r8 r10) (pi 100)) (pi 31)))
 (.ret pF)
 (.next ⟨[(10,(ao r10 (pi 1)))],[]⟩)))))
 (.exit 0 ⟨[(11,(plt r10 r9))],[]⟩))
def td (b:Nat→PC):PT:=
 (.brk ⟨[(10,(pi 0)),(9,(.llen (pc (.mk [r1]) 4))),(8,(pc (.mk [r1]) 4)),(4,pF)],[(3,(.mk [r1])),(2,(.mk [r0]))]⟩
(Jk b)
 (.call ⟨[(33,(.pick (pgt (.llen (pc o3 4)) (pi 60)) pT (pgt (.llen (pc o3 5)) (pi 200))))],[]⟩ [(33,false)] 39 113 [(pc o3 1),(.llen (pc o2 4))]
 (.call ⟨[(42,(.pick r33 pT (.nt r39)))],[]⟩ [(42,false)] 48 113 [(pc o3 2),(.llen (pc o2 0))]
 (.ite (.pick r42 pT (.nt r48))
 (.ret pF)
 (.call ⟨[],[]⟩ [] 53 201 [(pc o3 3),(pi 0),(pi 6)]
 (.call ⟨[(54,r53)],[]⟩ [(54,true)] 57 201 [(pc o3 4),(pi 101),(pi 1231)]
 (.call ⟨[(59,(.pick r54 r57 pF))],[]⟩ [(59,true)] 62 201 [(pc o3 5),(pi 0),(pi 100000)]
 (.ret (.pick r59 r62 pF)))))))))
def Pf (b:Nat→PC):PT×List (Shp×PT):=(td b,[(.lp 0 [4,10,11] [] [4,10] [],fy b)])
theorem sX:cf_realm_city.map told=some (Pf (aA cf_realm_city)):=by kernel_rfl
theorem GW:tree nf=td tC:=ah sX
theorem kj:round 0 [4,10,11] [] [4,10] [] (tC 0)=fy tC:=ax sX 0 fun _=>rfl
theorem FN:cf_realm_city=some nf:=af sX
noncomputable def cf_realm_rising:Option PC:=av {ctx with fr:=[6,7,8],nh:=[]} Tryz.f201 ((aa aq 201).getD default) []
noncomputable def jD:PC:=hpc cf_realm_rising
noncomputable def oZ:Nat→PC:=hbd cf_realm_rising
def C7 (b:Nat→PC):PC:=.block 0 [6,11,12] [] (.loop [6,11] [] (b 0))
def bf (b:Nat→PC):PT:=
 (.ite (plt r11 r10)
 (.chk (pix r9 r11)
 (.chk (.nt (.an (.an (pgt r11 (pi 0)) (.an (.nt (.pick (plt (pn r9 r11) r1) pT (pgt (pn r9 r11) r2))) pT)) (.nt (pix r0 (aB r11 (pi 1))))))
 (.ite (.pick (.pick (plt (pn r9 r11) r1) pT (pgt (pn r9 r11) r2)) pT (.pick (pgt r11 (pi 0)) (ple (pn r9 r11) (pn r0 (aB r11 (pi 1)))) pF))
 (.ret pF)
 (.next ⟨[(11,(ao r11 (pi 1)))],[]⟩))))
 (.exit 0 ⟨[(12,(plt r11 r10))],[]⟩))
def oL (b:Nat→PC):PT:=
 (.brk ⟨[(11,(pi 0)),(10,(.llen r0)),(9,r0),(6,pF)],[]⟩
(C7 b)
 (.ret pT))
def It (b:Nat→PC):PT×List (Shp×PT):=(oL b,[(.lp 0 [6,11,12] [] [6,11] [],bf b)])
theorem oC:cf_realm_rising.map told=some (It (aA cf_realm_rising)):=by kernel_rfl
theorem BI:tree jD=oL oZ:=ah oC
theorem bt:round 0 [6,11,12] [] [6,11] [] (oZ 0)=bf oZ:=ax oC 0 fun _=>rfl
theorem Cy:cf_realm_rising=some jD:=af oC
noncomputable def cf_realm_Check_3:Option PC:=av {ctx with fr:=[3],nh:=[]} Tryz.f150 ((aa aq 150).getD default) []
noncomputable def il:PC:=hpc cf_realm_Check_3
def mB:PT:=
 (.chk (pix (pc (.deref r1) 3) r0)
 (.call ⟨[],[]⟩ [] 13 113 [(pc (pn (pc (.deref r1) 3) r0) 1),(.llen (pc (.deref r1) 1))]
 (.chk (.nt (.an (.an r13 pT) (.nt (pix (pc (.deref r1) 3) r0))))
 (.call ⟨[(14,r13)],[]⟩ [(14,true)] 24 113 [(pc (pn (pc (.deref r1) 3) r0) 2),(.llen (pc (.deref r1) 2))]
 (.ret (.pick r14 r24 pF))))))
def FT (b:Nat→PC):PT×List (Shp×PT):=(mB,[])
theorem uK:cf_realm_Check_3.map told=some (FT (aA cf_realm_Check_3)):=by kernel_rfl
theorem zZ:tree il=mB:=ah uK
theorem zS:cf_realm_Check_3=some il:=af uK
noncomputable def cf_realm_Check_4:Option PC:=av {ctx with fr:=[3],nh:=[]} Tryz.f151 ((aa aq 151).getD default) []
noncomputable def ir:PC:=hpc cf_realm_Check_4
def mw:PT:=
 (.chk (pix (pc (.deref r1) 4) r0)
 (.call ⟨[],[]⟩ [] 9 152 [(pn (pc (.deref r1) 4) r0)]
 (.ret r9)))
def Gs (b:Nat→PC):PT×List (Shp×PT):=(mw,[])
theorem uI:cf_realm_Check_4.map told=some (Gs (aA cf_realm_Check_4)):=by kernel_rfl
theorem zU:tree ir=mw:=ah uI
theorem Ab:cf_realm_Check_4=some ir:=af uI
noncomputable def cf_realm_order:Option PC:=av {ctx with fr:=[2],nh:=[]} Tryz.f152 ((aa aq 152).getD default) [1,3,4,6,19,8,16392,36]
noncomputable def lX:PC:=hpc cf_realm_order
noncomputable def gw:Nat→PC:=hbd cf_realm_order
def F9 (b:Nat→PC):PC:=.block 0 [2,3,12,13] [3] (.loop [2,3,12] [3] (b 0))
def Fv (b:Nat→PC):PC:=.block 2 [4,29,30] [4] (.loop [4,29] [4] (b 1))
def eu (b:Nat→PC):PT:=
 (.ite (plt r12 r11)
 (.blockS ⟨[],[]⟩ 1 [2,3,6,14,15,17,18,19,20,21,22,23,24] [6,19,3]
 (.chk (pix r10 r12)
 (.chk (ple (.llen (.app o3 (.lst [(pc (.setc (.con (.agg [(.int 0),(.int 0),(.bool false)])) 0 (pn r10 r12)) 0)]))) (pi 4294967296))
 (.call ⟨[(3,pN)],[(3,(.app o3 (.lst [(pc (.setc (.con (.agg [(.int 0),(.int 0),(.bool false)])) 0 (pn r10 r12)) 0)])))]⟩ [] 23 113 [(pc (.setc (.con (.agg [(.int 0),(.int 0),(.bool false)])) 0 (pn r10 r12)) 1),(pi 5)]
 (.ite (.nt r23)
 (.ret pF)
 (.next ⟨[],[]⟩)))))
 (.next ⟨[(12,(ao r12 (pi 1)))],[]⟩))
 (.exit 0 ⟨[(13,(plt r12 r11))],[]⟩))
def hG (b:Nat→PC):PT:=
 (.ite (plt r29 r28)
 (.chk (pix r27 r29)
 (.chk (ple (.llen (.app o4 (.lst [(pc (.setc (.con (.agg [(.int 0),(.int 0),(.int 0),(.list [])])) 0 (pn r27 r29)) 0)]))) (pi 4294967296))
 (.next ⟨[(4,pN),(29,(ao r29 (pi 1)))],[(4,(.app o4 (.lst [(pc (.setc (.con (.agg [(.int 0),(.int 0),(.int 0),(.list [])])) 0 (pn r27 r29)) 0)])))]⟩)))
 (.exit 2 ⟨[(30,(plt r29 r28))],[]⟩))
def q5 (b:Nat→PC):PT:=
 (.brk ⟨[(12,(pi 0)),(11,(.llen (pc (.mk [r0]) 2))),(10,(pc (.mk [r0]) 2)),(4,pN),(3,pN),(2,pF)],[(4,pL),(3,pL),(1,(.mk [r0]))]⟩
(F9 b)
 (.brk ⟨[(29,(pi 0)),(28,(.llen (pc o1 3))),(27,(pc o1 3))],[]⟩
(Fv b)
 (.call ⟨[],[]⟩ [] 40 201 [o3,(pi 0),(pi 21)]
 (.call ⟨[(41,r40)],[]⟩ [(41,true)] 43 201 [o4,(pi 0),(pi 21)]
 (.ret (.pick r41 r43 pF))))))
def Nv (b:Nat→PC):PT×List (Shp×PT):=(q5 b,[(.lp 0 [2,3,12,13] [3] [2,3,12] [3],eu b),(.lp 2 [4,29,30] [4] [4,29] [4],hG b)])
theorem kT:cf_realm_order.map told=some (Nv (aA cf_realm_order)):=by kernel_rfl
theorem D9:tree lX=q5 gw:=ah kT
theorem iP:round 0 [2,3,12,13] [3] [2,3,12] [3] (gw 0)=eu gw:=ax kT 0 fun _=>rfl
theorem pI:round 2 [4,29,30] [4] [4,29] [4] (gw 1)=hG gw:=ax kT 1 fun _=>rfl
theorem DQ:cf_realm_order=some lX:=af kT
noncomputable def cf_realm_usances:Option PC:=av {ctx with fr:=[2,3],nh:=[]} Tryz.f153 ((aa aq 153).getD default) [1,4,6]
noncomputable def gM:PC:=hpc cf_realm_usances
noncomputable def ei:Nat→PC:=hbd cf_realm_usances
def CI (b:Nat→PC):PC:=.block 2 [2,50,51] [] (.loop [2,50] [] (b 0))
def BB (b:Nat→PC):PC:=.block 0 [2,14,15] [] (.loop [2,14] [] (b 1))
def bN (b:Nat→PC):PT:=
 (.ite (plt r50 r49)
 (.chk (pix r48 r50)
 (.ite (.pick (peq (pc (.setc z3 0 (pn r48 r50)) 0) (pc o4 0)) (peq (pc (.setc z3 0 (pn r48 r50)) 1) (pc o4 1)) pF)
 (.ret (pi 5))
 (.next ⟨[(50,(ao r50 (pi 1)))],[]⟩)))
 (.exit 2 ⟨[(51,(plt r50 r49))],[]⟩))
def dg (b:Nat→PC):PT:=
 (.ite (plt r14 r13)
 (.blockS ⟨[(15,(plt r14 r13))],[]⟩ 1 [2,3,4,16,17,18,19,20,21,22,23,24,25,26,34,35,39,40,44,45,46,47,48,49,50,51] [4]
 (.chk (pix r12 r14)
 (.call ⟨[(3,r14)],[(4,(.setc z3 0 (pn r12 r14)))]⟩ [] 24 113 [(pc (.setc z3 0 (pn r12 r14)) 0),(.llen (pc o1 1))]
 (.call ⟨[(26,(.nt r24))],[]⟩ [(26,false)] 32 113 [(pc o4 1),(.llen (pc o1 1))]
 (.ite (.pick (.pick (.pick r26 pT (.nt r32)) pT (plt (pc o4 2) (pi 1))) pT (pgt (pc o4 2) (pi 20000)))
 (.ret (pi 1))
 (.chk (.slok (pc o1 5) (pi 0) r3)
 (.brk ⟨[(50,(pi 0)),(49,(.llen (.slc (pc o1 5) (pi 0) r3))),(48,(.slc (pc o1 5) (pi 0) r3))],[]⟩
(CI b)
 (.next ⟨[],[]⟩)))))))
 (.next ⟨[(14,(ao r14 (pi 1)))],[]⟩))
 (.exit 0 ⟨[(15,(plt r14 r13))],[]⟩))
def my (b:Nat→PC):PT:=
 (.ite (pgt (.llen (pc (.mk [r0]) 5)) (pi 100))
 (.ret (pi 6))
 (.brk ⟨[(14,(pi 0)),(13,(.llen (pc (.mk [r0]) 5))),(12,(pc (.mk [r0]) 5)),(2,(pi 0))],[(1,(.mk [r0]))]⟩
(BB b)
 (.ret (pi 0))))
def GU (b:Nat→PC):PT×List (Shp×PT):=(my b,[(.lp 2 [2,50,51] [] [2,50] [],bN b),(.lp 0 [2,14,15] [] [2,14] [],dg b)])
theorem gP:cf_realm_usances.map told=some (GU (aA cf_realm_usances)):=by kernel_rfl
theorem zP:tree gM=my ei:=ah gP
theorem dk:round 2 [2,50,51] [] [2,50] [] (ei 0)=bN ei:=ax gP 0 fun _=>rfl
theorem fM:round 0 [2,14,15] [] [2,14] [] (ei 1)=dg ei:=ax gP 1 fun _=>rfl
theorem Aj:cf_realm_usances=some gM:=af gP
noncomputable def cf_realm_rest:Option PC:=av {ctx with fr:=[2],nh:=[]} Tryz.f154 ((aa aq 154).getD default) [1,4,6]
noncomputable def mY:PC:=hpc cf_realm_rest
noncomputable def iV:Nat→PC:=hbd cf_realm_rest
def IG (b:Nat→PC):PC:=.block 0 [2,14,15] [] (.loop [2,14] [] (b 0))
def IB (b:Nat→PC):PC:=.block 2 [2,69,70] [] (.loop [2,69] [] (b 1))
def fC (b:Nat→PC):PT:=
 (.ite (plt r14 r13)
 (.blockS ⟨[],[]⟩ 1 [2,4,16,17,18,19,20,21,22,23,24,25,33,34,40,41,47,48,54,55,60] [4]
 (.chk (pix r12 r14)
 (.call ⟨[],[(4,(.setc z5 0 (pn r12 r14)))]⟩ [] 23 113 [(pc (.setc z5 0 (pn r12 r14)) 0),(.llen (pc o1 0))]
 (.call ⟨[(25,(.nt r23))],[]⟩ [(25,false)] 31 113 [(pc o4 1),(.llen (pc o1 0))]
 (.call ⟨[(41,(.pick (.pick r25 pT (.nt r31)) pT (peq (pc o4 0) (pc o4 1))))],[]⟩ [(41,false)] 45 113 [(aB (pc o4 2) (pi 1)),(pi 1073741824)]
 (.call ⟨[(48,(.pick r41 pT (.nt r45)))],[]⟩ [(48,false)] 52 113 [(aB (pc o4 3) (pi 1)),(pi 1073741824)]
 (.call ⟨[(55,(.pick r48 pT (.nt r52)))],[]⟩ [(55,false)] 58 113 [(pc o4 4),(pi 100001)]
 (.ite (.pick r55 pT (.nt r58))
 (.ret (pi 1))
 (.next ⟨[],[]⟩))))))))
 (.next ⟨[(14,(ao r14 (pi 1)))],[]⟩))
 (.exit 0 ⟨[(15,(plt r14 r13))],[]⟩))
def fw (b:Nat→PC):PT:=
 (.ite (plt r69 r68)
 (.blockS ⟨[],[]⟩ 3 [2,6,71,72,73,74,75,76,77,78,79,80,84,85,91,92,96] [6]
 (.chk (pix r67 r69)
 (.call ⟨[],[(6,(.setc z3 0 (pn r67 r69)))]⟩ [] 78 113 [(pc (.setc z3 0 (pn r67 r69)) 0),(.llen (pc o1 4))]
 (.ite (.pick (.pick (.pick (.nt r78) pT (plt (pc o6 1) (pi 0))) pT (pgt (pc o6 1) (pc o6 2))) pT (pgt (pc o6 2) (pi 100000)))
 (.ret (pi 1))
 (.next ⟨[],[]⟩))))
 (.next ⟨[(69,(ao r69 (pi 1)))],[]⟩))
 (.exit 2 ⟨[(70,(plt r69 r68))],[]⟩))
def tB (b:Nat→PC):PT:=
 (.ite (pgt (.llen (pc (.mk [r0]) 6)) (pi 100))
 (.ret (pi 6))
 (.brk ⟨[(14,(pi 0)),(13,(.llen (pc (.mk [r0]) 6))),(12,(pc (.mk [r0]) 6)),(2,(pi 0))],[(1,(.mk [r0]))]⟩
(IG b)
 (.ite (pgt (.llen (pc o1 7)) (pi 20))
 (.ret (pi 6))
 (.brk ⟨[(69,(pi 0)),(68,(.llen (pc o1 7))),(67,(pc o1 7))],[]⟩
(IB b)
 (.ret (pi 0))))))
def Ok (b:Nat→PC):PT×List (Shp×PT):=(tB b,[(.lp 0 [2,14,15] [] [2,14] [],fC b),(.lp 2 [2,69,70] [] [2,69] [],fw b)])
theorem m4:cf_realm_rest.map told=some (Ok (aA cf_realm_rest)):=by kernel_rfl
theorem FD:tree mY=tB iV:=ah m4
theorem j8:round 0 [2,14,15] [] [2,14] [] (iV 0)=fC iV:=ax m4 0 fun _=>rfl
theorem j1:round 2 [2,69,70] [] [2,69] [] (iV 1)=fw iV:=ax m4 1 fun _=>rfl
theorem Fh:cf_realm_rest=some mY:=af m4
noncomputable def cf_tenor_isCity:Option PC:=av {ctx with fr:=[4],nh:=[]} Tryz.f173 ((aa aq 173).getD default) [2]
noncomputable def jB:PC:=hpc cf_tenor_isCity
def oa:PT:=
 (.ret (.pick (pge r1 (pi 0)) (plt r1 (.llen (pc (.mk [r0]) 1))) pF))
def JJ (b:Nat→PC):PT×List (Shp×PT):=(oa,[])
theorem wG:cf_tenor_isCity.map told=some (JJ (aA cf_tenor_isCity)):=by kernel_rfl
theorem BS:tree jB=oa:=ah wG
theorem BK:cf_tenor_isCity=some jB:=af wG
noncomputable def cf_tenor_isDay:Option PC:=av {ctx with fr:=[2],nh:=[]} Tryz.f174 ((aa aq 174).getD default) []
noncomputable def lW:PC:=hpc cf_tenor_isDay
def qZ:PT:=
 (.ret (.pick (pge r0 (pi 0)) (ple r0 (pi 100000)) pF))
def Mo (b:Nat→PC):PT×List (Shp×PT):=(qZ,[])
theorem xo:cf_tenor_isDay.map told=some (Mo (aA cf_tenor_isDay)):=by kernel_rfl
theorem EN:tree lW=qZ:=ah xo
theorem DP:cf_tenor_isDay=some lW:=af xo
noncomputable def cf_tenor_Sights:Option PC:=av {ctx with fr:=[2],nh:=[]} Tryz.f175 ((aa aq 175).getD default) [1]
noncomputable def jE:PC:=hpc cf_tenor_Sights
def oS:PT:=
 (.ret (.pick (peq (pc (.mk [r0]) 0) (pi 0)) pT (peq (pc (.mk [r0]) 0) (pi 1))))
def IL (b:Nat→PC):PT×List (Shp×PT):=(oS,[])
theorem wE:cf_tenor_Sights.map told=some (IL (aA cf_tenor_Sights)):=by kernel_rfl
theorem Cs:tree jE=oS:=ah wE
theorem B7:cf_tenor_Sights=some jE:=af wE
noncomputable def cf_tenor_base:Option PC:=av {ctx with fr:=[6,7,13,16,24,33,8,9],nh:=[]} Tryz.f176 ((aa aq 176).getD default) [3,4]
noncomputable def nu:PC:=hpc cf_tenor_base
def cS:PT:=
 (.blockS ⟨[(12,(pc (.mk [r1]) 5))],[(4,(.mk [r1])),(3,(.mk [r0]))]⟩ 0 [6,7,13,14,16,17,24,25,33,34] []
 (.iteS ⟨[],[]⟩ (peq r12 (pi 0)) [6,7,16,17,24,25,33,34] []
 (.ret (.tup [r2,(pi 0)]))
 (.iteS ⟨[],[]⟩ (peq r12 (pi 1)) [6,7,24,25,33,34] []
 (.call ⟨[],[]⟩ [] 21 215 [r2,(.mk [(pc o4 5),(pc o4 6),(pc o4 7)])]
 (.ret (.tup [(.tget r21 0),(.tget r21 1)])))
 (.iteS ⟨[],[]⟩ (peq r12 (pi 2)) [6,7,33,34] []
 (.call ⟨[],[]⟩ [] 30 215 [(pc o4 8),(.mk [(pc o4 5),(pc o4 6),(pc o4 7)])]
 (.ret (.tup [(.tget r30 0),(.tget r30 1)])))
 (.iteS ⟨[],[]⟩ (peq r12 (pi 4)) [6,7] []
 (.call ⟨[],[]⟩ [] 41 161 [(mkA 8 o3),(pc o4 9),(pc o4 10)]
 (.ret (.tup [(ao (pc o4 8) (.tget r41 0)),(.tget r41 1)])))
 (.next ⟨[],[]⟩)
 (.next ⟨[],[]⟩))
 (.next ⟨[],[]⟩))
 (.next ⟨[],[]⟩))
 (.next ⟨[],[]⟩))
 (.ret (.tup [(pc o4 6),(pi 0)])))
def N0 (b:Nat→PC):PT×List (Shp×PT):=(cS,[])
theorem AA:cf_tenor_base.map told=some (N0 (aA cf_tenor_base)):=by kernel_rfl
theorem cX:tree nu=cS:=ah AA
theorem Fx:cf_tenor_base=some nu:=af AA
noncomputable def cf_tenor_after:Option PC:=av {ctx with fr:=[4,5],nh:=[]} Tryz.f215 ((aa aq 215).getD default) [3]
noncomputable def lM:PC:=hpc cf_tenor_after
def ej:PT:=
 (.ite (.pick (plt (pc (.mk [r1]) 1) (pi 0)) pT (pgt (pc (.mk [r1]) 1) (pi 20000)))
 (.ret (.tup [(pi 0),(pi 3)]))
 (.iteS ⟨[],[(3,(.mk [r1]))]⟩ (peq (pc (.mk [r1]) 2) (pi 1)) [4,5] []
 (.call ⟨[],[]⟩ [] 20 239 [r0,(pc o3 1)]
 (.ret (.tup [(.tget r20 0),(.tget r20 1)])))
 (.next ⟨[],[]⟩)
 (.ret (.tup [(ao r0 (pc o3 1)),(pi 0)]))))
def LL (b:Nat→PC):PT×List (Shp×PT):=(ej,[])
theorem yU:cf_tenor_after.map told=some (LL (aA cf_tenor_after)):=by kernel_rfl
theorem fX:tree lM=ej:=ah yU
theorem Dt:cf_tenor_after=some lM:=af yU
noncomputable def cf_calendar_AddMonths:Option PC:=av {ctx with fr:=[4,5,6,7,8,9],nh:=[]} Tryz.f239 ((aa aq 239).getD default) []
noncomputable def dh:PC:=hpc cf_calendar_AddMonths
def dm:PT:=
 (.call ⟨[],[]⟩ [] 11 120 [r0]
 (.ite (.pick (.pick (.nt r11) pT (plt r1 (pi (-5000)))) pT (pgt r1 (pi 5000)))
 (.ret (.tup [(pi 0),(pi 3)]))
 (.call ⟨[],[]⟩ [] 23 191 [r0]
 (.chk (pne (pi 12) (pi 0))
 (.call ⟨[(41,(.tget r23 2)),(40,(ao (.ai .rem .i64 (ao (aB (ao (.ai .mul .i64 (pi 12) (.tget r23 0)) (.tget r23 1)) (pi 1)) r1) (pi 12)) (pi 1))),(39,(.ai .quo .i64 (ao (aB (ao (.ai .mul .i64 (pi 12) (.tget r23 0)) (.tget r23 1)) (pi 1)) r1) (pi 12)))],[]⟩ [] 44 273 [(.ai .quo .i64 (ao (aB (ao (.ai .mul .i64 (pi 12) (.tget r23 0)) (.tget r23 1)) (pi 1)) r1) (pi 12)),(ao (.ai .rem .i64 (ao (aB (ao (.ai .mul .i64 (pi 12) (.tget r23 0)) (.tget r23 1)) (pi 1)) r1) (pi 12)) (pi 1))]
 (.call ⟨[],[]⟩ [] 46 272 [r39,r40,(.mn r41 r44)]
 (.ret (.tup [(.tget r46 0),(.tget r46 1)]))))))))
def xc (b:Nat→PC):PT×List (Shp×PT):=(dm,[])
theorem mc:cf_calendar_AddMonths.map told=some (xc (aA cf_calendar_AddMonths)):=by kernel_rfl
theorem ja:tree dh=dm:=ah mc
theorem tp:cf_calendar_AddMonths=some dh:=af mc
noncomputable def cf_calendar_valid:Option PC:=av {ctx with fr:=[2],nh:=[]} Tryz.f120 ((aa aq 120).getD default) []
noncomputable def fW:PC:=hpc cf_calendar_valid
def lU:PT:=
 (.ret (.pick (ple (pi 0) r0) (ple r0 (pi 100000)) pF))
def De (b:Nat→PC):PT×List (Shp×PT):=(lU,[])
theorem sf:cf_calendar_valid.map told=some (De (aA cf_calendar_valid)):=by kernel_rfl
theorem xC:tree fW=lU:=ah sf
theorem xS:cf_calendar_valid=some fW:=af sf
noncomputable def cf_calendar_civil:Option PC:=av {ctx with fr:=[2,3,4,5,6,7,8,9],nh:=[]} Tryz.f191 ((aa aq 191).getD default) []
noncomputable def fY:PC:=hpc cf_calendar_civil
def lV:PT:=
 (.chk (pne (pi 146097) (pi 0))
 (.chk (pne (pi 1460) (pi 0))
 (.chk (pne (pi 36524) (pi 0))
 (.chk (pne (pi 146096) (pi 0))
 (.chk (pne (pi 365) (pi 0))
 (.chk (pne (pi 4) (pi 0))
 (.chk (pne (pi 100) (pi 0))
 (.chk (pne (pi 153) (pi 0))
 (.chk (pne (pi 5) (pi 0))
 (.ret (.tup [(.pick (plt (.pick (pgt (ao (.ai .quo .i64 (ao (.ai .mul .i64 (pi 5) (aB (.ai .rem .i64 (ao r0 (pi 730425)) (pi 146097)) (aB (ao (.ai .mul .i64 (pi 365) (.ai .quo .i64 (aB (ao (aB (.ai .rem .i64 (ao r0 (pi 730425)) (pi 146097)) (.ai .quo .i64 (.ai .rem .i64 (ao r0 (pi 730425)) (pi 146097)) (pi 1460))) (.ai .quo .i64 (.ai .rem .i64 (ao r0 (pi 730425)) (pi 146097)) (pi 36524))) (.ai .quo .i64 (.ai .rem .i64 (ao r0 (pi 730425)) (pi 146097)) (pi 146096))) (pi 365))) (.ai .quo .i64 (.ai .quo .i64 (aB (ao (aB (.ai .rem .i64 (ao r0 (pi 730425)) (pi 146097)) (.ai .quo .i64 (.ai .rem .i64 (ao r0 (pi 730425)) (pi 146097)) (pi 1460))) (.ai .quo .i64 (.ai .rem .i64 (ao r0 (pi 730425)) (pi 146097)) (pi 36524))) (.ai .quo .i64 (.ai .rem .i64 (ao r0 (pi 730425)) (pi 146097)) (pi 146096))) (pi 365)) (pi 4))) (.ai .quo .i64 (.ai .quo .i64 (aB (ao (aB (.ai .rem .i64 (ao r0 (pi 730425)) (pi 146097)) (.ai .quo .i64 (.ai .rem .i64 (ao r0 (pi 730425)) (pi 146097)) (pi 1460))) (.ai .quo .i64 (.ai .rem .i64 (ao r0 (pi 730425)) (pi 146097)) (pi 36524))) (.ai .quo .i64 (.ai .rem .i64 (ao r0 (pi 730425)) (pi 146097)) (pi 146096))) (pi 365)) (pi 100))))) (pi 2)) (pi 153)) (pi 3)) (pi 12)) (aB (ao (.ai .quo .i64 (ao (.ai .mul .i64 (pi 5) (aB (.ai .rem .i64 (ao r0 (pi 730425)) (pi 146097)) (aB (ao (.ai .mul .i64 (pi 365) (.ai .quo .i64 (aB (ao (aB (.ai .rem .i64 (ao r0 (pi 730425)) (pi 146097)) (.ai .quo .i64 (.ai .rem .i64 (ao r0 (pi 730425)) (pi 146097)) (pi 1460))) (.ai .quo .i64 (.ai .rem .i64 (ao r0 (pi 730425)) (pi 146097)) (pi 36524))) (.ai .quo .i64 (.ai .rem .i64 (ao r0 (pi 730425)) (pi 146097)) (pi 146096))) (pi 365))) (.ai .quo .i64 (.ai .quo .i64 (aB (ao (aB (.ai .rem .i64 (ao r0 (pi 730425)) (pi 146097)) (.ai .quo .i64 (.ai .rem .i64 (ao r0 (pi 730425)) (pi 146097)) (pi 1460))) (.ai .quo .i64 (.ai .rem .i64 (ao r0 (pi 730425)) (pi 146097)) (pi 36524))) (.ai .quo .i64 (.ai .rem .i64 (ao r0 (pi 730425)) (pi 146097)) (pi 146096))) (pi 365)) (pi 4))) (.ai .quo .i64 (.ai .quo .i64 (aB (ao (aB (.ai .rem .i64 (ao r0 (pi 730425)) (pi 146097)) (.ai .quo .i64 (.ai .rem .i64 (ao r0 (pi 730425)) (pi 146097)) (pi 1460))) (.ai .quo .i64 (.ai .rem .i64 (ao r0 (pi 730425)) (pi 146097)) (pi 36524))) (.ai .quo .i64 (.ai .rem .i64 (ao r0 (pi 730425)) (pi 146097)) (pi 146096))) (pi 365)) (pi 100))))) (pi 2)) (pi 153)) (pi 3)) (pi 12)) (ao (.ai .quo .i64 (ao (.ai .mul .i64 (pi 5) (aB (.ai .rem .i64 (ao r0 (pi 730425)) (pi 146097)) (aB (ao (.ai .mul .i64 (pi 365) (.ai .quo .i64 (aB (ao (aB (.ai .rem .i64 (ao r0 (pi 730425)) (pi 146097)) (.ai .quo .i64 (.ai .rem .i64 (ao r0 (pi 730425)) (pi 146097)) (pi 1460))) (.ai .quo .i64 (.ai .rem .i64 (ao r0 (pi 730425)) (pi 146097)) (pi 36524))) (.ai .quo .i64 (.ai .rem .i64 (ao r0 (pi 730425)) (pi 146097)) (pi 146096))) (pi 365))) (.ai .quo .i64 (.ai .quo .i64 (aB (ao (aB (.ai .rem .i64 (ao r0 (pi 730425)) (pi 146097)) (.ai .quo .i64 (.ai .rem .i64 (ao r0 (pi 730425)) (pi 146097)) (pi 1460))) (.ai .quo .i64 (.ai .rem .i64 (ao r0 (pi 730425)) (pi 146097)) (pi 36524))) (.ai .quo .i64 (.ai .rem .i64 (ao r0 (pi 730425)) (pi 146097)) (pi 146096))) (pi 365)) (pi 4))) (.ai .quo .i64 (.ai .quo .i64 (aB (ao (aB (.ai .rem .i64 (ao r0 (pi 730425)) (pi 146097)) (.ai .quo .i64 (.ai .rem .i64 (ao r0 (pi 730425)) (pi 146097)) (pi 1460))) (.ai .quo .i64 (.ai .rem .i64 (ao r0 (pi 730425)) (pi 146097)) (pi 36524))) (.ai .quo .i64 (.ai .rem .i64 (ao r0 (pi 730425)) (pi 146097)) (pi 146096))) (pi 365)) (pi 100))))) (pi 2)) (pi 153)) (pi 3))) (pi 3)) (ao (ao (.ai .quo .i64 (aB (ao (aB (.ai .rem .i64 (ao r0 (pi 730425)) (pi 146097)) (.ai .quo .i64 (.ai .rem .i64 (ao r0 (pi 730425)) (pi 146097)) (pi 1460))) (.ai .quo .i64 (.ai .rem .i64 (ao r0 (pi 730425)) (pi 146097)) (pi 36524))) (.ai .quo .i64 (.ai .rem .i64 (ao r0 (pi 730425)) (pi 146097)) (pi 146096))) (pi 365)) (.ai .mul .i64 (pi 400) (.ai .quo .i64 (ao r0 (pi 730425)) (pi 146097)))) (pi 1)) (ao (.ai .quo .i64 (aB (ao (aB (.ai .rem .i64 (ao r0 (pi 730425)) (pi 146097)) (.ai .quo .i64 (.ai .rem .i64 (ao r0 (pi 730425)) (pi 146097)) (pi 1460))) (.ai .quo .i64 (.ai .rem .i64 (ao r0 (pi 730425)) (pi 146097)) (pi 36524))) (.ai .quo .i64 (.ai .rem .i64 (ao r0 (pi 730425)) (pi 146097)) (pi 146096))) (pi 365)) (.ai .mul .i64 (pi 400) (.ai .quo .i64 (ao r0 (pi 730425)) (pi 146097))))),(.pick (pgt (ao (.ai .quo .i64 (ao (.ai .mul .i64 (pi 5) (aB (.ai .rem .i64 (ao r0 (pi 730425)) (pi 146097)) (aB (ao (.ai .mul .i64 (pi 365) (.ai .quo .i64 (aB (ao (aB (.ai .rem .i64 (ao r0 (pi 730425)) (pi 146097)) (.ai .quo .i64 (.ai .rem .i64 (ao r0 (pi 730425)) (pi 146097)) (pi 1460))) (.ai .quo .i64 (.ai .rem .i64 (ao r0 (pi 730425)) (pi 146097)) (pi 36524))) (.ai .quo .i64 (.ai .rem .i64 (ao r0 (pi 730425)) (pi 146097)) (pi 146096))) (pi 365))) (.ai .quo .i64 (.ai .quo .i64 (aB (ao (aB (.ai .rem .i64 (ao r0 (pi 730425)) (pi 146097)) (.ai .quo .i64 (.ai .rem .i64 (ao r0 (pi 730425)) (pi 146097)) (pi 1460))) (.ai .quo .i64 (.ai .rem .i64 (ao r0 (pi 730425)) (pi 146097)) (pi 36524))) (.ai .quo .i64 (.ai .rem .i64 (ao r0 (pi 730425)) (pi 146097)) (pi 146096))) (pi 365)) (pi 4))) (.ai .quo .i64 (.ai .quo .i64 (aB (ao (aB (.ai .rem .i64 (ao r0 (pi 730425)) (pi 146097)) (.ai .quo .i64 (.ai .rem .i64 (ao r0 (pi 730425)) (pi 146097)) (pi 1460))) (.ai .quo .i64 (.ai .rem .i64 (ao r0 (pi 730425)) (pi 146097)) (pi 36524))) (.ai .quo .i64 (.ai .rem .i64 (ao r0 (pi 730425)) (pi 146097)) (pi 146096))) (pi 365)) (pi 100))))) (pi 2)) (pi 153)) (pi 3)) (pi 12)) (aB (ao (.ai .quo .i64 (ao (.ai .mul .i64 (pi 5) (aB (.ai .rem .i64 (ao r0 (pi 730425)) (pi 146097)) (aB (ao (.ai .mul .i64 (pi 365) (.ai .quo .i64 (aB (ao (aB (.ai .rem .i64 (ao r0 (pi 730425)) (pi 146097)) (.ai .quo .i64 (.ai .rem .i64 (ao r0 (pi 730425)) (pi 146097)) (pi 1460))) (.ai .quo .i64 (.ai .rem .i64 (ao r0 (pi 730425)) (pi 146097)) (pi 36524))) (.ai .quo .i64 (.ai .rem .i64 (ao r0 (pi 730425)) (pi 146097)) (pi 146096))) (pi 365))) (.ai .quo .i64 (.ai .quo .i64 (aB (ao (aB (.ai .rem .i64 (ao r0 (pi 730425)) (pi 146097)) (.ai .quo .i64 (.ai .rem .i64 (ao r0 (pi 730425)) (pi 146097)) (pi 1460))) (.ai .quo .i64 (.ai .rem .i64 (ao r0 (pi 730425)) (pi 146097)) (pi 36524))) (.ai .quo .i64 (.ai .rem .i64 (ao r0 (pi 730425)) (pi 146097)) (pi 146096))) (pi 365)) (pi 4))) (.ai .quo .i64 (.ai .quo .i64 (aB (ao (aB (.ai .rem .i64 (ao r0 (pi 730425)) (pi 146097)) (.ai .quo .i64 (.ai .rem .i64 (ao r0 (pi 730425)) (pi 146097)) (pi 1460))) (.ai .quo .i64 (.ai .rem .i64 (ao r0 (pi 730425)) (pi 146097)) (pi 36524))) (.ai .quo .i64 (.ai .rem .i64 (ao r0 (pi 730425)) (pi 146097)) (pi 146096))) (pi 365)) (pi 100))))) (pi 2)) (pi 153)) (pi 3)) (pi 12)) (ao (.ai .quo .i64 (ao (.ai .mul .i64 (pi 5) (aB (.ai .rem .i64 (ao r0 (pi 730425)) (pi 146097)) (aB (ao (.ai .mul .i64 (pi 365) (.ai .quo .i64 (aB (ao (aB (.ai .rem .i64 (ao r0 (pi 730425)) (pi 146097)) (.ai .quo .i64 (.ai .rem .i64 (ao r0 (pi 730425)) (pi 146097)) (pi 1460))) (.ai .quo .i64 (.ai .rem .i64 (ao r0 (pi 730425)) (pi 146097)) (pi 36524))) (.ai .quo .i64 (.ai .rem .i64 (ao r0 (pi 730425)) (pi 146097)) (pi 146096))) (pi 365))) (.ai .quo .i64 (.ai .quo .i64 (aB (ao (aB (.ai .rem .i64 (ao r0 (pi 730425)) (pi 146097)) (.ai .quo .i64 (.ai .rem .i64 (ao r0 (pi 730425)) (pi 146097)) (pi 1460))) (.ai .quo .i64 (.ai .rem .i64 (ao r0 (pi 730425)) (pi 146097)) (pi 36524))) (.ai .quo .i64 (.ai .rem .i64 (ao r0 (pi 730425)) (pi 146097)) (pi 146096))) (pi 365)) (pi 4))) (.ai .quo .i64 (.ai .quo .i64 (aB (ao (aB (.ai .rem .i64 (ao r0 (pi 730425)) (pi 146097)) (.ai .quo .i64 (.ai .rem .i64 (ao r0 (pi 730425)) (pi 146097)) (pi 1460))) (.ai .quo .i64 (.ai .rem .i64 (ao r0 (pi 730425)) (pi 146097)) (pi 36524))) (.ai .quo .i64 (.ai .rem .i64 (ao r0 (pi 730425)) (pi 146097)) (pi 146096))) (pi 365)) (pi 100))))) (pi 2)) (pi 153)) (pi 3))),(ao (aB (aB (.ai .rem .i64 (ao r0 (pi 730425)) (pi 146097)) (aB (ao (.ai .mul .i64 (pi 365) (.ai .quo .i64 (aB (ao (aB (.ai .rem .i64 (ao r0 (pi 730425)) (pi 146097)) (.ai .quo .i64 (.ai .rem .i64 (ao r0 (pi 730425)) (pi 146097)) (pi 1460))) (.ai .quo .i64 (.ai .rem .i64 (ao r0 (pi 730425)) (pi 146097)) (pi 36524))) (.ai .quo .i64 (.ai .rem .i64 (ao r0 (pi 730425)) (pi 146097)) (pi 146096))) (pi 365))) (.ai .quo .i64 (.ai .quo .i64 (aB (ao (aB (.ai .rem .i64 (ao r0 (pi 730425)) (pi 146097)) (.ai .quo .i64 (.ai .rem .i64 (ao r0 (pi 730425)) (pi 146097)) (pi 1460))) (.ai .quo .i64 (.ai .rem .i64 (ao r0 (pi 730425)) (pi 146097)) (pi 36524))) (.ai .quo .i64 (.ai .rem .i64 (ao r0 (pi 730425)) (pi 146097)) (pi 146096))) (pi 365)) (pi 4))) (.ai .quo .i64 (.ai .quo .i64 (aB (ao (aB (.ai .rem .i64 (ao r0 (pi 730425)) (pi 146097)) (.ai .quo .i64 (.ai .rem .i64 (ao r0 (pi 730425)) (pi 146097)) (pi 1460))) (.ai .quo .i64 (.ai .rem .i64 (ao r0 (pi 730425)) (pi 146097)) (pi 36524))) (.ai .quo .i64 (.ai .rem .i64 (ao r0 (pi 730425)) (pi 146097)) (pi 146096))) (pi 365)) (pi 100)))) (.ai .quo .i64 (ao (.ai .mul .i64 (pi 153) (.ai .quo .i64 (ao (.ai .mul .i64 (pi 5) (aB (.ai .rem .i64 (ao r0 (pi 730425)) (pi 146097)) (aB (ao (.ai .mul .i64 (pi 365) (.ai .quo .i64 (aB (ao (aB (.ai .rem .i64 (ao r0 (pi 730425)) (pi 146097)) (.ai .quo .i64 (.ai .rem .i64 (ao r0 (pi 730425)) (pi 146097)) (pi 1460))) (.ai .quo .i64 (.ai .rem .i64 (ao r0 (pi 730425)) (pi 146097)) (pi 36524))) (.ai .quo .i64 (.ai .rem .i64 (ao r0 (pi 730425)) (pi 146097)) (pi 146096))) (pi 365))) (.ai .quo .i64 (.ai .quo .i64 (aB (ao (aB (.ai .rem .i64 (ao r0 (pi 730425)) (pi 146097)) (.ai .quo .i64 (.ai .rem .i64 (ao r0 (pi 730425)) (pi 146097)) (pi 1460))) (.ai .quo .i64 (.ai .rem .i64 (ao r0 (pi 730425)) (pi 146097)) (pi 36524))) (.ai .quo .i64 (.ai .rem .i64 (ao r0 (pi 730425)) (pi 146097)) (pi 146096))) (pi 365)) (pi 4))) (.ai .quo .i64 (.ai .quo .i64 (aB (ao (aB (.ai .rem .i64 (ao r0 (pi 730425)) (pi 146097)) (.ai .quo .i64 (.ai .rem .i64 (ao r0 (pi 730425)) (pi 146097)) (pi 1460))) (.ai .quo .i64 (.ai .rem .i64 (ao r0 (pi 730425)) (pi 146097)) (pi 36524))) (.ai .quo .i64 (.ai .rem .i64 (ao r0 (pi 730425)) (pi 146097)) (pi 146096))) (pi 365)) (pi 100))))) (pi 2)) (pi 153))) (pi 2)) (pi 5))) (pi 1))])))))))))))
def Dm (b:Nat→PC):PT×List (Shp×PT):=(lV,[])
theorem sw:cf_calendar_civil.map told=some (Dm (aA cf_calendar_civil)):=by kernel_rfl
theorem xJ:tree fY=lV:=ah sw
theorem y3:cf_calendar_civil=some fY:=af sw
noncomputable def cf_calendar_length:Option PC:=av {ctx with fr:=[4],nh:=[]} Tryz.f273 ((aa aq 273).getD default) []
noncomputable def eO:PC:=hpc cf_calendar_length
def eK:PT:=
 (.ite (peq r1 (pi 12))
 (.ret (pi 31))
 (.call ⟨[],[]⟩ [] 10 284 [r0,(ao r1 (pi 1)),(pi 1)]
 (.call ⟨[],[]⟩ [] 13 284 [r0,r1,(pi 1)]
 (.ret (aB r10 r13)))))
def Ci (b:Nat→PC):PT×List (Shp×PT):=(eK,[])
theorem qz:cf_calendar_length.map told=some (Ci (aA cf_calendar_length)):=by kernel_rfl
theorem w8:tree eO=eK:=ah qz
theorem wW:cf_calendar_length=some eO:=af qz
noncomputable def cf_calendar_number:Option PC:=av {ctx with fr:=[6,0,1],nh:=[]} Tryz.f284 ((aa aq 284).getD default) []
noncomputable def eX:PC:=hpc cf_calendar_number
def eQ:PT:=
 (.chk (pne (pi 4) (pi 0))
 (.chk (pne (pi 100) (pi 0))
 (.chk (pne (pi 400) (pi 0))
 (.chk (pne (pi 5) (pi 0))
 (.ret (aB (aB (ao (ao (ao (aB (ao (.ai .mul .i64 (pi 365) (.pick (plt r1 (pi 3)) (aB r0 (pi 1)) r0)) (.ai .quo .i64 (.pick (plt r1 (pi 3)) (aB r0 (pi 1)) r0) (pi 4))) (.ai .quo .i64 (.pick (plt r1 (pi 3)) (aB r0 (pi 1)) r0) (pi 100))) (.ai .quo .i64 (.pick (plt r1 (pi 3)) (aB r0 (pi 1)) r0) (pi 400))) (.ai .quo .i64 (ao (.ai .mul .i64 (pi 153) (aB (.pick (plt r1 (pi 3)) (ao r1 (pi 12)) r1) (pi 3))) (pi 2)) (pi 5))) r2) (pi 1)) (pi 730425)))))))
def BE (b:Nat→PC):PT×List (Shp×PT):=(eQ,[])
theorem qG:cf_calendar_number.map told=some (BE (aA cf_calendar_number)):=by kernel_rfl
theorem me:tree eX=eQ:=ah qG
theorem wV:cf_calendar_number=some eX:=af qG
noncomputable def cf_calendar_Day:Option PC:=av {ctx with fr:=[6,7,8],nh:=[]} Tryz.f272 ((aa aq 272).getD default) []
noncomputable def jR:PC:=hpc cf_calendar_Day
def dz:PT:=
 (.call ⟨[(28,r2),(27,(.pick (.pick (.pick (.pick (plt r0 (pi 2000)) pT (pgt r0 (pi 2300))) pT (plt r1 (pi 1))) pT (pgt r1 (pi 12))) pT (plt r2 (pi 1))))],[]⟩ [(27,false)] 31 273 [r0,r1]
 (.ite (.pick r27 pT (pgt r28 r31))
 (.ret (.tup [(pi 0),(pi 3)]))
 (.call ⟨[],[]⟩ [] 37 284 [r0,r1,r2]
 (.call ⟨[(8,r37)],[]⟩ [] 39 120 [r37]
 (.ite (.nt r39)
 (.ret (.tup [(pi 0),(pi 3)]))
 (.ret (.tup [r8,(pi 0)])))))))
def IT (b:Nat→PC):PT×List (Shp×PT):=(dz,[])
theorem wB:cf_calendar_Day.map told=some (IT (aA cf_calendar_Day)):=by kernel_rfl
theorem eZ:tree jR=dz:=ah wB
theorem Bk:cf_calendar_Day=some jR:=af wB
noncomputable def cf_realm_Usance:Option PC:=av {ctx with fr:=[6,7],nh:=[]} Tryz.f161 ((aa aq 161).getD default) [3,9]
noncomputable def jI:PC:=hpc cf_realm_Usance
noncomputable def oI:Nat→PC:=hbd cf_realm_Usance
def CY (b:Nat→PC):PC:=.block 0 [6,7,13,14] [] (.loop [6,7,13] [] (b 0))
def dH (b:Nat→PC):PT:=
 (.ite (plt r13 r12)
 (.chk (pix r11 r13)
 (.ite (.pick (peq (pc (.setc z3 0 (pn r11 r13)) 0) r1) (peq (pc (.setc z3 0 (pn r11 r13)) 1) r2) pF)
 (.ret (.tup [(pc (.setc z3 0 (pn r11 r13)) 2),(pi 0)]))
 (.next ⟨[(13,(ao r13 (pi 1)))],[]⟩)))
 (.exit 0 ⟨[(14,(plt r13 r12))],[]⟩))
def oY (b:Nat→PC):PT:=
 (.brk ⟨[(13,(pi 0)),(12,(.llen (pc (.mk [r0]) 5))),(11,(pc (.mk [r0]) 5)),(7,(pi 0)),(6,(pi 0))],[]⟩
(CY b)
 (.ret (.tup [(pi 0),(pi 4)])))
def JB (b:Nat→PC):PT×List (Shp×PT):=(oY b,[(.lp 0 [6,7,13,14] [] [6,7,13] [],dH b)])
theorem nX:cf_realm_Usance.map told=some (JB (aA cf_realm_Usance)):=by kernel_rfl
theorem Ce:tree jI=oY oI:=ah nX
theorem gJ:round 0 [6,7,13,14] [] [6,7,13] [] (oI 0)=dH oI:=ax nX 0 fun _=>rfl
theorem BG:cf_realm_Usance=some jI:=af nX
noncomputable def cf_tenor_settle:Option PC:=av {ctx with fr:=[6,7,8,2,9,10],nh:=[]} Tryz.f177 ((aa aq 177).getD default) [3]
noncomputable def jU:PC:=hpc cf_tenor_settle
noncomputable def po:Nat→PC:=hbd cf_tenor_settle
def Di (b:Nat→PC):PC:=.block 0 [] [] (.loop [2,6,7] [] (b 0))
def kN (b:Nat→PC):PT:=
 (.blockS ⟨[],[]⟩ 1 [2,6,7,9,10,14,15,16,17,18,19,20,21,22,23,24,25,26,27,28,29,30,31,32,34] []
 (.call ⟨[],[]⟩ [] 17 216 [(mkA 8 o3),r8,r2]
 (.chk (pix (pc o3 1) r1)
 (.call ⟨[(2,r17)],[]⟩ [] 25 217 [(pn (pc o3 1) r1),r17]
 (.ite (pne (.tget r25 1) (pi 0))
 (.ret (.tup [(pi 0),(pi 3)]))
 (.ite (peq (.tget r25 0) r2)
 (.ret (.tup [r2,(pi 0)]))
 (.next ⟨[(2,(.tget r25 0))],[]⟩))))))
 (.next ⟨[],[]⟩))
def pk (b:Nat→PC):PT:=
 (.call ⟨[(7,(pi 0)),(6,(pi 0))],[(3,(.mk [r0]))]⟩ [] 13 53 [(mkA 8 (.mk [r0])),r1]
 (.brk ⟨[(8,r13)],[]⟩
(Di b)
 (.next ⟨[],[]⟩)))
def JH (b:Nat→PC):PT×List (Shp×PT):=(pk b,[(.lp 0 [] [] [2,6,7] [],kN b)])
theorem nY:cf_tenor_settle.map told=some (JH (aA cf_tenor_settle)):=by kernel_rfl
theorem BQ:tree jU=pk po:=ah nY
theorem xX:round 0 [] [] [2,6,7] [] (po 0)=kN po:=ax nY 0 fun _=>rfl
theorem Cr:cf_tenor_settle=some jU:=af nY
noncomputable def cf_tenor_skip:Option PC:=av {ctx with fr:=[6,7,2],nh:=[]} Tryz.f216 ((aa aq 216).getD default) [3,9]
noncomputable def nq:PC:=hpc cf_tenor_skip
noncomputable def jf:Nat→PC:=hbd cf_tenor_skip
def IZ (b:Nat→PC):PC:=.block 2 [2,7,14,15] [] (.loop [2,7,14] [] (b 0))
def JM (b:Nat→PC):PC:=.block 0 [2,7,10] [] (.loop [2,7] [] (b 1))
def dy (b:Nat→PC):PT:=
 (.ite (plt r14 r13)
 (.chk (pix r12 r14)
 (.next ⟨[(2,(.pick (.pick (.pick (peq (pc (.setc z3 0 (pn r12 r14)) 0) r1) (ple (pc (.setc z3 0 (pn r12 r14)) 1) r2) pF) (ple r2 (pc (.setc z3 0 (pn r12 r14)) 2)) pF) (ao (pc (.setc z3 0 (pn r12 r14)) 2) (pi 1)) r2)),(7,(.pick (.pick (.pick (peq (pc (.setc z3 0 (pn r12 r14)) 0) r1) (ple (pc (.setc z3 0 (pn r12 r14)) 1) r2) pF) (ple r2 (pc (.setc z3 0 (pn r12 r14)) 2)) pF) pT r7)),(14,(ao r14 (pi 1)))],[]⟩))
 (.exit 2 ⟨[(15,(plt r14 r13))],[]⟩))
def jN (b:Nat→PC):PT:=
 (.ite r7
 (.blockS ⟨[(10,r7)],[]⟩ 1 [2,7,11,12,13,14,15] []
 (.brk ⟨[(14,(pi 0)),(13,(.llen (pc o3 7))),(12,(pc o3 7)),(7,pF)],[]⟩
(IZ b)
 (.next ⟨[],[]⟩))
 (.next ⟨[],[]⟩))
 (.exit 0 ⟨[(10,r7)],[]⟩))
def tl (b:Nat→PC):PT:=
 (.brk ⟨[(7,pT)],[(3,(.mk [r0]))]⟩
(JM b)
 (.ret r2))
def NX (b:Nat→PC):PT×List (Shp×PT):=(tl b,[(.lp 2 [2,7,14,15] [] [2,7,14] [],dy b),(.lp 0 [2,7,10] [] [2,7] [],jN b)])
theorem np:cf_tenor_skip.map told=some (NX (aA cf_tenor_skip)):=by kernel_rfl
theorem Ga:tree nq=tl jf:=ah np
theorem eW:round 2 [2,7,14,15] [] [2,7,14] [] (jf 0)=dy jf:=ax np 0 fun _=>rfl
theorem qC:round 0 [2,7,10] [] [2,7] [] (jf 1)=jN jf:=ax np 1 fun _=>rfl
theorem Gf:cf_tenor_skip=some nq:=af np
noncomputable def cf_calendar_Next:Option PC:=av {ctx with fr:=[6],nh:=[]} Tryz.f217 ((aa aq 217).getD default) [2,4,5]
noncomputable def gO:PC:=hpc cf_calendar_Next
noncomputable def mu:Nat→PC:=hbd cf_calendar_Next
def B3 (b:Nat→PC):PC:=.each r18 [16] [4,5] (some (.tup [(pc o4 0),(pc o5 0)])) (b 0)
def kg (b:Nat→PC):PT:=
 (.exit 1000000007 ⟨[],[(4,(.setc o4 0 r16)),(5,(.setc o5 0 (pi 0)))]⟩)
def mT (b:Nat→PC):PT:=
 (.call ⟨[],[(5,(.con (.agg [(.int 0)]))),(4,(.con (.agg [(.int 0)]))),(2,(.mk [r0]))]⟩ [] 8 120 [r1]
 (.ite (.nt r8)
 (.ret (.tup [(pc (.setc o4 0 (pi 0)) 0),(pc (.setc o5 0 (pi 3)) 0)]))
 (.call ⟨[],[]⟩ [] 15 240 [(mkA 6 o2),r1,(.mn (ao r1 (pi 400)) (pi 100000))]
 (.blockS ⟨[],[]⟩ 0 [] [4,5]
 (.callc ⟨[],[]⟩ [] 18 r15 []
 (.brk ⟨[],[]⟩
(B3 b)
 (.next ⟨[],[]⟩)))
 (.ret (.tup [(pc (.setc o4 0 (pi 0)) 0),(pc (.setc o5 0 (pi 3)) 0)]))))))
def GA (b:Nat→PC):PT×List (Shp×PT):=(mT b,[(.ea [4,5],kg b)])
theorem mj:cf_calendar_Next.map told=some (GA (aA cf_calendar_Next)):=by kernel_rfl
theorem zF:tree gO=mT mu:=ah mj
theorem wS:ri [4,5] (mu 0)=kg mu:=Rq mj 0 fun _=>rfl
theorem zG:cf_calendar_Next=some gO:=af mj
noncomputable def cf_calendar_days:Option PC:=av {ctx with fr:=[6],nh:=[]} Tryz.f240 ((aa aq 240).getD default) [3,4,5]
noncomputable def gZ:PC:=hpc cf_calendar_days
def mV:PT:=
 (.ret (.clo 274 [(.ref (pc (.mk [r1]) 0)),(.ref (pc (.mk [r2]) 0)),(.ref (mkA 6 (.mk [r0])))]))
def Gt (b:Nat→PC):PT×List (Shp×PT):=(mV,[])
theorem uL:cf_calendar_days.map told=some (Gt (aA cf_calendar_days)):=by kernel_rfl
theorem Aq:tree gZ=mV:=ah uL
theorem zW:cf_calendar_days=some gZ:=af uL
noncomputable def cf_calendar_days_1:Option PC:=S8 {ctx with fr:=[5],nh:=[]} Tryz.f274 [(.ref I),(.ref I),(.ref Y0)] [I] 1000 [1000]
noncomputable def da:PC:=hpc cf_calendar_days_1
noncomputable def ko:Nat→PC:=hbd cf_calendar_days_1
def yG (b:Nat→PC):PC:=.block 0 [5,7,8,9] [1000] (.loop [5] [1000] (b 0))
def dK (b:Nat→PC):PT:=
 (.ite (ple r5 (.deref r2))
 (.blockS ⟨[],[]⟩ 1 [12,13,14,15,20] [1000]
 (.call ⟨[],[]⟩ [] 14 121 [(.deref r3),r5]
 (.call ⟨[(15,r14)],[(1000,(.pick (.nt (.nt (.an (.an r14 pT) (.nt pF)))) (.app (.o 1000) (.lst [(.tup [r5])])) (.o 1000)))]⟩ [(15,true)] 18 1000000009 [(.pick (.nt (.nt (.an (.an r14 pT) (.nt pF)))) (.app (.o 1000) (.lst [(.tup [r5])])) (.o 1000))]
 (.ite (.pick r15 (.nt r18) pF)
 (.ret (.o 1000))
 (.next ⟨[],[]⟩))))
 (.next ⟨[(5,(ao r5 (pi 1)))],[]⟩))
 (.exit 0 ⟨[(7,r5),(8,(.deref r2)),(9,(ple r5 (.deref r2)))],[]⟩))
def j9 (b:Nat→PC):PT:=
 (.brk ⟨[(5,(.deref r1))],[]⟩
(yG b)
 (.ret (.o 1000)))
def BW (b:Nat→PC):PT×List (Shp×PT):=(j9 b,[(.lp 0 [5,7,8,9] [1000] [5] [1000],dK b)])
theorem kp:cf_calendar_days_1.map told=some (BW (aA cf_calendar_days_1)):=by kernel_rfl
theorem wZ:tree da=j9 ko:=ah kp
theorem kD:round 0 [5,7,8,9] [1000] [5] [1000] (ko 0)=dK ko:=ax kp 0 fun _=>rfl
theorem wT:cf_calendar_days_1=some da:=af kp
theorem Au:∀yv,S8 {ctx with fr:=[5],nh:=[],yv:=yv} Tryz.f274 [(.ref I),(.ref I),(.ref Y0)] [I] 1000 [1000]=some da:=fun yv=>(show _=cf_calendar_days_1 by kernel_rfl).trans wT
noncomputable def cf_calendar_open:Option PC:=av {ctx with fr:=[4,5,6,7],nh:=[]} Tryz.f121 ((aa aq 121).getD default) [2]
noncomputable def ib:PC:=hpc cf_calendar_open
def mP:PT:=
 (.call ⟨[],[(2,(.mk [r0]))]⟩ [] 10 191 [r1]
 (.chk (pne (pi 7) (pi 0))
 (.call ⟨[(7,(.tget r10 2)),(6,(.tget r10 1))],[]⟩ [] 19 116 [(pc o2 3),(.ai .rem .i64 (ao r1 (pi 5)) (pi 7))]
 (.call ⟨[(21,(.nt r19))],[]⟩ [(21,true)] 28 116 [(pc o2 4),(ao (.ai .mul .i64 (pi 100) r6) r7)]
 (.call ⟨[(31,(.pick r21 (.nt r28) pF))],[]⟩ [(31,true)] 35 116 [(pc o2 5),r1]
 (.ret (.pick r31 (.nt r35) pF)))))))
def Gg (b:Nat→PC):PT×List (Shp×PT):=(mP,[])
theorem ui:cf_calendar_open.map told=some (Gg (aA cf_calendar_open)):=by kernel_rfl
theorem zL:tree ib=mP:=ah ui
theorem Ap:cf_calendar_open=some ib:=af ui
noncomputable def cf_bind_view_effect:Option PC:=av {ctx with fr:=[],nh:=[]} Tryz.f62 ((aa aq 62).getD default) [2,4,5,6]
noncomputable def dW:PC:=hpc cf_bind_view_effect
def iI:PT:=
 (.chk (pix (pc (.mk [r0]) 25) r1)
 (.call ⟨[],[(6,(.setc (.con (.agg [(.int 0),(.int 0),(.int 0),(.int 0),(.int 0),(.int 0),(.bool false)])) 0 (.mk [r1,(pc (.setc z9 0 (pn (pc (.mk [r0]) 25) r1)) 0),(pc (.setc z9 0 (pn (pc (.mk [r0]) 25) r1)) 2),(pi 0),(pi 0),(pi 0),(.pick (pne (pc (.setc z9 0 (pn (pc (.mk [r0]) 25) r1)) 0) (pi 1)) (peq (.ai .and .i64 (pc (.setc z9 0 (pn (pc (.mk [r0]) 25) r1)) 8) (pi 1)) (pi 0)) pF)]))),(5,(.setc z9 0 (pn (pc (.mk [r0]) 25) r1))),(4,(.con (.agg [(.int 0),(.int 0),(.int 0),(.int 0),(.int 0),(.int 0),(.bool false)]))),(2,(.mk [r0]))]⟩ [] 33 131 [(.mk [(pc (.mk [r0]) 10),(pc (.mk [r0]) 11),(pc (.mk [r0]) 12),(pc (.mk [r0]) 13),(pc (.mk [r0]) 14),(pc (.mk [r0]) 15),(pc (.mk [r0]) 16),(pc (.mk [r0]) 17),(pc (.mk [r0]) 18),(pc (.mk [r0]) 19),(pc (.mk [r0]) 20),(pc (.mk [r0]) 21),(pc (.mk [r0]) 22),(pc (.mk [r0]) 23),(pc (.mk [r0]) 24),(pc (.mk [r0]) 25),(pc (.mk [r0]) 26),(pc (.mk [r0]) 27),(pc (.mk [r0]) 28)]),r1,(pc (.mk [r0]) 9)]
 (.iteS ⟨[],[]⟩ (.nt r33) [] [6]
 (.call ⟨[(36,(pc o2 29))],[]⟩ [] 39 132 [(mkA 31 o2),(pi 1),r1]
 (.call ⟨[],[]⟩ [] 42 132 [(mkA 31 o2),(pi 2),r1]
 (.call ⟨[],[]⟩ [] 44 65 [(.lst [r36,r39,r42])]
 (.next ⟨[],[(6,(.setc o6 3 r44))]⟩))))
 (.next ⟨[],[]⟩)
 (.call ⟨[],[]⟩ [] 49 133 [(mkA 31 o2),r1]
 (.ret (mkA 7 (.setc o4 0 (mkA 7 (.pick (.pick (peq (pc o5 0) (pi 1)) pT (peq (pc o5 0) (pi 4))) (.setc (.setc (.setc o6 4 (.tget r49 0)) 5 (.tget r49 1)) 5 (.mn (pc (.setc (.setc o6 4 (.tget r49 0)) 5 (.tget r49 1)) 5) (pc o5 5))) (.setc (.setc o6 4 (.tget r49 0)) 5 (.tget r49 1)))))))))))
def An (b:Nat→PC):PT×List (Shp×PT):=(iI,[])
theorem pH:cf_bind_view_effect.map told=some (An (aA cf_bind_view_effect)):=by kernel_rfl
theorem va:tree dW=iI:=ah pH
theorem vh:cf_bind_view_effect=some dW:=af pH
noncomputable def cf_title_Struck:Option PC:=av {ctx with fr:=[6],nh:=[]} Tryz.f131 ((aa aq 131).getD default) [3]
noncomputable def jF:PC:=hpc cf_title_Struck
def oM:PT:=
 (.call ⟨[(16,(.pick (pge r1 (pi 0)) (plt r1 (.llen (pc (.mk [r0]) 15))) pF))],[]⟩ [(16,true)] 19 196 [(mkA 19 (.mk [r0])),r2]
 (.ret (.pick r16 (.look r19 r1 pF) pF)))
def Iw (b:Nat→PC):PT×List (Shp×PT):=(oM,[])
theorem wD:cf_title_Struck.map told=some (Iw (aA cf_title_Struck)):=by kernel_rfl
theorem BX:tree jF=oM:=ah wD
theorem Bx:cf_title_Struck=some jF:=af wD
noncomputable def cf_title_struck:Option PC:=av {ctx with fr:=[4],nh:=[]} Tryz.f196 ((aa aq 196).getD default) [2,5,7]
noncomputable def jJ:PC:=hpc cf_title_struck
noncomputable def ph:Nat→PC:=hbd cf_title_struck
def E0 (b:Nat→PC):PC:=.block 0 [12,13] [5] (.loop [12] [5] (b 0))
def dJ (b:Nat→PC):PT:=
 (.ite (plt r12 r11)
 (.chk (pix r10 r12)
 (.ite (.pick (peq (pc (.setc z9 0 (pn r10 r12)) 0) (pi 7)) (ple (pc (.setc z9 0 (pn r10 r12)) 6) r1) pF)
 (.chk (plt (.mlen o5) (pi 4294967296))
 (.next ⟨[(12,(ao r12 (pi 1)))],[(5,(.put o5 (pc (.setc z9 0 (pn r10 r12)) 4) pT))]⟩))
 (.next ⟨[(12,(ao r12 (pi 1)))],[]⟩)))
 (.exit 0 ⟨[(13,(plt r12 r11))],[]⟩))
def oA (b:Nat→PC):PT:=
 (.brk ⟨[(12,(pi 0)),(11,(.llen (pc (.mk [r0]) 17))),(10,(pc (.mk [r0]) 17)),(5,pN)],[(5,(.con (.map [])))]⟩
(E0 b)
 (.ret o5))
def IV (b:Nat→PC):PT×List (Shp×PT):=(oA b,[(.lp 0 [12,13] [5] [12] [5],dJ b)])
theorem oc:cf_title_struck.map told=some (IV (aA cf_title_struck)):=by kernel_rfl
theorem Ba:tree jJ=oA ph:=ah oc
theorem gx:round 0 [12,13] [5] [12] [5] (ph 0)=dJ ph:=ax oc 0 fun _=>rfl
theorem Cp:cf_title_struck=some jJ:=af oc
noncomputable def cf_bind_view_says:Option PC:=av {ctx with fr:=[6],nh:=[]} Tryz.f132 ((aa aq 132).getD default) [3,7]
noncomputable def ga:PC:=hpc cf_bind_view_says
def lS:PT:=
 (.call ⟨[],[]⟩ [] 23 36 [(mkA 8 (.mk [r0])),(pc (.mk [r0]) 8),r1,(mkA 24 (.setc (.con (.agg [(.int 0),(.int 0),(.int 0),(.int 0),(.int 0),(.int 0),(.int 0),(.int 0),(.int 0),(.int 0),(.int 0),(.int 0),(.int 0),(.int 0),(.int 0),(.list []),(.list []),(.list []),(.list []),(.int 0),(.int 0),(.int 0),(.int 0),(.int 0)])) 0 (.mk [(.mk [(pc (.mk [r0]) 10),(pc (.mk [r0]) 11),(pc (.mk [r0]) 12),(pc (.mk [r0]) 13),(pc (.mk [r0]) 14),(pc (.mk [r0]) 15),(pc (.mk [r0]) 16),(pc (.mk [r0]) 17),(pc (.mk [r0]) 18),(pc (.mk [r0]) 19),(pc (.mk [r0]) 20),(pc (.mk [r0]) 21),(pc (.mk [r0]) 22),(pc (.mk [r0]) 23),(pc (.mk [r0]) 24),(pc (.mk [r0]) 25),(pc (.mk [r0]) 26),(pc (.mk [r0]) 27),(pc (.mk [r0]) 28)]),r2,r2,(pi (-1)),(pc (.mk [r0]) 30),(pc (.mk [r0]) 9)])))]
 (.call ⟨[],[]⟩ [] 24 41 [r23]
 (.ret r24)))
def EJ (b:Nat→PC):PT×List (Shp×PT):=(lS,[])
theorem su:cf_bind_view_says.map told=some (EJ (aA cf_bind_view_says)):=by kernel_rfl
theorem yk:tree ga=lS:=ah su
theorem yt:cf_bind_view_says=some ga:=af su
noncomputable def cf_bind_join:Option PC:=av {ctx with fr:=[2,3,5,12,15],nh:=[]} Tryz.f65 ((aa aq 65).getD default) []
noncomputable def qe:PC:=hpc cf_bind_join
noncomputable def uZ:Nat→PC:=hbd cf_bind_join
def Mb (b:Nat→PC):PC:=.block 0 [2,3,8,9] [] (.loop [2,3,8] [] (b 0))
def gG (b:Nat→PC):PT:=
 (.ite (plt r8 r7)
 (.chk (pix r6 r8)
 (.ite (peq (pn r6 r8) (pi 0))
 (.ret (pi 0))
 (.next ⟨[(3,(.pick (peq (pn r6 r8) (pi 2)) (pi 2) r3)),(8,(ao r8 (pi 1)))],[]⟩)))
 (.exit 0 ⟨[(9,(plt r8 r7))],[]⟩))
def vM (b:Nat→PC):PT:=
 (.brk ⟨[(8,(pi 0)),(7,(.llen r0)),(6,r0),(3,(pi 1)),(2,(pi 0))],[]⟩
(Mb b)
 (.ret r3))
def Rj (b:Nat→PC):PT×List (Shp×PT):=(vM b,[(.lp 0 [2,3,8,9] [] [2,3,8] [],gG b)])
theorem vp:cf_bind_join.map told=some (Rj (aA cf_bind_join)):=by kernel_rfl
theorem I3:tree qe=vM uZ:=ah vp
theorem lb:round 0 [2,3,8,9] [] [2,3,8] [] (uZ 0)=gG uZ:=ax vp 0 fun _=>rfl
theorem J0:cf_bind_join=some qe:=af vp
noncomputable def cf_bind_view_text:Option PC:=av {ctx with fr:=[4,5,6,7,10,50,54],nh:=[]} Tryz.f133 ((aa aq 133).getD default) [2,9]
noncomputable def fQ:PC:=hpc cf_bind_view_text
noncomputable def lf:Nat→PC:=hbd cf_bind_view_text
def Af (b:Nat→PC):PC:=.block 0 [7,23,24] [] (.loop [7,23] [] (b 0))
def cB (b:Nat→PC):PT:=
 (.ite (plt r23 r22)
 (.chk (pix r21 r23)
 (.next ⟨[(7,(.pick r7 pT (pgt (pc (.setc z2 0 (pn r21 r23)) 0) r1))),(23,(ao r23 (pi 1)))],[]⟩))
 (.exit 0 ⟨[(24,(plt r23 r22))],[]⟩))
def kX (b:Nat→PC):PT:=
 (.call ⟨[(5,(pi 0))],[(2,(.mk [r0]))]⟩ [] 14 197 [(.mk [(pc (.mk [r0]) 10),(pc (.mk [r0]) 11),(pc (.mk [r0]) 12),(pc (.mk [r0]) 13),(pc (.mk [r0]) 14),(pc (.mk [r0]) 15),(pc (.mk [r0]) 16),(pc (.mk [r0]) 17),(pc (.mk [r0]) 18),(pc (.mk [r0]) 19),(pc (.mk [r0]) 20),(pc (.mk [r0]) 21),(pc (.mk [r0]) 22),(pc (.mk [r0]) 23),(pc (.mk [r0]) 24),(pc (.mk [r0]) 25),(pc (.mk [r0]) 26),(pc (.mk [r0]) 27),(pc (.mk [r0]) 28)]),r1]
 (.brk ⟨[(23,(pi 0)),(22,(.llen (pc o2 26))),(21,(pc o2 26)),(7,pF),(6,(.llen (pc o2 26))),(5,r14)],[]⟩
(Af b)
 (.ite (.nt r7)
 (.ret (.tup [(pi 0),r5]))
 (.chk (pix (pc o2 26) (aB r6 (pi 1)))
 (.call ⟨[(10,(pc (pn (pc o2 26) (aB r6 (pi 1))) 1))],[]⟩ [] 48 132 [(mkA 31 o2),(pi 4),r1]
 (.ite (peq r48 (pi 1))
 (.ret (.tup [r48,r10]))
 (.ite (peq r48 (pi 2))
 (.ret (.tup [r48,(.mn r5 r10)]))
 (.ret (.tup [r48,r5])))))))))
def Dq (b:Nat→PC):PT×List (Shp×PT):=(kX b,[(.lp 0 [7,23,24] [] [7,23] [],cB b)])
theorem l6:cf_bind_view_text.map told=some (Dq (aA cf_bind_view_text)):=by kernel_rfl
theorem xm:tree fQ=kX lf:=ah l6
theorem eY:round 0 [7,23,24] [] [7,23] [] (lf 0)=cB lf:=ax l6 0 fun _=>rfl
theorem yq:cf_bind_view_text=some fQ:=af l6
noncomputable def cf_paper_SumAt:Option PC:=av {ctx with fr:=[4,5],nh:=[]} Tryz.f197 ((aa aq 197).getD default) [2,7]
noncomputable def kZ:PC:=hpc cf_paper_SumAt
noncomputable def qO:Nat→PC:=hbd cf_paper_SumAt
def FY (b:Nat→PC):PC:=.block 0 [5,14,15] [] (.loop [5,14] [] (b 0))
def ia (b:Nat→PC):PT:=
 (.ite (plt r14 r13)
 (.chk (pix r12 r14)
 (.next ⟨[(5,(.pick (ple (pc (.setc z2 0 (pn r12 r14)) 0) r1) (pc (.setc z2 0 (pn r12 r14)) 1) r5)),(14,(ao r14 (pi 1)))],[]⟩))
 (.exit 0 ⟨[(15,(plt r14 r13))],[]⟩))
def qx (b:Nat→PC):PT:=
 (.brk ⟨[(14,(pi 0)),(13,(.llen (pc (.mk [r0]) 16))),(12,(pc (.mk [r0]) 16)),(5,(pc (.mk [r0]) 3))],[]⟩
(FY b)
 (.ret r5))
def Ky (b:Nat→PC):PT×List (Shp×PT):=(qx b,[(.lp 0 [5,14,15] [] [5,14] [],ia b)])
theorem rf:cf_paper_SumAt.map told=some (Ky (aA cf_paper_SumAt)):=by kernel_rfl
theorem DG:tree kZ=qx qO:=ah rf
theorem pE:round 0 [5,14,15] [] [5,14] [] (qO 0)=ia qO:=ax rf 0 fun _=>rfl
theorem EG:cf_paper_SumAt=some kZ:=af rf
noncomputable def cf_bind_Effects:Option PC:=av {ctx with fr:=[8,11],nh:=[]} Tryz.f20 ((aa aq 20).getD default) [4,6,9,10,28]
noncomputable def jT:PC:=hpc cf_bind_Effects
noncomputable def nR:Nat→PC:=hbd cf_bind_Effects
def Es (b:Nat→PC):PC:=.block 0 [10,21,22] [10] (.loop [10,21] [10] (b 0))
def gg (b:Nat→PC):PT:=
 (.ite (plt r21 r20)
 (.blockS ⟨[],[]⟩ 1 [10,11,23,25,26,27,28,29] [10,28]
 (.call ⟨[],[]⟩ [] 27 62 [(mkA 31 o9),r21]
 (.chk (ple (.llen (.app o10 (.lst [r27]))) (pi 4294967296))
 (.next ⟨[(10,pN)],[(10,(.app o10 (.lst [r27])))]⟩)))
 (.next ⟨[(21,(ao r21 (pi 1)))],[]⟩))
 (.exit 0 ⟨[(22,(plt r21 r20))],[]⟩))
def pf (b:Nat→PC):PT:=
 (.call ⟨[],[]⟩ [] 16 61 [(mkA 8 (.mk [r0])),r1,(mkA 19 (.mk [r2])),r3]
 (.brk ⟨[(21,(pi 0)),(20,(.llen (pc (.setc (.con (.agg [(.list []),(.list []),(.list []),(.list []),(.list []),(.list []),(.list []),(.list []),(.int 0),(.int 0),(.int 0),(.int 0),(.int 0),(.int 0),(.int 0),(.int 0),(.int 0),(.int 0),(.int 0),(.int 0),(.int 0),(.int 0),(.int 0),(.int 0),(.int 0),(.list []),(.list []),(.list []),(.list []),(.int 0),(.int 0)])) 0 r16) 25))),(10,pN)],[(10,pL),(9,(.setc (.con (.agg [(.list []),(.list []),(.list []),(.list []),(.list []),(.list []),(.list []),(.list []),(.int 0),(.int 0),(.int 0),(.int 0),(.int 0),(.int 0),(.int 0),(.int 0),(.int 0),(.int 0),(.int 0),(.int 0),(.int 0),(.int 0),(.int 0),(.int 0),(.int 0),(.list []),(.list []),(.list []),(.list []),(.int 0),(.int 0)])) 0 r16))]⟩
(Es b)
 (.ret o10)))
def Iz (b:Nat→PC):PT×List (Shp×PT):=(pf b,[(.lp 0 [10,21,22] [10] [10,21] [10],gg b)])
theorem pj:cf_bind_Effects.map told=some (Iz (aA cf_bind_Effects)):=by kernel_rfl
theorem BN:tree jT=pf nR:=ah pj
theorem nO:round 0 [10,21,22] [10] [10,21] [10] (nR 0)=gg nR:=ax pj 0 fun _=>rfl
theorem Cu:cf_bind_Effects=some jT:=af pj
noncomputable def cf_r23_Same:Option PC:=av {ctx with fr:=[4,5],nh:=[]} Tryz.f19 ((aa aq 19).getD default) []
noncomputable def sA:PC:=hpc cf_r23_Same
noncomputable def xt:Nat→PC:=hbd cf_r23_Same
def OY (b:Nat→PC):PC:=.block 0 [4,5,11,12,13,14] [] (.loop [4,5] [] (b 0))
def jn (b:Nat→PC):PT:=
 (.ite (plt r5 (.llen r0))
 (.chk (pix r0 r5)
 (.chk (pix r1 r5)
 (.ite (.nt (.an (peq (pc (pn r0 r5) 0) (pc (pn r1 r5) 0)) (.an (peq (pc (pn r0 r5) 1) (pc (pn r1 r5) 1)) (.an (peq (pc (pn r0 r5) 2) (pc (pn r1 r5) 2)) (.an (peq (pc (pn r0 r5) 3) (pc (pn r1 r5) 3)) (.an (peq (pc (pn r0 r5) 4) (pc (pn r1 r5) 4)) (.an (peq (pc (pn r0 r5) 5) (pc (pn r1 r5) 5)) (.an (.cb .eql (pc (pn r0 r5) 6) (pc (pn r1 r5) 6)) pT))))))))
 (.ret pF)
 (.next ⟨[(5,(ao r5 (pi 1)))],[]⟩))))
 (.exit 0 ⟨[(11,r5),(12,r0),(13,(.llen r0)),(14,(plt r5 (.llen r0)))],[]⟩))
def xh (b:Nat→PC):PT:=
 (.ite (pne (.llen r0) (.llen r1))
 (.ret pF)
 (.brk ⟨[(5,(pi 0)),(4,pF)],[]⟩
(OY b)
 (.ret pT)))
def S5 (b:Nat→PC):PT×List (Shp×PT):=(xh b,[(.lp 0 [4,5,11,12,13,14] [] [4,5] [],jn b)])
theorem yo:cf_r23_Same.map told=some (S5 (aA cf_r23_Same)):=by kernel_rfl
theorem Ls:tree sA=xh xt:=ah yo
theorem mm:round 0 [4,5,11,12,13,14] [] [4,5] [] (xt 0)=jn xt:=ax yo 0 fun _=>rfl
theorem KF:cf_r23_Same=some sA:=af yo
noncomputable def cf_bind_And:Option PC:=av {ctx with fr:=[4],nh:=[]} Tryz.f22 ((aa aq 22).getD default) []
noncomputable def sC:PC:=hpc cf_bind_And
def yY:PT:=
 (.call ⟨[],[]⟩ [] 8 65 [(.lst [r0,r1])]
 (.ret r8))
def Sb (b:Nat→PC):PT×List (Shp×PT):=(yY,[])
theorem HY:cf_bind_And.map told=some (Sb (aA cf_bind_And)):=by kernel_rfl
theorem Lj:tree sC=yY:=ah HY
theorem K7:cf_bind_And=some sC:=af HY
noncomputable def cf_l23_few:Option PC:=av {ctx with fr:=[4],nh:=[]} Tryz.f16 ((aa aq 16).getD default) [2,3]
noncomputable def uT:PC:=hpc cf_l23_few
def Bb:PT:=
 (.call ⟨[],[(2,(.mk [r0]))]⟩ [] 7 59 [(mkA 8 (.mk [r0])),(mkA 19 (.mk [r1]))]
 (.call ⟨[(8,r7)],[]⟩ [(8,true)] 10 60 [(mkA 8 o2)]
 (.ret (.pick r8 (peq r10 (pi 0)) pF))))
def Vq (b:Nat→PC):PT×List (Shp×PT):=(Bb,[])
theorem LD:cf_l23_few.map told=some (Vq (aA cf_l23_few)):=by kernel_rfl
theorem O5:tree uT=Bb:=ah LD
theorem OJ:cf_l23_few=some uT:=af LD
noncomputable def cf_r21_Few:Option PC:=av {ctx with fr:=[4,5],nh:=[]} Tryz.f59 ((aa aq 59).getD default) [2,3]
noncomputable def uY:PC:=hpc cf_r21_Few
noncomputable def Br:Nat→PC:=hbd cf_r21_Few
def Qt (b:Nat→PC):PC:=.block 0 [4,5,14,15,16,17,18] [] (.loop [4,5] [] (b 0))
def lZ (b:Nat→PC):PT:=
 (.ite (plt r5 (.llen (pc o2 4)))
 (.blockS ⟨[],[]⟩ 1 [4,21,22,23,24,25,26,27] []
 (.chk (pix (pc o2 4) r5)
 (.call ⟨[],[]⟩ [] 26 125 [(pn (pc o2 4) r5)]
 (.ite (.nt r26)
 (.ret pF)
 (.next ⟨[],[]⟩))))
 (.next ⟨[(5,(ao r5 (pi 1)))],[]⟩))
 (.exit 0 ⟨[(14,r5),(15,pN),(16,(pc o2 4)),(17,(.llen (pc o2 4))),(18,(plt r5 (.llen (pc o2 4))))],[]⟩))
def Cd (b:Nat→PC):PT:=
 (.call ⟨[(4,pF)],[(3,(.mk [r1])),(2,(.mk [r0]))]⟩ [] 7 123 [(mkA 8 (.mk [r0]))]
 (.call ⟨[(9,(.nt r7))],[]⟩ [(9,false)] 11 124 [(mkA 19 o3)]
 (.ite (.pick r9 pT (.nt r11))
 (.ret pF)
 (.brk ⟨[(5,(pi 0))],[]⟩
(Qt b)
 (.ret pT)))))
def Ve (b:Nat→PC):PT×List (Shp×PT):=(Cd b,[(.lp 0 [4,5,14,15,16,17,18] [] [4,5] [],lZ b)])
theorem Ct:cf_r21_Few.map told=some (Ve (aA cf_r21_Few)):=by kernel_rfl
theorem O1:tree uY=Cd Br:=ah Ct
theorem pA:round 0 [4,5,14,15,16,17,18] [] [4,5] [] (Br 0)=lZ Br:=ax Ct 0 fun _=>rfl
theorem OB:cf_r21_Few=some uY:=af Ct
noncomputable def cf_r09_Few:Option PC:=av {ctx with fr:=[2,3,4],nh:=[]} Tryz.f123 ((aa aq 123).getD default) [1]
noncomputable def vK:PC:=hpc cf_r09_Few
noncomputable def q6:Nat→PC:=hbd cf_r09_Few
def Rf (b:Nat→PC):PC:=.block 0 [2,3,5,6,7,8,9,10,13] [] (.loop [2,3] [] (b 0))
def Qs (b:Nat→PC):PC:=.block 2 [2,4,44,45,46,47,48,49,52] [] (.loop [2,4] [] (b 1))
def ff (b:Nat→PC):PT:=
 (.ite (.pick (plt r3 (.llen (pc o1 1))) (plt r3 (pi 50)) pF)
 (.chk (pix (pc o1 1) r3)
 (.chk (.nt (.an (.an (.nt (pgt (.llen (pc (pn (pc o1 1) r3) 4)) (pi 70))) pT) (.nt (pix (pc o1 1) r3))))
 (.chk (.nt (.an (.an (.nt (.pick (pgt (.llen (pc (pn (pc o1 1) r3) 4)) (pi 70)) pT (pgt (.llen (pc (pn (pc o1 1) r3) 5)) (pi 210)))) pT) (.nt (pix (pc o1 1) r3))))
 (.ite (.pick (.pick (pgt (.llen (pc (pn (pc o1 1) r3) 4)) (pi 70)) pT (pgt (.llen (pc (pn (pc o1 1) r3) 5)) (pi 210))) pT (pgt (.llen (pc (pn (pc o1 1) r3) 3)) (pi 8)))
 (.ret pF)
 (.next ⟨[(3,(ao r3 (pi 1)))],[]⟩)))))
 (.exit 0 ⟨[(5,r3),(6,pN),(7,(pc o1 1)),(8,(.llen (pc o1 1))),(9,(plt r3 (.llen (pc o1 1)))),(10,(plt r3 (.llen (pc o1 1)))),(13,(.pick (plt r3 (.llen (pc o1 1))) (plt r3 (pi 50)) pF))],[]⟩))
def gS (b:Nat→PC):PT:=
 (.ite (.pick (plt r4 (.llen (pc o1 4))) (plt r4 (pi 50)) pF)
 (.chk (pix (pc o1 4) r4)
 (.chk (.nt (.an (.an (.nt (pgt (.llen (pc (pn (pc o1 4) r4) 2)) (pi 40))) pT) (.nt (pix (pc o1 4) r4))))
 (.ite (.pick (pgt (.llen (pc (pn (pc o1 4) r4) 2)) (pi 40)) pT (pgt (.llen (pc (pn (pc o1 4) r4) 3)) (pi 40)))
 (.ret pF)
 (.next ⟨[(4,(ao r4 (pi 1)))],[]⟩))))
 (.exit 2 ⟨[(44,r4),(45,pN),(46,(pc o1 4)),(47,(.llen (pc o1 4))),(48,(plt r4 (.llen (pc o1 4)))),(49,(plt r4 (.llen (pc o1 4)))),(52,(.pick (plt r4 (.llen (pc o1 4))) (plt r4 (pi 50)) pF))],[]⟩))
def BO (b:Nat→PC):PT:=
 (.brk ⟨[(3,(pi 0)),(2,pF)],[(1,(.mk [r0]))]⟩
(Rf b)
 (.brk ⟨[(4,(pi 0))],[]⟩
(Qs b)
 (.ret (.pick (.pick (.pick (.pick (.pick (.pick (.pick (plt (.llen (pc o1 0)) (pi 50)) (plt (.llen (pc o1 1)) (pi 50)) pF) (plt (.llen (pc o1 2)) (pi 50)) pF) (plt (.llen (pc o1 3)) (pi 210)) pF) (plt (.llen (pc o1 4)) (pi 50)) pF) (plt (.llen (pc o1 5)) (pi 110)) pF) (plt (.llen (pc o1 6)) (pi 110)) pF) (plt (.llen (pc o1 7)) (pi 50)) pF))))
def UA (b:Nat→PC):PT×List (Shp×PT):=(BO b,[(.lp 0 [2,3,5,6,7,8,9,10,13] [] [2,3] [],ff b),(.lp 2 [2,4,44,45,46,47,48,49,52] [] [2,4] [],gS b)])
theorem vL:cf_r09_Few.map told=some (UA (aA cf_r09_Few)):=by kernel_rfl
theorem N3:tree vK=BO q6:=ah vL
theorem fA:round 0 [2,3,5,6,7,8,9,10,13] [] [2,3] [] (q6 0)=ff q6:=ax vL 0 fun _=>rfl
theorem jy:round 2 [2,4,44,45,46,47,48,49,52] [] [2,4] [] (q6 1)=gS q6:=ax vL 1 fun _=>rfl
theorem Of:cf_r09_Few=some vK:=af vL
noncomputable def cf_r14_Few:Option PC:=av {ctx with fr:=[2],nh:=[]} Tryz.f124 ((aa aq 124).getD default) [1]
noncomputable def vx:PC:=hpc cf_r14_Few
def B5:PT:=
 (.ret (.pick (.pick (.pick (ple (.llen (pc (.mk [r0]) 15)) (pi 50)) (ple (.llen (pc (.mk [r0]) 16)) (pi 10)) pF) (ple (.llen (pc (.mk [r0]) 17)) (pi 110)) pF) (ple (.llen (pc (.mk [r0]) 18)) (pi 220)) pF))
def U2 (b:Nat→PC):PT×List (Shp×PT):=(B5,[])
theorem ND:cf_r14_Few.map told=some (U2 (aA cf_r14_Few)):=by kernel_rfl
theorem OG:tree vx=B5:=ah ND
theorem NK:cf_r14_Few=some vx:=af ND
noncomputable def cf_r18_Few:Option PC:=av {ctx with fr:=[2,3],nh:=[]} Tryz.f125 ((aa aq 125).getD default) [1]
noncomputable def vz:PC:=hpc cf_r18_Few
noncomputable def Cc:Nat→PC:=hbd cf_r18_Few
def Q7 (b:Nat→PC):PC:=.block 0 [2,3,14,15,16,17,18] [] (.loop [2,3] [] (b 0))
def lI (b:Nat→PC):PT:=
 (.ite (plt r3 (.llen (pc o1 3)))
 (.blockS ⟨[],[]⟩ 1 [2,21,22,23,24,25,26,27,28] []
 (.chk (pix (pc o1 3) r3)
 (.call ⟨[],[]⟩ [] 27 192 [(.sub (pn (pc o1 3) r3) 1 3)]
 (.ite (.nt r27)
 (.ret pF)
 (.next ⟨[],[]⟩))))
 (.next ⟨[(3,(ao r3 (pi 1)))],[]⟩))
 (.exit 0 ⟨[(14,r3),(15,pN),(16,(pc o1 3)),(17,(.llen (pc o1 3))),(18,(plt r3 (.llen (pc o1 3))))],[]⟩))
def BA (b:Nat→PC):PT:=
 (.ite (.pick (pgt (.llen (pc (.mk [r0]) 3)) (pi 60)) pT (pgt (.llen (pc (.mk [r0]) 2)) (pi 60)))
 (.ret pF)
 (.brk ⟨[(3,(pi 0)),(2,pF)],[(1,(.mk [r0]))]⟩
(Q7 b)
 (.ret pT)))
def Uu (b:Nat→PC):PT×List (Shp×PT):=(BA b,[(.lp 0 [2,3,14,15,16,17,18] [] [2,3] [],lI b)])
theorem Bu:cf_r18_Few.map told=some (Uu (aA cf_r18_Few)):=by kernel_rfl
theorem O3:tree vz=BA Cc:=ah Bu
theorem oW:round 0 [2,3,14,15,16,17,18] [] [2,3] [] (Cc 0)=lI Cc:=ax Bu 0 fun _=>rfl
theorem NL:cf_r18_Few=some vz:=af Bu
noncomputable def cf_r15_Few:Option PC:=av {ctx with fr:=[2],nh:=[]} Tryz.f192 ((aa aq 192).getD default) [1]
noncomputable def vb:PC:=hpc cf_r15_Few
def BM:PT:=
 (.call ⟨[],[]⟩ [] 4 226 [(.mk [(pc (.mk [r0]) 0),(pc (.mk [r0]) 1),(pc (.mk [r0]) 2)]),(pi 100),(pi 20)]
 (.ret (pge r4 (pi 0))))
def VH (b:Nat→PC):PT×List (Shp×PT):=(BM,[])
theorem Lb:cf_r15_Few.map told=some (VH (aA cf_r15_Few)):=by kernel_rfl
theorem OD:tree vb=BM:=ah Lb
theorem N5:cf_r15_Few=some vb:=af Lb
noncomputable def cf_r15_size:Option PC:=av {ctx with fr:=[6,1,7],nh:=[]} Tryz.f226 ((aa aq 226).getD default) [3]
noncomputable def sJ:PC:=hpc cf_r15_size
noncomputable def y6:Nat→PC:=hbd cf_r15_size
def Og (b:Nat→PC):PC:=.block 0 [1,7,12,13,14,15,16,17,20] [] (.loop [1,7] [] (b 0))
def jb (b:Nat→PC):PT:=
 (.ite (.pick (plt r7 (.llen (pc o3 2))) (pge r1 (pi 0)) pF)
 (.blockS ⟨[],[]⟩ 1 [1,23,24,25,26,27,28,29,30,31] []
 (.chk (pix (pc o3 2) r7)
 (.call ⟨[],[]⟩ [] 31 226 [(pn (pc o3 2) r7),r1,(aB r2 (pi 1))]
 (.next ⟨[(1,r31)],[]⟩)))
 (.next ⟨[(7,(ao r7 (pi 1)))],[]⟩))
 (.exit 0 ⟨[(12,r7),(13,pN),(14,(pc o3 2)),(15,(.llen (pc o3 2))),(16,(plt r7 (.llen (pc o3 2)))),(17,(plt r7 (.llen (pc o3 2)))),(20,(.pick (plt r7 (.llen (pc o3 2))) (pge r1 (pi 0)) pF))],[]⟩))
def sP (b:Nat→PC):PT:=
 (.ite (plt r2 (pi 1))
 (.ret (pi (-1)))
 (.brk ⟨[(7,(pi 0)),(1,(aB r1 (pi 1)))],[(3,(.mk [r0]))]⟩
(Og b)
 (.ret r1)))
def TH (b:Nat→PC):PT×List (Shp×PT):=(sP b,[(.lp 0 [1,7,12,13,14,15,16,17,20] [] [1,7] [],jb b)])
theorem xI:cf_r15_size.map told=some (TH (aA cf_r15_size)):=by kernel_rfl
theorem yE:tree sJ=sP y6:=ah xI
theorem mH:round 0 [1,7,12,13,14,15,16,17,20] [] [1,7] [] (y6 0)=jb y6:=ax xI 0 fun _=>rfl
theorem M5:cf_r15_size=some sJ:=af xI
noncomputable def cf_r09_Check:Option PC:=av {ctx with fr:=[2,3],nh:=[]} Tryz.f60 ((aa aq 60).getD default) [1]
noncomputable def qf:PC:=hpc cf_r09_Check
def vJ:PT:=
 (.call ⟨[],[(1,(.mk [r0]))]⟩ [] 5 126 [(mkA 8 (.mk [r0]))]
 (.iteS ⟨[(3,r5)],[]⟩ (peq r5 (pi 0)) [3] []
 (.call ⟨[],[]⟩ [] 9 127 [(mkA 8 o1)]
 (.next ⟨[(3,r9)],[]⟩))
 (.next ⟨[],[]⟩)
 (.iteS ⟨[],[]⟩ (peq r3 (pi 0)) [3] []
 (.call ⟨[],[]⟩ [] 13 128 [(mkA 8 o1)]
 (.next ⟨[(3,r13)],[]⟩))
 (.next ⟨[],[]⟩)
 (.iteS ⟨[],[]⟩ (peq r3 (pi 0)) [3] []
 (.call ⟨[],[]⟩ [] 17 129 [(mkA 8 o1)]
 (.next ⟨[(3,r17)],[]⟩))
 (.next ⟨[],[]⟩)
 (.iteS ⟨[],[]⟩ (peq r3 (pi 0)) [3] []
 (.call ⟨[],[]⟩ [] 21 130 [(mkA 8 o1)]
 (.next ⟨[(3,r21)],[]⟩))
 (.next ⟨[],[]⟩)
 (.ret r3))))))
def Qw (b:Nat→PC):PT×List (Shp×PT):=(vJ,[])
theorem EV:cf_r09_Check.map told=some (Qw (aA cf_r09_Check)):=by kernel_rfl
theorem JQ:tree qf=vJ:=ah EV
theorem I4:cf_r09_Check=some qf:=af EV
noncomputable def cf_r09_cities:Option PC:=av {ctx with fr:=[2,3,4,6,7],nh:=[]} Tryz.f126 ((aa aq 126).getD default) [1,5,44]
noncomputable def m3:PC:=hpc cf_r09_cities
noncomputable def iZ:Nat→PC:=hbd cf_r09_cities
def IC (b:Nat→PC):PC:=.block 0 [2,3,12,13,14,15,16] [] (.loop [2,3] [] (b 0))
def Jc (b:Nat→PC):PC:=.block 2 [2,5,6,30,31,32,33,34] [5] (.loop [2,5,6] [5] (b 1))
def fE (b:Nat→PC):PT:=
 (.ite (plt r3 (.llen (pc o1 0)))
 (.blockS ⟨[],[]⟩ 1 [2,4,19,20,21,22,23,24] []
 (.call ⟨[],[]⟩ [] 22 193 [(pc o1 0),r3]
 (.ite (pne r22 (pi 0))
 (.ret r22)
 (.next ⟨[],[]⟩)))
 (.next ⟨[(3,(ao r3 (pi 1)))],[]⟩))
 (.exit 0 ⟨[(12,r3),(13,pN),(14,(pc o1 0)),(15,(.llen (pc o1 0))),(16,(plt r3 (.llen (pc o1 0))))],[]⟩))
def fm (b:Nat→PC):PT:=
 (.ite (plt r6 (.llen (pc o1 1)))
 (.blockS ⟨[],[]⟩ 3 [2,5,7,38,39,40,41,42,43,44,45,46,47,48,49,50,52,53,54,55,56,57,58,59] [44,5]
 (.chk (pix (pc o1 1) r6)
 (.chk (ple (.llen (.app o5 (.lst [(pc (pn (pc o1 1) r6) 0)]))) (pi 4294967296))
 (.call ⟨[(5,pN)],[(5,(.app o5 (.lst [(pc (pn (pc o1 1) r6) 0)])))]⟩ [] 48 193 [(.app o5 (.lst [(pc (pn (pc o1 1) r6) 0)])),r6]
 (.ite (pne r48 (pi 0))
 (.ret r48)
 (.chk (pix (pc o1 1) r6)
 (.call ⟨[],[]⟩ [] 58 194 [(mkA 8 o1),(pn (pc o1 1) r6)]
 (.ite (.nt r58)
 (.ret (pi 1))
 (.next ⟨[],[]⟩))))))))
 (.next ⟨[(6,(ao r6 (pi 1)))],[]⟩))
 (.exit 2 ⟨[(30,r6),(31,pN),(32,(pc o1 1)),(33,(.llen (pc o1 1))),(34,(plt r6 (.llen (pc o1 1))))],[]⟩))
def tE (b:Nat→PC):PT:=
 (.ite (pgt (.llen (pc (.mk [r0]) 0)) (pi 8))
 (.ret (pi 6))
 (.brk ⟨[(3,(pi 0)),(2,(pi 0))],[(1,(.mk [r0]))]⟩
(IC b)
 (.ite (pgt (.llen (pc o1 1)) (pi 40))
 (.ret (pi 6))
 (.brk ⟨[(6,(pi 0)),(5,pN)],[(5,pL)]⟩
(Jc b)
 (.ret (pi 0))))))
def Ow (b:Nat→PC):PT×List (Shp×PT):=(tE b,[(.lp 0 [2,3,12,13,14,15,16] [] [2,3] [],fE b),(.lp 2 [2,5,6,30,31,32,33,34] [5] [2,5,6] [5],fm b)])
theorem nk:cf_r09_cities.map told=some (Ow (aA cf_r09_cities)):=by kernel_rfl
theorem F4:tree m3=tE iZ:=ah nk
theorem j7:round 0 [2,3,12,13,14,15,16] [] [2,3] [] (iZ 0)=fE iZ:=ax nk 0 fun _=>rfl
theorem kh:round 2 [2,5,6,30,31,32,33,34] [5] [2,5,6] [5] (iZ 1)=fm iZ:=ax nk 1 fun _=>rfl
theorem FE:cf_r09_cities=some m3:=af nk
noncomputable def cf_r09_named:Option PC:=av {ctx with fr:=[4],nh:=[]} Tryz.f193 ((aa aq 193).getD default) []
noncomputable def qo:PC:=hpc cf_r09_named
def vA:PT:=
 (.chk (pix r0 r1)
 (.call ⟨[],[]⟩ [] 9 227 [(pn r0 r1)]
 (.ite (.nt r9)
 (.ret (pi 2))
 (.chk (pix r0 r1)
 (.call ⟨[],[]⟩ [] 17 228 [r0,r1,(pn r0 r1)]
 (.ite r17
 (.ret (pi 5))
 (.ret (pi 0))))))))
def Qx (b:Nat→PC):PT×List (Shp×PT):=(vA,[])
theorem CP:cf_r09_named.map told=some (Qx (aA cf_r09_named)):=by kernel_rfl
theorem Io:tree qo=vA:=ah CP
theorem Jt:cf_r09_named=some qo:=af CP
noncomputable def cf_r09_Name:Option PC:=av {ctx with fr:=[2,3,4],nh:=[]} Tryz.f227 ((aa aq 227).getD default) []
noncomputable def rX:PC:=hpc cf_r09_Name
noncomputable def yO:Nat→PC:=hbd cf_r09_Name
def OF (b:Nat→PC):PC:=.block 0 [2,3,13,14,15,16] [] (.loop [2,3] [] (b 0))
def jo (b:Nat→PC):PT:=
 (.ite (plt r3 (.slen r0))
 (.blockS ⟨[],[]⟩ 1 [2,4,19,20,21,22,23,34,35,36,37,38,39,40,47] []
 (.chk (.sok r0 r3)
 (.chk (.nt (.an (.an (.nt (peq (.sidx r0 r3) (.con (.v (.int .u8 95))))) pT) (.nt (.sok r0 r3))))
 (.chk (.nt (.an (.an (ple (.con (.v (.int .u8 48))) (.sidx r0 r3)) (.an (.nt (peq (.sidx r0 r3) (.con (.v (.int .u8 95))))) pT)) (.nt (.sok r0 r3))))
 (.call ⟨[(4,(.pick (peq (.sidx r0 r3) (.con (.v (.int .u8 95)))) pT (.pick (ple (.con (.v (.int .u8 48))) (.sidx r0 r3)) (ple (.sidx r0 r3) (.con (.v (.int .u8 57)))) pF)))],[]⟩ [] 38 252 [(.sidx r0 r3)]
 (.ite (.pick (.nt r38) (.pick (peq r3 (pi 0)) pT (.nt r4)) pF)
 (.ret pF)
 (.next ⟨[],[]⟩))))))
 (.next ⟨[(3,(ao r3 (pi 1)))],[]⟩))
 (.exit 0 ⟨[(13,r3),(14,r0),(15,(.slen r0)),(16,(plt r3 (.slen r0)))],[]⟩))
def yW (b:Nat→PC):PT:=
 (.ite (.pick (plt (.slen r0) (pi 1)) pT (pgt (.slen r0) (pi 20)))
 (.ret pF)
 (.brk ⟨[(3,(pi 0)),(2,pF)],[]⟩
(OF b)
 (.ret pT)))
def Tt (b:Nat→PC):PT×List (Shp×PT):=(yW b,[(.lp 0 [2,3,13,14,15,16] [] [2,3] [],jo b)])
theorem xg:cf_r09_Name.map told=some (Tt (aA cf_r09_Name)):=by kernel_rfl
theorem Mc:tree rX=yW yO:=ah xg
theorem mX:round 0 [2,3,13,14,15,16] [] [2,3] [] (yO 0)=jo yO:=ax xg 0 fun _=>rfl
theorem Nd:cf_r09_Name=some rX:=af xg
noncomputable def cf_r09_Letter:Option PC:=av {ctx with fr:=[2],nh:=[]} Tryz.f252 ((aa aq 252).getD default) []
noncomputable def nz:PC:=hpc cf_r09_Letter
def sU:PT:=
 (.ret (.pick (.pick (ple (.con (.v (.int .u8 97))) r0) (ple r0 (.con (.v (.int .u8 122)))) pF) pT (.pick (ple (.con (.v (.int .u8 65))) r0) (ple r0 (.con (.v (.int .u8 90)))) pF)))
def N4 (b:Nat→PC):PT×List (Shp×PT):=(sU,[])
theorem AV:cf_r09_Letter.map told=some (N4 (aA cf_r09_Letter)):=by kernel_rfl
theorem GK:tree nz=sU:=ah AV
theorem GG:cf_r09_Letter=some nz:=af AV
noncomputable def cf_r09_Before:Option PC:=av {ctx with fr:=[6,7],nh:=[]} Tryz.f228 ((aa aq 228).getD default) []
noncomputable def nA:PC:=hpc cf_r09_Before
noncomputable def tg:Nat→PC:=hbd cf_r09_Before
def Jz (b:Nat→PC):PC:=.block 0 [6,7,8,9,10,11,16] [] (.loop [6,7] [] (b 0))
def fj (b:Nat→PC):PT:=
 (.ite (.pick (plt r7 r1) (plt r7 (.llen r0)) pF)
 (.chk (pix r0 r7)
 (.ite (.cs .eql (pn r0 r7) r2)
 (.ret pT)
 (.next ⟨[(7,(ao r7 (pi 1)))],[]⟩)))
 (.exit 0 ⟨[(8,r7),(9,r1),(10,(plt r7 r1)),(11,(plt r7 r1)),(16,(.pick (plt r7 r1) (plt r7 (.llen r0)) pF))],[]⟩))
def tS (b:Nat→PC):PT:=
 (.brk ⟨[(7,(pi 0)),(6,pF)],[]⟩
(Jz b)
 (.ret pF))
def N2 (b:Nat→PC):PT×List (Shp×PT):=(tS b,[(.lp 0 [6,7,8,9,10,11,16] [] [6,7] [],fj b)])
theorem tR:cf_r09_Before.map told=some (N2 (aA cf_r09_Before)):=by kernel_rfl
theorem Gy:tree nA=tS tg:=ah tR
theorem km:round 0 [6,7,8,9,10,11,16] [] [6,7] [] (tg 0)=fj tg:=ax tR 0 fun _=>rfl
theorem G2:cf_r09_Before=some nA:=af tR
end Rm
