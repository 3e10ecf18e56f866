/-
  Shared texts of this claim.
-/
import Derived.Test.YtodhjdbleiakeaaGreatDoorNAK
import Derived.KernelRfl
import Derived.Test.YtodhjdbleiakeaaGreatDoorNAL
import Derived.Test.YtodhjdbleiakeaaGreatDoorNAM
import Derived.Test.YtodhjdbleiakeaaGreatDoorNAN
import Derived.Test.YtodhjdbleiakeaaGreatDoorNAJ
import Derived.WalkKit
import Derived.WalkSpells
import Derived.Lib.SliceRun
import Derived.Lib.AppendZeros
import Derived.Laws.Strings
set_option linter.unusedVariables false
set_option maxRecDepth 100000
namespace Rm
open Go Go.Proofs Cx
noncomputable def GO:Option PC:=aD {ctx with fr:=[6],nh:=[]} Tryz.f210 ((ab af 210).getD default) []
noncomputable def Kg:PC:=az GO
def VC:PT:=
 (.ret (.pick (bV r1 r0) (bV r0 r2) pF))
def aq2 (b:Nat→PC):PT×List (Shp×PT):=(VC,[])
theorem ae4:GO.map told=some (aq2 (ay GO)):=by kernel_rfl
theorem aCO:tree Kg=VC:=aN ae4
theorem am4:GO=some Kg:=aF ae4
noncomputable def Bg:Option PC:=aD {ctx with fr:=[6,7],nh:=[]} Tryz.f259 ((ab af 259).getD default) []
noncomputable def Kf:PC:=az Bg
noncomputable def NG:Nat→PC:=bG Bg
def aws (b:Nat→PC):PC:=.block 0 [6,7,8,9,10,11] [] (.loop [6,7] [] (b 0))
def Eu (b:Nat→PC):PT:=
 (.ite (aj r7 (.llen r0))
 (.blockS ⟨[],[]⟩ 1 [6,14,15,16,17,18,19,20,21,22,23,24,35] []
 (.chk (av r0 r7)
 (.call ⟨[],[]⟩ [] 20 210 [(pn r0 r7),r1,r2]
 (.ite (.nt ed)
 (.ret pF)
 (.chk (.nt (.an (.an (bh r7 (pi 0)) pT) (.nt (av r0 zj))))
 (.chk (.nt (.an (.an (bh r7 (pi 0)) pT) (.nt (av r0 r7))))
 (.ite (.pick (bh r7 (pi 0)) (bR (pn r0 zj) (pn r0 r7)) pF)
 (.ret pF)
 (.next ⟨[],[]⟩)))))))
 (.next ⟨[(7,(aP r7 (pi 1)))],[]⟩))
 (.exit 0 ⟨[(8,r7),(9,r0),(10,(.llen r0)),(11,(aj r7 (.llen r0)))],[]⟩))
def VB (b:Nat→PC):PT:=
 (.brk ⟨[(7,(pi 0)),(6,pF)],[]⟩
(aws b)
 (.ret pT))
def aq1 (b:Nat→PC):PT×List (Shp×PT):=(VB b,[(.lp 0 [6,7,8,9,10,11] [] [6,7] [],Eu b)])
theorem R4:Bg.map told=some (aq1 (ay Bg)):=by kernel_rfl
theorem aCN:tree Kf=VB NG:=aN R4
theorem TF:round 0 [6,7,8,9,10,11] [] [6,7] [] (NG 0)=Eu NG:=bx R4 0 fun _=>rfl
theorem am3:Bg=some Kf:=aF R4
noncomputable def Bi:Option PC:=aD {ctx with fr:=[2,3,5,6],nh:=[]} Tryz.f146 ((ab af 146).getD default) [1,4,44]
noncomputable def Ki:PC:=az Bi
noncomputable def AH:Nat→PC:=bG Bi
def awv (b:Nat→PC):PC:=.block 0 [2,3,11,12,13,14,15] [] (.loop [2,3] [] (b 0))
def aww (b:Nat→PC):PC:=.block 2 [2,4,5,30,31,32,33,34] [4] (.loop [2,4,5] [4] (b 1))
def Ex (b:Nat→PC):PT:=
 (.ite (aj r3 qD)
 (.blockS ⟨[],[]⟩ 1 [2,18,19,20,21,22,23,24,25] []
 (.chk (av (pc o1 2) r3)
 (.call ⟨[],[]⟩ [] 24 210 [(pc (pn (pc o1 2) r3) 0),(pi 0),(pi 9)]
 (.ite (.nt nU)
 (.ret (pi 1))
 (.next ⟨[],[]⟩))))
 (.next ⟨[(3,qF)],[]⟩))
 (.exit 0 ⟨[(11,r3),(12,pN),(13,(pc o1 2)),(14,qD),(15,(aj r3 qD))],[]⟩))
def Ey (b:Nat→PC):PT:=
 (.ite (aj r5 mT)
 (.blockS ⟨[],[]⟩ 3 [2,4,6,38,39,40,41,42,43,44,45,46,47,48,49,50,52,53,54,55,56,57,58,59,60,61,62,63,64,77] [44,4]
 (.chk (av (pc o1 3) r5)
 (.chk (bV (.llen Tc) cW)
 (.call ⟨[(4,pN)],[(4,Tc)]⟩ [] 48 208 [Tc,r5]
 (.ite (ba lW (pi 0))
 (.ret lW)
 (.chk (av (pc o1 3) r5)
 (.call ⟨[],[]⟩ [] 62 210 [(pc (pn (pc o1 3) r5) 1),(pi 0),(bC lb (pi 1))]
 (.chk (.nt (.an (.an (.nt (.nt mV)) pT) (.nt (av (pc o1 3) r5))))
 (.call ⟨[(64,(.nt mV))],[]⟩ [(64,false)] 75 210 [(pc (pn (pc o1 3) r5) 2),(pi 0),(bC qD (pi 1))]
 (.ite (.pick kI pT (.nt zB))
 (.ret (pi 1))
 (.next ⟨[],[]⟩))))))))))
 (.next ⟨[(5,qE)],[]⟩))
 (.exit 2 ⟨[(30,r5),(31,pN),(32,(pc o1 3)),(33,mT),(34,(aj r5 mT))],[]⟩))
def VE (b:Nat→PC):PT:=
 (.ite (bh px (pi 20))
 (.ret (pi 6))
 (.brk ⟨[(3,(pi 0)),(2,(pi 0))],[(1,(.mk [r0]))]⟩
(awv b)
 (.ite (bh mT (pi 200))
 (.ret (pi 6))
 (.brk ⟨[(5,(pi 0)),(4,pN)],[(4,pL)]⟩
(aww b)
 (.ret (pi 0))))))
def aq4 (b:Nat→PC):PT×List (Shp×PT):=(VE b,[(.lp 0 [2,3,11,12,13,14,15] [] [2,3] [],Ex b),(.lp 2 [2,4,5,30,31,32,33,34] [4] [2,4,5] [4],Ey b)])
theorem I8:Bi.map told=some (aq4 (ay Bi)):=by kernel_rfl
theorem aCQ:tree Ki=VE AH:=aN I8
theorem TI:round 0 [2,3,11,12,13,14,15] [] [2,3] [] (AH 0)=Ex AH:=bx I8 0 fun _=>rfl
theorem TJ:round 2 [2,4,5,30,31,32,33,34] [4] [2,4,5] [4] (AH 1)=Ey AH:=bx I8 1 fun _=>rfl
theorem am6:Bi=some Ki:=aF I8
noncomputable def Bj:Option PC:=aD {ctx with fr:=[2,4,5],nh:=[]} Tryz.f147 ((ab af 147).getD default) [1,3,24]
noncomputable def Kk:PC:=az Bj
noncomputable def NH:Nat→PC:=bG Bj
def awx (b:Nat→PC):PC:=.block 0 [2,3,4,10,11,12,13,14] [3] (.loop [2,3,4] [3] (b 0))
def Ez (b:Nat→PC):PT:=
 (.ite (aj r4 nT)
 (.blockS ⟨[],[]⟩ 1 [2,3,5,18,19,20,21,22,23,24,25,26,27,28,29,30,32,33,34,35,36,37,38] [24,3]
 (.chk (av (pc o1 4) r4)
 (.chk (bV (.llen (.app o3 (.lst [(pc wz 0)]))) cW)
 (.call ⟨[(3,pN)],[(3,(.app o3 (.lst [(pc wz 0)])))]⟩ [] 28 208 [(.app o3 (.lst [(pc wz 0)])),r4]
 (.ite (ba qI (pi 0))
 (.ret qI)
 (.chk (av (pc o1 4) r4)
 (.call ⟨[],[]⟩ [] 37 211 [wz]
 (.ite (.nt kH)
 (.ret (pi 1))
 (.next ⟨[],[]⟩))))))))
 (.next ⟨[(4,(aP r4 (pi 1)))],[]⟩))
 (.exit 0 ⟨[(10,r4),(11,pN),(12,(pc o1 4)),(13,nT),(14,(aj r4 nT))],[]⟩))
def VG (b:Nat→PC):PT:=
 (.ite (bh (.llen wC) (pi 20))
 (.ret (pi 6))
 (.brk ⟨[(4,(pi 0)),(3,pN),(2,(pi 0))],[(3,pL),(1,(.mk [r0]))]⟩
(awx b)
 (.ret (pi 0))))
def aq6 (b:Nat→PC):PT×List (Shp×PT):=(VG b,[(.lp 0 [2,3,4,10,11,12,13,14] [3] [2,3,4] [3],Ez b)])
theorem R5:Bj.map told=some (aq6 (ay Bj)):=by kernel_rfl
theorem aCS:tree Kk=VG NH:=aN R5
theorem TK:round 0 [2,3,4,10,11,12,13,14] [3] [2,3,4] [3] (NH 0)=Ez NH:=bx R5 0 fun _=>rfl
theorem am8:Bj=some Kk:=aF R5
noncomputable def Bf:Option PC:=aD {ctx with fr:=[2,3,4],nh:=[]} Tryz.f211 ((ab af 211).getD default) [1]
noncomputable def Ke:PC:=az Bf
noncomputable def AF:Nat→PC:=bG Bf
def awq (b:Nat→PC):PC:=.block 0 [2,3,5,6,7,8,9] [] (.loop [2,3] [] (b 0))
def awr (b:Nat→PC):PC:=.block 2 [2,4,48,49,50,51,52] [] (.loop [2,4] [] (b 1))
def Es (b:Nat→PC):PT:=
 (.ite (aj r3 qD)
 (.blockS ⟨[],[]⟩ 1 [2,12,13,14,15,16,17,18,19,20,29,30,31,32,47] []
 (.chk (av (pc o1 2) r3)
 (.call ⟨[],[]⟩ [] 18 210 [(pc (pn (pc o1 2) r3) 0),(pi 0),(pi 21)]
 (.chk (.nt (.an (.an (.nt (.nt gT)) pT) (.nt (av (pc o1 2) r3))))
 (.call ⟨[(20,(.nt gT))],[]⟩ [(20,false)] 27 210 [(pc (pn (pc o1 2) r3) 1),(pi 0),(pi 4)]
 (.ite (.pick ed pT (.nt eK))
 (.ret pF)
 (.chk (.nt (.an (.an (bh r3 (pi 0)) pT) (.nt (av (pc o1 2) tY))))
 (.chk (.nt (.an (.an (bh r3 (pi 0)) pT) (.nt (av (pc o1 2) r3))))
 (.ite (.pick (bh r3 (pi 0)) (bR (pc (pn (pc o1 2) tY) 0) (pc (pn (pc o1 2) r3) 0)) pF)
 (.ret pF)
 (.next ⟨[],[]⟩)))))))))
 (.next ⟨[(3,qF)],[]⟩))
 (.exit 0 ⟨[(5,r3),(6,pN),(7,(pc o1 2)),(8,qD),(9,(aj r3 qD))],[]⟩))
def Et (b:Nat→PC):PT:=
 (.ite (aj r4 mT)
 (.blockS ⟨[],[]⟩ 3 [2,55,56,57,58,59,60,61,62,63,64,65,80] []
 (.chk (av (pc o1 3) r4)
 (.call ⟨[],[]⟩ [] 61 210 [(pc (pn (pc o1 3) r4) 0),(pi 0),(pi 21)]
 (.ite (.nt wH)
 (.ret pF)
 (.chk (.nt (.an (.an (bh r4 (pi 0)) pT) (.nt (av (pc o1 3) (bC r4 (pi 1))))))
 (.chk (.nt (.an (.an (bh r4 (pi 0)) pT) (.nt (av (pc o1 3) r4))))
 (.ite (.pick (bh r4 (pi 0)) (bR (pc (pn (pc o1 3) (bC r4 (pi 1))) 0) (pc (pn (pc o1 3) r4) 0)) pF)
 (.ret pF)
 (.next ⟨[],[]⟩)))))))
 (.next ⟨[(4,(aP r4 (pi 1)))],[]⟩))
 (.exit 2 ⟨[(48,r4),(49,pN),(50,(pc o1 3)),(51,mT),(52,(aj r4 mT))],[]⟩))
def VA (b:Nat→PC):PT:=
 (.brk ⟨[(3,(pi 0)),(2,pF)],[(1,(.mk [r0]))]⟩
(awq b)
 (.brk ⟨[(4,(pi 0))],[]⟩
(awr b)
 (.ret pT)))
def aq0 (b:Nat→PC):PT×List (Shp×PT):=(VA b,[(.lp 0 [2,3,5,6,7,8,9] [] [2,3] [],Es b),(.lp 2 [2,4,48,49,50,51,52] [] [2,4] [],Et b)])
theorem I6:Bf.map told=some (aq0 (ay Bf)):=by kernel_rfl
theorem aCM:tree Ke=VA AF:=aN I6
theorem TD:round 0 [2,3,5,6,7,8,9] [] [2,3] [] (AF 0)=Es AF:=bx I6 0 fun _=>rfl
theorem TE:round 2 [2,4,48,49,50,51,52] [] [2,4] [] (AF 1)=Et AF:=bx I6 1 fun _=>rfl
theorem am2:Bf=some Ke:=aF I6
noncomputable def Bl:Option PC:=aD {ctx with fr:=[2,3,5],nh:=[]} Tryz.f148 ((ab af 148).getD default) [1,4]
noncomputable def Km:PC:=az Bl
noncomputable def AJ:Nat→PC:=bG Bl
def awA (b:Nat→PC):PC:=.block 2 [2,5,46,47,48] [] (.loop [2,5] [] (b 0))
def awB (b:Nat→PC):PC:=.block 0 [2,3,10,11,12,13,14] [] (.loop [2,3] [] (b 1))
def zH (b:Nat→PC):PT:=
 (.ite (aj r5 r3)
 (.chk (av (pc o1 5) r5)
 (.chk (.nt (.an (.an (aq (pc (pn (pc o1 5) r5) 0) (pc o4 0)) pT) (.nt (av (pc o1 5) r5))))
 (.ite (.pick (aq (pc (pn (pc o1 5) r5) 0) (pc o4 0)) (aq (pc (pn (pc o1 5) r5) 1) (pc o4 1)) pF)
 (.ret (pi 5))
 (.next ⟨[(5,qE)],[]⟩))))
 (.exit 2 ⟨[(46,r5),(47,r3),(48,(aj r5 r3))],[]⟩))
def EC (b:Nat→PC):PT:=
 (.ite (aj r3 zi)
 (.blockS ⟨[(14,(aj r3 zi)),(13,zi),(12,(pc o1 5)),(11,pN),(10,r3)],[]⟩ 1 [2,4,5,17,18,19,20,21,22,23,24,25,26,27,28,29,30,39,40,45,46,47,48] [4]
 (.chk (av (pc o1 5) r3)
 (.call ⟨[],[(4,(.setc z3 0 (pn (pc o1 5) r3)))]⟩ [] 28 210 [(pc (.setc z3 0 (pn (pc o1 5) r3)) 0),(pi 0),(bC lb (pi 1))]
 (.call ⟨[(30,(.nt qI))],[]⟩ [(30,false)] 37 210 [(pc o4 1),(pi 0),(bC lb (pi 1))]
 (.call ⟨[(40,(.pick tZ pT (.nt kH)))],[]⟩ [(40,false)] 43 210 [(pc o4 2),(pi 1),(pi 20000)]
 (.ite (.pick nW pT (.nt qL))
 (.ret (pi 1))
 (.brk ⟨[(5,(pi 0))],[]⟩
(awA b)
 (.next ⟨[],[]⟩)))))))
 (.next ⟨[(3,qF)],[]⟩))
 (.exit 0 ⟨[(10,r3),(11,pN),(12,(pc o1 5)),(13,zi),(14,(aj r3 zi))],[]⟩))
def VI (b:Nat→PC):PT:=
 (.ite (bh (.llen wB) (pi 100))
 (.ret (pi 6))
 (.brk ⟨[(3,(pi 0)),(2,(pi 0))],[(1,(.mk [r0]))]⟩
(awB b)
 (.ret (pi 0))))
def aq8 (b:Nat→PC):PT×List (Shp×PT):=(VI b,[(.lp 2 [2,5,46,47,48] [] [2,5] [],zH b),(.lp 0 [2,3,10,11,12,13,14] [] [2,3] [],EC b)])
theorem Ja:Bl.map told=some (aq8 (ay Bl)):=by kernel_rfl
theorem aCU:tree Km=VI AJ:=aN Ja
theorem L6:round 2 [2,5,46,47,48] [] [2,5] [] (AJ 0)=zH AJ:=bx Ja 0 fun _=>rfl
theorem TN:round 0 [2,3,10,11,12,13,14] [] [2,3] [] (AJ 1)=EC AJ:=bx Ja 1 fun _=>rfl
theorem ana:Bl=some Km:=aF Ja
noncomputable def Bk:Option PC:=aD {ctx with fr:=[2,3,5],nh:=[]} Tryz.f149 ((ab af 149).getD default) [1,4,6]
noncomputable def Kl:PC:=az Bk
noncomputable def AI:Nat→PC:=bG Bk
def awy (b:Nat→PC):PC:=.block 0 [2,3,11,12,13,14,15] [] (.loop [2,3] [] (b 0))
def awz (b:Nat→PC):PC:=.block 2 [2,5,68,69,70,71,72] [] (.loop [2,5] [] (b 1))
def EA (b:Nat→PC):PT:=
 (.ite (aj r3 (.llen (pc o1 6)))
 (.blockS ⟨[],[]⟩ 1 [2,4,18,19,20,21,22,23,24,25,26,27,28,29,30,31,40,41,47,48,49,50,51,52,57,58,63] [4]
 (.chk (av (pc o1 6) r3)
 (.call ⟨[],[(4,(.setc z5 0 (pn (pc o1 6) r3)))]⟩ [] 29 210 [(pc (.setc z5 0 (pn (pc o1 6) r3)) 0),(pi 0),(bC tX (pi 1))]
 (.call ⟨[(31,(.nt nV))],[]⟩ [(31,false)] 38 210 [(pc o4 1),(pi 0),(bC tX (pi 1))]
 (.ite (.pick (.pick qJ pT (.nt iv)) pT (aq (pc o4 0) (pc o4 1)))
 (.ret (pi 1))
 (.call ⟨[],[]⟩ [] 50 210 [(pc o4 2),(pi 1),(pi 1073741824)]
 (.call ⟨[(52,(.nt lX))],[]⟩ [(52,false)] 55 210 [(pc o4 3),(pi 1),(pi 1073741824)]
 (.call ⟨[(58,(.pick LV pT (.nt zy)))],[]⟩ [(58,false)] 61 210 [(pc o4 4),(pi 0),(pi 100000)]
 (.ite (.pick zz pT (.nt wH))
 (.ret (pi 1))
 (.next ⟨[],[]⟩)))))))))
 (.next ⟨[(3,qF)],[]⟩))
 (.exit 0 ⟨[(11,r3),(12,pN),(13,(pc o1 6)),(14,(.llen (pc o1 6))),(15,(aj r3 (.llen (pc o1 6))))],[]⟩))
def EB (b:Nat→PC):PT:=
 (.ite (aj r5 wE)
 (.blockS ⟨[],[]⟩ 3 [2,6,75,76,77,78,79,80,81,82,83,84,85,86,87,88,95,96,100] [6]
 (.chk (av (pc o1 7) r5)
 (.call ⟨[],[(6,(.setc z3 0 (pn (pc o1 7) r5)))]⟩ [] 86 210 [(pc (.setc z3 0 (pn (pc o1 7) r5)) 0),(pi 0),(bC nT (pi 1))]
 (.call ⟨[(88,(.nt r86))],[]⟩ [(88,false)] 93 210 [(pc o6 1),(pi 0),(pc o6 2)]
 (.ite (.pick (.pick LZ pT (.nt zE)) pT (bh (pc o6 2) (pi 100000)))
 (.ret (pi 1))
 (.next ⟨[],[]⟩)))))
 (.next ⟨[(5,qE)],[]⟩))
 (.exit 2 ⟨[(68,r5),(69,pN),(70,(pc o1 7)),(71,wE),(72,(aj r5 wE))],[]⟩))
def VH (b:Nat→PC):PT:=
 (.ite (bh (.llen (pc (.mk [r0]) 6)) (pi 100))
 (.ret (pi 6))
 (.brk ⟨[(3,(pi 0)),(2,(pi 0))],[(1,(.mk [r0]))]⟩
(awy b)
 (.ite (bh wE (pi 20))
 (.ret (pi 6))
 (.brk ⟨[(5,(pi 0))],[]⟩
(awz b)
 (.ret (pi 0))))))
def aq7 (b:Nat→PC):PT×List (Shp×PT):=(VH b,[(.lp 0 [2,3,11,12,13,14,15] [] [2,3] [],EA b),(.lp 2 [2,5,68,69,70,71,72] [] [2,5] [],EB b)])
theorem I9:Bk.map told=some (aq7 (ay Bk)):=by kernel_rfl
theorem aCT:tree Kl=VH AI:=aN I9
theorem TL:round 0 [2,3,11,12,13,14,15] [] [2,3] [] (AI 0)=EA AI:=bx I9 0 fun _=>rfl
theorem TM:round 2 [2,5,68,69,70,71,72] [] [2,5] [] (AI 1)=EB AI:=bx I9 1 fun _=>rfl
theorem am9:Bk=some Kl:=aF I9
noncomputable def A7:Option PC:=aD {ctx with fr:=[4,5,6,7,8,11],nh:=[]} Tryz.f42 ((ab af 42).getD default) [2,3,10]
noncomputable def JZ:PC:=az A7
noncomputable def AD:Nat→PC:=bG A7
def awg (b:Nat→PC):PC:=.block 0 [4,48,49] [] (.loop [4,48] [] (b 0))
def awh (b:Nat→PC):PC:=.block 2 [4,8,62,63] [] (.loop [4,8,62] [] (b 1))
def El (b:Nat→PC):PT:=
 (.ite (aj lW Tk)
 (.blockS ⟨[],[]⟩ 1 [4,6,7,50,51,52,53,54,55,56] []
 (.call ⟨[],[]⟩ [] 54 111 [(aC 8 o2),(aC 19 o3),lW]
 (.ite (ba pz (pi 0))
 (.ret pz)
 (.next ⟨[],[]⟩)))
 (.next ⟨[(48,(aP lW (pi 1)))],[]⟩))
 (.exit 0 ⟨[(49,(aj lW Tk))],[]⟩))
def Em (b:Nat→PC):PT:=
 (.ite (aj mV wH)
 (.blockS ⟨[],[]⟩ 3 [4,8,10,64,65,66,67,68,69,70,71,72,73,74,75,76,77,78,79,80] [10]
 (.chk (av Eg mV)
 (.call ⟨[],[(10,(.setc z2 0 (pn Eg mV)))]⟩ [] 73 112 [(pc (.setc z2 0 (pn Eg mV)) 0),wF,(.llen (pc o3 15))]
 (.ite (.nt Eh)
 (.ret (pi 1))
 (.call ⟨[],[]⟩ [] 77 112 [(pc ct 1),(pi 1),zt]
 (.ite (.nt LY)
 (.ret (pi 3))
 (.next ⟨[(8,(pc ct 0))],[]⟩))))))
 (.next ⟨[(62,(aP mV (pi 1)))],[]⟩))
 (.exit 2 ⟨[(63,(aj mV wH))],[]⟩))
def Vm (b:Nat→PC):PT:=
 (.ite (.pick (.pick (.pick (bh (.llen (pc (.mk [r1]) 15)) (pi 40)) pT (bh (.llen (pc (.mk [r1]) 16)) (pi 4))) pT (bh (.llen (pc (.mk [r1]) 17)) (pi 100))) pT (bh (.llen (pc (.mk [r1]) 18)) (pi 200)))
 (.ret (pi 6))
 (.call ⟨[(4,(pi 0))],[(3,(.mk [r1])),(2,(.mk [r0]))]⟩ [] 37 110 [kD,(aC 15 (.mk [r1]))]
 (.ite (ba kH (pi 0))
 (.ret kH)
 (.ite (aq (.llen (pc o3 15)) (pi 0))
 (.ret (pi 14))
 (.brk ⟨[(48,(pi 0)),(47,(.llen (pc o3 15)))],[]⟩
(awg b)
 (.brk ⟨[(62,(pi 0)),(61,(.llen (pc o3 16))),(60,(pc o3 16)),(8,(pi 0))],[]⟩
(awh b)
 (.call ⟨[],[]⟩ [] 84 113 [(aC 8 o2),(aC 19 o3)]
 (.ite (ba r84 (pi 0))
 (.ret r84)
 (.call ⟨[],[]⟩ [] 89 114 [(aC 19 o3)]
 (.ret Tp))))))))))
def aqL (b:Nat→PC):PT×List (Shp×PT):=(Vm b,[(.lp 0 [4,48,49] [] [4,48] [],El b),(.lp 2 [4,8,62,63] [] [4,8,62] [],Em b)])
theorem I4:A7.map told=some (aqL (ay A7)):=by kernel_rfl
theorem aCx:tree JZ=Vm AD:=aN I4
theorem Tx:round 0 [4,48,49] [] [4,48] [] (AD 0)=El AD:=bx I4 0 fun _=>rfl
theorem Tz:round 2 [4,8,62,63] [] [4,8,62] [] (AD 1)=Em AD:=bx I4 1 fun _=>rfl
theorem amN:A7=some JZ:=aF I4
noncomputable def Hg:Option PC:=aD {ctx with fr:=[4,5,6,7,8,54,80,109,118,9,10],nh:=[]} Tryz.f110 ((ab af 110).getD default) [2,3]
noncomputable def Lv:PC:=az Hg
def WE:PT:=
 (.call ⟨[],[(3,(.mk [r1])),(2,(.mk [r0]))]⟩ [] 12 54 [kD]
 (.ite (ba bY (pi 0))
 (.ret bY)
 (.call ⟨[(7,(.llen (pc o2 1))),(6,(.llen (pc o2 3)))],[]⟩ [] 25 183 [(pc o3 0),(.llen (pc o2 3))]
 (.call ⟨[(26,iZ)],[]⟩ [(26,true)] 30 183 [(pc o3 1),r6]
 (.call ⟨[(36,(aq (pc o3 2) (pi (-1)))),(32,(.pick ld tZ pF))],[]⟩ [(36,false),(32,true)] 40 183 [(pc o3 2),r6]
 (.call ⟨[(47,(aq (pc o3 11) (pi (-1)))),(43,(.pick Ed (.pick kG pT nW) pF))],[]⟩ [(47,false),(43,true)] 51 183 [(pc o3 11),r6]
 (.blockS ⟨[(8,(.pick qL (.pick Tk pT lf) pF))],[]⟩ 0 [4,54,55,56,57,65,66,72,73,79,80,81,82,83,84,88,89,93,94,98,99,103,104,108,109,110,111,112,113,117,118,119,120,121,122,126,127,137,138,142] []
 (.call ⟨[(57,(.nt r8))],[]⟩ [(57,false)] 63 183 [(pc o3 4),(.llen (pc o2 0))]
 (.call ⟨[(66,(.pick Ef pT (.nt LW)))],[]⟩ [(66,false)] 70 183 [(pc o3 9),r7]
 (.call ⟨[(73,(.pick LX pT (.nt Tn)))],[]⟩ [(73,false)] 77 183 [(pc o3 10),r7]
 (.iteS ⟨[],[]⟩ (.pick Eh pT (.nt LY)) [4,80,81,82,83,84,88,89,93,94,98,99,103,104,108,109,110,111,112,113,117,118,119,120,121,122,126,127,137,138,142] []
 (.ret (pi 1))
 (.iteS ⟨[],[]⟩ (.pick (.pick (.pick (.pick (.pick (aj (pc o3 3) (pi 1)) pT (bh (pc o3 3) zt)) pT (aj (pc o3 8) (pi 0))) pT (bh (pc o3 8) (pi 100000))) pT (aj (pc o3 12) (pi 0))) pT (bh (pc o3 12) (pi 1000))) [4,109,110,111,112,113,117,118,119,120,121,122,126,127,137,138,142] []
 (.ret (pi 3))
 (.iteS ⟨[],[]⟩ (.pick (aj (pc o3 14) (pi 1)) pT (bh (pc o3 14) (pi 4))) [4,118,119,120,121,122,126,127,137,138,142] []
 (.ret (pi 15))
 (.call ⟨[(138,(.pick (.pick (aj (pc o3 13) (pi 0)) pT (bh (pc o3 13) (pi 7))) pT (.pick (ba (.ai .and .i64 (pc o3 13) (pi 4)) (pi 0)) (aq (pc o3 2) (pi (-1))) pF)))],[]⟩ [(138,false)] 140 184 [(aC 15 o3)]
 (.ite (.pick (.r 138) pT (.nt (.r 140)))
 (.ret (pi 2))
 (.next ⟨[],[]⟩)))
 (.next ⟨[],[]⟩))
 (.next ⟨[],[]⟩))
 (.next ⟨[],[]⟩)))))
 (.iteS ⟨[],[]⟩ (aq (pc o3 5) (pi 4)) [4] []
 (.call ⟨[],[]⟩ [] 153 185 [(aC 8 o2),(pc o3 9),(pc o3 10)]
 (.ret (.tget (.r 153) 1)))
 (.next ⟨[],[]⟩)
 (.ret (pi 0))))))))))
def asn (b:Nat→PC):PT×List (Shp×PT):=(WE,[])
theorem afE:Hg.map told=some (asn (ay Hg)):=by kernel_rfl
theorem aDW:tree Lv=WE:=aN afE
theorem an1:Hg=some Lv:=aF afE
noncomputable def Hh:Option PC:=aD {ctx with fr:=[4],nh:=[]} Tryz.f183 ((ab af 183).getD default) []
noncomputable def Lw:PC:=az Hh
def WG:PT:=
 (.ret Td)
def aso (b:Nat→PC):PT×List (Shp×PT):=(WG,[])
theorem afF:Hh.map told=some (aso (ay Hh)):=by kernel_rfl
theorem aDX:tree Lw=WG:=aN afF
theorem an2:Hh=some Lw:=aF afF
noncomputable def Hi:Option PC:=aD {ctx with fr:=[2,8,19,40],nh:=[]} Tryz.f184 ((ab af 184).getD default) [1,3]
noncomputable def Lx:PC:=az Hi
def WH:PT:=
 (.ite (.pick (aq (pc kE 0) (pi 0)) (aq (pc kE 0) (pi 0)) (aq (pc kE 0) (pi 4)))
 (.ret (.pick (aq (pc kE 1) (pi 0)) (aq (pc kE 2) (pi 0)) pF))
 (.ite (.pick (aq (pc kE 0) (pi 1)) (aq (pc kE 0) (pi 1)) (aq (pc kE 0) (pi 2)))
 (.ret (.pick (.pick (bR (pc kE 1) (pi 1)) (bV (pc kE 1) (pi 400)) pF) (.pick (aq (pc kE 2) (pi 0)) pT (aq (pc kE 2) (pi 1))) pF))
 (.ite (aq (pc kE 0) (pi 3))
 (.ret (.pick (.pick (bR (pc kE 1) (pc (.mk [r0]) 8)) (bV (pc kE 1) (pi 100000)) pF) (aq (pc kE 2) (pi 0)) pF))
 (.ret pF))))
def asp (b:Nat→PC):PT×List (Shp×PT):=(WH,[])
theorem afG:Hi.map told=some (asp (ay Hi)):=by kernel_rfl
theorem aDY:tree Lx=WH:=aN afG
theorem an3:Hi=some Lx:=aF afG
noncomputable def Ba:Option PC:=aD {ctx with fr:=[6,8,9,76,92,98],nh:=[]} Tryz.f111 ((ab af 111).getD default) [3,4,7,11]
noncomputable def J6:PC:=az Ba
noncomputable def NB:Nat→PC:=bG Ba
def awk (b:Nat→PC):PC:=.block 0 [8,9,51,52] [] (.loop [8,9,51] [] (b 0))
def L4 (b:Nat→PC):PT:=
 (.ite (aj lf lX)
 (.chk (av mU lf)
 (.next ⟨[(8,(pc (.setc z9 0 (pn mU lf)) 6)),(9,(.pick r9 pT (.pick (.pick (aq (pc o7 0) (pi 1)) (aq (pc (.setc z9 0 (pn mU lf)) 0) (pi 1)) pF) (aq (pc (.setc z9 0 (pn mU lf)) 1) (pc o7 1)) pF))),(51,(aP lf (pi 1)))],[]⟩))
 (.exit 0 ⟨[(52,(aj lf lX))],[]⟩))
def Vt (b:Nat→PC):PT:=
 (.chk (av (pc (.mk [r1]) 15) r2)
 (.call ⟨[],[(7,nR),(4,(.mk [r1])),(3,(.mk [r0]))]⟩ [] 23 112 [(pc nR 1),(pi 0),(bC (pc (.mk [r1]) 14) (pi 1))]
 (.ite (.nt jy)
 (.ret (pi 15))
 (.call ⟨[],[]⟩ [] 31 112 [(pc o7 2),(pi 0),LP]
 (.call ⟨[(33,(.nt qJ))],[]⟩ [(33,false)] 40 112 [(pc o7 7),(pi 0),(bC (.llen (pc o3 1)) (pi 1))]
 (.ite (.pick sm pT (.nt nW))
 (.ret (pi 1))
 (.chk (.slok (pc o4 15) (pi 0) r2)
 (.brk ⟨[(51,(pi 0)),(50,(.llen (.slc (pc o4 15) (pi 0) r2))),(49,(.slc (pc o4 15) (pi 0) r2)),(9,pF),(8,(pc o4 8))],[]⟩
(awk b)
 (.blockS ⟨[],[]⟩ 2 [6,76,77,78,79,80,81,82,91,92,93,94,95,96,97,98,99] []
 (.call ⟨[],[]⟩ [] 80 112 [(pc o7 6),r8,(pi 100000)]
 (.iteS ⟨[],[]⟩ (.pick (.nt wI) pT (.pick (aq r2 (pi 0)) (ba (pc o7 6) r8) pF)) [6,92,93,94,95,96,97,98,99] []
 (.ret (pi 13))
 (.call ⟨[],[]⟩ [] 96 186 [(aC 8 o3),(aC 19 o4),r2]
 (.ite (.nt Tr)
 (.ret (pi 14))
 (.ite r9
 (.ret (pi 5))
 (.next ⟨[],[]⟩))))
 (.next ⟨[],[]⟩)))
 (.ret (pi 0)))))))))))
def aqS (b:Nat→PC):PT×List (Shp×PT):=(Vt b,[(.lp 0 [8,9,51,52] [] [8,9,51] [],L4 b)])
theorem R0:Ba.map told=some (aqS (ay Ba)):=by kernel_rfl
theorem aCE:tree J6=Vt NB:=aN R0
theorem agO:round 0 [8,9,51,52] [] [8,9,51] [] (NB 0)=L4 NB:=bx R0 0 fun _=>rfl
theorem amU:Ba=some J6:=aF R0
noncomputable def GK:Option PC:=aD {ctx with fr:=[6],nh:=[]} Tryz.f112 ((ab af 112).getD default) []
noncomputable def J5:PC:=az GK
def Vs:PT:=
 (.ret (.pick (bR r0 r1) (bV r0 r2) pF))
def aqR (b:Nat→PC):PT×List (Shp×PT):=(Vs,[])
theorem ae0:GK.map told=some (aqR (ay GK)):=by kernel_rfl
theorem aCD:tree J5=Vs:=aN ae0
theorem amT:GK=some J5:=aF ae0
noncomputable def GJ:Option PC:=aD {ctx with fr:=[6,9,10,66,103,113,11,140,149],nh:=[]} Tryz.f186 ((ab af 186).getD default) [3,4,7,8]
noncomputable def J4:PC:=az GJ
def Vr:PT:=
 (.chk (av (pc (.mk [r1]) 15) r2)
 (.ite (.pick (.cb .neq (aq r2 (pi 0)) (aq (pc nR 0) (pi 0))) pT (.pick (ba (pc nR 0) (pi 2)) (ba (pc nR 4) (pi (-1))) pF))
 (.ret pF)
 (.ite (.pick (.pick (ba (pc nR 0) (pi 3)) (ba (pc nR 0) (pi 4)) pF) (ba (pc nR 3) (pi (-1))) pF)
 (.ret pF)
 (.call ⟨[(9,(.pick (aq (pc nR 5) (pi 0)) (aq (pc nR 8) (pi 0)) pF))],[(8,(.setc FB 0 (aC 15 (.mk [r1])))),(7,nR),(4,(.mk [r1])),(3,(.mk [r0]))]⟩ [] 58 112 [(pc nR 5),(pi 1),zt]
 (.blockS ⟨[(65,(pc o7 0)),(10,(.pick zz (aq (pc o7 8) (pi 0)) pF))],[]⟩ 0 [6,66,67,103,104,113,114,140,141,149,150] []
 (.iteS ⟨[],[]⟩ (aq zA (pi 0)) [6,103,104,113,114,140,141,149,150] []
 (.ret (.pick (.pick (.pick (.pick (.pick (aq (pc o7 2) (pc o8 0)) (aq (pc o7 5) (pi 0)) pF) (aq (.ai .or .i64 (pc o7 8) (pi 1)) (pi 1)) pF) (aq (pc o7 1) (pi 0)) pF) (aq (pc o7 6) (pc o8 8)) pF) (aq (pc o7 7) (pc o8 9)) pF))
 (.iteS ⟨[],[]⟩ (aq zA (pi 1)) [6,113,114,140,141,149,150] []
 (.ret (.pick (aq (pc o7 2) (pc o8 1)) cT pF))
 (.iteS ⟨[],[]⟩ (aq zA (pi 2)) [6,140,141,149,150] []
 (.call ⟨[(11,(pi 6))],[]⟩ [] 121 112 [(pc o7 4),(pi (-1)),LP]
 (.call ⟨[(127,(.pick aAl (aq (pc o7 5) (pi 0)) pF))],[]⟩ [(127,true)] 130 112 [(pc o7 8),(pi 0),(pi 7)]
 (.ret (.pick (.pick aAm (.r 130) pF) (ba (.ai .and .i64 (pc o7 8) bD) bD) pF))))
 (.iteS ⟨[],[]⟩ (aq zA (pi 3)) [6,149,150] []
 (.call ⟨[(143,r9)],[]⟩ [(143,true)] 147 226 [(aC 19 o4),r2,(.lst [(pi 0),(pi 1),(pi 2),(pi 4)])]
 (.ret (.pick (.r 143) (.r 147) pF)))
 (.iteS ⟨[],[]⟩ (aq zA (pi 4)) [6] []
 (.call ⟨[(159,(.pick cT (ba (pc o7 2) (pc o8 1)) pF))],[]⟩ [(159,true)] 163 226 [(aC 19 o4),r2,(.lst [(pi 0),(pi 2)])]
 (.ret (.pick (.r 159) (.r 163) pF)))
 (.next ⟨[],[]⟩)
 (.next ⟨[],[]⟩))
 (.next ⟨[],[]⟩))
 (.next ⟨[],[]⟩))
 (.next ⟨[],[]⟩))
 (.next ⟨[],[]⟩))
 (.ret pF))))))
def aqQ (b:Nat→PC):PT×List (Shp×PT):=(Vr,[])
theorem aeZ:GJ.map told=some (aqQ (ay GJ)):=by kernel_rfl
theorem aCC:tree J4=Vr:=aN aeZ
theorem amS:GJ=some J4:=aF aeZ
noncomputable def GI:Option PC:=aD {ctx with fr:=[6,7],nh:=[]} Tryz.f226 ((ab af 226).getD default) [3]
noncomputable def J2:PC:=az GI
def Vp:PT:=
 (.chk (av qC r1)
 (.call ⟨[(7,(pc (pn qC r1) 3))],[(3,(.mk [r0]))]⟩ [] 17 112 [(pc (pn qC r1) 3),(pi 0),(bC r1 (pi 1))]
 (.chk (.nt (.an (.an kF pT) (.nt (av (pc o3 15) r1))))
 (.call ⟨[(18,kF)],[]⟩ [(18,true)] 27 227 [(aC 19 o3),r7,(pc (pn (pc o3 15) r1) 1)]
 (.chk (.nt (.an (.an (.pick gT eK pF) pT) (.nt (av (pc o3 15) r7))))
 (.call ⟨[(29,(.pick gT eK pF))],[]⟩ [(29,true)] 37 94 [r2,(pc (pn (pc o3 15) r7) 0)]
 (.ret (.pick nV kH pF))))))))
def aqO (b:Nat→PC):PT×List (Shp×PT):=(Vp,[])
theorem aeY:GI.map told=some (aqO (ay GI)):=by kernel_rfl
theorem aCA:tree J2=Vp:=aN aeY
theorem amQ:GI=some J2:=aF aeY
noncomputable def GL:Option PC:=aD {ctx with fr:=[6],nh:=[]} Tryz.f227 ((ab af 227).getD default) [3]
noncomputable def J7:PC:=az GL
def ML:PT:=
 (.chk (.nt (.an (.an (.nt (aq r1 (pi 0))) pT) (.nt (av qC r1))))
 (.ret (.pick (aq r1 (pi 0)) pT (aq (pc (pn qC r1) 1) r2))))
def aqT (b:Nat→PC):PT×List (Shp×PT):=(ML,[])
theorem ae1:GL.map told=some (aqT (ay GL)):=by kernel_rfl
theorem aCF:tree J7=ML:=aN ae1
theorem amV:GL=some J7:=aF ae1
noncomputable def A8:Option PC:=aD {ctx with fr:=[4,5,7],nh:=[]} Tryz.f113 ((ab af 113).getD default) [2,3,6]
noncomputable def J1:PC:=az A8
noncomputable def Nz:Nat→PC:=bG A8
def awi (b:Nat→PC):PC:=.block 0 [4,11,12] [] (.loop [4,11] [] (b 0))
def L2 (b:Nat→PC):PT:=
 (.ite (aj bD cT)
 (.blockS ⟨[],[]⟩ 1 [4,5,6,7,13,14,15,16,17,18,19,20,21,22,23,24,25,26,27,28,29,30,31,32,37,38,39,40,41,42,43,44,45,46,47,48,58,59,69,70,71,72,73] [6]
 (.chk (av r9 bD)
 (.call ⟨[(5,bD)],[(6,(.setc z9 0 (pn r9 bD)))]⟩ [] 22 112 [(pc (.setc z9 0 (pn r9 bD)) 3),(pi 0),(bC (pc o3 14) (pi 1))]
 (.ite (.nt zx)
 (.ret (pi 15))
 (.call ⟨[],[]⟩ [] 30 112 [(pc o6 7),(pi 0),(bC (.llen (pc o2 1)) (pi 1))]
 (.call ⟨[(32,(.nt tZ))],[]⟩ [(32,false)] 35 112 [(pc o6 0),(pi 0),(pi 9)]
 (.ite (.pick Ed pT (.nt wG))
 (.ret (pi 1))
 (.call ⟨[],[]⟩ [] 41 187 [(aC 8 o2),(aC 19 o3),(aC 9 o6)]
 (.ite (.nt qK)
 (.ret (pi 14))
 (.ite (ba (pc o6 4) (pi (-1)))
 (.chk (av (pc o3 15) (pc o6 4))
 (.ite (bh r5 (pi 0))
 (.chk (av (pc o3 17) zk)
 (.call ⟨[],[]⟩ [] 72 112 [(pc o6 6),(.mx (.mx (pc o3 8) (pc (pn (pc o3 15) (pc o6 4)) 6)) (pc (pn (pc o3 17) zk) 6)),(pi 100000)]
 (.ite (.nt ud)
 (.ret (pi 13))
 (.next ⟨[],[]⟩))))
 (.call ⟨[],[]⟩ [] 72 112 [(pc o6 6),(.mx (pc o3 8) (pc (pn (pc o3 15) (pc o6 4)) 6)),(pi 100000)]
 (.ite (.nt ud)
 (.ret (pi 13))
 (.next ⟨[],[]⟩)))))
 (.ite (bh r5 (pi 0))
 (.chk (av (pc o3 17) zk)
 (.call ⟨[],[]⟩ [] 72 112 [(pc o6 6),(.mx (pc o3 8) (pc (pn (pc o3 17) zk) 6)),(pi 100000)]
 (.ite (.nt ud)
 (.ret (pi 13))
 (.next ⟨[],[]⟩))))
 (.call ⟨[],[]⟩ [] 72 112 [(pc o6 6),(pc o3 8),(pi 100000)]
 (.ite (.nt ud)
 (.ret (pi 13))
 (.next ⟨[],[]⟩)))))))))))))
 (.next ⟨[(11,(aP bD (pi 1)))],[]⟩))
 (.exit 0 ⟨[(12,(aj bD cT))],[]⟩))
def Vo (b:Nat→PC):PT:=
 (.brk ⟨[(11,(pi 0)),(10,(.llen (pc (.mk [r1]) 17))),(9,(pc (.mk [r1]) 17)),(4,(pi 0))],[(3,(.mk [r1])),(2,(.mk [r0]))]⟩
(awi b)
 (.ret (pi 0)))
def aqN (b:Nat→PC):PT×List (Shp×PT):=(Vo b,[(.lp 0 [4,11,12] [] [4,11] [],L2 b)])
theorem RY:A8.map told=some (aqN (ay A8)):=by kernel_rfl
theorem aCz:tree J1=Vo Nz:=aN RY
theorem agM:round 0 [4,11,12] [] [4,11] [] (Nz 0)=L2 Nz:=bx RY 0 fun _=>rfl
theorem amP:A8=some J1:=aF RY
noncomputable def GH:Option PC:=aD {ctx with fr:=[6,7,8,9,65,80,100,111],nh:=[]} Tryz.f187 ((ab af 187).getD default) [3,4,5]
noncomputable def J0:PC:=az GH
def Vn:PT:=
 (.call ⟨[],[(5,(.mk [r2])),(4,(.mk [r1])),(3,(.mk [r0]))]⟩ [] 16 112 [(pc (.mk [r2]) 4),(pi 0),(bC (.llen (pc (.mk [r1]) 15)) (pi 1))]
 (.call ⟨[(17,dM)],[]⟩ [(17,true)] 23 227 [(aC 19 o4),(pc o5 4),(pc o5 3)]
 (.chk (.nt (.an (.an (.pick kF jy pF) pT) (.nt (av (pc o4 15) (pc o5 4)))))
 (.call ⟨[(8,(.pick (.pick kF jy pF) (aq (pc (pn (pc o4 15) (pc o5 4)) 2) (pc o5 1)) pF)),(7,(.pick kF jy pF))],[]⟩ [] 44 112 [(pc o5 2),(pi 0),LP]
 (.call ⟨[(9,ua)],[]⟩ [] 51 112 [(pc o5 1),(pi 0),LP]
 (.ite (.pick (.nt lf) pT (.pick (ba (pc o5 0) (pi 4)) (ba (pc o5 8) (pi 0)) pF))
 (.ret pF)
 (.blockS ⟨[(64,(pc o5 0))],[]⟩ 0 [6,65,66,80,81,100,101,111,112] []
 (.iteS ⟨[],[]⟩ (.pick (aq kI (pi 0)) (aq kI (pi 0)) (.pick (aq kI (pi 1)) (aq kI (pi 1)) (aq kI (pi 2)))) [6,80,81,100,101,111,112] []
 (.ret (.pick (.pick r9 (aq (pc o5 4) (pi (-1))) pF) (aq (pc o5 5) (pi 0)) pF))
 (.iteS ⟨[],[]⟩ (.pick (aq kI (pi 3)) (aq kI (pi 3)) (.pick (aq kI (pi 5)) (aq kI (pi 5)) (aq kI (pi 4)))) [6,100,101,111,112] []
 (.call ⟨[(90,(.pick r9 (aq (pc o5 4) (pi (-1))) pF))],[]⟩ [(90,true)] 93 112 [(pc o5 5),(pi 0),zt]
 (.call ⟨[(95,(.pick Tq zE pF))],[]⟩ [(95,true)] 98 112 [(pc o5 8),(pi 0),(pi 1)]
 (.ret (.pick r95 Ts pF))))
 (.iteS ⟨[],[]⟩ (aq kI (pi 6)) [6,111,112] []
 (.call ⟨[(106,(.pick r9 r8 pF))],[]⟩ [(106,true)] 109 112 [(pc o5 5),(pi 1),zt]
 (.ret (.pick Th aAk pF)))
 (.ite (aq kI (pi 9))
 (.ret (.pick (.pick (aq (pc o5 2) (pi (-1))) r8 pF) (aq (pc o5 5) (pi 0)) pF))
 (.next ⟨[],[]⟩))
 (.next ⟨[],[]⟩))
 (.next ⟨[],[]⟩))
 (.next ⟨[],[]⟩))
 (.ret (.pick (.pick (aq (pc o5 2) (pi (-1))) r7 pF) (aq (pc o5 5) (pi 0)) pF)))))))))
def aqM (b:Nat→PC):PT×List (Shp×PT):=(Vn,[])
theorem aeX:GH.map told=some (aqM (ay GH)):=by kernel_rfl
theorem aCy:tree J0=Vn:=aN aeX
theorem amO:GH=some J0:=aF aeX
noncomputable def A9:Option PC:=aD {ctx with fr:=[2,3],nh:=[]} Tryz.f114 ((ab af 114).getD default) [1,4,5]
noncomputable def J3:PC:=az A9
noncomputable def NA:Nat→PC:=bG A9
def awj (b:Nat→PC):PC:=.block 0 [2,9,10] [] (.loop [2,9] [] (b 0))
def L3 (b:Nat→PC):PT:=
 (.ite (aj r9 r8)
 (.blockS ⟨[],[]⟩ 1 [2,3,4,11,12,13,14,15,16,17,18,27,28,33,34,35] [4]
 (.chk (av r7 r9)
 (.call ⟨[(3,r9)],[(4,(.setc z3 0 (pn r7 r9)))]⟩ [] 16 112 [(pc (.setc z3 0 (pn r7 r9)) 0),(pi 0),(pi 4)]
 (.call ⟨[(18,(.nt dM))],[]⟩ [(18,false)] 25 112 [(pc o4 1),(pi 0),(bC (.llen (pc o1 15)) (pi 1))]
 (.call ⟨[(28,(.pick gT pT (.nt iZ)))],[]⟩ [(28,false)] 31 112 [(pc o4 2),(pi 0),(pi 1)]
 (.ite (.pick qI pT (.nt qJ))
 (.ret (pi 1))
 (.ite (aq r3 (pi 0))
 (.exit 1 ⟨[],[]⟩)
 (.chk (av (pc o1 18) tY)
 (.call ⟨[],[(5,(.setc z3 0 (pn (pc o1 18) tY)))]⟩ [] 46 189 [(pc (.setc z3 0 (pn (pc o1 18) tY)) 1),(pc o4 1)]
 (.call ⟨[],[]⟩ [] 51 189 [(pc o5 0),(pc o4 0)]
 (.call ⟨[],[]⟩ [] 53 188 [(.lst [ub,lf])]
 (.ite (bR r53 (pi 0))
 (.ret (pi 5))
 (.next ⟨[],[]⟩))))))))))))
 (.next ⟨[(9,(aP r9 (pi 1)))],[]⟩))
 (.exit 0 ⟨[(10,(aj r9 r8))],[]⟩))
def Vq (b:Nat→PC):PT:=
 (.brk ⟨[(9,(pi 0)),(8,(.llen (pc (.mk [r0]) 18))),(7,(pc (.mk [r0]) 18)),(2,(pi 0))],[(1,(.mk [r0]))]⟩
(awj b)
 (.ret (pi 0)))
def aqP (b:Nat→PC):PT×List (Shp×PT):=(Vq b,[(.lp 0 [2,9,10] [] [2,9] [],L3 b)])
theorem RZ:A9.map told=some (aqP (ay A9)):=by kernel_rfl
theorem aCB:tree J3=Vq NA:=aN RZ
theorem agN:round 0 [2,9,10] [] [2,9] [] (NA 0)=L3 NA:=bx RZ 0 fun _=>rfl
theorem amR:A9=some J3:=aF RZ
noncomputable def Gu:Option PC:=aD {ctx with fr:=[4,5,6],nh:=[]} Tryz.f189 ((ab af 189).getD default) []
noncomputable def JI:PC:=az Gu
def U6:PT:=
 (.call ⟨[],[]⟩ [] 8 228 [r0]
 (.call ⟨[(5,r8)],[]⟩ [] 10 228 [r1]
 (.ite r5
 (.ite cT
 (.ret (pi 0))
 (.ret (pi (-1))))
 (.ite cT
 (.ret (pi 1))
 (.ite (aj r0 r1)
 (.ret (pi (-1)))
 (.ite (bh r0 r1)
 (.ret (pi 1))
 (.ret (pi 0))))))))
def aqs (b:Nat→PC):PT×List (Shp×PT):=(U6,[])
theorem aeJ:Gu.map told=some (aqs (ay Gu)):=by kernel_rfl
theorem aCd:tree JI=U6:=aN aeJ
theorem amy:Gu=some JI:=aF aeJ
noncomputable def A0:Option PC:=aD {ctx with fr:=[2,3,5],nh:=[]} Tryz.f188 ((ab af 188).getD default) []
noncomputable def JJ:PC:=az A0
noncomputable def Nw:Nat→PC:=bG A0
def awd (b:Nat→PC):PC:=.block 0 [2,8,9] [] (.loop [2,8] [] (b 0))
def Ej (b:Nat→PC):PT:=
 (.ite (aj r8 r7)
 (.chk (av r6 r8)
 (.ite (ba (pn r6 r8) r3)
 (.ret (pn r6 r8))
 (.next ⟨[(8,wF)],[]⟩)))
 (.exit 0 ⟨[(9,(aj r8 r7))],[]⟩))
def U7 (b:Nat→PC):PT:=
 (.brk ⟨[(8,(pi 0)),(7,(.llen r0)),(6,r0),(3,(pi 0)),(2,(pi 0))],[]⟩
(awd b)
 (.ret r3))
def aqu (b:Nat→PC):PT×List (Shp×PT):=(U7 b,[(.lp 0 [2,8,9] [] [2,8] [],Ej b)])
theorem RV:A0.map told=some (aqu (ay A0)):=by kernel_rfl
theorem aCf:tree JJ=U7 Nw:=aN RV
theorem Tu:round 0 [2,8,9] [] [2,8] [] (Nw 0)=Ej Nw:=bx RV 0 fun _=>rfl
theorem amA:A0=some JJ:=aF RV
noncomputable def Gm:Option PC:=aD {ctx with fr:=[4,5],nh:=[]} Tryz.f51 ((ab af 51).getD default) [2]
noncomputable def JB:PC:=az Gm
def UZ:PT:=
 (.call ⟨[],[(2,(.mk [r0]))]⟩ [] 7 120 [r1]
 (.ite (.nt r7)
 (.ret (.tup [pF,(pi 3)]))
 (.call ⟨[],[]⟩ [] 11 121 [(aC 6 o2),r1]
 (.ret (.tup [bD,(pi 0)])))))
def aqk (b:Nat→PC):PT×List (Shp×PT):=(UZ,[])
theorem aeC:Gm.map told=some (aqk (ay Gm)):=by kernel_rfl
theorem aB6:tree JB=UZ:=aN aeC
theorem amq:Gm=some JB:=aF aeC
noncomputable def Gf:Option PC:=aD {ctx with fr:=[6],nh:=[]} Tryz.f85 ⟨[Y8,I,mi],.slice I,.dat⟩ [3,5,7,8,42,9]
noncomputable def SB:PC:=az Gf
def UU:PT:=
 (.chk (av (pc (.mk [r2]) 15) (pc (.mk [r2]) 19))
 (.ite agh
 (.ret pL)
 (.chk (.an (bR (pi 5) (pi 0)) (bV (pi 5) cW))
 (.chk (aq (pi 5) (pi 5))
 (.chk (av (.rep (pi 5) (pi 0)) (pi 0))
 (.call ⟨[],[(9,(.setn (.rep (pi 5) (pi 0)) (pi 0) 0 r1)),(8,(.setc FB 0 (aC 15 (.mk [r2])))),(7,zn),(3,(.mk [r0]))]⟩ [] 50 32 [kD,(pc zn 7)]
 (.chk (av o9 (pi 1))
 (.call ⟨[],[(9,(.setn o9 (pi 1) 0 lX))]⟩ [] 56 32 [(aC 8 o3),(pc o8 10)]
 (.chk (av o9 (pi 2))
 (.call ⟨[],[(9,(.setn o9 (pi 2) 0 nX))]⟩ [] 62 32 [(aC 8 o3),(pc o8 9)]
 (.chk (av o9 (pi 3))
 (.chk (av (pc o3 3) (pc o7 2))
 (.call ⟨[],[(9,(.setn o9 (pi 3) 0 mV))]⟩ [] 73 32 [(aC 8 o3),(pc (pn (pc o3 3) (pc o7 2)) 1)]
 (.chk (av o9 (pi 4))
 (.call ⟨[],[(9,(.setn o9 (pi 4) 0 Eh))]⟩ [] 76 94 [(.setn o9 (pi 4) 0 Eh),(pi (-1))]
 (.ite pA
 (.ret pL)
 (.ret o9)))))))))))))))))
def aqb (b:Nat→PC):PT×List (Shp×PT):=(UU,[])
theorem aex:Gf.map told=some (aqb (ay Gf)):=by kernel_rfl
theorem aBZ:tree SB=UU:=aN aex
theorem amj:Gf=some SB:=aF aex
noncomputable def Gg:Option PC:=aD {ctx with fr:=[6],nh:=[]} Tryz.f85 ⟨[Y8,I,mi],.nils .bool,.dat⟩ [3,5,7,8,42,9]
noncomputable def SC:PC:=az Gg
def MJ:PT:=
 (.chk (av (pc (.mk [r2]) 15) (pc (.mk [r2]) 19))
 (.ite agh
 (.ret pL)
 (.chk (.an (bR (pi 5) (pi 0)) (bV (pi 5) cW))
 (.chk (aq (pi 5) (pi 5))
 (.chk (av (.rep (pi 5) (pi 0)) (pi 0))
 (.call ⟨[],[(9,(.setn (.rep (pi 5) (pi 0)) (pi 0) 0 r1)),(8,(.setc FB 0 (aC 15 (.mk [r2])))),(7,zn),(3,(.mk [r0]))]⟩ [] 50 32 [kD,(pc zn 7)]
 (.chk (av o9 (pi 1))
 (.call ⟨[],[(9,(.setn o9 (pi 1) 0 lX))]⟩ [] 56 32 [(aC 8 o3),(pc o8 10)]
 (.chk (av o9 (pi 2))
 (.call ⟨[],[(9,(.setn o9 (pi 2) 0 nX))]⟩ [] 62 32 [(aC 8 o3),(pc o8 9)]
 (.chk (av o9 (pi 3))
 (.chk (av (pc o3 3) (pc o7 2))
 (.call ⟨[],[(9,(.setn o9 (pi 3) 0 mV))]⟩ [] 73 32 [(aC 8 o3),(pc (pn (pc o3 3) (pc o7 2)) 1)]
 (.chk (av o9 (pi 4))
 (.call ⟨[],[]⟩ [] 76 94 [(.setn o9 (pi 4) 0 Eh),(pi (-1))]
 (.ite pA
 (.ret pL)
 (.chk pF
 (.next ⟨[],[]⟩))))))))))))))))))
def aqc (b:Nat→PC):PT×List (Shp×PT):=(MJ,[])
theorem aey:Gg.map told=some (aqc (ay Gg)):=by kernel_rfl
theorem aB0:tree SC=MJ:=aN aey
theorem amk:Gg=some SC:=aF aey
end Rm
namespace Rm
open Go Go.Proofs Cx
def SA:List Nat:=[10,26,79,81,80,28,83,84,30,86,31,88,87,164,32,91,89,90,97,94,167,33,92,166,165,216,93,35,95,169,168,170,217,218,260,264,262,261,96,171,219,263,220,265,286,298,221,49,46,48,82,163,215,139,207,255,256,206,246,252,228,140,34,29,41,50,109,182,108,54,129,130,204,244,245,279,131,132,133,205,134,135,136,137,138,177,178,179,180,223,267,120,201,288,299,287,185,181,224,225,268,121,27,53,58,127,128,203,243,62,145,208,257,285,258,209,210,259,146,147,211,148,149,42,110,183,184,111,112,186,226,227,113,187,114,189,188,51]
noncomputable def DW:List (Nat×PC):=[(10,JP),(26,JU),(79,JT),(81,JS),(80,JQ),(28,Jo),(83,Jv),(84,Jw),(30,KN),(86,KT),(31,KQ),(88,KR),(87,KV),(164,KZ),(32,KB),(91,KF),(89,KS),(90,KO),(97,JW),(94,KX),(167,K4),(33,JL),(92,JN),(166,JO),(165,KW),(216,K1),(93,JM),(35,JV),(95,JX),(169,JY),(168,K0),(170,Lg),(217,Lr),(218,Ll),(260,Lo),(264,Ln),(262,Li),(261,Lt),(96,Lh),(171,Lp),(219,Lq),(263,Lu),(220,Lm),(265,Lj),(286,Ls),(298,Jx),(221,KU),(49,Ku),(46,Ju),(48,Js),(82,Jr),(163,SG),(215,SL),(139,SI),(207,SD),(255,afW),(256,SF),(206,SK),(246,SJ),(252,afX),(228,JK),(140,SH),(34,Kq),(29,Jt),(41,Jq),(50,Jp),(109,KP),(182,K6),(108,K7),(54,Kv),(129,KI),(130,KE),(204,KH),(244,KG),(245,KY),(279,K5),(131,Kw),(132,Ky),(133,KD),(205,KL),(134,Kz),(135,KA),(136,KJ),(137,KM),(138,KK),(177,Lb),(178,Lc),(179,K8),(180,La),(223,K9),(267,Jy),(120,JH),(201,JC),(288,JE),(299,JF),(287,Jz),(185,KC),(181,Ld),(224,Lf),(225,JA),(268,JD),(121,JG),(27,JR),(53,Kt),(58,Ka),(127,Ko),(128,Ks),(203,Kp),(243,Kr),(62,J9),(145,Kh),(208,Kj),(257,Kc),(285,Kb),(258,J8),(209,Kd),(210,Kg),(259,Kf),(146,Ki),(147,Kk),(211,Ke),(148,Km),(149,Kl),(42,JZ),(110,Lv),(183,Lw),(184,Lx),(111,J6),(112,J5),(186,J4),(226,J2),(227,J7),(113,J1),(187,J0),(114,J3),(189,JI),(188,JJ),(51,JB)]
noncomputable def tab:Nat→Option PC:=ab DW
theorem afV:DW.map (·.1)=SA:=by kernel_rfl
theorem aJ:(DW.map (·.1)).Nodup:=by rw[afV];exact mP (by kernel_rfl)
theorem ajZ:tab acZ=some JP:=aI aJ (k:=0) (by kernel_rfl)
theorem aj4:tab ac4=some JU:=aI aJ (k:=1) (by kernel_rfl)
theorem aj3:tab ac3=some JT:=aI aJ (k:=2) (by kernel_rfl)
theorem aj2:tab ac2=some JS:=aI aJ (k:=3) (by kernel_rfl)
theorem aj0:tab ac0=some JQ:=aI aJ (k:=4) (by kernel_rfl)
theorem ajz:tab acz=some Jo:=aI aJ (k:=5) (by kernel_rfl)
theorem ajG:tab acG=some Jv:=aI aJ (k:=6) (by kernel_rfl)
theorem ajH:tab acH=some Jw:=aI aJ (k:=7) (by kernel_rfl)
theorem akR:tab adL=some KN:=aI aJ (k:=8) (by kernel_rfl)
theorem akX:tab adR=some KT:=aI aJ (k:=9) (by kernel_rfl)
theorem akU:tab adO=some KQ:=aI aJ (k:=10) (by kernel_rfl)
theorem akV:tab adP=some KR:=aI aJ (k:=11) (by kernel_rfl)
theorem akZ:tab adT=some KV:=aI aJ (k:=12) (by kernel_rfl)
theorem ak2:tab adW=some KZ:=aI aJ (k:=13) (by kernel_rfl)
theorem akG:tab adA=some KB:=aI aJ (k:=14) (by kernel_rfl)
theorem akJ:tab adD=some KF:=aI aJ (k:=15) (by kernel_rfl)
theorem akW:tab adQ=some KS:=aI aJ (k:=16) (by kernel_rfl)
theorem akS:tab adM=some KO:=aI aJ (k:=17) (by kernel_rfl)
theorem XZ:tab Rs=some JW:=aI aJ (k:=18) (by kernel_rfl)
theorem X5:tab RB=some KX:=aI aJ (k:=19) (by kernel_rfl)
theorem X7:tab RD=some K4:=aI aJ (k:=20) (by kernel_rfl)
theorem ajV:tab acW=some JL:=aI aJ (k:=21) (by kernel_rfl)
theorem ajX:tab acY=some JN:=aI aJ (k:=22) (by kernel_rfl)
theorem ajY:tab Rq=some JO:=aI aJ (k:=23) (by kernel_rfl)
theorem ak0:tab adU=some KW:=aI aJ (k:=24) (by kernel_rfl)
theorem ak3:tab adX=some K1:=aI aJ (k:=25) (by kernel_rfl)
theorem ajW:tab acX=some JM:=aI aJ (k:=26) (by kernel_rfl)
theorem aj5:tab ac5=some JV:=aI aJ (k:=27) (by kernel_rfl)
theorem X0:tab Rt=some JX:=aI aJ (k:=28) (by kernel_rfl)
theorem X1:tab IU=some JY:=aI aJ (k:=29) (by kernel_rfl)
theorem X6:tab RC=some K0:=aI aJ (k:=30) (by kernel_rfl)
theorem X8:tab RE=some Lg:=aI aJ (k:=31) (by kernel_rfl)
theorem Ns:tab RK=some Lr:=aI aJ (k:=32) (by kernel_rfl)
theorem Ya:tab RG=some Ll:=aI aJ (k:=33) (by kernel_rfl)
theorem Yc:tab RI=some Lo:=aI aJ (k:=34) (by kernel_rfl)
theorem alh:tab ad9=some Ln:=aI aJ (k:=35) (by kernel_rfl)
theorem X9:tab RF=some Li:=aI aJ (k:=36) (by kernel_rfl)
theorem Yf:tab RL=some Lt:=aI aJ (k:=37) (by kernel_rfl)
theorem ale:tab ad6=some Lh:=aI aJ (k:=38) (by kernel_rfl)
theorem Yd:tab IY=some Lp:=aI aJ (k:=39) (by kernel_rfl)
theorem Ye:tab RJ=some Lq:=aI aJ (k:=40) (by kernel_rfl)
theorem Yg:tab RM=some Lu:=aI aJ (k:=41) (by kernel_rfl)
theorem Yb:tab RH=some Lm:=aI aJ (k:=42) (by kernel_rfl)
theorem alg:tab ad8=some Lj:=aI aJ (k:=43) (by kernel_rfl)
theorem ali:tab aea=some Ls:=aI aJ (k:=44) (by kernel_rfl)
theorem ajK:tab acK=some Jx:=aI aJ (k:=45) (by kernel_rfl)
theorem X4:tab RA=some KU:=aI aJ (k:=46) (by kernel_rfl)
theorem akA:tab ady=some Ku:=aI aJ (k:=47) (by kernel_rfl)
theorem ajF:tab acF=some Ju:=aI aJ (k:=48) (by kernel_rfl)
theorem ajD:tab acD=some Js:=aI aJ (k:=49) (by kernel_rfl)
theorem ajC:tab acC=some Jr:=aI aJ (k:=50) (by kernel_rfl)
theorem aj6:tab Rr=some SG:=aI aJ (k:=51) (by kernel_rfl)
theorem alf:tab ad7=some SL:=aI aJ (k:=52) (by kernel_rfl)
theorem ak6:tab ad0=some SI:=aI aJ (k:=53) (by kernel_rfl)
theorem ajI:tab acI=some SD:=aI aJ (k:=54) (by kernel_rfl)
theorem ajJ:tab acJ=some SF:=aI aJ (k:=56) (by kernel_rfl)
theorem ak8:tab ad2=some SK:=aI aJ (k:=57) (by kernel_rfl)
theorem ak7:tab ad1=some SJ:=aI aJ (k:=58) (by kernel_rfl)
theorem ajU:tab acV=some JK:=aI aJ (k:=60) (by kernel_rfl)
theorem akY:tab adS=some SH:=aI aJ (k:=61) (by kernel_rfl)
theorem akx:tab adu=some Kq:=aI aJ (k:=62) (by kernel_rfl)
theorem ajE:tab acE=some Jt:=aI aJ (k:=63) (by kernel_rfl)
theorem ajB:tab acB=some Jq:=aI aJ (k:=64) (by kernel_rfl)
theorem ajA:tab acA=some Jp:=aI aJ (k:=65) (by kernel_rfl)
theorem akT:tab adN=some KP:=aI aJ (k:=66) (by kernel_rfl)
theorem ak5:tab adZ=some K6:=aI aJ (k:=67) (by kernel_rfl)
theorem Nr:tab DL=some K7:=aI aJ (k:=68) (by kernel_rfl)
theorem akB:tab adz=some Kv:=aI aJ (k:=69) (by kernel_rfl)
theorem akM:tab adG=some KI:=aI aJ (k:=70) (by kernel_rfl)
theorem akI:tab adC=some KE:=aI aJ (k:=71) (by kernel_rfl)
theorem akL:tab adF=some KH:=aI aJ (k:=72) (by kernel_rfl)
theorem akK:tab adE=some KG:=aI aJ (k:=73) (by kernel_rfl)
theorem ak1:tab adV=some KY:=aI aJ (k:=74) (by kernel_rfl)
theorem ak4:tab adY=some K5:=aI aJ (k:=75) (by kernel_rfl)
theorem akC:tab Rw=some Kw:=aI aJ (k:=76) (by kernel_rfl)
theorem akD:tab Rx=some Ky:=aI aJ (k:=77) (by kernel_rfl)
theorem akH:tab adB=some KD:=aI aJ (k:=78) (by kernel_rfl)
theorem akP:tab adJ=some KL:=aI aJ (k:=79) (by kernel_rfl)
theorem akE:tab Ry=some Kz:=aI aJ (k:=80) (by kernel_rfl)
theorem akF:tab Rz=some KA:=aI aJ (k:=81) (by kernel_rfl)
theorem akN:tab adH=some KJ:=aI aJ (k:=82) (by kernel_rfl)
theorem akQ:tab adK=some KM:=aI aJ (k:=83) (by kernel_rfl)
theorem akO:tab adI=some KK:=aI aJ (k:=84) (by kernel_rfl)
theorem ala:tab ad4=some Lb:=aI aJ (k:=85) (by kernel_rfl)
theorem alb:tab IW=some Lc:=aI aJ (k:=86) (by kernel_rfl)
theorem ak9:tab ad3=some K8:=aI aJ (k:=87) (by kernel_rfl)
theorem uU:tab yR=some La:=aI aJ (k:=88) (by kernel_rfl)
theorem xw:tab DM=some K9:=aI aJ (k:=89) (by kernel_rfl)
theorem No:tab IS=some Jy:=aI aJ (k:=90) (by kernel_rfl)
theorem ajR:tab acS=some JH:=aI aJ (k:=91) (by kernel_rfl)
theorem ajN:tab acN=some JC:=aI aJ (k:=92) (by kernel_rfl)
theorem ajP:tab acQ=some JE:=aI aJ (k:=93) (by kernel_rfl)
theorem Np:tab IT=some JF:=aI aJ (k:=94) (by kernel_rfl)
theorem sO:tab DI=some Jz:=aI aJ (k:=95) (by kernel_rfl)
theorem X3:tab IV=some KC:=aI aJ (k:=96) (by kernel_rfl)
theorem alc:tab IX=some Ld:=aI aJ (k:=97) (by kernel_rfl)
theorem ald:tab ad5=some Lf:=aI aJ (k:=98) (by kernel_rfl)
theorem ajL:tab acL=some JA:=aI aJ (k:=99) (by kernel_rfl)
theorem ajO:tab acO=some JD:=aI aJ (k:=100) (by kernel_rfl)
theorem ajQ:tab acR=some JG:=aI aJ (k:=101) (by kernel_rfl)
theorem aj1:tab ac1=some JR:=aI aJ (k:=102) (by kernel_rfl)
theorem akz:tab adx=some Kt:=aI aJ (k:=103) (by kernel_rfl)
theorem aki:tab adi=some Ka:=aI aJ (k:=104) (by kernel_rfl)
theorem akv:tab ads=some Ko:=aI aJ (k:=105) (by kernel_rfl)
theorem aky:tab adw=some Ks:=aI aJ (k:=106) (by kernel_rfl)
theorem akw:tab adt=some Kp:=aI aJ (k:=107) (by kernel_rfl)
theorem X2:tab adv=some Kr:=aI aJ (k:=108) (by kernel_rfl)
theorem akh:tab adh=some J9:=aI aJ (k:=109) (by kernel_rfl)
theorem akp:tab adn=some Kh:=aI aJ (k:=110) (by kernel_rfl)
theorem akr:tab DK=some Kj:=aI aJ (k:=111) (by kernel_rfl)
theorem akk:tab adk=some Kc:=aI aJ (k:=112) (by kernel_rfl)
theorem akj:tab adj=some Kb:=aI aJ (k:=113) (by kernel_rfl)
theorem akg:tab adg=some J8:=aI aJ (k:=114) (by kernel_rfl)
theorem akl:tab Ru=some Kd:=aI aJ (k:=115) (by kernel_rfl)
theorem ako:tab adm=some Kg:=aI aJ (k:=116) (by kernel_rfl)
theorem akn:tab adl=some Kf:=aI aJ (k:=117) (by kernel_rfl)
theorem akq:tab ado=some Ki:=aI aJ (k:=118) (by kernel_rfl)
theorem aks:tab adp=some Kk:=aI aJ (k:=119) (by kernel_rfl)
theorem akm:tab Rv=some Ke:=aI aJ (k:=120) (by kernel_rfl)
theorem aku:tab adr=some Km:=aI aJ (k:=121) (by kernel_rfl)
theorem akt:tab adq=some Kl:=aI aJ (k:=122) (by kernel_rfl)
theorem aj7:tab ac6=some JZ:=aI aJ (k:=123) (by kernel_rfl)
theorem alj:tab aeb=some Lv:=aI aJ (k:=124) (by kernel_rfl)
theorem alk:tab aec=some Lw:=aI aJ (k:=125) (by kernel_rfl)
theorem alm:tab aed=some Lx:=aI aJ (k:=126) (by kernel_rfl)
theorem ake:tab ade=some J6:=aI aJ (k:=127) (by kernel_rfl)
theorem akd:tab DJ=some J5:=aI aJ (k:=128) (by kernel_rfl)
theorem akc:tab adb=some J4:=aI aJ (k:=129) (by kernel_rfl)
theorem aka:tab ac9=some J2:=aI aJ (k:=130) (by kernel_rfl)
theorem akf:tab adf=some J7:=aI aJ (k:=131) (by kernel_rfl)
theorem aj9:tab ac8=some J1:=aI aJ (k:=132) (by kernel_rfl)
theorem aj8:tab ac7=some J0:=aI aJ (k:=133) (by kernel_rfl)
theorem akb:tab ada=some J3:=aI aJ (k:=134) (by kernel_rfl)
theorem ajS:tab acT=some JI:=aI aJ (k:=135) (by kernel_rfl)
theorem ajT:tab acU=some JJ:=aI aJ (k:=136) (by kernel_rfl)
theorem ajM:tab acM=some JB:=aI aJ (k:=137) (by kernel_rfl)
theorem caps:∀f cs,ab N8 f=some cs→(lR cs.args cs.res=none→ab af f=some ⟨cs.args++cs.caps,cs.res,.dat⟩)∧∀ys,lR cs.args cs.res=some ys→eZ SA f=false∧Fo Tryz.prog f=true:=Yt (l:=N8) (sig:=af) (P:=Tryz.prog) (pcs:=SA) (by kernel_rfl)
theorem clos:dD ctx:=⟨(fun f cs h=>(caps f cs h).1),fun f s h=>ahH (l:=af) (P:=Tryz.prog) (by kernel_rfl) f s h⟩
theorem its:∀f cs ys,ctx.cap f=some cs→lR cs.args cs.res=some ys→tab f=none∧∃fn,ctx.P.funcs[f]?=some fn∧fn.body.isSome=true∧(fn.name== "runtime.NumGoroutine")=false:=fun f cs ys h hi=>⟨abX (l:=DW) (by rw[afV];exact((caps f cs h).2 ys hi).1),aBO ((caps f cs h).2 ys hi).2⟩
theorem aBE:∀f pc,tab f=some pc→∃fn s ids fr nh,ctx.P.funcs[f]?=some fn∧ctx.sig f=some s∧aD {ctx with fr:=fr,nh:=nh} fn s ids=some pc:=
 DF (R:=fun f pc=>∃fn s ids fr nh,ctx.P.funcs[f]?=some fn∧ctx.sig f=some s∧aD {ctx with fr:=fr,nh:=nh} fn s ids=some pc) (l:=DW)
  (aG ⟨Tryz.f10,(ab af 10).getD default,[6,9,14,77838],[12,13,15,16,17,18],[],Tryz.func10,rfl,amG⟩
  (aG ⟨Tryz.f26,(ab af 26).getD default,[1,2,3,4,5,6,73],[0,7,8,9],[],Tryz.func26,rfl,amL⟩
  (aG ⟨Tryz.f79,(ab af 79).getD default,[0,24576,28672,32768,1,12289,2,3,12291,4],[5],[],Tryz.func79,rfl,amK⟩
  (aG ⟨Tryz.f81,(ab af 81).getD default,[2,69634,73730,3,4],[],[],Tryz.func81,rfl,amJ⟩
  (aG ⟨Tryz.f80,(ab af 80).getD default,[1,2],[],[],Tryz.func80,rfl,amH⟩
  (aG ⟨Tryz.f28,(ab af 28).getD default,[4,7,8,9],[10],[],Tryz.func28,rfl,ama⟩
  (aG ⟨Tryz.f83,(ab af 83).getD default,[4,7,8,10,16394],[9,11,12,13,14],[],Tryz.func83,rfl,amh⟩
  (aG ⟨Tryz.f84,(ab af 84).getD default,[2,3,4],[5],[],Tryz.func84,rfl,ami⟩
  (aG ⟨Tryz.f30,(ab af 30).getD default,[2,4,5,65541,69637,73733,77829,7,31,9,49,11,13],[],[],Tryz.func30,rfl,anB⟩
  (aG ⟨Tryz.f86,(ab af 86).getD default,[],[4],[],Tryz.func86,rfl,anH⟩
  (aG ⟨Tryz.f31,(ab af 31).getD default,[2,3,5,6,8,10,90,139],[4,7,9,11,12,13,14,15,16],[],Tryz.func31,rfl,anF⟩
  (aG ⟨Tryz.f88,(ab af 88).getD default,[2],[3],[],Tryz.func88,rfl,anE⟩
  (aG ⟨Tryz.f87,(ab af 87).getD default,[],[4],[],Tryz.func87,rfl,anI⟩
  (aG ⟨Tryz.f164,(ab af 164).getD default,[],[4,5],[],Tryz.func164,rfl,anL⟩
  (aG ⟨Tryz.f32,(ab af 32).getD default,[2],[4],[],Tryz.func32,rfl,ano⟩
  (aG ⟨Tryz.f91,(ab af 91).getD default,[],[4],[],Tryz.func91,rfl,ans⟩
  (aG ⟨Tryz.f89,(ab af 89).getD default,[2],[],[],Tryz.func89,rfl,anG⟩
  (aG ⟨Tryz.f90,(ab af 90).getD default,[3,6,8],[],[],Tryz.func90,rfl,anC⟩
  (aG ⟨Tryz.f97,(ab af 97).getD default,[],[2,3,4,11],[],Tryz.func97,rfl,YD⟩
  (aG ⟨Tryz.f94,(ab af 94).getD default,[],[4],[],Tryz.func94,rfl,YJ⟩
  (aG ⟨Tryz.f167,(ab af 167).getD default,[],[4,5],[],Tryz.func167,rfl,YL⟩
  (aG ⟨Tryz.f33,(ab af 33).getD default,[4,10,53],[8,9,11,12,13,14,55,70],[],Tryz.func33,rfl,amC⟩
  (aG ⟨Tryz.f92,(ab af 92).getD default,[4,9],[8],[],Tryz.func92,rfl,amF⟩
  (aG ⟨Tryz.f166,(ab af 166).getD default,[],[3],[],Tryz.func166,rfl,amE⟩
  (aG ⟨Tryz.f165,(ab af 165).getD default,[],[4],[],Tryz.func165,rfl,anJ⟩
  (aG ⟨Tryz.f216,(ab af 216).getD default,[],[4,5],[],Tryz.func216,rfl,anM⟩
  (aG ⟨Tryz.f93,(ab af 93).getD default,[4,11],[8,9],[],Tryz.func93,rfl,amD⟩
  (aG ⟨Tryz.f35,(ab af 35).getD default,[3,6,8,10],[7,9,11,12],[],Tryz.func35,rfl,amM⟩
  (aG ⟨Tryz.f95,(ab af 95).getD default,[2,3,4,12292,9],[5,6,7,8,10,11],[],Tryz.func95,rfl,YG⟩
  (aG ⟨Tryz.f169,(ab af 169).getD default,[2],[3],[],Tryz.func169,rfl,YE⟩
  (aG ⟨Tryz.f168,(ab af 168).getD default,[],[4,5],[],Tryz.func168,rfl,YK⟩
  (aG ⟨Tryz.f170,(ab af 170).getD default,[1],[2,3],[],Tryz.func170,rfl,YP⟩
  (aG ⟨Tryz.f217,(ab af 217).getD default,[2,7,12295],[4,5],[],Tryz.func217,rfl,YX⟩
  (aG ⟨Tryz.f218,(ab af 218).getD default,[1,4,6,12294,9],[2,3,5,7,8,38,47,10,11,12],[],Tryz.func218,rfl,YS⟩
  (aG ⟨Tryz.f260,(ab af 260).getD default,[1],[2,3,12,20,4,5],[],Tryz.func260,rfl,YU⟩
  (aG ⟨Tryz.f264,(ab af 264).getD default,[],[2],[],Tryz.func264,rfl,anZ⟩
  (aG ⟨Tryz.f262,(ab af 262).getD default,[],[2,3,4,11],[],Tryz.func262,rfl,YR⟩
  (aG ⟨Tryz.f261,(ab af 261).getD default,[2],[4,8,13,17,21],[],Tryz.func261,rfl,YY⟩
  (aG ⟨Tryz.f96,(ab af 96).getD default,[2,4,7],[5,6,8],[],Tryz.func96,rfl,anX⟩
  (aG ⟨Tryz.f171,(ab af 171).getD default,[2,3,4,6,33,7,8,10,12298,12],[5,15,21,9,11],[],Tryz.func171,rfl,YV⟩
  (aG ⟨Tryz.f219,(ab af 219).getD default,[2,4],[5,6],[],Tryz.func219,rfl,YW⟩
  (aG ⟨Tryz.f263,(ab af 263).getD default,[2],[],[],Tryz.func263,rfl,YZ⟩
  (aG ⟨Tryz.f220,(ab af 220).getD default,[4,5],[9,22,41,6,7,82,88,94],[],Tryz.func220,rfl,YT⟩
  (aG ⟨Tryz.f265,(ab af 265).getD default,[],[6,8,14,20,25],[],Tryz.func265,rfl,anY⟩
  (aG ⟨Tryz.f286,(ab af 286).getD default,[],[4,5,6,7],[],Tryz.func286,rfl,an0⟩
  (aG ⟨Tryz.f298,(ab af 298).getD default,[],[4,5,6,7,8,9,10,11,12,13],[],Tryz.func298,rfl,amm⟩
  (aG ⟨Tryz.f221,(ab af 221).getD default,[6],[2,3,5,8],[],Tryz.func221,rfl,YI⟩
  (aG ⟨Tryz.f49,(ab af 49).getD default,[2,3],[4,5],[],Tryz.func49,rfl,ani⟩
  (aG ⟨Tryz.f46,(ab af 46).getD default,[1],[2,3,7,12],[],Tryz.func46,rfl,amg⟩
  (aG ⟨Tryz.f48,(ab af 48).getD default,[1],[2],[],Tryz.func48,rfl,ame⟩
  (aG ⟨Tryz.f82,(ab af 82).getD default,[4,7,9],[8,10],[],Tryz.func82,rfl,amd⟩
  (aG ⟨Tryz.f163,(ab af 163).getD default,[3,7],[6,8],[],Tryz.func163,rfl,YC⟩
  (aG ⟨Tryz.f215,(ab af 215).getD default,[2],[4,5,6,8],[],Tryz.func215,rfl,YQ⟩
  (aG ⟨Tryz.f139,(ab af 139).getD default,[],[2],[],Tryz.func139,rfl,YM⟩
  (aG ⟨Tryz.f207,(ab af 207).getD default,[],[2],[],Tryz.func207,rfl,YB⟩
  (aG ⟨Tryz.f255,(ab af 255).getD default,[],[2,0],[],Tryz.func255,rfl,aml⟩
  (aG ⟨Tryz.f256,(ab af 256).getD default,[],[2,0],[],Tryz.func256,rfl,YA⟩
  (aG ⟨Tryz.f206,(ab af 206).getD default,[],[8,9,10,3,11,12,13,1,14,15,16,17,18,2],[],Tryz.func206,rfl,YO⟩
  (aG ⟨Tryz.f246,(ab af 246).getD default,[],[6,7],[],Tryz.func246,rfl,YN⟩
  (aG ⟨Tryz.f252,(ab af 252).getD default,[],[4],[],Tryz.func252,rfl,amz⟩
  (aG ⟨Tryz.f228,(ab af 228).getD default,[],[2],[],Tryz.func228,rfl,amB⟩
  (aG ⟨Tryz.f140,(ab af 140).getD default,[],[2,3,4,5],[],Tryz.func140,rfl,YH⟩
  (aG ⟨Tryz.f34,(ab af 34).getD default,[],[4,5],[],Tryz.func34,rfl,ane⟩
  (aG ⟨Tryz.f29,(ab af 29).getD default,[3,5],[6,7],[],Tryz.func29,rfl,amf⟩
  (aG ⟨Tryz.f41,(ab af 41).getD default,[4,6],[8,9,10,11],[],Tryz.func41,rfl,amc⟩
  (aG ⟨Tryz.f50,(ab af 50).getD default,[5,8,77832,10],[],[],Tryz.func50,rfl,amb⟩
  (aG ⟨Tryz.f109,(ab af 109).getD default,[1,3,6,8],[2,4],[],Tryz.func109,rfl,anD⟩
  (aG ⟨Tryz.f182,(ab af 182).getD default,[],[2,3,4],[],Tryz.func182,rfl,anO⟩
  (aG ⟨Tryz.f108,(ab af 108).getD default,[4,5,10],[8,9,15,39,58,74,11,12],[],Tryz.func108,rfl,anP⟩
  (aG ⟨Tryz.f54,(ab af 54).getD default,[1,9],[2,3,4,5,6,7,10,11,12],[],Tryz.func54,rfl,ann⟩
  (aG ⟨Tryz.f129,(ab af 129).getD default,[1,2,3,4,6,16390,20486,24582,21,8,34,10,12298,16394,47],[],[],Tryz.func129,rfl,anv⟩
  (aG ⟨Tryz.f130,(ab af 130).getD default,[],[6,7,8],[],Tryz.func130,rfl,anr⟩
  (aG ⟨Tryz.f204,(ab af 204).getD default,[],[4],[],Tryz.func204,rfl,anu⟩
  (aG ⟨Tryz.f244,(ab af 244).getD default,[],[2,3,4,5],[],Tryz.func244,rfl,ant⟩
  (aG ⟨Tryz.f245,(ab af 245).getD default,[],[4],[],Tryz.func245,rfl,anK⟩
  (aG ⟨Tryz.f279,(ab af 279).getD default,[],[4,5],[],Tryz.func279,rfl,anN⟩
  (aG ⟨Tryz.f131,(ab af 131).getD default,[],[2],[],Tryz.func131,rfl,anj⟩
  (aG ⟨Tryz.f132,(ab af 132).getD default,[],[3],[],Tryz.func132,rfl,ank⟩
  (aG ⟨Tryz.f133,(ab af 133).getD default,[2,3],[4,6],[],Tryz.func133,rfl,anq⟩
  (aG ⟨Tryz.f205,(ab af 205).getD default,[],[6,7,8],[],Tryz.func205,rfl,anz⟩
  (aG ⟨Tryz.f134,(ab af 134).getD default,[],[3],[],Tryz.func134,rfl,anl⟩
  (aG ⟨Tryz.f135,(ab af 135).getD default,[],[3],[],Tryz.func135,rfl,anm⟩
  (aG ⟨Tryz.f136,(ab af 136).getD default,[1,3,4,6,19,8,16392,36],[2],[],Tryz.func136,rfl,anw⟩
  (aG ⟨Tryz.f137,(ab af 137).getD default,[1,4,6],[2,3],[],Tryz.func137,rfl,anA⟩
  (aG ⟨Tryz.f138,(ab af 138).getD default,[1,4,6],[2],[],Tryz.func138,rfl,anx⟩
  (aG ⟨Tryz.f177,(ab af 177).getD default,[2],[4],[],Tryz.func177,rfl,anT⟩
  (aG ⟨Tryz.f178,(ab af 178).getD default,[],[2],[],Tryz.func178,rfl,anU⟩
  (aG ⟨Tryz.f179,(ab af 179).getD default,[1],[2],[],Tryz.func179,rfl,anQ⟩
  (aG ⟨Tryz.f180,(ab af 180).getD default,[3,4],[6,7,13,16,24,33,8,9],[],Tryz.func180,rfl,anS⟩
  (aG ⟨Tryz.f223,(ab af 223).getD default,[3],[4,5],[],Tryz.func223,rfl,anR⟩
  (aG ⟨Tryz.f267,(ab af 267).getD default,[],[4,5,6,7,8,9],[],Tryz.func267,rfl,amn⟩
  (aG ⟨Tryz.f120,(ab af 120).getD default,[],[2],[],Tryz.func120,rfl,amx⟩
  (aG ⟨Tryz.f201,(ab af 201).getD default,[],[2,3,4,5,6,7,8,9],[],Tryz.func201,rfl,amr⟩
  (aG ⟨Tryz.f288,(ab af 288).getD default,[],[4],[],Tryz.func288,rfl,amu⟩
  (aG ⟨Tryz.f299,(ab af 299).getD default,[],[6,0,1],[],Tryz.func299,rfl,amv⟩
  (aG ⟨Tryz.f287,(ab af 287).getD default,[],[6,7,8],[],Tryz.func287,rfl,amo⟩
  (aG ⟨Tryz.f185,(ab af 185).getD default,[3,9],[6,7],[],Tryz.func185,rfl,anp⟩
  (aG ⟨Tryz.f181,(ab af 181).getD default,[3],[6,7,8,2,9,10],[],Tryz.func181,rfl,anV⟩
  (aG ⟨Tryz.f224,(ab af 224).getD default,[3,9],[6,7,2],[],Tryz.func224,rfl,anW⟩
  (aG ⟨Tryz.f225,(ab af 225).getD default,[2,4,5],[6],[],Tryz.func225,rfl,amp⟩
  (aG ⟨Tryz.f268,(ab af 268).getD default,[3,4,5],[6],[],Tryz.func268,rfl,amt⟩
  (aG ⟨Tryz.f121,(ab af 121).getD default,[2],[4,5,6,7],[],Tryz.func121,rfl,amw⟩
  (aG ⟨Tryz.f27,(ab af 27).getD default,[2,3],[4],[],Tryz.func27,rfl,amI⟩
  (aG ⟨Tryz.f53,(ab af 53).getD default,[2,3],[4,5],[],Tryz.func53,rfl,anh⟩
  (aG ⟨Tryz.f58,(ab af 58).getD default,[1],[2,3,4],[],Tryz.func58,rfl,amY⟩
  (aG ⟨Tryz.f127,(ab af 127).getD default,[1],[2],[],Tryz.func127,rfl,anb⟩
  (aG ⟨Tryz.f128,(ab af 128).getD default,[1],[2,3],[],Tryz.func128,rfl,ang⟩
  (aG ⟨Tryz.f203,(ab af 203).getD default,[1],[2],[],Tryz.func203,rfl,anc⟩
  (aG ⟨Tryz.f243,(ab af 243).getD default,[3],[6,1,7],[],Tryz.func243,rfl,anf⟩
  (aG ⟨Tryz.f62,(ab af 62).getD default,[1],[2,3],[],Tryz.func62,rfl,amX⟩
  (aG ⟨Tryz.f145,(ab af 145).getD default,[1,5,44],[2,3,4,6,7],[],Tryz.func145,rfl,am5⟩
  (aG ⟨Tryz.f208,(ab af 208).getD default,[],[4],[],Tryz.func208,rfl,am7⟩
  (aG ⟨Tryz.f257,(ab af 257).getD default,[],[2,3,4],[],Tryz.func257,rfl,am0⟩
  (aG ⟨Tryz.f285,(ab af 285).getD default,[],[2],[],Tryz.func285,rfl,amZ⟩
  (aG ⟨Tryz.f258,(ab af 258).getD default,[],[6,7],[],Tryz.func258,rfl,amW⟩
  (aG ⟨Tryz.f209,(ab af 209).getD default,[2,3],[4,5],[],Tryz.func209,rfl,am1⟩
  (aG ⟨Tryz.f210,(ab af 210).getD default,[],[6],[],Tryz.func210,rfl,am4⟩
  (aG ⟨Tryz.f259,(ab af 259).getD default,[],[6,7],[],Tryz.func259,rfl,am3⟩
  (aG ⟨Tryz.f146,(ab af 146).getD default,[1,4,44],[2,3,5,6],[],Tryz.func146,rfl,am6⟩
  (aG ⟨Tryz.f147,(ab af 147).getD default,[1,3,24],[2,4,5],[],Tryz.func147,rfl,am8⟩
  (aG ⟨Tryz.f211,(ab af 211).getD default,[1],[2,3,4],[],Tryz.func211,rfl,am2⟩
  (aG ⟨Tryz.f148,(ab af 148).getD default,[1,4],[2,3,5],[],Tryz.func148,rfl,ana⟩
  (aG ⟨Tryz.f149,(ab af 149).getD default,[1,4,6],[2,3,5],[],Tryz.func149,rfl,am9⟩
  (aG ⟨Tryz.f42,(ab af 42).getD default,[2,3,10],[4,5,6,7,8,11],[],Tryz.func42,rfl,amN⟩
  (aG ⟨Tryz.f110,(ab af 110).getD default,[2,3],[4,5,6,7,8,54,80,109,118,9,10],[],Tryz.func110,rfl,an1⟩
  (aG ⟨Tryz.f183,(ab af 183).getD default,[],[4],[],Tryz.func183,rfl,an2⟩
  (aG ⟨Tryz.f184,(ab af 184).getD default,[1,3],[2,8,19,40],[],Tryz.func184,rfl,an3⟩
  (aG ⟨Tryz.f111,(ab af 111).getD default,[3,4,7,11],[6,8,9,76,92,98],[],Tryz.func111,rfl,amU⟩
  (aG ⟨Tryz.f112,(ab af 112).getD default,[],[6],[],Tryz.func112,rfl,amT⟩
  (aG ⟨Tryz.f186,(ab af 186).getD default,[3,4,7,8],[6,9,10,66,103,113,11,140,149],[],Tryz.func186,rfl,amS⟩
  (aG ⟨Tryz.f226,(ab af 226).getD default,[3],[6,7],[],Tryz.func226,rfl,amQ⟩
  (aG ⟨Tryz.f227,(ab af 227).getD default,[3],[6],[],Tryz.func227,rfl,amV⟩
  (aG ⟨Tryz.f113,(ab af 113).getD default,[2,3,6],[4,5,7],[],Tryz.func113,rfl,amP⟩
  (aG ⟨Tryz.f187,(ab af 187).getD default,[3,4,5],[6,7,8,9,65,80,100,111],[],Tryz.func187,rfl,amO⟩
  (aG ⟨Tryz.f114,(ab af 114).getD default,[1,4,5],[2,3],[],Tryz.func114,rfl,amR⟩
  (aG ⟨Tryz.f189,(ab af 189).getD default,[],[4,5,6],[],Tryz.func189,rfl,amy⟩
  (aG ⟨Tryz.f188,(ab af 188).getD default,[],[2,3,5],[],Tryz.func188,rfl,amA⟩
  (aG ⟨Tryz.f51,(ab af 51).getD default,[2],[4,5],[],Tryz.func51,rfl,amq⟩
  trivial))))))))))))))))))))))))))))))))))))))))))))))))))))))))))))))))))))))))))))))))))))))))))))))))))))))))))))))))))))))))))))))))))))))))))
end Rm
set_option linter.unusedSimpArgs false
namespace Rm
open Go Go.Proofs Cx Go.RowKit Go.Lib
theorem avL:(Tryz.prog.info? 3).map (fun i=>(i.zero,i.size,i.bytes))=some (some (.int .i64 0),1,8):=by kernel_rfl
set_option maxHeartbeats 2000000 in
set_option maxRecDepth 100000 in
theorem asI (w:World):Calls Tryz.prog 266 #[.slice none 0 0,.int .i64 0] w fun e w'=>e=.returned (.slice none 0 0)∧w'=w:=by
 go_enter Tryz.func266,Tryz.ntmps266
 go_wp2
 go_ret
 exact⟨rfl,rfl⟩
set_option maxHeartbeats 2000000 in
set_option maxRecDepth 100000 in
theorem asH (n:Nat)(w:World)(h0:0<n)(h1:n≤4294967296):Calls Tryz.prog 266 #[.slice none 0 0,.int .i64 n] w fun e w'=>
 ∃v',e=.returned v'∧w'.ownsRow w.heap.size 3 1 v' 0 []∧Below w.heap.size w w':=by
 obtain⟨i0,hi,yI,vQ,hz2⟩:=info_parts avL;have hr:=run_append_nil_zeros w 69 3 69 3 i0 (.int .i64 0) .i64 .i64 Tryz.underlying69 Tryz.underlying3 hi yI n h0 (by rw[vQ];decide) (by omega) (by rw[hz2];omega);have hn:¬((n:Int)<0):=by omega
 have oU:(n:Int)>0:=by omega
 have hw:IntKind.i64.wrap (n:Int)=n:=by rw[IntKind.wrap_i64];omega
 have qv:IntKind.i64.wrap 0=0:=by decide
 have eV:=grownCap_ge w n 0 3;have hle:=grownCap_le_maxLen w n 0 3 (by unfold maxLen;omega);have hs:(Builtin.zeroCells #[Value.int IntKind.i64 0] n++Builtin.zeroCells #[Value.int IntKind.i64 0] (grownCap w n 0 3-n)).size=grownCap w n 0 3*1:=by
  rw[Array.size_append,size_zeroCells,size_zeroCells];simp;omega
 go_enter Tryz.func266,Tryz.ntmps266
 go_wp2_with (at_builtin;refine wpList_append_run _ rfl _ _ 69 3 rfl _ _ rfl rfl _ _ hr ?qc)
 go_ret
 refine⟨_,rfl,?_,?_⟩
 ·exact World.ownsRow.drew (World.ownsRow_made w _ _ (bk _) hle hs)
 ·exact((Below.refl _ w).alloc (bk _) _).drew
def Cw (ds:List D):Option D:=
 match ds with
 |[.list [],.v (.int .i64 n)]=>if 0≤n∧n≤4294967296 then some (.list []) else none
 |_=>none
theorem asG (ds:List D)(d:D)(h:Cw ds=some d):∃s,ctx.sig 266=some s∧M0 ctx 266 s ds d:=by
 refine⟨_,rfl,fun _=>?_,fun shs obs hm=>by cases hm⟩;unfold Cw at h;split at h
 case h_2=>cases h
 rename_i n;split at h
 case isFalse=>cases h
 rename_i hn;cases h;obtain⟨k,rfl⟩:=uI hn.1;intro σ w args aE hC ha;obtain⟨a1,a2,a3⟩:=ha;have h0:=a3 0 _ rfl;have h1:=a3 1 _ rfl;obtain⟨u,v,rfl⟩:∃u v,args=#[u,v]:=by
  have:args.size=2:=by simpa using a1
  match args,this with
  |⟨[u,v]⟩,_=>exact⟨u,v,rfl⟩
 simp only[uM,FJ] at h0 h1;change Rep ctx.cap σ (.nils .bool) u (.list []) at h0;change Rep ctx.cap σ (.int .i64) v (.v (.int .i64 k)) at h1;have hu:u=.slice none 0 0:=by cases h0;rfl
 have hv:v=.int .i64 k:=by cases h1;rfl
 subst hu hv;by_cases hk:k=0
 ·subst hk;refine(asI w).mono fun e w' hh=>?_;obtain⟨rfl,rfl⟩:=hh;refine⟨_,σ,rfl,.refl σ,aE,.refl _ _,fun _ _ _ h=>.inl h,fun _ _ h=>.inl h,?_⟩;exact⟨[],[],rfl,⟨by simp,.inl ⟨rfl,rfl⟩⟩,⟨fun _=>undef,fun i x hx=>by simp at hx,fun i j u hi=>by simp at hi⟩,fun k hk=>by cases hk⟩
 ·refine(asH k w (by omega) (by omega)).mono fun e w' hh=>?_;obtain⟨v',rfl,bX,hb⟩:=hh;refine⟨v',σ,rfl,.refl σ,aE.below hb,hb,fun _ _ _ h=>.inl h,fun _ _ h=>.inl h,?_⟩;refine⟨[],[],rfl,bX,⟨fun _=>undef,fun i x hx=>by simp at hx,fun i j u hi=>by simp at hi⟩,fun k hk=>?_⟩;have bt:=(bX.lt k hk).1;refine⟨fun o=>?_,?_⟩
  ·cases hc:σ.c k o with
   |none=>rfl
   |some u=>have:=World.block_lt_of_cell? w (a:=⟨k,o,none⟩) (aE.c _ _ _ hc);simp at this;omega
  ·cases hc:σ.m k with
   |none=>rfl
   |some u=>rcases aE.m _ _ hc with⟨arr,clock,x,g1,_⟩|⟨_,g1⟩<;>(have:=(fU.1 g1).1;omega)
def cO (day:Int):Int×Int×Int:=
 let n:=day+730425
 let e:=n/146097
 let r:=n%146097
 let y:=(r-r/1460+r/36524-r/146096)/365
 let r:=r-(365*y+y/4-y/100)
 let m:=(5*r+2)/153
 let rp:=r-(153*m+2)/5+1
 let month:=if 12<m+3 then m+3-12 else m+3
 (if month<3 then y+400*e+1 else y+400*e,month,rp)
def mQ (rest feasts shut:List Int)(day:Int):Bool:=
 !rest.contains ((day+5)%7)&&(!feasts.contains (100*(cO day).2.1+(cO day).2.2)&& !shut.contains day)
def Zi (rest feasts shut:List Int)(a b:Int):List Int:=((List.range (b-a+1).toNat).map fun(k:Nat)=>a+k).filter (mQ rest feasts shut)
def vS (d:D):List Int:=d.l.map D.i
def Zj (ds:List D):List D:=
 let c:=(ds.getD 2 .none).deref
 (Zi (vS (c.c 3)) (vS (c.c 4)) (vS (c.c 5)) (ds.getD 0 .none).deref.i (ds.getD 1 .none).deref.i).map fun d=>.tup [.int d]
def xu (r:D)(city:Int):Int:=if 0≤city∧city<(r.c 1).l.length then(((r.c 1).l.getD city.toNat .none).c 1).i else-1
def SP (ds:List D):D:=
 let r:=ds.getD 0 .none
 let au:=(ds.getD 1 .none).i
 let c:=ds.getD 2 .none
 let s:=(c.c 15).l.getD (c.c 19).i.toNat .none
 let who:=(s.c 2).i
 if who<0∨(r.c 3).l.length≤who∨au<0∨(r.c 4).l.length≤au then .list [] else
 let out:=[au,xu r (s.c 7).i,xu r (c.c 10).i,xu r (c.c 9).i,xu r (((r.c 3).l.getD who.toNat .none).c 1).i]
 if(-1)∈out then .list [] else ints out
noncomputable def OD:List (Nat×(aT→List D→Option D)):=[(266,fun _ ds=>Cw ds),(85,rX SB SC SP),(289,tK DX 1000 1 Zj)]
noncomputable def ext:Nat→Option (aT→List D→Option D):=ab OD
theorem aBD:TabOK ctx tab ext:=by
 refine⟨clos,its,fun f pc _ h=>aBE f pc h,fun f g hg Φ hΦ fl ds d h=>?_⟩
 have:=DF (R:=fun f (g:aT→List D→Option D)=>∀Φ,de ctx Φ→fV ctx Φ→∀ds d,g Φ ds=some d→(∀s,ctx.sig f=some s→M0 ctx f s ds d)∧
  ∀cs ys,ctx.cap f=some cs→lR cs.args cs.res=some ys→∃xs,d=.list xs∧(∀x,x∈xs→∃ds',x=.tup ds'∧ds'.length=ys.length)∧ly ctx f cs.caps ys ds xs) (l:=OD)
  ⟨fun Φ hΦ fl ds d h=>⟨fun s hs=>by obtain⟨s',h1,h2⟩:=asG ds d h;rw[hs] at h1;cases h1;exact h2,fun cs ys hc hi=>by cases hc⟩,
   fun Φ hΦ fl ds d h=>⟨fun s hs=>by cases hs;exact⟨fun _=>ayL clos hΦ fl Tryz.func85 amj amk h,fun shs obs hm=>by cases hm⟩,fun cs ys hc hi=>by cases hc⟩,
   fun Φ hΦ fl ds d h=>⟨fun s hs=>(by cases hs),fun cs ys hc hi=>by
    cases hc;cases hi;exact avP clos hΦ fl Tryz.func289 an4 h rfl⟩,trivial⟩ f g hg
 exact this Φ hΦ fl ds d h
noncomputable abbrev T:cw:=cH tab ext
theorem ayK {pa pb:PC}{spec:List D→D}{Φ Ψ:aT}(h:Le Φ Ψ){ds:List D}{d:D}(e:rX pa pb spec Φ ds=some d):rX pa pb spec Ψ ds=some d:=by
 unfold rX at e ⊢;split at e
 ·rename_i hs;rw[if_pos]
  ·exact e
  ·rcases hs with⟨N,xs,h1,h2⟩|⟨N,h1,h2⟩
   ·exact .inl ⟨N,xs,PC.ev_mono h (bk _) h1,h2⟩
   ·exact .inr ⟨N,PC.ev_mono h (bk _) h1,h2⟩
 ·cases e
theorem apH:∀f g,ext f=some g→∀Φ Ψ,Le Φ Ψ→∀ds d,g Φ ds=some d→g Ψ ds=some d:=fun f g hg=>
 DF (R:=fun _ (g:aT→List D→Option D)=>∀Φ Ψ,Le Φ Ψ→∀ds d,g Φ ds=some d→g Ψ ds=some d) (l:=OD) ⟨fun _ _ _ _ _ e=>e,fun _ _ h _ _ e=>ayK h e,fun _ _ h _ _ e=>avO h e,trivial⟩ f g hg
theorem ak.of_nsl {tab:Nat→Option PC}{ext:Nat→Option (aT→List D→Option D)}{f:Nat}{pa pb:PC}{spec:List D→D}{ds:List D}{ta tb:PT}(hx:ext f=some (rX pa pb spec))(hta:tree pa=ta)(htb:tree pb=tb)
 (h:(∃xs,xs≠[]∧spec ds=.list xs∧aO (cH tab ext) ta (j9 ds) (fun x=>x=.ret (.list xs)))∨(spec ds=.list []∧aO (cH tab ext) tb (j9 ds) (fun x=>x=.ret (.list [])))):ak (cH tab ext) f ds (spec ds):=by
 refine ak.of_ext hx ?_;rcases h with⟨xs,h1,h2,h3⟩|⟨h2,h3⟩
 ·obtain⟨x,rfl,n0,hn⟩:=MQ (c:=pa) (hta▸h3);refine⟨n0,fun n hle=>?_⟩;unfold rX;rw[if_pos (.inl ⟨n,xs,hn n hle,h1,h2⟩)]
 ·obtain⟨x,rfl,n0,hn⟩:=MQ (c:=pb) (htb▸h3);refine⟨n0,fun n hle=>?_⟩;unfold rX;rw[if_pos (.inr ⟨n,hn n hle,h2⟩)]
end Rm
namespace Rm
open Go Go.Proofs Cx
def ej (n:Nat)(p:Nat→Bool):Bool:=(List.range n).all p
theorem XL {n:Nat}{p:Nat→Bool}(h:∀k,k<n→p k=true):ej n p=true:=bL.2 fun k hk=>h k (cd.1 hk)
theorem ajh {n k:Nat}{p:Nat→Bool}(hk:k<n)(h:p k=false):ej n p=false:=List.all_eq_false.2 ⟨k,cd.2 hk,by simp[h]⟩
theorem xo {n:Nat}{p:Nat→Bool}:ej n p=true↔∀k,k<n→p k=true:=⟨fun h k hk=>bL.1 h k (cd.2 hk),XL⟩
def fj (n:Nat)(f:Nat→Int):Int:=(((List.range n).map f).find? fun x=>x !=0).getD 0
theorem OI {n:Nat}{f:Nat→Int}(h:∀k,k<n→f k=0):fj n f=0:=by
 unfold fj;rw[uK.2]
 ·rfl
 ·intro x hx;obtain⟨k,hk,rfl⟩:=dx.1 hx;simp[h k (cd.1 hk)]
theorem OH {n k:Nat}{f:Nat→Int}(hk:k<n)(hj:∀j,j<k→f j=0)(h:f k≠0):fj n f=f k:=by
 unfold fj;have e:List.range n=List.range k++k::(List.range' (k+1) (n-k-1)):=by
  rw[M6,M6,←FO];have:=List.range'_append_1 (s:=0) (m:=k) (n:=n-k-1+1);rw[lC] at this;rw[this];congr 1;omega
 rw[e,me,List.find?_append,uK.2,Option.none_or,gE,List.find?_cons_of_pos (by simpa using h)]
 ·rfl
 ·intro x hx;obtain⟨j,tn,rfl⟩:=dx.1 hx;simp[hj j (cd.1 tn)]
theorem ZJ {n:Nat}{f:Nat→Int}:fj n f=0↔∀k,k<n→f k=0:=by
 refine⟨fun h k=>?_,OI⟩
 induction k using Nat.strongRecOn with
 |ind k ih=>
  intro hk;refine Am fun aB=>?_;rw[OH hk (fun j hj=>ih j hj (by omega)) aB] at h;exact aB h
section
variable {T:cw} {id:Nat} {bB bA lr lo:List Nat} {a:PC} {ρ:Env} {Q:Out→Prop}
theorem fP (N:Nat)(p:Nat→Bool)(str ff:Nat→List D)(h0:lr.map ρ.r=str 0∧lo.map ρ.o=ff 0)
 (step:∀k,k<N→p k=true→aO T (round id bB bA lr lo a) (ρ.put lr (str k) lo (ff k)) (eL ρ id bB bA lr lo (fun vr vo=>vr=str (k+1)∧vo=ff (k+1)) Q))
 (bad:∀k,k<N→p k=false→ej N p=false→aO T (round id bB bA lr lo a) (ρ.put lr (str k) lo (ff k)) (eL ρ id bB bA lr lo (fun _ _=>False) Q))
 (last:ej N p=true→aO T (round id bB bA lr lo a) (ρ.put lr (str N) lo (ff N)) (eL ρ id bB bA lr lo (fun _ _=>False) Q)):aY T (.block id bB bA (.loop lr lo a)) ρ Q:=
 .scan N (fun k=>p k=true) str ff h0 (fun k hk _ h=>step k hk h) (fun k hk _ h=>bad k hk (by simpa using h) (ajh hk (by simpa using h))) (fun h=>last (XL h))
theorem oc (N:Nat)(f:Nat→Int)(str ff:Nat→List D)(h0:lr.map ρ.r=str 0∧lo.map ρ.o=ff 0)
 (step:∀k,k<N→f k=0→aO T (round id bB bA lr lo a) (ρ.put lr (str k) lo (ff k)) (eL ρ id bB bA lr lo (fun vr vo=>vr=str (k+1)∧vo=ff (k+1)) Q))
 (bad:∀k,k<N→f k≠0→fj N f=f k→aO T (round id bB bA lr lo a) (ρ.put lr (str k) lo (ff k)) (eL ρ id bB bA lr lo (fun _ _=>False) Q))
 (last:fj N f=0→aO T (round id bB bA lr lo a) (ρ.put lr (str N) lo (ff N)) (eL ρ id bB bA lr lo (fun _ _=>False) Q)):aY T (.block id bB bA (.loop lr lo a)) ρ Q:=
 .scan N (fun k=>f k=0) str ff h0 (fun k hk _ h=>step k hk h) (fun k hk hj h=>bad k hk h (OH hk hj h)) (fun h=>last (OI h))
end
theorem bE {k n:Nat}(h:k<n)(hn:n≤4294967296):IntKind.i64.wrap ((k:Int)+1)=(k:Int)+1:=bF (by omega)
theorem uE {k:Nat}(hn:k≤4294967296):IntKind.i64.wrap ((k:Int)-1)=(k:Int)-1:=bF (by omega)
def aA (i n:Int):Bool:=decide (0≤i)&&decide (i<n)
def wi (n a b:Int):Bool:=decide (a≤n)&&decide (n≤b)
theorem fE (i n:Int):ak T adD [.int i,.int n] (.bool (aA i n)):=by
 refine .of_tree rfl akJ aC9 ?_;simp[VX,aA];by_cases h:0≤i<;>simp[h]
theorem pC (i n:Int):ak T adR [.int i,.int n] (.bool (aA i n)):=by
 refine .of_tree rfl akX aDn ?_;simp[Wa,aA];by_cases h:0≤i<;>simp[h]
theorem cN (n a b:Int):ak T adm [.int n,.int a,.int b] (.bool (wi n a b)):=by
 refine .of_tree rfl ako aCO ?_;simp[VC,wi];by_cases h:a≤n<;>simp[h]
theorem idx_eq {α:Type}[DecidableEq α]{l:List α}{x z:α}{k:Nat}(hk:k<l.length)(hj:∀j,j<k→l.getD j z≠x)(h:¬l.getD k z≠x):x∈l∧l.findIdx (fun y=>decide (y=x))=k:=by
 have e:l[k]=x:=by simpa [hk] using h
 refine⟨e▸di hk,(List.findIdx_eq hk).2 ⟨by simp[e],fun j gK=>?_⟩⟩;have fJ:j<l.length:=by omega
 simpa [fJ] using hj j gK
theorem abx {α:Type}[DecidableEq α]{l:List α}{x z:α}(hj:∀j,j<l.length→l.getD j z≠x):¬x∈l:=fun hm=>by
 obtain⟨j,fJ,rfl⟩:=jB hm;have:=hj j fJ;simp[fJ] at this
def tG {α:Type}[DecidableEq α](l:List α)(x:α):Int:=if x∈l then(l.findIdx (fun y=>decide (y=x)):Nat) else-1
def hasB {α:Type}[DecidableEq α](l:List α)(x:α):Bool:=l.any fun y=>decide (y=x)
theorem O4 {α:Type}[DecidableEq α]{l:List α}{x:α}:hasB l x=true↔x∈l:=by simp[hasB]
theorem aam {α:Type}[DecidableEq α]{l:List α}{x:α}:hasB l x=false↔¬x∈l:=by rw[←O4];simp
theorem abw {α:Type}[DecidableEq α](l:List α)(x:α):decide (0≤tG l x)=hasB l x:=by
 unfold tG;by_cases h:x∈l
 ·rw[O4.2 h];simp[h]
 ·rw[aam.2 h];simp[h]
@[simp] theorem aHs (a b:ByteArray):uZ .eql a b=decide (a=b):=by
  simp only[uZ,ByteArray.toList_eq];by_cases h:a=b
  ·subst h;simp
  ·rw[decide_eq_false h,beq_eq_false_iff_ne];intro e;have:a.data=b.data:=by rw[←sD];exact e
   exact h (by cases a;cases b;cases this;rfl)
@[simp] theorem aIj (ρ:Env)(x i:PE):PE.ev ρ (.sidx x i)=.v (.int .u8 ((PE.ev ρ x).s.data.getD (PE.ev ρ i).i.toNat 0).toNat):=_root_.id rfl
@[simp] theorem aIn (ρ:Env)(x i:PE):PE.ev ρ (.sok x i)=.v (.bool (decide (0≤(PE.ev ρ i).i∧(PE.ev ρ i).i<(PE.ev ρ x).s.size))):=_root_.id rfl
@[simp] theorem aKZ (a:ByteArray):(str a).s=a:=_root_.id rfl
theorem aiO (l:List Int)(x:Int)(hl:l.length≤4294967296):ak T RD [ints l,.int x] (.int (tG l x)):=by
 refine .of_tree rfl X7 aDx ?_;simp[Wj];refine .scan l.length (fun k=>l.getD k 0≠x) (fun k=>[.int 0,.int k]) (fun _=>[]) ?_ (fun k hk hj ho=>?_) (fun k hk hj ho=>?_) (fun hj=>?_)
 ·simp
 ·have hw:=bE hk hl;simp[hk] at ho;have dQ:¬x=l[k]:=fun e=>ho e.symm;simp[Ud,EZ,hk,hw,ints,ho,dQ]
 ·obtain⟨hm,he⟩:=idx_eq hk hj ho;simp[hk] at ho;simp[Ud,EZ,hk,ints,ho,tG,hm,he]
 ·have:=abx hj;simp[Ud,EZ,tG,this,ints]
theorem uH (l:List Int)(x:Int)(hl:l.length≤4294967296):ak T RB [ints l,.int x] (.bool (hasB l x)):=by
 refine .of_tree rfl X5 aDs ?_;simp[We];refine⟨_,aiO l x hl,?_⟩;have:=abw l x;simp at this ⊢;exact this
theorem aiP (l:List ByteArray)(x:ByteArray)(hl:l.length≤4294967296):ak T adY [strs l,str x] (.int (tG l x)):=by
 refine .of_tree rfl ak4 aDy ?_;simp[Wk];refine .scan l.length (fun k=>l.getD k default≠x) (fun k=>[.int 0,.int k]) (fun _=>[]) ?_ (fun k hk hj ho=>?_) (fun k hk hj ho=>?_) (fun hj=>?_)
 ·simp
 ·have hw:=bE hk hl;simp[hk] at ho;have dQ:¬x=l[k]:=fun e=>ho e.symm;simp[Ue,E0,hk,hw,strs,ho,dQ]
 ·obtain⟨hm,he⟩:=idx_eq hk hj ho;simp[hk] at ho;simp[Ue,E0,hk,strs,ho,tG,hm,he]
 ·have:=abx hj;simp[Ue,E0,tG,this,strs]
theorem aiH (l:List ByteArray)(x:ByteArray)(hl:l.length≤4294967296):ak T adV [strs l,str x] (.bool (hasB l x)):=by
 refine .of_tree rfl ak1 aDt ?_;simp[Wf];refine⟨_,aiP l x hl,?_⟩;have:=abw l x;simp at this ⊢;exact this
def nZ (l:List Int)(a b:Int)(k:Nat):Bool:=wi (l.getD k 0) a b&&(k==0||decide (l.getD (k-1) 0<l.getD k 0))
def rising (l:List Int)(a b:Int):Bool:=ej l.length (nZ l a b)
theorem E5 (l:List Int)(a b:Int)(hl:l.length≤4294967296):ak T adJ [ints l,.int a,.int b] (.bool (rising l a b)):=by
 refine .of_tree rfl akP aDf ?_;simp[V3];refine fP l.length (nZ l a b) (fun k=>[.bool false,.int k]) (fun _=>[]) ?_ (fun k hk ho=>?_) (fun k hk ho hb=>?_) (fun hj=>?_)
 ·simp
 ·have hw:=bE hk hl;simp[nZ,wi,hk] at ho;obtain⟨⟨h1,h2⟩,h3⟩:=ho;have cA:¬l[k]<a:=by omega
  have jL:¬b<l[k]:=by omega
  by_cases gL:0<k
  ·have bH:k-1<l.length:=by omega
   have dt:IntKind.i64.wrap ((k:Int)-1)=((k-1:Nat):Int):=by rw[uE (by omega)];omega
   have eR:¬l[k]≤l[k-1]:=by
        rcases h3 with h3|h3
        ·omega
        ·simp[bH] at h3;omega
   simp[zJ,ug,hk,hw,dt,ints,cA,jL,eR,gL,bH]
  ·simp[zJ,ug,hk,hw,ints,cA,jL,gL]
 ·have hf:rising l a b=false:=hb;simp[nZ,wi,hk] at ho;by_cases h1:l[k]<a
  ·simp[zJ,ug,hk,ints,h1,hf]
  by_cases h2:b<l[k]
  ·simp[zJ,ug,hk,ints,h1,h2,hf]
  have h3:=ho (by omega) (by omega);have gL:0<k:=by omega
  have bH:k-1<l.length:=by omega
  have dt:IntKind.i64.wrap ((k:Int)-1)=((k-1:Nat):Int):=by rw[uE (by omega)];omega
  have eR:=h3.2;simp[bH] at eR;simp[zJ,ug,hk,dt,ints,h1,h2,eR,gL,bH,hf]
 ·have hf:rising l a b=true:=hj;simp[zJ,ug,hf]
def DC (c:Int):Bool:=wi c 97 122||wi c 65 90
def wc (i:Nat)(c:Int):Bool:=DC c||(i !=0&&(decide (c=95)||wi c 48 57))
def AS (s:ByteArray)(k:Nat):Int:=((s.data.toList.getD k 0).toNat:Nat)
def ir (s:ByteArray):Bool:=decide (1≤s.size)&&decide (s.size≤20)&&ej s.size (fun k=>wc k (AS s k))
theorem F3 {s:ByteArray}{k:Nat}(h:k<s.data.size):(s.data[k].toNat:Int)=AS s k:=by
 unfold AS;rw[aS,bK (by simpa using h)];rfl
theorem ahy {s:ByteArray}:s=⟨#[]⟩↔s.size=0:=by
 constructor
 ·rintro rfl;rfl
 ·intro h;cases s with|mk d=>congr;exact MY h
theorem aAL (s:ByteArray):ak T adE [str s] (.bool (ir s)):=by
 refine .of_tree rfl akK aDa ?_;simp[VY];by_cases h0:s=⟨#[]⟩
 ·have hn:ir s=false:=by simp[ir,ahy.1 h0]
  rw[hn];simp[h0]
 by_cases h1:(20:Int)<s.size
 ·have cA:¬s.size≤20:=by omega
  simp[h0,h1,ir,cA]
 have hz:1≤s.size:=by
  have:s.size≠0:=fun e=>h0 (ahy.2 e);omega
 have cA:s.size≤20:=by omega
 simp[h0,h1];refine⟨by omega,fP s.size (fun k=>wc k (AS s k)) (fun k=>[.bool false,.int k]) (fun _=>[]) ?_ (fun k hk ho=>?_) (fun k hk ho hb=>?_) (fun hj=>?_)⟩
 ·simp
 ·have hw:=bE hk (by omega);have bt:k<s.data.size:=hk;have hg:=F3 bt;simp[wc,DC,wi] at ho;simp[TV,EJ,hk,bt,hw,hg];omega
 ·have bt:k<s.data.size:=hk;have hg:=F3 bt;have hn:ir s=false:=by simp[ir,hb]
  simp[wc,DC,wi] at ho;simp[TV,EJ,hk,bt,hg,hn];omega
 ·have hn:ir s=true:=by simp[ir,hj,hz,cA]
  have hd:s.data.size=s.size:=rfl;simp[TV,EJ,hn,hd]
theorem agw (c:Int):ak T adj [.v (.int .u8 c)] (.bool (DC c)):=by
 refine .of_tree rfl akj aCJ ?_;simp[Vx,DC,wi];by_cases h:97≤c<;>by_cases h2:c≤122<;>by_cases h3:65≤c<;>by_cases h4:c≤90<;>simp[h,h2,h3,h4]
theorem aAb (s:ByteArray):ak T adk [str s] (.bool (ir s)):=by
 refine .of_tree rfl akk aCK ?_;simp[Vy];by_cases h0:(s.size:Int)<1
 ·have hn:ir s=false:=by simp[ir];omega
  simp[h0,hn]
 by_cases h1:(20:Int)<s.size
 ·have hn:ir s=false:=by simp[ir];omega
  simp[h0,h1,hn]
 rw[if_neg (by omega)];refine fP s.size (fun k=>wc k (AS s k)) (fun k=>[.bool false,.int k]) (fun _=>[]) ?_ (fun k hk ho=>?_) (fun k hk ho hb=>?_) (fun hj=>?_)
 ·simp
 ·have hw:=bE hk (by omega);have bt:k<s.data.size:=hk;have hg:=F3 bt;simp[wc,wi] at ho;simp[TB,Ep,hk,bt,hw,hg];refine⟨_,agw _,?_⟩;simp[hw];intro g1 g2;exfalso;rcases ho with h|h
  ·rw[h] at g1;cases g1
  ·omega
 ·have bt:k<s.data.size:=hk;have hg:=F3 bt;have hn:ir s=false:=by simp[ir,hb]
  simp[wc,wi] at ho;simp[TB,Ep,hk,bt,hg,hn];refine⟨_,agw _,?_⟩;simp[ho.1];omega
 ·have hn:ir s=true:=by simp[ir,hj];omega
  simp[TB,Ep,hn]
end Rm
namespace Rm
open Go Go.Proofs Cx
theorem az8 (l:List ByteArray)(n:Nat)(x:ByteArray)(hn:n≤l.length)(hl:l.length≤4294967296):ak T adg [strs l,.int n,str x] (.bool (hasB (l.take n) x)):=by
 refine .of_tree rfl akg aCG ?_;simp[Vu];refine .scan n (fun k=>l.getD k default≠x) (fun k=>[.bool false,.int k]) (fun _=>[]) ?_ (fun k hk hj ho=>?_) (fun k hk hj ho=>?_) (fun hj=>?_)
 ·simp
 ·have bt:k<l.length:=by omega
  have hw:=bE bt hl;simp[bt] at ho;simp[TA,En,hk,bt,hw,strs,ho]
 ·have bt:k<l.length:=by omega
  simp[bt] at ho;have hm:hasB (l.take n) x=true:=O4.2 (by rw[←ho,aiV];exact⟨k,by omega,rfl⟩);simp[TA,En,hk,bt,strs,ho,hm]
 ·have hm:hasB (l.take n) x=false:=aam.2 (fun h=>by
   rw[aiV] at h;obtain⟨k,hk,e⟩:=h;have:=hj k (by omega);simp[show k<l.length by omega] at this;exact this e)
  simp[TA,En,hm]
def gq (l:List ByteArray)(i:Nat):Int:=if ir (l.getD i default)=false then 2 else if hasB (l.take i) (l.getD i default) then 5 else 0
theorem RN (l:List ByteArray)(i n:Nat)(h:i<n):gq (l.take n) i=gq l i:=by
 unfold gq;rw[aS,List.getElem?_take_of_lt h,List.take_take,oy (by omega),←aS]
theorem Ec (l:List ByteArray)(i:Nat)(hi:i<l.length)(hl:l.length≤4294967296):ak T DK [strs l,.int i] (.int (gq l i)):=by
 refine .of_tree rfl akr aCR ?_;simp[VF,hi];refine⟨_,by simpa [strs,hi] using aAb l[i],?_⟩;unfold gq;rw[aS,bK hi,jE];cases h1:ir l[i]<;>simp[h1];refine⟨_,by simpa [strs,hi] using az8 l i l[i] (by omega) hl,?_⟩;cases h2:hasB (l.take i) l[i]<;>simp[h2]
theorem ag2 (l:List ByteArray)(i:Nat)(hi:i<l.length)(hl:l.length≤4294967296):ak T adF [strs l,.int i] (.int (gq l i)):=by
 refine .of_tree rfl akL aDb ?_;simp[VZ,hi];refine⟨_,by simpa [strs,hi] using aAL l[i],?_⟩;unfold gq;rw[aS,bK hi,jE];cases h1:ir l[i]<;>simp[h1];refine⟨by omega,_,by simpa [strs,hi] using aiH (l.take i) l[i] (by rw[ei];omega),?_⟩;cases h2:hasB (l.take i) l[i]<;>simp[h2]
def jK (l:List ByteArray)(g:Nat→Bool)(i:Nat):Int:=if gq l i≠0 then gq l i else if g i then 0 else 1
def eJ (l:List ByteArray)(DH:Int)(g:Nat→Bool):Int:=if DH<l.length then 6 else fj l.length (jK l g)
theorem Ml (l:List ByteArray)(DH:Int)(f:Nat)(caps:List D)(g:Nat→Bool)(hg:∀i:Nat,i<l.length→ak T f (.int i::caps) (.bool (g i)))(hl:l.length≤4294967296):
 ak T adC [strs l,.int DH,.clo f caps] (.int (eJ l DH g)):=by
 refine .of_tree rfl akI aC8 ?_;simp[VW,eJ];by_cases h0:DH<l.length
 ·simp[h0];intro h;omega
 simp[h0];refine oc l.length (jK l g) (fun k=>[.int 0,.int k]) (fun _=>[]) ?_ (fun k hk ho=>?_) (fun k hk ho hb=>?_) (fun hj=>?_)
 ·simp
 ·have hw:=bE hk hl;have h1:gq l k=0:=by
   refine Am fun h=>?_;unfold jK at ho;rw[if_pos h] at ho;exact h ho
  have h2:g k=true:=by
   unfold jK at ho;rw[if_neg (by simpa using h1)] at ho;cases h:g k with
   |true=>rfl
   |false=>rw[h] at ho;simp at ho
  simp[TU,EI,hk,hw];refine⟨_,ag2 l k hk hl,?_⟩;simp[h1];refine⟨_,_,⟨rfl,rfl⟩,_,hg k hk,?_⟩;simp[h2,hw]
 ·simp[TU,EI,hk,hb];refine⟨_,ag2 l k hk hl,?_⟩;unfold jK at ho ⊢;by_cases h1:gq l k=0
  ·simp[h1] at ho ⊢;refine⟨_,_,⟨rfl,rfl⟩,_,hg k hk,?_⟩;simp[ho]
  ·simp[h1]
 ·simp[TU,EI,hj]
theorem Te (l:List Int)(a b:Int)(hl:l.length≤4294967296):ak T adl [ints l,.int a,.int b] (.bool (rising l a b)):=by
 refine .of_tree rfl akn aCN ?_;simp[VB];refine fP l.length (nZ l a b) (fun k=>[.bool false,.int k]) (fun _=>[]) ?_ (fun k hk ho=>?_) (fun k hk ho hb=>?_) (fun hj=>?_)
 ·simp
 ·have hw:=bE hk hl;simp[nZ,hk] at ho;simp[TF,Eu,hk,hw,ints];refine⟨_,cN _ _ _,?_⟩;by_cases gL:0<k
  ·have bH:k-1<l.length:=by omega
   have dt:IntKind.i64.wrap ((k:Int)-1)=((k-1:Nat):Int):=by rw[uE (by omega)];omega
   have eR:¬l[k]≤l[k-1]:=by
        rcases ho.2 with h3|h3
        ·omega
        ·simp[bH] at h3;omega
   simp[ho.1,hk,hw,dt,eR,gL,bH]
  ·simp[ho.1,hk,hw,gL];omega
 ·have hf:rising l a b=false:=hb;simp[nZ,hk] at ho;simp[TF,Eu,hk,ints,hf];refine⟨_,cN _ _ _,?_⟩;cases h1:wi l[k] a b with
  |false=>simp
  |true=>
   have h3:=ho h1;have gL:0<k:=by omega
   have bH:k-1<l.length:=by omega
   have dt:IntKind.i64.wrap ((k:Int)-1)=((k-1:Nat):Int):=by rw[uE (by omega)];omega
   have eR:=h3.2;simp[bH] at eR;simp[hk,dt,eR,gL,bH]
 ·have hf:rising l a b=true:=hj;simp[TF,Eu,hf]
theorem UF (n:Int):n.tdiv 100=if 0≤n then n/100 else-((-n)/100):=by
 split
 ·rename_i h;exact FF h
 ·rename_i h;have e:n.tdiv 100=-((-n).tdiv 100):=by rw[Int.neg_tdiv,Int.neg_neg]
  rw[e,FF (by omega)]
theorem ahJ (n:Int):n.tmod 100=n-100*n.tdiv 100:=Int.tmod_def n 100
theorem aiw {n:Int}(h:bj n):IntKind.i64.wrap (n.tdiv 100)=n.tdiv 100:=bF (by rw[UF];unfold bj at h;split<;>omega)
def nq (r:Realm)(c:City):Bool:=ej c.feasts.length (fun k=>wi ((c.feasts.getD k 0).tmod 100) 1 31)&&(decide (c.feasts.length≤60)&&decide (c.shut.length≤200)&&aA c.order r.orders.length&&aA c.currency r.currencies.length)&&
 (rising c.rest 0 6&&rising c.feasts 101 1231&&rising c.shut 0 100000)
theorem aAJ (r:Realm)(c:City)(h1:c.rest.length≤4294967296)(h2:c.feasts.length≤4294967296)(h3:c.shut.length≤4294967296):ak T adB [bl r,fF c] (.bool (nq r c)):=by
 refine .of_tree rfl akH aC7 ?_;simp[VV];refine fP c.feasts.length (fun k=>wi ((c.feasts.getD k 0).tmod 100) 1 31) (fun k=>[.bool false,.int k]) (fun _=>[]) ?_ (fun k hk ho=>?_) (fun k hk ho hb=>?_) (fun hj=>?_)
 ·simp
 ·have hw:=bE hk h2;simp[wi,hk] at ho;have g1:¬(c.feasts[k].tmod 100<1):=by omega
  have g2:¬(31<c.feasts[k].tmod 100):=by omega
  simp[TS,EH,hk,hw,ints,g1,g2]
 ·have hf:nq r c=false:=by simp only[nq,hb,q7]
  simp[wi,hk] at ho;simp[TS,EH,hk,ints,hf];by_cases g1:c.feasts[k].tmod 100<1
  ·simp[g1]
  ·have g2:=ho (by omega);simp[g1,g2]
 ·simp[TS,EH];by_cases g1:(c.feasts.length:Int)≤60
  case neg=>
   have hf:nq r c=false:=by
        have eQ:decide (c.feasts.length≤60)=false:=decide_eq_false (by omega);simp only[nq,eQ,q7,w8]
   have eQ:(60:Int)<c.feasts.length:=by omega
   simp[g1,eQ,hf]
  by_cases g2:(c.shut.length:Int)≤200
  case neg=>
   have hf:nq r c=false:=by
        have eQ:decide (c.shut.length≤200)=false:=decide_eq_false (by omega);simp only[nq,eQ,q7,w8]
   have nv:(200:Int)<c.shut.length:=by omega
   simp[g1,g2,nv,hf]
  have eQ:¬(60:Int)<c.feasts.length:=by omega
  have nv:¬(200:Int)<c.shut.length:=by omega
  have hf:nq r c=(aA c.order r.orders.length&&aA c.currency r.currencies.length&&(rising c.rest 0 6&&rising c.feasts 101 1231&&rising c.shut 0 100000)):=by
   have e1:decide (c.feasts.length≤60)=true:=decide_eq_true (by omega);have e2:decide (c.shut.length≤200)=true:=decide_eq_true (by omega);simp only[nq,hj,e1,e2,xb]
  rw[hf];simp[g1,g2,eQ,nv];refine⟨_,fE _ _,?_⟩;simp;cases e1:aA c.order r.orders.length<;>simp;refine⟨_,fE _ _,?_⟩;simp;cases e2:aA c.currency r.currencies.length<;>simp;refine⟨_,E5 _ _ _ h1,?_⟩;simp;cases e3:rising c.rest 0 6<;>simp;refine⟨_,E5 _ _ _ h2,?_⟩;simp;cases e4:rising c.feasts 101 1231<;>simp;exact E5 _ _ _ h3
def oF (r:Realm)(c:City):Bool:=(wi c.order 0 (r.orders.length-1)&&wi c.currency 0 (r.currencies.length-1)&&decide (c.feasts.length≤60)&&decide (c.shut.length≤200))&&
 ej c.feasts.length (fun k=>wi ((c.feasts.getD k 0).tdiv 100) 1 12&&wi ((c.feasts.getD k 0).tmod 100) 1 31)&&(rising c.rest 0 6&&rising c.feasts 0 2000&&rising c.shut 0 100000)
theorem q5 (n:Nat)(h:n≤4294967296):IntKind.i64.wrap ((n:Int)-1)=(n:Int)-1:=bF (by omega)
theorem aAc (r:Realm)(c:City)(h1:c.rest.length≤4294967296)(h2:c.feasts.length≤4294967296)(h3:c.shut.length≤4294967296)(h4:r.orders.length≤4294967296)(h5:r.currencies.length≤4294967296)(hi:∀y,y∈c.feasts→bj y):
 ak T Ru [bl r,fF c] (.bool (oF r c)):=by
 refine .of_tree rfl akl aCL ?_;simp[Vz,q5 _ h4,q5 _ h5];refine⟨_,cN _ _ _,?_⟩;cases e1:wi c.order 0 (r.orders.length-1)
 case false=>simp[oF,e1]
 simp;refine⟨_,cN _ _ _,?_⟩;cases e2:wi c.currency 0 (r.currencies.length-1)
 case false=>simp[oF,e1,e2]
 by_cases g1:(c.feasts.length:Int)≤60
 case neg=>
  have hf:oF r c=false:=by
   have eQ:decide (c.feasts.length≤60)=false:=decide_eq_false (by omega);simp only[oF,eQ,q7,w8]
  have eQ:(60:Int)<c.feasts.length:=by omega
  simp[eQ,hf]
 by_cases g2:(c.shut.length:Int)≤200
 case neg=>
  have hf:oF r c=false:=by
   have eQ:decide (c.shut.length≤200)=false:=decide_eq_false (by omega);simp only[oF,eQ,q7,w8]
  have nv:(200:Int)<c.shut.length:=by omega
  simp[nv,hf]
 have eQ:¬(60:Int)<c.feasts.length:=by omega
 have nv:¬(200:Int)<c.shut.length:=by omega
 have hf:oF r c=(ej c.feasts.length (fun k=>wi ((c.feasts.getD k 0).tdiv 100) 1 12&&wi ((c.feasts.getD k 0).tmod 100) 1 31)&&(rising c.rest 0 6&&rising c.feasts 0 2000&&rising c.shut 0 100000)):=by
  have e3:decide (c.feasts.length≤60)=true:=decide_eq_true (by omega);have e4:decide (c.shut.length≤200)=true:=decide_eq_true (by omega);simp only[oF,e1,e2,e3,e4,xb]
 rw[hf];simp[eQ,nv];refine fP c.feasts.length (fun k=>wi ((c.feasts.getD k 0).tdiv 100) 1 12&&wi ((c.feasts.getD k 0).tmod 100) 1 31) (fun k=>[.bool false,.int k]) (fun _=>[]) ?_ (fun k hk ho=>?_) (fun k hk ho hb=>?_) (fun hj=>?_)
 ·simp
 ·have hw:=bE hk h2;have hI:=hi _ (di hk);have hq:IntKind.i64.wrap (c.feasts[k].tdiv 100)=c.feasts[k].tdiv 100:=aiw hI;simp[hk] at ho;simp[TC,Er,hk,ints,hq];refine⟨_,cN _ _ _,?_⟩;simp[ho.1,hk];refine⟨_,cN _ _ _,?_⟩;simp[ho.2,hk,hw]
 ·have hI:=hi _ (di hk);have hq:IntKind.i64.wrap (c.feasts[k].tdiv 100)=c.feasts[k].tdiv 100:=aiw hI;simp[hk] at ho;simp only[aS] at hb;rw[hb];simp[TC,Er,hk,ints,hq];refine⟨_,cN _ _ _,?_⟩;cases e3:wi (c.feasts[k].tdiv 100) 1 12 with
  |false=>simp
  |true=>
   have:=ho e3;simp[hk];refine⟨_,cN _ _ _,?_⟩;simp[this]
 ·simp only[aS] at hj;rw[hj];simp[TC,Er];refine⟨_,Te _ _ _ h1,?_⟩;simp;cases e3:rising c.rest 0 6<;>simp;refine⟨_,Te _ _ _ h2,?_⟩;simp;cases e4:rising c.feasts 0 2000<;>simp;exact Te _ _ _ h3
theorem aof (r:Realm)(c:City):oF r c=nq r c:=by
 rw[q6];have bJ:∀(i:Int) (n:Nat),(wi i 0 (n-1)=true)↔(aA i n=true):=by intro i n;simp[wi,aA];omega
 simp only[oF,nq,ar,decide_eq_true_eq,bJ,rising,xo,nZ];constructor
 ·rintro⟨⟨⟨⟨⟨a1,a2⟩,a3⟩,a4⟩,a5⟩,⟨a6,a7⟩,a8⟩;refine⟨⟨fun k hk=>(a5 k hk).2,⟨⟨⟨a3,a4⟩,a1⟩,a2⟩⟩,⟨a6,fun k hk=>?_⟩,a8⟩;have h1:=a5 k hk;have h2:=a7 k hk;simp[wi,ahJ,UF] at h1 h2 ⊢;split at h1<;>omega
 ·rintro⟨⟨a5,⟨⟨⟨a3,a4⟩,a1⟩,a2⟩⟩,⟨a6,a7⟩,a8⟩;refine⟨⟨⟨⟨⟨a1,a2⟩,a3⟩,a4⟩,fun k hk=>?_⟩,⟨a6,fun k hk=>?_⟩,a8⟩
  ·have h1:=a5 k hk;have h2:=a7 k hk;simp[wi,ahJ,UF] at h1 h2 ⊢;split at h1<;>(try split)<;>omega
  ·have h2:=a7 k hk;simp[wi] at h2 ⊢;omega
end Rm
namespace Rm
open Go Go.Proofs Cx
theorem zY {α β:Type}(f:α→β){l:List α}{k:Nat}(h:k<l.length):(l.take (k+1)).map f=(l.take k).map f++[f l[k]]:=by
 rw[m9 h,me];rfl
theorem mH (i:Int)(n:Nat):aA i n=wi i 0 ((n:Int)-1):=by
 rw[q6];simp[wi,aA];omega
def xt (o:Order):List Int:=o.choices.map (·.ask)
def AA (o:Order):List Int:=o.rules.map (·.ask)
def po (o:Order):Bool:=ej o.choices.length (fun k=>aA (o.choices.getD k default).by_ 5)&&(rising (xt o) 0 21&&rising (AA o) 0 21)
theorem aAN (o:Order)(h1:o.choices.length≤100000)(h2:o.rules.length≤100000):ak T adH [iJ o] (.bool (po o)):=by
 refine .of_tree rfl akN aDd ?_;simp[V1];refine fP o.choices.length (fun k=>aA (o.choices.getD k default).by_ 5) (fun k=>[.bool false,.none,.int k]) (fun k=>[ints ((o.choices.take k).map (·.ask))]) ?_ (fun k hk ho=>?_) (fun k hk ho hb=>?_) (fun hj=>?_)
 ·simp[ints]
 ·have hw:=bE hk (by omega);have hl:(o.choices.take k).length=k:=by rw[ei];omega
  simp[hk] at ho;rw[zY _ hk];simp[TW,EK,hk,hw,ints,hl];refine⟨by omega,_,fE _ _,?_⟩;simp[ho,hw]
 ·have hf:po o=false:=by simp only[po,hb,q7]
  have hl:(o.choices.take k).length=k:=by rw[ei];omega
  simp[hk] at ho;simp[TW,EK,hk,ints,hl,hf];refine⟨by omega,_,fE _ _,?_⟩;simp[ho]
 ·have hf:po o=(rising (xt o) 0 21&&rising (AA o) 0 21):=by simp only[po,hj,xb]
  rw[hf];simp[TW,EK];refine aY.forRounds o.rules.length (fun k=>[.none,.int k]) (fun k=>[ints ((o.rules.take k).map (·.ask))]) ?_ (fun k hk=>?_) ?_
  ·simp[ints]
  ·have hw:=bE hk (by omega);have hl:(o.rules.take k).length=k:=by rw[ei];omega
   rw[zY _ hk];simp[agU,Mc,hk,hw,ints,hl];omega
  ·simp[agU,Mc];refine⟨_,E5 (xt o) _ _ (by simp[xt];omega),?_⟩;simp;cases e1:rising (xt o) 0 21<;>simp;exact E5 (AA o) _ _ (by simp[AA];omega)
def wh (o:Order)(k:Nat):Bool:=wi (o.choices.getD k default).ask 0 21&&wi (o.choices.getD k default).by_ 0 4&&(k==0||decide ((o.choices.getD (k-1) default).ask<(o.choices.getD k default).ask))
def zd (o:Order)(k:Nat):Bool:=wi (o.rules.getD k default).ask 0 21&&(k==0||decide ((o.rules.getD (k-1) default).ask<(o.rules.getD k default).ask))
theorem azC (o:Order):(ej o.choices.length (wh o)&&ej o.rules.length (zd o))=po o:=by
 rw[q6];simp only[po,ar,rising,xo,xt,AA,ix];have g1:∀k,k<o.choices.length→(nZ (o.choices.map (·.ask)) 0 21 k=true↔wi (o.choices.getD k default).ask 0 21=true∧(k=0∨(o.choices.getD (k-1) default).ask<(o.choices.getD k default).ask)):=by
  intro k hk;have bH:k-1<o.choices.length:=by omega
  simp[nZ,hk,bH]
 have g2:∀k,k<o.rules.length→(nZ (o.rules.map (·.ask)) 0 21 k=true↔wi (o.rules.getD k default).ask 0 21=true∧(k=0∨(o.rules.getD (k-1) default).ask<(o.rules.getD k default).ask)):=by
  intro k hk;have bH:k-1<o.rules.length:=by omega
  simp[nZ,hk,bH]
 constructor
 ·rintro⟨a,b⟩;refine⟨fun k hk=>?_,fun k hk=>(g1 k hk).2 ?_,fun k hk=>(g2 k hk).2 ?_⟩
  ·have:=a k hk;simp[wh,wi,aA] at this ⊢;omega
  ·have:=a k hk;simp[wh] at this ⊢;exact⟨this.1.1,this.2⟩
  ·have:=b k hk;simp[zd] at this ⊢;exact this
 ·rintro⟨c,a,b⟩;refine⟨fun k hk=>?_,fun k hk=>?_⟩
  ·have h1:=(g1 k hk).1 (a k hk);have h2:=c k hk;simp[wh,wi,aA] at h1 h2 ⊢;omega
  ·have h1:=(g2 k hk).1 (b k hk);simp[zd] at h1 ⊢;exact h1
theorem aAd (o:Order)(h1:o.choices.length≤100000)(h2:o.rules.length≤100000):ak T Rv [iJ o] (.bool (po o)):=by
 rw[←azC];refine .of_tree rfl akm aCM ?_;simp[VA];refine fP o.choices.length (wh o) (fun k=>[.bool false,.int k]) (fun _=>[]) ?_ (fun k hk ho=>?_) (fun k hk ho hb=>?_) (fun hj=>?_)
 ·simp
 ·have hw:=bE hk (by omega);simp[wh,hk] at ho;simp[TD,Es,hk];refine⟨_,cN _ _ _,?_⟩;simp[ho.1.1,hk];refine⟨_,cN _ _ _,?_⟩;by_cases gL:0<k
  ·have bH:k-1<o.choices.length:=by omega
   have dt:IntKind.i64.wrap ((k:Int)-1)=((k-1:Nat):Int):=by rw[uE (by omega)];omega
   have h3:¬o.choices[k].ask≤o.choices[k-1].ask:=by
        rcases ho.2 with h3|h3
        ·omega
        ·simp[bH] at h3;omega
   simp[ho.1.2,hk,hw,dt,h3,gL,bH]
  ·simp[ho.1.2,hk,hw,gL];omega
 ·rw[hb];simp[wh,hk] at ho;simp[TD,Es,hk];refine⟨_,cN _ _ _,?_⟩;cases e1:wi o.choices[k].ask 0 21 with
  |false=>simp
  |true=>
   simp[hk];refine⟨_,cN _ _ _,?_⟩;cases e2:wi o.choices[k].by_ 0 4 with
   |false=>simp
   |true=>
    have h3:=ho e1 e2;have gL:0<k:=by omega
    have bH:k-1<o.choices.length:=by omega
    have dt:IntKind.i64.wrap ((k:Int)-1)=((k-1:Nat):Int):=by rw[uE (by omega)];omega
    have eR:=h3.2;simp[bH] at eR;simp[hk,dt,eR,gL,bH]
 ·rw[hj];simp[TD,Es];refine fP o.rules.length (zd o) (fun k=>[.bool false,.int k]) (fun _=>[]) ?_ (fun k hk ho=>?_) (fun k hk ho hb=>?_) (fun hj=>?_)
  ·simp
  ·have hw:=bE hk (by omega);simp[zd,hk] at ho;simp[TE,Et,hk];refine⟨_,cN _ _ _,?_⟩;by_cases gL:0<k
   ·have bH:k-1<o.rules.length:=by omega
    have dt:IntKind.i64.wrap ((k:Int)-1)=((k-1:Nat):Int):=by rw[uE (by omega)];omega
    have h3:¬o.rules[k].ask≤o.rules[k-1].ask:=by
       rcases ho.2 with h3|h3
       ·omega
       ·simp[bH] at h3;omega
    simp[ho.1,hk,hw,dt,h3,gL,bH]
   ·simp[ho.1,hk,hw,gL];omega
  ·rw[hb];simp[zd,hk] at ho;simp[TE,Et,hk];refine⟨_,cN _ _ _,?_⟩;cases e1:wi o.rules[k].ask 0 21 with
   |false=>simp
   |true=>
    have h3:=ho e1;have gL:0<k:=by omega
    have bH:k-1<o.rules.length:=by omega
    have dt:IntKind.i64.wrap ((k:Int)-1)=((k-1:Nat):Int):=by rw[uE (by omega)];omega
    have eR:=h3.2;simp[bH] at eR;simp[hk,dt,eR,gL,bH]
  ·rw[hj];simp[TE,Et]
def fa (r:Realm):List ByteArray:=r.cities.map (·.name)
def fb (r:Realm):List ByteArray:=r.firms.map (·.name)
def eH (r:Realm):List ByteArray:=r.orders.map (·.name)
theorem aAM (r:Realm)(h1:r.cities.length≤100000)(h2:r.firms.length≤100000)(h3:r.orders.length≤100000):ak T adG [bl r] (.tup [strs (fa r),strs (fb r),strs (eH r)]):=by
 refine .of_tree rfl akM aDc ?_;simp[V0];refine aY.forRounds r.cities.length (fun k=>[.none,.int k]) (fun k=>[strs ((r.cities.take k).map (·.name))]) ?_ (fun k hk=>?_) ?_
 ·simp[strs]
 ·have hw:=bE hk (by omega);have hl:(r.cities.take k).length=k:=by rw[ei];omega
  rw[zY _ hk];simp[agR,L9,hk,hw,strs,hl];omega
 ·simp[agR,L9];refine aY.forRounds r.firms.length (fun k=>[.none,.int k]) (fun k=>[strs ((r.firms.take k).map (·.name))]) ?_ (fun k hk=>?_) ?_
  ·simp[strs]
  ·have hw:=bE hk (by omega);have hl:(r.firms.take k).length=k:=by rw[ei];omega
   rw[zY _ hk];simp[agS,Ma,hk,hw,strs,hl];omega
  ·simp[agS,Ma];refine aY.forRounds r.orders.length (fun k=>[.none,.int k]) (fun k=>[strs ((r.orders.take k).map (·.name))]) ?_ (fun k hk=>?_) ?_
   ·simp[strs]
   ·have hw:=bE hk (by omega);have hl:(r.orders.take k).length=k:=by rw[ei];omega
    rw[zY _ hk];simp[agT,Mb,hk,hw,strs,hl];omega
   ·simp[agT,Mb,fa,fb,eH]
end Rm
namespace Rm
open Go Go.Proofs Cx
structure Small (r:Realm):Prop where
 cur:r.currencies.length≤1000
 cities:r.cities.length≤1000
 groups:r.groups.length≤1000
 firms:r.firms.length≤1000
 orders:r.orders.length≤1000
 us:r.usances.length≤1000
 rates:r.rates.length≤1000
 halts:r.halts.length≤1000
 city:∀c,c∈r.cities→c.rest.length≤1000∧c.feasts.length≤1000∧c.shut.length≤1000∧∀y,y∈c.feasts→bj y
 order:∀o,o∈r.orders→o.choices.length≤1000∧o.rules.length≤1000
 rate:∀x,x∈r.rates→bj x.num∧bj x.den
def lj (r:Realm)(k j:Nat):Bool:=(r.usances.getD j default).fr !=(r.usances.getD k default).fr||(r.usances.getD j default).to !=(r.usances.getD k default).to
def uC (r:Realm)(k:Nat):Int:=
 if(aA (r.usances.getD k default).fr r.cities.length&&aA (r.usances.getD k default).to r.cities.length&&wi (r.usances.getD k default).days 1 20000)=false then 1 else if ej k (lj r k) then 0 else 5
def qY (r:Realm):Int:=if 100<r.usances.length then 6 else fj r.usances.length (uC r)
theorem aAP (r:Realm)(h:Small r):ak T adK [bl r] (.int (qY r)):=by
 refine .of_tree rfl akQ aDg ?_;have hu:=h.us;simp[V4,qY];by_cases h0:100<r.usances.length
 ·have fG:(100:Int)<r.usances.length:=by omega
  have vf:¬r.usances.length≤100:=by omega
  simp[h0,fG,vf]
 have fG:¬(100:Int)<r.usances.length:=by omega
 simp[h0,fG];refine oc r.usances.length (uC r) (fun k=>[.int 0,.int k]) (fun _=>[]) ?_ (fun k hk ho=>?_) (fun k hk ho hb=>?_) (fun hj=>?_)
 ·simp
 ·have hw:=bE hk (by omega);have ha:aA r.usances[k].fr r.cities.length=true∧aA r.usances[k].to r.cities.length=true∧wi r.usances[k].days 1 20000=true∧ej k (lj r k)=true:=by
   unfold uC at ho;simp only[aS,bK hk,jE] at ho;cases e1:aA r.usances[k].fr r.cities.length<;>cases e2:aA r.usances[k].to r.cities.length<;>cases e3:wi r.usances[k].days 1 20000<;>cases e4:ej k (lj r k)<;>simp[e1,e2,e3,e4] at ho ⊢
  obtain⟨a1,a2,a3,a4⟩:=ha;simp[wi] at a3;have a5:¬r.usances[k].days<1:=by omega
  have a6:¬20000<r.usances[k].days:=by omega
  simp[TZ,EN,hk];refine⟨_,fE _ _,?_⟩;simp[a1];refine⟨_,fE _ _,?_⟩;simp[a2,a5,a6];refine⟨by omega,fP k (lj r k) (fun j=>[.int 0,.int j]) (fun _=>[]) ?_ (fun j hj ez=>?_) (fun j hj ez dm=>?_) (fun ql=>?_)⟩
  ·simp
  ·have vN:=bE hj (by omega);have bS:j<r.usances.length:=by omega
   have hm:j<min k r.usances.length:=by omega
   simp[lj,bS,hk] at ez;simp[Md,zK,hj,bS,hk,vN,hm];intro e e';rcases ez with h|h
   ·exact absurd e h
   ·exact absurd e' h
  ·rw[a4] at dm;cases dm
  ·simp[Md,zK,hw];omega
 ·simp[TZ,EN,hk,hb];refine⟨_,fE _ _,?_⟩;unfold uC at ho ⊢;simp only[aS,bK hk,jE] at ho ⊢;cases e1:aA r.usances[k].fr r.cities.length
  ·simp
  simp;refine⟨_,fE _ _,?_⟩;cases e2:aA r.usances[k].to r.cities.length
  ·simp
  cases e3:wi r.usances[k].days 1 20000
  ·simp[wi] at e3;by_cases g:r.usances[k].days<1
   ·simp[g]
   ·simp[g,e3 (by omega)]
  have On:=e3;simp[wi] at On;have a5:¬r.usances[k].days<1:=by omega
  have a6:¬20000<r.usances[k].days:=by omega
  simp[e1,e2,e3] at ho;simp[a5,a6];refine⟨by omega,fP k (lj r k) (fun j=>[.int 0,.int j]) (fun _=>[]) ?_ (fun j hj ez=>?_) (fun j hj ez dm=>?_) (fun ql=>?_)⟩
  ·simp
  ·have vN:=bE hj (by omega);have bS:j<r.usances.length:=by omega
   have hm:j<min k r.usances.length:=by omega
   simp[lj,bS,hk] at ez;simp[Md,zK,hj,bS,hk,vN,hm];intro e e';rcases ez with h|h
   ·exact absurd e h
   ·exact absurd e' h
  ·have bS:j<r.usances.length:=by omega
   have hm:j<min k r.usances.length:=by omega
   simp[lj,bS,hk] at ez;simp[Md,zK,hj,bS,hk,ho,hm]
   first|exact ez|simp[ez]
  ·rw[ql] at ho;cases ho
 ·simp[TZ,EN,hj]
theorem aAi (r:Realm)(h:Small r):ak T adr [bl r] (.int (qY r)):=by
 refine .of_tree rfl aku aCU ?_;have hu:=h.us;have hc:=h.cities;simp[VI,qY];by_cases h0:100<r.usances.length
 ·have fG:(100:Int)<r.usances.length:=by omega
  have vf:¬r.usances.length≤100:=by omega
  simp[h0,fG,vf]
 have fG:¬(100:Int)<r.usances.length:=by omega
 simp[h0,fG];refine oc r.usances.length (uC r) (fun k=>[.int 0,.int k]) (fun _=>[]) ?_ (fun k hk ho=>?_) (fun k hk ho hb=>?_) (fun hj=>?_)
 ·simp
 ·have hw:=bE hk (by omega);have ha:aA r.usances[k].fr r.cities.length=true∧aA r.usances[k].to r.cities.length=true∧wi r.usances[k].days 1 20000=true∧ej k (lj r k)=true:=by
   unfold uC at ho;simp only[aS,bK hk,jE] at ho;cases e1:aA r.usances[k].fr r.cities.length<;>cases e2:aA r.usances[k].to r.cities.length<;>cases e3:wi r.usances[k].days 1 20000<;>cases e4:ej k (lj r k)<;>simp[e1,e2,e3,e4] at ho ⊢
  obtain⟨a1,a2,a3,a4⟩:=ha;rw[mH] at a1 a2;simp[TN,EC,hk,q5 _ (show r.cities.length≤4294967296 by omega)];refine⟨_,cN _ _ _,?_⟩;simp[a1,q5 _ (show r.cities.length≤4294967296 by omega)];refine⟨_,cN _ _ _,?_⟩;simp[a2];refine⟨_,cN _ _ _,?_⟩;simp[a3];refine fP k (lj r k) (fun j=>[.int 0,.int j]) (fun _=>[]) ?_ (fun j hj ez=>?_) (fun j hj ez dm=>?_) (fun ql=>?_)
  ·simp
  ·have vN:=bE hj (by omega);have bS:j<r.usances.length:=by omega
   simp[lj,bS,hk] at ez;simp[L6,zH,hj,bS,hk,vN];intro e e';rcases ez with h|h
   ·exact absurd e h
   ·exact absurd e' h
  ·rw[a4] at dm;cases dm
  ·simp[L6,zH,hw]
 ·simp[TN,EC,hk,hb,q5 _ (show r.cities.length≤4294967296 by omega)];refine⟨_,cN _ _ _,?_⟩;unfold uC at ho ⊢;simp only[aS,bK hk,jE,mH] at ho ⊢;cases e1:wi r.usances[k].fr 0 ((r.cities.length:Int)-1)
  ·simp
  simp[q5 _ (show r.cities.length≤4294967296 by omega)];refine⟨_,cN _ _ _,?_⟩;cases e2:wi r.usances[k].to 0 ((r.cities.length:Int)-1)
  ·simp
  simp;refine⟨_,cN _ _ _,?_⟩;cases e3:wi r.usances[k].days 1 20000
  ·simp
  simp[e1,e2,e3] at ho;simp;refine fP k (lj r k) (fun j=>[.int 0,.int j]) (fun _=>[]) ?_ (fun j hj ez=>?_) (fun j hj ez dm=>?_) (fun ql=>?_)
  ·simp
  ·have vN:=bE hj (by omega);have bS:j<r.usances.length:=by omega
   simp[lj,bS,hk] at ez;simp[L6,zH,hj,bS,hk,vN];intro e e';rcases ez with h|h
   ·exact absurd e h
   ·exact absurd e' h
  ·have bS:j<r.usances.length:=by omega
   simp[lj,bS,hk] at ez;simp[L6,zH,hj,bS,hk,ho]
   first|exact ez|simp[ez]
  ·rw[ql] at ho;cases ho
 ·simp[TN,EC,hj]
def wJ (r:Realm)(k:Nat):Bool:=aA (r.rates.getD k default).fr r.currencies.length&&aA (r.rates.getD k default).to r.currencies.length&&((r.rates.getD k default).fr !=(r.rates.getD k default).to)&&
 wi (r.rates.getD k default).num 1 1073741824&&wi (r.rates.getD k default).den 1 1073741824&&wi (r.rates.getD k default).since 0 100000
def s9 (r:Realm)(k:Nat):Bool:=aA (r.halts.getD k default).order r.orders.length&&wi (r.halts.getD k default).fr 0 (r.halts.getD k default).to&&decide ((r.halts.getD k default).to≤100000)
def nY (r:Realm):Int:=if 100<r.rates.length then 6 else if ej r.rates.length (wJ r)=false then 1 else if 20<r.halts.length then 6 else if ej r.halts.length (s9 r) then 0 else 1
theorem IA {n:Int}(h:bj n)(m:Int)(hm:0≤m∧m≤4294967296):aA (IntKind.i64.wrap (n-1)) m=wi n 1 m:=by
 unfold bj at h;by_cases e:n=-9223372036854775808
 ·subst e;have:IntKind.i64.wrap (-9223372036854775808-1)=9223372036854775807:=by decide
  rw[this,q6];simp[aA,wi];omega
 ·rw[bF (by omega),q6];simp[aA,wi];omega
theorem abA (n:Int):aA n 100001=wi n 0 100000:=by rw[q6];simp[aA,wi];omega
theorem aAO (r:Realm)(h:Small r):ak T adI [bl r] (.int (nY r)):=by
 refine .of_tree rfl akO aDe ?_;have hu:=h.rates;have hh:=h.halts;simp[V2,nY];by_cases h0:100<r.rates.length
 ·have fG:(100:Int)<r.rates.length:=by omega
  have vf:¬r.rates.length≤100:=by omega
  simp[h0,fG,vf]
 have fG:¬(100:Int)<r.rates.length:=by omega
 simp[h0,fG];have key:∀k (hk:k<r.rates.length),∀{ρ:Env} {Q:Out→Prop},True:=fun _ _ _ _=>trivial;refine fP r.rates.length (wJ r) (fun k=>[.int 0,.int k]) (fun _=>[]) ?_ (fun k hk ho=>?_) (fun k hk ho hb=>?_) (fun hj=>?_)
 ·simp
 ·have hw:=bE hk (by omega);have hI:=h.rate _ (di hk);simp[wJ,hk] at ho;obtain⟨⟨⟨⟨⟨a1,a2⟩,a3⟩,a4⟩,a5⟩,a6⟩:=ho;simp[TX,EL,hk];refine⟨_,fE _ _,?_⟩;simp[a1];refine⟨_,fE _ _,?_⟩;simp[a2,a3];refine⟨_,fE _ _,?_⟩;simp[IA hI.1,a4];refine⟨_,fE _ _,?_⟩;simp[IA hI.2,a5];refine⟨_,fE _ _,?_⟩;simp[abA,a6,hw]
 ·have hI:=h.rate _ (di hk);rw[hb];simp[wJ,hk] at ho;simp[TX,EL,hk];refine⟨_,fE _ _,?_⟩;cases e1:aA r.rates[k].fr r.currencies.length
  ·simp
  simp;refine⟨_,fE _ _,?_⟩;cases e2:aA r.rates[k].to r.currencies.length
  ·simp
  by_cases e3:r.rates[k].fr=r.rates[k].to
  ·simp[e3]
  simp[e3];refine⟨_,fE _ _,?_⟩;rw[IA hI.1 _ (by omega)];cases e4:wi r.rates[k].num 1 1073741824
  ·simp
  simp;refine⟨_,fE _ _,?_⟩;rw[IA hI.2 _ (by omega)];cases e5:wi r.rates[k].den 1 1073741824
  ·simp
  simp;refine⟨_,fE _ _,?_⟩;rw[abA];simp[ho e1 e2 e3 e4 e5]
 ·rw[hj];simp[TX,EL];by_cases h1:20<r.halts.length
  ·have cA:(20:Int)<r.halts.length:=by omega
   have OR:¬r.halts.length≤20:=by omega
   simp[h1,cA,OR]
  have cA:¬(20:Int)<r.halts.length:=by omega
  simp[h1,cA];refine fP r.halts.length (s9 r) (fun k=>[.int 0,.int k]) (fun _=>[]) ?_ (fun k hk ho=>?_) (fun k hk ho hb=>?_) (fun hj=>?_)
  ·simp
  ·have hw:=bE hk (by omega);simp[s9,wi,hk] at ho;obtain⟨⟨a1,a2⟩,a3⟩:=ho;have b1:¬r.halts[k].fr<0:=by omega
   have b2:¬r.halts[k].to<r.halts[k].fr:=by omega
   have b3:¬100000<r.halts[k].to:=by omega
   simp[TY,EM,hk];refine⟨_,fE _ _,?_⟩;simp[a1,b1,b2,b3,hw]
  ·rw[hb];simp[s9,wi,hk] at ho;simp[TY,EM,hk];refine⟨_,fE _ _,?_⟩;cases e1:aA r.halts[k].order r.orders.length
   ·simp
   have:=ho e1;by_cases b1:r.halts[k].fr<0
   ·simp[b1]
   by_cases b2:r.halts[k].to<r.halts[k].fr
   ·simp[b1,b2]
   have b3:100000<r.halts[k].to:=this (by omega) (by omega);simp[b1,b2,b3]
  ·rw[hj];simp[TY,EM]
theorem aAh (r:Realm)(h:Small r):ak T adq [bl r] (.int (nY r)):=by
 refine .of_tree rfl akt aCT ?_;have hu:=h.rates;have hh:=h.halts;have hc:=q5 r.currencies.length (by have:=h.cur;omega);have Il:=q5 r.orders.length (by have:=h.orders;omega);simp[VH,nY];by_cases h0:100<r.rates.length
 ·have fG:(100:Int)<r.rates.length:=by omega
  have vf:¬r.rates.length≤100:=by omega
  simp[h0,fG,vf]
 have fG:¬(100:Int)<r.rates.length:=by omega
 simp[h0,fG];refine fP r.rates.length (wJ r) (fun k=>[.int 0,.int k]) (fun _=>[]) ?_ (fun k hk ho=>?_) (fun k hk ho hb=>?_) (fun hj=>?_)
 ·simp
 ·have hw:=bE hk (by omega);simp[wJ,hk,mH] at ho;obtain⟨⟨⟨⟨⟨a1,a2⟩,a3⟩,a4⟩,a5⟩,a6⟩:=ho;simp[TL,EA,hk,hc];refine⟨_,cN _ _ _,?_⟩;simp[a1,hc];refine⟨_,cN _ _ _,?_⟩;simp[a2,a3];refine⟨_,cN _ _ _,?_⟩;simp[a4];refine⟨_,cN _ _ _,?_⟩;simp[a5];refine⟨_,cN _ _ _,?_⟩;simp[a6,hw]
 ·rw[hb];simp[wJ,hk,mH] at ho;simp[TL,EA,hk,hc];refine⟨_,cN _ _ _,?_⟩;cases e1:wi r.rates[k].fr 0 ((r.currencies.length:Int)-1)
  ·simp
  simp[hc];refine⟨_,cN _ _ _,?_⟩;cases e2:wi r.rates[k].to 0 ((r.currencies.length:Int)-1)
  ·simp
  by_cases e3:r.rates[k].fr=r.rates[k].to
  ·simp[e3]
  simp[e3];refine⟨_,cN _ _ _,?_⟩;cases e4:wi r.rates[k].num 1 1073741824
  ·simp
  simp;refine⟨_,cN _ _ _,?_⟩;cases e5:wi r.rates[k].den 1 1073741824
  ·simp
  simp;refine⟨_,cN _ _ _,?_⟩;simp[ho e1 e2 e3 e4 e5]
 ·rw[hj];simp[TL,EA];by_cases h1:20<r.halts.length
  ·have cA:(20:Int)<r.halts.length:=by omega
   have OR:¬r.halts.length≤20:=by omega
   simp[h1,cA,OR]
  have cA:¬(20:Int)<r.halts.length:=by omega
  simp[h1,cA];refine fP r.halts.length (s9 r) (fun k=>[.int 0,.int k]) (fun _=>[]) ?_ (fun k hk ho=>?_) (fun k hk ho hb=>?_) (fun hj=>?_)
  ·simp
  ·have hw:=bE hk (by omega);simp[s9,hk,mH] at ho;obtain⟨⟨a1,a2⟩,a3⟩:=ho;have b3:¬100000<r.halts[k].to:=by omega
   simp[TM,EB,hk,Il];refine⟨_,cN _ _ _,?_⟩;simp[a1];refine⟨_,cN _ _ _,?_⟩;simp[a2,b3,hw]
  ·rw[hb];simp[s9,hk,mH] at ho;simp[TM,EB,hk,Il];refine⟨_,cN _ _ _,?_⟩;cases e1:wi r.halts[k].order 0 ((r.orders.length:Int)-1)
   ·simp
   simp;refine⟨_,cN _ _ _,?_⟩;cases e2:wi r.halts[k].fr 0 r.halts[k].to
   ·simp
   simp[ho e1 e2]
  ·rw[hj];simp[TM,EB]
end Rm
