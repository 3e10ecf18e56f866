/-
  Shared texts of this claim.
-/
import Derived.Test.YtodhjdbleiakeaaGreatDoorKAK
import Derived.KernelRfl
import Derived.Test.YtodhjdbleiakeaaGreatDoorKAL
import Derived.Test.YtodhjdbleiakeaaGreatDoorKAM
import Derived.Test.YtodhjdbleiakeaaGreatDoorKAN
import Derived.Test.YtodhjdbleiakeaaGreatDoorKAJ
import Derived.WalkKit
import Derived.WalkSpells
import Derived.Lib.SliceRun
import Derived.Lib.AppendZeros
import Derived.Laws.Strings
set_option linter.unusedVariables false
set_option maxRecDepth 100000
namespace Rm
open Go Go.Proofs Cx
noncomputable def E2:Option PC:=az {ctx with fr:=[6],nh:=[]} Tryz.f210 ((ab af 210).getD default) []
noncomputable def I1:PC:=ay E2
def TK:PT:=
 (.ret (.pick (br r1 r0) (br r0 r2) pF))
def aoO (b:Nat→PC):PT×List (Shp×PT):=(TK,[])
theorem acF:E2.map told=some (aoO (ax E2)):=by kernel_rfl
theorem azB:tree I1=TK:=aC acF
theorem akl:E2=some I1:=aB acF
noncomputable def zt:Option PC:=az {ctx with fr:=[6,7],nh:=[]} Tryz.f259 ((ab af 259).getD default) []
noncomputable def I0:PC:=ay zt
noncomputable def Mc:Nat→PC:=bn zt
def at1 (b:Nat→PC):PC:=.block 0 [6,7,8,9,10,11] [] (.loop [6,7] [] (b 0))
def CG (b:Nat→PC):PT:=
 (.ite (aj r7 (.llen r0))
 (.blockS ⟨[],[]⟩ 1 [6,14,15,16,17,18,19,20,21,22,23,24,35] []
 (.chk (au r0 r7)
 (.call ⟨[],[]⟩ [] 20 210 [(pn r0 r7),r1,r2]
 (.ite (.nt dL)
 (.ret pF)
 (.chk (.nt (.an (.an (aV r7 (pi 0)) pT) (.nt (au r0 (bz r7 (pi 1))))))
 (.chk (.nt (.an (.an (aV r7 (pi 0)) pT) (.nt (au r0 r7))))
 (.ite (.pick (aV r7 (pi 0)) (cm (pn r0 (bz r7 (pi 1))) (pn r0 r7)) pF)
 (.ret pF)
 (.next ⟨[],[]⟩)))))))
 (.next ⟨[(7,(aN r7 (pi 1)))],[]⟩))
 (.exit 0 ⟨[(8,r7),(9,r0),(10,(.llen r0)),(11,(aj r7 (.llen r0)))],[]⟩))
def TJ (b:Nat→PC):PT:=
 (.brk ⟨[(7,(pi 0)),(6,pF)],[]⟩
(at1 b)
 (.ret pT))
def aoN (b:Nat→PC):PT×List (Shp×PT):=(TJ b,[(.lp 0 [6,7,8,9,10,11] [] [6,7] [],CG b)])
theorem Qc:zt.map told=some (aoN (ax zt)):=by kernel_rfl
theorem azA:tree I0=TJ Mc:=aC Qc
theorem Rq:round 0 [6,7,8,9,10,11] [] [6,7] [] (Mc 0)=CG Mc:=be Qc 0 fun _=>rfl
theorem akk:zt=some I0:=aB Qc
noncomputable def zw:Option PC:=az {ctx with fr:=[2,3,5,6],nh:=[]} Tryz.f146 ((ab af 146).getD default) [1,4,44]
noncomputable def I3:PC:=ay zw
noncomputable def yV:Nat→PC:=bn zw
def at4 (b:Nat→PC):PC:=.block 0 [2,3,11,12,13,14,15] [] (.loop [2,3] [] (b 0))
def at5 (b:Nat→PC):PC:=.block 2 [2,4,5,30,31,32,33,34] [4] (.loop [2,4,5] [4] (b 1))
def CJ (b:Nat→PC):PT:=
 (.ite (aj r3 pC)
 (.blockS ⟨[],[]⟩ 1 [2,18,19,20,21,22,23,24,25] []
 (.chk (au (pc o1 2) r3)
 (.call ⟨[],[]⟩ [] 24 210 [(pc (pn (pc o1 2) r3) 0),(pi 0),(pi 9)]
 (.ite (.nt om)
 (.ret (pi 1))
 (.next ⟨[],[]⟩))))
 (.next ⟨[(3,su)],[]⟩))
 (.exit 0 ⟨[(11,r3),(12,pN),(13,(pc o1 2)),(14,pC),(15,(aj r3 pC))],[]⟩))
def CK (b:Nat→PC):PT:=
 (.ite (aj r5 l9)
 (.blockS ⟨[],[]⟩ 3 [2,4,6,38,39,40,41,42,43,44,45,46,47,48,49,50,52,53,54,55,56,57,58,59,60,61,62,63,64,77] [44,4]
 (.chk (au (pc o1 3) r5)
 (.chk (br (.llen Q6) cn)
 (.call ⟨[(4,pN)],[(4,Q6)]⟩ [] 48 208 [Q6,r5]
 (.ite (aU ko (pi 0))
 (.ret ko)
 (.chk (au (pc o1 3) r5)
 (.call ⟨[],[]⟩ [] 62 210 [(pc (pn (pc o1 3) r5) 1),(pi 0),(bz kj (pi 1))]
 (.chk (.nt (.an (.an (.nt (.nt kp)) pT) (.nt (au (pc o1 3) r5))))
 (.call ⟨[(64,(.nt kp))],[]⟩ [(64,false)] 75 210 [(pc (pn (pc o1 3) r5) 2),(pi 0),(bz pC (pi 1))]
 (.ite (.pick kZ pT (.nt Kz))
 (.ret (pi 1))
 (.next ⟨[],[]⟩))))))))))
 (.next ⟨[(5,uV)],[]⟩))
 (.exit 2 ⟨[(30,r5),(31,pN),(32,(pc o1 3)),(33,l9),(34,(aj r5 l9))],[]⟩))
def TM (b:Nat→PC):PT:=
 (.ite (aV oh (pi 20))
 (.ret (pi 6))
 (.brk ⟨[(3,(pi 0)),(2,(pi 0))],[(1,(.mk [r0]))]⟩
(at4 b)
 (.ite (aV l9 (pi 200))
 (.ret (pi 6))
 (.brk ⟨[(5,(pi 0)),(4,pN)],[(4,pL)]⟩
(at5 b)
 (.ret (pi 0))))))
def aoQ (b:Nat→PC):PT×List (Shp×PT):=(TM b,[(.lp 0 [2,3,11,12,13,14,15] [] [2,3] [],CJ b),(.lp 2 [2,4,5,30,31,32,33,34] [4] [2,4,5] [4],CK b)])
theorem Hy:zw.map told=some (aoQ (ax zw)):=by kernel_rfl
theorem azD:tree I3=TM yV:=aC Hy
theorem Rt:round 0 [2,3,11,12,13,14,15] [] [2,3] [] (yV 0)=CJ yV:=be Hy 0 fun _=>rfl
theorem Ru:round 2 [2,4,5,30,31,32,33,34] [4] [2,4,5] [4] (yV 1)=CK yV:=be Hy 1 fun _=>rfl
theorem akn:zw=some I3:=aB Hy
noncomputable def zx:Option PC:=az {ctx with fr:=[2,4,5],nh:=[]} Tryz.f147 ((ab af 147).getD default) [1,3,24]
noncomputable def I5:PC:=ay zx
noncomputable def Md:Nat→PC:=bn zx
def at6 (b:Nat→PC):PC:=.block 0 [2,3,4,10,11,12,13,14] [3] (.loop [2,3,4] [3] (b 0))
def CL (b:Nat→PC):PT:=
 (.ite (aj r4 m3)
 (.blockS ⟨[],[]⟩ 1 [2,3,5,18,19,20,21,22,23,24,25,26,27,28,29,30,32,33,34,35,36,37,38] [24,3]
 (.chk (au (pc o1 4) r4)
 (.chk (br (.llen (.app o3 (.lst [(pc uS 0)]))) cn)
 (.call ⟨[(3,pN)],[(3,(.app o3 (.lst [(pc uS 0)])))]⟩ [] 28 208 [(.app o3 (.lst [(pc uS 0)])),r4]
 (.ite (aU gE (pi 0))
 (.ret gE)
 (.chk (au (pc o1 4) r4)
 (.call ⟨[],[]⟩ [] 37 211 [uS]
 (.ite (.nt kX)
 (.ret (pi 1))
 (.next ⟨[],[]⟩))))))))
 (.next ⟨[(4,(aN r4 (pi 1)))],[]⟩))
 (.exit 0 ⟨[(10,r4),(11,pN),(12,(pc o1 4)),(13,m3),(14,(aj r4 m3))],[]⟩))
def TO (b:Nat→PC):PT:=
 (.ite (aV (.llen xN) (pi 20))
 (.ret (pi 6))
 (.brk ⟨[(4,(pi 0)),(3,pN),(2,(pi 0))],[(3,pL),(1,(.mk [r0]))]⟩
(at6 b)
 (.ret (pi 0))))
def aoS (b:Nat→PC):PT×List (Shp×PT):=(TO b,[(.lp 0 [2,3,4,10,11,12,13,14] [3] [2,3,4] [3],CL b)])
theorem Qd:zx.map told=some (aoS (ax zx)):=by kernel_rfl
theorem azF:tree I5=TO Md:=aC Qd
theorem Rv:round 0 [2,3,4,10,11,12,13,14] [3] [2,3,4] [3] (Md 0)=CL Md:=be Qd 0 fun _=>rfl
theorem akp:zx=some I5:=aB Qd
noncomputable def zr:Option PC:=az {ctx with fr:=[2,3,4],nh:=[]} Tryz.f211 ((ab af 211).getD default) [1]
noncomputable def IZ:PC:=ay zr
noncomputable def yT:Nat→PC:=bn zr
def atZ (b:Nat→PC):PC:=.block 0 [2,3,5,6,7,8,9] [] (.loop [2,3] [] (b 0))
def at0 (b:Nat→PC):PC:=.block 2 [2,4,48,49,50,51,52] [] (.loop [2,4] [] (b 1))
def CE (b:Nat→PC):PT:=
 (.ite (aj r3 pC)
 (.blockS ⟨[],[]⟩ 1 [2,12,13,14,15,16,17,18,19,20,29,30,31,32,47] []
 (.chk (au (pc o1 2) r3)
 (.call ⟨[],[]⟩ [] 18 210 [(pc (pn (pc o1 2) r3) 0),(pi 0),(pi 21)]
 (.chk (.nt (.an (.an (.nt (.nt gm)) pT) (.nt (au (pc o1 2) r3))))
 (.call ⟨[(20,(.nt gm))],[]⟩ [(20,false)] 27 210 [(pc (pn (pc o1 2) r3) 1),(pi 0),(pi 4)]
 (.ite (.pick dL pT (.nt ed))
 (.ret pF)
 (.chk (.nt (.an (.an (aV r3 (pi 0)) pT) (.nt (au (pc o1 2) (bz r3 (pi 1))))))
 (.chk (.nt (.an (.an (aV r3 (pi 0)) pT) (.nt (au (pc o1 2) r3))))
 (.ite (.pick (aV r3 (pi 0)) (cm (pc (pn (pc o1 2) (bz r3 (pi 1))) 0) (pc (pn (pc o1 2) r3) 0)) pF)
 (.ret pF)
 (.next ⟨[],[]⟩)))))))))
 (.next ⟨[(3,su)],[]⟩))
 (.exit 0 ⟨[(5,r3),(6,pN),(7,(pc o1 2)),(8,pC),(9,(aj r3 pC))],[]⟩))
def CF (b:Nat→PC):PT:=
 (.ite (aj r4 l9)
 (.blockS ⟨[],[]⟩ 3 [2,55,56,57,58,59,60,61,62,63,64,65,80] []
 (.chk (au (pc o1 3) r4)
 (.call ⟨[],[]⟩ [] 61 210 [(pc (pn (pc o1 3) r4) 0),(pi 0),(pi 21)]
 (.ite (.nt sv)
 (.ret pF)
 (.chk (.nt (.an (.an (aV r4 (pi 0)) pT) (.nt (au (pc o1 3) (bz r4 (pi 1))))))
 (.chk (.nt (.an (.an (aV r4 (pi 0)) pT) (.nt (au (pc o1 3) r4))))
 (.ite (.pick (aV r4 (pi 0)) (cm (pc (pn (pc o1 3) (bz r4 (pi 1))) 0) (pc (pn (pc o1 3) r4) 0)) pF)
 (.ret pF)
 (.next ⟨[],[]⟩)))))))
 (.next ⟨[(4,(aN r4 (pi 1)))],[]⟩))
 (.exit 2 ⟨[(48,r4),(49,pN),(50,(pc o1 3)),(51,l9),(52,(aj r4 l9))],[]⟩))
def TI (b:Nat→PC):PT:=
 (.brk ⟨[(3,(pi 0)),(2,pF)],[(1,(.mk [r0]))]⟩
(atZ b)
 (.brk ⟨[(4,(pi 0))],[]⟩
(at0 b)
 (.ret pT)))
def aoM (b:Nat→PC):PT×List (Shp×PT):=(TI b,[(.lp 0 [2,3,5,6,7,8,9] [] [2,3] [],CE b),(.lp 2 [2,4,48,49,50,51,52] [] [2,4] [],CF b)])
theorem Hw:zr.map told=some (aoM (ax zr)):=by kernel_rfl
theorem azz:tree IZ=TI yT:=aC Hw
theorem Ro:round 0 [2,3,5,6,7,8,9] [] [2,3] [] (yT 0)=CE yT:=be Hw 0 fun _=>rfl
theorem Rp:round 2 [2,4,48,49,50,51,52] [] [2,4] [] (yT 1)=CF yT:=be Hw 1 fun _=>rfl
theorem akj:zr=some IZ:=aB Hw
noncomputable def zz:Option PC:=az {ctx with fr:=[2,3,5],nh:=[]} Tryz.f148 ((ab af 148).getD default) [1,4]
noncomputable def I7:PC:=ay zz
noncomputable def yX:Nat→PC:=bn zz
def aub (b:Nat→PC):PC:=.block 2 [2,5,46,47,48] [] (.loop [2,5] [] (b 0))
def auc (b:Nat→PC):PC:=.block 0 [2,3,10,11,12,13,14] [] (.loop [2,3] [] (b 1))
def xT (b:Nat→PC):PT:=
 (.ite (aj r5 r3)
 (.chk (au (pc o1 5) r5)
 (.chk (.nt (.an (.an (aq (pc (pn (pc o1 5) r5) 0) (pc o4 0)) pT) (.nt (au (pc o1 5) r5))))
 (.ite (.pick (aq (pc (pn (pc o1 5) r5) 0) (pc o4 0)) (aq (pc (pn (pc o1 5) r5) 1) (pc o4 1)) pF)
 (.ret (pi 5))
 (.next ⟨[(5,uV)],[]⟩))))
 (.exit 2 ⟨[(46,r5),(47,r3),(48,(aj r5 r3))],[]⟩))
def CO (b:Nat→PC):PT:=
 (.ite (aj r3 xO)
 (.blockS ⟨[(14,(aj r3 xO)),(13,xO),(12,(pc o1 5)),(11,pN),(10,r3)],[]⟩ 1 [2,4,5,17,18,19,20,21,22,23,24,25,26,27,28,29,30,39,40,45,46,47,48] [4]
 (.chk (au (pc o1 5) r3)
 (.call ⟨[],[(4,(.setc z3 0 (pn (pc o1 5) r3)))]⟩ [] 28 210 [(pc (.setc z3 0 (pn (pc o1 5) r3)) 0),(pi 0),(bz kj (pi 1))]
 (.call ⟨[(30,(.nt gE))],[]⟩ [(30,false)] 37 210 [(pc o4 1),(pi 0),(bz kj (pi 1))]
 (.call ⟨[(40,(.pick ma pT (.nt kX)))],[]⟩ [(40,false)] 43 210 [(pc o4 2),(pi 1),(pi 20000)]
 (.ite (.pick oq pT (.nt qT))
 (.ret (pi 1))
 (.brk ⟨[(5,(pi 0))],[]⟩
(aub b)
 (.next ⟨[],[]⟩)))))))
 (.next ⟨[(3,su)],[]⟩))
 (.exit 0 ⟨[(10,r3),(11,pN),(12,(pc o1 5)),(13,xO),(14,(aj r3 xO))],[]⟩))
def TQ (b:Nat→PC):PT:=
 (.ite (aV (.llen uT) (pi 100))
 (.ret (pi 6))
 (.brk ⟨[(3,(pi 0)),(2,(pi 0))],[(1,(.mk [r0]))]⟩
(auc b)
 (.ret (pi 0))))
def aoU (b:Nat→PC):PT×List (Shp×PT):=(TQ b,[(.lp 2 [2,5,46,47,48] [] [2,5] [],xT b),(.lp 0 [2,3,10,11,12,13,14] [] [2,3] [],CO b)])
theorem HA:zz.map told=some (aoU (ax zz)):=by kernel_rfl
theorem azH:tree I7=TQ yX:=aC HA
theorem KL:round 2 [2,5,46,47,48] [] [2,5] [] (yX 0)=xT yX:=be HA 0 fun _=>rfl
theorem Ry:round 0 [2,3,10,11,12,13,14] [] [2,3] [] (yX 1)=CO yX:=be HA 1 fun _=>rfl
theorem akr:zz=some I7:=aB HA
noncomputable def zy:Option PC:=az {ctx with fr:=[2,3,5],nh:=[]} Tryz.f149 ((ab af 149).getD default) [1,4,6]
noncomputable def I6:PC:=ay zy
noncomputable def yW:Nat→PC:=bn zy
def at7 (b:Nat→PC):PC:=.block 0 [2,3,11,12,13,14,15] [] (.loop [2,3] [] (b 0))
def aua (b:Nat→PC):PC:=.block 2 [2,5,68,69,70,71,72] [] (.loop [2,5] [] (b 1))
def CM (b:Nat→PC):PT:=
 (.ite (aj r3 (.llen (pc o1 6)))
 (.blockS ⟨[],[]⟩ 1 [2,4,18,19,20,21,22,23,24,25,26,27,28,29,30,31,40,41,47,48,49,50,51,52,57,58,63] [4]
 (.chk (au (pc o1 6) r3)
 (.call ⟨[],[(4,(.setc z5 0 (pn (pc o1 6) r3)))]⟩ [] 29 210 [(pc (.setc z5 0 (pn (pc o1 6) r3)) 0),(pi 0),(bz sr (pi 1))]
 (.call ⟨[(31,(.nt km))],[]⟩ [(31,false)] 38 210 [(pc o4 1),(pi 0),(bz sr (pi 1))]
 (.ite (.pick (.pick oo pT (.nt iW)) pT (aq (pc o4 0) (pc o4 1)))
 (.ret (pi 1))
 (.call ⟨[],[]⟩ [] 50 210 [(pc o4 2),(pi 1),(pi 1073741824)]
 (.call ⟨[(52,(.nt fQ))],[]⟩ [(52,false)] 55 210 [(pc o4 3),(pi 1),(pi 1073741824)]
 (.call ⟨[(58,(.pick Cn pT (.nt u7)))],[]⟩ [(58,false)] 61 210 [(pc o4 4),(pi 0),(pi 100000)]
 (.ite (.pick Cq pT (.nt sv))
 (.ret (pi 1))
 (.next ⟨[],[]⟩)))))))))
 (.next ⟨[(3,su)],[]⟩))
 (.exit 0 ⟨[(11,r3),(12,pN),(13,(pc o1 6)),(14,(.llen (pc o1 6))),(15,(aj r3 (.llen (pc o1 6))))],[]⟩))
def CN (b:Nat→PC):PT:=
 (.ite (aj r5 uU)
 (.blockS ⟨[],[]⟩ 3 [2,6,75,76,77,78,79,80,81,82,83,84,85,86,87,88,95,96,100] [6]
 (.chk (au (pc o1 7) r5)
 (.call ⟨[],[(6,(.setc z3 0 (pn (pc o1 7) r5)))]⟩ [] 86 210 [(pc (.setc z3 0 (pn (pc o1 7) r5)) 0),(pi 0),(bz m3 (pi 1))]
 (.call ⟨[(88,(.nt r86))],[]⟩ [(88,false)] 93 210 [(pc o6 1),(pi 0),(pc o6 2)]
 (.ite (.pick (.pick KA pT (.nt KB)) pT (aV (pc o6 2) (pi 100000)))
 (.ret (pi 1))
 (.next ⟨[],[]⟩)))))
 (.next ⟨[(5,uV)],[]⟩))
 (.exit 2 ⟨[(68,r5),(69,pN),(70,(pc o1 7)),(71,uU),(72,(aj r5 uU))],[]⟩))
def TP (b:Nat→PC):PT:=
 (.ite (aV (.llen (pc (.mk [r0]) 6)) (pi 100))
 (.ret (pi 6))
 (.brk ⟨[(3,(pi 0)),(2,(pi 0))],[(1,(.mk [r0]))]⟩
(at7 b)
 (.ite (aV uU (pi 20))
 (.ret (pi 6))
 (.brk ⟨[(5,(pi 0))],[]⟩
(aua b)
 (.ret (pi 0))))))
def aoT (b:Nat→PC):PT×List (Shp×PT):=(TP b,[(.lp 0 [2,3,11,12,13,14,15] [] [2,3] [],CM b),(.lp 2 [2,5,68,69,70,71,72] [] [2,5] [],CN b)])
theorem Hz:zy.map told=some (aoT (ax zy)):=by kernel_rfl
theorem azG:tree I6=TP yW:=aC Hz
theorem Rw:round 0 [2,3,11,12,13,14,15] [] [2,3] [] (yW 0)=CM yW:=be Hz 0 fun _=>rfl
theorem Rx:round 2 [2,5,68,69,70,71,72] [] [2,5] [] (yW 1)=CN yW:=be Hz 1 fun _=>rfl
theorem akq:zy=some I6:=aB Hz
noncomputable def zj:Option PC:=az {ctx with fr:=[4,5,6,7,8,11],nh:=[]} Tryz.f42 ((ab af 42).getD default) [2,3,10]
noncomputable def II:PC:=ay zj
noncomputable def yR:Nat→PC:=bn zj
def atN (b:Nat→PC):PC:=.block 0 [4,48,49] [] (.loop [4,48] [] (b 0))
def atO (b:Nat→PC):PC:=.block 2 [4,8,62,63] [] (.loop [4,8,62] [] (b 1))
def Cy (b:Nat→PC):PT:=
 (.ite (aj ko Cm)
 (.blockS ⟨[],[]⟩ 1 [4,6,7,50,51,52,53,54,55,56] []
 (.call ⟨[],[]⟩ [] 54 111 [(ar 8 o2),(ar 19 o3),ko]
 (.ite (aU qU (pi 0))
 (.ret qU)
 (.next ⟨[],[]⟩)))
 (.next ⟨[(48,(aN ko (pi 1)))],[]⟩))
 (.exit 0 ⟨[(49,(aj ko Cm))],[]⟩))
def Cz (b:Nat→PC):PT:=
 (.ite (aj kp sv)
 (.blockS ⟨[],[]⟩ 3 [4,8,10,64,65,66,67,68,69,70,71,72,73,74,75,76,77,78,79,80] [10]
 (.chk (au Cr kp)
 (.call ⟨[],[(10,(.setc z2 0 (pn Cr kp)))]⟩ [] 73 112 [(pc (.setc z2 0 (pn Cr kp)) 0),qO,(.llen (pc o3 15))]
 (.ite (.nt xR)
 (.ret (pi 1))
 (.call ⟨[],[]⟩ [] 77 112 [(pc bP 1),(pi 1),xM]
 (.ite (.nt r77)
 (.ret (pi 3))
 (.next ⟨[(8,(pc bP 0))],[]⟩))))))
 (.next ⟨[(62,(aN kp (pi 1)))],[]⟩))
 (.exit 2 ⟨[(63,(aj kp sv))],[]⟩))
def Tt (b:Nat→PC):PT:=
 (.ite (.pick (.pick (.pick (aV (.llen (pc (.mk [r1]) 15)) (pi 40)) pT (aV (.llen (pc (.mk [r1]) 16)) (pi 4))) pT (aV (.llen (pc (.mk [r1]) 17)) (pi 100))) pT (aV (.llen (pc (.mk [r1]) 18)) (pi 200)))
 (.ret (pi 6))
 (.call ⟨[(4,(pi 0))],[(3,(.mk [r1])),(2,(.mk [r0]))]⟩ [] 37 110 [hH,(ar 15 (.mk [r1]))]
 (.ite (aU kX (pi 0))
 (.ret kX)
 (.ite (aq (.llen (pc o3 15)) (pi 0))
 (.ret (pi 14))
 (.brk ⟨[(48,(pi 0)),(47,(.llen (pc o3 15)))],[]⟩
(atN b)
 (.brk ⟨[(62,(pi 0)),(61,(.llen (pc o3 16))),(60,(pc o3 16)),(8,(pi 0))],[]⟩
(atO b)
 (.call ⟨[],[]⟩ [] 84 113 [(ar 8 o2),(ar 19 o3)]
 (.ite (aU r84 (pi 0))
 (.ret r84)
 (.call ⟨[],[]⟩ [] 89 114 [(ar 19 o3)]
 (.ret r89))))))))))
def aox (b:Nat→PC):PT×List (Shp×PT):=(Tt b,[(.lp 0 [4,48,49] [] [4,48] [],Cy b),(.lp 2 [4,8,62,63] [] [4,8,62] [],Cz b)])
theorem Hu:zj.map told=some (aox (ax zj)):=by kernel_rfl
theorem azk:tree II=Tt yR:=aC Hu
theorem Rj:round 0 [4,48,49] [] [4,48] [] (yR 0)=Cy yR:=be Hu 0 fun _=>rfl
theorem Rk:round 2 [4,8,62,63] [] [4,8,62] [] (yR 1)=Cz yR:=be Hu 1 fun _=>rfl
theorem aj4:zj=some II:=aB Hu
noncomputable def FE:Option PC:=az {ctx with fr:=[4,5,6,7,8,54,80,109,118,9,10],nh:=[]} Tryz.f110 ((ab af 110).getD default) [2,3]
noncomputable def J9:PC:=ay FE
def UO:PT:=
 (.call ⟨[],[(3,(.mk [r1])),(2,(.mk [r0]))]⟩ [] 12 54 [hH]
 (.ite (aU bM (pi 0))
 (.ret bM)
 (.call ⟨[(7,(.llen (pc o2 1))),(6,(.llen (pc o2 3)))],[]⟩ [] 25 183 [(pc o3 0),(.llen (pc o2 3))]
 (.call ⟨[(26,iV)],[]⟩ [(26,true)] 30 183 [(pc o3 1),r6]
 (.call ⟨[(36,(aq (pc o3 2) (pi (-1)))),(32,(.pick kl ma pF))],[]⟩ [(36,false),(32,true)] 40 183 [(pc o3 2),r6]
 (.call ⟨[(47,(aq (pc o3 11) (pi (-1)))),(43,(.pick Ck (.pick jV pT oq) pF))],[]⟩ [(47,false),(43,true)] 51 183 [(pc o3 11),r6]
 (.blockS ⟨[(8,(.pick qT (.pick Cm pT kY) pF))],[]⟩ 0 [4,54,55,56,57,65,66,72,73,79,80,81,82,83,84,88,89,93,94,98,99,103,104,108,109,110,111,112,113,117,118,119,120,121,122,126,127,137,138,142] []
 (.call ⟨[(57,(.nt r8))],[]⟩ [(57,false)] 63 183 [(pc o3 4),(.llen (pc o2 0))]
 (.call ⟨[(66,(.pick Cp pT (.nt xP)))],[]⟩ [(66,false)] 70 183 [(pc o3 9),r7]
 (.call ⟨[(73,(.pick r66 pT (.nt r70)))],[]⟩ [(73,false)] 77 183 [(pc o3 10),r7]
 (.iteS ⟨[],[]⟩ (.pick xR pT (.nt r77)) [4,80,81,82,83,84,88,89,93,94,98,99,103,104,108,109,110,111,112,113,117,118,119,120,121,122,126,127,137,138,142] []
 (.ret (pi 1))
 (.iteS ⟨[],[]⟩ (.pick (.pick (.pick (.pick (.pick (aj (pc o3 3) (pi 1)) pT (aV (pc o3 3) xM)) pT (aj (pc o3 8) (pi 0))) pT (aV (pc o3 8) (pi 100000))) pT (aj (pc o3 12) (pi 0))) pT (aV (pc o3 12) (pi 1000))) [4,109,110,111,112,113,117,118,119,120,121,122,126,127,137,138,142] []
 (.ret (pi 3))
 (.iteS ⟨[],[]⟩ (.pick (aj (pc o3 14) (pi 1)) pT (aV (pc o3 14) (pi 4))) [4,118,119,120,121,122,126,127,137,138,142] []
 (.ret (pi 15))
 (.call ⟨[(138,(.pick (.pick (aj (pc o3 13) (pi 0)) pT (aV (pc o3 13) (pi 7))) pT (.pick (aU (.ai .and .i64 (pc o3 13) (pi 4)) (pi 0)) (aq (pc o3 2) (pi (-1))) pF)))],[]⟩ [(138,false)] 140 184 [(ar 15 o3)]
 (.ite (.pick (.r 138) pT (.nt (.r 140)))
 (.ret (pi 2))
 (.next ⟨[],[]⟩)))
 (.next ⟨[],[]⟩))
 (.next ⟨[],[]⟩))
 (.next ⟨[],[]⟩)))))
 (.iteS ⟨[],[]⟩ (aq (pc o3 5) (pi 4)) [4] []
 (.call ⟨[],[]⟩ [] 153 185 [(ar 8 o2),(pc o3 9),(pc o3 10)]
 (.ret (.tget (.r 153) 1)))
 (.next ⟨[],[]⟩)
 (.ret (pi 0))))))))))
def apX (b:Nat→PC):PT×List (Shp×PT):=(UO,[])
theorem adg:FE.map told=some (apX (ax FE)):=by kernel_rfl
theorem aAD:tree J9=UO:=aC adg
theorem alv:FE=some J9:=aB adg
noncomputable def FF:Option PC:=az {ctx with fr:=[4],nh:=[]} Tryz.f183 ((ab af 183).getD default) []
noncomputable def Ka:PC:=ay FF
def UP:PT:=
 (.ret Q7)
def apY (b:Nat→PC):PT×List (Shp×PT):=(UP,[])
theorem adh:FF.map told=some (apY (ax FF)):=by kernel_rfl
theorem aAE:tree Ka=UP:=aC adh
theorem alw:FF=some Ka:=aB adh
noncomputable def FG:Option PC:=az {ctx with fr:=[2,8,19,40],nh:=[]} Tryz.f184 ((ab af 184).getD default) [1,3]
noncomputable def Kb:PC:=ay FG
def UQ:PT:=
 (.ite (.pick (aq (pc jT 0) (pi 0)) (aq (pc jT 0) (pi 0)) (aq (pc jT 0) (pi 4)))
 (.ret (.pick (aq (pc jT 1) (pi 0)) (aq (pc jT 2) (pi 0)) pF))
 (.ite (.pick (aq (pc jT 0) (pi 1)) (aq (pc jT 0) (pi 1)) (aq (pc jT 0) (pi 2)))
 (.ret (.pick (.pick (cm (pc jT 1) (pi 1)) (br (pc jT 1) (pi 400)) pF) (.pick (aq (pc jT 2) (pi 0)) pT (aq (pc jT 2) (pi 1))) pF))
 (.ite (aq (pc jT 0) (pi 3))
 (.ret (.pick (.pick (cm (pc jT 1) (pc (.mk [r0]) 8)) (br (pc jT 1) (pi 100000)) pF) (aq (pc jT 2) (pi 0)) pF))
 (.ret pF))))
def apZ (b:Nat→PC):PT×List (Shp×PT):=(UQ,[])
theorem adi:FG.map told=some (apZ (ax FG)):=by kernel_rfl
theorem aAF:tree Kb=UQ:=aC adi
theorem alx:FG=some Kb:=aB adi
noncomputable def zm:Option PC:=az {ctx with fr:=[6,8,9,76,92,98],nh:=[]} Tryz.f111 ((ab af 111).getD default) [3,4,7,11]
noncomputable def IQ:PC:=ay zm
noncomputable def L8:Nat→PC:=bn zm
def atT (b:Nat→PC):PC:=.block 0 [8,9,51,52] [] (.loop [8,9,51] [] (b 0))
def KJ (b:Nat→PC):PT:=
 (.ite (aj kY fQ)
 (.chk (au mc kY)
 (.next ⟨[(8,(pc (.setc z9 0 (pn mc kY)) 6)),(9,(.pick r9 pT (.pick (.pick (aq (pc o7 0) (pi 1)) (aq (pc (.setc z9 0 (pn mc kY)) 0) (pi 1)) pF) (aq (pc (.setc z9 0 (pn mc kY)) 1) (pc o7 1)) pF))),(51,(aN kY (pi 1)))],[]⟩))
 (.exit 0 ⟨[(52,(aj kY fQ))],[]⟩))
def TB (b:Nat→PC):PT:=
 (.chk (au (pc (.mk [r1]) 15) r2)
 (.call ⟨[],[(7,mZ),(4,(.mk [r1])),(3,(.mk [r0]))]⟩ [] 23 112 [(pc mZ 1),(pi 0),(bz (pc (.mk [r1]) 14) (pi 1))]
 (.ite (.nt iU)
 (.ret (pi 15))
 (.call ⟨[],[]⟩ [] 31 112 [(pc o7 2),(pi 0),Kv]
 (.call ⟨[(33,(.nt oo))],[]⟩ [(33,false)] 40 112 [(pc o7 7),(pi 0),(bz (.llen (pc o3 1)) (pi 1))]
 (.ite (.pick uW pT (.nt oq))
 (.ret (pi 1))
 (.chk (.slok (pc o4 15) (pi 0) r2)
 (.brk ⟨[(51,(pi 0)),(50,(.llen (.slc (pc o4 15) (pi 0) r2))),(49,(.slc (pc o4 15) (pi 0) r2)),(9,pF),(8,(pc o4 8))],[]⟩
(atT b)
 (.blockS ⟨[],[]⟩ 2 [6,76,77,78,79,80,81,82,91,92,93,94,95,96,97,98,99] []
 (.call ⟨[],[]⟩ [] 80 112 [(pc o7 6),r8,(pi 100000)]
 (.iteS ⟨[],[]⟩ (.pick (.nt va) pT (.pick (aq r2 (pi 0)) (aU (pc o7 6) r8) pF)) [6,92,93,94,95,96,97,98,99] []
 (.ret (pi 13))
 (.call ⟨[],[]⟩ [] 96 186 [(ar 8 o3),(ar 19 o4),r2]
 (.ite (.nt r96)
 (.ret (pi 14))
 (.ite r9
 (.ret (pi 5))
 (.next ⟨[],[]⟩))))
 (.next ⟨[],[]⟩)))
 (.ret (pi 0)))))))))))
def aoE (b:Nat→PC):PT×List (Shp×PT):=(TB b,[(.lp 0 [8,9,51,52] [] [8,9,51] [],KJ b)])
theorem P8:zm.map told=some (aoE (ax zm)):=by kernel_rfl
theorem azr:tree IQ=TB L8:=aC P8
theorem aep:round 0 [8,9,51,52] [] [8,9,51] [] (L8 0)=KJ L8:=be P8 0 fun _=>rfl
theorem akb:zm=some IQ:=aB P8
noncomputable def EY:Option PC:=az {ctx with fr:=[6],nh:=[]} Tryz.f112 ((ab af 112).getD default) []
noncomputable def IP:PC:=ay EY
def TA:PT:=
 (.ret (.pick (cm r0 r1) (br r0 r2) pF))
def aoD (b:Nat→PC):PT×List (Shp×PT):=(TA,[])
theorem acB:EY.map told=some (aoD (ax EY)):=by kernel_rfl
theorem azq:tree IP=TA:=aC acB
theorem aka:EY=some IP:=aB acB
noncomputable def EX:Option PC:=az {ctx with fr:=[6,9,10,66,103,113,11,140,149],nh:=[]} Tryz.f186 ((ab af 186).getD default) [3,4,7,8]
noncomputable def IN:PC:=ay EX
def Tz:PT:=
 (.chk (au (pc (.mk [r1]) 15) r2)
 (.ite (.pick (.cb .neq (aq r2 (pi 0)) (aq (pc mZ 0) (pi 0))) pT (.pick (aU (pc mZ 0) (pi 2)) (aU (pc mZ 4) (pi (-1))) pF))
 (.ret pF)
 (.ite (.pick (.pick (aU (pc mZ 0) (pi 3)) (aU (pc mZ 0) (pi 4)) pF) (aU (pc mZ 3) (pi (-1))) pF)
 (.ret pF)
 (.call ⟨[(9,(.pick (aq (pc mZ 5) (pi 0)) (aq (pc mZ 8) (pi 0)) pF))],[(8,(.setc DO 0 (ar 15 (.mk [r1])))),(7,mZ),(4,(.mk [r1])),(3,(.mk [r0]))]⟩ [] 58 112 [(pc mZ 5),(pi 1),xM]
 (.blockS ⟨[(65,(pc o7 0)),(10,(.pick Cq (aq (pc o7 8) (pi 0)) pF))],[]⟩ 0 [6,66,67,103,104,113,114,140,141,149,150] []
 (.iteS ⟨[],[]⟩ (aq xQ (pi 0)) [6,103,104,113,114,140,141,149,150] []
 (.ret (.pick (.pick (.pick (.pick (.pick (aq (pc o7 2) (pc o8 0)) (aq (pc o7 5) (pi 0)) pF) (aq (.ai .or .i64 (pc o7 8) (pi 1)) (pi 1)) pF) (aq (pc o7 1) (pi 0)) pF) (aq (pc o7 6) (pc o8 8)) pF) (aq (pc o7 7) (pc o8 9)) pF))
 (.iteS ⟨[],[]⟩ (aq xQ (pi 1)) [6,113,114,140,141,149,150] []
 (.ret (.pick (aq (pc o7 2) (pc o8 1)) cE pF))
 (.iteS ⟨[],[]⟩ (aq xQ (pi 2)) [6,140,141,149,150] []
 (.call ⟨[(11,(pi 6))],[]⟩ [] 121 112 [(pc o7 4),(pi (-1)),Kv]
 (.call ⟨[(127,(.pick awY (aq (pc o7 5) (pi 0)) pF))],[]⟩ [(127,true)] 130 112 [(pc o7 8),(pi 0),(pi 7)]
 (.ret (.pick (.pick awZ (.r 130) pF) (aU (.ai .and .i64 (pc o7 8) bI) bI) pF))))
 (.iteS ⟨[],[]⟩ (aq xQ (pi 3)) [6,149,150] []
 (.call ⟨[(143,r9)],[]⟩ [(143,true)] 147 226 [(ar 19 o4),r2,(.lst [(pi 0),(pi 1),(pi 2),(pi 4)])]
 (.ret (.pick (.r 143) (.r 147) pF)))
 (.iteS ⟨[],[]⟩ (aq xQ (pi 4)) [6] []
 (.call ⟨[(159,(.pick cE (aU (pc o7 2) (pc o8 1)) pF))],[]⟩ [(159,true)] 163 226 [(ar 19 o4),r2,(.lst [(pi 0),(pi 2)])]
 (.ret (.pick (.r 159) (.r 163) pF)))
 (.next ⟨[],[]⟩)
 (.next ⟨[],[]⟩))
 (.next ⟨[],[]⟩))
 (.next ⟨[],[]⟩))
 (.next ⟨[],[]⟩))
 (.next ⟨[],[]⟩))
 (.ret pF))))))
def aoC (b:Nat→PC):PT×List (Shp×PT):=(Tz,[])
theorem acA:EX.map told=some (aoC (ax EX)):=by kernel_rfl
theorem azp:tree IN=Tz:=aC acA
theorem aj9:EX=some IN:=aB acA
noncomputable def EW:Option PC:=az {ctx with fr:=[6,7],nh:=[]} Tryz.f226 ((ab af 226).getD default) [3]
noncomputable def IL:PC:=ay EW
def Tw:PT:=
 (.chk (au pB r1)
 (.call ⟨[(7,(pc (pn pB r1) 3))],[(3,(.mk [r0]))]⟩ [] 17 112 [(pc (pn pB r1) 3),(pi 0),(bz r1 (pi 1))]
 (.chk (.nt (.an (.an iT pT) (.nt (au (pc o3 15) r1))))
 (.call ⟨[(18,iT)],[]⟩ [(18,true)] 27 227 [(ar 19 o3),r7,(pc (pn (pc o3 15) r1) 1)]
 (.chk (.nt (.an (.an (.pick gm ed pF) pT) (.nt (au (pc o3 15) r7))))
 (.call ⟨[(29,(.pick gm ed pF))],[]⟩ [(29,true)] 37 94 [r2,(pc (pn (pc o3 15) r7) 0)]
 (.ret (.pick km kX pF))))))))
def aoA (b:Nat→PC):PT×List (Shp×PT):=(Tw,[])
theorem acz:EW.map told=some (aoA (ax EW)):=by kernel_rfl
theorem azn:tree IL=Tw:=aC acz
theorem aj7:EW=some IL:=aB acz
noncomputable def EZ:Option PC:=az {ctx with fr:=[6],nh:=[]} Tryz.f227 ((ab af 227).getD default) [3]
noncomputable def IS:PC:=ay EZ
def Lw:PT:=
 (.chk (.nt (.an (.an (.nt (aq r1 (pi 0))) pT) (.nt (au pB r1))))
 (.ret (.pick (aq r1 (pi 0)) pT (aq (pc (pn pB r1) 1) r2))))
def aoF (b:Nat→PC):PT×List (Shp×PT):=(Lw,[])
theorem acC:EZ.map told=some (aoF (ax EZ)):=by kernel_rfl
theorem azs:tree IS=Lw:=aC acC
theorem akc:EZ=some IS:=aB acC
noncomputable def zk:Option PC:=az {ctx with fr:=[4,5,7],nh:=[]} Tryz.f113 ((ab af 113).getD default) [2,3,6]
noncomputable def IK:PC:=ay zk
noncomputable def L6:Nat→PC:=bn zk
def atP (b:Nat→PC):PC:=.block 0 [4,11,12] [] (.loop [4,11] [] (b 0))
def KH (b:Nat→PC):PT:=
 (.ite (aj bI cE)
 (.blockS ⟨[],[]⟩ 1 [4,5,6,7,13,14,15,16,17,18,19,20,21,22,23,24,25,26,27,28,29,30,31,32,37,38,39,40,41,42,43,44,45,46,47,48,58,59,69,70,71,72,73] [6]
 (.chk (au r9 bI)
 (.call ⟨[(5,bI)],[(6,(.setc z9 0 (pn r9 bI)))]⟩ [] 22 112 [(pc (.setc z9 0 (pn r9 bI)) 3),(pi 0),(bz (pc o3 14) (pi 1))]
 (.ite (.nt qQ)
 (.ret (pi 15))
 (.call ⟨[],[]⟩ [] 30 112 [(pc o6 7),(pi 0),(bz (.llen (pc o2 1)) (pi 1))]
 (.call ⟨[(32,(.nt ma))],[]⟩ [(32,false)] 35 112 [(pc o6 0),(pi 0),(pi 9)]
 (.ite (.pick Ck pT (.nt uX))
 (.ret (pi 1))
 (.call ⟨[],[]⟩ [] 41 187 [(ar 8 o2),(ar 19 o3),(ar 9 o6)]
 (.ite (.nt ot)
 (.ret (pi 14))
 (.ite (aU (pc o6 4) (pi (-1)))
 (.chk (au (pc o3 15) (pc o6 4))
 (.ite (aV r5 (pi 0))
 (.chk (au (pc o3 17) (bz r5 (pi 1)))
 (.call ⟨[],[]⟩ [] 72 112 [(pc o6 6),(.mx (.mx (pc o3 8) (pc (pn (pc o3 15) (pc o6 4)) 6)) (pc (pn (pc o3 17) (bz r5 (pi 1))) 6)),(pi 100000)]
 (.ite (.nt Cs)
 (.ret (pi 13))
 (.next ⟨[],[]⟩))))
 (.call ⟨[],[]⟩ [] 72 112 [(pc o6 6),(.mx (pc o3 8) (pc (pn (pc o3 15) (pc o6 4)) 6)),(pi 100000)]
 (.ite (.nt Cs)
 (.ret (pi 13))
 (.next ⟨[],[]⟩)))))
 (.ite (aV r5 (pi 0))
 (.chk (au (pc o3 17) (bz r5 (pi 1)))
 (.call ⟨[],[]⟩ [] 72 112 [(pc o6 6),(.mx (pc o3 8) (pc (pn (pc o3 17) (bz r5 (pi 1))) 6)),(pi 100000)]
 (.ite (.nt Cs)
 (.ret (pi 13))
 (.next ⟨[],[]⟩))))
 (.call ⟨[],[]⟩ [] 72 112 [(pc o6 6),(pc o3 8),(pi 100000)]
 (.ite (.nt Cs)
 (.ret (pi 13))
 (.next ⟨[],[]⟩)))))))))))))
 (.next ⟨[(11,(aN bI (pi 1)))],[]⟩))
 (.exit 0 ⟨[(12,(aj bI cE))],[]⟩))
def Tv (b:Nat→PC):PT:=
 (.brk ⟨[(11,(pi 0)),(10,(.llen (pc (.mk [r1]) 17))),(9,(pc (.mk [r1]) 17)),(4,(pi 0))],[(3,(.mk [r1])),(2,(.mk [r0]))]⟩
(atP b)
 (.ret (pi 0)))
def aoz (b:Nat→PC):PT×List (Shp×PT):=(Tv b,[(.lp 0 [4,11,12] [] [4,11] [],KH b)])
theorem P6:zk.map told=some (aoz (ax zk)):=by kernel_rfl
theorem azm:tree IK=Tv L6:=aC P6
theorem aen:round 0 [4,11,12] [] [4,11] [] (L6 0)=KH L6:=be P6 0 fun _=>rfl
theorem aj6:zk=some IK:=aB P6
noncomputable def EV:Option PC:=az {ctx with fr:=[6,7,8,9,65,80,100,111],nh:=[]} Tryz.f187 ((ab af 187).getD default) [3,4,5]
noncomputable def IJ:PC:=ay EV
def Tu:PT:=
 (.call ⟨[],[(5,(.mk [r2])),(4,(.mk [r1])),(3,(.mk [r0]))]⟩ [] 16 112 [(pc (.mk [r2]) 4),(pi 0),(bz (.llen (pc (.mk [r1]) 15)) (pi 1))]
 (.call ⟨[(17,dc)],[]⟩ [(17,true)] 23 227 [(ar 19 o4),(pc o5 4),(pc o5 3)]
 (.chk (.nt (.an (.an (.pick iT iU pF) pT) (.nt (au (pc o4 15) (pc o5 4)))))
 (.call ⟨[(8,(.pick (.pick iT iU pF) (aq (pc (pn (pc o4 15) (pc o5 4)) 2) (pc o5 1)) pF)),(7,(.pick iT iU pF))],[]⟩ [] 44 112 [(pc o5 2),(pi 0),Kv]
 (.call ⟨[(9,uZ)],[]⟩ [] 51 112 [(pc o5 1),(pi 0),Kv]
 (.ite (.pick (.nt kY) pT (.pick (aU (pc o5 0) (pi 4)) (aU (pc o5 8) (pi 0)) pF))
 (.ret pF)
 (.blockS ⟨[(64,(pc o5 0))],[]⟩ 0 [6,65,66,80,81,100,101,111,112] []
 (.iteS ⟨[],[]⟩ (.pick (aq kZ (pi 0)) (aq kZ (pi 0)) (.pick (aq kZ (pi 1)) (aq kZ (pi 1)) (aq kZ (pi 2)))) [6,80,81,100,101,111,112] []
 (.ret (.pick (.pick r9 (aq (pc o5 4) (pi (-1))) pF) (aq (pc o5 5) (pi 0)) pF))
 (.iteS ⟨[],[]⟩ (.pick (aq kZ (pi 3)) (aq kZ (pi 3)) (.pick (aq kZ (pi 5)) (aq kZ (pi 5)) (aq kZ (pi 4)))) [6,100,101,111,112] []
 (.call ⟨[(90,(.pick r9 (aq (pc o5 4) (pi (-1))) pF))],[]⟩ [(90,true)] 93 112 [(pc o5 5),(pi 0),xM]
 (.call ⟨[(95,(.pick r90 KB pF))],[]⟩ [(95,true)] 98 112 [(pc o5 8),(pi 0),(pi 1)]
 (.ret (.pick r95 r98 pF))))
 (.iteS ⟨[],[]⟩ (aq kZ (pi 6)) [6,111,112] []
 (.call ⟨[(106,(.pick r9 r8 pF))],[]⟩ [(106,true)] 109 112 [(pc o5 5),(pi 1),xM]
 (.ret (.pick Q9 awX pF)))
 (.ite (aq kZ (pi 9))
 (.ret (.pick (.pick (aq (pc o5 2) (pi (-1))) r8 pF) (aq (pc o5 5) (pi 0)) pF))
 (.next ⟨[],[]⟩))
 (.next ⟨[],[]⟩))
 (.next ⟨[],[]⟩))
 (.next ⟨[],[]⟩))
 (.ret (.pick (.pick (aq (pc o5 2) (pi (-1))) r7 pF) (aq (pc o5 5) (pi 0)) pF)))))))))
def aoy (b:Nat→PC):PT×List (Shp×PT):=(Tu,[])
theorem acy:EV.map told=some (aoy (ax EV)):=by kernel_rfl
theorem azl:tree IJ=Tu:=aC acy
theorem aj5:EV=some IJ:=aB acy
noncomputable def zl:Option PC:=az {ctx with fr:=[2,3],nh:=[]} Tryz.f114 ((ab af 114).getD default) [1,4,5]
noncomputable def IM:PC:=ay zl
noncomputable def L7:Nat→PC:=bn zl
def atQ (b:Nat→PC):PC:=.block 0 [2,9,10] [] (.loop [2,9] [] (b 0))
def KI (b:Nat→PC):PT:=
 (.ite (aj r9 r8)
 (.blockS ⟨[],[]⟩ 1 [2,3,4,11,12,13,14,15,16,17,18,27,28,33,34,35] [4]
 (.chk (au r7 r9)
 (.call ⟨[(3,r9)],[(4,(.setc z3 0 (pn r7 r9)))]⟩ [] 16 112 [(pc (.setc z3 0 (pn r7 r9)) 0),(pi 0),(pi 4)]
 (.call ⟨[(18,(.nt dc))],[]⟩ [(18,false)] 25 112 [(pc o4 1),(pi 0),(bz (.llen (pc o1 15)) (pi 1))]
 (.call ⟨[(28,(.pick gm pT (.nt iV)))],[]⟩ [(28,false)] 31 112 [(pc o4 2),(pi 0),(pi 1)]
 (.ite (.pick gE pT (.nt oo))
 (.ret (pi 1))
 (.ite (aq r3 (pi 0))
 (.exit 1 ⟨[],[]⟩)
 (.chk (au (pc o1 18) (bz r3 (pi 1)))
 (.call ⟨[],[(5,(.setc z3 0 (pn (pc o1 18) (bz r3 (pi 1)))))]⟩ [] 46 189 [(pc (.setc z3 0 (pn (pc o1 18) (bz r3 (pi 1)))) 1),(pc o4 1)]
 (.call ⟨[],[]⟩ [] 51 189 [(pc o5 0),(pc o4 0)]
 (.call ⟨[],[]⟩ [] 53 188 [(.lst [Cl,kY])]
 (.ite (cm Co (pi 0))
 (.ret (pi 5))
 (.next ⟨[],[]⟩))))))))))))
 (.next ⟨[(9,(aN r9 (pi 1)))],[]⟩))
 (.exit 0 ⟨[(10,(aj r9 r8))],[]⟩))
def Tx (b:Nat→PC):PT:=
 (.brk ⟨[(9,(pi 0)),(8,(.llen (pc (.mk [r0]) 18))),(7,(pc (.mk [r0]) 18)),(2,(pi 0))],[(1,(.mk [r0]))]⟩
(atQ b)
 (.ret (pi 0)))
def aoB (b:Nat→PC):PT×List (Shp×PT):=(Tx b,[(.lp 0 [2,9,10] [] [2,9] [],KI b)])
theorem P7:zl.map told=some (aoB (ax zl)):=by kernel_rfl
theorem azo:tree IM=Tx L7:=aC P7
theorem aeo:round 0 [2,9,10] [] [2,9] [] (L7 0)=KI L7:=be P7 0 fun _=>rfl
theorem aj8:zl=some IM:=aB P7
noncomputable def Et:Option PC:=az {ctx with fr:=[4,5,6],nh:=[]} Tryz.f189 ((ab af 189).getD default) []
noncomputable def H7:PC:=ay Et
def SV:PT:=
 (.call ⟨[],[]⟩ [] 8 228 [r0]
 (.call ⟨[(5,r8)],[]⟩ [] 10 228 [r1]
 (.ite r5
 (.ite cE
 (.ret (pi 0))
 (.ret (pi (-1))))
 (.ite cE
 (.ret (pi 1))
 (.ite (aj r0 r1)
 (.ret (pi (-1)))
 (.ite (aV r0 r1)
 (.ret (pi 1))
 (.ret (pi 0))))))))
def an0 (b:Nat→PC):PT×List (Shp×PT):=(SV,[])
theorem ab4:Et.map told=some (an0 (ax Et)):=by kernel_rfl
theorem ayN:tree H7=SV:=aC ab4
theorem ajx:Et=some H7:=aB ab4
noncomputable def Eu:Option PC:=az {ctx with fr:=[2],nh:=[]} Tryz.f228 ((ab af 228).getD default) []
noncomputable def H9:PC:=ay Eu
def SX:PT:=
 (.ret (aU r0 r0))
def an2 (b:Nat→PC):PT×List (Shp×PT):=(SX,[])
theorem ab5:Eu.map told=some (an2 (ax Eu)):=by kernel_rfl
theorem ayP:tree H9=SX:=aC ab5
theorem ajz:Eu=some H9:=aB ab5
noncomputable def zd:Option PC:=az {ctx with fr:=[2,3,5],nh:=[]} Tryz.f188 ((ab af 188).getD default) []
noncomputable def H8:PC:=ay zd
noncomputable def L1:Nat→PC:=bn zd
def atG (b:Nat→PC):PC:=.block 0 [2,8,9] [] (.loop [2,8] [] (b 0))
def Cu (b:Nat→PC):PT:=
 (.ite (aj r8 r7)
 (.chk (au r6 r8)
 (.ite (aU (pn r6 r8) r3)
 (.ret (pn r6 r8))
 (.next ⟨[(8,qO)],[]⟩)))
 (.exit 0 ⟨[(9,(aj r8 r7))],[]⟩))
def SW (b:Nat→PC):PT:=
 (.brk ⟨[(8,(pi 0)),(7,(.llen r0)),(6,r0),(3,(pi 0)),(2,(pi 0))],[]⟩
(atG b)
 (.ret r3))
def an1 (b:Nat→PC):PT×List (Shp×PT):=(SW b,[(.lp 0 [2,8,9] [] [2,8] [],Cu b)])
theorem P1:zd.map told=some (an1 (ax zd)):=by kernel_rfl
theorem ayO:tree H8=SW L1:=aC P1
theorem Rf:round 0 [2,8,9] [] [2,8] [] (L1 0)=Cu L1:=be P1 0 fun _=>rfl
theorem ajy:zd=some H8:=aB P1
noncomputable def zA:Option PC:=az {ctx with fr:=[5,6,8,9],nh:=[]} Tryz.f39 ((ab af 39).getD default) [2,4,46,52,7,69639,77831,81,115]
noncomputable def I8:PC:=ay zA
noncomputable def p6:Nat→PC:=bn zA
def aud (b:Nat→PC):PC:=.block 0 [5,10,11,12,13,14,15,24] [] (.loop [5] [] (b 0))
def aue (b:Nat→PC):PC:=.block 2 [6,27,28,29,30,31,32,41] [] (.loop [6] [] (b 1))
def auf (b:Nat→PC):PC:=.block 4 [8,59,60,61,62,63] [7,69639] (.loop [8] [7,69639] (b 2))
def aug (b:Nat→PC):PC:=.block 6 [9,84,85,86,87,88] [7,77831] (.loop [9] [7,77831] (b 3))
def CP (b:Nat→PC):PT:=
 (.chk (.nt (.an (.an Cf pT) (.nt (au (pc o2 15) r5))))
 (.ite (.pick Cf (br (pc (pn (pc o2 15) r5) 6) r1) pF)
 (.next ⟨[(5,uV)],[]⟩)
 (.exit 0 ⟨[(10,r5),(11,pN),(12,(pc o2 15)),(13,(.llen (pc o2 15))),(14,Cf),(15,Cf),(24,(.pick Cf (br (pc (pn (pc o2 15) r5) 6) r1) pF))],[]⟩)))
def CQ (b:Nat→PC):PT:=
 (.chk (.nt (.an (.an Ce pT) (.nt (au (pc o2 17) r6))))
 (.ite (.pick Ce (br (pc (pn (pc o2 17) r6) 6) r1) pF)
 (.next ⟨[(6,(aN r6 (pi 1)))],[]⟩)
 (.exit 2 ⟨[(27,r6),(28,pN),(29,(pc o2 17)),(30,(.llen (pc o2 17))),(31,Ce),(32,Ce),(41,(.pick Ce (br (pc (pn (pc o2 17) r6) 6) r1) pF))],[]⟩)))
def CR (b:Nat→PC):PT:=
 (.ite (aj r8 (.llen (pc o2 16)))
 (.chk (au (pc o2 16) r8)
 (.ite (br (pc (pn (pc o2 16) r8) 0) r5)
 (.chk (br (.llen (.app (.o 69639) (.lst [(pn (pc o2 16) r8)]))) cn)
 (.next ⟨[(8,qO)],[(7,(.setc o7 16 pN)),(69639,(.app (.o 69639) (.lst [(pn (pc o2 16) r8)])))]⟩))
 (.next ⟨[(8,qO)],[]⟩)))
 (.exit 4 ⟨[(59,r8),(60,pN),(61,(pc o2 16)),(62,(.llen (pc o2 16))),(63,(aj r8 (.llen (pc o2 16))))],[]⟩))
def xU (b:Nat→PC):PT:=
 (.ite (aj r9 (.llen (pc o2 18)))
 (.chk (au (pc o2 18) r9)
 (.chk (.nt (.an (.an (cm (pc (pn (pc o2 18) r9) 1) (pi 0)) pT) (.nt (au (pc o2 18) r9))))
 (.ite (.pick (cm (pc (pn (pc o2 18) r9) 1) (pi 0)) (aj (pc (pn (pc o2 18) r9) 1) r5) pF)
 (.chk (br (.llen (.app (.o 77831) (.lst [(pn (pc o2 18) r9)]))) cn)
 (.next ⟨[(9,(aN r9 (pi 1)))],[(7,(.setc o7 18 pN)),(77831,(.app (.o 77831) (.lst [(pn (pc o2 18) r9)])))]⟩))
 (.next ⟨[(9,(aN r9 (pi 1)))],[]⟩))))
 (.exit 6 ⟨[(84,r9),(85,pN),(86,(pc o2 18)),(87,(.llen (pc o2 18))),(88,(aj r9 (.llen (pc o2 18))))],[]⟩))
def TR (b:Nat→PC):PT:=
 (.brk ⟨[(5,(pi 0))],[(4,sq),(2,(.mk [r0]))]⟩
(aud b)
 (.brk ⟨[(6,(pi 0))],[]⟩
(aue b)
 (.chk (.slok (pc o2 15) (pi 0) r5)
 (.chk (br (.llen (.app (.lst []) (.slc (pc o2 15) (pi 0) r5))) cn)
 (.chk (.slok (pc o2 17) (pi 0) r6)
 (.chk (br (.llen (.app (.lst []) (.slc (pc o2 17) (pi 0) r6))) cn)
 (.brk ⟨[(8,(pi 0))],[(77831,pL),(69639,pL),(7,(.setc sq 0 (.mk [(ar 15 o2),(.app (.lst []) (.slc (pc o2 15) (pi 0) r5)),pL,(.app (.lst []) (.slc (pc o2 17) (pi 0) r6)),pL])))]⟩
(auf b)
 (.brk ⟨[(9,(pi 0))],[]⟩
(aug b)
 (.ret (ar 19 (.setc o4 0 (.mk [(pc o7 0),(pc o7 1),(pc o7 2),(pc o7 3),(pc o7 4),(pc o7 5),(pc o7 6),(pc o7 7),(pc o7 8),(pc o7 9),(pc o7 10),(pc o7 11),(pc o7 12),(pc o7 13),(pc o7 14),(pc o7 15),(.o 69639),(pc o7 17),(.o 77831)]))))))))))))
def aoV (b:Nat→PC):PT×List (Shp×PT):=(TR b,[(.lp 0 [5,10,11,12,13,14,15,24] [] [5] [],CP b),(.lp 2 [6,27,28,29,30,31,32,41] [] [6] [],CQ b),(.lp 4 [8,59,60,61,62,63] [7,69639] [8] [7,69639],CR b),(.lp 6 [9,84,85,86,87,88] [7,77831] [9] [7,77831],xU b)])
theorem xg:zA.map told=some (aoV (ax zA)):=by kernel_rfl
theorem azI:tree I8=TR p6:=aC xg
theorem Rz:round 0 [5,10,11,12,13,14,15,24] [] [5] [] (p6 0)=CP p6:=be xg 0 fun _=>rfl
theorem RA:round 2 [6,27,28,29,30,31,32,41] [] [6] [] (p6 1)=CQ p6:=be xg 1 fun _=>rfl
theorem RB:round 4 [8,59,60,61,62,63] [7,69639] [8] [7,69639] (p6 2)=CR p6:=be xg 2 fun _=>rfl
theorem KM:round 6 [9,84,85,86,87,88] [7,77831] [9] [7,77831] (p6 3)=xU p6:=be xg 3 fun _=>rfl
theorem aks:zA=some I8:=aB xg
noncomputable def EO:Option PC:=az {ctx with fr:=[4],nh:=[]} Tryz.f40 ((ab af 40).getD default) [2,3]
noncomputable def IB:PC:=ay EO
def Tn:PT:=
 (.call ⟨[],[(3,(.mk [r1])),(2,(.mk [r0]))]⟩ [] 9 107 [jS,(pc (.mk [r1]) 0)]
 (.call ⟨[(10,r9)],[]⟩ [(10,true)] 15 107 [(pc o2 1),(pc o3 1)]
 (.call ⟨[(17,(.pick cE fP pF))],[]⟩ [(17,true)] 22 107 [(pc o2 2),(pc o3 2)]
 (.call ⟨[(24,(.pick iT qQ pF))],[]⟩ [(24,true)] 29 107 [(pc o2 3),(pc o3 3)]
 (.ret (.pick om km pF))))))
def aor (b:Nat→PC):PT×List (Shp×PT):=(Tn,[])
theorem acr:EO.map told=some (aor (ax EO)):=by kernel_rfl
theorem aze:tree IB=Tn:=aC acr
theorem ajY:EO=some IB:=aB acr
noncomputable def EP:Option PC:=az {ctx with fr:=[4],nh:=[]} Tryz.f107 ((ab af 107).getD default) []
noncomputable def IC:PC:=ay EP
def To:PT:=
 (.ret (.pick (aq r0 (pi 2)) pT (aq r0 r1)))
def aos (b:Nat→PC):PT×List (Shp×PT):=(To,[])
theorem acs:EP.map told=some (aos (ax EP)):=by kernel_rfl
theorem azf:tree IC=To:=aC acs
theorem ajZ:EP=some IC:=aB acs
noncomputable def Eh:Option PC:=az {ctx with fr:=[6],nh:=[]} Tryz.f85 ⟨[Y8,I,oI],.slice I,.dat⟩ [3,5,7,8,42,9]
noncomputable def QE:PC:=ay Eh
def SL:PT:=
 (.chk (au (pc (.mk [r2]) 15) (pc (.mk [r2]) 19))
 (.ite adM
 (.ret pL)
 (.chk (.an (cm (pi 5) (pi 0)) (br (pi 5) cn))
 (.chk (aq (pi 5) (pi 5))
 (.chk (au (.rep (pi 5) (pi 0)) (pi 0))
 (.call ⟨[],[(9,(.setn (.rep (pi 5) (pi 0)) (pi 0) 0 r1)),(8,(.setc DO 0 (ar 15 (.mk [r2])))),(7,xH),(3,(.mk [r0]))]⟩ [] 50 32 [hH,(pc xH 7)]
 (.chk (au o9 (pi 1))
 (.call ⟨[],[(9,(.setn o9 (pi 1) 0 fQ))]⟩ [] 56 32 [(ar 8 o3),(pc o8 10)]
 (.chk (au o9 (pi 2))
 (.call ⟨[],[(9,(.setn o9 (pi 2) 0 pH))]⟩ [] 62 32 [(ar 8 o3),(pc o8 9)]
 (.chk (au o9 (pi 3))
 (.chk (au (pc o3 3) (pc o7 2))
 (.call ⟨[],[(9,(.setn o9 (pi 3) 0 kp))]⟩ [] 73 32 [(ar 8 o3),(pc (pn (pc o3 3) (pc o7 2)) 1)]
 (.chk (au o9 (pi 4))
 (.call ⟨[],[(9,(.setn o9 (pi 4) 0 xR))]⟩ [] 76 94 [(.setn o9 (pi 4) 0 xR),(pi (-1))]
 (.ite qV
 (.ret pL)
 (.ret o9)))))))))))))))))
def anM (b:Nat→PC):PT×List (Shp×PT):=(SL,[])
theorem abT:Eh.map told=some (anM (ax Eh)):=by kernel_rfl
theorem ayC:tree QE=SL:=aC abT
theorem ajj:Eh=some QE:=aB abT
noncomputable def Ei:Option PC:=az {ctx with fr:=[6],nh:=[]} Tryz.f85 ⟨[Y8,I,oI],.nils .bool,.dat⟩ [3,5,7,8,42,9]
noncomputable def QF:PC:=ay Ei
def Lp:PT:=
 (.chk (au (pc (.mk [r2]) 15) (pc (.mk [r2]) 19))
 (.ite adM
 (.ret pL)
 (.chk (.an (cm (pi 5) (pi 0)) (br (pi 5) cn))
 (.chk (aq (pi 5) (pi 5))
 (.chk (au (.rep (pi 5) (pi 0)) (pi 0))
 (.call ⟨[],[(9,(.setn (.rep (pi 5) (pi 0)) (pi 0) 0 r1)),(8,(.setc DO 0 (ar 15 (.mk [r2])))),(7,xH),(3,(.mk [r0]))]⟩ [] 50 32 [hH,(pc xH 7)]
 (.chk (au o9 (pi 1))
 (.call ⟨[],[(9,(.setn o9 (pi 1) 0 fQ))]⟩ [] 56 32 [(ar 8 o3),(pc o8 10)]
 (.chk (au o9 (pi 2))
 (.call ⟨[],[(9,(.setn o9 (pi 2) 0 pH))]⟩ [] 62 32 [(ar 8 o3),(pc o8 9)]
 (.chk (au o9 (pi 3))
 (.chk (au (pc o3 3) (pc o7 2))
 (.call ⟨[],[(9,(.setn o9 (pi 3) 0 kp))]⟩ [] 73 32 [(ar 8 o3),(pc (pn (pc o3 3) (pc o7 2)) 1)]
 (.chk (au o9 (pi 4))
 (.call ⟨[],[]⟩ [] 76 94 [(.setn o9 (pi 4) 0 xR),(pi (-1))]
 (.ite qV
 (.ret pL)
 (.chk pF
 (.next ⟨[],[]⟩))))))))))))))))))
def anN (b:Nat→PC):PT×List (Shp×PT):=(Lp,[])
theorem abU:Ei.map told=some (anN (ax Ei)):=by kernel_rfl
theorem ayD:tree QF=Lp:=aC abU
theorem ajk:Ei=some QF:=aB abU
end Rm
namespace Rm
open Go Go.Proofs Cx
def QD:List Nat:=[7,36,98,99,38,100,30,86,41,50,28,83,84,31,88,87,164,32,91,89,90,97,94,167,33,92,166,165,216,93,35,95,169,168,170,217,218,260,264,262,261,96,171,219,263,220,265,286,298,221,48,109,182,108,54,129,130,204,244,245,279,131,132,133,205,134,135,136,137,138,177,178,179,180,223,267,120,201,288,299,287,185,181,224,225,268,121,101,173,174,172,175,106,103,176,222,104,115,46,102,105,43,37,53,58,127,128,203,243,62,145,208,257,285,258,209,210,259,146,147,211,148,149,42,110,183,184,111,112,186,226,227,113,187,114,189,228,188,39,40,107]
noncomputable def B5:List (Nat×PC):=[(7,Iw),(36,Iz),(98,Iy),(99,IA),(38,Ig),(100,Ii),(30,Jv),(86,JB),(41,HQ),(50,HP),(28,HO),(83,HT),(84,HU),(31,Jy),(88,Jz),(87,JD),(164,JH),(32,Jj),(91,Jn),(89,JA),(90,Jw),(97,IE),(94,JF),(167,JK),(33,Ia),(92,Ic),(166,Ie),(165,JE),(216,JJ),(93,Ib),(35,ID),(95,IF),(169,IG),(168,JI),(170,JV),(217,J5),(218,JZ),(260,J2),(264,J1),(262,JX),(261,J7),(96,JW),(171,J3),(219,J4),(263,J8),(220,J0),(265,JY),(286,J6),(298,HV),(221,JC),(48,HR),(109,Jx),(182,JM),(108,JN),(54,Je),(129,Jq),(130,Jm),(204,Jp),(244,Jo),(245,JG),(279,JL),(131,Jf),(132,Jg),(133,Jl),(205,Jt),(134,Jh),(135,Ji),(136,Jr),(137,Ju),(138,Js),(177,JR),(178,JS),(179,JO),(180,JQ),(223,JP),(267,HW),(120,H6),(201,H0),(288,H3),(299,H4),(287,HX),(185,Jk),(181,JT),(224,JU),(225,HY),(268,H2),(121,H5),(101,Ir),(173,Ip),(174,Iu),(172,Iv),(175,It),(106,Ih),(103,Ik),(176,Il),(222,HZ),(104,Is),(115,Io),(46,HS),(102,Ij),(105,Iq),(43,If),(37,Ix),(53,Jd),(58,IV),(127,I9),(128,Jc),(203,Ja),(243,Jb),(62,IU),(145,I2),(208,I4),(257,IX),(285,IW),(258,IT),(209,IY),(210,I1),(259,I0),(146,I3),(147,I5),(211,IZ),(148,I7),(149,I6),(42,II),(110,J9),(183,Ka),(184,Kb),(111,IQ),(112,IP),(186,IN),(226,IL),(227,IS),(113,IK),(187,IJ),(114,IM),(189,H7),(228,H9),(188,H8),(39,I8),(40,IB),(107,IC)]
noncomputable def tab:Nat→Option PC:=ab B5
theorem adx:B5.map (·.1)=QD:=by kernel_rfl
theorem aG:(B5.map (·.1)).Nodup:=by rw[adx];exact l7 (by kernel_rfl)
theorem ag6:tab aad=some Iw:=aE aG (k:=0) (by kernel_rfl)
theorem ag9:tab aag=some Iz:=aE aG (k:=1) (by kernel_rfl)
theorem ag8:tab aaf=some Iy:=aE aG (k:=2) (by kernel_rfl)
theorem aha:tab aah=some IA:=aE aG (k:=3) (by kernel_rfl)
theorem agS:tab Z6=some Ig:=aE aG (k:=4) (by kernel_rfl)
theorem agU:tab Z7=some Ii:=aE aG (k:=5) (by kernel_rfl)
theorem ah0:tab aaY=some Jv:=aE aG (k:=6) (by kernel_rfl)
theorem ah6:tab aa4=some JB:=aE aG (k:=7) (by kernel_rfl)
theorem agx:tab ZJ=some HQ:=aE aG (k:=8) (by kernel_rfl)
theorem agw:tab ZI=some HP:=aE aG (k:=9) (by kernel_rfl)
theorem agv:tab ZH=some HO:=aE aG (k:=10) (by kernel_rfl)
theorem agA:tab ZM=some HT:=aE aG (k:=11) (by kernel_rfl)
theorem agB:tab ZN=some HU:=aE aG (k:=12) (by kernel_rfl)
theorem ah3:tab aa1=some Jy:=aE aG (k:=13) (by kernel_rfl)
theorem ah4:tab aa2=some Jz:=aE aG (k:=14) (by kernel_rfl)
theorem ah9:tab aa6=some JD:=aE aG (k:=15) (by kernel_rfl)
theorem aid:tab aba=some JH:=aE aG (k:=16) (by kernel_rfl)
theorem ahP:tab aaN=some Jj:=aE aG (k:=17) (by kernel_rfl)
theorem ahS:tab aaQ=some Jn:=aE aG (k:=18) (by kernel_rfl)
theorem ah5:tab aa3=some JA:=aE aG (k:=19) (by kernel_rfl)
theorem ah1:tab aaZ=some Jw:=aE aG (k:=20) (by kernel_rfl)
theorem ahe:tab aak=some IE:=aE aG (k:=21) (by kernel_rfl)
theorem aib:tab aa8=some JF:=aE aG (k:=22) (by kernel_rfl)
theorem aih:tab abd=some JK:=aE aG (k:=23) (by kernel_rfl)
theorem agN:tab Z2=some Ia:=aE aG (k:=24) (by kernel_rfl)
theorem agP:tab Z4=some Ic:=aE aG (k:=25) (by kernel_rfl)
theorem agQ:tab Px=some Ie:=aE aG (k:=26) (by kernel_rfl)
theorem aia:tab aa7=some JE:=aE aG (k:=27) (by kernel_rfl)
theorem aif:tab abc=some JJ:=aE aG (k:=28) (by kernel_rfl)
theorem agO:tab Z3=some Ib:=aE aG (k:=29) (by kernel_rfl)
theorem ahd:tab aaj=some ID:=aE aG (k:=30) (by kernel_rfl)
theorem ahf:tab aal=some IF:=aE aG (k:=31) (by kernel_rfl)
theorem ahg:tab PG=some IG:=aE aG (k:=32) (by kernel_rfl)
theorem aie:tab abb=some JI:=aE aG (k:=33) (by kernel_rfl)
theorem aip:tab abj=some JV:=aE aG (k:=34) (by kernel_rfl)
theorem VJ:tab abt=some J5:=aE aG (k:=35) (by kernel_rfl)
theorem ait:tab abn=some JZ:=aE aG (k:=36) (by kernel_rfl)
theorem aiw:tab abq=some J2:=aE aG (k:=37) (by kernel_rfl)
theorem aiv:tab abp=some J1:=aE aG (k:=38) (by kernel_rfl)
theorem air:tab abl=some JX:=aE aG (k:=39) (by kernel_rfl)
theorem aiA:tab abv=some J7:=aE aG (k:=40) (by kernel_rfl)
theorem aiq:tab abk=some JW:=aE aG (k:=41) (by kernel_rfl)
theorem aix:tab PQ=some J3:=aE aG (k:=42) (by kernel_rfl)
theorem aiy:tab abr=some J4:=aE aG (k:=43) (by kernel_rfl)
theorem aiB:tab abw=some J8:=aE aG (k:=44) (by kernel_rfl)
theorem aiu:tab abo=some J0:=aE aG (k:=45) (by kernel_rfl)
theorem ais:tab abm=some JY:=aE aG (k:=46) (by kernel_rfl)
theorem aiz:tab abu=some J6:=aE aG (k:=47) (by kernel_rfl)
theorem agC:tab ZO=some HV:=aE aG (k:=48) (by kernel_rfl)
theorem ah8:tab aa5=some JC:=aE aG (k:=49) (by kernel_rfl)
theorem agy:tab ZK=some HR:=aE aG (k:=50) (by kernel_rfl)
theorem ah2:tab aa0=some Jx:=aE aG (k:=51) (by kernel_rfl)
theorem aij:tab abf=some JM:=aE aG (k:=52) (by kernel_rfl)
theorem LV:tab BT=some JN:=aE aG (k:=53) (by kernel_rfl)
theorem ahK:tab aaM=some Je:=aE aG (k:=54) (by kernel_rfl)
theorem ahV:tab aaT=some Jq:=aE aG (k:=55) (by kernel_rfl)
theorem ahR:tab aaP=some Jm:=aE aG (k:=56) (by kernel_rfl)
theorem ahU:tab aaS=some Jp:=aE aG (k:=57) (by kernel_rfl)
theorem ahT:tab aaR=some Jo:=aE aG (k:=58) (by kernel_rfl)
theorem aic:tab aa9=some JG:=aE aG (k:=59) (by kernel_rfl)
theorem aii:tab abe=some JL:=aE aG (k:=60) (by kernel_rfl)
theorem ahL:tab PK=some Jf:=aE aG (k:=61) (by kernel_rfl)
theorem ahM:tab PL=some Jg:=aE aG (k:=62) (by kernel_rfl)
theorem ahQ:tab aaO=some Jl:=aE aG (k:=63) (by kernel_rfl)
theorem ahY:tab aaW=some Jt:=aE aG (k:=64) (by kernel_rfl)
theorem ahN:tab PM=some Jh:=aE aG (k:=65) (by kernel_rfl)
theorem ahO:tab PN=some Ji:=aE aG (k:=66) (by kernel_rfl)
theorem ahW:tab aaU=some Jr:=aE aG (k:=67) (by kernel_rfl)
theorem ahZ:tab aaX=some Ju:=aE aG (k:=68) (by kernel_rfl)
theorem ahX:tab aaV=some Js:=aE aG (k:=69) (by kernel_rfl)
theorem ail:tab abh=some JR:=aE aG (k:=70) (by kernel_rfl)
theorem aim:tab Hi=some JS:=aE aG (k:=71) (by kernel_rfl)
theorem aik:tab abg=some JO:=aE aG (k:=72) (by kernel_rfl)
theorem th:tab xc=some JQ:=aE aG (k:=73) (by kernel_rfl)
theorem D2:tab PO=some JP:=aE aG (k:=74) (by kernel_rfl)
theorem VE:tab ZP=some HW:=aE aG (k:=75) (by kernel_rfl)
theorem agJ:tab ZY=some H6:=aE aG (k:=76) (by kernel_rfl)
theorem agF:tab ZT=some H0:=aE aG (k:=77) (by kernel_rfl)
theorem agH:tab ZW=some H3:=aE aG (k:=78) (by kernel_rfl)
theorem VF:tab Pw=some H4:=aE aG (k:=79) (by kernel_rfl)
theorem D1:tab ZQ=some HX:=aE aG (k:=80) (by kernel_rfl)
theorem VI:tab Hh=some Jk:=aE aG (k:=81) (by kernel_rfl)
theorem ain:tab Hj=some JT:=aE aG (k:=82) (by kernel_rfl)
theorem aio:tab abi=some JU:=aE aG (k:=83) (by kernel_rfl)
theorem agD:tab ZR=some HY:=aE aG (k:=84) (by kernel_rfl)
theorem agG:tab ZU=some H2:=aE aG (k:=85) (by kernel_rfl)
theorem agI:tab ZX=some H5:=aE aG (k:=86) (by kernel_rfl)
theorem ag1:tab aab=some Ir:=aE aG (k:=87) (by kernel_rfl)
theorem agZ:tab Pz=some Ip:=aE aG (k:=88) (by kernel_rfl)
theorem ag4:tab PB=some Iu:=aE aG (k:=89) (by kernel_rfl)
theorem ag5:tab PD=some Iv:=aE aG (k:=90) (by kernel_rfl)
theorem ag3:tab PA=some It:=aE aG (k:=91) (by kernel_rfl)
theorem agT:tab Hf=some Ih:=aE aG (k:=92) (by kernel_rfl)
theorem agW:tab Py=some Ik:=aE aG (k:=93) (by kernel_rfl)
theorem agX:tab Hg=some Il:=aE aG (k:=94) (by kernel_rfl)
theorem agE:tab ZS=some HZ:=aE aG (k:=95) (by kernel_rfl)
theorem ag2:tab aac=some Is:=aE aG (k:=96) (by kernel_rfl)
theorem agY:tab Z9=some Io:=aE aG (k:=97) (by kernel_rfl)
theorem agz:tab ZL=some HS:=aE aG (k:=98) (by kernel_rfl)
theorem agV:tab Z8=some Ij:=aE aG (k:=99) (by kernel_rfl)
theorem ag0:tab aaa=some Iq:=aE aG (k:=100) (by kernel_rfl)
theorem agR:tab Z5=some If:=aE aG (k:=101) (by kernel_rfl)
theorem ag7:tab aae=some Ix:=aE aG (k:=102) (by kernel_rfl)
theorem ahJ:tab aaL=some Jd:=aE aG (k:=103) (by kernel_rfl)
theorem ahs:tab aaw=some IV:=aE aG (k:=104) (by kernel_rfl)
theorem ahG:tab aaH=some I9:=aE aG (k:=105) (by kernel_rfl)
theorem ahI:tab aaK=some Jc:=aE aG (k:=106) (by kernel_rfl)
theorem ahH:tab aaI=some Ja:=aE aG (k:=107) (by kernel_rfl)
theorem VH:tab aaJ=some Jb:=aE aG (k:=108) (by kernel_rfl)
theorem ahr:tab aav=some IU:=aE aG (k:=109) (by kernel_rfl)
theorem ahz:tab aaB=some I2:=aE aG (k:=110) (by kernel_rfl)
theorem ahB:tab BS=some I4:=aE aG (k:=111) (by kernel_rfl)
theorem ahu:tab aay=some IX:=aE aG (k:=112) (by kernel_rfl)
theorem aht:tab aax=some IW:=aE aG (k:=113) (by kernel_rfl)
theorem ahq:tab aau=some IT:=aE aG (k:=114) (by kernel_rfl)
theorem ahv:tab PH=some IY:=aE aG (k:=115) (by kernel_rfl)
theorem ahy:tab aaA=some I1:=aE aG (k:=116) (by kernel_rfl)
theorem ahx:tab aaz=some I0:=aE aG (k:=117) (by kernel_rfl)
theorem ahA:tab aaC=some I3:=aE aG (k:=118) (by kernel_rfl)
theorem ahC:tab aaD=some I5:=aE aG (k:=119) (by kernel_rfl)
theorem ahw:tab PJ=some IZ:=aE aG (k:=120) (by kernel_rfl)
theorem ahE:tab aaF=some I7:=aE aG (k:=121) (by kernel_rfl)
theorem ahD:tab aaE=some I6:=aE aG (k:=122) (by kernel_rfl)
theorem ahh:tab aam=some II:=aE aG (k:=123) (by kernel_rfl)
theorem aiC:tab abx=some J9:=aE aG (k:=124) (by kernel_rfl)
theorem aiD:tab aby=some Ka:=aE aG (k:=125) (by kernel_rfl)
theorem aiE:tab abz=some Kb:=aE aG (k:=126) (by kernel_rfl)
theorem aho:tab aas=some IQ:=aE aG (k:=127) (by kernel_rfl)
theorem ahn:tab BR=some IP:=aE aG (k:=128) (by kernel_rfl)
theorem ahm:tab aar=some IN:=aE aG (k:=129) (by kernel_rfl)
theorem ahk:tab aap=some IL:=aE aG (k:=130) (by kernel_rfl)
theorem ahp:tab aat=some IS:=aE aG (k:=131) (by kernel_rfl)
theorem ahj:tab aao=some IK:=aE aG (k:=132) (by kernel_rfl)
theorem ahi:tab aan=some IJ:=aE aG (k:=133) (by kernel_rfl)
theorem ahl:tab aaq=some IM:=aE aG (k:=134) (by kernel_rfl)
theorem agK:tab ZZ=some H7:=aE aG (k:=135) (by kernel_rfl)
theorem agM:tab Z1=some H9:=aE aG (k:=136) (by kernel_rfl)
theorem agL:tab Z0=some H8:=aE aG (k:=137) (by kernel_rfl)
theorem ahF:tab aaG=some I8:=aE aG (k:=138) (by kernel_rfl)
theorem ahb:tab aai=some IB:=aE aG (k:=139) (by kernel_rfl)
theorem ahc:tab PF=some IC:=aE aG (k:=140) (by kernel_rfl)
theorem caps:∀f cs,ab MC f=some cs→(kS cs.args cs.res=none→ab af f=some ⟨cs.args++cs.caps,cs.res,.dat⟩)∧∀ys,kS cs.args cs.res=some ys→eG QD f=false∧DB Tryz.prog f=true:=VY (l:=MC) (sig:=af) (P:=Tryz.prog) (pcs:=QD) (by kernel_rfl)
theorem clos:dp ctx:=⟨(fun f cs h=>(caps f cs h).1),fun f s h=>afk (l:=af) (P:=Tryz.prog) (by kernel_rfl) f s h⟩
theorem its:∀f cs ys,ctx.cap f=some cs→kS cs.args cs.res=some ys→tab f=none∧∃fn,ctx.P.funcs[f]?=some fn∧fn.body.isSome=true∧(fn.name== "runtime.NumGoroutine")=false:=fun f cs ys h hi=>⟨YZ (l:=B5) (by rw[adx];exact((caps f cs h).2 ys hi).1),ays ((caps f cs h).2 ys hi).2⟩
theorem ayi:∀f pc,tab f=some pc→∃fn s ids fr nh,ctx.P.funcs[f]?=some fn∧ctx.sig f=some s∧az {ctx with fr:=fr,nh:=nh} fn s ids=some pc:=
 Po (R:=fun f pc=>∃fn s ids fr nh,ctx.P.funcs[f]?=some fn∧ctx.sig f=some s∧az {ctx with fr:=fr,nh:=nh} fn s ids=some pc) (l:=B5)
  (aF ⟨Tryz.f7,(ab af 7).getD default,[6,8,14,15,16],[12,13],[],Tryz.func7,rfl,ajT⟩
  (aF ⟨Tryz.f36,(ab af 36).getD default,[1,2,3,4,5,6],[0,7,8],[],Tryz.func36,rfl,ajW⟩
  (aF ⟨Tryz.f98,(ab af 98).getD default,[0,24576,28672,32768,1,12289,2,12290,3,12291],[],[],Tryz.func98,rfl,ajV⟩
  (aF ⟨Tryz.f99,(ab af 99).getD default,[4,5,6,69638,73734,77830],[],[],Tryz.func99,rfl,ajX⟩
  (aF ⟨Tryz.f38,(ab af 38).getD default,[5,7,10,11,12],[],[],Tryz.func38,rfl,ajF⟩
  (aF ⟨Tryz.f100,(ab af 100).getD default,[5,7,10],[],[],Tryz.func100,rfl,ajH⟩
  (aF ⟨Tryz.f30,(ab af 30).getD default,[2,4,5,65541,69637,73733,77829,7,31,9,49,11,13],[],[],Tryz.func30,rfl,akP⟩
  (aF ⟨Tryz.f86,(ab af 86).getD default,[],[4],[],Tryz.func86,rfl,akV⟩
  (aF ⟨Tryz.f41,(ab af 41).getD default,[4,6],[8,9,10,11],[],Tryz.func41,rfl,aje⟩
  (aF ⟨Tryz.f50,(ab af 50).getD default,[5,8,77832,10],[],[],Tryz.func50,rfl,ajd⟩
  (aF ⟨Tryz.f28,(ab af 28).getD default,[4,7,8,9],[10],[],Tryz.func28,rfl,ajc⟩
  (aF ⟨Tryz.f83,(ab af 83).getD default,[4,7,8,10,16394],[9,11,12,13,14],[],Tryz.func83,rfl,ajh⟩
  (aF ⟨Tryz.f84,(ab af 84).getD default,[2,3,4],[5],[],Tryz.func84,rfl,aji⟩
  (aF ⟨Tryz.f31,(ab af 31).getD default,[2,3,5,6,8,10,90,139],[4,7,9,11,12,13,14,15,16],[],Tryz.func31,rfl,akT⟩
  (aF ⟨Tryz.f88,(ab af 88).getD default,[2],[3],[],Tryz.func88,rfl,akS⟩
  (aF ⟨Tryz.f87,(ab af 87).getD default,[],[4],[],Tryz.func87,rfl,akX⟩
  (aF ⟨Tryz.f164,(ab af 164).getD default,[],[4,5],[],Tryz.func164,rfl,ak1⟩
  (aF ⟨Tryz.f32,(ab af 32).getD default,[2],[4],[],Tryz.func32,rfl,akD⟩
  (aF ⟨Tryz.f91,(ab af 91).getD default,[],[4],[],Tryz.func91,rfl,akH⟩
  (aF ⟨Tryz.f89,(ab af 89).getD default,[2],[],[],Tryz.func89,rfl,akU⟩
  (aF ⟨Tryz.f90,(ab af 90).getD default,[3,6,8],[],[],Tryz.func90,rfl,akQ⟩
  (aF ⟨Tryz.f97,(ab af 97).getD default,[],[2,3,4,11],[],Tryz.func97,rfl,aj1⟩
  (aF ⟨Tryz.f94,(ab af 94).getD default,[],[4],[],Tryz.func94,rfl,akZ⟩
  (aF ⟨Tryz.f167,(ab af 167).getD default,[],[4,5],[],Tryz.func167,rfl,ak4⟩
  (aF ⟨Tryz.f33,(ab af 33).getD default,[4,10,53],[8,9,11,12,13,14,55,70],[],Tryz.func33,rfl,ajA⟩
  (aF ⟨Tryz.f92,(ab af 92).getD default,[4,9],[8],[],Tryz.func92,rfl,ajD⟩
  (aF ⟨Tryz.f166,(ab af 166).getD default,[],[3],[],Tryz.func166,rfl,ajC⟩
  (aF ⟨Tryz.f165,(ab af 165).getD default,[],[4],[],Tryz.func165,rfl,akY⟩
  (aF ⟨Tryz.f216,(ab af 216).getD default,[],[4,5],[],Tryz.func216,rfl,ak3⟩
  (aF ⟨Tryz.f93,(ab af 93).getD default,[4,11],[8,9],[],Tryz.func93,rfl,ajB⟩
  (aF ⟨Tryz.f35,(ab af 35).getD default,[3,6,8,10],[7,9,11,12],[],Tryz.func35,rfl,aj0⟩
  (aF ⟨Tryz.f95,(ab af 95).getD default,[2,3,4,12292,9],[5,6,7,8,10,11],[],Tryz.func95,rfl,aj3⟩
  (aF ⟨Tryz.f169,(ab af 169).getD default,[2],[3],[],Tryz.func169,rfl,aj2⟩
  (aF ⟨Tryz.f168,(ab af 168).getD default,[],[4,5],[],Tryz.func168,rfl,ak2⟩
  (aF ⟨Tryz.f170,(ab af 170).getD default,[1],[2,3],[],Tryz.func170,rfl,alf⟩
  (aF ⟨Tryz.f217,(ab af 217).getD default,[2,7,12295],[4,5],[],Tryz.func217,rfl,alq⟩
  (aF ⟨Tryz.f218,(ab af 218).getD default,[1,4,6,12294,9],[2,3,5,7,8,38,47,10,11,12],[],Tryz.func218,rfl,alj⟩
  (aF ⟨Tryz.f260,(ab af 260).getD default,[1],[2,3,12,20,4,5],[],Tryz.func260,rfl,aln⟩
  (aF ⟨Tryz.f264,(ab af 264).getD default,[],[2],[],Tryz.func264,rfl,alm⟩
  (aF ⟨Tryz.f262,(ab af 262).getD default,[],[2,3,4,11],[],Tryz.func262,rfl,alh⟩
  (aF ⟨Tryz.f261,(ab af 261).getD default,[2],[4,8,13,17,21],[],Tryz.func261,rfl,als⟩
  (aF ⟨Tryz.f96,(ab af 96).getD default,[2,4,7],[5,6,8],[],Tryz.func96,rfl,alg⟩
  (aF ⟨Tryz.f171,(ab af 171).getD default,[2,3,4,6,33,7,8,10,12298,12],[5,15,21,9,11],[],Tryz.func171,rfl,alo⟩
  (aF ⟨Tryz.f219,(ab af 219).getD default,[2,4],[5,6],[],Tryz.func219,rfl,alp⟩
  (aF ⟨Tryz.f263,(ab af 263).getD default,[2],[],[],Tryz.func263,rfl,alu⟩
  (aF ⟨Tryz.f220,(ab af 220).getD default,[4,5],[9,22,41,6,7,82,88,94],[],Tryz.func220,rfl,alk⟩
  (aF ⟨Tryz.f265,(ab af 265).getD default,[],[6,8,14,20,25],[],Tryz.func265,rfl,ali⟩
  (aF ⟨Tryz.f286,(ab af 286).getD default,[],[4,5,6,7],[],Tryz.func286,rfl,alr⟩
  (aF ⟨Tryz.f298,(ab af 298).getD default,[],[4,5,6,7,8,9,10,11,12,13],[],Tryz.func298,rfl,ajl⟩
  (aF ⟨Tryz.f221,(ab af 221).getD default,[6],[2,3,5,8],[],Tryz.func221,rfl,akW⟩
  (aF ⟨Tryz.f48,(ab af 48).getD default,[1],[2],[],Tryz.func48,rfl,ajf⟩
  (aF ⟨Tryz.f109,(ab af 109).getD default,[1,3,6,8],[2,4],[],Tryz.func109,rfl,akR⟩
  (aF ⟨Tryz.f182,(ab af 182).getD default,[],[2,3,4],[],Tryz.func182,rfl,ak6⟩
  (aF ⟨Tryz.f108,(ab af 108).getD default,[4,5,10],[8,9,15,39,58,74,11,12],[],Tryz.func108,rfl,ak7⟩
  (aF ⟨Tryz.f54,(ab af 54).getD default,[1,9],[2,3,4,5,6,7,10,11,12],[],Tryz.func54,rfl,akC⟩
  (aF ⟨Tryz.f129,(ab af 129).getD default,[1,2,3,4,6,16390,20486,24582,21,8,34,10,12298,16394,47],[],[],Tryz.func129,rfl,akK⟩
  (aF ⟨Tryz.f130,(ab af 130).getD default,[],[6,7,8],[],Tryz.func130,rfl,akG⟩
  (aF ⟨Tryz.f204,(ab af 204).getD default,[],[4],[],Tryz.func204,rfl,akJ⟩
  (aF ⟨Tryz.f244,(ab af 244).getD default,[],[2,3,4,5],[],Tryz.func244,rfl,akI⟩
  (aF ⟨Tryz.f245,(ab af 245).getD default,[],[4],[],Tryz.func245,rfl,ak0⟩
  (aF ⟨Tryz.f279,(ab af 279).getD default,[],[4,5],[],Tryz.func279,rfl,ak5⟩
  (aF ⟨Tryz.f131,(ab af 131).getD default,[],[2],[],Tryz.func131,rfl,aky⟩
  (aF ⟨Tryz.f132,(ab af 132).getD default,[],[3],[],Tryz.func132,rfl,akz⟩
  (aF ⟨Tryz.f133,(ab af 133).getD default,[2,3],[4,6],[],Tryz.func133,rfl,akF⟩
  (aF ⟨Tryz.f205,(ab af 205).getD default,[],[6,7,8],[],Tryz.func205,rfl,akN⟩
  (aF ⟨Tryz.f134,(ab af 134).getD default,[],[3],[],Tryz.func134,rfl,akA⟩
  (aF ⟨Tryz.f135,(ab af 135).getD default,[],[3],[],Tryz.func135,rfl,akB⟩
  (aF ⟨Tryz.f136,(ab af 136).getD default,[1,3,4,6,19,8,16392,36],[2],[],Tryz.func136,rfl,akL⟩
  (aF ⟨Tryz.f137,(ab af 137).getD default,[1,4,6],[2,3],[],Tryz.func137,rfl,akO⟩
  (aF ⟨Tryz.f138,(ab af 138).getD default,[1,4,6],[2],[],Tryz.func138,rfl,akM⟩
  (aF ⟨Tryz.f177,(ab af 177).getD default,[2],[4],[],Tryz.func177,rfl,alb⟩
  (aF ⟨Tryz.f178,(ab af 178).getD default,[],[2],[],Tryz.func178,rfl,alc⟩
  (aF ⟨Tryz.f179,(ab af 179).getD default,[1],[2],[],Tryz.func179,rfl,ak8⟩
  (aF ⟨Tryz.f180,(ab af 180).getD default,[3,4],[6,7,13,16,24,33,8,9],[],Tryz.func180,rfl,ala⟩
  (aF ⟨Tryz.f223,(ab af 223).getD default,[3],[4,5],[],Tryz.func223,rfl,ak9⟩
  (aF ⟨Tryz.f267,(ab af 267).getD default,[],[4,5,6,7,8,9],[],Tryz.func267,rfl,ajm⟩
  (aF ⟨Tryz.f120,(ab af 120).getD default,[],[2],[],Tryz.func120,rfl,ajw⟩
  (aF ⟨Tryz.f201,(ab af 201).getD default,[],[2,3,4,5,6,7,8,9],[],Tryz.func201,rfl,ajq⟩
  (aF ⟨Tryz.f288,(ab af 288).getD default,[],[4],[],Tryz.func288,rfl,ajt⟩
  (aF ⟨Tryz.f299,(ab af 299).getD default,[],[6,0,1],[],Tryz.func299,rfl,aju⟩
  (aF ⟨Tryz.f287,(ab af 287).getD default,[],[6,7,8],[],Tryz.func287,rfl,ajn⟩
  (aF ⟨Tryz.f185,(ab af 185).getD default,[3,9],[6,7],[],Tryz.func185,rfl,akE⟩
  (aF ⟨Tryz.f181,(ab af 181).getD default,[3],[6,7,8,2,9,10],[],Tryz.func181,rfl,ald⟩
  (aF ⟨Tryz.f224,(ab af 224).getD default,[3,9],[6,7,2],[],Tryz.func224,rfl,ale⟩
  (aF ⟨Tryz.f225,(ab af 225).getD default,[2,4,5],[6],[],Tryz.func225,rfl,ajo⟩
  (aF ⟨Tryz.f268,(ab af 268).getD default,[3,4,5],[6],[],Tryz.func268,rfl,ajs⟩
  (aF ⟨Tryz.f121,(ab af 121).getD default,[2],[4,5,6,7],[],Tryz.func121,rfl,ajv⟩
  (aF ⟨Tryz.f101,(ab af 101).getD default,[1],[2,3,4,27,32],[],Tryz.func101,rfl,ajO⟩
  (aF ⟨Tryz.f173,(ab af 173).getD default,[3,8],[6],[],Tryz.func173,rfl,ajM⟩
  (aF ⟨Tryz.f174,(ab af 174).getD default,[1,2,3],[13,18,24],[],Tryz.func174,rfl,ajR⟩
  (aF ⟨Tryz.f172,(ab af 172).getD default,[3,5],[6,7,11,20],[],Tryz.func172,rfl,ajS⟩
  (aF ⟨Tryz.f175,(ab af 175).getD default,[1],[2,3],[],Tryz.func175,rfl,ajQ⟩
  (aF ⟨Tryz.f106,(ab af 106).getD default,[],[2,3,6],[],Tryz.func106,rfl,ajG⟩
  (aF ⟨Tryz.f103,(ab af 103).getD default,[2,4],[],[],Tryz.func103,rfl,ajJ⟩
  (aF ⟨Tryz.f176,(ab af 176).getD default,[3,4,6],[7,8],[],Tryz.func176,rfl,ajK⟩
  (aF ⟨Tryz.f222,(ab af 222).getD default,[3],[6,7,8,9,1],[],Tryz.func222,rfl,ajp⟩
  (aF ⟨Tryz.f104,(ab af 104).getD default,[1,4,7],[2,3,5,8,63,66],[],Tryz.func104,rfl,ajP⟩
  (aF ⟨Tryz.f115,(ab af 115).getD default,[1],[2,3],[],Tryz.func115,rfl,ajL⟩
  (aF ⟨Tryz.f46,(ab af 46).getD default,[1],[2,3,7,12],[],Tryz.func46,rfl,ajg⟩
  (aF ⟨Tryz.f102,(ab af 102).getD default,[2],[4,5],[],Tryz.func102,rfl,ajI⟩
  (aF ⟨Tryz.f105,(ab af 105).getD default,[1,4,5,7,9,12],[2,3,6,10],[],Tryz.func105,rfl,ajN⟩
  (aF ⟨Tryz.f43,(ab af 43).getD default,[4,6],[8],[],Tryz.func43,rfl,ajE⟩
  (aF ⟨Tryz.f37,(ab af 37).getD default,[2,3],[4],[],Tryz.func37,rfl,ajU⟩
  (aF ⟨Tryz.f53,(ab af 53).getD default,[2,3],[4,5],[],Tryz.func53,rfl,akx⟩
  (aF ⟨Tryz.f58,(ab af 58).getD default,[1],[2,3,4],[],Tryz.func58,rfl,akf⟩
  (aF ⟨Tryz.f127,(ab af 127).getD default,[1],[2],[],Tryz.func127,rfl,akt⟩
  (aF ⟨Tryz.f128,(ab af 128).getD default,[1],[2,3],[],Tryz.func128,rfl,akw⟩
  (aF ⟨Tryz.f203,(ab af 203).getD default,[1],[2],[],Tryz.func203,rfl,aku⟩
  (aF ⟨Tryz.f243,(ab af 243).getD default,[3],[6,1,7],[],Tryz.func243,rfl,akv⟩
  (aF ⟨Tryz.f62,(ab af 62).getD default,[1],[2,3],[],Tryz.func62,rfl,ake⟩
  (aF ⟨Tryz.f145,(ab af 145).getD default,[1,5,44],[2,3,4,6,7],[],Tryz.func145,rfl,akm⟩
  (aF ⟨Tryz.f208,(ab af 208).getD default,[],[4],[],Tryz.func208,rfl,ako⟩
  (aF ⟨Tryz.f257,(ab af 257).getD default,[],[2,3,4],[],Tryz.func257,rfl,akh⟩
  (aF ⟨Tryz.f285,(ab af 285).getD default,[],[2],[],Tryz.func285,rfl,akg⟩
  (aF ⟨Tryz.f258,(ab af 258).getD default,[],[6,7],[],Tryz.func258,rfl,akd⟩
  (aF ⟨Tryz.f209,(ab af 209).getD default,[2,3],[4,5],[],Tryz.func209,rfl,aki⟩
  (aF ⟨Tryz.f210,(ab af 210).getD default,[],[6],[],Tryz.func210,rfl,akl⟩
  (aF ⟨Tryz.f259,(ab af 259).getD default,[],[6,7],[],Tryz.func259,rfl,akk⟩
  (aF ⟨Tryz.f146,(ab af 146).getD default,[1,4,44],[2,3,5,6],[],Tryz.func146,rfl,akn⟩
  (aF ⟨Tryz.f147,(ab af 147).getD default,[1,3,24],[2,4,5],[],Tryz.func147,rfl,akp⟩
  (aF ⟨Tryz.f211,(ab af 211).getD default,[1],[2,3,4],[],Tryz.func211,rfl,akj⟩
  (aF ⟨Tryz.f148,(ab af 148).getD default,[1,4],[2,3,5],[],Tryz.func148,rfl,akr⟩
  (aF ⟨Tryz.f149,(ab af 149).getD default,[1,4,6],[2,3,5],[],Tryz.func149,rfl,akq⟩
  (aF ⟨Tryz.f42,(ab af 42).getD default,[2,3,10],[4,5,6,7,8,11],[],Tryz.func42,rfl,aj4⟩
  (aF ⟨Tryz.f110,(ab af 110).getD default,[2,3],[4,5,6,7,8,54,80,109,118,9,10],[],Tryz.func110,rfl,alv⟩
  (aF ⟨Tryz.f183,(ab af 183).getD default,[],[4],[],Tryz.func183,rfl,alw⟩
  (aF ⟨Tryz.f184,(ab af 184).getD default,[1,3],[2,8,19,40],[],Tryz.func184,rfl,alx⟩
  (aF ⟨Tryz.f111,(ab af 111).getD default,[3,4,7,11],[6,8,9,76,92,98],[],Tryz.func111,rfl,akb⟩
  (aF ⟨Tryz.f112,(ab af 112).getD default,[],[6],[],Tryz.func112,rfl,aka⟩
  (aF ⟨Tryz.f186,(ab af 186).getD default,[3,4,7,8],[6,9,10,66,103,113,11,140,149],[],Tryz.func186,rfl,aj9⟩
  (aF ⟨Tryz.f226,(ab af 226).getD default,[3],[6,7],[],Tryz.func226,rfl,aj7⟩
  (aF ⟨Tryz.f227,(ab af 227).getD default,[3],[6],[],Tryz.func227,rfl,akc⟩
  (aF ⟨Tryz.f113,(ab af 113).getD default,[2,3,6],[4,5,7],[],Tryz.func113,rfl,aj6⟩
  (aF ⟨Tryz.f187,(ab af 187).getD default,[3,4,5],[6,7,8,9,65,80,100,111],[],Tryz.func187,rfl,aj5⟩
  (aF ⟨Tryz.f114,(ab af 114).getD default,[1,4,5],[2,3],[],Tryz.func114,rfl,aj8⟩
  (aF ⟨Tryz.f189,(ab af 189).getD default,[],[4,5,6],[],Tryz.func189,rfl,ajx⟩
  (aF ⟨Tryz.f228,(ab af 228).getD default,[],[2],[],Tryz.func228,rfl,ajz⟩
  (aF ⟨Tryz.f188,(ab af 188).getD default,[],[2,3,5],[],Tryz.func188,rfl,ajy⟩
  (aF ⟨Tryz.f39,(ab af 39).getD default,[2,4,46,52,7,69639,77831,81,115],[5,6,8,9],[],Tryz.func39,rfl,aks⟩
  (aF ⟨Tryz.f40,(ab af 40).getD default,[2,3],[4],[],Tryz.func40,rfl,ajY⟩
  (aF ⟨Tryz.f107,(ab af 107).getD default,[],[4],[],Tryz.func107,rfl,ajZ⟩
  trivial)))))))))))))))))))))))))))))))))))))))))))))))))))))))))))))))))))))))))))))))))))))))))))))))))))))))))))))))))))))))))))))))))))))))))))))
end Rm
set_option linter.unusedSimpArgs false
namespace Rm
open Go Go.Proofs Cx Go.RowKit Go.Lib
theorem atl:(Tryz.prog.info? 3).map (fun i=>(i.zero,i.size,i.bytes))=some (some (.int .i64 0),1,8):=by kernel_rfl
set_option maxHeartbeats 2000000 in
set_option maxRecDepth 100000 in
theorem aqi (w:World):Calls Tryz.prog 266 #[.slice none 0 0,.int .i64 0] w fun e w'=>e=.returned (.slice none 0 0)∧w'=w:=by
 go_enter Tryz.func266,Tryz.ntmps266
 go_wp2
 go_ret
 exact⟨rfl,rfl⟩
set_option maxHeartbeats 2000000 in
set_option maxRecDepth 100000 in
theorem aqh (n:Nat)(w:World)(h0:0<n)(h1:n≤4294967296):Calls Tryz.prog 266 #[.slice none 0 0,.int .i64 n] w fun e w'=>
 ∃v',e=.returned v'∧w'.ownsRow w.heap.size 3 1 v' 0 []∧Below w.heap.size w w':=by
 obtain⟨i0,hi,wV,uq,hz2⟩:=info_parts atl;have hr:=run_append_nil_zeros w 69 3 69 3 i0 (.int .i64 0) .i64 .i64 Tryz.underlying69 Tryz.underlying3 hi wV n h0 (by rw[uq];decide) (by omega) (by rw[hz2];omega);have hn:¬((n:Int)<0):=by omega
 have nN:(n:Int)>0:=by omega
 have hw:IntKind.i64.wrap (n:Int)=n:=by rw[IntKind.wrap_i64];omega
 have po:IntKind.i64.wrap 0=0:=by decide
 have dS:=grownCap_ge w n 0 3;have hle:=grownCap_le_maxLen w n 0 3 (by unfold maxLen;omega);have hs:(Builtin.zeroCells #[Value.int IntKind.i64 0] n++Builtin.zeroCells #[Value.int IntKind.i64 0] (grownCap w n 0 3-n)).size=grownCap w n 0 3*1:=by
  rw[Array.size_append,size_zeroCells,size_zeroCells];simp;omega
 go_enter Tryz.func266,Tryz.ntmps266
 go_wp2_with (at_builtin;refine wpList_append_run _ rfl _ _ 69 3 rfl _ _ rfl rfl _ _ hr ?qc)
 go_ret
 refine⟨_,rfl,?_,?_⟩
 ·exact World.ownsRow.drew (World.ownsRow_made w _ _ (Nat.le_refl _) hle hs)
 ·exact((Below.refl _ w).alloc (Nat.le_refl _) _).drew
def FZ (ds:List D):Option D:=
 match ds with
 |[.list [],.v (.int .i64 n)]=>if 0≤n∧n≤4294967296 then some (.list []) else none
 |_=>none
theorem aqg (ds:List D)(d:D)(h:FZ ds=some d):∃s,ctx.sig 266=some s∧LJ ctx 266 s ds d:=by
 refine⟨_,rfl,fun _=>?_,fun shs obs hm=>by cases hm⟩;unfold FZ at h;split at h
 case h_2=>cases h
 rename_i n;split at h
 case isFalse=>cases h
 rename_i hn;cases h;obtain⟨k,rfl⟩:=Int.eq_ofNat_of_zero_le hn.1;intro σ w args aA hC ha;obtain⟨a1,a2,a3⟩:=ha;have h0:=a3 0 _ rfl;have h1:=a3 1 _ rfl;obtain⟨u,v,rfl⟩:∃u v,args=#[u,v]:=by
  have:args.size=2:=by simpa using a1
  match args,this with
  |⟨[u,v]⟩,_=>exact⟨u,v,rfl⟩
 simp only[List.getD_cons_zero,List.getD_cons_succ] at h0 h1;change Rep ctx.cap σ (.nils .bool) u (.list []) at h0;change Rep ctx.cap σ (.int .i64) v (.v (.int .i64 k)) at h1;have hu:u=.slice none 0 0:=by cases h0;rfl
 have hv:v=.int .i64 k:=by cases h1;rfl
 subst hu hv;by_cases hk:k=0
 ·subst hk;refine(aqi w).mono fun e w' hh=>?_;obtain⟨rfl,rfl⟩:=hh;refine⟨_,σ,rfl,.refl σ,aA,.refl _ _,fun _ _ _ h=>.inl h,fun _ _ h=>.inl h,?_⟩;exact⟨[],[],rfl,⟨by simp,.inl ⟨rfl,rfl⟩⟩,⟨fun _=>undef,fun i x hx=>by simp at hx,fun i j u hi=>by simp at hi⟩,fun k hk=>by cases hk⟩
 ·refine(aqh k w (by omega) (by omega)).mono fun e w' hh=>?_;obtain⟨v',rfl,bN,hb⟩:=hh;refine⟨v',σ,rfl,.refl σ,aA.below hb,hb,fun _ _ _ h=>.inl h,fun _ _ h=>.inl h,?_⟩;refine⟨[],[],rfl,bN,⟨fun _=>undef,fun i x hx=>by simp at hx,fun i j u hi=>by simp at hi⟩,fun k hk=>?_⟩;have aY:=(bN.lt k hk).1;refine⟨fun o=>?_,?_⟩
  ·cases hc:σ.c k o with
   |none=>rfl
   |some u=>have:=World.block_lt_of_cell? w (a:=⟨k,o,none⟩) (aA.c _ _ _ hc);simp at this;omega
  ·cases hc:σ.m k with
   |none=>rfl
   |some u=>rcases aA.m _ _ hc with⟨arr,clock,x,g1,_⟩|⟨_,g1⟩<;>(have:=(Array.getElem?_eq_some_iff.1 g1).1;omega)
def eC (day:Int):Int×Int×Int:=
 let n:=day+730425
 let e:=n/146097
 let r:=n%146097
 let y:=(r-r/1460+r/36524-r/146096)/365
 let r:=r-(365*y+y/4-y/100)
 let m:=(5*r+2)/153
 let dom:=r-(153*m+2)/5+1
 let month:=if 12<m+3 then m+3-12 else m+3
 (if month<3 then y+400*e+1 else y+400*e,month,dom)
def uK (rest feasts shut:List Int)(day:Int):Bool:=
 !rest.contains ((day+5)%7)&&(!feasts.contains (100*(eC day).2.1+(eC day).2.2)&& !shut.contains day)
def Wg (rest feasts shut:List Int)(a b:Int):List Int:=((List.range (b-a+1).toNat).map fun(k:Nat)=>a+k).filter (uK rest feasts shut)
def uu (d:D):List Int:=d.l.map D.i
def Wh (ds:List D):List D:=
 let c:=(ds.getD 2 .none).deref
 (Wg (uu (c.c 3)) (uu (c.c 4)) (uu (c.c 5)) (ds.getD 0 .none).deref.i (ds.getD 1 .none).deref.i).map fun d=>.tup [.int d]
def vN (r:D)(city:Int):Int:=if 0≤city∧city<(r.c 1).l.length then(((r.c 1).l.getD city.toNat .none).c 1).i else-1
def QI (ds:List D):D:=
 let r:=ds.getD 0 .none
 let forum:=(ds.getD 1 .none).i
 let c:=ds.getD 2 .none
 let s:=(c.c 15).l.getD (c.c 19).i.toNat .none
 let who:=(s.c 2).i
 if who<0∨(r.c 3).l.length≤who∨forum<0∨(r.c 4).l.length≤forum then .list [] else
 let out:=[forum,vN r (s.c 7).i,vN r (c.c 10).i,vN r (c.c 9).i,vN r (((r.c 3).l.getD who.toNat .none).c 1).i]
 if(-1)∈out then .list [] else ints out
noncomputable def WB:List (Nat×(aT→List D→Option D)):=[(266,fun _ ds=>FZ ds),(85,xe QE QF QI),(289,BH B6 1000 1 Wh)]
noncomputable def ext:Nat→Option (aT→List D→Option D):=ab WB
theorem ayh:TabOK ctx tab ext:=by
 refine⟨clos,its,fun f pc _ h=>ayi f pc h,fun f g hg Φ hΦ eR ds d h=>?_⟩
 have:=Po (R:=fun f (g:aT→List D→Option D)=>∀Φ,cS ctx Φ→fu ctx Φ→∀ds d,g Φ ds=some d→(∀s,ctx.sig f=some s→LJ ctx f s ds d)∧
  ∀cs ys,ctx.cap f=some cs→kS cs.args cs.res=some ys→∃xs,d=.list xs∧(∀x,x∈xs→∃ds',x=.tup ds'∧ds'.length=ys.length)∧kE ctx f cs.caps ys ds xs) (l:=WB)
  ⟨fun Φ hΦ eR ds d h=>⟨fun s hs=>by obtain⟨s',h1,h2⟩:=aqg ds d h;rw[hs] at h1;cases h1;exact h2,fun cs ys hc hi=>by cases hc⟩,
   fun Φ hΦ eR ds d h=>⟨fun s hs=>by cases hs;exact⟨fun _=>avt clos hΦ eR Tryz.func85 ajj ajk h,fun shs obs hm=>by cases hm⟩,fun cs ys hc hi=>by cases hc⟩,
   fun Φ hΦ eR ds d h=>⟨fun s hs=>(by cases hs),fun cs ys hc hi=>by
    cases hc;cases hi;exact ato clos hΦ eR Tryz.func289 aly h rfl⟩,trivial⟩ f g hg
 exact this Φ hΦ eR ds d h
noncomputable abbrev T:cf:=cN tab ext
theorem ak.of_nsl {tab:Nat→Option PC}{ext:Nat→Option (aT→List D→Option D)}{f:Nat}{pa pb:PC}{spec:List D→D}{ds:List D}{ta tb:PT}(hx:ext f=some (xe pa pb spec))(hta:tree pa=ta)(htb:tree pb=tb)
 (h:(∃xs,xs≠[]∧spec ds=.list xs∧aJ (cN tab ext) ta (j7 ds) (fun x=>x=.ret (.list xs)))∨(spec ds=.list []∧aJ (cN tab ext) tb (j7 ds) (fun x=>x=.ret (.list [])))):ak (cN tab ext) f ds (spec ds):=by
 refine ak.of_ext hx ?_;rcases h with⟨xs,h1,h2,h3⟩|⟨h2,h3⟩
 ·obtain⟨x,rfl,n0,hn⟩:=LB (c:=pa) (hta▸h3);refine⟨n0,fun n hle=>?_⟩;unfold xe;rw[if_pos (.inl ⟨n,xs,hn n hle,h1,h2⟩)]
 ·obtain⟨x,rfl,n0,hn⟩:=LB (c:=pb) (htb▸h3);refine⟨n0,fun n hle=>?_⟩;unfold xe;rw[if_pos (.inr ⟨n,hn n hle,h2⟩)]
end Rm
namespace Rm
open Go Go.Proofs Cx
def dQ (n:Nat)(p:Nat→Bool):Bool:=(List.range n).all p
theorem Vr {n:Nat}{p:Nat→Bool}(h:∀k,k<n→p k=true):dQ n p=true:=List.all_eq_true.2 fun k hk=>h k (List.mem_range.1 hk)
theorem agf {n k:Nat}{p:Nat→Bool}(hk:k<n)(h:p k=false):dQ n p=false:=List.all_eq_false.2 ⟨k,List.mem_range.2 hk,by simp[h]⟩
theorem vH {n:Nat}{p:Nat→Bool}:dQ n p=true↔∀k,k<n→p k=true:=⟨fun h k hk=>List.all_eq_true.1 h k (List.mem_range.2 hk),Vr⟩
def eQ (n:Nat)(f:Nat→Int):Int:=(((List.range n).map f).find? fun x=>x !=0).getD 0
theorem Na {n:Nat}{f:Nat→Int}(h:∀k,k<n→f k=0):eQ n f=0:=by
 unfold eQ;rw[List.find?_eq_none.2]
 ·rfl
 ·intro x hx;obtain⟨k,hk,rfl⟩:=List.mem_map.1 hx;simp[h k (List.mem_range.1 hk)]
theorem M9 {n k:Nat}{f:Nat→Int}(hk:k<n)(hj:∀j,j<k→f j=0)(h:f k≠0):eQ n f=f k:=by
 unfold eQ;have e:List.range n=List.range k++k::(List.range' (k+1) (n-k-1)):=by
  rw[List.range_eq_range',List.range_eq_range',←List.range'_succ];have:=List.range'_append_1 (s:=0) (m:=k) (n:=n-k-1+1);rw[Nat.zero_add] at this;rw[this];congr 1;omega
 rw[e,List.map_append,List.find?_append,List.find?_eq_none.2,Option.none_or,List.map_cons,List.find?_cons_of_pos (by simpa using h)]
 ·rfl
 ·intro x hx;obtain⟨j,rG,rfl⟩:=List.mem_map.1 hx;simp[hj j (List.mem_range.1 rG)]
theorem WK {n:Nat}{f:Nat→Int}:eQ n f=0↔∀k,k<n→f k=0:=by
 refine⟨fun h k=>?_,Na⟩
 induction k using Nat.strongRecOn with
 |ind k ih=>
  intro hk;refine Classical.byContradiction fun aD=>?_;rw[M9 hk (fun j hj=>ih j hj (by omega)) aD] at h;exact aD h
section
variable {T:cf} {id:Nat} {bq bp lr lo:List Nat} {a:PC} {ρ:Env} {Q:Out→Prop}
theorem fo (N:Nat)(p:Nat→Bool)(str eM:Nat→List D)(h0:lr.map ρ.r=str 0∧lo.map ρ.o=eM 0)
 (step:∀k,k<N→p k=true→aJ T (round id bq bp lr lo a) (ρ.put lr (str k) lo (eM k)) (eu ρ id bq bp lr lo (fun vr vo=>vr=str (k+1)∧vo=eM (k+1)) Q))
 (bad:∀k,k<N→p k=false→dQ N p=false→aJ T (round id bq bp lr lo a) (ρ.put lr (str k) lo (eM k)) (eu ρ id bq bp lr lo (fun _ _=>False) Q))
 (last:dQ N p=true→aJ T (round id bq bp lr lo a) (ρ.put lr (str N) lo (eM N)) (eu ρ id bq bp lr lo (fun _ _=>False) Q)):aO T (.block id bq bp (.loop lr lo a)) ρ Q:=
 .scan N (fun k=>p k=true) str eM h0 (fun k hk _ h=>step k hk h) (fun k hk _ h=>bad k hk (by simpa using h) (agf hk (by simpa using h))) (fun h=>last (Vr h))
theorem m9 (N:Nat)(f:Nat→Int)(str eM:Nat→List D)(h0:lr.map ρ.r=str 0∧lo.map ρ.o=eM 0)
 (step:∀k,k<N→f k=0→aJ T (round id bq bp lr lo a) (ρ.put lr (str k) lo (eM k)) (eu ρ id bq bp lr lo (fun vr vo=>vr=str (k+1)∧vo=eM (k+1)) Q))
 (bad:∀k,k<N→f k≠0→eQ N f=f k→aJ T (round id bq bp lr lo a) (ρ.put lr (str k) lo (eM k)) (eu ρ id bq bp lr lo (fun _ _=>False) Q))
 (last:eQ N f=0→aJ T (round id bq bp lr lo a) (ρ.put lr (str N) lo (eM N)) (eu ρ id bq bp lr lo (fun _ _=>False) Q)):aO T (.block id bq bp (.loop lr lo a)) ρ Q:=
 .scan N (fun k=>f k=0) str eM h0 (fun k hk _ h=>step k hk h) (fun k hk hj h=>bad k hk h (M9 hk hj h)) (fun h=>last (Na h))
end
theorem bl {k n:Nat}(h:k<n)(hn:n≤4294967296):IntKind.i64.wrap ((k:Int)+1)=(k:Int)+1:=bD (by omega)
theorem sT {k:Nat}(hn:k≤4294967296):IntKind.i64.wrap ((k:Int)-1)=(k:Int)-1:=bD (by omega)
def aw (i n:Int):Bool:=decide (0≤i)&&decide (i<n)
def wi (n a b:Int):Bool:=decide (a≤n)&&decide (n≤b)
theorem fa (i n:Int):ak T aaQ [.int i,.int n] (.bool (aw i n)):=by
 refine .of_tree rfl ahS azV ?_;simp[T7,aw];by_cases h:0≤i<;>simp[h]
theorem ox (i n:Int):ak T aa4 [.int i,.int n] (.bool (aw i n)):=by
 refine .of_tree rfl ah6 az9 ?_;simp[Uk,aw];by_cases h:0≤i<;>simp[h]
theorem cB (n a b:Int):ak T aaA [.int n,.int a,.int b] (.bool (wi n a b)):=by
 refine .of_tree rfl ahy azB ?_;simp[TK,wi];by_cases h:a≤n<;>simp[h]
theorem idx_eq {α:Type}[DecidableEq α]{l:List α}{x z:α}{k:Nat}(hk:k<l.length)(hj:∀j,j<k→l.getD j z≠x)(h:¬l.getD k z≠x):x∈l∧l.findIdx (fun y=>decide (y=x))=k:=by
 have e:l[k]=x:=by simpa [hk] using h
 refine⟨e▸List.getElem_mem hk,(List.findIdx_eq hk).2 ⟨by simp[e],fun j ga=>?_⟩⟩;have fh:j<l.length:=by omega
 simpa [fh] using hj j ga
theorem Yy {α:Type}[DecidableEq α]{l:List α}{x z:α}(hj:∀j,j<l.length→l.getD j z≠x):¬x∈l:=fun hm=>by
 obtain⟨j,fh,rfl⟩:=List.getElem_of_mem hm;have:=hj j fh;simp[fh] at this
def rT {α:Type}[DecidableEq α](l:List α)(x:α):Int:=if x∈l then(l.findIdx (fun y=>decide (y=x)):Nat) else-1
def hasB {α:Type}[DecidableEq α](l:List α)(x:α):Bool:=l.any fun y=>decide (y=x)
theorem AU {α:Type}[DecidableEq α]{l:List α}{x:α}:hasB l x=true↔x∈l:=by simp[hasB]
theorem Xp {α:Type}[DecidableEq α]{l:List α}{x:α}:hasB l x=false↔¬x∈l:=by rw[←AU];simp
theorem Yx {α:Type}[DecidableEq α](l:List α)(x:α):decide (0≤rT l x)=hasB l x:=by
 unfold rT;by_cases h:x∈l
 ·rw[AU.2 h];simp[h]
 ·rw[Xp.2 h];simp[h]
@[simp] theorem aEw (a b:ByteArray):tu .eql a b=decide (a=b):=by
  simp only[tu,ByteArray.toList_eq];by_cases h:a=b
  ·subst h;simp
  ·rw[decide_eq_false h,beq_eq_false_iff_ne];intro e;have:a.data=b.data:=by rw[←Array.toList_inj];exact e
   exact h (by cases a;cases b;cases this;rfl)
@[simp] theorem aFm (ρ:Env)(x i:PE):PE.ev ρ (.sidx x i)=.v (.int .u8 ((PE.ev ρ x).s.data.getD (PE.ev ρ i).i.toNat 0).toNat):=_root_.id rfl
@[simp] theorem aFq (ρ:Env)(x i:PE):PE.ev ρ (.sok x i)=.v (.bool (decide (0≤(PE.ev ρ i).i∧(PE.ev ρ i).i<(PE.ev ρ x).s.size))):=_root_.id rfl
@[simp] theorem aIa (a:ByteArray):(str a).s=a:=_root_.id rfl
theorem afV (l:List Int)(x:Int)(hl:l.length≤4294967296):ak T abd [ints l,.int x] (.int (rT l x)):=by
 refine .of_tree rfl aih aAi ?_;simp[Ut];refine .scan l.length (fun k=>l.getD k 0≠x) (fun k=>[.int 0,.int k]) (fun _=>[]) ?_ (fun k hk hj ho=>?_) (fun k hk hj ho=>?_) (fun hj=>?_)
 ·simp
 ·have hw:=bl hk hl;simp[hk] at ho;have dD:¬x=l[k]:=fun e=>ho e.symm;simp[RY,De,hk,hw,ints,ho,dD]
 ·obtain⟨hm,he⟩:=idx_eq hk hj ho;simp[hk] at ho;simp[RY,De,hk,ints,ho,rT,hm,he]
 ·have:=Yy hj;simp[RY,De,rT,this,ints]
theorem pW (l:List Int)(x:Int)(hl:l.length≤4294967296):ak T aa8 [ints l,.int x] (.bool (hasB l x)):=by
 refine .of_tree rfl aib aAd ?_;simp[Uo];refine⟨_,afV l x hl,?_⟩;have:=Yx l x;simp at this ⊢;exact this
theorem afW (l:List ByteArray)(x:ByteArray)(hl:l.length≤4294967296):ak T abe [strs l,str x] (.int (rT l x)):=by
 refine .of_tree rfl aii aAj ?_;simp[Uu];refine .scan l.length (fun k=>l.getD k default≠x) (fun k=>[.int 0,.int k]) (fun _=>[]) ?_ (fun k hk hj ho=>?_) (fun k hk hj ho=>?_) (fun hj=>?_)
 ·simp
 ·have hw:=bl hk hl;simp[hk] at ho;have dD:¬x=l[k]:=fun e=>ho e.symm;simp[RZ,Df,hk,hw,strs,ho,dD]
 ·obtain⟨hm,he⟩:=idx_eq hk hj ho;simp[hk] at ho;simp[RZ,Df,hk,strs,ho,rT,hm,he]
 ·have:=Yy hj;simp[RZ,Df,rT,this,strs]
theorem afN (l:List ByteArray)(x:ByteArray)(hl:l.length≤4294967296):ak T aa9 [strs l,str x] (.bool (hasB l x)):=by
 refine .of_tree rfl aic aAe ?_;simp[Up];refine⟨_,afW l x hl,?_⟩;have:=Yx l x;simp at this ⊢;exact this
def m6 (l:List Int)(a b:Int)(k:Nat):Bool:=wi (l.getD k 0) a b&&(k==0||decide (l.getD (k-1) 0<l.getD k 0))
def rising (l:List Int)(a b:Int):Bool:=dQ l.length (m6 l a b)
theorem Dk (l:List Int)(a b:Int)(hl:l.length≤4294967296):ak T aaW [ints l,.int a,.int b] (.bool (rising l a b)):=by
 refine .of_tree rfl ahY az1 ?_;simp[Ud];refine fo l.length (m6 l a b) (fun k=>[.bool false,.int k]) (fun _=>[]) ?_ (fun k hk ho=>?_) (fun k hk ho hb=>?_) (fun hj=>?_)
 ·simp
 ·have hw:=bl hk hl;simp[m6,wi,hk] at ho;obtain⟨⟨h1,h2⟩,h3⟩:=ho;have cg:¬l[k]<a:=by omega
  have jc:¬b<l[k]:=by omega
  by_cases gd:0<k
  ·have bt:k-1<l.length:=by omega
   have cV:IntKind.i64.wrap ((k:Int)-1)=((k-1:Nat):Int):=by rw[sT (by omega)];omega
   have dx:¬l[k]≤l[k-1]:=by
        rcases h3 with h3|h3
        ·omega
        ·simp[bt] at h3;omega
   simp[xW,sA,hk,hw,cV,ints,cg,jc,dx,gd,bt]
  ·simp[xW,sA,hk,hw,ints,cg,jc,gd]
 ·have hf:rising l a b=false:=hb;simp[m6,wi,hk] at ho;by_cases h1:l[k]<a
  ·simp[xW,sA,hk,ints,h1,hf]
  by_cases h2:b<l[k]
  ·simp[xW,sA,hk,ints,h1,h2,hf]
  have h3:=ho (by omega) (by omega);have gd:0<k:=by omega
  have bt:k-1<l.length:=by omega
  have cV:IntKind.i64.wrap ((k:Int)-1)=((k-1:Nat):Int):=by rw[sT (by omega)];omega
  have dx:=h3.2;simp[bt] at dx;simp[xW,sA,hk,cV,ints,h1,h2,dx,gd,bt,hf]
 ·have hf:rising l a b=true:=hj;simp[xW,sA,hf]
def BM (c:Int):Bool:=wi c 97 122||wi c 65 90
def uH (i:Nat)(c:Int):Bool:=BM c||(i !=0&&(decide (c=95)||wi c 48 57))
def y6 (s:ByteArray)(k:Nat):Int:=((s.data.toList.getD k 0).toNat:Nat)
def gB (s:ByteArray):Bool:=decide (1≤s.size)&&decide (s.size≤20)&&dQ s.size (fun k=>uH k (y6 s k))
theorem D7 {s:ByteArray}{k:Nat}(h:k<s.data.size):(s.data[k].toNat:Int)=y6 s k:=by
 unfold y6;rw[List.getD_eq_getElem?_getD,List.getElem?_eq_getElem (by simpa using h)];rfl
theorem afc {s:ByteArray}:s=⟨#[]⟩↔s.size=0:=by
 constructor
 ·rintro rfl;rfl
 ·intro h;cases s with|mk d=>congr;exact Array.eq_empty_of_size_eq_zero h
theorem axp (s:ByteArray):ak T aaR [str s] (.bool (gB s)):=by
 refine .of_tree rfl ahT azW ?_;simp[T8];by_cases h0:s=⟨#[]⟩
 ·have hn:gB s=false:=by simp[gB,afc.1 h0]
  rw[hn];simp[h0]
 by_cases h1:(20:Int)<s.size
 ·have cg:¬s.size≤20:=by omega
  simp[h0,h1,gB,cg]
 have hz:1≤s.size:=by
  have:s.size≠0:=fun e=>h0 (afc.2 e);omega
 have cg:s.size≤20:=by omega
 simp[h0,h1];refine⟨by omega,fo s.size (fun k=>uH k (y6 s k)) (fun k=>[.bool false,.int k]) (fun _=>[]) ?_ (fun k hk ho=>?_) (fun k hk ho hb=>?_) (fun hj=>?_)⟩
 ·simp
 ·have hw:=bl hk (by omega);have aY:k<s.data.size:=hk;have hg:=D7 aY;simp[uH,BM,wi] at ho;simp[RI,CY,hk,aY,hw,hg];omega
 ·have aY:k<s.data.size:=hk;have hg:=D7 aY;have hn:gB s=false:=by simp[gB,hb]
  simp[uH,BM,wi] at ho;simp[RI,CY,hk,aY,hg,hn];omega
 ·have hn:gB s=true:=by simp[gB,hj,hz,cg]
  have hd:s.data.size=s.size:=rfl;simp[RI,CY,hn,hd]
theorem ad4 (c:Int):ak T aax [.v (.int .u8 c)] (.bool (BM c)):=by
 refine .of_tree rfl aht azw ?_;simp[TF,BM,wi];by_cases h:97≤c<;>by_cases h2:c≤122<;>by_cases h3:65≤c<;>by_cases h4:c≤90<;>simp[h,h2,h3,h4]
theorem awO (s:ByteArray):ak T aay [str s] (.bool (gB s)):=by
 refine .of_tree rfl ahu azx ?_;simp[TG];by_cases h0:(s.size:Int)<1
 ·have hn:gB s=false:=by simp[gB];omega
  simp[h0,hn]
 by_cases h1:(20:Int)<s.size
 ·have hn:gB s=false:=by simp[gB];omega
  simp[h0,h1,hn]
 rw[if_neg (by omega)];refine fo s.size (fun k=>uH k (y6 s k)) (fun k=>[.bool false,.int k]) (fun _=>[]) ?_ (fun k hk ho=>?_) (fun k hk ho hb=>?_) (fun hj=>?_)
 ·simp
 ·have hw:=bl hk (by omega);have aY:k<s.data.size:=hk;have hg:=D7 aY;simp[uH,wi] at ho;simp[Rm,CC,hk,aY,hw,hg];refine⟨_,ad4 _,?_⟩;simp[hw];intro g1 g2;exfalso;rcases ho with h|h
  ·rw[h] at g1;cases g1
  ·omega
 ·have aY:k<s.data.size:=hk;have hg:=D7 aY;have hn:gB s=false:=by simp[gB,hb]
  simp[uH,wi] at ho;simp[Rm,CC,hk,aY,hg,hn];refine⟨_,ad4 _,?_⟩;simp[ho.1];omega
 ·have hn:gB s=true:=by simp[gB,hj];omega
  simp[Rm,CC,hn]
end Rm
namespace Rm
open Go Go.Proofs Cx
theorem awL (l:List ByteArray)(n:Nat)(x:ByteArray)(hn:n≤l.length)(hl:l.length≤4294967296):ak T aau [strs l,.int n,str x] (.bool (hasB (l.take n) x)):=by
 refine .of_tree rfl ahq azt ?_;simp[TC];refine .scan n (fun k=>l.getD k default≠x) (fun k=>[.bool false,.int k]) (fun _=>[]) ?_ (fun k hk hj ho=>?_) (fun k hk hj ho=>?_) (fun hj=>?_)
 ·simp
 ·have aY:k<l.length:=by omega
  have hw:=bl aY hl;simp[aY] at ho;simp[Rl,CA,hk,aY,hw,strs,ho]
 ·have aY:k<l.length:=by omega
  simp[aY] at ho;have hm:hasB (l.take n) x=true:=AU.2 (by rw[←ho,List.mem_take_iff_getElem];exact⟨k,by omega,rfl⟩);simp[Rl,CA,hk,aY,strs,ho,hm]
 ·have hm:hasB (l.take n) x=false:=Xp.2 (fun h=>by
   rw[List.mem_take_iff_getElem] at h;obtain⟨k,hk,e⟩:=h;have:=hj k (by omega);simp[show k<l.length by omega] at this;exact this e)
  simp[Rl,CA,hm]
def fO (l:List ByteArray)(i:Nat):Int:=if gB (l.getD i default)=false then 2 else if hasB (l.take i) (l.getD i default) then 5 else 0
theorem PR (l:List ByteArray)(i n:Nat)(h:i<n):fO (l.take n) i=fO l i:=by
 unfold fO;rw[List.getD_eq_getElem?_getD,List.getElem?_take_of_lt h,List.take_take,Nat.min_eq_left (by omega),←List.getD_eq_getElem?_getD]
theorem Cj (l:List ByteArray)(i:Nat)(hi:i<l.length)(hl:l.length≤4294967296):ak T BS [strs l,.int i] (.int (fO l i)):=by
 refine .of_tree rfl ahB azE ?_;simp[TN,hi];refine⟨_,by simpa [strs,hi] using awO l[i],?_⟩;unfold fO;rw[List.getD_eq_getElem?_getD,List.getElem?_eq_getElem hi,Option.getD_some];cases h1:gB l[i]<;>simp[h1];refine⟨_,by simpa [strs,hi] using awL l i l[i] (by omega) hl,?_⟩;cases h2:hasB (l.take i) l[i]<;>simp[h2]
theorem aeB (l:List ByteArray)(i:Nat)(hi:i<l.length)(hl:l.length≤4294967296):ak T aaS [strs l,.int i] (.int (fO l i)):=by
 refine .of_tree rfl ahU azX ?_;simp[T9,hi];refine⟨_,by simpa [strs,hi] using axp l[i],?_⟩;unfold fO;rw[List.getD_eq_getElem?_getD,List.getElem?_eq_getElem hi,Option.getD_some];cases h1:gB l[i]<;>simp[h1];refine⟨by omega,_,by simpa [strs,hi] using afN (l.take i) l[i] (by rw[List.length_take];omega),?_⟩;cases h2:hasB (l.take i) l[i]<;>simp[h2]
def jb (l:List ByteArray)(g:Nat→Bool)(i:Nat):Int:=if fO l i≠0 then fO l i else if g i then 0 else 1
def ei (l:List ByteArray)(BQ:Int)(g:Nat→Bool):Int:=if BQ<l.length then 6 else eQ l.length (jb l g)
theorem KZ (l:List ByteArray)(BQ:Int)(f:Nat)(caps:List D)(g:Nat→Bool)(hg:∀i:Nat,i<l.length→ak T f (.int i::caps) (.bool (g i)))(hl:l.length≤4294967296):
 ak T aaP [strs l,.int BQ,.clo f caps] (.int (ei l BQ g)):=by
 refine .of_tree rfl ahR azU ?_;simp[T6,ei];by_cases h0:BQ<l.length
 ·simp[h0];intro h;omega
 simp[h0];refine m9 l.length (jb l g) (fun k=>[.int 0,.int k]) (fun _=>[]) ?_ (fun k hk ho=>?_) (fun k hk ho hb=>?_) (fun hj=>?_)
 ·simp
 ·have hw:=bl hk hl;have h1:fO l k=0:=by
   refine Classical.byContradiction fun h=>?_;unfold jb at ho;rw[if_pos h] at ho;exact h ho
  have h2:g k=true:=by
   unfold jb at ho;rw[if_neg (by simpa using h1)] at ho;cases h:g k with
   |true=>rfl
   |false=>rw[h] at ho;simp at ho
  simp[RH,CX,hk,hw];refine⟨_,aeB l k hk hl,?_⟩;simp[h1];refine⟨_,_,⟨rfl,rfl⟩,_,hg k hk,?_⟩;simp[h2,hw]
 ·simp[RH,CX,hk,hb];refine⟨_,aeB l k hk hl,?_⟩;unfold jb at ho ⊢;by_cases h1:fO l k=0
  ·simp[h1] at ho ⊢;refine⟨_,_,⟨rfl,rfl⟩,_,hg k hk,?_⟩;simp[ho]
  ·simp[h1]
 ·simp[RH,CX,hj]
theorem Q8 (l:List Int)(a b:Int)(hl:l.length≤4294967296):ak T aaz [ints l,.int a,.int b] (.bool (rising l a b)):=by
 refine .of_tree rfl ahx azA ?_;simp[TJ];refine fo l.length (m6 l a b) (fun k=>[.bool false,.int k]) (fun _=>[]) ?_ (fun k hk ho=>?_) (fun k hk ho hb=>?_) (fun hj=>?_)
 ·simp
 ·have hw:=bl hk hl;simp[m6,hk] at ho;simp[Rq,CG,hk,hw,ints];refine⟨_,cB _ _ _,?_⟩;by_cases gd:0<k
  ·have bt:k-1<l.length:=by omega
   have cV:IntKind.i64.wrap ((k:Int)-1)=((k-1:Nat):Int):=by rw[sT (by omega)];omega
   have dx:¬l[k]≤l[k-1]:=by
        rcases ho.2 with h3|h3
        ·omega
        ·simp[bt] at h3;omega
   simp[ho.1,hk,hw,cV,dx,gd,bt]
  ·simp[ho.1,hk,hw,gd];omega
 ·have hf:rising l a b=false:=hb;simp[m6,hk] at ho;simp[Rq,CG,hk,ints,hf];refine⟨_,cB _ _ _,?_⟩;cases h1:wi l[k] a b with
  |false=>simp
  |true=>
   have h3:=ho h1;have gd:0<k:=by omega
   have bt:k-1<l.length:=by omega
   have cV:IntKind.i64.wrap ((k:Int)-1)=((k-1:Nat):Int):=by rw[sT (by omega)];omega
   have dx:=h3.2;simp[bt] at dx;simp[hk,cV,dx,gd,bt]
 ·have hf:rising l a b=true:=hj;simp[Rq,CG,hf]
theorem Su (n:Int):n.tdiv 100=if 0≤n then n/100 else-((-n)/100):=by
 split
 ·rename_i h;exact Int.tdiv_eq_ediv_of_nonneg h
 ·rename_i h;have e:n.tdiv 100=-((-n).tdiv 100):=by rw[Int.neg_tdiv,Int.neg_neg]
  rw[e,Int.tdiv_eq_ediv_of_nonneg (by omega)]
theorem afm (n:Int):n.tmod 100=n-100*n.tdiv 100:=Int.tmod_def n 100
theorem afE {n:Int}(h:aX n):IntKind.i64.wrap (n.tdiv 100)=n.tdiv 100:=bD (by rw[Su];unfold aX at h;split<;>omega)
def mu (r:Realm)(c:City):Bool:=dQ c.feasts.length (fun k=>wi ((c.feasts.getD k 0).tmod 100) 1 31)&&(decide (c.feasts.length≤60)&&decide (c.shut.length≤200)&&aw c.order r.orders.length&&aw c.currency r.currencies.length)&&
 (rising c.rest 0 6&&rising c.feasts 101 1231&&rising c.shut 0 100000)
theorem axn (r:Realm)(c:City)(h1:c.rest.length≤4294967296)(h2:c.feasts.length≤4294967296)(h3:c.shut.length≤4294967296):ak T aaO [aZ r,fe c] (.bool (mu r c)):=by
 refine .of_tree rfl ahQ azT ?_;simp[T5];refine fo c.feasts.length (fun k=>wi ((c.feasts.getD k 0).tmod 100) 1 31) (fun k=>[.bool false,.int k]) (fun _=>[]) ?_ (fun k hk ho=>?_) (fun k hk ho hb=>?_) (fun hj=>?_)
 ·simp
 ·have hw:=bl hk h2;simp[wi,hk] at ho;have g1:¬(c.feasts[k].tmod 100<1):=by omega
  have g2:¬(31<c.feasts[k].tmod 100):=by omega
  simp[RG,CW,hk,hw,ints,g1,g2]
 ·have hf:mu r c=false:=by simp only[mu,hb,Bool.false_and]
  simp[wi,hk] at ho;simp[RG,CW,hk,ints,hf];by_cases g1:c.feasts[k].tmod 100<1
  ·simp[g1]
  ·have g2:=ho (by omega);simp[g1,g2]
 ·simp[RG,CW];by_cases g1:(c.feasts.length:Int)≤60
  case neg=>
   have hf:mu r c=false:=by
        have eD:decide (c.feasts.length≤60)=false:=decide_eq_false (by omega);simp only[mu,eD,Bool.false_and,Bool.and_false]
   have eD:(60:Int)<c.feasts.length:=by omega
   simp[g1,eD,hf]
  by_cases g2:(c.shut.length:Int)≤200
  case neg=>
   have hf:mu r c=false:=by
        have eD:decide (c.shut.length≤200)=false:=decide_eq_false (by omega);simp only[mu,eD,Bool.false_and,Bool.and_false]
   have mB:(200:Int)<c.shut.length:=by omega
   simp[g1,g2,mB,hf]
  have eD:¬(60:Int)<c.feasts.length:=by omega
  have mB:¬(200:Int)<c.shut.length:=by omega
  have hf:mu r c=(aw c.order r.orders.length&&aw c.currency r.currencies.length&&(rising c.rest 0 6&&rising c.feasts 101 1231&&rising c.shut 0 100000)):=by
   have e1:decide (c.feasts.length≤60)=true:=decide_eq_true (by omega);have e2:decide (c.shut.length≤200)=true:=decide_eq_true (by omega);simp only[mu,hj,e1,e2,Bool.true_and]
  rw[hf];simp[g1,g2,eD,mB];refine⟨_,fa _ _,?_⟩;simp;cases e1:aw c.order r.orders.length<;>simp;refine⟨_,fa _ _,?_⟩;simp;cases e2:aw c.currency r.currencies.length<;>simp;refine⟨_,Dk _ _ _ h1,?_⟩;simp;cases e3:rising c.rest 0 6<;>simp;refine⟨_,Dk _ _ _ h2,?_⟩;simp;cases e4:rising c.feasts 101 1231<;>simp;exact Dk _ _ _ h3
def ns (r:Realm)(c:City):Bool:=(wi c.order 0 (r.orders.length-1)&&wi c.currency 0 (r.currencies.length-1)&&decide (c.feasts.length≤60)&&decide (c.shut.length≤200))&&
 dQ c.feasts.length (fun k=>wi ((c.feasts.getD k 0).tdiv 100) 1 12&&wi ((c.feasts.getD k 0).tmod 100) 1 31)&&(rising c.rest 0 6&&rising c.feasts 0 2000&&rising c.shut 0 100000)
theorem pU (n:Nat)(h:n≤4294967296):IntKind.i64.wrap ((n:Int)-1)=(n:Int)-1:=bD (by omega)
theorem awP (r:Realm)(c:City)(h1:c.rest.length≤4294967296)(h2:c.feasts.length≤4294967296)(h3:c.shut.length≤4294967296)(h4:r.orders.length≤4294967296)(h5:r.currencies.length≤4294967296)(hi:∀y,y∈c.feasts→aX y):
 ak T PH [aZ r,fe c] (.bool (ns r c)):=by
 refine .of_tree rfl ahv azy ?_;simp[TH,pU _ h4,pU _ h5];refine⟨_,cB _ _ _,?_⟩;cases e1:wi c.order 0 (r.orders.length-1)
 case false=>simp[ns,e1]
 simp;refine⟨_,cB _ _ _,?_⟩;cases e2:wi c.currency 0 (r.currencies.length-1)
 case false=>simp[ns,e1,e2]
 by_cases g1:(c.feasts.length:Int)≤60
 case neg=>
  have hf:ns r c=false:=by
   have eD:decide (c.feasts.length≤60)=false:=decide_eq_false (by omega);simp only[ns,eD,Bool.false_and,Bool.and_false]
  have eD:(60:Int)<c.feasts.length:=by omega
  simp[eD,hf]
 by_cases g2:(c.shut.length:Int)≤200
 case neg=>
  have hf:ns r c=false:=by
   have eD:decide (c.shut.length≤200)=false:=decide_eq_false (by omega);simp only[ns,eD,Bool.false_and,Bool.and_false]
  have mB:(200:Int)<c.shut.length:=by omega
  simp[mB,hf]
 have eD:¬(60:Int)<c.feasts.length:=by omega
 have mB:¬(200:Int)<c.shut.length:=by omega
 have hf:ns r c=(dQ c.feasts.length (fun k=>wi ((c.feasts.getD k 0).tdiv 100) 1 12&&wi ((c.feasts.getD k 0).tmod 100) 1 31)&&(rising c.rest 0 6&&rising c.feasts 0 2000&&rising c.shut 0 100000)):=by
  have e3:decide (c.feasts.length≤60)=true:=decide_eq_true (by omega);have e4:decide (c.shut.length≤200)=true:=decide_eq_true (by omega);simp only[ns,e1,e2,e3,e4,Bool.true_and]
 rw[hf];simp[eD,mB];refine fo c.feasts.length (fun k=>wi ((c.feasts.getD k 0).tdiv 100) 1 12&&wi ((c.feasts.getD k 0).tmod 100) 1 31) (fun k=>[.bool false,.int k]) (fun _=>[]) ?_ (fun k hk ho=>?_) (fun k hk ho hb=>?_) (fun hj=>?_)
 ·simp
 ·have hw:=bl hk h2;have hI:=hi _ (List.getElem_mem hk);have hq:IntKind.i64.wrap (c.feasts[k].tdiv 100)=c.feasts[k].tdiv 100:=afE hI;simp[hk] at ho;simp[Rn,CD,hk,ints,hq];refine⟨_,cB _ _ _,?_⟩;simp[ho.1,hk];refine⟨_,cB _ _ _,?_⟩;simp[ho.2,hk,hw]
 ·have hI:=hi _ (List.getElem_mem hk);have hq:IntKind.i64.wrap (c.feasts[k].tdiv 100)=c.feasts[k].tdiv 100:=afE hI;simp[hk] at ho;simp only[List.getD_eq_getElem?_getD] at hb;rw[hb];simp[Rn,CD,hk,ints,hq];refine⟨_,cB _ _ _,?_⟩;cases e3:wi (c.feasts[k].tdiv 100) 1 12 with
  |false=>simp
  |true=>
   have:=ho e3;simp[hk];refine⟨_,cB _ _ _,?_⟩;simp[this]
 ·simp only[List.getD_eq_getElem?_getD] at hj;rw[hj];simp[Rn,CD];refine⟨_,Q8 _ _ _ h1,?_⟩;simp;cases e3:rising c.rest 0 6<;>simp;refine⟨_,Q8 _ _ _ h2,?_⟩;simp;cases e4:rising c.feasts 0 2000<;>simp;exact Q8 _ _ _ h3
theorem alJ (r:Realm)(c:City):ns r c=mu r c:=by
 rw[Bool.eq_iff_iff];have bA:∀(i:Int) (n:Nat),(wi i 0 (n-1)=true)↔(aw i n=true):=by intro i n;simp[wi,aw];omega
 simp only[ns,mu,Bool.and_eq_true,decide_eq_true_eq,bA,rising,vH,m6];constructor
 ·rintro⟨⟨⟨⟨⟨a1,a2⟩,a3⟩,a4⟩,a5⟩,⟨a6,a7⟩,a8⟩;refine⟨⟨fun k hk=>(a5 k hk).2,⟨⟨⟨a3,a4⟩,a1⟩,a2⟩⟩,⟨a6,fun k hk=>?_⟩,a8⟩;have h1:=a5 k hk;have h2:=a7 k hk;simp[wi,afm,Su] at h1 h2 ⊢;split at h1<;>omega
 ·rintro⟨⟨a5,⟨⟨⟨a3,a4⟩,a1⟩,a2⟩⟩,⟨a6,a7⟩,a8⟩;refine⟨⟨⟨⟨⟨a1,a2⟩,a3⟩,a4⟩,fun k hk=>?_⟩,⟨a6,fun k hk=>?_⟩,a8⟩
  ·have h1:=a5 k hk;have h2:=a7 k hk;simp[wi,afm,Su] at h1 h2 ⊢;split at h1<;>(try split)<;>omega
  ·have h2:=a7 k hk;simp[wi] at h2 ⊢;omega
end Rm
namespace Rm
open Go Go.Proofs Cx
theorem yk {α β:Type}(f:α→β){l:List α}{k:Nat}(h:k<l.length):(l.take (k+1)).map f=(l.take k).map f++[f l[k]]:=by
 rw[List.take_succ_eq_append_getElem h,List.map_append];rfl
theorem lV (i:Int)(n:Nat):aw i n=wi i 0 ((n:Int)-1):=by
 rw[Bool.eq_iff_iff];simp[wi,aw];omega
def vL (o:Order):List Int:=o.choices.map (·.ask)
def yM (o:Order):List Int:=o.rules.map (·.ask)
def nZ (o:Order):Bool:=dQ o.choices.length (fun k=>aw (o.choices.getD k default).by_ 5)&&(rising (vL o) 0 21&&rising (yM o) 0 21)
theorem axr (o:Order)(h1:o.choices.length≤100000)(h2:o.rules.length≤100000):ak T aaU [ix o] (.bool (nZ o)):=by
 refine .of_tree rfl ahW azZ ?_;simp[Ub];refine fo o.choices.length (fun k=>aw (o.choices.getD k default).by_ 5) (fun k=>[.bool false,.none,.int k]) (fun k=>[ints ((o.choices.take k).map (·.ask))]) ?_ (fun k hk ho=>?_) (fun k hk ho hb=>?_) (fun hj=>?_)
 ·simp[ints]
 ·have hw:=bl hk (by omega);have hl:(o.choices.take k).length=k:=by rw[List.length_take];omega
  simp[hk] at ho;rw[yk _ hk];simp[RJ,CZ,hk,hw,ints,hl];refine⟨by omega,_,fa _ _,?_⟩;simp[ho,hw]
 ·have hf:nZ o=false:=by simp only[nZ,hb,Bool.false_and]
  have hl:(o.choices.take k).length=k:=by rw[List.length_take];omega
  simp[hk] at ho;simp[RJ,CZ,hk,ints,hl,hf];refine⟨by omega,_,fa _ _,?_⟩;simp[ho]
 ·have hf:nZ o=(rising (vL o) 0 21&&rising (yM o) 0 21):=by simp only[nZ,hj,Bool.true_and]
  rw[hf];simp[RJ,CZ];refine aO.forRounds o.rules.length (fun k=>[.none,.int k]) (fun k=>[ints ((o.rules.take k).map (·.ask))]) ?_ (fun k hk=>?_) ?_
  ·simp[ints]
  ·have hw:=bl hk (by omega);have hl:(o.rules.take k).length=k:=by rw[List.length_take];omega
   rw[yk _ hk];simp[aet,KQ,hk,hw,ints,hl];omega
  ·simp[aet,KQ];refine⟨_,Dk (vL o) _ _ (by simp[vL];omega),?_⟩;simp;cases e1:rising (vL o) 0 21<;>simp;exact Dk (yM o) _ _ (by simp[yM];omega)
def uL (o:Order)(k:Nat):Bool:=wi (o.choices.getD k default).ask 0 21&&wi (o.choices.getD k default).by_ 0 4&&(k==0||decide ((o.choices.getD (k-1) default).ask<(o.choices.getD k default).ask))
def xA (o:Order)(k:Nat):Bool:=wi (o.rules.getD k default).ask 0 21&&(k==0||decide ((o.rules.getD (k-1) default).ask<(o.rules.getD k default).ask))
theorem awc (o:Order):(dQ o.choices.length (uL o)&&dQ o.rules.length (xA o))=nZ o:=by
 rw[Bool.eq_iff_iff];simp only[nZ,Bool.and_eq_true,rising,vH,vL,yM,List.length_map];have g1:∀k,k<o.choices.length→(m6 (o.choices.map (·.ask)) 0 21 k=true↔wi (o.choices.getD k default).ask 0 21=true∧(k=0∨(o.choices.getD (k-1) default).ask<(o.choices.getD k default).ask)):=by
  intro k hk;have bt:k-1<o.choices.length:=by omega
  simp[m6,hk,bt]
 have g2:∀k,k<o.rules.length→(m6 (o.rules.map (·.ask)) 0 21 k=true↔wi (o.rules.getD k default).ask 0 21=true∧(k=0∨(o.rules.getD (k-1) default).ask<(o.rules.getD k default).ask)):=by
  intro k hk;have bt:k-1<o.rules.length:=by omega
  simp[m6,hk,bt]
 constructor
 ·rintro⟨a,b⟩;refine⟨fun k hk=>?_,fun k hk=>(g1 k hk).2 ?_,fun k hk=>(g2 k hk).2 ?_⟩
  ·have:=a k hk;simp[uL,wi,aw] at this ⊢;omega
  ·have:=a k hk;simp[uL] at this ⊢;exact⟨this.1.1,this.2⟩
  ·have:=b k hk;simp[xA] at this ⊢;exact this
 ·rintro⟨c,a,b⟩;refine⟨fun k hk=>?_,fun k hk=>?_⟩
  ·have h1:=(g1 k hk).1 (a k hk);have h2:=c k hk;simp[uL,wi,aw] at h1 h2 ⊢;omega
  ·have h1:=(g2 k hk).1 (b k hk);simp[xA] at h1 ⊢;exact h1
theorem awQ (o:Order)(h1:o.choices.length≤100000)(h2:o.rules.length≤100000):ak T PJ [ix o] (.bool (nZ o)):=by
 rw[←awc];refine .of_tree rfl ahw azz ?_;simp[TI];refine fo o.choices.length (uL o) (fun k=>[.bool false,.int k]) (fun _=>[]) ?_ (fun k hk ho=>?_) (fun k hk ho hb=>?_) (fun hj=>?_)
 ·simp
 ·have hw:=bl hk (by omega);simp[uL,hk] at ho;simp[Ro,CE,hk];refine⟨_,cB _ _ _,?_⟩;simp[ho.1.1,hk];refine⟨_,cB _ _ _,?_⟩;by_cases gd:0<k
  ·have bt:k-1<o.choices.length:=by omega
   have cV:IntKind.i64.wrap ((k:Int)-1)=((k-1:Nat):Int):=by rw[sT (by omega)];omega
   have h3:¬o.choices[k].ask≤o.choices[k-1].ask:=by
        rcases ho.2 with h3|h3
        ·omega
        ·simp[bt] at h3;omega
   simp[ho.1.2,hk,hw,cV,h3,gd,bt]
  ·simp[ho.1.2,hk,hw,gd];omega
 ·rw[hb];simp[uL,hk] at ho;simp[Ro,CE,hk];refine⟨_,cB _ _ _,?_⟩;cases e1:wi o.choices[k].ask 0 21 with
  |false=>simp
  |true=>
   simp[hk];refine⟨_,cB _ _ _,?_⟩;cases e2:wi o.choices[k].by_ 0 4 with
   |false=>simp
   |true=>
    have h3:=ho e1 e2;have gd:0<k:=by omega
    have bt:k-1<o.choices.length:=by omega
    have cV:IntKind.i64.wrap ((k:Int)-1)=((k-1:Nat):Int):=by rw[sT (by omega)];omega
    have dx:=h3.2;simp[bt] at dx;simp[hk,cV,dx,gd,bt]
 ·rw[hj];simp[Ro,CE];refine fo o.rules.length (xA o) (fun k=>[.bool false,.int k]) (fun _=>[]) ?_ (fun k hk ho=>?_) (fun k hk ho hb=>?_) (fun hj=>?_)
  ·simp
  ·have hw:=bl hk (by omega);simp[xA,hk] at ho;simp[Rp,CF,hk];refine⟨_,cB _ _ _,?_⟩;by_cases gd:0<k
   ·have bt:k-1<o.rules.length:=by omega
    have cV:IntKind.i64.wrap ((k:Int)-1)=((k-1:Nat):Int):=by rw[sT (by omega)];omega
    have h3:¬o.rules[k].ask≤o.rules[k-1].ask:=by
       rcases ho.2 with h3|h3
       ·omega
       ·simp[bt] at h3;omega
    simp[ho.1,hk,hw,cV,h3,gd,bt]
   ·simp[ho.1,hk,hw,gd];omega
  ·rw[hb];simp[xA,hk] at ho;simp[Rp,CF,hk];refine⟨_,cB _ _ _,?_⟩;cases e1:wi o.rules[k].ask 0 21 with
   |false=>simp
   |true=>
    have h3:=ho e1;have gd:0<k:=by omega
    have bt:k-1<o.rules.length:=by omega
    have cV:IntKind.i64.wrap ((k:Int)-1)=((k-1:Nat):Int):=by rw[sT (by omega)];omega
    have dx:=h3.2;simp[bt] at dx;simp[hk,cV,dx,gd,bt]
  ·rw[hj];simp[Rp,CF]
def eH (r:Realm):List ByteArray:=r.cities.map (·.name)
def eI (r:Realm):List ByteArray:=r.firms.map (·.name)
def dZ (r:Realm):List ByteArray:=r.orders.map (·.name)
theorem axq (r:Realm)(h1:r.cities.length≤100000)(h2:r.firms.length≤100000)(h3:r.orders.length≤100000):ak T aaT [aZ r] (.tup [strs (eH r),strs (eI r),strs (dZ r)]):=by
 refine .of_tree rfl ahV azY ?_;simp[Ua];refine aO.forRounds r.cities.length (fun k=>[.none,.int k]) (fun k=>[strs ((r.cities.take k).map (·.name))]) ?_ (fun k hk=>?_) ?_
 ·simp[strs]
 ·have hw:=bl hk (by omega);have hl:(r.cities.take k).length=k:=by rw[List.length_take];omega
  rw[yk _ hk];simp[aeq,KN,hk,hw,strs,hl];omega
 ·simp[aeq,KN];refine aO.forRounds r.firms.length (fun k=>[.none,.int k]) (fun k=>[strs ((r.firms.take k).map (·.name))]) ?_ (fun k hk=>?_) ?_
  ·simp[strs]
  ·have hw:=bl hk (by omega);have hl:(r.firms.take k).length=k:=by rw[List.length_take];omega
   rw[yk _ hk];simp[aer,KO,hk,hw,strs,hl];omega
  ·simp[aer,KO];refine aO.forRounds r.orders.length (fun k=>[.none,.int k]) (fun k=>[strs ((r.orders.take k).map (·.name))]) ?_ (fun k hk=>?_) ?_
   ·simp[strs]
   ·have hw:=bl hk (by omega);have hl:(r.orders.take k).length=k:=by rw[List.length_take];omega
    rw[yk _ hk];simp[aes,KP,hk,hw,strs,hl];omega
   ·simp[aes,KP,eH,eI,dZ]
end Rm
