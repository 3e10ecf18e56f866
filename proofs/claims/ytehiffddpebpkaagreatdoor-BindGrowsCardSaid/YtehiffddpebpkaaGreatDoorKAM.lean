/-
  The functions of this seat, compiled (2).
-/
import Derived.Test.YtehiffddpebpkaaGreatDoorKAK
import Derived.KernelRfl
set_option linter.unusedVariables false
set_option maxRecDepth 100000
namespace Rm
open Go Go.Proofs Cx
noncomputable def cf_r09_RightCity:Option PC:=av {ctx with fr:=[4,5],nh:=[]} Tryz.f194 ((aa aq 194).getD default) [2,3]
noncomputable def iV:PC:=hpc cf_r09_RightCity
noncomputable def nS:Nat→PC:=hbd cf_r09_RightCity
def DN (b:Nat→PC):PC:=.block 0 [4,5,36,37,38,39,40] [] (.loop [4,5] [] (b 0))
def dk (b:Nat→PC):PT:=
 (.ite (plt r5 (.llen (pc o3 4)))
 (.blockS ⟨[],[]⟩ 1 [4,43,44,45,46,47,48,49,50,51,60] []
 (.chk (pix (pc o3 4) r5)
 (.chk Sy
 (.call ⟨[],[]⟩ [] 49 68 [(.ai .quo .i64 (pn (pc o3 4) r5) (pi 100)),(pi 1),(pi 12)]
 (.chk (.nt (.an (.an (.nt (.nt r49)) pT) (.nt (pix (pc o3 4) r5))))
 (.chk (.nt (.an (.an (.nt (.nt r49)) pT) (.nt Sy)))
 (.call ⟨[(51,(.nt r49))],[]⟩ [(51,false)] 58 68 [(.ai .rem .i64 (pn (pc o3 4) r5) (pi 100)),(pi 1),(pi 31)]
 (.ite (.pick r51 pT (.nt r58))
 (.ret pF)
 (.next ⟨[],[]⟩))))))))
 (.next ⟨[(5,DP)],[]⟩))
 (.exit 0 ⟨[(36,r5),(37,pN),(38,(pc o3 4)),(39,(.llen (pc o3 4))),(40,(plt r5 (.llen (pc o3 4))))],[]⟩))
def nv (b:Nat→PC):PT:=
 (.call ⟨[(4,pF)],[(3,(.mk [r1])),(2,(.mk [r0]))]⟩ [] 12 68 [(pc (.mk [r1]) 1),(pi 0),(aQ (.llen HV) (pi 1))]
 (.call ⟨[(14,(.nt r12))],[]⟩ [(14,false)] 21 68 [(pc o3 2),(pi 0),(aQ (.llen (pc o2 0)) (pi 1))]
 (.ite (.pick (.pick (.pick r14 pT (.nt r21)) pT (pgt (.llen (pc o3 4)) (pi 60))) pT (pgt (.llen (pc o3 5)) (pi 200)))
 (.ret pF)
 (.brk ⟨[(5,(pi 0))],[]⟩
(DN b)
 (.call ⟨[],[]⟩ [] 63 229 [(pc o3 3),(pi 0),(pi 6)]
 (.call ⟨[(64,r63)],[]⟩ [(64,true)] 67 229 [(pc o3 4),(pi 0),(pi 2000)]
 (.call ⟨[(69,(.pick r64 r67 pF))],[]⟩ [(69,true)] 72 229 [(pc o3 5),(pi 0),(pi 100000)]
 (.ret (.pick r69 r72 pF)))))))))
def H0 (b:Nat→PC):PT×List (Shp×PT):=(nv b,[(.lp 0 [4,5,36,37,38,39,40] [] [4,5] [],dk b)])
theorem nQ:cf_r09_RightCity.map told=some (H0 (aA cf_r09_RightCity)):=by kernel_rfl
theorem Ce:tree iV=nv nS:=aj nQ
theorem gd:round 0 [4,5,36,37,38,39,40] [] [4,5] [] (nS 0)=dk nS:=aw nQ 0 fun _=>rfl
theorem B9:cf_r09_RightCity=some iV:=ah nQ
noncomputable def cf_r09_Within:Option PC:=av {ctx with fr:=[6],nh:=[]} Tryz.f68 ((aa aq 68).getD default) []
noncomputable def oe:PC:=hpc cf_r09_Within
def uN:PT:=
 (.ret (.pick (ple r1 r0) (ple r0 r2) pF))
def Rh (b:Nat→PC):PT×List (Shp×PT):=(uN,[])
theorem C2:cf_r09_Within.map told=some (Rh (aA cf_r09_Within)):=by kernel_rfl
theorem H3:tree oe=uN:=aj C2
theorem Iy:cf_r09_Within=some oe:=ah C2
noncomputable def cf_r09_Rising:Option PC:=av {ctx with fr:=[6,7],nh:=[]} Tryz.f229 ((aa aq 229).getD default) []
noncomputable def oF:PC:=hpc cf_r09_Rising
noncomputable def va:Nat→PC:=hbd cf_r09_Rising
def Mt (b:Nat→PC):PC:=.block 0 [6,7,8,9,10,11] [] (.loop [6,7] [] (b 0))
def fK (b:Nat→PC):PT:=
 (.ite (plt r7 (.llen r0))
 (.blockS ⟨[],[]⟩ 1 [6,14,15,16,17,18,19,20,21,22,23,24,35] []
 (.chk (pix r0 r7)
 (.call ⟨[],[]⟩ [] 20 68 [(pn r0 r7),r1,r2]
 (.ite (.nt r20)
 (.ret pF)
 (.chk (.nt (.an (.an (pgt r7 (pi 0)) pT) (.nt (pix r0 (aQ r7 (pi 1))))))
 (.chk (.nt (.an (.an (pgt r7 (pi 0)) pT) (.nt (pix r0 r7))))
 (.ite (.pick (pgt r7 (pi 0)) (pge (pn r0 (aQ r7 (pi 1))) (pn r0 r7)) pF)
 (.ret pF)
 (.next ⟨[],[]⟩)))))))
 (.next ⟨[(7,(aF r7 (pi 1)))],[]⟩))
 (.exit 0 ⟨[(8,r7),(9,r0),(10,(.llen r0)),(11,(plt r7 (.llen r0)))],[]⟩))
def vx (b:Nat→PC):PT:=
 (.brk ⟨[(7,(pi 0)),(6,pF)],[]⟩
(Mt b)
 (.ret pT))
def Sj (b:Nat→PC):PT×List (Shp×PT):=(vx b,[(.lp 0 [6,7,8,9,10,11] [] [6,7] [],fK b)])
theorem vq:cf_r09_Rising.map told=some (Sj (aA cf_r09_Rising)):=by kernel_rfl
theorem JX:tree oF=vx va:=aj vq
theorem kU:round 0 [6,7,8,9,10,11] [] [6,7] [] (va 0)=fK va:=aw vq 0 fun _=>rfl
theorem Io:cf_r09_Rising=some oF:=ah vq
noncomputable def cf_r09_firms:Option PC:=av {ctx with fr:=[2,3,5,6],nh:=[]} Tryz.f127 ((aa aq 127).getD default) [1,4,44]
noncomputable def ri:PC:=hpc cf_r09_firms
noncomputable def lK:Nat→PC:=hbd cf_r09_firms
def Pp (b:Nat→PC):PC:=.block 0 [2,3,11,12,13,14,15] [] (.loop [2,3] [] (b 0))
def P0 (b:Nat→PC):PC:=.block 2 [2,4,5,30,31,32,33,34] [4] (.loop [2,4,5] [4] (b 1))
def gI (b:Nat→PC):PT:=
 (.ite (plt r3 CP)
 (.blockS ⟨[],[]⟩ 1 [2,18,19,20,21,22,23,24,25] []
 (.chk (pix (pc o1 2) r3)
 (.call ⟨[],[]⟩ [] 24 68 [(pc (pn (pc o1 2) r3) 0),(pi 0),(pi 9)]
 (.ite (.nt r24)
 (.ret (pi 1))
 (.next ⟨[],[]⟩))))
 (.next ⟨[(3,Lf)],[]⟩))
 (.exit 0 ⟨[(11,r3),(12,pN),(13,(pc o1 2)),(14,CP),(15,(plt r3 CP))],[]⟩))
def gY (b:Nat→PC):PT:=
 (.ite (plt r5 vN)
 (.blockS ⟨[],[]⟩ 3 [2,4,6,38,39,40,41,42,43,44,45,46,47,48,49,50,52,53,54,55,56,57,58,59,60,61,62,63,64,77] [44,4]
 (.chk (pix (pc o1 3) r5)
 (.chk (ple (.llen YG) aZ)
 (.call ⟨[(4,pN)],[(4,YG)]⟩ [] 48 193 [YG,r5]
 (.ite (pne r48 (pi 0))
 (.ret r48)
 (.chk (pix (pc o1 3) r5)
 (.call ⟨[],[]⟩ [] 62 68 [(pc (pn (pc o1 3) r5) 1),(pi 0),(aQ sG (pi 1))]
 (.chk (.nt (.an (.an (.nt (.nt r62)) pT) (.nt (pix (pc o1 3) r5))))
 (.call ⟨[(64,(.nt r62))],[]⟩ [(64,false)] 75 68 [(pc (pn (pc o1 3) r5) 2),(pi 0),(aQ CP (pi 1))]
 (.ite (.pick r64 pT (.nt r75))
 (.ret (pi 1))
 (.next ⟨[],[]⟩))))))))))
 (.next ⟨[(5,DP)],[]⟩))
 (.exit 2 ⟨[(30,r5),(31,pN),(32,(pc o1 3)),(33,vN),(34,(plt r5 vN))],[]⟩))
def xu (b:Nat→PC):PT:=
 (.ite (pgt Ad (pi 20))
 (.ret (pi 6))
 (.brk ⟨[(3,(pi 0)),(2,(pi 0))],[(1,(.mk [r0]))]⟩
(Pp b)
 (.ite (pgt vN (pi 200))
 (.ret (pi 6))
 (.brk ⟨[(5,(pi 0)),(4,pN)],[(4,pL)]⟩
(P0 b)
 (.ret (pi 0))))))
def T9 (b:Nat→PC):PT×List (Shp×PT):=(xu b,[(.lp 0 [2,3,11,12,13,14,15] [] [2,3] [],gI b),(.lp 2 [2,4,5,30,31,32,33,34] [4] [2,4,5] [4],gY b)])
theorem ry:cf_r09_firms.map told=some (T9 (aA cf_r09_firms)):=by kernel_rfl
theorem ME:tree ri=xu lK:=aj ry
theorem lO:round 0 [2,3,11,12,13,14,15] [] [2,3] [] (lK 0)=gI lK:=aw ry 0 fun _=>rfl
theorem ml:round 2 [2,4,5,30,31,32,33,34] [4] [2,4,5] [4] (lK 1)=gY lK:=aw ry 1 fun _=>rfl
theorem Lv:cf_r09_firms=some ri:=ah ry
noncomputable def cf_r09_orders:Option PC:=av {ctx with fr:=[2,4,5],nh:=[]} Tryz.f128 ((aa aq 128).getD default) [1,3,24]
noncomputable def ou:PC:=hpc cf_r09_orders
noncomputable def uT:Nat→PC:=hbd cf_r09_orders
def Ma (b:Nat→PC):PC:=.block 0 [2,3,4,10,11,12,13,14] [3] (.loop [2,3,4] [3] (b 0))
def fS (b:Nat→PC):PT:=
 (.ite (plt r4 yF)
 (.blockS ⟨[],[]⟩ 1 [2,3,5,18,19,20,21,22,23,24,25,26,27,28,29,30,32,33,34,35,36,37,38] [24,3]
 (.chk (pix (pc o1 4) r4)
 (.chk (ple (.llen (.app o3 (.lst [(pc O2 0)]))) aZ)
 (.call ⟨[(3,pN)],[(3,(.app o3 (.lst [(pc O2 0)])))]⟩ [] 28 193 [(.app o3 (.lst [(pc O2 0)])),r4]
 (.ite (pne r28 (pi 0))
 (.ret r28)
 (.chk (pix (pc o1 4) r4)
 (.call ⟨[],[]⟩ [] 37 195 [O2]
 (.ite (.nt r37)
 (.ret (pi 1))
 (.next ⟨[],[]⟩))))))))
 (.next ⟨[(4,(aF r4 (pi 1)))],[]⟩))
 (.exit 0 ⟨[(10,r4),(11,pN),(12,(pc o1 4)),(13,yF),(14,(plt r4 yF))],[]⟩))
def uO (b:Nat→PC):PT:=
 (.ite (pgt (.llen HV) (pi 20))
 (.ret (pi 6))
 (.brk ⟨[(4,(pi 0)),(3,pN),(2,(pi 0))],[(3,pL),(1,(.mk [r0]))]⟩
(Ma b)
 (.ret (pi 0))))
def Sg (b:Nat→PC):PT×List (Shp×PT):=(uO b,[(.lp 0 [2,3,4,10,11,12,13,14] [3] [2,3,4] [3],fS b)])
theorem uI:cf_r09_orders.map told=some (Sg (aA cf_r09_orders)):=by kernel_rfl
theorem I1:tree ou=uO uT:=aj uI
theorem kT:round 0 [2,3,4,10,11,12,13,14] [3] [2,3,4] [3] (uT 0)=fS uT:=aw uI 0 fun _=>rfl
theorem Jf:cf_r09_orders=some ou:=ah uI
noncomputable def cf_r09_RightOrder:Option PC:=av {ctx with fr:=[2,3,4],nh:=[]} Tryz.f195 ((aa aq 195).getD default) [1]
noncomputable def gC:PC:=hpc cf_r09_RightOrder
noncomputable def dJ:Nat→PC:=hbd cf_r09_RightOrder
def BT (b:Nat→PC):PC:=.block 0 [2,3,5,6,7,8,9] [] (.loop [2,3] [] (b 0))
def BV (b:Nat→PC):PC:=.block 2 [2,4,48,49,50,51,52] [] (.loop [2,4] [] (b 1))
def cH (b:Nat→PC):PT:=
 (.ite (plt r3 CP)
 (.blockS ⟨[],[]⟩ 1 [2,12,13,14,15,16,17,18,19,20,29,30,31,32,47] []
 (.chk (pix (pc o1 2) r3)
 (.call ⟨[],[]⟩ [] 18 68 [(pc (pn (pc o1 2) r3) 0),(pi 0),(pi 21)]
 (.chk (.nt (.an (.an (.nt (.nt r18)) pT) (.nt (pix (pc o1 2) r3))))
 (.call ⟨[(20,(.nt r18))],[]⟩ [(20,false)] 27 68 [(pc (pn (pc o1 2) r3) 1),(pi 0),(pi 4)]
 (.ite (.pick r20 pT (.nt r27))
 (.ret pF)
 (.chk (.nt (.an (.an (pgt r3 (pi 0)) pT) (.nt (pix (pc o1 2) (aQ r3 (pi 1))))))
 (.chk (.nt (.an (.an (pgt r3 (pi 0)) pT) (.nt (pix (pc o1 2) r3))))
 (.ite (.pick (pgt r3 (pi 0)) (pge (pc (pn (pc o1 2) (aQ r3 (pi 1))) 0) (pc (pn (pc o1 2) r3) 0)) pF)
 (.ret pF)
 (.next ⟨[],[]⟩)))))))))
 (.next ⟨[(3,Lf)],[]⟩))
 (.exit 0 ⟨[(5,r3),(6,pN),(7,(pc o1 2)),(8,CP),(9,(plt r3 CP))],[]⟩))
def cG (b:Nat→PC):PT:=
 (.ite (plt r4 vN)
 (.blockS ⟨[],[]⟩ 3 [2,55,56,57,58,59,60,61,62,63,64,65,80] []
 (.chk (pix (pc o1 3) r4)
 (.call ⟨[],[]⟩ [] 61 68 [(pc (pn (pc o1 3) r4) 0),(pi 0),(pi 21)]
 (.ite (.nt r61)
 (.ret pF)
 (.chk (.nt (.an (.an (pgt r4 (pi 0)) pT) (.nt (pix (pc o1 3) (aQ r4 (pi 1))))))
 (.chk (.nt (.an (.an (pgt r4 (pi 0)) pT) (.nt (pix (pc o1 3) r4))))
 (.ite (.pick (pgt r4 (pi 0)) (pge (pc (pn (pc o1 3) (aQ r4 (pi 1))) 0) (pc (pn (pc o1 3) r4) 0)) pF)
 (.ret pF)
 (.next ⟨[],[]⟩)))))))
 (.next ⟨[(4,(aF r4 (pi 1)))],[]⟩))
 (.exit 2 ⟨[(48,r4),(49,pN),(50,(pc o1 3)),(51,vN),(52,(plt r4 vN))],[]⟩))
def mc (b:Nat→PC):PT:=
 (.brk ⟨[(3,(pi 0)),(2,pF)],[(1,(.mk [r0]))]⟩
(BT b)
 (.brk ⟨[(4,(pi 0))],[]⟩
(BV b)
 (.ret pT)))
def GC (b:Nat→PC):PT×List (Shp×PT):=(mc b,[(.lp 0 [2,3,5,6,7,8,9] [] [2,3] [],cH b),(.lp 2 [2,4,48,49,50,51,52] [] [2,4] [],cG b)])
theorem gu:cf_r09_RightOrder.map told=some (GC (aA cf_r09_RightOrder)):=by kernel_rfl
theorem An:tree gC=mc dJ:=aj gu
theorem eV:round 0 [2,3,5,6,7,8,9] [] [2,3] [] (dJ 0)=cH dJ:=aw gu 0 fun _=>rfl
theorem ff:round 2 [2,4,48,49,50,51,52] [] [2,4] [] (dJ 1)=cG dJ:=aw gu 1 fun _=>rfl
theorem zO:cf_r09_RightOrder=some gC:=ah gu
noncomputable def cf_r09_usances:Option PC:=av {ctx with fr:=[2,3,5],nh:=[]} Tryz.f129 ((aa aq 129).getD default) [1,4]
noncomputable def ly:PC:=hpc cf_r09_usances
noncomputable def gM:Nat→PC:=hbd cf_r09_usances
def HS (b:Nat→PC):PC:=.block 2 [2,5,46,47,48] [] (.loop [2,5] [] (b 0))
def Jg (b:Nat→PC):PC:=.block 0 [2,3,10,11,12,13,14] [] (.loop [2,3] [] (b 1))
def dg (b:Nat→PC):PT:=
 (.ite (plt r5 r3)
 (.chk (pix (pc o1 5) r5)
 (.chk (.nt (.an (.an (peq (pc (pn (pc o1 5) r5) 0) (pc o4 0)) pT) (.nt (pix (pc o1 5) r5))))
 (.ite (.pick (peq (pc (pn (pc o1 5) r5) 0) (pc o4 0)) (peq (pc (pn (pc o1 5) r5) 1) (pc o4 1)) pF)
 (.ret (pi 5))
 (.next ⟨[(5,DP)],[]⟩))))
 (.exit 2 ⟨[(46,r5),(47,r3),(48,(plt r5 r3))],[]⟩))
def eJ (b:Nat→PC):PT:=
 (.ite (plt r3 JT)
 (.blockS ⟨[(14,(plt r3 JT)),(13,JT),(12,(pc o1 5)),(11,pN),(10,r3)],[]⟩ 1 [2,4,5,17,18,19,20,21,22,23,24,25,26,27,28,29,30,39,40,45,46,47,48] [4]
 (.chk (pix (pc o1 5) r3)
 (.call ⟨[],[(4,(.setc z3 0 (pn (pc o1 5) r3)))]⟩ [] 28 68 [(pc (.setc z3 0 (pn (pc o1 5) r3)) 0),(pi 0),(aQ sG (pi 1))]
 (.call ⟨[(30,(.nt r28))],[]⟩ [(30,false)] 37 68 [(pc o4 1),(pi 0),(aQ sG (pi 1))]
 (.call ⟨[(40,(.pick r30 pT (.nt r37)))],[]⟩ [(40,false)] 43 68 [(pc o4 2),(pi 1),(pi 20000)]
 (.ite (.pick r40 pT (.nt r43))
 (.ret (pi 1))
 (.brk ⟨[(5,(pi 0))],[]⟩
(HS b)
 (.next ⟨[],[]⟩)))))))
 (.next ⟨[(3,Lf)],[]⟩))
 (.exit 0 ⟨[(10,r3),(11,pN),(12,(pc o1 5)),(13,JT),(14,(plt r3 JT))],[]⟩))
def sQ (b:Nat→PC):PT:=
 (.ite (pgt (.llen QI) (pi 100))
 (.ret (pi 6))
 (.brk ⟨[(3,(pi 0)),(2,(pi 0))],[(1,(.mk [r0]))]⟩
(Jg b)
 (.ret (pi 0))))
def O7 (b:Nat→PC):PT×List (Shp×PT):=(sQ b,[(.lp 2 [2,5,46,47,48] [] [2,5] [],dg b),(.lp 0 [2,3,10,11,12,13,14] [] [2,3] [],eJ b)])
theorem mH:cf_r09_usances.map told=some (O7 (aA cf_r09_usances)):=by kernel_rfl
theorem Ht:tree ly=sQ gM:=aj mH
theorem ew:round 2 [2,5,46,47,48] [] [2,5] [] (gM 0)=dg gM:=aw mH 0 fun _=>rfl
theorem jm:round 0 [2,3,10,11,12,13,14] [] [2,3] [] (gM 1)=eJ gM:=aw mH 1 fun _=>rfl
theorem Gy:cf_r09_usances=some ly:=ah mH
noncomputable def cf_r09_others:Option PC:=av {ctx with fr:=[2,3,5],nh:=[]} Tryz.f130 ((aa aq 130).getD default) [1,4,6]
noncomputable def oH:PC:=hpc cf_r09_others
noncomputable def jY:Nat→PC:=hbd cf_r09_others
def Mb (b:Nat→PC):PC:=.block 0 [2,3,11,12,13,14,15] [] (.loop [2,3] [] (b 0))
def LQ (b:Nat→PC):PC:=.block 2 [2,5,68,69,70,71,72] [] (.loop [2,5] [] (b 1))
def fN (b:Nat→PC):PT:=
 (.ite (plt r3 (.llen (pc o1 6)))
 (.blockS ⟨[],[]⟩ 1 [2,4,18,19,20,21,22,23,24,25,26,27,28,29,30,31,40,41,47,48,49,50,51,52,57,58,63] [4]
 (.chk (pix (pc o1 6) r3)
 (.call ⟨[],[(4,(.setc z5 0 (pn (pc o1 6) r3)))]⟩ [] 29 68 [(pc (.setc z5 0 (pn (pc o1 6) r3)) 0),(pi 0),(aQ KL (pi 1))]
 (.call ⟨[(31,(.nt r29))],[]⟩ [(31,false)] 38 68 [(pc o4 1),(pi 0),(aQ KL (pi 1))]
 (.ite (.pick (.pick r31 pT (.nt r38)) pT (peq (pc o4 0) (pc o4 1)))
 (.ret (pi 1))
 (.call ⟨[],[]⟩ [] 50 68 [(pc o4 2),(pi 1),(pi 1073741824)]
 (.call ⟨[(52,(.nt r50))],[]⟩ [(52,false)] 55 68 [(pc o4 3),(pi 1),(pi 1073741824)]
 (.call ⟨[(58,(.pick r52 pT (.nt r55)))],[]⟩ [(58,false)] 61 68 [(pc o4 4),(pi 0),(pi 100000)]
 (.ite (.pick r58 pT (.nt r61))
 (.ret (pi 1))
 (.next ⟨[],[]⟩)))))))))
 (.next ⟨[(3,Lf)],[]⟩))
 (.exit 0 ⟨[(11,r3),(12,pN),(13,(pc o1 6)),(14,(.llen (pc o1 6))),(15,(plt r3 (.llen (pc o1 6))))],[]⟩))
def fE (b:Nat→PC):PT:=
 (.ite (plt r5 D3)
 (.blockS ⟨[],[]⟩ 3 [2,6,75,76,77,78,79,80,81,82,83,84,85,86,87,88,95,96,100] [6]
 (.chk (pix (pc o1 7) r5)
 (.call ⟨[],[(6,(.setc z3 0 (pn (pc o1 7) r5)))]⟩ [] 86 68 [(pc (.setc z3 0 (pn (pc o1 7) r5)) 0),(pi 0),(aQ yF (pi 1))]
 (.call ⟨[(88,(.nt r86))],[]⟩ [(88,false)] 93 68 [(pc o6 1),(pi 0),(pc o6 2)]
 (.ite (.pick (.pick r88 pT (.nt r93)) pT (pgt (pc o6 2) (pi 100000)))
 (.ret (pi 1))
 (.next ⟨[],[]⟩)))))
 (.next ⟨[(5,DP)],[]⟩))
 (.exit 2 ⟨[(68,r5),(69,pN),(70,(pc o1 7)),(71,D3),(72,(plt r5 D3))],[]⟩))
def vp (b:Nat→PC):PT:=
 (.ite (pgt (.llen (pc (.mk [r0]) 6)) (pi 100))
 (.ret (pi 6))
 (.brk ⟨[(3,(pi 0)),(2,(pi 0))],[(1,(.mk [r0]))]⟩
(Mb b)
 (.ite (pgt D3 (pi 20))
 (.ret (pi 6))
 (.brk ⟨[(5,(pi 0))],[]⟩
(LQ b)
 (.ret (pi 0))))))
def Sn (b:Nat→PC):PT×List (Shp×PT):=(vp b,[(.lp 0 [2,3,11,12,13,14,15] [] [2,3] [],fN b),(.lp 2 [2,5,68,69,70,71,72] [] [2,5] [],fE b)])
theorem oq:cf_r09_others.map told=some (Sn (aA cf_r09_others)):=by kernel_rfl
theorem I9:tree oH=vp jY:=aj oq
theorem kF:round 0 [2,3,11,12,13,14,15] [] [2,3] [] (jY 0)=fN jY:=aw oq 0 fun _=>rfl
theorem kH:round 2 [2,5,68,69,70,71,72] [] [2,5] [] (jY 1)=fE jY:=aw oq 1 fun _=>rfl
theorem Ia:cf_r09_others=some oH:=ah oq
noncomputable def cf_l23_BindGrows:Option PC:=av {ctx with fr:=[10,11,13,14,15,16],nh:=[]} Tryz.f5 ((aa aq 5).getD default) [5,7,12]
noncomputable def iv:PC:=hpc cf_l23_BindGrows
noncomputable def eK:Nat→PC:=hbd cf_l23_BindGrows
def D7 (b:Nat→PC):PC:=.block 0 [13,35,36,37,38] [12] (.loop [13] [12] (b 0))
def Dt (b:Nat→PC):PC:=.block 2 [10,16,62,63,64,65] [] (.loop [10,16] [] (b 1))
def fp (b:Nat→PC):PT:=
 (.ite (plt r13 (.llen r4))
 (.blockS ⟨[],[]⟩ 1 [41,42,43,44,45,46] [12]
 (.chk (pix r4 r13)
 (.call ⟨[],[]⟩ [] 46 25 [(mkA 19 o12),(pn r4 r13)]
 (.next ⟨[],[(12,(.setc o12 0 r46))]⟩)))
 (.next ⟨[(13,(aF r13 (pi 1)))],[]⟩))
 (.exit 0 ⟨[(35,r13),(36,r4),(37,(.llen r4)),(38,(plt r13 (.llen r4)))],[]⟩))
def fu (b:Nat→PC):PT:=
 (.ite (plt r16 (.llen r14))
 (.chk zm
 (.chk (.nt (.an (.an (pne (pc m6 3) (pi 2)) pT) (.nt (pix r15 r16))))
 (.chk (.nt (.an (.an (pne (pc m6 3) (pi 2)) pT) (.nt zm)))
 (.chk (.nt (.an ab1 (.nt zm)))
 (.chk (.nt (.an (.an (pne (pc m6 4) (pi 2)) ab1) (.nt (pix r15 r16))))
 (.chk (.nt (.an (.an (pne (pc m6 4) (pi 2)) ab1) (.nt zm)))
 (.chk (.nt (.an (.an (.nt aci) pT) (.nt (pix r15 r16))))
 (.chk (.nt (.an (.an (.nt aci) pT) (.nt zm)))
 (.chk (.nt (.an (.an (.nt ach) pT) (.nt zm)))
 (.chk (.nt (.an (.an (.nt ach) pT) (.nt (pix r15 r16))))
 (.ite (.pick ach pT (.cb .neq (pc m6 6) (pc (pn r15 r16) 6)))
 (.ret pF)
 (.next ⟨[(16,Il)],[]⟩))))))))))))
 (.exit 2 ⟨[(62,r16),(63,r14),(64,(.llen r14)),(65,(plt r16 (.llen r14)))],[]⟩))
def nE (b:Nat→PC):PT:=
 (.call ⟨[(10,pF)],[(7,(.mk [r2])),(5,(.mk [r0]))]⟩ [] 17 15 []
 (.call ⟨[(11,r17)],[]⟩ [] 20 16 [(mkA 8 o5),(mkA 19 o7)]
 (.call ⟨[(22,(.nt r20))],[]⟩ [(22,false)] 25 24 [(mkA 8 o5),(mkA 19 o7)]
 (.ite (.pick (.pick r22 pT (pne r25 (pi 0))) pT (pgt (.llen r4) (pi 60)))
 (.ret r11)
 (.brk ⟨[(13,(pi 0))],[(12,(.setc Ed 0 (mkA 19 o7)))]⟩
(D7 b)
 (.call ⟨[],[]⟩ [] 51 20 [(mkA 8 o5),r1,(mkA 19 o7),r3]
 (.call ⟨[(14,r51)],[]⟩ [] 56 20 [(mkA 8 o5),r1,(mkA 19 o12),r3]
 (.ite (pne (.llen r14) (.llen r56))
 (.ret pF)
 (.brk ⟨[(16,(pi 0)),(15,r56)],[]⟩
(Dt b)
 (.ret r11))))))))))
def HH (b:Nat→PC):PT×List (Shp×PT):=(nE b,[(.lp 0 [13,35,36,37,38] [12] [13] [12],fp b),(.lp 2 [10,16,62,63,64,65] [] [10,16] [],fu b)])
theorem ix:cf_l23_BindGrows.map told=some (HH (aA cf_l23_BindGrows)):=by kernel_rfl
theorem Cd:tree iv=nE eK:=aj ix
theorem nj:round 0 [13,35,36,37,38] [12] [13] [12] (eK 0)=fp eK:=aw ix 0 fun _=>rfl
theorem m5:round 2 [10,16,62,63,64,65] [] [10,16] [] (eK 1)=fu eK:=aw ix 1 fun _=>rfl
theorem BK:cf_l23_BindGrows=some iv:=ah ix
noncomputable def cf_r12_Check:Option PC:=av {ctx with fr:=[4,5,6,7,8,9,10],nh:=[]} Tryz.f24 ((aa aq 24).getD default) [2,3]
noncomputable def rF:PC:=hpc cf_r12_Check
noncomputable def cL:Nat→PC:=hbd cf_r12_Check
def Qz (b:Nat→PC):PC:=.block 0 [5,6,45,46,47,48,49,50,53] [] (.loop [5,6] [] (b 0))
def QF (b:Nat→PC):PC:=.block 2 [5,7,60,61,62,63,64,65,68] [] (.loop [5,7] [] (b 1))
def Oa (b:Nat→PC):PC:=.block 4 [5,9,101,102,103,104,105,106,109] [] (.loop [5,9] [] (b 2))
def Ow (b:Nat→PC):PC:=.block 6 [5,10,116,117,118,119,120,121,124] [] (.loop [5,10] [] (b 3))
def mw (b:Nat→PC):PT:=
 (.ite (.pick (plt r6 KR) FL pF)
 (.blockS ⟨[],[]⟩ 1 [5,56,57,58,59] []
 (.call ⟨[],[]⟩ [] 59 67 [(mkA 8 o2),(mkA 19 o3),r6]
 (.next ⟨[(5,r59)],[]⟩))
 (.next ⟨[(6,(aF r6 (pi 1)))],[]⟩))
 (.exit 0 ⟨[(45,r6),(46,pN),(47,(pc o3 15)),(48,KR),(49,(plt r6 KR)),(50,(plt r6 KR)),(53,(.pick (plt r6 KR) FL pF))],[]⟩))
def gO (b:Nat→PC):PT:=
 (.ite (.pick UF FL pF)
 (.blockS ⟨[],[]⟩ 3 [5,8,71,72,81,82,83,84,85,86,87,88,89,90,91,92] []
 (.ite (pgt r7 (pi 0))
 (.chk (pix (pc o3 16) (aQ r7 (pi 1)))
 (.chk (pix (pc o3 16) r7)
 (.call ⟨[],[]⟩ [] 91 68 [(pc (pn (pc o3 16) r7) 0),(aF (pc (pn (pc o3 16) (aQ r7 (pi 1))) 0) (pi 1)),KR]
 (.iteS ⟨[],[]⟩ (.nt r91) [5] []
 (.next ⟨[(5,(pi 1))],[]⟩)
 (.chk (pix (pc o3 16) r7)
 (.call ⟨[],[]⟩ [] 99 68 [(pc (pn (pc o3 16) r7) 1),(pi 1),Jo]
 (.next ⟨[(5,(.pick (.nt r99) (pi 3) r5))],[]⟩)))
 (.next ⟨[],[]⟩)))))
 (.chk (pix (pc o3 16) r7)
 (.call ⟨[],[]⟩ [] 91 68 [(pc (pn (pc o3 16) r7) 0),(pi 1),KR]
 (.iteS ⟨[],[]⟩ (.nt r91) [5] []
 (.next ⟨[(5,(pi 1))],[]⟩)
 (.chk (pix (pc o3 16) r7)
 (.call ⟨[],[]⟩ [] 99 68 [(pc (pn (pc o3 16) r7) 1),(pi 1),Jo]
 (.next ⟨[(5,(.pick (.nt r99) (pi 3) r5))],[]⟩)))
 (.next ⟨[],[]⟩)))))
 (.next ⟨[(7,(aF r7 (pi 1)))],[]⟩))
 (.exit 2 ⟨[(60,r7),(61,pN),(62,(pc o3 16)),(63,(.llen (pc o3 16))),(64,UF),(65,UF),(68,(.pick UF FL pF))],[]⟩))
def lU (b:Nat→PC):PT:=
 (.ite (.pick UO FL pF)
 (.blockS ⟨[],[]⟩ 5 [5,112,113,114,115] []
 (.call ⟨[],[]⟩ [] 115 69 [(mkA 8 o2),(mkA 19 o3),r9]
 (.next ⟨[(5,akF)],[]⟩))
 (.next ⟨[(9,(aF r9 (pi 1)))],[]⟩))
 (.exit 4 ⟨[(101,r9),(102,pN),(103,(pc o3 17)),(104,(.llen (pc o3 17))),(105,UO),(106,UO),(109,(.pick UO FL pF))],[]⟩))
def mU (b:Nat→PC):PT:=
 (.ite (.pick (plt r10 Ks) FL pF)
 (.blockS ⟨[],[]⟩ 7 [5,127,128,129] []
 (.call ⟨[],[]⟩ [] 129 70 [(mkA 19 o3),r10]
 (.next ⟨[(5,akW)],[]⟩))
 (.next ⟨[(10,(aF r10 (pi 1)))],[]⟩))
 (.exit 6 ⟨[(116,r10),(117,pN),(118,(pc o3 18)),(119,Ks),(120,(plt r10 Ks)),(121,(plt r10 Ks)),(124,(.pick (plt r10 Ks) FL pF))],[]⟩))
def xo (b:Nat→PC):PT:=
 (.ite (.pick (.pick (.pick (pgt (.llen (pc (.mk [r1]) 15)) (pi 40)) pT (pgt (.llen (pc (.mk [r1]) 16)) (pi 4))) pT (pgt (.llen (pc (.mk [r1]) 17)) (pi 100))) pT (pgt (.llen (pc (.mk [r1]) 18)) (pi 200)))
 (.ret (pi 6))
 (.call ⟨[],[(3,(.mk [r1])),(2,(.mk [r0]))]⟩ [] 36 66 [oP,(mkA 15 (.mk [r1]))]
 (.brk ⟨[(6,(pi 0)),(5,(.pick (.pick (peq r36 (pi 0)) (peq KR (pi 0)) pF) (pi 14) r36))],[]⟩
(Qz b)
 (.brk ⟨[(7,(pi 0))],[]⟩
(QF b)
 (.brk ⟨[(9,(pi 0))],[]⟩
(Oa b)
 (.brk ⟨[(10,(pi 0))],[]⟩
(Ow b)
 (.ret r5)))))))
def U6 (b:Nat→PC):PT×List (Shp×PT):=(xo b,[(.lp 0 [5,6,45,46,47,48,49,50,53] [] [5,6] [],mw b),(.lp 2 [5,7,60,61,62,63,64,65,68] [] [5,7] [],gO b),(.lp 4 [5,9,101,102,103,104,105,106,109] [] [5,9] [],lU b),(.lp 6 [5,10,116,117,118,119,120,121,124] [] [5,10] [],mU b)])
theorem ib:cf_r12_Check.map told=some (U6 (aA cf_r12_Check)):=by kernel_rfl
theorem Mh:tree rF=xo cL:=aj ib
theorem uj:round 0 [5,6,45,46,47,48,49,50,53] [] [5,6] [] (cL 0)=mw cL:=aw ib 0 fun _=>rfl
theorem mB:round 2 [5,7,60,61,62,63,64,65,68] [] [5,7] [] (cL 1)=gO cL:=aw ib 1 fun _=>rfl
theorem ue:round 4 [5,9,101,102,103,104,105,106,109] [] [5,9] [] (cL 2)=lU cL:=aw ib 2 fun _=>rfl
theorem uC:round 6 [5,10,116,117,118,119,120,121,124] [] [5,10] [] (cL 3)=mU cL:=aw ib 3 fun _=>rfl
theorem LK:cf_r12_Check=some rF:=ah ib
noncomputable def cf_r10_Check:Option PC:=av {ctx with fr:=[4,5,6,7,8,9],nh:=[]} Tryz.f66 ((aa aq 66).getD default) [2,3]
noncomputable def q9:PC:=hpc cf_r10_Check
def xG:PT:=
 (.call ⟨[],[(3,(.mk [r1])),(2,(.mk [r0]))]⟩ [] 11 60 [oP]
 (.ite (pne r11 (pi 0))
 (.ret r11)
 (.call ⟨[(7,(.llen (pc o2 1))),(6,(.llen (pc o2 3)))],[]⟩ [] 24 138 [(pc o3 0),(.llen (pc o2 3))]
 (.call ⟨[(26,(.nt r24))],[]⟩ [(26,false)] 30 138 [(pc o3 1),r6]
 (.call ⟨[(33,(.pick r26 pT (.nt r30)))],[]⟩ [(33,false)] 37 139 [(pc o3 2),r6]
 (.call ⟨[(40,(.pick r33 pT (.nt r37)))],[]⟩ [(40,false)] 44 139 [(pc o3 11),r6]
 (.call ⟨[(47,(.pick r40 pT (.nt r44)))],[]⟩ [(47,false)] 53 138 [(pc o3 4),(.llen (pc o2 0))]
 (.call ⟨[(56,(.pick r47 pT (.nt r53)))],[]⟩ [(56,false)] 60 138 [(pc o3 9),r7]
 (.call ⟨[(63,(.pick r56 pT (.nt r60)))],[]⟩ [(63,false)] 67 138 [(pc o3 10),r7]
 (.ite (.pick r63 pT (.nt r67))
 (.ret (pi 1))
 (.call ⟨[(78,(.pick (plt (pc o3 3) (pi 1)) pT (pgt (pc o3 3) Jo)))],[]⟩ [(78,false)] 81 140 [(pc o3 8)]
 (.ite (.pick (.pick (.pick r78 pT (.nt r81)) pT (plt (pc o3 12) (pi 0))) pT (pgt (pc o3 12) (pi 1000)))
 (.ret (pi 3))
 (.ite (.pick (plt (pc o3 14) (pi 1)) pT (pgt (pc o3 14) (pi 4)))
 (.ret (pi 15))
 (.call ⟨[(121,(.pick (.pick (plt (pc o3 13) (pi 0)) pT (pgt (pc o3 13) (pi 7))) pT (.pick (peq (pc o3 2) (pi (-1))) (pne (.ai .and .i64 (pc o3 13) (pi 4)) (pi 0)) pF)))],[]⟩ [(121,false)] 123 141 [(mkA 15 o3)]
 (.ite (.pick aiv pT (.nt ahY))
 (.ret (pi 2))
 (.ite (pne (pc o3 5) (pi 4))
 (.ret (pi 0))
 (.call ⟨[],[]⟩ [] 136 142 [(mkA 8 o2),(pc o3 9),(pc o3 10)]
 (.ret (.tget (.r 136) 1)))))))))))))))))))
def Vn (b:Nat→PC):PT×List (Shp×PT):=(xG,[])
theorem Ff:cf_r10_Check.map told=some (Vn (aA cf_r10_Check)):=by kernel_rfl
theorem tr_r10_Check_eq:tree q9=xG:=aj Ff
theorem Mj:cf_r10_Check=some q9:=ah Ff
noncomputable def cf_r10_at:Option PC:=av {ctx with fr:=[4],nh:=[]} Tryz.f138 ((aa aq 138).getD default) []
noncomputable def Bd:PC:=hpc cf_r10_at
def J4:PT:=
 (.ret YO)
def abp (b:Nat→PC):PT×List (Shp×PT):=(J4,[])
theorem TH:cf_r10_at.map told=some (abp (aA cf_r10_at)):=by kernel_rfl
theorem TW:tree Bd=J4:=aj TH
theorem Va:cf_r10_at=some Bd:=ah TH
noncomputable def cf_r10_none:Option PC:=av {ctx with fr:=[4],nh:=[]} Tryz.f139 ((aa aq 139).getD default) []
noncomputable def tI:PC:=hpc cf_r10_none
def ua:PT:=
 (.call ⟨[(7,(peq r0 (pi (-1))))],[]⟩ [(7,false)] 10 138 [r0,r1]
 (.ret (.pick r7 pT r10)))
def Vz (b:Nat→PC):PT×List (Shp×PT):=(ua,[])
theorem Li:cf_r10_none.map told=some (Vz (aA cf_r10_none)):=by kernel_rfl
theorem AW:tree tI=ua:=aj Li
theorem OZ:cf_r10_none=some tI:=ah Li
noncomputable def cf_r04_Valid:Option PC:=av {ctx with fr:=[2],nh:=[]} Tryz.f140 ((aa aq 140).getD default) []
noncomputable def rv:PC:=hpc cf_r04_Valid
def wU:PT:=
 (.ret (.pick (pge r0 (pi 0)) (ple r0 (pi 100000)) pF))
def Uy (b:Nat→PC):PT×List (Shp×PT):=(wU,[])
theorem FH:cf_r04_Valid.map told=some (Uy (aA cf_r04_Valid)):=by kernel_rfl
theorem LD:tree rv=wU:=aj FH
theorem Ml:cf_r04_Valid=some rv:=ah FH
noncomputable def cf_r10_Tenor:Option PC:=av {ctx with fr:=[2],nh:=[]} Tryz.f141 ((aa aq 141).getD default) [1,3]
noncomputable def q6:PC:=hpc cf_r10_Tenor
def wT:PT:=
 (.ite (.pick (peq (pc Gb 0) (pi 0)) pT (peq (pc Gb 0) (pi 4)))
 (.ret (.pick (peq (pc Gb 1) (pi 0)) (peq (pc Gb 2) (pi 0)) pF))
 (.ite (.pick (peq (pc Gb 0) (pi 1)) pT (peq (pc Gb 0) (pi 2)))
 (.ret (.pick (.pick (pge (pc Gb 1) (pi 1)) (ple (pc Gb 1) (pi 400)) pF) (.pick (peq (pc Gb 2) (pi 0)) pT (peq (pc Gb 2) (pi 1))) pF))
 (.ret (.pick (.pick (.pick (peq (pc Gb 0) (pi 3)) (pge (pc Gb 1) (pc (.mk [r0]) 8)) pF) (ple (pc Gb 1) (pi 100000)) pF) (peq (pc Gb 2) (pi 0)) pF))))
def U9 (b:Nat→PC):PT×List (Shp×PT):=(wT,[])
theorem G2:cf_r10_Tenor.map told=some (U9 (aA cf_r10_Tenor)):=by kernel_rfl
theorem Mi:tree q6=wT:=aj G2
theorem Ll:cf_r10_Tenor=some q6:=ah G2
noncomputable def cf_r09_Usance:Option PC:=av {ctx with fr:=[6,7,8],nh:=[]} Tryz.f142 ((aa aq 142).getD default) [3]
noncomputable def oz:PC:=hpc cf_r09_Usance
noncomputable def uX:Nat→PC:=hbd cf_r09_Usance
def MO (b:Nat→PC):PC:=.block 0 [6,7,8,9,10,11,12,13] [] (.loop [6,7,8] [] (b 0))
def ko (b:Nat→PC):PT:=
 (.ite (plt r8 (.llen (pc o3 5)))
 (.chk (pix (pc o3 5) r8)
 (.chk (.nt (.an (.an (peq (pc (pn (pc o3 5) r8) 0) r1) pT) (.nt (pix (pc o3 5) r8))))
 (.ite (.pick (peq (pc (pn (pc o3 5) r8) 0) r1) (peq (pc (pn (pc o3 5) r8) 1) r2) pF)
 (.ret (.tup [(pc (pn (pc o3 5) r8) 2),(pi 0)]))
 (.next ⟨[(8,C7)],[]⟩))))
 (.exit 0 ⟨[(9,r8),(10,pN),(11,(pc o3 5)),(12,(.llen (pc o3 5))),(13,(plt r8 (.llen (pc o3 5))))],[]⟩))
def vh (b:Nat→PC):PT:=
 (.brk ⟨[(8,(pi 0)),(7,(pi 0)),(6,(pi 0))],[(3,(.mk [r0]))]⟩
(MO b)
 (.ret (.tup [(pi 0),(pi 4)])))
def Si (b:Nat→PC):PT×List (Shp×PT):=(vh b,[(.lp 0 [6,7,8,9,10,11,12,13] [] [6,7,8] [],ko b)])
theorem uM:cf_r09_Usance.map told=some (Si (aA cf_r09_Usance)):=by kernel_rfl
theorem HN:tree oz=vh uX:=aj uM
theorem sJ:round 0 [6,7,8,9,10,11,12,13] [] [6,7,8] [] (uX 0)=ko uX:=aw uM 0 fun _=>rfl
theorem JS:cf_r09_Usance=some oz:=ah uM
noncomputable def cf_r12_signs:Option PC:=av {ctx with fr:=[6,8],nh:=[]} Tryz.f67 ((aa aq 67).getD default) [3,4,7]
noncomputable def rk:PC:=hpc cf_r12_signs
noncomputable def wH:Nat→PC:=hbd cf_r12_signs
def sr (b:Nat→PC):PC:=.block 0 [6,8,72,73,74,75,79] [] (.loop [6,8] [] (b 0))
def gW (b:Nat→PC):PT:=
 (.ite (.pick (plt r8 r2) (peq (pc o7 0) (pi 1)) pF)
 (.chk (pix (pc o4 15) r8)
 (.chk (.nt (.an (.an (peq (pc (pn (pc o4 15) r8) 0) (pi 1)) pT) (.nt (pix (pc o4 15) r8))))
 (.ite (.pick (peq (pc (pn (pc o4 15) r8) 0) (pi 1)) (peq (pc (pn (pc o4 15) r8) 1) (pc o7 1)) pF)
 (.ret (pi 5))
 (.next ⟨[(8,C7)],[]⟩))))
 (.exit 0 ⟨[(72,r8),(73,r2),(74,(plt r8 r2)),(75,(plt r8 r2)),(79,(.pick (plt r8 r2) (peq (pc o7 0) (pi 1)) pF))],[]⟩))
def xF (b:Nat→PC):PT:=
 (.chk (pix (pc (.mk [r1]) 15) r2)
 (.call ⟨[(6,(pi 0))],[(7,aah),(4,(.mk [r1])),(3,(.mk [r0]))]⟩ [] 20 68 [(pc aah 1),(pi 0),(aQ (pc (.mk [r1]) 14) (pi 1))]
 (.ite (.nt r20)
 (.ret (pi 15))
 (.call ⟨[],[]⟩ [] 28 68 [(pc o7 2),(pi 0),(aQ (.llen (pc o3 3)) (pi 1))]
 (.call ⟨[(30,(.nt r28))],[]⟩ [(30,false)] 37 68 [(pc o7 7),(pi 0),(aQ (.llen (pc o3 1)) (pi 1))]
 (.ite (.pick r30 pT (.nt r37))
 (.ret (pi 1))
 (.ite (.pick (.pick (peq r2 (pi 0)) (pne (pc o7 6) (pc o4 8)) pF) pT (pgt (pc o7 6) (pi 100000)))
 (.ret (pi 13))
 (.ite (pgt r2 (pi 0))
 (.chk (pix (pc o4 15) DW)
 (.ite (plt (pc o7 6) (pc (pn (pc o4 15) DW) 6))
 (.ret (pi 13))
 (.call ⟨[],[]⟩ [] 70 143 [(mkA 8 o3),(mkA 19 o4),r2]
 (.ite (.nt r70)
 (.ret (pi 14))
 (.brk ⟨[(8,(pi 0))],[]⟩
(sr b)
 (.ret (pi 0)))))))
 (.call ⟨[],[]⟩ [] 70 143 [(mkA 8 o3),(mkA 19 o4),r2]
 (.ite (.nt r70)
 (.ret (pi 14))
 (.brk ⟨[(8,(pi 0))],[]⟩
(sr b)
 (.ret (pi 0)))))))))))))
def Ux (b:Nat→PC):PT×List (Shp×PT):=(xF b,[(.lp 0 [6,8,72,73,74,75,79] [] [6,8] [],gW b)])
theorem xO:cf_r12_signs.map told=some (Ux (aA cf_r12_signs)):=by kernel_rfl
theorem tr_r12_signs_eq:tree rk=xF wH:=aj xO
theorem lN:round 0 [6,8,72,73,74,75,79] [] [6,8] [] (wH 0)=gW wH:=aw xO 0 fun _=>rfl
theorem MS:cf_r12_signs=some rk:=ah xO
noncomputable def cf_r12_Fits:Option PC:=av {ctx with fr:=[6,8,21,71,101,9,10,146,179],nh:=[]} Tryz.f143 ((aa aq 143).getD default) [3,4,7]
noncomputable def tV:PC:=hpc cf_r12_Fits
def zq:PT:=
 (.chk (pix (pc (.mk [r1]) 15) r2)
 (.call ⟨[],[(7,aah),(4,(.mk [r1])),(3,(.mk [r0]))]⟩ [] 18 68 [(pc aah 5),(pi 1),Jo]
 (.blockS ⟨[(20,(pc o7 0)),(8,r18)],[]⟩ 0 [6,21,22,71,72,101,102,146,147,179,180] []
 (.iteS ⟨[],[]⟩ (peq r20 (pi 0)) [6,71,72,101,102,146,147,179,180] []
 (.ret (.pick (.pick (.pick (.pick (.pick (.pick (.pick (peq r2 (pi 0)) (peq (pc o7 2) (pc o4 0)) pF) (peq (pc o7 3) (pi (-1))) pF) (peq (pc o7 4) (pi (-1))) pF) (peq (pc o7 5) (pi 0)) pF) (.pick (peq (pc o7 8) (pi 0)) pT (peq (pc o7 8) (pi 1))) pF) (peq (pc o7 1) (pi 0)) pF) (peq (pc o7 7) (pc o4 9)) pF))
 (.iteS ⟨[],[]⟩ (peq r20 (pi 1)) [6,101,102,146,147,179,180] []
 (.ret (.pick (.pick (.pick (.pick (.pick (pgt r2 (pi 0)) (peq (pc o7 2) (pc o4 1)) pF) (peq (pc o7 3) (pi (-1))) pF) (peq (pc o7 4) (pi (-1))) pF) r8 pF) (peq (pc o7 8) (pi 0)) pF))
 (.iteS ⟨[],[]⟩ (peq r20 (pi 2)) [6,146,147,179,180] []
 (.chk (pne (pi 2) (pi 0))
 (.chk (pne (pi 4) (pi 0))
 (.call ⟨[(120,(.pick (pgt r2 (pi 0)) (peq (pc o7 3) (pi (-1))) pF)),(10,(peq (.ai .rem .i64 (.ai .quo .i64 (pc o7 8) (pi 4)) (pi 2)) (pi 1))),(9,(peq (.ai .rem .i64 (.ai .quo .i64 (pc o7 8) (pi 2)) (pi 2)) (pi 1)))],[]⟩ [(120,true)] 127 68 [(pc o7 4),(pi (-1)),(aQ (.llen (pc o3 3)) (pi 1))]
 (.call ⟨[(134,(.pick (.pick ah1 ag9 pF) (peq (pc o7 5) (pi 0)) pF))],[]⟩ [(134,true)] 137 68 [(pc o7 8),(pi 0),(pi 7)]
 (.ret (.pick (.pick (.r 134) (.r 137) pF) (.nt (.pick r9 r10 pF)) pF))))))
 (.iteS ⟨[],[]⟩ (peq r20 (pi 3)) [6,179,180] []
 (.call ⟨[(165,(.pick (.pick (.pick (peq r2 (pi 0)) pT (pne (pc o7 4) (pi (-1)))) pT (pne (pc o7 5) (pi 0))) pT (pne (pc o7 8) (pi 0))))],[]⟩ [(165,false)] 168 198 [(mkA 19 o4),r2]
 (.ite (.pick (.r 165) pT (.nt (.r 168)))
 (.ret pF)
 (.chk (pix (pc o4 15) (pc o7 3))
 (.ret (pne ZR (pi 3))))))
 (.iteS ⟨[],[]⟩ (peq r20 (pi 4)) [6] []
 (.call ⟨[(205,(.pick (.pick (.pick (.pick (peq r2 (pi 0)) pT (pne (pc o7 4) (pi (-1)))) pT (.nt r8)) pT (pne (pc o7 8) (pi 0))) pT (peq (pc o7 2) (pc o4 1))))],[]⟩ [(205,false)] 208 198 [(mkA 19 o4),r2]
 (.ite (.pick (.r 205) pT (.nt (.r 208)))
 (.ret pF)
 (.chk (pix (pc o4 15) (pc o7 3))
 (.chk (.nt (.an (.an (.nt (peq ZR (pi 0))) pT) (.nt (pix (pc o4 15) (pc o7 3)))))
 (.ret (.pick (peq ZR (pi 0)) pT (peq ZR (pi 2))))))))
 (.next ⟨[],[]⟩)
 (.next ⟨[],[]⟩))
 (.next ⟨[],[]⟩))
 (.next ⟨[],[]⟩))
 (.next ⟨[],[]⟩))
 (.next ⟨[],[]⟩))
 (.ret pF))))
def Xl (b:Nat→PC):PT×List (Shp×PT):=(zq,[])
theorem Lg:cf_r12_Fits.map told=some (Xl (aA cf_r12_Fits)):=by kernel_rfl
theorem tr_r12_Fits_eq:tree tV=zq:=aj Lg
theorem Qb:cf_r12_Fits=some tV:=ah Lg
noncomputable def cf_r12_backs:Option PC:=av {ctx with fr:=[4,5],nh:=[]} Tryz.f198 ((aa aq 198).getD default) [2]
noncomputable def re:PC:=hpc cf_r12_backs
def xm:PT:=
 (.chk (pix AY r1)
 (.call ⟨[(5,(pc (pn AY r1) 3))],[(2,(.mk [r0]))]⟩ [] 15 68 [(pc (pn AY r1) 3),(pi 0),(aQ r1 (pi 1))]
 (.chk (.nt (.an (.an r15 pT) (.nt (pix (pc o2 15) r1))))
 (.call ⟨[(16,r15)],[]⟩ [(16,true)] 25 199 [(mkA 19 o2),r5,(pc (pn (pc o2 15) r1) 1)]
 (.ret (.pick r16 r25 pF))))))
def T5 (b:Nat→PC):PT×List (Shp×PT):=(xm,[])
theorem Gc:cf_r12_backs.map told=some (T5 (aA cf_r12_backs)):=by kernel_rfl
theorem tr_r12_backs_eq:tree re=xm:=aj Gc
theorem LY:cf_r12_backs=some re:=ah Gc
noncomputable def cf_r12_On:Option PC:=av {ctx with fr:=[6],nh:=[]} Tryz.f199 ((aa aq 199).getD default) [3]
noncomputable def Bv:PC:=hpc cf_r12_On
def IN:PT:=
 (.chk (.nt (.an (.an (.nt (peq r1 (pi 0))) pT) (.nt (pix AY r1))))
 (.ret (.pick (peq r1 (pi 0)) pT (peq (pc (pn AY r1) 1) r2))))
def abw (b:Nat→PC):PT×List (Shp×PT):=(IN,[])
theorem SL:cf_r12_On.map told=some (abw (aA cf_r12_On)):=by kernel_rfl
theorem Ut:tree Bv=IN:=aj SL
theorem UE:cf_r12_On=some Bv:=ah SL
noncomputable def cf_r12_acts:Option PC:=av {ctx with fr:=[6],nh:=[]} Tryz.f69 ((aa aq 69).getD default) [3,4,7]
noncomputable def uz:PC:=hpc cf_r12_acts
def zr:PT:=
 (.chk (pix (pc (.mk [r1]) 17) r2)
 (.call ⟨[],[(7,(.setc z9 0 (pn (pc (.mk [r1]) 17) r2))),(4,(.mk [r1])),(3,(.mk [r0]))]⟩ [] 19 68 [(pc (.setc z9 0 (pn (pc (.mk [r1]) 17) r2)) 3),(pi 0),(aQ (pc (.mk [r1]) 14) (pi 1))]
 (.ite (.nt r19)
 (.ret (pi 15))
 (.call ⟨[],[]⟩ [] 27 68 [(pc o7 7),(pi 0),(aQ (.llen (pc o3 1)) (pi 1))]
 (.call ⟨[(29,(.nt r27))],[]⟩ [(29,false)] 32 68 [(pc o7 0),(pi 0),(pi 9)]
 (.ite (.pick r29 pT (.nt r32))
 (.ret (pi 1))
 (.call ⟨[],[]⟩ [] 38 144 [(mkA 8 o3),(mkA 19 o4),(mkA 9 o7)]
 (.ite (.nt r38)
 (.ret (pi 14))
 (.ite (.pick (plt (pc o7 6) (pc o4 8)) pT (pgt (pc o7 6) (pi 100000)))
 (.ret (pi 13))
 (.ite (pge (pc o7 4) (pi 0))
 (.chk (pix (pc o4 15) (pc o7 4))
 (.ite (plt (pc o7 6) (pc (pn (pc o4 15) (pc o7 4)) 6))
 (.ret (pi 13))
 (.ite (pgt r2 (pi 0))
 (.chk (pix (pc o4 17) DW)
 (.ite (plt (pc o7 6) (pc (pn (pc o4 17) DW) 6))
 (.ret (pi 13))
 (.ret (pi 0))))
 (.ret (pi 0)))))
 (.ite (pgt r2 (pi 0))
 (.chk (pix (pc o4 17) DW)
 (.ite (plt (pc o7 6) (pc (pn (pc o4 17) DW) 6))
 (.ret (pi 13))
 (.ret (pi 0))))
 (.ret (pi 0)))))))))))))
def Wp (b:Nat→PC):PT×List (Shp×PT):=(zr,[])
theorem KW:cf_r12_acts.map told=some (Wp (aA cf_r12_acts)):=by kernel_rfl
theorem tr_r12_acts_eq:tree uz=zr:=aj KW
theorem NL:cf_r12_acts=some uz:=ah KW
noncomputable def cf_r12_Acted:Option PC:=av {ctx with fr:=[6,7,8,9,10,56,76,93,114,133,151],nh:=[]} Tryz.f144 ((aa aq 144).getD default) [3,4,5]
noncomputable def q5:PC:=hpc cf_r12_Acted
def xn:PT:=
 (.call ⟨[],[(5,(.mk [r2])),(4,(.mk [r1])),(3,(.mk [r0]))]⟩ [] 17 68 [(pc (.mk [r2]) 1),(pi 0),(aQ (.llen (pc (.mk [r0]) 3)) (pi 1))]
 (.ite (.nt r17)
 (.ret pF)
 (.call ⟨[],[]⟩ [] 25 68 [(pc o5 2),(pi 0),(aQ (.llen (pc o3 3)) (pi 1))]
 (.call ⟨[(7,r25)],[]⟩ [] 28 68 [(pc o5 5),(pi 0),Jo]
 (.call ⟨[(8,r28)],[]⟩ [] 35 68 [(pc o5 4),(pi 0),(aQ (.llen (pc o4 15)) (pi 1))]
 (.iteS ⟨[(9,r35)],[]⟩ r35 [9] []
 (.call ⟨[],[]⟩ [] 42 199 [(mkA 19 o4),(pc o5 4),(pc o5 3)]
 (.next ⟨[(9,r42)],[]⟩))
 (.next ⟨[],[]⟩)
 (.ite r9
 (.chk (pix (pc o4 15) (pc o5 4))
 (.ite afo
 (.ret (.pick (.pick VO WT pF) CS pF))
 (.ite adU
 (.ret (.pick (.pick VO r8 pF) CS pF))
 (.ite (peq (pc o5 0) (pi 4))
 (.ret ab3)
 (.ite (peq (pc o5 0) (pi 6))
 (.ret (.pick (.pick (.pick (.pick r7 (peq (pc (pn (pc o4 15) (pc o5 4)) 2) (pc o5 1)) pF) r8 pF) (pgt (pc o5 5) (pi 0)) pF) CS pF))
 (.ite (peq (pc o5 0) (pi 9))
 (.ret (.pick (.pick (.pick (peq (pc o5 2) (pi (-1))) (peq (pc (pn (pc o4 15) (pc o5 4)) 2) (pc o5 1)) pF) WT pF) CS pF))
 (.ite ab0
 (.ret acy)
 (.ret pF))))))))
 (.ite afo
 (.ret (.pick (.pick VO WT pF) CS pF))
 (.ite adU
 (.ret (.pick (.pick VO r8 pF) CS pF))
 (.ite (peq (pc o5 0) (pi 4))
 (.ret ab3)
 (.ite (peq (pc o5 0) (pi 6))
 (.ret (.pick (.pick (.pick (.pick r7 pF pF) r8 pF) (pgt (pc o5 5) (pi 0)) pF) CS pF))
 (.ite (peq (pc o5 0) (pi 9))
 (.ret (.pick (.pick (.pick (peq (pc o5 2) (pi (-1))) pF pF) WT pF) CS pF))
 (.ite ab0
 (.ret acy)
 (.ret pF))))))))))))))
def T7 (b:Nat→PC):PT×List (Shp×PT):=(xn,[])
theorem GU:cf_r12_Acted.map told=some (T7 (aA cf_r12_Acted)):=by kernel_rfl
theorem tr_r12_Acted_eq:tree q5=xn:=aj GU
theorem Md:cf_r12_Acted=some q5:=ah GU
noncomputable def cf_r12_facts:Option PC:=av {ctx with fr:=[4],nh:=[]} Tryz.f70 ((aa aq 70).getD default) [2,5,6]
noncomputable def rD:PC:=hpc cf_r12_facts
def xp:PT:=
 (.chk (pix Jm r1)
 (.call ⟨[],[(5,(.setc z3 0 (pn Jm r1))),(2,(.mk [r0]))]⟩ [] 14 68 [(pc (.setc z3 0 (pn Jm r1)) 0),(pi 0),(pi 4)]
 (.call ⟨[(16,(.nt r14))],[]⟩ [(16,false)] 23 68 [(pc o5 1),(pi 0),(aQ (.llen (pc o2 15)) (pi 1))]
 (.call ⟨[(26,(.pick r16 pT (.nt r23)))],[]⟩ [(26,false)] 29 68 [(pc o5 2),(pi 0),(pi 1)]
 (.ite (.pick r26 pT (.nt r29))
 (.ret (pi 1))
 (.ite (pgt r1 (pi 0))
 (.chk (pix (pc o2 18) (aQ r1 (pi 1)))
 (.ite (.pick (pgt (pc acq 1) (pc o5 1)) pT (.pick (peq (pc acq 1) (pc o5 1)) (pge (pc acq 0) (pc o5 0)) pF))
 (.ret (pi 5))
 (.ret (pi 0))))
 (.ret (pi 0))))))))
def Uz (b:Nat→PC):PT×List (Shp×PT):=(xp,[])
theorem Hu:cf_r12_facts.map told=some (Uz (aA cf_r12_facts)):=by kernel_rfl
theorem tr_r12_facts_eq:tree rD=xp:=aj Hu
theorem LZ:cf_r12_facts=some rD:=ah Hu
noncomputable def cf_r14_With:Option PC:=av {ctx with fr:=[6,8],nh:=[]} Tryz.f25 ((aa aq 25).getD default) [2,77826,3,4,5,7,9]
noncomputable def ux:PC:=hpc cf_r14_With
noncomputable def oV:Nat→PC:=hbd cf_r14_With
def Q7 (b:Nat→PC):PC:=.block 0 [5,6,18,19,20,21,22] [5] (.loop [5,6] [5] (b 0))
def Q9 (b:Nat→PC):PC:=.block 2 [5,8,57,58,59,60,61] [5] (.loop [5,8] [5] (b 1))
def fV (b:Nat→PC):PT:=
 (.ite (plt r6 Oj)
 (.chk (pix (pc o2 18) r6)
 (.ite (.pick (plt (pc SF 1) (pc o3 1)) pT (.pick (peq (pc SF 1) (pc o3 1)) (plt (pc SF 0) (pc o3 0)) pF))
 (.chk (ple (.llen abW) aZ)
 (.next ⟨[(5,pN),(6,(aF r6 (pi 1)))],[(5,abW)]⟩))
 (.next ⟨[(6,(aF r6 (pi 1)))],[]⟩)))
 (.exit 0 ⟨[(18,r6),(19,pN),(20,(pc o2 18)),(21,Oj),(22,(plt r6 Oj))],[]⟩))
def fX (b:Nat→PC):PT:=
 (.ite (plt r8 Oj)
 (.chk (pix (pc o2 18) r8)
 (.ite (.pick (pgt (pc Ta 1) (pc o3 1)) pT (.pick (peq (pc Ta 1) (pc o3 1)) (pgt (pc Ta 0) (pc o3 0)) pF))
 (.chk (ple (.llen adC) aZ)
 (.next ⟨[(5,pN),(8,C7)],[(5,adC)]⟩))
 (.next ⟨[(8,C7)],[]⟩)))
 (.exit 2 ⟨[(57,r8),(58,pN),(59,(pc o2 18)),(60,Oj),(61,(plt r8 Oj))],[]⟩))
def Aw (b:Nat→PC):PT:=
 (.call ⟨[],[(4,Ed),(3,(.mk [r1])),(2,(.mk [r0]))]⟩ [] 15 71 [(mkA 19 (.mk [r0])),(pc (.mk [r1]) 0),(pc (.mk [r1]) 1)]
 (.ite (pc r15 0)
 (.ret (mkA 19 (.setc o4 0 (mkA 19 o2))))
 (.brk ⟨[(6,(pi 0)),(5,pN)],[(5,pL)]⟩
(Q7 b)
 (.chk (ple (.llen (.app o5 (.lst [(.mk [(pc o3 0),(pc o3 1),(pc o3 2)])]))) aZ)
 (.brk ⟨[(8,(pi 0)),(5,pN)],[(5,(.app o5 (.lst [(.mk [(pc o3 0),(pc o3 1),(pc o3 2)])])))]⟩
(Q9 b)
 (.ret (mkA 19 (.setc o4 0 (.mk [(pc m0 0),(pc m0 1),(pc m0 2),(pc m0 3),(pc m0 4),(pc m0 5),(pc m0 6),(pc m0 7),(pc m0 8),(pc m0 9),(pc m0 10),(pc m0 11),(pc m0 12),(pc m0 13),(pc m0 14),(pc m0 15),(pc m0 16),(pc m0 17),o5])))))))))
def VC (b:Nat→PC):PT×List (Shp×PT):=(Aw b,[(.lp 0 [5,6,18,19,20,21,22] [5] [5,6] [5],fV b),(.lp 2 [5,8,57,58,59,60,61] [5] [5,8] [5],fX b)])
theorem uq:cf_r14_With.map told=some (VC (aA cf_r14_With)):=by kernel_rfl
theorem Pb:tree ux=Aw oV:=aj uq
theorem iY:round 0 [5,6,18,19,20,21,22] [5] [5,6] [5] (oV 0)=fV oV:=aw uq 0 fun _=>rfl
theorem ic:round 2 [5,8,57,58,59,60,61] [5] [5,8] [5] (oV 1)=fX oV:=aw uq 1 fun _=>rfl
theorem N8:cf_r14_With=some ux:=ah uq
noncomputable def cf_r14_Fact:Option PC:=av {ctx with fr:=[7],nh:=[]} Tryz.f71 ((aa aq 71).getD default) [3,6]
noncomputable def uF:PC:=hpc cf_r14_Fact
noncomputable def zM:Nat→PC:=hbd cf_r14_Fact
def Ss (b:Nat→PC):PC:=.block 0 [7,8,9,10,11,12] [6] (.loop [7] [6] (b 0))
def fZ (b:Nat→PC):PT:=
 (.ite (plt r7 Ks)
 (.chk (pix (pc o3 18) r7)
 (.chk (.nt (.an (.an (peq (pc (pn (pc o3 18) r7) 0) r1) pT) (.nt (pix (pc o3 18) r7))))
 (.ite (.pick (peq (pc (pn (pc o3 18) r7) 0) r1) (peq (pc (pn (pc o3 18) r7) 1) r2) pF)
 (.ite (peq (pc (pn (pc o3 18) r7) 2) (pi 0))
 (.ret (.mk [(pc (.setc o6 0 (.mk [pT,(pi 0)])) 0),(pc (.setc o6 0 (.mk [pT,(pi 0)])) 1)]))
 (.ret (.mk [(pc (.setc o6 0 (.mk [pT,(pi 1)])) 0),(pc (.setc o6 0 (.mk [pT,(pi 1)])) 1)])))
 (.next ⟨[(7,(aF r7 (pi 1)))],[]⟩))))
 (.exit 0 ⟨[(8,r7),(9,pN),(10,(pc o3 18)),(11,Ks),(12,(plt r7 Ks))],[]⟩))
def A6 (b:Nat→PC):PT:=
 (.brk ⟨[(7,(pi 0))],[(6,qv),(3,(.mk [r0]))]⟩
(Ss b)
 (.ret adH))
def W2 (b:Nat→PC):PT×List (Shp×PT):=(A6 b,[(.lp 0 [7,8,9,10,11,12] [6] [7] [6],fZ b)])
theorem zC:cf_r14_Fact.map told=some (W2 (aA cf_r14_Fact)):=by kernel_rfl
theorem P1:tree uF=A6 zM:=aj zC
theorem iU:round 0 [7,8,9,10,11,12] [6] [7] [6] (zM 0)=fZ zM:=aw zC 0 fun _=>rfl
theorem Qq:cf_r14_Fact=some uF:=ah zC
noncomputable def cf_l23_BindStrikes:Option PC:=av {ctx with fr:=[12,13,15,17,18,19,20],nh:=[]} Tryz.f6 ((aa aq 6).getD default) [6,8,14,16,73744,21]
noncomputable def rO:PC:=hpc cf_l23_BindStrikes
def zu (b:Nat→PC):PC:=.block 0 [12,20,109,110,111,112] [] (.loop [12,20] [] (b 0))
def A0 (b:Nat→PC):PT:=
 (.ite (plt r20 (.llen r17))
 (.chk (pix r17 r20)
 (.chk (pix r18 r20)
 (.ite (.nt (.an (peq (pc wg 0) (pc Np 0)) (.an (peq (pc wg 1) (pc Np 1)) (.an (peq (pc wg 2) (pc Np 2)) (.an (peq (pc wg 3) (pc Np 3)) (.an (peq (pc wg 4) (pc Np 4)) (.an (peq (pc wg 5) (pc Np 5)) (.an (.cb .eql (pc wg 6) (pc Np 6)) pT))))))))
 (.ret pF)
 (.next ⟨[(20,(aF r20 (pi 1)))],[]⟩))))
 (.exit 0 ⟨[(109,r20),(110,r17),(111,(.llen r17)),(112,(plt r20 (.llen r17)))],[]⟩))
def D4 (b:Nat→PC):PT:=
 (.call ⟨[(12,pF)],[(8,(.mk [r2])),(6,(.mk [r0]))]⟩ [] 22 15 []
 (.call ⟨[(13,r22)],[]⟩ [] 25 16 [(mkA 8 o6),(mkA 19 o8)]
 (.call ⟨[(27,(.nt r25))],[]⟩ [(27,false)] 30 24 [(mkA 8 o6),(mkA 19 o8)]
 (.ite (.pick (.pick r27 pT (pne r30 (pi 0))) pT (pgt r4 (pi 100000)))
 (.ret r13)
 (.call ⟨[],[]⟩ [] 40 26 [(mkA 19 o8),r4]
 (.iteS ⟨[],[(14,(.setc Ed 0 r40))]⟩ (peq (.llen (pc (.setc Ed 0 r40) 15)) (pi 0)) [12] []
 (.call ⟨[(46,r13)],[]⟩ [(46,true)] 51 20 [(mkA 8 o6),r1,(mkA 19 o8),r4]
 (.ret (.pick r46 (peq (.llen r51) (pi 0)) pF)))
 (.next ⟨[],[]⟩)
 (.chk (pne (.llen (pc o14 15)) (pi 0))
 (.chk (ple (.llen (.app (.lst []) (pc o14 17))) aZ)
 (.chk (ple (.llen aeR) aZ)
 (.call ⟨[(15,(.ai .rem .i64 (.conv .i64 r3) (.llen (pc o14 15))))],[(73744,aeR),(16,(.setc (.setc Ed 0 (mkA 19 o14)) 17 pN))]⟩ [] 76 20 [(mkA 8 o6),r1,(mkA 19 o8),r4]
 (.call ⟨[(17,r76)],[]⟩ [] 81 20 [(mkA 8 o6),r1,(.mk [(pc o16 0),(pc o16 1),(pc o16 2),(pc o16 3),(pc o16 4),(pc o16 5),(pc o16 6),(pc o16 7),(pc o16 8),(pc o16 9),(pc o16 10),(pc o16 11),(pc o16 12),(pc o16 13),(pc o16 14),(pc o16 15),(pc o16 16),(.o 73744),(pc o16 18)]),r4]
 (.call ⟨[(18,r81)],[]⟩ [] 89 20 [(mkA 8 o6),r1,(mkA 19 o14),(aF r4 (.conv .i64 r5))]
 (.call ⟨[(103,(.pick (pne (.llen r17) (.llen r18)) pT (pne (.llen r17) (.llen (pc o14 15)))))],[]⟩ [(103,false)] 106 19 [r17,r89]
 (.ite (.pick afU pT (.nt af4))
 (.ret pF)
 (.brk ⟨[(20,(pi 0))],[]⟩
(zu b)
 (.ret r13))))))))))))))))
def Dn (b:Nat→PC):PT×List (Shp×PT):=(D4 b,[(.lp 0 [12,20,109,110,111,112] [] [12,20] [],A0 b)])
theorem D1:cf_l23_BindStrikes.map told=some (Dn (aA cf_l23_BindStrikes)):=by kernel_rfl
theorem y2:cf_l23_BindStrikes=some rO:=ah D1
noncomputable def cf_ask_places_a:Option PC:=av {ctx with fr:=[6],nh:=[]} Tryz.f101 ⟨[Y8,I,Y13],.slice I,.dat⟩ [3,5,7,8,42,9]
noncomputable def qf:PC:=hpc cf_ask_places_a
def qe:PT:=
 (.chk (pix (pc (.mk [r2]) 15) (pc (.mk [r2]) 19))
 (.ite ae5
 (.ret pL)
 (.chk (.an (pge (pi 5) (pi 0)) (ple (pi 5) aZ))
 (.chk (peq (pi 5) (pi 5))
 (.chk (pix (.rep (pi 5) (pi 0)) (pi 0))
 (.call ⟨[],[(9,(.setn (.rep (pi 5) (pi 0)) (pi 0) 0 r1)),(8,(.setc z15 0 (mkA 15 (.mk [r2])))),(7,TB),(3,(.mk [r0]))]⟩ [] 50 53 [oP,(pc TB 7)]
 (.chk (pix o9 (pi 1))
 (.call ⟨[],[(9,(.setn o9 (pi 1) 0 r50))]⟩ [] 56 53 [(mkA 8 o3),(pc o8 10)]
 (.chk (pix o9 (pi 2))
 (.call ⟨[],[(9,(.setn o9 (pi 2) 0 r56))]⟩ [] 62 53 [(mkA 8 o3),(pc o8 9)]
 (.chk (pix o9 (pi 3))
 (.chk (pix (pc o3 3) (pc o7 2))
 (.call ⟨[],[(9,(.setn o9 (pi 3) 0 r62))]⟩ [] 73 53 [(mkA 8 o3),(pc (pn (pc o3 3) (pc o7 2)) 1)]
 (.chk (pix o9 (pi 4))
 (.call ⟨[],[(9,(.setn o9 (pi 4) 0 r73))]⟩ [] 76 116 [(.setn o9 (pi 4) 0 r73),(pi (-1))]
 (.ite r76
 (.ret pL)
 (.ret o9)))))))))))))))))
def Mx (b:Nat→PC):PT×List (Shp×PT):=(qe,[])
theorem yG:cf_ask_places_a.map told=some (Mx (aA cf_ask_places_a)):=by kernel_rfl
theorem EV:tree qf=qe:=aj yG
theorem Ea:cf_ask_places_a=some qf:=ah yG
noncomputable def cf_ask_places_b:Option PC:=av {ctx with fr:=[6],nh:=[]} Tryz.f101 ⟨[Y8,I,Y13],.nils .bool,.dat⟩ [3,5,7,8,42,9]
noncomputable def qw:PC:=hpc cf_ask_places_b
def kg:PT:=
 (.chk (pix (pc (.mk [r2]) 15) (pc (.mk [r2]) 19))
 (.ite ae5
 (.ret pL)
 (.chk (.an (pge (pi 5) (pi 0)) (ple (pi 5) aZ))
 (.chk (peq (pi 5) (pi 5))
 (.chk (pix (.rep (pi 5) (pi 0)) (pi 0))
 (.call ⟨[],[(9,(.setn (.rep (pi 5) (pi 0)) (pi 0) 0 r1)),(8,(.setc z15 0 (mkA 15 (.mk [r2])))),(7,TB),(3,(.mk [r0]))]⟩ [] 50 53 [oP,(pc TB 7)]
 (.chk (pix o9 (pi 1))
 (.call ⟨[],[(9,(.setn o9 (pi 1) 0 r50))]⟩ [] 56 53 [(mkA 8 o3),(pc o8 10)]
 (.chk (pix o9 (pi 2))
 (.call ⟨[],[(9,(.setn o9 (pi 2) 0 r56))]⟩ [] 62 53 [(mkA 8 o3),(pc o8 9)]
 (.chk (pix o9 (pi 3))
 (.chk (pix (pc o3 3) (pc o7 2))
 (.call ⟨[],[(9,(.setn o9 (pi 3) 0 r62))]⟩ [] 73 53 [(mkA 8 o3),(pc (pn (pc o3 3) (pc o7 2)) 1)]
 (.chk (pix o9 (pi 4))
 (.call ⟨[],[]⟩ [] 76 116 [(.setn o9 (pi 4) 0 r73),(pi (-1))]
 (.ite r76
 (.ret pL)
 (.chk pF
 (.next ⟨[],[]⟩))))))))))))))))))
def Mk (b:Nat→PC):PT×List (Shp×PT):=(kg,[])
theorem xX:cf_ask_places_b.map told=some (Mk (aA cf_ask_places_b)):=by kernel_rfl
theorem Dm:tree qw=kg:=aj xX
theorem Ds:cf_ask_places_b=some qw:=ah xX
end Rm
