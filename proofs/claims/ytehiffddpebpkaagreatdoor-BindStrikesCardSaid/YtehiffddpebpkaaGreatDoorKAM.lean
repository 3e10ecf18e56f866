/-
  The functions of this seat, compiled (2).
-/
import Derived.Test.YtehiffddpebpkaaGreatDoorKAK
import Derived.KernelRfl
set_option linter.unusedVariables false
set_option maxRecDepth 100000
namespace Rm
open Go Go.Proofs Cx
noncomputable def cf_r09_RightCity:Option PC:=av {ctx with fr:=[4,5],nh:=[]} Tryz.f194 ((aa aq 194).getD default) [2,3]
noncomputable def iI:PC:=hpc cf_r09_RightCity
noncomputable def nD:Nat→PC:=hbd cf_r09_RightCity
def C4 (b:Nat→PC):PC:=.block 0 [4,5,36,37,38,39,40] [] (.loop [4,5] [] (b 0))
def dp (b:Nat→PC):PT:=
 (.ite (plt r5 (.llen (pc o3 4)))
 (.blockS ⟨[],[]⟩ 1 [4,43,44,45,46,47,48,49,50,51,60] []
 (.chk (pix (pc o3 4) r5)
 (.chk Ta
 (.call ⟨[],[]⟩ [] 49 68 [(.ai .quo .i64 (pn (pc o3 4) r5) (pi 100)),(pi 1),(pi 12)]
 (.chk (.nt (.an (.an (.nt (.nt r49)) pT) (.nt (pix (pc o3 4) r5))))
 (.chk (.nt (.an (.an (.nt (.nt r49)) pT) (.nt Ta)))
 (.call ⟨[(51,(.nt r49))],[]⟩ [(51,false)] 58 68 [(.ai .rem .i64 (pn (pc o3 4) r5) (pi 100)),(pi 1),(pi 31)]
 (.ite (.pick r51 pT (.nt r58))
 (.ret pF)
 (.next ⟨[],[]⟩))))))))
 (.next ⟨[(5,Ep)],[]⟩))
 (.exit 0 ⟨[(36,r5),(37,pN),(38,(pc o3 4)),(39,(.llen (pc o3 4))),(40,(plt r5 (.llen (pc o3 4))))],[]⟩))
def nF (b:Nat→PC):PT:=
 (.call ⟨[(4,pF)],[(3,(.mk [r1])),(2,(.mk [r0]))]⟩ [] 12 68 [(pc (.mk [r1]) 1),(pi 0),(aO (.llen HX) (pi 1))]
 (.call ⟨[(14,(.nt r12))],[]⟩ [(14,false)] 21 68 [(pc o3 2),(pi 0),(aO (.llen (pc o2 0)) (pi 1))]
 (.ite (.pick (.pick (.pick r14 pT (.nt r21)) pT (pgt (.llen (pc o3 4)) (pi 60))) pT (pgt (.llen (pc o3 5)) (pi 200)))
 (.ret pF)
 (.brk ⟨[(5,(pi 0))],[]⟩
(C4 b)
 (.call ⟨[],[]⟩ [] 63 229 [(pc o3 3),(pi 0),(pi 6)]
 (.call ⟨[(64,r63)],[]⟩ [(64,true)] 67 229 [(pc o3 4),(pi 0),(pi 2000)]
 (.call ⟨[(69,(.pick r64 r67 pF))],[]⟩ [(69,true)] 72 229 [(pc o3 5),(pi 0),(pi 100000)]
 (.ret (.pick r69 r72 pF)))))))))
def H5 (b:Nat→PC):PT×List (Shp×PT):=(nF b,[(.lp 0 [4,5,36,37,38,39,40] [] [4,5] [],dp b)])
theorem nw:cf_r09_RightCity.map told=some (H5 (aA cf_r09_RightCity)):=by kernel_rfl
theorem BT:tree iI=nF nD:=aj nw
theorem gh:round 0 [4,5,36,37,38,39,40] [] [4,5] [] (nD 0)=dp nD:=aw nw 0 fun _=>rfl
theorem BX:cf_r09_RightCity=some iI:=ah nw
noncomputable def cf_r09_Within:Option PC:=av {ctx with fr:=[6],nh:=[]} Tryz.f68 ((aa aq 68).getD default) []
noncomputable def nJ:PC:=hpc cf_r09_Within
def uB:PT:=
 (.ret (.pick (ple r1 r0) (ple r0 r2) pF))
def QL (b:Nat→PC):PT×List (Shp×PT):=(uB,[])
theorem Co:cf_r09_Within.map told=some (QL (aA cf_r09_Within)):=by kernel_rfl
theorem HY:tree nJ=uB:=aj Co
theorem HC:cf_r09_Within=some nJ:=ah Co
noncomputable def cf_r09_Rising:Option PC:=av {ctx with fr:=[6,7],nh:=[]} Tryz.f229 ((aa aq 229).getD default) []
noncomputable def oe:PC:=hpc cf_r09_Rising
noncomputable def vl:Nat→PC:=hbd cf_r09_Rising
def My (b:Nat→PC):PC:=.block 0 [6,7,8,9,10,11] [] (.loop [6,7] [] (b 0))
def fJ (b:Nat→PC):PT:=
 (.ite (plt r7 (.llen r0))
 (.blockS ⟨[],[]⟩ 1 [6,14,15,16,17,18,19,20,21,22,23,24,35] []
 (.chk (pix r0 r7)
 (.call ⟨[],[]⟩ [] 20 68 [(pn r0 r7),r1,r2]
 (.ite (.nt r20)
 (.ret pF)
 (.chk (.nt (.an (.an (pgt r7 (pi 0)) pT) (.nt (pix r0 (aO r7 (pi 1))))))
 (.chk (.nt (.an (.an (pgt r7 (pi 0)) pT) (.nt (pix r0 r7))))
 (.ite (.pick (pgt r7 (pi 0)) (pge (pn r0 (aO r7 (pi 1))) (pn r0 r7)) pF)
 (.ret pF)
 (.next ⟨[],[]⟩)))))))
 (.next ⟨[(7,(aF r7 (pi 1)))],[]⟩))
 (.exit 0 ⟨[(8,r7),(9,r0),(10,(.llen r0)),(11,(plt r7 (.llen r0)))],[]⟩))
def uP (b:Nat→PC):PT:=
 (.brk ⟨[(7,(pi 0)),(6,pF)],[]⟩
(My b)
 (.ret pT))
def QW (b:Nat→PC):PT×List (Shp×PT):=(uP b,[(.lp 0 [6,7,8,9,10,11] [] [6,7] [],fJ b)])
theorem uT:cf_r09_Rising.map told=some (QW (aA cf_r09_Rising)):=by kernel_rfl
theorem Iu:tree oe=uP vl:=aj uT
theorem kB:round 0 [6,7,8,9,10,11] [] [6,7] [] (vl 0)=fJ vl:=aw uT 0 fun _=>rfl
theorem Ij:cf_r09_Rising=some oe:=ah uT
noncomputable def cf_r09_firms:Option PC:=av {ctx with fr:=[2,3,5,6],nh:=[]} Tryz.f127 ((aa aq 127).getD default) [1,4,44]
noncomputable def qO:PC:=hpc cf_r09_firms
noncomputable def mh:Nat→PC:=hbd cf_r09_firms
def Nk (b:Nat→PC):PC:=.block 0 [2,3,11,12,13,14,15] [] (.loop [2,3] [] (b 0))
def OB (b:Nat→PC):PC:=.block 2 [2,4,5,30,31,32,33,34] [4] (.loop [2,4,5] [4] (b 1))
def gT (b:Nat→PC):PT:=
 (.ite (plt r3 Cu)
 (.blockS ⟨[],[]⟩ 1 [2,18,19,20,21,22,23,24,25] []
 (.chk (pix (pc o1 2) r3)
 (.call ⟨[],[]⟩ [] 24 68 [(pc (pn (pc o1 2) r3) 0),(pi 0),(pi 9)]
 (.ite (.nt r24)
 (.ret (pi 1))
 (.next ⟨[],[]⟩))))
 (.next ⟨[(3,KP)],[]⟩))
 (.exit 0 ⟨[(11,r3),(12,pN),(13,(pc o1 2)),(14,Cu),(15,(plt r3 Cu))],[]⟩))
def gK (b:Nat→PC):PT:=
 (.ite (plt r5 vH)
 (.blockS ⟨[],[]⟩ 3 [2,4,6,38,39,40,41,42,43,44,45,46,47,48,49,50,52,53,54,55,56,57,58,59,60,61,62,63,64,77] [44,4]
 (.chk (pix (pc o1 3) r5)
 (.chk (ple (.llen YN) aX)
 (.call ⟨[(4,pN)],[(4,YN)]⟩ [] 48 193 [YN,r5]
 (.ite (pne r48 (pi 0))
 (.ret r48)
 (.chk (pix (pc o1 3) r5)
 (.call ⟨[],[]⟩ [] 62 68 [(pc (pn (pc o1 3) r5) 1),(pi 0),(aO sr (pi 1))]
 (.chk (.nt (.an (.an (.nt (.nt r62)) pT) (.nt (pix (pc o1 3) r5))))
 (.call ⟨[(64,(.nt r62))],[]⟩ [(64,false)] 75 68 [(pc (pn (pc o1 3) r5) 2),(pi 0),(aO Cu (pi 1))]
 (.ite (.pick r64 pT (.nt r75))
 (.ret (pi 1))
 (.next ⟨[],[]⟩))))))))))
 (.next ⟨[(5,Ep)],[]⟩))
 (.exit 2 ⟨[(30,r5),(31,pN),(32,(pc o1 3)),(33,vH),(34,(plt r5 vH))],[]⟩))
def xc (b:Nat→PC):PT:=
 (.ite (pgt Ab (pi 20))
 (.ret (pi 6))
 (.brk ⟨[(3,(pi 0)),(2,(pi 0))],[(1,(.mk [r0]))]⟩
(Nk b)
 (.ite (pgt vH (pi 200))
 (.ret (pi 6))
 (.brk ⟨[(5,(pi 0)),(4,pN)],[(4,pL)]⟩
(OB b)
 (.ret (pi 0))))))
def TQ (b:Nat→PC):PT×List (Shp×PT):=(xc b,[(.lp 0 [2,3,11,12,13,14,15] [] [2,3] [],gT b),(.lp 2 [2,4,5,30,31,32,33,34] [4] [2,4,5] [4],gK b)])
theorem q7:cf_r09_firms.map told=some (TQ (aA cf_r09_firms)):=by kernel_rfl
theorem K5:tree qO=xc mh:=aj q7
theorem mz:round 0 [2,3,11,12,13,14,15] [] [2,3] [] (mh 0)=gT mh:=aw q7 0 fun _=>rfl
theorem lX:round 2 [2,4,5,30,31,32,33,34] [4] [2,4,5] [4] (mh 1)=gK mh:=aw q7 1 fun _=>rfl
theorem Mg:cf_r09_firms=some qO:=ah q7
noncomputable def cf_r09_orders:Option PC:=av {ctx with fr:=[2,4,5],nh:=[]} Tryz.f128 ((aa aq 128).getD default) [1,3,24]
noncomputable def oh:PC:=hpc cf_r09_orders
noncomputable def uA:Nat→PC:=hbd cf_r09_orders
def Mt (b:Nat→PC):PC:=.block 0 [2,3,4,10,11,12,13,14] [3] (.loop [2,3,4] [3] (b 0))
def fN (b:Nat→PC):PT:=
 (.ite (plt r4 xP)
 (.blockS ⟨[],[]⟩ 1 [2,3,5,18,19,20,21,22,23,24,25,26,27,28,29,30,32,33,34,35,36,37,38] [24,3]
 (.chk (pix (pc o1 4) r4)
 (.chk (ple (.llen (.app o3 (.lst [(pc Py 0)]))) aX)
 (.call ⟨[(3,pN)],[(3,(.app o3 (.lst [(pc Py 0)])))]⟩ [] 28 193 [(.app o3 (.lst [(pc Py 0)])),r4]
 (.ite (pne r28 (pi 0))
 (.ret r28)
 (.chk (pix (pc o1 4) r4)
 (.call ⟨[],[]⟩ [] 37 195 [Py]
 (.ite (.nt r37)
 (.ret (pi 1))
 (.next ⟨[],[]⟩))))))))
 (.next ⟨[(4,(aF r4 (pi 1)))],[]⟩))
 (.exit 0 ⟨[(10,r4),(11,pN),(12,(pc o1 4)),(13,xP),(14,(plt r4 xP))],[]⟩))
def uq (b:Nat→PC):PT:=
 (.ite (pgt (.llen HX) (pi 20))
 (.ret (pi 6))
 (.brk ⟨[(4,(pi 0)),(3,pN),(2,(pi 0))],[(3,pL),(1,(.mk [r0]))]⟩
(Mt b)
 (.ret (pi 0))))
def Qz (b:Nat→PC):PT×List (Shp×PT):=(uq b,[(.lp 0 [2,3,4,10,11,12,13,14] [3] [2,3,4] [3],fN b)])
theorem vk:cf_r09_orders.map told=some (Qz (aA cf_r09_orders)):=by kernel_rfl
theorem Jn:tree oh=uq uA:=aj vk
theorem kL:round 0 [2,3,4,10,11,12,13,14] [3] [2,3,4] [3] (uA 0)=fN uA:=aw vk 0 fun _=>rfl
theorem HI:cf_r09_orders=some oh:=ah vk
noncomputable def cf_r09_RightOrder:Option PC:=av {ctx with fr:=[2,3,4],nh:=[]} Tryz.f195 ((aa aq 195).getD default) [1]
noncomputable def gp:PC:=hpc cf_r09_RightOrder
noncomputable def dP:Nat→PC:=hbd cf_r09_RightOrder
def Bw (b:Nat→PC):PC:=.block 0 [2,3,5,6,7,8,9] [] (.loop [2,3] [] (b 0))
def BJ (b:Nat→PC):PC:=.block 2 [2,4,48,49,50,51,52] [] (.loop [2,4] [] (b 1))
def cE (b:Nat→PC):PT:=
 (.ite (plt r3 Cu)
 (.blockS ⟨[],[]⟩ 1 [2,12,13,14,15,16,17,18,19,20,29,30,31,32,47] []
 (.chk (pix (pc o1 2) r3)
 (.call ⟨[],[]⟩ [] 18 68 [(pc (pn (pc o1 2) r3) 0),(pi 0),(pi 21)]
 (.chk (.nt (.an (.an (.nt (.nt r18)) pT) (.nt (pix (pc o1 2) r3))))
 (.call ⟨[(20,(.nt r18))],[]⟩ [(20,false)] 27 68 [(pc (pn (pc o1 2) r3) 1),(pi 0),(pi 4)]
 (.ite (.pick r20 pT (.nt r27))
 (.ret pF)
 (.chk (.nt (.an (.an (pgt r3 (pi 0)) pT) (.nt (pix (pc o1 2) (aO r3 (pi 1))))))
 (.chk (.nt (.an (.an (pgt r3 (pi 0)) pT) (.nt (pix (pc o1 2) r3))))
 (.ite (.pick (pgt r3 (pi 0)) (pge (pc (pn (pc o1 2) (aO r3 (pi 1))) 0) (pc (pn (pc o1 2) r3) 0)) pF)
 (.ret pF)
 (.next ⟨[],[]⟩)))))))))
 (.next ⟨[(3,KP)],[]⟩))
 (.exit 0 ⟨[(5,r3),(6,pN),(7,(pc o1 2)),(8,Cu),(9,(plt r3 Cu))],[]⟩))
def cD (b:Nat→PC):PT:=
 (.ite (plt r4 vH)
 (.blockS ⟨[],[]⟩ 3 [2,55,56,57,58,59,60,61,62,63,64,65,80] []
 (.chk (pix (pc o1 3) r4)
 (.call ⟨[],[]⟩ [] 61 68 [(pc (pn (pc o1 3) r4) 0),(pi 0),(pi 21)]
 (.ite (.nt r61)
 (.ret pF)
 (.chk (.nt (.an (.an (pgt r4 (pi 0)) pT) (.nt (pix (pc o1 3) (aO r4 (pi 1))))))
 (.chk (.nt (.an (.an (pgt r4 (pi 0)) pT) (.nt (pix (pc o1 3) r4))))
 (.ite (.pick (pgt r4 (pi 0)) (pge (pc (pn (pc o1 3) (aO r4 (pi 1))) 0) (pc (pn (pc o1 3) r4) 0)) pF)
 (.ret pF)
 (.next ⟨[],[]⟩)))))))
 (.next ⟨[(4,(aF r4 (pi 1)))],[]⟩))
 (.exit 2 ⟨[(48,r4),(49,pN),(50,(pc o1 3)),(51,vH),(52,(plt r4 vH))],[]⟩))
def mF (b:Nat→PC):PT:=
 (.brk ⟨[(3,(pi 0)),(2,pF)],[(1,(.mk [r0]))]⟩
(Bw b)
 (.brk ⟨[(4,(pi 0))],[]⟩
(BJ b)
 (.ret pT)))
def Gx (b:Nat→PC):PT×List (Shp×PT):=(mF b,[(.lp 0 [2,3,5,6,7,8,9] [] [2,3] [],cE b),(.lp 2 [2,4,48,49,50,51,52] [] [2,4] [],cD b)])
theorem gm:cf_r09_RightOrder.map told=some (Gx (aA cf_r09_RightOrder)):=by kernel_rfl
theorem Aq:tree gp=mF dP:=aj gm
theorem ff:round 0 [2,3,5,6,7,8,9] [] [2,3] [] (dP 0)=cE dP:=aw gm 0 fun _=>rfl
theorem fu:round 2 [2,4,48,49,50,51,52] [] [2,4] [] (dP 1)=cD dP:=aw gm 1 fun _=>rfl
theorem zh:cf_r09_RightOrder=some gp:=ah gm
noncomputable def cf_r09_usances:Option PC:=av {ctx with fr:=[2,3,5],nh:=[]} Tryz.f129 ((aa aq 129).getD default) [1,4]
noncomputable def mq:PC:=hpc cf_r09_usances
noncomputable def gD:Nat→PC:=hbd cf_r09_usances
def JE (b:Nat→PC):PC:=.block 2 [2,5,46,47,48] [] (.loop [2,5] [] (b 0))
def IM (b:Nat→PC):PC:=.block 0 [2,3,10,11,12,13,14] [] (.loop [2,3] [] (b 1))
def dg (b:Nat→PC):PT:=
 (.ite (plt r5 r3)
 (.chk (pix (pc o1 5) r5)
 (.chk (.nt (.an (.an (peq (pc (pn (pc o1 5) r5) 0) (pc o4 0)) pT) (.nt (pix (pc o1 5) r5))))
 (.ite (.pick (peq (pc (pn (pc o1 5) r5) 0) (pc o4 0)) (peq (pc (pn (pc o1 5) r5) 1) (pc o4 1)) pF)
 (.ret (pi 5))
 (.next ⟨[(5,Ep)],[]⟩))))
 (.exit 2 ⟨[(46,r5),(47,r3),(48,(plt r5 r3))],[]⟩))
def eT (b:Nat→PC):PT:=
 (.ite (plt r3 H6)
 (.blockS ⟨[(14,(plt r3 H6)),(13,H6),(12,(pc o1 5)),(11,pN),(10,r3)],[]⟩ 1 [2,4,5,17,18,19,20,21,22,23,24,25,26,27,28,29,30,39,40,45,46,47,48] [4]
 (.chk (pix (pc o1 5) r3)
 (.call ⟨[],[(4,(.setc z3 0 (pn (pc o1 5) r3)))]⟩ [] 28 68 [(pc (.setc z3 0 (pn (pc o1 5) r3)) 0),(pi 0),(aO sr (pi 1))]
 (.call ⟨[(30,(.nt r28))],[]⟩ [(30,false)] 37 68 [(pc o4 1),(pi 0),(aO sr (pi 1))]
 (.call ⟨[(40,(.pick r30 pT (.nt r37)))],[]⟩ [(40,false)] 43 68 [(pc o4 2),(pi 1),(pi 20000)]
 (.ite (.pick r40 pT (.nt r43))
 (.ret (pi 1))
 (.brk ⟨[(5,(pi 0))],[]⟩
(JE b)
 (.next ⟨[],[]⟩)))))))
 (.next ⟨[(3,KP)],[]⟩))
 (.exit 0 ⟨[(10,r3),(11,pN),(12,(pc o1 5)),(13,H6),(14,(plt r3 H6))],[]⟩))
def rG (b:Nat→PC):PT:=
 (.ite (pgt (.llen PL) (pi 100))
 (.ret (pi 6))
 (.brk ⟨[(3,(pi 0)),(2,(pi 0))],[(1,(.mk [r0]))]⟩
(IM b)
 (.ret (pi 0))))
def Pa (b:Nat→PC):PT×List (Shp×PT):=(rG b,[(.lp 2 [2,5,46,47,48] [] [2,5] [],dg b),(.lp 0 [2,3,10,11,12,13,14] [] [2,3] [],eT b)])
theorem lF:cf_r09_usances.map told=some (Pa (aA cf_r09_usances)):=by kernel_rfl
theorem Ff:tree mq=rG gD:=aj lF
theorem eG:round 2 [2,5,46,47,48] [] [2,5] [] (gD 0)=dg gD:=aw lF 0 fun _=>rfl
theorem je:round 0 [2,3,10,11,12,13,14] [] [2,3] [] (gD 1)=eT gD:=aw lF 1 fun _=>rfl
theorem GA:cf_r09_usances=some mq:=ah lF
noncomputable def cf_r09_others:Option PC:=av {ctx with fr:=[2,3,5],nh:=[]} Tryz.f130 ((aa aq 130).getD default) [1,4,6]
noncomputable def nN:PC:=hpc cf_r09_others
noncomputable def jL:Nat→PC:=hbd cf_r09_others
def LD (b:Nat→PC):PC:=.block 0 [2,3,11,12,13,14,15] [] (.loop [2,3] [] (b 0))
def Mh (b:Nat→PC):PC:=.block 2 [2,5,68,69,70,71,72] [] (.loop [2,5] [] (b 1))
def fS (b:Nat→PC):PT:=
 (.ite (plt r3 (.llen (pc o1 6)))
 (.blockS ⟨[],[]⟩ 1 [2,4,18,19,20,21,22,23,24,25,26,27,28,29,30,31,40,41,47,48,49,50,51,52,57,58,63] [4]
 (.chk (pix (pc o1 6) r3)
 (.call ⟨[],[(4,(.setc z5 0 (pn (pc o1 6) r3)))]⟩ [] 29 68 [(pc (.setc z5 0 (pn (pc o1 6) r3)) 0),(pi 0),(aO JT (pi 1))]
 (.call ⟨[(31,(.nt r29))],[]⟩ [(31,false)] 38 68 [(pc o4 1),(pi 0),(aO JT (pi 1))]
 (.ite (.pick (.pick r31 pT (.nt r38)) pT (peq (pc o4 0) (pc o4 1)))
 (.ret (pi 1))
 (.call ⟨[],[]⟩ [] 50 68 [(pc o4 2),(pi 1),(pi 1073741824)]
 (.call ⟨[(52,(.nt r50))],[]⟩ [(52,false)] 55 68 [(pc o4 3),(pi 1),(pi 1073741824)]
 (.call ⟨[(58,(.pick r52 pT (.nt r55)))],[]⟩ [(58,false)] 61 68 [(pc o4 4),(pi 0),(pi 100000)]
 (.ite (.pick r58 pT (.nt r61))
 (.ret (pi 1))
 (.next ⟨[],[]⟩)))))))))
 (.next ⟨[(3,KP)],[]⟩))
 (.exit 0 ⟨[(11,r3),(12,pN),(13,(pc o1 6)),(14,(.llen (pc o1 6))),(15,(plt r3 (.llen (pc o1 6))))],[]⟩))
def fP (b:Nat→PC):PT:=
 (.ite (plt r5 DO)
 (.blockS ⟨[],[]⟩ 3 [2,6,75,76,77,78,79,80,81,82,83,84,85,86,87,88,95,96,100] [6]
 (.chk (pix (pc o1 7) r5)
 (.call ⟨[],[(6,(.setc z3 0 (pn (pc o1 7) r5)))]⟩ [] 86 68 [(pc (.setc z3 0 (pn (pc o1 7) r5)) 0),(pi 0),(aO xP (pi 1))]
 (.call ⟨[(88,(.nt r86))],[]⟩ [(88,false)] 93 68 [(pc o6 1),(pi 0),(pc o6 2)]
 (.ite (.pick (.pick r88 pT (.nt r93)) pT (pgt (pc o6 2) (pi 100000)))
 (.ret (pi 1))
 (.next ⟨[],[]⟩)))))
 (.next ⟨[(5,Ep)],[]⟩))
 (.exit 2 ⟨[(68,r5),(69,pN),(70,(pc o1 7)),(71,DO),(72,(plt r5 DO))],[]⟩))
def uE (b:Nat→PC):PT:=
 (.ite (pgt (.llen (pc (.mk [r0]) 6)) (pi 100))
 (.ret (pi 6))
 (.brk ⟨[(3,(pi 0)),(2,(pi 0))],[(1,(.mk [r0]))]⟩
(LD b)
 (.ite (pgt DO (pi 20))
 (.ret (pi 6))
 (.brk ⟨[(5,(pi 0))],[]⟩
(Mh b)
 (.ret (pi 0))))))
def QZ (b:Nat→PC):PT×List (Shp×PT):=(uE b,[(.lp 0 [2,3,11,12,13,14,15] [] [2,3] [],fS b),(.lp 2 [2,5,68,69,70,71,72] [] [2,5] [],fP b)])
theorem nU:cf_r09_others.map told=some (QZ (aA cf_r09_others)):=by kernel_rfl
theorem Hv:tree nN=uE jL:=aj nU
theorem kK:round 0 [2,3,11,12,13,14,15] [] [2,3] [] (jL 0)=fS jL:=aw nU 0 fun _=>rfl
theorem kG:round 2 [2,5,68,69,70,71,72] [] [2,5] [] (jL 1)=fP jL:=aw nU 1 fun _=>rfl
theorem IC:cf_r09_others=some nN:=ah nU
noncomputable def cf_l23_BindGrows:Option PC:=av {ctx with fr:=[10,11,13,14,15,16],nh:=[]} Tryz.f5 ((aa aq 5).getD default) [5,7,12]
noncomputable def vE:PC:=hpc cf_l23_BindGrows
def DI (b:Nat→PC):PC:=.block 0 [13,35,36,37,38] [12] (.loop [13] [12] (b 0))
def Ev (b:Nat→PC):PC:=.block 2 [10,16,62,63,64,65] [] (.loop [10,16] [] (b 1))
def Ef (b:Nat→PC):PT:=
 (.ite (plt r13 (.llen r4))
 (.blockS ⟨[],[]⟩ 1 [41,42,43,44,45,46] [12]
 (.chk (pix r4 r13)
 (.call ⟨[],[]⟩ [] 46 25 [(mkA 19 o12),(pn r4 r13)]
 (.next ⟨[],[(12,(.setc o12 0 r46))]⟩)))
 (.next ⟨[(13,(aF r13 (pi 1)))],[]⟩))
 (.exit 0 ⟨[(35,r13),(36,r4),(37,(.llen r4)),(38,(plt r13 (.llen r4)))],[]⟩))
def Em (b:Nat→PC):PT:=
 (.ite (plt r16 (.llen r14))
 (.chk Au
 (.chk (.nt (.an (.an (pne (pc mV 3) (pi 2)) pT) (.nt (pix r15 r16))))
 (.chk (.nt (.an (.an (pne (pc mV 3) (pi 2)) pT) (.nt Au)))
 (.chk (.nt (.an abv (.nt Au)))
 (.chk (.nt (.an (.an (pne (pc mV 4) (pi 2)) abv) (.nt (pix r15 r16))))
 (.chk (.nt (.an (.an (pne (pc mV 4) (pi 2)) abv) (.nt Au)))
 (.chk (.nt (.an (.an (.nt aci) pT) (.nt (pix r15 r16))))
 (.chk (.nt (.an (.an (.nt aci) pT) (.nt Au)))
 (.chk (.nt (.an (.an (.nt ab5) pT) (.nt Au)))
 (.chk (.nt (.an (.an (.nt ab5) pT) (.nt (pix r15 r16))))
 (.ite (.pick ab5 pT (.cb .neq (pc mV 6) (pc (pn r15 r16) 6)))
 (.ret pF)
 (.next ⟨[(16,IK)],[]⟩))))))))))))
 (.exit 2 ⟨[(62,r16),(63,r14),(64,(.llen r14)),(65,(plt r16 (.llen r14)))],[]⟩))
def Jw (b:Nat→PC):PT:=
 (.call ⟨[(10,pF)],[(7,(.mk [r2])),(5,(.mk [r0]))]⟩ [] 17 15 []
 (.call ⟨[(11,r17)],[]⟩ [] 20 16 [(mkA 8 o5),(mkA 19 o7)]
 (.call ⟨[(22,(.nt r20))],[]⟩ [(22,false)] 25 24 [(mkA 8 o5),(mkA 19 o7)]
 (.ite (.pick (.pick r22 pT (pne r25 (pi 0))) pT (pgt (.llen r4) (pi 60)))
 (.ret r11)
 (.brk ⟨[(13,(pi 0))],[(12,(.setc DJ 0 (mkA 19 o7)))]⟩
(DI b)
 (.call ⟨[],[]⟩ [] 51 20 [(mkA 8 o5),r1,(mkA 19 o7),r3]
 (.call ⟨[(14,r51)],[]⟩ [] 56 20 [(mkA 8 o5),r1,(mkA 19 o12),r3]
 (.ite (pne (.llen r14) (.llen r56))
 (.ret pF)
 (.brk ⟨[(16,(pi 0)),(15,r56)],[]⟩
(Ev b)
 (.ret r11))))))))))
def JO (b:Nat→PC):PT×List (Shp×PT):=(Jw b,[(.lp 0 [13,35,36,37,38] [12] [13] [12],Ef b),(.lp 2 [10,16,62,63,64,65] [] [10,16] [],Em b)])
theorem IB:cf_l23_BindGrows.map told=some (JO (aA cf_l23_BindGrows)):=by kernel_rfl
theorem BB:cf_l23_BindGrows=some vE:=ah IB
noncomputable def cf_r12_Check:Option PC:=av {ctx with fr:=[4,5,6,7,8,9,10],nh:=[]} Tryz.f24 ((aa aq 24).getD default) [2,3]
noncomputable def q5:PC:=hpc cf_r12_Check
noncomputable def cT:Nat→PC:=hbd cf_r12_Check
def Ok (b:Nat→PC):PC:=.block 0 [5,6,45,46,47,48,49,50,53] [] (.loop [5,6] [] (b 0))
def OO (b:Nat→PC):PC:=.block 2 [5,7,60,61,62,63,64,65,68] [] (.loop [5,7] [] (b 1))
def Po (b:Nat→PC):PC:=.block 4 [5,9,101,102,103,104,105,106,109] [] (.loop [5,9] [] (b 2))
def OL (b:Nat→PC):PC:=.block 6 [5,10,116,117,118,119,120,121,124] [] (.loop [5,10] [] (b 3))
def mg (b:Nat→PC):PT:=
 (.ite (.pick (plt r6 J3) FZ pF)
 (.blockS ⟨[],[]⟩ 1 [5,56,57,58,59] []
 (.call ⟨[],[]⟩ [] 59 67 [(mkA 8 o2),(mkA 19 o3),r6]
 (.next ⟨[(5,r59)],[]⟩))
 (.next ⟨[(6,(aF r6 (pi 1)))],[]⟩))
 (.exit 0 ⟨[(45,r6),(46,pN),(47,(pc o3 15)),(48,J3),(49,(plt r6 J3)),(50,(plt r6 J3)),(53,(.pick (plt r6 J3) FZ pF))],[]⟩))
def gH (b:Nat→PC):PT:=
 (.ite (.pick Uk FZ pF)
 (.blockS ⟨[],[]⟩ 3 [5,8,71,72,81,82,83,84,85,86,87,88,89,90,91,92] []
 (.ite (pgt r7 (pi 0))
 (.chk (pix (pc o3 16) (aO r7 (pi 1)))
 (.chk (pix (pc o3 16) r7)
 (.call ⟨[],[]⟩ [] 91 68 [(pc (pn (pc o3 16) r7) 0),(aF (pc (pn (pc o3 16) (aO r7 (pi 1))) 0) (pi 1)),J3]
 (.iteS ⟨[],[]⟩ (.nt r91) [5] []
 (.next ⟨[(5,(pi 1))],[]⟩)
 (.chk (pix (pc o3 16) r7)
 (.call ⟨[],[]⟩ [] 99 68 [(pc (pn (pc o3 16) r7) 1),(pi 1),HU]
 (.next ⟨[(5,(.pick (.nt r99) (pi 3) r5))],[]⟩)))
 (.next ⟨[],[]⟩)))))
 (.chk (pix (pc o3 16) r7)
 (.call ⟨[],[]⟩ [] 91 68 [(pc (pn (pc o3 16) r7) 0),(pi 1),J3]
 (.iteS ⟨[],[]⟩ (.nt r91) [5] []
 (.next ⟨[(5,(pi 1))],[]⟩)
 (.chk (pix (pc o3 16) r7)
 (.call ⟨[],[]⟩ [] 99 68 [(pc (pn (pc o3 16) r7) 1),(pi 1),HU]
 (.next ⟨[(5,(.pick (.nt r99) (pi 3) r5))],[]⟩)))
 (.next ⟨[],[]⟩)))))
 (.next ⟨[(7,(aF r7 (pi 1)))],[]⟩))
 (.exit 2 ⟨[(60,r7),(61,pN),(62,(pc o3 16)),(63,(.llen (pc o3 16))),(64,Uk),(65,Uk),(68,(.pick Uk FZ pF))],[]⟩))
def lI (b:Nat→PC):PT:=
 (.ite (.pick UD FZ pF)
 (.blockS ⟨[],[]⟩ 5 [5,112,113,114,115] []
 (.call ⟨[],[]⟩ [] 115 69 [(mkA 8 o2),(mkA 19 o3),r9]
 (.next ⟨[(5,akh)],[]⟩))
 (.next ⟨[(9,(aF r9 (pi 1)))],[]⟩))
 (.exit 4 ⟨[(101,r9),(102,pN),(103,(pc o3 17)),(104,(.llen (pc o3 17))),(105,UD),(106,UD),(109,(.pick UD FZ pF))],[]⟩))
def l9 (b:Nat→PC):PT:=
 (.ite (.pick (plt r10 J2) FZ pF)
 (.blockS ⟨[],[]⟩ 7 [5,127,128,129] []
 (.call ⟨[],[]⟩ [] 129 70 [(mkA 19 o3),r10]
 (.next ⟨[(5,akD)],[]⟩))
 (.next ⟨[(10,(aF r10 (pi 1)))],[]⟩))
 (.exit 6 ⟨[(116,r10),(117,pN),(118,(pc o3 18)),(119,J2),(120,(plt r10 J2)),(121,(plt r10 J2)),(124,(.pick (plt r10 J2) FZ pF))],[]⟩))
def wW (b:Nat→PC):PT:=
 (.ite (.pick (.pick (.pick (pgt (.llen (pc (.mk [r1]) 15)) (pi 40)) pT (pgt (.llen (pc (.mk [r1]) 16)) (pi 4))) pT (pgt (.llen (pc (.mk [r1]) 17)) (pi 100))) pT (pgt (.llen (pc (.mk [r1]) 18)) (pi 200)))
 (.ret (pi 6))
 (.call ⟨[],[(3,(.mk [r1])),(2,(.mk [r0]))]⟩ [] 36 66 [oJ,(mkA 15 (.mk [r1]))]
 (.brk ⟨[(6,(pi 0)),(5,(.pick (.pick (peq r36 (pi 0)) (peq J3 (pi 0)) pF) (pi 14) r36))],[]⟩
(Ok b)
 (.brk ⟨[(7,(pi 0))],[]⟩
(OO b)
 (.brk ⟨[(9,(pi 0))],[]⟩
(Po b)
 (.brk ⟨[(10,(pi 0))],[]⟩
(OL b)
 (.ret r5)))))))
def To (b:Nat→PC):PT×List (Shp×PT):=(wW b,[(.lp 0 [5,6,45,46,47,48,49,50,53] [] [5,6] [],mg b),(.lp 2 [5,7,60,61,62,63,64,65,68] [] [5,7] [],gH b),(.lp 4 [5,9,101,102,103,104,105,106,109] [] [5,9] [],lI b),(.lp 6 [5,10,116,117,118,119,120,121,124] [] [5,10] [],l9 b)])
theorem iU:cf_r12_Check.map told=some (To (aA cf_r12_Check)):=by kernel_rfl
theorem LB:tree q5=wW cT:=aj iU
theorem tC:round 0 [5,6,45,46,47,48,49,50,53] [] [5,6] [] (cT 0)=mg cT:=aw iU 0 fun _=>rfl
theorem lN:round 2 [5,7,60,61,62,63,64,65,68] [] [5,7] [] (cT 1)=gH cT:=aw iU 1 fun _=>rfl
theorem tD:round 4 [5,9,101,102,103,104,105,106,109] [] [5,9] [] (cT 2)=lI cT:=aw iU 2 fun _=>rfl
theorem uf:round 6 [5,10,116,117,118,119,120,121,124] [] [5,10] [] (cT 3)=l9 cT:=aw iU 3 fun _=>rfl
theorem Mo:cf_r12_Check=some q5:=ah iU
noncomputable def cf_r10_Check:Option PC:=av {ctx with fr:=[4,5,6,7,8,9],nh:=[]} Tryz.f66 ((aa aq 66).getD default) [2,3]
noncomputable def qC:PC:=hpc cf_r10_Check
def xD:PT:=
 (.call ⟨[],[(3,(.mk [r1])),(2,(.mk [r0]))]⟩ [] 11 60 [oJ]
 (.ite (pne r11 (pi 0))
 (.ret r11)
 (.call ⟨[(7,(.llen (pc o2 1))),(6,(.llen (pc o2 3)))],[]⟩ [] 24 138 [(pc o3 0),(.llen (pc o2 3))]
 (.call ⟨[(26,(.nt r24))],[]⟩ [(26,false)] 30 138 [(pc o3 1),r6]
 (.call ⟨[(33,(.pick r26 pT (.nt r30)))],[]⟩ [(33,false)] 37 139 [(pc o3 2),r6]
 (.call ⟨[(40,(.pick r33 pT (.nt r37)))],[]⟩ [(40,false)] 44 139 [(pc o3 11),r6]
 (.call ⟨[(47,(.pick r40 pT (.nt r44)))],[]⟩ [(47,false)] 53 138 [(pc o3 4),(.llen (pc o2 0))]
 (.call ⟨[(56,(.pick r47 pT (.nt r53)))],[]⟩ [(56,false)] 60 138 [(pc o3 9),r7]
 (.call ⟨[(63,(.pick r56 pT (.nt r60)))],[]⟩ [(63,false)] 67 138 [(pc o3 10),r7]
 (.ite (.pick r63 pT (.nt r67))
 (.ret (pi 1))
 (.call ⟨[(78,(.pick (plt (pc o3 3) (pi 1)) pT (pgt (pc o3 3) HU)))],[]⟩ [(78,false)] 81 140 [(pc o3 8)]
 (.ite (.pick (.pick (.pick r78 pT (.nt r81)) pT (plt (pc o3 12) (pi 0))) pT (pgt (pc o3 12) (pi 1000)))
 (.ret (pi 3))
 (.ite (.pick (plt (pc o3 14) (pi 1)) pT (pgt (pc o3 14) (pi 4)))
 (.ret (pi 15))
 (.call ⟨[(121,(.pick (.pick (plt (pc o3 13) (pi 0)) pT (pgt (pc o3 13) (pi 7))) pT (.pick (peq (pc o3 2) (pi (-1))) (pne (.ai .and .i64 (pc o3 13) (pi 4)) (pi 0)) pF)))],[]⟩ [(121,false)] 123 141 [(mkA 15 o3)]
 (.ite (.pick ahe pT (.nt ag6))
 (.ret (pi 2))
 (.ite (pne (pc o3 5) (pi 4))
 (.ret (pi 0))
 (.call ⟨[],[]⟩ [] 136 142 [(mkA 8 o2),(pc o3 9),(pc o3 10)]
 (.ret (.tget (.r 136) 1)))))))))))))))))))
def UE (b:Nat→PC):PT×List (Shp×PT):=(xD,[])
theorem Fs:cf_r10_Check.map told=some (UE (aA cf_r10_Check)):=by kernel_rfl
theorem tr_r10_Check_eq:tree qC=xD:=aj Fs
theorem K1:cf_r10_Check=some qC:=ah Fs
noncomputable def cf_r10_at:Option PC:=av {ctx with fr:=[4],nh:=[]} Tryz.f138 ((aa aq 138).getD default) []
noncomputable def AX:PC:=hpc cf_r10_at
def Jc:PT:=
 (.ret XG)
def aaL (b:Nat→PC):PT×List (Shp×PT):=(Jc,[])
theorem Sc:cf_r10_at.map told=some (aaL (aA cf_r10_at)):=by kernel_rfl
theorem TX:tree AX=Jc:=aj Sc
theorem UJ:cf_r10_at=some AX:=ah Sc
noncomputable def cf_r10_none:Option PC:=av {ctx with fr:=[4],nh:=[]} Tryz.f139 ((aa aq 139).getD default) []
noncomputable def ue:PC:=hpc cf_r10_none
def tG:PT:=
 (.call ⟨[(7,(peq r0 (pi (-1))))],[]⟩ [(7,false)] 10 138 [r0,r1]
 (.ret (.pick r7 pT r10)))
def Xq (b:Nat→PC):PT×List (Shp×PT):=(tG,[])
theorem Kt:cf_r10_none.map told=some (Xq (aA cf_r10_none)):=by kernel_rfl
theorem zu:tree ue=tG:=aj Kt
theorem M8:cf_r10_none=some ue:=ah Kt
noncomputable def cf_r04_Valid:Option PC:=av {ctx with fr:=[2],nh:=[]} Tryz.f140 ((aa aq 140).getD default) []
noncomputable def q8:PC:=hpc cf_r04_Valid
def wQ:PT:=
 (.ret (.pick (pge r0 (pi 0)) (ple r0 (pi 100000)) pF))
def Ud (b:Nat→PC):PT×List (Shp×PT):=(wQ,[])
theorem FC:cf_r04_Valid.map told=some (Ud (aA cf_r04_Valid)):=by kernel_rfl
theorem La:tree q8=wQ:=aj FC
theorem LI:cf_r04_Valid=some q8:=ah FC
noncomputable def cf_r10_Tenor:Option PC:=av {ctx with fr:=[2],nh:=[]} Tryz.f141 ((aa aq 141).getD default) [1,3]
noncomputable def rk:PC:=hpc cf_r10_Tenor
def xA:PT:=
 (.ite (.pick (peq (pc F1 0) (pi 0)) pT (peq (pc F1 0) (pi 4)))
 (.ret (.pick (peq (pc F1 1) (pi 0)) (peq (pc F1 2) (pi 0)) pF))
 (.ite (.pick (peq (pc F1 0) (pi 1)) pT (peq (pc F1 0) (pi 2)))
 (.ret (.pick (.pick (pge (pc F1 1) (pi 1)) (ple (pc F1 1) (pi 400)) pF) (.pick (peq (pc F1 2) (pi 0)) pT (peq (pc F1 2) (pi 1))) pF))
 (.ret (.pick (.pick (.pick (peq (pc F1 0) (pi 3)) (pge (pc F1 1) (pc (.mk [r0]) 8)) pF) (ple (pc F1 1) (pi 100000)) pF) (peq (pc F1 2) (pi 0)) pF))))
def Uu (b:Nat→PC):PT×List (Shp×PT):=(xA,[])
theorem Fe:cf_r10_Tenor.map told=some (Uu (aA cf_r10_Tenor)):=by kernel_rfl
theorem L5:tree rk=xA:=aj Fe
theorem Ma:cf_r10_Tenor=some rk:=ah Fe
noncomputable def cf_r09_Usance:Option PC:=av {ctx with fr:=[6,7,8],nh:=[]} Tryz.f142 ((aa aq 142).getD default) [3]
noncomputable def om:PC:=hpc cf_r09_Usance
noncomputable def ur:Nat→PC:=hbd cf_r09_Usance
def LG (b:Nat→PC):PC:=.block 0 [6,7,8,9,10,11,12,13] [] (.loop [6,7,8] [] (b 0))
def ki (b:Nat→PC):PT:=
 (.ite (plt r8 (.llen (pc o3 5)))
 (.chk (pix (pc o3 5) r8)
 (.chk (.nt (.an (.an (peq (pc (pn (pc o3 5) r8) 0) r1) pT) (.nt (pix (pc o3 5) r8))))
 (.ite (.pick (peq (pc (pn (pc o3 5) r8) 0) r1) (peq (pc (pn (pc o3 5) r8) 1) r2) pF)
 (.ret (.tup [(pc (pn (pc o3 5) r8) 2),(pi 0)]))
 (.next ⟨[(8,B9)],[]⟩))))
 (.exit 0 ⟨[(9,r8),(10,pN),(11,(pc o3 5)),(12,(.llen (pc o3 5))),(13,(plt r8 (.llen (pc o3 5))))],[]⟩))
def vc (b:Nat→PC):PT:=
 (.brk ⟨[(8,(pi 0)),(7,(pi 0)),(6,(pi 0))],[(3,(.mk [r0]))]⟩
(LG b)
 (.ret (.tup [(pi 0),(pi 4)])))
def QI (b:Nat→PC):PT×List (Shp×PT):=(vc b,[(.lp 0 [6,7,8,9,10,11,12,13] [] [6,7,8] [],ki b)])
theorem ve:cf_r09_Usance.map told=some (QI (aA cf_r09_Usance)):=by kernel_rfl
theorem HM:tree om=vc ur:=aj ve
theorem sE:round 0 [6,7,8,9,10,11,12,13] [] [6,7,8] [] (ur 0)=ki ur:=aw ve 0 fun _=>rfl
theorem JL:cf_r09_Usance=some om:=ah ve
noncomputable def cf_r12_signs:Option PC:=av {ctx with fr:=[6,8],nh:=[]} Tryz.f67 ((aa aq 67).getD default) [3,4,7]
noncomputable def rj:PC:=hpc cf_r12_signs
noncomputable def xx:Nat→PC:=hbd cf_r12_signs
def rH (b:Nat→PC):PC:=.block 0 [6,8,72,73,74,75,79] [] (.loop [6,8] [] (b 0))
def gC (b:Nat→PC):PT:=
 (.ite (.pick (plt r8 r2) (peq (pc o7 0) (pi 1)) pF)
 (.chk (pix (pc o4 15) r8)
 (.chk (.nt (.an (.an (peq (pc (pn (pc o4 15) r8) 0) (pi 1)) pT) (.nt (pix (pc o4 15) r8))))
 (.ite (.pick (peq (pc (pn (pc o4 15) r8) 0) (pi 1)) (peq (pc (pn (pc o4 15) r8) 1) (pc o7 1)) pF)
 (.ret (pi 5))
 (.next ⟨[(8,B9)],[]⟩))))
 (.exit 0 ⟨[(72,r8),(73,r2),(74,(plt r8 r2)),(75,(plt r8 r2)),(79,(.pick (plt r8 r2) (peq (pc o7 0) (pi 1)) pF))],[]⟩))
def wR (b:Nat→PC):PT:=
 (.chk (pix (pc (.mk [r1]) 15) r2)
 (.call ⟨[(6,(pi 0))],[(7,ZI),(4,(.mk [r1])),(3,(.mk [r0]))]⟩ [] 20 68 [(pc ZI 1),(pi 0),(aO (pc (.mk [r1]) 14) (pi 1))]
 (.ite (.nt r20)
 (.ret (pi 15))
 (.call ⟨[],[]⟩ [] 28 68 [(pc o7 2),(pi 0),(aO (.llen (pc o3 3)) (pi 1))]
 (.call ⟨[(30,(.nt r28))],[]⟩ [(30,false)] 37 68 [(pc o7 7),(pi 0),(aO (.llen (pc o3 1)) (pi 1))]
 (.ite (.pick r30 pT (.nt r37))
 (.ret (pi 1))
 (.ite (.pick (.pick (peq r2 (pi 0)) (pne (pc o7 6) (pc o4 8)) pF) pT (pgt (pc o7 6) (pi 100000)))
 (.ret (pi 13))
 (.ite (pgt r2 (pi 0))
 (.chk (pix (pc o4 15) Dr)
 (.ite (plt (pc o7 6) (pc (pn (pc o4 15) Dr) 6))
 (.ret (pi 13))
 (.call ⟨[],[]⟩ [] 70 143 [(mkA 8 o3),(mkA 19 o4),r2]
 (.ite (.nt r70)
 (.ret (pi 14))
 (.brk ⟨[(8,(pi 0))],[]⟩
(rH b)
 (.ret (pi 0)))))))
 (.call ⟨[],[]⟩ [] 70 143 [(mkA 8 o3),(mkA 19 o4),r2]
 (.ite (.nt r70)
 (.ret (pi 14))
 (.brk ⟨[(8,(pi 0))],[]⟩
(rH b)
 (.ret (pi 0)))))))))))))
def TH (b:Nat→PC):PT×List (Shp×PT):=(wR b,[(.lp 0 [6,8,72,73,74,75,79] [] [6,8] [],gC b)])
theorem xf:cf_r12_signs.map told=some (TH (aA cf_r12_signs)):=by kernel_rfl
theorem tr_r12_signs_eq:tree rj=wR xx:=aj xf
theorem mf:round 0 [6,8,72,73,74,75,79] [] [6,8] [] (xx 0)=gC xx:=aw xf 0 fun _=>rfl
theorem LA:cf_r12_signs=some rj:=ah xf
noncomputable def cf_r12_Fits:Option PC:=av {ctx with fr:=[6,8,21,71,101,9,10,146,179],nh:=[]} Tryz.f143 ((aa aq 143).getD default) [3,4,7]
noncomputable def tz:PC:=hpc cf_r12_Fits
def zC:PT:=
 (.chk (pix (pc (.mk [r1]) 15) r2)
 (.call ⟨[],[(7,ZI),(4,(.mk [r1])),(3,(.mk [r0]))]⟩ [] 18 68 [(pc ZI 5),(pi 1),HU]
 (.blockS ⟨[(20,(pc o7 0)),(8,r18)],[]⟩ 0 [6,21,22,71,72,101,102,146,147,179,180] []
 (.iteS ⟨[],[]⟩ (peq r20 (pi 0)) [6,71,72,101,102,146,147,179,180] []
 (.ret (.pick (.pick (.pick (.pick (.pick (.pick (.pick (peq r2 (pi 0)) (peq (pc o7 2) (pc o4 0)) pF) (peq (pc o7 3) (pi (-1))) pF) (peq (pc o7 4) (pi (-1))) pF) (peq (pc o7 5) (pi 0)) pF) (.pick (peq (pc o7 8) (pi 0)) pT (peq (pc o7 8) (pi 1))) pF) (peq (pc o7 1) (pi 0)) pF) (peq (pc o7 7) (pc o4 9)) pF))
 (.iteS ⟨[],[]⟩ (peq r20 (pi 1)) [6,101,102,146,147,179,180] []
 (.ret (.pick (.pick (.pick (.pick (.pick (pgt r2 (pi 0)) (peq (pc o7 2) (pc o4 1)) pF) (peq (pc o7 3) (pi (-1))) pF) (peq (pc o7 4) (pi (-1))) pF) r8 pF) (peq (pc o7 8) (pi 0)) pF))
 (.iteS ⟨[],[]⟩ (peq r20 (pi 2)) [6,146,147,179,180] []
 (.chk (pne (pi 2) (pi 0))
 (.chk (pne (pi 4) (pi 0))
 (.call ⟨[(120,(.pick (pgt r2 (pi 0)) (peq (pc o7 3) (pi (-1))) pF)),(10,(peq (.ai .rem .i64 (.ai .quo .i64 (pc o7 8) (pi 4)) (pi 2)) (pi 1))),(9,(peq (.ai .rem .i64 (.ai .quo .i64 (pc o7 8) (pi 2)) (pi 2)) (pi 1)))],[]⟩ [(120,true)] 127 68 [(pc o7 4),(pi (-1)),(aO (.llen (pc o3 3)) (pi 1))]
 (.call ⟨[(134,(.pick (.pick ahS agN pF) (peq (pc o7 5) (pi 0)) pF))],[]⟩ [(134,true)] 137 68 [(pc o7 8),(pi 0),(pi 7)]
 (.ret (.pick (.pick (.r 134) (.r 137) pF) (.nt (.pick r9 r10 pF)) pF))))))
 (.iteS ⟨[],[]⟩ (peq r20 (pi 3)) [6,179,180] []
 (.call ⟨[(165,(.pick (.pick (.pick (peq r2 (pi 0)) pT (pne (pc o7 4) (pi (-1)))) pT (pne (pc o7 5) (pi 0))) pT (pne (pc o7 8) (pi 0))))],[]⟩ [(165,false)] 168 198 [(mkA 19 o4),r2]
 (.ite (.pick (.r 165) pT (.nt (.r 168)))
 (.ret pF)
 (.chk (pix (pc o4 15) (pc o7 3))
 (.ret (pne Zm (pi 3))))))
 (.iteS ⟨[],[]⟩ (peq r20 (pi 4)) [6] []
 (.call ⟨[(205,(.pick (.pick (.pick (.pick (peq r2 (pi 0)) pT (pne (pc o7 4) (pi (-1)))) pT (.nt r8)) pT (pne (pc o7 8) (pi 0))) pT (peq (pc o7 2) (pc o4 1))))],[]⟩ [(205,false)] 208 198 [(mkA 19 o4),r2]
 (.ite (.pick (.r 205) pT (.nt (.r 208)))
 (.ret pF)
 (.chk (pix (pc o4 15) (pc o7 3))
 (.chk (.nt (.an (.an (.nt (peq Zm (pi 0))) pT) (.nt (pix (pc o4 15) (pc o7 3)))))
 (.ret (.pick (peq Zm (pi 0)) pT (peq Zm (pi 2))))))))
 (.next ⟨[],[]⟩)
 (.next ⟨[],[]⟩))
 (.next ⟨[],[]⟩))
 (.next ⟨[],[]⟩))
 (.next ⟨[],[]⟩))
 (.next ⟨[],[]⟩))
 (.ret pF))))
def Vn (b:Nat→PC):PT×List (Shp×PT):=(zC,[])
theorem J5:cf_r12_Fits.map told=some (Vn (aA cf_r12_Fits)):=by kernel_rfl
theorem tr_r12_Fits_eq:tree tz=zC:=aj J5
theorem NS:cf_r12_Fits=some tz:=ah J5
noncomputable def cf_r12_backs:Option PC:=av {ctx with fr:=[4,5],nh:=[]} Tryz.f198 ((aa aq 198).getD default) [2]
noncomputable def re:PC:=hpc cf_r12_backs
def w9:PT:=
 (.chk (pix AN r1)
 (.call ⟨[(5,(pc (pn AN r1) 3))],[(2,(.mk [r0]))]⟩ [] 15 68 [(pc (pn AN r1) 3),(pi 0),(aO r1 (pi 1))]
 (.chk (.nt (.an (.an r15 pT) (.nt (pix (pc o2 15) r1))))
 (.call ⟨[(16,r15)],[]⟩ [(16,true)] 25 199 [(mkA 19 o2),r5,(pc (pn (pc o2 15) r1) 1)]
 (.ret (.pick r16 r25 pF))))))
def Ur (b:Nat→PC):PT×List (Shp×PT):=(w9,[])
theorem Fv:cf_r12_backs.map told=some (Ur (aA cf_r12_backs)):=by kernel_rfl
theorem tr_r12_backs_eq:tree re=w9:=aj Fv
theorem MK:cf_r12_backs=some re:=ah Fv
noncomputable def cf_r12_On:Option PC:=av {ctx with fr:=[6],nh:=[]} Tryz.f199 ((aa aq 199).getD default) [3]
noncomputable def AW:PC:=hpc cf_r12_On
def H0:PT:=
 (.chk (.nt (.an (.an (.nt (peq r1 (pi 0))) pT) (.nt (pix AN r1))))
 (.ret (.pick (peq r1 (pi 0)) pT (peq (pc (pn AN r1) 1) r2))))
def aad (b:Nat→PC):PT×List (Shp×PT):=(H0,[])
theorem SX:cf_r12_On.map told=some (aad (aA cf_r12_On)):=by kernel_rfl
theorem Uf:tree AW=H0:=aj SX
theorem T5:cf_r12_On=some AW:=ah SX
noncomputable def cf_r12_acts:Option PC:=av {ctx with fr:=[6],nh:=[]} Tryz.f69 ((aa aq 69).getD default) [3,4,7]
noncomputable def tL:PC:=hpc cf_r12_acts
def yV:PT:=
 (.chk (pix (pc (.mk [r1]) 17) r2)
 (.call ⟨[],[(7,(.setc z9 0 (pn (pc (.mk [r1]) 17) r2))),(4,(.mk [r1])),(3,(.mk [r0]))]⟩ [] 19 68 [(pc (.setc z9 0 (pn (pc (.mk [r1]) 17) r2)) 3),(pi 0),(aO (pc (.mk [r1]) 14) (pi 1))]
 (.ite (.nt r19)
 (.ret (pi 15))
 (.call ⟨[],[]⟩ [] 27 68 [(pc o7 7),(pi 0),(aO (.llen (pc o3 1)) (pi 1))]
 (.call ⟨[(29,(.nt r27))],[]⟩ [(29,false)] 32 68 [(pc o7 0),(pi 0),(pi 9)]
 (.ite (.pick r29 pT (.nt r32))
 (.ret (pi 1))
 (.call ⟨[],[]⟩ [] 38 144 [(mkA 8 o3),(mkA 19 o4),(mkA 9 o7)]
 (.ite (.nt r38)
 (.ret (pi 14))
 (.ite (.pick (plt (pc o7 6) (pc o4 8)) pT (pgt (pc o7 6) (pi 100000)))
 (.ret (pi 13))
 (.ite (pge (pc o7 4) (pi 0))
 (.chk (pix (pc o4 15) (pc o7 4))
 (.ite (plt (pc o7 6) (pc (pn (pc o4 15) (pc o7 4)) 6))
 (.ret (pi 13))
 (.ite (pgt r2 (pi 0))
 (.chk (pix (pc o4 17) Dr)
 (.ite (plt (pc o7 6) (pc (pn (pc o4 17) Dr) 6))
 (.ret (pi 13))
 (.ret (pi 0))))
 (.ret (pi 0)))))
 (.ite (pgt r2 (pi 0))
 (.chk (pix (pc o4 17) Dr)
 (.ite (plt (pc o7 6) (pc (pn (pc o4 17) Dr) 6))
 (.ret (pi 13))
 (.ret (pi 0))))
 (.ret (pi 0)))))))))))))
def Wx (b:Nat→PC):PT×List (Shp×PT):=(yV,[])
theorem Kz:cf_r12_acts.map told=some (Wx (aA cf_r12_acts)):=by kernel_rfl
theorem tr_r12_acts_eq:tree tL=yV:=aj Kz
theorem P6:cf_r12_acts=some tL:=ah Kz
noncomputable def cf_r12_Acted:Option PC:=av {ctx with fr:=[6,7,8,9,10,56,76,93,114,133,151],nh:=[]} Tryz.f144 ((aa aq 144).getD default) [3,4,5]
noncomputable def qU:PC:=hpc cf_r12_Acted
def wv:PT:=
 (.call ⟨[],[(5,(.mk [r2])),(4,(.mk [r1])),(3,(.mk [r0]))]⟩ [] 17 68 [(pc (.mk [r2]) 1),(pi 0),(aO (.llen (pc (.mk [r0]) 3)) (pi 1))]
 (.ite (.nt r17)
 (.ret pF)
 (.call ⟨[],[]⟩ [] 25 68 [(pc o5 2),(pi 0),(aO (.llen (pc o3 3)) (pi 1))]
 (.call ⟨[(7,r25)],[]⟩ [] 28 68 [(pc o5 5),(pi 0),HU]
 (.call ⟨[(8,r28)],[]⟩ [] 35 68 [(pc o5 4),(pi 0),(aO (.llen (pc o4 15)) (pi 1))]
 (.iteS ⟨[(9,r35)],[]⟩ r35 [9] []
 (.call ⟨[],[]⟩ [] 42 199 [(mkA 19 o4),(pc o5 4),(pc o5 3)]
 (.next ⟨[(9,r42)],[]⟩))
 (.next ⟨[],[]⟩)
 (.ite r9
 (.chk (pix (pc o4 15) (pc o5 4))
 (.ite ael
 (.ret (.pick (.pick Vy WX pF) Cd pF))
 (.ite acg
 (.ret (.pick (.pick Vy r8 pF) Cd pF))
 (.ite (peq (pc o5 0) (pi 4))
 (.ret abt)
 (.ite (peq (pc o5 0) (pi 6))
 (.ret (.pick (.pick (.pick (.pick r7 (peq (pc (pn (pc o4 15) (pc o5 4)) 2) (pc o5 1)) pF) r8 pF) (pgt (pc o5 5) (pi 0)) pF) Cd pF))
 (.ite (peq (pc o5 0) (pi 9))
 (.ret (.pick (.pick (.pick (peq (pc o5 2) (pi (-1))) (peq (pc (pn (pc o4 15) (pc o5 4)) 2) (pc o5 1)) pF) WX pF) Cd pF))
 (.ite acA
 (.ret abH)
 (.ret pF))))))))
 (.ite ael
 (.ret (.pick (.pick Vy WX pF) Cd pF))
 (.ite acg
 (.ret (.pick (.pick Vy r8 pF) Cd pF))
 (.ite (peq (pc o5 0) (pi 4))
 (.ret abt)
 (.ite (peq (pc o5 0) (pi 6))
 (.ret (.pick (.pick (.pick (.pick r7 pF pF) r8 pF) (pgt (pc o5 5) (pi 0)) pF) Cd pF))
 (.ite (peq (pc o5 0) (pi 9))
 (.ret (.pick (.pick (.pick (peq (pc o5 2) (pi (-1))) pF pF) WX pF) Cd pF))
 (.ite acA
 (.ret abH)
 (.ret pF))))))))))))))
def TV (b:Nat→PC):PT×List (Shp×PT):=(wv,[])
theorem Ft:cf_r12_Acted.map told=some (TV (aA cf_r12_Acted)):=by kernel_rfl
theorem tr_r12_Acted_eq:tree qU=wv:=aj Ft
theorem Lu:cf_r12_Acted=some qU:=ah Ft
noncomputable def cf_r12_facts:Option PC:=av {ctx with fr:=[4],nh:=[]} Tryz.f70 ((aa aq 70).getD default) [2,5,6]
noncomputable def qJ:PC:=hpc cf_r12_facts
def wx:PT:=
 (.chk (pix HZ r1)
 (.call ⟨[],[(5,(.setc z3 0 (pn HZ r1))),(2,(.mk [r0]))]⟩ [] 14 68 [(pc (.setc z3 0 (pn HZ r1)) 0),(pi 0),(pi 4)]
 (.call ⟨[(16,(.nt r14))],[]⟩ [(16,false)] 23 68 [(pc o5 1),(pi 0),(aO (.llen (pc o2 15)) (pi 1))]
 (.call ⟨[(26,(.pick r16 pT (.nt r23)))],[]⟩ [(26,false)] 29 68 [(pc o5 2),(pi 0),(pi 1)]
 (.ite (.pick r26 pT (.nt r29))
 (.ret (pi 1))
 (.ite (pgt r1 (pi 0))
 (.chk (pix (pc o2 18) (aO r1 (pi 1)))
 (.ite (.pick (pgt (pc abk 1) (pc o5 1)) pT (.pick (peq (pc abk 1) (pc o5 1)) (pge (pc abk 0) (pc o5 0)) pF))
 (.ret (pi 5))
 (.ret (pi 0))))
 (.ret (pi 0))))))))
def UK (b:Nat→PC):PT×List (Shp×PT):=(wx,[])
theorem Fu:cf_r12_facts.map told=some (UK (aA cf_r12_facts)):=by kernel_rfl
theorem tr_r12_facts_eq:tree qJ=wx:=aj Fu
theorem Mq:cf_r12_facts=some qJ:=ah Fu
noncomputable def cf_r14_With:Option PC:=av {ctx with fr:=[6,8],nh:=[]} Tryz.f25 ((aa aq 25).getD default) [2,77826,3,4,5,7,9]
noncomputable def KJ:PC:=hpc cf_r14_With
def RD (b:Nat→PC):PC:=.block 0 [5,6,18,19,20,21,22] [5] (.loop [5,6] [5] (b 0))
def QN (b:Nat→PC):PC:=.block 2 [5,8,57,58,59,60,61] [5] (.loop [5,8] [5] (b 1))
def Q5 (b:Nat→PC):PT:=
 (.ite (plt r6 Oq)
 (.chk (pix (pc o2 18) r6)
 (.ite (.pick (plt (pc R5 1) (pc o3 1)) pT (.pick (peq (pc R5 1) (pc o3 1)) (plt (pc R5 0) (pc o3 0)) pF))
 (.chk (ple (.llen abx) aX)
 (.next ⟨[(5,pN),(6,(aF r6 (pi 1)))],[(5,abx)]⟩))
 (.next ⟨[(6,(aF r6 (pi 1)))],[]⟩)))
 (.exit 0 ⟨[(18,r6),(19,pN),(20,(pc o2 18)),(21,Oq),(22,(plt r6 Oq))],[]⟩))
def RZ (b:Nat→PC):PT:=
 (.ite (plt r8 Oq)
 (.chk (pix (pc o2 18) r8)
 (.ite (.pick (pgt (pc SN 1) (pc o3 1)) pT (.pick (peq (pc SN 1) (pc o3 1)) (pgt (pc SN 0) (pc o3 0)) pF))
 (.chk (ple (.llen acL) aX)
 (.next ⟨[(5,pN),(8,B9)],[(5,acL)]⟩))
 (.next ⟨[(8,B9)],[]⟩)))
 (.exit 2 ⟨[(57,r8),(58,pN),(59,(pc o2 18)),(60,Oq),(61,(plt r8 Oq))],[]⟩))
def VL (b:Nat→PC):PT:=
 (.call ⟨[],[(4,DJ),(3,(.mk [r1])),(2,(.mk [r0]))]⟩ [] 15 71 [(mkA 19 (.mk [r0])),(pc (.mk [r1]) 0),(pc (.mk [r1]) 1)]
 (.ite (pc r15 0)
 (.ret (mkA 19 (.setc o4 0 (mkA 19 o2))))
 (.brk ⟨[(6,(pi 0)),(5,pN)],[(5,pL)]⟩
(RD b)
 (.chk (ple (.llen (.app o5 (.lst [(.mk [(pc o3 0),(pc o3 1),(pc o3 2)])]))) aX)
 (.brk ⟨[(8,(pi 0)),(5,pN)],[(5,(.app o5 (.lst [(.mk [(pc o3 0),(pc o3 1),(pc o3 2)])])))]⟩
(QN b)
 (.ret (mkA 19 (.setc o4 0 (.mk [(pc mP 0),(pc mP 1),(pc mP 2),(pc mP 3),(pc mP 4),(pc mP 5),(pc mP 6),(pc mP 7),(pc mP 8),(pc mP 9),(pc mP 10),(pc mP 11),(pc mP 12),(pc mP 13),(pc mP 14),(pc mP 15),(pc mP 16),(pc mP 17),o5])))))))))
def Wl (b:Nat→PC):PT×List (Shp×PT):=(VL b,[(.lp 0 [5,6,18,19,20,21,22] [5] [5,6] [5],Q5 b),(.lp 2 [5,8,57,58,59,60,61] [5] [5,8] [5],RZ b)])
theorem W7:cf_r14_With.map told=some (Wl (aA cf_r14_With)):=by kernel_rfl
theorem Ol:cf_r14_With=some KJ:=ah W7
noncomputable def cf_r14_Fact:Option PC:=av {ctx with fr:=[7],nh:=[]} Tryz.f71 ((aa aq 71).getD default) [3,6]
noncomputable def KO:PC:=hpc cf_r14_Fact
def Q6 (b:Nat→PC):PC:=.block 0 [7,8,9,10,11,12] [6] (.loop [7] [6] (b 0))
def RN (b:Nat→PC):PT:=
 (.ite (plt r7 J2)
 (.chk (pix (pc o3 18) r7)
 (.chk (.nt (.an (.an (peq (pc (pn (pc o3 18) r7) 0) r1) pT) (.nt (pix (pc o3 18) r7))))
 (.ite (.pick (peq (pc (pn (pc o3 18) r7) 0) r1) (peq (pc (pn (pc o3 18) r7) 1) r2) pF)
 (.ite (peq (pc (pn (pc o3 18) r7) 2) (pi 0))
 (.ret (.mk [(pc (.setc o6 0 (.mk [pT,(pi 0)])) 0),(pc (.setc o6 0 (.mk [pT,(pi 0)])) 1)]))
 (.ret (.mk [(pc (.setc o6 0 (.mk [pT,(pi 1)])) 0),(pc (.setc o6 0 (.mk [pT,(pi 1)])) 1)])))
 (.next ⟨[(7,(aF r7 (pi 1)))],[]⟩))))
 (.exit 0 ⟨[(8,r7),(9,pN),(10,(pc o3 18)),(11,J2),(12,(plt r7 J2))],[]⟩))
def U3 (b:Nat→PC):PT:=
 (.brk ⟨[(7,(pi 0))],[(6,pV),(3,(.mk [r0]))]⟩
(Q6 b)
 (.ret acZ))
def Xj (b:Nat→PC):PT×List (Shp×PT):=(U3 b,[(.lp 0 [7,8,9,10,11,12] [6] [7] [6],RN b)])
theorem Ws:cf_r14_Fact.map told=some (Xj (aA cf_r14_Fact)):=by kernel_rfl
theorem Ns:cf_r14_Fact=some KO:=ah Ws
noncomputable def cf_l23_BindStrikes:Option PC:=av {ctx with fr:=[12,13,15,17,18,19,20],nh:=[]} Tryz.f6 ((aa aq 6).getD default) [6,8,14,16,73744,21]
noncomputable def fa:PC:=hpc cf_l23_BindStrikes
noncomputable def kl:Nat→PC:=hbd cf_l23_BindStrikes
def At (b:Nat→PC):PC:=.block 0 [12,20,109,110,111,112] [] (.loop [12,20] [] (b 0))
def dT (b:Nat→PC):PT:=
 (.ite (plt r20 (.llen r17))
 (.chk (pix r17 r20)
 (.chk (pix r18 r20)
 (.ite (.nt (.an (peq (pc wc 0) (pc Qt 0)) (.an (peq (pc wc 1) (pc Qt 1)) (.an (peq (pc wc 2) (pc Qt 2)) (.an (peq (pc wc 3) (pc Qt 3)) (.an (peq (pc wc 4) (pc Qt 4)) (.an (peq (pc wc 5) (pc Qt 5)) (.an (.cb .eql (pc wc 6) (pc Qt 6)) pT))))))))
 (.ret pF)
 (.next ⟨[(20,(aF r20 (pi 1)))],[]⟩))))
 (.exit 0 ⟨[(109,r20),(110,r17),(111,(.llen r17)),(112,(plt r20 (.llen r17)))],[]⟩))
def ko (b:Nat→PC):PT:=
 (.call ⟨[(12,pF)],[(8,(.mk [r2])),(6,(.mk [r0]))]⟩ [] 22 15 []
 (.call ⟨[(13,r22)],[]⟩ [] 25 16 [(mkA 8 o6),(mkA 19 o8)]
 (.call ⟨[(27,(.nt r25))],[]⟩ [(27,false)] 30 24 [(mkA 8 o6),(mkA 19 o8)]
 (.ite (.pick (.pick r27 pT (pne r30 (pi 0))) pT (pgt r4 (pi 100000)))
 (.ret r13)
 (.call ⟨[],[]⟩ [] 40 26 [(mkA 19 o8),r4]
 (.iteS ⟨[],[(14,(.setc DJ 0 r40))]⟩ (peq (.llen (pc (.setc DJ 0 r40) 15)) (pi 0)) [12] []
 (.call ⟨[(46,r13)],[]⟩ [(46,true)] 51 20 [(mkA 8 o6),r1,(mkA 19 o8),r4]
 (.ret (.pick r46 (peq (.llen r51) (pi 0)) pF)))
 (.next ⟨[],[]⟩)
 (.chk (pne (.llen (pc o14 15)) (pi 0))
 (.chk (ple (.llen (.app (.lst []) (pc o14 17))) aX)
 (.chk (ple (.llen aey) aX)
 (.call ⟨[(15,(.ai .rem .i64 (.conv .i64 r3) (.llen (pc o14 15))))],[(73744,aey),(16,(.setc (.setc DJ 0 (mkA 19 o14)) 17 pN))]⟩ [] 76 20 [(mkA 8 o6),r1,(mkA 19 o8),r4]
 (.call ⟨[(17,r76)],[]⟩ [] 81 20 [(mkA 8 o6),r1,(.mk [(pc o16 0),(pc o16 1),(pc o16 2),(pc o16 3),(pc o16 4),(pc o16 5),(pc o16 6),(pc o16 7),(pc o16 8),(pc o16 9),(pc o16 10),(pc o16 11),(pc o16 12),(pc o16 13),(pc o16 14),(pc o16 15),(pc o16 16),(.o 73744),(pc o16 18)]),r4]
 (.call ⟨[(18,r81)],[]⟩ [] 89 20 [(mkA 8 o6),r1,(mkA 19 o14),(aF r4 (.conv .i64 r5))]
 (.call ⟨[(103,(.pick (pne (.llen r17) (.llen r18)) pT (pne (.llen r17) (.llen (pc o14 15)))))],[]⟩ [(103,false)] 106 19 [r17,r89]
 (.ite (.pick afi pT (.nt afN))
 (.ret pF)
 (.brk ⟨[(20,(pi 0))],[]⟩
(At b)
 (.ret r13))))))))))))))))
def DV (b:Nat→PC):PT×List (Shp×PT):=(ko b,[(.lp 0 [12,20,109,110,111,112] [] [12,20] [],dT b)])
theorem kF:cf_l23_BindStrikes.map told=some (DV (aA cf_l23_BindStrikes)):=by kernel_rfl
theorem yE:tree fa=ko kl:=aj kF
theorem kS:round 0 [12,20,109,110,111,112] [] [12,20] [] (kl 0)=dT kl:=aw kF 0 fun _=>rfl
theorem yu:cf_l23_BindStrikes=some fa:=ah kF
noncomputable def cf_ask_places_a:Option PC:=av {ctx with fr:=[6],nh:=[]} Tryz.f101 ⟨[Y8,I,Y13],.slice I,.dat⟩ [3,5,7,8,42,9]
noncomputable def p7:PC:=hpc cf_ask_places_a
def p5:PT:=
 (.chk (pix (pc (.mk [r2]) 15) (pc (.mk [r2]) 19))
 (.ite aeQ
 (.ret pL)
 (.chk (.an (pge (pi 5) (pi 0)) (ple (pi 5) aX))
 (.chk (peq (pi 5) (pi 5))
 (.chk (pix (.rep (pi 5) (pi 0)) (pi 0))
 (.call ⟨[],[(9,(.setn (.rep (pi 5) (pi 0)) (pi 0) 0 r1)),(8,(.setc z15 0 (mkA 15 (.mk [r2])))),(7,SM),(3,(.mk [r0]))]⟩ [] 50 53 [oJ,(pc SM 7)]
 (.chk (pix o9 (pi 1))
 (.call ⟨[],[(9,(.setn o9 (pi 1) 0 r50))]⟩ [] 56 53 [(mkA 8 o3),(pc o8 10)]
 (.chk (pix o9 (pi 2))
 (.call ⟨[],[(9,(.setn o9 (pi 2) 0 r56))]⟩ [] 62 53 [(mkA 8 o3),(pc o8 9)]
 (.chk (pix o9 (pi 3))
 (.chk (pix (pc o3 3) (pc o7 2))
 (.call ⟨[],[(9,(.setn o9 (pi 3) 0 r62))]⟩ [] 73 53 [(mkA 8 o3),(pc (pn (pc o3 3) (pc o7 2)) 1)]
 (.chk (pix o9 (pi 4))
 (.call ⟨[],[(9,(.setn o9 (pi 4) 0 r73))]⟩ [] 76 116 [(.setn o9 (pi 4) 0 r73),(pi (-1))]
 (.ite r76
 (.ret pL)
 (.ret o9)))))))))))))))))
def MM (b:Nat→PC):PT×List (Shp×PT):=(p5,[])
theorem xV:cf_ask_places_a.map told=some (MM (aA cf_ask_places_a)):=by kernel_rfl
theorem Dv:tree p7=p5:=aj xV
theorem Ek:cf_ask_places_a=some p7:=ah xV
noncomputable def cf_ask_places_b:Option PC:=av {ctx with fr:=[6],nh:=[]} Tryz.f101 ⟨[Y8,I,Y13],.nils .bool,.dat⟩ [3,5,7,8,42,9]
noncomputable def qd:PC:=hpc cf_ask_places_b
def jS:PT:=
 (.chk (pix (pc (.mk [r2]) 15) (pc (.mk [r2]) 19))
 (.ite aeQ
 (.ret pL)
 (.chk (.an (pge (pi 5) (pi 0)) (ple (pi 5) aX))
 (.chk (peq (pi 5) (pi 5))
 (.chk (pix (.rep (pi 5) (pi 0)) (pi 0))
 (.call ⟨[],[(9,(.setn (.rep (pi 5) (pi 0)) (pi 0) 0 r1)),(8,(.setc z15 0 (mkA 15 (.mk [r2])))),(7,SM),(3,(.mk [r0]))]⟩ [] 50 53 [oJ,(pc SM 7)]
 (.chk (pix o9 (pi 1))
 (.call ⟨[],[(9,(.setn o9 (pi 1) 0 r50))]⟩ [] 56 53 [(mkA 8 o3),(pc o8 10)]
 (.chk (pix o9 (pi 2))
 (.call ⟨[],[(9,(.setn o9 (pi 2) 0 r56))]⟩ [] 62 53 [(mkA 8 o3),(pc o8 9)]
 (.chk (pix o9 (pi 3))
 (.chk (pix (pc o3 3) (pc o7 2))
 (.call ⟨[],[(9,(.setn o9 (pi 3) 0 r62))]⟩ [] 73 53 [(mkA 8 o3),(pc (pn (pc o3 3) (pc o7 2)) 1)]
 (.chk (pix o9 (pi 4))
 (.call ⟨[],[]⟩ [] 76 116 [(.setn o9 (pi 4) 0 r73),(pi (-1))]
 (.ite r76
 (.ret pL)
 (.chk pF
 (.next ⟨[],[]⟩))))))))))))))))))
def Mi (b:Nat→PC):PT×List (Shp×PT):=(jS,[])
theorem yo:cf_ask_places_b.map told=some (Mi (aA cf_ask_places_b)):=by kernel_rfl
theorem DC:tree qd=jS:=aj yo
theorem DN:cf_ask_places_b=some qd:=ah yo
end Rm
