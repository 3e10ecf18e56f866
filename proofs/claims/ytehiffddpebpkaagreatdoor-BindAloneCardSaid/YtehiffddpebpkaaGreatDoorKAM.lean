/-
  The functions of this seat, compiled (2).
-/
import Derived.Test.YtehiffddpebpkaaGreatDoorKAK
import Derived.KernelRfl
set_option linter.unusedVariables false
set_option maxRecDepth 100000
namespace Rm
open Go Go.Proofs Cx
noncomputable def cf_r09_RightCity:Option PC:=av {ctx with fr:=[4,5],nh:=[]} Tryz.f194 ((aa aq 194).getD default) [2,3]
noncomputable def hH:PC:=hpc cf_r09_RightCity
noncomputable def mU:Nat→PC:=hbd cf_r09_RightCity
def B1 (b:Nat→PC):PC:=.block 0 [4,5,36,37,38,39,40] [] (.loop [4,5] [] (b 0))
def de (b:Nat→PC):PT:=
 (.ite (plt r5 (.llen (pc o3 4)))
 (.blockS ⟨[],[]⟩ 1 [4,43,44,45,46,47,48,49,50,51,60] []
 (.chk (pix (pc o3 4) r5)
 (.chk (pne (pi 100) (pi 0))
 (.call ⟨[],[]⟩ [] 49 68 [(.ai .quo .i64 (pn (pc o3 4) r5) (pi 100)),(pi 1),(pi 12)]
 (.chk (.nt (.an (.an (.nt (.nt r49)) pT) (.nt (pix (pc o3 4) r5))))
 (.chk (.nt (.an (.an (.nt (.nt r49)) pT) (.nt (pne (pi 100) (pi 0)))))
 (.call ⟨[(51,(.nt r49))],[]⟩ [(51,false)] 58 68 [(.ai .rem .i64 (pn (pc o3 4) r5) (pi 100)),(pi 1),(pi 31)]
 (.ite (.pick r51 pT (.nt r58))
 (.ret pF)
 (.next ⟨[],[]⟩))))))))
 (.next ⟨[(5,(ao r5 (pi 1)))],[]⟩))
 (.exit 0 ⟨[(36,r5),(37,pN),(38,(pc o3 4)),(39,(.llen (pc o3 4))),(40,(plt r5 (.llen (pc o3 4))))],[]⟩))
def mD (b:Nat→PC):PT:=
 (.call ⟨[(4,pF)],[(3,(.mk [r1])),(2,(.mk [r0]))]⟩ [] 12 68 [(pc (.mk [r1]) 1),(pi 0),(aB (.llen (pc (.mk [r0]) 4)) (pi 1))]
 (.call ⟨[(14,(.nt r12))],[]⟩ [(14,false)] 21 68 [(pc o3 2),(pi 0),(aB (.llen (pc o2 0)) (pi 1))]
 (.ite (.pick (.pick (.pick r14 pT (.nt r21)) pT (pgt (.llen (pc o3 4)) (pi 60))) pT (pgt (.llen (pc o3 5)) (pi 200)))
 (.ret pF)
 (.brk ⟨[(5,(pi 0))],[]⟩
(B1 b)
 (.call ⟨[],[]⟩ [] 63 229 [(pc o3 3),(pi 0),(pi 6)]
 (.call ⟨[(64,r63)],[]⟩ [(64,true)] 67 229 [(pc o3 4),(pi 0),(pi 2000)]
 (.call ⟨[(69,(.pick r64 r67 pF))],[]⟩ [(69,true)] 72 229 [(pc o3 5),(pi 0),(pi 100000)]
 (.ret (.pick r69 r72 pF)))))))))
def Fg (b:Nat→PC):PT×List (Shp×PT):=(mD b,[(.lp 0 [4,5,36,37,38,39,40] [] [4,5] [],de b)])
theorem mL:cf_r09_RightCity.map told=some (Fg (aA cf_r09_RightCity)):=by kernel_rfl
theorem Ad:tree hH=mD mU:=ah mL
theorem fN:round 0 [4,5,36,37,38,39,40] [] [4,5] [] (mU 0)=de mU:=ax mL 0 fun _=>rfl
theorem At:cf_r09_RightCity=some hH:=af mL
noncomputable def cf_r09_Within:Option PC:=av {ctx with fr:=[6],nh:=[]} Tryz.f68 ((aa aq 68).getD default) []
noncomputable def na:PC:=hpc cf_r09_Within
def tW:PT:=
 (.ret (.pick (ple r1 r0) (ple r0 r2) pF))
def Pe (b:Nat→PC):PT×List (Shp×PT):=(tW,[])
theorem Ay:cf_r09_Within.map told=some (Pe (aA cf_r09_Within)):=by kernel_rfl
theorem Hf:tree na=tW:=ah Ay
theorem Fu:cf_r09_Within=some na:=af Ay
noncomputable def cf_r09_Rising:Option PC:=av {ctx with fr:=[6,7],nh:=[]} Tryz.f229 ((aa aq 229).getD default) []
noncomputable def ni:PC:=hpc cf_r09_Rising
noncomputable def tQ:Nat→PC:=hbd cf_r09_Rising
def IS (b:Nat→PC):PC:=.block 0 [6,7,8,9,10,11] [] (.loop [6,7] [] (b 0))
def fl (b:Nat→PC):PT:=
 (.ite (plt r7 (.llen r0))
 (.blockS ⟨[],[]⟩ 1 [6,14,15,16,17,18,19,20,21,22,23,24,35] []
 (.chk (pix r0 r7)
 (.call ⟨[],[]⟩ [] 20 68 [(pn r0 r7),r1,r2]
 (.ite (.nt r20)
 (.ret pF)
 (.chk (.nt (.an (.an (pgt r7 (pi 0)) pT) (.nt (pix r0 (aB r7 (pi 1))))))
 (.chk (.nt (.an (.an (pgt r7 (pi 0)) pT) (.nt (pix r0 r7))))
 (.ite (.pick (pgt r7 (pi 0)) (pge (pn r0 (aB r7 (pi 1))) (pn r0 r7)) pF)
 (.ret pF)
 (.next ⟨[],[]⟩)))))))
 (.next ⟨[(7,(ao r7 (pi 1)))],[]⟩))
 (.exit 0 ⟨[(8,r7),(9,r0),(10,(.llen r0)),(11,(plt r7 (.llen r0)))],[]⟩))
def tG (b:Nat→PC):PT:=
 (.brk ⟨[(7,(pi 0)),(6,pF)],[]⟩
(IS b)
 (.ret pT))
def NY (b:Nat→PC):PT×List (Shp×PT):=(tG b,[(.lp 0 [6,7,8,9,10,11] [] [6,7] [],fl b)])
theorem tU:cf_r09_Rising.map told=some (NY (aA cf_r09_Rising)):=by kernel_rfl
theorem GF:tree ni=tG tQ:=ah tU
theorem kf:round 0 [6,7,8,9,10,11] [] [6,7] [] (tQ 0)=fl tQ:=ax tU 0 fun _=>rfl
theorem Fe:cf_r09_Rising=some ni:=af tU
noncomputable def cf_r09_firms:Option PC:=av {ctx with fr:=[2,3,5,6],nh:=[]} Tryz.f127 ((aa aq 127).getD default) [1,4,44]
noncomputable def pS:PC:=hpc cf_r09_firms
noncomputable def lF:Nat→PC:=hbd cf_r09_firms
def ML (b:Nat→PC):PC:=.block 0 [2,3,11,12,13,14,15] [] (.loop [2,3] [] (b 0))
def Np (b:Nat→PC):PC:=.block 2 [2,4,5,30,31,32,33,34] [4] (.loop [2,4,5] [4] (b 1))
def gD (b:Nat→PC):PT:=
 (.ite (plt r3 (.llen (pc o1 2)))
 (.blockS ⟨[],[]⟩ 1 [2,18,19,20,21,22,23,24,25] []
 (.chk (pix (pc o1 2) r3)
 (.call ⟨[],[]⟩ [] 24 68 [(pc (pn (pc o1 2) r3) 0),(pi 0),(pi 9)]
 (.ite (.nt r24)
 (.ret (pi 1))
 (.next ⟨[],[]⟩))))
 (.next ⟨[(3,(ao r3 (pi 1)))],[]⟩))
 (.exit 0 ⟨[(11,r3),(12,pN),(13,(pc o1 2)),(14,(.llen (pc o1 2))),(15,(plt r3 (.llen (pc o1 2))))],[]⟩))
def gB (b:Nat→PC):PT:=
 (.ite (plt r5 (.llen (pc o1 3)))
 (.blockS ⟨[],[]⟩ 3 [2,4,6,38,39,40,41,42,43,44,45,46,47,48,49,50,52,53,54,55,56,57,58,59,60,61,62,63,64,77] [44,4]
 (.chk (pix (pc o1 3) r5)
 (.chk (ple (.llen (.app o4 (.lst [(pc (pn (pc o1 3) r5) 0)]))) (pi 4294967296))
 (.call ⟨[(4,pN)],[(4,(.app o4 (.lst [(pc (pn (pc o1 3) r5) 0)])))]⟩ [] 48 193 [(.app o4 (.lst [(pc (pn (pc o1 3) r5) 0)])),r5]
 (.ite (pne r48 (pi 0))
 (.ret r48)
 (.chk (pix (pc o1 3) r5)
 (.call ⟨[],[]⟩ [] 62 68 [(pc (pn (pc o1 3) r5) 1),(pi 0),(aB (.llen (pc o1 1)) (pi 1))]
 (.chk (.nt (.an (.an (.nt (.nt r62)) pT) (.nt (pix (pc o1 3) r5))))
 (.call ⟨[(64,(.nt r62))],[]⟩ [(64,false)] 75 68 [(pc (pn (pc o1 3) r5) 2),(pi 0),(aB (.llen (pc o1 2)) (pi 1))]
 (.ite (.pick r64 pT (.nt r75))
 (.ret (pi 1))
 (.next ⟨[],[]⟩))))))))))
 (.next ⟨[(5,(ao r5 (pi 1)))],[]⟩))
 (.exit 2 ⟨[(30,r5),(31,pN),(32,(pc o1 3)),(33,(.llen (pc o1 3))),(34,(plt r5 (.llen (pc o1 3))))],[]⟩))
def vi (b:Nat→PC):PT:=
 (.ite (pgt (.llen (pc (.mk [r0]) 2)) (pi 20))
 (.ret (pi 6))
 (.brk ⟨[(3,(pi 0)),(2,(pi 0))],[(1,(.mk [r0]))]⟩
(ML b)
 (.ite (pgt (.llen (pc o1 3)) (pi 200))
 (.ret (pi 6))
 (.brk ⟨[(5,(pi 0)),(4,pN)],[(4,pL)]⟩
(Np b)
 (.ret (pi 0))))))
def RR (b:Nat→PC):PT×List (Shp×PT):=(vi b,[(.lp 0 [2,3,11,12,13,14,15] [] [2,3] [],gD b),(.lp 2 [2,4,5,30,31,32,33,34] [4] [2,4,5] [4],gB b)])
theorem qk:cf_r09_firms.map told=some (RR (aA cf_r09_firms)):=by kernel_rfl
theorem Ix:tree pS=vi lF:=ah qk
theorem ly:round 0 [2,3,11,12,13,14,15] [] [2,3] [] (lF 0)=gD lF:=ax qk 0 fun _=>rfl
theorem l0:round 2 [2,4,5,30,31,32,33,34] [4] [2,4,5] [4] (lF 1)=gB lF:=ax qk 1 fun _=>rfl
theorem IY:cf_r09_firms=some pS:=af qk
noncomputable def cf_r09_orders:Option PC:=av {ctx with fr:=[2,4,5],nh:=[]} Tryz.f128 ((aa aq 128).getD default) [1,3,24]
noncomputable def nw:PC:=hpc cf_r09_orders
noncomputable def tn:Nat→PC:=hbd cf_r09_orders
def Ji (b:Nat→PC):PC:=.block 0 [2,3,4,10,11,12,13,14] [3] (.loop [2,3,4] [3] (b 0))
def fo (b:Nat→PC):PT:=
 (.ite (plt r4 (.llen (pc o1 4)))
 (.blockS ⟨[],[]⟩ 1 [2,3,5,18,19,20,21,22,23,24,25,26,27,28,29,30,32,33,34,35,36,37,38] [24,3]
 (.chk (pix (pc o1 4) r4)
 (.chk (ple (.llen (.app o3 (.lst [(pc (pn (pc o1 4) r4) 0)]))) (pi 4294967296))
 (.call ⟨[(3,pN)],[(3,(.app o3 (.lst [(pc (pn (pc o1 4) r4) 0)])))]⟩ [] 28 193 [(.app o3 (.lst [(pc (pn (pc o1 4) r4) 0)])),r4]
 (.ite (pne r28 (pi 0))
 (.ret r28)
 (.chk (pix (pc o1 4) r4)
 (.call ⟨[],[]⟩ [] 37 195 [(pn (pc o1 4) r4)]
 (.ite (.nt r37)
 (.ret (pi 1))
 (.next ⟨[],[]⟩))))))))
 (.next ⟨[(4,(ao r4 (pi 1)))],[]⟩))
 (.exit 0 ⟨[(10,r4),(11,pN),(12,(pc o1 4)),(13,(.llen (pc o1 4))),(14,(plt r4 (.llen (pc o1 4))))],[]⟩))
def tc (b:Nat→PC):PT:=
 (.ite (pgt (.llen (pc (.mk [r0]) 4)) (pi 20))
 (.ret (pi 6))
 (.brk ⟨[(4,(pi 0)),(3,pN),(2,(pi 0))],[(3,pL),(1,(.mk [r0]))]⟩
(Ji b)
 (.ret (pi 0))))
def NM (b:Nat→PC):PT×List (Shp×PT):=(tc b,[(.lp 0 [2,3,4,10,11,12,13,14] [3] [2,3,4] [3],fo b)])
theorem tX:cf_r09_orders.map told=some (NM (aA cf_r09_orders)):=by kernel_rfl
theorem Gu:tree nw=tc tn:=ah tX
theorem j4:round 0 [2,3,4,10,11,12,13,14] [3] [2,3,4] [3] (tn 0)=fo tn:=ax tX 0 fun _=>rfl
theorem Gl:cf_r09_orders=some nw:=af tX
noncomputable def cf_r09_RightOrder:Option PC:=av {ctx with fr:=[2,3,4],nh:=[]} Tryz.f195 ((aa aq 195).getD default) [1]
noncomputable def fV:PC:=hpc cf_r09_RightOrder
noncomputable def dE:Nat→PC:=hbd cf_r09_RightOrder
def zR (b:Nat→PC):PC:=.block 0 [2,3,5,6,7,8,9] [] (.loop [2,3] [] (b 0))
def Ao (b:Nat→PC):PC:=.block 2 [2,4,48,49,50,51,52] [] (.loop [2,4] [] (b 1))
def cA (b:Nat→PC):PT:=
 (.ite (plt r3 (.llen (pc o1 2)))
 (.blockS ⟨[],[]⟩ 1 [2,12,13,14,15,16,17,18,19,20,29,30,31,32,47] []
 (.chk (pix (pc o1 2) r3)
 (.call ⟨[],[]⟩ [] 18 68 [(pc (pn (pc o1 2) r3) 0),(pi 0),(pi 21)]
 (.chk (.nt (.an (.an (.nt (.nt r18)) pT) (.nt (pix (pc o1 2) r3))))
 (.call ⟨[(20,(.nt r18))],[]⟩ [(20,false)] 27 68 [(pc (pn (pc o1 2) r3) 1),(pi 0),(pi 4)]
 (.ite (.pick r20 pT (.nt r27))
 (.ret pF)
 (.chk (.nt (.an (.an (pgt r3 (pi 0)) pT) (.nt (pix (pc o1 2) (aB r3 (pi 1))))))
 (.chk (.nt (.an (.an (pgt r3 (pi 0)) pT) (.nt (pix (pc o1 2) r3))))
 (.ite (.pick (pgt r3 (pi 0)) (pge (pc (pn (pc o1 2) (aB r3 (pi 1))) 0) (pc (pn (pc o1 2) r3) 0)) pF)
 (.ret pF)
 (.next ⟨[],[]⟩)))))))))
 (.next ⟨[(3,(ao r3 (pi 1)))],[]⟩))
 (.exit 0 ⟨[(5,r3),(6,pN),(7,(pc o1 2)),(8,(.llen (pc o1 2))),(9,(plt r3 (.llen (pc o1 2))))],[]⟩))
def cD (b:Nat→PC):PT:=
 (.ite (plt r4 (.llen (pc o1 3)))
 (.blockS ⟨[],[]⟩ 3 [2,55,56,57,58,59,60,61,62,63,64,65,80] []
 (.chk (pix (pc o1 3) r4)
 (.call ⟨[],[]⟩ [] 61 68 [(pc (pn (pc o1 3) r4) 0),(pi 0),(pi 21)]
 (.ite (.nt r61)
 (.ret pF)
 (.chk (.nt (.an (.an (pgt r4 (pi 0)) pT) (.nt (pix (pc o1 3) (aB r4 (pi 1))))))
 (.chk (.nt (.an (.an (pgt r4 (pi 0)) pT) (.nt (pix (pc o1 3) r4))))
 (.ite (.pick (pgt r4 (pi 0)) (pge (pc (pn (pc o1 3) (aB r4 (pi 1))) 0) (pc (pn (pc o1 3) r4) 0)) pF)
 (.ret pF)
 (.next ⟨[],[]⟩)))))))
 (.next ⟨[(4,(ao r4 (pi 1)))],[]⟩))
 (.exit 2 ⟨[(48,r4),(49,pN),(50,(pc o1 3)),(51,(.llen (pc o1 3))),(52,(plt r4 (.llen (pc o1 3))))],[]⟩))
def lE (b:Nat→PC):PT:=
 (.brk ⟨[(3,(pi 0)),(2,pF)],[(1,(.mk [r0]))]⟩
(zR b)
 (.brk ⟨[(4,(pi 0))],[]⟩
(Ao b)
 (.ret pT)))
def Dn (b:Nat→PC):PT×List (Shp×PT):=(lE b,[(.lp 0 [2,3,5,6,7,8,9] [] [2,3] [],cA b),(.lp 2 [2,4,48,49,50,51,52] [] [2,4] [],cD b)])
theorem fR:cf_r09_RightOrder.map told=some (Dn (aA cf_r09_RightOrder)):=by kernel_rfl
theorem xK:tree fV=lE dE:=ah fR
theorem eU:round 0 [2,3,5,6,7,8,9] [] [2,3] [] (dE 0)=cA dE:=ax fR 0 fun _=>rfl
theorem eR:round 2 [2,4,48,49,50,51,52] [] [2,4] [] (dE 1)=cD dE:=ax fR 1 fun _=>rfl
theorem xQ:cf_r09_RightOrder=some fV:=af fR
noncomputable def cf_r09_usances:Option PC:=av {ctx with fr:=[2,3,5],nh:=[]} Tryz.f129 ((aa aq 129).getD default) [1,4]
noncomputable def kR:PC:=hpc cf_r09_usances
noncomputable def gH:Nat→PC:=hbd cf_r09_usances
def FO (b:Nat→PC):PC:=.block 2 [2,5,46,47,48] [] (.loop [2,5] [] (b 0))
def Gd (b:Nat→PC):PC:=.block 0 [2,3,10,11,12,13,14] [] (.loop [2,3] [] (b 1))
def cW (b:Nat→PC):PT:=
 (.ite (plt r5 r3)
 (.chk (pix (pc o1 5) r5)
 (.chk (.nt (.an (.an (peq (pc (pn (pc o1 5) r5) 0) (pc o4 0)) pT) (.nt (pix (pc o1 5) r5))))
 (.ite (.pick (peq (pc (pn (pc o1 5) r5) 0) (pc o4 0)) (peq (pc (pn (pc o1 5) r5) 1) (pc o4 1)) pF)
 (.ret (pi 5))
 (.next ⟨[(5,(ao r5 (pi 1)))],[]⟩))))
 (.exit 2 ⟨[(46,r5),(47,r3),(48,(plt r5 r3))],[]⟩))
def eC (b:Nat→PC):PT:=
 (.ite (plt r3 (.llen (pc o1 5)))
 (.blockS ⟨[(14,(plt r3 (.llen (pc o1 5)))),(13,(.llen (pc o1 5))),(12,(pc o1 5)),(11,pN),(10,r3)],[]⟩ 1 [2,4,5,17,18,19,20,21,22,23,24,25,26,27,28,29,30,39,40,45,46,47,48] [4]
 (.chk (pix (pc o1 5) r3)
 (.call ⟨[],[(4,(.setc z3 0 (pn (pc o1 5) r3)))]⟩ [] 28 68 [(pc (.setc z3 0 (pn (pc o1 5) r3)) 0),(pi 0),(aB (.llen (pc o1 1)) (pi 1))]
 (.call ⟨[(30,(.nt r28))],[]⟩ [(30,false)] 37 68 [(pc o4 1),(pi 0),(aB (.llen (pc o1 1)) (pi 1))]
 (.call ⟨[(40,(.pick r30 pT (.nt r37)))],[]⟩ [(40,false)] 43 68 [(pc o4 2),(pi 1),(pi 20000)]
 (.ite (.pick r40 pT (.nt r43))
 (.ret (pi 1))
 (.brk ⟨[(5,(pi 0))],[]⟩
(FO b)
 (.next ⟨[],[]⟩)))))))
 (.next ⟨[(3,(ao r3 (pi 1)))],[]⟩))
 (.exit 0 ⟨[(10,r3),(11,pN),(12,(pc o1 5)),(13,(.llen (pc o1 5))),(14,(plt r3 (.llen (pc o1 5))))],[]⟩))
def rH (b:Nat→PC):PT:=
 (.ite (pgt (.llen (pc (.mk [r0]) 5)) (pi 100))
 (.ret (pi 6))
 (.brk ⟨[(3,(pi 0)),(2,(pi 0))],[(1,(.mk [r0]))]⟩
(Gd b)
 (.ret (pi 0))))
def Lz (b:Nat→PC):PT×List (Shp×PT):=(rH b,[(.lp 2 [2,5,46,47,48] [] [2,5] [],cW b),(.lp 0 [2,3,10,11,12,13,14] [] [2,3] [],eC b)])
theorem kL:cf_r09_usances.map told=some (Lz (aA cf_r09_usances)):=by kernel_rfl
theorem DE:tree kR=rH gH:=ah kL
theorem dV:round 2 [2,5,46,47,48] [] [2,5] [] (gH 0)=cW gH:=ax kL 0 fun _=>rfl
theorem iU:round 0 [2,3,10,11,12,13,14] [] [2,3] [] (gH 1)=eC gH:=ax kL 1 fun _=>rfl
theorem Dk:cf_r09_usances=some kR:=af kL
noncomputable def cf_r09_others:Option PC:=av {ctx with fr:=[2,3,5],nh:=[]} Tryz.f130 ((aa aq 130).getD default) [1,4,6]
noncomputable def nC:PC:=hpc cf_r09_others
noncomputable def jq:Nat→PC:=hbd cf_r09_others
def Jp (b:Nat→PC):PC:=.block 0 [2,3,11,12,13,14,15] [] (.loop [2,3] [] (b 0))
def IE (b:Nat→PC):PC:=.block 2 [2,5,68,69,70,71,72] [] (.loop [2,5] [] (b 1))
def fF (b:Nat→PC):PT:=
 (.ite (plt r3 (.llen (pc o1 6)))
 (.blockS ⟨[],[]⟩ 1 [2,4,18,19,20,21,22,23,24,25,26,27,28,29,30,31,40,41,47,48,49,50,51,52,57,58,63] [4]
 (.chk (pix (pc o1 6) r3)
 (.call ⟨[],[(4,(.setc z5 0 (pn (pc o1 6) r3)))]⟩ [] 29 68 [(pc (.setc z5 0 (pn (pc o1 6) r3)) 0),(pi 0),(aB (.llen (pc o1 0)) (pi 1))]
 (.call ⟨[(31,(.nt r29))],[]⟩ [(31,false)] 38 68 [(pc o4 1),(pi 0),(aB (.llen (pc o1 0)) (pi 1))]
 (.ite (.pick (.pick r31 pT (.nt r38)) pT (peq (pc o4 0) (pc o4 1)))
 (.ret (pi 1))
 (.call ⟨[],[]⟩ [] 50 68 [(pc o4 2),(pi 1),(pi 1073741824)]
 (.call ⟨[(52,(.nt r50))],[]⟩ [(52,false)] 55 68 [(pc o4 3),(pi 1),(pi 1073741824)]
 (.call ⟨[(58,(.pick r52 pT (.nt r55)))],[]⟩ [(58,false)] 61 68 [(pc o4 4),(pi 0),(pi 100000)]
 (.ite (.pick r58 pT (.nt r61))
 (.ret (pi 1))
 (.next ⟨[],[]⟩)))))))))
 (.next ⟨[(3,(ao r3 (pi 1)))],[]⟩))
 (.exit 0 ⟨[(11,r3),(12,pN),(13,(pc o1 6)),(14,(.llen (pc o1 6))),(15,(plt r3 (.llen (pc o1 6))))],[]⟩))
def fq (b:Nat→PC):PT:=
 (.ite (plt r5 (.llen (pc o1 7)))
 (.blockS ⟨[],[]⟩ 3 [2,6,75,76,77,78,79,80,81,82,83,84,85,86,87,88,95,96,100] [6]
 (.chk (pix (pc o1 7) r5)
 (.call ⟨[],[(6,(.setc z3 0 (pn (pc o1 7) r5)))]⟩ [] 86 68 [(pc (.setc z3 0 (pn (pc o1 7) r5)) 0),(pi 0),(aB (.llen (pc o1 4)) (pi 1))]
 (.call ⟨[(88,(.nt r86))],[]⟩ [(88,false)] 93 68 [(pc o6 1),(pi 0),(pc o6 2)]
 (.ite (.pick (.pick r88 pT (.nt r93)) pT (pgt (pc o6 2) (pi 100000)))
 (.ret (pi 1))
 (.next ⟨[],[]⟩)))))
 (.next ⟨[(5,(ao r5 (pi 1)))],[]⟩))
 (.exit 2 ⟨[(68,r5),(69,pN),(70,(pc o1 7)),(71,(.llen (pc o1 7))),(72,(plt r5 (.llen (pc o1 7))))],[]⟩))
def tI (b:Nat→PC):PT:=
 (.ite (pgt (.llen (pc (.mk [r0]) 6)) (pi 100))
 (.ret (pi 6))
 (.brk ⟨[(3,(pi 0)),(2,(pi 0))],[(1,(.mk [r0]))]⟩
(Jp b)
 (.ite (pgt (.llen (pc o1 7)) (pi 20))
 (.ret (pi 6))
 (.brk ⟨[(5,(pi 0))],[]⟩
(IE b)
 (.ret (pi 0))))))
def OV (b:Nat→PC):PT×List (Shp×PT):=(tI b,[(.lp 0 [2,3,11,12,13,14,15] [] [2,3] [],fF b),(.lp 2 [2,5,68,69,70,71,72] [] [2,5] [],fq b)])
theorem m0:cf_r09_others.map told=some (OV (aA cf_r09_others)):=by kernel_rfl
theorem Hc:tree nC=tI jq:=ah m0
theorem j5:round 0 [2,3,11,12,13,14,15] [] [2,3] [] (jq 0)=fF jq:=ax m0 0 fun _=>rfl
theorem j3:round 2 [2,5,68,69,70,71,72] [] [2,5] [] (jq 1)=fq jq:=ax m0 1 fun _=>rfl
theorem FU:cf_r09_others=some nC:=af m0
noncomputable def cf_l23_BindGrows:Option PC:=av {ctx with fr:=[10,11,13,14,15,16],nh:=[]} Tryz.f5 ((aa aq 5).getD default) [5,7,12]
noncomputable def uj:PC:=hpc cf_l23_BindGrows
def Bl (b:Nat→PC):PC:=.block 0 [13,35,36,37,38] [12] (.loop [13] [12] (b 0))
def BH (b:Nat→PC):PC:=.block 2 [10,16,62,63,64,65] [] (.loop [10,16] [] (b 1))
def BU (b:Nat→PC):PT:=
 (.ite (plt r13 (.llen r4))
 (.blockS ⟨[],[]⟩ 1 [41,42,43,44,45,46] [12]
 (.chk (pix r4 r13)
 (.call ⟨[],[]⟩ [] 46 25 [(mkA 19 o12),(pn r4 r13)]
 (.next ⟨[],[(12,(.setc o12 0 r46))]⟩)))
 (.next ⟨[(13,(ao r13 (pi 1)))],[]⟩))
 (.exit 0 ⟨[(35,r13),(36,r4),(37,(.llen r4)),(38,(plt r13 (.llen r4)))],[]⟩))
def Bn (b:Nat→PC):PT:=
 (.ite (plt r16 (.llen r14))
 (.chk (pix r14 r16)
 (.chk (.nt (.an (.an (pne (pc (pn r14 r16) 3) (pi 2)) pT) (.nt (pix r15 r16))))
 (.chk (.nt (.an (.an (pne (pc (pn r14 r16) 3) (pi 2)) pT) (.nt (pix r14 r16))))
 (.chk (.nt (.an (.an (.nt (.pick (pne (pc (pn r14 r16) 3) (pi 2)) (pne (pc (pn r15 r16) 3) (pc (pn r14 r16) 3)) pF)) pT) (.nt (pix r14 r16))))
 (.chk (.nt (.an (.an (pne (pc (pn r14 r16) 4) (pi 2)) (.an (.nt (.pick (pne (pc (pn r14 r16) 3) (pi 2)) (pne (pc (pn r15 r16) 3) (pc (pn r14 r16) 3)) pF)) pT)) (.nt (pix r15 r16))))
 (.chk (.nt (.an (.an (pne (pc (pn r14 r16) 4) (pi 2)) (.an (.nt (.pick (pne (pc (pn r14 r16) 3) (pi 2)) (pne (pc (pn r15 r16) 3) (pc (pn r14 r16) 3)) pF)) pT)) (.nt (pix r14 r16))))
 (.chk (.nt (.an (.an (.nt (.pick (.pick (pne (pc (pn r14 r16) 3) (pi 2)) (pne (pc (pn r15 r16) 3) (pc (pn r14 r16) 3)) pF) pT (.pick (pne (pc (pn r14 r16) 4) (pi 2)) (pne (pc (pn r15 r16) 4) (pc (pn r14 r16) 4)) pF))) pT) (.nt (pix r15 r16))))
 (.chk (.nt (.an (.an (.nt (.pick (.pick (pne (pc (pn r14 r16) 3) (pi 2)) (pne (pc (pn r15 r16) 3) (pc (pn r14 r16) 3)) pF) pT (.pick (pne (pc (pn r14 r16) 4) (pi 2)) (pne (pc (pn r15 r16) 4) (pc (pn r14 r16) 4)) pF))) pT) (.nt (pix r14 r16))))
 (.chk (.nt (.an (.an (.nt (.pick (.pick (.pick (pne (pc (pn r14 r16) 3) (pi 2)) (pne (pc (pn r15 r16) 3) (pc (pn r14 r16) 3)) pF) pT (.pick (pne (pc (pn r14 r16) 4) (pi 2)) (pne (pc (pn r15 r16) 4) (pc (pn r14 r16) 4)) pF)) pT (plt (pc (pn r15 r16) 5) (pc (pn r14 r16) 5)))) pT) (.nt (pix r14 r16))))
 (.chk (.nt (.an (.an (.nt (.pick (.pick (.pick (pne (pc (pn r14 r16) 3) (pi 2)) (pne (pc (pn r15 r16) 3) (pc (pn r14 r16) 3)) pF) pT (.pick (pne (pc (pn r14 r16) 4) (pi 2)) (pne (pc (pn r15 r16) 4) (pc (pn r14 r16) 4)) pF)) pT (plt (pc (pn r15 r16) 5) (pc (pn r14 r16) 5)))) pT) (.nt (pix r15 r16))))
 (.ite (.pick (.pick (.pick (.pick (pne (pc (pn r14 r16) 3) (pi 2)) (pne (pc (pn r15 r16) 3) (pc (pn r14 r16) 3)) pF) pT (.pick (pne (pc (pn r14 r16) 4) (pi 2)) (pne (pc (pn r15 r16) 4) (pc (pn r14 r16) 4)) pF)) pT (plt (pc (pn r15 r16) 5) (pc (pn r14 r16) 5))) pT (.cb .neq (pc (pn r14 r16) 6) (pc (pn r15 r16) 6)))
 (.ret pF)
 (.next ⟨[(16,(ao r16 (pi 1)))],[]⟩))))))))))))
 (.exit 2 ⟨[(62,r16),(63,r14),(64,(.llen r14)),(65,(plt r16 (.llen r14)))],[]⟩))
def Hn (b:Nat→PC):PT:=
 (.call ⟨[(10,pF)],[(7,(.mk [r2])),(5,(.mk [r0]))]⟩ [] 17 15 []
 (.call ⟨[(11,r17)],[]⟩ [] 20 16 [(mkA 8 o5),(mkA 19 o7)]
 (.call ⟨[(22,(.nt r20))],[]⟩ [(22,false)] 25 24 [(mkA 8 o5),(mkA 19 o7)]
 (.ite (.pick (.pick r22 pT (pne r25 (pi 0))) pT (pgt (.llen r4) (pi 60)))
 (.ret r11)
 (.brk ⟨[(13,(pi 0))],[(12,(.setc (.con (.agg [(.int 0),(.int 0),(.int 0),(.int 0),(.int 0),(.int 0),(.int 0),(.int 0),(.int 0),(.int 0),(.int 0),(.int 0),(.int 0),(.int 0),(.int 0),(.list []),(.list []),(.list []),(.list [])])) 0 (mkA 19 o7)))]⟩
(Bl b)
 (.call ⟨[],[]⟩ [] 51 20 [(mkA 8 o5),r1,(mkA 19 o7),r3]
 (.call ⟨[(14,r51)],[]⟩ [] 56 20 [(mkA 8 o5),r1,(mkA 19 o12),r3]
 (.ite (pne (.llen r14) (.llen r56))
 (.ret pF)
 (.brk ⟨[(16,(pi 0)),(15,r56)],[]⟩
(BH b)
 (.ret r11))))))))))
def G9 (b:Nat→PC):PT×List (Shp×PT):=(Hn b,[(.lp 0 [13,35,36,37,38] [12] [13] [12],BU b),(.lp 2 [10,16,62,63,64,65] [] [10,16] [],Bn b)])
theorem Ft:cf_l23_BindGrows.map told=some (G9 (aA cf_l23_BindGrows)):=by kernel_rfl
theorem Ac:cf_l23_BindGrows=some uj:=af Ft
noncomputable def cf_r12_Check:Option PC:=av {ctx with fr:=[4,5,6,7,8,9,10],nh:=[]} Tryz.f24 ((aa aq 24).getD default) [2,3]
noncomputable def Ek:PC:=hpc cf_r12_Check
def Lg (b:Nat→PC):PC:=.block 0 [5,6,45,46,47,48,49,50,53] [] (.loop [5,6] [] (b 0))
def MN (b:Nat→PC):PC:=.block 2 [5,7,60,61,62,63,64,65,68] [] (.loop [5,7] [] (b 1))
def Mq (b:Nat→PC):PC:=.block 4 [5,9,101,102,103,104,105,106,109] [] (.loop [5,9] [] (b 2))
def Lp (b:Nat→PC):PC:=.block 6 [5,10,116,117,118,119,120,121,124] [] (.loop [5,10] [] (b 3))
def LP (b:Nat→PC):PT:=
 (.ite (.pick (plt r6 (.llen (pc o3 15))) (peq r5 (pi 0)) pF)
 (.blockS ⟨[],[]⟩ 1 [5,56,57,58,59] []
 (.call ⟨[],[]⟩ [] 59 67 [(mkA 8 o2),(mkA 19 o3),r6]
 (.next ⟨[(5,r59)],[]⟩))
 (.next ⟨[(6,(ao r6 (pi 1)))],[]⟩))
 (.exit 0 ⟨[(45,r6),(46,pN),(47,(pc o3 15)),(48,(.llen (pc o3 15))),(49,(plt r6 (.llen (pc o3 15)))),(50,(plt r6 (.llen (pc o3 15)))),(53,(.pick (plt r6 (.llen (pc o3 15))) (peq r5 (pi 0)) pF))],[]⟩))
def MB (b:Nat→PC):PT:=
 (.ite (.pick (plt r7 (.llen (pc o3 16))) (peq r5 (pi 0)) pF)
 (.blockS ⟨[],[]⟩ 3 [5,8,71,72,81,82,83,84,85,86,87,88,89,90,91,92] []
 (.ite (pgt r7 (pi 0))
 (.chk (pix (pc o3 16) (aB r7 (pi 1)))
 (.chk (pix (pc o3 16) r7)
 (.call ⟨[],[]⟩ [] 91 68 [(pc (pn (pc o3 16) r7) 0),(ao (pc (pn (pc o3 16) (aB r7 (pi 1))) 0) (pi 1)),(.llen (pc o3 15))]
 (.iteS ⟨[],[]⟩ (.nt r91) [5] []
 (.next ⟨[(5,(pi 1))],[]⟩)
 (.chk (pix (pc o3 16) r7)
 (.call ⟨[],[]⟩ [] 99 68 [(pc (pn (pc o3 16) r7) 1),(pi 1),(pi 1099511627776)]
 (.next ⟨[(5,(.pick (.nt r99) (pi 3) r5))],[]⟩)))
 (.next ⟨[],[]⟩)))))
 (.chk (pix (pc o3 16) r7)
 (.call ⟨[],[]⟩ [] 91 68 [(pc (pn (pc o3 16) r7) 0),(pi 1),(.llen (pc o3 15))]
 (.iteS ⟨[],[]⟩ (.nt r91) [5] []
 (.next ⟨[(5,(pi 1))],[]⟩)
 (.chk (pix (pc o3 16) r7)
 (.call ⟨[],[]⟩ [] 99 68 [(pc (pn (pc o3 16) r7) 1),(pi 1),(pi 1099511627776)]
 (.next ⟨[(5,(.pick (.nt r99) (pi 3) r5))],[]⟩)))
 (.next ⟨[],[]⟩)))))
 (.next ⟨[(7,(ao r7 (pi 1)))],[]⟩))
 (.exit 2 ⟨[(60,r7),(61,pN),(62,(pc o3 16)),(63,(.llen (pc o3 16))),(64,(plt r7 (.llen (pc o3 16)))),(65,(plt r7 (.llen (pc o3 16)))),(68,(.pick (plt r7 (.llen (pc o3 16))) (peq r5 (pi 0)) pF))],[]⟩))
def Nu (b:Nat→PC):PT:=
 (.ite (.pick (plt r9 (.llen (pc o3 17))) (peq r5 (pi 0)) pF)
 (.blockS ⟨[],[]⟩ 5 [5,112,113,114,115] []
 (.call ⟨[],[]⟩ [] 115 69 [(mkA 8 o2),(mkA 19 o3),r9]
 (.next ⟨[(5,afT)],[]⟩))
 (.next ⟨[(9,(ao r9 (pi 1)))],[]⟩))
 (.exit 4 ⟨[(101,r9),(102,pN),(103,(pc o3 17)),(104,(.llen (pc o3 17))),(105,(plt r9 (.llen (pc o3 17)))),(106,(plt r9 (.llen (pc o3 17)))),(109,(.pick (plt r9 (.llen (pc o3 17))) (peq r5 (pi 0)) pF))],[]⟩))
def KQ (b:Nat→PC):PT:=
 (.ite (.pick (plt r10 (.llen (pc o3 18))) (peq r5 (pi 0)) pF)
 (.blockS ⟨[],[]⟩ 7 [5,127,128,129] []
 (.call ⟨[],[]⟩ [] 129 70 [(mkA 19 o3),r10]
 (.next ⟨[(5,afQ)],[]⟩))
 (.next ⟨[(10,(ao r10 (pi 1)))],[]⟩))
 (.exit 6 ⟨[(116,r10),(117,pN),(118,(pc o3 18)),(119,(.llen (pc o3 18))),(120,(plt r10 (.llen (pc o3 18)))),(121,(plt r10 (.llen (pc o3 18)))),(124,(.pick (plt r10 (.llen (pc o3 18))) (peq r5 (pi 0)) pF))],[]⟩))
def RN (b:Nat→PC):PT:=
 (.ite (.pick (.pick (.pick (pgt (.llen (pc (.mk [r1]) 15)) (pi 40)) pT (pgt (.llen (pc (.mk [r1]) 16)) (pi 4))) pT (pgt (.llen (pc (.mk [r1]) 17)) (pi 100))) pT (pgt (.llen (pc (.mk [r1]) 18)) (pi 200)))
 (.ret (pi 6))
 (.call ⟨[],[(3,(.mk [r1])),(2,(.mk [r0]))]⟩ [] 36 66 [(mkA 8 (.mk [r0])),(mkA 15 (.mk [r1]))]
 (.brk ⟨[(6,(pi 0)),(5,(.pick (.pick (peq r36 (pi 0)) (peq (.llen (pc o3 15)) (pi 0)) pF) (pi 14) r36))],[]⟩
(Lg b)
 (.brk ⟨[(7,(pi 0))],[]⟩
(MN b)
 (.brk ⟨[(9,(pi 0))],[]⟩
(Mq b)
 (.brk ⟨[(10,(pi 0))],[]⟩
(Lp b)
 (.ret r5)))))))
def QM (b:Nat→PC):PT×List (Shp×PT):=(RN b,[(.lp 0 [5,6,45,46,47,48,49,50,53] [] [5,6] [],LP b),(.lp 2 [5,7,60,61,62,63,64,65,68] [] [5,7] [],MB b),(.lp 4 [5,9,101,102,103,104,105,106,109] [] [5,9] [],Nu b),(.lp 6 [5,10,116,117,118,119,120,121,124] [] [5,10] [],KQ b)])
theorem QQ:cf_r12_Check.map told=some (QM (aA cf_r12_Check)):=by kernel_rfl
theorem JW:cf_r12_Check=some Ek:=af QQ
noncomputable def cf_r10_Check:Option PC:=av {ctx with fr:=[4,5,6,7,8,9],nh:=[]} Tryz.f66 ((aa aq 66).getD default) [2,3]
noncomputable def EW:PC:=hpc cf_r10_Check
def QX:PT:=
 (.call ⟨[],[(3,(.mk [r1])),(2,(.mk [r0]))]⟩ [] 11 60 [(mkA 8 (.mk [r0]))]
 (.ite (pne r11 (pi 0))
 (.ret r11)
 (.call ⟨[(7,(.llen (pc o2 1))),(6,(.llen (pc o2 3)))],[]⟩ [] 24 138 [(pc o3 0),(.llen (pc o2 3))]
 (.call ⟨[(26,(.nt r24))],[]⟩ [(26,false)] 30 138 [(pc o3 1),r6]
 (.call ⟨[(33,(.pick r26 pT (.nt r30)))],[]⟩ [(33,false)] 37 139 [(pc o3 2),r6]
 (.call ⟨[(40,(.pick r33 pT (.nt r37)))],[]⟩ [(40,false)] 44 139 [(pc o3 11),r6]
 (.call ⟨[(47,(.pick r40 pT (.nt r44)))],[]⟩ [(47,false)] 53 138 [(pc o3 4),(.llen (pc o2 0))]
 (.call ⟨[(56,(.pick r47 pT (.nt r53)))],[]⟩ [(56,false)] 60 138 [(pc o3 9),r7]
 (.call ⟨[(63,(.pick r56 pT (.nt r60)))],[]⟩ [(63,false)] 67 138 [(pc o3 10),r7]
 (.ite (.pick r63 pT (.nt r67))
 (.ret (pi 1))
 (.call ⟨[(78,(.pick (plt (pc o3 3) (pi 1)) pT (pgt (pc o3 3) (pi 1099511627776))))],[]⟩ [(78,false)] 81 140 [(pc o3 8)]
 (.ite (.pick (.pick (.pick r78 pT (.nt r81)) pT (plt (pc o3 12) (pi 0))) pT (pgt (pc o3 12) (pi 1000)))
 (.ret (pi 3))
 (.ite (.pick (plt (pc o3 14) (pi 1)) pT (pgt (pc o3 14) (pi 4)))
 (.ret (pi 15))
 (.call ⟨[(121,(.pick (.pick (plt (pc o3 13) (pi 0)) pT (pgt (pc o3 13) (pi 7))) pT (.pick (peq (pc o3 2) (pi (-1))) (pne (.ai .and .i64 (pc o3 13) (pi 4)) (pi 0)) pF)))],[]⟩ [(121,false)] 123 141 [(mkA 15 o3)]
 (.ite (.pick afG pT (.nt agc))
 (.ret (pi 2))
 (.ite (pne (pc o3 5) (pi 4))
 (.ret (pi 0))
 (.call ⟨[],[]⟩ [] 136 142 [(mkA 8 o2),(pc o3 9),(pc o3 10)]
 (.ret (.tget (.r 136) 1)))))))))))))))))))
def Rx (b:Nat→PC):PT×List (Shp×PT):=(QX,[])
theorem RH:cf_r10_Check.map told=some (Rx (aA cf_r10_Check)):=by kernel_rfl
theorem JT:cf_r10_Check=some EW:=af RH
noncomputable def cf_r10_at:Option PC:=av {ctx with fr:=[4],nh:=[]} Tryz.f138 ((aa aq 138).getD default) []
noncomputable def Pq:PC:=hpc cf_r10_at
def XL:PT:=
 (.ret (.pick (pge r0 (pi 0)) (plt r0 r1) pF))
def XP (b:Nat→PC):PT×List (Shp×PT):=(XL,[])
theorem Xy:cf_r10_at.map told=some (XP (aA cf_r10_at)):=by kernel_rfl
theorem Rn:cf_r10_at=some Pq:=af Xy
noncomputable def cf_r10_none:Option PC:=av {ctx with fr:=[4],nh:=[]} Tryz.f139 ((aa aq 139).getD default) []
noncomputable def Ib:PC:=hpc cf_r10_none
def Tb:PT:=
 (.call ⟨[(7,(peq r0 (pi (-1))))],[]⟩ [(7,false)] 10 138 [r0,r1]
 (.ret (.pick r7 pT r10)))
def RX (b:Nat→PC):PT×List (Shp×PT):=(Tb,[])
theorem Tx:cf_r10_none.map told=some (RX (aA cf_r10_none)):=by kernel_rfl
theorem Mp:cf_r10_none=some Ib:=af Tx
noncomputable def cf_r04_Valid:Option PC:=av {ctx with fr:=[2],nh:=[]} Tryz.f140 ((aa aq 140).getD default) []
noncomputable def EL:PC:=hpc cf_r04_Valid
def RM:PT:=
 (.ret (.pick (pge r0 (pi 0)) (ple r0 (pi 100000)) pF))
def QN (b:Nat→PC):PT×List (Shp×PT):=(RM,[])
theorem RA:cf_r04_Valid.map told=some (QN (aA cf_r04_Valid)):=by kernel_rfl
theorem J4:cf_r04_Valid=some EL:=af RA
noncomputable def cf_r10_Tenor:Option PC:=av {ctx with fr:=[2],nh:=[]} Tryz.f141 ((aa aq 141).getD default) [1,3]
noncomputable def Ds:PC:=hpc cf_r10_Tenor
def QK:PT:=
 (.ite (.pick (peq (pc (.setc z3 0 (.mk [(pc (.mk [r0]) 5),(pc (.mk [r0]) 6),(pc (.mk [r0]) 7)])) 0) (pi 0)) pT (peq (pc (.setc z3 0 (.mk [(pc (.mk [r0]) 5),(pc (.mk [r0]) 6),(pc (.mk [r0]) 7)])) 0) (pi 4)))
 (.ret (.pick (peq (pc (.setc z3 0 (.mk [(pc (.mk [r0]) 5),(pc (.mk [r0]) 6),(pc (.mk [r0]) 7)])) 1) (pi 0)) (peq (pc (.setc z3 0 (.mk [(pc (.mk [r0]) 5),(pc (.mk [r0]) 6),(pc (.mk [r0]) 7)])) 2) (pi 0)) pF))
 (.ite (.pick (peq (pc (.setc z3 0 (.mk [(pc (.mk [r0]) 5),(pc (.mk [r0]) 6),(pc (.mk [r0]) 7)])) 0) (pi 1)) pT (peq (pc (.setc z3 0 (.mk [(pc (.mk [r0]) 5),(pc (.mk [r0]) 6),(pc (.mk [r0]) 7)])) 0) (pi 2)))
 (.ret (.pick (.pick (pge (pc (.setc z3 0 (.mk [(pc (.mk [r0]) 5),(pc (.mk [r0]) 6),(pc (.mk [r0]) 7)])) 1) (pi 1)) (ple (pc (.setc z3 0 (.mk [(pc (.mk [r0]) 5),(pc (.mk [r0]) 6),(pc (.mk [r0]) 7)])) 1) (pi 400)) pF) (.pick (peq (pc (.setc z3 0 (.mk [(pc (.mk [r0]) 5),(pc (.mk [r0]) 6),(pc (.mk [r0]) 7)])) 2) (pi 0)) pT (peq (pc (.setc z3 0 (.mk [(pc (.mk [r0]) 5),(pc (.mk [r0]) 6),(pc (.mk [r0]) 7)])) 2) (pi 1))) pF))
 (.ret (.pick (.pick (.pick (peq (pc (.setc z3 0 (.mk [(pc (.mk [r0]) 5),(pc (.mk [r0]) 6),(pc (.mk [r0]) 7)])) 0) (pi 3)) (pge (pc (.setc z3 0 (.mk [(pc (.mk [r0]) 5),(pc (.mk [r0]) 6),(pc (.mk [r0]) 7)])) 1) (pc (.mk [r0]) 8)) pF) (ple (pc (.setc z3 0 (.mk [(pc (.mk [r0]) 5),(pc (.mk [r0]) 6),(pc (.mk [r0]) 7)])) 1) (pi 100000)) pF) (peq (pc (.setc z3 0 (.mk [(pc (.mk [r0]) 5),(pc (.mk [r0]) 6),(pc (.mk [r0]) 7)])) 2) (pi 0)) pF))))
def Qz (b:Nat→PC):PT×List (Shp×PT):=(QK,[])
theorem Qp:cf_r10_Tenor.map told=some (Qz (aA cf_r10_Tenor)):=by kernel_rfl
theorem IM:cf_r10_Tenor=some Ds:=af Qp
noncomputable def cf_r09_Usance:Option PC:=av {ctx with fr:=[6,7,8],nh:=[]} Tryz.f142 ((aa aq 142).getD default) [3]
noncomputable def AQ:PC:=hpc cf_r09_Usance
def JY (b:Nat→PC):PC:=.block 0 [6,7,8,9,10,11,12,13] [] (.loop [6,7,8] [] (b 0))
def IQ (b:Nat→PC):PT:=
 (.ite (plt r8 (.llen (pc o3 5)))
 (.chk (pix (pc o3 5) r8)
 (.chk (.nt (.an (.an (peq (pc (pn (pc o3 5) r8) 0) r1) pT) (.nt (pix (pc o3 5) r8))))
 (.ite (.pick (peq (pc (pn (pc o3 5) r8) 0) r1) (peq (pc (pn (pc o3 5) r8) 1) r2) pF)
 (.ret (.tup [(pc (pn (pc o3 5) r8) 2),(pi 0)]))
 (.next ⟨[(8,(ao r8 (pi 1)))],[]⟩))))
 (.exit 0 ⟨[(9,r8),(10,pN),(11,(pc o3 5)),(12,(.llen (pc o3 5))),(13,(plt r8 (.llen (pc o3 5))))],[]⟩))
def NR (b:Nat→PC):PT:=
 (.brk ⟨[(8,(pi 0)),(7,(pi 0)),(6,(pi 0))],[(3,(.mk [r0]))]⟩
(JY b)
 (.ret (.tup [(pi 0),(pi 4)])))
def Oz (b:Nat→PC):PT×List (Shp×PT):=(NR b,[(.lp 0 [6,7,8,9,10,11,12,13] [] [6,7,8] [],IQ b)])
theorem Oy:cf_r09_Usance.map told=some (Oz (aA cf_r09_Usance)):=by kernel_rfl
theorem G8:cf_r09_Usance=some AQ:=af Oy
noncomputable def cf_r12_signs:Option PC:=av {ctx with fr:=[6,8],nh:=[]} Tryz.f67 ((aa aq 67).getD default) [3,4,7]
noncomputable def EC:PC:=hpc cf_r12_signs
def yA (b:Nat→PC):PC:=.block 0 [6,8,72,73,74,75,79] [] (.loop [6,8] [] (b 0))
def MY (b:Nat→PC):PT:=
 (.ite (.pick (plt r8 r2) (peq (pc o7 0) (pi 1)) pF)
 (.chk (pix (pc o4 15) r8)
 (.chk (.nt (.an (.an (peq (pc (pn (pc o4 15) r8) 0) (pi 1)) pT) (.nt (pix (pc o4 15) r8))))
 (.ite (.pick (peq (pc (pn (pc o4 15) r8) 0) (pi 1)) (peq (pc (pn (pc o4 15) r8) 1) (pc o7 1)) pF)
 (.ret (pi 5))
 (.next ⟨[(8,(ao r8 (pi 1)))],[]⟩))))
 (.exit 0 ⟨[(72,r8),(73,r2),(74,(plt r8 r2)),(75,(plt r8 r2)),(79,(.pick (plt r8 r2) (peq (pc o7 0) (pi 1)) pF))],[]⟩))
def Qk (b:Nat→PC):PT:=
 (.chk (pix (pc (.mk [r1]) 15) r2)
 (.call ⟨[(6,(pi 0))],[(7,(.setc z9 0 (pn (pc (.mk [r1]) 15) r2))),(4,(.mk [r1])),(3,(.mk [r0]))]⟩ [] 20 68 [(pc (.setc z9 0 (pn (pc (.mk [r1]) 15) r2)) 1),(pi 0),(aB (pc (.mk [r1]) 14) (pi 1))]
 (.ite (.nt r20)
 (.ret (pi 15))
 (.call ⟨[],[]⟩ [] 28 68 [(pc o7 2),(pi 0),(aB (.llen (pc o3 3)) (pi 1))]
 (.call ⟨[(30,(.nt r28))],[]⟩ [(30,false)] 37 68 [(pc o7 7),(pi 0),(aB (.llen (pc o3 1)) (pi 1))]
 (.ite (.pick r30 pT (.nt r37))
 (.ret (pi 1))
 (.ite (.pick (.pick (peq r2 (pi 0)) (pne (pc o7 6) (pc o4 8)) pF) pT (pgt (pc o7 6) (pi 100000)))
 (.ret (pi 13))
 (.ite (pgt r2 (pi 0))
 (.chk (pix (pc o4 15) (aB r2 (pi 1)))
 (.ite (plt (pc o7 6) (pc (pn (pc o4 15) (aB r2 (pi 1))) 6))
 (.ret (pi 13))
 (.call ⟨[],[]⟩ [] 70 143 [(mkA 8 o3),(mkA 19 o4),r2]
 (.ite (.nt r70)
 (.ret (pi 14))
 (.brk ⟨[(8,(pi 0))],[]⟩
(yA b)
 (.ret (pi 0)))))))
 (.call ⟨[],[]⟩ [] 70 143 [(mkA 8 o3),(mkA 19 o4),r2]
 (.ite (.nt r70)
 (.ret (pi 14))
 (.brk ⟨[(8,(pi 0))],[]⟩
(yA b)
 (.ret (pi 0)))))))))))))
def Q3 (b:Nat→PC):PT×List (Shp×PT):=(Qk b,[(.lp 0 [6,8,72,73,74,75,79] [] [6,8] [],MY b)])
theorem RO:cf_r12_signs.map told=some (Q3 (aA cf_r12_signs)):=by kernel_rfl
theorem ID:cf_r12_signs=some EC:=af RO
noncomputable def cf_r12_Fits:Option PC:=av {ctx with fr:=[6,8,21,71,101,9,10,146,179],nh:=[]} Tryz.f143 ((aa aq 143).getD default) [3,4,7]
noncomputable def HE:PC:=hpc cf_r12_Fits
def SF:PT:=
 (.chk (pix (pc (.mk [r1]) 15) r2)
 (.call ⟨[],[(7,(.setc z9 0 (pn (pc (.mk [r1]) 15) r2))),(4,(.mk [r1])),(3,(.mk [r0]))]⟩ [] 18 68 [(pc (.setc z9 0 (pn (pc (.mk [r1]) 15) r2)) 5),(pi 1),(pi 1099511627776)]
 (.blockS ⟨[(20,(pc o7 0)),(8,r18)],[]⟩ 0 [6,21,22,71,72,101,102,146,147,179,180] []
 (.iteS ⟨[],[]⟩ (peq r20 (pi 0)) [6,71,72,101,102,146,147,179,180] []
 (.ret (.pick (.pick (.pick (.pick (.pick (.pick (.pick (peq r2 (pi 0)) (peq (pc o7 2) (pc o4 0)) pF) (peq (pc o7 3) (pi (-1))) pF) (peq (pc o7 4) (pi (-1))) pF) (peq (pc o7 5) (pi 0)) pF) (.pick (peq (pc o7 8) (pi 0)) pT (peq (pc o7 8) (pi 1))) pF) (peq (pc o7 1) (pi 0)) pF) (peq (pc o7 7) (pc o4 9)) pF))
 (.iteS ⟨[],[]⟩ (peq r20 (pi 1)) [6,101,102,146,147,179,180] []
 (.ret (.pick (.pick (.pick (.pick (.pick (pgt r2 (pi 0)) (peq (pc o7 2) (pc o4 1)) pF) (peq (pc o7 3) (pi (-1))) pF) (peq (pc o7 4) (pi (-1))) pF) r8 pF) (peq (pc o7 8) (pi 0)) pF))
 (.iteS ⟨[],[]⟩ (peq r20 (pi 2)) [6,146,147,179,180] []
 (.chk (pne (pi 2) (pi 0))
 (.chk (pne (pi 4) (pi 0))
 (.call ⟨[(120,(.pick (pgt r2 (pi 0)) (peq (pc o7 3) (pi (-1))) pF)),(10,(peq (.ai .rem .i64 (.ai .quo .i64 (pc o7 8) (pi 4)) (pi 2)) (pi 1))),(9,(peq (.ai .rem .i64 (.ai .quo .i64 (pc o7 8) (pi 2)) (pi 2)) (pi 1)))],[]⟩ [(120,true)] 127 68 [(pc o7 4),(pi (-1)),(aB (.llen (pc o3 3)) (pi 1))]
 (.call ⟨[(134,(.pick (.pick af4 ago pF) (peq (pc o7 5) (pi 0)) pF))],[]⟩ [(134,true)] 137 68 [(pc o7 8),(pi 0),(pi 7)]
 (.ret (.pick (.pick (.r 134) (.r 137) pF) (.nt (.pick r9 r10 pF)) pF))))))
 (.iteS ⟨[],[]⟩ (peq r20 (pi 3)) [6,179,180] []
 (.call ⟨[(165,(.pick (.pick (.pick (peq r2 (pi 0)) pT (pne (pc o7 4) (pi (-1)))) pT (pne (pc o7 5) (pi 0))) pT (pne (pc o7 8) (pi 0))))],[]⟩ [(165,false)] 168 198 [(mkA 19 o4),r2]
 (.ite (.pick (.r 165) pT (.nt (.r 168)))
 (.ret pF)
 (.chk (pix (pc o4 15) (pc o7 3))
 (.ret (pne (pc (pn (pc o4 15) (pc o7 3)) 0) (pi 3))))))
 (.iteS ⟨[],[]⟩ (peq r20 (pi 4)) [6] []
 (.call ⟨[(205,(.pick (.pick (.pick (.pick (peq r2 (pi 0)) pT (pne (pc o7 4) (pi (-1)))) pT (.nt r8)) pT (pne (pc o7 8) (pi 0))) pT (peq (pc o7 2) (pc o4 1))))],[]⟩ [(205,false)] 208 198 [(mkA 19 o4),r2]
 (.ite (.pick (.r 205) pT (.nt (.r 208)))
 (.ret pF)
 (.chk (pix (pc o4 15) (pc o7 3))
 (.chk (.nt (.an (.an (.nt (peq (pc (pn (pc o4 15) (pc o7 3)) 0) (pi 0))) pT) (.nt (pix (pc o4 15) (pc o7 3)))))
 (.ret (.pick (peq (pc (pn (pc o4 15) (pc o7 3)) 0) (pi 0)) pT (peq (pc (pn (pc o4 15) (pc o7 3)) 0) (pi 2))))))))
 (.next ⟨[],[]⟩)
 (.next ⟨[],[]⟩))
 (.next ⟨[],[]⟩))
 (.next ⟨[],[]⟩))
 (.next ⟨[],[]⟩))
 (.next ⟨[],[]⟩))
 (.ret pF))))
def Uf (b:Nat→PC):PT×List (Shp×PT):=(SF,[])
theorem RY:cf_r12_Fits.map told=some (Uf (aA cf_r12_Fits)):=by kernel_rfl
theorem Mj:cf_r12_Fits=some HE:=af RY
noncomputable def cf_r12_backs:Option PC:=av {ctx with fr:=[4,5],nh:=[]} Tryz.f198 ((aa aq 198).getD default) [2]
noncomputable def Em:PC:=hpc cf_r12_backs
def RK:PT:=
 (.chk (pix (pc (.mk [r0]) 15) r1)
 (.call ⟨[(5,(pc (pn (pc (.mk [r0]) 15) r1) 3))],[(2,(.mk [r0]))]⟩ [] 15 68 [(pc (pn (pc (.mk [r0]) 15) r1) 3),(pi 0),(aB r1 (pi 1))]
 (.chk (.nt (.an (.an r15 pT) (.nt (pix (pc o2 15) r1))))
 (.call ⟨[(16,r15)],[]⟩ [(16,true)] 25 199 [(mkA 19 o2),r5,(pc (pn (pc o2 15) r1) 1)]
 (.ret (.pick r16 r25 pF))))))
def Qy (b:Nat→PC):PT×List (Shp×PT):=(RK,[])
theorem RP:cf_r12_backs.map told=some (Qy (aA cf_r12_backs)):=by kernel_rfl
theorem I6:cf_r12_backs=some Em:=af RP
noncomputable def cf_r12_On:Option PC:=av {ctx with fr:=[6],nh:=[]} Tryz.f199 ((aa aq 199).getD default) [3]
noncomputable def Pp:PC:=hpc cf_r12_On
def W5:PT:=
 (.chk (.nt (.an (.an (.nt (peq r1 (pi 0))) pT) (.nt (pix (pc (.mk [r0]) 15) r1))))
 (.ret (.pick (peq r1 (pi 0)) pT (peq (pc (pn (pc (.mk [r0]) 15) r1) 1) r2))))
def Xl (b:Nat→PC):PT×List (Shp×PT):=(W5,[])
theorem XK:cf_r12_On.map told=some (Xl (aA cf_r12_On)):=by kernel_rfl
theorem Q4:cf_r12_On=some Pp:=af XK
noncomputable def cf_r12_acts:Option PC:=av {ctx with fr:=[6],nh:=[]} Tryz.f69 ((aa aq 69).getD default) [3,4,7]
noncomputable def If:PC:=hpc cf_r12_acts
def TR:PT:=
 (.chk (pix (pc (.mk [r1]) 17) r2)
 (.call ⟨[],[(7,(.setc z9 0 (pn (pc (.mk [r1]) 17) r2))),(4,(.mk [r1])),(3,(.mk [r0]))]⟩ [] 19 68 [(pc (.setc z9 0 (pn (pc (.mk [r1]) 17) r2)) 3),(pi 0),(aB (pc (.mk [r1]) 14) (pi 1))]
 (.ite (.nt r19)
 (.ret (pi 15))
 (.call ⟨[],[]⟩ [] 27 68 [(pc o7 7),(pi 0),(aB (.llen (pc o3 1)) (pi 1))]
 (.call ⟨[(29,(.nt r27))],[]⟩ [(29,false)] 32 68 [(pc o7 0),(pi 0),(pi 9)]
 (.ite (.pick r29 pT (.nt r32))
 (.ret (pi 1))
 (.call ⟨[],[]⟩ [] 38 144 [(mkA 8 o3),(mkA 19 o4),(mkA 9 o7)]
 (.ite (.nt r38)
 (.ret (pi 14))
 (.ite (.pick (plt (pc o7 6) (pc o4 8)) pT (pgt (pc o7 6) (pi 100000)))
 (.ret (pi 13))
 (.ite (pge (pc o7 4) (pi 0))
 (.chk (pix (pc o4 15) (pc o7 4))
 (.ite (plt (pc o7 6) (pc (pn (pc o4 15) (pc o7 4)) 6))
 (.ret (pi 13))
 (.ite (pgt r2 (pi 0))
 (.chk (pix (pc o4 17) (aB r2 (pi 1)))
 (.ite (plt (pc o7 6) (pc (pn (pc o4 17) (aB r2 (pi 1))) 6))
 (.ret (pi 13))
 (.ret (pi 0))))
 (.ret (pi 0)))))
 (.ite (pgt r2 (pi 0))
 (.chk (pix (pc o4 17) (aB r2 (pi 1)))
 (.ite (plt (pc o7 6) (pc (pn (pc o4 17) (aB r2 (pi 1))) 6))
 (.ret (pi 13))
 (.ret (pi 0))))
 (.ret (pi 0)))))))))))))
def R7 (b:Nat→PC):PT×List (Shp×PT):=(TR,[])
theorem Tu:cf_r12_acts.map told=some (R7 (aA cf_r12_acts)):=by kernel_rfl
theorem KZ:cf_r12_acts=some If:=af Tu
noncomputable def cf_r12_Acted:Option PC:=av {ctx with fr:=[6,7,8,9,10,56,76,93,114,133,151],nh:=[]} Tryz.f144 ((aa aq 144).getD default) [3,4,5]
noncomputable def E5:PC:=hpc cf_r12_Acted
def Ri:PT:=
 (.call ⟨[],[(5,(.mk [r2])),(4,(.mk [r1])),(3,(.mk [r0]))]⟩ [] 17 68 [(pc (.mk [r2]) 1),(pi 0),(aB (.llen (pc (.mk [r0]) 3)) (pi 1))]
 (.ite (.nt r17)
 (.ret pF)
 (.call ⟨[],[]⟩ [] 25 68 [(pc o5 2),(pi 0),(aB (.llen (pc o3 3)) (pi 1))]
 (.call ⟨[(7,r25)],[]⟩ [] 28 68 [(pc o5 5),(pi 0),(pi 1099511627776)]
 (.call ⟨[(8,r28)],[]⟩ [] 35 68 [(pc o5 4),(pi 0),(aB (.llen (pc o4 15)) (pi 1))]
 (.iteS ⟨[(9,r35)],[]⟩ r35 [9] []
 (.call ⟨[],[]⟩ [] 42 199 [(mkA 19 o4),(pc o5 4),(pc o5 3)]
 (.next ⟨[(9,r42)],[]⟩))
 (.next ⟨[],[]⟩)
 (.ite r9
 (.chk (pix (pc o4 15) (pc o5 4))
 (.ite (.pick (peq (pc o5 0) (pi 0)) (peq (pc o5 0) (pi 0)) (.pick (peq (pc o5 0) (pi 1)) (peq (pc o5 0) (pi 1)) (peq (pc o5 0) (pi 2))))
 (.ret (.pick (.pick (.pick r7 (peq (pc o5 4) (pi (-1))) pF) (peq (pc o5 5) (pi 0)) pF) (peq (pc o5 8) (pi 0)) pF))
 (.ite (.pick (peq (pc o5 0) (pi 3)) (peq (pc o5 0) (pi 3)) (peq (pc o5 0) (pi 5)))
 (.ret (.pick (.pick (.pick r7 (peq (pc o5 4) (pi (-1))) pF) r8 pF) (peq (pc o5 8) (pi 0)) pF))
 (.ite (peq (pc o5 0) (pi 4))
 (.ret (.pick (.pick (.pick r7 (peq (pc o5 4) (pi (-1))) pF) r8 pF) (.pick (peq (pc o5 8) (pi 0)) pT (peq (pc o5 8) (pi 1))) pF))
 (.ite (peq (pc o5 0) (pi 6))
 (.ret (.pick (.pick (.pick (.pick r7 (peq (pc (pn (pc o4 15) (pc o5 4)) 2) (pc o5 1)) pF) r8 pF) (pgt (pc o5 5) (pi 0)) pF) (peq (pc o5 8) (pi 0)) pF))
 (.ite (peq (pc o5 0) (pi 9))
 (.ret (.pick (.pick (.pick (peq (pc o5 2) (pi (-1))) (peq (pc (pn (pc o4 15) (pc o5 4)) 2) (pc o5 1)) pF) (peq (pc o5 5) (pi 0)) pF) (peq (pc o5 8) (pi 0)) pF))
 (.ite (.pick (peq (pc o5 0) (pi 7)) (peq (pc o5 0) (pi 7)) (peq (pc o5 0) (pi 8)))
 (.ret (.pick (.pick (.pick (peq (pc o5 2) (pi (-1))) r9 pF) (peq (pc o5 5) (pi 0)) pF) (peq (pc o5 8) (pi 0)) pF))
 (.ret pF))))))))
 (.ite (.pick (peq (pc o5 0) (pi 0)) (peq (pc o5 0) (pi 0)) (.pick (peq (pc o5 0) (pi 1)) (peq (pc o5 0) (pi 1)) (peq (pc o5 0) (pi 2))))
 (.ret (.pick (.pick (.pick r7 (peq (pc o5 4) (pi (-1))) pF) (peq (pc o5 5) (pi 0)) pF) (peq (pc o5 8) (pi 0)) pF))
 (.ite (.pick (peq (pc o5 0) (pi 3)) (peq (pc o5 0) (pi 3)) (peq (pc o5 0) (pi 5)))
 (.ret (.pick (.pick (.pick r7 (peq (pc o5 4) (pi (-1))) pF) r8 pF) (peq (pc o5 8) (pi 0)) pF))
 (.ite (peq (pc o5 0) (pi 4))
 (.ret (.pick (.pick (.pick r7 (peq (pc o5 4) (pi (-1))) pF) r8 pF) (.pick (peq (pc o5 8) (pi 0)) pT (peq (pc o5 8) (pi 1))) pF))
 (.ite (peq (pc o5 0) (pi 6))
 (.ret (.pick (.pick (.pick (.pick r7 pF pF) r8 pF) (pgt (pc o5 5) (pi 0)) pF) (peq (pc o5 8) (pi 0)) pF))
 (.ite (peq (pc o5 0) (pi 9))
 (.ret (.pick (.pick (.pick (peq (pc o5 2) (pi (-1))) pF pF) (peq (pc o5 5) (pi 0)) pF) (peq (pc o5 8) (pi 0)) pF))
 (.ite (.pick (peq (pc o5 0) (pi 7)) (peq (pc o5 0) (pi 7)) (peq (pc o5 0) (pi 8)))
 (.ret (.pick (.pick (.pick (peq (pc o5 2) (pi (-1))) r9 pF) (peq (pc o5 5) (pi 0)) pF) (peq (pc o5 8) (pi 0)) pF))
 (.ret pF))))))))))))))
def QH (b:Nat→PC):PT×List (Shp×PT):=(Ri,[])
theorem Rw:cf_r12_Acted.map told=some (QH (aA cf_r12_Acted)):=by kernel_rfl
theorem Jf:cf_r12_Acted=some E5:=af Rw
noncomputable def cf_r12_facts:Option PC:=av {ctx with fr:=[4],nh:=[]} Tryz.f70 ((aa aq 70).getD default) [2,5,6]
noncomputable def Et:PC:=hpc cf_r12_facts
def Rh:PT:=
 (.chk (pix (pc (.mk [r0]) 18) r1)
 (.call ⟨[],[(5,(.setc z3 0 (pn (pc (.mk [r0]) 18) r1))),(2,(.mk [r0]))]⟩ [] 14 68 [(pc (.setc z3 0 (pn (pc (.mk [r0]) 18) r1)) 0),(pi 0),(pi 4)]
 (.call ⟨[(16,(.nt r14))],[]⟩ [(16,false)] 23 68 [(pc o5 1),(pi 0),(aB (.llen (pc o2 15)) (pi 1))]
 (.call ⟨[(26,(.pick r16 pT (.nt r23)))],[]⟩ [(26,false)] 29 68 [(pc o5 2),(pi 0),(pi 1)]
 (.ite (.pick r26 pT (.nt r29))
 (.ret (pi 1))
 (.ite (pgt r1 (pi 0))
 (.chk (pix (pc o2 18) (aB r1 (pi 1)))
 (.ite (.pick (pgt (pc (.setc z3 0 (pn (pc o2 18) (aB r1 (pi 1)))) 1) (pc o5 1)) pT (.pick (peq (pc (.setc z3 0 (pn (pc o2 18) (aB r1 (pi 1)))) 1) (pc o5 1)) (pge (pc (.setc z3 0 (pn (pc o2 18) (aB r1 (pi 1)))) 0) (pc o5 0)) pF))
 (.ret (pi 5))
 (.ret (pi 0))))
 (.ret (pi 0))))))))
def QJ (b:Nat→PC):PT×List (Shp×PT):=(Rh,[])
theorem QO:cf_r12_facts.map told=some (QJ (aA cf_r12_facts)):=by kernel_rfl
theorem Js:cf_r12_facts=some Et:=af QO
noncomputable def cf_r14_With:Option PC:=av {ctx with fr:=[6,8],nh:=[]} Tryz.f25 ((aa aq 25).getD default) [2,77826,3,4,5,7,9]
noncomputable def H8:PC:=hpc cf_r14_With
def NO (b:Nat→PC):PC:=.block 0 [5,6,18,19,20,21,22] [5] (.loop [5,6] [5] (b 0))
def Od (b:Nat→PC):PC:=.block 2 [5,8,57,58,59,60,61] [5] (.loop [5,8] [5] (b 1))
def Pd (b:Nat→PC):PT:=
 (.ite (plt r6 (.llen (pc o2 18)))
 (.chk (pix (pc o2 18) r6)
 (.ite (.pick (plt (pc (.setc z3 0 (pn (pc o2 18) r6)) 1) (pc o3 1)) pT (.pick (peq (pc (.setc z3 0 (pn (pc o2 18) r6)) 1) (pc o3 1)) (plt (pc (.setc z3 0 (pn (pc o2 18) r6)) 0) (pc o3 0)) pF))
 (.chk (ple (.llen (.app o5 (.lst [(.mk [(pc (.setc z3 0 (pn (pc o2 18) r6)) 0),(pc (.setc z3 0 (pn (pc o2 18) r6)) 1),(pc (.setc z3 0 (pn (pc o2 18) r6)) 2)])]))) (pi 4294967296))
 (.next ⟨[(5,pN),(6,(ao r6 (pi 1)))],[(5,(.app o5 (.lst [(.mk [(pc (.setc z3 0 (pn (pc o2 18) r6)) 0),(pc (.setc z3 0 (pn (pc o2 18) r6)) 1),(pc (.setc z3 0 (pn (pc o2 18) r6)) 2)])])))]⟩))
 (.next ⟨[(6,(ao r6 (pi 1)))],[]⟩)))
 (.exit 0 ⟨[(18,r6),(19,pN),(20,(pc o2 18)),(21,(.llen (pc o2 18))),(22,(plt r6 (.llen (pc o2 18))))],[]⟩))
def Ou (b:Nat→PC):PT:=
 (.ite (plt r8 (.llen (pc o2 18)))
 (.chk (pix (pc o2 18) r8)
 (.ite (.pick (pgt (pc (.setc z3 0 (pn (pc o2 18) r8)) 1) (pc o3 1)) pT (.pick (peq (pc (.setc z3 0 (pn (pc o2 18) r8)) 1) (pc o3 1)) (pgt (pc (.setc z3 0 (pn (pc o2 18) r8)) 0) (pc o3 0)) pF))
 (.chk (ple (.llen (.app o5 (.lst [(.mk [(pc (.setc z3 0 (pn (pc o2 18) r8)) 0),(pc (.setc z3 0 (pn (pc o2 18) r8)) 1),(pc (.setc z3 0 (pn (pc o2 18) r8)) 2)])]))) (pi 4294967296))
 (.next ⟨[(5,pN),(8,(ao r8 (pi 1)))],[(5,(.app o5 (.lst [(.mk [(pc (.setc z3 0 (pn (pc o2 18) r8)) 0),(pc (.setc z3 0 (pn (pc o2 18) r8)) 1),(pc (.setc z3 0 (pn (pc o2 18) r8)) 2)])])))]⟩))
 (.next ⟨[(8,(ao r8 (pi 1)))],[]⟩)))
 (.exit 2 ⟨[(57,r8),(58,pN),(59,(pc o2 18)),(60,(.llen (pc o2 18))),(61,(plt r8 (.llen (pc o2 18))))],[]⟩))
def TA (b:Nat→PC):PT:=
 (.call ⟨[],[(4,(.con (.agg [(.int 0),(.int 0),(.int 0),(.int 0),(.int 0),(.int 0),(.int 0),(.int 0),(.int 0),(.int 0),(.int 0),(.int 0),(.int 0),(.int 0),(.int 0),(.list []),(.list []),(.list []),(.list [])]))),(3,(.mk [r1])),(2,(.mk [r0]))]⟩ [] 15 71 [(mkA 19 (.mk [r0])),(pc (.mk [r1]) 0),(pc (.mk [r1]) 1)]
 (.ite (pc r15 0)
 (.ret (mkA 19 (.setc o4 0 (mkA 19 o2))))
 (.brk ⟨[(6,(pi 0)),(5,pN)],[(5,pL)]⟩
(NO b)
 (.chk (ple (.llen (.app o5 (.lst [(.mk [(pc o3 0),(pc o3 1),(pc o3 2)])]))) (pi 4294967296))
 (.brk ⟨[(8,(pi 0)),(5,pN)],[(5,(.app o5 (.lst [(.mk [(pc o3 0),(pc o3 1),(pc o3 2)])])))]⟩
(Od b)
 (.ret (mkA 19 (.setc o4 0 (.mk [(pc (.setc o2 18 pN) 0),(pc (.setc o2 18 pN) 1),(pc (.setc o2 18 pN) 2),(pc (.setc o2 18 pN) 3),(pc (.setc o2 18 pN) 4),(pc (.setc o2 18 pN) 5),(pc (.setc o2 18 pN) 6),(pc (.setc o2 18 pN) 7),(pc (.setc o2 18 pN) 8),(pc (.setc o2 18 pN) 9),(pc (.setc o2 18 pN) 10),(pc (.setc o2 18 pN) 11),(pc (.setc o2 18 pN) 12),(pc (.setc o2 18 pN) 13),(pc (.setc o2 18 pN) 14),(pc (.setc o2 18 pN) 15),(pc (.setc o2 18 pN) 16),(pc (.setc o2 18 pN) 17),o5])))))))))
def Sz (b:Nat→PC):PT×List (Shp×PT):=(TA b,[(.lp 0 [5,6,18,19,20,21,22] [5] [5,6] [5],Pd b),(.lp 2 [5,8,57,58,59,60,61] [5] [5,8] [5],Ou b)])
theorem TX:cf_r14_With.map told=some (Sz (aA cf_r14_With)):=by kernel_rfl
theorem L5:cf_r14_With=some H8:=af TX
noncomputable def cf_r14_Fact:Option PC:=av {ctx with fr:=[7],nh:=[]} Tryz.f71 ((aa aq 71).getD default) [3,6]
noncomputable def Hx:PC:=hpc cf_r14_Fact
def OQ (b:Nat→PC):PC:=.block 0 [7,8,9,10,11,12] [6] (.loop [7] [6] (b 0))
def O8 (b:Nat→PC):PT:=
 (.ite (plt r7 (.llen (pc o3 18)))
 (.chk (pix (pc o3 18) r7)
 (.chk (.nt (.an (.an (peq (pc (pn (pc o3 18) r7) 0) r1) pT) (.nt (pix (pc o3 18) r7))))
 (.ite (.pick (peq (pc (pn (pc o3 18) r7) 0) r1) (peq (pc (pn (pc o3 18) r7) 1) r2) pF)
 (.ite (peq (pc (pn (pc o3 18) r7) 2) (pi 0))
 (.ret (.mk [(pc (.setc o6 0 (.mk [pT,(pi 0)])) 0),(pc (.setc o6 0 (.mk [pT,(pi 0)])) 1)]))
 (.ret (.mk [(pc (.setc o6 0 (.mk [pT,(pi 1)])) 0),(pc (.setc o6 0 (.mk [pT,(pi 1)])) 1)])))
 (.next ⟨[(7,(ao r7 (pi 1)))],[]⟩))))
 (.exit 0 ⟨[(8,r7),(9,pN),(10,(pc o3 18)),(11,(.llen (pc o3 18))),(12,(plt r7 (.llen (pc o3 18))))],[]⟩))
def So (b:Nat→PC):PT:=
 (.brk ⟨[(7,(pi 0))],[(6,(.con (.agg [(.bool false),(.int 0)]))),(3,(.mk [r0]))]⟩
(OQ b)
 (.ret (.mk [(pc (.setc o6 0 (.mk [pF,(pi 0)])) 0),(pc (.setc o6 0 (.mk [pF,(pi 0)])) 1)])))
def Ul (b:Nat→PC):PT×List (Shp×PT):=(So b,[(.lp 0 [7,8,9,10,11,12] [6] [7] [6],O8 b)])
theorem Uc:cf_r14_Fact.map told=some (Ul (aA cf_r14_Fact)):=by kernel_rfl
theorem MM:cf_r14_Fact=some Hx:=af Uc
noncomputable def cf_l23_BindStrikes:Option PC:=av {ctx with fr:=[12,13,15,17,18,19,20],nh:=[]} Tryz.f6 ((aa aq 6).getD default) [6,8,14,16,73744,21]
noncomputable def qv:PC:=hpc cf_l23_BindStrikes
def y1 (b:Nat→PC):PC:=.block 0 [12,20,109,110,111,112] [] (.loop [12,20] [] (b 0))
def xy (b:Nat→PC):PT:=
 (.ite (plt r20 (.llen r17))
 (.chk (pix r17 r20)
 (.chk (pix r18 r20)
 (.ite (.nt (.an (peq (pc (pn r18 r20) 0) (pc (mkA 7 (.pick (peq r20 r15) (.setc (.setc (.con (.agg [(.int 0),(.int 0),(.int 0),(.int 0),(.int 0),(.int 0),(.bool false)])) 0 (pn r17 r20)) 3 (pi 0)) (.setc (.con (.agg [(.int 0),(.int 0),(.int 0),(.int 0),(.int 0),(.int 0),(.bool false)])) 0 (pn r17 r20)))) 0)) (.an (peq (pc (pn r18 r20) 1) (pc (mkA 7 (.pick (peq r20 r15) (.setc (.setc (.con (.agg [(.int 0),(.int 0),(.int 0),(.int 0),(.int 0),(.int 0),(.bool false)])) 0 (pn r17 r20)) 3 (pi 0)) (.setc (.con (.agg [(.int 0),(.int 0),(.int 0),(.int 0),(.int 0),(.int 0),(.bool false)])) 0 (pn r17 r20)))) 1)) (.an (peq (pc (pn r18 r20) 2) (pc (mkA 7 (.pick (peq r20 r15) (.setc (.setc (.con (.agg [(.int 0),(.int 0),(.int 0),(.int 0),(.int 0),(.int 0),(.bool false)])) 0 (pn r17 r20)) 3 (pi 0)) (.setc (.con (.agg [(.int 0),(.int 0),(.int 0),(.int 0),(.int 0),(.int 0),(.bool false)])) 0 (pn r17 r20)))) 2)) (.an (peq (pc (pn r18 r20) 3) (pc (mkA 7 (.pick (peq r20 r15) (.setc (.setc (.con (.agg [(.int 0),(.int 0),(.int 0),(.int 0),(.int 0),(.int 0),(.bool false)])) 0 (pn r17 r20)) 3 (pi 0)) (.setc (.con (.agg [(.int 0),(.int 0),(.int 0),(.int 0),(.int 0),(.int 0),(.bool false)])) 0 (pn r17 r20)))) 3)) (.an (peq (pc (pn r18 r20) 4) (pc (mkA 7 (.pick (peq r20 r15) (.setc (.setc (.con (.agg [(.int 0),(.int 0),(.int 0),(.int 0),(.int 0),(.int 0),(.bool false)])) 0 (pn r17 r20)) 3 (pi 0)) (.setc (.con (.agg [(.int 0),(.int 0),(.int 0),(.int 0),(.int 0),(.int 0),(.bool false)])) 0 (pn r17 r20)))) 4)) (.an (peq (pc (pn r18 r20) 5) (pc (mkA 7 (.pick (peq r20 r15) (.setc (.setc (.con (.agg [(.int 0),(.int 0),(.int 0),(.int 0),(.int 0),(.int 0),(.bool false)])) 0 (pn r17 r20)) 3 (pi 0)) (.setc (.con (.agg [(.int 0),(.int 0),(.int 0),(.int 0),(.int 0),(.int 0),(.bool false)])) 0 (pn r17 r20)))) 5)) (.an (.cb .eql (pc (pn r18 r20) 6) (pc (mkA 7 (.pick (peq r20 r15) (.setc (.setc (.con (.agg [(.int 0),(.int 0),(.int 0),(.int 0),(.int 0),(.int 0),(.bool false)])) 0 (pn r17 r20)) 3 (pi 0)) (.setc (.con (.agg [(.int 0),(.int 0),(.int 0),(.int 0),(.int 0),(.int 0),(.bool false)])) 0 (pn r17 r20)))) 6)) pT))))))))
 (.ret pF)
 (.next ⟨[(20,(ao r20 (pi 1)))],[]⟩))))
 (.exit 0 ⟨[(109,r20),(110,r17),(111,(.llen r17)),(112,(plt r20 (.llen r17)))],[]⟩))
def Cl (b:Nat→PC):PT:=
 (.call ⟨[(12,pF)],[(8,(.mk [r2])),(6,(.mk [r0]))]⟩ [] 22 15 []
 (.call ⟨[(13,r22)],[]⟩ [] 25 16 [(mkA 8 o6),(mkA 19 o8)]
 (.call ⟨[(27,(.nt r25))],[]⟩ [(27,false)] 30 24 [(mkA 8 o6),(mkA 19 o8)]
 (.ite (.pick (.pick r27 pT (pne r30 (pi 0))) pT (pgt r4 (pi 100000)))
 (.ret r13)
 (.call ⟨[],[]⟩ [] 40 26 [(mkA 19 o8),r4]
 (.iteS ⟨[],[(14,(.setc (.con (.agg [(.int 0),(.int 0),(.int 0),(.int 0),(.int 0),(.int 0),(.int 0),(.int 0),(.int 0),(.int 0),(.int 0),(.int 0),(.int 0),(.int 0),(.int 0),(.list []),(.list []),(.list []),(.list [])])) 0 r40))]⟩ (peq (.llen (pc (.setc (.con (.agg [(.int 0),(.int 0),(.int 0),(.int 0),(.int 0),(.int 0),(.int 0),(.int 0),(.int 0),(.int 0),(.int 0),(.int 0),(.int 0),(.int 0),(.int 0),(.list []),(.list []),(.list []),(.list [])])) 0 r40) 15)) (pi 0)) [12] []
 (.call ⟨[(46,r13)],[]⟩ [(46,true)] 51 20 [(mkA 8 o6),r1,(mkA 19 o8),r4]
 (.ret (.pick r46 (peq (.llen r51) (pi 0)) pF)))
 (.next ⟨[],[]⟩)
 (.chk (pne (.llen (pc o14 15)) (pi 0))
 (.chk (ple (.llen (.app (.lst []) (pc o14 17))) (pi 4294967296))
 (.chk (ple (.llen (.app (.app (.lst []) (pc o14 17)) (.lst [(.mk [(pi 7),(pi 0),(pi (-1)),(pi 0),(.ai .rem .i64 (.conv .i64 r3) (.llen (pc o14 15))),(pi 0),r4,(pi 0),(pi 0)])]))) (pi 4294967296))
 (.call ⟨[(15,(.ai .rem .i64 (.conv .i64 r3) (.llen (pc o14 15))))],[(73744,(.app (.app (.lst []) (pc o14 17)) (.lst [(.mk [(pi 7),(pi 0),(pi (-1)),(pi 0),(.ai .rem .i64 (.conv .i64 r3) (.llen (pc o14 15))),(pi 0),r4,(pi 0),(pi 0)])]))),(16,(.setc (.setc (.con (.agg [(.int 0),(.int 0),(.int 0),(.int 0),(.int 0),(.int 0),(.int 0),(.int 0),(.int 0),(.int 0),(.int 0),(.int 0),(.int 0),(.int 0),(.int 0),(.list []),(.list []),(.list []),(.list [])])) 0 (mkA 19 o14)) 17 pN))]⟩ [] 76 20 [(mkA 8 o6),r1,(mkA 19 o8),r4]
 (.call ⟨[(17,r76)],[]⟩ [] 81 20 [(mkA 8 o6),r1,(.mk [(pc o16 0),(pc o16 1),(pc o16 2),(pc o16 3),(pc o16 4),(pc o16 5),(pc o16 6),(pc o16 7),(pc o16 8),(pc o16 9),(pc o16 10),(pc o16 11),(pc o16 12),(pc o16 13),(pc o16 14),(pc o16 15),(pc o16 16),(.o 73744),(pc o16 18)]),r4]
 (.call ⟨[(18,r81)],[]⟩ [] 89 20 [(mkA 8 o6),r1,(mkA 19 o14),(ao r4 (.conv .i64 r5))]
 (.call ⟨[(103,(.pick (pne (.llen r17) (.llen r18)) pT (pne (.llen r17) (.llen (pc o14 15)))))],[]⟩ [(103,false)] 106 19 [r17,r89]
 (.ite (.pick aa6 pT (.nt aaZ))
 (.ret pF)
 (.brk ⟨[(20,(pi 0))],[]⟩
(y1 b)
 (.ret r13))))))))))))))))
def CK (b:Nat→PC):PT×List (Shp×PT):=(Cl b,[(.lp 0 [12,20,109,110,111,112] [] [12,20] [],xy b)])
theorem Bj:cf_l23_BindStrikes.map told=some (CK (aA cf_l23_BindStrikes)):=by kernel_rfl
theorem w6:cf_l23_BindStrikes=some qv:=af Bj
noncomputable def cf_ask_places_a:Option PC:=av {ctx with fr:=[6],nh:=[]} Tryz.f101 ⟨[Y8,I,Y13],.slice I,.dat⟩ [3,5,7,8,42,9]
noncomputable def py:PC:=hpc cf_ask_places_a
def od:PT:=
 (.chk (pix (pc (.mk [r2]) 15) (pc (.mk [r2]) 19))
 (.ite (.pick (.pick (.pick (plt (pc (.setc z9 0 (pn (pc (.mk [r2]) 15) (pc (.mk [r2]) 19))) 2) (pi 0)) pT (pge (pc (.setc z9 0 (pn (pc (.mk [r2]) 15) (pc (.mk [r2]) 19))) 2) (.llen (pc (.mk [r0]) 3)))) pT (plt r1 (pi 0))) pT (pge r1 (.llen (pc (.mk [r0]) 4))))
 (.ret pL)
 (.chk (.an (pge (pi 5) (pi 0)) (ple (pi 5) (pi 4294967296)))
 (.chk (peq (pi 5) (pi 5))
 (.chk (pix (.rep (pi 5) (pi 0)) (pi 0))
 (.call ⟨[],[(9,(.setn (.rep (pi 5) (pi 0)) (pi 0) 0 r1)),(8,(.setc z15 0 (mkA 15 (.mk [r2])))),(7,(.setc z9 0 (pn (pc (.mk [r2]) 15) (pc (.mk [r2]) 19)))),(3,(.mk [r0]))]⟩ [] 50 53 [(mkA 8 (.mk [r0])),(pc (.setc z9 0 (pn (pc (.mk [r2]) 15) (pc (.mk [r2]) 19))) 7)]
 (.chk (pix o9 (pi 1))
 (.call ⟨[],[(9,(.setn o9 (pi 1) 0 r50))]⟩ [] 56 53 [(mkA 8 o3),(pc o8 10)]
 (.chk (pix o9 (pi 2))
 (.call ⟨[],[(9,(.setn o9 (pi 2) 0 r56))]⟩ [] 62 53 [(mkA 8 o3),(pc o8 9)]
 (.chk (pix o9 (pi 3))
 (.chk (pix (pc o3 3) (pc o7 2))
 (.call ⟨[],[(9,(.setn o9 (pi 3) 0 r62))]⟩ [] 73 53 [(mkA 8 o3),(pc (pn (pc o3 3) (pc o7 2)) 1)]
 (.chk (pix o9 (pi 4))
 (.call ⟨[],[(9,(.setn o9 (pi 4) 0 r73))]⟩ [] 76 116 [(.setn o9 (pi 4) 0 r73),(pi (-1))]
 (.ite r76
 (.ret pL)
 (.ret o9)))))))))))))))))
def Jv (b:Nat→PC):PT×List (Shp×PT):=(od,[])
theorem wz:cf_ask_places_a.map told=some (Jv (aA cf_ask_places_a)):=by kernel_rfl
theorem Cg:tree py=od:=ah wz
theorem BJ:cf_ask_places_a=some py:=af wz
noncomputable def cf_ask_places_b:Option PC:=av {ctx with fr:=[6],nh:=[]} Tryz.f101 ⟨[Y8,I,Y13],.nils .bool,.dat⟩ [3,5,7,8,42,9]
noncomputable def pz:PC:=hpc cf_ask_places_b
def jz:PT:=
 (.chk (pix (pc (.mk [r2]) 15) (pc (.mk [r2]) 19))
 (.ite (.pick (.pick (.pick (plt (pc (.setc z9 0 (pn (pc (.mk [r2]) 15) (pc (.mk [r2]) 19))) 2) (pi 0)) pT (pge (pc (.setc z9 0 (pn (pc (.mk [r2]) 15) (pc (.mk [r2]) 19))) 2) (.llen (pc (.mk [r0]) 3)))) pT (plt r1 (pi 0))) pT (pge r1 (.llen (pc (.mk [r0]) 4))))
 (.ret pL)
 (.chk (.an (pge (pi 5) (pi 0)) (ple (pi 5) (pi 4294967296)))
 (.chk (peq (pi 5) (pi 5))
 (.chk (pix (.rep (pi 5) (pi 0)) (pi 0))
 (.call ⟨[],[(9,(.setn (.rep (pi 5) (pi 0)) (pi 0) 0 r1)),(8,(.setc z15 0 (mkA 15 (.mk [r2])))),(7,(.setc z9 0 (pn (pc (.mk [r2]) 15) (pc (.mk [r2]) 19)))),(3,(.mk [r0]))]⟩ [] 50 53 [(mkA 8 (.mk [r0])),(pc (.setc z9 0 (pn (pc (.mk [r2]) 15) (pc (.mk [r2]) 19))) 7)]
 (.chk (pix o9 (pi 1))
 (.call ⟨[],[(9,(.setn o9 (pi 1) 0 r50))]⟩ [] 56 53 [(mkA 8 o3),(pc o8 10)]
 (.chk (pix o9 (pi 2))
 (.call ⟨[],[(9,(.setn o9 (pi 2) 0 r56))]⟩ [] 62 53 [(mkA 8 o3),(pc o8 9)]
 (.chk (pix o9 (pi 3))
 (.chk (pix (pc o3 3) (pc o7 2))
 (.call ⟨[],[(9,(.setn o9 (pi 3) 0 r62))]⟩ [] 73 53 [(mkA 8 o3),(pc (pn (pc o3 3) (pc o7 2)) 1)]
 (.chk (pix o9 (pi 4))
 (.call ⟨[],[]⟩ [] 76 116 [(.setn o9 (pi 4) 0 r73),(pi (-1))]
 (.ite r76
 (.ret pL)
 (.chk pF
 (.next ⟨[],[]⟩))))))))))))))))))
def I0 (b:Nat→PC):PT×List (Shp×PT):=(jz,[])
theorem v3:cf_ask_places_b.map told=some (I0 (aA cf_ask_places_b)):=by kernel_rfl
theorem Bo:tree pz=jz:=ah v3
theorem BY:cf_ask_places_b=some pz:=af v3
end Rm
