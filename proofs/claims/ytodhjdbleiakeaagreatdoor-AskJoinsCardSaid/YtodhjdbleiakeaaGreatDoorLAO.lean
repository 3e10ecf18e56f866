/-
  Shared texts of this claim.
-/
import Derived.Test.YtodhjdbleiakeaaGreatDoorLAK
import Derived.KernelRfl
import Derived.Test.YtodhjdbleiakeaaGreatDoorLAL
import Derived.Test.YtodhjdbleiakeaaGreatDoorLAM
import Derived.Test.YtodhjdbleiakeaaGreatDoorLAN
import Derived.Test.YtodhjdbleiakeaaGreatDoorLAJ
import Derived.WalkKit
import Derived.WalkSpells
import Derived.Lib.SliceRun
import Derived.Lib.AppendZeros
set_option linter.unusedVariables false
set_option maxRecDepth 100000
namespace Rm
open Go Go.Proofs Cx
noncomputable def C1:Option PC:=aA {ctx with fr:=[6],nh:=[]} Tryz.f210 ((ae af 210).getD default) []
noncomputable def Gc:PC:=ay C1
def QJ:PT:=
 (.ret (.pick (bM r1 r0) (bM r0 r2) pF))
def akn (b:Nat→PC):PT×List (Shp×PT):=(QJ,[])
theorem Zq:C1.map told=some (akn (av C1)):=by kernel_rfl
theorem avU:tree Gc=QJ:=aJ Zq
theorem agJ:C1=some Gc:=aC Zq
noncomputable def xP:Option PC:=aA {ctx with fr:=[6,7],nh:=[]} Tryz.f259 ((ae af 259).getD default) []
noncomputable def Gb:PC:=ay xP
noncomputable def Jt:Nat→PC:=bz xP
def apN (b:Nat→PC):PC:=.block 0 [6,7,8,9,10,11] [] (.loop [6,7] [] (b 0))
def Bb (b:Nat→PC):PT:=
 (.ite (ak r7 (.llen r0))
 (.blockS ⟨[],[]⟩ 1 [6,14,15,16,17,18,19,20,21,22,23,24,35] []
 (.chk (aq r0 r7)
 (.call ⟨[],[]⟩ [] 20 210 [(pn r0 r7),r1,r2]
 (.ite (.nt dD)
 (.ret pF)
 (.chk (.nt (.an (.an (be r7 (pi 0)) pT) (.nt (aq r0 v7))))
 (.chk (.nt (.an (.an (be r7 (pi 0)) pT) (.nt (aq r0 r7))))
 (.ite (.pick (be r7 (pi 0)) (bt (pn r0 v7) (pn r0 r7)) pF)
 (.ret pF)
 (.next ⟨[],[]⟩)))))))
 (.next ⟨[(7,(aH r7 (pi 1)))],[]⟩))
 (.exit 0 ⟨[(8,r7),(9,r0),(10,(.llen r0)),(11,(ak r7 (.llen r0)))],[]⟩))
def QI (b:Nat→PC):PT:=
 (.brk ⟨[(7,(pi 0)),(6,pF)],[]⟩
(apN b)
 (.ret pT))
def akm (b:Nat→PC):PT×List (Shp×PT):=(QI b,[(.lp 0 [6,7,8,9,10,11] [] [6,7] [],Bb b)])
theorem NA:xP.map told=some (akm (av xP)):=by kernel_rfl
theorem avT:tree Gb=QI Jt:=aJ NA
theorem OY:round 0 [6,7,8,9,10,11] [] [6,7] [] (Jt 0)=Bb Jt:=br NA 0 fun _=>rfl
theorem agI:xP=some Gb:=aC NA
noncomputable def xR:Option PC:=aA {ctx with fr:=[2,3,5,6],nh:=[]} Tryz.f146 ((ae af 146).getD default) [1,4,44]
noncomputable def Ge:PC:=ay xR
noncomputable def xj:Nat→PC:=bz xR
def apQ (b:Nat→PC):PC:=.block 0 [2,3,11,12,13,14,15] [] (.loop [2,3] [] (b 0))
def apR (b:Nat→PC):PC:=.block 2 [2,4,5,30,31,32,33,34] [4] (.loop [2,4,5] [4] (b 1))
def Be (b:Nat→PC):PT:=
 (.ite (ak r3 nU)
 (.blockS ⟨[],[]⟩ 1 [2,18,19,20,21,22,23,24,25] []
 (.chk (aq (pc o1 2) r3)
 (.call ⟨[],[]⟩ [] 24 210 [(pc (pn (pc o1 2) r3) 0),(pi 0),(pi 9)]
 (.ite (.nt m0)
 (.ret (pi 1))
 (.next ⟨[],[]⟩))))
 (.next ⟨[(3,nW)],[]⟩))
 (.exit 0 ⟨[(11,r3),(12,pN),(13,(pc o1 2)),(14,nU),(15,(ak r3 nU))],[]⟩))
def Bf (b:Nat→PC):PT:=
 (.ite (ak r5 lh)
 (.blockS ⟨[],[]⟩ 3 [2,4,6,38,39,40,41,42,43,44,45,46,47,48,49,50,52,53,54,55,56,57,58,59,60,61,62,63,64,77] [44,4]
 (.chk (aq (pc o1 3) r5)
 (.chk (bM (.llen OC) cG)
 (.call ⟨[(4,pN)],[(4,OC)]⟩ [] 48 208 [OC,r5]
 (.ite (aO od (pi 0))
 (.ret od)
 (.chk (aq (pc o1 3) r5)
 (.call ⟨[],[]⟩ [] 62 210 [(pc (pn (pc o1 3) r5) 1),(pi 0),(bh jK (pi 1))]
 (.chk (.nt (.an (.an (.nt (.nt tG)) pT) (.nt (aq (pc o1 3) r5))))
 (.call ⟨[(64,(.nt tG))],[]⟩ [(64,false)] 75 210 [(pc (pn (pc o1 3) r5) 2),(pi 0),(bh nU (pi 1))]
 (.ite (.pick HO pT (.nt wz))
 (.ret (pi 1))
 (.next ⟨[],[]⟩))))))))))
 (.next ⟨[(5,nV)],[]⟩))
 (.exit 2 ⟨[(30,r5),(31,pN),(32,(pc o1 3)),(33,lh),(34,(ak r5 lh))],[]⟩))
def QL (b:Nat→PC):PT:=
 (.ite (be mZ (pi 20))
 (.ret (pi 6))
 (.brk ⟨[(3,(pi 0)),(2,(pi 0))],[(1,(.mk [r0]))]⟩
(apQ b)
 (.ite (be lh (pi 200))
 (.ret (pi 6))
 (.brk ⟨[(5,(pi 0)),(4,pN)],[(4,pL)]⟩
(apR b)
 (.ret (pi 0))))))
def akp (b:Nat→PC):PT×List (Shp×PT):=(QL b,[(.lp 0 [2,3,11,12,13,14,15] [] [2,3] [],Be b),(.lp 2 [2,4,5,30,31,32,33,34] [4] [2,4,5] [4],Bf b)])
theorem Fe:xR.map told=some (akp (av xR)):=by kernel_rfl
theorem avW:tree Ge=QL xj:=aJ Fe
theorem O1:round 0 [2,3,11,12,13,14,15] [] [2,3] [] (xj 0)=Be xj:=br Fe 0 fun _=>rfl
theorem O2:round 2 [2,4,5,30,31,32,33,34] [4] [2,4,5] [4] (xj 1)=Bf xj:=br Fe 1 fun _=>rfl
theorem agL:xR=some Ge:=aC Fe
noncomputable def xS:Option PC:=aA {ctx with fr:=[2,4,5],nh:=[]} Tryz.f147 ((ae af 147).getD default) [1,3,24]
noncomputable def Gg:PC:=ay xS
noncomputable def Ju:Nat→PC:=bz xS
def apS (b:Nat→PC):PC:=.block 0 [2,3,4,10,11,12,13,14] [3] (.loop [2,3,4] [3] (b 0))
def Bg (b:Nat→PC):PT:=
 (.ite (ak r4 lV)
 (.blockS ⟨[],[]⟩ 1 [2,3,5,18,19,20,21,22,23,24,25,26,27,28,29,30,32,33,34,35,36,37,38] [24,3]
 (.chk (aq (pc o1 4) r4)
 (.chk (bM (.llen (.app o3 (.lst [(pc tA 0)]))) cG)
 (.call ⟨[(3,pN)],[(3,(.app o3 (.lst [(pc tA 0)])))]⟩ [] 28 208 [(.app o3 (.lst [(pc tA 0)])),r4]
 (.ite (aO pK (pi 0))
 (.ret pK)
 (.chk (aq (pc o1 4) r4)
 (.call ⟨[],[]⟩ [] 37 211 [tA]
 (.ite (.nt m5)
 (.ret (pi 1))
 (.next ⟨[],[]⟩))))))))
 (.next ⟨[(4,(aH r4 (pi 1)))],[]⟩))
 (.exit 0 ⟨[(10,r4),(11,pN),(12,(pc o1 4)),(13,lV),(14,(ak r4 lV))],[]⟩))
def QN (b:Nat→PC):PT:=
 (.ite (be (.llen tC) (pi 20))
 (.ret (pi 6))
 (.brk ⟨[(4,(pi 0)),(3,pN),(2,(pi 0))],[(3,pL),(1,(.mk [r0]))]⟩
(apS b)
 (.ret (pi 0))))
def akr (b:Nat→PC):PT×List (Shp×PT):=(QN b,[(.lp 0 [2,3,4,10,11,12,13,14] [3] [2,3,4] [3],Bg b)])
theorem NB:xS.map told=some (akr (av xS)):=by kernel_rfl
theorem avY:tree Gg=QN Ju:=aJ NB
theorem O3:round 0 [2,3,4,10,11,12,13,14] [3] [2,3,4] [3] (Ju 0)=Bg Ju:=br NB 0 fun _=>rfl
theorem agN:xS=some Gg:=aC NB
noncomputable def xO:Option PC:=aA {ctx with fr:=[2,3,4],nh:=[]} Tryz.f211 ((ae af 211).getD default) [1]
noncomputable def Ga:PC:=ay xO
noncomputable def xg:Nat→PC:=bz xO
def apL (b:Nat→PC):PC:=.block 0 [2,3,5,6,7,8,9] [] (.loop [2,3] [] (b 0))
def apM (b:Nat→PC):PC:=.block 2 [2,4,48,49,50,51,52] [] (.loop [2,4] [] (b 1))
def A9 (b:Nat→PC):PT:=
 (.ite (ak r3 nU)
 (.blockS ⟨[],[]⟩ 1 [2,12,13,14,15,16,17,18,19,20,29,30,31,32,47] []
 (.chk (aq (pc o1 2) r3)
 (.call ⟨[],[]⟩ [] 18 210 [(pc (pn (pc o1 2) r3) 0),(pi 0),(pi 21)]
 (.chk (.nt (.an (.an (.nt (.nt gZ)) pT) (.nt (aq (pc o1 2) r3))))
 (.call ⟨[(20,(.nt gZ))],[]⟩ [(20,false)] 27 210 [(pc (pn (pc o1 2) r3) 1),(pi 0),(pi 4)]
 (.ite (.pick dD pT (.nt eX))
 (.ret pF)
 (.chk (.nt (.an (.an (be r3 (pi 0)) pT) (.nt (aq (pc o1 2) (bh r3 (pi 1))))))
 (.chk (.nt (.an (.an (be r3 (pi 0)) pT) (.nt (aq (pc o1 2) r3))))
 (.ite (.pick (be r3 (pi 0)) (bt (pc (pn (pc o1 2) (bh r3 (pi 1))) 0) (pc (pn (pc o1 2) r3) 0)) pF)
 (.ret pF)
 (.next ⟨[],[]⟩)))))))))
 (.next ⟨[(3,nW)],[]⟩))
 (.exit 0 ⟨[(5,r3),(6,pN),(7,(pc o1 2)),(8,nU),(9,(ak r3 nU))],[]⟩))
def Ba (b:Nat→PC):PT:=
 (.ite (ak r4 lh)
 (.blockS ⟨[],[]⟩ 3 [2,55,56,57,58,59,60,61,62,63,64,65,80] []
 (.chk (aq (pc o1 3) r4)
 (.call ⟨[],[]⟩ [] 61 210 [(pc (pn (pc o1 3) r4) 0),(pi 0),(pi 21)]
 (.ite (.nt A1)
 (.ret pF)
 (.chk (.nt (.an (.an (be r4 (pi 0)) pT) (.nt (aq (pc o1 3) (bh r4 (pi 1))))))
 (.chk (.nt (.an (.an (be r4 (pi 0)) pT) (.nt (aq (pc o1 3) r4))))
 (.ite (.pick (be r4 (pi 0)) (bt (pc (pn (pc o1 3) (bh r4 (pi 1))) 0) (pc (pn (pc o1 3) r4) 0)) pF)
 (.ret pF)
 (.next ⟨[],[]⟩)))))))
 (.next ⟨[(4,(aH r4 (pi 1)))],[]⟩))
 (.exit 2 ⟨[(48,r4),(49,pN),(50,(pc o1 3)),(51,lh),(52,(ak r4 lh))],[]⟩))
def QH (b:Nat→PC):PT:=
 (.brk ⟨[(3,(pi 0)),(2,pF)],[(1,(.mk [r0]))]⟩
(apL b)
 (.brk ⟨[(4,(pi 0))],[]⟩
(apM b)
 (.ret pT)))
def akl (b:Nat→PC):PT×List (Shp×PT):=(QH b,[(.lp 0 [2,3,5,6,7,8,9] [] [2,3] [],A9 b),(.lp 2 [2,4,48,49,50,51,52] [] [2,4] [],Ba b)])
theorem Fb:xO.map told=some (akl (av xO)):=by kernel_rfl
theorem avS:tree Ga=QH xg:=aJ Fb
theorem OW:round 0 [2,3,5,6,7,8,9] [] [2,3] [] (xg 0)=A9 xg:=br Fb 0 fun _=>rfl
theorem OX:round 2 [2,4,48,49,50,51,52] [] [2,4] [] (xg 1)=Ba xg:=br Fb 1 fun _=>rfl
theorem agH:xO=some Ga:=aC Fb
noncomputable def xU:Option PC:=aA {ctx with fr:=[2,3,5],nh:=[]} Tryz.f148 ((ae af 148).getD default) [1,4]
noncomputable def Gj:PC:=ay xU
noncomputable def xl:Nat→PC:=bz xU
def apV (b:Nat→PC):PC:=.block 2 [2,5,46,47,48] [] (.loop [2,5] [] (b 0))
def apW (b:Nat→PC):PC:=.block 0 [2,3,10,11,12,13,14] [] (.loop [2,3] [] (b 1))
def wE (b:Nat→PC):PT:=
 (.ite (ak r5 r3)
 (.chk (aq (pc o1 5) r5)
 (.chk (.nt (.an (.an (aw (pc (pn (pc o1 5) r5) 0) (pc o4 0)) pT) (.nt (aq (pc o1 5) r5))))
 (.ite (.pick (aw (pc (pn (pc o1 5) r5) 0) (pc o4 0)) (aw (pc (pn (pc o1 5) r5) 1) (pc o4 1)) pF)
 (.ret (pi 5))
 (.next ⟨[(5,nV)],[]⟩))))
 (.exit 2 ⟨[(46,r5),(47,r3),(48,(ak r5 r3))],[]⟩))
def Bj (b:Nat→PC):PT:=
 (.ite (ak r3 wu)
 (.blockS ⟨[(14,(ak r3 wu)),(13,wu),(12,(pc o1 5)),(11,pN),(10,r3)],[]⟩ 1 [2,4,5,17,18,19,20,21,22,23,24,25,26,27,28,29,30,39,40,45,46,47,48] [4]
 (.chk (aq (pc o1 5) r3)
 (.call ⟨[],[(4,(.setc z3 0 (pn (pc o1 5) r3)))]⟩ [] 28 210 [(pc (.setc z3 0 (pn (pc o1 5) r3)) 0),(pi 0),(bh jK (pi 1))]
 (.call ⟨[(30,(.nt pK))],[]⟩ [(30,false)] 37 210 [(pc o4 1),(pi 0),(bh jK (pi 1))]
 (.call ⟨[(40,(.pick wv pT (.nt m5)))],[]⟩ [(40,false)] 43 210 [(pc o4 2),(pi 1),(pi 20000)]
 (.ite (.pick oa pT (.nt q7))
 (.ret (pi 1))
 (.brk ⟨[(5,(pi 0))],[]⟩
(apV b)
 (.next ⟨[],[]⟩)))))))
 (.next ⟨[(3,nW)],[]⟩))
 (.exit 0 ⟨[(10,r3),(11,pN),(12,(pc o1 5)),(13,wu),(14,(ak r3 wu))],[]⟩))
def QP (b:Nat→PC):PT:=
 (.ite (be (.llen tB) (pi 100))
 (.ret (pi 6))
 (.brk ⟨[(3,(pi 0)),(2,(pi 0))],[(1,(.mk [r0]))]⟩
(apW b)
 (.ret (pi 0))))
def akt (b:Nat→PC):PT×List (Shp×PT):=(QP b,[(.lp 2 [2,5,46,47,48] [] [2,5] [],wE b),(.lp 0 [2,3,10,11,12,13,14] [] [2,3] [],Bj b)])
theorem Fg:xU.map told=some (akt (av xU)):=by kernel_rfl
theorem av0:tree Gj=QP xl:=aJ Fg
theorem HT:round 2 [2,5,46,47,48] [] [2,5] [] (xl 0)=wE xl:=br Fg 0 fun _=>rfl
theorem O6:round 0 [2,3,10,11,12,13,14] [] [2,3] [] (xl 1)=Bj xl:=br Fg 1 fun _=>rfl
theorem agP:xU=some Gj:=aC Fg
noncomputable def xT:Option PC:=aA {ctx with fr:=[2,3,5],nh:=[]} Tryz.f149 ((ae af 149).getD default) [1,4,6]
noncomputable def Gi:PC:=ay xT
noncomputable def xk:Nat→PC:=bz xT
def apT (b:Nat→PC):PC:=.block 0 [2,3,11,12,13,14,15] [] (.loop [2,3] [] (b 0))
def apU (b:Nat→PC):PC:=.block 2 [2,5,68,69,70,71,72] [] (.loop [2,5] [] (b 1))
def Bh (b:Nat→PC):PT:=
 (.ite (ak r3 (.llen (pc o1 6)))
 (.blockS ⟨[],[]⟩ 1 [2,4,18,19,20,21,22,23,24,25,26,27,28,29,30,31,40,41,47,48,49,50,51,52,57,58,63] [4]
 (.chk (aq (pc o1 6) r3)
 (.call ⟨[],[(4,(.setc z5 0 (pn (pc o1 6) r3)))]⟩ [] 29 210 [(pc (.setc z5 0 (pn (pc o1 6) r3)) 0),(pi 0),(bh qZ (pi 1))]
 (.call ⟨[(31,(.nt m4))],[]⟩ [(31,false)] 38 210 [(pc o4 1),(pi 0),(bh qZ (pi 1))]
 (.ite (.pick (.pick q5 pT (.nt gJ)) pT (aw (pc o4 0) (pc o4 1)))
 (.ret (pi 1))
 (.call ⟨[],[]⟩ [] 50 210 [(pc o4 2),(pi 1),(pi 1073741824)]
 (.call ⟨[(52,(.nt lW))],[]⟩ [(52,false)] 55 210 [(pc o4 3),(pi 1),(pi 1073741824)]
 (.call ⟨[(58,(.pick HM pT (.nt wy)))],[]⟩ [(58,false)] 61 210 [(pc o4 4),(pi 0),(pi 100000)]
 (.ite (.pick HN pT (.nt A1))
 (.ret (pi 1))
 (.next ⟨[],[]⟩)))))))))
 (.next ⟨[(3,nW)],[]⟩))
 (.exit 0 ⟨[(11,r3),(12,pN),(13,(pc o1 6)),(14,(.llen (pc o1 6))),(15,(ak r3 (.llen (pc o1 6))))],[]⟩))
def Bi (b:Nat→PC):PT:=
 (.ite (ak r5 tE)
 (.blockS ⟨[],[]⟩ 3 [2,6,75,76,77,78,79,80,81,82,83,84,85,86,87,88,95,96,100] [6]
 (.chk (aq (pc o1 7) r5)
 (.call ⟨[],[(6,(.setc z3 0 (pn (pc o1 7) r5)))]⟩ [] 86 210 [(pc (.setc z3 0 (pn (pc o1 7) r5)) 0),(pi 0),(bh lV (pi 1))]
 (.call ⟨[(88,(.nt r86))],[]⟩ [(88,false)] 93 210 [(pc o6 1),(pi 0),(pc o6 2)]
 (.ite (.pick (.pick HQ pT (.nt A3)) pT (be (pc o6 2) (pi 100000)))
 (.ret (pi 1))
 (.next ⟨[],[]⟩)))))
 (.next ⟨[(5,nV)],[]⟩))
 (.exit 2 ⟨[(68,r5),(69,pN),(70,(pc o1 7)),(71,tE),(72,(ak r5 tE))],[]⟩))
def QO (b:Nat→PC):PT:=
 (.ite (be (.llen (pc (.mk [r0]) 6)) (pi 100))
 (.ret (pi 6))
 (.brk ⟨[(3,(pi 0)),(2,(pi 0))],[(1,(.mk [r0]))]⟩
(apT b)
 (.ite (be tE (pi 20))
 (.ret (pi 6))
 (.brk ⟨[(5,(pi 0))],[]⟩
(apU b)
 (.ret (pi 0))))))
def aks (b:Nat→PC):PT×List (Shp×PT):=(QO b,[(.lp 0 [2,3,11,12,13,14,15] [] [2,3] [],Bh b),(.lp 2 [2,5,68,69,70,71,72] [] [2,5] [],Bi b)])
theorem Ff:xT.map told=some (aks (av xT)):=by kernel_rfl
theorem avZ:tree Gi=QO xk:=aJ Ff
theorem O4:round 0 [2,3,11,12,13,14,15] [] [2,3] [] (xk 0)=Bh xk:=br Ff 0 fun _=>rfl
theorem O5:round 2 [2,5,68,69,70,71,72] [] [2,5] [] (xk 1)=Bi xk:=br Ff 1 fun _=>rfl
theorem agO:xT=some Gi:=aC Ff
noncomputable def CC:Option PC:=aA {ctx with fr:=[6],nh:=[]} Tryz.f85 ⟨[Y8,I,jX],.slice I,.dat⟩ [3,5,7,8,42,9]
noncomputable def N4:PC:=ay CC
def Qg:PT:=
 (.chk (aq (pc (.mk [r2]) 15) (pc (.mk [r2]) 19))
 (.ite aao
 (.ret pL)
 (.chk (.an (bt (pi 5) (pi 0)) (bM (pi 5) cG))
 (.chk (aw (pi 5) (pi 5))
 (.chk (aq (.rep (pi 5) (pi 0)) (pi 0))
 (.call ⟨[],[(9,(.setn (.rep (pi 5) (pi 0)) (pi 0) 0 r1)),(8,(.setc IT 0 (au 15 (.mk [r2])))),(7,wc),(3,(.mk [r0]))]⟩ [] 50 32 [ko,(pc wc 7)]
 (.chk (aq o9 (pi 1))
 (.call ⟨[],[(9,(.setn o9 (pi 1) 0 lW))]⟩ [] 56 32 [(au 8 o3),(pc o8 10)]
 (.chk (aq o9 (pi 2))
 (.call ⟨[],[(9,(.setn o9 (pi 2) 0 lX))]⟩ [] 62 32 [(au 8 o3),(pc o8 9)]
 (.chk (aq o9 (pi 3))
 (.chk (aq (pc o3 3) (pc o7 2))
 (.call ⟨[],[(9,(.setn o9 (pi 3) 0 tG))]⟩ [] 73 32 [(au 8 o3),(pc (pn (pc o3 3) (pc o7 2)) 1)]
 (.chk (aq o9 (pi 4))
 (.call ⟨[],[(9,(.setn o9 (pi 4) 0 OO))]⟩ [] 76 94 [(.setn o9 (pi 4) 0 OO),(pi (-1))]
 (.ite m8
 (.ret pL)
 (.ret o9)))))))))))))))))
def ajI (b:Nat→PC):PT×List (Shp×PT):=(Qg,[])
theorem YR:CC.map told=some (ajI (av CC)):=by kernel_rfl
theorem avg:tree N4=Qg:=aJ YR
theorem af9:CC=some N4:=aC YR
noncomputable def CD:Option PC:=aA {ctx with fr:=[6],nh:=[]} Tryz.f85 ⟨[Y8,I,jX],.nils .bool,.dat⟩ [3,5,7,8,42,9]
noncomputable def N5:PC:=ay CD
def Iz:PT:=
 (.chk (aq (pc (.mk [r2]) 15) (pc (.mk [r2]) 19))
 (.ite aao
 (.ret pL)
 (.chk (.an (bt (pi 5) (pi 0)) (bM (pi 5) cG))
 (.chk (aw (pi 5) (pi 5))
 (.chk (aq (.rep (pi 5) (pi 0)) (pi 0))
 (.call ⟨[],[(9,(.setn (.rep (pi 5) (pi 0)) (pi 0) 0 r1)),(8,(.setc IT 0 (au 15 (.mk [r2])))),(7,wc),(3,(.mk [r0]))]⟩ [] 50 32 [ko,(pc wc 7)]
 (.chk (aq o9 (pi 1))
 (.call ⟨[],[(9,(.setn o9 (pi 1) 0 lW))]⟩ [] 56 32 [(au 8 o3),(pc o8 10)]
 (.chk (aq o9 (pi 2))
 (.call ⟨[],[(9,(.setn o9 (pi 2) 0 lX))]⟩ [] 62 32 [(au 8 o3),(pc o8 9)]
 (.chk (aq o9 (pi 3))
 (.chk (aq (pc o3 3) (pc o7 2))
 (.call ⟨[],[(9,(.setn o9 (pi 3) 0 tG))]⟩ [] 73 32 [(au 8 o3),(pc (pn (pc o3 3) (pc o7 2)) 1)]
 (.chk (aq o9 (pi 4))
 (.call ⟨[],[]⟩ [] 76 94 [(.setn o9 (pi 4) 0 OO),(pi (-1))]
 (.ite m8
 (.ret pL)
 (.chk pF
 (.next ⟨[],[]⟩))))))))))))))))))
def ajJ (b:Nat→PC):PT×List (Shp×PT):=(Iz,[])
theorem YS:CD.map told=some (ajJ (av CD)):=by kernel_rfl
theorem avh:tree N5=Iz:=aJ YS
theorem aga:CD=some N5:=aC YS
end Rm
namespace Rm
open Go Go.Proofs Cx
def N3:List Nat:=[6,26,79,81,80,28,83,84,30,86,31,88,87,164,32,91,89,90,97,94,167,33,92,166,165,216,93,35,95,169,168,170,217,218,260,264,262,261,96,171,219,263,220,265,286,298,221,49,46,48,82,163,215,139,207,255,256,206,246,252,228,140,34,29,41,50,109,182,108,54,129,130,204,244,245,279,131,132,133,205,134,135,136,137,138,177,178,179,180,223,267,120,201,288,299,287,185,181,224,225,268,121,27,53,58,127,128,203,243,62,145,208,257,285,258,209,210,259,146,147,211,148,149]
noncomputable def AG:List (Nat×PC):=[(6,FU),(26,FZ),(79,FY),(81,FX),(80,FV),(28,Fv),(83,FC),(84,FD),(30,GK),(86,GQ),(31,GN),(88,GO),(87,GS),(164,GX),(32,Gx),(91,GB),(89,GP),(90,GL),(97,F1),(94,GV),(167,G0),(33,FO),(92,FQ),(166,FT),(165,GU),(216,GZ),(93,FP),(35,F0),(95,F2),(169,F3),(168,GY),(170,Hb),(217,Hl),(218,Hf),(260,Hi),(264,Hh),(262,Hd),(261,Hn),(96,Hc),(171,Hj),(219,Hk),(263,Ho),(220,Hg),(265,He),(286,Hm),(298,FE),(221,GR),(49,Gr),(46,FB),(48,Fz),(82,Fy),(163,N8),(215,Oe),(139,Oa),(207,N6),(255,aab),(256,N7),(206,Od),(246,Oc),(252,aac),(228,aad),(140,N9),(34,Gm),(29,FA),(41,Fx),(50,Fw),(109,GM),(182,G2),(108,G3),(54,Gs),(129,GF),(130,GA),(204,GD),(244,GC),(245,GW),(279,G1),(131,Gt),(132,Gu),(133,Gz),(205,GI),(134,Gv),(135,Gw),(136,GG),(137,GJ),(138,GH),(177,G7),(178,G8),(179,G4),(180,G6),(223,G5),(267,FF),(120,FN),(201,FI),(288,FK),(299,FL),(287,FG),(185,Gy),(181,G9),(224,Ha),(225,FH),(268,FJ),(121,FM),(27,FW),(53,Gq),(58,F6),(127,Gk),(128,Gp),(203,Gl),(243,Gn),(62,F5),(145,Gd),(208,Gf),(257,F8),(285,F7),(258,F4),(209,F9),(210,Gc),(259,Gb),(146,Ge),(147,Gg),(211,Ga),(148,Gj),(149,Gi)]
noncomputable def tab:Nat→Option PC:=ae AG
theorem aaa:AG.map (·.1)=N3:=by kernel_rfl
theorem aF:(AG.map (·.1)).Nodup:=by rw[aaa];exact ld (by kernel_rfl)
theorem aea:tab Xv=some FU:=aE aF (k:=0) (by kernel_rfl)
theorem aef:tab XA=some FZ:=aE aF (k:=1) (by kernel_rfl)
theorem aee:tab Xz=some FY:=aE aF (k:=2) (by kernel_rfl)
theorem aed:tab Xy=some FX:=aE aF (k:=3) (by kernel_rfl)
theorem aeb:tab Xw=some FV:=aE aF (k:=4) (by kernel_rfl)
theorem adO:tab W7=some Fv:=aE aF (k:=5) (by kernel_rfl)
theorem adV:tab Xe=some FC:=aE aF (k:=6) (by kernel_rfl)
theorem adW:tab Xf=some FD:=aE aF (k:=7) (by kernel_rfl)
theorem aeU:tab X6=some GK:=aE aF (k:=8) (by kernel_rfl)
theorem ae0:tab Yc=some GQ:=aE aF (k:=9) (by kernel_rfl)
theorem aeX:tab X9=some GN:=aE aF (k:=10) (by kernel_rfl)
theorem aeY:tab Ya=some GO:=aE aF (k:=11) (by kernel_rfl)
theorem ae2:tab Ye=some GS:=aE aF (k:=12) (by kernel_rfl)
theorem ae5:tab Yh=some GX:=aE aF (k:=13) (by kernel_rfl)
theorem aeI:tab M6=some Gx:=aE aF (k:=14) (by kernel_rfl)
theorem aeM:tab XY=some GB:=aE aF (k:=15) (by kernel_rfl)
theorem aeZ:tab Yb=some GP:=aE aF (k:=16) (by kernel_rfl)
theorem aeV:tab X7=some GL:=aE aF (k:=17) (by kernel_rfl)
theorem SF:tab MY=some F1:=aE aF (k:=18) (by kernel_rfl)
theorem SK:tab M9=some GV:=aE aF (k:=19) (by kernel_rfl)
theorem SM:tab Nb=some G0:=aE aF (k:=20) (by kernel_rfl)
theorem ad6:tab Xs=some FO:=aE aF (k:=21) (by kernel_rfl)
theorem ad8:tab Xu=some FQ:=aE aF (k:=22) (by kernel_rfl)
theorem ad9:tab MW=some FT:=aE aF (k:=23) (by kernel_rfl)
theorem ae3:tab Yf=some GU:=aE aF (k:=24) (by kernel_rfl)
theorem ae6:tab Yi=some GZ:=aE aF (k:=25) (by kernel_rfl)
theorem ad7:tab Xt=some FP:=aE aF (k:=26) (by kernel_rfl)
theorem aeg:tab XB=some F0:=aE aF (k:=27) (by kernel_rfl)
theorem SG:tab MZ=some F2:=aE aF (k:=28) (by kernel_rfl)
theorem SH:tab E1=some F3:=aE aF (k:=29) (by kernel_rfl)
theorem SL:tab Na=some GY:=aE aF (k:=30) (by kernel_rfl)
theorem SO:tab Nf=some Hb:=aE aF (k:=31) (by kernel_rfl)
theorem Jd:tab Nl=some Hl:=aE aF (k:=32) (by kernel_rfl)
theorem SQ:tab Nh=some Hf:=aE aF (k:=33) (by kernel_rfl)
theorem SS:tab Nj=some Hi:=aE aF (k:=34) (by kernel_rfl)
theorem afk:tab Yv=some Hh:=aE aF (k:=35) (by kernel_rfl)
theorem SP:tab Ng=some Hd:=aE aF (k:=36) (by kernel_rfl)
theorem SW:tab Nm=some Hn:=aE aF (k:=37) (by kernel_rfl)
theorem afh:tab Ys=some Hc:=aE aF (k:=38) (by kernel_rfl)
theorem SU:tab E4=some Hj:=aE aF (k:=39) (by kernel_rfl)
theorem SV:tab Nk=some Hk:=aE aF (k:=40) (by kernel_rfl)
theorem SX:tab Nn=some Ho:=aE aF (k:=41) (by kernel_rfl)
theorem SR:tab Ni=some Hg:=aE aF (k:=42) (by kernel_rfl)
theorem afj:tab Yu=some He:=aE aF (k:=43) (by kernel_rfl)
theorem afl:tab Yw=some Hm:=aE aF (k:=44) (by kernel_rfl)
theorem adZ:tab Xi=some FE:=aE aF (k:=45) (by kernel_rfl)
theorem SJ:tab M8=some GR:=aE aF (k:=46) (by kernel_rfl)
theorem aeC:tab XU=some Gr:=aE aF (k:=47) (by kernel_rfl)
theorem adU:tab Xd=some FB:=aE aF (k:=48) (by kernel_rfl)
theorem adS:tab Xb=some Fz:=aE aF (k:=49) (by kernel_rfl)
theorem adR:tab Xa=some Fy:=aE aF (k:=50) (by kernel_rfl)
theorem aeh:tab MX=some N8:=aE aF (k:=51) (by kernel_rfl)
theorem afi:tab Yt=some Oe:=aE aF (k:=52) (by kernel_rfl)
theorem ae9:tab Yl=some Oa:=aE aF (k:=53) (by kernel_rfl)
theorem adX:tab Xg=some N6:=aE aF (k:=54) (by kernel_rfl)
theorem adY:tab Xh=some N7:=aE aF (k:=56) (by kernel_rfl)
theorem afb:tab Yn=some Od:=aE aF (k:=57) (by kernel_rfl)
theorem afa:tab Ym=some Oc:=aE aF (k:=58) (by kernel_rfl)
theorem ae1:tab Yd=some N9:=aE aF (k:=61) (by kernel_rfl)
theorem aez:tab XQ=some Gm:=aE aF (k:=62) (by kernel_rfl)
theorem adT:tab Xc=some FA:=aE aF (k:=63) (by kernel_rfl)
theorem adQ:tab W9=some Fx:=aE aF (k:=64) (by kernel_rfl)
theorem adP:tab W8=some Fw:=aE aF (k:=65) (by kernel_rfl)
theorem aeW:tab X8=some GM:=aE aF (k:=66) (by kernel_rfl)
theorem ae8:tab Yk=some G2:=aE aF (k:=67) (by kernel_rfl)
theorem SN:tab E2=some G3:=aE aF (k:=68) (by kernel_rfl)
theorem aeD:tab XV=some Gs:=aE aF (k:=69) (by kernel_rfl)
theorem aeP:tab X1=some GF:=aE aF (k:=70) (by kernel_rfl)
theorem aeL:tab XX=some GA:=aE aF (k:=71) (by kernel_rfl)
theorem aeO:tab X0=some GD:=aE aF (k:=72) (by kernel_rfl)
theorem aeN:tab XZ=some GC:=aE aF (k:=73) (by kernel_rfl)
theorem ae4:tab Yg=some GW:=aE aF (k:=74) (by kernel_rfl)
theorem ae7:tab Yj=some G1:=aE aF (k:=75) (by kernel_rfl)
theorem aeE:tab M2=some Gt:=aE aF (k:=76) (by kernel_rfl)
theorem aeF:tab M3=some Gu:=aE aF (k:=77) (by kernel_rfl)
theorem aeK:tab XW=some Gz:=aE aF (k:=78) (by kernel_rfl)
theorem aeS:tab X4=some GI:=aE aF (k:=79) (by kernel_rfl)
theorem aeG:tab M4=some Gv:=aE aF (k:=80) (by kernel_rfl)
theorem aeH:tab M5=some Gw:=aE aF (k:=81) (by kernel_rfl)
theorem aeQ:tab X2=some GG:=aE aF (k:=82) (by kernel_rfl)
theorem aeT:tab X5=some GJ:=aE aF (k:=83) (by kernel_rfl)
theorem aeR:tab X3=some GH:=aE aF (k:=84) (by kernel_rfl)
theorem afd:tab Yq=some G7:=aE aF (k:=85) (by kernel_rfl)
theorem afe:tab Nc=some G8:=aE aF (k:=86) (by kernel_rfl)
theorem afc:tab Yo=some G4:=aE aF (k:=87) (by kernel_rfl)
theorem ug:tab E3=some G6:=aE aF (k:=88) (by kernel_rfl)
theorem Cl:tab Yp=some G5:=aE aF (k:=89) (by kernel_rfl)
theorem SC:tab Xj=some FF:=aE aF (k:=90) (by kernel_rfl)
theorem ad5:tab Xr=some FN:=aE aF (k:=91) (by kernel_rfl)
theorem ad1:tab Xm=some FI:=aE aF (k:=92) (by kernel_rfl)
theorem ad3:tab Xp=some FK:=aE aF (k:=93) (by kernel_rfl)
theorem SD:tab MV=some FL:=aE aF (k:=94) (by kernel_rfl)
theorem Ck:tab Xk=some FG:=aE aF (k:=95) (by kernel_rfl)
theorem aeJ:tab M7=some Gy:=aE aF (k:=96) (by kernel_rfl)
theorem aff:tab Nd=some G9:=aE aF (k:=97) (by kernel_rfl)
theorem afg:tab Yr=some Ha:=aE aF (k:=98) (by kernel_rfl)
theorem ad0:tab Xl=some FH:=aE aF (k:=99) (by kernel_rfl)
theorem ad2:tab Xn=some FJ:=aE aF (k:=100) (by kernel_rfl)
theorem ad4:tab Xq=some FM:=aE aF (k:=101) (by kernel_rfl)
theorem aec:tab Xx=some FW:=aE aF (k:=102) (by kernel_rfl)
theorem aeB:tab XT=some Gq:=aE aF (k:=103) (by kernel_rfl)
theorem aek:tab XE=some F6:=aE aF (k:=104) (by kernel_rfl)
theorem aex:tab XO=some Gk:=aE aF (k:=105) (by kernel_rfl)
theorem aeA:tab XS=some Gp:=aE aF (k:=106) (by kernel_rfl)
theorem aey:tab XP=some Gl:=aE aF (k:=107) (by kernel_rfl)
theorem SI:tab XR=some Gn:=aE aF (k:=108) (by kernel_rfl)
theorem aej:tab XD=some F5:=aE aF (k:=109) (by kernel_rfl)
theorem aer:tab XJ=some Gd:=aE aF (k:=110) (by kernel_rfl)
theorem aet:tab Au=some Gf:=aE aF (k:=111) (by kernel_rfl)
theorem aem:tab XG=some F8:=aE aF (k:=112) (by kernel_rfl)
theorem ael:tab XF=some F7:=aE aF (k:=113) (by kernel_rfl)
theorem aei:tab XC=some F4:=aE aF (k:=114) (by kernel_rfl)
theorem aen:tab M0=some F9:=aE aF (k:=115) (by kernel_rfl)
theorem aeq:tab XI=some Gc:=aE aF (k:=116) (by kernel_rfl)
theorem aep:tab XH=some Gb:=aE aF (k:=117) (by kernel_rfl)
theorem aes:tab XK=some Ge:=aE aF (k:=118) (by kernel_rfl)
theorem aeu:tab XL=some Gg:=aE aF (k:=119) (by kernel_rfl)
theorem aeo:tab M1=some Ga:=aE aF (k:=120) (by kernel_rfl)
theorem aew:tab XN=some Gj:=aE aF (k:=121) (by kernel_rfl)
theorem aev:tab XM=some Gi:=aE aF (k:=122) (by kernel_rfl)
theorem caps:∀f cs,ae JV f=some cs→(kh cs.args cs.res=none→ae af f=some ⟨cs.args++cs.caps,cs.res,.dat⟩)∧∀ys,kh cs.args cs.res=some ys→eg N3 f=false∧B4 Tryz.prog f=true:=Tf (l:=JV) (sig:=af) (P:=Tryz.prog) (pcs:=N3) (by kernel_rfl)
theorem clos:db ctx:=⟨(fun f cs h=>(caps f cs h).1),fun f s h=>abW (l:=af) (P:=Tryz.prog) (by kernel_rfl) f s h⟩
theorem its:∀f cs ys,ctx.cap f=some cs→kh cs.args cs.res=some ys→tab f=none∧∃fn,ctx.P.funcs[f]?=some fn∧fn.body.isSome=true∧(fn.name== "runtime.NumGoroutine")=false:=fun f cs ys h hi=>⟨Wy (l:=AG) (by rw[aaa];exact((caps f cs h).2 ys hi).1),au5 ((caps f cs h).2 ys hi).2⟩
theorem auV:∀f pc,tab f=some pc→∃fn s ids fr nh,ctx.P.funcs[f]?=some fn∧ctx.sig f=some s∧aA {ctx with fr:=fr,nh:=nh} fn s ids=some pc:=
 Ar (R:=fun f pc=>∃fn s ids fr nh,ctx.P.funcs[f]?=some fn∧ctx.sig f=some s∧aA {ctx with fr:=fr,nh:=nh} fn s ids=some pc) (l:=AG)
  (aD ⟨Tryz.f6,(ae af 6).getD default,[4,7,10,12,14,19],[8,9,11,13,15,16,17,18,20],[],Tryz.func6,rfl,agu⟩
  (aD ⟨Tryz.f26,(ae af 26).getD default,[1,2,3,4,5,6,73],[0,7,8,9],[],Tryz.func26,rfl,agz⟩
  (aD ⟨Tryz.f79,(ae af 79).getD default,[0,24576,28672,32768,1,12289,2,3,12291,4],[5],[],Tryz.func79,rfl,agy⟩
  (aD ⟨Tryz.f81,(ae af 81).getD default,[2,69634,73730,3,4],[],[],Tryz.func81,rfl,agx⟩
  (aD ⟨Tryz.f80,(ae af 80).getD default,[1,2],[],[],Tryz.func80,rfl,agv⟩
  (aD ⟨Tryz.f28,(ae af 28).getD default,[4,7,8,9],[10],[],Tryz.func28,rfl,af0⟩
  (aD ⟨Tryz.f83,(ae af 83).getD default,[4,7,8,10,16394],[9,11,12,13,14],[],Tryz.func83,rfl,af7⟩
  (aD ⟨Tryz.f84,(ae af 84).getD default,[2,3,4],[5],[],Tryz.func84,rfl,af8⟩
  (aD ⟨Tryz.f30,(ae af 30).getD default,[2,4,5,65541,69637,73733,77829,7,31,9,49,11,13],[],[],Tryz.func30,rfl,ahe⟩
  (aD ⟨Tryz.f86,(ae af 86).getD default,[],[4],[],Tryz.func86,rfl,ahk⟩
  (aD ⟨Tryz.f31,(ae af 31).getD default,[2,3,5,6,8,10,90,139],[4,7,9,11,12,13,14,15,16],[],Tryz.func31,rfl,ahi⟩
  (aD ⟨Tryz.f88,(ae af 88).getD default,[2],[3],[],Tryz.func88,rfl,ahh⟩
  (aD ⟨Tryz.f87,(ae af 87).getD default,[],[4],[],Tryz.func87,rfl,ahl⟩
  (aD ⟨Tryz.f164,(ae af 164).getD default,[],[4,5],[],Tryz.func164,rfl,aho⟩
  (aD ⟨Tryz.f32,(ae af 32).getD default,[2],[4],[],Tryz.func32,rfl,ag2⟩
  (aD ⟨Tryz.f91,(ae af 91).getD default,[],[4],[],Tryz.func91,rfl,ag6⟩
  (aD ⟨Tryz.f89,(ae af 89).getD default,[2],[],[],Tryz.func89,rfl,ahj⟩
  (aD ⟨Tryz.f90,(ae af 90).getD default,[3,6,8],[],[],Tryz.func90,rfl,ahf⟩
  (aD ⟨Tryz.f97,(ae af 97).getD default,[],[2,3,4,11],[],Tryz.func97,rfl,Tq⟩
  (aD ⟨Tryz.f94,(ae af 94).getD default,[],[4],[],Tryz.func94,rfl,Tv⟩
  (aD ⟨Tryz.f167,(ae af 167).getD default,[],[4,5],[],Tryz.func167,rfl,Tx⟩
  (aD ⟨Tryz.f33,(ae af 33).getD default,[4,10,53],[8,9,11,12,13,14,55,70],[],Tryz.func33,rfl,agq⟩
  (aD ⟨Tryz.f92,(ae af 92).getD default,[4,9],[8],[],Tryz.func92,rfl,agt⟩
  (aD ⟨Tryz.f166,(ae af 166).getD default,[],[3],[],Tryz.func166,rfl,ags⟩
  (aD ⟨Tryz.f165,(ae af 165).getD default,[],[4],[],Tryz.func165,rfl,ahm⟩
  (aD ⟨Tryz.f216,(ae af 216).getD default,[],[4,5],[],Tryz.func216,rfl,ahp⟩
  (aD ⟨Tryz.f93,(ae af 93).getD default,[4,11],[8,9],[],Tryz.func93,rfl,agr⟩
  (aD ⟨Tryz.f35,(ae af 35).getD default,[3,6,8,10],[7,9,11,12],[],Tryz.func35,rfl,agA⟩
  (aD ⟨Tryz.f95,(ae af 95).getD default,[2,3,4,12292,9],[5,6,7,8,10,11],[],Tryz.func95,rfl,Ts⟩
  (aD ⟨Tryz.f169,(ae af 169).getD default,[2],[3],[],Tryz.func169,rfl,Tr⟩
  (aD ⟨Tryz.f168,(ae af 168).getD default,[],[4,5],[],Tryz.func168,rfl,Tw⟩
  (aD ⟨Tryz.f170,(ae af 170).getD default,[1],[2,3],[],Tryz.func170,rfl,TC⟩
  (aD ⟨Tryz.f217,(ae af 217).getD default,[2,7,12295],[4,5],[],Tryz.func217,rfl,TK⟩
  (aD ⟨Tryz.f218,(ae af 218).getD default,[1,4,6,12294,9],[2,3,5,7,8,38,47,10,11,12],[],Tryz.func218,rfl,TF⟩
  (aD ⟨Tryz.f260,(ae af 260).getD default,[1],[2,3,12,20,4,5],[],Tryz.func260,rfl,TH⟩
  (aD ⟨Tryz.f264,(ae af 264).getD default,[],[2],[],Tryz.func264,rfl,ahC⟩
  (aD ⟨Tryz.f262,(ae af 262).getD default,[],[2,3,4,11],[],Tryz.func262,rfl,TE⟩
  (aD ⟨Tryz.f261,(ae af 261).getD default,[2],[4,8,13,17,21],[],Tryz.func261,rfl,TL⟩
  (aD ⟨Tryz.f96,(ae af 96).getD default,[2,4,7],[5,6,8],[],Tryz.func96,rfl,ahA⟩
  (aD ⟨Tryz.f171,(ae af 171).getD default,[2,3,4,6,33,7,8,10,12298,12],[5,15,21,9,11],[],Tryz.func171,rfl,TI⟩
  (aD ⟨Tryz.f219,(ae af 219).getD default,[2,4],[5,6],[],Tryz.func219,rfl,TJ⟩
  (aD ⟨Tryz.f263,(ae af 263).getD default,[2],[],[],Tryz.func263,rfl,TM⟩
  (aD ⟨Tryz.f220,(ae af 220).getD default,[4,5],[9,22,41,6,7,82,88,94],[],Tryz.func220,rfl,TG⟩
  (aD ⟨Tryz.f265,(ae af 265).getD default,[],[6,8,14,20,25],[],Tryz.func265,rfl,ahB⟩
  (aD ⟨Tryz.f286,(ae af 286).getD default,[],[4,5,6,7],[],Tryz.func286,rfl,ahD⟩
  (aD ⟨Tryz.f298,(ae af 298).getD default,[],[4,5,6,7,8,9,10,11,12,13],[],Tryz.func298,rfl,agc⟩
  (aD ⟨Tryz.f221,(ae af 221).getD default,[6],[2,3,5,8],[],Tryz.func221,rfl,Tu⟩
  (aD ⟨Tryz.f49,(ae af 49).getD default,[2,3],[4,5],[],Tryz.func49,rfl,agW⟩
  (aD ⟨Tryz.f46,(ae af 46).getD default,[1],[2,3,7,12],[],Tryz.func46,rfl,af6⟩
  (aD ⟨Tryz.f48,(ae af 48).getD default,[1],[2],[],Tryz.func48,rfl,af4⟩
  (aD ⟨Tryz.f82,(ae af 82).getD default,[4,7,9],[8,10],[],Tryz.func82,rfl,af3⟩
  (aD ⟨Tryz.f163,(ae af 163).getD default,[3,7],[6,8],[],Tryz.func163,rfl,Tp⟩
  (aD ⟨Tryz.f215,(ae af 215).getD default,[2],[4,5,6,8],[],Tryz.func215,rfl,TD⟩
  (aD ⟨Tryz.f139,(ae af 139).getD default,[],[2],[],Tryz.func139,rfl,Tz⟩
  (aD ⟨Tryz.f207,(ae af 207).getD default,[],[2],[],Tryz.func207,rfl,To⟩
  (aD ⟨Tryz.f255,(ae af 255).getD default,[],[2,0],[],Tryz.func255,rfl,agb⟩
  (aD ⟨Tryz.f256,(ae af 256).getD default,[],[2,0],[],Tryz.func256,rfl,Tn⟩
  (aD ⟨Tryz.f206,(ae af 206).getD default,[],[8,9,10,3,11,12,13,1,14,15,16,17,18,2],[],Tryz.func206,rfl,TB⟩
  (aD ⟨Tryz.f246,(ae af 246).getD default,[],[6,7],[],Tryz.func246,rfl,TA⟩
  (aD ⟨Tryz.f252,(ae af 252).getD default,[],[4],[],Tryz.func252,rfl,ago⟩
  (aD ⟨Tryz.f228,(ae af 228).getD default,[],[2],[],Tryz.func228,rfl,agp⟩
  (aD ⟨Tryz.f140,(ae af 140).getD default,[],[2,3,4,5],[],Tryz.func140,rfl,Tt⟩
  (aD ⟨Tryz.f34,(ae af 34).getD default,[],[4,5],[],Tryz.func34,rfl,agS⟩
  (aD ⟨Tryz.f29,(ae af 29).getD default,[3,5],[6,7],[],Tryz.func29,rfl,af5⟩
  (aD ⟨Tryz.f41,(ae af 41).getD default,[4,6],[8,9,10,11],[],Tryz.func41,rfl,af2⟩
  (aD ⟨Tryz.f50,(ae af 50).getD default,[5,8,77832,10],[],[],Tryz.func50,rfl,af1⟩
  (aD ⟨Tryz.f109,(ae af 109).getD default,[1,3,6,8],[2,4],[],Tryz.func109,rfl,ahg⟩
  (aD ⟨Tryz.f182,(ae af 182).getD default,[],[2,3,4],[],Tryz.func182,rfl,ahr⟩
  (aD ⟨Tryz.f108,(ae af 108).getD default,[4,5,10],[8,9,15,39,58,74,11,12],[],Tryz.func108,rfl,ahs⟩
  (aD ⟨Tryz.f54,(ae af 54).getD default,[1,9],[2,3,4,5,6,7,10,11,12],[],Tryz.func54,rfl,ag1⟩
  (aD ⟨Tryz.f129,(ae af 129).getD default,[1,2,3,4,6,16390,20486,24582,21,8,34,10,12298,16394,47],[],[],Tryz.func129,rfl,ag9⟩
  (aD ⟨Tryz.f130,(ae af 130).getD default,[],[6,7,8],[],Tryz.func130,rfl,ag5⟩
  (aD ⟨Tryz.f204,(ae af 204).getD default,[],[4],[],Tryz.func204,rfl,ag8⟩
  (aD ⟨Tryz.f244,(ae af 244).getD default,[],[2,3,4,5],[],Tryz.func244,rfl,ag7⟩
  (aD ⟨Tryz.f245,(ae af 245).getD default,[],[4],[],Tryz.func245,rfl,ahn⟩
  (aD ⟨Tryz.f279,(ae af 279).getD default,[],[4,5],[],Tryz.func279,rfl,ahq⟩
  (aD ⟨Tryz.f131,(ae af 131).getD default,[],[2],[],Tryz.func131,rfl,agX⟩
  (aD ⟨Tryz.f132,(ae af 132).getD default,[],[3],[],Tryz.func132,rfl,agY⟩
  (aD ⟨Tryz.f133,(ae af 133).getD default,[2,3],[4,6],[],Tryz.func133,rfl,ag4⟩
  (aD ⟨Tryz.f205,(ae af 205).getD default,[],[6,7,8],[],Tryz.func205,rfl,ahc⟩
  (aD ⟨Tryz.f134,(ae af 134).getD default,[],[3],[],Tryz.func134,rfl,agZ⟩
  (aD ⟨Tryz.f135,(ae af 135).getD default,[],[3],[],Tryz.func135,rfl,ag0⟩
  (aD ⟨Tryz.f136,(ae af 136).getD default,[1,3,4,6,19,8,16392,36],[2],[],Tryz.func136,rfl,aha⟩
  (aD ⟨Tryz.f137,(ae af 137).getD default,[1,4,6],[2,3],[],Tryz.func137,rfl,ahd⟩
  (aD ⟨Tryz.f138,(ae af 138).getD default,[1,4,6],[2],[],Tryz.func138,rfl,ahb⟩
  (aD ⟨Tryz.f177,(ae af 177).getD default,[2],[4],[],Tryz.func177,rfl,ahw⟩
  (aD ⟨Tryz.f178,(ae af 178).getD default,[],[2],[],Tryz.func178,rfl,ahx⟩
  (aD ⟨Tryz.f179,(ae af 179).getD default,[1],[2],[],Tryz.func179,rfl,aht⟩
  (aD ⟨Tryz.f180,(ae af 180).getD default,[3,4],[6,7,13,16,24,33,8,9],[],Tryz.func180,rfl,ahv⟩
  (aD ⟨Tryz.f223,(ae af 223).getD default,[3],[4,5],[],Tryz.func223,rfl,ahu⟩
  (aD ⟨Tryz.f267,(ae af 267).getD default,[],[4,5,6,7,8,9],[],Tryz.func267,rfl,agd⟩
  (aD ⟨Tryz.f120,(ae af 120).getD default,[],[2],[],Tryz.func120,rfl,agn⟩
  (aD ⟨Tryz.f201,(ae af 201).getD default,[],[2,3,4,5,6,7,8,9],[],Tryz.func201,rfl,agh⟩
  (aD ⟨Tryz.f288,(ae af 288).getD default,[],[4],[],Tryz.func288,rfl,agk⟩
  (aD ⟨Tryz.f299,(ae af 299).getD default,[],[6,0,1],[],Tryz.func299,rfl,agl⟩
  (aD ⟨Tryz.f287,(ae af 287).getD default,[],[6,7,8],[],Tryz.func287,rfl,age⟩
  (aD ⟨Tryz.f185,(ae af 185).getD default,[3,9],[6,7],[],Tryz.func185,rfl,ag3⟩
  (aD ⟨Tryz.f181,(ae af 181).getD default,[3],[6,7,8,2,9,10],[],Tryz.func181,rfl,ahy⟩
  (aD ⟨Tryz.f224,(ae af 224).getD default,[3,9],[6,7,2],[],Tryz.func224,rfl,ahz⟩
  (aD ⟨Tryz.f225,(ae af 225).getD default,[2,4,5],[6],[],Tryz.func225,rfl,agf⟩
  (aD ⟨Tryz.f268,(ae af 268).getD default,[3,4,5],[6],[],Tryz.func268,rfl,agj⟩
  (aD ⟨Tryz.f121,(ae af 121).getD default,[2],[4,5,6,7],[],Tryz.func121,rfl,agm⟩
  (aD ⟨Tryz.f27,(ae af 27).getD default,[2,3],[4],[],Tryz.func27,rfl,agw⟩
  (aD ⟨Tryz.f53,(ae af 53).getD default,[2,3],[4,5],[],Tryz.func53,rfl,agV⟩
  (aD ⟨Tryz.f58,(ae af 58).getD default,[1],[2,3,4],[],Tryz.func58,rfl,agD⟩
  (aD ⟨Tryz.f127,(ae af 127).getD default,[1],[2],[],Tryz.func127,rfl,agQ⟩
  (aD ⟨Tryz.f128,(ae af 128).getD default,[1],[2,3],[],Tryz.func128,rfl,agU⟩
  (aD ⟨Tryz.f203,(ae af 203).getD default,[1],[2],[],Tryz.func203,rfl,agR⟩
  (aD ⟨Tryz.f243,(ae af 243).getD default,[3],[6,1,7],[],Tryz.func243,rfl,agT⟩
  (aD ⟨Tryz.f62,(ae af 62).getD default,[1],[2,3],[],Tryz.func62,rfl,agC⟩
  (aD ⟨Tryz.f145,(ae af 145).getD default,[1,5,44],[2,3,4,6,7],[],Tryz.func145,rfl,agK⟩
  (aD ⟨Tryz.f208,(ae af 208).getD default,[],[4],[],Tryz.func208,rfl,agM⟩
  (aD ⟨Tryz.f257,(ae af 257).getD default,[],[2,3,4],[],Tryz.func257,rfl,agF⟩
  (aD ⟨Tryz.f285,(ae af 285).getD default,[],[2],[],Tryz.func285,rfl,agE⟩
  (aD ⟨Tryz.f258,(ae af 258).getD default,[],[6,7],[],Tryz.func258,rfl,agB⟩
  (aD ⟨Tryz.f209,(ae af 209).getD default,[2,3],[4,5],[],Tryz.func209,rfl,agG⟩
  (aD ⟨Tryz.f210,(ae af 210).getD default,[],[6],[],Tryz.func210,rfl,agJ⟩
  (aD ⟨Tryz.f259,(ae af 259).getD default,[],[6,7],[],Tryz.func259,rfl,agI⟩
  (aD ⟨Tryz.f146,(ae af 146).getD default,[1,4,44],[2,3,5,6],[],Tryz.func146,rfl,agL⟩
  (aD ⟨Tryz.f147,(ae af 147).getD default,[1,3,24],[2,4,5],[],Tryz.func147,rfl,agN⟩
  (aD ⟨Tryz.f211,(ae af 211).getD default,[1],[2,3,4],[],Tryz.func211,rfl,agH⟩
  (aD ⟨Tryz.f148,(ae af 148).getD default,[1,4],[2,3,5],[],Tryz.func148,rfl,agP⟩
  (aD ⟨Tryz.f149,(ae af 149).getD default,[1,4,6],[2,3,5],[],Tryz.func149,rfl,agO⟩
  trivial)))))))))))))))))))))))))))))))))))))))))))))))))))))))))))))))))))))))))))))))))))))))))))))))))))))))))))))))))))))))))))
end Rm
set_option linter.unusedSimpArgs false
namespace Rm
open Go Go.Proofs Cx Go.RowKit Go.Lib
theorem ao7:(Tryz.prog.info? 3).map (fun i=>(i.zero,i.size,i.bytes))=some (some (.int .i64 0),1,8):=by kernel_rfl
set_option maxHeartbeats 2000000 in
set_option maxRecDepth 100000 in
theorem alV (w:World):Calls Tryz.prog 266 #[.slice none 0 0,.int .i64 0] w fun e w'=>e=.returned (.slice none 0 0)∧w'=w:=by
 go_enter Tryz.func266,Tryz.ntmps266
 go_wp2
 go_ret
 exact⟨rfl,rfl⟩
set_option maxHeartbeats 2000000 in
set_option maxRecDepth 100000 in
theorem alU (n:Nat)(w:World)(h0:0<n)(h1:n≤4294967296):Calls Tryz.prog 266 #[.slice none 0 0,.int .i64 n] w fun e w'=>
 ∃v',e=.returned v'∧w'.ownsRow w.heap.size 3 1 v' 0 []∧Below w.heap.size w w':=by
 obtain⟨i0,hi,vt,sN,hz2⟩:=info_parts ao7;have hr:=run_append_nil_zeros w 69 3 69 3 i0 (.int .i64 0) .i64 .i64 Tryz.underlying69 Tryz.underlying3 hi vt n h0 (by rw[sN];decide) (by omega) (by rw[hz2];omega);have hn:¬((n:Int)<0):=by omega
 have qy:(n:Int)>0:=by omega
 have hw:IntKind.i64.wrap (n:Int)=n:=by rw[IntKind.wrap_i64];omega
 have nM:IntKind.i64.wrap 0=0:=by decide
 have dY:=grownCap_ge w n 0 3;have hle:=grownCap_le_maxLen w n 0 3 (by unfold maxLen;omega);have hs:(Builtin.zeroCells #[Value.int IntKind.i64 0] n++Builtin.zeroCells #[Value.int IntKind.i64 0] (grownCap w n 0 3-n)).size=grownCap w n 0 3*1:=by
  rw[Array.size_append,size_zeroCells,size_zeroCells];simp;omega
 go_enter Tryz.func266,Tryz.ntmps266
 go_wp2_with (at_builtin;refine wpList_append_run _ rfl _ _ 69 3 rfl _ _ rfl rfl _ _ hr ?qc)
 go_ret
 refine⟨_,rfl,?_,?_⟩
 ·exact World.ownsRow.drew (World.ownsRow_made w _ _ (Nat.le_refl _) hle hs)
 ·exact((Below.refl _ w).alloc (Nat.le_refl _) _).drew
def ze (ds:List D):Option D:=
 match ds with
 |[.list [],.v (.int .i64 n)]=>if 0≤n∧n≤4294967296 then some (.list []) else none
 |_=>none
theorem alT (ds:List D)(d:D)(h:ze ds=some d):∃s,ctx.sig 266=some s∧IW ctx 266 s ds d:=by
 refine⟨_,rfl,fun _=>?_,fun shs obs hm=>by cases hm⟩;unfold ze at h;split at h
 case h_2=>cases h
 rename_i n;split at h
 case isFalse=>cases h
 rename_i hn;cases h;obtain⟨k,rfl⟩:=Int.eq_ofNat_of_zero_le hn.1;intro σ w args ax hC ha;obtain⟨a1,a2,a3⟩:=ha;have h0:=a3 0 _ rfl;have h1:=a3 1 _ rfl;obtain⟨u,v,rfl⟩:∃u v,args=#[u,v]:=by
  have:args.size=2:=by simpa using a1
  match args,this with
  |⟨[u,v]⟩,_=>exact⟨u,v,rfl⟩
 simp only[List.getD_cons_zero,List.getD_cons_succ] at h0 h1;change Rep ctx.cap σ (.nils .bool) u (.list []) at h0;change Rep ctx.cap σ (.int .i64) v (.v (.int .i64 k)) at h1;have hu:u=.slice none 0 0:=by cases h0;rfl
 have hv:v=.int .i64 k:=by cases h1;rfl
 subst hu hv;by_cases hk:k=0
 ·subst hk;refine(alV w).mono fun e w' hh=>?_;obtain⟨rfl,rfl⟩:=hh;refine⟨_,σ,rfl,.refl σ,ax,.refl _ _,fun _ _ _ h=>.inl h,fun _ _ h=>.inl h,?_⟩;exact⟨[],[],rfl,⟨by simp,.inl ⟨rfl,rfl⟩⟩,⟨fun _=>undef,fun i x hx=>by simp at hx,fun i j u hi=>by simp at hi⟩,fun k hk=>by cases hk⟩
 ·refine(alU k w (by omega) (by omega)).mono fun e w' hh=>?_;obtain⟨v',rfl,bI,hb⟩:=hh;refine⟨v',σ,rfl,.refl σ,ax.below hb,hb,fun _ _ _ h=>.inl h,fun _ _ h=>.inl h,?_⟩;refine⟨[],[],rfl,bI,⟨fun _=>undef,fun i x hx=>by simp at hx,fun i j u hi=>by simp at hi⟩,fun k hk=>?_⟩;have bn:=(bI.lt k hk).1;refine⟨fun o=>?_,?_⟩
  ·cases hc:σ.c k o with
   |none=>rfl
   |some u=>have:=World.block_lt_of_cell? w (a:=⟨k,o,none⟩) (ax.c _ _ _ hc);simp at this;omega
  ·cases hc:σ.m k with
   |none=>rfl
   |some u=>rcases ax.m _ _ hc with⟨arr,clock,x,g1,_⟩|⟨_,g1⟩<;>(have:=(Array.getElem?_eq_some_iff.1 g1).1;omega)
def dW (day:Int):Int×Int×Int:=
 let n:=day+730425
 let e:=n/146097
 let r:=n%146097
 let y:=(r-r/1460+r/36524-r/146096)/365
 let r:=r-(365*y+y/4-y/100)
 let m:=(5*r+2)/153
 let dom:=r-(153*m+2)/5+1
 let month:=if 12<m+3 then m+3-12 else m+3
 (if month<3 then y+400*e+1 else y+400*e,month,dom)
def tj (rest feasts shut:List Int)(day:Int):Bool:=
 !rest.contains ((day+5)%7)&&(!feasts.contains (100*(dW day).2.1+(dW day).2.2)&& !shut.contains day)
def TX (rest feasts shut:List Int)(a b:Int):List Int:=((List.range (b-a+1).toNat).map fun(k:Nat)=>a+k).filter (tj rest feasts shut)
def sQ (d:D):List Int:=d.l.map D.i
def TY (ds:List D):List D:=
 let c:=(ds.getD 2 .none).deref
 (TX (sQ (c.c 3)) (sQ (c.c 4)) (sQ (c.c 5)) (ds.getD 0 .none).deref.i (ds.getD 1 .none).deref.i).map fun d=>.tup [.int d]
def uf (r:D)(city:Int):Int:=if 0≤city∧city<(r.c 1).l.length then(((r.c 1).l.getD city.toNat .none).c 1).i else-1
def Oh (ds:List D):D:=
 let r:=ds.getD 0 .none
 let forum:=(ds.getD 1 .none).i
 let c:=ds.getD 2 .none
 let s:=(c.c 15).l.getD (c.c 19).i.toNat .none
 let who:=(s.c 2).i
 if who<0∨(r.c 3).l.length≤who∨forum<0∨(r.c 4).l.length≤forum then .list [] else
 let out:=[forum,uf r (s.c 7).i,uf r (c.c 10).i,uf r (c.c 9).i,uf r (((r.c 3).l.getD who.toNat .none).c 1).i]
 if(-1)∈out then .list [] else ints out
noncomputable def Kl:List (Nat×(aL→List D→Option D)):=[(266,fun _ ds=>ze ds),(85,pB N4 N5 Oh),(289,qM AH 1000 1 TY)]
noncomputable def ext:Nat→Option (aL→List D→Option D):=ae Kl
theorem auU:TabOK ctx tab ext:=by
 refine⟨clos,its,fun f pc _ h=>auV f pc h,fun f g hg Φ hΦ eB ds d h=>?_⟩
 have:=Ar (R:=fun f (g:aL→List D→Option D)=>∀Φ,cM ctx Φ→fc ctx Φ→∀ds d,g Φ ds=some d→(∀s,ctx.sig f=some s→IW ctx f s ds d)∧
  ∀cs ys,ctx.cap f=some cs→kh cs.args cs.res=some ys→∃xs,d=.list xs∧(∀x,x∈xs→∃ds',x=.tup ds'∧ds'.length=ys.length)∧jW ctx f cs.caps ys ds xs) (l:=Kl)
  ⟨fun Φ hΦ eB ds d h=>⟨fun s hs=>by obtain⟨s',h1,h2⟩:=alT ds d h;rw[hs] at h1;cases h1;exact h2,fun cs ys hc hi=>by cases hc⟩,
   fun Φ hΦ eB ds d h=>⟨fun s hs=>by cases hs;exact⟨fun _=>ar9 clos hΦ eB Tryz.func85 af9 aga h,fun shs obs hm=>by cases hm⟩,fun cs ys hc hi=>by cases hc⟩,
   fun Φ hΦ eB ds d h=>⟨fun s hs=>(by cases hs),fun cs ys hc hi=>by
    cases hc;cases hi;exact apb clos hΦ eB Tryz.func289 ahE h rfl⟩,trivial⟩ f g hg
 exact this Φ hΦ eB ds d h
noncomputable abbrev T:cd:=cv tab ext
theorem ar8 {pa pb:PC}{spec:List D→D}{Φ Ψ:aL}(h:Le Φ Ψ){ds:List D}{d:D}(e:pB pa pb spec Φ ds=some d):pB pa pb spec Ψ ds=some d:=by
 unfold pB at e ⊢;split at e
 ·rename_i hs;rw[if_pos]
  ·exact e
  ·rcases hs with⟨N,xs,h1,h2⟩|⟨N,h1,h2⟩
   ·exact .inl ⟨N,xs,PC.ev_mono h (Nat.le_refl _) h1,h2⟩
   ·exact .inr ⟨N,PC.ev_mono h (Nat.le_refl _) h1,h2⟩
 ·cases e
theorem ajg:∀f g,ext f=some g→∀Φ Ψ,Le Φ Ψ→∀ds d,g Φ ds=some d→g Ψ ds=some d:=fun f g hg=>
 Ar (R:=fun _ (g:aL→List D→Option D)=>∀Φ Ψ,Le Φ Ψ→∀ds d,g Φ ds=some d→g Ψ ds=some d) (l:=Kl) ⟨fun _ _ _ _ _ e=>e,fun _ _ h _ _ e=>ar8 h e,fun _ _ h _ _ e=>apa h e,trivial⟩ f g hg
theorem ao.of_nsl {tab:Nat→Option PC}{ext:Nat→Option (aL→List D→Option D)}{f:Nat}{pa pb:PC}{spec:List D→D}{ds:List D}{ta tb:PT}(hx:ext f=some (pB pa pb spec))(hta:tree pa=ta)(htb:tree pb=tb)
 (h:(∃xs,xs≠[]∧spec ds=.list xs∧aG (cv tab ext) ta (iQ ds) (fun x=>x=.ret (.list xs)))∨(spec ds=.list []∧aG (cv tab ext) tb (iQ ds) (fun x=>x=.ret (.list [])))):ao (cv tab ext) f ds (spec ds):=by
 refine ao.of_ext hx ?_;rcases h with⟨xs,h1,h2,h3⟩|⟨h2,h3⟩
 ·obtain⟨x,rfl,n0,hn⟩:=IJ (c:=pa) (hta▸h3);refine⟨n0,fun n hle=>?_⟩;unfold pB;rw[if_pos (.inl ⟨n,xs,hn n hle,h1,h2⟩)]
 ·obtain⟨x,rfl,n0,hn⟩:=IJ (c:=pb) (htb▸h3);refine⟨n0,fun n hle=>?_⟩;unfold pB;rw[if_pos (.inr ⟨n,hn n hle,h2⟩)]
end Rm
