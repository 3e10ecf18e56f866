/-
  Shared texts of this claim.
-/
import Derived.Test.YtodhjdbleiakeaaGreatDoorMAK
import Derived.KernelRfl
import Derived.Test.YtodhjdbleiakeaaGreatDoorMAL
import Derived.Test.YtodhjdbleiakeaaGreatDoorMAM
import Derived.Test.YtodhjdbleiakeaaGreatDoorMAN
import Derived.Test.YtodhjdbleiakeaaGreatDoorMAJ
import Derived.WalkKit
import Derived.WalkSpells
import Derived.Lib.SliceRun
import Derived.Lib.AppendZeros
set_option linter.unusedVariables false
set_option maxRecDepth 100000
namespace Rm
open Go Go.Proofs Cx
noncomputable def GB:Option PC:=aB {ctx with fr:=[6],nh:=[]} Tryz.f210 ((ab af 210).getD default) []
noncomputable def J6:PC:=aA GB
def VO:PT:=
 (.ret (.pick (bJ r1 r0) (bJ r0 r2) pF))
def arz (b:Nat→PC):PT×List (Shp×PT):=(VO,[])
theorem afq:GB.map told=some (arz (ax GB)):=by kernel_rfl
theorem aDA:tree J6=VO:=aK afq
theorem anC:GB=some J6:=aC afq
noncomputable def A4:Option PC:=aB {ctx with fr:=[6,7],nh:=[]} Tryz.f259 ((ab af 259).getD default) []
noncomputable def J5:PC:=aA A4
noncomputable def NQ:Nat→PC:=bE A4
def axb (b:Nat→PC):PC:=.block 0 [6,7,8,9,10,11] [] (.loop [6,7] [] (b 0))
def Eh (b:Nat→PC):PT:=
 (.ite (aj r7 (.llen r0))
 (.blockS ⟨[],[]⟩ 1 [6,14,15,16,17,18,19,20,21,22,23,24,35] []
 (.chk (av r0 r7)
 (.call ⟨[],[]⟩ [] 20 210 [(pn r0 r7),r1,r2]
 (.ite (.nt eg)
 (.ret pF)
 (.chk (.nt (.an (.an (be r7 (pi 0)) pT) (.nt (av r0 y7))))
 (.chk (.nt (.an (.an (be r7 (pi 0)) pT) (.nt (av r0 r7))))
 (.ite (.pick (be r7 (pi 0)) (bL (pn r0 y7) (pn r0 r7)) pF)
 (.ret pF)
 (.next ⟨[],[]⟩)))))))
 (.next ⟨[(7,(aO r7 (pi 1)))],[]⟩))
 (.exit 0 ⟨[(8,r7),(9,r0),(10,(.llen r0)),(11,(aj r7 (.llen r0)))],[]⟩))
def VN (b:Nat→PC):PT:=
 (.brk ⟨[(7,(pi 0)),(6,pF)],[]⟩
(axb b)
 (.ret pT))
def ary (b:Nat→PC):PT×List (Shp×PT):=(VN b,[(.lp 0 [6,7,8,9,10,11] [] [6,7] [],Eh b)])
theorem Si:A4.map told=some (ary (ax A4)):=by kernel_rfl
theorem aDz:tree J5=VN NQ:=aK Si
theorem TS:round 0 [6,7,8,9,10,11] [] [6,7] [] (NQ 0)=Eh NQ:=bq Si 0 fun _=>rfl
theorem anB:A4=some J5:=aC Si
noncomputable def A6:Option PC:=aB {ctx with fr:=[2,3,5,6],nh:=[]} Tryz.f146 ((ab af 146).getD default) [1,4,44]
noncomputable def J8:PC:=aA A6
noncomputable def As:Nat→PC:=bE A6
def axe (b:Nat→PC):PC:=.block 0 [2,3,11,12,13,14,15] [] (.loop [2,3] [] (b 0))
def axf (b:Nat→PC):PC:=.block 2 [2,4,5,30,31,32,33,34] [4] (.loop [2,4,5] [4] (b 1))
def Ek (b:Nat→PC):PT:=
 (.ite (aj r3 qM)
 (.blockS ⟨[],[]⟩ 1 [2,18,19,20,21,22,23,24,25] []
 (.chk (av (pc o1 2) r3)
 (.call ⟨[],[]⟩ [] 24 210 [(pc (pn (pc o1 2) r3) 0),(pi 0),(pi 9)]
 (.ite (.nt pJ)
 (.ret (pi 1))
 (.next ⟨[],[]⟩))))
 (.next ⟨[(3,qN)],[]⟩))
 (.exit 0 ⟨[(11,r3),(12,pN),(13,(pc o1 2)),(14,qM),(15,(aj r3 qM))],[]⟩))
def El (b:Nat→PC):PT:=
 (.ite (aj r5 mU)
 (.blockS ⟨[],[]⟩ 3 [2,4,6,38,39,40,41,42,43,44,45,46,47,48,49,50,52,53,54,55,56,57,58,59,60,61,62,63,64,77] [44,4]
 (.chk (av (pc o1 3) r5)
 (.chk (bJ (.llen Tu) cK)
 (.call ⟨[(4,pN)],[(4,Tu)]⟩ [] 48 208 [Tu,r5]
 (.ite (aU lX (pi 0))
 (.ret lX)
 (.chk (av (pc o1 3) r5)
 (.call ⟨[],[]⟩ [] 62 210 [(pc (pn (pc o1 3) r5) 1),(pi 0),(bD kT (pi 1))]
 (.chk (.nt (.an (.an (.nt (.nt mV)) pT) (.nt (av (pc o1 3) r5))))
 (.call ⟨[(64,(.nt mV))],[]⟩ [(64,false)] 75 210 [(pc (pn (pc o1 3) r5) 2),(pi 0),(bD qM (pi 1))]
 (.ite (.pick ku pT (.nt zk))
 (.ret (pi 1))
 (.next ⟨[],[]⟩))))))))))
 (.next ⟨[(5,pG)],[]⟩))
 (.exit 2 ⟨[(30,r5),(31,pN),(32,(pc o1 3)),(33,mU),(34,(aj r5 mU))],[]⟩))
def VQ (b:Nat→PC):PT:=
 (.ite (be pI (pi 20))
 (.ret (pi 6))
 (.brk ⟨[(3,(pi 0)),(2,(pi 0))],[(1,(.mk [r0]))]⟩
(axe b)
 (.ite (be mU (pi 200))
 (.ret (pi 6))
 (.brk ⟨[(5,(pi 0)),(4,pN)],[(4,pL)]⟩
(axf b)
 (.ret (pi 0))))))
def arB (b:Nat→PC):PT×List (Shp×PT):=(VQ b,[(.lp 0 [2,3,11,12,13,14,15] [] [2,3] [],Ek b),(.lp 2 [2,4,5,30,31,32,33,34] [4] [2,4,5] [4],El b)])
theorem IX:A6.map told=some (arB (ax A6)):=by kernel_rfl
theorem aDC:tree J8=VQ As:=aK IX
theorem TW:round 0 [2,3,11,12,13,14,15] [] [2,3] [] (As 0)=Ek As:=bq IX 0 fun _=>rfl
theorem TX:round 2 [2,4,5,30,31,32,33,34] [4] [2,4,5] [4] (As 1)=El As:=bq IX 1 fun _=>rfl
theorem anE:A6=some J8:=aC IX
noncomputable def A7:Option PC:=aB {ctx with fr:=[2,4,5],nh:=[]} Tryz.f147 ((ab af 147).getD default) [1,3,24]
noncomputable def Ka:PC:=aA A7
noncomputable def NR:Nat→PC:=bE A7
def axg (b:Nat→PC):PC:=.block 0 [2,3,4,10,11,12,13,14] [3] (.loop [2,3,4] [3] (b 0))
def Em (b:Nat→PC):PT:=
 (.ite (aj r4 nS)
 (.blockS ⟨[],[]⟩ 1 [2,3,5,18,19,20,21,22,23,24,25,26,27,28,29,30,32,33,34,35,36,37,38] [24,3]
 (.chk (av (pc o1 4) r4)
 (.chk (bJ (.llen (.app o3 (.lst [(pc wv 0)]))) cK)
 (.call ⟨[(3,pN)],[(3,(.app o3 (.lst [(pc wv 0)])))]⟩ [] 28 208 [(.app o3 (.lst [(pc wv 0)])),r4]
 (.ite (aU qQ (pi 0))
 (.ret qQ)
 (.chk (av (pc o1 4) r4)
 (.call ⟨[],[]⟩ [] 37 211 [wv]
 (.ite (.nt lW)
 (.ret (pi 1))
 (.next ⟨[],[]⟩))))))))
 (.next ⟨[(4,(aO r4 (pi 1)))],[]⟩))
 (.exit 0 ⟨[(10,r4),(11,pN),(12,(pc o1 4)),(13,nS),(14,(aj r4 nS))],[]⟩))
def VS (b:Nat→PC):PT:=
 (.ite (be (.llen wy) (pi 20))
 (.ret (pi 6))
 (.brk ⟨[(4,(pi 0)),(3,pN),(2,(pi 0))],[(3,pL),(1,(.mk [r0]))]⟩
(axg b)
 (.ret (pi 0))))
def arD (b:Nat→PC):PT×List (Shp×PT):=(VS b,[(.lp 0 [2,3,4,10,11,12,13,14] [3] [2,3,4] [3],Em b)])
theorem Sj:A7.map told=some (arD (ax A7)):=by kernel_rfl
theorem aDE:tree Ka=VS NR:=aK Sj
theorem TY:round 0 [2,3,4,10,11,12,13,14] [3] [2,3,4] [3] (NR 0)=Em NR:=bq Sj 0 fun _=>rfl
theorem anG:A7=some Ka:=aC Sj
noncomputable def A3:Option PC:=aB {ctx with fr:=[2,3,4],nh:=[]} Tryz.f211 ((ab af 211).getD default) [1]
noncomputable def J4:PC:=aA A3
noncomputable def Aq:Nat→PC:=bE A3
def aw9 (b:Nat→PC):PC:=.block 0 [2,3,5,6,7,8,9] [] (.loop [2,3] [] (b 0))
def axa (b:Nat→PC):PC:=.block 2 [2,4,48,49,50,51,52] [] (.loop [2,4] [] (b 1))
def Ef (b:Nat→PC):PT:=
 (.ite (aj r3 qM)
 (.blockS ⟨[],[]⟩ 1 [2,12,13,14,15,16,17,18,19,20,29,30,31,32,47] []
 (.chk (av (pc o1 2) r3)
 (.call ⟨[],[]⟩ [] 18 210 [(pc (pn (pc o1 2) r3) 0),(pi 0),(pi 21)]
 (.chk (.nt (.an (.an (.nt (.nt gQ)) pT) (.nt (av (pc o1 2) r3))))
 (.call ⟨[(20,(.nt gQ))],[]⟩ [(20,false)] 27 210 [(pc (pn (pc o1 2) r3) 1),(pi 0),(pi 4)]
 (.ite (.pick eg pT (.nt fh))
 (.ret pF)
 (.chk (.nt (.an (.an (be r3 (pi 0)) pT) (.nt (av (pc o1 2) tT))))
 (.chk (.nt (.an (.an (be r3 (pi 0)) pT) (.nt (av (pc o1 2) r3))))
 (.ite (.pick (be r3 (pi 0)) (bL (pc (pn (pc o1 2) tT) 0) (pc (pn (pc o1 2) r3) 0)) pF)
 (.ret pF)
 (.next ⟨[],[]⟩)))))))))
 (.next ⟨[(3,qN)],[]⟩))
 (.exit 0 ⟨[(5,r3),(6,pN),(7,(pc o1 2)),(8,qM),(9,(aj r3 qM))],[]⟩))
def Eg (b:Nat→PC):PT:=
 (.ite (aj r4 mU)
 (.blockS ⟨[],[]⟩ 3 [2,55,56,57,58,59,60,61,62,63,64,65,80] []
 (.chk (av (pc o1 3) r4)
 (.call ⟨[],[]⟩ [] 61 210 [(pc (pn (pc o1 3) r4) 0),(pi 0),(pi 21)]
 (.ite (.nt kX)
 (.ret pF)
 (.chk (.nt (.an (.an (be r4 (pi 0)) pT) (.nt (av (pc o1 3) (bD r4 (pi 1))))))
 (.chk (.nt (.an (.an (be r4 (pi 0)) pT) (.nt (av (pc o1 3) r4))))
 (.ite (.pick (be r4 (pi 0)) (bL (pc (pn (pc o1 3) (bD r4 (pi 1))) 0) (pc (pn (pc o1 3) r4) 0)) pF)
 (.ret pF)
 (.next ⟨[],[]⟩)))))))
 (.next ⟨[(4,(aO r4 (pi 1)))],[]⟩))
 (.exit 2 ⟨[(48,r4),(49,pN),(50,(pc o1 3)),(51,mU),(52,(aj r4 mU))],[]⟩))
def VM (b:Nat→PC):PT:=
 (.brk ⟨[(3,(pi 0)),(2,pF)],[(1,(.mk [r0]))]⟩
(aw9 b)
 (.brk ⟨[(4,(pi 0))],[]⟩
(axa b)
 (.ret pT)))
def arx (b:Nat→PC):PT×List (Shp×PT):=(VM b,[(.lp 0 [2,3,5,6,7,8,9] [] [2,3] [],Ef b),(.lp 2 [2,4,48,49,50,51,52] [] [2,4] [],Eg b)])
theorem IV:A3.map told=some (arx (ax A3)):=by kernel_rfl
theorem aDy:tree J4=VM Aq:=aK IV
theorem TQ:round 0 [2,3,5,6,7,8,9] [] [2,3] [] (Aq 0)=Ef Aq:=bq IV 0 fun _=>rfl
theorem TR:round 2 [2,4,48,49,50,51,52] [] [2,4] [] (Aq 1)=Eg Aq:=bq IV 1 fun _=>rfl
theorem anA:A3=some J4:=aC IV
noncomputable def A9:Option PC:=aB {ctx with fr:=[2,3,5],nh:=[]} Tryz.f148 ((ab af 148).getD default) [1,4]
noncomputable def Kc:PC:=aA A9
noncomputable def Au:Nat→PC:=bE A9
def axj (b:Nat→PC):PC:=.block 2 [2,5,46,47,48] [] (.loop [2,5] [] (b 0))
def axk (b:Nat→PC):PC:=.block 0 [2,3,10,11,12,13,14] [] (.loop [2,3] [] (b 1))
def zp (b:Nat→PC):PT:=
 (.ite (aj r5 r3)
 (.chk (av (pc o1 5) r5)
 (.chk (.nt (.an (.an (aq (pc (pn (pc o1 5) r5) 0) (pc o4 0)) pT) (.nt (av (pc o1 5) r5))))
 (.ite (.pick (aq (pc (pn (pc o1 5) r5) 0) (pc o4 0)) (aq (pc (pn (pc o1 5) r5) 1) (pc o4 1)) pF)
 (.ret (pi 5))
 (.next ⟨[(5,pG)],[]⟩))))
 (.exit 2 ⟨[(46,r5),(47,r3),(48,(aj r5 r3))],[]⟩))
def Ep (b:Nat→PC):PT:=
 (.ite (aj r3 y6)
 (.blockS ⟨[(14,(aj r3 y6)),(13,y6),(12,(pc o1 5)),(11,pN),(10,r3)],[]⟩ 1 [2,4,5,17,18,19,20,21,22,23,24,25,26,27,28,29,30,39,40,45,46,47,48] [4]
 (.chk (av (pc o1 5) r3)
 (.call ⟨[],[(4,(.setc z3 0 (pn (pc o1 5) r3)))]⟩ [] 28 210 [(pc (.setc z3 0 (pn (pc o1 5) r3)) 0),(pi 0),(bD kT (pi 1))]
 (.call ⟨[(30,(.nt qQ))],[]⟩ [(30,false)] 37 210 [(pc o4 1),(pi 0),(bD kT (pi 1))]
 (.call ⟨[(40,(.pick tU pT (.nt lW)))],[]⟩ [(40,false)] 43 210 [(pc o4 2),(pi 1),(pi 20000)]
 (.ite (.pick nU pT (.nt sm))
 (.ret (pi 1))
 (.brk ⟨[(5,(pi 0))],[]⟩
(axj b)
 (.next ⟨[],[]⟩)))))))
 (.next ⟨[(3,qN)],[]⟩))
 (.exit 0 ⟨[(10,r3),(11,pN),(12,(pc o1 5)),(13,y6),(14,(aj r3 y6))],[]⟩))
def VU (b:Nat→PC):PT:=
 (.ite (be (.llen wx) (pi 100))
 (.ret (pi 6))
 (.brk ⟨[(3,(pi 0)),(2,(pi 0))],[(1,(.mk [r0]))]⟩
(axk b)
 (.ret (pi 0))))
def arF (b:Nat→PC):PT×List (Shp×PT):=(VU b,[(.lp 2 [2,5,46,47,48] [] [2,5] [],zp b),(.lp 0 [2,3,10,11,12,13,14] [] [2,3] [],Ep b)])
theorem IZ:A9.map told=some (arF (ax A9)):=by kernel_rfl
theorem aDG:tree Kc=VU Au:=aK IZ
theorem L2:round 2 [2,5,46,47,48] [] [2,5] [] (Au 0)=zp Au:=bq IZ 0 fun _=>rfl
theorem T3:round 0 [2,3,10,11,12,13,14] [] [2,3] [] (Au 1)=Ep Au:=bq IZ 1 fun _=>rfl
theorem anI:A9=some Kc:=aC IZ
noncomputable def A8:Option PC:=aB {ctx with fr:=[2,3,5],nh:=[]} Tryz.f149 ((ab af 149).getD default) [1,4,6]
noncomputable def Kb:PC:=aA A8
noncomputable def At:Nat→PC:=bE A8
def axh (b:Nat→PC):PC:=.block 0 [2,3,11,12,13,14,15] [] (.loop [2,3] [] (b 0))
def axi (b:Nat→PC):PC:=.block 2 [2,5,68,69,70,71,72] [] (.loop [2,5] [] (b 1))
def En (b:Nat→PC):PT:=
 (.ite (aj r3 (.llen (pc o1 6)))
 (.blockS ⟨[],[]⟩ 1 [2,4,18,19,20,21,22,23,24,25,26,27,28,29,30,31,40,41,47,48,49,50,51,52,57,58,63] [4]
 (.chk (av (pc o1 6) r3)
 (.call ⟨[],[(4,(.setc z5 0 (pn (pc o1 6) r3)))]⟩ [] 29 210 [(pc (.setc z5 0 (pn (pc o1 6) r3)) 0),(pi 0),(bD tS (pi 1))]
 (.call ⟨[(31,(.nt nT))],[]⟩ [(31,false)] 38 210 [(pc o4 1),(pi 0),(bD tS (pi 1))]
 (.ite (.pick (.pick qT pT (.nt fE)) pT (aq (pc o4 0) (pc o4 1)))
 (.ret (pi 1))
 (.call ⟨[],[]⟩ [] 50 210 [(pc o4 2),(pi 1),(pi 1073741824)]
 (.call ⟨[(52,(.nt kW))],[]⟩ [(52,false)] 55 210 [(pc o4 3),(pi 1),(pi 1073741824)]
 (.call ⟨[(58,(.pick LM pT (.nt zi)))],[]⟩ [(58,false)] 61 210 [(pc o4 4),(pi 0),(pi 100000)]
 (.ite (.pick D3 pT (.nt kX))
 (.ret (pi 1))
 (.next ⟨[],[]⟩)))))))))
 (.next ⟨[(3,qN)],[]⟩))
 (.exit 0 ⟨[(11,r3),(12,pN),(13,(pc o1 6)),(14,(.llen (pc o1 6))),(15,(aj r3 (.llen (pc o1 6))))],[]⟩))
def Eo (b:Nat→PC):PT:=
 (.ite (aj r5 wz)
 (.blockS ⟨[],[]⟩ 3 [2,6,75,76,77,78,79,80,81,82,83,84,85,86,87,88,95,96,100] [6]
 (.chk (av (pc o1 7) r5)
 (.call ⟨[],[(6,(.setc z3 0 (pn (pc o1 7) r5)))]⟩ [] 86 210 [(pc (.setc z3 0 (pn (pc o1 7) r5)) 0),(pi 0),(bD nS (pi 1))]
 (.call ⟨[(88,(.nt r86))],[]⟩ [(88,false)] 93 210 [(pc o6 1),(pi 0),(pc o6 2)]
 (.ite (.pick (.pick LS pT (.nt zn)) pT (be (pc o6 2) (pi 100000)))
 (.ret (pi 1))
 (.next ⟨[],[]⟩)))))
 (.next ⟨[(5,pG)],[]⟩))
 (.exit 2 ⟨[(68,r5),(69,pN),(70,(pc o1 7)),(71,wz),(72,(aj r5 wz))],[]⟩))
def VT (b:Nat→PC):PT:=
 (.ite (be (.llen (pc (.mk [r0]) 6)) (pi 100))
 (.ret (pi 6))
 (.brk ⟨[(3,(pi 0)),(2,(pi 0))],[(1,(.mk [r0]))]⟩
(axh b)
 (.ite (be wz (pi 20))
 (.ret (pi 6))
 (.brk ⟨[(5,(pi 0))],[]⟩
(axi b)
 (.ret (pi 0))))))
def arE (b:Nat→PC):PT×List (Shp×PT):=(VT b,[(.lp 0 [2,3,11,12,13,14,15] [] [2,3] [],En b),(.lp 2 [2,5,68,69,70,71,72] [] [2,5] [],Eo b)])
theorem IY:A8.map told=some (arE (ax A8)):=by kernel_rfl
theorem aDF:tree Kb=VT At:=aK IY
theorem TZ:round 0 [2,3,11,12,13,14,15] [] [2,3] [] (At 0)=En At:=bq IY 0 fun _=>rfl
theorem T2:round 2 [2,5,68,69,70,71,72] [] [2,5] [] (At 1)=Eo At:=bq IY 1 fun _=>rfl
theorem anH:A8=some Kb:=aC IY
noncomputable def AV:Option PC:=aB {ctx with fr:=[4,5,6,7,8,11],nh:=[]} Tryz.f42 ((ab af 42).getD default) [2,3,10]
noncomputable def JP:PC:=aA AV
noncomputable def Ao:Nat→PC:=bE AV
def awZ (b:Nat→PC):PC:=.block 0 [4,48,49] [] (.loop [4,48] [] (b 0))
def aw0 (b:Nat→PC):PC:=.block 2 [4,8,62,63] [] (.loop [4,8,62] [] (b 1))
def D9 (b:Nat→PC):PT:=
 (.ite (aj lX Tz)
 (.blockS ⟨[],[]⟩ 1 [4,6,7,50,51,52,53,54,55,56] []
 (.call ⟨[],[]⟩ [] 54 111 [(au 8 o2),(au 19 o3),lX]
 (.ite (aU pK (pi 0))
 (.ret pK)
 (.next ⟨[],[]⟩)))
 (.next ⟨[(48,(aO lX (pi 1)))],[]⟩))
 (.exit 0 ⟨[(49,(aj lX Tz))],[]⟩))
def Ea (b:Nat→PC):PT:=
 (.ite (aj mV kX)
 (.blockS ⟨[],[]⟩ 3 [4,8,10,64,65,66,67,68,69,70,71,72,73,74,75,76,77,78,79,80] [10]
 (.chk (av D4 mV)
 (.call ⟨[],[(10,(.setc z2 0 (pn D4 mV)))]⟩ [] 73 112 [(pc (.setc z2 0 (pn D4 mV)) 0),sf,(.llen (pc o3 15))]
 (.ite (.nt D5)
 (.ret (pi 1))
 (.call ⟨[],[]⟩ [] 77 112 [(pc cq 1),(pi 1),y1]
 (.ite (.nt LQ)
 (.ret (pi 3))
 (.next ⟨[(8,(pc cq 0))],[]⟩))))))
 (.next ⟨[(62,(aO mV (pi 1)))],[]⟩))
 (.exit 2 ⟨[(63,(aj mV kX))],[]⟩))
def Vy (b:Nat→PC):PT:=
 (.ite (.pick (.pick (.pick (be (.llen (pc (.mk [r1]) 15)) (pi 40)) pT (be (.llen (pc (.mk [r1]) 16)) (pi 4))) pT (be (.llen (pc (.mk [r1]) 17)) (pi 100))) pT (be (.llen (pc (.mk [r1]) 18)) (pi 200)))
 (.ret (pi 6))
 (.call ⟨[(4,(pi 0))],[(3,(.mk [r1])),(2,(.mk [r0]))]⟩ [] 37 110 [km,(au 15 (.mk [r1]))]
 (.ite (aU lW (pi 0))
 (.ret lW)
 (.ite (aq (.llen (pc o3 15)) (pi 0))
 (.ret (pi 14))
 (.brk ⟨[(48,(pi 0)),(47,(.llen (pc o3 15)))],[]⟩
(awZ b)
 (.brk ⟨[(62,(pi 0)),(61,(.llen (pc o3 16))),(60,(pc o3 16)),(8,(pi 0))],[]⟩
(aw0 b)
 (.call ⟨[],[]⟩ [] 84 113 [(au 8 o2),(au 19 o3)]
 (.ite (aU r84 (pi 0))
 (.ret r84)
 (.call ⟨[],[]⟩ [] 89 114 [(au 19 o3)]
 (.ret r89))))))))))
def arf (b:Nat→PC):PT×List (Shp×PT):=(Vy b,[(.lp 0 [4,48,49] [] [4,48] [],D9 b),(.lp 2 [4,8,62,63] [] [4,8,62] [],Ea b)])
theorem IT:AV.map told=some (arf (ax AV)):=by kernel_rfl
theorem aDj:tree JP=Vy Ao:=aK IT
theorem TL:round 0 [4,48,49] [] [4,48] [] (Ao 0)=D9 Ao:=bq IT 0 fun _=>rfl
theorem TM:round 2 [4,8,62,63] [] [4,8,62] [] (Ao 1)=Ea Ao:=bq IT 1 fun _=>rfl
theorem ank:AV=some JP:=aC IT
noncomputable def G4:Option PC:=aB {ctx with fr:=[4,5,6,7,8,54,80,109,118,9,10],nh:=[]} Tryz.f110 ((ab af 110).getD default) [2,3]
noncomputable def Ln:PC:=aA G4
def WU:PT:=
 (.call ⟨[],[(3,(.mk [r1])),(2,(.mk [r0]))]⟩ [] 12 54 [km]
 (.ite (aU bW (pi 0))
 (.ret bW)
 (.call ⟨[(7,(.llen (pc o2 1))),(6,(.llen (pc o2 3)))],[]⟩ [] 25 183 [(pc o3 0),(.llen (pc o2 3))]
 (.call ⟨[(26,gR)],[]⟩ [(26,true)] 30 183 [(pc o3 1),r6]
 (.call ⟨[(36,(aq (pc o3 2) (pi (-1)))),(32,(.pick kU tU pF))],[]⟩ [(36,false),(32,true)] 40 183 [(pc o3 2),r6]
 (.call ⟨[(47,(aq (pc o3 11) (pi (-1)))),(43,(.pick D1 (.pick kr pT nU) pF))],[]⟩ [(47,false),(43,true)] 51 183 [(pc o3 11),r6]
 (.blockS ⟨[(8,(.pick sm (.pick Tz pT lY) pF))],[]⟩ 0 [4,54,55,56,57,65,66,72,73,79,80,81,82,83,84,88,89,93,94,98,99,103,104,108,109,110,111,112,113,117,118,119,120,121,122,126,127,137,138,142] []
 (.call ⟨[(57,(.nt r8))],[]⟩ [(57,false)] 63 183 [(pc o3 4),(.llen (pc o2 0))]
 (.call ⟨[(66,(.pick LN pT (.nt LO)))],[]⟩ [(66,false)] 70 183 [(pc o3 9),r7]
 (.call ⟨[(73,(.pick LP pT (.nt TB)))],[]⟩ [(73,false)] 77 183 [(pc o3 10),r7]
 (.iteS ⟨[],[]⟩ (.pick D5 pT (.nt LQ)) [4,80,81,82,83,84,88,89,93,94,98,99,103,104,108,109,110,111,112,113,117,118,119,120,121,122,126,127,137,138,142] []
 (.ret (pi 1))
 (.iteS ⟨[],[]⟩ (.pick (.pick (.pick (.pick (.pick (aj (pc o3 3) (pi 1)) pT (be (pc o3 3) y1)) pT (aj (pc o3 8) (pi 0))) pT (be (pc o3 8) (pi 100000))) pT (aj (pc o3 12) (pi 0))) pT (be (pc o3 12) (pi 1000))) [4,109,110,111,112,113,117,118,119,120,121,122,126,127,137,138,142] []
 (.ret (pi 3))
 (.iteS ⟨[],[]⟩ (.pick (aj (pc o3 14) (pi 1)) pT (be (pc o3 14) (pi 4))) [4,118,119,120,121,122,126,127,137,138,142] []
 (.ret (pi 15))
 (.call ⟨[(138,(.pick (.pick (aj (pc o3 13) (pi 0)) pT (be (pc o3 13) (pi 7))) pT (.pick (aU (.ai .and .i64 (pc o3 13) (pi 4)) (pi 0)) (aq (pc o3 2) (pi (-1))) pF)))],[]⟩ [(138,false)] 140 184 [(au 15 o3)]
 (.ite (.pick (.r 138) pT (.nt (.r 140)))
 (.ret (pi 2))
 (.next ⟨[],[]⟩)))
 (.next ⟨[],[]⟩))
 (.next ⟨[],[]⟩))
 (.next ⟨[],[]⟩)))))
 (.iteS ⟨[],[]⟩ (aq (pc o3 5) (pi 4)) [4] []
 (.call ⟨[],[]⟩ [] 153 185 [(au 8 o2),(pc o3 9),(pc o3 10)]
 (.ret (.tget (.r 153) 1)))
 (.next ⟨[],[]⟩)
 (.ret (pi 0))))))))))
def asS (b:Nat→PC):PT×List (Shp×PT):=(WU,[])
theorem af0:G4.map told=some (asS (ax G4)):=by kernel_rfl
theorem aEL:tree Ln=WU:=aK af0
theorem aoz:G4=some Ln:=aC af0
noncomputable def G5:Option PC:=aB {ctx with fr:=[4],nh:=[]} Tryz.f183 ((ab af 183).getD default) []
noncomputable def Lo:PC:=aA G5
def WV:PT:=
 (.ret Th)
def asT (b:Nat→PC):PT×List (Shp×PT):=(WV,[])
theorem af1:G5.map told=some (asT (ax G5)):=by kernel_rfl
theorem aEM:tree Lo=WV:=aK af1
theorem aoA:G5=some Lo:=aC af1
noncomputable def G6:Option PC:=aB {ctx with fr:=[2,8,19,40],nh:=[]} Tryz.f184 ((ab af 184).getD default) [1,3]
noncomputable def Lp:PC:=aA G6
def WW:PT:=
 (.ite (.pick (aq (pc ko 0) (pi 0)) (aq (pc ko 0) (pi 0)) (aq (pc ko 0) (pi 4)))
 (.ret (.pick (aq (pc ko 1) (pi 0)) (aq (pc ko 2) (pi 0)) pF))
 (.ite (.pick (aq (pc ko 0) (pi 1)) (aq (pc ko 0) (pi 1)) (aq (pc ko 0) (pi 2)))
 (.ret (.pick (.pick (bL (pc ko 1) (pi 1)) (bJ (pc ko 1) (pi 400)) pF) (.pick (aq (pc ko 2) (pi 0)) pT (aq (pc ko 2) (pi 1))) pF))
 (.ite (aq (pc ko 0) (pi 3))
 (.ret (.pick (.pick (bL (pc ko 1) (pc (.mk [r0]) 8)) (bJ (pc ko 1) (pi 100000)) pF) (aq (pc ko 2) (pi 0)) pF))
 (.ret pF))))
def asU (b:Nat→PC):PT×List (Shp×PT):=(WW,[])
theorem af2:G6.map told=some (asU (ax G6)):=by kernel_rfl
theorem aEN:tree Lp=WW:=aK af2
theorem aoB:G6=some Lp:=aC af2
noncomputable def AY:Option PC:=aB {ctx with fr:=[6,8,9,76,92,98],nh:=[]} Tryz.f111 ((ab af 111).getD default) [3,4,7,11]
noncomputable def JW:PC:=aA AY
noncomputable def NM:Nat→PC:=bE AY
def aw3 (b:Nat→PC):PC:=.block 0 [8,9,51,52] [] (.loop [8,9,51] [] (b 0))
def LZ (b:Nat→PC):PT:=
 (.ite (aj lY kW)
 (.chk (av kV lY)
 (.next ⟨[(8,(pc (.setc z9 0 (pn kV lY)) 6)),(9,(.pick r9 pT (.pick (.pick (aq (pc o7 0) (pi 1)) (aq (pc (.setc z9 0 (pn kV lY)) 0) (pi 1)) pF) (aq (pc (.setc z9 0 (pn kV lY)) 1) (pc o7 1)) pF))),(51,(aO lY (pi 1)))],[]⟩))
 (.exit 0 ⟨[(52,(aj lY kW))],[]⟩))
def VF (b:Nat→PC):PT:=
 (.chk (av (pc (.mk [r1]) 15) r2)
 (.call ⟨[],[(7,nQ),(4,(.mk [r1])),(3,(.mk [r0]))]⟩ [] 23 112 [(pc nQ 1),(pi 0),(bD (pc (.mk [r1]) 14) (pi 1))]
 (.ite (.nt jA)
 (.ret (pi 15))
 (.call ⟨[],[]⟩ [] 31 112 [(pc o7 2),(pi 0),LJ]
 (.call ⟨[(33,(.nt qT))],[]⟩ [(33,false)] 40 112 [(pc o7 7),(pi 0),(bD (.llen (pc o3 1)) (pi 1))]
 (.ite (.pick sl pT (.nt nU))
 (.ret (pi 1))
 (.chk (.slok (pc o4 15) (pi 0) r2)
 (.brk ⟨[(51,(pi 0)),(50,(.llen (.slc (pc o4 15) (pi 0) r2))),(49,(.slc (pc o4 15) (pi 0) r2)),(9,pF),(8,(pc o4 8))],[]⟩
(aw3 b)
 (.blockS ⟨[],[]⟩ 2 [6,76,77,78,79,80,81,82,91,92,93,94,95,96,97,98,99] []
 (.call ⟨[],[]⟩ [] 80 112 [(pc o7 6),r8,(pi 100000)]
 (.iteS ⟨[],[]⟩ (.pick (.nt wC) pT (.pick (aq r2 (pi 0)) (aU (pc o7 6) r8) pF)) [6,92,93,94,95,96,97,98,99] []
 (.ret (pi 13))
 (.call ⟨[],[]⟩ [] 96 186 [(au 8 o3),(au 19 o4),r2]
 (.ite (.nt TF)
 (.ret (pi 14))
 (.ite r9
 (.ret (pi 5))
 (.next ⟨[],[]⟩))))
 (.next ⟨[],[]⟩)))
 (.ret (pi 0)))))))))))
def aro (b:Nat→PC):PT×List (Shp×PT):=(VF b,[(.lp 0 [8,9,51,52] [] [8,9,51] [],LZ b)])
theorem Sd:AY.map told=some (aro (ax AY)):=by kernel_rfl
theorem aDq:tree JW=VF NM:=aK Sd
theorem ag8:round 0 [8,9,51,52] [] [8,9,51] [] (NM 0)=LZ NM:=bq Sd 0 fun _=>rfl
theorem anr:AY=some JW:=aC Sd
noncomputable def Gx:Option PC:=aB {ctx with fr:=[6],nh:=[]} Tryz.f112 ((ab af 112).getD default) []
noncomputable def JV:PC:=aA Gx
def VE:PT:=
 (.ret (.pick (bL r0 r1) (bJ r0 r2) pF))
def arn (b:Nat→PC):PT×List (Shp×PT):=(VE,[])
theorem afm:Gx.map told=some (arn (ax Gx)):=by kernel_rfl
theorem aDp:tree JV=VE:=aK afm
theorem anq:Gx=some JV:=aC afm
noncomputable def Gw:Option PC:=aB {ctx with fr:=[6,9,10,66,103,113,11,140,149],nh:=[]} Tryz.f186 ((ab af 186).getD default) [3,4,7,8]
noncomputable def JU:PC:=aA Gw
def VD:PT:=
 (.chk (av (pc (.mk [r1]) 15) r2)
 (.ite (.pick (.cb .neq (aq r2 (pi 0)) (aq (pc nQ 0) (pi 0))) pT (.pick (aU (pc nQ 0) (pi 2)) (aU (pc nQ 4) (pi (-1))) pF))
 (.ret pF)
 (.ite (.pick (.pick (aU (pc nQ 0) (pi 3)) (aU (pc nQ 0) (pi 4)) pF) (aU (pc nQ 3) (pi (-1))) pF)
 (.ret pF)
 (.call ⟨[(9,(.pick (aq (pc nQ 5) (pi 0)) (aq (pc nQ 8) (pi 0)) pF))],[(8,(.setc Fo 0 (au 15 (.mk [r1])))),(7,nQ),(4,(.mk [r1])),(3,(.mk [r0]))]⟩ [] 58 112 [(pc nQ 5),(pi 1),y1]
 (.blockS ⟨[(65,(pc o7 0)),(10,(.pick D3 (aq (pc o7 8) (pi 0)) pF))],[]⟩ 0 [6,66,67,103,104,113,114,140,141,149,150] []
 (.iteS ⟨[],[]⟩ (aq zj (pi 0)) [6,103,104,113,114,140,141,149,150] []
 (.ret (.pick (.pick (.pick (.pick (.pick (aq (pc o7 2) (pc o8 0)) (aq (pc o7 5) (pi 0)) pF) (aq (.ai .or .i64 (pc o7 8) (pi 1)) (pi 1)) pF) (aq (pc o7 1) (pi 0)) pF) (aq (pc o7 6) (pc o8 8)) pF) (aq (pc o7 7) (pc o8 9)) pF))
 (.iteS ⟨[],[]⟩ (aq zj (pi 1)) [6,113,114,140,141,149,150] []
 (.ret (.pick (aq (pc o7 2) (pc o8 1)) cR pF))
 (.iteS ⟨[],[]⟩ (aq zj (pi 2)) [6,140,141,149,150] []
 (.call ⟨[(11,(pi 6))],[]⟩ [] 121 112 [(pc o7 4),(pi (-1)),LJ]
 (.call ⟨[(127,(.pick aA8 (aq (pc o7 5) (pi 0)) pF))],[]⟩ [(127,true)] 130 112 [(pc o7 8),(pi 0),(pi 7)]
 (.ret (.pick (.pick aA9 (.r 130) pF) (aU (.ai .and .i64 (pc o7 8) bu) bu) pF))))
 (.iteS ⟨[],[]⟩ (aq zj (pi 3)) [6,149,150] []
 (.call ⟨[(143,r9)],[]⟩ [(143,true)] 147 226 [(au 19 o4),r2,(.lst [(pi 0),(pi 1),(pi 2),(pi 4)])]
 (.ret (.pick (.r 143) (.r 147) pF)))
 (.iteS ⟨[],[]⟩ (aq zj (pi 4)) [6] []
 (.call ⟨[(159,(.pick cR (aU (pc o7 2) (pc o8 1)) pF))],[]⟩ [(159,true)] 163 226 [(au 19 o4),r2,(.lst [(pi 0),(pi 2)])]
 (.ret (.pick (.r 159) (.r 163) pF)))
 (.next ⟨[],[]⟩)
 (.next ⟨[],[]⟩))
 (.next ⟨[],[]⟩))
 (.next ⟨[],[]⟩))
 (.next ⟨[],[]⟩))
 (.next ⟨[],[]⟩))
 (.ret pF))))))
def arl (b:Nat→PC):PT×List (Shp×PT):=(VD,[])
theorem afl:Gw.map told=some (arl (ax Gw)):=by kernel_rfl
theorem aDo:tree JU=VD:=aK afl
theorem anp:Gw=some JU:=aC afl
noncomputable def Gv:Option PC:=aB {ctx with fr:=[6,7],nh:=[]} Tryz.f226 ((ab af 226).getD default) [3]
noncomputable def JS:PC:=aA Gv
def VB:PT:=
 (.chk (av qL r1)
 (.call ⟨[(7,(pc (pn qL r1) 3))],[(3,(.mk [r0]))]⟩ [] 17 112 [(pc (pn qL r1) 3),(pi 0),(bD r1 (pi 1))]
 (.chk (.nt (.an (.an kp pT) (.nt (av (pc o3 15) r1))))
 (.call ⟨[(18,kp)],[]⟩ [(18,true)] 27 227 [(au 19 o3),r7,(pc (pn (pc o3 15) r1) 1)]
 (.chk (.nt (.an (.an (.pick gQ fh pF) pT) (.nt (av (pc o3 15) r7))))
 (.call ⟨[(29,(.pick gQ fh pF))],[]⟩ [(29,true)] 37 94 [r2,(pc (pn (pc o3 15) r7) 0)]
 (.ret (.pick nT lW pF))))))))
def arj (b:Nat→PC):PT×List (Shp×PT):=(VB,[])
theorem afk:Gv.map told=some (arj (ax Gv)):=by kernel_rfl
theorem aDm:tree JS=VB:=aK afk
theorem ann:Gv=some JS:=aC afk
noncomputable def Gy:Option PC:=aB {ctx with fr:=[6],nh:=[]} Tryz.f227 ((ab af 227).getD default) [3]
noncomputable def JX:PC:=aA Gy
def ML:PT:=
 (.chk (.nt (.an (.an (.nt (aq r1 (pi 0))) pT) (.nt (av qL r1))))
 (.ret (.pick (aq r1 (pi 0)) pT (aq (pc (pn qL r1) 1) r2))))
def arp (b:Nat→PC):PT×List (Shp×PT):=(ML,[])
theorem afn:Gy.map told=some (arp (ax Gy)):=by kernel_rfl
theorem aDr:tree JX=ML:=aK afn
theorem ans:Gy=some JX:=aC afn
noncomputable def AW:Option PC:=aB {ctx with fr:=[4,5,7],nh:=[]} Tryz.f113 ((ab af 113).getD default) [2,3,6]
noncomputable def JR:PC:=aA AW
noncomputable def NK:Nat→PC:=bE AW
def aw1 (b:Nat→PC):PC:=.block 0 [4,11,12] [] (.loop [4,11] [] (b 0))
def LX (b:Nat→PC):PT:=
 (.ite (aj bu cR)
 (.blockS ⟨[],[]⟩ 1 [4,5,6,7,13,14,15,16,17,18,19,20,21,22,23,24,25,26,27,28,29,30,31,32,37,38,39,40,41,42,43,44,45,46,47,48,58,59,69,70,71,72,73] [6]
 (.chk (av r9 bu)
 (.call ⟨[(5,bu)],[(6,(.setc z9 0 (pn r9 bu)))]⟩ [] 22 112 [(pc (.setc z9 0 (pn r9 bu)) 3),(pi 0),(bD (pc o3 14) (pi 1))]
 (.ite (.nt D0)
 (.ret (pi 15))
 (.call ⟨[],[]⟩ [] 30 112 [(pc o6 7),(pi 0),(bD (.llen (pc o2 1)) (pi 1))]
 (.call ⟨[(32,(.nt tU))],[]⟩ [(32,false)] 35 112 [(pc o6 0),(pi 0),(pi 9)]
 (.ite (.pick D1 pT (.nt wA))
 (.ret (pi 1))
 (.call ⟨[],[]⟩ [] 41 187 [(au 8 o2),(au 19 o3),(au 9 o6)]
 (.ite (.nt qU)
 (.ret (pi 14))
 (.ite (aU (pc o6 4) (pi (-1)))
 (.chk (av (pc o3 15) (pc o6 4))
 (.ite (be r5 (pi 0))
 (.chk (av (pc o3 17) y8)
 (.call ⟨[],[]⟩ [] 72 112 [(pc o6 6),(.mx (.mx (pc o3 8) (pc (pn (pc o3 15) (pc o6 4)) 6)) (pc (pn (pc o3 17) y8) 6)),(pi 100000)]
 (.ite (.nt tY)
 (.ret (pi 13))
 (.next ⟨[],[]⟩))))
 (.call ⟨[],[]⟩ [] 72 112 [(pc o6 6),(.mx (pc o3 8) (pc (pn (pc o3 15) (pc o6 4)) 6)),(pi 100000)]
 (.ite (.nt tY)
 (.ret (pi 13))
 (.next ⟨[],[]⟩)))))
 (.ite (be r5 (pi 0))
 (.chk (av (pc o3 17) y8)
 (.call ⟨[],[]⟩ [] 72 112 [(pc o6 6),(.mx (pc o3 8) (pc (pn (pc o3 17) y8) 6)),(pi 100000)]
 (.ite (.nt tY)
 (.ret (pi 13))
 (.next ⟨[],[]⟩))))
 (.call ⟨[],[]⟩ [] 72 112 [(pc o6 6),(pc o3 8),(pi 100000)]
 (.ite (.nt tY)
 (.ret (pi 13))
 (.next ⟨[],[]⟩)))))))))))))
 (.next ⟨[(11,(aO bu (pi 1)))],[]⟩))
 (.exit 0 ⟨[(12,(aj bu cR))],[]⟩))
def VA (b:Nat→PC):PT:=
 (.brk ⟨[(11,(pi 0)),(10,(.llen (pc (.mk [r1]) 17))),(9,(pc (.mk [r1]) 17)),(4,(pi 0))],[(3,(.mk [r1])),(2,(.mk [r0]))]⟩
(aw1 b)
 (.ret (pi 0)))
def ari (b:Nat→PC):PT×List (Shp×PT):=(VA b,[(.lp 0 [4,11,12] [] [4,11] [],LX b)])
theorem Sb:AW.map told=some (ari (ax AW)):=by kernel_rfl
theorem aDl:tree JR=VA NK:=aK Sb
theorem ag6:round 0 [4,11,12] [] [4,11] [] (NK 0)=LX NK:=bq Sb 0 fun _=>rfl
theorem anm:AW=some JR:=aC Sb
noncomputable def Gu:Option PC:=aB {ctx with fr:=[6,7,8,9,65,80,100,111],nh:=[]} Tryz.f187 ((ab af 187).getD default) [3,4,5]
noncomputable def JQ:PC:=aA Gu
def Vz:PT:=
 (.call ⟨[],[(5,(.mk [r2])),(4,(.mk [r1])),(3,(.mk [r0]))]⟩ [] 16 112 [(pc (.mk [r2]) 4),(pi 0),(bD (.llen (pc (.mk [r1]) 15)) (pi 1))]
 (.call ⟨[(17,dJ)],[]⟩ [(17,true)] 23 227 [(au 19 o4),(pc o5 4),(pc o5 3)]
 (.chk (.nt (.an (.an (.pick kp jA pF) pT) (.nt (av (pc o4 15) (pc o5 4)))))
 (.call ⟨[(8,(.pick (.pick kp jA pF) (aq (pc (pn (pc o4 15) (pc o5 4)) 2) (pc o5 1)) pF)),(7,(.pick kp jA pF))],[]⟩ [] 44 112 [(pc o5 2),(pi 0),LJ]
 (.call ⟨[(9,tV)],[]⟩ [] 51 112 [(pc o5 1),(pi 0),LJ]
 (.ite (.pick (.nt lY) pT (.pick (aU (pc o5 0) (pi 4)) (aU (pc o5 8) (pi 0)) pF))
 (.ret pF)
 (.blockS ⟨[(64,(pc o5 0))],[]⟩ 0 [6,65,66,80,81,100,101,111,112] []
 (.iteS ⟨[],[]⟩ (.pick (aq ku (pi 0)) (aq ku (pi 0)) (.pick (aq ku (pi 1)) (aq ku (pi 1)) (aq ku (pi 2)))) [6,80,81,100,101,111,112] []
 (.ret (.pick (.pick r9 (aq (pc o5 4) (pi (-1))) pF) (aq (pc o5 5) (pi 0)) pF))
 (.iteS ⟨[],[]⟩ (.pick (aq ku (pi 3)) (aq ku (pi 3)) (.pick (aq ku (pi 5)) (aq ku (pi 5)) (aq ku (pi 4)))) [6,100,101,111,112] []
 (.call ⟨[(90,(.pick r9 (aq (pc o5 4) (pi (-1))) pF))],[]⟩ [(90,true)] 93 112 [(pc o5 5),(pi 0),y1]
 (.call ⟨[(95,(.pick TD zn pF))],[]⟩ [(95,true)] 98 112 [(pc o5 8),(pi 0),(pi 1)]
 (.ret (.pick TE TG pF))))
 (.iteS ⟨[],[]⟩ (aq ku (pi 6)) [6,111,112] []
 (.call ⟨[(106,(.pick r9 r8 pF))],[]⟩ [(106,true)] 109 112 [(pc o5 5),(pi 1),y1]
 (.ret (.pick DX aA7 pF)))
 (.ite (aq ku (pi 9))
 (.ret (.pick (.pick (aq (pc o5 2) (pi (-1))) r8 pF) (aq (pc o5 5) (pi 0)) pF))
 (.next ⟨[],[]⟩))
 (.next ⟨[],[]⟩))
 (.next ⟨[],[]⟩))
 (.next ⟨[],[]⟩))
 (.ret (.pick (.pick (aq (pc o5 2) (pi (-1))) r7 pF) (aq (pc o5 5) (pi 0)) pF)))))))))
def arh (b:Nat→PC):PT×List (Shp×PT):=(Vz,[])
theorem afj:Gu.map told=some (arh (ax Gu)):=by kernel_rfl
theorem aDk:tree JQ=Vz:=aK afj
theorem anl:Gu=some JQ:=aC afj
noncomputable def AX:Option PC:=aB {ctx with fr:=[2,3],nh:=[]} Tryz.f114 ((ab af 114).getD default) [1,4,5]
noncomputable def JT:PC:=aA AX
noncomputable def NL:Nat→PC:=bE AX
def aw2 (b:Nat→PC):PC:=.block 0 [2,9,10] [] (.loop [2,9] [] (b 0))
def LY (b:Nat→PC):PT:=
 (.ite (aj r9 r8)
 (.blockS ⟨[],[]⟩ 1 [2,3,4,11,12,13,14,15,16,17,18,27,28,33,34,35] [4]
 (.chk (av r7 r9)
 (.call ⟨[(3,r9)],[(4,(.setc z3 0 (pn r7 r9)))]⟩ [] 16 112 [(pc (.setc z3 0 (pn r7 r9)) 0),(pi 0),(pi 4)]
 (.call ⟨[(18,(.nt dJ))],[]⟩ [(18,false)] 25 112 [(pc o4 1),(pi 0),(bD (.llen (pc o1 15)) (pi 1))]
 (.call ⟨[(28,(.pick gQ pT (.nt gR)))],[]⟩ [(28,false)] 31 112 [(pc o4 2),(pi 0),(pi 1)]
 (.ite (.pick qQ pT (.nt qT))
 (.ret (pi 1))
 (.ite (aq r3 (pi 0))
 (.exit 1 ⟨[],[]⟩)
 (.chk (av (pc o1 18) tT)
 (.call ⟨[],[(5,(.setc z3 0 (pn (pc o1 18) tT)))]⟩ [] 46 189 [(pc (.setc z3 0 (pn (pc o1 18) tT)) 1),(pc o4 1)]
 (.call ⟨[],[]⟩ [] 51 189 [(pc o5 0),(pc o4 0)]
 (.call ⟨[],[]⟩ [] 53 188 [(.lst [tW,lY])]
 (.ite (bL r53 (pi 0))
 (.ret (pi 5))
 (.next ⟨[],[]⟩))))))))))))
 (.next ⟨[(9,(aO r9 (pi 1)))],[]⟩))
 (.exit 0 ⟨[(10,(aj r9 r8))],[]⟩))
def VC (b:Nat→PC):PT:=
 (.brk ⟨[(9,(pi 0)),(8,(.llen (pc (.mk [r0]) 18))),(7,(pc (.mk [r0]) 18)),(2,(pi 0))],[(1,(.mk [r0]))]⟩
(aw2 b)
 (.ret (pi 0)))
def ark (b:Nat→PC):PT×List (Shp×PT):=(VC b,[(.lp 0 [2,9,10] [] [2,9] [],LY b)])
theorem Sc:AX.map told=some (ark (ax AX)):=by kernel_rfl
theorem aDn:tree JT=VC NL:=aK Sc
theorem ag7:round 0 [2,9,10] [] [2,9] [] (NL 0)=LY NL:=bq Sc 0 fun _=>rfl
theorem ano:AX=some JT:=aC Sc
noncomputable def Gg:Option PC:=aB {ctx with fr:=[4,5,6],nh:=[]} Tryz.f189 ((ab af 189).getD default) []
noncomputable def Jx:PC:=aA Gg
def Vh:PT:=
 (.call ⟨[],[]⟩ [] 8 228 [r0]
 (.call ⟨[(5,r8)],[]⟩ [] 10 228 [r1]
 (.ite r5
 (.ite cR
 (.ret (pi 0))
 (.ret (pi (-1))))
 (.ite cR
 (.ret (pi 1))
 (.ite (aj r0 r1)
 (.ret (pi (-1)))
 (.ite (be r0 r1)
 (.ret (pi 1))
 (.ret (pi 0))))))))
def aqU (b:Nat→PC):PT×List (Shp×PT):=(Vh,[])
theorem ae5:Gg.map told=some (aqU (ax Gg)):=by kernel_rfl
theorem aCX:tree Jx=Vh:=aK ae5
theorem am3:Gg=some Jx:=aC ae5
noncomputable def AN:Option PC:=aB {ctx with fr:=[2,3,5],nh:=[]} Tryz.f188 ((ab af 188).getD default) []
noncomputable def Jy:PC:=aA AN
noncomputable def NG:Nat→PC:=bE AN
def awV (b:Nat→PC):PC:=.block 0 [2,8,9] [] (.loop [2,8] [] (b 0))
def D7 (b:Nat→PC):PT:=
 (.ite (aj r8 r7)
 (.chk (av r6 r8)
 (.ite (aU (pn r6 r8) r3)
 (.ret (pn r6 r8))
 (.next ⟨[(8,sf)],[]⟩)))
 (.exit 0 ⟨[(9,(aj r8 r7))],[]⟩))
def Vi (b:Nat→PC):PT:=
 (.brk ⟨[(8,(pi 0)),(7,(.llen r0)),(6,r0),(3,(pi 0)),(2,(pi 0))],[]⟩
(awV b)
 (.ret r3))
def aqW (b:Nat→PC):PT×List (Shp×PT):=(Vi b,[(.lp 0 [2,8,9] [] [2,8] [],D7 b)])
theorem R7:AN.map told=some (aqW (ax AN)):=by kernel_rfl
theorem aCZ:tree Jy=Vi NG:=aK R7
theorem TI:round 0 [2,8,9] [] [2,8] [] (NG 0)=D7 NG:=bq R7 0 fun _=>rfl
theorem am5:AN=some Jy:=aC R7
noncomputable def AQ:Option PC:=aB {ctx with fr:=[5],nh:=[]} Tryz.f47 ((ab af 47).getD default) [2,4,6]
noncomputable def JG:PC:=aA AQ
noncomputable def NJ:Nat→PC:=bE AQ
def awY (b:Nat→PC):PC:=.block 0 [5,7,8,9,10] [2] (.loop [5] [2] (b 0))
def LW (b:Nat→PC):PT:=
 (.ite (aj r5 (.llen r1))
 (.blockS ⟨[],[]⟩ 1 [6,13,14,15,16,17,18,19,20,24,25,29,30,37,38,42,43,47] [6,2]
 (.chk (av r1 r5)
 (.iteS ⟨[],[(6,wq)]⟩ (.pick (.pick (.pick (.pick (.pick (bL (pc wq 0) (pi 0)) (aj (pc wq 0) (pi 5)) pF) (bL (pc wq 1) (pi 0)) pF) (aj (pc wq 1) (.llen (pc o2 15))) pF) (bL (pc wq 2) (pi 0)) pF) (bJ (pc wq 2) (pi 1)) pF) [] [2]
 (.call ⟨[],[]⟩ [] 50 119 [(au 19 o2),(.mk [(pc o6 0),(pc o6 1),(pc o6 2)])]
 (.next ⟨[],[(2,(.setc o2 0 kW))]⟩))
 (.next ⟨[],[]⟩)
 (.next ⟨[],[]⟩)))
 (.next ⟨[(5,pG)],[]⟩))
 (.exit 0 ⟨[(7,r5),(8,r1),(9,(.llen r1)),(10,(aj r5 (.llen r1)))],[]⟩))
def Vp (b:Nat→PC):PT:=
 (.brk ⟨[(5,(pi 0))],[(4,y0),(2,(.mk [r0]))]⟩
(awY b)
 (.ret (au 19 (.setc o4 0 (au 19 o2)))))
def aq4 (b:Nat→PC):PT×List (Shp×PT):=(Vp b,[(.lp 0 [5,7,8,9,10] [2] [5] [2],LW b)])
theorem Sa:AQ.map told=some (aq4 (ax AQ)):=by kernel_rfl
theorem aC8:tree JG=Vp NJ:=aK Sa
theorem ag5:round 0 [5,7,8,9,10] [2] [5] [2] (NJ 0)=LW NJ:=bq Sa 0 fun _=>rfl
theorem ane:AQ=some JG:=aC Sa
noncomputable def Bb:Option PC:=aB {ctx with fr:=[6,8],nh:=[]} Tryz.f119 ((ab af 119).getD default) [2,77826,3,4,5,7,9]
noncomputable def Kf:PC:=aA Bb
noncomputable def Av:Nat→PC:=bE Bb
def axm (b:Nat→PC):PC:=.block 0 [5,6,18,19,20,21,22] [5] (.loop [5,6] [5] (b 0))
def axn (b:Nat→PC):PC:=.block 2 [5,8,57,58,59,60,61] [5] (.loop [5,8] [5] (b 1))
def zr (b:Nat→PC):PT:=
 (.ite (aj r6 wu)
 (.chk (av (pc o2 18) r6)
 (.ite (.pick (aj (pc ze 1) (pc o3 1)) pT (.pick (aq (pc ze 1) (pc o3 1)) (aj (pc ze 0) (pc o3 0)) pF))
 (.chk (bJ (.llen agw) cK)
 (.next ⟨[(5,pN),(6,(aO r6 (pi 1)))],[(5,agw)]⟩))
 (.next ⟨[(6,(aO r6 (pi 1)))],[]⟩)))
 (.exit 0 ⟨[(18,r6),(19,pN),(20,(pc o2 18)),(21,wu),(22,(aj r6 wu))],[]⟩))
def zt (b:Nat→PC):PT:=
 (.ite (aj r8 wu)
 (.chk (av (pc o2 18) r8)
 (.ite (.pick (be (pc zd 1) (pc o3 1)) pT (.pick (aq (pc zd 1) (pc o3 1)) (be (pc zd 0) (pc o3 0)) pF))
 (.chk (bJ (.llen agx) cK)
 (.next ⟨[(5,pN),(8,sf)],[(5,agx)]⟩))
 (.next ⟨[(8,sf)],[]⟩)))
 (.exit 2 ⟨[(57,r8),(58,pN),(59,(pc o2 18)),(60,wu),(61,(aj r8 wu))],[]⟩))
def VX (b:Nat→PC):PT:=
 (.call ⟨[],[(4,y0),(3,(.mk [r1])),(2,(.mk [r0]))]⟩ [] 15 200 [(au 19 (.mk [r0])),y4,y3]
 (.ite (pc gP 0)
 (.ret (au 19 (.setc o4 0 (au 19 o2))))
 (.brk ⟨[(6,(pi 0)),(5,pN)],[(5,pL)]⟩
(axm b)
 (.chk (bJ (.llen (.app o5 (.lst [(.mk [(pc o3 0),(pc o3 1),(pc o3 2)])]))) cK)
 (.brk ⟨[(8,(pi 0)),(5,pN)],[(5,(.app o5 (.lst [(.mk [(pc o3 0),(pc o3 1),(pc o3 2)])])))]⟩
(axn b)
 (.ret (au 19 (.setc o4 0 (.mk [(pc jz 0),(pc jz 1),(pc jz 2),(pc jz 3),(pc jz 4),(pc jz 5),(pc jz 6),(pc jz 7),(pc jz 8),(pc jz 9),(pc jz 10),(pc jz 11),(pc jz 12),(pc jz 13),(pc jz 14),(pc jz 15),(pc jz 16),(pc jz 17),o5])))))))))
def arJ (b:Nat→PC):PT×List (Shp×PT):=(VX b,[(.lp 0 [5,6,18,19,20,21,22] [5] [5,6] [5],zr b),(.lp 2 [5,8,57,58,59,60,61] [5] [5,8] [5],zt b)])
theorem I0:Bb.map told=some (arJ (ax Bb)):=by kernel_rfl
theorem aDJ:tree Kf=VX Av:=aK I0
theorem L4:round 0 [5,6,18,19,20,21,22] [5] [5,6] [5] (Av 0)=zr Av:=bq I0 0 fun _=>rfl
theorem L5:round 2 [5,8,57,58,59,60,61] [5] [5,8] [5] (Av 1)=zt Av:=bq I0 1 fun _=>rfl
theorem anL:Bb=some Kf:=aC I0
noncomputable def Ba:Option PC:=aB {ctx with fr:=[7],nh:=[]} Tryz.f200 ((ab af 200).getD default) [3,6]
noncomputable def Kd:PC:=aA Ba
noncomputable def NS:Nat→PC:=bE Ba
def axl (b:Nat→PC):PC:=.block 0 [7,8,9,10,11,12] [6] (.loop [7] [6] (b 0))
def zq (b:Nat→PC):PT:=
 (.ite (aj r7 (.llen (pc o3 18)))
 (.chk (av (pc o3 18) r7)
 (.chk (.nt (.an (.an (aq (pc (pn (pc o3 18) r7) 0) r1) pT) (.nt (av (pc o3 18) r7))))
 (.ite (.pick (aq (pc (pn (pc o3 18) r7) 0) r1) (aq (pc (pn (pc o3 18) r7) 1) r2) pF)
 (.ite (aq (pc (pn (pc o3 18) r7) 2) (pi 0))
 (.ret (.mk [(pc (.setc o6 0 (.mk [pT,(pi 0)])) 0),(pc (.setc o6 0 (.mk [pT,(pi 0)])) 1)]))
 (.ret (.mk [(pc (.setc o6 0 (.mk [pT,(pi 1)])) 0),(pc (.setc o6 0 (.mk [pT,(pi 1)])) 1)])))
 (.next ⟨[(7,(aO r7 (pi 1)))],[]⟩))))
 (.exit 0 ⟨[(8,r7),(9,pN),(10,(pc o3 18)),(11,(.llen (pc o3 18))),(12,(aj r7 (.llen (pc o3 18))))],[]⟩))
def VV (b:Nat→PC):PT:=
 (.brk ⟨[(7,(pi 0))],[(6,fg),(3,(.mk [r0]))]⟩
(axl b)
 (.ret To))
def arG (b:Nat→PC):PT×List (Shp×PT):=(VV b,[(.lp 0 [7,8,9,10,11,12] [6] [7] [6],zq b)])
theorem Sk:Ba.map told=some (arG (ax Ba)):=by kernel_rfl
theorem aDH:tree Kd=VV NS:=aK Sk
theorem L3:round 0 [7,8,9,10,11,12] [6] [7] [6] (NS 0)=zq NS:=bq Sk 0 fun _=>rfl
theorem anJ:Ba=some Kd:=aC Sk
noncomputable def F4:Option PC:=aB {ctx with fr:=[6],nh:=[]} Tryz.f85 ⟨[Y8,I,ls],.slice I,.dat⟩ [3,5,7,8,42,9]
noncomputable def SQ:PC:=aA F4
def U9:PT:=
 (.chk (av (pc (.mk [r2]) 15) (pc (.mk [r2]) 19))
 (.ite agA
 (.ret pL)
 (.chk (.an (bL (pi 5) (pi 0)) (bJ (pi 5) cK))
 (.chk (aq (pi 5) (pi 5))
 (.chk (av (.rep (pi 5) (pi 0)) (pi 0))
 (.call ⟨[],[(9,(.setn (.rep (pi 5) (pi 0)) (pi 0) 0 r1)),(8,(.setc Fo 0 (au 15 (.mk [r2])))),(7,zb),(3,(.mk [r0]))]⟩ [] 50 32 [km,(pc zb 7)]
 (.chk (av o9 (pi 1))
 (.call ⟨[],[(9,(.setn o9 (pi 1) 0 kW))]⟩ [] 56 32 [(au 8 o3),(pc o8 10)]
 (.chk (av o9 (pi 2))
 (.call ⟨[],[(9,(.setn o9 (pi 2) 0 lZ))]⟩ [] 62 32 [(au 8 o3),(pc o8 9)]
 (.chk (av o9 (pi 3))
 (.chk (av (pc o3 3) (pc o7 2))
 (.call ⟨[],[(9,(.setn o9 (pi 3) 0 mV))]⟩ [] 73 32 [(au 8 o3),(pc (pn (pc o3 3) (pc o7 2)) 1)]
 (.chk (av o9 (pi 4))
 (.call ⟨[],[(9,(.setn o9 (pi 4) 0 D5))]⟩ [] 76 94 [(.setn o9 (pi 4) 0 D5),(pi (-1))]
 (.ite pM
 (.ret pL)
 (.ret o9)))))))))))))))))
def aqE (b:Nat→PC):PT×List (Shp×PT):=(U9,[])
theorem aeU:F4.map told=some (aqE (ax F4)):=by kernel_rfl
theorem aCK:tree SQ=U9:=aK aeU
theorem amP:F4=some SQ:=aC aeU
noncomputable def F5:Option PC:=aB {ctx with fr:=[6],nh:=[]} Tryz.f85 ⟨[Y8,I,ls],.nils .bool,.dat⟩ [3,5,7,8,42,9]
noncomputable def SR:PC:=aA F5
def MG:PT:=
 (.chk (av (pc (.mk [r2]) 15) (pc (.mk [r2]) 19))
 (.ite agA
 (.ret pL)
 (.chk (.an (bL (pi 5) (pi 0)) (bJ (pi 5) cK))
 (.chk (aq (pi 5) (pi 5))
 (.chk (av (.rep (pi 5) (pi 0)) (pi 0))
 (.call ⟨[],[(9,(.setn (.rep (pi 5) (pi 0)) (pi 0) 0 r1)),(8,(.setc Fo 0 (au 15 (.mk [r2])))),(7,zb),(3,(.mk [r0]))]⟩ [] 50 32 [km,(pc zb 7)]
 (.chk (av o9 (pi 1))
 (.call ⟨[],[(9,(.setn o9 (pi 1) 0 kW))]⟩ [] 56 32 [(au 8 o3),(pc o8 10)]
 (.chk (av o9 (pi 2))
 (.call ⟨[],[(9,(.setn o9 (pi 2) 0 lZ))]⟩ [] 62 32 [(au 8 o3),(pc o8 9)]
 (.chk (av o9 (pi 3))
 (.chk (av (pc o3 3) (pc o7 2))
 (.call ⟨[],[(9,(.setn o9 (pi 3) 0 mV))]⟩ [] 73 32 [(au 8 o3),(pc (pn (pc o3 3) (pc o7 2)) 1)]
 (.chk (av o9 (pi 4))
 (.call ⟨[],[]⟩ [] 76 94 [(.setn o9 (pi 4) 0 D5),(pi (-1))]
 (.ite pM
 (.ret pL)
 (.chk pF
 (.next ⟨[],[]⟩))))))))))))))))))
def aqF (b:Nat→PC):PT×List (Shp×PT):=(MG,[])
theorem aeV:F5.map told=some (aqF (ax F5)):=by kernel_rfl
theorem aCL:tree SR=MG:=aK aeV
theorem amQ:F5=some SR:=aC aeV
end Rm
namespace Rm
open Go Go.Proofs Cx
def SP:List Nat:=[9,26,79,81,80,28,83,84,30,86,31,88,87,164,32,91,89,90,97,94,167,33,92,166,165,216,93,35,95,169,168,170,217,218,260,264,262,261,96,171,219,263,220,265,286,298,221,49,46,48,82,163,215,139,207,255,256,206,246,252,228,140,34,29,41,50,109,182,108,54,129,130,204,244,245,279,131,132,133,205,134,135,136,137,138,177,178,179,180,223,267,120,201,288,299,287,185,181,224,225,268,121,27,53,58,127,128,203,243,62,145,208,257,285,258,209,210,259,146,147,211,148,149,42,110,183,184,111,112,186,226,227,113,187,114,189,188,47,119,200]
noncomputable def DG:List (Nat×PC):=[(9,JE),(26,JK),(79,JJ),(81,JI),(80,JF),(28,Je),(83,Jl),(84,Jm),(30,KF),(86,KL),(31,KI),(88,KJ),(87,KN),(164,KR),(32,Ks),(91,Kw),(89,KK),(90,KG),(97,JM),(94,KP),(167,KU),(33,JA),(92,JC),(166,JD),(165,KO),(216,KT),(93,JB),(35,JL),(95,JN),(169,JO),(168,KS),(170,K7),(217,Li),(218,Lb),(260,Lf),(264,Ld),(262,K9),(261,Ll),(96,K8),(171,Lg),(219,Lh),(263,Lm),(220,Lc),(265,La),(286,Lj),(298,Jn),(221,KM),(49,Kl),(46,Jk),(48,Ji),(82,Jh),(163,SV),(215,S5),(139,SX),(207,SS),(255,agi),(256,SU),(206,SZ),(246,SY),(252,agj),(228,Jz),(140,SW),(34,Kh),(29,Jj),(41,Jg),(50,Jf),(109,KH),(182,KW),(108,KX),(54,Km),(129,KA),(130,Kv),(204,Kz),(244,Ky),(245,KQ),(279,KV),(131,Ko),(132,Kp),(133,Ku),(205,KD),(134,Kq),(135,Kr),(136,KB),(137,KE),(138,KC),(177,K1),(178,K4),(179,KY),(180,K0),(223,KZ),(267,Jo),(120,Jw),(201,Jr),(288,Jt),(299,Ju),(287,Jp),(185,Kt),(181,K5),(224,K6),(225,Jq),(268,Js),(121,Jv),(27,JH),(53,Kk),(58,J0),(127,Ke),(128,Kj),(203,Kg),(243,Ki),(62,JZ),(145,J7),(208,J9),(257,J2),(285,J1),(258,JY),(209,J3),(210,J6),(259,J5),(146,J8),(147,Ka),(211,J4),(148,Kc),(149,Kb),(42,JP),(110,Ln),(183,Lo),(184,Lp),(111,JW),(112,JV),(186,JU),(226,JS),(227,JX),(113,JR),(187,JQ),(114,JT),(189,Jx),(188,Jy),(47,JG),(119,Kf),(200,Kd)]
noncomputable def tab:Nat→Option PC:=ab DG
theorem agh:DG.map (·.1)=SP:=by kernel_rfl
theorem aF:(DG.map (·.1)).Nodup:=by rw[agh];exact mQ (by kernel_rfl)
theorem aky:tab adl=some JE:=aE aF (k:=0) (by kernel_rfl)
theorem akE:tab adr=some JK:=aE aF (k:=1) (by kernel_rfl)
theorem akD:tab adq=some JJ:=aE aF (k:=2) (by kernel_rfl)
theorem akC:tab adp=some JI:=aE aF (k:=3) (by kernel_rfl)
theorem akz:tab adm=some JF:=aE aF (k:=4) (by kernel_rfl)
theorem aj9:tab acS=some Je:=aE aF (k:=5) (by kernel_rfl)
theorem akg:tab acZ=some Jl:=aE aF (k:=6) (by kernel_rfl)
theorem akh:tab ac0=some Jm:=aE aF (k:=7) (by kernel_rfl)
theorem alw:tab ad7=some KF:=aE aF (k:=8) (by kernel_rfl)
theorem alC:tab aed=some KL:=aE aF (k:=9) (by kernel_rfl)
theorem alz:tab aea=some KI:=aE aF (k:=10) (by kernel_rfl)
theorem alA:tab aeb=some KJ:=aE aF (k:=11) (by kernel_rfl)
theorem alE:tab aef=some KN:=aE aF (k:=12) (by kernel_rfl)
theorem alH:tab aei=some KR:=aE aF (k:=13) (by kernel_rfl)
theorem ali:tab adW=some Ks:=aE aF (k:=14) (by kernel_rfl)
theorem aln:tab adZ=some Kw:=aE aF (k:=15) (by kernel_rfl)
theorem alB:tab aec=some KK:=aE aF (k:=16) (by kernel_rfl)
theorem alx:tab ad8=some KG:=aE aF (k:=17) (by kernel_rfl)
theorem Yh:tab RB=some JM:=aE aF (k:=18) (by kernel_rfl)
theorem Ym:tab RM=some KP:=aE aF (k:=19) (by kernel_rfl)
theorem Yo:tab RO=some KU:=aE aF (k:=20) (by kernel_rfl)
theorem aku:tab adi=some JA:=aE aF (k:=21) (by kernel_rfl)
theorem akw:tab adk=some JC:=aE aF (k:=22) (by kernel_rfl)
theorem akx:tab Rz=some JD:=aE aF (k:=23) (by kernel_rfl)
theorem alF:tab aeg=some KO:=aE aF (k:=24) (by kernel_rfl)
theorem alI:tab aej=some KT:=aE aF (k:=25) (by kernel_rfl)
theorem akv:tab adj=some JB:=aE aF (k:=26) (by kernel_rfl)
theorem akF:tab ads=some JL:=aE aF (k:=27) (by kernel_rfl)
theorem Yi:tab RC=some JN:=aE aF (k:=28) (by kernel_rfl)
theorem Yj:tab II=some JO:=aE aF (k:=29) (by kernel_rfl)
theorem Yn:tab RN=some KS:=aE aF (k:=30) (by kernel_rfl)
theorem Yq:tab RR=some K7:=aE aF (k:=31) (by kernel_rfl)
theorem Nt:tab RX=some Li:=aE aF (k:=32) (by kernel_rfl)
theorem Ys:tab RT=some Lb:=aE aF (k:=33) (by kernel_rfl)
theorem Yu:tab RV=some Lf:=aE aF (k:=34) (by kernel_rfl)
theorem alW:tab aew=some Ld:=aE aF (k:=35) (by kernel_rfl)
theorem Yr:tab RS=some K9:=aE aF (k:=36) (by kernel_rfl)
theorem Yx:tab RY=some Ll:=aE aF (k:=37) (by kernel_rfl)
theorem alT:tab aet=some K8:=aE aF (k:=38) (by kernel_rfl)
theorem Yv:tab IL=some Lg:=aE aF (k:=39) (by kernel_rfl)
theorem Yw:tab RW=some Lh:=aE aF (k:=40) (by kernel_rfl)
theorem Yy:tab RZ=some Lm:=aE aF (k:=41) (by kernel_rfl)
theorem Yt:tab RU=some Lc:=aE aF (k:=42) (by kernel_rfl)
theorem alV:tab aev=some La:=aE aF (k:=43) (by kernel_rfl)
theorem alX:tab aex=some Lj:=aE aF (k:=44) (by kernel_rfl)
theorem akk:tab ac3=some Jn:=aE aF (k:=45) (by kernel_rfl)
theorem Yl:tab RL=some KM:=aE aF (k:=46) (by kernel_rfl)
theorem alc:tab adU=some Kl:=aE aF (k:=47) (by kernel_rfl)
theorem akf:tab acY=some Jk:=aE aF (k:=48) (by kernel_rfl)
theorem akd:tab acW=some Ji:=aE aF (k:=49) (by kernel_rfl)
theorem akc:tab acV=some Jh:=aE aF (k:=50) (by kernel_rfl)
theorem akG:tab RA=some SV:=aE aF (k:=51) (by kernel_rfl)
theorem alU:tab aeu=some S5:=aE aF (k:=52) (by kernel_rfl)
theorem alL:tab aem=some SX:=aE aF (k:=53) (by kernel_rfl)
theorem aki:tab ac1=some SS:=aE aF (k:=54) (by kernel_rfl)
theorem akj:tab ac2=some SU:=aE aF (k:=56) (by kernel_rfl)
theorem alN:tab aeo=some SZ:=aE aF (k:=57) (by kernel_rfl)
theorem alM:tab aen=some SY:=aE aF (k:=58) (by kernel_rfl)
theorem akt:tab adh=some Jz:=aE aF (k:=60) (by kernel_rfl)
theorem alD:tab aee=some SW:=aE aF (k:=61) (by kernel_rfl)
theorem ak9:tab adQ=some Kh:=aE aF (k:=62) (by kernel_rfl)
theorem ake:tab acX=some Jj:=aE aF (k:=63) (by kernel_rfl)
theorem akb:tab acU=some Jg:=aE aF (k:=64) (by kernel_rfl)
theorem aka:tab acT=some Jf:=aE aF (k:=65) (by kernel_rfl)
theorem aly:tab ad9=some KH:=aE aF (k:=66) (by kernel_rfl)
theorem alK:tab ael=some KW:=aE aF (k:=67) (by kernel_rfl)
theorem Yp:tab IJ=some KX:=aE aF (k:=68) (by kernel_rfl)
theorem ald:tab adV=some Km:=aE aF (k:=69) (by kernel_rfl)
theorem alq:tab ad2=some KA:=aE aF (k:=70) (by kernel_rfl)
theorem alm:tab adY=some Kv:=aE aF (k:=71) (by kernel_rfl)
theorem alp:tab ad1=some Kz:=aE aF (k:=72) (by kernel_rfl)
theorem alo:tab ad0=some Ky:=aE aF (k:=73) (by kernel_rfl)
theorem alG:tab aeh=some KQ:=aE aF (k:=74) (by kernel_rfl)
theorem alJ:tab aek=some KV:=aE aF (k:=75) (by kernel_rfl)
theorem ale:tab RG=some Ko:=aE aF (k:=76) (by kernel_rfl)
theorem alf:tab RH=some Kp:=aE aF (k:=77) (by kernel_rfl)
theorem alk:tab adX=some Ku:=aE aF (k:=78) (by kernel_rfl)
theorem alu:tab ad5=some KD:=aE aF (k:=79) (by kernel_rfl)
theorem alg:tab RI=some Kq:=aE aF (k:=80) (by kernel_rfl)
theorem alh:tab RJ=some Kr:=aE aF (k:=81) (by kernel_rfl)
theorem alr:tab ad3=some KB:=aE aF (k:=82) (by kernel_rfl)
theorem alv:tab ad6=some KE:=aE aF (k:=83) (by kernel_rfl)
theorem als:tab ad4=some KC:=aE aF (k:=84) (by kernel_rfl)
theorem alP:tab aer=some K1:=aE aF (k:=85) (by kernel_rfl)
theorem alQ:tab RP=some K4:=aE aF (k:=86) (by kernel_rfl)
theorem alO:tab aep=some KY:=aE aF (k:=87) (by kernel_rfl)
theorem xm:tab IK=some K0:=aE aF (k:=88) (by kernel_rfl)
theorem FL:tab aeq=some KZ:=aE aF (k:=89) (by kernel_rfl)
theorem Yf:tab ac4=some Jo:=aE aF (k:=90) (by kernel_rfl)
theorem akq:tab ade=some Jw:=aE aF (k:=91) (by kernel_rfl)
theorem akm:tab ac7=some Jr:=aE aF (k:=92) (by kernel_rfl)
theorem ako:tab ada=some Jt:=aE aF (k:=93) (by kernel_rfl)
theorem Yg:tab Ry=some Ju:=aE aF (k:=94) (by kernel_rfl)
theorem FK:tab ac5=some Jp:=aE aF (k:=95) (by kernel_rfl)
theorem alj:tab RK=some Kt:=aE aF (k:=96) (by kernel_rfl)
theorem alR:tab RQ=some K5:=aE aF (k:=97) (by kernel_rfl)
theorem alS:tab aes=some K6:=aE aF (k:=98) (by kernel_rfl)
theorem akl:tab ac6=some Jq:=aE aF (k:=99) (by kernel_rfl)
theorem akn:tab ac8=some Js:=aE aF (k:=100) (by kernel_rfl)
theorem akp:tab adb=some Jv:=aE aF (k:=101) (by kernel_rfl)
theorem akB:tab ado=some JH:=aE aF (k:=102) (by kernel_rfl)
theorem alb:tab adT=some Kk:=aE aF (k:=103) (by kernel_rfl)
theorem akS:tab adC=some J0:=aE aF (k:=104) (by kernel_rfl)
theorem ak6:tab adN=some Ke:=aE aF (k:=105) (by kernel_rfl)
theorem ala:tab adS=some Kj:=aE aF (k:=106) (by kernel_rfl)
theorem ak8:tab adP=some Kg:=aE aF (k:=107) (by kernel_rfl)
theorem Yk:tab adR=some Ki:=aE aF (k:=108) (by kernel_rfl)
theorem akR:tab adB=some JZ:=aE aF (k:=109) (by kernel_rfl)
theorem akZ:tab adH=some J7:=aE aF (k:=110) (by kernel_rfl)
theorem ak1:tab Dw=some J9:=aE aF (k:=111) (by kernel_rfl)
theorem akU:tab adE=some J2:=aE aF (k:=112) (by kernel_rfl)
theorem akT:tab adD=some J1:=aE aF (k:=113) (by kernel_rfl)
theorem akQ:tab adA=some JY:=aE aF (k:=114) (by kernel_rfl)
theorem akV:tab RE=some J3:=aE aF (k:=115) (by kernel_rfl)
theorem akY:tab adG=some J6:=aE aF (k:=116) (by kernel_rfl)
theorem akX:tab adF=some J5:=aE aF (k:=117) (by kernel_rfl)
theorem ak0:tab adI=some J8:=aE aF (k:=118) (by kernel_rfl)
theorem ak2:tab adJ=some Ka:=aE aF (k:=119) (by kernel_rfl)
theorem akW:tab RF=some J4:=aE aF (k:=120) (by kernel_rfl)
theorem ak4:tab adL=some Kc:=aE aF (k:=121) (by kernel_rfl)
theorem ak3:tab adK=some Kb:=aE aF (k:=122) (by kernel_rfl)
theorem akH:tab RD=some JP:=aE aF (k:=123) (by kernel_rfl)
theorem alY:tab aey=some Ln:=aE aF (k:=124) (by kernel_rfl)
theorem alZ:tab aez=some Lo:=aE aF (k:=125) (by kernel_rfl)
theorem al0:tab aeA=some Lp:=aE aF (k:=126) (by kernel_rfl)
theorem akO:tab ady=some JW:=aE aF (k:=127) (by kernel_rfl)
theorem akN:tab Dv=some JV:=aE aF (k:=128) (by kernel_rfl)
theorem akM:tab adx=some JU:=aE aF (k:=129) (by kernel_rfl)
theorem akK:tab adv=some JS:=aE aF (k:=130) (by kernel_rfl)
theorem akP:tab adz=some JX:=aE aF (k:=131) (by kernel_rfl)
theorem akJ:tab adu=some JR:=aE aF (k:=132) (by kernel_rfl)
theorem akI:tab adt=some JQ:=aE aF (k:=133) (by kernel_rfl)
theorem akL:tab adw=some JT:=aE aF (k:=134) (by kernel_rfl)
theorem akr:tab adf=some Jx:=aE aF (k:=135) (by kernel_rfl)
theorem aks:tab adg=some Jy:=aE aF (k:=136) (by kernel_rfl)
theorem akA:tab adn=some JG:=aE aF (k:=137) (by kernel_rfl)
theorem ak7:tab adO=some Kf:=aE aF (k:=138) (by kernel_rfl)
theorem ak5:tab adM=some Kd:=aE aF (k:=139) (by kernel_rfl)
theorem caps:∀f cs,ab Ok f=some cs→(lQ cs.args cs.res=none→ab af f=some ⟨cs.args++cs.caps,cs.res,.dat⟩)∧∀ys,lQ cs.args cs.res=some ys→fb SP f=false∧Fe Tryz.prog f=true:=YM (l:=Ok) (sig:=af) (P:=Tryz.prog) (pcs:=SP) (by kernel_rfl)
theorem clos:dC ctx:=⟨(fun f cs h=>(caps f cs h).1),fun f s h=>ah4 (l:=af) (P:=Tryz.prog) (by kernel_rfl) f s h⟩
theorem its:∀f cs ys,ctx.cap f=some cs→lQ cs.args cs.res=some ys→tab f=none∧∃fn,ctx.P.funcs[f]?=some fn∧fn.body.isSome=true∧(fn.name== "runtime.NumGoroutine")=false:=fun f cs ys h hi=>⟨ack (l:=DG) (by rw[agh];exact((caps f cs h).2 ys hi).1),aCz ((caps f cs h).2 ys hi).2⟩
theorem aCp:∀f pc,tab f=some pc→∃fn s ids fr nh,ctx.P.funcs[f]?=some fn∧ctx.sig f=some s∧aB {ctx with fr:=fr,nh:=nh} fn s ids=some pc:=
 Ds (R:=fun f pc=>∃fn s ids fr nh,ctx.P.funcs[f]?=some fn∧ctx.sig f=some s∧aB {ctx with fr:=fr,nh:=nh} fn s ids=some pc) (l:=DG)
  (aD ⟨Tryz.f9,(ab af 9).getD default,[5,8,12,13,14],[10,11],[],Tryz.func9,rfl,anb⟩
  (aD ⟨Tryz.f26,(ab af 26).getD default,[1,2,3,4,5,6,73],[0,7,8,9],[],Tryz.func26,rfl,ani⟩
  (aD ⟨Tryz.f79,(ab af 79).getD default,[0,24576,28672,32768,1,12289,2,3,12291,4],[5],[],Tryz.func79,rfl,anh⟩
  (aD ⟨Tryz.f81,(ab af 81).getD default,[2,69634,73730,3,4],[],[],Tryz.func81,rfl,ang⟩
  (aD ⟨Tryz.f80,(ab af 80).getD default,[1,2],[],[],Tryz.func80,rfl,anc⟩
  (aD ⟨Tryz.f28,(ab af 28).getD default,[4,7,8,9],[10],[],Tryz.func28,rfl,amG⟩
  (aD ⟨Tryz.f83,(ab af 83).getD default,[4,7,8,10,16394],[9,11,12,13,14],[],Tryz.func83,rfl,amN⟩
  (aD ⟨Tryz.f84,(ab af 84).getD default,[2,3,4],[5],[],Tryz.func84,rfl,amO⟩
  (aD ⟨Tryz.f30,(ab af 30).getD default,[2,4,5,65541,69637,73733,77829,7,31,9,49,11,13],[],[],Tryz.func30,rfl,an9⟩
  (aD ⟨Tryz.f86,(ab af 86).getD default,[],[4],[],Tryz.func86,rfl,aof⟩
  (aD ⟨Tryz.f31,(ab af 31).getD default,[2,3,5,6,8,10,90,139],[4,7,9,11,12,13,14,15,16],[],Tryz.func31,rfl,aod⟩
  (aD ⟨Tryz.f88,(ab af 88).getD default,[2],[3],[],Tryz.func88,rfl,aoc⟩
  (aD ⟨Tryz.f87,(ab af 87).getD default,[],[4],[],Tryz.func87,rfl,aog⟩
  (aD ⟨Tryz.f164,(ab af 164).getD default,[],[4,5],[],Tryz.func164,rfl,aoj⟩
  (aD ⟨Tryz.f32,(ab af 32).getD default,[2],[4],[],Tryz.func32,rfl,anX⟩
  (aD ⟨Tryz.f91,(ab af 91).getD default,[],[4],[],Tryz.func91,rfl,an1⟩
  (aD ⟨Tryz.f89,(ab af 89).getD default,[2],[],[],Tryz.func89,rfl,aoe⟩
  (aD ⟨Tryz.f90,(ab af 90).getD default,[3,6,8],[],[],Tryz.func90,rfl,aoa⟩
  (aD ⟨Tryz.f97,(ab af 97).getD default,[],[2,3,4,11],[],Tryz.func97,rfl,YW⟩
  (aD ⟨Tryz.f94,(ab af 94).getD default,[],[4],[],Tryz.func94,rfl,Zb⟩
  (aD ⟨Tryz.f167,(ab af 167).getD default,[],[4,5],[],Tryz.func167,rfl,Zd⟩
  (aD ⟨Tryz.f33,(ab af 33).getD default,[4,10,53],[8,9,11,12,13,14,55,70],[],Tryz.func33,rfl,am7⟩
  (aD ⟨Tryz.f92,(ab af 92).getD default,[4,9],[8],[],Tryz.func92,rfl,ana⟩
  (aD ⟨Tryz.f166,(ab af 166).getD default,[],[3],[],Tryz.func166,rfl,am9⟩
  (aD ⟨Tryz.f165,(ab af 165).getD default,[],[4],[],Tryz.func165,rfl,aoh⟩
  (aD ⟨Tryz.f216,(ab af 216).getD default,[],[4,5],[],Tryz.func216,rfl,aok⟩
  (aD ⟨Tryz.f93,(ab af 93).getD default,[4,11],[8,9],[],Tryz.func93,rfl,am8⟩
  (aD ⟨Tryz.f35,(ab af 35).getD default,[3,6,8,10],[7,9,11,12],[],Tryz.func35,rfl,anj⟩
  (aD ⟨Tryz.f95,(ab af 95).getD default,[2,3,4,12292,9],[5,6,7,8,10,11],[],Tryz.func95,rfl,YY⟩
  (aD ⟨Tryz.f169,(ab af 169).getD default,[2],[3],[],Tryz.func169,rfl,YX⟩
  (aD ⟨Tryz.f168,(ab af 168).getD default,[],[4,5],[],Tryz.func168,rfl,Zc⟩
  (aD ⟨Tryz.f170,(ab af 170).getD default,[1],[2,3],[],Tryz.func170,rfl,Zh⟩
  (aD ⟨Tryz.f217,(ab af 217).getD default,[2,7,12295],[4,5],[],Tryz.func217,rfl,Zp⟩
  (aD ⟨Tryz.f218,(ab af 218).getD default,[1,4,6,12294,9],[2,3,5,7,8,38,47,10,11,12],[],Tryz.func218,rfl,Zk⟩
  (aD ⟨Tryz.f260,(ab af 260).getD default,[1],[2,3,12,20,4,5],[],Tryz.func260,rfl,Zm⟩
  (aD ⟨Tryz.f264,(ab af 264).getD default,[],[2],[],Tryz.func264,rfl,aox⟩
  (aD ⟨Tryz.f262,(ab af 262).getD default,[],[2,3,4,11],[],Tryz.func262,rfl,Zj⟩
  (aD ⟨Tryz.f261,(ab af 261).getD default,[2],[4,8,13,17,21],[],Tryz.func261,rfl,Zq⟩
  (aD ⟨Tryz.f96,(ab af 96).getD default,[2,4,7],[5,6,8],[],Tryz.func96,rfl,aov⟩
  (aD ⟨Tryz.f171,(ab af 171).getD default,[2,3,4,6,33,7,8,10,12298,12],[5,15,21,9,11],[],Tryz.func171,rfl,Zn⟩
  (aD ⟨Tryz.f219,(ab af 219).getD default,[2,4],[5,6],[],Tryz.func219,rfl,Zo⟩
  (aD ⟨Tryz.f263,(ab af 263).getD default,[2],[],[],Tryz.func263,rfl,Zr⟩
  (aD ⟨Tryz.f220,(ab af 220).getD default,[4,5],[9,22,41,6,7,82,88,94],[],Tryz.func220,rfl,Zl⟩
  (aD ⟨Tryz.f265,(ab af 265).getD default,[],[6,8,14,20,25],[],Tryz.func265,rfl,aow⟩
  (aD ⟨Tryz.f286,(ab af 286).getD default,[],[4,5,6,7],[],Tryz.func286,rfl,aoy⟩
  (aD ⟨Tryz.f298,(ab af 298).getD default,[],[4,5,6,7,8,9,10,11,12,13],[],Tryz.func298,rfl,amS⟩
  (aD ⟨Tryz.f221,(ab af 221).getD default,[6],[2,3,5,8],[],Tryz.func221,rfl,Za⟩
  (aD ⟨Tryz.f49,(ab af 49).getD default,[2,3],[4,5],[],Tryz.func49,rfl,anR⟩
  (aD ⟨Tryz.f46,(ab af 46).getD default,[1],[2,3,7,12],[],Tryz.func46,rfl,amM⟩
  (aD ⟨Tryz.f48,(ab af 48).getD default,[1],[2],[],Tryz.func48,rfl,amK⟩
  (aD ⟨Tryz.f82,(ab af 82).getD default,[4,7,9],[8,10],[],Tryz.func82,rfl,amJ⟩
  (aD ⟨Tryz.f163,(ab af 163).getD default,[3,7],[6,8],[],Tryz.func163,rfl,YV⟩
  (aD ⟨Tryz.f215,(ab af 215).getD default,[2],[4,5,6,8],[],Tryz.func215,rfl,Zi⟩
  (aD ⟨Tryz.f139,(ab af 139).getD default,[],[2],[],Tryz.func139,rfl,Ze⟩
  (aD ⟨Tryz.f207,(ab af 207).getD default,[],[2],[],Tryz.func207,rfl,YU⟩
  (aD ⟨Tryz.f255,(ab af 255).getD default,[],[2,0],[],Tryz.func255,rfl,amR⟩
  (aD ⟨Tryz.f256,(ab af 256).getD default,[],[2,0],[],Tryz.func256,rfl,YT⟩
  (aD ⟨Tryz.f206,(ab af 206).getD default,[],[8,9,10,3,11,12,13,1,14,15,16,17,18,2],[],Tryz.func206,rfl,Zg⟩
  (aD ⟨Tryz.f246,(ab af 246).getD default,[],[6,7],[],Tryz.func246,rfl,Zf⟩
  (aD ⟨Tryz.f252,(ab af 252).getD default,[],[4],[],Tryz.func252,rfl,am4⟩
  (aD ⟨Tryz.f228,(ab af 228).getD default,[],[2],[],Tryz.func228,rfl,am6⟩
  (aD ⟨Tryz.f140,(ab af 140).getD default,[],[2,3,4,5],[],Tryz.func140,rfl,YZ⟩
  (aD ⟨Tryz.f34,(ab af 34).getD default,[],[4,5],[],Tryz.func34,rfl,anN⟩
  (aD ⟨Tryz.f29,(ab af 29).getD default,[3,5],[6,7],[],Tryz.func29,rfl,amL⟩
  (aD ⟨Tryz.f41,(ab af 41).getD default,[4,6],[8,9,10,11],[],Tryz.func41,rfl,amI⟩
  (aD ⟨Tryz.f50,(ab af 50).getD default,[5,8,77832,10],[],[],Tryz.func50,rfl,amH⟩
  (aD ⟨Tryz.f109,(ab af 109).getD default,[1,3,6,8],[2,4],[],Tryz.func109,rfl,aob⟩
  (aD ⟨Tryz.f182,(ab af 182).getD default,[],[2,3,4],[],Tryz.func182,rfl,aom⟩
  (aD ⟨Tryz.f108,(ab af 108).getD default,[4,5,10],[8,9,15,39,58,74,11,12],[],Tryz.func108,rfl,aon⟩
  (aD ⟨Tryz.f54,(ab af 54).getD default,[1,9],[2,3,4,5,6,7,10,11,12],[],Tryz.func54,rfl,anW⟩
  (aD ⟨Tryz.f129,(ab af 129).getD default,[1,2,3,4,6,16390,20486,24582,21,8,34,10,12298,16394,47],[],[],Tryz.func129,rfl,an4⟩
  (aD ⟨Tryz.f130,(ab af 130).getD default,[],[6,7,8],[],Tryz.func130,rfl,an0⟩
  (aD ⟨Tryz.f204,(ab af 204).getD default,[],[4],[],Tryz.func204,rfl,an3⟩
  (aD ⟨Tryz.f244,(ab af 244).getD default,[],[2,3,4,5],[],Tryz.func244,rfl,an2⟩
  (aD ⟨Tryz.f245,(ab af 245).getD default,[],[4],[],Tryz.func245,rfl,aoi⟩
  (aD ⟨Tryz.f279,(ab af 279).getD default,[],[4,5],[],Tryz.func279,rfl,aol⟩
  (aD ⟨Tryz.f131,(ab af 131).getD default,[],[2],[],Tryz.func131,rfl,anS⟩
  (aD ⟨Tryz.f132,(ab af 132).getD default,[],[3],[],Tryz.func132,rfl,anT⟩
  (aD ⟨Tryz.f133,(ab af 133).getD default,[2,3],[4,6],[],Tryz.func133,rfl,anZ⟩
  (aD ⟨Tryz.f205,(ab af 205).getD default,[],[6,7,8],[],Tryz.func205,rfl,an7⟩
  (aD ⟨Tryz.f134,(ab af 134).getD default,[],[3],[],Tryz.func134,rfl,anU⟩
  (aD ⟨Tryz.f135,(ab af 135).getD default,[],[3],[],Tryz.func135,rfl,anV⟩
  (aD ⟨Tryz.f136,(ab af 136).getD default,[1,3,4,6,19,8,16392,36],[2],[],Tryz.func136,rfl,an5⟩
  (aD ⟨Tryz.f137,(ab af 137).getD default,[1,4,6],[2,3],[],Tryz.func137,rfl,an8⟩
  (aD ⟨Tryz.f138,(ab af 138).getD default,[1,4,6],[2],[],Tryz.func138,rfl,an6⟩
  (aD ⟨Tryz.f177,(ab af 177).getD default,[2],[4],[],Tryz.func177,rfl,aor⟩
  (aD ⟨Tryz.f178,(ab af 178).getD default,[],[2],[],Tryz.func178,rfl,aos⟩
  (aD ⟨Tryz.f179,(ab af 179).getD default,[1],[2],[],Tryz.func179,rfl,aoo⟩
  (aD ⟨Tryz.f180,(ab af 180).getD default,[3,4],[6,7,13,16,24,33,8,9],[],Tryz.func180,rfl,aoq⟩
  (aD ⟨Tryz.f223,(ab af 223).getD default,[3],[4,5],[],Tryz.func223,rfl,aop⟩
  (aD ⟨Tryz.f267,(ab af 267).getD default,[],[4,5,6,7,8,9],[],Tryz.func267,rfl,amT⟩
  (aD ⟨Tryz.f120,(ab af 120).getD default,[],[2],[],Tryz.func120,rfl,am2⟩
  (aD ⟨Tryz.f201,(ab af 201).getD default,[],[2,3,4,5,6,7,8,9],[],Tryz.func201,rfl,amW⟩
  (aD ⟨Tryz.f288,(ab af 288).getD default,[],[4],[],Tryz.func288,rfl,amZ⟩
  (aD ⟨Tryz.f299,(ab af 299).getD default,[],[6,0,1],[],Tryz.func299,rfl,am0⟩
  (aD ⟨Tryz.f287,(ab af 287).getD default,[],[6,7,8],[],Tryz.func287,rfl,amU⟩
  (aD ⟨Tryz.f185,(ab af 185).getD default,[3,9],[6,7],[],Tryz.func185,rfl,anY⟩
  (aD ⟨Tryz.f181,(ab af 181).getD default,[3],[6,7,8,2,9,10],[],Tryz.func181,rfl,aot⟩
  (aD ⟨Tryz.f224,(ab af 224).getD default,[3,9],[6,7,2],[],Tryz.func224,rfl,aou⟩
  (aD ⟨Tryz.f225,(ab af 225).getD default,[2,4,5],[6],[],Tryz.func225,rfl,amV⟩
  (aD ⟨Tryz.f268,(ab af 268).getD default,[3,4,5],[6],[],Tryz.func268,rfl,amY⟩
  (aD ⟨Tryz.f121,(ab af 121).getD default,[2],[4,5,6,7],[],Tryz.func121,rfl,am1⟩
  (aD ⟨Tryz.f27,(ab af 27).getD default,[2,3],[4],[],Tryz.func27,rfl,anf⟩
  (aD ⟨Tryz.f53,(ab af 53).getD default,[2,3],[4,5],[],Tryz.func53,rfl,anQ⟩
  (aD ⟨Tryz.f58,(ab af 58).getD default,[1],[2,3,4],[],Tryz.func58,rfl,anv⟩
  (aD ⟨Tryz.f127,(ab af 127).getD default,[1],[2],[],Tryz.func127,rfl,anK⟩
  (aD ⟨Tryz.f128,(ab af 128).getD default,[1],[2,3],[],Tryz.func128,rfl,anP⟩
  (aD ⟨Tryz.f203,(ab af 203).getD default,[1],[2],[],Tryz.func203,rfl,anM⟩
  (aD ⟨Tryz.f243,(ab af 243).getD default,[3],[6,1,7],[],Tryz.func243,rfl,anO⟩
  (aD ⟨Tryz.f62,(ab af 62).getD default,[1],[2,3],[],Tryz.func62,rfl,anu⟩
  (aD ⟨Tryz.f145,(ab af 145).getD default,[1,5,44],[2,3,4,6,7],[],Tryz.func145,rfl,anD⟩
  (aD ⟨Tryz.f208,(ab af 208).getD default,[],[4],[],Tryz.func208,rfl,anF⟩
  (aD ⟨Tryz.f257,(ab af 257).getD default,[],[2,3,4],[],Tryz.func257,rfl,anx⟩
  (aD ⟨Tryz.f285,(ab af 285).getD default,[],[2],[],Tryz.func285,rfl,anw⟩
  (aD ⟨Tryz.f258,(ab af 258).getD default,[],[6,7],[],Tryz.func258,rfl,ant⟩
  (aD ⟨Tryz.f209,(ab af 209).getD default,[2,3],[4,5],[],Tryz.func209,rfl,anz⟩
  (aD ⟨Tryz.f210,(ab af 210).getD default,[],[6],[],Tryz.func210,rfl,anC⟩
  (aD ⟨Tryz.f259,(ab af 259).getD default,[],[6,7],[],Tryz.func259,rfl,anB⟩
  (aD ⟨Tryz.f146,(ab af 146).getD default,[1,4,44],[2,3,5,6],[],Tryz.func146,rfl,anE⟩
  (aD ⟨Tryz.f147,(ab af 147).getD default,[1,3,24],[2,4,5],[],Tryz.func147,rfl,anG⟩
  (aD ⟨Tryz.f211,(ab af 211).getD default,[1],[2,3,4],[],Tryz.func211,rfl,anA⟩
  (aD ⟨Tryz.f148,(ab af 148).getD default,[1,4],[2,3,5],[],Tryz.func148,rfl,anI⟩
  (aD ⟨Tryz.f149,(ab af 149).getD default,[1,4,6],[2,3,5],[],Tryz.func149,rfl,anH⟩
  (aD ⟨Tryz.f42,(ab af 42).getD default,[2,3,10],[4,5,6,7,8,11],[],Tryz.func42,rfl,ank⟩
  (aD ⟨Tryz.f110,(ab af 110).getD default,[2,3],[4,5,6,7,8,54,80,109,118,9,10],[],Tryz.func110,rfl,aoz⟩
  (aD ⟨Tryz.f183,(ab af 183).getD default,[],[4],[],Tryz.func183,rfl,aoA⟩
  (aD ⟨Tryz.f184,(ab af 184).getD default,[1,3],[2,8,19,40],[],Tryz.func184,rfl,aoB⟩
  (aD ⟨Tryz.f111,(ab af 111).getD default,[3,4,7,11],[6,8,9,76,92,98],[],Tryz.func111,rfl,anr⟩
  (aD ⟨Tryz.f112,(ab af 112).getD default,[],[6],[],Tryz.func112,rfl,anq⟩
  (aD ⟨Tryz.f186,(ab af 186).getD default,[3,4,7,8],[6,9,10,66,103,113,11,140,149],[],Tryz.func186,rfl,anp⟩
  (aD ⟨Tryz.f226,(ab af 226).getD default,[3],[6,7],[],Tryz.func226,rfl,ann⟩
  (aD ⟨Tryz.f227,(ab af 227).getD default,[3],[6],[],Tryz.func227,rfl,ans⟩
  (aD ⟨Tryz.f113,(ab af 113).getD default,[2,3,6],[4,5,7],[],Tryz.func113,rfl,anm⟩
  (aD ⟨Tryz.f187,(ab af 187).getD default,[3,4,5],[6,7,8,9,65,80,100,111],[],Tryz.func187,rfl,anl⟩
  (aD ⟨Tryz.f114,(ab af 114).getD default,[1,4,5],[2,3],[],Tryz.func114,rfl,ano⟩
  (aD ⟨Tryz.f189,(ab af 189).getD default,[],[4,5,6],[],Tryz.func189,rfl,am3⟩
  (aD ⟨Tryz.f188,(ab af 188).getD default,[],[2,3,5],[],Tryz.func188,rfl,am5⟩
  (aD ⟨Tryz.f47,(ab af 47).getD default,[2,4,6],[5],[],Tryz.func47,rfl,ane⟩
  (aD ⟨Tryz.f119,(ab af 119).getD default,[2,77826,3,4,5,7,9],[6,8],[],Tryz.func119,rfl,anL⟩
  (aD ⟨Tryz.f200,(ab af 200).getD default,[3,6],[7],[],Tryz.func200,rfl,anJ⟩
  trivial))))))))))))))))))))))))))))))))))))))))))))))))))))))))))))))))))))))))))))))))))))))))))))))))))))))))))))))))))))))))))))))))))))))))))))
end Rm
set_option linter.unusedSimpArgs false
namespace Rm
open Go Go.Proofs Cx Go.RowKit Go.Lib
theorem awt:(Tryz.prog.info? 3).map (fun i=>(i.zero,i.size,i.bytes))=some (some (.int .i64 0),1,8):=by kernel_rfl
set_option maxHeartbeats 2000000 in
set_option maxRecDepth 100000 in
theorem atd (w:World):Calls Tryz.prog 266 #[.slice none 0 0,.int .i64 0] w fun e w'=>e=.returned (.slice none 0 0)∧w'=w:=by
 go_enter Tryz.func266,Tryz.ntmps266
 go_wp2
 go_ret
 exact⟨rfl,rfl⟩
set_option maxHeartbeats 2000000 in
set_option maxRecDepth 100000 in
theorem atc (n:Nat)(w:World)(h0:0<n)(h1:n≤4294967296):Calls Tryz.prog 266 #[.slice none 0 0,.int .i64 n] w fun e w'=>
 ∃v',e=.returned v'∧w'.ownsRow w.heap.size 3 1 v' 0 []∧Below w.heap.size w w':=by
 obtain⟨i0,hi,yt,vK,hz2⟩:=info_parts awt;have hr:=run_append_nil_zeros w 69 3 69 3 i0 (.int .i64 0) .i64 .i64 Tryz.underlying69 Tryz.underlying3 hi yt n h0 (by rw[vK];decide) (by omega) (by rw[hz2];omega);have hn:¬((n:Int)<0):=by omega
 have ph:(n:Int)>0:=by omega
 have hw:IntKind.i64.wrap (n:Int)=n:=by rw[IntKind.wrap_i64];omega
 have qE:IntKind.i64.wrap 0=0:=by decide
 have eY:=grownCap_ge w n 0 3;have hle:=grownCap_le_maxLen w n 0 3 (by unfold maxLen;omega);have hs:(Builtin.zeroCells #[Value.int IntKind.i64 0] n++Builtin.zeroCells #[Value.int IntKind.i64 0] (grownCap w n 0 3-n)).size=grownCap w n 0 3*1:=by
  rw[Array.size_append,size_zeroCells,size_zeroCells];simp;omega
 go_enter Tryz.func266,Tryz.ntmps266
 go_wp2_with (at_builtin;refine wpList_append_run _ rfl _ _ 69 3 rfl _ _ rfl rfl _ _ hr ?qc)
 go_ret
 refine⟨_,rfl,?_,?_⟩
 ·exact World.ownsRow.drew (World.ownsRow_made w _ _ (bk _) hle hs)
 ·exact((Below.refl _ w).alloc (bk _) _).drew
def Cl (ds:List D):Option D:=
 match ds with
 |[.list [],.v (.int .i64 n)]=>if 0≤n∧n≤4294967296 then some (.list []) else none
 |_=>none
theorem atb (ds:List D)(d:D)(h:Cl ds=some d):∃s,ctx.sig 266=some s∧M1 ctx 266 s ds d:=by
 refine⟨_,rfl,fun _=>?_,fun shs obs hm=>by cases hm⟩;unfold Cl at h;split at h
 case h_2=>cases h
 rename_i n;split at h
 case isFalse=>cases h
 rename_i hn;cases h;obtain⟨k,rfl⟩:=uE hn.1;intro σ w args aH hC ha;obtain⟨a1,a2,a3⟩:=ha;have h0:=a3 0 _ rfl;have h1:=a3 1 _ rfl;obtain⟨u,v,rfl⟩:∃u v,args=#[u,v]:=by
  have:args.size=2:=by simpa using a1
  match args,this with
  |⟨[u,v]⟩,_=>exact⟨u,v,rfl⟩
 simp only[sE,Ab] at h0 h1;change Rep ctx.cap σ (.nils .bool) u (.list []) at h0;change Rep ctx.cap σ (.int .i64) v (.v (.int .i64 k)) at h1;have hu:u=.slice none 0 0:=by cases h0;rfl
 have hv:v=.int .i64 k:=by cases h1;rfl
 subst hu hv;by_cases hk:k=0
 ·subst hk;refine(atd w).mono fun e w' hh=>?_;obtain⟨rfl,rfl⟩:=hh;refine⟨_,σ,rfl,.refl σ,aH,.refl _ _,fun _ _ _ h=>.inl h,fun _ _ h=>.inl h,?_⟩;exact⟨[],[],rfl,⟨by simp,.inl ⟨rfl,rfl⟩⟩,⟨fun _=>undef,fun i x hx=>by simp at hx,fun i j u hi=>by simp at hi⟩,fun k hk=>by cases hk⟩
 ·refine(atc k w (by omega) (by omega)).mono fun e w' hh=>?_;obtain⟨v',rfl,bV,hb⟩:=hh;refine⟨v',σ,rfl,.refl σ,aH.below hb,hb,fun _ _ _ h=>.inl h,fun _ _ h=>.inl h,?_⟩;refine⟨[],[],rfl,bV,⟨fun _=>undef,fun i x hx=>by simp at hx,fun i j u hi=>by simp at hi⟩,fun k hk=>?_⟩;have bz:=(bV.lt k hk).1;refine⟨fun o=>?_,?_⟩
  ·cases hc:σ.c k o with
   |none=>rfl
   |some u=>have:=World.block_lt_of_cell? w (a:=⟨k,o,none⟩) (aH.c _ _ _ hc);simp at this;omega
  ·cases hc:σ.m k with
   |none=>rfl
   |some u=>rcases aH.m _ _ hc with⟨arr,clock,x,g1,_⟩|⟨_,g1⟩<;>(have:=(fT.1 g1).1;omega)
def eT (day:Int):Int×Int×Int:=
 let n:=day+730425
 let e:=n/146097
 let r:=n%146097
 let y:=(r-r/1460+r/36524-r/146096)/365
 let r:=r-(365*y+y/4-y/100)
 let m:=(5*r+2)/153
 let dom:=r-(153*m+2)/5+1
 let month:=if 12<m+3 then m+3-12 else m+3
 (if month<3 then y+400*e+1 else y+400*e,month,dom)
def v7 (rest feasts shut:List Int)(day:Int):Bool:=
 !rest.contains ((day+5)%7)&&(!feasts.contains (100*(eT day).2.1+(eT day).2.2)&& !shut.contains day)
def ZF (rest feasts shut:List Int)(a b:Int):List Int:=((List.range (b-a+1).toNat).map fun(k:Nat)=>a+k).filter (v7 rest feasts shut)
def vM (d:D):List Int:=d.l.map D.i
def ZG (ds:List D):List D:=
 let c:=(ds.getD 2 .none).deref
 (ZF (vM (c.c 3)) (vM (c.c 4)) (vM (c.c 5)) (ds.getD 0 .none).deref.i (ds.getD 1 .none).deref.i).map fun d=>.tup [.int d]
def xl (r:D)(city:Int):Int:=if 0≤city∧city<(r.c 1).l.length then(((r.c 1).l.getD city.toNat .none).c 1).i else-1
def S9 (ds:List D):D:=
 let r:=ds.getD 0 .none
 let ay:=(ds.getD 1 .none).i
 let c:=ds.getD 2 .none
 let s:=(c.c 15).l.getD (c.c 19).i.toNat .none
 let who:=(s.c 2).i
 if who<0∨(r.c 3).l.length≤who∨ay<0∨(r.c 4).l.length≤ay then .list [] else
 let out:=[ay,xl r (s.c 7).i,xl r (c.c 10).i,xl r (c.c 9).i,xl r (((r.c 3).l.getD who.toNat .none).c 1).i]
 if(-1)∈out then .list [] else ints out
noncomputable def ON:List (Nat×(aV→List D→Option D)):=[(266,fun _ ds=>Cl ds),(85,rW SQ SR S9),(289,tG DH 1000 1 ZG)]
noncomputable def ext:Nat→Option (aV→List D→Option D):=ab ON
theorem aCo:TabOK ctx tab ext:=by
 refine⟨clos,its,fun f pc _ h=>aCp f pc h,fun f g hg Φ hΦ fp ds d h=>?_⟩
 have:=Ds (R:=fun f (g:aV→List D→Option D)=>∀Φ,dc ctx Φ→fU ctx Φ→∀ds d,g Φ ds=some d→(∀s,ctx.sig f=some s→M1 ctx f s ds d)∧
  ∀cs ys,ctx.cap f=some cs→lQ cs.args cs.res=some ys→∃xs,d=.list xs∧(∀x,x∈xs→∃ds',x=.tup ds'∧ds'.length=ys.length)∧ll ctx f cs.caps ys ds xs) (l:=ON)
  ⟨fun Φ hΦ fp ds d h=>⟨fun s hs=>by obtain⟨s',h1,h2⟩:=atb ds d h;rw[hs] at h1;cases h1;exact h2,fun cs ys hc hi=>by cases hc⟩,
   fun Φ hΦ fp ds d h=>⟨fun s hs=>by cases hs;exact⟨fun _=>azx clos hΦ fp Tryz.func85 amP amQ h,fun shs obs hm=>by cases hm⟩,fun cs ys hc hi=>by cases hc⟩,
   fun Φ hΦ fp ds d h=>⟨fun s hs=>(by cases hs),fun cs ys hc hi=>by
    cases hc;cases hi;exact awx clos hΦ fp Tryz.func289 aoC h rfl⟩,trivial⟩ f g hg
 exact this Φ hΦ fp ds d h
noncomputable abbrev T:cu:=cD tab ext
theorem azw {pa pb:PC}{spec:List D→D}{Φ Ψ:aV}(h:Le Φ Ψ){ds:List D}{d:D}(e:rW pa pb spec Φ ds=some d):rW pa pb spec Ψ ds=some d:=by
 unfold rW at e ⊢;split at e
 ·rename_i hs;rw[if_pos]
  ·exact e
  ·rcases hs with⟨N,xs,h1,h2⟩|⟨N,h1,h2⟩
   ·exact .inl ⟨N,xs,PC.ev_mono h (bk _) h1,h2⟩
   ·exact .inr ⟨N,PC.ev_mono h (bk _) h1,h2⟩
 ·cases e
theorem aqc:∀f g,ext f=some g→∀Φ Ψ,Le Φ Ψ→∀ds d,g Φ ds=some d→g Ψ ds=some d:=fun f g hg=>
 Ds (R:=fun _ (g:aV→List D→Option D)=>∀Φ Ψ,Le Φ Ψ→∀ds d,g Φ ds=some d→g Ψ ds=some d) (l:=ON) ⟨fun _ _ _ _ _ e=>e,fun _ _ h _ _ e=>azw h e,fun _ _ h _ _ e=>aww h e,trivial⟩ f g hg
theorem ao.of_nsl {tab:Nat→Option PC}{ext:Nat→Option (aV→List D→Option D)}{f:Nat}{pa pb:PC}{spec:List D→D}{ds:List D}{ta tb:PT}(hx:ext f=some (rW pa pb spec))(hta:tree pa=ta)(Qr:tree pb=tb)
 (h:(∃xs,xs≠[]∧spec ds=.list xs∧aP (cD tab ext) ta (j2 ds) (fun x=>x=.ret (.list xs)))∨(spec ds=.list []∧aP (cD tab ext) tb (j2 ds) (fun x=>x=.ret (.list [])))):ao (cD tab ext) f ds (spec ds):=by
 refine ao.of_ext hx ?_;rcases h with⟨xs,h1,h2,h3⟩|⟨h2,h3⟩
 ·obtain⟨x,rfl,n0,hn⟩:=MR (c:=pa) (hta▸h3);refine⟨n0,fun n hle=>?_⟩;unfold rW;rw[if_pos (.inl ⟨n,xs,hn n hle,h1,h2⟩)]
 ·obtain⟨x,rfl,n0,hn⟩:=MR (c:=pb) (Qr▸h3);refine⟨n0,fun n hle=>?_⟩;unfold rW;rw[if_pos (.inr ⟨n,hn n hle,h2⟩)]
end Rm
