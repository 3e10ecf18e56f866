/-
  The functions of this seat, compiled (3).
-/
import Derived.Test.YtkhkejmimnklfaaGreatDoorKAK
import Derived.KernelRfl
set_option linter.unusedVariables false
set_option maxRecDepth 100000
namespace Rm
open Go Go.Proofs Cx
noncomputable def EU:Option PC:=ay {ctx with fr:=[6,7,8,9,65,80,100,111],nh:=[]} Tryz.f134 ((ab af 134).getD default) [3,4,5]
noncomputable def II:PC:=ax EU
def Tp:PT:=
 (.call ⟨[],[(5,(.mk [r2])),(4,(.mk [r1])),(3,(.mk [r0]))]⟩ [] 16 66 [(pc (.mk [r2]) 4),(pi 0),(bG (.llen (pc (.mk [r1]) 15)) (pi 1))]
 (.call ⟨[(17,cE)],[]⟩ [(17,true)] 23 185 [(av 19 o4),(pc o5 4),(pc o5 3)]
 (.chk (.nt (.an (.an (.pick jE ff pF) pT) (.nt (az (pc o4 15) (pc o5 4)))))
 (.call ⟨[(8,(.pick (.pick jE ff pF) (ao (pc (pn (pc o4 15) (pc o5 4)) 2) (pc o5 1)) pF)),(7,(.pick jE ff pF))],[]⟩ [] 44 66 [(pc o5 2),(pi 0),Kc]
 (.call ⟨[(9,vx)],[]⟩ [] 51 66 [(pc o5 1),(pi 0),Kc]
 (.ite (.pick (.nt oc) pT (.pick (aO (pc o5 0) (pi 4)) (aO (pc o5 8) (pi 0)) pF))
 (.ret pF)
 (.blockS ⟨[(64,(pc o5 0))],[]⟩ 0 [6,65,66,80,81,100,101,111,112] []
 (.iteS ⟨[],[]⟩ (.pick (ao mV (pi 0)) (ao mV (pi 0)) (.pick (ao mV (pi 1)) (ao mV (pi 1)) (ao mV (pi 2)))) [6,80,81,100,101,111,112] []
 (.ret (.pick (.pick r9 (ao (pc o5 4) (pi (-1))) pF) (ao (pc o5 5) (pi 0)) pF))
 (.iteS ⟨[],[]⟩ (.pick (ao mV (pi 3)) (ao mV (pi 3)) (.pick (ao mV (pi 5)) (ao mV (pi 5)) (ao mV (pi 4)))) [6,100,101,111,112] []
 (.call ⟨[(90,(.pick r9 (ao (pc o5 4) (pi (-1))) pF))],[]⟩ [(90,true)] 93 66 [(pc o5 5),(pi 0),nY]
 (.call ⟨[(95,(.pick r90 Rk pF))],[]⟩ [(95,true)] 98 66 [(pc o5 8),(pi 0),(pi 1)]
 (.ret (.pick r95 r98 pF))))
 (.iteS ⟨[],[]⟩ (ao mV (pi 6)) [6,111,112] []
 (.call ⟨[(106,(.pick r9 r8 pF))],[]⟩ [(106,true)] 109 66 [(pc o5 5),(pi 1),nY]
 (.ret (.pick Q9 av9 pF)))
 (.ite (ao mV (pi 9))
 (.ret (.pick (.pick (ao (pc o5 2) (pi (-1))) r8 pF) (ao (pc o5 5) (pi 0)) pF))
 (.next ⟨[],[]⟩))
 (.next ⟨[],[]⟩))
 (.next ⟨[],[]⟩))
 (.next ⟨[],[]⟩))
 (.ret (.pick (.pick (ao (pc o5 2) (pi (-1))) r7 pF) (ao (pc o5 5) (pi 0)) pF)))))))))
def an9 (b:Nat→PC):PT×List (Shp×PT):=(Tp,[])
theorem aci:EU.map told=some (an9 (aw EU)):=by kernel_rfl
theorem ayw:tree II=Tp:=aB aci
theorem ajM:EU=some II:=aA aci
noncomputable def zG:Option PC:=ay {ctx with fr:=[2,3],nh:=[]} Tryz.f68 ((ab af 68).getD default) [1,4,5]
noncomputable def IL:PC:=ax zG
noncomputable def Mo:Nat→PC:=bt zG
def atu (b:Nat→PC):PC:=.block 0 [2,9,10] [] (.loop [2,9] [] (b 0))
def KM (b:Nat→PC):PT:=
 (.ite (aq r9 r8)
 (.blockS ⟨[],[]⟩ 1 [2,3,4,11,12,13,14,15,16,17,18,27,28,33,34,35] [4]
 (.chk (az r7 r9)
 (.call ⟨[(3,r9)],[(4,(.setc z3 0 (pn r7 r9)))]⟩ [] 16 66 [(pc (.setc z3 0 (pn r7 r9)) 0),(pi 0),(pi 4)]
 (.call ⟨[(18,(.nt cE))],[]⟩ [(18,false)] 25 66 [(pc o4 1),(pi 0),(bG (.llen (pc o1 15)) (pi 1))]
 (.call ⟨[(28,(.pick cV pT (.nt gM)))],[]⟩ [(28,false)] 31 66 [(pc o4 2),(pi 0),(pi 1)]
 (.ite (.pick qH pT (.nt oa))
 (.ret (pi 1))
 (.ite (ao r3 (pi 0))
 (.exit 1 ⟨[],[]⟩)
 (.chk (az (pc o1 18) (bG r3 (pi 1)))
 (.call ⟨[],[(5,(.setc z3 0 (pn (pc o1 18) (bG r3 (pi 1)))))]⟩ [] 46 62 [(pc (.setc z3 0 (pn (pc o1 18) (bG r3 (pi 1)))) 1),(pc o4 1)]
 (.call ⟨[],[]⟩ [] 51 62 [(pc o5 0),(pc o4 0)]
 (.call ⟨[],[]⟩ [] 53 61 [(.lst [CB,oc])]
 (.ite (aV r53 (pi 0))
 (.ret (pi 5))
 (.next ⟨[],[]⟩))))))))))))
 (.next ⟨[(9,(aJ r9 (pi 1)))],[]⟩))
 (.exit 0 ⟨[(10,(aq r9 r8))],[]⟩))
def Ts (b:Nat→PC):PT:=
 (.brk ⟨[(9,(pi 0)),(8,(.llen yf)),(7,yf),(2,(pi 0))],[(1,(.mk [r0]))]⟩
(atu b)
 (.ret (pi 0)))
def aoc (b:Nat→PC):PT×List (Shp×PT):=(Ts b,[(.lp 0 [2,9,10] [] [2,9] [],KM b)])
theorem Qa:zG.map told=some (aoc (aw zG)):=by kernel_rfl
theorem ayz:tree IL=Ts Mo:=aB Qa
theorem aej:round 0 [2,9,10] [] [2,9] [] (Mo 0)=KM Mo:=bq Qa 0 fun _=>rfl
theorem ajP:zG=some IL:=aA Qa
noncomputable def ED:Option PC:=ay {ctx with fr:=[4,5,6],nh:=[]} Tryz.f62 ((ab af 62).getD default) []
noncomputable def Ik:PC:=ax ED
def S4:PT:=
 (.call ⟨[],[]⟩ [] 8 127 [r0]
 (.call ⟨[(5,r8)],[]⟩ [] 10 127 [r1]
 (.ite r5
 (.ite cD
 (.ret (pi 0))
 (.ret (pi (-1))))
 (.ite cD
 (.ret (pi 1))
 (.ite (aq r0 r1)
 (.ret (pi (-1)))
 (.ite (bh r0 r1)
 (.ret (pi 1))
 (.ret (pi 0))))))))
def anO (b:Nat→PC):PT×List (Shp×PT):=(S4,[])
theorem ab1:ED.map told=some (anO (aw ED)):=by kernel_rfl
theorem ayb:tree Ik=S4:=aB ab1
theorem ajr:ED=some Ik:=aA ab1
noncomputable def EE:Option PC:=ay {ctx with fr:=[2],nh:=[]} Tryz.f127 ((ab af 127).getD default) []
noncomputable def Io:PC:=ax EE
def S6:PT:=
 (.ret (aO r0 r0))
def anQ (b:Nat→PC):PT×List (Shp×PT):=(S6,[])
theorem ab2:EE.map told=some (anQ (aw EE)):=by kernel_rfl
theorem ayd:tree Io=S6:=aB ab2
theorem ajt:EE=some Io:=aA ab2
noncomputable def zA:Option PC:=ay {ctx with fr:=[2,3,5],nh:=[]} Tryz.f61 ((ab af 61).getD default) []
noncomputable def Il:PC:=ax zA
noncomputable def Mj:Nat→PC:=bt zA
def atn (b:Nat→PC):PC:=.block 0 [2,8,9] [] (.loop [2,8] [] (b 0))
def CI (b:Nat→PC):PT:=
 (.ite (aq r8 r7)
 (.chk (az r6 r8)
 (.ite (aO (pn r6 r8) r3)
 (.ret (pn r6 r8))
 (.next ⟨[(8,sE)],[]⟩)))
 (.exit 0 ⟨[(9,(aq r8 r7))],[]⟩))
def S5 (b:Nat→PC):PT:=
 (.brk ⟨[(8,(pi 0)),(7,(.llen r0)),(6,r0),(3,(pi 0)),(2,(pi 0))],[]⟩
(atn b)
 (.ret r3))
def anP (b:Nat→PC):PT×List (Shp×PT):=(S5 b,[(.lp 0 [2,8,9] [] [2,8] [],CI b)])
theorem P5:zA.map told=some (anP (aw zA)):=by kernel_rfl
theorem ayc:tree Il=S5 Mj:=aB P5
theorem Rr:round 0 [2,8,9] [] [2,8] [] (Mj 0)=CI Mj:=bq P5 0 fun _=>rfl
theorem ajs:zA=some Il:=aA P5
noncomputable def El:Option PC:=ay {ctx with fr:=[6],nh:=[]} Tryz.f76 ⟨[Y8,I,oz],.slice I,.dat⟩ [3,5,7,8,42,9]
noncomputable def QE:PC:=ax El
def SJ:PT:=
 (.chk (az (pc (.mk [r2]) 15) (pc (.mk [r2]) 19))
 (.ite adE
 (.ret pL)
 (.chk (.an (aV (pi 5) (pi 0)) (bL (pi 5) cT))
 (.chk (ao (pi 5) (pi 5))
 (.chk (az (.rep (pi 5) (pi 0)) (pi 0))
 (.call ⟨[],[(9,(.setn (.rep (pi 5) (pi 0)) (pi 0) 0 r1)),(8,(.setc LP 0 (av 15 (.mk [r2])))),(7,yk),(3,(.mk [r0]))]⟩ [] 50 28 [jD,(pc yk 7)]
 (.chk (az o9 (pi 1))
 (.call ⟨[],[(9,(.setn o9 (pi 1) 0 lW))]⟩ [] 56 28 [(av 8 o3),(pc o8 10)]
 (.chk (az o9 (pi 2))
 (.call ⟨[],[(9,(.setn o9 (pi 2) 0 pI))]⟩ [] 62 28 [(av 8 o3),(pc o8 9)]
 (.chk (az o9 (pi 3))
 (.chk (az (pc o3 3) (pc o7 2))
 (.call ⟨[],[(9,(.setn o9 (pi 3) 0 od))]⟩ [] 73 28 [(av 8 o3),(pc (pn (pc o3 3) (pc o7 2)) 1)]
 (.chk (az o9 (pi 4))
 (.call ⟨[],[(9,(.setn o9 (pi 4) 0 CC))]⟩ [] 76 85 [(.setn o9 (pi 4) 0 CC),(pi (-1))]
 (.ite qM
 (.ret pL)
 (.ret o9)))))))))))))))))
def anr (b:Nat→PC):PT×List (Shp×PT):=(SJ,[])
theorem abK:El.map told=some (anr (aw El)):=by kernel_rfl
theorem axS:tree QE=SJ:=aB abK
theorem ai5:El=some QE:=aA abK
noncomputable def Em:Option PC:=ay {ctx with fr:=[6],nh:=[]} Tryz.f76 ⟨[Y8,I,oz],.nils .bool,.dat⟩ [3,5,7,8,42,9]
noncomputable def QF:PC:=ax Em
def Lt:PT:=
 (.chk (az (pc (.mk [r2]) 15) (pc (.mk [r2]) 19))
 (.ite adE
 (.ret pL)
 (.chk (.an (aV (pi 5) (pi 0)) (bL (pi 5) cT))
 (.chk (ao (pi 5) (pi 5))
 (.chk (az (.rep (pi 5) (pi 0)) (pi 0))
 (.call ⟨[],[(9,(.setn (.rep (pi 5) (pi 0)) (pi 0) 0 r1)),(8,(.setc LP 0 (av 15 (.mk [r2])))),(7,yk),(3,(.mk [r0]))]⟩ [] 50 28 [jD,(pc yk 7)]
 (.chk (az o9 (pi 1))
 (.call ⟨[],[(9,(.setn o9 (pi 1) 0 lW))]⟩ [] 56 28 [(av 8 o3),(pc o8 10)]
 (.chk (az o9 (pi 2))
 (.call ⟨[],[(9,(.setn o9 (pi 2) 0 pI))]⟩ [] 62 28 [(av 8 o3),(pc o8 9)]
 (.chk (az o9 (pi 3))
 (.chk (az (pc o3 3) (pc o7 2))
 (.call ⟨[],[(9,(.setn o9 (pi 3) 0 od))]⟩ [] 73 28 [(av 8 o3),(pc (pn (pc o3 3) (pc o7 2)) 1)]
 (.chk (az o9 (pi 4))
 (.call ⟨[],[]⟩ [] 76 85 [(.setn o9 (pi 4) 0 CC),(pi (-1))]
 (.ite qM
 (.ret pL)
 (.chk pF
 (.next ⟨[],[]⟩))))))))))))))))))
def ans (b:Nat→PC):PT×List (Shp×PT):=(Lt,[])
theorem abL:Em.map told=some (ans (aw Em)):=by kernel_rfl
theorem axT:tree QF=Lt:=aB abL
theorem ai6:Em=some QF:=aA abL
end Rm
