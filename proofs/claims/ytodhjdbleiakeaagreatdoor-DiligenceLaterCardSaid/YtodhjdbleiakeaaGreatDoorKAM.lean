/-
  The functions of this seat, compiled (2).
-/
import Derived.Test.YtodhjdbleiakeaaGreatDoorKAK
import Derived.KernelRfl
set_option linter.unusedVariables false
set_option maxRecDepth 100000
namespace Rm
open Go Go.Proofs Cx
noncomputable def zV:Option PC:=az {ctx with fr:=[4,5],nh:=[]} Tryz.f216 ((ab af 216).getD default) []
noncomputable def JJ:PC:=ay zV
noncomputable def Mq:Nat→PC:=bn zV
def auL (b:Nat→PC):PC:=.block 0 [4,8,9] [] (.loop [4,8] [] (b 0))
def Dc (b:Nat→PC):PT:=
 (.ite (aj r8 r7)
 (.blockS ⟨[],[]⟩ 1 [4,5,10,11,12,13,14,15,16] []
 (.chk (au r0 r8)
 (.callc ⟨[(5,r8)],[]⟩ [] 16 r1 [(pn r0 r8)]
 (.ite dc
 (.ret r5)
 (.next ⟨[],[]⟩))))
 (.next ⟨[(8,qO)],[]⟩))
 (.exit 0 ⟨[(9,(aj r8 r7))],[]⟩))
def Us (b:Nat→PC):PT:=
 (.brk ⟨[(8,(pi 0)),(7,(.llen r0)),(4,(pi 0))],[]⟩
(auL b)
 (.ret (pi (-1))))
def apx (b:Nat→PC):PT×List (Shp×PT):=(Us b,[(.lp 0 [4,8,9] [] [4,8] [],Dc b)])
theorem Qq:zV.map told=some (apx (ax zV)):=by kernel_rfl
theorem aAh:tree JJ=Us Mq:=aC Qq
theorem RX:round 0 [4,8,9] [] [4,8] [] (Mq 0)=Dc Mq:=be Qq 0 fun _=>rfl
theorem ak3:zV=some JJ:=aB Qq
noncomputable def zf:Option PC:=az {ctx with fr:=[8,9],nh:=[]} Tryz.f93 ((ab af 93).getD default) [4,11]
noncomputable def Ib:PC:=ay zf
noncomputable def L3:Nat→PC:=bn zf
def atI (b:Nat→PC):PC:=.block 0 [8,9,25,26] [] (.loop [8,9,25] [] (b 0))
def Cv (b:Nat→PC):PT:=
 (.ite (aj iV om)
 (.chk (au iU iV)
 (.ite (.pick (aq (pc Cd 0) r2) (aU (pc Cd 1) (pi 0)) pF)
 (.chk (au r3 (pc Cd 1))
 (.ret (.tup [(pn r3 (pc Cd 1)),(pc Cd 2)])))
 (.next ⟨[(25,(aN iV (pi 1)))],[]⟩)))
 (.exit 0 ⟨[(26,(aj iV om))],[]⟩))
def SZ (b:Nat→PC):PT:=
 (.call ⟨[(9,pF),(8,(pi 0))],[(4,(.mk [r0]))]⟩ [] 16 92 [hH,r1,r2,r3]
 (.ite (.nt dc)
 (.ret (.tup [(pi (-1)),pF]))
 (.chk (au (pc o4 4) r1)
 (.brk ⟨[(25,(pi 0)),(24,(.llen (pc (pn (pc o4 4) r1) 2))),(23,(pc (pn (pc o4 4) r1) 2))],[]⟩
(atI b)
 (.ret (.tup [r1,pF]))))))
def an4 (b:Nat→PC):PT×List (Shp×PT):=(SZ b,[(.lp 0 [8,9,25,26] [] [8,9,25] [],Cv b)])
theorem P3:zf.map told=some (an4 (ax zf)):=by kernel_rfl
theorem ayR:tree Ib=SZ L3:=aC P3
theorem Rh:round 0 [8,9,25,26] [] [8,9,25] [] (L3 0)=Cv L3:=be P3 0 fun _=>rfl
theorem ajB:zf=some Ib:=aB P3
noncomputable def ER:Option PC:=az {ctx with fr:=[7,9,11,12],nh:=[]} Tryz.f35 ((ab af 35).getD default) [3,6,8,10]
noncomputable def ID:PC:=ay ER
def Tp:PT:=
 (.call ⟨[],[(6,cR)]⟩ [] 16 95 [(ar 4 (.mk [r0])),r1]
 (.ite (aU (.tget dc 1) (pi 0))
 (.ret (.tup [(.mk [(pc (.setc o6 0 oe) 0),(pc (.setc o6 0 oe) 1)]),(.tget dc 1)]))
 (.call ⟨[],[]⟩ [] 25 96 [(.mk [(pc (.setc kW 0 (.tget dc 0)) 0),(pc (.setc kW 0 (.tget dc 0)) 1),(pc (.setc kW 0 (.tget dc 0)) 2)]),r2]
 (.call ⟨[],[(10,(.setc cR 0 iV))]⟩ [] 28 97 [r1]
 (.ret (.tup [(.mk [(pc (.setc o6 0 (.mk [(pc Km 0),(pc Km 1)])) 0),(pc (.setc o6 0 (.mk [(pc Km 0),(pc Km 1)])) 1)]),(pi 0)]))))))
def aot (b:Nat→PC):PT×List (Shp×PT):=(Tp,[])
theorem acu:ER.map told=some (aot (ax ER)):=by kernel_rfl
theorem azg:tree ID=Tp:=aC acu
theorem aj0:ER=some ID:=aB acu
noncomputable def ET:Option PC:=az {ctx with fr:=[5,6,7,8,10,11],nh:=[]} Tryz.f95 ((ab af 95).getD default) [2,3,4,12292,9]
noncomputable def IF:PC:=ay ET
def Tr:PT:=
 (.call ⟨[],[(4,kW),(3,(.mk [r1])),(2,(.mk [r0]))]⟩ [] 14 97 [(pc (.mk [r1]) 0)]
 (.ite (.nt (.tget cL 1))
 (.ret (.tup [QW,(pi 1)]))
 (.call ⟨[(6,(.tget cL 0))],[]⟩ [] 23 168 [(pc o2 3),(.clo 169 [(.ref (pc o3 0))])]
 (.ite (aj iU (pi 0))
 (.ret (.tup [QW,(pi 4)]))
 (.chk (au (pc o2 3) iU)
 (.call ⟨[],[(9,Kq)]⟩ [] 35 170 [(.mk [(pc Kq 0),(pc Kq 1),(pc Kq 2)])]
 (.ite (.pick (aU (.tget uX 1) (pi 0)) pT (aU (.tget uX 0) r6))
 (.ret (.tup [QW,(pi 11)]))
 (.ret (.tup [(.mk [(pc Q0 0),(pc Q0 1),(pc Q0 2)]),(pi 0)])))))))))
def aov (b:Nat→PC):PT×List (Shp×PT):=(Tr,[])
theorem acw:ET.map told=some (aov (ax ET)):=by kernel_rfl
theorem azj:tree IF=Tr:=aC acw
theorem aj3:ET=some IF:=aB acw
noncomputable def EU:Option PC:=az {ctx with fr:=[3],nh:=[]} Tryz.f169 ((ab af 169).getD default) [2]
noncomputable def IG:PC:=ay EU
def Ts:PT:=
 (.ret (aq jS (.deref r1)))
def aow (b:Nat→PC):PT×List (Shp×PT):=(Ts,[])
theorem acx:EU.map told=some (aow (ax EU)):=by kernel_rfl
theorem azi:tree IG=Ts:=aC acx
theorem aj2:EU=some IG:=aB acx
noncomputable def zU:Option PC:=az {ctx with fr:=[4,5],nh:=[]} Tryz.f168 ((ab af 168).getD default) []
noncomputable def JI:PC:=ay zU
noncomputable def Mp:Nat→PC:=bn zU
def auK (b:Nat→PC):PC:=.block 0 [4,8,9] [] (.loop [4,8] [] (b 0))
def Db (b:Nat→PC):PT:=
 (.ite (aj r8 r7)
 (.blockS ⟨[],[]⟩ 1 [4,5,10,11,12,13,14,15,16] []
 (.chk (au r0 r8)
 (.callc ⟨[(5,r8)],[]⟩ [] 16 r1 [(pn r0 r8)]
 (.ite dc
 (.ret r5)
 (.next ⟨[],[]⟩))))
 (.next ⟨[(8,qO)],[]⟩))
 (.exit 0 ⟨[(9,(aj r8 r7))],[]⟩))
def Ur (b:Nat→PC):PT:=
 (.brk ⟨[(8,(pi 0)),(7,(.llen r0)),(4,(pi 0))],[]⟩
(auK b)
 (.ret (pi (-1))))
def apw (b:Nat→PC):PT×List (Shp×PT):=(Ur b,[(.lp 0 [4,8,9] [] [4,8] [],Db b)])
theorem Qp:zU.map told=some (apw (ax zU)):=by kernel_rfl
theorem aAg:tree JI=Ur Mp:=aC Qp
theorem RW:round 0 [4,8,9] [] [4,8] [] (Mp 0)=Db Mp:=be Qp 0 fun _=>rfl
theorem ak2:zU=some JI:=aB Qp
noncomputable def Ft:Option PC:=az {ctx with fr:=[2,3],nh:=[]} Tryz.f170 ((ab af 170).getD default) [1]
noncomputable def JV:PC:=ay Ft
def UC:PT:=
 (.call ⟨[],[(1,(.mk [r0]))]⟩ [] 5 217 [(.mk [jS,od,uQ]),(pi 1)]
 (.ite (aV r5 (pi 60))
 (.ret (.tup [(pi 0),(pi 6)]))
 (.call ⟨[],[]⟩ [] 8 218 [(.mk [(pc o1 0),(pc o1 1),(pc o1 2)])]
 (.ret (.tup [(.tget r8 0),(.tget r8 1)])))))
def apJ (b:Nat→PC):PT×List (Shp×PT):=(UC,[])
theorem ac3:Ft.map told=some (apJ (ax Ft)):=by kernel_rfl
theorem aAq:tree JV=UC:=aC ac3
theorem alf:Ft=some JV:=aB ac3
noncomputable def Ab:Option PC:=az {ctx with fr:=[4,5],nh:=[]} Tryz.f217 ((ab af 217).getD default) [2,7,12295]
noncomputable def J5:PC:=ay Ab
noncomputable def Mw:Nat→PC:=bn Ab
def auU (b:Nat→PC):PC:=.block 0 [5,13,14] [] (.loop [5,13] [] (b 0))
def Di (b:Nat→PC):PT:=
 (.ite (aj dz bM)
 (.blockS ⟨[(14,(aj dz bM))],[]⟩ 1 [5,7,15,16,17,18,19,20,21,22,23,24] [7,12295]
 (.chk (au bI dz)
 (.call ⟨[(17,r5)],[]⟩ [] 21 217 [(.mk [(pc (.setc kW 0 pG) 0),(pc (.setc kW 0 pG) 1),(pc (.setc kW 0 pG) 2)]),(aN r1 (pi 1))]
 (.ite (aV (aN iT jU) (pi 60))
 (.exit 0 ⟨[(5,(aN iT jU))],[]⟩)
 (.next ⟨[(5,(aN iT jU))],[]⟩))))
 (.next ⟨[(13,(aN dz (pi 1)))],[]⟩))
 (.exit 0 ⟨[(14,(aj dz bM))],[]⟩))
def LA (b:Nat→PC):PT:=
 (.ite (aV r1 (pi 8))
 (.ret (pi 61))
 (.brk ⟨[(13,(pi 0)),(12,oh),(11,uQ),(5,(pi 1))],[]⟩
(auU b)
 (.ret r5)))
def apT (b:Nat→PC):PT×List (Shp×PT):=(LA b,[(.lp 0 [5,13,14] [] [5,13] [],Di b)])
theorem Qw:Ab.map told=some (apT (ax Ab)):=by kernel_rfl
theorem afr:tree J5=LA Mw:=aC Qw
theorem R3:round 0 [5,13,14] [] [5,13] [] (Mw 0)=Di Mw:=be Qw 0 fun _=>rfl
theorem alq:Ab=some J5:=aB Qw
noncomputable def z8:Option PC:=az {ctx with fr:=[2,3,5,7,8,38,47,10,11,12],nh:=[]} Tryz.f218 ((ab af 218).getD default) [1,4,6,12294,9]
noncomputable def JZ:PC:=ay z8
noncomputable def y5:Nat→PC:=bn z8
def auR (b:Nat→PC):PC:=.block 0 [2,3,20,21] [4] (.loop [2,3,20] [4] (b 0))
def auS (b:Nat→PC):PC:=.block 3 [2,3,10,82,83] [] (.loop [2,3,10,82] [] (b 1))
def Dg (b:Nat→PC):PT:=
 (.ite (aj dL jx)
 (.blockS ⟨[],[]⟩ 1 [2,3,5,6,7,8,22,23,24,25,26,27,28,29,30,31,33,34,35,36] [6,12294,4]
 (.chk (au gm dL)
 (.call ⟨[(5,dL)],[]⟩ [] 27 218 [(.mk [(pc (.setc kW 0 (pn gm dL)) 0),(pc (.setc kW 0 (pn gm dL)) 1),(pc (.setc kW 0 (pn gm dL)) 2)])]
 (.ite (aU (.tget ed 1) (pi 0))
 (.ret (.tup [(pi 0),(.tget ed 1)]))
 (.chk (au o4 r5)
 (.next ⟨[],[(4,(.setn o4 r5 0 (.tget ed 0)))]⟩)))))
 (.next ⟨[(20,(aN dL (pi 1)))],[]⟩))
 (.exit 0 ⟨[(21,(aj dL jx))],[]⟩))
def sB (b:Nat→PC):PT:=
 (.ite (aj jW vb)
 (.chk (au va jW)
 (.ite (.pick (aq (pn va jW) (pi (-1))) (aq cE (pi (-1))) pF)
 (.chk (au o4 jW)
 (.ite (aU (pn o4 jW) (.pick (aq (pn va jW) (pi (-1))) (pn o4 jW) (pn va jW)))
 (.ret (.tup [(pi 0),(pi 11)]))
 (.next ⟨[(10,(pn o4 jW)),(82,(aN jW (pi 1)))],[]⟩)))
 (.chk (au o4 jW)
 (.ite (aU (pn o4 jW) (.pick (aq (pn va jW) (pi (-1))) cE (pn va jW)))
 (.ret (.tup [(pi 0),(pi 11)]))
 (.next ⟨[(82,(aN jW (pi 1)))],[]⟩)))))
 (.exit 3 ⟨[(83,(aj jW vb))],[]⟩))
def UG (b:Nat→PC):PT:=
 (.chk (.an (cm oh (pi 0)) (br oh cn))
 (.chk (aq oh oh)
 (.brk ⟨[(20,(pi 0)),(19,oh),(18,uQ),(4,pN),(3,(pi 0)),(2,(pi 0))],[(4,(.rep oh (pi 0))),(1,(.mk [r0]))]⟩
(auR b)
 (.blockS ⟨[],[]⟩ 2 [2,3,38,39,40,41,42,46,47,48,49,50,51,55,56,60] []
 (.iteS ⟨[],[]⟩ (.pick (aj (pc o1 0) (pi 0)) pT (aV (pc o1 0) (pi 13))) [2,3,47,48,49,50,51,55,56,60] []
 (.ret (.tup [(pi 0),(pi 1)]))
 (.iteS ⟨[],[]⟩ (.pick (.pick (aq (pc o1 0) (pi 0)) pT (aq (pc o1 0) (pi 1))) pT (aq (pc o1 0) (pi 2))) [2,3] []
 (.call ⟨[],[]⟩ [] 62 260 [(.mk [(pc o1 0),(pc o1 1),(pc o1 2)])]
 (.ret (.tup [(.tget kp 0),(.tget kp 1)])))
 (.next ⟨[],[]⟩)
 (.next ⟨[],[]⟩))
 (.next ⟨[],[]⟩))
 (.call ⟨[],[]⟩ [] 67 261 [(pc o1 0)]
 (.ite (.pick (aU (.llen o4) (.llen (pc (.setc ki 0 sw) 0))) pT (aU (pc o1 1) (pi 0)))
 (.ret (.tup [(pi 0),(pi 2)]))
 (.brk ⟨[(82,(pi 0)),(81,(.llen (pc (.setc ki 0 sw) 0))),(80,(pc (.setc ki 0 sw) 0)),(10,(pi (-1)))],[(9,(.setc ki 0 sw))]⟩
(auS b)
 (.ite (aq (pc o9 1) (pi (-1)))
 (.ret (.tup [cE,(pi 0)]))
 (.ret (.tup [(pc o9 1),(pi 0)]))))))))))
def apN (b:Nat→PC):PT×List (Shp×PT):=(UG b,[(.lp 0 [2,3,20,21] [4] [2,3,20] [4],Dg b),(.lp 3 [2,3,10,82,83] [] [2,3,10,82] [],sB b)])
theorem HI:z8.map told=some (apN (ax z8)):=by kernel_rfl
theorem aAu:tree JZ=UG y5:=aC HI
theorem R1:round 0 [2,3,20,21] [4] [2,3,20] [4] (y5 0)=Dg y5:=be HI 0 fun _=>rfl
theorem xZ:round 3 [2,3,10,82,83] [] [2,3,10,82] [] (y5 1)=sB y5:=be HI 1 fun _=>rfl
theorem alj:z8=some JZ:=aB HI
noncomputable def Fz:Option PC:=az {ctx with fr:=[2,3,12,20,4,5],nh:=[]} Tryz.f260 ((ab af 260).getD default) [1]
noncomputable def J2:PC:=ay Fz
def UJ:PT:=
 (.ite (aV oh (pi 0))
 (.ret (.tup [(pi 0),(pi 2)]))
 (.blockS ⟨[(11,jS)],[(1,(.mk [r0]))]⟩ 0 [2,3,12,13,20,21] []
 (.iteS ⟨[],[]⟩ (aq bI (pi 0)) [2,3,20,21] []
 (.call ⟨[],[]⟩ [] 16 264 [(pc o1 1)]
 (.ite (aU dc (pc o1 1))
 (.ret (.tup [(pi 0),(pi 3)]))
 (.ret (.tup [(pi 0),(pi 0)]))))
 (.ite (aq bI (pi 1))
 (.ite (.pick (aj (pc o1 1) (pi 0)) pT (aV (pc o1 1) (pi 1)))
 (.ret (.tup [(pi 0),(pi 3)]))
 (.ret (.tup [(pi 1),(pi 0)])))
 (.next ⟨[],[]⟩))
 (.next ⟨[],[]⟩))
 (.call ⟨[],[]⟩ [] 33 262 [(pc o1 1)]
 (.ite (.nt (.tget uW 1))
 (.ret (.tup [(pi 0),(pi 10)]))
 (.ret (.tup [(.tget uW 0),(pi 0)]))))))
def apQ (b:Nat→PC):PT×List (Shp×PT):=(UJ,[])
theorem ac9:Fz.map told=some (apQ (ax Fz)):=by kernel_rfl
theorem aAx:tree J2=UJ:=aC ac9
theorem aln:Fz=some J2:=aB ac9
noncomputable def Fy:Option PC:=az {ctx with fr:=[2],nh:=[]} Tryz.f264 ((ab af 264).getD default) []
noncomputable def J1:PC:=ay Fy
def UI:PT:=
 (.ret (.mn (.mx r0 (pi (-1099511627776))) xM))
def apP (b:Nat→PC):PT×List (Shp×PT):=(UI,[])
theorem ac8:Fy.map told=some (apP (ax Fy)):=by kernel_rfl
theorem aAw:tree J1=UI:=aC ac8
theorem alm:Fy=some J1:=aB ac8
noncomputable def Fv:Option PC:=az {ctx with fr:=[2,3,4,11],nh:=[]} Tryz.f262 ((ab af 262).getD default) []
noncomputable def JX:PC:=ay Fv
def UE:PT:=
 (.ite (.pick (aj r0 (pi 0)) pT (aV r0 (pi 19)))
 (.ret (.tup [(pi 0),pF]))
 (.ite (aj r0 (pi 7))
 (.ret (.tup [(pi 0),pT]))
 (.ret (.tup [(pi 1),pT]))))
def apL (b:Nat→PC):PT×List (Shp×PT):=(UE,[])
theorem ac5:Fv.map told=some (apL (ax Fv)):=by kernel_rfl
theorem aAs:tree JX=UE:=aC ac5
theorem alh:Fv=some JX:=aB ac5
noncomputable def FC:Option PC:=az {ctx with fr:=[4,8,13,17,21],nh:=[]} Tryz.f261 ((ab af 261).getD default) [2]
noncomputable def J7:PC:=ay FC
def UM:PT:=
 (.ite (aq r0 (pi 3))
 (.ret (.mk [(pc (.setc ki 0 (.mk [(.lst [(pi 1)]),(pi 1)])) 0),(pc (.setc ki 0 (.mk [(.lst [(pi 1)]),(pi 1)])) 1)]))
 (.ite (.pick (aq r0 (pi 4)) (aq r0 (pi 4)) (aq r0 (pi 5)))
 (.ret (.mk [(pc (.setc ki 0 (.mk [(.lst [(pi 1),(pi 1)]),(pi 1)])) 0),(pc (.setc ki 0 (.mk [(.lst [(pi 1),(pi 1)]),(pi 1)])) 1)]))
 (.ite (aq r0 (pi 6))
 (.ret (.mk [(pc adF 0),(pc adF 1)]))
 (.ite (aq r0 (pi 7))
 (.ret (.mk [(pc (.setc ki 0 (.mk [(.lst [(pi 0),(pi 0)]),(pi 1)])) 0),(pc (.setc ki 0 (.mk [(.lst [(pi 0),(pi 0)]),(pi 1)])) 1)]))
 (.ite (aq r0 (pi 8))
 (.ret (.mk [(pc (.setc ki 0 (.mk [(.lst [(pi (-1)),(pi (-1))]),(pi 1)])) 0),(pc (.setc ki 0 (.mk [(.lst [(pi (-1)),(pi (-1))]),(pi 1)])) 1)]))
 (.ret (.mk [(pc (.setc ki 0 (.mk [(.lst [(pi 0),(pi 0)]),(pi 0)])) 0),(pc (.setc ki 0 (.mk [(.lst [(pi 0),(pi 0)]),(pi 0)])) 1)])))))))
def apV (b:Nat→PC):PT×List (Shp×PT):=(UM,[])
theorem ade:FC.map told=some (apV (ax FC)):=by kernel_rfl
theorem aAB:tree J7=UM:=aC ade
theorem als:FC=some J7:=aB ade
noncomputable def Fu:Option PC:=az {ctx with fr:=[5,6,8],nh:=[]} Tryz.f96 ((ab af 96).getD default) [2,4,7]
noncomputable def JW:PC:=ay Fu
def UD:PT:=
 (.call ⟨[],[(4,cR),(2,(.mk [r0]))]⟩ [] 11 170 [(.mk [jS,od,uQ])]
 (.ite (aU (.tget bI 1) (pi 0))
 (.ret Cb)
 (.call ⟨[],[]⟩ [] 21 171 [(.mk [r1]),(.mk [(pc o2 0),(pc o2 1),(pc o2 2)])]
 (.ret (.mk [(pc adZ 0),(pc adZ 1)])))))
def apK (b:Nat→PC):PT×List (Shp×PT):=(UD,[])
theorem ac4:Fu.map told=some (apK (ax Fu)):=by kernel_rfl
theorem aAr:tree JW=UD:=aC ac4
theorem alg:Fu=some JW:=aB ac4
noncomputable def Aa:Option PC:=az {ctx with fr:=[5,15,21,9,11],nh:=[]} Tryz.f171 ((ab af 171).getD default) [2,3,4,6,33,7,8,10,12298,12]
noncomputable def J3:PC:=ay Aa
noncomputable def Mv:Nat→PC:=bn Aa
def auT (b:Nat→PC):PC:=.block 1 [45,46] [7,8] (.loop [45] [7,8] (b 0))
def Dh (b:Nat→PC):PT:=
 (.ite (aj m4 uZ)
 (.blockS ⟨[],[]⟩ 2 [9,10,47,48,49,50,51,52,53,54,55,56,57,58,59,60,61] [10,12298,8,7]
 (.chk (au qT m4)
 (.call ⟨[(54,m4),(52,m4)],[]⟩ [] 57 171 [(.mk [(pc o2 0)]),(.mk [(pc (.setc kW 0 (pn qT m4)) 0),(pc (.setc kW 0 (pn qT m4)) 1),(pc (.setc kW 0 (pn qT m4)) 2)])]
 (.chk (au o7 Cn)
 (.chk (au o8 qU)
 (.next ⟨[],[(8,(.setn o8 qU 0 (.tget Cp 1))),(7,(.setn o7 Cn 0 (.tget Cp 0)))]⟩)))))
 (.next ⟨[(45,(aN m4 (pi 1)))],[]⟩))
 (.exit 1 ⟨[(46,(aj m4 uZ))],[]⟩))
def DF (b:Nat→PC):PT:=
 (.blockS ⟨[(14,(pc (.mk [r1]) 0))],[(4,cR),(3,(.mk [r1])),(2,(.mk [r0]))]⟩ 0 [5,15,16,21,22] [4]
 (.iteS ⟨[],[]⟩ (.pick (aq cL (pi 0)) (aq cL (pi 0)) (aq cL (pi 1))) [5,21,22] [4]
 (.ret (.tup [(.mk [(pc (.setc o4 0 (.mk [pT,(pc o3 1)])) 0),(pc (.setc o4 0 (.mk [pT,(pc o3 1)])) 1)]),pL]))
 (.iteS ⟨[],[]⟩ (aq cL (pi 2)) [5] [4]
 (.call ⟨[],[]⟩ [] 26 219 [(.mk [(pc o2 0)]),(pc o3 1)]
 (.ite (pc (.setc cR 0 kl) 0)
 (.ret (.tup [(.mk [(pc adE 0),(pc adE 1)]),pL]))
 (.ret (.tup [Cb,(.lst [(pc o3 1)])]))))
 (.next ⟨[],[]⟩)
 (.next ⟨[],[]⟩))
 (.next ⟨[],[]⟩))
 (.chk (.an (cm m0 (pi 0)) (br m0 cn))
 (.chk (aq m0 m0)
 (.brk ⟨[(45,(pi 0)),(44,m0),(43,(pc o3 2)),(8,pN),(7,pN)],[(8,(.rep m0 pL)),(7,(.rep m0 cR))]⟩
(auT b)
 (.chk (.nt (.an (.an (aq (pc o3 0) (pi 6)) pT) (.nt (au o7 (pi 0)))))
 (.ite (.pick (aq (pc o3 0) (pi 6)) (pc (pn o7 (pi 0)) 0) pF)
 (.chk (au o7 (pi 0))
 (.chk (au o7 Cc)
 (.chk (au o8 Cc)
 (.ret (.tup [(.mk [(pc (.setc o4 0 (.sub (pn o7 Cc) 0 2)) 0),(pc (.setc o4 0 (.sub (pn o7 Cc) 0 2)) 1)]),(pn o8 Cc)])))))
 (.call ⟨[],[]⟩ [] 88 220 [(pc o3 0),o7]
 (.ite (pc (.setc cR 0 KA) 0)
 (.ret (.tup [(.mk [(pc ad3 0),(pc ad3 1)]),pL]))
 (.call ⟨[(92,oe)],[]⟩ [] 94 221 [o8]
 (.ret (.tup [(.mk [(pc (.setc o4 0 Rd) 0),(pc (.setc o4 0 Rd) 1)]),r94])))))))))))
def apR (b:Nat→PC):PT×List (Shp×PT):=(DF b,[(.lp 1 [45,46] [7,8] [45] [7,8],Dh b)])
theorem Qv:Aa.map told=some (apR (ax Aa)):=by kernel_rfl
theorem aAy:tree J3=DF Mv:=aC Qv
theorem R2:round 1 [45,46] [7,8] [45] [7,8] (Mv 0)=Dh Mv:=be Qv 0 fun _=>rfl
theorem alo:Aa=some J3:=aB Qv
noncomputable def FA:Option PC:=az {ctx with fr:=[5,6],nh:=[]} Tryz.f219 ((ab af 219).getD default) [2,4]
noncomputable def J4:PC:=ay FA
def UK:PT:=
 (.chk (.nt (.an (.an (.nt (cm r1 (.llen jS))) pT) (.nt (au jS r1))))
 (.ite (.pick (cm r1 (.llen jS)) pT (.nt (pc (pn jS r1) 0)))
 (.ret (.mk [(pc (.setc cR 0 oe) 0),(pc (.setc cR 0 oe) 1)]))
 (.call ⟨[],[(4,cR),(2,(.mk [r0]))]⟩ [] 24 262 [r1]
 (.iteS ⟨[],[]⟩ (aq (.tget om 0) (pi 1)) [] [4]
 (.chk (au (pc o2 0) r1)
 (.call ⟨[],[]⟩ [] 36 263 [(aU (pc (pn (pc o2 0) r1) 1) (pi 0))]
 (.ret (.mk [(pc (.setc o4 0 jV) 0),(pc (.setc o4 0 jV) 1)]))))
 (.next ⟨[],[]⟩)
 (.chk (au (pc o2 0) r1)
 (.call ⟨[],[]⟩ [] 43 264 [(pc (pn (pc o2 0) r1) 1)]
 (.ret (.mk [(pc (.setc o4 0 (.mk [pT,qT])) 0),(pc (.setc o4 0 (.mk [pT,qT])) 1)]))))))))
def apS (b:Nat→PC):PT×List (Shp×PT):=(UK,[])
theorem ada:FA.map told=some (apS (ax FA)):=by kernel_rfl
theorem aAz:tree J4=UK:=aC ada
theorem alp:FA=some J4:=aB ada
noncomputable def FD:Option PC:=az {ctx with fr:=[],nh:=[]} Tryz.f263 ((ab af 263).getD default) [2]
noncomputable def J8:PC:=ay FD
def UN:PT:=
 (.ite r0
 (.ret (.mk [(pc Kt 0),(pc Kt 1)]))
 (.ret (.mk [(pc Ku 0),(pc Ku 1)])))
def apW (b:Nat→PC):PT×List (Shp×PT):=(UN,[])
theorem adf:FD.map told=some (apW (ax FD)):=by kernel_rfl
theorem aAC:tree J8=UN:=aC adf
theorem alu:FD=some J8:=aB adf
noncomputable def Fx:Option PC:=az {ctx with fr:=[9,22,41,6,7,82,88,94],nh:=[]} Tryz.f220 ((ab af 220).getD default) [4,5]
noncomputable def J0:PC:=ay Fx
def UH:PT:=
 (.blockS ⟨[(8,r0)],[(4,cR)]⟩ 0 [9,10,22,23] [4]
 (.iteS ⟨[],[]⟩ (aq r8 (pi 3)) [22,23] [4]
 (.chk (au r1 (pi 0))
 (.iteS ⟨[],[]⟩ (pc (pn r1 (pi 0)) 0) [] [4]
 (.chk (au r1 (pi 0))
 (.call ⟨[],[]⟩ [] 20 263 [(aq (pc (pn r1 (pi 0)) 1) (pi 0))]
 (.ret (.mk [(pc (.setc o4 0 dL) 0),(pc (.setc o4 0 dL) 1)]))))
 (.next ⟨[],[]⟩)
 (.ret Cb)))
 (.iteS ⟨[],[]⟩ (.pick (aq r8 (pi 4)) (aq r8 (pi 4)) (aq r8 (pi 5))) [] [4]
 (.call ⟨[],[]⟩ [] 27 263 [(aq r0 (pi 5))]
 (.chk (au r1 (pi 0))
 (.chk (.nt (.an (.an (.nt adU) pT) (.nt (au r1 (pi 1)))))
 (.ite (.pick adU pT (.an (.cb .eql (pc og 0) (pc xG 0)) (.an (aq (pc og 1) (pc xG 1)) pT)))
 (.ret (.mk [(pc (.setc o4 0 xG) 0),(pc (.setc o4 0 xG) 1)]))
 (.next ⟨[],[]⟩)))))
 (.ite (aq r8 (pi 6))
 (.chk (au r1 (pi 1))
 (.chk (.nt (.an (.an (pc og 0) pT) (.nt (au r1 (pi 1)))))
 (.chk (.nt (.an (.an (pc og 0) pT) (.nt (au r1 (pi 2)))))
 (.ite (.pick (pc og 0) (.an (.cb .eql (pc og 0) (pc (pn r1 (pi 2)) 0)) (.an (aq (pc og 1) (pc (pn r1 (pi 2)) 1)) pT)) pF)
 (.ret (.mk [(pc (.setc o4 0 og) 0),(pc (.setc o4 0 og) 1)]))
 (.ret Cb)))))
 (.next ⟨[],[]⟩))
 (.next ⟨[],[]⟩))
 (.next ⟨[],[]⟩))
 (.chk (au r1 (pi 0))
 (.chk (.nt (.an (.an (.nt (.nt (pc (pn r1 (pi 0)) 0))) pT) (.nt (au r1 (pi 1)))))
 (.ite (.pick (.nt (pc (pn r1 (pi 0)) 0)) pT (.nt (pc og 0)))
 (.ret Cb)
 (.chk (au r1 (pi 1))
 (.blockS ⟨[(81,r0),(7,(pc og 1)),(6,(pc (pn r1 (pi 0)) 1))],[]⟩ 1 [82,83,88,89,94,95] [4]
 (.iteS ⟨[],[]⟩ (.pick (aq vb (pi 4)) (aq vb (pi 4)) (aq vb (pi 5))) [88,89,94,95] [4]
 (.call ⟨[],[]⟩ [] 87 263 [(aq r0 (pi 4))]
 (.ret (.mk [(pc (.setc o4 0 r87) 0),(pc (.setc o4 0 r87) 1)])))
 (.iteS ⟨[],[]⟩ (aq vb (pi 7)) [94,95] [4]
 (.call ⟨[],[]⟩ [] 93 263 [(aj r6 r7)]
 (.ret (.mk [(pc (.setc o4 0 KB) 0),(pc (.setc o4 0 KB) 1)])))
 (.iteS ⟨[],[]⟩ (aq vb (pi 8)) [] [4]
 (.call ⟨[],[]⟩ [] 99 263 [(aq r6 r7)]
 (.ret (.mk [(pc (.setc o4 0 r99) 0),(pc (.setc o4 0 r99) 1)])))
 (.next ⟨[],[]⟩)
 (.next ⟨[],[]⟩))
 (.next ⟨[],[]⟩))
 (.next ⟨[],[]⟩))
 (.call ⟨[],[]⟩ [] 103 265 [r0,r6,r7]
 (.ret (.mk [(pc (.setc o4 0 (.mk [pT,ad5])) 0),(pc (.setc o4 0 (.mk [pT,ad5])) 1)])))))))))
def apO (b:Nat→PC):PT×List (Shp×PT):=(UH,[])
theorem ac7:Fx.map told=some (apO (ax Fx)):=by kernel_rfl
theorem aAv:tree J0=UH:=aC ac7
theorem alk:Fx=some J0:=aB ac7
noncomputable def Fw:Option PC:=az {ctx with fr:=[6,8,14,20,25],nh:=[]} Tryz.f265 ((ab af 265).getD default) []
noncomputable def JY:PC:=ay Fw
def UF:PT:=
 (.blockS ⟨[(7,r0)],[]⟩ 0 [6,8,9,14,15,20,21,25,26] []
 (.iteS ⟨[],[]⟩ (aq r7 (pi 9)) [6,14,15,20,21,25,26] []
 (.call ⟨[],[]⟩ [] 13 264 [(aN r1 r2)]
 (.ret dz))
 (.iteS ⟨[],[]⟩ (aq r7 (pi 10)) [6,20,21,25,26] []
 (.call ⟨[],[]⟩ [] 19 264 [(bz r1 r2)]
 (.ret jx))
 (.iteS ⟨[],[]⟩ (aq r7 (pi 11)) [6,25,26] []
 (.call ⟨[],[]⟩ [] 24 286 [r1,r2]
 (.ret om))
 (.ite (aq r7 (pi 12))
 (.ret (.mn r1 r2))
 (.next ⟨[],[]⟩))
 (.next ⟨[],[]⟩))
 (.next ⟨[],[]⟩))
 (.next ⟨[],[]⟩))
 (.ret (.mx r1 r2)))
def apM (b:Nat→PC):PT×List (Shp×PT):=(UF,[])
theorem ac6:Fw.map told=some (apM (ax Fw)):=by kernel_rfl
theorem aAt:tree JY=UF:=aC ac6
theorem ali:Fw=some JY:=aB ac6
noncomputable def FB:Option PC:=az {ctx with fr:=[4,5,6,7],nh:=[]} Tryz.f286 ((ab af 286).getD default) []
noncomputable def J6:PC:=ay FB
def UL:PT:=
 (.call ⟨[],[]⟩ [] 19 298 [(.conv .u64 (.mx r0 (bz (pi 0) r0))),(.conv .u64 (.mx r1 (bz (pi 0) r1)))]
 (.ite (.cb .neq (aj r0 (pi 0)) (aj r1 (pi 0)))
 (.ret (bz (pi 0) adK))
 (.ret adK)))
def apU (b:Nat→PC):PT×List (Shp×PT):=(UL,[])
theorem adb:FB.map told=some (apU (ax FB)):=by kernel_rfl
theorem aAA:tree J6=UL:=aC adb
theorem alr:FB=some J6:=aB adb
noncomputable def Ej:Option PC:=az {ctx with fr:=[4,5,6,7,8,9,10,11,12,13],nh:=[]} Tryz.f298 ((ab af 298).getD default) []
noncomputable def HV:PC:=ay Ej
def SM:PT:=
 (.chk (cm xK (pi 0))
 (.ret (.tup [(.ai .add .u64 (.ai .add .u64 (.ai .mul .u64 (.ai .shr .u64 r0 xK) (.ai .shr .u64 r1 xK)) (.ai .shr .u64 adJ xK)) (.ai .shr .u64 (.ai .add .u64 (.ai .and .u64 adJ (.con (.v (.int .u64 4294967295)))) (.ai .mul .u64 (.ai .and .u64 r0 (.con (.v (.int .u64 4294967295)))) (.ai .shr .u64 r1 xK))) xK)),(.ai .mul .u64 r0 r1)])))
def anO (b:Nat→PC):PT×List (Shp×PT):=(SM,[])
theorem abV:Ej.map told=some (anO (ax Ej)):=by kernel_rfl
theorem ayE:tree HV=SM:=aC abV
theorem ajl:Ej=some HV:=aB abV
noncomputable def zS:Option PC:=az {ctx with fr:=[2,3,5,8],nh:=[]} Tryz.f221 ((ab af 221).getD default) [6]
noncomputable def JC:PC:=ay zS
noncomputable def y3:Nat→PC:=bn zS
def auH (b:Nat→PC):PC:=.block 0 [3,11,12] [] (.loop [3,11] [] (b 0))
def auI (b:Nat→PC):PC:=.block 2 [6,27,28] [6] (.loop [6,27] [6] (b 1))
def KS (b:Nat→PC):PT:=
 (.ite (aj bI cE)
 (.chk (au r9 bI)
 (.ite (aj (aN r3 (.llen (pn r9 bI))) (pi 0))
 (.chk (.nt pT)
 (.chk (.nt pT)
 (.next ⟨[(3,(aN r3 (.llen (pn r9 bI)))),(11,(aN bI (pi 1)))],[]⟩)))
 (.next ⟨[(3,(aN r3 (.llen (pn r9 bI)))),(11,(aN bI (pi 1)))],[]⟩)))
 (.exit 0 ⟨[(12,(aj bI cE))],[]⟩))
def KT (b:Nat→PC):PT:=
 (.ite (aj ed kl)
 (.chk (au iV ed)
 (.chk (br (.llen (.app o6 (pn iV ed))) cn)
 (.next ⟨[(6,pN),(27,(aN ed (pi 1)))],[(6,(.app o6 (pn iV ed)))]⟩)))
 (.exit 2 ⟨[(28,(aj ed kl))],[]⟩))
def Ul (b:Nat→PC):PT:=
 (.brk ⟨[(11,(pi 0)),(10,(.llen r0)),(9,r0),(3,(pi 0))],[]⟩
(auH b)
 (.call ⟨[],[]⟩ [] 24 266 [pL,r3]
 (.brk ⟨[(27,(pi 0)),(26,(.llen r0)),(25,r0),(6,pN)],[(6,om)]⟩
(auI b)
 (.ret o6))))
def apq (b:Nat→PC):PT×List (Shp×PT):=(Ul b,[(.lp 0 [3,11,12] [] [3,11] [],KS b),(.lp 2 [6,27,28] [6] [6,27] [6],KT b)])
theorem HG:zS.map told=some (apq (ax zS)):=by kernel_rfl
theorem aAa:tree JC=Ul y3:=aC HG
theorem aeu:round 0 [3,11,12] [] [3,11] [] (y3 0)=KS y3:=be HG 0 fun _=>rfl
theorem aev:round 2 [6,27,28] [6] [6,27] [6] (y3 1)=KT y3:=be HG 1 fun _=>rfl
theorem akW:zS=some JC:=aB HG
noncomputable def Ed:Option PC:=az {ctx with fr:=[2],nh:=[]} Tryz.f48 ((ab af 48).getD default) [1]
noncomputable def HR:PC:=ay Ed
def SH:PT:=
 (.ite (.pick (aU xN (pi 0)) pT (.nt jS))
 (.ret (pi (-1)))
 (.ret od))
def anI (b:Nat→PC):PT×List (Shp×PT):=(SH,[])
theorem abP:Ed.map told=some (anI (ax Ed)):=by kernel_rfl
theorem ayy:tree HR=SH:=aC abP
theorem ajf:Ed=some HR:=aB abP
noncomputable def zQ:Option PC:=az {ctx with fr:=[2,4],nh:=[]} Tryz.f109 ((ab af 109).getD default) [1,3,6,8]
noncomputable def Jx:PC:=ay zQ
noncomputable def y1:Nat→PC:=bn zQ
def auF (b:Nat→PC):PC:=.block 0 [3,16,17] [3] (.loop [3,16] [3] (b 0))
def auG (b:Nat→PC):PC:=.block 2 [2,3,36,37] [3] (.loop [2,3,36] [3] (b 1))
def C8 (b:Nat→PC):PT:=
 (.ite (aj dc fP)
 (.chk (au cL dc)
 (.ite (.pick (aq r4 (pi 1)) (aq (pc (.setc z9 0 pE) 0) (pi 1)) pF)
 (.chk (br (.llen (.app o3 (.lst [(pc (.setc z9 0 pE) 6)]))) cn)
 (.next ⟨[(3,pN),(16,(aN dc (pi 1)))],[(3,(.app o3 (.lst [(pc (.setc z9 0 pE) 6)])))]⟩))
 (.next ⟨[(16,(aN dc (pi 1)))],[]⟩)))
 (.exit 0 ⟨[(17,(aj dc fP))],[]⟩))
def vh (b:Nat→PC):PT:=
 (.ite (aj jV uX)
 (.chk (au r34 jV)
 (.ite (.pick (aq r4 (pi 0)) (aq (pc Cg 0) (pi 2)) pF)
 (.ret (pc Cg 6))
 (.ite (.pick (aq r4 (pi 1)) (aq (pc Cg 0) (pi 1)) pF)
 (.chk (br (.llen (.app o3 (.lst [(pc Cg 6)]))) cn)
 (.next ⟨[(3,pN),(36,(aN jV (pi 1)))],[(3,(.app o3 (.lst [(pc Cg 6)])))]⟩))
 (.next ⟨[(36,(aN jV (pi 1)))],[]⟩))))
 (.exit 2 ⟨[(37,(aj jV uX))],[]⟩))
def Uh (b:Nat→PC):PT:=
 (.brk ⟨[(16,(pi 0)),(15,(.llen pB)),(14,pB),(4,uT),(3,pN),(2,(pi 0))],[(3,pL),(1,(.mk [r0]))]⟩
(auF b)
 (.brk ⟨[(36,(pi 0)),(35,(.llen (pc o1 17))),(34,(pc o1 17))],[]⟩
(auG b)
 (.ite (aq (.llen o3) (pi 0))
 (.ret (pi (-1)))
 (.call ⟨[],[]⟩ [] 66 182 [o3]
 (.ret r66)))))
def apk (b:Nat→PC):PT×List (Shp×PT):=(Uh b,[(.lp 0 [3,16,17] [3] [3,16] [3],C8 b),(.lp 2 [2,3,36,37] [3] [2,3,36] [3],vh b)])
theorem HE:zQ.map told=some (apk (ax zQ)):=by kernel_rfl
theorem az5:tree Jx=Uh y1:=aC HE
theorem RS:round 0 [3,16,17] [3] [3,16] [3] (y1 0)=C8 y1:=be HE 0 fun _=>rfl
theorem C9:round 2 [2,3,36,37] [3] [2,3,36] [3] (y1 1)=vh y1:=be HE 1 fun _=>rfl
theorem akR:zQ=some Jx:=aB HE
noncomputable def zY:Option PC:=az {ctx with fr:=[2,3,4],nh:=[]} Tryz.f182 ((ab af 182).getD default) []
noncomputable def JM:PC:=ay zY
noncomputable def Mt:Nat→PC:=bn zY
def Zi (b:Nat→PC):PC:=.block 0 [3,4,12,13,14,15] [] (.loop [3,4] [] (b 0))
def KU (b:Nat→PC):PT:=
 (.ite (aj r4 (.llen r0))
 (.chk (au r0 r4)
 (.next ⟨[(3,(.mn r3 (pn r0 r4))),(4,(aN r4 (pi 1)))],[]⟩))
 (.exit 0 ⟨[(12,r4),(13,r0),(14,(.llen r0)),(15,(aj r4 (.llen r0)))],[]⟩))
def Uv (b:Nat→PC):PT:=
 (.ite (aj (.llen r0) (pi 1))
 (.chk (.nt pT)
 (.chk (.nt pT)
 (.chk (au r0 (pi 0))
 (.brk ⟨[(4,(pi 1)),(3,(pn r0 (pi 0)))],[]⟩
(Zi b)
 (.ret r3)))))
 (.chk (au r0 (pi 0))
 (.brk ⟨[(4,(pi 1)),(3,(pn r0 (pi 0)))],[]⟩
(Zi b)
 (.ret r3))))
def apA (b:Nat→PC):PT×List (Shp×PT):=(Uv b,[(.lp 0 [3,4,12,13,14,15] [] [3,4] [],KU b)])
theorem Qt:zY.map told=some (apA (ax zY)):=by kernel_rfl
theorem aAk:tree JM=Uv Mt:=aC Qt
theorem aew:round 0 [3,4,12,13,14,15] [] [3,4] [] (Mt 0)=KU Mt:=be Qt 0 fun _=>rfl
theorem ak6:zY=some JM:=aB Qt
noncomputable def Fl:Option PC:=az {ctx with fr:=[8,9,15,39,58,74,11,12],nh:=[]} Tryz.f108 ((ab af 108).getD default) [4,5,10]
noncomputable def JN:PC:=ay Fl
def DE:PT:=
 (.blockS ⟨[],[(10,(.setc z3 0 (.mk [(pc (.mk [r1]) 5),(pc (.mk [r1]) 6),(pc (.mk [r1]) 7)]))),(5,(.mk [r1])),(4,(.mk [r0]))]⟩ 0 [8,9,15,16,17,18,19,25,26,32,33,38,39,40,41,42,43,47,48,52,53,57,58,59,60,61,65,66,69,70,73,74,75,76,77,80] []
 (.call ⟨[],[]⟩ [] 17 54 [(ar 8 o4)]
 (.call ⟨[(19,(aU iT (pi 0)))],[]⟩ [(19,false)] 23 177 [(ar 8 o4),(pc o5 9)]
 (.call ⟨[(26,(.pick jx pT (.nt iU)))],[]⟩ [(26,false)] 30 177 [(ar 8 o4),(pc o5 10)]
 (.call ⟨[(33,(.pick kl pT (.nt ma)))],[]⟩ [(33,false)] 36 178 [(pc o5 8)]
 (.iteS ⟨[],[]⟩ (.pick uW pT (.nt jV)) [8,9,39,40,41,42,43,47,48,52,53,57,58,59,60,61,65,66,69,70,73,74,75,76,77,80] []
 (.ret (.tup [(pi 0),(pi 1)]))
 (.iteS ⟨[],[]⟩ (.pick (.pick (.pick (aj (pc bP 0) (pi 0)) pT (cm (pc bP 0) (pi 5))) pT (aj (pc bP 2) (pi 0))) pT (cm (pc bP 2) (pi 2))) [8,9,58,59,60,61,65,66,69,70,73,74,75,76,77,80] []
 (.ret (.tup [(pi 0),(pi 1)]))
 (.call ⟨[(61,(aU r2 (pi (-1))))],[]⟩ [(61,true)] 63 178 [r2]
 (.iteS ⟨[],[]⟩ (.pick (.pick (.pick sv (.nt xP) pF) pT (aj r3 (pi 0))) pT (aV r3 (pi 20000))) [8,9,74,75,76,77,80] []
 (.ret (.tup [(pi 0),(pi 1)]))
 (.call ⟨[],[]⟩ [] 76 179 [(.mk [(pc bP 0),(pc bP 1),(pc bP 2)])]
 (.ite (.pick qV (aq r2 (pi (-1))) pF)
 (.ret (.tup [(pi 0),(pi 4)]))
 (.next ⟨[],[]⟩)))
 (.next ⟨[],[]⟩)))
 (.next ⟨[],[]⟩))
 (.next ⟨[],[]⟩))))))
 (.call ⟨[],[]⟩ [] 85 180 [(ar 8 o4),(ar 15 o5),r2]
 (.ite (aU (.tget Ct 1) (pi 0))
 (.ret (.tup [(pi 0),(.tget Ct 1)]))
 (.call ⟨[(11,(.tget Ct 0))],[]⟩ [] 92 178 [(.tget Ct 0)]
 (.ite (.pick (.nt Rd) pT (aV (aN bI r3) (pi 100000)))
 (.ret (.tup [(pi 0),(pi 3)]))
 (.call ⟨[],[]⟩ [] 106 181 [(ar 8 o4),(pc o5 10),(aN bI r3)]
 (.ret (.tup [(.tget Q9 0),(.tget Q9 1)]))))))))
def apB (b:Nat→PC):PT×List (Shp×PT):=(DE,[])
theorem acX:Fl.map told=some (apB (ax Fl)):=by kernel_rfl
theorem Uw:tree JN=DE:=aC acX
theorem ak7:Fl=some JN:=aB acX
noncomputable def zE:Option PC:=az {ctx with fr:=[2,3,4,5,6,7,10,11,12],nh:=[]} Tryz.f54 ((ab af 54).getD default) [1,9]
noncomputable def Je:PC:=ay zE
noncomputable def Mh:Nat→PC:=bn zE
def auk (b:Nat→PC):PC:=.block 0 [2,38,39] [] (.loop [2,38] [] (b 0))
def CV (b:Nat→PC):PT:=
 (.ite (aj iW kX)
 (.blockS ⟨[],[]⟩ 1 [2,9,40,41,42,43,44,45] [9]
 (.chk (au jV iW)
 (.call ⟨[],[]⟩ [] 44 91 [(pc (.setc Ci 0 (pn jV iW)) 0),(pi 10)]
 (.ite (.nt uZ)
 (.ret (pi 1))
 (.next ⟨[],[]⟩))))
 (.next ⟨[(38,(aN iW (pi 1)))],[]⟩))
 (.exit 0 ⟨[(39,(aj iW kX))],[]⟩))
def TX (b:Nat→PC):PT:=
 (.call ⟨[(2,(pi 0))],[(1,(.mk [r0]))]⟩ [] 15 129 [hH]
 (.call ⟨[(5,(.tget fP 2)),(4,(.tget fP 1)),(3,(.tget fP 0))],[]⟩ [] 21 130 [(pc o1 0),(pi 8),(.con (.clo 131 []))]
 (.ite (aU jU (pi 0))
 (.ret jU)
 (.call ⟨[],[(1,(ar 8 o1))]⟩ [] 27 130 [r3,(pi 40),(.clo 132 [(.ref (ar 8 o1))])]
 (.ite (aU ed (pi 0))
 (.ret ed)
 (.ite (aV pC (pi 20))
 (.ret (pi 6))
 (.brk ⟨[(38,(pi 0)),(37,pC),(36,(pc o1 2))],[]⟩
(auk b)
 (.call ⟨[],[]⟩ [] 49 130 [r4,(pi 200),(.clo 134 [(.ref o1)])]
 (.ite (aU mc (pi 0))
 (.ret mc)
 (.call ⟨[],[]⟩ [] 55 130 [r5,(pi 20),(.clo 135 [(.ref o1)])]
 (.ite (aU u7 (pi 0))
 (.ret u7)
 (.call ⟨[],[]⟩ [] 60 137 [(.sub o1 0 8)]
 (.ite (aU Cr (pi 0))
 (.ret Cr)
 (.call ⟨[],[]⟩ [] 65 138 [(.sub o1 0 8)]
 (.ret xQ)))))))))))))))
def ao1 (b:Nat→PC):PT×List (Shp×PT):=(TX b,[(.lp 0 [2,38,39] [] [2,38] [],CV b)])
theorem Qh:zE.map told=some (ao1 (ax zE)):=by kernel_rfl
theorem azR:tree Je=TX Mh:=aC Qh
theorem RF:round 0 [2,38,39] [] [2,38] [] (Mh 0)=CV Mh:=be Qh 0 fun _=>rfl
theorem akC:zE=some Je:=aB Qh
noncomputable def zJ:Option PC:=az {ctx with fr:=[],nh:=[]} Tryz.f129 ((ab af 129).getD default) [1,2,3,4,6,16390,20486,24582,21,8,34,10,12298,16394,47]
noncomputable def Jq:PC:=ay zJ
noncomputable def tn:Nat→PC:=bn zJ
def aup (b:Nat→PC):PC:=.block 0 [2,14,15] [2] (.loop [2,14] [2] (b 0))
def auq (b:Nat→PC):PC:=.block 2 [3,27,28] [3] (.loop [3,27] [3] (b 1))
def aur (b:Nat→PC):PC:=.block 4 [4,40,41] [4] (.loop [4,40] [4] (b 2))
def KN (b:Nat→PC):PT:=
 (.ite qP
 (.chk (au bM cL)
 (.chk (br (.llen adN) cn)
 (.next ⟨[(2,pN),(14,(aN cL (pi 1)))],[(2,adN)]⟩)))
 (.exit 0 ⟨[(15,qP)],[]⟩))
def KO (b:Nat→PC):PT:=
 (.ite (aj ed kl)
 (.chk (au iV ed)
 (.chk (br (.llen adS) cn)
 (.next ⟨[(3,pN),(27,(aN ed (pi 1)))],[(3,adS)]⟩)))
 (.exit 2 ⟨[(28,(aj ed kl))],[]⟩))
def KP (b:Nat→PC):PT:=
 (.ite (aj oq uY)
 (.chk (au iW oq)
 (.chk (br (.llen adO) cn)
 (.next ⟨[(4,pN),(40,(aN oq (pi 1)))],[(4,adO)]⟩)))
 (.exit 4 ⟨[(41,(aj oq uY))],[]⟩))
def Ua (b:Nat→PC):PT:=
 (.brk ⟨[(14,(pi 0)),(13,(.llen od)),(12,od),(4,pN),(3,pN),(2,pN)],[(4,pL),(3,pL),(2,pL),(1,(.mk [r0]))]⟩
(aup b)
 (.brk ⟨[(27,(pi 0)),(26,l9),(25,(pc o1 3))],[]⟩
(auq b)
 (.brk ⟨[(40,(pi 0)),(39,m3),(38,(pc o1 4))],[]⟩
(aur b)
 (.ret (.tup [o2,o3,o4])))))
def apd (b:Nat→PC):PT×List (Shp×PT):=(Ua b,[(.lp 0 [2,14,15] [2] [2,14] [2],KN b),(.lp 2 [3,27,28] [3] [3,27] [3],KO b),(.lp 4 [4,40,41] [4] [4,40] [4],KP b)])
theorem B0:zJ.map told=some (apd (ax zJ)):=by kernel_rfl
theorem azY:tree Jq=Ua tn:=aC B0
theorem aeq:round 0 [2,14,15] [2] [2,14] [2] (tn 0)=KN tn:=be B0 0 fun _=>rfl
theorem aer:round 2 [3,27,28] [3] [3,27] [3] (tn 1)=KO tn:=be B0 1 fun _=>rfl
theorem aes:round 4 [4,40,41] [4] [4,40] [4] (tn 2)=KP tn:=be B0 2 fun _=>rfl
theorem akK:zJ=some Jq:=aB B0
noncomputable def zH:Option PC:=az {ctx with fr:=[6,7,8],nh:=[]} Tryz.f130 ((ab af 130).getD default) []
noncomputable def Jm:PC:=ay zH
noncomputable def Mk:Nat→PC:=bn zH
def aun (b:Nat→PC):PC:=.block 0 [6,15,16] [] (.loop [6,15] [] (b 0))
def CX (b:Nat→PC):PT:=
 (.ite (aj fP cL)
 (.blockS ⟨[],[]⟩ 1 [6,7,8,17,18,19,20,21,22,24,25,26,27] []
 (.call ⟨[(7,fP)],[]⟩ [] 20 204 [r0,fP]
 (.ite (aU dL (pi 0))
 (.ret dL)
 (.callc ⟨[],[]⟩ [] 26 r2 [r7]
 (.ite (.nt kl)
 (.ret (pi 1))
 (.next ⟨[],[]⟩)))))
 (.next ⟨[(15,(aN fP (pi 1)))],[]⟩))
 (.exit 0 ⟨[(16,(aj fP cL))],[]⟩))
def T6 (b:Nat→PC):PT:=
 (.ite (aV (.llen r0) r1)
 (.ret (pi 6))
 (.brk ⟨[(15,(pi 0)),(14,(.llen r0)),(6,(pi 0))],[]⟩
(aun b)
 (.ret (pi 0))))
def ao9 (b:Nat→PC):PT×List (Shp×PT):=(T6 b,[(.lp 0 [6,15,16] [] [6,15] [],CX b)])
theorem Qk:zH.map told=some (ao9 (ax zH)):=by kernel_rfl
theorem azU:tree Jm=T6 Mk:=aC Qk
theorem RH:round 0 [6,15,16] [] [6,15] [] (Mk 0)=CX Mk:=be Qk 0 fun _=>rfl
theorem akG:zH=some Jm:=aB Qk
noncomputable def Fc:Option PC:=az {ctx with fr:=[4],nh:=[]} Tryz.f204 ((ab af 204).getD default) []
noncomputable def Jp:PC:=ay Fc
def T9:PT:=
 (.chk (au r0 r1)
 (.call ⟨[],[]⟩ [] 9 244 [(pn r0 r1)]
 (.ite (.nt r9)
 (.ret (pi 2))
 (.chk (.slok r0 (pi 0) r1)
 (.chk (au r0 r1)
 (.call ⟨[],[]⟩ [] 18 245 [(.slc r0 (pi 0) r1),(pn r0 r1)]
 (.ite gm
 (.ret (pi 5))
 (.ret (pi 0)))))))))
def apc (b:Nat→PC):PT×List (Shp×PT):=(T9,[])
theorem acP:Fc.map told=some (apc (ax Fc)):=by kernel_rfl
theorem azX:tree Jp=T9:=aC acP
theorem akJ:Fc=some Jp:=aB acP
noncomputable def zI:Option PC:=az {ctx with fr:=[2,3,4,5],nh:=[]} Tryz.f244 ((ab af 244).getD default) []
noncomputable def Jo:PC:=ay zI
noncomputable def Ml:Nat→PC:=bn zI
def auo (b:Nat→PC):PC:=.block 0 [2,16,17] [] (.loop [2,16] [] (b 0))
def CY (b:Nat→PC):PT:=
 (.ite (aj dc fP)
 (.chk (au cL dc)
 (.ite (.pick (.nt (.pick (.pick (cm pE (.con (.v (.int .u8 97)))) (br pE (.con (.v (.int .u8 122)))) pF) pT (.pick (cm pE (.con (.v (.int .u8 65)))) (br pE (.con (.v (.int .u8 90)))) pF))) (.pick (aq dc (pi 0)) pT (.pick (aU pE (.con (.v (.int .u8 95)))) (.pick (aj pE (.con (.v (.int .u8 48)))) pT (aV pE (.con (.v (.int .u8 57))))) pF)) pF)
 (.ret pF)
 (.next ⟨[(16,(aN dc (pi 1)))],[]⟩)))
 (.exit 0 ⟨[(17,(aj dc fP))],[]⟩))
def T8 (b:Nat→PC):PT:=
 (.ite (.pick (.cs .eql r0 (.con (.v (.string ⟨#[]⟩)))) pT (aV (.slen r0) (pi 20)))
 (.ret pF)
 (.chk (br (.slen r0) cn)
 (.brk ⟨[(16,(pi 0)),(15,(.llen (.bytes r0))),(14,(.bytes r0)),(2,pF)],[]⟩
(auo b)
 (.ret pT))))
def apb (b:Nat→PC):PT×List (Shp×PT):=(T8 b,[(.lp 0 [2,16,17] [] [2,16] [],CY b)])
theorem Ql:zI.map told=some (apb (ax zI)):=by kernel_rfl
theorem azW:tree Jo=T8 Ml:=aC Ql
theorem RI:round 0 [2,16,17] [] [2,16] [] (Ml 0)=CY Ml:=be Ql 0 fun _=>rfl
theorem akI:zI=some Jo:=aB Ql
noncomputable def Fk:Option PC:=az {ctx with fr:=[4],nh:=[]} Tryz.f245 ((ab af 245).getD default) []
noncomputable def JG:PC:=ay Fk
def Up:PT:=
 (.call ⟨[],[]⟩ [] 7 279 [r0,r1]
 (.ret (cm r7 (pi 0))))
def apu (b:Nat→PC):PT×List (Shp×PT):=(Up,[])
theorem acW:Fk.map told=some (apu (ax Fk)):=by kernel_rfl
theorem aAe:tree JG=Up:=aC acW
theorem ak0:Fk=some JG:=aB acW
noncomputable def zX:Option PC:=az {ctx with fr:=[4,5],nh:=[]} Tryz.f279 ((ab af 279).getD default) []
noncomputable def JL:PC:=ay zX
noncomputable def Ms:Nat→PC:=bn zX
def auN (b:Nat→PC):PC:=.block 0 [4,8,9] [] (.loop [4,8] [] (b 0))
def Df (b:Nat→PC):PT:=
 (.ite (aj r8 r7)
 (.chk (au r0 r8)
 (.ite (.cs .eql r1 (pn r0 r8))
 (.ret r8)
 (.next ⟨[(8,qO)],[]⟩)))
 (.exit 0 ⟨[(9,(aj r8 r7))],[]⟩))
def Uu (b:Nat→PC):PT:=
 (.brk ⟨[(8,(pi 0)),(7,(.llen r0)),(4,(pi 0))],[]⟩
(auN b)
 (.ret (pi (-1))))
def apz (b:Nat→PC):PT×List (Shp×PT):=(Uu b,[(.lp 0 [4,8,9] [] [4,8] [],Df b)])
theorem Qs:zX.map told=some (apz (ax zX)):=by kernel_rfl
theorem aAj:tree JL=Uu Ms:=aC Qs
theorem RZ:round 0 [4,8,9] [] [4,8] [] (Ms 0)=Df Ms:=be Qs 0 fun _=>rfl
theorem ak5:zX=some JL:=aB Qs
noncomputable def E6:Option PC:=az {ctx with fr:=[2],nh:=[]} Tryz.f131 ((ab af 131).getD default) []
noncomputable def Jf:PC:=ay E6
def TY:PT:=
 (.ret pT)
def ao2 (b:Nat→PC):PT×List (Shp×PT):=(TY,[])
theorem acJ:E6.map told=some (ao2 (ax E6)):=by kernel_rfl
theorem azN:tree Jf=TY:=aC acJ
theorem aky:E6=some Jf:=aB acJ
noncomputable def E7:Option PC:=az {ctx with fr:=[3],nh:=[]} Tryz.f132 ((ab af 132).getD default) []
noncomputable def Jg:PC:=ay E7
def TZ:PT:=
 (.chk (au (pc (.deref r1) 1) r0)
 (.call ⟨[],[]⟩ [] 10 133 [(.deref r1),(pn (pc (.deref r1) 1) r0)]
 (.ret cE)))
def ao3 (b:Nat→PC):PT×List (Shp×PT):=(TZ,[])
theorem acK:E7.map told=some (ao3 (ax E7)):=by kernel_rfl
theorem azO:tree Jg=TZ:=aC acK
theorem akz:E7=some Jg:=aB acK
noncomputable def zG:Option PC:=az {ctx with fr:=[4,6],nh:=[]} Tryz.f133 ((ab af 133).getD default) [2,3]
noncomputable def Jl:PC:=ay zG
noncomputable def Mj:Nat→PC:=bn zG
def aum (b:Nat→PC):PC:=.block 0 [4,10,11] [] (.loop [4,10] [] (b 0))
def CW (b:Nat→PC):PT:=
 (.ite (aj cE r9)
 (.chk (au r8 cE)
 (.chk xL
 (.chk (.nt (.an (.an (.nt (aj QU (pi 1))) pT) (.nt xL)))
 (.ite (.pick (aj QU (pi 1)) pT (aV QU (pi 31)))
 (.ret pF)
 (.next ⟨[(10,(aN cE (pi 1)))],[]⟩)))))
 (.exit 0 ⟨[(11,(aj cE r9))],[]⟩))
def T5 (b:Nat→PC):PT:=
 (.brk ⟨[(10,(pi 0)),(9,(.llen (pc (.mk [r1]) 4))),(8,(pc (.mk [r1]) 4)),(4,pF)],[(3,(.mk [r1])),(2,(.mk [r0]))]⟩
(aum b)
 (.call ⟨[(33,(.pick (aV (.llen (pc o3 4)) (pi 60)) pT (aV (.llen (pc o3 5)) (pi 200))))],[]⟩ [(33,false)] 39 91 [(pc o3 1),(.llen (pc o2 4))]
 (.call ⟨[(42,(.pick uW pT (.nt uY)))],[]⟩ [(42,false)] 48 91 [(pc o3 2),(.llen (pc o2 0))]
 (.ite (.pick r42 pT (.nt ko))
 (.ret pF)
 (.call ⟨[],[]⟩ [] 53 205 [(pc o3 3),(pi 0),(pi 6)]
 (.call ⟨[(54,Co)],[]⟩ [(54,true)] 57 205 [(pc o3 4),(pi 101),(pi 1231)]
 (.call ⟨[(59,(.pick qU Cp pF))],[]⟩ [(59,true)] 62 205 [(pc o3 5),(pi 0),(pi 100000)]
 (.ret (.pick r59 kp pF)))))))))
def ao8 (b:Nat→PC):PT×List (Shp×PT):=(T5 b,[(.lp 0 [4,10,11] [] [4,10] [],CW b)])
theorem Qj:zG.map told=some (ao8 (ax zG)):=by kernel_rfl
theorem azT:tree Jl=T5 Mj:=aC Qj
theorem RG:round 0 [4,10,11] [] [4,10] [] (Mj 0)=CW Mj:=be Qj 0 fun _=>rfl
theorem akF:zG=some Jl:=aB Qj
noncomputable def zM:Option PC:=az {ctx with fr:=[6,7,8],nh:=[]} Tryz.f205 ((ab af 205).getD default) []
noncomputable def Jt:PC:=ay zM
noncomputable def Mm:Nat→PC:=bn zM
def auw (b:Nat→PC):PC:=.block 0 [6,11,12] [] (.loop [6,11] [] (b 0))
def sA (b:Nat→PC):PT:=
 (.ite (aj bI cE)
 (.chk (au r9 bI)
 (.chk (.nt (.an (.an (aV bI (pi 0)) (.an (.nt (.pick (aj (pn r9 bI) r1) pT (aV (pn r9 bI) r2))) pT)) (.nt (au r0 (bz bI (pi 1))))))
 (.ite (.pick (.pick (aj (pn r9 bI) r1) pT (aV (pn r9 bI) r2)) pT (.pick (aV bI (pi 0)) (br (pn r9 bI) (pn r0 (bz bI (pi 1)))) pF))
 (.ret pF)
 (.next ⟨[(11,(aN bI (pi 1)))],[]⟩))))
 (.exit 0 ⟨[(12,(aj bI cE))],[]⟩))
def Ud (b:Nat→PC):PT:=
 (.brk ⟨[(11,(pi 0)),(10,(.llen r0)),(9,r0),(6,pF)],[]⟩
(auw b)
 (.ret pT))
def apg (b:Nat→PC):PT×List (Shp×PT):=(Ud b,[(.lp 0 [6,11,12] [] [6,11] [],sA b)])
theorem Qm:zM.map told=some (apg (ax zM)):=by kernel_rfl
theorem az1:tree Jt=Ud Mm:=aC Qm
theorem xW:round 0 [6,11,12] [] [6,11] [] (Mm 0)=sA Mm:=be Qm 0 fun _=>rfl
theorem akN:zM=some Jt:=aB Qm
noncomputable def E8:Option PC:=az {ctx with fr:=[3],nh:=[]} Tryz.f134 ((ab af 134).getD default) []
noncomputable def Jh:PC:=ay E8
def T2:PT:=
 (.chk (au (pc (.deref r1) 3) r0)
 (.call ⟨[],[]⟩ [] 13 91 [(pc (pn (pc (.deref r1) 3) r0) 1),(.llen (pc (.deref r1) 1))]
 (.chk (.nt (.an (.an dz pT) (.nt (au (pc (.deref r1) 3) r0))))
 (.call ⟨[(14,dz)],[]⟩ [(14,true)] 24 91 [(pc (pn (pc (.deref r1) 3) r0) 2),(.llen (pc (.deref r1) 2))]
 (.ret (.pick cL om pF))))))
def ao4 (b:Nat→PC):PT×List (Shp×PT):=(T2,[])
theorem acL:E8.map told=some (ao4 (ax E8)):=by kernel_rfl
theorem azP:tree Jh=T2:=aC acL
theorem akA:E8=some Jh:=aB acL
noncomputable def E9:Option PC:=az {ctx with fr:=[3],nh:=[]} Tryz.f135 ((ab af 135).getD default) []
noncomputable def Ji:PC:=ay E9
def T3:PT:=
 (.chk (au (pc (.deref r1) 4) r0)
 (.call ⟨[],[]⟩ [] 9 136 [(pn (pc (.deref r1) 4) r0)]
 (.ret r9)))
def ao5 (b:Nat→PC):PT×List (Shp×PT):=(T3,[])
theorem acM:E9.map told=some (ao5 (ax E9)):=by kernel_rfl
theorem azQ:tree Ji=T3:=aC acM
theorem akB:E9=some Ji:=aB acM
noncomputable def zK:Option PC:=az {ctx with fr:=[2],nh:=[]} Tryz.f136 ((ab af 136).getD default) [1,3,4,6,19,8,16392,36]
noncomputable def Jr:PC:=ay zK
noncomputable def yY:Nat→PC:=bn zK
def aus (b:Nat→PC):PC:=.block 0 [2,3,12,13] [3] (.loop [2,3,12] [3] (b 0))
def aut (b:Nat→PC):PC:=.block 2 [4,29,30] [4] (.loop [4,29] [4] (b 1))
def CZ (b:Nat→PC):PT:=
 (.ite (aj bM bI)
 (.blockS ⟨[],[]⟩ 1 [2,3,6,14,15,17,18,19,20,21,22,23,24] [6,19,3]
 (.chk (au cE bM)
 (.chk (br (.llen (.app o3 (.lst [(pc (.setc Ko 0 (pn cE bM)) 0)]))) cn)
 (.call ⟨[(3,pN)],[(3,(.app o3 (.lst [(pc (.setc Ko 0 (pn cE bM)) 0)])))]⟩ [] 23 91 [(pc (.setc Ko 0 (pn cE bM)) 1),(pi 5)]
 (.ite (.nt iU)
 (.ret pF)
 (.next ⟨[],[]⟩)))))
 (.next ⟨[(12,(aN bM (pi 1)))],[]⟩))
 (.exit 0 ⟨[(13,(aj bM bI))],[]⟩))
def KQ (b:Nat→PC):PT:=
 (.ite (aj km gE)
 (.chk (au ed km)
 (.chk (br (.llen adT) cn)
 (.next ⟨[(4,pN),(29,(aN km (pi 1)))],[(4,adT)]⟩)))
 (.exit 2 ⟨[(30,(aj km gE))],[]⟩))
def Ub (b:Nat→PC):PT:=
 (.brk ⟨[(12,(pi 0)),(11,oh),(10,uQ),(4,pN),(3,pN),(2,pF)],[(4,pL),(3,pL),(1,(.mk [r0]))]⟩
(aus b)
 (.brk ⟨[(29,(pi 0)),(28,l9),(27,(pc o1 3))],[]⟩
(aut b)
 (.call ⟨[],[]⟩ [] 40 205 [o3,(pi 0),(pi 21)]
 (.call ⟨[(41,oq)],[]⟩ [(41,true)] 43 205 [o4,(pi 0),(pi 21)]
 (.ret (.pick ot qT pF))))))
def ape (b:Nat→PC):PT×List (Shp×PT):=(Ub b,[(.lp 0 [2,3,12,13] [3] [2,3,12] [3],CZ b),(.lp 2 [4,29,30] [4] [4,29] [4],KQ b)])
theorem HB:zK.map told=some (ape (ax zK)):=by kernel_rfl
theorem azZ:tree Jr=Ub yY:=aC HB
theorem RJ:round 0 [2,3,12,13] [3] [2,3,12] [3] (yY 0)=CZ yY:=be HB 0 fun _=>rfl
theorem aet:round 2 [4,29,30] [4] [4,29] [4] (yY 1)=KQ yY:=be HB 1 fun _=>rfl
theorem akL:zK=some Jr:=aB HB
noncomputable def zN:Option PC:=az {ctx with fr:=[2,3],nh:=[]} Tryz.f137 ((ab af 137).getD default) [1,4,6]
noncomputable def Ju:PC:=ay zN
noncomputable def y0:Nat→PC:=bn zN
def auy (b:Nat→PC):PC:=.block 2 [2,50,51] [] (.loop [2,50] [] (b 0))
def auz (b:Nat→PC):PC:=.block 0 [2,14,15] [] (.loop [2,14] [] (b 1))
def xX (b:Nat→PC):PT:=
 (.ite (aj fQ mc)
 (.chk (au ko fQ)
 (.ite (.pick (aq (pc (.setc z3 0 (pn ko fQ)) 0) (pc o4 0)) (aq (pc (.setc z3 0 (pn ko fQ)) 1) (pc o4 1)) pF)
 (.ret (pi 5))
 (.next ⟨[(50,(aN fQ (pi 1)))],[]⟩)))
 (.exit 2 ⟨[(51,(aj fQ mc))],[]⟩))
def C2 (b:Nat→PC):PT:=
 (.ite qP
 (.blockS ⟨[(15,qP)],[]⟩ 1 [2,3,4,16,17,18,19,20,21,22,23,24,25,26,34,35,39,40,44,45,46,47,48,49,50,51] [4]
 (.chk (au bM cL)
 (.call ⟨[(3,cL)],[(4,xI)]⟩ [] 24 91 [(pc xI 0),kj]
 (.call ⟨[(26,(.nt om))],[]⟩ [(26,false)] 32 91 [(pc o4 1),kj]
 (.ite (.pick (.pick (.pick kl pT (.nt Ck)) pT (aj (pc o4 2) (pi 1))) pT (aV (pc o4 2) (pi 20000)))
 (.ret (pi 1))
 (.chk (.slok (pc o1 5) (pi 0) r3)
 (.brk ⟨[(50,(pi 0)),(49,(.llen (.slc (pc o1 5) (pi 0) r3))),(48,(.slc (pc o1 5) (pi 0) r3))],[]⟩
(auy b)
 (.next ⟨[],[]⟩)))))))
 (.next ⟨[(14,(aN cL (pi 1)))],[]⟩))
 (.exit 0 ⟨[(15,qP)],[]⟩))
def Ue (b:Nat→PC):PT:=
 (.ite (aV (.llen uT) (pi 100))
 (.ret (pi 6))
 (.brk ⟨[(14,(pi 0)),(13,(.llen uT)),(12,uT),(2,(pi 0))],[(1,(.mk [r0]))]⟩
(auz b)
 (.ret (pi 0))))
def aph (b:Nat→PC):PT×List (Shp×PT):=(Ue b,[(.lp 2 [2,50,51] [] [2,50] [],xX b),(.lp 0 [2,14,15] [] [2,14] [],C2 b)])
theorem HD:zN.map told=some (aph (ax zN)):=by kernel_rfl
theorem az2:tree Ju=Ue y0:=aC HD
theorem KR:round 2 [2,50,51] [] [2,50] [] (y0 0)=xX y0:=be HD 0 fun _=>rfl
theorem RM:round 0 [2,14,15] [] [2,14] [] (y0 1)=C2 y0:=be HD 1 fun _=>rfl
theorem akO:zN=some Ju:=aB HD
noncomputable def zL:Option PC:=az {ctx with fr:=[2],nh:=[]} Tryz.f138 ((ab af 138).getD default) [1,4,6]
noncomputable def Js:PC:=ay zL
noncomputable def yZ:Nat→PC:=bn zL
def auu (b:Nat→PC):PC:=.block 0 [2,14,15] [] (.loop [2,14] [] (b 0))
def auv (b:Nat→PC):PC:=.block 2 [2,69,70] [] (.loop [2,69] [] (b 1))
def C0 (b:Nat→PC):PT:=
 (.ite qP
 (.blockS ⟨[],[]⟩ 1 [2,4,16,17,18,19,20,21,22,23,24,25,33,34,40,41,47,48,54,55,60] [4]
 (.chk (au bM cL)
 (.call ⟨[],[(4,(.setc z5 0 (pn bM cL)))]⟩ [] 23 91 [(pc (.setc z5 0 (pn bM cL)) 0),sr]
 (.call ⟨[(25,(.nt iU))],[]⟩ [(25,false)] 31 91 [(pc o4 1),sr]
 (.call ⟨[(41,(.pick (.pick iV pT (.nt oo)) pT (aq (pc o4 0) (pc o4 1))))],[]⟩ [(41,false)] 45 91 [(bz (pc o4 2) (pi 1)),(pi 1073741824)]
 (.call ⟨[(48,(.pick ot pT (.nt m4)))],[]⟩ [(48,false)] 52 91 [(bz (pc o4 3) (pi 1)),(pi 1073741824)]
 (.call ⟨[(55,(.pick ko pT (.nt Cn)))],[]⟩ [(55,false)] 58 91 [(pc o4 4),(pi 100001)]
 (.ite (.pick u7 pT (.nt Cq))
 (.ret (pi 1))
 (.next ⟨[],[]⟩))))))))
 (.next ⟨[(14,(aN cL (pi 1)))],[]⟩))
 (.exit 0 ⟨[(15,qP)],[]⟩))
def C1 (b:Nat→PC):PT:=
 (.ite (aj u9 Ky)
 (.blockS ⟨[],[]⟩ 3 [2,6,71,72,73,74,75,76,77,78,79,80,84,85,91,92,96] [6]
 (.chk (au sw u9)
 (.call ⟨[],[(6,(.setc z3 0 (pn sw u9)))]⟩ [] 78 91 [(pc (.setc z3 0 (pn sw u9)) 0),m3]
 (.ite (.pick (.pick (.pick (.nt r78) pT (aj (pc o6 1) (pi 0))) pT (aV (pc o6 1) (pc o6 2))) pT (aV (pc o6 2) (pi 100000)))
 (.ret (pi 1))
 (.next ⟨[],[]⟩))))
 (.next ⟨[(69,(aN u9 (pi 1)))],[]⟩))
 (.exit 2 ⟨[(70,(aj u9 Ky))],[]⟩))
def Uc (b:Nat→PC):PT:=
 (.ite (aV (.llen (pc (.mk [r0]) 6)) (pi 100))
 (.ret (pi 6))
 (.brk ⟨[(14,(pi 0)),(13,(.llen (pc (.mk [r0]) 6))),(12,(pc (.mk [r0]) 6)),(2,(pi 0))],[(1,(.mk [r0]))]⟩
(auu b)
 (.ite (aV uU (pi 20))
 (.ret (pi 6))
 (.brk ⟨[(69,(pi 0)),(68,uU),(67,(pc o1 7))],[]⟩
(auv b)
 (.ret (pi 0))))))
def apf (b:Nat→PC):PT×List (Shp×PT):=(Uc b,[(.lp 0 [2,14,15] [] [2,14] [],C0 b),(.lp 2 [2,69,70] [] [2,69] [],C1 b)])
theorem HC:zL.map told=some (apf (ax zL)):=by kernel_rfl
theorem az0:tree Js=Uc yZ:=aC HC
theorem RK:round 0 [2,14,15] [] [2,14] [] (yZ 0)=C0 yZ:=be HC 0 fun _=>rfl
theorem RL:round 2 [2,69,70] [] [2,69] [] (yZ 1)=C1 yZ:=be HC 1 fun _=>rfl
theorem akM:zL=some Js:=aB HC
noncomputable def Fq:Option PC:=az {ctx with fr:=[4],nh:=[]} Tryz.f177 ((ab af 177).getD default) [2]
noncomputable def JR:PC:=ay Fq
def Uy:PT:=
 (.ret (.pick (cm r1 (pi 0)) (aj r1 (.llen od)) pF))
def apF (b:Nat→PC):PT×List (Shp×PT):=(Uy,[])
theorem ac1:Fq.map told=some (apF (ax Fq)):=by kernel_rfl
theorem aAm:tree JR=Uy:=aC ac1
theorem alb:Fq=some JR:=aB ac1
noncomputable def Fs:Option PC:=az {ctx with fr:=[2],nh:=[]} Tryz.f178 ((ab af 178).getD default) []
noncomputable def JS:PC:=ay Fs
def Uz:PT:=
 (.ret (.pick (cm r0 (pi 0)) (br r0 (pi 100000)) pF))
def apG (b:Nat→PC):PT×List (Shp×PT):=(Uz,[])
theorem ac2:Fs.map told=some (apG (ax Fs)):=by kernel_rfl
theorem aAn:tree JS=Uz:=aC ac2
theorem alc:Fs=some JS:=aB ac2
end Rm
