/-
  The functions of this seat, compiled (2).
-/
import Derived.Test.YtmnnipoiigfapaaGreatDoorBAK
import Derived.KernelRfl
set_option linter.unusedVariables false
set_option maxRecDepth 100000
noncomputable section
namespace Rm
open Go Go.Proofs Cx
def zd:Option PC:=cF [4,5,7] [] Tryz.f69 69 [2,3,6]
def Nb:Nat→PC:=bn zd
def ao5 (b:Nat→PC):PC:=.block 0 [4,11,12] [] (.loop [4,11] [] (b 0))
def Li (b:Nat→PC):PT:=
 (.ite (ah bJ cO)
 (.blockS ⟨[],[]⟩ 1 [4,5,6,7,13,14,15,16,17,18,19,20,21,22,23,24,25,26,27,28,29,30,31,32,37,38,39,40,41,42,43,44,45,46,47,48,58,59,69,70,71,72,73] [6]
 (.chk (ar r9 bJ)
 (.call ⟨[(5,bJ)],[(6,(.setc z9 0 (pn r9 bJ)))]⟩ [] 22 68 [(pc (.setc z9 0 (pn r9 bJ)) 3),(pi 0),(bE (pc o3 14) (pi 1))]
 (.ite (.nt BO)
 (.ret (pi 15))
 (.call ⟨[],[]⟩ [] 30 68 [(pc o6 7),(pi 0),(bE (.llen (pc o2 1)) (pi 1))]
 (.call ⟨[(32,(.nt nM))],[]⟩ [(32,false)] 35 68 [(pc o6 0),(pi 0),(pi 9)]
 (.ite (.pick Fl pT (.nt yg))
 (.ret (pi 1))
 (.call ⟨[],[]⟩ [] 41 90 [(au 8 o2),(au 19 o3),(au 9 o6)]
 (.ite (.nt oU)
 (.ret (pi 14))
 (.ite (aO (pc o6 4) (pi (-1)))
 (.chk (ar (pc o3 15) (pc o6 4))
 (.ite (aX r5 (pi 0))
 (.chk (ar (pc o3 17) (bE r5 (pi 1)))
 (.call ⟨[],[]⟩ [] 72 68 [(pc o6 6),(.mx (.mx (pc o3 8) (pc (pn (pc o3 15) (pc o6 4)) 6)) (pc (pn (pc o3 17) (bE r5 (pi 1))) 6)),(pi 100000)]
 (.ite (.nt Fo)
 (.ret (pi 13))
 (.next ⟨[],[]⟩))))
 (.call ⟨[],[]⟩ [] 72 68 [(pc o6 6),(.mx (pc o3 8) (pc (pn (pc o3 15) (pc o6 4)) 6)),(pi 100000)]
 (.ite (.nt Fo)
 (.ret (pi 13))
 (.next ⟨[],[]⟩)))))
 (.ite (aX r5 (pi 0))
 (.chk (ar (pc o3 17) (bE r5 (pi 1)))
 (.call ⟨[],[]⟩ [] 72 68 [(pc o6 6),(.mx (pc o3 8) (pc (pn (pc o3 17) (bE r5 (pi 1))) 6)),(pi 100000)]
 (.ite (.nt Fo)
 (.ret (pi 13))
 (.next ⟨[],[]⟩))))
 (.call ⟨[],[]⟩ [] 72 68 [(pc o6 6),(pc o3 8),(pi 100000)]
 (.ite (.nt Fo)
 (.ret (pi 13))
 (.next ⟨[],[]⟩)))))))))))))
 (.next ⟨[(11,(aL bJ (pi 1)))],[]⟩))
 (.exit 0 ⟨[(12,(ah bJ cO))],[]⟩))
def UE (b:Nat→PC):PT:=
 (.brk ⟨[(11,(pi 0)),(10,(.llen (pc (.mk [r1]) 17))),(9,(pc (.mk [r1]) 17)),(4,(pi 0))],[(3,(.mk [r1])),(2,(.mk [r0]))]⟩
(ao5 b)
 (.ret (pi 0)))
def ajX (b:Nat→PC):PT×List (Shp×PT):=(UE b,[(.lp 0 [4,11,12] [] [4,11] [],Li b)])
theorem QV:zd.map told=some (ajX (bj zd)):=by kernel_rfl
theorem auX:tree (ab zd)=UE Nb:=bB QV
theorem aex:round 0 [4,11,12] [] [4,11] [] (Nb 0)=Li Nb:=be QV 0 fun _=>rfl
def HX:Option PC:=cF [6,7,8,9,65,80,100,111] [] Tryz.f90 90 [3,4,5]
def UD:PT:=
 (.call ⟨[],[(5,(.mk [r2])),(4,(.mk [r1])),(3,(.mk [r0]))]⟩ [] 16 68 [(pc (.mk [r2]) 4),(pi 0),(bE (.llen (pc (.mk [r1]) 15)) (pi 1))]
 (.call ⟨[(17,dI)],[]⟩ [(17,true)] 23 118 [(au 19 o4),(pc o5 4),(pc o5 3)]
 (.chk (.nt (.an (.an (.pick nJ fV pF) pT) (.nt (ar (pc o4 15) (pc o5 4)))))
 (.call ⟨[(8,(.pick (.pick nJ fV pF) (aj (pc (pn (pc o4 15) (pc o5 4)) 2) (pc o5 1)) pF)),(7,(.pick nJ fV pF))],[]⟩ [] 44 68 [(pc o5 2),(pi 0),KV]
 (.call ⟨[(9,sc)],[]⟩ [] 51 68 [(pc o5 1),(pi 0),KV]
 (.ite (.pick (.nt lU) pT (.pick (aO (pc o5 0) (pi 4)) (aO (pc o5 8) (pi 0)) pF))
 (.ret pF)
 (.blockS ⟨[(64,(pc o5 0))],[]⟩ 0 [6,65,66,80,81,100,101,111,112] []
 (.iteS ⟨[],[]⟩ (.pick (aj lV (pi 0)) (aj lV (pi 0)) (.pick (aj lV (pi 1)) (aj lV (pi 1)) (aj lV (pi 2)))) [6,80,81,100,101,111,112] []
 (.ret (.pick (.pick r9 (aj (pc o5 4) (pi (-1))) pF) (aj (pc o5 5) (pi 0)) pF))
 (.iteS ⟨[],[]⟩ (.pick (aj lV (pi 3)) (aj lV (pi 3)) (.pick (aj lV (pi 5)) (aj lV (pi 5)) (aj lV (pi 4)))) [6,100,101,111,112] []
 (.call ⟨[(90,(.pick r9 (aj (pc o5 4) (pi (-1))) pF))],[]⟩ [(90,true)] 93 68 [(pc o5 5),(pi 0),BA]
 (.call ⟨[(95,(.pick r90 K9 pF))],[]⟩ [(95,true)] 98 68 [(pc o5 8),(pi 0),(pi 1)]
 (.ret (.pick r95 r98 pF))))
 (.iteS ⟨[],[]⟩ (aj lV (pi 6)) [6,111,112] []
 (.call ⟨[(106,(.pick r9 r8 pF))],[]⟩ [(106,true)] 109 68 [(pc o5 5),(pi 1),BA]
 (.ret (.pick R3 ash pF)))
 (.ite (aj lV (pi 9))
 (.ret (.pick (.pick (aj (pc o5 2) (pi (-1))) r8 pF) (aj (pc o5 5) (pi 0)) pF))
 (.next ⟨[],[]⟩))
 (.next ⟨[],[]⟩))
 (.next ⟨[],[]⟩))
 (.next ⟨[],[]⟩))
 (.ret (.pick (.pick (aj (pc o5 2) (pi (-1))) r7 pF) (aj (pc o5 5) (pi 0)) pF)))))))))
theorem acw:HX.map told=some (UD,[]):=by kernel_rfl
theorem auW:tree (ab HX)=UD:=aV acw
def ze:Option PC:=cF [2,3] [] Tryz.f70 70 [1,4,5]
def Nc:Nat→PC:=bn ze
def ao6 (b:Nat→PC):PC:=.block 0 [2,9,10] [] (.loop [2,9] [] (b 0))
def Lj (b:Nat→PC):PT:=
 (.ite (ah r9 r8)
 (.blockS ⟨[],[]⟩ 1 [2,3,4,11,12,13,14,15,16,17,18,27,28,33,34,35] [4]
 (.chk (ar r7 r9)
 (.call ⟨[(3,r9)],[(4,(.setc z3 0 (pn r7 r9)))]⟩ [] 16 68 [(pc (.setc z3 0 (pn r7 r9)) 0),(pi 0),(pi 4)]
 (.call ⟨[(18,(.nt dI))],[]⟩ [(18,false)] 25 68 [(pc o4 1),(pi 0),(bE (.llen (pc o1 15)) (pi 1))]
 (.call ⟨[(28,(.pick fA pT (.nt iv)))],[]⟩ [(28,false)] 31 68 [(pc o4 2),(pi 0),(pi 1)]
 (.ite (.pick qE pT (.nt qF))
 (.ret (pi 1))
 (.ite (aj r3 (pi 0))
 (.exit 1 ⟨[],[]⟩)
 (.chk (ar (pc o1 18) (bE r3 (pi 1)))
 (.call ⟨[],[(5,(.setc z3 0 (pn (pc o1 18) (bE r3 (pi 1)))))]⟩ [] 46 92 [(pc (.setc z3 0 (pn (pc o1 18) (bE r3 (pi 1)))) 1),(pc o4 1)]
 (.call ⟨[],[]⟩ [] 51 92 [(pc o5 0),(pc o4 0)]
 (.call ⟨[],[]⟩ [] 53 91 [(.lst [BP,lU])]
 (.ite (cS R8 (pi 0))
 (.ret (pi 5))
 (.next ⟨[],[]⟩))))))))))))
 (.next ⟨[(9,(aL r9 (pi 1)))],[]⟩))
 (.exit 0 ⟨[(10,(ah r9 r8))],[]⟩))
def UG (b:Nat→PC):PT:=
 (.brk ⟨[(9,(pi 0)),(8,(.llen BB)),(7,BB),(2,(pi 0))],[(1,(.mk [r0]))]⟩
(ao6 b)
 (.ret (pi 0)))
def ajY (b:Nat→PC):PT×List (Shp×PT):=(UG b,[(.lp 0 [2,9,10] [] [2,9] [],Lj b)])
theorem QW:ze.map told=some (ajY (bj ze)):=by kernel_rfl
theorem auZ:tree (ab ze)=UG Nc:=bB QW
theorem aey:round 0 [2,9,10] [] [2,9] [] (Nc 0)=Lj Nc:=be QW 0 fun _=>rfl
def HG:Option PC:=cF [4,5,6] [] Tryz.f92 92 []
def Ud:PT:=
 (.call ⟨[],[]⟩ [] 8 119 [r0]
 (.call ⟨[(5,r8)],[]⟩ [] 10 119 [r1]
 (.ite r5
 (.ite cO
 (.ret (pi 0))
 (.ret (pi (-1))))
 (.ite cO
 (.ret (pi 1))
 (.ite (ah r0 r1)
 (.ret (pi (-1)))
 (.ite (aX r0 r1)
 (.ret (pi 1))
 (.ret (pi 0))))))))
theorem acb:HG.map told=some (Ud,[]):=by kernel_rfl
theorem aut:tree (ab HG)=Ud:=aV acb
def HH:Option PC:=cF [2] [] Tryz.f119 119 []
def Uf:PT:=
 (.ret (aO r0 r0))
theorem acd:HH.map told=some (Uf,[]):=by kernel_rfl
theorem auv:tree (ab HH)=Uf:=aV acd
def y4:Option PC:=cF [2,3,5] [] Tryz.f91 91 []
def M2:Nat→PC:=bn y4
def aoU (b:Nat→PC):PC:=.block 0 [2,8,9] [] (.loop [2,8] [] (b 0))
def Fu (b:Nat→PC):PT:=
 (.ite (ah r8 r7)
 (.chk (ar r6 r8)
 (.ite (aO (pn r6 r8) r3)
 (.ret (pn r6 r8))
 (.next ⟨[(8,rW)],[]⟩)))
 (.exit 0 ⟨[(9,(ah r8 r7))],[]⟩))
def Ue (b:Nat→PC):PT:=
 (.brk ⟨[(8,(pi 0)),(7,(.llen r0)),(6,r0),(3,(pi 0)),(2,(pi 0))],[]⟩
(aoU b)
 (.ret r3))
def ajN (b:Nat→PC):PT×List (Shp×PT):=(Ue b,[(.lp 0 [2,8,9] [] [2,8] [],Fu b)])
theorem QM:y4.map told=some (ajN (bj y4)):=by kernel_rfl
theorem auu:tree (ab y4)=Ue M2:=bB QM
theorem Sm:round 0 [2,8,9] [] [2,8] [] (M2 0)=Fu M2:=be QM 0 fun _=>rfl
def HM:Option PC:=cF [3] [] Tryz.f37 37 [2]
def Uo:PT:=
 (.call ⟨[],[]⟩ [] 7 38 [(.deref r1),ln]
 (.ret (.nt r7)))
theorem acj:HM.map told=some (Uo,[]):=by kernel_rfl
theorem auG:tree (ab HM)=Uo:=aV acj
def HS:Option PC:=cF [4] [] Tryz.f38 38 [2]
def Uw:PT:=
 (.ret (.pick (cS r1 (pi 0)) (ah r1 (.llen (pc (.mk [r0]) 3))) pF))
theorem acq:HS.map told=some (Uw,[]):=by kernel_rfl
theorem auP:tree (ab HS)=Uw:=aV acq
def HN:Option PC:=cF [2] [] Tryz.f39 39 []
def Up:PT:=
 (.ret (.pick (ah (pc (.deref r0) 1) (pi 0)) pT (cS (pc (.deref r0) 1) (pc (.sub (.deref r1) 0 15) 14))))
theorem ack:HN.map told=some (Up,[]):=by kernel_rfl
theorem auH:tree (ab HN)=Up:=aV ack
def HO:Option PC:=cF [2] [] Tryz.f40 40 []
def Uq:PT:=
 (.call ⟨[],[]⟩ [] 6 38 [(.deref r0),(pc (.deref r1) 2)]
 (.ret (.nt r6)))
theorem acm:HO.map told=some (Uq,[]):=by kernel_rfl
theorem auI:tree (ab HO)=Uq:=aV acm
def HP:Option PC:=cF [1] [] Tryz.f41 41 []
def Ur:PT:=
 (.ret (aX (.llen (pc (.deref r0) 5)) (pi 20)))
theorem acn:HP.map told=some (Ur,[]):=by kernel_rfl
theorem auJ:tree (ab HP)=Ur:=aV acn
def HQ:Option PC:=cF [2] [] Tryz.f42 42 []
def Us:PT:=
 (.call ⟨[],[]⟩ [] 6 43 [(pc (.deref r0) 5),(.deref r1)]
 (.ret r6))
theorem aco:HQ.map told=some (Us,[]):=by kernel_rfl
theorem auK:tree (ab HQ)=Us:=aV aco
def Il:Option PC:=cF [4] [] Tryz.f43 43 []
def Vu:PT:=
 (.call ⟨[],[]⟩ [] 7 71 [r0,r1]
 (.ret (cS r7 (pi 0))))
theorem acS:Il.map told=some (Vu,[]):=by kernel_rfl
theorem avO:tree (ab Il)=Vu:=aV acS
def zN:Option PC:=cF [4,5] [] Tryz.f71 71 []
def Nv:Nat→PC:=bn zN
def apW (b:Nat→PC):PC:=.block 0 [4,8,9] [] (.loop [4,8] [] (b 0))
def Gb (b:Nat→PC):PT:=
 (.ite (ah r8 r7)
 (.blockS ⟨[],[]⟩ 1 [4,5,10,11,12,13,14,15,16] []
 (.chk (ar r0 r8)
 (.callc ⟨[(5,r8)],[]⟩ [] 16 r1 [(pn r0 r8)]
 (.ite dI
 (.ret r5)
 (.next ⟨[],[]⟩))))
 (.next ⟨[(8,rW)],[]⟩))
 (.exit 0 ⟨[(9,(ah r8 r7))],[]⟩))
def Vz (b:Nat→PC):PT:=
 (.brk ⟨[(8,(pi 0)),(7,(.llen r0)),(4,(pi 0))],[]⟩
(apW b)
 (.ret (pi (-1))))
def akv (b:Nat→PC):PT×List (Shp×PT):=(Vz b,[(.lp 0 [4,8,9] [] [4,8] [],Gb b)])
theorem Rg:zN.map told=some (akv (bj zN)):=by kernel_rfl
theorem avT:tree (ab zN)=Vz Nv:=bB Rg
theorem Ta:round 0 [4,8,9] [] [4,8] [] (Nv 0)=Gb Nv:=be Rg 0 fun _=>rfl
def HR:Option PC:=cF [2] [] Tryz.f44 44 []
def Ut:PT:=
 (.call ⟨[],[]⟩ [] 5 45 [(.deref r0),(.deref r1)]
 (.ret (.nt r5)))
theorem acp:HR.map told=some (Ut,[]):=by kernel_rfl
theorem auL:tree (ab HR)=Ut:=aV acp
def zb:Option PC:=cF [4,5] [] Tryz.f45 45 [2,3,7]
def M9:Nat→PC:=bn zb
def ao1 (b:Nat→PC):PC:=.block 0 [4,5,26,27] [] (.loop [4,5,26] [] (b 0))
def Lg (b:Nat→PC):PT:=
 (.ite (ah j9 iv)
 (.chk (ar nK j9)
 (.ite (ah (pc (.setc tV 0 (pn nK j9)) 1) r5)
 (.ret pF)
 (.next ⟨[(5,(pc (.setc tV 0 (pn nK j9)) 1)),(26,(aL j9 (pi 1)))],[]⟩)))
 (.exit 0 ⟨[(27,(ah j9 iv))],[]⟩))
def Uv (b:Nat→PC):PT:=
 (.ite (.pick (ah (pc (.mk [r1]) 3) (pc (.mk [r0]) 8)) pT (ah (pc (.mk [r1]) 4) (pc (.mk [r1]) 3)))
 (.ret pF)
 (.brk ⟨[(26,(pi 0)),(25,(.llen (pc (.mk [r1]) 5))),(24,(pc (.mk [r1]) 5)),(4,pF),(5,(pc (.mk [r1]) 4))],[]⟩
(ao1 b)
 (.ret (bD r5 (pi 100000)))))
def ajU (b:Nat→PC):PT×List (Shp×PT):=(Uv b,[(.lp 0 [4,5,26,27] [] [4,5,26] [],Lg b)])
theorem QT:zb.map told=some (ajU (bj zb)):=by kernel_rfl
theorem auO:tree (ab zb)=Uv M9:=bB QT
theorem aev:round 0 [4,5,26,27] [] [4,5,26] [] (M9 0)=Lg M9:=be QT 0 fun _=>rfl
def Hp:Option PC:=cF [] [] Tryz.f35 35 [5,8,77832,10]
def TQ:PT:=
 (.call ⟨[],[(10,BI)]⟩ [] 18 65 [jA,r1,r2,(.mk [(.mk [(pc j7 0),(pc j7 1),(pc j7 2),(pc j7 3),(pc j7 4),(pc j7 5),(pc j7 6),(pc j7 7),(pc j7 8),(pc j7 9),(pc j7 10),(pc j7 11),(pc j7 12),(pc j7 13),(pc j7 14),(pc j7 15),(pc j7 16),(pc j7 17),pL]),(pi 0),(pi (-1)),(pi (-1)),(pi (-1)),r4])]
 (.ret (au 5 (.setc bO 0 fA))))
theorem abR:Hp.map told=some (TQ,[]):=by kernel_rfl
theorem at5:tree (ab Hp)=TQ:=aV abR
def Ho:Option PC:=cF [10] [] Tryz.f65 65 [4,7,8,9]
def TP:PT:=
 (.call ⟨[],[(8,BI),(4,(.mk [r0]))]⟩ [] 16 83 [jA,r1,r2,(au 24 (.mk [r3]))]
 (.iteS ⟨[(10,(.tget dI 1))],[(9,(.setc BI 0 (.tget dI 0)))]⟩ (aO (pc (.setc BI 0 (.tget dI 0)) 2) (pi (-1))) [] [9]
 (.chk (ar (pc o4 4) (pc o9 2))
 (.call ⟨[],[]⟩ [] 31 84 [(pn (pc o4 4) (pc o9 2)),r2,cO]
 (.next ⟨[],[(9,(.setc (.setc o9 0 (.tget qF 0)) 4 (.tget qF 1)))]⟩)))
 (.next ⟨[],[]⟩)
 (.ret (au 5 (.setc o8 0 (au 5 o9))))))
theorem abQ:Ho.map told=some (TP,[]):=by kernel_rfl
theorem at4:tree (ab Ho)=TP:=aV abQ
def Ht:Option PC:=cF [9,11,12,13,14] [] Tryz.f83 83 [4,7,8,10,16394]
def TV:PT:=
 (.call ⟨[],[(16394,pL),(10,(.setc BI 0 (.mk [gk,(pi (-1)),pL,(pi 1)]))),(8,BI),(7,(.mk [r3])),(4,(.mk [r0]))]⟩ [] 19 100 [jA,(au 24 (.mk [r3]))]
 (.ite (aj (.llen (.tget eB 1)) (pi 0))
 (.ret (.tup [RW,pL]))
 (.call ⟨[(11,(.tget eB 1))],[(7,(.setc o7 0 (.tget eB 0)))]⟩ [] 28 101 [r2]
 (.ite (.nt (.tget qE 1))
 (.ret (.tup [RW,pL]))
 (.call ⟨[],[]⟩ [] 37 102 [(au 8 o4),r1,(au 24 o7)]
 (.ite (aj (.llen mO) (pi 0))
 (.ret (.tup [RW,pL]))
 (.call ⟨[],[]⟩ [] 46 103 [(au 8 o4),r1,r2,mO]
 (.ite (aj (pc yd 4) (pi 0))
 (.chk (ar (pc yd 3) (bE (.llen (pc yd 3)) (pi 1)))
 (.ret (.tup [(au 5 (.setc o8 0 (au 5 (.setc yd 2 (pn (pc yd 3) (bE (.llen (pc yd 3)) (pi 1))))))),bJ])))
 (.ret (.tup [(au 5 (.setc o8 0 (au 5 yd))),bJ]))))))))))
theorem abV:Ht.map told=some (TV,[]):=by kernel_rfl
theorem aub:tree (ab Ht)=TV:=aV abV
def Hu:Option PC:=cF [5] [] Tryz.f100 100 [2,3,4]
def TW:PT:=
 (.call ⟨[],[(4,adW),(3,(.mk [r1])),(2,(.mk [r0]))]⟩ [] 10 13 [Fa,(pc (.mk [r1]) 23)]
 (.call ⟨[(12,(au 24 (.setc o3 0 cO)))],[]⟩ [] 15 127 [(au 8 o2),(au 24 (.setc o3 0 cO))]
 (.ret (.tup [(au 24 (.setc o4 0 bH)),jB]))))
theorem abW:Hu.map told=some (TW,[]):=by kernel_rfl
theorem auc:tree (ab Hu)=TW:=aV abW
def zH:Option PC:=cF [1000004,1000005] [] Tryz.f13 13 [2,4,65540,69636,73732,77828,5,65541,69637,73733,77829,7,31,9,49,11,13]
def sT:Nat→PC:=bn zH
def apM (b:Nat→PC):PC:=.block 0 [20,21] [65541,5] (.loop [20] [65541,5] (b 0))
def apN (b:Nat→PC):PC:=.block 2 [38,39] [73733,5] (.loop [38] [73733,5] (b 1))
def apO (b:Nat→PC):PC:=.block 4 [56,57] [5,69637] (.loop [56] [5,69637] (b 2))
def apP (b:Nat→PC):PC:=.block 6 [76,77] [5,77829] (.loop [76] [5,77829] (b 3))
def F3 (b:Nat→PC):PT:=
 (.ite (ah cv eB)
 (.chk (ar fA cv)
 (.ite (aX (pc (.setc z9 0 (pn fA cv)) 6) r1)
 (.exit 0 ⟨[(21,(ah cv eB))],[]⟩)
 (.chk (bD (.llen (.app (.o 65541) (.lst [(au 9 (.setc z9 0 (pn fA cv)))]))) cu)
 (.next ⟨[(20,(aL cv (pi 1)))],[(65541,(.app (.o 65541) (.lst [(au 9 (.setc z9 0 (pn fA cv)))]))),(5,(.setc o5 15 pN))]⟩))))
 (.exit 0 ⟨[(21,(ah cv eB))],[]⟩))
def F4 (b:Nat→PC):PT:=
 (.ite (ah gC mO)
 (.chk (ar iY gC)
 (.ite (aX (pc (.setc z9 0 (pn iY gC)) 6) r1)
 (.exit 2 ⟨[(39,(ah gC mO))],[]⟩)
 (.chk (bD (.llen (.app (.o 73733) (.lst [(au 9 (.setc z9 0 (pn iY gC)))]))) cu)
 (.next ⟨[(38,(aL gC (pi 1)))],[(73733,(.app (.o 73733) (.lst [(au 9 (.setc z9 0 (pn iY gC)))]))),(5,(.setc o5 17 pN))]⟩))))
 (.exit 2 ⟨[(39,(ah gC mO))],[]⟩))
def F5 (b:Nat→PC):PT:=
 (.ite (ah sf yh)
 (.chk (ar se sf)
 (.ite (bD (pc (.setc z2 0 (pn se sf)) 0) (.llen (.o 65541)))
 (.chk (bD (.llen aea) cu)
 (.next ⟨[(56,(aL sf (pi 1)))],[(5,(.setc o5 16 pN)),(69637,aea)]⟩))
 (.next ⟨[(56,(aL sf (pi 1)))],[]⟩)))
 (.exit 4 ⟨[(57,(ah sf yh))],[]⟩))
def F6 (b:Nat→PC):PT:=
 (.ite (ah ui Sb)
 (.blockS ⟨[],[]⟩ 7 [13,78,79,80,81,82,83,84,85] [13,77829,5]
 (.chk (ar Sa ui)
 (.call ⟨[],[(13,(.setc z3 0 (pn Sa ui)))]⟩ [] 85 32 [(pc (.setc z3 0 (pn Sa ui)) 1),(.llen (.o 65541))]
 (.ite Fq
 (.chk (bD (.llen adS) cu)
 (.next ⟨[],[(77829,adS),(5,(.setc o5 18 pN))]⟩))
 (.next ⟨[],[]⟩))))
 (.next ⟨[(76,(aL ui (pi 1)))],[]⟩))
 (.exit 6 ⟨[(77,(ah ui Sb))],[]⟩))
def Vm (b:Nat→PC):PT:=
 (.brk ⟨[(20,(pi 0)),(19,(.llen oR)),(18,oR)],[(77829,pL),(73733,pL),(69637,pL),(65541,pL),(5,(.setc j6 0 (.mk [lj,pL,pL,pL,pL]))),(4,j6),(2,(.mk [r0]))]⟩
(apM b)
 (.brk ⟨[(38,(pi 0)),(37,(.llen (pc o2 17))),(36,(pc o2 17))],[]⟩
(apN b)
 (.brk ⟨[(56,(pi 0)),(55,(.llen (pc o2 16))),(54,(pc o2 16))],[]⟩
(apO b)
 (.brk ⟨[(76,(pi 0)),(75,(.llen (pc o2 18))),(74,(pc o2 18))],[]⟩
(apP b)
 (.ret (.mk [(pc lS 0),(pc lS 1),(pc lS 2),(pc lS 3),(pc lS 4),(pc lS 5),(pc lS 6),(pc lS 7),(pc lS 8),(pc lS 9),(pc lS 10),(pc lS 11),(pc lS 12),(pc lS 13),(pc lS 14),(.o 65541),(.o 69637),(.o 73733),(.o 77829)]))))))
def akp (b:Nat→PC):PT×List (Shp×PT):=(Vm b,[(.lp 0 [20,21] [65541,5] [20] [65541,5],F3 b),(.lp 2 [38,39] [73733,5] [38] [73733,5],F4 b),(.lp 4 [56,57] [5,69637] [56] [5,69637],F5 b),(.lp 6 [76,77] [5,77829] [76] [5,77829],F6 b)])
theorem Be:zH.map told=some (akp (bj zH)):=by kernel_rfl
theorem avF:tree (ab zH)=Vm sT:=bB Be
theorem SX:round 0 [20,21] [65541,5] [20] [65541,5] (sT 0)=F3 sT:=be Be 0 fun _=>rfl
theorem SY:round 2 [38,39] [73733,5] [38] [73733,5] (sT 1)=F4 sT:=be Be 1 fun _=>rfl
theorem SZ:round 4 [56,57] [5,69637] [56] [5,69637] (sT 2)=F5 sT:=be Be 2 fun _=>rfl
theorem S4:round 6 [76,77] [5,77829] [76] [5,77829] (sT 3)=F6 sT:=be Be 3 fun _=>rfl
def Ij:Option PC:=cF [4] [] Tryz.f32 32 []
def Vr:PT:=
 (.ret RQ)
theorem acQ:Ij.map told=some (Vr,[]):=by kernel_rfl
theorem avL:tree (ab Ij)=Vr:=aV acQ
def zK:Option PC:=cF [4,7,9,11,12,13,14,15,16] [] Tryz.f127 127 [2,3,5,6,8,10,90,139]
def CR:Nat→PC:=bn zK
def aqd (b:Nat→PC):PC:=.meach 90 [94,95,11,12] [0,1,0,1] [10] (b 0)
def aqe (b:Nat→PC):PC:=.meach 139 [143,144,15,16] [0,1,0,1] [10] (b 1)
def S7 (b:Nat→PC):PT:=
 (.chk (ar bO bJ)
 (.next ⟨[],[(10,(.setn bO bJ 0 (.mk [pT,bH])))]⟩))
def S8 (b:Nat→PC):PT:=
 (.blockS ⟨[],[]⟩ 3 [145,146,147,148,149] [10]
 (.call ⟨[(146,jB)],[]⟩ [] 148 142 [dI]
 (.chk (ar bO (.r 146))
 (.next ⟨[],[(10,(.setn bO (.r 146) 0 (.r 148)))]⟩)))
 (.next ⟨[],[]⟩))
def vT (b:Nat→PC):PT:=
 (.call ⟨[(7,(.mx (pc (.mk [r1]) 20) (pi 0)))],[(6,(.setc GS 0 j8)),(5,(.setc j6 0 Fa)),(3,(.mk [r1])),(2,(.mk [r0]))]⟩ [] 30 32 [(pc (.mk [r1]) 19),(.llen (pc (.setc j6 0 Fa) 15))]
 (.call ⟨[(48,(aO (pc o3 22) (pi (-1)))),(44,(.pick (.pick (.nt nM) pT (ah (pc o3 20) (pi (-1)))) pT (cS r7 (.llen (pc o5 15)))))],[]⟩ [(48,true),(44,false)] 51 32 [(pc o3 22),(pi 100001)]
 (.ite (.pick sc pT (.pick jC (.nt lU) pF))
 (.ret pL)
 (.chk (ar (pc o5 15) (pc o3 19))
 (.call ⟨[],[(8,(.setc z9 0 (pn (pc o5 15) (pc o3 19))))]⟩ [] 63 32 [(pc (.setc z9 0 (pn (pc o5 15) (pc o3 19))) 6),(pi 100001)]
 (.ite (.nt Fm)
 (.ret pL)
 (.chk (.an (cS (pi 20) (pi 0)) (bD (pi 20) cu))
 (.chk (aj (pi 20) (pi 20))
 (.chk (ah (.mlen (.con (.map []))) cu)
 (.chk (ah (.mlen (.put (.con (.map [])) (pi 0) (pc o6 3))) cu)
 (.chk (ah (.mlen (.put (.put (.con (.map [])) (pi 0) (pc o6 3)) (pi 1) (pc o6 14))) cu)
 (.chk (ah (.mlen RT) cu)
 (.chk (ah (.mlen (.put RT (pi 3) (pc o6 12))) cu)
 (.chk (ah (.mlen RY) cu)
 (.chk (ah (.mlen (.put RY (pi 5) (pc o3 21))) cu)
 (.blockS ⟨[(10,pN),(9,adR)],[(90,(.tup [(.lst []),(.put (.put RY (pi 5) (pc o3 21)) (pi 6) adR)])),(10,(.rep (pi 20) gk))]⟩ 0 [] [10]
 (.brk ⟨[],[]⟩
(aqd b)
 (.exit 0 ⟨[],[]⟩))
 (.call ⟨[],[(3,(au 24 o3))]⟩ [] 104 140 [(pc o5 16),(.clo 141 [(.ref (au 24 o3))])]
 (.call ⟨[(13,asg)],[]⟩ [] 108 128 [(au 8 o2),(pc o6 9)]
 (.call ⟨[],[]⟩ [] 112 128 [(au 8 o2),(pc o6 10)]
 (.chk (ah (.mlen (.con (.map []))) cu)
 (.chk (ah (.mlen RX) cu)
 (.chk (ah (.mlen (.put RX (pi 8) (aj (pc o6 2) (pi (-1))))) cu)
 (.chk (ah (.mlen (.put (.put RX (pi 8) (aj (pc o6 2) (pi (-1)))) (pi 9) (aO (.ai .and .i64 (pc o6 13) (pi 4)) (pi 0)))) cu)
 (.chk (ah (.mlen KW) cu)
 (.chk (ah (.mlen (.put KW (pi 11) (aO R4 R5))) cu)
 (.chk (ah (.mlen (.put (.put KW (pi 11) (aO R4 R5)) (pi 12) cU)) cu)
 (.chk (ah (.mlen ad5) cu)
 (.blockS ⟨[],[(139,(.tup [(.lst []),(.put ad5 (pi 14) (aX r9 (pi 0)))]))]⟩ 2 [] [10]
 (.brk ⟨[],[]⟩
(aqe b)
 (.exit 2 ⟨[],[]⟩))
 (.call ⟨[],[]⟩ [] 154 143 [(au 19 o5),(pi 0),(pc o3 19)]
 (.chk (ar bO (pi 15))
 (.call ⟨[],[(10,(.setn bO (pi 15) 0 (.r 154)))]⟩ [] 160 143 [(au 19 o5),(pi 1),(pc o3 19)]
 (.chk (ar bO (pi 16))
 (.call ⟨[],[(10,(.setn bO (pi 16) 0 (.r 160)))]⟩ [] 166 143 [(au 19 o5),(pi 2),(pc o3 19)]
 (.chk (ar bO (pi 17))
 (.call ⟨[],[(10,(.setn bO (pi 17) 0 (.r 166)))]⟩ [] 171 143 [(au 19 o5),(pi 3),r7]
 (.chk (ar bO (pi 18))
 (.call ⟨[],[(10,(.setn bO (pi 18) 0 (.r 171)))]⟩ [] 176 143 [(au 19 o5),(pi 4),r7]
 (.chk (ar bO (pi 19))
 (.ret (.setn bO (pi 19) 0 (.r 176)))))))))))))))))))))))))))))))))))))))))
def aks (b:Nat→PC):PT×List (Shp×PT):=(vT b,[(.ea [10],S7 b),(.ea [10],S8 b)])
theorem KE:zK.map told=some (aks (bj zK)):=by kernel_rfl
theorem avJ:tree (ab zK)=vT CR:=bB KE
theorem asG:oX [10] (CR 0)=S7 CR:=L7 KE 0 fun _=>rfl
theorem asH:oX [10] (CR 1)=S8 CR:=L7 KE 1 fun _=>rfl
def Ih:Option PC:=cF [3] [] Tryz.f141 141 [2]
def Vp:PT:=
 (.ret (bD ln (pc (.deref r1) 19)))
theorem acO:Ih.map told=some (Vp,[]):=by kernel_rfl
theorem avI:tree (ab Ih)=Vp:=aV acO
def Ik:Option PC:=cF [4] [] Tryz.f140 140 []
def Vt:PT:=
 (.call ⟨[],[]⟩ [] 7 156 [r0,r1]
 (.ret (cS r7 (pi 0))))
theorem acR:Ik.map told=some (Vt,[]):=by kernel_rfl
theorem avN:tree (ab Ik)=Vt:=aV acR
def zM:Option PC:=cF [4,5] [] Tryz.f156 156 []
def Nu:Nat→PC:=bn zM
def apV (b:Nat→PC):PC:=.block 0 [4,8,9] [] (.loop [4,8] [] (b 0))
def Ga (b:Nat→PC):PT:=
 (.ite (ah r8 r7)
 (.blockS ⟨[],[]⟩ 1 [4,5,10,11,12,13,14,15,16] []
 (.chk (ar r0 r8)
 (.callc ⟨[(5,r8)],[]⟩ [] 16 r1 [(pn r0 r8)]
 (.ite dI
 (.ret r5)
 (.next ⟨[],[]⟩))))
 (.next ⟨[(8,rW)],[]⟩))
 (.exit 0 ⟨[(9,(ah r8 r7))],[]⟩))
def Vy (b:Nat→PC):PT:=
 (.brk ⟨[(8,(pi 0)),(7,(.llen r0)),(4,(pi 0))],[]⟩
(apV b)
 (.ret (pi (-1))))
def aku (b:Nat→PC):PT×List (Shp×PT):=(Vy b,[(.lp 0 [4,8,9] [] [4,8] [],Ga b)])
theorem Rf:zM.map told=some (aku (bj zM)):=by kernel_rfl
theorem avS:tree (ab zM)=Vy Nu:=bB Rf
theorem S9:round 0 [4,8,9] [] [4,8] [] (Nu 0)=Ga Nu:=be Rf 0 fun _=>rfl
def Ie:Option PC:=cF [4] [] Tryz.f128 128 [2]
def Va:PT:=
 (.call ⟨[],[(2,(.mk [r0]))]⟩ [] 9 111 [r1,(.llen uc)]
 (.ite (.nt r9)
 (.ret (pi (-1)))
 (.chk (ar (pc o2 1) r1)
 (.ret (pc (pn (pc o2 1) r1) 1)))))
theorem acL:Ie.map told=some (Va,[]):=by kernel_rfl
theorem avt:tree (ab Ie)=Va:=aV acL
def Ii:Option PC:=cF [] [] Tryz.f142 142 [2]
def Vq:PT:=
 (.ite r0
 (.ret (.mk [(pc KT 0),(pc KT 1)]))
 (.ret (.mk [(pc KU 0),(pc KU 1)])))
theorem acP:Ii.map told=some (Vq,[]):=by kernel_rfl
theorem avK:tree (ab Ii)=Vq:=aV acP
def zI:Option PC:=cF [] [] Tryz.f143 143 [3,6,8]
def Nt:Nat→PC:=bn zI
def apQ (b:Nat→PC):PC:=.block 0 [12,13] [6] (.loop [12] [6] (b 0))
def F7 (b:Nat→PC):PT:=
 (.ite (ah bH bJ)
 (.blockS ⟨[],[]⟩ 1 [8,14,15,16,17,18,19,20,25] [8,6]
 (.chk (ar cO bH)
 (.iteS ⟨[],[(8,(.setc z3 0 tU))]⟩ (.pick (aj (pc (.setc z3 0 tU) 0) r1) (aj (pc (.setc z3 0 tU) 1) r2) pF) [] [6]
 (.call ⟨[],[]⟩ [] 29 142 [(aO (pc o8 2) (pi 0))]
 (.ret (.mk [(pc (.setc o6 0 nL) 0),(pc (.setc o6 0 nL) 1)])))
 (.next ⟨[],[]⟩)
 (.next ⟨[],[]⟩)))
 (.next ⟨[(12,(aL bH (pi 1)))],[]⟩))
 (.exit 0 ⟨[(13,(ah bH bJ))],[]⟩))
def Vn (b:Nat→PC):PT:=
 (.brk ⟨[(12,(pi 0)),(11,(.llen BB)),(10,BB)],[(6,gk)]⟩
(apQ b)
 (.ret (.mk [(pc (.setc o6 0 ya) 0),(pc (.setc o6 0 ya) 1)])))
def akq (b:Nat→PC):PT×List (Shp×PT):=(Vn b,[(.lp 0 [12,13] [6] [12] [6],F7 b)])
theorem Re:zI.map told=some (akq (bj zI)):=by kernel_rfl
theorem avG:tree (ab zI)=Vn Nt:=bB Re
theorem S5:round 0 [12,13] [6] [12] [6] (Nt 0)=F7 Nt:=be Re 0 fun _=>rfl
def HU:Option PC:=cF [2,3,4,11] [] Tryz.f101 101 []
def Uy:PT:=
 (.blockS ⟨[],[]⟩ 0 [2,3,4,5,6,7,10,11,12,13,14] []
 (.iteS ⟨[],[]⟩ (.pick (ah r0 (pi 0)) pT (cS r0 (pi 22))) [2,3,11,12,13,14] []
 (.ret (.tup [(pi 0),pF]))
 (.call ⟨[],[]⟩ [] 14 23 [(.lst [(pc rX 0),(pc rX 1),(pc rX 2),(pc rX 3),(pc rX 4),(pc rX 5),(pc rX 6),(pc rX 7),(pc rX 8),(pc rX 9)]),r0]
 (.ite cI
 (.ret (.tup [(pi 0),pT]))
 (.next ⟨[],[]⟩)))
 (.next ⟨[],[]⟩))
 (.ret (.tup [(pi 1),pT])))
theorem acs:HU.map told=some (Uy,[]):=by kernel_rfl
theorem auR:tree (ab HU)=Uy:=aV acs
def y5:Option PC:=cF [8,9,11,12,13,14,55,70] [] Tryz.f103 103 [4,10,53]
def M3:Nat→PC:=bn y5
def aoV (b:Nat→PC):PC:=.block 0 [] [] (.loop [8,9,10] [10] (b 0))
def Sn (b:Nat→PC):PT:=
 (.blockS ⟨[],[]⟩ 1 [8,9,10,11,12,13,14,32,33,35,36,37,38,39,40,41,42,43,44,45,46,49,50,52,53,54,55,56,57,58,68,70,71] [53,10]
 (.chk (ar bO (bE (.llen bO) (pi 1)))
 (.call ⟨[(11,(pn bO (bE (.llen bO) (pi 1))))],[]⟩ [] 41 130 [(au 8 o4),(pn bO (bE (.llen bO) (pi 1))),r2,r3]
 (.ite (aj (.tget oU 0) bJ)
 (.ret (.tup [bO,(pi 0)]))
 (.call ⟨[(13,(.tget oU 1)),(12,(.tget oU 0))],[]⟩ [] 50 23 [bO,(.tget oU 0)]
 (.chk (bD (.llen (.app bO (.lst [bH]))) cu)
 (.chk (.nt (.an (.an mP (.an (.nt (.nt cU)) pT)) (.nt (ar (pc o4 4) bH))))
 (.ite (.pick (.nt cU) pT (.pick mP (pc (pn (pc o4 4) bH) 1) pF))
 (.ret (.tup [(.app bO (.lst [bH])),(pi 0)]))
 (.ite mP
 (.ret (.tup [(.app bO (.lst [bH])),(pi 12)]))
 (.next ⟨[(10,pN)],[(10,(.app bO (.lst [bH])))]⟩)))))))))
 (.next ⟨[],[]⟩))
def Ug (b:Nat→PC):PT:=
 (.call ⟨[(9,(pi 0)),(8,pL)],[(4,(.mk [r0]))]⟩ [] 19 129 [jA,r1,r2,r3]
 (.chk (.nt (.an (.an (.nt (.nt eB)) pT) (.nt (ar r3 (pi 0)))))
 (.ite (.pick (.nt eB) pT (aO (pn r3 (pi 0)) r1))
 (.ret (.tup [pL,(pi 1)]))
 (.brk ⟨[(10,pN)],[(10,(.lst [r1]))]⟩
(aoV b)
 (.next ⟨[],[]⟩)))))
def ajO (b:Nat→PC):PT×List (Shp×PT):=(Ug b,[(.lp 0 [] [] [8,9,10] [10],Sn b)])
theorem QN:y5.map told=some (ajO (bj y5)):=by kernel_rfl
theorem auw:tree (ab y5)=Ug M3:=bB QN
theorem asE:round 0 [] [] [8,9,10] [10] (M3 0)=Sn M3:=be QN 0 fun _=>rfl
def HI:Option PC:=cF [8] [] Tryz.f129 129 [4,9]
def vS:PT:=
 (.ite (.pick (.pick (.pick (.pick (ah r1 (pi 0)) pT (cS r1 (pc (.setc BM 0 (.llen BD)) 0))) pT (ah r2 (pi 0))) pT (cS r2 (pi 22))) pT (aO (.llen r3) (pi 5)))
 (.ret pF)
 (.call ⟨[],[]⟩ [] 35 144 [r3,(.clo 145 [(.ref (pc (.setc BM 0 (.llen BD)) 0))])]
 (.ret (.nt yg))))
theorem ace:HI.map told=some (vS,[]):=by kernel_rfl
theorem auA:tree (ab HI)=vS:=aV ace
def HJ:Option PC:=cF [3] [] Tryz.f145 145 []
def Ui:PT:=
 (.ret (.pick (ah r0 (pi 0)) pT (cS r0 (.deref r1))))
theorem acf:HJ.map told=some (Ui,[]):=by kernel_rfl
theorem auz:tree (ab HJ)=Ui:=aV acf
def Io:Option PC:=cF [4] [] Tryz.f144 144 []
def Vv:PT:=
 (.call ⟨[],[]⟩ [] 7 157 [r0,r1]
 (.ret (cS r7 (pi 0))))
theorem acT:Io.map told=some (Vv,[]):=by kernel_rfl
theorem avP:tree (ab Io)=Vv:=aV acT
def zP:Option PC:=cF [4,5] [] Tryz.f157 157 []
def Nx:Nat→PC:=bn zP
def apY (b:Nat→PC):PC:=.block 0 [4,8,9] [] (.loop [4,8] [] (b 0))
def Gd (b:Nat→PC):PT:=
 (.ite (ah r8 r7)
 (.blockS ⟨[],[]⟩ 1 [4,5,10,11,12,13,14,15,16] []
 (.chk (ar r0 r8)
 (.callc ⟨[(5,r8)],[]⟩ [] 16 r1 [(pn r0 r8)]
 (.ite dI
 (.ret r5)
 (.next ⟨[],[]⟩))))
 (.next ⟨[(8,rW)],[]⟩))
 (.exit 0 ⟨[(9,(ah r8 r7))],[]⟩))
def VB (b:Nat→PC):PT:=
 (.brk ⟨[(8,(pi 0)),(7,(.llen r0)),(4,(pi 0))],[]⟩
(apY b)
 (.ret (pi (-1))))
def akx (b:Nat→PC):PT×List (Shp×PT):=(VB b,[(.lp 0 [4,8,9] [] [4,8] [],Gd b)])
theorem Ri:zP.map told=some (akx (bj zP)):=by kernel_rfl
theorem avV:tree (ab zP)=VB Nx:=bB Ri
theorem Tc:round 0 [4,8,9] [] [4,8] [] (Nx 0)=Gd Nx:=be Ri 0 fun _=>rfl
def y6:Option PC:=cF [8,9] [] Tryz.f130 130 [4,11]
def M4:Nat→PC:=bn y6
def aoW (b:Nat→PC):PC:=.block 0 [8,9,25,26] [] (.loop [8,9,25] [] (b 0))
def Fv (b:Nat→PC):PT:=
 (.ite (ah iv nK)
 (.chk (ar fV iv)
 (.ite (.pick (aj (pc Fh 0) r2) (aO (pc Fh 1) (pi 0)) pF)
 (.chk (ar r3 (pc Fh 1))
 (.ret (.tup [(pn r3 (pc Fh 1)),(pc Fh 2)])))
 (.next ⟨[(25,(aL iv (pi 1)))],[]⟩)))
 (.exit 0 ⟨[(26,(ah iv nK))],[]⟩))
def Uh (b:Nat→PC):PT:=
 (.call ⟨[(9,pF),(8,(pi 0))],[(4,(.mk [r0]))]⟩ [] 16 129 [jA,r1,r2,r3]
 (.ite (.nt dI)
 (.ret (.tup [(pi (-1)),pF]))
 (.chk (ar (pc o4 4) r1)
 (.brk ⟨[(25,(pi 0)),(24,(.llen (pc (pn (pc o4 4) r1) 2))),(23,(pc (pn (pc o4 4) r1) 2))],[]⟩
(aoW b)
 (.ret (.tup [r1,pF]))))))
def ajP (b:Nat→PC):PT×List (Shp×PT):=(Uh b,[(.lp 0 [8,9,25,26] [] [8,9,25] [],Fv b)])
theorem QO:y6.map told=some (ajP (bj y6)):=by kernel_rfl
theorem auy:tree (ab y6)=Uh M4:=bB QO
theorem So:round 0 [8,9,25,26] [] [8,9,25] [] (M4 0)=Fv M4:=be QO 0 fun _=>rfl
def HT:Option PC:=cF [7,9,11,12] [] Tryz.f84 84 [3,6,8,10]
def Ux:PT:=
 (.call ⟨[],[(6,gk)]⟩ [] 16 104 [(au 4 (.mk [r0])),r1]
 (.ite (aO (.tget dI 1) (pi 0))
 (.ret (.tup [(.mk [(pc (.setc o6 0 ya) 0),(pc (.setc o6 0 ya) 1)]),(.tget dI 1)]))
 (.call ⟨[],[]⟩ [] 25 105 [(.mk [(pc (.setc mN 0 (.tget dI 0)) 0),(pc (.setc mN 0 (.tget dI 0)) 1),(pc (.setc mN 0 (.tget dI 0)) 2)]),r2]
 (.call ⟨[],[(10,(.setc gk 0 iv))]⟩ [] 28 101 [r1]
 (.ret (.tup [(.mk [(pc (.setc o6 0 (.mk [(pc KX 0),(pc KX 1)])) 0),(pc (.setc o6 0 (.mk [(pc KX 0),(pc KX 1)])) 1)]),(pi 0)]))))))
theorem acr:HT.map told=some (Ux,[]):=by kernel_rfl
theorem auQ:tree (ab HT)=Ux:=aV acr
def HV:Option PC:=cF [5,6,7,8,10,11] [] Tryz.f104 104 [2,3,4,12292,9]
def Uz:PT:=
 (.call ⟨[],[(4,mN),(3,(.mk [r1])),(2,(.mk [r0]))]⟩ [] 14 101 [(pc (.mk [r1]) 0)]
 (.ite (.nt (.tget cI 1))
 (.ret (.tup [RV,(pi 1)]))
 (.call ⟨[(6,(.tget cI 0))],[]⟩ [] 23 131 [(pc o2 3),(.clo 132 [(.ref (pc o3 0))])]
 (.ite (ah fV (pi 0))
 (.ret (.tup [RV,(pi 4)]))
 (.chk (ar (pc o2 3) fV)
 (.call ⟨[],[(9,K1)]⟩ [] 35 133 [(.mk [(pc K1 0),(pc K1 1),(pc K1 2)])]
 (.ite (.pick (aO (.tget yg 1) (pi 0)) pT (aO (.tget yg 0) r6))
 (.ret (.tup [RV,(pi 11)]))
 (.ret (.tup [(.mk [(pc R0 0),(pc R0 1),(pc R0 2)]),(pi 0)])))))))))
theorem acu:HV.map told=some (Uz,[]):=by kernel_rfl
theorem auT:tree (ab HV)=Uz:=aV acu
def HW:Option PC:=cF [3] [] Tryz.f132 132 [2]
def UA:PT:=
 (.ret (aj ln (.deref r1)))
theorem acv:HW.map told=some (UA,[]):=by kernel_rfl
theorem auS:tree (ab HW)=UA:=aV acv
def zO:Option PC:=cF [4,5] [] Tryz.f131 131 []
def Nw:Nat→PC:=bn zO
def apX (b:Nat→PC):PC:=.block 0 [4,8,9] [] (.loop [4,8] [] (b 0))
def Gc (b:Nat→PC):PT:=
 (.ite (ah r8 r7)
 (.blockS ⟨[],[]⟩ 1 [4,5,10,11,12,13,14,15,16] []
 (.chk (ar r0 r8)
 (.callc ⟨[(5,r8)],[]⟩ [] 16 r1 [(pn r0 r8)]
 (.ite dI
 (.ret r5)
 (.next ⟨[],[]⟩))))
 (.next ⟨[(8,rW)],[]⟩))
 (.exit 0 ⟨[(9,(ah r8 r7))],[]⟩))
def VA (b:Nat→PC):PT:=
 (.brk ⟨[(8,(pi 0)),(7,(.llen r0)),(4,(pi 0))],[]⟩
(apX b)
 (.ret (pi (-1))))
def akw (b:Nat→PC):PT×List (Shp×PT):=(VA b,[(.lp 0 [4,8,9] [] [4,8] [],Gc b)])
theorem Rh:zO.map told=some (akw (bj zO)):=by kernel_rfl
theorem avU:tree (ab zO)=VA Nw:=bB Rh
theorem Tb:round 0 [4,8,9] [] [4,8] [] (Nw 0)=Gc Nw:=be Rh 0 fun _=>rfl
def Iu:Option PC:=cF [2,3] [] Tryz.f133 133 [1]
def VL:PT:=
 (.call ⟨[],[(1,(.mk [r0]))]⟩ [] 5 146 [(.mk [ln,uc,tW]),(pi 1)]
 (.ite (aX r5 (pi 60))
 (.ret (.tup [(pi 0),(pi 6)]))
 (.call ⟨[],[]⟩ [] 8 147 [(.mk [(pc o1 0),(pc o1 1),(pc o1 2)])]
 (.ret (.tup [(.tget r8 0),(.tget r8 1)])))))
theorem ac2:Iu.map told=some (VL,[]):=by kernel_rfl
theorem av5:tree (ab Iu)=VL:=aV ac2
def wB:Option PC:=cF [4,5] [] Tryz.f146 146 [2,7,12295]
def ND:Nat→PC:=bn wB
def ap7 (b:Nat→PC):PC:=.block 0 [5,13,14] [] (.loop [5,13] [] (b 0))
def Gj (b:Nat→PC):PT:=
 (.ite (ah cU bH)
 (.blockS ⟨[(14,(ah cU bH))],[]⟩ 1 [5,7,15,16,17,18,19,20,21,22,23,24] [7,12295]
 (.chk (ar bJ cU)
 (.call ⟨[(17,r5)],[]⟩ [] 21 146 [(.mk [(pc (.setc mN 0 (pn bJ cU)) 0),(pc (.setc mN 0 (pn bJ cU)) 1),(pc (.setc mN 0 (pn bJ cU)) 2)]),(aL r1 (pi 1))]
 (.ite (aX (aL nJ iX) (pi 60))
 (.exit 0 ⟨[(5,(aL nJ iX))],[]⟩)
 (.next ⟨[(5,(aL nJ iX))],[]⟩))))
 (.next ⟨[(13,(aL cU (pi 1)))],[]⟩))
 (.exit 0 ⟨[(14,(ah cU bH))],[]⟩))
def Mi (b:Nat→PC):PT:=
 (.ite (aX r1 (pi 8))
 (.ret (pi 61))
 (.brk ⟨[(13,(pi 0)),(12,qD),(11,tW),(5,(pi 1))],[]⟩
(ap7 b)
 (.ret r5)))
def akF (b:Nat→PC):PT×List (Shp×PT):=(Mi b,[(.lp 0 [5,13,14] [] [5,13] [],Gj b)])
theorem Ro:wB.map told=some (akF (bj wB)):=by kernel_rfl
theorem afO:tree (ab wB)=Mi ND:=bB Ro
theorem Ti:round 0 [5,13,14] [] [5,13] [] (ND 0)=Gj ND:=be Ro 0 fun _=>rfl
def zV:Option PC:=cF [2,3,5,7,8,38,47,10,11,12] [] Tryz.f147 147 [1,4,6,12294,9]
def CU:Nat→PC:=bn zV
def ap4 (b:Nat→PC):PC:=.block 0 [2,3,20,21] [4] (.loop [2,3,20] [4] (b 0))
def ap5 (b:Nat→PC):PC:=.block 3 [2,3,10,82,83] [] (.loop [2,3,10,82] [] (b 1))
def Gg (b:Nat→PC):PT:=
 (.ite (ah cv eB)
 (.blockS ⟨[],[]⟩ 1 [2,3,5,6,7,8,22,23,24,25,26,27,28,29,30,31,33,34,35,36] [6,12294,4]
 (.chk (ar fA cv)
 (.call ⟨[(5,cv)],[]⟩ [] 27 147 [(.mk [(pc (.setc mN 0 (pn fA cv)) 0),(pc (.setc mN 0 (pn fA cv)) 1),(pc (.setc mN 0 (pn fA cv)) 2)])]
 (.ite (aO (.tget ei 1) (pi 0))
 (.ret (.tup [(pi 0),(.tget ei 1)]))
 (.chk (ar o4 r5)
 (.next ⟨[],[(4,(.setn o4 r5 0 (.tget ei 0)))]⟩)))))
 (.next ⟨[(20,(aL cv (pi 1)))],[]⟩))
 (.exit 0 ⟨[(21,(ah cv eB))],[]⟩))
def vG (b:Nat→PC):PT:=
 (.ite (ah ls yj)
 (.chk (ar vE ls)
 (.ite (.pick (aj (pn vE ls) (pi (-1))) (aj cO (pi (-1))) pF)
 (.chk (ar o4 ls)
 (.ite (aO (pn o4 ls) (.pick (aj (pn vE ls) (pi (-1))) (pn o4 ls) (pn vE ls)))
 (.ret (.tup [(pi 0),(pi 11)]))
 (.next ⟨[(10,(pn o4 ls)),(82,(aL ls (pi 1)))],[]⟩)))
 (.chk (ar o4 ls)
 (.ite (aO (pn o4 ls) (.pick (aj (pn vE ls) (pi (-1))) cO (pn vE ls)))
 (.ret (.tup [(pi 0),(pi 11)]))
 (.next ⟨[(82,(aL ls (pi 1)))],[]⟩)))))
 (.exit 3 ⟨[(83,(ah ls yj))],[]⟩))
def VP (b:Nat→PC):PT:=
 (.chk (.an (cS qD (pi 0)) (bD qD cu))
 (.chk (aj qD qD)
 (.brk ⟨[(20,(pi 0)),(19,qD),(18,tW),(4,pN),(3,(pi 0)),(2,(pi 0))],[(4,(.rep qD (pi 0))),(1,(.mk [r0]))]⟩
(ap4 b)
 (.blockS ⟨[],[]⟩ 2 [2,3,38,39,40,41,42,46,47,48,49,50,51,55,56,60] []
 (.iteS ⟨[],[]⟩ (.pick (ah (pc o1 0) (pi 0)) pT (aX (pc o1 0) (pi 13))) [2,3,47,48,49,50,51,55,56,60] []
 (.ret (.tup [(pi 0),(pi 1)]))
 (.iteS ⟨[],[]⟩ (.pick (.pick (aj (pc o1 0) (pi 0)) pT (aj (pc o1 0) (pi 1))) pT (aj (pc o1 0) (pi 2))) [2,3] []
 (.call ⟨[],[]⟩ [] 62 158 [(.mk [(pc o1 0),(pc o1 1),(pc o1 2)])]
 (.ret (.tup [(.tget nO 0),(.tget nO 1)])))
 (.next ⟨[],[]⟩)
 (.next ⟨[],[]⟩))
 (.next ⟨[],[]⟩))
 (.call ⟨[],[]⟩ [] 67 159 [(pc o1 0)]
 (.ite (.pick (aO (.llen o4) (.llen (pc (.setc lP 0 uh) 0))) pT (aO (pc o1 1) (pi 0)))
 (.ret (.tup [(pi 0),(pi 2)]))
 (.brk ⟨[(82,(pi 0)),(81,(.llen (pc (.setc lP 0 uh) 0))),(80,(pc (.setc lP 0 uh) 0)),(10,(pi (-1)))],[(9,(.setc lP 0 uh))]⟩
(ap5 b)
 (.ite (aj (pc o9 1) (pi (-1)))
 (.ret (.tup [cO,(pi 0)]))
 (.ret (.tup [(pc o9 1),(pi 0)]))))))))))
def akD (b:Nat→PC):PT×List (Shp×PT):=(VP b,[(.lp 0 [2,3,20,21] [4] [2,3,20] [4],Gg b),(.lp 3 [2,3,10,82,83] [] [2,3,10,82] [],vG b)])
theorem KH:zV.map told=some (akD (bj zV)):=by kernel_rfl
theorem av9:tree (ab zV)=VP CU:=bB KH
theorem Tg:round 0 [2,3,20,21] [4] [2,3,20] [4] (CU 0)=Gg CU:=be KH 0 fun _=>rfl
theorem BZ:round 3 [2,3,10,82,83] [] [2,3,10,82] [] (CU 1)=vG CU:=be KH 1 fun _=>rfl
def IA:Option PC:=cF [2,3,12,20,4,5] [] Tryz.f158 158 [1]
def VS:PT:=
 (.ite (aX qD (pi 0))
 (.ret (.tup [(pi 0),(pi 2)]))
 (.blockS ⟨[(11,ln)],[(1,(.mk [r0]))]⟩ 0 [2,3,12,13,20,21] []
 (.iteS ⟨[],[]⟩ (aj bJ (pi 0)) [2,3,20,21] []
 (.call ⟨[],[]⟩ [] 16 162 [(pc o1 1)]
 (.ite (aO dI (pc o1 1))
 (.ret (.tup [(pi 0),(pi 3)]))
 (.ret (.tup [(pi 0),(pi 0)]))))
 (.ite (aj bJ (pi 1))
 (.ite (.pick (ah (pc o1 1) (pi 0)) pT (aX (pc o1 1) (pi 1)))
 (.ret (.tup [(pi 0),(pi 3)]))
 (.ret (.tup [(pi 1),(pi 0)])))
 (.next ⟨[],[]⟩))
 (.next ⟨[],[]⟩))
 (.call ⟨[],[]⟩ [] 33 160 [(pc o1 1)]
 (.ite (.nt (.tget ud 1))
 (.ret (.tup [(pi 0),(pi 10)]))
 (.ret (.tup [(.tget ud 0),(pi 0)]))))))
theorem ac8:IA.map told=some (VS,[]):=by kernel_rfl
theorem awc:tree (ab IA)=VS:=aV ac8
def Iz:Option PC:=cF [2] [] Tryz.f162 162 []
def VR:PT:=
 (.ret (.mn (.mx r0 (pi (-1099511627776))) BA))
theorem ac7:Iz.map told=some (VR,[]):=by kernel_rfl
theorem awb:tree (ab Iz)=VR:=aV ac7
def Iw:Option PC:=cF [2,3,4,11] [] Tryz.f160 160 []
def VN:PT:=
 (.ite (.pick (ah r0 (pi 0)) pT (aX r0 (pi 19)))
 (.ret (.tup [(pi 0),pF]))
 (.ite (ah r0 (pi 7))
 (.ret (.tup [(pi 0),pT]))
 (.ret (.tup [(pi 1),pT]))))
theorem ac4:Iw.map told=some (VN,[]):=by kernel_rfl
theorem av7:tree (ab Iw)=VN:=aV ac4
def ID:Option PC:=cF [4,8,13,17,21] [] Tryz.f159 159 [2]
def VV:PT:=
 (.ite (aj r0 (pi 3))
 (.ret (.mk [(pc (.setc lP 0 (.mk [(.lst [(pi 1)]),(pi 1)])) 0),(pc (.setc lP 0 (.mk [(.lst [(pi 1)]),(pi 1)])) 1)]))
 (.ite (.pick (aj r0 (pi 4)) (aj r0 (pi 4)) (aj r0 (pi 5)))
 (.ret (.mk [(pc (.setc lP 0 (.mk [(.lst [(pi 1),(pi 1)]),(pi 1)])) 0),(pc (.setc lP 0 (.mk [(.lst [(pi 1),(pi 1)]),(pi 1)])) 1)]))
 (.ite (aj r0 (pi 6))
 (.ret (.mk [(pc adQ 0),(pc adQ 1)]))
 (.ite (aj r0 (pi 7))
 (.ret (.mk [(pc (.setc lP 0 (.mk [(.lst [(pi 0),(pi 0)]),(pi 1)])) 0),(pc (.setc lP 0 (.mk [(.lst [(pi 0),(pi 0)]),(pi 1)])) 1)]))
 (.ite (aj r0 (pi 8))
 (.ret (.mk [(pc (.setc lP 0 (.mk [(.lst [(pi (-1)),(pi (-1))]),(pi 1)])) 0),(pc (.setc lP 0 (.mk [(.lst [(pi (-1)),(pi (-1))]),(pi 1)])) 1)]))
 (.ret (.mk [(pc (.setc lP 0 (.mk [(.lst [(pi 0),(pi 0)]),(pi 0)])) 0),(pc (.setc lP 0 (.mk [(.lst [(pi 0),(pi 0)]),(pi 0)])) 1)])))))))
theorem adb:ID.map told=some (VV,[]):=by kernel_rfl
theorem awg:tree (ab ID)=VV:=aV adb
def Iv:Option PC:=cF [5,6,8] [] Tryz.f105 105 [2,4,7]
def VM:PT:=
 (.call ⟨[],[(4,gk),(2,(.mk [r0]))]⟩ [] 11 133 [(.mk [ln,uc,tW])]
 (.ite (aO (.tget bJ 1) (pi 0))
 (.ret Fc)
 (.call ⟨[],[]⟩ [] 21 134 [(.mk [r1]),(.mk [(pc o2 0),(pc o2 1),(pc o2 2)])]
 (.ret (.mk [(pc aef 0),(pc aef 1)])))))
theorem ac3:Iv.map told=some (VM,[]):=by kernel_rfl
theorem av6:tree (ab Iv)=VM:=aV ac3
def zW:Option PC:=cF [5,15,21,9,11] [] Tryz.f134 134 [2,3,4,6,33,7,8,10,12298,12]
def NC:Nat→PC:=bn zW
def ap6 (b:Nat→PC):PC:=.block 1 [45,46] [7,8] (.loop [45] [7,8] (b 0))
def Gi (b:Nat→PC):PT:=
 (.ite (ah sd sc)
 (.blockS ⟨[],[]⟩ 2 [9,10,47,48,49,50,51,52,53,54,55,56,57,58,59,60,61] [10,12298,8,7]
 (.chk (ar uf sd)
 (.call ⟨[(54,sd),(52,sd)],[]⟩ [] 57 134 [(.mk [(pc o2 0)]),(.mk [(pc (.setc mN 0 (pn uf sd)) 0),(pc (.setc mN 0 (pn uf sd)) 1),(pc (.setc mN 0 (pn uf sd)) 2)])]
 (.chk (ar o7 K6)
 (.chk (ar o8 se)
 (.next ⟨[],[(8,(.setn o8 se 0 (.tget BQ 1))),(7,(.setn o7 K6 0 (.tget BQ 0)))]⟩)))))
 (.next ⟨[(45,(aL sd (pi 1)))],[]⟩))
 (.exit 1 ⟨[(46,(ah sd sc))],[]⟩))
def GJ (b:Nat→PC):PT:=
 (.blockS ⟨[(14,(pc (.mk [r1]) 0))],[(4,gk),(3,(.mk [r1])),(2,(.mk [r0]))]⟩ 0 [5,15,16,21,22] [4]
 (.iteS ⟨[],[]⟩ (.pick (aj cI (pi 0)) (aj cI (pi 0)) (aj cI (pi 1))) [5,21,22] [4]
 (.ret (.tup [(.mk [(pc (.setc o4 0 (.mk [pT,(pc o3 1)])) 0),(pc (.setc o4 0 (.mk [pT,(pc o3 1)])) 1)]),pL]))
 (.iteS ⟨[],[]⟩ (aj cI (pi 2)) [5] [4]
 (.call ⟨[],[]⟩ [] 26 148 [(.mk [(pc o2 0)]),(pc o3 1)]
 (.ite (pc (.setc gk 0 j9) 0)
 (.ret (.tup [(.mk [(pc adO 0),(pc adO 1)]),pL]))
 (.ret (.tup [Fc,(.lst [(pc o3 1)])]))))
 (.next ⟨[],[]⟩)
 (.next ⟨[],[]⟩))
 (.next ⟨[],[]⟩))
 (.chk (.an (cS oS (pi 0)) (bD oS cu))
 (.chk (aj oS oS)
 (.brk ⟨[(45,(pi 0)),(44,oS),(43,(pc o3 2)),(8,pN),(7,pN)],[(8,(.rep oS pL)),(7,(.rep oS gk))]⟩
(ap6 b)
 (.chk (.nt (.an (.an (aj (pc o3 0) (pi 6)) pT) (.nt (ar o7 (pi 0)))))
 (.ite (.pick (aj (pc o3 0) (pi 6)) (pc (pn o7 (pi 0)) 0) pF)
 (.chk (ar o7 (pi 0))
 (.chk (ar o7 Fg)
 (.chk (ar o8 Fg)
 (.ret (.tup [(.mk [(pc (.setc o4 0 (.sub (pn o7 Fg) 0 2)) 0),(pc (.setc o4 0 (.sub (pn o7 Fg) 0 2)) 1)]),(pn o8 Fg)])))))
 (.call ⟨[],[]⟩ [] 88 149 [(pc o3 0),o7]
 (.ite (pc (.setc gk 0 K8) 0)
 (.ret (.tup [(.mk [(pc adN 0),(pc adN 1)]),pL]))
 (.call ⟨[(92,ya)],[]⟩ [] 94 150 [o8]
 (.ret (.tup [(.mk [(pc (.setc o4 0 Se) 0),(pc (.setc o4 0 Se) 1)]),r94])))))))))))
def akE (b:Nat→PC):PT×List (Shp×PT):=(GJ b,[(.lp 1 [45,46] [7,8] [45] [7,8],Gi b)])
theorem Rn:zW.map told=some (akE (bj zW)):=by kernel_rfl
theorem awd:tree (ab zW)=GJ NC:=bB Rn
theorem Th:round 1 [45,46] [7,8] [45] [7,8] (NC 0)=Gi NC:=be Rn 0 fun _=>rfl
def IB:Option PC:=cF [5,6] [] Tryz.f148 148 [2,4]
def VT:PT:=
 (.chk (.nt (.an (.an (.nt (cS r1 (.llen ln))) pT) (.nt (ar ln r1))))
 (.ite (.pick (cS r1 (.llen ln)) pT (.nt (pc (pn ln r1) 0)))
 (.ret (.mk [(pc (.setc gk 0 ya) 0),(pc (.setc gk 0 ya) 1)]))
 (.call ⟨[],[(4,gk),(2,(.mk [r0]))]⟩ [] 24 160 [r1]
 (.iteS ⟨[],[]⟩ (aj (.tget nK 0) (pi 1)) [] [4]
 (.chk (ar (pc o2 0) r1)
 (.call ⟨[],[]⟩ [] 36 161 [(aO (pc (pn (pc o2 0) r1) 1) (pi 0))]
 (.ret (.mk [(pc (.setc o4 0 iY) 0),(pc (.setc o4 0 iY) 1)]))))
 (.next ⟨[],[]⟩)
 (.chk (ar (pc o2 0) r1)
 (.call ⟨[],[]⟩ [] 43 162 [(pc (pn (pc o2 0) r1) 1)]
 (.ret (.mk [(pc (.setc o4 0 (.mk [pT,uf])) 0),(pc (.setc o4 0 (.mk [pT,uf])) 1)]))))))))
theorem ac9:IB.map told=some (VT,[]):=by kernel_rfl
theorem awe:tree (ab IB)=VT:=aV ac9
end Rm
