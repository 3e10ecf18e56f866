/-
  The functions of this seat, compiled (2).
-/
import Derived.Test.YtmnnipoiigfapaaGreatDoorHAK
import Derived.KernelRfl
set_option linter.unusedVariables false
set_option maxRecDepth 100000
noncomputable section
namespace Rm
open Go Go.Proofs Cx
def GP:Option PC:=cF [6,9,10,66,103,113,11,140,149] [] Tryz.f89 89 [3,4,7,8]
def S8:PT:=
 (.chk JT
 (.ite (.pick (.cb .neq (af r2 (pi 0)) (af (pc kY 0) (pi 0))) pT (.pick (aR (pc kY 0) (pi 2)) (aR (pc kY 4) (pi (-1))) pF))
 (.ret pF)
 (.ite (.pick (.pick (aR (pc kY 0) (pi 3)) (aR (pc kY 0) (pi 4)) pF) (aR (pc kY 3) (pi (-1))) pF)
 (.ret pF)
 (.call ⟨[(9,(.pick (af (pc kY 5) (pi 0)) (af (pc kY 8) (pi 0)) pF))],[(8,(.setc FQ 0 (ax 15 (.mk [r1])))),(7,kY),(4,(.mk [r1])),(3,(.mk [r0]))]⟩ [] 58 68 [(pc kY 5),(pi 1),oD]
 (.blockS ⟨[(65,(pc o7 0)),(10,(.pick Ev (af (pc o7 8) (pi 0)) pF))],[]⟩ 0 [6,66,67,103,104,113,114,140,141,149,150] []
 (.iteS ⟨[],[]⟩ (af Bc (pi 0)) [6,103,104,113,114,140,141,149,150] []
 (.ret (.pick (.pick (.pick (.pick (.pick (af (pc o7 2) (pc o8 0)) (af (pc o7 5) (pi 0)) pF) (af (.ai .or .i64 (pc o7 8) (pi 1)) (pi 1)) pF) (af (pc o7 1) (pi 0)) pF) (af (pc o7 6) (pc o8 8)) pF) (af (pc o7 7) (pc o8 9)) pF))
 (.iteS ⟨[],[]⟩ (af Bc (pi 1)) [6,113,114,140,141,149,150] []
 (.ret (.pick (af (pc o7 2) (pc o8 1)) cM pF))
 (.iteS ⟨[],[]⟩ (af Bc (pi 2)) [6,140,141,149,150] []
 (.call ⟨[(11,(pi 6))],[]⟩ [] 121 68 [(pc o7 4),(pi (-1)),xH]
 (.call ⟨[(127,(.pick acr (af (pc o7 5) (pi 0)) pF))],[]⟩ [(127,true)] 130 68 [(pc o7 8),(pi 0),(pi 7)]
 (.ret (.pick (.pick acs (.r 130) pF) (aR (.ai .and .i64 (pc o7 8) bF) bF) pF))))
 (.iteS ⟨[],[]⟩ (af Bc (pi 3)) [6,149,150] []
 (.call ⟨[(143,r9)],[]⟩ [(143,true)] 147 117 [(ax 19 o4),r2,(.lst [(pi 0),(pi 1),(pi 2),(pi 4)])]
 (.ret (.pick (.r 143) (.r 147) pF)))
 (.iteS ⟨[],[]⟩ (af Bc (pi 4)) [6] []
 (.call ⟨[(159,(.pick cM (aR (pc o7 2) (pc o8 1)) pF))],[]⟩ [(159,true)] 163 117 [(ax 19 o4),r2,(.lst [(pi 0),(pi 2)])]
 (.ret (.pick (.r 159) (.r 163) pF)))
 (.next ⟨[],[]⟩)
 (.next ⟨[],[]⟩))
 (.next ⟨[],[]⟩))
 (.next ⟨[],[]⟩))
 (.next ⟨[],[]⟩))
 (.next ⟨[],[]⟩))
 (.ret pF))))))
theorem aaz:GP.map told=some (S8,[]):=by kernel_rfl
theorem ash:tree (ae GP)=S8:=ba aaz
def GO:Option PC:=cF [6,7] [] Tryz.f117 117 [3]
def S6:PT:=
 (.chk (ar mz r1)
 (.call ⟨[(7,(pc (pn mz r1) 3))],[(3,(.mk [r0]))]⟩ [] 17 68 [(pc (pn mz r1) 3),(pi 0),(bK r1 (pi 1))]
 (.chk (.nt (.an (.an qg pT) (.nt (ar (pc o3 15) r1))))
 (.call ⟨[(18,qg)],[]⟩ [(18,true)] 27 118 [(ax 19 o3),r7,(pc (pn (pc o3 15) r1) 1)]
 (.chk (.nt (.an (.an (.pick kz fP pF) pT) (.nt (ar (pc o3 15) r7))))
 (.call ⟨[(29,(.pick kz fP pF))],[]⟩ [(29,true)] 37 23 [r2,(pc (pn (pc o3 15) r7) 0)]
 (.ret (.pick mC mD pF))))))))
theorem aay:GO.map told=some (S6,[]):=by kernel_rfl
theorem asf:tree (ae GO)=S6:=ba aay
def GR:Option PC:=cF [6] [] Tryz.f118 118 [3]
def K7:PT:=
 (.chk (.nt (.an (.an (.nt (af r1 (pi 0))) pT) (.nt (ar mz r1))))
 (.ret (.pick (af r1 (pi 0)) pT (af (pc (pn mz r1) 1) r2))))
theorem aaB:GR.map told=some (K7,[]):=by kernel_rfl
theorem asl:tree (ae GR)=K7:=ba aaB
def Ho:Option PC:=cF [4] [] Tryz.f23 23 []
def Ud:PT:=
 (.call ⟨[],[]⟩ [] 7 56 [r0,r1]
 (.ret (cX r7 (pi 0))))
theorem aa7:Ho.map told=some (Ud,[]):=by kernel_rfl
theorem atn:tree (ae Ho)=Ud:=ba aa7
def zj:Option PC:=cF [4,5] [] Tryz.f56 56 []
def Mo:Nat→PC:=bx zj
def anB (b:Nat→PC):PC:=.block 0 [4,8,9] [] (.loop [4,8] [] (b 0))
def Fj (b:Nat→PC):PT:=
 (.ite (aj r8 r7)
 (.chk (ar r0 r8)
 (.ite (af r1 (pn r0 r8))
 (.ret r8)
 (.next ⟨[(8,rn)],[]⟩)))
 (.exit 0 ⟨[(9,(aj r8 r7))],[]⟩))
def Uj (b:Nat→PC):PT:=
 (.brk ⟨[(8,(pi 0)),(7,(.llen r0)),(4,(pi 0))],[]⟩
(anB b)
 (.ret (pi (-1))))
def aij (b:Nat→PC):PT×List (Shp×PT):=(Uj b,[(.lp 0 [4,8,9] [] [4,8] [],Fj b)])
theorem Qc:zj.map told=some (aij (br zj)):=by kernel_rfl
theorem att:tree (ae zj)=Uj Mo:=bN Qc
theorem RP:round 0 [4,8,9] [] [4,8] [] (Mo 0)=Fj Mo:=bj Qc 0 fun _=>rfl
def yG:Option PC:=cF [4,5,7] [] Tryz.f69 69 [2,3,6]
def LZ:Nat→PC:=bx yG
def amG (b:Nat→PC):PC:=.block 0 [4,11,12] [] (.loop [4,11] [] (b 0))
def Kl (b:Nat→PC):PT:=
 (.ite (aj bF cM)
 (.blockS ⟨[],[]⟩ 1 [4,5,6,7,13,14,15,16,17,18,19,20,21,22,23,24,25,26,27,28,29,30,31,32,37,38,39,40,41,42,43,44,45,46,47,48,58,59,69,70,71,72,73] [6]
 (.chk (ar r9 bF)
 (.call ⟨[(5,bF)],[(6,(.setc z9 0 (pn r9 bF)))]⟩ [] 22 68 [(pc (.setc z9 0 (pn r9 bF)) 3),(pi 0),(bK (pc o3 14) (pi 1))]
 (.ite (.nt J6)
 (.ret (pi 15))
 (.call ⟨[],[]⟩ [] 30 68 [(pc o6 7),(pi 0),(bK (.llen (pc o2 1)) (pi 1))]
 (.call ⟨[(32,(.nt oH))],[]⟩ [(32,false)] 35 68 [(pc o6 0),(pi 0),(pi 9)]
 (.ite (.pick A8 pT (.nt Ba))
 (.ret (pi 1))
 (.call ⟨[],[]⟩ [] 41 90 [(ax 8 o2),(ax 19 o3),(ax 9 o6)]
 (.ite (.nt tB)
 (.ret (pi 14))
 (.ite (aR (pc o6 4) (pi (-1)))
 (.chk (ar (pc o3 15) (pc o6 4))
 (.ite (aV r5 (pi 0))
 (.chk (ar (pc o3 17) (bK r5 (pi 1)))
 (.call ⟨[],[]⟩ [] 72 68 [(pc o6 6),(.mx (.mx (pc o3 8) (pc (pn (pc o3 15) (pc o6 4)) 6)) (pc (pn (pc o3 17) (bK r5 (pi 1))) 6)),(pi 100000)]
 (.ite (.nt Bd)
 (.ret (pi 13))
 (.next ⟨[],[]⟩))))
 (.call ⟨[],[]⟩ [] 72 68 [(pc o6 6),(.mx (pc o3 8) (pc (pn (pc o3 15) (pc o6 4)) 6)),(pi 100000)]
 (.ite (.nt Bd)
 (.ret (pi 13))
 (.next ⟨[],[]⟩)))))
 (.ite (aV r5 (pi 0))
 (.chk (ar (pc o3 17) (bK r5 (pi 1)))
 (.call ⟨[],[]⟩ [] 72 68 [(pc o6 6),(.mx (pc o3 8) (pc (pn (pc o3 17) (bK r5 (pi 1))) 6)),(pi 100000)]
 (.ite (.nt Bd)
 (.ret (pi 13))
 (.next ⟨[],[]⟩))))
 (.call ⟨[],[]⟩ [] 72 68 [(pc o6 6),(pc o3 8),(pi 100000)]
 (.ite (.nt Bd)
 (.ret (pi 13))
 (.next ⟨[],[]⟩)))))))))))))
 (.next ⟨[(11,(bu bF (pi 1)))],[]⟩))
 (.exit 0 ⟨[(12,(aj bF cM))],[]⟩))
def S5 (b:Nat→PC):PT:=
 (.brk ⟨[(11,(pi 0)),(10,(.llen (pc (.mk [r1]) 17))),(9,(pc (.mk [r1]) 17)),(4,(pi 0))],[(3,(.mk [r1])),(2,(.mk [r0]))]⟩
(amG b)
 (.ret (pi 0)))
def ahF (b:Nat→PC):PT×List (Shp×PT):=(S5 b,[(.lp 0 [4,11,12] [] [4,11] [],Kl b)])
theorem PL:yG.map told=some (ahF (br yG)):=by kernel_rfl
theorem ase:tree (ae yG)=S5 LZ:=bN PL
theorem acE:round 0 [4,11,12] [] [4,11] [] (LZ 0)=Kl LZ:=bj PL 0 fun _=>rfl
def GN:Option PC:=cF [6,7,8,9,65,80,100,111] [] Tryz.f90 90 [3,4,5]
def S4:PT:=
 (.call ⟨[],[(5,(.mk [r2])),(4,(.mk [r1])),(3,(.mk [r0]))]⟩ [] 16 68 [(pc (.mk [r2]) 4),(pi 0),(bK (.llen (pc (.mk [r1]) 15)) (pi 1))]
 (.call ⟨[(17,dh)],[]⟩ [(17,true)] 23 118 [(ax 19 o4),(pc o5 4),(pc o5 3)]
 (.chk (.nt (.an (.an (.pick qg mB pF) pT) (.nt (ar (pc o4 15) (pc o5 4)))))
 (.call ⟨[(8,(.pick (.pick qg mB pF) QN pF)),(7,(.pick qg mB pF))],[]⟩ [] 44 68 [(pc o5 2),(pi 0),xH]
 (.call ⟨[(9,xO)],[]⟩ [] 51 68 [(pc o5 1),(pi 0),xH]
 (.ite (.pick (.nt la) pT (.pick (aR (pc o5 0) (pi 4)) (aR (pc o5 8) (pi 0)) pF))
 (.ret pF)
 (.blockS ⟨[(64,(pc o5 0))],[]⟩ 0 [6,65,66,80,81,100,101,111,112] []
 (.iteS ⟨[],[]⟩ (.pick (af lL (pi 0)) (af lL (pi 0)) (.pick (af lL (pi 1)) (af lL (pi 1)) (af lL (pi 2)))) [6,80,81,100,101,111,112] []
 (.ret (.pick (.pick r9 (af (pc o5 4) (pi (-1))) pF) tw pF))
 (.iteS ⟨[],[]⟩ (.pick (af lL (pi 3)) (af lL (pi 3)) (.pick (af lL (pi 5)) (af lL (pi 5)) (af lL (pi 4)))) [6,100,101,111,112] []
 (.call ⟨[(90,(.pick r9 (af (pc o5 4) (pi (-1))) pF))],[]⟩ [(90,true)] 93 68 [(pc o5 5),(pi 0),oD]
 (.call ⟨[(95,(.pick r90 Kf pF))],[]⟩ [(95,true)] 98 68 [(pc o5 8),(pi 0),(pi 1)]
 (.ret (.pick r95 r98 pF))))
 (.iteS ⟨[],[]⟩ (af lL (pi 6)) [6,111,112] []
 (.call ⟨[(106,(.pick r9 r8 pF))],[]⟩ [(106,true)] 109 68 [(pc o5 5),(pi 1),oD]
 (.ret (.pick apM apN pF)))
 (.ite (af lL (pi 9))
 (.ret (.pick (.pick A5 r8 pF) tw pF))
 (.next ⟨[],[]⟩))
 (.next ⟨[],[]⟩))
 (.next ⟨[],[]⟩))
 (.next ⟨[],[]⟩))
 (.ret (.pick (.pick A5 r7 pF) tw pF)))))))))
theorem aax:GN.map told=some (S4,[]):=by kernel_rfl
theorem asd:tree (ae GN)=S4:=ba aax
def yH:Option PC:=cF [2,3] [] Tryz.f70 70 [1,4,5]
def L1:Nat→PC:=bx yH
def amH (b:Nat→PC):PC:=.block 0 [2,9,10] [] (.loop [2,9] [] (b 0))
def Km (b:Nat→PC):PT:=
 (.ite (aj r9 r8)
 (.blockS ⟨[],[]⟩ 1 [2,3,4,11,12,13,14,15,16,17,18,27,28,33,34,35] [4]
 (.chk (ar r7 r9)
 (.call ⟨[(3,r9)],[(4,(.setc z3 0 (pn r7 r9)))]⟩ [] 16 68 [(pc (.setc z3 0 (pn r7 r9)) 0),(pi 0),(pi 4)]
 (.call ⟨[(18,(.nt dh))],[]⟩ [(18,false)] 25 68 [(pc o4 1),(pi 0),(bK (.llen (pc o1 15)) (pi 1))]
 (.call ⟨[(28,(.pick kz pT (.nt iX)))],[]⟩ [(28,false)] 31 68 [(pc o4 2),(pi 0),(pi 1)]
 (.ite (.pick qh pT (.nt rq))
 (.ret (pi 1))
 (.ite (af r3 (pi 0))
 (.exit 1 ⟨[],[]⟩)
 (.chk (ar (pc o1 18) (bK r3 (pi 1)))
 (.call ⟨[],[(5,(.setc z3 0 (pn (pc o1 18) (bK r3 (pi 1)))))]⟩ [] 46 92 [(pc (.setc z3 0 (pn (pc o1 18) (bK r3 (pi 1)))) 1),(pc o4 1)]
 (.call ⟨[],[]⟩ [] 51 92 [(pc o5 0),(pc o4 0)]
 (.call ⟨[],[]⟩ [] 53 91 [(.lst [J7,la])]
 (.ite (cX QT (pi 0))
 (.ret (pi 5))
 (.next ⟨[],[]⟩))))))))))))
 (.next ⟨[(9,(bu r9 (pi 1)))],[]⟩))
 (.exit 0 ⟨[(10,(aj r9 r8))],[]⟩))
def S7 (b:Nat→PC):PT:=
 (.brk ⟨[(9,(pi 0)),(8,(.llen ve)),(7,ve),(2,(pi 0))],[(1,(.mk [r0]))]⟩
(amH b)
 (.ret (pi 0)))
def ahG (b:Nat→PC):PT×List (Shp×PT):=(S7 b,[(.lp 0 [2,9,10] [] [2,9] [],Km b)])
theorem PM:yH.map told=some (ahG (br yH)):=by kernel_rfl
theorem asg:tree (ae yH)=S7 L1:=bN PM
theorem acF:round 0 [2,9,10] [] [2,9] [] (L1 0)=Km L1:=bj PM 0 fun _=>rfl
def Gv:Option PC:=cF [4,5,6] [] Tryz.f92 92 []
def Sz:PT:=
 (.call ⟨[],[]⟩ [] 8 119 [r0]
 (.call ⟨[(5,r8)],[]⟩ [] 10 119 [r1]
 (.ite r5
 (.ite cM
 (.ret (pi 0))
 (.ret (pi (-1))))
 (.ite cM
 (.ret (pi 1))
 (.ite (aj r0 r1)
 (.ret (pi (-1)))
 (.ite (aV r0 r1)
 (.ret (pi 1))
 (.ret (pi 0))))))))
theorem aaf:Gv.map told=some (Sz,[]):=by kernel_rfl
theorem arM:tree (ae Gv)=Sz:=ba aaf
def Gw:Option PC:=cF [2] [] Tryz.f119 119 []
def SB:PT:=
 (.ret (aR r0 r0))
theorem aag:Gw.map told=some (SB,[]):=by kernel_rfl
theorem arO:tree (ae Gw)=SB:=ba aag
def yy:Option PC:=cF [2,3,5] [] Tryz.f91 91 []
def LR:Nat→PC:=bx yy
def amv (b:Nat→PC):PC:=.block 0 [2,8,9] [] (.loop [2,8] [] (b 0))
def Ez (b:Nat→PC):PT:=
 (.ite (aj r8 r7)
 (.chk (ar r6 r8)
 (.ite (aR (pn r6 r8) r3)
 (.ret (pn r6 r8))
 (.next ⟨[(8,rn)],[]⟩)))
 (.exit 0 ⟨[(9,(aj r8 r7))],[]⟩))
def SA (b:Nat→PC):PT:=
 (.brk ⟨[(8,(pi 0)),(7,(.llen r0)),(6,r0),(3,(pi 0)),(2,(pi 0))],[]⟩
(amv b)
 (.ret r3))
def ahw (b:Nat→PC):PT×List (Shp×PT):=(SA b,[(.lp 0 [2,8,9] [] [2,8] [],Ez b)])
theorem PB:yy.map told=some (ahw (br yy)):=by kernel_rfl
theorem arN:tree (ae yy)=SA LR:=bN PB
theorem Q3:round 0 [2,8,9] [] [2,8] [] (LR 0)=Ez LR:=bj PB 0 fun _=>rfl
def GB:Option PC:=cF [3] [] Tryz.f37 37 [2]
def SL:PT:=
 (.call ⟨[],[]⟩ [] 7 38 [(.deref r1),mA]
 (.ret (.nt r7)))
theorem aam:GB.map told=some (SL,[]):=by kernel_rfl
theorem arY:tree (ae GB)=SL:=ba aam
def GI:Option PC:=cF [4] [] Tryz.f38 38 [2]
def SU:PT:=
 (.ret (.pick (cX r1 (pi 0)) (aj r1 (.llen (pc (.mk [r0]) 3))) pF))
theorem aas:GI.map told=some (SU,[]):=by kernel_rfl
theorem ar7:tree (ae GI)=SU:=ba aas
def GC:Option PC:=cF [2] [] Tryz.f39 39 []
def SM:PT:=
 (.ret (.pick (aj (pc (.deref r0) 1) (pi 0)) pT (cX (pc (.deref r0) 1) (pc (.sub (.deref r1) 0 15) 14))))
theorem aan:GC.map told=some (SM,[]):=by kernel_rfl
theorem arZ:tree (ae GC)=SM:=ba aan
def GD:Option PC:=cF [2] [] Tryz.f40 40 []
def SN:PT:=
 (.call ⟨[],[]⟩ [] 6 38 [(.deref r0),(pc (.deref r1) 2)]
 (.ret (.nt r6)))
theorem aao:GD.map told=some (SN,[]):=by kernel_rfl
theorem ar0:tree (ae GD)=SN:=ba aao
def GF:Option PC:=cF [1] [] Tryz.f41 41 []
def SO:PT:=
 (.ret (aV (.llen (pc (.deref r0) 5)) (pi 20)))
theorem aap:GF.map told=some (SO,[]):=by kernel_rfl
theorem ar1:tree (ae GF)=SO:=ba aap
def GG:Option PC:=cF [2] [] Tryz.f42 42 []
def SP:PT:=
 (.call ⟨[],[]⟩ [] 6 43 [(pc (.deref r0) 5),(.deref r1)]
 (.ret r6))
theorem aaq:GG.map told=some (SP,[]):=by kernel_rfl
theorem ar2:tree (ae GG)=SP:=ba aaq
def Hm:Option PC:=cF [4] [] Tryz.f43 43 []
def Ub:PT:=
 (.call ⟨[],[]⟩ [] 7 71 [r0,r1]
 (.ret (cX r7 (pi 0))))
theorem aa5:Hm.map told=some (Ub,[]):=by kernel_rfl
theorem atl:tree (ae Hm)=Ub:=ba aa5
def zg:Option PC:=cF [4,5] [] Tryz.f71 71 []
def Ml:Nat→PC:=bx zg
def anx (b:Nat→PC):PC:=.block 0 [4,8,9] [] (.loop [4,8] [] (b 0))
def Fg (b:Nat→PC):PT:=
 (.ite (aj r8 r7)
 (.blockS ⟨[],[]⟩ 1 [4,5,10,11,12,13,14,15,16] []
 (.chk (ar r0 r8)
 (.callc ⟨[(5,r8)],[]⟩ [] 16 r1 [(pn r0 r8)]
 (.ite dh
 (.ret r5)
 (.next ⟨[],[]⟩))))
 (.next ⟨[(8,rn)],[]⟩))
 (.exit 0 ⟨[(9,(aj r8 r7))],[]⟩))
def Ug (b:Nat→PC):PT:=
 (.brk ⟨[(8,(pi 0)),(7,(.llen r0)),(4,(pi 0))],[]⟩
(anx b)
 (.ret (pi (-1))))
def aif (b:Nat→PC):PT×List (Shp×PT):=(Ug b,[(.lp 0 [4,8,9] [] [4,8] [],Fg b)])
theorem P9:zg.map told=some (aif (br zg)):=by kernel_rfl
theorem atq:tree (ae zg)=Ug Ml:=bN P9
theorem RM:round 0 [4,8,9] [] [4,8] [] (Ml 0)=Fg Ml:=bj P9 0 fun _=>rfl
def GH:Option PC:=cF [2] [] Tryz.f44 44 []
def SQ:PT:=
 (.call ⟨[],[]⟩ [] 5 45 [(.deref r0),(.deref r1)]
 (.ret (.nt r5)))
theorem aar:GH.map told=some (SQ,[]):=by kernel_rfl
theorem ar3:tree (ae GH)=SQ:=ba aar
def yF:Option PC:=cF [4,5] [] Tryz.f45 45 [2,3,7]
def LY:Nat→PC:=bx yF
def amD (b:Nat→PC):PC:=.block 0 [4,5,26,27] [] (.loop [4,5,26] [] (b 0))
def Kk (b:Nat→PC):PT:=
 (.ite (aj jA iX)
 (.chk (ar oG jA)
 (.ite (aj (pc (.setc tp 0 (pn oG jA)) 1) r5)
 (.ret pF)
 (.next ⟨[(5,(pc (.setc tp 0 (pn oG jA)) 1)),(26,(bu jA (pi 1)))],[]⟩)))
 (.exit 0 ⟨[(27,(aj jA iX))],[]⟩))
def SS (b:Nat→PC):PT:=
 (.ite (.pick (aj (pc (.mk [r1]) 3) (pc (.mk [r0]) 8)) pT (aj (pc (.mk [r1]) 4) (pc (.mk [r1]) 3)))
 (.ret pF)
 (.brk ⟨[(26,(pi 0)),(25,(.llen (pc (.mk [r1]) 5))),(24,(pc (.mk [r1]) 5)),(4,pF),(5,(pc (.mk [r1]) 4))],[]⟩
(amD b)
 (.ret (bU r5 (pi 100000)))))
def ahD (b:Nat→PC):PT×List (Shp×PT):=(SS b,[(.lp 0 [4,5,26,27] [] [4,5,26] [],Kk b)])
theorem PK:yF.map told=some (ahD (br yF)):=by kernel_rfl
theorem ar6:tree (ae yF)=SS LY:=bN PK
theorem acD:round 0 [4,5,26,27] [] [4,5,26] [] (LY 0)=Kk LY:=bj PK 0 fun _=>rfl
def Gn:Option PC:=cF [] [] Tryz.f35 35 [5,8,77832,10]
def Sr:PT:=
 (.call ⟨[],[(10,A2)]⟩ [] 18 65 [jY,r1,r2,(.mk [(.mk [(pc jX 0),(pc jX 1),(pc jX 2),(pc jX 3),(pc jX 4),(pc jX 5),(pc jX 6),(pc jX 7),(pc jX 8),(pc jX 9),(pc jX 10),(pc jX 11),(pc jX 12),(pc jX 13),(pc jX 14),(pc jX 15),(pc jX 16),(pc jX 17),pL]),(pi 0),(pi (-1)),(pi (-1)),(pi (-1)),r4])]
 (.ret (ax 5 (.setc cT 0 kz))))
theorem Z8:Gn.map told=some (Sr,[]):=by kernel_rfl
theorem arE:tree (ae Gn)=Sr:=ba Z8
def Gm:Option PC:=cF [10] [] Tryz.f65 65 [4,7,8,9]
def Sq:PT:=
 (.call ⟨[],[(8,A2),(4,(.mk [r0]))]⟩ [] 16 83 [jY,r1,r2,(ax 24 (.mk [r3]))]
 (.iteS ⟨[(10,(.tget dh 1))],[(9,(.setc A2 0 (.tget dh 0)))]⟩ (aR (pc (.setc A2 0 (.tget dh 0)) 2) (pi (-1))) [] [9]
 (.chk (ar (pc o4 4) (pc o9 2))
 (.call ⟨[],[]⟩ [] 31 84 [(pn (pc o4 4) (pc o9 2)),r2,cM]
 (.next ⟨[],[(9,(.setc (.setc o9 0 (.tget rq 0)) 4 (.tget rq 1)))]⟩)))
 (.next ⟨[],[]⟩)
 (.ret (ax 5 (.setc o8 0 (ax 5 o9))))))
theorem Z7:Gm.map told=some (Sq,[]):=by kernel_rfl
theorem arD:tree (ae Gm)=Sq:=ba Z7
def Gq:Option PC:=cF [9,11,12,13,14] [] Tryz.f83 83 [4,7,8,10,16394]
def Su:PT:=
 (.call ⟨[],[(16394,pL),(10,(.setc A2 0 (.mk [gf,(pi (-1)),pL,(pi 1)]))),(8,A2),(7,(.mk [r3])),(4,(.mk [r0]))]⟩ [] 19 100 [jY,(ax 24 (.mk [r3]))]
 (.ite (af (.llen (.tget jz 1)) (pi 0))
 (.ret (.tup [QI,pL]))
 (.call ⟨[(11,(.tget jz 1))],[(7,(.setc o7 0 (.tget jz 0)))]⟩ [] 28 101 [r2]
 (.ite (.nt (.tget qh 1))
 (.ret (.tup [QI,pL]))
 (.call ⟨[],[]⟩ [] 37 102 [(ax 8 o4),r1,(ax 24 o7)]
 (.ite (af (.llen mD) (pi 0))
 (.ret (.tup [QI,pL]))
 (.call ⟨[],[]⟩ [] 46 103 [(ax 8 o4),r1,r2,mD]
 (.ite (af (pc xG 4) (pi 0))
 (.chk (ar (pc xG 3) (bK (.llen (pc xG 3)) (pi 1)))
 (.ret (.tup [(ax 5 (.setc o8 0 (ax 5 (.setc xG 2 (pn (pc xG 3) (bK (.llen (pc xG 3)) (pi 1))))))),bF])))
 (.ret (.tup [(ax 5 (.setc o8 0 (ax 5 xG))),bF]))))))))))
theorem aaa:Gq.map told=some (Su,[]):=by kernel_rfl
theorem arG:tree (ae Gq)=Su:=ba aaa
def Gr:Option PC:=cF [5] [] Tryz.f100 100 [2,3,4]
def Sv:PT:=
 (.call ⟨[],[(4,(.con (.agg [(.int 0),(.int 0),(.int 0),(.int 0),(.int 0),(.int 0),(.int 0),(.int 0),(.int 0),(.int 0),(.int 0),(.int 0),(.int 0),(.int 0),(.int 0),(.list []),(.list []),(.list []),(.list []),(.int 0),(.int 0),(.int 0),(.int 0),(.int 0)]))),(3,(.mk [r1])),(2,(.mk [r0]))]⟩ [] 10 13 [Ek,(pc (.mk [r1]) 23)]
 (.call ⟨[(12,(ax 24 (.setc o3 0 cM)))],[]⟩ [] 15 127 [(ax 8 o2),(ax 24 (.setc o3 0 cM))]
 (.ret (.tup [(ax 24 (.setc o4 0 cg)),kZ]))))
theorem aab:Gr.map told=some (Sv,[]):=by kernel_rfl
theorem arH:tree (ae Gr)=Sv:=ba aab
def zb:Option PC:=cF [1000004,1000005] [] Tryz.f13 13 [2,4,65540,69636,73732,77828,5,65541,69637,73733,77829,7,31,9,49,11,13]
def sl:Nat→PC:=bx zb
def anp (b:Nat→PC):PC:=.block 0 [20,21] [65541,5] (.loop [20] [65541,5] (b 0))
def anq (b:Nat→PC):PC:=.block 2 [38,39] [73733,5] (.loop [38] [73733,5] (b 1))
def anr (b:Nat→PC):PC:=.block 4 [56,57] [5,69637] (.loop [56] [5,69637] (b 2))
def ans (b:Nat→PC):PC:=.block 6 [76,77] [5,77829] (.loop [76] [5,77829] (b 3))
def E9 (b:Nat→PC):PT:=
 (.ite (aj eP jz)
 (.chk (ar kz eP)
 (.ite (aV (pc (.setc z9 0 (pn kz eP)) 6) r1)
 (.exit 0 ⟨[(21,(aj eP jz))],[]⟩)
 (.chk (bU (.llen (.app (.o 65541) (.lst [(ax 9 (.setc z9 0 (pn kz eP)))]))) cL)
 (.next ⟨[(20,(bu eP (pi 1)))],[(65541,(.app (.o 65541) (.lst [(ax 9 (.setc z9 0 (pn kz eP)))]))),(5,(.setc o5 15 pN))]⟩))))
 (.exit 0 ⟨[(21,(aj eP jz))],[]⟩))
def Fa (b:Nat→PC):PT:=
 (.ite (aj fQ mD)
 (.chk (ar oI fQ)
 (.ite (aV (pc (.setc z9 0 (pn oI fQ)) 6) r1)
 (.exit 2 ⟨[(39,(aj fQ mD))],[]⟩)
 (.chk (bU (.llen (.app (.o 73733) (.lst [(ax 9 (.setc z9 0 (pn oI fQ)))]))) cL)
 (.next ⟨[(38,(bu fQ (pi 1)))],[(73733,(.app (.o 73733) (.lst [(ax 9 (.setc z9 0 (pn oI fQ)))]))),(5,(.setc o5 17 pN))]⟩))))
 (.exit 2 ⟨[(39,(aj fQ mD))],[]⟩))
def Fb (b:Nat→PC):PT:=
 (.ite (aj ql xP)
 (.chk (ar rz ql)
 (.ite (bU (pc (.setc z2 0 (pn rz ql)) 0) (.llen (.o 65541)))
 (.chk (bU (.llen aci) cL)
 (.next ⟨[(56,(bu ql (pi 1)))],[(5,(.setc o5 16 pN)),(69637,aci)]⟩))
 (.next ⟨[(56,(bu ql (pi 1)))],[]⟩)))
 (.exit 4 ⟨[(57,(aj ql xP))],[]⟩))
def Fc (b:Nat→PC):PT:=
 (.ite (aj vh Kb)
 (.blockS ⟨[],[]⟩ 7 [13,78,79,80,81,82,83,84,85] [13,77829,5]
 (.chk (ar QV vh)
 (.call ⟨[],[(13,(.setc z3 0 (pn QV vh)))]⟩ [] 85 32 [(pc (.setc z3 0 (pn QV vh)) 1),(.llen (.o 65541))]
 (.ite r85
 (.chk (bU (.llen abX) cL)
 (.next ⟨[],[(77829,abX),(5,(.setc o5 18 pN))]⟩))
 (.next ⟨[],[]⟩))))
 (.next ⟨[(76,(bu vh (pi 1)))],[]⟩))
 (.exit 6 ⟨[(77,(aj vh Kb))],[]⟩))
def T4 (b:Nat→PC):PT:=
 (.brk ⟨[(20,(pi 0)),(19,(.llen mz)),(18,mz)],[(77829,pL),(73733,pL),(69637,pL),(65541,pL),(5,(.setc oC 0 (.mk [(ax 15 (.mk [r0])),pL,pL,pL,pL]))),(4,oC),(2,(.mk [r0]))]⟩
(anp b)
 (.brk ⟨[(38,(pi 0)),(37,(.llen (pc o2 17))),(36,(pc o2 17))],[]⟩
(anq b)
 (.brk ⟨[(56,(pi 0)),(55,(.llen (pc o2 16))),(54,(pc o2 16))],[]⟩
(anr b)
 (.brk ⟨[(76,(pi 0)),(75,(.llen (pc o2 18))),(74,(pc o2 18))],[]⟩
(ans b)
 (.ret (.mk [(pc lJ 0),(pc lJ 1),(pc lJ 2),(pc lJ 3),(pc lJ 4),(pc lJ 5),(pc lJ 6),(pc lJ 7),(pc lJ 8),(pc lJ 9),(pc lJ 10),(pc lJ 11),(pc lJ 12),(pc lJ 13),(pc lJ 14),(.o 65541),(.o 69637),(.o 73733),(.o 77829)]))))))
def aia (b:Nat→PC):PT×List (Shp×PT):=(T4 b,[(.lp 0 [20,21] [65541,5] [20] [65541,5],E9 b),(.lp 2 [38,39] [73733,5] [38] [73733,5],Fa b),(.lp 4 [56,57] [5,69637] [56] [5,69637],Fb b),(.lp 6 [76,77] [5,77829] [76] [5,77829],Fc b)])
theorem Az:zb.map told=some (aia (br zb)):=by kernel_rfl
theorem atd:tree (ae zb)=T4 sl:=bN Az
theorem RE:round 0 [20,21] [65541,5] [20] [65541,5] (sl 0)=E9 sl:=bj Az 0 fun _=>rfl
theorem RF:round 2 [38,39] [73733,5] [38] [73733,5] (sl 1)=Fa sl:=bj Az 1 fun _=>rfl
theorem RG:round 4 [56,57] [5,69637] [56] [5,69637] (sl 2)=Fb sl:=bj Az 2 fun _=>rfl
theorem RH:round 6 [76,77] [5,77829] [76] [5,77829] (sl 3)=Fc sl:=bj Az 3 fun _=>rfl
def Hk:Option PC:=cF [4] [] Tryz.f32 32 []
def T8:PT:=
 (.ret J0)
theorem aa3:Hk.map told=some (T8,[]):=by kernel_rfl
theorem ati:tree (ae Hk)=T8:=ba aa3
def zd:Option PC:=cF [4,7,9,11,12,13,14,15,16] [] Tryz.f127 127 [2,3,5,6,8,10,90,139]
def B7:Nat→PC:=bx zd
def anM (b:Nat→PC):PC:=.meach 90 [94,95,11,12] [0,1,0,1] [10] (b 0)
def anN (b:Nat→PC):PC:=.meach 139 [143,144,15,16] [0,1,0,1] [10] (b 1)
def RJ (b:Nat→PC):PT:=
 (.chk (ar cT bF)
 (.next ⟨[],[(10,(.setn cT bF 0 (.mk [pT,cg])))]⟩))
def RK (b:Nat→PC):PT:=
 (.blockS ⟨[],[]⟩ 3 [145,146,147,148,149] [10]
 (.call ⟨[(146,kZ)],[]⟩ [] 148 142 [dh]
 (.chk (ar cT (.r 146))
 (.next ⟨[],[(10,(.setn cT (.r 146) 0 (.r 148)))]⟩)))
 (.next ⟨[],[]⟩))
def vG (b:Nat→PC):PT:=
 (.call ⟨[(7,(.mx (pc (.mk [r1]) 20) (pi 0)))],[(6,(.setc FQ 0 (ax 15 (.mk [r1])))),(5,(.setc oC 0 Ek)),(3,(.mk [r1])),(2,(.mk [r0]))]⟩ [] 30 32 [(pc (.mk [r1]) 19),(.llen (pc (.setc oC 0 Ek) 15))]
 (.call ⟨[(48,(aR (pc o3 22) (pi (-1)))),(44,(.pick (.pick (.nt oH) pT (aj (pc o3 20) (pi (-1)))) pT (cX r7 (.llen (pc o5 15)))))],[]⟩ [(48,true),(44,false)] 51 32 [(pc o3 22),(pi 100001)]
 (.ite (.pick xO pT (.pick mE (.nt la) pF))
 (.ret pL)
 (.chk (ar (pc o5 15) (pc o3 19))
 (.call ⟨[],[(8,(.setc z9 0 (pn (pc o5 15) (pc o3 19))))]⟩ [] 63 32 [(pc (.setc z9 0 (pn (pc o5 15) (pc o3 19))) 6),(pi 100001)]
 (.ite (.nt Ew)
 (.ret pL)
 (.chk (.an (cX (pi 20) (pi 0)) (bU (pi 20) cL))
 (.chk (af (pi 20) (pi 20))
 (.chk (aj (.mlen (.con (.map []))) cL)
 (.chk (aj (.mlen (.put (.con (.map [])) (pi 0) (pc o6 3))) cL)
 (.chk (aj (.mlen (.put (.put (.con (.map [])) (pi 0) (pc o6 3)) (pi 1) (pc o6 14))) cL)
 (.chk (aj (.mlen QF) cL)
 (.chk (aj (.mlen (.put QF (pi 3) (pc o6 12))) cL)
 (.chk (aj (.mlen QK) cL)
 (.chk (aj (.mlen (.put QK (pi 5) (pc o3 21))) cL)
 (.blockS ⟨[(10,pN),(9,abW)],[(90,(.tup [(.lst []),(.put (.put QK (pi 5) (pc o3 21)) (pi 6) abW)])),(10,(.rep (pi 20) gf))]⟩ 0 [] [10]
 (.brk ⟨[],[]⟩
(anM b)
 (.exit 0 ⟨[],[]⟩))
 (.call ⟨[],[(3,(ax 24 o3))]⟩ [] 104 140 [(pc o5 16),(.clo 141 [(.ref (ax 24 o3))])]
 (.call ⟨[(13,apL)],[]⟩ [] 108 128 [(ax 8 o2),(pc o6 9)]
 (.call ⟨[],[]⟩ [] 112 128 [(ax 8 o2),(pc o6 10)]
 (.chk (aj (.mlen (.con (.map []))) cL)
 (.chk (aj (.mlen QJ) cL)
 (.chk (aj (.mlen (.put QJ (pi 8) (af (pc o6 2) (pi (-1))))) cL)
 (.chk (aj (.mlen (.put (.put QJ (pi 8) (af (pc o6 2) (pi (-1)))) (pi 9) (aR (.ai .and .i64 (pc o6 13) (pi 4)) (pi 0)))) cL)
 (.chk (aj (.mlen J1) cL)
 (.chk (aj (.mlen (.put J1 (pi 11) (aR J5 QR))) cL)
 (.chk (aj (.mlen (.put (.put J1 (pi 11) (aR J5 QR)) (pi 12) dD)) cL)
 (.chk (aj (.mlen acd) cL)
 (.blockS ⟨[],[(139,(.tup [(.lst []),(.put acd (pi 14) (aV r9 (pi 0)))]))]⟩ 2 [] [10]
 (.brk ⟨[],[]⟩
(anN b)
 (.exit 2 ⟨[],[]⟩))
 (.call ⟨[],[]⟩ [] 154 143 [(ax 19 o5),(pi 0),(pc o3 19)]
 (.chk (ar cT (pi 15))
 (.call ⟨[],[(10,(.setn cT (pi 15) 0 (.r 154)))]⟩ [] 160 143 [(ax 19 o5),(pi 1),(pc o3 19)]
 (.chk (ar cT (pi 16))
 (.call ⟨[],[(10,(.setn cT (pi 16) 0 (.r 160)))]⟩ [] 166 143 [(ax 19 o5),(pi 2),(pc o3 19)]
 (.chk (ar cT (pi 17))
 (.call ⟨[],[(10,(.setn cT (pi 17) 0 (.r 166)))]⟩ [] 171 143 [(ax 19 o5),(pi 3),r7]
 (.chk (ar cT (pi 18))
 (.call ⟨[],[(10,(.setn cT (pi 18) 0 (.r 171)))]⟩ [] 176 143 [(ax 19 o5),(pi 4),r7]
 (.chk (ar cT (pi 19))
 (.ret (.setn cT (pi 19) 0 (.r 176)))))))))))))))))))))))))))))))))))))))))
def aic (b:Nat→PC):PT×List (Shp×PT):=(vG b,[(.ea [10],RJ b),(.ea [10],RK b)])
theorem JC:zd.map told=some (aic (br zd)):=by kernel_rfl
theorem atg:tree (ae zd)=vG B7:=bN JC
theorem aqo:qo [10] (B7 0)=RJ B7:=Sp JC 0 fun _=>rfl
theorem aqp:qo [10] (B7 1)=RK B7:=Sp JC 1 fun _=>rfl
def Hi:Option PC:=cF [3] [] Tryz.f141 141 [2]
def T6:PT:=
 (.ret (bU mA (pc (.deref r1) 19)))
theorem aa1:Hi.map told=some (T6,[]):=by kernel_rfl
theorem atf:tree (ae Hi)=T6:=ba aa1
def Hl:Option PC:=cF [4] [] Tryz.f140 140 []
def Ua:PT:=
 (.call ⟨[],[]⟩ [] 7 156 [r0,r1]
 (.ret (cX r7 (pi 0))))
theorem aa4:Hl.map told=some (Ua,[]):=by kernel_rfl
theorem atk:tree (ae Hl)=Ua:=ba aa4
def zf:Option PC:=cF [4,5] [] Tryz.f156 156 []
def Mk:Nat→PC:=bx zf
def anw (b:Nat→PC):PC:=.block 0 [4,8,9] [] (.loop [4,8] [] (b 0))
def Ff (b:Nat→PC):PT:=
 (.ite (aj r8 r7)
 (.blockS ⟨[],[]⟩ 1 [4,5,10,11,12,13,14,15,16] []
 (.chk (ar r0 r8)
 (.callc ⟨[(5,r8)],[]⟩ [] 16 r1 [(pn r0 r8)]
 (.ite dh
 (.ret r5)
 (.next ⟨[],[]⟩))))
 (.next ⟨[(8,rn)],[]⟩))
 (.exit 0 ⟨[(9,(aj r8 r7))],[]⟩))
def Uf (b:Nat→PC):PT:=
 (.brk ⟨[(8,(pi 0)),(7,(.llen r0)),(4,(pi 0))],[]⟩
(anw b)
 (.ret (pi (-1))))
def aie (b:Nat→PC):PT×List (Shp×PT):=(Uf b,[(.lp 0 [4,8,9] [] [4,8] [],Ff b)])
theorem P8:zf.map told=some (aie (br zf)):=by kernel_rfl
theorem atp:tree (ae zf)=Uf Mk:=bN P8
theorem RL:round 0 [4,8,9] [] [4,8] [] (Mk 0)=Ff Mk:=bj P8 0 fun _=>rfl
def Hf:Option PC:=cF [4] [] Tryz.f128 128 [2]
def TP:PT:=
 (.call ⟨[],[(2,(.mk [r0]))]⟩ [] 9 111 [r1,(.llen xK)]
 (.ite (.nt r9)
 (.ret (pi (-1)))
 (.chk (ar (pc o2 1) r1)
 (.ret (pc (pn (pc o2 1) r1) 1)))))
theorem aaY:Hf.map told=some (TP,[]):=by kernel_rfl
theorem as1:tree (ae Hf)=TP:=ba aaY
def Hj:Option PC:=cF [] [] Tryz.f142 142 [2]
def T7:PT:=
 (.ite r0
 (.ret (.mk [(pc J3 0),(pc J3 1)]))
 (.ret (.mk [(pc J4 0),(pc J4 1)])))
theorem aa2:Hj.map told=some (T7,[]):=by kernel_rfl
theorem ath:tree (ae Hj)=T7:=ba aa2
def zc:Option PC:=cF [] [] Tryz.f143 143 [3,6,8]
def Mj:Nat→PC:=bx zc
def ant (b:Nat→PC):PC:=.block 0 [12,13] [6] (.loop [12] [6] (b 0))
def Fe (b:Nat→PC):PT:=
 (.ite (aj cg bF)
 (.blockS ⟨[],[]⟩ 1 [8,14,15,16,17,18,19,20,25] [8,6]
 (.chk (ar cM cg)
 (.iteS ⟨[],[(8,(.setc z3 0 tn))]⟩ (.pick (af (pc (.setc z3 0 tn) 0) r1) (af (pc (.setc z3 0 tn) 1) r2) pF) [] [6]
 (.call ⟨[],[]⟩ [] 29 142 [(aR (pc o8 2) (pi 0))]
 (.ret (.mk [(pc (.setc o6 0 mC) 0),(pc (.setc o6 0 mC) 1)])))
 (.next ⟨[],[]⟩)
 (.next ⟨[],[]⟩)))
 (.next ⟨[(12,(bu cg (pi 1)))],[]⟩))
 (.exit 0 ⟨[(13,(aj cg bF))],[]⟩))
def T5 (b:Nat→PC):PT:=
 (.brk ⟨[(12,(pi 0)),(11,(.llen ve)),(10,ve)],[(6,gf)]⟩
(ant b)
 (.ret (.mk [(pc (.setc o6 0 xL) 0),(pc (.setc o6 0 xL) 1)])))
def aib (b:Nat→PC):PT×List (Shp×PT):=(T5 b,[(.lp 0 [12,13] [6] [12] [6],Fe b)])
theorem P7:zc.map told=some (aib (br zc)):=by kernel_rfl
theorem ate:tree (ae zc)=T5 Mj:=bN P7
theorem RI:round 0 [12,13] [6] [12] [6] (Mj 0)=Fe Mj:=bj P7 0 fun _=>rfl
def GK:Option PC:=cF [2,3,4,11] [] Tryz.f101 101 []
def SW:PT:=
 (.blockS ⟨[],[]⟩ 0 [2,3,4,5,6,7,10,11,12,13,14] []
 (.iteS ⟨[],[]⟩ (.pick (aj r0 (pi 0)) pT (cX r0 (pi 22))) [2,3,11,12,13,14] []
 (.ret (.tup [(pi 0),pF]))
 (.call ⟨[],[]⟩ [] 14 23 [(.lst [(pc rk 0),(pc rk 1),(pc rk 2),(pc rk 3),(pc rk 4),(pc rk 5),(pc rk 6),(pc rk 7),(pc rk 8),(pc rk 9)]),r0]
 (.ite cj
 (.ret (.tup [(pi 0),pT]))
 (.next ⟨[],[]⟩)))
 (.next ⟨[],[]⟩))
 (.ret (.tup [(pi 1),pT])))
theorem aau:GK.map told=some (SW,[]):=by kernel_rfl
theorem ar9:tree (ae GK)=SW:=ba aau
def yz:Option PC:=cF [8,9,11,12,13,14,55,70] [] Tryz.f103 103 [4,10,53]
def LS:Nat→PC:=bx yz
def amw (b:Nat→PC):PC:=.block 0 [] [] (.loop [8,9,10] [10] (b 0))
def Q4 (b:Nat→PC):PT:=
 (.blockS ⟨[],[]⟩ 1 [8,9,10,11,12,13,14,32,33,35,36,37,38,39,40,41,42,43,44,45,46,49,50,52,53,54,55,56,57,58,68,70,71] [53,10]
 (.chk (ar cT (bK (.llen cT) (pi 1)))
 (.call ⟨[(11,(pn cT (bK (.llen cT) (pi 1))))],[]⟩ [] 41 130 [(ax 8 o4),(pn cT (bK (.llen cT) (pi 1))),r2,r3]
 (.ite (af (.tget tB 0) bF)
 (.ret (.tup [cT,(pi 0)]))
 (.call ⟨[(13,(.tget tB 1)),(12,(.tget tB 0))],[]⟩ [] 50 23 [cT,(.tget tB 0)]
 (.chk (bU (.llen (.app cT (.lst [cg]))) cL)
 (.chk (.nt (.an (.an mF (.an (.nt (.nt dD)) pT)) (.nt (ar (pc o4 4) cg))))
 (.ite (.pick (.nt dD) pT (.pick mF (pc (pn (pc o4 4) cg) 1) pF))
 (.ret (.tup [(.app cT (.lst [cg])),(pi 0)]))
 (.ite mF
 (.ret (.tup [(.app cT (.lst [cg])),(pi 12)]))
 (.next ⟨[(10,pN)],[(10,(.app cT (.lst [cg])))]⟩)))))))))
 (.next ⟨[],[]⟩))
def SC (b:Nat→PC):PT:=
 (.call ⟨[(9,(pi 0)),(8,pL)],[(4,(.mk [r0]))]⟩ [] 19 129 [jY,r1,r2,r3]
 (.chk (.nt (.an (.an (.nt (.nt jz)) pT) (.nt (ar r3 (pi 0)))))
 (.ite (.pick (.nt jz) pT (aR (pn r3 (pi 0)) r1))
 (.ret (.tup [pL,(pi 1)]))
 (.brk ⟨[(10,pN)],[(10,(.lst [r1]))]⟩
(amw b)
 (.next ⟨[],[]⟩)))))
def ahx (b:Nat→PC):PT×List (Shp×PT):=(SC b,[(.lp 0 [] [] [8,9,10] [10],Q4 b)])
theorem PD:yz.map told=some (ahx (br yz)):=by kernel_rfl
theorem arP:tree (ae yz)=SC LS:=bN PD
theorem aqm:round 0 [] [] [8,9,10] [10] (LS 0)=Q4 LS:=bj PD 0 fun _=>rfl
def Gx:Option PC:=cF [8] [] Tryz.f129 129 [4,9]
def vF:PT:=
 (.ite (.pick (.pick (.pick (.pick (aj r1 (pi 0)) pT (cX r1 (pc (.setc JW 0 JU) 0))) pT (aj r2 (pi 0))) pT (cX r2 (pi 22))) pT (aR (.llen r3) (pi 5)))
 (.ret pF)
 (.call ⟨[],[]⟩ [] 35 144 [r3,(.clo 145 [(.ref (pc (.setc JW 0 JU) 0))])]
 (.ret (.nt Ba))))
theorem aah:Gx.map told=some (vF,[]):=by kernel_rfl
theorem arS:tree (ae Gx)=vF:=ba aah
def Gy:Option PC:=cF [3] [] Tryz.f145 145 []
def SF:PT:=
 (.ret (.pick (aj r0 (pi 0)) pT (cX r0 (.deref r1))))
theorem aai:Gy.map told=some (SF,[]):=by kernel_rfl
theorem arR:tree (ae Gy)=SF:=ba aai
def Hn:Option PC:=cF [4] [] Tryz.f144 144 []
def Uc:PT:=
 (.call ⟨[],[]⟩ [] 7 157 [r0,r1]
 (.ret (cX r7 (pi 0))))
theorem aa6:Hn.map told=some (Uc,[]):=by kernel_rfl
theorem atm:tree (ae Hn)=Uc:=ba aa6
def zi:Option PC:=cF [4,5] [] Tryz.f157 157 []
def Mn:Nat→PC:=bx zi
def anA (b:Nat→PC):PC:=.block 0 [4,8,9] [] (.loop [4,8] [] (b 0))
def Fi (b:Nat→PC):PT:=
 (.ite (aj r8 r7)
 (.blockS ⟨[],[]⟩ 1 [4,5,10,11,12,13,14,15,16] []
 (.chk (ar r0 r8)
 (.callc ⟨[(5,r8)],[]⟩ [] 16 r1 [(pn r0 r8)]
 (.ite dh
 (.ret r5)
 (.next ⟨[],[]⟩))))
 (.next ⟨[(8,rn)],[]⟩))
 (.exit 0 ⟨[(9,(aj r8 r7))],[]⟩))
def Ui (b:Nat→PC):PT:=
 (.brk ⟨[(8,(pi 0)),(7,(.llen r0)),(4,(pi 0))],[]⟩
(anA b)
 (.ret (pi (-1))))
def aii (b:Nat→PC):PT×List (Shp×PT):=(Ui b,[(.lp 0 [4,8,9] [] [4,8] [],Fi b)])
theorem Qb:zi.map told=some (aii (br zi)):=by kernel_rfl
theorem ats:tree (ae zi)=Ui Mn:=bN Qb
theorem RO:round 0 [4,8,9] [] [4,8] [] (Mn 0)=Fi Mn:=bj Qb 0 fun _=>rfl
def yA:Option PC:=cF [8,9] [] Tryz.f130 130 [4,11]
def LU:Nat→PC:=bx yA
def amx (b:Nat→PC):PC:=.block 0 [8,9,25,26] [] (.loop [8,9,25] [] (b 0))
def EA (b:Nat→PC):PT:=
 (.ite (aj iX oG)
 (.chk (ar mB iX)
 (.ite (.pick (af (pc Es 0) r2) (aR (pc Es 1) (pi 0)) pF)
 (.chk (ar r3 (pc Es 1))
 (.ret (.tup [(pn r3 (pc Es 1)),(pc Es 2)])))
 (.next ⟨[(25,(bu iX (pi 1)))],[]⟩)))
 (.exit 0 ⟨[(26,(aj iX oG))],[]⟩))
def SD (b:Nat→PC):PT:=
 (.call ⟨[(9,pF),(8,(pi 0))],[(4,(.mk [r0]))]⟩ [] 16 129 [jY,r1,r2,r3]
 (.ite (.nt dh)
 (.ret (.tup [(pi (-1)),pF]))
 (.chk (ar (pc o4 4) r1)
 (.brk ⟨[(25,(pi 0)),(24,(.llen (pc (pn (pc o4 4) r1) 2))),(23,(pc (pn (pc o4 4) r1) 2))],[]⟩
(amx b)
 (.ret (.tup [r1,pF]))))))
def ahy (b:Nat→PC):PT×List (Shp×PT):=(SD b,[(.lp 0 [8,9,25,26] [] [8,9,25] [],EA b)])
theorem PF:yA.map told=some (ahy (br yA)):=by kernel_rfl
theorem arQ:tree (ae yA)=SD LU:=bN PF
theorem Q5:round 0 [8,9,25,26] [] [8,9,25] [] (LU 0)=EA LU:=bj PF 0 fun _=>rfl
def GJ:Option PC:=cF [7,9,11,12] [] Tryz.f84 84 [3,6,8,10]
def SV:PT:=
 (.call ⟨[],[(6,gf)]⟩ [] 16 104 [(ax 4 (.mk [r0])),r1]
 (.ite (aR (.tget dh 1) (pi 0))
 (.ret (.tup [(.mk [(pc (.setc o6 0 xL) 0),(pc (.setc o6 0 xL) 1)]),(.tget dh 1)]))
 (.call ⟨[],[]⟩ [] 25 105 [(.mk [(pc (.setc my 0 (.tget dh 0)) 0),(pc (.setc my 0 (.tget dh 0)) 1),(pc (.setc my 0 (.tget dh 0)) 2)]),r2]
 (.call ⟨[],[(10,(.setc gf 0 iX))]⟩ [] 28 101 [r1]
 (.ret (.tup [(.mk [(pc (.setc o6 0 (.mk [(pc JX 0),(pc JX 1)])) 0),(pc (.setc o6 0 (.mk [(pc JX 0),(pc JX 1)])) 1)]),(pi 0)]))))))
theorem aat:GJ.map told=some (SV,[]):=by kernel_rfl
theorem ar8:tree (ae GJ)=SV:=ba aat
def GL:Option PC:=cF [5,6,7,8,10,11] [] Tryz.f104 104 [2,3,4,12292,9]
def SX:PT:=
 (.call ⟨[],[(4,my),(3,(.mk [r1])),(2,(.mk [r0]))]⟩ [] 14 101 [(pc (.mk [r1]) 0)]
 (.ite (.nt (.tget cj 1))
 (.ret (.tup [QH,(pi 1)]))
 (.call ⟨[(6,(.tget cj 0))],[]⟩ [] 23 131 [(pc o2 3),(.clo 132 [(.ref (pc o3 0))])]
 (.ite (aj mB (pi 0))
 (.ret (.tup [QH,(pi 4)]))
 (.chk (ar (pc o2 3) mB)
 (.call ⟨[],[(9,JZ)]⟩ [] 35 133 [(.mk [(pc JZ 0),(pc JZ 1),(pc JZ 2)])]
 (.ite (.pick (aR (.tget Ba 1) (pi 0)) pT (aR (.tget Ba 0) r6))
 (.ret (.tup [QH,(pi 11)]))
 (.ret (.tup [(.mk [(pc QM 0),(pc QM 1),(pc QM 2)]),(pi 0)])))))))))
theorem aav:GL.map told=some (SX,[]):=by kernel_rfl
theorem asb:tree (ae GL)=SX:=ba aav
def GM:Option PC:=cF [3] [] Tryz.f132 132 [2]
def SY:PT:=
 (.ret (af mA (.deref r1)))
theorem aaw:GM.map told=some (SY,[]):=by kernel_rfl
theorem asa:tree (ae GM)=SY:=ba aaw
def zh:Option PC:=cF [4,5] [] Tryz.f131 131 []
def Mm:Nat→PC:=bx zh
def anz (b:Nat→PC):PC:=.block 0 [4,8,9] [] (.loop [4,8] [] (b 0))
def Fh (b:Nat→PC):PT:=
 (.ite (aj r8 r7)
 (.blockS ⟨[],[]⟩ 1 [4,5,10,11,12,13,14,15,16] []
 (.chk (ar r0 r8)
 (.callc ⟨[(5,r8)],[]⟩ [] 16 r1 [(pn r0 r8)]
 (.ite dh
 (.ret r5)
 (.next ⟨[],[]⟩))))
 (.next ⟨[(8,rn)],[]⟩))
 (.exit 0 ⟨[(9,(aj r8 r7))],[]⟩))
def Uh (b:Nat→PC):PT:=
 (.brk ⟨[(8,(pi 0)),(7,(.llen r0)),(4,(pi 0))],[]⟩
(anz b)
 (.ret (pi (-1))))
def aih (b:Nat→PC):PT×List (Shp×PT):=(Uh b,[(.lp 0 [4,8,9] [] [4,8] [],Fh b)])
theorem Qa:zh.map told=some (aih (br zh)):=by kernel_rfl
theorem atr:tree (ae zh)=Uh Mm:=bN Qa
theorem RN:round 0 [4,8,9] [] [4,8] [] (Mm 0)=Fh Mm:=bj Qa 0 fun _=>rfl
def Hq:Option PC:=cF [2,3] [] Tryz.f133 133 [1]
def Ul:PT:=
 (.call ⟨[],[(1,(.mk [r0]))]⟩ [] 5 146 [(.mk [mA,xK,tq]),(pi 1)]
 (.ite (aV r5 (pi 60))
 (.ret (.tup [(pi 0),(pi 6)]))
 (.call ⟨[],[]⟩ [] 8 147 [(.mk [(pc o1 0),(pc o1 1),(pc o1 2)])]
 (.ret (.tup [(.tget r8 0),(.tget r8 1)])))))
theorem aa9:Hq.map told=some (Ul,[]):=by kernel_rfl
theorem atv:tree (ae Hq)=Ul:=ba aa9
def wh:Option PC:=cF [4,5] [] Tryz.f146 146 [2,7,12295]
def Mr:Nat→PC:=bx wh
def anG (b:Nat→PC):PC:=.block 0 [5,13,14] [] (.loop [5,13] [] (b 0))
def Fo (b:Nat→PC):PT:=
 (.ite (aj dD cg)
 (.blockS ⟨[(14,(aj dD cg))],[]⟩ 1 [5,7,15,16,17,18,19,20,21,22,23,24] [7,12295]
 (.chk (ar bF dD)
 (.call ⟨[(17,r5)],[]⟩ [] 21 146 [(.mk [(pc (.setc my 0 (pn bF dD)) 0),(pc (.setc my 0 (pn bF dD)) 1),(pc (.setc my 0 (pn bF dD)) 2)]),(bu r1 (pi 1))]
 (.ite (aV (bu qg rp) (pi 60))
 (.exit 0 ⟨[(5,(bu qg rp))],[]⟩)
 (.next ⟨[(5,(bu qg rp))],[]⟩))))
 (.next ⟨[(13,(bu dD (pi 1)))],[]⟩))
 (.exit 0 ⟨[(14,(aj dD cg))],[]⟩))
def Lb (b:Nat→PC):PT:=
 (.ite (aV r1 (pi 8))
 (.ret (pi 61))
 (.brk ⟨[(13,(pi 0)),(12,qf),(11,tq),(5,(pi 1))],[]⟩
(anG b)
 (.ret r5)))
def ain (b:Nat→PC):PT×List (Shp×PT):=(Lb b,[(.lp 0 [5,13,14] [] [5,13] [],Fo b)])
theorem Qf:wh.map told=some (ain (br wh)):=by kernel_rfl
theorem adQ:tree (ae wh)=Lb Mr:=bN Qf
theorem RT:round 0 [5,13,14] [] [5,13] [] (Mr 0)=Fo Mr:=bj Qf 0 fun _=>rfl
end Rm
