/-
  The functions of this seat, compiled (2).
-/
import Derived.Test.YtmnnipoiigfapaaGreatDoorKAK
import Derived.KernelRfl
set_option linter.unusedVariables false
set_option maxRecDepth 100000
noncomputable section
namespace Rm
open Go Go.Proofs Cx
def xY:Option PC:=cF [6,7] [] Tryz.f88 88 [3,9]
def KI:Nat→PC:=bB xY
def akE (b:Nat→PC):PC:=.block 0 [6,7,13,14] [] (.loop [6,7,13] [] (b 0))
def D3 (b:Nat→PC):PT:=
 (.ite (aj cW bP)
 (.chk (ax bG cW)
 (.ite (.pick (aq (pc (.setc z3 0 (pn bG cW)) 0) r1) (aq (pc (.setc z3 0 (pn bG cW)) 1) r2) pF)
 (.ret (.tup [(pc (.setc z3 0 (pn bG cW)) 2),(pi 0)]))
 (.next ⟨[(13,(be cW (pi 1)))],[]⟩)))
 (.exit 0 ⟨[(14,(aj cW bP))],[]⟩))
def RU (b:Nat→PC):PT:=
 (.brk ⟨[(13,(pi 0)),(12,(.llen Ag)),(11,Ag),(7,(pi 0)),(6,(pi 0))],[]⟩
(akE b)
 (.ret (.tup [(pi 0),(pi 4)])))
def afJ (b:Nat→PC):PT×List (Shp×PT):=(RU b,[(.lp 0 [6,7,13,14] [] [6,7,13] [],D3 b)])
theorem Ok:xY.map told=some (afJ (bq xY)):=by kernel_rfl
theorem apU:tree (ae xY)=RU KI:=bO Ok
theorem PV:round 0 [6,7,13,14] [] [6,7,13] [] (KI 0)=D3 KI:=bp Ok 0 fun _=>rfl
def xJ:Option PC:=cF [6,8,9,76,92,98] [] Tryz.f67 67 [3,4,7,11]
def Ky:Nat→PC:=bB xJ
def aki (b:Nat→PC):PC:=.block 0 [8,9,51,52] [] (.loop [8,9,51] [] (b 0))
def I6 (b:Nat→PC):PT:=
 (.ite (aj lg mf)
 (.chk (ax pD lg)
 (.next ⟨[(8,(pc (.setc z9 0 (pn pD lg)) 6)),(9,(.pick r9 pT (.pick (.pick (aq (pc o7 0) (pi 1)) (aq (pc (.setc z9 0 (pn pD lg)) 0) (pi 1)) pF) (aq (pc (.setc z9 0 (pn pD lg)) 1) (pc o7 1)) pF))),(51,(be lg (pi 1)))],[]⟩))
 (.exit 0 ⟨[(52,(aj lg mf))],[]⟩))
def Rt (b:Nat→PC):PT:=
 (.chk (ax (pc (.mk [r1]) 15) r2)
 (.call ⟨[],[(7,nO),(4,(.mk [r1])),(3,(.mk [r0]))]⟩ [] 23 68 [(pc nO 1),(pi 0),(bW (pc (.mk [r1]) 14) (pi 1))]
 (.ite (.nt mX)
 (.ret (pi 15))
 (.call ⟨[],[]⟩ [] 31 68 [(pc o7 2),(pi 0),IQ]
 (.call ⟨[(33,(.nt uw))],[]⟩ [(33,false)] 40 68 [(pc o7 7),(pi 0),(bW (.llen (pc o3 1)) (pi 1))]
 (.ite (.pick DC pT (.nt qG))
 (.ret (pi 1))
 (.chk (.slok (pc o4 15) (pi 0) r2)
 (.brk ⟨[(51,(pi 0)),(50,(.llen (.slc (pc o4 15) (pi 0) r2))),(49,(.slc (pc o4 15) (pi 0) r2)),(9,pF),(8,(pc o4 8))],[]⟩
(aki b)
 (.blockS ⟨[],[]⟩ 2 [6,76,77,78,79,80,81,82,91,92,93,94,95,96,97,98,99] []
 (.call ⟨[],[]⟩ [] 80 68 [(pc o7 6),r8,(pi 100000)]
 (.iteS ⟨[],[]⟩ (.pick (.nt uz) pT (.pick (aq r2 (pi 0)) (aU (pc o7 6) r8) pF)) [6,92,93,94,95,96,97,98,99] []
 (.ret (pi 13))
 (.call ⟨[],[]⟩ [] 96 89 [(aw 8 o3),(aw 19 o4),r2]
 (.ite (.nt r96)
 (.ret (pi 14))
 (.ite r9
 (.ret (pi 5))
 (.next ⟨[],[]⟩))))
 (.next ⟨[],[]⟩)))
 (.ret (pi 0)))))))))))
def afs (b:Nat→PC):PT×List (Shp×PT):=(Rt b,[(.lp 0 [8,9,51,52] [] [8,9,51] [],I6 b)])
theorem N9:xJ.map told=some (afs (bq xJ)):=by kernel_rfl
theorem apt:tree (ae xJ)=Rt Ky:=bO N9
theorem aau:round 0 [8,9,51,52] [] [8,9,51] [] (Ky 0)=I6 Ky:=bp N9 0 fun _=>rfl
def FN:Option PC:=cF [6] [] Tryz.f68 68 []
def Rs:PT:=
 (.ret (.pick (dc r0 r1) (bF r0 r2) pF))
theorem YC:FN.map told=some (Rs,[]):=by kernel_rfl
theorem aps:tree (ae FN)=Rs:=bo YC
def FM:Option PC:=cF [6,9,10,66,103,113,11,140,149] [] Tryz.f89 89 [3,4,7,8]
def Rr:PT:=
 (.chk (ax (pc (.mk [r1]) 15) r2)
 (.ite (.pick (.cb .neq (aq r2 (pi 0)) (aq (pc nO 0) (pi 0))) pT (.pick (aU (pc nO 0) (pi 2)) (aU (pc nO 4) (pi (-1))) pF))
 (.ret pF)
 (.ite (.pick (.pick (aU (pc nO 0) (pi 3)) (aU (pc nO 0) (pi 4)) pF) (aU (pc nO 3) (pi (-1))) pF)
 (.ret pF)
 (.call ⟨[(9,(.pick (aq (pc nO 5) (pi 0)) (aq (pc nO 8) (pi 0)) pF))],[(8,(.setc EP 0 (aw 15 (.mk [r1])))),(7,nO),(4,(.mk [r1])),(3,(.mk [r0]))]⟩ [] 58 68 [(pc nO 5),(pi 1),Af]
 (.blockS ⟨[(65,(pc o7 0)),(10,(.pick Al (aq (pc o7 8) (pi 0)) pF))],[]⟩ 0 [6,66,67,103,104,113,114,140,141,149,150] []
 (.iteS ⟨[],[]⟩ (aq Am (pi 0)) [6,103,104,113,114,140,141,149,150] []
 (.ret (.pick (.pick (.pick (.pick (.pick (aq (pc o7 2) (pc o8 0)) (aq (pc o7 5) (pi 0)) pF) (aq (.ai .or .i64 (pc o7 8) (pi 1)) (pi 1)) pF) (aq (pc o7 1) (pi 0)) pF) (aq (pc o7 6) (pc o8 8)) pF) (aq (pc o7 7) (pc o8 9)) pF))
 (.iteS ⟨[],[]⟩ (aq Am (pi 1)) [6,113,114,140,141,149,150] []
 (.ret (.pick (aq (pc o7 2) (pc o8 1)) de pF))
 (.iteS ⟨[],[]⟩ (aq Am (pi 2)) [6,140,141,149,150] []
 (.call ⟨[(11,(pi 6))],[]⟩ [] 121 68 [(pc o7 4),(pi (-1)),IQ]
 (.call ⟨[(127,(.pick anb (aq (pc o7 5) (pi 0)) pF))],[]⟩ [(127,true)] 130 68 [(pc o7 8),(pi 0),(pi 7)]
 (.ret (.pick (.pick anc (.r 130) pF) (aU (.ai .and .i64 (pc o7 8) bG) bG) pF))))
 (.iteS ⟨[],[]⟩ (aq Am (pi 3)) [6,149,150] []
 (.call ⟨[(143,r9)],[]⟩ [(143,true)] 147 117 [(aw 19 o4),r2,(.lst [(pi 0),(pi 1),(pi 2),(pi 4)])]
 (.ret (.pick (.r 143) (.r 147) pF)))
 (.iteS ⟨[],[]⟩ (aq Am (pi 4)) [6] []
 (.call ⟨[(159,(.pick de (aU (pc o7 2) (pc o8 1)) pF))],[]⟩ [(159,true)] 163 117 [(aw 19 o4),r2,(.lst [(pi 0),(pi 2)])]
 (.ret (.pick (.r 159) (.r 163) pF)))
 (.next ⟨[],[]⟩)
 (.next ⟨[],[]⟩))
 (.next ⟨[],[]⟩))
 (.next ⟨[],[]⟩))
 (.next ⟨[],[]⟩))
 (.next ⟨[],[]⟩))
 (.ret pF))))))
theorem YB:FM.map told=some (Rr,[]):=by kernel_rfl
theorem apr:tree (ae FM)=Rr:=bo YB
def FL:Option PC:=cF [6,7] [] Tryz.f117 117 [3]
def Rp:PT:=
 (.chk (ax sB r1)
 (.call ⟨[(7,(pc (pn sB r1) 3))],[(3,(.mk [r0]))]⟩ [] 17 68 [(pc (pn sB r1) 3),(pi 0),(bW r1 (pi 1))]
 (.chk (.nt (.an (.an jb pT) (.nt (ax (pc o3 15) r1))))
 (.call ⟨[(18,jb)],[]⟩ [(18,true)] 27 118 [(aw 19 o3),r7,(pc (pn (pc o3 15) r1) 1)]
 (.chk (.nt (.an (.an (.pick lf fW pF) pT) (.nt (ax (pc o3 15) r7))))
 (.call ⟨[(29,(.pick lf fW pF))],[]⟩ [(29,true)] 37 23 [r2,(pc (pn (pc o3 15) r7) 0)]
 (.ret (.pick nS nT pF))))))))
theorem YA:FL.map told=some (Rp,[]):=by kernel_rfl
theorem apo:tree (ae FL)=Rp:=bo YA
def FO:Option PC:=cF [6] [] Tryz.f118 118 [3]
def JI:PT:=
 (.chk (.nt (.an (.an (.nt (aq r1 (pi 0))) pT) (.nt (ax sB r1))))
 (.ret (.pick (aq r1 (pi 0)) pT (aq (pc (pn sB r1) 1) r2))))
theorem YD:FO.map told=some (JI,[]):=by kernel_rfl
theorem apu:tree (ae FO)=JI:=bo YD
def Ga:Option PC:=cF [4] [] Tryz.f23 23 []
def Se:PT:=
 (.call ⟨[],[]⟩ [] 7 56 [r0,r1]
 (.ret (dc r7 (pi 0))))
theorem YY:Ga.map told=some (Se,[]):=by kernel_rfl
theorem aqf:tree (ae Ga)=Se:=bo YY
def yp:Option PC:=cF [4,5] [] Tryz.f56 56 []
def KS:Nat→PC:=bB yp
def ak3 (b:Nat→PC):PC:=.block 0 [4,8,9] [] (.loop [4,8] [] (b 0))
def Ek (b:Nat→PC):PT:=
 (.ite (aj r8 r7)
 (.chk (ax r0 r8)
 (.ite (aq r1 (pn r0 r8))
 (.ret r8)
 (.next ⟨[(8,uu)],[]⟩)))
 (.exit 0 ⟨[(9,(aj r8 r7))],[]⟩))
def Sl (b:Nat→PC):PT:=
 (.brk ⟨[(8,(pi 0)),(7,(.llen r0)),(4,(pi 0))],[]⟩
(ak3 b)
 (.ret (pi (-1))))
def af0 (b:Nat→PC):PT×List (Shp×PT):=(Sl b,[(.lp 0 [4,8,9] [] [4,8] [],Ek b)])
theorem Ox:yp.map told=some (af0 (bq yp)):=by kernel_rfl
theorem aql:tree (ae yp)=Sl KS:=bO Ox
theorem Qe:round 0 [4,8,9] [] [4,8] [] (KS 0)=Ek KS:=bp Ox 0 fun _=>rfl
def xH:Option PC:=cF [4,5,7] [] Tryz.f69 69 [2,3,6]
def Kv:Nat→PC:=bB xH
def akg (b:Nat→PC):PC:=.block 0 [4,11,12] [] (.loop [4,11] [] (b 0))
def I4 (b:Nat→PC):PT:=
 (.ite (aj bG de)
 (.blockS ⟨[],[]⟩ 1 [4,5,6,7,13,14,15,16,17,18,19,20,21,22,23,24,25,26,27,28,29,30,31,32,37,38,39,40,41,42,43,44,45,46,47,48,58,59,69,70,71,72,73] [6]
 (.chk (ax r9 bG)
 (.call ⟨[(5,bG)],[(6,(.setc z9 0 (pn r9 bG)))]⟩ [] 22 68 [(pc (.setc z9 0 (pn r9 bG)) 3),(pi 0),(bW (pc o3 14) (pi 1))]
 (.ite (.nt Pf)
 (.ret (pi 15))
 (.call ⟨[],[]⟩ [] 30 68 [(pc o6 7),(pi 0),(bW (.llen (pc o2 1)) (pi 1))]
 (.call ⟨[(32,(.nt pB))],[]⟩ [(32,false)] 35 68 [(pc o6 0),(pi 0),(pi 9)]
 (.ite (.pick Ai pT (.nt IS))
 (.ret (pi 1))
 (.call ⟨[],[]⟩ [] 41 90 [(aw 8 o2),(aw 19 o3),(aw 9 o6)]
 (.ite (.nt qH)
 (.ret (pi 14))
 (.ite (aU (pc o6 4) (pi (-1)))
 (.chk (ax (pc o3 15) (pc o6 4))
 (.ite (aX r5 (pi 0))
 (.chk (ax (pc o3 17) (bW r5 (pi 1)))
 (.call ⟨[],[]⟩ [] 72 68 [(pc o6 6),(.mx (.mx (pc o3 8) (pc (pn (pc o3 15) (pc o6 4)) 6)) (pc (pn (pc o3 17) (bW r5 (pi 1))) 6)),(pi 100000)]
 (.ite (.nt An)
 (.ret (pi 13))
 (.next ⟨[],[]⟩))))
 (.call ⟨[],[]⟩ [] 72 68 [(pc o6 6),(.mx (pc o3 8) (pc (pn (pc o3 15) (pc o6 4)) 6)),(pi 100000)]
 (.ite (.nt An)
 (.ret (pi 13))
 (.next ⟨[],[]⟩)))))
 (.ite (aX r5 (pi 0))
 (.chk (ax (pc o3 17) (bW r5 (pi 1)))
 (.call ⟨[],[]⟩ [] 72 68 [(pc o6 6),(.mx (pc o3 8) (pc (pn (pc o3 17) (bW r5 (pi 1))) 6)),(pi 100000)]
 (.ite (.nt An)
 (.ret (pi 13))
 (.next ⟨[],[]⟩))))
 (.call ⟨[],[]⟩ [] 72 68 [(pc o6 6),(pc o3 8),(pi 100000)]
 (.ite (.nt An)
 (.ret (pi 13))
 (.next ⟨[],[]⟩)))))))))))))
 (.next ⟨[(11,(be bG (pi 1)))],[]⟩))
 (.exit 0 ⟨[(12,(aj bG de))],[]⟩))
def Ro (b:Nat→PC):PT:=
 (.brk ⟨[(11,(pi 0)),(10,(.llen (pc (.mk [r1]) 17))),(9,(pc (.mk [r1]) 17)),(4,(pi 0))],[(3,(.mk [r1])),(2,(.mk [r0]))]⟩
(akg b)
 (.ret (pi 0)))
def afq (b:Nat→PC):PT×List (Shp×PT):=(Ro b,[(.lp 0 [4,11,12] [] [4,11] [],I4 b)])
theorem N7:xH.map told=some (afq (bq xH)):=by kernel_rfl
theorem apn:tree (ae xH)=Ro Kv:=bO N7
theorem aas:round 0 [4,11,12] [] [4,11] [] (Kv 0)=I4 Kv:=bp N7 0 fun _=>rfl
def FK:Option PC:=cF [6,7,8,9,65,80,100,111] [] Tryz.f90 90 [3,4,5]
def Rn:PT:=
 (.call ⟨[],[(5,(.mk [r2])),(4,(.mk [r1])),(3,(.mk [r0]))]⟩ [] 16 68 [(pc (.mk [r2]) 4),(pi 0),(bW (.llen (pc (.mk [r1]) 15)) (pi 1))]
 (.call ⟨[(17,dP)],[]⟩ [(17,true)] 23 118 [(aw 19 o4),(pc o5 4),(pc o5 3)]
 (.chk (.nt (.an (.an (.pick jb mX pF) pT) (.nt (ax (pc o4 15) (pc o5 4)))))
 (.call ⟨[(8,(.pick (.pick jb mX pF) (aq (pc (pn (pc o4 15) (pc o5 4)) 2) (pc o5 1)) pF)),(7,(.pick jb mX pF))],[]⟩ [] 44 68 [(pc o5 2),(pi 0),IQ]
 (.call ⟨[(9,Aj)],[]⟩ [] 51 68 [(pc o5 1),(pi 0),IQ]
 (.ite (.pick (.nt lg) pT (.pick (aU (pc o5 0) (pi 4)) (aU (pc o5 8) (pi 0)) pF))
 (.ret pF)
 (.blockS ⟨[(64,(pc o5 0))],[]⟩ 0 [6,65,66,80,81,100,101,111,112] []
 (.iteS ⟨[],[]⟩ (.pick (aq lh (pi 0)) (aq lh (pi 0)) (.pick (aq lh (pi 1)) (aq lh (pi 1)) (aq lh (pi 2)))) [6,80,81,100,101,111,112] []
 (.ret (.pick (.pick r9 (aq (pc o5 4) (pi (-1))) pF) (aq (pc o5 5) (pi 0)) pF))
 (.iteS ⟨[],[]⟩ (.pick (aq lh (pi 3)) (aq lh (pi 3)) (.pick (aq lh (pi 5)) (aq lh (pi 5)) (aq lh (pi 4)))) [6,100,101,111,112] []
 (.call ⟨[(90,(.pick r9 (aq (pc o5 4) (pi (-1))) pF))],[]⟩ [(90,true)] 93 68 [(pc o5 5),(pi 0),Af]
 (.call ⟨[(95,(.pick r90 IZ pF))],[]⟩ [(95,true)] 98 68 [(pc o5 8),(pi 0),(pi 1)]
 (.ret (.pick r95 r98 pF))))
 (.iteS ⟨[],[]⟩ (aq lh (pi 6)) [6,111,112] []
 (.call ⟨[(106,(.pick r9 r8 pF))],[]⟩ [(106,true)] 109 68 [(pc o5 5),(pi 1),Af]
 (.ret (.pick am7 am8 pF)))
 (.ite (aq lh (pi 9))
 (.ret (.pick (.pick (aq (pc o5 2) (pi (-1))) r8 pF) (aq (pc o5 5) (pi 0)) pF))
 (.next ⟨[],[]⟩))
 (.next ⟨[],[]⟩))
 (.next ⟨[],[]⟩))
 (.next ⟨[],[]⟩))
 (.ret (.pick (.pick (aq (pc o5 2) (pi (-1))) r7 pF) (aq (pc o5 5) (pi 0)) pF)))))))))
theorem Yz:FK.map told=some (Rn,[]):=by kernel_rfl
theorem apm:tree (ae FK)=Rn:=bo Yz
def xI:Option PC:=cF [2,3] [] Tryz.f70 70 [1,4,5]
def Kw:Nat→PC:=bB xI
def akh (b:Nat→PC):PC:=.block 0 [2,9,10] [] (.loop [2,9] [] (b 0))
def I5 (b:Nat→PC):PT:=
 (.ite (aj r9 r8)
 (.blockS ⟨[],[]⟩ 1 [2,3,4,11,12,13,14,15,16,17,18,27,28,33,34,35] [4]
 (.chk (ax r7 r9)
 (.call ⟨[(3,r9)],[(4,(.setc z3 0 (pn r7 r9)))]⟩ [] 16 68 [(pc (.setc z3 0 (pn r7 r9)) 0),(pi 0),(pi 4)]
 (.call ⟨[(18,(.nt dP))],[]⟩ [(18,false)] 25 68 [(pc o4 1),(pi 0),(bW (.llen (pc o1 15)) (pi 1))]
 (.call ⟨[(28,(.pick lf pT (.nt jH)))],[]⟩ [(28,false)] 31 68 [(pc o4 2),(pi 0),(pi 1)]
 (.ite (.pick sE pT (.nt uw))
 (.ret (pi 1))
 (.ite (aq r3 (pi 0))
 (.exit 1 ⟨[],[]⟩)
 (.chk (ax (pc o1 18) (bW r3 (pi 1)))
 (.call ⟨[],[(5,(.setc z3 0 (pn (pc o1 18) (bW r3 (pi 1)))))]⟩ [] 46 92 [(pc (.setc z3 0 (pn (pc o1 18) (bW r3 (pi 1)))) 1),(pc o4 1)]
 (.call ⟨[],[]⟩ [] 51 92 [(pc o5 0),(pc o4 0)]
 (.call ⟨[],[]⟩ [] 53 91 [(.lst [IT,lg])]
 (.ite (dc Ph (pi 0))
 (.ret (pi 5))
 (.next ⟨[],[]⟩))))))))))))
 (.next ⟨[(9,(be r9 (pi 1)))],[]⟩))
 (.exit 0 ⟨[(10,(aj r9 r8))],[]⟩))
def Rq (b:Nat→PC):PT:=
 (.brk ⟨[(9,(pi 0)),(8,(.llen (pc (.mk [r0]) 18))),(7,(pc (.mk [r0]) 18)),(2,(pi 0))],[(1,(.mk [r0]))]⟩
(akh b)
 (.ret (pi 0)))
def afr (b:Nat→PC):PT×List (Shp×PT):=(Rq b,[(.lp 0 [2,9,10] [] [2,9] [],I5 b)])
theorem N8:xI.map told=some (afr (bq xI)):=by kernel_rfl
theorem apq:tree (ae xI)=Rq Kw:=bO N8
theorem aat:round 0 [2,9,10] [] [2,9] [] (Kw 0)=I5 Kw:=bp N8 0 fun _=>rfl
def Fs:Option PC:=cF [4,5,6] [] Tryz.f92 92 []
def QV:PT:=
 (.call ⟨[],[]⟩ [] 8 119 [r0]
 (.call ⟨[(5,r8)],[]⟩ [] 10 119 [r1]
 (.ite r5
 (.ite de
 (.ret (pi 0))
 (.ret (pi (-1))))
 (.ite de
 (.ret (pi 1))
 (.ite (aj r0 r1)
 (.ret (pi (-1)))
 (.ite (aX r0 r1)
 (.ret (pi 1))
 (.ret (pi 0))))))))
theorem Yg:Fs.map told=some (QV,[]):=by kernel_rfl
theorem aoU:tree (ae Fs)=QV:=bo Yg
def Ft:Option PC:=cF [2] [] Tryz.f119 119 []
def QX:PT:=
 (.ret (aU r0 r0))
theorem Yh:Ft.map told=some (QX,[]):=by kernel_rfl
theorem aoW:tree (ae Ft)=QX:=bo Yh
def xz:Option PC:=cF [2,3,5] [] Tryz.f91 91 []
def Km:Nat→PC:=bB xz
def aj6 (b:Nat→PC):PC:=.block 0 [2,8,9] [] (.loop [2,8] [] (b 0))
def DE (b:Nat→PC):PT:=
 (.ite (aj r8 r7)
 (.chk (ax r6 r8)
 (.ite (aU (pn r6 r8) r3)
 (.ret (pn r6 r8))
 (.next ⟨[(8,uu)],[]⟩)))
 (.exit 0 ⟨[(9,(aj r8 r7))],[]⟩))
def QW (b:Nat→PC):PT:=
 (.brk ⟨[(8,(pi 0)),(7,(.llen r0)),(6,r0),(3,(pi 0)),(2,(pi 0))],[]⟩
(aj6 b)
 (.ret r3))
def afh (b:Nat→PC):PT×List (Shp×PT):=(QW b,[(.lp 0 [2,8,9] [] [2,8] [],DE b)])
theorem NZ:xz.map told=some (afh (bq xz)):=by kernel_rfl
theorem aoV:tree (ae xz)=QW Km:=bO NZ
theorem Pr:round 0 [2,8,9] [] [2,8] [] (Km 0)=DE Km:=bp NZ 0 fun _=>rfl
def Fz:Option PC:=cF [3] [] Tryz.f37 37 [2]
def Q9:PT:=
 (.call ⟨[],[]⟩ [] 7 38 [(.deref r1),mV]
 (.ret (.nt r7)))
theorem Yo:Fz.map told=some (Q9,[]):=by kernel_rfl
theorem ao7:tree (ae Fz)=Q9:=bo Yo
def FF:Option PC:=cF [4] [] Tryz.f38 38 [2]
def Rh:PT:=
 (.ret (.pick (dc r1 (pi 0)) (aj r1 (.llen (pc (.mk [r0]) 3))) pF))
theorem Yu:FF.map told=some (Rh,[]):=by kernel_rfl
theorem apg:tree (ae FF)=Rh:=bo Yu
def FA:Option PC:=cF [2] [] Tryz.f39 39 []
def Ra:PT:=
 (.ret (.pick (aj (pc (.deref r0) 1) (pi 0)) pT (dc (pc (.deref r0) 1) (pc (.sub (.deref r1) 0 15) 14))))
theorem Yp:FA.map told=some (Ra,[]):=by kernel_rfl
theorem ao8:tree (ae FA)=Ra:=bo Yp
def FB:Option PC:=cF [2] [] Tryz.f40 40 []
def Rb:PT:=
 (.call ⟨[],[]⟩ [] 6 38 [(.deref r0),(pc (.deref r1) 2)]
 (.ret (.nt r6)))
theorem Yq:FB.map told=some (Rb,[]):=by kernel_rfl
theorem ao9:tree (ae FB)=Rb:=bo Yq
def FC:Option PC:=cF [1] [] Tryz.f41 41 []
def Rc:PT:=
 (.ret (aX (.llen (pc (.deref r0) 5)) (pi 20)))
theorem Yr:FC.map told=some (Rc,[]):=by kernel_rfl
theorem apa:tree (ae FC)=Rc:=bo Yr
def FD:Option PC:=cF [2] [] Tryz.f42 42 []
def Rd:PT:=
 (.call ⟨[],[]⟩ [] 6 43 [(pc (.deref r0) 5),(.deref r1)]
 (.ret r6))
theorem Ys:FD.map told=some (Rd,[]):=by kernel_rfl
theorem apb:tree (ae FD)=Rd:=bo Ys
def F8:Option PC:=cF [4] [] Tryz.f43 43 []
def Sc:PT:=
 (.call ⟨[],[]⟩ [] 7 71 [r0,r1]
 (.ret (dc r7 (pi 0))))
theorem YW:F8.map told=some (Sc,[]):=by kernel_rfl
theorem aqd:tree (ae F8)=Sc:=bo YW
def ym:Option PC:=cF [4,5] [] Tryz.f71 71 []
def KP:Nat→PC:=bB ym
def ak0 (b:Nat→PC):PC:=.block 0 [4,8,9] [] (.loop [4,8] [] (b 0))
def Eh (b:Nat→PC):PT:=
 (.ite (aj r8 r7)
 (.blockS ⟨[],[]⟩ 1 [4,5,10,11,12,13,14,15,16] []
 (.chk (ax r0 r8)
 (.callc ⟨[(5,r8)],[]⟩ [] 16 r1 [(pn r0 r8)]
 (.ite dP
 (.ret r5)
 (.next ⟨[],[]⟩))))
 (.next ⟨[(8,uu)],[]⟩))
 (.exit 0 ⟨[(9,(aj r8 r7))],[]⟩))
def Si (b:Nat→PC):PT:=
 (.brk ⟨[(8,(pi 0)),(7,(.llen r0)),(4,(pi 0))],[]⟩
(ak0 b)
 (.ret (pi (-1))))
def afX (b:Nat→PC):PT×List (Shp×PT):=(Si b,[(.lp 0 [4,8,9] [] [4,8] [],Eh b)])
theorem Ou:ym.map told=some (afX (bq ym)):=by kernel_rfl
theorem aqi:tree (ae ym)=Si KP:=bO Ou
theorem Qb:round 0 [4,8,9] [] [4,8] [] (KP 0)=Eh KP:=bp Ou 0 fun _=>rfl
def FE:Option PC:=cF [2] [] Tryz.f44 44 []
def Re:PT:=
 (.call ⟨[],[]⟩ [] 5 45 [(.deref r0),(.deref r1)]
 (.ret (.nt r5)))
theorem Yt:FE.map told=some (Re,[]):=by kernel_rfl
theorem apc:tree (ae FE)=Re:=bo Yt
def xG:Option PC:=cF [4,5] [] Tryz.f45 45 [2,3,7]
def Ku:Nat→PC:=bB xG
def akd (b:Nat→PC):PC:=.block 0 [4,5,26,27] [] (.loop [4,5,26] [] (b 0))
def I3 (b:Nat→PC):PT:=
 (.ite (aj j8 jH)
 (.chk (ax nR j8)
 (.ite (aj (pc (.setc sv 0 (pn nR j8)) 1) r5)
 (.ret pF)
 (.next ⟨[(5,(pc (.setc sv 0 (pn nR j8)) 1)),(26,(be j8 (pi 1)))],[]⟩)))
 (.exit 0 ⟨[(27,(aj j8 jH))],[]⟩))
def Rg (b:Nat→PC):PT:=
 (.ite (.pick (aj (pc (.mk [r1]) 3) (pc (.mk [r0]) 8)) pT (aj (pc (.mk [r1]) 4) (pc (.mk [r1]) 3)))
 (.ret pF)
 (.brk ⟨[(26,(pi 0)),(25,(.llen (pc (.mk [r1]) 5))),(24,(pc (.mk [r1]) 5)),(4,pF),(5,(pc (.mk [r1]) 4))],[]⟩
(akd b)
 (.ret (bF r5 (pi 100000)))))
def afo (b:Nat→PC):PT×List (Shp×PT):=(Rg b,[(.lp 0 [4,5,26,27] [] [4,5,26] [],I3 b)])
theorem N6:xG.map told=some (afo (bq xG)):=by kernel_rfl
theorem apf:tree (ae xG)=Rg Ku:=bO N6
theorem aar:round 0 [4,5,26,27] [] [4,5,26] [] (Ku 0)=I3 Ku:=bp N6 0 fun _=>rfl
def Fj:Option PC:=cF [] [] Tryz.f35 35 [5,8,77832,10]
def QP:PT:=
 (.call ⟨[],[(10,Ab)]⟩ [] 18 65 [kL,r1,r2,(.mk [(.mk [(pc jE 0),(pc jE 1),(pc jE 2),(pc jE 3),(pc jE 4),(pc jE 5),(pc jE 6),(pc jE 7),(pc jE 8),(pc jE 9),(pc jE 10),(pc jE 11),(pc jE 12),(pc jE 13),(pc jE 14),(pc jE 15),(pc jE 16),(pc jE 17),pL]),(pi 0),(pi (-1)),(pi (-1)),(pi (-1)),r4])]
 (.ret (aw 5 (.setc bT 0 lf))))
theorem X9:Fj.map told=some (QP,[]):=by kernel_rfl
theorem aoN:tree (ae Fj)=QP:=bo X9
def Fi:Option PC:=cF [10] [] Tryz.f65 65 [4,7,8,9]
def QO:PT:=
 (.call ⟨[],[(8,Ab),(4,(.mk [r0]))]⟩ [] 16 83 [kL,r1,r2,(aw 24 (.mk [r3]))]
 (.iteS ⟨[(10,(.tget dP 1))],[(9,(.setc Ab 0 (.tget dP 0)))]⟩ (aU (pc (.setc Ab 0 (.tget dP 0)) 2) (pi (-1))) [] [9]
 (.chk (ax (pc o4 4) (pc o9 2))
 (.call ⟨[],[]⟩ [] 31 84 [(pn (pc o4 4) (pc o9 2)),r2,de]
 (.next ⟨[],[(9,(.setc (.setc o9 0 (.tget uw 0)) 4 (.tget uw 1)))]⟩)))
 (.next ⟨[],[]⟩)
 (.ret (aw 5 (.setc o8 0 (aw 5 o9))))))
theorem X8:Fi.map told=some (QO,[]):=by kernel_rfl
theorem aoM:tree (ae Fi)=QO:=bo X8
def Fl:Option PC:=cF [9,11,12,13,14] [] Tryz.f83 83 [4,7,8,10,16394]
def QR:PT:=
 (.call ⟨[],[(16394,pL),(10,(.setc Ab 0 (.mk [fU,(pi (-1)),pL,(pi 1)]))),(8,Ab),(7,(.mk [r3])),(4,(.mk [r0]))]⟩ [] 19 100 [kL,(aw 24 (.mk [r3]))]
 (.ite (aq (.llen (.tget jG 1)) (pi 0))
 (.ret (.tup [O2,pL]))
 (.call ⟨[(11,(.tget jG 1))],[(7,(.setc o7 0 (.tget jG 0)))]⟩ [] 28 101 [r2]
 (.ite (.nt (.tget sE 1))
 (.ret (.tup [O2,pL]))
 (.call ⟨[],[]⟩ [] 37 102 [(aw 8 o4),r1,(aw 24 o7)]
 (.ite (aq (.llen nT) (pi 0))
 (.ret (.tup [O2,pL]))
 (.call ⟨[],[]⟩ [] 46 103 [(aw 8 o4),r1,r2,nT]
 (.ite (aq (pc wJ 4) (pi 0))
 (.chk (ax (pc wJ 3) (bW (.llen (pc wJ 3)) (pi 1)))
 (.ret (.tup [(aw 5 (.setc o8 0 (aw 5 (.setc wJ 2 (pn (pc wJ 3) (bW (.llen (pc wJ 3)) (pi 1))))))),bG])))
 (.ret (.tup [(aw 5 (.setc o8 0 (aw 5 wJ))),bG]))))))))))
theorem Yb:Fl.map told=some (QR,[]):=by kernel_rfl
theorem aoP:tree (ae Fl)=QR:=bo Yb
def Fm:Option PC:=cF [5] [] Tryz.f100 100 [2,3,4]
def QS:PT:=
 (.call ⟨[],[(4,(.con (.agg [(.int 0),(.int 0),(.int 0),(.int 0),(.int 0),(.int 0),(.int 0),(.int 0),(.int 0),(.int 0),(.int 0),(.int 0),(.int 0),(.int 0),(.int 0),(.list []),(.list []),(.list []),(.list []),(.int 0),(.int 0),(.int 0),(.int 0),(.int 0)]))),(3,(.mk [r1])),(2,(.mk [r0]))]⟩ [] 10 13 [Dt,(pc (.mk [r1]) 23)]
 (.call ⟨[(12,(aw 24 (.setc o3 0 de)))],[]⟩ [] 15 127 [(aw 8 o2),(aw 24 (.setc o3 0 de))]
 (.ret (.tup [(aw 24 (.setc o4 0 bP)),jF]))))
theorem Yc:Fm.map told=some (QS,[]):=by kernel_rfl
theorem aoQ:tree (ae Fm)=QS:=bo Yc
def yg:Option PC:=cF [1000004,1000005] [] Tryz.f13 13 [2,4,65540,69636,73732,77828,5,65541,69637,73733,77829,7,31,9,49,11,13]
def rv:Nat→PC:=bB yg
def akS (b:Nat→PC):PC:=.block 0 [20,21] [65541,5] (.loop [20] [65541,5] (b 0))
def akT (b:Nat→PC):PC:=.block 2 [38,39] [73733,5] (.loop [38] [73733,5] (b 1))
def akU (b:Nat→PC):PC:=.block 4 [56,57] [5,69637] (.loop [56] [5,69637] (b 2))
def akV (b:Nat→PC):PC:=.block 6 [76,77] [5,77829] (.loop [76] [5,77829] (b 3))
def Eb (b:Nat→PC):PT:=
 (.ite (aj fV jG)
 (.chk (ax lf fV)
 (.ite (aX (pc (.setc z9 0 (pn lf fV)) 6) r1)
 (.exit 0 ⟨[(21,(aj fV jG))],[]⟩)
 (.chk (bF (.llen (.app (.o 65541) (.lst [(aw 9 (.setc z9 0 (pn lf fV)))]))) cq)
 (.next ⟨[(20,(be fV (pi 1)))],[(65541,(.app (.o 65541) (.lst [(aw 9 (.setc z9 0 (pn lf fV)))]))),(5,(.setc o5 15 pN))]⟩))))
 (.exit 0 ⟨[(21,(aj fV jG))],[]⟩))
def Ec (b:Nat→PC):PT:=
 (.ite (aj gm nT)
 (.chk (ax pC gm)
 (.ite (aX (pc (.setc z9 0 (pn pC gm)) 6) r1)
 (.exit 2 ⟨[(39,(aj gm nT))],[]⟩)
 (.chk (bF (.llen (.app (.o 73733) (.lst [(aw 9 (.setc z9 0 (pn pC gm)))]))) cq)
 (.next ⟨[(38,(be gm (pi 1)))],[(73733,(.app (.o 73733) (.lst [(aw 9 (.setc z9 0 (pn pC gm)))]))),(5,(.setc o5 17 pN))]⟩))))
 (.exit 2 ⟨[(39,(aj gm nT))],[]⟩))
def Ed (b:Nat→PC):PT:=
 (.ite (aj qK wQ)
 (.chk (ax qJ qK)
 (.ite (bF (pc (.setc z2 0 (pn qJ qK)) 0) (.llen (.o 65541)))
 (.chk (bF (.llen Z7) cq)
 (.next ⟨[(56,(be qK (pi 1)))],[(5,(.setc o5 16 pN)),(69637,Z7)]⟩))
 (.next ⟨[(56,(be qK (pi 1)))],[]⟩)))
 (.exit 4 ⟨[(57,(aj qK wQ))],[]⟩))
def Ee (b:Nat→PC):PT:=
 (.ite (aj uy Pk)
 (.blockS ⟨[],[]⟩ 7 [13,78,79,80,81,82,83,84,85] [13,77829,5]
 (.chk (ax IW uy)
 (.call ⟨[],[(13,(.setc z3 0 (pn IW uy)))]⟩ [] 85 32 [(pc (.setc z3 0 (pn IW uy)) 1),(.llen (.o 65541))]
 (.ite r85
 (.chk (bF (.llen ZQ) cq)
 (.next ⟨[],[(77829,ZQ),(5,(.setc o5 18 pN))]⟩))
 (.next ⟨[],[]⟩))))
 (.next ⟨[(76,(be uy (pi 1)))],[]⟩))
 (.exit 6 ⟨[(77,(aj uy Pk))],[]⟩))
def R5 (b:Nat→PC):PT:=
 (.brk ⟨[(20,(pi 0)),(19,(.llen sB)),(18,sB)],[(77829,pL),(73733,pL),(69637,pL),(65541,pL),(5,(.setc qC 0 (.mk [(aw 15 (.mk [r0])),pL,pL,pL,pL]))),(4,qC),(2,(.mk [r0]))]⟩
(akS b)
 (.brk ⟨[(38,(pi 0)),(37,(.llen (pc o2 17))),(36,(pc o2 17))],[]⟩
(akT b)
 (.brk ⟨[(56,(pi 0)),(55,(.llen (pc o2 16))),(54,(pc o2 16))],[]⟩
(akU b)
 (.brk ⟨[(76,(pi 0)),(75,(.llen (pc o2 18))),(74,(pc o2 18))],[]⟩
(akV b)
 (.ret (.mk [(pc lb 0),(pc lb 1),(pc lb 2),(pc lb 3),(pc lb 4),(pc lb 5),(pc lb 6),(pc lb 7),(pc lb 8),(pc lb 9),(pc lb 10),(pc lb 11),(pc lb 12),(pc lb 13),(pc lb 14),(.o 65541),(.o 69637),(.o 73733),(.o 77829)]))))))
def afS (b:Nat→PC):PT×List (Shp×PT):=(R5 b,[(.lp 0 [20,21] [65541,5] [20] [65541,5],Eb b),(.lp 2 [38,39] [73733,5] [38] [73733,5],Ec b),(.lp 4 [56,57] [5,69637] [56] [5,69637],Ed b),(.lp 6 [76,77] [5,77829] [76] [5,77829],Ee b)])
theorem zD:yg.map told=some (afS (bq yg)):=by kernel_rfl
theorem ap5:tree (ae yg)=R5 rv:=bO zD
theorem P3:round 0 [20,21] [65541,5] [20] [65541,5] (rv 0)=Eb rv:=bp zD 0 fun _=>rfl
theorem P4:round 2 [38,39] [73733,5] [38] [73733,5] (rv 1)=Ec rv:=bp zD 1 fun _=>rfl
theorem P5:round 4 [56,57] [5,69637] [56] [5,69637] (rv 2)=Ed rv:=bp zD 2 fun _=>rfl
theorem P6:round 6 [76,77] [5,77829] [76] [5,77829] (rv 3)=Ee rv:=bp zD 3 fun _=>rfl
def F6:Option PC:=cF [4] [] Tryz.f32 32 []
def R9:PT:=
 (.ret Pb)
theorem YU:F6.map told=some (R9,[]):=by kernel_rfl
theorem aqa:tree (ae F6)=R9:=bo YU
def yi:Option PC:=cF [4,7,9,11,12,13,14,15,16] [] Tryz.f127 127 [2,3,5,6,8,10,90,139]
def Be:Nat→PC:=bB yi
def ald (b:Nat→PC):PC:=.meach 90 [94,95,11,12] [0,1,0,1] [10] (b 0)
def ale (b:Nat→PC):PC:=.meach 139 [143,144,15,16] [0,1,0,1] [10] (b 1)
def P8 (b:Nat→PC):PT:=
 (.chk (ax bT bG)
 (.next ⟨[],[(10,(.setn bT bG 0 (.mk [pT,bP])))]⟩))
def P9 (b:Nat→PC):PT:=
 (.blockS ⟨[],[]⟩ 3 [145,146,147,148,149] [10]
 (.call ⟨[(146,jF)],[]⟩ [] 148 142 [dP]
 (.chk (ax bT (.r 146))
 (.next ⟨[],[(10,(.setn bT (.r 146) 0 (.r 148)))]⟩)))
 (.next ⟨[],[]⟩))
def uO (b:Nat→PC):PT:=
 (.call ⟨[(7,(.mx (pc (.mk [r1]) 20) (pi 0)))],[(6,(.setc EP 0 (aw 15 (.mk [r1])))),(5,(.setc qC 0 Dt)),(3,(.mk [r1])),(2,(.mk [r0]))]⟩ [] 30 32 [(pc (.mk [r1]) 19),(.llen (pc (.setc qC 0 Dt) 15))]
 (.call ⟨[(48,(aU (pc o3 22) (pi (-1)))),(44,(.pick (.pick (.nt pB) pT (aj (pc o3 20) (pi (-1)))) pT (dc r7 (.llen (pc o5 15)))))],[]⟩ [(48,true),(44,false)] 51 32 [(pc o3 22),(pi 100001)]
 (.ite (.pick Aj pT (.pick me (.nt lg) pF))
 (.ret pL)
 (.chk (ax (pc o5 15) (pc o3 19))
 (.call ⟨[],[(8,(.setc z9 0 (pn (pc o5 15) (pc o3 19))))]⟩ [] 63 32 [(pc (.setc z9 0 (pn (pc o5 15) (pc o3 19))) 6),(pi 100001)]
 (.ite (.nt IV)
 (.ret pL)
 (.chk (.an (dc (pi 20) (pi 0)) (bF (pi 20) cq))
 (.chk (aq (pi 20) (pi 20))
 (.chk (aj (.mlen (.con (.map []))) cq)
 (.chk (aj (.mlen (.put (.con (.map [])) (pi 0) (pc o6 3))) cq)
 (.chk (aj (.mlen (.put (.put (.con (.map [])) (pi 0) (pc o6 3)) (pi 1) (pc o6 14))) cq)
 (.chk (aj (.mlen OZ) cq)
 (.chk (aj (.mlen (.put OZ (pi 3) (pc o6 12))) cq)
 (.chk (aj (.mlen O5) cq)
 (.chk (aj (.mlen (.put O5 (pi 5) (pc o3 21))) cq)
 (.blockS ⟨[(10,pN),(9,ZP)],[(90,(.tup [(.lst []),(.put (.put O5 (pi 5) (pc o3 21)) (pi 6) ZP)])),(10,(.rep (pi 20) fU))]⟩ 0 [] [10]
 (.brk ⟨[],[]⟩
(ald b)
 (.exit 0 ⟨[],[]⟩))
 (.call ⟨[],[(3,(aw 24 o3))]⟩ [] 104 140 [(pc o5 16),(.clo 141 [(.ref (aw 24 o3))])]
 (.call ⟨[(13,am6)],[]⟩ [] 108 128 [(aw 8 o2),(pc o6 9)]
 (.call ⟨[],[]⟩ [] 112 128 [(aw 8 o2),(pc o6 10)]
 (.chk (aj (.mlen (.con (.map []))) cq)
 (.chk (aj (.mlen O3) cq)
 (.chk (aj (.mlen (.put O3 (pi 8) (aq (pc o6 2) (pi (-1))))) cq)
 (.chk (aj (.mlen (.put (.put O3 (pi 8) (aq (pc o6 2) (pi (-1)))) (pi 9) (aU (.ai .and .i64 (pc o6 13) (pi 4)) (pi 0)))) cq)
 (.chk (aj (.mlen IN) cq)
 (.chk (aj (.mlen (.put IN (pi 11) (aU Pd Pe))) cq)
 (.chk (aj (.mlen (.put (.put IN (pi 11) (aU Pd Pe)) (pi 12) cW)) cq)
 (.chk (aj (.mlen Z2) cq)
 (.blockS ⟨[],[(139,(.tup [(.lst []),(.put Z2 (pi 14) (aX r9 (pi 0)))]))]⟩ 2 [] [10]
 (.brk ⟨[],[]⟩
(ale b)
 (.exit 2 ⟨[],[]⟩))
 (.call ⟨[],[]⟩ [] 154 143 [(aw 19 o5),(pi 0),(pc o3 19)]
 (.chk (ax bT (pi 15))
 (.call ⟨[],[(10,(.setn bT (pi 15) 0 (.r 154)))]⟩ [] 160 143 [(aw 19 o5),(pi 1),(pc o3 19)]
 (.chk (ax bT (pi 16))
 (.call ⟨[],[(10,(.setn bT (pi 16) 0 (.r 160)))]⟩ [] 166 143 [(aw 19 o5),(pi 2),(pc o3 19)]
 (.chk (ax bT (pi 17))
 (.call ⟨[],[(10,(.setn bT (pi 17) 0 (.r 166)))]⟩ [] 171 143 [(aw 19 o5),(pi 3),r7]
 (.chk (ax bT (pi 18))
 (.call ⟨[],[(10,(.setn bT (pi 18) 0 (.r 171)))]⟩ [] 176 143 [(aw 19 o5),(pi 4),r7]
 (.chk (ax bT (pi 19))
 (.ret (.setn bT (pi 19) 0 (.r 176)))))))))))))))))))))))))))))))))))))))))
def afU (b:Nat→PC):PT×List (Shp×PT):=(uO b,[(.ea [10],P8 b),(.ea [10],P9 b)])
theorem Iq:yi.map told=some (afU (bq yi)):=by kernel_rfl
theorem ap8:tree (ae yi)=uO Be:=bO Iq
theorem anA:pH [10] (Be 0)=P8 Be:=QN Iq 0 fun _=>rfl
theorem anB:pH [10] (Be 1)=P9 Be:=QN Iq 1 fun _=>rfl
def F4:Option PC:=cF [3] [] Tryz.f141 141 [2]
def R7:PT:=
 (.ret (bF mV (pc (.deref r1) 19)))
theorem YS:F4.map told=some (R7,[]):=by kernel_rfl
theorem ap7:tree (ae F4)=R7:=bo YS
def F7:Option PC:=cF [4] [] Tryz.f140 140 []
def Sb:PT:=
 (.call ⟨[],[]⟩ [] 7 156 [r0,r1]
 (.ret (dc r7 (pi 0))))
theorem YV:F7.map told=some (Sb,[]):=by kernel_rfl
theorem aqc:tree (ae F7)=Sb:=bo YV
def yk:Option PC:=cF [4,5] [] Tryz.f156 156 []
def KO:Nat→PC:=bB yk
def akZ (b:Nat→PC):PC:=.block 0 [4,8,9] [] (.loop [4,8] [] (b 0))
def Eg (b:Nat→PC):PT:=
 (.ite (aj r8 r7)
 (.blockS ⟨[],[]⟩ 1 [4,5,10,11,12,13,14,15,16] []
 (.chk (ax r0 r8)
 (.callc ⟨[(5,r8)],[]⟩ [] 16 r1 [(pn r0 r8)]
 (.ite dP
 (.ret r5)
 (.next ⟨[],[]⟩))))
 (.next ⟨[(8,uu)],[]⟩))
 (.exit 0 ⟨[(9,(aj r8 r7))],[]⟩))
def Sg (b:Nat→PC):PT:=
 (.brk ⟨[(8,(pi 0)),(7,(.llen r0)),(4,(pi 0))],[]⟩
(akZ b)
 (.ret (pi (-1))))
def afW (b:Nat→PC):PT×List (Shp×PT):=(Sg b,[(.lp 0 [4,8,9] [] [4,8] [],Eg b)])
theorem Ot:yk.map told=some (afW (bq yk)):=by kernel_rfl
theorem aqh:tree (ae yk)=Sg KO:=bO Ot
theorem Qa:round 0 [4,8,9] [] [4,8] [] (KO 0)=Eg KO:=bp Ot 0 fun _=>rfl
def F1:Option PC:=cF [4] [] Tryz.f128 128 [2]
def RT:PT:=
 (.call ⟨[],[(2,(.mk [r0]))]⟩ [] 9 111 [r1,(.llen wM)]
 (.ite (.nt r9)
 (.ret (pi (-1)))
 (.chk (ax (pc o2 1) r1)
 (.ret (pc (pn (pc o2 1) r1) 1)))))
theorem YP:F1.map told=some (RT,[]):=by kernel_rfl
theorem apT:tree (ae F1)=RT:=bo YP
def F5:Option PC:=cF [] [] Tryz.f142 142 [2]
def R8:PT:=
 (.ite r0
 (.ret (.mk [(pc IM 0),(pc IM 1)]))
 (.ret (.mk [(pc IP 0),(pc IP 1)])))
theorem YT:F5.map told=some (R8,[]):=by kernel_rfl
theorem ap9:tree (ae F5)=R8:=bo YT
def yh:Option PC:=cF [] [] Tryz.f143 143 [3,6,8]
def KN:Nat→PC:=bB yh
def akW (b:Nat→PC):PC:=.block 0 [12,13] [6] (.loop [12] [6] (b 0))
def Ef (b:Nat→PC):PT:=
 (.ite (aj bP bG)
 (.blockS ⟨[],[]⟩ 1 [8,14,15,16,17,18,19,20,25] [8,6]
 (.chk (ax de bP)
 (.iteS ⟨[],[(8,(.setc z3 0 sD))]⟩ (.pick (aq (pc (.setc z3 0 sD) 0) r1) (aq (pc (.setc z3 0 sD) 1) r2) pF) [] [6]
 (.call ⟨[],[]⟩ [] 29 142 [(aU (pc o8 2) (pi 0))]
 (.ret (.mk [(pc (.setc o6 0 nS) 0),(pc (.setc o6 0 nS) 1)])))
 (.next ⟨[],[]⟩)
 (.next ⟨[],[]⟩)))
 (.next ⟨[(12,(be bP (pi 1)))],[]⟩))
 (.exit 0 ⟨[(13,(aj bP bG))],[]⟩))
def R6 (b:Nat→PC):PT:=
 (.brk ⟨[(12,(pi 0)),(11,(.llen (pc (.mk [r0]) 18))),(10,(pc (.mk [r0]) 18))],[(6,fU)]⟩
(akW b)
 (.ret (.mk [(pc (.setc o6 0 wN) 0),(pc (.setc o6 0 wN) 1)])))
def afT (b:Nat→PC):PT×List (Shp×PT):=(R6 b,[(.lp 0 [12,13] [6] [12] [6],Ef b)])
theorem Oq:yh.map told=some (afT (bq yh)):=by kernel_rfl
theorem ap6:tree (ae yh)=R6 KN:=bO Oq
theorem P7:round 0 [12,13] [6] [12] [6] (KN 0)=Ef KN:=bp Oq 0 fun _=>rfl
def FH:Option PC:=cF [2,3,4,11] [] Tryz.f101 101 []
def Rj:PT:=
 (.blockS ⟨[],[]⟩ 0 [2,3,4,5,6,7,10,11,12,13,14] []
 (.iteS ⟨[],[]⟩ (.pick (aj r0 (pi 0)) pT (dc r0 (pi 22))) [2,3,11,12,13,14] []
 (.ret (.tup [(pi 0),pF]))
 (.call ⟨[],[]⟩ [] 14 23 [(.lst [(pc qD 0),(pc qD 1),(pc qD 2),(pc qD 3),(pc qD 4),(pc qD 5),(pc qD 6),(pc qD 7),(pc qD 8),(pc qD 9)]),r0]
 (.ite cv
 (.ret (.tup [(pi 0),pT]))
 (.next ⟨[],[]⟩)))
 (.next ⟨[],[]⟩))
 (.ret (.tup [(pi 1),pT])))
theorem Yw:FH.map told=some (Rj,[]):=by kernel_rfl
theorem api:tree (ae FH)=Rj:=bo Yw
def xA:Option PC:=cF [8,9,11,12,13,14,55,70] [] Tryz.f103 103 [4,10,53]
def Ko:Nat→PC:=bB xA
def aj7 (b:Nat→PC):PC:=.block 0 [] [] (.loop [8,9,10] [10] (b 0))
def Ps (b:Nat→PC):PT:=
 (.blockS ⟨[],[]⟩ 1 [8,9,10,11,12,13,14,32,33,35,36,37,38,39,40,41,42,43,44,45,46,49,50,52,53,54,55,56,57,58,68,70,71] [53,10]
 (.chk (ax bT (bW (.llen bT) (pi 1)))
 (.call ⟨[(11,(pn bT (bW (.llen bT) (pi 1))))],[]⟩ [] 41 130 [(aw 8 o4),(pn bT (bW (.llen bT) (pi 1))),r2,r3]
 (.ite (aq (.tget qH 0) bG)
 (.ret (.tup [bT,(pi 0)]))
 (.call ⟨[(13,(.tget qH 1)),(12,(.tget qH 0))],[]⟩ [] 50 23 [bT,(.tget qH 0)]
 (.chk (bF (.llen (.app bT (.lst [bP]))) cq)
 (.chk (.nt (.an (.an mf (.an (.nt (.nt cW)) pT)) (.nt (ax (pc o4 4) bP))))
 (.ite (.pick (.nt cW) pT (.pick mf (pc (pn (pc o4 4) bP) 1) pF))
 (.ret (.tup [(.app bT (.lst [bP])),(pi 0)]))
 (.ite mf
 (.ret (.tup [(.app bT (.lst [bP])),(pi 12)]))
 (.next ⟨[(10,pN)],[(10,(.app bT (.lst [bP])))]⟩)))))))))
 (.next ⟨[],[]⟩))
def QY (b:Nat→PC):PT:=
 (.call ⟨[(9,(pi 0)),(8,pL)],[(4,(.mk [r0]))]⟩ [] 19 129 [kL,r1,r2,r3]
 (.chk (.nt (.an (.an (.nt (.nt jG)) pT) (.nt (ax r3 (pi 0)))))
 (.ite (.pick (.nt jG) pT (aU (pn r3 (pi 0)) r1))
 (.ret (.tup [pL,(pi 1)]))
 (.brk ⟨[(10,pN)],[(10,(.lst [r1]))]⟩
(aj7 b)
 (.next ⟨[],[]⟩)))))
def afi (b:Nat→PC):PT×List (Shp×PT):=(QY b,[(.lp 0 [] [] [8,9,10] [10],Ps b)])
theorem N0:xA.map told=some (afi (bq xA)):=by kernel_rfl
theorem aoX:tree (ae xA)=QY Ko:=bO N0
theorem anx:round 0 [] [] [8,9,10] [10] (Ko 0)=Ps Ko:=bp N0 0 fun _=>rfl
def Fu:Option PC:=cF [8] [] Tryz.f129 129 [4,9]
def uN:PT:=
 (.ite (.pick (.pick (.pick (.pick (aj r1 (pi 0)) pT (dc r1 (pc (.setc IF 0 IE) 0))) pT (aj r2 (pi 0))) pT (dc r2 (pi 22))) pT (aU (.llen r3) (pi 5)))
 (.ret pF)
 (.call ⟨[],[]⟩ [] 35 144 [r3,(.clo 145 [(.ref (pc (.setc IF 0 IE) 0))])]
 (.ret (.nt IS))))
theorem Yi:Fu.map told=some (uN,[]):=by kernel_rfl
theorem ao0:tree (ae Fu)=uN:=bo Yi
def Fv:Option PC:=cF [3] [] Tryz.f145 145 []
def Q0:PT:=
 (.ret (.pick (aj r0 (pi 0)) pT (dc r0 (.deref r1))))
theorem Yj:Fv.map told=some (Q0,[]):=by kernel_rfl
theorem aoZ:tree (ae Fv)=Q0:=bo Yj
end Rm
