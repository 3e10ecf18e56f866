/-
  Shared texts of this claim.
-/
import Derived.Test.YtmnnipoiigfapaaGreatDoorHAK
import Derived.KernelRfl
import Derived.Test.YtmnnipoiigfapaaGreatDoorHAL
import Derived.Test.YtmnnipoiigfapaaGreatDoorHAM
import Derived.Test.YtmnnipoiigfapaaGreatDoorHAN
import Derived.Test.YtmnnipoiigfapaaGreatDoorHAJ
import Derived.WalkKit
import Derived.WalkSpells
import Derived.Lib.SliceRun
import Derived.Lib.AppendZeros
import Derived.Laws.Strings
set_option linter.unusedVariables false
set_option maxRecDepth 100000
noncomputable section
namespace Rm
open Go Go.Proofs Cx
def yR:Option PC:=cF [2,3,5,6] [] Tryz.f52 52 [1,4,44]
def B0:Nat→PC:=bx yR
def amU (b:Nat→PC):PC:=.block 0 [2,3,11,12,13,14,15] [] (.loop [2,3] [] (b 0))
def amV (b:Nat→PC):PC:=.block 2 [2,4,5,30,31,32,33,34] [4] (.loop [2,4,5] [4] (b 1))
def ER (b:Nat→PC):PT:=
 (.ite (aj r3 rl)
 (.blockS ⟨[],[]⟩ 1 [2,18,19,20,21,22,23,24,25] []
 (.chk (ar (pc o1 2) r3)
 (.call ⟨[],[]⟩ [] 24 26 [(pc (pn (pc o1 2) r3) 0),(pi 0),(pi 9)]
 (.ite (.nt oG)
 (.ret (pi 1))
 (.next ⟨[],[]⟩))))
 (.next ⟨[(3,vg)],[]⟩))
 (.exit 0 ⟨[(11,r3),(12,pN),(13,(pc o1 2)),(14,rl),(15,(aj r3 rl))],[]⟩))
def ES (b:Nat→PC):PT:=
 (.ite (aj r5 nv)
 (.blockS ⟨[],[]⟩ 3 [2,4,6,38,39,40,41,42,43,44,45,46,47,48,49,50,52,53,54,55,56,57,58,59,60,61,62,63,64,77] [44,4]
 (.chk (ar (pc o1 3) r5)
 (.chk (bU (.llen QD) cL)
 (.call ⟨[(4,pN)],[(4,QD)]⟩ [] 48 78 [QD,r5]
 (.ite (aR mE (pi 0))
 (.ret mE)
 (.chk (ar (pc o1 3) r5)
 (.call ⟨[],[]⟩ [] 62 26 [(pc (pn (pc o1 3) r5) 1),(pi 0),(bK lI (pi 1))]
 (.chk (.nt (.an (.an (.nt (.nt nw)) pT) (.nt (ar (pc o1 3) r5))))
 (.call ⟨[(64,(.nt nw))],[]⟩ [(64,false)] 75 26 [(pc (pn (pc o1 3) r5) 2),(pi 0),(bK rl (pi 1))]
 (.ite (.pick lL pT (.nt Kb))
 (.ret (pi 1))
 (.next ⟨[],[]⟩))))))))))
 (.next ⟨[(5,AZ)],[]⟩))
 (.exit 2 ⟨[(30,r5),(31,pN),(32,(pc o1 3)),(33,nv),(34,(aj r5 nv))],[]⟩))
def To (b:Nat→PC):PT:=
 (.ite (aV qf (pi 20))
 (.ret (pi 6))
 (.brk ⟨[(3,(pi 0)),(2,(pi 0))],[(1,(.mk [r0]))]⟩
(amU b)
 (.ite (aV nv (pi 200))
 (.ret (pi 6))
 (.brk ⟨[(5,(pi 0)),(4,pN)],[(4,pL)]⟩
(amV b)
 (.ret (pi 0))))))
def ahQ (b:Nat→PC):PT×List (Shp×PT):=(To b,[(.lp 0 [2,3,11,12,13,14,15] [] [2,3] [],ER b),(.lp 2 [2,4,5,30,31,32,33,34] [4] [2,4,5] [4],ES b)])
theorem Jw:yR.map told=some (ahQ (br yR)):=by kernel_rfl
theorem asz:tree (ae yR)=To B0:=bN Jw
theorem Rk:round 0 [2,3,11,12,13,14,15] [] [2,3] [] (B0 0)=ER B0:=bj Jw 0 fun _=>rfl
theorem Rl:round 2 [2,4,5,30,31,32,33,34] [4] [2,4,5] [4] (B0 1)=ES B0:=bj Jw 1 fun _=>rfl
def yS:Option PC:=cF [2,4,5] [] Tryz.f53 53 [1,3,24]
def L8:Nat→PC:=bx yS
def amW (b:Nat→PC):PC:=.block 0 [2,3,4,10,11,12,13,14] [3] (.loop [2,3,4] [3] (b 0))
def ET (b:Nat→PC):PT:=
 (.ite (aj r4 oF)
 (.blockS ⟨[],[]⟩ 1 [2,3,5,18,19,20,21,22,23,24,25,26,27,28,29,30,32,33,34,35,36,37,38] [24,3]
 (.chk (ar (pc o1 4) r4)
 (.chk (bU (.llen (.app o3 (.lst [(pc xJ 0)]))) cL)
 (.call ⟨[(3,pN)],[(3,(.app o3 (.lst [(pc xJ 0)])))]⟩ [] 28 78 [(.app o3 (.lst [(pc xJ 0)])),r4]
 (.ite (aR qh (pi 0))
 (.ret qh)
 (.chk (ar (pc o1 4) r4)
 (.call ⟨[],[]⟩ [] 37 80 [xJ]
 (.ite (.nt mD)
 (.ret (pi 1))
 (.next ⟨[],[]⟩))))))))
 (.next ⟨[(4,(bu r4 (pi 1)))],[]⟩))
 (.exit 0 ⟨[(10,r4),(11,pN),(12,(pc o1 4)),(13,oF),(14,(aj r4 oF))],[]⟩))
def Tq (b:Nat→PC):PT:=
 (.ite (aV JU (pi 20))
 (.ret (pi 6))
 (.brk ⟨[(4,(pi 0)),(3,pN),(2,(pi 0))],[(3,pL),(1,(.mk [r0]))]⟩
(amW b)
 (.ret (pi 0))))
def ahR (b:Nat→PC):PT×List (Shp×PT):=(Tq b,[(.lp 0 [2,3,4,10,11,12,13,14] [3] [2,3,4] [3],ET b)])
theorem PV:yS.map told=some (ahR (br yS)):=by kernel_rfl
theorem asB:tree (ae yS)=Tq L8:=bN PV
theorem Rn:round 0 [2,3,4,10,11,12,13,14] [3] [2,3,4] [3] (L8 0)=ET L8:=bj PV 0 fun _=>rfl
def yN:Option PC:=cF [2,3,4] [] Tryz.f80 80 [1]
def BY:Nat→PC:=bx yN
def amO (b:Nat→PC):PC:=.block 0 [2,3,5,6,7,8,9] [] (.loop [2,3] [] (b 0))
def amP (b:Nat→PC):PC:=.block 2 [2,4,48,49,50,51,52] [] (.loop [2,4] [] (b 1))
def EK (b:Nat→PC):PT:=
 (.ite (aj r3 rl)
 (.blockS ⟨[],[]⟩ 1 [2,12,13,14,15,16,17,18,19,20,29,30,31,32,47] []
 (.chk (ar (pc o1 2) r3)
 (.call ⟨[],[]⟩ [] 18 26 [(pc (pn (pc o1 2) r3) 0),(pi 0),(pi 21)]
 (.chk (.nt (.an (.an (.nt (.nt kz)) pT) (.nt (ar (pc o1 2) r3))))
 (.call ⟨[(20,(.nt kz))],[]⟩ [(20,false)] 27 26 [(pc (pn (pc o1 2) r3) 1),(pi 0),(pi 4)]
 (.ite (.pick eP pT (.nt fP))
 (.ret pF)
 (.chk (.nt (.an (.an (aV r3 (pi 0)) pT) (.nt (ar (pc o1 2) (bK r3 (pi 1))))))
 (.chk (.nt (.an (.an (aV r3 (pi 0)) pT) (.nt (ar (pc o1 2) r3))))
 (.ite (.pick (aV r3 (pi 0)) (cX (pc (pn (pc o1 2) (bK r3 (pi 1))) 0) (pc (pn (pc o1 2) r3) 0)) pF)
 (.ret pF)
 (.next ⟨[],[]⟩)))))))))
 (.next ⟨[(3,vg)],[]⟩))
 (.exit 0 ⟨[(5,r3),(6,pN),(7,(pc o1 2)),(8,rl),(9,(aj r3 rl))],[]⟩))
def EL (b:Nat→PC):PT:=
 (.ite (aj r4 nv)
 (.blockS ⟨[],[]⟩ 3 [2,55,56,57,58,59,60,61,62,63,64,65,80] []
 (.chk (ar (pc o1 3) r4)
 (.call ⟨[],[]⟩ [] 61 26 [(pc (pn (pc o1 3) r4) 0),(pi 0),(pi 21)]
 (.ite (.nt oJ)
 (.ret pF)
 (.chk (.nt (.an (.an (aV r4 (pi 0)) pT) (.nt (ar (pc o1 3) (bK r4 (pi 1))))))
 (.chk (.nt (.an (.an (aV r4 (pi 0)) pT) (.nt (ar (pc o1 3) r4))))
 (.ite (.pick (aV r4 (pi 0)) (cX (pc (pn (pc o1 3) (bK r4 (pi 1))) 0) (pc (pn (pc o1 3) r4) 0)) pF)
 (.ret pF)
 (.next ⟨[],[]⟩)))))))
 (.next ⟨[(4,(bu r4 (pi 1)))],[]⟩))
 (.exit 2 ⟨[(48,r4),(49,pN),(50,(pc o1 3)),(51,nv),(52,(aj r4 nv))],[]⟩))
def Ti (b:Nat→PC):PT:=
 (.brk ⟨[(3,(pi 0)),(2,pF)],[(1,(.mk [r0]))]⟩
(amO b)
 (.brk ⟨[(4,(pi 0))],[]⟩
(amP b)
 (.ret pT)))
def ahM (b:Nat→PC):PT×List (Shp×PT):=(Ti b,[(.lp 0 [2,3,5,6,7,8,9] [] [2,3] [],EK b),(.lp 2 [2,4,48,49,50,51,52] [] [2,4] [],EL b)])
theorem Ju:yN.map told=some (ahM (br yN)):=by kernel_rfl
theorem asu:tree (ae yN)=Ti BY:=bN Ju
theorem Re:round 0 [2,3,5,6,7,8,9] [] [2,3] [] (BY 0)=EK BY:=bj Ju 0 fun _=>rfl
theorem Rf:round 2 [2,4,48,49,50,51,52] [] [2,4] [] (BY 1)=EL BY:=bj Ju 1 fun _=>rfl
def yU:Option PC:=cF [2,3,5] [] Tryz.f54 54 [1,4]
def B2:Nat→PC:=bx yU
def amZ (b:Nat→PC):PC:=.block 2 [2,5,46,47,48] [] (.loop [2,5] [] (b 0))
def am0 (b:Nat→PC):PC:=.block 0 [2,3,10,11,12,13,14] [] (.loop [2,3] [] (b 1))
def Bg (b:Nat→PC):PT:=
 (.ite (aj r5 r3)
 (.chk (ar (pc o1 5) r5)
 (.chk (.nt (.an (.an (af (pc (pn (pc o1 5) r5) 0) (pc o4 0)) pT) (.nt (ar (pc o1 5) r5))))
 (.ite (.pick (af (pc (pn (pc o1 5) r5) 0) (pc o4 0)) (af (pc (pn (pc o1 5) r5) 1) (pc o4 1)) pF)
 (.ret (pi 5))
 (.next ⟨[(5,AZ)],[]⟩))))
 (.exit 2 ⟨[(46,r5),(47,r3),(48,(aj r5 r3))],[]⟩))
def EW (b:Nat→PC):PT:=
 (.ite (aj r3 AY)
 (.blockS ⟨[(14,(aj r3 AY)),(13,AY),(12,(pc o1 5)),(11,pN),(10,r3)],[]⟩ 1 [2,4,5,17,18,19,20,21,22,23,24,25,26,27,28,29,30,39,40,45,46,47,48] [4]
 (.chk (ar (pc o1 5) r3)
 (.call ⟨[],[(4,(.setc z3 0 (pn (pc o1 5) r3)))]⟩ [] 28 26 [(pc (.setc z3 0 (pn (pc o1 5) r3)) 0),(pi 0),(bK lI (pi 1))]
 (.call ⟨[(30,(.nt qh))],[]⟩ [(30,false)] 37 26 [(pc o4 1),(pi 0),(bK lI (pi 1))]
 (.call ⟨[(40,(.pick oH pT (.nt mD)))],[]⟩ [(40,false)] 43 26 [(pc o4 2),(pi 1),(pi 20000)]
 (.ite (.pick qj pT (.nt rv))
 (.ret (pi 1))
 (.brk ⟨[(5,(pi 0))],[]⟩
(amZ b)
 (.next ⟨[],[]⟩)))))))
 (.next ⟨[(3,vg)],[]⟩))
 (.exit 0 ⟨[(10,r3),(11,pN),(12,(pc o1 5)),(13,AY),(14,(aj r3 AY))],[]⟩))
def Ts (b:Nat→PC):PT:=
 (.ite (aV (.llen AX) (pi 100))
 (.ret (pi 6))
 (.brk ⟨[(3,(pi 0)),(2,(pi 0))],[(1,(.mk [r0]))]⟩
(am0 b)
 (.ret (pi 0))))
def ahT (b:Nat→PC):PT×List (Shp×PT):=(Ts b,[(.lp 2 [2,5,46,47,48] [] [2,5] [],Bg b),(.lp 0 [2,3,10,11,12,13,14] [] [2,3] [],EW b)])
theorem Jy:yU.map told=some (ahT (br yU)):=by kernel_rfl
theorem asD:tree (ae yU)=Ts B2:=bN Jy
theorem Kq:round 2 [2,5,46,47,48] [] [2,5] [] (B2 0)=Bg B2:=bj Jy 0 fun _=>rfl
theorem Rq:round 0 [2,3,10,11,12,13,14] [] [2,3] [] (B2 1)=EW B2:=bj Jy 1 fun _=>rfl
def yT:Option PC:=cF [2,3,5] [] Tryz.f55 55 [1,4,6]
def B1:Nat→PC:=bx yT
def amX (b:Nat→PC):PC:=.block 0 [2,3,11,12,13,14,15] [] (.loop [2,3] [] (b 0))
def amY (b:Nat→PC):PC:=.block 2 [2,5,68,69,70,71,72] [] (.loop [2,5] [] (b 1))
def EU (b:Nat→PC):PT:=
 (.ite (aj r3 (.llen (pc o1 6)))
 (.blockS ⟨[],[]⟩ 1 [2,4,18,19,20,21,22,23,24,25,26,27,28,29,30,31,40,41,47,48,49,50,51,52,57,58,63] [4]
 (.chk (ar (pc o1 6) r3)
 (.call ⟨[],[(4,(.setc z5 0 (pn (pc o1 6) r3)))]⟩ [] 29 26 [(pc (.setc z5 0 (pn (pc o1 6) r3)) 0),(pi 0),(bK vf (pi 1))]
 (.call ⟨[(31,(.nt mC))],[]⟩ [(31,false)] 38 26 [(pc o4 1),(pi 0),(bK vf (pi 1))]
 (.ite (.pick (.pick rq pT (.nt fQ)) pT (af (pc o4 0) (pc o4 1)))
 (.ret (pi 1))
 (.call ⟨[],[]⟩ [] 50 26 [(pc o4 2),(pi 1),(pi 1073741824)]
 (.call ⟨[(52,(.nt mF))],[]⟩ [(52,false)] 55 26 [(pc o4 3),(pi 1),(pi 1073741824)]
 (.call ⟨[(58,(.pick J9 pT (.nt xP)))],[]⟩ [(58,false)] 61 26 [(pc o4 4),(pi 0),(pi 100000)]
 (.ite (.pick Ev pT (.nt oJ))
 (.ret (pi 1))
 (.next ⟨[],[]⟩)))))))))
 (.next ⟨[(3,vg)],[]⟩))
 (.exit 0 ⟨[(11,r3),(12,pN),(13,(pc o1 6)),(14,(.llen (pc o1 6))),(15,(aj r3 (.llen (pc o1 6))))],[]⟩))
def EV (b:Nat→PC):PT:=
 (.ite (aj r5 xM)
 (.blockS ⟨[],[]⟩ 3 [2,6,75,76,77,78,79,80,81,82,83,84,85,86,87,88,95,96,100] [6]
 (.chk (ar (pc o1 7) r5)
 (.call ⟨[],[(6,(.setc z3 0 (pn (pc o1 7) r5)))]⟩ [] 86 26 [(pc (.setc z3 0 (pn (pc o1 7) r5)) 0),(pi 0),(bK oF (pi 1))]
 (.call ⟨[(88,(.nt r86))],[]⟩ [(88,false)] 93 26 [(pc o6 1),(pi 0),(pc o6 2)]
 (.ite (.pick (.pick Kd pT (.nt Kf)) pT (aV (pc o6 2) (pi 100000)))
 (.ret (pi 1))
 (.next ⟨[],[]⟩)))))
 (.next ⟨[(5,AZ)],[]⟩))
 (.exit 2 ⟨[(68,r5),(69,pN),(70,(pc o1 7)),(71,xM),(72,(aj r5 xM))],[]⟩))
def Tr (b:Nat→PC):PT:=
 (.ite (aV (.llen (pc (.mk [r0]) 6)) (pi 100))
 (.ret (pi 6))
 (.brk ⟨[(3,(pi 0)),(2,(pi 0))],[(1,(.mk [r0]))]⟩
(amX b)
 (.ite (aV xM (pi 20))
 (.ret (pi 6))
 (.brk ⟨[(5,(pi 0))],[]⟩
(amY b)
 (.ret (pi 0))))))
def ahS (b:Nat→PC):PT×List (Shp×PT):=(Tr b,[(.lp 0 [2,3,11,12,13,14,15] [] [2,3] [],EU b),(.lp 2 [2,5,68,69,70,71,72] [] [2,5] [],EV b)])
theorem Jx:yT.map told=some (ahS (br yT)):=by kernel_rfl
theorem asC:tree (ae yT)=Tr B1:=bN Jx
theorem Ro:round 0 [2,3,11,12,13,14,15] [] [2,3] [] (B1 0)=EU B1:=bj Jx 0 fun _=>rfl
theorem Rp:round 2 [2,5,68,69,70,71,72] [] [2,5] [] (B1 1)=EV B1:=bj Jx 1 fun _=>rfl
def yV:Option PC:=cF [4,5,6,7,8,9,10] [] Tryz.f10 10 [2,3]
def sk:Nat→PC:=bx yV
def am1 (b:Nat→PC):PC:=.block 0 [5,6,45,46,47,48,49,50,53] [] (.loop [5,6] [] (b 0))
def am2 (b:Nat→PC):PC:=.block 2 [5,7,60,61,62,63,64,65,68] [] (.loop [5,7] [] (b 1))
def am3 (b:Nat→PC):PC:=.block 4 [5,9,101,102,103,104,105,106,109] [] (.loop [5,9] [] (b 2))
def am4 (b:Nat→PC):PC:=.block 6 [5,10,116,117,118,119,120,121,124] [] (.loop [5,10] [] (b 3))
def Kr (b:Nat→PC):PT:=
 (.ite (.pick (aj r6 qd) tz pF)
 (.blockS ⟨[],[]⟩ 1 [5,56,57,58,59] []
 (.call ⟨[],[]⟩ [] 59 25 [(ax 8 o2),(ax 19 o3),r6]
 (.next ⟨[(5,rA)],[]⟩))
 (.next ⟨[(6,(bu r6 (pi 1)))],[]⟩))
 (.exit 0 ⟨[(45,r6),(46,pN),(47,(pc o3 15)),(48,qd),(49,(aj r6 qd)),(50,(aj r6 qd)),(53,(.pick (aj r6 qd) tz pF))],[]⟩))
def Ks (b:Nat→PC):PT:=
 (.ite (.pick (aj r7 AW) tz pF)
 (.blockS ⟨[],[]⟩ 3 [5,8,71,72,81,82,83,84,85,86,87,88,89,90,91,92] []
 (.ite (aV r7 (pi 0))
 (.chk (ar (pc o3 16) (bK r7 (pi 1)))
 (.chk (ar (pc o3 16) r7)
 (.call ⟨[],[]⟩ [] 91 26 [(pc (pn (pc o3 16) r7) 0),(bu (pc (pn (pc o3 16) (bK r7 (pi 1))) 0) (pi 1)),qd]
 (.iteS ⟨[],[]⟩ (.nt Ke) [5] []
 (.next ⟨[(5,(pi 1))],[]⟩)
 (.chk (ar (pc o3 16) r7)
 (.call ⟨[],[]⟩ [] 99 26 [(pc (pn (pc o3 16) r7) 1),(pi 1),oD]
 (.next ⟨[(5,(.pick (.nt Kg) (pi 3) r5))],[]⟩)))
 (.next ⟨[],[]⟩)))))
 (.chk (ar (pc o3 16) r7)
 (.call ⟨[],[]⟩ [] 91 26 [(pc (pn (pc o3 16) r7) 0),(pi 1),qd]
 (.iteS ⟨[],[]⟩ (.nt Ke) [5] []
 (.next ⟨[(5,(pi 1))],[]⟩)
 (.chk (ar (pc o3 16) r7)
 (.call ⟨[],[]⟩ [] 99 26 [(pc (pn (pc o3 16) r7) 1),(pi 1),oD]
 (.next ⟨[(5,(.pick (.nt Kg) (pi 3) r5))],[]⟩)))
 (.next ⟨[],[]⟩)))))
 (.next ⟨[(7,(bu r7 (pi 1)))],[]⟩))
 (.exit 2 ⟨[(60,r7),(61,pN),(62,(pc o3 16)),(63,AW),(64,(aj r7 AW)),(65,(aj r7 AW)),(68,(.pick (aj r7 AW) tz pF))],[]⟩))
def Kt (b:Nat→PC):PT:=
 (.ite (.pick JS tz pF)
 (.blockS ⟨[],[]⟩ 5 [5,112,113,114,115] []
 (.call ⟨[],[]⟩ [] 115 27 [(ax 8 o2),(ax 19 o3),r9]
 (.next ⟨[(5,apQ)],[]⟩))
 (.next ⟨[(9,(bu r9 (pi 1)))],[]⟩))
 (.exit 4 ⟨[(101,r9),(102,pN),(103,(pc o3 17)),(104,(.llen (pc o3 17))),(105,JS),(106,JS),(109,(.pick JS tz pF))],[]⟩))
def Ku (b:Nat→PC):PT:=
 (.ite (.pick JQ tz pF)
 (.blockS ⟨[],[]⟩ 7 [5,127,128,129] []
 (.call ⟨[],[]⟩ [] 129 28 [(ax 19 o3),cM]
 (.next ⟨[(5,apT)],[]⟩))
 (.next ⟨[(10,(bu cM (pi 1)))],[]⟩))
 (.exit 6 ⟨[(116,cM),(117,pN),(118,(pc o3 18)),(119,(.llen (pc o3 18))),(120,JQ),(121,JQ),(124,(.pick JQ tz pF))],[]⟩))
def Tx (b:Nat→PC):PT:=
 (.ite ab2
 (.ret (pi 6))
 (.call ⟨[],[(3,(.mk [r1])),(2,(.mk [r0]))]⟩ [] 36 24 [jY,(ax 15 (.mk [r1]))]
 (.brk ⟨[(6,(pi 0)),(5,(.pick (.pick (af oI (pi 0)) (af qd (pi 0)) pF) (pi 14) oI))],[]⟩
(am1 b)
 (.brk ⟨[(7,(pi 0))],[]⟩
(am2 b)
 (.brk ⟨[(9,(pi 0))],[]⟩
(am3 b)
 (.brk ⟨[(10,(pi 0))],[]⟩
(am4 b)
 (.ret r5)))))))
def ahU (b:Nat→PC):PT×List (Shp×PT):=(Tx b,[(.lp 0 [5,6,45,46,47,48,49,50,53] [] [5,6] [],Kr b),(.lp 2 [5,7,60,61,62,63,64,65,68] [] [5,7] [],Ks b),(.lp 4 [5,9,101,102,103,104,105,106,109] [] [5,9] [],Kt b),(.lp 6 [5,10,116,117,118,119,120,121,124] [] [5,10] [],Ku b)])
theorem Ay:yV.map told=some (ahU (br yV)):=by kernel_rfl
theorem asJ:tree (ae yV)=Tx sk:=bN Ay
theorem acH:round 0 [5,6,45,46,47,48,49,50,53] [] [5,6] [] (sk 0)=Kr sk:=bj Ay 0 fun _=>rfl
theorem acI:round 2 [5,7,60,61,62,63,64,65,68] [] [5,7] [] (sk 1)=Ks sk:=bj Ay 1 fun _=>rfl
theorem acJ:round 4 [5,9,101,102,103,104,105,106,109] [] [5,9] [] (sk 2)=Kt sk:=bj Ay 2 fun _=>rfl
theorem acK:round 6 [5,10,116,117,118,119,120,121,124] [] [5,10] [] (sk 3)=Ku sk:=bj Ay 3 fun _=>rfl
def GY:Option PC:=cF [4,5,6,7,8,9] [] Tryz.f24 24 [2,3]
def Tt:PT:=
 (.call ⟨[],[(3,(.mk [r1])),(2,(.mk [r0]))]⟩ [] 11 22 [jY]
 (.ite (aR bF (pi 0))
 (.ret bF)
 (.call ⟨[(7,(.llen (pc o2 1))),(6,(.llen (pc o2 3)))],[]⟩ [] 24 57 [(pc o3 0),(.llen (pc o2 3))]
 (.call ⟨[(26,(.nt oG))],[]⟩ [(26,false)] 30 57 [(pc o3 1),r6]
 (.call ⟨[(33,(.pick jA pT (.nt oH)))],[]⟩ [(33,false)] 37 58 [(pc o3 2),r6]
 (.call ⟨[(40,(.pick A9 pT (.nt mD)))],[]⟩ [(40,false)] 44 58 [(pc o3 11),r6]
 (.call ⟨[(47,(.pick qj pT (.nt xO)))],[]⟩ [(47,false)] 53 57 [(pc o3 4),(.llen (pc o2 0))]
 (.call ⟨[(56,(.pick J8 pT (.nt QT)))],[]⟩ [(56,false)] 60 57 [(pc o3 9),r7]
 (.call ⟨[(63,(.pick ql pT (.nt tC)))],[]⟩ [(63,false)] 67 57 [(pc o3 10),r7]
 (.ite (.pick Ew pT (.nt rB))
 (.ret (pi 1))
 (.call ⟨[(78,(.pick (aj (pc o3 3) (pi 1)) pT (aV (pc o3 3) oD)))],[]⟩ [(78,false)] 81 59 [(pc o3 8)]
 (.ite (.pick (.pick (.pick Kc pT (.nt vj)) pT (aj (pc o3 12) (pi 0))) pT (aV (pc o3 12) (pi 1000)))
 (.ret (pi 3))
 (.ite (.pick (aj (pc o3 14) (pi 1)) pT (aV (pc o3 14) (pi 4)))
 (.ret (pi 15))
 (.call ⟨[(121,(.pick (.pick (aj (pc o3 13) (pi 0)) pT (aV (pc o3 13) (pi 7))) pT (.pick (af (pc o3 2) (pi (-1))) (aR (.ai .and .i64 (pc o3 13) (pi 4)) (pi 0)) pF)))],[]⟩ [(121,false)] 123 60 [(ax 15 o3)]
 (.ite (.pick acr pT (.nt apS))
 (.ret (pi 2))
 (.ite (aR (pc o3 5) (pi 4))
 (.ret (pi 0))
 (.call ⟨[],[]⟩ [] 136 61 [(ax 8 o2),(pc o3 9),(pc o3 10)]
 (.ret (.tget (.r 136) 1)))))))))))))))))))
theorem aaH:GY.map told=some (Tt,[]):=by kernel_rfl
theorem asE:tree (ae GY)=Tt:=ba aaH
def G0:Option PC:=cF [4] [] Tryz.f57 57 []
def Tv:PT:=
 (.ret J0)
theorem aaJ:G0.map told=some (Tv,[]):=by kernel_rfl
theorem asG:tree (ae G0)=Tv:=ba aaJ
def G1:Option PC:=cF [4] [] Tryz.f58 58 []
def K8:PT:=
 (.call ⟨[(7,(af r0 (pi (-1))))],[]⟩ [(7,false)] 10 57 [r0,r1]
 (.ret (.pick r7 pT cM)))
theorem aaK:G1.map told=some (K8,[]):=by kernel_rfl
theorem asH:tree (ae G1)=K8:=ba aaK
def GS:Option PC:=cF [2] [] Tryz.f59 59 []
def Tb:PT:=
 (.ret (.pick (cX r0 (pi 0)) (bU r0 (pi 100000)) pF))
theorem aaC:GS.map told=some (Tb,[]):=by kernel_rfl
theorem asn:tree (ae GS)=Tb:=ba aaC
def GZ:Option PC:=cF [2] [] Tryz.f60 60 [1,3]
def Tu:PT:=
 (.ite (.pick (af (pc gy 0) (pi 0)) pT (af (pc gy 0) (pi 4)))
 (.ret (.pick (af (pc gy 1) (pi 0)) JV pF))
 (.ite (.pick (af (pc gy 0) (pi 1)) pT (af (pc gy 0) (pi 2)))
 (.ret ab7)
 (.ret (.pick (.pick (.pick (af (pc gy 0) (pi 3)) (cX (pc gy 1) (pc (.mk [r0]) 8)) pF) (bU (pc gy 1) (pi 100000)) pF) JV pF))))
theorem aaI:GZ.map told=some (Tu,[]):=by kernel_rfl
theorem asF:tree (ae GZ)=Tu:=ba aaI
def yP:Option PC:=cF [6,7,8] [] Tryz.f61 61 [3]
def L7:Nat→PC:=bx yP
def amR (b:Nat→PC):PC:=.block 0 [6,7,8,9,10,11,12,13] [] (.loop [6,7,8] [] (b 0))
def EN (b:Nat→PC):PT:=
 (.ite (aj r8 (.llen (pc o3 5)))
 (.chk (ar (pc o3 5) r8)
 (.chk (.nt (.an (.an (af (pc (pn (pc o3 5) r8) 0) r1) pT) (.nt (ar (pc o3 5) r8))))
 (.ite (.pick (af (pc (pn (pc o3 5) r8) 0) r1) (af (pc (pn (pc o3 5) r8) 1) r2) pF)
 (.ret (.tup [(pc (pn (pc o3 5) r8) 2),(pi 0)]))
 (.next ⟨[(8,rn)],[]⟩))))
 (.exit 0 ⟨[(9,r8),(10,pN),(11,(pc o3 5)),(12,(.llen (pc o3 5))),(13,(aj r8 (.llen (pc o3 5))))],[]⟩))
def Tk (b:Nat→PC):PT:=
 (.brk ⟨[(8,(pi 0)),(7,(pi 0)),(6,(pi 0))],[(3,(.mk [r0]))]⟩
(amR b)
 (.ret (.tup [(pi 0),(pi 4)])))
def ahO (b:Nat→PC):PT×List (Shp×PT):=(Tk b,[(.lp 0 [6,7,8,9,10,11,12,13] [] [6,7,8] [],EN b)])
theorem PU:yP.map told=some (ahO (br yP)):=by kernel_rfl
theorem asw:tree (ae yP)=Tk L7:=bN PU
theorem Rh:round 0 [6,7,8,9,10,11,12,13] [] [6,7,8] [] (L7 0)=EN L7:=bj PU 0 fun _=>rfl
def yW:Option PC:=cF [6,8] [] Tryz.f25 25 [3,4,7]
def B3:Nat→PC:=bx yW
def Jd (b:Nat→PC):PC:=.block 0 [6,8,72,73,74,75,79] [] (.loop [6,8] [] (b 0))
def Bh (b:Nat→PC):PT:=
 (.ite (.pick (aj r8 r2) (af (pc o7 0) (pi 1)) pF)
 (.chk (ar (pc o4 15) r8)
 (.chk (.nt (.an (.an (af (pc (pn (pc o4 15) r8) 0) (pi 1)) pT) (.nt (ar (pc o4 15) r8))))
 (.ite (.pick (af (pc (pn (pc o4 15) r8) 0) (pi 1)) (af (pc (pn (pc o4 15) r8) 1) (pc o7 1)) pF)
 (.ret (pi 5))
 (.next ⟨[(8,rn)],[]⟩))))
 (.exit 0 ⟨[(72,r8),(73,r2),(74,(aj r8 r2)),(75,(aj r8 r2)),(79,(.pick (aj r8 r2) (af (pc o7 0) (pi 1)) pF))],[]⟩))
def TD (b:Nat→PC):PT:=
 (.chk JT
 (.call ⟨[(6,(pi 0))],[(7,kY),(4,(.mk [r1])),(3,(.mk [r0]))]⟩ [] 20 26 [(pc kY 1),(pi 0),(bK (pc (.mk [r1]) 14) (pi 1))]
 (.ite (.nt eP)
 (.ret (pi 15))
 (.call ⟨[],[]⟩ [] 28 26 [(pc o7 2),(pi 0),xH]
 (.call ⟨[(30,(.nt qh))],[]⟩ [(30,false)] 37 26 [(pc o7 7),(pi 0),(bK (.llen (pc o3 1)) (pi 1))]
 (.ite (.pick oH pT (.nt mD))
 (.ret (pi 1))
 (.ite (.pick (.pick (af r2 (pi 0)) (aR (pc o7 6) (pc o4 8)) pF) pT (aV (pc o7 6) (pi 100000)))
 (.ret (pi 13))
 (.ite (aV r2 (pi 0))
 (.chk (ar (pc o4 15) xF)
 (.ite (aj (pc o7 6) (pc (pn (pc o4 15) xF) 6))
 (.ret (pi 13))
 (.call ⟨[],[]⟩ [] 70 62 [(ax 8 o3),(ax 19 o4),r2]
 (.ite (.nt QU)
 (.ret (pi 14))
 (.brk ⟨[(8,(pi 0))],[]⟩
(Jd b)
 (.ret (pi 0)))))))
 (.call ⟨[],[]⟩ [] 70 62 [(ax 8 o3),(ax 19 o4),r2]
 (.ite (.nt QU)
 (.ret (pi 14))
 (.brk ⟨[(8,(pi 0))],[]⟩
(Jd b)
 (.ret (pi 0)))))))))))))
def ahV (b:Nat→PC):PT×List (Shp×PT):=(TD b,[(.lp 0 [6,8,72,73,74,75,79] [] [6,8] [],Bh b)])
theorem PW:yW.map told=some (ahV (br yW)):=by kernel_rfl
theorem asP:tree (ae yW)=TD B3:=bN PW
theorem Kv:round 0 [6,8,72,73,74,75,79] [] [6,8] [] (B3 0)=Bh B3:=bj PW 0 fun _=>rfl
def G3:Option PC:=cF [6,8,21,71,101,9,10,146,179] [] Tryz.f62 62 [3,4,7]
def Tz:PT:=
 (.chk JT
 (.call ⟨[],[(7,kY),(4,(.mk [r1])),(3,(.mk [r0]))]⟩ [] 18 26 [(pc kY 5),(pi 1),oD]
 (.blockS ⟨[(20,(pc o7 0)),(8,kz)],[]⟩ 0 [6,21,22,71,72,101,102,146,147,179,180] []
 (.iteS ⟨[],[]⟩ (af eP (pi 0)) [6,71,72,101,102,146,147,179,180] []
 (.ret (.pick (.pick (.pick (.pick (.pick (.pick (.pick (af r2 (pi 0)) (af (pc o7 2) (pc o4 0)) pF) (af (pc o7 3) (pi (-1))) pF) (af (pc o7 4) (pi (-1))) pF) (af (pc o7 5) (pi 0)) pF) (.pick (af (pc o7 8) (pi 0)) pT (af (pc o7 8) (pi 1))) pF) (af (pc o7 1) (pi 0)) pF) (af (pc o7 7) (pc o4 9)) pF))
 (.iteS ⟨[],[]⟩ (af eP (pi 1)) [6,101,102,146,147,179,180] []
 (.ret (.pick (.pick (.pick (.pick (.pick (aV r2 (pi 0)) (af (pc o7 2) (pc o4 1)) pF) (af (pc o7 3) (pi (-1))) pF) (af (pc o7 4) (pi (-1))) pF) r8 pF) (af (pc o7 8) (pi 0)) pF))
 (.iteS ⟨[],[]⟩ (af eP (pi 2)) [6,146,147,179,180] []
 (.chk (aR (pi 2) (pi 0))
 (.chk (aR (pi 4) (pi 0))
 (.call ⟨[(120,(.pick (aV r2 (pi 0)) (af (pc o7 3) (pi (-1))) pF)),(10,(af (.ai .rem .i64 (.ai .quo .i64 (pc o7 8) (pi 4)) (pi 2)) (pi 1))),(9,(af (.ai .rem .i64 (.ai .quo .i64 (pc o7 8) (pi 2)) (pi 2)) (pi 1)))],[]⟩ [(120,true)] 127 26 [(pc o7 4),(pi (-1)),xH]
 (.call ⟨[(134,(.pick (.pick apR acs pF) (af (pc o7 5) (pi 0)) pF))],[]⟩ [(134,true)] 137 26 [(pc o7 8),(pi 0),(pi 7)]
 (.ret (.pick (.pick (.r 134) (.r 137) pF) (.nt (.pick r9 cM pF)) pF))))))
 (.iteS ⟨[],[]⟩ (af eP (pi 3)) [6,179,180] []
 (.call ⟨[(165,(.pick (.pick (.pick (af r2 (pi 0)) pT (aR (pc o7 4) (pi (-1)))) pT (aR (pc o7 5) (pi 0))) pT (aR (pc o7 8) (pi 0))))],[]⟩ [(165,false)] 168 81 [(ax 19 o4),r2]
 (.ite (.pick (.r 165) pT (.nt (.r 168)))
 (.ret pF)
 (.chk (ar (pc o4 15) (pc o7 3))
 (.ret (aR J2 (pi 3))))))
 (.iteS ⟨[],[]⟩ (af eP (pi 4)) [6] []
 (.call ⟨[(205,(.pick (.pick (.pick (.pick (af r2 (pi 0)) pT (aR (pc o7 4) (pi (-1)))) pT (.nt r8)) pT (aR (pc o7 8) (pi 0))) pT (af (pc o7 2) (pc o4 1))))],[]⟩ [(205,false)] 208 81 [(ax 19 o4),r2]
 (.ite (.pick (.r 205) pT (.nt (.r 208)))
 (.ret pF)
 (.chk (ar (pc o4 15) (pc o7 3))
 (.chk (.nt (.an (.an (.nt (af J2 (pi 0))) pT) (.nt (ar (pc o4 15) (pc o7 3)))))
 (.ret (.pick (af J2 (pi 0)) pT (af J2 (pi 2))))))))
 (.next ⟨[],[]⟩)
 (.next ⟨[],[]⟩))
 (.next ⟨[],[]⟩))
 (.next ⟨[],[]⟩))
 (.next ⟨[],[]⟩))
 (.next ⟨[],[]⟩))
 (.ret pF))))
theorem aaM:G3.map told=some (Tz,[]):=by kernel_rfl
theorem asK:tree (ae G3)=Tz:=ba aaM
def G6:Option PC:=cF [4,5] [] Tryz.f81 81 [2]
def TB:PT:=
 (.chk (ar mz r1)
 (.call ⟨[(5,(pc (pn mz r1) 3))],[(2,(.mk [r0]))]⟩ [] 15 26 [(pc (pn mz r1) 3),(pi 0),(bK r1 (pi 1))]
 (.chk (.nt (.an (.an kZ pT) (.nt (ar (pc o2 15) r1))))
 (.call ⟨[(16,kZ)],[]⟩ [(16,true)] 25 82 [(ax 19 o2),r5,(pc (pn (pc o2 15) r1) 1)]
 (.ret (.pick dh iX pF))))))
theorem aaP:G6.map told=some (TB,[]):=by kernel_rfl
theorem asN:tree (ae G6)=TB:=ba aaP
def G4:Option PC:=cF [6] [] Tryz.f82 82 [3]
def K9:PT:=
 (.chk (.nt (.an (.an (.nt (af r1 (pi 0))) pT) (.nt (ar mz r1))))
 (.ret (.pick (af r1 (pi 0)) pT (af (pc (pn mz r1) 1) r2))))
theorem aaN:G4.map told=some (K9,[]):=by kernel_rfl
theorem asL:tree (ae G4)=K9:=ba aaN
def G5:Option PC:=cF [6] [] Tryz.f27 27 [3,4,7]
def TA:PT:=
 (.chk (ar (pc (.mk [r1]) 17) r2)
 (.call ⟨[],[(7,(.setc z9 0 (pn (pc (.mk [r1]) 17) r2))),(4,(.mk [r1])),(3,(.mk [r0]))]⟩ [] 19 26 [(pc (.setc z9 0 (pn (pc (.mk [r1]) 17) r2)) 3),(pi 0),(bK (pc (.mk [r1]) 14) (pi 1))]
 (.ite (.nt jz)
 (.ret (pi 15))
 (.call ⟨[],[]⟩ [] 27 26 [(pc o7 7),(pi 0),(bK (.llen (pc o3 1)) (pi 1))]
 (.call ⟨[(29,(.nt fP))],[]⟩ [(29,false)] 32 26 [(pc o7 0),(pi 0),(pi 9)]
 (.ite (.pick mC pT (.nt A8))
 (.ret (pi 1))
 (.call ⟨[],[]⟩ [] 38 63 [(ax 8 o3),(ax 19 o4),(ax 9 o7)]
 (.ite (.nt fQ)
 (.ret (pi 14))
 (.ite (.pick (aj (pc o7 6) (pc o4 8)) pT (aV (pc o7 6) (pi 100000)))
 (.ret (pi 13))
 (.ite (cX (pc o7 4) (pi 0))
 (.chk (ar (pc o4 15) (pc o7 4))
 (.ite (aj (pc o7 6) (pc (pn (pc o4 15) (pc o7 4)) 6))
 (.ret (pi 13))
 (.ite (aV r2 (pi 0))
 (.chk (ar (pc o4 17) xF)
 (.ite (aj (pc o7 6) (pc (pn (pc o4 17) xF) 6))
 (.ret (pi 13))
 (.ret (pi 0))))
 (.ret (pi 0)))))
 (.ite (aV r2 (pi 0))
 (.chk (ar (pc o4 17) xF)
 (.ite (aj (pc o7 6) (pc (pn (pc o4 17) xF) 6))
 (.ret (pi 13))
 (.ret (pi 0))))
 (.ret (pi 0)))))))))))))
theorem aaO:G5.map told=some (TA,[]):=by kernel_rfl
theorem asM:tree (ae G5)=TA:=ba aaO
def G2:Option PC:=cF [6,7,8,9,10,56,76,93,114,133,151] [] Tryz.f63 63 [3,4,5]
def Tw:PT:=
 (.call ⟨[],[(5,(.mk [r2])),(4,(.mk [r1])),(3,(.mk [r0]))]⟩ [] 17 26 [(pc (.mk [r2]) 1),(pi 0),(bK (.llen (pc (.mk [r0]) 3)) (pi 1))]
 (.ite (.nt qg)
 (.ret pF)
 (.call ⟨[],[]⟩ [] 25 26 [(pc o5 2),(pi 0),xH]
 (.call ⟨[(7,iX)],[]⟩ [] 28 26 [(pc o5 5),(pi 0),oD]
 (.call ⟨[(8,qh)],[]⟩ [] 35 26 [(pc o5 4),(pi 0),(bK (.llen (pc o4 15)) (pi 1))]
 (.iteS ⟨[(9,Ba)],[]⟩ Ba [9] []
 (.call ⟨[],[]⟩ [] 42 82 [(ax 19 o4),(pc o5 4),(pc o5 3)]
 (.next ⟨[(9,ru)],[]⟩))
 (.next ⟨[],[]⟩)
 (.ite r9
 (.chk (ar (pc o4 15) (pc o5 4))
 (.ite ab9
 (.ret (.pick (.pick Ep tw pF) qa pF))
 (.ite abQ
 (.ret (.pick (.pick Ep r8 pF) qa pF))
 (.ite (af (pc o5 0) (pi 4))
 (.ret abU)
 (.ite (af (pc o5 0) (pi 6))
 (.ret (.pick (.pick (.pick (.pick r7 QN pF) r8 pF) (aV (pc o5 5) (pi 0)) pF) qa pF))
 (.ite (af (pc o5 0) (pi 9))
 (.ret (.pick (.pick (.pick A5 QN pF) tw pF) qa pF))
 (.ite abP
 (.ret (.pick (.pick (.pick A5 r9 pF) tw pF) qa pF))
 (.ret pF))))))))
 (.ite ab9
 (.ret (.pick (.pick Ep tw pF) qa pF))
 (.ite abQ
 (.ret (.pick (.pick Ep r8 pF) qa pF))
 (.ite (af (pc o5 0) (pi 4))
 (.ret abU)
 (.ite (af (pc o5 0) (pi 6))
 (.ret (.pick (.pick (.pick (.pick r7 pF pF) r8 pF) (aV (pc o5 5) (pi 0)) pF) qa pF))
 (.ite (af (pc o5 0) (pi 9))
 (.ret (.pick (.pick (.pick A5 pF pF) tw pF) qa pF))
 (.ite abP
 (.ret (.pick (.pick (.pick A5 r9 pF) tw pF) qa pF))
 (.ret pF))))))))))))))
theorem aaL:G2.map told=some (Tw,[]):=by kernel_rfl
theorem asI:tree (ae G2)=Tw:=ba aaL
def G7:Option PC:=cF [4] [] Tryz.f28 28 [2,5,6]
def TC:PT:=
 (.chk (ar ve r1)
 (.call ⟨[],[(5,(.setc z3 0 (pn ve r1))),(2,(.mk [r0]))]⟩ [] 14 26 [(pc (.setc z3 0 (pn ve r1)) 0),(pi 0),(pi 4)]
 (.call ⟨[(16,(.nt cj))],[]⟩ [(16,false)] 23 26 [(pc o5 1),(pi 0),(bK (.llen (pc o2 15)) (pi 1))]
 (.call ⟨[(26,(.pick dh pT (.nt mB)))],[]⟩ [(26,false)] 29 26 [(pc o5 2),(pi 0),(pi 1)]
 (.ite (.pick jA pT (.nt mC))
 (.ret (pi 1))
 (.ite (aV r1 (pi 0))
 (.chk (ar (pc o2 18) (bK r1 (pi 1)))
 (.ite (.pick (aV (pc QP 1) (pc o5 1)) pT (.pick (af (pc QP 1) (pc o5 1)) (cX (pc QP 0) (pc o5 0)) pF))
 (.ret (pi 5))
 (.ret (pi 0))))
 (.ret (pi 0))))))))
theorem aaQ:G7.map told=some (TC,[]):=by kernel_rfl
theorem asO:tree (ae G7)=TC:=ba aaQ
def G8:Option PC:=cF [4] [] Tryz.f11 11 [2,3]
def TE:PT:=
 (.call ⟨[],[(3,(.mk [r1])),(2,(.mk [r0]))]⟩ [] 9 15 [mA,(pc (.mk [r1]) 0)]
 (.call ⟨[(38,(.pick (.pick (.pick (.pick r9 (af (pc o2 1) (pc o3 1)) pF) (af (pc o2 2) (pc o3 2)) pF) (.cb .eql (pc o2 3) (pc o3 3)) pF) (af (pc o2 4) (pc o3 4)) pF))],[]⟩ [(38,true)] 43 15 [(pc o2 5),(pc o3 5)]
 (.ret (.pick fQ rv pF))))
theorem aaR:G8.map told=some (TE,[]):=by kernel_rfl
theorem asR:tree (ae G8)=TE:=ba aaR
def yX:Option PC:=cF [4,5] [] Tryz.f15 15 []
def L9:Nat→PC:=bx yX
def am5 (b:Nat→PC):PC:=.block 0 [4,5,11,12,13,14] [] (.loop [4,5] [] (b 0))
def Kw (b:Nat→PC):PT:=
 (.ite (aj r5 (.llen r0))
 (.chk (ar r0 r5)
 (.chk (ar r1 r5)
 (.ite (aR (pn r0 r5) (pn r1 r5))
 (.ret pF)
 (.next ⟨[(5,AZ)],[]⟩))))
 (.exit 0 ⟨[(11,r5),(12,r0),(13,(.llen r0)),(14,(aj r5 (.llen r0)))],[]⟩))
def TF (b:Nat→PC):PT:=
 (.ite (aR (.llen r0) (.llen r1))
 (.ret pF)
 (.brk ⟨[(5,(pi 0)),(4,pF)],[]⟩
(am5 b)
 (.ret pT)))
def ahW (b:Nat→PC):PT×List (Shp×PT):=(TF b,[(.lp 0 [4,5,11,12,13,14] [] [4,5] [],Kw b)])
theorem PX:yX.map told=some (ahW (br yX)):=by kernel_rfl
theorem asQ:tree (ae yX)=TF L9:=bN PX
theorem acL:round 0 [4,5,11,12,13,14] [] [4,5] [] (L9 0)=Kw L9:=bj PX 0 fun _=>rfl
def Gs:Option PC:=lZ {ctx with fr:=[6],nh:=[]} Tryz.f102 ⟨[Y8,I,qz],.slice I,.dat⟩ [3,5,7,8,42,9]
def Sw:PT:=
 (.chk (ar (pc (.mk [r2]) 15) (pc (.mk [r2]) 19))
 (.ite ab5
 (.ret pL)
 (.chk (.an (cX (pi 5) (pi 0)) (bU (pi 5) cL))
 (.chk (af (pi 5) (pi 5))
 (.chk (ar (.rep (pi 5) (pi 0)) (pi 0))
 (.call ⟨[],[(9,(.setn (.rep (pi 5) (pi 0)) (pi 0) 0 r1)),(8,(.setc FQ 0 (ax 15 (.mk [r2])))),(7,A1),(3,(.mk [r0]))]⟩ [] 50 128 [jY,(pc A1 7)]
 (.chk (ar o9 (pi 1))
 (.call ⟨[],[(9,(.setn o9 (pi 1) 0 mF))]⟩ [] 56 128 [(ax 8 o3),(pc o8 10)]
 (.chk (ar o9 (pi 2))
 (.call ⟨[],[(9,(.setn o9 (pi 2) 0 ql))]⟩ [] 62 128 [(ax 8 o3),(pc o8 9)]
 (.chk (ar o9 (pi 3))
 (.chk (ar (pc o3 3) (pc o7 2))
 (.call ⟨[],[(9,(.setn o9 (pi 3) 0 nw))]⟩ [] 73 128 [(ax 8 o3),(pc (pn (pc o3 3) (pc o7 2)) 1)]
 (.chk (ar o9 (pi 4))
 (.call ⟨[],[(9,(.setn o9 (pi 4) 0 Ex))]⟩ [] 76 23 [(.setn o9 (pi 4) 0 Ex),(pi (-1))]
 (.ite vh
 (.ret pL)
 (.ret o9)))))))))))))))))
theorem aac:Gs.map told=some (Sw,[]):=by kernel_rfl
theorem arJ:tree (ae Gs)=Sw:=ba aac
def Gt:Option PC:=lZ {ctx with fr:=[6],nh:=[]} Tryz.f102 ⟨[Y8,I,qz],.nils .bool,.dat⟩ [3,5,7,8,42,9]
def K6:PT:=
 (.chk (ar (pc (.mk [r2]) 15) (pc (.mk [r2]) 19))
 (.ite ab5
 (.ret pL)
 (.chk (.an (cX (pi 5) (pi 0)) (bU (pi 5) cL))
 (.chk (af (pi 5) (pi 5))
 (.chk (ar (.rep (pi 5) (pi 0)) (pi 0))
 (.call ⟨[],[(9,(.setn (.rep (pi 5) (pi 0)) (pi 0) 0 r1)),(8,(.setc FQ 0 (ax 15 (.mk [r2])))),(7,A1),(3,(.mk [r0]))]⟩ [] 50 128 [jY,(pc A1 7)]
 (.chk (ar o9 (pi 1))
 (.call ⟨[],[(9,(.setn o9 (pi 1) 0 mF))]⟩ [] 56 128 [(ax 8 o3),(pc o8 10)]
 (.chk (ar o9 (pi 2))
 (.call ⟨[],[(9,(.setn o9 (pi 2) 0 ql))]⟩ [] 62 128 [(ax 8 o3),(pc o8 9)]
 (.chk (ar o9 (pi 3))
 (.chk (ar (pc o3 3) (pc o7 2))
 (.call ⟨[],[(9,(.setn o9 (pi 3) 0 nw))]⟩ [] 73 128 [(ax 8 o3),(pc (pn (pc o3 3) (pc o7 2)) 1)]
 (.chk (ar o9 (pi 4))
 (.call ⟨[],[]⟩ [] 76 23 [(.setn o9 (pi 4) 0 Ex),(pi (-1))]
 (.ite vh
 (.ret pL)
 (.chk pF
 (.next ⟨[],[]⟩))))))))))))))))))
theorem aad:Gt.map told=some (K6,[]):=by kernel_rfl
theorem arK:tree (ae Gt)=K6:=ba aad
end Rm
namespace Rm
open Go Go.Proofs Cx
def Qq:List Nat:=[3,7,20,16,17,36,66,85,106,107,135,151,152,165,108,109,110,111,136,112,113,114,115,116,86,87,88,67,68,89,117,118,23,56,69,90,70,92,119,91,37,38,39,40,41,42,43,71,44,45,35,65,83,100,13,32,127,141,140,156,128,142,143,101,103,129,145,144,157,130,84,104,132,131,133,146,147,158,162,160,159,105,134,148,161,149,163,171,173,150,34,12,29,30,33,31,9,14,8,21,48,49,50,77,96,22,51,78,97,126,98,79,26,99,52,53,80,54,55,10,24,57,58,59,60,61,25,62,81,82,27,63,28,11,15]
def AS:List (Nat×PC):=[(3,(ae yB)),(7,(ae GA)),(20,(ae Cg)),(16,(ae yE)),(17,(ae yD)),(36,(ae we)),(66,(ae Ch)),(85,(ae y1)),(106,(ae y6)),(107,(ae y4)),(135,(ae Hh)),(151,(ae y5)),(152,(ae Hp)),(165,(ae zk)),(108,(ae Hb)),(109,(ae Hc)),(110,(ae y3)),(111,(ae Hg)),(136,(ae y9)),(112,(ae Hd)),(113,(ae He)),(114,(ae y7)),(115,(ae za)),(116,(ae y8)),(86,(ae HE)),(87,(ae HF)),(88,(ae y2)),(67,(ae yI)),(68,(ae GQ)),(89,(ae GP)),(117,(ae GO)),(118,(ae GR)),(23,(ae Ho)),(56,(ae zj)),(69,(ae yG)),(90,(ae GN)),(70,(ae yH)),(92,(ae Gv)),(119,(ae Gw)),(91,(ae yy)),(37,(ae GB)),(38,(ae GI)),(39,(ae GC)),(40,(ae GD)),(41,(ae GF)),(42,(ae GG)),(43,(ae Hm)),(71,(ae zg)),(44,(ae GH)),(45,(ae yF)),(35,(ae Gn)),(65,(ae Gm)),(83,(ae Gq)),(100,(ae Gr)),(13,(ae zb)),(32,(ae Hk)),(127,(ae zd)),(141,(ae Hi)),(140,(ae Hl)),(156,(ae zf)),(128,(ae Hf)),(142,(ae Hj)),(143,(ae zc)),(101,(ae GK)),(103,(ae yz)),(129,(ae Gx)),(145,(ae Gy)),(144,(ae Hn)),(157,(ae zi)),(130,(ae yA)),(84,(ae GJ)),(104,(ae GL)),(132,(ae GM)),(131,(ae zh)),(133,(ae Hq)),(146,(ae wh)),(147,(ae zl)),(158,(ae Hw)),(162,(ae Hv)),(160,(ae Hs)),(159,(ae Hz)),(105,(ae Hr)),(134,(ae zm)),(148,(ae Hx)),(161,(ae HA)),(149,(ae Hu)),(163,(ae Ht)),(171,(ae Hy)),(173,(ae Gu)),(150,(ae ze)),(34,(ae Gp)),(12,(ae zn)),(29,(ae zo)),(30,(ae HC)),(33,(ae zp)),(31,(ae HD)),(9,(ae yC)),(14,(ae HB)),(8,(ae Gz)),(21,(ae yZ)),(48,(ae yK)),(49,(ae G9)),(50,(ae yY)),(77,(ae Ha)),(96,(ae wg)),(22,(ae GU)),(51,(ae yQ)),(78,(ae GX)),(97,(ae yL)),(126,(ae GV)),(98,(ae yJ)),(79,(ae yM)),(26,(ae GW)),(99,(ae yO)),(52,(ae yR)),(53,(ae yS)),(80,(ae yN)),(54,(ae yU)),(55,(ae yT)),(10,(ae yV)),(24,(ae GY)),(57,(ae G0)),(58,(ae G1)),(59,(ae GS)),(60,(ae GZ)),(61,(ae yP)),(25,(ae yW)),(62,(ae G3)),(81,(ae G6)),(82,(ae G4)),(27,(ae G5)),(63,(ae G2)),(28,(ae G7)),(11,(ae G8)),(15,(ae yX))]
def tab:Nat→Option PC:=bH AS
theorem abF:AS.map (·.1)=Qq:=by kernel_rfl
theorem apj:(AS.map (·.1)).Nodup:=by rw[abF];exact ml (by kernel_rfl)
theorem lA (k:Nat){f:Nat}{x:PC}(h:AS[k]?=some (f,x)):tab f=some x:=Zq apj h
theorem aeS:tab 20=some (ae Cg):=lA 2 (by kernel_rfl)
theorem aeT:tab 36=some (ae we):=lA 5 (by kernel_rfl)
theorem aeU:tab 66=some (ae Ch):=lA 6 (by kernel_rfl)
theorem VO:tab 146=some (ae wh):=lA 75 (by kernel_rfl)
theorem VM:tab 96=some (ae wg):=lA 104 (by kernel_rfl)
theorem caps:∀f cs,bH Mz f=some cs→(mf cs.args cs.res=none→bH vy f=some ⟨cs.args++cs.caps,cs.res,.dat⟩)∧∀ys,mf cs.args cs.res=some ys→fo Qq f=false∧FI Tryz.prog f=true:=V1 (l:=Mz) (sig:=vy) (P:=Tryz.prog) (pcs:=Qq) (by kernel_rfl)
theorem clos:dx ctx:=⟨(fun f cs h=>(caps f cs h).1),fun f s h=>adL (l:=vy) (P:=Tryz.prog) (by kernel_rfl) f s h⟩
theorem its:∀f cs ys,ctx.cap f=some cs→mf cs.args cs.res=some ys→tab f=none∧∃fn,ctx.P.funcs[f]?=some fn∧fn.body.isSome=true∧(fn.name== "runtime.NumGoroutine")=false:=fun f cs ys h hi=>⟨Zh (l:=AS) (by rw[abF];exact((caps f cs h).2 ys hi).1),arA ((caps f cs h).2 ys hi).2⟩
theorem arp:∀f pc,tab f=some pc→∃fn s ids fr nh,ctx.P.funcs[f]?=some fn∧ctx.sig f=some s∧lZ {ctx with fr:=fr,nh:=nh} fn s ids=some pc:=
 Pn (R:=fun f pc=>∃fn s ids fr nh,ctx.P.funcs[f]?=some fn∧ctx.sig f=some s∧lZ {ctx with fr:=fr,nh:=nh} fn s ids=some pc) (l:=AS)
  (aF (aG [5,7,8,12,15,17] [10,11,13,14,16] [] Tryz.func3 rfl (aC yB Jr))
  (aF (aG [1,2,3,24579,5] [0,4,6,8,9,10,1000003] [] Tryz.func7 rfl (aC GA aal))
  (aF (aG [0,1,2,24578,3,12291,4,24580,28676,32772,5,65541,69637,73733,77829] [] [] Tryz.func20 rfl (aC Cg aaj))
  (aF (aG [5,7,8,12,15] [10,11,13] [] Tryz.func16 rfl (aC yE PJ))
  (aF (aG [3,4,5,8,28,10] [6,7] [] Tryz.func17 rfl (aC yD PH))
  (aF (aG [2,3,10] [4,5,6,7,8,11] [] Tryz.func36 rfl (aC we Js))
  (aF (aG [2,3] [4,5,6,7,8,54,80,109,118,9,10] [] Tryz.func66 rfl (aC Ch abn))
  (aF (aG [1,9] [2,3,4,5,6,7,10,11,12] [] Tryz.func85 rfl (aC y1 P1))
  (aF (aG [1,2,3,4,6,16390,20486,24582,21,8,34,10,12298,16394,47] [] [] Tryz.func106 rfl (aC y6 Ea))
  (aF (aG [] [6,7,8] [] Tryz.func107 rfl (aC y4 P4))
  (aF (aG [] [4] [] Tryz.func135 rfl (aC Hh aa0))
  (aF (aG [] [2,3,4,5] [] Tryz.func151 rfl (aC y5 P5))
  (aF (aG [] [4] [] Tryz.func152 rfl (aC Hp aa8))
  (aF (aG [] [4,5] [] Tryz.func165 rfl (aC zk Qd))
  (aF (aG [] [2] [] Tryz.func108 rfl (aC Hb aaU))
  (aF (aG [] [3] [] Tryz.func109 rfl (aC Hc aaV))
  (aF (aG [2,3] [4,6] [] Tryz.func110 rfl (aC y3 P3))
  (aF (aG [] [4] [] Tryz.func111 rfl (aC Hg aaZ))
  (aF (aG [] [6,7,8] [] Tryz.func136 rfl (aC y9 P6))
  (aF (aG [] [3] [] Tryz.func112 rfl (aC Hd aaW))
  (aF (aG [] [3] [] Tryz.func113 rfl (aC He aaX))
  (aF (aG [1,3,4,6,19,8,16392,36] [2] [] Tryz.func114 rfl (aC y7 Jz))
  (aF (aG [1,4,6] [2,3] [] Tryz.func115 rfl (aC za JB))
  (aF (aG [1,4,6] [2] [] Tryz.func116 rfl (aC y8 JA))
  (aF (aG [] [4] [] Tryz.func86 rfl (aC HE abo))
  (aF (aG [1,3] [2,8,19,40] [] Tryz.func87 rfl (aC HF abp))
  (aF (aG [3,9] [6,7] [] Tryz.func88 rfl (aC y2 P2))
  (aF (aG [3,4,7,11] [6,8,9,76,92,98] [] Tryz.func67 rfl (aC yI PN))
  (aF (aG [] [6] [] Tryz.func68 rfl (aC GQ aaA))
  (aF (aG [3,4,7,8] [6,9,10,66,103,113,11,140,149] [] Tryz.func89 rfl (aC GP aaz))
  (aF (aG [3] [6,7] [] Tryz.func117 rfl (aC GO aay))
  (aF (aG [3] [6] [] Tryz.func118 rfl (aC GR aaB))
  (aF (aG [] [4] [] Tryz.func23 rfl (aC Ho aa7))
  (aF (aG [] [4,5] [] Tryz.func56 rfl (aC zj Qc))
  (aF (aG [2,3,6] [4,5,7] [] Tryz.func69 rfl (aC yG PL))
  (aF (aG [3,4,5] [6,7,8,9,65,80,100,111] [] Tryz.func90 rfl (aC GN aax))
  (aF (aG [1,4,5] [2,3] [] Tryz.func70 rfl (aC yH PM))
  (aF (aG [] [4,5,6] [] Tryz.func92 rfl (aC Gv aaf))
  (aF (aG [] [2] [] Tryz.func119 rfl (aC Gw aag))
  (aF (aG [] [2,3,5] [] Tryz.func91 rfl (aC yy PB))
  (aF (aG [2] [3] [] Tryz.func37 rfl (aC GB aam))
  (aF (aG [2] [4] [] Tryz.func38 rfl (aC GI aas))
  (aF (aG [] [2] [] Tryz.func39 rfl (aC GC aan))
  (aF (aG [] [2] [] Tryz.func40 rfl (aC GD aao))
  (aF (aG [] [1] [] Tryz.func41 rfl (aC GF aap))
  (aF (aG [] [2] [] Tryz.func42 rfl (aC GG aaq))
  (aF (aG [] [4] [] Tryz.func43 rfl (aC Hm aa5))
  (aF (aG [] [4,5] [] Tryz.func71 rfl (aC zg P9))
  (aF (aG [] [2] [] Tryz.func44 rfl (aC GH aar))
  (aF (aG [2,3,7] [4,5] [] Tryz.func45 rfl (aC yF PK))
  (aF (aG [5,8,77832,10] [] [] Tryz.func35 rfl (aC Gn Z8))
  (aF (aG [4,7,8,9] [10] [] Tryz.func65 rfl (aC Gm Z7))
  (aF (aG [4,7,8,10,16394] [9,11,12,13,14] [] Tryz.func83 rfl (aC Gq aaa))
  (aF (aG [2,3,4] [5] [] Tryz.func100 rfl (aC Gr aab))
  (aF (aG [2,4,65540,69636,73732,77828,5,65541,69637,73733,77829,7,31,9,49,11,13] [1000004,1000005] [] Tryz.func13 rfl (aC zb Az))
  (aF (aG [] [4] [] Tryz.func32 rfl (aC Hk aa3))
  (aF (aG [2,3,5,6,8,10,90,139] [4,7,9,11,12,13,14,15,16] [] Tryz.func127 rfl (aC zd JC))
  (aF (aG [2] [3] [] Tryz.func141 rfl (aC Hi aa1))
  (aF (aG [] [4] [] Tryz.func140 rfl (aC Hl aa4))
  (aF (aG [] [4,5] [] Tryz.func156 rfl (aC zf P8))
  (aF (aG [2] [4] [] Tryz.func128 rfl (aC Hf aaY))
  (aF (aG [2] [] [] Tryz.func142 rfl (aC Hj aa2))
  (aF (aG [3,6,8] [] [] Tryz.func143 rfl (aC zc P7))
  (aF (aG [] [2,3,4,11] [] Tryz.func101 rfl (aC GK aau))
  (aF (aG [4,10,53] [8,9,11,12,13,14,55,70] [] Tryz.func103 rfl (aC yz PD))
  (aF (aG [4,9] [8] [] Tryz.func129 rfl (aC Gx aah))
  (aF (aG [] [3] [] Tryz.func145 rfl (aC Gy aai))
  (aF (aG [] [4] [] Tryz.func144 rfl (aC Hn aa6))
  (aF (aG [] [4,5] [] Tryz.func157 rfl (aC zi Qb))
  (aF (aG [4,11] [8,9] [] Tryz.func130 rfl (aC yA PF))
  (aF (aG [3,6,8,10] [7,9,11,12] [] Tryz.func84 rfl (aC GJ aat))
  (aF (aG [2,3,4,12292,9] [5,6,7,8,10,11] [] Tryz.func104 rfl (aC GL aav))
  (aF (aG [2] [3] [] Tryz.func132 rfl (aC GM aaw))
  (aF (aG [] [4,5] [] Tryz.func131 rfl (aC zh Qa))
  (aF (aG [1] [2,3] [] Tryz.func133 rfl (aC Hq aa9))
  (aF (aG [2,7,12295] [4,5] [] Tryz.func146 rfl (aC wh Qf))
  (aF (aG [1,4,6,12294,9] [2,3,5,7,8,38,47,10,11,12] [] Tryz.func147 rfl (aC zl JE))
  (aF (aG [1] [2,3,12,20,4,5] [] Tryz.func158 rfl (aC Hw abf))
  (aF (aG [] [2] [] Tryz.func162 rfl (aC Hv abe))
  (aF (aG [] [2,3,4,11] [] Tryz.func160 rfl (aC Hs abb))
  (aF (aG [2] [4,8,13,17,21] [] Tryz.func159 rfl (aC Hz abi))
  (aF (aG [2,4,7] [5,6,8] [] Tryz.func105 rfl (aC Hr aba))
  (aF (aG [2,3,4,6,33,7,8,10,12298,12] [5,15,21,9,11] [] Tryz.func134 rfl (aC zm Qe))
  (aF (aG [2,4] [5,6] [] Tryz.func148 rfl (aC Hx abg))
  (aF (aG [2] [] [] Tryz.func161 rfl (aC HA abj))
  (aF (aG [4,5] [9,22,41,6,7,82,88,94] [] Tryz.func149 rfl (aC Hu abd))
  (aF (aG [] [6,8,14,20,25] [] Tryz.func163 rfl (aC Ht abc))
  (aF (aG [] [4,5,6,7] [] Tryz.func171 rfl (aC Hy abh))
  (aF (aG [] [4,5,6,7,8,9,10,11,12,13] [] Tryz.func173 rfl (aC Gu aae))
  (aF (aG [6] [2,3,5,8] [] Tryz.func150 rfl (aC ze JD))
  (aF (aG [1] [2] [] Tryz.func34 rfl (aC Gp Z9))
  (aF (aG [3,6,7,4103,24583,8,9,11,47] [10] [] Tryz.func12 rfl (aC zn Qg))
  (aF (aG [2,9] [4,5,6,7] [] Tryz.func29 rfl (aC zo Qh))
  (aF (aG [3,4,5] [6] [] Tryz.func30 rfl (aC HC abl))
  (aF (aG [2,5,7] [4] [] Tryz.func33 rfl (aC zp Qj))
  (aF (aG [] [4,5,13] [] Tryz.func31 rfl (aC HD abm))
  (aF (aG [5,7,8,10,65546,69642,73738,77834,13,65549,69645,73741,77837,14,16,85] [11,12,15,2000038,1000013] [] Tryz.func9 rfl (aC yC PG))
  (aF (aG [3] [6] [] Tryz.func14 rfl (aC HB abk))
  (aF (aG [3,4,5] [6] [] Tryz.func8 rfl (aC Gz aak))
  (aF (aG [2,3] [4,5] [] Tryz.func21 rfl (aC yZ P0))
  (aF (aG [1] [2,3,4] [] Tryz.func48 rfl (aC yK Jt))
  (aF (aG [1] [2] [] Tryz.func49 rfl (aC G9 aaS))
  (aF (aG [1] [2,3] [] Tryz.func50 rfl (aC yY PZ))
  (aF (aG [1] [2] [] Tryz.func77 rfl (aC Ha aaT))
  (aF (aG [3] [6,1,7] [] Tryz.func96 rfl (aC wg PY))
  (aF (aG [1] [2,3] [] Tryz.func22 rfl (aC GU aaD))
  (aF (aG [1,5,44] [2,3,4,6,7] [] Tryz.func51 rfl (aC yQ Jv))
  (aF (aG [] [4] [] Tryz.func78 rfl (aC GX aaG))
  (aF (aG [] [2,3,4] [] Tryz.func97 rfl (aC yL PQ))
  (aF (aG [] [2] [] Tryz.func126 rfl (aC GV aaE))
  (aF (aG [] [6,7] [] Tryz.func98 rfl (aC yJ PO))
  (aF (aG [2,3] [4,5] [] Tryz.func79 rfl (aC yM PR))
  (aF (aG [] [6] [] Tryz.func26 rfl (aC GW aaF))
  (aF (aG [] [6,7] [] Tryz.func99 rfl (aC yO PS))
  (aF (aG [1,4,44] [2,3,5,6] [] Tryz.func52 rfl (aC yR Jw))
  (aF (aG [1,3,24] [2,4,5] [] Tryz.func53 rfl (aC yS PV))
  (aF (aG [1] [2,3,4] [] Tryz.func80 rfl (aC yN Ju))
  (aF (aG [1,4] [2,3,5] [] Tryz.func54 rfl (aC yU Jy))
  (aF (aG [1,4,6] [2,3,5] [] Tryz.func55 rfl (aC yT Jx))
  (aF (aG [2,3] [4,5,6,7,8,9,10] [] Tryz.func10 rfl (aC yV Ay))
  (aF (aG [2,3] [4,5,6,7,8,9] [] Tryz.func24 rfl (aC GY aaH))
  (aF (aG [] [4] [] Tryz.func57 rfl (aC G0 aaJ))
  (aF (aG [] [4] [] Tryz.func58 rfl (aC G1 aaK))
  (aF (aG [] [2] [] Tryz.func59 rfl (aC GS aaC))
  (aF (aG [1,3] [2] [] Tryz.func60 rfl (aC GZ aaI))
  (aF (aG [3] [6,7,8] [] Tryz.func61 rfl (aC yP PU))
  (aF (aG [3,4,7] [6,8] [] Tryz.func25 rfl (aC yW PW))
  (aF (aG [3,4,7] [6,8,21,71,101,9,10,146,179] [] Tryz.func62 rfl (aC G3 aaM))
  (aF (aG [2] [4,5] [] Tryz.func81 rfl (aC G6 aaP))
  (aF (aG [3] [6] [] Tryz.func82 rfl (aC G4 aaN))
  (aF (aG [3,4,7] [6] [] Tryz.func27 rfl (aC G5 aaO))
  (aF (aG [3,4,5] [6,7,8,9,10,56,76,93,114,133,151] [] Tryz.func63 rfl (aC G2 aaL))
  (aF (aG [2,5,6] [4] [] Tryz.func28 rfl (aC G7 aaQ))
  (aF (aG [2,3] [4] [] Tryz.func11 rfl (aC G8 aaR))
  (aF (aG [] [4,5] [] Tryz.func15 rfl (aC yX PX))
  trivial)))))))))))))))))))))))))))))))))))))))))))))))))))))))))))))))))))))))))))))))))))))))))))))))))))))))))))))))))))))))))))))))))))))))
end Rm
set_option linter.unusedSimpArgs false
namespace Rm
open Go Go.Proofs Cx Go.RowKit Go.Lib
theorem alV:(Tryz.prog.info? 3).map (fun i=>(i.zero,i.size,i.bytes))=some (some (.int .i64 0),1,8):=by kernel_rfl
set_option maxHeartbeats 2000000 in
set_option maxRecDepth 100000 in
theorem aiM (w:World):Calls Tryz.prog 164 #[.slice none 0 0,.int .i64 0] w fun e w'=>e=.returned (.slice none 0 0)∧w'=w:=by
 go_enter Tryz.func164,Tryz.ntmps164
 go_wp2
 go_ret
 exact⟨rfl,rfl⟩
set_option maxHeartbeats 2000000 in
set_option maxRecDepth 100000 in
theorem aiL (n:Nat)(w:World)(h0:0<n)(h1:n≤4294967296):Calls Tryz.prog 164 #[.slice none 0 0,.int .i64 n] w fun e w'=>
 ∃v',e=.returned v'∧w'.ownsRow w.heap.size 3 1 v' 0 []∧Below w.heap.size w w':=by
 obtain⟨i0,hi,Ao,xg,hz2⟩:=info_parts alV;have hr:=run_append_nil_zeros w 52 3 52 3 i0 (.int .i64 0) .i64 .i64 Tryz.underlying52 Tryz.underlying3 hi Ao n h0 (by rw[xg];decide) (by omega) (by rw[hz2];omega);have hn:¬((n:Int)<0):=by omega
 have pQ:(n:Int)>0:=by omega
 have hw:IntKind.i64.wrap (n:Int)=n:=by rw[IntKind.wrap_i64];omega
 have q7:IntKind.i64.wrap 0=0:=by decide
 have ff:=grownCap_ge w n 0 3;have hle:=grownCap_le_maxLen w n 0 3 (by unfold maxLen;omega);have hs:(Builtin.zeroCells #[Value.int IntKind.i64 0] n++Builtin.zeroCells #[Value.int IntKind.i64 0] (grownCap w n 0 3-n)).size=grownCap w n 0 3*1:=by
  rw[Array.size_append,size_zeroCells,size_zeroCells];simp;omega
 go_enter Tryz.func164,Tryz.ntmps164
 go_wp2_with (at_builtin;refine wpList_append_run _ rfl _ _ 52 3 rfl _ _ rfl rfl _ _ hr ?qc)
 go_ret
 refine⟨_,rfl,?_,?_⟩
 ·exact World.ownsRow.drew (World.ownsRow_made w _ _ (bk _) hle hs)
 ·exact((Below.refl _ w).alloc (bk _) _).drew
def H0 (ds:List D):Option D:=
 match ds with
 |[.list [],.v (.int .i64 n)]=>if 0≤n∧n≤4294967296 then some (.list []) else none
 |_=>none
theorem aiK (ds:List D)(d:D)(h:H0 ds=some d):∃s,ctx.sig 164=some s∧Li ctx 164 s ds d:=by
 refine⟨_,rfl,fun _=>?_,fun shs obs hm=>by cases hm⟩;unfold H0 at h;split at h
 case h_2=>cases h
 rename_i n;split at h
 case isFalse=>cases h
 rename_i hn;cases h;obtain⟨k,rfl⟩:=vQ hn.1;intro σ w args aB hC ha;obtain⟨a1,a2,a3⟩:=ha;have h0:=a3 0 _ rfl;have h1:=a3 1 _ rfl;obtain⟨u,v,rfl⟩:∃u v,args=#[u,v]:=by
  have:args.size=2:=by simpa using a1
  match args,this with
  |⟨[u,v]⟩,_=>exact⟨u,v,rfl⟩
 simp only[tN,BL] at h0 h1;change Rep ctx.cap σ (.nils .bool) u (.list []) at h0;change Rep ctx.cap σ (.int .i64) v (.v (.int .i64 k)) at h1;have hu:u=.slice none 0 0:=by cases h0;rfl
 have hv:v=.int .i64 k:=by cases h1;rfl
 subst hu hv;by_cases hk:k=0
 ·subst hk;refine(aiM w).mono fun e w' hh=>?_;obtain⟨rfl,rfl⟩:=hh;refine⟨_,σ,rfl,.refl σ,aB,.refl _ _,fun _ _ _ h=>.inl h,fun _ _ h=>.inl h,?_⟩;exact⟨[],[],rfl,⟨by simp,.inl ⟨rfl,rfl⟩⟩,⟨fun _=>undef,fun i x hx=>by simp at hx,fun i j u hi=>by simp at hi⟩,fun k hk=>by cases hk⟩
 ·refine(aiL k w (by omega) (by omega)).mono fun e w' hh=>?_;obtain⟨v',rfl,cm,hb⟩:=hh;refine⟨v',σ,rfl,.refl σ,aB.below hb,hb,fun _ _ _ h=>.inl h,fun _ _ h=>.inl h,?_⟩;refine⟨[],[],rfl,cm,⟨fun _=>undef,fun i x hx=>by simp at hx,fun i j u hi=>by simp at hi⟩,fun k hk=>?_⟩;have aW:=(cm.lt k hk).1;refine⟨fun o=>?_,?_⟩
  ·cases hc:σ.c k o with
   |none=>rfl
   |some u=>have:=World.block_lt_of_cell? w (a:=⟨k,o,none⟩) (aB.c _ _ _ hc);simp at this;omega
  ·cases hc:σ.m k with
   |none=>rfl
   |some u=>rcases aB.m _ _ hc with⟨arr,clock,x,g1,_⟩|⟨_,g1⟩<;>(have:=(gj.1 g1).1;omega)
def Wc (day:Int):Int×Int×Int:=
 let n:=day+730425
 let e:=n/146097
 let r:=n%146097
 let y:=(r-r/1460+r/36524-r/146096)/365
 let r:=r-(365*y+y/4-y/100)
 let m:=(5*r+2)/153
 let dom:=r-(153*m+2)/5+1
 let month:=if 12<m+3 then m+3-12 else m+3
 (if month<3 then y+400*e+1 else y+400*e,month,dom)
def aoV (rest feasts shut:List Int)(day:Int):Bool:=
 !rest.contains ((day+5)%7)&&(!feasts.contains (100*(Wc day).2.1+(Wc day).2.2)&& !shut.contains day)
def afU (rest feasts shut:List Int)(a b:Int):List Int:=((List.range (b-a+1).toNat).map fun(k:Nat)=>a+k).filter (aoV rest feasts shut)
def O4 (d:D):List Int:=d.l.map D.i
def axH (ds:List D):List D:=
 let c:=(ds.getD 2 .none).deref
 (afU (O4 (c.c 3)) (O4 (c.c 4)) (O4 (c.c 5)) (ds.getD 0 .none).deref.i (ds.getD 1 .none).deref.i).map fun d=>.tup [.int d]
def yw (r:D)(city:Int):Int:=if 0≤city∧city<(r.c 1).l.length then(((r.c 1).l.getD city.toNat .none).c 1).i else-1
def Qt (ds:List D):D:=
 let r:=ds.getD 0 .none
 let aD:=(ds.getD 1 .none).i
 let c:=ds.getD 2 .none
 let s:=(c.c 15).l.getD (c.c 19).i.toNat .none
 let who:=(s.c 2).i
 if who<0∨(r.c 3).l.length≤who∨aD<0∨(r.c 4).l.length≤aD then .list [] else
 let out:=[aD,yw r (s.c 7).i,yw r (c.c 10).i,yw r (c.c 9).i,yw r (((r.c 3).l.getD who.toNat .none).c 1).i]
 if(-1)∈out then .list [] else ints out
def M0 (ds:List D):List D:=
 let f:=(ds.getD 0 .none).deref
 let day:=(ds.getD 1 .none).deref.i
 let part:=(ds.getD 2 .none).deref.i
 ((List.range (f.c 15).l.length).filter fun(i:Nat)=>decide ((((f.c 15).l.getD i .none).c 0).i=2)&&decide ((((f.c 15).l.getD i .none).c 1).i=part)&&decide ((((f.c 15).l.getD i .none).c 6).i≤day)&&
   !((f.c 17).l.any fun a=>decide ((a.c 0).i=7)&&decide ((a.c 4).i=(i:Int))&&decide ((a.c 6).i≤day))).map fun(i:Nat)=>.tup [.int i,(f.c 15).l.getD i .none]
def WE:List (Nat×(aQ→List D→Option D)):=[(164,fun _ ds=>H0 ds),(102,Aw (ae Gs) (ae Gt) Qt),(64,DY (ae sq) 1000 2 M0)]
def ext:Nat→Option (aQ→List D→Option D):=bH WE
theorem aro:TabOK ctx tab ext:=by
 refine⟨clos,its,fun f pc _ h=>arp f pc h,fun f g hg Φ hΦ fE ds d h=>?_⟩
 have:=Pn (R:=fun f (g:aQ→List D→Option D)=>∀Φ,di ctx Φ→gk ctx Φ→∀ds d,g Φ ds=some d→(∀s,ctx.sig f=some s→Li ctx f s ds d)∧
  ∀cs ys,ctx.cap f=some cs→mf cs.args cs.res=some ys→∃xs,d=.list xs∧(∀x,x∈xs→∃ds',x=.tup ds'∧ds'.length=ys.length)∧lT ctx f cs.caps ys ds xs) (l:=WE)
  ⟨fun Φ hΦ fE ds d h=>⟨fun s hs=>by obtain⟨s',h1,h2⟩:=aiK ds d h;rw[hs] at h1;cases h1;exact h2,fun cs ys hc hi=>by cases hc⟩,
   fun Φ hΦ fE ds d h=>⟨fun s hs=>by cases hs;exact⟨fun _=>aoe clos hΦ fE Tryz.func102 (aC Gs aac) (aC Gt aad) h,fun shs obs hm=>by cases hm⟩,fun cs ys hc hi=>by cases hc⟩,
   fun Φ hΦ fE ds d h=>⟨fun s hs=>(by cases hs),fun cs ys hc hi=>by
    cases hc;cases hi;exact alY clos hΦ fE Tryz.func64 afp h rfl⟩,
   trivial⟩ f g hg
 exact this Φ hΦ fE ds d h
abbrev T:cI:=dV tab ext
theorem aq.of_nsl {tab:Nat→Option PC}{ext:Nat→Option (aQ→List D→Option D)}{f:Nat}{pa pb:PC}{spec:List D→D}{ds:List D}{ta tb:PT}(hx:ext f=some (Aw pa pb spec))(hta:tree pa=ta)(htb:tree pb=tb)
 (h:(∃xs,xs≠[]∧spec ds=.list xs∧aI (dV tab ext) ta (kL ds) (fun x=>x=.ret (.list xs)))∨(spec ds=.list []∧aI (dV tab ext) tb (kL ds) (fun x=>x=.ret (.list [])))):aq (dV tab ext) f ds (spec ds):=by
 refine aq.of_ext hx ?_;rcases h with⟨xs,h1,h2,h3⟩|⟨h2,h3⟩
 ·obtain⟨x,rfl,n0,hn⟩:=Lc (c:=pa) (hta▸h3);refine⟨n0,fun n hle=>?_⟩;unfold Aw;rw[if_pos (.inl ⟨n,xs,hn n hle,h1,h2⟩)]
 ·obtain⟨x,rfl,n0,hn⟩:=Lc (c:=pb) (htb▸h3);refine⟨n0,fun n hle=>?_⟩;unfold Aw;rw[if_pos (.inr ⟨n,hn n hle,h2⟩)]
end Rm
namespace Rm
open Go Go.Proofs Cx
def eD (n:Nat)(p:Nat→Bool):Bool:=(List.range n).all p
theorem VG {n:Nat}{p:Nat→Bool}(h:∀k,k<n→p k=true):eD n p=true:=bJ.2 fun k hk=>h k (bP.1 hk)
theorem aeD {n k:Nat}{p:Nat→Bool}(hk:k<n)(h:p k=false):eD n p=false:=List.all_eq_false.2 ⟨k,bP.2 hk,by simp[h]⟩
theorem yr {n:Nat}{p:Nat→Bool}:eD n p=true↔∀k,k<n→p k=true:=⟨fun h k hk=>bJ.1 h k (bP.2 hk),VG⟩
def cK (n:Nat)(f:Nat→Int):Int:=(((List.range n).map f).find? fun x=>x !=0).getD 0
theorem HT {n:Nat}{f:Nat→Int}(h:∀k,k<n→f k=0):cK n f=0:=by
 unfold cK;rw[vS.2]
 ·rfl
 ·intro x hx;obtain⟨k,hk,rfl⟩:=dM.1 hx;simp[h k (bP.1 hk)]
theorem HS {n k:Nat}{f:Nat→Int}(hk:k<n)(hj:∀j,j<k→f j=0)(h:f k≠0):cK n f=f k:=by
 unfold cK;have e:List.range n=List.range k++k::(List.range' (k+1) (n-k-1)):=by
  rw[Lv,Lv,←F6];have:=List.range'_append_1 (s:=0) (m:=k) (n:=n-k-1+1);rw[gF] at this;rw[this];congr 1;omega
 rw[e,rU,List.find?_append,vS.2,Option.none_or,gU,List.find?_cons_of_pos (by simpa using h)]
 ·rfl
 ·intro x hx;obtain⟨j,uD,rfl⟩:=dM.1 hx;simp[hj j (bP.1 uD)]
theorem ug {n:Nat}{f:Nat→Int}:cK n f=0↔∀k,k<n→f k=0:=by
 refine⟨fun h k=>?_,HT⟩
 induction k using Nat.strongRecOn with
 |ind k ih=>
  intro hk;refine rR fun ay=>?_;rw[HS hk (fun j hj=>ih j hj (by omega)) ay] at h;exact ay h
section
variable {T:cI} {id:Nat} {bC bB lr lo:List Nat} {a:PC} {ρ:Env} {Q:Out→Prop}
theorem gh (N:Nat)(p:Nat→Bool)(str fy:Nat→List D)(h0:lr.map ρ.r=str 0∧lo.map ρ.o=fy 0)
 (step:∀k,k<N→p k=true→aI T (round id bC bB lr lo a) (ρ.put lr (str k) lo (fy k)) (eR ρ id bC bB lr lo (fun vr vo=>vr=str (k+1)∧vo=fy (k+1)) Q))
 (bad:∀k,k<N→p k=false→eD N p=false→aI T (round id bC bB lr lo a) (ρ.put lr (str k) lo (fy k)) (eR ρ id bC bB lr lo (fun _ _=>False) Q))
 (last:eD N p=true→aI T (round id bC bB lr lo a) (ρ.put lr (str N) lo (fy N)) (eR ρ id bC bB lr lo (fun _ _=>False) Q)):aP T (.block id bC bB (.loop lr lo a)) ρ Q:=
 .scan N (fun k=>p k=true) str fy h0 (fun k hk _ h=>step k hk h) (fun k hk _ h=>bad k hk (by simpa using h) (aeD hk (by simpa using h))) (fun h=>last (VG h))
theorem oN (N:Nat)(f:Nat→Int)(str fy:Nat→List D)(h0:lr.map ρ.r=str 0∧lo.map ρ.o=fy 0)
 (step:∀k,k<N→f k=0→aI T (round id bC bB lr lo a) (ρ.put lr (str k) lo (fy k)) (eR ρ id bC bB lr lo (fun vr vo=>vr=str (k+1)∧vo=fy (k+1)) Q))
 (bad:∀k,k<N→f k≠0→cK N f=f k→aI T (round id bC bB lr lo a) (ρ.put lr (str k) lo (fy k)) (eR ρ id bC bB lr lo (fun _ _=>False) Q))
 (last:cK N f=0→aI T (round id bC bB lr lo a) (ρ.put lr (str N) lo (fy N)) (eR ρ id bC bB lr lo (fun _ _=>False) Q)):aP T (.block id bC bB (.loop lr lo a)) ρ Q:=
 .scan N (fun k=>f k=0) str fy h0 (fun k hk _ h=>step k hk h) (fun k hk hj h=>bad k hk h (HS hk hj h)) (fun h=>last (HT h))
end
theorem bn {k n:Nat}(h:k<n)(hn:n≤4294967296):IntKind.i64.wrap ((k:Int)+1)=(k:Int)+1:=bL (by omega)
theorem vK {k:Nat}(hn:k≤4294967296):IntKind.i64.wrap ((k:Int)-1)=(k:Int)-1:=bL (by omega)
def au (i n:Int):Bool:=decide (0≤i)&&decide (i<n)
def wi (n a b:Int):Bool:=decide (a≤n)&&decide (n≤b)
theorem fR (i n:Int):aq T 111 [.int i,.int n] (.bool (au i n)):=by
 refine .of_tree rfl (lA 17 (by kernel_rfl)) as5 ?_;simp[TU,au];by_cases h:0≤i<;>simp[h]
theorem qm (i n:Int):aq T 32 [.int i,.int n] (.bool (au i n)):=by
 refine .of_tree rfl (lA 55 (by kernel_rfl)) ati ?_;simp[T8,au];by_cases h:0≤i<;>simp[h]
theorem bI (n a b:Int):aq T 26 [.int n,.int a,.int b] (.bool (wi n a b)):=by
 refine .of_tree rfl (lA 112 (by kernel_rfl)) asx ?_;simp[Tl,wi];by_cases h:a≤n<;>simp[h]
theorem idx_eq {α:Type}[DecidableEq α]{l:List α}{x z:α}{k:Nat}(hk:k<l.length)(hj:∀j,j<k→l.getD j z≠x)(h:¬l.getD k z≠x):x∈l∧l.findIdx (fun y=>decide (y=x))=k:=by
 have e:l[k]=x:=by simpa [hk] using h
 refine⟨e▸de hk,(List.findIdx_eq hk).2 ⟨by simp[e],fun j hG=>?_⟩⟩;have fW:j<l.length:=by omega
 simpa [fW] using hj j hG
theorem Yy {α:Type}[DecidableEq α]{l:List α}{x z:α}(hj:∀j,j<l.length→l.getD j z≠x):¬x∈l:=fun hm=>by
 obtain⟨j,fW,rfl⟩:=j7 hm;have:=hj j fW;simp[fW] at this
def uO {α:Type}[DecidableEq α](l:List α)(x:α):Int:=if x∈l then(l.findIdx (fun y=>decide (y=x)):Nat) else-1
def hasB {α:Type}[DecidableEq α](l:List α)(x:α):Bool:=l.any fun y=>decide (y=x)
theorem Nt {α:Type}[DecidableEq α]{l:List α}{x:α}:hasB l x=true↔x∈l:=by simp[hasB]
theorem Xn {α:Type}[DecidableEq α]{l:List α}{x:α}:hasB l x=false↔¬x∈l:=by rw[←Nt];simp
theorem Yx {α:Type}[DecidableEq α](l:List α)(x:α):decide (0≤uO l x)=hasB l x:=by
 unfold uO;by_cases h:x∈l
 ·rw[Nt.2 h];simp[h]
 ·rw[Xn.2 h];simp[h]
@[simp] theorem axD (a b:ByteArray):zu .eql a b=decide (a=b):=by
  simp only[zu,ByteArray.toList_eq];by_cases h:a=b
  ·subst h;simp
  ·rw[decide_eq_false h,beq_eq_false_iff_ne];intro e;have:a.data=b.data:=by rw[←tK];exact e
   exact h (by cases a;cases b;cases this;rfl)
@[simp] theorem ayy (ρ:Env)(x i:PE):PE.ev ρ (.sidx x i)=.v (.int .u8 ((PE.ev ρ x).s.data.getD (PE.ev ρ i).i.toNat 0).toNat):=_root_.id rfl
@[simp] theorem ayC (ρ:Env)(x i:PE):PE.ev ρ (.sok x i)=.v (.bool (decide (0≤(PE.ev ρ i).i∧(PE.ev ρ i).i<(PE.ev ρ x).s.size))):=_root_.id rfl
@[simp] theorem aA6 (a:ByteArray):(str a).s=a:=_root_.id rfl
theorem aed (l:List Int)(x:Int)(hl:l.length≤4294967296):aq T 56 [ints l,.int x] (.int (uO l x)):=by
 refine .of_tree rfl (lA 33 (by kernel_rfl)) att ?_;simp[Uj];refine .scan l.length (fun k=>l.getD k 0≠x) (fun k=>[.int 0,.int k]) (fun _=>[]) ?_ (fun k hk hj ho=>?_) (fun k hk hj ho=>?_) (fun hj=>?_)
 ·simp
 ·have hw:=bn hk hl;simp[hk] at ho;have dZ:¬x=l[k]:=fun e=>ho e.symm;simp[RP,Fj,hk,hw,ints,ho,dZ]
 ·obtain⟨hm,he⟩:=idx_eq hk hj ho;simp[hk] at ho;simp[RP,Fj,hk,ints,ho,uO,hm,he]
 ·have:=Yy hj;simp[RP,Fj,uO,this,ints]
theorem BH (l:List Int)(x:Int)(hl:l.length≤4294967296):aq T 23 [ints l,.int x] (.bool (hasB l x)):=by
 refine .of_tree rfl (lA 32 (by kernel_rfl)) atn ?_;simp[Ud];refine⟨_,aed l x hl,?_⟩;have:=Yx l x;simp at this ⊢;exact this
theorem aee (l:List ByteArray)(x:ByteArray)(hl:l.length≤4294967296):aq T 165 [strs l,str x] (.int (uO l x)):=by
 refine .of_tree rfl (lA 13 (by kernel_rfl)) atu ?_;simp[Uk];refine .scan l.length (fun k=>l.getD k default≠x) (fun k=>[.int 0,.int k]) (fun _=>[]) ?_ (fun k hk hj ho=>?_) (fun k hk hj ho=>?_) (fun hj=>?_)
 ·simp
 ·have hw:=bn hk hl;simp[hk] at ho;have dZ:¬x=l[k]:=fun e=>ho e.symm;simp[RQ,Fk,hk,hw,strs,ho,dZ]
 ·obtain⟨hm,he⟩:=idx_eq hk hj ho;simp[hk] at ho;simp[RQ,Fk,hk,strs,ho,uO,hm,he]
 ·have:=Yy hj;simp[RQ,Fk,uO,this,strs]
theorem ad8 (l:List ByteArray)(x:ByteArray)(hl:l.length≤4294967296):aq T 152 [strs l,str x] (.bool (hasB l x)):=by
 refine .of_tree rfl (lA 12 (by kernel_rfl)) ato ?_;simp[Ue];refine⟨_,aee l x hl,?_⟩;have:=Yx l x;simp at this ⊢;exact this
def oL (l:List Int)(a b:Int)(k:Nat):Bool:=wi (l.getD k 0) a b&&(k==0||decide (l.getD (k-1) 0<l.getD k 0))
def rising (l:List Int)(a b:Int):Bool:=eD l.length (oL l a b)
theorem Fs (l:List Int)(a b:Int)(hl:l.length≤4294967296):aq T 136 [ints l,.int a,.int b] (.bool (rising l a b)):=by
 refine .of_tree rfl (lA 18 (by kernel_rfl)) atb ?_;simp[T2];refine gh l.length (oL l a b) (fun k=>[.bool false,.int k]) (fun _=>[]) ?_ (fun k hk ho=>?_) (fun k hk ho hb=>?_) (fun hj=>?_)
 ·simp
 ·have hw:=bn hk hl;simp[oL,wi,hk] at ho;obtain⟨⟨h1,h2⟩,h3⟩:=ho;have cE:¬l[k]<a:=by omega
  have iK:¬b<l[k]:=by omega
  by_cases fX:0<k
  ·have bl:k-1<l.length:=by omega
   have db:IntKind.i64.wrap ((k:Int)-1)=((k-1:Nat):Int):=by rw[vK (by omega)];omega
   have eF:¬l[k]≤l[k-1]:=by
        rcases h3 with h3|h3
        ·omega
        ·simp[bl] at h3;omega
   simp[Bi,vk,hk,hw,db,ints,cE,iK,eF,fX,bl]
  ·simp[Bi,vk,hk,hw,ints,cE,iK,fX]
 ·have hf:rising l a b=false:=hb;simp[oL,wi,hk] at ho;by_cases h1:l[k]<a
  ·simp[Bi,vk,hk,ints,h1,hf]
  by_cases h2:b<l[k]
  ·simp[Bi,vk,hk,ints,h1,h2,hf]
  have h3:=ho (by omega) (by omega);have fX:0<k:=by omega
  have bl:k-1<l.length:=by omega
  have db:IntKind.i64.wrap ((k:Int)-1)=((k-1:Nat):Int):=by rw[vK (by omega)];omega
  have eF:=h3.2;simp[bl] at eF;simp[Bi,vk,hk,db,ints,h1,h2,eF,fX,bl,hf]
 ·have hf:rising l a b=true:=hj;simp[Bi,vk,hf]
def D3 (c:Int):Bool:=wi c 97 122||wi c 65 90
def xx (i:Nat)(c:Int):Bool:=D3 c||(i !=0&&(decide (c=95)||wi c 48 57))
def Ca (s:ByteArray)(k:Nat):Int:=((s.data.toList.getD k 0).toNat:Nat)
def iU (s:ByteArray):Bool:=decide (1≤s.size)&&decide (s.size≤20)&&eD s.size (fun k=>xx k (Ca s k))
theorem Gj {s:ByteArray}{k:Nat}(h:k<s.data.size):(s.data[k].toNat:Int)=Ca s k:=by
 unfold Ca;rw[aJ,bA (by simpa using h)];rfl
theorem adw {s:ByteArray}:s=⟨#[]⟩↔s.size=0:=by
 constructor
 ·rintro rfl;rfl
 ·intro h;cases s with|mk d=>congr;exact Lg h
theorem aqu (s:ByteArray):aq T 151 [str s] (.bool (iU s)):=by
 refine .of_tree rfl (lA 11 (by kernel_rfl)) as6 ?_;simp[TV];by_cases h0:s=⟨#[]⟩
 ·have hn:iU s=false:=by simp[iU,adw.1 h0]
  rw[hn];simp[h0]
 by_cases h1:(20:Int)<s.size
 ·have cE:¬s.size≤20:=by omega
  simp[h0,h1,iU,cE]
 have hz:1≤s.size:=by
  have:s.size≠0:=fun e=>h0 (adw.2 e);omega
 have cE:s.size≤20:=by omega
 simp[h0,h1];refine⟨by omega,gh s.size (fun k=>xx k (Ca s k)) (fun k=>[.bool false,.int k]) (fun _=>[]) ?_ (fun k hk ho=>?_) (fun k hk ho hb=>?_) (fun hj=>?_)⟩
 ·simp
 ·have hw:=bn hk (by omega);have aW:k<s.data.size:=hk;have hg:=Gj aW;simp[xx,D3,wi] at ho;simp[Ry,E4,hk,aW,hw,hg];omega
 ·have aW:k<s.data.size:=hk;have hg:=Gj aW;have hn:iU s=false:=by simp[iU,hb]
  simp[xx,D3,wi] at ho;simp[Ry,E4,hk,aW,hg,hn];omega
 ·have hn:iU s=true:=by simp[iU,hj,hz,cE]
  have hd:s.data.size=s.size:=rfl;simp[Ry,E4,hn,hd]
theorem aco (c:Int):aq T 126 [.v (.int .u8 c)] (.bool (D3 c)):=by
 refine .of_tree rfl (lA 109 (by kernel_rfl)) asr ?_;simp[Tf,D3,wi];by_cases h:97≤c<;>by_cases h2:c≤122<;>by_cases h3:65≤c<;>by_cases h4:c≤90<;>simp[h,h2,h3,h4]
theorem apB (s:ByteArray):aq T 97 [str s] (.bool (iU s)):=by
 refine .of_tree rfl (lA 108 (by kernel_rfl)) ass ?_;simp[Tg];by_cases h0:(s.size:Int)<1
 ·have hn:iU s=false:=by simp[iU];omega
  simp[h0,hn]
 by_cases h1:(20:Int)<s.size
 ·have hn:iU s=false:=by simp[iU];omega
  simp[h0,h1,hn]
 rw[if_neg (by omega)];refine gh s.size (fun k=>xx k (Ca s k)) (fun k=>[.bool false,.int k]) (fun _=>[]) ?_ (fun k hk ho=>?_) (fun k hk ho hb=>?_) (fun hj=>?_)
 ·simp
 ·have hw:=bn hk (by omega);have aW:k<s.data.size:=hk;have hg:=Gj aW;simp[xx,wi] at ho;simp[Rc,EI,hk,aW,hw,hg];refine⟨_,aco _,?_⟩;simp[hw];intro g1 g2;exfalso;rcases ho with h|h
  ·rw[h] at g1;cases g1
  ·omega
 ·have aW:k<s.data.size:=hk;have hg:=Gj aW;have hn:iU s=false:=by simp[iU,hb]
  simp[xx,wi] at ho;simp[Rc,EI,hk,aW,hg,hn];refine⟨_,aco _,?_⟩;simp[ho.1];omega
 ·have hn:iU s=true:=by simp[iU,hj];omega
  simp[Rc,EI,hn]
end Rm
namespace Rm
open Go Go.Proofs Cx
theorem apz (l:List ByteArray)(n:Nat)(x:ByteArray)(hn:n≤l.length)(hl:l.length≤4294967296):aq T 98 [strs l,.int n,str x] (.bool (hasB (l.take n) x)):=by
 refine .of_tree rfl (lA 110 (by kernel_rfl)) aso ?_;simp[Tc];refine .scan n (fun k=>l.getD k default≠x) (fun k=>[.bool false,.int k]) (fun _=>[]) ?_ (fun k hk hj ho=>?_) (fun k hk hj ho=>?_) (fun hj=>?_)
 ·simp
 ·have aW:k<l.length:=by omega
  have hw:=bn aW hl;simp[aW] at ho;simp[Rb,EG,hk,aW,hw,strs,ho]
 ·have aW:k<l.length:=by omega
  simp[aW] at ho;have hm:hasB (l.take n) x=true:=Nt.2 (by rw[←ho,Lt];exact⟨k,by omega,rfl⟩);simp[Rb,EG,hk,aW,strs,ho,hm]
 ·have hm:hasB (l.take n) x=false:=Xn.2 (fun h=>by
   rw[Lt] at h;obtain⟨k,hk,e⟩:=h;have:=hj k (by omega);simp[show k<l.length by omega] at this;exact this e)
  simp[Rb,EG,hm]
def gN (l:List ByteArray)(i:Nat):Int:=if iU (l.getD i default)=false then 2 else if hasB (l.take i) (l.getD i default) then 5 else 0
theorem Pw (l:List ByteArray)(i n:Nat)(h:i<n):gN (l.take n) i=gN l i:=by
 unfold gN;rw[aJ,List.getElem?_take_of_lt h,Vv,oY (by omega),←aJ]
theorem Eu (l:List ByteArray)(i:Nat)(hi:i<l.length)(hl:l.length≤4294967296):aq T 78 [strs l,.int i] (.int (gN l i)):=by
 refine .of_tree rfl (lA 107 (by kernel_rfl)) asA ?_;simp[Tp,hi];refine⟨_,by simpa [strs,hi] using apB l[i],?_⟩;unfold gN;rw[aJ,bA hi,iz];cases h1:iU l[i]<;>simp[h1];refine⟨_,by simpa [strs,hi] using apz l i l[i] (by omega) hl,?_⟩;cases h2:hasB (l.take i) l[i]<;>simp[h2]
theorem acY (l:List ByteArray)(i:Nat)(hi:i<l.length)(hl:l.length≤4294967296):aq T 135 [strs l,.int i] (.int (gN l i)):=by
 refine .of_tree rfl (lA 10 (by kernel_rfl)) as7 ?_;simp[TW,hi];refine⟨_,by simpa [strs,hi] using aqu l[i],?_⟩;unfold gN;rw[aJ,bA hi,iz];cases h1:iU l[i]<;>simp[h1];refine⟨by omega,_,by simpa [strs,hi] using ad8 (l.take i) l[i] (by rw[dE];omega),?_⟩;cases h2:hasB (l.take i) l[i]<;>simp[h2]
def kh (l:List ByteArray)(g:Nat→Bool)(i:Nat):Int:=if gN l i≠0 then gN l i else if g i then 0 else 1
def er (l:List ByteArray)(D7:Int)(g:Nat→Bool):Int:=if D7<l.length then 6 else cK l.length (kh l g)
theorem KI (l:List ByteArray)(D7:Int)(f:Nat)(caps:List D)(g:Nat→Bool)(hg:∀i:Nat,i<l.length→aq T f (.int i::caps) (.bool (g i)))(hl:l.length≤4294967296):
 aq T 107 [strs l,.int D7,.clo f caps] (.int (er l D7 g)):=by
 refine .of_tree rfl (lA 9 (by kernel_rfl)) as4 ?_;simp[TS,er];by_cases h0:D7<l.length
 ·simp[h0];intro h;omega
 simp[h0];refine oN l.length (kh l g) (fun k=>[.int 0,.int k]) (fun _=>[]) ?_ (fun k hk ho=>?_) (fun k hk ho hb=>?_) (fun hj=>?_)
 ·simp
 ·have hw:=bn hk hl;have h1:gN l k=0:=by
   refine rR fun h=>?_;unfold kh at ho;rw[if_pos h] at ho;exact h ho
  have h2:g k=true:=by
   unfold kh at ho;rw[if_neg (by simpa using h1)] at ho;cases h:g k with
   |true=>rfl
   |false=>rw[h] at ho;simp at ho
  simp[Rx,E3,hk,hw];refine⟨_,acY l k hk hl,?_⟩;simp[h1];refine⟨_,_,⟨rfl,rfl⟩,_,hg k hk,?_⟩;simp[h2,hw]
 ·simp[Rx,E3,hk,hb];refine⟨_,acY l k hk hl,?_⟩;unfold kh at ho ⊢;by_cases h1:gN l k=0
  ·simp[h1] at ho ⊢;refine⟨_,_,⟨rfl,rfl⟩,_,hg k hk,?_⟩;simp[ho]
  ·simp[h1]
 ·simp[Rx,E3,hj]
theorem QQ (l:List Int)(a b:Int)(hl:l.length≤4294967296):aq T 99 [ints l,.int a,.int b] (.bool (rising l a b)):=by
 refine .of_tree rfl (lA 113 (by kernel_rfl)) asv ?_;simp[Tj];refine gh l.length (oL l a b) (fun k=>[.bool false,.int k]) (fun _=>[]) ?_ (fun k hk ho=>?_) (fun k hk ho hb=>?_) (fun hj=>?_)
 ·simp
 ·have hw:=bn hk hl;simp[oL,hk] at ho;simp[Rg,EM,hk,hw,ints];refine⟨_,bI _ _ _,?_⟩;by_cases fX:0<k
  ·have bl:k-1<l.length:=by omega
   have db:IntKind.i64.wrap ((k:Int)-1)=((k-1:Nat):Int):=by rw[vK (by omega)];omega
   have eF:¬l[k]≤l[k-1]:=by
        rcases ho.2 with h3|h3
        ·omega
        ·simp[bl] at h3;omega
   simp[ho.1,hk,hw,db,eF,fX,bl]
  ·simp[ho.1,hk,hw,fX];omega
 ·have hf:rising l a b=false:=hb;simp[oL,hk] at ho;simp[Rg,EM,hk,ints,hf];refine⟨_,bI _ _ _,?_⟩;cases h1:wi l[k] a b with
  |false=>simp
  |true=>
   have h3:=ho h1;have fX:0<k:=by omega
   have bl:k-1<l.length:=by omega
   have db:IntKind.i64.wrap ((k:Int)-1)=((k-1:Nat):Int):=by rw[vK (by omega)];omega
   have eF:=h3.2;simp[bl] at eF;simp[hk,db,eF,fX,bl]
 ·have hf:rising l a b=true:=hj;simp[Rg,EM,hf]
theorem Sj (n:Int):n.tdiv 100=if 0≤n then n/100 else-((-n)/100):=by
 split
 ·rename_i h;exact aeg h
 ·rename_i h;have e:n.tdiv 100=-((-n).tdiv 100):=by rw[Int.neg_tdiv,Int.neg_neg]
  rw[e,aeg (by omega)]
theorem adO (n:Int):n.tmod 100=n-100*n.tdiv 100:=Int.tmod_def n 100
theorem ad0 {n:Int}(h:aN n):IntKind.i64.wrap (n.tdiv 100)=n.tdiv 100:=bL (by rw[Sj];unfold aN at h;split<;>omega)
def nO (r:Realm)(c:City):Bool:=eD c.feasts.length (fun k=>wi ((c.feasts.getD k 0).tmod 100) 1 31)&&(decide (c.feasts.length≤60)&&decide (c.shut.length≤200)&&au c.order r.orders.length&&au c.currency r.currencies.length)&&
 (rising c.rest 0 6&&rising c.feasts 101 1231&&rising c.shut 0 100000)
theorem aqs (r:Realm)(c:City)(h1:c.rest.length≤4294967296)(h2:c.feasts.length≤4294967296)(h3:c.shut.length≤4294967296):aq T 110 [aZ r,lj c] (.bool (nO r c)):=by
 refine .of_tree rfl (lA 16 (by kernel_rfl)) as3 ?_;simp[TR];refine gh c.feasts.length (fun k=>wi ((c.feasts.getD k 0).tmod 100) 1 31) (fun k=>[.bool false,.int k]) (fun _=>[]) ?_ (fun k hk ho=>?_) (fun k hk ho hb=>?_) (fun hj=>?_)
 ·simp
 ·have hw:=bn hk h2;simp[wi,hk] at ho;have g1:¬(c.feasts[k].tmod 100<1):=by omega
  have g2:¬(31<c.feasts[k].tmod 100):=by omega
  simp[Rw,E2,hk,hw,ints,g1,g2]
 ·have hf:nO r c=false:=by simp only[nO,hb,rP]
  simp[wi,hk] at ho;simp[Rw,E2,hk,ints,hf];by_cases g1:c.feasts[k].tmod 100<1
  ·simp[g1]
  ·have g2:=ho (by omega);simp[g1,g2]
 ·simp[Rw,E2];by_cases g1:(c.feasts.length:Int)≤60
  case neg=>
   have hf:nO r c=false:=by
        have fc:decide (c.feasts.length≤60)=false:=decide_eq_false (by omega);simp only[nO,fc,rP,tL]
   have fc:(60:Int)<c.feasts.length:=by omega
   simp[g1,fc,hf]
  by_cases g2:(c.shut.length:Int)≤200
  case neg=>
   have hf:nO r c=false:=by
        have fc:decide (c.shut.length≤200)=false:=decide_eq_false (by omega);simp only[nO,fc,rP,tL]
   have nT:(200:Int)<c.shut.length:=by omega
   simp[g1,g2,nT,hf]
  have fc:¬(60:Int)<c.feasts.length:=by omega
  have nT:¬(200:Int)<c.shut.length:=by omega
  have hf:nO r c=(au c.order r.orders.length&&au c.currency r.currencies.length&&(rising c.rest 0 6&&rising c.feasts 101 1231&&rising c.shut 0 100000)):=by
   have e1:decide (c.feasts.length≤60)=true:=decide_eq_true (by omega);have e2:decide (c.shut.length≤200)=true:=decide_eq_true (by omega);simp only[nO,hj,e1,e2,vO]
  rw[hf];simp[g1,g2,fc,nT];refine⟨_,fR _ _,?_⟩;simp;cases e1:au c.order r.orders.length<;>simp;refine⟨_,fR _ _,?_⟩;simp;cases e2:au c.currency r.currencies.length<;>simp;refine⟨_,Fs _ _ _ h1,?_⟩;simp;cases e3:rising c.rest 0 6<;>simp;refine⟨_,Fs _ _ _ h2,?_⟩;simp;cases e4:rising c.feasts 101 1231<;>simp;exact Fs _ _ _ h3
def po (r:Realm)(c:City):Bool:=(wi c.order 0 (r.orders.length-1)&&wi c.currency 0 (r.currencies.length-1)&&decide (c.feasts.length≤60)&&decide (c.shut.length≤200))&&
 eD c.feasts.length (fun k=>wi ((c.feasts.getD k 0).tdiv 100) 1 12&&wi ((c.feasts.getD k 0).tmod 100) 1 31)&&(rising c.rest 0 6&&rising c.feasts 0 2000&&rising c.shut 0 100000)
theorem rN (n:Nat)(h:n≤4294967296):IntKind.i64.wrap ((n:Int)-1)=(n:Int)-1:=bL (by omega)
theorem apC (r:Realm)(c:City)(h1:c.rest.length≤4294967296)(h2:c.feasts.length≤4294967296)(h3:c.shut.length≤4294967296)(h4:r.orders.length≤4294967296)(h5:r.currencies.length≤4294967296)(hi:∀y,y∈c.feasts→aN y):
 aq T 79 [aZ r,lj c] (.bool (po r c)):=by
 refine .of_tree rfl (lA 111 (by kernel_rfl)) ast ?_;simp[Th,rN _ h4,rN _ h5];refine⟨_,bI _ _ _,?_⟩;cases e1:wi c.order 0 (r.orders.length-1)
 case false=>simp[po,e1]
 simp;refine⟨_,bI _ _ _,?_⟩;cases e2:wi c.currency 0 (r.currencies.length-1)
 case false=>simp[po,e1,e2]
 by_cases g1:(c.feasts.length:Int)≤60
 case neg=>
  have hf:po r c=false:=by
   have fc:decide (c.feasts.length≤60)=false:=decide_eq_false (by omega);simp only[po,fc,rP,tL]
  have fc:(60:Int)<c.feasts.length:=by omega
  simp[fc,hf]
 by_cases g2:(c.shut.length:Int)≤200
 case neg=>
  have hf:po r c=false:=by
   have fc:decide (c.shut.length≤200)=false:=decide_eq_false (by omega);simp only[po,fc,rP,tL]
  have nT:(200:Int)<c.shut.length:=by omega
  simp[nT,hf]
 have fc:¬(60:Int)<c.feasts.length:=by omega
 have nT:¬(200:Int)<c.shut.length:=by omega
 have hf:po r c=(eD c.feasts.length (fun k=>wi ((c.feasts.getD k 0).tdiv 100) 1 12&&wi ((c.feasts.getD k 0).tmod 100) 1 31)&&(rising c.rest 0 6&&rising c.feasts 0 2000&&rising c.shut 0 100000)):=by
  have e3:decide (c.feasts.length≤60)=true:=decide_eq_true (by omega);have e4:decide (c.shut.length≤200)=true:=decide_eq_true (by omega);simp only[po,e1,e2,e3,e4,vO]
 rw[hf];simp[fc,nT];refine gh c.feasts.length (fun k=>wi ((c.feasts.getD k 0).tdiv 100) 1 12&&wi ((c.feasts.getD k 0).tmod 100) 1 31) (fun k=>[.bool false,.int k]) (fun _=>[]) ?_ (fun k hk ho=>?_) (fun k hk ho hb=>?_) (fun hj=>?_)
 ·simp
 ·have hw:=bn hk h2;have hI:=hi _ (de hk);have hq:IntKind.i64.wrap (c.feasts[k].tdiv 100)=c.feasts[k].tdiv 100:=ad0 hI;simp[hk] at ho;simp[Rd,EJ,hk,ints,hq];refine⟨_,bI _ _ _,?_⟩;simp[ho.1,hk];refine⟨_,bI _ _ _,?_⟩;simp[ho.2,hk,hw]
 ·have hI:=hi _ (de hk);have hq:IntKind.i64.wrap (c.feasts[k].tdiv 100)=c.feasts[k].tdiv 100:=ad0 hI;simp[hk] at ho;simp only[aJ] at hb;rw[hb];simp[Rd,EJ,hk,ints,hq];refine⟨_,bI _ _ _,?_⟩;cases e3:wi (c.feasts[k].tdiv 100) 1 12 with
  |false=>simp
  |true=>
   have:=ho e3;simp[hk];refine⟨_,bI _ _ _,?_⟩;simp[this]
 ·simp only[aJ] at hj;rw[hj];simp[Rd,EJ];refine⟨_,QQ _ _ _ h1,?_⟩;simp;cases e3:rising c.rest 0 6<;>simp;refine⟨_,QQ _ _ _ h2,?_⟩;simp;cases e4:rising c.feasts 0 2000<;>simp;exact QQ _ _ _ h3
theorem afC (r:Realm)(c:City):po r c=nO r c:=by
 rw[nG];have aY:∀(i:Int) (n:Nat),(wi i 0 (n-1)=true)↔(au i n=true):=by intro i n;simp[wi,au];omega
 simp only[po,nO,ao,decide_eq_true_eq,aY,rising,yr,oL];constructor
 ·rintro⟨⟨⟨⟨⟨a1,a2⟩,a3⟩,a4⟩,a5⟩,⟨a6,a7⟩,a8⟩;refine⟨⟨fun k hk=>(a5 k hk).2,⟨⟨⟨a3,a4⟩,a1⟩,a2⟩⟩,⟨a6,fun k hk=>?_⟩,a8⟩;have h1:=a5 k hk;have h2:=a7 k hk;simp[wi,adO,Sj] at h1 h2 ⊢;split at h1<;>omega
 ·rintro⟨⟨a5,⟨⟨⟨a3,a4⟩,a1⟩,a2⟩⟩,⟨a6,a7⟩,a8⟩;refine⟨⟨⟨⟨⟨a1,a2⟩,a3⟩,a4⟩,fun k hk=>?_⟩,⟨a6,fun k hk=>?_⟩,a8⟩
  ·have h1:=a5 k hk;have h2:=a7 k hk;simp[wi,adO,Sj] at h1 h2 ⊢;split at h1<;>(try split)<;>omega
  ·have h2:=a7 k hk;simp[wi] at h2 ⊢;omega
end Rm
namespace Rm
open Go Go.Proofs Cx
theorem Bv {α β:Type}(f:α→β){l:List α}{k:Nat}(h:k<l.length):(l.take (k+1)).map f=(l.take k).map f++[f l[k]]:=by
 rw[nJ h,rU];rfl
theorem iT (i:Int)(n:Nat):au i n=wi i 0 ((n:Int)-1):=by
 rw[nG];simp[wi,au];omega
def yu (o:Order):List Int:=o.choices.map (·.ask)
def BU (o:Order):List Int:=o.rules.map (·.ask)
def p7 (o:Order):Bool:=eD o.choices.length (fun k=>au (o.choices.getD k default).by_ 5)&&(rising (yu o) 0 21&&rising (BU o) 0 21)
theorem aqw (o:Order)(h1:o.choices.length≤100000)(h2:o.rules.length≤100000):aq T 114 [jJ o] (.bool (p7 o)):=by
 refine .of_tree rfl (lA 21 (by kernel_rfl)) as9 ?_;simp[TY];refine gh o.choices.length (fun k=>au (o.choices.getD k default).by_ 5) (fun k=>[.bool false,.none,.int k]) (fun k=>[ints ((o.choices.take k).map (·.ask))]) ?_ (fun k hk ho=>?_) (fun k hk ho hb=>?_) (fun hj=>?_)
 ·simp[ints]
 ·have hw:=bn hk (by omega);have hl:(o.choices.take k).length=k:=by rw[dE];omega
  simp[hk] at ho;rw[Bv _ hk];simp[Rz,E5,hk,hw,ints,hl];refine⟨by omega,_,fR _ _,?_⟩;simp[ho,hw]
 ·have hf:p7 o=false:=by simp only[p7,hb,rP]
  have hl:(o.choices.take k).length=k:=by rw[dE];omega
  simp[hk] at ho;simp[Rz,E5,hk,ints,hl,hf];refine⟨by omega,_,fR _ _,?_⟩;simp[ho]
 ·have hf:p7 o=(rising (yu o) 0 21&&rising (BU o) 0 21):=by simp only[p7,hj,vO]
  rw[hf];simp[Rz,E5];refine aP.forRounds o.rules.length (fun k=>[.none,.int k]) (fun k=>[ints ((o.rules.take k).map (·.ask))]) ?_ (fun k hk=>?_) ?_
  ·simp[ints]
  ·have hw:=bn hk (by omega);have hl:(o.rules.take k).length=k:=by rw[dE];omega
   rw[Bv _ hk];simp[acP,KB,hk,hw,ints,hl];omega
  ·simp[acP,KB];refine⟨_,Fs (yu o) _ _ (by simp[yu];omega),?_⟩;simp;cases e1:rising (yu o) 0 21<;>simp;exact Fs (BU o) _ _ (by simp[BU];omega)
def xA (o:Order)(k:Nat):Bool:=wi (o.choices.getD k default).ask 0 21&&wi (o.choices.getD k default).by_ 0 4&&(k==0||decide ((o.choices.getD (k-1) default).ask<(o.choices.getD k default).ask))
def AQ (o:Order)(k:Nat):Bool:=wi (o.rules.getD k default).ask 0 21&&(k==0||decide ((o.rules.getD (k-1) default).ask<(o.rules.getD k default).ask))
theorem aoZ (o:Order):(eD o.choices.length (xA o)&&eD o.rules.length (AQ o))=p7 o:=by
 rw[nG];simp only[p7,ao,rising,yr,yu,BU,gT];have g1:∀k,k<o.choices.length→(oL (o.choices.map (·.ask)) 0 21 k=true↔wi (o.choices.getD k default).ask 0 21=true∧(k=0∨(o.choices.getD (k-1) default).ask<(o.choices.getD k default).ask)):=by
  intro k hk;have bl:k-1<o.choices.length:=by omega
  simp[oL,hk,bl]
 have g2:∀k,k<o.rules.length→(oL (o.rules.map (·.ask)) 0 21 k=true↔wi (o.rules.getD k default).ask 0 21=true∧(k=0∨(o.rules.getD (k-1) default).ask<(o.rules.getD k default).ask)):=by
  intro k hk;have bl:k-1<o.rules.length:=by omega
  simp[oL,hk,bl]
 constructor
 ·rintro⟨a,b⟩;refine⟨fun k hk=>?_,fun k hk=>(g1 k hk).2 ?_,fun k hk=>(g2 k hk).2 ?_⟩
  ·have:=a k hk;simp[xA,wi,au] at this ⊢;omega
  ·have:=a k hk;simp[xA] at this ⊢;exact⟨this.1.1,this.2⟩
  ·have:=b k hk;simp[AQ] at this ⊢;exact this
 ·rintro⟨c,a,b⟩;refine⟨fun k hk=>?_,fun k hk=>?_⟩
  ·have h1:=(g1 k hk).1 (a k hk);have h2:=c k hk;simp[xA,wi,au] at h1 h2 ⊢;omega
  ·have h1:=(g2 k hk).1 (b k hk);simp[AQ] at h1 ⊢;exact h1
theorem apD (o:Order)(h1:o.choices.length≤100000)(h2:o.rules.length≤100000):aq T 80 [jJ o] (.bool (p7 o)):=by
 rw[←aoZ];refine .of_tree rfl (lA 116 (by kernel_rfl)) asu ?_;simp[Ti];refine gh o.choices.length (xA o) (fun k=>[.bool false,.int k]) (fun _=>[]) ?_ (fun k hk ho=>?_) (fun k hk ho hb=>?_) (fun hj=>?_)
 ·simp
 ·have hw:=bn hk (by omega);simp[xA,hk] at ho;simp[Re,EK,hk];refine⟨_,bI _ _ _,?_⟩;simp[ho.1.1,hk];refine⟨_,bI _ _ _,?_⟩;by_cases fX:0<k
  ·have bl:k-1<o.choices.length:=by omega
   have db:IntKind.i64.wrap ((k:Int)-1)=((k-1:Nat):Int):=by rw[vK (by omega)];omega
   have h3:¬o.choices[k].ask≤o.choices[k-1].ask:=by
        rcases ho.2 with h3|h3
        ·omega
        ·simp[bl] at h3;omega
   simp[ho.1.2,hk,hw,db,h3,fX,bl]
  ·simp[ho.1.2,hk,hw,fX];omega
 ·rw[hb];simp[xA,hk] at ho;simp[Re,EK,hk];refine⟨_,bI _ _ _,?_⟩;cases e1:wi o.choices[k].ask 0 21 with
  |false=>simp
  |true=>
   simp[hk];refine⟨_,bI _ _ _,?_⟩;cases e2:wi o.choices[k].by_ 0 4 with
   |false=>simp
   |true=>
    have h3:=ho e1 e2;have fX:0<k:=by omega
    have bl:k-1<o.choices.length:=by omega
    have db:IntKind.i64.wrap ((k:Int)-1)=((k-1:Nat):Int):=by rw[vK (by omega)];omega
    have eF:=h3.2;simp[bl] at eF;simp[hk,db,eF,fX,bl]
 ·rw[hj];simp[Re,EK];refine gh o.rules.length (AQ o) (fun k=>[.bool false,.int k]) (fun _=>[]) ?_ (fun k hk ho=>?_) (fun k hk ho hb=>?_) (fun hj=>?_)
  ·simp
  ·have hw:=bn hk (by omega);simp[AQ,hk] at ho;simp[Rf,EL,hk];refine⟨_,bI _ _ _,?_⟩;by_cases fX:0<k
   ·have bl:k-1<o.rules.length:=by omega
    have db:IntKind.i64.wrap ((k:Int)-1)=((k-1:Nat):Int):=by rw[vK (by omega)];omega
    have h3:¬o.rules[k].ask≤o.rules[k-1].ask:=by
       rcases ho.2 with h3|h3
       ·omega
       ·simp[bl] at h3;omega
    simp[ho.1,hk,hw,db,h3,fX,bl]
   ·simp[ho.1,hk,hw,fX];omega
  ·rw[hb];simp[AQ,hk] at ho;simp[Rf,EL,hk];refine⟨_,bI _ _ _,?_⟩;cases e1:wi o.rules[k].ask 0 21 with
   |false=>simp
   |true=>
    have h3:=ho e1;have fX:0<k:=by omega
    have bl:k-1<o.rules.length:=by omega
    have db:IntKind.i64.wrap ((k:Int)-1)=((k-1:Nat):Int):=by rw[vK (by omega)];omega
    have eF:=h3.2;simp[bl] at eF;simp[hk,db,eF,fX,bl]
  ·rw[hj];simp[Rf,EL]
def fp (r:Realm):List ByteArray:=r.cities.map (·.name)
def eM (r:Realm):List ByteArray:=r.firms.map (·.name)
def eN (r:Realm):List ByteArray:=r.orders.map (·.name)
theorem aqv (r:Realm)(h1:r.cities.length≤100000)(h2:r.firms.length≤100000)(h3:r.orders.length≤100000):aq T 106 [aZ r] (.tup [strs (fp r),strs (eM r),strs (eN r)]):=by
 refine .of_tree rfl (lA 8 (by kernel_rfl)) as8 ?_;simp[TX];refine aP.forRounds r.cities.length (fun k=>[.none,.int k]) (fun k=>[strs ((r.cities.take k).map (·.name))]) ?_ (fun k hk=>?_) ?_
 ·simp[strs]
 ·have hw:=bn hk (by omega);have hl:(r.cities.take k).length=k:=by rw[dE];omega
  rw[Bv _ hk];simp[acM,Ky,hk,hw,strs,hl];omega
 ·simp[acM,Ky];refine aP.forRounds r.firms.length (fun k=>[.none,.int k]) (fun k=>[strs ((r.firms.take k).map (·.name))]) ?_ (fun k hk=>?_) ?_
  ·simp[strs]
  ·have hw:=bn hk (by omega);have hl:(r.firms.take k).length=k:=by rw[dE];omega
   rw[Bv _ hk];simp[acN,Kz,hk,hw,strs,hl];omega
  ·simp[acN,Kz];refine aP.forRounds r.orders.length (fun k=>[.none,.int k]) (fun k=>[strs ((r.orders.take k).map (·.name))]) ?_ (fun k hk=>?_) ?_
   ·simp[strs]
   ·have hw:=bn hk (by omega);have hl:(r.orders.take k).length=k:=by rw[dE];omega
    rw[Bv _ hk];simp[acO,KA,hk,hw,strs,hl];omega
   ·simp[acO,KA,fp,eM,eN]
end Rm
namespace Rm
open Go Go.Proofs Cx
structure Small (r:Realm):Prop where
 cur:r.currencies.length≤1000
 cities:r.cities.length≤1000
 groups:r.groups.length≤1000
 firms:r.firms.length≤1000
 orders:r.orders.length≤1000
 us:r.usances.length≤1000
 rates:r.rates.length≤1000
 halts:r.halts.length≤1000
 city:∀c,c∈r.cities→c.rest.length≤1000∧c.feasts.length≤1000∧c.shut.length≤1000∧∀y,y∈c.feasts→aN y
 order:∀o,o∈r.orders→o.choices.length≤1000∧o.rules.length≤1000
 rate:∀x,x∈r.rates→aN x.num∧aN x.den
def lR (r:Realm)(k j:Nat):Bool:=(r.usances.getD j default).fr !=(r.usances.getD k default).fr||(r.usances.getD j default).to !=(r.usances.getD k default).to
def yb (r:Realm)(k:Nat):Int:=
 if(au (r.usances.getD k default).fr r.cities.length&&au (r.usances.getD k default).to r.cities.length&&wi (r.usances.getD k default).days 1 20000)=false then 1 else if eD k (lR r k) then 0 else 5
def vI (r:Realm):Int:=if 100<r.usances.length then 6 else cK r.usances.length (yb r)
theorem aqy (r:Realm)(h:Small r):aq T 115 [aZ r] (.int (vI r)):=by
 refine .of_tree rfl (lA 22 (by kernel_rfl)) atc ?_;have hu:=h.us;simp[T3,vI];by_cases h0:100<r.usances.length
 ·have fT:(100:Int)<r.usances.length:=by omega
  have wC:¬r.usances.length≤100:=by omega
  simp[h0,fT,wC]
 have fT:¬(100:Int)<r.usances.length:=by omega
 simp[h0,fT];refine oN r.usances.length (yb r) (fun k=>[.int 0,.int k]) (fun _=>[]) ?_ (fun k hk ho=>?_) (fun k hk ho hb=>?_) (fun hj=>?_)
 ·simp
 ·have hw:=bn hk (by omega);have ha:au r.usances[k].fr r.cities.length=true∧au r.usances[k].to r.cities.length=true∧wi r.usances[k].days 1 20000=true∧eD k (lR r k)=true:=by
   unfold yb at ho;simp only[aJ,bA hk,iz] at ho;cases e1:au r.usances[k].fr r.cities.length<;>cases e2:au r.usances[k].to r.cities.length<;>cases e3:wi r.usances[k].days 1 20000<;>cases e4:eD k (lR r k)<;>simp[e1,e2,e3,e4] at ho ⊢
  obtain⟨a1,a2,a3,a4⟩:=ha;simp[wi] at a3;have a5:¬r.usances[k].days<1:=by omega
  have a6:¬20000<r.usances[k].days:=by omega
  simp[RD,E8,hk];refine⟨_,fR _ _,?_⟩;simp[a1];refine⟨_,fR _ _,?_⟩;simp[a2,a5,a6];refine⟨by omega,gh k (lR r k) (fun j=>[.int 0,.int j]) (fun _=>[]) ?_ (fun j hj eH=>?_) (fun j hj eH dk=>?_) (fun qU=>?_)⟩
  ·simp
  ·have xd:=bn hj (by omega);have ct:j<r.usances.length:=by omega
   have hm:j<min k r.usances.length:=by omega
   simp[lR,ct,hk] at eH;simp[KC,Bj,hj,ct,hk,xd,hm];intro e e';rcases eH with h|h
   ·exact absurd e h
   ·exact absurd e' h
  ·rw[a4] at dk;cases dk
  ·simp[KC,Bj,hw];omega
 ·simp[RD,E8,hk,hb];refine⟨_,fR _ _,?_⟩;unfold yb at ho ⊢;simp only[aJ,bA hk,iz] at ho ⊢;cases e1:au r.usances[k].fr r.cities.length
  ·simp
  simp;refine⟨_,fR _ _,?_⟩;cases e2:au r.usances[k].to r.cities.length
  ·simp
  cases e3:wi r.usances[k].days 1 20000
  ·simp[wi] at e3;by_cases g:r.usances[k].days<1
   ·simp[g]
   ·simp[g,e3 (by omega)]
  have MR:=e3;simp[wi] at MR;have a5:¬r.usances[k].days<1:=by omega
  have a6:¬20000<r.usances[k].days:=by omega
  simp[e1,e2,e3] at ho;simp[a5,a6];refine⟨by omega,gh k (lR r k) (fun j=>[.int 0,.int j]) (fun _=>[]) ?_ (fun j hj eH=>?_) (fun j hj eH dk=>?_) (fun qU=>?_)⟩
  ·simp
  ·have xd:=bn hj (by omega);have ct:j<r.usances.length:=by omega
   have hm:j<min k r.usances.length:=by omega
   simp[lR,ct,hk] at eH;simp[KC,Bj,hj,ct,hk,xd,hm];intro e e';rcases eH with h|h
   ·exact absurd e h
   ·exact absurd e' h
  ·have ct:j<r.usances.length:=by omega
   have hm:j<min k r.usances.length:=by omega
   simp[lR,ct,hk] at eH;simp[KC,Bj,hj,ct,hk,ho,hm]
   first|exact eH|simp[eH]
  ·rw[qU] at ho;cases ho
 ·simp[RD,E8,hj]
theorem apJ (r:Realm)(h:Small r):aq T 54 [aZ r] (.int (vI r)):=by
 refine .of_tree rfl (lA 117 (by kernel_rfl)) asD ?_;have hu:=h.us;have hc:=h.cities;simp[Ts,vI];by_cases h0:100<r.usances.length
 ·have fT:(100:Int)<r.usances.length:=by omega
  have wC:¬r.usances.length≤100:=by omega
  simp[h0,fT,wC]
 have fT:¬(100:Int)<r.usances.length:=by omega
 simp[h0,fT];refine oN r.usances.length (yb r) (fun k=>[.int 0,.int k]) (fun _=>[]) ?_ (fun k hk ho=>?_) (fun k hk ho hb=>?_) (fun hj=>?_)
 ·simp
 ·have hw:=bn hk (by omega);have ha:au r.usances[k].fr r.cities.length=true∧au r.usances[k].to r.cities.length=true∧wi r.usances[k].days 1 20000=true∧eD k (lR r k)=true:=by
   unfold yb at ho;simp only[aJ,bA hk,iz] at ho;cases e1:au r.usances[k].fr r.cities.length<;>cases e2:au r.usances[k].to r.cities.length<;>cases e3:wi r.usances[k].days 1 20000<;>cases e4:eD k (lR r k)<;>simp[e1,e2,e3,e4] at ho ⊢
  obtain⟨a1,a2,a3,a4⟩:=ha;rw[iT] at a1 a2;simp[Rq,EW,hk,rN _ (show r.cities.length≤4294967296 by omega)];refine⟨_,bI _ _ _,?_⟩;simp[a1,rN _ (show r.cities.length≤4294967296 by omega)];refine⟨_,bI _ _ _,?_⟩;simp[a2];refine⟨_,bI _ _ _,?_⟩;simp[a3];refine gh k (lR r k) (fun j=>[.int 0,.int j]) (fun _=>[]) ?_ (fun j hj eH=>?_) (fun j hj eH dk=>?_) (fun qU=>?_)
  ·simp
  ·have xd:=bn hj (by omega);have ct:j<r.usances.length:=by omega
   simp[lR,ct,hk] at eH;simp[Kq,Bg,hj,ct,hk,xd];intro e e';rcases eH with h|h
   ·exact absurd e h
   ·exact absurd e' h
  ·rw[a4] at dk;cases dk
  ·simp[Kq,Bg,hw]
 ·simp[Rq,EW,hk,hb,rN _ (show r.cities.length≤4294967296 by omega)];refine⟨_,bI _ _ _,?_⟩;unfold yb at ho ⊢;simp only[aJ,bA hk,iz,iT] at ho ⊢;cases e1:wi r.usances[k].fr 0 ((r.cities.length:Int)-1)
  ·simp
  simp[rN _ (show r.cities.length≤4294967296 by omega)];refine⟨_,bI _ _ _,?_⟩;cases e2:wi r.usances[k].to 0 ((r.cities.length:Int)-1)
  ·simp
  simp;refine⟨_,bI _ _ _,?_⟩;cases e3:wi r.usances[k].days 1 20000
  ·simp
  simp[e1,e2,e3] at ho;simp;refine gh k (lR r k) (fun j=>[.int 0,.int j]) (fun _=>[]) ?_ (fun j hj eH=>?_) (fun j hj eH dk=>?_) (fun qU=>?_)
  ·simp
  ·have xd:=bn hj (by omega);have ct:j<r.usances.length:=by omega
   simp[lR,ct,hk] at eH;simp[Kq,Bg,hj,ct,hk,xd];intro e e';rcases eH with h|h
   ·exact absurd e h
   ·exact absurd e' h
  ·have ct:j<r.usances.length:=by omega
   simp[lR,ct,hk] at eH;simp[Kq,Bg,hj,ct,hk,ho]
   first|exact eH|simp[eH]
  ·rw[qU] at ho;cases ho
 ·simp[Rq,EW,hj]
def xR (r:Realm)(k:Nat):Bool:=au (r.rates.getD k default).fr r.currencies.length&&au (r.rates.getD k default).to r.currencies.length&&((r.rates.getD k default).fr !=(r.rates.getD k default).to)&&
 wi (r.rates.getD k default).num 1 1073741824&&wi (r.rates.getD k default).den 1 1073741824&&wi (r.rates.getD k default).since 0 100000
def uq (r:Realm)(k:Nat):Bool:=au (r.halts.getD k default).order r.orders.length&&wi (r.halts.getD k default).fr 0 (r.halts.getD k default).to&&decide ((r.halts.getD k default).to≤100000)
def oK (r:Realm):Int:=if 100<r.rates.length then 6 else if eD r.rates.length (xR r)=false then 1 else if 20<r.halts.length then 6 else if eD r.halts.length (uq r) then 0 else 1
theorem I2 {n:Int}(h:aN n)(m:Int)(hm:0≤m∧m≤4294967296):au (IntKind.i64.wrap (n-1)) m=wi n 1 m:=by
 unfold aN at h;by_cases e:n=-9223372036854775808
 ·subst e;have:IntKind.i64.wrap (-9223372036854775808-1)=9223372036854775807:=by decide
  rw[this,nG];simp[au,wi];omega
 ·rw[bL (by omega),nG];simp[au,wi];omega
theorem YC (n:Int):au n 100001=wi n 0 100000:=by rw[nG];simp[au,wi];omega
theorem aqx (r:Realm)(h:Small r):aq T 116 [aZ r] (.int (oK r)):=by
 refine .of_tree rfl (lA 23 (by kernel_rfl)) ata ?_;have hu:=h.rates;have hh:=h.halts;simp[TZ,oK];by_cases h0:100<r.rates.length
 ·have fT:(100:Int)<r.rates.length:=by omega
  have wC:¬r.rates.length≤100:=by omega
  simp[h0,fT,wC]
 have fT:¬(100:Int)<r.rates.length:=by omega
 simp[h0,fT];have key:∀k (hk:k<r.rates.length),∀{ρ:Env} {Q:Out→Prop},True:=fun _ _ _ _=>trivial;refine gh r.rates.length (xR r) (fun k=>[.int 0,.int k]) (fun _=>[]) ?_ (fun k hk ho=>?_) (fun k hk ho hb=>?_) (fun hj=>?_)
 ·simp
 ·have hw:=bn hk (by omega);have hI:=h.rate _ (de hk);simp[xR,hk] at ho;obtain⟨⟨⟨⟨⟨a1,a2⟩,a3⟩,a4⟩,a5⟩,a6⟩:=ho;simp[RA,E6,hk];refine⟨_,fR _ _,?_⟩;simp[a1];refine⟨_,fR _ _,?_⟩;simp[a2,a3];refine⟨_,fR _ _,?_⟩;simp[I2 hI.1,a4];refine⟨_,fR _ _,?_⟩;simp[I2 hI.2,a5];refine⟨_,fR _ _,?_⟩;simp[YC,a6,hw]
 ·have hI:=h.rate _ (de hk);rw[hb];simp[xR,hk] at ho;simp[RA,E6,hk];refine⟨_,fR _ _,?_⟩;cases e1:au r.rates[k].fr r.currencies.length
  ·simp
  simp;refine⟨_,fR _ _,?_⟩;cases e2:au r.rates[k].to r.currencies.length
  ·simp
  by_cases e3:r.rates[k].fr=r.rates[k].to
  ·simp[e3]
  simp[e3];refine⟨_,fR _ _,?_⟩;rw[I2 hI.1 _ (by omega)];cases e4:wi r.rates[k].num 1 1073741824
  ·simp
  simp;refine⟨_,fR _ _,?_⟩;rw[I2 hI.2 _ (by omega)];cases e5:wi r.rates[k].den 1 1073741824
  ·simp
  simp;refine⟨_,fR _ _,?_⟩;rw[YC];simp[ho e1 e2 e3 e4 e5]
 ·rw[hj];simp[RA,E6];by_cases h1:20<r.halts.length
  ·have cE:(20:Int)<r.halts.length:=by omega
   have Ng:¬r.halts.length≤20:=by omega
   simp[h1,cE,Ng]
  have cE:¬(20:Int)<r.halts.length:=by omega
  simp[h1,cE];refine gh r.halts.length (uq r) (fun k=>[.int 0,.int k]) (fun _=>[]) ?_ (fun k hk ho=>?_) (fun k hk ho hb=>?_) (fun hj=>?_)
  ·simp
  ·have hw:=bn hk (by omega);simp[uq,wi,hk] at ho;obtain⟨⟨a1,a2⟩,a3⟩:=ho;have b1:¬r.halts[k].fr<0:=by omega
   have b2:¬r.halts[k].to<r.halts[k].fr:=by omega
   have b3:¬100000<r.halts[k].to:=by omega
   simp[RB,E7,hk];refine⟨_,fR _ _,?_⟩;simp[a1,b1,b2,b3,hw]
  ·rw[hb];simp[uq,wi,hk] at ho;simp[RB,E7,hk];refine⟨_,fR _ _,?_⟩;cases e1:au r.halts[k].order r.orders.length
   ·simp
   have:=ho e1;by_cases b1:r.halts[k].fr<0
   ·simp[b1]
   by_cases b2:r.halts[k].to<r.halts[k].fr
   ·simp[b1,b2]
   have b3:100000<r.halts[k].to:=this (by omega) (by omega);simp[b1,b2,b3]
  ·rw[hj];simp[RB,E7]
theorem apI (r:Realm)(h:Small r):aq T 55 [aZ r] (.int (oK r)):=by
 refine .of_tree rfl (lA 118 (by kernel_rfl)) asC ?_;have hu:=h.rates;have hh:=h.halts;have hc:=rN r.currencies.length (by have:=h.cur;omega);have IQ:=rN r.orders.length (by have:=h.orders;omega);simp[Tr,oK];by_cases h0:100<r.rates.length
 ·have fT:(100:Int)<r.rates.length:=by omega
  have wC:¬r.rates.length≤100:=by omega
  simp[h0,fT,wC]
 have fT:¬(100:Int)<r.rates.length:=by omega
 simp[h0,fT];refine gh r.rates.length (xR r) (fun k=>[.int 0,.int k]) (fun _=>[]) ?_ (fun k hk ho=>?_) (fun k hk ho hb=>?_) (fun hj=>?_)
 ·simp
 ·have hw:=bn hk (by omega);simp[xR,hk,iT] at ho;obtain⟨⟨⟨⟨⟨a1,a2⟩,a3⟩,a4⟩,a5⟩,a6⟩:=ho;simp[Ro,EU,hk,hc];refine⟨_,bI _ _ _,?_⟩;simp[a1,hc];refine⟨_,bI _ _ _,?_⟩;simp[a2,a3];refine⟨_,bI _ _ _,?_⟩;simp[a4];refine⟨_,bI _ _ _,?_⟩;simp[a5];refine⟨_,bI _ _ _,?_⟩;simp[a6,hw]
 ·rw[hb];simp[xR,hk,iT] at ho;simp[Ro,EU,hk,hc];refine⟨_,bI _ _ _,?_⟩;cases e1:wi r.rates[k].fr 0 ((r.currencies.length:Int)-1)
  ·simp
  simp[hc];refine⟨_,bI _ _ _,?_⟩;cases e2:wi r.rates[k].to 0 ((r.currencies.length:Int)-1)
  ·simp
  by_cases e3:r.rates[k].fr=r.rates[k].to
  ·simp[e3]
  simp[e3];refine⟨_,bI _ _ _,?_⟩;cases e4:wi r.rates[k].num 1 1073741824
  ·simp
  simp;refine⟨_,bI _ _ _,?_⟩;cases e5:wi r.rates[k].den 1 1073741824
  ·simp
  simp;refine⟨_,bI _ _ _,?_⟩;simp[ho e1 e2 e3 e4 e5]
 ·rw[hj];simp[Ro,EU];by_cases h1:20<r.halts.length
  ·have cE:(20:Int)<r.halts.length:=by omega
   have Ng:¬r.halts.length≤20:=by omega
   simp[h1,cE,Ng]
  have cE:¬(20:Int)<r.halts.length:=by omega
  simp[h1,cE];refine gh r.halts.length (uq r) (fun k=>[.int 0,.int k]) (fun _=>[]) ?_ (fun k hk ho=>?_) (fun k hk ho hb=>?_) (fun hj=>?_)
  ·simp
  ·have hw:=bn hk (by omega);simp[uq,hk,iT] at ho;obtain⟨⟨a1,a2⟩,a3⟩:=ho;have b3:¬100000<r.halts[k].to:=by omega
   simp[Rp,EV,hk,IQ];refine⟨_,bI _ _ _,?_⟩;simp[a1];refine⟨_,bI _ _ _,?_⟩;simp[a2,b3,hw]
  ·rw[hb];simp[uq,hk,iT] at ho;simp[Rp,EV,hk,IQ];refine⟨_,bI _ _ _,?_⟩;cases e1:wi r.halts[k].order 0 ((r.orders.length:Int)-1)
   ·simp
   simp;refine⟨_,bI _ _ _,?_⟩;cases e2:wi r.halts[k].fr 0 r.halts[k].to
   ·simp
   simp[ho e1 e2]
  ·rw[hj];simp[Rp,EV]
end Rm
namespace Rm
open Go Go.Proofs Cx
def eT:List Int→Int
 |[]=>0
 |x::l=>if x=0 then eT l else x
theorem KR:∀{l:List Int},eT l=0↔∀x,x∈l→x=0
 |[]=>by simp[eT]
 |x::l=>by
  simp only[eT,cD,forall_eq_or_imp];by_cases h:x=0
  ·simp[h,KR (l:=l)]
  ·simp[h]
def mY (r:Realm)(i:Nat):Bool:=au (r.firms.getD i default).city r.cities.length&&au (r.firms.getD i default).group r.groups.length
def pk (r:Realm)(i:Nat):Bool:=nO r (r.cities.getD i default)
def nu (r:Realm)(i:Nat):Bool:=p7 (r.orders.getD i default)
def wB (r:Realm)(i:Nat):Bool:=au (r.groups.getD i default).grade 10
def um (r:Realm):Int:=if 20<r.groups.length then 6 else if eD r.groups.length (wB r) then 0 else 1
def jd (r:Realm):Int:=eT [er r.currencies 8 (fun _=>true),er (fp r) 40 (pk r),um r,er (eM r) 200 (mY r),er (eN r) 20 (nu r),vI r,oK r]
theorem afr (i:Int):aq T 108 [.int i] (.bool true):=by
 refine .of_tree rfl (lA 14 (by kernel_rfl)) asW ?_;simp[TL]
theorem afs (r:Realm)(h:Small r)(i:Nat)(hi:i<r.cities.length):aq T 109 [.int i,.ref (aZ r)] (.bool (pk r i)):=by
 refine .of_tree rfl (lA 15 (by kernel_rfl)) asX ?_;obtain⟨h1,h2,h3,h4⟩:=h.city _ (de hi);simp[TM,hi,pk];exact aqs r r.cities[i] (by omega) (by omega) (by omega)
theorem afu (r:Realm)(i:Nat)(hi:i<r.firms.length):aq T 112 [.int i,.ref (aZ r)] (.bool (mY r i)):=by
 refine .of_tree rfl (lA 19 (by kernel_rfl)) asY ?_;simp[TN,hi,mY];refine⟨_,fR _ _,?_⟩;simp[hi];cases e1:au r.firms[i].city r.cities.length<;>simp;exact fR _ _
theorem afv (r:Realm)(h:Small r)(i:Nat)(hi:i<r.orders.length):aq T 113 [.int i,.ref (aZ r)] (.bool (nu r i)):=by
 refine .of_tree rfl (lA 20 (by kernel_rfl)) asZ ?_;obtain⟨h1,h2⟩:=h.order _ (de hi);simp[TO,hi,nu];exact aqw r.orders[i] (by omega) (by omega)
theorem aqr (r:Realm)(h:Small r):aq T 85 [aZ r] (.int (jd r)):=by
 refine .of_tree rfl (lA 7 (by kernel_rfl)) as0 ?_;have g1:=h.cur;have g2:=h.cities;have g3:=h.firms;have g4:=h.orders;have g5:=h.groups;simp[TK];refine⟨_,aqv r (by omega) (by omega) (by omega),?_⟩;simp;refine⟨_,KI r.currencies 8 108 [] (fun _=>true) (fun i _=>afr _) (by omega),?_⟩;unfold jd;generalize e1:er r.currencies 8 (fun _=>true)=x1;by_cases z1:x1=0
 case neg=>simp[z1,eT]
 simp[z1,eT];refine⟨_,KI (fp r) 40 109 [.ref (aZ r)] (pk r) (fun i hi=>afs r h i (by simpa [fp] using hi)) (by simp[fp];omega),?_⟩;generalize e2:er (fp r) 40 (pk r)=x2;by_cases z2:x2=0
 case neg=>simp[z2]
 simp[z2];by_cases z3:20<r.groups.length
 ·have U3:(20:Int)<r.groups.length:=by omega
  simp[U3,um,z3]
 have U3:¬(20:Int)<r.groups.length:=by omega
 simp[U3,um,z3];refine gh r.groups.length (wB r) (fun k=>[.int 0,.int k]) (fun _=>[]) ?_ (fun k hk ho=>?_) (fun k hk ho hb=>?_) (fun hj=>?_)
 ·simp
 ·have hw:=bn hk (by omega);simp[wB,hk] at ho;simp[Ru,E0,hk];refine⟨_,fR _ _,?_⟩;simp[ho,hw]
 ·simp[wB,hk] at ho;rw[hb];simp[Ru,E0,hk];refine⟨_,fR _ _,?_⟩;simp[ho]
 ·rw[hj];simp[Ru,E0];refine⟨_,KI (eM r) 200 112 [.ref (aZ r)] (mY r) (fun i hi=>afu r i (by simpa [eM] using hi)) (by simp[eM];omega),?_⟩;generalize e4:er (eM r) 200 (mY r)=x4;by_cases z4:x4=0
  case neg=>simp[z4]
  simp[z4];refine⟨_,KI (eN r) 20 113 [.ref (aZ r)] (nu r) (fun i hi=>afv r h i (by simpa [eN] using hi)) (by simp[eN];omega),?_⟩;generalize e5:er (eN r) 20 (nu r)=x5;by_cases z5:x5=0
  case neg=>simp[z5]
  simp[z5];refine⟨_,aqy r h,?_⟩;generalize e6:vI r=x6;by_cases z6:x6=0
  case neg=>simp[z6]
  simp[z6];have e7:(if oK r=0 then 0 else oK r)=oK r:=by split<;>simp_all
  rw[e7];exact aqx r h
theorem ahn (l:List ByteArray)(k:Nat):kh l (fun _=>true) k=gN l k:=by
 unfold kh;by_cases h:gN l k=0<;>simp[h]
theorem zG {l:List ByteArray}{g:Nat→Bool}{k:Nat}(h:kh l g k=0):gN l k=0∧g k=true:=by
 unfold kh at h;by_cases h1:gN l k=0
 ·simp[h1] at h;exact⟨h1,h⟩
 ·simp[h1] at h
theorem M7 {l:List ByteArray}{g:Nat→Bool}{k:Nat}(h:kh l g k≠0):(gN l k≠0∧kh l g k=gN l k)∨(gN l k=0∧g k=false∧kh l g k=1):=by
 unfold kh at h ⊢;by_cases h1:gN l k=0
 ·simp[h1] at h ⊢;simp[h]
 ·simp[h1]
theorem apF (r:Realm)(h:Small r):aq T 51 [aZ r] (.int (eT [er r.currencies 8 (fun _=>true),er (fp r) 40 (pk r)])):=by
 refine .of_tree rfl (lA 106 (by kernel_rfl)) asy ?_;have g1:=h.cur;have g2:=h.cities;have g4:=h.orders;simp[Tn];unfold er;by_cases z1:(8:Int)<r.currencies.length
 ·simp[z1,eT]
 simp[z1,eT];refine oN r.currencies.length (kh r.currencies (fun _=>true)) (fun k=>[.int 0,.int k]) (fun _=>[]) ?_ (fun k hk ho=>?_) (fun k hk ho hb=>?_) (fun hj=>?_)
 ·simp
 ·have hw:=bn hk (by omega);simp[Ri,EO,hk];refine⟨_,Eu _ k hk (by omega),?_⟩;simp[(zG ho).1,hw]
 ·rw[hb];simp[Ri,EO,hk,ho];rw[ahn];exact Eu _ k hk (by omega)
 ·rw[hj];simp[Ri,EO];have hlen:(fp r).length=r.cities.length:=by simp[fp]
  rw[hlen];by_cases z2:(40:Int)<r.cities.length
  ·simp[z2]
  simp[z2];have key:∀k (hk:k<r.cities.length),((fp r).take k).length=k∧D.list (List.take k (List.map str (fp r))++[str r.cities[k].name])=strs ((fp r).take (k+1))∧
     aq T 78 [strs ((fp r).take (k+1)),.int k] (.int (gN (fp r) k))∧aq T 79 [aZ r,lj r.cities[k]] (.bool (pk r k)):=by
   intro k hk;have aW:k<(fp r).length:=by omega
   have hg:(fp r)[k]=r.cities[k].name:=by simp[fp]
   have hs:(fp r).take (k+1)=(fp r).take k++[(fp r)[k]]:=nJ aW;have hn:=Eu ((fp r).take (k+1)) k (by rw[dE];omega) (by rw[dE];omega);rw[Pw _ _ _ (by omega)] at hn;obtain⟨c1,c2,c3,c4⟩:=h.city _ (de hk);have hc:=apC r r.cities[k] (by omega) (by omega) (by omega) (by omega) (by omega) c4;rw[afC] at hc;exact⟨by rw[dE];omega,by rw[hs,hg];simp[strs],hn,by simpa [pk,hk] using hc⟩
  refine oN r.cities.length (kh (fp r) (pk r)) (fun k=>[.int 0,.none,.int k]) (fun k=>[strs ((fp r).take k)]) ?_ (fun k hk ho=>?_) (fun k hk ho hb=>?_) (fun hj=>?_)
  ·simp[strs]
  ·have hw:=bn hk (by omega);obtain⟨hl,eI,hn,hc⟩:=key k hk;obtain⟨o1,o2⟩:=zG ho;rw[o1] at hn;rw[o2] at hc;simp[Rj,EP,hk,hl,eI,arj];refine⟨by omega,_,hn,?_⟩;simp[hk];refine⟨_,hc,?_⟩;simp[hw]
  ·rw[hb];obtain⟨hl,eI,hn,hc⟩:=key k hk;simp[Rj,EP,hk,hl,eI,ho];refine⟨by omega,_,hn,?_⟩;rcases M7 ho with⟨o1,o2⟩|⟨o1,o2,o3⟩
   ·simp[o1,o2]
   ·rw[o2] at hc;simp[o1,o3,hk];refine⟨_,hc,?_⟩;simp
  ·rw[hj];simp[Rj,EP]
theorem apG (r:Realm)(h:Small r):aq T 52 [aZ r] (.int (eT [um r,er (eM r) 200 (mY r)])):=by
 refine .of_tree rfl (lA 114 (by kernel_rfl)) asz ?_;have g1:=h.groups;have g2:=h.firms;have g3:=h.cities;have w3:=rN r.cities.length (by omega);have w1:=rN r.groups.length (by omega);simp[To];by_cases z1:20<r.groups.length
 ·have U2:(20:Int)<r.groups.length:=by omega
  simp[U2,um,z1,eT]
 have U2:¬(20:Int)<r.groups.length:=by omega
 simp[U2,um,z1,eT];refine gh r.groups.length (wB r) (fun k=>[.int 0,.int k]) (fun _=>[]) ?_ (fun k hk ho=>?_) (fun k hk ho hb=>?_) (fun hj=>?_)
 ·simp
 ·have hw:=bn hk (by omega);simp[wB,hk] at ho;have e:wi r.groups[k].grade 0 9=au r.groups[k].grade 10:=by rw[nG];simp[wi,au];omega
  simp[Rk,ER,hk];refine⟨_,bI _ _ _,?_⟩;simp[e,ho,hw]
 ·simp[wB,hk] at ho;have e:wi r.groups[k].grade 0 9=au r.groups[k].grade 10:=by rw[nG];simp[wi,au];omega
  rw[hb];simp[Rk,ER,hk];refine⟨_,bI _ _ _,?_⟩;simp[e,ho]
 ·rw[hj];simp[Rk,ER];unfold er;have hlen:(eM r).length=r.firms.length:=by simp[eM]
  rw[hlen];by_cases z2:(200:Int)<r.firms.length
  ·simp[z2]
  simp[z2];have key:∀k (hk:k<r.firms.length),((eM r).take k).length=k∧D.list (List.take k (List.map str (eM r))++[str r.firms[k].name])=strs ((eM r).take (k+1))∧
     aq T 78 [strs ((eM r).take (k+1)),.int k] (.int (gN (eM r) k))∧mY r k=(wi r.firms[k].city 0 ((r.cities.length:Int)-1)&&wi r.firms[k].group 0 ((r.groups.length:Int)-1)):=by
   intro k hk;have aW:k<(eM r).length:=by omega
   have hg:(eM r)[k]=r.firms[k].name:=by simp[eM]
   have hs:(eM r).take (k+1)=(eM r).take k++[(eM r)[k]]:=nJ aW;have hn:=Eu ((eM r).take (k+1)) k (by rw[dE];omega) (by rw[dE];omega);rw[Pw _ _ _ (by omega)] at hn;exact⟨by rw[dE];omega,by rw[hs,hg];simp[strs],hn,by simp[mY,hk,iT]⟩
  refine oN r.firms.length (kh (eM r) (mY r)) (fun k=>[.int 0,.none,.int k]) (fun k=>[strs ((eM r).take k)]) ?_ (fun k hk ho=>?_) (fun k hk ho hb=>?_) (fun hj=>?_)
  ·simp[strs]
  ·have hw:=bn hk (by omega);obtain⟨hl,eI,hn,hc⟩:=key k hk;obtain⟨o1,o2⟩:=zG ho;rw[o1] at hn;rw[o2] at hc;have uu:=Bool.and_eq_true_iff.1 hc.symm;simp[Rl,ES,hk,hl,eI];refine⟨by omega,_,hn,?_⟩;simp[hk,w3];refine⟨_,bI _ _ _,?_⟩;simp[uu.1,hk,w1];refine⟨_,bI _ _ _,?_⟩;simp[uu.2,hw]
  ·rw[hb];obtain⟨hl,eI,hn,hc⟩:=key k hk;simp[Rl,ES,hk,hl,eI,ho];refine⟨by omega,_,hn,?_⟩;rcases M7 ho with⟨o1,o2⟩|⟨o1,o2,o3⟩
   ·simp[o1,o2]
   ·rw[o2] at hc;simp[o1,o3,hk,w3];refine⟨_,bI _ _ _,?_⟩;cases e1:wi r.firms[k].city 0 ((r.cities.length:Int)-1)
    ·simp
    rw[e1,vO] at hc;simp[hk,w1];refine⟨_,bI _ _ _,?_⟩;simp[←hc]
  ·rw[hj];simp[Rl,ES]
theorem apH (r:Realm)(h:Small r):aq T 53 [aZ r] (.int (er (eN r) 20 (nu r))):=by
 refine .of_tree rfl (lA 115 (by kernel_rfl)) asB ?_;have g2:=h.orders;simp[Tq];unfold er;have hlen:(eN r).length=r.orders.length:=by simp[eN]
 rw[hlen];by_cases z2:(20:Int)<r.orders.length
 ·simp[z2]
 simp[z2];have key:∀k (hk:k<r.orders.length),((eN r).take k).length=k∧D.list (List.take k (List.map str (eN r))++[str r.orders[k].name])=strs ((eN r).take (k+1))∧
  aq T 78 [strs ((eN r).take (k+1)),.int k] (.int (gN (eN r) k))∧aq T 80 [jJ r.orders[k]] (.bool (nu r k)):=by
  intro k hk;have aW:k<(eN r).length:=by omega
  have hg:(eN r)[k]=r.orders[k].name:=by simp[eN]
  have hs:(eN r).take (k+1)=(eN r).take k++[(eN r)[k]]:=nJ aW;have hn:=Eu ((eN r).take (k+1)) k (by rw[dE];omega) (by rw[dE];omega);rw[Pw _ _ _ (by omega)] at hn;obtain⟨c1,c2⟩:=h.order _ (de hk);exact⟨by rw[dE];omega,by rw[hs,hg];simp[strs],hn,by simpa [nu,hk] using apD r.orders[k] (by omega) (by omega)⟩
 refine oN r.orders.length (kh (eN r) (nu r)) (fun k=>[.int 0,.none,.int k]) (fun k=>[strs ((eN r).take k)]) ?_ (fun k hk ho=>?_) (fun k hk ho hb=>?_) (fun hj=>?_)
 ·simp[strs]
 ·have hw:=bn hk (by omega);obtain⟨hl,eI,hn,hc⟩:=key k hk;obtain⟨o1,o2⟩:=zG ho;rw[o1] at hn;rw[o2] at hc;simp[Rn,ET,hk,hl,eI];refine⟨by omega,_,hn,?_⟩;simp[hk];refine⟨_,hc,?_⟩;simp[hw]
 ·rw[hb];obtain⟨hl,eI,hn,hc⟩:=key k hk;simp[Rn,ET,hk,hl,eI,ho];refine⟨by omega,_,hn,?_⟩;rcases M7 ho with⟨o1,o2⟩|⟨o1,o2,o3⟩
  ·simp[o1,o2]
  ·rw[o2] at hc;simp[o1,o3,hk];refine⟨_,hc,?_⟩;simp
 ·rw[hj];simp[Rn,ET]
theorem acn (r:Realm)(h:Small r):aq T 22 [aZ r] (.int (jd r)):=by
 refine .of_tree rfl (lA 105 (by kernel_rfl)) asp ?_
 have e:jd r=eT [eT [er r.currencies 8 (fun _=>true),er (fp r) 40 (pk r)],eT [um r,er (eM r) 200 (mY r)],er (eN r) 20 (nu r),vI r,oK r]:=by
  unfold jd;simp only[eT];split<;>(try split)<;>(try split)<;>(try split)<;>simp_all
 rw[e];simp[Td];refine⟨_,apF r h,?_⟩;have h1:=apG r h;generalize eT [er r.currencies 8 (fun _=>true),er (fp r) 40 (pk r)]=x1 at*;generalize eT [um r,er (eM r) 200 (mY r)]=x2 at*;have h2:=apH r h;generalize er (eN r) 20 (nu r)=x3 at*;have h3:=apJ r h;generalize vI r=x4 at*;have h4:=apI r h;generalize oK r=x5 at*;by_cases z1:x1=0
 case neg=>simp[z1,eT]
 simp[z1,eT];refine⟨_,h1,?_⟩;by_cases z2:x2=0
 case neg=>simp[z2]
 simp[z2];refine⟨_,h2,?_⟩;by_cases z3:x3=0
 case neg=>simp[z3]
 simp[z3];refine⟨_,h3,?_⟩;by_cases z4:x4=0
 case neg=>simp[z4]
 simp[z4];have e7:(if x5=0 then 0 else x5)=x5:=by split<;>simp_all
 rw[e7];exact h4
end Rm
namespace Rm
open Go Go.Proofs Cx
def jZ:Nat→Tm→Int→Int
 |0,_,_=>-1
 |L+1,t,n=>t.args.foldl (fun m a=>if 0≤m then jZ L a m else m) (n-1)
theorem size_le:∀(L:Nat) (t:Tm) (n:Int),0≤n→-1≤jZ L t n∧jZ L t n≤n
 |0,t,n,h=>by simp[jZ];omega
 |L+1,t,n,h=>by
  have key:∀(l:List Tm) (m:Int),-1≤m→m≤n→-1≤l.foldl (fun m a=>if 0≤m then jZ L a m else m) m∧l.foldl (fun m a=>if 0≤m then jZ L a m else m) m≤n:=by
   intro l
   induction l with
   |nil=>intro m h1 h2;exact⟨h1,h2⟩
   |cons a l ih=>
    intro m h1 h2;simp only[FZ];split
    ·rename_i hm;have:=size_le L a m hm;exact ih _ this.1 (by omega)
    ·exact ih _ h1 h2
  exact key _ _ (by omega) (by omega)
theorem adv (L:Nat):∀(l:List Tm) (m:Int),m<0→l.foldl (fun m a=>if 0≤m then jZ L a m else m) m=m
 |[],m,h=>rfl
 |a::l,m,h=>by simp only[FZ];rw[if_neg (by omega)];exact adv L l m h
theorem ait {α β:Type}(f:β→α→β)(b:β){l:List α}{k:Nat}(h:k<l.length):(l.take (k+1)).foldl f b=f ((l.take k).foldl f b) l[k]:=by
 rw[nJ h,FY];rfl
theorem ais {α β:Type}(f:β→α→β)(b:β)(l:List α)(k:Nat):l.foldl f b=(l.drop k).foldl f ((l.take k).foldl f b):=by
 rw[←FY,Lw]
theorem _root_.Cx.Tm.OK.len {t:Tm}(h:t.OK):t.args.length≤9223372036854775807:=by cases h with|mk o n xs h1 h2 h3 h4=>exact h3
theorem _root_.Cx.Tm.OK.arg {t:Tm}(h:t.OK){a:Tm}(ha:a∈t.args):a.OK:=by cases h with|mk o n xs h1 h2 h3 h4=>exact h4 a ha
theorem acw:∀(L:Nat) (t:Tm) (n:Int),t.OK→0≤n→n≤1000→L≤1000→aq T 96 [dO t,.int n,.int L] (.int (jZ L t n))
 |0,t,n,ht,h0,h1,hL=>by
  refine .of_tree rfl VM adP ?_;simp[La,jZ]
 |L+1,t,n,ht,h0,h1,hL=>by
  refine .of_tree rfl VM adP ?_;have q7:IntKind.i64.wrap (n-1)=n-1:=bL (by omega);have hl:=ht.len;have ly:¬((L:Int)+1<1):=by omega
  simp[La,q7,ly]
  let g:Nat→Int:=fun k=>(t.args.take k).foldl (fun m a=>if 0≤m then jZ L a m else m) (n-1)
  have gb:∀k,-1≤g k∧g k≤1000:=by
   intro k;have:g k=jZ (L+1) (.mk 0 0 (t.args.take k)) n:=rfl;have:=size_le (L+1) (.mk 0 0 (t.args.take k)) n h0;omega
  refine .scan t.args.length (fun k=>0≤g k) (fun k=>[.int (g k),.int k]) (fun _=>[]) ?_ (fun k hk hj ho=>?_) (fun k hk hj ho=>?_) (fun hj=>?_)
  ·simp[g,q7]
  ·have hw:IntKind.i64.wrap ((k:Int)+1)=(k:Int)+1:=bL (by omega);have I0:IntKind.i64.wrap (L:Int)=(L:Int):=bL (by omega);have hg:g (k+1)=jZ L t.args[k] (g k):=by
    show(t.args.take (k+1)).foldl _ _=_;rw[ait _ _ hk];show(if 0≤g k then _ else _)=_;rw[if_pos ho]
   rw[hg];have iQ:=acw L t.args[k] (g k) (ht.arg (de hk)) ho (gb k).2 (by omega);generalize g k=m at*;simp[Rr,EX,hk,ho,I0];refine⟨_,iQ,?_⟩;simp[hw]
  ·have hf:jZ (L+1) t n=g k:=by
    show t.args.foldl _ _=_;rw[ais _ _ _ k];exact adv L _ _ (by show g k<0;omega)
   rw[hf];generalize g k=m at*;simp[Rr,EX,hk,ho]
  ·have hf:jZ (L+1) t n=g t.args.length:=by
    show t.args.foldl _ _=(t.args.take t.args.length).foldl _ _;rw[List.take_length]
   rw[hf];generalize g t.args.length=m at*;simp[Rr,EX]
theorem acv (t:Tm)(ht:t.OK):aq T 77 [dO t] (.bool (decide (0≤jZ 20 t 100))):=by
 refine .of_tree rfl (lA 103 (by kernel_rfl)) asT ?_;simp[TH];refine⟨_,acw 20 t 100 ht (by omega) (by omega) (by omega),?_⟩;simp
def qL (o:Order):Bool:=(decide (o.rules.length≤60)&&decide (o.choices.length≤60))&&eD o.rules.length (fun k=>decide (0≤jZ 20 (o.rules.getD k default).term 100))
theorem acx (o:Order)(ho:o.OK):aq T 50 [jJ o] (.bool (qL o)):=by
 refine .of_tree rfl (lA 102 (by kernel_rfl)) asU ?_;simp[TI];by_cases h1:(o.rules.length:Int)≤60
 case neg=>
  have cE:(60:Int)<o.rules.length:=by omega
  have hf:qL o=false:=by
   have:decide (o.rules.length≤60)=false:=decide_eq_false (by omega);simp only[qL,this,rP]
  simp[cE,hf]
 by_cases h2:(o.choices.length:Int)≤60
 case neg=>
  have cE:(60:Int)<o.choices.length:=by omega
  have hf:qL o=false:=by
   have:decide (o.choices.length≤60)=false:=decide_eq_false (by omega);simp only[qL,this,rP,tL]
  simp[cE,hf]
 have cE:¬(60:Int)<o.rules.length:=by omega
 have iK:¬(60:Int)<o.choices.length:=by omega
 have hf:qL o=eD o.rules.length (fun k=>decide (0≤jZ 20 (o.rules.getD k default).term 100)):=by
  have e1:decide (o.rules.length≤60)=true:=decide_eq_true (by omega);have e2:decide (o.choices.length≤60)=true:=decide_eq_true (by omega);simp only[qL,e1,e2,vO]
 rw[hf];simp[cE,iK];have hO:=ho.2.2;refine gh o.rules.length (fun k=>decide (0≤jZ 20 (o.rules.getD k default).term 100)) (fun k=>[.bool false,.int k]) (fun _=>[]) ?_ (fun k hk ho=>?_) (fun k hk ho hb=>?_) (fun hj=>?_)
 ·simp
 ·have hw:=bn hk (by omega);simp[hk] at ho;simp[Rs,EY,hk];refine⟨_,acv _ (hO _ (de hk)).2,?_⟩;simp[ho,hw]
 ·simp only[aJ] at hb;rw[hb];simp[hk] at ho;simp[Rs,EY,hk];refine⟨_,acv _ (hO _ (de hk)).2,?_⟩;simp[ho]
 ·simp only[aJ] at hj;rw[hj];simp[Rs,EY]
def CG (f:File):Bool:=decide ((f.signs.length:Int)≤50)&&decide ((f.alters.length:Int)≤10)&&decide ((f.acts.length:Int)≤110)&&decide ((f.facts.length:Int)≤220)
theorem ap3 (f:File):aq T 49 [aX f] (.bool (CG f)):=by
 refine .of_tree rfl (lA 101 (by kernel_rfl)) asS ?_;simp[TG,CG];by_cases h1:(f.signs.length:Int)≤50<;>by_cases h2:(f.alters.length:Int)≤10<;>by_cases h3:(f.acts.length:Int)≤110<;>by_cases h4:(f.facts.length:Int)≤220<;>
  simp[h1,h2,h3,h4]
end Rm
