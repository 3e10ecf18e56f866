/-
  The functions of this seat, compiled (2).
-/
import Derived.Test.YtefchokhgdmamaaGreatDoorUAJ
import Derived.KernelRfl
set_option linter.unusedVariables false
set_option maxRecDepth 100000
noncomputable section
namespace Rm
open Go Go.Proofs Cx
def Gf:Option PC:=cF [4,5,6,7,8,9,10,11,12,13] [] Tryz.f157 157 []
def RH:PT:=
 (.chk (cY AE (pi 0))
 (.ret (.tup [(.ai .add .u64 (.ai .add .u64 (.ai .mul .u64 (.ai .shr .u64 r0 AE) (.ai .shr .u64 r1 AE)) (.ai .shr .u64 aaA AE)) (.ai .shr .u64 (.ai .add .u64 (.ai .and .u64 aaA (.con (.v (.int .u64 4294967295)))) (.ai .mul .u64 (.ai .and .u64 r0 (.con (.v (.int .u64 4294967295)))) (.ai .shr .u64 r1 AE))) AE)),(.ai .mul .u64 r0 r1)])))
theorem Zj:Gf.map told=some (RH,[]):=by kernel_rfl
theorem apv:tree (ah Gf)=RH:=bE Zj
def yU:Option PC:=cF [2,3,5,8] [] Tryz.f135 135 [6]
def BC:Nat→PC:=bX yU
def alJ (b:Nat→PC):PC:=.block 0 [3,11,12] [] (.loop [3,11] [] (b 0))
def alK (b:Nat→PC):PC:=.block 2 [6,27,28] [6] (.loop [6,27] [6] (b 1))
def J5 (b:Nat→PC):PT:=
 (.ite u9
 (.chk (aB r9 bS)
 (.ite (ak (br r3 (.llen (pn r9 bS))) (pi 0))
 (.chk (.nt pT)
 (.chk (.nt pT)
 (.next ⟨[(3,(br r3 (.llen (pn r9 bS)))),(11,(br bS (pi 1)))],[]⟩)))
 (.next ⟨[(3,(br r3 (.llen (pn r9 bS)))),(11,(br bS (pi 1)))],[]⟩)))
 (.exit 0 ⟨[(12,u9)],[]⟩))
def J6 (b:Nat→PC):PT:=
 (.ite (ak gB oZ)
 (.chk (aB lI gB)
 (.chk (cV (.llen (.app o6 (pn lI gB))) dx)
 (.next ⟨[(6,pN),(27,(br gB (pi 1)))],[(6,(.app o6 (pn lI gB)))]⟩)))
 (.exit 2 ⟨[(28,(ak gB oZ))],[]⟩))
def SN (b:Nat→PC):PT:=
 (.brk ⟨[(11,(pi 0)),(10,(.llen r0)),(9,r0),(3,(pi 0))],[]⟩
(alJ b)
 (.call ⟨[],[]⟩ [] 24 148 [pL,r3]
 (.brk ⟨[(27,(pi 0)),(26,(.llen r0)),(25,r0),(6,pN)],[(6,oY)]⟩
(alK b)
 (.ret o6))))
def agW (b:Nat→PC):PT×List (Shp×PT):=(SN b,[(.lp 0 [3,11,12] [] [3,11] [],J5 b),(.lp 2 [6,27,28] [6] [6,27] [6],J6 b)])
theorem Jk:yU.map told=some (agW (bO yU)):=by kernel_rfl
theorem aqB:tree (ah yU)=SN BC:=cO Jk
theorem abn:round 0 [3,11,12] [] [3,11] [] (BC 0)=J5 BC:=bH Jk 0 fun _=>rfl
theorem abo:round 2 [6,27,28] [6] [6,27] [6] (BC 1)=J6 BC:=bH Jk 1 fun _=>rfl
def v5:Option PC:=cF [4,6,8] [] Tryz.f27 27 [5,29,32]
def Bs:Nat→PC:=bX v5
def ak0 (b:Nat→PC):PC:=.block 2 [5,23,24] [5] (.loop [5,23] [5] (b 0))
def ak1 (b:Nat→PC):PC:=.block 0 [5,6,13,14] [5] (.loop [5,6] [5] (b 1))
def JQ (b:Nat→PC):PT:=
 (.ite (ak jS va)
 (.chk (aB m0 jS)
 (.chk (cV (.llen (.app (.lst [r6]) (pn m0 jS))) dx)
 (.chk (cV (.llen (.app o5 (.lst [(.app (.lst [r6]) (pn m0 jS))]))) dx)
 (.next ⟨[(5,pN),(23,(br jS (pi 1)))],[(5,(.app o5 (.lst [(.app (.lst [r6]) (pn m0 jS))])))]⟩))))
 (.exit 2 ⟨[(24,(ak jS va))],[]⟩))
def JR (b:Nat→PC):PT:=
 (.ite (ak r6 (pi 5))
 (.blockS ⟨[(14,(ak r6 (pi 5))),(13,r6)],[]⟩ 1 [5,17,18,19,20,21,22,23,24] [5]
 (.call ⟨[],[]⟩ [] 21 27 [(cN r0 (pi 1)),(br r6 (pi 1))]
 (.brk ⟨[(23,(pi 0)),(22,(.llen m0))],[]⟩
(ak0 b)
 (.next ⟨[],[]⟩)))
 (.next ⟨[(6,(br r6 (pi 1)))],[]⟩))
 (.exit 0 ⟨[(13,r6),(14,(ak r6 (pi 5)))],[]⟩))
def KB (b:Nat→PC):PT:=
 (.ite (aq r0 (pi 0))
 (.ret (.lst [pL]))
 (.brk ⟨[(6,r1),(5,pN)],[(5,pL)]⟩
(ak1 b)
 (.ret o5)))
def agp (b:Nat→PC):PT×List (Shp×PT):=(KB b,[(.lp 2 [5,23,24] [5] [5,23] [5],JQ b),(.lp 0 [5,6,13,14] [5] [5,6] [5],JR b)])
theorem Jb:v5.map told=some (agp (bO v5)):=by kernel_rfl
theorem aci:tree (ah v5)=KB Bs:=cO Jb
theorem aba:round 2 [5,23,24] [5] [5,23] [5] (Bs 0)=JQ Bs:=bH Jb 0 fun _=>rfl
theorem abb:round 0 [5,6,13,14] [5] [5,6] [5] (Bs 1)=JR Bs:=bH Jb 1 fun _=>rfl
def yq:Option PC:=cF [7,8] [] Tryz.f28 28 [3,6]
def Lq:Nat→PC:=bX yq
def ak2 (b:Nat→PC):PC:=.block 0 [11,12] [3] (.loop [11] [3] (b 0))
def JS (b:Nat→PC):PT:=
 (.ite u9
 (.blockS ⟨[],[]⟩ 1 [7,8,13,14,15,16,17,18,19,20,21,22,23,24,25,26,27,28,29,30,31] [3]
 (.chk (aB r9 bS)
 (.call ⟨[(18,(pn r9 bS)),(17,(aI 19 o3)),(7,bS)],[]⟩ [] 21 61 [(aI 24 o3),(pn r9 bS)]
 (.chk (cY (cN (cN (.llen r1) (pi 1)) r7) (pi 0))
 (.call ⟨[],[]⟩ [] 30 16 [iu,gT,m0,(.ai .and .i64 (.ai .shr .i64 r2 (cN (cN (.llen r1) (pi 1)) r7)) (pi 1))]
 (.next ⟨[],[(3,(.setc o3 0 Ed))]⟩)))))
 (.next ⟨[(11,(br bS (pi 1)))],[]⟩))
 (.exit 0 ⟨[(12,u9)],[]⟩))
def RL (b:Nat→PC):PT:=
 (.brk ⟨[(11,(pi 0)),(10,(.llen r1)),(9,r1)],[(6,u3),(3,(.mk [r0]))]⟩
(ak2 b)
 (.ret (aI 24 (.setc o6 0 (aI 24 o3)))))
def agq (b:Nat→PC):PT×List (Shp×PT):=(RL b,[(.lp 0 [11,12] [3] [11] [3],JS b)])
theorem Pd:yq.map told=some (agq (bO yq)):=by kernel_rfl
theorem apA:tree (ah yq)=RL Lq:=cO Pd
theorem abc:round 0 [11,12] [3] [11] [3] (Lq 0)=JS Lq:=bH Pd 0 fun _=>rfl
def Gk:Option PC:=cF [4] [] Tryz.f61 61 [2]
def RM:PT:=
 (.ite (.pick (aq r1 (pi 3)) pT (aq r1 (pi 4)))
 (.ret (.mx (pi 0) (pc (.mk [r0]) 20)))
 (.ret (pc (.mk [r0]) 19)))
theorem Zn:Gk.map told=some (RM,[]):=by kernel_rfl
theorem apB:tree (ah Gk)=RM:=bE Zn
def yB:Option PC:=cF [4,5] [] Tryz.f12 12 []
def Ly:Nat→PC:=bX yB
def ale (b:Nat→PC):PC:=.block 0 [4,5,11,12,13,14] [] (.loop [4,5] [] (b 0))
def Ev (b:Nat→PC):PT:=
 (.ite (ak r5 (.llen r0))
 (.chk (aB r0 r5)
 (.chk (aB r1 r5)
 (.ite (bt (pn r0 r5) (pn r1 r5))
 (.ret pF)
 (.next ⟨[(5,(br r5 (pi 1)))],[]⟩))))
 (.exit 0 ⟨[(11,r5),(12,r0),(13,(.llen r0)),(14,(ak r5 (.llen r0)))],[]⟩))
def Sd (b:Nat→PC):PT:=
 (.ite (bt (.llen r0) (.llen r1))
 (.ret pF)
 (.brk ⟨[(5,(pi 0)),(4,pF)],[]⟩
(ale b)
 (.ret pT)))
def agA (b:Nat→PC):PT×List (Shp×PT):=(Sd b,[(.lp 0 [4,5,11,12,13,14] [] [4,5] [],Ev b)])
theorem Pm:yB.map told=some (agA (bO yB)):=by kernel_rfl
theorem ap4:tree (ah yB)=Sd Ly:=cO Pm
theorem QB:round 0 [4,5,11,12,13,14] [] [4,5] [] (Ly 0)=Ev Ly:=bH Pm 0 fun _=>rfl
def BJ:Option PC:=cF [4] [] Tryz.f9 9 [2,3]
def RX:PT:=
 (.call ⟨[],[(3,(.mk [r1])),(2,(.mk [r0]))]⟩ [] 8 24 [nO,(aI 19 (.mk [r1]))]
 (.call ⟨[(9,r8)],[]⟩ [(9,true)] 11 25 [(aI 8 o2)]
 (.call ⟨[(14,(.pick r9 (aq bS (pi 0)) pF))],[]⟩ [(14,true)] 17 26 [(aI 19 o3)]
 (.call ⟨[(19,(.pick cJ iu pF))],[]⟩ [(19,true)] 23 21 [(aI 8 o2),(aI 19 o3)]
 (.ret (.pick iX (aq jS (pi 0)) pF))))))
theorem Zv:BJ.map told=some (RX,[]):=by kernel_rfl
theorem apN:tree (ah BJ)=RX:=bE Zv
def yE:Option PC:=cF [4,5] [] Tryz.f24 24 [2,3]
def LD:Nat→PC:=bX yE
def alj (b:Nat→PC):PC:=.block 0 [4,5,14,15,16,17,18] [] (.loop [4,5] [] (b 0))
def Ez (b:Nat→PC):PT:=
 (.ite (ak r5 (.llen (pc o2 4)))
 (.blockS ⟨[],[]⟩ 1 [4,21,22,23,24,25,26,27] []
 (.chk (aB (pc o2 4) r5)
 (.call ⟨[],[]⟩ [] 26 49 [(pn (pc o2 4) r5)]
 (.ite (.nt oZ)
 (.ret pF)
 (.next ⟨[],[]⟩))))
 (.next ⟨[(5,(br r5 (pi 1)))],[]⟩))
 (.exit 0 ⟨[(14,r5),(15,pN),(16,(pc o2 4)),(17,(.llen (pc o2 4))),(18,(ak r5 (.llen (pc o2 4))))],[]⟩))
def Sk (b:Nat→PC):PT:=
 (.call ⟨[(4,pF)],[(3,(.mk [r1])),(2,(.mk [r0]))]⟩ [] 7 47 [nO]
 (.call ⟨[(9,(.nt r7))],[]⟩ [(9,false)] 11 48 [(aI 19 o3)]
 (.ite (.pick r9 pT (.nt bS))
 (.ret pF)
 (.brk ⟨[(5,(pi 0))],[]⟩
(alj b)
 (.ret pT)))))
def agG (b:Nat→PC):PT×List (Shp×PT):=(Sk b,[(.lp 0 [4,5,14,15,16,17,18] [] [4,5] [],Ez b)])
theorem Pp:yE.map told=some (agG (bO yE)):=by kernel_rfl
theorem aqa:tree (ah yE)=Sk LD:=cO Pp
theorem QE:round 0 [4,5,14,15,16,17,18] [] [4,5] [] (LD 0)=Ez LD:=bH Pp 0 fun _=>rfl
def yC:Option PC:=cF [2,3,4] [] Tryz.f47 47 [1]
def Bv:Nat→PC:=bX yC
def alf (b:Nat→PC):PC:=.block 0 [2,3,5,6,7,8,9,10,13] [] (.loop [2,3] [] (b 0))
def alg (b:Nat→PC):PC:=.block 2 [2,4,44,45,46,47,48,49,52] [] (.loop [2,4] [] (b 1))
def xE (b:Nat→PC):PT:=
 (.ite (.pick (ak r3 u6) (ak r3 (pi 50)) pF)
 (.chk (aB (pc o1 1) r3)
 (.chk (.nt (.an (.an (.nt (cm (.llen (pc (pn (pc o1 1) r3) 4)) (pi 70))) pT) (.nt (aB (pc o1 1) r3))))
 (.chk (.nt (.an (.an (.nt aaG) pT) (.nt (aB (pc o1 1) r3))))
 (.ite (.pick aaG pT (cm (.llen (pc (pn (pc o1 1) r3) 3)) (pi 8)))
 (.ret pF)
 (.next ⟨[(3,(br r3 (pi 1)))],[]⟩)))))
 (.exit 0 ⟨[(5,r3),(6,pN),(7,(pc o1 1)),(8,u6),(9,(ak r3 u6)),(10,(ak r3 u6)),(13,(.pick (ak r3 u6) (ak r3 (pi 50)) pF))],[]⟩))
def AM (b:Nat→PC):PT:=
 (.ite (.pick (ak r4 u5) (ak r4 (pi 50)) pF)
 (.chk (aB (pc o1 4) r4)
 (.chk (.nt (.an (.an (.nt (cm (.llen (pc (pn (pc o1 4) r4) 2)) (pi 40))) pT) (.nt (aB (pc o1 4) r4))))
 (.ite (.pick (cm (.llen (pc (pn (pc o1 4) r4) 2)) (pi 40)) pT (cm (.llen (pc (pn (pc o1 4) r4) 3)) (pi 40)))
 (.ret pF)
 (.next ⟨[(4,(br r4 (pi 1)))],[]⟩))))
 (.exit 2 ⟨[(44,r4),(45,pN),(46,(pc o1 4)),(47,u5),(48,(ak r4 u5)),(49,(ak r4 u5)),(52,(.pick (ak r4 u5) (ak r4 (pi 50)) pF))],[]⟩))
def Se (b:Nat→PC):PT:=
 (.brk ⟨[(3,(pi 0)),(2,pF)],[(1,(.mk [r0]))]⟩
(alf b)
 (.brk ⟨[(4,(pi 0))],[]⟩
(alg b)
 (.ret (.pick (.pick (.pick (.pick (.pick (.pick (.pick (ak (.llen (pc o1 0)) (pi 50)) (ak u6 (pi 50)) pF) (ak (.llen (pc o1 2)) (pi 50)) pF) (ak AI (pi 210)) pF) (ak u5 (pi 50)) pF) (ak (.llen (pc o1 5)) (pi 110)) pF) (ak (.llen (pc o1 6)) (pi 110)) pF) (ak (.llen (pc o1 7)) (pi 50)) pF))))
def agC (b:Nat→PC):PT×List (Shp×PT):=(Se b,[(.lp 0 [2,3,5,6,7,8,9,10,13] [] [2,3] [],xE b),(.lp 2 [2,4,44,45,46,47,48,49,52] [] [2,4] [],AM b)])
theorem Je:yC.map told=some (agC (bO yC)):=by kernel_rfl
theorem ap5:tree (ah yC)=Se Bv:=cO Je
theorem Ew:round 0 [2,3,5,6,7,8,9,10,13] [] [2,3] [] (Bv 0)=xE Bv:=bH Je 0 fun _=>rfl
theorem JZ:round 2 [2,4,44,45,46,47,48,49,52] [] [2,4] [] (Bv 1)=AM Bv:=bH Je 1 fun _=>rfl
def GF:Option PC:=cF [2] [] Tryz.f48 48 [1]
def Sg:PT:=
 (.ret (.pick (.pick (.pick (cV (.llen tu) (pi 50)) (cV (.llen (pc (.mk [r0]) 16)) (pi 10)) pF) (cV (.llen (pc (.mk [r0]) 17)) (pi 110)) pF) (cV (.llen AG) (pi 220)) pF))
theorem ZI:GF.map told=some (Sg,[]):=by kernel_rfl
theorem ap7:tree (ah GF)=Sg:=bE ZI
def yD:Option PC:=cF [2,3] [] Tryz.f49 49 [1]
def LB:Nat→PC:=bX yD
def ali (b:Nat→PC):PC:=.block 0 [2,3,14,15,16,17,18] [] (.loop [2,3] [] (b 0))
def Ey (b:Nat→PC):PT:=
 (.ite (ak r3 AI)
 (.blockS ⟨[],[]⟩ 1 [2,21,22,23,24,25,26,27,28] []
 (.chk (aB (pc o1 3) r3)
 (.call ⟨[],[]⟩ [] 27 78 [(.sub (pn (pc o1 3) r3) 1 3)]
 (.ite (.nt gB)
 (.ret pF)
 (.next ⟨[],[]⟩))))
 (.next ⟨[(3,(br r3 (pi 1)))],[]⟩))
 (.exit 0 ⟨[(14,r3),(15,pN),(16,(pc o1 3)),(17,AI),(18,(ak r3 AI))],[]⟩))
def Sj (b:Nat→PC):PT:=
 (.ite (.pick (cm (.llen (pc (.mk [r0]) 3)) (pi 60)) pT (cm rC (pi 60)))
 (.ret pF)
 (.brk ⟨[(3,(pi 0)),(2,pF)],[(1,(.mk [r0]))]⟩
(ali b)
 (.ret pT)))
def agF (b:Nat→PC):PT×List (Shp×PT):=(Sj b,[(.lp 0 [2,3,14,15,16,17,18] [] [2,3] [],Ey b)])
theorem Po:yD.map told=some (agF (bO yD)):=by kernel_rfl
theorem ap9:tree (ah yD)=Sj LB:=cO Po
theorem QD:round 0 [2,3,14,15,16,17,18] [] [2,3] [] (LB 0)=Ey LB:=bH Po 0 fun _=>rfl
def GG:Option PC:=cF [2] [] Tryz.f78 78 [1]
def Si:PT:=
 (.call ⟨[],[]⟩ [] 4 100 [(.mk [qs,u4,xx]),(pi 100),(pi 20)]
 (.ret (cY r4 (pi 0))))
theorem ZJ:GG.map told=some (Si,[]):=by kernel_rfl
theorem ap8:tree (ah GG)=Si:=bE ZJ
def v8:Option PC:=cF [6,1,7] [] Tryz.f100 100 [3]
def LA:Nat→PC:=bX v8
def alh (b:Nat→PC):PC:=.block 0 [1,7,12,13,14,15,16,17,20] [] (.loop [1,7] [] (b 0))
def Ex (b:Nat→PC):PT:=
 (.ite (.pick (ak r7 oX) (cY r1 (pi 0)) pF)
 (.blockS ⟨[],[]⟩ 1 [1,23,24,25,26,27,28,29,30,31] []
 (.chk (aB (pc o3 2) r7)
 (.call ⟨[],[]⟩ [] 31 100 [(pn (pc o3 2) r7),r1,(cN r2 (pi 1))]
 (.next ⟨[(1,xz)],[]⟩)))
 (.next ⟨[(7,(br r7 (pi 1)))],[]⟩))
 (.exit 0 ⟨[(12,r7),(13,pN),(14,(pc o3 2)),(15,oX),(16,(ak r7 oX)),(17,(ak r7 oX)),(20,(.pick (ak r7 oX) (cY r1 (pi 0)) pF))],[]⟩))
def KD (b:Nat→PC):PT:=
 (.ite (ak r2 (pi 1))
 (.ret (pi (-1)))
 (.brk ⟨[(7,(pi 0)),(1,(cN r1 (pi 1)))],[(3,(.mk [r0]))]⟩
(alh b)
 (.ret r1)))
def agD (b:Nat→PC):PT×List (Shp×PT):=(KD b,[(.lp 0 [1,7,12,13,14,15,16,17,20] [] [1,7] [],Ex b)])
theorem Pn:v8.map told=some (agD (bO v8)):=by kernel_rfl
theorem acj:tree (ah v8)=KD LA:=cO Pn
theorem QC:round 0 [1,7,12,13,14,15,16,17,20] [] [1,7] [] (LA 0)=Ex LA:=bH Pn 0 fun _=>rfl
def yH:Option PC:=cF [2,3,4,5,6,7,10,11,12] [] Tryz.f25 25 [1,9]
def LG:Nat→PC:=bX yH
def alo (b:Nat→PC):PC:=.block 0 [2,38,39] [] (.loop [2,38] [] (b 0))
def ED (b:Nat→PC):PT:=
 (.ite (ak mh qv)
 (.blockS ⟨[],[]⟩ 1 [2,9,40,41,42,43,44,45] [9]
 (.chk (aB qu mh)
 (.call ⟨[],[]⟩ [] 44 55 [(pc (.setc (.con (.agg [(.int 0)])) 0 (pn qu mh)) 0),(pi 10)]
 (.ite (.nt Eg)
 (.ret (pi 1))
 (.next ⟨[],[]⟩))))
 (.next ⟨[(38,(br mh (pi 1)))],[]⟩))
 (.exit 0 ⟨[(39,(ak mh qv))],[]⟩))
def So (b:Nat→PC):PT:=
 (.call ⟨[(2,(pi 0))],[(1,(.mk [r0]))]⟩ [] 15 50 [nO]
 (.call ⟨[(5,(.tget fo 2)),(4,(.tget fo 1)),(3,(.tget fo 0))],[]⟩ [] 21 51 [(pc o1 0),(pi 8),(.con (.clo 52 []))]
 (.ite (bt m0 (pi 0))
 (.ret m0)
 (.call ⟨[],[(1,(aI 8 o1))]⟩ [] 27 51 [r3,(pi 40),(.clo 53 [(.ref (aI 8 o1))])]
 (.ite (bt gB (pi 0))
 (.ret gB)
 (.ite (cm (.llen (pc o1 2)) (pi 20))
 (.ret (pi 6))
 (.brk ⟨[(38,(pi 0)),(37,(.llen (pc o1 2))),(36,(pc o1 2))],[]⟩
(alo b)
 (.call ⟨[],[]⟩ [] 49 51 [r4,(pi 200),(.clo 56 [(.ref o1)])]
 (.ite (bt vd (pi 0))
 (.ret vd)
 (.call ⟨[],[]⟩ [] 55 51 [r5,(pi 20),(.clo 57 [(.ref o1)])]
 (.ite (bt Eh (pi 0))
 (.ret Eh)
 (.call ⟨[],[]⟩ [] 60 59 [(.sub o1 0 8)]
 (.ite (bt Ei (pi 0))
 (.ret Ei)
 (.call ⟨[],[]⟩ [] 65 60 [(.sub o1 0 8)]
 (.ret AJ)))))))))))))))
def agJ (b:Nat→PC):PT×List (Shp×PT):=(So b,[(.lp 0 [2,38,39] [] [2,38] [],ED b)])
theorem Pr:yH.map told=some (agJ (bO yH)):=by kernel_rfl
theorem aqi:tree (ah yH)=So LG:=cO Pr
theorem QI:round 0 [2,38,39] [] [2,38] [] (LG 0)=ED LG:=bH Pr 0 fun _=>rfl
def yM:Option PC:=cF [] [] Tryz.f50 50 [1,2,3,4,6,16390,20486,24582,21,8,34,10,12298,16394,47]
def vZ:Nat→PC:=bX yM
def alu (b:Nat→PC):PC:=.block 0 [2,14,15] [2] (.loop [2,14] [2] (b 0))
def alv (b:Nat→PC):PC:=.block 2 [3,27,28] [3] (.loop [3,27] [3] (b 1))
def alw (b:Nat→PC):PC:=.block 4 [4,40,41] [4] (.loop [4,40] [4] (b 2))
def J0 (b:Nat→PC):PT:=
 (.ite (ak cJ dG)
 (.chk (aB dj cJ)
 (.chk (cV (.llen aaD) dx)
 (.next ⟨[(2,pN),(14,(br cJ (pi 1)))],[(2,aaD)]⟩)))
 (.exit 0 ⟨[(15,(ak cJ dG))],[]⟩))
def J1 (b:Nat→PC):PT:=
 (.ite (ak gB oZ)
 (.chk (aB lI gB)
 (.chk (cV (.llen aaH) dx)
 (.next ⟨[(3,pN),(27,(br gB (pi 1)))],[(3,aaH)]⟩)))
 (.exit 2 ⟨[(28,(ak gB oZ))],[]⟩))
def J2 (b:Nat→PC):PT:=
 (.ite (ak m4 JI)
 (.chk (aB mh m4)
 (.chk (cV (.llen aaE) dx)
 (.next ⟨[(4,pN),(40,(br m4 (pi 1)))],[(4,aaE)]⟩)))
 (.exit 4 ⟨[(41,(ak m4 JI))],[]⟩))
def SC (b:Nat→PC):PT:=
 (.brk ⟨[(14,(pi 0)),(13,(.llen u4)),(12,u4),(4,pN),(3,pN),(2,pN)],[(4,pL),(3,pL),(2,pL),(1,(.mk [r0]))]⟩
(alu b)
 (.brk ⟨[(27,(pi 0)),(26,AI),(25,(pc o1 3))],[]⟩
(alv b)
 (.brk ⟨[(40,(pi 0)),(39,u5),(38,(pc o1 4))],[]⟩
(alw b)
 (.ret (.tup [o2,o3,o4])))))
def agO (b:Nat→PC):PT×List (Shp×PT):=(SC b,[(.lp 0 [2,14,15] [2] [2,14] [2],J0 b),(.lp 2 [3,27,28] [3] [3,27] [3],J1 b),(.lp 4 [4,40,41] [4] [4,40] [4],J2 b)])
theorem DY:yM.map told=some (agO (bO yM)):=by kernel_rfl
theorem aqq:tree (ah yM)=SC vZ:=cO DY
theorem abj:round 0 [2,14,15] [2] [2,14] [2] (vZ 0)=J0 vZ:=bH DY 0 fun _=>rfl
theorem abk:round 2 [3,27,28] [3] [3,27] [3] (vZ 1)=J1 vZ:=bH DY 1 fun _=>rfl
theorem abl:round 4 [4,40,41] [4] [4,40] [4] (vZ 2)=J2 vZ:=bH DY 2 fun _=>rfl
def yK:Option PC:=cF [6,7,8] [] Tryz.f51 51 []
def LJ:Nat→PC:=bX yK
def alr (b:Nat→PC):PC:=.block 0 [6,15,16] [] (.loop [6,15] [] (b 0))
def EG (b:Nat→PC):PT:=
 (.ite (ak fo cJ)
 (.blockS ⟨[],[]⟩ 1 [6,7,8,17,18,19,20,21,22,24,25,26,27] []
 (.call ⟨[(7,fo)],[]⟩ [] 20 79 [r0,fo]
 (.ite (bt gU (pi 0))
 (.ret gU)
 (.callc ⟨[],[]⟩ [] 26 r2 [r7]
 (.ite (.nt oZ)
 (.ret (pi 1))
 (.next ⟨[],[]⟩)))))
 (.next ⟨[(15,(br fo (pi 1)))],[]⟩))
 (.exit 0 ⟨[(16,(ak fo cJ))],[]⟩))
def Sy (b:Nat→PC):PT:=
 (.ite (cm (.llen r0) r1)
 (.ret (pi 6))
 (.brk ⟨[(15,(pi 0)),(14,(.llen r0)),(6,(pi 0))],[]⟩
(alr b)
 (.ret (pi 0))))
def agM (b:Nat→PC):PT×List (Shp×PT):=(Sy b,[(.lp 0 [6,15,16] [] [6,15] [],EG b)])
theorem Pu:yK.map told=some (agM (bO yK)):=by kernel_rfl
theorem aqm:tree (ah yK)=Sy LJ:=cO Pu
theorem QL:round 0 [6,15,16] [] [6,15] [] (LJ 0)=EG LJ:=bH Pu 0 fun _=>rfl
def GO:Option PC:=cF [4] [] Tryz.f79 79 []
def SB:PT:=
 (.chk (aB r0 r1)
 (.call ⟨[],[]⟩ [] 9 101 [(pn r0 r1)]
 (.ite (.nt r9)
 (.ret (pi 2))
 (.chk (.slok r0 (pi 0) r1)
 (.chk (aB r0 r1)
 (.call ⟨[],[]⟩ [] 18 102 [(.slc r0 (pi 0) r1),(pn r0 r1)]
 (.ite gT
 (.ret (pi 5))
 (.ret (pi 0)))))))))
theorem ZR:GO.map told=some (SB,[]):=by kernel_rfl
theorem aqp:tree (ah GO)=SB:=bE ZR
def yL:Option PC:=cF [2,3,4,5] [] Tryz.f101 101 []
def LK:Nat→PC:=bX yL
def als (b:Nat→PC):PC:=.block 0 [2,16,17] [] (.loop [2,16] [] (b 0))
def EH (b:Nat→PC):PT:=
 (.ite (ak bT fo)
 (.chk (aB cJ bT)
 (.ite (.pick (.nt (.pick (.pick (cY (pn cJ bT) (.con (.v (.int .u8 97)))) (cV (pn cJ bT) (.con (.v (.int .u8 122)))) pF) pT (.pick (cY (pn cJ bT) (.con (.v (.int .u8 65)))) (cV (pn cJ bT) (.con (.v (.int .u8 90)))) pF))) (.pick (aq bT (pi 0)) pT (.pick (bt (pn cJ bT) (.con (.v (.int .u8 95)))) (.pick (ak (pn cJ bT) (.con (.v (.int .u8 48)))) pT (cm (pn cJ bT) (.con (.v (.int .u8 57))))) pF)) pF)
 (.ret pF)
 (.next ⟨[(16,(br bT (pi 1)))],[]⟩)))
 (.exit 0 ⟨[(17,(ak bT fo))],[]⟩))
def SA (b:Nat→PC):PT:=
 (.ite (.pick (.cs .eql r0 (.con (.v (.string ⟨#[]⟩)))) pT (cm (.slen r0) (pi 20)))
 (.ret pF)
 (.chk (cV (.slen r0) dx)
 (.brk ⟨[(16,(pi 0)),(15,(.llen (.bytes r0))),(14,(.bytes r0)),(2,pF)],[]⟩
(als b)
 (.ret pT))))
def agN (b:Nat→PC):PT×List (Shp×PT):=(SA b,[(.lp 0 [2,16,17] [] [2,16] [],EH b)])
theorem Pv:yL.map told=some (agN (bO yL)):=by kernel_rfl
theorem aqo:tree (ah yL)=SA LK:=cO Pv
theorem QM:round 0 [2,16,17] [] [2,16] [] (LK 0)=EH LK:=bH Pv 0 fun _=>rfl
def GW:Option PC:=cF [4] [] Tryz.f102 102 []
def SR:PT:=
 (.call ⟨[],[]⟩ [] 7 122 [r0,r1]
 (.ret (cY r7 (pi 0))))
theorem ZY:GW.map told=some (SR,[]):=by kernel_rfl
theorem aqF:tree (ah GW)=SR:=bE ZY
def y1:Option PC:=cF [4,5] [] Tryz.f122 122 []
def LS:Nat→PC:=bX y1
def alQ (b:Nat→PC):PC:=.block 0 [4,8,9] [] (.loop [4,8] [] (b 0))
def EX (b:Nat→PC):PT:=
 (.ite (ak r8 r7)
 (.chk (aB r0 r8)
 (.ite (.cs .eql r1 (pn r0 r8))
 (.ret r8)
 (.next ⟨[(8,u7)],[]⟩)))
 (.exit 0 ⟨[(9,(ak r8 r7))],[]⟩))
def SY (b:Nat→PC):PT:=
 (.brk ⟨[(8,(pi 0)),(7,(.llen r0)),(4,(pi 0))],[]⟩
(alQ b)
 (.ret (pi (-1))))
def ag2 (b:Nat→PC):PT×List (Shp×PT):=(SY b,[(.lp 0 [4,8,9] [] [4,8] [],EX b)])
theorem PF:y1.map told=some (ag2 (bO y1)):=by kernel_rfl
theorem aqL:tree (ah y1)=SY LS:=cO PF
theorem Q5:round 0 [4,8,9] [] [4,8] [] (LS 0)=EX LS:=bH PF 0 fun _=>rfl
def GI:Option PC:=cF [2] [] Tryz.f52 52 []
def Sp:PT:=
 (.ret pT)
theorem ZL:GI.map told=some (Sp,[]):=by kernel_rfl
theorem aqe:tree (ah GI)=Sp:=bE ZL
def GJ:Option PC:=cF [3] [] Tryz.f53 53 []
def Sq:PT:=
 (.chk (aB (pc (.deref r1) 1) r0)
 (.call ⟨[],[]⟩ [] 10 54 [(.deref r1),(pn (pc (.deref r1) 1) r0)]
 (.ret di)))
theorem ZM:GJ.map told=some (Sq,[]):=by kernel_rfl
theorem aqf:tree (ah GJ)=Sq:=bE ZM
def yJ:Option PC:=cF [4,6] [] Tryz.f54 54 [2,3]
def LI:Nat→PC:=bX yJ
def alq (b:Nat→PC):PC:=.block 0 [4,10,11] [] (.loop [4,10] [] (b 0))
def EF (b:Nat→PC):PT:=
 (.ite (ak di r9)
 (.chk (aB r8 di)
 (.chk (bt (pi 100) (pi 0))
 (.chk (.nt (.an (.an (.nt (ak Qg (pi 1))) pT) (.nt (bt (pi 100) (pi 0)))))
 (.ite (.pick (ak Qg (pi 1)) pT (cm Qg (pi 31)))
 (.ret pF)
 (.next ⟨[(10,(br di (pi 1)))],[]⟩)))))
 (.exit 0 ⟨[(11,(ak di r9))],[]⟩))
def Sw (b:Nat→PC):PT:=
 (.brk ⟨[(10,(pi 0)),(9,(.llen (pc (.mk [r1]) 4))),(8,(pc (.mk [r1]) 4)),(4,pF)],[(3,(.mk [r1])),(2,(.mk [r0]))]⟩
(alq b)
 (.call ⟨[(33,(.pick (cm (.llen (pc o3 4)) (pi 60)) pT (cm (.llen (pc o3 5)) (pi 200))))],[]⟩ [(33,false)] 39 55 [(pc o3 1),(.llen (pc o2 4))]
 (.call ⟨[(42,(.pick Ee pT (.nt JI)))],[]⟩ [(42,false)] 48 55 [(pc o3 2),(.llen (pc o2 0))]
 (.ite (.pick r42 pT (.nt rF))
 (.ret pF)
 (.call ⟨[],[]⟩ [] 53 80 [(pc o3 3),(pi 0),(pi 6)]
 (.call ⟨[(54,r53)],[]⟩ [(54,true)] 57 80 [(pc o3 4),(pi 101),(pi 1231)]
 (.call ⟨[(59,(.pick tA xB pF))],[]⟩ [(59,true)] 62 80 [(pc o3 5),(pi 0),(pi 100000)]
 (.ret (.pick r59 qx pF)))))))))
def agL (b:Nat→PC):PT×List (Shp×PT):=(Sw b,[(.lp 0 [4,10,11] [] [4,10] [],EF b)])
theorem Pt:yJ.map told=some (agL (bO yJ)):=by kernel_rfl
theorem aql:tree (ah yJ)=Sw LI:=cO Pt
theorem QK:round 0 [4,10,11] [] [4,10] [] (LI 0)=EF LI:=bH Pt 0 fun _=>rfl
def yP:Option PC:=cF [6,7,8] [] Tryz.f80 80 []
def LL:Nat→PC:=bX yP
def alB (b:Nat→PC):PC:=.block 0 [6,11,12] [] (.loop [6,11] [] (b 0))
def vi (b:Nat→PC):PT:=
 (.ite u9
 (.chk (aB r9 bS)
 (.chk (.nt (.an (.an (cm bS (pi 0)) (.an (.nt (.pick (ak (pn r9 bS) r1) pT (cm (pn r9 bS) r2))) pT)) (.nt (aB r0 (cN bS (pi 1))))))
 (.ite (.pick (.pick (ak (pn r9 bS) r1) pT (cm (pn r9 bS) r2)) pT (.pick (cm bS (pi 0)) (cV (pn r9 bS) (pn r0 (cN bS (pi 1)))) pF))
 (.ret pF)
 (.next ⟨[(11,(br bS (pi 1)))],[]⟩))))
 (.exit 0 ⟨[(12,u9)],[]⟩))
def SG (b:Nat→PC):PT:=
 (.brk ⟨[(11,(pi 0)),(10,(.llen r0)),(9,r0),(6,pF)],[]⟩
(alB b)
 (.ret pT))
def agR (b:Nat→PC):PT×List (Shp×PT):=(SG b,[(.lp 0 [6,11,12] [] [6,11] [],vi b)])
theorem Pw:yP.map told=some (agR (bO yP)):=by kernel_rfl
theorem aqt:tree (ah yP)=SG LL:=cO Pw
theorem AN:round 0 [6,11,12] [] [6,11] [] (LL 0)=vi LL:=bH Pw 0 fun _=>rfl
def GK:Option PC:=cF [3] [] Tryz.f56 56 []
def Sr:PT:=
 (.chk (aB (pc (.deref r1) 3) r0)
 (.call ⟨[],[]⟩ [] 13 55 [(pc (pn (pc (.deref r1) 3) r0) 1),(.llen (pc (.deref r1) 1))]
 (.chk (.nt (.an (.an dG pT) (.nt (aB (pc (.deref r1) 3) r0))))
 (.call ⟨[(14,dG)],[]⟩ [(14,true)] 24 55 [(pc (pn (pc (.deref r1) 3) r0) 2),(.llen (pc (.deref r1) 2))]
 (.ret (.pick cJ oY pF))))))
theorem ZN:GK.map told=some (Sr,[]):=by kernel_rfl
theorem aqg:tree (ah GK)=Sr:=bE ZN
def GL:Option PC:=cF [3] [] Tryz.f57 57 []
def Ss:PT:=
 (.chk (aB (pc (.deref r1) 4) r0)
 (.call ⟨[],[]⟩ [] 9 58 [(pn (pc (.deref r1) 4) r0)]
 (.ret r9)))
theorem ZO:GL.map told=some (Ss,[]):=by kernel_rfl
theorem aqh:tree (ah GL)=Ss:=bE ZO
def yN:Option PC:=cF [2] [] Tryz.f58 58 [1,3,4,6,19,8,16392,36]
def By:Nat→PC:=bX yN
def alx (b:Nat→PC):PC:=.block 0 [2,3,12,13] [3] (.loop [2,3,12] [3] (b 0))
def aly (b:Nat→PC):PC:=.block 2 [4,29,30] [4] (.loop [4,29] [4] (b 1))
def EI (b:Nat→PC):PT:=
 (.ite (ak dj bS)
 (.blockS ⟨[],[]⟩ 1 [2,3,6,14,15,17,18,19,20,21,22,23,24] [6,19,3]
 (.chk (aB di dj)
 (.chk (cV (.llen (.app o3 (.lst [(pc (.setc JA 0 (pn di dj)) 0)]))) dx)
 (.call ⟨[(3,pN)],[(3,(.app o3 (.lst [(pc (.setc JA 0 (pn di dj)) 0)])))]⟩ [] 23 55 [(pc (.setc JA 0 (pn di dj)) 1),(pi 5)]
 (.ite (.nt jS)
 (.ret pF)
 (.next ⟨[],[]⟩)))))
 (.next ⟨[(12,(br dj (pi 1)))],[]⟩))
 (.exit 0 ⟨[(13,(ak dj bS))],[]⟩))
def J3 (b:Nat→PC):PT:=
 (.ite (ak tz Ec)
 (.chk (aB gB tz)
 (.chk (cV (.llen aaI) dx)
 (.next ⟨[(4,pN),(29,(br tz (pi 1)))],[(4,aaI)]⟩)))
 (.exit 2 ⟨[(30,(ak tz Ec))],[]⟩))
def SD (b:Nat→PC):PT:=
 (.brk ⟨[(12,(pi 0)),(11,rC),(10,xx),(4,pN),(3,pN),(2,pF)],[(4,pL),(3,pL),(1,(.mk [r0]))]⟩
(alx b)
 (.brk ⟨[(29,(pi 0)),(28,AI),(27,(pc o1 3))],[]⟩
(aly b)
 (.call ⟨[],[]⟩ [] 40 80 [o3,(pi 0),(pi 21)]
 (.call ⟨[(41,m4)],[]⟩ [(41,true)] 43 80 [o4,(pi 0),(pi 21)]
 (.ret (.pick xA vc pF))))))
def agP (b:Nat→PC):PT×List (Shp×PT):=(SD b,[(.lp 0 [2,3,12,13] [3] [2,3,12] [3],EI b),(.lp 2 [4,29,30] [4] [4,29] [4],J3 b)])
theorem Jg:yN.map told=some (agP (bO yN)):=by kernel_rfl
theorem aqr:tree (ah yN)=SD By:=cO Jg
theorem QN:round 0 [2,3,12,13] [3] [2,3,12] [3] (By 0)=EI By:=bH Jg 0 fun _=>rfl
theorem abm:round 2 [4,29,30] [4] [4,29] [4] (By 1)=J3 By:=bH Jg 1 fun _=>rfl
def yQ:Option PC:=cF [2,3] [] Tryz.f59 59 [1,4,6]
def BA:Nat→PC:=bX yQ
def alC (b:Nat→PC):PC:=.block 2 [2,50,51] [] (.loop [2,50] [] (b 0))
def alD (b:Nat→PC):PC:=.block 0 [2,14,15] [] (.loop [2,14] [] (b 1))
def AO (b:Nat→PC):PT:=
 (.ite (ak m5 vd)
 (.chk (aB rF m5)
 (.ite (.pick (aq (pc (.setc z3 0 (pn rF m5)) 0) (pc o4 0)) (aq (pc (.setc z3 0 (pn rF m5)) 1) (pc o4 1)) pF)
 (.ret (pi 5))
 (.next ⟨[(50,(br m5 (pi 1)))],[]⟩)))
 (.exit 2 ⟨[(51,(ak m5 vd))],[]⟩))
def EL (b:Nat→PC):PT:=
 (.ite (ak cJ dG)
 (.blockS ⟨[(15,(ak cJ dG))],[]⟩ 1 [2,3,4,16,17,18,19,20,21,22,23,24,25,26,34,35,39,40,44,45,46,47,48,49,50,51] [4]
 (.chk (aB dj cJ)
 (.call ⟨[(3,cJ)],[(4,(.setc z3 0 (pn dj cJ)))]⟩ [] 24 55 [(pc (.setc z3 0 (pn dj cJ)) 0),u6]
 (.call ⟨[(26,(.nt oY))],[]⟩ [(26,false)] 32 55 [(pc o4 1),u6]
 (.ite (.pick (.pick (.pick oZ pT (.nt Qj)) pT (ak (pc o4 2) (pi 1))) pT (cm (pc o4 2) (pi 20000)))
 (.ret (pi 1))
 (.chk (.slok (pc o1 5) (pi 0) r3)
 (.brk ⟨[(50,(pi 0)),(49,(.llen (.slc (pc o1 5) (pi 0) r3))),(48,(.slc (pc o1 5) (pi 0) r3))],[]⟩
(alC b)
 (.next ⟨[],[]⟩)))))))
 (.next ⟨[(14,(br cJ (pi 1)))],[]⟩))
 (.exit 0 ⟨[(15,(ak cJ dG))],[]⟩))
def SH (b:Nat→PC):PT:=
 (.ite (cm (.llen (pc (.mk [r0]) 5)) (pi 100))
 (.ret (pi 6))
 (.brk ⟨[(14,(pi 0)),(13,(.llen (pc (.mk [r0]) 5))),(12,(pc (.mk [r0]) 5)),(2,(pi 0))],[(1,(.mk [r0]))]⟩
(alD b)
 (.ret (pi 0))))
def agS (b:Nat→PC):PT×List (Shp×PT):=(SH b,[(.lp 2 [2,50,51] [] [2,50] [],AO b),(.lp 0 [2,14,15] [] [2,14] [],EL b)])
theorem Ji:yQ.map told=some (agS (bO yQ)):=by kernel_rfl
theorem aqu:tree (ah yQ)=SH BA:=cO Ji
theorem J4:round 2 [2,50,51] [] [2,50] [] (BA 0)=AO BA:=bH Ji 0 fun _=>rfl
theorem QQ:round 0 [2,14,15] [] [2,14] [] (BA 1)=EL BA:=bH Ji 1 fun _=>rfl
def yO:Option PC:=cF [2] [] Tryz.f60 60 [1,4,6]
def Bz:Nat→PC:=bX yO
def alz (b:Nat→PC):PC:=.block 0 [2,14,15] [] (.loop [2,14] [] (b 0))
def alA (b:Nat→PC):PC:=.block 2 [2,69,70] [] (.loop [2,69] [] (b 1))
def EJ (b:Nat→PC):PT:=
 (.ite (ak cJ dG)
 (.blockS ⟨[],[]⟩ 1 [2,4,16,17,18,19,20,21,22,23,24,25,33,34,40,41,47,48,54,55,60] [4]
 (.chk (aB dj cJ)
 (.call ⟨[],[(4,(.setc z5 0 (pn dj cJ)))]⟩ [] 23 55 [(pc (.setc z5 0 (pn dj cJ)) 0),(.llen (pc o1 0))]
 (.call ⟨[(25,(.nt jS))],[]⟩ [(25,false)] 31 55 [(pc o4 1),(.llen (pc o1 0))]
 (.call ⟨[(41,(.pick (.pick lI pT (.nt xz)) pT (aq (pc o4 0) (pc o4 1))))],[]⟩ [(41,false)] 45 55 [(cN (pc o4 2) (pi 1)),(pi 1073741824)]
 (.call ⟨[(48,(.pick xA pT (.nt rE)))],[]⟩ [(48,false)] 52 55 [(cN (pc o4 3) (pi 1)),(pi 1073741824)]
 (.call ⟨[(55,(.pick rF pT (.nt Qm)))],[]⟩ [(55,false)] 58 55 [(pc o4 4),(pi 100001)]
 (.ite (.pick Eh pT (.nt ve))
 (.ret (pi 1))
 (.next ⟨[],[]⟩))))))))
 (.next ⟨[(14,(br cJ (pi 1)))],[]⟩))
 (.exit 0 ⟨[(15,(ak cJ dG))],[]⟩))
def EK (b:Nat→PC):PT:=
 (.ite (ak xC Qn)
 (.blockS ⟨[],[]⟩ 3 [2,6,71,72,73,74,75,76,77,78,79,80,84,85,91,92,96] [6]
 (.chk (aB vf xC)
 (.call ⟨[],[(6,(.setc z3 0 (pn vf xC)))]⟩ [] 78 55 [(pc (.setc z3 0 (pn vf xC)) 0),u5]
 (.ite (.pick (.pick (.pick (.nt r78) pT (ak (pc o6 1) (pi 0))) pT (cm (pc o6 1) (pc o6 2))) pT (cm (pc o6 2) (pi 100000)))
 (.ret (pi 1))
 (.next ⟨[],[]⟩))))
 (.next ⟨[(69,(br xC (pi 1)))],[]⟩))
 (.exit 2 ⟨[(70,(ak xC Qn))],[]⟩))
def SF (b:Nat→PC):PT:=
 (.ite (cm (.llen (pc (.mk [r0]) 6)) (pi 100))
 (.ret (pi 6))
 (.brk ⟨[(14,(pi 0)),(13,(.llen (pc (.mk [r0]) 6))),(12,(pc (.mk [r0]) 6)),(2,(pi 0))],[(1,(.mk [r0]))]⟩
(alz b)
 (.ite (cm (.llen (pc o1 7)) (pi 20))
 (.ret (pi 6))
 (.brk ⟨[(69,(pi 0)),(68,(.llen (pc o1 7))),(67,(pc o1 7))],[]⟩
(alA b)
 (.ret (pi 0))))))
def agQ (b:Nat→PC):PT×List (Shp×PT):=(SF b,[(.lp 0 [2,14,15] [] [2,14] [],EJ b),(.lp 2 [2,69,70] [] [2,69] [],EK b)])
theorem Jh:yO.map told=some (agQ (bO yO)):=by kernel_rfl
theorem aqs:tree (ah yO)=SF Bz:=cO Jh
theorem QO:round 0 [2,14,15] [] [2,14] [] (Bz 0)=EJ Bz:=bH Jh 0 fun _=>rfl
theorem QP:round 2 [2,69,70] [] [2,69] [] (Bz 1)=EK Bz:=bH Jh 1 fun _=>rfl
def BK:Option PC:=cF [2] [] Tryz.f26 26 [1]
def Sf:PT:=
 (.ret (.pick (.pick (.pick (cV (.llen tu) (pi 42)) (cV (.llen (pc (.mk [r0]) 16)) (pi 6)) pF) (cV (.llen (pc (.mk [r0]) 17)) (pi 102)) pF) (cV (.llen AG) (pi 202)) pF))
theorem ZH:BK.map told=some (Sf,[]):=by kernel_rfl
theorem ap6:tree (ah BK)=Sf:=bE ZH
def v7:Option PC:=cF [4,5,6,7,8,11] [] Tryz.f21 21 [2,3,10]
def Bu:Nat→PC:=bX v7
def ak9 (b:Nat→PC):PC:=.block 0 [4,48,49] [] (.loop [4,48] [] (b 0))
def ala (b:Nat→PC):PC:=.block 2 [4,8,62,63] [] (.loop [4,8,62] [] (b 1))
def Et (b:Nat→PC):PT:=
 (.ite (ak rF Ql)
 (.blockS ⟨[],[]⟩ 1 [4,6,7,50,51,52,53,54,55,56] []
 (.call ⟨[],[]⟩ [] 54 43 [(aI 8 o2),(aI 19 o3),rF]
 (.ite (bt tA (pi 0))
 (.ret tA)
 (.next ⟨[],[]⟩)))
 (.next ⟨[(48,(br rF (pi 1)))],[]⟩))
 (.exit 0 ⟨[(49,(ak rF Ql))],[]⟩))
def Eu (b:Nat→PC):PT:=
 (.ite (ak qx r61)
 (.blockS ⟨[],[]⟩ 3 [4,8,10,64,65,66,67,68,69,70,71,72,73,74,75,76,77,78,79,80] [10]
 (.chk (aB Ei qx)
 (.call ⟨[],[(10,(.setc z2 0 (pn Ei qx)))]⟩ [] 73 44 [(pc (.setc z2 0 (pn Ei qx)) 0),u7,(.llen (pc o3 15))]
 (.ite (.nt Ek)
 (.ret (pi 1))
 (.call ⟨[],[]⟩ [] 77 44 [(pc cI 1),(pi 1),AF]
 (.ite (.nt r77)
 (.ret (pi 3))
 (.next ⟨[(8,(pc cI 0))],[]⟩))))))
 (.next ⟨[(62,(br qx (pi 1)))],[]⟩))
 (.exit 2 ⟨[(63,(ak qx r61))],[]⟩))
def R5 (b:Nat→PC):PT:=
 (.ite (.pick (.pick (.pick (cm (.llen (pc (.mk [r1]) 15)) (pi 40)) pT (cm (.llen (pc (.mk [r1]) 16)) (pi 4))) pT (cm (.llen (pc (.mk [r1]) 17)) (pi 100))) pT (cm (.llen (pc (.mk [r1]) 18)) (pi 200)))
 (.ret (pi 6))
 (.call ⟨[(4,(pi 0))],[(3,(.mk [r1])),(2,(.mk [r0]))]⟩ [] 37 42 [nO,(aI 15 (.mk [r1]))]
 (.ite (bt qv (pi 0))
 (.ret qv)
 (.ite (aq (.llen (pc o3 15)) (pi 0))
 (.ret (pi 14))
 (.brk ⟨[(48,(pi 0)),(47,(.llen (pc o3 15)))],[]⟩
(ak9 b)
 (.brk ⟨[(62,(pi 0)),(61,(.llen (pc o3 16))),(60,(pc o3 16)),(8,(pi 0))],[]⟩
(ala b)
 (.call ⟨[],[]⟩ [] 84 45 [(aI 8 o2),(aI 19 o3)]
 (.ite (bt El (pi 0))
 (.ret El)
 (.call ⟨[],[]⟩ [] 89 46 [(aI 19 o3)]
 (.ret Qo))))))))))
def agw (b:Nat→PC):PT×List (Shp×PT):=(R5 b,[(.lp 0 [4,48,49] [] [4,48] [],Et b),(.lp 2 [4,8,62,63] [] [4,8,62] [],Eu b)])
theorem Jd:v7.map told=some (agw (bO v7)):=by kernel_rfl
theorem apV:tree (ah v7)=R5 Bu:=cO Jd
theorem Qz:round 0 [4,48,49] [] [4,48] [] (Bu 0)=Et Bu:=bH Jd 0 fun _=>rfl
theorem QA:round 2 [4,8,62,63] [] [4,8,62] [] (Bu 1)=Eu Bu:=bH Jd 1 fun _=>rfl
def BL:Option PC:=cF [4,5,6,7,8,54,80,109,118,9,10] [] Tryz.f42 42 [2,3]
def Tf:PT:=
 (.call ⟨[],[(3,(.mk [r1])),(2,(.mk [r0]))]⟩ [] 12 25 [nO]
 (.ite (bt dj (pi 0))
 (.ret dj)
 (.call ⟨[(7,(.llen (pc o2 1))),(6,(.llen (pc o2 3)))],[]⟩ [] 25 73 [(pc o3 0),(.llen (pc o2 3))]
 (.call ⟨[(26,lI)],[]⟩ [(26,true)] 30 73 [(pc o3 1),r6]
 (.call ⟨[(36,(aq (pc o3 2) (pi (-1)))),(32,(.pick oZ Ed pF))],[]⟩ [(36,false),(32,true)] 40 73 [(pc o3 2),r6]
 (.call ⟨[(47,(aq (pc o3 11) (pi (-1)))),(43,(.pick Qj (.pick qu pT m4) pF))],[]⟩ [(47,false),(43,true)] 51 73 [(pc o3 11),r6]
 (.blockS ⟨[(8,(.pick vc (.pick Ql pT qw) pF))],[]⟩ 0 [4,54,55,56,57,65,66,72,73,79,80,81,82,83,84,88,89,93,94,98,99,103,104,108,109,110,111,112,113,117,118,119,120,121,122,126,127,137,138,142] []
 (.call ⟨[(57,(.nt r8))],[]⟩ [(57,false)] 63 73 [(pc o3 4),(.llen (pc o2 0))]
 (.call ⟨[(66,(.pick xB pT (.nt Ej)))],[]⟩ [(66,false)] 70 73 [(pc o3 9),r7]
 (.call ⟨[(73,(.pick r66 pT (.nt r70)))],[]⟩ [(73,false)] 77 73 [(pc o3 10),r7]
 (.iteS ⟨[],[]⟩ (.pick Ek pT (.nt r77)) [4,80,81,82,83,84,88,89,93,94,98,99,103,104,108,109,110,111,112,113,117,118,119,120,121,122,126,127,137,138,142] []
 (.ret (pi 1))
 (.iteS ⟨[],[]⟩ (.pick (.pick (.pick (.pick (.pick (ak (pc o3 3) (pi 1)) pT (cm (pc o3 3) AF)) pT (ak (pc o3 8) (pi 0))) pT (cm (pc o3 8) (pi 100000))) pT (ak (pc o3 12) (pi 0))) pT (cm (pc o3 12) (pi 1000))) [4,109,110,111,112,113,117,118,119,120,121,122,126,127,137,138,142] []
 (.ret (pi 3))
 (.iteS ⟨[],[]⟩ (.pick (ak (pc o3 14) (pi 1)) pT (cm (pc o3 14) (pi 4))) [4,118,119,120,121,122,126,127,137,138,142] []
 (.ret (pi 15))
 (.call ⟨[(138,(.pick (.pick (ak (pc o3 13) (pi 0)) pT (cm (pc o3 13) (pi 7))) pT (.pick (bt (.ai .and .i64 (pc o3 13) (pi 4)) (pi 0)) (aq (pc o3 2) (pi (-1))) pF)))],[]⟩ [(138,false)] 140 74 [(aI 15 o3)]
 (.ite (.pick (.r 138) pT (.nt (.r 140)))
 (.ret (pi 2))
 (.next ⟨[],[]⟩)))
 (.next ⟨[],[]⟩))
 (.next ⟨[],[]⟩))
 (.next ⟨[],[]⟩)))))
 (.iteS ⟨[],[]⟩ (aq (pc o3 5) (pi 4)) [4] []
 (.call ⟨[],[]⟩ [] 153 75 [(aI 8 o2),(pc o3 9),(pc o3 10)]
 (.ret (.tget (.r 153) 1)))
 (.next ⟨[],[]⟩)
 (.ret (pi 0))))))))))
theorem aaa:BL.map told=some (Tf,[]):=by kernel_rfl
theorem aqZ:tree (ah BL)=Tf:=bE aaa
def G8:Option PC:=cF [4] [] Tryz.f73 73 []
def Tg:PT:=
 (.ret Qf)
theorem aab:G8.map told=some (Tg,[]):=by kernel_rfl
theorem aq0:tree (ah G8)=Tg:=bE aab
def G9:Option PC:=cF [2,8,19,40] [] Tryz.f74 74 [1,3]
def Th:PT:=
 (.ite (.pick (aq (pc lH 0) (pi 0)) (aq (pc lH 0) (pi 0)) (aq (pc lH 0) (pi 4)))
 (.ret (.pick (aq (pc lH 1) (pi 0)) (aq (pc lH 2) (pi 0)) pF))
 (.ite (.pick (aq (pc lH 0) (pi 1)) (aq (pc lH 0) (pi 1)) (aq (pc lH 0) (pi 2)))
 (.ret (.pick (.pick (cY (pc lH 1) (pi 1)) (cV (pc lH 1) (pi 400)) pF) (.pick (aq (pc lH 2) (pi 0)) pT (aq (pc lH 2) (pi 1))) pF))
 (.ite (aq (pc lH 0) (pi 3))
 (.ret (.pick (.pick (cY (pc lH 1) (pc (.mk [r0]) 8)) (cV (pc lH 1) (pi 100000)) pF) (aq (pc lH 2) (pi 0)) pF))
 (.ret pF))))
theorem aac:G9.map told=some (Th,[]):=by kernel_rfl
theorem aq1:tree (ah G9)=Th:=bE aac
def yI:Option PC:=cF [6,7] [] Tryz.f75 75 [3,9]
def LH:Nat→PC:=bX yI
def alp (b:Nat→PC):PC:=.block 0 [6,7,13,14] [] (.loop [6,7,13] [] (b 0))
def EE (b:Nat→PC):PT:=
 (.ite (ak dG dj)
 (.chk (aB bS dG)
 (.ite (.pick (aq (pc (.setc z3 0 (pn bS dG)) 0) r1) (aq (pc (.setc z3 0 (pn bS dG)) 1) r2) pF)
 (.ret (.tup [(pc (.setc z3 0 (pn bS dG)) 2),(pi 0)]))
 (.next ⟨[(13,(br dG (pi 1)))],[]⟩)))
 (.exit 0 ⟨[(14,(ak dG dj))],[]⟩))
def Sv (b:Nat→PC):PT:=
 (.brk ⟨[(13,(pi 0)),(12,(.llen (pc (.mk [r0]) 5))),(11,(pc (.mk [r0]) 5)),(7,(pi 0)),(6,(pi 0))],[]⟩
(alp b)
 (.ret (.tup [(pi 0),(pi 4)])))
def agK (b:Nat→PC):PT×List (Shp×PT):=(Sv b,[(.lp 0 [6,7,13,14] [] [6,7,13] [],EE b)])
theorem Ps:yI.map told=some (agK (bO yI)):=by kernel_rfl
theorem aqk:tree (ah yI)=Sv LH:=cO Ps
theorem QJ:round 0 [6,7,13,14] [] [6,7,13] [] (LH 0)=EE LH:=bH Ps 0 fun _=>rfl
def yA:Option PC:=cF [6,8,9,76,92,98] [] Tryz.f43 43 [3,4,7,11]
def Lx:Nat→PC:=bX yA
def ald (b:Nat→PC):PC:=.block 0 [8,9,51,52] [] (.loop [8,9,51] [] (b 0))
def JY (b:Nat→PC):PT:=
 (.ite (ak qw m5)
 (.chk (aB vd qw)
 (.next ⟨[(8,(pc (.setc z9 0 (pn vd qw)) 6)),(9,(.pick r9 pT (.pick (.pick (aq (pc o7 0) (pi 1)) (aq (pc (.setc z9 0 (pn vd qw)) 0) (pi 1)) pF) (aq (pc (.setc z9 0 (pn vd qw)) 1) (pc o7 1)) pF))),(51,(br qw (pi 1)))],[]⟩))
 (.exit 0 ⟨[(52,(ak qw m5))],[]⟩))
def Sc (b:Nat→PC):PT:=
 (.chk (aB (pc (.mk [r1]) 15) r2)
 (.call ⟨[],[(7,oW),(4,(.mk [r1])),(3,(.mk [r0]))]⟩ [] 23 44 [(pc oW 1),(pi 0),(cN (pc (.mk [r1]) 14) (pi 1))]
 (.ite (.nt jS)
 (.ret (pi 15))
 (.call ⟨[],[]⟩ [] 31 44 [(pc o7 2),(pi 0),JF]
 (.call ⟨[(33,(.nt xz))],[]⟩ [(33,false)] 40 44 [(pc o7 7),(pi 0),(cN (.llen (pc o3 1)) (pi 1))]
 (.ite (.pick Ee pT (.nt m4))
 (.ret (pi 1))
 (.chk (.slok (pc o4 15) (pi 0) r2)
 (.brk ⟨[(51,(pi 0)),(50,(.llen (.slc (pc o4 15) (pi 0) r2))),(49,(.slc (pc o4 15) (pi 0) r2)),(9,pF),(8,(pc o4 8))],[]⟩
(ald b)
 (.blockS ⟨[],[]⟩ 2 [6,76,77,78,79,80,81,82,91,92,93,94,95,96,97,98,99] []
 (.call ⟨[],[]⟩ [] 80 44 [(pc o7 6),r8,(pi 100000)]
 (.iteS ⟨[],[]⟩ (.pick (.nt xD) pT (.pick (aq r2 (pi 0)) (bt (pc o7 6) r8) pF)) [6,92,93,94,95,96,97,98,99] []
 (.ret (pi 13))
 (.call ⟨[],[]⟩ [] 96 76 [(aI 8 o3),(aI 19 o4),r2]
 (.ite (.nt r96)
 (.ret (pi 14))
 (.ite r9
 (.ret (pi 5))
 (.next ⟨[],[]⟩))))
 (.next ⟨[],[]⟩)))
 (.ret (pi 0)))))))))))
def agz (b:Nat→PC):PT×List (Shp×PT):=(Sc b,[(.lp 0 [8,9,51,52] [] [8,9,51] [],JY b)])
theorem Pl:yA.map told=some (agz (bO yA)):=by kernel_rfl
theorem ap2:tree (ah yA)=Sc Lx:=cO Pl
theorem abi:round 0 [8,9,51,52] [] [8,9,51] [] (Lx 0)=JY Lx:=bH Pl 0 fun _=>rfl
def GC:Option PC:=cF [6] [] Tryz.f44 44 []
def Sb:PT:=
 (.ret (.pick (cY r0 r1) (cV r0 r2) pF))
theorem ZF:GC.map told=some (Sb,[]):=by kernel_rfl
theorem ap1:tree (ah GC)=Sb:=bE ZF
def GB:Option PC:=cF [6,9,10,66,103,113,11,140,149] [] Tryz.f76 76 [3,4,7,8]
def Sa:PT:=
 (.chk (aB (pc (.mk [r1]) 15) r2)
 (.ite (.pick (.cb .neq (aq r2 (pi 0)) (aq (pc oW 0) (pi 0))) pT (.pick (bt (pc oW 0) (pi 2)) (bt (pc oW 4) (pi (-1))) pF))
 (.ret pF)
 (.ite (.pick (.pick (bt (pc oW 0) (pi 3)) (bt (pc oW 0) (pi 4)) pF) (bt (pc oW 3) (pi (-1))) pF)
 (.ret pF)
 (.call ⟨[(9,(.pick (aq (pc oW 5) (pi 0)) (aq (pc oW 8) (pi 0)) pF))],[(8,(.setc KM 0 (aI 15 (.mk [r1])))),(7,oW),(4,(.mk [r1])),(3,(.mk [r0]))]⟩ [] 58 44 [(pc oW 5),(pi 1),AF]
 (.blockS ⟨[(65,(pc o7 0)),(10,(.pick ve (aq (pc o7 8) (pi 0)) pF))],[]⟩ 0 [6,66,67,103,104,113,114,140,141,149,150] []
 (.iteS ⟨[],[]⟩ (aq AJ (pi 0)) [6,103,104,113,114,140,141,149,150] []
 (.ret (.pick (.pick (.pick (.pick (.pick (aq (pc o7 2) (pc o8 0)) (aq (pc o7 5) (pi 0)) pF) (aq (.ai .or .i64 (pc o7 8) (pi 1)) (pi 1)) pF) (aq (pc o7 1) (pi 0)) pF) (aq (pc o7 6) (pc o8 8)) pF) (aq (pc o7 7) (pc o8 9)) pF))
 (.iteS ⟨[],[]⟩ (aq AJ (pi 1)) [6,113,114,140,141,149,150] []
 (.ret (.pick (aq (pc o7 2) (pc o8 1)) di pF))
 (.iteS ⟨[],[]⟩ (aq AJ (pi 2)) [6,140,141,149,150] []
 (.call ⟨[(11,(pi 6))],[]⟩ [] 121 44 [(pc o7 4),(pi (-1)),JF]
 (.call ⟨[(127,(.pick anO (aq (pc o7 5) (pi 0)) pF))],[]⟩ [(127,true)] 130 44 [(pc o7 8),(pi 0),(pi 7)]
 (.ret (.pick (.pick aaV (.r 130) pF) (bt (.ai .and .i64 (pc o7 8) bS) bS) pF))))
 (.iteS ⟨[],[]⟩ (aq AJ (pi 3)) [6,149,150] []
 (.call ⟨[(143,r9)],[]⟩ [(143,true)] 147 98 [(aI 19 o4),r2,(.lst [(pi 0),(pi 1),(pi 2),(pi 4)])]
 (.ret (.pick (.r 143) (.r 147) pF)))
 (.iteS ⟨[],[]⟩ (aq AJ (pi 4)) [6] []
 (.call ⟨[(159,(.pick di (bt (pc o7 2) (pc o8 1)) pF))],[]⟩ [(159,true)] 163 98 [(aI 19 o4),r2,(.lst [(pi 0),(pi 2)])]
 (.ret (.pick (.r 159) (.r 163) pF)))
 (.next ⟨[],[]⟩)
 (.next ⟨[],[]⟩))
 (.next ⟨[],[]⟩))
 (.next ⟨[],[]⟩))
 (.next ⟨[],[]⟩))
 (.next ⟨[],[]⟩))
 (.ret pF))))))
theorem ZE:GB.map told=some (Sa,[]):=by kernel_rfl
theorem ap0:tree (ah GB)=Sa:=bE ZE
def GA:Option PC:=cF [6,7] [] Tryz.f98 98 [3]
def R8:PT:=
 (.chk (aB tu r1)
 (.call ⟨[(7,(pc (pn tu r1) 3))],[(3,(.mk [r0]))]⟩ [] 17 44 [(pc (pn tu r1) 3),(pi 0),(cN r1 (pi 1))]
 (.chk (.nt (.an (.an iu pT) (.nt (aB (pc o3 15) r1))))
 (.call ⟨[(18,iu)],[]⟩ [(18,true)] 27 99 [(aI 19 o3),r7,(pc (pn (pc o3 15) r1) 1)]
 (.chk (.nt (.an (.an (.pick gT gB pF) pT) (.nt (aB (pc o3 15) r7))))
 (.call ⟨[(29,(.pick gT gB pF))],[]⟩ [(29,true)] 37 105 [r2,(pc (pn (pc o3 15) r7) 0)]
 (.ret (.pick tz qv pF))))))))
theorem ZD:GA.map told=some (R8,[]):=by kernel_rfl
theorem apY:tree (ah GA)=R8:=bE ZD
def GD:Option PC:=cF [6] [] Tryz.f99 99 [3]
def KC:PT:=
 (.chk (.nt (.an (.an (.nt (aq r1 (pi 0))) pT) (.nt (aB tu r1))))
 (.ret (.pick (aq r1 (pi 0)) pT (aq (pc (pn tu r1) 1) r2))))
theorem ZG:GD.map told=some (KC,[]):=by kernel_rfl
theorem ap3:tree (ah GD)=KC:=bE ZG
def yy:Option PC:=cF [4,5,7] [] Tryz.f45 45 [2,3,6]
def Lv:Nat→PC:=bX yy
def alb (b:Nat→PC):PC:=.block 0 [4,11,12] [] (.loop [4,11] [] (b 0))
def JW (b:Nat→PC):PT:=
 (.ite u9
 (.blockS ⟨[],[]⟩ 1 [4,5,6,7,13,14,15,16,17,18,19,20,21,22,23,24,25,26,27,28,29,30,31,32,37,38,39,40,41,42,43,44,45,46,47,48,58,59,69,70,71,72,73] [6]
 (.chk (aB r9 bS)
 (.call ⟨[(5,bS)],[(6,(.setc z9 0 (pn r9 bS)))]⟩ [] 22 44 [(pc (.setc z9 0 (pn r9 bS)) 3),(pi 0),(cN (pc o3 14) (pi 1))]
 (.ite (.nt va)
 (.ret (pi 15))
 (.call ⟨[],[]⟩ [] 30 44 [(pc o6 7),(pi 0),(cN (.llen (pc o2 1)) (pi 1))]
 (.call ⟨[(32,(.nt Ed))],[]⟩ [(32,false)] 35 44 [(pc o6 0),(pi 0),(pi 9)]
 (.ite (.pick Qj pT (.nt Ef))
 (.ret (pi 1))
 (.call ⟨[],[]⟩ [] 41 77 [(aI 8 o2),(aI 19 o3),(aI 9 o6)]
 (.ite (.nt xA)
 (.ret (pi 14))
 (.ite (bt (pc o6 4) (pi (-1)))
 (.chk (aB (pc o3 15) (pc o6 4))
 (.ite (cm r5 (pi 0))
 (.chk (aB (pc o3 17) (cN r5 (pi 1)))
 (.call ⟨[],[]⟩ [] 72 44 [(pc o6 6),(.mx (.mx (pc o3 8) (pc (pn (pc o3 15) (pc o6 4)) 6)) (pc (pn (pc o3 17) (cN r5 (pi 1))) 6)),(pi 100000)]
 (.ite (.nt JJ)
 (.ret (pi 13))
 (.next ⟨[],[]⟩))))
 (.call ⟨[],[]⟩ [] 72 44 [(pc o6 6),(.mx (pc o3 8) (pc (pn (pc o3 15) (pc o6 4)) 6)),(pi 100000)]
 (.ite (.nt JJ)
 (.ret (pi 13))
 (.next ⟨[],[]⟩)))))
 (.ite (cm r5 (pi 0))
 (.chk (aB (pc o3 17) (cN r5 (pi 1)))
 (.call ⟨[],[]⟩ [] 72 44 [(pc o6 6),(.mx (pc o3 8) (pc (pn (pc o3 17) (cN r5 (pi 1))) 6)),(pi 100000)]
 (.ite (.nt JJ)
 (.ret (pi 13))
 (.next ⟨[],[]⟩))))
 (.call ⟨[],[]⟩ [] 72 44 [(pc o6 6),(pc o3 8),(pi 100000)]
 (.ite (.nt JJ)
 (.ret (pi 13))
 (.next ⟨[],[]⟩)))))))))))))
 (.next ⟨[(11,(br bS (pi 1)))],[]⟩))
 (.exit 0 ⟨[(12,u9)],[]⟩))
def R7 (b:Nat→PC):PT:=
 (.brk ⟨[(11,(pi 0)),(10,(.llen (pc (.mk [r1]) 17))),(9,(pc (.mk [r1]) 17)),(4,(pi 0))],[(3,(.mk [r1])),(2,(.mk [r0]))]⟩
(alb b)
 (.ret (pi 0)))
def agx (b:Nat→PC):PT×List (Shp×PT):=(R7 b,[(.lp 0 [4,11,12] [] [4,11] [],JW b)])
theorem Pj:yy.map told=some (agx (bO yy)):=by kernel_rfl
theorem apX:tree (ah yy)=R7 Lv:=cO Pj
theorem abg:round 0 [4,11,12] [] [4,11] [] (Lv 0)=JW Lv:=bH Pj 0 fun _=>rfl
def Gz:Option PC:=cF [6,7,8,9,65,80,100,111] [] Tryz.f77 77 [3,4,5]
def R6:PT:=
 (.call ⟨[],[(5,(.mk [r2])),(4,(.mk [r1])),(3,(.mk [r0]))]⟩ [] 16 44 [(pc (.mk [r2]) 4),(pi 0),(cN (.llen (pc (.mk [r1]) 15)) (pi 1))]
 (.call ⟨[(17,bT)],[]⟩ [(17,true)] 23 99 [(aI 19 o4),(pc o5 4),(pc o5 3)]
 (.chk (.nt (.an (.an (.pick iu jS pF) pT) (.nt (aB (pc o4 15) (pc o5 4)))))
 (.call ⟨[(8,(.pick (.pick iu jS pF) (aq (pc (pn (pc o4 15) (pc o5 4)) 2) (pc o5 1)) pF)),(7,(.pick iu jS pF))],[]⟩ [] 44 44 [(pc o5 2),(pi 0),JF]
 (.call ⟨[(9,Eg)],[]⟩ [] 51 44 [(pc o5 1),(pi 0),JF]
 (.ite (.pick (.nt qw) pT (.pick (bt (pc o5 0) (pi 4)) (bt (pc o5 8) (pi 0)) pF))
 (.ret pF)
 (.blockS ⟨[(64,(pc o5 0))],[]⟩ 0 [6,65,66,80,81,100,101,111,112] []
 (.iteS ⟨[],[]⟩ (.pick (aq kf (pi 0)) (aq kf (pi 0)) (.pick (aq kf (pi 1)) (aq kf (pi 1)) (aq kf (pi 2)))) [6,80,81,100,101,111,112] []
 (.ret (.pick (.pick r9 (aq (pc o5 4) (pi (-1))) pF) (aq (pc o5 5) (pi 0)) pF))
 (.iteS ⟨[],[]⟩ (.pick (aq kf (pi 3)) (aq kf (pi 3)) (.pick (aq kf (pi 5)) (aq kf (pi 5)) (aq kf (pi 4)))) [6,100,101,111,112] []
 (.call ⟨[(90,(.pick r9 (aq (pc o5 4) (pi (-1))) pF))],[]⟩ [(90,true)] 93 44 [(pc o5 5),(pi 0),AF]
 (.call ⟨[(95,(.pick r90 Qp pF))],[]⟩ [(95,true)] 98 44 [(pc o5 8),(pi 0),(pi 1)]
 (.ret (.pick r95 r98 pF))))
 (.iteS ⟨[],[]⟩ (aq kf (pi 6)) [6,111,112] []
 (.call ⟨[(106,(.pick r9 r8 pF))],[]⟩ [(106,true)] 109 44 [(pc o5 5),(pi 1),AF]
 (.ret (.pick anL anM pF)))
 (.ite (aq kf (pi 9))
 (.ret (.pick (.pick (aq (pc o5 2) (pi (-1))) r8 pF) (aq (pc o5 5) (pi 0)) pF))
 (.next ⟨[],[]⟩))
 (.next ⟨[],[]⟩))
 (.next ⟨[],[]⟩))
 (.next ⟨[],[]⟩))
 (.ret (.pick (.pick (aq (pc o5 2) (pi (-1))) r7 pF) (aq (pc o5 5) (pi 0)) pF)))))))))
theorem ZC:Gz.map told=some (R6,[]):=by kernel_rfl
theorem apW:tree (ah Gz)=R6:=bE ZC
def yz:Option PC:=cF [2,3] [] Tryz.f46 46 [1,4,5]
def Lw:Nat→PC:=bX yz
def alc (b:Nat→PC):PC:=.block 0 [2,9,10] [] (.loop [2,9] [] (b 0))
def JX (b:Nat→PC):PT:=
 (.ite (ak r9 r8)
 (.blockS ⟨[],[]⟩ 1 [2,3,4,11,12,13,14,15,16,17,18,27,28,33,34,35] [4]
 (.chk (aB r7 r9)
 (.call ⟨[(3,r9)],[(4,(.setc z3 0 (pn r7 r9)))]⟩ [] 16 44 [(pc (.setc z3 0 (pn r7 r9)) 0),(pi 0),(pi 4)]
 (.call ⟨[(18,(.nt bT))],[]⟩ [(18,false)] 25 44 [(pc o4 1),(pi 0),(cN (.llen (pc o1 15)) (pi 1))]
 (.call ⟨[(28,(.pick gT pT (.nt lI)))],[]⟩ [(28,false)] 31 44 [(pc o4 2),(pi 0),(pi 1)]
 (.ite (.pick Ec pT (.nt xz))
 (.ret (pi 1))
 (.ite (aq r3 (pi 0))
 (.exit 1 ⟨[],[]⟩)
 (.chk (aB (pc o1 18) (cN r3 (pi 1)))
 (.call ⟨[],[(5,(.setc z3 0 (pn (pc o1 18) (cN r3 (pi 1)))))]⟩ [] 46 38 [(pc (.setc z3 0 (pn (pc o1 18) (cN r3 (pi 1)))) 1),(pc o4 1)]
 (.call ⟨[],[]⟩ [] 51 38 [(pc o5 0),(pc o4 0)]
 (.call ⟨[],[]⟩ [] 53 37 [(.lst [Qk,qw])]
 (.ite (cY r53 (pi 0))
 (.ret (pi 5))
 (.next ⟨[],[]⟩))))))))))))
 (.next ⟨[(9,(br r9 (pi 1)))],[]⟩))
 (.exit 0 ⟨[(10,(ak r9 r8))],[]⟩))
def R9 (b:Nat→PC):PT:=
 (.brk ⟨[(9,(pi 0)),(8,(.llen AG)),(7,AG),(2,(pi 0))],[(1,(.mk [r0]))]⟩
(alc b)
 (.ret (pi 0)))
def agy (b:Nat→PC):PT×List (Shp×PT):=(R9 b,[(.lp 0 [2,9,10] [] [2,9] [],JX b)])
theorem Pk:yz.map told=some (agy (bO yz)):=by kernel_rfl
theorem apZ:tree (ah yz)=R9 Lw:=cO Pk
theorem abh:round 0 [2,9,10] [] [2,9] [] (Lw 0)=JX Lw:=bH Pk 0 fun _=>rfl
def Gl:Option PC:=cF [4,5,6] [] Tryz.f38 38 []
def RN:PT:=
 (.call ⟨[],[]⟩ [] 8 70 [r0]
 (.call ⟨[(5,r8)],[]⟩ [] 10 70 [r1]
 (.ite r5
 (.ite di
 (.ret (pi 0))
 (.ret (pi (-1))))
 (.ite di
 (.ret (pi 1))
 (.ite (ak r0 r1)
 (.ret (pi (-1)))
 (.ite (cm r0 r1)
 (.ret (pi 1))
 (.ret (pi 0))))))))
theorem Zo:Gl.map told=some (RN,[]):=by kernel_rfl
theorem apC:tree (ah Gl)=RN:=bE Zo
def Gm:Option PC:=cF [2] [] Tryz.f70 70 []
def RP:PT:=
 (.ret (bt r0 r0))
theorem Zp:Gm.map told=some (RP,[]):=by kernel_rfl
theorem apE:tree (ah Gm)=RP:=bE Zp
def yr:Option PC:=cF [2,3,5] [] Tryz.f37 37 []
def Lr:Nat→PC:=bX yr
def ak3 (b:Nat→PC):PC:=.block 0 [2,8,9] [] (.loop [2,8] [] (b 0))
def Er (b:Nat→PC):PT:=
 (.ite (ak r8 r7)
 (.chk (aB r6 r8)
 (.ite (bt (pn r6 r8) r3)
 (.ret (pn r6 r8))
 (.next ⟨[(8,u7)],[]⟩)))
 (.exit 0 ⟨[(9,(ak r8 r7))],[]⟩))
def RO (b:Nat→PC):PT:=
 (.brk ⟨[(8,(pi 0)),(7,(.llen r0)),(6,r0),(3,(pi 0)),(2,(pi 0))],[]⟩
(ak3 b)
 (.ret r3))
def agr (b:Nat→PC):PT×List (Shp×PT):=(RO b,[(.lp 0 [2,8,9] [] [2,8] [],Er b)])
theorem Pe:yr.map told=some (agr (bO yr)):=by kernel_rfl
theorem apD:tree (ah yr)=RO Lr:=cO Pe
theorem Qw:round 0 [2,8,9] [] [2,8] [] (Lr 0)=Er Lr:=bH Pe 0 fun _=>rfl
def yx:Option PC:=cF [7] [] Tryz.f18 18 [3,6]
def Lu:Nat→PC:=bX yx
def ak8 (b:Nat→PC):PC:=.block 0 [7,8,9,10,11,12,17] [3] (.loop [7] [3] (b 0))
def JV (b:Nat→PC):PT:=
 (.ite (.pick (ak r7 (.llen r1)) (ak r7 (.llen r2)) pF)
 (.blockS ⟨[],[]⟩ 1 [20,21,22,23,24,25,26,27,28,29,30,31,32,33,34,35,36,37] [3]
 (.chk (aB r1 r7)
 (.call ⟨[(25,(pn r1 r7)),(21,(aI 19 o3))],[]⟩ [] 31 41 [(aI 24 o3),(pn r1 r7)]
 (.chk (aB r2 r7)
 (.call ⟨[],[]⟩ [] 36 16 [m0,lI,xz,(pn r2 r7)]
 (.next ⟨[],[(3,(.setc o3 0 qu))]⟩)))))
 (.next ⟨[(7,(br r7 (pi 1)))],[]⟩))
 (.exit 0 ⟨[(8,r7),(9,r1),(10,(.llen r1)),(11,(ak r7 (.llen r1))),(12,(ak r7 (.llen r1))),(17,(.pick (ak r7 (.llen r1)) (ak r7 (.llen r2)) pF))],[]⟩))
def R0 (b:Nat→PC):PT:=
 (.brk ⟨[(7,(pi 0))],[(6,u3),(3,(.mk [r0]))]⟩
(ak8 b)
 (.ret (aI 24 (.setc o6 0 (aI 24 o3)))))
def agv (b:Nat→PC):PT×List (Shp×PT):=(R0 b,[(.lp 0 [7,8,9,10,11,12,17] [3] [7] [3],JV b)])
theorem Ph:yx.map told=some (agv (bO yx)):=by kernel_rfl
theorem apQ:tree (ah yx)=R0 Lu:=cO Ph
theorem abf:round 0 [7,8,9,10,11,12,17] [3] [7] [3] (Lu 0)=JV Lu:=bH Ph 0 fun _=>rfl
def GH:Option PC:=cF [4] [] Tryz.f41 41 [2]
def Sn:PT:=
 (.ite (.pick (.pick (aq r1 (pi 0)) pT (aq r1 (pi 1))) pT (aq r1 (pi 2)))
 (.ret (pc (.mk [r0]) 19))
 (.ite (aq (pc (.mk [r0]) 20) (pi (-1)))
 (.ret (pi 0))
 (.ret (pc (.mk [r0]) 20))))
theorem ZK:GH.map told=some (Sn,[]):=by kernel_rfl
theorem aqd:tree (ah GH)=Sn:=bE ZK
def yG:Option PC:=cF [2,3,6,0] [] Tryz.f19 19 [4,5]
def LF:Nat→PC:=bX yG
def aln (b:Nat→PC):PC:=.block 0 [0,4,5,6,7,8] [5,4] (.loop [0,4,5,6] [5,4] (b 0))
def EC (b:Nat→PC):PT:=
 (.ite (ak r6 (pi 5))
 (.chk (bt (pi 3) (pi 0))
 (.ite (cm (.ai .rem .i64 r0 (pi 3)) (pi 0))
 (.chk (cV (.llen (.app o4 (.lst [r6]))) dx)
 (.chk (cV (.llen (.app o5 (.lst [(cN (.ai .rem .i64 r0 (pi 3)) (pi 1))]))) dx)
 (.next ⟨[(0,(.ai .quo .i64 r0 (pi 3))),(4,pN),(5,pN),(6,(br r6 (pi 1)))],[(5,(.app o5 (.lst [(cN (.ai .rem .i64 r0 (pi 3)) (pi 1))]))),(4,(.app o4 (.lst [r6])))]⟩)))
 (.next ⟨[(0,(.ai .quo .i64 r0 (pi 3))),(6,(br r6 (pi 1)))],[]⟩)))
 (.exit 0 ⟨[(7,r6),(8,(ak r6 (pi 5)))],[]⟩))
def Sm (b:Nat→PC):PT:=
 (.brk ⟨[(6,(pi 0)),(5,pN),(4,pN)],[(5,pL),(4,pL)]⟩
(aln b)
 (.ret (.tup [o4,o5])))
def agI (b:Nat→PC):PT×List (Shp×PT):=(Sm b,[(.lp 0 [0,4,5,6,7,8] [5,4] [0,4,5,6] [5,4],EC b)])
theorem Pq:yG.map told=some (agI (bO yG)):=by kernel_rfl
theorem aqc:tree (ah yG)=Sm LF:=cO Pq
theorem QH:round 0 [0,4,5,6,7,8] [5,4] [0,4,5,6] [5,4] (LF 0)=EC LF:=bH Pq 0 fun _=>rfl
def yF:Option PC:=cF [8,9,10] [] Tryz.f20 20 []
def Bw:Nat→PC:=bX yF
def alk (b:Nat→PC):PC:=.block 0 [8,9,21,22,23,24] [] (.loop [8,9] [] (b 0))
def alm (b:Nat→PC):PC:=.block 2 [8,10,45,46,47,48,49,54] [] (.loop [8,10] [] (b 1))
def EA (b:Nat→PC):PT:=
 (.ite (ak r9 (.llen r0))
 (.chk (aB r0 r9)
 (.chk (aB r2 r9)
 (.ite (bt (pn r0 r9) (pn r2 r9))
 (.ret (ak (pn r0 r9) (pn r2 r9)))
 (.next ⟨[(9,(br r9 (pi 1)))],[]⟩))))
 (.exit 0 ⟨[(21,r9),(22,r0),(23,(.llen r0)),(24,(ak r9 (.llen r0)))],[]⟩))
def EB (b:Nat→PC):PT:=
 (.ite (.pick (ak di (.llen r1)) (ak di (.llen r3)) pF)
 (.chk (aB r1 di)
 (.chk (aB r3 di)
 (.ite (bt (pn r1 di) (pn r3 di))
 (.ret (ak (pn r1 di) (pn r3 di)))
 (.next ⟨[(10,(br di (pi 1)))],[]⟩))))
 (.exit 2 ⟨[(45,di),(46,r1),(47,(.llen r1)),(48,(ak di (.llen r1))),(49,(ak di (.llen r1))),(54,(.pick (ak di (.llen r1)) (ak di (.llen r3)) pF))],[]⟩))
def Sl (b:Nat→PC):PT:=
 (.ite (bt (.llen r0) (.llen r2))
 (.ret (ak (.llen r0) (.llen r2)))
 (.brk ⟨[(9,(pi 0)),(8,pF)],[]⟩
(alk b)
 (.brk ⟨[(10,(pi 0))],[]⟩
(alm b)
 (.ret pF))))
def agH (b:Nat→PC):PT×List (Shp×PT):=(Sl b,[(.lp 0 [8,9,21,22,23,24] [] [8,9] [],EA b),(.lp 2 [8,10,45,46,47,48,49,54] [] [8,10] [],EB b)])
theorem Jf:yF.map told=some (agH (bO yF)):=by kernel_rfl
theorem aqb:tree (ah yF)=Sl Bw:=cO Jf
theorem QF:round 0 [8,9,21,22,23,24] [] [8,9] [] (Bw 0)=EA Bw:=bH Jf 0 fun _=>rfl
theorem QG:round 2 [8,10,45,46,47,48,49,54] [] [8,10] [] (Bw 1)=EB Bw:=bH Jf 1 fun _=>rfl
def yw:Option PC:=cF [12,13,14,16,17,18] [] Tryz.f6 6 [6,10,15]
def Bt:Nat→PC:=bX yw
def ak6 (b:Nat→PC):PC:=.block 2 [17,18,43,44,45,46,47,48] [] (.loop [17,18] [] (b 0))
def ak7 (b:Nat→PC):PC:=.block 0 [16,37,38,39,40] [15] (.loop [16] [15] (b 1))
def JT (b:Nat→PC):PT:=
 (.ite (ak gT (.llen (pc oP 18)))
 (.chk (.nt (.an (.an (.nt iu) pT) (.nt (aB (pc oP 18) gT))))
 (.chk (.nt (.an (.an (.nt iu) pT) AH))
 (.chk (.nt (.an (.an Qc (.an (.nt iu) pT)) (.nt (aB (pc oP 18) gT))))
 (.chk (.nt (.an (.an Qc (.an (.nt iu) pT)) AH))
 (.next ⟨[(17,(.pick iu pT (.pick Qc (aq (pc (pn (pc oP 18) gT) 1) (pc (pn r5 bT) 1)) pF))),(18,(br gT (pi 1)))],[]⟩)))))
 (.exit 2 ⟨[(43,gT),(44,pN),(45,pN),(46,(pc oP 18)),(47,(.llen (pc oP 18))),(48,(ak gT (.llen (pc oP 18))))],[]⟩))
def JU (b:Nat→PC):PT:=
 (.ite (ak bT (.llen r5))
 (.blockS ⟨[(40,(ak bT (.llen r5))),(39,(.llen r5)),(38,r5),(37,bT)],[]⟩ 1 [17,18,43,44,45,46,47,48,82,83,84,91,92,103,104,111,112,119] [15]
 (.brk ⟨[(18,(pi 0)),(17,pF)],[]⟩
(ak6 b)
 (.chk (.nt (.an (.an (.nt iu) pT) AH))
 (.chk (.nt (.an (.an (.pick (.nt iu) (cY (pc (pn r5 bT) 1) (pi 0)) pF) pT) AH))
 (.chk (.nt (.an (.an P6 pT) AH))
 (.chk (.nt (.an (.an (.pick P6 (cY (pc (pn r5 bT) 0) (pi 0)) pF) pT) AH))
 (.iteS ⟨[],[]⟩ (.pick (.pick P6 (cY (pc (pn r5 bT) 0) (pi 0)) pF) (ak (pc (pn r5 bT) 0) (pi 5)) pF) [] [15]
 (.chk (aB r5 bT)
 (.call ⟨[],[]⟩ [] 137 16 [(aI 19 oP),(pc (pn r5 bT) 0),(pc (pn r5 bT) 1),(pc (pn r5 bT) 2)]
 (.next ⟨[],[(15,(.setc oP 0 (.r 137)))]⟩)))
 (.next ⟨[],[]⟩)
 (.next ⟨[],[]⟩)))))))
 (.next ⟨[(16,(br bT (pi 1)))],[]⟩))
 (.exit 0 ⟨[(37,bT),(38,r5),(39,(.llen r5)),(40,(ak bT (.llen r5)))],[]⟩))
def RT (b:Nat→PC):PT:=
 (.call ⟨[],[(10,(.mk [r4])),(6,(.mk [r0]))]⟩ [] 19 8 []
 (.call ⟨[(13,iX)],[]⟩ [] 22 9 [(aI 8 o6),tw]
 (.ite (.pick (.nt va) pT (cm (.llen r5) (pi 60)))
 (.ret dG)
 (.call ⟨[],[]⟩ [] 35 13 [(aI 8 o6),r1,r2,r3,tw]
 (.brk ⟨[(16,(pi 0)),(14,Ef)],[(15,(.setc u3 0 tw))]⟩
(ak7 b)
 (.call ⟨[],[]⟩ [] 142 21 [(aI 8 o6),(aI 19 oP)]
 (.ite (bt (.r 142) (pi 0))
 (.ret pF)
 (.call ⟨[(148,(aq cJ (pi 2))),(145,dG)],[]⟩ [(148,false),(145,true)] 154 13 [(aI 8 o6),r1,r2,r3,(aI 24 oP)]
 (.ret (.pick (.r 145) (.pick (.r 148) pT (aq (.r 154) cJ)) pF))))))))))
def agu (b:Nat→PC):PT×List (Shp×PT):=(RT b,[(.lp 2 [17,18,43,44,45,46,47,48] [] [17,18] [],JT b),(.lp 0 [16,37,38,39,40] [15] [16] [15],JU b)])
theorem Jc:yw.map told=some (agu (bO yw)):=by kernel_rfl
theorem apJ:tree (ah yw)=RT Bt:=cO Jc
theorem abd:round 2 [17,18,43,44,45,46,47,48] [] [17,18] [] (Bt 0)=JT Bt:=bH Jc 0 fun _=>rfl
theorem abe:round 0 [16,37,38,39,40] [15] [16] [15] (Bt 1)=JU Bt:=bH Jc 1 fun _=>rfl
def Gq:Option PC:=cF [10,11,12,13,14] [] Tryz.f7 7 [5,9]
def RU:PT:=
 (.call ⟨[],[(9,(.mk [r4])),(5,(.mk [r0]))]⟩ [] 15 8 []
 (.call ⟨[(11,fo)],[]⟩ [] 18 9 [(aI 8 o5),(aI 24 o9)]
 (.call ⟨[(20,(.nt gT))],[]⟩ [(20,false)] 26 13 [(aI 8 o5),r1,r2,r3,(aI 24 o9)]
 (.ite (.pick gU pT (bt oZ (pi 2)))
 (.ret bS)
 (.call ⟨[],[]⟩ [] 36 10 [(aI 8 o5),r1,r2,r3,(aI 24 o9)]
 (.ret (.pick bS (.tget qu 2) pF)))))))
theorem Zs:Gq.map told=some (RU,[]):=by kernel_rfl
theorem apK:tree (ah Gq)=RU:=bE Zs
def yW:Option PC:=cF [4,5] [] Tryz.f34 34 []
def LO:Nat→PC:=bX yW
def alM (b:Nat→PC):PC:=.block 0 [4,8,9] [] (.loop [4,8] [] (b 0))
def ET (b:Nat→PC):PT:=
 (.ite (ak r8 r7)
 (.blockS ⟨[],[]⟩ 1 [4,5,10,11,12,13,14,15,16] []
 (.chk (aB r0 r8)
 (.callc ⟨[(5,r8)],[]⟩ [] 16 r1 [(pn r0 r8)]
 (.ite bT
 (.ret r5)
 (.next ⟨[],[]⟩))))
 (.next ⟨[(8,u7)],[]⟩))
 (.exit 0 ⟨[(9,(ak r8 r7))],[]⟩))
def SU (b:Nat→PC):PT:=
 (.brk ⟨[(8,(pi 0)),(7,(.llen r0)),(4,(pi 0))],[]⟩
(alM b)
 (.ret (pi (-1))))
def agY (b:Nat→PC):PT×List (Shp×PT):=(SU b,[(.lp 0 [4,8,9] [] [4,8] [],ET b)])
theorem Pz:yW.map told=some (agY (bO yW)):=by kernel_rfl
theorem aqH:tree (ah yW)=SU LO:=cO Pz
theorem QZ:round 0 [4,8,9] [] [4,8] [] (LO 0)=ET LO:=bH Pz 0 fun _=>rfl
def Gi:Option PC:=cF [4] [] Tryz.f32 32 [3]
def RJ:PT:=
 (.ret (.pick (aq qs (.deref r1)) (aq u4 (.deref r2)) pF))
theorem Zl:Gi.map told=some (RJ,[]):=by kernel_rfl
theorem apx:tree (ah Gi)=RJ:=bE Zl
def Gj:Option PC:=cF [4] [] Tryz.f36 36 [3]
def RK:PT:=
 (.call ⟨[],[(3,(.mk [r0]))]⟩ [] 8 38 [u4,(.deref r1)]
 (.call ⟨[],[]⟩ [] 12 38 [(pc o3 0),(.deref r2)]
 (.call ⟨[],[]⟩ [] 14 37 [(.lst [r8,dj])]
 (.ret (cm cJ (pi 0))))))
theorem Zm:Gj.map told=some (RK,[]):=by kernel_rfl
theorem apy:tree (ah Gj)=RK:=bE Zm
def Gd:Option PC:=mF {ctx with fr:=[6],nh:=[]} Tryz.f83 ⟨[Y8,I,gH],.slice I,.dat⟩ [3,5,7,8,42,9]
def RG:PT:=
 (.chk (aB (pc (.mk [r2]) 15) (pc (.mk [r2]) 19))
 (.ite aaC
 (.ret pL)
 (.chk (.an (cY (pi 5) (pi 0)) (cV (pi 5) dx))
 (.chk (aq (pi 5) (pi 5))
 (.chk (aB (.rep (pi 5) (pi 0)) (pi 0))
 (.call ⟨[],[(9,(.setn (.rep (pi 5) (pi 0)) (pi 0) 0 r1)),(8,(.setc KM 0 (aI 15 (.mk [r2])))),(7,AD),(3,(.mk [r0]))]⟩ [] 50 106 [nO,(pc AD 7)]
 (.chk (aB o9 (pi 1))
 (.call ⟨[],[(9,(.setn o9 (pi 1) 0 m5))]⟩ [] 56 106 [(aI 8 o3),(pc o8 10)]
 (.chk (aB o9 (pi 2))
 (.call ⟨[],[(9,(.setn o9 (pi 2) 0 nP))]⟩ [] 62 106 [(aI 8 o3),(pc o8 9)]
 (.chk (aB o9 (pi 3))
 (.chk (aB (pc o3 3) (pc o7 2))
 (.call ⟨[],[(9,(.setn o9 (pi 3) 0 qx))]⟩ [] 73 106 [(aI 8 o3),(pc (pn (pc o3 3) (pc o7 2)) 1)]
 (.chk (aB o9 (pi 4))
 (.call ⟨[],[(9,(.setn o9 (pi 4) 0 Ek))]⟩ [] 76 105 [(.setn o9 (pi 4) 0 Ek),(pi (-1))]
 (.ite vg
 (.ret pL)
 (.ret o9)))))))))))))))))
theorem Zh:Gd.map told=some (RG,[]):=by kernel_rfl
theorem apt:tree (ah Gd)=RG:=bE Zh
end Rm
