/-
  Shared texts of this claim.
-/
import Derived.Test.YtmnnipoiigfapaaGreatDoorKAK
import Derived.KernelRfl
import Derived.Test.YtmnnipoiigfapaaGreatDoorKAL
import Derived.Test.YtmnnipoiigfapaaGreatDoorKAM
import Derived.Test.YtmnnipoiigfapaaGreatDoorKAN
import Derived.Test.YtmnnipoiigfapaaGreatDoorKAJ
import Derived.WalkKit
import Derived.WalkSpells
import Derived.Lib.SliceRun
import Derived.Lib.AppendZeros
import Derived.Laws.Strings
set_option linter.unusedVariables false
set_option maxRecDepth 100000
noncomputable section
namespace Rm
open Go Go.Proofs Cx
def xL:Option PC:=cF [2,3,4] [] Tryz.f48 48 [1]
def A5:Nat→PC:=bB xL
def akk (b:Nat→PC):PC:=.block 0 [2,3,5,6,7,8,9,10,13] [] (.loop [2,3] [] (b 0))
def akl (b:Nat→PC):PC:=.block 2 [2,4,44,45,46,47,48,49,52] [] (.loop [2,4] [] (b 1))
def wV (b:Nat→PC):PT:=
 (.ite (.pick (aj r3 la) (aj r3 (pi 50)) pF)
 (.chk (ax (pc o1 1) r3)
 (.chk (.nt (.an (.an (.nt (aX (.llen (pc (pn (pc o1 1) r3) 4)) (pi 70))) pT) (.nt (ax (pc o1 1) r3))))
 (.chk (.nt (.an (.an (.nt Z3) pT) (.nt (ax (pc o1 1) r3))))
 (.ite (.pick Z3 pT (aX (.llen (pc (pn (pc o1 1) r3) 3)) (pi 8)))
 (.ret pF)
 (.next ⟨[(3,uv)],[]⟩)))))
 (.exit 0 ⟨[(5,r3),(6,pN),(7,(pc o1 1)),(8,la),(9,(aj r3 la)),(10,(aj r3 la)),(13,(.pick (aj r3 la) (aj r3 (pi 50)) pF))],[]⟩))
def Ap (b:Nat→PC):PT:=
 (.ite (.pick (aj r4 nQ) (aj r4 (pi 50)) pF)
 (.chk (ax (pc o1 4) r4)
 (.chk (.nt (.an (.an (.nt (aX (.llen (pc wL 2)) (pi 40))) pT) (.nt (ax (pc o1 4) r4))))
 (.ite (.pick (aX (.llen (pc wL 2)) (pi 40)) pT (aX (.llen (pc wL 3)) (pi 40)))
 (.ret pF)
 (.next ⟨[(4,(be r4 (pi 1)))],[]⟩))))
 (.exit 2 ⟨[(44,r4),(45,pN),(46,(pc o1 4)),(47,nQ),(48,(aj r4 nQ)),(49,(aj r4 nQ)),(52,(.pick (aj r4 nQ) (aj r4 (pi 50)) pF))],[]⟩))
def Rw (b:Nat→PC):PT:=
 (.brk ⟨[(3,(pi 0)),(2,pF)],[(1,(.mk [r0]))]⟩
(akk b)
 (.brk ⟨[(4,(pi 0))],[]⟩
(akl b)
 (.ret (.pick (.pick (.pick (.pick (.pick (.pick (.pick (aj ur (pi 50)) (aj la (pi 50)) pF) (aj qE (pi 50)) pF) (aj mW (pi 210)) pF) (aj nQ (pi 50)) pF) (aj Ah (pi 110)) pF) (aj (.llen (pc o1 6)) (pi 110)) pF) (aj wO (pi 50)) pF))))
def afv (b:Nat→PC):PT×List (Shp×PT):=(Rw b,[(.lp 0 [2,3,5,6,7,8,9,10,13] [] [2,3] [],wV b),(.lp 2 [2,4,44,45,46,47,48,49,52] [] [2,4] [],Ap b)])
theorem If:xL.map told=some (afv (bq xL)):=by kernel_rfl
theorem apx:tree (ae xL)=Rw A5:=bO If
theorem DL:round 0 [2,3,5,6,7,8,9,10,13] [] [2,3] [] (A5 0)=wV A5:=bp If 0 fun _=>rfl
theorem I7:round 2 [2,4,44,45,46,47,48,49,52] [] [2,4] [] (A5 1)=Ap A5:=bp If 1 fun _=>rfl
def FV:Option PC:=cF [2] [] Tryz.f49 49 [1]
def RK:PT:=
 (.ret (.pick (.pick (.pick (bF (.llen sB) (pi 50)) (bF (.llen (pc (.mk [r0]) 16)) (pi 10)) pF) (bF (.llen (pc (.mk [r0]) 17)) (pi 110)) pF) (bF (.llen (pc (.mk [r0]) 18)) (pi 220)) pF))
theorem YJ:FV.map told=some (RK,[]):=by kernel_rfl
theorem apK:tree (ae FV)=RK:=bo YJ
def xV:Option PC:=cF [2,3] [] Tryz.f50 50 [1]
def KF:Nat→PC:=bB xV
def akB (b:Nat→PC):PC:=.block 0 [2,3,14,15,16,17,18] [] (.loop [2,3] [] (b 0))
def D0 (b:Nat→PC):PT:=
 (.ite (aj r3 mW)
 (.blockS ⟨[],[]⟩ 1 [2,21,22,23,24,25,26,27,28] []
 (.chk (ax (pc o1 3) r3)
 (.call ⟨[],[]⟩ [] 27 77 [(.sub (pn (pc o1 3) r3) 1 3)]
 (.ite (.nt fW)
 (.ret pF)
 (.next ⟨[],[]⟩))))
 (.next ⟨[(3,uv)],[]⟩))
 (.exit 0 ⟨[(14,r3),(15,pN),(16,(pc o1 3)),(17,mW),(18,(aj r3 mW))],[]⟩))
def RM (b:Nat→PC):PT:=
 (.ite (.pick (aX (.llen (pc (.mk [r0]) 3)) (pi 60)) pT (aX pA (pi 60)))
 (.ret pF)
 (.brk ⟨[(3,(pi 0)),(2,pF)],[(1,(.mk [r0]))]⟩
(akB b)
 (.ret pT)))
def afG (b:Nat→PC):PT×List (Shp×PT):=(RM b,[(.lp 0 [2,3,14,15,16,17,18] [] [2,3] [],D0 b)])
theorem Oh:xV.map told=some (afG (bq xV)):=by kernel_rfl
theorem apM:tree (ae xV)=RM KF:=bO Oh
theorem PR:round 0 [2,3,14,15,16,17,18] [] [2,3] [] (KF 0)=D0 KF:=bp Oh 0 fun _=>rfl
def FW:Option PC:=cF [2] [] Tryz.f77 77 [1]
def RL:PT:=
 (.call ⟨[],[]⟩ [] 4 96 [(.mk [mV,wM,sw]),(pi 100),(pi 20)]
 (.ret (dc r4 (pi 0))))
theorem YK:FW.map told=some (RL,[]):=by kernel_rfl
theorem apL:tree (ae FW)=RL:=bo YK
def vl:Option PC:=cF [6,1,7] [] Tryz.f96 96 [3]
def KE:Nat→PC:=bB vl
def akA (b:Nat→PC):PC:=.block 0 [1,7,12,13,14,15,16,17,20] [] (.loop [1,7] [] (b 0))
def DZ (b:Nat→PC):PT:=
 (.ite (.pick (aj r7 nP) (dc r1 (pi 0)) pF)
 (.blockS ⟨[],[]⟩ 1 [1,23,24,25,26,27,28,29,30,31] []
 (.chk (ax (pc o3 2) r7)
 (.call ⟨[],[]⟩ [] 31 96 [(pn (pc o3 2) r7),r1,(bW r2 (pi 1))]
 (.next ⟨[(1,uw)],[]⟩)))
 (.next ⟨[(7,(be r7 (pi 1)))],[]⟩))
 (.exit 0 ⟨[(12,r7),(13,pN),(14,(pc o3 2)),(15,nP),(16,(aj r7 nP)),(17,(aj r7 nP)),(20,(.pick (aj r7 nP) (dc r1 (pi 0)) pF))],[]⟩))
def JJ (b:Nat→PC):PT:=
 (.ite (aj r2 (pi 1))
 (.ret (pi (-1)))
 (.brk ⟨[(7,(pi 0)),(1,(bW r1 (pi 1)))],[(3,(.mk [r0]))]⟩
(akA b)
 (.ret r1)))
def afF (b:Nat→PC):PT×List (Shp×PT):=(JJ b,[(.lp 0 [1,7,12,13,14,15,16,17,20] [] [1,7] [],DZ b)])
theorem Og:vl.map told=some (afF (bq vl)):=by kernel_rfl
theorem abD:tree (ae vl)=JJ KE:=bO Og
theorem PQ:round 0 [1,7,12,13,14,15,16,17,20] [] [1,7] [] (KE 0)=DZ KE:=bp Og 0 fun _=>rfl
def FP:Option PC:=cF [2,3] [] Tryz.f22 22 [1]
def Rv:PT:=
 (.call ⟨[],[(1,(.mk [r0]))]⟩ [] 5 51 [kL]
 (.iteS ⟨[(3,r5)],[]⟩ (aq r5 (pi 0)) [3] []
 (.call ⟨[],[]⟩ [] 9 52 [(aw 8 o1)]
 (.next ⟨[(3,r9)],[]⟩))
 (.next ⟨[],[]⟩)
 (.iteS ⟨[],[]⟩ (aq r3 (pi 0)) [3] []
 (.call ⟨[],[]⟩ [] 13 53 [(aw 8 o1)]
 (.next ⟨[(3,cW)],[]⟩))
 (.next ⟨[],[]⟩)
 (.iteS ⟨[],[]⟩ (aq r3 (pi 0)) [3] []
 (.call ⟨[],[]⟩ [] 17 54 [(aw 8 o1)]
 (.next ⟨[(3,jb)],[]⟩))
 (.next ⟨[],[]⟩)
 (.iteS ⟨[],[]⟩ (aq r3 (pi 0)) [3] []
 (.call ⟨[],[]⟩ [] 21 55 [(aw 8 o1)]
 (.next ⟨[(3,qF)],[]⟩))
 (.next ⟨[],[]⟩)
 (.ret r3))))))
theorem YE:FP.map told=some (Rv,[]):=by kernel_rfl
theorem apw:tree (ae FP)=Rv:=bo YE
def xQ:Option PC:=cF [2,3,4,6,7] [] Tryz.f51 51 [1,5,44]
def A7:Nat→PC:=bB xQ
def akr (b:Nat→PC):PC:=.block 0 [2,3,12,13,14,15,16] [] (.loop [2,3] [] (b 0))
def aks (b:Nat→PC):PC:=.block 2 [2,5,6,30,31,32,33,34] [5] (.loop [2,5,6] [5] (b 1))
def DR (b:Nat→PC):PT:=
 (.ite (aj r3 ur)
 (.blockS ⟨[],[]⟩ 1 [2,4,19,20,21,22,23,24] []
 (.call ⟨[],[]⟩ [] 22 78 [(pc o1 0),r3]
 (.ite (aU Pf (pi 0))
 (.ret Pf)
 (.next ⟨[],[]⟩)))
 (.next ⟨[(3,uv)],[]⟩))
 (.exit 0 ⟨[(12,r3),(13,pN),(14,(pc o1 0)),(15,ur),(16,(aj r3 ur))],[]⟩))
def DS (b:Nat→PC):PT:=
 (.ite (aj r6 la)
 (.blockS ⟨[],[]⟩ 3 [2,5,7,38,39,40,41,42,43,44,45,46,47,48,49,50,52,53,54,55,56,57,58,59] [44,5]
 (.chk (ax (pc o1 1) r6)
 (.chk (bF (.llen O9) cq)
 (.call ⟨[(5,pN)],[(5,O9)]⟩ [] 48 78 [O9,r6]
 (.ite (aU me (pi 0))
 (.ret me)
 (.chk (ax (pc o1 1) r6)
 (.call ⟨[],[]⟩ [] 58 79 [(aw 8 o1),(pn (pc o1 1) r6)]
 (.ite (.nt Al)
 (.ret (pi 1))
 (.next ⟨[],[]⟩))))))))
 (.next ⟨[(6,(be r6 (pi 1)))],[]⟩))
 (.exit 2 ⟨[(30,r6),(31,pN),(32,(pc o1 1)),(33,la),(34,(aj r6 la))],[]⟩))
def RE (b:Nat→PC):PT:=
 (.ite (aX (.llen mV) (pi 8))
 (.ret (pi 6))
 (.brk ⟨[(3,(pi 0)),(2,(pi 0))],[(1,(.mk [r0]))]⟩
(akr b)
 (.ite (aX la (pi 40))
 (.ret (pi 6))
 (.brk ⟨[(6,(pi 0)),(5,pN)],[(5,pL)]⟩
(aks b)
 (.ret (pi 0))))))
def afA (b:Nat→PC):PT×List (Shp×PT):=(RE b,[(.lp 0 [2,3,12,13,14,15,16] [] [2,3] [],DR b),(.lp 2 [2,5,6,30,31,32,33,34] [5] [2,5,6] [5],DS b)])
theorem Ih:xQ.map told=some (afA (bq xQ)):=by kernel_rfl
theorem apE:tree (ae xQ)=RE A7:=bO Ih
theorem PG:round 0 [2,3,12,13,14,15,16] [] [2,3] [] (A7 0)=DR A7:=bp Ih 0 fun _=>rfl
theorem PH:round 2 [2,5,6,30,31,32,33,34] [5] [2,5,6] [5] (A7 1)=DS A7:=bp Ih 1 fun _=>rfl
def FU:Option PC:=cF [4] [] Tryz.f78 78 []
def RG:PT:=
 (.chk (ax r0 r1)
 (.call ⟨[],[]⟩ [] 9 97 [(pn r0 r1)]
 (.ite (.nt r9)
 (.ret (pi 2))
 (.chk (ax r0 r1)
 (.call ⟨[],[]⟩ [] 17 98 [r0,r1,(pn r0 r1)]
 (.ite jb
 (.ret (pi 5))
 (.ret (pi 0))))))))
theorem YI:FU.map told=some (RG,[]):=by kernel_rfl
theorem apG:tree (ae FU)=RG:=bo YI
def xM:Option PC:=cF [2,3,4] [] Tryz.f97 97 []
def KA:Nat→PC:=bB xM
def akm (b:Nat→PC):PC:=.block 0 [2,3,13,14,15,16] [] (.loop [2,3] [] (b 0))
def DM (b:Nat→PC):PT:=
 (.ite (aj r3 (.slen r0))
 (.blockS ⟨[],[]⟩ 1 [2,4,19,20,21,22,23,34,35,36,37,38,39,40,47] []
 (.chk (.sok r0 r3)
 (.chk (.nt (.an (.an (.nt O8) pT) (.nt (.sok r0 r3))))
 (.chk (.nt (.an (.an (bF (.con (.v (.int .u8 48))) (.sidx r0 r3)) (.an (.nt O8) pT)) (.nt (.sok r0 r3))))
 (.call ⟨[(4,(.pick O8 pT (.pick (bF (.con (.v (.int .u8 48))) (.sidx r0 r3)) (bF (.sidx r0 r3) (.con (.v (.int .u8 57)))) pF)))],[]⟩ [] 38 126 [(.sidx r0 r3)]
 (.ite (.pick (.nt gm) (.pick (aq r3 (pi 0)) pT (.nt r4)) pF)
 (.ret pF)
 (.next ⟨[],[]⟩))))))
 (.next ⟨[(3,uv)],[]⟩))
 (.exit 0 ⟨[(13,r3),(14,r0),(15,(.slen r0)),(16,(aj r3 (.slen r0)))],[]⟩))
def Ry (b:Nat→PC):PT:=
 (.ite (.pick (aj (.slen r0) (pi 1)) pT (aX (.slen r0) (pi 20)))
 (.ret pF)
 (.brk ⟨[(3,(pi 0)),(2,pF)],[]⟩
(akm b)
 (.ret pT)))
def afw (b:Nat→PC):PT×List (Shp×PT):=(Ry b,[(.lp 0 [2,3,13,14,15,16] [] [2,3] [],DM b)])
theorem Oc:xM.map told=some (afw (bq xM)):=by kernel_rfl
theorem apz:tree (ae xM)=Ry KA:=bO Oc
theorem Pz:round 0 [2,3,13,14,15,16] [] [2,3] [] (KA 0)=DM KA:=bp Oc 0 fun _=>rfl
def FQ:Option PC:=cF [2] [] Tryz.f126 126 []
def Rx:PT:=
 (.ret (.pick (.pick (bF (.con (.v (.int .u8 97))) r0) (bF r0 (.con (.v (.int .u8 122)))) pF) pT (.pick (bF (.con (.v (.int .u8 65))) r0) (bF r0 (.con (.v (.int .u8 90)))) pF)))
theorem YG:FQ.map told=some (Rx,[]):=by kernel_rfl
theorem apy:tree (ae FQ)=Rx:=bo YG
def xK:Option PC:=cF [6,7] [] Tryz.f98 98 []
def Kz:Nat→PC:=bB xK
def akj (b:Nat→PC):PC:=.block 0 [6,7,8,9,10,11,16] [] (.loop [6,7] [] (b 0))
def DK (b:Nat→PC):PT:=
 (.ite (.pick (aj r7 r1) (aj r7 (.llen r0)) pF)
 (.chk (ax r0 r7)
 (.ite (.cs .eql (pn r0 r7) r2)
 (.ret pT)
 (.next ⟨[(7,(be r7 (pi 1)))],[]⟩)))
 (.exit 0 ⟨[(8,r7),(9,r1),(10,(aj r7 r1)),(11,(aj r7 r1)),(16,(.pick (aj r7 r1) (aj r7 (.llen r0)) pF))],[]⟩))
def Ru (b:Nat→PC):PT:=
 (.brk ⟨[(7,(pi 0)),(6,pF)],[]⟩
(akj b)
 (.ret pF))
def afu (b:Nat→PC):PT×List (Shp×PT):=(Ru b,[(.lp 0 [6,7,8,9,10,11,16] [] [6,7] [],DK b)])
theorem Oa:xK.map told=some (afu (bq xK)):=by kernel_rfl
theorem apv:tree (ae xK)=Ru Kz:=bO Oa
theorem Py:round 0 [6,7,8,9,10,11,16] [] [6,7] [] (Kz 0)=DK Kz:=bp Oa 0 fun _=>rfl
def xN:Option PC:=cF [4,5] [] Tryz.f79 79 [2,3]
def KB:Nat→PC:=bB xN
def akn (b:Nat→PC):PC:=.block 0 [4,5,36,37,38,39,40] [] (.loop [4,5] [] (b 0))
def DN (b:Nat→PC):PT:=
 (.ite (aj r5 (.llen (pc o3 4)))
 (.blockS ⟨[],[]⟩ 1 [4,43,44,45,46,47,48,49,50,51,60] []
 (.chk (ax (pc o3 4) r5)
 (.chk (aU (pi 100) (pi 0))
 (.call ⟨[],[]⟩ [] 49 26 [(.ai .quo .i64 (pn (pc o3 4) r5) (pi 100)),(pi 1),(pi 12)]
 (.chk (.nt (.an (.an (.nt (.nt pD)) pT) (.nt (ax (pc o3 4) r5))))
 (.chk (.nt (.an (.an (.nt (.nt pD)) pT) (.nt (aU (pi 100) (pi 0)))))
 (.call ⟨[(51,(.nt pD))],[]⟩ [(51,false)] 58 26 [(.ai .rem .i64 (pn (pc o3 4) r5) (pi 100)),(pi 1),(pi 31)]
 (.ite (.pick lg pT (.nt Al))
 (.ret pF)
 (.next ⟨[],[]⟩))))))))
 (.next ⟨[(5,(be r5 (pi 1)))],[]⟩))
 (.exit 0 ⟨[(36,r5),(37,pN),(38,(pc o3 4)),(39,(.llen (pc o3 4))),(40,(aj r5 (.llen (pc o3 4))))],[]⟩))
def Rz (b:Nat→PC):PT:=
 (.call ⟨[(4,pF)],[(3,(.mk [r1])),(2,(.mk [r0]))]⟩ [] 12 26 [(pc (.mk [r1]) 1),(pi 0),(bW IE (pi 1))]
 (.call ⟨[(14,(.nt bP))],[]⟩ [(14,false)] 21 26 [(pc o3 2),(pi 0),(bW (.llen (pc o2 0)) (pi 1))]
 (.ite (.pick (.pick (.pick cv pT (.nt qF)) pT (aX (.llen (pc o3 4)) (pi 60))) pT (aX (.llen (pc o3 5)) (pi 200)))
 (.ret pF)
 (.brk ⟨[(5,(pi 0))],[]⟩
(akn b)
 (.call ⟨[],[]⟩ [] 63 99 [(pc o3 3),(pi 0),(pi 6)]
 (.call ⟨[(64,IV)],[]⟩ [(64,true)] 67 99 [(pc o3 4),(pi 0),(pi 2000)]
 (.call ⟨[(69,(.pick lh sI pF))],[]⟩ [(69,true)] 72 99 [(pc o3 5),(pi 0),(pi 100000)]
 (.ret (.pick wR An pF)))))))))
def afx (b:Nat→PC):PT×List (Shp×PT):=(Rz b,[(.lp 0 [4,5,36,37,38,39,40] [] [4,5] [],DN b)])
theorem Od:xN.map told=some (afx (bq xN)):=by kernel_rfl
theorem apA:tree (ae xN)=Rz KB:=bO Od
theorem PA:round 0 [4,5,36,37,38,39,40] [] [4,5] [] (KB 0)=DN KB:=bp Od 0 fun _=>rfl
def FT:Option PC:=cF [6] [] Tryz.f26 26 []
def RD:PT:=
 (.ret (.pick (bF r1 r0) (bF r0 r2) pF))
theorem YH:FT.map told=some (RD,[]):=by kernel_rfl
theorem apD:tree (ae FT)=RD:=bo YH
def xP:Option PC:=cF [6,7] [] Tryz.f99 99 []
def KC:Nat→PC:=bB xP
def akq (b:Nat→PC):PC:=.block 0 [6,7,8,9,10,11] [] (.loop [6,7] [] (b 0))
def DQ (b:Nat→PC):PT:=
 (.ite (aj r7 (.llen r0))
 (.blockS ⟨[],[]⟩ 1 [6,14,15,16,17,18,19,20,21,22,23,24,35] []
 (.chk (ax r0 r7)
 (.call ⟨[],[]⟩ [] 20 26 [(pn r0 r7),r1,r2]
 (.ite (.nt fV)
 (.ret pF)
 (.chk (.nt (.an (.an (aX r7 (pi 0)) pT) (.nt (ax r0 (bW r7 (pi 1))))))
 (.chk (.nt (.an (.an (aX r7 (pi 0)) pT) (.nt (ax r0 r7))))
 (.ite (.pick (aX r7 (pi 0)) (dc (pn r0 (bW r7 (pi 1))) (pn r0 r7)) pF)
 (.ret pF)
 (.next ⟨[],[]⟩)))))))
 (.next ⟨[(7,(be r7 (pi 1)))],[]⟩))
 (.exit 0 ⟨[(8,r7),(9,r0),(10,(.llen r0)),(11,(aj r7 (.llen r0)))],[]⟩))
def RB (b:Nat→PC):PT:=
 (.brk ⟨[(7,(pi 0)),(6,pF)],[]⟩
(akq b)
 (.ret pT))
def afz (b:Nat→PC):PT×List (Shp×PT):=(RB b,[(.lp 0 [6,7,8,9,10,11] [] [6,7] [],DQ b)])
theorem Oe:xP.map told=some (afz (bq xP)):=by kernel_rfl
theorem apC:tree (ae xP)=RB KC:=bO Oe
theorem PF:round 0 [6,7,8,9,10,11] [] [6,7] [] (KC 0)=DQ KC:=bp Oe 0 fun _=>rfl
def xR:Option PC:=cF [2,3,5,6] [] Tryz.f52 52 [1,4,44]
def A8:Nat→PC:=bB xR
def akt (b:Nat→PC):PC:=.block 0 [2,3,11,12,13,14,15] [] (.loop [2,3] [] (b 0))
def aku (b:Nat→PC):PC:=.block 2 [2,4,5,30,31,32,33,34] [4] (.loop [2,4,5] [4] (b 1))
def DT (b:Nat→PC):PT:=
 (.ite (aj r3 qE)
 (.blockS ⟨[],[]⟩ 1 [2,18,19,20,21,22,23,24,25] []
 (.chk (ax (pc o1 2) r3)
 (.call ⟨[],[]⟩ [] 24 26 [(pc (pn (pc o1 2) r3) 0),(pi 0),(pi 9)]
 (.ite (.nt nR)
 (.ret (pi 1))
 (.next ⟨[],[]⟩))))
 (.next ⟨[(3,uv)],[]⟩))
 (.exit 0 ⟨[(11,r3),(12,pN),(13,(pc o1 2)),(14,qE),(15,(aj r3 qE))],[]⟩))
def DU (b:Nat→PC):PT:=
 (.ite (aj r5 mW)
 (.blockS ⟨[],[]⟩ 3 [2,4,6,38,39,40,41,42,43,44,45,46,47,48,49,50,52,53,54,55,56,57,58,59,60,61,62,63,64,77] [44,4]
 (.chk (ax (pc o1 3) r5)
 (.chk (bF (.llen Pa) cq)
 (.call ⟨[(4,pN)],[(4,Pa)]⟩ [] 48 78 [Pa,r5]
 (.ite (aU me (pi 0))
 (.ret me)
 (.chk (ax (pc o1 3) r5)
 (.call ⟨[],[]⟩ [] 62 26 [(pc (pn (pc o1 3) r5) 1),(pi 0),(bW la (pi 1))]
 (.chk (.nt (.an (.an (.nt (.nt mg)) pT) (.nt (ax (pc o1 3) r5))))
 (.call ⟨[(64,(.nt mg))],[]⟩ [(64,false)] 75 26 [(pc (pn (pc o1 3) r5) 2),(pi 0),(bW qE (pi 1))]
 (.ite (.pick lh pT (.nt Pk))
 (.ret (pi 1))
 (.next ⟨[],[]⟩))))))))))
 (.next ⟨[(5,(be r5 (pi 1)))],[]⟩))
 (.exit 2 ⟨[(30,r5),(31,pN),(32,(pc o1 3)),(33,mW),(34,(aj r5 mW))],[]⟩))
def RF (b:Nat→PC):PT:=
 (.ite (aX pA (pi 20))
 (.ret (pi 6))
 (.brk ⟨[(3,(pi 0)),(2,(pi 0))],[(1,(.mk [r0]))]⟩
(akt b)
 (.ite (aX mW (pi 200))
 (.ret (pi 6))
 (.brk ⟨[(5,(pi 0)),(4,pN)],[(4,pL)]⟩
(aku b)
 (.ret (pi 0))))))
def afB (b:Nat→PC):PT×List (Shp×PT):=(RF b,[(.lp 0 [2,3,11,12,13,14,15] [] [2,3] [],DT b),(.lp 2 [2,4,5,30,31,32,33,34] [4] [2,4,5] [4],DU b)])
theorem Ii:xR.map told=some (afB (bq xR)):=by kernel_rfl
theorem apF:tree (ae xR)=RF A8:=bO Ii
theorem PJ:round 0 [2,3,11,12,13,14,15] [] [2,3] [] (A8 0)=DT A8:=bp Ii 0 fun _=>rfl
theorem PK:round 2 [2,4,5,30,31,32,33,34] [4] [2,4,5] [4] (A8 1)=DU A8:=bp Ii 1 fun _=>rfl
def xS:Option PC:=cF [2,4,5] [] Tryz.f53 53 [1,3,24]
def KD:Nat→PC:=bB xS
def akv (b:Nat→PC):PC:=.block 0 [2,3,4,10,11,12,13,14] [3] (.loop [2,3,4] [3] (b 0))
def DV (b:Nat→PC):PT:=
 (.ite (aj r4 nQ)
 (.blockS ⟨[],[]⟩ 1 [2,3,5,18,19,20,21,22,23,24,25,26,27,28,29,30,32,33,34,35,36,37,38] [24,3]
 (.chk (ax (pc o1 4) r4)
 (.chk (bF (.llen (.app o3 (.lst [(pc wL 0)]))) cq)
 (.call ⟨[(3,pN)],[(3,(.app o3 (.lst [(pc wL 0)])))]⟩ [] 28 78 [(.app o3 (.lst [(pc wL 0)])),r4]
 (.ite (aU sE (pi 0))
 (.ret sE)
 (.chk (ax (pc o1 4) r4)
 (.call ⟨[],[]⟩ [] 37 80 [wL]
 (.ite (.nt nT)
 (.ret (pi 1))
 (.next ⟨[],[]⟩))))))))
 (.next ⟨[(4,(be r4 (pi 1)))],[]⟩))
 (.exit 0 ⟨[(10,r4),(11,pN),(12,(pc o1 4)),(13,nQ),(14,(aj r4 nQ))],[]⟩))
def RH (b:Nat→PC):PT:=
 (.ite (aX IE (pi 20))
 (.ret (pi 6))
 (.brk ⟨[(4,(pi 0)),(3,pN),(2,(pi 0))],[(3,pL),(1,(.mk [r0]))]⟩
(akv b)
 (.ret (pi 0))))
def afC (b:Nat→PC):PT×List (Shp×PT):=(RH b,[(.lp 0 [2,3,4,10,11,12,13,14] [3] [2,3,4] [3],DV b)])
theorem Of:xS.map told=some (afC (bq xS)):=by kernel_rfl
theorem apH:tree (ae xS)=RH KD:=bO Of
theorem PL:round 0 [2,3,4,10,11,12,13,14] [3] [2,3,4] [3] (KD 0)=DV KD:=bp Of 0 fun _=>rfl
def xO:Option PC:=cF [2,3,4] [] Tryz.f80 80 [1]
def A6:Nat→PC:=bB xO
def ako (b:Nat→PC):PC:=.block 0 [2,3,5,6,7,8,9] [] (.loop [2,3] [] (b 0))
def akp (b:Nat→PC):PC:=.block 2 [2,4,48,49,50,51,52] [] (.loop [2,4] [] (b 1))
def DO (b:Nat→PC):PT:=
 (.ite (aj r3 qE)
 (.blockS ⟨[],[]⟩ 1 [2,12,13,14,15,16,17,18,19,20,29,30,31,32,47] []
 (.chk (ax (pc o1 2) r3)
 (.call ⟨[],[]⟩ [] 18 26 [(pc (pn (pc o1 2) r3) 0),(pi 0),(pi 21)]
 (.chk (.nt (.an (.an (.nt (.nt lf)) pT) (.nt (ax (pc o1 2) r3))))
 (.call ⟨[(20,(.nt lf))],[]⟩ [(20,false)] 27 26 [(pc (pn (pc o1 2) r3) 1),(pi 0),(pi 4)]
 (.ite (.pick fV pT (.nt fW))
 (.ret pF)
 (.chk (.nt (.an (.an (aX r3 (pi 0)) pT) (.nt (ax (pc o1 2) (bW r3 (pi 1))))))
 (.chk (.nt (.an (.an (aX r3 (pi 0)) pT) (.nt (ax (pc o1 2) r3))))
 (.ite (.pick (aX r3 (pi 0)) (dc (pc (pn (pc o1 2) (bW r3 (pi 1))) 0) (pc (pn (pc o1 2) r3) 0)) pF)
 (.ret pF)
 (.next ⟨[],[]⟩)))))))))
 (.next ⟨[(3,uv)],[]⟩))
 (.exit 0 ⟨[(5,r3),(6,pN),(7,(pc o1 2)),(8,qE),(9,(aj r3 qE))],[]⟩))
def DP (b:Nat→PC):PT:=
 (.ite (aj r4 mW)
 (.blockS ⟨[],[]⟩ 3 [2,55,56,57,58,59,60,61,62,63,64,65,80] []
 (.chk (ax (pc o1 3) r4)
 (.call ⟨[],[]⟩ [] 61 26 [(pc (pn (pc o1 3) r4) 0),(pi 0),(pi 21)]
 (.ite (.nt nU)
 (.ret pF)
 (.chk (.nt (.an (.an (aX r4 (pi 0)) pT) (.nt (ax (pc o1 3) (bW r4 (pi 1))))))
 (.chk (.nt (.an (.an (aX r4 (pi 0)) pT) (.nt (ax (pc o1 3) r4))))
 (.ite (.pick (aX r4 (pi 0)) (dc (pc (pn (pc o1 3) (bW r4 (pi 1))) 0) (pc (pn (pc o1 3) r4) 0)) pF)
 (.ret pF)
 (.next ⟨[],[]⟩)))))))
 (.next ⟨[(4,(be r4 (pi 1)))],[]⟩))
 (.exit 2 ⟨[(48,r4),(49,pN),(50,(pc o1 3)),(51,mW),(52,(aj r4 mW))],[]⟩))
def RA (b:Nat→PC):PT:=
 (.brk ⟨[(3,(pi 0)),(2,pF)],[(1,(.mk [r0]))]⟩
(ako b)
 (.brk ⟨[(4,(pi 0))],[]⟩
(akp b)
 (.ret pT)))
def afy (b:Nat→PC):PT×List (Shp×PT):=(RA b,[(.lp 0 [2,3,5,6,7,8,9] [] [2,3] [],DO b),(.lp 2 [2,4,48,49,50,51,52] [] [2,4] [],DP b)])
theorem Ig:xO.map told=some (afy (bq xO)):=by kernel_rfl
theorem apB:tree (ae xO)=RA A6:=bO Ig
theorem PB:round 0 [2,3,5,6,7,8,9] [] [2,3] [] (A6 0)=DO A6:=bp Ig 0 fun _=>rfl
theorem PD:round 2 [2,4,48,49,50,51,52] [] [2,4] [] (A6 1)=DP A6:=bp Ig 1 fun _=>rfl
def xU:Option PC:=cF [2,3,5] [] Tryz.f54 54 [1,4]
def Ba:Nat→PC:=bB xU
def aky (b:Nat→PC):PC:=.block 2 [2,5,46,47,48] [] (.loop [2,5] [] (b 0))
def akz (b:Nat→PC):PC:=.block 0 [2,3,10,11,12,13,14] [] (.loop [2,3] [] (b 1))
def Aq (b:Nat→PC):PT:=
 (.ite (aj r5 r3)
 (.chk (ax (pc o1 5) r5)
 (.chk (.nt (.an (.an (aq (pc (pn (pc o1 5) r5) 0) (pc o4 0)) pT) (.nt (ax (pc o1 5) r5))))
 (.ite (.pick (aq (pc (pn (pc o1 5) r5) 0) (pc o4 0)) (aq (pc (pn (pc o1 5) r5) 1) (pc o4 1)) pF)
 (.ret (pi 5))
 (.next ⟨[(5,(be r5 (pi 1)))],[]⟩))))
 (.exit 2 ⟨[(46,r5),(47,r3),(48,(aj r5 r3))],[]⟩))
def DY (b:Nat→PC):PT:=
 (.ite (aj r3 Ah)
 (.blockS ⟨[(14,(aj r3 Ah)),(13,Ah),(12,(pc o1 5)),(11,pN),(10,r3)],[]⟩ 1 [2,4,5,17,18,19,20,21,22,23,24,25,26,27,28,29,30,39,40,45,46,47,48] [4]
 (.chk (ax (pc o1 5) r3)
 (.call ⟨[],[(4,(.setc z3 0 (pn (pc o1 5) r3)))]⟩ [] 28 26 [(pc (.setc z3 0 (pn (pc o1 5) r3)) 0),(pi 0),(bW la (pi 1))]
 (.call ⟨[(30,(.nt sE))],[]⟩ [(30,false)] 37 26 [(pc o4 1),(pi 0),(bW la (pi 1))]
 (.call ⟨[(40,(.pick pB pT (.nt nT)))],[]⟩ [(40,false)] 43 26 [(pc o4 2),(pi 1),(pi 20000)]
 (.ite (.pick qG pT (.nt sG))
 (.ret (pi 1))
 (.brk ⟨[(5,(pi 0))],[]⟩
(aky b)
 (.next ⟨[],[]⟩)))))))
 (.next ⟨[(3,uv)],[]⟩))
 (.exit 0 ⟨[(10,r3),(11,pN),(12,(pc o1 5)),(13,Ah),(14,(aj r3 Ah))],[]⟩))
def RJ (b:Nat→PC):PT:=
 (.ite (aX (.llen Ag) (pi 100))
 (.ret (pi 6))
 (.brk ⟨[(3,(pi 0)),(2,(pi 0))],[(1,(.mk [r0]))]⟩
(akz b)
 (.ret (pi 0))))
def afE (b:Nat→PC):PT×List (Shp×PT):=(RJ b,[(.lp 2 [2,5,46,47,48] [] [2,5] [],Aq b),(.lp 0 [2,3,10,11,12,13,14] [] [2,3] [],DY b)])
theorem Ik:xU.map told=some (afE (bq xU)):=by kernel_rfl
theorem apJ:tree (ae xU)=RJ Ba:=bO Ik
theorem I8:round 2 [2,5,46,47,48] [] [2,5] [] (Ba 0)=Aq Ba:=bp Ik 0 fun _=>rfl
theorem PO:round 0 [2,3,10,11,12,13,14] [] [2,3] [] (Ba 1)=DY Ba:=bp Ik 1 fun _=>rfl
def xT:Option PC:=cF [2,3,5] [] Tryz.f55 55 [1,4,6]
def A9:Nat→PC:=bB xT
def akw (b:Nat→PC):PC:=.block 0 [2,3,11,12,13,14,15] [] (.loop [2,3] [] (b 0))
def akx (b:Nat→PC):PC:=.block 2 [2,5,68,69,70,71,72] [] (.loop [2,5] [] (b 1))
def DW (b:Nat→PC):PT:=
 (.ite (aj r3 (.llen (pc o1 6)))
 (.blockS ⟨[],[]⟩ 1 [2,4,18,19,20,21,22,23,24,25,26,27,28,29,30,31,40,41,47,48,49,50,51,52,57,58,63] [4]
 (.chk (ax (pc o1 6) r3)
 (.call ⟨[],[(4,(.setc z5 0 (pn (pc o1 6) r3)))]⟩ [] 29 26 [(pc (.setc z5 0 (pn (pc o1 6) r3)) 0),(pi 0),(bW ur (pi 1))]
 (.call ⟨[(31,(.nt nS))],[]⟩ [(31,false)] 38 26 [(pc o4 1),(pi 0),(bW ur (pi 1))]
 (.ite (.pick (.pick uw pT (.nt gm)) pT (aq (pc o4 0) (pc o4 1)))
 (.ret (pi 1))
 (.call ⟨[],[]⟩ [] 50 26 [(pc o4 2),(pi 1),(pi 1073741824)]
 (.call ⟨[(52,(.nt mf))],[]⟩ [(52,false)] 55 26 [(pc o4 3),(pi 1),(pi 1073741824)]
 (.call ⟨[(58,(.pick IU pT (.nt wQ)))],[]⟩ [(58,false)] 61 26 [(pc o4 4),(pi 0),(pi 100000)]
 (.ite (.pick Al pT (.nt nU))
 (.ret (pi 1))
 (.next ⟨[],[]⟩)))))))))
 (.next ⟨[(3,uv)],[]⟩))
 (.exit 0 ⟨[(11,r3),(12,pN),(13,(pc o1 6)),(14,(.llen (pc o1 6))),(15,(aj r3 (.llen (pc o1 6))))],[]⟩))
def DX (b:Nat→PC):PT:=
 (.ite (aj r5 wO)
 (.blockS ⟨[],[]⟩ 3 [2,6,75,76,77,78,79,80,81,82,83,84,85,86,87,88,95,96,100] [6]
 (.chk (ax (pc o1 7) r5)
 (.call ⟨[],[(6,(.setc z3 0 (pn (pc o1 7) r5)))]⟩ [] 86 26 [(pc (.setc z3 0 (pn (pc o1 7) r5)) 0),(pi 0),(bW nQ (pi 1))]
 (.call ⟨[(88,(.nt r86))],[]⟩ [(88,false)] 93 26 [(pc o6 1),(pi 0),(pc o6 2)]
 (.ite (.pick (.pick IY pT (.nt IZ)) pT (aX (pc o6 2) (pi 100000)))
 (.ret (pi 1))
 (.next ⟨[],[]⟩)))))
 (.next ⟨[(5,(be r5 (pi 1)))],[]⟩))
 (.exit 2 ⟨[(68,r5),(69,pN),(70,(pc o1 7)),(71,wO),(72,(aj r5 wO))],[]⟩))
def RI (b:Nat→PC):PT:=
 (.ite (aX (.llen (pc (.mk [r0]) 6)) (pi 100))
 (.ret (pi 6))
 (.brk ⟨[(3,(pi 0)),(2,(pi 0))],[(1,(.mk [r0]))]⟩
(akw b)
 (.ite (aX wO (pi 20))
 (.ret (pi 6))
 (.brk ⟨[(5,(pi 0))],[]⟩
(akx b)
 (.ret (pi 0))))))
def afD (b:Nat→PC):PT×List (Shp×PT):=(RI b,[(.lp 0 [2,3,11,12,13,14,15] [] [2,3] [],DW b),(.lp 2 [2,5,68,69,70,71,72] [] [2,5] [],DX b)])
theorem Ij:xT.map told=some (afD (bq xT)):=by kernel_rfl
theorem apI:tree (ae xT)=RI A9:=bO Ij
theorem PM:round 0 [2,3,11,12,13,14,15] [] [2,3] [] (A9 0)=DW A9:=bp Ij 0 fun _=>rfl
theorem PN:round 2 [2,5,68,69,70,71,72] [] [2,5] [] (A9 1)=DX A9:=bp Ij 1 fun _=>rfl
def xC:Option PC:=cF [14,15,17,19,1000018] [] Tryz.f5 5 [7,9,10,16,24592,64,18,24594]
def Kq:Nat→PC:=bB xC
def aj9 (b:Nat→PC):PC:=.block 0 [17,42,43,44,45,46] [16,24592] (.loop [17] [16,24592] (b 0))
def I1 (b:Nat→PC):PT:=
 (.ite (aj jb (.llen (pc bT 5)))
 (.chk (ax (pc bT 5) jb)
 (.ite (bF (pc (pn (pc bT 5) jb) 1) r4)
 (.chk (bF (.llen (.app (.o 24592) (.lst [(pn (pc bT 5) jb)]))) cq)
 (.next ⟨[(17,(be jb (pi 1)))],[(16,(.setc zB 5 pN)),(24592,(.app (.o 24592) (.lst [(pn (pc bT 5) jb)])))]⟩))
 (.next ⟨[(17,(be jb (pi 1)))],[]⟩)))
 (.exit 0 ⟨[(42,jb),(43,pN),(44,(pc bT 5)),(45,(.llen (pc bT 5))),(46,(aj jb (.llen (pc bT 5))))],[]⟩))
def Q4 (b:Nat→PC):PT:=
 (.call ⟨[],[(10,(.mk [r3])),(9,(.mk [r2])),(7,(.mk [r0]))]⟩ [] 20 7 []
 (.call ⟨[(15,fV)],[]⟩ [] 24 8 [(aw 8 o7),(aw 19 o9),(aw 6 bT)]
 (.call ⟨[(30,(.pick (.nt nR) pT (aX r4 (pi 100000))))],[]⟩ [(30,false)] 36 16 [(aw 8 o7),r1,(aw 19 o9),(aw 6 bT),r4]
 (.ite (.pick pB pT (aU pC (pi 2)))
 (.ret jF)
 (.brk ⟨[(17,(pi 0))],[(24592,pL),(16,(.setc (.setc DA 0 (aw 6 bT)) 5 pL))]⟩
(aj9 b)
 (.call ⟨[],[]⟩ [] 72 16 [(aw 8 o7),r1,(aw 19 o9),IG,r4]
 (.call ⟨[(74,(aU An (pi 2)))],[]⟩ [(74,false)] 82 16 [(aw 8 o7),r1,(aw 19 o9),IG,(be (be r4 (pi 100000)) (pi 40000))]
 (.ite (.pick IW pT (aU j9 (pi 1)))
 (.ret pF)
 (.chk (bF (.llen (.app (.lst []) (.o 24592))) cq)
 (.chk (bF (.llen O4) cq)
 (.call ⟨[],[(24594,O4),(18,Ac)]⟩ [] 99 17 [(aw 8 o7),(aw 19 o9),(.mk [(pc Ac 0),(pc Ac 1),(pc Ac 2),(pc Ac 3),(pc Ac 4),O4])]
 (.ite (aU Pn (pi 0))
 (.ret jF)
 (.call ⟨[],[]⟩ [] 110 16 [(aw 8 o7),r1,(aw 19 o9),aaa,(be r4 (.conv .i64 r6))]
 (.call ⟨[],[]⟩ [] 119 16 [(aw 8 o7),r1,(aw 19 o9),IG,(be r4 (.conv .i64 r6))]
 (.chk (ax (.o 24594) (bW (.llen (.o 24594)) (pi 1)))
 (.call ⟨[(133,(.pick jF (aq am9 ana) pF))],[(24594,(.setn (.o 24594) (bW (.llen (.o 24594)) (pi 1)) 2 pT))]⟩ [(133,true)] 139 16 [(aw 8 o7),r1,(aw 19 o9),(.mk [(pc qy 0),(pc qy 1),(pc qy 2),(pc qy 3),(pc qy 4),(.setn (.o 24594) (bW (.llen (.o 24594)) (pi 1)) 2 pT)]),r4]
 (.call ⟨[(142,(.pick (.r 133) (aq (.r 139) (pi 0)) pF))],[]⟩ [(142,true)] 151 16 [(aw 8 o7),r1,(aw 19 o9),aaa,(be r4 (.conv .i64 r6))]
 (.ret (.pick (.r 142) (aq (.r 151) (pi 0)) pF)))))))))))))))))))
def afk (b:Nat→PC):PT×List (Shp×PT):=(Q4 b,[(.lp 0 [17,42,43,44,45,46] [16,24592] [17] [16,24592],I1 b)])
theorem N2:xC.map told=some (afk (bq xC)):=by kernel_rfl
theorem ao2:tree (ae xC)=Q4 Kq:=bO N2
theorem aap:round 0 [17,42,43,44,45,46] [16,24592] [17] [16,24592] (Kq 0)=I1 Kq:=bp N2 0 fun _=>rfl
def Fo:Option PC:=lL {ctx with fr:=[6],nh:=[]} Tryz.f102 ⟨[Y8,I,pU],.slice I,.dat⟩ [3,5,7,8,42,9]
def QT:PT:=
 (.chk (ax (pc (.mk [r2]) 15) (pc (.mk [r2]) 19))
 (.ite ZX
 (.ret pL)
 (.chk (.an (dc (pi 5) (pi 0)) (bF (pi 5) cq))
 (.chk (aq (pi 5) (pi 5))
 (.chk (ax (.rep (pi 5) (pi 0)) (pi 0))
 (.call ⟨[],[(9,(.setn (.rep (pi 5) (pi 0)) (pi 0) 0 r1)),(8,(.setc EP 0 (aw 15 (.mk [r2])))),(7,Aa),(3,(.mk [r0]))]⟩ [] 50 128 [kL,(pc Aa 7)]
 (.chk (ax o9 (pi 1))
 (.call ⟨[],[(9,(.setn o9 (pi 1) 0 mf))]⟩ [] 56 128 [(aw 8 o3),(pc o8 10)]
 (.chk (ax o9 (pi 2))
 (.call ⟨[],[(9,(.setn o9 (pi 2) 0 qK))]⟩ [] 62 128 [(aw 8 o3),(pc o8 9)]
 (.chk (ax o9 (pi 3))
 (.chk (ax (pc o3 3) (pc o7 2))
 (.call ⟨[],[(9,(.setn o9 (pi 3) 0 mg))]⟩ [] 73 128 [(aw 8 o3),(pc (pn (pc o3 3) (pc o7 2)) 1)]
 (.chk (ax o9 (pi 4))
 (.call ⟨[],[(9,(.setn o9 (pi 4) 0 DD))]⟩ [] 76 23 [(.setn o9 (pi 4) 0 DD),(pi (-1))]
 (.ite uy
 (.ret pL)
 (.ret o9)))))))))))))))))
theorem Yd:Fo.map told=some (QT,[]):=by kernel_rfl
theorem aoR:tree (ae Fo)=QT:=bo Yd
def Fp:Option PC:=lL {ctx with fr:=[6],nh:=[]} Tryz.f102 ⟨[Y8,I,pU],.nils .bool,.dat⟩ [3,5,7,8,42,9]
def JH:PT:=
 (.chk (ax (pc (.mk [r2]) 15) (pc (.mk [r2]) 19))
 (.ite ZX
 (.ret pL)
 (.chk (.an (dc (pi 5) (pi 0)) (bF (pi 5) cq))
 (.chk (aq (pi 5) (pi 5))
 (.chk (ax (.rep (pi 5) (pi 0)) (pi 0))
 (.call ⟨[],[(9,(.setn (.rep (pi 5) (pi 0)) (pi 0) 0 r1)),(8,(.setc EP 0 (aw 15 (.mk [r2])))),(7,Aa),(3,(.mk [r0]))]⟩ [] 50 128 [kL,(pc Aa 7)]
 (.chk (ax o9 (pi 1))
 (.call ⟨[],[(9,(.setn o9 (pi 1) 0 mf))]⟩ [] 56 128 [(aw 8 o3),(pc o8 10)]
 (.chk (ax o9 (pi 2))
 (.call ⟨[],[(9,(.setn o9 (pi 2) 0 qK))]⟩ [] 62 128 [(aw 8 o3),(pc o8 9)]
 (.chk (ax o9 (pi 3))
 (.chk (ax (pc o3 3) (pc o7 2))
 (.call ⟨[],[(9,(.setn o9 (pi 3) 0 mg))]⟩ [] 73 128 [(aw 8 o3),(pc (pn (pc o3 3) (pc o7 2)) 1)]
 (.chk (ax o9 (pi 4))
 (.call ⟨[],[]⟩ [] 76 23 [(.setn o9 (pi 4) 0 DD),(pi (-1))]
 (.ite uy
 (.ret pL)
 (.chk pF
 (.next ⟨[],[]⟩))))))))))))))))))
theorem Ye:Fp.map told=some (JH,[]):=by kernel_rfl
theorem aoS:tree (ae Fp)=JH:=bo Ye
end Rm
namespace Rm
open Go Go.Proofs Cx
def OM:List Nat:=[4,7,20,16,17,36,66,85,106,107,135,151,152,165,108,109,110,111,136,112,113,114,115,116,86,87,88,67,68,89,117,118,23,56,69,90,70,92,119,91,37,38,39,40,41,42,43,71,44,45,35,65,83,100,13,32,127,141,140,156,128,142,143,101,103,129,145,144,157,130,84,104,132,131,133,146,147,158,162,160,159,105,134,148,161,149,163,171,173,150,34,12,29,30,33,31,9,14,8,21,48,49,50,77,96,22,51,78,97,126,98,79,26,99,52,53,80,54,55,5]
def zX:List (Nat×PC):=[(4,(ae Fw)),(7,(ae Fy)),(20,(ae Bn)),(16,(ae xF)),(17,(ae xE)),(36,(ae vk)),(66,(ae Bo)),(85,(ae xX)),(106,(ae yb)),(107,(ae x9)),(135,(ae F3)),(151,(ae ya)),(152,(ae Gb)),(165,(ae yq)),(108,(ae FX)),(109,(ae FY)),(110,(ae xZ)),(111,(ae F2)),(136,(ae ye)),(112,(ae FZ)),(113,(ae F0)),(114,(ae yc)),(115,(ae yf)),(116,(ae yd)),(86,(ae Gs)),(87,(ae Gt)),(88,(ae xY)),(67,(ae xJ)),(68,(ae FN)),(89,(ae FM)),(117,(ae FL)),(118,(ae FO)),(23,(ae Ga)),(56,(ae yp)),(69,(ae xH)),(90,(ae FK)),(70,(ae xI)),(92,(ae Fs)),(119,(ae Ft)),(91,(ae xz)),(37,(ae Fz)),(38,(ae FF)),(39,(ae FA)),(40,(ae FB)),(41,(ae FC)),(42,(ae FD)),(43,(ae F8)),(71,(ae ym)),(44,(ae FE)),(45,(ae xG)),(35,(ae Fj)),(65,(ae Fi)),(83,(ae Fl)),(100,(ae Fm)),(13,(ae yg)),(32,(ae F6)),(127,(ae yi)),(141,(ae F4)),(140,(ae F7)),(156,(ae yk)),(128,(ae F1)),(142,(ae F5)),(143,(ae yh)),(101,(ae FH)),(103,(ae xA)),(129,(ae Fu)),(145,(ae Fv)),(144,(ae F9)),(157,(ae yo)),(130,(ae xB)),(84,(ae FG)),(104,(ae FI)),(132,(ae FJ)),(131,(ae yn)),(133,(ae Gc)),(146,(ae vm)),(147,(ae yr)),(158,(ae Gj)),(162,(ae Gi)),(160,(ae Ge)),(159,(ae Gm)),(105,(ae Gd)),(134,(ae yt)),(148,(ae Gk)),(161,(ae Gn)),(149,(ae Gg)),(163,(ae Gf)),(171,(ae Gl)),(173,(ae Fq)),(150,(ae yj)),(34,(ae Fk)),(12,(ae yu)),(29,(ae yw)),(30,(ae Gq)),(33,(ae yx)),(31,(ae Gr)),(9,(ae xD)),(14,(ae Gp)),(8,(ae Fx)),(21,(ae xW)),(48,(ae xL)),(49,(ae FV)),(50,(ae xV)),(77,(ae FW)),(96,(ae vl)),(22,(ae FP)),(51,(ae xQ)),(78,(ae FU)),(97,(ae xM)),(126,(ae FQ)),(98,(ae xK)),(79,(ae xN)),(26,(ae FT)),(99,(ae xP)),(52,(ae xR)),(53,(ae xS)),(80,(ae xO)),(54,(ae xU)),(55,(ae xT)),(5,(ae xC))]
def tab:Nat→Option PC:=bz zX
theorem ZF:zX.map (·.1)=OM:=by kernel_rfl
theorem amH:(zX.map (·.1)).Nodup:=by rw[ZF];exact l6 (by kernel_rfl)
theorem lA (k:Nat){f:Nat}{x:PC}(h:zX[k]?=some (f,x)):tab f=some x:=Xr amH h
theorem acL:tab 20=some (ae Bn):=lA 2 (by kernel_rfl)
theorem acM:tab 36=some (ae vk):=lA 5 (by kernel_rfl)
theorem acN:tab 66=some (ae Bo):=lA 6 (by kernel_rfl)
theorem TZ:tab 146=some (ae vm):=lA 75 (by kernel_rfl)
theorem TY:tab 96=some (ae vl):=lA 104 (by kernel_rfl)
theorem caps:∀f cs,bz K5 f=some cs→(lY cs.args cs.res=none→bz pI f=some ⟨cs.args++cs.caps,cs.res,.dat⟩)∧∀ys,lY cs.args cs.res=some ys→eZ OM f=false∧EJ Tryz.prog f=true:=Ue (l:=K5) (sig:=pI) (P:=Tryz.prog) (pcs:=OM) (by kernel_rfl)
theorem clos:dj ctx:=⟨(fun f cs h=>(caps f cs h).1),fun f s h=>abz (l:=pI) (P:=Tryz.prog) (by kernel_rfl) f s h⟩
theorem its:∀f cs ys,ctx.cap f=some cs→lY cs.args cs.res=some ys→tab f=none∧∃fn,ctx.P.funcs[f]?=some fn∧fn.body.isSome=true∧(fn.name== "runtime.NumGoroutine")=false:=fun f cs ys h hi=>⟨Xi (l:=zX) (by rw[ZF];exact((caps f cs h).2 ys hi).1),aoI ((caps f cs h).2 ys hi).2⟩
theorem aox:∀f pc,tab f=some pc→∃fn s ids fr nh,ctx.P.funcs[f]?=some fn∧ctx.sig f=some s∧lL {ctx with fr:=fr,nh:=nh} fn s ids=some pc:=
 NH (R:=fun f pc=>∃fn s ids fr nh,ctx.P.funcs[f]?=some fn∧ctx.sig f=some s∧lL {ctx with fr:=fr,nh:=nh} fn s ids=some pc) (l:=zX)
  (aF (aG [6,8,9] [12,13,14,15] [] Tryz.func4 rfl (aE Fw Yk))
  (aF (aG [1,2,3,24579,5] [0,4,6,8,9,10,1000003] [] Tryz.func7 rfl (aE Fy Yn))
  (aF (aG [0,1,2,24578,3,12291,4,24580,28676,32772,5,65541,69637,73733,77829] [] [] Tryz.func20 rfl (aE Bn Yl))
  (aF (aG [5,7,8,12,15] [10,11,13] [] Tryz.func16 rfl (aE xF N5))
  (aF (aG [3,4,5,8,28,10] [6,7] [] Tryz.func17 rfl (aE xE N4))
  (aF (aG [2,3,10] [4,5,6,7,8,11] [] Tryz.func36 rfl (aE vk Ie))
  (aF (aG [2,3] [4,5,6,7,8,54,80,109,118,9,10] [] Tryz.func66 rfl (aE Bo Zo))
  (aF (aG [1,9] [2,3,4,5,6,7,10,11,12] [] Tryz.func85 rfl (aE xX Oj))
  (aF (aG [1,2,3,4,6,16390,20486,24582,21,8,34,10,12298,16394,47] [] [] Tryz.func106 rfl (aE yb Dj))
  (aF (aG [] [6,7,8] [] Tryz.func107 rfl (aE x9 Om))
  (aF (aG [] [4] [] Tryz.func135 rfl (aE F3 YR))
  (aF (aG [] [2,3,4,5] [] Tryz.func151 rfl (aE ya On))
  (aF (aG [] [4] [] Tryz.func152 rfl (aE Gb YZ))
  (aF (aG [] [4,5] [] Tryz.func165 rfl (aE yq Oy))
  (aF (aG [] [2] [] Tryz.func108 rfl (aE FX YL))
  (aF (aG [] [3] [] Tryz.func109 rfl (aE FY YM))
  (aF (aG [2,3] [4,6] [] Tryz.func110 rfl (aE xZ Ol))
  (aF (aG [] [4] [] Tryz.func111 rfl (aE F2 YQ))
  (aF (aG [] [6,7,8] [] Tryz.func136 rfl (aE ye Oo))
  (aF (aG [] [3] [] Tryz.func112 rfl (aE FZ YN))
  (aF (aG [] [3] [] Tryz.func113 rfl (aE F0 YO))
  (aF (aG [1,3,4,6,19,8,16392,36] [2] [] Tryz.func114 rfl (aE yc Il))
  (aF (aG [1,4,6] [2,3] [] Tryz.func115 rfl (aE yf Ip))
  (aF (aG [1,4,6] [2] [] Tryz.func116 rfl (aE yd Io))
  (aF (aG [] [4] [] Tryz.func86 rfl (aE Gs Zp))
  (aF (aG [1,3] [2,8,19,40] [] Tryz.func87 rfl (aE Gt Zq))
  (aF (aG [3,9] [6,7] [] Tryz.func88 rfl (aE xY Ok))
  (aF (aG [3,4,7,11] [6,8,9,76,92,98] [] Tryz.func67 rfl (aE xJ N9))
  (aF (aG [] [6] [] Tryz.func68 rfl (aE FN YC))
  (aF (aG [3,4,7,8] [6,9,10,66,103,113,11,140,149] [] Tryz.func89 rfl (aE FM YB))
  (aF (aG [3] [6,7] [] Tryz.func117 rfl (aE FL YA))
  (aF (aG [3] [6] [] Tryz.func118 rfl (aE FO YD))
  (aF (aG [] [4] [] Tryz.func23 rfl (aE Ga YY))
  (aF (aG [] [4,5] [] Tryz.func56 rfl (aE yp Ox))
  (aF (aG [2,3,6] [4,5,7] [] Tryz.func69 rfl (aE xH N7))
  (aF (aG [3,4,5] [6,7,8,9,65,80,100,111] [] Tryz.func90 rfl (aE FK Yz))
  (aF (aG [1,4,5] [2,3] [] Tryz.func70 rfl (aE xI N8))
  (aF (aG [] [4,5,6] [] Tryz.func92 rfl (aE Fs Yg))
  (aF (aG [] [2] [] Tryz.func119 rfl (aE Ft Yh))
  (aF (aG [] [2,3,5] [] Tryz.func91 rfl (aE xz NZ))
  (aF (aG [2] [3] [] Tryz.func37 rfl (aE Fz Yo))
  (aF (aG [2] [4] [] Tryz.func38 rfl (aE FF Yu))
  (aF (aG [] [2] [] Tryz.func39 rfl (aE FA Yp))
  (aF (aG [] [2] [] Tryz.func40 rfl (aE FB Yq))
  (aF (aG [] [1] [] Tryz.func41 rfl (aE FC Yr))
  (aF (aG [] [2] [] Tryz.func42 rfl (aE FD Ys))
  (aF (aG [] [4] [] Tryz.func43 rfl (aE F8 YW))
  (aF (aG [] [4,5] [] Tryz.func71 rfl (aE ym Ou))
  (aF (aG [] [2] [] Tryz.func44 rfl (aE FE Yt))
  (aF (aG [2,3,7] [4,5] [] Tryz.func45 rfl (aE xG N6))
  (aF (aG [5,8,77832,10] [] [] Tryz.func35 rfl (aE Fj X9))
  (aF (aG [4,7,8,9] [10] [] Tryz.func65 rfl (aE Fi X8))
  (aF (aG [4,7,8,10,16394] [9,11,12,13,14] [] Tryz.func83 rfl (aE Fl Yb))
  (aF (aG [2,3,4] [5] [] Tryz.func100 rfl (aE Fm Yc))
  (aF (aG [2,4,65540,69636,73732,77828,5,65541,69637,73733,77829,7,31,9,49,11,13] [1000004,1000005] [] Tryz.func13 rfl (aE yg zD))
  (aF (aG [] [4] [] Tryz.func32 rfl (aE F6 YU))
  (aF (aG [2,3,5,6,8,10,90,139] [4,7,9,11,12,13,14,15,16] [] Tryz.func127 rfl (aE yi Iq))
  (aF (aG [2] [3] [] Tryz.func141 rfl (aE F4 YS))
  (aF (aG [] [4] [] Tryz.func140 rfl (aE F7 YV))
  (aF (aG [] [4,5] [] Tryz.func156 rfl (aE yk Ot))
  (aF (aG [2] [4] [] Tryz.func128 rfl (aE F1 YP))
  (aF (aG [2] [] [] Tryz.func142 rfl (aE F5 YT))
  (aF (aG [3,6,8] [] [] Tryz.func143 rfl (aE yh Oq))
  (aF (aG [] [2,3,4,11] [] Tryz.func101 rfl (aE FH Yw))
  (aF (aG [4,10,53] [8,9,11,12,13,14,55,70] [] Tryz.func103 rfl (aE xA N0))
  (aF (aG [4,9] [8] [] Tryz.func129 rfl (aE Fu Yi))
  (aF (aG [] [3] [] Tryz.func145 rfl (aE Fv Yj))
  (aF (aG [] [4] [] Tryz.func144 rfl (aE F9 YX))
  (aF (aG [] [4,5] [] Tryz.func157 rfl (aE yo Ow))
  (aF (aG [4,11] [8,9] [] Tryz.func130 rfl (aE xB N1))
  (aF (aG [3,6,8,10] [7,9,11,12] [] Tryz.func84 rfl (aE FG Yv))
  (aF (aG [2,3,4,12292,9] [5,6,7,8,10,11] [] Tryz.func104 rfl (aE FI Yx))
  (aF (aG [2] [3] [] Tryz.func132 rfl (aE FJ Yy))
  (aF (aG [] [4,5] [] Tryz.func131 rfl (aE yn Ov))
  (aF (aG [1] [2,3] [] Tryz.func133 rfl (aE Gc Za))
  (aF (aG [2,7,12295] [4,5] [] Tryz.func146 rfl (aE vm OA))
  (aF (aG [1,4,6,12294,9] [2,3,5,7,8,38,47,10,11,12] [] Tryz.func147 rfl (aE yr Is))
  (aF (aG [1] [2,3,12,20,4,5] [] Tryz.func158 rfl (aE Gj Zg))
  (aF (aG [] [2] [] Tryz.func162 rfl (aE Gi Zf))
  (aF (aG [] [2,3,4,11] [] Tryz.func160 rfl (aE Ge Zc))
  (aF (aG [2] [4,8,13,17,21] [] Tryz.func159 rfl (aE Gm Zj))
  (aF (aG [2,4,7] [5,6,8] [] Tryz.func105 rfl (aE Gd Zb))
  (aF (aG [2,3,4,6,33,7,8,10,12298,12] [5,15,21,9,11] [] Tryz.func134 rfl (aE yt Oz))
  (aF (aG [2,4] [5,6] [] Tryz.func148 rfl (aE Gk Zh))
  (aF (aG [2] [] [] Tryz.func161 rfl (aE Gn Zk))
  (aF (aG [4,5] [9,22,41,6,7,82,88,94] [] Tryz.func149 rfl (aE Gg Ze))
  (aF (aG [] [6,8,14,20,25] [] Tryz.func163 rfl (aE Gf Zd))
  (aF (aG [] [4,5,6,7] [] Tryz.func171 rfl (aE Gl Zi))
  (aF (aG [] [4,5,6,7,8,9,10,11,12,13] [] Tryz.func173 rfl (aE Fq Yf))
  (aF (aG [6] [2,3,5,8] [] Tryz.func150 rfl (aE yj Ir))
  (aF (aG [1] [2] [] Tryz.func34 rfl (aE Fk Ya))
  (aF (aG [3,6,7,4103,24583,8,9,11,47] [10] [] Tryz.func12 rfl (aE yu OB))
  (aF (aG [2,9] [4,5,6,7] [] Tryz.func29 rfl (aE yw OC))
  (aF (aG [3,4,5] [6] [] Tryz.func30 rfl (aE Gq Zm))
  (aF (aG [2,5,7] [4] [] Tryz.func33 rfl (aE yx OE))
  (aF (aG [] [4,5,13] [] Tryz.func31 rfl (aE Gr Zn))
  (aF (aG [5,7,8,10,65546,69642,73738,77834,13,65549,69645,73741,77837,14,16,85] [11,12,15,2000038,1000013] [] Tryz.func9 rfl (aE xD N3))
  (aF (aG [3] [6] [] Tryz.func14 rfl (aE Gp Zl))
  (aF (aG [3,4,5] [6] [] Tryz.func8 rfl (aE Fx Ym))
  (aF (aG [2,3] [4,5] [] Tryz.func21 rfl (aE xW Oi))
  (aF (aG [1] [2,3,4] [] Tryz.func48 rfl (aE xL If))
  (aF (aG [1] [2] [] Tryz.func49 rfl (aE FV YJ))
  (aF (aG [1] [2,3] [] Tryz.func50 rfl (aE xV Oh))
  (aF (aG [1] [2] [] Tryz.func77 rfl (aE FW YK))
  (aF (aG [3] [6,1,7] [] Tryz.func96 rfl (aE vl Og))
  (aF (aG [1] [2,3] [] Tryz.func22 rfl (aE FP YE))
  (aF (aG [1,5,44] [2,3,4,6,7] [] Tryz.func51 rfl (aE xQ Ih))
  (aF (aG [] [4] [] Tryz.func78 rfl (aE FU YI))
  (aF (aG [] [2,3,4] [] Tryz.func97 rfl (aE xM Oc))
  (aF (aG [] [2] [] Tryz.func126 rfl (aE FQ YG))
  (aF (aG [] [6,7] [] Tryz.func98 rfl (aE xK Oa))
  (aF (aG [2,3] [4,5] [] Tryz.func79 rfl (aE xN Od))
  (aF (aG [] [6] [] Tryz.func26 rfl (aE FT YH))
  (aF (aG [] [6,7] [] Tryz.func99 rfl (aE xP Oe))
  (aF (aG [1,4,44] [2,3,5,6] [] Tryz.func52 rfl (aE xR Ii))
  (aF (aG [1,3,24] [2,4,5] [] Tryz.func53 rfl (aE xS Of))
  (aF (aG [1] [2,3,4] [] Tryz.func80 rfl (aE xO Ig))
  (aF (aG [1,4] [2,3,5] [] Tryz.func54 rfl (aE xU Ik))
  (aF (aG [1,4,6] [2,3,5] [] Tryz.func55 rfl (aE xT Ij))
  (aF (aG [7,9,10,16,24592,64,18,24594] [14,15,17,19,1000018] [] Tryz.func5 rfl (aE xC N2))
  trivial))))))))))))))))))))))))))))))))))))))))))))))))))))))))))))))))))))))))))))))))))))))))))))))))))))))))))))))))))))))))
end Rm
set_option linter.unusedSimpArgs false
namespace Rm
open Go Go.Proofs Cx Go.RowKit Go.Lib
theorem ajt:(Tryz.prog.info? 3).map (fun i=>(i.zero,i.size,i.bytes))=some (some (.int .i64 0),1,8):=by kernel_rfl
set_option maxHeartbeats 2000000 in
set_option maxRecDepth 100000 in
theorem agt (w:World):Calls Tryz.prog 164 #[.slice none 0 0,.int .i64 0] w fun e w'=>e=.returned (.slice none 0 0)∧w'=w:=by
 go_enter Tryz.func164,Tryz.ntmps164
 go_wp2
 go_ret
 exact⟨rfl,rfl⟩
set_option maxHeartbeats 2000000 in
set_option maxRecDepth 100000 in
theorem ags (n:Nat)(w:World)(h0:0<n)(h1:n≤4294967296):Calls Tryz.prog 164 #[.slice none 0 0,.int .i64 n] w fun e w'=>
 ∃v',e=.returned v'∧w'.ownsRow w.heap.size 3 1 v' 0 []∧Below w.heap.size w w':=by
 obtain⟨i0,hi,zq,v9,Nn⟩:=info_parts ajt;have hr:=run_append_nil_zeros w 52 3 52 3 i0 (.int .i64 0) .i64 .i64 Tryz.underlying52 Tryz.underlying3 hi zq n h0 (by rw[v9];decide) (by omega) (by rw[Nn];omega);have hn:¬((n:Int)<0):=by omega
 have oT:(n:Int)>0:=by omega
 have hw:IntKind.i64.wrap (n:Int)=n:=by rw[IntKind.wrap_i64];omega
 have qt:IntKind.i64.wrap 0=0:=by decide
 have eU:=grownCap_ge w n 0 3;have hle:=grownCap_le_maxLen w n 0 3 (by unfold maxLen;omega);have hs:(Builtin.zeroCells #[Value.int IntKind.i64 0] n++Builtin.zeroCells #[Value.int IntKind.i64 0] (grownCap w n 0 3-n)).size=grownCap w n 0 3*1:=by
  rw[Array.size_append,size_zeroCells,size_zeroCells];simp;omega
 go_enter Tryz.func164,Tryz.ntmps164
 go_wp2_with (at_builtin;refine wpList_append_run _ rfl _ _ 52 3 rfl _ _ rfl rfl _ _ hr ?qc)
 go_ret
 refine⟨_,rfl,?_,?_⟩
 ·exact World.ownsRow.drew (World.ownsRow_made w _ _ (bf _) hle hs)
 ·exact((Below.refl _ w).alloc (bf _) _).drew
def GN (ds:List D):Option D:=
 match ds with
 |[.list [],.v (.int .i64 n)]=>if 0≤n∧n≤4294967296 then some (.list []) else none
 |_=>none
theorem agr (ds:List D)(d:D)(h:GN ds=some d):∃s,ctx.sig 164=some s∧JS ctx 164 s ds d:=by
 refine⟨_,rfl,fun _=>?_,fun shs obs hm=>by cases hm⟩;unfold GN at h;split at h
 case h_2=>cases h
 rename_i n;split at h
 case isFalse=>cases h
 rename_i hn;cases h;obtain⟨k,rfl⟩:=q9 hn.1;intro σ w args aA hC ha;obtain⟨a1,a2,a3⟩:=ha;have h0:=a3 0 _ rfl;have h1:=a3 1 _ rfl;obtain⟨u,v,rfl⟩:∃u v,args=#[u,v]:=by
  have:args.size=2:=by simpa using a1
  match args,this with
  |⟨[u,v]⟩,_=>exact⟨u,v,rfl⟩
 simp only[sS,AU] at h0 h1;change Rep ctx.cap σ (.nils .bool) u (.list []) at h0;change Rep ctx.cap σ (.int .i64) v (.v (.int .i64 k)) at h1;have hu:u=.slice none 0 0:=by cases h0;rfl
 have hv:v=.int .i64 k:=by cases h1;rfl
 subst hu hv;by_cases hk:k=0
 ·subst hk;refine(agt w).mono fun e w' hh=>?_;obtain⟨rfl,rfl⟩:=hh;refine⟨_,σ,rfl,.refl σ,aA,.refl _ _,fun _ _ _ h=>.inl h,fun _ _ h=>.inl h,?_⟩;exact⟨[],[],rfl,⟨by simp,.inl ⟨rfl,rfl⟩⟩,⟨fun _=>undef,fun i x hx=>by simp at hx,fun i j u hi=>by simp at hi⟩,fun k hk=>by cases hk⟩
 ·refine(ags k w (by omega) (by omega)).mono fun e w' hh=>?_;obtain⟨v',rfl,bY,hb⟩:=hh;refine⟨v',σ,rfl,.refl σ,aA.below hb,hb,fun _ _ _ h=>.inl h,fun _ _ h=>.inl h,?_⟩;refine⟨[],[],rfl,bY,⟨fun _=>undef,fun i x hx=>by simp at hx,fun i j u hi=>by simp at hi⟩,fun k hk=>?_⟩;have bn:=(bY.lt k hk).1;refine⟨fun o=>?_,?_⟩
  ·cases hc:σ.c k o with
   |none=>rfl
   |some u=>have:=World.block_lt_of_cell? w (a:=⟨k,o,none⟩) (aA.c _ _ _ hc);simp at this;omega
  ·cases hc:σ.m k with
   |none=>rfl
   |some u=>rcases aA.m _ _ hc with⟨arr,clock,x,g1,_⟩|⟨_,g1⟩<;>(have:=(ga.1 g1).1;omega)
def Um (day:Int):Int×Int×Int:=
 let n:=day+730425
 let e:=n/146097
 let r:=n%146097
 let y:=(r-r/1460+r/36524-r/146096)/365
 let r:=r-(365*y+y/4-y/100)
 let m:=(5*r+2)/153
 let dom:=r-(153*m+2)/5+1
 let month:=if 12<m+3 then m+3-12 else m+3
 (if month<3 then y+400*e+1 else y+400*e,month,dom)
def amm (rest feasts shut:List Int)(day:Int):Bool:=
 !rest.contains ((day+5)%7)&&(!feasts.contains (100*(Um day).2.1+(Um day).2.2)&& !shut.contains day)
def adN (rest feasts shut:List Int)(a b:Int):List Int:=((List.range (b-a+1).toNat).map fun(k:Nat)=>a+k).filter (amm rest feasts shut)
def Np (d:D):List Int:=d.l.map D.i
def auB (ds:List D):List D:=
 let c:=(ds.getD 2 .none).deref
 (adN (Np (c.c 3)) (Np (c.c 4)) (Np (c.c 5)) (ds.getD 0 .none).deref.i (ds.getD 1 .none).deref.i).map fun d=>.tup [.int d]
def xx (r:D)(city:Int):Int:=if 0≤city∧city<(r.c 1).l.length then(((r.c 1).l.getD city.toNat .none).c 1).i else-1
def OP (ds:List D):D:=
 let r:=ds.getD 0 .none
 let ar:=(ds.getD 1 .none).i
 let c:=ds.getD 2 .none
 let s:=(c.c 15).l.getD (c.c 19).i.toNat .none
 let who:=(s.c 2).i
 if who<0∨(r.c 3).l.length≤who∨ar<0∨(r.c 4).l.length≤ar then .list [] else
 let out:=[ar,xx r (s.c 7).i,xx r (c.c 10).i,xx r (c.c 9).i,xx r (((r.c 3).l.getD who.toNat .none).c 1).i]
 if(-1)∈out then .list [] else ints out
def Lv (ds:List D):List D:=
 let f:=(ds.getD 0 .none).deref
 let day:=(ds.getD 1 .none).deref.i
 let part:=(ds.getD 2 .none).deref.i
 ((List.range (f.c 15).l.length).filter fun(i:Nat)=>decide ((((f.c 15).l.getD i .none).c 0).i=2)&&decide ((((f.c 15).l.getD i .none).c 1).i=part)&&decide ((((f.c 15).l.getD i .none).c 6).i≤day)&&
   !((f.c 17).l.any fun a=>decide ((a.c 0).i=7)&&decide ((a.c 4).i=(i:Int))&&decide ((a.c 6).i≤day))).map fun(i:Nat)=>.tup [.int i,(f.c 15).l.getD i .none]
def UQ:List (Nat×(aP→List D→Option D)):=[(164,fun _ ds=>GN ds),(102,zA (ae Fo) (ae Fp) OP),(64,C7 (ae rz) 1000 2 Lv)]
def ext:Nat→Option (aP→List D→Option D):=bz UQ
theorem abr:TabOK ctx tab ext:=by
 refine⟨clos,its,fun f pc _ h=>aox f pc h,fun f g hg Φ hΦ fu ds d h=>?_⟩
 have:=NH (R:=fun f (g:aP→List D→Option D)=>∀Φ,cT ctx Φ→gf ctx Φ→∀ds d,g Φ ds=some d→(∀s,ctx.sig f=some s→JS ctx f s ds d)∧
  ∀cs ys,ctx.cap f=some cs→lY cs.args cs.res=some ys→∃xs,d=.list xs∧(∀x,x∈xs→∃ds',x=.tup ds'∧ds'.length=ys.length)∧lz ctx f cs.caps ys ds xs) (l:=UQ)
  ⟨fun Φ hΦ fu ds d h=>⟨fun s hs=>by obtain⟨s',h1,h2⟩:=agr ds d h;rw[hs] at h1;cases h1;exact h2,fun cs ys hc hi=>by cases hc⟩,
   fun Φ hΦ fu ds d h=>⟨fun s hs=>by cases hs;exact⟨fun _=>alG clos hΦ fu Tryz.func102 (aE Fo Yd) (aE Fp Ye) h,fun shs obs hm=>by cases hm⟩,fun cs ys hc hi=>by cases hc⟩,
   fun Φ hΦ fu ds d h=>⟨fun s hs=>(by cases hs),fun cs ys hc hi=>by
    cases hc;cases hi;exact ajw clos hΦ fu Tryz.func64 adi h rfl⟩,
   trivial⟩ f g hg
 exact this Φ hΦ fu ds d h
abbrev T:cC:=dM tab ext
theorem ao.of_nsl {tab:Nat→Option PC}{ext:Nat→Option (aP→List D→Option D)}{f:Nat}{pa pb:PC}{spec:List D→D}{ds:List D}{ta tb:PT}(hx:ext f=some (zA pa pb spec))(hta:tree pa=ta)(htb:tree pb=tb)
 (h:(∃xs,xs≠[]∧spec ds=.list xs∧aI (dM tab ext) ta (kr ds) (fun x=>x=.ret (.list xs)))∨(spec ds=.list []∧aI (dM tab ext) tb (kr ds) (fun x=>x=.ret (.list [])))):ao (dM tab ext) f ds (spec ds):=by
 refine ao.of_ext hx ?_;rcases h with⟨xs,h1,h2,h3⟩|⟨h2,h3⟩
 ·obtain⟨x,rfl,n0,hn⟩:=JL (c:=pa) (hta▸h3);refine⟨n0,fun n hle=>?_⟩;unfold zA;rw[if_pos (.inl ⟨n,xs,hn n hle,h1,h2⟩)]
 ·obtain⟨x,rfl,n0,hn⟩:=JL (c:=pb) (htb▸h3);refine⟨n0,fun n hle=>?_⟩;unfold zA;rw[if_pos (.inr ⟨n,hn n hle,h2⟩)]
end Rm
namespace Rm
open Go Go.Proofs Cx
def ei (n:Nat)(p:Nat→Bool):Bool:=(List.range n).all p
theorem TS {n:Nat}{p:Nat→Bool}(h:∀k,k<n→p k=true):ei n p=true:=bE.2 fun k hk=>h k (bX.1 hk)
theorem acx {n k:Nat}{p:Nat→Bool}(hk:k<n)(h:p k=false):ei n p=false:=List.all_eq_false.2 ⟨k,bX.2 hk,by simp[h]⟩
theorem xr {n:Nat}{p:Nat→Bool}:ei n p=true↔∀k,k<n→p k=true:=⟨fun h k hk=>bE.1 h k (bX.2 hk),TS⟩
def fq (n:Nat)(f:Nat→Int):Int:=(((List.range n).map f).find? fun x=>x !=0).getD 0
theorem LG {n:Nat}{f:Nat→Int}(h:∀k,k<n→f k=0):fq n f=0:=by
 unfold fq;rw[xl.2]
 ·rfl
 ·intro x hx;obtain⟨k,hk,rfl⟩:=eO.1 hx;simp[h k (bX.1 hk)]
theorem LF {n k:Nat}{f:Nat→Int}(hk:k<n)(hj:∀j,j<k→f j=0)(h:f k≠0):fq n f=f k:=by
 unfold fq;have e:List.range n=List.range k++k::(List.range' (k+1) (n-k-1)):=by
  rw[J4,J4,←E1];have:=List.range'_append_1 (s:=0) (m:=k) (n:=n-k-1+1);rw[gz] at this;rw[this];congr 1;omega
 rw[e,rf,List.find?_append,xl.2,Option.none_or,gx,List.find?_cons_of_pos (by simpa using h)]
 ·rfl
 ·intro x hx;obtain⟨j,tM,rfl⟩:=eO.1 hx;simp[hj j (bX.1 tM)]
theorem UY {n:Nat}{f:Nat→Int}:fq n f=0↔∀k,k<n→f k=0:=by
 refine⟨fun h k=>?_,LG⟩
 induction k using Nat.strongRecOn with
 |ind k ih=>
  intro hk;refine AQ fun aB=>?_;rw[LF hk (fun j hj=>ih j hj (by omega)) aB] at h;exact aB h
section
variable {T:cC} {id:Nat} {bx bu lr lo:List Nat} {a:PC} {ρ:Env} {Q:Out→Prop}
theorem fY (N:Nat)(p:Nat→Bool)(str fg:Nat→List D)(h0:lr.map ρ.r=str 0∧lo.map ρ.o=fg 0)
 (step:∀k,k<N→p k=true→aI T (round id bx bu lr lo a) (ρ.put lr (str k) lo (fg k)) (eI ρ id bx bu lr lo (fun vr vo=>vr=str (k+1)∧vo=fg (k+1)) Q))
 (bad:∀k,k<N→p k=false→ei N p=false→aI T (round id bx bu lr lo a) (ρ.put lr (str k) lo (fg k)) (eI ρ id bx bu lr lo (fun _ _=>False) Q))
 (last:ei N p=true→aI T (round id bx bu lr lo a) (ρ.put lr (str N) lo (fg N)) (eI ρ id bx bu lr lo (fun _ _=>False) Q)):aT T (.block id bx bu (.loop lr lo a)) ρ Q:=
 .scan N (fun k=>p k=true) str fg h0 (fun k hk _ h=>step k hk h) (fun k hk _ h=>bad k hk (by simpa using h) (acx hk (by simpa using h))) (fun h=>last (TS h))
theorem nY (N:Nat)(f:Nat→Int)(str fg:Nat→List D)(h0:lr.map ρ.r=str 0∧lo.map ρ.o=fg 0)
 (step:∀k,k<N→f k=0→aI T (round id bx bu lr lo a) (ρ.put lr (str k) lo (fg k)) (eI ρ id bx bu lr lo (fun vr vo=>vr=str (k+1)∧vo=fg (k+1)) Q))
 (bad:∀k,k<N→f k≠0→fq N f=f k→aI T (round id bx bu lr lo a) (ρ.put lr (str k) lo (fg k)) (eI ρ id bx bu lr lo (fun _ _=>False) Q))
 (last:fq N f=0→aI T (round id bx bu lr lo a) (ρ.put lr (str N) lo (fg N)) (eI ρ id bx bu lr lo (fun _ _=>False) Q)):aT T (.block id bx bu (.loop lr lo a)) ρ Q:=
 .scan N (fun k=>f k=0) str fg h0 (fun k hk _ h=>step k hk h) (fun k hk hj h=>bad k hk h (LF hk hj h)) (fun h=>last (LG h))
end
theorem br {k n:Nat}(h:k<n)(hn:n≤4294967296):IntKind.i64.wrap ((k:Int)+1)=(k:Int)+1:=bV (by omega)
theorem uT {k:Nat}(hn:k≤4294967296):IntKind.i64.wrap ((k:Int)-1)=(k:Int)-1:=bV (by omega)
def aD (i n:Int):Bool:=decide (0≤i)&&decide (i<n)
def wi (n a b:Int):Bool:=decide (a≤n)&&decide (n≤b)
theorem fI (i n:Int):ao T 111 [.int i,.int n] (.bool (aD i n)):=by
 refine .of_tree rfl (lA 17 (by kernel_rfl)) apX ?_;simp[RX,aD];by_cases h:0≤i<;>simp[h]
theorem pE (i n:Int):ao T 32 [.int i,.int n] (.bool (aD i n)):=by
 refine .of_tree rfl (lA 55 (by kernel_rfl)) aqa ?_;simp[R9,aD];by_cases h:0≤i<;>simp[h]
theorem cN (n a b:Int):ao T 26 [.int n,.int a,.int b] (.bool (wi n a b)):=by
 refine .of_tree rfl (lA 112 (by kernel_rfl)) apD ?_;simp[RD,wi];by_cases h:a≤n<;>simp[h]
theorem idx_eq {α:Type}[DecidableEq α]{l:List α}{x z:α}{k:Nat}(hk:k<l.length)(hj:∀j,j<k→l.getD j z≠x)(h:¬l.getD k z≠x):x∈l∧l.findIdx (fun y=>decide (y=x))=k:=by
 have e:l[k]=x:=by simpa [hk] using h
 refine⟨e▸dA hk,(List.findIdx_eq hk).2 ⟨by simp[e],fun j gQ=>?_⟩⟩;have fO:j<l.length:=by omega
 simpa [fO] using hj j gQ
theorem WG {α:Type}[DecidableEq α]{l:List α}{x z:α}(hj:∀j,j<l.length→l.getD j z≠x):¬x∈l:=fun hm=>by
 obtain⟨j,fO,rfl⟩:=lE hm;have:=hj j fO;simp[fO] at this
def tX {α:Type}[DecidableEq α](l:List α)(x:α):Int:=if x∈l then(l.findIdx (fun y=>decide (y=x)):Nat) else-1
def hasB {α:Type}[DecidableEq α](l:List α)(x:α):Bool:=l.any fun y=>decide (y=x)
theorem L4 {α:Type}[DecidableEq α]{l:List α}{x:α}:hasB l x=true↔x∈l:=by simp[hasB]
theorem Vz {α:Type}[DecidableEq α]{l:List α}{x:α}:hasB l x=false↔¬x∈l:=by rw[←L4];simp
theorem WE {α:Type}[DecidableEq α](l:List α)(x:α):decide (0≤tX l x)=hasB l x:=by
 unfold tX;by_cases h:x∈l
 ·rw[L4.2 h];simp[h]
 ·rw[Vz.2 h];simp[h]
@[simp] theorem auw (a b:ByteArray):yB .eql a b=decide (a=b):=by
  simp only[yB,ByteArray.toList_eq];by_cases h:a=b
  ·subst h;simp
  ·rw[decide_eq_false h,beq_eq_false_iff_ne];intro e;have:a.data=b.data:=by rw[←sO];exact e
   exact h (by cases a;cases b;cases this;rfl)
@[simp] theorem avs (ρ:Env)(x i:PE):PE.ev ρ (.sidx x i)=.v (.int .u8 ((PE.ev ρ x).s.data.getD (PE.ev ρ i).i.toNat 0).toNat):=_root_.id rfl
@[simp] theorem avw (ρ:Env)(x i:PE):PE.ev ρ (.sok x i)=.v (.bool (decide (0≤(PE.ev ρ i).i∧(PE.ev ρ i).i<(PE.ev ρ x).s.size))):=_root_.id rfl
@[simp] theorem ax7 (a:ByteArray):(str a).s=a:=_root_.id rfl
theorem ab1 (l:List Int)(x:Int)(hl:l.length≤4294967296):ao T 56 [ints l,.int x] (.int (tX l x)):=by
 refine .of_tree rfl (lA 33 (by kernel_rfl)) aql ?_;simp[Sl];refine .scan l.length (fun k=>l.getD k 0≠x) (fun k=>[.int 0,.int k]) (fun _=>[]) ?_ (fun k hk hj ho=>?_) (fun k hk hj ho=>?_) (fun hj=>?_)
 ·simp
 ·have hw:=br hk hl;simp[hk] at ho;have dT:¬x=l[k]:=fun e=>ho e.symm;simp[Qe,Ek,hk,hw,ints,ho,dT]
 ·obtain⟨hm,he⟩:=idx_eq hk hj ho;simp[hk] at ho;simp[Qe,Ek,hk,ints,ho,tX,hm,he]
 ·have:=WG hj;simp[Qe,Ek,tX,this,ints]
theorem AR (l:List Int)(x:Int)(hl:l.length≤4294967296):ao T 23 [ints l,.int x] (.bool (hasB l x)):=by
 refine .of_tree rfl (lA 32 (by kernel_rfl)) aqf ?_;simp[Se];refine⟨_,ab1 l x hl,?_⟩;have:=WE l x;simp at this ⊢;exact this
theorem ab2 (l:List ByteArray)(x:ByteArray)(hl:l.length≤4294967296):ao T 165 [strs l,str x] (.int (tX l x)):=by
 refine .of_tree rfl (lA 13 (by kernel_rfl)) aqm ?_;simp[Sm];refine .scan l.length (fun k=>l.getD k default≠x) (fun k=>[.int 0,.int k]) (fun _=>[]) ?_ (fun k hk hj ho=>?_) (fun k hk hj ho=>?_) (fun hj=>?_)
 ·simp
 ·have hw:=br hk hl;simp[hk] at ho;have dT:¬x=l[k]:=fun e=>ho e.symm;simp[Qf,El,hk,hw,strs,ho,dT]
 ·obtain⟨hm,he⟩:=idx_eq hk hj ho;simp[hk] at ho;simp[Qf,El,hk,strs,ho,tX,hm,he]
 ·have:=WG hj;simp[Qf,El,tX,this,strs]
theorem abW (l:List ByteArray)(x:ByteArray)(hl:l.length≤4294967296):ao T 152 [strs l,str x] (.bool (hasB l x)):=by
 refine .of_tree rfl (lA 12 (by kernel_rfl)) aqg ?_;simp[Sf];refine⟨_,ab2 l x hl,?_⟩;have:=WE l x;simp at this ⊢;exact this
def nW (l:List Int)(a b:Int)(k:Nat):Bool:=wi (l.getD k 0) a b&&(k==0||decide (l.getD (k-1) 0<l.getD k 0))
def rising (l:List Int)(a b:Int):Bool:=ei l.length (nW l a b)
theorem Es (l:List Int)(a b:Int)(hl:l.length≤4294967296):ao T 136 [ints l,.int a,.int b] (.bool (rising l a b)):=by
 refine .of_tree rfl (lA 18 (by kernel_rfl)) ap3 ?_;simp[R3];refine fY l.length (nW l a b) (fun k=>[.bool false,.int k]) (fun _=>[]) ?_ (fun k hk ho=>?_) (fun k hk ho hb=>?_) (fun hj=>?_)
 ·simp
 ·have hw:=br hk hl;simp[nW,wi,hk] at ho;obtain⟨⟨h1,h2⟩,h3⟩:=ho;have cK:¬l[k]<a:=by omega
  have jt:¬b<l[k]:=by omega
  by_cases gR:0<k
  ·have bt:k-1<l.length:=by omega
   have dg:IntKind.i64.wrap ((k:Int)-1)=((k-1:Nat):Int):=by rw[uT (by omega)];omega
   have eT:¬l[k]≤l[k-1]:=by
        rcases h3 with h3|h3
        ·omega
        ·simp[bt] at h3;omega
   simp[Ar,uA,hk,hw,dg,ints,cK,jt,eT,gR,bt]
  ·simp[Ar,uA,hk,hw,ints,cK,jt,gR]
 ·have hf:rising l a b=false:=hb;simp[nW,wi,hk] at ho;by_cases h1:l[k]<a
  ·simp[Ar,uA,hk,ints,h1,hf]
  by_cases h2:b<l[k]
  ·simp[Ar,uA,hk,ints,h1,h2,hf]
  have h3:=ho (by omega) (by omega);have gR:0<k:=by omega
  have bt:k-1<l.length:=by omega
  have dg:IntKind.i64.wrap ((k:Int)-1)=((k-1:Nat):Int):=by rw[uT (by omega)];omega
  have eT:=h3.2;simp[bt] at eT;simp[Ar,uA,hk,dg,ints,h1,h2,eT,gR,bt,hf]
 ·have hf:rising l a b=true:=hj;simp[Ar,uA,hf]
def Dc (c:Int):Bool:=wi c 97 122||wi c 65 90
def wB (i:Nat)(c:Int):Bool:=Dc c||(i !=0&&(decide (c=95)||wi c 48 57))
def Bh (s:ByteArray)(k:Nat):Int:=((s.data.toList.getD k 0).toNat:Nat)
def iv (s:ByteArray):Bool:=decide (1≤s.size)&&decide (s.size≤20)&&ei s.size (fun k=>wB k (Bh s k))
theorem Ff {s:ByteArray}{k:Nat}(h:k<s.data.size):(s.data[k].toNat:Int)=Bh s k:=by
 unfold Bh;rw[aK,bA (by simpa using h)];rfl
theorem abf {s:ByteArray}:s=⟨#[]⟩↔s.size=0:=by
 constructor
 ·rintro rfl;rfl
 ·intro h;cases s with|mk d=>congr;exact JR h
theorem anF (s:ByteArray):ao T 151 [str s] (.bool (iv s)):=by
 refine .of_tree rfl (lA 11 (by kernel_rfl)) apY ?_;simp[RY];by_cases h0:s=⟨#[]⟩
 ·have hn:iv s=false:=by simp[iv,abf.1 h0]
  rw[hn];simp[h0]
 by_cases h1:(20:Int)<s.size
 ·have cK:¬s.size≤20:=by omega
  simp[h0,h1,iv,cK]
 have hz:1≤s.size:=by
  have:s.size≠0:=fun e=>h0 (abf.2 e);omega
 have cK:s.size≤20:=by omega
 simp[h0,h1];refine⟨by omega,fY s.size (fun k=>wB k (Bh s k)) (fun k=>[.bool false,.int k]) (fun _=>[]) ?_ (fun k hk ho=>?_) (fun k hk ho hb=>?_) (fun hj=>?_)⟩
 ·simp
 ·have hw:=br hk (by omega);have bn:k<s.data.size:=hk;have hg:=Ff bn;simp[wB,Dc,wi] at ho;simp[PY,D6,hk,bn,hw,hg];omega
 ·have bn:k<s.data.size:=hk;have hg:=Ff bn;have hn:iv s=false:=by simp[iv,hb]
  simp[wB,Dc,wi] at ho;simp[PY,D6,hk,bn,hg,hn];omega
 ·have hn:iv s=true:=by simp[iv,hj,hz,cK]
  have hd:s.data.size=s.size:=rfl;simp[PY,D6,hn,hd]
theorem aaf (c:Int):ao T 126 [.v (.int .u8 c)] (.bool (Dc c)):=by
 refine .of_tree rfl (lA 109 (by kernel_rfl)) apy ?_;simp[Rx,Dc,wi];by_cases h:97≤c<;>by_cases h2:c≤122<;>by_cases h3:65≤c<;>by_cases h4:c≤90<;>simp[h,h2,h3,h4]
theorem amY (s:ByteArray):ao T 97 [str s] (.bool (iv s)):=by
 refine .of_tree rfl (lA 108 (by kernel_rfl)) apz ?_;simp[Ry];by_cases h0:(s.size:Int)<1
 ·have hn:iv s=false:=by simp[iv];omega
  simp[h0,hn]
 by_cases h1:(20:Int)<s.size
 ·have hn:iv s=false:=by simp[iv];omega
  simp[h0,h1,hn]
 rw[if_neg (by omega)];refine fY s.size (fun k=>wB k (Bh s k)) (fun k=>[.bool false,.int k]) (fun _=>[]) ?_ (fun k hk ho=>?_) (fun k hk ho hb=>?_) (fun hj=>?_)
 ·simp
 ·have hw:=br hk (by omega);have bn:k<s.data.size:=hk;have hg:=Ff bn;simp[wB,wi] at ho;simp[Pz,DM,hk,bn,hw,hg];refine⟨_,aaf _,?_⟩;simp[hw];intro g1 g2;exfalso;rcases ho with h|h
  ·rw[h] at g1;cases g1
  ·omega
 ·have bn:k<s.data.size:=hk;have hg:=Ff bn;have hn:iv s=false:=by simp[iv,hb]
  simp[wB,wi] at ho;simp[Pz,DM,hk,bn,hg,hn];refine⟨_,aaf _,?_⟩;simp[ho.1];omega
 ·have hn:iv s=true:=by simp[iv,hj];omega
  simp[Pz,DM,hn]
end Rm
namespace Rm
open Go Go.Proofs Cx
theorem amV (l:List ByteArray)(n:Nat)(x:ByteArray)(hn:n≤l.length)(hl:l.length≤4294967296):ao T 98 [strs l,.int n,str x] (.bool (hasB (l.take n) x)):=by
 refine .of_tree rfl (lA 110 (by kernel_rfl)) apv ?_;simp[Ru];refine .scan n (fun k=>l.getD k default≠x) (fun k=>[.bool false,.int k]) (fun _=>[]) ?_ (fun k hk hj ho=>?_) (fun k hk hj ho=>?_) (fun hj=>?_)
 ·simp
 ·have bn:k<l.length:=by omega
  have hw:=br bn hl;simp[bn] at ho;simp[Py,DK,hk,bn,hw,strs,ho]
 ·have bn:k<l.length:=by omega
  simp[bn] at ho;have hm:hasB (l.take n) x=true:=L4.2 (by rw[←ho,ab8];exact⟨k,by omega,rfl⟩);simp[Py,DK,hk,bn,strs,ho,hm]
 ·have hm:hasB (l.take n) x=false:=Vz.2 (fun h=>by
   rw[ab8] at h;obtain⟨k,hk,e⟩:=h;have:=hj k (by omega);simp[show k<l.length by omega] at this;exact this e)
  simp[Py,DK,hm]
def gE (l:List ByteArray)(i:Nat):Int:=if iv (l.getD i default)=false then 2 else if hasB (l.take i) (l.getD i default) then 5 else 0
theorem NR (l:List ByteArray)(i n:Nat)(h:i<n):gE (l.take n) i=gE l i:=by
 unfold gE;rw[aK,List.getElem?_take_of_lt h,List.take_take,oo (by omega),←aK]
theorem DB (l:List ByteArray)(i:Nat)(hi:i<l.length)(hl:l.length≤4294967296):ao T 78 [strs l,.int i] (.int (gE l i)):=by
 refine .of_tree rfl (lA 107 (by kernel_rfl)) apG ?_;simp[RG,hi];refine⟨_,by simpa [strs,hi] using amY l[i],?_⟩;unfold gE;rw[aK,bA hi,jj];cases h1:iv l[i]<;>simp[h1];refine⟨_,by simpa [strs,hi] using amV l i l[i] (by omega) hl,?_⟩;cases h2:hasB (l.take i) l[i]<;>simp[h2]
theorem aaI (l:List ByteArray)(i:Nat)(hi:i<l.length)(hl:l.length≤4294967296):ao T 135 [strs l,.int i] (.int (gE l i)):=by
 refine .of_tree rfl (lA 10 (by kernel_rfl)) apZ ?_;simp[RZ,hi];refine⟨_,by simpa [strs,hi] using anF l[i],?_⟩;unfold gE;rw[aK,bA hi,jj];cases h1:iv l[i]<;>simp[h1];refine⟨by omega,_,by simpa [strs,hi] using abW (l.take i) l[i] (by rw[dR];omega),?_⟩;cases h2:hasB (l.take i) l[i]<;>simp[h2]
def jS (l:List ByteArray)(g:Nat→Bool)(i:Nat):Int:=if gE l i≠0 then gE l i else if g i then 0 else 1
def eF (l:List ByteArray)(Dh:Int)(g:Nat→Bool):Int:=if Dh<l.length then 6 else fq l.length (jS l g)
theorem Jj (l:List ByteArray)(Dh:Int)(f:Nat)(caps:List D)(g:Nat→Bool)(hg:∀i:Nat,i<l.length→ao T f (.int i::caps) (.bool (g i)))(hl:l.length≤4294967296):
 ao T 107 [strs l,.int Dh,.clo f caps] (.int (eF l Dh g)):=by
 refine .of_tree rfl (lA 9 (by kernel_rfl)) apW ?_;simp[RW,eF];by_cases h0:Dh<l.length
 ·simp[h0];intro h;omega
 simp[h0];refine nY l.length (jS l g) (fun k=>[.int 0,.int k]) (fun _=>[]) ?_ (fun k hk ho=>?_) (fun k hk ho hb=>?_) (fun hj=>?_)
 ·simp
 ·have hw:=br hk hl;have h1:gE l k=0:=by
   refine AQ fun h=>?_;unfold jS at ho;rw[if_pos h] at ho;exact h ho
  have h2:g k=true:=by
   unfold jS at ho;rw[if_neg (by simpa using h1)] at ho;cases h:g k with
   |true=>rfl
   |false=>rw[h] at ho;simp at ho
  simp[PX,D5,hk,hw];refine⟨_,aaI l k hk hl,?_⟩;simp[h1];refine⟨_,_,⟨rfl,rfl⟩,_,hg k hk,?_⟩;simp[h2,hw]
 ·simp[PX,D5,hk,hb];refine⟨_,aaI l k hk hl,?_⟩;unfold jS at ho ⊢;by_cases h1:gE l k=0
  ·simp[h1] at ho ⊢;refine⟨_,_,⟨rfl,rfl⟩,_,hg k hk,?_⟩;simp[ho]
  ·simp[h1]
 ·simp[PX,D5,hj]
theorem Pc (l:List Int)(a b:Int)(hl:l.length≤4294967296):ao T 99 [ints l,.int a,.int b] (.bool (rising l a b)):=by
 refine .of_tree rfl (lA 113 (by kernel_rfl)) apC ?_;simp[RB];refine fY l.length (nW l a b) (fun k=>[.bool false,.int k]) (fun _=>[]) ?_ (fun k hk ho=>?_) (fun k hk ho hb=>?_) (fun hj=>?_)
 ·simp
 ·have hw:=br hk hl;simp[nW,hk] at ho;simp[PF,DQ,hk,hw,ints];refine⟨_,cN _ _ _,?_⟩;by_cases gR:0<k
  ·have bt:k-1<l.length:=by omega
   have dg:IntKind.i64.wrap ((k:Int)-1)=((k-1:Nat):Int):=by rw[uT (by omega)];omega
   have eT:¬l[k]≤l[k-1]:=by
        rcases ho.2 with h3|h3
        ·omega
        ·simp[bt] at h3;omega
   simp[ho.1,hk,hw,dg,eT,gR,bt]
  ·simp[ho.1,hk,hw,gR];omega
 ·have hf:rising l a b=false:=hb;simp[nW,hk] at ho;simp[PF,DQ,hk,ints,hf];refine⟨_,cN _ _ _,?_⟩;cases h1:wi l[k] a b with
  |false=>simp
  |true=>
   have h3:=ho h1;have gR:0<k:=by omega
   have bt:k-1<l.length:=by omega
   have dg:IntKind.i64.wrap ((k:Int)-1)=((k-1:Nat):Int):=by rw[uT (by omega)];omega
   have eT:=h3.2;simp[bt] at eT;simp[hk,dg,eT,gR,bt]
 ·have hf:rising l a b=true:=hj;simp[PF,DQ,hf]
theorem QI (n:Int):n.tdiv 100=if 0≤n then n/100 else-((-n)/100):=by
 split
 ·rename_i h;exact ab4 h
 ·rename_i h;have e:n.tdiv 100=-((-n).tdiv 100):=by rw[Int.neg_tdiv,Int.neg_neg]
  rw[e,ab4 (by omega)]
theorem abC (n:Int):n.tmod 100=n-100*n.tdiv 100:=Int.tmod_def n 100
theorem abO {n:Int}(h:aN n):IntKind.i64.wrap (n.tdiv 100)=n.tdiv 100:=bV (by rw[QI];unfold aN at h;split<;>omega)
def ni (r:Realm)(c:City):Bool:=ei c.feasts.length (fun k=>wi ((c.feasts.getD k 0).tmod 100) 1 31)&&(decide (c.feasts.length≤60)&&decide (c.shut.length≤200)&&aD c.order r.orders.length&&aD c.currency r.currencies.length)&&
 (rising c.rest 0 6&&rising c.feasts 101 1231&&rising c.shut 0 100000)
theorem anE (r:Realm)(c:City)(h1:c.rest.length≤4294967296)(h2:c.feasts.length≤4294967296)(h3:c.shut.length≤4294967296):ao T 110 [ba r,kO c] (.bool (ni r c)):=by
 refine .of_tree rfl (lA 16 (by kernel_rfl)) apV ?_;simp[RV];refine fY c.feasts.length (fun k=>wi ((c.feasts.getD k 0).tmod 100) 1 31) (fun k=>[.bool false,.int k]) (fun _=>[]) ?_ (fun k hk ho=>?_) (fun k hk ho hb=>?_) (fun hj=>?_)
 ·simp
 ·have hw:=br hk h2;simp[wi,hk] at ho;have g1:¬(c.feasts[k].tmod 100<1):=by omega
  have g2:¬(31<c.feasts[k].tmod 100):=by omega
  simp[PW,D4,hk,hw,ints,g1,g2]
 ·have hf:ni r c=false:=by simp only[ni,hb,q6]
  simp[wi,hk] at ho;simp[PW,D4,hk,ints,hf];by_cases g1:c.feasts[k].tmod 100<1
  ·simp[g1]
  ·have g2:=ho (by omega);simp[g1,g2]
 ·simp[PW,D4];by_cases g1:(c.feasts.length:Int)≤60
  case neg=>
   have hf:ni r c=false:=by
        have eR:decide (c.feasts.length≤60)=false:=decide_eq_false (by omega);simp only[ni,eR,q6,xg]
   have eR:(60:Int)<c.feasts.length:=by omega
   simp[g1,eR,hf]
  by_cases g2:(c.shut.length:Int)≤200
  case neg=>
   have hf:ni r c=false:=by
        have eR:decide (c.shut.length≤200)=false:=decide_eq_false (by omega);simp only[ni,eR,q6,xg]
   have np:(200:Int)<c.shut.length:=by omega
   simp[g1,g2,np,hf]
  have eR:¬(60:Int)<c.feasts.length:=by omega
  have np:¬(200:Int)<c.shut.length:=by omega
  have hf:ni r c=(aD c.order r.orders.length&&aD c.currency r.currencies.length&&(rising c.rest 0 6&&rising c.feasts 101 1231&&rising c.shut 0 100000)):=by
   have e1:decide (c.feasts.length≤60)=true:=decide_eq_true (by omega);have e2:decide (c.shut.length≤200)=true:=decide_eq_true (by omega);simp only[ni,hj,e1,e2,xh]
  rw[hf];simp[g1,g2,eR,np];refine⟨_,fI _ _,?_⟩;simp;cases e1:aD c.order r.orders.length<;>simp;refine⟨_,fI _ _,?_⟩;simp;cases e2:aD c.currency r.currencies.length<;>simp;refine⟨_,Es _ _ _ h1,?_⟩;simp;cases e3:rising c.rest 0 6<;>simp;refine⟨_,Es _ _ _ h2,?_⟩;simp;cases e4:rising c.feasts 101 1231<;>simp;exact Es _ _ _ h3
def oB (r:Realm)(c:City):Bool:=(wi c.order 0 (r.orders.length-1)&&wi c.currency 0 (r.currencies.length-1)&&decide (c.feasts.length≤60)&&decide (c.shut.length≤200))&&
 ei c.feasts.length (fun k=>wi ((c.feasts.getD k 0).tdiv 100) 1 12&&wi ((c.feasts.getD k 0).tmod 100) 1 31)&&(rising c.rest 0 6&&rising c.feasts 0 2000&&rising c.shut 0 100000)
theorem qY (n:Nat)(h:n≤4294967296):IntKind.i64.wrap ((n:Int)-1)=(n:Int)-1:=bV (by omega)
theorem amZ (r:Realm)(c:City)(h1:c.rest.length≤4294967296)(h2:c.feasts.length≤4294967296)(h3:c.shut.length≤4294967296)(h4:r.orders.length≤4294967296)(h5:r.currencies.length≤4294967296)(hi:∀y,y∈c.feasts→aN y):
 ao T 79 [ba r,kO c] (.bool (oB r c)):=by
 refine .of_tree rfl (lA 111 (by kernel_rfl)) apA ?_;simp[Rz,qY _ h4,qY _ h5];refine⟨_,cN _ _ _,?_⟩;cases e1:wi c.order 0 (r.orders.length-1)
 case false=>simp[oB,e1]
 simp;refine⟨_,cN _ _ _,?_⟩;cases e2:wi c.currency 0 (r.currencies.length-1)
 case false=>simp[oB,e1,e2]
 by_cases g1:(c.feasts.length:Int)≤60
 case neg=>
  have hf:oB r c=false:=by
   have eR:decide (c.feasts.length≤60)=false:=decide_eq_false (by omega);simp only[oB,eR,q6,xg]
  have eR:(60:Int)<c.feasts.length:=by omega
  simp[eR,hf]
 by_cases g2:(c.shut.length:Int)≤200
 case neg=>
  have hf:oB r c=false:=by
   have eR:decide (c.shut.length≤200)=false:=decide_eq_false (by omega);simp only[oB,eR,q6,xg]
  have np:(200:Int)<c.shut.length:=by omega
  simp[np,hf]
 have eR:¬(60:Int)<c.feasts.length:=by omega
 have np:¬(200:Int)<c.shut.length:=by omega
 have hf:oB r c=(ei c.feasts.length (fun k=>wi ((c.feasts.getD k 0).tdiv 100) 1 12&&wi ((c.feasts.getD k 0).tmod 100) 1 31)&&(rising c.rest 0 6&&rising c.feasts 0 2000&&rising c.shut 0 100000)):=by
  have e3:decide (c.feasts.length≤60)=true:=decide_eq_true (by omega);have e4:decide (c.shut.length≤200)=true:=decide_eq_true (by omega);simp only[oB,e1,e2,e3,e4,xh]
 rw[hf];simp[eR,np];refine fY c.feasts.length (fun k=>wi ((c.feasts.getD k 0).tdiv 100) 1 12&&wi ((c.feasts.getD k 0).tmod 100) 1 31) (fun k=>[.bool false,.int k]) (fun _=>[]) ?_ (fun k hk ho=>?_) (fun k hk ho hb=>?_) (fun hj=>?_)
 ·simp
 ·have hw:=br hk h2;have hI:=hi _ (dA hk);have hq:IntKind.i64.wrap (c.feasts[k].tdiv 100)=c.feasts[k].tdiv 100:=abO hI;simp[hk] at ho;simp[PA,DN,hk,ints,hq];refine⟨_,cN _ _ _,?_⟩;simp[ho.1,hk];refine⟨_,cN _ _ _,?_⟩;simp[ho.2,hk,hw]
 ·have hI:=hi _ (dA hk);have hq:IntKind.i64.wrap (c.feasts[k].tdiv 100)=c.feasts[k].tdiv 100:=abO hI;simp[hk] at ho;simp only[aK] at hb;rw[hb];simp[PA,DN,hk,ints,hq];refine⟨_,cN _ _ _,?_⟩;cases e3:wi (c.feasts[k].tdiv 100) 1 12 with
  |false=>simp
  |true=>
   have:=ho e3;simp[hk];refine⟨_,cN _ _ _,?_⟩;simp[this]
 ·simp only[aK] at hj;rw[hj];simp[PA,DN];refine⟨_,Pc _ _ _ h1,?_⟩;simp;cases e3:rising c.rest 0 6<;>simp;refine⟨_,Pc _ _ _ h2,?_⟩;simp;cases e4:rising c.feasts 0 2000<;>simp;exact Pc _ _ _ h3
theorem adv (r:Realm)(c:City):oB r c=ni r c:=by
 rw[sP];have bD:∀(i:Int) (n:Nat),(wi i 0 (n-1)=true)↔(aD i n=true):=by intro i n;simp[wi,aD];omega
 simp only[oB,ni,ak,decide_eq_true_eq,bD,rising,xr,nW];constructor
 ·rintro⟨⟨⟨⟨⟨a1,a2⟩,a3⟩,a4⟩,a5⟩,⟨a6,a7⟩,a8⟩;refine⟨⟨fun k hk=>(a5 k hk).2,⟨⟨⟨a3,a4⟩,a1⟩,a2⟩⟩,⟨a6,fun k hk=>?_⟩,a8⟩;have h1:=a5 k hk;have h2:=a7 k hk;simp[wi,abC,QI] at h1 h2 ⊢;split at h1<;>omega
 ·rintro⟨⟨a5,⟨⟨⟨a3,a4⟩,a1⟩,a2⟩⟩,⟨a6,a7⟩,a8⟩;refine⟨⟨⟨⟨⟨a1,a2⟩,a3⟩,a4⟩,fun k hk=>?_⟩,⟨a6,fun k hk=>?_⟩,a8⟩
  ·have h1:=a5 k hk;have h2:=a7 k hk;simp[wi,abC,QI] at h1 h2 ⊢;split at h1<;>(try split)<;>omega
  ·have h2:=a7 k hk;simp[wi] at h2 ⊢;omega
end Rm
namespace Rm
open Go Go.Proofs Cx
theorem AF {α β:Type}(f:α→β){l:List α}{k:Nat}(h:k<l.length):(l.take (k+1)).map f=(l.take k).map f++[f l[k]]:=by
 rw[m9 h,rf];rfl
theorem mN (i:Int)(n:Nat):aD i n=wi i 0 ((n:Int)-1):=by
 rw[sP];simp[wi,aD];omega
def xw (o:Order):List Int:=o.choices.map (·.ask)
def A2 (o:Order):List Int:=o.rules.map (·.ask)
def pw (o:Order):Bool:=ei o.choices.length (fun k=>aD (o.choices.getD k default).by_ 5)&&(rising (xw o) 0 21&&rising (A2 o) 0 21)
theorem anH (o:Order)(h1:o.choices.length≤100000)(h2:o.rules.length≤100000):ao T 114 [jo o] (.bool (pw o)):=by
 refine .of_tree rfl (lA 21 (by kernel_rfl)) ap1 ?_;simp[R1];refine fY o.choices.length (fun k=>aD (o.choices.getD k default).by_ 5) (fun k=>[.bool false,.none,.int k]) (fun k=>[ints ((o.choices.take k).map (·.ask))]) ?_ (fun k hk ho=>?_) (fun k hk ho hb=>?_) (fun hj=>?_)
 ·simp[ints]
 ·have hw:=br hk (by omega);have hl:(o.choices.take k).length=k:=by rw[dR];omega
  simp[hk] at ho;rw[AF _ hk];simp[PZ,D7,hk,hw,ints,hl];refine⟨by omega,_,fI _ _,?_⟩;simp[ho,hw]
 ·have hf:pw o=false:=by simp only[pw,hb,q6]
  have hl:(o.choices.take k).length=k:=by rw[dR];omega
  simp[hk] at ho;simp[PZ,D7,hk,ints,hl,hf];refine⟨by omega,_,fI _ _,?_⟩;simp[ho]
 ·have hf:pw o=(rising (xw o) 0 21&&rising (A2 o) 0 21):=by simp only[pw,hj,xh]
  rw[hf];simp[PZ,D7];refine aT.forRounds o.rules.length (fun k=>[.none,.int k]) (fun k=>[ints ((o.rules.take k).map (·.ask))]) ?_ (fun k hk=>?_) ?_
  ·simp[ints]
  ·have hw:=br hk (by omega);have hl:(o.rules.take k).length=k:=by rw[dR];omega
   rw[AF _ hk];simp[aay,Jc,hk,hw,ints,hl];omega
  ·simp[aay,Jc];refine⟨_,Es (xw o) _ _ (by simp[xw];omega),?_⟩;simp;cases e1:rising (xw o) 0 21<;>simp;exact Es (A2 o) _ _ (by simp[A2];omega)
def wE (o:Order)(k:Nat):Bool:=wi (o.choices.getD k default).ask 0 21&&wi (o.choices.getD k default).by_ 0 4&&(k==0||decide ((o.choices.getD (k-1) default).ask<(o.choices.getD k default).ask))
def zV (o:Order)(k:Nat):Bool:=wi (o.rules.getD k default).ask 0 21&&(k==0||decide ((o.rules.getD (k-1) default).ask<(o.rules.getD k default).ask))
theorem amp (o:Order):(ei o.choices.length (wE o)&&ei o.rules.length (zV o))=pw o:=by
 rw[sP];simp only[pw,ak,rising,xr,xw,A2,gw];have g1:∀k,k<o.choices.length→(nW (o.choices.map (·.ask)) 0 21 k=true↔wi (o.choices.getD k default).ask 0 21=true∧(k=0∨(o.choices.getD (k-1) default).ask<(o.choices.getD k default).ask)):=by
  intro k hk;have bt:k-1<o.choices.length:=by omega
  simp[nW,hk,bt]
 have g2:∀k,k<o.rules.length→(nW (o.rules.map (·.ask)) 0 21 k=true↔wi (o.rules.getD k default).ask 0 21=true∧(k=0∨(o.rules.getD (k-1) default).ask<(o.rules.getD k default).ask)):=by
  intro k hk;have bt:k-1<o.rules.length:=by omega
  simp[nW,hk,bt]
 constructor
 ·rintro⟨a,b⟩;refine⟨fun k hk=>?_,fun k hk=>(g1 k hk).2 ?_,fun k hk=>(g2 k hk).2 ?_⟩
  ·have:=a k hk;simp[wE,wi,aD] at this ⊢;omega
  ·have:=a k hk;simp[wE] at this ⊢;exact⟨this.1.1,this.2⟩
  ·have:=b k hk;simp[zV] at this ⊢;exact this
 ·rintro⟨c,a,b⟩;refine⟨fun k hk=>?_,fun k hk=>?_⟩
  ·have h1:=(g1 k hk).1 (a k hk);have h2:=c k hk;simp[wE,wi,aD] at h1 h2 ⊢;omega
  ·have h1:=(g2 k hk).1 (b k hk);simp[zV] at h1 ⊢;exact h1
theorem am0 (o:Order)(h1:o.choices.length≤100000)(h2:o.rules.length≤100000):ao T 80 [jo o] (.bool (pw o)):=by
 rw[←amp];refine .of_tree rfl (lA 116 (by kernel_rfl)) apB ?_;simp[RA];refine fY o.choices.length (wE o) (fun k=>[.bool false,.int k]) (fun _=>[]) ?_ (fun k hk ho=>?_) (fun k hk ho hb=>?_) (fun hj=>?_)
 ·simp
 ·have hw:=br hk (by omega);simp[wE,hk] at ho;simp[PB,DO,hk];refine⟨_,cN _ _ _,?_⟩;simp[ho.1.1,hk];refine⟨_,cN _ _ _,?_⟩;by_cases gR:0<k
  ·have bt:k-1<o.choices.length:=by omega
   have dg:IntKind.i64.wrap ((k:Int)-1)=((k-1:Nat):Int):=by rw[uT (by omega)];omega
   have h3:¬o.choices[k].ask≤o.choices[k-1].ask:=by
        rcases ho.2 with h3|h3
        ·omega
        ·simp[bt] at h3;omega
   simp[ho.1.2,hk,hw,dg,h3,gR,bt]
  ·simp[ho.1.2,hk,hw,gR];omega
 ·rw[hb];simp[wE,hk] at ho;simp[PB,DO,hk];refine⟨_,cN _ _ _,?_⟩;cases e1:wi o.choices[k].ask 0 21 with
  |false=>simp
  |true=>
   simp[hk];refine⟨_,cN _ _ _,?_⟩;cases e2:wi o.choices[k].by_ 0 4 with
   |false=>simp
   |true=>
    have h3:=ho e1 e2;have gR:0<k:=by omega
    have bt:k-1<o.choices.length:=by omega
    have dg:IntKind.i64.wrap ((k:Int)-1)=((k-1:Nat):Int):=by rw[uT (by omega)];omega
    have eT:=h3.2;simp[bt] at eT;simp[hk,dg,eT,gR,bt]
 ·rw[hj];simp[PB,DO];refine fY o.rules.length (zV o) (fun k=>[.bool false,.int k]) (fun _=>[]) ?_ (fun k hk ho=>?_) (fun k hk ho hb=>?_) (fun hj=>?_)
  ·simp
  ·have hw:=br hk (by omega);simp[zV,hk] at ho;simp[PD,DP,hk];refine⟨_,cN _ _ _,?_⟩;by_cases gR:0<k
   ·have bt:k-1<o.rules.length:=by omega
    have dg:IntKind.i64.wrap ((k:Int)-1)=((k-1:Nat):Int):=by rw[uT (by omega)];omega
    have h3:¬o.rules[k].ask≤o.rules[k-1].ask:=by
       rcases ho.2 with h3|h3
       ·omega
       ·simp[bt] at h3;omega
    simp[ho.1,hk,hw,dg,h3,gR,bt]
   ·simp[ho.1,hk,hw,gR];omega
  ·rw[hb];simp[zV,hk] at ho;simp[PD,DP,hk];refine⟨_,cN _ _ _,?_⟩;cases e1:wi o.rules[k].ask 0 21 with
   |false=>simp
   |true=>
    have h3:=ho e1;have gR:0<k:=by omega
    have bt:k-1<o.rules.length:=by omega
    have dg:IntKind.i64.wrap ((k:Int)-1)=((k-1:Nat):Int):=by rw[uT (by omega)];omega
    have eT:=h3.2;simp[bt] at eT;simp[hk,dg,eT,gR,bt]
  ·rw[hj];simp[PD,DP]
def fa (r:Realm):List ByteArray:=r.cities.map (·.name)
def fb (r:Realm):List ByteArray:=r.firms.map (·.name)
def eC (r:Realm):List ByteArray:=r.orders.map (·.name)
theorem anG (r:Realm)(h1:r.cities.length≤100000)(h2:r.firms.length≤100000)(h3:r.orders.length≤100000):ao T 106 [ba r] (.tup [strs (fa r),strs (fb r),strs (eC r)]):=by
 refine .of_tree rfl (lA 8 (by kernel_rfl)) ap0 ?_;simp[R0];refine aT.forRounds r.cities.length (fun k=>[.none,.int k]) (fun k=>[strs ((r.cities.take k).map (·.name))]) ?_ (fun k hk=>?_) ?_
 ·simp[strs]
 ·have hw:=br hk (by omega);have hl:(r.cities.take k).length=k:=by rw[dR];omega
  rw[AF _ hk];simp[aav,I9,hk,hw,strs,hl];omega
 ·simp[aav,I9];refine aT.forRounds r.firms.length (fun k=>[.none,.int k]) (fun k=>[strs ((r.firms.take k).map (·.name))]) ?_ (fun k hk=>?_) ?_
  ·simp[strs]
  ·have hw:=br hk (by omega);have hl:(r.firms.take k).length=k:=by rw[dR];omega
   rw[AF _ hk];simp[aaw,Ja,hk,hw,strs,hl];omega
  ·simp[aaw,Ja];refine aT.forRounds r.orders.length (fun k=>[.none,.int k]) (fun k=>[strs ((r.orders.take k).map (·.name))]) ?_ (fun k hk=>?_) ?_
   ·simp[strs]
   ·have hw:=br hk (by omega);have hl:(r.orders.take k).length=k:=by rw[dR];omega
    rw[AF _ hk];simp[aax,Jb,hk,hw,strs,hl];omega
   ·simp[aax,Jb,fa,fb,eC]
end Rm
namespace Rm
open Go Go.Proofs Cx
structure Small (r:Realm):Prop where
 cur:r.currencies.length≤1000
 cities:r.cities.length≤1000
 groups:r.groups.length≤1000
 firms:r.firms.length≤1000
 orders:r.orders.length≤1000
 us:r.usances.length≤1000
 rates:r.rates.length≤1000
 halts:r.halts.length≤1000
 city:∀c,c∈r.cities→c.rest.length≤1000∧c.feasts.length≤1000∧c.shut.length≤1000∧∀y,y∈c.feasts→aN y
 order:∀o,o∈r.orders→o.choices.length≤1000∧o.rules.length≤1000
 rate:∀x,x∈r.rates→aN x.num∧aN x.den
def lx (r:Realm)(k j:Nat):Bool:=(r.usances.getD j default).fr !=(r.usances.getD k default).fr||(r.usances.getD j default).to !=(r.usances.getD k default).to
def xb (r:Realm)(k:Nat):Int:=
 if(aD (r.usances.getD k default).fr r.cities.length&&aD (r.usances.getD k default).to r.cities.length&&wi (r.usances.getD k default).days 1 20000)=false then 1 else if ei k (lx r k) then 0 else 5
def uQ (r:Realm):Int:=if 100<r.usances.length then 6 else fq r.usances.length (xb r)
theorem anJ (r:Realm)(h:Small r):ao T 115 [ba r] (.int (uQ r)):=by
 refine .of_tree rfl (lA 22 (by kernel_rfl)) ap4 ?_;have hu:=h.us;simp[R4,uQ];by_cases h0:100<r.usances.length
 ·have fL:(100:Int)<r.usances.length:=by omega
  have vB:¬r.usances.length≤100:=by omega
  simp[h0,fL,vB]
 have fL:¬(100:Int)<r.usances.length:=by omega
 simp[h0,fL];refine nY r.usances.length (xb r) (fun k=>[.int 0,.int k]) (fun _=>[]) ?_ (fun k hk ho=>?_) (fun k hk ho hb=>?_) (fun hj=>?_)
 ·simp
 ·have hw:=br hk (by omega);have ha:aD r.usances[k].fr r.cities.length=true∧aD r.usances[k].to r.cities.length=true∧wi r.usances[k].days 1 20000=true∧ei k (lx r k)=true:=by
   unfold xb at ho;simp only[aK,bA hk,jj] at ho;cases e1:aD r.usances[k].fr r.cities.length<;>cases e2:aD r.usances[k].to r.cities.length<;>cases e3:wi r.usances[k].days 1 20000<;>cases e4:ei k (lx r k)<;>simp[e1,e2,e3,e4] at ho ⊢
  obtain⟨a1,a2,a3,a4⟩:=ha;simp[wi] at a3;have a5:¬r.usances[k].days<1:=by omega
  have a6:¬20000<r.usances[k].days:=by omega
  simp[P2,Ea,hk];refine⟨_,fI _ _,?_⟩;simp[a1];refine⟨_,fI _ _,?_⟩;simp[a2,a5,a6];refine⟨by omega,fY k (lx r k) (fun j=>[.int 0,.int j]) (fun _=>[]) ?_ (fun j hj ej=>?_) (fun j hj ej cY=>?_) (fun qk=>?_)⟩
  ·simp
  ·have v5:=br hj (by omega);have cE:j<r.usances.length:=by omega
   have hm:j<min k r.usances.length:=by omega
   simp[lx,cE,hk] at ej;simp[Jd,As,hj,cE,hk,v5,hm];intro e e';rcases ej with h|h
   ·exact absurd e h
   ·exact absurd e' h
  ·rw[a4] at cY;cases cY
  ·simp[Jd,As,hw];omega
 ·simp[P2,Ea,hk,hb];refine⟨_,fI _ _,?_⟩;unfold xb at ho ⊢;simp only[aK,bA hk,jj] at ho ⊢;cases e1:aD r.usances[k].fr r.cities.length
  ·simp
  simp;refine⟨_,fI _ _,?_⟩;cases e2:aD r.usances[k].to r.cities.length
  ·simp
  cases e3:wi r.usances[k].days 1 20000
  ·simp[wi] at e3;by_cases g:r.usances[k].days<1
   ·simp[g]
   ·simp[g,e3 (by omega)]
  have Lm:=e3;simp[wi] at Lm;have a5:¬r.usances[k].days<1:=by omega
  have a6:¬20000<r.usances[k].days:=by omega
  simp[e1,e2,e3] at ho;simp[a5,a6];refine⟨by omega,fY k (lx r k) (fun j=>[.int 0,.int j]) (fun _=>[]) ?_ (fun j hj ej=>?_) (fun j hj ej cY=>?_) (fun qk=>?_)⟩
  ·simp
  ·have v5:=br hj (by omega);have cE:j<r.usances.length:=by omega
   have hm:j<min k r.usances.length:=by omega
   simp[lx,cE,hk] at ej;simp[Jd,As,hj,cE,hk,v5,hm];intro e e';rcases ej with h|h
   ·exact absurd e h
   ·exact absurd e' h
  ·have cE:j<r.usances.length:=by omega
   have hm:j<min k r.usances.length:=by omega
   simp[lx,cE,hk] at ej;simp[Jd,As,hj,cE,hk,ho,hm]
   first|exact ej|simp[ej]
  ·rw[qk] at ho;cases ho
 ·simp[P2,Ea,hj]
theorem am5 (r:Realm)(h:Small r):ao T 54 [ba r] (.int (uQ r)):=by
 refine .of_tree rfl (lA 117 (by kernel_rfl)) apJ ?_;have hu:=h.us;have hc:=h.cities;simp[RJ,uQ];by_cases h0:100<r.usances.length
 ·have fL:(100:Int)<r.usances.length:=by omega
  have vB:¬r.usances.length≤100:=by omega
  simp[h0,fL,vB]
 have fL:¬(100:Int)<r.usances.length:=by omega
 simp[h0,fL];refine nY r.usances.length (xb r) (fun k=>[.int 0,.int k]) (fun _=>[]) ?_ (fun k hk ho=>?_) (fun k hk ho hb=>?_) (fun hj=>?_)
 ·simp
 ·have hw:=br hk (by omega);have ha:aD r.usances[k].fr r.cities.length=true∧aD r.usances[k].to r.cities.length=true∧wi r.usances[k].days 1 20000=true∧ei k (lx r k)=true:=by
   unfold xb at ho;simp only[aK,bA hk,jj] at ho;cases e1:aD r.usances[k].fr r.cities.length<;>cases e2:aD r.usances[k].to r.cities.length<;>cases e3:wi r.usances[k].days 1 20000<;>cases e4:ei k (lx r k)<;>simp[e1,e2,e3,e4] at ho ⊢
  obtain⟨a1,a2,a3,a4⟩:=ha;rw[mN] at a1 a2;simp[PO,DY,hk,qY _ (show r.cities.length≤4294967296 by omega)];refine⟨_,cN _ _ _,?_⟩;simp[a1,qY _ (show r.cities.length≤4294967296 by omega)];refine⟨_,cN _ _ _,?_⟩;simp[a2];refine⟨_,cN _ _ _,?_⟩;simp[a3];refine fY k (lx r k) (fun j=>[.int 0,.int j]) (fun _=>[]) ?_ (fun j hj ej=>?_) (fun j hj ej cY=>?_) (fun qk=>?_)
  ·simp
  ·have v5:=br hj (by omega);have cE:j<r.usances.length:=by omega
   simp[lx,cE,hk] at ej;simp[I8,Aq,hj,cE,hk,v5];intro e e';rcases ej with h|h
   ·exact absurd e h
   ·exact absurd e' h
  ·rw[a4] at cY;cases cY
  ·simp[I8,Aq,hw]
 ·simp[PO,DY,hk,hb,qY _ (show r.cities.length≤4294967296 by omega)];refine⟨_,cN _ _ _,?_⟩;unfold xb at ho ⊢;simp only[aK,bA hk,jj,mN] at ho ⊢;cases e1:wi r.usances[k].fr 0 ((r.cities.length:Int)-1)
  ·simp
  simp[qY _ (show r.cities.length≤4294967296 by omega)];refine⟨_,cN _ _ _,?_⟩;cases e2:wi r.usances[k].to 0 ((r.cities.length:Int)-1)
  ·simp
  simp;refine⟨_,cN _ _ _,?_⟩;cases e3:wi r.usances[k].days 1 20000
  ·simp
  simp[e1,e2,e3] at ho;simp;refine fY k (lx r k) (fun j=>[.int 0,.int j]) (fun _=>[]) ?_ (fun j hj ej=>?_) (fun j hj ej cY=>?_) (fun qk=>?_)
  ·simp
  ·have v5:=br hj (by omega);have cE:j<r.usances.length:=by omega
   simp[lx,cE,hk] at ej;simp[I8,Aq,hj,cE,hk,v5];intro e e';rcases ej with h|h
   ·exact absurd e h
   ·exact absurd e' h
  ·have cE:j<r.usances.length:=by omega
   simp[lx,cE,hk] at ej;simp[I8,Aq,hj,cE,hk,ho]
   first|exact ej|simp[ej]
  ·rw[qk] at ho;cases ho
 ·simp[PO,DY,hj]
def wU (r:Realm)(k:Nat):Bool:=aD (r.rates.getD k default).fr r.currencies.length&&aD (r.rates.getD k default).to r.currencies.length&&((r.rates.getD k default).fr !=(r.rates.getD k default).to)&&
 wi (r.rates.getD k default).num 1 1073741824&&wi (r.rates.getD k default).den 1 1073741824&&wi (r.rates.getD k default).since 0 100000
def tD (r:Realm)(k:Nat):Bool:=aD (r.halts.getD k default).order r.orders.length&&wi (r.halts.getD k default).fr 0 (r.halts.getD k default).to&&decide ((r.halts.getD k default).to≤100000)
def nV (r:Realm):Int:=if 100<r.rates.length then 6 else if ei r.rates.length (wU r)=false then 1 else if 20<r.halts.length then 6 else if ei r.halts.length (tD r) then 0 else 1
theorem HN {n:Int}(h:aN n)(m:Int)(hm:0≤m∧m≤4294967296):aD (IntKind.i64.wrap (n-1)) m=wi n 1 m:=by
 unfold aN at h;by_cases e:n=-9223372036854775808
 ·subst e;have:IntKind.i64.wrap (-9223372036854775808-1)=9223372036854775807:=by decide
  rw[this,sP];simp[aD,wi];omega
 ·rw[bV (by omega),sP];simp[aD,wi];omega
theorem WK (n:Int):aD n 100001=wi n 0 100000:=by rw[sP];simp[aD,wi];omega
theorem anI (r:Realm)(h:Small r):ao T 116 [ba r] (.int (nV r)):=by
 refine .of_tree rfl (lA 23 (by kernel_rfl)) ap2 ?_;have hu:=h.rates;have hh:=h.halts;simp[R2,nV];by_cases h0:100<r.rates.length
 ·have fL:(100:Int)<r.rates.length:=by omega
  have vB:¬r.rates.length≤100:=by omega
  simp[h0,fL,vB]
 have fL:¬(100:Int)<r.rates.length:=by omega
 simp[h0,fL];have key:∀k (hk:k<r.rates.length),∀{ρ:Env} {Q:Out→Prop},True:=fun _ _ _ _=>trivial;refine fY r.rates.length (wU r) (fun k=>[.int 0,.int k]) (fun _=>[]) ?_ (fun k hk ho=>?_) (fun k hk ho hb=>?_) (fun hj=>?_)
 ·simp
 ·have hw:=br hk (by omega);have hI:=h.rate _ (dA hk);simp[wU,hk] at ho;obtain⟨⟨⟨⟨⟨a1,a2⟩,a3⟩,a4⟩,a5⟩,a6⟩:=ho;simp[P0,D8,hk];refine⟨_,fI _ _,?_⟩;simp[a1];refine⟨_,fI _ _,?_⟩;simp[a2,a3];refine⟨_,fI _ _,?_⟩;simp[HN hI.1,a4];refine⟨_,fI _ _,?_⟩;simp[HN hI.2,a5];refine⟨_,fI _ _,?_⟩;simp[WK,a6,hw]
 ·have hI:=h.rate _ (dA hk);rw[hb];simp[wU,hk] at ho;simp[P0,D8,hk];refine⟨_,fI _ _,?_⟩;cases e1:aD r.rates[k].fr r.currencies.length
  ·simp
  simp;refine⟨_,fI _ _,?_⟩;cases e2:aD r.rates[k].to r.currencies.length
  ·simp
  by_cases e3:r.rates[k].fr=r.rates[k].to
  ·simp[e3]
  simp[e3];refine⟨_,fI _ _,?_⟩;rw[HN hI.1 _ (by omega)];cases e4:wi r.rates[k].num 1 1073741824
  ·simp
  simp;refine⟨_,fI _ _,?_⟩;rw[HN hI.2 _ (by omega)];cases e5:wi r.rates[k].den 1 1073741824
  ·simp
  simp;refine⟨_,fI _ _,?_⟩;rw[WK];simp[ho e1 e2 e3 e4 e5]
 ·rw[hj];simp[P0,D8];by_cases h1:20<r.halts.length
  ·have cK:(20:Int)<r.halts.length:=by omega
   have LQ:¬r.halts.length≤20:=by omega
   simp[h1,cK,LQ]
  have cK:¬(20:Int)<r.halts.length:=by omega
  simp[h1,cK];refine fY r.halts.length (tD r) (fun k=>[.int 0,.int k]) (fun _=>[]) ?_ (fun k hk ho=>?_) (fun k hk ho hb=>?_) (fun hj=>?_)
  ·simp
  ·have hw:=br hk (by omega);simp[tD,wi,hk] at ho;obtain⟨⟨a1,a2⟩,a3⟩:=ho;have b1:¬r.halts[k].fr<0:=by omega
   have b2:¬r.halts[k].to<r.halts[k].fr:=by omega
   have b3:¬100000<r.halts[k].to:=by omega
   simp[P1,D9,hk];refine⟨_,fI _ _,?_⟩;simp[a1,b1,b2,b3,hw]
  ·rw[hb];simp[tD,wi,hk] at ho;simp[P1,D9,hk];refine⟨_,fI _ _,?_⟩;cases e1:aD r.halts[k].order r.orders.length
   ·simp
   have:=ho e1;by_cases b1:r.halts[k].fr<0
   ·simp[b1]
   by_cases b2:r.halts[k].to<r.halts[k].fr
   ·simp[b1,b2]
   have b3:100000<r.halts[k].to:=this (by omega) (by omega);simp[b1,b2,b3]
  ·rw[hj];simp[P1,D9]
theorem am4 (r:Realm)(h:Small r):ao T 55 [ba r] (.int (nV r)):=by
 refine .of_tree rfl (lA 118 (by kernel_rfl)) apI ?_;have hu:=h.rates;have hh:=h.halts;have hc:=qY r.currencies.length (by have:=h.cur;omega);have HC:=qY r.orders.length (by have:=h.orders;omega);simp[RI,nV];by_cases h0:100<r.rates.length
 ·have fL:(100:Int)<r.rates.length:=by omega
  have vB:¬r.rates.length≤100:=by omega
  simp[h0,fL,vB]
 have fL:¬(100:Int)<r.rates.length:=by omega
 simp[h0,fL];refine fY r.rates.length (wU r) (fun k=>[.int 0,.int k]) (fun _=>[]) ?_ (fun k hk ho=>?_) (fun k hk ho hb=>?_) (fun hj=>?_)
 ·simp
 ·have hw:=br hk (by omega);simp[wU,hk,mN] at ho;obtain⟨⟨⟨⟨⟨a1,a2⟩,a3⟩,a4⟩,a5⟩,a6⟩:=ho;simp[PM,DW,hk,hc];refine⟨_,cN _ _ _,?_⟩;simp[a1,hc];refine⟨_,cN _ _ _,?_⟩;simp[a2,a3];refine⟨_,cN _ _ _,?_⟩;simp[a4];refine⟨_,cN _ _ _,?_⟩;simp[a5];refine⟨_,cN _ _ _,?_⟩;simp[a6,hw]
 ·rw[hb];simp[wU,hk,mN] at ho;simp[PM,DW,hk,hc];refine⟨_,cN _ _ _,?_⟩;cases e1:wi r.rates[k].fr 0 ((r.currencies.length:Int)-1)
  ·simp
  simp[hc];refine⟨_,cN _ _ _,?_⟩;cases e2:wi r.rates[k].to 0 ((r.currencies.length:Int)-1)
  ·simp
  by_cases e3:r.rates[k].fr=r.rates[k].to
  ·simp[e3]
  simp[e3];refine⟨_,cN _ _ _,?_⟩;cases e4:wi r.rates[k].num 1 1073741824
  ·simp
  simp;refine⟨_,cN _ _ _,?_⟩;cases e5:wi r.rates[k].den 1 1073741824
  ·simp
  simp;refine⟨_,cN _ _ _,?_⟩;simp[ho e1 e2 e3 e4 e5]
 ·rw[hj];simp[PM,DW];by_cases h1:20<r.halts.length
  ·have cK:(20:Int)<r.halts.length:=by omega
   have LQ:¬r.halts.length≤20:=by omega
   simp[h1,cK,LQ]
  have cK:¬(20:Int)<r.halts.length:=by omega
  simp[h1,cK];refine fY r.halts.length (tD r) (fun k=>[.int 0,.int k]) (fun _=>[]) ?_ (fun k hk ho=>?_) (fun k hk ho hb=>?_) (fun hj=>?_)
  ·simp
  ·have hw:=br hk (by omega);simp[tD,hk,mN] at ho;obtain⟨⟨a1,a2⟩,a3⟩:=ho;have b3:¬100000<r.halts[k].to:=by omega
   simp[PN,DX,hk,HC];refine⟨_,cN _ _ _,?_⟩;simp[a1];refine⟨_,cN _ _ _,?_⟩;simp[a2,b3,hw]
  ·rw[hb];simp[tD,hk,mN] at ho;simp[PN,DX,hk,HC];refine⟨_,cN _ _ _,?_⟩;cases e1:wi r.halts[k].order 0 ((r.orders.length:Int)-1)
   ·simp
   simp;refine⟨_,cN _ _ _,?_⟩;cases e2:wi r.halts[k].fr 0 r.halts[k].to
   ·simp
   simp[ho e1 e2]
  ·rw[hj];simp[PN,DX]
end Rm
namespace Rm
open Go Go.Proofs Cx
def eJ:List Int→Int
 |[]=>0
 |x::l=>if x=0 then eJ l else x
theorem Qy:∀{l:List Int},eJ l=0↔∀x,x∈l→x=0
 |[]=>by simp[eJ]
 |x::l=>by
  simp only[eJ,cD,forall_eq_or_imp];by_cases h:x=0
  ·simp[h,Qy (l:=l)]
  ·simp[h]
def oL (r:Realm)(i:Nat):Bool:=aD (r.firms.getD i default).city r.cities.length&&aD (r.firms.getD i default).group r.groups.length
def oA (r:Realm)(i:Nat):Bool:=ni r (r.cities.getD i default)
def mU (r:Realm)(i:Nat):Bool:=pw (r.orders.getD i default)
def vA (r:Realm)(i:Nat):Bool:=aD (r.groups.getD i default).grade 10
def tB (r:Realm):Int:=if 20<r.groups.length then 6 else if ei r.groups.length (vA r) then 0 else 1
def lK (r:Realm):Int:=eJ [eF r.currencies 8 (fun _=>true),eF (fa r) 40 (oA r),tB r,eF (fb r) 200 (oL r),eF (eC r) 20 (mU r),uQ r,nV r]
theorem adl (i:Int):ao T 108 [.int i] (.bool true):=by
 refine .of_tree rfl (lA 14 (by kernel_rfl)) apO ?_;simp[RP]
theorem adm (r:Realm)(h:Small r)(i:Nat)(hi:i<r.cities.length):ao T 109 [.int i,.ref (ba r)] (.bool (oA r i)):=by
 refine .of_tree rfl (lA 15 (by kernel_rfl)) apP ?_;obtain⟨h1,h2,h3,h4⟩:=h.city _ (dA hi);simp[RQ,hi,oA];exact anE r r.cities[i] (by omega) (by omega) (by omega)
theorem adn (r:Realm)(i:Nat)(hi:i<r.firms.length):ao T 112 [.int i,.ref (ba r)] (.bool (oL r i)):=by
 refine .of_tree rfl (lA 19 (by kernel_rfl)) apQ ?_;simp[RR,hi,oL];refine⟨_,fI _ _,?_⟩;simp[hi];cases e1:aD r.firms[i].city r.cities.length<;>simp;exact fI _ _
theorem ado (r:Realm)(h:Small r)(i:Nat)(hi:i<r.orders.length):ao T 113 [.int i,.ref (ba r)] (.bool (mU r i)):=by
 refine .of_tree rfl (lA 20 (by kernel_rfl)) apR ?_;obtain⟨h1,h2⟩:=h.order _ (dA hi);simp[RS,hi,mU];exact anH r.orders[i] (by omega) (by omega)
theorem anD (r:Realm)(h:Small r):ao T 85 [ba r] (.int (lK r)):=by
 refine .of_tree rfl (lA 7 (by kernel_rfl)) apS ?_;have g1:=h.cur;have g2:=h.cities;have g3:=h.firms;have g4:=h.orders;have g5:=h.groups;simp[RO];refine⟨_,anG r (by omega) (by omega) (by omega),?_⟩;simp;refine⟨_,Jj r.currencies 8 108 [] (fun _=>true) (fun i _=>adl _) (by omega),?_⟩;unfold lK;generalize e1:eF r.currencies 8 (fun _=>true)=x1;by_cases z1:x1=0
 case neg=>simp[z1,eJ]
 simp[z1,eJ];refine⟨_,Jj (fa r) 40 109 [.ref (ba r)] (oA r) (fun i hi=>adm r h i (by simpa [fa] using hi)) (by simp[fa];omega),?_⟩;generalize e2:eF (fa r) 40 (oA r)=x2;by_cases z2:x2=0
 case neg=>simp[z2]
 simp[z2];by_cases z3:20<r.groups.length
 ·have Te:(20:Int)<r.groups.length:=by omega
  simp[Te,tB,z3]
 have Te:¬(20:Int)<r.groups.length:=by omega
 simp[Te,tB,z3];refine fY r.groups.length (vA r) (fun k=>[.int 0,.int k]) (fun _=>[]) ?_ (fun k hk ho=>?_) (fun k hk ho hb=>?_) (fun hj=>?_)
 ·simp
 ·have hw:=br hk (by omega);simp[vA,hk] at ho;simp[PU,D2,hk];refine⟨_,fI _ _,?_⟩;simp[ho,hw]
 ·simp[vA,hk] at ho;rw[hb];simp[PU,D2,hk];refine⟨_,fI _ _,?_⟩;simp[ho]
 ·rw[hj];simp[PU,D2];refine⟨_,Jj (fb r) 200 112 [.ref (ba r)] (oL r) (fun i hi=>adn r i (by simpa [fb] using hi)) (by simp[fb];omega),?_⟩;generalize e4:eF (fb r) 200 (oL r)=x4;by_cases z4:x4=0
  case neg=>simp[z4]
  simp[z4];refine⟨_,Jj (eC r) 20 113 [.ref (ba r)] (mU r) (fun i hi=>ado r h i (by simpa [eC] using hi)) (by simp[eC];omega),?_⟩;generalize e5:eF (eC r) 20 (mU r)=x5;by_cases z5:x5=0
  case neg=>simp[z5]
  simp[z5];refine⟨_,anJ r h,?_⟩;generalize e6:uQ r=x6;by_cases z6:x6=0
  case neg=>simp[z6]
  simp[z6];have e7:(if nV r=0 then 0 else nV r)=nV r:=by split<;>simp_all
  rw[e7];exact anI r h
theorem ae9 (l:List ByteArray)(k:Nat):jS l (fun _=>true) k=gE l k:=by
 unfold jS;by_cases h:gE l k=0<;>simp[h]
theorem BQ {l:List ByteArray}{g:Nat→Bool}{k:Nat}(h:jS l g k=0):gE l k=0∧g k=true:=by
 unfold jS at h;by_cases h1:gE l k=0
 ·simp[h1] at h;exact⟨h1,h⟩
 ·simp[h1] at h
theorem LH {l:List ByteArray}{g:Nat→Bool}{k:Nat}(h:jS l g k≠0):(gE l k≠0∧jS l g k=gE l k)∨(gE l k=0∧g k=false∧jS l g k=1):=by
 unfold jS at h ⊢;by_cases h1:gE l k=0
 ·simp[h1] at h ⊢;simp[h]
 ·simp[h1]
theorem am1 (r:Realm)(h:Small r):ao T 51 [ba r] (.int (eJ [eF r.currencies 8 (fun _=>true),eF (fa r) 40 (oA r)])):=by
 refine .of_tree rfl (lA 106 (by kernel_rfl)) apE ?_;have g1:=h.cur;have g2:=h.cities;have g4:=h.orders;simp[RE];unfold eF;by_cases z1:(8:Int)<r.currencies.length
 ·simp[z1,eJ]
 simp[z1,eJ];refine nY r.currencies.length (jS r.currencies (fun _=>true)) (fun k=>[.int 0,.int k]) (fun _=>[]) ?_ (fun k hk ho=>?_) (fun k hk ho hb=>?_) (fun hj=>?_)
 ·simp
 ·have hw:=br hk (by omega);simp[PG,DR,hk];refine⟨_,DB _ k hk (by omega),?_⟩;simp[(BQ ho).1,hw]
 ·rw[hb];simp[PG,DR,hk,ho];rw[ae9];exact DB _ k hk (by omega)
 ·rw[hj];simp[PG,DR];have hlen:(fa r).length=r.cities.length:=by simp[fa]
  rw[hlen];by_cases z2:(40:Int)<r.cities.length
  ·simp[z2]
  simp[z2];have key:∀k (hk:k<r.cities.length),((fa r).take k).length=k∧D.list (List.take k (List.map str (fa r))++[str r.cities[k].name])=strs ((fa r).take (k+1))∧
     ao T 78 [strs ((fa r).take (k+1)),.int k] (.int (gE (fa r) k))∧ao T 79 [ba r,kO r.cities[k]] (.bool (oA r k)):=by
   intro k hk;have bn:k<(fa r).length:=by omega
   have hg:(fa r)[k]=r.cities[k].name:=by simp[fa]
   have hs:(fa r).take (k+1)=(fa r).take k++[(fa r)[k]]:=m9 bn;have hn:=DB ((fa r).take (k+1)) k (by rw[dR];omega) (by rw[dR];omega);rw[NR _ _ _ (by omega)] at hn;obtain⟨c1,c2,c3,c4⟩:=h.city _ (dA hk);have hc:=amZ r r.cities[k] (by omega) (by omega) (by omega) (by omega) (by omega) c4;rw[adv] at hc;exact⟨by rw[dR];omega,by rw[hs,hg];simp[strs],hn,by simpa [oA,hk] using hc⟩
  refine nY r.cities.length (jS (fa r) (oA r)) (fun k=>[.int 0,.none,.int k]) (fun k=>[strs ((fa r).take k)]) ?_ (fun k hk ho=>?_) (fun k hk ho hb=>?_) (fun hj=>?_)
  ·simp[strs]
  ·have hw:=br hk (by omega);obtain⟨hl,er,hn,hc⟩:=key k hk;obtain⟨o1,o2⟩:=BQ ho;rw[o1] at hn;rw[o2] at hc;simp[PH,DS,hk,hl,er,aot];refine⟨by omega,_,hn,?_⟩;simp[hk];refine⟨_,hc,?_⟩;simp[hw]
  ·rw[hb];obtain⟨hl,er,hn,hc⟩:=key k hk;simp[PH,DS,hk,hl,er,ho];refine⟨by omega,_,hn,?_⟩;rcases LH ho with⟨o1,o2⟩|⟨o1,o2,o3⟩
   ·simp[o1,o2]
   ·rw[o2] at hc;simp[o1,o3,hk];refine⟨_,hc,?_⟩;simp
  ·rw[hj];simp[PH,DS]
theorem am2 (r:Realm)(h:Small r):ao T 52 [ba r] (.int (eJ [tB r,eF (fb r) 200 (oL r)])):=by
 refine .of_tree rfl (lA 114 (by kernel_rfl)) apF ?_;have g1:=h.groups;have g2:=h.firms;have g3:=h.cities;have w3:=qY r.cities.length (by omega);have w1:=qY r.groups.length (by omega);simp[RF];by_cases z1:20<r.groups.length
 ·have Td:(20:Int)<r.groups.length:=by omega
  simp[Td,tB,z1,eJ]
 have Td:¬(20:Int)<r.groups.length:=by omega
 simp[Td,tB,z1,eJ];refine fY r.groups.length (vA r) (fun k=>[.int 0,.int k]) (fun _=>[]) ?_ (fun k hk ho=>?_) (fun k hk ho hb=>?_) (fun hj=>?_)
 ·simp
 ·have hw:=br hk (by omega);simp[vA,hk] at ho;have e:wi r.groups[k].grade 0 9=aD r.groups[k].grade 10:=by rw[sP];simp[wi,aD];omega
  simp[PJ,DT,hk];refine⟨_,cN _ _ _,?_⟩;simp[e,ho,hw]
 ·simp[vA,hk] at ho;have e:wi r.groups[k].grade 0 9=aD r.groups[k].grade 10:=by rw[sP];simp[wi,aD];omega
  rw[hb];simp[PJ,DT,hk];refine⟨_,cN _ _ _,?_⟩;simp[e,ho]
 ·rw[hj];simp[PJ,DT];unfold eF;have hlen:(fb r).length=r.firms.length:=by simp[fb]
  rw[hlen];by_cases z2:(200:Int)<r.firms.length
  ·simp[z2]
  simp[z2];have key:∀k (hk:k<r.firms.length),((fb r).take k).length=k∧D.list (List.take k (List.map str (fb r))++[str r.firms[k].name])=strs ((fb r).take (k+1))∧
     ao T 78 [strs ((fb r).take (k+1)),.int k] (.int (gE (fb r) k))∧oL r k=(wi r.firms[k].city 0 ((r.cities.length:Int)-1)&&wi r.firms[k].group 0 ((r.groups.length:Int)-1)):=by
   intro k hk;have bn:k<(fb r).length:=by omega
   have hg:(fb r)[k]=r.firms[k].name:=by simp[fb]
   have hs:(fb r).take (k+1)=(fb r).take k++[(fb r)[k]]:=m9 bn;have hn:=DB ((fb r).take (k+1)) k (by rw[dR];omega) (by rw[dR];omega);rw[NR _ _ _ (by omega)] at hn;exact⟨by rw[dR];omega,by rw[hs,hg];simp[strs],hn,by simp[oL,hk,mN]⟩
  refine nY r.firms.length (jS (fb r) (oL r)) (fun k=>[.int 0,.none,.int k]) (fun k=>[strs ((fb r).take k)]) ?_ (fun k hk ho=>?_) (fun k hk ho hb=>?_) (fun hj=>?_)
  ·simp[strs]
  ·have hw:=br hk (by omega);obtain⟨hl,er,hn,hc⟩:=key k hk;obtain⟨o1,o2⟩:=BQ ho;rw[o1] at hn;rw[o2] at hc;have tF:=Bool.and_eq_true_iff.1 hc.symm;simp[PK,DU,hk,hl,er];refine⟨by omega,_,hn,?_⟩;simp[hk,w3];refine⟨_,cN _ _ _,?_⟩;simp[tF.1,hk,w1];refine⟨_,cN _ _ _,?_⟩;simp[tF.2,hw]
  ·rw[hb];obtain⟨hl,er,hn,hc⟩:=key k hk;simp[PK,DU,hk,hl,er,ho];refine⟨by omega,_,hn,?_⟩;rcases LH ho with⟨o1,o2⟩|⟨o1,o2,o3⟩
   ·simp[o1,o2]
   ·rw[o2] at hc;simp[o1,o3,hk,w3];refine⟨_,cN _ _ _,?_⟩;cases e1:wi r.firms[k].city 0 ((r.cities.length:Int)-1)
    ·simp
    rw[e1,xh] at hc;simp[hk,w1];refine⟨_,cN _ _ _,?_⟩;simp[←hc]
  ·rw[hj];simp[PK,DU]
theorem am3 (r:Realm)(h:Small r):ao T 53 [ba r] (.int (eF (eC r) 20 (mU r))):=by
 refine .of_tree rfl (lA 115 (by kernel_rfl)) apH ?_;have g2:=h.orders;simp[RH];unfold eF;have hlen:(eC r).length=r.orders.length:=by simp[eC]
 rw[hlen];by_cases z2:(20:Int)<r.orders.length
 ·simp[z2]
 simp[z2];have key:∀k (hk:k<r.orders.length),((eC r).take k).length=k∧D.list (List.take k (List.map str (eC r))++[str r.orders[k].name])=strs ((eC r).take (k+1))∧
  ao T 78 [strs ((eC r).take (k+1)),.int k] (.int (gE (eC r) k))∧ao T 80 [jo r.orders[k]] (.bool (mU r k)):=by
  intro k hk;have bn:k<(eC r).length:=by omega
  have hg:(eC r)[k]=r.orders[k].name:=by simp[eC]
  have hs:(eC r).take (k+1)=(eC r).take k++[(eC r)[k]]:=m9 bn;have hn:=DB ((eC r).take (k+1)) k (by rw[dR];omega) (by rw[dR];omega);rw[NR _ _ _ (by omega)] at hn;obtain⟨c1,c2⟩:=h.order _ (dA hk);exact⟨by rw[dR];omega,by rw[hs,hg];simp[strs],hn,by simpa [mU,hk] using am0 r.orders[k] (by omega) (by omega)⟩
 refine nY r.orders.length (jS (eC r) (mU r)) (fun k=>[.int 0,.none,.int k]) (fun k=>[strs ((eC r).take k)]) ?_ (fun k hk ho=>?_) (fun k hk ho hb=>?_) (fun hj=>?_)
 ·simp[strs]
 ·have hw:=br hk (by omega);obtain⟨hl,er,hn,hc⟩:=key k hk;obtain⟨o1,o2⟩:=BQ ho;rw[o1] at hn;rw[o2] at hc;simp[PL,DV,hk,hl,er];refine⟨by omega,_,hn,?_⟩;simp[hk];refine⟨_,hc,?_⟩;simp[hw]
 ·rw[hb];obtain⟨hl,er,hn,hc⟩:=key k hk;simp[PL,DV,hk,hl,er,ho];refine⟨by omega,_,hn,?_⟩;rcases LH ho with⟨o1,o2⟩|⟨o1,o2,o3⟩
  ·simp[o1,o2]
  ·rw[o2] at hc;simp[o1,o3,hk];refine⟨_,hc,?_⟩;simp
 ·rw[hj];simp[PL,DV]
theorem amW (r:Realm)(h:Small r):ao T 22 [ba r] (.int (lK r)):=by
 refine .of_tree rfl (lA 105 (by kernel_rfl)) apw ?_
 have e:lK r=eJ [eJ [eF r.currencies 8 (fun _=>true),eF (fa r) 40 (oA r)],eJ [tB r,eF (fb r) 200 (oL r)],eF (eC r) 20 (mU r),uQ r,nV r]:=by
  unfold lK;simp only[eJ];split<;>(try split)<;>(try split)<;>(try split)<;>simp_all
 rw[e];simp[Rv];refine⟨_,am1 r h,?_⟩;have h1:=am2 r h;generalize eJ [eF r.currencies 8 (fun _=>true),eF (fa r) 40 (oA r)]=x1 at*;generalize eJ [tB r,eF (fb r) 200 (oL r)]=x2 at*;have h2:=am3 r h;generalize eF (eC r) 20 (mU r)=x3 at*;have h3:=am5 r h;generalize uQ r=x4 at*;have h4:=am4 r h;generalize nV r=x5 at*;by_cases z1:x1=0
 case neg=>simp[z1,eJ]
 simp[z1,eJ];refine⟨_,h1,?_⟩;by_cases z2:x2=0
 case neg=>simp[z2]
 simp[z2];refine⟨_,h2,?_⟩;by_cases z3:x3=0
 case neg=>simp[z3]
 simp[z3];refine⟨_,h3,?_⟩;by_cases z4:x4=0
 case neg=>simp[z4]
 simp[z4];have e7:(if x5=0 then 0 else x5)=x5:=by split<;>simp_all
 rw[e7];exact h4
end Rm
namespace Rm
open Go Go.Proofs Cx
def jI:Nat→Tm→Int→Int
 |0,_,_=>-1
 |L+1,t,n=>t.args.foldl (fun m a=>if 0≤m then jI L a m else m) (n-1)
theorem size_le:∀(L:Nat) (t:Tm) (n:Int),0≤n→-1≤jI L t n∧jI L t n≤n
 |0,t,n,h=>by simp[jI];omega
 |L+1,t,n,h=>by
  have key:∀(l:List Tm) (m:Int),-1≤m→m≤n→-1≤l.foldl (fun m a=>if 0≤m then jI L a m else m) m∧l.foldl (fun m a=>if 0≤m then jI L a m else m) m≤n:=by
   intro l
   induction l with
   |nil=>intro m h1 h2;exact⟨h1,h2⟩
   |cons a l ih=>
    intro m h1 h2;simp only[JY];split
    ·rename_i hm;have:=size_le L a m hm;exact ih _ this.1 (by omega)
    ·exact ih _ h1 h2
  exact key _ _ (by omega) (by omega)
theorem abe (L:Nat):∀(l:List Tm) (m:Int),m<0→l.foldl (fun m a=>if 0≤m then jI L a m else m) m=m
 |[],m,h=>rfl
 |a::l,m,h=>by simp only[JY];rw[if_neg (by omega)];exact abe L l m h
theorem aga {α β:Type}(f:β→α→β)(b:β){l:List α}{k:Nat}(h:k<l.length):(l.take (k+1)).foldl f b=f ((l.take k).foldl f b) l[k]:=by
 rw[m9 h,JX];rfl
theorem af9 {α β:Type}(f:β→α→β)(b:β)(l:List α)(k:Nat):l.foldl f b=(l.drop k).foldl f ((l.take k).foldl f b):=by
 rw[←JX,J5]
theorem _root_.Cx.Tm.OK.len {t:Tm}(h:t.OK):t.args.length≤9223372036854775807:=by cases h with|mk o n xs h1 h2 h3 h4=>exact h3
theorem _root_.Cx.Tm.OK.arg {t:Tm}(h:t.OK){a:Tm}(ha:a∈t.args):a.OK:=by cases h with|mk o n xs h1 h2 h3 h4=>exact h4 a ha
theorem aai:∀(L:Nat) (t:Tm) (n:Int),t.OK→0≤n→n≤1000→L≤1000→ao T 96 [dD t,.int n,.int L] (.int (jI L t n))
 |0,t,n,ht,h0,h1,hL=>by
  refine .of_tree rfl TY abD ?_;simp[JJ,jI]
 |L+1,t,n,ht,h0,h1,hL=>by
  refine .of_tree rfl TY abD ?_;have qt:IntKind.i64.wrap (n-1)=n-1:=bV (by omega);have hl:=ht.len;have kT:¬((L:Int)+1<1):=by omega
  simp[JJ,qt,kT]
  let g:Nat→Int:=fun k=>(t.args.take k).foldl (fun m a=>if 0≤m then jI L a m else m) (n-1)
  have gb:∀k,-1≤g k∧g k≤1000:=by
   intro k;have:g k=jI (L+1) (.mk 0 0 (t.args.take k)) n:=rfl;have:=size_le (L+1) (.mk 0 0 (t.args.take k)) n h0;omega
  refine .scan t.args.length (fun k=>0≤g k) (fun k=>[.int (g k),.int k]) (fun _=>[]) ?_ (fun k hk hj ho=>?_) (fun k hk hj ho=>?_) (fun hj=>?_)
  ·simp[g,qt]
  ·have hw:IntKind.i64.wrap ((k:Int)+1)=(k:Int)+1:=bV (by omega);have zo:IntKind.i64.wrap (L:Int)=(L:Int):=bV (by omega);have hg:g (k+1)=jI L t.args[k] (g k):=by
    show(t.args.take (k+1)).foldl _ _=_;rw[aga _ _ hk];show(if 0≤g k then _ else _)=_;rw[if_pos ho]
   rw[hg];have ir:=aai L t.args[k] (g k) (ht.arg (dA hk)) ho (gb k).2 (by omega);generalize g k=m at*;simp[PQ,DZ,hk,ho,zo];refine⟨_,ir,?_⟩;simp[hw]
  ·have hf:jI (L+1) t n=g k:=by
    show t.args.foldl _ _=_;rw[af9 _ _ _ k];exact abe L _ _ (by show g k<0;omega)
   rw[hf];generalize g k=m at*;simp[PQ,DZ,hk,ho]
  ·have hf:jI (L+1) t n=g t.args.length:=by
    show t.args.foldl _ _=(t.args.take t.args.length).foldl _ _;rw[List.take_length]
   rw[hf];generalize g t.args.length=m at*;simp[PQ,DZ]
theorem aah (t:Tm)(ht:t.OK):ao T 77 [dD t] (.bool (decide (0≤jI 20 t 100))):=by
 refine .of_tree rfl (lA 103 (by kernel_rfl)) apL ?_;simp[RL];refine⟨_,aai 20 t 100 ht (by omega) (by omega) (by omega),?_⟩;simp
def qa (o:Order):Bool:=(decide (o.rules.length≤60)&&decide (o.choices.length≤60))&&ei o.rules.length (fun k=>decide (0≤jI 20 (o.rules.getD k default).term 100))
theorem aaj (o:Order)(ho:o.OK):ao T 50 [jo o] (.bool (qa o)):=by
 refine .of_tree rfl (lA 102 (by kernel_rfl)) apM ?_;simp[RM];by_cases h1:(o.rules.length:Int)≤60
 case neg=>
  have cK:(60:Int)<o.rules.length:=by omega
  have hf:qa o=false:=by
   have:decide (o.rules.length≤60)=false:=decide_eq_false (by omega);simp only[qa,this,q6]
  simp[cK,hf]
 by_cases h2:(o.choices.length:Int)≤60
 case neg=>
  have cK:(60:Int)<o.choices.length:=by omega
  have hf:qa o=false:=by
   have:decide (o.choices.length≤60)=false:=decide_eq_false (by omega);simp only[qa,this,q6,xg]
  simp[cK,hf]
 have cK:¬(60:Int)<o.rules.length:=by omega
 have jt:¬(60:Int)<o.choices.length:=by omega
 have hf:qa o=ei o.rules.length (fun k=>decide (0≤jI 20 (o.rules.getD k default).term 100)):=by
  have e1:decide (o.rules.length≤60)=true:=decide_eq_true (by omega);have e2:decide (o.choices.length≤60)=true:=decide_eq_true (by omega);simp only[qa,e1,e2,xh]
 rw[hf];simp[cK,jt];have hO:=ho.2.2;refine fY o.rules.length (fun k=>decide (0≤jI 20 (o.rules.getD k default).term 100)) (fun k=>[.bool false,.int k]) (fun _=>[]) ?_ (fun k hk ho=>?_) (fun k hk ho hb=>?_) (fun hj=>?_)
 ·simp
 ·have hw:=br hk (by omega);simp[hk] at ho;simp[PR,D0,hk];refine⟨_,aah _ (hO _ (dA hk)).2,?_⟩;simp[ho,hw]
 ·simp only[aK] at hb;rw[hb];simp[hk] at ho;simp[PR,D0,hk];refine⟨_,aah _ (hO _ (dA hk)).2,?_⟩;simp[ho]
 ·simp only[aK] at hj;rw[hj];simp[PR,D0]
def BN (f:File):Bool:=decide ((f.signs.length:Int)≤50)&&decide ((f.alters.length:Int)≤10)&&decide ((f.acts.length:Int)≤110)&&decide ((f.facts.length:Int)≤220)
theorem ane (f:File):ao T 49 [aY f] (.bool (BN f)):=by
 refine .of_tree rfl (lA 101 (by kernel_rfl)) apK ?_;simp[RK,BN];by_cases h1:(f.signs.length:Int)≤50<;>by_cases h2:(f.alters.length:Int)≤10<;>by_cases h3:(f.acts.length:Int)≤110<;>by_cases h4:(f.facts.length:Int)≤220<;>
  simp[h1,h2,h3,h4]
end Rm
