/-
  Shared texts of this claim.
-/
import Derived.Test.YtipjidjopglknaaGreatDoorNAK
import Derived.KernelRfl
import Derived.Test.YtipjidjopglknaaGreatDoorNAL
import Derived.Test.YtipjidjopglknaaGreatDoorNAM
import Derived.Test.YtipjidjopglknaaGreatDoorNAN
import Derived.Test.YtipjidjopglknaaGreatDoorNAJ
import Derived.WalkKit
import Derived.WalkSpells
import Derived.Lib.SliceRun
import Derived.Lib.AppendZeros
import Derived.Shelf.Sort.Plain
import Derived.Ground.Names2Prog
import Derived.Shelf.Slices.CompactI
import Derived.Shelf.Slices.In.SortNone
import Derived.Test.YtipjidjopglknaaGreatDoorProg
import Derived.Below
import Derived.Lib.Walk
import Derived.Sort.OwnSortedInts
import Derived.Shelf.RegionOpenPlain
set_option linter.unusedVariables false
set_option maxRecDepth 100000
noncomputable section
namespace Rm
open Go Go.Proofs Cx
def yU:Option PC:=cF [2,3,4] [] Tryz.f147 147 []
def Mz:Nat→PC:=br yU
def aoc (b:Nat→PC):PC:=.block 0 [2,3,13,14,15,16] [] (.loop [2,3] [] (b 0))
def Fs (b:Nat→PC):PT:=
 (.ite (aj r3 (.slen r0))
 (.blockS ⟨[],[]⟩ 1 [2,4,19,20,21,22,23,34,35,36,37,38,39,40,47] []
 (.chk (.sok r0 r3)
 (.chk (.nt (.an (.an (.nt Rj) pT) (.nt (.sok r0 r3))))
 (.chk (.nt (.an (.an (bM (.con (.v (.int .u8 48))) (.sidx r0 r3)) (.an (.nt Rj) pT)) (.nt (.sok r0 r3))))
 (.call ⟨[(4,(.pick Rj pT (.pick (bM (.con (.v (.int .u8 48))) (.sidx r0 r3)) (bM (.sidx r0 r3) (.con (.v (.int .u8 57)))) pF)))],[]⟩ [] 38 172 [(.sidx r0 r3)]
 (.ite (.pick (.nt jm) (.pick (peq r3 (pi 0)) pT (.nt r4)) pF)
 (.ret pF)
 (.next ⟨[],[]⟩))))))
 (.next ⟨[(3,vf)],[]⟩))
 (.exit 0 ⟨[(13,r3),(14,r0),(15,(.slen r0)),(16,(aj r3 (.slen r0)))],[]⟩))
def TU (b:Nat→PC):PT:=
 (.ite (.pick (aj (.slen r0) (pi 1)) pT (aZ (.slen r0) (pi 20)))
 (.ret pF)
 (.brk ⟨[(3,(pi 0)),(2,pF)],[]⟩
(aoc b)
 (.ret pT)))
def ajv (b:Nat→PC):PT×List (Shp×PT):=(TU b,[(.lp 0 [2,3,13,14,15,16] [] [2,3] [],Fs b)])
theorem Qm:yU.map told=some (ajv (bq yU)):=by kernel_rfl
theorem atG:tree (ae yU)=TU Mz:=bN Qm
theorem RM:round 0 [2,3,13,14,15,16] [] [2,3] [] (Mz 0)=Fs Mz:=bj Qm 0 fun _=>rfl
def HJ:Option PC:=cF [2] [] Tryz.f172 172 []
def TS:PT:=
 (.ret (.pick (.pick (bM (.con (.v (.int .u8 97))) r0) (bM r0 (.con (.v (.int .u8 122)))) pF) pT (.pick (bM (.con (.v (.int .u8 65))) r0) (bM r0 (.con (.v (.int .u8 90)))) pF)))
theorem abv:HJ.map told=some (TS,[]):=by kernel_rfl
theorem atE:tree (ae HJ)=TS:=ba abv
def yS:Option PC:=cF [6,7] [] Tryz.f148 148 []
def My:Nat→PC:=br yS
def an9 (b:Nat→PC):PC:=.block 0 [6,7,8,9,10,11,16] [] (.loop [6,7] [] (b 0))
def Fp (b:Nat→PC):PT:=
 (.ite (.pick (aj r7 r1) (aj r7 (.llen r0)) pF)
 (.chk (ar r0 r7)
 (.ite (.cs .eql (pn r0 r7) r2)
 (.ret pT)
 (.next ⟨[(7,(aN r7 (pi 1)))],[]⟩)))
 (.exit 0 ⟨[(8,r7),(9,r1),(10,(aj r7 r1)),(11,(aj r7 r1)),(16,(.pick (aj r7 r1) (aj r7 (.llen r0)) pF))],[]⟩))
def TP (b:Nat→PC):PT:=
 (.brk ⟨[(7,(pi 0)),(6,pF)],[]⟩
(an9 b)
 (.ret pF))
def ajt (b:Nat→PC):PT×List (Shp×PT):=(TP b,[(.lp 0 [6,7,8,9,10,11,16] [] [6,7] [],Fp b)])
theorem Ql:yS.map told=some (ajt (bq yS)):=by kernel_rfl
theorem atA:tree (ae yS)=TP My:=bN Ql
theorem RL:round 0 [6,7,8,9,10,11,16] [] [6,7] [] (My 0)=Fp My:=bj Ql 0 fun _=>rfl
def yV:Option PC:=cF [4,5] [] Tryz.f109 109 [2,3]
def MA:Nat→PC:=br yV
def aod (b:Nat→PC):PC:=.block 0 [4,5,36,37,38,39,40] [] (.loop [4,5] [] (b 0))
def Ft (b:Nat→PC):PT:=
 (.ite (aj r5 (.llen (pc o3 4)))
 (.blockS ⟨[],[]⟩ 1 [4,43,44,45,46,47,48,49,50,51,60] []
 (.chk (ar (pc o3 4) r5)
 (.chk Bl
 (.call ⟨[],[]⟩ [] 49 74 [(.ai .quo .i64 (pn (pc o3 4) r5) (pi 100)),(pi 1),(pi 12)]
 (.chk (.nt (.an (.an (.nt (.nt lU)) pT) (.nt (ar (pc o3 4) r5))))
 (.chk (.nt (.an (.an (.nt (.nt lU)) pT) (.nt Bl)))
 (.call ⟨[(51,(.nt lU))],[]⟩ [(51,false)] 58 74 [(.ai .rem .i64 (pn (pc o3 4) r5) (pi 100)),(pi 1),(pi 31)]
 (.ite (.pick mI pT (.nt Fb))
 (.ret pF)
 (.next ⟨[],[]⟩))))))))
 (.next ⟨[(5,tD)],[]⟩))
 (.exit 0 ⟨[(36,r5),(37,pN),(38,(pc o3 4)),(39,(.llen (pc o3 4))),(40,(aj r5 (.llen (pc o3 4))))],[]⟩))
def TV (b:Nat→PC):PT:=
 (.call ⟨[(4,pF)],[(3,(.mk [r1])),(2,(.mk [r0]))]⟩ [] 12 74 [Bo,(pi 0),(bD (.llen xN) (pi 1))]
 (.call ⟨[(14,(.nt cg))],[]⟩ [(14,false)] 21 74 [(pc o3 2),(pi 0),(bD (.llen (pc o2 0)) (pi 1))]
 (.ite (.pick (.pick (.pick dx pT (.nt mF)) pT (aZ (.llen (pc o3 4)) (pi 60))) pT (aZ (.llen (pc o3 5)) (pi 200)))
 (.ret pF)
 (.brk ⟨[(5,(pi 0))],[]⟩
(aod b)
 (.call ⟨[],[]⟩ [] 63 149 [(pc o3 3),(pi 0),(pi 6)]
 (.call ⟨[(64,Kz)],[]⟩ [(64,true)] 67 149 [(pc o3 4),(pi 0),(pi 2000)]
 (.call ⟨[(69,(.pick ln vh pF))],[]⟩ [(69,true)] 72 149 [(pc o3 5),(pi 0),(pi 100000)]
 (.ret (.pick tH xR pF)))))))))
def ajw (b:Nat→PC):PT×List (Shp×PT):=(TV b,[(.lp 0 [4,5,36,37,38,39,40] [] [4,5] [],Ft b)])
theorem Qn:yV.map told=some (ajw (bq yV)):=by kernel_rfl
theorem atH:tree (ae yV)=TV MA:=bN Qn
theorem RN:round 0 [4,5,36,37,38,39,40] [] [4,5] [] (MA 0)=Ft MA:=bj Qn 0 fun _=>rfl
def HK:Option PC:=cF [6] [] Tryz.f74 74 []
def TY:PT:=
 (.ret (.pick (bM r1 r0) (bM r0 r2) pF))
theorem abw:HK.map told=some (TY,[]):=by kernel_rfl
theorem atK:tree (ae HK)=TY:=ba abw
def yX:Option PC:=cF [6,7] [] Tryz.f149 149 []
def MB:Nat→PC:=br yX
def aog (b:Nat→PC):PC:=.block 0 [6,7,8,9,10,11] [] (.loop [6,7] [] (b 0))
def Fw (b:Nat→PC):PT:=
 (.ite (aj r7 (.llen r0))
 (.blockS ⟨[],[]⟩ 1 [6,14,15,16,17,18,19,20,21,22,23,24,35] []
 (.chk (ar r0 r7)
 (.call ⟨[],[]⟩ [] 20 74 [(pn r0 r7),r1,r2]
 (.ite (.nt eZ)
 (.ret pF)
 (.chk (.nt (.an (.an (aZ r7 (pi 0)) pT) (.nt (ar r0 (bD r7 (pi 1))))))
 (.chk (.nt (.an (.an (aZ r7 (pi 0)) pT) (.nt (ar r0 r7))))
 (.ite (.pick (aZ r7 (pi 0)) (cL (pn r0 (bD r7 (pi 1))) (pn r0 r7)) pF)
 (.ret pF)
 (.next ⟨[],[]⟩)))))))
 (.next ⟨[(7,(aN r7 (pi 1)))],[]⟩))
 (.exit 0 ⟨[(8,r7),(9,r0),(10,(.llen r0)),(11,(aj r7 (.llen r0)))],[]⟩))
def TX (b:Nat→PC):PT:=
 (.brk ⟨[(7,(pi 0)),(6,pF)],[]⟩
(aog b)
 (.ret pT))
def ajy (b:Nat→PC):PT×List (Shp×PT):=(TX b,[(.lp 0 [6,7,8,9,10,11] [] [6,7] [],Fw b)])
theorem Qo:yX.map told=some (ajy (bq yX)):=by kernel_rfl
theorem atJ:tree (ae yX)=TX MB:=bN Qo
theorem RQ:round 0 [6,7,8,9,10,11] [] [6,7] [] (MB 0)=Fw MB:=bj Qo 0 fun _=>rfl
def yZ:Option PC:=cF [2,3,5,6] [] Tryz.f65 65 [1,4,44]
def Ck:Nat→PC:=br yZ
def aoj (b:Nat→PC):PC:=.block 0 [2,3,11,12,13,14,15] [] (.loop [2,3] [] (b 0))
def aok (b:Nat→PC):PC:=.block 2 [2,4,5,30,31,32,33,34] [4] (.loop [2,4,5] [4] (b 1))
def Fz (b:Nat→PC):PT:=
 (.ite (aj r3 rI)
 (.blockS ⟨[],[]⟩ 1 [2,18,19,20,21,22,23,24,25] []
 (.chk (ar (pc o1 2) r3)
 (.call ⟨[],[]⟩ [] 24 74 [(pc (pn (pc o1 2) r3) 0),(pi 0),(pi 9)]
 (.ite (.nt oT)
 (.ret (pi 1))
 (.next ⟨[],[]⟩))))
 (.next ⟨[(3,vf)],[]⟩))
 (.exit 0 ⟨[(11,r3),(12,pN),(13,(pc o1 2)),(14,rI),(15,(aj r3 rI))],[]⟩))
def FA (b:Nat→PC):PT:=
 (.ite (aj r5 nv)
 (.blockS ⟨[],[]⟩ 3 [2,4,6,38,39,40,41,42,43,44,45,46,47,48,49,50,52,53,54,55,56,57,58,59,60,61,62,63,64,77] [44,4]
 (.chk (ar (pc o1 3) r5)
 (.chk (bM (.llen Rl) cM)
 (.call ⟨[(4,pN)],[(4,Rl)]⟩ [] 48 108 [Rl,r5]
 (.ite (aU mH (pi 0))
 (.ret mH)
 (.chk (ar (pc o1 3) r5)
 (.call ⟨[],[]⟩ [] 62 74 [(pc (pn (pc o1 3) r5) 1),(pi 0),(bD lQ (pi 1))]
 (.chk (.nt (.an (.an (.nt (.nt ny)) pT) (.nt (ar (pc o1 3) r5))))
 (.call ⟨[(64,(.nt ny))],[]⟩ [(64,false)] 75 74 [(pc (pn (pc o1 3) r5) 2),(pi 0),(bD rI (pi 1))]
 (.ite (.pick ln pT (.nt Fg))
 (.ret (pi 1))
 (.next ⟨[],[]⟩))))))))))
 (.next ⟨[(5,tD)],[]⟩))
 (.exit 2 ⟨[(30,r5),(31,pN),(32,(pc o1 3)),(33,nv),(34,(aj r5 nv))],[]⟩))
def T2 (b:Nat→PC):PT:=
 (.ite (aZ qw (pi 20))
 (.ret (pi 6))
 (.brk ⟨[(3,(pi 0)),(2,(pi 0))],[(1,(.mk [r0]))]⟩
(aoj b)
 (.ite (aZ nv (pi 200))
 (.ret (pi 6))
 (.brk ⟨[(5,(pi 0)),(4,pN)],[(4,pL)]⟩
(aok b)
 (.ret (pi 0))))))
def ajA (b:Nat→PC):PT×List (Shp×PT):=(T2 b,[(.lp 0 [2,3,11,12,13,14,15] [] [2,3] [],Fz b),(.lp 2 [2,4,5,30,31,32,33,34] [4] [2,4,5] [4],FA b)])
theorem JY:yZ.map told=some (ajA (bq yZ)):=by kernel_rfl
theorem atM:tree (ae yZ)=T2 Ck:=bN JY
theorem RT:round 0 [2,3,11,12,13,14,15] [] [2,3] [] (Ck 0)=Fz Ck:=bj JY 0 fun _=>rfl
theorem RU:round 2 [2,4,5,30,31,32,33,34] [4] [2,4,5] [4] (Ck 1)=FA Ck:=bj JY 1 fun _=>rfl
def y2:Option PC:=cF [2,4,5] [] Tryz.f66 66 [1,3,24]
def MC:Nat→PC:=br y2
def aol (b:Nat→PC):PC:=.block 0 [2,3,4,10,11,12,13,14] [3] (.loop [2,3,4] [3] (b 0))
def FB (b:Nat→PC):PT:=
 (.ite (aj r4 oS)
 (.blockS ⟨[],[]⟩ 1 [2,3,5,18,19,20,21,22,23,24,25,26,27,28,29,30,32,33,34,35,36,37,38] [24,3]
 (.chk (ar (pc o1 4) r4)
 (.chk (bM (.llen (.app o3 (.lst [(pc xL 0)]))) cM)
 (.call ⟨[(3,pN)],[(3,(.app o3 (.lst [(pc xL 0)])))]⟩ [] 28 108 [(.app o3 (.lst [(pc xL 0)])),r4]
 (.ite (aU rL (pi 0))
 (.ret rL)
 (.chk (ar (pc o1 4) r4)
 (.call ⟨[],[]⟩ [] 37 110 [xL]
 (.ite (.nt mG)
 (.ret (pi 1))
 (.next ⟨[],[]⟩))))))))
 (.next ⟨[(4,(aN r4 (pi 1)))],[]⟩))
 (.exit 0 ⟨[(10,r4),(11,pN),(12,(pc o1 4)),(13,oS),(14,(aj r4 oS))],[]⟩))
def T4 (b:Nat→PC):PT:=
 (.ite (aZ (.llen xN) (pi 20))
 (.ret (pi 6))
 (.brk ⟨[(4,(pi 0)),(3,pN),(2,(pi 0))],[(3,pL),(1,(.mk [r0]))]⟩
(aol b)
 (.ret (pi 0))))
def ajB (b:Nat→PC):PT×List (Shp×PT):=(T4 b,[(.lp 0 [2,3,4,10,11,12,13,14] [3] [2,3,4] [3],FB b)])
theorem Qp:y2.map told=some (ajB (bq y2)):=by kernel_rfl
theorem atO:tree (ae y2)=T4 MC:=bN Qp
theorem RV:round 0 [2,3,4,10,11,12,13,14] [3] [2,3,4] [3] (MC 0)=FB MC:=bj Qp 0 fun _=>rfl
def yW:Option PC:=cF [2,3,4] [] Tryz.f110 110 [1]
def Ci:Nat→PC:=br yW
def aoe (b:Nat→PC):PC:=.block 0 [2,3,5,6,7,8,9] [] (.loop [2,3] [] (b 0))
def aof (b:Nat→PC):PC:=.block 2 [2,4,48,49,50,51,52] [] (.loop [2,4] [] (b 1))
def Fu (b:Nat→PC):PT:=
 (.ite (aj r3 rI)
 (.blockS ⟨[],[]⟩ 1 [2,12,13,14,15,16,17,18,19,20,29,30,31,32,47] []
 (.chk (ar (pc o1 2) r3)
 (.call ⟨[],[]⟩ [] 18 74 [(pc (pn (pc o1 2) r3) 0),(pi 0),(pi 21)]
 (.chk (.nt (.an (.an (.nt (.nt eg)) pT) (.nt (ar (pc o1 2) r3))))
 (.call ⟨[(20,(.nt eg))],[]⟩ [(20,false)] 27 74 [(pc (pn (pc o1 2) r3) 1),(pi 0),(pi 4)]
 (.ite (.pick eZ pT (.nt fH))
 (.ret pF)
 (.chk (.nt (.an (.an (aZ r3 (pi 0)) pT) (.nt (ar (pc o1 2) (bD r3 (pi 1))))))
 (.chk (.nt (.an (.an (aZ r3 (pi 0)) pT) (.nt (ar (pc o1 2) r3))))
 (.ite (.pick (aZ r3 (pi 0)) (cL (pc (pn (pc o1 2) (bD r3 (pi 1))) 0) (pc (pn (pc o1 2) r3) 0)) pF)
 (.ret pF)
 (.next ⟨[],[]⟩)))))))))
 (.next ⟨[(3,vf)],[]⟩))
 (.exit 0 ⟨[(5,r3),(6,pN),(7,(pc o1 2)),(8,rI),(9,(aj r3 rI))],[]⟩))
def Fv (b:Nat→PC):PT:=
 (.ite (aj r4 nv)
 (.blockS ⟨[],[]⟩ 3 [2,55,56,57,58,59,60,61,62,63,64,65,80] []
 (.chk (ar (pc o1 3) r4)
 (.call ⟨[],[]⟩ [] 61 74 [(pc (pn (pc o1 3) r4) 0),(pi 0),(pi 21)]
 (.ite (.nt xQ)
 (.ret pF)
 (.chk (.nt (.an (.an (aZ r4 (pi 0)) pT) (.nt (ar (pc o1 3) (bD r4 (pi 1))))))
 (.chk (.nt (.an (.an (aZ r4 (pi 0)) pT) (.nt (ar (pc o1 3) r4))))
 (.ite (.pick (aZ r4 (pi 0)) (cL (pc (pn (pc o1 3) (bD r4 (pi 1))) 0) (pc (pn (pc o1 3) r4) 0)) pF)
 (.ret pF)
 (.next ⟨[],[]⟩)))))))
 (.next ⟨[(4,(aN r4 (pi 1)))],[]⟩))
 (.exit 2 ⟨[(48,r4),(49,pN),(50,(pc o1 3)),(51,nv),(52,(aj r4 nv))],[]⟩))
def TW (b:Nat→PC):PT:=
 (.brk ⟨[(3,(pi 0)),(2,pF)],[(1,(.mk [r0]))]⟩
(aoe b)
 (.brk ⟨[(4,(pi 0))],[]⟩
(aof b)
 (.ret pT)))
def ajx (b:Nat→PC):PT×List (Shp×PT):=(TW b,[(.lp 0 [2,3,5,6,7,8,9] [] [2,3] [],Fu b),(.lp 2 [2,4,48,49,50,51,52] [] [2,4] [],Fv b)])
theorem JW:yW.map told=some (ajx (bq yW)):=by kernel_rfl
theorem atI:tree (ae yW)=TW Ci:=bN JW
theorem RO:round 0 [2,3,5,6,7,8,9] [] [2,3] [] (Ci 0)=Fu Ci:=bj JW 0 fun _=>rfl
theorem RP:round 2 [2,4,48,49,50,51,52] [] [2,4] [] (Ci 1)=Fv Ci:=bj JW 1 fun _=>rfl
def y4:Option PC:=cF [2,3,5] [] Tryz.f67 67 [1,4]
def Cm:Nat→PC:=br y4
def aoo (b:Nat→PC):PC:=.block 2 [2,5,46,47,48] [] (.loop [2,5] [] (b 0))
def aop (b:Nat→PC):PC:=.block 0 [2,3,10,11,12,13,14] [] (.loop [2,3] [] (b 1))
def Bw (b:Nat→PC):PT:=
 (.ite (aj r5 r3)
 (.chk (ar (pc o1 5) r5)
 (.chk (.nt (.an (.an (peq (pc (pn (pc o1 5) r5) 0) (pc o4 0)) pT) (.nt (ar (pc o1 5) r5))))
 (.ite (.pick (peq (pc (pn (pc o1 5) r5) 0) (pc o4 0)) (peq (pc (pn (pc o1 5) r5) 1) (pc o4 1)) pF)
 (.ret (pi 5))
 (.next ⟨[(5,tD)],[]⟩))))
 (.exit 2 ⟨[(46,r5),(47,r3),(48,(aj r5 r3))],[]⟩))
def FE (b:Nat→PC):PT:=
 (.ite (aj r3 Bq)
 (.blockS ⟨[(14,(aj r3 Bq)),(13,Bq),(12,(pc o1 5)),(11,pN),(10,r3)],[]⟩ 1 [2,4,5,17,18,19,20,21,22,23,24,25,26,27,28,29,30,39,40,45,46,47,48] [4]
 (.chk (ar (pc o1 5) r3)
 (.call ⟨[],[(4,(.setc z3 0 (pn (pc o1 5) r3)))]⟩ [] 28 74 [(pc (.setc z3 0 (pn (pc o1 5) r3)) 0),(pi 0),(bD lQ (pi 1))]
 (.call ⟨[(30,(.nt rL))],[]⟩ [(30,false)] 37 74 [(pc o4 1),(pi 0),(bD lQ (pi 1))]
 (.call ⟨[(40,(.pick tF pT (.nt mG)))],[]⟩ [(40,false)] 43 74 [(pc o4 2),(pi 1),(pi 20000)]
 (.ite (.pick oU pT (.nt rP))
 (.ret (pi 1))
 (.brk ⟨[(5,(pi 0))],[]⟩
(aoo b)
 (.next ⟨[],[]⟩)))))))
 (.next ⟨[(3,vf)],[]⟩))
 (.exit 0 ⟨[(10,r3),(11,pN),(12,(pc o1 5)),(13,Bq),(14,(aj r3 Bq))],[]⟩))
def T6 (b:Nat→PC):PT:=
 (.ite (aZ (.llen xM) (pi 100))
 (.ret (pi 6))
 (.brk ⟨[(3,(pi 0)),(2,(pi 0))],[(1,(.mk [r0]))]⟩
(aop b)
 (.ret (pi 0))))
def ajD (b:Nat→PC):PT×List (Shp×PT):=(T6 b,[(.lp 2 [2,5,46,47,48] [] [2,5] [],Bw b),(.lp 0 [2,3,10,11,12,13,14] [] [2,3] [],FE b)])
theorem J0:y4.map told=some (ajD (bq y4)):=by kernel_rfl
theorem atQ:tree (ae y4)=T6 Cm:=bN J0
theorem KN:round 2 [2,5,46,47,48] [] [2,5] [] (Cm 0)=Bw Cm:=bj J0 0 fun _=>rfl
theorem RY:round 0 [2,3,10,11,12,13,14] [] [2,3] [] (Cm 1)=FE Cm:=bj J0 1 fun _=>rfl
def y3:Option PC:=cF [2,3,5] [] Tryz.f68 68 [1,4,6]
def Cl:Nat→PC:=br y3
def aom (b:Nat→PC):PC:=.block 0 [2,3,11,12,13,14,15] [] (.loop [2,3] [] (b 0))
def aon (b:Nat→PC):PC:=.block 2 [2,5,68,69,70,71,72] [] (.loop [2,5] [] (b 1))
def FC (b:Nat→PC):PT:=
 (.ite (aj r3 (.llen (pc o1 6)))
 (.blockS ⟨[],[]⟩ 1 [2,4,18,19,20,21,22,23,24,25,26,27,28,29,30,31,40,41,47,48,49,50,51,52,57,58,63] [4]
 (.chk (ar (pc o1 6) r3)
 (.call ⟨[],[(4,(.setc z5 0 (pn (pc o1 6) r3)))]⟩ [] 29 74 [(pc (.setc z5 0 (pn (pc o1 6) r3)) 0),(pi 0),(bD ve (pi 1))]
 (.call ⟨[(31,(.nt rM))],[]⟩ [(31,false)] 38 74 [(pc o4 1),(pi 0),(bD ve (pi 1))]
 (.ite (.pick (.pick rN pT (.nt jm)) pT (peq (pc o4 0) (pc o4 1)))
 (.ret (pi 1))
 (.call ⟨[],[]⟩ [] 50 74 [(pc o4 2),(pi 1),(pi 1073741824)]
 (.call ⟨[(52,(.nt lV))],[]⟩ [(52,false)] 55 74 [(pc o4 3),(pi 1),(pi 1073741824)]
 (.call ⟨[(58,(.pick Kw pT (.nt Br)))],[]⟩ [(58,false)] 61 74 [(pc o4 4),(pi 0),(pi 100000)]
 (.ite (.pick Fb pT (.nt xQ))
 (.ret (pi 1))
 (.next ⟨[],[]⟩)))))))))
 (.next ⟨[(3,vf)],[]⟩))
 (.exit 0 ⟨[(11,r3),(12,pN),(13,(pc o1 6)),(14,(.llen (pc o1 6))),(15,(aj r3 (.llen (pc o1 6))))],[]⟩))
def FD (b:Nat→PC):PT:=
 (.ite (aj r5 xO)
 (.blockS ⟨[],[]⟩ 3 [2,6,75,76,77,78,79,80,81,82,83,84,85,86,87,88,95,96,100] [6]
 (.chk (ar (pc o1 7) r5)
 (.call ⟨[],[(6,(.setc z3 0 (pn (pc o1 7) r5)))]⟩ [] 86 74 [(pc (.setc z3 0 (pn (pc o1 7) r5)) 0),(pi 0),(bD oS (pi 1))]
 (.call ⟨[(88,(.nt r86))],[]⟩ [(88,false)] 93 74 [(pc o6 1),(pi 0),(pc o6 2)]
 (.ite (.pick (.pick KC pT (.nt Bt)) pT (aZ (pc o6 2) (pi 100000)))
 (.ret (pi 1))
 (.next ⟨[],[]⟩)))))
 (.next ⟨[(5,tD)],[]⟩))
 (.exit 2 ⟨[(68,r5),(69,pN),(70,(pc o1 7)),(71,xO),(72,(aj r5 xO))],[]⟩))
def T5 (b:Nat→PC):PT:=
 (.ite (aZ (.llen (pc (.mk [r0]) 6)) (pi 100))
 (.ret (pi 6))
 (.brk ⟨[(3,(pi 0)),(2,(pi 0))],[(1,(.mk [r0]))]⟩
(aom b)
 (.ite (aZ xO (pi 20))
 (.ret (pi 6))
 (.brk ⟨[(5,(pi 0))],[]⟩
(aon b)
 (.ret (pi 0))))))
def ajC (b:Nat→PC):PT×List (Shp×PT):=(T5 b,[(.lp 0 [2,3,11,12,13,14,15] [] [2,3] [],FC b),(.lp 2 [2,5,68,69,70,71,72] [] [2,5] [],FD b)])
theorem JZ:y3.map told=some (ajC (bq y3)):=by kernel_rfl
theorem atP:tree (ae y3)=T5 Cl:=bN JZ
theorem RW:round 0 [2,3,11,12,13,14,15] [] [2,3] [] (Cl 0)=FC Cl:=bj JZ 0 fun _=>rfl
theorem RX:round 2 [2,5,68,69,70,71,72] [] [2,5] [] (Cl 1)=FD Cl:=bj JZ 1 fun _=>rfl
def vY:Option PC:=cF [4,5,6,7,8,11] [] Tryz.f25 25 [2,3,10]
def Cg:Nat→PC:=br vY
def an4 (b:Nat→PC):PC:=.block 0 [4,48,49] [] (.loop [4,48] [] (b 0))
def an5 (b:Nat→PC):PC:=.block 2 [4,8,62,63] [] (.loop [4,8,62] [] (b 1))
def Fm (b:Nat→PC):PT:=
 (.ite (aj mH Rt)
 (.blockS ⟨[],[]⟩ 1 [4,6,7,50,51,52,53,54,55,56] []
 (.call ⟨[],[]⟩ [] 54 51 [(ax 8 o2),(ax 19 o3),mH]
 (.ite (aU qx (pi 0))
 (.ret qx)
 (.next ⟨[],[]⟩)))
 (.next ⟨[(48,(aN mH (pi 1)))],[]⟩))
 (.exit 0 ⟨[(49,(aj mH Rt))],[]⟩))
def Fo (b:Nat→PC):PT:=
 (.ite (aj ny xQ)
 (.blockS ⟨[],[]⟩ 3 [4,8,10,64,65,66,67,68,69,70,71,72,73,74,75,76,77,78,79,80] [10]
 (.chk (ar Fc ny)
 (.call ⟨[],[(10,(.setc z2 0 (pn Fc ny)))]⟩ [] 73 52 [(pc (.setc z2 0 (pn Fc ny)) 0),tC,(.llen (pc o3 15))]
 (.ite (.nt Fe)
 (.ret (pi 1))
 (.call ⟨[],[]⟩ [] 77 52 [(pc cA 1),(pi 1),Bn]
 (.ite (.nt KB)
 (.ret (pi 3))
 (.next ⟨[(8,(pc cA 0))],[]⟩))))))
 (.next ⟨[(62,(aN ny (pi 1)))],[]⟩))
 (.exit 2 ⟨[(63,(aj ny xQ))],[]⟩))
def TH (b:Nat→PC):PT:=
 (.ite (.pick (.pick (.pick (aZ (.llen (pc (.mk [r1]) 15)) (pi 40)) pT (aZ (.llen (pc (.mk [r1]) 16)) (pi 4))) pT (aZ (.llen (pc (.mk [r1]) 17)) (pi 100))) pT (aZ (.llen (pc (.mk [r1]) 18)) (pi 200)))
 (.ret (pi 6))
 (.call ⟨[(4,(pi 0))],[(3,(.mk [r1])),(2,(.mk [r0]))]⟩ [] 37 50 [lg,(ax 15 (.mk [r1]))]
 (.ite (aU mG (pi 0))
 (.ret mG)
 (.ite (peq (.llen (pc o3 15)) (pi 0))
 (.ret (pi 14))
 (.brk ⟨[(48,(pi 0)),(47,(.llen (pc o3 15)))],[]⟩
(an4 b)
 (.brk ⟨[(62,(pi 0)),(61,(.llen (pc o3 16))),(60,(pc o3 16)),(8,(pi 0))],[]⟩
(an5 b)
 (.call ⟨[],[]⟩ [] 84 53 [(ax 8 o2),(ax 19 o3)]
 (.ite (aU r84 (pi 0))
 (.ret r84)
 (.call ⟨[],[]⟩ [] 89 54 [(ax 19 o3)]
 (.ret r89))))))))))
def ajp (b:Nat→PC):PT×List (Shp×PT):=(TH b,[(.lp 0 [4,48,49] [] [4,48] [],Fm b),(.lp 2 [4,8,62,63] [] [4,8,62] [],Fo b)])
theorem JU:vY.map told=some (ajp (bq vY)):=by kernel_rfl
theorem atr:tree (ae vY)=TH Cg:=bN JU
theorem RJ:round 0 [4,48,49] [] [4,48] [] (Cg 0)=Fm Cg:=bj JU 0 fun _=>rfl
theorem RK:round 2 [4,8,62,63] [] [4,8,62] [] (Cg 1)=Fo Cg:=bj JU 1 fun _=>rfl
def CT:Option PC:=cF [4,5,6,7,8,54,80,109,118,9,10] [] Tryz.f50 50 [2,3]
def U5:PT:=
 (.call ⟨[],[(3,(.mk [r1])),(2,(.mk [r0]))]⟩ [] 12 84 [lg]
 (.ite (aU cg (pi 0))
 (.ret cg)
 (.call ⟨[(7,(.llen (pc o2 1))),(6,(.llen (pc o2 3)))],[]⟩ [] 25 97 [(pc o3 0),(.llen (pc o2 3))]
 (.call ⟨[(26,jI)],[]⟩ [(26,true)] 30 97 [(pc o3 1),r6]
 (.call ⟨[(36,(peq (pc o3 2) (pi (-1)))),(32,(.pick lT tF pF))],[]⟩ [(36,false),(32,true)] 40 97 [(pc o3 2),r6]
 (.call ⟨[(47,(peq (pc o3 11) (pi (-1)))),(43,(.pick E8 (.pick lj pT oU) pF))],[]⟩ [(47,false),(43,true)] 51 97 [(pc o3 11),r6]
 (.blockS ⟨[(8,(.pick rP (.pick Rt pT mI) pF))],[]⟩ 0 [4,54,55,56,57,65,66,72,73,79,80,81,82,83,84,88,89,93,94,98,99,103,104,108,109,110,111,112,113,117,118,119,120,121,122,126,127,137,138,142] []
 (.call ⟨[(57,(.nt r8))],[]⟩ [(57,false)] 63 97 [(pc o3 4),(.llen (pc o2 0))]
 (.call ⟨[(66,(.pick Ky pT (.nt Kz)))],[]⟩ [(66,false)] 70 97 [(pc o3 9),r7]
 (.call ⟨[(73,(.pick KA pT (.nt Rw)))],[]⟩ [(73,false)] 77 97 [(pc o3 10),r7]
 (.iteS ⟨[],[]⟩ (.pick Fe pT (.nt KB)) [4,80,81,82,83,84,88,89,93,94,98,99,103,104,108,109,110,111,112,113,117,118,119,120,121,122,126,127,137,138,142] []
 (.ret (pi 1))
 (.iteS ⟨[],[]⟩ (.pick (.pick (.pick (.pick (.pick (aj (pc o3 3) (pi 1)) pT (aZ (pc o3 3) Bn)) pT (aj (pc o3 8) (pi 0))) pT (aZ (pc o3 8) (pi 100000))) pT (aj (pc o3 12) (pi 0))) pT (aZ (pc o3 12) (pi 1000))) [4,109,110,111,112,113,117,118,119,120,121,122,126,127,137,138,142] []
 (.ret (pi 3))
 (.iteS ⟨[],[]⟩ (.pick (aj (pc o3 14) (pi 1)) pT (aZ (pc o3 14) (pi 4))) [4,118,119,120,121,122,126,127,137,138,142] []
 (.ret (pi 15))
 (.call ⟨[(138,(.pick (.pick (aj (pc o3 13) (pi 0)) pT (aZ (pc o3 13) (pi 7))) pT (.pick (aU (.ai .and .i64 (pc o3 13) (pi 4)) (pi 0)) (peq (pc o3 2) (pi (-1))) pF)))],[]⟩ [(138,false)] 140 98 [(ax 15 o3)]
 (.ite (.pick (.r 138) pT (.nt (.r 140)))
 (.ret (pi 2))
 (.next ⟨[],[]⟩)))
 (.next ⟨[],[]⟩))
 (.next ⟨[],[]⟩))
 (.next ⟨[],[]⟩)))))
 (.iteS ⟨[],[]⟩ (peq (pc o3 5) (pi 4)) [4] []
 (.call ⟨[],[]⟩ [] 153 99 [(ax 8 o2),(pc o3 9),(pc o3 10)]
 (.ret (.tget (.r 153) 1)))
 (.next ⟨[],[]⟩)
 (.ret (pi 0))))))))))
theorem ab5:CT.map told=some (U5,[]):=by kernel_rfl
theorem auV:tree (ae CT)=U5:=ba ab5
def Ia:Option PC:=cF [4] [] Tryz.f97 97 []
def U6:PT:=
 (.ret Rm)
theorem ab6:Ia.map told=some (U6,[]):=by kernel_rfl
theorem auW:tree (ae Ia)=U6:=ba ab6
def Ib:Option PC:=cF [2,8,19,40] [] Tryz.f98 98 [1,3]
def U7:PT:=
 (.ite (.pick (peq (pc lh 0) (pi 0)) (peq (pc lh 0) (pi 0)) (peq (pc lh 0) (pi 4)))
 (.ret (.pick (peq (pc lh 1) (pi 0)) (peq (pc lh 2) (pi 0)) pF))
 (.ite (.pick (peq (pc lh 0) (pi 1)) (peq (pc lh 0) (pi 1)) (peq (pc lh 0) (pi 2)))
 (.ret (.pick (.pick (cL (pc lh 1) (pi 1)) (bM (pc lh 1) (pi 400)) pF) (.pick (peq (pc lh 2) (pi 0)) pT (peq (pc lh 2) (pi 1))) pF))
 (.ite (peq (pc lh 0) (pi 3))
 (.ret (.pick (.pick (cL (pc lh 1) (pc (.mk [r0]) 8)) (bM (pc lh 1) (pi 100000)) pF) (peq (pc lh 2) (pi 0)) pF))
 (.ret pF))))
theorem ab7:Ib.map told=some (U7,[]):=by kernel_rfl
theorem auX:tree (ae Ib)=U7:=ba ab7
def yR:Option PC:=cF [6,8,9,76,92,98] [] Tryz.f51 51 [3,4,7,11]
def Mx:Nat→PC:=br yR
def an8 (b:Nat→PC):PC:=.block 0 [8,9,51,52] [] (.loop [8,9,51] [] (b 0))
def KL (b:Nat→PC):PT:=
 (.ite (aj mI lV)
 (.chk (ar lU mI)
 (.next ⟨[(8,(pc (.setc z9 0 (pn lU mI)) 6)),(9,(.pick r9 pT (.pick (.pick (peq (pc o7 0) (pi 1)) (peq (pc (.setc z9 0 (pn lU mI)) 0) (pi 1)) pF) (peq (pc (.setc z9 0 (pn lU mI)) 1) (pc o7 1)) pF))),(51,(aN mI (pi 1)))],[]⟩))
 (.exit 0 ⟨[(52,(aj mI lV))],[]⟩))
def TO (b:Nat→PC):PT:=
 (.chk (ar (pc (.mk [r1]) 15) r2)
 (.call ⟨[],[(7,oQ),(4,(.mk [r1])),(3,(.mk [r0]))]⟩ [] 23 52 [(pc oQ 1),(pi 0),(bD (pc (.mk [r1]) 14) (pi 1))]
 (.ite (.nt j2)
 (.ret (pi 15))
 (.call ⟨[],[]⟩ [] 31 52 [(pc o7 2),(pi 0),Ku]
 (.call ⟨[(33,(.nt rN))],[]⟩ [(33,false)] 40 52 [(pc o7 7),(pi 0),(bD (.llen (pc o3 1)) (pi 1))]
 (.ite (.pick tG pT (.nt oU))
 (.ret (pi 1))
 (.chk (.slok (pc o4 15) (pi 0) r2)
 (.brk ⟨[(51,(pi 0)),(50,(.llen (.slc (pc o4 15) (pi 0) r2))),(49,(.slc (pc o4 15) (pi 0) r2)),(9,pF),(8,(pc o4 8))],[]⟩
(an8 b)
 (.blockS ⟨[],[]⟩ 2 [6,76,77,78,79,80,81,82,91,92,93,94,95,96,97,98,99] []
 (.call ⟨[],[]⟩ [] 80 52 [(pc o7 6),r8,(pi 100000)]
 (.iteS ⟨[],[]⟩ (.pick (.nt xS) pT (.pick (peq r2 (pi 0)) (aU (pc o7 6) r8) pF)) [6,92,93,94,95,96,97,98,99] []
 (.ret (pi 13))
 (.call ⟨[],[]⟩ [] 96 100 [(ax 8 o3),(ax 19 o4),r2]
 (.ite (.nt Rz)
 (.ret (pi 14))
 (.ite r9
 (.ret (pi 5))
 (.next ⟨[],[]⟩))))
 (.next ⟨[],[]⟩)))
 (.ret (pi 0)))))))))))
def ajs (b:Nat→PC):PT×List (Shp×PT):=(TO b,[(.lp 0 [8,9,51,52] [] [8,9,51] [],KL b)])
theorem Qk:yR.map told=some (ajs (bq yR)):=by kernel_rfl
theorem aty:tree (ae yR)=TO Mx:=bN Qk
theorem adq:round 0 [8,9,51,52] [] [8,9,51] [] (Mx 0)=KL Mx:=bj Qk 0 fun _=>rfl
def HG:Option PC:=cF [6] [] Tryz.f52 52 []
def TN:PT:=
 (.ret (.pick (cL r0 r1) (bM r0 r2) pF))
theorem abr:HG.map told=some (TN,[]):=by kernel_rfl
theorem atx:tree (ae HG)=TN:=ba abr
def HF:Option PC:=cF [6,9,10,66,103,113,11,140,149] [] Tryz.f100 100 [3,4,7,8]
def TM:PT:=
 (.chk (ar (pc (.mk [r1]) 15) r2)
 (.ite (.pick (.cb .neq (peq r2 (pi 0)) (peq (pc oQ 0) (pi 0))) pT (.pick (aU (pc oQ 0) (pi 2)) (aU (pc oQ 4) (pi (-1))) pF))
 (.ret pF)
 (.ite (.pick (.pick (aU (pc oQ 0) (pi 3)) (aU (pc oQ 0) (pi 4)) pF) (aU (pc oQ 3) (pi (-1))) pF)
 (.ret pF)
 (.call ⟨[(9,(.pick (peq (pc oQ 5) (pi 0)) (peq (pc oQ 8) (pi 0)) pF))],[(8,(.setc GA 0 (ax 15 (.mk [r1])))),(7,oQ),(4,(.mk [r1])),(3,(.mk [r0]))]⟩ [] 58 52 [(pc oQ 5),(pi 1),Bn]
 (.blockS ⟨[(65,(pc o7 0)),(10,(.pick Fb (peq (pc o7 8) (pi 0)) pF))],[]⟩ 0 [6,66,67,103,104,113,114,140,141,149,150] []
 (.iteS ⟨[],[]⟩ (peq Bs (pi 0)) [6,103,104,113,114,140,141,149,150] []
 (.ret (.pick (.pick (.pick (.pick (.pick (peq (pc o7 2) (pc o8 0)) (peq (pc o7 5) (pi 0)) pF) (peq (.ai .or .i64 (pc o7 8) (pi 1)) (pi 1)) pF) (peq (pc o7 1) (pi 0)) pF) (peq (pc o7 6) (pc o8 8)) pF) (peq (pc o7 7) (pc o8 9)) pF))
 (.iteS ⟨[],[]⟩ (peq Bs (pi 1)) [6,113,114,140,141,149,150] []
 (.ret (.pick (peq (pc o7 2) (pc o8 1)) di pF))
 (.iteS ⟨[],[]⟩ (peq Bs (pi 2)) [6,140,141,149,150] []
 (.call ⟨[(11,(pi 6))],[]⟩ [] 121 52 [(pc o7 4),(pi (-1)),Ku]
 (.call ⟨[(127,(.pick aq4 (peq (pc o7 5) (pi 0)) pF))],[]⟩ [(127,true)] 130 52 [(pc o7 8),(pi 0),(pi 7)]
 (.ret (.pick (.pick aq5 (.r 130) pF) (aU (.ai .and .i64 (pc o7 8) bH) bH) pF))))
 (.iteS ⟨[],[]⟩ (peq Bs (pi 3)) [6,149,150] []
 (.call ⟨[(143,r9)],[]⟩ [(143,true)] 147 143 [(ax 19 o4),r2,(.lst [(pi 0),(pi 1),(pi 2),(pi 4)])]
 (.ret (.pick (.r 143) (.r 147) pF)))
 (.iteS ⟨[],[]⟩ (peq Bs (pi 4)) [6] []
 (.call ⟨[(159,(.pick di (aU (pc o7 2) (pc o8 1)) pF))],[]⟩ [(159,true)] 163 143 [(ax 19 o4),r2,(.lst [(pi 0),(pi 2)])]
 (.ret (.pick (.r 159) (.r 163) pF)))
 (.next ⟨[],[]⟩)
 (.next ⟨[],[]⟩))
 (.next ⟨[],[]⟩))
 (.next ⟨[],[]⟩))
 (.next ⟨[],[]⟩))
 (.next ⟨[],[]⟩))
 (.ret pF))))))
theorem abq:HF.map told=some (TM,[]):=by kernel_rfl
theorem atw:tree (ae HF)=TM:=ba abq
def HE:Option PC:=cF [6,7] [] Tryz.f143 143 [3]
def TK:PT:=
 (.chk (ar rH r1)
 (.call ⟨[(7,(pc (pn rH r1) 3))],[(3,(.mk [r0]))]⟩ [] 17 52 [(pc (pn rH r1) 3),(pi 0),(bD r1 (pi 1))]
 (.chk (.nt (.an (.an lS pT) (.nt (ar (pc o3 15) r1))))
 (.call ⟨[(18,lS)],[]⟩ [(18,true)] 27 144 [(ax 19 o3),r7,(pc (pn (pc o3 15) r1) 1)]
 (.chk (.nt (.an (.an (.pick eg fH pF) pT) (.nt (ar (pc o3 15) r7))))
 (.call ⟨[(29,(.pick eg fH pF))],[]⟩ [(29,true)] 37 81 [r2,(pc (pn (pc o3 15) r7) 0)]
 (.ret (.pick rM mG pF))))))))
theorem abp:HE.map told=some (TK,[]):=by kernel_rfl
theorem atu:tree (ae HE)=TK:=ba abp
def HH:Option PC:=cF [6] [] Tryz.f144 144 [3]
def LD:PT:=
 (.chk (.nt (.an (.an (.nt (peq r1 (pi 0))) pT) (.nt (ar rH r1))))
 (.ret (.pick (peq r1 (pi 0)) pT (peq (pc (pn rH r1) 1) r2))))
theorem abt:HH.map told=some (LD,[]):=by kernel_rfl
theorem atz:tree (ae HH)=LD:=ba abt
def yP:Option PC:=cF [4,5,7] [] Tryz.f53 53 [2,3,6]
def Mv:Nat→PC:=br yP
def an6 (b:Nat→PC):PC:=.block 0 [4,11,12] [] (.loop [4,11] [] (b 0))
def KJ (b:Nat→PC):PT:=
 (.ite (aj bH di)
 (.blockS ⟨[],[]⟩ 1 [4,5,6,7,13,14,15,16,17,18,19,20,21,22,23,24,25,26,27,28,29,30,31,32,37,38,39,40,41,42,43,44,45,46,47,48,58,59,69,70,71,72,73] [6]
 (.chk (ar r9 bH)
 (.call ⟨[(5,bH)],[(6,(.setc z9 0 (pn r9 bH)))]⟩ [] 22 52 [(pc (.setc z9 0 (pn r9 bH)) 3),(pi 0),(bD (pc o3 14) (pi 1))]
 (.ite (.nt E7)
 (.ret (pi 15))
 (.call ⟨[],[]⟩ [] 30 52 [(pc o6 7),(pi 0),(bD (.llen (pc o2 1)) (pi 1))]
 (.call ⟨[(32,(.nt tF))],[]⟩ [(32,false)] 35 52 [(pc o6 0),(pi 0),(pi 9)]
 (.ite (.pick E8 pT (.nt xP))
 (.ret (pi 1))
 (.call ⟨[],[]⟩ [] 41 101 [(ax 8 o2),(ax 19 o3),(ax 9 o6)]
 (.ite (.nt rO)
 (.ret (pi 14))
 (.ite (aU (pc o6 4) (pi (-1)))
 (.chk (ar (pc o3 15) (pc o6 4))
 (.ite (aZ r5 (pi 0))
 (.chk (ar (pc o3 17) (bD r5 (pi 1)))
 (.call ⟨[],[]⟩ [] 72 52 [(pc o6 6),(.mx (.mx (pc o3 8) (pc (pn (pc o3 15) (pc o6 4)) 6)) (pc (pn (pc o3 17) (bD r5 (pi 1))) 6)),(pi 100000)]
 (.ite (.nt xR)
 (.ret (pi 13))
 (.next ⟨[],[]⟩))))
 (.call ⟨[],[]⟩ [] 72 52 [(pc o6 6),(.mx (pc o3 8) (pc (pn (pc o3 15) (pc o6 4)) 6)),(pi 100000)]
 (.ite (.nt xR)
 (.ret (pi 13))
 (.next ⟨[],[]⟩)))))
 (.ite (aZ r5 (pi 0))
 (.chk (ar (pc o3 17) (bD r5 (pi 1)))
 (.call ⟨[],[]⟩ [] 72 52 [(pc o6 6),(.mx (pc o3 8) (pc (pn (pc o3 17) (bD r5 (pi 1))) 6)),(pi 100000)]
 (.ite (.nt xR)
 (.ret (pi 13))
 (.next ⟨[],[]⟩))))
 (.call ⟨[],[]⟩ [] 72 52 [(pc o6 6),(pc o3 8),(pi 100000)]
 (.ite (.nt xR)
 (.ret (pi 13))
 (.next ⟨[],[]⟩)))))))))))))
 (.next ⟨[(11,(aN bH (pi 1)))],[]⟩))
 (.exit 0 ⟨[(12,(aj bH di))],[]⟩))
def TJ (b:Nat→PC):PT:=
 (.brk ⟨[(11,(pi 0)),(10,(.llen (pc (.mk [r1]) 17))),(9,(pc (.mk [r1]) 17)),(4,(pi 0))],[(3,(.mk [r1])),(2,(.mk [r0]))]⟩
(an6 b)
 (.ret (pi 0)))
def ajq (b:Nat→PC):PT×List (Shp×PT):=(TJ b,[(.lp 0 [4,11,12] [] [4,11] [],KJ b)])
theorem Qi:yP.map told=some (ajq (bq yP)):=by kernel_rfl
theorem att:tree (ae yP)=TJ Mv:=bN Qi
theorem ado:round 0 [4,11,12] [] [4,11] [] (Mv 0)=KJ Mv:=bj Qi 0 fun _=>rfl
def HD:Option PC:=cF [6,7,8,9,65,80,100,111] [] Tryz.f101 101 [3,4,5]
def TI:PT:=
 (.call ⟨[],[(5,(.mk [r2])),(4,(.mk [r1])),(3,(.mk [r0]))]⟩ [] 16 52 [(pc (.mk [r2]) 4),(pi 0),(bD (.llen (pc (.mk [r1]) 15)) (pi 1))]
 (.call ⟨[(17,cN)],[]⟩ [(17,true)] 23 144 [(ax 19 o4),(pc o5 4),(pc o5 3)]
 (.chk (.nt (.an (.an (.pick lS j2 pF) pT) (.nt (ar (pc o4 15) (pc o5 4)))))
 (.call ⟨[(8,(.pick (.pick lS j2 pF) (peq (pc (pn (pc o4 15) (pc o5 4)) 2) (pc o5 1)) pF)),(7,(.pick lS j2 pF))],[]⟩ [] 44 52 [(pc o5 2),(pi 0),Ku]
 (.call ⟨[(9,vg)],[]⟩ [] 51 52 [(pc o5 1),(pi 0),Ku]
 (.ite (.pick (.nt mI) pT (.pick (aU (pc o5 0) (pi 4)) (aU (pc o5 8) (pi 0)) pF))
 (.ret pF)
 (.blockS ⟨[(64,(pc o5 0))],[]⟩ 0 [6,65,66,80,81,100,101,111,112] []
 (.iteS ⟨[],[]⟩ (.pick (peq ln (pi 0)) (peq ln (pi 0)) (.pick (peq ln (pi 1)) (peq ln (pi 1)) (peq ln (pi 2)))) [6,80,81,100,101,111,112] []
 (.ret (.pick (.pick r9 (peq (pc o5 4) (pi (-1))) pF) (peq (pc o5 5) (pi 0)) pF))
 (.iteS ⟨[],[]⟩ (.pick (peq ln (pi 3)) (peq ln (pi 3)) (.pick (peq ln (pi 5)) (peq ln (pi 5)) (peq ln (pi 4)))) [6,100,101,111,112] []
 (.call ⟨[(90,(.pick r9 (peq (pc o5 4) (pi (-1))) pF))],[]⟩ [(90,true)] 93 52 [(pc o5 5),(pi 0),Bn]
 (.call ⟨[(95,(.pick Ry Bt pF))],[]⟩ [(95,true)] 98 52 [(pc o5 8),(pi 0),(pi 1)]
 (.ret (.pick r95 RA pF))))
 (.iteS ⟨[],[]⟩ (peq ln (pi 6)) [6,111,112] []
 (.call ⟨[(106,(.pick r9 r8 pF))],[]⟩ [(106,true)] 109 52 [(pc o5 5),(pi 1),Bn]
 (.ret (.pick Rp aq3 pF)))
 (.ite (peq ln (pi 9))
 (.ret (.pick (.pick (peq (pc o5 2) (pi (-1))) r8 pF) (peq (pc o5 5) (pi 0)) pF))
 (.next ⟨[],[]⟩))
 (.next ⟨[],[]⟩))
 (.next ⟨[],[]⟩))
 (.next ⟨[],[]⟩))
 (.ret (.pick (.pick (peq (pc o5 2) (pi (-1))) r7 pF) (peq (pc o5 5) (pi 0)) pF)))))))))
theorem abo:HD.map told=some (TI,[]):=by kernel_rfl
theorem ats:tree (ae HD)=TI:=ba abo
def yQ:Option PC:=cF [2,3] [] Tryz.f54 54 [1,4,5]
def Mw:Nat→PC:=br yQ
def an7 (b:Nat→PC):PC:=.block 0 [2,9,10] [] (.loop [2,9] [] (b 0))
def KK (b:Nat→PC):PT:=
 (.ite (aj r9 r8)
 (.blockS ⟨[],[]⟩ 1 [2,3,4,11,12,13,14,15,16,17,18,27,28,33,34,35] [4]
 (.chk (ar r7 r9)
 (.call ⟨[(3,r9)],[(4,(.setc z3 0 (pn r7 r9)))]⟩ [] 16 52 [(pc (.setc z3 0 (pn r7 r9)) 0),(pi 0),(pi 4)]
 (.call ⟨[(18,(.nt cN))],[]⟩ [(18,false)] 25 52 [(pc o4 1),(pi 0),(bD (.llen (pc o1 15)) (pi 1))]
 (.call ⟨[(28,(.pick eg pT (.nt jI)))],[]⟩ [(28,false)] 31 52 [(pc o4 2),(pi 0),(pi 1)]
 (.ite (.pick rL pT (.nt rN))
 (.ret (pi 1))
 (.ite (peq r3 (pi 0))
 (.exit 1 ⟨[],[]⟩)
 (.chk (ar (pc o1 18) (bD r3 (pi 1)))
 (.call ⟨[],[(5,(.setc z3 0 (pn (pc o1 18) (bD r3 (pi 1)))))]⟩ [] 46 103 [(pc (.setc z3 0 (pn (pc o1 18) (bD r3 (pi 1)))) 1),(pc o4 1)]
 (.call ⟨[],[]⟩ [] 51 103 [(pc o5 0),(pc o4 0)]
 (.call ⟨[],[]⟩ [] 53 102 [(.lst [Fa,mI])]
 (.ite (cL Ru (pi 0))
 (.ret (pi 5))
 (.next ⟨[],[]⟩))))))))))))
 (.next ⟨[(9,(aN r9 (pi 1)))],[]⟩))
 (.exit 0 ⟨[(10,(aj r9 r8))],[]⟩))
def TL (b:Nat→PC):PT:=
 (.brk ⟨[(9,(pi 0)),(8,(.llen (pc (.mk [r0]) 18))),(7,(pc (.mk [r0]) 18)),(2,(pi 0))],[(1,(.mk [r0]))]⟩
(an7 b)
 (.ret (pi 0)))
def ajr (b:Nat→PC):PT×List (Shp×PT):=(TL b,[(.lp 0 [2,9,10] [] [2,9] [],KK b)])
theorem Qj:yQ.map told=some (ajr (bq yQ)):=by kernel_rfl
theorem atv:tree (ae yQ)=TL Mw:=bN Qj
theorem adp:round 0 [2,9,10] [] [2,9] [] (Mw 0)=KK Mw:=bj Qj 0 fun _=>rfl
def Hp:Option PC:=cF [4,5,6] [] Tryz.f103 103 []
def To:PT:=
 (.call ⟨[],[]⟩ [] 8 145 [r0]
 (.call ⟨[(5,r8)],[]⟩ [] 10 145 [r1]
 (.ite r5
 (.ite di
 (.ret (pi 0))
 (.ret (pi (-1))))
 (.ite di
 (.ret (pi 1))
 (.ite (aj r0 r1)
 (.ret (pi (-1)))
 (.ite (aZ r0 r1)
 (.ret (pi 1))
 (.ret (pi 0))))))))
theorem aba:Hp.map told=some (To,[]):=by kernel_rfl
theorem as7:tree (ae Hp)=To:=ba aba
def Hq:Option PC:=cF [2] [] Tryz.f145 145 []
def Tq:PT:=
 (.ret (aU r0 r0))
theorem abb:Hq.map told=some (Tq,[]):=by kernel_rfl
theorem as9:tree (ae Hq)=Tq:=ba abb
def yK:Option PC:=cF [2,3,5] [] Tryz.f102 102 []
def Mr:Nat→PC:=br yK
def anY (b:Nat→PC):PC:=.block 0 [2,8,9] [] (.loop [2,8] [] (b 0))
def Fk (b:Nat→PC):PT:=
 (.ite (aj r8 r7)
 (.chk (ar r6 r8)
 (.ite (aU (pn r6 r8) r3)
 (.ret (pn r6 r8))
 (.next ⟨[(8,tC)],[]⟩)))
 (.exit 0 ⟨[(9,(aj r8 r7))],[]⟩))
def Tp (b:Nat→PC):PT:=
 (.brk ⟨[(8,(pi 0)),(7,(.llen r0)),(6,r0),(3,(pi 0)),(2,(pi 0))],[]⟩
(anY b)
 (.ret r3))
def ajk (b:Nat→PC):PT×List (Shp×PT):=(Tp b,[(.lp 0 [2,8,9] [] [2,8] [],Fk b)])
theorem Qe:yK.map told=some (ajk (bq yK)):=by kernel_rfl
theorem as8:tree (ae yK)=Tp Mr:=bN Qe
theorem RG:round 0 [2,8,9] [] [2,8] [] (Mr 0)=Fk Mr:=bj Qe 0 fun _=>rfl
def yO:Option PC:=cF [5] [] Tryz.f27 27 [2,4,6]
def Mu:Nat→PC:=br yO
def an3 (b:Nat→PC):PC:=.block 0 [5,7,8,9,10] [2] (.loop [5] [2] (b 0))
def KI (b:Nat→PC):PT:=
 (.ite (aj r5 (.llen r1))
 (.blockS ⟨[],[]⟩ 1 [6,13,14,15,16,17,18,19,20,24,25,29,30,37,38,42,43,47] [6,2]
 (.chk (ar r1 r5)
 (.iteS ⟨[],[(6,xJ)]⟩ (.pick (.pick (.pick (.pick (.pick (cL (pc xJ 0) (pi 0)) (aj (pc xJ 0) (pi 5)) pF) (cL (pc xJ 1) (pi 0)) pF) (aj (pc xJ 1) (.llen (pc o2 15))) pF) (cL (pc xJ 2) (pi 0)) pF) (bM (pc xJ 2) (pi 1)) pF) [] [2]
 (.call ⟨[],[]⟩ [] 50 60 [(ax 19 o2),(.mk [(pc o6 0),(pc o6 1),(pc o6 2)])]
 (.next ⟨[],[(2,(.setc o2 0 lV))]⟩))
 (.next ⟨[],[]⟩)
 (.next ⟨[],[]⟩)))
 (.next ⟨[(5,tD)],[]⟩))
 (.exit 0 ⟨[(7,r5),(8,r1),(9,(.llen r1)),(10,(aj r5 (.llen r1)))],[]⟩))
def Tw (b:Nat→PC):PT:=
 (.brk ⟨[(5,(pi 0))],[(4,Bm),(2,(.mk [r0]))]⟩
(an3 b)
 (.ret (ax 19 (.setc o4 0 (ax 19 o2)))))
def ajo (b:Nat→PC):PT×List (Shp×PT):=(Tw b,[(.lp 0 [5,7,8,9,10] [2] [5] [2],KI b)])
theorem Qh:yO.map told=some (ajo (bq yO)):=by kernel_rfl
theorem atg:tree (ae yO)=Tw Mu:=bN Qh
theorem adn:round 0 [5,7,8,9,10] [2] [5] [2] (Mu 0)=KI Mu:=bj Qh 0 fun _=>rfl
def y6:Option PC:=cF [6,8] [] Tryz.f60 60 [2,77826,3,4,5,7,9]
def Cn:Nat→PC:=br y6
def aor (b:Nat→PC):PC:=.block 0 [5,6,18,19,20,21,22] [5] (.loop [5,6] [5] (b 0))
def aos (b:Nat→PC):PC:=.block 2 [5,8,57,58,59,60,61] [5] (.loop [5,8] [5] (b 1))
def By (b:Nat→PC):PT:=
 (.ite (aj r6 xK)
 (.chk (ar (pc o2 18) r6)
 (.ite (.pick (aj (pc Bi 1) (pc o3 1)) pT (.pick (peq (pc Bi 1) (pc o3 1)) (aj (pc Bi 0) (pc o3 0)) pF))
 (.chk (bM (.llen acG) cM)
 (.next ⟨[(5,pN),(6,(aN r6 (pi 1)))],[(5,acG)]⟩))
 (.next ⟨[(6,(aN r6 (pi 1)))],[]⟩)))
 (.exit 0 ⟨[(18,r6),(19,pN),(20,(pc o2 18)),(21,xK),(22,(aj r6 xK))],[]⟩))
def Bz (b:Nat→PC):PT:=
 (.ite (aj r8 xK)
 (.chk (ar (pc o2 18) r8)
 (.ite (.pick (aZ (pc Bh 1) (pc o3 1)) pT (.pick (peq (pc Bh 1) (pc o3 1)) (aZ (pc Bh 0) (pc o3 0)) pF))
 (.chk (bM (.llen acH) cM)
 (.next ⟨[(5,pN),(8,tC)],[(5,acH)]⟩))
 (.next ⟨[(8,tC)],[]⟩)))
 (.exit 2 ⟨[(57,r8),(58,pN),(59,(pc o2 18)),(60,xK),(61,(aj r8 xK))],[]⟩))
def T9 (b:Nat→PC):PT:=
 (.call ⟨[],[(4,Bm),(3,(.mk [r1])),(2,(.mk [r0]))]⟩ [] 15 106 [(ax 19 (.mk [r0])),Bp,Bo]
 (.ite (pc gZ 0)
 (.ret (ax 19 (.setc o4 0 (ax 19 o2))))
 (.brk ⟨[(6,(pi 0)),(5,pN)],[(5,pL)]⟩
(aor b)
 (.chk (bM (.llen (.app o5 (.lst [(.mk [(pc o3 0),(pc o3 1),(pc o3 2)])]))) cM)
 (.brk ⟨[(8,(pi 0)),(5,pN)],[(5,(.app o5 (.lst [(.mk [(pc o3 0),(pc o3 1),(pc o3 2)])])))]⟩
(aos b)
 (.ret (ax 19 (.setc o4 0 (.mk [(pc j1 0),(pc j1 1),(pc j1 2),(pc j1 3),(pc j1 4),(pc j1 5),(pc j1 6),(pc j1 7),(pc j1 8),(pc j1 9),(pc j1 10),(pc j1 11),(pc j1 12),(pc j1 13),(pc j1 14),(pc j1 15),(pc j1 16),(pc j1 17),o5])))))))))
def ajF (b:Nat→PC):PT×List (Shp×PT):=(T9 b,[(.lp 0 [5,6,18,19,20,21,22] [5] [5,6] [5],By b),(.lp 2 [5,8,57,58,59,60,61] [5] [5,8] [5],Bz b)])
theorem J1:y6.map told=some (ajF (bq y6)):=by kernel_rfl
theorem atV:tree (ae y6)=T9 Cn:=bN J1
theorem KP:round 0 [5,6,18,19,20,21,22] [5] [5,6] [5] (Cn 0)=By Cn:=bj J1 0 fun _=>rfl
theorem KQ:round 2 [5,8,57,58,59,60,61] [5] [5,8] [5] (Cn 1)=Bz Cn:=bj J1 1 fun _=>rfl
def y5:Option PC:=cF [7] [] Tryz.f106 106 [3,6]
def MD:Nat→PC:=br y5
def aoq (b:Nat→PC):PC:=.block 0 [7,8,9,10,11,12] [6] (.loop [7] [6] (b 0))
def Bx (b:Nat→PC):PT:=
 (.ite (aj r7 (.llen (pc o3 18)))
 (.chk (ar (pc o3 18) r7)
 (.chk (.nt (.an (.an (peq (pc (pn (pc o3 18) r7) 0) r1) pT) (.nt (ar (pc o3 18) r7))))
 (.ite (.pick (peq (pc (pn (pc o3 18) r7) 0) r1) (peq (pc (pn (pc o3 18) r7) 1) r2) pF)
 (.ite (peq (pc (pn (pc o3 18) r7) 2) (pi 0))
 (.ret (.mk [(pc (.setc o6 0 (.mk [pT,(pi 0)])) 0),(pc (.setc o6 0 (.mk [pT,(pi 0)])) 1)]))
 (.ret (.mk [(pc (.setc o6 0 (.mk [pT,(pi 1)])) 0),(pc (.setc o6 0 (.mk [pT,(pi 1)])) 1)])))
 (.next ⟨[(7,(aN r7 (pi 1)))],[]⟩))))
 (.exit 0 ⟨[(8,r7),(9,pN),(10,(pc o3 18)),(11,(.llen (pc o3 18))),(12,(aj r7 (.llen (pc o3 18))))],[]⟩))
def T7 (b:Nat→PC):PT:=
 (.brk ⟨[(7,(pi 0))],[(6,fG),(3,(.mk [r0]))]⟩
(aoq b)
 (.ret Re))
def ajE (b:Nat→PC):PT×List (Shp×PT):=(T7 b,[(.lp 0 [7,8,9,10,11,12] [6] [7] [6],Bx b)])
theorem Qq:y5.map told=some (ajE (bq y5)):=by kernel_rfl
theorem atT:tree (ae y5)=T7 MD:=bN Qq
theorem KO:round 0 [7,8,9,10,11,12] [6] [7] [6] (MD 0)=Bx MD:=bj Qq 0 fun _=>rfl
def Hi:Option PC:=fu {ctx with fr:=[6],nh:=[]} Tryz.f40 ⟨[Y8,I,l9],.slice I,.dat⟩ [3,5,7,8,42,9]
def Tf:PT:=
 (.chk (ar (pc (.mk [r2]) 15) (pc (.mk [r2]) 19))
 (.ite acL
 (.ret pL)
 (.chk (.an (cL (pi 5) (pi 0)) (bM (pi 5) cM))
 (.chk (peq (pi 5) (pi 5))
 (.chk (ar (.rep (pi 5) (pi 0)) (pi 0))
 (.call ⟨[],[(9,(.setn (.rep (pi 5) (pi 0)) (pi 0) 0 r1)),(8,(.setc GA 0 (ax 15 (.mk [r2])))),(7,Bg),(3,(.mk [r0]))]⟩ [] 50 57 [lg,(pc Bg 7)]
 (.chk (ar o9 (pi 1))
 (.call ⟨[],[(9,(.setn o9 (pi 1) 0 lV))]⟩ [] 56 57 [(ax 8 o3),(pc o8 10)]
 (.chk (ar o9 (pi 2))
 (.call ⟨[],[(9,(.setn o9 (pi 2) 0 oV))]⟩ [] 62 57 [(ax 8 o3),(pc o8 9)]
 (.chk (ar o9 (pi 3))
 (.chk (ar (pc o3 3) (pc o7 2))
 (.call ⟨[],[(9,(.setn o9 (pi 3) 0 ny))]⟩ [] 73 57 [(ax 8 o3),(pc (pn (pc o3 3) (pc o7 2)) 1)]
 (.chk (ar o9 (pi 4))
 (.call ⟨[],[(9,(.setn o9 (pi 4) 0 Fe))]⟩ [] 76 81 [(.setn o9 (pi 4) 0 Fe),(pi (-1))]
 (.ite qy
 (.ret pL)
 (.ret o9)))))))))))))))))
theorem aaZ:Hi.map told=some (Tf,[]):=by kernel_rfl
theorem asX:tree (ae Hi)=Tf:=ba aaZ
def Hj:Option PC:=fu {ctx with fr:=[6],nh:=[]} Tryz.f40 ⟨[Y8,I,l9],.nils .bool,.dat⟩ [3,5,7,8,42,9]
def Lx:PT:=
 (.chk (ar (pc (.mk [r2]) 15) (pc (.mk [r2]) 19))
 (.ite acL
 (.ret pL)
 (.chk (.an (cL (pi 5) (pi 0)) (bM (pi 5) cM))
 (.chk (peq (pi 5) (pi 5))
 (.chk (ar (.rep (pi 5) (pi 0)) (pi 0))
 (.call ⟨[],[(9,(.setn (.rep (pi 5) (pi 0)) (pi 0) 0 r1)),(8,(.setc GA 0 (ax 15 (.mk [r2])))),(7,Bg),(3,(.mk [r0]))]⟩ [] 50 57 [lg,(pc Bg 7)]
 (.chk (ar o9 (pi 1))
 (.call ⟨[],[(9,(.setn o9 (pi 1) 0 lV))]⟩ [] 56 57 [(ax 8 o3),(pc o8 10)]
 (.chk (ar o9 (pi 2))
 (.call ⟨[],[(9,(.setn o9 (pi 2) 0 oV))]⟩ [] 62 57 [(ax 8 o3),(pc o8 9)]
 (.chk (ar o9 (pi 3))
 (.chk (ar (pc o3 3) (pc o7 2))
 (.call ⟨[],[(9,(.setn o9 (pi 3) 0 ny))]⟩ [] 73 57 [(ax 8 o3),(pc (pn (pc o3 3) (pc o7 2)) 1)]
 (.chk (ar o9 (pi 4))
 (.call ⟨[],[]⟩ [] 76 81 [(.setn o9 (pi 4) 0 Fe),(pi (-1))]
 (.ite qy
 (.ret pL)
 (.chk pF
 (.next ⟨[],[]⟩))))))))))))))))))
theorem aa0:Hj.map told=some (Lx,[]):=by kernel_rfl
theorem asY:tree (ae Hj)=Lx:=ba aa0
end Rm
namespace Rm
open Go Go.Proofs Cx
def QS:List Nat:=[5,6,28,30,29,8,33,39,24,49,26,56,55,104,57,105,58,59,69,81,124,70,111,151,150,173,112,34,71,114,113,115,152,153,174,175,72,12,13,15,20,42,17,18,22,10,45,90,44,84,128,129,163,199,200,215,130,131,132,164,133,134,135,136,137,85,86,87,88,138,165,166,201,203,216,202,99,89,139,140,167,205,7,31,61,62,63,107,146,32,64,108,147,172,148,109,74,149,65,66,110,67,68,25,50,97,98,51,52,100,143,144,53,101,54,103,145,102,27,60,106]
def Ba:List (Nat×PC):=[(5,(ae yN)),(6,(ae Hx)),(28,(ae Hw)),(30,(ae Hv)),(29,(ae Ht)),(8,(ae Ha)),(33,(ae Hg)),(39,(ae Hh)),(24,(ae zl)),(49,(ae HX)),(26,(ae zo)),(56,(ae HV)),(55,(ae HY)),(104,(ae zp)),(57,(ae HS)),(105,(ae HT)),(58,(ae HW)),(59,(ae zm)),(69,(ae HA)),(81,(ae H0)),(124,(ae zt)),(70,(ae yL)),(111,(ae Hr)),(151,(ae Hs)),(150,(ae HZ)),(173,(ae zr)),(112,(ae yM)),(34,(ae Hy)),(71,(ae HB)),(114,(ae HC)),(113,(ae zq)),(115,(ae H6)),(152,(ae wc)),(153,(ae zz)),(174,(ae H8)),(175,(ae H9)),(72,(ae H7)),(12,(ae za)),(13,(ae Hf)),(15,(ae Hd)),(20,(ae CE)),(42,(ae Hz)),(17,(ae y7)),(18,(ae He)),(22,(ae Hc)),(10,(ae Hb)),(45,(ae zn)),(90,(ae zw)),(44,(ae CJ)),(84,(ae zb)),(128,(ae zg)),(129,(ae ze)),(163,(ae HU)),(199,(ae zf)),(200,(ae H2)),(215,(ae zu)),(130,(ae HO)),(131,(ae HP)),(132,(ae zd)),(164,(ae zj)),(133,(ae HQ)),(134,(ae HR)),(135,(ae zh)),(136,(ae zk)),(137,(ae zi)),(85,(ae H4)),(86,(ae H5)),(87,(ae H3)),(88,(ae CL)),(138,(ae CK)),(165,(ae CG)),(166,(ae Ho)),(201,(ae Hk)),(203,(ae Hm)),(216,(ae CI)),(202,(ae CH)),(99,(ae zc)),(89,(ae zx)),(139,(ae zy)),(140,(ae yJ)),(167,(ae Hl)),(205,(ae Hn)),(7,(ae Hu)),(31,(ae y9)),(61,(ae yT)),(62,(ae HM)),(63,(ae y8)),(107,(ae HN)),(146,(ae vZ)),(32,(ae HI)),(64,(ae yY)),(108,(ae HL)),(147,(ae yU)),(172,(ae HJ)),(148,(ae yS)),(109,(ae yV)),(74,(ae HK)),(149,(ae yX)),(65,(ae yZ)),(66,(ae y2)),(110,(ae yW)),(67,(ae y4)),(68,(ae y3)),(25,(ae vY)),(50,(ae CT)),(97,(ae Ia)),(98,(ae Ib)),(51,(ae yR)),(52,(ae HG)),(100,(ae HF)),(143,(ae HE)),(144,(ae HH)),(53,(ae yP)),(101,(ae HD)),(54,(ae yQ)),(103,(ae Hp)),(145,(ae Hq)),(102,(ae yK)),(27,(ae yO)),(60,(ae y6)),(106,(ae y5))]
def tab:Nat→Option PC:=aV Ba
theorem acv:Ba.map (·.1)=QS:=by kernel_rfl
theorem aqE:(Ba.map (·.1)).Nodup:=by rw[acv];exact lL (by kernel_rfl)
theorem lA (k:Nat){f:Nat}{x:PC}(h:Ba[k]?=some (f,x)):tab f=some x:=oI aqE h
theorem Ws:tab 152=some (ae wc):=lA 32 (by kernel_rfl)
theorem Wn:tab 20=some (ae CE):=lA 40 (by kernel_rfl)
theorem Wr:tab 44=some (ae CJ):=lA 48 (by kernel_rfl)
theorem yH:tab 88=some (ae CL):=lA 68 (by kernel_rfl)
theorem G3:tab 138=some (ae CK):=lA 69 (by kernel_rfl)
theorem Wo:tab 165=some (ae CG):=lA 70 (by kernel_rfl)
theorem Wp:tab 216=some (ae CI):=lA 74 (by kernel_rfl)
theorem G2:tab 202=some (ae CH):=lA 75 (by kernel_rfl)
theorem Wq:tab 146=some (ae vZ):=lA 88 (by kernel_rfl)
theorem agr:tab 25=some (ae vY):=lA 103 (by kernel_rfl)
theorem agC:tab 50=some (ae CT):=lA 104 (by kernel_rfl)
theorem caps:∀f cs,aV CA f=some cs→(jY cs.args cs.res=none→aV eE f=some ⟨cs.args++cs.caps,cs.res,.dat⟩)∧∀ys,jY cs.args cs.res=some ys→fe QS f=false∧BR Tryz.prog f=true:=M5 (l:=CA) (sig:=eE) (P:=Tryz.prog) (pcs:=QS) (by kernel_rfl)
theorem clos:dt ctx:=⟨(fun f cs h=>(caps f cs h).1),fun f s h=>aen (l:=eE) (P:=Tryz.prog) (by kernel_rfl) f s h⟩
theorem its:∀f cs ys,ctx.cap f=some cs→jY cs.args cs.res=some ys→tab f=none∧∃fn,ctx.P.funcs[f]?=some fn∧fn.body.isSome=true∧(fn.name== "runtime.NumGoroutine")=false:=fun f cs ys h hi=>⟨PS (l:=Ba) (by rw[acv];exact((caps f cs h).2 ys hi).1),aeo ((caps f cs h).2 ys hi).2⟩
theorem asy:∀f pc,tab f=some pc→∃fn s ids fr nh,ctx.P.funcs[f]?=some fn∧ctx.sig f=some s∧fu {ctx with fr:=fr,nh:=nh} fn s ids=some pc:=
 EH (R:=fun f pc=>∃fn s ids fr nh,ctx.P.funcs[f]?=some fn∧ctx.sig f=some s∧fu {ctx with fr:=fr,nh:=nh} fn s ids=some pc) (l:=Ba)
  (aD (aG [5,8,12,14,17,112,126,19] [10,11,13,15,16,18] [] Tryz.func5 rfl (aB yN JT))
  (aD (aG [1,2,3,4,5,6,73] [0,7,8,9] [] Tryz.func6 rfl (aB Hx abi))
  (aD (aG [0,24576,28672,32768,1,12289,2,3,12291,4] [5] [] Tryz.func28 rfl (aB Hw abh))
  (aD (aG [2,69634,73730,3,4] [] [] Tryz.func30 rfl (aB Hv abg))
  (aD (aG [1,2] [] [] Tryz.func29 rfl (aB Ht abe))
  (aD (aG [4,7,8,9] [10] [] Tryz.func8 rfl (aB Ha aaQ))
  (aD (aG [4,7,8,10,16394] [9,11,12,13,14] [] Tryz.func33 rfl (aB Hg aaX))
  (aD (aG [2,3,4] [5] [] Tryz.func39 rfl (aB Hh aaY))
  (aD (aG [2,4,65540,69636,73732,77828,5,65541,69637,73733,77829,7,31,9,49,11,13] [1000004,1000005] [] Tryz.func24 rfl (aB zl AS))
  (aD (aG [] [4] [] Tryz.func49 rfl (aB HX abJ))
  (aD (aG [2,3,5,6,8,10,90,139] [4,7,9,11,12,13,14,15,16] [] Tryz.func26 rfl (aB zo J6))
  (aD (aG [2] [3] [] Tryz.func56 rfl (aB HV abH))
  (aD (aG [] [4] [] Tryz.func55 rfl (aB HY abK))
  (aD (aG [] [4,5] [] Tryz.func104 rfl (aB zp QD))
  (aD (aG [2] [4] [] Tryz.func57 rfl (aB HS abE))
  (aD (aG [] [4] [] Tryz.func105 rfl (aB HT abF))
  (aD (aG [2] [] [] Tryz.func58 rfl (aB HW abI))
  (aD (aG [3,6,8] [] [] Tryz.func59 rfl (aB zm QC))
  (aD (aG [] [2,3,4,11] [] Tryz.func69 rfl (aB HA abl))
  (aD (aG [] [4] [] Tryz.func81 rfl (aB H0 abM))
  (aD (aG [] [4,5] [] Tryz.func124 rfl (aB zt QG))
  (aD (aG [4,10,53] [8,9,11,12,13,14,55,70] [] Tryz.func70 rfl (aB yL Qf))
  (aD (aG [4,9] [8] [] Tryz.func111 rfl (aB Hr abc))
  (aD (aG [] [3] [] Tryz.func151 rfl (aB Hs abd))
  (aD (aG [] [4] [] Tryz.func150 rfl (aB HZ abL))
  (aD (aG [] [4,5] [] Tryz.func173 rfl (aB zr QF))
  (aD (aG [4,11] [8,9] [] Tryz.func112 rfl (aB yM Qg))
  (aD (aG [3,6,8,10] [7,9,11,12] [] Tryz.func34 rfl (aB Hy abj))
  (aD (aG [2,3,4,12292,9] [5,6,7,8,10,11] [] Tryz.func71 rfl (aB HB abm))
  (aD (aG [2] [3] [] Tryz.func114 rfl (aB HC abn))
  (aD (aG [] [4,5] [] Tryz.func113 rfl (aB zq QE))
  (aD (aG [1] [2,3] [] Tryz.func115 rfl (aB H6 abU))
  (aD (aG [2,7,12295] [4,5] [] Tryz.func152 rfl (aB wc QL))
  (aD (aG [1,4,6,12294,9] [2,3,5,7,8,38,47,10,11,12] [] Tryz.func153 rfl (aB zz J9))
  (aD (aG [1] [2,3,12,20,4,5] [] Tryz.func174 rfl (aB H8 ab0))
  (aD (aG [2] [4,8,13,17,21] [] Tryz.func175 rfl (aB H9 ab3))
  (aD (aG [2,4,7] [5,6,8] [] Tryz.func72 rfl (aB H7 abV))
  (aD (aG [2,3] [4,5] [] Tryz.func12 rfl (aB za Qv))
  (aD (aG [1] [2,3,7,12] [] Tryz.func13 rfl (aB Hf aaW))
  (aD (aG [1] [2] [] Tryz.func15 rfl (aB Hd aaU))
  (aD (aG [4,7,9] [8,10] [] Tryz.func20 rfl (aB CE aaT))
  (aD (aG [3,7] [6,8] [] Tryz.func42 rfl (aB Hz abk))
  (aD (aG [] [4,5] [] Tryz.func17 rfl (aB y7 Qr))
  (aD (aG [3,5] [6,7] [] Tryz.func18 rfl (aB He aaV))
  (aD (aG [4,6] [8,9,10,11] [] Tryz.func22 rfl (aB Hc aaS))
  (aD (aG [5,8,77832,10] [] [] Tryz.func10 rfl (aB Hb aaR))
  (aD (aG [1,3,6,8] [2,4] [] Tryz.func45 rfl (aB zn J5))
  (aD (aG [] [2,3,4] [] Tryz.func90 rfl (aB zw QI))
  (aD (aG [4,5,10] [8,9,15,39,58,74,11,12] [] Tryz.func44 rfl (aB CJ abO))
  (aD (aG [1,9] [2,3,4,5,6,7,10,11,12] [] Tryz.func84 rfl (aB zb Qw))
  (aD (aG [1,2,3,4,6,16390,20486,24582,21,8,34,10,12298,16394,47] [] [] Tryz.func128 rfl (aB zg EO))
  (aD (aG [] [6,7,8] [] Tryz.func129 rfl (aB ze Qz))
  (aD (aG [] [4] [] Tryz.func163 rfl (aB HU abG))
  (aD (aG [] [2,3,4,5] [] Tryz.func199 rfl (aB zf QA))
  (aD (aG [] [4] [] Tryz.func200 rfl (aB H2 abN))
  (aD (aG [] [4,5] [] Tryz.func215 rfl (aB zu QH))
  (aD (aG [] [2] [] Tryz.func130 rfl (aB HO abA))
  (aD (aG [] [3] [] Tryz.func131 rfl (aB HP abB))
  (aD (aG [2,3] [4,6] [] Tryz.func132 rfl (aB zd Qy))
  (aD (aG [] [6,7,8] [] Tryz.func164 rfl (aB zj QB))
  (aD (aG [] [3] [] Tryz.func133 rfl (aB HQ abC))
  (aD (aG [] [3] [] Tryz.func134 rfl (aB HR abD))
  (aD (aG [1,3,4,6,19,8,16392,36] [2] [] Tryz.func135 rfl (aB zh J2))
  (aD (aG [1,4,6] [2,3] [] Tryz.func136 rfl (aB zk J4))
  (aD (aG [1,4,6] [2] [] Tryz.func137 rfl (aB zi J3))
  (aD (aG [2] [4] [] Tryz.func85 rfl (aB H4 abS))
  (aD (aG [] [2] [] Tryz.func86 rfl (aB H5 abT))
  (aD (aG [1] [2] [] Tryz.func87 rfl (aB H3 abP))
  (aD (aG [3,4] [6,7,13,16,24,33,8,9] [] Tryz.func88 rfl (aB CL abR))
  (aD (aG [3] [4,5] [] Tryz.func138 rfl (aB CK abQ))
  (aD (aG [] [4,5,6,7,8,9] [] Tryz.func165 rfl (aB CG aa2))
  (aD (aG [] [2] [] Tryz.func166 rfl (aB Ho aa9))
  (aD (aG [] [2,3,4,5,6,7,8,9] [] Tryz.func201 rfl (aB Hk aa4))
  (aD (aG [] [4] [] Tryz.func203 rfl (aB Hm aa6))
  (aD (aG [] [6,0,1] [] Tryz.func216 rfl (aB CI aa7))
  (aD (aG [] [6,7,8] [] Tryz.func202 rfl (aB CH aa3))
  (aD (aG [3,9] [6,7] [] Tryz.func99 rfl (aB zc Qx))
  (aD (aG [3] [6,7,8,2,9,10] [] Tryz.func89 rfl (aB zx QJ))
  (aD (aG [3,9] [6,7,2] [] Tryz.func139 rfl (aB zy J8))
  (aD (aG [2,4,5] [6] [] Tryz.func140 rfl (aB yJ Qc))
  (aD (aG [3,4,5] [6] [] Tryz.func167 rfl (aB Hl aa5))
  (aD (aG [2] [4,5,6,7] [] Tryz.func205 rfl (aB Hn aa8))
  (aD (aG [2,3] [4] [] Tryz.func7 rfl (aB Hu abf))
  (aD (aG [2,3] [4,5] [] Tryz.func31 rfl (aB y9 Qu))
  (aD (aG [1] [2,3,4] [] Tryz.func61 rfl (aB yT JV))
  (aD (aG [1] [2] [] Tryz.func62 rfl (aB HM aby))
  (aD (aG [1] [2,3] [] Tryz.func63 rfl (aB y8 Qt))
  (aD (aG [1] [2] [] Tryz.func107 rfl (aB HN abz))
  (aD (aG [3] [6,1,7] [] Tryz.func146 rfl (aB vZ Qs))
  (aD (aG [1] [2,3] [] Tryz.func32 rfl (aB HI abu))
  (aD (aG [1,5,44] [2,3,4,6,7] [] Tryz.func64 rfl (aB yY JX))
  (aD (aG [] [4] [] Tryz.func108 rfl (aB HL abx))
  (aD (aG [] [2,3,4] [] Tryz.func147 rfl (aB yU Qm))
  (aD (aG [] [2] [] Tryz.func172 rfl (aB HJ abv))
  (aD (aG [] [6,7] [] Tryz.func148 rfl (aB yS Ql))
  (aD (aG [2,3] [4,5] [] Tryz.func109 rfl (aB yV Qn))
  (aD (aG [] [6] [] Tryz.func74 rfl (aB HK abw))
  (aD (aG [] [6,7] [] Tryz.func149 rfl (aB yX Qo))
  (aD (aG [1,4,44] [2,3,5,6] [] Tryz.func65 rfl (aB yZ JY))
  (aD (aG [1,3,24] [2,4,5] [] Tryz.func66 rfl (aB y2 Qp))
  (aD (aG [1] [2,3,4] [] Tryz.func110 rfl (aB yW JW))
  (aD (aG [1,4] [2,3,5] [] Tryz.func67 rfl (aB y4 J0))
  (aD (aG [1,4,6] [2,3,5] [] Tryz.func68 rfl (aB y3 JZ))
  (aD (aG [2,3,10] [4,5,6,7,8,11] [] Tryz.func25 rfl (aB vY JU))
  (aD (aG [2,3] [4,5,6,7,8,54,80,109,118,9,10] [] Tryz.func50 rfl (aB CT ab5))
  (aD (aG [] [4] [] Tryz.func97 rfl (aB Ia ab6))
  (aD (aG [1,3] [2,8,19,40] [] Tryz.func98 rfl (aB Ib ab7))
  (aD (aG [3,4,7,11] [6,8,9,76,92,98] [] Tryz.func51 rfl (aB yR Qk))
  (aD (aG [] [6] [] Tryz.func52 rfl (aB HG abr))
  (aD (aG [3,4,7,8] [6,9,10,66,103,113,11,140,149] [] Tryz.func100 rfl (aB HF abq))
  (aD (aG [3] [6,7] [] Tryz.func143 rfl (aB HE abp))
  (aD (aG [3] [6] [] Tryz.func144 rfl (aB HH abt))
  (aD (aG [2,3,6] [4,5,7] [] Tryz.func53 rfl (aB yP Qi))
  (aD (aG [3,4,5] [6,7,8,9,65,80,100,111] [] Tryz.func101 rfl (aB HD abo))
  (aD (aG [1,4,5] [2,3] [] Tryz.func54 rfl (aB yQ Qj))
  (aD (aG [] [4,5,6] [] Tryz.func103 rfl (aB Hp aba))
  (aD (aG [] [2] [] Tryz.func145 rfl (aB Hq abb))
  (aD (aG [] [2,3,5] [] Tryz.func102 rfl (aB yK Qe))
  (aD (aG [2,4,6] [5] [] Tryz.func27 rfl (aB yO Qh))
  (aD (aG [2,77826,3,4,5,7,9] [6,8] [] Tryz.func60 rfl (aB y6 J1))
  (aD (aG [3,6] [7] [] Tryz.func106 rfl (aB y5 Qq))
  trivial)))))))))))))))))))))))))))))))))))))))))))))))))))))))))))))))))))))))))))))))))))))))))))))))))))))))))))))))))))))))))
def EV:List (Nat×PC):=[(178,(ae CP)),(176,(ae CM)),(116,(ae v8)),(154,(ae CQ)),(177,(ae CS)),(155,(ae CO)),(179,(ae CN)),(209,(ae CR)),(217,(ae CF)),(156,(ae v7))]
def mO:Nat→Option PC:=aV EV
theorem acu:EV.map (·.1)=[178,176,116,154,177,155,179,209,217,156]:=by kernel_rfl
theorem rF:(EV.map (·.1)).Nodup:=by rw[acu];exact lL (by kernel_rfl)
theorem agw:mO 178=some (ae CP):=oI rF (k:=0) (by kernel_rfl)
theorem agt:mO 176=some (ae CM):=oI rF (k:=1) (by kernel_rfl)
theorem agx:mO 116=some (ae v8):=oI rF (k:=2) (by kernel_rfl)
theorem agy:mO 154=some (ae CQ):=oI rF (k:=3) (by kernel_rfl)
theorem agA:mO 177=some (ae CS):=oI rF (k:=4) (by kernel_rfl)
theorem agv:mO 155=some (ae CO):=oI rF (k:=5) (by kernel_rfl)
theorem agu:mO 179=some (ae CN):=oI rF (k:=6) (by kernel_rfl)
theorem agz:mO 209=some (ae CR):=oI rF (k:=7) (by kernel_rfl)
theorem agq:mO 217=some (ae CF):=oI rF (k:=8) (by kernel_rfl)
theorem ags:mO 156=some (ae v7):=oI rF (k:=9) (by kernel_rfl)
theorem WH:∀f cs,aV CA f=some cs→(jY cs.args cs.res=none→aV eE f=some ⟨cs.args++cs.caps,cs.res,.dat⟩)∧∀ys,jY cs.args cs.res=some ys→fe [178,176,116,154,177,155,179,209,217,156] f=false∧BR Tryz.prog f=true:=M5 (l:=CA) (sig:=eE) (P:=Tryz.prog) (pcs:=[178,176,116,154,177,155,179,209,217,156]) (by kernel_rfl)
theorem aht:dt dM:=clos
theorem anL:∀f cs ys,dM.cap f=some cs→jY cs.args cs.res=some ys→mO f=none∧∃fn,dM.P.funcs[f]?=some fn∧fn.body.isSome=true∧(fn.name== "runtime.NumGoroutine")=false:=fun f cs ys h hi=>⟨PS (l:=EV) (by rw[acu];exact((WH f cs h).2 ys hi).1),aeo ((WH f cs h).2 ys hi).2⟩
theorem asz:∀f pc,mO f=some pc→∃fn s ids fr nh,dM.P.funcs[f]?=some fn∧dM.sig f=some s∧fu {dM with fr:=fr,nh:=nh} fn s ids=some pc:=
 EH (R:=fun f pc=>∃fn s ids fr nh,dM.P.funcs[f]?=some fn∧dM.sig f=some s∧fu {dM with fr:=fr,nh:=nh} fn s ids=some pc) (l:=EV)
  (aD ⟨Tryz.f178,(aV eE 178).getD default,[],[2],[],Tryz.func178,rfl,(aB CP abZ)⟩
  (aD ⟨Tryz.f176,(aV eE 176).getD default,[],[2,3,4,11],[],Tryz.func176,rfl,(aB CM abW)⟩
  (aD ⟨Tryz.f116,(aV eE 116).getD default,[2,3,4,6,33,7,8,10,12298,12],[5,15,21,9,11],[],Tryz.func116,rfl,(aB v8 QK)⟩
  (aD ⟨Tryz.f154,(aV eE 154).getD default,[2,4],[5,6],[],Tryz.func154,rfl,(aB CQ ab1)⟩
  (aD ⟨Tryz.f177,(aV eE 177).getD default,[2],[],[],Tryz.func177,rfl,(aB CS ab4)⟩
  (aD ⟨Tryz.f155,(aV eE 155).getD default,[4,5],[9,22,41,6,7,82,88,94],[],Tryz.func155,rfl,(aB CO abY)⟩
  (aD ⟨Tryz.f179,(aV eE 179).getD default,[],[6,8,14,20,25],[],Tryz.func179,rfl,(aB CN abX)⟩
  (aD ⟨Tryz.f209,(aV eE 209).getD default,[],[4,5,6,7],[],Tryz.func209,rfl,(aB CR ab2)⟩
  (aD ⟨Tryz.f217,(aV eE 217).getD default,[],[4,5,6,7,8,9,10,11,12,13],[],Tryz.func217,rfl,(aB CF aa1)⟩
  (aD ⟨Tryz.f156,(aV eE 156).getD default,[6],[2,3,5,8],[],Tryz.func156,rfl,(aB v7 J7)⟩
  trivial))))))))))
end Rm
set_option linter.unusedSimpArgs false
namespace Rm
open Go Go.Proofs Cx Go.RowKit Go.Lib
theorem anF:(Tryz.prog.info? 3).map (fun i=>(i.zero,i.size,i.bytes))=some (some (.int .i64 0),1,8):=by kernel_rfl
set_option maxHeartbeats 2000000 in
set_option maxRecDepth 100000 in
theorem aks (w:World):Calls Tryz.prog 180 #[.slice none 0 0,.int .i64 0] w fun e w'=>e=.returned (.slice none 0 0)∧w'=w:=by
 go_enter Tryz.func180,Tryz.ntmps180
 go_wp2
 go_ret
 exact⟨rfl,rfl⟩
set_option maxHeartbeats 2000000 in
set_option maxRecDepth 100000 in
theorem akr (n:Nat)(w:World)(h0:0<n)(h1:n≤4294967296):Calls Tryz.prog 180 #[.slice none 0 0,.int .i64 n] w fun e w'=>
 ∃v',e=.returned v'∧w'.ownsRow w.heap.size 3 1 v' 0 []∧Below w.heap.size w w':=by
 obtain⟨i0,hi,AF,td,hz2⟩:=info_parts anF;have hr:=run_append_nil_zeros w 48 3 48 3 i0 (.int .i64 0) .i64 .i64 Tryz.underlying48 Tryz.underlying3 hi AF n h0 (by rw[td];decide) (by omega) (by rw[hz2];omega);have hn:¬((n:Int)<0):=by omega
 have p9:(n:Int)>0:=by omega
 have hw:IntKind.i64.wrap (n:Int)=n:=by rw[IntKind.wrap_i64];omega
 have ry:IntKind.i64.wrap 0=0:=by decide
 have fA:=grownCap_ge w n 0 3;have hle:=grownCap_le_maxLen w n 0 3 (by unfold maxLen;omega);have hs:(Builtin.zeroCells #[Value.int IntKind.i64 0] n++Builtin.zeroCells #[Value.int IntKind.i64 0] (grownCap w n 0 3-n)).size=grownCap w n 0 3*1:=by
  rw[Array.size_append,size_zeroCells,size_zeroCells];simp;omega
 go_enter Tryz.func180,Tryz.ntmps180
 go_wp2_with (at_builtin;refine wpList_append_run _ rfl _ _ 48 3 rfl _ _ rfl rfl _ _ hr ?qc)
 go_ret
 refine⟨_,rfl,?_,?_⟩
 ·exact World.ownsRow.drew (World.ownsRow_made w _ _ (bf _) hle hs)
 ·exact((Below.refl _ w).alloc (bf _) _).drew
def zW (ds:List D):Option D:=
 match ds with
 |[.list [],.v (.int .i64 n)]=>if 0≤n∧n≤4294967296 then some (.list []) else none
 |_=>none
theorem XP (ds:List D)(d:D)(h:zW ds=some d):∃s,dM.sig 180=some s∧yr dM 180 s ds d:=by
 refine⟨_,rfl,fun _=>?_,fun shs obs hm=>by cases hm⟩;unfold zW at h;split at h
 case h_2=>cases h
 rename_i n;split at h
 case isFalse=>cases h
 rename_i hn;cases h;obtain⟨k,rfl⟩:=tW hn.1;intro σ w args av hC ha;obtain⟨a1,a2,a3⟩:=ha;have h0:=a3 0 _ rfl;have h1:=a3 1 _ rfl;obtain⟨u,v,rfl⟩:∃u v,args=#[u,v]:=by
  have:args.size=2:=by simpa using a1
  match args,this with
  |⟨[u,v]⟩,_=>exact⟨u,v,rfl⟩
 simp only[nJ,sm] at h0 h1;change Rep dM.cap σ (.nils .bool) u (.list []) at h0;change Rep dM.cap σ (.int .i64) v (.v (.int .i64 k)) at h1;have hu:u=.slice none 0 0:=by cases h0;rfl
 have hv:v=.int .i64 k:=by cases h1;rfl
 subst hu hv;by_cases hk:k=0
 ·subst hk;refine(aks w).mono fun e w' hh=>?_;obtain⟨rfl,rfl⟩:=hh;refine⟨_,σ,rfl,.refl σ,av,.refl _ _,fun _ _ _ h=>.inl h,fun _ _ h=>.inl h,?_⟩;exact⟨[],[],rfl,⟨by simp,.inl ⟨rfl,rfl⟩⟩,⟨fun _=>undef,fun i x hx=>by simp at hx,fun i j u hi=>by simp at hi⟩,fun k hk=>by cases hk⟩
 ·refine(akr k w (by omega) (by omega)).mono fun e w' hh=>?_;obtain⟨v',rfl,bX,hb⟩:=hh;refine⟨v',σ,rfl,.refl σ,av.below hb,hb,fun _ _ _ h=>.inl h,fun _ _ h=>.inl h,?_⟩;refine⟨[],[],rfl,bX,⟨fun _=>undef,fun i x hx=>by simp at hx,fun i j u hi=>by simp at hi⟩,fun k hk=>?_⟩;have bm:=(bX.lt k hk).1;refine⟨fun o=>?_,?_⟩
  ·cases hc:σ.c k o with
   |none=>rfl
   |some u=>have:=World.block_lt_of_cell? w (a:=⟨k,o,none⟩) (av.c _ _ _ hc);simp at this;omega
  ·cases hc:σ.m k with
   |none=>rfl
   |some u=>have:=(av.m _ _ hc).lt;omega
theorem VI {f:Nat}{s:Sig}{ds:List D}{d:D}(h:gh dM f s ds d):gh ctx f s ds d:=fun σ w args av hC ha=>
 h σ w args av ⟨fun g x hx=>(by cases hx),fun g x hx=>(by cases hx)⟩ ha
theorem akq (ds:List D)(d:D)(h:zW ds=some d):∃s,ctx.sig 180=some s∧yr ctx 180 s ds d:=by
 obtain⟨s,h1,h2⟩:=XP ds d h;refine⟨s,h1,fun hm=>VI (h2.1 hm),fun shs obs hm=>?_⟩;cases h1;cases hm
def Xs:List (Nat×(aL→List D→Option D)):=[(180,fun _ ds=>zW ds)]
def Xq:Nat→Option (aL→List D→Option D):=aV Xs
theorem aei:TabOK dM mO Xq:=by
 refine⟨aht,anL,fun f pc _ h=>asz f pc h,fun f g hg Φ hΦ dN ds d h=>?_⟩
 have:=EH (R:=fun f (g:aL→List D→Option D)=>∀Φ,cX dM Φ→gi dM Φ→∀ds d,g Φ ds=some d→(∀s,dM.sig f=some s→yr dM f s ds d)∧
  ∀cs ys,dM.cap f=some cs→jY cs.args cs.res=some ys→∃xs,d=.list xs∧(∀x,x∈xs→∃ds',x=.tup ds'∧ds'.length=ys.length)∧ly dM f cs.caps ys ds xs) (l:=Xs)
  ⟨fun Φ hΦ dN ds d h=>⟨fun s hs=>by obtain⟨s',h1,h2⟩:=XP ds d h;rw[hs] at h1;cases h1;exact h2,fun cs ys hc hi=>by cases hc⟩,trivial⟩ f g hg
 exact this Φ hΦ dN ds d h
abbrev T1:cC:=ej mO Xq
open Classical in
def vB (f:Nat)(_:aL)(ds:List D):Option D:=if h:∃d,ak T1 f ds d then some h.choose else none
theorem au8 {f:Nat}{Φ:aL}{ds:List D}{d:D}(h:ak T1 f ds d):vB f Φ ds=some d:=by
 have h':∃d,ak T1 f ds d:=⟨d,h⟩
 unfold vB;rw[dif_pos h',ak.det h'.choose_spec h]
theorem Vn {f:Nat}{s:Sig}{Φ:aL}{ds:List D}{d:D}(hs:ctx.sig f=some s)(hm:oG s.mode=false)(h:vB f Φ ds=some d):gh ctx f s ds d:=by
 unfold vB at h;split at h
 ·rename_i h';cases h;exact VI (ak.fnOK aei hs h'.choose_spec hm)
 ·cases h
end Rm
namespace Go.Proofs
open Go.Shelf
def Tryz.lays189_ren:Go.Shelf.Ren:=⟨fun|189=>125|125=>162|257=>161|128=>197|129=>198|294=>188|295=>189|296=>190|297=>191|298=>192|299=>193|216=>194|300=>195|301=>196|328=>210|329=>211|330=>212|331=>213|332=>214|215=>145|343=>218|n=>n,fun|28=>48|3=>3|46=>196|0=>0|51=>221|53=>223|4=>4|183=>216|182=>215|131=>126|5=>5|9=>9|218=>228|222=>232|228=>238|229=>239|n=>n,fun|n=>n⟩
theorem Tryz.lays189:Go.Proofs.Lays.n189 Tryz.prog Tryz.lays189_ren:={
 mixed:=by kernel_rfl
 f125:=Tryz.func162.trans (congrArg some (by kernel_rfl))
 f128:=Tryz.func197.trans (congrArg some (by kernel_rfl))
 f129:=Tryz.func198.trans (congrArg some (by kernel_rfl))
 f189:=Tryz.func125.trans (congrArg some (by kernel_rfl))
 f215:=Tryz.func145.trans (congrArg some (by kernel_rfl))
 f216:=Tryz.func194.trans (congrArg some (by kernel_rfl))
 f257:=Tryz.func161.trans (congrArg some (by kernel_rfl))
 f294:=Tryz.func188.trans (congrArg some (by kernel_rfl))
 f295:=Tryz.func189.trans (congrArg some (by kernel_rfl))
 f296:=Tryz.func190.trans (congrArg some (by kernel_rfl))
 f297:=Tryz.func191.trans (congrArg some (by kernel_rfl))
 f298:=Tryz.func192.trans (congrArg some (by kernel_rfl))
 f299:=Tryz.func193.trans (congrArg some (by kernel_rfl))
 f300:=Tryz.func195.trans (congrArg some (by kernel_rfl))
 f301:=Tryz.func196.trans (congrArg some (by kernel_rfl))
 f328:=Tryz.func210.trans (congrArg some (by kernel_rfl))
 f329:=Tryz.func211.trans (congrArg some (by kernel_rfl))
 f330:=Tryz.func212.trans (congrArg some (by kernel_rfl))
 f331:=Tryz.func213.trans (congrArg some (by kernel_rfl))
 f332:=Tryz.func214.trans (congrArg some (by kernel_rfl))
 f343:=Tryz.func218.trans (congrArg some (by kernel_rfl))
 t0:=Tryz.underlying0
 a0:=Tryz.isAgg0
 z0:=Tryz.sizeOf0
 v0:=Tryz.zeroValue0
 t3:=Tryz.underlying3
 a3:=Tryz.isAgg3
 z3:=Tryz.sizeOf3
 v3:=Tryz.zeroValue3
 t4:=Tryz.underlying4
 a4:=Tryz.isAgg4
 z4:=Tryz.sizeOf4
 v4:=Tryz.zeroValue4
 t5:=Tryz.underlying5
 a5:=Tryz.isAgg5
 z5:=Tryz.sizeOf5
 v5:=Tryz.zeroValue5
 t9:=Tryz.underlying9
 a9:=Tryz.isAgg9
 z9:=Tryz.sizeOf9
 v9:=Tryz.zeroValue9
 t28:=Tryz.underlying48
 a28:=Tryz.isAgg48
 z28:=Tryz.sizeOf48
 v28:=Tryz.zeroValue48
 t46:=Tryz.underlying196
 a46:=Tryz.isAgg196
 z46:=Tryz.sizeOf196
 v46:=Tryz.zeroValue196
 t51:=Tryz.underlying221
 a51:=Tryz.isAgg221
 z51:=Tryz.sizeOf221
 v51:=Tryz.zeroValue221
 t53:=Tryz.underlying223
 a53:=Tryz.isAgg223
 z53:=Tryz.sizeOf223
 v53:=Tryz.zeroValue223
 t131:=Tryz.underlying126
 a131:=Tryz.isAgg126
 z131:=Tryz.sizeOf126
 v131:=Tryz.zeroValue126
 t182:=Tryz.underlying215
 a182:=Tryz.isAgg215
 z182:=Tryz.sizeOf215
 v182:=Tryz.zeroValue215
 t183:=Tryz.underlying216
 a183:=Tryz.isAgg216
 z183:=Tryz.sizeOf216
 v183:=Tryz.zeroValue216
 t218:=Tryz.underlying228
 a218:=Tryz.isAgg228
 z218:=Tryz.sizeOf228
 v218:=Tryz.zeroValue228
 t222:=Tryz.underlying232
 a222:=Tryz.isAgg232
 z222:=Tryz.sizeOf232
 v222:=Tryz.zeroValue232
 t228:=Tryz.underlying238
 a228:=Tryz.isAgg238
 z228:=Tryz.sizeOf238
 v228:=Tryz.zeroValue238
 t229:=Tryz.underlying239
 a229:=Tryz.isAgg239
 z229:=Tryz.sizeOf239
 v229:=Tryz.zeroValue239}
open Go.Sort Go.RowKit in
theorem Tryz.slices_Sort_int (pE off cap:Nat)(zs:List Int)(w:World)(hH:Holds (Value.int .i64) w pE off zs.toArray)(IN:pE<w.heap.size)(aE:zs.length<4611686018427387904):
 Calls Tryz.prog 125 #[.slice (some ⟨pE,off,none⟩) zs.length cap] w fun e w'=>
  e=.returned (.tuple #[])∧∃n os,w'=grow (putRow (Value.int .i64) (Sort.ahead w n) pE off (zs.mergeSort fun x y=>decide (x≤y)).toArray) os:=Any.slices_Sort_int Tryz.lays189 pE off cap zs w hH IN aE
def Tryz.laysNm220_ren:Go.Shelf.Ren:=⟨fun|20=>126|n=>n,fun|22=>48|3=>3|4=>4|0=>0|n=>n,fun|n=>n⟩
theorem Tryz.laysNm220:Go.Proofs.Lays2.n20 Tryz.prog Tryz.laysNm220_ren:={
 mixed:=by kernel_rfl
 f20:=Tryz.func126.trans (congrArg some (by kernel_rfl))
 t0:=Tryz.underlying0
 a0:=Tryz.isAgg0
 z0:=Tryz.sizeOf0
 v0:=Tryz.zeroValue0
 t3:=Tryz.underlying3
 a3:=Tryz.isAgg3
 z3:=Tryz.sizeOf3
 v3:=Tryz.zeroValue3
 t4:=Tryz.underlying4
 a4:=Tryz.isAgg4
 z4:=Tryz.sizeOf4
 v4:=Tryz.zeroValue4
 t22:=Tryz.underlying48
 a22:=Tryz.isAgg48
 z22:=Tryz.sizeOf48
 v22:=Tryz.zeroValue48
 i3:=by kernel_rfl}
open Go.RowKit Go.Lib Go.Sort in
theorem Tryz.slices_Compact_int (pE off cap:Nat)(zs:List Int)(w:World)(hH:Holds (Value.int .i64) w pE off zs.toArray)(aE:zs.length≤9223372036854775807)(fy:zs.length≤cap):
 Calls Tryz.prog 126 #[.slice (some ⟨pE,off,none⟩) zs.length cap] w fun e w'=>e=.returned (.slice (some ⟨pE,off,none⟩) (Lib.compact zs).length cap)∧∃q,w'=putRow (Value.int .i64) (Sort.ahead w q) pE off (Lib.compact zs++List.replicate (zs.length-(Lib.compact zs).length) 0).toArray:=Any.slices_Compact_int Tryz.laysNm220 pE off cap zs w hH aE fy
open Go.RowKit Go.Lib Go.Sort in
theorem Tryz.slices_Compact_int_empty (a:Option Addr)(cap:Nat)(w:World):
 Calls Tryz.prog 126 #[.slice a 0 cap] w fun e w'=>e=.returned (.slice a 0 cap)∧w'=w:=Any.slices_Compact_int_empty Tryz.laysNm220 a cap w
open Go.RowKit Go.Sort in
theorem Tryz.slices_Sort_int_none (p:Option Addr)(cap:Nat)(w:World):
 Calls Tryz.prog 125 #[.slice p 0 cap] w fun e w'=>e=.returned (.tuple #[])∧w'=w:=Any.slices_Sort_int_none Tryz.lays189 p cap w
end Go.Proofs
namespace Rm
open Go Cx
def xf (x:Int):List Int→List Int
 |[]=>[x]
 |y::l=>if x≤y then x::y::l else y::xf x l
def kX:List Int→List Int
 |[]=>[]
 |x::l=>xf x (kX l)
theorem Py (x:Int):∀l,(xf x l).Perm (x::l)
 |[]=>.refl _
 |y::l=>by
  unfold xf;split
  ·exact .refl _
  ·exact((Py x l).cons y).trans (.swap x y l)
theorem Ex:∀l,(kX l).Perm l
 |[]=>.refl _
 |x::l=>(Py x _).trans ((Ex l).cons x)
theorem ZG (x:Int):∀{l:List Int},l.Pairwise (·≤·)→(xf x l).Pairwise (·≤·)
 |[],_=>by simp[xf]
 |y::l,h=>by
  have h':=GO.1 h;unfold xf;split
  ·rename_i Pu;refine GO.2 ⟨fun z hz=>?_,h⟩;rcases cT.1 hz with rfl|hz
   ·exact Pu
   ·exact Int.le_trans Pu (h'.1 z hz)
  ·rename_i Pu;refine GO.2 ⟨fun z hz=>?_,ZG x h'.2⟩;rcases cT.1 ((Py x l).mem_iff.1 hz) with rfl|hz
   ·omega
   ·exact h'.1 z hz
theorem ZI:∀l,(kX l).Pairwise (·≤·)
 |[]=>.nil
 |x::l=>ZG x (ZI l)
theorem anG (l:List Int):(l.mergeSort fun x y=>decide (x≤y))=kX l:=by
 have h1:(l.mergeSort fun x y=>decide (x≤y)).Pairwise (fun x y=>decide (x≤y)=true):=List.pairwise_mergeSort (fun a b c h1 h2=>by simp at*;omega) (fun a b=>by simp;omega) l;refine List.Perm.eq_of_pairwise (le:=(·≤·)) (fun a b _ _ h1 h2=>by omega) (h1.imp fun h=>by simpa using h) (ZI l) ((List.mergeSort_perm l _).trans (Ex l).symm)
theorem AH (l:List Int):(kX l).length=l.length:=(Ex l).length_eq
def zJ (l:List Int)(k:Nat):List Int:=((List.range k).filter fun j=>decide (j=0∨l.getD j 0≠l.getD (j-1) 0)).map fun j=>l.getD j 0
def gn (l:List Int):List Int:=zJ l l.length
theorem W6 (l:List Int)(k:Nat):(zJ l k).length≤k:=by
 unfold zJ;rw[eN];exact iv (pw _ _) (by simp)
end Rm
namespace Rm
open Go Go.Proofs Cx Go.RowKit Go.Lib
theorem ahE (l:List Int):Go.Lib.compact l=gn l:=by
 have e:∀j,l.toArray[j]! =l.getD j 0:=fun j=>by simp[aJ,getElem!_def];cases l[j]?<;>rfl
 unfold Go.Lib.compact Go.Lib.compactUpTo gn zJ Go.Lib.keeps;simp only[e]
def nN (B:Nat)(w:World)(r:Value)(l:List Int):Prop:=
 (l=[]∧∃p,r=.slice p 0 0)∨∃g o c,r=.slice (some ⟨g,o,none⟩) l.length c∧l.length≤c∧c≤maxLen∧B≤g∧g<w.heap.size∧Go.Sort.Holds (Value.int .i64) w g o l.toArray∧lK w g hG
theorem ZP {w:World}{g:Nat}(h:lK w g hG)(o:Nat)(d:Array Int)(n:Nat)(os:Array Obj)(hg:g<w.heap.size):lK (Go.Sort.grow (Go.Sort.putRow (Value.int .i64) (Go.Sort.ahead w n) g o d) os) g hG:=by
 have e:∀ob,w.heap[g]?=some ob→(Go.Sort.grow (Go.Sort.putRow (Value.int .i64) (Go.Sort.ahead w n) g o d) os).heap[g]?=some (Go.Sort.onCells (fun c=>(Go.Sort.putCells (Value.int .i64) o d c)) ob):=fun ob cG=>by
  rw[Go.Sort.heap_grow_old _ _ (by simp[Go.Sort.ahead];exact hg)];unfold Go.Sort.putRow Go.Sort.mapBlock;simp[LS,Go.Sort.ahead,cG]
 rcases h with⟨h0,arr,cl,h1,h2⟩|⟨h1,_⟩|⟨h1,cs,T,fz,h2⟩
 ·exact .inl ⟨h0,arr,cl,e _ h1,h2⟩
 ·exact absurd h1 tK
 ·exact .inr (.inr ⟨rfl,_,_,_,e _ h2⟩)
theorem apb (w:World)(g:Nat)(f:Array Value→Array Value)(k:Nat)(h:k≠g):(Go.Sort.mapBlock w g f).heap[k]?=w.heap[k]?:=by
 unfold Go.Sort.mapBlock;simp[LS,vQ h]
theorem acB {B:Nat}{w0 w:World}(h:Below B w0 w){g o:Nat}(hg:B≤g)(d:Array Int)(n:Nat)(os:Array Obj)(hs:B≤w.heap.size):Below B w0 (Go.Sort.grow (Go.Sort.putRow (Value.int .i64) (Go.Sort.ahead w n) g o d) os):=by
 refine h.trans ⟨rfl,rfl,rfl,by simp[Go.Sort.ahead],fun k hk=>?_⟩;rw[Go.Sort.heap_grow_old _ _ (by simp[Go.Sort.ahead];omega)];exact apb _ _ _ _ (by omega)
set_option maxHeartbeats 2000000 in
theorem arw (x y z v:Value)(w:World)(k e:Int)(he:e≠0)(h1:x.oneCell'=true)(h2:y.oneCell'=true)(h3:z.oneCell'=true)
 (Af:∀W,Below w.heap.size w W→Calls Tryz.prog 115 #[.agg #[x,y,z]] W fun e' w'=>e'=.returned (.tuple #[.int .i64 k,.int .i64 e])∧Below W.heap.size W w'):
 Calls Tryz.prog 82 #[.agg #[x,y,z],v] w fun e' w'=>e'=.returned (.slice none 0 0)∧Below w.heap.size w w':=by
 go_enter Tryz.func82,Tryz.ntmps82
 go_wp2_with (first
  |(go_at_call 115
    have sQ:=(Below.refl w.heap.size w).alloc (bf _) (.cells #[x,y,z] 114 (0,0));refine(Af _ sQ).mono ?_;rintro e' W1 ⟨rfl,ec⟩;have cf:=sQ.trans (ec.mono sQ.size);clear sQ ec))
 go_ret
 exact⟨rfl,cf⟩
theorem nN.below {B:Nat}{w w':World}{r:Value}{l:List Int}(h:nN B w r l)(hb:Below w.heap.size w w'):nN B w' r l:=
 h.imp id fun⟨g,o,c,a1,a2,a3,a4,a5,a6,a7⟩=>⟨g,o,c,a1,a2,a3,a4,sr a5 hb.size,fun j hj=>by
  have:=a6 j hj;rw[hb.cell (by exact a5),hb.frozen (by exact a5)];exact this,a7.keep (hb.block g a5)⟩
theorem asq {B:Nat}{w:World}{r:Value}{l:List Int}(h:nN B w r l)(hB:B≤w.heap.size)(hl:l.length≤4294967296):
 Calls Tryz.prog 125 #[r] w fun e w'=>e=.returned (.tuple #[])∧Below B w w'∧nN B w' r (kX l):=by
 rcases h with⟨rfl,p,rfl⟩|⟨g,o,c,rfl,h1,h2,h3,h4,h5,h6⟩
 ·refine(Tryz.slices_Sort_int_none p 0 w).mono fun e w' hh=>?_;obtain⟨rfl,rfl⟩:=hh;exact⟨rfl,.refl _ _,.inl ⟨rfl,p,rfl⟩⟩
 ·refine(Tryz.slices_Sort_int g o c l w h5 h4 (by omega)).mono fun e w' hh=>?_;obtain⟨rfl,n,os,rfl⟩:=hh;rw[anG];have aE:(kX l).toArray.size=l.toArray.size:=by simp[AH]
  refine⟨rfl,acB (.refl _ _) h3 _ _ _ hB,.inr ⟨g,o,c,by rw[AH],by rw[AH];exact h1,h2,h3,by simp[Go.Sort.ahead];omega,?_,ZP h6 _ _ _ _ h4⟩⟩;refine Go.Sort.holds_grow _ _ _ _ _ _ (by simp[Go.Sort.ahead];omega) ?_;exact Go.Sort.holds_putRow _ _ _ _ _ _ h5 aE
theorem ahF {B:Nat}{w:World}{r:Value}{l:List Int}(h:nN B w r l)(hB:B≤w.heap.size)(hl:l.length≤4294967296):
 Calls Tryz.prog 126 #[r] w fun e w'=>∃r',e=.returned r'∧Below B w w'∧nN B w' r' (gn l):=by
 rcases h with⟨rfl,p,rfl⟩|⟨g,o,c,rfl,h1,h2,h3,h4,h5,h6⟩
 ·refine(Tryz.slices_Compact_int_empty p 0 w).mono fun e w' hh=>?_;obtain⟨rfl,rfl⟩:=hh;exact⟨_,rfl,.refl _ _,.inl ⟨rfl,p,rfl⟩⟩
 ·refine(Tryz.slices_Compact_int g o c l w h5 (by omega) h1).mono fun e w' hh=>?_;rw[ahE] at hh;obtain⟨rfl,q,rfl⟩:=hh;have hd:(gn l).length≤l.length:=W6 l l.length;have hb:=acB (w:=w) (o:=o) (.refl B w) h3 (gn l++List.replicate (l.length-(gn l).length) 0).toArray q #[] hB;rw[Go.Sort.grow_empty] at hb;have hh:=Go.Sort.holds_putRow (Value.int .i64) (Go.Sort.ahead w q) g o l.toArray (gn l++List.replicate (l.length-(gn l).length) 0).toArray h5 (by simp;omega);refine⟨_,rfl,hb,.inr ⟨g,o,c,rfl,by omega,h2,h3,by simp[Go.Sort.ahead];omega,fun j hj=>?_,by have:=ZP h6 o (gn l++List.replicate (l.length-(gn l).length) 0).toArray q #[] h4;rwa [Go.Sort.grow_empty] at this⟩⟩;have bE:j<(gn l).length:=by simpa using hj
  have:=hh j (by simp;omega);refine⟨this.1.trans ?_,this.2⟩;have e:(gn l++List.replicate (l.length-(gn l).length) 0).toArray[j]! =(gn l).toArray[j]!:=by
   simp[getElem!_def,j6 bE]
  rw[e]
set_option maxHeartbeats 2000000 in
theorem ary (x y z:Value)(p:Option Addr)(vn vc:Nat)(w:World)(k:Int)(l:List Int)(h1:x.oneCell'=true)(h2:y.oneCell'=true)(h3:z.oneCell'=true)(hl:l.length≤4294967296)
 (Af:∀W,Below w.heap.size w W→Calls Tryz.prog 115 #[.agg #[x,y,z]] W fun e' w'=>e'=.returned (.tuple #[.int .i64 k,.int .i64 0])∧Below W.heap.size W w')
 (ah:∀W,Below w.heap.size w W→Calls Tryz.prog 116 #[.agg #[.slice p vn vc],.agg #[x,y,z]] W fun e' w'=>∃b n r,e'=.returned (.tuple #[.agg #[.bool b,.int .i64 n],r])∧Below W.heap.size W w'∧nN W.heap.size w' r l):
 Calls Tryz.prog 82 #[.agg #[x,y,z],.slice p vn vc] w fun e' w'=>∃r,e'=.returned r∧Below w.heap.size w w'∧nN w.heap.size w' r (gn (kX l)):=by
 go_enter Tryz.func82,Tryz.ntmps82
 go_wp2_with (first
  |(go_at_call 115
    have sQ:=(Below.refl w.heap.size w).alloc (bf _) (.cells #[x,y,z] 114 (0,0));refine(Af _ sQ).mono ?_;rintro e' W1 ⟨rfl,ec⟩;have cf:=sQ.trans (ec.mono sQ.size);have sR:W1.heap[w.heap.size]?=some (.cells #[x,y,z] 114 (0,0)):=by
     rw[ec.block _ (by simp)];show(w.heap.push _)[w.heap.size]?=_;exact Array.getElem?_push_size
    have q0:W1.cell? ⟨w.heap.size,0,none⟩=some x:=by simp[World.cell?,sR]
    have q1:W1.cell? ⟨w.heap.size,1,none⟩=some y:=by simp[World.cell?,sR]
    have q2:W1.cell? ⟨w.heap.size,2,none⟩=some z:=by simp[World.cell?,sR]
    clear sQ ec sR)
  |(go_at_call 116
    refine(ah _ cf).mono ?_;rintro e' W2 ⟨b,n,r,rfl,Ad,hr⟩;have N0:=cf.trans (Ad.mono cf.size);have uJ:nN w.heap.size W2 r l:=hr.imp id fun⟨g,o,c,a1,a2,a3,a4,a5⟩=>⟨g,o,c,a1,a2,a3,iv cf.size a4,a5⟩
    have hc:=(Below.refl W2.heap.size W2).alloc (bf _) (.cells #[.bool b,.int .i64 n] 47 (0,0));have N1:=N0.trans (hc.mono N0.size);have Zf:=uJ.below hc;clear hr cf Ad q0 q1 q2 uJ N0 hc)
  |(go_at_call 125
    refine(asq Zf N1.size hl).mono ?_;rintro e' W3 ⟨rfl,Yd,Zg⟩;have N2:=N1.trans Yd;clear Zf N1 Yd)
  |(go_at_call 126
    refine(ahF Zg N2.size (by rw[AH];exact hl)).mono ?_;rintro e' W4 ⟨r',rfl,Ye,hr9⟩;have N3:=N2.trans Ye;clear Zg N2 Ye))
 go_ret
 exact⟨r',rfl,N3,hr9⟩
end Rm
namespace Rm
open Go Go.Proofs Cx Go.RowKit
abbrev P2:Nat:=82
inductive NoI:Ty→Prop where
 |int (k:IntKind):NoI (.int k)
 |bool:NoI .bool
 |str:NoI .str
 |agg (ts:List Ty) (h:∀t,t∈ts→NoI t):NoI (.agg ts)
 |slice (e:Ty) (h:e≠.int .i64) (he:NoI e):NoI (.slice e)
 |trm:NoI .trm
theorem NoI.unf {e:Ty}(h:NoI e):NoI e.unf:=by
 cases h with
 |trm=>
  refine .agg _ fun t ht=>?_;simp at ht;rcases ht with rfl|rfl
  ·exact .int _
  ·exact .slice _ (by intro h;cases h) .trm
 |int k=>exact .int k
 |bool=>exact .bool
 |str=>exact .str
 |agg ts h=>exact .agg ts h
 |slice e h he=>exact .slice e h he
open Classical in
def Im.un (σ:Im):Im:=⟨σ.c,fun k=>if σ.m k=some hG then none else σ.m k⟩
theorem Rep.un {cap:Nat→Option CSig}{σ:Im}{t:Ty}{v:Value}{d:D}(h:Rep cap σ t v d):NoI t→Rep cap (Im.un σ) t v d:=by
 induction h with
 |int k n h1 h2=>intro _;exact .int k n h1 h2
 |bool b=>intro _;exact .bool b
 |str s h=>intro _;exact .str s h
 |agg ts vs ds h1 h2 _ ho ih=>
  intro hn;cases hn with
  |agg _ hn=>exact .agg ts vs ds h1 h2 (fun i t ht=>ih i t ht (hn t (jM ht))) ho
 |tup ts vs ds h1 h2 _ ih=>intro hn;cases hn
 |nil e=>intro _;exact .nil e
 |emp e a=>intro _;exact .emp e a
 |nils e=>intro hn;cases hn
 |nsl0 e=>intro hn;cases hn
 |nsl e k o n c xs _ hx ih=>intro hn;cases hn
 |slice e k o n c xs vs hn hc hm _ hv hz ih=>
  intro iJ;cases iJ with
  |slice _ aw he=>exact .slice e k o n c xs vs hn hc hm (fun i x hx=>ih i x hx he.unf) hv fun e'=>absurd e' aw
 |mapnil kt et=>intro hn;cases hn
 |map kt et r gC es hm hl hx _ _ jX AG=>intro hn;cases hn
 |ref t k o v d _ hv ih=>intro hn;cases hn
 |fn f cs vs ds hc h1 h2 _ ih=>intro hn;cases hn
 |fnnil l r=>intro hn;cases hn
theorem Im.un_ok {σ:Im}{w:World}(h:σ.ok w):(Im.un σ).ok w:=by
 refine⟨h.c,fun k es e=>?_,h.f⟩;unfold Im.un at e;dsimp only at e;split at e
 ·cases e
 ·exact h.m k es e
theorem Im.un_row {σ:Im}{k:Nat}:(Im.un σ).m k≠some hG:=by
 unfold Im.un;dsimp only;split
 ·intro h;cases h
 ·assumption
def vR (Φ:aL)(ds:List D)(r:D):Prop:=
 ∃t c,ds=[t,c]∧∃k e:Int,Φ 115 [t]=some (.tup [.int k,.int e])∧
  (e≠0∧r=.list []∨e=0∧∃x,∃l:List Int,ak T1 116 [.agg [c],t] (.tup [x,ints l])∧(l.length≤4294967296∧∀y,y∈l→-1000000≤y∧y≤1000000)∧r=ints (gn (kX l)))
theorem W7 {l:List Int}{y:Int}(h:y∈gn l):y∈l:=by
 unfold gn zJ at h;obtain⟨j,hj,rfl⟩:=ei.1 h;have bE:j<l.length:=bZ.1 (dX.1 hj).1;rw[aJ,bA bE];exact cS bE
theorem anH {l m:List Int}(h:ints l=ints m):l=m:=by
 have h1:l.map D.int=m.map D.int:=by unfold ints at h;injection h
 have:∀{l m:List Int},l.map D.int=m.map D.int→l=m:=by
  intro l
  induction l with
  |nil=>intro m h;cases m<;>simp at h ⊢
  |cons a l ih=>
   intro m h;cases m with
   |nil=>simp at h
   |cons b m=>
    simp only[gk,VN] at h;have e:a=b:=by
     have:=congrArg D.i h.1;simpa using this
    rw[e,ih h.2]
 exact this h1
theorem vR.uniq {Φ:aL}{ds:List D}{r r':D}(h:vR Φ ds r)(h':vR Φ ds r'):r=r':=by
 obtain⟨t,c,rfl,k,e,h1,h2⟩:=h;obtain⟨t',c',hd,k',e',cw,gU⟩:=h';simp only[VN,and_true] at hd;obtain⟨rfl,rfl⟩:=hd;rw[h1] at cw;have he:e=e':=by
  have:=congrArg (fun d=>((d.getD .none).tget 1).i) cw;simpa using this
 subst he;rcases h2 with⟨h2,rfl⟩|⟨h2,x,l,h3,h4,rfl⟩
 ·rcases gU with⟨_,rfl⟩|⟨gU,_⟩
  ·rfl
  ·exact absurd gU h2
 ·rcases gU with⟨gU,_⟩|⟨_,x',l',eQ,_,rfl⟩
  ·exact absurd h2 gU
  ·have:=ak.det h3 eQ;have e2:ints l=ints l':=by
        injection this with this
        simp only[VN,and_true] at this;exact this.2
   rw[anH e2]
open Classical in
def xW (Φ:aL)(ds:List D):Option D:=if h:∃r,vR Φ ds r then some h.choose else none
theorem aru {Φ:aL}{ds:List D}{r:D}(h:vR Φ ds r):xW Φ ds=some r:=by
 have h':∃r,vR Φ ds r:=⟨r,h⟩
 unfold xW;rw[dif_pos h',h'.choose_spec.uniq h]
theorem arv {Φ:aL}{ds:List D}{r:D}(h:xW Φ ds=some r):vR Φ ds r:=by
 unfold xW at h;split at h
 ·rename_i h';cases h;exact h'.choose_spec
 ·cases h
theorem ahe:NoI (.agg [.slice (.agg [.bool,.int .i64])]):=.agg _ fun t ht=>by
 simp at ht;subst ht
 exact .slice _ (by intro h;cases h) (.agg _ fun t ht=>by
  simp at ht;rcases ht with rfl|rfl
  ·exact .bool
  ·exact .int _)
theorem auY:NoI (.agg [.int .i64,.int .i64,.slice .trm]):=NoI.unf .trm
theorem apy {cap:Nat→Option CSig}{σ σ':Im}{w w':World}{r:Value}{l:List Int}(av:σ'.ok w')(hz:∀k,σ.m k≠some hG)(hs:0<w.heap.size)
 (hm:∀k x,σ'.m k=some x→σ.m k=some x∨w.heap.size≤k) (h:Rep cap σ' (.slice (.int .i64)) r (ints l)):nN w.heap.size w' r l:=by
 obtain⟨xs,hx,re⟩:=h.slice_inv';have hx:xs=l.map D.int:=by
  have:D.list (l.map D.int)=D.list xs:=hx;injection this with this
  exact this.symm
 subst hx;rcases re with⟨⟨p,rfl⟩,e⟩|⟨g,o,c,rfl,h1,h2,uP,vs,h3,h4⟩
 ·exact .inl ⟨by simpa using e,p,rfl⟩
 ·have hk:=uP rfl;have hg:w.heap.size≤g:=(hm g _ hk).resolve_left (hz g);rw[eN] at h1;refine .inr ⟨g,o,c,by rw[eN],h1,h2,hg,(av.m _ _ hk).lt,fun j hj=>?_,av.m _ _ hk⟩;have bE:j<l.length:=by simpa using hj
  have hr:=h3 j (D.int l[j]) (by simp[bE]);have hv:vs j=.int .i64 l[j]:=by
   obtain⟨n,e1,e2,_⟩:=Rep.int_inv hr;have:l[j]=n:=by
        have:=congrArg D.i e2;simpa using this
   rw[e1,this]
  have hc:=h4 j 0 (.int .i64 l[j]) (by simpa using bE) (by rw[hv];rfl);have ho:o+j*(Ty.int .i64).size+0=o+j:=by simp[Ty.size]
  rw[ho] at hc;have e:l.toArray[j]! =l[j]:=by simp[getElem!_def,bE]
  exact⟨by rw[e];exact av.c _ _ _ hc,(av.f _ _ _ hc).resolve_left (by omega)⟩
theorem arx {Φ:aL}(hΦ:cX ctx Φ){ds:List D}{d:D}(h:xW Φ ds=some d):∃s,ctx.sig P2=some s∧yr ctx P2 s ds d:=by
 refine⟨_,rfl,fun _=>?_,fun shs obs hm=>by cases hm⟩;obtain⟨t,c,rfl,k,e,h1,h2⟩:=arv h;intro σ w args av hC ha;obtain⟨a1,a2,a3⟩:=ha;have g0:=a3 0 _ rfl;have g1:=a3 1 _ rfl;obtain⟨u,v,rfl⟩:∃u v,args=#[u,v]:=by
  have:args.size=2:=by simpa using a1
  match args,this with
  |⟨[u,v]⟩,_=>exact⟨u,v,rfl⟩
 simp only[nJ,sm] at g0 g1;change Rep ctx.cap σ (.agg [.int .i64,.int .i64,.slice .trm]) u t at g0;change Rep ctx.cap σ (.slice (.agg [.bool,.int .i64])) v c at g1;obtain⟨us,ts,rfl,rfl,l1,l2,bL,dc⟩:=g0.agg_inv;obtain⟨x,y,z,rfl⟩:∃x y z,us=[x,y,z]:=by
  match us,l1 with
  |[x,y,z],_=>exact⟨x,y,z,rfl⟩
 have o1:x.oneCell'=true:=((bL 0 _ rfl).oneCell (dc 0 _ rfl)).2;have o2:y.oneCell'=true:=((bL 1 _ rfl).oneCell (dc 1 _ rfl)).2;have o3:z.oneCell'=true:=((bL 2 _ rfl).oneCell (dc 2 _ rfl)).2;have ak7:=(hΦ 115 _ _ h1 _ rfl).1 rfl
 have Af:∀W,Below w.heap.size w W→Calls Tryz.prog 115 #[.agg #[x,y,z]] W fun e' w'=>e'=.returned (.tuple #[.int .i64 k,.int .i64 e])∧Below W.heap.size W w':=fun W hb=>by
  refine(ak7 σ W #[.agg #[x,y,z]] (av.below hb) hC ⟨rfl,rfl,fun i t hi=>?_⟩).mono fun e' w' hh=>?_
  ·match i,hi with
   |0,hi=>cases hi;exact g0
  ·obtain⟨v',σ',rfl,_,_,hB,_,_,dG⟩:=hh;have dG:Rep ctx.cap σ' (.tup [.int .i64,.int .i64]) v' (.tup [.int k,.int e]):=dG;refine⟨?_,hB⟩;cases dG with
   |tup _ sc ds' q1 q2 q3=>
    match sc,q1 with
    |[p,q],_=>
     obtain⟨n1,e1,f1,_⟩:=Rep.int_inv (q3 0 _ rfl);obtain⟨n2,e2,f2,_⟩:=Rep.int_inv (q3 1 _ rfl);simp only[nJ,sm] at e1 f1 e2 f2;have:k=n1:=by have:=congrArg D.i f1;simpa using this
     have:e=n2:=by have:=congrArg D.i f2;simpa using this
     subst e1 e2;simp_all
 rcases h2 with⟨he,rfl⟩|⟨rfl,cv,l,h3,hl,rfl⟩
 ·refine(arw x y z v w k e he o1 o2 o3 Af).mono fun e' w' hh=>?_;obtain⟨rfl,hB⟩:=hh;exact⟨_,σ,rfl,.refl σ,av.below hB,hB,fun _ _ _ h=>.inl h,fun _ _ h=>.inl h,.nil _⟩
 ·obtain⟨p,vn,vc,rfl⟩:∃p n c,v=.slice p n c:=by
   obtain⟨xs,_,re⟩:=g1.slice_inv;rcases re with⟨⟨p,rfl⟩,_⟩|⟨g,o,c,rfl,_⟩
   ·exact⟨_,_,_,rfl⟩
   ·exact⟨_,_,_,rfl⟩
  have amO:gh dM 116 _ _ _:=ak.fnOK aei rfl h3 rfl;have O3:0<w.heap.size:=by
   have:=hC.mg 0 _ rfl;have:=(av.m _ _ this).lt;omega
  have gm:Rep ctx.cap σ (.agg [.slice (.agg [.bool,.int .i64])]) (.agg #[.slice p vn vc]) (.agg [c]):=by
   refine .agg [_] [.slice p vn vc] [c] rfl rfl (fun i t hi=>?_) (fun i t hi=>?_)
   ·match i,hi with
    |0,hi=>cases hi;exact g1
   ·match i,hi with
    |0,hi=>cases hi;rfl
  have ah:∀W,Below w.heap.size w W→Calls Tryz.prog 116 #[.agg #[.slice p vn vc],.agg #[x,y,z]] W fun e' w'=>∃b n r,e'=.returned (.tuple #[.agg #[.bool b,.int .i64 n],r])∧Below W.heap.size W w'∧nN W.heap.size w' r l:=fun W hb=>by
   refine(amO (Im.un σ) W #[.agg #[.slice p vn vc],.agg #[x,y,z]] (Im.un_ok (av.below hb)) ⟨fun g x hx=>(by cases hx),fun g x hx=>(by cases hx)⟩ ⟨rfl,rfl,fun i t hi=>?_⟩).mono fun e' w' hh=>?_
   ·match i,hi with
    |0,hi=>cases hi;exact Rep.un gm ahe
    |1,hi=>cases hi;exact Rep.un g0 auY
   ·obtain⟨v',σ',rfl,_,je,hB,_,dE,dG⟩:=hh;have dG:Rep ctx.cap σ' (.tup [.agg [.bool,.int .i64],.slice (.int .i64)]) v' (.tup [cv,ints l]):=dG;cases dG with
    |tup _ sc ds' q1 q2 q3=>
     match sc,q1 with
     |[p',q'],_=>
      have r1:=q3 0 _ rfl;have r2:=q3 1 _ rfl;simp only[nJ,sm] at r1 r2;obtain⟨vs2,W8,rfl,_,m1,m2,m3,_⟩:=r1.agg_inv
      match vs2,m1 with
      |[b',n'],_=>
       obtain⟨b,eb,_⟩:=Rep.bool_inv (m3 0 _ rfl);obtain⟨n,en,_⟩:=Rep.int_inv (m3 1 _ rfl);simp only[nJ,sm] at eb en;subst eb en;exact⟨b,n,q',rfl,hB,apy je (fun k=>Im.un_row) (sr O3 hb.size) dE r2⟩
  refine(ary x y z p vn vc w k l o1 o2 o3 hl.1 Af ah).mono fun e' w' hh=>?_;obtain⟨r,rfl,hB,hr⟩:=hh;have br:∀y,y∈gn (kX l)→-1000000≤y∧y≤1000000:=fun y hy=>hl.2 y ((Ex l).mem_iff.1 (W7 hy));generalize gn (kX l)=m at hr br;rcases hr with⟨rfl,p',rfl⟩|⟨g,o,c',rfl,k1,k2,k3,k4,k5,k6⟩
  ·refine⟨_,σ,rfl,.refl σ,av.below hB,hB,fun _ _ _ h=>.inl h,fun _ _ h=>.inl h,?_⟩;cases p' with
   |none=>exact .nil _
   |some p'=>exact .emp _ p'
  ·have qh:∀q,σ.c g q=none:=fun q=>by
        cases hc:σ.c g q with
        |none=>rfl
        |some u=>have:=World.block_lt_of_cell? w (a:=⟨g,q,none⟩) (av.c _ _ _ hc);simp at this;omega
   have hmg:σ.m g=none:=by
        cases hc:σ.m g with
        |none=>rfl
        |some u=>have:=(av.m _ _ hc).lt;omega
   have kl:∀j,j<m.length→w'.cell? ⟨g,o+j,none⟩=some (.int .i64 (m.getD j 0))∧w'.frozen? ⟨g,o+j,none⟩=false:=fun j hj=>by
        have:=k5 j (by simpa using hj);have e:m.toArray[j]! =m.getD j 0:=by simp[getElem!_def,hj]
        rw[e] at this;exact this
   let τ:Im:=⟨fun k q=>if k=g then(if o≤q∧q<o+m.length then some (.int .i64 (m.getD (q-o) 0)) else none) else σ.c k q,fun k=>if k=g then some hG else σ.m k⟩
   have hle:σ.le τ:=⟨fun k q u hu=>by
    have aw:k≠g:=fun e=>by subst e;rw[qh q] at hu;cases hu
    simp[τ,aw,hu],fun k u hu=>by
    have aw:k≠g:=fun e=>by subst e;rw[hmg] at hu;cases hu
    simp[τ,aw,hu]⟩
   have ew:=av.below hB;refine⟨_,τ,rfl,hle,⟨fun k q u hu=>?_,fun k es hu=>?_,fun k q n hu=>?_⟩,hB,fun k q u hu=>?_,fun k u hu=>?_,?_⟩
   ·simp only[τ] at hu;split at hu
    ·rename_i e;subst e;split at hu
     ·rename_i hq;cases hu;have:=(kl (q-o) (by omega)).1
      rwa [show o+(q-o)=q by omega] at this
     ·cases hu
    ·exact ew.c k q u hu
   ·simp only[τ] at hu;split at hu
    ·rename_i e;subst e;cases hu;exact k6
    ·exact ew.m k es hu
   ·simp only[τ] at hu;split at hu
    ·rename_i e;subst e;split at hu
     ·rename_i hq;have:=(kl (q-o) (by omega)).2;rw[show o+(q-o)=q by omega] at this;exact .inr this
     ·cases hu
    ·exact ew.f k q n hu
   ·simp only[τ] at hu;split at hu
    ·rename_i e;subst e;exact .inr k3
    ·exact .inl hu
   ·simp only[τ] at hu;split at hu
    ·rename_i e;subst e;exact .inr k3
    ·exact .inl hu
   ·show Rep ctx.cap τ (.slice (.int .i64)) _ (ints m);refine .slice (.int .i64) g o m.length c' (m.map D.int) (fun i=>.int .i64 (m.getD i 0)) (by simp) k1 k2 (fun i x hx=>?_) (fun i j u hi hj=>?_) (fun _=>by simp[τ])
    ·rw[ct,az] at hx;obtain⟨y,hy,rfl⟩:=hx;have e:m.getD i 0=y:=by rw[aJ,hy];rfl
     rw[e];have:=br y (jM hy);exact .int .i64 y (by show(-9223372036854775808:Int)≤y;omega) (by show y≤(9223372036854775807:Int);omega)
    ·have hj0:j=0:=by
         have:=(gD.1 hj).1;simp[Value.cells] at this;omega
     subst hj0;simp[Value.cells] at hj;subst hj;have:o≤o+i*(Ty.int .i64).size+0∧o+i*(Ty.int .i64).size+0<o+m.length:=by simp[Ty.size];omega
     simp only[τ,if_true,this,and_self];simp[Ty.size,aJ]
end Rm
