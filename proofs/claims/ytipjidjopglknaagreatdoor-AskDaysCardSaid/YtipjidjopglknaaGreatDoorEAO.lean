/-
  Shared texts of this claim.
-/
import Derived.Test.YtipjidjopglknaaGreatDoorEAK
import Derived.KernelRfl
import Derived.Test.YtipjidjopglknaaGreatDoorEAL
import Derived.Test.YtipjidjopglknaaGreatDoorEAM
import Derived.Test.YtipjidjopglknaaGreatDoorEAN
import Derived.Test.YtipjidjopglknaaGreatDoorEAJ
import Derived.WalkKit
import Derived.WalkSpells
import Derived.Lib.SliceRun
import Derived.Lib.AppendZeros
import Derived.Shelf.Sort.Plain
import Derived.Ground.Names2Prog
import Derived.Shelf.Slices.CompactI
import Derived.Shelf.Slices.In.SortNone
import Derived.Test.YtipjidjopglknaaGreatDoorProg
import Derived.Below
import Derived.Lib.Walk
import Derived.Sort.OwnSortedInts
import Derived.Shelf.RegionOpenPlain
set_option linter.unusedVariables false
set_option maxRecDepth 100000
noncomputable section
namespace Rm
open Go Go.Proofs Cx
def xz:Option PC:=cF [6,7] [] Tryz.f148 148 []
def Kf:Nat→PC:=bB xz
def aj7 (b:Nat→PC):PC:=.block 0 [6,7,8,9,10,11,16] [] (.loop [6,7] [] (b 0))
def DH (b:Nat→PC):PT:=
 (.ite (.pick (ao r7 r1) (ao r7 (.llen r0)) pF)
 (.chk (az r0 r7)
 (.ite (.cs .eql (pn r0 r7) r2)
 (.ret pT)
 (.next ⟨[(7,(aP r7 (pi 1)))],[]⟩)))
 (.exit 0 ⟨[(8,r7),(9,r1),(10,(ao r7 r1)),(11,(ao r7 r1)),(16,(.pick (ao r7 r1) (ao r7 (.llen r0)) pF))],[]⟩))
def QM (b:Nat→PC):PT:=
 (.brk ⟨[(7,(pi 0)),(6,pF)],[]⟩
(aj7 b)
 (.ret pF))
def afJ (b:Nat→PC):PT×List (Shp×PT):=(QM b,[(.lp 0 [6,7,8,9,10,11,16] [] [6,7] [],DH b)])
theorem NJ:xz.map told=some (afJ (bA xz)):=by kernel_rfl
theorem ao0:tree (ae xz)=QM Kf:=cd NJ
theorem O2:round 0 [6,7,8,9,10,11,16] [] [6,7] [] (Kf 0)=DH Kf:=bx NJ 0 fun _=>rfl
def xC:Option PC:=cF [4,5] [] Tryz.f109 109 [2,3]
def Kh:Nat→PC:=bB xC
def akb (b:Nat→PC):PC:=.block 0 [4,5,36,37,38,39,40] [] (.loop [4,5] [] (b 0))
def DK (b:Nat→PC):PT:=
 (.ite (ao r5 (.llen (pc o3 4)))
 (.blockS ⟨[],[]⟩ 1 [4,43,44,45,46,47,48,49,50,51,60] []
 (.chk (az (pc o3 4) r5)
 (.chk zW
 (.call ⟨[],[]⟩ [] 49 74 [(.ai .quo .i64 (pn (pc o3 4) r5) (pi 100)),(pi 1),(pi 12)]
 (.chk (.nt (.an (.an (.nt (.nt sd)) pT) (.nt (az (pc o3 4) r5))))
 (.chk (.nt (.an (.an (.nt (.nt sd)) pT) (.nt zW)))
 (.call ⟨[(51,(.nt sd))],[]⟩ [(51,false)] 58 74 [(.ai .rem .i64 (pn (pc o3 4) r5) (pi 100)),(pi 1),(pi 31)]
 (.ite (.pick Iz pT (.nt IB))
 (.ret pF)
 (.next ⟨[],[]⟩))))))))
 (.next ⟨[(5,tV)],[]⟩))
 (.exit 0 ⟨[(36,r5),(37,pN),(38,(pc o3 4)),(39,(.llen (pc o3 4))),(40,(ao r5 (.llen (pc o3 4))))],[]⟩))
def QR (b:Nat→PC):PT:=
 (.call ⟨[(4,pF)],[(3,(.mk [r1])),(2,(.mk [r0]))]⟩ [] 12 74 [(pc (.mk [r1]) 1),(pi 0),(bZ (.llen wE) (pi 1))]
 (.call ⟨[(14,(.nt cj))],[]⟩ [(14,false)] 21 74 [(pc o3 2),(pi 0),(bZ (.llen (pc o2 0)) (pi 1))]
 (.ite (.pick (.pick (.pick dj pT (.nt lM)) pT (bp (.llen (pc o3 4)) (pi 60))) pT (bp (.llen (pc o3 5)) (pi 200)))
 (.ret pF)
 (.brk ⟨[(5,(pi 0))],[]⟩
(akb b)
 (.call ⟨[],[]⟩ [] 63 149 [(pc o3 3),(pi 0),(pi 6)]
 (.call ⟨[(64,OR)],[]⟩ [(64,true)] 67 149 [(pc o3 4),(pi 0),(pi 2000)]
 (.call ⟨[(69,(.pick IC sf pF))],[]⟩ [(69,true)] 72 149 [(pc o3 5),(pi 0),(pi 100000)]
 (.ret (.pick sk OT pF)))))))))
def afM (b:Nat→PC):PT×List (Shp×PT):=(QR b,[(.lp 0 [4,5,36,37,38,39,40] [] [4,5] [],DK b)])
theorem NL:xC.map told=some (afM (bA xC)):=by kernel_rfl
theorem ao5:tree (ae xC)=QR Kh:=cd NL
theorem O4:round 0 [4,5,36,37,38,39,40] [] [4,5] [] (Kh 0)=DK Kh:=bx NL 0 fun _=>rfl
def FN:Option PC:=cF [6] [] Tryz.f74 74 []
def QU:PT:=
 (.ret (.pick (bY r1 r0) (bY r0 r2) pF))
theorem Yd:FN.map told=some (QU,[]):=by kernel_rfl
theorem ao8:tree (ae FN)=QU:=bj Yd
def xE:Option PC:=cF [6,7] [] Tryz.f149 149 []
def Ki:Nat→PC:=bB xE
def ake (b:Nat→PC):PC:=.block 0 [6,7,8,9,10,11] [] (.loop [6,7] [] (b 0))
def DN (b:Nat→PC):PT:=
 (.ite (ao r7 (.llen r0))
 (.blockS ⟨[],[]⟩ 1 [6,14,15,16,17,18,19,20,21,22,23,24,35] []
 (.chk (az r0 r7)
 (.call ⟨[],[]⟩ [] 20 74 [(pn r0 r7),r1,r2]
 (.ite (.nt eN)
 (.ret pF)
 (.chk (.nt (.an (.an (bp r7 (pi 0)) pT) (.nt (az r0 (bZ r7 (pi 1))))))
 (.chk (.nt (.an (.an (bp r7 (pi 0)) pT) (.nt (az r0 r7))))
 (.ite (.pick (bp r7 (pi 0)) (dx (pn r0 (bZ r7 (pi 1))) (pn r0 r7)) pF)
 (.ret pF)
 (.next ⟨[],[]⟩)))))))
 (.next ⟨[(7,(aP r7 (pi 1)))],[]⟩))
 (.exit 0 ⟨[(8,r7),(9,r0),(10,(.llen r0)),(11,(ao r7 (.llen r0)))],[]⟩))
def QT (b:Nat→PC):PT:=
 (.brk ⟨[(7,(pi 0)),(6,pF)],[]⟩
(ake b)
 (.ret pT))
def afO (b:Nat→PC):PT×List (Shp×PT):=(QT b,[(.lp 0 [6,7,8,9,10,11] [] [6,7] [],DN b)])
theorem NM:xE.map told=some (afO (bA xE)):=by kernel_rfl
theorem ao7:tree (ae xE)=QT Ki:=cd NM
theorem O7:round 0 [6,7,8,9,10,11] [] [6,7] [] (Ki 0)=DN Ki:=bx NM 0 fun _=>rfl
def xG:Option PC:=cF [2,3,5,6] [] Tryz.f65 65 [1,4,44]
def AV:Nat→PC:=bB xG
def akh (b:Nat→PC):PC:=.block 0 [2,3,11,12,13,14,15] [] (.loop [2,3] [] (b 0))
def aki (b:Nat→PC):PC:=.block 2 [2,4,5,30,31,32,33,34] [4] (.loop [2,4,5] [4] (b 1))
def DQ (b:Nat→PC):PT:=
 (.ite (ao r3 qs)
 (.blockS ⟨[],[]⟩ 1 [2,18,19,20,21,22,23,24,25] []
 (.chk (az (pc o1 2) r3)
 (.call ⟨[],[]⟩ [] 24 74 [(pc (pn (pc o1 2) r3) 0),(pi 0),(pi 9)]
 (.ite (.nt oZ)
 (.ret (pi 1))
 (.next ⟨[],[]⟩))))
 (.next ⟨[(3,tW)],[]⟩))
 (.exit 0 ⟨[(11,r3),(12,pN),(13,(pc o1 2)),(14,qs),(15,(ao r3 qs))],[]⟩))
def DR (b:Nat→PC):PT:=
 (.ite (ao r5 mD)
 (.blockS ⟨[],[]⟩ 3 [2,4,6,38,39,40,41,42,43,44,45,46,47,48,49,50,52,53,54,55,56,57,58,59,60,61,62,63,64,77] [44,4]
 (.chk (az (pc o1 3) r5)
 (.chk (bY (.llen OF) cX)
 (.call ⟨[(4,pN)],[(4,OF)]⟩ [] 48 108 [OF,r5]
 (.ite (bk qx (pi 0))
 (.ret qx)
 (.chk (az (pc o1 3) r5)
 (.call ⟨[],[]⟩ [] 62 74 [(pc (pn (pc o1 3) r5) 1),(pi 0),(bZ kU (pi 1))]
 (.chk (.nt (.an (.an (.nt (.nt wK)) pT) (.nt (az (pc o1 3) r5))))
 (.call ⟨[(64,(.nt wK))],[]⟩ [(64,false)] 75 74 [(pc (pn (pc o1 3) r5) 2),(pi 0),(bZ qs (pi 1))]
 (.ite (.pick IC pT (.nt DC))
 (.ret (pi 1))
 (.next ⟨[],[]⟩))))))))))
 (.next ⟨[(5,tV)],[]⟩))
 (.exit 2 ⟨[(30,r5),(31,pN),(32,(pc o1 3)),(33,mD),(34,(ao r5 mD))],[]⟩))
def QW (b:Nat→PC):PT:=
 (.ite (bp oX (pi 20))
 (.ret (pi 6))
 (.brk ⟨[(3,(pi 0)),(2,(pi 0))],[(1,(.mk [r0]))]⟩
(akh b)
 (.ite (bp mD (pi 200))
 (.ret (pi 6))
 (.brk ⟨[(5,(pi 0)),(4,pN)],[(4,pL)]⟩
(aki b)
 (.ret (pi 0))))))
def afQ (b:Nat→PC):PT×List (Shp×PT):=(QW b,[(.lp 0 [2,3,11,12,13,14,15] [] [2,3] [],DQ b),(.lp 2 [2,4,5,30,31,32,33,34] [4] [2,4,5] [4],DR b)])
theorem HW:xG.map told=some (afQ (bA xG)):=by kernel_rfl
theorem apa:tree (ae xG)=QW AV:=cd HW
theorem Pa:round 0 [2,3,11,12,13,14,15] [] [2,3] [] (AV 0)=DQ AV:=bx HW 0 fun _=>rfl
theorem Pb:round 2 [2,4,5,30,31,32,33,34] [4] [2,4,5] [4] (AV 1)=DR AV:=bx HW 1 fun _=>rfl
def xH:Option PC:=cF [2,4,5] [] Tryz.f66 66 [1,3,24]
def Kj:Nat→PC:=bB xH
def akj (b:Nat→PC):PC:=.block 0 [2,3,4,10,11,12,13,14] [3] (.loop [2,3,4] [3] (b 0))
def DS (b:Nat→PC):PT:=
 (.ite (ao r4 nB)
 (.blockS ⟨[],[]⟩ 1 [2,3,5,18,19,20,21,22,23,24,25,26,27,28,29,30,32,33,34,35,36,37,38] [24,3]
 (.chk (az (pc o1 4) r4)
 (.chk (bY (.llen (.app o3 (.lst [(pc wC 0)]))) cX)
 (.call ⟨[(3,pN)],[(3,(.app o3 (.lst [(pc wC 0)])))]⟩ [] 28 108 [(.app o3 (.lst [(pc wC 0)])),r4]
 (.ite (bk rY (pi 0))
 (.ret rY)
 (.chk (az (pc o1 4) r4)
 (.call ⟨[],[]⟩ [] 37 110 [wC]
 (.ite (.nt pf)
 (.ret (pi 1))
 (.next ⟨[],[]⟩))))))))
 (.next ⟨[(4,(aP r4 (pi 1)))],[]⟩))
 (.exit 0 ⟨[(10,r4),(11,pN),(12,(pc o1 4)),(13,nB),(14,(ao r4 nB))],[]⟩))
def QY (b:Nat→PC):PT:=
 (.ite (bp (.llen wE) (pi 20))
 (.ret (pi 6))
 (.brk ⟨[(4,(pi 0)),(3,pN),(2,(pi 0))],[(3,pL),(1,(.mk [r0]))]⟩
(akj b)
 (.ret (pi 0))))
def afR (b:Nat→PC):PT×List (Shp×PT):=(QY b,[(.lp 0 [2,3,4,10,11,12,13,14] [3] [2,3,4] [3],DS b)])
theorem NN:xH.map told=some (afR (bA xH)):=by kernel_rfl
theorem apc:tree (ae xH)=QY Kj:=cd NN
theorem Pc:round 0 [2,3,4,10,11,12,13,14] [3] [2,3,4] [3] (Kj 0)=DS Kj:=bx NN 0 fun _=>rfl
def xD:Option PC:=cF [2,3,4] [] Tryz.f110 110 [1]
def AT:Nat→PC:=bB xD
def akc (b:Nat→PC):PC:=.block 0 [2,3,5,6,7,8,9] [] (.loop [2,3] [] (b 0))
def akd (b:Nat→PC):PC:=.block 2 [2,4,48,49,50,51,52] [] (.loop [2,4] [] (b 1))
def DL (b:Nat→PC):PT:=
 (.ite (ao r3 qs)
 (.blockS ⟨[],[]⟩ 1 [2,12,13,14,15,16,17,18,19,20,29,30,31,32,47] []
 (.chk (az (pc o1 2) r3)
 (.call ⟨[],[]⟩ [] 18 74 [(pc (pn (pc o1 2) r3) 0),(pi 0),(pi 21)]
 (.chk (.nt (.an (.an (.nt (.nt kz)) pT) (.nt (az (pc o1 2) r3))))
 (.call ⟨[(20,(.nt kz))],[]⟩ [(20,false)] 27 74 [(pc (pn (pc o1 2) r3) 1),(pi 0),(pi 4)]
 (.ite (.pick eN pT (.nt fS))
 (.ret pF)
 (.chk (.nt (.an (.an (bp r3 (pi 0)) pT) (.nt (az (pc o1 2) (bZ r3 (pi 1))))))
 (.chk (.nt (.an (.an (bp r3 (pi 0)) pT) (.nt (az (pc o1 2) r3))))
 (.ite (.pick (bp r3 (pi 0)) (dx (pc (pn (pc o1 2) (bZ r3 (pi 1))) 0) (pc (pn (pc o1 2) r3) 0)) pF)
 (.ret pF)
 (.next ⟨[],[]⟩)))))))))
 (.next ⟨[(3,tW)],[]⟩))
 (.exit 0 ⟨[(5,r3),(6,pN),(7,(pc o1 2)),(8,qs),(9,(ao r3 qs))],[]⟩))
def DM (b:Nat→PC):PT:=
 (.ite (ao r4 mD)
 (.blockS ⟨[],[]⟩ 3 [2,55,56,57,58,59,60,61,62,63,64,65,80] []
 (.chk (az (pc o1 3) r4)
 (.call ⟨[],[]⟩ [] 61 74 [(pc (pn (pc o1 3) r4) 0),(pi 0),(pi 21)]
 (.ite (.nt DB)
 (.ret pF)
 (.chk (.nt (.an (.an (bp r4 (pi 0)) pT) (.nt (az (pc o1 3) (bZ r4 (pi 1))))))
 (.chk (.nt (.an (.an (bp r4 (pi 0)) pT) (.nt (az (pc o1 3) r4))))
 (.ite (.pick (bp r4 (pi 0)) (dx (pc (pn (pc o1 3) (bZ r4 (pi 1))) 0) (pc (pn (pc o1 3) r4) 0)) pF)
 (.ret pF)
 (.next ⟨[],[]⟩)))))))
 (.next ⟨[(4,(aP r4 (pi 1)))],[]⟩))
 (.exit 2 ⟨[(48,r4),(49,pN),(50,(pc o1 3)),(51,mD),(52,(ao r4 mD))],[]⟩))
def QS (b:Nat→PC):PT:=
 (.brk ⟨[(3,(pi 0)),(2,pF)],[(1,(.mk [r0]))]⟩
(akc b)
 (.brk ⟨[(4,(pi 0))],[]⟩
(akd b)
 (.ret pT)))
def afN (b:Nat→PC):PT×List (Shp×PT):=(QS b,[(.lp 0 [2,3,5,6,7,8,9] [] [2,3] [],DL b),(.lp 2 [2,4,48,49,50,51,52] [] [2,4] [],DM b)])
theorem HU:xD.map told=some (afN (bA xD)):=by kernel_rfl
theorem ao6:tree (ae xD)=QS AT:=cd HU
theorem O5:round 0 [2,3,5,6,7,8,9] [] [2,3] [] (AT 0)=DL AT:=bx HU 0 fun _=>rfl
theorem O6:round 2 [2,4,48,49,50,51,52] [] [2,4] [] (AT 1)=DM AT:=bx HU 1 fun _=>rfl
def xJ:Option PC:=cF [2,3,5] [] Tryz.f67 67 [1,4]
def AX:Nat→PC:=bB xJ
def akm (b:Nat→PC):PC:=.block 2 [2,5,46,47,48] [] (.loop [2,5] [] (b 0))
def akn (b:Nat→PC):PC:=.block 0 [2,3,10,11,12,13,14] [] (.loop [2,3] [] (b 1))
def Ab (b:Nat→PC):PT:=
 (.ite (ao r5 r3)
 (.chk (az (pc o1 5) r5)
 (.chk (.nt (.an (.an (peq (pc (pn (pc o1 5) r5) 0) (pc o4 0)) pT) (.nt (az (pc o1 5) r5))))
 (.ite (.pick (peq (pc (pn (pc o1 5) r5) 0) (pc o4 0)) (peq (pc (pn (pc o1 5) r5) 1) (pc o4 1)) pF)
 (.ret (pi 5))
 (.next ⟨[(5,tV)],[]⟩))))
 (.exit 2 ⟨[(46,r5),(47,r3),(48,(ao r5 r3))],[]⟩))
def DV (b:Nat→PC):PT:=
 (.ite (ao r3 zX)
 (.blockS ⟨[(14,(ao r3 zX)),(13,zX),(12,(pc o1 5)),(11,pN),(10,r3)],[]⟩ 1 [2,4,5,17,18,19,20,21,22,23,24,25,26,27,28,29,30,39,40,45,46,47,48] [4]
 (.chk (az (pc o1 5) r3)
 (.call ⟨[],[(4,(.setc z3 0 (pn (pc o1 5) r3)))]⟩ [] 28 74 [(pc (.setc z3 0 (pn (pc o1 5) r3)) 0),(pi 0),(bZ kU (pi 1))]
 (.call ⟨[(30,(.nt rY))],[]⟩ [(30,false)] 37 74 [(pc o4 1),(pi 0),(bZ kU (pi 1))]
 (.call ⟨[(40,(.pick zY pT (.nt pf)))],[]⟩ [(40,false)] 43 74 [(pc o4 2),(pi 1),(pi 20000)]
 (.ite (.pick pg pT (.nt sc))
 (.ret (pi 1))
 (.brk ⟨[(5,(pi 0))],[]⟩
(akm b)
 (.next ⟨[],[]⟩)))))))
 (.next ⟨[(3,tW)],[]⟩))
 (.exit 0 ⟨[(10,r3),(11,pN),(12,(pc o1 5)),(13,zX),(14,(ao r3 zX))],[]⟩))
def Q0 (b:Nat→PC):PT:=
 (.ite (bp (.llen wD) (pi 100))
 (.ret (pi 6))
 (.brk ⟨[(3,(pi 0)),(2,(pi 0))],[(1,(.mk [r0]))]⟩
(akn b)
 (.ret (pi 0))))
def afT (b:Nat→PC):PT×List (Shp×PT):=(Q0 b,[(.lp 2 [2,5,46,47,48] [] [2,5] [],Ab b),(.lp 0 [2,3,10,11,12,13,14] [] [2,3] [],DV b)])
theorem HY:xJ.map told=some (afT (bA xJ)):=by kernel_rfl
theorem ape:tree (ae xJ)=Q0 AX:=cd HY
theorem IJ:round 2 [2,5,46,47,48] [] [2,5] [] (AX 0)=Ab AX:=bx HY 0 fun _=>rfl
theorem Pf:round 0 [2,3,10,11,12,13,14] [] [2,3] [] (AX 1)=DV AX:=bx HY 1 fun _=>rfl
def xI:Option PC:=cF [2,3,5] [] Tryz.f68 68 [1,4,6]
def AW:Nat→PC:=bB xI
def akk (b:Nat→PC):PC:=.block 0 [2,3,11,12,13,14,15] [] (.loop [2,3] [] (b 0))
def akl (b:Nat→PC):PC:=.block 2 [2,5,68,69,70,71,72] [] (.loop [2,5] [] (b 1))
def DT (b:Nat→PC):PT:=
 (.ite (ao r3 (.llen (pc o1 6)))
 (.blockS ⟨[],[]⟩ 1 [2,4,18,19,20,21,22,23,24,25,26,27,28,29,30,31,40,41,47,48,49,50,51,52,57,58,63] [4]
 (.chk (az (pc o1 6) r3)
 (.call ⟨[],[(4,(.setc z5 0 (pn (pc o1 6) r3)))]⟩ [] 29 74 [(pc (.setc z5 0 (pn (pc o1 6) r3)) 0),(pi 0),(bZ tU (pi 1))]
 (.call ⟨[(31,(.nt qw))],[]⟩ [(31,false)] 38 74 [(pc o4 1),(pi 0),(bZ tU (pi 1))]
 (.ite (.pick (.pick tX pT (.nt jj)) pT (peq (pc o4 0) (pc o4 1)))
 (.ret (pi 1))
 (.call ⟨[],[]⟩ [] 50 74 [(pc o4 2),(pi 1),(pi 1073741824)]
 (.call ⟨[(52,(.nt mF))],[]⟩ [(52,false)] 55 74 [(pc o4 3),(pi 1),(pi 1073741824)]
 (.call ⟨[(58,(.pick IA pT (.nt wJ)))],[]⟩ [(58,false)] 61 74 [(pc o4 4),(pi 0),(pi 100000)]
 (.ite (.pick IB pT (.nt DB))
 (.ret (pi 1))
 (.next ⟨[],[]⟩)))))))))
 (.next ⟨[(3,tW)],[]⟩))
 (.exit 0 ⟨[(11,r3),(12,pN),(13,(pc o1 6)),(14,(.llen (pc o1 6))),(15,(ao r3 (.llen (pc o1 6))))],[]⟩))
def DU (b:Nat→PC):PT:=
 (.ite (ao r5 wG)
 (.blockS ⟨[],[]⟩ 3 [2,6,75,76,77,78,79,80,81,82,83,84,85,86,87,88,95,96,100] [6]
 (.chk (az (pc o1 7) r5)
 (.call ⟨[],[(6,(.setc z3 0 (pn (pc o1 7) r5)))]⟩ [] 86 74 [(pc (.setc z3 0 (pn (pc o1 7) r5)) 0),(pi 0),(bZ nB (pi 1))]
 (.call ⟨[(88,(.nt r86))],[]⟩ [(88,false)] 93 74 [(pc o6 1),(pi 0),(pc o6 2)]
 (.ite (.pick (.pick ID pT (.nt DF)) pT (bp (pc o6 2) (pi 100000)))
 (.ret (pi 1))
 (.next ⟨[],[]⟩)))))
 (.next ⟨[(5,tV)],[]⟩))
 (.exit 2 ⟨[(68,r5),(69,pN),(70,(pc o1 7)),(71,wG),(72,(ao r5 wG))],[]⟩))
def QZ (b:Nat→PC):PT:=
 (.ite (bp (.llen (pc (.mk [r0]) 6)) (pi 100))
 (.ret (pi 6))
 (.brk ⟨[(3,(pi 0)),(2,(pi 0))],[(1,(.mk [r0]))]⟩
(akk b)
 (.ite (bp wG (pi 20))
 (.ret (pi 6))
 (.brk ⟨[(5,(pi 0))],[]⟩
(akl b)
 (.ret (pi 0))))))
def afS (b:Nat→PC):PT×List (Shp×PT):=(QZ b,[(.lp 0 [2,3,11,12,13,14,15] [] [2,3] [],DT b),(.lp 2 [2,5,68,69,70,71,72] [] [2,5] [],DU b)])
theorem HX:xI.map told=some (afS (bA xI)):=by kernel_rfl
theorem apd:tree (ae xI)=QZ AW:=cd HX
theorem Pd:round 0 [2,3,11,12,13,14,15] [] [2,3] [] (AW 0)=DT AW:=bx HX 0 fun _=>rfl
theorem Pe:round 2 [2,5,68,69,70,71,72] [] [2,5] [] (AW 1)=DU AW:=bx HX 1 fun _=>rfl
def Fq:Option PC:=eW {ctx with fr:=[6],nh:=[]} Tryz.f40 ⟨[Y8,I,lg],.slice I,.dat⟩ [3,5,7,8,42,9]
def Qq:PT:=
 (.chk (az (pc (.mk [r2]) 15) (pc (.mk [r2]) 19))
 (.ite Zp
 (.ret pL)
 (.chk (.an (dx (pi 5) (pi 0)) (bY (pi 5) cX))
 (.chk (peq (pi 5) (pi 5))
 (.chk (az (.rep (pi 5) (pi 0)) (pi 0))
 (.call ⟨[],[(9,(.setn (.rep (pi 5) (pi 0)) (pi 0) 0 r1)),(8,(.setc JD 0 (aB 15 (.mk [r2])))),(7,zT),(3,(.mk [r0]))]⟩ [] 50 57 [lL,(pc zT 7)]
 (.chk (az o9 (pi 1))
 (.call ⟨[],[(9,(.setn o9 (pi 1) 0 mF))]⟩ [] 56 57 [(aB 8 o3),(pc o8 10)]
 (.chk (az o9 (pi 2))
 (.call ⟨[],[(9,(.setn o9 (pi 2) 0 mG))]⟩ [] 62 57 [(aB 8 o3),(pc o8 9)]
 (.chk (az o9 (pi 3))
 (.chk (az (pc o3 3) (pc o7 2))
 (.call ⟨[],[(9,(.setn o9 (pi 3) 0 wK))]⟩ [] 73 57 [(aB 8 o3),(pc (pn (pc o3 3) (pc o7 2)) 1)]
 (.chk (az o9 (pi 4))
 (.call ⟨[],[(9,(.setn o9 (pi 4) 0 OU))]⟩ [] 76 81 [(.setn o9 (pi 4) 0 OU),(pi (-1))]
 (.ite pj
 (.ret pL)
 (.ret o9)))))))))))))))))
theorem XN:Fq.map told=some (Qq,[]):=by kernel_rfl
theorem aoA:tree (ae Fq)=Qq:=bj XN
def Fs:Option PC:=eW {ctx with fr:=[6],nh:=[]} Tryz.f40 ⟨[Y8,I,lg],.nils .bool,.dat⟩ [3,5,7,8,42,9]
def Jo:PT:=
 (.chk (az (pc (.mk [r2]) 15) (pc (.mk [r2]) 19))
 (.ite Zp
 (.ret pL)
 (.chk (.an (dx (pi 5) (pi 0)) (bY (pi 5) cX))
 (.chk (peq (pi 5) (pi 5))
 (.chk (az (.rep (pi 5) (pi 0)) (pi 0))
 (.call ⟨[],[(9,(.setn (.rep (pi 5) (pi 0)) (pi 0) 0 r1)),(8,(.setc JD 0 (aB 15 (.mk [r2])))),(7,zT),(3,(.mk [r0]))]⟩ [] 50 57 [lL,(pc zT 7)]
 (.chk (az o9 (pi 1))
 (.call ⟨[],[(9,(.setn o9 (pi 1) 0 mF))]⟩ [] 56 57 [(aB 8 o3),(pc o8 10)]
 (.chk (az o9 (pi 2))
 (.call ⟨[],[(9,(.setn o9 (pi 2) 0 mG))]⟩ [] 62 57 [(aB 8 o3),(pc o8 9)]
 (.chk (az o9 (pi 3))
 (.chk (az (pc o3 3) (pc o7 2))
 (.call ⟨[],[(9,(.setn o9 (pi 3) 0 wK))]⟩ [] 73 57 [(aB 8 o3),(pc (pn (pc o3 3) (pc o7 2)) 1)]
 (.chk (az o9 (pi 4))
 (.call ⟨[],[]⟩ [] 76 81 [(.setn o9 (pi 4) 0 OU),(pi (-1))]
 (.ite pj
 (.ret pL)
 (.chk pF
 (.next ⟨[],[]⟩))))))))))))))))))
theorem XO:Fs.map told=some (Jo,[]):=by kernel_rfl
theorem aoB:tree (ae Fs)=Jo:=bj XO
end Rm
namespace Rm
open Go Go.Proofs Cx
def Of:List Nat:=[4,6,28,30,29,8,33,39,24,49,26,56,55,104,57,105,58,59,69,81,124,70,111,151,150,173,112,34,71,114,113,115,152,153,174,175,72,12,13,15,20,42,17,18,22,10,45,90,44,84,128,129,163,199,200,215,130,131,132,164,133,134,135,136,137,85,86,87,88,138,165,166,201,203,216,202,99,89,139,140,167,205,7,31,61,62,63,107,146,32,64,108,147,172,148,109,74,149,65,66,110,67,68]
def zN:List (Nat×PC):=[(4,(ae FA)),(6,(ae FF)),(28,(ae FE)),(30,(ae FD)),(29,(ae FB)),(8,(ae Fh)),(33,(ae Fo)),(39,(ae Fp)),(24,(ae xY)),(49,(ae F2)),(26,(ae ya)),(56,(ae F0)),(55,(ae F3)),(104,(ae yb)),(57,(ae FX)),(105,(ae FY)),(58,(ae F1)),(59,(ae xZ)),(69,(ae FI)),(81,(ae F5)),(124,(ae ye)),(70,(ae xx)),(111,(ae Fy)),(151,(ae Fz)),(150,(ae F4)),(173,(ae yd)),(112,(ae xy)),(34,(ae FG)),(71,(ae FJ)),(114,(ae FK)),(113,(ae yc)),(115,(ae Ga)),(152,(ae uX)),(153,(ae yj)),(174,(ae Gc)),(175,(ae Gd)),(72,(ae Gb)),(12,(ae xN)),(13,(ae Fm)),(15,(ae Fk)),(20,(ae Bd)),(42,(ae FH)),(17,(ae xK)),(18,(ae Fl)),(22,(ae Fj)),(10,(ae Fi)),(45,(ae x9)),(90,(ae yg)),(44,(ae Bi)),(84,(ae xO)),(128,(ae xT)),(129,(ae xR)),(163,(ae FZ)),(199,(ae xS)),(200,(ae F6)),(215,(ae yf)),(130,(ae FT)),(131,(ae FU)),(132,(ae xQ)),(164,(ae xW)),(133,(ae FV)),(134,(ae FW)),(135,(ae xU)),(136,(ae xX)),(137,(ae xV)),(85,(ae F8)),(86,(ae F9)),(87,(ae F7)),(88,(ae Bk)),(138,(ae Bj)),(165,(ae Bf)),(166,(ae Fx)),(201,(ae Ft)),(203,(ae Fv)),(216,(ae Bh)),(202,(ae Bg)),(99,(ae xP)),(89,(ae yh)),(139,(ae yi)),(140,(ae xw)),(167,(ae Fu)),(205,(ae Fw)),(7,(ae FC)),(31,(ae xM)),(61,(ae xA)),(62,(ae FP)),(63,(ae xL)),(107,(ae FQ)),(146,(ae uU)),(32,(ae FL)),(64,(ae xF)),(108,(ae FO)),(147,(ae xB)),(172,(ae FM)),(148,(ae xz)),(109,(ae xC)),(74,(ae FN)),(149,(ae xE)),(65,(ae xG)),(66,(ae xH)),(110,(ae xD)),(67,(ae xJ)),(68,(ae xI))]
def tab:Nat→Option PC:=aY zN
theorem Zf:zN.map (·.1)=Of:=by kernel_rfl
theorem amt:(zN.map (·.1)).Nodup:=by rw[Zf];exact kQ (by kernel_rfl)
theorem lA (k:Nat){f:Nat}{x:PC}(h:zN[k]?=some (f,x)):tab f=some x:=nr amt h
theorem Tt:tab 152=some (ae uX):=lA 32 (by kernel_rfl)
theorem Tn:tab 20=some (ae Bd):=lA 40 (by kernel_rfl)
theorem Ts:tab 44=some (ae Bi):=lA 48 (by kernel_rfl)
theorem xt:tab 88=some (ae Bk):=lA 68 (by kernel_rfl)
theorem Fa:tab 138=some (ae Bj):=lA 69 (by kernel_rfl)
theorem Tp:tab 165=some (ae Bf):=lA 70 (by kernel_rfl)
theorem Tq:tab 216=some (ae Bh):=lA 74 (by kernel_rfl)
theorem E9:tab 202=some (ae Bg):=lA 75 (by kernel_rfl)
theorem Tr:tab 146=some (ae uU):=lA 88 (by kernel_rfl)
theorem caps:∀f cs,aY A9 f=some cs→(jA cs.args cs.res=none→aY iS f=some ⟨cs.args++cs.caps,cs.res,.dat⟩)∧∀ys,jA cs.args cs.res=some ys→eL Of f=false∧Ar Tryz.prog f=true:=KM (l:=A9) (sig:=iS) (P:=Tryz.prog) (pcs:=Of) (by kernel_rfl)
theorem clos:de ctx:=⟨(fun f cs h=>(caps f cs h).1),fun f s h=>aa0 (l:=iS) (P:=Tryz.prog) (by kernel_rfl) f s h⟩
theorem its:∀f cs ys,ctx.cap f=some cs→jA cs.args cs.res=some ys→tab f=none∧∃fn,ctx.P.funcs[f]?=some fn∧fn.body.isSome=true∧(fn.name== "runtime.NumGoroutine")=false:=fun f cs ys h hi=>⟨Np (l:=zN) (by rw[Zf];exact((caps f cs h).2 ys hi).1),aa1 ((caps f cs h).2 ys hi).2⟩
theorem aob:∀f pc,tab f=some pc→∃fn s ids fr nh,ctx.P.funcs[f]?=some fn∧ctx.sig f=some s∧eW {ctx with fr:=fr,nh:=nh} fn s ids=some pc:=
 C8 (R:=fun f pc=>∃fn s ids fr nh,ctx.P.funcs[f]?=some fn∧ctx.sig f=some s∧eW {ctx with fr:=fr,nh:=nh} fn s ids=some pc) (l:=zN)
  (aH (aI [5,8,12,13,14] [10,11] [] Tryz.func4 rfl (aF FA X0))
  (aH (aI [1,2,3,4,5,6,73] [0,7,8,9] [] Tryz.func6 rfl (aF FF X5))
  (aH (aI [0,24576,28672,32768,1,12289,2,3,12291,4] [5] [] Tryz.func28 rfl (aF FE X4))
  (aH (aI [2,69634,73730,3,4] [] [] Tryz.func30 rfl (aF FD X3))
  (aH (aI [1,2] [] [] Tryz.func29 rfl (aF FB X1))
  (aH (aI [4,7,8,9] [10] [] Tryz.func8 rfl (aF Fh XE))
  (aH (aI [4,7,8,10,16394] [9,11,12,13,14] [] Tryz.func33 rfl (aF Fo XL))
  (aH (aI [2,3,4] [5] [] Tryz.func39 rfl (aF Fp XM))
  (aH (aI [2,4,65540,69636,73732,77828,5,65541,69637,73733,77829,7,31,9,49,11,13] [1000004,1000005] [] Tryz.func24 rfl (aF xY zu))
  (aH (aI [] [4] [] Tryz.func49 rfl (aF F2 Yq))
  (aH (aI [2,3,5,6,8,10,90,139] [4,7,9,11,12,13,14,15,16] [] Tryz.func26 rfl (aF ya H4))
  (aH (aI [2] [3] [] Tryz.func56 rfl (aF F0 Yo))
  (aH (aI [] [4] [] Tryz.func55 rfl (aF F3 Yr))
  (aH (aI [] [4,5] [] Tryz.func104 rfl (aF yb N0))
  (aH (aI [2] [4] [] Tryz.func57 rfl (aF FX Yl))
  (aH (aI [] [4] [] Tryz.func105 rfl (aF FY Ym))
  (aH (aI [2] [] [] Tryz.func58 rfl (aF F1 Yp))
  (aH (aI [3,6,8] [] [] Tryz.func59 rfl (aF xZ NZ))
  (aH (aI [] [2,3,4,11] [] Tryz.func69 rfl (aF FI X8))
  (aH (aI [] [4] [] Tryz.func81 rfl (aF F5 Yt))
  (aH (aI [] [4,5] [] Tryz.func124 rfl (aF ye N3))
  (aH (aI [4,10,53] [8,9,11,12,13,14,55,70] [] Tryz.func70 rfl (aF xx NH))
  (aH (aI [4,9] [8] [] Tryz.func111 rfl (aF Fy XY))
  (aH (aI [] [3] [] Tryz.func151 rfl (aF Fz XZ))
  (aH (aI [] [4] [] Tryz.func150 rfl (aF F4 Ys))
  (aH (aI [] [4,5] [] Tryz.func173 rfl (aF yd N2))
  (aH (aI [4,11] [8,9] [] Tryz.func112 rfl (aF xy NI))
  (aH (aI [3,6,8,10] [7,9,11,12] [] Tryz.func34 rfl (aF FG X6))
  (aH (aI [2,3,4,12292,9] [5,6,7,8,10,11] [] Tryz.func71 rfl (aF FJ X9))
  (aH (aI [2] [3] [] Tryz.func114 rfl (aF FK Ya))
  (aH (aI [] [4,5] [] Tryz.func113 rfl (aF yc N1))
  (aH (aI [1] [2,3] [] Tryz.func115 rfl (aF Ga YB))
  (aH (aI [2,7,12295] [4,5] [] Tryz.func152 rfl (aF uX N8))
  (aH (aI [1,4,6,12294,9] [2,3,5,7,8,38,47,10,11,12] [] Tryz.func153 rfl (aF yj H7))
  (aH (aI [1] [2,3,12,20,4,5] [] Tryz.func174 rfl (aF Gc YI))
  (aH (aI [2] [4,8,13,17,21] [] Tryz.func175 rfl (aF Gd YL))
  (aH (aI [2,4,7] [5,6,8] [] Tryz.func72 rfl (aF Gb YC))
  (aH (aI [2,3] [4,5] [] Tryz.func12 rfl (aF xN NS))
  (aH (aI [1] [2,3,7,12] [] Tryz.func13 rfl (aF Fm XK))
  (aH (aI [1] [2] [] Tryz.func15 rfl (aF Fk XI))
  (aH (aI [4,7,9] [8,10] [] Tryz.func20 rfl (aF Bd XH))
  (aH (aI [3,7] [6,8] [] Tryz.func42 rfl (aF FH X7))
  (aH (aI [] [4,5] [] Tryz.func17 rfl (aF xK NO))
  (aH (aI [3,5] [6,7] [] Tryz.func18 rfl (aF Fl XJ))
  (aH (aI [4,6] [8,9,10,11] [] Tryz.func22 rfl (aF Fj XG))
  (aH (aI [5,8,77832,10] [] [] Tryz.func10 rfl (aF Fi XF))
  (aH (aI [1,3,6,8] [2,4] [] Tryz.func45 rfl (aF x9 H3))
  (aH (aI [] [2,3,4] [] Tryz.func90 rfl (aF yg N5))
  (aH (aI [4,5,10] [8,9,15,39,58,74,11,12] [] Tryz.func44 rfl (aF Bi Yv))
  (aH (aI [1,9] [2,3,4,5,6,7,10,11,12] [] Tryz.func84 rfl (aF xO NT))
  (aH (aI [1,2,3,4,6,16390,20486,24582,21,8,34,10,12298,16394,47] [] [] Tryz.func128 rfl (aF xT Dg))
  (aH (aI [] [6,7,8] [] Tryz.func129 rfl (aF xR NW))
  (aH (aI [] [4] [] Tryz.func163 rfl (aF FZ Yn))
  (aH (aI [] [2,3,4,5] [] Tryz.func199 rfl (aF xS NX))
  (aH (aI [] [4] [] Tryz.func200 rfl (aF F6 Yu))
  (aH (aI [] [4,5] [] Tryz.func215 rfl (aF yf N4))
  (aH (aI [] [2] [] Tryz.func130 rfl (aF FT Yh))
  (aH (aI [] [3] [] Tryz.func131 rfl (aF FU Yi))
  (aH (aI [2,3] [4,6] [] Tryz.func132 rfl (aF xQ NV))
  (aH (aI [] [6,7,8] [] Tryz.func164 rfl (aF xW NY))
  (aH (aI [] [3] [] Tryz.func133 rfl (aF FV Yj))
  (aH (aI [] [3] [] Tryz.func134 rfl (aF FW Yk))
  (aH (aI [1,3,4,6,19,8,16392,36] [2] [] Tryz.func135 rfl (aF xU HZ))
  (aH (aI [1,4,6] [2,3] [] Tryz.func136 rfl (aF xX H2))
  (aH (aI [1,4,6] [2] [] Tryz.func137 rfl (aF xV H0))
  (aH (aI [2] [4] [] Tryz.func85 rfl (aF F8 Yz))
  (aH (aI [] [2] [] Tryz.func86 rfl (aF F9 YA))
  (aH (aI [1] [2] [] Tryz.func87 rfl (aF F7 Yw))
  (aH (aI [3,4] [6,7,13,16,24,33,8,9] [] Tryz.func88 rfl (aF Bk Yy))
  (aH (aI [3] [4,5] [] Tryz.func138 rfl (aF Bj Yx))
  (aH (aI [] [4,5,6,7,8,9] [] Tryz.func165 rfl (aF Bf XQ))
  (aH (aI [] [2] [] Tryz.func166 rfl (aF Fx XX))
  (aH (aI [] [2,3,4,5,6,7,8,9] [] Tryz.func201 rfl (aF Ft XS))
  (aH (aI [] [4] [] Tryz.func203 rfl (aF Fv XU))
  (aH (aI [] [6,0,1] [] Tryz.func216 rfl (aF Bh XV))
  (aH (aI [] [6,7,8] [] Tryz.func202 rfl (aF Bg XR))
  (aH (aI [3,9] [6,7] [] Tryz.func99 rfl (aF xP NU))
  (aH (aI [3] [6,7,8,2,9,10] [] Tryz.func89 rfl (aF yh N6))
  (aH (aI [3,9] [6,7,2] [] Tryz.func139 rfl (aF yi H6))
  (aH (aI [2,4,5] [6] [] Tryz.func140 rfl (aF xw NF))
  (aH (aI [3,4,5] [6] [] Tryz.func167 rfl (aF Fu XT))
  (aH (aI [2] [4,5,6,7] [] Tryz.func205 rfl (aF Fw XW))
  (aH (aI [2,3] [4] [] Tryz.func7 rfl (aF FC X2))
  (aH (aI [2,3] [4,5] [] Tryz.func31 rfl (aF xM NR))
  (aH (aI [1] [2,3,4] [] Tryz.func61 rfl (aF xA HT))
  (aH (aI [1] [2] [] Tryz.func62 rfl (aF FP Yf))
  (aH (aI [1] [2,3] [] Tryz.func63 rfl (aF xL NQ))
  (aH (aI [1] [2] [] Tryz.func107 rfl (aF FQ Yg))
  (aH (aI [3] [6,1,7] [] Tryz.func146 rfl (aF uU NP))
  (aH (aI [1] [2,3] [] Tryz.func32 rfl (aF FL Yb))
  (aH (aI [1,5,44] [2,3,4,6,7] [] Tryz.func64 rfl (aF xF HV))
  (aH (aI [] [4] [] Tryz.func108 rfl (aF FO Ye))
  (aH (aI [] [2,3,4] [] Tryz.func147 rfl (aF xB NK))
  (aH (aI [] [2] [] Tryz.func172 rfl (aF FM Yc))
  (aH (aI [] [6,7] [] Tryz.func148 rfl (aF xz NJ))
  (aH (aI [2,3] [4,5] [] Tryz.func109 rfl (aF xC NL))
  (aH (aI [] [6] [] Tryz.func74 rfl (aF FN Yd))
  (aH (aI [] [6,7] [] Tryz.func149 rfl (aF xE NM))
  (aH (aI [1,4,44] [2,3,5,6] [] Tryz.func65 rfl (aF xG HW))
  (aH (aI [1,3,24] [2,4,5] [] Tryz.func66 rfl (aF xH NN))
  (aH (aI [1] [2,3,4] [] Tryz.func110 rfl (aF xD HU))
  (aH (aI [1,4] [2,3,5] [] Tryz.func67 rfl (aF xJ HY))
  (aH (aI [1,4,6] [2,3,5] [] Tryz.func68 rfl (aF xI HX))
  trivial)))))))))))))))))))))))))))))))))))))))))))))))))))))))))))))))))))))))))))))))))))))))))))))))))))))))
def Dn:List (Nat×PC):=[(178,(ae Bo)),(176,(ae Bl)),(116,(ae uW)),(154,(ae Bp)),(177,(ae Br)),(155,(ae Bn)),(179,(ae Bm)),(209,(ae Bq)),(217,(ae Be)),(156,(ae uV))]
def lT:Nat→Option PC:=aY Dn
theorem Ze:Dn.map (·.1)=[178,176,116,154,177,155,179,209,217,156]:=by kernel_rfl
theorem qp:(Dn.map (·.1)).Nodup:=by rw[Ze];exact kQ (by kernel_rfl)
theorem acZ:lT 178=some (ae Bo):=nr qp (k:=0) (by kernel_rfl)
theorem acW:lT 176=some (ae Bl):=nr qp (k:=1) (by kernel_rfl)
theorem ac0:lT 116=some (ae uW):=nr qp (k:=2) (by kernel_rfl)
theorem ac1:lT 154=some (ae Bp):=nr qp (k:=3) (by kernel_rfl)
theorem ac3:lT 177=some (ae Br):=nr qp (k:=4) (by kernel_rfl)
theorem acY:lT 155=some (ae Bn):=nr qp (k:=5) (by kernel_rfl)
theorem acX:lT 179=some (ae Bm):=nr qp (k:=6) (by kernel_rfl)
theorem ac2:lT 209=some (ae Bq):=nr qp (k:=7) (by kernel_rfl)
theorem acU:lT 217=some (ae Be):=nr qp (k:=8) (by kernel_rfl)
theorem acV:lT 156=some (ae uV):=nr qp (k:=9) (by kernel_rfl)
theorem TH:∀f cs,aY A9 f=some cs→(jA cs.args cs.res=none→aY iS f=some ⟨cs.args++cs.caps,cs.res,.dat⟩)∧∀ys,jA cs.args cs.res=some ys→eL [178,176,116,154,177,155,179,209,217,156] f=false∧Ar Tryz.prog f=true:=KM (l:=A9) (sig:=iS) (P:=Tryz.prog) (pcs:=[178,176,116,154,177,155,179,209,217,156]) (by kernel_rfl)
theorem adV:de dA:=clos
theorem ajS:∀f cs ys,dA.cap f=some cs→jA cs.args cs.res=some ys→lT f=none∧∃fn,dA.P.funcs[f]?=some fn∧fn.body.isSome=true∧(fn.name== "runtime.NumGoroutine")=false:=fun f cs ys h hi=>⟨Np (l:=Dn) (by rw[Ze];exact((TH f cs h).2 ys hi).1),aa1 ((TH f cs h).2 ys hi).2⟩
theorem aoc:∀f pc,lT f=some pc→∃fn s ids fr nh,dA.P.funcs[f]?=some fn∧dA.sig f=some s∧eW {dA with fr:=fr,nh:=nh} fn s ids=some pc:=
 C8 (R:=fun f pc=>∃fn s ids fr nh,dA.P.funcs[f]?=some fn∧dA.sig f=some s∧eW {dA with fr:=fr,nh:=nh} fn s ids=some pc) (l:=Dn)
  (aH ⟨Tryz.f178,(aY iS 178).getD default,[],[2],[],Tryz.func178,rfl,(aF Bo YH)⟩
  (aH ⟨Tryz.f176,(aY iS 176).getD default,[],[2,3,4,11],[],Tryz.func176,rfl,(aF Bl YD)⟩
  (aH ⟨Tryz.f116,(aY iS 116).getD default,[2,3,4,6,33,7,8,10,12298,12],[5,15,21,9,11],[],Tryz.func116,rfl,(aF uW N7)⟩
  (aH ⟨Tryz.f154,(aY iS 154).getD default,[2,4],[5,6],[],Tryz.func154,rfl,(aF Bp YJ)⟩
  (aH ⟨Tryz.f177,(aY iS 177).getD default,[2],[],[],Tryz.func177,rfl,(aF Br YM)⟩
  (aH ⟨Tryz.f155,(aY iS 155).getD default,[4,5],[9,22,41,6,7,82,88,94],[],Tryz.func155,rfl,(aF Bn YG)⟩
  (aH ⟨Tryz.f179,(aY iS 179).getD default,[],[6,8,14,20,25],[],Tryz.func179,rfl,(aF Bm YE)⟩
  (aH ⟨Tryz.f209,(aY iS 209).getD default,[],[4,5,6,7],[],Tryz.func209,rfl,(aF Bq YK)⟩
  (aH ⟨Tryz.f217,(aY iS 217).getD default,[],[4,5,6,7,8,9,10,11,12,13],[],Tryz.func217,rfl,(aF Be XP)⟩
  (aH ⟨Tryz.f156,(aY iS 156).getD default,[6],[2,3,5,8],[],Tryz.func156,rfl,(aF uV H5)⟩
  trivial))))))))))
end Rm
set_option linter.unusedSimpArgs false
namespace Rm
open Go Go.Proofs Cx Go.RowKit Go.Lib
theorem ajM:(Tryz.prog.info? 3).map (fun i=>(i.zero,i.size,i.bytes))=some (some (.int .i64 0),1,8):=by kernel_rfl
set_option maxHeartbeats 2000000 in
set_option maxRecDepth 100000 in
theorem agG (w:World):Calls Tryz.prog 180 #[.slice none 0 0,.int .i64 0] w fun e w'=>e=.returned (.slice none 0 0)∧w'=w:=by
 go_enter Tryz.func180,Tryz.ntmps180
 go_wp2
 go_ret
 exact⟨rfl,rfl⟩
set_option maxHeartbeats 2000000 in
set_option maxRecDepth 100000 in
theorem agF (n:Nat)(w:World)(h0:0<n)(h1:n≤4294967296):Calls Tryz.prog 180 #[.slice none 0 0,.int .i64 n] w fun e w'=>
 ∃v',e=.returned v'∧w'.ownsRow w.heap.size 3 1 v' 0 []∧Below w.heap.size w w':=by
 obtain⟨i0,hi,zg,rL,hz2⟩:=info_parts ajM;have hr:=run_append_nil_zeros w 48 3 48 3 i0 (.int .i64 0) .i64 .i64 Tryz.underlying48 Tryz.underlying3 hi zg n h0 (by rw[rL];decide) (by omega) (by rw[hz2];omega);have hn:¬((n:Int)<0):=by omega
 have tq:(n:Int)>0:=by omega
 have hw:IntKind.i64.wrap (n:Int)=n:=by rw[IntKind.wrap_i64];omega
 have qh:IntKind.i64.wrap 0=0:=by decide
 have eY:=grownCap_ge w n 0 3;have hle:=grownCap_le_maxLen w n 0 3 (by unfold maxLen;omega);have hs:(Builtin.zeroCells #[Value.int IntKind.i64 0] n++Builtin.zeroCells #[Value.int IntKind.i64 0] (grownCap w n 0 3-n)).size=grownCap w n 0 3*1:=by
  rw[Array.size_append,size_zeroCells,size_zeroCells];simp;omega
 go_enter Tryz.func180,Tryz.ntmps180
 go_wp2_with (at_builtin;refine wpList_append_run _ rfl _ _ 48 3 rfl _ _ rfl rfl _ _ hr ?qc)
 go_ret
 refine⟨_,rfl,?_,?_⟩
 ·exact World.ownsRow.drew (World.ownsRow_made w _ _ (aW _) hle hs)
 ·exact((Below.refl _ w).alloc (aW _) _).drew
def yF (ds:List D):Option D:=
 match ds with
 |[.list [],.v (.int .i64 n)]=>if 0≤n∧n≤4294967296 then some (.list []) else none
 |_=>none
theorem UI (ds:List D)(d:D)(h:yF ds=some d):∃s,dA.sig 180=some s∧xg dA 180 s ds d:=by
 refine⟨_,rfl,fun _=>?_,fun shs obs hm=>by cases hm⟩;unfold yF at h;split at h
 case h_2=>cases h
 rename_i n;split at h
 case isFalse=>cases h
 rename_i hn;cases h;obtain⟨k,rfl⟩:=uC hn.1;intro σ w args au hC ha;obtain⟨a1,a2,a3⟩:=ha;have h0:=a3 0 _ rfl;have h1:=a3 1 _ rfl;obtain⟨u,v,rfl⟩:∃u v,args=#[u,v]:=by
  have:args.size=2:=by simpa using a1
  match args,this with
  |⟨[u,v]⟩,_=>exact⟨u,v,rfl⟩
 simp only[nN,sF] at h0 h1;change Rep dA.cap σ (.nils .bool) u (.list []) at h0;change Rep dA.cap σ (.int .i64) v (.v (.int .i64 k)) at h1;have hu:u=.slice none 0 0:=by cases h0;rfl
 have hv:v=.int .i64 k:=by cases h1;rfl
 subst hu hv;by_cases hk:k=0
 ·subst hk;refine(agG w).mono fun e w' hh=>?_;obtain⟨rfl,rfl⟩:=hh;refine⟨_,σ,rfl,.refl σ,au,.refl _ _,fun _ _ _ h=>.inl h,fun _ _ h=>.inl h,?_⟩;exact⟨[],[],rfl,⟨by simp,.inl ⟨rfl,rfl⟩⟩,⟨fun _=>undef,fun i x hx=>by simp at hx,fun i j u hi=>by simp at hi⟩,fun k hk=>by cases hk⟩
 ·refine(agF k w (by omega) (by omega)).mono fun e w' hh=>?_;obtain⟨v',rfl,bR,hb⟩:=hh;refine⟨v',σ,rfl,.refl σ,au.below hb,hb,fun _ _ _ h=>.inl h,fun _ _ h=>.inl h,?_⟩;refine⟨[],[],rfl,bR,⟨fun _=>undef,fun i x hx=>by simp at hx,fun i j u hi=>by simp at hi⟩,fun k hk=>?_⟩;have bm:=(bR.lt k hk).1;refine⟨fun o=>?_,?_⟩
  ·cases hc:σ.c k o with
   |none=>rfl
   |some u=>have:=World.block_lt_of_cell? w (a:=⟨k,o,none⟩) (au.c _ _ _ hc);simp at this;omega
  ·cases hc:σ.m k with
   |none=>rfl
   |some u=>have:=(au.m _ _ hc).lt;omega
theorem SC {f:Nat}{s:Sig}{ds:List D}{d:D}(h:fH dA f s ds d):fH ctx f s ds d:=fun σ w args au hC ha=>
 h σ w args au ⟨fun g x hx=>(by cases hx),fun g x hx=>(by cases hx)⟩ ha
theorem agD (ds:List D)(d:D)(h:yF ds=some d):∃s,ctx.sig 180=some s∧xg ctx 180 s ds d:=by
 obtain⟨s,h1,h2⟩:=UI ds d h;refine⟨s,h1,fun hm=>SC (h2.1 hm),fun shs obs hm=>?_⟩;cases h1;cases hm
def Um:List (Nat×(aK→List D→Option D)):=[(180,fun _ ds=>yF ds)]
def Uk:Nat→Option (aK→List D→Option D):=aY Um
theorem aaV:TabOK dA lT Uk:=by
 refine⟨adV,ajS,fun f pc _ h=>aoc f pc h,fun f g hg Φ hΦ dB ds d h=>?_⟩
 have:=C8 (R:=fun f (g:aK→List D→Option D)=>∀Φ,cL dA Φ→fI dA Φ→∀ds d,g Φ ds=some d→(∀s,dA.sig f=some s→xg dA f s ds d)∧
  ∀cs ys,dA.cap f=some cs→jA cs.args cs.res=some ys→∃xs,d=.list xs∧(∀x,x∈xs→∃ds',x=.tup ds'∧ds'.length=ys.length)∧kD dA f cs.caps ys ds xs) (l:=Um)
  ⟨fun Φ hΦ dB ds d h=>⟨fun s hs=>by obtain⟨s',h1,h2⟩:=UI ds d h;rw[hs] at h1;cases h1;exact h2,fun cs ys hc hi=>by cases hc⟩,trivial⟩ f g hg
 exact this Φ hΦ dB ds d h
abbrev T1:cq:=eG lT Uk
open Classical in
def uv (f:Nat)(_:aK)(ds:List D):Option D:=if h:∃d,ak T1 f ds d then some h.choose else none
theorem aqn {f:Nat}{Φ:aK}{ds:List D}{d:D}(h:ak T1 f ds d):uv f Φ ds=some d:=by
 have h':∃d,ak T1 f ds d:=⟨d,h⟩
 unfold uv;rw[dif_pos h',ak.det h'.choose_spec h]
theorem Sg {f:Nat}{s:Sig}{Φ:aK}{ds:List D}{d:D}(hs:ctx.sig f=some s)(hm:np s.mode=false)(h:uv f Φ ds=some d):fH ctx f s ds d:=by
 unfold uv at h;split at h
 ·rename_i h';cases h;exact SC (ak.fnOK aaV hs h'.choose_spec hm)
 ·cases h
end Rm
namespace Go.Proofs
open Go.Shelf
def Tryz.lays189_ren:Go.Shelf.Ren:=⟨fun|189=>125|125=>162|257=>161|128=>197|129=>198|294=>188|295=>189|296=>190|297=>191|298=>192|299=>193|216=>194|300=>195|301=>196|328=>210|329=>211|330=>212|331=>213|332=>214|215=>145|343=>218|n=>n,fun|28=>48|3=>3|46=>196|0=>0|51=>221|53=>223|4=>4|183=>216|182=>215|131=>126|5=>5|9=>9|218=>228|222=>232|228=>238|229=>239|n=>n,fun|n=>n⟩
theorem Tryz.lays189:Go.Proofs.Lays.n189 Tryz.prog Tryz.lays189_ren:={
 mixed:=by kernel_rfl
 f125:=Tryz.func162.trans (congrArg some (by kernel_rfl))
 f128:=Tryz.func197.trans (congrArg some (by kernel_rfl))
 f129:=Tryz.func198.trans (congrArg some (by kernel_rfl))
 f189:=Tryz.func125.trans (congrArg some (by kernel_rfl))
 f215:=Tryz.func145.trans (congrArg some (by kernel_rfl))
 f216:=Tryz.func194.trans (congrArg some (by kernel_rfl))
 f257:=Tryz.func161.trans (congrArg some (by kernel_rfl))
 f294:=Tryz.func188.trans (congrArg some (by kernel_rfl))
 f295:=Tryz.func189.trans (congrArg some (by kernel_rfl))
 f296:=Tryz.func190.trans (congrArg some (by kernel_rfl))
 f297:=Tryz.func191.trans (congrArg some (by kernel_rfl))
 f298:=Tryz.func192.trans (congrArg some (by kernel_rfl))
 f299:=Tryz.func193.trans (congrArg some (by kernel_rfl))
 f300:=Tryz.func195.trans (congrArg some (by kernel_rfl))
 f301:=Tryz.func196.trans (congrArg some (by kernel_rfl))
 f328:=Tryz.func210.trans (congrArg some (by kernel_rfl))
 f329:=Tryz.func211.trans (congrArg some (by kernel_rfl))
 f330:=Tryz.func212.trans (congrArg some (by kernel_rfl))
 f331:=Tryz.func213.trans (congrArg some (by kernel_rfl))
 f332:=Tryz.func214.trans (congrArg some (by kernel_rfl))
 f343:=Tryz.func218.trans (congrArg some (by kernel_rfl))
 t0:=Tryz.underlying0
 a0:=Tryz.isAgg0
 z0:=Tryz.sizeOf0
 v0:=Tryz.zeroValue0
 t3:=Tryz.underlying3
 a3:=Tryz.isAgg3
 z3:=Tryz.sizeOf3
 v3:=Tryz.zeroValue3
 t4:=Tryz.underlying4
 a4:=Tryz.isAgg4
 z4:=Tryz.sizeOf4
 v4:=Tryz.zeroValue4
 t5:=Tryz.underlying5
 a5:=Tryz.isAgg5
 z5:=Tryz.sizeOf5
 v5:=Tryz.zeroValue5
 t9:=Tryz.underlying9
 a9:=Tryz.isAgg9
 z9:=Tryz.sizeOf9
 v9:=Tryz.zeroValue9
 t28:=Tryz.underlying48
 a28:=Tryz.isAgg48
 z28:=Tryz.sizeOf48
 v28:=Tryz.zeroValue48
 t46:=Tryz.underlying196
 a46:=Tryz.isAgg196
 z46:=Tryz.sizeOf196
 v46:=Tryz.zeroValue196
 t51:=Tryz.underlying221
 a51:=Tryz.isAgg221
 z51:=Tryz.sizeOf221
 v51:=Tryz.zeroValue221
 t53:=Tryz.underlying223
 a53:=Tryz.isAgg223
 z53:=Tryz.sizeOf223
 v53:=Tryz.zeroValue223
 t131:=Tryz.underlying126
 a131:=Tryz.isAgg126
 z131:=Tryz.sizeOf126
 v131:=Tryz.zeroValue126
 t182:=Tryz.underlying215
 a182:=Tryz.isAgg215
 z182:=Tryz.sizeOf215
 v182:=Tryz.zeroValue215
 t183:=Tryz.underlying216
 a183:=Tryz.isAgg216
 z183:=Tryz.sizeOf216
 v183:=Tryz.zeroValue216
 t218:=Tryz.underlying228
 a218:=Tryz.isAgg228
 z218:=Tryz.sizeOf228
 v218:=Tryz.zeroValue228
 t222:=Tryz.underlying232
 a222:=Tryz.isAgg232
 z222:=Tryz.sizeOf232
 v222:=Tryz.zeroValue232
 t228:=Tryz.underlying238
 a228:=Tryz.isAgg238
 z228:=Tryz.sizeOf238
 v228:=Tryz.zeroValue238
 t229:=Tryz.underlying239
 a229:=Tryz.isAgg239
 z229:=Tryz.sizeOf239
 v229:=Tryz.zeroValue239}
open Go.Sort Go.RowKit in
theorem Tryz.slices_Sort_int (nX off cap:Nat)(zs:List Int)(w:World)(hH:Holds (Value.int .i64) w nX off zs.toArray)(GQ:nX<w.heap.size)(aC:zs.length<4611686018427387904):
 Calls Tryz.prog 125 #[.slice (some ⟨nX,off,none⟩) zs.length cap] w fun e w'=>
  e=.returned (.tuple #[])∧∃n os,w'=grow (putRow (Value.int .i64) (Sort.ahead w n) nX off (zs.mergeSort fun x y=>decide (x≤y)).toArray) os:=Any.slices_Sort_int Tryz.lays189 nX off cap zs w hH GQ aC
def Tryz.laysNm220_ren:Go.Shelf.Ren:=⟨fun|20=>126|n=>n,fun|22=>48|3=>3|4=>4|0=>0|n=>n,fun|n=>n⟩
theorem Tryz.laysNm220:Go.Proofs.Lays2.n20 Tryz.prog Tryz.laysNm220_ren:={
 mixed:=by kernel_rfl
 f20:=Tryz.func126.trans (congrArg some (by kernel_rfl))
 t0:=Tryz.underlying0
 a0:=Tryz.isAgg0
 z0:=Tryz.sizeOf0
 v0:=Tryz.zeroValue0
 t3:=Tryz.underlying3
 a3:=Tryz.isAgg3
 z3:=Tryz.sizeOf3
 v3:=Tryz.zeroValue3
 t4:=Tryz.underlying4
 a4:=Tryz.isAgg4
 z4:=Tryz.sizeOf4
 v4:=Tryz.zeroValue4
 t22:=Tryz.underlying48
 a22:=Tryz.isAgg48
 z22:=Tryz.sizeOf48
 v22:=Tryz.zeroValue48
 i3:=by kernel_rfl}
open Go.RowKit Go.Lib Go.Sort in
theorem Tryz.slices_Compact_int (nX off cap:Nat)(zs:List Int)(w:World)(hH:Holds (Value.int .i64) w nX off zs.toArray)(aC:zs.length≤9223372036854775807)(eX:zs.length≤cap):
 Calls Tryz.prog 126 #[.slice (some ⟨nX,off,none⟩) zs.length cap] w fun e w'=>e=.returned (.slice (some ⟨nX,off,none⟩) (Lib.compact zs).length cap)∧∃q,w'=putRow (Value.int .i64) (Sort.ahead w q) nX off (Lib.compact zs++List.replicate (zs.length-(Lib.compact zs).length) 0).toArray:=Any.slices_Compact_int Tryz.laysNm220 nX off cap zs w hH aC eX
open Go.RowKit Go.Lib Go.Sort in
theorem Tryz.slices_Compact_int_empty (a:Option Addr)(cap:Nat)(w:World):
 Calls Tryz.prog 126 #[.slice a 0 cap] w fun e w'=>e=.returned (.slice a 0 cap)∧w'=w:=Any.slices_Compact_int_empty Tryz.laysNm220 a cap w
open Go.RowKit Go.Sort in
theorem Tryz.slices_Sort_int_none (p:Option Addr)(cap:Nat)(w:World):
 Calls Tryz.prog 125 #[.slice p 0 cap] w fun e w'=>e=.returned (.tuple #[])∧w'=w:=Any.slices_Sort_int_none Tryz.lays189 p cap w
end Go.Proofs
namespace Rm
open Go Cx
def vR (x:Int):List Int→List Int
 |[]=>[x]
 |y::l=>if x≤y then x::y::l else y::vR x l
def km:List Int→List Int
 |[]=>[]
 |x::l=>vR x (km l)
theorem M9 (x:Int):∀l,(vR x l).Perm (x::l)
 |[]=>.refl _
 |y::l=>by
  unfold vR;split
  ·exact .refl _
  ·exact((M9 x l).cons y).trans (.swap x y l)
theorem Hv:∀l,(km l).Perm l
 |[]=>.refl _
 |x::l=>(M9 x _).trans ((Hv l).cons x)
theorem Wr (x:Int):∀{l:List Int},l.Pairwise (·≤·)→(vR x l).Pairwise (·≤·)
 |[],_=>by simp[vR]
 |y::l,h=>by
  have h':=EZ.1 h;unfold vR;split
  ·rename_i oJ;refine EZ.2 ⟨fun z hz=>?_,h⟩;rcases cM.1 hz with rfl|hz
   ·exact oJ
   ·exact Int.le_trans oJ (h'.1 z hz)
  ·rename_i oJ;refine EZ.2 ⟨fun z hz=>?_,Wr x h'.2⟩;rcases cM.1 ((M9 x l).mem_iff.1 hz) with rfl|hz
   ·omega
   ·exact h'.1 z hz
theorem Wt:∀l,(km l).Pairwise (·≤·)
 |[]=>.nil
 |x::l=>Wr x (Wt l)
theorem ajN (l:List Int):(l.mergeSort fun x y=>decide (x≤y))=km l:=by
 have h1:(l.mergeSort fun x y=>decide (x≤y)).Pairwise (fun x y=>decide (x≤y)=true):=List.pairwise_mergeSort (fun a b c h1 h2=>by simp at*;omega) (fun a b=>by simp;omega) l;refine List.Perm.eq_of_pairwise (le:=(·≤·)) (fun a b _ _ h1 h2=>by omega) (h1.imp fun h=>by simpa using h) (Wt l) ((List.mergeSort_perm l _).trans (Hv l).symm)
theorem CY (l:List Int):(km l).length=l.length:=(Hv l).length_eq
def Bw (l:List Int)(k:Nat):List Int:=((List.range k).filter fun j=>decide (j=0∨l.getD j 0≠l.getD (j-1) 0)).map fun j=>l.getD j 0
def gy (l:List Int):List Int:=Bw l l.length
theorem TZ (l:List Int)(k:Nat):(Bw l k).length≤k:=by
 unfold Bw;rw[ed];exact ij (sH _ _) (by simp)
end Rm
namespace Rm
open Go Go.Proofs Cx Go.RowKit Go.Lib
theorem ad5 (l:List Int):Go.Lib.compact l=gy l:=by
 have e:∀j,l.toArray[j]! =l.getD j 0:=fun j=>by simp[aG,getElem!_def];cases l[j]?<;>rfl
 unfold Go.Lib.compact Go.Lib.compactUpTo gy Bw Go.Lib.keeps;simp only[e]
def mQ (B:Nat)(w:World)(r:Value)(l:List Int):Prop:=
 (l=[]∧∃p,r=.slice p 0 0)∨∃g o c,r=.slice (some ⟨g,o,none⟩) l.length c∧l.length≤c∧c≤maxLen∧B≤g∧g<w.heap.size∧Go.Sort.Holds (Value.int .i64) w g o l.toArray∧kP w g gE
theorem WA {w:World}{g:Nat}(h:kP w g gE)(o:Nat)(d:Array Int)(n:Nat)(os:Array Obj)(hg:g<w.heap.size):kP (Go.Sort.grow (Go.Sort.putRow (Value.int .i64) (Go.Sort.ahead w n) g o d) os) g gE:=by
 have e:∀ob,w.heap[g]?=some ob→(Go.Sort.grow (Go.Sort.putRow (Value.int .i64) (Go.Sort.ahead w n) g o d) os).heap[g]?=some (Go.Sort.onCells (fun c=>(Go.Sort.putCells (Value.int .i64) o d c)) ob):=fun ob cu=>by
  rw[Go.Sort.heap_grow_old _ _ (by simp[Go.Sort.ahead];exact hg)];unfold Go.Sort.putRow Go.Sort.mapBlock;simp[JG,Go.Sort.ahead,cu]
 rcases h with⟨h0,arr,cl,h1,h2⟩|⟨h1,_⟩|⟨h1,cs,T,fz,h2⟩
 ·exact .inl ⟨h0,arr,cl,e _ h1,h2⟩
 ·exact absurd h1 sn
 ·exact .inr (.inr ⟨rfl,_,_,_,e _ h2⟩)
theorem ak7 (w:World)(g:Nat)(f:Array Value→Array Value)(k:Nat)(h:k≠g):(Go.Sort.mapBlock w g f).heap[k]?=w.heap[k]?:=by
 unfold Go.Sort.mapBlock;simp[JG,uH h]
theorem Zm {B:Nat}{w0 w:World}(h:Below B w0 w){g o:Nat}(hg:B≤g)(d:Array Int)(n:Nat)(os:Array Obj)(hs:B≤w.heap.size):Below B w0 (Go.Sort.grow (Go.Sort.putRow (Value.int .i64) (Go.Sort.ahead w n) g o d) os):=by
 refine h.trans ⟨rfl,rfl,rfl,by simp[Go.Sort.ahead],fun k hk=>?_⟩;rw[Go.Sort.heap_grow_old _ _ (by simp[Go.Sort.ahead];omega)];exact ak7 _ _ _ _ (by omega)
set_option maxHeartbeats 2000000 in
theorem ane (x y z v:Value)(w:World)(k e:Int)(he:e≠0)(h1:x.oneCell'=true)(h2:y.oneCell'=true)(h3:z.oneCell'=true)
 (yR:∀W,Below w.heap.size w W→Calls Tryz.prog 115 #[.agg #[x,y,z]] W fun e' w'=>e'=.returned (.tuple #[.int .i64 k,.int .i64 e])∧Below W.heap.size W w'):
 Calls Tryz.prog 82 #[.agg #[x,y,z],v] w fun e' w'=>e'=.returned (.slice none 0 0)∧Below w.heap.size w w':=by
 go_enter Tryz.func82,Tryz.ntmps82
 go_wp2_with (first
  |(go_at_call 115
    have ry:=(Below.refl w.heap.size w).alloc (aW _) (.cells #[x,y,z] 114 (0,0));refine(yR _ ry).mono ?_;rintro e' W1 ⟨rfl,dJ⟩;have bT:=ry.trans (dJ.mono ry.size);clear ry dJ))
 go_ret
 exact⟨rfl,bT⟩
theorem mQ.below {B:Nat}{w w':World}{r:Value}{l:List Int}(h:mQ B w r l)(hb:Below w.heap.size w w'):mQ B w' r l:=
 h.imp id fun⟨g,o,c,a1,a2,a3,a4,a5,a6,a7⟩=>⟨g,o,c,a1,a2,a3,a4,qO a5 hb.size,fun j hj=>by
  have:=a6 j hj;rw[hb.cell (by exact a5),hb.frozen (by exact a5)];exact this,a7.keep (hb.block g a5)⟩
theorem an2 {B:Nat}{w:World}{r:Value}{l:List Int}(h:mQ B w r l)(hB:B≤w.heap.size)(hl:l.length≤4294967296):
 Calls Tryz.prog 125 #[r] w fun e w'=>e=.returned (.tuple #[])∧Below B w w'∧mQ B w' r (km l):=by
 rcases h with⟨rfl,p,rfl⟩|⟨g,o,c,rfl,h1,h2,h3,h4,h5,h6⟩
 ·refine(Tryz.slices_Sort_int_none p 0 w).mono fun e w' hh=>?_;obtain⟨rfl,rfl⟩:=hh;exact⟨rfl,.refl _ _,.inl ⟨rfl,p,rfl⟩⟩
 ·refine(Tryz.slices_Sort_int g o c l w h5 h4 (by omega)).mono fun e w' hh=>?_;obtain⟨rfl,n,os,rfl⟩:=hh;rw[ajN];have aC:(km l).toArray.size=l.toArray.size:=by simp[CY]
  refine⟨rfl,Zm (.refl _ _) h3 _ _ _ hB,.inr ⟨g,o,c,by rw[CY],by rw[CY];exact h1,h2,h3,by simp[Go.Sort.ahead];omega,?_,WA h6 _ _ _ _ h4⟩⟩;refine Go.Sort.holds_grow _ _ _ _ _ _ (by simp[Go.Sort.ahead];omega) ?_;exact Go.Sort.holds_putRow _ _ _ _ _ _ h5 aC
theorem ad6 {B:Nat}{w:World}{r:Value}{l:List Int}(h:mQ B w r l)(hB:B≤w.heap.size)(hl:l.length≤4294967296):
 Calls Tryz.prog 126 #[r] w fun e w'=>∃r',e=.returned r'∧Below B w w'∧mQ B w' r' (gy l):=by
 rcases h with⟨rfl,p,rfl⟩|⟨g,o,c,rfl,h1,h2,h3,h4,h5,h6⟩
 ·refine(Tryz.slices_Compact_int_empty p 0 w).mono fun e w' hh=>?_;obtain⟨rfl,rfl⟩:=hh;exact⟨_,rfl,.refl _ _,.inl ⟨rfl,p,rfl⟩⟩
 ·refine(Tryz.slices_Compact_int g o c l w h5 (by omega) h1).mono fun e w' hh=>?_;rw[ad5] at hh;obtain⟨rfl,q,rfl⟩:=hh;have hd:(gy l).length≤l.length:=TZ l l.length;have hb:=Zm (w:=w) (o:=o) (.refl B w) h3 (gy l++List.replicate (l.length-(gy l).length) 0).toArray q #[] hB;rw[Go.Sort.grow_empty] at hb;have hh:=Go.Sort.holds_putRow (Value.int .i64) (Go.Sort.ahead w q) g o l.toArray (gy l++List.replicate (l.length-(gy l).length) 0).toArray h5 (by simp;omega);refine⟨_,rfl,hb,.inr ⟨g,o,c,rfl,by omega,h2,h3,by simp[Go.Sort.ahead];omega,fun j hj=>?_,by have:=WA h6 o (gy l++List.replicate (l.length-(gy l).length) 0).toArray q #[] h4;rwa [Go.Sort.grow_empty] at this⟩⟩;have bG:j<(gy l).length:=by simpa using hj
  have:=hh j (by simp;omega);refine⟨this.1.trans ?_,this.2⟩;have e:(gy l++List.replicate (l.length-(gy l).length) 0).toArray[j]! =(gy l).toArray[j]!:=by
   simp[getElem!_def,jF bG]
  rw[e]
set_option maxHeartbeats 2000000 in
theorem ang (x y z:Value)(p:Option Addr)(vn vc:Nat)(w:World)(k:Int)(l:List Int)(h1:x.oneCell'=true)(h2:y.oneCell'=true)(h3:z.oneCell'=true)(hl:l.length≤4294967296)
 (yR:∀W,Below w.heap.size w W→Calls Tryz.prog 115 #[.agg #[x,y,z]] W fun e' w'=>e'=.returned (.tuple #[.int .i64 k,.int .i64 0])∧Below W.heap.size W w')
 (ah:∀W,Below w.heap.size w W→Calls Tryz.prog 116 #[.agg #[.slice p vn vc],.agg #[x,y,z]] W fun e' w'=>∃b n r,e'=.returned (.tuple #[.agg #[.bool b,.int .i64 n],r])∧Below W.heap.size W w'∧mQ W.heap.size w' r l):
 Calls Tryz.prog 82 #[.agg #[x,y,z],.slice p vn vc] w fun e' w'=>∃r,e'=.returned r∧Below w.heap.size w w'∧mQ w.heap.size w' r (gy (km l)):=by
 go_enter Tryz.func82,Tryz.ntmps82
 go_wp2_with (first
  |(go_at_call 115
    have ry:=(Below.refl w.heap.size w).alloc (aW _) (.cells #[x,y,z] 114 (0,0));refine(yR _ ry).mono ?_;rintro e' W1 ⟨rfl,dJ⟩;have bT:=ry.trans (dJ.mono ry.size);have rz:W1.heap[w.heap.size]?=some (.cells #[x,y,z] 114 (0,0)):=by
     rw[dJ.block _ (by simp)];show(w.heap.push _)[w.heap.size]?=_;exact Array.getElem?_push_size
    have q0:W1.cell? ⟨w.heap.size,0,none⟩=some x:=by simp[World.cell?,rz]
    have q1:W1.cell? ⟨w.heap.size,1,none⟩=some y:=by simp[World.cell?,rz]
    have q2:W1.cell? ⟨w.heap.size,2,none⟩=some z:=by simp[World.cell?,rz]
    clear ry dJ rz)
  |(go_at_call 116
    refine(ah _ bT).mono ?_;rintro e' W2 ⟨b,n,r,rfl,yP,hr⟩;have LD:=bT.trans (yP.mono bT.size);have tz:mQ w.heap.size W2 r l:=hr.imp id fun⟨g,o,c,a1,a2,a3,a4,a5⟩=>⟨g,o,c,a1,a2,a3,ij bT.size a4,a5⟩
    have hc:=(Below.refl W2.heap.size W2).alloc (aW _) (.cells #[.bool b,.int .i64 n] 47 (0,0));have LF:=LD.trans (hc.mono LD.size);have V0:=tz.below hc;clear hr bT yP q0 q1 q2 tz LD hc)
  |(go_at_call 125
    refine(an2 V0 LF.size hl).mono ?_;rintro e' W3 ⟨rfl,U7,V1⟩;have LG:=LF.trans U7;clear V0 LF U7)
  |(go_at_call 126
    refine(ad6 V1 LG.size (by rw[CY];exact hl)).mono ?_;rintro e' W4 ⟨r',rfl,U8,hr9⟩;have LH:=LG.trans U8;clear V1 LG U8))
 go_ret
 exact⟨r',rfl,LH,hr9⟩
end Rm
namespace Rm
open Go Go.Proofs Cx Go.RowKit
abbrev Nz:Nat:=82
inductive NoI:Ty→Prop where
 |int (k:IntKind):NoI (.int k)
 |bool:NoI .bool
 |str:NoI .str
 |agg (ts:List Ty) (h:∀t,t∈ts→NoI t):NoI (.agg ts)
 |slice (e:Ty) (h:e≠.int .i64) (he:NoI e):NoI (.slice e)
 |trm:NoI .trm
theorem NoI.unf {e:Ty}(h:NoI e):NoI e.unf:=by
 cases h with
 |trm=>
  refine .agg _ fun t ht=>?_;simp at ht;rcases ht with rfl|rfl
  ·exact .int _
  ·exact .slice _ (by intro h;cases h) .trm
 |int k=>exact .int k
 |bool=>exact .bool
 |str=>exact .str
 |agg ts h=>exact .agg ts h
 |slice e h he=>exact .slice e h he
open Classical in
def Im.un (σ:Im):Im:=⟨σ.c,fun k=>if σ.m k=some gE then none else σ.m k⟩
theorem Rep.un {cap:Nat→Option CSig}{σ:Im}{t:Ty}{v:Value}{d:D}(h:Rep cap σ t v d):NoI t→Rep cap (Im.un σ) t v d:=by
 induction h with
 |int k n h1 h2=>intro _;exact .int k n h1 h2
 |bool b=>intro _;exact .bool b
 |str s h=>intro _;exact .str s h
 |agg ts vs ds h1 h2 _ ho ih=>
  intro hn;cases hn with
  |agg _ hn=>exact .agg ts vs ds h1 h2 (fun i t ht=>ih i t ht (hn t (jn ht))) ho
 |tup ts vs ds h1 h2 _ ih=>intro hn;cases hn
 |nil e=>intro _;exact .nil e
 |emp e a=>intro _;exact .emp e a
 |nils e=>intro hn;cases hn
 |nsl0 e=>intro hn;cases hn
 |nsl e k o n c xs _ hx ih=>intro hn;cases hn
 |slice e k o n c xs vs hn hc hm _ hv hz ih=>
  intro gR;cases gR with
  |slice _ ay he=>exact .slice e k o n c xs vs hn hc hm (fun i x hx=>ih i x hx he.unf) hv fun e'=>absurd e' ay
 |mapnil kt et=>intro hn;cases hn
 |map kt et r fW es hm hl hx _ _ jz zh=>intro hn;cases hn
 |ref t k o v d _ hv ih=>intro hn;cases hn
 |fn f cs vs ds hc h1 h2 _ ih=>intro hn;cases hn
 |fnnil l r=>intro hn;cases hn
theorem Im.un_ok {σ:Im}{w:World}(h:σ.ok w):(Im.un σ).ok w:=by
 refine⟨h.c,fun k es e=>?_,h.f⟩;unfold Im.un at e;dsimp only at e;split at e
 ·cases e
 ·exact h.m k es e
theorem Im.un_row {σ:Im}{k:Nat}:(Im.un σ).m k≠some gE:=by
 unfold Im.un;dsimp only;split
 ·intro h;cases h
 ·assumption
def uI (Φ:aK)(ds:List D)(r:D):Prop:=
 ∃t c,ds=[t,c]∧∃k e:Int,Φ 115 [t]=some (.tup [.int k,.int e])∧
  (e≠0∧r=.list []∨e=0∧∃x,∃l:List Int,ak T1 116 [.agg [c],t] (.tup [x,ints l])∧(l.length≤4294967296∧∀y,y∈l→-1000000≤y∧y≤1000000)∧r=ints (gy (km l)))
theorem aeh {l:List Int}{y:Int}(h:y∈gy l):y∈l:=by
 unfold gy Bw at h;obtain⟨j,hj,rfl⟩:=dP.1 h;have bG:j<l.length:=bV.1 (dO.1 hj).1;rw[aG,bq bG];exact cT bG
theorem ajO {l m:List Int}(h:ints l=ints m):l=m:=by
 have h1:l.map D.int=m.map D.int:=by unfold ints at h;injection h
 have:∀{l m:List Int},l.map D.int=m.map D.int→l=m:=by
  intro l
  induction l with
  |nil=>intro m h;cases m<;>simp at h ⊢
  |cons a l ih=>
   intro m h;cases m with
   |nil=>simp at h
   |cons b m=>
    simp only[gr,SI] at h;have e:a=b:=by
     have:=congrArg D.i h.1;simpa using this
    rw[e,ih h.2]
 exact this h1
theorem uI.uniq {Φ:aK}{ds:List D}{r r':D}(h:uI Φ ds r)(h':uI Φ ds r'):r=r':=by
 obtain⟨t,c,rfl,k,e,h1,h2⟩:=h;obtain⟨t',c',hd,k',e',cB,gz⟩:=h';simp only[SI,and_true] at hd;obtain⟨rfl,rfl⟩:=hd;rw[h1] at cB;have he:e=e':=by
  have:=congrArg (fun d=>((d.getD .none).tget 1).i) cB;simpa using this
 subst he;rcases h2 with⟨h2,rfl⟩|⟨h2,x,l,h3,h4,rfl⟩
 ·rcases gz with⟨_,rfl⟩|⟨gz,_⟩
  ·rfl
  ·exact absurd gz h2
 ·rcases gz with⟨gz,_⟩|⟨_,x',l',gd,_,rfl⟩
  ·exact absurd h2 gz
  ·have:=ak.det h3 gd;have e2:ints l=ints l':=by
        injection this with this
        simp only[SI,and_true] at this;exact this.2
   rw[ajO e2]
open Classical in
def wO (Φ:aK)(ds:List D):Option D:=if h:∃r,uI Φ ds r then some h.choose else none
theorem anb {Φ:aK}{ds:List D}{r:D}(h:uI Φ ds r):wO Φ ds=some r:=by
 have h':∃r,uI Φ ds r:=⟨r,h⟩
 unfold wO;rw[dif_pos h',h'.choose_spec.uniq h]
theorem anc {Φ:aK}{ds:List D}{r:D}(h:wO Φ ds=some r):uI Φ ds r:=by
 unfold wO at h;split at h
 ·rename_i h';cases h;exact h'.choose_spec
 ·cases h
theorem adG:NoI (.agg [.slice (.agg [.bool,.int .i64])]):=.agg _ fun t ht=>by
 simp at ht;subst ht
 exact .slice _ (by intro h;cases h) (.agg _ fun t ht=>by
  simp at ht;rcases ht with rfl|rfl
  ·exact .bool
  ·exact .int _)
theorem aqd:NoI (.agg [.int .i64,.int .i64,.slice .trm]):=NoI.unf .trm
theorem alr {cap:Nat→Option CSig}{σ σ':Im}{w w':World}{r:Value}{l:List Int}(au:σ'.ok w')(hz:∀k,σ.m k≠some gE)(hs:0<w.heap.size)
 (hm:∀k x,σ'.m k=some x→σ.m k=some x∨w.heap.size≤k) (h:Rep cap σ' (.slice (.int .i64)) r (ints l)):mQ w.heap.size w' r l:=by
 obtain⟨xs,hx,pY⟩:=h.slice_inv';have hx:xs=l.map D.int:=by
  have:D.list (l.map D.int)=D.list xs:=hx;injection this with this
  exact this.symm
 subst hx;rcases pY with⟨⟨p,rfl⟩,e⟩|⟨g,o,c,rfl,h1,h2,tF,vs,h3,h4⟩
 ·exact .inl ⟨by simpa using e,p,rfl⟩
 ·have hk:=tF rfl;have hg:w.heap.size≤g:=(hm g _ hk).resolve_left (hz g);rw[ed] at h1;refine .inr ⟨g,o,c,by rw[ed],h1,h2,hg,(au.m _ _ hk).lt,fun j hj=>?_,au.m _ _ hk⟩;have bG:j<l.length:=by simpa using hj
  have hr:=h3 j (D.int l[j]) (by simp[bG]);have hv:vs j=.int .i64 l[j]:=by
   obtain⟨n,e1,e2,_⟩:=Rep.int_inv hr;have:l[j]=n:=by
        have:=congrArg D.i e2;simpa using this
   rw[e1,this]
  have hc:=h4 j 0 (.int .i64 l[j]) (by simpa using bG) (by rw[hv];rfl);have ho:o+j*(Ty.int .i64).size+0=o+j:=by simp[Ty.size]
  rw[ho] at hc;have e:l.toArray[j]! =l[j]:=by simp[getElem!_def,bG]
  exact⟨by rw[e];exact au.c _ _ _ hc,(au.f _ _ _ hc).resolve_left (by omega)⟩
theorem anf {Φ:aK}(hΦ:cL ctx Φ){ds:List D}{d:D}(h:wO Φ ds=some d):∃s,ctx.sig Nz=some s∧xg ctx Nz s ds d:=by
 refine⟨_,rfl,fun _=>?_,fun shs obs hm=>by cases hm⟩;obtain⟨t,c,rfl,k,e,h1,h2⟩:=anc h;intro σ w args au hC ha;obtain⟨a1,a2,a3⟩:=ha;have g0:=a3 0 _ rfl;have g1:=a3 1 _ rfl;obtain⟨u,v,rfl⟩:∃u v,args=#[u,v]:=by
  have:args.size=2:=by simpa using a1
  match args,this with
  |⟨[u,v]⟩,_=>exact⟨u,v,rfl⟩
 simp only[nN,sF] at g0 g1;change Rep ctx.cap σ (.agg [.int .i64,.int .i64,.slice .trm]) u t at g0;change Rep ctx.cap σ (.slice (.agg [.bool,.int .i64])) v c at g1;obtain⟨us,ts,rfl,rfl,l1,l2,bH,cR⟩:=g0.agg_inv;obtain⟨x,y,z,rfl⟩:∃x y z,us=[x,y,z]:=by
  match us,l1 with
  |[x,y,z],_=>exact⟨x,y,z,rfl⟩
 have o1:x.oneCell'=true:=((bH 0 _ rfl).oneCell (cR 0 _ rfl)).2;have o2:y.oneCell'=true:=((bH 1 _ rfl).oneCell (cR 1 _ rfl)).2;have o3:z.oneCell'=true:=((bH 2 _ rfl).oneCell (cR 2 _ rfl)).2;have ahm:=(hΦ 115 _ _ h1 _ rfl).1 rfl
 have yR:∀W,Below w.heap.size w W→Calls Tryz.prog 115 #[.agg #[x,y,z]] W fun e' w'=>e'=.returned (.tuple #[.int .i64 k,.int .i64 e])∧Below W.heap.size W w':=fun W hb=>by
  refine(ahm σ W #[.agg #[x,y,z]] (au.below hb) hC ⟨rfl,rfl,fun i t hi=>?_⟩).mono fun e' w' hh=>?_
  ·match i,hi with
   |0,hi=>cases hi;exact g0
  ·obtain⟨v',σ',rfl,_,_,hB,_,_,du⟩:=hh;have du:Rep ctx.cap σ' (.tup [.int .i64,.int .i64]) v' (.tup [.int k,.int e]):=du;refine⟨?_,hB⟩;cases du with
   |tup _ qG ds' q1 q2 q3=>
    match qG,q1 with
    |[p,q],_=>
     obtain⟨n1,e1,f1,_⟩:=Rep.int_inv (q3 0 _ rfl);obtain⟨n2,e2,f2,_⟩:=Rep.int_inv (q3 1 _ rfl);simp only[nN,sF] at e1 f1 e2 f2;have:k=n1:=by have:=congrArg D.i f1;simpa using this
     have:e=n2:=by have:=congrArg D.i f2;simpa using this
     subst e1 e2;simp_all
 rcases h2 with⟨he,rfl⟩|⟨rfl,cv,l,h3,hl,rfl⟩
 ·refine(ane x y z v w k e he o1 o2 o3 yR).mono fun e' w' hh=>?_;obtain⟨rfl,hB⟩:=hh;exact⟨_,σ,rfl,.refl σ,au.below hB,hB,fun _ _ _ h=>.inl h,fun _ _ h=>.inl h,.nil _⟩
 ·obtain⟨p,vn,vc,rfl⟩:∃p n c,v=.slice p n c:=by
   obtain⟨xs,_,pY⟩:=g1.slice_inv;rcases pY with⟨⟨p,rfl⟩,_⟩|⟨g,o,c,rfl,_⟩
   ·exact⟨_,_,_,rfl⟩
   ·exact⟨_,_,_,rfl⟩
  have ai0:fH dA 116 _ _ _:=ak.fnOK aaV rfl h3 rfl;have MF:0<w.heap.size:=by
   have:=hC.mg 0 _ rfl;have:=(au.m _ _ this).lt;omega
  have gm:Rep ctx.cap σ (.agg [.slice (.agg [.bool,.int .i64])]) (.agg #[.slice p vn vc]) (.agg [c]):=by
   refine .agg [_] [.slice p vn vc] [c] rfl rfl (fun i t hi=>?_) (fun i t hi=>?_)
   ·match i,hi with
    |0,hi=>cases hi;exact g1
   ·match i,hi with
    |0,hi=>cases hi;rfl
  have ah:∀W,Below w.heap.size w W→Calls Tryz.prog 116 #[.agg #[.slice p vn vc],.agg #[x,y,z]] W fun e' w'=>∃b n r,e'=.returned (.tuple #[.agg #[.bool b,.int .i64 n],r])∧Below W.heap.size W w'∧mQ W.heap.size w' r l:=fun W hb=>by
   refine(ai0 (Im.un σ) W #[.agg #[.slice p vn vc],.agg #[x,y,z]] (Im.un_ok (au.below hb)) ⟨fun g x hx=>(by cases hx),fun g x hx=>(by cases hx)⟩ ⟨rfl,rfl,fun i t hi=>?_⟩).mono fun e' w' hh=>?_
   ·match i,hi with
    |0,hi=>cases hi;exact Rep.un gm adG
    |1,hi=>cases hi;exact Rep.un g0 aqd
   ·obtain⟨v',σ',rfl,_,iI,hB,_,ei,du⟩:=hh;have du:Rep ctx.cap σ' (.tup [.agg [.bool,.int .i64],.slice (.int .i64)]) v' (.tup [cv,ints l]):=du;cases du with
    |tup _ qG ds' q1 q2 q3=>
     match qG,q1 with
     |[p',q'],_=>
      have r1:=q3 0 _ rfl;have r2:=q3 1 _ rfl;simp only[nN,sF] at r1 r2;obtain⟨vs2,T2,rfl,_,m1,m2,m3,_⟩:=r1.agg_inv
      match vs2,m1 with
      |[b',n'],_=>
       obtain⟨b,eb,_⟩:=Rep.bool_inv (m3 0 _ rfl);obtain⟨n,en,_⟩:=Rep.int_inv (m3 1 _ rfl);simp only[nN,sF] at eb en;subst eb en;exact⟨b,n,q',rfl,hB,alr iI (fun k=>Im.un_row) (qO MF hb.size) ei r2⟩
  refine(ang x y z p vn vc w k l o1 o2 o3 hl.1 yR ah).mono fun e' w' hh=>?_;obtain⟨r,rfl,hB,hr⟩:=hh;have bB:∀y,y∈gy (km l)→-1000000≤y∧y≤1000000:=fun y hy=>hl.2 y ((Hv l).mem_iff.1 (aeh hy));generalize gy (km l)=m at hr bB;rcases hr with⟨rfl,p',rfl⟩|⟨g,o,c',rfl,k1,k2,k3,k4,k5,k6⟩
  ·refine⟨_,σ,rfl,.refl σ,au.below hB,hB,fun _ _ _ h=>.inl h,fun _ _ h=>.inl h,?_⟩;cases p' with
   |none=>exact .nil _
   |some p'=>exact .emp _ p'
  ·have qe:∀q,σ.c g q=none:=fun q=>by
        cases hc:σ.c g q with
        |none=>rfl
        |some u=>have:=World.block_lt_of_cell? w (a:=⟨g,q,none⟩) (au.c _ _ _ hc);simp at this;omega
   have hmg:σ.m g=none:=by
        cases hc:σ.m g with
        |none=>rfl
        |some u=>have:=(au.m _ _ hc).lt;omega
   have kJ:∀j,j<m.length→w'.cell? ⟨g,o+j,none⟩=some (.int .i64 (m.getD j 0))∧w'.frozen? ⟨g,o+j,none⟩=false:=fun j hj=>by
        have:=k5 j (by simpa using hj);have e:m.toArray[j]! =m.getD j 0:=by simp[getElem!_def,hj]
        rw[e] at this;exact this
   let τ:Im:=⟨fun k q=>if k=g then(if o≤q∧q<o+m.length then some (.int .i64 (m.getD (q-o) 0)) else none) else σ.c k q,fun k=>if k=g then some gE else σ.m k⟩
   have hle:σ.le τ:=⟨fun k q u hu=>by
    have ay:k≠g:=fun e=>by subst e;rw[qe q] at hu;cases hu
    simp[τ,ay,hu],fun k u hu=>by
    have ay:k≠g:=fun e=>by subst e;rw[hmg] at hu;cases hu
    simp[τ,ay,hu]⟩
   have eh:=au.below hB;refine⟨_,τ,rfl,hle,⟨fun k q u hu=>?_,fun k es hu=>?_,fun k q n hu=>?_⟩,hB,fun k q u hu=>?_,fun k u hu=>?_,?_⟩
   ·simp only[τ] at hu;split at hu
    ·rename_i e;subst e;split at hu
     ·rename_i hq;cases hu;have:=(kJ (q-o) (by omega)).1
      rwa [show o+(q-o)=q by omega] at this
     ·cases hu
    ·exact eh.c k q u hu
   ·simp only[τ] at hu;split at hu
    ·rename_i e;subst e;cases hu;exact k6
    ·exact eh.m k es hu
   ·simp only[τ] at hu;split at hu
    ·rename_i e;subst e;split at hu
     ·rename_i hq;have:=(kJ (q-o) (by omega)).2;rw[show o+(q-o)=q by omega] at this;exact .inr this
     ·cases hu
    ·exact eh.f k q n hu
   ·simp only[τ] at hu;split at hu
    ·rename_i e;subst e;exact .inr k3
    ·exact .inl hu
   ·simp only[τ] at hu;split at hu
    ·rename_i e;subst e;exact .inr k3
    ·exact .inl hu
   ·show Rep ctx.cap τ (.slice (.int .i64)) _ (ints m);refine .slice (.int .i64) g o m.length c' (m.map D.int) (fun i=>.int .i64 (m.getD i 0)) (by simp) k1 k2 (fun i x hx=>?_) (fun i j u hi hj=>?_) (fun _=>by simp[τ])
    ·rw[cg,ax] at hx;obtain⟨y,hy,rfl⟩:=hx;have e:m.getD i 0=y:=by rw[aG,hy];rfl
     rw[e];have:=bB y (jn hy);exact .int .i64 y (by show(-9223372036854775808:Int)≤y;omega) (by show y≤(9223372036854775807:Int);omega)
    ·have hj0:j=0:=by
         have:=(fX.1 hj).1;simp[Value.cells] at this;omega
     subst hj0;simp[Value.cells] at hj;subst hj;have:o≤o+i*(Ty.int .i64).size+0∧o+i*(Ty.int .i64).size+0<o+m.length:=by simp[Ty.size];omega
     simp only[τ,if_true,this,and_self];simp[Ty.size,aG]
end Rm
namespace Rm
open Go Cx
abbrev str (b:ByteArray):D:=.v (.string b)
def strs (l:List ByteArray):D:=.list (l.map str)
@[simp] theorem an6 (l:List ByteArray):(strs l).l=l.map str:=_root_.id rfl
theorem str_inv {d:D}(h:DTy .str d):∃b,d=str b:=by
 cases h with
 |str b=>exact⟨b,rfl⟩
 |other t d h=>exact h.elim
theorem an5 {d:D}(h:DTy (.slice .str) d):∃l:List ByteArray,d=strs l∧l.length≤maxLen:=by
 obtain⟨xs,rfl,hm,hx⟩:=h.slice_inv;obtain⟨l,rfl,hl⟩:=jU (enc:=str) (P:=fun _=>True) fun x hh=>(str_inv (hx x hh)).imp fun b hb=>⟨hb,trivial⟩
 exact⟨l,rfl,by simpa using hm⟩
@[simp] theorem asD (t:Tm):(df t).cells=[.int t.op,.int t.n,.list (t.args.map df)]:=by rw[BL];rfl
@[simp] theorem asE (t:Tm):D.agg [.int t.op,.int t.n,.list (t.args.map df)]=df t:=(BL t).symm
@[simp] theorem asA (t:Tm):(df t).c 0=.int t.op:=by rw[BL];rfl
@[simp] theorem asB (t:Tm):(df t).c 1=.int t.n:=by rw[BL];rfl
@[simp] theorem asC (t:Tm):(df t).c 2=.list (t.args.map df):=by rw[BL];rfl
structure City where
 name:ByteArray
 order:Int
 currency:Int
 rest:List Int
 feasts:List Int
 shut:List Int
 deriving Inhabited
def fZ (x:City):D:=.agg [str x.name,.int x.order,.int x.currency,ints x.rest,ints x.feasts,ints x.shut]
@[simp] theorem arB (x:City):(fZ x).cells=[str x.name,.int x.order,.int x.currency,ints x.rest,ints x.feasts,ints x.shut]:=_root_.id rfl
@[simp] theorem avP (x:City):D.agg [str x.name,.int x.order,.int x.currency,ints x.rest,ints x.feasts,ints x.shut]=fZ x:=_root_.id rfl
@[simp] theorem asW (x:City):j9 6 (fZ x)=fZ x:=_root_.id rfl
@[simp] theorem arv (x:City):(fZ x).c 0=str x.name:=_root_.id rfl
@[simp] theorem arw (x:City):(fZ x).c 1=.int x.order:=_root_.id rfl
@[simp] theorem arx (x:City):(fZ x).c 2=.int x.currency:=_root_.id rfl
@[simp] theorem ary (x:City):(fZ x).c 3=ints x.rest:=_root_.id rfl
@[simp] theorem arz (x:City):(fZ x).c 4=ints x.feasts:=_root_.id rfl
@[simp] theorem arA (x:City):(fZ x).c 5=ints x.shut:=_root_.id rfl
def uY (l:List City):D:=.list (l.map fZ)
@[simp] theorem atm (l:List City):(uY l).l=l.map fZ:=_root_.id rfl
abbrev R5:Ty:=.agg [.str,.int .i64,.int .i64,.slice (.int .i64),.slice (.int .i64),.slice (.int .i64)]
def City.OK (x:City):Prop:=aT x.order∧aT x.currency∧(x.rest.length≤maxLen∧∀y,y∈x.rest→aT y)∧(x.feasts.length≤maxLen∧∀y,y∈x.feasts→aT y)∧(x.shut.length≤maxLen∧∀y,y∈x.shut→aT y)
theorem adS {d:D}(h:DTy R5 d):∃x:City,d=fZ x∧x.OK:=by
 obtain⟨ds,rfl,hs⟩:=h.agg_inv;obtain⟨d0,ds,rfl,h0,hs⟩:=hs.cons_inv;obtain⟨d1,ds,rfl,h1,hs⟩:=hs.cons_inv;obtain⟨d2,ds,rfl,h2,hs⟩:=hs.cons_inv;obtain⟨d3,ds,rfl,h3,hs⟩:=hs.cons_inv;obtain⟨d4,ds,rfl,h4,hs⟩:=hs.cons_inv;obtain⟨d5,ds,rfl,h5,hs⟩:=hs.cons_inv;obtain rfl:=hs.nil_inv;obtain⟨n0,rfl⟩:=str_inv h0;obtain⟨n1,rfl,b1⟩:=h1.i64_inv;obtain⟨n2,rfl,b2⟩:=h2.i64_inv;obtain⟨n3,rfl,b3,c3⟩:=h3.ints_inv;obtain⟨n4,rfl,b4,c4⟩:=h4.ints_inv;obtain⟨n5,rfl,b5,c5⟩:=h5.ints_inv;exact⟨⟨n0,n1,n2,n3,n4,n5⟩,rfl,⟨b1,b2,⟨b3,c3⟩,⟨b4,c4⟩,⟨b5,c5⟩⟩⟩
theorem adT {d:D}(h:DTy (.slice R5) d):∃l:List City,d=uY l∧l.length≤maxLen∧∀y,y∈l→City.OK y:=by
 obtain⟨xs,rfl,hm,hx⟩:=h.slice_inv;obtain⟨l,rfl,hl⟩:=jU (enc:=fZ) (P:=City.OK) fun x hh=>adS (hx x hh);exact⟨l,rfl,by simpa using hm,hl⟩
structure Firm where
 name:ByteArray
 city:Int
 group:Int
 deriving Inhabited
def rf (x:Firm):D:=.agg [str x.name,.int x.city,.int x.group]
@[simp] theorem arQ (x:Firm):(rf x).cells=[str x.name,.int x.city,.int x.group]:=_root_.id rfl
@[simp] theorem avS (x:Firm):D.agg [str x.name,.int x.city,.int x.group]=rf x:=_root_.id rfl
@[simp] theorem arN (x:Firm):(rf x).c 0=str x.name:=_root_.id rfl
@[simp] theorem arO (x:Firm):(rf x).c 1=.int x.city:=_root_.id rfl
@[simp] theorem arP (x:Firm):(rf x).c 2=.int x.group:=_root_.id rfl
def firms (l:List Firm):D:=.list (l.map rf)
@[simp] theorem auH (l:List Firm):(firms l).l=l.map rf:=_root_.id rfl
abbrev R7:Ty:=.agg [.str,.int .i64,.int .i64]
def Firm.OK (x:Firm):Prop:=aT x.city∧aT x.group
theorem afs {d:D}(h:DTy R7 d):∃x:Firm,d=rf x∧x.OK:=by
 obtain⟨ds,rfl,hs⟩:=h.agg_inv;obtain⟨d0,ds,rfl,h0,hs⟩:=hs.cons_inv;obtain⟨d1,ds,rfl,h1,hs⟩:=hs.cons_inv;obtain⟨d2,ds,rfl,h2,hs⟩:=hs.cons_inv;obtain rfl:=hs.nil_inv;obtain⟨n0,rfl⟩:=str_inv h0;obtain⟨n1,rfl,b1⟩:=h1.i64_inv;obtain⟨n2,rfl,b2⟩:=h2.i64_inv;exact⟨⟨n0,n1,n2⟩,rfl,⟨b1,b2⟩⟩
theorem afu {d:D}(h:DTy (.slice R7) d):∃l:List Firm,d=firms l∧l.length≤maxLen∧∀y,y∈l→Firm.OK y:=by
 obtain⟨xs,rfl,hm,hx⟩:=h.slice_inv;obtain⟨l,rfl,hl⟩:=jU (enc:=rf) (P:=Firm.OK) fun x hh=>afs (hx x hh);exact⟨l,rfl,by simpa using hm,hl⟩
structure Group where
 grade:Int
 deriving DecidableEq,Inhabited
def u9 (x:Group):D:=.agg [.int x.grade]
@[simp] theorem arS (x:Group):(u9 x).cells=[.int x.grade]:=_root_.id rfl
@[simp] theorem avT (x:Group):D.agg [.int x.grade]=u9 x:=_root_.id rfl
@[simp] theorem arR (x:Group):(u9 x).c 0=.int x.grade:=_root_.id rfl
def groups (l:List Group):D:=.list (l.map u9)
@[simp] theorem auQ (l:List Group):(groups l).l=l.map u9:=_root_.id rfl
abbrev R8:Ty:=.agg [.int .i64]
def Group.OK (x:Group):Prop:=aT x.grade
theorem agA {d:D}(h:DTy R8 d):∃x:Group,d=u9 x∧x.OK:=by
 obtain⟨ds,rfl,hs⟩:=h.agg_inv;obtain⟨d0,ds,rfl,h0,hs⟩:=hs.cons_inv;obtain rfl:=hs.nil_inv;obtain⟨n0,rfl,b0⟩:=h0.i64_inv;exact⟨⟨n0⟩,rfl,b0⟩
theorem agC {d:D}(h:DTy (.slice R8) d):∃l:List Group,d=groups l∧l.length≤maxLen∧∀y,y∈l→Group.OK y:=by
 obtain⟨xs,rfl,hm,hx⟩:=h.slice_inv;obtain⟨l,rfl,hl⟩:=jU (enc:=u9) (P:=Group.OK) fun x hh=>agA (hx x hh);exact⟨l,rfl,by simpa using hm,hl⟩
structure Usance where
 fr:Int
 to:Int
 days:Int
 deriving DecidableEq,Inhabited
def rk (x:Usance):D:=.agg [.int x.fr,.int x.to,.int x.days]
@[simp] theorem asN (x:Usance):(rk x).cells=[.int x.fr,.int x.to,.int x.days]:=_root_.id rfl
@[simp] theorem av3 (x:Usance):D.agg [.int x.fr,.int x.to,.int x.days]=rk x:=_root_.id rfl
@[simp] theorem asK (x:Usance):(rk x).c 0=.int x.fr:=_root_.id rfl
@[simp] theorem asL (x:Usance):(rk x).c 1=.int x.to:=_root_.id rfl
@[simp] theorem asM (x:Usance):(rk x).c 2=.int x.days:=_root_.id rfl
def usances (l:List Usance):D:=.list (l.map rk)
@[simp] theorem aw8 (l:List Usance):(usances l).l=l.map rk:=_root_.id rfl
abbrev Se:Ty:=.agg [.int .i64,.int .i64,.int .i64]
def Usance.OK (x:Usance):Prop:=aT x.fr∧aT x.to∧aT x.days
theorem aqo {d:D}(h:DTy Se d):∃x:Usance,d=rk x∧x.OK:=by
 obtain⟨ds,rfl,hs⟩:=h.agg_inv;obtain⟨d0,ds,rfl,h0,hs⟩:=hs.cons_inv;obtain⟨d1,ds,rfl,h1,hs⟩:=hs.cons_inv;obtain⟨d2,ds,rfl,h2,hs⟩:=hs.cons_inv;obtain rfl:=hs.nil_inv;obtain⟨n0,rfl,b0⟩:=h0.i64_inv;obtain⟨n1,rfl,b1⟩:=h1.i64_inv;obtain⟨n2,rfl,b2⟩:=h2.i64_inv;exact⟨⟨n0,n1,n2⟩,rfl,⟨b0,b1,b2⟩⟩
theorem aqp {d:D}(h:DTy (.slice Se) d):∃l:List Usance,d=usances l∧l.length≤maxLen∧∀y,y∈l→Usance.OK y:=by
 obtain⟨xs,rfl,hm,hx⟩:=h.slice_inv;obtain⟨l,rfl,hl⟩:=jU (enc:=rk) (P:=Usance.OK) fun x hh=>aqo (hx x hh);exact⟨l,rfl,by simpa using hm,hl⟩
structure Rate where
 fr:Int
 to:Int
 num:Int
 den:Int
 since:Int
 deriving DecidableEq,Inhabited
def oh (x:Rate):D:=.agg [.int x.fr,.int x.to,.int x.num,.int x.den,.int x.since]
@[simp] theorem ar7 (x:Rate):(oh x).cells=[.int x.fr,.int x.to,.int x.num,.int x.den,.int x.since]:=_root_.id rfl
@[simp] theorem avW (x:Rate):D.agg [.int x.fr,.int x.to,.int x.num,.int x.den,.int x.since]=oh x:=_root_.id rfl
@[simp] theorem ar2 (x:Rate):(oh x).c 0=.int x.fr:=_root_.id rfl
@[simp] theorem ar3 (x:Rate):(oh x).c 1=.int x.to:=_root_.id rfl
@[simp] theorem ar4 (x:Rate):(oh x).c 2=.int x.num:=_root_.id rfl
@[simp] theorem ar5 (x:Rate):(oh x).c 3=.int x.den:=_root_.id rfl
@[simp] theorem ar6 (x:Rate):(oh x).c 4=.int x.since:=_root_.id rfl
def rates (l:List Rate):D:=.list (l.map oh)
@[simp] theorem awB (l:List Rate):(rates l).l=l.map oh:=_root_.id rfl
abbrev Sb:Ty:=.agg [.int .i64,.int .i64,.int .i64,.int .i64,.int .i64]
def Rate.OK (x:Rate):Prop:=aT x.fr∧aT x.to∧aT x.num∧aT x.den∧aT x.since
theorem am1 {d:D}(h:DTy Sb d):∃x:Rate,d=oh x∧x.OK:=by
 obtain⟨ds,rfl,hs⟩:=h.agg_inv;obtain⟨d0,ds,rfl,h0,hs⟩:=hs.cons_inv;obtain⟨d1,ds,rfl,h1,hs⟩:=hs.cons_inv;obtain⟨d2,ds,rfl,h2,hs⟩:=hs.cons_inv;obtain⟨d3,ds,rfl,h3,hs⟩:=hs.cons_inv;obtain⟨d4,ds,rfl,h4,hs⟩:=hs.cons_inv;obtain rfl:=hs.nil_inv;obtain⟨n0,rfl,b0⟩:=h0.i64_inv;obtain⟨n1,rfl,b1⟩:=h1.i64_inv;obtain⟨n2,rfl,b2⟩:=h2.i64_inv;obtain⟨n3,rfl,b3⟩:=h3.i64_inv;obtain⟨n4,rfl,b4⟩:=h4.i64_inv;exact⟨⟨n0,n1,n2,n3,n4⟩,rfl,⟨b0,b1,b2,b3,b4⟩⟩
theorem am2 {d:D}(h:DTy (.slice Sb) d):∃l:List Rate,d=rates l∧l.length≤maxLen∧∀y,y∈l→Rate.OK y:=by
 obtain⟨xs,rfl,hm,hx⟩:=h.slice_inv;obtain⟨l,rfl,hl⟩:=jU (enc:=oh) (P:=Rate.OK) fun x hh=>am1 (hx x hh);exact⟨l,rfl,by simpa using hm,hl⟩
structure Halt where
 order:Int
 fr:Int
 to:Int
 deriving DecidableEq,Inhabited
def rh (x:Halt):D:=.agg [.int x.order,.int x.fr,.int x.to]
@[simp] theorem arW (x:Halt):(rh x).cells=[.int x.order,.int x.fr,.int x.to]:=_root_.id rfl
@[simp] theorem avU (x:Halt):D.agg [.int x.order,.int x.fr,.int x.to]=rh x:=_root_.id rfl
@[simp] theorem arT (x:Halt):(rh x).c 0=.int x.order:=_root_.id rfl
@[simp] theorem arU (x:Halt):(rh x).c 1=.int x.fr:=_root_.id rfl
@[simp] theorem arV (x:Halt):(rh x).c 2=.int x.to:=_root_.id rfl
def halts (l:List Halt):D:=.list (l.map rh)
@[simp] theorem auY (l:List Halt):(halts l).l=l.map rh:=_root_.id rfl
abbrev R9:Ty:=.agg [.int .i64,.int .i64,.int .i64]
def Halt.OK (x:Halt):Prop:=aT x.order∧aT x.fr∧aT x.to
theorem ag7 {d:D}(h:DTy R9 d):∃x:Halt,d=rh x∧x.OK:=by
 obtain⟨ds,rfl,hs⟩:=h.agg_inv;obtain⟨d0,ds,rfl,h0,hs⟩:=hs.cons_inv;obtain⟨d1,ds,rfl,h1,hs⟩:=hs.cons_inv;obtain⟨d2,ds,rfl,h2,hs⟩:=hs.cons_inv;obtain rfl:=hs.nil_inv;obtain⟨n0,rfl,b0⟩:=h0.i64_inv;obtain⟨n1,rfl,b1⟩:=h1.i64_inv;obtain⟨n2,rfl,b2⟩:=h2.i64_inv;exact⟨⟨n0,n1,n2⟩,rfl,⟨b0,b1,b2⟩⟩
theorem ag8 {d:D}(h:DTy (.slice R9) d):∃l:List Halt,d=halts l∧l.length≤maxLen∧∀y,y∈l→Halt.OK y:=by
 obtain⟨xs,rfl,hm,hx⟩:=h.slice_inv;obtain⟨l,rfl,hl⟩:=jU (enc:=rh) (P:=Halt.OK) fun x hh=>ag7 (hx x hh);exact⟨l,rfl,by simpa using hm,hl⟩
structure Choice where
 ask:Int
 by_:Int
 whole:Bool
 deriving DecidableEq,Inhabited
def sW (x:Choice):D:=.agg [.int x.ask,.int x.by_,.bool x.whole]
@[simp] theorem aru (x:Choice):(sW x).cells=[.int x.ask,.int x.by_,.bool x.whole]:=_root_.id rfl
@[simp] theorem avO (x:Choice):D.agg [.int x.ask,.int x.by_,.bool x.whole]=sW x:=_root_.id rfl
@[simp] theorem ars (x:Choice):(sW x).c 0=.int x.ask:=_root_.id rfl
@[simp] theorem art (x:Choice):(sW x).c 1=.int x.by_:=_root_.id rfl
def choices (l:List Choice):D:=.list (l.map sW)
@[simp] theorem atl (l:List Choice):(choices l).l=l.map sW:=_root_.id rfl
abbrev R4:Ty:=.agg [.int .i64,.int .i64,.bool]
def Choice.OK (x:Choice):Prop:=aT x.ask∧aT x.by_
theorem adP {d:D}(h:DTy R4 d):∃x:Choice,d=sW x∧x.OK:=by
 obtain⟨ds,rfl,hs⟩:=h.agg_inv;obtain⟨d0,ds,rfl,h0,hs⟩:=hs.cons_inv;obtain⟨d1,ds,rfl,h1,hs⟩:=hs.cons_inv;obtain⟨d2,ds,rfl,h2,hs⟩:=hs.cons_inv;obtain rfl:=hs.nil_inv;obtain⟨n0,rfl,b0⟩:=h0.i64_inv;obtain⟨n1,rfl,b1⟩:=h1.i64_inv;obtain⟨n2,rfl⟩:=h2.bool_inv;exact⟨⟨n0,n1,n2⟩,rfl,⟨b0,b1⟩⟩
theorem adQ {d:D}(h:DTy (.slice R4) d):∃l:List Choice,d=choices l∧l.length≤maxLen∧∀y,y∈l→Choice.OK y:=by
 obtain⟨xs,rfl,hm,hx⟩:=h.slice_inv;obtain⟨l,rfl,hl⟩:=jU (enc:=sW) (P:=Choice.OK) fun x hh=>adP (hx x hh);exact⟨l,rfl,by simpa using hm,hl⟩
structure Rule where
 ask:Int
 term:Tm
 deriving Inhabited
def ri (x:Rule):D:=.agg [.int x.ask,.int x.term.op,.int x.term.n,.list (x.term.args.map df)]
@[simp] theorem asi (x:Rule):(ri x).cells=[.int x.ask,.int x.term.op,.int x.term.n,.list (x.term.args.map df)]:=_root_.id rfl
@[simp] theorem avY (x:Rule):D.agg [.int x.ask,.int x.term.op,.int x.term.n,.list (x.term.args.map df)]=ri x:=_root_.id rfl
@[simp] theorem ash (x:Rule):(ri x).c 0=.int x.ask:=_root_.id rfl
def rules (l:List Rule):D:=.list (l.map ri)
@[simp] theorem awF (l:List Rule):(rules l).l=l.map ri:=_root_.id rfl
abbrev Sc:Ty:=.agg [.int .i64,.int .i64,.int .i64,.slice .trm]
def Rule.OK (x:Rule):Prop:=aT x.ask∧Tm.OK x.term
theorem anG {d:D}(h:DTy Sc d):∃x:Rule,d=ri x∧x.OK:=by
 obtain⟨ds,rfl,hs⟩:=h.agg_inv;obtain⟨d0,ds,rfl,h0,hs⟩:=hs.cons_inv;obtain⟨d1,ds,rfl,h1,hs⟩:=hs.cons_inv;obtain⟨d2,ds,rfl,h2,hs⟩:=hs.cons_inv;obtain⟨d3,ds,rfl,h3,hs⟩:=hs.cons_inv;obtain rfl:=hs.nil_inv;obtain⟨n0,rfl,b0⟩:=h0.i64_inv;obtain⟨n1,rfl,b1⟩:=h1.i64_inv;obtain⟨n2,rfl,b2⟩:=h2.i64_inv;obtain⟨n3,rfl,b3,c3⟩:=h3.trms_inv;exact⟨⟨n0,.mk n1 n2 n3⟩,rfl,⟨b0,.mk _ _ _ b1 b2 b3 c3⟩⟩
theorem anH {d:D}(h:DTy (.slice Sc) d):∃l:List Rule,d=rules l∧l.length≤maxLen∧∀y,y∈l→Rule.OK y:=by
 obtain⟨xs,rfl,hm,hx⟩:=h.slice_inv;obtain⟨l,rfl,hl⟩:=jU (enc:=ri) (P:=Rule.OK) fun x hh=>anG (hx x hh);exact⟨l,rfl,by simpa using hm,hl⟩
structure Order where
 name:ByteArray
 accepts:Bool
 choices:List Choice
 rules:List Rule
 deriving Inhabited
def ir (x:Order):D:=.agg [str x.name,.bool x.accepts,choices x.choices,rules x.rules]
@[simp] theorem ar1 (x:Order):(ir x).cells=[str x.name,.bool x.accepts,choices x.choices,rules x.rules]:=_root_.id rfl
@[simp] theorem avV (x:Order):D.agg [str x.name,.bool x.accepts,choices x.choices,rules x.rules]=ir x:=_root_.id rfl
@[simp] theorem asY (x:Order):j9 4 (ir x)=ir x:=_root_.id rfl
@[simp] theorem arX (x:Order):(ir x).c 0=str x.name:=_root_.id rfl
@[simp] theorem arY (x:Order):(ir x).c 1=.bool x.accepts:=_root_.id rfl
@[simp] theorem arZ (x:Order):(ir x).c 2=choices x.choices:=_root_.id rfl
@[simp] theorem ar0 (x:Order):(ir x).c 3=rules x.rules:=_root_.id rfl
def orders (l:List Order):D:=.list (l.map ir)
@[simp] theorem awd (l:List Order):(orders l).l=l.map ir:=_root_.id rfl
abbrev Sa:Ty:=.agg [.str,.bool,.slice R4,.slice Sc]
def Order.OK (x:Order):Prop:=(x.choices.length≤maxLen∧∀y,y∈x.choices→Choice.OK y)∧(x.rules.length≤maxLen∧∀y,y∈x.rules→Rule.OK y)
theorem amg {d:D}(h:DTy Sa d):∃x:Order,d=ir x∧x.OK:=by
 obtain⟨ds,rfl,hs⟩:=h.agg_inv;obtain⟨d0,ds,rfl,h0,hs⟩:=hs.cons_inv;obtain⟨d1,ds,rfl,h1,hs⟩:=hs.cons_inv;obtain⟨d2,ds,rfl,h2,hs⟩:=hs.cons_inv;obtain⟨d3,ds,rfl,h3,hs⟩:=hs.cons_inv;obtain rfl:=hs.nil_inv;obtain⟨n0,rfl⟩:=str_inv h0;obtain⟨n1,rfl⟩:=h1.bool_inv;obtain⟨n2,rfl,b2,c2⟩:=adQ h2;obtain⟨n3,rfl,b3,c3⟩:=anH h3;exact⟨⟨n0,n1,n2,n3⟩,rfl,⟨⟨b2,c2⟩,⟨b3,c3⟩⟩⟩
theorem amh {d:D}(h:DTy (.slice Sa) d):∃l:List Order,d=orders l∧l.length≤maxLen∧∀y,y∈l→Order.OK y:=by
 obtain⟨xs,rfl,hm,hx⟩:=h.slice_inv;obtain⟨l,rfl,hl⟩:=jU (enc:=ir) (P:=Order.OK) fun x hh=>amg (hx x hh);exact⟨l,rfl,by simpa using hm,hl⟩
structure Realm where
 currencies:List ByteArray
 cities:List City
 groups:List Group
 firms:List Firm
 orders:List Order
 usances:List Usance
 rates:List Rate
 halts:List Halt
 deriving Inhabited
def bl (x:Realm):D:=.agg [strs x.currencies,uY x.cities,groups x.groups,firms x.firms,orders x.orders,usances x.usances,rates x.rates,halts x.halts]
@[simp] theorem asg (x:Realm):(bl x).cells=[strs x.currencies,uY x.cities,groups x.groups,firms x.firms,orders x.orders,usances x.usances,rates x.rates,halts x.halts]:=_root_.id rfl
@[simp] theorem avX (x:Realm):D.agg [strs x.currencies,uY x.cities,groups x.groups,firms x.firms,orders x.orders,usances x.usances,rates x.rates,halts x.halts]=bl x:=_root_.id rfl
@[simp] theorem asZ (x:Realm):j9 8 (bl x)=bl x:=_root_.id rfl
@[simp] theorem awh (x:Realm)(a0 a1 a2 a3 a4 a5 a6 a7:D):D.agg (eF [a0,a1,a2,a3,a4,a5,a6,a7] 0 [strs x.currencies,uY x.cities,groups x.groups,firms x.firms,orders x.orders,usances x.usances,rates x.rates,halts x.halts])=bl x:=_root_.id rfl
@[simp] theorem ar8 (x:Realm):(bl x).c 0=strs x.currencies:=_root_.id rfl
@[simp] theorem ar9 (x:Realm):(bl x).c 1=uY x.cities:=_root_.id rfl
@[simp] theorem asa (x:Realm):(bl x).c 2=groups x.groups:=_root_.id rfl
@[simp] theorem asb (x:Realm):(bl x).c 3=firms x.firms:=_root_.id rfl
@[simp] theorem asc (x:Realm):(bl x).c 4=orders x.orders:=_root_.id rfl
@[simp] theorem asd (x:Realm):(bl x).c 5=usances x.usances:=_root_.id rfl
@[simp] theorem ase (x:Realm):(bl x).c 6=rates x.rates:=_root_.id rfl
@[simp] theorem asf (x:Realm):(bl x).c 7=halts x.halts:=_root_.id rfl
abbrev aqg:Ty:=.agg [.slice .str,.slice R5,.slice R8,.slice R7,.slice Sa,.slice Se,.slice Sb,.slice R9]
def Realm.OK (x:Realm):Prop:=x.currencies.length≤maxLen∧(x.cities.length≤maxLen∧∀y,y∈x.cities→City.OK y)∧(x.groups.length≤maxLen∧∀y,y∈x.groups→Group.OK y)∧(x.firms.length≤maxLen∧∀y,y∈x.firms→Firm.OK y)∧(x.orders.length≤maxLen∧∀y,y∈x.orders→Order.OK y)∧(x.usances.length≤maxLen∧∀y,y∈x.usances→Usance.OK y)∧(x.rates.length≤maxLen∧∀y,y∈x.rates→Rate.OK y)∧(x.halts.length≤maxLen∧∀y,y∈x.halts→Halt.OK y)
theorem anj {d:D}(h:DTy aqg d):∃x:Realm,d=bl x∧x.OK:=by
 obtain⟨ds,rfl,hs⟩:=h.agg_inv;obtain⟨d0,ds,rfl,h0,hs⟩:=hs.cons_inv;obtain⟨d1,ds,rfl,h1,hs⟩:=hs.cons_inv;obtain⟨d2,ds,rfl,h2,hs⟩:=hs.cons_inv;obtain⟨d3,ds,rfl,h3,hs⟩:=hs.cons_inv;obtain⟨d4,ds,rfl,h4,hs⟩:=hs.cons_inv;obtain⟨d5,ds,rfl,h5,hs⟩:=hs.cons_inv;obtain⟨d6,ds,rfl,h6,hs⟩:=hs.cons_inv;obtain⟨d7,ds,rfl,h7,hs⟩:=hs.cons_inv;obtain rfl:=hs.nil_inv;obtain⟨n0,rfl,b0⟩:=an5 h0;obtain⟨n1,rfl,b1,c1⟩:=adT h1;obtain⟨n2,rfl,b2,c2⟩:=agC h2;obtain⟨n3,rfl,b3,c3⟩:=afu h3;obtain⟨n4,rfl,b4,c4⟩:=amh h4;obtain⟨n5,rfl,b5,c5⟩:=aqp h5;obtain⟨n6,rfl,b6,c6⟩:=am2 h6;obtain⟨n7,rfl,b7,c7⟩:=ag8 h7;exact⟨⟨n0,n1,n2,n3,n4,n5,n6,n7⟩,rfl,⟨b0,⟨b1,c1⟩,⟨b2,c2⟩,⟨b3,c3⟩,⟨b4,c4⟩,⟨b5,c5⟩,⟨b6,c6⟩,⟨b7,c7⟩⟩⟩
structure Tenor where
 kind:Int
 n:Int
 unit:Int
 deriving DecidableEq,Inhabited
def rj (x:Tenor):D:=.agg [.int x.kind,.int x.n,.int x.unit]
@[simp] theorem asI (x:Tenor):(rj x).cells=[.int x.kind,.int x.n,.int x.unit]:=_root_.id rfl
@[simp] theorem av2 (x:Tenor):D.agg [.int x.kind,.int x.n,.int x.unit]=rj x:=_root_.id rfl
@[simp] theorem asF (x:Tenor):(rj x).c 0=.int x.kind:=_root_.id rfl
@[simp] theorem asG (x:Tenor):(rj x).c 1=.int x.n:=_root_.id rfl
@[simp] theorem asH (x:Tenor):(rj x).c 2=.int x.unit:=_root_.id rfl
def Tenor.OK (x:Tenor):Prop:=aT x.kind∧aT x.n∧aT x.unit
structure Bill where
 drawer:Int
 drawee:Int
 payee:Int
 sum:Int
 currency:Int
 tenor:Tenor
 day:Int
 city:Int
 pay:Int
 need:Int
 rate:Int
 flags:Int
 parts:Int
 deriving DecidableEq,Inhabited
def fK (x:Bill):D:=.agg [.int x.drawer,.int x.drawee,.int x.payee,.int x.sum,.int x.currency,.int x.tenor.kind,.int x.tenor.n,.int x.tenor.unit,.int x.day,.int x.city,.int x.pay,.int x.need,.int x.rate,.int x.flags,.int x.parts]
@[simp] theorem arb (x:Bill):(fK x).cells=[.int x.drawer,.int x.drawee,.int x.payee,.int x.sum,.int x.currency,.int x.tenor.kind,.int x.tenor.n,.int x.tenor.unit,.int x.day,.int x.city,.int x.pay,.int x.need,.int x.rate,.int x.flags,.int x.parts]:=_root_.id rfl
@[simp] theorem avL (x:Bill):D.agg [.int x.drawer,.int x.drawee,.int x.payee,.int x.sum,.int x.currency,.int x.tenor.kind,.int x.tenor.n,.int x.tenor.unit,.int x.day,.int x.city,.int x.pay,.int x.need,.int x.rate,.int x.flags,.int x.parts]=fK x:=_root_.id rfl
@[simp] theorem asV (x:Bill):j9 15 (fK x)=fK x:=_root_.id rfl
@[simp] theorem awe (x:Bill)(a0 a1 a2 a3 a4 a5 a6 a7 a8 a9 qQ qT a12 qU qV:D):D.agg (eF [a0,a1,a2,a3,a4,a5,a6,a7,a8,a9,qQ,qT,a12,qU,qV] 0 [.int x.drawer,.int x.drawee,.int x.payee,.int x.sum,.int x.currency,.int x.tenor.kind,.int x.tenor.n,.int x.tenor.unit,.int x.day,.int x.city,.int x.pay,.int x.need,.int x.rate,.int x.flags,.int x.parts])=fK x:=_root_.id rfl
@[simp] theorem aq4 (x:Bill):(fK x).c 2=.int x.payee:=_root_.id rfl
@[simp] theorem aq5 (x:Bill):(fK x).c 3=.int x.sum:=_root_.id rfl
@[simp] theorem aq6 (x:Bill):(fK x).c 5=.int x.tenor.kind:=_root_.id rfl
@[simp] theorem aq7 (x:Bill):(fK x).c 6=.int x.tenor.n:=_root_.id rfl
@[simp] theorem aq8 (x:Bill):(fK x).c 7=.int x.tenor.unit:=_root_.id rfl
@[simp] theorem aq9 (x:Bill):(fK x).c 8=.int x.day:=_root_.id rfl
@[simp] theorem ara (x:Bill):(fK x).c 9=.int x.city:=_root_.id rfl
@[simp] theorem aq0 (x:Bill):(fK x).c 10=.int x.pay:=_root_.id rfl
@[simp] theorem aq1 (x:Bill):(fK x).c 12=.int x.rate:=_root_.id rfl
@[simp] theorem aq2 (x:Bill):(fK x).c 13=.int x.flags:=_root_.id rfl
@[simp] theorem aq3 (x:Bill):(fK x).c 14=.int x.parts:=_root_.id rfl
def Bill.OK (x:Bill):Prop:=aT x.drawer∧aT x.drawee∧aT x.payee∧aT x.sum∧aT x.currency∧Tenor.OK x.tenor∧aT x.day∧aT x.city∧aT x.pay∧aT x.need∧aT x.rate∧aT x.flags∧aT x.parts
structure Sign where
 kind:Int
 part:Int
 who:Int
 for_:Int
 to:Int
 sum:Int
 day:Int
 city:Int
 flags:Int
 deriving DecidableEq,Inhabited
def l7 (x:Sign):D:=.agg [.int x.kind,.int x.part,.int x.who,.int x.for_,.int x.to,.int x.sum,.int x.day,.int x.city,.int x.flags]
@[simp] theorem asz (x:Sign):(l7 x).cells=[.int x.kind,.int x.part,.int x.who,.int x.for_,.int x.to,.int x.sum,.int x.day,.int x.city,.int x.flags]:=_root_.id rfl
@[simp] theorem av1 (x:Sign):D.agg [.int x.kind,.int x.part,.int x.who,.int x.for_,.int x.to,.int x.sum,.int x.day,.int x.city,.int x.flags]=l7 x:=_root_.id rfl
@[simp] theorem as1 (x:Sign):j9 9 (l7 x)=l7 x:=_root_.id rfl
@[simp] theorem asu (x:Sign):(l7 x).c 0=.int x.kind:=_root_.id rfl
@[simp] theorem asv (x:Sign):(l7 x).c 2=.int x.who:=_root_.id rfl
@[simp] theorem asw (x:Sign):(l7 x).c 6=.int x.day:=_root_.id rfl
@[simp] theorem asx (x:Sign):(l7 x).c 7=.int x.city:=_root_.id rfl
@[simp] theorem asy (x:Sign):(l7 x).c 8=.int x.flags:=_root_.id rfl
def signs (l:List Sign):D:=.list (l.map l7)
@[simp] theorem awQ (l:List Sign):(signs l).l=l.map l7:=_root_.id rfl
@[simp] theorem awP (l:List Sign):(signs l).cells=[signs l]:=_root_.id rfl
abbrev Sd:Ty:=.agg [.int .i64,.int .i64,.int .i64,.int .i64,.int .i64,.int .i64,.int .i64,.int .i64,.int .i64]
def Sign.OK (x:Sign):Prop:=aT x.kind∧aT x.part∧aT x.who∧aT x.for_∧aT x.to∧aT x.sum∧aT x.day∧aT x.city∧aT x.flags
theorem anZ {d:D}(h:DTy Sd d):∃x:Sign,d=l7 x∧x.OK:=by
 obtain⟨ds,rfl,hs⟩:=h.agg_inv;obtain⟨d0,ds,rfl,h0,hs⟩:=hs.cons_inv;obtain⟨d1,ds,rfl,h1,hs⟩:=hs.cons_inv;obtain⟨d2,ds,rfl,h2,hs⟩:=hs.cons_inv;obtain⟨d3,ds,rfl,h3,hs⟩:=hs.cons_inv;obtain⟨d4,ds,rfl,h4,hs⟩:=hs.cons_inv;obtain⟨d5,ds,rfl,h5,hs⟩:=hs.cons_inv;obtain⟨d6,ds,rfl,h6,hs⟩:=hs.cons_inv;obtain⟨d7,ds,rfl,h7,hs⟩:=hs.cons_inv;obtain⟨d8,ds,rfl,h8,hs⟩:=hs.cons_inv;obtain rfl:=hs.nil_inv;obtain⟨n0,rfl,b0⟩:=h0.i64_inv;obtain⟨n1,rfl,b1⟩:=h1.i64_inv;obtain⟨n2,rfl,b2⟩:=h2.i64_inv;obtain⟨n3,rfl,b3⟩:=h3.i64_inv;obtain⟨n4,rfl,b4⟩:=h4.i64_inv;obtain⟨n5,rfl,b5⟩:=h5.i64_inv;obtain⟨n6,rfl,b6⟩:=h6.i64_inv;obtain⟨n7,rfl,b7⟩:=h7.i64_inv;obtain⟨n8,rfl,b8⟩:=h8.i64_inv;exact⟨⟨n0,n1,n2,n3,n4,n5,n6,n7,n8⟩,rfl,⟨b0,b1,b2,b3,b4,b5,b6,b7,b8⟩⟩
theorem an0 {d:D}(h:DTy (.slice Sd) d):∃l:List Sign,d=signs l∧l.length≤maxLen∧∀y,y∈l→Sign.OK y:=by
 obtain⟨xs,rfl,hm,hx⟩:=h.slice_inv;obtain⟨l,rfl,hl⟩:=jU (enc:=l7) (P:=Sign.OK) fun x hh=>anZ (hx x hh);exact⟨l,rfl,by simpa using hm,hl⟩
structure Alter where
 at_:Int
 sum:Int
 deriving DecidableEq,Inhabited
def og (x:Alter):D:=.agg [.int x.at_,.int x.sum]
@[simp] theorem aqZ (x:Alter):(og x).cells=[.int x.at_,.int x.sum]:=_root_.id rfl
@[simp] theorem avK (x:Alter):D.agg [.int x.at_,.int x.sum]=og x:=_root_.id rfl
@[simp] theorem aqX (x:Alter):(og x).c 0=.int x.at_:=_root_.id rfl
@[simp] theorem aqY (x:Alter):(og x).c 1=.int x.sum:=_root_.id rfl
def alters (l:List Alter):D:=.list (l.map og)
@[simp] theorem as4 (l:List Alter):(alters l).l=l.map og:=_root_.id rfl
@[simp] theorem as3 (l:List Alter):(alters l).cells=[alters l]:=_root_.id rfl
abbrev R3:Ty:=.agg [.int .i64,.int .i64]
def Alter.OK (x:Alter):Prop:=aT x.at_∧aT x.sum
theorem acF {d:D}(h:DTy R3 d):∃x:Alter,d=og x∧x.OK:=by
 obtain⟨ds,rfl,hs⟩:=h.agg_inv;obtain⟨d0,ds,rfl,h0,hs⟩:=hs.cons_inv;obtain⟨d1,ds,rfl,h1,hs⟩:=hs.cons_inv;obtain rfl:=hs.nil_inv;obtain⟨n0,rfl,b0⟩:=h0.i64_inv;obtain⟨n1,rfl,b1⟩:=h1.i64_inv;exact⟨⟨n0,n1⟩,rfl,⟨b0,b1⟩⟩
theorem acG {d:D}(h:DTy (.slice R3) d):∃l:List Alter,d=alters l∧l.length≤maxLen∧∀y,y∈l→Alter.OK y:=by
 obtain⟨xs,rfl,hm,hx⟩:=h.slice_inv;obtain⟨l,rfl,hl⟩:=jU (enc:=og) (P:=Alter.OK) fun x hh=>acF (hx x hh);exact⟨l,rfl,by simpa using hm,hl⟩
structure Act where
 kind:Int
 who:Int
 to:Int
 part:Int
 at_:Int
 sum:Int
 day:Int
 city:Int
 form:Int
 deriving DecidableEq,Inhabited
def pR (x:Act):D:=.agg [.int x.kind,.int x.who,.int x.to,.int x.part,.int x.at_,.int x.sum,.int x.day,.int x.city,.int x.form]
@[simp] theorem aqW (x:Act):(pR x).cells=[.int x.kind,.int x.who,.int x.to,.int x.part,.int x.at_,.int x.sum,.int x.day,.int x.city,.int x.form]:=_root_.id rfl
@[simp] theorem avJ (x:Act):D.agg [.int x.kind,.int x.who,.int x.to,.int x.part,.int x.at_,.int x.sum,.int x.day,.int x.city,.int x.form]=pR x:=_root_.id rfl
@[simp] theorem asU (x:Act):j9 9 (pR x)=pR x:=_root_.id rfl
@[simp] theorem aqU (x:Act):(pR x).c 0=.int x.kind:=_root_.id rfl
@[simp] theorem aqV (x:Act):(pR x).c 6=.int x.day:=_root_.id rfl
def acts (l:List Act):D:=.list (l.map pR)
@[simp] theorem asP (l:List Act):(acts l).l=l.map pR:=_root_.id rfl
@[simp] theorem asO (l:List Act):(acts l).cells=[acts l]:=_root_.id rfl
abbrev R2:Ty:=.agg [.int .i64,.int .i64,.int .i64,.int .i64,.int .i64,.int .i64,.int .i64,.int .i64,.int .i64]
def Act.OK (x:Act):Prop:=aT x.kind∧aT x.who∧aT x.to∧aT x.part∧aT x.at_∧aT x.sum∧aT x.day∧aT x.city∧aT x.form
theorem acy {d:D}(h:DTy R2 d):∃x:Act,d=pR x∧x.OK:=by
 obtain⟨ds,rfl,hs⟩:=h.agg_inv;obtain⟨d0,ds,rfl,h0,hs⟩:=hs.cons_inv;obtain⟨d1,ds,rfl,h1,hs⟩:=hs.cons_inv;obtain⟨d2,ds,rfl,h2,hs⟩:=hs.cons_inv;obtain⟨d3,ds,rfl,h3,hs⟩:=hs.cons_inv;obtain⟨d4,ds,rfl,h4,hs⟩:=hs.cons_inv;obtain⟨d5,ds,rfl,h5,hs⟩:=hs.cons_inv;obtain⟨d6,ds,rfl,h6,hs⟩:=hs.cons_inv;obtain⟨d7,ds,rfl,h7,hs⟩:=hs.cons_inv;obtain⟨d8,ds,rfl,h8,hs⟩:=hs.cons_inv;obtain rfl:=hs.nil_inv;obtain⟨n0,rfl,b0⟩:=h0.i64_inv;obtain⟨n1,rfl,b1⟩:=h1.i64_inv;obtain⟨n2,rfl,b2⟩:=h2.i64_inv;obtain⟨n3,rfl,b3⟩:=h3.i64_inv;obtain⟨n4,rfl,b4⟩:=h4.i64_inv;obtain⟨n5,rfl,b5⟩:=h5.i64_inv;obtain⟨n6,rfl,b6⟩:=h6.i64_inv;obtain⟨n7,rfl,b7⟩:=h7.i64_inv;obtain⟨n8,rfl,b8⟩:=h8.i64_inv;exact⟨⟨n0,n1,n2,n3,n4,n5,n6,n7,n8⟩,rfl,⟨b0,b1,b2,b3,b4,b5,b6,b7,b8⟩⟩
theorem acz {d:D}(h:DTy (.slice R2) d):∃l:List Act,d=acts l∧l.length≤maxLen∧∀y,y∈l→Act.OK y:=by
 obtain⟨xs,rfl,hm,hx⟩:=h.slice_inv;obtain⟨l,rfl,hl⟩:=jU (enc:=pR) (P:=Act.OK) fun x hh=>acy (hx x hh);exact⟨l,rfl,by simpa using hm,hl⟩
structure Fact where
 kind:Int
 at_:Int
 n:Int
 deriving DecidableEq,Inhabited
def re (x:Fact):D:=.agg [.int x.kind,.int x.at_,.int x.n]
@[simp] theorem arF (x:Fact):(re x).cells=[.int x.kind,.int x.at_,.int x.n]:=_root_.id rfl
@[simp] theorem avQ (x:Fact):D.agg [.int x.kind,.int x.at_,.int x.n]=re x:=_root_.id rfl
@[simp] theorem arC (x:Fact):(re x).c 0=.int x.kind:=_root_.id rfl
@[simp] theorem arD (x:Fact):(re x).c 1=.int x.at_:=_root_.id rfl
@[simp] theorem arE (x:Fact):(re x).c 2=.int x.n:=_root_.id rfl
def facts (l:List Fact):D:=.list (l.map re)
@[simp] theorem auF (l:List Fact):(facts l).l=l.map re:=_root_.id rfl
@[simp] theorem auE (l:List Fact):(facts l).cells=[facts l]:=_root_.id rfl
abbrev R6:Ty:=.agg [.int .i64,.int .i64,.int .i64]
def Fact.OK (x:Fact):Prop:=aT x.kind∧aT x.at_∧aT x.n
theorem afn {d:D}(h:DTy R6 d):∃x:Fact,d=re x∧x.OK:=by
 obtain⟨ds,rfl,hs⟩:=h.agg_inv;obtain⟨d0,ds,rfl,h0,hs⟩:=hs.cons_inv;obtain⟨d1,ds,rfl,h1,hs⟩:=hs.cons_inv;obtain⟨d2,ds,rfl,h2,hs⟩:=hs.cons_inv;obtain rfl:=hs.nil_inv;obtain⟨n0,rfl,b0⟩:=h0.i64_inv;obtain⟨n1,rfl,b1⟩:=h1.i64_inv;obtain⟨n2,rfl,b2⟩:=h2.i64_inv;exact⟨⟨n0,n1,n2⟩,rfl,⟨b0,b1,b2⟩⟩
theorem afo {d:D}(h:DTy (.slice R6) d):∃l:List Fact,d=facts l∧l.length≤maxLen∧∀y,y∈l→Fact.OK y:=by
 obtain⟨xs,rfl,hm,hx⟩:=h.slice_inv;obtain⟨l,rfl,hl⟩:=jU (enc:=re) (P:=Fact.OK) fun x hh=>afn (hx x hh);exact⟨l,rfl,by simpa using hm,hl⟩
structure File where
 bill:Bill
 signs:List Sign
 alters:List Alter
 acts:List Act
 facts:List Fact
 deriving Inhabited
def ga (x:File):D:=.agg [.int x.bill.drawer,.int x.bill.drawee,.int x.bill.payee,.int x.bill.sum,.int x.bill.currency,.int x.bill.tenor.kind,.int x.bill.tenor.n,.int x.bill.tenor.unit,.int x.bill.day,.int x.bill.city,.int x.bill.pay,.int x.bill.need,.int x.bill.rate,.int x.bill.flags,.int x.bill.parts,signs x.signs,alters x.alters,acts x.acts,facts x.facts]
@[simp] theorem arM (x:File):(ga x).cells=[.int x.bill.drawer,.int x.bill.drawee,.int x.bill.payee,.int x.bill.sum,.int x.bill.currency,.int x.bill.tenor.kind,.int x.bill.tenor.n,.int x.bill.tenor.unit,.int x.bill.day,.int x.bill.city,.int x.bill.pay,.int x.bill.need,.int x.bill.rate,.int x.bill.flags,.int x.bill.parts,signs x.signs,alters x.alters,acts x.acts,facts x.facts]:=_root_.id rfl
@[simp] theorem avR (x:File):D.agg [.int x.bill.drawer,.int x.bill.drawee,.int x.bill.payee,.int x.bill.sum,.int x.bill.currency,.int x.bill.tenor.kind,.int x.bill.tenor.n,.int x.bill.tenor.unit,.int x.bill.day,.int x.bill.city,.int x.bill.pay,.int x.bill.need,.int x.bill.rate,.int x.bill.flags,.int x.bill.parts,signs x.signs,alters x.alters,acts x.acts,facts x.facts]=ga x:=_root_.id rfl
@[simp] theorem asX (x:File):j9 19 (ga x)=ga x:=_root_.id rfl
@[simp] theorem awf (x:File)(a0 a1 a2 a3 a4 a5 a6 a7 a8 a9 qQ qT a12 qU qV uM uN uO uP:D):D.agg (eF [a0,a1,a2,a3,a4,a5,a6,a7,a8,a9,qQ,qT,a12,qU,qV,uM,uN,uO,uP] 0 [.int x.bill.drawer,.int x.bill.drawee,.int x.bill.payee,.int x.bill.sum,.int x.bill.currency,.int x.bill.tenor.kind,.int x.bill.tenor.n,.int x.bill.tenor.unit,.int x.bill.day,.int x.bill.city,.int x.bill.pay,.int x.bill.need,.int x.bill.rate,.int x.bill.flags,.int x.bill.parts,signs x.signs,alters x.alters,acts x.acts,facts x.facts])=ga x:=_root_.id rfl
@[simp] theorem arL (x:File):(ga x).c 5=.int x.bill.tenor.kind:=_root_.id rfl
@[simp] theorem arG (x:File):(ga x).c 15=signs x.signs:=_root_.id rfl
@[simp] theorem arH (x:File):(ga x).c 16=alters x.alters:=_root_.id rfl
@[simp] theorem arJ (x:File):(ga x).c 17=acts x.acts:=_root_.id rfl
@[simp] theorem arK (x:File):(ga x).c 18=facts x.facts:=_root_.id rfl
def File.OK (x:File):Prop:=Bill.OK x.bill∧(x.signs.length≤maxLen∧∀y,y∈x.signs→Sign.OK y)∧(x.alters.length≤maxLen∧∀y,y∈x.alters→Alter.OK y)∧(x.acts.length≤maxLen∧∀y,y∈x.acts→Act.OK y)∧(x.facts.length≤maxLen∧∀y,y∈x.facts→Fact.OK y)
structure Case where
 file:File
 sign:Int
 holder:Int
 defence:Int
 due:Int
 day:Int
 deriving Inhabited
def dI (x:Case):D:=.agg [.int x.file.bill.drawer,.int x.file.bill.drawee,.int x.file.bill.payee,.int x.file.bill.sum,.int x.file.bill.currency,.int x.file.bill.tenor.kind,.int x.file.bill.tenor.n,.int x.file.bill.tenor.unit,.int x.file.bill.day,.int x.file.bill.city,.int x.file.bill.pay,.int x.file.bill.need,.int x.file.bill.rate,.int x.file.bill.flags,.int x.file.bill.parts,signs x.file.signs,alters x.file.alters,acts x.file.acts,facts x.file.facts,.int x.sign,.int x.holder,.int x.defence,.int x.due,.int x.day]
@[simp] theorem arn (x:Case):(dI x).cells=[.int x.file.bill.drawer,.int x.file.bill.drawee,.int x.file.bill.payee,.int x.file.bill.sum,.int x.file.bill.currency,.int x.file.bill.tenor.kind,.int x.file.bill.tenor.n,.int x.file.bill.tenor.unit,.int x.file.bill.day,.int x.file.bill.city,.int x.file.bill.pay,.int x.file.bill.need,.int x.file.bill.rate,.int x.file.bill.flags,.int x.file.bill.parts,signs x.file.signs,alters x.file.alters,acts x.file.acts,facts x.file.facts,.int x.sign,.int x.holder,.int x.defence,.int x.due,.int x.day]:=_root_.id rfl
@[simp] theorem avM (x:Case):D.agg [.int x.file.bill.drawer,.int x.file.bill.drawee,.int x.file.bill.payee,.int x.file.bill.sum,.int x.file.bill.currency,.int x.file.bill.tenor.kind,.int x.file.bill.tenor.n,.int x.file.bill.tenor.unit,.int x.file.bill.day,.int x.file.bill.city,.int x.file.bill.pay,.int x.file.bill.need,.int x.file.bill.rate,.int x.file.bill.flags,.int x.file.bill.parts,signs x.file.signs,alters x.file.alters,acts x.file.acts,facts x.file.facts,.int x.sign,.int x.holder,.int x.defence,.int x.due,.int x.day]=dI x:=_root_.id rfl
@[simp] theorem acE (x:Case):j9 24 (dI x)=dI x:=_root_.id rfl
@[simp] theorem ami (x:Case)(a0 a1 a2 a3 a4 a5 a6 a7 a8 a9 qQ qT a12 qU qV uM uN uO uP a19 a20 a21 a22 a23:D):D.agg (eF [a0,a1,a2,a3,a4,a5,a6,a7,a8,a9,qQ,qT,a12,qU,qV,uM,uN,uO,uP,a19,a20,a21,a22,a23] 0 [.int x.file.bill.drawer,.int x.file.bill.drawee,.int x.file.bill.payee,.int x.file.bill.sum,.int x.file.bill.currency,.int x.file.bill.tenor.kind,.int x.file.bill.tenor.n,.int x.file.bill.tenor.unit,.int x.file.bill.day,.int x.file.bill.city,.int x.file.bill.pay,.int x.file.bill.need,.int x.file.bill.rate,.int x.file.bill.flags,.int x.file.bill.parts,signs x.file.signs,alters x.file.alters,acts x.file.acts,facts x.file.facts,.int x.sign,.int x.holder,.int x.defence,.int x.due,.int x.day])=dI x:=_root_.id rfl
@[simp] theorem arl (x:Case):(dI x).c 9=.int x.file.bill.city:=_root_.id rfl
@[simp] theorem arc (x:Case):(dI x).c 10=.int x.file.bill.pay:=_root_.id rfl
@[simp] theorem ard (x:Case):(dI x).c 15=signs x.file.signs:=_root_.id rfl
@[simp] theorem arf (x:Case):(dI x).c 19=.int x.sign:=_root_.id rfl
@[simp] theorem arh (x:Case):(dI x).c 20=.int x.holder:=_root_.id rfl
@[simp] theorem ari (x:Case):(dI x).c 21=.int x.defence:=_root_.id rfl
@[simp] theorem arj (x:Case):(dI x).c 22=.int x.due:=_root_.id rfl
@[simp] theorem ark (x:Case):(dI x).c 23=.int x.day:=_root_.id rfl
def cases(l:List Case):D:=.list (l.map dI)
abbrev aqf:Ty:=.agg [.int .i64,.int .i64,.int .i64,.int .i64,.int .i64,.int .i64,.int .i64,.int .i64,.int .i64,.int .i64,.int .i64,.int .i64,.int .i64,.int .i64,.int .i64,.slice Sd,.slice R3,.slice R2,.slice R6,.int .i64,.int .i64,.int .i64,.int .i64,.int .i64]
def Case.OK (x:Case):Prop:=File.OK x.file∧aT x.sign∧aT x.holder∧aT x.defence∧aT x.due∧aT x.day
theorem adA {d:D}(h:DTy aqf d):∃x:Case,d=dI x∧x.OK:=by
 obtain⟨ds,rfl,hs⟩:=h.agg_inv;obtain⟨d0,ds,rfl,h0,hs⟩:=hs.cons_inv;obtain⟨d1,ds,rfl,h1,hs⟩:=hs.cons_inv;obtain⟨d2,ds,rfl,h2,hs⟩:=hs.cons_inv;obtain⟨d3,ds,rfl,h3,hs⟩:=hs.cons_inv;obtain⟨d4,ds,rfl,h4,hs⟩:=hs.cons_inv;obtain⟨d5,ds,rfl,h5,hs⟩:=hs.cons_inv;obtain⟨d6,ds,rfl,h6,hs⟩:=hs.cons_inv;obtain⟨d7,ds,rfl,h7,hs⟩:=hs.cons_inv;obtain⟨d8,ds,rfl,h8,hs⟩:=hs.cons_inv;obtain⟨d9,ds,rfl,h9,hs⟩:=hs.cons_inv;obtain⟨d10,ds,rfl,ru,hs⟩:=hs.cons_inv;obtain⟨d11,ds,rfl,rv,hs⟩:=hs.cons_inv;obtain⟨d12,ds,rfl,Lr,hs⟩:=hs.cons_inv;obtain⟨d13,ds,rfl,h13,hs⟩:=hs.cons_inv;obtain⟨d14,ds,rfl,h14,hs⟩:=hs.cons_inv;obtain⟨d15,ds,rfl,GA,hs⟩:=hs.cons_inv;obtain⟨d16,ds,rfl,GB,hs⟩:=hs.cons_inv;obtain⟨d17,ds,rfl,GC,hs⟩:=hs.cons_inv;obtain⟨d18,ds,rfl,GD,hs⟩:=hs.cons_inv;obtain⟨d19,ds,rfl,GF,hs⟩:=hs.cons_inv;obtain⟨d20,ds,rfl,h20,hs⟩:=hs.cons_inv;obtain⟨d21,ds,rfl,h21,hs⟩:=hs.cons_inv;obtain⟨d22,ds,rfl,h22,hs⟩:=hs.cons_inv;obtain⟨d23,ds,rfl,h23,hs⟩:=hs.cons_inv;obtain rfl:=hs.nil_inv;obtain⟨n0,rfl,b0⟩:=h0.i64_inv;obtain⟨n1,rfl,b1⟩:=h1.i64_inv;obtain⟨n2,rfl,b2⟩:=h2.i64_inv;obtain⟨n3,rfl,b3⟩:=h3.i64_inv;obtain⟨n4,rfl,b4⟩:=h4.i64_inv;obtain⟨n5,rfl,b5⟩:=h5.i64_inv;obtain⟨n6,rfl,b6⟩:=h6.i64_inv;obtain⟨n7,rfl,b7⟩:=h7.i64_inv;obtain⟨n8,rfl,b8⟩:=h8.i64_inv;obtain⟨n9,rfl,b9⟩:=h9.i64_inv;obtain⟨n10,rfl,b10⟩:=ru.i64_inv;obtain⟨n11,rfl,b11⟩:=rv.i64_inv;obtain⟨n12,rfl,b12⟩:=Lr.i64_inv;obtain⟨n13,rfl,b13⟩:=h13.i64_inv;obtain⟨n14,rfl,b14⟩:=h14.i64_inv;obtain⟨n15,rfl,b15,c15⟩:=an0 GA;obtain⟨n16,rfl,b16,c16⟩:=acG GB;obtain⟨n17,rfl,b17,c17⟩:=acz GC;obtain⟨n18,rfl,b18,c18⟩:=afo GD;obtain⟨n19,rfl,b19⟩:=GF.i64_inv;obtain⟨n20,rfl,b20⟩:=h20.i64_inv;obtain⟨n21,rfl,b21⟩:=h21.i64_inv;obtain⟨n22,rfl,b22⟩:=h22.i64_inv;obtain⟨n23,rfl,b23⟩:=h23.i64_inv;exact⟨⟨⟨⟨n0,n1,n2,n3,n4,⟨n5,n6,n7⟩,n8,n9,n10,n11,n12,n13,n14⟩,n15,n16,n17,n18⟩,n19,n20,n21,n22,n23⟩,rfl,⟨⟨⟨b0,b1,b2,b3,b4,⟨b5,b6,b7⟩,b8,b9,b10,b11,b12,b13,b14⟩,⟨b15,c15⟩,⟨b16,c16⟩,⟨b17,c17⟩,⟨b18,c18⟩⟩,b19,b20,b21,b22,b23⟩⟩
structure Cell where
 known:Bool
 n:Int
 deriving DecidableEq,Inhabited
def cN (x:Cell):D:=.agg [.bool x.known,.int x.n]
@[simp] theorem arq (x:Cell):(cN x).cells=[.bool x.known,.int x.n]:=_root_.id rfl
@[simp] theorem avN (x:Cell):D.agg [.bool x.known,.int x.n]=cN x:=_root_.id rfl
@[simp] theorem aro (x:Cell):(cN x).c 0=.bool x.known:=_root_.id rfl
@[simp] theorem arp (x:Cell):(cN x).c 1=.int x.n:=_root_.id rfl
def cells (l:List Cell):D:=.list (l.map cN)
@[simp] theorem atk (l:List Cell):(cells l).l=l.map cN:=_root_.id rfl
@[simp] theorem atj (l:List Cell):(cells l).cells=[cells l]:=_root_.id rfl
structure Said where
 cell:Cell
 order:Int
 path:List Int
 err:Int
 deriving Inhabited
def jM (x:Said):D:=.agg [.bool x.cell.known,.int x.cell.n,.int x.order,ints x.path,.int x.err]
@[simp] theorem asq (x:Said):(jM x).cells=[.bool x.cell.known,.int x.cell.n,.int x.order,ints x.path,.int x.err]:=_root_.id rfl
@[simp] theorem avZ (x:Said):D.agg [.bool x.cell.known,.int x.cell.n,.int x.order,ints x.path,.int x.err]=jM x:=_root_.id rfl
@[simp] theorem as0 (x:Said):j9 5 (jM x)=jM x:=_root_.id rfl
@[simp] theorem asj (x:Said):(jM x).c 0=.bool x.cell.known:=_root_.id rfl
@[simp] theorem asl (x:Said):(jM x).c 1=.int x.cell.n:=_root_.id rfl
@[simp] theorem asn (x:Said):(jM x).c 2=.int x.order:=_root_.id rfl
@[simp] theorem aso (x:Said):(jM x).c 3=ints x.path:=_root_.id rfl
@[simp] theorem asp (x:Said):(jM x).c 4=.int x.err:=_root_.id rfl
@[simp] theorem awY (a0 x0:D):eF [a0] 0 [x0]=[x0]:=_root_.id rfl
@[simp] theorem awZ (a0 a1 x0 x1:D):eF [a0,a1] 0 [x0,x1]=[x0,x1]:=_root_.id rfl
@[simp] theorem aw0 (a0 a1 a2 x0 x1 x2:D):eF [a0,a1,a2] 0 [x0,x1,x2]=[x0,x1,x2]:=_root_.id rfl
@[simp] theorem aw1 (a0 a1 a2 a3 x0 x1 x2 x3:D):eF [a0,a1,a2,a3] 0 [x0,x1,x2,x3]=[x0,x1,x2,x3]:=_root_.id rfl
@[simp] theorem aw2 (a0 a1 a2 a3 a4 x0 x1 x2 x3 x4:D):eF [a0,a1,a2,a3,a4] 0 [x0,x1,x2,x3,x4]=[x0,x1,x2,x3,x4]:=_root_.id rfl
@[simp] theorem aw3 (a0 a1 a2 a3 a4 a5 x0 x1 x2 x3 x4 x5:D):eF [a0,a1,a2,a3,a4,a5] 0 [x0,x1,x2,x3,x4,x5]=[x0,x1,x2,x3,x4,x5]:=_root_.id rfl
@[simp] theorem aw4 (a0 a1 a2 a3 a4 a5 a6 a7 a8 x0 x1 x2 x3 x4 x5 x6 x7 x8:D):eF [a0,a1,a2,a3,a4,a5,a6,a7,a8] 0 [x0,x1,x2,x3,x4,x5,x6,x7,x8]=[x0,x1,x2,x3,x4,x5,x6,x7,x8]:=_root_.id rfl
end Rm
namespace Rm
open Go Go.Proofs Cx Go.RowKit Go.Lib
def eV (day:Int):Int×Int×Int:=
 let n:=day+730425
 let e:=n/146097
 let r:=n%146097
 let y:=(r-r/1460+r/36524-r/146096)/365
 let r:=r-(365*y+y/4-y/100)
 let m:=(5*r+2)/153
 let dom:=r-(153*m+2)/5+1
 let month:=if 12<m+3 then m+3-12 else m+3
 (if month<3 then y+400*e+1 else y+400*e,month,dom)
def wq (rest feasts shut:List Int)(day:Int):Bool:=
 !rest.contains ((day+5)%7)&&(!feasts.contains (100*(eV day).2.1+(eV day).2.2)&& !shut.contains day)
def TX (rest feasts shut:List Int)(a b:Int):List Int:=((List.range (b-a+1).toNat).map fun(k:Nat)=>a+k).filter (wq rest feasts shut)
def vS (d:D):List Int:=d.l.map D.i
def TY (ds:List D):List D:=
 let c:=(ds.getD 2 .none).deref
 (TX (vS (c.c 3)) (vS (c.c 4)) (vS (c.c 5)) (ds.getD 0 .none).deref.i (ds.getD 1 .none).deref.i).map fun d=>.tup [.int d]
def xr (r:D)(city:Int):Int:=if 0≤city∧city<(r.c 1).l.length then(((r.c 1).l.getD city.toNat .none).c 1).i else-1
def Oj (ds:List D):D:=
 let r:=ds.getD 0 .none
 let aw:=(ds.getD 1 .none).i
 let c:=ds.getD 2 .none
 let s:=(c.c 15).l.getD (c.c 19).i.toNat .none
 let who:=(s.c 2).i
 if who<0∨(r.c 3).l.length≤who∨aw<0∨(r.c 4).l.length≤aw then .list [] else
 let out:=[aw,xr r (s.c 7).i,xr r (c.c 10).i,xr r (c.c 9).i,xr r (((r.c 3).l.getD who.toNat .none).c 1).i]
 if(-1)∈out then .list [] else ints out
def Ul:List (Nat×(aK→List D→Option D)):=[(180,fun _ ds=>yF ds),(40,zr (ae Fq) (ae Fs) Oj),(204,C0 (ae q7) 1000 1 TY),(82,wO),(116,uv 116),(176,uv 176),(178,uv 178)]
def ext:Nat→Option (aK→List D→Option D):=aY Ul
theorem aoa:TabOK ctx tab ext:=by
 refine⟨clos,its,fun f pc _ h=>aob f pc h,fun f g hg Φ hΦ dB ds d h=>?_⟩
 have:=C8 (R:=fun f (g:aK→List D→Option D)=>∀Φ,cL ctx Φ→fI ctx Φ→∀ds d,g Φ ds=some d→(∀s,ctx.sig f=some s→xg ctx f s ds d)∧
  ∀cs ys,ctx.cap f=some cs→jA cs.args cs.res=some ys→∃xs,d=.list xs∧(∀x,x∈xs→∃ds',x=.tup ds'∧ds'.length=ys.length)∧kD ctx f cs.caps ys ds xs) (l:=Ul)
  ⟨fun Φ hΦ dB ds d h=>⟨fun s hs=>by obtain⟨s',h1,h2⟩:=agD ds d h;rw[hs] at h1;cases h1;exact h2,fun cs ys hc hi=>by cases hc⟩,
   fun Φ hΦ dB ds d h=>⟨fun s hs=>by cases hs;exact⟨fun _=>alx clos hΦ dB Tryz.func40 (aF Fq XN) (aF Fs XO) h,fun shs obs hm=>by cases hm⟩,fun cs ys hc hi=>by cases hc⟩,
   fun Φ hΦ dB ds d h=>⟨fun s hs=>(by cases hs),fun cs ys hc hi=>by
    cases hc;cases hi;exact ajR clos hΦ dB Tryz.func204 adH h rfl⟩,
   fun Φ hΦ dB ds d h=>⟨fun s hs=>by obtain⟨s',h1,h2⟩:=anf hΦ h;rw[hs] at h1;cases h1;exact h2,fun cs ys hc hi=>by cases hc⟩,
   fun Φ hΦ dB ds d h=>⟨fun s hs=>by cases hs;exact⟨fun _=>Sg (Φ:=Φ) rfl rfl h,fun shs obs hm=>by cases hm⟩,fun cs ys hc hi=>by cases hc⟩,
   fun Φ hΦ dB ds d h=>⟨fun s hs=>by cases hs;exact⟨fun _=>Sg (Φ:=Φ) rfl rfl h,fun shs obs hm=>by cases hm⟩,fun cs ys hc hi=>by cases hc⟩,
   fun Φ hΦ dB ds d h=>⟨fun s hs=>by cases hs;exact⟨fun _=>Sg (Φ:=Φ) rfl rfl h,fun shs obs hm=>by cases hm⟩,fun cs ys hc hi=>by cases hc⟩,trivial⟩ f g hg
 exact this Φ hΦ dB ds d h
abbrev T:cq:=eG tab ext
theorem P1 {f:Nat}{ds:List D}{d:D}(hx:ext f=some (uv f))(h:ak T1 f ds d):ak T f ds d:=.of_ext hx ⟨0,fun _ _=>aqn h⟩
theorem ak.of_nsl {tab:Nat→Option PC}{ext:Nat→Option (aK→List D→Option D)}{f:Nat}{pa pb:PC}{spec:List D→D}{ds:List D}{ta tb:PT}(hx:ext f=some (zr pa pb spec))(hta:tree pa=ta)(htb:tree pb=tb)
 (h:(∃xs,xs≠[]∧spec ds=.list xs∧aE (eG tab ext) ta (kG ds) (fun x=>x=.ret (.list xs)))∨(spec ds=.list []∧aE (eG tab ext) tb (kG ds) (fun x=>x=.ret (.list [])))):ak (eG tab ext) f ds (spec ds):=by
 refine ak.of_ext hx ?_;rcases h with⟨xs,h1,h2,h3⟩|⟨h2,h3⟩
 ·obtain⟨x,rfl,n0,hn⟩:=Jx (c:=pa) (hta▸h3);refine⟨n0,fun n hle=>?_⟩;unfold zr;rw[if_pos (.inl ⟨n,xs,hn n hle,h1,h2⟩)]
 ·obtain⟨x,rfl,n0,hn⟩:=Jx (c:=pb) (htb▸h3);refine⟨n0,fun n hle=>?_⟩;unfold zr;rw[if_pos (.inr ⟨n,hn n hle,h2⟩)]
end Rm
