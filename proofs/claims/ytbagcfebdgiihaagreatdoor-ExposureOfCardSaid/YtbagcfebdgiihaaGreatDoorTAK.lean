/-
  The functions of this seat, compiled (1).
-/
import Derived.Test.YtbagcfebdgiihaaGreatDoorTAJ
import Derived.KernelRfl
set_option linter.unusedVariables false
set_option maxRecDepth 100000
noncomputable section
namespace Rm
open Go Go.Proofs Cx
def EK:Option PC:=cF [12,13,15,16,17,18,19,20] [] Tryz.f4 4 [6,8,14,77838,70]
def akD (b:Nat→PC):PC:=.block 0 [15,50,51,52,53,54] [14,77838] (.loop [15] [14,77838] (b 0))
def akE (b:Nat→PC):PC:=.block 4 [19,20,102,103,104,105,106,107,108] [] (.loop [19,20] [] (b 1))
def akF (b:Nat→PC):PC:=.block 2 [12,18,93,94,95,96,97,98,99] [] (.loop [12,18] [] (b 2))
def anZ (b:Nat→PC):PT:=
 (.ite (ah bG (.llen (pc o8 18)))
 (.chk (aO (pi 64) (pi 0))
 (.chk (bZ (.ai .rem .i64 bG (pi 64)) (pi 0))
 (.ite (peq (.ai .and .u64 (.ai .shr .u64 r4 (.ai .rem .i64 bG (pi 64))) (.con (.v (.int .u64 1)))) (.con (.v (.int .u64 0))))
 (.chk (ao (pc o8 18) bG)
 (.chk (bB (.llen (.app (.o 77838) (.lst [(pn (pc o8 18) bG)]))) cl)
 (.next ⟨[(15,(aG bG (pi 1)))],[(14,(.setc gS 18 pN)),(77838,(.app (.o 77838) (.lst [(pn (pc o8 18) bG)])))]⟩)))
 (.next ⟨[(15,(aG bG (pi 1)))],[]⟩))))
 (.exit 0 ⟨[(50,bG),(51,pN),(52,(pc o8 18)),(53,(.llen (pc o8 18))),(54,(ah bG (.llen (pc o8 18))))],[]⟩))
def an0 (b:Nat→PC):PT:=
 (.chk (ao dk (pi 0))
 (.ite (ah bQ (.llen vm))
 (.chk (.nt (.an (.an (.nt dK) pT) (.nt (ao bx (pi 0)))))
 (.chk (.nt (.an (.an (.nt dK) pT) (.nt (ao nC dD))))
 (.chk (.nt (.an (.an (.nt dK) pT) (.nt (ao dk (pi 0)))))
 (.chk (.nt (.an (.an (.nt dK) pT) (.nt (ao vm bQ))))
 (.next ⟨[(19,(.pick dK pT (peq (pn nC dD) (pn vm bQ)))),(20,(aG bQ (pi 1)))],[]⟩)))))
 (.exit 4 ⟨[(102,bQ),(103,dk),(104,(.ref (pn dk (pi 0)))),(105,(.ref vm)),(106,vm),(107,(.llen vm)),(108,(ah bQ (.llen vm)))],[]⟩)))
def an1 (b:Nat→PC):PT:=
 (.chk (ao bx (pi 0))
 (.ite (ah dD (.llen nC))
 (.blockS ⟨[(99,(ah dD (.llen nC))),(98,(.llen nC)),(97,nC),(96,(.ref nC)),(95,(.ref (pn bx (pi 0)))),(94,bx),(93,dD)],[]⟩ 3 [12,19,20,102,103,104,105,106,107,108,129,130] []
 (.brk ⟨[(20,(pi 0)),(19,pF)],[]⟩
(akE b)
 (.ite (.nt dK)
 (.ret pF)
 (.next ⟨[],[]⟩)))
 (.next ⟨[(18,(aG dD (pi 1)))],[]⟩))
 (.exit 2 ⟨[(93,dD),(94,bx),(95,(.ref (pn bx (pi 0)))),(96,(.ref nC)),(97,nC),(98,(.llen nC)),(99,(ah dD (.llen nC)))],[]⟩)))
def ap3 (b:Nat→PC):PT:=
 (.call ⟨[(12,pF)],[(8,(.mk [r2])),(6,(.mk [r0]))]⟩ [] 21 12 []
 (.call ⟨[(13,fi)],[]⟩ [] 24 13 [(aC 8 o6),(aC 19 o8)]
 (.call ⟨[(26,(.nt ja))],[]⟩ [(26,false)] 28 14 [(aC 8 o6)]
 (.call ⟨[(31,(.pick gT pT (aO nH (pi 0))))],[]⟩ [(31,false)] 33 15 [(aC 19 o8)]
 (.call ⟨[(36,(.pick jJ pT (.nt pj)))],[]⟩ [(36,false)] 39 16 [(aC 8 o6),(aC 19 o8)]
 (.ite (.pick (.pick iK pT (aO qX (pi 0))) pT (bj (.llen r5) (pi 25)))
 (.ret cK)
 (.brk ⟨[(15,(pi 0))],[(77838,pL),(14,(.setc (.setc oZ 0 (aC 19 o8)) 18 pL))]⟩
(akD b)
 (.call ⟨[],[]⟩ [] 78 17 [(aC 8 o6),r1,(.lst [(.mk [(pc gS 0),(pc gS 1),(pc gS 2),(pc gS 3),(pc gS 4),(pc gS 5),(pc gS 6),(pc gS 7),(pc gS 8),(pc gS 9),(pc gS 10),(pc gS 11),(pc gS 12),(pc gS 13),(pc gS 14),(pc gS 15),(pc gS 16),(pc gS 17),(.o 77838)])]),r3]
 (.call ⟨[(16,H2)],[]⟩ [] 84 17 [(aC 8 o6),r1,(.lst [(aC 19 o8)]),r3]
 (.ite (.pick (aO (.llen bx) (pi 1)) pT (aO (.llen H3) (pi 1)))
 (.ret pF)
 (.brk ⟨[(18,(pi 0)),(17,H3)],[]⟩
(akF b)
 (.call ⟨[(132,cK)],[]⟩ [(132,true)] 135 18 [dk,r5]
 (.call ⟨[],[]⟩ [(132,true)] 138 18 [bx,r5]
 (.ret (.pick (.r 132) (bB (.r 135) (.r 138)) pF)))))))))))))))
def afI (b:Nat→PC):PT×List (Shp×PT):=(ap3 b,[(.lp 0 [15,50,51,52,53,54] [14,77838] [15] [14,77838],anZ b),(.lp 4 [19,20,102,103,104,105,106,107,108] [] [19,20] [],an0 b),(.lp 2 [12,18,93,94,95,96,97,98,99] [] [12,18] [],an1 b)])
theorem amE:EK.map told=some (afI (bk EK)):=by kernel_rfl
def wL:Option PC:=cF [0,1,2,3,4,5,6,7,8,9,10] [] Tryz.f12 12 []
def ap6:PT:=
 (.call ⟨[],[]⟩ [] 11 45 []
 (.call ⟨[(1,bz)],[]⟩ [] 14 46 [bz,(pi 3),(pi 1)]
 (.call ⟨[(4,(.tget bD 2)),(3,(.tget bD 1)),(2,(.tget bD 0))],[]⟩ [] 20 46 [r1,(pi 3),(pi 2)]
 (.call ⟨[(7,(.tget bQ 2)),(6,(.tget bQ 1)),(5,(.tget bQ 0))],[]⟩ [] 26 46 [r1,(pi 3),(pi 3)]
 (.ite (.pick (.pick (.pick (.pick (.pick (aO r4 (pi 0)) pT (aO r7 (pi 0))) pT (aO (.tget gT 2) (pi 0))) pT (aO r2 (pi 300))) pT (aO r5 (pi 800))) pT (aO (.tget gT 0) (pi 1100)))
 (.ret pF)
 (.call ⟨[(9,(.tget gT 1))],[]⟩ [] 54 47 [r3,(.lst [(pi 1)])]
 (.call ⟨[(56,(.nt pv))],[]⟩ [(56,false)] 59 47 [r6,(.lst [(pi 0),(pi 1)])]
 (.call ⟨[(62,(.pick nJ pT (.nt ZZ)))],[]⟩ [(62,false)] 65 47 [r9,(.lst [(pi 0),(pi 1),(pi 2)])]
 (.call ⟨[(68,(.pick mz pT (.nt vy)))],[]⟩ [(68,false)] 70 20 [r1]
 (.ite (.pick HZ pT (.nt O3))
 (.ret pF)
 (.call ⟨[],[]⟩ [] 75 18 [r1,(.lst [(pi 1)])]
 (.call ⟨[(77,(peq O4 (pi 300)))],[]⟩ [(77,true)] 80 18 [r1,(.lst [(pi 1),(pi 0)])]
 (.call ⟨[(83,(.pick O5 (peq q5 (pi 800)) pF))],[]⟩ [(83,true)] 85 18 [r1,pL]
 (.call ⟨[(88,(.pick r83 (peq y3 (pi 0)) pF))],[]⟩ [(88,true)] 90 48 [r1,(pi 3)]
 (.call ⟨[],[]⟩ [(88,true)] 92 47 [Z1,(.lst [(pi 0),(pi 300),(pi 100)])]
 (.call ⟨[(94,(.pick H4 H5 pF))],[]⟩ [(94,true)] 97 49 [r1,(.lst [(pi 0),(pi 300),(pi 50)])]
 (.call ⟨[],[]⟩ [(94,true)] 99 47 [r97,(.lst [(pi 2)])]
 (.ret (.pick Z2 O7 pF)))))))))))))))))))
theorem X9:wL.map told=some (ap6,[]):=by kernel_rfl
def wK:Option PC:=cF [0] [] Tryz.f45 45 []
def ap5:PT:=
 (.ret (.lst [(.mk [(pi 500),(.lst [(pi 0),(pi 1)])]),(.mk [(pi 300),(.lst [(pi 1)])]),(.mk [(pi 200),(.lst [(pi 0),(pi 2)])]),(.mk [(pi 100),(.lst [(pi 2)])])]))
theorem X8:wK.map told=some (ap5,[]):=by kernel_rfl
def tJ:Option PC:=cF [6,7,8,9,10,12,13,14,15] [] Tryz.f46 46 [11]
def akv (b:Nat→PC):PC:=.block 2 [52,53] [11] (.loop [52] [11] (b 0))
def akw (b:Nat→PC):PC:=.block 6 [14,73,74,75,86] [] (.loop [14] [] (b 1))
def akx (b:Nat→PC):PC:=.block 8 [15,99,100,101] [11] (.loop [15] [11] (b 2))
def aky (b:Nat→PC):PC:=.block 4 [6,7,13,14,60,61,62,63,64,65,66,67,71,72,73,74,75,86,89,90] [11] (.loop [6,7] [11] (b 3))
def akz (b:Nat→PC):PC:=.block 0 [6,7,10,43,44,45] [] (.loop [6,7,10] [] (b 4))
def anU (b:Nat→PC):PT:=
 (.ite (ah nI lL)
 (.chk (ao lK nI)
 (.next ⟨[(52,(aG nI (pi 1)))],[(11,(.setn lK nI 0 nI))]⟩))
 (.exit 2 ⟨[(53,(ah nI lL))],[]⟩))
def anV (b:Nat→PC):PT:=
 (.chk (.nt (.an (.an (bZ bD (pi 0)) pT) (.nt (ao lK bD))))
 (.ite ZK
 (.next ⟨[(14,(bH bD (pi 1)))],[]⟩)
 (.exit 6 ⟨[(73,bD),(74,(bZ bD (pi 0))),(75,(bZ bD (pi 0))),(86,ZK)],[]⟩)))
def anW (b:Nat→PC):PT:=
 (.ite (ah bG bC)
 (.chk (ao lK (bH bG (pi 1)))
 (.chk (ao lK bG)
 (.next ⟨[(15,(aG bG (pi 1)))],[(11,(.setn lK bG 0 (aG (pn lK (bH bG (pi 1))) (pi 1))))]⟩)))
 (.exit 8 ⟨[(99,bG),(100,bC),(101,(ah bG bC))],[]⟩))
def anX (b:Nat→PC):PT:=
 (.blockS ⟨[],[]⟩ 5 [6,7,13,14,15,60,61,62,63,64,65,66,67,71,72,73,74,75,86,89,90,91,92,93,94,95,96,97,98,99,100,101] [11]
 (.call ⟨[(62,bz),(61,r9),(60,r0)],[]⟩ [] 63 72 [lK]
 (.call ⟨[],[]⟩ [] 64 70 [vx,HX,HY]
 (.iteS ⟨[(67,(bj jK r6)),(66,r6),(65,jK),(13,jK)],[]⟩ (bj jK r6) [6,7] []
 (.call ⟨[(68,cK)],[]⟩ [] 70 100 [lK]
 (.next ⟨[(7,O3),(6,HZ)],[]⟩))
 (.next ⟨[],[]⟩)
 (.brk ⟨[(14,(bH bC (pi 1))),(72,(bH bC (pi 1))),(71,bC)],[]⟩
(akw b)
 (.ite (ah bD (pi 0))
 (.exit 4 ⟨[(90,(ah bD (pi 0))),(89,bD)],[]⟩)
 (.chk (ao lK bD)
 (.brk ⟨[(15,vq),(90,(ah bD (pi 0))),(89,bD)],[(11,(.setn lK bD 0 (aG (pn lK bD) (pi 1))))]⟩
(akx b)
 (.next ⟨[],[]⟩))))))))
 (.next ⟨[],[]⟩))
def anY (b:Nat→PC):PT:=
 (.ite (bB bC r2)
 (.blockS ⟨[(45,(bB bC r2)),(44,r2),(43,bC)],[]⟩ 1 [6,7,11,13,14,48,50,51,52,53,60,61,62,63,64,65,66,67,71,72,73,74,75,86,89,90] [11]
 (.chk (.an (bZ bC (pi 0)) (bB bC cl))
 (.chk (peq bC bC)
 (.brk ⟨[(52,(pi 0)),(51,(.llen (.rep bC (pi 0)))),(11,pN)],[(11,(.rep bC (pi 0)))]⟩
(akv b)
 (.brk ⟨[],[]⟩
(aky b)
 (.next ⟨[],[]⟩)))))
 (.next ⟨[(10,(aG bC (pi 1)))],[]⟩))
 (.exit 0 ⟨[(43,bC),(44,r2),(45,(bB bC r2))],[]⟩))
def apZ (b:Nat→PC):PT:=
 (.call ⟨[(7,pL),(6,(pi 0))],[]⟩ [] 17 20 [r0]
 (.ite (.pick (.pick (.pick (.pick (.nt dk) pT (ah r1 (pi 0))) pT (bj r1 (pi 20))) pT (ah r2 (pi 0))) pT (bj r2 r1))
 (.ret (.tup [(pi 0),pL,(pi 1)]))
 (.ite (bj r2 (pi 6))
 (.ret (.tup [(pi 0),pL,(pi 6)]))
 (.call ⟨[],[]⟩ [] 39 71 [r0]
 (.call ⟨[(9,qX)],[]⟩ [] 42 70 [r0,qX,(.con (.v (.int .u32 0)))]
 (.brk ⟨[(10,(pi 1)),(6,O0)],[]⟩
(akz b)
 (.ret (.tup [r6,r7,(pi 0)]))))))))
def afE (b:Nat→PC):PT×List (Shp×PT):=(apZ b,[(.lp 2 [52,53] [11] [52] [11],anU b),(.lp 6 [14,73,74,75,86] [] [14] [],anV b),(.lp 8 [15,99,100,101] [11] [15] [11],anW b),(.lp 4 [6,7,13,14,60,61,62,63,64,65,66,67,71,72,73,74,75,86,89,90] [11] [6,7] [11],anX b),(.lp 0 [6,7,10,43,44,45] [] [6,7,10] [],anY b)])
theorem X7:tJ.map told=some (afE (bk tJ)):=by kernel_rfl
def p5:Option PC:=cF [2,5,6] [] Tryz.f20 20 [4,8196]
def tA:Nat→PC:=br p5
def W4 (b:Nat→PC):PC:=.block 2 [2,27,28] [] (.loop [2,27] [] (b 0))
def W5 (b:Nat→PC):PC:=.block 0 [2,12,13] [] (.loop [2,12] [] (b 1))
def vB (b:Nat→PC):PT:=
 (.ite (ah da gT)
 (.chk (ao jI da)
 (.chk (.nt (.an (.an (bj da (pi 0)) (.an (.nt (.pick (ah qT (pi 0)) pT (bZ qT (pi 20)))) pT)) (.nt (ao (pc o4 1) (bH da (pi 1))))))
 (.ite (.pick (.pick (ah qT (pi 0)) pT (bZ qT (pi 20))) pT (.pick (bj da (pi 0)) (bB qT (pn (pc o4 1) (bH da (pi 1)))) pF))
 (.ret pF)
 (.next ⟨[(27,(aG da (pi 1)))],[]⟩))))
 (.exit 2 ⟨[(28,(ah da gT))],[]⟩))
def CN (b:Nat→PC):PT:=
 (.ite nG
 (.blockS ⟨[(13,nG)],[]⟩ 1 [2,4,14,15,16,17,18,19,23,24,25,26,27,28] [4,8196]
 (.chk (ao bC bS)
 (.ite (.pick (ah (pc yS 0) (pi 0)) pT (bj (pc yS 0) vp))
 (.ret pF)
 (.brk ⟨[(27,(pi 0)),(26,(.llen (pc yS 1))),(25,(pc yS 1))],[(4,yS)]⟩
(W4 b)
 (.next ⟨[],[]⟩))))
 (.next ⟨[(12,yX)],[]⟩))
 (.exit 0 ⟨[(13,nG)],[]⟩))
def QM (b:Nat→PC):PT:=
 (.ite (bj (.llen r0) (pi 100))
 (.ret pF)
 (.brk ⟨[(12,(pi 0)),(11,(.llen r0)),(10,r0),(2,pF)],[]⟩
(W5 b)
 (.ret pT)))
def afD (b:Nat→PC):PT×List (Shp×PT):=(QM b,[(.lp 2 [2,27,28] [] [2,27] [],vB b),(.lp 0 [2,12,13] [] [2,12] [],CN b)])
theorem Cn:p5.map told=some (afD (bk p5)):=by kernel_rfl
theorem apY:tree (ae p5)=QM tA:=bN Cn
theorem CM:round 2 [2,27,28] [] [2,27] [] (tA 0)=vB tA:=be Cn 0 fun _=>rfl
theorem Pe:round 0 [2,12,13] [] [2,12] [] (tA 1)=CN tA:=be Cn 1 fun _=>rfl
def p8:Option PC:=cF [2] [] Tryz.f71 71 [3,5,8197,16]
def JW:Nat→PC:=br p8
def akC (b:Nat→PC):PC:=.block 0 [3,8,9] [3] (.loop [3,8] [3] (b 0))
def Ic (b:Nat→PC):PT:=
 (.ite (ah r8 r7)
 (.blockS ⟨[],[]⟩ 1 [3,5,10,11,13,14,15,16,17] [5,8197,3,16]
 (.chk (ao r6 r8)
 (.call ⟨[],[]⟩ [] 15 72 [(pc (.setc (.con (.agg [(.int 0),(.list [])])) 0 (pn r6 r8)) 1)]
 (.chk (bB (.llen (.app o3 (.lst [bG]))) cl)
 (.next ⟨[(3,pN)],[(3,(.app o3 (.lst [bG])))]⟩))))
 (.next ⟨[(8,nD)],[]⟩))
 (.exit 0 ⟨[(9,(ah r8 r7))],[]⟩))
def QP (b:Nat→PC):PT:=
 (.brk ⟨[(8,(pi 0)),(7,(.llen r0)),(6,r0),(3,pN)],[(3,pL)]⟩
(akC b)
 (.ret o3))
def afH (b:Nat→PC):PT×List (Shp×PT):=(QP b,[(.lp 0 [3,8,9] [3] [3,8] [3],Ic b)])
theorem Hn:p8.map told=some (afH (bk p8)):=by kernel_rfl
theorem ap2:tree (ae p8)=QP JW:=bN Hn
theorem Z9:round 0 [3,8,9] [3] [3,8] [3] (JW 0)=Ic JW:=be Hn 0 fun _=>rfl
def p7:Option PC:=cF [2,3,5] [] Tryz.f72 72 []
def JV:Nat→PC:=br p7
def akB (b:Nat→PC):PC:=.block 0 [3,8,9] [] (.loop [3,8] [] (b 0))
def Ib (b:Nat→PC):PT:=
 (.ite (ah r8 r7)
 (.chk (ao r6 r8)
 (.ite (.pick (bZ (pn r6 r8) (pi 0)) (ah (pn r6 r8) (pi 20)) pF)
 (.chk (bZ (pn r6 r8) (pi 0))
 (.next ⟨[(3,(.ai .or .u32 r3 (.ai .shl .u32 (.con (.v (.int .u32 1))) (pn r6 r8)))),(8,nD)],[]⟩))
 (.next ⟨[(8,nD)],[]⟩)))
 (.exit 0 ⟨[(9,(ah r8 r7))],[]⟩))
def QO (b:Nat→PC):PT:=
 (.brk ⟨[(8,(pi 0)),(7,(.llen r0)),(6,r0),(3,(.con (.v (.int .u32 0))))],[]⟩
(akB b)
 (.ret r3))
def afG (b:Nat→PC):PT×List (Shp×PT):=(QO b,[(.lp 0 [3,8,9] [] [3,8] [],Ib b)])
theorem Hm:p7.map told=some (afG (bk p7)):=by kernel_rfl
theorem ap1:tree (ae p7)=QO JV:=bN Hm
theorem Z8:round 0 [3,8,9] [] [3,8] [] (JV 0)=Ib JV:=be Hm 0 fun _=>rfl
def p6:Option PC:=cF [6,7,8] [] Tryz.f70 70 [9,8201]
def JU:Nat→PC:=br p6
def akA (b:Nat→PC):PC:=.block 0 [7,12,13] [] (.loop [7,12] [] (b 0))
def Ia (b:Nat→PC):PT:=
 (.ite nG
 (.chk (ao bC bS)
 (.chk (ao r1 bS)
 (.next ⟨[(7,(.pick (peq (.ai .andNot .u32 (pn r1 bS) r2) (.con (.v (.int .u32 0)))) (aG r7 (pc yS 0)) r7)),(12,yX)],[]⟩)))
 (.exit 0 ⟨[(13,nG)],[]⟩))
def QN (b:Nat→PC):PT:=
 (.brk ⟨[(12,(pi 0)),(11,(.llen r0)),(10,r0),(7,(pi 0))],[]⟩
(akA b)
 (.ret r7))
def afF (b:Nat→PC):PT×List (Shp×PT):=(QN b,[(.lp 0 [7,12,13] [] [7,12] [],Ia b)])
theorem Hl:p6.map told=some (afF (bk p6)):=by kernel_rfl
theorem ap0:tree (ae p6)=QN JU:=bN Hl
theorem Z7:round 0 [7,12,13] [] [7,12] [] (JU 0)=Ia JU:=be Hl 0 fun _=>rfl
def tL:Option PC:=cF [4,5] [] Tryz.f47 47 []
def akT (b:Nat→PC):PC:=.block 0 [4,5,11,12,13,14] [] (.loop [4,5] [] (b 0))
def an3 (b:Nat→PC):PT:=
 (.ite (ah r5 (.llen r0))
 (.chk (ao r0 r5)
 (.chk (ao r1 r5)
 (.ite (aO (pn r0 r5) (pn r1 r5))
 (.ret pF)
 (.next ⟨[(5,(aG r5 (pi 1)))],[]⟩))))
 (.exit 0 ⟨[(11,r5),(12,r0),(13,(.llen r0)),(14,(ah r5 (.llen r0)))],[]⟩))
def aql (b:Nat→PC):PT:=
 (.ite (aO (.llen r0) (.llen r1))
 (.ret pF)
 (.brk ⟨[(5,(pi 0)),(4,pF)],[]⟩
(akT b)
 (.ret pT)))
def afP (b:Nat→PC):PT×List (Shp×PT):=(aql b,[(.lp 0 [4,5,11,12,13,14] [] [4,5] [],an3 b)])
theorem Yj:tL.map told=some (afP (bk tL)):=by kernel_rfl
def tH:Option PC:=cF [4] [] Tryz.f18 18 []
def QK:PT:=
 (.call ⟨[],[]⟩ [] 6 20 [r0]
 (.ite (.nt r6)
 (.ret (pi 0))
 (.call ⟨[(8,r0)],[]⟩ [] 10 71 [r0]
 (.call ⟨[],[]⟩ [] 12 72 [r1]
 (.call ⟨[],[]⟩ [] 13 70 [r8,bC,bS]
 (.ret cK))))))
theorem NH:tH.map told=some (QK,[]):=by kernel_rfl
theorem apV:tree (ae tH)=QK:=ba NH
def tG:Option PC:=cF [4,6,7] [] Tryz.f48 48 [5]
def akr (b:Nat→PC):PC:=.block 0 [24,25] [5] (.loop [24] [5] (b 0))
def anS (b:Nat→PC):PT:=
 (.ite (ah ja dE)
 (.blockS ⟨[],[]⟩ 1 [7,26,27,28,29,30,31,32,33,34] [5]
 (.chk (bZ ja (pi 0))
 (.call ⟨[(28,ja)],[]⟩ [] 33 70 [r0,r6,(.ai .shl .u32 (.con (.v (.int .u32 1))) ja)]
 (.chk (ao o5 nH)
 (.next ⟨[],[(5,(.setn o5 nH 0 pj))]⟩))))
 (.next ⟨[(24,(aG ja (pi 1)))],[]⟩))
 (.exit 0 ⟨[(25,(ah ja dE))],[]⟩))
def apU (b:Nat→PC):PT:=
 (.call ⟨[],[]⟩ [] 9 20 [r0]
 (.ite (.pick (.pick (.nt r9) pT (ah r1 (pi 0))) pT (bj r1 (pi 20)))
 (.ret pL)
 (.chk (.an (bZ r1 (pi 0)) (bB r1 cl))
 (.chk (peq r1 r1)
 (.call ⟨[(5,pN)],[(5,(.rep r1 (pi 0)))]⟩ [] 22 71 [r0]
 (.brk ⟨[(24,(pi 0)),(23,r1),(6,qV)],[]⟩
(akr b)
 (.ret o5)))))))
def afA (b:Nat→PC):PT×List (Shp×PT):=(apU b,[(.lp 0 [24,25] [5] [24] [5],anS b)])
theorem X5:tG.map told=some (afA (bk tG)):=by kernel_rfl
def tI:Option PC:=cF [4,6,7] [] Tryz.f49 49 [5]
def aku (b:Nat→PC):PC:=.block 0 [5,13,14] [5] (.loop [5,13] [5] (b 0))
def anT (b:Nat→PC):PT:=
 (.ite (ah cK bS)
 (.chk (ao bz cK)
 (.chk (ao r1 cK)
 (.ite (bj (pn bz cK) (pn r1 cK))
 (.chk (bB (.llen (.app o5 (.lst [cK]))) cl)
 (.next ⟨[(5,pN),(13,(aG cK (pi 1)))],[(5,(.app o5 (.lst [cK])))]⟩))
 (.next ⟨[(13,(aG cK (pi 1)))],[]⟩))))
 (.exit 0 ⟨[(14,(ah cK bS))],[]⟩))
def apX (b:Nat→PC):PT:=
 (.call ⟨[(5,pN)],[(5,pL)]⟩ [] 11 48 [r0,(.llen r1)]
 (.brk ⟨[(13,(pi 0)),(12,(.llen bz))],[]⟩
(aku b)
 (.ret o5)))
def afC (b:Nat→PC):PT×List (Shp×PT):=(apX b,[(.lp 0 [5,13,14] [5] [5,13] [5],anT b)])
theorem X6:tI.map told=some (afC (bk tI)):=by kernel_rfl
def wS:Option PC:=cF [4,5] [] Tryz.f13 13 [2,3]
def J3:Nat→PC:=br wS
def akY (b:Nat→PC):PC:=.block 0 [4,5,14,15,16,17,18] [] (.loop [4,5] [] (b 0))
def CU (b:Nat→PC):PT:=
 (.ite (ah r5 (.llen (pc o2 4)))
 (.blockS ⟨[],[]⟩ 1 [4,21,22,23,24,25,26,27] []
 (.chk (ao (pc o2 4) r5)
 (.call ⟨[],[]⟩ [] 26 51 [(pn (pc o2 4) r5)]
 (.ite (.nt gT)
 (.ret pF)
 (.next ⟨[],[]⟩))))
 (.next ⟨[(5,(aG r5 (pi 1)))],[]⟩))
 (.exit 0 ⟨[(14,r5),(15,pN),(16,(pc o2 4)),(17,(.llen (pc o2 4))),(18,(ah r5 (.llen (pc o2 4))))],[]⟩))
def Rb (b:Nat→PC):PT:=
 (.call ⟨[(4,pF)],[(3,(.mk [r1])),(2,(.mk [r0]))]⟩ [] 7 19 [kI]
 (.call ⟨[(9,(.nt r7))],[]⟩ [(9,false)] 11 50 [(aC 19 o3)]
 (.ite (.pick r9 pT (.nt bz))
 (.ret pF)
 (.brk ⟨[(5,(pi 0))],[]⟩
(akY b)
 (.ret pT)))))
def afT (b:Nat→PC):PT×List (Shp×PT):=(Rb b,[(.lp 0 [4,5,14,15,16,17,18] [] [4,5] [],CU b)])
theorem NO:wS.map told=some (afT (bk wS)):=by kernel_rfl
theorem aqr:tree (ae wS)=Rb J3:=bN NO
theorem Pl:round 0 [4,5,14,15,16,17,18] [] [4,5] [] (J3 0)=CU J3:=be NO 0 fun _=>rfl
def wQ:Option PC:=cF [2,3,4] [] Tryz.f19 19 [1]
def zV:Nat→PC:=br wQ
def akU (b:Nat→PC):PC:=.block 0 [2,3,5,6,7,8,9,10,13] [] (.loop [2,3] [] (b 0))
def akV (b:Nat→PC):PC:=.block 2 [2,4,44,45,46,47,48,49,52] [] (.loop [2,4] [] (b 1))
def vC (b:Nat→PC):PT:=
 (.ite (.pick (ah r3 sG) (ah r3 (pi 50)) pF)
 (.chk (ao (pc o1 1) r3)
 (.chk (.nt (.an (.an (.nt (bj (.llen (pc (pn (pc o1 1) r3) 4)) (pi 70))) pT) (.nt (ao (pc o1 1) r3))))
 (.chk (.nt (.an (.an (.nt Zy) pT) (.nt (ao (pc o1 1) r3))))
 (.ite (.pick Zy pT (bj (.llen (pc (pn (pc o1 1) r3) 3)) (pi 8)))
 (.ret pF)
 (.next ⟨[(3,(aG r3 (pi 1)))],[]⟩)))))
 (.exit 0 ⟨[(5,r3),(6,pN),(7,(pc o1 1)),(8,sG),(9,(ah r3 sG)),(10,(ah r3 sG)),(13,(.pick (ah r3 sG) (ah r3 (pi 50)) pF))],[]⟩))
def y5 (b:Nat→PC):PT:=
 (.ite (.pick (ah r4 sF) (ah r4 (pi 50)) pF)
 (.chk (ao (pc o1 4) r4)
 (.chk (.nt (.an (.an (.nt (bj (.llen (pc (pn (pc o1 4) r4) 2)) (pi 40))) pT) (.nt (ao (pc o1 4) r4))))
 (.ite (.pick (bj (.llen (pc (pn (pc o1 4) r4) 2)) (pi 40)) pT (bj (.llen (pc (pn (pc o1 4) r4) 3)) (pi 40)))
 (.ret pF)
 (.next ⟨[(4,(aG r4 (pi 1)))],[]⟩))))
 (.exit 2 ⟨[(44,r4),(45,pN),(46,(pc o1 4)),(47,sF),(48,(ah r4 sF)),(49,(ah r4 sF)),(52,(.pick (ah r4 sF) (ah r4 (pi 50)) pF))],[]⟩))
def Q6 (b:Nat→PC):PT:=
 (.brk ⟨[(3,(pi 0)),(2,pF)],[(1,(.mk [r0]))]⟩
(akU b)
 (.brk ⟨[(4,(pi 0))],[]⟩
(akV b)
 (.ret (.pick (.pick (.pick (.pick (.pick (.pick (.pick (ah (.llen (pc o1 0)) (pi 50)) (ah sG (pi 50)) pF) (ah (.llen (pc o1 2)) (pi 50)) pF) (ah yZ (pi 210)) pF) (ah sF (pi 50)) pF) (ah (.llen (pc o1 5)) (pi 110)) pF) (ah (.llen (pc o1 6)) (pi 110)) pF) (ah (.llen (pc o1 7)) (pi 50)) pF))))
def afQ (b:Nat→PC):PT×List (Shp×PT):=(Q6 b,[(.lp 0 [2,3,5,6,7,8,9,10,13] [] [2,3] [],vC b),(.lp 2 [2,4,44,45,46,47,48,49,52] [] [2,4] [],y5 b)])
theorem Hp:wQ.map told=some (afQ (bk wQ)):=by kernel_rfl
theorem aqm:tree (ae wQ)=Q6 zV:=bN Hp
theorem CR:round 0 [2,3,5,6,7,8,9,10,13] [] [2,3] [] (zV 0)=vC zV:=be Hp 0 fun _=>rfl
theorem Iq:round 2 [2,4,44,45,46,47,48,49,52] [] [2,4] [] (zV 1)=y5 zV:=be Hp 1 fun _=>rfl
def EV:Option PC:=cF [2] [] Tryz.f50 50 [1]
def Q8:PT:=
 (.ret (.pick (.pick (.pick (bB (.llen mq) (pi 50)) (bB (.llen (pc (.mk [r0]) 16)) (pi 10)) pF) (bB (.llen (pc (.mk [r0]) 17)) (pi 110)) pF) (bB (.llen yV) (pi 220)) pF))
theorem Yl:EV.map told=some (Q8,[]):=by kernel_rfl
theorem aqo:tree (ae EV)=Q8:=ba Yl
def wR:Option PC:=cF [2,3] [] Tryz.f51 51 [1]
def J2:Nat→PC:=br wR
def akX (b:Nat→PC):PC:=.block 0 [2,3,14,15,16,17,18] [] (.loop [2,3] [] (b 0))
def CT (b:Nat→PC):PT:=
 (.ite (ah r3 yZ)
 (.blockS ⟨[],[]⟩ 1 [2,21,22,23,24,25,26,27,28] []
 (.chk (ao (pc o1 3) r3)
 (.call ⟨[],[]⟩ [] 27 101 [(.sub (pn (pc o1 3) r3) 1 3)]
 (.ite (.nt da)
 (.ret pF)
 (.next ⟨[],[]⟩))))
 (.next ⟨[(3,(aG r3 (pi 1)))],[]⟩))
 (.exit 0 ⟨[(14,r3),(15,pN),(16,(pc o1 3)),(17,yZ),(18,(ah r3 yZ))],[]⟩))
def Ra (b:Nat→PC):PT:=
 (.ite (.pick (bj (.llen (pc (.mk [r0]) 3)) (pi 60)) pT (bj pg (pi 60)))
 (.ret pF)
 (.brk ⟨[(3,(pi 0)),(2,pF)],[(1,(.mk [r0]))]⟩
(akX b)
 (.ret pT)))
def afS (b:Nat→PC):PT×List (Shp×PT):=(Ra b,[(.lp 0 [2,3,14,15,16,17,18] [] [2,3] [],CT b)])
theorem NN:wR.map told=some (afS (bk wR)):=by kernel_rfl
theorem aqq:tree (ae wR)=Ra J2:=bN NN
theorem Pk:round 0 [2,3,14,15,16,17,18] [] [2,3] [] (J2 0)=CT J2:=be NN 0 fun _=>rfl
def EW:Option PC:=cF [2] [] Tryz.f101 101 [1]
def Q9:PT:=
 (.call ⟨[],[]⟩ [] 4 159 [(.mk [kJ,qQ,vl]),(pi 100),(pi 20)]
 (.ret (bZ r4 (pi 0))))
theorem Ym:EW.map told=some (Q9,[]):=by kernel_rfl
theorem aqp:tree (ae EW)=Q9:=ba Ym
def tM:Option PC:=cF [6,1,7] [] Tryz.f159 159 [3]
def J1:Nat→PC:=br tM
def akW (b:Nat→PC):PC:=.block 0 [1,7,12,13,14,15,16,17,20] [] (.loop [1,7] [] (b 0))
def CS (b:Nat→PC):PT:=
 (.ite (.pick (ah r7 mu) (bZ r1 (pi 0)) pF)
 (.blockS ⟨[],[]⟩ 1 [1,23,24,25,26,27,28,29,30,31] []
 (.chk (ao (pc o3 2) r7)
 (.call ⟨[],[]⟩ [] 31 159 [(pn (pc o3 2) r7),r1,(bH r2 (pi 1))]
 (.next ⟨[(1,jJ)],[]⟩)))
 (.next ⟨[(7,(aG r7 (pi 1)))],[]⟩))
 (.exit 0 ⟨[(12,r7),(13,pN),(14,(pc o3 2)),(15,mu),(16,(ah r7 mu)),(17,(ah r7 mu)),(20,(.pick (ah r7 mu) (bZ r1 (pi 0)) pF))],[]⟩))
def Jd (b:Nat→PC):PT:=
 (.ite (ah r2 (pi 1))
 (.ret (pi (-1)))
 (.brk ⟨[(7,(pi 0)),(1,(bH r1 (pi 1)))],[(3,(.mk [r0]))]⟩
(akW b)
 (.ret r1)))
def afR (b:Nat→PC):PT×List (Shp×PT):=(Jd b,[(.lp 0 [1,7,12,13,14,15,16,17,20] [] [1,7] [],CS b)])
theorem NM:tM.map told=some (afR (bk tM)):=by kernel_rfl
theorem abc:tree (ae tM)=Jd J1:=bN NM
theorem Pj:round 0 [1,7,12,13,14,15,16,17,20] [] [1,7] [] (J1 0)=CS J1:=be NM 0 fun _=>rfl
def wT:Option PC:=cF [2,3,4,5,6,7,10,11,12] [] Tryz.f14 14 [1,9]
def J4:Nat→PC:=br wT
def akZ (b:Nat→PC):PC:=.block 0 [2,38,39] [] (.loop [2,38] [] (b 0))
def CV (b:Nat→PC):PT:=
 (.ite (ah j9 my)
 (.blockS ⟨[],[]⟩ 1 [2,9,40,41,42,43,44,45] [9]
 (.chk (ao iK j9)
 (.call ⟨[],[]⟩ [] 44 57 [(pc (.setc CD 0 (pn iK j9)) 0),(pi 10)]
 (.ite (.nt vw)
 (.ret (pi 1))
 (.next ⟨[],[]⟩))))
 (.next ⟨[(38,(aG j9 (pi 1)))],[]⟩))
 (.exit 0 ⟨[(39,(ah j9 my))],[]⟩))
def Rc (b:Nat→PC):PT:=
 (.call ⟨[(2,(pi 0))],[(1,(.mk [r0]))]⟩ [] 15 52 [kI]
 (.call ⟨[(5,(.tget bG 2)),(4,(.tget bG 1)),(3,(.tget bG 0))],[]⟩ [] 21 53 [(pc o1 0),(pi 8),(.con (.clo 54 []))]
 (.ite (aO fi (pi 0))
 (.ret fi)
 (.call ⟨[],[(1,(aC 8 o1))]⟩ [] 27 53 [r3,(pi 40),(.clo 55 [(.ref (aC 8 o1))])]
 (.ite (aO da (pi 0))
 (.ret da)
 (.ite (bj (.llen (pc o1 2)) (pi 20))
 (.ret (pi 6))
 (.brk ⟨[(38,(pi 0)),(37,(.llen (pc o1 2))),(36,(pc o1 2))],[]⟩
(akZ b)
 (.call ⟨[],[]⟩ [] 49 53 [r4,(pi 200),(.clo 58 [(.ref o1)])]
 (.ite (aO pq (pi 0))
 (.ret pq)
 (.call ⟨[],[]⟩ [] 55 53 [r5,(pi 20),(.clo 59 [(.ref o1)])]
 (.ite (aO CF (pi 0))
 (.ret CF)
 (.call ⟨[],[]⟩ [] 60 61 [(.sub o1 0 8)]
 (.ite (aO vx (pi 0))
 (.ret vx)
 (.call ⟨[],[]⟩ [] 65 62 [(.sub o1 0 8)]
 (.ret vy)))))))))))))))
def afU (b:Nat→PC):PT×List (Shp×PT):=(Rc b,[(.lp 0 [2,38,39] [] [2,38] [],CV b)])
theorem NP:wT.map told=some (afU (bk wT)):=by kernel_rfl
theorem aqw:tree (ae wT)=Rc J4:=bN NP
theorem Pm:round 0 [2,38,39] [] [2,38] [] (J4 0)=CV J4:=be NP 0 fun _=>rfl
def wZ:Option PC:=cF [] [] Tryz.f52 52 [1,2,3,4,6,16390,20486,24582,21,8,34,10,12298,16394,47]
def tB:Nat→PC:=br wZ
def ak5 (b:Nat→PC):PC:=.block 0 [2,14,15] [2] (.loop [2,14] [2] (b 0))
def ak6 (b:Nat→PC):PC:=.block 2 [3,27,28] [3] (.loop [3,27] [3] (b 1))
def ak7 (b:Nat→PC):PC:=.block 4 [4,40,41] [4] (.loop [4,40] [4] (b 2))
def Is (b:Nat→PC):PT:=
 (.ite nF
 (.chk (ao bS bD)
 (.chk (bB (.llen Zv) cl)
 (.next ⟨[(2,pN),(14,vq)],[(2,Zv)]⟩)))
 (.exit 0 ⟨[(15,nF)],[]⟩))
def It (b:Nat→PC):PT:=
 (.ite (ah da gT)
 (.chk (ao jI da)
 (.chk (bB (.llen (.app o3 (.lst [(pc (.setc OQ 0 qT) 0)]))) cl)
 (.next ⟨[(3,pN),(27,(aG da (pi 1)))],[(3,(.app o3 (.lst [(pc (.setc OQ 0 qT) 0)])))]⟩)))
 (.exit 2 ⟨[(28,(ah da gT))],[]⟩))
def Iu (b:Nat→PC):PT:=
 (.ite (ah qY qX)
 (.chk (ao j9 qY)
 (.chk (bB (.llen Zw) cl)
 (.next ⟨[(4,pN),(40,(aG qY (pi 1)))],[(4,Zw)]⟩)))
 (.exit 4 ⟨[(41,(ah qY qX))],[]⟩))
def Rq (b:Nat→PC):PT:=
 (.brk ⟨[(14,(pi 0)),(13,(.llen qQ)),(12,qQ),(4,pN),(3,pN),(2,pN)],[(4,pL),(3,pL),(2,pL),(1,(.mk [r0]))]⟩
(ak5 b)
 (.brk ⟨[(27,(pi 0)),(26,yZ),(25,(pc o1 3))],[]⟩
(ak6 b)
 (.brk ⟨[(40,(pi 0)),(39,sF),(38,(pc o1 4))],[]⟩
(ak7 b)
 (.ret (.tup [o2,o3,o4])))))
def af0 (b:Nat→PC):PT×List (Shp×PT):=(Rq b,[(.lp 0 [2,14,15] [2] [2,14] [2],Is b),(.lp 2 [3,27,28] [3] [3,27] [3],It b),(.lp 4 [4,40,41] [4] [4,40] [4],Iu b)])
theorem Co:wZ.map told=some (af0 (bk wZ)):=by kernel_rfl
theorem aqF:tree (ae wZ)=Rq tB:=bN Co
theorem aal:round 0 [2,14,15] [2] [2,14] [2] (tB 0)=Is tB:=be Co 0 fun _=>rfl
theorem aam:round 2 [3,27,28] [3] [3,27] [3] (tB 1)=It tB:=be Co 1 fun _=>rfl
theorem aan:round 4 [4,40,41] [4] [4,40] [4] (tB 2)=Iu tB:=be Co 2 fun _=>rfl
def wX:Option PC:=cF [6,7,8] [] Tryz.f53 53 []
def J8:Nat→PC:=br wX
def ak3 (b:Nat→PC):PC:=.block 0 [6,15,16] [] (.loop [6,15] [] (b 0))
def CY (b:Nat→PC):PT:=
 (.ite (ah bG bD)
 (.blockS ⟨[],[]⟩ 1 [6,7,8,17,18,19,20,21,22,24,25,26,27] []
 (.call ⟨[(7,bG)],[]⟩ [] 20 102 [r0,bG]
 (.ite (aO bQ (pi 0))
 (.ret bQ)
 (.callc ⟨[],[]⟩ [] 26 r2 [r7]
 (.ite (.nt gT)
 (.ret (pi 1))
 (.next ⟨[],[]⟩)))))
 (.next ⟨[(15,(aG bG (pi 1)))],[]⟩))
 (.exit 0 ⟨[(16,(ah bG bD))],[]⟩))
def Rm (b:Nat→PC):PT:=
 (.ite (bj (.llen r0) r1)
 (.ret (pi 6))
 (.brk ⟨[(15,(pi 0)),(14,(.llen r0)),(6,(pi 0))],[]⟩
(ak3 b)
 (.ret (pi 0))))
def afY (b:Nat→PC):PT×List (Shp×PT):=(Rm b,[(.lp 0 [6,15,16] [] [6,15] [],CY b)])
theorem NT:wX.map told=some (afY (bk wX)):=by kernel_rfl
theorem aqB:tree (ae wX)=Rm J8:=bN NT
theorem Pp:round 0 [6,15,16] [] [6,15] [] (J8 0)=CY J8:=be NT 0 fun _=>rfl
def E3:Option PC:=cF [4] [] Tryz.f102 102 []
def Rp:PT:=
 (.chk (ao r0 r1)
 (.call ⟨[],[]⟩ [] 9 160 [(pn r0 r1)]
 (.ite (.nt r9)
 (.ret (pi 2))
 (.chk (.slok r0 (pi 0) r1)
 (.chk (ao r0 r1)
 (.call ⟨[],[]⟩ [] 18 161 [(.slc r0 (pi 0) r1),(pn r0 r1)]
 (.ite dD
 (.ret (pi 5))
 (.ret (pi 0)))))))))
theorem Yt:E3.map told=some (Rp,[]):=by kernel_rfl
theorem aqE:tree (ae E3)=Rp:=ba Yt
def wY:Option PC:=cF [2,3,4,5] [] Tryz.f160 160 []
def J9:Nat→PC:=br wY
def ak4 (b:Nat→PC):PC:=.block 0 [2,16,17] [] (.loop [2,16] [] (b 0))
def CZ (b:Nat→PC):PT:=
 (.ite (ah bx bG)
 (.chk (ao bD bx)
 (.ite (.pick (.nt (.pick (.pick (bZ ph (.con (.v (.int .u8 97)))) (bB ph (.con (.v (.int .u8 122)))) pF) pT (.pick (bZ ph (.con (.v (.int .u8 65)))) (bB ph (.con (.v (.int .u8 90)))) pF))) (.pick (peq bx (pi 0)) pT (.pick (aO ph (.con (.v (.int .u8 95)))) (.pick (ah ph (.con (.v (.int .u8 48)))) pT (bj ph (.con (.v (.int .u8 57))))) pF)) pF)
 (.ret pF)
 (.next ⟨[(16,(aG bx (pi 1)))],[]⟩)))
 (.exit 0 ⟨[(17,(ah bx bG))],[]⟩))
def Ro (b:Nat→PC):PT:=
 (.ite (.pick (.cs .eql r0 (.con (.v (.string ⟨#[]⟩)))) pT (bj (.slen r0) (pi 20)))
 (.ret pF)
 (.chk (bB (.slen r0) cl)
 (.brk ⟨[(16,(pi 0)),(15,(.llen (.bytes r0))),(14,(.bytes r0)),(2,pF)],[]⟩
(ak4 b)
 (.ret pT))))
def afZ (b:Nat→PC):PT×List (Shp×PT):=(Ro b,[(.lp 0 [2,16,17] [] [2,16] [],CZ b)])
theorem NU:wY.map told=some (afZ (bk wY)):=by kernel_rfl
theorem aqD:tree (ae wY)=Ro J9:=bN NU
theorem Pq:round 0 [2,16,17] [] [2,16] [] (J9 0)=CZ J9:=be NU 0 fun _=>rfl
def Fa:Option PC:=cF [4] [] Tryz.f161 161 []
def RG:PT:=
 (.call ⟨[],[]⟩ [] 7 208 [r0,r1]
 (.ret (bZ r7 (pi 0))))
theorem YA:Fa.map told=some (RG,[]):=by kernel_rfl
theorem aqV:tree (ae Fa)=RG:=ba YA
def xl:Option PC:=cF [4,5] [] Tryz.f208 208 []
def Kg:Nat→PC:=br xl
def alu (b:Nat→PC):PC:=.block 0 [4,8,9] [] (.loop [4,8] [] (b 0))
def Dg (b:Nat→PC):PT:=
 (.ite (ah r8 r7)
 (.chk (ao r0 r8)
 (.ite (.cs .eql r1 (pn r0 r8))
 (.ret r8)
 (.next ⟨[(8,nD)],[]⟩)))
 (.exit 0 ⟨[(9,(ah r8 r7))],[]⟩))
def RL (b:Nat→PC):PT:=
 (.brk ⟨[(8,(pi 0)),(7,(.llen r0)),(4,(pi 0))],[]⟩
(alu b)
 (.ret (pi (-1))))
def age (b:Nat→PC):PT×List (Shp×PT):=(RL b,[(.lp 0 [4,8,9] [] [4,8] [],Dg b)])
theorem N1:xl.map told=some (age (bk xl)):=by kernel_rfl
theorem aq0:tree (ae xl)=RL Kg:=bN N1
theorem PK:round 0 [4,8,9] [] [4,8] [] (Kg 0)=Dg Kg:=be N1 0 fun _=>rfl
def EX:Option PC:=cF [2] [] Tryz.f54 54 []
def Re:PT:=
 (.ret pT)
theorem Yn:EX.map told=some (Re,[]):=by kernel_rfl
theorem aqs:tree (ae EX)=Re:=ba Yn
def EY:Option PC:=cF [3] [] Tryz.f55 55 []
def Rf:PT:=
 (.chk (ao (pc (.deref r1) 1) r0)
 (.call ⟨[],[]⟩ [] 10 56 [(.deref r1),(pn (pc (.deref r1) 1) r0)]
 (.ret bC)))
theorem Yo:EY.map told=some (Rf,[]):=by kernel_rfl
theorem aqt:tree (ae EY)=Rf:=ba Yo
def wW:Option PC:=cF [4,6] [] Tryz.f56 56 [2,3]
def J7:Nat→PC:=br wW
def ak2 (b:Nat→PC):PC:=.block 0 [4,10,11] [] (.loop [4,10] [] (b 0))
def CX (b:Nat→PC):PT:=
 (.ite (ah bC r9)
 (.chk (ao r8 bC)
 (.chk (aO (pi 100) (pi 0))
 (.chk (.nt (.an (.an (.nt (ah OV (pi 1))) pT) (.nt (aO (pi 100) (pi 0)))))
 (.ite (.pick (ah OV (pi 1)) pT (bj OV (pi 31)))
 (.ret pF)
 (.next ⟨[(10,(aG bC (pi 1)))],[]⟩)))))
 (.exit 0 ⟨[(11,(ah bC r9))],[]⟩))
def Rl (b:Nat→PC):PT:=
 (.brk ⟨[(10,(pi 0)),(9,(.llen (pc (.mk [r1]) 4))),(8,(pc (.mk [r1]) 4)),(4,pF)],[(3,(.mk [r1])),(2,(.mk [r0]))]⟩
(ak2 b)
 (.call ⟨[(33,(.pick (bj (.llen (pc o3 4)) (pi 60)) pT (bj (.llen (pc o3 5)) (pi 200))))],[]⟩ [(33,false)] 39 57 [(pc o3 1),(.llen (pc o2 4))]
 (.call ⟨[(42,(.pick pj pT (.nt qX)))],[]⟩ [(42,false)] 48 57 [(pc o3 2),(.llen (pc o2 0))]
 (.ite (.pick O0 pT (.nt ka))
 (.ret pF)
 (.call ⟨[],[]⟩ [] 53 103 [(pc o3 3),(pi 0),(pi 6)]
 (.call ⟨[(54,ZX)],[]⟩ [(54,true)] 57 103 [(pc o3 4),(pi 101),(pi 1231)]
 (.call ⟨[(59,(.pick pv y0 pF))],[]⟩ [(59,true)] 62 103 [(pc o3 5),(pi 0),(pi 100000)]
 (.ret (.pick ZZ mz pF)))))))))
def afX (b:Nat→PC):PT×List (Shp×PT):=(Rl b,[(.lp 0 [4,10,11] [] [4,10] [],CX b)])
theorem NS:wW.map told=some (afX (bk wW)):=by kernel_rfl
theorem aqA:tree (ae wW)=Rl J7:=bN NS
theorem Po:round 0 [4,10,11] [] [4,10] [] (J7 0)=CX J7:=be NS 0 fun _=>rfl
def E2:Option PC:=cF [4] [] Tryz.f57 57 []
def Rn:PT:=
 (.ret OU)
theorem Ys:E2.map told=some (Rn,[]):=by kernel_rfl
theorem aqC:tree (ae E2)=Rn:=ba Ys
def w8:Option PC:=cF [6,7,8] [] Tryz.f103 103 []
def Ka:Nat→PC:=br w8
def alc (b:Nat→PC):PC:=.block 0 [6,11,12] [] (.loop [6,11] [] (b 0))
def sK (b:Nat→PC):PT:=
 (.ite sH
 (.chk (ao r9 bz)
 (.chk (.nt (.an (.an (bj bz (pi 0)) (.an (.nt (.pick (ah (pn r9 bz) r1) pT (bj (pn r9 bz) r2))) pT)) (.nt (ao r0 (bH bz (pi 1))))))
 (.ite (.pick (.pick (ah (pn r9 bz) r1) pT (bj (pn r9 bz) r2)) pT (.pick (bj bz (pi 0)) (bB (pn r9 bz) (pn r0 (bH bz (pi 1)))) pF))
 (.ret pF)
 (.next ⟨[(11,yY)],[]⟩))))
 (.exit 0 ⟨[(12,sH)],[]⟩))
def Ru (b:Nat→PC):PT:=
 (.brk ⟨[(11,(pi 0)),(10,(.llen r0)),(9,r0),(6,pF)],[]⟩
(alc b)
 (.ret pT))
def af3 (b:Nat→PC):PT×List (Shp×PT):=(Ru b,[(.lp 0 [6,11,12] [] [6,11] [],sK b)])
theorem NV:w8.map told=some (af3 (bk w8)):=by kernel_rfl
theorem aqI:tree (ae w8)=Ru Ka:=bN NV
theorem y6:round 0 [6,11,12] [] [6,11] [] (Ka 0)=sK Ka:=be NV 0 fun _=>rfl
def EZ:Option PC:=cF [3] [] Tryz.f58 58 []
def Rg:PT:=
 (.chk (ao (pc (.deref r1) 3) r0)
 (.call ⟨[],[]⟩ [] 13 57 [(pc (pn (pc (.deref r1) 3) r0) 1),(.llen (pc (.deref r1) 1))]
 (.chk (.nt (.an (.an cK pT) (.nt (ao (pc (.deref r1) 3) r0))))
 (.call ⟨[(14,cK)],[]⟩ [(14,true)] 24 57 [(pc (pn (pc (.deref r1) 3) r0) 2),(.llen (pc (.deref r1) 2))]
 (.ret (.pick bD ja pF))))))
theorem Yp:EZ.map told=some (Rg,[]):=by kernel_rfl
theorem aqu:tree (ae EZ)=Rg:=ba Yp
def E0:Option PC:=cF [3] [] Tryz.f59 59 []
def Rh:PT:=
 (.chk (ao (pc (.deref r1) 4) r0)
 (.call ⟨[],[]⟩ [] 9 60 [(pn (pc (.deref r1) 4) r0)]
 (.ret r9)))
theorem Yq:E0.map told=some (Rh,[]):=by kernel_rfl
theorem aqv:tree (ae E0)=Rh:=ba Yq
def w6:Option PC:=cF [2] [] Tryz.f60 60 [1,3,4,6,19,8,16392,36]
def zW:Nat→PC:=br w6
def ak8 (b:Nat→PC):PC:=.block 0 [2,3,12,13] [3] (.loop [2,3,12] [3] (b 0))
def ak9 (b:Nat→PC):PC:=.block 2 [4,29,30] [4] (.loop [4,29] [4] (b 1))
def C0 (b:Nat→PC):PT:=
 (.ite nG
 (.blockS ⟨[],[]⟩ 1 [2,3,6,14,15,17,18,19,20,21,22,23,24] [6,19,3]
 (.chk (ao bC bS)
 (.chk (bB (.llen (.app o3 (.lst [(pc (.setc HO 0 qU) 0)]))) cl)
 (.call ⟨[(3,pN)],[(3,(.app o3 (.lst [(pc (.setc HO 0 qU) 0)])))]⟩ [] 23 57 [(pc (.setc HO 0 qU) 1),(pi 5)]
 (.ite (.nt dE)
 (.ret pF)
 (.next ⟨[],[]⟩)))))
 (.next ⟨[(12,yX)],[]⟩))
 (.exit 0 ⟨[(13,nG)],[]⟩))
def Iv (b:Nat→PC):PT:=
 (.ite (ah mw nH)
 (.chk (ao da mw)
 (.chk (bB (.llen Zz) cl)
 (.next ⟨[(4,pN),(29,(aG mw (pi 1)))],[(4,Zz)]⟩)))
 (.exit 2 ⟨[(30,(ah mw nH))],[]⟩))
def Rr (b:Nat→PC):PT:=
 (.brk ⟨[(12,(pi 0)),(11,pg),(10,vl),(4,pN),(3,pN),(2,pF)],[(4,pL),(3,pL),(1,(.mk [r0]))]⟩
(ak8 b)
 (.brk ⟨[(29,(pi 0)),(28,yZ),(27,(pc o1 3))],[]⟩
(ak9 b)
 (.call ⟨[],[]⟩ [] 40 103 [o3,(pi 0),(pi 21)]
 (.call ⟨[(41,qY)],[]⟩ [(41,true)] 43 103 [o4,(pi 0),(pi 21)]
 (.ret (.pick pk sJ pF))))))
def af1 (b:Nat→PC):PT×List (Shp×PT):=(Rr b,[(.lp 0 [2,3,12,13] [3] [2,3,12] [3],C0 b),(.lp 2 [4,29,30] [4] [4,29] [4],Iv b)])
theorem Hq:w6.map told=some (af1 (bk w6)):=by kernel_rfl
theorem aqG:tree (ae w6)=Rr zW:=bN Hq
theorem Pr:round 0 [2,3,12,13] [3] [2,3,12] [3] (zW 0)=C0 zW:=be Hq 0 fun _=>rfl
theorem aao:round 2 [4,29,30] [4] [4,29] [4] (zW 1)=Iv zW:=be Hq 1 fun _=>rfl
def w9:Option PC:=cF [2,3] [] Tryz.f61 61 [1,4,6]
def zY:Nat→PC:=br w9
def ald (b:Nat→PC):PC:=.block 2 [2,50,51] [] (.loop [2,50] [] (b 0))
def ale (b:Nat→PC):PC:=.block 0 [2,14,15] [] (.loop [2,14] [] (b 1))
def y7 (b:Nat→PC):PT:=
 (.ite (ah kc pq)
 (.chk (ao ka kc)
 (.ite (.pick (peq (pc (.setc z3 0 (pn ka kc)) 0) (pc o4 0)) (peq (pc (.setc z3 0 (pn ka kc)) 1) (pc o4 1)) pF)
 (.ret (pi 5))
 (.next ⟨[(50,(aG kc (pi 1)))],[]⟩)))
 (.exit 2 ⟨[(51,(ah kc pq))],[]⟩))
def C3 (b:Nat→PC):PT:=
 (.ite nF
 (.blockS ⟨[(15,nF)],[]⟩ 1 [2,3,4,16,17,18,19,20,21,22,23,24,25,26,34,35,39,40,44,45,46,47,48,49,50,51] [4]
 (.chk (ao bS bD)
 (.call ⟨[(3,bD)],[(4,yT)]⟩ [] 24 57 [(pc yT 0),sG]
 (.call ⟨[(26,(.nt ja))],[]⟩ [(26,false)] 32 57 [(pc o4 1),sG]
 (.ite (.pick (.pick (.pick gT pT (.nt OZ)) pT (ah (pc o4 2) (pi 1))) pT (bj (pc o4 2) (pi 20000)))
 (.ret (pi 1))
 (.chk (.slok (pc o1 5) (pi 0) r3)
 (.brk ⟨[(50,(pi 0)),(49,(.llen (.slc (pc o1 5) (pi 0) r3))),(48,(.slc (pc o1 5) (pi 0) r3))],[]⟩
(ald b)
 (.next ⟨[],[]⟩)))))))
 (.next ⟨[(14,vq)],[]⟩))
 (.exit 0 ⟨[(15,nF)],[]⟩))
def Rv (b:Nat→PC):PT:=
 (.ite (bj (.llen yW) (pi 100))
 (.ret (pi 6))
 (.brk ⟨[(14,(pi 0)),(13,(.llen yW)),(12,yW),(2,(pi 0))],[(1,(.mk [r0]))]⟩
(ale b)
 (.ret (pi 0))))
def af4 (b:Nat→PC):PT×List (Shp×PT):=(Rv b,[(.lp 2 [2,50,51] [] [2,50] [],y7 b),(.lp 0 [2,14,15] [] [2,14] [],C3 b)])
theorem Hs:w9.map told=some (af4 (bk w9)):=by kernel_rfl
theorem aqJ:tree (ae w9)=Rv zY:=bN Hs
theorem Iw:round 2 [2,50,51] [] [2,50] [] (zY 0)=y7 zY:=be Hs 0 fun _=>rfl
theorem Pu:round 0 [2,14,15] [] [2,14] [] (zY 1)=C3 zY:=be Hs 1 fun _=>rfl
def w7:Option PC:=cF [2] [] Tryz.f62 62 [1,4,6]
def zX:Nat→PC:=br w7
def ala (b:Nat→PC):PC:=.block 0 [2,14,15] [] (.loop [2,14] [] (b 0))
def alb (b:Nat→PC):PC:=.block 2 [2,69,70] [] (.loop [2,69] [] (b 1))
def C1 (b:Nat→PC):PT:=
 (.ite nF
 (.blockS ⟨[],[]⟩ 1 [2,4,16,17,18,19,20,21,22,23,24,25,33,34,40,41,47,48,54,55,60] [4]
 (.chk (ao bS bD)
 (.call ⟨[],[(4,(.setc z5 0 (pn bS bD)))]⟩ [] 23 57 [(pc (.setc z5 0 (pn bS bD)) 0),(.llen (pc o1 0))]
 (.call ⟨[(25,(.nt dE))],[]⟩ [(25,false)] 31 57 [(pc o4 1),(.llen (pc o1 0))]
 (.call ⟨[(41,(.pick (.pick jI pT (.nt jJ)) pT (peq (pc o4 0) (pc o4 1))))],[]⟩ [(41,false)] 45 57 [(bH (pc o4 2) (pi 1)),(pi 1073741824)]
 (.call ⟨[(48,(.pick pk pT (.nt po)))],[]⟩ [(48,false)] 52 57 [(bH (pc o4 3) (pi 1)),(pi 1073741824)]
 (.call ⟨[(55,(.pick ka pT (.nt nI)))],[]⟩ [(55,false)] 58 57 [(pc o4 4),(pi 100001)]
 (.ite (.pick CF pT (.nt ZY))
 (.ret (pi 1))
 (.next ⟨[],[]⟩))))))))
 (.next ⟨[(14,vq)],[]⟩))
 (.exit 0 ⟨[(15,nF)],[]⟩))
def C2 (b:Nat→PC):PT:=
 (.ite (ah y1 HZ)
 (.blockS ⟨[],[]⟩ 3 [2,6,71,72,73,74,75,76,77,78,79,80,84,85,91,92,96] [6]
 (.chk (ao vz y1)
 (.call ⟨[],[(6,(.setc z3 0 (pn vz y1)))]⟩ [] 78 57 [(pc (.setc z3 0 (pn vz y1)) 0),sF]
 (.ite (.pick (.pick (.pick (.nt H2) pT (ah (pc o6 1) (pi 0))) pT (bj (pc o6 1) (pc o6 2))) pT (bj (pc o6 2) (pi 100000)))
 (.ret (pi 1))
 (.next ⟨[],[]⟩))))
 (.next ⟨[(69,(aG y1 (pi 1)))],[]⟩))
 (.exit 2 ⟨[(70,(ah y1 HZ))],[]⟩))
def Rs (b:Nat→PC):PT:=
 (.ite (bj (.llen (pc (.mk [r0]) 6)) (pi 100))
 (.ret (pi 6))
 (.brk ⟨[(14,(pi 0)),(13,(.llen (pc (.mk [r0]) 6))),(12,(pc (.mk [r0]) 6)),(2,(pi 0))],[(1,(.mk [r0]))]⟩
(ala b)
 (.ite (bj (.llen (pc o1 7)) (pi 20))
 (.ret (pi 6))
 (.brk ⟨[(69,(pi 0)),(68,(.llen (pc o1 7))),(67,(pc o1 7))],[]⟩
(alb b)
 (.ret (pi 0))))))
def af2 (b:Nat→PC):PT×List (Shp×PT):=(Rs b,[(.lp 0 [2,14,15] [] [2,14] [],C1 b),(.lp 2 [2,69,70] [] [2,69] [],C2 b)])
theorem Hr:w7.map told=some (af2 (bk w7)):=by kernel_rfl
theorem aqH:tree (ae w7)=Rs zX:=bN Hr
theorem Ps:round 0 [2,14,15] [] [2,14] [] (zX 0)=C1 zX:=be Hr 0 fun _=>rfl
theorem Pt:round 2 [2,69,70] [] [2,69] [] (zX 1)=C2 zX:=be Hr 1 fun _=>rfl
def Aj:Option PC:=cF [2] [] Tryz.f15 15 [1]
def Q7:PT:=
 (.ret (.pick (.pick (.pick (bB (.llen mq) (pi 42)) (bB (.llen (pc (.mk [r0]) 16)) (pi 6)) pF) (bB (.llen (pc (.mk [r0]) 17)) (pi 102)) pF) (bB (.llen yV) (pi 202)) pF))
theorem Yk:Aj.map told=some (Q7,[]):=by kernel_rfl
theorem aqn:tree (ae Aj)=Q7:=ba Yk
def tK:Option PC:=cF [4,5,6,7,8,11] [] Tryz.f16 16 [2,3,10]
def zU:Nat→PC:=br tK
def akN (b:Nat→PC):PC:=.block 0 [4,48,49] [] (.loop [4,48] [] (b 0))
def akO (b:Nat→PC):PC:=.block 2 [4,8,62,63] [] (.loop [4,8,62] [] (b 1))
def CP (b:Nat→PC):PT:=
 (.ite (ah ka O1)
 (.blockS ⟨[],[]⟩ 1 [4,6,7,50,51,52,53,54,55,56] []
 (.call ⟨[],[]⟩ [] 54 64 [(aC 8 o2),(aC 19 o3),ka]
 (.ite (aO pv (pi 0))
 (.ret pv)
 (.next ⟨[],[]⟩)))
 (.next ⟨[(48,(aG ka (pi 1)))],[]⟩))
 (.exit 0 ⟨[(49,(ah ka O1))],[]⟩))
def CQ (b:Nat→PC):PT:=
 (.ite (ah mz HX)
 (.blockS ⟨[],[]⟩ 3 [4,8,10,64,65,66,67,68,69,70,71,72,73,74,75,76,77,78,79,80] [10]
 (.chk (ao vx mz)
 (.call ⟨[],[(10,(.setc z2 0 (pn vx mz)))]⟩ [] 73 65 [(pc (.setc z2 0 (pn vx mz)) 0),nD,(.llen (pc o3 15))]
 (.ite (.nt CG)
 (.ret (pi 1))
 (.call ⟨[],[]⟩ [] 77 65 [(pc bV 1),(pi 1),vp]
 (.ite (.nt O5)
 (.ret (pi 3))
 (.next ⟨[(8,(pc bV 0))],[]⟩))))))
 (.next ⟨[(62,(aG mz (pi 1)))],[]⟩))
 (.exit 2 ⟨[(63,(ah mz HX))],[]⟩))
def QV (b:Nat→PC):PT:=
 (.ite (.pick (.pick (.pick (bj (.llen (pc (.mk [r1]) 15)) (pi 40)) pT (bj (.llen (pc (.mk [r1]) 16)) (pi 4))) pT (bj (.llen (pc (.mk [r1]) 17)) (pi 100))) pT (bj (.llen (pc (.mk [r1]) 18)) (pi 200)))
 (.ret (pi 6))
 (.call ⟨[(4,(pi 0))],[(3,(.mk [r1])),(2,(.mk [r0]))]⟩ [] 37 63 [kI,(aC 15 (.mk [r1]))]
 (.ite (aO my (pi 0))
 (.ret my)
 (.ite (peq (.llen (pc o3 15)) (pi 0))
 (.ret (pi 14))
 (.brk ⟨[(48,(pi 0)),(47,(.llen (pc o3 15)))],[]⟩
(akN b)
 (.brk ⟨[(62,(pi 0)),(61,(.llen (pc o3 16))),(60,(pc o3 16)),(8,(pi 0))],[]⟩
(akO b)
 (.call ⟨[],[]⟩ [] 84 66 [(aC 8 o2),(aC 19 o3)]
 (.ite (aO H3 (pi 0))
 (.ret H3)
 (.call ⟨[],[]⟩ [] 89 67 [(aC 19 o3)]
 (.ret r89))))))))))
def afK (b:Nat→PC):PT×List (Shp×PT):=(QV b,[(.lp 0 [4,48,49] [] [4,48] [],CP b),(.lp 2 [4,8,62,63] [] [4,8,62] [],CQ b)])
theorem Ho:tK.map told=some (afK (bk tK)):=by kernel_rfl
theorem aqb:tree (ae tK)=QV zU:=bN Ho
theorem Pg:round 0 [4,48,49] [] [4,48] [] (zU 0)=CP zU:=be Ho 0 fun _=>rfl
theorem Ph:round 2 [4,8,62,63] [] [4,8,62] [] (zU 1)=CQ zU:=be Ho 1 fun _=>rfl
def An:Option PC:=cF [4,5,6,7,8,54,80,109,118,9,10] [] Tryz.f63 63 [2,3]
def R7:PT:=
 (.call ⟨[],[(3,(.mk [r1])),(2,(.mk [r0]))]⟩ [] 12 14 [kI]
 (.ite (aO bS (pi 0))
 (.ret bS)
 (.call ⟨[(7,(.llen (pc o2 1))),(6,(.llen (pc o2 3)))],[]⟩ [] 25 104 [(pc o3 0),(.llen (pc o2 3))]
 (.call ⟨[(26,jI)],[]⟩ [(26,true)] 30 104 [(pc o3 1),r6]
 (.call ⟨[(36,(peq (pc o3 2) (pi (-1)))),(32,(.pick gT qW pF))],[]⟩ [(36,false),(32,true)] 40 104 [(pc o3 2),r6]
 (.call ⟨[(47,(peq (pc o3 11) (pi (-1)))),(43,(.pick OZ (.pick iK pT qY) pF))],[]⟩ [(47,false),(43,true)] 51 104 [(pc o3 11),r6]
 (.blockS ⟨[(8,(.pick sJ (.pick O1 pT lL) pF))],[]⟩ 0 [4,54,55,56,57,65,66,72,73,79,80,81,82,83,84,88,89,93,94,98,99,103,104,108,109,110,111,112,113,117,118,119,120,121,122,126,127,137,138,142] []
 (.call ⟨[(57,(.nt r8))],[]⟩ [(57,false)] 63 104 [(pc o3 4),(.llen (pc o2 0))]
 (.call ⟨[(66,(.pick y0 pT (.nt HY)))],[]⟩ [(66,false)] 70 104 [(pc o3 9),r7]
 (.call ⟨[(73,(.pick O2 pT (.nt O3)))],[]⟩ [(73,false)] 77 104 [(pc o3 10),r7]
 (.iteS ⟨[],[]⟩ (.pick CG pT (.nt O5)) [4,80,81,82,83,84,88,89,93,94,98,99,103,104,108,109,110,111,112,113,117,118,119,120,121,122,126,127,137,138,142] []
 (.ret (pi 1))
 (.iteS ⟨[],[]⟩ (.pick (.pick (.pick (.pick (.pick (ah (pc o3 3) (pi 1)) pT (bj (pc o3 3) vp)) pT (ah (pc o3 8) (pi 0))) pT (bj (pc o3 8) (pi 100000))) pT (ah (pc o3 12) (pi 0))) pT (bj (pc o3 12) (pi 1000))) [4,109,110,111,112,113,117,118,119,120,121,122,126,127,137,138,142] []
 (.ret (pi 3))
 (.iteS ⟨[],[]⟩ (.pick (ah (pc o3 14) (pi 1)) pT (bj (pc o3 14) (pi 4))) [4,118,119,120,121,122,126,127,137,138,142] []
 (.ret (pi 15))
 (.call ⟨[(138,(.pick (.pick (ah (pc o3 13) (pi 0)) pT (bj (pc o3 13) (pi 7))) pT (.pick (aO (.ai .and .i64 (pc o3 13) (pi 4)) (pi 0)) (peq (pc o3 2) (pi (-1))) pF)))],[]⟩ [(138,false)] 140 105 [(aC 15 o3)]
 (.ite (.pick (.r 138) pT (.nt (.r 140)))
 (.ret (pi 2))
 (.next ⟨[],[]⟩)))
 (.next ⟨[],[]⟩))
 (.next ⟨[],[]⟩))
 (.next ⟨[],[]⟩)))))
 (.iteS ⟨[],[]⟩ (peq (pc o3 5) (pi 4)) [4] []
 (.call ⟨[],[]⟩ [] 153 106 [(aC 8 o2),(pc o3 9),(pc o3 10)]
 (.ret (.tget (.r 153) 1)))
 (.next ⟨[],[]⟩)
 (.ret (pi 0))))))))))
theorem YU:An.map told=some (R7,[]):=by kernel_rfl
theorem arq:tree (ae An)=R7:=ba YU
def Ft:Option PC:=cF [4] [] Tryz.f104 104 []
def R8:PT:=
 (.ret OU)
theorem YV:Ft.map told=some (R8,[]):=by kernel_rfl
theorem ars:tree (ae Ft)=R8:=ba YV
def Fu:Option PC:=cF [2,8,19,40] [] Tryz.f105 105 [1,3]
def R9:PT:=
 (.ite (.pick (peq (pc jH 0) (pi 0)) (peq (pc jH 0) (pi 0)) (peq (pc jH 0) (pi 4)))
 (.ret (.pick (peq (pc jH 1) (pi 0)) (peq (pc jH 2) (pi 0)) pF))
 (.ite (.pick (peq (pc jH 0) (pi 1)) (peq (pc jH 0) (pi 1)) (peq (pc jH 0) (pi 2)))
 (.ret (.pick (.pick (bZ (pc jH 1) (pi 1)) (bB (pc jH 1) (pi 400)) pF) (.pick (peq (pc jH 2) (pi 0)) pT (peq (pc jH 2) (pi 1))) pF))
 (.ite (peq (pc jH 0) (pi 3))
 (.ret (.pick (.pick (bZ (pc jH 1) (pc (.mk [r0]) 8)) (bB (pc jH 1) (pi 100000)) pF) (peq (pc jH 2) (pi 0)) pF))
 (.ret pF))))
theorem YW:Fu.map told=some (R9,[]):=by kernel_rfl
theorem art:tree (ae Fu)=R9:=ba YW
def wV:Option PC:=cF [6,7] [] Tryz.f106 106 [3,9]
def J6:Nat→PC:=br wV
def ak1 (b:Nat→PC):PC:=.block 0 [6,7,13,14] [] (.loop [6,7,13] [] (b 0))
def CW (b:Nat→PC):PT:=
 (.ite (ah cK bS)
 (.chk (ao bz cK)
 (.ite (.pick (peq (pc (.setc z3 0 (pn bz cK)) 0) r1) (peq (pc (.setc z3 0 (pn bz cK)) 1) r2) pF)
 (.ret (.tup [(pc (.setc z3 0 (pn bz cK)) 2),(pi 0)]))
 (.next ⟨[(13,(aG cK (pi 1)))],[]⟩)))
 (.exit 0 ⟨[(14,(ah cK bS))],[]⟩))
def Rk (b:Nat→PC):PT:=
 (.brk ⟨[(13,(pi 0)),(12,(.llen yW)),(11,yW),(7,(pi 0)),(6,(pi 0))],[]⟩
(ak1 b)
 (.ret (.tup [(pi 0),(pi 4)])))
def afW (b:Nat→PC):PT×List (Shp×PT):=(Rk b,[(.lp 0 [6,7,13,14] [] [6,7,13] [],CW b)])
theorem NR:wV.map told=some (afW (bk wV)):=by kernel_rfl
theorem aqz:tree (ae wV)=Rk J6:=bN NR
theorem Pn:round 0 [6,7,13,14] [] [6,7,13] [] (J6 0)=CW J6:=be NR 0 fun _=>rfl
def wP:Option PC:=cF [6,8,9,76,92,98] [] Tryz.f64 64 [3,4,7,11]
def J0:Nat→PC:=br wP
def akS (b:Nat→PC):PC:=.block 0 [8,9,51,52] [] (.loop [8,9,51] [] (b 0))
def Ip (b:Nat→PC):PT:=
 (.ite (ah lL kc)
 (.chk (ao pq lL)
 (.next ⟨[(8,(pc (.setc z9 0 (pn pq lL)) 6)),(9,(.pick r9 pT (.pick (.pick (peq (pc o7 0) (pi 1)) (peq (pc (.setc z9 0 (pn pq lL)) 0) (pi 1)) pF) (peq (pc (.setc z9 0 (pn pq lL)) 1) (pc o7 1)) pF))),(51,(aG lL (pi 1)))],[]⟩))
 (.exit 0 ⟨[(52,(ah lL kc))],[]⟩))
def Q5 (b:Nat→PC):PT:=
 (.chk (ao (pc (.mk [r1]) 15) r2)
 (.call ⟨[],[(7,mm),(4,(.mk [r1])),(3,(.mk [r0]))]⟩ [] 23 65 [(pc mm 1),(pi 0),(bH (pc (.mk [r1]) 14) (pi 1))]
 (.ite (.nt dE)
 (.ret (pi 15))
 (.call ⟨[],[]⟩ [] 31 65 [(pc o7 2),(pi 0),HW]
 (.call ⟨[(33,(.nt jJ))],[]⟩ [(33,false)] 40 65 [(pc o7 7),(pi 0),(bH (.llen (pc o3 1)) (pi 1))]
 (.ite (.pick pj pT (.nt qY))
 (.ret (pi 1))
 (.chk (.slok (pc o4 15) (pi 0) r2)
 (.brk ⟨[(51,(pi 0)),(50,(.llen (.slc (pc o4 15) (pi 0) r2))),(49,(.slc (pc o4 15) (pi 0) r2)),(9,pF),(8,(pc o4 8))],[]⟩
(akS b)
 (.blockS ⟨[],[]⟩ 2 [6,76,77,78,79,80,81,82,91,92,93,94,95,96,97,98,99] []
 (.call ⟨[],[]⟩ [] 80 65 [(pc o7 6),r8,(pi 100000)]
 (.iteS ⟨[],[]⟩ (.pick (.nt q5) pT (.pick (peq r2 (pi 0)) (aO (pc o7 6) r8) pF)) [6,92,93,94,95,96,97,98,99] []
 (.ret (pi 13))
 (.call ⟨[],[]⟩ [] 96 107 [(aC 8 o3),(aC 19 o4),r2]
 (.ite (.nt r96)
 (.ret (pi 14))
 (.ite r9
 (.ret (pi 5))
 (.next ⟨[],[]⟩))))
 (.next ⟨[],[]⟩)))
 (.ret (pi 0)))))))))))
def afO (b:Nat→PC):PT×List (Shp×PT):=(Q5 b,[(.lp 0 [8,9,51,52] [] [8,9,51] [],Ip b)])
theorem NL:wP.map told=some (afO (bk wP)):=by kernel_rfl
theorem aqj:tree (ae wP)=Q5 J0:=bN NL
theorem aaj:round 0 [8,9,51,52] [] [8,9,51] [] (J0 0)=Ip J0:=be NL 0 fun _=>rfl
def ET:Option PC:=cF [6] [] Tryz.f65 65 []
def Q4:PT:=
 (.ret (.pick (bZ r0 r1) (bB r0 r2) pF))
theorem Yh:ET.map told=some (Q4,[]):=by kernel_rfl
theorem aqi:tree (ae ET)=Q4:=ba Yh
def ES:Option PC:=cF [6,9,10,66,103,113,11,140,149] [] Tryz.f107 107 [3,4,7,8]
def Q3:PT:=
 (.chk (ao (pc (.mk [r1]) 15) r2)
 (.ite (.pick (.cb .neq (peq r2 (pi 0)) (peq (pc mm 0) (pi 0))) pT (.pick (aO (pc mm 0) (pi 2)) (aO (pc mm 4) (pi (-1))) pF))
 (.ret pF)
 (.ite (.pick (.pick (aO (pc mm 0) (pi 3)) (aO (pc mm 0) (pi 4)) pF) (aO (pc mm 3) (pi (-1))) pF)
 (.ret pF)
 (.call ⟨[(9,(.pick (peq (pc mm 5) (pi 0)) (peq (pc mm 8) (pi 0)) pF))],[(8,(.setc Jn 0 (aC 15 (.mk [r1])))),(7,mm),(4,(.mk [r1])),(3,(.mk [r0]))]⟩ [] 58 65 [(pc mm 5),(pi 1),vp]
 (.blockS ⟨[(65,(pc o7 0)),(10,(.pick ZY (peq (pc o7 8) (pi 0)) pF))],[]⟩ 0 [6,66,67,103,104,113,114,140,141,149,150] []
 (.iteS ⟨[],[]⟩ (peq vy (pi 0)) [6,103,104,113,114,140,141,149,150] []
 (.ret (.pick (.pick (.pick (.pick (.pick (peq (pc o7 2) (pc o8 0)) (peq (pc o7 5) (pi 0)) pF) (peq (.ai .or .i64 (pc o7 8) (pi 1)) (pi 1)) pF) (peq (pc o7 1) (pi 0)) pF) (peq (pc o7 6) (pc o8 8)) pF) (peq (pc o7 7) (pc o8 9)) pF))
 (.iteS ⟨[],[]⟩ (peq vy (pi 1)) [6,113,114,140,141,149,150] []
 (.ret (.pick (peq (pc o7 2) (pc o8 1)) bC pF))
 (.iteS ⟨[],[]⟩ (peq vy (pi 2)) [6,140,141,149,150] []
 (.call ⟨[(11,(pi 6))],[]⟩ [] 121 65 [(pc o7 4),(pi (-1)),HW]
 (.call ⟨[(127,(.pick anD (peq (pc o7 5) (pi 0)) pF))],[]⟩ [(127,true)] 130 65 [(pc o7 8),(pi 0),(pi 7)]
 (.ret (.pick (.pick ZQ (.r 130) pF) (aO (.ai .and .i64 (pc o7 8) bz) bz) pF))))
 (.iteS ⟨[],[]⟩ (peq vy (pi 3)) [6,149,150] []
 (.call ⟨[(143,r9)],[]⟩ [(143,true)] 147 162 [(aC 19 o4),r2,(.lst [(pi 0),(pi 1),(pi 2),(pi 4)])]
 (.ret (.pick (.r 143) (.r 147) pF)))
 (.iteS ⟨[],[]⟩ (peq vy (pi 4)) [6] []
 (.call ⟨[(159,(.pick bC (aO (pc o7 2) (pc o8 1)) pF))],[]⟩ [(159,true)] 163 162 [(aC 19 o4),r2,(.lst [(pi 0),(pi 2)])]
 (.ret (.pick (.r 159) (.r 163) pF)))
 (.next ⟨[],[]⟩)
 (.next ⟨[],[]⟩))
 (.next ⟨[],[]⟩))
 (.next ⟨[],[]⟩))
 (.next ⟨[],[]⟩))
 (.next ⟨[],[]⟩))
 (.ret pF))))))
theorem Yg:ES.map told=some (Q3,[]):=by kernel_rfl
theorem aqh:tree (ae ES)=Q3:=ba Yg
def ER:Option PC:=cF [6,7] [] Tryz.f162 162 [3]
def QZ:PT:=
 (.chk (ao mq r1)
 (.call ⟨[(7,(pc (pn mq r1) 3))],[(3,(.mk [r0]))]⟩ [] 17 65 [(pc (pn mq r1) 3),(pi 0),(bH r1 (pi 1))]
 (.chk (.nt (.an (.an dk pT) (.nt (ao (pc o3 15) r1))))
 (.call ⟨[(18,dk)],[]⟩ [(18,true)] 27 163 [(aC 19 o3),r7,(pc (pn (pc o3 15) r1) 1)]
 (.chk (.nt (.an (.an (.pick dD da pF) pT) (.nt (ao (pc o3 15) r7))))
 (.call ⟨[(29,(.pick dD da pF))],[]⟩ [(29,true)] 37 185 [r2,(pc (pn (pc o3 15) r7) 0)]
 (.ret (.pick mw my pF))))))))
theorem Yf:ER.map told=some (QZ,[]):=by kernel_rfl
theorem aqf:tree (ae ER)=QZ:=ba Yf
def EU:Option PC:=cF [6] [] Tryz.f163 163 [3]
def Jc:PT:=
 (.chk (.nt (.an (.an (.nt (peq r1 (pi 0))) pT) (.nt (ao mq r1))))
 (.ret (.pick (peq r1 (pi 0)) pT (peq (pc (pn mq r1) 1) r2))))
theorem Yi:EU.map told=some (Jc,[]):=by kernel_rfl
theorem aqk:tree (ae EU)=Jc:=ba Yi
def E9:Option PC:=cF [4] [] Tryz.f185 185 []
def RF:PT:=
 (.call ⟨[],[]⟩ [] 7 221 [r0,r1]
 (.ret (bZ r7 (pi 0))))
theorem Yz:E9.map told=some (RF,[]):=by kernel_rfl
theorem aqU:tree (ae E9)=RF:=ba Yz
def xk:Option PC:=cF [4,5] [] Tryz.f221 221 []
def Kf:Nat→PC:=br xk
def als (b:Nat→PC):PC:=.block 0 [4,8,9] [] (.loop [4,8] [] (b 0))
def Df (b:Nat→PC):PT:=
 (.ite (ah r8 r7)
 (.chk (ao r0 r8)
 (.ite (peq r1 (pn r0 r8))
 (.ret r8)
 (.next ⟨[(8,nD)],[]⟩)))
 (.exit 0 ⟨[(9,(ah r8 r7))],[]⟩))
def RK (b:Nat→PC):PT:=
 (.brk ⟨[(8,(pi 0)),(7,(.llen r0)),(4,(pi 0))],[]⟩
(als b)
 (.ret (pi (-1))))
def agd (b:Nat→PC):PT×List (Shp×PT):=(RK b,[(.lp 0 [4,8,9] [] [4,8] [],Df b)])
theorem N0:xk.map told=some (agd (bk xk)):=by kernel_rfl
theorem aqZ:tree (ae xk)=RK Kf:=bN N0
theorem PJ:round 0 [4,8,9] [] [4,8] [] (Kf 0)=Df Kf:=be N0 0 fun _=>rfl
def wN:Option PC:=cF [4,5,7] [] Tryz.f66 66 [2,3,6]
def JY:Nat→PC:=br wN
def akQ (b:Nat→PC):PC:=.block 0 [4,11,12] [] (.loop [4,11] [] (b 0))
def Il (b:Nat→PC):PT:=
 (.ite sH
 (.blockS ⟨[],[]⟩ 1 [4,5,6,7,13,14,15,16,17,18,19,20,21,22,23,24,25,26,27,28,29,30,31,32,37,38,39,40,41,42,43,44,45,46,47,48,58,59,69,70,71,72,73] [6]
 (.chk (ao r9 bz)
 (.call ⟨[(5,bz)],[(6,(.setc z9 0 (pn r9 bz)))]⟩ [] 22 65 [(pc (.setc z9 0 (pn r9 bz)) 3),(pi 0),(bH (pc o3 14) (pi 1))]
 (.ite (.nt qV)
 (.ret (pi 15))
 (.call ⟨[],[]⟩ [] 30 65 [(pc o6 7),(pi 0),(bH (.llen (pc o2 1)) (pi 1))]
 (.call ⟨[(32,(.nt qW))],[]⟩ [(32,false)] 35 65 [(pc o6 0),(pi 0),(pi 9)]
 (.ite (.pick OZ pT (.nt vu))
 (.ret (pi 1))
 (.call ⟨[],[]⟩ [] 41 108 [(aC 8 o2),(aC 19 o3),(aC 9 o6)]
 (.ite (.nt pk)
 (.ret (pi 14))
 (.ite (aO (pc o6 4) (pi (-1)))
 (.chk (ao (pc o3 15) (pc o6 4))
 (.ite (bj r5 (pi 0))
 (.chk (ao (pc o3 17) (bH r5 (pi 1)))
 (.call ⟨[],[]⟩ [] 72 65 [(pc o6 6),(.mx (.mx (pc o3 8) (pc (pn (pc o3 15) (pc o6 4)) 6)) (pc (pn (pc o3 17) (bH r5 (pi 1))) 6)),(pi 100000)]
 (.ite (.nt H0)
 (.ret (pi 13))
 (.next ⟨[],[]⟩))))
 (.call ⟨[],[]⟩ [] 72 65 [(pc o6 6),(.mx (pc o3 8) (pc (pn (pc o3 15) (pc o6 4)) 6)),(pi 100000)]
 (.ite (.nt H0)
 (.ret (pi 13))
 (.next ⟨[],[]⟩)))))
 (.ite (bj r5 (pi 0))
 (.chk (ao (pc o3 17) (bH r5 (pi 1)))
 (.call ⟨[],[]⟩ [] 72 65 [(pc o6 6),(.mx (pc o3 8) (pc (pn (pc o3 17) (bH r5 (pi 1))) 6)),(pi 100000)]
 (.ite (.nt H0)
 (.ret (pi 13))
 (.next ⟨[],[]⟩))))
 (.call ⟨[],[]⟩ [] 72 65 [(pc o6 6),(pc o3 8),(pi 100000)]
 (.ite (.nt H0)
 (.ret (pi 13))
 (.next ⟨[],[]⟩)))))))))))))
 (.next ⟨[(11,yY)],[]⟩))
 (.exit 0 ⟨[(12,sH)],[]⟩))
def QY (b:Nat→PC):PT:=
 (.brk ⟨[(11,(pi 0)),(10,(.llen (pc (.mk [r1]) 17))),(9,(pc (.mk [r1]) 17)),(4,(pi 0))],[(3,(.mk [r1])),(2,(.mk [r0]))]⟩
(akQ b)
 (.ret (pi 0)))
def afM (b:Nat→PC):PT×List (Shp×PT):=(QY b,[(.lp 0 [4,11,12] [] [4,11] [],Il b)])
theorem NJ:wN.map told=some (afM (bk wN)):=by kernel_rfl
theorem aqe:tree (ae wN)=QY JY:=bN NJ
theorem aah:round 0 [4,11,12] [] [4,11] [] (JY 0)=Il JY:=be NJ 0 fun _=>rfl
def EP:Option PC:=cF [6,7,8,9,65,80,100,111] [] Tryz.f108 108 [3,4,5]
def QX:PT:=
 (.call ⟨[],[(5,(.mk [r2])),(4,(.mk [r1])),(3,(.mk [r0]))]⟩ [] 16 65 [(pc (.mk [r2]) 4),(pi 0),(bH (.llen (pc (.mk [r1]) 15)) (pi 1))]
 (.call ⟨[(17,bx)],[]⟩ [(17,true)] 23 163 [(aC 19 o4),(pc o5 4),(pc o5 3)]
 (.chk (.nt (.an (.an (.pick dk dE pF) pT) (.nt (ao (pc o4 15) (pc o5 4)))))
 (.call ⟨[(8,(.pick (.pick dk dE pF) (peq (pc (pn (pc o4 15) (pc o5 4)) 2) (pc o5 1)) pF)),(7,(.pick dk dE pF))],[]⟩ [] 44 65 [(pc o5 2),(pi 0),HW]
 (.call ⟨[(9,vw)],[]⟩ [] 51 65 [(pc o5 1),(pi 0),HW]
 (.ite (.pick (.nt lL) pT (.pick (aO (pc o5 0) (pi 4)) (aO (pc o5 8) (pi 0)) pF))
 (.ret pF)
 (.blockS ⟨[(64,(pc o5 0))],[]⟩ 0 [6,65,66,80,81,100,101,111,112] []
 (.iteS ⟨[],[]⟩ (.pick (peq jK (pi 0)) (peq jK (pi 0)) (.pick (peq jK (pi 1)) (peq jK (pi 1)) (peq jK (pi 2)))) [6,80,81,100,101,111,112] []
 (.ret (.pick (.pick r9 (peq (pc o5 4) (pi (-1))) pF) (peq (pc o5 5) (pi 0)) pF))
 (.iteS ⟨[],[]⟩ (.pick (peq jK (pi 3)) (peq jK (pi 3)) (.pick (peq jK (pi 5)) (peq jK (pi 5)) (peq jK (pi 4)))) [6,100,101,111,112] []
 (.call ⟨[(90,(.pick r9 (peq (pc o5 4) (pi (-1))) pF))],[]⟩ [(90,true)] 93 65 [(pc o5 5),(pi 0),vp]
 (.call ⟨[(95,(.pick Z1 O6 pF))],[]⟩ [(95,true)] 98 65 [(pc o5 8),(pi 0),(pi 1)]
 (.ret (.pick r95 r98 pF))))
 (.iteS ⟨[],[]⟩ (peq jK (pi 6)) [6,111,112] []
 (.call ⟨[(106,(.pick r9 r8 pF))],[]⟩ [(106,true)] 109 65 [(pc o5 5),(pi 1),vp]
 (.ret (.pick OW anB pF)))
 (.ite (peq jK (pi 9))
 (.ret (.pick (.pick (peq (pc o5 2) (pi (-1))) r8 pF) (peq (pc o5 5) (pi 0)) pF))
 (.next ⟨[],[]⟩))
 (.next ⟨[],[]⟩))
 (.next ⟨[],[]⟩))
 (.next ⟨[],[]⟩))
 (.ret (.pick (.pick (peq (pc o5 2) (pi (-1))) r7 pF) (peq (pc o5 5) (pi 0)) pF)))))))))
theorem Ye:EP.map told=some (QX,[]):=by kernel_rfl
theorem aqd:tree (ae EP)=QX:=ba Ye
def wO:Option PC:=cF [2,3] [] Tryz.f67 67 [1,4,5,52]
def JZ:Nat→PC:=br wO
def akR (b:Nat→PC):PC:=.block 0 [2,9,10] [] (.loop [2,9] [] (b 0))
def Io (b:Nat→PC):PT:=
 (.ite (ah r9 r8)
 (.blockS ⟨[],[]⟩ 1 [2,3,4,11,12,13,14,15,16,17,18,27,28,33,34,35] [4]
 (.chk (ao r7 r9)
 (.call ⟨[(3,r9)],[(4,(.setc z3 0 (pn r7 r9)))]⟩ [] 16 65 [(pc (.setc z3 0 (pn r7 r9)) 0),(pi 0),(pi 4)]
 (.call ⟨[(18,(.nt bx))],[]⟩ [(18,false)] 25 65 [(pc o4 1),(pi 0),(bH (.llen (pc o1 15)) (pi 1))]
 (.call ⟨[(28,(.pick dD pT (.nt jI)))],[]⟩ [(28,false)] 31 65 [(pc o4 2),(pi 0),(pi 1)]
 (.ite (.pick nH pT (.nt jJ))
 (.ret (pi 1))
 (.ite (peq r3 (pi 0))
 (.exit 1 ⟨[],[]⟩)
 (.chk (ao (pc o1 18) (bH r3 (pi 1)))
 (.call ⟨[],[(5,(.setc z3 0 (pn (pc o1 18) (bH r3 (pi 1)))))]⟩ [] 46 110 [(pc (.setc z3 0 (pn (pc o1 18) (bH r3 (pi 1)))) 1),(pc o4 1)]
 (.call ⟨[],[]⟩ [] 51 110 [(pc o5 0),(pc o4 0)]
 (.call ⟨[],[]⟩ [] 53 109 [(.lst [CE,lL])]
 (.ite (bZ ZX (pi 0))
 (.ret (pi 5))
 (.next ⟨[],[]⟩))))))))))))
 (.next ⟨[(9,(aG r9 (pi 1)))],[]⟩))
 (.exit 0 ⟨[(10,(ah r9 r8))],[]⟩))
def Q0 (b:Nat→PC):PT:=
 (.brk ⟨[(9,(pi 0)),(8,(.llen yV)),(7,yV),(2,(pi 0))],[(1,(.mk [r0]))]⟩
(akR b)
 (.ret (pi 0)))
def afN (b:Nat→PC):PT×List (Shp×PT):=(Q0 b,[(.lp 0 [2,9,10] [] [2,9] [],Io b)])
theorem NK:wO.map told=some (afN (bk wO)):=by kernel_rfl
theorem aqg:tree (ae wO)=Q0 JZ:=bN NK
theorem aai:round 0 [2,9,10] [] [2,9] [] (JZ 0)=Io JZ:=be NK 0 fun _=>rfl
def EG:Option PC:=cF [4,5,6] [] Tryz.f110 110 []
def QE:PT:=
 (.call ⟨[],[]⟩ [] 8 164 [r0]
 (.call ⟨[(5,r8)],[]⟩ [] 10 164 [r1]
 (.ite r5
 (.ite bC
 (.ret (pi 0))
 (.ret (pi (-1))))
 (.ite bC
 (.ret (pi 1))
 (.ite (ah r0 r1)
 (.ret (pi (-1)))
 (.ite (bj r0 r1)
 (.ret (pi 1))
 (.ret (pi 0))))))))
theorem X1:EG.map told=some (QE,[]):=by kernel_rfl
theorem apN:tree (ae EG)=QE:=ba X1
def EH:Option PC:=cF [2] [] Tryz.f164 164 []
def QG:PT:=
 (.ret (aO r0 r0))
theorem X2:EH.map told=some (QG,[]):=by kernel_rfl
theorem apP:tree (ae EH)=QG:=ba X2
def wF:Option PC:=cF [2,3,5] [] Tryz.f109 109 []
def JR:Nat→PC:=br wF
def ako (b:Nat→PC):PC:=.block 0 [2,8,9] [] (.loop [2,8] [] (b 0))
def CK (b:Nat→PC):PT:=
 (.ite (ah r8 r7)
 (.chk (ao r6 r8)
 (.ite (aO (pn r6 r8) r3)
 (.ret (pn r6 r8))
 (.next ⟨[(8,nD)],[]⟩)))
 (.exit 0 ⟨[(9,(ah r8 r7))],[]⟩))
def QF (b:Nat→PC):PT:=
 (.brk ⟨[(8,(pi 0)),(7,(.llen r0)),(6,r0),(3,(pi 0)),(2,(pi 0))],[]⟩
(ako b)
 (.ret r3))
def afx (b:Nat→PC):PT×List (Shp×PT):=(QF b,[(.lp 0 [2,8,9] [] [2,8] [],CK b)])
theorem ND:wF.map told=some (afx (bk wF)):=by kernel_rfl
theorem apO:tree (ae wF)=QF JR:=bN ND
theorem Pb:round 0 [2,8,9] [] [2,8] [] (JR 0)=CK JR:=be ND 0 fun _=>rfl
def wI:Option PC:=cF [8] [] Tryz.f17 17 [4,9,11,65547,69643,73739,77835,12,8204,14,69,82]
def zT:Nat→PC:=br wI
def aks (b:Nat→PC):PC:=.block 2 [31,32] [12,8204] (.loop [31] [12,8204] (b 0))
def akt (b:Nat→PC):PC:=.block 0 [9,17,18] [9] (.loop [9,17] [9] (b 1))
def H8 (b:Nat→PC):PT:=
 (.ite (ah jJ qW)
 (.chk (ao mw jJ)
 (.ite (.pick (.pick (.pick (peq (pc sI 3) (pi 1)) (.pick (peq (pc sI 1) (pi 1)) pT (pc sI 6)) pF) (bZ (pc sI 2) (pi 0)) pF) (ah (pc sI 2) (.llen (pc o4 3))) pF)
 (.chk (ao (pc o4 3) (pc sI 2))
 (.chk (bB (.llen (.app (.o 8204) (.lst [(pc (pn (pc o4 3) (pc sI 2)) 2)]))) cl)
 (.next ⟨[(31,(aG jJ (pi 1)))],[(12,(.setc Nx 1 pN)),(8204,(.app (.o 8204) (.lst [(pc (pn (pc o4 3) (pc sI 2)) 2)])))]⟩)))
 (.next ⟨[(31,(aG jJ (pi 1)))],[]⟩)))
 (.exit 2 ⟨[(32,(ah jJ qW))],[]⟩))
def H9 (b:Nat→PC):PT:=
 (.ite (ah dk bx)
 (.blockS ⟨[(18,(ah dk bx))],[]⟩ 1 [9,11,12,19,20,21,22,23,24,25,26,27,28,29,30,31,32,73,75,76,78,79,81,82,83] [11,65547,69643,73739,77835,8204,12,9,82]
 (.chk (ao bG dk)
 (.call ⟨[],[(8204,pL),(12,(.setc (.con (.agg [(.int 0),(.list [])])) 0 (.mk [(pc (.setc oZ 0 (pn bG dk)) 3),pL])))]⟩ [] 29 21 [(aC 8 o4),r1,(aC 19 (.setc oZ 0 (pn bG dk))),r3]
 (.brk ⟨[(31,(pi 0)),(30,(.llen mw))],[]⟩
(aks b)
 (.mcall ⟨[],[]⟩ 1000000013 68 [pN,(.o 8204)]
 (.call ⟨[],[]⟩ [] 78 69 [(.tget (.o 1000000013) 1)]
 (.chk (bB (.llen (.app o9 (.lst [(.mk [(pc (.setc Nx 1 pN) 0),H2])]))) cl)
 (.next ⟨[(9,pN)],[(9,(.app o9 (.lst [(.mk [(pc (.setc Nx 1 pN) 0),H2])])))]⟩)))))))
 (.next ⟨[(17,(aG dk (pi 1)))],[]⟩))
 (.exit 0 ⟨[(18,(ah dk bx))],[]⟩))
def QL (b:Nat→PC):PT:=
 (.brk ⟨[(17,(pi 0)),(16,(.llen r2)),(15,r2),(9,pN)],[(9,pL),(4,(.mk [r0]))]⟩
(akt b)
 (.ret o9))
def afB (b:Nat→PC):PT×List (Shp×PT):=(QL b,[(.lp 2 [31,32] [12,8204] [31] [12,8204],H8 b),(.lp 0 [9,17,18] [9] [9,17] [9],H9 b)])
theorem Hk:wI.map told=some (afB (bk wI)):=by kernel_rfl
theorem apW:tree (ae wI)=QL zT:=bN Hk
theorem Z5:round 2 [31,32] [12,8204] [31] [12,8204] (zT 0)=H8 zT:=be Hk 0 fun _=>rfl
theorem Z6:round 0 [9,17,18] [9] [9,17] [9] (zT 1)=H9 zT:=be Hk 1 fun _=>rfl
def wB:Option PC:=cF [8,11] [] Tryz.f21 21 [4,6,9,10,28]
def JM:Nat→PC:=br wB
def akk (b:Nat→PC):PC:=.block 0 [10,21,22] [10] (.loop [10,21] [10] (b 0))
def H6 (b:Nat→PC):PT:=
 (.ite (ah fi bQ)
 (.blockS ⟨[],[]⟩ 1 [10,11,23,25,26,27,28,29] [10,28]
 (.call ⟨[],[]⟩ [] 27 74 [(aC 31 o9),fi]
 (.chk (bB (.llen (.app bV (.lst [da]))) cl)
 (.next ⟨[(10,pN)],[(10,(.app bV (.lst [da])))]⟩)))
 (.next ⟨[(21,(aG fi (pi 1)))],[]⟩))
 (.exit 0 ⟨[(22,(ah fi bQ))],[]⟩))
def Qr (b:Nat→PC):PT:=
 (.call ⟨[],[]⟩ [] 16 73 [kI,r1,(aC 19 (.mk [r2])),r3]
 (.brk ⟨[(21,(pi 0)),(20,(.llen (pc (.setc OI 0 bx) 25))),(10,pN)],[(10,pL),(9,(.setc OI 0 bx))]⟩
(akk b)
 (.ret bV)))
def afs (b:Nat→PC):PT×List (Shp×PT):=(Qr b,[(.lp 0 [10,21,22] [10] [10,21] [10],H6 b)])
theorem Ny:wB.map told=some (afs (bk wB)):=by kernel_rfl
theorem apz:tree (ae wB)=Qr JM:=bN Ny
theorem Z3:round 0 [10,21,22] [10] [10,21] [10] (JM 0)=H6 JM:=be Ny 0 fun _=>rfl
def Ex:Option PC:=cF [] [] Tryz.f73 73 [4,6,8,9]
def Qt:PT:=
 (.call ⟨[],[(8,OI),(4,(.mk [r0]))]⟩ [] 12 29 [(aC 19 (.mk [r2])),r3]
 (.call ⟨[(16,(aC 19 (.setc oZ 0 bS))),(15,r3),(14,r1),(13,(aC 8 o4))],[(9,(.setc oZ 0 bS))]⟩ [] 21 81 [(aC 8 o4),r1,(pi 0),(aC 19 (.setc oZ 0 bS)),r3]
 (.call ⟨[],[]⟩ [] 22 35 [fi]
 (.call ⟨[],[]⟩ [] 27 31 [(aC 8 o4),r1,(aC 19 o9),r3]
 (.ret (aC 31 (.setc o8 0 (.mk [cK,bD,bG,bx,qV,da]))))))))
theorem XP:Ex.map told=some (Qt,[]):=by kernel_rfl
theorem apB:tree (ae Ex)=Qt:=ba XP
end Rm
