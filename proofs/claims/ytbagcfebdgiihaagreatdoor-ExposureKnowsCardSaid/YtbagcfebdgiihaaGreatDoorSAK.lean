/-
  The functions of this seat, compiled (1).
-/
import Derived.Test.YtbagcfebdgiihaaGreatDoorSAJ
import Derived.KernelRfl
set_option linter.unusedVariables false
set_option maxRecDepth 100000
noncomputable section
namespace Rm
open Go Go.Proofs Cx
def w8:Option PC:=cF [12,13,15,16,17,18,19,20] [] Tryz.f4 4 [6,8,14,77838,70]
def rT:Nat→PC:=br w8
def akJ (b:Nat→PC):PC:=.block 0 [15,50,51,52,53,54] [14,77838] (.loop [15] [14,77838] (b 0))
def akK (b:Nat→PC):PC:=.block 4 [19,20,102,103,104,105,106,107,108] [] (.loop [19,20] [] (b 1))
def Xf (b:Nat→PC):PC:=.block 2 [12,18,93,94,95,96,97,98,99] [] (.loop [12,18] [] (b 2))
def Iw (b:Nat→PC):PT:=
 (.ite (ah bF (.llen (pc o8 18)))
 (.chk (aP (pi 64) (pi 0))
 (.chk (cg (.ai .rem .i64 bF (pi 64)) (pi 0))
 (.ite (peq (.ai .and .u64 (.ai .shr .u64 r4 (.ai .rem .i64 bF (pi 64))) (.con (.v (.int .u64 1)))) (.con (.v (.int .u64 0))))
 (.chk (ao (pc o8 18) bF)
 (.chk (bB (.llen (.app (.o 77838) (.lst [(pn (pc o8 18) bF)]))) cn)
 (.next ⟨[(15,(aG bF (pi 1)))],[(14,(.setc ia 18 pN)),(77838,(.app (.o 77838) (.lst [(pn (pc o8 18) bF)])))]⟩)))
 (.next ⟨[(15,(aG bF (pi 1)))],[]⟩))))
 (.exit 0 ⟨[(50,bF),(51,pN),(52,(pc o8 18)),(53,(.llen (pc o8 18))),(54,(ah bF (.llen (pc o8 18))))],[]⟩))
def Ix (b:Nat→PC):PT:=
 (.chk (ao dt (pi 0))
 (.ite (ah bR (.llen vP))
 (.chk (.nt (.an (.an (.nt dR) pT) (.nt (ao bx (pi 0)))))
 (.chk (.nt (.an (.an (.nt dR) pT) (.nt (ao oe dI))))
 (.chk (.nt (.an (.an (.nt dR) pT) (.nt (ao dt (pi 0)))))
 (.chk (.nt (.an (.an (.nt dR) pT) (.nt (ao vP bR))))
 (.next ⟨[(19,(.pick dR pT (peq (pn oe dI) (pn vP bR)))),(20,(aG bR (pi 1)))],[]⟩)))))
 (.exit 4 ⟨[(102,bR),(103,dt),(104,(.ref (pn dt (pi 0)))),(105,(.ref vP)),(106,vP),(107,(.llen vP)),(108,(ah bR (.llen vP)))],[]⟩)))
def Iy (b:Nat→PC):PT:=
 (.chk (ao bx (pi 0))
 (.ite (ah dI (.llen oe))
 (.blockS ⟨[(99,(ah dI (.llen oe))),(98,(.llen oe)),(97,oe),(96,(.ref oe)),(95,(.ref (pn bx (pi 0)))),(94,bx),(93,dI)],[]⟩ 3 [12,19,20,102,103,104,105,106,107,108,129,130] []
 (.brk ⟨[(20,(pi 0)),(19,pF)],[]⟩
(akK b)
 (.ite (.nt dR)
 (.ret pF)
 (.next ⟨[],[]⟩)))
 (.next ⟨[(18,(aG dI (pi 1)))],[]⟩))
 (.exit 2 ⟨[(93,dI),(94,bx),(95,(.ref (pn bx (pi 0)))),(96,(.ref oe)),(97,oe),(98,(.llen oe)),(99,(ah dI (.llen oe)))],[]⟩)))
def QW (b:Nat→PC):PT:=
 (.call ⟨[(12,pF)],[(8,(.mk [r2])),(6,(.mk [r0]))]⟩ [] 21 12 []
 (.call ⟨[(13,fu)],[]⟩ [] 24 13 [(aD 8 o6),(aD 19 o8)]
 (.call ⟨[(26,(.nt jt))],[]⟩ [(26,false)] 28 14 [(aD 8 o6)]
 (.call ⟨[(31,(.pick ib pT (aP oq (pi 0))))],[]⟩ [(31,false)] 33 15 [(aD 19 o8)]
 (.call ⟨[(36,(.pick jW pT (.nt pU)))],[]⟩ [(36,false)] 39 16 [(aD 8 o6),(aD 19 o8)]
 (.ite (.pick (.pick iV pT (aP rB (pi 0))) pT (bh (.llen r5) (pi 25)))
 (.ret cK)
 (.brk ⟨[(15,(pi 0))],[(77838,pL),(14,(.setc (.setc pP 0 (aD 19 o8)) 18 pL))]⟩
(akJ b)
 (.call ⟨[],[]⟩ [] 78 17 [(aD 8 o6),r1,(.lst [(.mk [(pc ia 0),(pc ia 1),(pc ia 2),(pc ia 3),(pc ia 4),(pc ia 5),(pc ia 6),(pc ia 7),(pc ia 8),(pc ia 9),(pc ia 10),(pc ia 11),(pc ia 12),(pc ia 13),(pc ia 14),(pc ia 15),(pc ia 16),(pc ia 17),(.o 77838)])]),r3]
 (.call ⟨[(16,Ij)],[]⟩ [] 84 17 [(aD 8 o6),r1,(.lst [(aD 19 o8)]),r3]
 (.ite (.pick (aP (.llen bx) (pi 1)) pT (aP (.llen Ik) (pi 1)))
 (.ret pF)
 (.brk ⟨[(18,(pi 0)),(17,Ik)],[]⟩
(Xf b)
 (.call ⟨[(132,cK)],[]⟩ [(132,true)] 135 18 [dt,r5]
 (.call ⟨[],[]⟩ [(132,true)] 138 18 [bx,r5]
 (.ret (.pick (.r 132) (bB (.r 135) (.r 138)) pF)))))))))))))))
def afM (b:Nat→PC):PT×List (Shp×PT):=(QW b,[(.lp 0 [15,50,51,52,53,54] [14,77838] [15] [14,77838],Iw b),(.lp 4 [19,20,102,103,104,105,106,107,108] [] [19,20] [],Ix b),(.lp 2 [12,18,93,94,95,96,97,98,99] [] [12,18] [],Iy b)])
theorem CG:w8.map told=some (afM (bj w8)):=by kernel_rfl
theorem aqm:tree (ae w8)=QW rT:=bO CG
theorem aag:round 0 [15,50,51,52,53,54] [14,77838] [15] [14,77838] (rT 0)=Iw rT:=bn CG 0 fun _=>rfl
theorem aah:round 4 [19,20,102,103,104,105,106,107,108] [] [19,20] [] (rT 1)=Ix rT:=bn CG 1 fun _=>rfl
theorem aai:round 2 [12,18,93,94,95,96,97,98,99] [] [12,18] [] (rT 2)=Iy rT:=bn CG 2 fun _=>rfl
def xb:Option PC:=cF [0,1,2,3,4,5,6,7,8,9,10] [] Tryz.f12 12 []
def aqp:PT:=
 (.call ⟨[],[]⟩ [] 11 45 []
 (.call ⟨[(1,bz)],[]⟩ [] 14 46 [bz,(pi 3),(pi 1)]
 (.call ⟨[(4,(.tget bD 2)),(3,(.tget bD 1)),(2,(.tget bD 0))],[]⟩ [] 20 46 [r1,(pi 3),(pi 2)]
 (.call ⟨[(7,(.tget bR 2)),(6,(.tget bR 1)),(5,(.tget bR 0))],[]⟩ [] 26 46 [r1,(pi 3),(pi 3)]
 (.ite (.pick (.pick (.pick (.pick (.pick (aP r4 (pi 0)) pT (aP r7 (pi 0))) pT (aP (.tget ib 2) (pi 0))) pT (aP r2 (pi 300))) pT (aP r5 (pi 800))) pT (aP (.tget ib 0) (pi 1100)))
 (.ret pF)
 (.call ⟨[(9,(.tget ib 1))],[]⟩ [] 54 47 [r3,(.lst [(pi 1)])]
 (.call ⟨[(56,(.nt pY))],[]⟩ [(56,false)] 59 47 [r6,(.lst [(pi 0),(pi 1)])]
 (.call ⟨[(62,(.pick ou pT (.nt Z5)))],[]⟩ [(62,false)] 65 47 [r9,(.lst [(pi 0),(pi 1),(pi 2)])]
 (.call ⟨[(68,(.pick mW pT (.nt vX)))],[]⟩ [(68,false)] 70 20 [r1]
 (.ite (.pick Ih pT (.nt Pa))
 (.ret pF)
 (.call ⟨[],[]⟩ [] 75 18 [r1,(.lst [(pi 1)])]
 (.call ⟨[(77,(peq Pb (pi 300)))],[]⟩ [(77,true)] 80 18 [r1,(.lst [(pi 1),(pi 0)])]
 (.call ⟨[(83,(.pick Pc (peq rE (pi 800)) pF))],[]⟩ [(83,true)] 85 18 [r1,pL]
 (.call ⟨[(88,(.pick r83 (peq zo (pi 0)) pF))],[]⟩ [(88,true)] 90 48 [r1,(pi 3)]
 (.call ⟨[],[]⟩ [(88,true)] 92 47 [Z7,(.lst [(pi 0),(pi 300),(pi 100)])]
 (.call ⟨[(94,(.pick Il Io pF))],[]⟩ [(94,true)] 97 49 [r1,(.lst [(pi 0),(pi 300),(pi 50)])]
 (.call ⟨[],[]⟩ [(94,true)] 99 47 [r97,(.lst [(pi 2)])]
 (.ret (.pick Z8 Pe pF)))))))))))))))))))
theorem Yj:xb.map told=some (aqp,[]):=by kernel_rfl
def w9:Option PC:=cF [0] [] Tryz.f45 45 []
def aqo:PT:=
 (.ret (.lst [(.mk [(pi 500),(.lst [(pi 0),(pi 1)])]),(.mk [(pi 300),(.lst [(pi 1)])]),(.mk [(pi 200),(.lst [(pi 0),(pi 2)])]),(.mk [(pi 100),(.lst [(pi 2)])])]))
theorem Yi:w9.map told=some (aqo,[]):=by kernel_rfl
def uk:Option PC:=cF [6,7,8,9,10,12,13,14,15] [] Tryz.f46 46 [11]
def akB (b:Nat→PC):PC:=.block 2 [52,53] [11] (.loop [52] [11] (b 0))
def akC (b:Nat→PC):PC:=.block 6 [14,73,74,75,86] [] (.loop [14] [] (b 1))
def akD (b:Nat→PC):PC:=.block 8 [15,99,100,101] [11] (.loop [15] [11] (b 2))
def akE (b:Nat→PC):PC:=.block 4 [6,7,13,14,60,61,62,63,64,65,66,67,71,72,73,74,75,86,89,90] [11] (.loop [6,7] [11] (b 3))
def akF (b:Nat→PC):PC:=.block 0 [6,7,10,43,44,45] [] (.loop [6,7,10] [] (b 4))
def an3 (b:Nat→PC):PT:=
 (.ite (ah ot l8)
 (.chk (ao l7 ot)
 (.next ⟨[(52,(aG ot (pi 1)))],[(11,(.setn l7 ot 0 ot))]⟩))
 (.exit 2 ⟨[(53,(ah ot l8))],[]⟩))
def an4 (b:Nat→PC):PT:=
 (.chk (.nt (.an (.an (cg bD (pi 0)) pT) (.nt (ao l7 bD))))
 (.ite ZT
 (.next ⟨[(14,(bH bD (pi 1)))],[]⟩)
 (.exit 6 ⟨[(73,bD),(74,(cg bD (pi 0))),(75,(cg bD (pi 0))),(86,ZT)],[]⟩)))
def an5 (b:Nat→PC):PT:=
 (.ite (ah bF bC)
 (.chk (ao l7 (bH bF (pi 1)))
 (.chk (ao l7 bF)
 (.next ⟨[(15,(aG bF (pi 1)))],[(11,(.setn l7 bF 0 (aG (pn l7 (bH bF (pi 1))) (pi 1))))]⟩)))
 (.exit 8 ⟨[(99,bF),(100,bC),(101,(ah bF bC))],[]⟩))
def an6 (b:Nat→PC):PT:=
 (.blockS ⟨[],[]⟩ 5 [6,7,13,14,15,60,61,62,63,64,65,66,67,71,72,73,74,75,86,89,90,91,92,93,94,95,96,97,98,99,100,101] [11]
 (.call ⟨[(62,bz),(61,r9),(60,r0)],[]⟩ [] 63 72 [l7]
 (.call ⟨[],[]⟩ [] 64 70 [vW,If,Ig]
 (.iteS ⟨[(67,(bh jX r6)),(66,r6),(65,jX),(13,jX)],[]⟩ (bh jX r6) [6,7] []
 (.call ⟨[(68,cK)],[]⟩ [] 70 100 [l7]
 (.next ⟨[(7,Pa),(6,Ih)],[]⟩))
 (.next ⟨[],[]⟩)
 (.brk ⟨[(14,(bH bC (pi 1))),(72,(bH bC (pi 1))),(71,bC)],[]⟩
(akC b)
 (.ite (ah bD (pi 0))
 (.exit 4 ⟨[(90,(ah bD (pi 0))),(89,bD)],[]⟩)
 (.chk (ao l7 bD)
 (.brk ⟨[(15,vS),(90,(ah bD (pi 0))),(89,bD)],[(11,(.setn l7 bD 0 (aG (pn l7 bD) (pi 1))))]⟩
(akD b)
 (.next ⟨[],[]⟩))))))))
 (.next ⟨[],[]⟩))
def an7 (b:Nat→PC):PT:=
 (.ite (bB bC r2)
 (.blockS ⟨[(45,(bB bC r2)),(44,r2),(43,bC)],[]⟩ 1 [6,7,11,13,14,48,50,51,52,53,60,61,62,63,64,65,66,67,71,72,73,74,75,86,89,90] [11]
 (.chk (.an (cg bC (pi 0)) (bB bC cn))
 (.chk (peq bC bC)
 (.brk ⟨[(52,(pi 0)),(51,(.llen (.rep bC (pi 0)))),(11,pN)],[(11,(.rep bC (pi 0)))]⟩
(akB b)
 (.brk ⟨[],[]⟩
(akE b)
 (.next ⟨[],[]⟩)))))
 (.next ⟨[(10,(aG bC (pi 1)))],[]⟩))
 (.exit 0 ⟨[(43,bC),(44,r2),(45,(bB bC r2))],[]⟩))
def aqi (b:Nat→PC):PT:=
 (.call ⟨[(7,pL),(6,(pi 0))],[]⟩ [] 17 20 [r0]
 (.ite (.pick (.pick (.pick (.pick (.nt dt) pT (ah r1 (pi 0))) pT (bh r1 (pi 20))) pT (ah r2 (pi 0))) pT (bh r2 r1))
 (.ret (.tup [(pi 0),pL,(pi 1)]))
 (.ite (bh r2 (pi 6))
 (.ret (.tup [(pi 0),pL,(pi 6)]))
 (.call ⟨[],[]⟩ [] 39 71 [r0]
 (.call ⟨[(9,rB)],[]⟩ [] 42 70 [r0,rB,(.con (.v (.int .u32 0)))]
 (.brk ⟨[(10,(pi 1)),(6,O7)],[]⟩
(akF b)
 (.ret (.tup [r6,r7,(pi 0)]))))))))
def afI (b:Nat→PC):PT×List (Shp×PT):=(aqi b,[(.lp 2 [52,53] [11] [52] [11],an3 b),(.lp 6 [14,73,74,75,86] [] [14] [],an4 b),(.lp 8 [15,99,100,101] [11] [15] [11],an5 b),(.lp 4 [6,7,13,14,60,61,62,63,64,65,66,67,71,72,73,74,75,86,89,90] [11] [6,7] [11],an6 b),(.lp 0 [6,7,10,43,44,45] [] [6,7,10] [],an7 b)])
theorem Yh:uk.map told=some (afI (bj uk)):=by kernel_rfl
def qy:Option PC:=cF [2,5,6] [] Tryz.f20 20 [4,8196]
def ua:Nat→PC:=br qy
def Xd (b:Nat→PC):PC:=.block 2 [2,27,28] [] (.loop [2,27] [] (b 0))
def Xe (b:Nat→PC):PC:=.block 0 [2,12,13] [] (.loop [2,12] [] (b 1))
def v7 (b:Nat→PC):PT:=
 (.ite (ah de ib)
 (.chk (ao jV de)
 (.chk (.nt (.an (.an (bh de (pi 0)) (.an (.nt (.pick (ah rv (pi 0)) pT (cg rv (pi 20)))) pT)) (.nt (ao (pc o4 1) (bH de (pi 1))))))
 (.ite (.pick (.pick (ah rv (pi 0)) pT (cg rv (pi 20))) pT (.pick (bh de (pi 0)) (bB rv (pn (pc o4 1) (bH de (pi 1)))) pF))
 (.ret pF)
 (.next ⟨[(27,(aG de (pi 1)))],[]⟩))))
 (.exit 2 ⟨[(28,(ah de ib))],[]⟩))
def C5 (b:Nat→PC):PT:=
 (.ite oo
 (.blockS ⟨[(13,oo)],[]⟩ 1 [2,4,14,15,16,17,18,19,23,24,25,26,27,28] [4,8196]
 (.chk (ao bC bU)
 (.ite (.pick (ah (pc zd 0) (pi 0)) pT (bh (pc zd 0) vR))
 (.ret pF)
 (.brk ⟨[(27,(pi 0)),(26,(.llen (pc zd 1))),(25,(pc zd 1))],[(4,zd)]⟩
(Xd b)
 (.next ⟨[],[]⟩))))
 (.next ⟨[(12,zi)],[]⟩))
 (.exit 0 ⟨[(13,oo)],[]⟩))
def QS (b:Nat→PC):PT:=
 (.ite (bh (.llen r0) (pi 100))
 (.ret pF)
 (.brk ⟨[(12,(pi 0)),(11,(.llen r0)),(10,r0),(2,pF)],[]⟩
(Xe b)
 (.ret pT)))
def afH (b:Nat→PC):PT×List (Shp×PT):=(QS b,[(.lp 2 [2,27,28] [] [2,27] [],v7 b),(.lp 0 [2,12,13] [] [2,12] [],C5 b)])
theorem CF:qy.map told=some (afH (bj qy)):=by kernel_rfl
theorem aqh:tree (ae qy)=QS ua:=bO CF
theorem C4:round 2 [2,27,28] [] [2,27] [] (ua 0)=v7 ua:=bn CF 0 fun _=>rfl
theorem Pm:round 0 [2,12,13] [] [2,12] [] (ua 1)=C5 ua:=bn CF 1 fun _=>rfl
def qB:Option PC:=cF [2] [] Tryz.f71 71 [3,5,8197,16]
def J9:Nat→PC:=br qB
def akI (b:Nat→PC):PC:=.block 0 [3,8,9] [3] (.loop [3,8] [3] (b 0))
def Iv (b:Nat→PC):PT:=
 (.ite (ah r8 r7)
 (.blockS ⟨[],[]⟩ 1 [3,5,10,11,13,14,15,16,17] [5,8197,3,16]
 (.chk (ao r6 r8)
 (.call ⟨[],[]⟩ [] 15 72 [(pc (.setc (.con (.agg [(.int 0),(.list [])])) 0 (pn r6 r8)) 1)]
 (.chk (bB (.llen (.app o3 (.lst [bF]))) cn)
 (.next ⟨[(3,pN)],[(3,(.app o3 (.lst [bF])))]⟩))))
 (.next ⟨[(8,og)],[]⟩))
 (.exit 0 ⟨[(9,(ah r8 r7))],[]⟩))
def QV (b:Nat→PC):PT:=
 (.brk ⟨[(8,(pi 0)),(7,(.llen r0)),(6,r0),(3,pN)],[(3,pL)]⟩
(akI b)
 (.ret o3))
def afL (b:Nat→PC):PT×List (Shp×PT):=(QV b,[(.lp 0 [3,8,9] [3] [3,8] [3],Iv b)])
theorem HD:qB.map told=some (afL (bj qB)):=by kernel_rfl
theorem aql:tree (ae qB)=QV J9:=bO HD
theorem aaf:round 0 [3,8,9] [3] [3,8] [3] (J9 0)=Iv J9:=bn HD 0 fun _=>rfl
def qA:Option PC:=cF [2,3,5] [] Tryz.f72 72 []
def J8:Nat→PC:=br qA
def akH (b:Nat→PC):PC:=.block 0 [3,8,9] [] (.loop [3,8] [] (b 0))
def Iu (b:Nat→PC):PT:=
 (.ite (ah r8 r7)
 (.chk (ao r6 r8)
 (.ite (.pick (cg (pn r6 r8) (pi 0)) (ah (pn r6 r8) (pi 20)) pF)
 (.chk (cg (pn r6 r8) (pi 0))
 (.next ⟨[(3,(.ai .or .u32 r3 (.ai .shl .u32 (.con (.v (.int .u32 1))) (pn r6 r8)))),(8,og)],[]⟩))
 (.next ⟨[(8,og)],[]⟩)))
 (.exit 0 ⟨[(9,(ah r8 r7))],[]⟩))
def QU (b:Nat→PC):PT:=
 (.brk ⟨[(8,(pi 0)),(7,(.llen r0)),(6,r0),(3,(.con (.v (.int .u32 0))))],[]⟩
(akH b)
 (.ret r3))
def afK (b:Nat→PC):PT×List (Shp×PT):=(QU b,[(.lp 0 [3,8,9] [] [3,8] [],Iu b)])
theorem HC:qA.map told=some (afK (bj qA)):=by kernel_rfl
theorem aqk:tree (ae qA)=QU J8:=bO HC
theorem aae:round 0 [3,8,9] [] [3,8] [] (J8 0)=Iu J8:=bn HC 0 fun _=>rfl
def qz:Option PC:=cF [6,7,8] [] Tryz.f70 70 [9,8201]
def J7:Nat→PC:=br qz
def akG (b:Nat→PC):PC:=.block 0 [7,12,13] [] (.loop [7,12] [] (b 0))
def It (b:Nat→PC):PT:=
 (.ite oo
 (.chk (ao bC bU)
 (.chk (ao r1 bU)
 (.next ⟨[(7,(.pick (peq (.ai .andNot .u32 (pn r1 bU) r2) (.con (.v (.int .u32 0)))) (aG r7 (pc zd 0)) r7)),(12,zi)],[]⟩)))
 (.exit 0 ⟨[(13,oo)],[]⟩))
def QT (b:Nat→PC):PT:=
 (.brk ⟨[(12,(pi 0)),(11,(.llen r0)),(10,r0),(7,(pi 0))],[]⟩
(akG b)
 (.ret r7))
def afJ (b:Nat→PC):PT×List (Shp×PT):=(QT b,[(.lp 0 [7,12,13] [] [7,12] [],It b)])
theorem HB:qz.map told=some (afJ (bj qz)):=by kernel_rfl
theorem aqj:tree (ae qz)=QT J7:=bO HB
theorem aad:round 0 [7,12,13] [] [7,12] [] (J7 0)=It J7:=bn HB 0 fun _=>rfl
def uo:Option PC:=cF [4,5] [] Tryz.f47 47 []
def akY (b:Nat→PC):PC:=.block 0 [4,5,11,12,13,14] [] (.loop [4,5] [] (b 0))
def aog (b:Nat→PC):PT:=
 (.ite (ah r5 (.llen r0))
 (.chk (ao r0 r5)
 (.chk (ao r1 r5)
 (.ite (aP (pn r0 r5) (pn r1 r5))
 (.ret pF)
 (.next ⟨[(5,(aG r5 (pi 1)))],[]⟩))))
 (.exit 0 ⟨[(11,r5),(12,r0),(13,(.llen r0)),(14,(ah r5 (.llen r0)))],[]⟩))
def aqE (b:Nat→PC):PT:=
 (.ite (aP (.llen r0) (.llen r1))
 (.ret pF)
 (.brk ⟨[(5,(pi 0)),(4,pF)],[]⟩
(akY b)
 (.ret pT)))
def afT (b:Nat→PC):PT×List (Shp×PT):=(aqE b,[(.lp 0 [4,5,11,12,13,14] [] [4,5] [],aog b)])
theorem Yt:uo.map told=some (afT (bj uo)):=by kernel_rfl
def ui:Option PC:=cF [4] [] Tryz.f18 18 []
def QQ:PT:=
 (.call ⟨[],[]⟩ [] 6 20 [r0]
 (.ite (.nt r6)
 (.ret (pi 0))
 (.call ⟨[(8,r0)],[]⟩ [] 10 71 [r0]
 (.call ⟨[],[]⟩ [] 12 72 [r1]
 (.call ⟨[],[]⟩ [] 13 70 [r8,bC,bU]
 (.ret cK))))))
theorem NP:ui.map told=some (QQ,[]):=by kernel_rfl
theorem aqe:tree (ae ui)=QQ:=ba NP
def uh:Option PC:=cF [4,6,7] [] Tryz.f48 48 [5]
def akx (b:Nat→PC):PC:=.block 0 [24,25] [5] (.loop [24] [5] (b 0))
def an1 (b:Nat→PC):PT:=
 (.ite (ah jt dJ)
 (.blockS ⟨[],[]⟩ 1 [7,26,27,28,29,30,31,32,33,34] [5]
 (.chk (cg jt (pi 0))
 (.call ⟨[(28,jt)],[]⟩ [] 33 70 [r0,r6,(.ai .shl .u32 (.con (.v (.int .u32 1))) jt)]
 (.chk (ao o5 oq)
 (.next ⟨[],[(5,(.setn o5 oq 0 pU))]⟩))))
 (.next ⟨[(24,(aG jt (pi 1)))],[]⟩))
 (.exit 0 ⟨[(25,(ah jt dJ))],[]⟩))
def aqd (b:Nat→PC):PT:=
 (.call ⟨[],[]⟩ [] 9 20 [r0]
 (.ite (.pick (.pick (.nt r9) pT (ah r1 (pi 0))) pT (bh r1 (pi 20)))
 (.ret pL)
 (.chk (.an (cg r1 (pi 0)) (bB r1 cn))
 (.chk (peq r1 r1)
 (.call ⟨[(5,pN)],[(5,(.rep r1 (pi 0)))]⟩ [] 22 71 [r0]
 (.brk ⟨[(24,(pi 0)),(23,r1),(6,rz)],[]⟩
(akx b)
 (.ret o5)))))))
def afE (b:Nat→PC):PT×List (Shp×PT):=(aqd b,[(.lp 0 [24,25] [5] [24] [5],an1 b)])
theorem Yf:uh.map told=some (afE (bj uh)):=by kernel_rfl
def uj:Option PC:=cF [4,6,7] [] Tryz.f49 49 [5]
def akA (b:Nat→PC):PC:=.block 0 [5,13,14] [5] (.loop [5,13] [5] (b 0))
def an2 (b:Nat→PC):PT:=
 (.ite (ah cK bU)
 (.chk (ao bz cK)
 (.chk (ao r1 cK)
 (.ite (bh (pn bz cK) (pn r1 cK))
 (.chk (bB (.llen (.app o5 (.lst [cK]))) cn)
 (.next ⟨[(5,pN),(13,(aG cK (pi 1)))],[(5,(.app o5 (.lst [cK])))]⟩))
 (.next ⟨[(13,(aG cK (pi 1)))],[]⟩))))
 (.exit 0 ⟨[(14,(ah cK bU))],[]⟩))
def aqg (b:Nat→PC):PT:=
 (.call ⟨[(5,pN)],[(5,pL)]⟩ [] 11 48 [r0,(.llen r1)]
 (.brk ⟨[(13,(pi 0)),(12,(.llen bz))],[]⟩
(akA b)
 (.ret o5)))
def afG (b:Nat→PC):PT×List (Shp×PT):=(aqg b,[(.lp 0 [5,13,14] [5] [5,13] [5],an2 b)])
theorem Yg:uj.map told=some (afG (bj uj)):=by kernel_rfl
def xj:Option PC:=cF [4,5] [] Tryz.f13 13 [2,3]
def Kg:Nat→PC:=br xj
def ak3 (b:Nat→PC):PC:=.block 0 [4,5,14,15,16,17,18] [] (.loop [4,5] [] (b 0))
def Db (b:Nat→PC):PT:=
 (.ite (ah r5 (.llen (pc o2 4)))
 (.blockS ⟨[],[]⟩ 1 [4,21,22,23,24,25,26,27] []
 (.chk (ao (pc o2 4) r5)
 (.call ⟨[],[]⟩ [] 26 51 [(pn (pc o2 4) r5)]
 (.ite (.nt ib)
 (.ret pF)
 (.next ⟨[],[]⟩))))
 (.next ⟨[(5,(aG r5 (pi 1)))],[]⟩))
 (.exit 0 ⟨[(14,r5),(15,pN),(16,(pc o2 4)),(17,(.llen (pc o2 4))),(18,(ah r5 (.llen (pc o2 4))))],[]⟩))
def Ri (b:Nat→PC):PT:=
 (.call ⟨[(4,pF)],[(3,(.mk [r1])),(2,(.mk [r0]))]⟩ [] 7 19 [kW]
 (.call ⟨[(9,(.nt r7))],[]⟩ [(9,false)] 11 50 [(aD 19 o3)]
 (.ite (.pick r9 pT (.nt bz))
 (.ret pF)
 (.brk ⟨[(5,(pi 0))],[]⟩
(ak3 b)
 (.ret pT)))))
def afX (b:Nat→PC):PT×List (Shp×PT):=(Ri b,[(.lp 0 [4,5,14,15,16,17,18] [] [4,5] [],Db b)])
theorem NW:xj.map told=some (afX (bj xj)):=by kernel_rfl
theorem aqK:tree (ae xj)=Ri Kg:=bO NW
theorem Pr:round 0 [4,5,14,15,16,17,18] [] [4,5] [] (Kg 0)=Db Kg:=bn NW 0 fun _=>rfl
def xg:Option PC:=cF [2,3,4] [] Tryz.f19 19 [1]
def Ap:Nat→PC:=br xg
def akZ (b:Nat→PC):PC:=.block 0 [2,3,5,6,7,8,9,10,13] [] (.loop [2,3] [] (b 0))
def ak0 (b:Nat→PC):PC:=.block 2 [2,4,44,45,46,47,48,49,52] [] (.loop [2,4] [] (b 1))
def v8 (b:Nat→PC):PT:=
 (.ite (.pick (ah r3 th) (ah r3 (pi 50)) pF)
 (.chk (ao (pc o1 1) r3)
 (.chk (.nt (.an (.an (.nt (bh (.llen (pc (pn (pc o1 1) r3) 4)) (pi 70))) pT) (.nt (ao (pc o1 1) r3))))
 (.chk (.nt (.an (.an (.nt ZH) pT) (.nt (ao (pc o1 1) r3))))
 (.ite (.pick ZH pT (bh (.llen (pc (pn (pc o1 1) r3) 3)) (pi 8)))
 (.ret pF)
 (.next ⟨[(3,(aG r3 (pi 1)))],[]⟩)))))
 (.exit 0 ⟨[(5,r3),(6,pN),(7,(pc o1 1)),(8,th),(9,(ah r3 th)),(10,(ah r3 th)),(13,(.pick (ah r3 th) (ah r3 (pi 50)) pF))],[]⟩))
def zq (b:Nat→PC):PT:=
 (.ite (.pick (ah r4 tg) (ah r4 (pi 50)) pF)
 (.chk (ao (pc o1 4) r4)
 (.chk (.nt (.an (.an (.nt (bh (.llen (pc (pn (pc o1 4) r4) 2)) (pi 40))) pT) (.nt (ao (pc o1 4) r4))))
 (.ite (.pick (bh (.llen (pc (pn (pc o1 4) r4) 2)) (pi 40)) pT (bh (.llen (pc (pn (pc o1 4) r4) 3)) (pi 40)))
 (.ret pF)
 (.next ⟨[(4,(aG r4 (pi 1)))],[]⟩))))
 (.exit 2 ⟨[(44,r4),(45,pN),(46,(pc o1 4)),(47,tg),(48,(ah r4 tg)),(49,(ah r4 tg)),(52,(.pick (ah r4 tg) (ah r4 (pi 50)) pF))],[]⟩))
def Rc (b:Nat→PC):PT:=
 (.brk ⟨[(3,(pi 0)),(2,pF)],[(1,(.mk [r0]))]⟩
(akZ b)
 (.brk ⟨[(4,(pi 0))],[]⟩
(ak0 b)
 (.ret (.pick (.pick (.pick (.pick (.pick (.pick (.pick (ah (.llen (pc o1 0)) (pi 50)) (ah th (pi 50)) pF) (ah (.llen (pc o1 2)) (pi 50)) pF) (ah zk (pi 210)) pF) (ah tg (pi 50)) pF) (ah (.llen (pc o1 5)) (pi 110)) pF) (ah (.llen (pc o1 6)) (pi 110)) pF) (ah (.llen (pc o1 7)) (pi 50)) pF))))
def afU (b:Nat→PC):PT×List (Shp×PT):=(Rc b,[(.lp 0 [2,3,5,6,7,8,9,10,13] [] [2,3] [],v8 b),(.lp 2 [2,4,44,45,46,47,48,49,52] [] [2,4] [],zq b)])
theorem HF:xg.map told=some (afU (bj xg)):=by kernel_rfl
theorem aqF:tree (ae xg)=Rc Ap:=bO HF
theorem C8:round 0 [2,3,5,6,7,8,9,10,13] [] [2,3] [] (Ap 0)=v8 Ap:=bn HF 0 fun _=>rfl
theorem ID:round 2 [2,4,44,45,46,47,48,49,52] [] [2,4] [] (Ap 1)=zq Ap:=bn HF 1 fun _=>rfl
def Fc:Option PC:=cF [2] [] Tryz.f50 50 [1]
def Rf:PT:=
 (.ret (.pick (.pick (.pick (bB (.llen mS) (pi 50)) (bB (.llen (pc (.mk [r0]) 16)) (pi 10)) pF) (bB (.llen (pc (.mk [r0]) 17)) (pi 110)) pF) (bB (.llen zg) (pi 220)) pF))
theorem Yv:Fc.map told=some (Rf,[]):=by kernel_rfl
theorem aqH:tree (ae Fc)=Rf:=ba Yv
def xh:Option PC:=cF [2,3] [] Tryz.f51 51 [1]
def Kf:Nat→PC:=br xh
def ak2 (b:Nat→PC):PC:=.block 0 [2,3,14,15,16,17,18] [] (.loop [2,3] [] (b 0))
def Da (b:Nat→PC):PT:=
 (.ite (ah r3 zk)
 (.blockS ⟨[],[]⟩ 1 [2,21,22,23,24,25,26,27,28] []
 (.chk (ao (pc o1 3) r3)
 (.call ⟨[],[]⟩ [] 27 101 [(.sub (pn (pc o1 3) r3) 1 3)]
 (.ite (.nt de)
 (.ret pF)
 (.next ⟨[],[]⟩))))
 (.next ⟨[(3,(aG r3 (pi 1)))],[]⟩))
 (.exit 0 ⟨[(14,r3),(15,pN),(16,(pc o1 3)),(17,zk),(18,(ah r3 zk))],[]⟩))
def Rh (b:Nat→PC):PT:=
 (.ite (.pick (bh (.llen (pc (.mk [r0]) 3)) (pi 60)) pT (bh pR (pi 60)))
 (.ret pF)
 (.brk ⟨[(3,(pi 0)),(2,pF)],[(1,(.mk [r0]))]⟩
(ak2 b)
 (.ret pT)))
def afW (b:Nat→PC):PT×List (Shp×PT):=(Rh b,[(.lp 0 [2,3,14,15,16,17,18] [] [2,3] [],Da b)])
theorem NV:xh.map told=some (afW (bj xh)):=by kernel_rfl
theorem aqJ:tree (ae xh)=Rh Kf:=bO NV
theorem Pq:round 0 [2,3,14,15,16,17,18] [] [2,3] [] (Kf 0)=Da Kf:=bn NV 0 fun _=>rfl
def Fe:Option PC:=cF [2] [] Tryz.f101 101 [1]
def Rg:PT:=
 (.call ⟨[],[]⟩ [] 4 159 [(.mk [kX,ru,vO]),(pi 100),(pi 20)]
 (.ret (cg r4 (pi 0))))
theorem Yw:Fe.map told=some (Rg,[]):=by kernel_rfl
theorem aqI:tree (ae Fe)=Rg:=ba Yw
def uq:Option PC:=cF [6,1,7] [] Tryz.f159 159 [3]
def Ke:Nat→PC:=br uq
def ak1 (b:Nat→PC):PC:=.block 0 [1,7,12,13,14,15,16,17,20] [] (.loop [1,7] [] (b 0))
def C9 (b:Nat→PC):PT:=
 (.ite (.pick (ah r7 mT) (cg r1 (pi 0)) pF)
 (.blockS ⟨[],[]⟩ 1 [1,23,24,25,26,27,28,29,30,31] []
 (.chk (ao (pc o3 2) r7)
 (.call ⟨[],[]⟩ [] 31 159 [(pn (pc o3 2) r7),r1,(bH r2 (pi 1))]
 (.next ⟨[(1,jW)],[]⟩)))
 (.next ⟨[(7,(aG r7 (pi 1)))],[]⟩))
 (.exit 0 ⟨[(12,r7),(13,pN),(14,(pc o3 2)),(15,mT),(16,(ah r7 mT)),(17,(ah r7 mT)),(20,(.pick (ah r7 mT) (cg r1 (pi 0)) pF))],[]⟩))
def Jo (b:Nat→PC):PT:=
 (.ite (ah r2 (pi 1))
 (.ret (pi (-1)))
 (.brk ⟨[(7,(pi 0)),(1,(bH r1 (pi 1)))],[(3,(.mk [r0]))]⟩
(ak1 b)
 (.ret r1)))
def afV (b:Nat→PC):PT×List (Shp×PT):=(Jo b,[(.lp 0 [1,7,12,13,14,15,16,17,20] [] [1,7] [],C9 b)])
theorem NU:uq.map told=some (afV (bj uq)):=by kernel_rfl
theorem abc:tree (ae uq)=Jo Ke:=bO NU
theorem Pp:round 0 [1,7,12,13,14,15,16,17,20] [] [1,7] [] (Ke 0)=C9 Ke:=bn NU 0 fun _=>rfl
def xk:Option PC:=cF [2,3,4,5,6,7,10,11,12] [] Tryz.f14 14 [1,9]
def Kh:Nat→PC:=br xk
def ak4 (b:Nat→PC):PC:=.block 0 [2,38,39] [] (.loop [2,38] [] (b 0))
def Dc (b:Nat→PC):PT:=
 (.ite (ah ky mV)
 (.blockS ⟨[],[]⟩ 1 [2,9,40,41,42,43,44,45] [9]
 (.chk (ao iV ky)
 (.call ⟨[],[]⟩ [] 44 57 [(pc (.setc CV 0 (pn iV ky)) 0),(pi 10)]
 (.ite (.nt vV)
 (.ret (pi 1))
 (.next ⟨[],[]⟩))))
 (.next ⟨[(38,(aG ky (pi 1)))],[]⟩))
 (.exit 0 ⟨[(39,(ah ky mV))],[]⟩))
def Rj (b:Nat→PC):PT:=
 (.call ⟨[(2,(pi 0))],[(1,(.mk [r0]))]⟩ [] 15 52 [kW]
 (.call ⟨[(5,(.tget bF 2)),(4,(.tget bF 1)),(3,(.tget bF 0))],[]⟩ [] 21 53 [(pc o1 0),(pi 8),(.con (.clo 54 []))]
 (.ite (aP fu (pi 0))
 (.ret fu)
 (.call ⟨[],[(1,(aD 8 o1))]⟩ [] 27 53 [r3,(pi 40),(.clo 55 [(.ref (aD 8 o1))])]
 (.ite (aP de (pi 0))
 (.ret de)
 (.ite (bh (.llen (pc o1 2)) (pi 20))
 (.ret (pi 6))
 (.brk ⟨[(38,(pi 0)),(37,(.llen (pc o1 2))),(36,(pc o1 2))],[]⟩
(ak4 b)
 (.call ⟨[],[]⟩ [] 49 53 [r4,(pi 200),(.clo 58 [(.ref o1)])]
 (.ite (aP pX (pi 0))
 (.ret pX)
 (.call ⟨[],[]⟩ [] 55 53 [r5,(pi 20),(.clo 59 [(.ref o1)])]
 (.ite (aP CX (pi 0))
 (.ret CX)
 (.call ⟨[],[]⟩ [] 60 61 [(.sub o1 0 8)]
 (.ite (aP vW (pi 0))
 (.ret vW)
 (.call ⟨[],[]⟩ [] 65 62 [(.sub o1 0 8)]
 (.ret vX)))))))))))))))
def afY (b:Nat→PC):PT×List (Shp×PT):=(Rj b,[(.lp 0 [2,38,39] [] [2,38] [],Dc b)])
theorem NX:xk.map told=some (afY (bj xk)):=by kernel_rfl
theorem aqP:tree (ae xk)=Rj Kh:=bO NX
theorem Ps:round 0 [2,38,39] [] [2,38] [] (Kh 0)=Dc Kh:=bn NX 0 fun _=>rfl
def xp:Option PC:=cF [] [] Tryz.f52 52 [1,2,3,4,6,16390,20486,24582,21,8,34,10,12298,16394,47]
def ub:Nat→PC:=br xp
def ala (b:Nat→PC):PC:=.block 0 [2,14,15] [2] (.loop [2,14] [2] (b 0))
def alb (b:Nat→PC):PC:=.block 2 [3,27,28] [3] (.loop [3,27] [3] (b 1))
def alc (b:Nat→PC):PC:=.block 4 [4,40,41] [4] (.loop [4,40] [4] (b 2))
def IE (b:Nat→PC):PT:=
 (.ite om
 (.chk (ao bU bD)
 (.chk (bB (.llen ZE) cn)
 (.next ⟨[(2,pN),(14,vS)],[(2,ZE)]⟩)))
 (.exit 0 ⟨[(15,om)],[]⟩))
def IF (b:Nat→PC):PT:=
 (.ite (ah de ib)
 (.chk (ao jV de)
 (.chk (bB (.llen (.app o3 (.lst [(pc (.setc OX 0 rv) 0)]))) cn)
 (.next ⟨[(3,pN),(27,(aG de (pi 1)))],[(3,(.app o3 (.lst [(pc (.setc OX 0 rv) 0)])))]⟩)))
 (.exit 2 ⟨[(28,(ah de ib))],[]⟩))
def IG (b:Nat→PC):PT:=
 (.ite (ah rC rB)
 (.chk (ao ky rC)
 (.chk (bB (.llen ZF) cn)
 (.next ⟨[(4,pN),(40,(aG rC (pi 1)))],[(4,ZF)]⟩)))
 (.exit 4 ⟨[(41,(ah rC rB))],[]⟩))
def Rw (b:Nat→PC):PT:=
 (.brk ⟨[(14,(pi 0)),(13,(.llen ru)),(12,ru),(4,pN),(3,pN),(2,pN)],[(4,pL),(3,pL),(2,pL),(1,(.mk [r0]))]⟩
(ala b)
 (.brk ⟨[(27,(pi 0)),(26,zk),(25,(pc o1 3))],[]⟩
(alb b)
 (.brk ⟨[(40,(pi 0)),(39,tg),(38,(pc o1 4))],[]⟩
(alc b)
 (.ret (.tup [o2,o3,o4])))))
def af4 (b:Nat→PC):PT×List (Shp×PT):=(Rw b,[(.lp 0 [2,14,15] [2] [2,14] [2],IE b),(.lp 2 [3,27,28] [3] [3,27] [3],IF b),(.lp 4 [4,40,41] [4] [4,40] [4],IG b)])
theorem CH:xp.map told=some (af4 (bj xp)):=by kernel_rfl
theorem aqY:tree (ae xp)=Rw ub:=bO CH
theorem aan:round 0 [2,14,15] [2] [2,14] [2] (ub 0)=IE ub:=bn CH 0 fun _=>rfl
theorem aao:round 2 [3,27,28] [3] [3,27] [3] (ub 1)=IF ub:=bn CH 1 fun _=>rfl
theorem aap:round 4 [4,40,41] [4] [4,40] [4] (ub 2)=IG ub:=bn CH 2 fun _=>rfl
def xn:Option PC:=cF [6,7,8] [] Tryz.f53 53 []
def Kk:Nat→PC:=br xn
def ak8 (b:Nat→PC):PC:=.block 0 [6,15,16] [] (.loop [6,15] [] (b 0))
def Dg (b:Nat→PC):PT:=
 (.ite (ah bF bD)
 (.blockS ⟨[],[]⟩ 1 [6,7,8,17,18,19,20,21,22,24,25,26,27] []
 (.call ⟨[(7,bF)],[]⟩ [] 20 102 [r0,bF]
 (.ite (aP bR (pi 0))
 (.ret bR)
 (.callc ⟨[],[]⟩ [] 26 r2 [r7]
 (.ite (.nt ib)
 (.ret (pi 1))
 (.next ⟨[],[]⟩)))))
 (.next ⟨[(15,(aG bF (pi 1)))],[]⟩))
 (.exit 0 ⟨[(16,(ah bF bD))],[]⟩))
def Rr (b:Nat→PC):PT:=
 (.ite (bh (.llen r0) r1)
 (.ret (pi 6))
 (.brk ⟨[(15,(pi 0)),(14,(.llen r0)),(6,(pi 0))],[]⟩
(ak8 b)
 (.ret (pi 0))))
def af2 (b:Nat→PC):PT×List (Shp×PT):=(Rr b,[(.lp 0 [6,15,16] [] [6,15] [],Dg b)])
theorem N0:xn.map told=some (af2 (bj xn)):=by kernel_rfl
theorem aqU:tree (ae xn)=Rr Kk:=bO N0
theorem Pv:round 0 [6,15,16] [] [6,15] [] (Kk 0)=Dg Kk:=bn N0 0 fun _=>rfl
def Fm:Option PC:=cF [4] [] Tryz.f102 102 []
def Rv:PT:=
 (.chk (ao r0 r1)
 (.call ⟨[],[]⟩ [] 9 160 [(pn r0 r1)]
 (.ite (.nt r9)
 (.ret (pi 2))
 (.chk (.slok r0 (pi 0) r1)
 (.chk (ao r0 r1)
 (.call ⟨[],[]⟩ [] 18 161 [(.slc r0 (pi 0) r1),(pn r0 r1)]
 (.ite dI
 (.ret (pi 5))
 (.ret (pi 0)))))))))
theorem YD:Fm.map told=some (Rv,[]):=by kernel_rfl
theorem aqX:tree (ae Fm)=Rv:=ba YD
def xo:Option PC:=cF [2,3,4,5] [] Tryz.f160 160 []
def Kl:Nat→PC:=br xo
def ak9 (b:Nat→PC):PC:=.block 0 [2,16,17] [] (.loop [2,16] [] (b 0))
def Dh (b:Nat→PC):PT:=
 (.ite (ah bx bF)
 (.chk (ao bD bx)
 (.ite (.pick (.nt (.pick (.pick (cg pS (.con (.v (.int .u8 97)))) (bB pS (.con (.v (.int .u8 122)))) pF) pT (.pick (cg pS (.con (.v (.int .u8 65)))) (bB pS (.con (.v (.int .u8 90)))) pF))) (.pick (peq bx (pi 0)) pT (.pick (aP pS (.con (.v (.int .u8 95)))) (.pick (ah pS (.con (.v (.int .u8 48)))) pT (bh pS (.con (.v (.int .u8 57))))) pF)) pF)
 (.ret pF)
 (.next ⟨[(16,(aG bx (pi 1)))],[]⟩)))
 (.exit 0 ⟨[(17,(ah bx bF))],[]⟩))
def Ru (b:Nat→PC):PT:=
 (.ite (.pick (.cs .eql r0 (.con (.v (.string ⟨#[]⟩)))) pT (bh (.slen r0) (pi 20)))
 (.ret pF)
 (.chk (bB (.slen r0) cn)
 (.brk ⟨[(16,(pi 0)),(15,(.llen (.bytes r0))),(14,(.bytes r0)),(2,pF)],[]⟩
(ak9 b)
 (.ret pT))))
def af3 (b:Nat→PC):PT×List (Shp×PT):=(Ru b,[(.lp 0 [2,16,17] [] [2,16] [],Dh b)])
theorem N1:xo.map told=some (af3 (bj xo)):=by kernel_rfl
theorem aqW:tree (ae xo)=Ru Kl:=bO N1
theorem Pw:round 0 [2,16,17] [] [2,16] [] (Kl 0)=Dh Kl:=bn N1 0 fun _=>rfl
def Fv:Option PC:=cF [4] [] Tryz.f161 161 []
def RL:PT:=
 (.call ⟨[],[]⟩ [] 7 208 [r0,r1]
 (.ret (cg r7 (pi 0))))
theorem YL:Fv.map told=some (RL,[]):=by kernel_rfl
theorem arf:tree (ae Fv)=RL:=ba YL
def xF:Option PC:=cF [4,5] [] Tryz.f208 208 []
def Kt:Nat→PC:=br xF
def alz (b:Nat→PC):PC:=.block 0 [4,8,9] [] (.loop [4,8] [] (b 0))
def Dy (b:Nat→PC):PT:=
 (.ite (ah r8 r7)
 (.chk (ao r0 r8)
 (.ite (.cs .eql r1 (pn r0 r8))
 (.ret r8)
 (.next ⟨[(8,og)],[]⟩)))
 (.exit 0 ⟨[(9,(ah r8 r7))],[]⟩))
def RQ (b:Nat→PC):PT:=
 (.brk ⟨[(8,(pi 0)),(7,(.llen r0)),(4,(pi 0))],[]⟩
(alz b)
 (.ret (pi (-1))))
def agj (b:Nat→PC):PT×List (Shp×PT):=(RQ b,[(.lp 0 [4,8,9] [] [4,8] [],Dy b)])
theorem N8:xF.map told=some (agj (bj xF)):=by kernel_rfl
theorem arl:tree (ae xF)=RQ Kt:=bO N8
theorem PR:round 0 [4,8,9] [] [4,8] [] (Kt 0)=Dy Kt:=bn N8 0 fun _=>rfl
def Ff:Option PC:=cF [2] [] Tryz.f54 54 []
def Rk:PT:=
 (.ret pT)
theorem Yx:Ff.map told=some (Rk,[]):=by kernel_rfl
theorem aqL:tree (ae Ff)=Rk:=ba Yx
def Fg:Option PC:=cF [3] [] Tryz.f55 55 []
def Rl:PT:=
 (.chk (ao (pc (.deref r1) 1) r0)
 (.call ⟨[],[]⟩ [] 10 56 [(.deref r1),(pn (pc (.deref r1) 1) r0)]
 (.ret bC)))
theorem Yy:Fg.map told=some (Rl,[]):=by kernel_rfl
theorem aqM:tree (ae Fg)=Rl:=ba Yy
def xm:Option PC:=cF [4,6] [] Tryz.f56 56 [2,3]
def Kj:Nat→PC:=br xm
def ak7 (b:Nat→PC):PC:=.block 0 [4,10,11] [] (.loop [4,10] [] (b 0))
def Df (b:Nat→PC):PT:=
 (.ite (ah bC r9)
 (.chk (ao r8 bC)
 (.chk (aP (pi 100) (pi 0))
 (.chk (.nt (.an (.an (.nt (ah O2 (pi 1))) pT) (.nt (aP (pi 100) (pi 0)))))
 (.ite (.pick (ah O2 (pi 1)) pT (bh O2 (pi 31)))
 (.ret pF)
 (.next ⟨[(10,(aG bC (pi 1)))],[]⟩)))))
 (.exit 0 ⟨[(11,(ah bC r9))],[]⟩))
def Rq (b:Nat→PC):PT:=
 (.brk ⟨[(10,(pi 0)),(9,(.llen (pc (.mk [r1]) 4))),(8,(pc (.mk [r1]) 4)),(4,pF)],[(3,(.mk [r1])),(2,(.mk [r0]))]⟩
(ak7 b)
 (.call ⟨[(33,(.pick (bh (.llen (pc o3 4)) (pi 60)) pT (bh (.llen (pc o3 5)) (pi 200))))],[]⟩ [(33,false)] 39 57 [(pc o3 1),(.llen (pc o2 4))]
 (.call ⟨[(42,(.pick pU pT (.nt rB)))],[]⟩ [(42,false)] 48 57 [(pc o3 2),(.llen (pc o2 0))]
 (.ite (.pick O7 pT (.nt kz))
 (.ret pF)
 (.call ⟨[],[]⟩ [] 53 103 [(pc o3 3),(pi 0),(pi 6)]
 (.call ⟨[(54,Z3)],[]⟩ [(54,true)] 57 103 [(pc o3 4),(pi 101),(pi 1231)]
 (.call ⟨[(59,(.pick pY zl pF))],[]⟩ [(59,true)] 62 103 [(pc o3 5),(pi 0),(pi 100000)]
 (.ret (.pick Z5 mW pF)))))))))
def af1 (b:Nat→PC):PT×List (Shp×PT):=(Rq b,[(.lp 0 [4,10,11] [] [4,10] [],Df b)])
theorem NZ:xm.map told=some (af1 (bj xm)):=by kernel_rfl
theorem aqT:tree (ae xm)=Rq Kj:=bO NZ
theorem Pu:round 0 [4,10,11] [] [4,10] [] (Kj 0)=Df Kj:=bn NZ 0 fun _=>rfl
def Fl:Option PC:=cF [4] [] Tryz.f57 57 []
def Rs:PT:=
 (.ret O1)
theorem YC:Fl.map told=some (Rs,[]):=by kernel_rfl
theorem aqV:tree (ae Fl)=Rs:=ba YC
def xt:Option PC:=cF [6,7,8] [] Tryz.f103 103 []
def Km:Nat→PC:=br xt
def alh (b:Nat→PC):PC:=.block 0 [6,11,12] [] (.loop [6,11] [] (b 0))
def tp (b:Nat→PC):PT:=
 (.ite tj
 (.chk (ao r9 bz)
 (.chk (.nt (.an (.an (bh bz (pi 0)) (.an (.nt (.pick (ah (pn r9 bz) r1) pT (bh (pn r9 bz) r2))) pT)) (.nt (ao r0 (bH bz (pi 1))))))
 (.ite (.pick (.pick (ah (pn r9 bz) r1) pT (bh (pn r9 bz) r2)) pT (.pick (bh bz (pi 0)) (bB (pn r9 bz) (pn r0 (bH bz (pi 1)))) pF))
 (.ret pF)
 (.next ⟨[(11,zj)],[]⟩))))
 (.exit 0 ⟨[(12,tj)],[]⟩))
def Rz (b:Nat→PC):PT:=
 (.brk ⟨[(11,(pi 0)),(10,(.llen r0)),(9,r0),(6,pF)],[]⟩
(alh b)
 (.ret pT))
def af7 (b:Nat→PC):PT×List (Shp×PT):=(Rz b,[(.lp 0 [6,11,12] [] [6,11] [],tp b)])
theorem N2:xt.map told=some (af7 (bj xt)):=by kernel_rfl
theorem aq1:tree (ae xt)=Rz Km:=bO N2
theorem zr:round 0 [6,11,12] [] [6,11] [] (Km 0)=tp Km:=bn N2 0 fun _=>rfl
def Fh:Option PC:=cF [3] [] Tryz.f58 58 []
def Rm:PT:=
 (.chk (ao (pc (.deref r1) 3) r0)
 (.call ⟨[],[]⟩ [] 13 57 [(pc (pn (pc (.deref r1) 3) r0) 1),(.llen (pc (.deref r1) 1))]
 (.chk (.nt (.an (.an cK pT) (.nt (ao (pc (.deref r1) 3) r0))))
 (.call ⟨[(14,cK)],[]⟩ [(14,true)] 24 57 [(pc (pn (pc (.deref r1) 3) r0) 2),(.llen (pc (.deref r1) 2))]
 (.ret (.pick bD jt pF))))))
theorem Yz:Fh.map told=some (Rm,[]):=by kernel_rfl
theorem aqN:tree (ae Fh)=Rm:=ba Yz
def Fi:Option PC:=cF [3] [] Tryz.f59 59 []
def Rn:PT:=
 (.chk (ao (pc (.deref r1) 4) r0)
 (.call ⟨[],[]⟩ [] 9 60 [(pn (pc (.deref r1) 4) r0)]
 (.ret r9)))
theorem YA:Fi.map told=some (Rn,[]):=by kernel_rfl
theorem aqO:tree (ae Fi)=Rn:=ba YA
def xq:Option PC:=cF [2] [] Tryz.f60 60 [1,3,4,6,19,8,16392,36]
def Aq:Nat→PC:=br xq
def ald (b:Nat→PC):PC:=.block 0 [2,3,12,13] [3] (.loop [2,3,12] [3] (b 0))
def ale (b:Nat→PC):PC:=.block 2 [4,29,30] [4] (.loop [4,29] [4] (b 1))
def Di (b:Nat→PC):PT:=
 (.ite oo
 (.blockS ⟨[],[]⟩ 1 [2,3,6,14,15,17,18,19,20,21,22,23,24] [6,19,3]
 (.chk (ao bC bU)
 (.chk (bB (.llen (.app o3 (.lst [(pc (.setc H5 0 ry) 0)]))) cn)
 (.call ⟨[(3,pN)],[(3,(.app o3 (.lst [(pc (.setc H5 0 ry) 0)])))]⟩ [] 23 57 [(pc (.setc H5 0 ry) 1),(pi 5)]
 (.ite (.nt dJ)
 (.ret pF)
 (.next ⟨[],[]⟩)))))
 (.next ⟨[(12,zi)],[]⟩))
 (.exit 0 ⟨[(13,oo)],[]⟩))
def II (b:Nat→PC):PT:=
 (.ite (ah mU oq)
 (.chk (ao de mU)
 (.chk (bB (.llen ZI) cn)
 (.next ⟨[(4,pN),(29,(aG mU (pi 1)))],[(4,ZI)]⟩)))
 (.exit 2 ⟨[(30,(ah mU oq))],[]⟩))
def Rx (b:Nat→PC):PT:=
 (.brk ⟨[(12,(pi 0)),(11,pR),(10,vO),(4,pN),(3,pN),(2,pF)],[(4,pL),(3,pL),(1,(.mk [r0]))]⟩
(ald b)
 (.brk ⟨[(29,(pi 0)),(28,zk),(27,(pc o1 3))],[]⟩
(ale b)
 (.call ⟨[],[]⟩ [] 40 103 [o3,(pi 0),(pi 21)]
 (.call ⟨[(41,rC)],[]⟩ [(41,true)] 43 103 [o4,(pi 0),(pi 21)]
 (.ret (.pick pV tn pF))))))
def af5 (b:Nat→PC):PT×List (Shp×PT):=(Rx b,[(.lp 0 [2,3,12,13] [3] [2,3,12] [3],Di b),(.lp 2 [4,29,30] [4] [4,29] [4],II b)])
theorem HG:xq.map told=some (af5 (bj xq)):=by kernel_rfl
theorem aqZ:tree (ae xq)=Rx Aq:=bO HG
theorem Px:round 0 [2,3,12,13] [3] [2,3,12] [3] (Aq 0)=Di Aq:=bn HG 0 fun _=>rfl
theorem aaq:round 2 [4,29,30] [4] [4,29] [4] (Aq 1)=II Aq:=bn HG 1 fun _=>rfl
def xu:Option PC:=cF [2,3] [] Tryz.f61 61 [1,4,6]
def As:Nat→PC:=br xu
def ali (b:Nat→PC):PC:=.block 2 [2,50,51] [] (.loop [2,50] [] (b 0))
def alj (b:Nat→PC):PC:=.block 0 [2,14,15] [] (.loop [2,14] [] (b 1))
def zt (b:Nat→PC):PT:=
 (.ite (ah kA pX)
 (.chk (ao kz kA)
 (.ite (.pick (peq (pc (.setc z3 0 (pn kz kA)) 0) (pc o4 0)) (peq (pc (.setc z3 0 (pn kz kA)) 1) (pc o4 1)) pF)
 (.ret (pi 5))
 (.next ⟨[(50,(aG kA (pi 1)))],[]⟩)))
 (.exit 2 ⟨[(51,(ah kA pX))],[]⟩))
def Dl (b:Nat→PC):PT:=
 (.ite om
 (.blockS ⟨[(15,om)],[]⟩ 1 [2,3,4,16,17,18,19,20,21,22,23,24,25,26,34,35,39,40,44,45,46,47,48,49,50,51] [4]
 (.chk (ao bU bD)
 (.call ⟨[(3,bD)],[(4,ze)]⟩ [] 24 57 [(pc ze 0),th]
 (.call ⟨[(26,(.nt jt))],[]⟩ [(26,false)] 32 57 [(pc o4 1),th]
 (.ite (.pick (.pick (.pick ib pT (.nt O6)) pT (ah (pc o4 2) (pi 1))) pT (bh (pc o4 2) (pi 20000)))
 (.ret (pi 1))
 (.chk (.slok (pc o1 5) (pi 0) r3)
 (.brk ⟨[(50,(pi 0)),(49,(.llen (.slc (pc o1 5) (pi 0) r3))),(48,(.slc (pc o1 5) (pi 0) r3))],[]⟩
(ali b)
 (.next ⟨[],[]⟩)))))))
 (.next ⟨[(14,vS)],[]⟩))
 (.exit 0 ⟨[(15,om)],[]⟩))
def RA (b:Nat→PC):PT:=
 (.ite (bh (.llen zh) (pi 100))
 (.ret (pi 6))
 (.brk ⟨[(14,(pi 0)),(13,(.llen zh)),(12,zh),(2,(pi 0))],[(1,(.mk [r0]))]⟩
(alj b)
 (.ret (pi 0))))
def af8 (b:Nat→PC):PT×List (Shp×PT):=(RA b,[(.lp 2 [2,50,51] [] [2,50] [],zt b),(.lp 0 [2,14,15] [] [2,14] [],Dl b)])
theorem HI:xu.map told=some (af8 (bj xu)):=by kernel_rfl
theorem aq2:tree (ae xu)=RA As:=bO HI
theorem IJ:round 2 [2,50,51] [] [2,50] [] (As 0)=zt As:=bn HI 0 fun _=>rfl
theorem PA:round 0 [2,14,15] [] [2,14] [] (As 1)=Dl As:=bn HI 1 fun _=>rfl
def xr:Option PC:=cF [2] [] Tryz.f62 62 [1,4,6]
def Ar:Nat→PC:=br xr
def alf (b:Nat→PC):PC:=.block 0 [2,14,15] [] (.loop [2,14] [] (b 0))
def alg (b:Nat→PC):PC:=.block 2 [2,69,70] [] (.loop [2,69] [] (b 1))
def Dj (b:Nat→PC):PT:=
 (.ite om
 (.blockS ⟨[],[]⟩ 1 [2,4,16,17,18,19,20,21,22,23,24,25,33,34,40,41,47,48,54,55,60] [4]
 (.chk (ao bU bD)
 (.call ⟨[],[(4,(.setc z5 0 (pn bU bD)))]⟩ [] 23 57 [(pc (.setc z5 0 (pn bU bD)) 0),(.llen (pc o1 0))]
 (.call ⟨[(25,(.nt dJ))],[]⟩ [(25,false)] 31 57 [(pc o4 1),(.llen (pc o1 0))]
 (.call ⟨[(41,(.pick (.pick jV pT (.nt jW)) pT (peq (pc o4 0) (pc o4 1))))],[]⟩ [(41,false)] 45 57 [(bH (pc o4 2) (pi 1)),(pi 1073741824)]
 (.call ⟨[(48,(.pick pV pT (.nt pW)))],[]⟩ [(48,false)] 52 57 [(bH (pc o4 3) (pi 1)),(pi 1073741824)]
 (.call ⟨[(55,(.pick kz pT (.nt ot)))],[]⟩ [(55,false)] 58 57 [(pc o4 4),(pi 100001)]
 (.ite (.pick CX pT (.nt Z4))
 (.ret (pi 1))
 (.next ⟨[],[]⟩))))))))
 (.next ⟨[(14,vS)],[]⟩))
 (.exit 0 ⟨[(15,om)],[]⟩))
def Dk (b:Nat→PC):PT:=
 (.ite (ah zm Ih)
 (.blockS ⟨[],[]⟩ 3 [2,6,71,72,73,74,75,76,77,78,79,80,84,85,91,92,96] [6]
 (.chk (ao vY zm)
 (.call ⟨[],[(6,(.setc z3 0 (pn vY zm)))]⟩ [] 78 57 [(pc (.setc z3 0 (pn vY zm)) 0),tg]
 (.ite (.pick (.pick (.pick (.nt Ij) pT (ah (pc o6 1) (pi 0))) pT (bh (pc o6 1) (pc o6 2))) pT (bh (pc o6 2) (pi 100000)))
 (.ret (pi 1))
 (.next ⟨[],[]⟩))))
 (.next ⟨[(69,(aG zm (pi 1)))],[]⟩))
 (.exit 2 ⟨[(70,(ah zm Ih))],[]⟩))
def Ry (b:Nat→PC):PT:=
 (.ite (bh (.llen (pc (.mk [r0]) 6)) (pi 100))
 (.ret (pi 6))
 (.brk ⟨[(14,(pi 0)),(13,(.llen (pc (.mk [r0]) 6))),(12,(pc (.mk [r0]) 6)),(2,(pi 0))],[(1,(.mk [r0]))]⟩
(alf b)
 (.ite (bh (.llen (pc o1 7)) (pi 20))
 (.ret (pi 6))
 (.brk ⟨[(69,(pi 0)),(68,(.llen (pc o1 7))),(67,(pc o1 7))],[]⟩
(alg b)
 (.ret (pi 0))))))
def af6 (b:Nat→PC):PT×List (Shp×PT):=(Ry b,[(.lp 0 [2,14,15] [] [2,14] [],Dj b),(.lp 2 [2,69,70] [] [2,69] [],Dk b)])
theorem HH:xr.map told=some (af6 (bj xr)):=by kernel_rfl
theorem aq0:tree (ae xr)=Ry Ar:=bO HH
theorem Py:round 0 [2,14,15] [] [2,14] [] (Ar 0)=Dj Ar:=bn HH 0 fun _=>rfl
theorem Pz:round 2 [2,69,70] [] [2,69] [] (Ar 1)=Dk Ar:=bn HH 1 fun _=>rfl
def AH:Option PC:=cF [2] [] Tryz.f15 15 [1]
def Re:PT:=
 (.ret (.pick (.pick (.pick (bB (.llen mS) (pi 42)) (bB (.llen (pc (.mk [r0]) 16)) (pi 6)) pF) (bB (.llen (pc (.mk [r0]) 17)) (pi 102)) pF) (bB (.llen zg) (pi 202)) pF))
theorem Yu:AH.map told=some (Re,[]):=by kernel_rfl
theorem aqG:tree (ae AH)=Re:=ba Yu
def um:Option PC:=cF [4,5,6,7,8,11] [] Tryz.f16 16 [2,3,10]
def Ao:Nat→PC:=br um
def akS (b:Nat→PC):PC:=.block 0 [4,48,49] [] (.loop [4,48] [] (b 0))
def akT (b:Nat→PC):PC:=.block 2 [4,8,62,63] [] (.loop [4,8,62] [] (b 1))
def C6 (b:Nat→PC):PT:=
 (.ite (ah kz O8)
 (.blockS ⟨[],[]⟩ 1 [4,6,7,50,51,52,53,54,55,56] []
 (.call ⟨[],[]⟩ [] 54 64 [(aD 8 o2),(aD 19 o3),kz]
 (.ite (aP pY (pi 0))
 (.ret pY)
 (.next ⟨[],[]⟩)))
 (.next ⟨[(48,(aG kz (pi 1)))],[]⟩))
 (.exit 0 ⟨[(49,(ah kz O8))],[]⟩))
def C7 (b:Nat→PC):PT:=
 (.ite (ah mW If)
 (.blockS ⟨[],[]⟩ 3 [4,8,10,64,65,66,67,68,69,70,71,72,73,74,75,76,77,78,79,80] [10]
 (.chk (ao vW mW)
 (.call ⟨[],[(10,(.setc z2 0 (pn vW mW)))]⟩ [] 73 65 [(pc (.setc z2 0 (pn vW mW)) 0),og,(.llen (pc o3 15))]
 (.ite (.nt CY)
 (.ret (pi 1))
 (.call ⟨[],[]⟩ [] 77 65 [(pc bX 1),(pi 1),vR]
 (.ite (.nt Pc)
 (.ret (pi 3))
 (.next ⟨[(8,(pc bX 0))],[]⟩))))))
 (.next ⟨[(62,(aG mW (pi 1)))],[]⟩))
 (.exit 2 ⟨[(63,(ah mW If))],[]⟩))
def Q3 (b:Nat→PC):PT:=
 (.ite (.pick (.pick (.pick (bh (.llen (pc (.mk [r1]) 15)) (pi 40)) pT (bh (.llen (pc (.mk [r1]) 16)) (pi 4))) pT (bh (.llen (pc (.mk [r1]) 17)) (pi 100))) pT (bh (.llen (pc (.mk [r1]) 18)) (pi 200)))
 (.ret (pi 6))
 (.call ⟨[(4,(pi 0))],[(3,(.mk [r1])),(2,(.mk [r0]))]⟩ [] 37 63 [kW,(aD 15 (.mk [r1]))]
 (.ite (aP mV (pi 0))
 (.ret mV)
 (.ite (peq (.llen (pc o3 15)) (pi 0))
 (.ret (pi 14))
 (.brk ⟨[(48,(pi 0)),(47,(.llen (pc o3 15)))],[]⟩
(akS b)
 (.brk ⟨[(62,(pi 0)),(61,(.llen (pc o3 16))),(60,(pc o3 16)),(8,(pi 0))],[]⟩
(akT b)
 (.call ⟨[],[]⟩ [] 84 66 [(aD 8 o2),(aD 19 o3)]
 (.ite (aP Ik (pi 0))
 (.ret Ik)
 (.call ⟨[],[]⟩ [] 89 67 [(aD 19 o3)]
 (.ret r89))))))))))
def afO (b:Nat→PC):PT×List (Shp×PT):=(Q3 b,[(.lp 0 [4,48,49] [] [4,48] [],C6 b),(.lp 2 [4,8,62,63] [] [4,8,62] [],C7 b)])
theorem HE:um.map told=some (afO (bj um)):=by kernel_rfl
theorem aqu:tree (ae um)=Q3 Ao:=bO HE
theorem Pn:round 0 [4,48,49] [] [4,48] [] (Ao 0)=C6 Ao:=bn HE 0 fun _=>rfl
theorem Po:round 2 [4,8,62,63] [] [4,8,62] [] (Ao 1)=C7 Ao:=bn HE 1 fun _=>rfl
def AL:Option PC:=cF [4,5,6,7,8,54,80,109,118,9,10] [] Tryz.f63 63 [2,3]
def Sc:PT:=
 (.call ⟨[],[(3,(.mk [r1])),(2,(.mk [r0]))]⟩ [] 12 14 [kW]
 (.ite (aP bU (pi 0))
 (.ret bU)
 (.call ⟨[(7,(.llen (pc o2 1))),(6,(.llen (pc o2 3)))],[]⟩ [] 25 104 [(pc o3 0),(.llen (pc o2 3))]
 (.call ⟨[(26,jV)],[]⟩ [(26,true)] 30 104 [(pc o3 1),r6]
 (.call ⟨[(36,(peq (pc o3 2) (pi (-1)))),(32,(.pick ib rA pF))],[]⟩ [(36,false),(32,true)] 40 104 [(pc o3 2),r6]
 (.call ⟨[(47,(peq (pc o3 11) (pi (-1)))),(43,(.pick O6 (.pick iV pT rC) pF))],[]⟩ [(47,false),(43,true)] 51 104 [(pc o3 11),r6]
 (.blockS ⟨[(8,(.pick tn (.pick O8 pT l8) pF))],[]⟩ 0 [4,54,55,56,57,65,66,72,73,79,80,81,82,83,84,88,89,93,94,98,99,103,104,108,109,110,111,112,113,117,118,119,120,121,122,126,127,137,138,142] []
 (.call ⟨[(57,(.nt r8))],[]⟩ [(57,false)] 63 104 [(pc o3 4),(.llen (pc o2 0))]
 (.call ⟨[(66,(.pick zl pT (.nt Ig)))],[]⟩ [(66,false)] 70 104 [(pc o3 9),r7]
 (.call ⟨[(73,(.pick O9 pT (.nt Pa)))],[]⟩ [(73,false)] 77 104 [(pc o3 10),r7]
 (.iteS ⟨[],[]⟩ (.pick CY pT (.nt Pc)) [4,80,81,82,83,84,88,89,93,94,98,99,103,104,108,109,110,111,112,113,117,118,119,120,121,122,126,127,137,138,142] []
 (.ret (pi 1))
 (.iteS ⟨[],[]⟩ (.pick (.pick (.pick (.pick (.pick (ah (pc o3 3) (pi 1)) pT (bh (pc o3 3) vR)) pT (ah (pc o3 8) (pi 0))) pT (bh (pc o3 8) (pi 100000))) pT (ah (pc o3 12) (pi 0))) pT (bh (pc o3 12) (pi 1000))) [4,109,110,111,112,113,117,118,119,120,121,122,126,127,137,138,142] []
 (.ret (pi 3))
 (.iteS ⟨[],[]⟩ (.pick (ah (pc o3 14) (pi 1)) pT (bh (pc o3 14) (pi 4))) [4,118,119,120,121,122,126,127,137,138,142] []
 (.ret (pi 15))
 (.call ⟨[(138,(.pick (.pick (ah (pc o3 13) (pi 0)) pT (bh (pc o3 13) (pi 7))) pT (.pick (aP (.ai .and .i64 (pc o3 13) (pi 4)) (pi 0)) (peq (pc o3 2) (pi (-1))) pF)))],[]⟩ [(138,false)] 140 105 [(aD 15 o3)]
 (.ite (.pick (.r 138) pT (.nt (.r 140)))
 (.ret (pi 2))
 (.next ⟨[],[]⟩)))
 (.next ⟨[],[]⟩))
 (.next ⟨[],[]⟩))
 (.next ⟨[],[]⟩)))))
 (.iteS ⟨[],[]⟩ (peq (pc o3 5) (pi 4)) [4] []
 (.call ⟨[],[]⟩ [] 153 106 [(aD 8 o2),(pc o3 9),(pc o3 10)]
 (.ret (.tget (.r 153) 1)))
 (.next ⟨[],[]⟩)
 (.ret (pi 0))))))))))
theorem Ze:AL.map told=some (Sc,[]):=by kernel_rfl
theorem arL:tree (ae AL)=Sc:=ba Ze
def FL:Option PC:=cF [4] [] Tryz.f104 104 []
def Sd:PT:=
 (.ret O1)
theorem Zf:FL.map told=some (Sd,[]):=by kernel_rfl
theorem arM:tree (ae FL)=Sd:=ba Zf
def FM:Option PC:=cF [2,8,19,40] [] Tryz.f105 105 [1,3]
def Se:PT:=
 (.ite (.pick (peq (pc jU 0) (pi 0)) (peq (pc jU 0) (pi 0)) (peq (pc jU 0) (pi 4)))
 (.ret (.pick (peq (pc jU 1) (pi 0)) (peq (pc jU 2) (pi 0)) pF))
 (.ite (.pick (peq (pc jU 0) (pi 1)) (peq (pc jU 0) (pi 1)) (peq (pc jU 0) (pi 2)))
 (.ret (.pick (.pick (cg (pc jU 1) (pi 1)) (bB (pc jU 1) (pi 400)) pF) (.pick (peq (pc jU 2) (pi 0)) pT (peq (pc jU 2) (pi 1))) pF))
 (.ite (peq (pc jU 0) (pi 3))
 (.ret (.pick (.pick (cg (pc jU 1) (pc (.mk [r0]) 8)) (bB (pc jU 1) (pi 100000)) pF) (peq (pc jU 2) (pi 0)) pF))
 (.ret pF))))
theorem Zg:FM.map told=some (Se,[]):=by kernel_rfl
theorem arN:tree (ae FM)=Se:=ba Zg
def xl:Option PC:=cF [6,7] [] Tryz.f106 106 [3,9]
def Ki:Nat→PC:=br xl
def ak6 (b:Nat→PC):PC:=.block 0 [6,7,13,14] [] (.loop [6,7,13] [] (b 0))
def De (b:Nat→PC):PT:=
 (.ite (ah cK bU)
 (.chk (ao bz cK)
 (.ite (.pick (peq (pc (.setc z3 0 (pn bz cK)) 0) r1) (peq (pc (.setc z3 0 (pn bz cK)) 1) r2) pF)
 (.ret (.tup [(pc (.setc z3 0 (pn bz cK)) 2),(pi 0)]))
 (.next ⟨[(13,(aG cK (pi 1)))],[]⟩)))
 (.exit 0 ⟨[(14,(ah cK bU))],[]⟩))
def Rp (b:Nat→PC):PT:=
 (.brk ⟨[(13,(pi 0)),(12,(.llen zh)),(11,zh),(7,(pi 0)),(6,(pi 0))],[]⟩
(ak6 b)
 (.ret (.tup [(pi 0),(pi 4)])))
def af0 (b:Nat→PC):PT×List (Shp×PT):=(Rp b,[(.lp 0 [6,7,13,14] [] [6,7,13] [],De b)])
theorem NY:xl.map told=some (af0 (bj xl)):=by kernel_rfl
theorem aqS:tree (ae xl)=Rp Ki:=bO NY
theorem Pt:round 0 [6,7,13,14] [] [6,7,13] [] (Ki 0)=De Ki:=bn NY 0 fun _=>rfl
def xf:Option PC:=cF [6,8,9,76,92,98] [] Tryz.f64 64 [3,4,7,11]
def Kd:Nat→PC:=br xf
def akX (b:Nat→PC):PC:=.block 0 [8,9,51,52] [] (.loop [8,9,51] [] (b 0))
def IC (b:Nat→PC):PT:=
 (.ite (ah l8 kA)
 (.chk (ao pX l8)
 (.next ⟨[(8,(pc (.setc z9 0 (pn pX l8)) 6)),(9,(.pick r9 pT (.pick (.pick (peq (pc o7 0) (pi 1)) (peq (pc (.setc z9 0 (pn pX l8)) 0) (pi 1)) pF) (peq (pc (.setc z9 0 (pn pX l8)) 1) (pc o7 1)) pF))),(51,(aG l8 (pi 1)))],[]⟩))
 (.exit 0 ⟨[(52,(ah l8 kA))],[]⟩))
def Rb (b:Nat→PC):PT:=
 (.chk (ao (pc (.mk [r1]) 15) r2)
 (.call ⟨[],[(7,mR),(4,(.mk [r1])),(3,(.mk [r0]))]⟩ [] 23 65 [(pc mR 1),(pi 0),(bH (pc (.mk [r1]) 14) (pi 1))]
 (.ite (.nt dJ)
 (.ret (pi 15))
 (.call ⟨[],[]⟩ [] 31 65 [(pc o7 2),(pi 0),Ie]
 (.call ⟨[(33,(.nt jW))],[]⟩ [(33,false)] 40 65 [(pc o7 7),(pi 0),(bH (.llen (pc o3 1)) (pi 1))]
 (.ite (.pick pU pT (.nt rC))
 (.ret (pi 1))
 (.chk (.slok (pc o4 15) (pi 0) r2)
 (.brk ⟨[(51,(pi 0)),(50,(.llen (.slc (pc o4 15) (pi 0) r2))),(49,(.slc (pc o4 15) (pi 0) r2)),(9,pF),(8,(pc o4 8))],[]⟩
(akX b)
 (.blockS ⟨[],[]⟩ 2 [6,76,77,78,79,80,81,82,91,92,93,94,95,96,97,98,99] []
 (.call ⟨[],[]⟩ [] 80 65 [(pc o7 6),r8,(pi 100000)]
 (.iteS ⟨[],[]⟩ (.pick (.nt rE) pT (.pick (peq r2 (pi 0)) (aP (pc o7 6) r8) pF)) [6,92,93,94,95,96,97,98,99] []
 (.ret (pi 13))
 (.call ⟨[],[]⟩ [] 96 107 [(aD 8 o3),(aD 19 o4),r2]
 (.ite (.nt r96)
 (.ret (pi 14))
 (.ite r9
 (.ret (pi 5))
 (.next ⟨[],[]⟩))))
 (.next ⟨[],[]⟩)))
 (.ret (pi 0)))))))))))
def afS (b:Nat→PC):PT×List (Shp×PT):=(Rb b,[(.lp 0 [8,9,51,52] [] [8,9,51] [],IC b)])
theorem NT:xf.map told=some (afS (bj xf)):=by kernel_rfl
theorem aqC:tree (ae xf)=Rb Kd:=bO NT
theorem aam:round 0 [8,9,51,52] [] [8,9,51] [] (Kd 0)=IC Kd:=bn NT 0 fun _=>rfl
def Fa:Option PC:=cF [6] [] Tryz.f65 65 []
def Ra:PT:=
 (.ret (.pick (cg r0 r1) (bB r0 r2) pF))
theorem Yr:Fa.map told=some (Ra,[]):=by kernel_rfl
theorem aqB:tree (ae Fa)=Ra:=ba Yr
def E9:Option PC:=cF [6,9,10,66,103,113,11,140,149] [] Tryz.f107 107 [3,4,7,8]
def Q9:PT:=
 (.chk (ao (pc (.mk [r1]) 15) r2)
 (.ite (.pick (.cb .neq (peq r2 (pi 0)) (peq (pc mR 0) (pi 0))) pT (.pick (aP (pc mR 0) (pi 2)) (aP (pc mR 4) (pi (-1))) pF))
 (.ret pF)
 (.ite (.pick (.pick (aP (pc mR 0) (pi 3)) (aP (pc mR 0) (pi 4)) pF) (aP (pc mR 3) (pi (-1))) pF)
 (.ret pF)
 (.call ⟨[(9,(.pick (peq (pc mR 5) (pi 0)) (peq (pc mR 8) (pi 0)) pF))],[(8,(.setc Jw 0 (aD 15 (.mk [r1])))),(7,mR),(4,(.mk [r1])),(3,(.mk [r0]))]⟩ [] 58 65 [(pc mR 5),(pi 1),vR]
 (.blockS ⟨[(65,(pc o7 0)),(10,(.pick Z4 (peq (pc o7 8) (pi 0)) pF))],[]⟩ 0 [6,66,67,103,104,113,114,140,141,149,150] []
 (.iteS ⟨[],[]⟩ (peq vX (pi 0)) [6,103,104,113,114,140,141,149,150] []
 (.ret (.pick (.pick (.pick (.pick (.pick (peq (pc o7 2) (pc o8 0)) (peq (pc o7 5) (pi 0)) pF) (peq (.ai .or .i64 (pc o7 8) (pi 1)) (pi 1)) pF) (peq (pc o7 1) (pi 0)) pF) (peq (pc o7 6) (pc o8 8)) pF) (peq (pc o7 7) (pc o8 9)) pF))
 (.iteS ⟨[],[]⟩ (peq vX (pi 1)) [6,113,114,140,141,149,150] []
 (.ret (.pick (peq (pc o7 2) (pc o8 1)) bC pF))
 (.iteS ⟨[],[]⟩ (peq vX (pi 2)) [6,140,141,149,150] []
 (.call ⟨[(11,(pi 6))],[]⟩ [] 121 65 [(pc o7 4),(pi (-1)),Ie]
 (.call ⟨[(127,(.pick anK (peq (pc o7 5) (pi 0)) pF))],[]⟩ [(127,true)] 130 65 [(pc o7 8),(pi 0),(pi 7)]
 (.ret (.pick (.pick ZY (.r 130) pF) (aP (.ai .and .i64 (pc o7 8) bz) bz) pF))))
 (.iteS ⟨[],[]⟩ (peq vX (pi 3)) [6,149,150] []
 (.call ⟨[(143,r9)],[]⟩ [(143,true)] 147 162 [(aD 19 o4),r2,(.lst [(pi 0),(pi 1),(pi 2),(pi 4)])]
 (.ret (.pick (.r 143) (.r 147) pF)))
 (.iteS ⟨[],[]⟩ (peq vX (pi 4)) [6] []
 (.call ⟨[(159,(.pick bC (aP (pc o7 2) (pc o8 1)) pF))],[]⟩ [(159,true)] 163 162 [(aD 19 o4),r2,(.lst [(pi 0),(pi 2)])]
 (.ret (.pick (.r 159) (.r 163) pF)))
 (.next ⟨[],[]⟩)
 (.next ⟨[],[]⟩))
 (.next ⟨[],[]⟩))
 (.next ⟨[],[]⟩))
 (.next ⟨[],[]⟩))
 (.next ⟨[],[]⟩))
 (.ret pF))))))
theorem Yq:E9.map told=some (Q9,[]):=by kernel_rfl
theorem aqA:tree (ae E9)=Q9:=ba Yq
def E8:Option PC:=cF [6,7] [] Tryz.f162 162 [3]
def Q7:PT:=
 (.chk (ao mS r1)
 (.call ⟨[(7,(pc (pn mS r1) 3))],[(3,(.mk [r0]))]⟩ [] 17 65 [(pc (pn mS r1) 3),(pi 0),(bH r1 (pi 1))]
 (.chk (.nt (.an (.an dt pT) (.nt (ao (pc o3 15) r1))))
 (.call ⟨[(18,dt)],[]⟩ [(18,true)] 27 163 [(aD 19 o3),r7,(pc (pn (pc o3 15) r1) 1)]
 (.chk (.nt (.an (.an (.pick dI de pF) pT) (.nt (ao (pc o3 15) r7))))
 (.call ⟨[(29,(.pick dI de pF))],[]⟩ [(29,true)] 37 185 [r2,(pc (pn (pc o3 15) r7) 0)]
 (.ret (.pick mU mV pF))))))))
theorem Yp:E8.map told=some (Q7,[]):=by kernel_rfl
theorem aqy:tree (ae E8)=Q7:=ba Yp
def Fb:Option PC:=cF [6] [] Tryz.f163 163 [3]
def Jn:PT:=
 (.chk (.nt (.an (.an (.nt (peq r1 (pi 0))) pT) (.nt (ao mS r1))))
 (.ret (.pick (peq r1 (pi 0)) pT (peq (pc (pn mS r1) 1) r2))))
theorem Ys:Fb.map told=some (Jn,[]):=by kernel_rfl
theorem aqD:tree (ae Fb)=Jn:=ba Ys
def Fu:Option PC:=cF [4] [] Tryz.f185 185 []
def RK:PT:=
 (.call ⟨[],[]⟩ [] 7 221 [r0,r1]
 (.ret (cg r7 (pi 0))))
theorem YK:Fu.map told=some (RK,[]):=by kernel_rfl
theorem ard:tree (ae Fu)=RK:=ba YK
def xE:Option PC:=cF [4,5] [] Tryz.f221 221 []
def Ks:Nat→PC:=br xE
def aly (b:Nat→PC):PC:=.block 0 [4,8,9] [] (.loop [4,8] [] (b 0))
def Dx (b:Nat→PC):PT:=
 (.ite (ah r8 r7)
 (.chk (ao r0 r8)
 (.ite (peq r1 (pn r0 r8))
 (.ret r8)
 (.next ⟨[(8,og)],[]⟩)))
 (.exit 0 ⟨[(9,(ah r8 r7))],[]⟩))
def RP (b:Nat→PC):PT:=
 (.brk ⟨[(8,(pi 0)),(7,(.llen r0)),(4,(pi 0))],[]⟩
(aly b)
 (.ret (pi (-1))))
def agi (b:Nat→PC):PT×List (Shp×PT):=(RP b,[(.lp 0 [4,8,9] [] [4,8] [],Dx b)])
theorem N7:xE.map told=some (agi (bj xE)):=by kernel_rfl
theorem ark:tree (ae xE)=RP Ks:=bO N7
theorem PQ:round 0 [4,8,9] [] [4,8] [] (Ks 0)=Dx Ks:=bn N7 0 fun _=>rfl
def xd:Option PC:=cF [4,5,7] [] Tryz.f66 66 [2,3,6]
def Kb:Nat→PC:=br xd
def akV (b:Nat→PC):PC:=.block 0 [4,11,12] [] (.loop [4,11] [] (b 0))
def IA (b:Nat→PC):PT:=
 (.ite tj
 (.blockS ⟨[],[]⟩ 1 [4,5,6,7,13,14,15,16,17,18,19,20,21,22,23,24,25,26,27,28,29,30,31,32,37,38,39,40,41,42,43,44,45,46,47,48,58,59,69,70,71,72,73] [6]
 (.chk (ao r9 bz)
 (.call ⟨[(5,bz)],[(6,(.setc z9 0 (pn r9 bz)))]⟩ [] 22 65 [(pc (.setc z9 0 (pn r9 bz)) 3),(pi 0),(bH (pc o3 14) (pi 1))]
 (.ite (.nt rz)
 (.ret (pi 15))
 (.call ⟨[],[]⟩ [] 30 65 [(pc o6 7),(pi 0),(bH (.llen (pc o2 1)) (pi 1))]
 (.call ⟨[(32,(.nt rA))],[]⟩ [(32,false)] 35 65 [(pc o6 0),(pi 0),(pi 9)]
 (.ite (.pick O6 pT (.nt vU))
 (.ret (pi 1))
 (.call ⟨[],[]⟩ [] 41 108 [(aD 8 o2),(aD 19 o3),(aD 9 o6)]
 (.ite (.nt pV)
 (.ret (pi 14))
 (.ite (aP (pc o6 4) (pi (-1)))
 (.chk (ao (pc o3 15) (pc o6 4))
 (.ite (bh r5 (pi 0))
 (.chk (ao (pc o3 17) (bH r5 (pi 1)))
 (.call ⟨[],[]⟩ [] 72 65 [(pc o6 6),(.mx (.mx (pc o3 8) (pc (pn (pc o3 15) (pc o6 4)) 6)) (pc (pn (pc o3 17) (bH r5 (pi 1))) 6)),(pi 100000)]
 (.ite (.nt Ii)
 (.ret (pi 13))
 (.next ⟨[],[]⟩))))
 (.call ⟨[],[]⟩ [] 72 65 [(pc o6 6),(.mx (pc o3 8) (pc (pn (pc o3 15) (pc o6 4)) 6)),(pi 100000)]
 (.ite (.nt Ii)
 (.ret (pi 13))
 (.next ⟨[],[]⟩)))))
 (.ite (bh r5 (pi 0))
 (.chk (ao (pc o3 17) (bH r5 (pi 1)))
 (.call ⟨[],[]⟩ [] 72 65 [(pc o6 6),(.mx (pc o3 8) (pc (pn (pc o3 17) (bH r5 (pi 1))) 6)),(pi 100000)]
 (.ite (.nt Ii)
 (.ret (pi 13))
 (.next ⟨[],[]⟩))))
 (.call ⟨[],[]⟩ [] 72 65 [(pc o6 6),(pc o3 8),(pi 100000)]
 (.ite (.nt Ii)
 (.ret (pi 13))
 (.next ⟨[],[]⟩)))))))))))))
 (.next ⟨[(11,zj)],[]⟩))
 (.exit 0 ⟨[(12,tj)],[]⟩))
def Q6 (b:Nat→PC):PT:=
 (.brk ⟨[(11,(pi 0)),(10,(.llen (pc (.mk [r1]) 17))),(9,(pc (.mk [r1]) 17)),(4,(pi 0))],[(3,(.mk [r1])),(2,(.mk [r0]))]⟩
(akV b)
 (.ret (pi 0)))
def afQ (b:Nat→PC):PT×List (Shp×PT):=(Q6 b,[(.lp 0 [4,11,12] [] [4,11] [],IA b)])
theorem NR:xd.map told=some (afQ (bj xd)):=by kernel_rfl
theorem aqx:tree (ae xd)=Q6 Kb:=bO NR
theorem aak:round 0 [4,11,12] [] [4,11] [] (Kb 0)=IA Kb:=bn NR 0 fun _=>rfl
def E7:Option PC:=cF [6,7,8,9,65,80,100,111] [] Tryz.f108 108 [3,4,5]
def Q5:PT:=
 (.call ⟨[],[(5,(.mk [r2])),(4,(.mk [r1])),(3,(.mk [r0]))]⟩ [] 16 65 [(pc (.mk [r2]) 4),(pi 0),(bH (.llen (pc (.mk [r1]) 15)) (pi 1))]
 (.call ⟨[(17,bx)],[]⟩ [(17,true)] 23 163 [(aD 19 o4),(pc o5 4),(pc o5 3)]
 (.chk (.nt (.an (.an (.pick dt dJ pF) pT) (.nt (ao (pc o4 15) (pc o5 4)))))
 (.call ⟨[(8,(.pick (.pick dt dJ pF) (peq (pc (pn (pc o4 15) (pc o5 4)) 2) (pc o5 1)) pF)),(7,(.pick dt dJ pF))],[]⟩ [] 44 65 [(pc o5 2),(pi 0),Ie]
 (.call ⟨[(9,vV)],[]⟩ [] 51 65 [(pc o5 1),(pi 0),Ie]
 (.ite (.pick (.nt l8) pT (.pick (aP (pc o5 0) (pi 4)) (aP (pc o5 8) (pi 0)) pF))
 (.ret pF)
 (.blockS ⟨[(64,(pc o5 0))],[]⟩ 0 [6,65,66,80,81,100,101,111,112] []
 (.iteS ⟨[],[]⟩ (.pick (peq jX (pi 0)) (peq jX (pi 0)) (.pick (peq jX (pi 1)) (peq jX (pi 1)) (peq jX (pi 2)))) [6,80,81,100,101,111,112] []
 (.ret (.pick (.pick r9 (peq (pc o5 4) (pi (-1))) pF) (peq (pc o5 5) (pi 0)) pF))
 (.iteS ⟨[],[]⟩ (.pick (peq jX (pi 3)) (peq jX (pi 3)) (.pick (peq jX (pi 5)) (peq jX (pi 5)) (peq jX (pi 4)))) [6,100,101,111,112] []
 (.call ⟨[(90,(.pick r9 (peq (pc o5 4) (pi (-1))) pF))],[]⟩ [(90,true)] 93 65 [(pc o5 5),(pi 0),vR]
 (.call ⟨[(95,(.pick Z7 Pd pF))],[]⟩ [(95,true)] 98 65 [(pc o5 8),(pi 0),(pi 1)]
 (.ret (.pick r95 r98 pF))))
 (.iteS ⟨[],[]⟩ (peq jX (pi 6)) [6,111,112] []
 (.call ⟨[(106,(.pick r9 r8 pF))],[]⟩ [(106,true)] 109 65 [(pc o5 5),(pi 1),vR]
 (.ret (.pick O3 anI pF)))
 (.ite (peq jX (pi 9))
 (.ret (.pick (.pick (peq (pc o5 2) (pi (-1))) r8 pF) (peq (pc o5 5) (pi 0)) pF))
 (.next ⟨[],[]⟩))
 (.next ⟨[],[]⟩))
 (.next ⟨[],[]⟩))
 (.next ⟨[],[]⟩))
 (.ret (.pick (.pick (peq (pc o5 2) (pi (-1))) r7 pF) (peq (pc o5 5) (pi 0)) pF)))))))))
theorem Yo:E7.map told=some (Q5,[]):=by kernel_rfl
theorem aqw:tree (ae E7)=Q5:=ba Yo
def xe:Option PC:=cF [2,3] [] Tryz.f67 67 [1,4,5,52]
def Kc:Nat→PC:=br xe
def akW (b:Nat→PC):PC:=.block 0 [2,9,10] [] (.loop [2,9] [] (b 0))
def IB (b:Nat→PC):PT:=
 (.ite (ah r9 r8)
 (.blockS ⟨[],[]⟩ 1 [2,3,4,11,12,13,14,15,16,17,18,27,28,33,34,35] [4]
 (.chk (ao r7 r9)
 (.call ⟨[(3,r9)],[(4,(.setc z3 0 (pn r7 r9)))]⟩ [] 16 65 [(pc (.setc z3 0 (pn r7 r9)) 0),(pi 0),(pi 4)]
 (.call ⟨[(18,(.nt bx))],[]⟩ [(18,false)] 25 65 [(pc o4 1),(pi 0),(bH (.llen (pc o1 15)) (pi 1))]
 (.call ⟨[(28,(.pick dI pT (.nt jV)))],[]⟩ [(28,false)] 31 65 [(pc o4 2),(pi 0),(pi 1)]
 (.ite (.pick oq pT (.nt jW))
 (.ret (pi 1))
 (.ite (peq r3 (pi 0))
 (.exit 1 ⟨[],[]⟩)
 (.chk (ao (pc o1 18) (bH r3 (pi 1)))
 (.call ⟨[],[(5,(.setc z3 0 (pn (pc o1 18) (bH r3 (pi 1)))))]⟩ [] 46 110 [(pc (.setc z3 0 (pn (pc o1 18) (bH r3 (pi 1)))) 1),(pc o4 1)]
 (.call ⟨[],[]⟩ [] 51 110 [(pc o5 0),(pc o4 0)]
 (.call ⟨[],[]⟩ [] 53 109 [(.lst [CW,l8])]
 (.ite (cg Z3 (pi 0))
 (.ret (pi 5))
 (.next ⟨[],[]⟩))))))))))))
 (.next ⟨[(9,(aG r9 (pi 1)))],[]⟩))
 (.exit 0 ⟨[(10,(ah r9 r8))],[]⟩))
def Q8 (b:Nat→PC):PT:=
 (.brk ⟨[(9,(pi 0)),(8,(.llen zg)),(7,zg),(2,(pi 0))],[(1,(.mk [r0]))]⟩
(akW b)
 (.ret (pi 0)))
def afR (b:Nat→PC):PT×List (Shp×PT):=(Q8 b,[(.lp 0 [2,9,10] [] [2,9] [],IB b)])
theorem NS:xe.map told=some (afR (bj xe)):=by kernel_rfl
theorem aqz:tree (ae xe)=Q8 Kc:=bO NS
theorem aal:round 0 [2,9,10] [] [2,9] [] (Kc 0)=IB Kc:=bn NS 0 fun _=>rfl
def EY:Option PC:=cF [4,5,6] [] Tryz.f110 110 []
def QK:PT:=
 (.call ⟨[],[]⟩ [] 8 164 [r0]
 (.call ⟨[(5,r8)],[]⟩ [] 10 164 [r1]
 (.ite r5
 (.ite bC
 (.ret (pi 0))
 (.ret (pi (-1))))
 (.ite bC
 (.ret (pi 1))
 (.ite (ah r0 r1)
 (.ret (pi (-1)))
 (.ite (bh r0 r1)
 (.ret (pi 1))
 (.ret (pi 0))))))))
theorem Yb:EY.map told=some (QK,[]):=by kernel_rfl
theorem ap6:tree (ae EY)=QK:=ba Yb
def EZ:Option PC:=cF [2] [] Tryz.f164 164 []
def QM:PT:=
 (.ret (aP r0 r0))
theorem Yc:EZ.map told=some (QM,[]):=by kernel_rfl
theorem ap8:tree (ae EZ)=QM:=ba Yc
def wY:Option PC:=cF [2,3,5] [] Tryz.f109 109 []
def J4:Nat→PC:=br wY
def aku (b:Nat→PC):PC:=.block 0 [2,8,9] [] (.loop [2,8] [] (b 0))
def C2 (b:Nat→PC):PT:=
 (.ite (ah r8 r7)
 (.chk (ao r6 r8)
 (.ite (aP (pn r6 r8) r3)
 (.ret (pn r6 r8))
 (.next ⟨[(8,og)],[]⟩)))
 (.exit 0 ⟨[(9,(ah r8 r7))],[]⟩))
def QL (b:Nat→PC):PT:=
 (.brk ⟨[(8,(pi 0)),(7,(.llen r0)),(6,r0),(3,(pi 0)),(2,(pi 0))],[]⟩
(aku b)
 (.ret r3))
def afB (b:Nat→PC):PT×List (Shp×PT):=(QL b,[(.lp 0 [2,8,9] [] [2,8] [],C2 b)])
theorem NM:wY.map told=some (afB (bj wY)):=by kernel_rfl
theorem ap7:tree (ae wY)=QL J4:=bO NM
theorem Pj:round 0 [2,8,9] [] [2,8] [] (J4 0)=C2 J4:=bn NM 0 fun _=>rfl
def w7:Option PC:=cF [8] [] Tryz.f17 17 [4,9,11,65547,69643,73739,77835,12,8204,14,69,82]
def An:Nat→PC:=br w7
def aky (b:Nat→PC):PC:=.block 2 [31,32] [12,8204] (.loop [31] [12,8204] (b 0))
def akz (b:Nat→PC):PC:=.block 0 [9,17,18] [9] (.loop [9,17] [9] (b 1))
def Ir (b:Nat→PC):PT:=
 (.ite (ah jW rA)
 (.chk (ao mU jW)
 (.ite (.pick (.pick (.pick (peq (pc tl 3) (pi 1)) (.pick (peq (pc tl 1) (pi 1)) pT (pc tl 6)) pF) (cg (pc tl 2) (pi 0)) pF) (ah (pc tl 2) (.llen (pc o4 3))) pF)
 (.chk (ao (pc o4 3) (pc tl 2))
 (.chk (bB (.llen (.app (.o 8204) (.lst [(pc (pn (pc o4 3) (pc tl 2)) 2)]))) cn)
 (.next ⟨[(31,(aG jW (pi 1)))],[(12,(.setc NG 1 pN)),(8204,(.app (.o 8204) (.lst [(pc (pn (pc o4 3) (pc tl 2)) 2)])))]⟩)))
 (.next ⟨[(31,(aG jW (pi 1)))],[]⟩)))
 (.exit 2 ⟨[(32,(ah jW rA))],[]⟩))
def Is (b:Nat→PC):PT:=
 (.ite (ah dt bx)
 (.blockS ⟨[(18,(ah dt bx))],[]⟩ 1 [9,11,12,19,20,21,22,23,24,25,26,27,28,29,30,31,32,73,75,76,78,79,81,82,83] [11,65547,69643,73739,77835,8204,12,9,82]
 (.chk (ao bF dt)
 (.call ⟨[],[(8204,pL),(12,(.setc (.con (.agg [(.int 0),(.list [])])) 0 (.mk [(pc (.setc pP 0 (pn bF dt)) 3),pL])))]⟩ [] 29 21 [(aD 8 o4),r1,(aD 19 (.setc pP 0 (pn bF dt))),r3]
 (.brk ⟨[(31,(pi 0)),(30,(.llen mU))],[]⟩
(aky b)
 (.mcall ⟨[],[]⟩ 1000000013 68 [pN,(.o 8204)]
 (.call ⟨[],[]⟩ [] 78 69 [(.tget (.o 1000000013) 1)]
 (.chk (bB (.llen (.app o9 (.lst [(.mk [(pc (.setc NG 1 pN) 0),Ij])]))) cn)
 (.next ⟨[(9,pN)],[(9,(.app o9 (.lst [(.mk [(pc (.setc NG 1 pN) 0),Ij])])))]⟩)))))))
 (.next ⟨[(17,(aG dt (pi 1)))],[]⟩))
 (.exit 0 ⟨[(18,(ah dt bx))],[]⟩))
def QR (b:Nat→PC):PT:=
 (.brk ⟨[(17,(pi 0)),(16,(.llen r2)),(15,r2),(9,pN)],[(9,pL),(4,(.mk [r0]))]⟩
(akz b)
 (.ret o9))
def afF (b:Nat→PC):PT×List (Shp×PT):=(QR b,[(.lp 2 [31,32] [12,8204] [31] [12,8204],Ir b),(.lp 0 [9,17,18] [9] [9,17] [9],Is b)])
theorem HA:w7.map told=some (afF (bj w7)):=by kernel_rfl
theorem aqf:tree (ae w7)=QR An:=bO HA
theorem aab:round 2 [31,32] [12,8204] [31] [12,8204] (An 0)=Ir An:=bn HA 0 fun _=>rfl
theorem aac:round 0 [9,17,18] [9] [9,17] [9] (An 1)=Is An:=bn HA 1 fun _=>rfl
def wU:Option PC:=cF [8,11] [] Tryz.f21 21 [4,6,9,10,28]
def JZ:Nat→PC:=br wU
def akq (b:Nat→PC):PC:=.block 0 [10,21,22] [10] (.loop [10,21] [10] (b 0))
def Ip (b:Nat→PC):PT:=
 (.ite (ah fu bR)
 (.blockS ⟨[],[]⟩ 1 [10,11,23,25,26,27,28,29] [10,28]
 (.call ⟨[],[]⟩ [] 27 74 [(aD 31 o9),fu]
 (.chk (bB (.llen (.app bX (.lst [de]))) cn)
 (.next ⟨[(10,pN)],[(10,(.app bX (.lst [de])))]⟩)))
 (.next ⟨[(21,(aG fu (pi 1)))],[]⟩))
 (.exit 0 ⟨[(22,(ah fu bR))],[]⟩))
def Qx (b:Nat→PC):PT:=
 (.call ⟨[],[]⟩ [] 16 73 [kW,r1,(aD 19 (.mk [r2])),r3]
 (.brk ⟨[(21,(pi 0)),(20,(.llen (pc (.setc OQ 0 bx) 25))),(10,pN)],[(10,pL),(9,(.setc OQ 0 bx))]⟩
(akq b)
 (.ret bX)))
def afw (b:Nat→PC):PT×List (Shp×PT):=(Qx b,[(.lp 0 [10,21,22] [10] [10,21] [10],Ip b)])
theorem NH:wU.map told=some (afw (bj wU)):=by kernel_rfl
theorem apS:tree (ae wU)=Qx JZ:=bO NH
theorem Z9:round 0 [10,21,22] [10] [10,21] [10] (JZ 0)=Ip JZ:=bn NH 0 fun _=>rfl
def EO:Option PC:=cF [] [] Tryz.f73 73 [4,6,8,9]
def Qz:PT:=
 (.call ⟨[],[(8,OQ),(4,(.mk [r0]))]⟩ [] 12 29 [(aD 19 (.mk [r2])),r3]
 (.call ⟨[(16,(aD 19 (.setc pP 0 bU))),(15,r3),(14,r1),(13,(aD 8 o4))],[(9,(.setc pP 0 bU))]⟩ [] 21 81 [(aD 8 o4),r1,(pi 0),(aD 19 (.setc pP 0 bU)),r3]
 (.call ⟨[],[]⟩ [] 22 35 [fu]
 (.call ⟨[],[]⟩ [] 27 31 [(aD 8 o4),r1,(aD 19 o9),r3]
 (.ret (aD 31 (.setc o8 0 (.mk [cK,bD,bF,bx,rz,de]))))))))
theorem XZ:EO.map told=some (Qz,[]):=by kernel_rfl
theorem apU:tree (ae EO)=Qz:=ba XZ
end Rm
