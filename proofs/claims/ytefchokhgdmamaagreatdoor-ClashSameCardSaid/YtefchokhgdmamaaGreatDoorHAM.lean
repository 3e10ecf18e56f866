/-
  The functions of this seat, compiled (1).
-/
import Derived.Test.YtefchokhgdmamaaGreatDoorHAJ
import Derived.KernelRfl
set_option linter.unusedVariables false
set_option maxRecDepth 100000
noncomputable section
namespace Rm
open Go Go.Proofs Cx
def Fh:Option PC:=cF [10,11,12,13,14,15,16,17] [] Tryz.f5 5 [5,9]
def Qg:PT:=
 (.call ⟨[],[(9,(.mk [r4])),(5,(.mk [r0]))]⟩ [] 18 8 []
 (.call ⟨[(11,lu)],[]⟩ [] 21 9 [(aI 8 o5),(aI 24 o9)]
 (.ite (.nt mf)
 (.ret bK)
 (.call ⟨[],[]⟩ [] 30 10 [(aI 8 o5),r1,r2,r3,(aI 24 o9)]
 (.call ⟨[(14,(.tget uc 2)),(13,(.tget uc 1)),(12,(.tget uc 0))],[]⟩ [] 40 10 [(aI 8 o5),r2,r1,r3,(aI 24 o9)]
 (.call ⟨[(47,(.cb .neq cG (.tget pw 2))),(16,(.tget pw 1))],[]⟩ [(47,false)] 50 12 [cN,(.tget pw 0)]
 (.call ⟨[(53,(.pick Ix pT (.nt ly)))],[]⟩ [(53,false)] 56 12 [eC,dE]
 (.ite (.pick OM pT (.nt mh))
 (.ret pF)
 (.call ⟨[(60,bK)],[]⟩ [(60,true)] 66 13 [(aI 8 o5),r1,r2,r3,(aI 24 o9)]
 (.call ⟨[],[]⟩ [(60,true)] 72 13 [(aI 8 o5),r2,r1,r3,(aI 24 o9)]
 (.call ⟨[(75,(.pick zO (ar YH Dm) pF))],[]⟩ [(75,true)] 81 13 [(aI 8 o5),r1,r1,r3,(aI 24 o9)]
 (.ret (.pick Dp (bC uj (pi 1)) pF)))))))))))))
theorem Xb:Fh.map told=some (Qg,[]):=by kernel_rfl
theorem amI:tree (ah Fh)=Qg:=bA Xb
def Fj:Option PC:=cF [0,1,2,3] [] Tryz.f8 8 [5,6]
def Qj:PT:=
 (.call ⟨[],[]⟩ [] 9 22 [pL,(pi 2),(.lst [(pi 0)]),(.lst [(pi 1)])]
 (.call ⟨[(1,r9)],[]⟩ [] 14 22 [(.lst [(.mk [(pi 0),(pi 0),(pi 1)])]),(pi 0),(.lst [(pi 0),(pi 2)]),(.lst [(pi 0),(pi 1)])]
 (.call ⟨[(2,cG)],[]⟩ [] 20 22 [(.lst [(.mk [(pi 0),(pi 0),(pi 0)]),(.mk [(pi 2),(pi 0),(pi 1)])]),(pi 1),(.lst [(pi 0)]),(.lst [(pi 1)])]
 (.call ⟨[(3,gX)],[]⟩ [] 24 23 [(.lst [(.mk [(pi 1),(pi 0),(pi 1)])])]
 (.call ⟨[],[]⟩ [] 29 16 [(aI 19 (.setc zI 0 (.tget nV 1))),(pi 0),(pi 0),(pi 7)]
 (.chk (.nt (.an (.an Yx pT) (.nt (aB Dg (pi 0)))))
 (.ret (.pick Yx (.an (ar (pc (pn Dg (pi 0)) 0) (pi 0)) (.an (ar (pc (pn Dg (pi 0)) 1) (pi 0)) (.an (ar (pc (pn Dg (pi 0)) 2) (pi 1)) pT))) pF))))))))
theorem Xe:Fj.map told=some (Qj,[]):=by kernel_rfl
theorem amL:tree (ah Fj)=Qj:=bA Xe
def Fk:Option PC:=cF [8,11,12,13] [] Tryz.f22 22 [9,10]
def Qk:PT:=
 (.call ⟨[],[]⟩ [] 16 23 [r0]
 (.call ⟨[],[(10,(.setc zI 0 (.tget dE 1))),(9,(.setc Ox 0 (.tget dE 0)))]⟩ [] 22 10 [(aI 8 (.setc Ox 0 (.tget dE 0))),(pi 0),(pi 1),(pi 2),(aI 24 (.setc zI 0 (.tget dE 1)))]
 (.call ⟨[(27,(.tget zM 2)),(12,(.tget zM 1)),(11,(.tget zM 0))],[]⟩ [(27,true)] 30 13 [(aI 8 o9),(pi 0),(pi 1),(pi 2),(aI 24 cZ)]
 (.call ⟨[(34,(.pick fZ (ar uc r1) pF))],[]⟩ [(34,true)] 37 12 [bK,r2]
 (.call ⟨[(39,(.pick r34 pv pF))],[]⟩ [(39,true)] 42 12 [cN,r3]
 (.ret (.pick Iw YE pF)))))))
theorem Xf:Fk.map told=some (Qk,[]):=by kernel_rfl
theorem amM:tree (ah Fk)=Qk:=bA Xf
def Fi:Option PC:=cF [] [] Tryz.f23 23 [2,3,4,12292,5,6,20486,24582,28678,32774,7,69639,73735]
def Qh:PT:=
 (.ret (.tup [(aI 8 (.setc Ox 0 (.mk [(pc Ip 0),(pc Ip 1),(pc Ip 2),(pc Ip 3),(.lst [(.mk [(.con (.v (.string ⟨#[103,101,110,101,118,97]⟩))),pF,pL,(.lst [(.mk [(pi 2),(.mk [(pc (.setc jj 0 (.mk [(pi 2),(pi 15),pL])) 0),(pc (.setc jj 0 (.mk [(pi 2),(pi 15),pL])) 1),pL])])])]),(.mk [(.con (.v (.string ⟨#[108,111,110,100,111,110]⟩))),pF,pL,(.lst [(.mk [(pi 2),(.mk [(pc Ov 0),(pc Ov 1),(pc Ov 2)])])])])]),pL,pL,pL]))),(aI 24 (.setc zI 0 (.mk [(.mk [(pc j4 0),(pc j4 1),(pc j4 2),(pc j4 3),(pc j4 4),(pc j4 5),(pc j4 6),(pc j4 7),(pc j4 8),(pc j4 9),(pc j4 10),(pc j4 11),(pc j4 12),(pc j4 13),(pc j4 14),(pc j4 15),pL,pL,(pc j4 18)]),(pi 0),(pi (-1)),(pi (-1)),(pi (-1)),(pi 20)])))]))
theorem Xc:Fi.map told=some (Qh,[]):=by kernel_rfl
theorem amJ:tree (ah Fi)=Qh:=bA Xc
def xo:Option PC:=cF [10,12,13,14,15,17,18,19,20] [] Tryz.f10 10 [5,9,11,96]
def nj:Nat→PC:=cd xo
def Wg (b:Nat→PC):PC:=.block 6 [11,85,86] [11] (.loop [11,85] [11] (b 0))
def Wh (b:Nat→PC):PC:=.block 4 [10,11,12,64,65] [11] (.loop [10,11,12,64] [11] (b 1))
def Wi (b:Nat→PC):PC:=.block 2 [10,11,12,58,59] [11] (.loop [10,11,12,58] [11] (b 2))
def ah9 (b:Nat→PC):PC:=.block 0 [10,11,12,15,51,52] [11] (.loop [10,11,12,15] [11] (b 3))
def IC (b:Nat→PC):PT:=
 (.ite (ak zQ Iz)
 (.chk (dD (cJ (cJ gq (pi 1)) zQ) (pi 0))
 (.chk (cS (.llen Ys) dx)
 (.next ⟨[(11,pN),(85,(bB zQ (pi 1)))],[(11,Ys)]⟩)))
 (.exit 6 ⟨[(86,(ak zQ Iz))],[]⟩))
def Dr (b:Nat→PC):PT:=
 (.ite (ak jJ Dl)
 (.blockS ⟨[(65,(ak jJ Dl))],[]⟩ 5 [10,11,12,18,19,66,67,68,69,70,71,72,73,74,75,76,77,78,82] [11]
 (.call ⟨[(70,r3),(69,r2),(68,r1),(67,(aI 8 o5)),(18,jJ)],[]⟩ [] 74 28 [(aI 24 o9),mY,jJ]
 (.call ⟨[],[]⟩ [] 75 13 [uh,ON,wJ,YI,Iy]
 (.ite (.pick (ar Dp (pi 2)) pT (ar Dp cG))
 (.exit 5 ⟨[],[]⟩)
 (.brk ⟨[(85,(pi 0)),(84,(.llen mY))],[]⟩
(Wg b)
 (.ret (.tup [mY,tS,pT]))))))
 (.next ⟨[(64,(bB jJ (pi 1)))],[]⟩))
 (.exit 4 ⟨[(65,(ak jJ Dl))],[]⟩))
def Ds (b:Nat→PC):PT:=
 (.ite (ak ug wI)
 (.blockS ⟨[(59,(ak ug wI))],[]⟩ 3 [10,11,12,17,60,61,62,63,64,65] [11]
 (.chk (aB mh ug)
 (.chk (dD gq (pi 0))
 (.brk ⟨[(64,(pi 0)),(63,(.ai .shl .i64 (pi 1) gq)),(17,(pn mh ug))],[]⟩
(Wh b)
 (.next ⟨[],[]⟩))))
 (.next ⟨[(58,(bB ug (pi 1)))],[]⟩))
 (.exit 2 ⟨[(59,(ak ug wI))],[]⟩))
def Dt (b:Nat→PC):PT:=
 (.ite (cS gq (pi 5))
 (.blockS ⟨[(52,(cS gq (pi 5))),(51,gq)],[]⟩ 1 [10,11,12,55,56,57,58,59] [11]
 (.call ⟨[],[]⟩ [] 56 27 [gq,(pi 0)]
 (.brk ⟨[(58,(pi 0)),(57,(.llen mh))],[]⟩
(Wi b)
 (.next ⟨[],[]⟩)))
 (.next ⟨[(15,(bB gq (pi 1)))],[]⟩))
 (.exit 0 ⟨[(51,gq),(52,(cS gq (pi 5)))],[]⟩))
def Jl (b:Nat→PC):PT:=
 (.ite (.pick (.pick (.pick (ak (pc (.mk [r4]) 19) (pi 0)) pT (dD (pc (.mk [r4]) 19) (.llen (pc (.mk [r4]) 15)))) pT (ak (pc (.mk [r4]) 20) (pi (-1)))) pT (dD (pc (.mk [r4]) 20) (.llen (pc (.mk [r4]) 15))))
 (.ret (.tup [pL,pL,pF]))
 (.call ⟨[(10,pL),(11,pN),(12,pF)],[(11,pL),(9,(.mk [r4])),(5,(.mk [r0]))]⟩ [] 50 13 [mX,r1,r2,r3,(aI 24 (.mk [r4]))]
 (.brk ⟨[(15,(pi 1)),(14,ly)],[]⟩
(ah9 b)
 (.ret (.tup [pL,pL,pF])))))
def adO (b:Nat→PC):PT×List (Shp×PT):=(Jl b,[(.lp 6 [11,85,86] [11] [11,85] [11],IC b),(.lp 4 [10,11,12,64,65] [11] [10,11,12,64] [11],Dr b),(.lp 2 [10,11,12,58,59] [11] [10,11,12,58] [11],Ds b),(.lp 0 [10,11,12,15,51,52] [11] [10,11,12,15] [11],Dt b)])
theorem zg:xo.map told=some (adO (bT xo)):=by kernel_rfl
theorem amy:tree (ah xo)=Jl nj:=cT zg
theorem YP:round 6 [11,85,86] [11] [11,85] [11] (nj 0)=IC nj:=bN zg 0 fun _=>rfl
theorem OT:round 4 [10,11,12,64,65] [11] [10,11,12,64] [11] (nj 1)=Dr nj:=bN zg 1 fun _=>rfl
theorem OU:round 2 [10,11,12,58,59] [11] [10,11,12,58] [11] (nj 2)=Ds nj:=bN zg 2 fun _=>rfl
theorem OV:round 0 [10,11,12,15,51,52] [11] [10,11,12,15] [11] (nj 3)=Dt nj:=bN zg 3 fun _=>rfl
def E8:Option PC:=cF [10,13,14,31,48] [] Tryz.f13 13 [5,9,11,12]
def P5:PT:=
 (.call ⟨[],[(9,(.mk [r4])),(5,(.mk [r0]))]⟩ [] 19 30 [mX,r1,r3,(aI 24 (.mk [r4]))]
 (.call ⟨[],[]⟩ [] 24 30 [(aI 8 o5),r2,r3,(aI 24 o9)]
 (.ite (.pick (.pick OD (.nt (pc (.setc nS 0 jI) 0)) pF) pT (.pick (ar (pc (.setc nS 0 nV) 4) (pi 0)) (.nt (pc (.setc nS 0 nV) 0)) pF))
 (.ret (pi 2))
 (.ite (.pick (.cb .neq OD (ar (pc (.setc nS 0 nV) 4) (pi 0))) pT (.pick OD (bC (pc (.setc nS 0 jI) 1) (pc (.setc nS 0 nV) 1)) pF))
 (.ret (pi 1))
 (.ret (pi 0))))))
theorem WY:E8.map told=some (P5,[]):=by kernel_rfl
theorem amv:tree (ah E8)=P5:=bA WY
def E2:Option PC:=cF [10] [] Tryz.f30 30 [4,7,8,9]
def P0:PT:=
 (.call ⟨[],[(8,nS),(4,(.mk [r0]))]⟩ [] 16 63 [mX,r1,r2,(aI 24 (.mk [r3]))]
 (.iteS ⟨[(10,(.tget dE 1))],[(9,(.setc nS 0 (.tget dE 0)))]⟩ (bC (pc (.setc nS 0 (.tget dE 0)) 2) (pi (-1))) [] [9]
 (.chk (aB (pc o4 4) (pc o9 2))
 (.call ⟨[],[]⟩ [] 31 64 [(pn (pc o4 4) (pc o9 2)),r2,fP]
 (.next ⟨[],[(9,(.setc (.setc o9 0 (.tget zN 0)) 4 (.tget zN 1)))]⟩)))
 (.next ⟨[],[]⟩)
 (.ret (aI 5 (.setc o8 0 (aI 5 o9))))))
theorem WS:E2.map told=some (P0,[]):=by kernel_rfl
theorem amp:tree (ah E2)=P0:=bA WS
def E3:Option PC:=cF [9,11,12,13,14] [] Tryz.f63 63 [4,7,8,10,16394]
def P1:PT:=
 (.call ⟨[],[(16394,pL),(10,(.setc nS 0 (.mk [fY,(pi (-1)),pL,(pi 1)]))),(8,nS),(7,(.mk [r3])),(4,(.mk [r0]))]⟩ [] 19 81 [mX,(aI 24 (.mk [r3]))]
 (.ite (ar (.llen (.tget jI 1)) (pi 0))
 (.ret (.tup [Oz,pL]))
 (.call ⟨[(11,(.tget jI 1))],[(7,(.setc o7 0 (.tget jI 0)))]⟩ [] 28 82 [r2]
 (.ite (.nt (.tget Di 1))
 (.ret (.tup [Oz,pL]))
 (.call ⟨[],[]⟩ [] 37 83 [(aI 8 o4),r1,(aI 24 o7)]
 (.ite (ar (.llen pv) (pi 0))
 (.ret (.tup [Oz,pL]))
 (.call ⟨[],[]⟩ [] 46 84 [(aI 8 o4),r1,r2,pv]
 (.ite (ar (pc wE 4) (pi 0))
 (.chk (aB (pc wE 3) (cJ (.llen (pc wE 3)) (pi 1)))
 (.ret (.tup [(aI 5 (.setc o8 0 (aI 5 (.setc wE 2 (pn (pc wE 3) (cJ (.llen (pc wE 3)) (pi 1))))))),bK])))
 (.ret (.tup [(aI 5 (.setc o8 0 (aI 5 wE))),bK]))))))))))
theorem WT:E3.map told=some (P1,[]):=by kernel_rfl
theorem amq:tree (ah E3)=P1:=bA WT
def E4:Option PC:=cF [5] [] Tryz.f81 81 [2,3,4]
def P2:PT:=
 (.call ⟨[],[(4,zI),(3,(.mk [r1])),(2,(.mk [r0]))]⟩ [] 10 103 [(aI 19 (.mk [r1])),(pc (.mk [r1]) 23)]
 (.call ⟨[(12,(aI 24 (.setc o3 0 fP)))],[]⟩ [] 15 104 [(aI 8 o2),(aI 24 (.setc o3 0 fP))]
 (.ret (.tup [(aI 24 (.setc o4 0 cN)),gq]))))
theorem WU:E4.map told=some (P2,[]):=by kernel_rfl
theorem amr:tree (ah E4)=P2:=bA WU
def xM:Option PC:=cF [1000004,1000005] [] Tryz.f103 103 [2,4,65540,69636,73732,77828,5,65541,69637,73733,77829,7,31,9,49,11,13]
def qZ:Nat→PC:=cd xM
def aiH (b:Nat→PC):PC:=.block 0 [20,21] [65541,5] (.loop [20] [65541,5] (b 0))
def aiI (b:Nat→PC):PC:=.block 2 [38,39] [73733,5] (.loop [38] [73733,5] (b 1))
def aiJ (b:Nat→PC):PC:=.block 4 [56,57] [5,69637] (.loop [56] [5,69637] (b 2))
def aiK (b:Nat→PC):PC:=.block 6 [76,77] [5,77829] (.loop [76] [5,77829] (b 3))
def DM (b:Nat→PC):PT:=
 (.ite (ak gX jI)
 (.chk (aB lu gX)
 (.ite (bY (pc (.setc z9 0 (pn lu gX)) 6) r1)
 (.exit 0 ⟨[(21,(ak gX jI))],[]⟩)
 (.chk (cS (.llen (.app (.o 65541) (.lst [(aI 9 (.setc z9 0 (pn lu gX)))]))) dx)
 (.next ⟨[(20,(bB gX (pi 1)))],[(65541,(.app (.o 65541) (.lst [(aI 9 (.setc z9 0 (pn lu gX)))]))),(5,(.setc o5 15 pN))]⟩))))
 (.exit 0 ⟨[(21,(ak gX jI))],[]⟩))
def DN (b:Nat→PC):PT:=
 (.ite (ak lx pv)
 (.chk (aB se lx)
 (.ite (bY (pc (.setc z9 0 (pn se lx)) 6) r1)
 (.exit 2 ⟨[(39,(ak lx pv))],[]⟩)
 (.chk (cS (.llen (.app (.o 73733) (.lst [(aI 9 (.setc z9 0 (pn se lx)))]))) dx)
 (.next ⟨[(38,(bB lx (pi 1)))],[(73733,(.app (.o 73733) (.lst [(aI 9 (.setc z9 0 (pn se lx)))]))),(5,(.setc o5 17 pN))]⟩))))
 (.exit 2 ⟨[(39,(ak lx pv))],[]⟩))
def DO (b:Nat→PC):PT:=
 (.ite (ak mh Dk)
 (.chk (aB sf mh)
 (.ite (cS (pc (.setc z2 0 (pn sf mh)) 0) (.llen (.o 65541)))
 (.chk (cS (.llen Yq) dx)
 (.next ⟨[(56,(bB mh (pi 1)))],[(5,(.setc o5 16 pN)),(69637,Yq)]⟩))
 (.next ⟨[(56,(bB mh (pi 1)))],[]⟩)))
 (.exit 4 ⟨[(57,(ak mh Dk))],[]⟩))
def DP (b:Nat→PC):PT:=
 (.ite (ak ui Dp)
 (.blockS ⟨[],[]⟩ 7 [13,78,79,80,81,82,83,84,85] [13,77829,5]
 (.chk (aB Iy ui)
 (.call ⟨[],[(13,(.setc z3 0 (pn Iy ui)))]⟩ [] 85 123 [(pc (.setc z3 0 (pn Iy ui)) 1),(.llen (.o 65541))]
 (.ite zQ
 (.chk (cS (.llen Yz) dx)
 (.next ⟨[],[(77829,Yz),(5,(.setc o5 18 pN))]⟩))
 (.next ⟨[],[]⟩))))
 (.next ⟨[(76,(bB ui (pi 1)))],[]⟩))
 (.exit 6 ⟨[(77,(ak ui Dp))],[]⟩))
def QV (b:Nat→PC):PT:=
 (.brk ⟨[(20,(pi 0)),(19,(.llen rZ)),(18,rZ)],[(77829,pL),(73733,pL),(69637,pL),(65541,pL),(5,(.setc De 0 (.mk [(aI 15 (.mk [r0])),pL,pL,pL,pL]))),(4,De),(2,(.mk [r0]))]⟩
(aiH b)
 (.brk ⟨[(38,(pi 0)),(37,(.llen (pc o2 17))),(36,(pc o2 17))],[]⟩
(aiI b)
 (.brk ⟨[(56,(pi 0)),(55,(.llen (pc o2 16))),(54,(pc o2 16))],[]⟩
(aiJ b)
 (.brk ⟨[(76,(pi 0)),(75,(.llen (pc o2 18))),(74,(pc o2 18))],[]⟩
(aiK b)
 (.ret (.mk [(pc ls 0),(pc ls 1),(pc ls 2),(pc ls 3),(pc ls 4),(pc ls 5),(pc ls 6),(pc ls 7),(pc ls 8),(pc ls 9),(pc ls 10),(pc ls 11),(pc ls 12),(pc ls 13),(pc ls 14),(.o 65541),(.o 69637),(.o 73733),(.o 77829)]))))))
def aed (b:Nat→PC):PT×List (Shp×PT):=(QV b,[(.lp 0 [20,21] [65541,5] [20] [65541,5],DM b),(.lp 2 [38,39] [73733,5] [38] [73733,5],DN b),(.lp 4 [56,57] [5,69637] [56] [5,69637],DO b),(.lp 6 [76,77] [5,77829] [76] [5,77829],DP b)])
theorem zh:xM.map told=some (aed (bT xM)):=by kernel_rfl
theorem anp:tree (ah xM)=QV qZ:=cT zh
theorem Pf:round 0 [20,21] [65541,5] [20] [65541,5] (qZ 0)=DM qZ:=bN zh 0 fun _=>rfl
theorem Pg:round 2 [38,39] [73733,5] [38] [73733,5] (qZ 1)=DN qZ:=bN zh 1 fun _=>rfl
theorem Ph:round 4 [56,57] [5,69637] [56] [5,69637] (qZ 2)=DO qZ:=bN zh 2 fun _=>rfl
theorem Pj:round 6 [76,77] [5,77829] [76] [5,77829] (qZ 3)=DP qZ:=bN zh 3 fun _=>rfl
def FH:Option PC:=cF [4] [] Tryz.f123 123 []
def QZ:PT:=
 (.ret OE)
theorem XB:FH.map told=some (QZ,[]):=by kernel_rfl
theorem anu:tree (ah FH)=QZ:=bA XB
def xO:Option PC:=cF [4,7,9,11,12,13,14,15,16] [] Tryz.f104 104 [2,3,5,6,8,10,90,139]
def AO:Nat→PC:=cd xO
def aiZ (b:Nat→PC):PC:=.meach 90 [94,95,11,12] [0,1,0,1] [10] (b 0)
def ai0 (b:Nat→PC):PC:=.meach 139 [143,144,15,16] [0,1,0,1] [10] (b 1)
def Pl (b:Nat→PC):PT:=
 (.chk (aB cZ bK)
 (.next ⟨[],[(10,(.setn cZ bK 0 (.mk [pT,cN])))]⟩))
def Pm (b:Nat→PC):PT:=
 (.blockS ⟨[],[]⟩ 3 [145,146,147,148,149] [10]
 (.call ⟨[(146,gq)],[]⟩ [] 148 126 [dE]
 (.chk (aB cZ (.r 146))
 (.next ⟨[],[(10,(.setn cZ (.r 146) 0 (.r 148)))]⟩)))
 (.next ⟨[],[]⟩))
def uG (b:Nat→PC):PT:=
 (.call ⟨[(7,(.mx (pc (.mk [r1]) 20) (pi 0)))],[(6,(.setc Jw 0 (aI 15 (.mk [r1])))),(5,(.setc De 0 (aI 19 (.mk [r1])))),(3,(.mk [r1])),(2,(.mk [r0]))]⟩ [] 30 123 [(pc (.mk [r1]) 19),(.llen (pc (.setc De 0 (aI 19 (.mk [r1]))) 15))]
 (.call ⟨[(48,(bC (pc o3 22) (pi (-1)))),(44,(.pick (.pick (.nt uc) pT (ak (pc o3 20) (pi (-1)))) pT (dD r7 (.llen (pc o5 15)))))],[]⟩ [(48,true),(44,false)] 51 123 [(pc o3 22),(pi 100001)]
 (.ite (.pick Dj pT (.pick qz (.nt px) pF))
 (.ret pL)
 (.chk (aB (pc o5 15) (pc o3 19))
 (.call ⟨[],[(8,(.setc z9 0 (pn (pc o5 15) (pc o3 19))))]⟩ [] 63 123 [(pc (.setc z9 0 (pn (pc o5 15) (pc o3 19))) 6),(pi 100001)]
 (.ite (.nt Dl)
 (.ret pL)
 (.chk (.an (dD (pi 20) (pi 0)) (cS (pi 20) dx))
 (.chk (ar (pi 20) (pi 20))
 (.chk (ak (.mlen (.con (.map []))) dx)
 (.chk (ak (.mlen (.put (.con (.map [])) (pi 0) (pc o6 3))) dx)
 (.chk (ak (.mlen (.put (.put (.con (.map [])) (pi 0) (pc o6 3)) (pi 1) (pc o6 14))) dx)
 (.chk (ak (.mlen Ow) dx)
 (.chk (ak (.mlen (.put Ow (pi 3) (pc o6 12))) dx)
 (.chk (ak (.mlen OB) dx)
 (.chk (ak (.mlen (.put OB (pi 5) (pc o3 21))) dx)
 (.blockS ⟨[(10,pN),(9,Yw)],[(90,(.tup [(.lst []),(.put (.put OB (pi 5) (pc o3 21)) (pi 6) Yw)])),(10,(.rep (pi 20) fY))]⟩ 0 [] [10]
 (.brk ⟨[],[]⟩
(aiZ b)
 (.exit 0 ⟨[],[]⟩))
 (.call ⟨[],[(3,(aI 24 o3))]⟩ [] 104 124 [(pc o5 16),(.clo 125 [(.ref (aI 24 o3))])]
 (.call ⟨[(13,akK)],[]⟩ [] 108 106 [(aI 8 o2),(pc o6 9)]
 (.call ⟨[],[]⟩ [] 112 106 [(aI 8 o2),(pc o6 10)]
 (.chk (ak (.mlen (.con (.map []))) dx)
 (.chk (ak (.mlen OA) dx)
 (.chk (ak (.mlen (.put OA (pi 8) (ar (pc o6 2) (pi (-1))))) dx)
 (.chk (ak (.mlen (.put (.put OA (pi 8) (ar (pc o6 2) (pi (-1)))) (pi 9) (bC (.ai .and .i64 (pc o6 13) (pi 4)) (pi 0)))) dx)
 (.chk (ak (.mlen It) dx)
 (.chk (ak (.mlen (.put It (pi 11) (bC OG OH))) dx)
 (.chk (ak (.mlen (.put (.put It (pi 11) (bC OG OH)) (pi 12) eC)) dx)
 (.chk (ak (.mlen Yl) dx)
 (.blockS ⟨[],[(139,(.tup [(.lst []),(.put Yl (pi 14) (bY r9 (pi 0)))]))]⟩ 2 [] [10]
 (.brk ⟨[],[]⟩
(ai0 b)
 (.exit 2 ⟨[],[]⟩))
 (.call ⟨[],[]⟩ [] 154 127 [(aI 19 o5),(pi 0),(pc o3 19)]
 (.chk (aB cZ (pi 15))
 (.call ⟨[],[(10,(.setn cZ (pi 15) 0 (.r 154)))]⟩ [] 160 127 [(aI 19 o5),(pi 1),(pc o3 19)]
 (.chk (aB cZ (pi 16))
 (.call ⟨[],[(10,(.setn cZ (pi 16) 0 (.r 160)))]⟩ [] 166 127 [(aI 19 o5),(pi 2),(pc o3 19)]
 (.chk (aB cZ (pi 17))
 (.call ⟨[],[(10,(.setn cZ (pi 17) 0 (.r 166)))]⟩ [] 171 127 [(aI 19 o5),(pi 3),r7]
 (.chk (aB cZ (pi 18))
 (.call ⟨[],[(10,(.setn cZ (pi 18) 0 (.r 171)))]⟩ [] 176 127 [(aI 19 o5),(pi 4),r7]
 (.chk (aB cZ (pi 19))
 (.ret (.setn cZ (pi 19) 0 (.r 176)))))))))))))))))))))))))))))))))))))))))
def aef (b:Nat→PC):PT×List (Shp×PT):=(uG b,[(.ea [10],Pl b),(.ea [10],Pm b)])
theorem H3:xO.map told=some (aef (bT xO)):=by kernel_rfl
theorem ans:tree (ah xO)=uG AO:=cT H3
theorem ak8:sl [10] (AO 0)=Pl AO:=Z4 H3 0 fun _=>rfl
theorem ak9:sl [10] (AO 1)=Pm AO:=Z4 H3 1 fun _=>rfl
def FF:Option PC:=cF [3] [] Tryz.f125 125 [2]
def QX:PT:=
 (.ret (cS pk (pc (.deref r1) 19)))
theorem Xz:FF.map told=some (QX,[]):=by kernel_rfl
theorem anr:tree (ah FF)=QX:=bA Xz
def FI:Option PC:=cF [4] [] Tryz.f124 124 []
def Q3:PT:=
 (.call ⟨[],[]⟩ [] 7 140 [r0,r1]
 (.ret (dD r7 (pi 0))))
theorem XC:FI.map told=some (Q3,[]):=by kernel_rfl
theorem anw:tree (ah FI)=Q3:=bA XC
def xQ:Option PC:=cF [4,5] [] Tryz.f140 140 []
def Kp:Nat→PC:=cd xQ
def aiO (b:Nat→PC):PC:=.block 0 [4,8,9] [] (.loop [4,8] [] (b 0))
def DR (b:Nat→PC):PT:=
 (.ite (ak r8 r7)
 (.blockS ⟨[],[]⟩ 1 [4,5,10,11,12,13,14,15,16] []
 (.chk (aB r0 r8)
 (.callc ⟨[(5,r8)],[]⟩ [] 16 r1 [(pn r0 r8)]
 (.ite dE
 (.ret r5)
 (.next ⟨[],[]⟩))))
 (.next ⟨[(8,ua)],[]⟩))
 (.exit 0 ⟨[(9,(ak r8 r7))],[]⟩))
def Q7 (b:Nat→PC):PT:=
 (.brk ⟨[(8,(pi 0)),(7,(.llen r0)),(4,(pi 0))],[]⟩
(aiO b)
 (.ret (pi (-1))))
def aeh (b:Nat→PC):PT×List (Shp×PT):=(Q7 b,[(.lp 0 [4,8,9] [] [4,8] [],DR b)])
theorem N1:xQ.map told=some (aeh (bT xQ)):=by kernel_rfl
theorem anB:tree (ah xQ)=Q7 Kp:=cT N1
theorem Pn:round 0 [4,8,9] [] [4,8] [] (Kp 0)=DR Kp:=bN N1 0 fun _=>rfl
def FC:Option PC:=cF [4] [] Tryz.f106 106 [2]
def QJ:PT:=
 (.call ⟨[],[(2,(.mk [r0]))]⟩ [] 9 55 [r1,(.llen tX)]
 (.ite (.nt r9)
 (.ret (pi (-1)))
 (.chk (aB (pc o2 1) r1)
 (.ret (pc (pn (pc o2 1) r1) 1)))))
theorem Xw:FC.map told=some (QJ,[]):=by kernel_rfl
theorem anc:tree (ah FC)=QJ:=bA Xw
def FD:Option PC:=cF [4] [] Tryz.f55 55 []
def QN:PT:=
 (.ret OE)
theorem Xx:FD.map told=some (QN,[]):=by kernel_rfl
theorem anh:tree (ah FD)=QN:=bA Xx
def FG:Option PC:=cF [] [] Tryz.f126 126 [2]
def QY:PT:=
 (.ite r0
 (.ret (.mk [(pc Iq 0),(pc Iq 1)]))
 (.ret (.mk [(pc Ir 0),(pc Ir 1)])))
theorem XA:FG.map told=some (QY,[]):=by kernel_rfl
theorem ant:tree (ah FG)=QY:=bA XA
def xN:Option PC:=cF [] [] Tryz.f127 127 [3,6,8]
def Ko:Nat→PC:=cd xN
def aiL (b:Nat→PC):PC:=.block 0 [12,13] [6] (.loop [12] [6] (b 0))
def DQ (b:Nat→PC):PT:=
 (.ite (ak cN bK)
 (.blockS ⟨[],[]⟩ 1 [8,14,15,16,17,18,19,20,25] [8,6]
 (.chk (aB fP cN)
 (.iteS ⟨[],[(8,(.setc z3 0 (pn fP cN)))]⟩ (.pick (ar (pc (.setc z3 0 (pn fP cN)) 0) r1) (ar (pc (.setc z3 0 (pn fP cN)) 1) r2) pF) [] [6]
 (.call ⟨[],[]⟩ [] 29 126 [(bC (pc o8 2) (pi 0))]
 (.ret (.mk [(pc (.setc o6 0 sd) 0),(pc (.setc o6 0 sd) 1)])))
 (.next ⟨[],[]⟩)
 (.next ⟨[],[]⟩)))
 (.next ⟨[(12,(bB cN (pi 1)))],[]⟩))
 (.exit 0 ⟨[(13,(ak cN bK))],[]⟩))
def QW (b:Nat→PC):PT:=
 (.brk ⟨[(12,(pi 0)),(11,(.llen zK)),(10,zK)],[(6,fY)]⟩
(aiL b)
 (.ret (.mk [(pc (.setc o6 0 wG) 0),(pc (.setc o6 0 wG) 1)])))
def aee (b:Nat→PC):PT×List (Shp×PT):=(QW b,[(.lp 0 [12,13] [6] [12] [6],DQ b)])
theorem N0:xN.map told=some (aee (bT xN)):=by kernel_rfl
theorem anq:tree (ah xN)=QW Ko:=cT N0
theorem Pk:round 0 [12,13] [6] [12] [6] (Ko 0)=DQ Ko:=bN N0 0 fun _=>rfl
def Fm:Option PC:=cF [2,3,4,11] [] Tryz.f82 82 []
def Qm:PT:=
 (.blockS ⟨[],[]⟩ 0 [2,3,4,5,6,7,10,11,12,13,14] []
 (.iteS ⟨[],[]⟩ (.pick (ak r0 (pi 0)) pT (dD r0 (pi 22))) [2,3,11,12,13,14] []
 (.ret (.tup [(pi 0),pF]))
 (.call ⟨[],[]⟩ [] 14 105 [(.lst [(pc qx 0),(pc qx 1),(pc qx 2),(pc qx 3),(pc qx 4),(pc qx 5),(pc qx 6),(pc qx 7),(pc qx 8),(pc qx 9)]),r0]
 (.ite cG
 (.ret (.tup [(pi 0),pT]))
 (.next ⟨[],[]⟩)))
 (.next ⟨[],[]⟩))
 (.ret (.tup [(pi 1),pT])))
theorem Xh:Fm.map told=some (Qm,[]):=by kernel_rfl
theorem amO:tree (ah Fm)=Qm:=bA Xh
def FK:Option PC:=cF [4] [] Tryz.f105 105 []
def Q5:PT:=
 (.call ⟨[],[]⟩ [] 7 128 [r0,r1]
 (.ret (dD r7 (pi 0))))
theorem XE:FK.map told=some (Q5,[]):=by kernel_rfl
theorem anz:tree (ah FK)=Q5:=bA XE
def xU:Option PC:=cF [4,5] [] Tryz.f128 128 []
def Kt:Nat→PC:=cd xU
def aiS (b:Nat→PC):PC:=.block 0 [4,8,9] [] (.loop [4,8] [] (b 0))
def DV (b:Nat→PC):PT:=
 (.ite (ak r8 r7)
 (.chk (aB r0 r8)
 (.ite (ar r1 (pn r0 r8))
 (.ret r8)
 (.next ⟨[(8,ua)],[]⟩)))
 (.exit 0 ⟨[(9,(ak r8 r7))],[]⟩))
def Rb (b:Nat→PC):PT:=
 (.brk ⟨[(8,(pi 0)),(7,(.llen r0)),(4,(pi 0))],[]⟩
(aiS b)
 (.ret (pi (-1))))
def ael (b:Nat→PC):PT×List (Shp×PT):=(Rb b,[(.lp 0 [4,8,9] [] [4,8] [],DV b)])
theorem N5:xU.map told=some (ael (bT xU)):=by kernel_rfl
theorem anF:tree (ah xU)=Rb Kt:=cT N5
theorem Pr:round 0 [4,8,9] [] [4,8] [] (Kt 0)=DV Kt:=bN N5 0 fun _=>rfl
def xr:Option PC:=cF [8,9,11,12,13,14,55,70] [] Tryz.f84 84 [4,10,53]
def J8:Nat→PC:=cd xr
def aie (b:Nat→PC):PC:=.block 0 [] [] (.loop [8,9,10] [10] (b 0))
def OX (b:Nat→PC):PT:=
 (.blockS ⟨[],[]⟩ 1 [8,9,10,11,12,13,14,32,33,35,36,37,38,39,40,41,42,43,44,45,46,49,50,52,53,54,55,56,57,58,68,70,71] [53,10]
 (.chk (aB cZ (cJ (.llen cZ) (pi 1)))
 (.call ⟨[(11,(pn cZ (cJ (.llen cZ) (pi 1))))],[]⟩ [] 41 108 [(aI 8 o4),(pn cZ (cJ (.llen cZ) (pi 1))),r2,r3]
 (.ite (ar (.tget wH 0) bK)
 (.ret (.tup [cZ,(pi 0)]))
 (.call ⟨[(13,(.tget wH 1)),(12,(.tget wH 0))],[]⟩ [] 50 105 [cZ,(.tget wH 0)]
 (.chk (cS (.llen (.app cZ (.lst [cN]))) dx)
 (.chk (.nt (.an (.an ly (.an (.nt (.nt eC)) pT)) (.nt (aB (pc o4 4) cN))))
 (.ite (.pick (.nt eC) pT (.pick ly (pc (pn (pc o4 4) cN) 1) pF))
 (.ret (.tup [(.app cZ (.lst [cN])),(pi 0)]))
 (.ite ly
 (.ret (.tup [(.app cZ (.lst [cN])),(pi 12)]))
 (.next ⟨[(10,pN)],[(10,(.app cZ (.lst [cN])))]⟩)))))))))
 (.next ⟨[],[]⟩))
def Qd (b:Nat→PC):PT:=
 (.call ⟨[(9,(pi 0)),(8,pL)],[(4,(.mk [r0]))]⟩ [] 19 107 [mX,r1,r2,r3]
 (.chk (.nt (.an (.an (.nt (.nt jI)) pT) (.nt (aB r3 (pi 0)))))
 (.ite (.pick (.nt jI) pT (bC (pn r3 (pi 0)) r1))
 (.ret (.tup [pL,(pi 1)]))
 (.brk ⟨[(10,pN)],[(10,(.lst [r1]))]⟩
(aie b)
 (.next ⟨[],[]⟩)))))
def adS (b:Nat→PC):PT×List (Shp×PT):=(Qd b,[(.lp 0 [] [] [8,9,10] [10],OX b)])
theorem NL:xr.map told=some (adS (bT xr)):=by kernel_rfl
theorem amE:tree (ah xr)=Qd J8:=cT NL
theorem ak6:round 0 [] [] [8,9,10] [10] (J8 0)=OX J8:=bN NL 0 fun _=>rfl
def Ff:Option PC:=cF [8] [] Tryz.f107 107 [4,9]
def uF:PT:=
 (.ite (.pick (.pick (.pick (.pick (ak r1 (pi 0)) pT (dD r1 Yy)) pT (ak r2 (pi 0))) pT (dD r2 (pi 22))) pT (bC (.llen r3) (pi 5)))
 (.ret pF)
 (.call ⟨[],[]⟩ [] 35 129 [r3,(.clo 130 [(.ref Yy)])]
 (.ret (.nt Iv))))
theorem W9:Ff.map told=some (uF,[]):=by kernel_rfl
theorem amH:tree (ah Ff)=uF:=bA W9
def Fg:Option PC:=cF [3] [] Tryz.f130 130 []
def Qf:PT:=
 (.ret (.pick (ak r0 (pi 0)) pT (dD r0 (.deref r1))))
theorem Xa:Fg.map told=some (Qf,[]):=by kernel_rfl
theorem amG:tree (ah Fg)=Qf:=bA Xa
def FJ:Option PC:=cF [4] [] Tryz.f129 129 []
def Q4:PT:=
 (.call ⟨[],[]⟩ [] 7 141 [r0,r1]
 (.ret (dD r7 (pi 0))))
theorem XD:FJ.map told=some (Q4,[]):=by kernel_rfl
theorem anx:tree (ah FJ)=Q4:=bA XD
def xT:Option PC:=cF [4,5] [] Tryz.f141 141 []
def Ks:Nat→PC:=cd xT
def aiR (b:Nat→PC):PC:=.block 0 [4,8,9] [] (.loop [4,8] [] (b 0))
def DU (b:Nat→PC):PT:=
 (.ite (ak r8 r7)
 (.blockS ⟨[],[]⟩ 1 [4,5,10,11,12,13,14,15,16] []
 (.chk (aB r0 r8)
 (.callc ⟨[(5,r8)],[]⟩ [] 16 r1 [(pn r0 r8)]
 (.ite dE
 (.ret r5)
 (.next ⟨[],[]⟩))))
 (.next ⟨[(8,ua)],[]⟩))
 (.exit 0 ⟨[(9,(ak r8 r7))],[]⟩))
def Ra (b:Nat→PC):PT:=
 (.brk ⟨[(8,(pi 0)),(7,(.llen r0)),(4,(pi 0))],[]⟩
(aiR b)
 (.ret (pi (-1))))
def aek (b:Nat→PC):PT×List (Shp×PT):=(Ra b,[(.lp 0 [4,8,9] [] [4,8] [],DU b)])
theorem N4:xT.map told=some (aek (bT xT)):=by kernel_rfl
theorem anE:tree (ah xT)=Ra Ks:=cT N4
theorem Pq:round 0 [4,8,9] [] [4,8] [] (Ks 0)=DU Ks:=bN N4 0 fun _=>rfl
def xt:Option PC:=cF [8,9] [] Tryz.f108 108 [4,11]
def J9:Nat→PC:=cd xt
def aif (b:Nat→PC):PC:=.block 0 [8,9,25,26] [] (.loop [8,9,25] [] (b 0))
def Dv (b:Nat→PC):PT:=
 (.ite (ak mg nV)
 (.chk (aB jk mg)
 (.ite (.pick (ar (pc Dh 0) r2) (bC (pc Dh 1) (pi 0)) pF)
 (.chk (aB r3 (pc Dh 1))
 (.ret (.tup [(pn r3 (pc Dh 1)),(pc Dh 2)])))
 (.next ⟨[(25,(bB mg (pi 1)))],[]⟩)))
 (.exit 0 ⟨[(26,(ak mg nV))],[]⟩))
def Qe (b:Nat→PC):PT:=
 (.call ⟨[(9,pF),(8,(pi 0))],[(4,(.mk [r0]))]⟩ [] 16 107 [mX,r1,r2,r3]
 (.ite (.nt dE)
 (.ret (.tup [(pi (-1)),pF]))
 (.chk (aB (pc o4 4) r1)
 (.brk ⟨[(25,(pi 0)),(24,(.llen (pc (pn (pc o4 4) r1) 2))),(23,(pc (pn (pc o4 4) r1) 2))],[]⟩
(aif b)
 (.ret (.tup [r1,pF]))))))
def adT (b:Nat→PC):PT×List (Shp×PT):=(Qe b,[(.lp 0 [8,9,25,26] [] [8,9,25] [],Dv b)])
theorem NM:xt.map told=some (adT (bT xt)):=by kernel_rfl
theorem amF:tree (ah xt)=Qe J9:=cT NM
theorem OY:round 0 [8,9,25,26] [] [8,9,25] [] (J9 0)=Dv J9:=bN NM 0 fun _=>rfl
def Fl:Option PC:=cF [7,9,11,12] [] Tryz.f64 64 [3,6,8,10]
def Ql:PT:=
 (.call ⟨[],[(6,fY)]⟩ [] 16 85 [(aI 4 (.mk [r0])),r1]
 (.ite (bC (.tget dE 1) (pi 0))
 (.ret (.tup [(.mk [(pc (.setc o6 0 wG) 0),(pc (.setc o6 0 wG) 1)]),(.tget dE 1)]))
 (.call ⟨[],[]⟩ [] 25 86 [(.mk [(pc (.setc jj 0 (.tget dE 0)) 0),(pc (.setc jj 0 (.tget dE 0)) 1),(pc (.setc jj 0 (.tget dE 0)) 2)]),r2]
 (.call ⟨[],[(10,(.setc fY 0 mg))]⟩ [] 28 82 [r1]
 (.ret (.tup [(.mk [(pc (.setc o6 0 (.mk [(pc Ik 0),(pc Ik 1)])) 0),(pc (.setc o6 0 (.mk [(pc Ik 0),(pc Ik 1)])) 1)]),(pi 0)]))))))
theorem Xg:Fl.map told=some (Ql,[]):=by kernel_rfl
theorem amN:tree (ah Fl)=Ql:=bA Xg
def Fo:Option PC:=cF [5,6,7,8,10,11] [] Tryz.f85 85 [2,3,4,12292,9]
def Qn:PT:=
 (.call ⟨[],[(4,jj),(3,(.mk [r1])),(2,(.mk [r0]))]⟩ [] 14 82 [(pc (.mk [r1]) 0)]
 (.ite (.nt (.tget cG 1))
 (.ret (.tup [Oy,(pi 1)]))
 (.call ⟨[(6,(.tget cG 0))],[]⟩ [] 23 109 [(pc o2 3),(.clo 110 [(.ref (pc o3 0))])]
 (.ite (ak jk (pi 0))
 (.ret (.tup [Oy,(pi 4)]))
 (.chk (aB (pc o2 3) jk)
 (.call ⟨[],[(9,Io)]⟩ [] 35 111 [(.mk [(pc Io 0),(pc Io 1),(pc Io 2)])]
 (.ite (.pick (bC (.tget Iv 1) (pi 0)) pT (bC (.tget Iv 0) r6))
 (.ret (.tup [Oy,(pi 11)]))
 (.ret (.tup [(.mk [(pc OC 0),(pc OC 1),(pc OC 2)]),(pi 0)])))))))))
theorem Xi:Fo.map told=some (Qn,[]):=by kernel_rfl
theorem amQ:tree (ah Fo)=Qn:=bA Xi
def Fp:Option PC:=cF [3] [] Tryz.f110 110 [2]
def Qo:PT:=
 (.ret (ar pk (.deref r1)))
theorem Xj:Fp.map told=some (Qo,[]):=by kernel_rfl
theorem amP:tree (ah Fp)=Qo:=bA Xj
def xS:Option PC:=cF [4,5] [] Tryz.f109 109 []
def Kr:Nat→PC:=cd xS
def aiQ (b:Nat→PC):PC:=.block 0 [4,8,9] [] (.loop [4,8] [] (b 0))
def DT (b:Nat→PC):PT:=
 (.ite (ak r8 r7)
 (.blockS ⟨[],[]⟩ 1 [4,5,10,11,12,13,14,15,16] []
 (.chk (aB r0 r8)
 (.callc ⟨[(5,r8)],[]⟩ [] 16 r1 [(pn r0 r8)]
 (.ite dE
 (.ret r5)
 (.next ⟨[],[]⟩))))
 (.next ⟨[(8,ua)],[]⟩))
 (.exit 0 ⟨[(9,(ak r8 r7))],[]⟩))
def Q9 (b:Nat→PC):PT:=
 (.brk ⟨[(8,(pi 0)),(7,(.llen r0)),(4,(pi 0))],[]⟩
(aiQ b)
 (.ret (pi (-1))))
def aej (b:Nat→PC):PT×List (Shp×PT):=(Q9 b,[(.lp 0 [4,8,9] [] [4,8] [],DT b)])
theorem N3:xS.map told=some (aej (bT xS)):=by kernel_rfl
theorem anD:tree (ah xS)=Q9 Kr:=cT N3
theorem Pp:round 0 [4,8,9] [] [4,8] [] (Kr 0)=DT Kr:=bN N3 0 fun _=>rfl
def FM:Option PC:=cF [2,3] [] Tryz.f111 111 [1]
def Rd:PT:=
 (.call ⟨[],[(1,(.mk [r0]))]⟩ [] 5 131 [(.mk [pk,tX,wF]),(pi 1)]
 (.ite (bY r5 (pi 60))
 (.ret (.tup [(pi 0),(pi 6)]))
 (.call ⟨[],[]⟩ [] 8 132 [(.mk [(pc o1 0),(pc o1 1),(pc o1 2)])]
 (.ret (.tup [(.tget r8 0),(.tget r8 1)])))))
theorem XG:FM.map told=some (Rd,[]):=by kernel_rfl
theorem anH:tree (ah FM)=Rd:=bA XG
def vi:Option PC:=cF [4,5] [] Tryz.f131 131 [2,7,12295]
def Kw:Nat→PC:=cd vi
def aiX (b:Nat→PC):PC:=.block 0 [5,13,14] [] (.loop [5,13] [] (b 0))
def DZ (b:Nat→PC):PT:=
 (.ite (ak eC cN)
 (.blockS ⟨[(14,(ak eC cN))],[]⟩ 1 [5,7,15,16,17,18,19,20,21,22,23,24] [7,12295]
 (.chk (aB bK eC)
 (.call ⟨[(17,r5)],[]⟩ [] 21 131 [(.mk [(pc (.setc jj 0 (pn bK eC)) 0),(pc (.setc jj 0 (pn bK eC)) 1),(pc (.setc jj 0 (pn bK eC)) 2)]),(bB r1 (pi 1))]
 (.ite (bY (bB mY mf) (pi 60))
 (.exit 0 ⟨[(5,(bB mY mf))],[]⟩)
 (.next ⟨[(5,(bB mY mf))],[]⟩))))
 (.next ⟨[(13,(bB eC (pi 1)))],[]⟩))
 (.exit 0 ⟨[(14,(ak eC cN))],[]⟩))
def Jp (b:Nat→PC):PT:=
 (.ite (bY r1 (pi 8))
 (.ret (pi 61))
 (.brk ⟨[(13,(pi 0)),(12,qw),(11,wF),(5,(pi 1))],[]⟩
(aiX b)
 (.ret r5)))
def aep (b:Nat→PC):PT×List (Shp×PT):=(Jp b,[(.lp 0 [5,13,14] [] [5,13] [],DZ b)])
theorem N8:vi.map told=some (aep (bT vi)):=by kernel_rfl
theorem Z7:tree (ah vi)=Jp Kw:=cT N8
theorem Pv:round 0 [5,13,14] [] [5,13] [] (Kw 0)=DZ Kw:=bN N8 0 fun _=>rfl
def xW:Option PC:=cF [2,3,5,7,8,38,47,10,11,12] [] Tryz.f132 132 [1,4,6,12294,9]
def AQ:Nat→PC:=cd xW
def aiU (b:Nat→PC):PC:=.block 0 [2,3,20,21] [4] (.loop [2,3,20] [4] (b 0))
def aiV (b:Nat→PC):PC:=.block 3 [2,3,10,82,83] [] (.loop [2,3,10,82] [] (b 1))
def DX (b:Nat→PC):PT:=
 (.ite (ak gX jI)
 (.blockS ⟨[],[]⟩ 1 [2,3,5,6,7,8,22,23,24,25,26,27,28,29,30,31,33,34,35,36] [6,12294,4]
 (.chk (aB lu gX)
 (.call ⟨[(5,gX)],[]⟩ [] 27 132 [(.mk [(pc (.setc jj 0 (pn lu gX)) 0),(pc (.setc jj 0 (pn lu gX)) 1),(pc (.setc jj 0 (pn lu gX)) 2)])]
 (.ite (bC (.tget fZ 1) (pi 0))
 (.ret (.tup [(pi 0),(.tget fZ 1)]))
 (.chk (aB o4 r5)
 (.next ⟨[],[(4,(.setn o4 r5 0 (.tget fZ 0)))]⟩)))))
 (.next ⟨[(20,(bB gX (pi 1)))],[]⟩))
 (.exit 0 ⟨[(21,(ak gX jI))],[]⟩))
def um (b:Nat→PC):PT:=
 (.ite (ak kN uj)
 (.chk (aB wK kN)
 (.ite (.pick (ar (pn wK kN) (pi (-1))) (ar fP (pi (-1))) pF)
 (.chk (aB o4 kN)
 (.ite (bC (pn o4 kN) (.pick (ar (pn wK kN) (pi (-1))) (pn o4 kN) (pn wK kN)))
 (.ret (.tup [(pi 0),(pi 11)]))
 (.next ⟨[(10,(pn o4 kN)),(82,(bB kN (pi 1)))],[]⟩)))
 (.chk (aB o4 kN)
 (.ite (bC (pn o4 kN) (.pick (ar (pn wK kN) (pi (-1))) fP (pn wK kN)))
 (.ret (.tup [(pi 0),(pi 11)]))
 (.next ⟨[(82,(bB kN (pi 1)))],[]⟩)))))
 (.exit 3 ⟨[(83,(ak kN uj))],[]⟩))
def Rh (b:Nat→PC):PT:=
 (.chk (.an (dD qw (pi 0)) (cS qw dx))
 (.chk (ar qw qw)
 (.brk ⟨[(20,(pi 0)),(19,qw),(18,wF),(4,pN),(3,(pi 0)),(2,(pi 0))],[(4,(.rep qw (pi 0))),(1,(.mk [r0]))]⟩
(aiU b)
 (.blockS ⟨[],[]⟩ 2 [2,3,38,39,40,41,42,46,47,48,49,50,51,55,56,60] []
 (.iteS ⟨[],[]⟩ (.pick (ak (pc o1 0) (pi 0)) pT (bY (pc o1 0) (pi 13))) [2,3,47,48,49,50,51,55,56,60] []
 (.ret (.tup [(pi 0),(pi 1)]))
 (.iteS ⟨[],[]⟩ (.pick (.pick (ar (pc o1 0) (pi 0)) pT (ar (pc o1 0) (pi 1))) pT (ar (pc o1 0) (pi 2))) [2,3] []
 (.call ⟨[],[]⟩ [] 62 142 [(.mk [(pc o1 0),(pc o1 1),(pc o1 2)])]
 (.ret (.tup [(.tget py 0),(.tget py 1)])))
 (.next ⟨[],[]⟩)
 (.next ⟨[],[]⟩))
 (.next ⟨[],[]⟩))
 (.call ⟨[],[]⟩ [] 67 143 [(pc o1 0)]
 (.ite (.pick (bC (.llen o4) (.llen (pc (.setc lq 0 uh) 0))) pT (bC (pc o1 1) (pi 0)))
 (.ret (.tup [(pi 0),(pi 2)]))
 (.brk ⟨[(82,(pi 0)),(81,(.llen (pc (.setc lq 0 uh) 0))),(80,(pc (.setc lq 0 uh) 0)),(10,(pi (-1)))],[(9,(.setc lq 0 uh))]⟩
(aiV b)
 (.ite (ar (pc o9 1) (pi (-1)))
 (.ret (.tup [fP,(pi 0)]))
 (.ret (.tup [(pc o9 1),(pi 0)]))))))))))
def aen (b:Nat→PC):PT×List (Shp×PT):=(Rh b,[(.lp 0 [2,3,20,21] [4] [2,3,20] [4],DX b),(.lp 3 [2,3,10,82,83] [] [2,3,10,82] [],um b)])
theorem H5:xW.map told=some (aen (bT xW)):=by kernel_rfl
theorem anL:tree (ah xW)=Rh AQ:=cT H5
theorem Pt:round 0 [2,3,20,21] [4] [2,3,20] [4] (AQ 0)=DX AQ:=bN H5 0 fun _=>rfl
theorem zV:round 3 [2,3,10,82,83] [] [2,3,10,82] [] (AQ 1)=um AQ:=bN H5 1 fun _=>rfl
def FU:Option PC:=cF [2,3,12,20,4,5] [] Tryz.f142 142 [1]
def Rk:PT:=
 (.ite (bY qw (pi 0))
 (.ret (.tup [(pi 0),(pi 2)]))
 (.blockS ⟨[(11,pk)],[(1,(.mk [r0]))]⟩ 0 [2,3,12,13,20,21] []
 (.iteS ⟨[],[]⟩ (ar bK (pi 0)) [2,3,20,21] []
 (.call ⟨[],[]⟩ [] 16 146 [(pc o1 1)]
 (.ite (bC dE (pc o1 1))
 (.ret (.tup [(pi 0),(pi 3)]))
 (.ret (.tup [(pi 0),(pi 0)]))))
 (.ite (ar bK (pi 1))
 (.ite (.pick (ak (pc o1 1) (pi 0)) pT (bY (pc o1 1) (pi 1)))
 (.ret (.tup [(pi 0),(pi 3)]))
 (.ret (.tup [(pi 1),(pi 0)])))
 (.next ⟨[],[]⟩))
 (.next ⟨[],[]⟩))
 (.call ⟨[],[]⟩ [] 33 144 [(pc o1 1)]
 (.ite (.nt (.tget Iu 1))
 (.ret (.tup [(pi 0),(pi 10)]))
 (.ret (.tup [(.tget Iu 0),(pi 0)]))))))
theorem XM:FU.map told=some (Rk,[]):=by kernel_rfl
theorem anO:tree (ah FU)=Rk:=bA XM
def FT:Option PC:=cF [2] [] Tryz.f146 146 []
def Rj:PT:=
 (.ret (.mn (.mx r0 (pi (-1099511627776))) zJ))
theorem XL:FT.map told=some (Rj,[]):=by kernel_rfl
theorem anN:tree (ah FT)=Rj:=bA XL
def FO:Option PC:=cF [2,3,4,11] [] Tryz.f144 144 []
def Rf:PT:=
 (.ite (.pick (ak r0 (pi 0)) pT (bY r0 (pi 19)))
 (.ret (.tup [(pi 0),pF]))
 (.ite (ak r0 (pi 7))
 (.ret (.tup [(pi 0),pT]))
 (.ret (.tup [(pi 1),pT]))))
theorem XI:FO.map told=some (Rf,[]):=by kernel_rfl
theorem anJ:tree (ah FO)=Rf:=bA XI
def FX:Option PC:=cF [4,8,13,17,21] [] Tryz.f143 143 [2]
def Rn:PT:=
 (.ite (ar r0 (pi 3))
 (.ret (.mk [(pc (.setc lq 0 (.mk [(.lst [(pi 1)]),(pi 1)])) 0),(pc (.setc lq 0 (.mk [(.lst [(pi 1)]),(pi 1)])) 1)]))
 (.ite (.pick (ar r0 (pi 4)) (ar r0 (pi 4)) (ar r0 (pi 5)))
 (.ret (.mk [(pc (.setc lq 0 (.mk [(.lst [(pi 1),(pi 1)]),(pi 1)])) 0),(pc (.setc lq 0 (.mk [(.lst [(pi 1),(pi 1)]),(pi 1)])) 1)]))
 (.ite (ar r0 (pi 6))
 (.ret (.mk [(pc Yv 0),(pc Yv 1)]))
 (.ite (ar r0 (pi 7))
 (.ret (.mk [(pc (.setc lq 0 (.mk [(.lst [(pi 0),(pi 0)]),(pi 1)])) 0),(pc (.setc lq 0 (.mk [(.lst [(pi 0),(pi 0)]),(pi 1)])) 1)]))
 (.ite (ar r0 (pi 8))
 (.ret (.mk [(pc (.setc lq 0 (.mk [(.lst [(pi (-1)),(pi (-1))]),(pi 1)])) 0),(pc (.setc lq 0 (.mk [(.lst [(pi (-1)),(pi (-1))]),(pi 1)])) 1)]))
 (.ret (.mk [(pc (.setc lq 0 (.mk [(.lst [(pi 0),(pi 0)]),(pi 0)])) 0),(pc (.setc lq 0 (.mk [(.lst [(pi 0),(pi 0)]),(pi 0)])) 1)])))))))
theorem XP:FX.map told=some (Rn,[]):=by kernel_rfl
theorem anS:tree (ah FX)=Rn:=bA XP
def FN:Option PC:=cF [5,6,8] [] Tryz.f86 86 [2,4,7]
def Re:PT:=
 (.call ⟨[],[(4,fY),(2,(.mk [r0]))]⟩ [] 11 111 [(.mk [pk,tX,wF])]
 (.ite (bC (.tget bK 1) (pi 0))
 (.ret Dc)
 (.call ⟨[],[]⟩ [] 21 112 [(.mk [r1]),(.mk [(pc o2 0),(pc o2 1),(pc o2 2)])]
 (.ret (.mk [(pc Yr 0),(pc Yr 1)])))))
theorem XH:FN.map told=some (Re,[]):=by kernel_rfl
theorem anI:tree (ah FN)=Re:=bA XH
def xX:Option PC:=cF [5,15,21,9,11] [] Tryz.f112 112 [2,3,4,6,33,7,8,10,12298,12]
def Kv:Nat→PC:=cd xX
def aiW (b:Nat→PC):PC:=.block 1 [45,46] [7,8] (.loop [45] [7,8] (b 0))
def DY (b:Nat→PC):PT:=
 (.ite (ak qy Dj)
 (.blockS ⟨[],[]⟩ 2 [9,10,47,48,49,50,51,52,53,54,55,56,57,58,59,60,61] [10,12298,8,7]
 (.chk (aB ud qy)
 (.call ⟨[(54,qy),(52,qy)],[]⟩ [] 57 112 [(.mk [(pc o2 0)]),(.mk [(pc (.setc jj 0 (pn ud qy)) 0),(pc (.setc jj 0 (pn ud qy)) 1),(pc (.setc jj 0 (pn ud qy)) 2)])]
 (.chk (aB o7 OL)
 (.chk (aB o8 sf)
 (.next ⟨[],[(8,(.setn o8 sf 0 (.tget wI 1))),(7,(.setn o7 OL 0 (.tget wI 0)))]⟩)))))
 (.next ⟨[(45,(bB qy (pi 1)))],[]⟩))
 (.exit 1 ⟨[(46,(ak qy Dj))],[]⟩))
def Ej (b:Nat→PC):PT:=
 (.blockS ⟨[(14,(pc (.mk [r1]) 0))],[(4,fY),(3,(.mk [r1])),(2,(.mk [r0]))]⟩ 0 [5,15,16,21,22] [4]
 (.iteS ⟨[],[]⟩ (.pick (ar cG (pi 0)) (ar cG (pi 0)) (ar cG (pi 1))) [5,21,22] [4]
 (.ret (.tup [(.mk [(pc (.setc o4 0 (.mk [pT,(pc o3 1)])) 0),(pc (.setc o4 0 (.mk [pT,(pc o3 1)])) 1)]),pL]))
 (.iteS ⟨[],[]⟩ (ar cG (pi 2)) [5] [4]
 (.call ⟨[],[]⟩ [] 26 133 [(.mk [(pc o2 0)]),(pc o3 1)]
 (.ite (pc (.setc fY 0 pq) 0)
 (.ret (.tup [(.mk [(pc Yu 0),(pc Yu 1)]),pL]))
 (.ret (.tup [Dc,(.lst [(pc o3 1)])]))))
 (.next ⟨[],[]⟩)
 (.next ⟨[],[]⟩))
 (.next ⟨[],[]⟩))
 (.chk (.an (dD nU (pi 0)) (cS nU dx))
 (.chk (ar nU nU)
 (.brk ⟨[(45,(pi 0)),(44,nU),(43,(pc o3 2)),(8,pN),(7,pN)],[(8,(.rep nU pL)),(7,(.rep nU fY))]⟩
(aiW b)
 (.chk (.nt (.an (.an (ar (pc o3 0) (pi 6)) pT) (.nt (aB o7 (pi 0)))))
 (.ite (.pick (ar (pc o3 0) (pi 6)) (pc (pn o7 (pi 0)) 0) pF)
 (.chk (aB o7 (pi 0))
 (.chk (aB o7 Df)
 (.chk (aB o8 Df)
 (.ret (.tup [(.mk [(pc (.setc o4 0 (.sub (pn o7 Df) 0 2)) 0),(pc (.setc o4 0 (.sub (pn o7 Df) 0 2)) 1)]),(pn o8 Df)])))))
 (.call ⟨[],[]⟩ [] 88 134 [(pc o3 0),o7]
 (.ite (pc (.setc fY 0 OO) 0)
 (.ret (.tup [(.mk [(pc Yt 0),(pc Yt 1)]),pL]))
 (.call ⟨[(92,wG)],[]⟩ [] 94 135 [o8]
 (.ret (.tup [(.mk [(pc (.setc o4 0 YL) 0),(pc (.setc o4 0 YL) 1)]),r94])))))))))))
def aeo (b:Nat→PC):PT×List (Shp×PT):=(Ej b,[(.lp 1 [45,46] [7,8] [45] [7,8],DY b)])
theorem N7:xX.map told=some (aeo (bT xX)):=by kernel_rfl
theorem anP:tree (ah xX)=Ej Kv:=cT N7
theorem Pu:round 1 [45,46] [7,8] [45] [7,8] (Kv 0)=DY Kv:=bN N7 0 fun _=>rfl
end Rm
