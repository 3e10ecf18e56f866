/-
  The functions of this seat, compiled (1).
-/
import Derived.Test.YtefchokhgdmamaaGreatDoorUAJ
import Derived.KernelRfl
set_option linter.unusedVariables false
set_option maxRecDepth 100000
noncomputable section
namespace Rm
open Go Go.Proofs Cx
def Gr:Option PC:=cF [12,13,14,15,16,17,18,19,20,21] [] Tryz.f4 4 [6,10]
def RV:PT:=
 (.call ⟨[],[(10,(.mk [r4])),(6,(.mk [r0]))]⟩ [] 22 8 []
 (.call ⟨[(13,va)],[]⟩ [] 25 9 [(aI 8 o6),tw]
 (.ite (.nt lI)
 (.ret dG)
 (.call ⟨[],[]⟩ [] 33 13 [(aI 8 o6),r1,r2,r3,tw]
 (.call ⟨[(14,Ee)],[]⟩ [] 40 10 [(aI 8 o6),r1,r2,r3,tw]
 (.ite (.pick (.pick (.pick (ak (pc cI 19) (pi 0)) pT (cY (pc cI 19) (.llen (pc cI 15)))) pT (ak (pc cI 20) (pi (-1)))) pT (cY (pc cI 20) (.llen (pc cI 15))))
 (.ret (.pick (.pick dG (.nt (.tget m4 2)) pF) (aq (.llen (.tget m4 0)) (pi 0)) pF))
 (.iteS ⟨[(17,(.tget m4 2)),(16,(.tget m4 1)),(15,(.tget m4 0))],[]⟩ (.tget m4 2) [12] []
 (.call ⟨[(84,r3),(83,r2),(82,r1),(81,(aI 8 o6))],[]⟩ [] 88 18 [tw,fo,bT]
 (.call ⟨[],[]⟩ [] 89 13 [vh,kK,r83,El,JM]
 (.ite (.pick (.pick (.pick (aq (.llen fo) (pi 0)) pT (bt (.llen fo) (.llen bT))) pT (aq Qo (pi 2))) pT (aq Qo cJ))
 (.ret pF)
 (.next ⟨[],[]⟩))))
 (.next ⟨[],[]⟩)
 (.chk (bt (pi 243) (pi 0))
 (.call ⟨[],[]⟩ [] 113 19 [(.ai .rem .i64 (.conv .i64 r5) (pi 243))]
 (.call ⟨[(117,iu),(20,(.tget JH 1)),(19,(.tget JH 0))],[]⟩ [(117,true)] 122 20 [(.tget JH 0),(.tget JH 1),fo,bT]
 (.ite (.pick anN (.nt anP) pF)
 (.ret dG)
 (.call ⟨[(129,r3),(128,r2),(127,r1),(126,(aI 8 o6))],[]⟩ [] 133 18 [tw,iX,gU]
 (.call ⟨[],[]⟩ [] 134 13 [anQ,aaV,anR,anS,(.r 133)]
 (.ret (.pick dG (.pick (.pick (aq (.llen iX) (pi 0)) pT (aq (.r 134) (pi 2))) pT (aq (.r 134) cJ)) pF)))))))))))))))
theorem Zt:Gr.map told=some (RV,[]):=by kernel_rfl
theorem apL:tree (ah Gr)=RV:=bE Zt
def Gt:Option PC:=cF [0,1,2,3] [] Tryz.f8 8 [5,6]
def RY:PT:=
 (.call ⟨[],[]⟩ [] 9 22 [pL,(pi 2),(.lst [(pi 0)]),(.lst [(pi 1)])]
 (.call ⟨[(1,r9)],[]⟩ [] 14 22 [(.lst [(.mk [(pi 0),(pi 0),(pi 1)])]),(pi 0),(.lst [(pi 0),(pi 2)]),(.lst [(pi 0),(pi 1)])]
 (.call ⟨[(2,cJ)],[]⟩ [] 20 22 [(.lst [(.mk [(pi 0),(pi 0),(pi 0)]),(.mk [(pi 2),(pi 0),(pi 1)])]),(pi 1),(.lst [(pi 0)]),(.lst [(pi 1)])]
 (.call ⟨[(3,gU)],[]⟩ [] 24 23 [(.lst [(.mk [(pi 1),(pi 0),(pi 1)])])]
 (.call ⟨[],[]⟩ [] 29 16 [(aI 19 (.setc u3 0 (.tget oY 1))),(pi 0),(pi 0),(pi 7)]
 (.chk (.nt (.an (.an aaR pT) (.nt (aB Ea (pi 0)))))
 (.ret (.pick aaR (.an (aq (pc (pn Ea (pi 0)) 0) (pi 0)) (.an (aq (pc (pn Ea (pi 0)) 1) (pi 0)) (.an (aq (pc (pn Ea (pi 0)) 2) (pi 1)) pT))) pF))))))))
theorem Zw:Gt.map told=some (RY,[]):=by kernel_rfl
theorem apO:tree (ah Gt)=RY:=bE Zw
def Gu:Option PC:=cF [8,11,12,13] [] Tryz.f22 22 [9,10]
def RZ:PT:=
 (.call ⟨[],[]⟩ [] 16 23 [r0]
 (.call ⟨[],[(10,(.setc u3 0 (.tget bT 1))),(9,(.setc P7 0 (.tget bT 0)))]⟩ [] 22 10 [(aI 8 (.setc P7 0 (.tget bT 0))),(pi 0),(pi 1),(pi 2),(aI 24 (.setc u3 0 (.tget bT 1)))]
 (.call ⟨[(27,(.tget va 2)),(12,(.tget va 1)),(11,(.tget va 0))],[]⟩ [(27,true)] 30 13 [(aI 8 o9),(pi 0),(pi 1),(pi 2),tw]
 (.call ⟨[(34,(.pick gB (aq Ed r1) pF))],[]⟩ [(34,true)] 37 12 [bS,r2]
 (.call ⟨[(39,(.pick r34 qv pF))],[]⟩ [(39,true)] 42 12 [dj,r3]
 (.ret (.pick JI r42 pF)))))))
theorem Zx:Gu.map told=some (RZ,[]):=by kernel_rfl
theorem apP:tree (ah Gu)=RZ:=bE Zx
def Gs:Option PC:=cF [] [] Tryz.f23 23 [2,3,4,12292,5,6,20486,24582,28678,32774,7,69639,73735]
def RW:PT:=
 (.ret (.tup [(aI 8 (.setc P7 0 (.mk [(pc JC 0),(pc JC 1),(pc JC 2),(pc JC 3),(.lst [(.mk [(.con (.v (.string ⟨#[103,101,110,101,118,97]⟩))),pF,pL,(.lst [(.mk [(pi 2),(.mk [(pc (.setc jR 0 (.mk [(pi 2),(pi 15),pL])) 0),(pc (.setc jR 0 (.mk [(pi 2),(pi 15),pL])) 1),pL])])])]),(.mk [(.con (.v (.string ⟨#[108,111,110,100,111,110]⟩))),pF,pL,(.lst [(.mk [(pi 2),(.mk [(pc P4 0),(pc P4 1),(pc P4 2)])])])])]),pL,pL,pL]))),(aI 24 (.setc u3 0 (.mk [(.mk [(pc kJ 0),(pc kJ 1),(pc kJ 2),(pc kJ 3),(pc kJ 4),(pc kJ 5),(pc kJ 6),(pc kJ 7),(pc kJ 8),(pc kJ 9),(pc kJ 10),(pc kJ 11),(pc kJ 12),(pc kJ 13),(pc kJ 14),(pc kJ 15),pL,pL,(pc kJ 18)]),(pi 0),(pi (-1)),(pi (-1)),(pi (-1)),(pi 20)])))]))
theorem Zu:Gs.map told=some (RW,[]):=by kernel_rfl
theorem apM:tree (ah Gs)=RW:=bE Zu
def yp:Option PC:=cF [10,12,13,14,15,17,18,19,20] [] Tryz.f10 10 [5,9,11,96]
def og:Nat→PC:=bX yp
def Yr (b:Nat→PC):PC:=.block 6 [11,85,86] [11] (.loop [11,85] [11] (b 0))
def Ys (b:Nat→PC):PC:=.block 4 [10,11,12,64,65] [11] (.loop [10,11,12,64] [11] (b 1))
def Yt (b:Nat→PC):PC:=.block 2 [10,11,12,58,59] [11] (.loop [10,11,12,58] [11] (b 2))
def akZ (b:Nat→PC):PC:=.block 0 [10,11,12,15,51,52] [11] (.loop [10,11,12,15] [11] (b 3))
def JP (b:Nat→PC):PT:=
 (.ite (ak AK El)
 (.chk (cY (cN (cN fo (pi 1)) AK) (pi 0))
 (.chk (cV (.llen aaM) dx)
 (.next ⟨[(11,pN),(85,(br AK (pi 1)))],[(11,aaM)]⟩)))
 (.exit 6 ⟨[(86,(ak AK El))],[]⟩))
def En (b:Nat→PC):PT:=
 (.ite (ak kf Ej)
 (.blockS ⟨[(65,(ak kf Ej))],[]⟩ 5 [10,11,12,18,19,66,67,68,69,70,71,72,73,74,75,76,77,78,82] [11]
 (.call ⟨[(70,r3),(69,r2),(68,r1),(67,(aI 8 o5)),(18,kf)],[]⟩ [] 74 28 [(aI 24 o9),iu,kf]
 (.call ⟨[],[]⟩ [] 75 13 [vf,Qn,xC,r70,JK]
 (.ite (.pick (aq JL (pi 2)) pT (aq JL cJ))
 (.exit 5 ⟨[],[]⟩)
 (.brk ⟨[(85,(pi 0)),(84,(.llen iu))],[]⟩
(Yr b)
 (.ret (.tup [iu,uV,pT]))))))
 (.next ⟨[(64,(br kf (pi 1)))],[]⟩))
 (.exit 4 ⟨[(65,(ak kf Ej))],[]⟩))
def Eo (b:Nat→PC):PT:=
 (.ite (ak ve xB)
 (.blockS ⟨[(59,(ak ve xB))],[]⟩ 3 [10,11,12,17,60,61,62,63,64,65] [11]
 (.chk (aB nP ve)
 (.chk (cY fo (pi 0))
 (.brk ⟨[(64,(pi 0)),(63,(.ai .shl .i64 (pi 1) fo)),(17,(pn nP ve))],[]⟩
(Ys b)
 (.next ⟨[],[]⟩))))
 (.next ⟨[(58,(br ve (pi 1)))],[]⟩))
 (.exit 2 ⟨[(59,(ak ve xB))],[]⟩))
def Ep (b:Nat→PC):PT:=
 (.ite (cV fo (pi 5))
 (.blockS ⟨[(52,(cV fo (pi 5))),(51,fo)],[]⟩ 1 [10,11,12,55,56,57,58,59] [11]
 (.call ⟨[],[]⟩ [] 56 27 [fo,(pi 0)]
 (.brk ⟨[(58,(pi 0)),(57,(.llen nP))],[]⟩
(Yt b)
 (.next ⟨[],[]⟩)))
 (.next ⟨[(15,(br fo (pi 1)))],[]⟩))
 (.exit 0 ⟨[(51,fo),(52,(cV fo (pi 5)))],[]⟩))
def KA (b:Nat→PC):PT:=
 (.ite (.pick (.pick (.pick (ak (pc (.mk [r4]) 19) (pi 0)) pT (cY (pc (.mk [r4]) 19) (.llen (pc (.mk [r4]) 15)))) pT (ak (pc (.mk [r4]) 20) (pi (-1)))) pT (cY (pc (.mk [r4]) 20) (.llen (pc (.mk [r4]) 15))))
 (.ret (.tup [pL,pL,pF]))
 (.call ⟨[(10,pL),(11,pN),(12,pF)],[(11,pL),(9,(.mk [r4])),(5,(.mk [r0]))]⟩ [] 50 13 [nO,r1,r2,r3,(aI 24 (.mk [r4]))]
 (.brk ⟨[(15,(pi 1)),(14,m5)],[]⟩
(akZ b)
 (.ret (.tup [pL,pL,pF])))))
def ago (b:Nat→PC):PT×List (Shp×PT):=(KA b,[(.lp 6 [11,85,86] [11] [11,85] [11],JP b),(.lp 4 [10,11,12,64,65] [11] [10,11,12,64] [11],En b),(.lp 2 [10,11,12,58,59] [11] [10,11,12,58] [11],Eo b),(.lp 0 [10,11,12,15,51,52] [11] [10,11,12,15] [11],Ep b)])
theorem Ae:yp.map told=some (ago (bO yp)):=by kernel_rfl
theorem apz:tree (ah yp)=KA og:=cO Ae
theorem aa9:round 6 [11,85,86] [11] [11,85] [11] (og 0)=JP og:=bH Ae 0 fun _=>rfl
theorem Qt:round 4 [10,11,12,64,65] [11] [10,11,12,64] [11] (og 1)=En og:=bH Ae 1 fun _=>rfl
theorem Qu:round 2 [10,11,12,58,59] [11] [10,11,12,58] [11] (og 2)=Eo og:=bH Ae 2 fun _=>rfl
theorem Qv:round 0 [10,11,12,15,51,52] [11] [10,11,12,15] [11] (og 3)=Ep og:=bH Ae 3 fun _=>rfl
def Gg:Option PC:=cF [10,13,14,31,48] [] Tryz.f13 13 [5,9,11,12]
def RI:PT:=
 (.call ⟨[],[(9,(.mk [r4])),(5,(.mk [r0]))]⟩ [] 19 30 [nO,r1,r3,(aI 24 (.mk [r4]))]
 (.call ⟨[],[]⟩ [] 24 30 [(aI 8 o5),r2,r3,(aI 24 o9)]
 (.ite (.pick (.pick Qe (.nt (pc (.setc oV 0 iX) 0)) pF) pT (.pick (aq (pc (.setc oV 0 oY) 4) (pi 0)) (.nt (pc (.setc oV 0 oY) 0)) pF))
 (.ret (pi 2))
 (.ite (.pick (.cb .neq Qe (aq (pc (.setc oV 0 oY) 4) (pi 0))) pT (.pick Qe (bt (pc (.setc oV 0 iX) 1) (pc (.setc oV 0 oY) 1)) pF))
 (.ret (pi 1))
 (.ret (pi 0))))))
theorem Zk:Gg.map told=some (RI,[]):=by kernel_rfl
theorem apw:tree (ah Gg)=RI:=bE Zk
def Ga:Option PC:=cF [10] [] Tryz.f30 30 [4,7,8,9]
def RD:PT:=
 (.call ⟨[],[(8,oV),(4,(.mk [r0]))]⟩ [] 16 63 [nO,r1,r2,(aI 24 (.mk [r3]))]
 (.iteS ⟨[(10,(.tget bT 1))],[(9,(.setc oV 0 (.tget bT 0)))]⟩ (bt (pc (.setc oV 0 (.tget bT 0)) 2) (pi (-1))) [] [9]
 (.chk (aB (pc o4 4) (pc o9 2))
 (.call ⟨[],[]⟩ [] 31 64 [(pn (pc o4 4) (pc o9 2)),r2,di]
 (.next ⟨[],[(9,(.setc (.setc o9 0 (.tget xz 0)) 4 (.tget xz 1)))]⟩)))
 (.next ⟨[],[]⟩)
 (.ret (aI 5 (.setc o8 0 (aI 5 o9))))))
theorem Ze:Ga.map told=some (RD,[]):=by kernel_rfl
theorem apq:tree (ah Ga)=RD:=bE Ze
def Gb:Option PC:=cF [9,11,12,13,14] [] Tryz.f63 63 [4,7,8,10,16394]
def RE:PT:=
 (.call ⟨[],[(16394,pL),(10,(.setc oV 0 (.mk [gA,(pi (-1)),pL,(pi 1)]))),(8,oV),(7,(.mk [r3])),(4,(.mk [r0]))]⟩ [] 19 81 [nO,(aI 24 (.mk [r3]))]
 (.ite (aq (.llen (.tget iX 1)) (pi 0))
 (.ret (.tup [P9,pL]))
 (.call ⟨[(11,(.tget iX 1))],[(7,(.setc o7 0 (.tget iX 0)))]⟩ [] 28 82 [r2]
 (.ite (.nt (.tget Ec 1))
 (.ret (.tup [P9,pL]))
 (.call ⟨[],[]⟩ [] 37 83 [(aI 8 o4),r1,(aI 24 o7)]
 (.ite (aq (.llen qv) (pi 0))
 (.ret (.tup [P9,pL]))
 (.call ⟨[],[]⟩ [] 46 84 [(aI 8 o4),r1,r2,qv]
 (.ite (aq (pc xw 4) (pi 0))
 (.chk (aB (pc xw 3) (cN (.llen (pc xw 3)) (pi 1)))
 (.ret (.tup [(aI 5 (.setc o8 0 (aI 5 (.setc xw 2 (pn (pc xw 3) (cN (.llen (pc xw 3)) (pi 1))))))),bS])))
 (.ret (.tup [(aI 5 (.setc o8 0 (aI 5 xw))),bS]))))))))))
theorem Zf:Gb.map told=some (RE,[]):=by kernel_rfl
theorem apr:tree (ah Gb)=RE:=bE Zf
def Gc:Option PC:=cF [5] [] Tryz.f81 81 [2,3,4]
def RF:PT:=
 (.call ⟨[],[(4,u3),(3,(.mk [r1])),(2,(.mk [r0]))]⟩ [] 10 103 [(aI 19 (.mk [r1])),(pc (.mk [r1]) 23)]
 (.call ⟨[(12,(aI 24 (.setc o3 0 di)))],[]⟩ [] 15 104 [(aI 8 o2),(aI 24 (.setc o3 0 di))]
 (.ret (.tup [(aI 24 (.setc o4 0 dj)),fo]))))
theorem Zg:Gc.map told=some (RF,[]):=by kernel_rfl
theorem aps:tree (ah Gc)=RF:=bE Zg
def yR:Option PC:=cF [1000004,1000005] [] Tryz.f103 103 [2,4,65540,69636,73732,77828,5,65541,69637,73733,77829,7,31,9,49,11,13]
def sr:Nat→PC:=bX yR
def alE (b:Nat→PC):PC:=.block 0 [20,21] [65541,5] (.loop [20] [65541,5] (b 0))
def alF (b:Nat→PC):PC:=.block 2 [38,39] [73733,5] (.loop [38] [73733,5] (b 1))
def alG (b:Nat→PC):PC:=.block 4 [56,57] [5,69637] (.loop [56] [5,69637] (b 2))
def alH (b:Nat→PC):PC:=.block 6 [76,77] [5,77829] (.loop [76] [5,77829] (b 3))
def EM (b:Nat→PC):PT:=
 (.ite (ak gU iX)
 (.chk (aB gT gU)
 (.ite (cm (pc (.setc z9 0 (pn gT gU)) 6) r1)
 (.exit 0 ⟨[(21,(ak gU iX))],[]⟩)
 (.chk (cV (.llen (.app (.o 65541) (.lst [(aI 9 (.setc z9 0 (pn gT gU)))]))) dx)
 (.next ⟨[(20,(br gU (pi 1)))],[(65541,(.app (.o 65541) (.lst [(aI 9 (.setc z9 0 (pn gT gU)))]))),(5,(.setc o5 15 pN))]⟩))))
 (.exit 0 ⟨[(21,(ak gU iX))],[]⟩))
def EN (b:Nat→PC):PT:=
 (.ite (ak mh qv)
 (.chk (aB qu mh)
 (.ite (cm (pc (.setc z9 0 (pn qu mh)) 6) r1)
 (.exit 2 ⟨[(39,(ak mh qv))],[]⟩)
 (.chk (cV (.llen (.app (.o 73733) (.lst [(aI 9 (.setc z9 0 (pn qu mh)))]))) dx)
 (.next ⟨[(38,(br mh (pi 1)))],[(73733,(.app (.o 73733) (.lst [(aI 9 (.setc z9 0 (pn qu mh)))]))),(5,(.setc o5 17 pN))]⟩))))
 (.exit 2 ⟨[(39,(ak mh qv))],[]⟩))
def EO (b:Nat→PC):PT:=
 (.ite (ak nP Eh)
 (.chk (aB tA nP)
 (.ite (cV (pc (.setc z2 0 (pn tA nP)) 0) (.llen (.o 65541)))
 (.chk (cV (.llen aaK) dx)
 (.next ⟨[(56,(br nP (pi 1)))],[(5,(.setc o5 16 pN)),(69637,aaK)]⟩))
 (.next ⟨[(56,(br nP (pi 1)))],[]⟩)))
 (.exit 4 ⟨[(57,(ak nP Eh))],[]⟩))
def EP (b:Nat→PC):PT:=
 (.ite (ak vg JL)
 (.blockS ⟨[],[]⟩ 7 [13,78,79,80,81,82,83,84,85] [13,77829,5]
 (.chk (aB JK vg)
 (.call ⟨[],[(13,(.setc z3 0 (pn JK vg)))]⟩ [] 85 123 [(pc (.setc z3 0 (pn JK vg)) 1),(.llen (.o 65541))]
 (.ite AK
 (.chk (cV (.llen aaT) dx)
 (.next ⟨[],[(77829,aaT),(5,(.setc o5 18 pN))]⟩))
 (.next ⟨[],[]⟩))))
 (.next ⟨[(76,(br vg (pi 1)))],[]⟩))
 (.exit 6 ⟨[(77,(ak vg JL))],[]⟩))
def SI (b:Nat→PC):PT:=
 (.brk ⟨[(20,(pi 0)),(19,(.llen tu)),(18,tu)],[(77829,pL),(73733,pL),(69637,pL),(65541,pL),(5,(.setc D8 0 (.mk [(aI 15 (.mk [r0])),pL,pL,pL,pL]))),(4,D8),(2,(.mk [r0]))]⟩
(alE b)
 (.brk ⟨[(38,(pi 0)),(37,(.llen (pc o2 17))),(36,(pc o2 17))],[]⟩
(alF b)
 (.brk ⟨[(56,(pi 0)),(55,(.llen (pc o2 16))),(54,(pc o2 16))],[]⟩
(alG b)
 (.brk ⟨[(76,(pi 0)),(75,(.llen (pc o2 18))),(74,(pc o2 18))],[]⟩
(alH b)
 (.ret (.mk [(pc mg 0),(pc mg 1),(pc mg 2),(pc mg 3),(pc mg 4),(pc mg 5),(pc mg 6),(pc mg 7),(pc mg 8),(pc mg 9),(pc mg 10),(pc mg 11),(pc mg 12),(pc mg 13),(pc mg 14),(.o 65541),(.o 69637),(.o 73733),(.o 77829)]))))))
def agT (b:Nat→PC):PT×List (Shp×PT):=(SI b,[(.lp 0 [20,21] [65541,5] [20] [65541,5],EM b),(.lp 2 [38,39] [73733,5] [38] [73733,5],EN b),(.lp 4 [56,57] [5,69637] [56] [5,69637],EO b),(.lp 6 [76,77] [5,77829] [76] [5,77829],EP b)])
theorem Af:yR.map told=some (agT (bO yR)):=by kernel_rfl
theorem aqv:tree (ah yR)=SI sr:=cO Af
theorem QR:round 0 [20,21] [65541,5] [20] [65541,5] (sr 0)=EM sr:=bH Af 0 fun _=>rfl
theorem QS:round 2 [38,39] [73733,5] [38] [73733,5] (sr 1)=EN sr:=bH Af 1 fun _=>rfl
theorem QT:round 4 [56,57] [5,69637] [56] [5,69637] (sr 2)=EO sr:=bH Af 2 fun _=>rfl
theorem QU:round 6 [76,77] [5,77829] [76] [5,77829] (sr 3)=EP sr:=bH Af 3 fun _=>rfl
def GR:Option PC:=cF [4] [] Tryz.f123 123 []
def SM:PT:=
 (.ret Qf)
theorem ZU:GR.map told=some (SM,[]):=by kernel_rfl
theorem aqA:tree (ah GR)=SM:=bE ZU
def yT:Option PC:=cF [4,7,9,11,12,13,14,15,16] [] Tryz.f104 104 [2,3,5,6,8,10,90,139]
def BB:Nat→PC:=bX yT
def alW (b:Nat→PC):PC:=.meach 90 [94,95,11,12] [0,1,0,1] [10] (b 0)
def alX (b:Nat→PC):PC:=.meach 139 [143,144,15,16] [0,1,0,1] [10] (b 1)
def QW (b:Nat→PC):PT:=
 (.chk (aB cI bS)
 (.next ⟨[],[(10,(.setn cI bS 0 (.mk [pT,dj])))]⟩))
def QX (b:Nat→PC):PT:=
 (.blockS ⟨[],[]⟩ 3 [145,146,147,148,149] [10]
 (.call ⟨[(146,fo)],[]⟩ [] 148 126 [bT]
 (.chk (aB cI (.r 146))
 (.next ⟨[],[(10,(.setn cI (.r 146) 0 (.r 148)))]⟩)))
 (.next ⟨[],[]⟩))
def vz (b:Nat→PC):PT:=
 (.call ⟨[(7,(.mx (pc (.mk [r1]) 20) (pi 0)))],[(6,(.setc KM 0 (aI 15 (.mk [r1])))),(5,(.setc D8 0 (aI 19 (.mk [r1])))),(3,(.mk [r1])),(2,(.mk [r0]))]⟩ [] 30 123 [(pc (.mk [r1]) 19),(.llen (pc (.setc D8 0 (aI 19 (.mk [r1]))) 15))]
 (.call ⟨[(48,(bt (pc o3 22) (pi (-1)))),(44,(.pick (.pick (.nt Ed) pT (ak (pc o3 20) (pi (-1)))) pT (cY r7 (.llen (pc o5 15)))))],[]⟩ [(48,true),(44,false)] 51 123 [(pc o3 22),(pi 100001)]
 (.ite (.pick Eg pT (.pick rF (.nt qw) pF))
 (.ret pL)
 (.chk (aB (pc o5 15) (pc o3 19))
 (.call ⟨[],[(8,(.setc z9 0 (pn (pc o5 15) (pc o3 19))))]⟩ [] 63 123 [(pc (.setc z9 0 (pn (pc o5 15) (pc o3 19))) 6),(pi 100001)]
 (.ite (.nt Ej)
 (.ret pL)
 (.chk (.an (cY (pi 20) (pi 0)) (cV (pi 20) dx))
 (.chk (aq (pi 20) (pi 20))
 (.chk (ak (.mlen (.con (.map []))) dx)
 (.chk (ak (.mlen (.put (.con (.map [])) (pi 0) (pc o6 3))) dx)
 (.chk (ak (.mlen (.put (.put (.con (.map [])) (pi 0) (pc o6 3)) (pi 1) (pc o6 14))) dx)
 (.chk (ak (.mlen P5) dx)
 (.chk (ak (.mlen (.put P5 (pi 3) (pc o6 12))) dx)
 (.chk (ak (.mlen Qb) dx)
 (.chk (ak (.mlen (.put Qb (pi 5) (pc o3 21))) dx)
 (.blockS ⟨[(10,pN),(9,aaQ)],[(90,(.tup [(.lst []),(.put (.put Qb (pi 5) (pc o3 21)) (pi 6) aaQ)])),(10,(.rep (pi 20) gA))]⟩ 0 [] [10]
 (.brk ⟨[],[]⟩
(alW b)
 (.exit 0 ⟨[],[]⟩))
 (.call ⟨[],[(3,(aI 24 o3))]⟩ [] 104 124 [(pc o5 16),(.clo 125 [(.ref (aI 24 o3))])]
 (.call ⟨[(13,anK)],[]⟩ [] 108 106 [(aI 8 o2),(pc o6 9)]
 (.call ⟨[],[]⟩ [] 112 106 [(aI 8 o2),(pc o6 10)]
 (.chk (ak (.mlen (.con (.map []))) dx)
 (.chk (ak (.mlen Qa) dx)
 (.chk (ak (.mlen (.put Qa (pi 8) (aq (pc o6 2) (pi (-1))))) dx)
 (.chk (ak (.mlen (.put (.put Qa (pi 8) (aq (pc o6 2) (pi (-1)))) (pi 9) (bt (.ai .and .i64 (pc o6 13) (pi 4)) (pi 0)))) dx)
 (.chk (ak (.mlen JG) dx)
 (.chk (ak (.mlen (.put JG (pi 11) (bt Qh Qi))) dx)
 (.chk (ak (.mlen (.put (.put JG (pi 11) (bt Qh Qi)) (pi 12) dG)) dx)
 (.chk (ak (.mlen aaF) dx)
 (.blockS ⟨[],[(139,(.tup [(.lst []),(.put aaF (pi 14) (cm r9 (pi 0)))]))]⟩ 2 [] [10]
 (.brk ⟨[],[]⟩
(alX b)
 (.exit 2 ⟨[],[]⟩))
 (.call ⟨[],[]⟩ [] 154 127 [(aI 19 o5),(pi 0),(pc o3 19)]
 (.chk (aB cI (pi 15))
 (.call ⟨[],[(10,(.setn cI (pi 15) 0 (.r 154)))]⟩ [] 160 127 [(aI 19 o5),(pi 1),(pc o3 19)]
 (.chk (aB cI (pi 16))
 (.call ⟨[],[(10,(.setn cI (pi 16) 0 (.r 160)))]⟩ [] 166 127 [(aI 19 o5),(pi 2),(pc o3 19)]
 (.chk (aB cI (pi 17))
 (.call ⟨[],[(10,(.setn cI (pi 17) 0 (.r 166)))]⟩ [] 171 127 [(aI 19 o5),(pi 3),r7]
 (.chk (aB cI (pi 18))
 (.call ⟨[],[(10,(.setn cI (pi 18) 0 (.r 171)))]⟩ [] 176 127 [(aI 19 o5),(pi 4),r7]
 (.chk (aB cI (pi 19))
 (.ret (.setn cI (pi 19) 0 (.r 176)))))))))))))))))))))))))))))))))))))))))
def agV (b:Nat→PC):PT×List (Shp×PT):=(vz b,[(.ea [10],QW b),(.ea [10],QX b)])
theorem Jj:yT.map told=some (agV (bO yT)):=by kernel_rfl
theorem aqy:tree (ah yT)=vz BB:=cO Jj
theorem aoe:tC [10] (BB 0)=QW BB:=ach Jj 0 fun _=>rfl
theorem aof:tC [10] (BB 1)=QX BB:=ach Jj 1 fun _=>rfl
def GP:Option PC:=cF [3] [] Tryz.f125 125 [2]
def SK:PT:=
 (.ret (cV qs (pc (.deref r1) 19)))
theorem ZS:GP.map told=some (SK,[]):=by kernel_rfl
theorem aqx:tree (ah GP)=SK:=bE ZS
def GS:Option PC:=cF [4] [] Tryz.f124 124 []
def SO:PT:=
 (.call ⟨[],[]⟩ [] 7 140 [r0,r1]
 (.ret (cY r7 (pi 0))))
theorem ZV:GS.map told=some (SO,[]):=by kernel_rfl
theorem aqC:tree (ah GS)=SO:=bE ZV
def yV:Option PC:=cF [4,5] [] Tryz.f140 140 []
def LN:Nat→PC:=bX yV
def alL (b:Nat→PC):PC:=.block 0 [4,8,9] [] (.loop [4,8] [] (b 0))
def ES (b:Nat→PC):PT:=
 (.ite (ak r8 r7)
 (.blockS ⟨[],[]⟩ 1 [4,5,10,11,12,13,14,15,16] []
 (.chk (aB r0 r8)
 (.callc ⟨[(5,r8)],[]⟩ [] 16 r1 [(pn r0 r8)]
 (.ite bT
 (.ret r5)
 (.next ⟨[],[]⟩))))
 (.next ⟨[(8,u7)],[]⟩))
 (.exit 0 ⟨[(9,(ak r8 r7))],[]⟩))
def SS (b:Nat→PC):PT:=
 (.brk ⟨[(8,(pi 0)),(7,(.llen r0)),(4,(pi 0))],[]⟩
(alL b)
 (.ret (pi (-1))))
def agX (b:Nat→PC):PT×List (Shp×PT):=(SS b,[(.lp 0 [4,8,9] [] [4,8] [],ES b)])
theorem Py:yV.map told=some (agX (bO yV)):=by kernel_rfl
theorem aqG:tree (ah yV)=SS LN:=cO Py
theorem QY:round 0 [4,8,9] [] [4,8] [] (LN 0)=ES LN:=bH Py 0 fun _=>rfl
def GM:Option PC:=cF [4] [] Tryz.f106 106 [2]
def Su:PT:=
 (.call ⟨[],[(2,(.mk [r0]))]⟩ [] 9 55 [r1,(.llen u4)]
 (.ite (.nt r9)
 (.ret (pi (-1)))
 (.chk (aB (pc o2 1) r1)
 (.ret (pc (pn (pc o2 1) r1) 1)))))
theorem ZP:GM.map told=some (Su,[]):=by kernel_rfl
theorem aqj:tree (ah GM)=Su:=bE ZP
def GN:Option PC:=cF [4] [] Tryz.f55 55 []
def Sz:PT:=
 (.ret Qf)
theorem ZQ:GN.map told=some (Sz,[]):=by kernel_rfl
theorem aqn:tree (ah GN)=Sz:=bE ZQ
def GQ:Option PC:=cF [] [] Tryz.f126 126 [2]
def SL:PT:=
 (.ite r0
 (.ret (.mk [(pc JD 0),(pc JD 1)]))
 (.ret (.mk [(pc JE 0),(pc JE 1)])))
theorem ZT:GQ.map told=some (SL,[]):=by kernel_rfl
theorem aqz:tree (ah GQ)=SL:=bE ZT
def yS:Option PC:=cF [] [] Tryz.f127 127 [3,6,8]
def LM:Nat→PC:=bX yS
def alI (b:Nat→PC):PC:=.block 0 [12,13] [6] (.loop [12] [6] (b 0))
def ER (b:Nat→PC):PT:=
 (.ite (ak dj bS)
 (.blockS ⟨[],[]⟩ 1 [8,14,15,16,17,18,19,20,25] [8,6]
 (.chk (aB di dj)
 (.iteS ⟨[],[(8,(.setc z3 0 (pn di dj)))]⟩ (.pick (aq (pc (.setc z3 0 (pn di dj)) 0) r1) (aq (pc (.setc z3 0 (pn di dj)) 1) r2) pF) [] [6]
 (.call ⟨[],[]⟩ [] 29 126 [(bt (pc o8 2) (pi 0))]
 (.ret (.mk [(pc (.setc o6 0 tz) 0),(pc (.setc o6 0 tz) 1)])))
 (.next ⟨[],[]⟩)
 (.next ⟨[],[]⟩)))
 (.next ⟨[(12,(br dj (pi 1)))],[]⟩))
 (.exit 0 ⟨[(13,(ak dj bS))],[]⟩))
def SJ (b:Nat→PC):PT:=
 (.brk ⟨[(12,(pi 0)),(11,(.llen AG)),(10,AG)],[(6,gA)]⟩
(alI b)
 (.ret (.mk [(pc (.setc o6 0 xy) 0),(pc (.setc o6 0 xy) 1)])))
def agU (b:Nat→PC):PT×List (Shp×PT):=(SJ b,[(.lp 0 [12,13] [6] [12] [6],ER b)])
theorem Px:yS.map told=some (agU (bO yS)):=by kernel_rfl
theorem aqw:tree (ah yS)=SJ LM:=cO Px
theorem QV:round 0 [12,13] [6] [12] [6] (LM 0)=ER LM:=bH Px 0 fun _=>rfl
def Gw:Option PC:=cF [2,3,4,11] [] Tryz.f82 82 []
def R2:PT:=
 (.blockS ⟨[],[]⟩ 0 [2,3,4,5,6,7,10,11,12,13,14] []
 (.iteS ⟨[],[]⟩ (.pick (ak r0 (pi 0)) pT (cY r0 (pi 22))) [2,3,11,12,13,14] []
 (.ret (.tup [(pi 0),pF]))
 (.call ⟨[],[]⟩ [] 14 105 [(.lst [(pc rD 0),(pc rD 1),(pc rD 2),(pc rD 3),(pc rD 4),(pc rD 5),(pc rD 6),(pc rD 7),(pc rD 8),(pc rD 9)]),r0]
 (.ite cJ
 (.ret (.tup [(pi 0),pT]))
 (.next ⟨[],[]⟩)))
 (.next ⟨[],[]⟩))
 (.ret (.tup [(pi 1),pT])))
theorem Zz:Gw.map told=some (R2,[]):=by kernel_rfl
theorem apS:tree (ah Gw)=R2:=bE Zz
def GV:Option PC:=cF [4] [] Tryz.f105 105 []
def SQ:PT:=
 (.call ⟨[],[]⟩ [] 7 128 [r0,r1]
 (.ret (cY r7 (pi 0))))
theorem ZX:GV.map told=some (SQ,[]):=by kernel_rfl
theorem aqE:tree (ah GV)=SQ:=bE ZX
def yZ:Option PC:=cF [4,5] [] Tryz.f128 128 []
def LR:Nat→PC:=bX yZ
def alP (b:Nat→PC):PC:=.block 0 [4,8,9] [] (.loop [4,8] [] (b 0))
def EW (b:Nat→PC):PT:=
 (.ite (ak r8 r7)
 (.chk (aB r0 r8)
 (.ite (aq r1 (pn r0 r8))
 (.ret r8)
 (.next ⟨[(8,u7)],[]⟩)))
 (.exit 0 ⟨[(9,(ak r8 r7))],[]⟩))
def SX (b:Nat→PC):PT:=
 (.brk ⟨[(8,(pi 0)),(7,(.llen r0)),(4,(pi 0))],[]⟩
(alP b)
 (.ret (pi (-1))))
def ag1 (b:Nat→PC):PT×List (Shp×PT):=(SX b,[(.lp 0 [4,8,9] [] [4,8] [],EW b)])
theorem PD:yZ.map told=some (ag1 (bO yZ)):=by kernel_rfl
theorem aqK:tree (ah yZ)=SX LR:=cO PD
theorem Q4:round 0 [4,8,9] [] [4,8] [] (LR 0)=EW LR:=bH PD 0 fun _=>rfl
def yt:Option PC:=cF [8,9,11,12,13,14,55,70] [] Tryz.f84 84 [4,10,53]
def Ls:Nat→PC:=bX yt
def ak4 (b:Nat→PC):PC:=.block 0 [] [] (.loop [8,9,10] [10] (b 0))
def Qx (b:Nat→PC):PT:=
 (.blockS ⟨[],[]⟩ 1 [8,9,10,11,12,13,14,32,33,35,36,37,38,39,40,41,42,43,44,45,46,49,50,52,53,54,55,56,57,58,68,70,71] [53,10]
 (.chk (aB cI (cN (.llen cI) (pi 1)))
 (.call ⟨[(11,(pn cI (cN (.llen cI) (pi 1))))],[]⟩ [] 41 108 [(aI 8 o4),(pn cI (cN (.llen cI) (pi 1))),r2,r3]
 (.ite (aq (.tget xA 0) bS)
 (.ret (.tup [cI,(pi 0)]))
 (.call ⟨[(13,(.tget xA 1)),(12,(.tget xA 0))],[]⟩ [] 50 105 [cI,(.tget xA 0)]
 (.chk (cV (.llen (.app cI (.lst [dj]))) dx)
 (.chk (.nt (.an (.an m5 (.an (.nt (.nt dG)) pT)) (.nt (aB (pc o4 4) dj))))
 (.ite (.pick (.nt dG) pT (.pick m5 (pc (pn (pc o4 4) dj) 1) pF))
 (.ret (.tup [(.app cI (.lst [dj])),(pi 0)]))
 (.ite m5
 (.ret (.tup [(.app cI (.lst [dj])),(pi 12)]))
 (.next ⟨[(10,pN)],[(10,(.app cI (.lst [dj])))]⟩)))))))))
 (.next ⟨[],[]⟩))
def RQ (b:Nat→PC):PT:=
 (.call ⟨[(9,(pi 0)),(8,pL)],[(4,(.mk [r0]))]⟩ [] 19 107 [nO,r1,r2,r3]
 (.chk (.nt (.an (.an (.nt (.nt iX)) pT) (.nt (aB r3 (pi 0)))))
 (.ite (.pick (.nt iX) pT (bt (pn r3 (pi 0)) r1))
 (.ret (.tup [pL,(pi 1)]))
 (.brk ⟨[(10,pN)],[(10,(.lst [r1]))]⟩
(ak4 b)
 (.next ⟨[],[]⟩)))))
def ags (b:Nat→PC):PT×List (Shp×PT):=(RQ b,[(.lp 0 [] [] [8,9,10] [10],Qx b)])
theorem Pf:yt.map told=some (ags (bO yt)):=by kernel_rfl
theorem apF:tree (ah yt)=RQ Ls:=cO Pf
theorem aoc:round 0 [] [] [8,9,10] [10] (Ls 0)=Qx Ls:=bH Pf 0 fun _=>rfl
def Gn:Option PC:=cF [8] [] Tryz.f107 107 [4,9]
def vy:PT:=
 (.ite (.pick (.pick (.pick (.pick (ak r1 (pi 0)) pT (cY r1 aaS)) pT (ak r2 (pi 0))) pT (cY r2 (pi 22))) pT (bt (.llen r3) (pi 5)))
 (.ret pF)
 (.call ⟨[],[]⟩ [] 35 129 [r3,(.clo 130 [(.ref aaS)])]
 (.ret (.nt Ef))))
theorem Zq:Gn.map told=some (vy,[]):=by kernel_rfl
theorem apI:tree (ah Gn)=vy:=bE Zq
def Gp:Option PC:=cF [3] [] Tryz.f130 130 []
def RS:PT:=
 (.ret (.pick (ak r0 (pi 0)) pT (cY r0 (.deref r1))))
theorem Zr:Gp.map told=some (RS,[]):=by kernel_rfl
theorem apH:tree (ah Gp)=RS:=bE Zr
def GU:Option PC:=cF [4] [] Tryz.f129 129 []
def SP:PT:=
 (.call ⟨[],[]⟩ [] 7 141 [r0,r1]
 (.ret (cY r7 (pi 0))))
theorem ZW:GU.map told=some (SP,[]):=by kernel_rfl
theorem aqD:tree (ah GU)=SP:=bE ZW
def yY:Option PC:=cF [4,5] [] Tryz.f141 141 []
def LQ:Nat→PC:=bX yY
def alO (b:Nat→PC):PC:=.block 0 [4,8,9] [] (.loop [4,8] [] (b 0))
def EV (b:Nat→PC):PT:=
 (.ite (ak r8 r7)
 (.blockS ⟨[],[]⟩ 1 [4,5,10,11,12,13,14,15,16] []
 (.chk (aB r0 r8)
 (.callc ⟨[(5,r8)],[]⟩ [] 16 r1 [(pn r0 r8)]
 (.ite bT
 (.ret r5)
 (.next ⟨[],[]⟩))))
 (.next ⟨[(8,u7)],[]⟩))
 (.exit 0 ⟨[(9,(ak r8 r7))],[]⟩))
def SW (b:Nat→PC):PT:=
 (.brk ⟨[(8,(pi 0)),(7,(.llen r0)),(4,(pi 0))],[]⟩
(alO b)
 (.ret (pi (-1))))
def ag0 (b:Nat→PC):PT×List (Shp×PT):=(SW b,[(.lp 0 [4,8,9] [] [4,8] [],EV b)])
theorem PB:yY.map told=some (ag0 (bO yY)):=by kernel_rfl
theorem aqJ:tree (ah yY)=SW LQ:=cO PB
theorem Q3:round 0 [4,8,9] [] [4,8] [] (LQ 0)=EV LQ:=bH PB 0 fun _=>rfl
def yu:Option PC:=cF [8,9] [] Tryz.f108 108 [4,11]
def Lt:Nat→PC:=bX yu
def ak5 (b:Nat→PC):PC:=.block 0 [8,9,25,26] [] (.loop [8,9,25] [] (b 0))
def Es (b:Nat→PC):PT:=
 (.ite (ak lI oY)
 (.chk (aB jS lI)
 (.ite (.pick (aq (pc Eb 0) r2) (bt (pc Eb 1) (pi 0)) pF)
 (.chk (aB r3 (pc Eb 1))
 (.ret (.tup [(pn r3 (pc Eb 1)),(pc Eb 2)])))
 (.next ⟨[(25,(br lI (pi 1)))],[]⟩)))
 (.exit 0 ⟨[(26,(ak lI oY))],[]⟩))
def RR (b:Nat→PC):PT:=
 (.call ⟨[(9,pF),(8,(pi 0))],[(4,(.mk [r0]))]⟩ [] 16 107 [nO,r1,r2,r3]
 (.ite (.nt bT)
 (.ret (.tup [(pi (-1)),pF]))
 (.chk (aB (pc o4 4) r1)
 (.brk ⟨[(25,(pi 0)),(24,(.llen (pc (pn (pc o4 4) r1) 2))),(23,(pc (pn (pc o4 4) r1) 2))],[]⟩
(ak5 b)
 (.ret (.tup [r1,pF]))))))
def agt (b:Nat→PC):PT×List (Shp×PT):=(RR b,[(.lp 0 [8,9,25,26] [] [8,9,25] [],Es b)])
theorem Pg:yu.map told=some (agt (bO yu)):=by kernel_rfl
theorem apG:tree (ah yu)=RR Lt:=cO Pg
theorem Qy:round 0 [8,9,25,26] [] [8,9,25] [] (Lt 0)=Es Lt:=bH Pg 0 fun _=>rfl
def Gv:Option PC:=cF [7,9,11,12] [] Tryz.f64 64 [3,6,8,10]
def R1:PT:=
 (.call ⟨[],[(6,gA)]⟩ [] 16 85 [(aI 4 (.mk [r0])),r1]
 (.ite (bt (.tget bT 1) (pi 0))
 (.ret (.tup [(.mk [(pc (.setc o6 0 xy) 0),(pc (.setc o6 0 xy) 1)]),(.tget bT 1)]))
 (.call ⟨[],[]⟩ [] 25 86 [(.mk [(pc (.setc jR 0 (.tget bT 0)) 0),(pc (.setc jR 0 (.tget bT 0)) 1),(pc (.setc jR 0 (.tget bT 0)) 2)]),r2]
 (.call ⟨[],[(10,(.setc gA 0 lI))]⟩ [] 28 82 [r1]
 (.ret (.tup [(.mk [(pc (.setc o6 0 (.mk [(pc Jz 0),(pc Jz 1)])) 0),(pc (.setc o6 0 (.mk [(pc Jz 0),(pc Jz 1)])) 1)]),(pi 0)]))))))
theorem Zy:Gv.map told=some (R1,[]):=by kernel_rfl
theorem apR:tree (ah Gv)=R1:=bE Zy
def Gx:Option PC:=cF [5,6,7,8,10,11] [] Tryz.f85 85 [2,3,4,12292,9]
def R3:PT:=
 (.call ⟨[],[(4,jR),(3,(.mk [r1])),(2,(.mk [r0]))]⟩ [] 14 82 [(pc (.mk [r1]) 0)]
 (.ite (.nt (.tget cJ 1))
 (.ret (.tup [P8,(pi 1)]))
 (.call ⟨[(6,(.tget cJ 0))],[]⟩ [] 23 109 [(pc o2 3),(.clo 110 [(.ref (pc o3 0))])]
 (.ite (ak jS (pi 0))
 (.ret (.tup [P8,(pi 4)]))
 (.chk (aB (pc o2 3) jS)
 (.call ⟨[],[(9,JB)]⟩ [] 35 111 [(.mk [(pc JB 0),(pc JB 1),(pc JB 2)])]
 (.ite (.pick (bt (.tget Ef 1) (pi 0)) pT (bt (.tget Ef 0) r6))
 (.ret (.tup [P8,(pi 11)]))
 (.ret (.tup [(.mk [(pc Qd 0),(pc Qd 1),(pc Qd 2)]),(pi 0)])))))))))
theorem ZA:Gx.map told=some (R3,[]):=by kernel_rfl
theorem apU:tree (ah Gx)=R3:=bE ZA
def Gy:Option PC:=cF [3] [] Tryz.f110 110 [2]
def R4:PT:=
 (.ret (aq qs (.deref r1)))
theorem ZB:Gy.map told=some (R4,[]):=by kernel_rfl
theorem apT:tree (ah Gy)=R4:=bE ZB
def yX:Option PC:=cF [4,5] [] Tryz.f109 109 []
def LP:Nat→PC:=bX yX
def alN (b:Nat→PC):PC:=.block 0 [4,8,9] [] (.loop [4,8] [] (b 0))
def EU (b:Nat→PC):PT:=
 (.ite (ak r8 r7)
 (.blockS ⟨[],[]⟩ 1 [4,5,10,11,12,13,14,15,16] []
 (.chk (aB r0 r8)
 (.callc ⟨[(5,r8)],[]⟩ [] 16 r1 [(pn r0 r8)]
 (.ite bT
 (.ret r5)
 (.next ⟨[],[]⟩))))
 (.next ⟨[(8,u7)],[]⟩))
 (.exit 0 ⟨[(9,(ak r8 r7))],[]⟩))
def SV (b:Nat→PC):PT:=
 (.brk ⟨[(8,(pi 0)),(7,(.llen r0)),(4,(pi 0))],[]⟩
(alN b)
 (.ret (pi (-1))))
def agZ (b:Nat→PC):PT×List (Shp×PT):=(SV b,[(.lp 0 [4,8,9] [] [4,8] [],EU b)])
theorem PA:yX.map told=some (agZ (bO yX)):=by kernel_rfl
theorem aqI:tree (ah yX)=SV LP:=cO PA
theorem Q0:round 0 [4,8,9] [] [4,8] [] (LP 0)=EU LP:=bH PA 0 fun _=>rfl
def GX:Option PC:=cF [2,3] [] Tryz.f111 111 [1]
def SZ:PT:=
 (.call ⟨[],[(1,(.mk [r0]))]⟩ [] 5 131 [(.mk [qs,u4,xx]),(pi 1)]
 (.ite (cm r5 (pi 60))
 (.ret (.tup [(pi 0),(pi 6)]))
 (.call ⟨[],[]⟩ [] 8 132 [(.mk [(pc o1 0),(pc o1 1),(pc o1 2)])]
 (.ret (.tup [(.tget r8 0),(.tget r8 1)])))))
theorem ZZ:GX.map told=some (SZ,[]):=by kernel_rfl
theorem aqM:tree (ah GX)=SZ:=bE ZZ
def v9:Option PC:=cF [4,5] [] Tryz.f131 131 [2,7,12295]
def LV:Nat→PC:=bX v9
def alU (b:Nat→PC):PC:=.block 0 [5,13,14] [] (.loop [5,13] [] (b 0))
def E0 (b:Nat→PC):PT:=
 (.ite (ak dG dj)
 (.blockS ⟨[(14,(ak dG dj))],[]⟩ 1 [5,7,15,16,17,18,19,20,21,22,23,24] [7,12295]
 (.chk (aB bS dG)
 (.call ⟨[(17,r5)],[]⟩ [] 21 131 [(.mk [(pc (.setc jR 0 (pn bS dG)) 0),(pc (.setc jR 0 (pn bS dG)) 1),(pc (.setc jR 0 (pn bS dG)) 2)]),(br r1 (pi 1))]
 (.ite (cm (br iu m0) (pi 60))
 (.exit 0 ⟨[(5,(br iu m0))],[]⟩)
 (.next ⟨[(5,(br iu m0))],[]⟩))))
 (.next ⟨[(13,(br dG (pi 1)))],[]⟩))
 (.exit 0 ⟨[(14,(ak dG dj))],[]⟩))
def KE (b:Nat→PC):PT:=
 (.ite (cm r1 (pi 8))
 (.ret (pi 61))
 (.brk ⟨[(13,(pi 0)),(12,rC),(11,xx),(5,(pi 1))],[]⟩
(alU b)
 (.ret r5)))
def ag5 (b:Nat→PC):PT×List (Shp×PT):=(KE b,[(.lp 0 [5,13,14] [] [5,13] [],E0 b)])
theorem PH:v9.map told=some (ag5 (bO v9)):=by kernel_rfl
theorem ack:tree (ah v9)=KE LV:=cO PH
theorem Q8:round 0 [5,13,14] [] [5,13] [] (LV 0)=E0 LV:=bH PH 0 fun _=>rfl
def y2:Option PC:=cF [2,3,5,7,8,38,47,10,11,12] [] Tryz.f132 132 [1,4,6,12294,9]
def BD:Nat→PC:=bX y2
def alR (b:Nat→PC):PC:=.block 0 [2,3,20,21] [4] (.loop [2,3,20] [4] (b 0))
def alS (b:Nat→PC):PC:=.block 3 [2,3,10,82,83] [] (.loop [2,3,10,82] [] (b 1))
def EY (b:Nat→PC):PT:=
 (.ite (ak gU iX)
 (.blockS ⟨[],[]⟩ 1 [2,3,5,6,7,8,22,23,24,25,26,27,28,29,30,31,33,34,35,36] [6,12294,4]
 (.chk (aB gT gU)
 (.call ⟨[(5,gU)],[]⟩ [] 27 132 [(.mk [(pc (.setc jR 0 (pn gT gU)) 0),(pc (.setc jR 0 (pn gT gU)) 1),(pc (.setc jR 0 (pn gT gU)) 2)])]
 (.ite (bt (.tget gB 1) (pi 0))
 (.ret (.tup [(pi 0),(.tget gB 1)]))
 (.chk (aB o4 r5)
 (.next ⟨[],[(4,(.setn o4 r5 0 (.tget gB 0)))]⟩)))))
 (.next ⟨[(20,(br gU (pi 1)))],[]⟩))
 (.exit 0 ⟨[(21,(ak gU iX))],[]⟩))
def vj (b:Nat→PC):PT:=
 (.ite (ak kK vh)
 (.chk (aB xD kK)
 (.ite (.pick (aq (pn xD kK) (pi (-1))) (aq di (pi (-1))) pF)
 (.chk (aB o4 kK)
 (.ite (bt (pn o4 kK) (.pick (aq (pn xD kK) (pi (-1))) (pn o4 kK) (pn xD kK)))
 (.ret (.tup [(pi 0),(pi 11)]))
 (.next ⟨[(10,(pn o4 kK)),(82,(br kK (pi 1)))],[]⟩)))
 (.chk (aB o4 kK)
 (.ite (bt (pn o4 kK) (.pick (aq (pn xD kK) (pi (-1))) di (pn xD kK)))
 (.ret (.tup [(pi 0),(pi 11)]))
 (.next ⟨[(82,(br kK (pi 1)))],[]⟩)))))
 (.exit 3 ⟨[(83,(ak kK vh))],[]⟩))
def S7 (b:Nat→PC):PT:=
 (.chk (.an (cY rC (pi 0)) (cV rC dx))
 (.chk (aq rC rC)
 (.brk ⟨[(20,(pi 0)),(19,rC),(18,xx),(4,pN),(3,(pi 0)),(2,(pi 0))],[(4,(.rep rC (pi 0))),(1,(.mk [r0]))]⟩
(alR b)
 (.blockS ⟨[],[]⟩ 2 [2,3,38,39,40,41,42,46,47,48,49,50,51,55,56,60] []
 (.iteS ⟨[],[]⟩ (.pick (ak (pc o1 0) (pi 0)) pT (cm (pc o1 0) (pi 13))) [2,3,47,48,49,50,51,55,56,60] []
 (.ret (.tup [(pi 0),(pi 1)]))
 (.iteS ⟨[],[]⟩ (.pick (.pick (aq (pc o1 0) (pi 0)) pT (aq (pc o1 0) (pi 1))) pT (aq (pc o1 0) (pi 2))) [2,3] []
 (.call ⟨[],[]⟩ [] 62 142 [(.mk [(pc o1 0),(pc o1 1),(pc o1 2)])]
 (.ret (.tup [(.tget qx 0),(.tget qx 1)])))
 (.next ⟨[],[]⟩)
 (.next ⟨[],[]⟩))
 (.next ⟨[],[]⟩))
 (.call ⟨[],[]⟩ [] 67 143 [(pc o1 0)]
 (.ite (.pick (bt (.llen o4) (.llen (pc (.setc mf 0 vf) 0))) pT (bt (pc o1 1) (pi 0)))
 (.ret (.tup [(pi 0),(pi 2)]))
 (.brk ⟨[(82,(pi 0)),(81,(.llen (pc (.setc mf 0 vf) 0))),(80,(pc (.setc mf 0 vf) 0)),(10,(pi (-1)))],[(9,(.setc mf 0 vf))]⟩
(alS b)
 (.ite (aq (pc o9 1) (pi (-1)))
 (.ret (.tup [di,(pi 0)]))
 (.ret (.tup [(pc o9 1),(pi 0)]))))))))))
def ag3 (b:Nat→PC):PT×List (Shp×PT):=(S7 b,[(.lp 0 [2,3,20,21] [4] [2,3,20] [4],EY b),(.lp 3 [2,3,10,82,83] [] [2,3,10,82] [],vj b)])
theorem Jl:y2.map told=some (ag3 (bO y2)):=by kernel_rfl
theorem aqQ:tree (ah y2)=S7 BD:=cO Jl
theorem Q6:round 0 [2,3,20,21] [4] [2,3,20] [4] (BD 0)=EY BD:=bH Jl 0 fun _=>rfl
theorem AP:round 3 [2,3,10,82,83] [] [2,3,10,82] [] (BD 1)=vj BD:=bH Jl 1 fun _=>rfl
def G3:Option PC:=cF [2,3,12,20,4,5] [] Tryz.f142 142 [1]
def Ta:PT:=
 (.ite (cm rC (pi 0))
 (.ret (.tup [(pi 0),(pi 2)]))
 (.blockS ⟨[(11,qs)],[(1,(.mk [r0]))]⟩ 0 [2,3,12,13,20,21] []
 (.iteS ⟨[],[]⟩ (aq bS (pi 0)) [2,3,20,21] []
 (.call ⟨[],[]⟩ [] 16 146 [(pc o1 1)]
 (.ite (bt bT (pc o1 1))
 (.ret (.tup [(pi 0),(pi 3)]))
 (.ret (.tup [(pi 0),(pi 0)]))))
 (.ite (aq bS (pi 1))
 (.ite (.pick (ak (pc o1 1) (pi 0)) pT (cm (pc o1 1) (pi 1)))
 (.ret (.tup [(pi 0),(pi 3)]))
 (.ret (.tup [(pi 1),(pi 0)])))
 (.next ⟨[],[]⟩))
 (.next ⟨[],[]⟩))
 (.call ⟨[],[]⟩ [] 33 144 [(pc o1 1)]
 (.ite (.nt (.tget Ee 1))
 (.ret (.tup [(pi 0),(pi 10)]))
 (.ret (.tup [(.tget Ee 0),(pi 0)]))))))
theorem Z5:G3.map told=some (Ta,[]):=by kernel_rfl
theorem aqT:tree (ah G3)=Ta:=bE Z5
def G2:Option PC:=cF [2] [] Tryz.f146 146 []
def S9:PT:=
 (.ret (.mn (.mx r0 (pi (-1099511627776))) AF))
theorem Z4:G2.map told=some (S9,[]):=by kernel_rfl
theorem aqS:tree (ah G2)=S9:=bE Z4
def GZ:Option PC:=cF [2,3,4,11] [] Tryz.f144 144 []
def S5:PT:=
 (.ite (.pick (ak r0 (pi 0)) pT (cm r0 (pi 19)))
 (.ret (.tup [(pi 0),pF]))
 (.ite (ak r0 (pi 7))
 (.ret (.tup [(pi 0),pT]))
 (.ret (.tup [(pi 1),pT]))))
theorem Z1:GZ.map told=some (S5,[]):=by kernel_rfl
theorem aqO:tree (ah GZ)=S5:=bE Z1
def G6:Option PC:=cF [4,8,13,17,21] [] Tryz.f143 143 [2]
def Td:PT:=
 (.ite (aq r0 (pi 3))
 (.ret (.mk [(pc (.setc mf 0 (.mk [(.lst [(pi 1)]),(pi 1)])) 0),(pc (.setc mf 0 (.mk [(.lst [(pi 1)]),(pi 1)])) 1)]))
 (.ite (.pick (aq r0 (pi 4)) (aq r0 (pi 4)) (aq r0 (pi 5)))
 (.ret (.mk [(pc (.setc mf 0 (.mk [(.lst [(pi 1),(pi 1)]),(pi 1)])) 0),(pc (.setc mf 0 (.mk [(.lst [(pi 1),(pi 1)]),(pi 1)])) 1)]))
 (.ite (aq r0 (pi 6))
 (.ret (.mk [(pc aaP 0),(pc aaP 1)]))
 (.ite (aq r0 (pi 7))
 (.ret (.mk [(pc (.setc mf 0 (.mk [(.lst [(pi 0),(pi 0)]),(pi 1)])) 0),(pc (.setc mf 0 (.mk [(.lst [(pi 0),(pi 0)]),(pi 1)])) 1)]))
 (.ite (aq r0 (pi 8))
 (.ret (.mk [(pc (.setc mf 0 (.mk [(.lst [(pi (-1)),(pi (-1))]),(pi 1)])) 0),(pc (.setc mf 0 (.mk [(.lst [(pi (-1)),(pi (-1))]),(pi 1)])) 1)]))
 (.ret (.mk [(pc (.setc mf 0 (.mk [(.lst [(pi 0),(pi 0)]),(pi 0)])) 0),(pc (.setc mf 0 (.mk [(.lst [(pi 0),(pi 0)]),(pi 0)])) 1)])))))))
theorem Z8:G6.map told=some (Td,[]):=by kernel_rfl
theorem aqX:tree (ah G6)=Td:=bE Z8
def GY:Option PC:=cF [5,6,8] [] Tryz.f86 86 [2,4,7]
def S4:PT:=
 (.call ⟨[],[(4,gA),(2,(.mk [r0]))]⟩ [] 11 111 [(.mk [qs,u4,xx])]
 (.ite (bt (.tget bS 1) (pi 0))
 (.ret D7)
 (.call ⟨[],[]⟩ [] 21 112 [(.mk [r1]),(.mk [(pc o2 0),(pc o2 1),(pc o2 2)])]
 (.ret (.mk [(pc aaL 0),(pc aaL 1)])))))
theorem Z0:GY.map told=some (S4,[]):=by kernel_rfl
theorem aqN:tree (ah GY)=S4:=bE Z0
def y3:Option PC:=cF [5,15,21,9,11] [] Tryz.f112 112 [2,3,4,6,33,7,8,10,12298,12]
def LU:Nat→PC:=bX y3
def alT (b:Nat→PC):PC:=.block 1 [45,46] [7,8] (.loop [45] [7,8] (b 0))
def EZ (b:Nat→PC):PT:=
 (.ite (ak rE Eg)
 (.blockS ⟨[],[]⟩ 2 [9,10,47,48,49,50,51,52,53,54,55,56,57,58,59,60,61] [10,12298,8,7]
 (.chk (aB vc rE)
 (.call ⟨[(54,rE),(52,rE)],[]⟩ [] 57 112 [(.mk [(pc o2 0)]),(.mk [(pc (.setc jR 0 (pn vc rE)) 0),(pc (.setc jR 0 (pn vc rE)) 1),(pc (.setc jR 0 (pn vc rE)) 2)])]
 (.chk (aB o7 Qm)
 (.chk (aB o8 tA)
 (.next ⟨[],[(8,(.setn o8 tA 0 (.tget xB 1))),(7,(.setn o7 Qm 0 (.tget xB 0)))]⟩)))))
 (.next ⟨[(45,(br rE (pi 1)))],[]⟩))
 (.exit 1 ⟨[(46,(ak rE Eg))],[]⟩))
def Fq (b:Nat→PC):PT:=
 (.blockS ⟨[(14,(pc (.mk [r1]) 0))],[(4,gA),(3,(.mk [r1])),(2,(.mk [r0]))]⟩ 0 [5,15,16,21,22] [4]
 (.iteS ⟨[],[]⟩ (.pick (aq cJ (pi 0)) (aq cJ (pi 0)) (aq cJ (pi 1))) [5,21,22] [4]
 (.ret (.tup [(.mk [(pc (.setc o4 0 (.mk [pT,(pc o3 1)])) 0),(pc (.setc o4 0 (.mk [pT,(pc o3 1)])) 1)]),pL]))
 (.iteS ⟨[],[]⟩ (aq cJ (pi 2)) [5] [4]
 (.call ⟨[],[]⟩ [] 26 133 [(.mk [(pc o2 0)]),(pc o3 1)]
 (.ite (pc (.setc gA 0 oZ) 0)
 (.ret (.tup [(.mk [(pc aaO 0),(pc aaO 1)]),pL]))
 (.ret (.tup [D7,(.lst [(pc o3 1)])]))))
 (.next ⟨[],[]⟩)
 (.next ⟨[],[]⟩))
 (.next ⟨[],[]⟩))
 (.chk (.an (cY oX (pi 0)) (cV oX dx))
 (.chk (aq oX oX)
 (.brk ⟨[(45,(pi 0)),(44,oX),(43,(pc o3 2)),(8,pN),(7,pN)],[(8,(.rep oX pL)),(7,(.rep oX gA))]⟩
(alT b)
 (.chk (.nt (.an (.an (aq (pc o3 0) (pi 6)) pT) (.nt (aB o7 (pi 0)))))
 (.ite (.pick (aq (pc o3 0) (pi 6)) (pc (pn o7 (pi 0)) 0) pF)
 (.chk (aB o7 (pi 0))
 (.chk (aB o7 D9)
 (.chk (aB o8 D9)
 (.ret (.tup [(.mk [(pc (.setc o4 0 (.sub (pn o7 D9) 0 2)) 0),(pc (.setc o4 0 (.sub (pn o7 D9) 0 2)) 1)]),(pn o8 D9)])))))
 (.call ⟨[],[]⟩ [] 88 134 [(pc o3 0),o7]
 (.ite (pc (.setc gA 0 JM) 0)
 (.ret (.tup [(.mk [(pc aaN 0),(pc aaN 1)]),pL]))
 (.call ⟨[(92,xy)],[]⟩ [] 94 135 [o8]
 (.ret (.tup [(.mk [(pc (.setc o4 0 r92) 0),(pc (.setc o4 0 r92) 1)]),r94])))))))))))
def ag4 (b:Nat→PC):PT×List (Shp×PT):=(Fq b,[(.lp 1 [45,46] [7,8] [45] [7,8],EZ b)])
theorem PG:y3.map told=some (ag4 (bO y3)):=by kernel_rfl
theorem aqU:tree (ah y3)=Fq LU:=cO PG
theorem Q7:round 1 [45,46] [7,8] [45] [7,8] (LU 0)=EZ LU:=bH PG 0 fun _=>rfl
def G4:Option PC:=cF [5,6] [] Tryz.f133 133 [2,4]
def Tb:PT:=
 (.chk (.nt (.an (.an (.nt (cY r1 (.llen qs))) pT) (.nt (aB qs r1))))
 (.ite (.pick (cY r1 (.llen qs)) pT (.nt (pc (pn qs r1) 0)))
 (.ret (.mk [(pc (.setc gA 0 xy) 0),(pc (.setc gA 0 xy) 1)]))
 (.call ⟨[],[(4,gA),(2,(.mk [r0]))]⟩ [] 24 144 [r1]
 (.iteS ⟨[],[]⟩ (aq (.tget oY 0) (pi 1)) [] [4]
 (.chk (aB (pc o2 0) r1)
 (.call ⟨[],[]⟩ [] 36 145 [(bt (pc (pn (pc o2 0) r1) 1) (pi 0))]
 (.ret (.mk [(pc (.setc o4 0 qu) 0),(pc (.setc o4 0 qu) 1)]))))
 (.next ⟨[],[]⟩)
 (.chk (aB (pc o2 0) r1)
 (.call ⟨[],[]⟩ [] 43 146 [(pc (pn (pc o2 0) r1) 1)]
 (.ret (.mk [(pc (.setc o4 0 (.mk [pT,vc])) 0),(pc (.setc o4 0 (.mk [pT,vc])) 1)]))))))))
theorem Z6:G4.map told=some (Tb,[]):=by kernel_rfl
theorem aqV:tree (ah G4)=Tb:=bE Z6
def G7:Option PC:=cF [] [] Tryz.f145 145 [2]
def Te:PT:=
 (.ite r0
 (.ret (.mk [(pc JD 0),(pc JD 1)]))
 (.ret (.mk [(pc JE 0),(pc JE 1)])))
theorem Z9:G7.map told=some (Te,[]):=by kernel_rfl
theorem aqY:tree (ah G7)=Te:=bE Z9
def G1:Option PC:=cF [9,22,41,6,7,82,88,94] [] Tryz.f134 134 [4,5]
def S8:PT:=
 (.blockS ⟨[(8,r0)],[(4,gA)]⟩ 0 [9,10,22,23] [4]
 (.iteS ⟨[],[]⟩ (aq r8 (pi 3)) [22,23] [4]
 (.chk (aB r1 (pi 0))
 (.iteS ⟨[],[]⟩ (pc (pn r1 (pi 0)) 0) [] [4]
 (.chk (aB r1 (pi 0))
 (.call ⟨[],[]⟩ [] 20 145 [(aq (pc (pn r1 (pi 0)) 1) (pi 0))]
 (.ret (.mk [(pc (.setc o4 0 gU) 0),(pc (.setc o4 0 gU) 1)]))))
 (.next ⟨[],[]⟩)
 (.ret D7)))
 (.iteS ⟨[],[]⟩ (.pick (aq r8 (pi 4)) (aq r8 (pi 4)) (aq r8 (pi 5))) [] [4]
 (.call ⟨[],[]⟩ [] 27 145 [(aq r0 (pi 5))]
 (.chk (aB r1 (pi 0))
 (.chk (.nt (.an (.an (.nt aaJ) pT) (.nt (aB r1 (pi 1)))))
 (.ite (.pick aaJ pT (.an (.cb .eql (pc qt 0) (pc AB 0)) (.an (aq (pc qt 1) (pc AB 1)) pT)))
 (.ret (.mk [(pc (.setc o4 0 AB) 0),(pc (.setc o4 0 AB) 1)]))
 (.next ⟨[],[]⟩)))))
 (.ite (aq r8 (pi 6))
 (.chk (aB r1 (pi 1))
 (.chk (.nt (.an (.an (pc qt 0) pT) (.nt (aB r1 (pi 1)))))
 (.chk (.nt (.an (.an (pc qt 0) pT) (.nt (aB r1 (pi 2)))))
 (.ite (.pick (pc qt 0) (.an (.cb .eql (pc qt 0) (pc (pn r1 (pi 2)) 0)) (.an (aq (pc qt 1) (pc (pn r1 (pi 2)) 1)) pT)) pF)
 (.ret (.mk [(pc (.setc o4 0 qt) 0),(pc (.setc o4 0 qt) 1)]))
 (.ret D7)))))
 (.next ⟨[],[]⟩))
 (.next ⟨[],[]⟩))
 (.next ⟨[],[]⟩))
 (.chk (aB r1 (pi 0))
 (.chk (.nt (.an (.an (.nt (.nt (pc (pn r1 (pi 0)) 0))) pT) (.nt (aB r1 (pi 1)))))
 (.ite (.pick (.nt (pc (pn r1 (pi 0)) 0)) pT (.nt (pc qt 0)))
 (.ret D7)
 (.chk (aB r1 (pi 1))
 (.blockS ⟨[(81,r0),(7,(pc qt 1)),(6,(pc (pn r1 (pi 0)) 1))],[]⟩ 1 [82,83,88,89,94,95] [4]
 (.iteS ⟨[],[]⟩ (.pick (aq vh (pi 4)) (aq vh (pi 4)) (aq vh (pi 5))) [88,89,94,95] [4]
 (.call ⟨[],[]⟩ [] 87 145 [(aq r0 (pi 4))]
 (.ret (.mk [(pc (.setc o4 0 r87) 0),(pc (.setc o4 0 r87) 1)])))
 (.iteS ⟨[],[]⟩ (aq vh (pi 7)) [94,95] [4]
 (.call ⟨[],[]⟩ [] 93 145 [(ak r6 r7)]
 (.ret (.mk [(pc (.setc o4 0 Qp) 0),(pc (.setc o4 0 Qp) 1)])))
 (.iteS ⟨[],[]⟩ (aq vh (pi 8)) [] [4]
 (.call ⟨[],[]⟩ [] 99 145 [(aq r6 r7)]
 (.ret (.mk [(pc (.setc o4 0 r99) 0),(pc (.setc o4 0 r99) 1)])))
 (.next ⟨[],[]⟩)
 (.next ⟨[],[]⟩))
 (.next ⟨[],[]⟩))
 (.next ⟨[],[]⟩))
 (.call ⟨[],[]⟩ [] 103 147 [r0,r6,r7]
 (.ret (.mk [(pc (.setc o4 0 (.mk [pT,aaU])) 0),(pc (.setc o4 0 (.mk [pT,aaU])) 1)])))))))))
theorem Z3:G1.map told=some (S8,[]):=by kernel_rfl
theorem aqR:tree (ah G1)=S8:=bE Z3
def G0:Option PC:=cF [6,8,14,20,25] [] Tryz.f147 147 []
def S6:PT:=
 (.blockS ⟨[(7,r0)],[]⟩ 0 [6,8,9,14,15,20,21,25,26] []
 (.iteS ⟨[],[]⟩ (aq r7 (pi 9)) [6,14,15,20,21,25,26] []
 (.call ⟨[],[]⟩ [] 13 146 [(br r1 r2)]
 (.ret dG))
 (.iteS ⟨[],[]⟩ (aq r7 (pi 10)) [6,20,21,25,26] []
 (.call ⟨[],[]⟩ [] 19 146 [(cN r1 r2)]
 (.ret iX))
 (.iteS ⟨[],[]⟩ (aq r7 (pi 11)) [6,25,26] []
 (.call ⟨[],[]⟩ [] 24 156 [r1,r2]
 (.ret oY))
 (.ite (aq r7 (pi 12))
 (.ret (.mn r1 r2))
 (.next ⟨[],[]⟩))
 (.next ⟨[],[]⟩))
 (.next ⟨[],[]⟩))
 (.next ⟨[],[]⟩))
 (.ret (.mx r1 r2)))
theorem Z2:G0.map told=some (S6,[]):=by kernel_rfl
theorem aqP:tree (ah G0)=S6:=bE Z2
def G5:Option PC:=cF [4,5,6,7] [] Tryz.f156 156 []
def Tc:PT:=
 (.call ⟨[],[]⟩ [] 19 157 [(.conv .u64 (.mx r0 (cN (pi 0) r0))),(.conv .u64 (.mx r1 (cN (pi 0) r1)))]
 (.ite (.cb .neq (ak r0 (pi 0)) (ak r1 (pi 0)))
 (.ret (cN (pi 0) aaB))
 (.ret aaB)))
theorem Z7:G5.map told=some (Tc,[]):=by kernel_rfl
theorem aqW:tree (ah G5)=Tc:=bE Z7
end Rm
