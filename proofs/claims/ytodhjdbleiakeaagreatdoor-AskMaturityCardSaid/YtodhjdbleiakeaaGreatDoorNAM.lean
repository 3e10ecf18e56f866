/-
  The functions of this seat, compiled (2).
-/
import Derived.Test.YtodhjdbleiakeaaGreatDoorNAK
import Derived.KernelRfl
set_option linter.unusedVariables false
set_option maxRecDepth 100000
namespace Rm
open Go Go.Proofs Cx
noncomputable def xC:Option PC:=aD {ctx with fr:=[2,3,5,7,8,38,47,10,11,12],nh:=[]} Tryz.f218 ((ab af 218).getD default) [1,4,6,12294,9]
noncomputable def Ll:PC:=az xC
noncomputable def AR:Nat→PC:=bG xC
def axi (b:Nat→PC):PC:=.block 0 [2,3,20,21] [4] (.loop [2,3,20] [4] (b 0))
def axj (b:Nat→PC):PC:=.block 3 [2,3,10,82,83] [] (.loop [2,3,10,82] [] (b 1))
def E1 (b:Nat→PC):PT:=
 (.ite (aj ed gr)
 (.blockS ⟨[],[]⟩ 1 [2,3,5,6,7,8,22,23,24,25,26,27,28,29,30,31,33,34,35,36] [6,12294,4]
 (.chk (av gT ed)
 (.call ⟨[(5,ed)],[]⟩ [] 27 218 [(.mk [(pc (.setc jY 0 (pn gT ed)) 0),(pc (.setc jY 0 (pn gT ed)) 1),(pc (.setc jY 0 (pn gT ed)) 2)])]
 (.ite (ba (.tget eK 1) (pi 0))
 (.ret (.tup [(pi 0),(.tget eK 1)]))
 (.chk (av o4 r5)
 (.next ⟨[],[(4,(.setn o4 r5 0 (.tget eK 0)))]⟩)))))
 (.next ⟨[(20,(aP ed (pi 1)))],[]⟩))
 (.exit 0 ⟨[(21,(aj ed gr))],[]⟩))
def uh (b:Nat→PC):PT:=
 (.ite (aj kJ sr)
 (.chk (av wI kJ)
 (.ite (.pick (aq (pn wI kJ) (pi (-1))) (aq cT (pi (-1))) pF)
 (.chk (av o4 kJ)
 (.ite (ba (pn o4 kJ) (.pick (aq (pn wI kJ) (pi (-1))) (pn o4 kJ) (pn wI kJ)))
 (.ret (.tup [(pi 0),(pi 11)]))
 (.next ⟨[(10,(pn o4 kJ)),(82,(aP kJ (pi 1)))],[]⟩)))
 (.chk (av o4 kJ)
 (.ite (ba (pn o4 kJ) (.pick (aq (pn wI kJ) (pi (-1))) cT (pn wI kJ)))
 (.ret (.tup [(pi 0),(pi 11)]))
 (.next ⟨[(82,(aP kJ (pi 1)))],[]⟩)))))
 (.exit 3 ⟨[(83,(aj kJ sr))],[]⟩))
def Ww (b:Nat→PC):PT:=
 (.chk (.an (bR px (pi 0)) (bV px cW))
 (.chk (aq px px)
 (.brk ⟨[(20,(pi 0)),(19,px),(18,zo),(4,pN),(3,(pi 0)),(2,(pi 0))],[(4,(.rep px (pi 0))),(1,(.mk [r0]))]⟩
(axi b)
 (.blockS ⟨[],[]⟩ 2 [2,3,38,39,40,41,42,46,47,48,49,50,51,55,56,60] []
 (.iteS ⟨[],[]⟩ (.pick (aj (pc o1 0) (pi 0)) pT (bh (pc o1 0) (pi 13))) [2,3,47,48,49,50,51,55,56,60] []
 (.ret (.tup [(pi 0),(pi 1)]))
 (.iteS ⟨[],[]⟩ (.pick (.pick (aq (pc o1 0) (pi 0)) pT (aq (pc o1 0) (pi 1))) pT (aq (pc o1 0) (pi 2))) [2,3] []
 (.call ⟨[],[]⟩ [] 62 260 [(.mk [(pc o1 0),(pc o1 1),(pc o1 2)])]
 (.ret (.tup [(.tget mV 0),(.tget mV 1)])))
 (.next ⟨[],[]⟩)
 (.next ⟨[],[]⟩))
 (.next ⟨[],[]⟩))
 (.call ⟨[],[]⟩ [] 67 261 [(pc o1 0)]
 (.ite (.pick (ba (.llen o4) (.llen (pc (.setc kZ 0 uc) 0))) pT (ba (pc o1 1) (pi 0)))
 (.ret (.tup [(pi 0),(pi 2)]))
 (.brk ⟨[(82,(pi 0)),(81,(.llen (pc (.setc kZ 0 uc) 0))),(80,(pc (.setc kZ 0 uc) 0)),(10,(pi (-1)))],[(9,(.setc kZ 0 uc))]⟩
(axj b)
 (.ite (aq (pc o9 1) (pi (-1)))
 (.ret (.tup [cT,(pi 0)]))
 (.ret (.tup [(pc o9 1),(pi 0)]))))))))))
def asb (b:Nat→PC):PT×List (Shp×PT):=(Ww b,[(.lp 0 [2,3,20,21] [4] [2,3,20] [4],E1 b),(.lp 3 [2,3,10,82,83] [] [2,3,10,82] [],uh b)])
theorem Ji:xC.map told=some (asb (ay xC)):=by kernel_rfl
theorem aDN:tree Ll=Ww AR:=aN Ji
theorem Ug:round 0 [2,3,20,21] [4] [2,3,20] [4] (AR 0)=E1 AR:=bx Ji 0 fun _=>rfl
theorem zM:round 3 [2,3,10,82,83] [] [2,3,10,82] [] (AR 1)=uh AR:=bx Ji 1 fun _=>rfl
theorem YS:xC=some Ll:=aF Ji
noncomputable def BU:Option PC:=aD {ctx with fr:=[2,3,12,20,4,5],nh:=[]} Tryz.f260 ((ab af 260).getD default) [1]
noncomputable def Lo:PC:=az BU
def Wz:PT:=
 (.ite (bh px (pi 0))
 (.ret (.tup [(pi 0),(pi 2)]))
 (.blockS ⟨[(11,la)],[(1,(.mk [r0]))]⟩ 0 [2,3,12,13,20,21] []
 (.iteS ⟨[],[]⟩ (aq bD (pi 0)) [2,3,20,21] []
 (.call ⟨[],[]⟩ [] 16 264 [(pc o1 1)]
 (.ite (ba dM (pc o1 1))
 (.ret (.tup [(pi 0),(pi 3)]))
 (.ret (.tup [(pi 0),(pi 0)]))))
 (.ite (aq bD (pi 1))
 (.ite (.pick (aj (pc o1 1) (pi 0)) pT (bh (pc o1 1) (pi 1)))
 (.ret (.tup [(pi 0),(pi 3)]))
 (.ret (.tup [(pi 1),(pi 0)])))
 (.next ⟨[],[]⟩))
 (.next ⟨[],[]⟩))
 (.call ⟨[],[]⟩ [] 33 262 [(pc o1 1)]
 (.ite (.nt (.tget sm 1))
 (.ret (.tup [(pi 0),(pi 10)]))
 (.ret (.tup [(.tget sm 0),(pi 0)]))))))
def ase (b:Nat→PC):PT×List (Shp×PT):=(Wz,[])
theorem afz:BU.map told=some (ase (ay BU)):=by kernel_rfl
theorem aDQ:tree Lo=Wz:=aN afz
theorem YU:BU=some Lo:=aF afz
noncomputable def He:Option PC:=aD {ctx with fr:=[2],nh:=[]} Tryz.f264 ((ab af 264).getD default) []
noncomputable def Ln:PC:=az He
def Wy:PT:=
 (.ret (.mn (.mx r0 (pi (-1099511627776))) zt))
def asd (b:Nat→PC):PT×List (Shp×PT):=(Wy,[])
theorem afy:He.map told=some (asd (ay He)):=by kernel_rfl
theorem aDP:tree Ln=Wy:=aN afy
theorem anZ:He=some Ln:=aF afy
noncomputable def BS:Option PC:=aD {ctx with fr:=[2,3,4,11],nh:=[]} Tryz.f262 ((ab af 262).getD default) []
noncomputable def Li:PC:=az BS
def Wu:PT:=
 (.ite (.pick (aj r0 (pi 0)) pT (bh r0 (pi 19)))
 (.ret (.tup [(pi 0),pF]))
 (.ite (aj r0 (pi 7))
 (.ret (.tup [(pi 0),pT]))
 (.ret (.tup [(pi 1),pT]))))
def ar9 (b:Nat→PC):PT×List (Shp×PT):=(Wu,[])
theorem afv:BS.map told=some (ar9 (ay BS)):=by kernel_rfl
theorem aDL:tree Li=Wu:=aN afv
theorem YR:BS=some Li:=aF afv
noncomputable def BW:Option PC:=aD {ctx with fr:=[4,8,13,17,21],nh:=[]} Tryz.f261 ((ab af 261).getD default) [2]
noncomputable def Lt:PC:=az BW
def WC:PT:=
 (.ite (aq r0 (pi 3))
 (.ret (.mk [(pc (.setc kZ 0 (.mk [(.lst [(pi 1)]),(pi 1)])) 0),(pc (.setc kZ 0 (.mk [(.lst [(pi 1)]),(pi 1)])) 1)]))
 (.ite (.pick (aq r0 (pi 4)) (aq r0 (pi 4)) (aq r0 (pi 5)))
 (.ret (.mk [(pc (.setc kZ 0 (.mk [(.lst [(pi 1),(pi 1)]),(pi 1)])) 0),(pc (.setc kZ 0 (.mk [(.lst [(pi 1),(pi 1)]),(pi 1)])) 1)]))
 (.ite (aq r0 (pi 6))
 (.ret (.mk [(pc af9 0),(pc af9 1)]))
 (.ite (aq r0 (pi 7))
 (.ret (.mk [(pc (.setc kZ 0 (.mk [(.lst [(pi 0),(pi 0)]),(pi 1)])) 0),(pc (.setc kZ 0 (.mk [(.lst [(pi 0),(pi 0)]),(pi 1)])) 1)]))
 (.ite (aq r0 (pi 8))
 (.ret (.mk [(pc (.setc kZ 0 (.mk [(.lst [(pi (-1)),(pi (-1))]),(pi 1)])) 0),(pc (.setc kZ 0 (.mk [(.lst [(pi (-1)),(pi (-1))]),(pi 1)])) 1)]))
 (.ret (.mk [(pc (.setc kZ 0 (.mk [(.lst [(pi 0),(pi 0)]),(pi 0)])) 0),(pc (.setc kZ 0 (.mk [(.lst [(pi 0),(pi 0)]),(pi 0)])) 1)])))))))
def asj (b:Nat→PC):PT×List (Shp×PT):=(WC,[])
theorem afC:BW.map told=some (asj (ay BW)):=by kernel_rfl
theorem aDU:tree Lt=WC:=aN afC
theorem YY:BW=some Lt:=aF afC
noncomputable def Hc:Option PC:=aD {ctx with fr:=[5,6,8],nh:=[]} Tryz.f96 ((ab af 96).getD default) [2,4,7]
noncomputable def Lh:PC:=az Hc
def Wt:PT:=
 (.call ⟨[],[(4,fD),(2,(.mk [r0]))]⟩ [] 11 170 [LH]
 (.ite (ba (.tget bD 1) (pi 0))
 (.ret D3)
 (.call ⟨[],[]⟩ [] 21 171 [(.mk [r1]),(.mk [(pc o2 0),(pc o2 1),(pc o2 2)])]
 (.ret (.mk [(pc agt 0),(pc agt 1)])))))
def ar7 (b:Nat→PC):PT×List (Shp×PT):=(Wt,[])
theorem afu:Hc.map told=some (ar7 (ay Hc)):=by kernel_rfl
theorem aDJ:tree Lh=Wt:=aN afu
theorem anX:Hc=some Lh:=aF afu
noncomputable def xD:Option PC:=aD {ctx with fr:=[5,15,21,9,11],nh:=[]} Tryz.f171 ((ab af 171).getD default) [2,3,4,6,33,7,8,10,12298,12]
noncomputable def Lp:PC:=az xD
noncomputable def N1:Nat→PC:=bG xD
def axk (b:Nat→PC):PC:=.block 1 [45,46] [7,8] (.loop [45] [7,8] (b 0))
def E2 (b:Nat→PC):PT:=
 (.ite (aj py ua)
 (.blockS ⟨[],[]⟩ 2 [9,10,47,48,49,50,51,52,53,54,55,56,57,58,59,60,61] [10,12298,8,7]
 (.chk (av qL py)
 (.call ⟨[(54,py),(52,py)],[]⟩ [] 57 171 [(.mk [(pc o2 0)]),(.mk [(pc (.setc jY 0 (pn qL py)) 0),(pc (.setc jY 0 (pn qL py)) 1),(pc (.setc jY 0 (pn qL py)) 2)])]
 (.chk (av o7 LV)
 (.chk (av o8 pz)
 (.next ⟨[],[(8,(.setn o8 pz 0 (.tget Ef 1))),(7,(.setn o7 LV 0 (.tget Ef 0)))]⟩)))))
 (.next ⟨[(45,(aP py (pi 1)))],[]⟩))
 (.exit 1 ⟨[(46,(aj py ua))],[]⟩))
def Ft (b:Nat→PC):PT:=
 (.blockS ⟨[(14,(pc (.mk [r1]) 0))],[(4,fD),(3,(.mk [r1])),(2,(.mk [r0]))]⟩ 0 [5,15,16,21,22] [4]
 (.iteS ⟨[],[]⟩ (.pick (aq dv (pi 0)) (aq dv (pi 0)) (aq dv (pi 1))) [5,21,22] [4]
 (.ret (.tup [(.mk [(pc (.setc o4 0 (.mk [pT,(pc o3 1)])) 0),(pc (.setc o4 0 (.mk [pT,(pc o3 1)])) 1)]),pL]))
 (.iteS ⟨[],[]⟩ (aq dv (pi 2)) [5] [4]
 (.call ⟨[],[]⟩ [] 26 219 [(.mk [(pc o2 0)]),(pc o3 1)]
 (.ite (pc (.setc fD 0 ld) 0)
 (.ret (.tup [(.mk [(pc af8 0),(pc af8 1)]),pL]))
 (.ret (.tup [D3,(.lst [(pc o3 1)])]))))
 (.next ⟨[],[]⟩)
 (.next ⟨[],[]⟩))
 (.next ⟨[],[]⟩))
 (.chk (.an (bR nS (pi 0)) (bV nS cW))
 (.chk (aq nS nS)
 (.brk ⟨[(45,(pi 0)),(44,nS),(43,(pc o3 2)),(8,pN),(7,pN)],[(8,(.rep nS pL)),(7,(.rep nS fD))]⟩
(axk b)
 (.chk (.nt (.an (.an (aq (pc o3 0) (pi 6)) pT) (.nt (av o7 (pi 0)))))
 (.ite (.pick (aq (pc o3 0) (pi 6)) (pc (pn o7 (pi 0)) 0) pF)
 (.chk (av o7 (pi 0))
 (.chk (av o7 D4)
 (.chk (av o8 D4)
 (.ret (.tup [(.mk [(pc (.setc o4 0 (.sub (pn o7 D4) 0 2)) 0),(pc (.setc o4 0 (.sub (pn o7 D4) 0 2)) 1)]),(pn o8 D4)])))))
 (.call ⟨[],[]⟩ [] 88 220 [(pc o3 0),o7]
 (.ite (pc (.setc fD 0 LZ) 0)
 (.ret (.tup [(.mk [(pc af7 0),(pc af7 1)]),pL]))
 (.call ⟨[(92,wD)],[]⟩ [] 94 221 [o8]
 (.ret (.tup [(.mk [(pc (.setc o4 0 zD) 0),(pc (.setc o4 0 zD) 1)]),r94])))))))))))
def asf (b:Nat→PC):PT×List (Shp×PT):=(Ft b,[(.lp 1 [45,46] [7,8] [45] [7,8],E2 b)])
theorem Sq:xD.map told=some (asf (ay xD)):=by kernel_rfl
theorem aDR:tree Lp=Ft N1:=aN Sq
theorem Uh:round 1 [45,46] [7,8] [45] [7,8] (N1 0)=E2 N1:=bx Sq 0 fun _=>rfl
theorem YV:xD=some Lp:=aF Sq
noncomputable def BV:Option PC:=aD {ctx with fr:=[5,6],nh:=[]} Tryz.f219 ((ab af 219).getD default) [2,4]
noncomputable def Lq:PC:=az BV
def WA:PT:=
 (.chk (.nt (.an (.an (.nt (bR r1 (.llen la))) pT) (.nt (av la r1))))
 (.ite (.pick (bR r1 (.llen la)) pT (.nt (pc (pn la r1) 0)))
 (.ret (.mk [(pc (.setc fD 0 wD) 0),(pc (.setc fD 0 wD) 1)]))
 (.call ⟨[],[(4,fD),(2,(.mk [r0]))]⟩ [] 24 262 [r1]
 (.iteS ⟨[],[]⟩ (aq (.tget nU 0) (pi 1)) [] [4]
 (.chk (av (pc o2 0) r1)
 (.call ⟨[],[]⟩ [] 36 263 [(ba (pc (pn (pc o2 0) r1) 1) (pi 0))]
 (.ret (.mk [(pc (.setc o4 0 kG) 0),(pc (.setc o4 0 kG) 1)]))))
 (.next ⟨[],[]⟩)
 (.chk (av (pc o2 0) r1)
 (.call ⟨[],[]⟩ [] 43 264 [(pc (pn (pc o2 0) r1) 1)]
 (.ret (.mk [(pc (.setc o4 0 (.mk [pT,qL])) 0),(pc (.setc o4 0 (.mk [pT,qL])) 1)]))))))))
def asg (b:Nat→PC):PT×List (Shp×PT):=(WA,[])
theorem afA:BV.map told=some (asg (ay BV)):=by kernel_rfl
theorem aDS:tree Lq=WA:=aN afA
theorem YW:BV=some Lq:=aF afA
noncomputable def BX:Option PC:=aD {ctx with fr:=[],nh:=[]} Tryz.f263 ((ab af 263).getD default) [2]
noncomputable def Lu:PC:=az BX
def WD:PT:=
 (.ite r0
 (.ret (.mk [(pc wy 0),(pc wy 1)]))
 (.ret (.mk [(pc LO 0),(pc LO 1)])))
def asl (b:Nat→PC):PT×List (Shp×PT):=(WD,[])
theorem afD:BX.map told=some (asl (ay BX)):=by kernel_rfl
theorem aDV:tree Lu=WD:=aN afD
theorem YZ:BX=some Lu:=aF afD
noncomputable def BT:Option PC:=aD {ctx with fr:=[9,22,41,6,7,82,88,94],nh:=[]} Tryz.f220 ((ab af 220).getD default) [4,5]
noncomputable def Lm:PC:=az BT
def Wx:PT:=
 (.blockS ⟨[(8,r0)],[(4,fD)]⟩ 0 [9,10,22,23] [4]
 (.iteS ⟨[],[]⟩ (aq r8 (pi 3)) [22,23] [4]
 (.chk (av r1 (pi 0))
 (.iteS ⟨[],[]⟩ (pc (pn r1 (pi 0)) 0) [] [4]
 (.chk (av r1 (pi 0))
 (.call ⟨[],[]⟩ [] 20 263 [(aq (pc (pn r1 (pi 0)) 1) (pi 0))]
 (.ret (.mk [(pc (.setc o4 0 ed) 0),(pc (.setc o4 0 ed) 1)]))))
 (.next ⟨[],[]⟩)
 (.ret D3)))
 (.iteS ⟨[],[]⟩ (.pick (aq r8 (pi 4)) (aq r8 (pi 4)) (aq r8 (pi 5))) [] [4]
 (.call ⟨[],[]⟩ [] 27 263 [(aq r0 (pi 5))]
 (.chk (av r1 (pi 0))
 (.chk (.nt (.an (.an (.nt agp) pT) (.nt (av r1 (pi 1)))))
 (.ite (.pick agp pT (.an (.cb .eql (pc pw 0) (pc zl 0)) (.an (aq (pc pw 1) (pc zl 1)) pT)))
 (.ret (.mk [(pc (.setc o4 0 zl) 0),(pc (.setc o4 0 zl) 1)]))
 (.next ⟨[],[]⟩)))))
 (.ite (aq r8 (pi 6))
 (.chk (av r1 (pi 1))
 (.chk (.nt (.an (.an (pc pw 0) pT) (.nt (av r1 (pi 1)))))
 (.chk (.nt (.an (.an (pc pw 0) pT) (.nt (av r1 (pi 2)))))
 (.ite (.pick (pc pw 0) (.an (.cb .eql (pc pw 0) (pc (pn r1 (pi 2)) 0)) (.an (aq (pc pw 1) (pc (pn r1 (pi 2)) 1)) pT)) pF)
 (.ret (.mk [(pc (.setc o4 0 pw) 0),(pc (.setc o4 0 pw) 1)]))
 (.ret D3)))))
 (.next ⟨[],[]⟩))
 (.next ⟨[],[]⟩))
 (.next ⟨[],[]⟩))
 (.chk (av r1 (pi 0))
 (.chk (.nt (.an (.an (.nt (.nt (pc (pn r1 (pi 0)) 0))) pT) (.nt (av r1 (pi 1)))))
 (.ite (.pick (.nt (pc (pn r1 (pi 0)) 0)) pT (.nt (pc pw 0)))
 (.ret D3)
 (.chk (av r1 (pi 1))
 (.blockS ⟨[(81,r0),(7,(pc pw 1)),(6,(pc (pn r1 (pi 0)) 1))],[]⟩ 1 [82,83,88,89,94,95] [4]
 (.iteS ⟨[],[]⟩ (.pick (aq sr (pi 4)) (aq sr (pi 4)) (aq sr (pi 5))) [88,89,94,95] [4]
 (.call ⟨[],[]⟩ [] 87 263 [(aq r0 (pi 4))]
 (.ret (.mk [(pc (.setc o4 0 r87) 0),(pc (.setc o4 0 r87) 1)])))
 (.iteS ⟨[],[]⟩ (aq sr (pi 7)) [94,95] [4]
 (.call ⟨[],[]⟩ [] 93 263 [(aj r6 r7)]
 (.ret (.mk [(pc (.setc o4 0 zE) 0),(pc (.setc o4 0 zE) 1)])))
 (.iteS ⟨[],[]⟩ (aq sr (pi 8)) [] [4]
 (.call ⟨[],[]⟩ [] 99 263 [(aq r6 r7)]
 (.ret (.mk [(pc (.setc o4 0 qM) 0),(pc (.setc o4 0 qM) 1)])))
 (.next ⟨[],[]⟩)
 (.next ⟨[],[]⟩))
 (.next ⟨[],[]⟩))
 (.next ⟨[],[]⟩))
 (.call ⟨[],[]⟩ [] 103 265 [r0,r6,r7]
 (.ret (.mk [(pc (.setc o4 0 (.mk [pT,LS])) 0),(pc (.setc o4 0 (.mk [pT,LS])) 1)])))))))))
def asc (b:Nat→PC):PT×List (Shp×PT):=(Wx,[])
theorem afx:BT.map told=some (asc (ay BT)):=by kernel_rfl
theorem aDO:tree Lm=Wx:=aN afx
theorem YT:BT=some Lm:=aF afx
noncomputable def Hd:Option PC:=aD {ctx with fr:=[6,8,14,20,25],nh:=[]} Tryz.f265 ((ab af 265).getD default) []
noncomputable def Lj:PC:=az Hd
def Wv:PT:=
 (.blockS ⟨[(7,r0)],[]⟩ 0 [6,8,9,14,15,20,21,25,26] []
 (.iteS ⟨[],[]⟩ (aq r7 (pi 9)) [6,14,15,20,21,25,26] []
 (.call ⟨[],[]⟩ [] 13 264 [(aP r1 r2)]
 (.ret dL))
 (.iteS ⟨[],[]⟩ (aq r7 (pi 10)) [6,20,21,25,26] []
 (.call ⟨[],[]⟩ [] 19 264 [(bC r1 r2)]
 (.ret gr))
 (.iteS ⟨[],[]⟩ (aq r7 (pi 11)) [6,25,26] []
 (.call ⟨[],[]⟩ [] 24 286 [r1,r2]
 (.ret nU))
 (.ite (aq r7 (pi 12))
 (.ret (.mn r1 r2))
 (.next ⟨[],[]⟩))
 (.next ⟨[],[]⟩))
 (.next ⟨[],[]⟩))
 (.next ⟨[],[]⟩))
 (.ret (.mx r1 r2)))
def asa (b:Nat→PC):PT×List (Shp×PT):=(Wv,[])
theorem afw:Hd.map told=some (asa (ay Hd)):=by kernel_rfl
theorem aDM:tree Lj=Wv:=aN afw
theorem anY:Hd=some Lj:=aF afw
noncomputable def Hf:Option PC:=aD {ctx with fr:=[4,5,6,7],nh:=[]} Tryz.f286 ((ab af 286).getD default) []
noncomputable def Ls:PC:=az Hf
def WB:PT:=
 (.call ⟨[],[]⟩ [] 19 298 [(.conv .u64 (.mx r0 (bC (pi 0) r0))),(.conv .u64 (.mx r1 (bC (pi 0) r1)))]
 (.ite (.cb .neq (aj r0 (pi 0)) (aj r1 (pi 0)))
 (.ret (bC (pi 0) agf))
 (.ret agf)))
def asi (b:Nat→PC):PT×List (Shp×PT):=(WB,[])
theorem afB:Hf.map told=some (asi (ay Hf)):=by kernel_rfl
theorem aDT:tree Ls=WB:=aN afB
theorem an0:Hf=some Ls:=aF afB
noncomputable def Gj:Option PC:=aD {ctx with fr:=[4,5,6,7,8,9,10,11,12,13],nh:=[]} Tryz.f298 ((ab af 298).getD default) []
noncomputable def Jx:PC:=az Gj
def UW:PT:=
 (.chk (bR zq (pi 0))
 (.ret (.tup [(.ai .add .u64 (.ai .add .u64 (.ai .mul .u64 sf (.ai .shr .u64 r1 zq)) (.ai .shr .u64 agc zq)) (.ai .shr .u64 (.ai .add .u64 (.ai .and .u64 agc (.con (.v (.int .u64 4294967295)))) (.ai .mul .u64 (.ai .and .u64 r0 (.con (.v (.int .u64 4294967295)))) (.ai .shr .u64 r1 zq))) zq)),(.ai .mul .u64 r0 r1)])))
def aqg (b:Nat→PC):PT×List (Shp×PT):=(UW,[])
theorem aez:Gj.map told=some (aqg (ay Gj)):=by kernel_rfl
theorem aB4:tree Jx=UW:=aN aez
theorem amm:Gj=some Jx:=aF aez
noncomputable def xz:Option PC:=aD {ctx with fr:=[2,3,5,8],nh:=[]} Tryz.f221 ((ab af 221).getD default) [6]
noncomputable def KU:PC:=az xz
noncomputable def AP:Nat→PC:=bG xz
def aw5 (b:Nat→PC):PC:=.block 0 [3,11,12] [] (.loop [3,11] [] (b 0))
def aw6 (b:Nat→PC):PC:=.block 2 [6,27,28] [6] (.loop [6,27] [6] (b 1))
def Me (b:Nat→PC):PT:=
 (.ite (aj bD cT)
 (.chk (av r9 bD)
 (.ite (aj (aP r3 (.llen (pn r9 bD))) (pi 0))
 (.chk (.nt pT)
 (.chk (.nt pT)
 (.next ⟨[(3,(aP r3 (.llen (pn r9 bD)))),(11,(aP bD (pi 1)))],[]⟩)))
 (.next ⟨[(3,(aP r3 (.llen (pn r9 bD)))),(11,(aP bD (pi 1)))],[]⟩)))
 (.exit 0 ⟨[(12,(aj bD cT))],[]⟩))
def Mf (b:Nat→PC):PT:=
 (.ite (aj eK ld)
 (.chk (av iZ eK)
 (.chk (bV (.llen (.app o6 (pn iZ eK))) cW)
 (.next ⟨[(6,pN),(27,(aP eK (pi 1)))],[(6,(.app o6 (pn iZ eK)))]⟩)))
 (.exit 2 ⟨[(28,(aj eK ld))],[]⟩))
def Wb (b:Nat→PC):PT:=
 (.brk ⟨[(11,(pi 0)),(10,(.llen r0)),(9,r0),(3,(pi 0))],[]⟩
(aw5 b)
 (.call ⟨[],[]⟩ [] 24 266 [pL,r3]
 (.brk ⟨[(27,(pi 0)),(26,(.llen r0)),(25,r0),(6,pN)],[(6,nU)]⟩
(aw6 b)
 (.ret o6))))
def arK (b:Nat→PC):PT×List (Shp×PT):=(Wb b,[(.lp 0 [3,11,12] [] [3,11] [],Me b),(.lp 2 [6,27,28] [6] [6,27] [6],Mf b)])
theorem Jg:xz.map told=some (arK (ay xz)):=by kernel_rfl
theorem aDp:tree KU=Wb AP:=aN Jg
theorem agV:round 0 [3,11,12] [] [3,11] [] (AP 0)=Me AP:=bx Jg 0 fun _=>rfl
theorem agW:round 2 [6,27,28] [6] [6,27] [6] (AP 1)=Mf AP:=bx Jg 1 fun _=>rfl
theorem YI:xz=some KU:=aF Jg
noncomputable def Bq:Option PC:=aD {ctx with fr:=[4,5],nh:=[]} Tryz.f49 ((ab af 49).getD default) [2,3]
noncomputable def Ku:PC:=az Bq
noncomputable def NM:Nat→PC:=bG Bq
def awG (b:Nat→PC):PC:=.block 0 [4,5,34,35,36,37,38] [] (.loop [4,5] [] (b 0))
def L8 (b:Nat→PC):PT:=
 (.ite (aj r5 (.llen (pc o2 3)))
 (.chk (av (pc o2 3) r5)
 (.chk (av (pc o3 3) r5)
 (.ite (ba (pn (pc o2 3) r5) (pn (pc o3 3) r5))
 (.ret pF)
 (.next ⟨[(5,qE)],[]⟩))))
 (.exit 0 ⟨[(34,r5),(35,pN),(36,(pc o2 3)),(37,(.llen (pc o2 3))),(38,(aj r5 (.llen (pc o2 3))))],[]⟩))
def VO (b:Nat→PC):PT:=
 (.ite (.pick (.pick (.pick (.nt (.an (.cb .eql (pc (.mk [la,sk]) 0) (pc (.mk [(pc (.mk [r1]) 0),(pc (.mk [r1]) 1)]) 0)) (.an (aq (pc (.mk [la,sk]) 1) (pc (.mk [(pc (.mk [r1]) 0),(pc (.mk [r1]) 1)]) 1)) pT))) pT (ba zo (pc (.mk [r1]) 2))) pT (ba wC (pc (.mk [r1]) 4))) pT (ba (.llen (pc (.mk [r0]) 3)) (.llen (pc (.mk [r1]) 3))))
 (.ret pF)
 (.brk ⟨[(5,(pi 0)),(4,pF)],[(3,(.mk [r1])),(2,(.mk [r0]))]⟩
(awG b)
 (.ret pT)))
def arh (b:Nat→PC):PT×List (Shp×PT):=(VO b,[(.lp 0 [4,5,34,35,36,37,38] [] [4,5] [],L8 b)])
theorem Sa:Bq.map told=some (arh (ay Bq)):=by kernel_rfl
theorem aC0:tree Ku=VO NM:=aN Sa
theorem agQ:round 0 [4,5,34,35,36,37,38] [] [4,5] [] (NM 0)=L8 NM:=bx Sa 0 fun _=>rfl
theorem ani:Bq=some Ku:=aF Sa
noncomputable def Gc:Option PC:=aD {ctx with fr:=[2,3,7,12],nh:=[]} Tryz.f46 ((ab af 46).getD default) [1]
noncomputable def Ju:PC:=az Gc
def UR:PT:=
 (.ite (ba wC (pi 0))
 (.ret (pi 0))
 (.ite (.nt la)
 (.ret (pi 2))
 (.ite (ba sk (pi 0))
 (.ret (pi 1))
 (.ret (pi 0)))))
def ap8 (b:Nat→PC):PT×List (Shp×PT):=(UR,[])
theorem aeu:Gc.map told=some (ap8 (ay Gc)):=by kernel_rfl
theorem aBW:tree Ju=UR:=aN aeu
theorem amg:Gc=some Ju:=aF aeu
noncomputable def Ga:Option PC:=aD {ctx with fr:=[2],nh:=[]} Tryz.f48 ((ab af 48).getD default) [1]
noncomputable def Js:PC:=az Ga
def UP:PT:=
 (.ite (.pick (ba wC (pi 0)) pT (.nt la))
 (.ret (pi (-1)))
 (.ret sk))
def ap6 (b:Nat→PC):PT×List (Shp×PT):=(UP,[])
theorem aes:Ga.map told=some (ap6 (ay Ga)):=by kernel_rfl
theorem aBU:tree Js=UP:=aN aes
theorem ame:Ga=some Js:=aF aes
noncomputable def F9:Option PC:=aD {ctx with fr:=[8,10],nh:=[]} Tryz.f82 ((ab af 82).getD default) [4,7,9]
noncomputable def Jr:PC:=az F9
def UO:PT:=
 (.call ⟨[],[(4,(.mk [r0]))]⟩ [] 16 83 [kD,r1,r2,(aC 24 (.mk [r3]))]
 (.ite (aq (pc D5 2) (pi (-1)))
 (.ret pL)
 (.chk (av (pc o4 4) (pc D5 2))
 (.call ⟨[],[]⟩ [] 30 163 [(pn (pc o4 4) (pc D5 2)),r2,(.tget dM 1)]
 (.ret tZ)))))
def ap5 (b:Nat→PC):PT×List (Shp×PT):=(UO,[])
theorem aer:F9.map told=some (ap5 (ay F9)):=by kernel_rfl
theorem aBT:tree Jr=UO:=aN aer
theorem amd:F9=some Jr:=aF aer
noncomputable def A3:Option PC:=aD {ctx with fr:=[6,8],nh:=[]} Tryz.f163 ((ab af 163).getD default) [3,7]
noncomputable def SG:PC:=az A3
def aCt:PT:=
 (.call ⟨[],[]⟩ [] 12 95 [(aC 4 (.mk [r0])),r1]
 (.ite (ba (.tget bY 1) (pi 0))
 (.ret pL)
 (.call ⟨[],[]⟩ [] 19 215 [(.mk [(pc (.setc jY 0 (.tget bY 0)) 0),(pc (.setc jY 0 (.tget bY 0)) 1),(pc (.setc jY 0 (.tget bY 0)) 2)]),r2]
 (.ret gr))))
def aqH (b:Nat→PC):PT×List (Shp×PT):=(aCt,[])
theorem ayV:A3.map told=some (aqH (ay A3)):=by kernel_rfl
theorem YC:A3=some SG:=aF ayV
noncomputable def BR:Option PC:=aD {ctx with fr:=[4,5,6,8],nh:=[]} Tryz.f215 ((ab af 215).getD default) [2]
noncomputable def SL:PC:=az BR
def aDK:PT:=
 (.call ⟨[],[(2,(.mk [r0]))]⟩ [] 11 170 [LH]
 (.ite (ba (.tget bD 1) (pi 0))
 (.ret pL)
 (.call ⟨[],[]⟩ [] 20 171 [(.mk [r1]),(.mk [(pc o2 0),(pc o2 1),(pc o2 2)])]
 (.call ⟨[(8,(.tget ed 1))],[]⟩ [] 24 139 [(.tget ed 1)]
 (.call ⟨[],[]⟩ [] 26 140 [r8]
 (.ret ld))))))
def ar8 (b:Nat→PC):PT×List (Shp×PT):=(aDK,[])
theorem ay0:BR.map told=some (ar8 (ay BR)):=by kernel_rfl
theorem YQ:BR=some SL:=aF ay0
noncomputable def BL:Option PC:=aD {ctx with fr:=[2],nh:=[]} Tryz.f139 ((ab af 139).getD default) []
noncomputable def SI:PC:=az BL
def aDA:PT:=
 (.call ⟨[(6,(.llen r0)),(5,r0)],[]⟩ [] 9 207 [(.conv .u64 (.llen r0))]
 (.call ⟨[],[]⟩ [] 10 206 [r5,(pi 0),r6,r9]
 (.ret (.tup []))))
def arV (b:Nat→PC):PT×List (Shp×PT):=(aDA,[])
theorem ayX:BL.map told=some (arV (ay BL)):=by kernel_rfl
theorem YM:BL=some SI:=aF ayX
noncomputable def AX:Option PC:=aD {ctx with fr:=[2],nh:=[]} Tryz.f207 ((ab af 207).getD default) []
noncomputable def SD:PC:=az AX
def aB1:PT:=
 (.call ⟨[],[]⟩ [] 7 256 [r0]
 (.ret r7))
def aqd (b:Nat→PC):PT×List (Shp×PT):=(aB1,[])
theorem ayR:AX.map told=some (aqd (ay AX)):=by kernel_rfl
theorem YB:AX=some SD:=aF ayR
noncomputable def Gi:Option PC:=aD {ctx with fr:=[2,0],nh:=[]} Tryz.f255 ((ab af 255).getD default) []
noncomputable def afW:PC:=az Gi
def aB2:PT:=
 (.ite (bR r0 (.con (.v (.int .u32 65536))))
 (.chk (bR zm (pi 0))
 (.ite (bR Eb (.con (.v (.int .u32 256))))
 (.chk zu
 (.chk (.sok fN (.conv .u8 (.ai .shr .u32 Eb mS)))
 (.ret (aP (aP (pi 16) (pi 8)) (.conv .i64 (.sidx fN (.conv .u8 (.ai .shr .u32 Eb mS))))))))
 (.chk (.sok fN (.conv .u8 Eb))
 (.ret (aP (pi 16) (.conv .i64 (.sidx fN (.conv .u8 Eb))))))))
 (.ite (bR r0 (.con (.v (.int .u32 256))))
 (.chk zu
 (.chk (.sok fN (.conv .u8 (.ai .shr .u32 r0 mS)))
 (.ret (aP (aP (pi 0) (pi 8)) (.conv .i64 (.sidx fN (.conv .u8 (.ai .shr .u32 r0 mS))))))))
 (.chk (.sok fN (.conv .u8 r0))
 (.ret (aP (pi 0) (.conv .i64 (.sidx fN (.conv .u8 r0))))))))
def aqe (b:Nat→PC):PT×List (Shp×PT):=(aB2,[])
theorem ayS:Gi.map told=some (aqe (ay Gi)):=by kernel_rfl
theorem aml:Gi=some afW:=aF ayS
noncomputable def AY:Option PC:=aD {ctx with fr:=[2,0],nh:=[]} Tryz.f256 ((ab af 256).getD default) []
noncomputable def SF:PC:=az AY
def aB3:PT:=
 (.ite (bR r0 (.con (.v (.int .u64 4294967296))))
 (.chk (bR zq (pi 0))
 (.ite (bR sf (.con (.v (.int .u64 65536))))
 (.chk (bR zm (pi 0))
 (.ite (bR D7 LR)
 (.chk zu
 (.chk (.sok fN (.conv .u8 (.ai .shr .u64 D7 mS)))
 (.ret (aP (aP (aP (pi 32) (pi 16)) (pi 8)) (.conv .i64 (.sidx fN (.conv .u8 (.ai .shr .u64 D7 mS))))))))
 (.chk (.sok fN (.conv .u8 D7))
 (.ret (aP (aP (pi 32) (pi 16)) (.conv .i64 (.sidx fN (.conv .u8 D7))))))))
 (.ite (bR sf LR)
 (.chk zu
 (.chk (.sok fN (.conv .u8 (.ai .shr .u64 sf mS)))
 (.ret (aP (aP (pi 32) (pi 8)) (.conv .i64 (.sidx fN (.conv .u8 (.ai .shr .u64 sf mS))))))))
 (.chk (.sok fN (.conv .u8 sf))
 (.ret (aP (pi 32) (.conv .i64 (.sidx fN (.conv .u8 sf)))))))))
 (.ite (bR r0 (.con (.v (.int .u64 65536))))
 (.chk (bR zm (pi 0))
 (.ite (bR Ea LR)
 (.chk zu
 (.chk (.sok fN (.conv .u8 (.ai .shr .u64 Ea mS)))
 (.ret (aP (aP (aP (pi 0) (pi 16)) (pi 8)) (.conv .i64 (.sidx fN (.conv .u8 (.ai .shr .u64 Ea mS))))))))
 (.chk (.sok fN (.conv .u8 Ea))
 (.ret (aP (aP (pi 0) (pi 16)) (.conv .i64 (.sidx fN (.conv .u8 Ea))))))))
 (.ite (bR r0 LR)
 (.chk zu
 (.chk (.sok fN (.conv .u8 (.ai .shr .u64 r0 mS)))
 (.ret (aP (aP (pi 0) (pi 8)) (.conv .i64 (.sidx fN (.conv .u8 (.ai .shr .u64 r0 mS))))))))
 (.chk (.sok fN (.conv .u8 r0))
 (.ret (aP (pi 0) (.conv .i64 (.sidx fN (.conv .u8 r0)))))))))
def aqf (b:Nat→PC):PT×List (Shp×PT):=(aB3,[])
theorem ayT:AY.map told=some (aqf (ay AY)):=by kernel_rfl
theorem YA:AY=some SF:=aF ayT
noncomputable def BN:Option PC:=aD {ctx with fr:=[8,9,10,3,11,12,13,1,14,15,16,17,18,2],nh:=[]} Tryz.f206 ((ab af 206).getD default) []
noncomputable def SK:PC:=az BN
def axe (b:Nat→PC):PC:=.block 0 [] [] (.loop [1,2,3,8,9] [] (b 0))
def aAH (b:Nat→PC):PT:=
 (.blockS ⟨[],[]⟩ 1 [1,2,3,8,9,10,11,12,19,20,21,22,23,28,29,34,35,42,43,44,45,46,47,48,49,50,61,62,64,65,68,73,74,75,87] []
 (.iteS ⟨[(10,(bC r2 r1))],[]⟩ (bV (bC r2 r1) (pi 12)) [] []
 (.call ⟨[],[]⟩ [] 27 246 [r0,r1,r2]
 (.ret (.tup [])))
 (.next ⟨[],[]⟩)
 (.iteS ⟨[],[]⟩ (aq r3 (pi 0)) [] []
 (.call ⟨[],[]⟩ [] 33 247 [r0,r1,r2]
 (.ret (.tup [])))
 (.next ⟨[],[]⟩)
 (.iteS ⟨[],[]⟩ (.nt r8) [3] []
 (.call ⟨[],[]⟩ [] 39 248 [r0,r1,r2]
 (.next ⟨[(3,tY)],[]⟩))
 (.next ⟨[],[]⟩)
 (.call ⟨[],[]⟩ [] 46 249 [r0,r1,r2]
 (.iteS ⟨[(12,(.tget ub 1)),(11,(.tget ub 0))],[]⟩ (aq (.tget ub 1) (pi 2)) [11,12] []
 (.call ⟨[],[]⟩ [] 54 250 [r0,r1,r2]
 (.next ⟨[(12,(pi 1)),(11,(bC (bC r2 (pi 1)) (bC bD r1)))],[]⟩))
 (.next ⟨[],[]⟩)
 (.iteS ⟨[],[]⟩ (.pick (.pick r8 r9 pF) (aq bY (pi 1)) pF) [] []
 (.call ⟨[],[]⟩ [] 72 251 [r0,r1,r2]
 (.ite ud
 (.ret (.tup []))
 (.next ⟨[],[]⟩)))
 (.next ⟨[],[]⟩)
 (.chk (.nt (.an (.an (bh r1 (pi 0)) pT) (.nt (av r0 (bC r1 (pi 1))))))
 (.chk (.nt (.an (.an (bh r1 (pi 0)) pT) (.nt (av r0 bD))))
 (.call ⟨[(75,(bh r1 (pi 0)))],[]⟩ [(75,true)] 85 252 [(pn r0 (bC r1 (pi 1))),(pn r0 bD)]
 (.iteS ⟨[],[]⟩ (.pick zB (.nt zC) pF) [1] []
 (.call ⟨[],[]⟩ [] 92 253 [r0,r1,r2,bD]
 (.exit 1 ⟨[(1,zD)],[]⟩))
 (.next ⟨[],[]⟩)
 (.call ⟨[],[]⟩ [] 99 254 [r0,r1,r2,bD]
 (.chk (ba (pi 8) (pi 0))
 (.iteS ⟨[(18,(.ai .quo .i64 cT (pi 8))),(17,(bC r2 (.tget qM 0))),(16,(bC (.tget qM 0) r1)),(9,(.tget qM 1)),(14,(.tget qM 0))],[]⟩ (aj (bC (.tget qM 0) r1) (bC r2 (.tget qM 0))) [1,2,8] []
 (.call ⟨[(8,(bR dM gT))],[]⟩ [] 121 206 [r0,r1,dv,r3]
 (.next ⟨[(1,zw)],[]⟩))
 (.call ⟨[(8,(bR kF gT))],[]⟩ [] 132 206 [r0,zw,r2,r3]
 (.next ⟨[(2,dv)],[]⟩))
 (.next ⟨[],[]⟩))))))))))))))
 (.next ⟨[],[]⟩))
def aDC (b:Nat→PC):PT:=
 (.brk ⟨[(9,pT),(8,pT)],[]⟩
(axe b)
 (.next ⟨[],[]⟩))
def arX (b:Nat→PC):PT×List (Shp×PT):=(aDC b,[(.lp 0 [] [] [1,2,3,8,9] [],aAH b)])
theorem ayZ:BN.map told=some (arX (ay BN)):=by kernel_rfl
theorem YO:BN=some SK:=aF ayZ
noncomputable def BM:Option PC:=aD {ctx with fr:=[6,7],nh:=[]} Tryz.f246 ((ab af 246).getD default) []
noncomputable def SJ:PC:=az BM
def axc (b:Nat→PC):PC:=.block 2 [7,16,17,18,19,30] [] (.loop [7] [] (b 0))
def axd (b:Nat→PC):PC:=.block 0 [6,10,11,12] [] (.loop [6] [] (b 1))
def aAF (b:Nat→PC):PT:=
 (.chk (.nt (.an (.an (bh r7 r1) pT) (.nt (av r0 r7))))
 (.chk (.nt (.an (.an (bh r7 r1) pT) (.nt (av r0 zj))))
 (.call ⟨[(19,(bh r7 r1)),(18,(bh r7 r1)),(17,r1),(16,r7)],[]⟩ [(19,true)] 29 252 [(pn r0 r7),(pn r0 zj)]
 (.ite (.pick gr nV pF)
 (.chk (av r0 zj)
 (.chk (av r0 r7)
 (.chk pF
 (.chk pF
 (.next ⟨[(7,zj)],[]⟩)))))
 (.exit 2 ⟨[(30,(.pick gr nV pF))],[]⟩)))))
def aAG (b:Nat→PC):PT:=
 (.ite (aj r6 r2)
 (.blockS ⟨[(12,(aj r6 r2)),(11,r2),(10,r6)],[]⟩ 1 [7,15,16,17,18,19,30] []
 (.brk ⟨[(7,r6)],[]⟩
(axc b)
 (.next ⟨[],[]⟩))
 (.next ⟨[(6,(aP r6 (pi 1)))],[]⟩))
 (.exit 0 ⟨[(10,r6),(11,r2),(12,(aj r6 r2))],[]⟩))
def aDB (b:Nat→PC):PT:=
 (.brk ⟨[(6,(aP r1 (pi 1)))],[]⟩
(axd b)
 (.ret (.tup [])))
def arW (b:Nat→PC):PT×List (Shp×PT):=(aDB b,[(.lp 2 [7,16,17,18,19,30] [] [7] [],aAF b),(.lp 0 [6,10,11,12] [] [6] [],aAG b)])
theorem ayY:BM.map told=some (arW (ay BM)):=by kernel_rfl
theorem YN:BM=some SJ:=aF ayY
noncomputable def Gv:Option PC:=aD {ctx with fr:=[4],nh:=[]} Tryz.f252 ((ab af 252).getD default) []
noncomputable def afX:PC:=az Gv
def aCe:PT:=
 (.call ⟨[],[]⟩ [] 6 228 [r0]
 (.call ⟨[(7,r6)],[]⟩ [(7,true)] 9 228 [r1]
 (.ret (.pick (.pick r7 (.nt r9) pF) pT (aj r0 r1)))))
def aqt (b:Nat→PC):PT×List (Shp×PT):=(aCe,[])
theorem ayU:Gv.map told=some (aqt (ay Gv)):=by kernel_rfl
theorem amz:Gv=some afX:=aF ayU
noncomputable def Gw:Option PC:=aD {ctx with fr:=[2],nh:=[]} Tryz.f228 ((ab af 228).getD default) []
noncomputable def JK:PC:=az Gw
def U8:PT:=
 (.ret (ba r0 r0))
def aqv (b:Nat→PC):PT×List (Shp×PT):=(U8,[])
theorem aeK:Gw.map told=some (aqv (ay Gw)):=by kernel_rfl
theorem aCg:tree JK=U8:=aN aeK
theorem amB:Gw=some JK:=aF aeK
noncomputable def BF:Option PC:=aD {ctx with fr:=[2,3,4,5],nh:=[]} Tryz.f140 ((ab af 140).getD default) []
noncomputable def SH:PC:=az BF
def aw3 (b:Nat→PC):PC:=.block 2 [3,5,29,30,31,32] [] (.loop [3,5] [] (b 0))
def aw4 (b:Nat→PC):PC:=.block 0 [2,3,10,11,12,13] [] (.loop [2,3] [] (b 1))
def aAD (b:Nat→PC):PT:=
 (.ite (aj r5 (.llen r4))
 (.chk (av r4 r5)
 (.chk (av r4 zk)
 (.ite (ba (pn r4 r5) (pn r4 zk))
 (.chk (av r0 r3)
 (.chk pF
 (.next ⟨[(3,qF),(5,qE)],[]⟩)))
 (.next ⟨[(5,qE)],[]⟩))))
 (.exit 2 ⟨[(29,r5),(30,r4),(31,(.llen r4)),(32,(aj r5 (.llen r4)))],[]⟩))
def aAE (b:Nat→PC):PT:=
 (.ite (aj r3 (.llen r0))
 (.blockS ⟨[(13,(aj r3 (.llen r0))),(12,(.llen r0)),(11,r0),(10,r3)],[]⟩ 1 [2,3,16,17,18,19,20,21,22,23,24,25] []
 (.chk (av r0 r3)
 (.chk (av r0 tY)
 (.iteS ⟨[],[]⟩ (aq (pn r0 r3) (pn r0 tY)) [2,3] []
 (.chk (.slok r0 r3 (.llen r0))
 (.brk ⟨[(5,(pi 1)),(4,(.slc r0 r3 (.llen r0)))],[]⟩
(aw3 b)
 (.chk (.slok r0 r3 (.llen r0))
 (.chk pF
 (.chk (.slok r0 (pi 0) r3)
 (.ret (.slc r0 (pi 0) r3)))))))
 (.next ⟨[],[]⟩)
 (.next ⟨[],[]⟩))))
 (.next ⟨[(3,qF)],[]⟩))
 (.exit 0 ⟨[(10,r3),(11,r0),(12,(.llen r0)),(13,(aj r3 (.llen r0)))],[]⟩))
def aDo (b:Nat→PC):PT:=
 (.ite (aj (.llen r0) (pi 2))
 (.ret r0)
 (.brk ⟨[(3,(pi 1)),(2,pL)],[]⟩
(aw4 b)
 (.ret r0)))
def arJ (b:Nat→PC):PT×List (Shp×PT):=(aDo b,[(.lp 2 [3,5,29,30,31,32] [] [3,5] [],aAD b),(.lp 0 [2,3,10,11,12,13] [] [2,3] [],aAE b)])
theorem ayW:BF.map told=some (arJ (ay BF)):=by kernel_rfl
theorem YH:BF=some SH:=aF ayW
noncomputable def Bm:Option PC:=aD {ctx with fr:=[4,5],nh:=[]} Tryz.f34 ((ab af 34).getD default) []
noncomputable def Kq:PC:=az Bm
noncomputable def NI:Nat→PC:=bG Bm
def awC (b:Nat→PC):PC:=.block 0 [4,5,11,12,13,14] [] (.loop [4,5] [] (b 0))
def L7 (b:Nat→PC):PT:=
 (.ite (aj r5 (.llen r0))
 (.chk (av r0 r5)
 (.chk (av r1 r5)
 (.ite (ba (pn r0 r5) (pn r1 r5))
 (.ret pF)
 (.next ⟨[(5,qE)],[]⟩))))
 (.exit 0 ⟨[(11,r5),(12,r0),(13,(.llen r0)),(14,(aj r5 (.llen r0)))],[]⟩))
def VL (b:Nat→PC):PT:=
 (.ite (ba (.llen r0) (.llen r1))
 (.ret pF)
 (.brk ⟨[(5,(pi 0)),(4,pF)],[]⟩
(awC b)
 (.ret pT)))
def arb (b:Nat→PC):PT×List (Shp×PT):=(VL b,[(.lp 0 [4,5,11,12,13,14] [] [4,5] [],L7 b)])
theorem R6:Bm.map told=some (arb (ay Bm)):=by kernel_rfl
theorem aCX:tree Kq=VL NI:=aN R6
theorem agP:round 0 [4,5,11,12,13,14] [] [4,5] [] (NI 0)=L7 NI:=bx R6 0 fun _=>rfl
theorem ane:Bm=some Kq:=aF R6
noncomputable def Gb:Option PC:=aD {ctx with fr:=[6,7],nh:=[]} Tryz.f29 ((ab af 29).getD default) [3,5]
noncomputable def Jt:PC:=az Gb
def UQ:PT:=
 (.call ⟨[],[(5,(.mk [r2])),(3,(.mk [r0]))]⟩ [] 11 84 [kD,(aC 24 (.mk [r2]))]
 (.ite (aq (.llen (.tget bD 1)) (pi 0))
 (.ret pL)
 (.call ⟨[],[]⟩ [] 20 85 [(aC 8 o3),r1,(aC 24 (.setc o5 0 (.tget bD 0)))]
 (.ret ed))))
def ap7 (b:Nat→PC):PT×List (Shp×PT):=(UQ,[])
theorem aet:Gb.map told=some (ap7 (ay Gb)):=by kernel_rfl
theorem aBV:tree Jt=UQ:=aN aet
theorem amf:Gb=some Jt:=aF aet
noncomputable def F8:Option PC:=aD {ctx with fr:=[8,9,10,11],nh:=[]} Tryz.f41 ((ab af 41).getD default) [4,6]
noncomputable def Jq:PC:=az F8
def UN:PT:=
 (.call ⟨[],[(6,(.mk [r2])),(4,(.mk [r0]))]⟩ [] 14 30 [(aC 19 (.mk [r2])),r3]
 (.ite (aq (.llen (pc (.setc o6 0 dv) 15)) (pi 0))
 (.ret (pi (-1)))
 (.call ⟨[],[(6,(.setc o6 0 dv))]⟩ [] 23 50 [(aC 8 o4),r1,(pi 6),(aC 19 (.setc o6 0 dv)),r3]
 (.call ⟨[],[]⟩ [] 24 48 [jy]
 (.call ⟨[(29,(aC 15 o6)),(27,(aC 8 o4)),(9,(.mx nU (pi 0)))],[]⟩ [] 31 109 [(aC 19 o6)]
 (.call ⟨[],[]⟩ [] 33 108 [eK,nV,qJ,r9]
 (.ite (ba (.tget sm 1) (pi 0))
 (.ret (pi (-1)))
 (.ret (.tget sm 0)))))))))
def ap4 (b:Nat→PC):PT×List (Shp×PT):=(UN,[])
theorem aeq:F8.map told=some (ap4 (ay F8)):=by kernel_rfl
theorem aBS:tree Jq=UN:=aN aeq
theorem amc:F8=some Jq:=aF aeq
noncomputable def F7:Option PC:=aD {ctx with fr:=[],nh:=[]} Tryz.f50 ((ab af 50).getD default) [5,8,77832,10]
noncomputable def Jp:PC:=az F7
def UM:PT:=
 (.call ⟨[],[(10,se)]⟩ [] 18 28 [kD,r1,r2,(.mk [(.mk [(pc jx 0),(pc jx 1),(pc jx 2),(pc jx 3),(pc jx 4),(pc jx 5),(pc jx 6),(pc jx 7),(pc jx 8),(pc jx 9),(pc jx 10),(pc jx 11),(pc jx 12),(pc jx 13),(pc jx 14),(pc jx 15),(pc jx 16),(pc jx 17),pL]),(pi 0),(pi (-1)),(pi (-1)),(pi (-1)),r4])]
 (.ret (aC 5 (.setc ct 0 gT))))
def ap3 (b:Nat→PC):PT×List (Shp×PT):=(UM,[])
theorem aep:F7.map told=some (ap3 (ay F7)):=by kernel_rfl
theorem aBR:tree Jp=UM:=aN aep
theorem amb:F7=some Jp:=aF aep
noncomputable def BD:Option PC:=aD {ctx with fr:=[2,4],nh:=[]} Tryz.f109 ((ab af 109).getD default) [1,3,6,8]
noncomputable def KP:PC:=az BD
noncomputable def AN:Nat→PC:=bG BD
def aw1 (b:Nat→PC):PC:=.block 0 [3,16,17] [3] (.loop [3,16] [3] (b 0))
def aw2 (b:Nat→PC):PC:=.block 2 [2,3,36,37] [3] (.loop [2,3,36] [3] (b 1))
def EU (b:Nat→PC):PT:=
 (.ite (aj dM gg)
 (.chk (av dv dM)
 (.ite (.pick (aq r4 (pi 1)) (aq (pc (.setc z9 0 qH) 0) (pi 1)) pF)
 (.chk (bV (.llen (.app o3 (.lst [(pc (.setc z9 0 qH) 6)]))) cW)
 (.next ⟨[(3,pN),(16,(aP dM (pi 1)))],[(3,(.app o3 (.lst [(pc (.setc z9 0 qH) 6)])))]⟩))
 (.next ⟨[(16,(aP dM (pi 1)))],[]⟩)))
 (.exit 0 ⟨[(17,(aj dM gg))],[]⟩))
def wL (b:Nat→PC):PT:=
 (.ite (aj kG wG)
 (.chk (av r34 kG)
 (.ite (.pick (aq r4 (pi 0)) (aq (pc D8 0) (pi 2)) pF)
 (.ret (pc D8 6))
 (.ite (.pick (aq r4 (pi 1)) (aq (pc D8 0) (pi 1)) pF)
 (.chk (bV (.llen (.app o3 (.lst [(pc D8 6)]))) cW)
 (.next ⟨[(3,pN),(36,(aP kG (pi 1)))],[(3,(.app o3 (.lst [(pc D8 6)])))]⟩))
 (.next ⟨[(36,(aP kG (pi 1)))],[]⟩))))
 (.exit 2 ⟨[(37,(aj kG wG))],[]⟩))
def V7 (b:Nat→PC):PT:=
 (.brk ⟨[(16,(pi 0)),(15,(.llen qC)),(14,qC),(4,wB),(3,pN),(2,(pi 0))],[(3,pL),(1,(.mk [r0]))]⟩
(aw1 b)
 (.brk ⟨[(36,(pi 0)),(35,(.llen (pc o1 17))),(34,(pc o1 17))],[]⟩
(aw2 b)
 (.ite (aq (.llen o3) (pi 0))
 (.ret (pi (-1)))
 (.call ⟨[],[]⟩ [] 66 182 [o3]
 (.ret LX)))))
def arD (b:Nat→PC):PT×List (Shp×PT):=(V7 b,[(.lp 0 [3,16,17] [3] [3,16] [3],EU b),(.lp 2 [2,3,36,37] [3] [2,3,36] [3],wL b)])
theorem Je:BD.map told=some (arD (ay BD)):=by kernel_rfl
theorem aDj:tree KP=V7 AN:=aN Je
theorem T7:round 0 [3,16,17] [3] [3,16] [3] (AN 0)=EU AN:=bx Je 0 fun _=>rfl
theorem EV:round 2 [2,3,36,37] [3] [2,3,36] [3] (AN 1)=wL AN:=bx Je 1 fun _=>rfl
theorem anD:BD=some KP:=aF Je
noncomputable def BK:Option PC:=aD {ctx with fr:=[2,3,4],nh:=[]} Tryz.f182 ((ab af 182).getD default) []
noncomputable def K6:PC:=az BK
noncomputable def NZ:Nat→PC:=bG BK
def ab6 (b:Nat→PC):PC:=.block 0 [3,4,12,13,14,15] [] (.loop [3,4] [] (b 0))
def Mg (b:Nat→PC):PT:=
 (.ite (aj r4 (.llen r0))
 (.chk (av r0 r4)
 (.next ⟨[(3,(.mn r3 (pn r0 r4))),(4,(aP r4 (pi 1)))],[]⟩))
 (.exit 0 ⟨[(12,r4),(13,r0),(14,(.llen r0)),(15,(aj r4 (.llen r0)))],[]⟩))
def Wl (b:Nat→PC):PT:=
 (.ite (aj (.llen r0) (pi 1))
 (.chk (.nt pT)
 (.chk (.nt pT)
 (.chk (av r0 (pi 0))
 (.brk ⟨[(4,(pi 1)),(3,(pn r0 (pi 0)))],[]⟩
(ab6 b)
 (.ret r3)))))
 (.chk (av r0 (pi 0))
 (.brk ⟨[(4,(pi 1)),(3,(pn r0 (pi 0)))],[]⟩
(ab6 b)
 (.ret r3))))
def arU (b:Nat→PC):PT×List (Shp×PT):=(Wl b,[(.lp 0 [3,4,12,13,14,15] [] [3,4] [],Mg b)])
theorem So:BK.map told=some (arU (ay BK)):=by kernel_rfl
theorem aDz:tree K6=Wl NZ:=aN So
theorem agX:round 0 [3,4,12,13,14,15] [] [3,4] [] (NZ 0)=Mg NZ:=bx So 0 fun _=>rfl
theorem anO:BK=some K6:=aF So
noncomputable def G6:Option PC:=aD {ctx with fr:=[8,9,15,39,58,74,11,12],nh:=[]} Tryz.f108 ((ab af 108).getD default) [4,5,10]
noncomputable def K7:PC:=az G6
def Fs:PT:=
 (.blockS ⟨[],[(10,(.setc z3 0 (.mk [(pc (.mk [r1]) 5),(pc (.mk [r1]) 6),(pc (.mk [r1]) 7)]))),(5,(.mk [r1])),(4,(.mk [r0]))]⟩ 0 [8,9,15,16,17,18,19,25,26,32,33,38,39,40,41,42,43,47,48,52,53,57,58,59,60,61,65,66,69,70,73,74,75,76,77,80] []
 (.call ⟨[],[]⟩ [] 17 54 [(aC 8 o4)]
 (.call ⟨[(19,(ba kF (pi 0)))],[]⟩ [(19,false)] 23 177 [(aC 8 o4),(pc o5 9)]
 (.call ⟨[(26,(.pick gr pT (.nt jy)))],[]⟩ [(26,false)] 30 177 [(aC 8 o4),(pc o5 10)]
 (.call ⟨[(33,(.pick ld pT (.nt tZ)))],[]⟩ [(33,false)] 36 178 [(pc o5 8)]
 (.iteS ⟨[],[]⟩ (.pick sm pT (.nt kG)) [8,9,39,40,41,42,43,47,48,52,53,57,58,59,60,61,65,66,69,70,73,74,75,76,77,80] []
 (.ret (.tup [(pi 0),(pi 1)]))
 (.iteS ⟨[],[]⟩ (.pick (.pick (.pick (aj (pc ct 0) (pi 0)) pT (bR (pc ct 0) (pi 5))) pT (aj (pc ct 2) (pi 0))) pT (bR (pc ct 2) (pi 2))) [8,9,58,59,60,61,65,66,69,70,73,74,75,76,77,80] []
 (.ret (.tup [(pi 0),(pi 1)]))
 (.call ⟨[(61,(ba r2 (pi (-1))))],[]⟩ [(61,true)] 63 178 [r2]
 (.iteS ⟨[],[]⟩ (.pick (.pick (.pick wH (.nt LW) pF) pT (aj r3 (pi 0))) pT (bh r3 (pi 20000))) [8,9,74,75,76,77,80] []
 (.ret (.tup [(pi 0),(pi 1)]))
 (.call ⟨[],[]⟩ [] 76 179 [(.mk [(pc ct 0),(pc ct 1),(pc ct 2)])]
 (.ite (.pick pA (aq r2 (pi (-1))) pF)
 (.ret (.tup [(pi 0),(pi 4)]))
 (.next ⟨[],[]⟩)))
 (.next ⟨[],[]⟩)))
 (.next ⟨[],[]⟩))
 (.next ⟨[],[]⟩))))))
 (.call ⟨[],[]⟩ [] 85 180 [(aC 8 o4),(aC 15 o5),r2]
 (.ite (ba (.tget zC 1) (pi 0))
 (.ret (.tup [(pi 0),(.tget zC 1)]))
 (.call ⟨[(11,(.tget zC 0))],[]⟩ [] 92 178 [(.tget zC 0)]
 (.ite (.pick (.nt zD) pT (bh (aP bD r3) (pi 100000)))
 (.ret (.tup [(pi 0),(pi 3)]))
 (.call ⟨[],[]⟩ [] 106 181 [(aC 8 o4),(pc o5 10),(aP bD r3)]
 (.ret (.tup [(.tget Th 0),(.tget Th 1)]))))))))
def arY (b:Nat→PC):PT×List (Shp×PT):=(Fs,[])
theorem afm:G6.map told=some (arY (ay G6)):=by kernel_rfl
theorem Wm:tree K7=Fs:=aN afm
theorem anP:G6=some K7:=aF afm
end Rm
