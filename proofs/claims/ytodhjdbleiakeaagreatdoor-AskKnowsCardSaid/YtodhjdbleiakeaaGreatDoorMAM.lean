/-
  The functions of this seat, compiled (2).
-/
import Derived.Test.YtodhjdbleiakeaaGreatDoorMAK
import Derived.KernelRfl
set_option linter.unusedVariables false
set_option maxRecDepth 100000
namespace Rm
open Go Go.Proofs Cx
noncomputable def xt:Option PC:=aB {ctx with fr:=[2,3,5,7,8,38,47,10,11,12],nh:=[]} Tryz.f218 ((ab af 218).getD default) [1,4,6,12294,9]
noncomputable def Lb:PC:=aA xt
noncomputable def AE:Nat→PC:=bE xt
def ax4 (b:Nat→PC):PC:=.block 0 [2,3,20,21] [4] (.loop [2,3,20] [4] (b 0))
def ax5 (b:Nat→PC):PC:=.block 3 [2,3,10,82,83] [] (.loop [2,3,10,82] [] (b 1))
def EP (b:Nat→PC):PT:=
 (.ite (aj eg gj)
 (.blockS ⟨[],[]⟩ 1 [2,3,5,6,7,8,22,23,24,25,26,27,28,29,30,31,33,34,35,36] [6,12294,4]
 (.chk (av gQ eg)
 (.call ⟨[(5,eg)],[]⟩ [] 27 218 [(.mk [(pc (.setc jV 0 (pn gQ eg)) 0),(pc (.setc jV 0 (pn gQ eg)) 1),(pc (.setc jV 0 (pn gQ eg)) 2)])]
 (.ite (aU (.tget fh 1) (pi 0))
 (.ret (.tup [(pi 0),(.tget fh 1)]))
 (.chk (av o4 r5)
 (.next ⟨[],[(4,(.setn o4 r5 0 (.tget fh 0)))]⟩)))))
 (.next ⟨[(20,(aO eg (pi 1)))],[]⟩))
 (.exit 0 ⟨[(21,(aj eg gj))],[]⟩))
def ua (b:Nat→PC):PT:=
 (.ite (aj ky sq)
 (.chk (av wC ky)
 (.ite (.pick (aq (pn wC ky) (pi (-1))) (aq cR (pi (-1))) pF)
 (.chk (av o4 ky)
 (.ite (aU (pn o4 ky) (.pick (aq (pn wC ky) (pi (-1))) (pn o4 ky) (pn wC ky)))
 (.ret (.tup [(pi 0),(pi 11)]))
 (.next ⟨[(10,(pn o4 ky)),(82,(aO ky (pi 1)))],[]⟩)))
 (.chk (av o4 ky)
 (.ite (aU (pn o4 ky) (.pick (aq (pn wC ky) (pi (-1))) cR (pn wC ky)))
 (.ret (.tup [(pi 0),(pi 11)]))
 (.next ⟨[(82,(aO ky (pi 1)))],[]⟩)))))
 (.exit 3 ⟨[(83,(aj ky sq))],[]⟩))
def WL (b:Nat→PC):PT:=
 (.chk (.an (bL pI (pi 0)) (bJ pI cK))
 (.chk (aq pI pI)
 (.brk ⟨[(20,(pi 0)),(19,pI),(18,zc),(4,pN),(3,(pi 0)),(2,(pi 0))],[(4,(.rep pI (pi 0))),(1,(.mk [r0]))]⟩
(ax4 b)
 (.blockS ⟨[],[]⟩ 2 [2,3,38,39,40,41,42,46,47,48,49,50,51,55,56,60] []
 (.iteS ⟨[],[]⟩ (.pick (aj (pc o1 0) (pi 0)) pT (be (pc o1 0) (pi 13))) [2,3,47,48,49,50,51,55,56,60] []
 (.ret (.tup [(pi 0),(pi 1)]))
 (.iteS ⟨[],[]⟩ (.pick (.pick (aq (pc o1 0) (pi 0)) pT (aq (pc o1 0) (pi 1))) pT (aq (pc o1 0) (pi 2))) [2,3] []
 (.call ⟨[],[]⟩ [] 62 260 [(.mk [(pc o1 0),(pc o1 1),(pc o1 2)])]
 (.ret (.tup [(.tget mV 0),(.tget mV 1)])))
 (.next ⟨[],[]⟩)
 (.next ⟨[],[]⟩))
 (.next ⟨[],[]⟩))
 (.call ⟨[],[]⟩ [] 67 261 [(pc o1 0)]
 (.ite (.pick (aU (.llen o4) (.llen (pc (.setc kR 0 tX) 0))) pT (aU (pc o1 1) (pi 0)))
 (.ret (.tup [(pi 0),(pi 2)]))
 (.brk ⟨[(82,(pi 0)),(81,(.llen (pc (.setc kR 0 tX) 0))),(80,(pc (.setc kR 0 tX) 0)),(10,(pi (-1)))],[(9,(.setc kR 0 tX))]⟩
(ax5 b)
 (.ite (aq (pc o9 1) (pi (-1)))
 (.ret (.tup [cR,(pi 0)]))
 (.ret (.tup [(pc o9 1),(pi 0)]))))))))))
def asI (b:Nat→PC):PT×List (Shp×PT):=(WL b,[(.lp 0 [2,3,20,21] [4] [2,3,20] [4],EP b),(.lp 3 [2,3,10,82,83] [] [2,3,10,82] [],ua b)])
theorem I8:xt.map told=some (asI (ax xt)):=by kernel_rfl
theorem aEC:tree Lb=WL AE:=aK I8
theorem Uu:round 0 [2,3,20,21] [4] [2,3,20] [4] (AE 0)=EP AE:=bq I8 0 fun _=>rfl
theorem zy:round 3 [2,3,10,82,83] [] [2,3,10,82] [] (AE 1)=ua AE:=bq I8 1 fun _=>rfl
theorem Zk:xt=some Lb:=aC I8
noncomputable def BK:Option PC:=aB {ctx with fr:=[2,3,12,20,4,5],nh:=[]} Tryz.f260 ((ab af 260).getD default) [1]
noncomputable def Lf:PC:=aA BK
def WO:PT:=
 (.ite (be pI (pi 0))
 (.ret (.tup [(pi 0),(pi 2)]))
 (.blockS ⟨[(11,kS)],[(1,(.mk [r0]))]⟩ 0 [2,3,12,13,20,21] []
 (.iteS ⟨[],[]⟩ (aq bu (pi 0)) [2,3,20,21] []
 (.call ⟨[],[]⟩ [] 16 264 [(pc o1 1)]
 (.ite (aU dJ (pc o1 1))
 (.ret (.tup [(pi 0),(pi 3)]))
 (.ret (.tup [(pi 0),(pi 0)]))))
 (.ite (aq bu (pi 1))
 (.ite (.pick (aj (pc o1 1) (pi 0)) pT (be (pc o1 1) (pi 1)))
 (.ret (.tup [(pi 0),(pi 3)]))
 (.ret (.tup [(pi 1),(pi 0)])))
 (.next ⟨[],[]⟩))
 (.next ⟨[],[]⟩))
 (.call ⟨[],[]⟩ [] 33 262 [(pc o1 1)]
 (.ite (.nt (.tget sl 1))
 (.ret (.tup [(pi 0),(pi 10)]))
 (.ret (.tup [(.tget sl 0),(pi 0)]))))))
def asL (b:Nat→PC):PT×List (Shp×PT):=(WO,[])
theorem afV:BK.map told=some (asL (ax BK)):=by kernel_rfl
theorem aEF:tree Lf=WO:=aK afV
theorem Zm:BK=some Lf:=aC afV
noncomputable def G2:Option PC:=aB {ctx with fr:=[2],nh:=[]} Tryz.f264 ((ab af 264).getD default) []
noncomputable def Ld:PC:=aA G2
def WN:PT:=
 (.ret (.mn (.mx r0 (pi (-1099511627776))) y1))
def asK (b:Nat→PC):PT×List (Shp×PT):=(WN,[])
theorem afU:G2.map told=some (asK (ax G2)):=by kernel_rfl
theorem aEE:tree Ld=WN:=aK afU
theorem aox:G2=some Ld:=aC afU
noncomputable def BI:Option PC:=aB {ctx with fr:=[2,3,4,11],nh:=[]} Tryz.f262 ((ab af 262).getD default) []
noncomputable def K9:PC:=aA BI
def WJ:PT:=
 (.ite (.pick (aj r0 (pi 0)) pT (be r0 (pi 19)))
 (.ret (.tup [(pi 0),pF]))
 (.ite (aj r0 (pi 7))
 (.ret (.tup [(pi 0),pT]))
 (.ret (.tup [(pi 1),pT]))))
def asG (b:Nat→PC):PT×List (Shp×PT):=(WJ,[])
theorem afR:BI.map told=some (asG (ax BI)):=by kernel_rfl
theorem aEA:tree K9=WJ:=aK afR
theorem Zj:BI=some K9:=aC afR
noncomputable def BM:Option PC:=aB {ctx with fr:=[4,8,13,17,21],nh:=[]} Tryz.f261 ((ab af 261).getD default) [2]
noncomputable def Ll:PC:=aA BM
def WS:PT:=
 (.ite (aq r0 (pi 3))
 (.ret (.mk [(pc (.setc kR 0 (.mk [(.lst [(pi 1)]),(pi 1)])) 0),(pc (.setc kR 0 (.mk [(.lst [(pi 1)]),(pi 1)])) 1)]))
 (.ite (.pick (aq r0 (pi 4)) (aq r0 (pi 4)) (aq r0 (pi 5)))
 (.ret (.mk [(pc (.setc kR 0 (.mk [(.lst [(pi 1),(pi 1)]),(pi 1)])) 0),(pc (.setc kR 0 (.mk [(.lst [(pi 1),(pi 1)]),(pi 1)])) 1)]))
 (.ite (aq r0 (pi 6))
 (.ret (.mk [(pc agt 0),(pc agt 1)]))
 (.ite (aq r0 (pi 7))
 (.ret (.mk [(pc (.setc kR 0 (.mk [(.lst [(pi 0),(pi 0)]),(pi 1)])) 0),(pc (.setc kR 0 (.mk [(.lst [(pi 0),(pi 0)]),(pi 1)])) 1)]))
 (.ite (aq r0 (pi 8))
 (.ret (.mk [(pc (.setc kR 0 (.mk [(.lst [(pi (-1)),(pi (-1))]),(pi 1)])) 0),(pc (.setc kR 0 (.mk [(.lst [(pi (-1)),(pi (-1))]),(pi 1)])) 1)]))
 (.ret (.mk [(pc (.setc kR 0 (.mk [(.lst [(pi 0),(pi 0)]),(pi 0)])) 0),(pc (.setc kR 0 (.mk [(.lst [(pi 0),(pi 0)]),(pi 0)])) 1)])))))))
def asQ (b:Nat→PC):PT×List (Shp×PT):=(WS,[])
theorem afY:BM.map told=some (asQ (ax BM)):=by kernel_rfl
theorem aEJ:tree Ll=WS:=aK afY
theorem Zq:BM=some Ll:=aC afY
noncomputable def G0:Option PC:=aB {ctx with fr:=[5,6,8],nh:=[]} Tryz.f96 ((ab af 96).getD default) [2,4,7]
noncomputable def K8:PC:=aA G0
def WI:PT:=
 (.call ⟨[],[(4,fg),(2,(.mk [r0]))]⟩ [] 11 170 [Lz]
 (.ite (aU (.tget bu 1) (pi 0))
 (.ret DM)
 (.call ⟨[],[]⟩ [] 21 171 [(.mk [r1]),(.mk [(pc o2 0),(pc o2 1),(pc o2 2)])]
 (.ret (.mk [(pc agM 0),(pc agM 1)])))))
def asE (b:Nat→PC):PT×List (Shp×PT):=(WI,[])
theorem afQ:G0.map told=some (asE (ax G0)):=by kernel_rfl
theorem aEy:tree K8=WI:=aK afQ
theorem aov:G0=some K8:=aC afQ
noncomputable def xu:Option PC:=aB {ctx with fr:=[5,15,21,9,11],nh:=[]} Tryz.f171 ((ab af 171).getD default) [2,3,4,6,33,7,8,10,12298,12]
noncomputable def Lg:PC:=aA xu
noncomputable def Od:Nat→PC:=bE xu
def ax6 (b:Nat→PC):PC:=.block 1 [45,46] [7,8] (.loop [45] [7,8] (b 0))
def ER (b:Nat→PC):PT:=
 (.ite (aj nV tV)
 (.blockS ⟨[],[]⟩ 2 [9,10,47,48,49,50,51,52,53,54,55,56,57,58,59,60,61] [10,12298,8,7]
 (.chk (av sm nV)
 (.call ⟨[(54,nV),(52,nV)],[]⟩ [] 57 171 [(.mk [(pc o2 0)]),(.mk [(pc (.setc jV 0 (pn sm nV)) 0),(pc (.setc jV 0 (pn sm nV)) 1),(pc (.setc jV 0 (pn sm nV)) 2)])]
 (.chk (av o7 LM)
 (.chk (av o8 pK)
 (.next ⟨[],[(8,(.setn o8 pK 0 (.tget LN 1))),(7,(.setn o7 LM 0 (.tget LN 0)))]⟩)))))
 (.next ⟨[(45,(aO nV (pi 1)))],[]⟩))
 (.exit 1 ⟨[(46,(aj nV tV))],[]⟩))
def Fg (b:Nat→PC):PT:=
 (.blockS ⟨[(14,y4)],[(4,fg),(3,(.mk [r1])),(2,(.mk [r0]))]⟩ 0 [5,15,16,21,22] [4]
 (.iteS ⟨[],[]⟩ (.pick (aq du (pi 0)) (aq du (pi 0)) (aq du (pi 1))) [5,21,22] [4]
 (.ret (.tup [(.mk [(pc (.setc o4 0 (.mk [pT,(pc o3 1)])) 0),(pc (.setc o4 0 (.mk [pT,(pc o3 1)])) 1)]),pL]))
 (.iteS ⟨[],[]⟩ (aq du (pi 2)) [5] [4]
 (.call ⟨[],[]⟩ [] 26 219 [(.mk [(pc o2 0)]),(pc o3 1)]
 (.ite (pc (.setc fg 0 kU) 0)
 (.ret (.tup [(.mk [(pc ags 0),(pc ags 1)]),pL]))
 (.ret (.tup [DM,(.lst [(pc o3 1)])]))))
 (.next ⟨[],[]⟩)
 (.next ⟨[],[]⟩))
 (.next ⟨[],[]⟩))
 (.chk (.an (bL nR (pi 0)) (bJ nR cK))
 (.chk (aq nR nR)
 (.brk ⟨[(45,(pi 0)),(44,nR),(43,(pc o3 2)),(8,pN),(7,pN)],[(8,(.rep nR pL)),(7,(.rep nR fg))]⟩
(ax6 b)
 (.chk (.nt (.an (.an (aq (pc o3 0) (pi 6)) pT) (.nt (av o7 (pi 0)))))
 (.ite (.pick (aq (pc o3 0) (pi 6)) (pc (pn o7 (pi 0)) 0) pF)
 (.chk (av o7 (pi 0))
 (.chk (av o7 DN)
 (.chk (av o8 DN)
 (.ret (.tup [(.mk [(pc (.setc o4 0 (.sub (pn o7 DN) 0 2)) 0),(pc (.setc o4 0 (.sub (pn o7 DN) 0 2)) 1)]),(pn o8 DN)])))))
 (.call ⟨[],[]⟩ [] 88 220 [(pc o3 0),o7]
 (.ite (pc (.setc fg 0 LS) 0)
 (.ret (.tup [(.mk [(pc agr 0),(pc agr 1)]),pL]))
 (.call ⟨[(92,(.mk [pF,(pi 0)]))],[]⟩ [] 94 221 [o8]
 (.ret (.tup [(.mk [(pc (.setc o4 0 zm) 0),(pc (.setc o4 0 zm) 1)]),r94])))))))))))
def asM (b:Nat→PC):PT×List (Shp×PT):=(Fg b,[(.lp 1 [45,46] [7,8] [45] [7,8],ER b)])
theorem SH:xu.map told=some (asM (ax xu)):=by kernel_rfl
theorem aEG:tree Lg=Fg Od:=aK SH
theorem Uv:round 1 [45,46] [7,8] [45] [7,8] (Od 0)=ER Od:=bq SH 0 fun _=>rfl
theorem Zn:xu=some Lg:=aC SH
noncomputable def BL:Option PC:=aB {ctx with fr:=[5,6],nh:=[]} Tryz.f219 ((ab af 219).getD default) [2,4]
noncomputable def Lh:PC:=aA BL
def WQ:PT:=
 (.chk (.nt (.an (.an (.nt (bL r1 (.llen kS))) pT) (.nt (av kS r1))))
 (.ite (.pick (bL r1 (.llen kS)) pT (.nt (pc (pn kS r1) 0)))
 (.ret (.mk [(pc (.setc fg 0 (.mk [pF,(pi 0)])) 0),(pc (.setc fg 0 (.mk [pF,(pi 0)])) 1)]))
 (.call ⟨[],[(4,fg),(2,(.mk [r0]))]⟩ [] 24 262 [r1]
 (.iteS ⟨[],[]⟩ (aq (.tget pJ 0) (pi 1)) [] [4]
 (.chk (av (pc o2 0) r1)
 (.call ⟨[],[]⟩ [] 36 263 [(aU (pc (pn (pc o2 0) r1) 1) (pi 0))]
 (.ret (.mk [(pc (.setc o4 0 kr) 0),(pc (.setc o4 0 kr) 1)]))))
 (.next ⟨[],[]⟩)
 (.chk (av (pc o2 0) r1)
 (.call ⟨[],[]⟩ [] 43 264 [(pc (pn (pc o2 0) r1) 1)]
 (.ret (.mk [(pc (.setc o4 0 (.mk [pT,sm])) 0),(pc (.setc o4 0 (.mk [pT,sm])) 1)]))))))))
def asN (b:Nat→PC):PT×List (Shp×PT):=(WQ,[])
theorem afW:BL.map told=some (asN (ax BL)):=by kernel_rfl
theorem aEH:tree Lh=WQ:=aK afW
theorem Zo:BL=some Lh:=aC afW
noncomputable def BN:Option PC:=aB {ctx with fr:=[],nh:=[]} Tryz.f263 ((ab af 263).getD default) [2]
noncomputable def Lm:PC:=aA BN
def WT:PT:=
 (.ite r0
 (.ret (.mk [(pc wk 0),(pc wk 1)]))
 (.ret (.mk [(pc LI 0),(pc LI 1)])))
def asR (b:Nat→PC):PT×List (Shp×PT):=(WT,[])
theorem afZ:BN.map told=some (asR (ax BN)):=by kernel_rfl
theorem aEK:tree Lm=WT:=aK afZ
theorem Zr:BN=some Lm:=aC afZ
noncomputable def BJ:Option PC:=aB {ctx with fr:=[9,22,41,6,7,82,88,94],nh:=[]} Tryz.f220 ((ab af 220).getD default) [4,5]
noncomputable def Lc:PC:=aA BJ
def WM:PT:=
 (.blockS ⟨[(8,r0)],[(4,fg)]⟩ 0 [9,10,22,23] [4]
 (.iteS ⟨[],[]⟩ (aq r8 (pi 3)) [22,23] [4]
 (.chk (av r1 (pi 0))
 (.iteS ⟨[],[]⟩ (pc (pn r1 (pi 0)) 0) [] [4]
 (.chk (av r1 (pi 0))
 (.call ⟨[],[]⟩ [] 20 263 [(aq (pc (pn r1 (pi 0)) 1) (pi 0))]
 (.ret (.mk [(pc (.setc o4 0 eg) 0),(pc (.setc o4 0 eg) 1)]))))
 (.next ⟨[],[]⟩)
 (.ret DM)))
 (.iteS ⟨[],[]⟩ (.pick (aq r8 (pi 4)) (aq r8 (pi 4)) (aq r8 (pi 5))) [] [4]
 (.call ⟨[],[]⟩ [] 27 263 [(aq r0 (pi 5))]
 (.chk (av r1 (pi 0))
 (.chk (.nt (.an (.an (.nt agI) pT) (.nt (av r1 (pi 1)))))
 (.ite (.pick agI pT (.an (.cb .eql (pc pH 0) (pc y9 0)) (.an (aq (pc pH 1) (pc y9 1)) pT)))
 (.ret (.mk [(pc (.setc o4 0 y9) 0),(pc (.setc o4 0 y9) 1)]))
 (.next ⟨[],[]⟩)))))
 (.ite (aq r8 (pi 6))
 (.chk (av r1 (pi 1))
 (.chk (.nt (.an (.an (pc pH 0) pT) (.nt (av r1 (pi 1)))))
 (.chk (.nt (.an (.an (pc pH 0) pT) (.nt (av r1 (pi 2)))))
 (.ite (.pick (pc pH 0) (.an (.cb .eql (pc pH 0) (pc (pn r1 (pi 2)) 0)) (.an (aq (pc pH 1) (pc (pn r1 (pi 2)) 1)) pT)) pF)
 (.ret (.mk [(pc (.setc o4 0 pH) 0),(pc (.setc o4 0 pH) 1)]))
 (.ret DM)))))
 (.next ⟨[],[]⟩))
 (.next ⟨[],[]⟩))
 (.next ⟨[],[]⟩))
 (.chk (av r1 (pi 0))
 (.chk (.nt (.an (.an (.nt (.nt (pc (pn r1 (pi 0)) 0))) pT) (.nt (av r1 (pi 1)))))
 (.ite (.pick (.nt (pc (pn r1 (pi 0)) 0)) pT (.nt (pc pH 0)))
 (.ret DM)
 (.chk (av r1 (pi 1))
 (.blockS ⟨[(81,r0),(7,(pc pH 1)),(6,(pc (pn r1 (pi 0)) 1))],[]⟩ 1 [82,83,88,89,94,95] [4]
 (.iteS ⟨[],[]⟩ (.pick (aq sq (pi 4)) (aq sq (pi 4)) (aq sq (pi 5))) [88,89,94,95] [4]
 (.call ⟨[],[]⟩ [] 87 263 [(aq r0 (pi 4))]
 (.ret (.mk [(pc (.setc o4 0 r87) 0),(pc (.setc o4 0 r87) 1)])))
 (.iteS ⟨[],[]⟩ (aq sq (pi 7)) [94,95] [4]
 (.call ⟨[],[]⟩ [] 93 263 [(aj r6 r7)]
 (.ret (.mk [(pc (.setc o4 0 zn) 0),(pc (.setc o4 0 zn) 1)])))
 (.iteS ⟨[],[]⟩ (aq sq (pi 8)) [] [4]
 (.call ⟨[],[]⟩ [] 99 263 [(aq r6 r7)]
 (.ret (.mk [(pc (.setc o4 0 nW) 0),(pc (.setc o4 0 nW) 1)])))
 (.next ⟨[],[]⟩)
 (.next ⟨[],[]⟩))
 (.next ⟨[],[]⟩))
 (.next ⟨[],[]⟩))
 (.call ⟨[],[]⟩ [] 103 265 [r0,r6,r7]
 (.ret (.mk [(pc (.setc o4 0 (.mk [pT,LL])) 0),(pc (.setc o4 0 (.mk [pT,LL])) 1)])))))))))
def asJ (b:Nat→PC):PT×List (Shp×PT):=(WM,[])
theorem afT:BJ.map told=some (asJ (ax BJ)):=by kernel_rfl
theorem aED:tree Lc=WM:=aK afT
theorem Zl:BJ=some Lc:=aC afT
noncomputable def G1:Option PC:=aB {ctx with fr:=[6,8,14,20,25],nh:=[]} Tryz.f265 ((ab af 265).getD default) []
noncomputable def La:PC:=aA G1
def WK:PT:=
 (.blockS ⟨[(7,r0)],[]⟩ 0 [6,8,9,14,15,20,21,25,26] []
 (.iteS ⟨[],[]⟩ (aq r7 (pi 9)) [6,14,15,20,21,25,26] []
 (.call ⟨[],[]⟩ [] 13 264 [(aO r1 r2)]
 (.ret eH))
 (.iteS ⟨[],[]⟩ (aq r7 (pi 10)) [6,20,21,25,26] []
 (.call ⟨[],[]⟩ [] 19 264 [(bD r1 r2)]
 (.ret gj))
 (.iteS ⟨[],[]⟩ (aq r7 (pi 11)) [6,25,26] []
 (.call ⟨[],[]⟩ [] 24 286 [r1,r2]
 (.ret pJ))
 (.ite (aq r7 (pi 12))
 (.ret (.mn r1 r2))
 (.next ⟨[],[]⟩))
 (.next ⟨[],[]⟩))
 (.next ⟨[],[]⟩))
 (.next ⟨[],[]⟩))
 (.ret (.mx r1 r2)))
def asH (b:Nat→PC):PT×List (Shp×PT):=(WK,[])
theorem afS:G1.map told=some (asH (ax G1)):=by kernel_rfl
theorem aEB:tree La=WK:=aK afS
theorem aow:G1=some La:=aC afS
noncomputable def G3:Option PC:=aB {ctx with fr:=[4,5,6,7],nh:=[]} Tryz.f286 ((ab af 286).getD default) []
noncomputable def Lj:PC:=aA G3
def WR:PT:=
 (.call ⟨[],[]⟩ [] 19 298 [(.conv .u64 (.mx r0 (bD (pi 0) r0))),(.conv .u64 (.mx r1 (bD (pi 0) r1)))]
 (.ite (.cb .neq (aj r0 (pi 0)) (aj r1 (pi 0)))
 (.ret (bD (pi 0) agz))
 (.ret agz)))
def asP (b:Nat→PC):PT×List (Shp×PT):=(WR,[])
theorem afX:G3.map told=some (asP (ax G3)):=by kernel_rfl
theorem aEI:tree Lj=WR:=aK afX
theorem aoy:G3=some Lj:=aC afX
noncomputable def F7:Option PC:=aB {ctx with fr:=[4,5,6,7,8,9,10,11,12,13],nh:=[]} Tryz.f298 ((ab af 298).getD default) []
noncomputable def Jn:PC:=aA F7
def Va:PT:=
 (.chk (bL zg (pi 0))
 (.ret (.tup [(.ai .add .u64 (.ai .add .u64 (.ai .mul .u64 sd (.ai .shr .u64 r1 zg)) (.ai .shr .u64 agy zg)) (.ai .shr .u64 (.ai .add .u64 (.ai .and .u64 agy (.con (.v (.int .u64 4294967295)))) (.ai .mul .u64 (.ai .and .u64 r0 (.con (.v (.int .u64 4294967295)))) (.ai .shr .u64 r1 zg))) zg)),(.ai .mul .u64 r0 r1)])))
def aqJ (b:Nat→PC):PT×List (Shp×PT):=(Va,[])
theorem aeW:F7.map told=some (aqJ (ax F7)):=by kernel_rfl
theorem aCP:tree Jn=Va:=aK aeW
theorem amS:F7=some Jn:=aC aeW
noncomputable def xp:Option PC:=aB {ctx with fr:=[2,3,5,8],nh:=[]} Tryz.f221 ((ab af 221).getD default) [6]
noncomputable def KM:PC:=aA xp
noncomputable def AB:Nat→PC:=bE xp
def axR (b:Nat→PC):PC:=.block 0 [3,11,12] [] (.loop [3,11] [] (b 0))
def axS (b:Nat→PC):PC:=.block 2 [6,27,28] [6] (.loop [6,27] [6] (b 1))
def Md (b:Nat→PC):PT:=
 (.ite (aj bu cR)
 (.chk (av r9 bu)
 (.ite (aj (aO r3 (.llen (pn r9 bu))) (pi 0))
 (.chk (.nt pT)
 (.chk (.nt pT)
 (.next ⟨[(3,(aO r3 (.llen (pn r9 bu)))),(11,(aO bu (pi 1)))],[]⟩)))
 (.next ⟨[(3,(aO r3 (.llen (pn r9 bu)))),(11,(aO bu (pi 1)))],[]⟩)))
 (.exit 0 ⟨[(12,(aj bu cR))],[]⟩))
def Me (b:Nat→PC):PT:=
 (.ite (aj fh kU)
 (.chk (av gR fh)
 (.chk (bJ (.llen (.app o6 (pn gR fh))) cK)
 (.next ⟨[(6,pN),(27,(aO fh (pi 1)))],[(6,(.app o6 (pn gR fh)))]⟩)))
 (.exit 2 ⟨[(28,(aj fh kU))],[]⟩))
def Wq (b:Nat→PC):PT:=
 (.brk ⟨[(11,(pi 0)),(10,(.llen r0)),(9,r0),(3,(pi 0))],[]⟩
(axR b)
 (.call ⟨[],[]⟩ [] 24 266 [pL,r3]
 (.brk ⟨[(27,(pi 0)),(26,(.llen r0)),(25,r0),(6,pN)],[(6,pJ)]⟩
(axS b)
 (.ret o6))))
def asf (b:Nat→PC):PT×List (Shp×PT):=(Wq b,[(.lp 0 [3,11,12] [] [3,11] [],Md b),(.lp 2 [6,27,28] [6] [6,27] [6],Me b)])
theorem I6:xp.map told=some (asf (ax xp)):=by kernel_rfl
theorem aEe:tree KM=Wq AB:=aK I6
theorem ahf:round 0 [3,11,12] [] [3,11] [] (AB 0)=Md AB:=bq I6 0 fun _=>rfl
theorem ahg:round 2 [6,27,28] [6] [6,27] [6] (AB 1)=Me AB:=bq I6 1 fun _=>rfl
theorem Za:xp=some KM:=aC I6
noncomputable def Bg:Option PC:=aB {ctx with fr:=[4,5],nh:=[]} Tryz.f49 ((ab af 49).getD default) [2,3]
noncomputable def Kl:PC:=aA Bg
noncomputable def NX:Nat→PC:=bE Bg
def axs (b:Nat→PC):PC:=.block 0 [4,5,34,35,36,37,38] [] (.loop [4,5] [] (b 0))
def L7 (b:Nat→PC):PT:=
 (.ite (aj r5 (.llen (pc o2 3)))
 (.chk (av (pc o2 3) r5)
 (.chk (av (pc o3 3) r5)
 (.ite (aU (pn (pc o2 3) r5) (pn (pc o3 3) r5))
 (.ret pF)
 (.next ⟨[(5,pG)],[]⟩))))
 (.exit 0 ⟨[(34,r5),(35,pN),(36,(pc o2 3)),(37,(.llen (pc o2 3))),(38,(aj r5 (.llen (pc o2 3))))],[]⟩))
def V2 (b:Nat→PC):PT:=
 (.ite (.pick (.pick (.pick (.nt (.an (.cb .eql (pc (.mk [kS,se]) 0) (pc (.mk [y4,y3]) 0)) (.an (aq (pc (.mk [kS,se]) 1) (pc (.mk [y4,y3]) 1)) pT))) pT (aU zc (pc (.mk [r1]) 2))) pT (aU wy (pc (.mk [r1]) 4))) pT (aU (.llen (pc (.mk [r0]) 3)) (.llen (pc (.mk [r1]) 3))))
 (.ret pF)
 (.brk ⟨[(5,(pi 0)),(4,pF)],[(3,(.mk [r1])),(2,(.mk [r0]))]⟩
(axs b)
 (.ret pT)))
def arP (b:Nat→PC):PT×List (Shp×PT):=(V2 b,[(.lp 0 [4,5,34,35,36,37,38] [] [4,5] [],L7 b)])
theorem Sp:Bg.map told=some (arP (ax Bg)):=by kernel_rfl
theorem aDO:tree Kl=V2 NX:=aK Sp
theorem aha:round 0 [4,5,34,35,36,37,38] [] [4,5] [] (NX 0)=L7 NX:=bq Sp 0 fun _=>rfl
theorem anR:Bg=some Kl:=aC Sp
noncomputable def F1:Option PC:=aB {ctx with fr:=[2,3,7,12],nh:=[]} Tryz.f46 ((ab af 46).getD default) [1]
noncomputable def Jk:PC:=aA F1
def U6:PT:=
 (.ite (aU wy (pi 0))
 (.ret (pi 0))
 (.ite (.nt kS)
 (.ret (pi 2))
 (.ite (aU se (pi 0))
 (.ret (pi 1))
 (.ret (pi 0)))))
def aqB (b:Nat→PC):PT×List (Shp×PT):=(U6,[])
theorem aeR:F1.map told=some (aqB (ax F1)):=by kernel_rfl
theorem aCH:tree Jk=U6:=aK aeR
theorem amM:F1=some Jk:=aC aeR
noncomputable def FZ:Option PC:=aB {ctx with fr:=[2],nh:=[]} Tryz.f48 ((ab af 48).getD default) [1]
noncomputable def Ji:PC:=aA FZ
def U4:PT:=
 (.ite (.pick (aU wy (pi 0)) pT (.nt kS))
 (.ret (pi (-1)))
 (.ret se))
def aqz (b:Nat→PC):PT×List (Shp×PT):=(U4,[])
theorem aeP:FZ.map told=some (aqz (ax FZ)):=by kernel_rfl
theorem aCF:tree Ji=U4:=aK aeP
theorem amK:FZ=some Ji:=aC aeP
noncomputable def FY:Option PC:=aB {ctx with fr:=[8,10],nh:=[]} Tryz.f82 ((ab af 82).getD default) [4,7,9]
noncomputable def Jh:PC:=aA FY
def U3:PT:=
 (.call ⟨[],[(4,(.mk [r0]))]⟩ [] 16 83 [km,r1,r2,(au 24 (.mk [r3]))]
 (.ite (aq (pc DO 2) (pi (-1)))
 (.ret pL)
 (.chk (av (pc o4 4) (pc DO 2))
 (.call ⟨[],[]⟩ [] 30 163 [(pn (pc o4 4) (pc DO 2)),r2,(.tget dJ 1)]
 (.ret tU)))))
def aqy (b:Nat→PC):PT×List (Shp×PT):=(U3,[])
theorem aeO:FY.map told=some (aqy (ax FY)):=by kernel_rfl
theorem aCE:tree Jh=U3:=aK aeO
theorem amJ:FY=some Jh:=aC aeO
noncomputable def AR:Option PC:=aB {ctx with fr:=[6,8],nh:=[]} Tryz.f163 ((ab af 163).getD default) [3,7]
noncomputable def SV:PC:=aA AR
def aDf:PT:=
 (.call ⟨[],[]⟩ [] 12 95 [(au 4 (.mk [r0])),r1]
 (.ite (aU (.tget bW 1) (pi 0))
 (.ret pL)
 (.call ⟨[],[]⟩ [] 19 215 [(.mk [(pc (.setc jV 0 (.tget bW 0)) 0),(pc (.setc jV 0 (.tget bW 0)) 1),(pc (.setc jV 0 (.tget bW 0)) 2)]),r2]
 (.ret gj))))
def ara (b:Nat→PC):PT×List (Shp×PT):=(aDf,[])
theorem azJ:AR.map told=some (ara (ax AR)):=by kernel_rfl
theorem YV:AR=some SV:=aC azJ
noncomputable def BH:Option PC:=aB {ctx with fr:=[4,5,6,8],nh:=[]} Tryz.f215 ((ab af 215).getD default) [2]
noncomputable def S5:PC:=aA BH
def aEz:PT:=
 (.call ⟨[],[(2,(.mk [r0]))]⟩ [] 11 170 [Lz]
 (.ite (aU (.tget bu 1) (pi 0))
 (.ret pL)
 (.call ⟨[],[]⟩ [] 20 171 [(.mk [r1]),(.mk [(pc o2 0),(pc o2 1),(pc o2 2)])]
 (.call ⟨[(8,(.tget eg 1))],[]⟩ [] 24 139 [(.tget eg 1)]
 (.call ⟨[],[]⟩ [] 26 140 [r8]
 (.ret kU))))))
def asF (b:Nat→PC):PT×List (Shp×PT):=(aEz,[])
theorem azO:BH.map told=some (asF (ax BH)):=by kernel_rfl
theorem Zi:BH=some S5:=aC azO
noncomputable def BB:Option PC:=aB {ctx with fr:=[2],nh:=[]} Tryz.f139 ((ab af 139).getD default) []
noncomputable def SX:PC:=aA BB
def aEp:PT:=
 (.call ⟨[(6,(.llen r0)),(5,r0)],[]⟩ [] 9 207 [(.conv .u64 (.llen r0))]
 (.call ⟨[],[]⟩ [] 10 206 [r5,(pi 0),r6,r9]
 (.ret (.tup []))))
def ass (b:Nat→PC):PT×List (Shp×PT):=(aEp,[])
theorem azL:BB.map told=some (ass (ax BB)):=by kernel_rfl
theorem Ze:BB=some SX:=aC azL
noncomputable def AK:Option PC:=aB {ctx with fr:=[2],nh:=[]} Tryz.f207 ((ab af 207).getD default) []
noncomputable def SS:PC:=aA AK
def aCM:PT:=
 (.call ⟨[],[]⟩ [] 7 256 [r0]
 (.ret r7))
def aqG (b:Nat→PC):PT×List (Shp×PT):=(aCM,[])
theorem azF:AK.map told=some (aqG (ax AK)):=by kernel_rfl
theorem YU:AK=some SS:=aC azF
noncomputable def F6:Option PC:=aB {ctx with fr:=[2,0],nh:=[]} Tryz.f255 ((ab af 255).getD default) []
noncomputable def agi:PC:=aA F6
def aCN:PT:=
 (.ite (bL r0 (.con (.v (.int .u32 65536))))
 (.chk (bL za (pi 0))
 (.ite (bL DU (.con (.v (.int .u32 256))))
 (.chk y2
 (.chk (.sok fO (.conv .u8 (.ai .shr .u32 DU mT)))
 (.ret (aO (aO (pi 16) (pi 8)) (.conv .i64 (.sidx fO (.conv .u8 (.ai .shr .u32 DU mT))))))))
 (.chk (.sok fO (.conv .u8 DU))
 (.ret (aO (pi 16) (.conv .i64 (.sidx fO (.conv .u8 DU))))))))
 (.ite (bL r0 (.con (.v (.int .u32 256))))
 (.chk y2
 (.chk (.sok fO (.conv .u8 (.ai .shr .u32 r0 mT)))
 (.ret (aO (aO (pi 0) (pi 8)) (.conv .i64 (.sidx fO (.conv .u8 (.ai .shr .u32 r0 mT))))))))
 (.chk (.sok fO (.conv .u8 r0))
 (.ret (aO (pi 0) (.conv .i64 (.sidx fO (.conv .u8 r0))))))))
def aqH (b:Nat→PC):PT×List (Shp×PT):=(aCN,[])
theorem azG:F6.map told=some (aqH (ax F6)):=by kernel_rfl
theorem amR:F6=some agi:=aC azG
noncomputable def AL:Option PC:=aB {ctx with fr:=[2,0],nh:=[]} Tryz.f256 ((ab af 256).getD default) []
noncomputable def SU:PC:=aA AL
def aCO:PT:=
 (.ite (bL r0 (.con (.v (.int .u64 4294967296))))
 (.chk (bL zg (pi 0))
 (.ite (bL sd (.con (.v (.int .u64 65536))))
 (.chk (bL za (pi 0))
 (.ite (bL DQ Lx)
 (.chk y2
 (.chk (.sok fO (.conv .u8 (.ai .shr .u64 DQ mT)))
 (.ret (aO (aO (aO (pi 32) (pi 16)) (pi 8)) (.conv .i64 (.sidx fO (.conv .u8 (.ai .shr .u64 DQ mT))))))))
 (.chk (.sok fO (.conv .u8 DQ))
 (.ret (aO (aO (pi 32) (pi 16)) (.conv .i64 (.sidx fO (.conv .u8 DQ))))))))
 (.ite (bL sd Lx)
 (.chk y2
 (.chk (.sok fO (.conv .u8 (.ai .shr .u64 sd mT)))
 (.ret (aO (aO (pi 32) (pi 8)) (.conv .i64 (.sidx fO (.conv .u8 (.ai .shr .u64 sd mT))))))))
 (.chk (.sok fO (.conv .u8 sd))
 (.ret (aO (pi 32) (.conv .i64 (.sidx fO (.conv .u8 sd)))))))))
 (.ite (bL r0 (.con (.v (.int .u64 65536))))
 (.chk (bL za (pi 0))
 (.ite (bL DT Lx)
 (.chk y2
 (.chk (.sok fO (.conv .u8 (.ai .shr .u64 DT mT)))
 (.ret (aO (aO (aO (pi 0) (pi 16)) (pi 8)) (.conv .i64 (.sidx fO (.conv .u8 (.ai .shr .u64 DT mT))))))))
 (.chk (.sok fO (.conv .u8 DT))
 (.ret (aO (aO (pi 0) (pi 16)) (.conv .i64 (.sidx fO (.conv .u8 DT))))))))
 (.ite (bL r0 Lx)
 (.chk y2
 (.chk (.sok fO (.conv .u8 (.ai .shr .u64 r0 mT)))
 (.ret (aO (aO (pi 0) (pi 8)) (.conv .i64 (.sidx fO (.conv .u8 (.ai .shr .u64 r0 mT))))))))
 (.chk (.sok fO (.conv .u8 r0))
 (.ret (aO (pi 0) (.conv .i64 (.sidx fO (.conv .u8 r0)))))))))
def aqI (b:Nat→PC):PT×List (Shp×PT):=(aCO,[])
theorem azH:AL.map told=some (aqI (ax AL)):=by kernel_rfl
theorem YT:AL=some SU:=aC azH
noncomputable def BD:Option PC:=aB {ctx with fr:=[8,9,10,3,11,12,13,1,14,15,16,17,18,2],nh:=[]} Tryz.f206 ((ab af 206).getD default) []
noncomputable def SZ:PC:=aA BD
def ax0 (b:Nat→PC):PC:=.block 0 [] [] (.loop [1,2,3,8,9] [] (b 0))
def aBv (b:Nat→PC):PT:=
 (.blockS ⟨[],[]⟩ 1 [1,2,3,8,9,10,11,12,19,20,21,22,23,28,29,34,35,42,43,44,45,46,47,48,49,50,61,62,64,65,68,73,74,75,87] []
 (.iteS ⟨[(10,(bD r2 r1))],[]⟩ (bJ (bD r2 r1) (pi 12)) [] []
 (.call ⟨[],[]⟩ [] 27 246 [r0,r1,r2]
 (.ret (.tup [])))
 (.next ⟨[],[]⟩)
 (.iteS ⟨[],[]⟩ (aq r3 (pi 0)) [] []
 (.call ⟨[],[]⟩ [] 33 247 [r0,r1,r2]
 (.ret (.tup [])))
 (.next ⟨[],[]⟩)
 (.iteS ⟨[],[]⟩ (.nt r8) [3] []
 (.call ⟨[],[]⟩ [] 39 248 [r0,r1,r2]
 (.next ⟨[(3,tT)],[]⟩))
 (.next ⟨[],[]⟩)
 (.call ⟨[],[]⟩ [] 46 249 [r0,r1,r2]
 (.iteS ⟨[(12,(.tget tW 1)),(11,(.tget tW 0))],[]⟩ (aq (.tget tW 1) (pi 2)) [11,12] []
 (.call ⟨[],[]⟩ [] 54 250 [r0,r1,r2]
 (.next ⟨[(12,(pi 1)),(11,(bD (bD r2 (pi 1)) (bD bu r1)))],[]⟩))
 (.next ⟨[],[]⟩)
 (.iteS ⟨[],[]⟩ (.pick (.pick r8 r9 pF) (aq bW (pi 1)) pF) [] []
 (.call ⟨[],[]⟩ [] 72 251 [r0,r1,r2]
 (.ite tY
 (.ret (.tup []))
 (.next ⟨[],[]⟩)))
 (.next ⟨[],[]⟩)
 (.chk (.nt (.an (.an (be r1 (pi 0)) pT) (.nt (av r0 (bD r1 (pi 1))))))
 (.chk (.nt (.an (.an (be r1 (pi 0)) pT) (.nt (av r0 bu))))
 (.call ⟨[(75,(be r1 (pi 0)))],[]⟩ [(75,true)] 85 252 [(pn r0 (bD r1 (pi 1))),(pn r0 bu)]
 (.iteS ⟨[],[]⟩ (.pick zk (.nt zl) pF) [1] []
 (.call ⟨[],[]⟩ [] 92 253 [r0,r1,r2,bu]
 (.exit 1 ⟨[(1,zm)],[]⟩))
 (.next ⟨[],[]⟩)
 (.call ⟨[],[]⟩ [] 99 254 [r0,r1,r2,bu]
 (.chk (aU (pi 8) (pi 0))
 (.iteS ⟨[(18,(.ai .quo .i64 cR (pi 8))),(17,(bD r2 (.tget nW 0))),(16,(bD (.tget nW 0) r1)),(9,(.tget nW 1)),(14,(.tget nW 0))],[]⟩ (aj (bD (.tget nW 0) r1) (bD r2 (.tget nW 0))) [1,2,8] []
 (.call ⟨[(8,(bL dJ gQ))],[]⟩ [] 121 206 [r0,r1,du,r3]
 (.next ⟨[(1,y5)],[]⟩))
 (.call ⟨[(8,(bL kp gQ))],[]⟩ [] 132 206 [r0,y5,r2,r3]
 (.next ⟨[(2,du)],[]⟩))
 (.next ⟨[],[]⟩))))))))))))))
 (.next ⟨[],[]⟩))
def aEr (b:Nat→PC):PT:=
 (.brk ⟨[(9,pT),(8,pT)],[]⟩
(ax0 b)
 (.next ⟨[],[]⟩))
def asu (b:Nat→PC):PT×List (Shp×PT):=(aEr b,[(.lp 0 [] [] [1,2,3,8,9] [],aBv b)])
theorem azN:BD.map told=some (asu (ax BD)):=by kernel_rfl
theorem Zg:BD=some SZ:=aC azN
noncomputable def BC:Option PC:=aB {ctx with fr:=[6,7],nh:=[]} Tryz.f246 ((ab af 246).getD default) []
noncomputable def SY:PC:=aA BC
def axY (b:Nat→PC):PC:=.block 2 [7,16,17,18,19,30] [] (.loop [7] [] (b 0))
def axZ (b:Nat→PC):PC:=.block 0 [6,10,11,12] [] (.loop [6] [] (b 1))
def aBt (b:Nat→PC):PT:=
 (.chk (.nt (.an (.an (be r7 r1) pT) (.nt (av r0 r7))))
 (.chk (.nt (.an (.an (be r7 r1) pT) (.nt (av r0 y7))))
 (.call ⟨[(19,(be r7 r1)),(18,(be r7 r1)),(17,r1),(16,r7)],[]⟩ [(19,true)] 29 252 [(pn r0 r7),(pn r0 y7)]
 (.ite (.pick gj nT pF)
 (.chk (av r0 y7)
 (.chk (av r0 r7)
 (.chk pF
 (.chk pF
 (.next ⟨[(7,y7)],[]⟩)))))
 (.exit 2 ⟨[(30,(.pick gj nT pF))],[]⟩)))))
def aBu (b:Nat→PC):PT:=
 (.ite (aj r6 r2)
 (.blockS ⟨[(12,(aj r6 r2)),(11,r2),(10,r6)],[]⟩ 1 [7,15,16,17,18,19,30] []
 (.brk ⟨[(7,r6)],[]⟩
(axY b)
 (.next ⟨[],[]⟩))
 (.next ⟨[(6,(aO r6 (pi 1)))],[]⟩))
 (.exit 0 ⟨[(10,r6),(11,r2),(12,(aj r6 r2))],[]⟩))
def aEq (b:Nat→PC):PT:=
 (.brk ⟨[(6,(aO r1 (pi 1)))],[]⟩
(axZ b)
 (.ret (.tup [])))
def ast (b:Nat→PC):PT×List (Shp×PT):=(aEq b,[(.lp 2 [7,16,17,18,19,30] [] [7] [],aBt b),(.lp 0 [6,10,11,12] [] [6] [],aBu b)])
theorem azM:BC.map told=some (ast (ax BC)):=by kernel_rfl
theorem Zf:BC=some SY:=aC azM
noncomputable def Gi:Option PC:=aB {ctx with fr:=[4],nh:=[]} Tryz.f252 ((ab af 252).getD default) []
noncomputable def agj:PC:=aA Gi
def aCY:PT:=
 (.call ⟨[],[]⟩ [] 6 228 [r0]
 (.call ⟨[(7,r6)],[]⟩ [(7,true)] 9 228 [r1]
 (.ret (.pick (.pick r7 (.nt r9) pF) pT (aj r0 r1)))))
def aqV (b:Nat→PC):PT×List (Shp×PT):=(aCY,[])
theorem azI:Gi.map told=some (aqV (ax Gi)):=by kernel_rfl
theorem am4:Gi=some agj:=aC azI
noncomputable def Gj:Option PC:=aB {ctx with fr:=[2],nh:=[]} Tryz.f228 ((ab af 228).getD default) []
noncomputable def Jz:PC:=aA Gj
def Vj:PT:=
 (.ret (aU r0 r0))
def aqX (b:Nat→PC):PT×List (Shp×PT):=(Vj,[])
theorem ae6:Gj.map told=some (aqX (ax Gj)):=by kernel_rfl
theorem aC0:tree Jz=Vj:=aK ae6
theorem am6:Gj=some Jz:=aC ae6
noncomputable def Bv:Option PC:=aB {ctx with fr:=[2,3,4,5],nh:=[]} Tryz.f140 ((ab af 140).getD default) []
noncomputable def SW:PC:=aA Bv
def axP (b:Nat→PC):PC:=.block 2 [3,5,29,30,31,32] [] (.loop [3,5] [] (b 0))
def axQ (b:Nat→PC):PC:=.block 0 [2,3,10,11,12,13] [] (.loop [2,3] [] (b 1))
def aBr (b:Nat→PC):PT:=
 (.ite (aj r5 (.llen r4))
 (.chk (av r4 r5)
 (.chk (av r4 y8)
 (.ite (aU (pn r4 r5) (pn r4 y8))
 (.chk (av r0 r3)
 (.chk pF
 (.next ⟨[(3,qN),(5,pG)],[]⟩)))
 (.next ⟨[(5,pG)],[]⟩))))
 (.exit 2 ⟨[(29,r5),(30,r4),(31,(.llen r4)),(32,(aj r5 (.llen r4)))],[]⟩))
def aBs (b:Nat→PC):PT:=
 (.ite (aj r3 (.llen r0))
 (.blockS ⟨[(13,(aj r3 (.llen r0))),(12,(.llen r0)),(11,r0),(10,r3)],[]⟩ 1 [2,3,16,17,18,19,20,21,22,23,24,25] []
 (.chk (av r0 r3)
 (.chk (av r0 tT)
 (.iteS ⟨[],[]⟩ (aq (pn r0 r3) (pn r0 tT)) [2,3] []
 (.chk (.slok r0 r3 (.llen r0))
 (.brk ⟨[(5,(pi 1)),(4,(.slc r0 r3 (.llen r0)))],[]⟩
(axP b)
 (.chk (.slok r0 r3 (.llen r0))
 (.chk pF
 (.chk (.slok r0 (pi 0) r3)
 (.ret (.slc r0 (pi 0) r3)))))))
 (.next ⟨[],[]⟩)
 (.next ⟨[],[]⟩))))
 (.next ⟨[(3,qN)],[]⟩))
 (.exit 0 ⟨[(10,r3),(11,r0),(12,(.llen r0)),(13,(aj r3 (.llen r0)))],[]⟩))
def aEd (b:Nat→PC):PT:=
 (.ite (aj (.llen r0) (pi 2))
 (.ret r0)
 (.brk ⟨[(3,(pi 1)),(2,pL)],[]⟩
(axQ b)
 (.ret r0)))
def ase (b:Nat→PC):PT×List (Shp×PT):=(aEd b,[(.lp 2 [3,5,29,30,31,32] [] [3,5] [],aBr b),(.lp 0 [2,3,10,11,12,13] [] [2,3] [],aBs b)])
theorem azK:Bv.map told=some (ase (ax Bv)):=by kernel_rfl
theorem YZ:Bv=some SW:=aC azK
noncomputable def Bc:Option PC:=aB {ctx with fr:=[4,5],nh:=[]} Tryz.f34 ((ab af 34).getD default) []
noncomputable def Kh:PC:=aA Bc
noncomputable def NT:Nat→PC:=bE Bc
def axo (b:Nat→PC):PC:=.block 0 [4,5,11,12,13,14] [] (.loop [4,5] [] (b 0))
def L6 (b:Nat→PC):PT:=
 (.ite (aj r5 (.llen r0))
 (.chk (av r0 r5)
 (.chk (av r1 r5)
 (.ite (aU (pn r0 r5) (pn r1 r5))
 (.ret pF)
 (.next ⟨[(5,pG)],[]⟩))))
 (.exit 0 ⟨[(11,r5),(12,r0),(13,(.llen r0)),(14,(aj r5 (.llen r0)))],[]⟩))
def VZ (b:Nat→PC):PT:=
 (.ite (aU (.llen r0) (.llen r1))
 (.ret pF)
 (.brk ⟨[(5,(pi 0)),(4,pF)],[]⟩
(axo b)
 (.ret pT)))
def arL (b:Nat→PC):PT×List (Shp×PT):=(VZ b,[(.lp 0 [4,5,11,12,13,14] [] [4,5] [],L6 b)])
theorem Sl:Bc.map told=some (arL (ax Bc)):=by kernel_rfl
theorem aDL:tree Kh=VZ NT:=aK Sl
theorem ag9:round 0 [4,5,11,12,13,14] [] [4,5] [] (NT 0)=L6 NT:=bq Sl 0 fun _=>rfl
theorem anN:Bc=some Kh:=aC Sl
noncomputable def F0:Option PC:=aB {ctx with fr:=[6,7],nh:=[]} Tryz.f29 ((ab af 29).getD default) [3,5]
noncomputable def Jj:PC:=aA F0
def U5:PT:=
 (.call ⟨[],[(5,(.mk [r2])),(3,(.mk [r0]))]⟩ [] 11 84 [km,(au 24 (.mk [r2]))]
 (.ite (aq (.llen (.tget bu 1)) (pi 0))
 (.ret pL)
 (.call ⟨[],[]⟩ [] 20 85 [(au 8 o3),r1,(au 24 (.setc o5 0 (.tget bu 0)))]
 (.ret eg))))
def aqA (b:Nat→PC):PT×List (Shp×PT):=(U5,[])
theorem aeQ:F0.map told=some (aqA (ax F0)):=by kernel_rfl
theorem aCG:tree Jj=U5:=aK aeQ
theorem amL:F0=some Jj:=aC aeQ
noncomputable def FX:Option PC:=aB {ctx with fr:=[8,9,10,11],nh:=[]} Tryz.f41 ((ab af 41).getD default) [4,6]
noncomputable def Jg:PC:=aA FX
def U2:PT:=
 (.call ⟨[],[(6,(.mk [r2])),(4,(.mk [r0]))]⟩ [] 14 30 [(au 19 (.mk [r2])),r3]
 (.ite (aq (.llen (pc (.setc o6 0 du) 15)) (pi 0))
 (.ret (pi (-1)))
 (.call ⟨[],[(6,(.setc o6 0 du))]⟩ [] 23 50 [(au 8 o4),r1,(pi 6),(au 19 (.setc o6 0 du)),r3]
 (.call ⟨[],[]⟩ [] 24 48 [jA]
 (.call ⟨[(29,(au 15 o6)),(27,(au 8 o4)),(9,(.mx pJ (pi 0)))],[]⟩ [] 31 109 [(au 19 o6)]
 (.call ⟨[],[]⟩ [] 33 108 [fh,nT,qT,r9]
 (.ite (aU (.tget sl 1) (pi 0))
 (.ret (pi (-1)))
 (.ret (.tget sl 0)))))))))
def aqx (b:Nat→PC):PT×List (Shp×PT):=(U2,[])
theorem aeN:FX.map told=some (aqx (ax FX)):=by kernel_rfl
theorem aCD:tree Jg=U2:=aK aeN
theorem amI:FX=some Jg:=aC aeN
noncomputable def FW:Option PC:=aB {ctx with fr:=[],nh:=[]} Tryz.f50 ((ab af 50).getD default) [5,8,77832,10]
noncomputable def Jf:PC:=aA FW
def U1:PT:=
 (.call ⟨[],[(10,lV)]⟩ [] 18 28 [km,r1,r2,(.mk [(.mk [(pc jy 0),(pc jy 1),(pc jy 2),(pc jy 3),(pc jy 4),(pc jy 5),(pc jy 6),(pc jy 7),(pc jy 8),(pc jy 9),(pc jy 10),(pc jy 11),(pc jy 12),(pc jy 13),(pc jy 14),(pc jy 15),(pc jy 16),(pc jy 17),pL]),(pi 0),(pi (-1)),(pi (-1)),(pi (-1)),r4])]
 (.ret (au 5 (.setc cq 0 gQ))))
def aqw (b:Nat→PC):PT×List (Shp×PT):=(U1,[])
theorem aeM:FW.map told=some (aqw (ax FW)):=by kernel_rfl
theorem aCC:tree Jf=U1:=aK aeM
theorem amH:FW=some Jf:=aC aeM
noncomputable def Bt:Option PC:=aB {ctx with fr:=[2,4],nh:=[]} Tryz.f109 ((ab af 109).getD default) [1,3,6,8]
noncomputable def KH:PC:=aA Bt
noncomputable def Az:Nat→PC:=bE Bt
def axN (b:Nat→PC):PC:=.block 0 [3,16,17] [3] (.loop [3,16] [3] (b 0))
def axO (b:Nat→PC):PC:=.block 2 [2,3,36,37] [3] (.loop [2,3,36] [3] (b 1))
def EI (b:Nat→PC):PT:=
 (.ite (aj dJ gP)
 (.chk (av du dJ)
 (.ite (.pick (aq r4 (pi 1)) (aq (pc (.setc z9 0 qP) 0) (pi 1)) pF)
 (.chk (bJ (.llen (.app o3 (.lst [(pc (.setc z9 0 qP) 6)]))) cK)
 (.next ⟨[(3,pN),(16,(aO dJ (pi 1)))],[(3,(.app o3 (.lst [(pc (.setc z9 0 qP) 6)])))]⟩))
 (.next ⟨[(16,(aO dJ (pi 1)))],[]⟩)))
 (.exit 0 ⟨[(17,(aj dJ gP))],[]⟩))
def wF (b:Nat→PC):PT:=
 (.ite (aj kr wA)
 (.chk (av r34 kr)
 (.ite (.pick (aq r4 (pi 0)) (aq (pc DR 0) (pi 2)) pF)
 (.ret (pc DR 6))
 (.ite (.pick (aq r4 (pi 1)) (aq (pc DR 0) (pi 1)) pF)
 (.chk (bJ (.llen (.app o3 (.lst [(pc DR 6)]))) cK)
 (.next ⟨[(3,pN),(36,(aO kr (pi 1)))],[(3,(.app o3 (.lst [(pc DR 6)])))]⟩))
 (.next ⟨[(36,(aO kr (pi 1)))],[]⟩))))
 (.exit 2 ⟨[(37,(aj kr wA))],[]⟩))
def Wm (b:Nat→PC):PT:=
 (.brk ⟨[(16,(pi 0)),(15,(.llen qL)),(14,qL),(4,wx),(3,pN),(2,(pi 0))],[(3,pL),(1,(.mk [r0]))]⟩
(axN b)
 (.brk ⟨[(36,(pi 0)),(35,(.llen (pc o1 17))),(34,(pc o1 17))],[]⟩
(axO b)
 (.ite (aq (.llen o3) (pi 0))
 (.ret (pi (-1)))
 (.call ⟨[],[]⟩ [] 66 182 [o3]
 (.ret LP)))))
def ar9 (b:Nat→PC):PT×List (Shp×PT):=(Wm b,[(.lp 0 [3,16,17] [3] [3,16] [3],EI b),(.lp 2 [2,3,36,37] [3] [2,3,36] [3],wF b)])
theorem I4:Bt.map told=some (ar9 (ax Bt)):=by kernel_rfl
theorem aD8:tree KH=Wm Az:=aK I4
theorem Ul:round 0 [3,16,17] [3] [3,16] [3] (Az 0)=EI Az:=bq I4 0 fun _=>rfl
theorem EJ:round 2 [2,3,36,37] [3] [2,3,36] [3] (Az 1)=wF Az:=bq I4 1 fun _=>rfl
theorem aob:Bt=some KH:=aC I4
noncomputable def BA:Option PC:=aB {ctx with fr:=[2,3,4],nh:=[]} Tryz.f182 ((ab af 182).getD default) []
noncomputable def KW:PC:=aA BA
noncomputable def Oa:Nat→PC:=bE BA
def acv (b:Nat→PC):PC:=.block 0 [3,4,12,13,14,15] [] (.loop [3,4] [] (b 0))
def Mf (b:Nat→PC):PT:=
 (.ite (aj r4 (.llen r0))
 (.chk (av r0 r4)
 (.next ⟨[(3,(.mn r3 (pn r0 r4))),(4,(aO r4 (pi 1)))],[]⟩))
 (.exit 0 ⟨[(12,r4),(13,r0),(14,(.llen r0)),(15,(aj r4 (.llen r0)))],[]⟩))
def WA (b:Nat→PC):PT:=
 (.ite (aj (.llen r0) (pi 1))
 (.chk (.nt pT)
 (.chk (.nt pT)
 (.chk (av r0 (pi 0))
 (.brk ⟨[(4,(pi 1)),(3,(pn r0 (pi 0)))],[]⟩
(acv b)
 (.ret r3)))))
 (.chk (av r0 (pi 0))
 (.brk ⟨[(4,(pi 1)),(3,(pn r0 (pi 0)))],[]⟩
(acv b)
 (.ret r3))))
def asr (b:Nat→PC):PT×List (Shp×PT):=(WA b,[(.lp 0 [3,4,12,13,14,15] [] [3,4] [],Mf b)])
theorem SF:BA.map told=some (asr (ax BA)):=by kernel_rfl
theorem aEo:tree KW=WA Oa:=aK SF
theorem ahh:round 0 [3,4,12,13,14,15] [] [3,4] [] (Oa 0)=Mf Oa:=bq SF 0 fun _=>rfl
theorem aom:BA=some KW:=aC SF
noncomputable def GU:Option PC:=aB {ctx with fr:=[8,9,15,39,58,74,11,12],nh:=[]} Tryz.f108 ((ab af 108).getD default) [4,5,10]
noncomputable def KX:PC:=aA GU
def MN:PT:=
 (.blockS ⟨[],[(10,(.setc z3 0 (.mk [(pc (.mk [r1]) 5),(pc (.mk [r1]) 6),(pc (.mk [r1]) 7)]))),(5,(.mk [r1])),(4,(.mk [r0]))]⟩ 0 [8,9,15,16,17,18,19,25,26,32,33,38,39,40,41,42,43,47,48,52,53,57,58,59,60,61,65,66,69,70,73,74,75,76,77,80] []
 (.call ⟨[],[]⟩ [] 17 54 [(au 8 o4)]
 (.call ⟨[(19,(aU kp (pi 0)))],[]⟩ [(19,false)] 23 177 [(au 8 o4),(pc o5 9)]
 (.call ⟨[(26,(.pick gj pT (.nt jA)))],[]⟩ [(26,false)] 30 177 [(au 8 o4),(pc o5 10)]
 (.call ⟨[(33,(.pick kU pT (.nt tU)))],[]⟩ [(33,false)] 36 178 [(pc o5 8)]
 (.iteS ⟨[],[]⟩ (.pick sl pT (.nt kr)) [8,9,39,40,41,42,43,47,48,52,53,57,58,59,60,61,65,66,69,70,73,74,75,76,77,80] []
 (.ret (.tup [(pi 0),(pi 1)]))
 (.iteS ⟨[],[]⟩ (.pick (.pick (.pick (aj (pc cq 0) (pi 0)) pT (bL (pc cq 0) (pi 5))) pT (aj (pc cq 2) (pi 0))) pT (bL (pc cq 2) (pi 2))) [8,9,58,59,60,61,65,66,69,70,73,74,75,76,77,80] []
 (.ret (.tup [(pi 0),(pi 1)]))
 (.call ⟨[(61,(aU r2 (pi (-1))))],[]⟩ [(61,true)] 63 178 [r2]
 (.iteS ⟨[],[]⟩ (.pick (.pick (.pick kX (.nt LO) pF) pT (aj r3 (pi 0))) pT (be r3 (pi 20000))) [8,9,74,75,76,77,80] []
 (.ret (.tup [(pi 0),(pi 1)]))
 (.call ⟨[],[]⟩ [] 76 179 [(.mk [(pc cq 0),(pc cq 1),(pc cq 2)])]
 (.ite (.pick pM (aq r2 (pi (-1))) pF)
 (.ret (.tup [(pi 0),(pi 4)]))
 (.next ⟨[],[]⟩)))
 (.next ⟨[],[]⟩)))
 (.next ⟨[],[]⟩))
 (.next ⟨[],[]⟩))))))
 (.call ⟨[],[]⟩ [] 85 180 [(au 8 o4),(au 15 o5),r2]
 (.ite (aU (.tget zl 1) (pi 0))
 (.ret (.tup [(pi 0),(.tget zl 1)]))
 (.call ⟨[(11,(.tget zl 0))],[]⟩ [] 92 178 [(.tget zl 0)]
 (.ite (.pick (.nt zm) pT (be (aO bu r3) (pi 100000)))
 (.ret (.tup [(pi 0),(pi 3)]))
 (.call ⟨[],[]⟩ [] 106 181 [(au 8 o4),(pc o5 10),(aO bu r3)]
 (.ret (.tup [(.tget DX 0),(.tget DX 1)]))))))))
def asv (b:Nat→PC):PT×List (Shp×PT):=(MN,[])
theorem afJ:GU.map told=some (asv (ax GU)):=by kernel_rfl
theorem aia:tree KX=MN:=aK afJ
theorem aon:GU=some KX:=aC afJ
end Rm
