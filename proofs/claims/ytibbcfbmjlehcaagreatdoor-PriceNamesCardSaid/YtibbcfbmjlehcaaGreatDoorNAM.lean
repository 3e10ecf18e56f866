/-
  The functions of this seat, compiled (2).
-/
import Derived.Test.YtibbcfbmjlehcaaGreatDoorNAJ
import Derived.KernelRfl
set_option linter.defProp false
set_option linter.unusedVariables false
set_option maxRecDepth 100000
noncomputable section
namespace Rm
open Go Go.Proofs Cx
def Bm:Option PC:=cF [2,3,5,7,8,38,47,10,11,12] [] Tryz.f200 200 [1,4,6,12294,9]
def Eg:Nat->PC:=bm Bm
variable(b:Nat->PC)
def at1:PC:=.block 0 [2,3,20,21] [4] (.loop [2,3,20] [4] (b 0))
def at2:PC:=.block 3 [2,3,10,82,83] [] (.loop [2,3,10,82] [] (b 1))
def H0 (b:Nat->PC):PT:=
 (.ite (aj fc ji)
 (.blockS ⟨[],[]⟩ 1 [2,3,5,6,7,8,22,23,24,25,26,27,28,29,30,31,33,34,35,36] [6,12294,4]
 (.chk (aq cO fc)
 (.call ⟨[(5,fc)],[]⟩ [] 27 200 [(.mk [(pc (.setc nj 0 (pn cO fc)) 0),(pc (.setc nj 0 (pn cO fc)) 1),(pc (.setc nj 0 (pn cO fc)) 2)])]
 (.ite (aJ (.tget eL 1) (pi 0))
 (.ret (.tup [(pi 0),(.tget eL 1)]))
 (.chk (aq o4 r5)
 (.next ⟨[],[(4,(.setn o4 r5 0 (.tget eL 0)))]⟩)))))
 (.next ⟨[(20,(aE fc (pi 1)))],[]⟩))
 (.exit 0 ⟨[(21,(aj fc ji))],[]⟩))
def wR (b:Nat->PC):PT:=
 (.ite (aj lS wO)
 (.chk (aq zB lS)
 (.ite (.pick (peq (pn zB lS) (pi (-1))) (peq dy (pi (-1))) pF)
 (.chk (aq o4 lS)
 (.ite (aJ (pn o4 lS) (.pick (peq (pn zB lS) (pi (-1))) (pn o4 lS) (pn zB lS)))
 (.ret (.tup [(pi 0),(pi 11)]))
 (.next ⟨[(10,(pn o4 lS)),(82,(aE lS (pi 1)))],[]⟩)))
 (.chk (aq o4 lS)
 (.ite (aJ (pn o4 lS) (.pick (peq (pn zB lS) (pi (-1))) dy (pn zB lS)))
 (.ret (.tup [(pi 0),(pi 11)]))
 (.next ⟨[(82,(aE lS (pi 1)))],[]⟩)))))
 (.exit 3 ⟨[(83,(aj lS wO))],[]⟩))
def Zf:PT:=
 (.chk (.an (bh rW (pi 0)) (bI rW cQ))
 (.chk (peq rW rW)
 (.brk ⟨[(20,(pi 0)),(19,rW),(18,zy),(4,pN),(3,(pi 0)),(2,(pi 0))],[(4,(.rep rW (pi 0))),(1,(.mk [r0]))]⟩
(at1 b)
 (.blockS ⟨[],[]⟩ 2 [2,3,38,39,40,41,42,46,47,48,49,50,51,55,56,60] []
 (.iteS ⟨[],[]⟩ (.pick (aj (pc o1 0) (pi 0)) pT (aV (pc o1 0) (pi 13))) [2,3,47,48,49,50,51,55,56,60] []
 (.ret (.tup [(pi 0),(pi 1)]))
 (.iteS ⟨[],[]⟩ (.pick (.pick (peq (pc o1 0) (pi 0)) pT (peq (pc o1 0) (pi 1))) pT (peq (pc o1 0) (pi 2))) [2,3] []
 (.call ⟨[],[]⟩ [] 62 208 [(.mk [(pc o1 0),(pc o1 1),(pc o1 2)])]
 (.ret (.tup [(.tget oP 0),(.tget oP 1)])))
 (.next ⟨[],[]⟩)
 (.next ⟨[],[]⟩))
 (.next ⟨[],[]⟩))
 (.call ⟨[],[]⟩ [] 67 209 [(pc o1 0)]
 (.ite (.pick (aJ (.llen o4) (.llen (pc (.setc mf 0 wN) 0))) pT (aJ (pc o1 1) (pi 0)))
 (.ret (.tup [(pi 0),(pi 2)]))
 (.brk ⟨[(82,(pi 0)),(81,(.llen (pc (.setc mf 0 wN) 0))),(80,(pc (.setc mf 0 wN) 0)),(10,(pi (-1)))],[(9,(.setc mf 0 wN))]⟩
(at2 b)
 (.ite (peq (pc o9 1) (pi (-1)))
 (.ret (.tup [dy,(pi 0)]))
 (.ret (.tup [(pc o9 1),(pi 0)]))))))))))
def aoQ:PT×List (Shp×PT):=(Zf b,[(.lp 0 [2,3,20,21] [4] [2,3,20] [4],H0 b),(.lp 3 [2,3,10,82,83] [] [2,3,10,82] [],wR b)])
def MH:Bm.map told=some (aoQ (bp Bm)):=by kernel_rfl
def az2:tree (ab Bm)=Zf Eg:=bF MH
def Wi:round 0 [2,3,20,21] [4] [2,3,20] [4] (Eg 0)=H0 Eg:=bk MH 0 λ_=>rfl
def C9:round 3 [2,3,10,82,83] [] [2,3,10,82] [] (Eg 1)=wR Eg:=bk MH 1 λ_=>rfl
def Ks:Option PC:=cF [2,3,12,20,4,5] [] Tryz.f208 208 [1]
def Zi:PT:=
 (.ite (aV rW (pi 0))
 (.ret (.tup [(pi 0),(pi 2)]))
 (.blockS ⟨[(11,jY)],[(1,(.mk [r0]))]⟩ 0 [2,3,12,13,20,21] []
 (.iteS ⟨[],[]⟩ (peq bQ (pi 0)) [2,3,20,21] []
 (.call ⟨[],[]⟩ [] 16 212 [(pc o1 1)]
 (.ite (aJ cv (pc o1 1))
 (.ret (.tup [(pi 0),(pi 3)]))
 (.ret (.tup [(pi 0),(pi 0)]))))
 (.ite (peq bQ (pi 1))
 (.ite (.pick (aj (pc o1 1) (pi 0)) pT (aV (pc o1 1) (pi 1)))
 (.ret (.tup [(pi 0),(pi 3)]))
 (.ret (.tup [(pi 1),(pi 0)])))
 (.next ⟨[],[]⟩))
 (.next ⟨[],[]⟩))
 (.call ⟨[],[]⟩ [] 33 210 [(pc o1 1)]
 (.ite (.nt (.tget tF 1))
 (.ret (.tup [(pi 0),(pi 10)]))
 (.ret (.tup [(.tget tF 0),(pi 0)]))))))
def ag3:Ks.map told=some (Zi,[]):=by kernel_rfl
def az5:tree (ab Ks)=Zi:=aU ag3
def Kr:Option PC:=cF [2] [] Tryz.f212 212 []
def Zh:PT:=
 (.ret (.mn (.mx r0 (pi (-1099511627776))) zo))
def ag2:Kr.map told=some (Zh,[]):=by kernel_rfl
def az4:tree (ab Kr)=Zh:=aU ag2
def Ko:Option PC:=cF [2,3,4,11] [] Tryz.f210 210 []
def Zd:PT:=
 (.ite (.pick (aj r0 (pi 0)) pT (aV r0 (pi 19)))
 (.ret (.tup [(pi 0),pF]))
 (.ite (aj r0 (pi 7))
 (.ret (.tup [(pi 0),pT]))
 (.ret (.tup [(pi 1),pT]))))
def agZ:Ko.map told=some (Zd,[]):=by kernel_rfl
def az0:tree (ab Ko)=Zd:=aU agZ
def Kv:Option PC:=cF [4,8,13,17,21] [] Tryz.f209 209 [2]
def Zl:PT:=
 (.ite (peq r0 (pi 3))
 (.ret (.mk [(pc (.setc mf 0 (.mk [(.lst [(pi 1)]),(pi 1)])) 0),(pc (.setc mf 0 (.mk [(.lst [(pi 1)]),(pi 1)])) 1)]))
 (.ite (.pick (peq r0 (pi 4)) (peq r0 (pi 4)) (peq r0 (pi 5)))
 (.ret (.mk [(pc (.setc mf 0 (.mk [(.lst [(pi 1),(pi 1)]),(pi 1)])) 0),(pc (.setc mf 0 (.mk [(.lst [(pi 1),(pi 1)]),(pi 1)])) 1)]))
 (.ite (peq r0 (pi 6))
 (.ret (.mk [(pc ahM 0),(pc ahM 1)]))
 (.ite (peq r0 (pi 7))
 (.ret (.mk [(pc (.setc mf 0 (.mk [(.lst [(pi 0),(pi 0)]),(pi 1)])) 0),(pc (.setc mf 0 (.mk [(.lst [(pi 0),(pi 0)]),(pi 1)])) 1)]))
 (.ite (peq r0 (pi 8))
 (.ret (.mk [(pc (.setc mf 0 (.mk [(.lst [(pi (-1)),(pi (-1))]),(pi 1)])) 0),(pc (.setc mf 0 (.mk [(.lst [(pi (-1)),(pi (-1))]),(pi 1)])) 1)]))
 (.ret (.mk [(pc (.setc mf 0 (.mk [(.lst [(pi 0),(pi 0)]),(pi 0)])) 0),(pc (.setc mf 0 (.mk [(.lst [(pi 0),(pi 0)]),(pi 0)])) 1)])))))))
def ag6:Kv.map told=some (Zl,[]):=by kernel_rfl
def az9:tree (ab Kv)=Zl:=aU ag6
def Km:Option PC:=cF [5,6,8] [] Tryz.f161 161 [2,4,7]
def Zc:PT:=
 (.call ⟨[],[(4,gD),(2,(.mk [r0]))]⟩ [] 11 181 [(.mk [jY,mh,zy])]
 (.ite (aJ (.tget bQ 1) (pi 0))
 (.ret GS)
 (.call ⟨[],[]⟩ [] 21 182 [(.mk [r1]),(.mk [(pc o2 0),(pc o2 1),(pc o2 2)])]
 (.ret (.mk [(pc ahF 0),(pc ahF 1)])))))
def agY:Km.map told=some (Zc,[]):=by kernel_rfl
def azZ:tree (ab Km)=Zc:=aU agY
def Bn:Option PC:=cF [5,15,21,9,11] [] Tryz.f182 182 [2,3,4,6,33,7,8,10,12298,12]
def Qb:Nat->PC:=bm Bn
def at3:PC:=.block 1 [45,46] [7,8] (.loop [45] [7,8] (b 0))
def H2 (b:Nat->PC):PT:=
 (.ite (aj rZ wM)
 (.blockS ⟨[],[]⟩ 2 [9,10,47,48,49,50,51,52,53,54,55,56,57,58,59,60,61] [10,12298,8,7]
 (.chk (aq vb rZ)
 (.call ⟨[(54,rZ),(52,rZ)],[]⟩ [] 57 182 [(.mk [(pc o2 0)]),(.mk [(pc (.setc nj 0 (pn vb rZ)) 0),(pc (.setc nj 0 (pn vb rZ)) 1),(pc (.setc nj 0 (pn vb rZ)) 2)])]
 (.chk (aq o7 CZ)
 (.chk (aq o8 mu)
 (.next ⟨[],[(8,(.setn o8 mu 0 (.tget Np 1))),(7,(.setn o7 CZ 0 (.tget Np 0)))]⟩)))))
 (.next ⟨[(45,(aE rZ (pi 1)))],[]⟩))
 (.exit 1 ⟨[(46,(aj rZ wM))],[]⟩))
def It:PT:=
 (.blockS ⟨[(14,(pc (.mk [r1]) 0))],[(4,gD),(3,(.mk [r1])),(2,(.mk [r0]))]⟩ 0 [5,15,16,21,22] [4]
 (.iteS ⟨[],[]⟩ (.pick (peq cm (pi 0)) (peq cm (pi 0)) (peq cm (pi 1))) [5,21,22] [4]
 (.ret (.tup [(.mk [(pc (.setc o4 0 (.mk [pT,(pc o3 1)])) 0),(pc (.setc o4 0 (.mk [pT,(pc o3 1)])) 1)]),pL]))
 (.iteS ⟨[],[]⟩ (peq cm (pi 2)) [5] [4]
 (.call ⟨[],[]⟩ [] 26 201 [(.mk [(pc o2 0)]),(pc o3 1)]
 (.ite (pc (.setc gD 0 mm) 0)
 (.ret (.tup [(.mk [(pc ahL 0),(pc ahL 1)]),pL]))
 (.ret (.tup [GS,(.lst [(pc o3 1)])]))))
 (.next ⟨[],[]⟩)
 (.next ⟨[],[]⟩))
 (.next ⟨[],[]⟩))
 (.chk (.an (bh nk (pi 0)) (bI nk cQ))
 (.chk (peq nk nk)
 (.brk ⟨[(45,(pi 0)),(44,nk),(43,(pc o3 2)),(8,pN),(7,pN)],[(8,(.rep nk pL)),(7,(.rep nk gD))]⟩
(at3 b)
 (.chk (.nt (.an (.an (peq (pc o3 0) (pi 6)) pT) (.nt (aq o7 (pi 0)))))
 (.ite (.pick (peq (pc o3 0) (pi 6)) (pc (pn o7 (pi 0)) 0) pF)
 (.chk (aq o7 (pi 0))
 (.chk (aq o7 GW)
 (.chk (aq o8 GW)
 (.ret (.tup [(.mk [(pc (.setc o4 0 (.sub (pn o7 GW) 0 2)) 0),(pc (.setc o4 0 (.sub (pn o7 GW) 0 2)) 1)]),(pn o8 GW)])))))
 (.call ⟨[],[]⟩ [] 88 202 [(pc o3 0),o7]
 (.ite (pc (.setc gD 0 Nr) 0)
 (.ret (.tup [(.mk [(pc ahK 0),(pc ahK 1)]),pL]))
 (.call ⟨[(92,zq)],[]⟩ [] 94 203 [o8]
 (.ret (.tup [(.mk [(pc (.setc o4 0 Vp) 0),(pc (.setc o4 0 Vp) 1)]),r94])))))))))))
def aoR:PT×List (Shp×PT):=(It b,[(.lp 1 [45,46] [7,8] [45] [7,8],H2 b)])
def Up:Bn.map told=some (aoR (bp Bn)):=by kernel_rfl
def az6:tree (ab Bn)=It Qb:=bF Up
def Wj:round 1 [45,46] [7,8] [45] [7,8] (Qb 0)=H2 Qb:=bk Up 0 λ_=>rfl
def Kt:Option PC:=cF [5,6] [] Tryz.f201 201 [2,4]
def Zj:PT:=
 (.chk (.nt (.an (.an (.nt (bh r1 (.llen jY))) pT) (.nt (aq jY r1))))
 (.ite (.pick (bh r1 (.llen jY)) pT (.nt (pc (pn jY r1) 0)))
 (.ret (.mk [(pc (.setc gD 0 zq) 0),(pc (.setc gD 0 zq) 1)]))
 (.call ⟨[],[(4,gD),(2,(.mk [r0]))]⟩ [] 24 210 [r1]
 (.iteS ⟨[],[]⟩ (peq (.tget oN 0) (pi 1)) [] [4]
 (.chk (aq (pc o2 0) r1)
 (.call ⟨[],[]⟩ [] 36 211 [(aJ (pc (pn (pc o2 0) r1) 1) (pi 0))]
 (.ret (.mk [(pc (.setc o4 0 lb) 0),(pc (.setc o4 0 lb) 1)]))))
 (.next ⟨[],[]⟩)
 (.chk (aq (pc o2 0) r1)
 (.call ⟨[],[]⟩ [] 43 212 [(pc (pn (pc o2 0) r1) 1)]
 (.ret (.mk [(pc (.setc o4 0 (.mk [pT,vb])) 0),(pc (.setc o4 0 (.mk [pT,vb])) 1)]))))))))
def ag4:Kt.map told=some (Zj,[]):=by kernel_rfl
def az7:tree (ab Kt)=Zj:=aU ag4
def Kw:Option PC:=cF [] [] Tryz.f211 211 [2]
def Zm:PT:=
 (.ite r0
 (.ret (.mk [(pc MX 0),(pc MX 1)]))
 (.ret (.mk [(pc MY 0),(pc MY 1)])))
def ag7:Kw.map told=some (Zm,[]):=by kernel_rfl
def aAa:tree (ab Kw)=Zm:=aU ag7
def Kq:Option PC:=cF [9,22,41,6,7,82,88,94] [] Tryz.f202 202 [4,5]
def Zg:PT:=
 (.blockS ⟨[(8,r0)],[(4,gD)]⟩ 0 [9,10,22,23] [4]
 (.iteS ⟨[],[]⟩ (peq r8 (pi 3)) [22,23] [4]
 (.chk (aq r1 (pi 0))
 (.iteS ⟨[],[]⟩ (pc (pn r1 (pi 0)) 0) [] [4]
 (.chk (aq r1 (pi 0))
 (.call ⟨[],[]⟩ [] 20 211 [(peq (pc (pn r1 (pi 0)) 1) (pi 0))]
 (.ret (.mk [(pc (.setc o4 0 fc) 0),(pc (.setc o4 0 fc) 1)]))))
 (.next ⟨[],[]⟩)
 (.ret GS)))
 (.iteS ⟨[],[]⟩ (.pick (peq r8 (pi 4)) (peq r8 (pi 4)) (peq r8 (pi 5))) [] [4]
 (.call ⟨[],[]⟩ [] 27 211 [(peq r0 (pi 5))]
 (.chk (aq r1 (pi 0))
 (.chk (.nt (.an (.an (.nt ah2) pT) (.nt (aq r1 (pi 1)))))
 (.ite (.pick ah2 pT (.an (.cb .eql (pc rT 0) (pc CS 0)) (.an (peq (pc rT 1) (pc CS 1)) pT)))
 (.ret (.mk [(pc (.setc o4 0 CS) 0),(pc (.setc o4 0 CS) 1)]))
 (.next ⟨[],[]⟩)))))
 (.ite (peq r8 (pi 6))
 (.chk (aq r1 (pi 1))
 (.chk (.nt (.an (.an (pc rT 0) pT) (.nt (aq r1 (pi 1)))))
 (.chk (.nt (.an (.an (pc rT 0) pT) (.nt (aq r1 (pi 2)))))
 (.ite (.pick (pc rT 0) (.an (.cb .eql (pc rT 0) (pc (pn r1 (pi 2)) 0)) (.an (peq (pc rT 1) (pc (pn r1 (pi 2)) 1)) pT)) pF)
 (.ret (.mk [(pc (.setc o4 0 rT) 0),(pc (.setc o4 0 rT) 1)]))
 (.ret GS)))))
 (.next ⟨[],[]⟩))
 (.next ⟨[],[]⟩))
 (.next ⟨[],[]⟩))
 (.chk (aq r1 (pi 0))
 (.chk (.nt (.an (.an (.nt (.nt (pc (pn r1 (pi 0)) 0))) pT) (.nt (aq r1 (pi 1)))))
 (.ite (.pick (.nt (pc (pn r1 (pi 0)) 0)) pT (.nt (pc rT 0)))
 (.ret GS)
 (.chk (aq r1 (pi 1))
 (.blockS ⟨[(81,r0),(7,(pc rT 1)),(6,(pc (pn r1 (pi 0)) 1))],[]⟩ 1 [82,83,88,89,94,95] [4]
 (.iteS ⟨[],[]⟩ (.pick (peq wO (pi 4)) (peq wO (pi 4)) (peq wO (pi 5))) [88,89,94,95] [4]
 (.call ⟨[],[]⟩ [] 87 211 [(peq r0 (pi 4))]
 (.ret (.mk [(pc (.setc o4 0 r87) 0),(pc (.setc o4 0 r87) 1)])))
 (.iteS ⟨[],[]⟩ (peq wO (pi 7)) [94,95] [4]
 (.call ⟨[],[]⟩ [] 93 211 [(aj r6 r7)]
 (.ret (.mk [(pc (.setc o4 0 Ns) 0),(pc (.setc o4 0 Ns) 1)])))
 (.iteS ⟨[],[]⟩ (peq wO (pi 8)) [] [4]
 (.call ⟨[],[]⟩ [] 99 211 [(peq r6 r7)]
 (.ret (.mk [(pc (.setc o4 0 r99) 0),(pc (.setc o4 0 r99) 1)])))
 (.next ⟨[],[]⟩)
 (.next ⟨[],[]⟩))
 (.next ⟨[],[]⟩))
 (.next ⟨[],[]⟩))
 (.call ⟨[],[]⟩ [] 103 213 [r0,r6,r7]
 (.ret (.mk [(pc (.setc o4 0 (.mk [pT,ah6])) 0),(pc (.setc o4 0 (.mk [pT,ah6])) 1)])))))))))
def ag1:Kq.map told=some (Zg,[]):=by kernel_rfl
def az3:tree (ab Kq)=Zg:=aU ag1
def Kp:Option PC:=cF [6,8,14,20,25] [] Tryz.f213 213 []
def Ze:PT:=
 (.blockS ⟨[(7,r0)],[]⟩ 0 [6,8,9,14,15,20,21,25,26] []
 (.iteS ⟨[],[]⟩ (peq r7 (pi 9)) [6,14,15,20,21,25,26] []
 (.call ⟨[],[]⟩ [] 13 212 [(aE r1 r2)]
 (.ret dN))
 (.iteS ⟨[],[]⟩ (peq r7 (pi 10)) [6,20,21,25,26] []
 (.call ⟨[],[]⟩ [] 19 212 [(bo r1 r2)]
 (.ret ji))
 (.iteS ⟨[],[]⟩ (peq r7 (pi 11)) [6,25,26] []
 (.call ⟨[],[]⟩ [] 24 215 [r1,r2]
 (.ret oN))
 (.ite (peq r7 (pi 12))
 (.ret (.mn r1 r2))
 (.next ⟨[],[]⟩))
 (.next ⟨[],[]⟩))
 (.next ⟨[],[]⟩))
 (.next ⟨[],[]⟩))
 (.ret (.mx r1 r2)))
def ag0:Kp.map told=some (Ze,[]):=by kernel_rfl
def az1:tree (ab Kp)=Ze:=aU ag0
def Ku:Option PC:=cF [4,5,6,7] [] Tryz.f215 215 []
def Zk:PT:=
 (.call ⟨[],[]⟩ [] 19 79 [(.conv .u64 (.mx r0 (bo (pi 0) r0))),(.conv .u64 (.mx r1 (bo (pi 0) r1)))]
 (.ite (.cb .neq (aj r0 (pi 0)) (aj r1 (pi 0)))
 (.ret (bo (pi 0) ahR))
 (.ret ahR)))
def ag5:Ku.map told=some (Zk,[]):=by kernel_rfl
def az8:tree (ab Ku)=Zk:=aU ag5
def Js:Option PC:=cF [4,5,6,7,8,9,10,11,12,13] [] Tryz.f79 79 []
def Xj:PT:=
 (.chk CO
 (.ret (.tup [(.ai .add .u64 (.ai .add .u64 (.ai .mul .u64 u9 (.ai .shr .u64 r1 wH)) (.ai .shr .u64 ahU wH)) (.ai .shr .u64 (.ai .add .u64 (.ai .and .u64 ahU zu) (.ai .mul .u64 (.ai .and .u64 r0 zu) (.ai .shr .u64 r1 wH))) wH)),(.ai .mul .u64 r0 r1)])))
def afU:Js.map told=some (Xj,[]):=by kernel_rfl
def aya:tree (ab Js)=Xj:=aU afU
def Bc:Option PC:=cF [2,3,5,8] [] Tryz.f203 203 [6]
def Ee:Nat->PC:=bm Bc
def atO:PC:=.block 0 [3,11,12] [] (.loop [3,11] [] (b 0))
def atP:PC:=.block 2 [6,27,28] [6] (.loop [6,27] [6] (b 1))
def NO (b:Nat->PC):PT:=
 (.ite (aj bQ dy)
 (.chk (aq r9 bQ)
 (.ite (aj (aE r3 (.llen (pn r9 bQ))) (pi 0))
 (.chk (.nt pT)
 (.chk (.nt pT)
 (.next ⟨[(3,(aE r3 (.llen (pn r9 bQ)))),(11,(aE bQ (pi 1)))],[]⟩)))
 (.next ⟨[(3,(aE r3 (.llen (pn r9 bQ)))),(11,(aE bQ (pi 1)))],[]⟩)))
 (.exit 0 ⟨[(12,(aj bQ dy))],[]⟩))
def NP (b:Nat->PC):PT:=
 (.ite (aj eL mm)
 (.chk (aq kF eL)
 (.chk (bI (.llen (.app o6 (pn kF eL))) cQ)
 (.next ⟨[(6,pN),(27,(aE eL (pi 1)))],[(6,(.app o6 (pn kF eL)))]⟩)))
 (.exit 2 ⟨[(28,(aj eL mm))],[]⟩))
def YI:PT:=
 (.brk ⟨[(11,(pi 0)),(10,(.llen r0)),(9,r0),(3,(pi 0))],[]⟩
(atO b)
 (.call ⟨[],[]⟩ [] 24 214 [pL,r3]
 (.brk ⟨[(27,(pi 0)),(26,(.llen r0)),(25,r0),(6,pN)],[(6,oN)]⟩
(atP b)
 (.ret o6))))
def aoG:PT×List (Shp×PT):=(YI b,[(.lp 0 [3,11,12] [] [3,11] [],NO b),(.lp 2 [6,27,28] [6] [6,27] [6],NP b)])
def MF:Bc.map told=some (aoG (bp Bc)):=by kernel_rfl
def azG:tree (ab Bc)=YI Ee:=bF MF
def aiE:round 0 [3,11,12] [] [3,11] [] (Ee 0)=NO Ee:=bk MF 0 λ_=>rfl
def aiF:round 2 [6,27,28] [6] [6,27] [6] (Ee 1)=NP Ee:=bk MF 1 λ_=>rfl
def Ji:Option PC:=cF [2,3,7,12] [] Tryz.f65 65 [1]
def W7:PT:=
 (.ite (aJ (pc (.mk [r0]) 4) (pi 0))
 (.ret (pi 0))
 (.ite (.nt jY)
 (.ret (pi 2))
 (.ite (aJ mh (pi 0))
 (.ret (pi 1))
 (.ret (pi 0)))))
def afK:Ji.map told=some (W7,[]):=by kernel_rfl
def axW:tree (ab Ji)=W7:=aU afK
def Jg:Option PC:=cF [8,9,10,11] [] Tryz.f13 13 [4,6]
def W5:PT:=
 (.call ⟨[],[(6,(.mk [r2])),(4,(.mk [r0]))]⟩ [] 14 34 [GQ,r3]
 (.ite (peq (.llen (pc (.setc o6 0 cm) 15)) (pi 0))
 (.ret (pi (-1)))
 (.call ⟨[],[(6,(.setc o6 0 cm))]⟩ [] 23 36 [(aB 8 o4),r1,(pi 6),(aB 19 (.setc o6 0 cm)),r3]
 (.call ⟨[],[]⟩ [] 24 35 [gE]
 (.call ⟨[(29,(aB 15 o6)),(27,(aB 8 o4)),(9,(.mx oN (pi 0)))],[]⟩ [] 31 38 [(aB 19 o6)]
 (.call ⟨[],[]⟩ [] 33 37 [eL,nl,rX,r9]
 (.ite (aJ (.tget tF 1) (pi 0))
 (.ret (pi (-1)))
 (.ret (.tget tF 0)))))))))
def afI:Jg.map told=some (W5,[]):=by kernel_rfl
def axU:tree (ab Jg)=W5:=aU afI
def Jh:Option PC:=cF [2] [] Tryz.f35 35 [1]
def W6:PT:=
 (.ite (.pick (aJ (pc (.mk [r0]) 4) (pi 0)) pT (.nt jY))
 (.ret (pi (-1)))
 (.ret mh))
def afJ:Jh.map told=some (W6,[]):=by kernel_rfl
def axV:tree (ab Jh)=W6:=aU afJ
def Ba:Option PC:=cF [2,4] [] Tryz.f38 38 [1,3,6,8]
def Ec:Nat->PC:=bm Ba
def atM:PC:=.block 0 [3,16,17] [3] (.loop [3,16] [3] (b 0))
def atN:PC:=.block 2 [2,3,36,37] [3] (.loop [2,3,36] [3] (b 1))
def HR (b:Nat->PC):PT:=
 (.ite (aj cv dg)
 (.chk (aq cm cv)
 (.ite (.pick (peq r4 (pi 1)) (peq (pc (.setc z9 0 ml) 0) (pi 1)) pF)
 (.chk (bI (.llen (.app o3 (.lst [(pc (.setc z9 0 ml) 6)]))) cQ)
 (.next ⟨[(3,pN),(16,(aE cv (pi 1)))],[(3,(.app o3 (.lst [(pc (.setc z9 0 ml) 6)])))]⟩))
 (.next ⟨[(16,(aE cv (pi 1)))],[]⟩)))
 (.exit 0 ⟨[(17,(aj cv dg))],[]⟩))
def zF (b:Nat->PC):PT:=
 (.ite (aj lb rY)
 (.chk (aq G1 lb)
 (.ite (.pick (peq r4 (pi 0)) (peq (pc GM 0) (pi 2)) pF)
 (.ret (pc GM 6))
 (.ite (.pick (peq r4 (pi 1)) (peq (pc GM 0) (pi 1)) pF)
 (.chk (bI (.llen (.app o3 (.lst [(pc GM 6)]))) cQ)
 (.next ⟨[(3,pN),(36,(aE lb (pi 1)))],[(3,(.app o3 (.lst [(pc GM 6)])))]⟩))
 (.next ⟨[(36,(aE lb (pi 1)))],[]⟩))))
 (.exit 2 ⟨[(37,(aj lb rY))],[]⟩))
def YD:PT:=
 (.brk ⟨[(16,(pi 0)),(15,(.llen rS)),(14,rS),(4,wJ),(3,pN),(2,(pi 0))],[(3,pL),(1,(.mk [r0]))]⟩
(atM b)
 (.brk ⟨[(36,(pi 0)),(35,(.llen (pc o1 17))),(34,(pc o1 17))],[]⟩
(atN b)
 (.ite (peq (.llen o3) (pi 0))
 (.ret (pi (-1)))
 (.call ⟨[],[]⟩ [] 66 78 [o3]
 (.ret r66)))))
def aoE:PT×List (Shp×PT):=(YD b,[(.lp 0 [3,16,17] [3] [3,16] [3],HR b),(.lp 2 [2,3,36,37] [3] [2,3,36] [3],zF b)])
def MD:Ba.map told=some (aoE (bp Ba)):=by kernel_rfl
def azB:tree (ab Ba)=YD Ec:=bF MD
def V8:round 0 [3,16,17] [3] [3,16] [3] (Ec 0)=HR Ec:=bk MD 0 λ_=>rfl
def HT:round 2 [2,3,36,37] [3] [2,3,36] [3] (Ec 1)=zF Ec:=bk MD 1 λ_=>rfl
def Bj:Option PC:=cF [2,3,4] [] Tryz.f78 78 []
def P9:Nat->PC:=bm Bj
def ae2:PC:=.block 0 [3,4,12,13,14,15] [] (.loop [3,4] [] (b 0))
def NQ (b:Nat->PC):PT:=
 (.ite (aj r4 (.llen r0))
 (.chk (aq r0 r4)
 (.next ⟨[(3,(.mn r3 (pn r0 r4))),(4,(aE r4 (pi 1)))],[]⟩))
 (.exit 0 ⟨[(12,r4),(13,r0),(14,(.llen r0)),(15,(aj r4 (.llen r0)))],[]⟩))
def YU:PT:=
 (.ite (aj (.llen r0) (pi 1))
 (.chk (.nt pT)
 (.chk (.nt pT)
 (.chk (aq r0 (pi 0))
 (.brk ⟨[(4,(pi 1)),(3,(pn r0 (pi 0)))],[]⟩
(ae2 b)
 (.ret r3)))))
 (.chk (aq r0 (pi 0))
 (.brk ⟨[(4,(pi 1)),(3,(pn r0 (pi 0)))],[]⟩
(ae2 b)
 (.ret r3))))
def aoN:PT×List (Shp×PT):=(YU b,[(.lp 0 [3,4,12,13,14,15] [] [3,4] [],NQ b)])
def Un:Bj.map told=some (aoN (bp Bj)):=by kernel_rfl
def azS:tree (ab Bj)=YU P9:=bF Un
def aiG:round 0 [3,4,12,13,14,15] [] [3,4] [] (P9 0)=NQ P9:=bk Un 0 λ_=>rfl
def Et:Option PC:=cF [8,9,15,39,58,74,11,12] [] Tryz.f37 37 [4,5,10]
def Is:PT:=
 (.blockS ⟨[],[(10,(.setc z3 0 (.mk [(pc (.mk [r1]) 5),(pc (.mk [r1]) 6),(pc (.mk [r1]) 7)]))),(5,(.mk [r1])),(4,(.mk [r0]))]⟩ 0 [8,9,15,16,17,18,19,25,26,32,33,38,39,40,41,42,43,47,48,52,53,57,58,59,60,61,65,66,69,70,73,74,75,76,77,80] []
 (.call ⟨[],[]⟩ [] 17 72 [(aB 8 o4)]
 (.call ⟨[(19,(aJ dz (pi 0)))],[]⟩ [(19,false)] 23 73 [(aB 8 o4),(pc o5 9)]
 (.call ⟨[(26,(.pick ji pT (.nt gE)))],[]⟩ [(26,false)] 30 73 [(aB 8 o4),(pc o5 10)]
 (.call ⟨[(33,(.pick mm pT (.nt qo)))],[]⟩ [(33,false)] 36 74 [(pc o5 8)]
 (.iteS ⟨[],[]⟩ (.pick tF pT (.nt lb)) [8,9,39,40,41,42,43,47,48,52,53,57,58,59,60,61,65,66,69,70,73,74,75,76,77,80] []
 (.ret (.tup [(pi 0),(pi 1)]))
 (.iteS ⟨[],[]⟩ (.pick (.pick (.pick (aj (pc cg 0) (pi 0)) pT (bh (pc cg 0) (pi 5))) pT (aj (pc cg 2) (pi 0))) pT (bh (pc cg 2) (pi 2))) [8,9,58,59,60,61,65,66,69,70,73,74,75,76,77,80] []
 (.ret (.tup [(pi 0),(pi 1)]))
 (.call ⟨[(61,(aJ r2 (pi (-1))))],[]⟩ [(61,true)] 63 74 [r2]
 (.iteS ⟨[],[]⟩ (.pick (.pick (.pick G4 (.nt Nq) pF) pT (aj r3 (pi 0))) pT (aV r3 (pi 20000))) [8,9,74,75,76,77,80] []
 (.ret (.tup [(pi 0),(pi 1)]))
 (.call ⟨[],[]⟩ [] 76 75 [(.mk [(pc cg 0),(pc cg 1),(pc cg 2)])]
 (.ite (.pick vc (peq r2 (pi (-1))) pF)
 (.ret (.tup [(pi 0),(pi 4)]))
 (.next ⟨[],[]⟩)))
 (.next ⟨[],[]⟩)))
 (.next ⟨[],[]⟩))
 (.next ⟨[],[]⟩))))))
 (.call ⟨[],[]⟩ [] 85 76 [(aB 8 o4),(aB 15 o5),r2]
 (.ite (aJ (.tget G7 1) (pi 0))
 (.ret (.tup [(pi 0),(.tget G7 1)]))
 (.call ⟨[(11,(.tget G7 0))],[]⟩ [] 92 74 [(.tget G7 0)]
 (.ite (.pick (.nt Vp) pT (aV (aE bQ r3) (pi 100000)))
 (.ret (.tup [(pi 0),(pi 3)]))
 (.call ⟨[],[]⟩ [] 106 77 [(aB 8 o4),(pc o5 10),(aE bQ r3)]
 (.ret (.tup [(.tget Nn 0),(.tget Nn 1)]))))))))
def agR:Et.map told=some (Is,[]):=by kernel_rfl
def YV:tree (ab Et)=Is:=aU agR
def AZ:Option PC:=cF [2,3,4,5,6,7,10,11,12] [] Tryz.f72 72 [1,9]
def PW:Nat->PC:=bm AZ
def atq:PC:=.block 0 [2,38,39] [] (.loop [2,38] [] (b 0))
def Hz (b:Nat->PC):PT:=
 (.ite (aj jE mq)
 (.blockS ⟨[],[]⟩ 1 [2,9,40,41,42,43,44,45] [9]
 (.chk (aq lb jE)
 (.call ⟨[],[]⟩ [] 44 116 [(pc (.setc GO 0 (pn lb jE)) 0),(pi 10)]
 (.ite (.nt wM)
 (.ret (pi 1))
 (.next ⟨[],[]⟩))))
 (.next ⟨[(38,(aE jE (pi 1)))],[]⟩))
 (.exit 0 ⟨[(39,(aj jE mq))],[]⟩))
def Yl:PT:=
 (.call ⟨[(2,(pi 0))],[(1,(.mk [r0]))]⟩ [] 15 111 [jX]
 (.call ⟨[(5,(.tget dg 2)),(4,(.tget dg 1)),(3,(.tget dg 0))],[]⟩ [] 21 112 [(pc o1 0),(pi 8),(.con (.clo 113 []))]
 (.ite (aJ iK (pi 0))
 (.ret iK)
 (.call ⟨[],[(1,(aB 8 o1))]⟩ [] 27 112 [r3,(pi 40),(.clo 114 [(.ref (aB 8 o1))])]
 (.ite (aJ eL (pi 0))
 (.ret eL)
 (.ite (aV tC (pi 20))
 (.ret (pi 6))
 (.brk ⟨[(38,(pi 0)),(37,tC),(36,(pc o1 2))],[]⟩
(atq b)
 (.call ⟨[],[]⟩ [] 49 112 [r4,(pi 200),(.clo 117 [(.ref o1)])]
 (.ite (aJ oO (pi 0))
 (.ret oO)
 (.call ⟨[],[]⟩ [] 55 112 [r5,(pi 20),(.clo 118 [(.ref o1)])]
 (.ite (aJ C0 (pi 0))
 (.ret C0)
 (.call ⟨[],[]⟩ [] 60 120 [(.sub o1 0 8)]
 (.ite (aJ G3 (pi 0))
 (.ret G3)
 (.call ⟨[],[]⟩ [] 65 121 [(.sub o1 0 8)]
 (.ret C1)))))))))))))))
def aos:PT×List (Shp×PT):=(Yl b,[(.lp 0 [2,38,39] [] [2,38] [],Hz b)])
def Ua:AZ.map told=some (aos (bp AZ)):=by kernel_rfl
def azn:tree (ab AZ)=Yl PW:=bF Ua
def VV:round 0 [2,38,39] [] [2,38] [] (PW 0)=Hz PW:=bk Ua 0 λ_=>rfl
def A3:Option PC:=cF [] [] Tryz.f111 111 [1,2,3,4,6,16390,20486,24582,21,8,34,10,12298,16394,47]
def xQ:Nat->PC:=bm A3
def atv:PC:=.block 0 [2,14,15] [2] (.loop [2,14] [2] (b 0))
def atw:PC:=.block 2 [3,27,28] [3] (.loop [3,27] [3] (b 1))
def atx:PC:=.block 4 [4,40,41] [4] (.loop [4,40] [4] (b 2))
def NJ (b:Nat->PC):PT:=
 (.ite rV
 (.chk (aq cj cm)
 (.chk (bI (.llen ahV) cQ)
 (.next ⟨[(2,pN),(14,(aE cm (pi 1)))],[(2,ahV)]⟩)))
 (.exit 0 ⟨[(15,rV)],[]⟩))
def NK (b:Nat->PC):PT:=
 (.ite (aj eL mm)
 (.chk (aq kF eL)
 (.chk (bI (.llen ah0) cQ)
 (.next ⟨[(3,pN),(27,(aE eL (pi 1)))],[(3,ah0)]⟩)))
 (.exit 2 ⟨[(28,(aj eL mm))],[]⟩))
def NL (b:Nat->PC):PT:=
 (.ite (aj qs qp)
 (.chk (aq jE qs)
 (.chk (bI (.llen ahW) cQ)
 (.next ⟨[(4,pN),(40,(aE qs (pi 1)))],[(4,ahW)]⟩)))
 (.exit 4 ⟨[(41,(aj qs qp))],[]⟩))
def Yw:PT:=
 (.brk ⟨[(14,(pi 0)),(13,(.llen mh)),(12,mh),(4,pN),(3,pN),(2,pN)],[(4,pL),(3,pL),(2,pL),(1,(.mk [r0]))]⟩
(atv b)
 (.brk ⟨[(27,(pi 0)),(26,oL),(25,(pc o1 3))],[]⟩
(atw b)
 (.brk ⟨[(40,(pi 0)),(39,qm),(38,(pc o1 4))],[]⟩
(atx b)
 (.ret (.tup [o2,o3,o4])))))
def aox:PT×List (Shp×PT):=(Yw b,[(.lp 0 [2,14,15] [2] [2,14] [2],NJ b),(.lp 2 [3,27,28] [3] [3,27] [3],NK b),(.lp 4 [4,40,41] [4] [4,40] [4],NL b)])
def GB:A3.map told=some (aox (bp A3)):=by kernel_rfl
def azu:tree (ab A3)=Yw xQ:=bF GB
def aiA:round 0 [2,14,15] [2] [2,14] [2] (xQ 0)=NJ xQ:=bk GB 0 λ_=>rfl
def aiB:round 2 [3,27,28] [3] [3,27] [3] (xQ 1)=NK xQ:=bk GB 1 λ_=>rfl
def aiC:round 4 [4,40,41] [4] [4,40] [4] (xQ 2)=NL xQ:=bk GB 2 λ_=>rfl
def A1:Option PC:=cF [6,7,8] [] Tryz.f112 112 []
def PZ:Nat->PC:=bm A1
def att:PC:=.block 0 [6,15,16] [] (.loop [6,15] [] (b 0))
def HC (b:Nat->PC):PT:=
 (.ite (aj dg cm)
 (.blockS ⟨[],[]⟩ 1 [6,7,8,17,18,19,20,21,22,24,25,26,27] []
 (.call ⟨[(7,dg)],[]⟩ [] 20 162 [r0,dg]
 (.ite (aJ fc (pi 0))
 (.ret fc)
 (.callc ⟨[],[]⟩ [] 26 r2 [r7]
 (.ite (.nt mm)
 (.ret (pi 1))
 (.next ⟨[],[]⟩)))))
 (.next ⟨[(15,(aE dg (pi 1)))],[]⟩))
 (.exit 0 ⟨[(16,(aj dg cm))],[]⟩))
def Ys:PT:=
 (.ite (aV (.llen r0) r1)
 (.ret (pi 6))
 (.brk ⟨[(15,(pi 0)),(14,(.llen r0)),(6,(pi 0))],[]⟩
(att b)
 (.ret (pi 0))))
def aov:PT×List (Shp×PT):=(Ys b,[(.lp 0 [6,15,16] [] [6,15] [],HC b)])
def Ud:A1.map told=some (aov (bp A1)):=by kernel_rfl
def azq:tree (ab A1)=Ys PZ:=bF Ud
def VX:round 0 [6,15,16] [] [6,15] [] (PZ 0)=HC PZ:=bk Ud 0 λ_=>rfl
def J9:Option PC:=cF [4] [] Tryz.f162 162 []
def Yv:PT:=
 (.chk (aq r0 r1)
 (.call ⟨[],[]⟩ [] 9 183 [(pn r0 r1)]
 (.ite (.nt r9)
 (.ret (pi 2))
 (.chk (.slok r0 (pi 0) r1)
 (.chk (aq r0 r1)
 (.call ⟨[],[]⟩ [] 18 184 [(.slc r0 (pi 0) r1),(pn r0 r1)]
 (.ite cO
 (.ret (pi 5))
 (.ret (pi 0)))))))))
def agI:J9.map told=some (Yv,[]):=by kernel_rfl
def azt:tree (ab J9)=Yv:=aU agI
def A2:Option PC:=cF [2,3,4,5] [] Tryz.f183 183 []
def P0:Nat->PC:=bm A2
def atu:PC:=.block 0 [2,16,17] [] (.loop [2,16] [] (b 0))
def HE (b:Nat->PC):PT:=
 (.ite (aj cv dg)
 (.chk (aq cm cv)
 (.ite (.pick (.nt (.pick (.pick (bh ml (.con (.v (.int .u8 97)))) (bI ml (.con (.v (.int .u8 122)))) pF) pT (.pick (bh ml (.con (.v (.int .u8 65)))) (bI ml (.con (.v (.int .u8 90)))) pF))) (.pick (peq cv (pi 0)) pT (.pick (aJ ml (.con (.v (.int .u8 95)))) (.pick (aj ml (.con (.v (.int .u8 48)))) pT (aV ml (.con (.v (.int .u8 57))))) pF)) pF)
 (.ret pF)
 (.next ⟨[(16,(aE cv (pi 1)))],[]⟩)))
 (.exit 0 ⟨[(17,(aj cv dg))],[]⟩))
def Yu:PT:=
 (.ite (.pick (.cs .eql r0 (.con (.v (.string ⟨#[]⟩)))) pT (aV (.slen r0) (pi 20)))
 (.ret pF)
 (.chk (bI (.slen r0) cQ)
 (.brk ⟨[(16,(pi 0)),(15,(.llen (.bytes r0))),(14,(.bytes r0)),(2,pF)],[]⟩
(atu b)
 (.ret pT))))
def aow:PT×List (Shp×PT):=(Yu b,[(.lp 0 [2,16,17] [] [2,16] [],HE b)])
def Ue:A2.map told=some (aow (bp A2)):=by kernel_rfl
def azs:tree (ab A2)=Yu P0:=bF Ue
def VY:round 0 [2,16,17] [] [2,16] [] (P0 0)=HE P0:=bk Ue 0 λ_=>rfl
def Kh:Option PC:=cF [4] [] Tryz.f184 184 []
def YN:PT:=
 (.call ⟨[],[]⟩ [] 7 204 [r0,r1]
 (.ret (bh r7 (pi 0))))
def agQ:Kh.map told=some (YN,[]):=by kernel_rfl
def azL:tree (ab Kh)=YN:=aU agQ
def Bi:Option PC:=cF [4,5] [] Tryz.f204 204 []
def P8:Nat->PC:=bm Bi
def atX:PC:=.block 0 [4,8,9] [] (.loop [4,8] [] (b 0))
def HZ (b:Nat->PC):PT:=
 (.ite (aj r8 r7)
 (.chk (aq r0 r8)
 (.ite (.cs .eql r1 (pn r0 r8))
 (.ret r8)
 (.next ⟨[(8,va)],[]⟩)))
 (.exit 0 ⟨[(9,(aj r8 r7))],[]⟩))
def YT:PT:=
 (.brk ⟨[(8,(pi 0)),(7,(.llen r0)),(4,(pi 0))],[]⟩
(atX b)
 (.ret (pi (-1))))
def aoM:PT×List (Shp×PT):=(YT b,[(.lp 0 [4,8,9] [] [4,8] [],HZ b)])
def Um:Bi.map told=some (aoM (bp Bi)):=by kernel_rfl
def azR:tree (ab Bi)=YT P8:=bF Um
def Wg:round 0 [4,8,9] [] [4,8] [] (P8 0)=HZ P8:=bk Um 0 λ_=>rfl
def J3:Option PC:=cF [2] [] Tryz.f113 113 []
def Ym:PT:=
 (.ret pT)
def agA:J3.map told=some (Ym,[]):=by kernel_rfl
def azj:tree (ab J3)=Ym:=aU agA
def J4:Option PC:=cF [3] [] Tryz.f114 114 []
def Yn:PT:=
 (.chk (aq (pc (.deref r1) 1) r0)
 (.call ⟨[],[]⟩ [] 10 115 [(.deref r1),(pn (pc (.deref r1) 1) r0)]
 (.ret dy)))
def agC:J4.map told=some (Yn,[]):=by kernel_rfl
def azk:tree (ab J4)=Yn:=aU agC
def A0:Option PC:=cF [4,6] [] Tryz.f115 115 [2,3]
def PY:Nat->PC:=bm A0
def ats:PC:=.block 0 [4,10,11] [] (.loop [4,10] [] (b 0))
def HA (b:Nat->PC):PT:=
 (.ite (aj dy r9)
 (.chk (aq r8 dy)
 (.chk CN
 (.chk (.nt (.an (.an (.nt (aj U5 (pi 1))) pT) (.nt CN)))
 (.ite (.pick (aj U5 (pi 1)) pT (aV U5 (pi 31)))
 (.ret pF)
 (.next ⟨[(10,(aE dy (pi 1)))],[]⟩)))))
 (.exit 0 ⟨[(11,(aj dy r9))],[]⟩))
def Yr:PT:=
 (.brk ⟨[(10,(pi 0)),(9,(.llen (pc (.mk [r1]) 4))),(8,(pc (.mk [r1]) 4)),(4,pF)],[(3,(.mk [r1])),(2,(.mk [r0]))]⟩
(ats b)
 (.call ⟨[(33,(.pick (aV (.llen (pc o3 4)) (pi 60)) pT (aV (.llen (pc o3 5)) (pi 200))))],[]⟩ [(33,false)] 39 116 [(pc o3 1),(.llen (pc o2 4))]
 (.call ⟨[(42,(.pick tF pT (.nt qp)))],[]⟩ [(42,false)] 48 116 [(pc o3 2),(.llen (pc o2 0))]
 (.ite (.pick r42 pT (.nt jZ))
 (.ret pF)
 (.call ⟨[],[]⟩ [] 53 163 [(pc o3 3),(pi 0),(pi 6)]
 (.call ⟨[(54,Vm)],[]⟩ [(54,true)] 57 163 [(pc o3 4),(pi 101),(pi 1231)]
 (.call ⟨[(59,(.pick mu Np pF))],[]⟩ [(59,true)] 62 163 [(pc o3 5),(pi 0),(pi 100000)]
 (.ret (.pick r59 oP pF)))))))))
def aou:PT×List (Shp×PT):=(Yr b,[(.lp 0 [4,10,11] [] [4,10] [],HA b)])
def Uc:A0.map told=some (aou (bp A0)):=by kernel_rfl
def azp:tree (ab A0)=Yr PY:=bF Uc
def VW:round 0 [4,10,11] [] [4,10] [] (PY 0)=HA PY:=bk Uc 0 λ_=>rfl
def A6:Option PC:=cF [6,7,8] [] Tryz.f163 163 []
def P1:Nat->PC:=bm A6
def atD:PC:=.block 0 [6,11,12] [] (.loop [6,11] [] (b 0))
def wQ (b:Nat->PC):PT:=
 (.ite (aj bQ dy)
 (.chk (aq r9 bQ)
 (.chk (.nt (.an (.an (aV bQ (pi 0)) (.an (.nt (.pick (aj (pn r9 bQ) r1) pT (aV (pn r9 bQ) r2))) pT)) (.nt (aq r0 (bo bQ (pi 1))))))
 (.ite (.pick (.pick (aj (pn r9 bQ) r1) pT (aV (pn r9 bQ) r2)) pT (.pick (aV bQ (pi 0)) (bI (pn r9 bQ) (pn r0 (bo bQ (pi 1)))) pF))
 (.ret pF)
 (.next ⟨[(11,(aE bQ (pi 1)))],[]⟩))))
 (.exit 0 ⟨[(12,(aj bQ dy))],[]⟩))
def Yz:PT:=
 (.brk ⟨[(11,(pi 0)),(10,(.llen r0)),(9,r0),(6,pF)],[]⟩
(atD b)
 (.ret pT))
def aoA:PT×List (Shp×PT):=(Yz b,[(.lp 0 [6,11,12] [] [6,11] [],wQ b)])
def Uf:A6.map told=some (aoA (bp A6)):=by kernel_rfl
def azx:tree (ab A6)=Yz P1:=bF Uf
def C6:round 0 [6,11,12] [] [6,11] [] (P1 0)=wQ P1:=bk Uf 0 λ_=>rfl
def J5:Option PC:=cF [3] [] Tryz.f117 117 []
def Yo:PT:=
 (.chk (aq (pc (.deref r1) 3) r0)
 (.call ⟨[],[]⟩ [] 13 116 [(pc (pn (pc (.deref r1) 3) r0) 1),(.llen (pc (.deref r1) 1))]
 (.chk (.nt (.an (.an dN pT) (.nt (aq (pc (.deref r1) 3) r0))))
 (.call ⟨[(14,dN)],[]⟩ [(14,true)] 24 116 [(pc (pn (pc (.deref r1) 3) r0) 2),(.llen (pc (.deref r1) 2))]
 (.ret (.pick cm oN pF))))))
def agD:J5.map told=some (Yo,[]):=by kernel_rfl
def azl:tree (ab J5)=Yo:=aU agD
def J6:Option PC:=cF [3] [] Tryz.f118 118 []
def Yp:PT:=
 (.chk (aq (pc (.deref r1) 4) r0)
 (.call ⟨[],[]⟩ [] 9 119 [(pn (pc (.deref r1) 4) r0)]
 (.ret r9)))
def agF:J6.map told=some (Yp,[]):=by kernel_rfl
def azm:tree (ab J6)=Yp:=aU agF
def A4:Option PC:=cF [2] [] Tryz.f119 119 [1,3,4,6,19,8,16392,36]
def D9:Nat->PC:=bm A4
def aty:PC:=.block 0 [2,3,12,13] [3] (.loop [2,3,12] [3] (b 0))
def atz:PC:=.block 2 [4,29,30] [4] (.loop [4,29] [4] (b 1))
def HF (b:Nat->PC):PT:=
 (.ite wG
 (.blockS ⟨[],[]⟩ 1 [2,3,6,14,15,17,18,19,20,21,22,23,24] [6,19,3]
 (.chk (aq dy cj)
 (.chk (bI (.llen (.app o3 (.lst [(pc (.setc M8 0 qn) 0)]))) cQ)
 (.call ⟨[(3,pN)],[(3,(.app o3 (.lst [(pc (.setc M8 0 qn) 0)])))]⟩ [] 23 116 [(pc (.setc M8 0 qn) 1),(pi 5)]
 (.ite (.nt gE)
 (.ret pF)
 (.next ⟨[],[]⟩)))))
 (.next ⟨[(12,CP)],[]⟩))
 (.exit 0 ⟨[(13,wG)],[]⟩))
def NM (b:Nat->PC):PT:=
 (.ite (aj nl tD)
 (.chk (aq eL nl)
 (.chk (bI (.llen ah1) cQ)
 (.next ⟨[(4,pN),(29,(aE nl (pi 1)))],[(4,ah1)]⟩)))
 (.exit 2 ⟨[(30,(aj nl tD))],[]⟩))
def Yx:PT:=
 (.brk ⟨[(12,(pi 0)),(11,rW),(10,zy),(4,pN),(3,pN),(2,pF)],[(4,pL),(3,pL),(1,(.mk [r0]))]⟩
(aty b)
 (.brk ⟨[(29,(pi 0)),(28,oL),(27,(pc o1 3))],[]⟩
(atz b)
 (.call ⟨[],[]⟩ [] 40 163 [o3,(pi 0),(pi 21)]
 (.call ⟨[(41,qs)],[]⟩ [(41,true)] 43 163 [o4,(pi 0),(pi 21)]
 (.ret (.pick tG vb pF))))))
def aoy:PT×List (Shp×PT):=(Yx b,[(.lp 0 [2,3,12,13] [3] [2,3,12] [3],HF b),(.lp 2 [4,29,30] [4] [4,29] [4],NM b)])
def MA:A4.map told=some (aoy (bp A4)):=by kernel_rfl
def azv:tree (ab A4)=Yx D9:=bF MA
def VZ:round 0 [2,3,12,13] [3] [2,3,12] [3] (D9 0)=HF D9:=bk MA 0 λ_=>rfl
def aiD:round 2 [4,29,30] [4] [4,29] [4] (D9 1)=NM D9:=bk MA 1 λ_=>rfl
def A7:Option PC:=cF [2,3] [] Tryz.f120 120 [1,4,6]
def Eb:Nat->PC:=bm A7
def atE:PC:=.block 2 [2,50,51] [] (.loop [2,50] [] (b 0))
def atG:PC:=.block 0 [2,14,15] [] (.loop [2,14] [] (b 1))
def C7 (b:Nat->PC):PT:=
 (.ite (aj nm oO)
 (.chk (aq jZ nm)
 (.ite (.pick (peq (pc (.setc z3 0 (pn jZ nm)) 0) (pc o4 0)) (peq (pc (.setc z3 0 (pn jZ nm)) 1) (pc o4 1)) pF)
 (.ret (pi 5))
 (.next ⟨[(50,(aE nm (pi 1)))],[]⟩)))
 (.exit 2 ⟨[(51,(aj nm oO))],[]⟩))
def HJ:PT:=
 (.ite rV
 (.blockS ⟨[(15,rV)],[]⟩ 1 [2,3,4,16,17,18,19,20,21,22,23,24,25,26,34,35,39,40,44,45,46,47,48,49,50,51] [4]
 (.chk (aq cj cm)
 (.call ⟨[(3,cm)],[(4,CV)]⟩ [] 24 116 [(pc CV 0),mi]
 (.call ⟨[(26,(.nt oN))],[]⟩ [(26,false)] 32 116 [(pc o4 1),mi]
 (.ite (.pick (.pick (.pick mm pT (.nt wL)) pT (aj (pc o4 2) (pi 1))) pT (aV (pc o4 2) (pi 20000)))
 (.ret (pi 1))
 (.chk (.slok (pc o1 5) (pi 0) r3)
 (.brk ⟨[(50,(pi 0)),(49,(.llen (.slc (pc o1 5) (pi 0) r3))),(48,(.slc (pc o1 5) (pi 0) r3))],[]⟩
(atE b)
 (.next ⟨[],[]⟩)))))))
 (.next ⟨[(14,(aE cm (pi 1)))],[]⟩))
 (.exit 0 ⟨[(15,rV)],[]⟩))
def YA:PT:=
 (.ite (aV (.llen wJ) (pi 100))
 (.ret (pi 6))
 (.brk ⟨[(14,(pi 0)),(13,(.llen wJ)),(12,wJ),(2,(pi 0))],[(1,(.mk [r0]))]⟩
(atG b)
 (.ret (pi 0))))
def aoB:PT×List (Shp×PT):=(YA b,[(.lp 2 [2,50,51] [] [2,50] [],C7 b),(.lp 0 [2,14,15] [] [2,14] [],HJ b)])
def MC:A7.map told=some (aoB (bp A7)):=by kernel_rfl
def azy:tree (ab A7)=YA Eb:=bF MC
def NN:round 2 [2,50,51] [] [2,50] [] (Eb 0)=C7 Eb:=bk MC 0 λ_=>rfl
def V2:round 0 [2,14,15] [] [2,14] [] (Eb 1)=HJ Eb:=bk MC 1 λ_=>rfl
def A5:Option PC:=cF [2] [] Tryz.f121 121 [1,4,6]
def Ea:Nat->PC:=bm A5
def atA:PC:=.block 0 [2,14,15] [] (.loop [2,14] [] (b 0))
def atC:PC:=.block 2 [2,69,70] [] (.loop [2,69] [] (b 1))
def HG (b:Nat->PC):PT:=
 (.ite rV
 (.blockS ⟨[],[]⟩ 1 [2,4,16,17,18,19,20,21,22,23,24,25,33,34,40,41,47,48,54,55,60] [4]
 (.chk (aq cj cm)
 (.call ⟨[],[(4,(.setc z5 0 (pn cj cm)))]⟩ [] 23 116 [(pc (.setc z5 0 (pn cj cm)) 0),wK]
 (.call ⟨[(25,(.nt gE))],[]⟩ [(25,false)] 31 116 [(pc o4 1),wK]
 (.call ⟨[(41,(.pick (.pick kF pT (.nt rX)) pT (peq (pc o4 0) (pc o4 1))))],[]⟩ [(41,false)] 45 116 [(bo (pc o4 2) (pi 1)),(pi 1073741824)]
 (.call ⟨[(48,(.pick tG pT (.nt rZ)))],[]⟩ [(48,false)] 52 116 [(bo (pc o4 3) (pi 1)),(pi 1073741824)]
 (.call ⟨[(55,(.pick jZ pT (.nt CZ)))],[]⟩ [(55,false)] 58 116 [(pc o4 4),(pi 100001)]
 (.ite (.pick C0 pT (.nt G2))
 (.ret (pi 1))
 (.next ⟨[],[]⟩))))))))
 (.next ⟨[(14,(aE cm (pi 1)))],[]⟩))
 (.exit 0 ⟨[(15,rV)],[]⟩))
def HI (b:Nat->PC):PT:=
 (.ite (aj zA r68)
 (.blockS ⟨[],[]⟩ 3 [2,6,71,72,73,74,75,76,77,78,79,80,84,85,91,92,96] [6]
 (.chk (aq wN zA)
 (.call ⟨[],[(6,(.setc z3 0 (pn wN zA)))]⟩ [] 78 116 [(pc (.setc z3 0 (pn wN zA)) 0),qm]
 (.ite (.pick (.pick (.pick (.nt r78) pT (aj (pc o6 1) (pi 0))) pT (aV (pc o6 1) (pc o6 2))) pT (aV (pc o6 2) (pi 100000)))
 (.ret (pi 1))
 (.next ⟨[],[]⟩))))
 (.next ⟨[(69,(aE zA (pi 1)))],[]⟩))
 (.exit 2 ⟨[(70,(aj zA r68))],[]⟩))
def Yy:PT:=
 (.ite (aV (.llen (pc (.mk [r0]) 6)) (pi 100))
 (.ret (pi 6))
 (.brk ⟨[(14,(pi 0)),(13,(.llen (pc (.mk [r0]) 6))),(12,(pc (.mk [r0]) 6)),(2,(pi 0))],[(1,(.mk [r0]))]⟩
(atA b)
 (.ite (aV zr (pi 20))
 (.ret (pi 6))
 (.brk ⟨[(69,(pi 0)),(68,zr),(67,(pc o1 7))],[]⟩
(atC b)
 (.ret (pi 0))))))
def aoz:PT×List (Shp×PT):=(Yy b,[(.lp 0 [2,14,15] [] [2,14] [],HG b),(.lp 2 [2,69,70] [] [2,69] [],HI b)])
def MB:A5.map told=some (aoz (bp A5)):=by kernel_rfl
def azw:tree (ab A5)=Yy Ea:=bF MB
def V0:round 0 [2,14,15] [] [2,14] [] (Ea 0)=HG Ea:=bk MB 0 λ_=>rfl
def V1:round 2 [2,69,70] [] [2,69] [] (Ea 1)=HI Ea:=bk MB 1 λ_=>rfl
def Kj:Option PC:=cF [4] [] Tryz.f73 73 [2]
def YX:PT:=
 (.ret (.pick (bh r1 (pi 0)) (aj r1 (.llen mh)) pF))
def agV:Kj.map told=some (YX,[]):=by kernel_rfl
def azU:tree (ab Kj)=YX:=aU agV
def Kk:Option PC:=cF [2] [] Tryz.f74 74 []
def YY:PT:=
 (.ret (.pick (bh r0 (pi 0)) (bI r0 (pi 100000)) pF))
def agW:Kk.map told=some (YY,[]):=by kernel_rfl
def azV:tree (ab Kk)=YY:=aU agW
def Ki:Option PC:=cF [2] [] Tryz.f75 75 [1]
def YW:PT:=
 (.ret (.pick (peq jY (pi 0)) pT (peq jY (pi 1))))
def agS:Ki.map told=some (YW,[]):=by kernel_rfl
def azT:tree (ab Ki)=YW:=aU agS
def Ev:Option PC:=cF [6,7,13,16,24,33,8,9] [] Tryz.f76 76 [3,4]
def oX:PT:=
 (.blockS ⟨[(12,(pc (.mk [r1]) 5))],[(4,(.mk [r1])),(3,(.mk [r0]))]⟩ 0 [6,7,13,14,16,17,24,25,33,34] []
 (.iteS ⟨[],[]⟩ (peq cj (pi 0)) [6,7,16,17,24,25,33,34] []
 (.ret (.tup [r2,(pi 0)]))
 (.iteS ⟨[],[]⟩ (peq cj (pi 1)) [6,7,24,25,33,34] []
 (.call ⟨[],[]⟩ [] 21 122 [r2,(.mk [(pc o4 5),(pc o4 6),(pc o4 7)])]
 (.ret (.tup [(.tget iK 0),(.tget iK 1)])))
 (.iteS ⟨[],[]⟩ (peq cj (pi 2)) [6,7,33,34] []
 (.call ⟨[],[]⟩ [] 30 122 [(pc o4 8),(.mk [(pc o4 5),(pc o4 6),(pc o4 7)])]
 (.ret (.tup [(.tget qo 0),(.tget qo 1)])))
 (.iteS ⟨[],[]⟩ (peq cj (pi 4)) [6,7] []
 (.call ⟨[],[]⟩ [] 41 89 [(aB 8 o3),(pc o4 9),(pc o4 10)]
 (.ret (.tup [(aE (pc o4 8) (.tget tG 0)),(.tget tG 1)])))
 (.next ⟨[],[]⟩)
 (.next ⟨[],[]⟩))
 (.next ⟨[],[]⟩))
 (.next ⟨[],[]⟩))
 (.next ⟨[],[]⟩))
 (.ret (.tup [(pc o4 6),(pi 0)])))
def agU:Ev.map told=some (oX,[]):=by kernel_rfl
def zO:tree (ab Ev)=oX:=aU agU
def Eu:Option PC:=cF [4,5] [] Tryz.f122 122 [3]
def Ds:PT:=
 (.ite (.pick (aj (pc (.mk [r1]) 1) (pi 0)) pT (aV (pc (.mk [r1]) 1) (pi 20000)))
 (.ret (.tup [(pi 0),(pi 3)]))
 (.iteS ⟨[],[(3,(.mk [r1]))]⟩ (peq (pc (.mk [r1]) 2) (pi 1)) [4,5] []
 (.call ⟨[],[]⟩ [] 20 164 [r0,(pc o3 1)]
 (.ret (.tup [(.tget fc 0),(.tget fc 1)])))
 (.next ⟨[],[]⟩)
 (.ret (.tup [(aE r0 (pc o3 1)),(pi 0)]))))
def agT:Eu.map told=some (Ds,[]):=by kernel_rfl
def OC:tree (ab Eu)=Ds:=aU agT
def Eo:Option PC:=cF [4,5,6,7,8,9] [] Tryz.f164 164 []
def Ov:PT:=
 (.call ⟨[],[]⟩ [] 11 165 [r0]
 (.ite (.pick (.pick (.nt bQ) pT (aj r1 (pi (-5000)))) pT (aV r1 (pi 5000)))
 (.ret (.tup [(pi 0),(pi 3)]))
 (.call ⟨[],[]⟩ [] 23 185 [r0]
 (.chk (aJ (pi 12) (pi 0))
 (.call ⟨[(41,(.tget gE 2)),(40,(aE (.ai .rem .i64 Nb (pi 12)) (pi 1))),(39,(.ai .quo .i64 Nb (pi 12)))],[]⟩ [] 44 187 [(.ai .quo .i64 Nb (pi 12)),(aE (.ai .rem .i64 Nb (pi 12)) (pi 1))]
 (.call ⟨[],[]⟩ [] 46 186 [qp,qs,(.mn tG wM)]
 (.ret (.tup [(.tget CX 0),(.tget CX 1)]))))))))
def afV:Eo.map told=some (Ov,[]):=by kernel_rfl
def ajv:tree (ab Eo)=Ov:=aU afV
def Jx:Option PC:=cF [2] [] Tryz.f165 165 []
def Xp:PT:=
 (.ret (.pick (bI (pi 0) r0) (bI r0 (pi 100000)) pF))
def af2:Jx.map told=some (Xp,[]):=by kernel_rfl
def ayh:tree (ab Jx)=Xp:=aU af2
def Jt:Option PC:=cF [2,3,4,5,6,7,8,9] [] Tryz.f185 185 []
def Xl:PT:=
 (.chk (aJ (pi 146097) (pi 0))
 (.chk (aJ (pi 1460) (pi 0))
 (.chk (aJ (pi 36524) (pi 0))
 (.chk (aJ (pi 146096) (pi 0))
 (.chk (aJ (pi 365) (pi 0))
 (.chk (aJ (pi 4) (pi 0))
 (.chk CN
 (.chk (aJ (pi 153) (pi 0))
 (.chk (aJ (pi 5) (pi 0))
 (.ret (.tup [(.pick (aj ahE (pi 3)) (aE ahI (pi 1)) ahI),ahE,(aE (bo (bo (.ai .rem .i64 (aE r0 (pi 730425)) (pi 146097)) (bo (aE (.ai .mul .i64 (pi 365) zw) (.ai .quo .i64 zw (pi 4))) (.ai .quo .i64 zw (pi 100)))) (.ai .quo .i64 (aE (.ai .mul .i64 (pi 153) Nk) (pi 2)) (pi 5))) (pi 1))])))))))))))
def afX:Jt.map told=some (Xl,[]):=by kernel_rfl
def ayc:tree (ab Jt)=Xl:=aU afX
def Jv:Option PC:=cF [4] [] Tryz.f187 187 []
def Ox:PT:=
 (.ite (peq r1 (pi 12))
 (.ret (pi 31))
 (.call ⟨[],[]⟩ [] 10 205 [r0,(aE r1 (pi 1)),(pi 1)]
 (.call ⟨[],[]⟩ [] 13 205 [r0,r1,(pi 1)]
 (.ret (bo dy dN)))))
def afZ:Jv.map told=some (Ox,[]):=by kernel_rfl
def ayf:tree (ab Jv)=Ox:=aU afZ
def Er:Option PC:=cF [6,0,1] [] Tryz.f205 205 []
def Oy:PT:=
 (.chk (aJ (pi 4) (pi 0))
 (.chk CN
 (.chk (aJ (pi 400) (pi 0))
 (.chk (aJ (pi 5) (pi 0))
 (.ret (bo (bo (aE (aE (aE (bo (aE (.ai .mul .i64 (pi 365) Nj) (.ai .quo .i64 Nj (pi 4))) (.ai .quo .i64 Nj (pi 100))) (.ai .quo .i64 Nj (pi 400))) (.ai .quo .i64 (aE (.ai .mul .i64 (pi 153) (bo (.pick (aj r1 (pi 3)) (aE r1 (pi 12)) r1) (pi 3))) (pi 2)) (pi 5))) r2) (pi 1)) (pi 730425)))))))
def af0:Er.map told=some (Oy,[]):=by kernel_rfl
def ajw:tree (ab Er)=Oy:=aU af0
def Ep:Option PC:=cF [6,7,8] [] Tryz.f186 186 []
def Dq:PT:=
 (.call ⟨[(28,r2),(27,(.pick (.pick (.pick (.pick (aj r0 (pi 2000)) pT (aV r0 (pi 2300))) pT (aj r1 (pi 1))) pT (aV r1 (pi 12))) pT (aj r2 (pi 1))))],[]⟩ [(27,false)] 31 187 [r0,r1]
 (.ite (.pick eL pT (aV tD rX))
 (.ret (.tup [(pi 0),(pi 3)]))
 (.call ⟨[],[]⟩ [] 37 205 [r0,r1,r2]
 (.call ⟨[(8,mq)],[]⟩ [] 39 165 [mq]
 (.ite (.nt qp)
 (.ret (.tup [(pi 0),(pi 3)]))
 (.ret (.tup [r8,(pi 0)])))))))
def afW:Ep.map told=some (Dq,[]):=by kernel_rfl
def Ow:tree (ab Ep)=Dq:=aU afW
def xY:Option PC:=cF [6,7] [] Tryz.f89 89 [3,9]
def PX:Nat->PC:=bm xY
def atr:PC:=.block 0 [6,7,13,14] [] (.loop [6,7,13] [] (b 0))
def wP (b:Nat->PC):PT:=
 (.ite (aj dN cj)
 (.chk (aq bQ dN)
 (.ite (.pick (peq (pc (.setc z3 0 (pn bQ dN)) 0) r1) (peq (pc (.setc z3 0 (pn bQ dN)) 1) r2) pF)
 (.ret (.tup [(pc (.setc z3 0 (pn bQ dN)) 2),(pi 0)]))
 (.next ⟨[(13,(aE dN (pi 1)))],[]⟩)))
 (.exit 0 ⟨[(14,(aj dN cj))],[]⟩))
def OB:PT:=
 (.brk ⟨[(13,(pi 0)),(12,(.llen wJ)),(11,wJ),(7,(pi 0)),(6,(pi 0))],[]⟩
(atr b)
 (.ret (.tup [(pi 0),(pi 4)])))
def aot:PT×List (Shp×PT):=(OB b,[(.lp 0 [6,7,13,14] [] [6,7,13] [],wP b)])
def Ub:xY.map told=some (aot (bp xY)):=by kernel_rfl
def ajy:tree (ab xY)=OB PX:=bF Ub
def C5:round 0 [6,7,13,14] [] [6,7,13] [] (PX 0)=wP PX:=bk Ub 0 λ_=>rfl
def Bk:Option PC:=cF [6,7,8,2,9,10] [] Tryz.f77 77 [3]
def Qa:Nat->PC:=bm Bk
def atY:PC:=.block 0 [] [] (.loop [2,6,7] [] (b 0))
def Wh (b:Nat->PC):PT:=
 (.blockS ⟨[],[]⟩ 1 [2,6,7,9,10,14,15,16,17,18,19,20,21,22,23,24,25,26,27,28,29,30,31,32,34] []
 (.call ⟨[],[]⟩ [] 17 124 [(aB 8 o3),r8,r2]
 (.chk (aq (pc o3 1) r1)
 (.call ⟨[(2,dz)],[]⟩ [] 25 125 [(pn (pc o3 1) r1),dz]
 (.ite (aJ (.tget kF 1) (pi 0))
 (.ret (.tup [(pi 0),(pi 3)]))
 (.ite (peq (.tget kF 0) r2)
 (.ret (.tup [r2,(pi 0)]))
 (.next ⟨[(2,(.tget kF 0))],[]⟩))))))
 (.next ⟨[],[]⟩))
def YZ:PT:=
 (.call ⟨[(7,(pi 0)),(6,(pi 0))],[(3,(.mk [r0]))]⟩ [] 13 123 [jX,r1]
 (.brk ⟨[(8,dN)],[]⟩
(atY b)
 (.next ⟨[],[]⟩)))
def aoO:PT×List (Shp×PT):=(YZ b,[(.lp 0 [] [] [2,6,7] [],Wh b)])
def Uo:Bk.map told=some (aoO (bp Bk)):=by kernel_rfl
def azW:tree (ab Bk)=YZ Qa:=bF Uo
def awt:round 0 [] [] [2,6,7] [] (Qa 0)=Wh Qa:=bk Uo 0 λ_=>rfl
def Bl:Option PC:=cF [6,7,2] [] Tryz.f124 124 [3,9]
def Ef:Nat->PC:=bm Bl
def atZ:PC:=.block 2 [2,7,14,15] [] (.loop [2,7,14] [] (b 0))
def at0:PC:=.block 0 [2,7,10] [] (.loop [2,7] [] (b 1))
def C8 (b:Nat->PC):PT:=
 (.ite rV
 (.chk (aq cj cm)
 (.next ⟨[(2,(.pick ahH (aE (pc CV 2) (pi 1)) r2)),(7,(.pick ahH pT r7)),(14,(aE cm (pi 1)))],[]⟩))
 (.exit 2 ⟨[(15,rV)],[]⟩))
def NS:PT:=
 (.ite r7
 (.blockS ⟨[(10,r7)],[]⟩ 1 [2,7,11,12,13,14,15] []
 (.brk ⟨[(14,(pi 0)),(13,(.llen (pc o3 7))),(12,(pc o3 7)),(7,pF)],[]⟩
(atZ b)
 (.next ⟨[],[]⟩))
 (.next ⟨[],[]⟩))
 (.exit 0 ⟨[(10,r7)],[]⟩))
def Za:PT:=
 (.brk ⟨[(7,pT)],[(3,(.mk [r0]))]⟩
(at0 b)
 (.ret r2))
def aoP:PT×List (Shp×PT):=(Za b,[(.lp 2 [2,7,14,15] [] [2,7,14] [],C8 b),(.lp 0 [2,7,10] [] [2,7] [],NS b)])
def MG:Bl.map told=some (aoP (bp Bl)):=by kernel_rfl
def azX:tree (ab Bl)=Za Ef:=bF MG
def NR:round 2 [2,7,14,15] [] [2,7,14] [] (Ef 0)=C8 Ef:=bk MG 0 λ_=>rfl
def aiH:round 0 [2,7,10] [] [2,7] [] (Ef 1)=NS Ef:=bk MG 1 λ_=>rfl
def Av:Option PC:=cF [6] [] Tryz.f125 125 [2,4,5]
def Pt:Nat->PC:=bm Av
def ane:PC:=.each cO [16] [4,5] (some (.tup [(pc o4 0),(pc o5 0)])) (b 0)
def Vx (b:Nat->PC):PT:=
 (.exit 1000000007 ⟨[],[(4,(.setc o4 0 cv)),(5,(.setc o5 0 (pi 0)))]⟩)
def Xk:PT:=
 (.call ⟨[],[(5,GO),(4,GO),(2,(.mk [r0]))]⟩ [] 8 165 [r1]
 (.ite (.nt r8)
 (.ret (.tup [(pc (.setc o4 0 (pi 0)) 0),(pc (.setc o5 0 (pi 3)) 0)]))
 (.call ⟨[],[]⟩ [] 15 166 [(aB 6 o2),r1,(.mn (aE r1 (pi 400)) (pi 100000))]
 (.blockS ⟨[],[]⟩ 0 [] [4,5]
 (.callc ⟨[],[]⟩ [] 18 dg []
 (.brk ⟨[],[]⟩
(ane b)
 (.next ⟨[],[]⟩)))
 (.ret (.tup [(pc (.setc o4 0 (pi 0)) 0),(pc (.setc o5 0 (pi 3)) 0)]))))))
def anX:PT×List (Shp×PT):=(Xk b,[(.ea [4,5],Vx b)])
def TJ:Av.map told=some (anX (bp Av)):=by kernel_rfl
def ayb:tree (ab Av)=Xk Pt:=bF TJ
def awo:sk [4,5] (Pt 0)=Vx Pt:=W0 TJ 0 λ_=>rfl
def Ju:Option PC:=cF [6] [] Tryz.f166 166 [3,4,5]
def Xm:PT:=
 (.ret (.clo 188 [(.ref (pc (.mk [r1]) 0)),(.ref (pc (.mk [r2]) 0)),(.ref (aB 6 (.mk [r0])))]))
def afY:Ju.map told=some (Xm,[]):=by kernel_rfl
def aye:tree (ab Ju)=Xm:=aU afY
def uk:Option PC:=Ex {ctx with fr:=[5],nh:=[]} Tryz.f188 [(.ref I),(.ref I),(.ref Y0)] [I] 1000 [1000]
def Pu:Nat->PC:=bm uk
def asP:PC:=.block 0 [5,7,8,9] [1000] (.loop [5] [1000] (b 0))
def Nv (b:Nat->PC):PT:=
 (.ite (bI r5 (.deref r2))
 (.blockS ⟨[],[]⟩ 1 [12,13,14,15,20] [1000]
 (.call ⟨[],[]⟩ [] 14 189 [(.deref r3),r5]
 (.call ⟨[(15,cm)],[(1000,ah4)]⟩ [(15,true)] 18 1000000009 [ah4]
 (.ite (.pick dg (.nt cO) pF)
 (.ret (.o 1000))
 (.next ⟨[],[]⟩))))
 (.next ⟨[(5,zt)],[]⟩))
 (.exit 0 ⟨[(7,r5),(8,(.deref r2)),(9,(bI r5 (.deref r2)))],[]⟩))
def Xn:PT:=
 (.brk ⟨[(5,(.deref r1))],[]⟩
(asP b)
 (.ret (.o 1000)))
def anY:PT×List (Shp×PT):=(Xn b,[(.lp 0 [5,7,8,9] [1000] [5] [1000],Nv b)])
def TK:uk.map told=some (anY (bp uk)):=by kernel_rfl
def ayd:tree (ab uk)=Xn Pu:=bF TK
def aip:round 0 [5,7,8,9] [1000] [5] [1000] (Pu 0)=Nv Pu:=bk TK 0 λ_=>rfl
def alw:∀yv,Ex {ctx with fr:=[5],nh:=[],yv:=yv} Tryz.f188 [(.ref I),(.ref I),(.ref Y0)] [I] 1000 [1000]=some (ab uk):=λyv=>(show _=uk by kernel_rfl).trans (av uk TK)
def Jw:Option PC:=cF [4,5,6,7] [] Tryz.f189 189 [2]
def Xo:PT:=
 (.call ⟨[],[(2,(.mk [r0]))]⟩ [] 10 185 [r1]
 (.chk (aJ (pi 7) (pi 0))
 (.call ⟨[(7,(.tget dy 2)),(6,(.tget dy 1))],[]⟩ [] 19 168 [(pc o2 3),(.ai .rem .i64 (aE r1 (pi 5)) (pi 7))]
 (.call ⟨[(21,(.nt ji))],[]⟩ [(21,true)] 28 168 [(pc o2 4),(aE (.ai .mul .i64 (pi 100) r6) r7)]
 (.call ⟨[(31,(.pick iK (.nt tD) pF))],[]⟩ [(31,true)] 35 168 [(pc o2 5),r1]
 (.ret (.pick rX (.nt rY) pF)))))))
def af1:Jw.map told=some (Xo,[]):=by kernel_rfl
def ayg:tree (ab Jw)=Xo:=aU af1
def Jo:Option PC:=cF [] [] Tryz.f33 33 [2,4,5,6,43]
def Xe:PT:=
 (.chk (aq (pc (.mk [r0]) 25) r1)
 (.call ⟨[],[(6,(.setc CR 0 (.mk [r1,(pc GV 0),(pc GV 2),(pi 0),(pi 0),(pi 0),(.pick (aJ (pc GV 0) (pi 1)) (peq (.ai .and .i64 (pc GV 8) (pi 1)) (pi 0)) pF)]))),(5,GV),(4,CR),(2,(.mk [r0]))]⟩ [] 33 66 [U6,r1,(pc (.mk [r0]) 9)]
 (.iteS ⟨[],[]⟩ (.nt tF) [] [6]
 (.call ⟨[(36,(pc o2 29))],[]⟩ [] 39 68 [(aB 31 o2),(pi 1),r1]
 (.call ⟨[],[]⟩ [] 42 68 [(aB 31 o2),(pi 2),r1]
 (.call ⟨[],[]⟩ [] 44 67 [(.lst [lb,qp,r42])]
 (.next ⟨[],[(6,(.setc o6 3 wM))]⟩))))
 (.next ⟨[],[]⟩)
 (.call ⟨[],[]⟩ [] 49 69 [(aB 31 o2),r1]
 (.ret (aB 7 (.setc o4 0 (aB 7 (.pick (.pick (peq (pc o5 0) (pi 1)) pT (peq (pc o5 0) (pi 4))) (.setc Vi 5 (.mn (pc Vi 5) (pc o5 5))) Vi)))))))))
def afQ:Jo.map told=some (Xe,[]):=by kernel_rfl
def ax4:tree (ab Jo)=Xe:=aU afQ
def Ky:Option PC:=cF [6] [] Tryz.f66 66 [3]
def Zn:PT:=
 (.call ⟨[(16,(.pick (bh r1 (pi 0)) (aj r1 (.llen rS)) pF))],[]⟩ [(16,true)] 19 107 [(aB 19 (.mk [r0])),r2]
 (.ret (.pick cv (.look ji r1 pF) pF)))
def ag8:Ky.map told=some (Zn,[]):=by kernel_rfl
def aAb:tree (ab Ky)=Zn:=aU ag8
def Bo:Option PC:=cF [4] [] Tryz.f107 107 [2,5,7]
def Qd:Nat->PC:=bm Bo
def at5:PC:=.block 0 [12,13] [5] (.loop [12] [5] (b 0))
def H4 (b:Nat->PC):PT:=
 (.ite wG
 (.chk (aq dy cj)
 (.ite (.pick (peq (pc (.setc z9 0 qn) 0) (pi 7)) (bI (pc (.setc z9 0 qn) 6) r1) pF)
 (.chk (aj (.mlen o5) cQ)
 (.next ⟨[(12,CP)],[(5,(.put o5 (pc (.setc z9 0 qn) 4) pT))]⟩))
 (.next ⟨[(12,CP)],[]⟩)))
 (.exit 0 ⟨[(13,wG)],[]⟩))
def Zo:PT:=
 (.brk ⟨[(12,(pi 0)),(11,(.llen (pc (.mk [r0]) 17))),(10,(pc (.mk [r0]) 17)),(5,pN)],[(5,(.con (.map [])))]⟩
(at5 b)
 (.ret o5))
def aoT:PT×List (Shp×PT):=(Zo b,[(.lp 0 [12,13] [5] [12] [5],H4 b)])
def Ur:Bo.map told=some (aoT (bp Bo)):=by kernel_rfl
def aAc:tree (ab Bo)=Zo Qd:=bF Ur
def Wl:round 0 [12,13] [5] [12] [5] (Qd 0)=H4 Qd:=bk Ur 0 λ_=>rfl
def Jp:Option PC:=cF [6] [] Tryz.f68 68 [3,7]
def Xf:PT:=
 (.call ⟨[],[]⟩ [] 23 71 [jX,(pc (.mk [r0]) 8),r1,(aB 24 (.setc ahQ 0 (.mk [U6,r2,r2,(pi (-1)),(pc (.mk [r0]) 30),(pc (.mk [r0]) 9)])))]
 (.call ⟨[],[]⟩ [] 24 65 [gE]
 (.ret oN)))
def afR:Jp.map told=some (Xf,[]):=by kernel_rfl
def ax5:tree (ab Jp)=Xf:=aU afR
end Rm
