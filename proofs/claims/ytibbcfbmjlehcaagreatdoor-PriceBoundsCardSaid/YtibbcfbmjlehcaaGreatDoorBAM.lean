/-
  The functions of this seat, compiled (2).
-/
import Derived.Test.YtibbcfbmjlehcaaGreatDoorBAJ
import Derived.KernelRfl
set_option linter.defProp false
set_option linter.unusedVariables false
set_option maxRecDepth 100000
noncomputable section
namespace Rm
open Go Go.Proofs Cx
def Bq:Option PC:=cF [2,3,5,7,8,38,47,10,11,12] [] Tryz.f200 200 [1,4,6,12294,9]
def Ek:Nat->PC:=bn Bq
variable(b:Nat->PC)
def atZ:PC:=.block 0 [2,3,20,21] [4] (.loop [2,3,20] [4] (b 0))
def at0:PC:=.block 3 [2,3,10,82,83] [] (.loop [2,3,10,82] [] (b 1))
def H2 (b:Nat->PC):PT:=
 (.ite (aj fe jC)
 (.blockS ⟨[],[]⟩ 1 [2,3,5,6,7,8,22,23,24,25,26,27,28,29,30,31,33,34,35,36] [6,12294,4]
 (.chk (aq cf fe)
 (.call ⟨[(5,fe)],[]⟩ [] 27 200 [(.mk [(pc (.setc nj 0 (pn cf fe)) 0),(pc (.setc nj 0 (pn cf fe)) 1),(pc (.setc nj 0 (pn cf fe)) 2)])]
 (.ite (aI (.tget eF 1) (pi 0))
 (.ret (.tup [(pi 0),(.tget eF 1)]))
 (.chk (aq o4 r5)
 (.next ⟨[],[(4,(.setn o4 r5 0 (.tget eF 0)))]⟩)))))
 (.next ⟨[(20,(aF fe (pi 1)))],[]⟩))
 (.exit 0 ⟨[(21,(aj fe jC))],[]⟩))
def wO (b:Nat->PC):PT:=
 (.ite (aj lQ wL)
 (.chk (aq zF lQ)
 (.ite (.pick (peq (pn zF lQ) (pi (-1))) (peq dw (pi (-1))) pF)
 (.chk (aq o4 lQ)
 (.ite (aI (pn o4 lQ) (.pick (peq (pn zF lQ) (pi (-1))) (pn o4 lQ) (pn zF lQ)))
 (.ret (.tup [(pi 0),(pi 11)]))
 (.next ⟨[(10,(pn o4 lQ)),(82,(aF lQ (pi 1)))],[]⟩)))
 (.chk (aq o4 lQ)
 (.ite (aI (pn o4 lQ) (.pick (peq (pn zF lQ) (pi (-1))) dw (pn zF lQ)))
 (.ret (.tup [(pi 0),(pi 11)]))
 (.next ⟨[(82,(aF lQ (pi 1)))],[]⟩)))))
 (.exit 3 ⟨[(83,(aj lQ wL))],[]⟩))
def Zl:PT:=
 (.chk (.an (bk rQ (pi 0)) (bI rQ cO))
 (.chk (peq rQ rQ)
 (.brk ⟨[(20,(pi 0)),(19,rQ),(18,zC),(4,pN),(3,(pi 0)),(2,(pi 0))],[(4,(.rep rQ (pi 0))),(1,(.mk [r0]))]⟩
(atZ b)
 (.blockS ⟨[],[]⟩ 2 [2,3,38,39,40,41,42,46,47,48,49,50,51,55,56,60] []
 (.iteS ⟨[],[]⟩ (.pick (aj (pc o1 0) (pi 0)) pT (aS (pc o1 0) (pi 13))) [2,3,47,48,49,50,51,55,56,60] []
 (.ret (.tup [(pi 0),(pi 1)]))
 (.iteS ⟨[],[]⟩ (.pick (.pick (peq (pc o1 0) (pi 0)) pT (peq (pc o1 0) (pi 1))) pT (peq (pc o1 0) (pi 2))) [2,3] []
 (.call ⟨[],[]⟩ [] 62 208 [(.mk [(pc o1 0),(pc o1 1),(pc o1 2)])]
 (.ret (.tup [(.tget oP 0),(.tget oP 1)])))
 (.next ⟨[],[]⟩)
 (.next ⟨[],[]⟩))
 (.next ⟨[],[]⟩))
 (.call ⟨[],[]⟩ [] 67 209 [(pc o1 0)]
 (.ite (.pick (aI (.llen o4) (.llen (pc (.setc me 0 wK) 0))) pT (aI (pc o1 1) (pi 0)))
 (.ret (.tup [(pi 0),(pi 2)]))
 (.brk ⟨[(82,(pi 0)),(81,(.llen (pc (.setc me 0 wK) 0))),(80,(pc (.setc me 0 wK) 0)),(10,(pi (-1)))],[(9,(.setc me 0 wK))]⟩
(at0 b)
 (.ite (peq (pc o9 1) (pi (-1)))
 (.ret (.tup [dw,(pi 0)]))
 (.ret (.tup [(pc o9 1),(pi 0)]))))))))))
def aoP:PT×List (Shp×PT):=(Zl b,[(.lp 0 [2,3,20,21] [4] [2,3,20] [4],H2 b),(.lp 3 [2,3,10,82,83] [] [2,3,10,82] [],wO b)])
def ML:Bq.map told=some (aoP (bp Bq)):=by kernel_rfl
def azZ:tree (ab Bq)=Zl Ek:=bF ML
def Wr:round 0 [2,3,20,21] [4] [2,3,20] [4] (Ek 0)=H2 Ek:=bh ML 0 λ_=>rfl
def Dc:round 3 [2,3,10,82,83] [] [2,3,10,82] [] (Ek 1)=wO Ek:=bh ML 1 λ_=>rfl
def Kv:Option PC:=cF [2,3,12,20,4,5] [] Tryz.f208 208 [1]
def Zo:PT:=
 (.ite (aS rQ (pi 0))
 (.ret (.tup [(pi 0),(pi 2)]))
 (.blockS ⟨[(11,jV)],[(1,(.mk [r0]))]⟩ 0 [2,3,12,13,20,21] []
 (.iteS ⟨[],[]⟩ (peq bK (pi 0)) [2,3,20,21] []
 (.call ⟨[],[]⟩ [] 16 212 [(pc o1 1)]
 (.ite (aI bN (pc o1 1))
 (.ret (.tup [(pi 0),(pi 3)]))
 (.ret (.tup [(pi 0),(pi 0)]))))
 (.ite (peq bK (pi 1))
 (.ite (.pick (aj (pc o1 1) (pi 0)) pT (aS (pc o1 1) (pi 1)))
 (.ret (.tup [(pi 0),(pi 3)]))
 (.ret (.tup [(pi 1),(pi 0)])))
 (.next ⟨[],[]⟩))
 (.next ⟨[],[]⟩))
 (.call ⟨[],[]⟩ [] 33 210 [(pc o1 1)]
 (.ite (.nt (.tget rT 1))
 (.ret (.tup [(pi 0),(pi 10)]))
 (.ret (.tup [(.tget rT 0),(pi 0)]))))))
def ag8:Kv.map told=some (Zo,[]):=by kernel_rfl
def az2:tree (ab Kv)=Zo:=aU ag8
def Ku:Option PC:=cF [2] [] Tryz.f212 212 []
def Zn:PT:=
 (.ret (.mn (.mx r0 (pi (-1099511627776))) zt))
def ag7:Ku.map told=some (Zn,[]):=by kernel_rfl
def az1:tree (ab Ku)=Zn:=aU ag7
def Kr:Option PC:=cF [2,3,4,11] [] Tryz.f210 210 []
def Zj:PT:=
 (.ite (.pick (aj r0 (pi 0)) pT (aS r0 (pi 19)))
 (.ret (.tup [(pi 0),pF]))
 (.ite (aj r0 (pi 7))
 (.ret (.tup [(pi 0),pT]))
 (.ret (.tup [(pi 1),pT]))))
def ag4:Kr.map told=some (Zj,[]):=by kernel_rfl
def azX:tree (ab Kr)=Zj:=aU ag4
def Kz:Option PC:=cF [4,8,13,17,21] [] Tryz.f209 209 [2]
def Zr:PT:=
 (.ite (peq r0 (pi 3))
 (.ret (.mk [(pc (.setc me 0 (.mk [(.lst [(pi 1)]),(pi 1)])) 0),(pc (.setc me 0 (.mk [(.lst [(pi 1)]),(pi 1)])) 1)]))
 (.ite (.pick (peq r0 (pi 4)) (peq r0 (pi 4)) (peq r0 (pi 5)))
 (.ret (.mk [(pc (.setc me 0 (.mk [(.lst [(pi 1),(pi 1)]),(pi 1)])) 0),(pc (.setc me 0 (.mk [(.lst [(pi 1),(pi 1)]),(pi 1)])) 1)]))
 (.ite (peq r0 (pi 6))
 (.ret (.mk [(pc ahP 0),(pc ahP 1)]))
 (.ite (peq r0 (pi 7))
 (.ret (.mk [(pc (.setc me 0 (.mk [(.lst [(pi 0),(pi 0)]),(pi 1)])) 0),(pc (.setc me 0 (.mk [(.lst [(pi 0),(pi 0)]),(pi 1)])) 1)]))
 (.ite (peq r0 (pi 8))
 (.ret (.mk [(pc (.setc me 0 (.mk [(.lst [(pi (-1)),(pi (-1))]),(pi 1)])) 0),(pc (.setc me 0 (.mk [(.lst [(pi (-1)),(pi (-1))]),(pi 1)])) 1)]))
 (.ret (.mk [(pc (.setc me 0 (.mk [(.lst [(pi 0),(pi 0)]),(pi 0)])) 0),(pc (.setc me 0 (.mk [(.lst [(pi 0),(pi 0)]),(pi 0)])) 1)])))))))
def ahb:Kz.map told=some (Zr,[]):=by kernel_rfl
def az6:tree (ab Kz)=Zr:=aU ahb
def Kq:Option PC:=cF [5,6,8] [] Tryz.f161 161 [2,4,7]
def Zi:PT:=
 (.call ⟨[],[(4,gD),(2,(.mk [r0]))]⟩ [] 11 181 [(.mk [jV,lP,zC])]
 (.ite (aI (.tget bK 1) (pi 0))
 (.ret GV)
 (.call ⟨[],[]⟩ [] 21 182 [(.mk [r1]),(.mk [(pc o2 0),(pc o2 1),(pc o2 2)])]
 (.ret (.mk [(pc ahI 0),(pc ahI 1)])))))
def ag3:Kq.map told=some (Zi,[]):=by kernel_rfl
def azW:tree (ab Kq)=Zi:=aU ag3
def Br:Option PC:=cF [5,15,21,9,11] [] Tryz.f182 182 [2,3,4,6,33,7,8,10,12298,12]
def Ql:Nat->PC:=bn Br
def at1:PC:=.block 1 [45,46] [7,8] (.loop [45] [7,8] (b 0))
def H3 (b:Nat->PC):PT:=
 (.ite (aj rV wJ)
 (.blockS ⟨[],[]⟩ 2 [9,10,47,48,49,50,51,52,53,54,55,56,57,58,59,60,61] [10,12298,8,7]
 (.chk (aq u7 rV)
 (.call ⟨[(54,rV),(52,rV)],[]⟩ [] 57 182 [(.mk [(pc o2 0)]),(.mk [(pc (.setc nj 0 (pn u7 rV)) 0),(pc (.setc nj 0 (pn u7 rV)) 1),(pc (.setc nj 0 (pn u7 rV)) 2)])]
 (.chk (aq o7 C1)
 (.chk (aq o8 mq)
 (.next ⟨[],[(8,(.setn o8 mq 0 (.tget Nv 1))),(7,(.setn o7 C1 0 (.tget Nv 0)))]⟩)))))
 (.next ⟨[(45,(aF rV (pi 1)))],[]⟩))
 (.exit 1 ⟨[(46,(aj rV wJ))],[]⟩))
def Iu:PT:=
 (.blockS ⟨[(14,(pc (.mk [r1]) 0))],[(4,gD),(3,(.mk [r1])),(2,(.mk [r0]))]⟩ 0 [5,15,16,21,22] [4]
 (.iteS ⟨[],[]⟩ (.pick (peq bX (pi 0)) (peq bX (pi 0)) (peq bX (pi 1))) [5,21,22] [4]
 (.ret (.tup [(.mk [(pc (.setc o4 0 (.mk [pT,(pc o3 1)])) 0),(pc (.setc o4 0 (.mk [pT,(pc o3 1)])) 1)]),pL]))
 (.iteS ⟨[],[]⟩ (peq bX (pi 2)) [5] [4]
 (.call ⟨[],[]⟩ [] 26 201 [(.mk [(pc o2 0)]),(pc o3 1)]
 (.ite (pc (.setc gD 0 mj) 0)
 (.ret (.tup [(.mk [(pc ahO 0),(pc ahO 1)]),pL]))
 (.ret (.tup [GV,(.lst [(pc o3 1)])]))))
 (.next ⟨[],[]⟩)
 (.next ⟨[],[]⟩))
 (.next ⟨[],[]⟩))
 (.chk (.an (bk nk (pi 0)) (bI nk cO))
 (.chk (peq nk nk)
 (.brk ⟨[(45,(pi 0)),(44,nk),(43,(pc o3 2)),(8,pN),(7,pN)],[(8,(.rep nk pL)),(7,(.rep nk gD))]⟩
(at1 b)
 (.chk (.nt (.an (.an (peq (pc o3 0) (pi 6)) pT) (.nt (aq o7 (pi 0)))))
 (.ite (.pick (peq (pc o3 0) (pi 6)) (pc (pn o7 (pi 0)) 0) pF)
 (.chk (aq o7 (pi 0))
 (.chk (aq o7 GY)
 (.chk (aq o8 GY)
 (.ret (.tup [(.mk [(pc (.setc o4 0 (.sub (pn o7 GY) 0 2)) 0),(pc (.setc o4 0 (.sub (pn o7 GY) 0 2)) 1)]),(pn o8 GY)])))))
 (.call ⟨[],[]⟩ [] 88 202 [(pc o3 0),o7]
 (.ite (pc (.setc gD 0 Ny) 0)
 (.ret (.tup [(.mk [(pc ahN 0),(pc ahN 1)]),pL]))
 (.call ⟨[(92,zw)],[]⟩ [] 94 203 [o8]
 (.ret (.tup [(.mk [(pc (.setc o4 0 Vy) 0),(pc (.setc o4 0 Vy) 1)]),r94])))))))))))
def aoQ:PT×List (Shp×PT):=(Iu b,[(.lp 1 [45,46] [7,8] [45] [7,8],H3 b)])
def UA:Br.map told=some (aoQ (bp Br)):=by kernel_rfl
def az3:tree (ab Br)=Iu Ql:=bF UA
def Ws:round 1 [45,46] [7,8] [45] [7,8] (Ql 0)=H3 Ql:=bh UA 0 λ_=>rfl
def Kw:Option PC:=cF [5,6] [] Tryz.f201 201 [2,4]
def Zp:PT:=
 (.chk (.nt (.an (.an (.nt (bk r1 (.llen jV))) pT) (.nt (aq jV r1))))
 (.ite (.pick (bk r1 (.llen jV)) pT (.nt (pc (pn jV r1) 0)))
 (.ret (.mk [(pc (.setc gD 0 zw) 0),(pc (.setc gD 0 zw) 1)]))
 (.call ⟨[],[(4,gD),(2,(.mk [r0]))]⟩ [] 24 210 [r1]
 (.iteS ⟨[],[]⟩ (peq (.tget ji 0) (pi 1)) [] [4]
 (.chk (aq (pc o2 0) r1)
 (.call ⟨[],[]⟩ [] 36 211 [(aI (pc (pn (pc o2 0) r1) 1) (pi 0))]
 (.ret (.mk [(pc (.setc o4 0 la) 0),(pc (.setc o4 0 la) 1)]))))
 (.next ⟨[],[]⟩)
 (.chk (aq (pc o2 0) r1)
 (.call ⟨[],[]⟩ [] 43 212 [(pc (pn (pc o2 0) r1) 1)]
 (.ret (.mk [(pc (.setc o4 0 (.mk [pT,u7])) 0),(pc (.setc o4 0 (.mk [pT,u7])) 1)]))))))))
def ag9:Kw.map told=some (Zp,[]):=by kernel_rfl
def az4:tree (ab Kw)=Zp:=aU ag9
def KA:Option PC:=cF [] [] Tryz.f211 211 [2]
def Zs:PT:=
 (.ite r0
 (.ret (.mk [(pc M1 0),(pc M1 1)]))
 (.ret (.mk [(pc M2 0),(pc M2 1)])))
def ahc:KA.map told=some (Zs,[]):=by kernel_rfl
def az7:tree (ab KA)=Zs:=aU ahc
def Kt:Option PC:=cF [9,22,41,6,7,82,88,94] [] Tryz.f202 202 [4,5]
def Zm:PT:=
 (.blockS ⟨[(8,r0)],[(4,gD)]⟩ 0 [9,10,22,23] [4]
 (.iteS ⟨[],[]⟩ (peq r8 (pi 3)) [22,23] [4]
 (.chk (aq r1 (pi 0))
 (.iteS ⟨[],[]⟩ (pc (pn r1 (pi 0)) 0) [] [4]
 (.chk (aq r1 (pi 0))
 (.call ⟨[],[]⟩ [] 20 211 [(peq (pc (pn r1 (pi 0)) 1) (pi 0))]
 (.ret (.mk [(pc (.setc o4 0 fe) 0),(pc (.setc o4 0 fe) 1)]))))
 (.next ⟨[],[]⟩)
 (.ret GV)))
 (.iteS ⟨[],[]⟩ (.pick (peq r8 (pi 4)) (peq r8 (pi 4)) (peq r8 (pi 5))) [] [4]
 (.call ⟨[],[]⟩ [] 27 211 [(peq r0 (pi 5))]
 (.chk (aq r1 (pi 0))
 (.chk (.nt (.an (.an (.nt ah6) pT) (.nt (aq r1 (pi 1)))))
 (.ite (.pick ah6 pT (.an (.cb .eql (pc rN 0) (pc CT 0)) (.an (peq (pc rN 1) (pc CT 1)) pT)))
 (.ret (.mk [(pc (.setc o4 0 CT) 0),(pc (.setc o4 0 CT) 1)]))
 (.next ⟨[],[]⟩)))))
 (.ite (peq r8 (pi 6))
 (.chk (aq r1 (pi 1))
 (.chk (.nt (.an (.an (pc rN 0) pT) (.nt (aq r1 (pi 1)))))
 (.chk (.nt (.an (.an (pc rN 0) pT) (.nt (aq r1 (pi 2)))))
 (.ite (.pick (pc rN 0) (.an (.cb .eql (pc rN 0) (pc (pn r1 (pi 2)) 0)) (.an (peq (pc rN 1) (pc (pn r1 (pi 2)) 1)) pT)) pF)
 (.ret (.mk [(pc (.setc o4 0 rN) 0),(pc (.setc o4 0 rN) 1)]))
 (.ret GV)))))
 (.next ⟨[],[]⟩))
 (.next ⟨[],[]⟩))
 (.next ⟨[],[]⟩))
 (.chk (aq r1 (pi 0))
 (.chk (.nt (.an (.an (.nt (.nt (pc (pn r1 (pi 0)) 0))) pT) (.nt (aq r1 (pi 1)))))
 (.ite (.pick (.nt (pc (pn r1 (pi 0)) 0)) pT (.nt (pc rN 0)))
 (.ret GV)
 (.chk (aq r1 (pi 1))
 (.blockS ⟨[(81,r0),(7,(pc rN 1)),(6,(pc (pn r1 (pi 0)) 1))],[]⟩ 1 [82,83,88,89,94,95] [4]
 (.iteS ⟨[],[]⟩ (.pick (peq wL (pi 4)) (peq wL (pi 4)) (peq wL (pi 5))) [88,89,94,95] [4]
 (.call ⟨[],[]⟩ [] 87 211 [(peq r0 (pi 4))]
 (.ret (.mk [(pc (.setc o4 0 r87) 0),(pc (.setc o4 0 r87) 1)])))
 (.iteS ⟨[],[]⟩ (peq wL (pi 7)) [94,95] [4]
 (.call ⟨[],[]⟩ [] 93 211 [(aj r6 r7)]
 (.ret (.mk [(pc (.setc o4 0 Nz) 0),(pc (.setc o4 0 Nz) 1)])))
 (.iteS ⟨[],[]⟩ (peq wL (pi 8)) [] [4]
 (.call ⟨[],[]⟩ [] 99 211 [(peq r6 r7)]
 (.ret (.mk [(pc (.setc o4 0 r99) 0),(pc (.setc o4 0 r99) 1)])))
 (.next ⟨[],[]⟩)
 (.next ⟨[],[]⟩))
 (.next ⟨[],[]⟩))
 (.next ⟨[],[]⟩))
 (.call ⟨[],[]⟩ [] 103 213 [r0,r6,r7]
 (.ret (.mk [(pc (.setc o4 0 (.mk [pT,aia])) 0),(pc (.setc o4 0 (.mk [pT,aia])) 1)])))))))))
def ag6:Kt.map told=some (Zm,[]):=by kernel_rfl
def az0:tree (ab Kt)=Zm:=aU ag6
def Ks:Option PC:=cF [6,8,14,20,25] [] Tryz.f213 213 []
def Zk:PT:=
 (.blockS ⟨[(7,r0)],[]⟩ 0 [6,8,9,14,15,20,21,25,26] []
 (.iteS ⟨[],[]⟩ (peq r7 (pi 9)) [6,14,15,20,21,25,26] []
 (.call ⟨[],[]⟩ [] 13 212 [(aF r1 r2)]
 (.ret dx))
 (.iteS ⟨[],[]⟩ (peq r7 (pi 10)) [6,20,21,25,26] []
 (.call ⟨[],[]⟩ [] 19 212 [(bm r1 r2)]
 (.ret jC))
 (.iteS ⟨[],[]⟩ (peq r7 (pi 11)) [6,25,26] []
 (.call ⟨[],[]⟩ [] 24 215 [r1,r2]
 (.ret ji))
 (.ite (peq r7 (pi 12))
 (.ret (.mn r1 r2))
 (.next ⟨[],[]⟩))
 (.next ⟨[],[]⟩))
 (.next ⟨[],[]⟩))
 (.next ⟨[],[]⟩))
 (.ret (.mx r1 r2)))
def ag5:Ks.map told=some (Zk,[]):=by kernel_rfl
def azY:tree (ab Ks)=Zk:=aU ag5
def Ky:Option PC:=cF [4,5,6,7] [] Tryz.f215 215 []
def Zq:PT:=
 (.call ⟨[],[]⟩ [] 19 79 [(.conv .u64 (.mx r0 (bm (pi 0) r0))),(.conv .u64 (.mx r1 (bm (pi 0) r1)))]
 (.ite (.cb .neq (aj r0 (pi 0)) (aj r1 (pi 0)))
 (.ret (bm (pi 0) ahU))
 (.ret ahU)))
def aha:Ky.map told=some (Zq,[]):=by kernel_rfl
def az5:tree (ab Ky)=Zq:=aU aha
def Ju:Option PC:=cF [4,5,6,7,8,9,10,11,12,13] [] Tryz.f79 79 []
def Xo:PT:=
 (.chk CO
 (.ret (.tup [(.ai .add .u64 (.ai .add .u64 (.ai .mul .u64 uY (.ai .shr .u64 r1 wD)) (.ai .shr .u64 ahX wD)) (.ai .shr .u64 (.ai .add .u64 (.ai .and .u64 ahX zz) (.ai .mul .u64 (.ai .and .u64 r0 zz) (.ai .shr .u64 r1 wD))) wD)),(.ai .mul .u64 r0 r1)])))
def afY:Ju.map told=some (Xo,[]):=by kernel_rfl
def ax6:tree (ab Ju)=Xo:=aU afY
def Bg:Option PC:=cF [2,3,5,8] [] Tryz.f203 203 [6]
def Ei:Nat->PC:=bn Bg
def atM:PC:=.block 0 [3,11,12] [] (.loop [3,11] [] (b 0))
def atN:PC:=.block 2 [6,27,28] [6] (.loop [6,27] [6] (b 1))
def NW (b:Nat->PC):PT:=
 (.ite (aj bK dw)
 (.chk (aq r9 bK)
 (.ite (aj (aF r3 (.llen (pn r9 bK))) (pi 0))
 (.chk (.nt pT)
 (.chk (.nt pT)
 (.next ⟨[(3,(aF r3 (.llen (pn r9 bK)))),(11,(aF bK (pi 1)))],[]⟩)))
 (.next ⟨[(3,(aF r3 (.llen (pn r9 bK)))),(11,(aF bK (pi 1)))],[]⟩)))
 (.exit 0 ⟨[(12,(aj bK dw))],[]⟩))
def NX (b:Nat->PC):PT:=
 (.ite (aj eF mj)
 (.chk (aq jX eF)
 (.chk (bI (.llen (.app o6 (pn jX eF))) cO)
 (.next ⟨[(6,pN),(27,(aF eF (pi 1)))],[(6,(.app o6 (pn jX eF)))]⟩)))
 (.exit 2 ⟨[(28,(aj eF mj))],[]⟩))
def YO:PT:=
 (.brk ⟨[(11,(pi 0)),(10,(.llen r0)),(9,r0),(3,(pi 0))],[]⟩
(atM b)
 (.call ⟨[],[]⟩ [] 24 214 [pL,r3]
 (.brk ⟨[(27,(pi 0)),(26,(.llen r0)),(25,r0),(6,pN)],[(6,ji)]⟩
(atN b)
 (.ret o6))))
def aoF:PT×List (Shp×PT):=(YO b,[(.lp 0 [3,11,12] [] [3,11] [],NW b),(.lp 2 [6,27,28] [6] [6,27] [6],NX b)])
def MJ:Bg.map told=some (aoF (bp Bg)):=by kernel_rfl
def azD:tree (ab Bg)=YO Ei:=bF MJ
def aiG:round 0 [3,11,12] [] [3,11] [] (Ei 0)=NW Ei:=bh MJ 0 λ_=>rfl
def aiH:round 2 [6,27,28] [6] [6,27] [6] (Ei 1)=NX Ei:=bh MJ 1 λ_=>rfl
def Jk:Option PC:=cF [2,3,7,12] [] Tryz.f65 65 [1]
def Xc:PT:=
 (.ite (aI (pc (.mk [r0]) 4) (pi 0))
 (.ret (pi 0))
 (.ite (.nt jV)
 (.ret (pi 2))
 (.ite (aI lP (pi 0))
 (.ret (pi 1))
 (.ret (pi 0)))))
def afO:Jk.map told=some (Xc,[]):=by kernel_rfl
def axS:tree (ab Jk)=Xc:=aU afO
def Ji:Option PC:=cF [8,9,10,11] [] Tryz.f13 13 [4,6]
def Xa:PT:=
 (.call ⟨[],[(6,(.mk [r2])),(4,(.mk [r0]))]⟩ [] 14 34 [GS,r3]
 (.ite (peq (.llen (pc (.setc o6 0 bX) 15)) (pi 0))
 (.ret (pi (-1)))
 (.call ⟨[],[(6,(.setc o6 0 bX))]⟩ [] 23 36 [(aA 8 o4),r1,(pi 6),(aA 19 (.setc o6 0 bX)),r3]
 (.call ⟨[],[]⟩ [] 24 35 [gY]
 (.call ⟨[(29,(aA 15 o6)),(27,(aA 8 o4)),(9,(.mx ji (pi 0)))],[]⟩ [] 31 38 [(aA 19 o6)]
 (.call ⟨[],[]⟩ [] 33 37 [eF,ml,rS,r9]
 (.ite (aI (.tget rT 1) (pi 0))
 (.ret (pi (-1)))
 (.ret (.tget rT 0)))))))))
def afM:Ji.map told=some (Xa,[]):=by kernel_rfl
def axQ:tree (ab Ji)=Xa:=aU afM
def Jj:Option PC:=cF [2] [] Tryz.f35 35 [1]
def Xb:PT:=
 (.ite (.pick (aI (pc (.mk [r0]) 4) (pi 0)) pT (.nt jV))
 (.ret (pi (-1)))
 (.ret lP))
def afN:Jj.map told=some (Xb,[]):=by kernel_rfl
def axR:tree (ab Jj)=Xb:=aU afN
def Be:Option PC:=cF [2,4] [] Tryz.f38 38 [1,3,6,8]
def Eg:Nat->PC:=bn Be
def atK:PC:=.block 0 [3,16,17] [3] (.loop [3,16] [3] (b 0))
def atL:PC:=.block 2 [2,3,36,37] [3] (.loop [2,3,36] [3] (b 1))
def HT (b:Nat->PC):PT:=
 (.ite (aj bN de)
 (.chk (aq bX bN)
 (.ite (.pick (peq r4 (pi 1)) (peq (pc (.setc z9 0 mi) 0) (pi 1)) pF)
 (.chk (bI (.llen (.app o3 (.lst [(pc (.setc z9 0 mi) 6)]))) cO)
 (.next ⟨[(3,pN),(16,(aF bN (pi 1)))],[(3,(.app o3 (.lst [(pc (.setc z9 0 mi) 6)])))]⟩))
 (.next ⟨[(16,(aF bN (pi 1)))],[]⟩)))
 (.exit 0 ⟨[(17,(aj bN de))],[]⟩))
def zJ (b:Nat->PC):PT:=
 (.ite (aj la rU)
 (.chk (aq G3 la)
 (.ite (.pick (peq r4 (pi 0)) (peq (pc GO 0) (pi 2)) pF)
 (.ret (pc GO 6))
 (.ite (.pick (peq r4 (pi 1)) (peq (pc GO 0) (pi 1)) pF)
 (.chk (bI (.llen (.app o3 (.lst [(pc GO 6)]))) cO)
 (.next ⟨[(3,pN),(36,(aF la (pi 1)))],[(3,(.app o3 (.lst [(pc GO 6)])))]⟩))
 (.next ⟨[(36,(aF la (pi 1)))],[]⟩))))
 (.exit 2 ⟨[(37,(aj la rU))],[]⟩))
def YK:PT:=
 (.brk ⟨[(16,(pi 0)),(15,(.llen rM)),(14,rM),(4,wF),(3,pN),(2,(pi 0))],[(3,pL),(1,(.mk [r0]))]⟩
(atK b)
 (.brk ⟨[(36,(pi 0)),(35,(.llen (pc o1 17))),(34,(pc o1 17))],[]⟩
(atL b)
 (.ite (peq (.llen o3) (pi 0))
 (.ret (pi (-1)))
 (.call ⟨[],[]⟩ [] 66 78 [o3]
 (.ret r66)))))
def aoD:PT×List (Shp×PT):=(YK b,[(.lp 0 [3,16,17] [3] [3,16] [3],HT b),(.lp 2 [2,3,36,37] [3] [2,3,36] [3],zJ b)])
def MH:Be.map told=some (aoD (bp Be)):=by kernel_rfl
def azy:tree (ab Be)=YK Eg:=bF MH
def Wh:round 0 [3,16,17] [3] [3,16] [3] (Eg 0)=HT Eg:=bh MH 0 λ_=>rfl
def HU:round 2 [2,3,36,37] [3] [2,3,36] [3] (Eg 1)=zJ Eg:=bh MH 1 λ_=>rfl
def Bn:Option PC:=cF [2,3,4] [] Tryz.f78 78 []
def Qj:Nat->PC:=bn Bn
def ae4:PC:=.block 0 [3,4,12,13,14,15] [] (.loop [3,4] [] (b 0))
def NY (b:Nat->PC):PT:=
 (.ite (aj r4 (.llen r0))
 (.chk (aq r0 r4)
 (.next ⟨[(3,(.mn r3 (pn r0 r4))),(4,(aF r4 (pi 1)))],[]⟩))
 (.exit 0 ⟨[(12,r4),(13,r0),(14,(.llen r0)),(15,(aj r4 (.llen r0)))],[]⟩))
def Za:PT:=
 (.ite (aj (.llen r0) (pi 1))
 (.chk (.nt pT)
 (.chk (.nt pT)
 (.chk (aq r0 (pi 0))
 (.brk ⟨[(4,(pi 1)),(3,(pn r0 (pi 0)))],[]⟩
(ae4 b)
 (.ret r3)))))
 (.chk (aq r0 (pi 0))
 (.brk ⟨[(4,(pi 1)),(3,(pn r0 (pi 0)))],[]⟩
(ae4 b)
 (.ret r3))))
def aoM:PT×List (Shp×PT):=(Za b,[(.lp 0 [3,4,12,13,14,15] [] [3,4] [],NY b)])
def Uy:Bn.map told=some (aoM (bp Bn)):=by kernel_rfl
def azP:tree (ab Bn)=Za Qj:=bF Uy
def aiI:round 0 [3,4,12,13,14,15] [] [3,4] [] (Qj 0)=NY Qj:=bh Uy 0 λ_=>rfl
def Ex:Option PC:=cF [8,9,15,39,58,74,11,12] [] Tryz.f37 37 [4,5,10]
def It:PT:=
 (.blockS ⟨[],[(10,(.setc z3 0 (.mk [(pc (.mk [r1]) 5),(pc (.mk [r1]) 6),(pc (.mk [r1]) 7)]))),(5,(.mk [r1])),(4,(.mk [r0]))]⟩ 0 [8,9,15,16,17,18,19,25,26,32,33,38,39,40,41,42,43,47,48,52,53,57,58,59,60,61,65,66,69,70,73,74,75,76,77,80] []
 (.call ⟨[],[]⟩ [] 17 72 [(aA 8 o4)]
 (.call ⟨[(19,(aI jW (pi 0)))],[]⟩ [(19,false)] 23 73 [(aA 8 o4),(pc o5 9)]
 (.call ⟨[(26,(.pick jC pT (.nt gY)))],[]⟩ [(26,false)] 30 73 [(aA 8 o4),(pc o5 10)]
 (.call ⟨[(33,(.pick mj pT (.nt rR)))],[]⟩ [(33,false)] 36 74 [(pc o5 8)]
 (.iteS ⟨[],[]⟩ (.pick rT pT (.nt la)) [8,9,39,40,41,42,43,47,48,52,53,57,58,59,60,61,65,66,69,70,73,74,75,76,77,80] []
 (.ret (.tup [(pi 0),(pi 1)]))
 (.iteS ⟨[],[]⟩ (.pick (.pick (.pick (aj (pc cm 0) (pi 0)) pT (bk (pc cm 0) (pi 5))) pT (aj (pc cm 2) (pi 0))) pT (bk (pc cm 2) (pi 2))) [8,9,58,59,60,61,65,66,69,70,73,74,75,76,77,80] []
 (.ret (.tup [(pi 0),(pi 1)]))
 (.call ⟨[(61,(aI r2 (pi (-1))))],[]⟩ [(61,true)] 63 74 [r2]
 (.iteS ⟨[],[]⟩ (.pick (.pick (.pick G6 (.nt Nw) pF) pT (aj r3 (pi 0))) pT (aS r3 (pi 20000))) [8,9,74,75,76,77,80] []
 (.ret (.tup [(pi 0),(pi 1)]))
 (.call ⟨[],[]⟩ [] 76 75 [(.mk [(pc cm 0),(pc cm 1),(pc cm 2)])]
 (.ite (.pick u9 (peq r2 (pi (-1))) pF)
 (.ret (.tup [(pi 0),(pi 4)]))
 (.next ⟨[],[]⟩)))
 (.next ⟨[],[]⟩)))
 (.next ⟨[],[]⟩))
 (.next ⟨[],[]⟩))))))
 (.call ⟨[],[]⟩ [] 85 76 [(aA 8 o4),(aA 15 o5),r2]
 (.ite (aI (.tget C4 1) (pi 0))
 (.ret (.tup [(pi 0),(.tget C4 1)]))
 (.call ⟨[(11,(.tget C4 0))],[]⟩ [] 92 74 [(.tget C4 0)]
 (.ite (.pick (.nt Vy) pT (aS (aF bK r3) (pi 100000)))
 (.ret (.tup [(pi 0),(pi 3)]))
 (.call ⟨[],[]⟩ [] 106 77 [(aA 8 o4),(pc o5 10),(aF bK r3)]
 (.ret (.tup [(.tget Nr 0),(.tget Nr 1)]))))))))
def agW:Ex.map told=some (It,[]):=by kernel_rfl
def Zb:tree (ab Ex)=It:=aU agW
def A3:Option PC:=cF [2,3,4,5,6,7,10,11,12] [] Tryz.f72 72 [1,9]
def P6:Nat->PC:=bn A3
def ato:PC:=.block 0 [2,38,39] [] (.loop [2,38] [] (b 0))
def HA (b:Nat->PC):PT:=
 (.ite (aj jD mm)
 (.blockS ⟨[],[]⟩ 1 [2,9,40,41,42,43,44,45] [9]
 (.chk (aq la jD)
 (.call ⟨[],[]⟩ [] 44 116 [(pc (.setc GQ 0 (pn la jD)) 0),(pi 10)]
 (.ite (.nt wJ)
 (.ret (pi 1))
 (.next ⟨[],[]⟩))))
 (.next ⟨[(38,(aF jD (pi 1)))],[]⟩))
 (.exit 0 ⟨[(39,(aj jD mm))],[]⟩))
def Yr:PT:=
 (.call ⟨[(2,(pi 0))],[(1,(.mk [r0]))]⟩ [] 15 111 [jU]
 (.call ⟨[(5,(.tget de 2)),(4,(.tget de 1)),(3,(.tget de 0))],[]⟩ [] 21 112 [(pc o1 0),(pi 8),(.con (.clo 113 []))]
 (.ite (aI jh (pi 0))
 (.ret jh)
 (.call ⟨[],[(1,(aA 8 o1))]⟩ [] 27 112 [r3,(pi 40),(.clo 114 [(.ref (aA 8 o1))])]
 (.ite (aI eF (pi 0))
 (.ret eF)
 (.ite (aS tz (pi 20))
 (.ret (pi 6))
 (.brk ⟨[(38,(pi 0)),(37,tz),(36,(pc o1 2))],[]⟩
(ato b)
 (.call ⟨[],[]⟩ [] 49 112 [r4,(pi 200),(.clo 117 [(.ref o1)])]
 (.ite (aI oO (pi 0))
 (.ret oO)
 (.call ⟨[],[]⟩ [] 55 112 [r5,(pi 20),(.clo 118 [(.ref o1)])]
 (.ite (aI C2 (pi 0))
 (.ret C2)
 (.call ⟨[],[]⟩ [] 60 120 [(.sub o1 0 8)]
 (.ite (aI G5 (pi 0))
 (.ret G5)
 (.call ⟨[],[]⟩ [] 65 121 [(.sub o1 0 8)]
 (.ret C3)))))))))))))))
def aor:PT×List (Shp×PT):=(Yr b,[(.lp 0 [2,38,39] [] [2,38] [],HA b)])
def Ul:A3.map told=some (aor (bp A3)):=by kernel_rfl
def azk:tree (ab A3)=Yr P6:=bF Ul
def V4:round 0 [2,38,39] [] [2,38] [] (P6 0)=HA P6:=bh Ul 0 λ_=>rfl
def A7:Option PC:=cF [] [] Tryz.f111 111 [1,2,3,4,6,16390,20486,24582,21,8,34,10,12298,16394,47]
def xP:Nat->PC:=bn A7
def att:PC:=.block 0 [2,14,15] [2] (.loop [2,14] [2] (b 0))
def atu:PC:=.block 2 [3,27,28] [3] (.loop [3,27] [3] (b 1))
def atv:PC:=.block 4 [4,40,41] [4] (.loop [4,40] [4] (b 2))
def NR (b:Nat->PC):PT:=
 (.ite rP
 (.chk (aq bR bX)
 (.chk (bI (.llen ahY) cO)
 (.next ⟨[(2,pN),(14,(aF bX (pi 1)))],[(2,ahY)]⟩)))
 (.exit 0 ⟨[(15,rP)],[]⟩))
def NS (b:Nat->PC):PT:=
 (.ite (aj eF mj)
 (.chk (aq jX eF)
 (.chk (bI (.llen ah4) cO)
 (.next ⟨[(3,pN),(27,(aF eF (pi 1)))],[(3,ah4)]⟩)))
 (.exit 2 ⟨[(28,(aj eF mj))],[]⟩))
def NT (b:Nat->PC):PT:=
 (.ite (aj qj qh)
 (.chk (aq jD qj)
 (.chk (bI (.llen ahZ) cO)
 (.next ⟨[(4,pN),(40,(aF qj (pi 1)))],[(4,ahZ)]⟩)))
 (.exit 4 ⟨[(41,(aj qj qh))],[]⟩))
def YC:PT:=
 (.brk ⟨[(14,(pi 0)),(13,(.llen lP)),(12,lP),(4,pN),(3,pN),(2,pN)],[(4,pL),(3,pL),(2,pL),(1,(.mk [r0]))]⟩
(att b)
 (.brk ⟨[(27,(pi 0)),(26,oN),(25,(pc o1 3))],[]⟩
(atu b)
 (.brk ⟨[(40,(pi 0)),(39,qe),(38,(pc o1 4))],[]⟩
(atv b)
 (.ret (.tup [o2,o3,o4])))))
def aow:PT×List (Shp×PT):=(YC b,[(.lp 0 [2,14,15] [2] [2,14] [2],NR b),(.lp 2 [3,27,28] [3] [3,27] [3],NS b),(.lp 4 [4,40,41] [4] [4,40] [4],NT b)])
def GD:A7.map told=some (aow (bp A7)):=by kernel_rfl
def azr:tree (ab A7)=YC xP:=bF GD
def aiC:round 0 [2,14,15] [2] [2,14] [2] (xP 0)=NR xP:=bh GD 0 λ_=>rfl
def aiD:round 2 [3,27,28] [3] [3,27] [3] (xP 1)=NS xP:=bh GD 1 λ_=>rfl
def aiE:round 4 [4,40,41] [4] [4,40] [4] (xP 2)=NT xP:=bh GD 2 λ_=>rfl
def A5:Option PC:=cF [6,7,8] [] Tryz.f112 112 []
def P9:Nat->PC:=bn A5
def atr:PC:=.block 0 [6,15,16] [] (.loop [6,15] [] (b 0))
def HE (b:Nat->PC):PT:=
 (.ite (aj de bX)
 (.blockS ⟨[],[]⟩ 1 [6,7,8,17,18,19,20,21,22,24,25,26,27] []
 (.call ⟨[(7,de)],[]⟩ [] 20 162 [r0,de]
 (.ite (aI fe (pi 0))
 (.ret fe)
 (.callc ⟨[],[]⟩ [] 26 r2 [r7]
 (.ite (.nt mj)
 (.ret (pi 1))
 (.next ⟨[],[]⟩)))))
 (.next ⟨[(15,(aF de (pi 1)))],[]⟩))
 (.exit 0 ⟨[(16,(aj de bX))],[]⟩))
def Yy:PT:=
 (.ite (aS (.llen r0) r1)
 (.ret (pi 6))
 (.brk ⟨[(15,(pi 0)),(14,(.llen r0)),(6,(pi 0))],[]⟩
(atr b)
 (.ret (pi 0))))
def aou:PT×List (Shp×PT):=(Yy b,[(.lp 0 [6,15,16] [] [6,15] [],HE b)])
def Uo:A5.map told=some (aou (bp A5)):=by kernel_rfl
def azn:tree (ab A5)=Yy P9:=bF Uo
def V6:round 0 [6,15,16] [] [6,15] [] (P9 0)=HE P9:=bh Uo 0 λ_=>rfl
def Kc:Option PC:=cF [4] [] Tryz.f162 162 []
def YB:PT:=
 (.chk (aq r0 r1)
 (.call ⟨[],[]⟩ [] 9 183 [(pn r0 r1)]
 (.ite (.nt r9)
 (.ret (pi 2))
 (.chk (.slok r0 (pi 0) r1)
 (.chk (aq r0 r1)
 (.call ⟨[],[]⟩ [] 18 184 [(.slc r0 (pi 0) r1),(pn r0 r1)]
 (.ite cf
 (.ret (pi 5))
 (.ret (pi 0)))))))))
def agN:Kc.map told=some (YB,[]):=by kernel_rfl
def azq:tree (ab Kc)=YB:=aU agN
def A6:Option PC:=cF [2,3,4,5] [] Tryz.f183 183 []
def Qa:Nat->PC:=bn A6
def ats:PC:=.block 0 [2,16,17] [] (.loop [2,16] [] (b 0))
def HF (b:Nat->PC):PT:=
 (.ite (aj bN de)
 (.chk (aq bX bN)
 (.ite (.pick (.nt (.pick (.pick (bk mi (.con (.v (.int .u8 97)))) (bI mi (.con (.v (.int .u8 122)))) pF) pT (.pick (bk mi (.con (.v (.int .u8 65)))) (bI mi (.con (.v (.int .u8 90)))) pF))) (.pick (peq bN (pi 0)) pT (.pick (aI mi (.con (.v (.int .u8 95)))) (.pick (aj mi (.con (.v (.int .u8 48)))) pT (aS mi (.con (.v (.int .u8 57))))) pF)) pF)
 (.ret pF)
 (.next ⟨[(16,(aF bN (pi 1)))],[]⟩)))
 (.exit 0 ⟨[(17,(aj bN de))],[]⟩))
def YA:PT:=
 (.ite (.pick (.cs .eql r0 (.con (.v (.string ⟨#[]⟩)))) pT (aS (.slen r0) (pi 20)))
 (.ret pF)
 (.chk (bI (.slen r0) cO)
 (.brk ⟨[(16,(pi 0)),(15,(.llen (.bytes r0))),(14,(.bytes r0)),(2,pF)],[]⟩
(ats b)
 (.ret pT))))
def aov:PT×List (Shp×PT):=(YA b,[(.lp 0 [2,16,17] [] [2,16] [],HF b)])
def Up:A6.map told=some (aov (bp A6)):=by kernel_rfl
def azp:tree (ab A6)=YA Qa:=bF Up
def V7:round 0 [2,16,17] [] [2,16] [] (Qa 0)=HF Qa:=bh Up 0 λ_=>rfl
def Kk:Option PC:=cF [4] [] Tryz.f184 184 []
def YT:PT:=
 (.call ⟨[],[]⟩ [] 7 204 [r0,r1]
 (.ret (bk r7 (pi 0))))
def agV:Kk.map told=some (YT,[]):=by kernel_rfl
def azI:tree (ab Kk)=YT:=aU agV
def Bm:Option PC:=cF [4,5] [] Tryz.f204 204 []
def Qi:Nat->PC:=bn Bm
def atV:PC:=.block 0 [4,8,9] [] (.loop [4,8] [] (b 0))
def H0 (b:Nat->PC):PT:=
 (.ite (aj r8 r7)
 (.chk (aq r0 r8)
 (.ite (.cs .eql r1 (pn r0 r8))
 (.ret r8)
 (.next ⟨[(8,uZ)],[]⟩)))
 (.exit 0 ⟨[(9,(aj r8 r7))],[]⟩))
def YZ:PT:=
 (.brk ⟨[(8,(pi 0)),(7,(.llen r0)),(4,(pi 0))],[]⟩
(atV b)
 (.ret (pi (-1))))
def aoL:PT×List (Shp×PT):=(YZ b,[(.lp 0 [4,8,9] [] [4,8] [],H0 b)])
def Ux:Bm.map told=some (aoL (bp Bm)):=by kernel_rfl
def azO:tree (ab Bm)=YZ Qi:=bF Ux
def Wp:round 0 [4,8,9] [] [4,8] [] (Qi 0)=H0 Qi:=bh Ux 0 λ_=>rfl
def J6:Option PC:=cF [2] [] Tryz.f113 113 []
def Ys:PT:=
 (.ret pT)
def agH:J6.map told=some (Ys,[]):=by kernel_rfl
def azg:tree (ab J6)=Ys:=aU agH
def J7:Option PC:=cF [3] [] Tryz.f114 114 []
def Yt:PT:=
 (.chk (aq (pc (.deref r1) 1) r0)
 (.call ⟨[],[]⟩ [] 10 115 [(.deref r1),(pn (pc (.deref r1) 1) r0)]
 (.ret dw)))
def agI:J7.map told=some (Yt,[]):=by kernel_rfl
def azh:tree (ab J7)=Yt:=aU agI
def A4:Option PC:=cF [4,6] [] Tryz.f115 115 [2,3]
def P8:Nat->PC:=bn A4
def atq:PC:=.block 0 [4,10,11] [] (.loop [4,10] [] (b 0))
def HC (b:Nat->PC):PT:=
 (.ite (aj dw r9)
 (.chk (aq r8 dw)
 (.chk CN
 (.chk (.nt (.an (.an (.nt (aj Vh (pi 1))) pT) (.nt CN)))
 (.ite (.pick (aj Vh (pi 1)) pT (aS Vh (pi 31)))
 (.ret pF)
 (.next ⟨[(10,(aF dw (pi 1)))],[]⟩)))))
 (.exit 0 ⟨[(11,(aj dw r9))],[]⟩))
def Yx:PT:=
 (.brk ⟨[(10,(pi 0)),(9,(.llen (pc (.mk [r1]) 4))),(8,(pc (.mk [r1]) 4)),(4,pF)],[(3,(.mk [r1])),(2,(.mk [r0]))]⟩
(atq b)
 (.call ⟨[(33,(.pick (aS (.llen (pc o3 4)) (pi 60)) pT (aS (.llen (pc o3 5)) (pi 200))))],[]⟩ [(33,false)] 39 116 [(pc o3 1),(.llen (pc o2 4))]
 (.call ⟨[(42,(.pick rT pT (.nt qh)))],[]⟩ [(42,false)] 48 116 [(pc o3 2),(.llen (pc o2 0))]
 (.ite (.pick Nu pT (.nt jY))
 (.ret pF)
 (.call ⟨[],[]⟩ [] 53 163 [(pc o3 3),(pi 0),(pi 6)]
 (.call ⟨[(54,Vw)],[]⟩ [(54,true)] 57 163 [(pc o3 4),(pi 101),(pi 1231)]
 (.call ⟨[(59,(.pick mq Nv pF))],[]⟩ [(59,true)] 62 163 [(pc o3 5),(pi 0),(pi 100000)]
 (.ret (.pick r59 oP pF)))))))))
def aot:PT×List (Shp×PT):=(Yx b,[(.lp 0 [4,10,11] [] [4,10] [],HC b)])
def Un:A4.map told=some (aot (bp A4)):=by kernel_rfl
def azm:tree (ab A4)=Yx P8:=bF Un
def V5:round 0 [4,10,11] [] [4,10] [] (P8 0)=HC P8:=bh Un 0 λ_=>rfl
def Ba:Option PC:=cF [6,7,8] [] Tryz.f163 163 []
def Qb:Nat->PC:=bn Ba
def atA:PC:=.block 0 [6,11,12] [] (.loop [6,11] [] (b 0))
def wN (b:Nat->PC):PT:=
 (.ite (aj bK dw)
 (.chk (aq r9 bK)
 (.chk (.nt (.an (.an (aS bK (pi 0)) (.an (.nt (.pick (aj (pn r9 bK) r1) pT (aS (pn r9 bK) r2))) pT)) (.nt (aq r0 (bm bK (pi 1))))))
 (.ite (.pick (.pick (aj (pn r9 bK) r1) pT (aS (pn r9 bK) r2)) pT (.pick (aS bK (pi 0)) (bI (pn r9 bK) (pn r0 (bm bK (pi 1)))) pF))
 (.ret pF)
 (.next ⟨[(11,(aF bK (pi 1)))],[]⟩))))
 (.exit 0 ⟨[(12,(aj bK dw))],[]⟩))
def YG:PT:=
 (.brk ⟨[(11,(pi 0)),(10,(.llen r0)),(9,r0),(6,pF)],[]⟩
(atA b)
 (.ret pT))
def aoz:PT×List (Shp×PT):=(YG b,[(.lp 0 [6,11,12] [] [6,11] [],wN b)])
def Uq:Ba.map told=some (aoz (bp Ba)):=by kernel_rfl
def azu:tree (ab Ba)=YG Qb:=bF Uq
def C9:round 0 [6,11,12] [] [6,11] [] (Qb 0)=wN Qb:=bh Uq 0 λ_=>rfl
def J8:Option PC:=cF [3] [] Tryz.f117 117 []
def Yu:PT:=
 (.chk (aq (pc (.deref r1) 3) r0)
 (.call ⟨[],[]⟩ [] 13 116 [(pc (pn (pc (.deref r1) 3) r0) 1),(.llen (pc (.deref r1) 1))]
 (.chk (.nt (.an (.an dx pT) (.nt (aq (pc (.deref r1) 3) r0))))
 (.call ⟨[(14,dx)],[]⟩ [(14,true)] 24 116 [(pc (pn (pc (.deref r1) 3) r0) 2),(.llen (pc (.deref r1) 2))]
 (.ret (.pick bX ji pF))))))
def agJ:J8.map told=some (Yu,[]):=by kernel_rfl
def azi:tree (ab J8)=Yu:=aU agJ
def J9:Option PC:=cF [3] [] Tryz.f118 118 []
def Yv:PT:=
 (.chk (aq (pc (.deref r1) 4) r0)
 (.call ⟨[],[]⟩ [] 9 119 [(pn (pc (.deref r1) 4) r0)]
 (.ret r9)))
def agK:J9.map told=some (Yv,[]):=by kernel_rfl
def azj:tree (ab J9)=Yv:=aU agK
def A8:Option PC:=cF [2] [] Tryz.f119 119 [1,3,4,6,19,8,16392,36]
def Ed:Nat->PC:=bn A8
def atw:PC:=.block 0 [2,3,12,13] [3] (.loop [2,3,12] [3] (b 0))
def atx:PC:=.block 2 [4,29,30] [4] (.loop [4,29] [4] (b 1))
def HG (b:Nat->PC):PT:=
 (.ite wC
 (.blockS ⟨[],[]⟩ 1 [2,3,6,14,15,17,18,19,20,21,22,23,24] [6,19,3]
 (.chk (aq dw bR)
 (.chk (bI (.llen (.app o3 (.lst [(pc (.setc Nc 0 qf) 0)]))) cO)
 (.call ⟨[(3,pN)],[(3,(.app o3 (.lst [(pc (.setc Nc 0 qf) 0)])))]⟩ [] 23 116 [(pc (.setc Nc 0 qf) 1),(pi 5)]
 (.ite (.nt gY)
 (.ret pF)
 (.next ⟨[],[]⟩)))))
 (.next ⟨[(12,CQ)],[]⟩))
 (.exit 0 ⟨[(13,wC)],[]⟩))
def NU (b:Nat->PC):PT:=
 (.ite (aj ml tA)
 (.chk (aq eF ml)
 (.chk (bI (.llen ah5) cO)
 (.next ⟨[(4,pN),(29,(aF ml (pi 1)))],[(4,ah5)]⟩)))
 (.exit 2 ⟨[(30,(aj ml tA))],[]⟩))
def YD:PT:=
 (.brk ⟨[(12,(pi 0)),(11,rQ),(10,zC),(4,pN),(3,pN),(2,pF)],[(4,pL),(3,pL),(1,(.mk [r0]))]⟩
(atw b)
 (.brk ⟨[(29,(pi 0)),(28,oN),(27,(pc o1 3))],[]⟩
(atx b)
 (.call ⟨[],[]⟩ [] 40 163 [o3,(pi 0),(pi 21)]
 (.call ⟨[(41,qj)],[]⟩ [(41,true)] 43 163 [o4,(pi 0),(pi 21)]
 (.ret (.pick tB u7 pF))))))
def aox:PT×List (Shp×PT):=(YD b,[(.lp 0 [2,3,12,13] [3] [2,3,12] [3],HG b),(.lp 2 [4,29,30] [4] [4,29] [4],NU b)])
def ME:A8.map told=some (aox (bp A8)):=by kernel_rfl
def azs:tree (ab A8)=YD Ed:=bF ME
def V8:round 0 [2,3,12,13] [3] [2,3,12] [3] (Ed 0)=HG Ed:=bh ME 0 λ_=>rfl
def aiF:round 2 [4,29,30] [4] [4,29] [4] (Ed 1)=NU Ed:=bh ME 1 λ_=>rfl
def Bb:Option PC:=cF [2,3] [] Tryz.f120 120 [1,4,6]
def Ef:Nat->PC:=bn Bb
def atC:PC:=.block 2 [2,50,51] [] (.loop [2,50] [] (b 0))
def atD:PC:=.block 0 [2,14,15] [] (.loop [2,14] [] (b 1))
def Da (b:Nat->PC):PT:=
 (.ite (aj nl oO)
 (.chk (aq jY nl)
 (.ite (.pick (peq (pc (.setc z3 0 (pn jY nl)) 0) (pc o4 0)) (peq (pc (.setc z3 0 (pn jY nl)) 1) (pc o4 1)) pF)
 (.ret (pi 5))
 (.next ⟨[(50,(aF nl (pi 1)))],[]⟩)))
 (.exit 2 ⟨[(51,(aj nl oO))],[]⟩))
def HL:PT:=
 (.ite rP
 (.blockS ⟨[(15,rP)],[]⟩ 1 [2,3,4,16,17,18,19,20,21,22,23,24,25,26,34,35,39,40,44,45,46,47,48,49,50,51] [4]
 (.chk (aq bR bX)
 (.call ⟨[(3,bX)],[(4,CW)]⟩ [] 24 116 [(pc CW 0),mf]
 (.call ⟨[(26,(.nt ji))],[]⟩ [(26,false)] 32 116 [(pc o4 1),mf]
 (.ite (.pick (.pick (.pick mj pT (.nt wI)) pT (aj (pc o4 2) (pi 1))) pT (aS (pc o4 2) (pi 20000)))
 (.ret (pi 1))
 (.chk (.slok (pc o1 5) (pi 0) r3)
 (.brk ⟨[(50,(pi 0)),(49,(.llen (.slc (pc o1 5) (pi 0) r3))),(48,(.slc (pc o1 5) (pi 0) r3))],[]⟩
(atC b)
 (.next ⟨[],[]⟩)))))))
 (.next ⟨[(14,(aF bX (pi 1)))],[]⟩))
 (.exit 0 ⟨[(15,rP)],[]⟩))
def YH:PT:=
 (.ite (aS (.llen wF) (pi 100))
 (.ret (pi 6))
 (.brk ⟨[(14,(pi 0)),(13,(.llen wF)),(12,wF),(2,(pi 0))],[(1,(.mk [r0]))]⟩
(atD b)
 (.ret (pi 0))))
def aoA:PT×List (Shp×PT):=(YH b,[(.lp 2 [2,50,51] [] [2,50] [],Da b),(.lp 0 [2,14,15] [] [2,14] [],HL b)])
def MG:Bb.map told=some (aoA (bp Bb)):=by kernel_rfl
def azv:tree (ab Bb)=YH Ef:=bF MG
def NV:round 2 [2,50,51] [] [2,50] [] (Ef 0)=Da Ef:=bh MG 0 λ_=>rfl
def Wb:round 0 [2,14,15] [] [2,14] [] (Ef 1)=HL Ef:=bh MG 1 λ_=>rfl
def A9:Option PC:=cF [2] [] Tryz.f121 121 [1,4,6]
def Ee:Nat->PC:=bn A9
def aty:PC:=.block 0 [2,14,15] [] (.loop [2,14] [] (b 0))
def atz:PC:=.block 2 [2,69,70] [] (.loop [2,69] [] (b 1))
def HI (b:Nat->PC):PT:=
 (.ite rP
 (.blockS ⟨[],[]⟩ 1 [2,4,16,17,18,19,20,21,22,23,24,25,33,34,40,41,47,48,54,55,60] [4]
 (.chk (aq bR bX)
 (.call ⟨[],[(4,(.setc z5 0 (pn bR bX)))]⟩ [] 23 116 [(pc (.setc z5 0 (pn bR bX)) 0),wG]
 (.call ⟨[(25,(.nt gY))],[]⟩ [(25,false)] 31 116 [(pc o4 1),wG]
 (.call ⟨[(41,(.pick (.pick jX pT (.nt rS)) pT (peq (pc o4 0) (pc o4 1))))],[]⟩ [(41,false)] 45 116 [(bm (pc o4 2) (pi 1)),(pi 1073741824)]
 (.call ⟨[(48,(.pick tB pT (.nt rV)))],[]⟩ [(48,false)] 52 116 [(bm (pc o4 3) (pi 1)),(pi 1073741824)]
 (.call ⟨[(55,(.pick jY pT (.nt C1)))],[]⟩ [(55,false)] 58 116 [(pc o4 4),(pi 100001)]
 (.ite (.pick C2 pT (.nt G4))
 (.ret (pi 1))
 (.next ⟨[],[]⟩))))))))
 (.next ⟨[(14,(aF bX (pi 1)))],[]⟩))
 (.exit 0 ⟨[(15,rP)],[]⟩))
def HJ (b:Nat->PC):PT:=
 (.ite (aj zE r68)
 (.blockS ⟨[],[]⟩ 3 [2,6,71,72,73,74,75,76,77,78,79,80,84,85,91,92,96] [6]
 (.chk (aq wK zE)
 (.call ⟨[],[(6,(.setc z3 0 (pn wK zE)))]⟩ [] 78 116 [(pc (.setc z3 0 (pn wK zE)) 0),qe]
 (.ite (.pick (.pick (.pick (.nt r78) pT (aj (pc o6 1) (pi 0))) pT (aS (pc o6 1) (pc o6 2))) pT (aS (pc o6 2) (pi 100000)))
 (.ret (pi 1))
 (.next ⟨[],[]⟩))))
 (.next ⟨[(69,(aF zE (pi 1)))],[]⟩))
 (.exit 2 ⟨[(70,(aj zE r68))],[]⟩))
def YE:PT:=
 (.ite (aS (.llen CP) (pi 100))
 (.ret (pi 6))
 (.brk ⟨[(14,(pi 0)),(13,(.llen CP)),(12,CP),(2,(pi 0))],[(1,(.mk [r0]))]⟩
(aty b)
 (.ite (aS zx (pi 20))
 (.ret (pi 6))
 (.brk ⟨[(69,(pi 0)),(68,zx),(67,(pc o1 7))],[]⟩
(atz b)
 (.ret (pi 0))))))
def aoy:PT×List (Shp×PT):=(YE b,[(.lp 0 [2,14,15] [] [2,14] [],HI b),(.lp 2 [2,69,70] [] [2,69] [],HJ b)])
def MF:A9.map told=some (aoy (bp A9)):=by kernel_rfl
def azt:tree (ab A9)=YE Ee:=bF MF
def V9:round 0 [2,14,15] [] [2,14] [] (Ee 0)=HI Ee:=bh MF 0 λ_=>rfl
def Wa:round 2 [2,69,70] [] [2,69] [] (Ee 1)=HJ Ee:=bh MF 1 λ_=>rfl
def Km:Option PC:=cF [4] [] Tryz.f73 73 [2]
def Zd:PT:=
 (.ret (.pick (bk r1 (pi 0)) (aj r1 (.llen lP)) pF))
def ag0:Km.map told=some (Zd,[]):=by kernel_rfl
def azR:tree (ab Km)=Zd:=aU ag0
def Ko:Option PC:=cF [2] [] Tryz.f74 74 []
def Ze:PT:=
 (.ret (.pick (bk r0 (pi 0)) (bI r0 (pi 100000)) pF))
def ag1:Ko.map told=some (Ze,[]):=by kernel_rfl
def azS:tree (ab Ko)=Ze:=aU ag1
def Kl:Option PC:=cF [2] [] Tryz.f75 75 [1]
def Zc:PT:=
 (.ret (.pick (peq jV (pi 0)) pT (peq jV (pi 1))))
def agX:Kl.map told=some (Zc,[]):=by kernel_rfl
def azQ:tree (ab Kl)=Zc:=aU agX
def Ez:Option PC:=cF [6,7,13,16,24,33,8,9] [] Tryz.f76 76 [3,4]
def oV:PT:=
 (.blockS ⟨[(12,(pc (.mk [r1]) 5))],[(4,(.mk [r1])),(3,(.mk [r0]))]⟩ 0 [6,7,13,14,16,17,24,25,33,34] []
 (.iteS ⟨[],[]⟩ (peq bR (pi 0)) [6,7,16,17,24,25,33,34] []
 (.ret (.tup [r2,(pi 0)]))
 (.iteS ⟨[],[]⟩ (peq bR (pi 1)) [6,7,24,25,33,34] []
 (.call ⟨[],[]⟩ [] 21 122 [r2,(.mk [(pc o4 5),(pc o4 6),(pc o4 7)])]
 (.ret (.tup [(.tget jh 0),(.tget jh 1)])))
 (.iteS ⟨[],[]⟩ (peq bR (pi 2)) [6,7,33,34] []
 (.call ⟨[],[]⟩ [] 30 122 [(pc o4 8),(.mk [(pc o4 5),(pc o4 6),(pc o4 7)])]
 (.ret (.tup [(.tget rR 0),(.tget rR 1)])))
 (.iteS ⟨[],[]⟩ (peq bR (pi 4)) [6,7] []
 (.call ⟨[],[]⟩ [] 41 89 [(aA 8 o3),(pc o4 9),(pc o4 10)]
 (.ret (.tup [(aF (pc o4 8) (.tget tB 0)),(.tget tB 1)])))
 (.next ⟨[],[]⟩)
 (.next ⟨[],[]⟩))
 (.next ⟨[],[]⟩))
 (.next ⟨[],[]⟩))
 (.next ⟨[],[]⟩))
 (.ret (.tup [(pc o4 6),(pi 0)])))
def agZ:Ez.map told=some (oV,[]):=by kernel_rfl
def zS:tree (ab Ez)=oV:=aU agZ
def Ey:Option PC:=cF [4,5] [] Tryz.f122 122 [3]
def Dw:PT:=
 (.ite (.pick (aj (pc (.mk [r1]) 1) (pi 0)) pT (aS (pc (.mk [r1]) 1) (pi 20000)))
 (.ret (.tup [(pi 0),(pi 3)]))
 (.iteS ⟨[],[(3,(.mk [r1]))]⟩ (peq (pc (.mk [r1]) 2) (pi 1)) [4,5] []
 (.call ⟨[],[]⟩ [] 20 164 [r0,(pc o3 1)]
 (.ret (.tup [(.tget fe 0),(.tget fe 1)])))
 (.next ⟨[],[]⟩)
 (.ret (.tup [(aF r0 (pc o3 1)),(pi 0)]))))
def agY:Ey.map told=some (Dw,[]):=by kernel_rfl
def ON:tree (ab Ey)=Dw:=aU agY
def Et:Option PC:=cF [4,5,6,7,8,9] [] Tryz.f164 164 []
def OF:PT:=
 (.call ⟨[],[]⟩ [] 11 165 [r0]
 (.ite (.pick (.pick (.nt bK) pT (aj r1 (pi (-5000)))) pT (aS r1 (pi 5000)))
 (.ret (.tup [(pi 0),(pi 3)]))
 (.call ⟨[],[]⟩ [] 23 185 [r0]
 (.chk (aI (pi 12) (pi 0))
 (.call ⟨[(41,(.tget gY 2)),(40,(aF (.ai .rem .i64 Ng (pi 12)) (pi 1))),(39,(.ai .quo .i64 Ng (pi 12)))],[]⟩ [] 44 187 [(.ai .quo .i64 Ng (pi 12)),(aF (.ai .rem .i64 Ng (pi 12)) (pi 1))]
 (.call ⟨[],[]⟩ [] 46 186 [qh,qj,(.mn tB wJ)]
 (.ret (.tup [(.tget CZ 0),(.tget CZ 1)]))))))))
def afZ:Et.map told=some (OF,[]):=by kernel_rfl
def ajw:tree (ab Et)=OF:=aU afZ
def Jz:Option PC:=cF [2] [] Tryz.f165 165 []
def Xu:PT:=
 (.ret (.pick (bI (pi 0) r0) (bI r0 (pi 100000)) pF))
def af6:Jz.map told=some (Xu,[]):=by kernel_rfl
def ayd:tree (ab Jz)=Xu:=aU af6
def Jv:Option PC:=cF [2,3,4,5,6,7,8,9] [] Tryz.f185 185 []
def Xq:PT:=
 (.chk (aI (pi 146097) (pi 0))
 (.chk (aI (pi 1460) (pi 0))
 (.chk (aI (pi 36524) (pi 0))
 (.chk (aI (pi 146096) (pi 0))
 (.chk (aI (pi 365) (pi 0))
 (.chk (aI (pi 4) (pi 0))
 (.chk CN
 (.chk (aI (pi 153) (pi 0))
 (.chk (aI (pi 5) (pi 0))
 (.ret (.tup [(.pick (aj ahH (pi 3)) (aF ahL (pi 1)) ahL),ahH,(aF (bm (bm (.ai .rem .i64 (aF r0 (pi 730425)) (pi 146097)) (bm (aF (.ai .mul .i64 (pi 365) zA) (.ai .quo .i64 zA (pi 4))) (.ai .quo .i64 zA (pi 100)))) (.ai .quo .i64 (aF (.ai .mul .i64 (pi 153) Np) (pi 2)) (pi 5))) (pi 1))])))))))))))
def af1:Jv.map told=some (Xq,[]):=by kernel_rfl
def ax8:tree (ab Jv)=Xq:=aU af1
def Jx:Option PC:=cF [4] [] Tryz.f187 187 []
def OH:PT:=
 (.ite (peq r1 (pi 12))
 (.ret (pi 31))
 (.call ⟨[],[]⟩ [] 10 205 [r0,(aF r1 (pi 1)),(pi 1)]
 (.call ⟨[],[]⟩ [] 13 205 [r0,r1,(pi 1)]
 (.ret (bm dw dx)))))
def af3:Jx.map told=some (OH,[]):=by kernel_rfl
def ayb:tree (ab Jx)=OH:=aU af3
def Ev:Option PC:=cF [6,0,1] [] Tryz.f205 205 []
def OI:PT:=
 (.chk (aI (pi 4) (pi 0))
 (.chk CN
 (.chk (aI (pi 400) (pi 0))
 (.chk (aI (pi 5) (pi 0))
 (.ret (bm (bm (aF (aF (aF (bm (aF (.ai .mul .i64 (pi 365) No) (.ai .quo .i64 No (pi 4))) (.ai .quo .i64 No (pi 100))) (.ai .quo .i64 No (pi 400))) (.ai .quo .i64 (aF (.ai .mul .i64 (pi 153) (bm (.pick (aj r1 (pi 3)) (aF r1 (pi 12)) r1) (pi 3))) (pi 2)) (pi 5))) r2) (pi 1)) (pi 730425)))))))
def af4:Ev.map told=some (OI,[]):=by kernel_rfl
def ajx:tree (ab Ev)=OI:=aU af4
def Eu:Option PC:=cF [6,7,8] [] Tryz.f186 186 []
def Du:PT:=
 (.call ⟨[(28,r2),(27,(.pick (.pick (.pick (.pick (aj r0 (pi 2000)) pT (aS r0 (pi 2300))) pT (aj r1 (pi 1))) pT (aS r1 (pi 12))) pT (aj r2 (pi 1))))],[]⟩ [(27,false)] 31 187 [r0,r1]
 (.ite (.pick eF pT (aS tA rS))
 (.ret (.tup [(pi 0),(pi 3)]))
 (.call ⟨[],[]⟩ [] 37 205 [r0,r1,r2]
 (.call ⟨[(8,mm)],[]⟩ [] 39 165 [mm]
 (.ite (.nt qh)
 (.ret (.tup [(pi 0),(pi 3)]))
 (.ret (.tup [r8,(pi 0)])))))))
def af0:Eu.map told=some (Du,[]):=by kernel_rfl
def OG:tree (ab Eu)=Du:=aU af0
def xX:Option PC:=cF [6,7] [] Tryz.f89 89 [3,9]
def P7:Nat->PC:=bn xX
def atp:PC:=.block 0 [6,7,13,14] [] (.loop [6,7,13] [] (b 0))
def wM (b:Nat->PC):PT:=
 (.ite (aj dx bR)
 (.chk (aq bK dx)
 (.ite (.pick (peq (pc (.setc z3 0 (pn bK dx)) 0) r1) (peq (pc (.setc z3 0 (pn bK dx)) 1) r2) pF)
 (.ret (.tup [(pc (.setc z3 0 (pn bK dx)) 2),(pi 0)]))
 (.next ⟨[(13,(aF dx (pi 1)))],[]⟩)))
 (.exit 0 ⟨[(14,(aj dx bR))],[]⟩))
def OM:PT:=
 (.brk ⟨[(13,(pi 0)),(12,(.llen wF)),(11,wF),(7,(pi 0)),(6,(pi 0))],[]⟩
(atp b)
 (.ret (.tup [(pi 0),(pi 4)])))
def aos:PT×List (Shp×PT):=(OM b,[(.lp 0 [6,7,13,14] [] [6,7,13] [],wM b)])
def Um:xX.map told=some (aos (bp xX)):=by kernel_rfl
def ajz:tree (ab xX)=OM P7:=bF Um
def C8:round 0 [6,7,13,14] [] [6,7,13] [] (P7 0)=wM P7:=bh Um 0 λ_=>rfl
def Bo:Option PC:=cF [6,7,8,2,9,10] [] Tryz.f77 77 [3]
def Qk:Nat->PC:=bn Bo
def atW:PC:=.block 0 [] [] (.loop [2,6,7] [] (b 0))
def Wq (b:Nat->PC):PT:=
 (.blockS ⟨[],[]⟩ 1 [2,6,7,9,10,14,15,16,17,18,19,20,21,22,23,24,25,26,27,28,29,30,31,32,34] []
 (.call ⟨[],[]⟩ [] 17 124 [(aA 8 o3),r8,r2]
 (.chk (aq (pc o3 1) r1)
 (.call ⟨[(2,jW)],[]⟩ [] 25 125 [(pn (pc o3 1) r1),jW]
 (.ite (aI (.tget jX 1) (pi 0))
 (.ret (.tup [(pi 0),(pi 3)]))
 (.ite (peq (.tget jX 0) r2)
 (.ret (.tup [r2,(pi 0)]))
 (.next ⟨[(2,(.tget jX 0))],[]⟩))))))
 (.next ⟨[],[]⟩))
def Zf:PT:=
 (.call ⟨[(7,(pi 0)),(6,(pi 0))],[(3,(.mk [r0]))]⟩ [] 13 123 [jU,r1]
 (.brk ⟨[(8,dx)],[]⟩
(atW b)
 (.next ⟨[],[]⟩)))
def aoN:PT×List (Shp×PT):=(Zf b,[(.lp 0 [] [] [2,6,7] [],Wq b)])
def Uz:Bo.map told=some (aoN (bp Bo)):=by kernel_rfl
def azT:tree (ab Bo)=Zf Qk:=bF Uz
def awq:round 0 [] [] [2,6,7] [] (Qk 0)=Wq Qk:=bh Uz 0 λ_=>rfl
def Bp:Option PC:=cF [6,7,2] [] Tryz.f124 124 [3,9]
def Ej:Nat->PC:=bn Bp
def atX:PC:=.block 2 [2,7,14,15] [] (.loop [2,7,14] [] (b 0))
def atY:PC:=.block 0 [2,7,10] [] (.loop [2,7] [] (b 1))
def Db (b:Nat->PC):PT:=
 (.ite rP
 (.chk (aq bR bX)
 (.next ⟨[(2,(.pick ahK (aF (pc CW 2) (pi 1)) r2)),(7,(.pick ahK pT r7)),(14,(aF bX (pi 1)))],[]⟩))
 (.exit 2 ⟨[(15,rP)],[]⟩))
def N0:PT:=
 (.ite r7
 (.blockS ⟨[(10,r7)],[]⟩ 1 [2,7,11,12,13,14,15] []
 (.brk ⟨[(14,(pi 0)),(13,(.llen (pc o3 7))),(12,(pc o3 7)),(7,pF)],[]⟩
(atX b)
 (.next ⟨[],[]⟩))
 (.next ⟨[],[]⟩))
 (.exit 0 ⟨[(10,r7)],[]⟩))
def Zg:PT:=
 (.brk ⟨[(7,pT)],[(3,(.mk [r0]))]⟩
(atY b)
 (.ret r2))
def aoO:PT×List (Shp×PT):=(Zg b,[(.lp 2 [2,7,14,15] [] [2,7,14] [],Db b),(.lp 0 [2,7,10] [] [2,7] [],N0 b)])
def MK:Bp.map told=some (aoO (bp Bp)):=by kernel_rfl
def azU:tree (ab Bp)=Zg Ej:=bF MK
def NZ:round 2 [2,7,14,15] [] [2,7,14] [] (Ej 0)=Db Ej:=bh MK 0 λ_=>rfl
def aiJ:round 0 [2,7,10] [] [2,7] [] (Ej 1)=N0 Ej:=bh MK 1 λ_=>rfl
def Az:Option PC:=cF [6] [] Tryz.f125 125 [2,4,5]
def PG:Nat->PC:=bn Az
def ane:PC:=.each cf [16] [4,5] (some (.tup [(pc o4 0),(pc o5 0)])) (b 0)
def VG (b:Nat->PC):PT:=
 (.exit 1000000007 ⟨[],[(4,(.setc o4 0 bN)),(5,(.setc o5 0 (pi 0)))]⟩)
def Xp:PT:=
 (.call ⟨[],[(5,GQ),(4,GQ),(2,(.mk [r0]))]⟩ [] 8 165 [r1]
 (.ite (.nt r8)
 (.ret (.tup [(pc (.setc o4 0 (pi 0)) 0),(pc (.setc o5 0 (pi 3)) 0)]))
 (.call ⟨[],[]⟩ [] 15 166 [(aA 6 o2),r1,(.mn (aF r1 (pi 400)) (pi 100000))]
 (.blockS ⟨[],[]⟩ 0 [] [4,5]
 (.callc ⟨[],[]⟩ [] 18 de []
 (.brk ⟨[],[]⟩
(ane b)
 (.next ⟨[],[]⟩)))
 (.ret (.tup [(pc (.setc o4 0 (pi 0)) 0),(pc (.setc o5 0 (pi 3)) 0)]))))))
def anW:PT×List (Shp×PT):=(Xp b,[(.ea [4,5],VG b)])
def TW:Az.map told=some (anW (bp Az)):=by kernel_rfl
def ax7:tree (ab Az)=Xp PG:=bF TW
def awl:sc [4,5] (PG 0)=VG PG:=W7 TW 0 λ_=>rfl
def Jw:Option PC:=cF [6] [] Tryz.f166 166 [3,4,5]
def Xr:PT:=
 (.ret (.clo 188 [(.ref (pc (.mk [r1]) 0)),(.ref (pc (.mk [r2]) 0)),(.ref (aA 6 (.mk [r0])))]))
def af2:Jw.map told=some (Xr,[]):=by kernel_rfl
def aya:tree (ab Jw)=Xr:=aU af2
def ui:Option PC:=EB {ctx with fr:=[5],nh:=[]} Tryz.f188 [(.ref I),(.ref I),(.ref Y0)] [I] 1000 [1000]
def PH:Nat->PC:=bn ui
def asM:PC:=.block 0 [5,7,8,9] [1000] (.loop [5] [1000] (b 0))
def NC (b:Nat->PC):PT:=
 (.ite (bI r5 (.deref r2))
 (.blockS ⟨[],[]⟩ 1 [12,13,14,15,20] [1000]
 (.call ⟨[],[]⟩ [] 14 189 [(.deref r3),r5]
 (.call ⟨[(15,bX)],[(1000,ah8)]⟩ [(15,true)] 18 1000000009 [ah8]
 (.ite (.pick de (.nt cf) pF)
 (.ret (.o 1000))
 (.next ⟨[],[]⟩))))
 (.next ⟨[(5,zy)],[]⟩))
 (.exit 0 ⟨[(7,r5),(8,(.deref r2)),(9,(bI r5 (.deref r2)))],[]⟩))
def Xs:PT:=
 (.brk ⟨[(5,(.deref r1))],[]⟩
(asM b)
 (.ret (.o 1000)))
def anX:PT×List (Shp×PT):=(Xs b,[(.lp 0 [5,7,8,9] [1000] [5] [1000],NC b)])
def TX:ui.map told=some (anX (bp ui)):=by kernel_rfl
def ax9:tree (ab ui)=Xs PH:=bF TX
def aiq:round 0 [5,7,8,9] [1000] [5] [1000] (PH 0)=NC PH:=bh TX 0 λ_=>rfl
def aly:∀yv,EB {ctx with fr:=[5],nh:=[],yv:=yv} Tryz.f188 [(.ref I),(.ref I),(.ref Y0)] [I] 1000 [1000]=some (ab ui):=λyv=>(show _=ui by kernel_rfl).trans (av ui TX)
def Jy:Option PC:=cF [4,5,6,7] [] Tryz.f189 189 [2]
def Xt:PT:=
 (.call ⟨[],[(2,(.mk [r0]))]⟩ [] 10 185 [r1]
 (.chk (aI (pi 7) (pi 0))
 (.call ⟨[(7,(.tget dw 2)),(6,(.tget dw 1))],[]⟩ [] 19 168 [(pc o2 3),(.ai .rem .i64 (aF r1 (pi 5)) (pi 7))]
 (.call ⟨[(21,(.nt jC))],[]⟩ [(21,true)] 28 168 [(pc o2 4),(aF (.ai .mul .i64 (pi 100) r6) r7)]
 (.call ⟨[(31,(.pick jh (.nt tA) pF))],[]⟩ [(31,true)] 35 168 [(pc o2 5),r1]
 (.ret (.pick rS (.nt rU) pF)))))))
def af5:Jy.map told=some (Xt,[]):=by kernel_rfl
def ayc:tree (ab Jy)=Xt:=aU af5
def Jq:Option PC:=cF [] [] Tryz.f33 33 [2,4,5,6,43]
def Xj:PT:=
 (.chk (aq (pc (.mk [r0]) 25) r1)
 (.call ⟨[],[(6,(.setc CS 0 (.mk [r1,(pc GX 0),(pc GX 2),(pi 0),(pi 0),(pi 0),(.pick (aI (pc GX 0) (pi 1)) (peq (.ai .and .i64 (pc GX 8) (pi 1)) (pi 0)) pF)]))),(5,GX),(4,CS),(2,(.mk [r0]))]⟩ [] 33 66 [Vj,r1,(pc (.mk [r0]) 9)]
 (.iteS ⟨[],[]⟩ (.nt rT) [] [6]
 (.call ⟨[(36,(pc o2 29))],[]⟩ [] 39 68 [(aA 31 o2),(pi 1),r1]
 (.call ⟨[],[]⟩ [] 42 68 [(aA 31 o2),(pi 2),r1]
 (.call ⟨[],[]⟩ [] 44 67 [(.lst [la,qh,Nu])]
 (.next ⟨[],[(6,(.setc o6 3 wJ))]⟩))))
 (.next ⟨[],[]⟩)
 (.call ⟨[],[]⟩ [] 49 69 [(aA 31 o2),r1]
 (.ret (aA 7 (.setc o4 0 (aA 7 (.pick (.pick (peq (pc o5 0) (pi 1)) pT (peq (pc o5 0) (pi 4))) (.setc Vt 5 (.mn (pc Vt 5) (pc o5 5))) Vt)))))))))
def afU:Jq.map told=some (Xj,[]):=by kernel_rfl
def ax0:tree (ab Jq)=Xj:=aU afU
def KB:Option PC:=cF [6] [] Tryz.f66 66 [3]
def Zt:PT:=
 (.call ⟨[(16,(.pick (bk r1 (pi 0)) (aj r1 (.llen rM)) pF))],[]⟩ [(16,true)] 19 107 [(aA 19 (.mk [r0])),r2]
 (.ret (.pick bN (.look jC r1 pF) pF)))
def ahd:KB.map told=some (Zt,[]):=by kernel_rfl
def az8:tree (ab KB)=Zt:=aU ahd
def Bs:Option PC:=cF [4] [] Tryz.f107 107 [2,5,7]
def Qn:Nat->PC:=bn Bs
def at3:PC:=.block 0 [12,13] [5] (.loop [12] [5] (b 0))
def H5 (b:Nat->PC):PT:=
 (.ite wC
 (.chk (aq dw bR)
 (.ite (.pick (peq (pc (.setc z9 0 qf) 0) (pi 7)) (bI (pc (.setc z9 0 qf) 6) r1) pF)
 (.chk (aj (.mlen o5) cO)
 (.next ⟨[(12,CQ)],[(5,(.put o5 (pc (.setc z9 0 qf) 4) pT))]⟩))
 (.next ⟨[(12,CQ)],[]⟩)))
 (.exit 0 ⟨[(13,wC)],[]⟩))
def Zu:PT:=
 (.brk ⟨[(12,(pi 0)),(11,(.llen (pc (.mk [r0]) 17))),(10,(pc (.mk [r0]) 17)),(5,pN)],[(5,(.con (.map [])))]⟩
(at3 b)
 (.ret o5))
def aoS:PT×List (Shp×PT):=(Zu b,[(.lp 0 [12,13] [5] [12] [5],H5 b)])
def UC:Bs.map told=some (aoS (bp Bs)):=by kernel_rfl
def az9:tree (ab Bs)=Zu Qn:=bF UC
def Wu:round 0 [12,13] [5] [12] [5] (Qn 0)=H5 Qn:=bh UC 0 λ_=>rfl
def Jr:Option PC:=cF [6] [] Tryz.f68 68 [3,7]
def Xk:PT:=
 (.call ⟨[],[]⟩ [] 23 71 [jU,(pc (.mk [r0]) 8),r1,(aA 24 (.setc ahT 0 (.mk [Vj,r2,r2,(pi (-1)),(pc (.mk [r0]) 30),(pc (.mk [r0]) 9)])))]
 (.call ⟨[],[]⟩ [] 24 65 [gY]
 (.ret ji)))
def afV:Jr.map told=some (Xk,[]):=by kernel_rfl
def ax1:tree (ab Jr)=Xk:=aU afV
end Rm
