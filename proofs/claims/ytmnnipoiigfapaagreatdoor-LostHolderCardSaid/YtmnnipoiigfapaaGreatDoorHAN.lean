/-
  The functions of this seat, compiled (3).
-/
import Derived.Test.YtmnnipoiigfapaaGreatDoorHAK
import Derived.KernelRfl
set_option linter.unusedVariables false
set_option maxRecDepth 100000
noncomputable section
namespace Rm
open Go Go.Proofs Cx
def zl:Option PC:=cF [2,3,5,7,8,38,47,10,11,12] [] Tryz.f147 147 [1,4,6,12294,9]
def B9:Nat→PC:=bx zl
def anD (b:Nat→PC):PC:=.block 0 [2,3,20,21] [4] (.loop [2,3,20] [4] (b 0))
def anE (b:Nat→PC):PC:=.block 3 [2,3,10,82,83] [] (.loop [2,3,10,82] [] (b 1))
def Fl (b:Nat→PC):PT:=
 (.ite (aj eP jz)
 (.blockS ⟨[],[]⟩ 1 [2,3,5,6,7,8,22,23,24,25,26,27,28,29,30,31,33,34,35,36] [6,12294,4]
 (.chk (ar kz eP)
 (.call ⟨[(5,eP)],[]⟩ [] 27 147 [(.mk [(pc (.setc my 0 (pn kz eP)) 0),(pc (.setc my 0 (pn kz eP)) 1),(pc (.setc my 0 (pn kz eP)) 2)])]
 (.ite (aR (.tget fP 1) (pi 0))
 (.ret (.tup [(pi 0),(.tget fP 1)]))
 (.chk (ar o4 r5)
 (.next ⟨[],[(4,(.setn o4 r5 0 (.tget fP 0)))]⟩)))))
 (.next ⟨[(20,(bu eP (pi 1)))],[]⟩))
 (.exit 0 ⟨[(21,(aj eP jz))],[]⟩))
def vl (b:Nat→PC):PT:=
 (.ite (aj lb vj)
 (.chk (ar vi lb)
 (.ite (.pick (af (pn vi lb) (pi (-1))) (af cM (pi (-1))) pF)
 (.chk (ar o4 lb)
 (.ite (aR (pn o4 lb) (.pick (af (pn vi lb) (pi (-1))) (pn o4 lb) (pn vi lb)))
 (.ret (.tup [(pi 0),(pi 11)]))
 (.next ⟨[(10,(pn o4 lb)),(82,(bu lb (pi 1)))],[]⟩)))
 (.chk (ar o4 lb)
 (.ite (aR (pn o4 lb) (.pick (af (pn vi lb) (pi (-1))) cM (pn vi lb)))
 (.ret (.tup [(pi 0),(pi 11)]))
 (.next ⟨[(82,(bu lb (pi 1)))],[]⟩)))))
 (.exit 3 ⟨[(83,(aj lb vj))],[]⟩))
def Up (b:Nat→PC):PT:=
 (.chk (.an (cX qf (pi 0)) (bU qf cL))
 (.chk (af qf qf)
 (.brk ⟨[(20,(pi 0)),(19,qf),(18,tq),(4,pN),(3,(pi 0)),(2,(pi 0))],[(4,(.rep qf (pi 0))),(1,(.mk [r0]))]⟩
(anD b)
 (.blockS ⟨[],[]⟩ 2 [2,3,38,39,40,41,42,46,47,48,49,50,51,55,56,60] []
 (.iteS ⟨[],[]⟩ (.pick (aj (pc o1 0) (pi 0)) pT (aV (pc o1 0) (pi 13))) [2,3,47,48,49,50,51,55,56,60] []
 (.ret (.tup [(pi 0),(pi 1)]))
 (.iteS ⟨[],[]⟩ (.pick (.pick (af (pc o1 0) (pi 0)) pT (af (pc o1 0) (pi 1))) pT (af (pc o1 0) (pi 2))) [2,3] []
 (.call ⟨[],[]⟩ [] 62 158 [(.mk [(pc o1 0),(pc o1 1),(pc o1 2)])]
 (.ret (.tup [(.tget nw 0),(.tget nw 1)])))
 (.next ⟨[],[]⟩)
 (.next ⟨[],[]⟩))
 (.next ⟨[],[]⟩))
 (.call ⟨[],[]⟩ [] 67 159 [(pc o1 0)]
 (.ite (.pick (aR (.llen o4) (.llen (pc (.setc lF 0 rB) 0))) pT (aR (pc o1 1) (pi 0)))
 (.ret (.tup [(pi 0),(pi 2)]))
 (.brk ⟨[(82,(pi 0)),(81,(.llen (pc (.setc lF 0 rB) 0))),(80,(pc (.setc lF 0 rB) 0)),(10,(pi (-1)))],[(9,(.setc lF 0 rB))]⟩
(anE b)
 (.ite (af (pc o9 1) (pi (-1)))
 (.ret (.tup [cM,(pi 0)]))
 (.ret (.tup [(pc o9 1),(pi 0)]))))))))))
def ail (b:Nat→PC):PT×List (Shp×PT):=(Up b,[(.lp 0 [2,3,20,21] [4] [2,3,20] [4],Fl b),(.lp 3 [2,3,10,82,83] [] [2,3,10,82] [],vl b)])
theorem JE:zl.map told=some (ail (br zl)):=by kernel_rfl
theorem atz:tree (ae zl)=Up B9:=bN JE
theorem RR:round 0 [2,3,20,21] [4] [2,3,20] [4] (B9 0)=Fl B9:=bj JE 0 fun _=>rfl
theorem Bk:round 3 [2,3,10,82,83] [] [2,3,10,82] [] (B9 1)=vl B9:=bj JE 1 fun _=>rfl
def Hw:Option PC:=cF [2,3,12,20,4,5] [] Tryz.f158 158 [1]
def Us:PT:=
 (.ite (aV qf (pi 0))
 (.ret (.tup [(pi 0),(pi 2)]))
 (.blockS ⟨[(11,mA)],[(1,(.mk [r0]))]⟩ 0 [2,3,12,13,20,21] []
 (.iteS ⟨[],[]⟩ (af bF (pi 0)) [2,3,20,21] []
 (.call ⟨[],[]⟩ [] 16 162 [(pc o1 1)]
 (.ite (aR dh (pc o1 1))
 (.ret (.tup [(pi 0),(pi 3)]))
 (.ret (.tup [(pi 0),(pi 0)]))))
 (.ite (af bF (pi 1))
 (.ite (.pick (aj (pc o1 1) (pi 0)) pT (aV (pc o1 1) (pi 1)))
 (.ret (.tup [(pi 0),(pi 3)]))
 (.ret (.tup [(pi 1),(pi 0)])))
 (.next ⟨[],[]⟩))
 (.next ⟨[],[]⟩))
 (.call ⟨[],[]⟩ [] 33 160 [(pc o1 1)]
 (.ite (.nt (.tget A9 1))
 (.ret (.tup [(pi 0),(pi 10)]))
 (.ret (.tup [(.tget A9 0),(pi 0)]))))))
theorem abf:Hw.map told=some (Us,[]):=by kernel_rfl
theorem atD:tree (ae Hw)=Us:=ba abf
def Hv:Option PC:=cF [2] [] Tryz.f162 162 []
def Ur:PT:=
 (.ret (.mn (.mx r0 (pi (-1099511627776))) oD))
theorem abe:Hv.map told=some (Ur,[]):=by kernel_rfl
theorem atC:tree (ae Hv)=Ur:=ba abe
def Hs:Option PC:=cF [2,3,4,11] [] Tryz.f160 160 []
def Un:PT:=
 (.ite (.pick (aj r0 (pi 0)) pT (aV r0 (pi 19)))
 (.ret (.tup [(pi 0),pF]))
 (.ite (aj r0 (pi 7))
 (.ret (.tup [(pi 0),pT]))
 (.ret (.tup [(pi 1),pT]))))
theorem abb:Hs.map told=some (Un,[]):=by kernel_rfl
theorem atx:tree (ae Hs)=Un:=ba abb
def Hz:Option PC:=cF [4,8,13,17,21] [] Tryz.f159 159 [2]
def Uv:PT:=
 (.ite (af r0 (pi 3))
 (.ret (.mk [(pc (.setc lF 0 (.mk [(.lst [(pi 1)]),(pi 1)])) 0),(pc (.setc lF 0 (.mk [(.lst [(pi 1)]),(pi 1)])) 1)]))
 (.ite (.pick (af r0 (pi 4)) (af r0 (pi 4)) (af r0 (pi 5)))
 (.ret (.mk [(pc (.setc lF 0 (.mk [(.lst [(pi 1),(pi 1)]),(pi 1)])) 0),(pc (.setc lF 0 (.mk [(.lst [(pi 1),(pi 1)]),(pi 1)])) 1)]))
 (.ite (af r0 (pi 6))
 (.ret (.mk [(pc abV 0),(pc abV 1)]))
 (.ite (af r0 (pi 7))
 (.ret (.mk [(pc (.setc lF 0 (.mk [(.lst [(pi 0),(pi 0)]),(pi 1)])) 0),(pc (.setc lF 0 (.mk [(.lst [(pi 0),(pi 0)]),(pi 1)])) 1)]))
 (.ite (af r0 (pi 8))
 (.ret (.mk [(pc (.setc lF 0 (.mk [(.lst [(pi (-1)),(pi (-1))]),(pi 1)])) 0),(pc (.setc lF 0 (.mk [(.lst [(pi (-1)),(pi (-1))]),(pi 1)])) 1)]))
 (.ret (.mk [(pc (.setc lF 0 (.mk [(.lst [(pi 0),(pi 0)]),(pi 0)])) 0),(pc (.setc lF 0 (.mk [(.lst [(pi 0),(pi 0)]),(pi 0)])) 1)])))))))
theorem abi:Hz.map told=some (Uv,[]):=by kernel_rfl
theorem atI:tree (ae Hz)=Uv:=ba abi
def Hr:Option PC:=cF [5,6,8] [] Tryz.f105 105 [2,4,7]
def Um:PT:=
 (.call ⟨[],[(4,gf),(2,(.mk [r0]))]⟩ [] 11 133 [(.mk [mA,xK,tq])]
 (.ite (aR (.tget bF 1) (pi 0))
 (.ret Eo)
 (.call ⟨[],[]⟩ [] 21 134 [(.mk [r1]),(.mk [(pc o2 0),(pc o2 1),(pc o2 2)])]
 (.ret (.mk [(pc acm 0),(pc acm 1)])))))
theorem aba:Hr.map told=some (Um,[]):=by kernel_rfl
theorem atw:tree (ae Hr)=Um:=ba aba
def zm:Option PC:=cF [5,15,21,9,11] [] Tryz.f134 134 [2,3,4,6,33,7,8,10,12298,12]
def Mq:Nat→PC:=bx zm
def anF (b:Nat→PC):PC:=.block 1 [45,46] [7,8] (.loop [45] [7,8] (b 0))
def Fm (b:Nat→PC):PT:=
 (.ite (aj ry xO)
 (.blockS ⟨[],[]⟩ 2 [9,10,47,48,49,50,51,52,53,54,55,56,57,58,59,60,61] [10,12298,8,7]
 (.chk (ar rv ry)
 (.call ⟨[(54,ry),(52,ry)],[]⟩ [] 57 134 [(.mk [(pc o2 0)]),(.mk [(pc (.setc my 0 (pn rv ry)) 0),(pc (.setc my 0 (pn rv ry)) 1),(pc (.setc my 0 (pn rv ry)) 2)])]
 (.chk (ar o7 J9)
 (.chk (ar o8 rz)
 (.next ⟨[],[(8,(.setn o8 rz 0 (.tget Bb 1))),(7,(.setn o7 J9 0 (.tget Bb 0)))]⟩)))))
 (.next ⟨[(45,(bu ry (pi 1)))],[]⟩))
 (.exit 1 ⟨[(46,(aj ry xO))],[]⟩))
def FJ (b:Nat→PC):PT:=
 (.blockS ⟨[(14,(pc (.mk [r1]) 0))],[(4,gf),(3,(.mk [r1])),(2,(.mk [r0]))]⟩ 0 [5,15,16,21,22] [4]
 (.iteS ⟨[],[]⟩ (.pick (af cj (pi 0)) (af cj (pi 0)) (af cj (pi 1))) [5,21,22] [4]
 (.ret (.tup [(.mk [(pc (.setc o4 0 (.mk [pT,(pc o3 1)])) 0),(pc (.setc o4 0 (.mk [pT,(pc o3 1)])) 1)]),pL]))
 (.iteS ⟨[],[]⟩ (af cj (pi 2)) [5] [4]
 (.call ⟨[],[]⟩ [] 26 148 [(.mk [(pc o2 0)]),(pc o3 1)]
 (.ite (pc (.setc gf 0 jA) 0)
 (.ret (.tup [(.mk [(pc abS 0),(pc abS 1)]),pL]))
 (.ret (.tup [Eo,(.lst [(pc o3 1)])]))))
 (.next ⟨[],[]⟩)
 (.next ⟨[],[]⟩))
 (.next ⟨[],[]⟩))
 (.chk (.an (cX oE (pi 0)) (bU oE cL))
 (.chk (af oE oE)
 (.brk ⟨[(45,(pi 0)),(44,oE),(43,(pc o3 2)),(8,pN),(7,pN)],[(8,(.rep oE pL)),(7,(.rep oE gf))]⟩
(anF b)
 (.chk (.nt (.an (.an (af (pc o3 0) (pi 6)) pT) (.nt (ar o7 (pi 0)))))
 (.ite (.pick (af (pc o3 0) (pi 6)) (pc (pn o7 (pi 0)) 0) pF)
 (.chk (ar o7 (pi 0))
 (.chk (ar o7 Er)
 (.chk (ar o8 Er)
 (.ret (.tup [(.mk [(pc (.setc o4 0 (.sub (pn o7 Er) 0 2)) 0),(pc (.setc o4 0 (.sub (pn o7 Er) 0 2)) 1)]),(pn o8 Er)])))))
 (.call ⟨[],[]⟩ [] 88 149 [(pc o3 0),o7]
 (.ite (pc (.setc gf 0 Kd) 0)
 (.ret (.tup [(.mk [(pc abR 0),(pc abR 1)]),pL]))
 (.call ⟨[(92,xL)],[]⟩ [] 94 150 [o8]
 (.ret (.tup [(.mk [(pc (.setc o4 0 r92) 0),(pc (.setc o4 0 r92) 1)]),r94])))))))))))
def aim (b:Nat→PC):PT×List (Shp×PT):=(FJ b,[(.lp 1 [45,46] [7,8] [45] [7,8],Fm b)])
theorem Qe:zm.map told=some (aim (br zm)):=by kernel_rfl
theorem atE:tree (ae zm)=FJ Mq:=bN Qe
theorem RS:round 1 [45,46] [7,8] [45] [7,8] (Mq 0)=Fm Mq:=bj Qe 0 fun _=>rfl
def Hx:Option PC:=cF [5,6] [] Tryz.f148 148 [2,4]
def Ut:PT:=
 (.chk (.nt (.an (.an (.nt (cX r1 (.llen mA))) pT) (.nt (ar mA r1))))
 (.ite (.pick (cX r1 (.llen mA)) pT (.nt (pc (pn mA r1) 0)))
 (.ret (.mk [(pc (.setc gf 0 xL) 0),(pc (.setc gf 0 xL) 1)]))
 (.call ⟨[],[(4,gf),(2,(.mk [r0]))]⟩ [] 24 160 [r1]
 (.iteS ⟨[],[]⟩ (af (.tget oG 0) (pi 1)) [] [4]
 (.chk (ar (pc o2 0) r1)
 (.call ⟨[],[]⟩ [] 36 161 [(aR (pc (pn (pc o2 0) r1) 1) (pi 0))]
 (.ret (.mk [(pc (.setc o4 0 oI) 0),(pc (.setc o4 0 oI) 1)]))))
 (.next ⟨[],[]⟩)
 (.chk (ar (pc o2 0) r1)
 (.call ⟨[],[]⟩ [] 43 162 [(pc (pn (pc o2 0) r1) 1)]
 (.ret (.mk [(pc (.setc o4 0 (.mk [pT,rv])) 0),(pc (.setc o4 0 (.mk [pT,rv])) 1)]))))))))
theorem abg:Hx.map told=some (Ut,[]):=by kernel_rfl
theorem atG:tree (ae Hx)=Ut:=ba abg
def HA:Option PC:=cF [] [] Tryz.f161 161 [2]
def Uw:PT:=
 (.ite r0
 (.ret (.mk [(pc J3 0),(pc J3 1)]))
 (.ret (.mk [(pc J4 0),(pc J4 1)])))
theorem abj:HA.map told=some (Uw,[]):=by kernel_rfl
theorem atJ:tree (ae HA)=Uw:=ba abj
def Hu:Option PC:=cF [9,22,41,6,7,82,88,94] [] Tryz.f149 149 [4,5]
def Uq:PT:=
 (.blockS ⟨[(8,r0)],[(4,gf)]⟩ 0 [9,10,22,23] [4]
 (.iteS ⟨[],[]⟩ (af r8 (pi 3)) [22,23] [4]
 (.chk (ar r1 (pi 0))
 (.iteS ⟨[],[]⟩ (pc (pn r1 (pi 0)) 0) [] [4]
 (.chk (ar r1 (pi 0))
 (.call ⟨[],[]⟩ [] 20 161 [(af (pc (pn r1 (pi 0)) 1) (pi 0))]
 (.ret (.mk [(pc (.setc o4 0 eP) 0),(pc (.setc o4 0 eP) 1)]))))
 (.next ⟨[],[]⟩)
 (.ret Eo)))
 (.iteS ⟨[],[]⟩ (.pick (af r8 (pi 4)) (af r8 (pi 4)) (af r8 (pi 5))) [] [4]
 (.call ⟨[],[]⟩ [] 27 161 [(af r0 (pi 5))]
 (.chk (ar r1 (pi 0))
 (.chk (.nt (.an (.an (.nt ach) pT) (.nt (ar r1 (pi 1)))))
 (.ite (.pick ach pT (.an (.cb .eql (pc qe 0) (pc A0 0)) (.an (af (pc qe 1) (pc A0 1)) pT)))
 (.ret (.mk [(pc (.setc o4 0 A0) 0),(pc (.setc o4 0 A0) 1)]))
 (.next ⟨[],[]⟩)))))
 (.ite (af r8 (pi 6))
 (.chk (ar r1 (pi 1))
 (.chk (.nt (.an (.an (pc qe 0) pT) (.nt (ar r1 (pi 1)))))
 (.chk (.nt (.an (.an (pc qe 0) pT) (.nt (ar r1 (pi 2)))))
 (.ite (.pick (pc qe 0) (.an (.cb .eql (pc qe 0) (pc (pn r1 (pi 2)) 0)) (.an (af (pc qe 1) (pc (pn r1 (pi 2)) 1)) pT)) pF)
 (.ret (.mk [(pc (.setc o4 0 qe) 0),(pc (.setc o4 0 qe) 1)]))
 (.ret Eo)))))
 (.next ⟨[],[]⟩))
 (.next ⟨[],[]⟩))
 (.next ⟨[],[]⟩))
 (.chk (ar r1 (pi 0))
 (.chk (.nt (.an (.an (.nt (.nt (pc (pn r1 (pi 0)) 0))) pT) (.nt (ar r1 (pi 1)))))
 (.ite (.pick (.nt (pc (pn r1 (pi 0)) 0)) pT (.nt (pc qe 0)))
 (.ret Eo)
 (.chk (ar r1 (pi 1))
 (.blockS ⟨[(81,r0),(7,(pc qe 1)),(6,(pc (pn r1 (pi 0)) 1))],[]⟩ 1 [82,83,88,89,94,95] [4]
 (.iteS ⟨[],[]⟩ (.pick (af vj (pi 4)) (af vj (pi 4)) (af vj (pi 5))) [88,89,94,95] [4]
 (.call ⟨[],[]⟩ [] 87 161 [(af r0 (pi 4))]
 (.ret (.mk [(pc (.setc o4 0 Ey) 0),(pc (.setc o4 0 Ey) 1)])))
 (.iteS ⟨[],[]⟩ (af vj (pi 7)) [94,95] [4]
 (.call ⟨[],[]⟩ [] 93 161 [(aj r6 r7)]
 (.ret (.mk [(pc (.setc o4 0 Kf) 0),(pc (.setc o4 0 Kf) 1)])))
 (.iteS ⟨[],[]⟩ (af vj (pi 8)) [] [4]
 (.call ⟨[],[]⟩ [] 99 161 [(af r6 r7)]
 (.ret (.mk [(pc (.setc o4 0 Kg) 0),(pc (.setc o4 0 Kg) 1)])))
 (.next ⟨[],[]⟩)
 (.next ⟨[],[]⟩))
 (.next ⟨[],[]⟩))
 (.next ⟨[],[]⟩))
 (.call ⟨[],[]⟩ [] 103 163 [r0,r6,r7]
 (.ret (.mk [(pc (.setc o4 0 (.mk [pT,acp])) 0),(pc (.setc o4 0 (.mk [pT,acp])) 1)])))))))))
theorem abd:Hu.map told=some (Uq,[]):=by kernel_rfl
theorem atA:tree (ae Hu)=Uq:=ba abd
def Ht:Option PC:=cF [6,8,14,20,25] [] Tryz.f163 163 []
def Uo:PT:=
 (.blockS ⟨[(7,r0)],[]⟩ 0 [6,8,9,14,15,20,21,25,26] []
 (.iteS ⟨[],[]⟩ (af r7 (pi 9)) [6,14,15,20,21,25,26] []
 (.call ⟨[],[]⟩ [] 13 162 [(bu r1 r2)]
 (.ret dD))
 (.iteS ⟨[],[]⟩ (af r7 (pi 10)) [6,20,21,25,26] []
 (.call ⟨[],[]⟩ [] 19 162 [(bK r1 r2)]
 (.ret jz))
 (.iteS ⟨[],[]⟩ (af r7 (pi 11)) [6,25,26] []
 (.call ⟨[],[]⟩ [] 24 171 [r1,r2]
 (.ret oG))
 (.ite (af r7 (pi 12))
 (.ret (.mn r1 r2))
 (.next ⟨[],[]⟩))
 (.next ⟨[],[]⟩))
 (.next ⟨[],[]⟩))
 (.next ⟨[],[]⟩))
 (.ret (.mx r1 r2)))
theorem abc:Ht.map told=some (Uo,[]):=by kernel_rfl
theorem aty:tree (ae Ht)=Uo:=ba abc
def Hy:Option PC:=cF [4,5,6,7] [] Tryz.f171 171 []
def Uu:PT:=
 (.call ⟨[],[]⟩ [] 19 173 [(.conv .u64 (.mx r0 (bK (pi 0) r0))),(.conv .u64 (.mx r1 (bK (pi 0) r1)))]
 (.ite (.cb .neq (aj r0 (pi 0)) (aj r1 (pi 0)))
 (.ret (bK (pi 0) ab4))
 (.ret ab4)))
theorem abh:Hy.map told=some (Uu,[]):=by kernel_rfl
theorem atH:tree (ae Hy)=Uu:=ba abh
def Gu:Option PC:=cF [4,5,6,7,8,9,10,11,12,13] [] Tryz.f173 173 []
def Sy:PT:=
 (.chk (cX A4 (pi 0))
 (.ret (.tup [(.ai .add .u64 (.ai .add .u64 (.ai .mul .u64 (.ai .shr .u64 r0 A4) (.ai .shr .u64 r1 A4)) (.ai .shr .u64 ab0 A4)) (.ai .shr .u64 (.ai .add .u64 (.ai .and .u64 ab0 (.con (.v (.int .u64 4294967295)))) (.ai .mul .u64 (.ai .and .u64 r0 (.con (.v (.int .u64 4294967295)))) (.ai .shr .u64 r1 A4))) A4)),(.ai .mul .u64 r0 r1)])))
theorem aae:Gu.map told=some (Sy,[]):=by kernel_rfl
theorem arL:tree (ae Gu)=Sy:=ba aae
def ze:Option PC:=cF [2,3,5,8] [] Tryz.f150 150 [6]
def B8:Nat→PC:=bx ze
def anu (b:Nat→PC):PC:=.block 0 [3,11,12] [] (.loop [3,11] [] (b 0))
def anv (b:Nat→PC):PC:=.block 2 [6,27,28] [6] (.loop [6,27] [6] (b 1))
def KD (b:Nat→PC):PT:=
 (.ite (aj bF cM)
 (.chk (ar r9 bF)
 (.ite (aj (bu r3 (.llen (pn r9 bF))) (pi 0))
 (.chk (.nt pT)
 (.chk (.nt pT)
 (.next ⟨[(3,(bu r3 (.llen (pn r9 bF)))),(11,(bu bF (pi 1)))],[]⟩)))
 (.next ⟨[(3,(bu r3 (.llen (pn r9 bF)))),(11,(bu bF (pi 1)))],[]⟩)))
 (.exit 0 ⟨[(12,(aj bF cM))],[]⟩))
def KE (b:Nat→PC):PT:=
 (.ite (aj fP jA)
 (.chk (ar iX fP)
 (.chk (bU (.llen (.app o6 (pn iX fP))) cL)
 (.next ⟨[(6,pN),(27,(bu fP (pi 1)))],[(6,(.app o6 (pn iX fP)))]⟩)))
 (.exit 2 ⟨[(28,(aj fP jA))],[]⟩))
def T9 (b:Nat→PC):PT:=
 (.brk ⟨[(11,(pi 0)),(10,(.llen r0)),(9,r0),(3,(pi 0))],[]⟩
(anu b)
 (.call ⟨[],[]⟩ [] 24 164 [pL,r3]
 (.brk ⟨[(27,(pi 0)),(26,(.llen r0)),(25,r0),(6,pN)],[(6,oG)]⟩
(anv b)
 (.ret o6))))
def aid (b:Nat→PC):PT×List (Shp×PT):=(T9 b,[(.lp 0 [3,11,12] [] [3,11] [],KD b),(.lp 2 [6,27,28] [6] [6,27] [6],KE b)])
theorem JD:ze.map told=some (aid (br ze)):=by kernel_rfl
theorem atj:tree (ae ze)=T9 B8:=bN JD
theorem acQ:round 0 [3,11,12] [] [3,11] [] (B8 0)=KD B8:=bj JD 0 fun _=>rfl
theorem acR:round 2 [6,27,28] [6] [6,27] [6] (B8 1)=KE B8:=bj JD 1 fun _=>rfl
def Gp:Option PC:=cF [2] [] Tryz.f34 34 [1]
def Ss:PT:=
 (.ite (.pick (aR (pc (.mk [r0]) 4) (pi 0)) pT (.nt mA))
 (.ret (pi (-1)))
 (.ret xK))
theorem Z9:Gp.map told=some (Ss,[]):=by kernel_rfl
theorem arF:tree (ae Gp)=Ss:=ba Z9
def zn:Option PC:=cF [10] [] Tryz.f12 12 [3,6,7,4103,24583,8,9,11,47]
def Ge:Nat→PC:=bx zn
def Wp (b:Nat→PC):PC:=.each QW [30,31] [11,4103,24583,7] none (b 0)
def RU (b:Nat→PC):PT:=
 (.blockS ⟨[(11,pN),(10,oH)],[(11,(.setc z9 0 rq)),(11,z9)]⟩ 1 [32,33,34,35,41,44,46,47,48,49,50,51,52,53,54,55,56,57,58,59,60,61,62,63,64,69] [47,4103,24583,7]
 (.ite QL
 (.exit 0 ⟨[(43,pN),(42,cM),(41,QL),(40,(aR (pc mm 2) (pc o7 1))),(39,(pc o7 1)),(38,pN),(37,(pc mm 2)),(36,pN),(35,(.nt (pc o7 3))),(34,(.nt (pc o7 3))),(33,(pc o7 3)),(32,pN)],[(7,(.setc o7 2 cM))]⟩)
 (.chk (bU (.llen (.app (.o 4103) (.lst [cM]))) cL)
 (.call ⟨[(58,(pc mm 8)),(57,pN),(56,(pc (.setc o7 0 pN) 4)),(55,pN),(54,(af (pc mm 4) (pi (-1)))),(53,(pc mm 4)),(52,pN),(51,(pc mm 4)),(50,pN),(49,pN),(48,pN),(47,pN),(46,cM),(45,pN),(44,pN),(41,QL),(40,(aR (pc mm 2) (pc o7 1))),(39,(pc o7 1)),(38,pN),(37,(pc mm 2)),(36,pN),(35,(.nt (pc o7 3))),(34,(.nt (pc o7 3))),(33,(pc o7 3)),(32,pN)],[(7,(.setc o7 0 pN)),(4103,(.app (.o 4103) (.lst [cM]))),(47,(.lst [cM])),(7,o7)]⟩ [] 59 31 [(pc (.setc o7 0 pN) 4),(pc mm 8)]
 (.ite (.pick (pc o9 0) Et pF)
 (.chk (bU (.llen (.app (.o 24583) (.lst [cM]))) cL)
 (.next ⟨[(69,(.pick (pc o9 0) Et pF)),(68,Et),(67,(pc o8 0)),(66,(pc mm 6)),(65,pN),(64,(pc o9 0)),(63,(pc o9 0)),(62,pN),(61,pN),(60,pN)],[(24583,(.app (.o 24583) (.lst [cM]))),(7,(.setc (.setc A3 4 rA) 5 pN)),(7,(.setc A3 4 rA)),(7,A3),(7,(.setc o7 1 la))]⟩))
 (.next ⟨[(69,(.pick (pc o9 0) Et pF)),(68,Et),(67,(pc o8 0)),(66,(pc mm 6)),(65,pN),(64,(pc o9 0)),(63,(pc o9 0)),(62,pN),(61,pN),(60,pN)],[(24583,(.o 24583)),(7,(.setc A3 4 rA)),(7,(.setc A3 4 rA)),(7,A3),(7,(.setc o7 1 la))]⟩)))))
 (.next ⟨[],[(11,mm),(4103,(.o 4103)),(24583,(.o 24583)),(7,o7)]⟩))
def Ux (b:Nat→PC):PT:=
 (.call ⟨[],[(24583,pL),(4103,pL),(7,(.setc A6 0 (.mk [pL,tq,(pi (-1)),(af tq (pi (-1))),(pi 0),pL]))),(6,A6),(3,(.mk [r0]))]⟩ [] 23 29 [(ax 19 (.mk [r0])),r2]
 (.call ⟨[],[(9,(.setc (.con (.agg [(.bool false)])) 0 (.tget mB 1))),(8,(.setc JW 0 (.tget mB 0)))]⟩ [] 29 30 [(ax 19 o3),r1,r2]
 (.blockS ⟨[],[]⟩ 0 [] [4103,24583,7]
 (.callc ⟨[],[]⟩ [] 77 mC []
 (.brk ⟨[],[]⟩
(Wp b)
 (.next ⟨[],[]⟩)))
 (.ret (ax 6 (.setc o6 0 (.mk [(.o 4103),(pc o7 1),(pc o7 2),(pc o7 3),(pc o7 4),(.o 24583)])))))))
def aio (b:Nat→PC):PT×List (Shp×PT):=(Ux b,[(.ea [11,4103,24583,7],RU b)])
theorem Qg:zn.map told=some (aio (br zn)):=by kernel_rfl
theorem atK:tree (ae zn)=Ux Ge:=bN Qg
theorem aqq:qo [11,4103,24583,7] (Ge 0)=RU Ge:=Sp Qg 0 fun _=>rfl
def zo:Option PC:=cF [4,5,6,7] [] Tryz.f29 29 [2,9]
def Ms:Nat→PC:=bx zo
def anH (b:Nat→PC):PC:=.block 0 [6,7,13,14] [] (.loop [6,7,13] [] (b 0))
def KF (b:Nat→PC):PT:=
 (.ite (aj dD cg)
 (.chk (ar bF dD)
 (.ite (.pick (.pick (.pick (aR (pc xI 0) (pi 1)) (aR (pc xI 0) (pi 3)) pF) (aR (pc xI 0) (pi 4)) pF) pT (aV (pc xI 6) r1))
 (.next ⟨[(13,(bu dD (pi 1)))],[]⟩)
 (.next ⟨[(6,(.pick (.pick (.nt r7) pT (aj (pc xI 6) r6)) (pc xI 6) r6)),(7,(.pick (.pick (.nt r7) pT (aj (pc xI 6) r6)) pT r7)),(13,(bu dD (pi 1)))],[]⟩)))
 (.exit 0 ⟨[(14,(aj dD cg))],[]⟩))
def Uz (b:Nat→PC):PT:=
 (.brk ⟨[(13,(pi 0)),(12,(.llen (pc (.mk [r0]) 17))),(11,(pc (.mk [r0]) 17)),(7,pF),(6,(pi 0))],[]⟩
(anH b)
 (.ret (.tup [r6,r7])))
def aip (b:Nat→PC):PT×List (Shp×PT):=(Uz b,[(.lp 0 [6,7,13,14] [] [6,7,13] [],KF b)])
theorem Qh:zo.map told=some (aip (br zo)):=by kernel_rfl
theorem atM:tree (ae zo)=Uz Ms:=bN Qh
theorem acS:round 0 [6,7,13,14] [] [6,7,13] [] (Ms 0)=KF Ms:=bj Qh 0 fun _=>rfl
def HC:Option PC:=cF [6] [] Tryz.f30 30 [3,4,5]
def UA:PT:=
 (.ret (.clo 64 [(.ref (ax 19 (.mk [r0]))),(.ref (pc (.mk [r2]) 0)),(.ref (pc (.mk [r1]) 0))]))
theorem abl:HC.map told=some (UA,[]):=by kernel_rfl
theorem atO:tree (ae HC)=UA:=ba abl
def sq:Option PC:=Ci {ctx with fr:=[5,6],nh:=[]} Tryz.f64 [(.ref cJ),(.ref I),(.ref I)] [I,Y9] 1000 [1000,7]
def Mt:Nat→PC:=bx sq
def anI (b:Nat→PC):PC:=.block 0 [14,15] [1000] (.loop [14] [1000] (b 0))
def KG (b:Nat→PC):PT:=
 (.ite tA
 (.blockS ⟨[],[]⟩ 1 [6,7,16,17,18,19,20,21,22,27,28,33,34,39,40,46] [7,1000]
 (.chk (ar cg cj)
 (.call ⟨[(40,abY)],[(1000,ab8)]⟩ [(40,true)] 44 1000000009 [ab8]
 (.ite (.pick qj (.nt xO) pF)
 (.ret (.o 1000))
 (.next ⟨[],[]⟩))))
 (.next ⟨[(14,(bu cj (pi 1)))],[]⟩))
 (.exit 0 ⟨[(15,tA)],[]⟩))
def UB (b:Nat→PC):PT:=
 (.call ⟨[],[]⟩ [] 10 33 [(.deref r1),(.deref r2)]
 (.brk ⟨[(14,(pi 0)),(13,(.llen (pc (.deref r1) 15))),(12,(pc (.deref r1) 15)),(5,cM)],[]⟩
(anI b)
 (.ret (.o 1000))))
def aiq (b:Nat→PC):PT×List (Shp×PT):=(UB b,[(.lp 0 [14,15] [1000] [14] [1000],KG b)])
theorem Qi:sq.map told=some (aiq (br sq)):=by kernel_rfl
theorem atN:tree (ae sq)=UB Mt:=bN Qi
theorem acT:round 0 [14,15] [1000] [14] [1000] (Mt 0)=KG Mt:=bj Qi 0 fun _=>rfl
theorem afp:∀yv,Ci {ctx with fr:=[5,6],nh:=[],yv:=yv} Tryz.f64 [(.ref cJ),(.ref I),(.ref I)] [I,Y9] 1000 [1000,7]=some (ae sq):=fun yv=>(show _=sq by kernel_rfl).trans (aC sq Qi)
def zp:Option PC:=cF [4] [] Tryz.f33 33 [2,5,7]
def Mu:Nat→PC:=bx zp
def anJ (b:Nat→PC):PC:=.block 0 [12,13] [5] (.loop [12] [5] (b 0))
def Fp (b:Nat→PC):PT:=
 (.ite (aj cg bF)
 (.chk (ar cM cg)
 (.ite (.pick (af (pc (.setc z9 0 tn) 0) (pi 7)) (bU (pc (.setc z9 0 tn) 6) r1) pF)
 (.chk (aj (.mlen o5) cL)
 (.next ⟨[(12,(bu cg (pi 1)))],[(5,(.put o5 (pc (.setc z9 0 tn) 4) pT))]⟩))
 (.next ⟨[(12,(bu cg (pi 1)))],[]⟩)))
 (.exit 0 ⟨[(13,(aj cg bF))],[]⟩))
def UD (b:Nat→PC):PT:=
 (.brk ⟨[(12,(pi 0)),(11,(.llen (pc (.mk [r0]) 17))),(10,(pc (.mk [r0]) 17)),(5,pN)],[(5,(.con (.map [])))]⟩
(anJ b)
 (.ret o5))
def air (b:Nat→PC):PT×List (Shp×PT):=(UD b,[(.lp 0 [12,13] [5] [12] [5],Fp b)])
theorem Qj:zp.map told=some (air (br zp)):=by kernel_rfl
theorem atQ:tree (ae zp)=UD Mu:=bN Qj
theorem RV:round 0 [12,13] [5] [12] [5] (Mu 0)=Fp Mu:=bj Qj 0 fun _=>rfl
def HD:Option PC:=cF [4,5,13] [] Tryz.f31 31 []
def UC:PT:=
 (.ite (.pick (aR (.ai .and .i64 r1 (pi 2)) (pi 0)) pT (aR r0 (pi 0)))
 (.ret (pi 1))
 (.ite (aR (.ai .and .i64 r1 (pi 4)) (pi 0))
 (.ret (pi 2))
 (.ret (pi 0))))
theorem abm:HD.map told=some (UC,[]):=by kernel_rfl
theorem atP:tree (ae HD)=UC:=ba abm
def yC:Option PC:=cF [11,12,15,2000038,1000013] [] Tryz.f9 9 [5,7,8,10,65546,69642,73738,77834,13,65549,69645,73741,77837,14,16,85]
def LV:Nat→PC:=bx yC
def amA (b:Nat→PC):PC:=.block 0 [14,42,43] [14] (.loop [14,42] [14] (b 0))
def Kj (b:Nat→PC):PT:=
 (.ite (aj ru tB)
 (.blockS ⟨[],[]⟩ 1 [14,15,16,44,45,46,47,48,49,50,56,57,62,63,69] [16,14]
 (.chk (ar (.o 65549) ru)
 (.call ⟨[(57,(.pick (af (pc (.setc z9 0 (.sub (pn (.o 65549) ru) 0 9)) 0) (pi 2)) (af (pc (.setc z9 0 (.sub (pn (.o 65549) ru) 0 9)) 1) (pc o8 1)) pF)),(15,ru)],[]⟩ [(57,true)] 60 23 [cg,ru]
 (.call ⟨[(63,(.pick Bb (.nt tC) pF))],[]⟩ [(63,true)] 67 14 [(.mk [(pc jy 0),(pc jy 1),(pc jy 2),(pc jy 3),(pc jy 4),(pc jy 5),(pc jy 6),(pc jy 7),(pc jy 8),(pc jy 9),(pc jy 10),(pc jy 11),(pc jy 12),(pc jy 13),(pc jy 14),(.o 65549),(.o 69645),(.o 73741),(.o 77837)]),kZ,r4]
 (.ite (.pick Ew (.nt rB) pF)
 (.chk (ar (pc o5 3) (pc o8 2))
 (.chk (bU (.llen acb) cL)
 (.next ⟨[(14,pN)],[(14,acb)]⟩)))
 (.next ⟨[],[]⟩)))))
 (.next ⟨[(42,(bu ru (pi 1)))],[]⟩))
 (.exit 0 ⟨[(43,(aj ru tB))],[]⟩))
def SJ (b:Nat→PC):PT:=
 (.call ⟨[(19,(aV r4 (pi 100000)))],[(10,oC),(8,(.mk [r3])),(7,(.mk [r2])),(5,(.mk [r0]))]⟩ [(19,false)] 25 16 [jY,r1,(ax 19 (.mk [r2])),(ax 6 (.mk [r3])),r4]
 (.ite (.pick jz pT (aR iX (pi 1)))
 (.ret (.tup [ab1,(pi 7)]))
 (.call ⟨[],[]⟩ [] 34 12 [(ax 19 o7),(pc o8 1),(pc o8 3)]
 (.call ⟨[(12,(pc r34 0))],[]⟩ [] 38 13 [(ax 19 o7),r4]
 (.brk ⟨[(42,(pi 0)),(41,(.llen (pc fQ 15))),(14,pN)],[(14,pL),(77837,(pc fQ 18)),(73741,(pc fQ 17)),(69645,(pc fQ 16)),(65549,(pc fQ 15)),(13,(.setc oC 0 fQ))]⟩
(amA b)
 (.chk (bU (.llen (.app (.o 73741) Jp)) cL)
 (.ite (aV (.llen (.app (.o 73741) Jp)) (pi 100))
 (.ret (.tup [ab1,(pi 6)]))
 (.ret (.tup [(.mk [(pc lG 0),(pc lG 1),(pc lG 2),(pc lG 3),(pc lG 4),(pc lG 5),(pc lG 6),(pc lG 7),(pc lG 8),(pc lG 9),(pc lG 10),(pc lG 11),(pc lG 12),(pc lG 13),(pc lG 14),(.o 65549),(.o 69645),(.app (.o 73741) Jp),(.o 77837)]),(pi 0)])))))))))
def ahA (b:Nat→PC):PT×List (Shp×PT):=(SJ b,[(.lp 0 [14,42,43] [14] [14,42] [14],Kj b)])
theorem PG:yC.map told=some (ahA (br yC)):=by kernel_rfl
theorem arX:tree (ae yC)=SJ LV:=bN PG
theorem acC:round 0 [14,42,43] [14] [14,42] [14] (LV 0)=Kj LV:=bj PG 0 fun _=>rfl
def HB:Option PC:=cF [6] [] Tryz.f14 14 [3]
def Uy:PT:=
 (.call ⟨[(16,(.pick (cX r1 (pi 0)) (aj r1 (.llen mz)) pF))],[]⟩ [(16,true)] 19 33 [(ax 19 (.mk [r0])),r2]
 (.ret (.pick dh (.look jz r1 pF) pF)))
theorem abk:HB.map told=some (Uy,[]):=by kernel_rfl
theorem atL:tree (ae HB)=Uy:=ba abk
def Gz:Option PC:=cF [6] [] Tryz.f8 8 [3,4,5]
def SH:PT:=
 (.call ⟨[],[(5,(.mk [r2])),(3,(.mk [r0]))]⟩ [] 9 21 [jY,Ek]
 (.call ⟨[(10,r9)],[]⟩ [(10,true)] 12 22 [(ax 8 o3)]
 (.ret (.pick (.pick cM (af cg (pi 0)) pF) (bU (.llen (pc o5 5)) (pi 30)) pF))))
theorem aak:Gz.map told=some (SH,[]):=by kernel_rfl
theorem arV:tree (ae Gz)=SH:=ba aak
def yZ:Option PC:=cF [4,5] [] Tryz.f21 21 [2,3]
def Mc:Nat→PC:=bx yZ
def am8 (b:Nat→PC):PC:=.block 0 [4,5,14,15,16,17,18] [] (.loop [4,5] [] (b 0))
def EZ (b:Nat→PC):PT:=
 (.ite (aj r5 (.llen (pc o2 4)))
 (.blockS ⟨[],[]⟩ 1 [4,21,22,23,24,25,26,27] []
 (.chk (ar (pc o2 4) r5)
 (.call ⟨[],[]⟩ [] 26 50 [(pn (pc o2 4) r5)]
 (.ite (.nt jA)
 (.ret pF)
 (.next ⟨[],[]⟩))))
 (.next ⟨[(5,AZ)],[]⟩))
 (.exit 0 ⟨[(14,r5),(15,pN),(16,(pc o2 4)),(17,(.llen (pc o2 4))),(18,(aj r5 (.llen (pc o2 4))))],[]⟩))
def TJ (b:Nat→PC):PT:=
 (.call ⟨[(4,pF)],[(3,(.mk [r1])),(2,(.mk [r0]))]⟩ [] 7 48 [jY]
 (.call ⟨[(9,(.nt r7))],[]⟩ [(9,false)] 11 49 [(ax 19 o3)]
 (.ite (.pick r9 pT (.nt bF))
 (.ret pF)
 (.brk ⟨[(5,(pi 0))],[]⟩
(am8 b)
 (.ret pT)))))
def ahZ (b:Nat→PC):PT×List (Shp×PT):=(TJ b,[(.lp 0 [4,5,14,15,16,17,18] [] [4,5] [],EZ b)])
theorem P0:yZ.map told=some (ahZ (br yZ)):=by kernel_rfl
theorem asV:tree (ae yZ)=TJ Mc:=bN P0
theorem Rt:round 0 [4,5,14,15,16,17,18] [] [4,5] [] (Mc 0)=EZ Mc:=bj P0 0 fun _=>rfl
def yK:Option PC:=cF [2,3,4] [] Tryz.f48 48 [1]
def BX:Nat→PC:=bx yK
def amK (b:Nat→PC):PC:=.block 0 [2,3,5,6,7,8,9,10,13] [] (.loop [2,3] [] (b 0))
def amL (b:Nat→PC):PC:=.block 2 [2,4,44,45,46,47,48,49,52] [] (.loop [2,4] [] (b 1))
def xS (b:Nat→PC):PT:=
 (.ite (.pick (aj r3 lI) (aj r3 (pi 50)) pF)
 (.chk (ar (pc o1 1) r3)
 (.chk (.nt (.an (.an (.nt (aV (.llen (pc (pn (pc o1 1) r3) 4)) (pi 70))) pT) (.nt (ar (pc o1 1) r3))))
 (.chk (.nt (.an (.an (.nt ace) pT) (.nt (ar (pc o1 1) r3))))
 (.ite (.pick ace pT (aV (.llen (pc (pn (pc o1 1) r3) 3)) (pi 8)))
 (.ret pF)
 (.next ⟨[(3,vg)],[]⟩)))))
 (.exit 0 ⟨[(5,r3),(6,pN),(7,(pc o1 1)),(8,lI),(9,(aj r3 lI)),(10,(aj r3 lI)),(13,(.pick (aj r3 lI) (aj r3 (pi 50)) pF))],[]⟩))
def Bf (b:Nat→PC):PT:=
 (.ite (.pick (aj r4 oF) (aj r4 (pi 50)) pF)
 (.chk (ar (pc o1 4) r4)
 (.chk (.nt (.an (.an (.nt (aV (.llen (pc xJ 2)) (pi 40))) pT) (.nt (ar (pc o1 4) r4))))
 (.ite (.pick (aV (.llen (pc xJ 2)) (pi 40)) pT (aV (.llen (pc xJ 3)) (pi 40)))
 (.ret pF)
 (.next ⟨[(4,(bu r4 (pi 1)))],[]⟩))))
 (.exit 2 ⟨[(44,r4),(45,pN),(46,(pc o1 4)),(47,oF),(48,(aj r4 oF)),(49,(aj r4 oF)),(52,(.pick (aj r4 oF) (aj r4 (pi 50)) pF))],[]⟩))
def Te (b:Nat→PC):PT:=
 (.brk ⟨[(3,(pi 0)),(2,pF)],[(1,(.mk [r0]))]⟩
(amK b)
 (.brk ⟨[(4,(pi 0))],[]⟩
(amL b)
 (.ret (.pick (.pick (.pick (.pick (.pick (.pick (.pick (aj vf (pi 50)) (aj lI (pi 50)) pF) (aj rl (pi 50)) pF) (aj nv (pi 210)) pF) (aj oF (pi 50)) pF) (aj AY (pi 110)) pF) (aj (.llen (pc o1 6)) (pi 110)) pF) (aj xM (pi 50)) pF))))
def ahJ (b:Nat→PC):PT×List (Shp×PT):=(Te b,[(.lp 0 [2,3,5,6,7,8,9,10,13] [] [2,3] [],xS b),(.lp 2 [2,4,44,45,46,47,48,49,52] [] [2,4] [],Bf b)])
theorem Jt:yK.map told=some (ahJ (br yK)):=by kernel_rfl
theorem asq:tree (ae yK)=Te BX:=bN Jt
theorem EH:round 0 [2,3,5,6,7,8,9,10,13] [] [2,3] [] (BX 0)=xS BX:=bj Jt 0 fun _=>rfl
theorem Kp:round 2 [2,4,44,45,46,47,48,49,52] [] [2,4] [] (BX 1)=Bf BX:=bj Jt 1 fun _=>rfl
def G9:Option PC:=cF [2] [] Tryz.f49 49 [1]
def TG:PT:=
 (.ret (.pick (.pick (.pick (bU (.llen mz) (pi 50)) (bU (.llen (pc (.mk [r0]) 16)) (pi 10)) pF) (bU (.llen (pc (.mk [r0]) 17)) (pi 110)) pF) (bU (.llen ve) (pi 220)) pF))
theorem aaS:G9.map told=some (TG,[]):=by kernel_rfl
theorem asS:tree (ae G9)=TG:=ba aaS
def yY:Option PC:=cF [2,3] [] Tryz.f50 50 [1]
def Mb:Nat→PC:=bx yY
def am7 (b:Nat→PC):PC:=.block 0 [2,3,14,15,16,17,18] [] (.loop [2,3] [] (b 0))
def EY (b:Nat→PC):PT:=
 (.ite (aj r3 nv)
 (.blockS ⟨[],[]⟩ 1 [2,21,22,23,24,25,26,27,28] []
 (.chk (ar (pc o1 3) r3)
 (.call ⟨[],[]⟩ [] 27 77 [(.sub (pn (pc o1 3) r3) 1 3)]
 (.ite (.nt fP)
 (.ret pF)
 (.next ⟨[],[]⟩))))
 (.next ⟨[(3,vg)],[]⟩))
 (.exit 0 ⟨[(14,r3),(15,pN),(16,(pc o1 3)),(17,nv),(18,(aj r3 nv))],[]⟩))
def TI (b:Nat→PC):PT:=
 (.ite (.pick (aV (.llen (pc (.mk [r0]) 3)) (pi 60)) pT (aV qf (pi 60)))
 (.ret pF)
 (.brk ⟨[(3,(pi 0)),(2,pF)],[(1,(.mk [r0]))]⟩
(am7 b)
 (.ret pT)))
def ahY (b:Nat→PC):PT×List (Shp×PT):=(TI b,[(.lp 0 [2,3,14,15,16,17,18] [] [2,3] [],EY b)])
theorem PZ:yY.map told=some (ahY (br yY)):=by kernel_rfl
theorem asU:tree (ae yY)=TI Mb:=bN PZ
theorem Rs:round 0 [2,3,14,15,16,17,18] [] [2,3] [] (Mb 0)=EY Mb:=bj PZ 0 fun _=>rfl
def Ha:Option PC:=cF [2] [] Tryz.f77 77 [1]
def TH:PT:=
 (.call ⟨[],[]⟩ [] 4 96 [(.mk [mA,xK,tq]),(pi 100),(pi 20)]
 (.ret (cX r4 (pi 0))))
theorem aaT:Ha.map told=some (TH,[]):=by kernel_rfl
theorem asT:tree (ae Ha)=TH:=ba aaT
def wg:Option PC:=cF [6,1,7] [] Tryz.f96 96 [3]
def Ma:Nat→PC:=bx wg
def am6 (b:Nat→PC):PC:=.block 0 [1,7,12,13,14,15,16,17,20] [] (.loop [1,7] [] (b 0))
def EX (b:Nat→PC):PT:=
 (.ite (.pick (aj r7 oE) (cX r1 (pi 0)) pF)
 (.blockS ⟨[],[]⟩ 1 [1,23,24,25,26,27,28,29,30,31] []
 (.chk (ar (pc o3 2) r7)
 (.call ⟨[],[]⟩ [] 31 96 [(pn (pc o3 2) r7),r1,xF]
 (.next ⟨[(1,rq)],[]⟩)))
 (.next ⟨[(7,(bu r7 (pi 1)))],[]⟩))
 (.exit 0 ⟨[(12,r7),(13,pN),(14,(pc o3 2)),(15,oE),(16,(aj r7 oE)),(17,(aj r7 oE)),(20,(.pick (aj r7 oE) (cX r1 (pi 0)) pF))],[]⟩))
def La (b:Nat→PC):PT:=
 (.ite (aj r2 (pi 1))
 (.ret (pi (-1)))
 (.brk ⟨[(7,(pi 0)),(1,(bK r1 (pi 1)))],[(3,(.mk [r0]))]⟩
(am6 b)
 (.ret r1)))
def ahX (b:Nat→PC):PT×List (Shp×PT):=(La b,[(.lp 0 [1,7,12,13,14,15,16,17,20] [] [1,7] [],EX b)])
theorem PY:wg.map told=some (ahX (br wg)):=by kernel_rfl
theorem adP:tree (ae wg)=La Ma:=bN PY
theorem Rr:round 0 [1,7,12,13,14,15,16,17,20] [] [1,7] [] (Ma 0)=EX Ma:=bj PY 0 fun _=>rfl
def GU:Option PC:=cF [2,3] [] Tryz.f22 22 [1]
def Td:PT:=
 (.call ⟨[],[(1,(.mk [r0]))]⟩ [] 5 51 [jY]
 (.iteS ⟨[(3,r5)],[]⟩ tz [3] []
 (.call ⟨[],[]⟩ [] 9 52 [(ax 8 o1)]
 (.next ⟨[(3,r9)],[]⟩))
 (.next ⟨[],[]⟩)
 (.iteS ⟨[],[]⟩ (af r3 (pi 0)) [3] []
 (.call ⟨[],[]⟩ [] 13 53 [(ax 8 o1)]
 (.next ⟨[(3,dD)],[]⟩))
 (.next ⟨[],[]⟩)
 (.iteS ⟨[],[]⟩ (af r3 (pi 0)) [3] []
 (.call ⟨[],[]⟩ [] 17 54 [(ax 8 o1)]
 (.next ⟨[(3,qg)],[]⟩))
 (.next ⟨[],[]⟩)
 (.iteS ⟨[],[]⟩ (af r3 (pi 0)) [3] []
 (.call ⟨[],[]⟩ [] 21 55 [(ax 8 o1)]
 (.next ⟨[(3,rp)],[]⟩))
 (.next ⟨[],[]⟩)
 (.ret r3))))))
theorem aaD:GU.map told=some (Td,[]):=by kernel_rfl
theorem asp:tree (ae GU)=Td:=ba aaD
def yQ:Option PC:=cF [2,3,4,6,7] [] Tryz.f51 51 [1,5,44]
def BZ:Nat→PC:=bx yQ
def amS (b:Nat→PC):PC:=.block 0 [2,3,12,13,14,15,16] [] (.loop [2,3] [] (b 0))
def amT (b:Nat→PC):PC:=.block 2 [2,5,6,30,31,32,33,34] [5] (.loop [2,5,6] [5] (b 1))
def EO (b:Nat→PC):PT:=
 (.ite (aj r3 vf)
 (.blockS ⟨[],[]⟩ 1 [2,4,19,20,21,22,23,24] []
 (.call ⟨[],[]⟩ [] 22 78 [(pc o1 0),r3]
 (.ite (aR J6 (pi 0))
 (.ret J6)
 (.next ⟨[],[]⟩)))
 (.next ⟨[(3,vg)],[]⟩))
 (.exit 0 ⟨[(12,r3),(13,pN),(14,(pc o1 0)),(15,vf),(16,(aj r3 vf))],[]⟩))
def EP (b:Nat→PC):PT:=
 (.ite (aj r6 lI)
 (.blockS ⟨[],[]⟩ 3 [2,5,7,38,39,40,41,42,43,44,45,46,47,48,49,50,52,53,54,55,56,57,58,59] [44,5]
 (.chk (ar (pc o1 1) r6)
 (.chk (bU (.llen QC) cL)
 (.call ⟨[(5,pN)],[(5,QC)]⟩ [] 48 78 [QC,r6]
 (.ite (aR mE (pi 0))
 (.ret mE)
 (.chk (ar (pc o1 1) r6)
 (.call ⟨[],[]⟩ [] 58 79 [(ax 8 o1),(pn (pc o1 1) r6)]
 (.ite (.nt Ev)
 (.ret (pi 1))
 (.next ⟨[],[]⟩))))))))
 (.next ⟨[(6,(bu r6 (pi 1)))],[]⟩))
 (.exit 2 ⟨[(30,r6),(31,pN),(32,(pc o1 1)),(33,lI),(34,(aj r6 lI))],[]⟩))
def Tn (b:Nat→PC):PT:=
 (.ite (aV (.llen mA) (pi 8))
 (.ret (pi 6))
 (.brk ⟨[(3,(pi 0)),(2,(pi 0))],[(1,(.mk [r0]))]⟩
(amS b)
 (.ite (aV lI (pi 40))
 (.ret (pi 6))
 (.brk ⟨[(6,(pi 0)),(5,pN)],[(5,pL)]⟩
(amT b)
 (.ret (pi 0))))))
def ahP (b:Nat→PC):PT×List (Shp×PT):=(Tn b,[(.lp 0 [2,3,12,13,14,15,16] [] [2,3] [],EO b),(.lp 2 [2,5,6,30,31,32,33,34] [5] [2,5,6] [5],EP b)])
theorem Jv:yQ.map told=some (ahP (br yQ)):=by kernel_rfl
theorem asy:tree (ae yQ)=Tn BZ:=bN Jv
theorem Ri:round 0 [2,3,12,13,14,15,16] [] [2,3] [] (BZ 0)=EO BZ:=bj Jv 0 fun _=>rfl
theorem Rj:round 2 [2,5,6,30,31,32,33,34] [5] [2,5,6] [5] (BZ 1)=EP BZ:=bj Jv 1 fun _=>rfl
def GX:Option PC:=cF [4] [] Tryz.f78 78 []
def Tp:PT:=
 (.chk (ar r0 r1)
 (.call ⟨[],[]⟩ [] 9 97 [(pn r0 r1)]
 (.ite (.nt r9)
 (.ret (pi 2))
 (.chk (ar r0 r1)
 (.call ⟨[],[]⟩ [] 17 98 [r0,r1,(pn r0 r1)]
 (.ite qg
 (.ret (pi 5))
 (.ret (pi 0))))))))
theorem aaG:GX.map told=some (Tp,[]):=by kernel_rfl
theorem asA:tree (ae GX)=Tp:=ba aaG
def yL:Option PC:=cF [2,3,4] [] Tryz.f97 97 []
def L4:Nat→PC:=bx yL
def amM (b:Nat→PC):PC:=.block 0 [2,3,13,14,15,16] [] (.loop [2,3] [] (b 0))
def EI (b:Nat→PC):PT:=
 (.ite (aj r3 (.slen r0))
 (.blockS ⟨[],[]⟩ 1 [2,4,19,20,21,22,23,34,35,36,37,38,39,40,47] []
 (.chk (.sok r0 r3)
 (.chk (.nt (.an (.an (.nt QO) pT) (.nt (.sok r0 r3))))
 (.chk (.nt (.an (.an (bU (.con (.v (.int .u8 48))) (.sidx r0 r3)) (.an (.nt QO) pT)) (.nt (.sok r0 r3))))
 (.call ⟨[(4,(.pick QO pT (.pick (bU (.con (.v (.int .u8 48))) (.sidx r0 r3)) (bU (.sidx r0 r3) (.con (.v (.int .u8 57)))) pF)))],[]⟩ [] 38 126 [(.sidx r0 r3)]
 (.ite (.pick (.nt fQ) (.pick (af r3 (pi 0)) pT (.nt r4)) pF)
 (.ret pF)
 (.next ⟨[],[]⟩))))))
 (.next ⟨[(3,vg)],[]⟩))
 (.exit 0 ⟨[(13,r3),(14,r0),(15,(.slen r0)),(16,(aj r3 (.slen r0)))],[]⟩))
def Tg (b:Nat→PC):PT:=
 (.ite (.pick (aj (.slen r0) (pi 1)) pT (aV (.slen r0) (pi 20)))
 (.ret pF)
 (.brk ⟨[(3,(pi 0)),(2,pF)],[]⟩
(amM b)
 (.ret pT)))
def ahK (b:Nat→PC):PT×List (Shp×PT):=(Tg b,[(.lp 0 [2,3,13,14,15,16] [] [2,3] [],EI b)])
theorem PQ:yL.map told=some (ahK (br yL)):=by kernel_rfl
theorem ass:tree (ae yL)=Tg L4:=bN PQ
theorem Rc:round 0 [2,3,13,14,15,16] [] [2,3] [] (L4 0)=EI L4:=bj PQ 0 fun _=>rfl
def GV:Option PC:=cF [2] [] Tryz.f126 126 []
def Tf:PT:=
 (.ret (.pick (.pick (bU (.con (.v (.int .u8 97))) r0) (bU r0 (.con (.v (.int .u8 122)))) pF) pT (.pick (bU (.con (.v (.int .u8 65))) r0) (bU r0 (.con (.v (.int .u8 90)))) pF)))
theorem aaE:GV.map told=some (Tf,[]):=by kernel_rfl
theorem asr:tree (ae GV)=Tf:=ba aaE
def yJ:Option PC:=cF [6,7] [] Tryz.f98 98 []
def L3:Nat→PC:=bx yJ
def amJ (b:Nat→PC):PC:=.block 0 [6,7,8,9,10,11,16] [] (.loop [6,7] [] (b 0))
def EG (b:Nat→PC):PT:=
 (.ite (.pick (aj r7 r1) (aj r7 (.llen r0)) pF)
 (.chk (ar r0 r7)
 (.ite (.cs .eql (pn r0 r7) r2)
 (.ret pT)
 (.next ⟨[(7,(bu r7 (pi 1)))],[]⟩)))
 (.exit 0 ⟨[(8,r7),(9,r1),(10,(aj r7 r1)),(11,(aj r7 r1)),(16,(.pick (aj r7 r1) (aj r7 (.llen r0)) pF))],[]⟩))
def Tc (b:Nat→PC):PT:=
 (.brk ⟨[(7,(pi 0)),(6,pF)],[]⟩
(amJ b)
 (.ret pF))
def ahI (b:Nat→PC):PT×List (Shp×PT):=(Tc b,[(.lp 0 [6,7,8,9,10,11,16] [] [6,7] [],EG b)])
theorem PO:yJ.map told=some (ahI (br yJ)):=by kernel_rfl
theorem aso:tree (ae yJ)=Tc L3:=bN PO
theorem Rb:round 0 [6,7,8,9,10,11,16] [] [6,7] [] (L3 0)=EG L3:=bj PO 0 fun _=>rfl
def yM:Option PC:=cF [4,5] [] Tryz.f79 79 [2,3]
def L5:Nat→PC:=bx yM
def amN (b:Nat→PC):PC:=.block 0 [4,5,36,37,38,39,40] [] (.loop [4,5] [] (b 0))
def EJ (b:Nat→PC):PT:=
 (.ite (aj r5 (.llen (pc o3 4)))
 (.blockS ⟨[],[]⟩ 1 [4,43,44,45,46,47,48,49,50,51,60] []
 (.chk (ar (pc o3 4) r5)
 (.chk (aR (pi 100) (pi 0))
 (.call ⟨[],[]⟩ [] 49 26 [(.ai .quo .i64 (pn (pc o3 4) r5) (pi 100)),(pi 1),(pi 12)]
 (.chk (.nt (.an (.an (.nt (.nt qk)) pT) (.nt (ar (pc o3 4) r5))))
 (.chk (.nt (.an (.an (.nt (.nt qk)) pT) (.nt (aR (pi 100) (pi 0)))))
 (.call ⟨[(51,(.nt qk))],[]⟩ [(51,false)] 58 26 [(.ai .rem .i64 (pn (pc o3 4) r5) (pi 100)),(pi 1),(pi 31)]
 (.ite (.pick la pT (.nt Ev))
 (.ret pF)
 (.next ⟨[],[]⟩))))))))
 (.next ⟨[(5,AZ)],[]⟩))
 (.exit 0 ⟨[(36,r5),(37,pN),(38,(pc o3 4)),(39,(.llen (pc o3 4))),(40,(aj r5 (.llen (pc o3 4))))],[]⟩))
def Th (b:Nat→PC):PT:=
 (.call ⟨[(4,pF)],[(3,(.mk [r1])),(2,(.mk [r0]))]⟩ [] 12 26 [(pc (.mk [r1]) 1),(pi 0),(bK JU (pi 1))]
 (.call ⟨[(14,(.nt cg))],[]⟩ [(14,false)] 21 26 [(pc o3 2),(pi 0),(bK (.llen (pc o2 0)) (pi 1))]
 (.ite (.pick (.pick (.pick cj pT (.nt rp)) pT (aV (.llen (pc o3 4)) (pi 60))) pT (aV (.llen (pc o3 5)) (pi 200)))
 (.ret pF)
 (.brk ⟨[(5,(pi 0))],[]⟩
(amN b)
 (.call ⟨[],[]⟩ [] 63 99 [(pc o3 3),(pi 0),(pi 6)]
 (.call ⟨[(64,Ew)],[]⟩ [(64,true)] 67 99 [(pc o3 4),(pi 0),(pi 2000)]
 (.call ⟨[(69,(.pick lL rB pF))],[]⟩ [(69,true)] 72 99 [(pc o3 5),(pi 0),(pi 100000)]
 (.ret (.pick xQ Bd pF)))))))))
def ahL (b:Nat→PC):PT×List (Shp×PT):=(Th b,[(.lp 0 [4,5,36,37,38,39,40] [] [4,5] [],EJ b)])
theorem PR:yM.map told=some (ahL (br yM)):=by kernel_rfl
theorem ast:tree (ae yM)=Th L5:=bN PR
theorem Rd:round 0 [4,5,36,37,38,39,40] [] [4,5] [] (L5 0)=EJ L5:=bj PR 0 fun _=>rfl
def GW:Option PC:=cF [6] [] Tryz.f26 26 []
def Tl:PT:=
 (.ret (.pick (bU r1 r0) (bU r0 r2) pF))
theorem aaF:GW.map told=some (Tl,[]):=by kernel_rfl
theorem asx:tree (ae GW)=Tl:=ba aaF
def yO:Option PC:=cF [6,7] [] Tryz.f99 99 []
def L6:Nat→PC:=bx yO
def amQ (b:Nat→PC):PC:=.block 0 [6,7,8,9,10,11] [] (.loop [6,7] [] (b 0))
def EM (b:Nat→PC):PT:=
 (.ite (aj r7 (.llen r0))
 (.blockS ⟨[],[]⟩ 1 [6,14,15,16,17,18,19,20,21,22,23,24,35] []
 (.chk (ar r0 r7)
 (.call ⟨[],[]⟩ [] 20 26 [(pn r0 r7),r1,r2]
 (.ite (.nt eP)
 (.ret pF)
 (.chk (.nt (.an (.an (aV r7 (pi 0)) pT) (.nt (ar r0 (bK r7 (pi 1))))))
 (.chk (.nt (.an (.an (aV r7 (pi 0)) pT) (.nt (ar r0 r7))))
 (.ite (.pick (aV r7 (pi 0)) (cX (pn r0 (bK r7 (pi 1))) (pn r0 r7)) pF)
 (.ret pF)
 (.next ⟨[],[]⟩)))))))
 (.next ⟨[(7,(bu r7 (pi 1)))],[]⟩))
 (.exit 0 ⟨[(8,r7),(9,r0),(10,(.llen r0)),(11,(aj r7 (.llen r0)))],[]⟩))
def Tj (b:Nat→PC):PT:=
 (.brk ⟨[(7,(pi 0)),(6,pF)],[]⟩
(amQ b)
 (.ret pT))
def ahN (b:Nat→PC):PT×List (Shp×PT):=(Tj b,[(.lp 0 [6,7,8,9,10,11] [] [6,7] [],EM b)])
theorem PS:yO.map told=some (ahN (br yO)):=by kernel_rfl
theorem asv:tree (ae yO)=Tj L6:=bN PS
theorem Rg:round 0 [6,7,8,9,10,11] [] [6,7] [] (L6 0)=EM L6:=bj PS 0 fun _=>rfl
end Rm
