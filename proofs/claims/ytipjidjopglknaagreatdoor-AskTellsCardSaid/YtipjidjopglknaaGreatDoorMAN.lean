/-
  The functions of this seat, compiled (3).
-/
import Derived.Test.YtipjidjopglknaaGreatDoorMAK
import Derived.KernelRfl
set_option linter.defProp false
set_option linter.unusedVariables false
set_option maxRecDepth 100000
noncomputable section
namespace Rm
open Go Go.Proofs Cx
def EN:Option PC:=cF [6,7,8] [] Tryz.f202 202 []
def xG:PT:=
 (.call ⟨[(28,r2),(27,ahx)],[]⟩ [(27,false)] 31 203 [r0,r1]
 (.ite (.pick fM pT (bq nB mO))
 (.ret (.tup [(pi 0),(pi 3)]))
 (.call ⟨[],[]⟩ [] 37 216 [r0,r1,r2]
 (.call ⟨[(8,p9)],[]⟩ [] 39 166 [p9]
 (.ite (.nt Ht)
 (.ret (.tup [(pi 0),(pi 3)]))
 (.ret (.tup [r8,(pi 0)])))))))
def afg:EN.map told=some (xG,[]):=by kernel_rfl
def IV:tree (ab EN)=xG:=aO afg
def yn:Option PC:=cF [6,7] [] Tryz.f99 99 [3,9]
def Ql:Nat->PC:=bn yn
variable(b:Nat->PC)
def auU:PC:=.block 0 [6,7,13,14] [] (.loop [6,7,13] [] (b 0))
def xu (b:Nat->PC):PT:=
 (.ite (aj dP bS)
 (.chk (ao bV dP)
 (.ite (.pick (peq (pc (.setc z3 0 (pn bV dP)) 0) r1) (peq (pc (.setc z3 0 (pn bV dP)) 1) r2) pF)
 (.ret (.tup [(pc (.setc z3 0 (pn bV dP)) 2),(pi 0)]))
 (.next ⟨[(13,(aL dP (pi 1)))],[]⟩)))
 (.exit 0 ⟨[(14,(aj dP bS))],[]⟩))
def OZ:PT:=
 (.brk ⟨[(13,(pi 0)),(12,(.llen xn)),(11,xn),(7,(pi 0)),(6,(pi 0))],[]⟩
(auU b)
 (.ret (.tup [(pi 0),(pi 4)])))
def apK:PT×List (Shp×PT):=(OZ b,[(.lp 0 [6,7,13,14] [] [6,7,13] [],xu b)])
def Ud:yn.map told=some (apK (bx yn)):=by kernel_rfl
def ajs:tree (ab yn)=OZ Ql:=bJ Ud
def DE:round 0 [6,7,13,14] [] [6,7,13] [] (Ql 0)=xu Ql:=aZ Ud 0 λ_=>rfl
def BM:Option PC:=cF [6,7,8,2,9,10] [] Tryz.f89 89 [3]
def Qx:Nat->PC:=bn BM
def avm:PC:=.block 0 [] [] (.loop [2,6,7] [] (b 0))
def Wd (b:Nat->PC):PT:=
 (.blockS ⟨[],[]⟩ 1 [2,6,7,9,10,14,15,16,17,18,19,20,21,22,23,24,25,26,27,28,29,30,31,32,34] []
 (.call ⟨[],[]⟩ [] 17 139 [(aq 8 o3),r8,r2]
 (.chk (ao (pc o3 1) r1)
 (.call ⟨[(2,iy)],[]⟩ [] 25 140 [(pn (pc o3 1) r1),iy]
 (.ite (aR (.tget fp 1) (pi 0))
 (.ret (.tup [(pi 0),(pi 3)]))
 (.ite (peq (.tget fp 0) r2)
 (.ret (.tup [r2,(pi 0)]))
 (.next ⟨[(2,(.tget fp 0))],[]⟩))))))
 (.next ⟨[],[]⟩))
def Zd:PT:=
 (.call ⟨[(7,(pi 0)),(6,(pi 0))],[(3,(.mk [r0]))]⟩ [] 13 57 [iU,r1]
 (.brk ⟨[(8,dP)],[]⟩
(avm b)
 (.next ⟨[],[]⟩)))
def ap4:PT×List (Shp×PT):=(Zd b,[(.lp 0 [] [] [2,6,7] [],Wd b)])
def Up:BM.map told=some (ap4 (bx BM)):=by kernel_rfl
def aBZ:tree (ab BM)=Zd Qx:=bJ Up
def ax5:round 0 [] [] [2,6,7] [] (Qx 0)=Wd Qx:=aZ Up 0 λ_=>rfl
def BN:Option PC:=cF [6,7,2] [] Tryz.f139 139 [3,9]
def EB:Nat->PC:=bn BN
def avn:PC:=.block 2 [2,7,14,15] [] (.loop [2,7,14] [] (b 0))
def avo:PC:=.block 0 [2,7,10] [] (.loop [2,7] [] (b 1))
def DH (b:Nat->PC):PT:=
 (.ite uU
 (.chk (ao bS dB)
 (.next ⟨[(2,(.pick ahl (aL (pc Dt 2) (pi 1)) r2)),(7,(.pick ahl pT r7)),(14,(aL dB (pi 1)))],[]⟩))
 (.exit 2 ⟨[(15,uU)],[]⟩))
def Oh:PT:=
 (.ite r7
 (.blockS ⟨[(10,r7)],[]⟩ 1 [2,7,11,12,13,14,15] []
 (.brk ⟨[(14,(pi 0)),(13,(.llen (pc o3 7))),(12,(pc o3 7)),(7,pF)],[]⟩
(avn b)
 (.next ⟨[],[]⟩))
 (.next ⟨[],[]⟩))
 (.exit 0 ⟨[(10,r7)],[]⟩))
def Ze:PT:=
 (.brk ⟨[(7,pT)],[(3,(.mk [r0]))]⟩
(avo b)
 (.ret r2))
def ap5:PT×List (Shp×PT):=(Ze b,[(.lp 2 [2,7,14,15] [] [2,7,14] [],DH b),(.lp 0 [2,7,10] [] [2,7] [],Oh b)])
def M9:BN.map told=some (ap5 (bx BN)):=by kernel_rfl
def aB0:tree (ab BN)=Ze EB:=bJ M9
def Og:round 2 [2,7,14,15] [] [2,7,14] [] (EB 0)=DH EB:=aZ M9 0 λ_=>rfl
def aiz:round 0 [2,7,10] [] [2,7] [] (EB 1)=Oh EB:=aZ M9 1 λ_=>rfl
def AS:Option PC:=cF [6] [] Tryz.f140 140 [2,4,5]
def PR:Nat->PC:=bn AS
def aou:PC:=.each kg [16] [4,5] (some (.tup [(pc o4 0),(pc o5 0)])) (b 0)
def Vk (b:Nat->PC):PT:=
 (.exit 1000000007 ⟨[],[(4,(.setc o4 0 fo)),(5,(.setc o5 0 (pi 0)))]⟩)
def WY:PT:=
 (.call ⟨[],[(5,Hb),(4,Hb),(2,(.mk [r0]))]⟩ [] 8 166 [r1]
 (.ite (.nt r8)
 (.ret (.tup [(pc (.setc o4 0 (pi 0)) 0),(pc (.setc o5 0 (pi 3)) 0)]))
 (.call ⟨[],[]⟩ [] 15 167 [(aq 6 o2),r1,(.mn (aL r1 (pi 400)) (pi 100000))]
 (.blockS ⟨[],[]⟩ 0 [] [4,5]
 (.callc ⟨[],[]⟩ [] 18 fm []
 (.brk ⟨[],[]⟩
(aou b)
 (.next ⟨[],[]⟩)))
 (.ret (.tup [(pc (.setc o4 0 (pi 0)) 0),(pc (.setc o5 0 (pi 3)) 0)]))))))
def ao5:PT×List (Shp×PT):=(WY b,[(.ea [4,5],Vk b)])
def TH:AS.map told=some (ao5 (bx AS)):=by kernel_rfl
def azG:tree (ab AS)=WY PR:=bJ TH
def axZ:rP [4,5] (PR 0)=Vk PR:=WM TH 0 λ_=>rfl
def JJ:Option PC:=cF [6] [] Tryz.f167 167 [3,4,5]
def W0:PT:=
 (.ret (.clo 204 [(.ref zR),(.ref (pc (.mk [r2]) 0)),(.ref (aq 6 (.mk [r0])))]))
def afi:JJ.map told=some (W0,[]):=by kernel_rfl
def azJ:tree (ab JJ)=W0:=aO afi
def tY:Option PC:=E3 {ctx with fr:=[5],nh:=[]} Tryz.f204 [(.ref I),(.ref I),(.ref Y0)] [I] 1000 [1000]
def PS:Nat->PC:=bn tY
def at2:PC:=.block 0 [5,7,8,9] [1000] (.loop [5] [1000] (b 0))
def NS (b:Nat->PC):PT:=
 (.ite (bB r5 (.deref r2))
 (.blockS ⟨[],[]⟩ 1 [12,13,14,15,20] [1000]
 (.call ⟨[],[]⟩ [] 14 205 [(.deref r3),r5]
 (.call ⟨[(15,dB)],[(1000,ahG)]⟩ [(15,true)] 18 1000000009 [ahG]
 (.ite (.pick fm (.nt kg) pF)
 (.ret (.o 1000))
 (.next ⟨[],[]⟩))))
 (.next ⟨[(5,nz)],[]⟩))
 (.exit 0 ⟨[(7,r5),(8,(.deref r2)),(9,(bB r5 (.deref r2)))],[]⟩))
def W5:PT:=
 (.brk ⟨[(5,(.deref r1))],[]⟩
(at2 b)
 (.ret (.o 1000)))
def ao6:PT×List (Shp×PT):=(W5 b,[(.lp 0 [5,7,8,9] [1000] [5] [1000],NS b)])
def TI:tY.map told=some (ao6 (bx tY)):=by kernel_rfl
def azI:tree (ab tY)=W5 PS:=bJ TI
def aii:round 0 [5,7,8,9] [1000] [5] [1000] (PS 0)=NS PS:=aZ TI 0 λ_=>rfl
def amZ:∀yv,E3 {ctx with fr:=[5],nh:=[],yv:=yv} Tryz.f204 [(.ref I),(.ref I),(.ref Y0)] [I] 1000 [1000]=some (ab tY):=λyv=>(show _=tY by kernel_rfl).trans (aw tY TI)
def JL:Option PC:=cF [4,5,6,7] [] Tryz.f205 205 [2]
def W7:PT:=
 (.call ⟨[],[(2,(.mk [r0]))]⟩ [] 10 201 [r1]
 (.chk (aR (pi 7) (pi 0))
 (.call ⟨[(7,(.tget bZ 2)),(6,(.tget bZ 1))],[]⟩ [] 19 81 [(pc o2 3),(.ai .rem .i64 (aL r1 (pi 5)) (pi 7))]
 (.call ⟨[(21,(.nt gV))],[]⟩ [(21,true)] 28 81 [(pc o2 4),(aL (.ai .mul .i64 (pi 100) r6) r7)]
 (.call ⟨[(31,(.pick jt (.nt nB) pF))],[]⟩ [(31,true)] 35 81 [(pc o2 5),r1]
 (.ret (.pick mO (.nt p8) pF)))))))
def afl:JL.map told=some (W7,[]):=by kernel_rfl
def azL:tree (ab JL)=W7:=aO afl
def JR:Option PC:=cF [4] [] Tryz.f7 7 [2,3]
def Xe:PT:=
 (.call ⟨[],[(2,(.mk [r0]))]⟩ [] 7 31 [iU,(aq 19 (.mk [r1]))]
 (.call ⟨[(8,r7)],[]⟩ [(8,true)] 10 32 [(aq 8 o2)]
 (.ret (.pick r8 (peq bZ (pi 0)) pF))))
def afr:JR.map told=some (Xe,[]):=by kernel_rfl
def azU:tree (ab JR)=Xe:=aO afr
def Bq:Option PC:=cF [4,5] [] Tryz.f31 31 [2,3]
def Qh:Nat->PC:=bn Bq
def auR:PC:=.block 0 [4,5,14,15,16,17,18] [] (.loop [4,5] [] (b 0))
def H9 (b:Nat->PC):PT:=
 (.ite (aj r5 (.llen (pc o2 4)))
 (.blockS ⟨[],[]⟩ 1 [4,21,22,23,24,25,26,27] []
 (.chk (ao (pc o2 4) r5)
 (.call ⟨[],[]⟩ [] 26 63 [(pn (pc o2 4) r5)]
 (.ite (.nt mN)
 (.ret pF)
 (.next ⟨[],[]⟩))))
 (.next ⟨[(5,nz)],[]⟩))
 (.exit 0 ⟨[(14,r5),(15,pN),(16,(pc o2 4)),(17,(.llen (pc o2 4))),(18,(aj r5 (.llen (pc o2 4))))],[]⟩))
def Yl:PT:=
 (.call ⟨[(4,pF)],[(3,(.mk [r1])),(2,(.mk [r0]))]⟩ [] 7 61 [iU]
 (.call ⟨[(9,(.nt r7))],[]⟩ [(9,false)] 11 62 [(aq 19 o3)]
 (.ite (.pick r9 pT (.nt bV))
 (.ret pF)
 (.brk ⟨[(5,(pi 0))],[]⟩
(auR b)
 (.ret pT)))))
def apG:PT×List (Shp×PT):=(Yl b,[(.lp 0 [4,5,14,15,16,17,18] [] [4,5] [],H9 b)])
def T9:Bq.map told=some (apG (bx Bq)):=by kernel_rfl
def aBg:tree (ab Bq)=Yl Qh:=bJ T9
def VQ:round 0 [4,5,14,15,16,17,18] [] [4,5] [] (Qh 0)=H9 Qh:=aZ T9 0 λ_=>rfl
def A0:Option PC:=cF [2,3,4] [] Tryz.f61 61 [1]
def En:Nat->PC:=bn A0
def aue:PC:=.block 0 [2,3,5,6,7,8,9,10,13] [] (.loop [2,3] [] (b 0))
def auf:PC:=.block 2 [2,4,44,45,46,47,48,49,52] [] (.loop [2,4] [] (b 1))
def Ah (b:Nat->PC):PT:=
 (.ite (.pick (aj r3 mL) (aj r3 (pi 50)) pF)
 (.chk (ao (pc o1 1) r3)
 (.chk (.nt (.an (.an (.nt (bq (.llen (pc (pn (pc o1 1) r3) 4)) (pi 70))) pT) (.nt (ao (pc o1 1) r3))))
 (.chk (.nt (.an (.an (.nt ahC) pT) (.nt (ao (pc o1 1) r3))))
 (.ite (.pick ahC pT (bq (.llen (pc (pn (pc o1 1) r3) 3)) (pi 8)))
 (.ret pF)
 (.next ⟨[(3,u7)],[]⟩)))))
 (.exit 0 ⟨[(5,r3),(6,pN),(7,(pc o1 1)),(8,mL),(9,(aj r3 mL)),(10,(aj r3 mL)),(13,(.pick (aj r3 mL) (aj r3 (pi 50)) pF))],[]⟩))
def Dz (b:Nat->PC):PT:=
 (.ite (.pick (aj r4 pY) (aj r4 (pi 50)) pF)
 (.chk (ao (pc o1 4) r4)
 (.chk (.nt (.an (.an (.nt (bq (.llen (pc zQ 2)) (pi 40))) pT) (.nt (ao (pc o1 4) r4))))
 (.ite (.pick (bq (.llen (pc zQ 2)) (pi 40)) pT (bq (.llen (pc zQ 3)) (pi 40)))
 (.ret pF)
 (.next ⟨[(4,(aL r4 (pi 1)))],[]⟩))))
 (.exit 2 ⟨[(44,r4),(45,pN),(46,(pc o1 4)),(47,pY),(48,(aj r4 pY)),(49,(aj r4 pY)),(52,(.pick (aj r4 pY) (aj r4 (pi 50)) pF))],[]⟩))
def Xy:PT:=
 (.brk ⟨[(3,(pi 0)),(2,pF)],[(1,(.mk [r0]))]⟩
(aue b)
 (.brk ⟨[(4,(pi 0))],[]⟩
(auf b)
 (.ret (.pick (.pick (.pick (.pick (.pick (.pick (.pick (aj xo (pi 50)) (aj mL (pi 50)) pF) (aj oG (pi 50)) pF) (aj oF (pi 210)) pF) (aj pY (pi 50)) pF) (aj Dp (pi 110)) pF) (aj (.llen (pc o1 6)) (pi 110)) pF) (aj zS (pi 50)) pF))))
def ape:PT×List (Shp×PT):=(Xy b,[(.lp 0 [2,3,5,6,7,8,9,10,13] [] [2,3] [],Ah b),(.lp 2 [2,4,44,45,46,47,48,49,52] [] [2,4] [],Dz b)])
def MW:A0.map told=some (ape (bx A0)):=by kernel_rfl
def aAg:tree (ab A0)=Xy En:=bJ MW
def HH:round 0 [2,3,5,6,7,8,9,10,13] [] [2,3] [] (En 0)=Ah En:=aZ MW 0 λ_=>rfl
def NX:round 2 [2,4,44,45,46,47,48,49,52] [] [2,4] [] (En 1)=Dz En:=aZ MW 1 λ_=>rfl
def Kg:Option PC:=cF [2] [] Tryz.f62 62 [1]
def XT:PT:=
 (.ret (.pick (.pick (.pick (bB (.llen (pc (.mk [r0]) 15)) (pi 50)) (bB (.llen (pc (.mk [r0]) 16)) (pi 10)) pF) (bB (.llen (pc (.mk [r0]) 17)) (pi 110)) pF) (bB (.llen (pc (.mk [r0]) 18)) (pi 220)) pF))
def afR:Kg.map told=some (XT,[]):=by kernel_rfl
def aAD:tree (ab Kg)=XT:=aO afR
def Bl:Option PC:=cF [2,3] [] Tryz.f63 63 [1]
def Qc:Nat->PC:=bn Bl
def auM:PC:=.block 0 [2,3,14,15,16,17,18] [] (.loop [2,3] [] (b 0))
def H6 (b:Nat->PC):PT:=
 (.ite (aj r3 oF)
 (.blockS ⟨[],[]⟩ 1 [2,21,22,23,24,25,26,27,28] []
 (.chk (ao (pc o1 3) r3)
 (.call ⟨[],[]⟩ [] 27 107 [(.sub (pn (pc o1 3) r3) 1 3)]
 (.ite (.nt fM)
 (.ret pF)
 (.next ⟨[],[]⟩))))
 (.next ⟨[(3,u7)],[]⟩))
 (.exit 0 ⟨[(14,r3),(15,pN),(16,(pc o1 3)),(17,oF),(18,(aj r3 oF))],[]⟩))
def X8:PT:=
 (.ite (.pick (bq (.llen (pc (.mk [r0]) 3)) (pi 60)) pT (bq rF (pi 60)))
 (.ret pF)
 (.brk ⟨[(3,(pi 0)),(2,pF)],[(1,(.mk [r0]))]⟩
(auM b)
 (.ret pT)))
def apB:PT×List (Shp×PT):=(X8 b,[(.lp 0 [2,3,14,15,16,17,18] [] [2,3] [],H6 b)])
def T4:Bl.map told=some (apB (bx Bl)):=by kernel_rfl
def aA3:tree (ab Bl)=X8 Qc:=bJ T4
def VM:round 0 [2,3,14,15,16,17,18] [] [2,3] [] (Qc 0)=H6 Qc:=aZ T4 0 λ_=>rfl
def Ko:Option PC:=cF [2] [] Tryz.f107 107 [1]
def XZ:PT:=
 (.call ⟨[],[]⟩ [] 4 146 [z7,(pi 100),(pi 20)]
 (.ret (bY r4 (pi 0))))
def afY:Ko.map told=some (XZ,[]):=by kernel_rfl
def aAN:tree (ab Ko)=XZ:=aO afY
def ym:Option PC:=cF [6,1,7] [] Tryz.f146 146 [3]
def Qa:Nat->PC:=bn ym
def auK:PC:=.block 0 [1,7,12,13,14,15,16,17,20] [] (.loop [1,7] [] (b 0))
def H4 (b:Nat->PC):PT:=
 (.ite (.pick (aj r7 mK) (bY r1 (pi 0)) pF)
 (.blockS ⟨[],[]⟩ 1 [1,23,24,25,26,27,28,29,30,31] []
 (.chk (ao (pc o3 2) r7)
 (.call ⟨[],[]⟩ [] 31 146 [(pn (pc o3 2) r7),r1,(bp r2 (pi 1))]
 (.next ⟨[(1,mO)],[]⟩)))
 (.next ⟨[(7,zT)],[]⟩))
 (.exit 0 ⟨[(12,r7),(13,pN),(14,(pc o3 2)),(15,mK),(16,(aj r7 mK)),(17,(aj r7 mK)),(20,(.pick (aj r7 mK) (bY r1 (pi 0)) pF))],[]⟩))
def OX:PT:=
 (.ite (aj r2 (pi 1))
 (.ret (pi (-1)))
 (.brk ⟨[(7,(pi 0)),(1,(bp r1 (pi 1)))],[(3,(.mk [r0]))]⟩
(auK b)
 (.ret r1)))
def apz:PT×List (Shp×PT):=(OX b,[(.lp 0 [1,7,12,13,14,15,16,17,20] [] [1,7] [],H4 b)])
def T2:ym.map told=some (apz (bx ym)):=by kernel_rfl
def ajr:tree (ab ym)=OX Qa:=bJ T2
def VK:round 0 [1,7,12,13,14,15,16,17,20] [] [1,7] [] (Qa 0)=H4 Qa:=aZ T2 0 λ_=>rfl
def J6:Option PC:=cF [2,3] [] Tryz.f32 32 [1]
def Xx:PT:=
 (.call ⟨[],[(1,(.mk [r0]))]⟩ [] 5 64 [iU]
 (.iteS ⟨[(3,r5)],[]⟩ (peq r5 (pi 0)) [3] []
 (.call ⟨[],[]⟩ [] 9 65 [(aq 8 o1)]
 (.next ⟨[(3,r9)],[]⟩))
 (.next ⟨[],[]⟩)
 (.iteS ⟨[],[]⟩ (peq r3 (pi 0)) [3] []
 (.call ⟨[],[]⟩ [] 13 66 [(aq 8 o1)]
 (.next ⟨[(3,dP)],[]⟩))
 (.next ⟨[],[]⟩)
 (.iteS ⟨[],[]⟩ (peq r3 (pi 0)) [3] []
 (.call ⟨[],[]⟩ [] 17 67 [(aq 8 o1)]
 (.next ⟨[(3,iy)],[]⟩))
 (.next ⟨[],[]⟩)
 (.iteS ⟨[],[]⟩ (peq r3 (pi 0)) [3] []
 (.call ⟨[],[]⟩ [] 21 68 [(aq 8 o1)]
 (.next ⟨[(3,jt)],[]⟩))
 (.next ⟨[],[]⟩)
 (.ret r3))))))
def afH:J6.map told=some (Xx,[]):=by kernel_rfl
def aAf:tree (ab J6)=Xx:=aO afH
def A6:Option PC:=cF [2,3,4,6,7] [] Tryz.f64 64 [1,5,44]
def Ep:Nat->PC:=bn A6
def aum:PC:=.block 0 [2,3,12,13,14,15,16] [] (.loop [2,3] [] (b 0))
def aun:PC:=.block 2 [2,5,6,30,31,32,33,34] [5] (.loop [2,5,6] [5] (b 1))
def HO (b:Nat->PC):PT:=
 (.ite (aj r3 xo)
 (.blockS ⟨[],[]⟩ 1 [2,4,19,20,21,22,23,24] []
 (.call ⟨[],[]⟩ [] 22 108 [(pc o1 0),r3]
 (.ite (aR NI (pi 0))
 (.ret NI)
 (.next ⟨[],[]⟩)))
 (.next ⟨[(3,u7)],[]⟩))
 (.exit 0 ⟨[(12,r3),(13,pN),(14,(pc o1 0)),(15,xo),(16,(aj r3 xo))],[]⟩))
def HP (b:Nat->PC):PT:=
 (.ite (aj r6 mL)
 (.blockS ⟨[],[]⟩ 3 [2,5,7,38,39,40,41,42,43,44,45,46,47,48,49,50,52,53,54,55,56,57,58,59] [44,5]
 (.chk (ao (pc o1 1) r6)
 (.chk (bB (.llen UM) cM)
 (.call ⟨[(5,pN)],[(5,UM)]⟩ [] 48 108 [UM,r6]
 (.ite (aR rG (pi 0))
 (.ret rG)
 (.chk (ao (pc o1 1) r6)
 (.call ⟨[],[]⟩ [] 58 109 [(aq 8 o1),(pn (pc o1 1) r6)]
 (.ite (.nt xq)
 (.ret (pi 1))
 (.next ⟨[],[]⟩))))))))
 (.next ⟨[(6,zU)],[]⟩))
 (.exit 2 ⟨[(30,r6),(31,pN),(32,(pc o1 1)),(33,mL),(34,(aj r6 mL))],[]⟩))
def XH:PT:=
 (.ite (bq (.llen gK) (pi 8))
 (.ret (pi 6))
 (.brk ⟨[(3,(pi 0)),(2,(pi 0))],[(1,(.mk [r0]))]⟩
(aum b)
 (.ite (bq mL (pi 40))
 (.ret (pi 6))
 (.brk ⟨[(6,(pi 0)),(5,pN)],[(5,pL)]⟩
(aun b)
 (.ret (pi 0))))))
def apk:PT×List (Shp×PT):=(XH b,[(.lp 0 [2,3,12,13,14,15,16] [] [2,3] [],HO b),(.lp 2 [2,5,6,30,31,32,33,34] [5] [2,5,6] [5],HP b)])
def MY:A6.map told=some (apk (bx A6)):=by kernel_rfl
def aAq:tree (ab A6)=XH Ep:=bJ MY
def Vw:round 0 [2,3,12,13,14,15,16] [] [2,3] [] (Ep 0)=HO Ep:=aZ MY 0 λ_=>rfl
def Vx:round 2 [2,5,6,30,31,32,33,34] [5] [2,5,6] [5] (Ep 1)=HP Ep:=aZ MY 1 λ_=>rfl
def Kb:Option PC:=cF [4] [] Tryz.f108 108 []
def XJ:PT:=
 (.chk (ao r0 r1)
 (.call ⟨[],[]⟩ [] 9 147 [(pn r0 r1)]
 (.ite (.nt r9)
 (.ret (pi 2))
 (.chk (ao r0 r1)
 (.call ⟨[],[]⟩ [] 17 148 [r0,r1,(pn r0 r1)]
 (.ite iy
 (.ret (pi 5))
 (.ret (pi 0))))))))
def afM:Kb.map told=some (XJ,[]):=by kernel_rfl
def aAs:tree (ab Kb)=XJ:=aO afM
def A1:Option PC:=cF [2,3,4] [] Tryz.f147 147 []
def PZ:Nat->PC:=bn A1
def aug:PC:=.block 0 [2,3,13,14,15,16] [] (.loop [2,3] [] (b 0))
def HI (b:Nat->PC):PT:=
 (.ite (aj r3 (.slen r0))
 (.blockS ⟨[],[]⟩ 1 [2,4,19,20,21,22,23,34,35,36,37,38,39,40,47] []
 (.chk (.sok r0 r3)
 (.chk (.nt (.an (.an (.nt UJ) pT) (.nt (.sok r0 r3))))
 (.chk (.nt (.an (.an (bB (.con (.v (.int .u8 48))) (.sidx r0 r3)) (.an (.nt UJ) pT)) (.nt (.sok r0 r3))))
 (.call ⟨[(4,(.pick UJ pT (.pick (bB (.con (.v (.int .u8 48))) (.sidx r0 r3)) (bB (.sidx r0 r3) (.con (.v (.int .u8 57)))) pF)))],[]⟩ [] 38 172 [(.sidx r0 r3)]
 (.ite (.pick (.nt ju) (.pick (peq r3 (pi 0)) pT (.nt r4)) pF)
 (.ret pF)
 (.next ⟨[],[]⟩))))))
 (.next ⟨[(3,u7)],[]⟩))
 (.exit 0 ⟨[(13,r3),(14,r0),(15,(.slen r0)),(16,(aj r3 (.slen r0)))],[]⟩))
def XA:PT:=
 (.ite (.pick (aj (.slen r0) (pi 1)) pT (bq (.slen r0) (pi 20)))
 (.ret pF)
 (.brk ⟨[(3,(pi 0)),(2,pF)],[]⟩
(aug b)
 (.ret pT)))
def apf:PT×List (Shp×PT):=(XA b,[(.lp 0 [2,3,13,14,15,16] [] [2,3] [],HI b)])
def TO:A1.map told=some (apf (bx A1)):=by kernel_rfl
def aAj:tree (ab A1)=XA PZ:=bJ TO
def Vq:round 0 [2,3,13,14,15,16] [] [2,3] [] (PZ 0)=HI PZ:=aZ TO 0 λ_=>rfl
def J8:Option PC:=cF [2] [] Tryz.f172 172 []
def Xz:PT:=
 (.ret (.pick (.pick (bB (.con (.v (.int .u8 97))) r0) (bB r0 (.con (.v (.int .u8 122)))) pF) pT (.pick (bB (.con (.v (.int .u8 65))) r0) (bB r0 (.con (.v (.int .u8 90)))) pF)))
def afJ:J8.map told=some (Xz,[]):=by kernel_rfl
def aAi:tree (ab J8)=Xz:=aO afJ
def AZ:Option PC:=cF [6,7] [] Tryz.f148 148 []
def PY:Nat->PC:=bn AZ
def aud:PC:=.block 0 [6,7,8,9,10,11,16] [] (.loop [6,7] [] (b 0))
def HG (b:Nat->PC):PT:=
 (.ite (.pick (aj r7 r1) (aj r7 (.llen r0)) pF)
 (.chk (ao r0 r7)
 (.ite (.cs .eql (pn r0 r7) r2)
 (.ret pT)
 (.next ⟨[(7,zT)],[]⟩)))
 (.exit 0 ⟨[(8,r7),(9,r1),(10,(aj r7 r1)),(11,(aj r7 r1)),(16,(.pick (aj r7 r1) (aj r7 (.llen r0)) pF))],[]⟩))
def Xw:PT:=
 (.brk ⟨[(7,(pi 0)),(6,pF)],[]⟩
(aud b)
 (.ret pF))
def apd:PT×List (Shp×PT):=(Xw b,[(.lp 0 [6,7,8,9,10,11,16] [] [6,7] [],HG b)])
def TN:AZ.map told=some (apd (bx AZ)):=by kernel_rfl
def aAe:tree (ab AZ)=Xw PY:=bJ TN
def Vp:round 0 [6,7,8,9,10,11,16] [] [6,7] [] (PY 0)=HG PY:=aZ TN 0 λ_=>rfl
def A2:Option PC:=cF [4,5] [] Tryz.f109 109 [2,3]
def P0:Nat->PC:=bn A2
def auh:PC:=.block 0 [4,5,36,37,38,39,40] [] (.loop [4,5] [] (b 0))
def HJ (b:Nat->PC):PT:=
 (.ite (aj r5 Dl)
 (.blockS ⟨[],[]⟩ 1 [4,43,44,45,46,47,48,49,50,51,60] []
 (.chk (ao (pc o3 4) r5)
 (.chk z8
 (.call ⟨[],[]⟩ [] 49 74 [(.ai .quo .i64 (pn (pc o3 4) r5) (pi 100)),(pi 1),(pi 12)]
 (.chk (.nt (.an (.an (.nt (.nt td)) pT) (.nt (ao (pc o3 4) r5))))
 (.chk (.nt (.an (.an (.nt (.nt td)) pT) (.nt z8)))
 (.call ⟨[(51,(.nt td))],[]⟩ [(51,false)] 58 74 [(.ai .rem .i64 (pn (pc o3 4) r5) (pi 100)),(pi 1),(pi 31)]
 (.ite (.pick NK pT (.nt xq))
 (.ret pF)
 (.next ⟨[],[]⟩))))))))
 (.next ⟨[(5,nz)],[]⟩))
 (.exit 0 ⟨[(36,r5),(37,pN),(38,(pc o3 4)),(39,Dl),(40,(aj r5 Dl))],[]⟩))
def XC:PT:=
 (.call ⟨[(4,pF)],[(3,(.mk [r1])),(2,(.mk [r0]))]⟩ [] 12 74 [Dk,(pi 0),(bp (.llen uY) (pi 1))]
 (.call ⟨[(14,(.nt bS))],[]⟩ [(14,false)] 21 74 [(pc o3 2),(pi 0),(bp (.llen (pc o2 0)) (pi 1))]
 (.ite (.pick (.pick (.pick dB pT (.nt jt)) pT (bq Dl (pi 60))) pT (bq (.llen (pc o3 5)) (pi 200)))
 (.ret pF)
 (.brk ⟨[(5,(pi 0))],[]⟩
(auh b)
 (.call ⟨[],[]⟩ [] 63 149 [(pc o3 3),(pi 0),(pi 6)]
 (.call ⟨[(64,Hu)],[]⟩ [(64,true)] 67 149 [(pc o3 4),(pi 0),(pi 2000)]
 (.call ⟨[(69,(.pick Ae qe pF))],[]⟩ [(69,true)] 72 149 [(pc o3 5),(pi 0),(pi 100000)]
 (.ret (.pick oI Hx pF)))))))))
def apg:PT×List (Shp×PT):=(XC b,[(.lp 0 [4,5,36,37,38,39,40] [] [4,5] [],HJ b)])
def TP:A2.map told=some (apg (bx A2)):=by kernel_rfl
def aAl:tree (ab A2)=XC P0:=bJ TP
def Vr:round 0 [4,5,36,37,38,39,40] [] [4,5] [] (P0 0)=HJ P0:=aZ TP 0 λ_=>rfl
def Ka:Option PC:=cF [6] [] Tryz.f74 74 []
def XG:PT:=
 (.ret (.pick (bB r1 r0) (bB r0 r2) pF))
def afL:Ka.map told=some (XG,[]):=by kernel_rfl
def aAp:tree (ab Ka)=XG:=aO afL
def A4:Option PC:=cF [6,7] [] Tryz.f149 149 []
def P1:Nat->PC:=bn A4
def auk:PC:=.block 0 [6,7,8,9,10,11] [] (.loop [6,7] [] (b 0))
def HM (b:Nat->PC):PT:=
 (.ite (aj r7 (.llen r0))
 (.blockS ⟨[],[]⟩ 1 [6,14,15,16,17,18,19,20,21,22,23,24,35] []
 (.chk (ao r0 r7)
 (.call ⟨[],[]⟩ [] 20 74 [(pn r0 r7),r1,r2]
 (.ite (.nt eT)
 (.ret pF)
 (.chk (.nt (.an (.an (bq r7 (pi 0)) pT) (.nt (ao r0 (bp r7 (pi 1))))))
 (.chk (.nt (.an (.an (bq r7 (pi 0)) pT) (.nt (ao r0 r7))))
 (.ite (.pick (bq r7 (pi 0)) (bY (pn r0 (bp r7 (pi 1))) (pn r0 r7)) pF)
 (.ret pF)
 (.next ⟨[],[]⟩)))))))
 (.next ⟨[(7,zT)],[]⟩))
 (.exit 0 ⟨[(8,r7),(9,r0),(10,(.llen r0)),(11,(aj r7 (.llen r0)))],[]⟩))
def XE:PT:=
 (.brk ⟨[(7,(pi 0)),(6,pF)],[]⟩
(auk b)
 (.ret pT))
def api:PT×List (Shp×PT):=(XE b,[(.lp 0 [6,7,8,9,10,11] [] [6,7] [],HM b)])
def TQ:A4.map told=some (api (bx A4)):=by kernel_rfl
def aAn:tree (ab A4)=XE P1:=bJ TQ
def Vu:round 0 [6,7,8,9,10,11] [] [6,7] [] (P1 0)=HM P1:=aZ TQ 0 λ_=>rfl
def A7:Option PC:=cF [2,3,5,6] [] Tryz.f65 65 [1,4,44]
def Er:Nat->PC:=bn A7
def auo:PC:=.block 0 [2,3,11,12,13,14,15] [] (.loop [2,3] [] (b 0))
def aup:PC:=.block 2 [2,4,5,30,31,32,33,34] [4] (.loop [2,4,5] [4] (b 1))
def HQ (b:Nat->PC):PT:=
 (.ite (aj r3 oG)
 (.blockS ⟨[],[]⟩ 1 [2,18,19,20,21,22,23,24,25] []
 (.chk (ao (pc o1 2) r3)
 (.call ⟨[],[]⟩ [] 24 74 [(pc (pn (pc o1 2) r3) 0),(pi 0),(pi 9)]
 (.ite (.nt nA)
 (.ret (pi 1))
 (.next ⟨[],[]⟩))))
 (.next ⟨[(3,u7)],[]⟩))
 (.exit 0 ⟨[(11,r3),(12,pN),(13,(pc o1 2)),(14,oG),(15,(aj r3 oG))],[]⟩))
def HR (b:Nat->PC):PT:=
 (.ite (aj r5 oF)
 (.blockS ⟨[],[]⟩ 3 [2,4,6,38,39,40,41,42,43,44,45,46,47,48,49,50,52,53,54,55,56,57,58,59,60,61,62,63,64,77] [44,4]
 (.chk (ao (pc o1 3) r5)
 (.chk (bB (.llen UN) cM)
 (.call ⟨[(4,pN)],[(4,UN)]⟩ [] 48 108 [UN,r5]
 (.ite (aR rG (pi 0))
 (.ret rG)
 (.chk (ao (pc o1 3) r5)
 (.call ⟨[],[]⟩ [] 62 74 [(pc (pn (pc o1 3) r5) 1),(pi 0),(bp mL (pi 1))]
 (.chk (.nt (.an (.an (.nt (.nt qd)) pT) (.nt (ao (pc o1 3) r5))))
 (.call ⟨[(64,(.nt qd))],[]⟩ [(64,false)] 75 74 [(pc (pn (pc o1 3) r5) 2),(pi 0),(bp oG (pi 1))]
 (.ite (.pick Ae pT (.nt vb))
 (.ret (pi 1))
 (.next ⟨[],[]⟩))))))))))
 (.next ⟨[(5,nz)],[]⟩))
 (.exit 2 ⟨[(30,r5),(31,pN),(32,(pc o1 3)),(33,oF),(34,(aj r5 oF))],[]⟩))
def XI:PT:=
 (.ite (bq rF (pi 20))
 (.ret (pi 6))
 (.brk ⟨[(3,(pi 0)),(2,(pi 0))],[(1,(.mk [r0]))]⟩
(auo b)
 (.ite (bq oF (pi 200))
 (.ret (pi 6))
 (.brk ⟨[(5,(pi 0)),(4,pN)],[(4,pL)]⟩
(aup b)
 (.ret (pi 0))))))
def apl:PT×List (Shp×PT):=(XI b,[(.lp 0 [2,3,11,12,13,14,15] [] [2,3] [],HQ b),(.lp 2 [2,4,5,30,31,32,33,34] [4] [2,4,5] [4],HR b)])
def MZ:A7.map told=some (apl (bx A7)):=by kernel_rfl
def aAr:tree (ab A7)=XI Er:=bJ MZ
def Vy:round 0 [2,3,11,12,13,14,15] [] [2,3] [] (Er 0)=HQ Er:=aZ MZ 0 λ_=>rfl
def Vz:round 2 [2,4,5,30,31,32,33,34] [4] [2,4,5] [4] (Er 1)=HR Er:=aZ MZ 1 λ_=>rfl
def A8:Option PC:=cF [2,4,5] [] Tryz.f66 66 [1,3,24]
def P3:Nat->PC:=bn A8
def auq:PC:=.block 0 [2,3,4,10,11,12,13,14] [3] (.loop [2,3,4] [3] (b 0))
def HS (b:Nat->PC):PT:=
 (.ite (aj r4 pY)
 (.blockS ⟨[],[]⟩ 1 [2,3,5,18,19,20,21,22,23,24,25,26,27,28,29,30,32,33,34,35,36,37,38] [24,3]
 (.chk (ao (pc o1 4) r4)
 (.chk (bB (.llen (.app o3 (.lst [(pc zQ 0)]))) cM)
 (.call ⟨[(3,pN)],[(3,(.app o3 (.lst [(pc zQ 0)])))]⟩ [] 28 108 [(.app o3 (.lst [(pc zQ 0)])),r4]
 (.ite (aR nB (pi 0))
 (.ret nB)
 (.chk (ao (pc o1 4) r4)
 (.call ⟨[],[]⟩ [] 37 110 [zQ]
 (.ite (.nt p9)
 (.ret (pi 1))
 (.next ⟨[],[]⟩))))))))
 (.next ⟨[(4,(aL r4 (pi 1)))],[]⟩))
 (.exit 0 ⟨[(10,r4),(11,pN),(12,(pc o1 4)),(13,pY),(14,(aj r4 pY))],[]⟩))
def XK:PT:=
 (.ite (bq (.llen uY) (pi 20))
 (.ret (pi 6))
 (.brk ⟨[(4,(pi 0)),(3,pN),(2,(pi 0))],[(3,pL),(1,(.mk [r0]))]⟩
(auq b)
 (.ret (pi 0))))
def apm:PT×List (Shp×PT):=(XK b,[(.lp 0 [2,3,4,10,11,12,13,14] [3] [2,3,4] [3],HS b)])
def TS:A8.map told=some (apm (bx A8)):=by kernel_rfl
def aAt:tree (ab A8)=XK P3:=bJ TS
def VA:round 0 [2,3,4,10,11,12,13,14] [3] [2,3,4] [3] (P3 0)=HS P3:=aZ TS 0 λ_=>rfl
def A3:Option PC:=cF [2,3,4] [] Tryz.f110 110 [1]
def Eo:Nat->PC:=bn A3
def aui:PC:=.block 0 [2,3,5,6,7,8,9] [] (.loop [2,3] [] (b 0))
def auj:PC:=.block 2 [2,4,48,49,50,51,52] [] (.loop [2,4] [] (b 1))
def HK (b:Nat->PC):PT:=
 (.ite (aj r3 oG)
 (.blockS ⟨[],[]⟩ 1 [2,12,13,14,15,16,17,18,19,20,29,30,31,32,47] []
 (.chk (ao (pc o1 2) r3)
 (.call ⟨[],[]⟩ [] 18 74 [(pc (pn (pc o1 2) r3) 0),(pi 0),(pi 21)]
 (.chk (.nt (.an (.an (.nt (.nt kg)) pT) (.nt (ao (pc o1 2) r3))))
 (.call ⟨[(20,(.nt kg))],[]⟩ [(20,false)] 27 74 [(pc (pn (pc o1 2) r3) 1),(pi 0),(pi 4)]
 (.ite (.pick eT pT (.nt fM))
 (.ret pF)
 (.chk (.nt (.an (.an (bq r3 (pi 0)) pT) (.nt (ao (pc o1 2) (bp r3 (pi 1))))))
 (.chk (.nt (.an (.an (bq r3 (pi 0)) pT) (.nt (ao (pc o1 2) r3))))
 (.ite (.pick (bq r3 (pi 0)) (bY (pc (pn (pc o1 2) (bp r3 (pi 1))) 0) (pc (pn (pc o1 2) r3) 0)) pF)
 (.ret pF)
 (.next ⟨[],[]⟩)))))))))
 (.next ⟨[(3,u7)],[]⟩))
 (.exit 0 ⟨[(5,r3),(6,pN),(7,(pc o1 2)),(8,oG),(9,(aj r3 oG))],[]⟩))
def HL (b:Nat->PC):PT:=
 (.ite (aj r4 oF)
 (.blockS ⟨[],[]⟩ 3 [2,55,56,57,58,59,60,61,62,63,64,65,80] []
 (.chk (ao (pc o1 3) r4)
 (.call ⟨[],[]⟩ [] 61 74 [(pc (pn (pc o1 3) r4) 0),(pi 0),(pi 21)]
 (.ite (.nt Dv)
 (.ret pF)
 (.chk (.nt (.an (.an (bq r4 (pi 0)) pT) (.nt (ao (pc o1 3) (bp r4 (pi 1))))))
 (.chk (.nt (.an (.an (bq r4 (pi 0)) pT) (.nt (ao (pc o1 3) r4))))
 (.ite (.pick (bq r4 (pi 0)) (bY (pc (pn (pc o1 3) (bp r4 (pi 1))) 0) (pc (pn (pc o1 3) r4) 0)) pF)
 (.ret pF)
 (.next ⟨[],[]⟩)))))))
 (.next ⟨[(4,(aL r4 (pi 1)))],[]⟩))
 (.exit 2 ⟨[(48,r4),(49,pN),(50,(pc o1 3)),(51,oF),(52,(aj r4 oF))],[]⟩))
def XD:PT:=
 (.brk ⟨[(3,(pi 0)),(2,pF)],[(1,(.mk [r0]))]⟩
(aui b)
 (.brk ⟨[(4,(pi 0))],[]⟩
(auj b)
 (.ret pT)))
def aph:PT×List (Shp×PT):=(XD b,[(.lp 0 [2,3,5,6,7,8,9] [] [2,3] [],HK b),(.lp 2 [2,4,48,49,50,51,52] [] [2,4] [],HL b)])
def MX:A3.map told=some (aph (bx A3)):=by kernel_rfl
def aAm:tree (ab A3)=XD Eo:=bJ MX
def Vs:round 0 [2,3,5,6,7,8,9] [] [2,3] [] (Eo 0)=HK Eo:=aZ MX 0 λ_=>rfl
def Vt:round 2 [2,4,48,49,50,51,52] [] [2,4] [] (Eo 1)=HL Eo:=aZ MX 1 λ_=>rfl
def Ba:Option PC:=cF [2,3,5] [] Tryz.f67 67 [1,4]
def Et:Nat->PC:=bn Ba
def aut:PC:=.block 2 [2,5,46,47,48] [] (.loop [2,5] [] (b 0))
def auu:PC:=.block 0 [2,3,10,11,12,13,14] [] (.loop [2,3] [] (b 1))
def DA (b:Nat->PC):PT:=
 (.ite (aj r5 r3)
 (.chk (ao (pc o1 5) r5)
 (.chk (.nt (.an (.an (peq (pc (pn (pc o1 5) r5) 0) (pc o4 0)) pT) (.nt (ao (pc o1 5) r5))))
 (.ite (.pick (peq (pc (pn (pc o1 5) r5) 0) (pc o4 0)) (peq (pc (pn (pc o1 5) r5) 1) (pc o4 1)) pF)
 (.ret (pi 5))
 (.next ⟨[(5,nz)],[]⟩))))
 (.exit 2 ⟨[(46,r5),(47,r3),(48,(aj r5 r3))],[]⟩))
def HV:PT:=
 (.ite (aj r3 Dp)
 (.blockS ⟨[(14,(aj r3 Dp)),(13,Dp),(12,(pc o1 5)),(11,pN),(10,r3)],[]⟩ 1 [2,4,5,17,18,19,20,21,22,23,24,25,26,27,28,29,30,39,40,45,46,47,48] [4]
 (.chk (ao (pc o1 5) r3)
 (.call ⟨[],[(4,(.setc z3 0 (pn (pc o1 5) r3)))]⟩ [] 28 74 [(pc (.setc z3 0 (pn (pc o1 5) r3)) 0),(pi 0),(bp mL (pi 1))]
 (.call ⟨[(30,(.nt nB))],[]⟩ [(30,false)] 37 74 [(pc o4 1),(pi 0),(bp mL (pi 1))]
 (.call ⟨[(40,(.pick p7 pT (.nt p9)))],[]⟩ [(40,false)] 43 74 [(pc o4 2),(pi 1),(pi 20000)]
 (.ite (.pick ma pT (.nt tc))
 (.ret (pi 1))
 (.brk ⟨[(5,(pi 0))],[]⟩
(aut b)
 (.next ⟨[],[]⟩)))))))
 (.next ⟨[(3,u7)],[]⟩))
 (.exit 0 ⟨[(10,r3),(11,pN),(12,(pc o1 5)),(13,Dp),(14,(aj r3 Dp))],[]⟩))
def XM:PT:=
 (.ite (bq (.llen xn) (pi 100))
 (.ret (pi 6))
 (.brk ⟨[(3,(pi 0)),(2,(pi 0))],[(1,(.mk [r0]))]⟩
(auu b)
 (.ret (pi 0))))
def apo:PT×List (Shp×PT):=(XM b,[(.lp 2 [2,5,46,47,48] [] [2,5] [],DA b),(.lp 0 [2,3,10,11,12,13,14] [] [2,3] [],HV b)])
def M1:Ba.map told=some (apo (bx Ba)):=by kernel_rfl
def aAv:tree (ab Ba)=XM Et:=bJ M1
def NY:round 2 [2,5,46,47,48] [] [2,5] [] (Et 0)=DA Et:=aZ M1 0 λ_=>rfl
def VD:round 0 [2,3,10,11,12,13,14] [] [2,3] [] (Et 1)=HV Et:=aZ M1 1 λ_=>rfl
def A9:Option PC:=cF [2,3,5] [] Tryz.f68 68 [1,4,6]
def Es:Nat->PC:=bn A9
def aur:PC:=.block 0 [2,3,11,12,13,14,15] [] (.loop [2,3] [] (b 0))
def aus:PC:=.block 2 [2,5,68,69,70,71,72] [] (.loop [2,5] [] (b 1))
def HT (b:Nat->PC):PT:=
 (.ite (aj r3 (.llen (pc o1 6)))
 (.blockS ⟨[],[]⟩ 1 [2,4,18,19,20,21,22,23,24,25,26,27,28,29,30,31,40,41,47,48,49,50,51,52,57,58,63] [4]
 (.chk (ao (pc o1 6) r3)
 (.call ⟨[],[(4,(.setc z5 0 (pn (pc o1 6) r3)))]⟩ [] 29 74 [(pc (.setc z5 0 (pn (pc o1 6) r3)) 0),(pi 0),(bp xo (pi 1))]
 (.call ⟨[(31,(.nt p6))],[]⟩ [(31,false)] 38 74 [(pc o4 1),(pi 0),(bp xo (pi 1))]
 (.ite (.pick (.pick mO pT (.nt ju)) pT (peq (pc o4 0) (pc o4 1)))
 (.ret (pi 1))
 (.call ⟨[],[]⟩ [] 50 74 [(pc o4 2),(pi 1),(pi 1073741824)]
 (.call ⟨[(52,(.nt nD))],[]⟩ [(52,false)] 55 74 [(pc o4 3),(pi 1),(pi 1073741824)]
 (.call ⟨[(58,(.pick tg pT (.nt va)))],[]⟩ [(58,false)] 61 74 [(pc o4 4),(pi 0),(pi 100000)]
 (.ite (.pick xq pT (.nt Dv))
 (.ret (pi 1))
 (.next ⟨[],[]⟩)))))))))
 (.next ⟨[(3,u7)],[]⟩))
 (.exit 0 ⟨[(11,r3),(12,pN),(13,(pc o1 6)),(14,(.llen (pc o1 6))),(15,(aj r3 (.llen (pc o1 6))))],[]⟩))
def HU (b:Nat->PC):PT:=
 (.ite (aj r5 zS)
 (.blockS ⟨[],[]⟩ 3 [2,6,75,76,77,78,79,80,81,82,83,84,85,86,87,88,95,96,100] [6]
 (.chk (ao (pc o1 7) r5)
 (.call ⟨[],[(6,(.setc z3 0 (pn (pc o1 7) r5)))]⟩ [] 86 74 [(pc (.setc z3 0 (pn (pc o1 7) r5)) 0),(pi 0),(bp pY (pi 1))]
 (.call ⟨[(88,(.nt HA))],[]⟩ [(88,false)] 93 74 [(pc o6 1),(pi 0),(pc o6 2)]
 (.ite (.pick (.pick NN pT (.nt HB)) pT (bq (pc o6 2) (pi 100000)))
 (.ret (pi 1))
 (.next ⟨[],[]⟩)))))
 (.next ⟨[(5,nz)],[]⟩))
 (.exit 2 ⟨[(68,r5),(69,pN),(70,(pc o1 7)),(71,zS),(72,(aj r5 zS))],[]⟩))
def XL:PT:=
 (.ite (bq (.llen (pc (.mk [r0]) 6)) (pi 100))
 (.ret (pi 6))
 (.brk ⟨[(3,(pi 0)),(2,(pi 0))],[(1,(.mk [r0]))]⟩
(aur b)
 (.ite (bq zS (pi 20))
 (.ret (pi 6))
 (.brk ⟨[(5,(pi 0))],[]⟩
(aus b)
 (.ret (pi 0))))))
def apn:PT×List (Shp×PT):=(XL b,[(.lp 0 [2,3,11,12,13,14,15] [] [2,3] [],HT b),(.lp 2 [2,5,68,69,70,71,72] [] [2,5] [],HU b)])
def M0:A9.map told=some (apn (bx A9)):=by kernel_rfl
def aAu:tree (ab A9)=XL Es:=bJ M0
def VB:round 0 [2,3,11,12,13,14,15] [] [2,3] [] (Es 0)=HT Es:=aZ M0 0 λ_=>rfl
def VC:round 2 [2,5,68,69,70,71,72] [] [2,5] [] (Es 1)=HU Es:=aZ M0 1 λ_=>rfl
def KF:Option PC:=cF [10,11,12] [] Tryz.f9 9 [4,7,8,9,16393]
def Yi:PT:=
 (.call ⟨[],[(16393,pL),(9,(.setc kf 0 (.mk [cN,(pi (-1)),pL,(pi 1)]))),(8,kf),(7,(.mk [r3])),(4,(.mk [r0]))]⟩ [] 17 19 [iU,r1,Hc]
 (.call ⟨[(21,(peq (.llen iy) (pi 0))),(10,iy)],[]⟩ [(21,false)] 23 35 [r2]
 (.ite (.pick jt pT (.nt kh))
 (.ret (aq 5 (.setc o8 0 (.mk [(pc o9 0),(pc o9 1),(pc o9 2),(.o 16393),(pc o9 4)]))))
 (.call ⟨[],[]⟩ [] 32 36 [(aq 8 o4),r1,r2,bZ]
 (.ite (.pick (aR (.tget mP 1) (pi 0)) pT (peq (.llen (.tget mP 0)) (pi 0)))
 (.ret (aq 5 (.setc o8 0 (aq 5 (.setc (.setc o9 3 (.tget mP 0)) 4 (.tget mP 1))))))
 (.chk (ao (.tget mP 0) (bp (.llen (.tget mP 0)) (pi 1)))
 (.chk (ao (pc o4 4) (pc US 2))
 (.call ⟨[(61,r2),(60,(pn (pc o4 4) (pc US 2)))],[(9,US)]⟩ [] 64 38 [(aq 8 o4),(aq 24 o7)]
 (.call ⟨[],[]⟩ [] 65 37 [xr,Dv,Ae]
 (.ret (aq 5 (.setc o8 0 (aq 5 (.setc (.setc o9 0 (.tget Hv 0)) 4 (.tget Hv 1)))))))))))))))
def age:KF.map told=some (Yi,[]):=by kernel_rfl
def aBd:tree (ab KF)=Yi:=aO age
def Br:Option PC:=cF [6,9] [] Tryz.f19 19 [3,5,7,8]
def Qi:Nat->PC:=bn Br
def aeq:PC:=.block 0 [6,9,81,82,83,84] [] (.loop [6,9] [] (b 0))
def Ia (b:Nat->PC):PT:=
 (.ite (aj r9 (.llen o8))
 (.chk (ao o8 r9)
 (.ite (aj (pn o8 r9) (pi 0))
 (.ret pL)
 (.next ⟨[(9,(aL r9 (pi 1)))],[]⟩)))
 (.exit 0 ⟨[(81,r9),(82,r8),(83,(.llen o8)),(84,(aj r9 (.llen o8)))],[]⟩))
def Yo:PT:=
 (.call ⟨[(6,pL)],[(5,(.mk [r2])),(3,(.mk [r0]))]⟩ [] 12 38 [iU,(aq 24 (.mk [r2]))]
 (.ite (.pick (.pick (peq (.llen bS) (pi 0)) pT (aj r1 (pi 0))) pT (bY r1 Dl))
 (.ret pL)
 (.chk (ao (pc o5 15) (pc o5 19))
 (.ite (.pick (aj (pc Nz 2) (pi 0)) pT (bY (pc Nz 2) (.llen (pc o3 3))))
 (.ret pL)
 (.chk UL
 (.chk (peq (pi 5) (pi 5))
 (.chk (ao Di (pi 0))
 (.call ⟨[(8,pN)],[(8,(.setn Di (pi 0) 0 r1)),(7,Nz)]⟩ [] 52 41 [(aq 8 o3),(pc Nz 7)]
 (.chk (ao o8 (pi 1))
 (.call ⟨[],[(8,(.setn o8 (pi 1) 0 tg))]⟩ [] 60 41 [(aq 8 o3),(pc o5 10)]
 (.chk (ao o8 (pi 2))
 (.call ⟨[],[(8,(.setn o8 (pi 2) 0 xr))]⟩ [] 68 41 [(aq 8 o3),(pc o5 9)]
 (.chk (ao o8 (pi 3))
 (.chk (ao (pc o3 3) (pc o7 2))
 (.call ⟨[],[(8,(.setn o8 (pi 3) 0 NM))]⟩ [] 79 41 [(aq 8 o3),(pc (pn (pc o3 3) (pc o7 2)) 1)]
 (.chk (ao o8 (pi 4))
 (.brk ⟨[(9,(pi 0))],[(8,(.setn o8 (pi 4) 0 Dw))]⟩
(aeq b)
 (.ret o8))))))))))))))))))
def apH:PT×List (Shp×PT):=(Yo b,[(.lp 0 [6,9,81,82,83,84] [] [6,9] [],Ia b)])
def Ua:Br.map told=some (apH (bx Br)):=by kernel_rfl
def aBl:tree (ab Br)=Yo Qi:=bJ Ua
def VR:round 0 [6,9,81,82,83,84] [] [6,9] [] (Qi 0)=Ia Qi:=aZ Ua 0 λ_=>rfl
def KH:Option PC:=cF [4] [] Tryz.f38 38 [2,3]
def Yk:PT:=
 (.call ⟨[],[(3,(.mk [r1])),(2,(.mk [r0]))]⟩ [] 9 46 [(aq 19 (.mk [r1])),(pc (.mk [r1]) 23)]
 (.call ⟨[],[]⟩ [] 13 80 [(aq 8 o2),(aq 24 (.setc o3 0 r9))]
 (.ret dP)))
def agh:KH.map told=some (Yk,[]):=by kernel_rfl
def aBf:tree (ab KH)=Yk:=aO agh
def Bc:Option PC:=cF [5,6,8,9] [] Tryz.f46 46 [2,4,46,52,7,69639,77831,81,115]
def tV:Nat->PC:=bn Bc
def auy:PC:=.block 0 [5,10,11,12,13,14,15,24] [] (.loop [5] [] (b 0))
def auz:PC:=.block 2 [6,27,28,29,30,31,32,41] [] (.loop [6] [] (b 1))
def auA:PC:=.block 4 [8,59,60,61,62,63] [7,69639] (.loop [8] [7,69639] (b 2))
def auB:PC:=.block 6 [9,84,85,86,87,88] [7,77831] (.loop [9] [7,77831] (b 3))
def HW (b:Nat->PC):PT:=
 (.chk (.nt (.an (.an Hi pT) (.nt (ao (pc o2 15) r5))))
 (.ite (.pick Hi (bB (pc (pn (pc o2 15) r5) 6) r1) pF)
 (.next ⟨[(5,nz)],[]⟩)
 (.exit 0 ⟨[(10,r5),(11,pN),(12,(pc o2 15)),(13,(.llen (pc o2 15))),(14,Hi),(15,Hi),(24,(.pick Hi (bB (pc (pn (pc o2 15) r5) 6) r1) pF))],[]⟩)))
def HX (b:Nat->PC):PT:=
 (.chk (.nt (.an (.an Hh pT) (.nt (ao (pc o2 17) r6))))
 (.ite (.pick Hh (bB (pc (pn (pc o2 17) r6) 6) r1) pF)
 (.next ⟨[(6,zU)],[]⟩)
 (.exit 2 ⟨[(27,r6),(28,pN),(29,(pc o2 17)),(30,(.llen (pc o2 17))),(31,Hh),(32,Hh),(41,(.pick Hh (bB (pc (pn (pc o2 17) r6) 6) r1) pF))],[]⟩)))
def HY (b:Nat->PC):PT:=
 (.ite (aj r8 (.llen (pc o2 16)))
 (.chk (ao (pc o2 16) r8)
 (.ite (bB (pc (pn (pc o2 16) r8) 0) r5)
 (.chk (bB (.llen (.app (.o 69639) (.lst [(pn (pc o2 16) r8)]))) cM)
 (.next ⟨[(8,sX)],[(7,(.setc o7 16 pN)),(69639,(.app (.o 69639) (.lst [(pn (pc o2 16) r8)])))]⟩))
 (.next ⟨[(8,sX)],[]⟩)))
 (.exit 4 ⟨[(59,r8),(60,pN),(61,(pc o2 16)),(62,(.llen (pc o2 16))),(63,(aj r8 (.llen (pc o2 16))))],[]⟩))
def DC (b:Nat->PC):PT:=
 (.ite (aj r9 (.llen (pc o2 18)))
 (.chk (ao (pc o2 18) r9)
 (.chk (.nt (.an (.an (bY (pc (pn (pc o2 18) r9) 1) (pi 0)) pT) (.nt (ao (pc o2 18) r9))))
 (.ite (.pick (bY (pc (pn (pc o2 18) r9) 1) (pi 0)) (aj (pc (pn (pc o2 18) r9) 1) r5) pF)
 (.chk (bB (.llen (.app (.o 77831) (.lst [(pn (pc o2 18) r9)]))) cM)
 (.next ⟨[(9,(aL r9 (pi 1)))],[(7,(.setc o7 18 pN)),(77831,(.app (.o 77831) (.lst [(pn (pc o2 18) r9)])))]⟩))
 (.next ⟨[(9,(aL r9 (pi 1)))],[]⟩))))
 (.exit 6 ⟨[(84,r9),(85,pN),(86,(pc o2 18)),(87,(.llen (pc o2 18))),(88,(aj r9 (.llen (pc o2 18))))],[]⟩))
def XR:PT:=
 (.brk ⟨[(5,(pi 0))],[(4,zZ),(2,(.mk [r0]))]⟩
(auy b)
 (.brk ⟨[(6,(pi 0))],[]⟩
(auz b)
 (.chk (.slok (pc o2 15) (pi 0) r5)
 (.chk (bB (.llen (.app (.lst []) (.slc (pc o2 15) (pi 0) r5))) cM)
 (.chk (.slok (pc o2 17) (pi 0) r6)
 (.chk (bB (.llen (.app (.lst []) (.slc (pc o2 17) (pi 0) r6))) cM)
 (.brk ⟨[(8,(pi 0))],[(77831,pL),(69639,pL),(7,(.setc zZ 0 (.mk [(aq 15 o2),(.app (.lst []) (.slc (pc o2 15) (pi 0) r5)),pL,(.app (.lst []) (.slc (pc o2 17) (pi 0) r6)),pL])))]⟩
(auA b)
 (.brk ⟨[(9,(pi 0))],[]⟩
(auB b)
 (.ret (aq 19 (.setc o4 0 (.mk [(pc o7 0),(pc o7 1),(pc o7 2),(pc o7 3),(pc o7 4),(pc o7 5),(pc o7 6),(pc o7 7),(pc o7 8),(pc o7 9),(pc o7 10),(pc o7 11),(pc o7 12),(pc o7 13),(pc o7 14),(pc o7 15),(.o 69639),(pc o7 17),(.o 77831)]))))))))))))
def apr:PT×List (Shp×PT):=(XR b,[(.lp 0 [5,10,11,12,13,14,15,24] [] [5] [],HW b),(.lp 2 [6,27,28,29,30,31,32,41] [] [6] [],HX b),(.lp 4 [8,59,60,61,62,63] [7,69639] [8] [7,69639],HY b),(.lp 6 [9,84,85,86,87,88] [7,77831] [9] [7,77831],DC b)])
def CU:Bc.map told=some (apr (bx Bc)):=by kernel_rfl
def aAB:tree (ab Bc)=XR tV:=bJ CU
def VE:round 0 [5,10,11,12,13,14,15,24] [] [5] [] (tV 0)=HW tV:=aZ CU 0 λ_=>rfl
def VF:round 2 [6,27,28,29,30,31,32,41] [] [6] [] (tV 1)=HX tV:=aZ CU 1 λ_=>rfl
def VG:round 4 [8,59,60,61,62,63] [7,69639] [8] [7,69639] (tV 2)=HY tV:=aZ CU 2 λ_=>rfl
def N1:round 6 [9,84,85,86,87,88] [7,77831] [9] [7,77831] (tV 3)=DC tV:=aZ CU 3 λ_=>rfl
def Bf:Option PC:=cF [4,8,9,10,11] [] Tryz.f80 80 [2,3,5,6,7]
def P5:Nat->PC:=bn Bf
def aep:PC:=.block 0 [9,10,157,158,159,160,161] [] (.loop [9,10] [] (b 0))
def N3 (b:Nat->PC):PT:=
 (.ite (aj bZ (.llen (pc o5 16)))
 (.chk (.nt (.an (.an (.nt r9) pT) (.nt (ao (pc o5 16) bZ))))
 (.next ⟨[(9,(.pick r9 pT (bB (pc (pn (pc o5 16) bZ) 0) (pc o3 19)))),(10,(aL bZ (pi 1)))],[]⟩))
 (.exit 0 ⟨[(157,bZ),(158,pN),(159,(pc o5 16)),(160,(.llen (pc o5 16))),(161,(aj bZ (.llen (pc o5 16))))],[]⟩))
def XU:PT:=
 (.ite (.pick (.pick (.pick (.pick (.pick (aj (pc (.mk [r1]) 19) (pi 0)) pT (bY (pc (.mk [r1]) 19) (.llen (pc xm 15)))) pT (aj (pc (.mk [r1]) 20) (pi (-1)))) pT (bY (pc (.mk [r1]) 20) (.llen (pc xm 15)))) pT (aj (pc (.mk [r1]) 22) (pi (-1)))) pT (bq (pc (.mk [r1]) 22) (pi 100000)))
 (.ret pL)
 (.chk (ao (pc xm 15) (pc (.mk [r1]) 19))
 (.ite (.pick (aj (pc UZ 6) (pi 0)) pT (bq (pc UZ 6) (pi 100000)))
 (.ret pL)
 (.chk (.an (bY (pi 20) (pi 0)) (bB (pi 20) cM))
 (.chk (peq (pi 20) (pi 20))
 (.call ⟨[],[(7,(.rep (pi 20) cN)),(6,UZ),(5,xm),(3,(.mk [r1])),(2,(.mk [r0]))]⟩ [] 67 121 [(pc xm 3)]
 (.chk (ao o7 (pi 0))
 (.call ⟨[],[(7,(.setn o7 (pi 0) 0 qe))]⟩ [] 73 121 [(pc o5 14)]
 (.chk (ao o7 (pi 1))
 (.call ⟨[],[(7,(.setn o7 (pi 1) 0 xt))]⟩ [] 80 121 [(pc o5 5)]
 (.chk (ao o7 (pi 2))
 (.call ⟨[],[(7,(.setn o7 (pi 2) 0 th))]⟩ [] 86 121 [(pc o5 12)]
 (.chk (ao o7 (pi 3))
 (.call ⟨[],[(7,(.setn o7 (pi 3) 0 HA))]⟩ [] 91 121 [(pc o6 0)]
 (.chk (ao o7 (pi 4))
 (.call ⟨[],[(7,(.setn o7 (pi 4) 0 Dx))]⟩ [] 96 121 [(pc o3 21)]
 (.chk (ao o7 (pi 5))
 (.call ⟨[(8,(.pick Hj (bp (pc o6 6) (pc o3 22)) (pi 0)))],[(7,(.setn o7 (pi 5) 0 NO))]⟩ [] 108 121 [(.pick Hj (bp (pc o6 6) (pc o3 22)) (pi 0))]
 (.chk (ao o7 (pi 6))
 (.call ⟨[],[(7,(.setn o7 (pi 6) 0 Hp))]⟩ [] 113 122 [(bq r8 (pi 0))]
 (.chk (ao o7 (pi 14))
 (.call ⟨[],[(7,(.setn o7 (pi 14) 0 ahT))]⟩ [] 119 123 [(pc o5 13),(pi 1)]
 (.call ⟨[],[]⟩ [] 120 122 [ahU]
 (.chk (ao o7 (pi 7))
 (.call ⟨[],[(7,(.setn o7 (pi 7) 0 ahW))]⟩ [] 126 123 [(pc o5 13),(pi 2)]
 (.call ⟨[],[]⟩ [] 127 122 [ahX]
 (.chk (ao o7 (pi 10))
 (.call ⟨[],[(7,(.setn o7 (pi 10) 0 ahY))]⟩ [] 133 123 [(pc o5 13),(pi 4)]
 (.call ⟨[],[]⟩ [] 134 122 [(.r 133)]
 (.chk (ao o7 (pi 9))
 (.call ⟨[],[(7,(.setn o7 (pi 9) 0 (.r 134)))]⟩ [] 141 122 [(peq (pc o5 2) (pi (-1)))]
 (.chk (ao o7 (pi 8))
 (.call ⟨[],[(7,(.setn o7 (pi 8) 0 (.r 141)))]⟩ [] 148 41 [(aq 8 o2),(pc o5 9)]
 (.call ⟨[],[]⟩ [] 153 41 [(aq 8 o2),(pc o5 10)]
 (.call ⟨[],[]⟩ [] 155 122 [(aR (.r 148) (.r 153))]
 (.chk (ao o7 (pi 11))
 (.brk ⟨[(10,(pi 0)),(9,pF)],[(7,(.setn o7 (pi 11) 0 (.r 155)))]⟩
(aep b)
 (.call ⟨[],[]⟩ [] 178 122 [r9]
 (.chk (ao o7 (pi 12))
 (.call ⟨[],[(7,(.setn o7 (pi 12) 0 (.r 178)))]⟩ [] 183 123 [(pc o6 8),(pi 1)]
 (.call ⟨[],[]⟩ [] 184 122 [(.r 183)]
 (.chk (ao o7 (pi 13))
 (.call ⟨[(11,(.mx (pc o3 20) (pi 0)))],[(7,(.setn o7 (pi 13) 0 (.r 184)))]⟩ [] 193 106 [(aq 19 o5),(pi 0),(pc o3 19)]
 (.chk (ao o7 (pi 15))
 (.call ⟨[],[(7,(.setn o7 (pi 15) 0 (.r 193)))]⟩ [] 199 106 [(aq 19 o5),(pi 1),(pc o3 19)]
 (.chk (ao o7 (pi 16))
 (.call ⟨[],[(7,(.setn o7 (pi 16) 0 (.r 199)))]⟩ [] 205 106 [(aq 19 o5),(pi 2),(pc o3 19)]
 (.chk (ao o7 (pi 17))
 (.call ⟨[],[(7,(.setn o7 (pi 17) 0 (.r 205)))]⟩ [] 210 106 [(aq 19 o5),(pi 3),bV]
 (.chk (ao o7 (pi 18))
 (.call ⟨[],[(7,(.setn o7 (pi 18) 0 (.r 210)))]⟩ [] 215 106 [(aq 19 o5),(pi 4),bV]
 (.chk (ao o7 (pi 19))
 (.ret (.setn o7 (pi 19) 0 (.r 215)))))))))))))))))))))))))))))))))))))))))))))))))))))))
def apu:PT×List (Shp×PT):=(XU b,[(.lp 0 [9,10,157,158,159,160,161] [] [9,10] [],N3 b)])
def TV:Bf.map told=some (apu (bx Bf)):=by kernel_rfl
def aAG:tree (ab Bf)=XU P5:=bJ TV
def aio:round 0 [9,10,157,158,159,160,161] [] [9,10] [] (P5 0)=N3 P5:=aZ TV 0 λ_=>rfl
def Ki:Option PC:=cF [] [] Tryz.f121 121 [2]
def XW:PT:=
 (.ret (.mk [(pc (.setc cN 0 (.mk [pT,r0])) 0),(pc (.setc cN 0 (.mk [pT,r0])) 1)]))
def afT:Ki.map told=some (XW,[]):=by kernel_rfl
def aAI:tree (ab Ki)=XW:=aO afT
def Kj:Option PC:=cF [] [] Tryz.f122 122 [2]
def OU:PT:=
 (.iteS ⟨[],[(2,cN)]⟩ r0 [] [2]
 (.call ⟨[],[]⟩ [] 4 121 [(pi 1)]
 (.ret (.mk [(pc (.setc o2 0 r4) 0),(pc (.setc o2 0 r4) 1)])))
 (.next ⟨[],[]⟩)
 (.call ⟨[],[]⟩ [] 5 121 [(pi 0)]
 (.ret (.mk [(pc (.setc o2 0 r5) 0),(pc (.setc o2 0 r5) 1)]))))
def afU:Kj.map told=some (OU,[]):=by kernel_rfl
def aAJ:tree (ab Kj)=OU:=aO afU
def Kh:Option PC:=cF [4] [] Tryz.f123 123 []
def XV:PT:=
 (.ret (peq (.ai .and .i64 r0 r1) r1))
def afS:Kh.map told=some (XV,[]):=by kernel_rfl
def aAH:tree (ab Kh)=XV:=aO afS
def J9:Option PC:=cF [4] [] Tryz.f41 41 [2]
def XB:PT:=
 (.call ⟨[],[(2,(.mk [r0]))]⟩ [] 10 74 [r1,(pi 0),(bp (.llen ke) (pi 1))]
 (.ite bZ
 (.chk (ao (pc o2 1) r1)
 (.ret (pc (pn (pc o2 1) r1) 1)))
 (.ret (pi (-1)))))
def afK:J9.map told=some (XB,[]):=by kernel_rfl
def aAk:tree (ab J9)=XB:=aO afK
def Bd:Option PC:=cF [7] [] Tryz.f106 106 [3,6]
def P4:Nat->PC:=bn Bd
def auC:PC:=.block 0 [7,8,9,10,11,12] [6] (.loop [7] [6] (b 0))
def DD (b:Nat->PC):PT:=
 (.ite (aj r7 (.llen (pc o3 18)))
 (.chk (ao (pc o3 18) r7)
 (.chk (.nt (.an (.an (peq (pc (pn (pc o3 18) r7) 0) r1) pT) (.nt (ao (pc o3 18) r7))))
 (.ite (.pick (peq (pc (pn (pc o3 18) r7) 0) r1) (peq (pc (pn (pc o3 18) r7) 1) r2) pF)
 (.ite (peq (pc (pn (pc o3 18) r7) 2) (pi 0))
 (.ret (.mk [(pc (.setc o6 0 (.mk [pT,(pi 0)])) 0),(pc (.setc o6 0 (.mk [pT,(pi 0)])) 1)]))
 (.ret (.mk [(pc (.setc o6 0 (.mk [pT,(pi 1)])) 0),(pc (.setc o6 0 (.mk [pT,(pi 1)])) 1)])))
 (.next ⟨[(7,zT)],[]⟩))))
 (.exit 0 ⟨[(8,r7),(9,pN),(10,(pc o3 18)),(11,(.llen (pc o3 18))),(12,(aj r7 (.llen (pc o3 18))))],[]⟩))
def XS:PT:=
 (.brk ⟨[(7,(pi 0))],[(6,cN),(3,(.mk [r0]))]⟩
(auC b)
 (.ret Nu))
def aps:PT×List (Shp×PT):=(XS b,[(.lp 0 [7,8,9,10,11,12] [6] [7] [6],DD b)])
def TU:Bd.map told=some (aps (bx Bd)):=by kernel_rfl
def aAC:tree (ab Bd)=XS P4:=bJ TU
def N2:round 0 [7,8,9,10,11,12] [6] [7] [6] (P4 0)=DD P4:=aZ TU 0 λ_=>rfl
def KB:Option PC:=cF [2] [] Tryz.f35 35 []
def Ya:PT:=
 (.ret (.pick (bY r0 (pi 0)) (aj r0 (pi 22)) pF))
def aga:KB.map told=some (Ya,[]):=by kernel_rfl
def aA5:tree (ab KB)=Ya:=aO aga
def Bo:Option PC:=cF [8,9,12,13,14] [] Tryz.f36 36 [4,10,11,78]
def Qf:Nat->PC:=bn Bo
def auP:PC:=.block 0 [8,9,11,12,47,48,49,50,51] [10,11] (.loop [8,9,11,12] [10,11] (b 0))
def VP (b:Nat->PC):PT:=
 (.ite (bB bS rD)
 (.blockS ⟨[],[]⟩ 1 [8,9,11,13,14,54,55,58,59,61,62,63,64,65,66,67,70,71,73,74,77,78,79,80,81,83,84,85,86,87,94,96,97,98,99,101,102,103] [78,11,10]
 (.chk (ao xh Np)
 (.call ⟨[],[]⟩ [] 64 75 [(aq 8 o4),(pn xh Np),r2,r3]
 (.chk (ao xh Np)
 (.ite (peq uX (pn xh Np))
 (.ret (.tup [xh,(pi 0)]))
 (.chk (bB (.llen Hl) cM)
 (.ite (.nt (.tget Ae 1))
 (.ret (.tup [Hl,(pi 0)]))
 (.chk (ao cq uX)
 (.chk (.nt (.an (.an (pn cq uX) pT) (.nt (ao (pc o4 4) uX))))
 (.ite (.pick (pn cq uX) (pc (pn (pc o4 4) uX) 1) pF)
 (.ret (.tup [Hl,(pi 0)]))
 (.ite (pn cq uX)
 (.ret (.tup [Hl,(pi 12)]))
 (.next ⟨[(11,pN)],[(10,(.setn cq uX 0 pT)),(11,Hl)]⟩)))))))))))
 (.next ⟨[(12,(aL bS (pi 1)))],[]⟩))
 (.exit 0 ⟨[(47,bS),(48,pN),(49,(pc o4 4)),(50,rD),(51,(bB bS rD))],[]⟩))
def Yf:PT:=
 (.call ⟨[(9,(pi 0)),(8,pL)],[(4,(.mk [r0]))]⟩ [] 17 73 [iU,r3]
 (.call ⟨[(19,(.nt iy))],[]⟩ [(19,false)] 25 74 [r1,(pi 0),(bp rD (pi 1))]
 (.call ⟨[(28,(.pick gV pT (.nt fp)))],[]⟩ [(28,false)] 30 74 [r2,(pi 0),(pi 21)]
 (.ite (.pick nB pT (.nt p7))
 (.ret (.tup [pL,(pi 1)]))
 (.chk (ao r3 (pi 0))
 (.ite (aR (pn r3 (pi 0)) r1)
 (.ret (.tup [pL,(pi 1)]))
 (.chk (.an (bY rD (pi 0)) (bB rD cM))
 (.chk (peq rD rD)
 (.chk (ao (.rep rD pF) r1)
 (.brk ⟨[(12,(pi 0)),(11,pN),(10,pN)],[(10,(.setn (.rep rD pF) r1 0 pT)),(11,(.lst [r1]))]⟩
(auP b)
 (.ret (.tup [xh,(pi 12)]))))))))))))
def apE:PT×List (Shp×PT):=(Yf b,[(.lp 0 [8,9,11,12,47,48,49,50,51] [10,11] [8,9,11,12] [10,11],VP b)])
def T7:Bo.map told=some (apE (bx Bo)):=by kernel_rfl
def aBa:tree (ab Bo)=Yf Qf:=bJ T7
def ax2:round 0 [8,9,11,12,47,48,49,50,51] [10,11] [8,9,11,12] [10,11] (Qf 0)=VP Qf:=aZ T7 0 λ_=>rfl
def Bp:Option PC:=cF [4,5] [] Tryz.f73 73 [2]
def Qg:Nat->PC:=bn Bp
def auQ:PC:=.block 0 [4,5,6,7,8,9] [] (.loop [4,5] [] (b 0))
def N5 (b:Nat->PC):PT:=
 (.ite (aj r5 (.llen r1))
 (.blockS ⟨[],[]⟩ 1 [4,12,13,14,15,16,17,18,19,20,21] []
 (.chk (ao r1 r5)
 (.call ⟨[],[]⟩ [] 20 74 [(pn r1 r5),(pi 0),(bp (.llen (pc o2 4)) (pi 1))]
 (.ite (.nt eT)
 (.ret pF)
 (.next ⟨[],[]⟩))))
 (.next ⟨[(5,nz)],[]⟩))
 (.exit 0 ⟨[(6,r5),(7,r1),(8,(.llen r1)),(9,(aj r5 (.llen r1)))],[]⟩))
def Yh:PT:=
 (.brk ⟨[(5,(pi 0)),(4,pF)],[(2,(.mk [r0]))]⟩
(auQ b)
 (.ret (peq (.llen r1) (pi 5))))
def apF:PT×List (Shp×PT):=(Yh b,[(.lp 0 [4,5,6,7,8,9] [] [4,5] [],N5 b)])
def T8:Bp.map told=some (apF (bx Bp)):=by kernel_rfl
def aBc:tree (ab Bp)=Yh Qg:=bJ T8
def aiq:round 0 [4,5,6,7,8,9] [] [4,5] [] (Qg 0)=N5 Qg:=aZ T8 0 λ_=>rfl
def KE:Option PC:=cF [8,9] [] Tryz.f75 75 [4,10]
def Yg:PT:=
 (.call ⟨[],[(4,(.mk [r0]))]⟩ [] 13 73 [iU,r3]
 (.call ⟨[(15,(.nt dP))],[]⟩ [(15,false)] 21 74 [r1,(pi 0),(bp rD (pi 1))]
 (.call ⟨[(24,(.pick fm pT (.nt jt)))],[]⟩ [(24,false)] 26 74 [r2,(pi 0),(pi 21)]
 (.ite (.pick nA pT (.nt mN))
 (.ret (.tup [(pi (-1)),pF]))
 (.chk (ao (pc o4 4) r1)
 (.call ⟨[],[]⟩ [] 35 117 [(pn (pc o4 4) r1),r2]
 (.ite (peq (pc (.setc uW 0 p8) 1) (pi 0))
 (.ret (.tup [r1,pF]))
 (.chk (ao r3 (pc (.setc uW 0 p8) 1))
 (.ret (.tup [(pn r3 (pc (.setc uW 0 p8) 1)),(pc (.setc uW 0 p8) 2)]))))))))))
def agd:KE.map told=some (Yg,[]):=by kernel_rfl
def aBb:tree (ab KE)=Yg:=aO agd
def Bn:Option PC:=cF [5] [] Tryz.f117 117 [2,4]
def Qe:Nat->PC:=bn Bn
def auO:PC:=.block 0 [5,6,7,8,9,10] [4] (.loop [5] [4] (b 0))
def H8 (b:Nat->PC):PT:=
 (.ite (aj r5 Dn)
 (.chk (ao (pc o2 2) r5)
 (.ite (peq (pc (pn (pc o2 2) r5) 0) r1)
 (.ret (.mk [(pc (.setc o4 0 (pn (pc o2 2) r5)) 0),(pc (.setc o4 0 (pn (pc o2 2) r5)) 1),(pc (.setc o4 0 (pn (pc o2 2) r5)) 2)]))
 (.next ⟨[(5,nz)],[]⟩)))
 (.exit 0 ⟨[(6,r5),(7,pN),(8,(pc o2 2)),(9,Dn),(10,(aj r5 Dn))],[]⟩))
def Ye:PT:=
 (.brk ⟨[(5,(pi 0))],[(4,uW),(2,(.mk [r0]))]⟩
(auO b)
 (.ret (.mk [(pc (.setc o4 0 (.mk [r1,(pi 0),pF])) 0),(pc (.setc o4 0 (.mk [r1,(pi 0),pF])) 1),(pc (.setc o4 0 (.mk [r1,(pi 0),pF])) 2)])))
def apD:PT×List (Shp×PT):=(Ye b,[(.lp 0 [5,6,7,8,9,10] [4] [5] [4],H8 b)])
def T6:Bn.map told=some (apD (bx Bn)):=by kernel_rfl
def aA9:tree (ab Bn)=Ye Qe:=bJ T6
def VO:round 0 [5,6,7,8,9,10] [4] [5] [4] (Qe 0)=H8 Qe:=aZ T6 0 λ_=>rfl
def Kz:Option PC:=cF [7,8] [] Tryz.f37 37 [3,6,9]
def X7:PT:=
 (.call ⟨[],[(6,cN),(3,(.mk [r0]))]⟩ [] 12 76 [(aq 4 (.mk [r0])),r1]
 (.ite (aR bS (pi 0))
 (.ret (.tup [Nu,bS]))
 (.call ⟨[(18,(pc o3 3))],[]⟩ [] 21 78 [(aq 4 o3),r1]
 (.chk (ao kg jt)
 (.call ⟨[],[]⟩ [] 26 77 [(.sub (pn kg jt) 1 3),r2]
 (.call ⟨[(29,(pc Ab 0))],[(9,Ab)]⟩ [(29,true)] 31 79 [r1]
 (.ret (.tup [(.mk [(pc (.setc o6 0 (.mk [(pc No 0),(pc No 1)])) 0),(pc (.setc o6 0 (.mk [(pc No 0),(pc No 1)])) 1)]),(pi 0)]))))))))
def af8:Kz.map told=some (X7,[]):=by kernel_rfl
def aA2:tree (ab Kz)=X7:=aO af8
def KD:Option PC:=cF [4,5,6,7,8,9] [] Tryz.f76 76 [2]
def Yd:PT:=
 (.call ⟨[],[(2,(.mk [r0]))]⟩ [] 11 35 [r1]
 (.ite (.nt bV)
 (.ret (pi 1))
 (.call ⟨[],[]⟩ [] 15 78 [(aq 4 o2),r1]
 (.ite (aj fm (pi 0))
 (.ret (pi 4))
 (.chk (ao (pc o2 3) fm)
 (.call ⟨[],[]⟩ [] 25 118 [(.sub (pn (pc o2 3) fm) 1 3)]
 (.call ⟨[(7,(.tget fp 1)),(6,(.tget fp 0))],[]⟩ [] 30 119 [r1]
 (.ite (.pick (aR r7 (pi 0)) pT (aR r6 (.tget p7 0)))
 (.ret (pi 11))
 (.ret (pi 0))))))))))
def agc:KD.map told=some (Yd,[]):=by kernel_rfl
def aA8:tree (ab KD)=Yd:=aO agc
def Bm:Option PC:=cF [4,5] [] Tryz.f78 78 [2]
def Qd:Nat->PC:=bn Bm
def auN:PC:=.block 0 [4,5,6,7,8,9,10] [] (.loop [4,5] [] (b 0))
def H7 (b:Nat->PC):PT:=
 (.ite (aj r5 Dm)
 (.chk (ao (pc o2 3) r5)
 (.ite (peq (pc (pn (pc o2 3) r5) 0) r1)
 (.ret r5)
 (.next ⟨[(5,nz)],[]⟩)))
 (.exit 0 ⟨[(6,r5),(7,pN),(8,(pc o2 3)),(9,Dm),(10,(aj r5 Dm))],[]⟩))
def Yb:PT:=
 (.brk ⟨[(5,(pi 0)),(4,(pi 0))],[(2,(.mk [r0]))]⟩
(auN b)
 (.ret (pi (-1))))
def apC:PT×List (Shp×PT):=(Yb b,[(.lp 0 [4,5,6,7,8,9,10] [] [4,5] [],H7 b)])
def T5:Bm.map told=some (apC (bx Bm)):=by kernel_rfl
def aA6:tree (ab Bm)=Yb Qd:=bJ T5
def VN:round 0 [4,5,6,7,8,9,10] [] [4,5] [] (Qd 0)=H7 Qd:=aZ T5 0 λ_=>rfl
def Kk:Option PC:=cF [2,3] [] Tryz.f118 118 [1]
def XX:PT:=
 (.call ⟨[],[(1,(.mk [r0]))]⟩ [] 5 146 [z7,(pi 60),(pi 8)]
 (.ite (aj r5 (pi 0))
 (.ret (.tup [(pi 0),(pi 6)]))
 (.call ⟨[],[]⟩ [] 8 157 [NA]
 (.ret (.tup [(.tget r8 0),(.tget r8 1)])))))
def afV:Kk.map told=some (XX,[]):=by kernel_rfl
def aAK:tree (ab Kk)=XX:=aO afV
end Rm
