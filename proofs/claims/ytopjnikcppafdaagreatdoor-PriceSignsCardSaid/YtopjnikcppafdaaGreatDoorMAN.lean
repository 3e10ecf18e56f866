/-
  The functions of this seat, compiled (3).
-/
import Derived.Test.YtopjnikcppafdaaGreatDoorMAJ
import Derived.KernelRfl
set_option linter.defProp false
set_option linter.unusedVariables false
set_option maxRecDepth 100000
noncomputable section
namespace Rm
open Go Go.Proofs Cx
def JX:Option PC:=cF [6,7,8,9,10] [] Tryz.f31 31 []
def XR:PT:=
 (.call ⟨[],[]⟩ [] 12 67 [r0,zC]
 (.call ⟨[(14,(.nt cm))],[]⟩ [(14,false)] 16 67 [r1,(pi 1000)]
 (.call ⟨[(19,(.pick cu pT (.nt cj)))],[]⟩ [(19,false)] 21 67 [r2,(pi 20000)]
 (.ite (.pick jk pT (.nt iO))
 (.ret (.tup [(pi 0),(pi 1)]))
 (.call ⟨[],[]⟩ [] 29 68 [r0,(.ai .mul .i64 r1 r2),(pi 360000)]
 (.ite (.pick (.nt (.tget nv 2)) pT (aW ahV r0))
 (.ret (.tup [(pi 0),(pi 3)]))
 (.ret (.tup [ahV,(pi 0)]))))))))
def agl:JX.map told=some (XR,[]):=by kernel_rfl
def ayw:tree (ab JX)=XR:=aT agl
def JZ:Option PC:=cF [4] [] Tryz.f67 67 []
def XT:PT:=
 (.ret (.pick (bk r0 (pi 0)) (bG r0 r1) pF))
def agn:JZ.map told=some (XT,[]):=by kernel_rfl
def ayy:tree (ab JZ)=XT:=aT agn
def JY:Option PC:=cF [6,7,8,9,10,11,12] [] Tryz.f68 68 []
def XS:PT:=
 (.call ⟨[],[]⟩ [] 18 83 [(.conv .u64 r0),(.conv .u64 r1)]
 (.ite (bk (.tget cI 0) (.conv .u64 r2))
 (.ret (.tup [(pi 0),(pi 0),pF]))
 (.call ⟨[],[]⟩ [] 30 110 [(.tget cI 0),(.tget cI 1),(.conv .u64 r2)]
 (.ite (aW (.tget su 0) (.con (.v (.int .u64 1099511627776))))
 (.ret (.tup [(pi 0),(pi 0),pF]))
 (.ret (.tup [(.conv .i64 (.tget su 0)),(.conv .i64 (.tget su 1)),pT]))))))
def agm:JY.map told=some (XS,[]):=by kernel_rfl
def ayx:tree (ab JY)=XS:=aT agm
def AJ:Option PC:=cF [6,7,8,2,9,10,11,12,13,14,15,16,17,18] [] Tryz.f110 110 []
def yb:Nat->PC:=bn AJ
variable(b:Nat->PC)
def GD:PC:=.block 0 [15,16,67,68,69,78] [] (.loop [15,16] [] (b 0))
def GF:PC:=.block 2 [16,18,102,103,104,113] [] (.loop [16,18] [] (b 1))
def Hm (b:Nat->PC):PT:=
 (.ite Vu
 (.ite (bk C7 la)
 (.exit 0 ⟨[(15,(.ai .sub .u64 dB Nt)),(16,C7),(67,dB),(68,(bk dB la)),(69,(bk dB la)),(78,Vu)],[]⟩)
 (.next ⟨[(15,(.ai .sub .u64 dB Nt)),(16,C7)],[]⟩))
 (.exit 0 ⟨[(67,dB),(68,(bk dB la)),(69,(bk dB la)),(78,Vu)],[]⟩))
def Hn (b:Nat->PC):PT:=
 (.ite Vt
 (.ite (bk C7 la)
 (.exit 2 ⟨[(16,C7),(18,(.ai .sub .u64 cI Nt)),(102,cI),(103,(bk cI la)),(104,(bk cI la)),(113,Vt)],[]⟩)
 (.next ⟨[(16,C7),(18,(.ai .sub .u64 cI Nt))],[]⟩))
 (.exit 2 ⟨[(102,cI),(103,(bk cI la)),(104,(bk cI la)),(113,Vt)],[]⟩))
def OR:PT:=
 (.ite (peq r2 (.con (.v (.int .u64 0))))
 (.chk pF
 (.chk (.nt pT)
 (.ite (bG r2 r0)
 (.chk pF
 (.chk (.nt pT)
 (.ite NI
 (.chk (aJ r2 (pi 0))
 (.ret (.tup [(.ai .quo .u64 r1 r2),(.ai .rem .u64 r1 r2)])))
 (.call ⟨[],[]⟩ [] 35 150 [r2]
 (.chk (bk se (pi 0))
 (.chk CZ
 (.chk NC
 (.chk (aJ sq (pi 0))
 (.brk ⟨[(16,NA),(15,Nu),(14,Nq),(13,Np),(11,zL),(10,Ns),(9,sq),(2,G5),(8,se)],[]⟩
(GD b)
 (.chk (aJ r9 (pi 0))
 (.brk ⟨[(16,NB),(18,(.ai .quo .u64 tR r9)),(17,tR)],[]⟩
(GF b)
 (.chk (bk r8 (pi 0))
 (.ret (.tup [NG,Nx]))))))))))))))
 (.ite NI
 (.chk (aJ r2 (pi 0))
 (.ret (.tup [(.ai .quo .u64 r1 r2),(.ai .rem .u64 r1 r2)])))
 (.call ⟨[],[]⟩ [] 35 150 [r2]
 (.chk (bk se (pi 0))
 (.chk CZ
 (.chk NC
 (.chk (aJ sq (pi 0))
 (.brk ⟨[(16,NA),(15,Nu),(14,Nq),(13,Np),(11,zL),(10,Ns),(9,sq),(2,G5),(8,se)],[]⟩
(GD b)
 (.chk (aJ r9 (pi 0))
 (.brk ⟨[(16,NB),(18,(.ai .quo .u64 tR r9)),(17,tR)],[]⟩
(GF b)
 (.chk (bk r8 (pi 0))
 (.ret (.tup [NG,Nx])))))))))))))))
 (.ite (bG r2 r0)
 (.chk pF
 (.chk (.nt pT)
 (.ite NI
 (.chk (aJ r2 (pi 0))
 (.ret (.tup [(.ai .quo .u64 r1 r2),(.ai .rem .u64 r1 r2)])))
 (.call ⟨[],[]⟩ [] 35 150 [r2]
 (.chk (bk se (pi 0))
 (.chk CZ
 (.chk NC
 (.chk (aJ sq (pi 0))
 (.brk ⟨[(16,NA),(15,Nu),(14,Nq),(13,Np),(11,zL),(10,Ns),(9,sq),(2,G5),(8,se)],[]⟩
(GD b)
 (.chk (aJ r9 (pi 0))
 (.brk ⟨[(16,NB),(18,(.ai .quo .u64 tR r9)),(17,tR)],[]⟩
(GF b)
 (.chk (bk r8 (pi 0))
 (.ret (.tup [NG,Nx]))))))))))))))
 (.ite NI
 (.chk (aJ r2 (pi 0))
 (.ret (.tup [(.ai .quo .u64 r1 r2),(.ai .rem .u64 r1 r2)])))
 (.call ⟨[],[]⟩ [] 35 150 [r2]
 (.chk (bk se (pi 0))
 (.chk CZ
 (.chk NC
 (.chk (aJ sq (pi 0))
 (.brk ⟨[(16,NA),(15,Nu),(14,Nq),(13,Np),(11,zL),(10,Ns),(9,sq),(2,G5),(8,se)],[]⟩
(GD b)
 (.chk (aJ r9 (pi 0))
 (.brk ⟨[(16,NB),(18,(.ai .quo .u64 tR r9)),(17,tR)],[]⟩
(GF b)
 (.chk (bk r8 (pi 0))
 (.ret (.tup [NG,Nx]))))))))))))))
def an7:PT×List (Shp×PT):=(OR b,[(.lp 0 [15,16,67,68,69,78] [] [15,16] [],Hm b),(.lp 2 [16,18,102,103,104,113] [] [16,18] [],Hn b)])
def MN:AJ.map told=some (an7 (bt AJ)):=by kernel_rfl
def ax8:tree (ab AJ)=OR yb:=bH MN
def VN:round 0 [15,16,67,68,69,78] [] [15,16] [] (yb 0)=Hm yb:=bm MN 0 λ_=>rfl
def VO:round 2 [16,18,102,103,104,113] [] [16,18] [] (yb 1)=Hn yb:=bm MN 1 λ_=>rfl
def JH:Option PC:=cF [2] [] Tryz.f150 150 []
def Xw:PT:=
 (.call ⟨[],[]⟩ [] 4 121 [r0]
 (.ret (bq (pi 64) r4)))
def af0:JH.map told=some (Xw,[]):=by kernel_rfl
def ax9:tree (ab JH)=Xw:=aT af0
def JI:Option PC:=cF [2,0] [] Tryz.f121 121 []
def Xx:PT:=
 (.ite (bk r0 la)
 (.chk CZ
 (.ite (bk vf (.con (.v (.int .u64 65536))))
 (.chk (bk Ny (pi 0))
 (.ite (bk Ha No)
 (.chk (bk qw (pi 0))
 (.chk (.sok lb (.conv .u8 (.ai .shr .u64 Ha qw)))
 (.ret (aF (aF (aF (pi 32) (pi 16)) (pi 8)) (.conv .i64 (.sidx lb (.conv .u8 (.ai .shr .u64 Ha qw))))))))
 (.chk (.sok lb (.conv .u8 Ha))
 (.ret (aF (aF (pi 32) (pi 16)) (.conv .i64 (.sidx lb (.conv .u8 Ha))))))))
 (.ite (bk vf No)
 (.chk (bk qw (pi 0))
 (.chk (.sok lb (.conv .u8 (.ai .shr .u64 vf qw)))
 (.ret (aF (aF (pi 32) (pi 8)) (.conv .i64 (.sidx lb (.conv .u8 (.ai .shr .u64 vf qw))))))))
 (.chk (.sok lb (.conv .u8 vf))
 (.ret (aF (pi 32) (.conv .i64 (.sidx lb (.conv .u8 vf)))))))))
 (.ite (bk r0 (.con (.v (.int .u64 65536))))
 (.chk (bk Ny (pi 0))
 (.ite (bk GZ No)
 (.chk (bk qw (pi 0))
 (.chk (.sok lb (.conv .u8 (.ai .shr .u64 GZ qw)))
 (.ret (aF (aF (aF (pi 0) (pi 16)) (pi 8)) (.conv .i64 (.sidx lb (.conv .u8 (.ai .shr .u64 GZ qw))))))))
 (.chk (.sok lb (.conv .u8 GZ))
 (.ret (aF (aF (pi 0) (pi 16)) (.conv .i64 (.sidx lb (.conv .u8 GZ))))))))
 (.ite (bk r0 No)
 (.chk (bk qw (pi 0))
 (.chk (.sok lb (.conv .u8 (.ai .shr .u64 r0 qw)))
 (.ret (aF (aF (pi 0) (pi 8)) (.conv .i64 (.sidx lb (.conv .u8 (.ai .shr .u64 r0 qw))))))))
 (.chk (.sok lb (.conv .u8 r0))
 (.ret (aF (pi 0) (.conv .i64 (.sidx lb (.conv .u8 r0)))))))))
def af1:JI.map told=some (Xx,[]):=by kernel_rfl
def aya:tree (ab JI)=Xx:=aT af1
def Kb:Option PC:=cF [10] [] Tryz.f12 12 [5,7,20,22]
def Ya:PT:=
 (.call ⟨[],[(7,(.mk [r2])),(5,(.mk [r0]))]⟩ [] 13 32 [j4,r1]
 (.ite (.nt db)
 (.ret pL)
 (.call ⟨[(15,(aA 8 o5))],[]⟩ [] 20 33 [(aA 8 o5),r1,(aA 19 o7),r3]
 (.call ⟨[],[]⟩ [] 22 37 [dB,eI,r4]
 (.ret qz)))))
def agA:Kb.map told=some (Ya,[]):=by kernel_rfl
def ayR:tree (ab Kb)=Ya:=aT agA
def A8:Option PC:=cF [4,5] [] Tryz.f22 22 []
def Qc:Nat->PC:=bn A8
def atr:PC:=.block 0 [4,5,11,12,13,14] [] (.loop [4,5] [] (b 0))
def N5 (b:Nat->PC):PT:=
 (.ite (aj r5 (.llen r0))
 (.chk (aq r0 r5)
 (.chk (aq r1 r5)
 (.ite (aJ (pn r0 r5) (pn r1 r5))
 (.ret pF)
 (.next ⟨[(5,zG)],[]⟩))))
 (.exit 0 ⟨[(11,r5),(12,r0),(13,(.llen r0)),(14,(aj r5 (.llen r0)))],[]⟩))
def Yy:PT:=
 (.ite (aJ (.llen r0) (.llen r1))
 (.ret pF)
 (.brk ⟨[(5,(pi 0)),(4,pF)],[]⟩
(atr b)
 (.ret pT)))
def aoy:PT×List (Shp×PT):=(Yy b,[(.lp 0 [4,5,11,12,13,14] [] [4,5] [],N5 b)])
def Uq:A8.map told=some (aoy (bt A8)):=by kernel_rfl
def azi:tree (ab A8)=Yy Qc:=bH Uq
def aiG:round 0 [4,5,11,12,13,14] [] [4,5] [] (Qc 0)=N5 Qc:=bm Uq 0 λ_=>rfl
def Ez:Option PC:=cF [6] [] Tryz.f6 6 [3,4,5]
def XN:PT:=
 (.call ⟨[(11,(bG (.llen (pc (.mk [r2]) 1)) (pi 20)))],[(4,(.mk [r1])),(3,(.mk [r0]))]⟩ [(11,true)] 14 23 [j4,G1]
 (.call ⟨[(16,(.pick bQ cu pF))],[]⟩ [(16,true)] 18 24 [(aA 8 o3)]
 (.call ⟨[(21,(.pick cj (peq cI (pi 0)) pF))],[]⟩ [(21,true)] 24 25 [(aA 8 o3),(aA 19 o4)]
 (.ret (.pick iO (peq nu (pi 0)) pF)))))
def agi:Ez.map told=some (XN,[]):=by kernel_rfl
def ays:tree (ab Ez)=XN:=aT agi
def Ba:Option PC:=cF [4,5] [] Tryz.f23 23 [2,3]
def Qf:Nat->PC:=bn Ba
def atu:PC:=.block 0 [4,5,14,15,16,17,18] [] (.loop [4,5] [] (b 0))
def HP (b:Nat->PC):PT:=
 (.ite (aj r5 (.llen (pc o2 4)))
 (.blockS ⟨[],[]⟩ 1 [4,21,22,23,24,25,26,27] []
 (.chk (aq (pc o2 4) r5)
 (.call ⟨[],[]⟩ [] 26 51 [(pn (pc o2 4) r5)]
 (.ite (.nt lU)
 (.ret pF)
 (.next ⟨[],[]⟩))))
 (.next ⟨[(5,zG)],[]⟩))
 (.exit 0 ⟨[(14,r5),(15,pN),(16,(pc o2 4)),(17,(.llen (pc o2 4))),(18,(aj r5 (.llen (pc o2 4))))],[]⟩))
def YA:PT:=
 (.call ⟨[(4,pF)],[(3,(.mk [r1])),(2,(.mk [r0]))]⟩ [] 7 49 [j4]
 (.call ⟨[(9,(.nt r7))],[]⟩ [(9,false)] 11 50 [(aA 19 o3)]
 (.ite (.pick r9 pT (.nt bQ))
 (.ret pF)
 (.brk ⟨[(5,(pi 0))],[]⟩
(atu b)
 (.ret pT)))))
def aoB:PT×List (Shp×PT):=(YA b,[(.lp 0 [4,5,14,15,16,17,18] [] [4,5] [],HP b)])
def Ut:Ba.map told=some (aoB (bt Ba)):=by kernel_rfl
def azk:tree (ab Ba)=YA Qf:=bH Ut
def Wc:round 0 [4,5,14,15,16,17,18] [] [4,5] [] (Qf 0)=HP Qf:=bm Ut 0 λ_=>rfl
def AY:Option PC:=cF [2,3,4] [] Tryz.f49 49 [1]
def Ea:Nat->PC:=bn AY
def atb:PC:=.block 0 [2,3,5,6,7,8,9,10,13] [] (.loop [2,3] [] (b 0))
def atc:PC:=.block 2 [2,4,44,45,46,47,48,49,52] [] (.loop [2,4] [] (b 1))
def zQ (b:Nat->PC):PT:=
 (.ite (.pick (aj r3 mA) (aj r3 (pi 50)) pF)
 (.chk (aq (pc o1 1) r3)
 (.chk (.nt (.an (.an (.nt (aW (.llen (pc (pn (pc o1 1) r3) 4)) (pi 70))) pT) (.nt (aq (pc o1 1) r3))))
 (.chk (.nt (.an (.an (.nt aic) pT) (.nt (aq (pc o1 1) r3))))
 (.ite (.pick aic pT (aW (.llen (pc (pn (pc o1 1) r3) 3)) (pi 8)))
 (.ret pF)
 (.next ⟨[(3,wS)],[]⟩)))))
 (.exit 0 ⟨[(5,r3),(6,pN),(7,(pc o1 1)),(8,mA),(9,(aj r3 mA)),(10,(aj r3 mA)),(13,(.pick (aj r3 mA) (aj r3 (pi 50)) pF))],[]⟩))
def Df (b:Nat->PC):PT:=
 (.ite (.pick (aj r4 qx) (aj r4 (pi 50)) pF)
 (.chk (aq (pc o1 4) r4)
 (.chk (.nt (.an (.an (.nt (aW (.llen (pc zD 2)) (pi 40))) pT) (.nt (aq (pc o1 4) r4))))
 (.ite (.pick (aW (.llen (pc zD 2)) (pi 40)) pT (aW (.llen (pc zD 3)) (pi 40)))
 (.ret pF)
 (.next ⟨[(4,(aF r4 (pi 1)))],[]⟩))))
 (.exit 2 ⟨[(44,r4),(45,pN),(46,(pc o1 4)),(47,qx),(48,(aj r4 qx)),(49,(aj r4 qx)),(52,(.pick (aj r4 qx) (aj r4 (pi 50)) pF))],[]⟩))
def Yj:PT:=
 (.brk ⟨[(3,(pi 0)),(2,pF)],[(1,(.mk [r0]))]⟩
(atb b)
 (.brk ⟨[(4,(pi 0))],[]⟩
(atc b)
 (.ret (.pick (.pick (.pick (.pick (.pick (.pick (.pick (aj wX (pi 50)) (aj mA (pi 50)) pF) (aj tQ (pi 50)) pF) (aj oY (pi 210)) pF) (aj qx (pi 50)) pF) (aj C1 (pi 110)) pF) (aj (.llen (pc o1 6)) (pi 110)) pF) (aj zF (pi 50)) pF))))
def aoo:PT×List (Shp×PT):=(Yj b,[(.lp 0 [2,3,5,6,7,8,9,10,13] [] [2,3] [],zQ b),(.lp 2 [2,4,44,45,46,47,48,49,52] [] [2,4] [],Df b)])
def MQ:AY.map told=some (aoo (bt AY)):=by kernel_rfl
def ay3:tree (ab AY)=Yj Ea:=bH MQ
def Hu:round 0 [2,3,5,6,7,8,9,10,13] [] [2,3] [] (Ea 0)=zQ Ea:=bm MQ 0 λ_=>rfl
def N3:round 2 [2,4,44,45,46,47,48,49,52] [] [2,4] [] (Ea 1)=Df Ea:=bm MQ 1 λ_=>rfl
def Kj:Option PC:=cF [2] [] Tryz.f50 50 [1]
def Yw:PT:=
 (.ret (.pick (.pick (.pick (bG (.llen sf) (pi 50)) (bG (.llen (pc (.mk [r0]) 16)) (pi 10)) pF) (bG (.llen (pc (.mk [r0]) 17)) (pi 110)) pF) (bG (.llen (pc (.mk [r0]) 18)) (pi 220)) pF))
def agK:Kj.map told=some (Yw,[]):=by kernel_rfl
def azg:tree (ab Kj)=Yw:=aT agK
def A9:Option PC:=cF [2,3] [] Tryz.f51 51 [1]
def Qe:Nat->PC:=bn A9
def att:PC:=.block 0 [2,3,14,15,16,17,18] [] (.loop [2,3] [] (b 0))
def HO (b:Nat->PC):PT:=
 (.ite (aj r3 oY)
 (.blockS ⟨[],[]⟩ 1 [2,21,22,23,24,25,26,27,28] []
 (.chk (aq (pc o1 3) r3)
 (.call ⟨[],[]⟩ [] 27 89 [(.sub (pn (pc o1 3) r3) 1 3)]
 (.ite (.nt eJ)
 (.ret pF)
 (.next ⟨[],[]⟩))))
 (.next ⟨[(3,wS)],[]⟩))
 (.exit 0 ⟨[(14,r3),(15,pN),(16,(pc o1 3)),(17,oY),(18,(aj r3 oY))],[]⟩))
def Yz:PT:=
 (.ite (.pick (aW (.llen (pc (.mk [r0]) 3)) (pi 60)) pT (aW sm (pi 60)))
 (.ret pF)
 (.brk ⟨[(3,(pi 0)),(2,pF)],[(1,(.mk [r0]))]⟩
(att b)
 (.ret pT)))
def aoA:PT×List (Shp×PT):=(Yz b,[(.lp 0 [2,3,14,15,16,17,18] [] [2,3] [],HO b)])
def Us:A9.map told=some (aoA (bt A9)):=by kernel_rfl
def azj:tree (ab A9)=Yz Qe:=bH Us
def Wb:round 0 [2,3,14,15,16,17,18] [] [2,3] [] (Qe 0)=HO Qe:=bm Us 0 λ_=>rfl
def Kk:Option PC:=cF [2] [] Tryz.f89 89 [1]
def Yx:PT:=
 (.call ⟨[],[]⟩ [] 4 126 [(.mk [j5,mz,zK]),(pi 100),(pi 20)]
 (.ret (bk r4 (pi 0))))
def agL:Kk.map told=some (Yx,[]):=by kernel_rfl
def azh:tree (ab Kk)=Yx:=aT agL
def yj:Option PC:=cF [6,1,7] [] Tryz.f126 126 [3]
def Qd:Nat->PC:=bn yj
def ats:PC:=.block 0 [1,7,12,13,14,15,16,17,20] [] (.loop [1,7] [] (b 0))
def HM (b:Nat->PC):PT:=
 (.ite (.pick (aj r7 ns) (bk r1 (pi 0)) pF)
 (.blockS ⟨[],[]⟩ 1 [1,23,24,25,26,27,28,29,30,31] []
 (.chk (aq (pc o3 2) r7)
 (.call ⟨[],[]⟩ [] 31 126 [(pn (pc o3 2) r7),r1,(bq r2 (pi 1))]
 (.next ⟨[(1,sv)],[]⟩)))
 (.next ⟨[(7,(aF r7 (pi 1)))],[]⟩))
 (.exit 0 ⟨[(12,r7),(13,pN),(14,(pc o3 2)),(15,ns),(16,(aj r7 ns)),(17,(aj r7 ns)),(20,(.pick (aj r7 ns) (bk r1 (pi 0)) pF))],[]⟩))
def OX:PT:=
 (.ite (aj r2 (pi 1))
 (.ret (pi (-1)))
 (.brk ⟨[(7,(pi 0)),(1,(bq r1 (pi 1)))],[(3,(.mk [r0]))]⟩
(ats b)
 (.ret r1)))
def aoz:PT×List (Shp×PT):=(OX b,[(.lp 0 [1,7,12,13,14,15,16,17,20] [] [1,7] [],HM b)])
def Ur:yj.map told=some (aoz (bt yj)):=by kernel_rfl
def ajD:tree (ab yj)=OX Qd:=bH Ur
def Wa:round 0 [1,7,12,13,14,15,16,17,20] [] [1,7] [] (Qd 0)=HM Qd:=bm Ur 0 λ_=>rfl
def Kf:Option PC:=cF [2,3] [] Tryz.f24 24 [1]
def Yi:PT:=
 (.call ⟨[],[(1,(.mk [r0]))]⟩ [] 5 52 [j4]
 (.iteS ⟨[(3,r5)],[]⟩ (peq r5 (pi 0)) [3] []
 (.call ⟨[],[]⟩ [] 9 53 [(aA 8 o1)]
 (.next ⟨[(3,r9)],[]⟩))
 (.next ⟨[],[]⟩)
 (.iteS ⟨[],[]⟩ (peq r3 (pi 0)) [3] []
 (.call ⟨[],[]⟩ [] 13 54 [(aA 8 o1)]
 (.next ⟨[(3,db)],[]⟩))
 (.next ⟨[],[]⟩)
 (.iteS ⟨[],[]⟩ (peq r3 (pi 0)) [3] []
 (.call ⟨[],[]⟩ [] 17 55 [(aA 8 o1)]
 (.next ⟨[(3,lf)],[]⟩))
 (.next ⟨[],[]⟩)
 (.iteS ⟨[],[]⟩ (peq r3 (pi 0)) [3] []
 (.call ⟨[],[]⟩ [] 21 56 [(aA 8 o1)]
 (.next ⟨[(3,iO)],[]⟩))
 (.next ⟨[],[]⟩)
 (.ret r3))))))
def agG:Kf.map told=some (Yi,[]):=by kernel_rfl
def ay2:tree (ab Kf)=Yi:=aT agG
def A3:Option PC:=cF [2,3,4,6,7] [] Tryz.f52 52 [1,5,44]
def Ec:Nat->PC:=bn A3
def ati:PC:=.block 0 [2,3,12,13,14,15,16] [] (.loop [2,3] [] (b 0))
def atj:PC:=.block 2 [2,5,6,30,31,32,33,34] [5] (.loop [2,5,6] [5] (b 1))
def HA (b:Nat->PC):PT:=
 (.ite (aj r3 wX)
 (.blockS ⟨[],[]⟩ 1 [2,4,19,20,21,22,23,24] []
 (.call ⟨[],[]⟩ [] 22 90 [(pc o1 0),r3]
 (.ite (aJ qz (pi 0))
 (.ret qz)
 (.next ⟨[],[]⟩)))
 (.next ⟨[(3,wS)],[]⟩))
 (.exit 0 ⟨[(12,r3),(13,pN),(14,(pc o1 0)),(15,wX),(16,(aj r3 wX))],[]⟩))
def HC (b:Nat->PC):PT:=
 (.ite (aj r6 mA)
 (.blockS ⟨[],[]⟩ 3 [2,5,7,38,39,40,41,42,43,44,45,46,47,48,49,50,52,53,54,55,56,57,58,59] [44,5]
 (.chk (aq (pc o1 1) r6)
 (.chk (bG (.llen Vl) cO)
 (.call ⟨[(5,pN)],[(5,Vl)]⟩ [] 48 90 [Vl,r6]
 (.ite (aJ j6 (pi 0))
 (.ret j6)
 (.chk (aq (pc o1 1) r6)
 (.call ⟨[],[]⟩ [] 58 91 [(aA 8 o1),(pn (pc o1 1) r6)]
 (.ite (.nt He)
 (.ret (pi 1))
 (.next ⟨[],[]⟩))))))))
 (.next ⟨[(6,(aF r6 (pi 1)))],[]⟩))
 (.exit 2 ⟨[(30,r6),(31,pN),(32,(pc o1 1)),(33,mA),(34,(aj r6 mA))],[]⟩))
def Yq:PT:=
 (.ite (aW (.llen j5) (pi 8))
 (.ret (pi 6))
 (.brk ⟨[(3,(pi 0)),(2,(pi 0))],[(1,(.mk [r0]))]⟩
(ati b)
 (.ite (aW mA (pi 40))
 (.ret (pi 6))
 (.brk ⟨[(6,(pi 0)),(5,pN)],[(5,pL)]⟩
(atj b)
 (.ret (pi 0))))))
def aot:PT×List (Shp×PT):=(Yq b,[(.lp 0 [2,3,12,13,14,15,16] [] [2,3] [],HA b),(.lp 2 [2,5,6,30,31,32,33,34] [5] [2,5,6] [5],HC b)])
def MS:A3.map told=some (aot (bt A3)):=by kernel_rfl
def aza:tree (ab A3)=Yq Ec:=bH MS
def V2:round 0 [2,3,12,13,14,15,16] [] [2,3] [] (Ec 0)=HA Ec:=bm MS 0 λ_=>rfl
def V3:round 2 [2,5,6,30,31,32,33,34] [5] [2,5,6] [5] (Ec 1)=HC Ec:=bm MS 1 λ_=>rfl
def Ki:Option PC:=cF [4] [] Tryz.f90 90 []
def Ys:PT:=
 (.chk (aq r0 r1)
 (.call ⟨[],[]⟩ [] 9 127 [(pn r0 r1)]
 (.ite (.nt r9)
 (.ret (pi 2))
 (.chk (aq r0 r1)
 (.call ⟨[],[]⟩ [] 17 128 [r0,r1,(pn r0 r1)]
 (.ite lf
 (.ret (pi 5))
 (.ret (pi 0))))))))
def agJ:Ki.map told=some (Ys,[]):=by kernel_rfl
def azc:tree (ab Ki)=Ys:=aT agJ
def AZ:Option PC:=cF [2,3,4] [] Tryz.f127 127 []
def P8:Nat->PC:=bn AZ
def atd:PC:=.block 0 [2,3,13,14,15,16] [] (.loop [2,3] [] (b 0))
def Hv (b:Nat->PC):PT:=
 (.ite (aj r3 (.slen r0))
 (.blockS ⟨[],[]⟩ 1 [2,4,19,20,21,22,23,34,35,36,37,38,39,40,47] []
 (.chk (.sok r0 r3)
 (.chk (.nt (.an (.an (.nt Vk) pT) (.nt (.sok r0 r3))))
 (.chk (.nt (.an (.an (bG (.con (.v (.int .u8 48))) (.sidx r0 r3)) (.an (.nt Vk) pT)) (.nt (.sok r0 r3))))
 (.call ⟨[(4,(.pick Vk pT (.pick (bG (.con (.v (.int .u8 48))) (.sidx r0 r3)) (bG (.sidx r0 r3) (.con (.v (.int .u8 57)))) pF)))],[]⟩ [] 38 173 [(.sidx r0 r3)]
 (.ite (.pick (.nt jD) (.pick (peq r3 (pi 0)) pT (.nt r4)) pF)
 (.ret pF)
 (.next ⟨[],[]⟩))))))
 (.next ⟨[(3,wS)],[]⟩))
 (.exit 0 ⟨[(13,r3),(14,r0),(15,(.slen r0)),(16,(aj r3 (.slen r0)))],[]⟩))
def Yl:PT:=
 (.ite (.pick (aj (.slen r0) (pi 1)) pT (aW (.slen r0) (pi 20)))
 (.ret pF)
 (.brk ⟨[(3,(pi 0)),(2,pF)],[]⟩
(atd b)
 (.ret pT)))
def aop:PT×List (Shp×PT):=(Yl b,[(.lp 0 [2,3,13,14,15,16] [] [2,3] [],Hv b)])
def Um:AZ.map told=some (aop (bt AZ)):=by kernel_rfl
def ay5:tree (ab AZ)=Yl P8:=bH Um
def VX:round 0 [2,3,13,14,15,16] [] [2,3] [] (P8 0)=Hv P8:=bm Um 0 λ_=>rfl
def Kg:Option PC:=cF [2] [] Tryz.f173 173 []
def Yk:PT:=
 (.ret (.pick (.pick (bG (.con (.v (.int .u8 97))) r0) (bG r0 (.con (.v (.int .u8 122)))) pF) pT (.pick (bG (.con (.v (.int .u8 65))) r0) (bG r0 (.con (.v (.int .u8 90)))) pF)))
def agH:Kg.map told=some (Yk,[]):=by kernel_rfl
def ay4:tree (ab Kg)=Yk:=aT agH
def AX:Option PC:=cF [6,7] [] Tryz.f128 128 []
def P7:Nat->PC:=bn AX
def ata:PC:=.block 0 [6,7,8,9,10,11,16] [] (.loop [6,7] [] (b 0))
def Ht (b:Nat->PC):PT:=
 (.ite (.pick (aj r7 r1) (aj r7 (.llen r0)) pF)
 (.chk (aq r0 r7)
 (.ite (.cs .eql (pn r0 r7) r2)
 (.ret pT)
 (.next ⟨[(7,(aF r7 (pi 1)))],[]⟩)))
 (.exit 0 ⟨[(8,r7),(9,r1),(10,(aj r7 r1)),(11,(aj r7 r1)),(16,(.pick (aj r7 r1) (aj r7 (.llen r0)) pF))],[]⟩))
def Yh:PT:=
 (.brk ⟨[(7,(pi 0)),(6,pF)],[]⟩
(ata b)
 (.ret pF))
def aon:PT×List (Shp×PT):=(Yh b,[(.lp 0 [6,7,8,9,10,11,16] [] [6,7] [],Ht b)])
def Ul:AX.map told=some (aon (bt AX)):=by kernel_rfl
def ay1:tree (ab AX)=Yh P7:=bH Ul
def VW:round 0 [6,7,8,9,10,11,16] [] [6,7] [] (P7 0)=Ht P7:=bm Ul 0 λ_=>rfl
def A0:Option PC:=cF [4,5] [] Tryz.f91 91 [2,3]
def P9:Nat->PC:=bn A0
def ate:PC:=.block 0 [4,5,36,37,38,39,40] [] (.loop [4,5] [] (b 0))
def Hw (b:Nat->PC):PT:=
 (.ite (aj r5 (.llen (pc o3 4)))
 (.blockS ⟨[],[]⟩ 1 [4,43,44,45,46,47,48,49,50,51,60] []
 (.chk (aq (pc o3 4) r5)
 (.chk CY
 (.call ⟨[],[]⟩ [] 49 92 [(.ai .quo .i64 (pn (pc o3 4) r5) (pi 100)),(pi 1),(pi 12)]
 (.chk (.nt (.an (.an (.nt (.nt pf)) pT) (.nt (aq (pc o3 4) r5))))
 (.chk (.nt (.an (.an (.nt (.nt pf)) pT) (.nt CY)))
 (.call ⟨[(51,(.nt pf))],[]⟩ [(51,false)] 58 92 [(.ai .rem .i64 (pn (pc o3 4) r5) (pi 100)),(pi 1),(pi 31)]
 (.ite (.pick ny pT (.nt He))
 (.ret pF)
 (.next ⟨[],[]⟩))))))))
 (.next ⟨[(5,zG)],[]⟩))
 (.exit 0 ⟨[(36,r5),(37,pN),(38,(pc o3 4)),(39,(.llen (pc o3 4))),(40,(aj r5 (.llen (pc o3 4))))],[]⟩))
def Ym:PT:=
 (.call ⟨[(4,pF)],[(3,(.mk [r1])),(2,(.mk [r0]))]⟩ [] 12 92 [(pc (.mk [r1]) 1),(pi 0),(bq GX (pi 1))]
 (.call ⟨[(14,(.nt cm))],[]⟩ [(14,false)] 21 92 [(pc o3 2),(pi 0),(bq (.llen (pc o2 0)) (pi 1))]
 (.ite (.pick (.pick (.pick cu pT (.nt iO)) pT (aW (.llen (pc o3 4)) (pi 60))) pT (aW (.llen (pc o3 5)) (pi 200)))
 (.ret pF)
 (.brk ⟨[(5,(pi 0))],[]⟩
(ate b)
 (.call ⟨[],[]⟩ [] 63 129 [(pc o3 3),(pi 0),(pi 6)]
 (.call ⟨[(64,NM)],[]⟩ [(64,true)] 67 129 [(pc o3 4),(pi 0),(pi 2000)]
 (.call ⟨[(69,(.pick nz wZ pF))],[]⟩ [(69,true)] 72 129 [(pc o3 5),(pi 0),(pi 100000)]
 (.ret (.pick zM Hh pF)))))))))
def aoq:PT×List (Shp×PT):=(Ym b,[(.lp 0 [4,5,36,37,38,39,40] [] [4,5] [],Hw b)])
def Un:A0.map told=some (aoq (bt A0)):=by kernel_rfl
def ay6:tree (ab A0)=Ym P9:=bH Un
def VY:round 0 [4,5,36,37,38,39,40] [] [4,5] [] (P9 0)=Hw P9:=bm Un 0 λ_=>rfl
def Kh:Option PC:=cF [6] [] Tryz.f92 92 []
def Yp:PT:=
 (.ret (.pick (bG r1 r0) (bG r0 r2) pF))
def agI:Kh.map told=some (Yp,[]):=by kernel_rfl
def ay9:tree (ab Kh)=Yp:=aT agI
def A2:Option PC:=cF [6,7] [] Tryz.f129 129 []
def Qa:Nat->PC:=bn A2
def ath:PC:=.block 0 [6,7,8,9,10,11] [] (.loop [6,7] [] (b 0))
def Hz (b:Nat->PC):PT:=
 (.ite (aj r7 (.llen r0))
 (.blockS ⟨[],[]⟩ 1 [6,14,15,16,17,18,19,20,21,22,23,24,35] []
 (.chk (aq r0 r7)
 (.call ⟨[],[]⟩ [] 20 92 [(pn r0 r7),r1,r2]
 (.ite (.nt eI)
 (.ret pF)
 (.chk (.nt (.an (.an (aW r7 (pi 0)) pT) (.nt (aq r0 (bq r7 (pi 1))))))
 (.chk (.nt (.an (.an (aW r7 (pi 0)) pT) (.nt (aq r0 r7))))
 (.ite (.pick (aW r7 (pi 0)) (bk (pn r0 (bq r7 (pi 1))) (pn r0 r7)) pF)
 (.ret pF)
 (.next ⟨[],[]⟩)))))))
 (.next ⟨[(7,(aF r7 (pi 1)))],[]⟩))
 (.exit 0 ⟨[(8,r7),(9,r0),(10,(.llen r0)),(11,(aj r7 (.llen r0)))],[]⟩))
def Yo:PT:=
 (.brk ⟨[(7,(pi 0)),(6,pF)],[]⟩
(ath b)
 (.ret pT))
def aos:PT×List (Shp×PT):=(Yo b,[(.lp 0 [6,7,8,9,10,11] [] [6,7] [],Hz b)])
def Uo:A2.map told=some (aos (bt A2)):=by kernel_rfl
def ay8:tree (ab A2)=Yo Qa:=bH Uo
def V1:round 0 [6,7,8,9,10,11] [] [6,7] [] (Qa 0)=Hz Qa:=bm Uo 0 λ_=>rfl
def A4:Option PC:=cF [2,3,5,6] [] Tryz.f53 53 [1,4,44]
def Ed:Nat->PC:=bn A4
def atk:PC:=.block 0 [2,3,11,12,13,14,15] [] (.loop [2,3] [] (b 0))
def atl:PC:=.block 2 [2,4,5,30,31,32,33,34] [4] (.loop [2,4,5] [4] (b 1))
def HE (b:Nat->PC):PT:=
 (.ite (aj r3 tQ)
 (.blockS ⟨[],[]⟩ 1 [2,18,19,20,21,22,23,24,25] []
 (.chk (aq (pc o1 2) r3)
 (.call ⟨[],[]⟩ [] 24 92 [(pc (pn (pc o1 2) r3) 0),(pi 0),(pi 9)]
 (.ite (.nt nu)
 (.ret (pi 1))
 (.next ⟨[],[]⟩))))
 (.next ⟨[(3,wS)],[]⟩))
 (.exit 0 ⟨[(11,r3),(12,pN),(13,(pc o1 2)),(14,tQ),(15,(aj r3 tQ))],[]⟩))
def HF (b:Nat->PC):PT:=
 (.ite (aj r5 oY)
 (.blockS ⟨[],[]⟩ 3 [2,4,6,38,39,40,41,42,43,44,45,46,47,48,49,50,52,53,54,55,56,57,58,59,60,61,62,63,64,77] [44,4]
 (.chk (aq (pc o1 3) r5)
 (.chk (bG (.llen Vm) cO)
 (.call ⟨[(4,pN)],[(4,Vm)]⟩ [] 48 90 [Vm,r5]
 (.ite (aJ j6 (pi 0))
 (.ret j6)
 (.chk (aq (pc o1 3) r5)
 (.call ⟨[],[]⟩ [] 62 92 [(pc (pn (pc o1 3) r5) 1),(pi 0),(bq mA (pi 1))]
 (.chk (.nt (.an (.an (.nt (.nt pg)) pT) (.nt (aq (pc o1 3) r5))))
 (.call ⟨[(64,(.nt pg))],[]⟩ [(64,false)] 75 92 [(pc (pn (pc o1 3) r5) 2),(pi 0),(bq tQ (pi 1))]
 (.ite (.pick nz pT (.nt VG))
 (.ret (pi 1))
 (.next ⟨[],[]⟩))))))))))
 (.next ⟨[(5,zG)],[]⟩))
 (.exit 2 ⟨[(30,r5),(31,pN),(32,(pc o1 3)),(33,oY),(34,(aj r5 oY))],[]⟩))
def Yr:PT:=
 (.ite (aW sm (pi 20))
 (.ret (pi 6))
 (.brk ⟨[(3,(pi 0)),(2,(pi 0))],[(1,(.mk [r0]))]⟩
(atk b)
 (.ite (aW oY (pi 200))
 (.ret (pi 6))
 (.brk ⟨[(5,(pi 0)),(4,pN)],[(4,pL)]⟩
(atl b)
 (.ret (pi 0))))))
def aou:PT×List (Shp×PT):=(Yr b,[(.lp 0 [2,3,11,12,13,14,15] [] [2,3] [],HE b),(.lp 2 [2,4,5,30,31,32,33,34] [4] [2,4,5] [4],HF b)])
def MT:A4.map told=some (aou (bt A4)):=by kernel_rfl
def azb:tree (ab A4)=Yr Ed:=bH MT
def V4:round 0 [2,3,11,12,13,14,15] [] [2,3] [] (Ed 0)=HE Ed:=bm MT 0 λ_=>rfl
def V5:round 2 [2,4,5,30,31,32,33,34] [4] [2,4,5] [4] (Ed 1)=HF Ed:=bm MT 1 λ_=>rfl
def A5:Option PC:=cF [2,4,5] [] Tryz.f54 54 [1,3,24]
def Qb:Nat->PC:=bn A5
def atm:PC:=.block 0 [2,3,4,10,11,12,13,14] [3] (.loop [2,3,4] [3] (b 0))
def HG (b:Nat->PC):PT:=
 (.ite (aj r4 qx)
 (.blockS ⟨[],[]⟩ 1 [2,3,5,18,19,20,21,22,23,24,25,26,27,28,29,30,32,33,34,35,36,37,38] [24,3]
 (.chk (aq (pc o1 4) r4)
 (.chk (bG (.llen (.app o3 (.lst [(pc zD 0)]))) cO)
 (.call ⟨[(3,pN)],[(3,(.app o3 (.lst [(pc zD 0)])))]⟩ [] 28 90 [(.app o3 (.lst [(pc zD 0)])),r4]
 (.ite (aJ sr (pi 0))
 (.ret sr)
 (.chk (aq (pc o1 4) r4)
 (.call ⟨[],[]⟩ [] 37 93 [zD]
 (.ite (.nt mD)
 (.ret (pi 1))
 (.next ⟨[],[]⟩))))))))
 (.next ⟨[(4,(aF r4 (pi 1)))],[]⟩))
 (.exit 0 ⟨[(10,r4),(11,pN),(12,(pc o1 4)),(13,qx),(14,(aj r4 qx))],[]⟩))
def Yt:PT:=
 (.ite (aW GX (pi 20))
 (.ret (pi 6))
 (.brk ⟨[(4,(pi 0)),(3,pN),(2,(pi 0))],[(3,pL),(1,(.mk [r0]))]⟩
(atm b)
 (.ret (pi 0))))
def aov:PT×List (Shp×PT):=(Yt b,[(.lp 0 [2,3,4,10,11,12,13,14] [3] [2,3,4] [3],HG b)])
def Up:A5.map told=some (aov (bt A5)):=by kernel_rfl
def azd:tree (ab A5)=Yt Qb:=bH Up
def V6:round 0 [2,3,4,10,11,12,13,14] [3] [2,3,4] [3] (Qb 0)=HG Qb:=bm Up 0 λ_=>rfl
def A1:Option PC:=cF [2,3,4] [] Tryz.f93 93 [1]
def Eb:Nat->PC:=bn A1
def atf:PC:=.block 0 [2,3,5,6,7,8,9] [] (.loop [2,3] [] (b 0))
def atg:PC:=.block 2 [2,4,48,49,50,51,52] [] (.loop [2,4] [] (b 1))
def Hx (b:Nat->PC):PT:=
 (.ite (aj r3 tQ)
 (.blockS ⟨[],[]⟩ 1 [2,12,13,14,15,16,17,18,19,20,29,30,31,32,47] []
 (.chk (aq (pc o1 2) r3)
 (.call ⟨[],[]⟩ [] 18 92 [(pc (pn (pc o1 2) r3) 0),(pi 0),(pi 21)]
 (.chk (.nt (.an (.an (.nt (.nt cI)) pT) (.nt (aq (pc o1 2) r3))))
 (.call ⟨[(20,(.nt cI))],[]⟩ [(20,false)] 27 92 [(pc (pn (pc o1 2) r3) 1),(pi 0),(pi 4)]
 (.ite (.pick eI pT (.nt eJ))
 (.ret pF)
 (.chk (.nt (.an (.an (aW r3 (pi 0)) pT) (.nt (aq (pc o1 2) (bq r3 (pi 1))))))
 (.chk (.nt (.an (.an (aW r3 (pi 0)) pT) (.nt (aq (pc o1 2) r3))))
 (.ite (.pick (aW r3 (pi 0)) (bk (pc (pn (pc o1 2) (bq r3 (pi 1))) 0) (pc (pn (pc o1 2) r3) 0)) pF)
 (.ret pF)
 (.next ⟨[],[]⟩)))))))))
 (.next ⟨[(3,wS)],[]⟩))
 (.exit 0 ⟨[(5,r3),(6,pN),(7,(pc o1 2)),(8,tQ),(9,(aj r3 tQ))],[]⟩))
def Hy (b:Nat->PC):PT:=
 (.ite (aj r4 oY)
 (.blockS ⟨[],[]⟩ 3 [2,55,56,57,58,59,60,61,62,63,64,65,80] []
 (.chk (aq (pc o1 3) r4)
 (.call ⟨[],[]⟩ [] 61 92 [(pc (pn (pc o1 3) r4) 0),(pi 0),(pi 21)]
 (.ite (.nt Hg)
 (.ret pF)
 (.chk (.nt (.an (.an (aW r4 (pi 0)) pT) (.nt (aq (pc o1 3) (bq r4 (pi 1))))))
 (.chk (.nt (.an (.an (aW r4 (pi 0)) pT) (.nt (aq (pc o1 3) r4))))
 (.ite (.pick (aW r4 (pi 0)) (bk (pc (pn (pc o1 3) (bq r4 (pi 1))) 0) (pc (pn (pc o1 3) r4) 0)) pF)
 (.ret pF)
 (.next ⟨[],[]⟩)))))))
 (.next ⟨[(4,(aF r4 (pi 1)))],[]⟩))
 (.exit 2 ⟨[(48,r4),(49,pN),(50,(pc o1 3)),(51,oY),(52,(aj r4 oY))],[]⟩))
def Yn:PT:=
 (.brk ⟨[(3,(pi 0)),(2,pF)],[(1,(.mk [r0]))]⟩
(atf b)
 (.brk ⟨[(4,(pi 0))],[]⟩
(atg b)
 (.ret pT)))
def aor:PT×List (Shp×PT):=(Yn b,[(.lp 0 [2,3,5,6,7,8,9] [] [2,3] [],Hx b),(.lp 2 [2,4,48,49,50,51,52] [] [2,4] [],Hy b)])
def MR:A1.map told=some (aor (bt A1)):=by kernel_rfl
def ay7:tree (ab A1)=Yn Eb:=bH MR
def VZ:round 0 [2,3,5,6,7,8,9] [] [2,3] [] (Eb 0)=Hx Eb:=bm MR 0 λ_=>rfl
def V0:round 2 [2,4,48,49,50,51,52] [] [2,4] [] (Eb 1)=Hy Eb:=bm MR 1 λ_=>rfl
def A7:Option PC:=cF [2,3,5] [] Tryz.f55 55 [1,4]
def Ef:Nat->PC:=bn A7
def atp:PC:=.block 2 [2,5,46,47,48] [] (.loop [2,5] [] (b 0))
def atq:PC:=.block 0 [2,3,10,11,12,13,14] [] (.loop [2,3] [] (b 1))
def Dg (b:Nat->PC):PT:=
 (.ite (aj r5 r3)
 (.chk (aq (pc o1 5) r5)
 (.chk (.nt (.an (.an (peq (pc (pn (pc o1 5) r5) 0) (pc o4 0)) pT) (.nt (aq (pc o1 5) r5))))
 (.ite (.pick (peq (pc (pn (pc o1 5) r5) 0) (pc o4 0)) (peq (pc (pn (pc o1 5) r5) 1) (pc o4 1)) pF)
 (.ret (pi 5))
 (.next ⟨[(5,zG)],[]⟩))))
 (.exit 2 ⟨[(46,r5),(47,r3),(48,(aj r5 r3))],[]⟩))
def HL:PT:=
 (.ite (aj r3 C1)
 (.blockS ⟨[(14,(aj r3 C1)),(13,C1),(12,(pc o1 5)),(11,pN),(10,r3)],[]⟩ 1 [2,4,5,17,18,19,20,21,22,23,24,25,26,27,28,29,30,39,40,45,46,47,48] [4]
 (.chk (aq (pc o1 5) r3)
 (.call ⟨[],[(4,(.setc z3 0 (pn (pc o1 5) r3)))]⟩ [] 28 92 [(pc (.setc z3 0 (pn (pc o1 5) r3)) 0),(pi 0),(bq mA (pi 1))]
 (.call ⟨[(30,(.nt sr))],[]⟩ [(30,false)] 37 92 [(pc o4 1),(pi 0),(bq mA (pi 1))]
 (.call ⟨[(40,(.pick su pT (.nt mD)))],[]⟩ [(40,false)] 43 92 [(pc o4 2),(pi 1),(pi 20000)]
 (.ite (.pick qB pT (.nt vh))
 (.ret (pi 1))
 (.brk ⟨[(5,(pi 0))],[]⟩
(atp b)
 (.next ⟨[],[]⟩)))))))
 (.next ⟨[(3,wS)],[]⟩))
 (.exit 0 ⟨[(10,r3),(11,pN),(12,(pc o1 5)),(13,C1),(14,(aj r3 C1))],[]⟩))
def Yv:PT:=
 (.ite (aW (.llen wW) (pi 100))
 (.ret (pi 6))
 (.brk ⟨[(3,(pi 0)),(2,(pi 0))],[(1,(.mk [r0]))]⟩
(atq b)
 (.ret (pi 0))))
def aox:PT×List (Shp×PT):=(Yv b,[(.lp 2 [2,5,46,47,48] [] [2,5] [],Dg b),(.lp 0 [2,3,10,11,12,13,14] [] [2,3] [],HL b)])
def MV:A7.map told=some (aox (bt A7)):=by kernel_rfl
def azf:tree (ab A7)=Yv Ef:=bH MV
def N4:round 2 [2,5,46,47,48] [] [2,5] [] (Ef 0)=Dg Ef:=bm MV 0 λ_=>rfl
def V9:round 0 [2,3,10,11,12,13,14] [] [2,3] [] (Ef 1)=HL Ef:=bm MV 1 λ_=>rfl
def A6:Option PC:=cF [2,3,5] [] Tryz.f56 56 [1,4,6]
def Ee:Nat->PC:=bn A6
def atn:PC:=.block 0 [2,3,11,12,13,14,15] [] (.loop [2,3] [] (b 0))
def ato:PC:=.block 2 [2,5,68,69,70,71,72] [] (.loop [2,5] [] (b 1))
def HI (b:Nat->PC):PT:=
 (.ite (aj r3 (.llen (pc o1 6)))
 (.blockS ⟨[],[]⟩ 1 [2,4,18,19,20,21,22,23,24,25,26,27,28,29,30,31,40,41,47,48,49,50,51,52,57,58,63] [4]
 (.chk (aq (pc o1 6) r3)
 (.call ⟨[],[(4,(.setc z5 0 (pn (pc o1 6) r3)))]⟩ [] 29 92 [(pc (.setc z5 0 (pn (pc o1 6) r3)) 0),(pi 0),(bq wX (pi 1))]
 (.call ⟨[(31,(.nt nv))],[]⟩ [(31,false)] 38 92 [(pc o4 1),(pi 0),(bq wX (pi 1))]
 (.ite (.pick (.pick sv pT (.nt jD)) pT (peq (pc o4 0) (pc o4 1)))
 (.ret (pi 1))
 (.call ⟨[],[]⟩ [] 50 92 [(pc o4 2),(pi 1),(pi 1073741824)]
 (.call ⟨[(52,(.nt nw))],[]⟩ [(52,false)] 55 92 [(pc o4 3),(pi 1),(pi 1073741824)]
 (.call ⟨[(58,(.pick Da pT (.nt Db)))],[]⟩ [(58,false)] 61 92 [(pc o4 4),(pi 0),(pi 100000)]
 (.ite (.pick He pT (.nt Hg))
 (.ret (pi 1))
 (.next ⟨[],[]⟩)))))))))
 (.next ⟨[(3,wS)],[]⟩))
 (.exit 0 ⟨[(11,r3),(12,pN),(13,(pc o1 6)),(14,(.llen (pc o1 6))),(15,(aj r3 (.llen (pc o1 6))))],[]⟩))
def HJ (b:Nat->PC):PT:=
 (.ite (aj r5 zF)
 (.blockS ⟨[],[]⟩ 3 [2,6,75,76,77,78,79,80,81,82,83,84,85,86,87,88,95,96,100] [6]
 (.chk (aq (pc o1 7) r5)
 (.call ⟨[],[(6,(.setc z3 0 (pn (pc o1 7) r5)))]⟩ [] 86 92 [(pc (.setc z3 0 (pn (pc o1 7) r5)) 0),(pi 0),(bq qx (pi 1))]
 (.call ⟨[(88,(.nt NP))],[]⟩ [(88,false)] 93 92 [(pc o6 1),(pi 0),(pc o6 2)]
 (.ite (.pick (.pick NQ pT (.nt NR)) pT (aW (pc o6 2) (pi 100000)))
 (.ret (pi 1))
 (.next ⟨[],[]⟩)))))
 (.next ⟨[(5,zG)],[]⟩))
 (.exit 2 ⟨[(68,r5),(69,pN),(70,(pc o1 7)),(71,zF),(72,(aj r5 zF))],[]⟩))
def Yu:PT:=
 (.ite (aW (.llen (pc (.mk [r0]) 6)) (pi 100))
 (.ret (pi 6))
 (.brk ⟨[(3,(pi 0)),(2,(pi 0))],[(1,(.mk [r0]))]⟩
(atn b)
 (.ite (aW zF (pi 20))
 (.ret (pi 6))
 (.brk ⟨[(5,(pi 0))],[]⟩
(ato b)
 (.ret (pi 0))))))
def aow:PT×List (Shp×PT):=(Yu b,[(.lp 0 [2,3,11,12,13,14,15] [] [2,3] [],HI b),(.lp 2 [2,5,68,69,70,71,72] [] [2,5] [],HJ b)])
def MU:A6.map told=some (aow (bt A6)):=by kernel_rfl
def aze:tree (ab A6)=Yu Ee:=bH MU
def V7:round 0 [2,3,11,12,13,14,15] [] [2,3] [] (Ee 0)=HI Ee:=bm MU 0 λ_=>rfl
def V8:round 2 [2,5,68,69,70,71,72] [] [2,5] [] (Ee 1)=HJ Ee:=bm MU 1 λ_=>rfl
def yi:Option PC:=cF [4,5,6,7,8,11] [] Tryz.f25 25 [2,3,10]
def D9:Nat->PC:=bn yi
def as0:PC:=.block 0 [4,48,49] [] (.loop [4,48] [] (b 0))
def as1:PC:=.block 2 [4,8,62,63] [] (.loop [4,8,62] [] (b 1))
def Hq (b:Nat->PC):PT:=
 (.ite (aj j6 C9)
 (.blockS ⟨[],[]⟩ 1 [4,6,7,50,51,52,53,54,55,56] []
 (.call ⟨[],[]⟩ [] 54 58 [(aA 8 o2),(aA 19 o3),j6]
 (.ite (aJ mE (pi 0))
 (.ret mE)
 (.next ⟨[],[]⟩)))
 (.next ⟨[(48,(aF j6 (pi 1)))],[]⟩))
 (.exit 0 ⟨[(49,(aj j6 C9))],[]⟩))
def Hr (b:Nat->PC):PT:=
 (.ite (aj pg Hg)
 (.blockS ⟨[],[]⟩ 3 [4,8,10,64,65,66,67,68,69,70,71,72,73,74,75,76,77,78,79,80] [10]
 (.chk (aq Hf pg)
 (.call ⟨[],[(10,(.setc z2 0 (pn Hf pg)))]⟩ [] 73 59 [(pc (.setc z2 0 (pn Hf pg)) 0),vg,(.llen (pc o3 15))]
 (.ite (.nt Hi)
 (.ret (pi 1))
 (.call ⟨[],[]⟩ [] 77 59 [(pc cd 1),(pi 1),zC]
 (.ite (.nt NO)
 (.ret (pi 3))
 (.next ⟨[(8,(pc cd 0))],[]⟩))))))
 (.next ⟨[(62,(aF pg (pi 1)))],[]⟩))
 (.exit 2 ⟨[(63,(aj pg Hg))],[]⟩))
def XY:PT:=
 (.ite (.pick (.pick (.pick (aW (.llen (pc (.mk [r1]) 15)) (pi 40)) pT (aW (.llen (pc (.mk [r1]) 16)) (pi 4))) pT (aW (.llen (pc (.mk [r1]) 17)) (pi 100))) pT (aW (.llen (pc (.mk [r1]) 18)) (pi 200)))
 (.ret (pi 6))
 (.call ⟨[(4,(pi 0))],[(3,(.mk [r1])),(2,(.mk [r0]))]⟩ [] 37 57 [j4,(aA 15 (.mk [r1]))]
 (.ite (aJ mD (pi 0))
 (.ret mD)
 (.ite (peq (.llen (pc o3 15)) (pi 0))
 (.ret (pi 14))
 (.brk ⟨[(48,(pi 0)),(47,(.llen (pc o3 15)))],[]⟩
(as0 b)
 (.brk ⟨[(62,(pi 0)),(61,(.llen (pc o3 16))),(60,(pc o3 16)),(8,(pi 0))],[]⟩
(as1 b)
 (.call ⟨[],[]⟩ [] 84 60 [(aA 8 o2),(aA 19 o3)]
 (.ite (aJ r84 (pi 0))
 (.ret r84)
 (.call ⟨[],[]⟩ [] 89 61 [(aA 19 o3)]
 (.ret r89))))))))))
def aoe:PT×List (Shp×PT):=(XY b,[(.lp 0 [4,48,49] [] [4,48] [],Hq b),(.lp 2 [4,8,62,63] [] [4,8,62] [],Hr b)])
def MO:yi.map told=some (aoe (bt yi)):=by kernel_rfl
def ayD:tree (ab yi)=XY D9:=bH MO
def VT:round 0 [4,48,49] [] [4,48] [] (D9 0)=Hq D9:=bm MO 0 λ_=>rfl
def VU:round 2 [4,8,62,63] [] [4,8,62] [] (D9 1)=Hr D9:=bm MO 1 λ_=>rfl
def EE:Option PC:=cF [4,5,6,7,8,54,80,109,118,9,10] [] Tryz.f57 57 [2,3]
def ZF:PT:=
 (.call ⟨[],[(3,(.mk [r1])),(2,(.mk [r0]))]⟩ [] 12 94 [j4]
 (.ite (aJ cm (pi 0))
 (.ret cm)
 (.call ⟨[(7,(.llen (pc o2 1))),(6,(.llen (pc o2 3)))],[]⟩ [] 25 95 [(pc o3 0),(.llen (pc o2 3))]
 (.call ⟨[(26,kH)],[]⟩ [(26,true)] 30 95 [(pc o3 1),r6]
 (.call ⟨[(36,(peq (pc o3 2) (pi (-1)))),(32,(.pick lU su pF))],[]⟩ [(36,false),(32,true)] 40 95 [(pc o3 2),r6]
 (.call ⟨[(47,(peq (pc o3 11) (pi (-1)))),(43,(.pick tS (.pick lg pT qB) pF))],[]⟩ [(47,false),(43,true)] 51 95 [(pc o3 11),r6]
 (.blockS ⟨[(8,(.pick vh (.pick C9 pT ny) pF))],[]⟩ 0 [4,54,55,56,57,65,66,72,73,79,80,81,82,83,84,88,89,93,94,98,99,103,104,108,109,110,111,112,113,117,118,119,120,121,122,126,127,137,138,142] []
 (.call ⟨[(57,(.nt r8))],[]⟩ [(57,false)] 63 95 [(pc o3 4),(.llen (pc o2 0))]
 (.call ⟨[(66,(.pick NL pT (.nt NM)))],[]⟩ [(66,false)] 70 95 [(pc o3 9),r7]
 (.call ⟨[(73,(.pick r66 pT (.nt r70)))],[]⟩ [(73,false)] 77 95 [(pc o3 10),r7]
 (.iteS ⟨[],[]⟩ (.pick Hi pT (.nt NO)) [4,80,81,82,83,84,88,89,93,94,98,99,103,104,108,109,110,111,112,113,117,118,119,120,121,122,126,127,137,138,142] []
 (.ret (pi 1))
 (.iteS ⟨[],[]⟩ (.pick (.pick (.pick (.pick (.pick (aj (pc o3 3) (pi 1)) pT (aW (pc o3 3) zC)) pT (aj (pc o3 8) (pi 0))) pT (aW (pc o3 8) (pi 100000))) pT (aj (pc o3 12) (pi 0))) pT (aW (pc o3 12) (pi 1000))) [4,109,110,111,112,113,117,118,119,120,121,122,126,127,137,138,142] []
 (.ret (pi 3))
 (.iteS ⟨[],[]⟩ (.pick (aj (pc o3 14) (pi 1)) pT (aW (pc o3 14) (pi 4))) [4,118,119,120,121,122,126,127,137,138,142] []
 (.ret (pi 15))
 (.call ⟨[(138,(.pick (.pick (aj (pc o3 13) (pi 0)) pT (aW (pc o3 13) (pi 7))) pT (.pick (aJ (.ai .and .i64 (pc o3 13) (pi 4)) (pi 0)) (peq (pc o3 2) (pi (-1))) pF)))],[]⟩ [(138,false)] 140 96 [(aA 15 o3)]
 (.ite (.pick (.r 138) pT (.nt (.r 140)))
 (.ret (pi 2))
 (.next ⟨[],[]⟩)))
 (.next ⟨[],[]⟩))
 (.next ⟨[],[]⟩))
 (.next ⟨[],[]⟩)))))
 (.iteS ⟨[],[]⟩ (peq (pc o3 5) (pi 4)) [4] []
 (.call ⟨[],[]⟩ [] 153 97 [(aA 8 o2),(pc o3 9),(pc o3 10)]
 (.ret (.tget (.r 153) 1)))
 (.next ⟨[],[]⟩)
 (.ret (pi 0))))))))))
def ahj:EE.map told=some (ZF,[]):=by kernel_rfl
def aAf:tree (ab EE)=ZF:=aT ahj
def KR:Option PC:=cF [4] [] Tryz.f95 95 []
def ZG:PT:=
 (.ret Vo)
def ahk:KR.map told=some (ZG,[]):=by kernel_rfl
def aAg:tree (ab KR)=ZG:=aT ahk
def KS:Option PC:=cF [2,8,19,40] [] Tryz.f96 96 [1,3]
def ZH:PT:=
 (.ite (.pick (peq (pc lS 0) (pi 0)) (peq (pc lS 0) (pi 0)) (peq (pc lS 0) (pi 4)))
 (.ret (.pick (peq (pc lS 1) (pi 0)) (peq (pc lS 2) (pi 0)) pF))
 (.ite (.pick (peq (pc lS 0) (pi 1)) (peq (pc lS 0) (pi 1)) (peq (pc lS 0) (pi 2)))
 (.ret (.pick (.pick (bk (pc lS 1) (pi 1)) (bG (pc lS 1) (pi 400)) pF) (.pick (peq (pc lS 2) (pi 0)) pT (peq (pc lS 2) (pi 1))) pF))
 (.ite (peq (pc lS 0) (pi 3))
 (.ret (.pick (.pick (bk (pc lS 1) (pc (.mk [r0]) 8)) (bG (pc lS 1) (pi 100000)) pF) (peq (pc lS 2) (pi 0)) pF))
 (.ret pF))))
def ahl:KS.map told=some (ZH,[]):=by kernel_rfl
def aAh:tree (ab KS)=ZH:=aT ahl
def AS:Option PC:=cF [6,8,9,76,92,98] [] Tryz.f58 58 [3,4,7,11]
def P2:Nat->PC:=bn AS
def as5:PC:=.block 0 [8,9,51,52] [] (.loop [8,9,51] [] (b 0))
def NZ (b:Nat->PC):PT:=
 (.ite (aj ny nw)
 (.chk (aq pf ny)
 (.next ⟨[(8,(pc (.setc z9 0 (pn pf ny)) 6)),(9,(.pick r9 pT (.pick (.pick (peq (pc o7 0) (pi 1)) (peq (pc (.setc z9 0 (pn pf ny)) 0) (pi 1)) pF) (peq (pc (.setc z9 0 (pn pf ny)) 1) (pc o7 1)) pF))),(51,(aF ny (pi 1)))],[]⟩))
 (.exit 0 ⟨[(52,(aj ny nw))],[]⟩))
def X7:PT:=
 (.chk (aq (pc (.mk [r1]) 15) r2)
 (.call ⟨[],[(7,qv),(4,(.mk [r1])),(3,(.mk [r0]))]⟩ [] 23 59 [(pc qv 1),(pi 0),(bq (pc (.mk [r1]) 14) (pi 1))]
 (.ite (.nt gG)
 (.ret (pi 15))
 (.call ⟨[],[]⟩ [] 31 59 [(pc o7 2),(pi 0),Nn]
 (.call ⟨[(33,(.nt sv))],[]⟩ [(33,false)] 40 59 [(pc o7 7),(pi 0),(bq (.llen (pc o3 1)) (pi 1))]
 (.ite (.pick tT pT (.nt qB))
 (.ret (pi 1))
 (.chk (.slok (pc o4 15) (pi 0) r2)
 (.brk ⟨[(51,(pi 0)),(50,(.llen (.slc (pc o4 15) (pi 0) r2))),(49,(.slc (pc o4 15) (pi 0) r2)),(9,pF),(8,(pc o4 8))],[]⟩
(as5 b)
 (.blockS ⟨[],[]⟩ 2 [6,76,77,78,79,80,81,82,91,92,93,94,95,96,97,98,99] []
 (.call ⟨[],[]⟩ [] 80 59 [(pc o7 6),r8,(pi 100000)]
 (.iteS ⟨[],[]⟩ (.pick (.nt zN) pT (.pick (peq r2 (pi 0)) (aJ (pc o7 6) r8) pF)) [6,92,93,94,95,96,97,98,99] []
 (.ret (pi 13))
 (.call ⟨[],[]⟩ [] 96 98 [(aA 8 o3),(aA 19 o4),r2]
 (.ite (.nt r96)
 (.ret (pi 14))
 (.ite r9
 (.ret (pi 5))
 (.next ⟨[],[]⟩))))
 (.next ⟨[],[]⟩)))
 (.ret (pi 0)))))))))))
def aoi:PT×List (Shp×PT):=(X7 b,[(.lp 0 [8,9,51,52] [] [8,9,51] [],NZ b)])
def Ug:AS.map told=some (aoi (bt AS)):=by kernel_rfl
def ayM:tree (ab AS)=X7 P2:=bH Ug
def aiC:round 0 [8,9,51,52] [] [8,9,51] [] (P2 0)=NZ P2:=bm Ug 0 λ_=>rfl
def J7:Option PC:=cF [6] [] Tryz.f59 59 []
def X6:PT:=
 (.ret (.pick (bk r0 r1) (bG r0 r2) pF))
def agw:J7.map told=some (X6,[]):=by kernel_rfl
def ayL:tree (ab J7)=X6:=aT agw
def J6:Option PC:=cF [6,9,10,66,103,113,11,140,149] [] Tryz.f98 98 [3,4,7,8]
def X5:PT:=
 (.chk (aq (pc (.mk [r1]) 15) r2)
 (.ite (.pick (.cb .neq (peq r2 (pi 0)) (peq (pc qv 0) (pi 0))) pT (.pick (aJ (pc qv 0) (pi 2)) (aJ (pc qv 4) (pi (-1))) pF))
 (.ret pF)
 (.ite (.pick (.pick (aJ (pc qv 0) (pi 3)) (aJ (pc qv 0) (pi 4)) pF) (aJ (pc qv 3) (pi (-1))) pF)
 (.ret pF)
 (.call ⟨[(9,(.pick (peq (pc qv 5) (pi 0)) (peq (pc qv 8) (pi 0)) pF))],[(8,(.setc DJ 0 (aA 15 (.mk [r1])))),(7,qv),(4,(.mk [r1])),(3,(.mk [r0]))]⟩ [] 58 59 [(pc qv 5),(pi 1),zC]
 (.blockS ⟨[(65,(pc o7 0)),(10,(.pick He (peq (pc o7 8) (pi 0)) pF))],[]⟩ 0 [6,66,67,103,104,113,114,140,141,149,150] []
 (.iteS ⟨[],[]⟩ (peq Dc (pi 0)) [6,103,104,113,114,140,141,149,150] []
 (.ret (.pick (.pick (.pick (.pick (.pick (peq (pc o7 2) (pc o8 0)) (peq (pc o7 5) (pi 0)) pF) (peq (.ai .or .i64 (pc o7 8) (pi 1)) (pi 1)) pF) (peq (pc o7 1) (pi 0)) pF) (peq (pc o7 6) (pc o8 8)) pF) (peq (pc o7 7) (pc o8 9)) pF))
 (.iteS ⟨[],[]⟩ (peq Dc (pi 1)) [6,113,114,140,141,149,150] []
 (.ret (.pick (peq (pc o7 2) (pc o8 1)) dA pF))
 (.iteS ⟨[],[]⟩ (peq Dc (pi 2)) [6,140,141,149,150] []
 (.call ⟨[(11,(pi 6))],[]⟩ [] 121 59 [(pc o7 4),(pi (-1)),Nn]
 (.call ⟨[(127,(.pick av5 (peq (pc o7 5) (pi 0)) pF))],[]⟩ [(127,true)] 130 59 [(pc o7 8),(pi 0),(pi 7)]
 (.ret (.pick (.pick av6 (.r 130) pF) (aJ (.ai .and .i64 (pc o7 8) bQ) bQ) pF))))
 (.iteS ⟨[],[]⟩ (peq Dc (pi 3)) [6,149,150] []
 (.call ⟨[(143,r9)],[]⟩ [(143,true)] 147 141 [(aA 19 o4),r2,(.lst [(pi 0),(pi 1),(pi 2),(pi 4)])]
 (.ret (.pick (.r 143) (.r 147) pF)))
 (.iteS ⟨[],[]⟩ (peq Dc (pi 4)) [6] []
 (.call ⟨[(159,(.pick dA (aJ (pc o7 2) (pc o8 1)) pF))],[]⟩ [(159,true)] 163 141 [(aA 19 o4),r2,(.lst [(pi 0),(pi 2)])]
 (.ret (.pick (.r 159) (.r 163) pF)))
 (.next ⟨[],[]⟩)
 (.next ⟨[],[]⟩))
 (.next ⟨[],[]⟩))
 (.next ⟨[],[]⟩))
 (.next ⟨[],[]⟩))
 (.next ⟨[],[]⟩))
 (.ret pF))))))
def agv:J6.map told=some (X5,[]):=by kernel_rfl
def ayK:tree (ab J6)=X5:=aT agv
def J5:Option PC:=cF [6,7] [] Tryz.f141 141 [3]
def X3:PT:=
 (.chk (aq sf r1)
 (.call ⟨[(7,(pc (pn sf r1) 3))],[(3,(.mk [r0]))]⟩ [] 17 59 [(pc (pn sf r1) 3),(pi 0),(bq r1 (pi 1))]
 (.chk (.nt (.an (.an lf pT) (.nt (aq (pc o3 15) r1))))
 (.call ⟨[(18,lf)],[]⟩ [(18,true)] 27 142 [(aA 19 o3),r7,(pc (pn (pc o3 15) r1) 1)]
 (.chk (.nt (.an (.an (.pick cI eJ pF) pT) (.nt (aq (pc o3 15) r7))))
 (.call ⟨[(29,(.pick cI eJ pF))],[]⟩ [(29,true)] 37 176 [r2,(pc (pn (pc o3 15) r7) 0)]
 (.ret (.pick nv mD pF))))))))
def agu:J5.map told=some (X3,[]):=by kernel_rfl
def ayI:tree (ab J5)=X3:=aT agu
def J8:Option PC:=cF [6] [] Tryz.f142 142 [3]
def OW:PT:=
 (.chk (.nt (.an (.an (.nt (peq r1 (pi 0))) pT) (.nt (aq sf r1))))
 (.ret (.pick (peq r1 (pi 0)) pT (peq (pc (pn sf r1) 1) r2))))
def agx:J8.map told=some (OW,[]):=by kernel_rfl
def ayN:tree (ab J8)=OW:=aT agx
def AQ:Option PC:=cF [4,5,7] [] Tryz.f60 60 [2,3,6]
def P0:Nat->PC:=bn AQ
def as3:PC:=.block 0 [4,11,12] [] (.loop [4,11] [] (b 0))
def NX (b:Nat->PC):PT:=
 (.ite (aj bQ dA)
 (.blockS ⟨[],[]⟩ 1 [4,5,6,7,13,14,15,16,17,18,19,20,21,22,23,24,25,26,27,28,29,30,31,32,37,38,39,40,41,42,43,44,45,46,47,48,58,59,69,70,71,72,73] [6]
 (.chk (aq r9 bQ)
 (.call ⟨[(5,bQ)],[(6,(.setc z9 0 (pn r9 bQ)))]⟩ [] 22 59 [(pc (.setc z9 0 (pn r9 bQ)) 3),(pi 0),(bq (pc o3 14) (pi 1))]
 (.ite (.nt qz)
 (.ret (pi 15))
 (.call ⟨[],[]⟩ [] 30 59 [(pc o6 7),(pi 0),(bq (.llen (pc o2 1)) (pi 1))]
 (.call ⟨[(32,(.nt su))],[]⟩ [(32,false)] 35 59 [(pc o6 0),(pi 0),(pi 9)]
 (.ite (.pick tS pT (.nt oZ))
 (.ret (pi 1))
 (.call ⟨[],[]⟩ [] 41 99 [(aA 8 o2),(aA 19 o3),(aA 9 o6)]
 (.ite (.nt tU)
 (.ret (pi 14))
 (.ite (aJ (pc o6 4) (pi (-1)))
 (.chk (aq (pc o3 15) (pc o6 4))
 (.ite (aW r5 (pi 0))
 (.chk (aq (pc o3 17) (bq r5 (pi 1)))
 (.call ⟨[],[]⟩ [] 72 59 [(pc o6 6),(.mx (.mx (pc o3 8) (pc (pn (pc o3 15) (pc o6 4)) 6)) (pc (pn (pc o3 17) (bq r5 (pi 1))) 6)),(pi 100000)]
 (.ite (.nt Hh)
 (.ret (pi 13))
 (.next ⟨[],[]⟩))))
 (.call ⟨[],[]⟩ [] 72 59 [(pc o6 6),(.mx (pc o3 8) (pc (pn (pc o3 15) (pc o6 4)) 6)),(pi 100000)]
 (.ite (.nt Hh)
 (.ret (pi 13))
 (.next ⟨[],[]⟩)))))
 (.ite (aW r5 (pi 0))
 (.chk (aq (pc o3 17) (bq r5 (pi 1)))
 (.call ⟨[],[]⟩ [] 72 59 [(pc o6 6),(.mx (pc o3 8) (pc (pn (pc o3 17) (bq r5 (pi 1))) 6)),(pi 100000)]
 (.ite (.nt Hh)
 (.ret (pi 13))
 (.next ⟨[],[]⟩))))
 (.call ⟨[],[]⟩ [] 72 59 [(pc o6 6),(pc o3 8),(pi 100000)]
 (.ite (.nt Hh)
 (.ret (pi 13))
 (.next ⟨[],[]⟩)))))))))))))
 (.next ⟨[(11,(aF bQ (pi 1)))],[]⟩))
 (.exit 0 ⟨[(12,(aj bQ dA))],[]⟩))
def X2:PT:=
 (.brk ⟨[(11,(pi 0)),(10,(.llen (pc (.mk [r1]) 17))),(9,(pc (.mk [r1]) 17)),(4,(pi 0))],[(3,(.mk [r1])),(2,(.mk [r0]))]⟩
(as3 b)
 (.ret (pi 0)))
def aog:PT×List (Shp×PT):=(X2 b,[(.lp 0 [4,11,12] [] [4,11] [],NX b)])
def Ue:AQ.map told=some (aog (bt AQ)):=by kernel_rfl
def ayH:tree (ab AQ)=X2 P0:=bH Ue
def aiA:round 0 [4,11,12] [] [4,11] [] (P0 0)=NX P0:=bm Ue 0 λ_=>rfl
def J4:Option PC:=cF [6,7,8,9,65,80,100,111] [] Tryz.f99 99 [3,4,5]
def X1:PT:=
 (.call ⟨[],[(5,(.mk [r2])),(4,(.mk [r1])),(3,(.mk [r0]))]⟩ [] 16 59 [(pc (.mk [r2]) 4),(pi 0),(bq (.llen (pc (.mk [r1]) 15)) (pi 1))]
 (.call ⟨[(17,cj)],[]⟩ [(17,true)] 23 142 [(aA 19 o4),(pc o5 4),(pc o5 3)]
 (.chk (.nt (.an (.an (.pick lf gG pF) pT) (.nt (aq (pc o4 15) (pc o5 4)))))
 (.call ⟨[(8,(.pick (.pick lf gG pF) (peq (pc (pn (pc o4 15) (pc o5 4)) 2) (pc o5 1)) pF)),(7,(.pick lf gG pF))],[]⟩ [] 44 59 [(pc o5 2),(pi 0),Nn]
 (.call ⟨[(9,wY)],[]⟩ [] 51 59 [(pc o5 1),(pi 0),Nn]
 (.ite (.pick (.nt ny) pT (.pick (aJ (pc o5 0) (pi 4)) (aJ (pc o5 8) (pi 0)) pF))
 (.ret pF)
 (.blockS ⟨[(64,(pc o5 0))],[]⟩ 0 [6,65,66,80,81,100,101,111,112] []
 (.iteS ⟨[],[]⟩ (.pick (peq nz (pi 0)) (peq nz (pi 0)) (.pick (peq nz (pi 1)) (peq nz (pi 1)) (peq nz (pi 2)))) [6,80,81,100,101,111,112] []
 (.ret (.pick (.pick r9 (peq (pc o5 4) (pi (-1))) pF) (peq (pc o5 5) (pi 0)) pF))
 (.iteS ⟨[],[]⟩ (.pick (peq nz (pi 3)) (peq nz (pi 3)) (.pick (peq nz (pi 5)) (peq nz (pi 5)) (peq nz (pi 4)))) [6,100,101,111,112] []
 (.call ⟨[(90,(.pick r9 (peq (pc o5 4) (pi (-1))) pF))],[]⟩ [(90,true)] 93 59 [(pc o5 5),(pi 0),zC]
 (.call ⟨[(95,(.pick r90 NR pF))],[]⟩ [(95,true)] 98 59 [(pc o5 8),(pi 0),(pi 1)]
 (.ret (.pick r95 r98 pF))))
 (.iteS ⟨[],[]⟩ (peq nz (pi 6)) [6,111,112] []
 (.call ⟨[(106,(.pick r9 r8 pF))],[]⟩ [(106,true)] 109 59 [(pc o5 5),(pi 1),zC]
 (.ret (.pick NJ aik pF)))
 (.ite (peq nz (pi 9))
 (.ret (.pick (.pick (peq (pc o5 2) (pi (-1))) r8 pF) (peq (pc o5 5) (pi 0)) pF))
 (.next ⟨[],[]⟩))
 (.next ⟨[],[]⟩))
 (.next ⟨[],[]⟩))
 (.next ⟨[],[]⟩))
 (.ret (.pick (.pick (peq (pc o5 2) (pi (-1))) r7 pF) (peq (pc o5 5) (pi 0)) pF)))))))))
def agt:J4.map told=some (X1,[]):=by kernel_rfl
def ayG:tree (ab J4)=X1:=aT agt
def AR:Option PC:=cF [2,3] [] Tryz.f61 61 [1,4,5,52]
def P1:Nat->PC:=bn AR
def as4:PC:=.block 0 [2,9,10] [] (.loop [2,9] [] (b 0))
def NY (b:Nat->PC):PT:=
 (.ite (aj r9 r8)
 (.blockS ⟨[],[]⟩ 1 [2,3,4,11,12,13,14,15,16,17,18,27,28,33,34,35] [4]
 (.chk (aq r7 r9)
 (.call ⟨[(3,r9)],[(4,(.setc z3 0 (pn r7 r9)))]⟩ [] 16 59 [(pc (.setc z3 0 (pn r7 r9)) 0),(pi 0),(pi 4)]
 (.call ⟨[(18,(.nt cj))],[]⟩ [(18,false)] 25 59 [(pc o4 1),(pi 0),(bq (.llen (pc o1 15)) (pi 1))]
 (.call ⟨[(28,(.pick cI pT (.nt kH)))],[]⟩ [(28,false)] 31 59 [(pc o4 2),(pi 0),(pi 1)]
 (.ite (.pick sr pT (.nt sv))
 (.ret (pi 1))
 (.ite (peq r3 (pi 0))
 (.exit 1 ⟨[],[]⟩)
 (.chk (aq (pc o1 18) (bq r3 (pi 1)))
 (.call ⟨[],[(5,(.setc z3 0 (pn (pc o1 18) (bq r3 (pi 1)))))]⟩ [] 46 101 [(pc (.setc z3 0 (pn (pc o1 18) (bq r3 (pi 1)))) 1),(pc o4 1)]
 (.call ⟨[],[]⟩ [] 51 101 [(pc o5 0),(pc o4 0)]
 (.call ⟨[],[]⟩ [] 53 100 [(.lst [C8,ny])]
 (.ite (bk VD (pi 0))
 (.ret (pi 5))
 (.next ⟨[],[]⟩))))))))))))
 (.next ⟨[(9,(aF r9 (pi 1)))],[]⟩))
 (.exit 0 ⟨[(10,(aj r9 r8))],[]⟩))
def X4:PT:=
 (.brk ⟨[(9,(pi 0)),(8,(.llen (pc (.mk [r0]) 18))),(7,(pc (.mk [r0]) 18)),(2,(pi 0))],[(1,(.mk [r0]))]⟩
(as4 b)
 (.ret (pi 0)))
def aoh:PT×List (Shp×PT):=(X4 b,[(.lp 0 [2,9,10] [] [2,9] [],NY b)])
def Uf:AR.map told=some (aoh (bt AR)):=by kernel_rfl
def ayJ:tree (ab AR)=X4 P1:=bH Uf
def aiB:round 0 [2,9,10] [] [2,9] [] (P1 0)=NY P1:=bm Uf 0 λ_=>rfl
def JP:Option PC:=cF [4,5,6] [] Tryz.f101 101 []
def XF:PT:=
 (.call ⟨[],[]⟩ [] 8 143 [r0]
 (.call ⟨[(5,r8)],[]⟩ [] 10 143 [r1]
 (.ite r5
 (.ite dA
 (.ret (pi 0))
 (.ret (pi (-1))))
 (.ite dA
 (.ret (pi 1))
 (.ite (aj r0 r1)
 (.ret (pi (-1)))
 (.ite (aW r0 r1)
 (.ret (pi 1))
 (.ret (pi 0))))))))
def agb:JP.map told=some (XF,[]):=by kernel_rfl
def ayj:tree (ab JP)=XF:=aT agb
def JQ:Option PC:=cF [2] [] Tryz.f143 143 []
def XH:PT:=
 (.ret (aJ r0 r0))
def agc:JQ.map told=some (XH,[]):=by kernel_rfl
def ayl:tree (ab JQ)=XH:=aT agc
def AL:Option PC:=cF [2,3,5] [] Tryz.f100 100 []
def PV:Nat->PC:=bn AL
def asW:PC:=.block 0 [2,8,9] [] (.loop [2,8] [] (b 0))
def Ho (b:Nat->PC):PT:=
 (.ite (aj r8 r7)
 (.chk (aq r6 r8)
 (.ite (aJ (pn r6 r8) r3)
 (.ret (pn r6 r8))
 (.next ⟨[(8,vg)],[]⟩)))
 (.exit 0 ⟨[(9,(aj r8 r7))],[]⟩))
def XG:PT:=
 (.brk ⟨[(8,(pi 0)),(7,(.llen r0)),(6,r0),(3,(pi 0)),(2,(pi 0))],[]⟩
(asW b)
 (.ret r3))
def aoa:PT×List (Shp×PT):=(XG b,[(.lp 0 [2,8,9] [] [2,8] [],Ho b)])
def T9:AL.map told=some (aoa (bt AL)):=by kernel_rfl
def ayk:tree (ab AL)=XG PV:=bH T9
def VQ:round 0 [2,8,9] [] [2,8] [] (PV 0)=Ho PV:=bm T9 0 λ_=>rfl
def EA:Option PC:=cF [7,9] [] Tryz.f7 7 [3,4,5,6,65542,69638,73734,77830,8,65544,69640,73736,77832,13,15,20,23,26]
def XZ:PT:=
 (.call ⟨[],[(8,(.setc tP 0 G1)),(77832,pL),(73736,pL),(69640,pL),(65544,pL),(6,tP),(5,(.mk [r2])),(4,(.mk [r1])),(3,(.mk [r0]))]⟩ [] 13 26 [(pc (.mk [r1]) 15)]
 (.chk (bG (.llen (.app db (.lst [(aA 9 o5)]))) cO)
 (.call ⟨[],[(65544,(.app db (.lst [(aA 9 o5)]))),(8,(.setc o8 15 pN))]⟩ [] 20 27 [(pc o4 16)]
 (.call ⟨[],[(20,eI)]⟩ [] 23 28 [(pc o4 17)]
 (.call ⟨[],[(23,gG)]⟩ [] 26 29 [(pc o4 18)]
 (.call ⟨[],[(77832,lU),(8,lT),(73736,o23),(69640,o20)]⟩ [] 32 25 [(aA 8 o3),(.mk [(pc lT 0),(pc lT 1),(pc lT 2),(pc lT 3),(pc lT 4),(pc lT 5),(pc lT 6),(pc lT 7),(pc lT 8),(pc lT 9),(pc lT 10),(pc lT 11),(pc lT 12),(pc lT 13),(pc lT 14),(.o 65544),o20,o23,lU])]
 (.ite (aJ tS (pi 0))
 (.ret (.tup [(.mk [(pc my 0),(pc my 1),(pc my 2),(pc my 3),(pc my 4),(pc my 5),(pc my 6),(pc my 7),(pc my 8),(pc my 9),(pc my 10),(pc my 11),(pc my 12),(pc my 13),(pc my 14),pL,pL,pL,pL]),tS]))
 (.ret (.tup [(aA 19 (.setc o6 0 (.mk [(pc o8 0),(pc o8 1),(pc o8 2),(pc o8 3),(pc o8 4),(pc o8 5),(pc o8 6),(pc o8 7),(pc o8 8),(pc o8 9),(pc o8 10),(pc o8 11),(pc o8 12),(pc o8 13),(pc o8 14),(.o 65544),(.o 69640),(.o 73736),(.o 77832)]))),(pi 0)])))))))))
def ags:EA.map told=some (XZ,[]):=by kernel_rfl
def ayE:tree (ab EA)=XZ:=aT ags
end Rm
