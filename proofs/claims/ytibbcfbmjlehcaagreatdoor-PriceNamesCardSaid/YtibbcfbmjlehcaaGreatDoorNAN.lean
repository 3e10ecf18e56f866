/-
  The functions of this seat, compiled (3).
-/
import Derived.Test.YtibbcfbmjlehcaaGreatDoorNAJ
import Derived.KernelRfl
set_option linter.defProp false
set_option linter.unusedVariables false
set_option maxRecDepth 100000
noncomputable section
namespace Rm
open Go Go.Proofs Cx
def Ar:Option PC:=cF [2,3,5,12,15] [] Tryz.f67 67 []
def Pr:Nat->PC:=bm Ar
variable(b:Nat->PC)
def asN:PC:=.block 0 [2,3,8,9] [] (.loop [2,3,8] [] (b 0))
def G8 (b:Nat->PC):PT:=
 (.ite (aj r8 r7)
 (.chk (aq r6 r8)
 (.ite (peq (pn r6 r8) (pi 0))
 (.ret (pi 0))
 (.next ⟨[(3,(.pick (peq (pn r6 r8) (pi 2)) (pi 2) r3)),(8,va)],[]⟩)))
 (.exit 0 ⟨[(9,(aj r8 r7))],[]⟩))
def Xc:PT:=
 (.brk ⟨[(8,(pi 0)),(7,(.llen r0)),(6,r0),(3,(pi 1)),(2,(pi 0))],[]⟩
(asN b)
 (.ret r3))
def anU:PT×List (Shp×PT):=(Xc b,[(.lp 0 [2,3,8,9] [] [2,3,8] [],G8 b)])
def TH:Ar.map told=some (anU (bp Ar)):=by kernel_rfl
def ax2:tree (ab Ar)=Xc Pr:=bF TH
def Vt:round 0 [2,3,8,9] [] [2,3,8] [] (Pr 0)=G8 Pr:=bk TH 0 λ_=>rfl
def As:Option PC:=cF [4,5,6,7,10,50,54] [] Tryz.f69 69 [2,9]
def Ps:Nat->PC:=bm As
def asO:PC:=.block 0 [7,23,24] [] (.loop [7,23] [] (b 0))
def G9 (b:Nat->PC):PT:=
 (.ite (aj gE oM)
 (.chk (aq iK gE)
 (.next ⟨[(7,(.pick r7 pT (aV (pc (.setc z2 0 (pn iK gE)) 0) r1))),(23,(aE gE (pi 1)))],[]⟩))
 (.exit 0 ⟨[(24,(aj gE oM))],[]⟩))
def Xg:PT:=
 (.call ⟨[(5,(pi 0))],[(2,(.mk [r0]))]⟩ [] 14 108 [U6,r1]
 (.brk ⟨[(23,(pi 0)),(22,(.llen (pc o2 26))),(21,(pc o2 26)),(7,pF),(6,(.llen (pc o2 26))),(5,cm)],[]⟩
(asO b)
 (.ite (.nt r7)
 (.ret (.tup [(pi 0),r5]))
 (.chk (aq (pc o2 26) (bo r6 (pi 1)))
 (.call ⟨[(10,(pc (pn (pc o2 26) (bo r6 (pi 1))) 1))],[]⟩ [] 48 68 [(aB 31 o2),(pi 4),r1]
 (.ite (peq jZ (pi 1))
 (.ret (.tup [jZ,dy]))
 (.ite (peq jZ (pi 2))
 (.ret (.tup [jZ,(.mn r5 dy)]))
 (.ret (.tup [jZ,r5])))))))))
def anV:PT×List (Shp×PT):=(Xg b,[(.lp 0 [7,23,24] [] [7,23] [],G9 b)])
def TI:As.map told=some (anV (bp As)):=by kernel_rfl
def ax6:tree (ab As)=Xg Ps:=bF TI
def Vu:round 0 [7,23,24] [] [7,23] [] (Ps 0)=G9 Ps:=bk TI 0 λ_=>rfl
def AB:Option PC:=cF [4,5] [] Tryz.f108 108 [2,7]
def PA:Nat->PC:=bm AB
def asX:PC:=.block 0 [5,14,15] [] (.loop [5,14] [] (b 0))
def Ny (b:Nat->PC):PT:=
 (.ite rV
 (.chk (aq cj cm)
 (.next ⟨[(5,(.pick (bI (pc (.setc z2 0 (pn cj cm)) 0) r1) (pc (.setc z2 0 (pn cj cm)) 1) r5)),(14,(aE cm (pi 1)))],[]⟩))
 (.exit 0 ⟨[(15,rV)],[]⟩))
def XK:PT:=
 (.brk ⟨[(14,(pi 0)),(13,(.llen (pc (.mk [r0]) 16))),(12,(pc (.mk [r0]) 16)),(5,(pc (.mk [r0]) 3))],[]⟩
(asX b)
 (.ret r5))
def an5:PT×List (Shp×PT):=(XK b,[(.lp 0 [5,14,15] [] [5,14] [],Ny b)])
def TQ:AB.map told=some (an5 (bp AB)):=by kernel_rfl
def ayD:tree (ab AB)=XK PA:=bF TQ
def ais:round 0 [5,14,15] [] [5,14] [] (PA 0)=Ny PA:=bk TQ 0 λ_=>rfl
def Qr:Option PC:=cF [2] [] Tryz.f57 57 [1]
def ayX:PT:=
 (.ret (.pick (aJ (pc (.mk [r0]) 3) (pi 1)) pT (.pick (aJ mh (pi 1)) (.nt (pc (.mk [r0]) 6)) pF)))
def auD:Qr.map told=some (ayX,[]):=by kernel_rfl
def Qp:Option PC:=cF [4] [] Tryz.f29 29 [2,3]
def ayR:PT:=
 (.ret (bo wJ (pc (.mk [r1]) 5)))
def auB:Qp.map told=some (ayR,[]):=by kernel_rfl
def AK:Option PC:=cF [] [] Tryz.f31 31 [3,6,7,9]
def PK:Nat->PC:=bm AK
def as4:PC:=.block 0 [7,12,13] [7] (.loop [7,12] [7] (b 0))
def NF (b:Nat->PC):PT:=
 (.ite wG
 (.chk (aq dy cj)
 (.ite (bh (pc (.setc CR 0 qn) 5) r2)
 (.chk (aq (pc o3 3) (pc (.setc CR 0 qn) 2))
 (.chk (bI (.llen ahO) cQ)
 (.next ⟨[(7,pN),(12,CP)],[(7,ahO)]⟩)))
 (.next ⟨[(12,CP)],[]⟩)))
 (.exit 0 ⟨[(13,wG)],[]⟩))
def XY:PT:=
 (.brk ⟨[(12,(pi 0)),(11,(.llen r1)),(10,r1),(7,pN)],[(7,pL),(3,(.mk [r0]))]⟩
(as4 b)
 (.mcall ⟨[],[]⟩ 1000000013 63 [pN,o7]
 (.call ⟨[],[]⟩ [] 34 64 [GL]
 (.ret G1))))
def aoc:PT×List (Shp×PT):=(XY b,[(.lp 0 [7,12,13] [7] [7,12] [7],NF b)])
def TY:AK.map told=some (aoc (bp AK)):=by kernel_rfl
def ayV:tree (ab AK)=XY PK:=bF TY
def aiy:round 0 [7,12,13] [7] [7,12] [7] (PK 0)=NF PK:=bk TY 0 λ_=>rfl
def JU:Option PC:=cF [10,11,12,13,14,33,36,15] [] Tryz.f9 9 [5,7,9]
def XV:PT:=
 (.call ⟨[],[(9,(.mk [r4])),(7,(.mk [r2])),(5,(.mk [r0]))]⟩ [] 22 10 [jX,r1,GQ,r3,(.mk [(pc (.mk [r4]) 0),(pc (.mk [r4]) 1)])]
 (.ite (aJ (.tget oM 1) (pi 0))
 (.ret (.tup [(pi 0),(.tget oM 1)]))
 (.call ⟨[(12,(.tget oM 0))],[]⟩ [] 32 13 [(aB 8 o5),r1,(aB 19 o7),r3]
 (.ite (peq wL (pi (-1)))
 (.ret (.tup [(pi 0),(pi 4)]))
 (.ite (.pick (aV wL r3) (aV (bo wL r3) (pi 20000)) pF)
 (.ret (.tup [(pi 0),(pi 3)]))
 (.call ⟨[],[]⟩ [] 54 14 [cj,(pc o9 0),(.mx (bo wL r3) (pi 0))]
 (.ite (aJ (.tget mu 1) (pi 0))
 (.ret (.tup [(pi 0),(pi 0)]))
 (.ret (.tup [(bo cj (.tget mu 0)),(pi 0)])))))))))
def agr:JU.map told=some (XV,[]):=by kernel_rfl
def ayQ:tree (ab JU)=XV:=aU agr
def JF:Option PC:=cF [6,7,8,9,10] [] Tryz.f14 14 []
def XC:PT:=
 (.call ⟨[],[]⟩ [] 12 39 [r0,zo]
 (.call ⟨[(14,(.nt cj))],[]⟩ [(14,false)] 16 39 [r1,(pi 1000)]
 (.call ⟨[(19,(.pick cm pT (.nt cv)))],[]⟩ [(19,false)] 21 39 [r2,(pi 20000)]
 (.ite (.pick ji pT (.nt iK))
 (.ret (.tup [(pi 0),(pi 1)]))
 (.call ⟨[],[]⟩ [] 29 40 [r0,(.ai .mul .i64 r1 r2),(pi 360000)]
 (.ite (.pick (.nt (.tget nl 2)) pT (aV ahJ r0))
 (.ret (.tup [(pi 0),(pi 3)]))
 (.ret (.tup [ahJ,(pi 0)]))))))))
def agb:JF.map told=some (XC,[]):=by kernel_rfl
def ayv:tree (ab JF)=XC:=aU agb
def JH:Option PC:=cF [4] [] Tryz.f39 39 []
def XE:PT:=
 (.ret (.pick (bh r0 (pi 0)) (bI r0 r1) pF))
def agd:JH.map told=some (XE,[]):=by kernel_rfl
def ayx:tree (ab JH)=XE:=aU agd
def JG:Option PC:=cF [6,7,8,9,10,11,12] [] Tryz.f40 40 []
def XD:PT:=
 (.call ⟨[],[]⟩ [] 18 79 [(.conv .u64 r0),(.conv .u64 r1)]
 (.ite (bh (.tget cO 0) (.conv .u64 r2))
 (.ret (.tup [(pi 0),(pi 0),pF]))
 (.call ⟨[],[]⟩ [] 30 80 [(.tget cO 0),(.tget cO 1),(.conv .u64 r2)]
 (.ite (aV (.tget qo 0) (.con (.v (.int .u64 1099511627776))))
 (.ret (.tup [(pi 0),(pi 0),pF]))
 (.ret (.tup [(.conv .i64 (.tget qo 0)),(.conv .i64 (.tget qo 1)),pT]))))))
def agc:JG.map told=some (XD,[]):=by kernel_rfl
def ayw:tree (ab JG)=XD:=aU agc
def Au:Option PC:=cF [6,7,8,2,9,10,11,12,13,14,15,16,17,18] [] Tryz.f80 80 []
def xP:Nat->PC:=bm Au
def Gu:PC:=.block 0 [15,16,67,68,69,78] [] (.loop [15,16] [] (b 0))
def Gv:PC:=.block 2 [16,18,102,103,104,113] [] (.loop [16,18] [] (b 1))
def Ha (b:Nat->PC):PT:=
 (.ite Vc
 (.ite (bh CW kZ)
 (.exit 0 ⟨[(15,(.ai .sub .u64 dg M5)),(16,CW),(67,dg),(68,(bh dg kZ)),(69,(bh dg kZ)),(78,Vc)],[]⟩)
 (.next ⟨[(15,(.ai .sub .u64 dg M5)),(16,CW)],[]⟩))
 (.exit 0 ⟨[(67,dg),(68,(bh dg kZ)),(69,(bh dg kZ)),(78,Vc)],[]⟩))
def Hb (b:Nat->PC):PT:=
 (.ite Vb
 (.ite (bh CW kZ)
 (.exit 2 ⟨[(16,CW),(18,(.ai .sub .u64 cO M5)),(102,cO),(103,(bh cO kZ)),(104,(bh cO kZ)),(113,Vb)],[]⟩)
 (.next ⟨[(16,CW),(18,(.ai .sub .u64 cO M5))],[]⟩))
 (.exit 2 ⟨[(102,cO),(103,(bh cO kZ)),(104,(bh cO kZ)),(113,Vb)],[]⟩))
def Ou:PT:=
 (.ite (peq r2 (.con (.v (.int .u64 0))))
 (.chk pF
 (.chk (.nt pT)
 (.ite (bI r2 r0)
 (.chk pF
 (.chk (.nt pT)
 (.ite Nl
 (.chk (aJ r2 (pi 0))
 (.ret (.tup [(.ai .quo .u64 r1 r2),(.ai .rem .u64 r1 r2)])))
 (.call ⟨[],[]⟩ [] 35 126 [r2]
 (.chk (bh rR (pi 0))
 (.chk CO
 (.chk Nf
 (.chk (aJ rU (pi 0))
 (.brk ⟨[(16,Nc),(15,M6),(14,M2),(13,M1),(11,zz),(10,M4),(9,rU),(2,GU),(8,rR)],[]⟩
(Gu b)
 (.chk (aJ r9 (pi 0))
 (.brk ⟨[(16,Nd),(18,(.ai .quo .u64 tB r9)),(17,tB)],[]⟩
(Gv b)
 (.chk (bh r8 (pi 0))
 (.ret (.tup [Ni,M9]))))))))))))))
 (.ite Nl
 (.chk (aJ r2 (pi 0))
 (.ret (.tup [(.ai .quo .u64 r1 r2),(.ai .rem .u64 r1 r2)])))
 (.call ⟨[],[]⟩ [] 35 126 [r2]
 (.chk (bh rR (pi 0))
 (.chk CO
 (.chk Nf
 (.chk (aJ rU (pi 0))
 (.brk ⟨[(16,Nc),(15,M6),(14,M2),(13,M1),(11,zz),(10,M4),(9,rU),(2,GU),(8,rR)],[]⟩
(Gu b)
 (.chk (aJ r9 (pi 0))
 (.brk ⟨[(16,Nd),(18,(.ai .quo .u64 tB r9)),(17,tB)],[]⟩
(Gv b)
 (.chk (bh r8 (pi 0))
 (.ret (.tup [Ni,M9])))))))))))))))
 (.ite (bI r2 r0)
 (.chk pF
 (.chk (.nt pT)
 (.ite Nl
 (.chk (aJ r2 (pi 0))
 (.ret (.tup [(.ai .quo .u64 r1 r2),(.ai .rem .u64 r1 r2)])))
 (.call ⟨[],[]⟩ [] 35 126 [r2]
 (.chk (bh rR (pi 0))
 (.chk CO
 (.chk Nf
 (.chk (aJ rU (pi 0))
 (.brk ⟨[(16,Nc),(15,M6),(14,M2),(13,M1),(11,zz),(10,M4),(9,rU),(2,GU),(8,rR)],[]⟩
(Gu b)
 (.chk (aJ r9 (pi 0))
 (.brk ⟨[(16,Nd),(18,(.ai .quo .u64 tB r9)),(17,tB)],[]⟩
(Gv b)
 (.chk (bh r8 (pi 0))
 (.ret (.tup [Ni,M9]))))))))))))))
 (.ite Nl
 (.chk (aJ r2 (pi 0))
 (.ret (.tup [(.ai .quo .u64 r1 r2),(.ai .rem .u64 r1 r2)])))
 (.call ⟨[],[]⟩ [] 35 126 [r2]
 (.chk (bh rR (pi 0))
 (.chk CO
 (.chk Nf
 (.chk (aJ rU (pi 0))
 (.brk ⟨[(16,Nc),(15,M6),(14,M2),(13,M1),(11,zz),(10,M4),(9,rU),(2,GU),(8,rR)],[]⟩
(Gu b)
 (.chk (aJ r9 (pi 0))
 (.brk ⟨[(16,Nd),(18,(.ai .quo .u64 tB r9)),(17,tB)],[]⟩
(Gv b)
 (.chk (bh r8 (pi 0))
 (.ret (.tup [Ni,M9]))))))))))))))
def anW:PT×List (Shp×PT):=(Ou b,[(.lp 0 [15,16,67,68,69,78] [] [15,16] [],Ha b),(.lp 2 [16,18,102,103,104,113] [] [16,18] [],Hb b)])
def Ms:Au.map told=some (anW (bp Au)):=by kernel_rfl
def ax7:tree (ab Au)=Ou xP:=bF Ms
def Vv:round 0 [15,16,67,68,69,78] [] [15,16] [] (xP 0)=Ha xP:=bk Ms 0 λ_=>rfl
def Vw:round 2 [16,18,102,103,104,113] [] [16,18] [] (xP 1)=Hb xP:=bk Ms 1 λ_=>rfl
def Jq:Option PC:=cF [2] [] Tryz.f126 126 []
def Xh:PT:=
 (.call ⟨[],[]⟩ [] 4 104 [r0]
 (.ret (bo (pi 64) r4)))
def afS:Jq.map told=some (Xh,[]):=by kernel_rfl
def ax8:tree (ab Jq)=Xh:=aU afS
def Jr:Option PC:=cF [2,0] [] Tryz.f104 104 []
def Xi:PT:=
 (.ite (bh r0 kZ)
 (.chk CO
 (.ite (bh u9 (.con (.v (.int .u64 65536))))
 (.chk (bh Na (pi 0))
 (.ite (bh GZ M0)
 (.chk (bh ql (pi 0))
 (.chk (.sok la (.conv .u8 (.ai .shr .u64 GZ ql)))
 (.ret (aE (aE (aE (pi 32) (pi 16)) (pi 8)) (.conv .i64 (.sidx la (.conv .u8 (.ai .shr .u64 GZ ql))))))))
 (.chk (.sok la (.conv .u8 GZ))
 (.ret (aE (aE (pi 32) (pi 16)) (.conv .i64 (.sidx la (.conv .u8 GZ))))))))
 (.ite (bh u9 M0)
 (.chk (bh ql (pi 0))
 (.chk (.sok la (.conv .u8 (.ai .shr .u64 u9 ql)))
 (.ret (aE (aE (pi 32) (pi 8)) (.conv .i64 (.sidx la (.conv .u8 (.ai .shr .u64 u9 ql))))))))
 (.chk (.sok la (.conv .u8 u9))
 (.ret (aE (pi 32) (.conv .i64 (.sidx la (.conv .u8 u9)))))))))
 (.ite (bh r0 (.con (.v (.int .u64 65536))))
 (.chk (bh Na (pi 0))
 (.ite (bh GP M0)
 (.chk (bh ql (pi 0))
 (.chk (.sok la (.conv .u8 (.ai .shr .u64 GP ql)))
 (.ret (aE (aE (aE (pi 0) (pi 16)) (pi 8)) (.conv .i64 (.sidx la (.conv .u8 (.ai .shr .u64 GP ql))))))))
 (.chk (.sok la (.conv .u8 GP))
 (.ret (aE (aE (pi 0) (pi 16)) (.conv .i64 (.sidx la (.conv .u8 GP))))))))
 (.ite (bh r0 M0)
 (.chk (bh ql (pi 0))
 (.chk (.sok la (.conv .u8 (.ai .shr .u64 r0 ql)))
 (.ret (aE (aE (pi 0) (pi 8)) (.conv .i64 (.sidx la (.conv .u8 (.ai .shr .u64 r0 ql))))))))
 (.chk (.sok la (.conv .u8 r0))
 (.ret (aE (pi 0) (.conv .i64 (.sidx la (.conv .u8 r0)))))))))
def afT:Jr.map told=some (Xi,[]):=by kernel_rfl
def ax9:tree (ab Jr)=Xi:=aU afT
def JT:Option PC:=cF [10] [] Tryz.f21 21 [5,7,20,22]
def XU:PT:=
 (.call ⟨[],[(7,(.mk [r2])),(5,(.mk [r0]))]⟩ [] 13 26 [jX,r1]
 (.ite (.nt dN)
 (.ret pL)
 (.call ⟨[(15,(aB 8 o5))],[]⟩ [] 20 27 [(aB 8 o5),r1,(aB 19 o7),r3]
 (.call ⟨[],[]⟩ [] 22 31 [dg,fc,r4]
 (.ret oM)))))
def agq:JT.map told=some (XU,[]):=by kernel_rfl
def ayP:tree (ab JT)=XU:=aU agq
def AW:Option PC:=cF [4,5] [] Tryz.f20 20 []
def PR:Nat->PC:=bm AW
def atm:PC:=.block 0 [4,5,11,12,13,14] [] (.loop [4,5] [] (b 0))
def NI (b:Nat->PC):PT:=
 (.ite (aj r5 (.llen r0))
 (.chk (aq r0 r5)
 (.chk (aq r1 r5)
 (.ite (aJ (pn r0 r5) (pn r1 r5))
 (.ret pF)
 (.next ⟨[(5,zt)],[]⟩))))
 (.exit 0 ⟨[(11,r5),(12,r0),(13,(.llen r0)),(14,(aj r5 (.llen r0)))],[]⟩))
def Yi:PT:=
 (.ite (aJ (.llen r0) (.llen r1))
 (.ret pF)
 (.brk ⟨[(5,(pi 0)),(4,pF)],[]⟩
(atm b)
 (.ret pT)))
def aoo:PT×List (Shp×PT):=(Yi b,[(.lp 0 [4,5,11,12,13,14] [] [4,5] [],NI b)])
def T6:AW.map told=some (aoo (bp AW)):=by kernel_rfl
def azg:tree (ab AW)=Yi PR:=bF T6
def aiz:round 0 [4,5,11,12,13,14] [] [4,5] [] (PR 0)=NI PR:=bk T6 0 λ_=>rfl
def Es:Option PC:=cF [6] [] Tryz.f7 7 [3,4,5]
def Xy:PT:=
 (.call ⟨[(11,(bI (.llen (pc (.mk [r2]) 1)) (pi 20)))],[(4,(.mk [r1])),(3,(.mk [r0]))]⟩ [(11,true)] 14 22 [jX,(aB 19 (.mk [r1]))]
 (.call ⟨[(16,(.pick bQ cm pF))],[]⟩ [(16,true)] 18 23 [(aB 8 o3)]
 (.call ⟨[(21,(.pick cv (peq cO (pi 0)) pF))],[]⟩ [(21,true)] 24 24 [(aB 8 o3),(aB 19 o4)]
 (.ret (.pick iK (peq oN (pi 0)) pF)))))
def af8:Es.map told=some (Xy,[]):=by kernel_rfl
def ayr:tree (ab Es)=Xy:=aU af8
def AY:Option PC:=cF [4,5] [] Tryz.f22 22 [2,3]
def PV:Nat->PC:=bm AY
def atp:PC:=.block 0 [4,5,14,15,16,17,18] [] (.loop [4,5] [] (b 0))
def Hy (b:Nat->PC):PT:=
 (.ite (aj r5 (.llen (pc o2 4)))
 (.blockS ⟨[],[]⟩ 1 [4,21,22,23,24,25,26,27] []
 (.chk (aq (pc o2 4) r5)
 (.call ⟨[],[]⟩ [] 26 45 [(pn (pc o2 4) r5)]
 (.ite (.nt mm)
 (.ret pF)
 (.next ⟨[],[]⟩))))
 (.next ⟨[(5,zt)],[]⟩))
 (.exit 0 ⟨[(14,r5),(15,pN),(16,(pc o2 4)),(17,(.llen (pc o2 4))),(18,(aj r5 (.llen (pc o2 4))))],[]⟩))
def Yk:PT:=
 (.call ⟨[(4,pF)],[(3,(.mk [r1])),(2,(.mk [r0]))]⟩ [] 7 43 [jX]
 (.call ⟨[(9,(.nt r7))],[]⟩ [(9,false)] 11 44 [(aB 19 o3)]
 (.ite (.pick r9 pT (.nt bQ))
 (.ret pF)
 (.brk ⟨[(5,(pi 0))],[]⟩
(atp b)
 (.ret pT)))))
def aor:PT×List (Shp×PT):=(Yk b,[(.lp 0 [4,5,14,15,16,17,18] [] [4,5] [],Hy b)])
def T9:AY.map told=some (aor (bp AY)):=by kernel_rfl
def azi:tree (ab AY)=Yk PV:=bF T9
def VU:round 0 [4,5,14,15,16,17,18] [] [4,5] [] (PV 0)=Hy PV:=bk T9 0 λ_=>rfl
def AM:Option PC:=cF [2,3,4] [] Tryz.f43 43 [1]
def D3:Nat->PC:=bm AM
def as6:PC:=.block 0 [2,3,5,6,7,8,9,10,13] [] (.loop [2,3] [] (b 0))
def as7:PC:=.block 2 [2,4,44,45,46,47,48,49,52] [] (.loop [2,4] [] (b 1))
def zE (b:Nat->PC):PT:=
 (.ite (.pick (aj r3 mi) (aj r3 (pi 50)) pF)
 (.chk (aq (pc o1 1) r3)
 (.chk (.nt (.an (.an (.nt (aV (.llen (pc (pn (pc o1 1) r3) 4)) (pi 70))) pT) (.nt (aq (pc o1 1) r3))))
 (.chk (.nt (.an (.an (.nt ahZ) pT) (.nt (aq (pc o1 1) r3))))
 (.ite (.pick ahZ pT (aV (.llen (pc (pn (pc o1 1) r3) 3)) (pi 8)))
 (.ret pF)
 (.next ⟨[(3,wF)],[]⟩)))))
 (.exit 0 ⟨[(5,r3),(6,pN),(7,(pc o1 1)),(8,mi),(9,(aj r3 mi)),(10,(aj r3 mi)),(13,(.pick (aj r3 mi) (aj r3 (pi 50)) pF))],[]⟩))
def C3 (b:Nat->PC):PT:=
 (.ite (.pick (aj r4 qm) (aj r4 (pi 50)) pF)
 (.chk (aq (pc o1 4) r4)
 (.chk (.nt (.an (.an (.nt (aV (.llen (pc zp 2)) (pi 40))) pT) (.nt (aq (pc o1 4) r4))))
 (.ite (.pick (aV (.llen (pc zp 2)) (pi 40)) pT (aV (.llen (pc zp 3)) (pi 40)))
 (.ret pF)
 (.next ⟨[(4,(aE r4 (pi 1)))],[]⟩))))
 (.exit 2 ⟨[(44,r4),(45,pN),(46,(pc o1 4)),(47,qm),(48,(aj r4 qm)),(49,(aj r4 qm)),(52,(.pick (aj r4 qm) (aj r4 (pi 50)) pF))],[]⟩))
def X3:PT:=
 (.brk ⟨[(3,(pi 0)),(2,pF)],[(1,(.mk [r0]))]⟩
(as6 b)
 (.brk ⟨[(4,(pi 0))],[]⟩
(as7 b)
 (.ret (.pick (.pick (.pick (.pick (.pick (.pick (.pick (aj wK (pi 50)) (aj mi (pi 50)) pF) (aj tC (pi 50)) pF) (aj oL (pi 210)) pF) (aj qm (pi 50)) pF) (aj CQ (pi 110)) pF) (aj (.llen (pc o1 6)) (pi 110)) pF) (aj zr (pi 50)) pF))))
def aoe:PT×List (Shp×PT):=(X3 b,[(.lp 0 [2,3,5,6,7,8,9,10,13] [] [2,3] [],zE b),(.lp 2 [2,4,44,45,46,47,48,49,52] [] [2,4] [],C3 b)])
def Mu:AM.map told=some (aoe (bp AM)):=by kernel_rfl
def ay1:tree (ab AM)=X3 D3:=bF Mu
def Hi:round 0 [2,3,5,6,7,8,9,10,13] [] [2,3] [] (D3 0)=zE D3:=bk Mu 0 λ_=>rfl
def NG:round 2 [2,4,44,45,46,47,48,49,52] [] [2,4] [] (D3 1)=C3 D3:=bk Mu 1 λ_=>rfl
def J1:Option PC:=cF [2] [] Tryz.f44 44 [1]
def Yg:PT:=
 (.ret (.pick (.pick (.pick (bI (.llen rS) (pi 50)) (bI (.llen (pc (.mk [r0]) 16)) (pi 10)) pF) (bI (.llen (pc (.mk [r0]) 17)) (pi 110)) pF) (bI (.llen (pc (.mk [r0]) 18)) (pi 220)) pF))
def agy:J1.map told=some (Yg,[]):=by kernel_rfl
def aze:tree (ab J1)=Yg:=aU agy
def AX:Option PC:=cF [2,3] [] Tryz.f45 45 [1]
def PU:Nat->PC:=bm AX
def ato:PC:=.block 0 [2,3,14,15,16,17,18] [] (.loop [2,3] [] (b 0))
def Hx (b:Nat->PC):PT:=
 (.ite (aj r3 oL)
 (.blockS ⟨[],[]⟩ 1 [2,21,22,23,24,25,26,27,28] []
 (.chk (aq (pc o1 3) r3)
 (.call ⟨[],[]⟩ [] 27 82 [(.sub (pn (pc o1 3) r3) 1 3)]
 (.ite (.nt eL)
 (.ret pF)
 (.next ⟨[],[]⟩))))
 (.next ⟨[(3,wF)],[]⟩))
 (.exit 0 ⟨[(14,r3),(15,pN),(16,(pc o1 3)),(17,oL),(18,(aj r3 oL))],[]⟩))
def Yj:PT:=
 (.ite (.pick (aV (.llen (pc (.mk [r0]) 3)) (pi 60)) pT (aV rW (pi 60)))
 (.ret pF)
 (.brk ⟨[(3,(pi 0)),(2,pF)],[(1,(.mk [r0]))]⟩
(ato b)
 (.ret pT)))
def aoq:PT×List (Shp×PT):=(Yj b,[(.lp 0 [2,3,14,15,16,17,18] [] [2,3] [],Hx b)])
def T8:AX.map told=some (aoq (bp AX)):=by kernel_rfl
def azh:tree (ab AX)=Yj PU:=bF T8
def VT:round 0 [2,3,14,15,16,17,18] [] [2,3] [] (PU 0)=Hx PU:=bk T8 0 λ_=>rfl
def J2:Option PC:=cF [2] [] Tryz.f82 82 [1]
def Yh:PT:=
 (.call ⟨[],[]⟩ [] 4 127 [(.mk [jY,mh,zy]),(pi 100),(pi 20)]
 (.ret (bh r4 (pi 0))))
def agz:J2.map told=some (Yh,[]):=by kernel_rfl
def azf:tree (ab J2)=Yh:=aU agz
def xX:Option PC:=cF [6,1,7] [] Tryz.f127 127 [3]
def PS:Nat->PC:=bm xX
def atn:PC:=.block 0 [1,7,12,13,14,15,16,17,20] [] (.loop [1,7] [] (b 0))
def Hw (b:Nat->PC):PT:=
 (.ite (.pick (aj r7 nk) (bh r1 (pi 0)) pF)
 (.blockS ⟨[],[]⟩ 1 [1,23,24,25,26,27,28,29,30,31] []
 (.chk (aq (pc o3 2) r7)
 (.call ⟨[],[]⟩ [] 31 127 [(pn (pc o3 2) r7),r1,(bo r2 (pi 1))]
 (.next ⟨[(1,rX)],[]⟩)))
 (.next ⟨[(7,(aE r7 (pi 1)))],[]⟩))
 (.exit 0 ⟨[(12,r7),(13,pN),(14,(pc o3 2)),(15,nk),(16,(aj r7 nk)),(17,(aj r7 nk)),(20,(.pick (aj r7 nk) (bh r1 (pi 0)) pF))],[]⟩))
def OA:PT:=
 (.ite (aj r2 (pi 1))
 (.ret (pi (-1)))
 (.brk ⟨[(7,(pi 0)),(1,(bo r1 (pi 1)))],[(3,(.mk [r0]))]⟩
(atn b)
 (.ret r1)))
def aop:PT×List (Shp×PT):=(OA b,[(.lp 0 [1,7,12,13,14,15,16,17,20] [] [1,7] [],Hw b)])
def T7:xX.map told=some (aop (bp xX)):=by kernel_rfl
def ajx:tree (ab xX)=OA PS:=bF T7
def VS:round 0 [1,7,12,13,14,15,16,17,20] [] [1,7] [] (PS 0)=Hw PS:=bk T7 0 λ_=>rfl
def JX:Option PC:=cF [2,3] [] Tryz.f23 23 [1]
def X2:PT:=
 (.call ⟨[],[(1,(.mk [r0]))]⟩ [] 5 46 [jX]
 (.iteS ⟨[(3,r5)],[]⟩ (peq r5 (pi 0)) [3] []
 (.call ⟨[],[]⟩ [] 9 47 [(aB 8 o1)]
 (.next ⟨[(3,r9)],[]⟩))
 (.next ⟨[],[]⟩)
 (.iteS ⟨[],[]⟩ (peq r3 (pi 0)) [3] []
 (.call ⟨[],[]⟩ [] 13 48 [(aB 8 o1)]
 (.next ⟨[(3,dN)],[]⟩))
 (.next ⟨[],[]⟩)
 (.iteS ⟨[],[]⟩ (peq r3 (pi 0)) [3] []
 (.call ⟨[],[]⟩ [] 17 49 [(aB 8 o1)]
 (.next ⟨[(3,dz)],[]⟩))
 (.next ⟨[],[]⟩)
 (.iteS ⟨[],[]⟩ (peq r3 (pi 0)) [3] []
 (.call ⟨[],[]⟩ [] 21 50 [(aB 8 o1)]
 (.next ⟨[(3,iK)],[]⟩))
 (.next ⟨[],[]⟩)
 (.ret r3))))))
def agu:JX.map told=some (X2,[]):=by kernel_rfl
def ay0:tree (ab JX)=X2:=aU agu
def AR:Option PC:=cF [2,3,4,6,7] [] Tryz.f46 46 [1,5,44]
def D5:Nat->PC:=bm AR
def atd:PC:=.block 0 [2,3,12,13,14,15,16] [] (.loop [2,3] [] (b 0))
def ate:PC:=.block 2 [2,5,6,30,31,32,33,34] [5] (.loop [2,5,6] [5] (b 1))
def Ho (b:Nat->PC):PT:=
 (.ite (aj r3 wK)
 (.blockS ⟨[],[]⟩ 1 [2,4,19,20,21,22,23,24] []
 (.call ⟨[],[]⟩ [] 22 83 [(pc o1 0),r3]
 (.ite (aJ oM (pi 0))
 (.ret oM)
 (.next ⟨[],[]⟩)))
 (.next ⟨[(3,wF)],[]⟩))
 (.exit 0 ⟨[(12,r3),(13,pN),(14,(pc o1 0)),(15,wK),(16,(aj r3 wK))],[]⟩))
def Hp (b:Nat->PC):PT:=
 (.ite (aj r6 mi)
 (.blockS ⟨[],[]⟩ 3 [2,5,7,38,39,40,41,42,43,44,45,46,47,48,49,50,52,53,54,55,56,57,58,59] [44,5]
 (.chk (aq (pc o1 1) r6)
 (.chk (bI (.llen U1) cQ)
 (.call ⟨[(5,pN)],[(5,U1)]⟩ [] 48 83 [U1,r6]
 (.ite (aJ jZ (pi 0))
 (.ret jZ)
 (.chk (aq (pc o1 1) r6)
 (.call ⟨[],[]⟩ [] 58 84 [(aB 8 o1),(pn (pc o1 1) r6)]
 (.ite (.nt G2)
 (.ret (pi 1))
 (.next ⟨[],[]⟩))))))))
 (.next ⟨[(6,(aE r6 (pi 1)))],[]⟩))
 (.exit 2 ⟨[(30,r6),(31,pN),(32,(pc o1 1)),(33,mi),(34,(aj r6 mi))],[]⟩))
def Ya:PT:=
 (.ite (aV (.llen jY) (pi 8))
 (.ret (pi 6))
 (.brk ⟨[(3,(pi 0)),(2,(pi 0))],[(1,(.mk [r0]))]⟩
(atd b)
 (.ite (aV mi (pi 40))
 (.ret (pi 6))
 (.brk ⟨[(6,(pi 0)),(5,pN)],[(5,pL)]⟩
(ate b)
 (.ret (pi 0))))))
def aoj:PT×List (Shp×PT):=(Ya b,[(.lp 0 [2,3,12,13,14,15,16] [] [2,3] [],Ho b),(.lp 2 [2,5,6,30,31,32,33,34] [5] [2,5,6] [5],Hp b)])
def Mw:AR.map told=some (aoj (bp AR)):=by kernel_rfl
def ay8:tree (ab AR)=Ya D5:=bF Mw
def VK:round 0 [2,3,12,13,14,15,16] [] [2,3] [] (D5 0)=Ho D5:=bk Mw 0 λ_=>rfl
def VL:round 2 [2,5,6,30,31,32,33,34] [5] [2,5,6] [5] (D5 1)=Hp D5:=bk Mw 1 λ_=>rfl
def J0:Option PC:=cF [4] [] Tryz.f83 83 []
def Yc:PT:=
 (.chk (aq r0 r1)
 (.call ⟨[],[]⟩ [] 9 128 [(pn r0 r1)]
 (.ite (.nt r9)
 (.ret (pi 2))
 (.chk (aq r0 r1)
 (.call ⟨[],[]⟩ [] 17 129 [r0,r1,(pn r0 r1)]
 (.ite dz
 (.ret (pi 5))
 (.ret (pi 0))))))))
def agx:J0.map told=some (Yc,[]):=by kernel_rfl
def aza:tree (ab J0)=Yc:=aU agx
def AN:Option PC:=cF [2,3,4] [] Tryz.f128 128 []
def PM:Nat->PC:=bm AN
def as8:PC:=.block 0 [2,3,13,14,15,16] [] (.loop [2,3] [] (b 0))
def Hj (b:Nat->PC):PT:=
 (.ite (aj r3 (.slen r0))
 (.blockS ⟨[],[]⟩ 1 [2,4,19,20,21,22,23,34,35,36,37,38,39,40,47] []
 (.chk (.sok r0 r3)
 (.chk (.nt (.an (.an (.nt U0) pT) (.nt (.sok r0 r3))))
 (.chk (.nt (.an (.an (bI (.con (.v (.int .u8 48))) (.sidx r0 r3)) (.an (.nt U0) pT)) (.nt (.sok r0 r3))))
 (.call ⟨[(4,(.pick U0 pT (.pick (bI (.con (.v (.int .u8 48))) (.sidx r0 r3)) (bI (.sidx r0 r3) (.con (.v (.int .u8 57)))) pF)))],[]⟩ [] 38 167 [(.sidx r0 r3)]
 (.ite (.pick (.nt jE) (.pick (peq r3 (pi 0)) pT (.nt r4)) pF)
 (.ret pF)
 (.next ⟨[],[]⟩))))))
 (.next ⟨[(3,wF)],[]⟩))
 (.exit 0 ⟨[(13,r3),(14,r0),(15,(.slen r0)),(16,(aj r3 (.slen r0)))],[]⟩))
def X5:PT:=
 (.ite (.pick (aj (.slen r0) (pi 1)) pT (aV (.slen r0) (pi 20)))
 (.ret pF)
 (.brk ⟨[(3,(pi 0)),(2,pF)],[]⟩
(as8 b)
 (.ret pT)))
def aof:PT×List (Shp×PT):=(X5 b,[(.lp 0 [2,3,13,14,15,16] [] [2,3] [],Hj b)])
def T2:AN.map told=some (aof (bp AN)):=by kernel_rfl
def ay3:tree (ab AN)=X5 PM:=bF T2
def VF:round 0 [2,3,13,14,15,16] [] [2,3] [] (PM 0)=Hj PM:=bk T2 0 λ_=>rfl
def JY:Option PC:=cF [2] [] Tryz.f167 167 []
def X4:PT:=
 (.ret (.pick (.pick (bI (.con (.v (.int .u8 97))) r0) (bI r0 (.con (.v (.int .u8 122)))) pF) pT (.pick (bI (.con (.v (.int .u8 65))) r0) (bI r0 (.con (.v (.int .u8 90)))) pF)))
def agv:JY.map told=some (X4,[]):=by kernel_rfl
def ay2:tree (ab JY)=X4:=aU agv
def AL:Option PC:=cF [6,7] [] Tryz.f129 129 []
def PL:Nat->PC:=bm AL
def as5:PC:=.block 0 [6,7,8,9,10,11,16] [] (.loop [6,7] [] (b 0))
def Hh (b:Nat->PC):PT:=
 (.ite (.pick (aj r7 r1) (aj r7 (.llen r0)) pF)
 (.chk (aq r0 r7)
 (.ite (.cs .eql (pn r0 r7) r2)
 (.ret pT)
 (.next ⟨[(7,(aE r7 (pi 1)))],[]⟩)))
 (.exit 0 ⟨[(8,r7),(9,r1),(10,(aj r7 r1)),(11,(aj r7 r1)),(16,(.pick (aj r7 r1) (aj r7 (.llen r0)) pF))],[]⟩))
def X1:PT:=
 (.brk ⟨[(7,(pi 0)),(6,pF)],[]⟩
(as5 b)
 (.ret pF))
def aod:PT×List (Shp×PT):=(X1 b,[(.lp 0 [6,7,8,9,10,11,16] [] [6,7] [],Hh b)])
def TZ:AL.map told=some (aod (bp AL)):=by kernel_rfl
def ayZ:tree (ab AL)=X1 PL:=bF TZ
def VE:round 0 [6,7,8,9,10,11,16] [] [6,7] [] (PL 0)=Hh PL:=bk TZ 0 λ_=>rfl
def AO:Option PC:=cF [4,5] [] Tryz.f84 84 [2,3]
def PN:Nat->PC:=bm AO
def as9:PC:=.block 0 [4,5,36,37,38,39,40] [] (.loop [4,5] [] (b 0))
def Hk (b:Nat->PC):PT:=
 (.ite (aj r5 (.llen (pc o3 4)))
 (.blockS ⟨[],[]⟩ 1 [4,43,44,45,46,47,48,49,50,51,60] []
 (.chk (aq (pc o3 4) r5)
 (.chk CN
 (.call ⟨[],[]⟩ [] 49 85 [(.ai .quo .i64 (pn (pc o3 4) r5) (pi 100)),(pi 1),(pi 12)]
 (.chk (.nt (.an (.an (.nt (.nt oO)) pT) (.nt (aq (pc o3 4) r5))))
 (.chk (.nt (.an (.an (.nt (.nt oO)) pT) (.nt CN)))
 (.call ⟨[(51,(.nt oO))],[]⟩ [(51,false)] 58 85 [(.ai .rem .i64 (pn (pc o3 4) r5) (pi 100)),(pi 1),(pi 31)]
 (.ite (.pick np pT (.nt G2))
 (.ret pF)
 (.next ⟨[],[]⟩))))))))
 (.next ⟨[(5,zt)],[]⟩))
 (.exit 0 ⟨[(36,r5),(37,pN),(38,(pc o3 4)),(39,(.llen (pc o3 4))),(40,(aj r5 (.llen (pc o3 4))))],[]⟩))
def X6:PT:=
 (.call ⟨[(4,pF)],[(3,(.mk [r1])),(2,(.mk [r0]))]⟩ [] 12 85 [(pc (.mk [r1]) 1),(pi 0),(bo GN (pi 1))]
 (.call ⟨[(14,(.nt cj))],[]⟩ [(14,false)] 21 85 [(pc o3 2),(pi 0),(bo (.llen (pc o2 0)) (pi 1))]
 (.ite (.pick (.pick (.pick cm pT (.nt iK)) pT (aV (.llen (pc o3 4)) (pi 60))) pT (aV (.llen (pc o3 5)) (pi 200)))
 (.ret pF)
 (.brk ⟨[(5,(pi 0))],[]⟩
(as9 b)
 (.call ⟨[],[]⟩ [] 63 130 [(pc o3 3),(pi 0),(pi 6)]
 (.call ⟨[(64,Nq)],[]⟩ [(64,true)] 67 130 [(pc o3 4),(pi 0),(pi 2000)]
 (.call ⟨[(69,(.pick nq wN pF))],[]⟩ [(69,true)] 72 130 [(pc o3 5),(pi 0),(pi 100000)]
 (.ret (.pick zA G5 pF)))))))))
def aog:PT×List (Shp×PT):=(X6 b,[(.lp 0 [4,5,36,37,38,39,40] [] [4,5] [],Hk b)])
def T3:AO.map told=some (aog (bp AO)):=by kernel_rfl
def ay4:tree (ab AO)=X6 PN:=bF T3
def VG:round 0 [4,5,36,37,38,39,40] [] [4,5] [] (PN 0)=Hk PN:=bk T3 0 λ_=>rfl
def JZ:Option PC:=cF [6] [] Tryz.f85 85 []
def X9:PT:=
 (.ret (.pick (bI r1 r0) (bI r0 r2) pF))
def agw:JZ.map told=some (X9,[]):=by kernel_rfl
def ay7:tree (ab JZ)=X9:=aU agw
def AQ:Option PC:=cF [6,7] [] Tryz.f130 130 []
def PO:Nat->PC:=bm AQ
def atc:PC:=.block 0 [6,7,8,9,10,11] [] (.loop [6,7] [] (b 0))
def Hn (b:Nat->PC):PT:=
 (.ite (aj r7 (.llen r0))
 (.blockS ⟨[],[]⟩ 1 [6,14,15,16,17,18,19,20,21,22,23,24,35] []
 (.chk (aq r0 r7)
 (.call ⟨[],[]⟩ [] 20 85 [(pn r0 r7),r1,r2]
 (.ite (.nt fc)
 (.ret pF)
 (.chk (.nt (.an (.an (aV r7 (pi 0)) pT) (.nt (aq r0 (bo r7 (pi 1))))))
 (.chk (.nt (.an (.an (aV r7 (pi 0)) pT) (.nt (aq r0 r7))))
 (.ite (.pick (aV r7 (pi 0)) (bh (pn r0 (bo r7 (pi 1))) (pn r0 r7)) pF)
 (.ret pF)
 (.next ⟨[],[]⟩)))))))
 (.next ⟨[(7,(aE r7 (pi 1)))],[]⟩))
 (.exit 0 ⟨[(8,r7),(9,r0),(10,(.llen r0)),(11,(aj r7 (.llen r0)))],[]⟩))
def X8:PT:=
 (.brk ⟨[(7,(pi 0)),(6,pF)],[]⟩
(atc b)
 (.ret pT))
def aoi:PT×List (Shp×PT):=(X8 b,[(.lp 0 [6,7,8,9,10,11] [] [6,7] [],Hn b)])
def T4:AQ.map told=some (aoi (bp AQ)):=by kernel_rfl
def ay6:tree (ab AQ)=X8 PO:=bF T4
def VJ:round 0 [6,7,8,9,10,11] [] [6,7] [] (PO 0)=Hn PO:=bk T4 0 λ_=>rfl
def AS:Option PC:=cF [2,3,5,6] [] Tryz.f47 47 [1,4,44]
def D6:Nat->PC:=bm AS
def atf:PC:=.block 0 [2,3,11,12,13,14,15] [] (.loop [2,3] [] (b 0))
def atg:PC:=.block 2 [2,4,5,30,31,32,33,34] [4] (.loop [2,4,5] [4] (b 1))
def Hq (b:Nat->PC):PT:=
 (.ite (aj r3 tC)
 (.blockS ⟨[],[]⟩ 1 [2,18,19,20,21,22,23,24,25] []
 (.chk (aq (pc o1 2) r3)
 (.call ⟨[],[]⟩ [] 24 85 [(pc (pn (pc o1 2) r3) 0),(pi 0),(pi 9)]
 (.ite (.nt oN)
 (.ret (pi 1))
 (.next ⟨[],[]⟩))))
 (.next ⟨[(3,wF)],[]⟩))
 (.exit 0 ⟨[(11,r3),(12,pN),(13,(pc o1 2)),(14,tC),(15,(aj r3 tC))],[]⟩))
def Hr (b:Nat->PC):PT:=
 (.ite (aj r5 oL)
 (.blockS ⟨[],[]⟩ 3 [2,4,6,38,39,40,41,42,43,44,45,46,47,48,49,50,52,53,54,55,56,57,58,59,60,61,62,63,64,77] [44,4]
 (.chk (aq (pc o1 3) r5)
 (.chk (bI (.llen U2) cQ)
 (.call ⟨[(4,pN)],[(4,U2)]⟩ [] 48 83 [U2,r5]
 (.ite (aJ jZ (pi 0))
 (.ret jZ)
 (.chk (aq (pc o1 3) r5)
 (.call ⟨[],[]⟩ [] 62 85 [(pc (pn (pc o1 3) r5) 1),(pi 0),(bo mi (pi 1))]
 (.chk (.nt (.an (.an (.nt (.nt oP)) pT) (.nt (aq (pc o1 3) r5))))
 (.call ⟨[(64,(.nt oP))],[]⟩ [(64,false)] 75 85 [(pc (pn (pc o1 3) r5) 2),(pi 0),(bo tC (pi 1))]
 (.ite (.pick nq pT (.nt Vo))
 (.ret (pi 1))
 (.next ⟨[],[]⟩))))))))))
 (.next ⟨[(5,zt)],[]⟩))
 (.exit 2 ⟨[(30,r5),(31,pN),(32,(pc o1 3)),(33,oL),(34,(aj r5 oL))],[]⟩))
def Yb:PT:=
 (.ite (aV rW (pi 20))
 (.ret (pi 6))
 (.brk ⟨[(3,(pi 0)),(2,(pi 0))],[(1,(.mk [r0]))]⟩
(atf b)
 (.ite (aV oL (pi 200))
 (.ret (pi 6))
 (.brk ⟨[(5,(pi 0)),(4,pN)],[(4,pL)]⟩
(atg b)
 (.ret (pi 0))))))
def aok:PT×List (Shp×PT):=(Yb b,[(.lp 0 [2,3,11,12,13,14,15] [] [2,3] [],Hq b),(.lp 2 [2,4,5,30,31,32,33,34] [4] [2,4,5] [4],Hr b)])
def Mx:AS.map told=some (aok (bp AS)):=by kernel_rfl
def ay9:tree (ab AS)=Yb D6:=bF Mx
def VM:round 0 [2,3,11,12,13,14,15] [] [2,3] [] (D6 0)=Hq D6:=bk Mx 0 λ_=>rfl
def VN:round 2 [2,4,5,30,31,32,33,34] [4] [2,4,5] [4] (D6 1)=Hr D6:=bk Mx 1 λ_=>rfl
def AT:Option PC:=cF [2,4,5] [] Tryz.f48 48 [1,3,24]
def PQ:Nat->PC:=bm AT
def ath:PC:=.block 0 [2,3,4,10,11,12,13,14] [3] (.loop [2,3,4] [3] (b 0))
def Hs (b:Nat->PC):PT:=
 (.ite (aj r4 qm)
 (.blockS ⟨[],[]⟩ 1 [2,3,5,18,19,20,21,22,23,24,25,26,27,28,29,30,32,33,34,35,36,37,38] [24,3]
 (.chk (aq (pc o1 4) r4)
 (.chk (bI (.llen (.app o3 (.lst [(pc zp 0)]))) cQ)
 (.call ⟨[(3,pN)],[(3,(.app o3 (.lst [(pc zp 0)])))]⟩ [] 28 83 [(.app o3 (.lst [(pc zp 0)])),r4]
 (.ite (aJ tD (pi 0))
 (.ret tD)
 (.chk (aq (pc o1 4) r4)
 (.call ⟨[],[]⟩ [] 37 86 [zp]
 (.ite (.nt mq)
 (.ret (pi 1))
 (.next ⟨[],[]⟩))))))))
 (.next ⟨[(4,(aE r4 (pi 1)))],[]⟩))
 (.exit 0 ⟨[(10,r4),(11,pN),(12,(pc o1 4)),(13,qm),(14,(aj r4 qm))],[]⟩))
def Yd:PT:=
 (.ite (aV GN (pi 20))
 (.ret (pi 6))
 (.brk ⟨[(4,(pi 0)),(3,pN),(2,(pi 0))],[(3,pL),(1,(.mk [r0]))]⟩
(ath b)
 (.ret (pi 0))))
def aol:PT×List (Shp×PT):=(Yd b,[(.lp 0 [2,3,4,10,11,12,13,14] [3] [2,3,4] [3],Hs b)])
def T5:AT.map told=some (aol (bp AT)):=by kernel_rfl
def azb:tree (ab AT)=Yd PQ:=bF T5
def VO:round 0 [2,3,4,10,11,12,13,14] [3] [2,3,4] [3] (PQ 0)=Hs PQ:=bk T5 0 λ_=>rfl
def AP:Option PC:=cF [2,3,4] [] Tryz.f86 86 [1]
def D4:Nat->PC:=bm AP
def ata:PC:=.block 0 [2,3,5,6,7,8,9] [] (.loop [2,3] [] (b 0))
def atb:PC:=.block 2 [2,4,48,49,50,51,52] [] (.loop [2,4] [] (b 1))
def Hl (b:Nat->PC):PT:=
 (.ite (aj r3 tC)
 (.blockS ⟨[],[]⟩ 1 [2,12,13,14,15,16,17,18,19,20,29,30,31,32,47] []
 (.chk (aq (pc o1 2) r3)
 (.call ⟨[],[]⟩ [] 18 85 [(pc (pn (pc o1 2) r3) 0),(pi 0),(pi 21)]
 (.chk (.nt (.an (.an (.nt (.nt cO)) pT) (.nt (aq (pc o1 2) r3))))
 (.call ⟨[(20,(.nt cO))],[]⟩ [(20,false)] 27 85 [(pc (pn (pc o1 2) r3) 1),(pi 0),(pi 4)]
 (.ite (.pick fc pT (.nt eL))
 (.ret pF)
 (.chk (.nt (.an (.an (aV r3 (pi 0)) pT) (.nt (aq (pc o1 2) (bo r3 (pi 1))))))
 (.chk (.nt (.an (.an (aV r3 (pi 0)) pT) (.nt (aq (pc o1 2) r3))))
 (.ite (.pick (aV r3 (pi 0)) (bh (pc (pn (pc o1 2) (bo r3 (pi 1))) 0) (pc (pn (pc o1 2) r3) 0)) pF)
 (.ret pF)
 (.next ⟨[],[]⟩)))))))))
 (.next ⟨[(3,wF)],[]⟩))
 (.exit 0 ⟨[(5,r3),(6,pN),(7,(pc o1 2)),(8,tC),(9,(aj r3 tC))],[]⟩))
def Hm (b:Nat->PC):PT:=
 (.ite (aj r4 oL)
 (.blockS ⟨[],[]⟩ 3 [2,55,56,57,58,59,60,61,62,63,64,65,80] []
 (.chk (aq (pc o1 3) r4)
 (.call ⟨[],[]⟩ [] 61 85 [(pc (pn (pc o1 3) r4) 0),(pi 0),(pi 21)]
 (.ite (.nt G4)
 (.ret pF)
 (.chk (.nt (.an (.an (aV r4 (pi 0)) pT) (.nt (aq (pc o1 3) (bo r4 (pi 1))))))
 (.chk (.nt (.an (.an (aV r4 (pi 0)) pT) (.nt (aq (pc o1 3) r4))))
 (.ite (.pick (aV r4 (pi 0)) (bh (pc (pn (pc o1 3) (bo r4 (pi 1))) 0) (pc (pn (pc o1 3) r4) 0)) pF)
 (.ret pF)
 (.next ⟨[],[]⟩)))))))
 (.next ⟨[(4,(aE r4 (pi 1)))],[]⟩))
 (.exit 2 ⟨[(48,r4),(49,pN),(50,(pc o1 3)),(51,oL),(52,(aj r4 oL))],[]⟩))
def X7:PT:=
 (.brk ⟨[(3,(pi 0)),(2,pF)],[(1,(.mk [r0]))]⟩
(ata b)
 (.brk ⟨[(4,(pi 0))],[]⟩
(atb b)
 (.ret pT)))
def aoh:PT×List (Shp×PT):=(X7 b,[(.lp 0 [2,3,5,6,7,8,9] [] [2,3] [],Hl b),(.lp 2 [2,4,48,49,50,51,52] [] [2,4] [],Hm b)])
def Mv:AP.map told=some (aoh (bp AP)):=by kernel_rfl
def ay5:tree (ab AP)=X7 D4:=bF Mv
def VH:round 0 [2,3,5,6,7,8,9] [] [2,3] [] (D4 0)=Hl D4:=bk Mv 0 λ_=>rfl
def VI:round 2 [2,4,48,49,50,51,52] [] [2,4] [] (D4 1)=Hm D4:=bk Mv 1 λ_=>rfl
def AV:Option PC:=cF [2,3,5] [] Tryz.f49 49 [1,4]
def D8:Nat->PC:=bm AV
def atk:PC:=.block 2 [2,5,46,47,48] [] (.loop [2,5] [] (b 0))
def atl:PC:=.block 0 [2,3,10,11,12,13,14] [] (.loop [2,3] [] (b 1))
def C4 (b:Nat->PC):PT:=
 (.ite (aj r5 r3)
 (.chk (aq (pc o1 5) r5)
 (.chk (.nt (.an (.an (peq (pc (pn (pc o1 5) r5) 0) (pc o4 0)) pT) (.nt (aq (pc o1 5) r5))))
 (.ite (.pick (peq (pc (pn (pc o1 5) r5) 0) (pc o4 0)) (peq (pc (pn (pc o1 5) r5) 1) (pc o4 1)) pF)
 (.ret (pi 5))
 (.next ⟨[(5,zt)],[]⟩))))
 (.exit 2 ⟨[(46,r5),(47,r3),(48,(aj r5 r3))],[]⟩))
def Hv:PT:=
 (.ite (aj r3 CQ)
 (.blockS ⟨[(14,(aj r3 CQ)),(13,CQ),(12,(pc o1 5)),(11,pN),(10,r3)],[]⟩ 1 [2,4,5,17,18,19,20,21,22,23,24,25,26,27,28,29,30,39,40,45,46,47,48] [4]
 (.chk (aq (pc o1 5) r3)
 (.call ⟨[],[(4,(.setc z3 0 (pn (pc o1 5) r3)))]⟩ [] 28 85 [(pc (.setc z3 0 (pn (pc o1 5) r3)) 0),(pi 0),(bo mi (pi 1))]
 (.call ⟨[(30,(.nt tD))],[]⟩ [(30,false)] 37 85 [(pc o4 1),(pi 0),(bo mi (pi 1))]
 (.call ⟨[(40,(.pick qo pT (.nt mq)))],[]⟩ [(40,false)] 43 85 [(pc o4 2),(pi 1),(pi 20000)]
 (.ite (.pick qs pT (.nt vb))
 (.ret (pi 1))
 (.brk ⟨[(5,(pi 0))],[]⟩
(atk b)
 (.next ⟨[],[]⟩)))))))
 (.next ⟨[(3,wF)],[]⟩))
 (.exit 0 ⟨[(10,r3),(11,pN),(12,(pc o1 5)),(13,CQ),(14,(aj r3 CQ))],[]⟩))
def Yf:PT:=
 (.ite (aV (.llen wJ) (pi 100))
 (.ret (pi 6))
 (.brk ⟨[(3,(pi 0)),(2,(pi 0))],[(1,(.mk [r0]))]⟩
(atl b)
 (.ret (pi 0))))
def aon:PT×List (Shp×PT):=(Yf b,[(.lp 2 [2,5,46,47,48] [] [2,5] [],C4 b),(.lp 0 [2,3,10,11,12,13,14] [] [2,3] [],Hv b)])
def Mz:AV.map told=some (aon (bp AV)):=by kernel_rfl
def azd:tree (ab AV)=Yf D8:=bF Mz
def NH:round 2 [2,5,46,47,48] [] [2,5] [] (D8 0)=C4 D8:=bk Mz 0 λ_=>rfl
def VR:round 0 [2,3,10,11,12,13,14] [] [2,3] [] (D8 1)=Hv D8:=bk Mz 1 λ_=>rfl
def AU:Option PC:=cF [2,3,5] [] Tryz.f50 50 [1,4,6]
def D7:Nat->PC:=bm AU
def ati:PC:=.block 0 [2,3,11,12,13,14,15] [] (.loop [2,3] [] (b 0))
def atj:PC:=.block 2 [2,5,68,69,70,71,72] [] (.loop [2,5] [] (b 1))
def Ht (b:Nat->PC):PT:=
 (.ite (aj r3 (.llen (pc o1 6)))
 (.blockS ⟨[],[]⟩ 1 [2,4,18,19,20,21,22,23,24,25,26,27,28,29,30,31,40,41,47,48,49,50,51,52,57,58,63] [4]
 (.chk (aq (pc o1 6) r3)
 (.call ⟨[],[(4,(.setc z5 0 (pn (pc o1 6) r3)))]⟩ [] 29 85 [(pc (.setc z5 0 (pn (pc o1 6) r3)) 0),(pi 0),(bo wK (pi 1))]
 (.call ⟨[(31,(.nt nl))],[]⟩ [(31,false)] 38 85 [(pc o4 1),(pi 0),(bo wK (pi 1))]
 (.ite (.pick (.pick rX pT (.nt jE)) pT (peq (pc o4 0) (pc o4 1)))
 (.ret (pi 1))
 (.call ⟨[],[]⟩ [] 50 85 [(pc o4 2),(pi 1),(pi 1073741824)]
 (.call ⟨[(52,(.nt nm))],[]⟩ [(52,false)] 55 85 [(pc o4 3),(pi 1),(pi 1073741824)]
 (.call ⟨[(58,(.pick CZ pT (.nt C0)))],[]⟩ [(58,false)] 61 85 [(pc o4 4),(pi 0),(pi 100000)]
 (.ite (.pick G2 pT (.nt G4))
 (.ret (pi 1))
 (.next ⟨[],[]⟩)))))))))
 (.next ⟨[(3,wF)],[]⟩))
 (.exit 0 ⟨[(11,r3),(12,pN),(13,(pc o1 6)),(14,(.llen (pc o1 6))),(15,(aj r3 (.llen (pc o1 6))))],[]⟩))
def Hu (b:Nat->PC):PT:=
 (.ite (aj r5 zr)
 (.blockS ⟨[],[]⟩ 3 [2,6,75,76,77,78,79,80,81,82,83,84,85,86,87,88,95,96,100] [6]
 (.chk (aq (pc o1 7) r5)
 (.call ⟨[],[(6,(.setc z3 0 (pn (pc o1 7) r5)))]⟩ [] 86 85 [(pc (.setc z3 0 (pn (pc o1 7) r5)) 0),(pi 0),(bo qm (pi 1))]
 (.call ⟨[(88,(.nt r86))],[]⟩ [(88,false)] 93 85 [(pc o6 1),(pi 0),(pc o6 2)]
 (.ite (.pick (.pick Nr pT (.nt Ns)) pT (aV (pc o6 2) (pi 100000)))
 (.ret (pi 1))
 (.next ⟨[],[]⟩)))))
 (.next ⟨[(5,zt)],[]⟩))
 (.exit 2 ⟨[(68,r5),(69,pN),(70,(pc o1 7)),(71,zr),(72,(aj r5 zr))],[]⟩))
def Ye:PT:=
 (.ite (aV (.llen (pc (.mk [r0]) 6)) (pi 100))
 (.ret (pi 6))
 (.brk ⟨[(3,(pi 0)),(2,(pi 0))],[(1,(.mk [r0]))]⟩
(ati b)
 (.ite (aV zr (pi 20))
 (.ret (pi 6))
 (.brk ⟨[(5,(pi 0))],[]⟩
(atj b)
 (.ret (pi 0))))))
def aom:PT×List (Shp×PT):=(Ye b,[(.lp 0 [2,3,11,12,13,14,15] [] [2,3] [],Ht b),(.lp 2 [2,5,68,69,70,71,72] [] [2,5] [],Hu b)])
def My:AU.map told=some (aom (bp AU)):=by kernel_rfl
def azc:tree (ab AU)=Ye D7:=bF My
def VP:round 0 [2,3,11,12,13,14,15] [] [2,3] [] (D7 0)=Ht D7:=bk My 0 λ_=>rfl
def VQ:round 2 [2,5,68,69,70,71,72] [] [2,5] [] (D7 1)=Hu D7:=bk My 1 λ_=>rfl
def xW:Option PC:=cF [4,5,6,7,8,11] [] Tryz.f24 24 [2,3,10]
def D2:Nat->PC:=bm xW
def asV:PC:=.block 0 [4,48,49] [] (.loop [4,48] [] (b 0))
def asW:PC:=.block 2 [4,8,62,63] [] (.loop [4,8,62] [] (b 1))
def He (b:Nat->PC):PT:=
 (.ite (aj jZ CY)
 (.blockS ⟨[],[]⟩ 1 [4,6,7,50,51,52,53,54,55,56] []
 (.call ⟨[],[]⟩ [] 54 52 [(aB 8 o2),(aB 19 o3),jZ]
 (.ite (aJ mu (pi 0))
 (.ret mu)
 (.next ⟨[],[]⟩)))
 (.next ⟨[(48,(aE jZ (pi 1)))],[]⟩))
 (.exit 0 ⟨[(49,(aj jZ CY))],[]⟩))
def Hf (b:Nat->PC):PT:=
 (.ite (aj oP G4)
 (.blockS ⟨[],[]⟩ 3 [4,8,10,64,65,66,67,68,69,70,71,72,73,74,75,76,77,78,79,80] [10]
 (.chk (aq G3 oP)
 (.call ⟨[],[(10,(.setc z2 0 (pn G3 oP)))]⟩ [] 73 53 [(pc (.setc z2 0 (pn G3 oP)) 0),va,(.llen (pc o3 15))]
 (.ite (.nt G6)
 (.ret (pi 1))
 (.call ⟨[],[]⟩ [] 77 53 [(pc cg 1),(pi 1),zo]
 (.ite (.nt r77)
 (.ret (pi 3))
 (.next ⟨[(8,(pc cg 0))],[]⟩))))))
 (.next ⟨[(62,(aE oP (pi 1)))],[]⟩))
 (.exit 2 ⟨[(63,(aj oP G4))],[]⟩))
def XJ:PT:=
 (.ite (.pick (.pick (.pick (aV (.llen (pc (.mk [r1]) 15)) (pi 40)) pT (aV (.llen (pc (.mk [r1]) 16)) (pi 4))) pT (aV (.llen (pc (.mk [r1]) 17)) (pi 100))) pT (aV (.llen (pc (.mk [r1]) 18)) (pi 200)))
 (.ret (pi 6))
 (.call ⟨[(4,(pi 0))],[(3,(.mk [r1])),(2,(.mk [r0]))]⟩ [] 37 51 [jX,(aB 15 (.mk [r1]))]
 (.ite (aJ mq (pi 0))
 (.ret mq)
 (.ite (peq (.llen (pc o3 15)) (pi 0))
 (.ret (pi 14))
 (.brk ⟨[(48,(pi 0)),(47,(.llen (pc o3 15)))],[]⟩
(asV b)
 (.brk ⟨[(62,(pi 0)),(61,(.llen (pc o3 16))),(60,(pc o3 16)),(8,(pi 0))],[]⟩
(asW b)
 (.call ⟨[],[]⟩ [] 84 54 [(aB 8 o2),(aB 19 o3)]
 (.ite (aJ r84 (pi 0))
 (.ret r84)
 (.call ⟨[],[]⟩ [] 89 55 [(aB 19 o3)]
 (.ret r89))))))))))
def an4:PT×List (Shp×PT):=(XJ b,[(.lp 0 [4,48,49] [] [4,48] [],He b),(.lp 2 [4,8,62,63] [] [4,8,62] [],Hf b)])
def Mt:xW.map told=some (an4 (bp xW)):=by kernel_rfl
def ayC:tree (ab xW)=XJ D2:=bF Mt
def VB:round 0 [4,48,49] [] [4,48] [] (D2 0)=He D2:=bk Mt 0 λ_=>rfl
def VC:round 2 [4,8,62,63] [] [4,8,62] [] (D2 1)=Hf D2:=bk Mt 1 λ_=>rfl
def Ew:Option PC:=cF [4,5,6,7,8,54,80,109,118,9,10] [] Tryz.f51 51 [2,3]
def Zp:PT:=
 (.call ⟨[],[(3,(.mk [r1])),(2,(.mk [r0]))]⟩ [] 12 72 [jX]
 (.ite (aJ cj (pi 0))
 (.ret cj)
 (.call ⟨[(7,(.llen (pc o2 1))),(6,(.llen (pc o2 3)))],[]⟩ [] 25 87 [(pc o3 0),(.llen (pc o2 3))]
 (.call ⟨[(26,kF)],[]⟩ [(26,true)] 30 87 [(pc o3 1),r6]
 (.call ⟨[(36,(peq (pc o3 2) (pi (-1)))),(32,(.pick mm qo pF))],[]⟩ [(36,false),(32,true)] 40 87 [(pc o3 2),r6]
 (.call ⟨[(47,(peq (pc o3 11) (pi (-1)))),(43,(.pick wL (.pick lb pT qs) pF))],[]⟩ [(47,false),(43,true)] 51 87 [(pc o3 11),r6]
 (.blockS ⟨[(8,(.pick vb (.pick CY pT np) pF))],[]⟩ 0 [4,54,55,56,57,65,66,72,73,79,80,81,82,83,84,88,89,93,94,98,99,103,104,108,109,110,111,112,113,117,118,119,120,121,122,126,127,137,138,142] []
 (.call ⟨[(57,(.nt r8))],[]⟩ [(57,false)] 63 87 [(pc o3 4),(.llen (pc o2 0))]
 (.call ⟨[(66,(.pick Np pT (.nt Nq)))],[]⟩ [(66,false)] 70 87 [(pc o3 9),r7]
 (.call ⟨[(73,(.pick r66 pT (.nt r70)))],[]⟩ [(73,false)] 77 87 [(pc o3 10),r7]
 (.iteS ⟨[],[]⟩ (.pick G6 pT (.nt r77)) [4,80,81,82,83,84,88,89,93,94,98,99,103,104,108,109,110,111,112,113,117,118,119,120,121,122,126,127,137,138,142] []
 (.ret (pi 1))
 (.iteS ⟨[],[]⟩ (.pick (.pick (.pick (.pick (.pick (aj (pc o3 3) (pi 1)) pT (aV (pc o3 3) zo)) pT (aj (pc o3 8) (pi 0))) pT (aV (pc o3 8) (pi 100000))) pT (aj (pc o3 12) (pi 0))) pT (aV (pc o3 12) (pi 1000))) [4,109,110,111,112,113,117,118,119,120,121,122,126,127,137,138,142] []
 (.ret (pi 3))
 (.iteS ⟨[],[]⟩ (.pick (aj (pc o3 14) (pi 1)) pT (aV (pc o3 14) (pi 4))) [4,118,119,120,121,122,126,127,137,138,142] []
 (.ret (pi 15))
 (.call ⟨[(138,(.pick (.pick (aj (pc o3 13) (pi 0)) pT (aV (pc o3 13) (pi 7))) pT (.pick (aJ (.ai .and .i64 (pc o3 13) (pi 4)) (pi 0)) (peq (pc o3 2) (pi (-1))) pF)))],[]⟩ [(138,false)] 140 88 [(aB 15 o3)]
 (.ite (.pick (.r 138) pT (.nt (.r 140)))
 (.ret (pi 2))
 (.next ⟨[],[]⟩)))
 (.next ⟨[],[]⟩))
 (.next ⟨[],[]⟩))
 (.next ⟨[],[]⟩)))))
 (.iteS ⟨[],[]⟩ (peq (pc o3 5) (pi 4)) [4] []
 (.call ⟨[],[]⟩ [] 153 89 [(aB 8 o2),(pc o3 9),(pc o3 10)]
 (.ret (.tget (.r 153) 1)))
 (.next ⟨[],[]⟩)
 (.ret (pi 0))))))))))
def ag9:Ew.map told=some (Zp,[]):=by kernel_rfl
def aAd:tree (ab Ew)=Zp:=aU ag9
def Kz:Option PC:=cF [4] [] Tryz.f87 87 []
def Zq:PT:=
 (.ret U4)
def aha:Kz.map told=some (Zq,[]):=by kernel_rfl
def aAe:tree (ab Kz)=Zq:=aU aha
def KA:Option PC:=cF [2,8,19,40] [] Tryz.f88 88 [1,3]
def Zr:PT:=
 (.ite (.pick (peq (pc lR 0) (pi 0)) (peq (pc lR 0) (pi 0)) (peq (pc lR 0) (pi 4)))
 (.ret (.pick (peq (pc lR 1) (pi 0)) (peq (pc lR 2) (pi 0)) pF))
 (.ite (.pick (peq (pc lR 0) (pi 1)) (peq (pc lR 0) (pi 1)) (peq (pc lR 0) (pi 2)))
 (.ret (.pick (.pick (bh (pc lR 1) (pi 1)) (bI (pc lR 1) (pi 400)) pF) (.pick (peq (pc lR 2) (pi 0)) pT (peq (pc lR 2) (pi 1))) pF))
 (.ite (peq (pc lR 0) (pi 3))
 (.ret (.pick (.pick (bh (pc lR 1) (pc (.mk [r0]) 8)) (bI (pc lR 1) (pi 100000)) pF) (peq (pc lR 2) (pi 0)) pF))
 (.ret pF))))
def ahb:KA.map told=some (Zr,[]):=by kernel_rfl
def aAf:tree (ab KA)=Zr:=aU ahb
def AG:Option PC:=cF [6,8,9,76,92,98] [] Tryz.f52 52 [3,4,7,11]
def PF:Nat->PC:=bm AG
def as0:PC:=.block 0 [8,9,51,52] [] (.loop [8,9,51] [] (b 0))
def NB (b:Nat->PC):PT:=
 (.ite (aj np nm)
 (.chk (aq oO np)
 (.next ⟨[(8,(pc (.setc z9 0 (pn oO np)) 6)),(9,(.pick r9 pT (.pick (.pick (peq (pc o7 0) (pi 1)) (peq (pc (.setc z9 0 (pn oO np)) 0) (pi 1)) pF) (peq (pc (.setc z9 0 (pn oO np)) 1) (pc o7 1)) pF))),(51,(aE np (pi 1)))],[]⟩))
 (.exit 0 ⟨[(52,(aj np nm))],[]⟩))
def XR:PT:=
 (.chk (aq (pc (.mk [r1]) 15) r2)
 (.call ⟨[],[(7,qk),(4,(.mk [r1])),(3,(.mk [r0]))]⟩ [] 23 53 [(pc qk 1),(pi 0),(bo (pc (.mk [r1]) 14) (pi 1))]
 (.ite (.nt gE)
 (.ret (pi 15))
 (.call ⟨[],[]⟩ [] 31 53 [(pc o7 2),(pi 0),MZ]
 (.call ⟨[(33,(.nt rX))],[]⟩ [(33,false)] 40 53 [(pc o7 7),(pi 0),(bo (.llen (pc o3 1)) (pi 1))]
 (.ite (.pick tF pT (.nt qs))
 (.ret (pi 1))
 (.chk (.slok (pc o4 15) (pi 0) r2)
 (.brk ⟨[(51,(pi 0)),(50,(.llen (.slc (pc o4 15) (pi 0) r2))),(49,(.slc (pc o4 15) (pi 0) r2)),(9,pF),(8,(pc o4 8))],[]⟩
(as0 b)
 (.blockS ⟨[],[]⟩ 2 [6,76,77,78,79,80,81,82,91,92,93,94,95,96,97,98,99] []
 (.call ⟨[],[]⟩ [] 80 53 [(pc o7 6),r8,(pi 100000)]
 (.iteS ⟨[],[]⟩ (.pick (.nt zB) pT (.pick (peq r2 (pi 0)) (aJ (pc o7 6) r8) pF)) [6,92,93,94,95,96,97,98,99] []
 (.ret (pi 13))
 (.call ⟨[],[]⟩ [] 96 90 [(aB 8 o3),(aB 19 o4),r2]
 (.ite (.nt r96)
 (.ret (pi 14))
 (.ite r9
 (.ret (pi 5))
 (.next ⟨[],[]⟩))))
 (.next ⟨[],[]⟩)))
 (.ret (pi 0)))))))))))
def an8:PT×List (Shp×PT):=(XR b,[(.lp 0 [8,9,51,52] [] [8,9,51] [],NB b)])
def TU:AG.map told=some (an8 (bp AG)):=by kernel_rfl
def ayK:tree (ab AG)=XR PF:=bF TU
def aiv:round 0 [8,9,51,52] [] [8,9,51] [] (PF 0)=NB PF:=bk TU 0 λ_=>rfl
def JP:Option PC:=cF [6] [] Tryz.f53 53 []
def XQ:PT:=
 (.ret (.pick (bh r0 r1) (bI r0 r2) pF))
def agm:JP.map told=some (XQ,[]):=by kernel_rfl
def ayJ:tree (ab JP)=XQ:=aU agm
def JO:Option PC:=cF [6,9,10,66,103,113,11,140,149] [] Tryz.f90 90 [3,4,7,8]
def XP:PT:=
 (.chk (aq (pc (.mk [r1]) 15) r2)
 (.ite (.pick (.cb .neq (peq r2 (pi 0)) (peq (pc qk 0) (pi 0))) pT (.pick (aJ (pc qk 0) (pi 2)) (aJ (pc qk 4) (pi (-1))) pF))
 (.ret pF)
 (.ite (.pick (.pick (aJ (pc qk 0) (pi 3)) (aJ (pc qk 0) (pi 4)) pF) (aJ (pc qk 3) (pi (-1))) pF)
 (.ret pF)
 (.call ⟨[(9,(.pick (peq (pc qk 5) (pi 0)) (peq (pc qk 8) (pi 0)) pF))],[(8,(.setc ID 0 (aB 15 (.mk [r1])))),(7,qk),(4,(.mk [r1])),(3,(.mk [r0]))]⟩ [] 58 53 [(pc qk 5),(pi 1),zo]
 (.blockS ⟨[(65,(pc o7 0)),(10,(.pick G2 (peq (pc o7 8) (pi 0)) pF))],[]⟩ 0 [6,66,67,103,104,113,114,140,141,149,150] []
 (.iteS ⟨[],[]⟩ (peq C1 (pi 0)) [6,103,104,113,114,140,141,149,150] []
 (.ret (.pick (.pick (.pick (.pick (.pick (peq (pc o7 2) (pc o8 0)) (peq (pc o7 5) (pi 0)) pF) (peq (.ai .or .i64 (pc o7 8) (pi 1)) (pi 1)) pF) (peq (pc o7 1) (pi 0)) pF) (peq (pc o7 6) (pc o8 8)) pF) (peq (pc o7 7) (pc o8 9)) pF))
 (.iteS ⟨[],[]⟩ (peq C1 (pi 1)) [6,113,114,140,141,149,150] []
 (.ret (.pick (peq (pc o7 2) (pc o8 1)) dy pF))
 (.iteS ⟨[],[]⟩ (peq C1 (pi 2)) [6,140,141,149,150] []
 (.call ⟨[(11,(pi 6))],[]⟩ [] 121 53 [(pc o7 4),(pi (-1)),MZ]
 (.call ⟨[(127,(.pick av2 (peq (pc o7 5) (pi 0)) pF))],[]⟩ [(127,true)] 130 53 [(pc o7 8),(pi 0),(pi 7)]
 (.ret (.pick (.pick av3 (.r 130) pF) (aJ (.ai .and .i64 (pc o7 8) bQ) bQ) pF))))
 (.iteS ⟨[],[]⟩ (peq C1 (pi 3)) [6,149,150] []
 (.call ⟨[(143,r9)],[]⟩ [(143,true)] 147 131 [(aB 19 o4),r2,(.lst [(pi 0),(pi 1),(pi 2),(pi 4)])]
 (.ret (.pick (.r 143) (.r 147) pF)))
 (.iteS ⟨[],[]⟩ (peq C1 (pi 4)) [6] []
 (.call ⟨[(159,(.pick dy (aJ (pc o7 2) (pc o8 1)) pF))],[]⟩ [(159,true)] 163 131 [(aB 19 o4),r2,(.lst [(pi 0),(pi 2)])]
 (.ret (.pick (.r 159) (.r 163) pF)))
 (.next ⟨[],[]⟩)
 (.next ⟨[],[]⟩))
 (.next ⟨[],[]⟩))
 (.next ⟨[],[]⟩))
 (.next ⟨[],[]⟩))
 (.next ⟨[],[]⟩))
 (.ret pF))))))
def agl:JO.map told=some (XP,[]):=by kernel_rfl
def ayI:tree (ab JO)=XP:=aU agl
def JN:Option PC:=cF [6,7] [] Tryz.f131 131 [3]
def XN:PT:=
 (.chk (aq rS r1)
 (.call ⟨[(7,(pc (pn rS r1) 3))],[(3,(.mk [r0]))]⟩ [] 17 53 [(pc (pn rS r1) 3),(pi 0),(bo r1 (pi 1))]
 (.chk (.nt (.an (.an dz pT) (.nt (aq (pc o3 15) r1))))
 (.call ⟨[(18,dz)],[]⟩ [(18,true)] 27 132 [(aB 19 o3),r7,(pc (pn (pc o3 15) r1) 1)]
 (.chk (.nt (.an (.an (.pick cO eL pF) pT) (.nt (aq (pc o3 15) r7))))
 (.call ⟨[(29,(.pick cO eL pF))],[]⟩ [(29,true)] 37 168 [r2,(pc (pn (pc o3 15) r7) 0)]
 (.ret (.pick nl mq pF))))))))
def agk:JN.map told=some (XN,[]):=by kernel_rfl
def ayG:tree (ab JN)=XN:=aU agk
def JQ:Option PC:=cF [6] [] Tryz.f132 132 [3]
def Oz:PT:=
 (.chk (.nt (.an (.an (.nt (peq r1 (pi 0))) pT) (.nt (aq rS r1))))
 (.ret (.pick (peq r1 (pi 0)) pT (peq (pc (pn rS r1) 1) r2))))
def agn:JQ.map told=some (Oz,[]):=by kernel_rfl
def ayL:tree (ab JQ)=Oz:=aU agn
end Rm
