/-
  The functions of this seat, compiled (3).
-/
import Derived.Test.YtibbcfbmjlehcaaGreatDoorGAJ
import Derived.KernelRfl
set_option linter.defProp false
set_option linter.unusedVariables false
set_option maxRecDepth 100000
noncomputable section
namespace Rm
open Go Go.Proofs Cx
def A4:Option PC:=cF [4,5] [] Tryz.f108 108 [2,7]
def Qg:Nat->PC:=bm A4
variable(b:Nat->PC)
def atN:PC:=.block 0 [5,14,15] [] (.loop [5,14] [] (b 0))
def Oa (b:Nat->PC):PT:=
 (.ite sH
 (.chk (aq cn cw)
 (.next ⟨[(5,(.pick (bE (pc (.setc z2 0 (pn cn cw)) 0) r1) (pc (.setc z2 0 (pn cn cw)) 1) r5)),(14,(aE cw (pi 1)))],[]⟩))
 (.exit 0 ⟨[(15,sH)],[]⟩))
def Yg:PT:=
 (.brk ⟨[(14,(pi 0)),(13,(.llen (pc (.mk [r0]) 16))),(12,(pc (.mk [r0]) 16)),(5,(pc (.mk [r0]) 3))],[]⟩
(atN b)
 (.ret r5))
def aoQ:PT×List (Shp×PT):=(Yg b,[(.lp 0 [5,14,15] [] [5,14] [],Oa b)])
def Us:A4.map told=some (aoQ (bo A4)):=by kernel_rfl
def azC:tree (ab A4)=Yg Qg:=bF Us
def ai9:round 0 [5,14,15] [] [5,14] [] (Qg 0)=Oa Qg:=bj Us 0 λ_=>rfl
def Q6:Option PC:=cF [2] [] Tryz.f57 57 [1]
def azW:PT:=
 (.ret (.pick (aJ (pc (.mk [r0]) 3) (pi 1)) pT (.pick (aJ mI (pi 1)) (.nt (pc (.mk [r0]) 6)) pF)))
def avv:Q6.map told=some (azW,[]):=by kernel_rfl
def Q4:Option PC:=cF [4] [] Tryz.f29 29 [2,3]
def azQ:PT:=
 (.ret (br xh (pc (.mk [r1]) 5)))
def avt:Q4.map told=some (azQ,[]):=by kernel_rfl
def Bb:Option PC:=cF [] [] Tryz.f31 31 [3,6,7,9]
def Qn:Nat->PC:=bm Bb
def atW:PC:=.block 0 [7,12,13] [7] (.loop [7,12] [7] (b 0))
def Oh (b:Nat->PC):PT:=
 (.ite xe
 (.chk (aq dx cn)
 (.ite (bk (pc (.setc Di 0 qM) 5) r2)
 (.chk (aq (pc o3 3) (pc (.setc Di 0 qM) 2))
 (.chk (bE (.llen aiu) cK)
 (.next ⟨[(7,pN),(12,Dg)],[(7,aiu)]⟩)))
 (.next ⟨[(12,Dg)],[]⟩)))
 (.exit 0 ⟨[(13,xe)],[]⟩))
def Yu:PT:=
 (.brk ⟨[(12,(pi 0)),(11,(.llen r1)),(10,r1),(7,pN)],[(7,pL),(3,(.mk [r0]))]⟩
(atW b)
 (.mcall ⟨[],[]⟩ 1000000013 63 [pN,o7]
 (.call ⟨[],[]⟩ [] 34 64 [He]
 (.ret Hu))))
def aoX:PT×List (Shp×PT):=(Yu b,[(.lp 0 [7,12,13] [7] [7,12] [7],Oh b)])
def Uz:Bb.map told=some (aoX (bo Bb)):=by kernel_rfl
def azU:tree (ab Bb)=Yu Qn:=bF Uz
def ajf:round 0 [7,12,13] [7] [7,12] [7] (Qn 0)=Oh Qn:=bj Uz 0 λ_=>rfl
def Kt:Option PC:=cF [10,11,12,13,14,33,36,15] [] Tryz.f9 9 [5,7,9]
def Yr:PT:=
 (.call ⟨[],[(9,(.mk [r4])),(7,(.mk [r2])),(5,(.mk [r0]))]⟩ [] 22 10 [j7,r1,Hj,r3,(.mk [(pc (.mk [r4]) 0),(pc (.mk [r4]) 1)])]
 (.ite (aJ (.tget pz 1) (pi 0))
 (.ret (.tup [(pi 0),(.tget pz 1)]))
 (.call ⟨[(12,(.tget pz 0))],[]⟩ [] 32 13 [(aA 8 o5),r1,(aA 19 o7),r3]
 (.ite (peq xk (pi (-1)))
 (.ret (.tup [(pi 0),(pi 4)]))
 (.ite (.pick (aU xk r3) (aU (br xk r3) (pi 20000)) pF)
 (.ret (.tup [(pi 0),(pi 3)]))
 (.call ⟨[],[]⟩ [] 54 14 [cn,(pc o9 0),(.mx (br xk r3) (pi 0))]
 (.ite (aJ (.tget mO 1) (pi 0))
 (.ret (.tup [(pi 0),(pi 0)]))
 (.ret (.tup [(br cn (.tget mO 0)),(pi 0)])))))))))
def ag9:Kt.map told=some (Yr,[]):=by kernel_rfl
def azP:tree (ab Kt)=Yr:=aW ag9
def Kd:Option PC:=cF [6,7,8,9,10] [] Tryz.f14 14 []
def X8:PT:=
 (.call ⟨[],[]⟩ [] 12 39 [r0,zQ]
 (.call ⟨[(14,(.nt cn))],[]⟩ [(14,false)] 16 39 [r1,(pi 1000)]
 (.call ⟨[(19,(.pick cw pT (.nt cA)))],[]⟩ [(19,false)] 21 39 [r2,(pi 20000)]
 (.ite (.pick jv pT (.nt iT))
 (.ret (.tup [(pi 0),(pi 1)]))
 (.call ⟨[],[]⟩ [] 29 40 [r0,(.ai .mul .i64 r1 r2),(pi 360000)]
 (.ite (.pick (.nt (.tget mM 2)) pT (aU aip r0))
 (.ret (.tup [(pi 0),(pi 3)]))
 (.ret (.tup [aip,(pi 0)]))))))))
def agU:Kd.map told=some (X8,[]):=by kernel_rfl
def azu:tree (ab Kd)=X8:=aW agU
def Kf:Option PC:=cF [4] [] Tryz.f39 39 []
def Ya:PT:=
 (.ret (.pick (bk r0 (pi 0)) (bE r0 r1) pF))
def agW:Kf.map told=some (Ya,[]):=by kernel_rfl
def azw:tree (ab Kf)=Ya:=aW agW
def Ke:Option PC:=cF [6,7,8,9,10,11,12] [] Tryz.f40 40 []
def X9:PT:=
 (.call ⟨[],[]⟩ [] 18 79 [(.conv .u64 r0),(.conv .u64 r1)]
 (.ite (bk (.tget cP 0) (.conv .u64 r2))
 (.ret (.tup [(pi 0),(pi 0),pF]))
 (.call ⟨[],[]⟩ [] 30 80 [(.tget cP 0),(.tget cP 1),(.conv .u64 r2)]
 (.ite (aU (.tget sK 0) (.con (.v (.int .u64 1099511627776))))
 (.ret (.tup [(pi 0),(pi 0),pF]))
 (.ret (.tup [(.conv .i64 (.tget sK 0)),(.conv .i64 (.tget sK 1)),pT]))))))
def agV:Ke.map told=some (X9,[]):=by kernel_rfl
def azv:tree (ab Ke)=X9:=aW agV
def AX:Option PC:=cF [6,7,8,2,9,10,11,12,13,14,15,16,17,18] [] Tryz.f80 80 []
def yn:Nat->PC:=bm AX
def GY:PC:=.block 0 [15,16,67,68,69,78] [] (.loop [15,16] [] (b 0))
def GZ:PC:=.block 2 [16,18,102,103,104,113] [] (.loop [16,18] [] (b 1))
def HF (b:Nat->PC):PT:=
 (.ite VM
 (.ite (bk Dq lz)
 (.exit 0 ⟨[(15,(.ai .sub .u64 cR NN)),(16,Dq),(67,cR),(68,(bk cR lz)),(69,(bk cR lz)),(78,VM)],[]⟩)
 (.next ⟨[(15,(.ai .sub .u64 cR NN)),(16,Dq)],[]⟩))
 (.exit 0 ⟨[(67,cR),(68,(bk cR lz)),(69,(bk cR lz)),(78,VM)],[]⟩))
def HG (b:Nat->PC):PT:=
 (.ite VL
 (.ite (bk Dq lz)
 (.exit 2 ⟨[(16,Dq),(18,(.ai .sub .u64 cP NN)),(102,cP),(103,(bk cP lz)),(104,(bk cP lz)),(113,VL)],[]⟩)
 (.next ⟨[(16,Dq),(18,(.ai .sub .u64 cP NN))],[]⟩))
 (.exit 2 ⟨[(102,cP),(103,(bk cP lz)),(104,(bk cP lz)),(113,VL)],[]⟩))
def O7:PT:=
 (.ite (peq r2 (.con (.v (.int .u64 0))))
 (.chk pF
 (.chk (.nt pT)
 (.ite (bE r2 r0)
 (.chk pF
 (.chk (.nt pT)
 (.ite ND
 (.chk (aJ r2 (pi 0))
 (.ret (.tup [(.ai .quo .u64 r1 r2),(.ai .rem .u64 r1 r2)])))
 (.call ⟨[],[]⟩ [] 35 126 [r2]
 (.chk (bk sD (pi 0))
 (.chk Df
 (.chk NW
 (.chk (aJ sI (pi 0))
 (.brk ⟨[(16,NU),(15,NO),(14,NL),(13,NK),(11,zZ),(10,NM),(9,sI),(2,Hm),(8,sD)],[]⟩
(GY b)
 (.chk (aJ r9 (pi 0))
 (.brk ⟨[(16,NV),(18,(.ai .quo .u64 uh r9)),(17,uh)],[]⟩
(GZ b)
 (.chk (bk r8 (pi 0))
 (.ret (.tup [NZ,NR]))))))))))))))
 (.ite ND
 (.chk (aJ r2 (pi 0))
 (.ret (.tup [(.ai .quo .u64 r1 r2),(.ai .rem .u64 r1 r2)])))
 (.call ⟨[],[]⟩ [] 35 126 [r2]
 (.chk (bk sD (pi 0))
 (.chk Df
 (.chk NW
 (.chk (aJ sI (pi 0))
 (.brk ⟨[(16,NU),(15,NO),(14,NL),(13,NK),(11,zZ),(10,NM),(9,sI),(2,Hm),(8,sD)],[]⟩
(GY b)
 (.chk (aJ r9 (pi 0))
 (.brk ⟨[(16,NV),(18,(.ai .quo .u64 uh r9)),(17,uh)],[]⟩
(GZ b)
 (.chk (bk r8 (pi 0))
 (.ret (.tup [NZ,NR])))))))))))))))
 (.ite (bE r2 r0)
 (.chk pF
 (.chk (.nt pT)
 (.ite ND
 (.chk (aJ r2 (pi 0))
 (.ret (.tup [(.ai .quo .u64 r1 r2),(.ai .rem .u64 r1 r2)])))
 (.call ⟨[],[]⟩ [] 35 126 [r2]
 (.chk (bk sD (pi 0))
 (.chk Df
 (.chk NW
 (.chk (aJ sI (pi 0))
 (.brk ⟨[(16,NU),(15,NO),(14,NL),(13,NK),(11,zZ),(10,NM),(9,sI),(2,Hm),(8,sD)],[]⟩
(GY b)
 (.chk (aJ r9 (pi 0))
 (.brk ⟨[(16,NV),(18,(.ai .quo .u64 uh r9)),(17,uh)],[]⟩
(GZ b)
 (.chk (bk r8 (pi 0))
 (.ret (.tup [NZ,NR]))))))))))))))
 (.ite ND
 (.chk (aJ r2 (pi 0))
 (.ret (.tup [(.ai .quo .u64 r1 r2),(.ai .rem .u64 r1 r2)])))
 (.call ⟨[],[]⟩ [] 35 126 [r2]
 (.chk (bk sD (pi 0))
 (.chk Df
 (.chk NW
 (.chk (aJ sI (pi 0))
 (.brk ⟨[(16,NU),(15,NO),(14,NL),(13,NK),(11,zZ),(10,NM),(9,sI),(2,Hm),(8,sD)],[]⟩
(GY b)
 (.chk (aJ r9 (pi 0))
 (.brk ⟨[(16,NV),(18,(.ai .quo .u64 uh r9)),(17,uh)],[]⟩
(GZ b)
 (.chk (bk r8 (pi 0))
 (.ret (.tup [NZ,NR]))))))))))))))
def aoH:PT×List (Shp×PT):=(O7 b,[(.lp 0 [15,16,67,68,69,78] [] [15,16] [],HF b),(.lp 2 [16,18,102,103,104,113] [] [16,18] [],HG b)])
def M5:AX.map told=some (aoH (bo AX)):=by kernel_rfl
def ay6:tree (ab AX)=O7 yn:=bF M5
def V3:round 0 [15,16,67,68,69,78] [] [15,16] [] (yn 0)=HF yn:=bj M5 0 λ_=>rfl
def V4:round 2 [16,18,102,103,104,113] [] [16,18] [] (yn 1)=HG yn:=bj M5 1 λ_=>rfl
def JY:Option PC:=cF [2] [] Tryz.f126 126 []
def XN:PT:=
 (.call ⟨[],[]⟩ [] 4 104 [r0]
 (.ret (br (pi 64) r4)))
def agz:JY.map told=some (XN,[]):=by kernel_rfl
def ay7:tree (ab JY)=XN:=aW agz
def JZ:Option PC:=cF [2,0] [] Tryz.f104 104 []
def XO:PT:=
 (.ite (bk r0 lz)
 (.chk Df
 (.ite (bk vx (.con (.v (.int .u64 65536))))
 (.chk (bk NS (pi 0))
 (.ite (bk Hr NJ)
 (.chk (bk qK (pi 0))
 (.chk (.sok lC (.conv .u8 (.ai .shr .u64 Hr qK)))
 (.ret (aE (aE (aE (pi 32) (pi 16)) (pi 8)) (.conv .i64 (.sidx lC (.conv .u8 (.ai .shr .u64 Hr qK))))))))
 (.chk (.sok lC (.conv .u8 Hr))
 (.ret (aE (aE (pi 32) (pi 16)) (.conv .i64 (.sidx lC (.conv .u8 Hr))))))))
 (.ite (bk vx NJ)
 (.chk (bk qK (pi 0))
 (.chk (.sok lC (.conv .u8 (.ai .shr .u64 vx qK)))
 (.ret (aE (aE (pi 32) (pi 8)) (.conv .i64 (.sidx lC (.conv .u8 (.ai .shr .u64 vx qK))))))))
 (.chk (.sok lC (.conv .u8 vx))
 (.ret (aE (pi 32) (.conv .i64 (.sidx lC (.conv .u8 vx)))))))))
 (.ite (bk r0 (.con (.v (.int .u64 65536))))
 (.chk (bk NS (pi 0))
 (.ite (bk Hi NJ)
 (.chk (bk qK (pi 0))
 (.chk (.sok lC (.conv .u8 (.ai .shr .u64 Hi qK)))
 (.ret (aE (aE (aE (pi 0) (pi 16)) (pi 8)) (.conv .i64 (.sidx lC (.conv .u8 (.ai .shr .u64 Hi qK))))))))
 (.chk (.sok lC (.conv .u8 Hi))
 (.ret (aE (aE (pi 0) (pi 16)) (.conv .i64 (.sidx lC (.conv .u8 Hi))))))))
 (.ite (bk r0 NJ)
 (.chk (bk qK (pi 0))
 (.chk (.sok lC (.conv .u8 (.ai .shr .u64 r0 qK)))
 (.ret (aE (aE (pi 0) (pi 8)) (.conv .i64 (.sidx lC (.conv .u8 (.ai .shr .u64 r0 qK))))))))
 (.chk (.sok lC (.conv .u8 r0))
 (.ret (aE (pi 0) (.conv .i64 (.sidx lC (.conv .u8 r0)))))))))
def agA:JZ.map told=some (XO,[]):=by kernel_rfl
def ay8:tree (ab JZ)=XO:=aW agA
def Ks:Option PC:=cF [10] [] Tryz.f21 21 [5,7,20,22]
def Yq:PT:=
 (.call ⟨[],[(7,(.mk [r2])),(5,(.mk [r0]))]⟩ [] 13 26 [j7,r1]
 (.ite (.nt dy)
 (.ret pL)
 (.call ⟨[(15,(aA 8 o5))],[]⟩ [] 20 27 [(aA 8 o5),r1,(aA 19 o7),r3]
 (.call ⟨[],[]⟩ [] 22 31 [cR,fc,r4]
 (.ret pz)))))
def ag8:Ks.map told=some (Yq,[]):=by kernel_rfl
def azO:tree (ab Ks)=Yq:=aW ag8
def Bp:Option PC:=cF [4,5] [] Tryz.f20 20 []
def Qu:Nat->PC:=bm Bp
def auj:PC:=.block 0 [4,5,11,12,13,14] [] (.loop [4,5] [] (b 0))
def Oo (b:Nat->PC):PT:=
 (.ite (aj r5 (.llen r0))
 (.chk (aq r0 r5)
 (.chk (aq r1 r5)
 (.ite (aJ (pn r0 r5) (pn r1 r5))
 (.ret pF)
 (.next ⟨[(5,zU)],[]⟩))))
 (.exit 0 ⟨[(11,r5),(12,r0),(13,(.llen r0)),(14,(aj r5 (.llen r0)))],[]⟩))
def YR:PT:=
 (.ite (aJ (.llen r0) (.llen r1))
 (.ret pF)
 (.brk ⟨[(5,(pi 0)),(4,pF)],[]⟩
(auj b)
 (.ret pT)))
def apb:PT×List (Shp×PT):=(YR b,[(.lp 0 [4,5,11,12,13,14] [] [4,5] [],Oo b)])
def UG:Bp.map told=some (apb (bo Bp)):=by kernel_rfl
def aAh:tree (ab Bp)=YR Qu:=bF UG
def ajg:round 0 [4,5,11,12,13,14] [] [4,5] [] (Qu 0)=Oo Qu:=bj UG 0 λ_=>rfl
def E0:Option PC:=cF [6] [] Tryz.f7 7 [3,4,5]
def X4:PT:=
 (.call ⟨[(11,(bE (.llen (pc (.mk [r2]) 1)) (pi 20)))],[(4,(.mk [r1])),(3,(.mk [r0]))]⟩ [(11,true)] 14 22 [j7,(aA 19 (.mk [r1]))]
 (.call ⟨[(16,(.pick bQ cw pF))],[]⟩ [(16,true)] 18 23 [(aA 8 o3)]
 (.call ⟨[(21,(.pick cA (peq cP (pi 0)) pF))],[]⟩ [(21,true)] 24 24 [(aA 8 o3),(aA 19 o4)]
 (.ret (.pick iT (peq pA (pi 0)) pF)))))
def agR:E0.map told=some (X4,[]):=by kernel_rfl
def azq:tree (ab E0)=X4:=aW agR
def Br:Option PC:=cF [4,5] [] Tryz.f22 22 [2,3]
def Qx:Nat->PC:=bm Br
def aum:PC:=.block 0 [4,5,14,15,16,17,18] [] (.loop [4,5] [] (b 0))
def H8 (b:Nat->PC):PT:=
 (.ite (aj r5 (.llen (pc o2 4)))
 (.blockS ⟨[],[]⟩ 1 [4,21,22,23,24,25,26,27] []
 (.chk (aq (pc o2 4) r5)
 (.call ⟨[],[]⟩ [] 26 45 [(pn (pc o2 4) r5)]
 (.ite (.nt nJ)
 (.ret pF)
 (.next ⟨[],[]⟩))))
 (.next ⟨[(5,zU)],[]⟩))
 (.exit 0 ⟨[(14,r5),(15,pN),(16,(pc o2 4)),(17,(.llen (pc o2 4))),(18,(aj r5 (.llen (pc o2 4))))],[]⟩))
def YT:PT:=
 (.call ⟨[(4,pF)],[(3,(.mk [r1])),(2,(.mk [r0]))]⟩ [] 7 43 [j7]
 (.call ⟨[(9,(.nt r7))],[]⟩ [(9,false)] 11 44 [(aA 19 o3)]
 (.ite (.pick r9 pT (.nt bQ))
 (.ret pF)
 (.brk ⟨[(5,(pi 0))],[]⟩
(aum b)
 (.ret pT)))))
def ape:PT×List (Shp×PT):=(YT b,[(.lp 0 [4,5,14,15,16,17,18] [] [4,5] [],H8 b)])
def UJ:Br.map told=some (ape (bo Br)):=by kernel_rfl
def aAj:tree (ab Br)=YT Qx:=bF UJ
def Ws:round 0 [4,5,14,15,16,17,18] [] [4,5] [] (Qx 0)=H8 Qx:=bj UJ 0 λ_=>rfl
def Bd:Option PC:=cF [2,3,4] [] Tryz.f43 43 [1]
def Ez:Nat->PC:=bm Bd
def atY:PC:=.block 0 [2,3,5,6,7,8,9,10,13] [] (.loop [2,3] [] (b 0))
def atZ:PC:=.block 2 [2,4,44,45,46,47,48,49,52] [] (.loop [2,4] [] (b 1))
def Ad (b:Nat->PC):PT:=
 (.ite (.pick (aj r3 mJ) (aj r3 (pi 50)) pF)
 (.chk (aq (pc o1 1) r3)
 (.chk (.nt (.an (.an (.nt (aU (.llen (pc (pn (pc o1 1) r3) 4)) (pi 70))) pT) (.nt (aq (pc o1 1) r3))))
 (.chk (.nt (.an (.an (.nt aiI) pT) (.nt (aq (pc o1 1) r3))))
 (.ite (.pick aiI pT (aU (.llen (pc (pn (pc o1 1) r3) 3)) (pi 8)))
 (.ret pF)
 (.next ⟨[(3,xd)],[]⟩)))))
 (.exit 0 ⟨[(5,r3),(6,pN),(7,(pc o1 1)),(8,mJ),(9,(aj r3 mJ)),(10,(aj r3 mJ)),(13,(.pick (aj r3 mJ) (aj r3 (pi 50)) pF))],[]⟩))
def Dz (b:Nat->PC):PT:=
 (.ite (.pick (aj r4 qL) (aj r4 (pi 50)) pF)
 (.chk (aq (pc o1 4) r4)
 (.chk (.nt (.an (.an (.nt (aU (.llen (pc zS 2)) (pi 40))) pT) (.nt (aq (pc o1 4) r4))))
 (.ite (.pick (aU (.llen (pc zS 2)) (pi 40)) pT (aU (.llen (pc zS 3)) (pi 40)))
 (.ret pF)
 (.next ⟨[(4,(aE r4 (pi 1)))],[]⟩))))
 (.exit 2 ⟨[(44,r4),(45,pN),(46,(pc o1 4)),(47,qL),(48,(aj r4 qL)),(49,(aj r4 qL)),(52,(.pick (aj r4 qL) (aj r4 (pi 50)) pF))],[]⟩))
def Yz:PT:=
 (.brk ⟨[(3,(pi 0)),(2,pF)],[(1,(.mk [r0]))]⟩
(atY b)
 (.brk ⟨[(4,(pi 0))],[]⟩
(atZ b)
 (.ret (.pick (.pick (.pick (.pick (.pick (.pick (.pick (aj xj (pi 50)) (aj mJ (pi 50)) pF) (aj ui (pi 50)) pF) (aj py (pi 210)) pF) (aj qL (pi 50)) pF) (aj Dh (pi 110)) pF) (aj (.llen (pc o1 6)) (pi 110)) pF) (aj zT (pi 50)) pF))))
def aoZ:PT×List (Shp×PT):=(Yz b,[(.lp 0 [2,3,5,6,7,8,9,10,13] [] [2,3] [],Ad b),(.lp 2 [2,4,44,45,46,47,48,49,52] [] [2,4] [],Dz b)])
def M7:Bd.map told=some (aoZ (bo Bd)):=by kernel_rfl
def az0:tree (ab Bd)=Yz Ez:=bF M7
def HQ:round 0 [2,3,5,6,7,8,9,10,13] [] [2,3] [] (Ez 0)=Ad Ez:=bj M7 0 λ_=>rfl
def Oi:round 2 [2,4,44,45,46,47,48,49,52] [] [2,4] [] (Ez 1)=Dz Ez:=bj M7 1 λ_=>rfl
def KB:Option PC:=cF [2] [] Tryz.f44 44 [1]
def YO:PT:=
 (.ret (.pick (.pick (.pick (bE (.llen sE) (pi 50)) (bE (.llen (pc (.mk [r0]) 16)) (pi 10)) pF) (bE (.llen (pc (.mk [r0]) 17)) (pi 110)) pF) (bE (.llen (pc (.mk [r0]) 18)) (pi 220)) pF))
def ahg:KB.map told=some (YO,[]):=by kernel_rfl
def aAe:tree (ab KB)=YO:=aW ahg
def Bq:Option PC:=cF [2,3] [] Tryz.f45 45 [1]
def Qw:Nat->PC:=bm Bq
def aul:PC:=.block 0 [2,3,14,15,16,17,18] [] (.loop [2,3] [] (b 0))
def H7 (b:Nat->PC):PT:=
 (.ite (aj r3 py)
 (.blockS ⟨[],[]⟩ 1 [2,21,22,23,24,25,26,27,28] []
 (.chk (aq (pc o1 3) r3)
 (.call ⟨[],[]⟩ [] 27 82 [(.sub (pn (pc o1 3) r3) 1 3)]
 (.ite (.nt eK)
 (.ret pF)
 (.next ⟨[],[]⟩))))
 (.next ⟨[(3,xd)],[]⟩))
 (.exit 0 ⟨[(14,r3),(15,pN),(16,(pc o1 3)),(17,py),(18,(aj r3 py))],[]⟩))
def YS:PT:=
 (.ite (.pick (aU (.llen (pc (.mk [r0]) 3)) (pi 60)) pT (aU sJ (pi 60)))
 (.ret pF)
 (.brk ⟨[(3,(pi 0)),(2,pF)],[(1,(.mk [r0]))]⟩
(aul b)
 (.ret pT)))
def apd:PT×List (Shp×PT):=(YS b,[(.lp 0 [2,3,14,15,16,17,18] [] [2,3] [],H7 b)])
def UI:Bq.map told=some (apd (bo Bq)):=by kernel_rfl
def aAi:tree (ab Bq)=YS Qw:=bF UI
def Wr:round 0 [2,3,14,15,16,17,18] [] [2,3] [] (Qw 0)=H7 Qw:=bj UI 0 λ_=>rfl
def KC:Option PC:=cF [2] [] Tryz.f82 82 [1]
def YQ:PT:=
 (.call ⟨[],[]⟩ [] 4 127 [(.mk [j9,mI,zY]),(pi 100),(pi 20)]
 (.ret (bk r4 (pi 0))))
def ahh:KC.map told=some (YQ,[]):=by kernel_rfl
def aAg:tree (ab KC)=YQ:=aW ahh
def yx:Option PC:=cF [6,1,7] [] Tryz.f127 127 [3]
def Qv:Nat->PC:=bm yx
def auk:PC:=.block 0 [1,7,12,13,14,15,16,17,20] [] (.loop [1,7] [] (b 0))
def H6 (b:Nat->PC):PT:=
 (.ite (.pick (aj r7 nI) (bk r1 (pi 0)) pF)
 (.blockS ⟨[],[]⟩ 1 [1,23,24,25,26,27,28,29,30,31] []
 (.chk (aq (pc o3 2) r7)
 (.call ⟨[],[]⟩ [] 31 127 [(pn (pc o3 2) r7),r1,(br r2 (pi 1))]
 (.next ⟨[(1,sL)],[]⟩)))
 (.next ⟨[(7,(aE r7 (pi 1)))],[]⟩))
 (.exit 0 ⟨[(12,r7),(13,pN),(14,(pc o3 2)),(15,nI),(16,(aj r7 nI)),(17,(aj r7 nI)),(20,(.pick (aj r7 nI) (bk r1 (pi 0)) pF))],[]⟩))
def Pd:PT:=
 (.ite (aj r2 (pi 1))
 (.ret (pi (-1)))
 (.brk ⟨[(7,(pi 0)),(1,(br r1 (pi 1)))],[(3,(.mk [r0]))]⟩
(auk b)
 (.ret r1)))
def apc:PT×List (Shp×PT):=(Pd b,[(.lp 0 [1,7,12,13,14,15,16,17,20] [] [1,7] [],H6 b)])
def UH:yx.map told=some (apc (bo yx)):=by kernel_rfl
def akc:tree (ab yx)=Pd Qv:=bF UH
def Wq:round 0 [1,7,12,13,14,15,16,17,20] [] [1,7] [] (Qv 0)=H6 Qv:=bj UH 0 λ_=>rfl
def Kw:Option PC:=cF [2,3] [] Tryz.f23 23 [1]
def Yy:PT:=
 (.call ⟨[],[(1,(.mk [r0]))]⟩ [] 5 46 [j7]
 (.iteS ⟨[(3,r5)],[]⟩ (peq r5 (pi 0)) [3] []
 (.call ⟨[],[]⟩ [] 9 47 [(aA 8 o1)]
 (.next ⟨[(3,r9)],[]⟩))
 (.next ⟨[],[]⟩)
 (.iteS ⟨[],[]⟩ (peq r3 (pi 0)) [3] []
 (.call ⟨[],[]⟩ [] 13 48 [(aA 8 o1)]
 (.next ⟨[(3,dy)],[]⟩))
 (.next ⟨[],[]⟩)
 (.iteS ⟨[],[]⟩ (peq r3 (pi 0)) [3] []
 (.call ⟨[],[]⟩ [] 17 49 [(aA 8 o1)]
 (.next ⟨[(3,lD)],[]⟩))
 (.next ⟨[],[]⟩)
 (.iteS ⟨[],[]⟩ (peq r3 (pi 0)) [3] []
 (.call ⟨[],[]⟩ [] 21 50 [(aA 8 o1)]
 (.next ⟨[(3,iT)],[]⟩))
 (.next ⟨[],[]⟩)
 (.ret r3))))))
def ahc:Kw.map told=some (Yy,[]):=by kernel_rfl
def azZ:tree (ab Kw)=Yy:=aW ahc
def Bi:Option PC:=cF [2,3,4,6,7] [] Tryz.f46 46 [1,5,44]
def EB:Nat->PC:=bm Bi
def at5:PC:=.block 0 [2,3,12,13,14,15,16] [] (.loop [2,3] [] (b 0))
def at6:PC:=.block 2 [2,5,6,30,31,32,33,34] [5] (.loop [2,5,6] [5] (b 1))
def HX (b:Nat->PC):PT:=
 (.ite (aj r3 xj)
 (.blockS ⟨[],[]⟩ 1 [2,4,19,20,21,22,23,24] []
 (.call ⟨[],[]⟩ [] 22 83 [(pc o1 0),r3]
 (.ite (aJ pz (pi 0))
 (.ret pz)
 (.next ⟨[],[]⟩)))
 (.next ⟨[(3,xd)],[]⟩))
 (.exit 0 ⟨[(12,r3),(13,pN),(14,(pc o1 0)),(15,xj),(16,(aj r3 xj))],[]⟩))
def HY (b:Nat->PC):PT:=
 (.ite (aj r6 mJ)
 (.blockS ⟨[],[]⟩ 3 [2,5,7,38,39,40,41,42,43,44,45,46,47,48,49,50,52,53,54,55,56,57,58,59] [44,5]
 (.chk (aq (pc o1 1) r6)
 (.chk (bE (.llen VD) cK)
 (.call ⟨[(5,pN)],[(5,VD)]⟩ [] 48 83 [VD,r6]
 (.ite (aJ kc (pi 0))
 (.ret kc)
 (.chk (aq (pc o1 1) r6)
 (.call ⟨[],[]⟩ [] 58 84 [(aA 8 o1),(pn (pc o1 1) r6)]
 (.ite (.nt Hv)
 (.ret (pi 1))
 (.next ⟨[],[]⟩))))))))
 (.next ⟨[(6,(aE r6 (pi 1)))],[]⟩))
 (.exit 2 ⟨[(30,r6),(31,pN),(32,(pc o1 1)),(33,mJ),(34,(aj r6 mJ))],[]⟩))
def YH:PT:=
 (.ite (aU (.llen j9) (pi 8))
 (.ret (pi 6))
 (.brk ⟨[(3,(pi 0)),(2,(pi 0))],[(1,(.mk [r0]))]⟩
(at5 b)
 (.ite (aU mJ (pi 40))
 (.ret (pi 6))
 (.brk ⟨[(6,(pi 0)),(5,pN)],[(5,pL)]⟩
(at6 b)
 (.ret (pi 0))))))
def ao4:PT×List (Shp×PT):=(YH b,[(.lp 0 [2,3,12,13,14,15,16] [] [2,3] [],HX b),(.lp 2 [2,5,6,30,31,32,33,34] [5] [2,5,6] [5],HY b)])
def M9:Bi.map told=some (ao4 (bo Bi)):=by kernel_rfl
def az7:tree (ab Bi)=YH EB:=bF M9
def Wi:round 0 [2,3,12,13,14,15,16] [] [2,3] [] (EB 0)=HX EB:=bj M9 0 λ_=>rfl
def Wj:round 2 [2,5,6,30,31,32,33,34] [5] [2,5,6] [5] (EB 1)=HY EB:=bj M9 1 λ_=>rfl
def KA:Option PC:=cF [4] [] Tryz.f83 83 []
def YJ:PT:=
 (.chk (aq r0 r1)
 (.call ⟨[],[]⟩ [] 9 128 [(pn r0 r1)]
 (.ite (.nt r9)
 (.ret (pi 2))
 (.chk (aq r0 r1)
 (.call ⟨[],[]⟩ [] 17 129 [r0,r1,(pn r0 r1)]
 (.ite lD
 (.ret (pi 5))
 (.ret (pi 0))))))))
def ahf:KA.map told=some (YJ,[]):=by kernel_rfl
def az9:tree (ab KA)=YJ:=aW ahf
def Be:Option PC:=cF [2,3,4] [] Tryz.f128 128 []
def Qp:Nat->PC:=bm Be
def at0:PC:=.block 0 [2,3,13,14,15,16] [] (.loop [2,3] [] (b 0))
def HR (b:Nat->PC):PT:=
 (.ite (aj r3 (.slen r0))
 (.blockS ⟨[],[]⟩ 1 [2,4,19,20,21,22,23,34,35,36,37,38,39,40,47] []
 (.chk (.sok r0 r3)
 (.chk (.nt (.an (.an (.nt VC) pT) (.nt (.sok r0 r3))))
 (.chk (.nt (.an (.an (bE (.con (.v (.int .u8 48))) (.sidx r0 r3)) (.an (.nt VC) pT)) (.nt (.sok r0 r3))))
 (.call ⟨[(4,(.pick VC pT (.pick (bE (.con (.v (.int .u8 48))) (.sidx r0 r3)) (bE (.sidx r0 r3) (.con (.v (.int .u8 57)))) pF)))],[]⟩ [] 38 167 [(.sidx r0 r3)]
 (.ite (.pick (.nt jK) (.pick (peq r3 (pi 0)) pT (.nt r4)) pF)
 (.ret pF)
 (.next ⟨[],[]⟩))))))
 (.next ⟨[(3,xd)],[]⟩))
 (.exit 0 ⟨[(13,r3),(14,r0),(15,(.slen r0)),(16,(aj r3 (.slen r0)))],[]⟩))
def YB:PT:=
 (.ite (.pick (aj (.slen r0) (pi 1)) pT (aU (.slen r0) (pi 20)))
 (.ret pF)
 (.brk ⟨[(3,(pi 0)),(2,pF)],[]⟩
(at0 b)
 (.ret pT)))
def ao0:PT×List (Shp×PT):=(YB b,[(.lp 0 [2,3,13,14,15,16] [] [2,3] [],HR b)])
def UB:Be.map told=some (ao0 (bo Be)):=by kernel_rfl
def az2:tree (ab Be)=YB Qp:=bF UB
def Wd:round 0 [2,3,13,14,15,16] [] [2,3] [] (Qp 0)=HR Qp:=bj UB 0 λ_=>rfl
def Ky:Option PC:=cF [2] [] Tryz.f167 167 []
def YA:PT:=
 (.ret (.pick (.pick (bE (.con (.v (.int .u8 97))) r0) (bE r0 (.con (.v (.int .u8 122)))) pF) pT (.pick (bE (.con (.v (.int .u8 65))) r0) (bE r0 (.con (.v (.int .u8 90)))) pF)))
def ahd:Ky.map told=some (YA,[]):=by kernel_rfl
def az1:tree (ab Ky)=YA:=aW ahd
def Bc:Option PC:=cF [6,7] [] Tryz.f129 129 []
def Qo:Nat->PC:=bm Bc
def atX:PC:=.block 0 [6,7,8,9,10,11,16] [] (.loop [6,7] [] (b 0))
def HP (b:Nat->PC):PT:=
 (.ite (.pick (aj r7 r1) (aj r7 (.llen r0)) pF)
 (.chk (aq r0 r7)
 (.ite (.cs .eql (pn r0 r7) r2)
 (.ret pT)
 (.next ⟨[(7,(aE r7 (pi 1)))],[]⟩)))
 (.exit 0 ⟨[(8,r7),(9,r1),(10,(aj r7 r1)),(11,(aj r7 r1)),(16,(.pick (aj r7 r1) (aj r7 (.llen r0)) pF))],[]⟩))
def Yx:PT:=
 (.brk ⟨[(7,(pi 0)),(6,pF)],[]⟩
(atX b)
 (.ret pF))
def aoY:PT×List (Shp×PT):=(Yx b,[(.lp 0 [6,7,8,9,10,11,16] [] [6,7] [],HP b)])
def UA:Bc.map told=some (aoY (bo Bc)):=by kernel_rfl
def azY:tree (ab Bc)=Yx Qo:=bF UA
def Wc:round 0 [6,7,8,9,10,11,16] [] [6,7] [] (Qo 0)=HP Qo:=bj UA 0 λ_=>rfl
def Bf:Option PC:=cF [4,5] [] Tryz.f84 84 [2,3]
def Qq:Nat->PC:=bm Bf
def at1:PC:=.block 0 [4,5,36,37,38,39,40] [] (.loop [4,5] [] (b 0))
def HT (b:Nat->PC):PT:=
 (.ite (aj r5 (.llen (pc o3 4)))
 (.blockS ⟨[],[]⟩ 1 [4,43,44,45,46,47,48,49,50,51,60] []
 (.chk (aq (pc o3 4) r5)
 (.chk De
 (.call ⟨[],[]⟩ [] 49 85 [(.ai .quo .i64 (pn (pc o3 4) r5) (pi 100)),(pi 1),(pi 12)]
 (.chk (.nt (.an (.an (.nt (.nt pB)) pT) (.nt (aq (pc o3 4) r5))))
 (.chk (.nt (.an (.an (.nt (.nt pB)) pT) (.nt De)))
 (.call ⟨[(51,(.nt pB))],[]⟩ [(51,false)] 58 85 [(.ai .rem .i64 (pn (pc o3 4) r5) (pi 100)),(pi 1),(pi 31)]
 (.ite (.pick nL pT (.nt Hv))
 (.ret pF)
 (.next ⟨[],[]⟩))))))))
 (.next ⟨[(5,zU)],[]⟩))
 (.exit 0 ⟨[(36,r5),(37,pN),(38,(pc o3 4)),(39,(.llen (pc o3 4))),(40,(aj r5 (.llen (pc o3 4))))],[]⟩))
def YC:PT:=
 (.call ⟨[(4,pF)],[(3,(.mk [r1])),(2,(.mk [r0]))]⟩ [] 12 85 [(pc (.mk [r1]) 1),(pi 0),(br Hg (pi 1))]
 (.call ⟨[(14,(.nt cn))],[]⟩ [(14,false)] 21 85 [(pc o3 2),(pi 0),(br (.llen (pc o2 0)) (pi 1))]
 (.ite (.pick (.pick (.pick cw pT (.nt iT)) pT (aU (.llen (pc o3 4)) (pi 60))) pT (aU (.llen (pc o3 5)) (pi 200)))
 (.ret pF)
 (.brk ⟨[(5,(pi 0))],[]⟩
(at1 b)
 (.call ⟨[],[]⟩ [] 63 130 [(pc o3 3),(pi 0),(pi 6)]
 (.call ⟨[(64,N3)],[]⟩ [(64,true)] 67 130 [(pc o3 4),(pi 0),(pi 2000)]
 (.call ⟨[(69,(.pick nM xm pF))],[]⟩ [(69,true)] 72 130 [(pc o3 5),(pi 0),(pi 100000)]
 (.ret (.pick z8 Hy pF)))))))))
def ao1:PT×List (Shp×PT):=(YC b,[(.lp 0 [4,5,36,37,38,39,40] [] [4,5] [],HT b)])
def UC:Bf.map told=some (ao1 (bo Bf)):=by kernel_rfl
def az3:tree (ab Bf)=YC Qq:=bF UC
def We:round 0 [4,5,36,37,38,39,40] [] [4,5] [] (Qq 0)=HT Qq:=bj UC 0 λ_=>rfl
def Kz:Option PC:=cF [6] [] Tryz.f85 85 []
def YG:PT:=
 (.ret (.pick (bE r1 r0) (bE r0 r2) pF))
def ahe:Kz.map told=some (YG,[]):=by kernel_rfl
def az6:tree (ab Kz)=YG:=aW ahe
def Bh:Option PC:=cF [6,7] [] Tryz.f130 130 []
def Qr:Nat->PC:=bm Bh
def at4:PC:=.block 0 [6,7,8,9,10,11] [] (.loop [6,7] [] (b 0))
def HW (b:Nat->PC):PT:=
 (.ite (aj r7 (.llen r0))
 (.blockS ⟨[],[]⟩ 1 [6,14,15,16,17,18,19,20,21,22,23,24,35] []
 (.chk (aq r0 r7)
 (.call ⟨[],[]⟩ [] 20 85 [(pn r0 r7),r1,r2]
 (.ite (.nt fc)
 (.ret pF)
 (.chk (.nt (.an (.an (aU r7 (pi 0)) pT) (.nt (aq r0 (br r7 (pi 1))))))
 (.chk (.nt (.an (.an (aU r7 (pi 0)) pT) (.nt (aq r0 r7))))
 (.ite (.pick (aU r7 (pi 0)) (bk (pn r0 (br r7 (pi 1))) (pn r0 r7)) pF)
 (.ret pF)
 (.next ⟨[],[]⟩)))))))
 (.next ⟨[(7,(aE r7 (pi 1)))],[]⟩))
 (.exit 0 ⟨[(8,r7),(9,r0),(10,(.llen r0)),(11,(aj r7 (.llen r0)))],[]⟩))
def YE:PT:=
 (.brk ⟨[(7,(pi 0)),(6,pF)],[]⟩
(at4 b)
 (.ret pT))
def ao3:PT×List (Shp×PT):=(YE b,[(.lp 0 [6,7,8,9,10,11] [] [6,7] [],HW b)])
def UD:Bh.map told=some (ao3 (bo Bh)):=by kernel_rfl
def az5:tree (ab Bh)=YE Qr:=bF UD
def Wh:round 0 [6,7,8,9,10,11] [] [6,7] [] (Qr 0)=HW Qr:=bj UD 0 λ_=>rfl
def Bj:Option PC:=cF [2,3,5,6] [] Tryz.f47 47 [1,4,44]
def EC:Nat->PC:=bm Bj
def at7:PC:=.block 0 [2,3,11,12,13,14,15] [] (.loop [2,3] [] (b 0))
def aua:PC:=.block 2 [2,4,5,30,31,32,33,34] [4] (.loop [2,4,5] [4] (b 1))
def HZ (b:Nat->PC):PT:=
 (.ite (aj r3 ui)
 (.blockS ⟨[],[]⟩ 1 [2,18,19,20,21,22,23,24,25] []
 (.chk (aq (pc o1 2) r3)
 (.call ⟨[],[]⟩ [] 24 85 [(pc (pn (pc o1 2) r3) 0),(pi 0),(pi 9)]
 (.ite (.nt pA)
 (.ret (pi 1))
 (.next ⟨[],[]⟩))))
 (.next ⟨[(3,xd)],[]⟩))
 (.exit 0 ⟨[(11,r3),(12,pN),(13,(pc o1 2)),(14,ui),(15,(aj r3 ui))],[]⟩))
def H0 (b:Nat->PC):PT:=
 (.ite (aj r5 py)
 (.blockS ⟨[],[]⟩ 3 [2,4,6,38,39,40,41,42,43,44,45,46,47,48,49,50,52,53,54,55,56,57,58,59,60,61,62,63,64,77] [44,4]
 (.chk (aq (pc o1 3) r5)
 (.chk (bE (.llen VE) cK)
 (.call ⟨[(4,pN)],[(4,VE)]⟩ [] 48 83 [VE,r5]
 (.ite (aJ kc (pi 0))
 (.ret kc)
 (.chk (aq (pc o1 3) r5)
 (.call ⟨[],[]⟩ [] 62 85 [(pc (pn (pc o1 3) r5) 1),(pi 0),(br mJ (pi 1))]
 (.chk (.nt (.an (.an (.nt (.nt pC)) pT) (.nt (aq (pc o1 3) r5))))
 (.call ⟨[(64,(.nt pC))],[]⟩ [(64,false)] 75 85 [(pc (pn (pc o1 3) r5) 2),(pi 0),(br ui (pi 1))]
 (.ite (.pick nM pT (.nt VW))
 (.ret (pi 1))
 (.next ⟨[],[]⟩))))))))))
 (.next ⟨[(5,zU)],[]⟩))
 (.exit 2 ⟨[(30,r5),(31,pN),(32,(pc o1 3)),(33,py),(34,(aj r5 py))],[]⟩))
def YI:PT:=
 (.ite (aU sJ (pi 20))
 (.ret (pi 6))
 (.brk ⟨[(3,(pi 0)),(2,(pi 0))],[(1,(.mk [r0]))]⟩
(at7 b)
 (.ite (aU py (pi 200))
 (.ret (pi 6))
 (.brk ⟨[(5,(pi 0)),(4,pN)],[(4,pL)]⟩
(aua b)
 (.ret (pi 0))))))
def ao5:PT×List (Shp×PT):=(YI b,[(.lp 0 [2,3,11,12,13,14,15] [] [2,3] [],HZ b),(.lp 2 [2,4,5,30,31,32,33,34] [4] [2,4,5] [4],H0 b)])
def Na:Bj.map told=some (ao5 (bo Bj)):=by kernel_rfl
def az8:tree (ab Bj)=YI EC:=bF Na
def Wk:round 0 [2,3,11,12,13,14,15] [] [2,3] [] (EC 0)=HZ EC:=bj Na 0 λ_=>rfl
def Wl:round 2 [2,4,5,30,31,32,33,34] [4] [2,4,5] [4] (EC 1)=H0 EC:=bj Na 1 λ_=>rfl
def Bk:Option PC:=cF [2,4,5] [] Tryz.f48 48 [1,3,24]
def Qs:Nat->PC:=bm Bk
def aub:PC:=.block 0 [2,3,4,10,11,12,13,14] [3] (.loop [2,3,4] [3] (b 0))
def H2 (b:Nat->PC):PT:=
 (.ite (aj r4 qL)
 (.blockS ⟨[],[]⟩ 1 [2,3,5,18,19,20,21,22,23,24,25,26,27,28,29,30,32,33,34,35,36,37,38] [24,3]
 (.chk (aq (pc o1 4) r4)
 (.chk (bE (.llen (.app o3 (.lst [(pc zS 0)]))) cK)
 (.call ⟨[(3,pN)],[(3,(.app o3 (.lst [(pc zS 0)])))]⟩ [] 28 83 [(.app o3 (.lst [(pc zS 0)])),r4]
 (.ite (aJ uj (pi 0))
 (.ret uj)
 (.chk (aq (pc o1 4) r4)
 (.call ⟨[],[]⟩ [] 37 86 [zS]
 (.ite (.nt mN)
 (.ret (pi 1))
 (.next ⟨[],[]⟩))))))))
 (.next ⟨[(4,(aE r4 (pi 1)))],[]⟩))
 (.exit 0 ⟨[(10,r4),(11,pN),(12,(pc o1 4)),(13,qL),(14,(aj r4 qL))],[]⟩))
def YK:PT:=
 (.ite (aU Hg (pi 20))
 (.ret (pi 6))
 (.brk ⟨[(4,(pi 0)),(3,pN),(2,(pi 0))],[(3,pL),(1,(.mk [r0]))]⟩
(aub b)
 (.ret (pi 0))))
def ao6:PT×List (Shp×PT):=(YK b,[(.lp 0 [2,3,4,10,11,12,13,14] [3] [2,3,4] [3],H2 b)])
def UE:Bk.map told=some (ao6 (bo Bk)):=by kernel_rfl
def aAa:tree (ab Bk)=YK Qs:=bF UE
def Wm:round 0 [2,3,4,10,11,12,13,14] [3] [2,3,4] [3] (Qs 0)=H2 Qs:=bj UE 0 λ_=>rfl
def Bg:Option PC:=cF [2,3,4] [] Tryz.f86 86 [1]
def EA:Nat->PC:=bm Bg
def at2:PC:=.block 0 [2,3,5,6,7,8,9] [] (.loop [2,3] [] (b 0))
def at3:PC:=.block 2 [2,4,48,49,50,51,52] [] (.loop [2,4] [] (b 1))
def HU (b:Nat->PC):PT:=
 (.ite (aj r3 ui)
 (.blockS ⟨[],[]⟩ 1 [2,12,13,14,15,16,17,18,19,20,29,30,31,32,47] []
 (.chk (aq (pc o1 2) r3)
 (.call ⟨[],[]⟩ [] 18 85 [(pc (pn (pc o1 2) r3) 0),(pi 0),(pi 21)]
 (.chk (.nt (.an (.an (.nt (.nt cP)) pT) (.nt (aq (pc o1 2) r3))))
 (.call ⟨[(20,(.nt cP))],[]⟩ [(20,false)] 27 85 [(pc (pn (pc o1 2) r3) 1),(pi 0),(pi 4)]
 (.ite (.pick fc pT (.nt eK))
 (.ret pF)
 (.chk (.nt (.an (.an (aU r3 (pi 0)) pT) (.nt (aq (pc o1 2) (br r3 (pi 1))))))
 (.chk (.nt (.an (.an (aU r3 (pi 0)) pT) (.nt (aq (pc o1 2) r3))))
 (.ite (.pick (aU r3 (pi 0)) (bk (pc (pn (pc o1 2) (br r3 (pi 1))) 0) (pc (pn (pc o1 2) r3) 0)) pF)
 (.ret pF)
 (.next ⟨[],[]⟩)))))))))
 (.next ⟨[(3,xd)],[]⟩))
 (.exit 0 ⟨[(5,r3),(6,pN),(7,(pc o1 2)),(8,ui),(9,(aj r3 ui))],[]⟩))
def HV (b:Nat->PC):PT:=
 (.ite (aj r4 py)
 (.blockS ⟨[],[]⟩ 3 [2,55,56,57,58,59,60,61,62,63,64,65,80] []
 (.chk (aq (pc o1 3) r4)
 (.call ⟨[],[]⟩ [] 61 85 [(pc (pn (pc o1 3) r4) 0),(pi 0),(pi 21)]
 (.ite (.nt Hx)
 (.ret pF)
 (.chk (.nt (.an (.an (aU r4 (pi 0)) pT) (.nt (aq (pc o1 3) (br r4 (pi 1))))))
 (.chk (.nt (.an (.an (aU r4 (pi 0)) pT) (.nt (aq (pc o1 3) r4))))
 (.ite (.pick (aU r4 (pi 0)) (bk (pc (pn (pc o1 3) (br r4 (pi 1))) 0) (pc (pn (pc o1 3) r4) 0)) pF)
 (.ret pF)
 (.next ⟨[],[]⟩)))))))
 (.next ⟨[(4,(aE r4 (pi 1)))],[]⟩))
 (.exit 2 ⟨[(48,r4),(49,pN),(50,(pc o1 3)),(51,py),(52,(aj r4 py))],[]⟩))
def YD:PT:=
 (.brk ⟨[(3,(pi 0)),(2,pF)],[(1,(.mk [r0]))]⟩
(at2 b)
 (.brk ⟨[(4,(pi 0))],[]⟩
(at3 b)
 (.ret pT)))
def ao2:PT×List (Shp×PT):=(YD b,[(.lp 0 [2,3,5,6,7,8,9] [] [2,3] [],HU b),(.lp 2 [2,4,48,49,50,51,52] [] [2,4] [],HV b)])
def M8:Bg.map told=some (ao2 (bo Bg)):=by kernel_rfl
def az4:tree (ab Bg)=YD EA:=bF M8
def Wf:round 0 [2,3,5,6,7,8,9] [] [2,3] [] (EA 0)=HU EA:=bj M8 0 λ_=>rfl
def Wg:round 2 [2,4,48,49,50,51,52] [] [2,4] [] (EA 1)=HV EA:=bj M8 1 λ_=>rfl
def Bm:Option PC:=cF [2,3,5] [] Tryz.f49 49 [1,4]
def EE:Nat->PC:=bm Bm
def aue:PC:=.block 2 [2,5,46,47,48] [] (.loop [2,5] [] (b 0))
def auf:PC:=.block 0 [2,3,10,11,12,13,14] [] (.loop [2,3] [] (b 1))
def DA (b:Nat->PC):PT:=
 (.ite (aj r5 r3)
 (.chk (aq (pc o1 5) r5)
 (.chk (.nt (.an (.an (peq (pc (pn (pc o1 5) r5) 0) (pc o4 0)) pT) (.nt (aq (pc o1 5) r5))))
 (.ite (.pick (peq (pc (pn (pc o1 5) r5) 0) (pc o4 0)) (peq (pc (pn (pc o1 5) r5) 1) (pc o4 1)) pF)
 (.ret (pi 5))
 (.next ⟨[(5,zU)],[]⟩))))
 (.exit 2 ⟨[(46,r5),(47,r3),(48,(aj r5 r3))],[]⟩))
def H5:PT:=
 (.ite (aj r3 Dh)
 (.blockS ⟨[(14,(aj r3 Dh)),(13,Dh),(12,(pc o1 5)),(11,pN),(10,r3)],[]⟩ 1 [2,4,5,17,18,19,20,21,22,23,24,25,26,27,28,29,30,39,40,45,46,47,48] [4]
 (.chk (aq (pc o1 5) r3)
 (.call ⟨[],[(4,(.setc z3 0 (pn (pc o1 5) r3)))]⟩ [] 28 85 [(pc (.setc z3 0 (pn (pc o1 5) r3)) 0),(pi 0),(br mJ (pi 1))]
 (.call ⟨[(30,(.nt uj))],[]⟩ [(30,false)] 37 85 [(pc o4 1),(pi 0),(br mJ (pi 1))]
 (.call ⟨[(40,(.pick sK pT (.nt mN)))],[]⟩ [(40,false)] 43 85 [(pc o4 2),(pi 1),(pi 20000)]
 (.ite (.pick qO pT (.nt vz))
 (.ret (pi 1))
 (.brk ⟨[(5,(pi 0))],[]⟩
(aue b)
 (.next ⟨[],[]⟩)))))))
 (.next ⟨[(3,xd)],[]⟩))
 (.exit 0 ⟨[(10,r3),(11,pN),(12,(pc o1 5)),(13,Dh),(14,(aj r3 Dh))],[]⟩))
def YM:PT:=
 (.ite (aU (.llen xh) (pi 100))
 (.ret (pi 6))
 (.brk ⟨[(3,(pi 0)),(2,(pi 0))],[(1,(.mk [r0]))]⟩
(auf b)
 (.ret (pi 0))))
def ao8:PT×List (Shp×PT):=(YM b,[(.lp 2 [2,5,46,47,48] [] [2,5] [],DA b),(.lp 0 [2,3,10,11,12,13,14] [] [2,3] [],H5 b)])
def Nc:Bm.map told=some (ao8 (bo Bm)):=by kernel_rfl
def aAc:tree (ab Bm)=YM EE:=bF Nc
def Oj:round 2 [2,5,46,47,48] [] [2,5] [] (EE 0)=DA EE:=bj Nc 0 λ_=>rfl
def Wp:round 0 [2,3,10,11,12,13,14] [] [2,3] [] (EE 1)=H5 EE:=bj Nc 1 λ_=>rfl
def Bl:Option PC:=cF [2,3,5] [] Tryz.f50 50 [1,4,6]
def ED:Nat->PC:=bm Bl
def auc:PC:=.block 0 [2,3,11,12,13,14,15] [] (.loop [2,3] [] (b 0))
def aud:PC:=.block 2 [2,5,68,69,70,71,72] [] (.loop [2,5] [] (b 1))
def H3 (b:Nat->PC):PT:=
 (.ite (aj r3 (.llen (pc o1 6)))
 (.blockS ⟨[],[]⟩ 1 [2,4,18,19,20,21,22,23,24,25,26,27,28,29,30,31,40,41,47,48,49,50,51,52,57,58,63] [4]
 (.chk (aq (pc o1 6) r3)
 (.call ⟨[],[(4,(.setc z5 0 (pn (pc o1 6) r3)))]⟩ [] 29 85 [(pc (.setc z5 0 (pn (pc o1 6) r3)) 0),(pi 0),(br xj (pi 1))]
 (.call ⟨[(31,(.nt mM))],[]⟩ [(31,false)] 38 85 [(pc o4 1),(pi 0),(br xj (pi 1))]
 (.ite (.pick (.pick sL pT (.nt jK)) pT (peq (pc o4 0) (pc o4 1)))
 (.ret (pi 1))
 (.call ⟨[],[]⟩ [] 50 85 [(pc o4 2),(pi 1),(pi 1073741824)]
 (.call ⟨[(52,(.nt nK))],[]⟩ [(52,false)] 55 85 [(pc o4 3),(pi 1),(pi 1073741824)]
 (.call ⟨[(58,(.pick Du pT (.nt Dv)))],[]⟩ [(58,false)] 61 85 [(pc o4 4),(pi 0),(pi 100000)]
 (.ite (.pick Hv pT (.nt Hx))
 (.ret (pi 1))
 (.next ⟨[],[]⟩)))))))))
 (.next ⟨[(3,xd)],[]⟩))
 (.exit 0 ⟨[(11,r3),(12,pN),(13,(pc o1 6)),(14,(.llen (pc o1 6))),(15,(aj r3 (.llen (pc o1 6))))],[]⟩))
def H4 (b:Nat->PC):PT:=
 (.ite (aj r5 zT)
 (.blockS ⟨[],[]⟩ 3 [2,6,75,76,77,78,79,80,81,82,83,84,85,86,87,88,95,96,100] [6]
 (.chk (aq (pc o1 7) r5)
 (.call ⟨[],[(6,(.setc z3 0 (pn (pc o1 7) r5)))]⟩ [] 86 85 [(pc (.setc z3 0 (pn (pc o1 7) r5)) 0),(pi 0),(br qL (pi 1))]
 (.call ⟨[(88,(.nt r86))],[]⟩ [(88,false)] 93 85 [(pc o6 1),(pi 0),(pc o6 2)]
 (.ite (.pick (.pick Dx pT (.nt N4)) pT (aU (pc o6 2) (pi 100000)))
 (.ret (pi 1))
 (.next ⟨[],[]⟩)))))
 (.next ⟨[(5,zU)],[]⟩))
 (.exit 2 ⟨[(68,r5),(69,pN),(70,(pc o1 7)),(71,zT),(72,(aj r5 zT))],[]⟩))
def YL:PT:=
 (.ite (aU (.llen (pc (.mk [r0]) 6)) (pi 100))
 (.ret (pi 6))
 (.brk ⟨[(3,(pi 0)),(2,(pi 0))],[(1,(.mk [r0]))]⟩
(auc b)
 (.ite (aU zT (pi 20))
 (.ret (pi 6))
 (.brk ⟨[(5,(pi 0))],[]⟩
(aud b)
 (.ret (pi 0))))))
def ao7:PT×List (Shp×PT):=(YL b,[(.lp 0 [2,3,11,12,13,14,15] [] [2,3] [],H3 b),(.lp 2 [2,5,68,69,70,71,72] [] [2,5] [],H4 b)])
def Nb:Bl.map told=some (ao7 (bo Bl)):=by kernel_rfl
def aAb:tree (ab Bl)=YL ED:=bF Nb
def Wn:round 0 [2,3,11,12,13,14,15] [] [2,3] [] (ED 0)=H3 ED:=bj Nb 0 λ_=>rfl
def Wo:round 2 [2,5,68,69,70,71,72] [] [2,5] [] (ED 1)=H4 ED:=bj Nb 1 λ_=>rfl
def yw:Option PC:=cF [4,5,6,7,8,11] [] Tryz.f24 24 [2,3,10]
def Ey:Nat->PC:=bm yw
def atL:PC:=.block 0 [4,48,49] [] (.loop [4,48] [] (b 0))
def atM:PC:=.block 2 [4,8,62,63] [] (.loop [4,8,62] [] (b 1))
def HL (b:Nat->PC):PT:=
 (.ite (aj kc Dt)
 (.blockS ⟨[],[]⟩ 1 [4,6,7,50,51,52,53,54,55,56] []
 (.call ⟨[],[]⟩ [] 54 52 [(aA 8 o2),(aA 19 o3),kc]
 (.ite (aJ mO (pi 0))
 (.ret mO)
 (.next ⟨[],[]⟩)))
 (.next ⟨[(48,(aE kc (pi 1)))],[]⟩))
 (.exit 0 ⟨[(49,(aj kc Dt))],[]⟩))
def HM (b:Nat->PC):PT:=
 (.ite (aj pC Hx)
 (.blockS ⟨[],[]⟩ 3 [4,8,10,64,65,66,67,68,69,70,71,72,73,74,75,76,77,78,79,80] [10]
 (.chk (aq Hw pC)
 (.call ⟨[],[(10,(.setc z2 0 (pn Hw pC)))]⟩ [] 73 53 [(pc (.setc z2 0 (pn Hw pC)) 0),sF,(.llen (pc o3 15))]
 (.ite (.nt Hz)
 (.ret (pi 1))
 (.call ⟨[],[]⟩ [] 77 53 [(pc cg 1),(pi 1),zQ]
 (.ite (.nt r77)
 (.ret (pi 3))
 (.next ⟨[(8,(pc cg 0))],[]⟩))))))
 (.next ⟨[(62,(aE pC (pi 1)))],[]⟩))
 (.exit 2 ⟨[(63,(aj pC Hx))],[]⟩))
def Yf:PT:=
 (.ite (.pick (.pick (.pick (aU (.llen (pc (.mk [r1]) 15)) (pi 40)) pT (aU (.llen (pc (.mk [r1]) 16)) (pi 4))) pT (aU (.llen (pc (.mk [r1]) 17)) (pi 100))) pT (aU (.llen (pc (.mk [r1]) 18)) (pi 200)))
 (.ret (pi 6))
 (.call ⟨[(4,(pi 0))],[(3,(.mk [r1])),(2,(.mk [r0]))]⟩ [] 37 51 [j7,(aA 15 (.mk [r1]))]
 (.ite (aJ mN (pi 0))
 (.ret mN)
 (.ite (peq (.llen (pc o3 15)) (pi 0))
 (.ret (pi 14))
 (.brk ⟨[(48,(pi 0)),(47,(.llen (pc o3 15)))],[]⟩
(atL b)
 (.brk ⟨[(62,(pi 0)),(61,(.llen (pc o3 16))),(60,(pc o3 16)),(8,(pi 0))],[]⟩
(atM b)
 (.call ⟨[],[]⟩ [] 84 54 [(aA 8 o2),(aA 19 o3)]
 (.ite (aJ r84 (pi 0))
 (.ret r84)
 (.call ⟨[],[]⟩ [] 89 55 [(aA 19 o3)]
 (.ret r89))))))))))
def aoP:PT×List (Shp×PT):=(Yf b,[(.lp 0 [4,48,49] [] [4,48] [],HL b),(.lp 2 [4,8,62,63] [] [4,8,62] [],HM b)])
def M6:yw.map told=some (aoP (bo yw)):=by kernel_rfl
def azB:tree (ab yw)=Yf Ey:=bF M6
def V9:round 0 [4,48,49] [] [4,48] [] (Ey 0)=HL Ey:=bj M6 0 λ_=>rfl
def Wa:round 2 [4,8,62,63] [] [4,8,62] [] (Ey 1)=HM Ey:=bj M6 1 λ_=>rfl
def E4:Option PC:=cF [4,5,6,7,8,54,80,109,118,9,10] [] Tryz.f51 51 [2,3]
def ZX:PT:=
 (.call ⟨[],[(3,(.mk [r1])),(2,(.mk [r0]))]⟩ [] 12 72 [j7]
 (.ite (aJ cn (pi 0))
 (.ret cn)
 (.call ⟨[(7,(.llen (pc o2 1))),(6,(.llen (pc o2 3)))],[]⟩ [] 25 87 [(pc o3 0),(.llen (pc o2 3))]
 (.call ⟨[(26,ka)],[]⟩ [(26,true)] 30 87 [(pc o3 1),r6]
 (.call ⟨[(36,(peq (pc o3 2) (pi (-1)))),(32,(.pick nJ sK pF))],[]⟩ [(36,false),(32,true)] 40 87 [(pc o3 2),r6]
 (.call ⟨[(47,(peq (pc o3 11) (pi (-1)))),(43,(.pick xk (.pick lE pT qO) pF))],[]⟩ [(47,false),(43,true)] 51 87 [(pc o3 11),r6]
 (.blockS ⟨[(8,(.pick vz (.pick Dt pT nL) pF))],[]⟩ 0 [4,54,55,56,57,65,66,72,73,79,80,81,82,83,84,88,89,93,94,98,99,103,104,108,109,110,111,112,113,117,118,119,120,121,122,126,127,137,138,142] []
 (.call ⟨[(57,(.nt r8))],[]⟩ [(57,false)] 63 87 [(pc o3 4),(.llen (pc o2 0))]
 (.call ⟨[(66,(.pick N2 pT (.nt N3)))],[]⟩ [(66,false)] 70 87 [(pc o3 9),r7]
 (.call ⟨[(73,(.pick r66 pT (.nt r70)))],[]⟩ [(73,false)] 77 87 [(pc o3 10),r7]
 (.iteS ⟨[],[]⟩ (.pick Hz pT (.nt r77)) [4,80,81,82,83,84,88,89,93,94,98,99,103,104,108,109,110,111,112,113,117,118,119,120,121,122,126,127,137,138,142] []
 (.ret (pi 1))
 (.iteS ⟨[],[]⟩ (.pick (.pick (.pick (.pick (.pick (aj (pc o3 3) (pi 1)) pT (aU (pc o3 3) zQ)) pT (aj (pc o3 8) (pi 0))) pT (aU (pc o3 8) (pi 100000))) pT (aj (pc o3 12) (pi 0))) pT (aU (pc o3 12) (pi 1000))) [4,109,110,111,112,113,117,118,119,120,121,122,126,127,137,138,142] []
 (.ret (pi 3))
 (.iteS ⟨[],[]⟩ (.pick (aj (pc o3 14) (pi 1)) pT (aU (pc o3 14) (pi 4))) [4,118,119,120,121,122,126,127,137,138,142] []
 (.ret (pi 15))
 (.call ⟨[(138,(.pick (.pick (aj (pc o3 13) (pi 0)) pT (aU (pc o3 13) (pi 7))) pT (.pick (aJ (.ai .and .i64 (pc o3 13) (pi 4)) (pi 0)) (peq (pc o3 2) (pi (-1))) pF)))],[]⟩ [(138,false)] 140 88 [(aA 15 o3)]
 (.ite (.pick (.r 138) pT (.nt (.r 140)))
 (.ret (pi 2))
 (.next ⟨[],[]⟩)))
 (.next ⟨[],[]⟩))
 (.next ⟨[],[]⟩))
 (.next ⟨[],[]⟩)))))
 (.iteS ⟨[],[]⟩ (peq (pc o3 5) (pi 4)) [4] []
 (.call ⟨[],[]⟩ [] 153 89 [(aA 8 o2),(pc o3 9),(pc o3 10)]
 (.ret (.tget (.r 153) 1)))
 (.next ⟨[],[]⟩)
 (.ret (pi 0))))))))))
def ahP:E4.map told=some (ZX,[]):=by kernel_rfl
def aBe:tree (ab E4)=ZX:=aW ahP
def K9:Option PC:=cF [4] [] Tryz.f87 87 []
def ZY:PT:=
 (.ret VG)
def ahQ:K9.map told=some (ZY,[]):=by kernel_rfl
def aBf:tree (ab K9)=ZY:=aW ahQ
def La:Option PC:=cF [2,8,19,40] [] Tryz.f88 88 [1,3]
def ZZ:PT:=
 (.ite (.pick (peq (pc mf 0) (pi 0)) (peq (pc mf 0) (pi 0)) (peq (pc mf 0) (pi 4)))
 (.ret (.pick (peq (pc mf 1) (pi 0)) (peq (pc mf 2) (pi 0)) pF))
 (.ite (.pick (peq (pc mf 0) (pi 1)) (peq (pc mf 0) (pi 1)) (peq (pc mf 0) (pi 2)))
 (.ret (.pick (.pick (bk (pc mf 1) (pi 1)) (bE (pc mf 1) (pi 400)) pF) (.pick (peq (pc mf 2) (pi 0)) pT (peq (pc mf 2) (pi 1))) pF))
 (.ite (peq (pc mf 0) (pi 3))
 (.ret (.pick (.pick (bk (pc mf 1) (pc (.mk [r0]) 8)) (bE (pc mf 1) (pi 100000)) pF) (peq (pc mf 2) (pi 0)) pF))
 (.ret pF))))
def ahR:La.map told=some (ZZ,[]):=by kernel_rfl
def aBg:tree (ab La)=ZZ:=aW ahR
def A7:Option PC:=cF [6,8,9,76,92,98] [] Tryz.f52 52 [3,4,7,11]
def Qj:Nat->PC:=bm A7
def atQ:PC:=.block 0 [8,9,51,52] [] (.loop [8,9,51] [] (b 0))
def Oe (b:Nat->PC):PT:=
 (.ite (aj nL nK)
 (.chk (aq pB nL)
 (.next ⟨[(8,(pc (.setc z9 0 (pn pB nL)) 6)),(9,(.pick r9 pT (.pick (.pick (peq (pc o7 0) (pi 1)) (peq (pc (.setc z9 0 (pn pB nL)) 0) (pi 1)) pF) (peq (pc (.setc z9 0 (pn pB nL)) 1) (pc o7 1)) pF))),(51,(aE nL (pi 1)))],[]⟩))
 (.exit 0 ⟨[(52,(aj nL nK))],[]⟩))
def Yn:PT:=
 (.chk (aq (pc (.mk [r1]) 15) r2)
 (.call ⟨[],[(7,qJ),(4,(.mk [r1])),(3,(.mk [r0]))]⟩ [] 23 53 [(pc qJ 1),(pi 0),(br (pc (.mk [r1]) 14) (pi 1))]
 (.ite (.nt iu)
 (.ret (pi 15))
 (.call ⟨[],[]⟩ [] 31 53 [(pc o7 2),(pi 0),NH]
 (.call ⟨[(33,(.nt sL))],[]⟩ [(33,false)] 40 53 [(pc o7 7),(pi 0),(br (.llen (pc o3 1)) (pi 1))]
 (.ite (.pick uk pT (.nt qO))
 (.ret (pi 1))
 (.chk (.slok (pc o4 15) (pi 0) r2)
 (.brk ⟨[(51,(pi 0)),(50,(.llen (.slc (pc o4 15) (pi 0) r2))),(49,(.slc (pc o4 15) (pi 0) r2)),(9,pF),(8,(pc o4 8))],[]⟩
(atQ b)
 (.blockS ⟨[],[]⟩ 2 [6,76,77,78,79,80,81,82,91,92,93,94,95,96,97,98,99] []
 (.call ⟨[],[]⟩ [] 80 53 [(pc o7 6),r8,(pi 100000)]
 (.iteS ⟨[],[]⟩ (.pick (.nt Aa) pT (.pick (peq r2 (pi 0)) (aJ (pc o7 6) r8) pF)) [6,92,93,94,95,96,97,98,99] []
 (.ret (pi 13))
 (.call ⟨[],[]⟩ [] 96 90 [(aA 8 o3),(aA 19 o4),r2]
 (.ite (.nt r96)
 (.ret (pi 14))
 (.ite r9
 (.ret (pi 5))
 (.next ⟨[],[]⟩))))
 (.next ⟨[],[]⟩)))
 (.ret (pi 0)))))))))))
def aoT:PT×List (Shp×PT):=(Yn b,[(.lp 0 [8,9,51,52] [] [8,9,51] [],Oe b)])
def Uv:A7.map told=some (aoT (bo A7)):=by kernel_rfl
def azJ:tree (ab A7)=Yn Qj:=bF Uv
def ajc:round 0 [8,9,51,52] [] [8,9,51] [] (Qj 0)=Oe Qj:=bj Uv 0 λ_=>rfl
def Ko:Option PC:=cF [6] [] Tryz.f53 53 []
def Ym:PT:=
 (.ret (.pick (bk r0 r1) (bE r0 r2) pF))
def ag4:Ko.map told=some (Ym,[]):=by kernel_rfl
def azI:tree (ab Ko)=Ym:=aW ag4
def Km:Option PC:=cF [6,9,10,66,103,113,11,140,149] [] Tryz.f90 90 [3,4,7,8]
def Yl:PT:=
 (.chk (aq (pc (.mk [r1]) 15) r2)
 (.ite (.pick (.cb .neq (peq r2 (pi 0)) (peq (pc qJ 0) (pi 0))) pT (.pick (aJ (pc qJ 0) (pi 2)) (aJ (pc qJ 4) (pi (-1))) pF))
 (.ret pF)
 (.ite (.pick (.pick (aJ (pc qJ 0) (pi 3)) (aJ (pc qJ 0) (pi 4)) pF) (aJ (pc qJ 3) (pi (-1))) pF)
 (.ret pF)
 (.call ⟨[(9,(.pick (peq (pc qJ 5) (pi 0)) (peq (pc qJ 8) (pi 0)) pF))],[(8,(.setc Ja 0 (aA 15 (.mk [r1])))),(7,qJ),(4,(.mk [r1])),(3,(.mk [r0]))]⟩ [] 58 53 [(pc qJ 5),(pi 1),zQ]
 (.blockS ⟨[(65,(pc o7 0)),(10,(.pick Hv (peq (pc o7 8) (pi 0)) pF))],[]⟩ 0 [6,66,67,103,104,113,114,140,141,149,150] []
 (.iteS ⟨[],[]⟩ (peq Dw (pi 0)) [6,103,104,113,114,140,141,149,150] []
 (.ret (.pick (.pick (.pick (.pick (.pick (peq (pc o7 2) (pc o8 0)) (peq (pc o7 5) (pi 0)) pF) (peq (.ai .or .i64 (pc o7 8) (pi 1)) (pi 1)) pF) (peq (pc o7 1) (pi 0)) pF) (peq (pc o7 6) (pc o8 8)) pF) (peq (pc o7 7) (pc o8 9)) pF))
 (.iteS ⟨[],[]⟩ (peq Dw (pi 1)) [6,113,114,140,141,149,150] []
 (.ret (.pick (peq (pc o7 2) (pc o8 1)) dx pF))
 (.iteS ⟨[],[]⟩ (peq Dw (pi 2)) [6,140,141,149,150] []
 (.call ⟨[(11,(pi 6))],[]⟩ [] 121 53 [(pc o7 4),(pi (-1)),NH]
 (.call ⟨[(127,(.pick awV (peq (pc o7 5) (pi 0)) pF))],[]⟩ [(127,true)] 130 53 [(pc o7 8),(pi 0),(pi 7)]
 (.ret (.pick (.pick awW (.r 130) pF) (aJ (.ai .and .i64 (pc o7 8) bQ) bQ) pF))))
 (.iteS ⟨[],[]⟩ (peq Dw (pi 3)) [6,149,150] []
 (.call ⟨[(143,r9)],[]⟩ [(143,true)] 147 131 [(aA 19 o4),r2,(.lst [(pi 0),(pi 1),(pi 2),(pi 4)])]
 (.ret (.pick (.r 143) (.r 147) pF)))
 (.iteS ⟨[],[]⟩ (peq Dw (pi 4)) [6] []
 (.call ⟨[(159,(.pick dx (aJ (pc o7 2) (pc o8 1)) pF))],[]⟩ [(159,true)] 163 131 [(aA 19 o4),r2,(.lst [(pi 0),(pi 2)])]
 (.ret (.pick (.r 159) (.r 163) pF)))
 (.next ⟨[],[]⟩)
 (.next ⟨[],[]⟩))
 (.next ⟨[],[]⟩))
 (.next ⟨[],[]⟩))
 (.next ⟨[],[]⟩))
 (.next ⟨[],[]⟩))
 (.ret pF))))))
def ag3:Km.map told=some (Yl,[]):=by kernel_rfl
def azH:tree (ab Km)=Yl:=aW ag3
def Kl:Option PC:=cF [6,7] [] Tryz.f131 131 [3]
def Yj:PT:=
 (.chk (aq sE r1)
 (.call ⟨[(7,(pc (pn sE r1) 3))],[(3,(.mk [r0]))]⟩ [] 17 53 [(pc (pn sE r1) 3),(pi 0),(br r1 (pi 1))]
 (.chk (.nt (.an (.an lD pT) (.nt (aq (pc o3 15) r1))))
 (.call ⟨[(18,lD)],[]⟩ [(18,true)] 27 132 [(aA 19 o3),r7,(pc (pn (pc o3 15) r1) 1)]
 (.chk (.nt (.an (.an (.pick cP eK pF) pT) (.nt (aq (pc o3 15) r7))))
 (.call ⟨[(29,(.pick cP eK pF))],[]⟩ [(29,true)] 37 168 [r2,(pc (pn (pc o3 15) r7) 0)]
 (.ret (.pick mM mN pF))))))))
def ag2:Kl.map told=some (Yj,[]):=by kernel_rfl
def azF:tree (ab Kl)=Yj:=aW ag2
def Kp:Option PC:=cF [6] [] Tryz.f132 132 [3]
def Pc:PT:=
 (.chk (.nt (.an (.an (.nt (peq r1 (pi 0))) pT) (.nt (aq sE r1))))
 (.ret (.pick (peq r1 (pi 0)) pT (peq (pc (pn sE r1) 1) r2))))
def ag5:Kp.map told=some (Pc,[]):=by kernel_rfl
def azK:tree (ab Kp)=Pc:=aW ag5
def A5:Option PC:=cF [4,5,7] [] Tryz.f54 54 [2,3,6]
def Qh:Nat->PC:=bm A5
def atO:PC:=.block 0 [4,11,12] [] (.loop [4,11] [] (b 0))
def Oc (b:Nat->PC):PT:=
 (.ite (aj bQ dx)
 (.blockS ⟨[],[]⟩ 1 [4,5,6,7,13,14,15,16,17,18,19,20,21,22,23,24,25,26,27,28,29,30,31,32,37,38,39,40,41,42,43,44,45,46,47,48,58,59,69,70,71,72,73] [6]
 (.chk (aq r9 bQ)
 (.call ⟨[(5,bQ)],[(6,(.setc z9 0 (pn r9 bQ)))]⟩ [] 22 53 [(pc (.setc z9 0 (pn r9 bQ)) 3),(pi 0),(br (pc o3 14) (pi 1))]
 (.ite (.nt pz)
 (.ret (pi 15))
 (.call ⟨[],[]⟩ [] 30 53 [(pc o6 7),(pi 0),(br (.llen (pc o2 1)) (pi 1))]
 (.call ⟨[(32,(.nt sK))],[]⟩ [(32,false)] 35 53 [(pc o6 0),(pi 0),(pi 9)]
 (.ite (.pick xk pT (.nt sM))
 (.ret (pi 1))
 (.call ⟨[],[]⟩ [] 41 91 [(aA 8 o2),(aA 19 o3),(aA 9 o6)]
 (.ite (.nt um)
 (.ret (pi 14))
 (.ite (aJ (pc o6 4) (pi (-1)))
 (.chk (aq (pc o3 15) (pc o6 4))
 (.ite (aU r5 (pi 0))
 (.chk (aq (pc o3 17) (br r5 (pi 1)))
 (.call ⟨[],[]⟩ [] 72 53 [(pc o6 6),(.mx (.mx (pc o3 8) (pc (pn (pc o3 15) (pc o6 4)) 6)) (pc (pn (pc o3 17) (br r5 (pi 1))) 6)),(pi 100000)]
 (.ite (.nt Hy)
 (.ret (pi 13))
 (.next ⟨[],[]⟩))))
 (.call ⟨[],[]⟩ [] 72 53 [(pc o6 6),(.mx (pc o3 8) (pc (pn (pc o3 15) (pc o6 4)) 6)),(pi 100000)]
 (.ite (.nt Hy)
 (.ret (pi 13))
 (.next ⟨[],[]⟩)))))
 (.ite (aU r5 (pi 0))
 (.chk (aq (pc o3 17) (br r5 (pi 1)))
 (.call ⟨[],[]⟩ [] 72 53 [(pc o6 6),(.mx (pc o3 8) (pc (pn (pc o3 17) (br r5 (pi 1))) 6)),(pi 100000)]
 (.ite (.nt Hy)
 (.ret (pi 13))
 (.next ⟨[],[]⟩))))
 (.call ⟨[],[]⟩ [] 72 53 [(pc o6 6),(pc o3 8),(pi 100000)]
 (.ite (.nt Hy)
 (.ret (pi 13))
 (.next ⟨[],[]⟩)))))))))))))
 (.next ⟨[(11,(aE bQ (pi 1)))],[]⟩))
 (.exit 0 ⟨[(12,(aj bQ dx))],[]⟩))
def Yi:PT:=
 (.brk ⟨[(11,(pi 0)),(10,(.llen (pc (.mk [r1]) 17))),(9,(pc (.mk [r1]) 17)),(4,(pi 0))],[(3,(.mk [r1])),(2,(.mk [r0]))]⟩
(atO b)
 (.ret (pi 0)))
def aoR:PT×List (Shp×PT):=(Yi b,[(.lp 0 [4,11,12] [] [4,11] [],Oc b)])
def Ut:A5.map told=some (aoR (bo A5)):=by kernel_rfl
def azE:tree (ab A5)=Yi Qh:=bF Ut
def aja:round 0 [4,11,12] [] [4,11] [] (Qh 0)=Oc Qh:=bj Ut 0 λ_=>rfl
def Kk:Option PC:=cF [6,7,8,9,65,80,100,111] [] Tryz.f91 91 [3,4,5]
def Yh:PT:=
 (.call ⟨[],[(5,(.mk [r2])),(4,(.mk [r1])),(3,(.mk [r0]))]⟩ [] 16 53 [(pc (.mk [r2]) 4),(pi 0),(br (.llen (pc (.mk [r1]) 15)) (pi 1))]
 (.call ⟨[(17,cA)],[]⟩ [(17,true)] 23 132 [(aA 19 o4),(pc o5 4),(pc o5 3)]
 (.chk (.nt (.an (.an (.pick lD iu pF) pT) (.nt (aq (pc o4 15) (pc o5 4)))))
 (.call ⟨[(8,(.pick (.pick lD iu pF) (peq (pc (pn (pc o4 15) (pc o5 4)) 2) (pc o5 1)) pF)),(7,(.pick lD iu pF))],[]⟩ [] 44 53 [(pc o5 2),(pi 0),NH]
 (.call ⟨[(9,xl)],[]⟩ [] 51 53 [(pc o5 1),(pi 0),NH]
 (.ite (.pick (.nt nL) pT (.pick (aJ (pc o5 0) (pi 4)) (aJ (pc o5 8) (pi 0)) pF))
 (.ret pF)
 (.blockS ⟨[(64,(pc o5 0))],[]⟩ 0 [6,65,66,80,81,100,101,111,112] []
 (.iteS ⟨[],[]⟩ (.pick (peq nM (pi 0)) (peq nM (pi 0)) (.pick (peq nM (pi 1)) (peq nM (pi 1)) (peq nM (pi 2)))) [6,80,81,100,101,111,112] []
 (.ret (.pick (.pick r9 (peq (pc o5 4) (pi (-1))) pF) (peq (pc o5 5) (pi 0)) pF))
 (.iteS ⟨[],[]⟩ (.pick (peq nM (pi 3)) (peq nM (pi 3)) (.pick (peq nM (pi 5)) (peq nM (pi 5)) (peq nM (pi 4)))) [6,100,101,111,112] []
 (.call ⟨[(90,(.pick r9 (peq (pc o5 4) (pi (-1))) pF))],[]⟩ [(90,true)] 93 53 [(pc o5 5),(pi 0),zQ]
 (.call ⟨[(95,(.pick r90 N4 pF))],[]⟩ [(95,true)] 98 53 [(pc o5 8),(pi 0),(pi 1)]
 (.ret (.pick r95 r98 pF))))
 (.iteS ⟨[],[]⟩ (peq nM (pi 6)) [6,111,112] []
 (.call ⟨[(106,(.pick r9 r8 pF))],[]⟩ [(106,true)] 109 53 [(pc o5 5),(pi 1),zQ]
 (.ret (.pick Dr aiP pF)))
 (.ite (peq nM (pi 9))
 (.ret (.pick (.pick (peq (pc o5 2) (pi (-1))) r8 pF) (peq (pc o5 5) (pi 0)) pF))
 (.next ⟨[],[]⟩))
 (.next ⟨[],[]⟩))
 (.next ⟨[],[]⟩))
 (.next ⟨[],[]⟩))
 (.ret (.pick (.pick (peq (pc o5 2) (pi (-1))) r7 pF) (peq (pc o5 5) (pi 0)) pF)))))))))
def ag1:Kk.map told=some (Yh,[]):=by kernel_rfl
def azD:tree (ab Kk)=Yh:=aW ag1
end Rm
