/-
  The functions of this seat, compiled (1).
-/
import Derived.Test.YtibbcfbmjlehcaaGreatDoorGAJ
import Derived.KernelRfl
set_option linter.defProp false
set_option linter.unusedVariables false
set_option maxRecDepth 100000
noncomputable section
namespace Rm
open Go Go.Proofs Cx
def A2:Option PC:=cF [12,13,15,17,18,19,20,21,22,23,24] [] Tryz.f3 3 [6,8,10,14,16]
def Qe:Nat->PC:=bm A2
variable(b:Nat->PC)
def atJ:PC:=.block 0 [15,38,39,40,41] [14] (.loop [15] [14] (b 0))
def N8 (b:Nat->PC):PT:=
 (.ite (aj cR (.llen r5))
 (.blockS ⟨[],[]⟩ 1 [16,44,45,46,47,48,49,50,51,55,56,60,61,68,69,73,74,78] [16,14]
 (.chk (aq r5 cR)
 (.iteS ⟨[],[(16,z7)]⟩ (.pick (.pick (.pick (.pick (.pick (bk (pc z7 0) (pi 0)) (aj (pc z7 0) (pi 5)) pF) (bk (pc z7 1) (pi 0)) pF) (aj (pc z7 1) (.llen (pc o8 15))) pF) (bk (pc z7 2) (pi 0)) pF) (bE (pc z7 2) (pi 1)) pF) [] [14]
 (.call ⟨[],[]⟩ [] 81 8 [(aA 19 M2),(.mk [(pc Uh 0),(pc Uh 1),(pc Uh 2)])]
 (.next ⟨[],[(14,(.setc M2 0 vB))]⟩))
 (.next ⟨[],[]⟩)
 (.next ⟨[],[]⟩)))
 (.next ⟨[(15,(aE cR (pi 1)))],[]⟩))
 (.exit 0 ⟨[(38,cR),(39,r5),(40,(.llen r5)),(41,(aj cR (.llen r5)))],[]⟩))
def X2:PT:=
 (.call ⟨[],[(10,(.mk [r4])),(8,(.mk [r2])),(6,(.mk [r0]))]⟩ [] 25 6 []
 (.call ⟨[(13,ka)],[]⟩ [] 29 7 [(aA 8 o6),(aA 19 o8),Hp]
 (.ite (.pick (.nt mM) pT (aU (.llen r5) (pi 30)))
 (.ret dy)
 (.brk ⟨[(15,(pi 0))],[(14,(.setc vy 0 (aA 19 o8)))]⟩
(atJ b)
 (.call ⟨[],[]⟩ [] 88 9 [(aA 8 o6),r1,(aA 19 o8),r3,Hp]
 (.call ⟨[(18,(.tget Dx 1)),(17,(.tget Dx 0))],[]⟩ [] 97 9 [(aA 8 o6),r1,(aA 19 M2),r3,Hp]
 (.call ⟨[(20,(.tget r97 1)),(19,(.tget r97 0))],[]⟩ [] 106 10 [(aA 8 o6),r1,(aA 19 o8),r3,Hp]
 (.call ⟨[(22,(.tget Dr 1)),(21,(.tget Dr 0))],[]⟩ [] 115 10 [(aA 8 o6),r1,(aA 19 M2),r3,Hp]
 (.ret (.pick (.pick (.pick (.pick dy (peq cP fc) pF) (peq pz (.tget aiQ 1)) pF) (bE lD jv) pF) (bE iT (.tget aiQ 0)) pF))))))))))
def aoN:PT×List (Shp×PT):=(X2 b,[(.lp 0 [15,38,39,40,41] [14] [15] [14],N8 b)])
def Uq:A2.map told=some (aoN (bo A2)):=by kernel_rfl
def azo:tree (ab A2)=X2 Qe:=bF Uq
def ai7:round 0 [15,38,39,40,41] [14] [15] [14] (Qe 0)=N8 Qe:=bj Uq 0 λ_=>rfl
def Kc:Option PC:=cF [0,2,3,4,5,6,7,8,9,10,11,12,13] [] Tryz.f6 6 [1,17]
def X7:PT:=
 (.call ⟨[],[]⟩ [] 14 15 []
 (.call ⟨[(16,(aA 8 aiF))],[(17,(.lst [(pi 0),(pi 1)])),(1,aiF)]⟩ [] 18 17 []
 (.call ⟨[],[]⟩ [] 19 16 [cA,M3,cP]
 (.call ⟨[(23,(aA 8 o1)),(3,(.tget jv 1)),(2,(.tget jv 0))],[]⟩ [] 24 18 [(pi 1000),(pi 0)]
 (.call ⟨[],[]⟩ [] 25 17 []
 (.call ⟨[],[]⟩ [] 26 10 [iu,(pi 0),pA,(pi 4),ka]
 (.call ⟨[(30,(aA 8 o1)),(5,(.tget nJ 1)),(4,(.tget nJ 0))],[]⟩ [] 31 18 [(pi 1000),(pi 0)]
 (.call ⟨[],[]⟩ [] 32 17 []
 (.call ⟨[],[]⟩ [] 33 9 [sK,(pi 0),sL,(pi 4),xk]
 (.call ⟨[(37,(aA 8 o1)),(7,(.tget uk 1)),(6,(.tget uk 0))],[]⟩ [] 38 18 [(pi 1000),(pi 1)]
 (.call ⟨[],[]⟩ [] 39 17 []
 (.call ⟨[],[]⟩ [] 40 9 [mN,(pi 0),jK,(pi 4),qN]
 (.call ⟨[(44,(aA 8 o1)),(9,(.tget qO 1)),(8,(.tget qO 0))],[]⟩ [] 45 18 [(pi 600),(pi 1)]
 (.call ⟨[],[]⟩ [] 46 17 []
 (.call ⟨[],[]⟩ [] 47 10 [xl,(pi 0),sN,(pi 4),Ds]
 (.call ⟨[(51,(aA 8 o1)),(11,(.tget Dt 1)),(10,(.tget Dt 0))],[]⟩ [] 52 18 [(pi 600),(pi 1)]
 (.call ⟨[],[]⟩ [] 53 17 []
 (.call ⟨[],[]⟩ [] 54 9 [nL,(pi 0),Du,(pi 4),VU]
 (.call ⟨[(79,(.pick (.pick (.pick (.pick (.pick (aJ r3 (pi 0)) pT (aJ r5 (pi 0))) pT (aJ r7 (pi 0))) pT (aJ r9 (pi 0))) pT (aJ bQ (pi 0))) pT (aJ (.tget mO 1) (pi 0)))),(12,(.tget mO 0))],[]⟩ [(79,false)] 81 19 [(.mk [(pi 0),pL])]
 (.ite (.pick r79 pT (aJ vB (pi 1)))
 (.ret pF)
 (.call ⟨[(107,(aA 8 o1)),(106,(.pick (.pick (.pick (.pick (.pick (peq r2 (pi 50000000)) (peq r4 (pi 900)) pF) (peq r6 (pi 891)) pF) (peq r8 (pi 940)) pF) (peq dx (pi 770)) pF) (peq cn (pi 762)) pF))],[]⟩ [(106,true)] 108 18 [(pi 600),(pi 1)]
 (.call ⟨[],[]⟩ [(106,true)] 109 21 [awT,(pi 0),N1,(pi 4),(pi 601)]
 (.call ⟨[],[]⟩ [(106,true)] 111 20 [aiP,(.lst [(pi 1)])]
 (.ret (.pick Dr awU pF)))))))))))))))))))))))))
def agT:Kc.map told=some (X7,[]):=by kernel_rfl
def azt:tree (ab Kc)=X7:=aW agT
def Kb:Option PC:=cF [] [] Tryz.f15 15 [0,24576,28672,32768,1,12289,2,12290]
def X5:PT:=
 (.ret (.mk [(pc Hk 0),(pc Hk 1),(pc Hk 2),(pc Hk 3),(pc Hk 4),pL,pL,pL]))
def agS:Kb.map told=some (X5,[]):=by kernel_rfl
def azr:tree (ab Kb)=X5:=aW agS
def A3:Option PC:=cF [2] [] Tryz.f17 17 [0,1]
def Qf:Nat->PC:=bm A3
def atK:PC:=.block 0 [2,4,5,6,7] [1] (.loop [2] [1] (b 0))
def N9 (b:Nat->PC):PT:=
 (.ite (aj r2 (.llen o1))
 (.chk (aq o1 r2)
 (.next ⟨[(2,(aE r2 (pi 1)))],[(1,(.setn o1 r2 0 (.mk [(pi 1),(pi 1)])))]⟩))
 (.exit 0 ⟨[(4,r2),(5,r1),(6,(.llen o1)),(7,(aj r2 (.llen o1)))],[]⟩))
def X6:PT:=
 (.chk (.an (bk (pi 10) (pi 0)) (bE (pi 10) cK))
 (.chk (peq (pi 10) (pi 10))
 (.brk ⟨[(2,(pi 0)),(1,pN)],[(1,(.rep (pi 10) z2)),(0,(.con (.agg [(.int 0),(.list [])])))]⟩
(atK b)
 (.chk (aq o1 (pi 3))
 (.chk (aq (.setn o1 (pi 3) 0 (.mk [(pi 1),(pi 10)])) (pi 5))
 (.ret (.mk [(pc aiH 0),(pc aiH 1)])))))))
def aoO:PT×List (Shp×PT):=(X6 b,[(.lp 0 [2,4,5,6,7] [1] [2] [1],N9 b)])
def Ur:A3.map told=some (aoO (bo A3)):=by kernel_rfl
def azs:tree (ab A3)=X6 Qf:=bF Ur
def ai8:round 0 [2,4,5,6,7] [1] [2] [1] (Qf 0)=N9 Qf:=bj Ur 0 λ_=>rfl
def A8:Option PC:=cF [6,7,8,9,10] [] Tryz.f16 16 [3,5]
def Qk:Nat->PC:=bm A8
def atT:PC:=.block 0 [8,16,17] [] (.loop [8,16] [] (b 0))
def HO (b:Nat->PC):PT:=
 (.ite (aj cA cR)
 (.chk (aq cw cA)
 (.chk (.nt (.an (.an (aU cA (pi 0)) (.an (.nt (.pick (.pick r8 pT (aj mL (pi 0))) pT (bk mL nI))) pT)) (.nt (aq r1 (br cA (pi 1))))))
 (.next ⟨[(8,(.pick (.pick (.pick r8 pT (aj mL (pi 0))) pT (bk mL nI)) pT (.pick (aU cA (pi 0)) (bk (pn r1 (br cA (pi 1))) mL) pF))),(16,(aE cA (pi 1)))],[]⟩)))
 (.exit 0 ⟨[(17,(aj cA cR))],[]⟩))
def Yo:PT:=
 (.call ⟨[],[(5,(.mk [r2])),(3,(.mk [r0]))]⟩ [] 12 19 [(.mk [(pc (.mk [r2]) 0),(pc (.mk [r2]) 1)])]
 (.brk ⟨[(16,(pi 0)),(15,(.llen r1)),(14,r1),(8,(aJ cn (pi 0)))],[]⟩
(atT b)
 (.ite r8
 (.ret (.tup [(pi 0),(pi 1)]))
 (.call ⟨[],[]⟩ [] 51 30 [(aA 8 o3),r1,(.mk [(pc o5 0),(pc o5 1)])]
 (.ret (.tup [nL,(pi 0)]))))))
def aoU:PT×List (Shp×PT):=(Yo b,[(.lp 0 [8,16,17] [] [8,16] [],HO b)])
def Uw:A8.map told=some (aoU (bo A8)):=by kernel_rfl
def azL:tree (ab A8)=Yo Qk:=bF Uw
def Wb:round 0 [8,16,17] [] [8,16] [] (Qk 0)=HO Qk:=bj Uw 0 λ_=>rfl
def Kq:Option PC:=cF [2,3] [] Tryz.f19 19 [1]
def DZ:PT:=
 (.call ⟨[(18,(.pick (.pick (aj j9 (pi 0)) pT (aU j9 (pi 1000))) pT (aJ (.llen mI) (pi 10))))],[]⟩ [(18,false)] 22 42 [mI,(.con (.clo 41 []))]
 (.ite (.pick cP pT pz)
 (.ret (pi 1))
 (.ret (pi 0))))
def ag6:Kq.map told=some (DZ,[]):=by kernel_rfl
def azN:tree (ab Kq)=DZ:=aW ag6
def Kr:Option PC:=cF [2] [] Tryz.f41 41 [1]
def Yp:PT:=
 (.ret (.pick (.pick (.pick (aj mI (pi 1)) pT (aU mI (pi 1073741824))) pT (aj j9 (pi 0))) pT (aU j9 mI)))
def ag7:Kr.map told=some (Yp,[]):=by kernel_rfl
def azM:tree (ab Kr)=Yp:=aW ag7
def KO:Option PC:=cF [4] [] Tryz.f42 42 []
def Zs:PT:=
 (.call ⟨[],[]⟩ [] 7 81 [r0,r1]
 (.ret (bk r7 (pi 0))))
def aht:KO.map told=some (Zs,[]):=by kernel_rfl
def aAJ:tree (ab KO)=Zs:=aW aht
def BH:Option PC:=cF [4,5] [] Tryz.f81 81 []
def QG:Nat->PC:=bm BH
def auN:PC:=.block 0 [4,8,9] [] (.loop [4,8] [] (b 0))
def Is (b:Nat->PC):PT:=
 (.ite (aj r8 r7)
 (.blockS ⟨[],[]⟩ 1 [4,5,10,11,12,13,14,15,16] []
 (.chk (aq r0 r8)
 (.callc ⟨[(5,r8)],[]⟩ [] 16 r1 [(pn r0 r8)]
 (.ite cA
 (.ret r5)
 (.next ⟨[],[]⟩))))
 (.next ⟨[(8,sF)],[]⟩))
 (.exit 0 ⟨[(9,(aj r8 r7))],[]⟩))
def Zx:PT:=
 (.brk ⟨[(8,(pi 0)),(7,(.llen r0)),(4,(pi 0))],[]⟩
(auN b)
 (.ret (pi (-1))))
def apw:PT×List (Shp×PT):=(Zx b,[(.lp 0 [4,8,9] [] [4,8] [],Is b)])
def US:BH.map told=some (apw (bo BH)):=by kernel_rfl
def aAO:tree (ab BH)=Zx QG:=bF US
def WL:round 0 [4,8,9] [] [4,8] [] (QG 0)=Is QG:=bj US 0 λ_=>rfl
def Ba:Option PC:=cF [6,7,9] [] Tryz.f30 30 [3,5,1,10]
def Qm:Nat->PC:=bm Ba
def atV:PC:=.block 0 [7,18,19] [] (.loop [7,18] [] (b 0))
def Og (b:Nat->PC):PT:=
 (.ite (aj cP lD)
 (.chk (aq o1 cP)
 (.chk (aq (pc o3 2) (pn o1 cP))
 (.chk (aq (pc o5 1) (pc (pn (pc o3 2) (pn o1 cP)) 0))
 (.chk (aJ (pc NX 1) (pi 0))
 (.next ⟨[(7,(.ai .quo .i64 (br (aE (.ai .mul .i64 r7 (pc NX 0)) (pc NX 1)) (pi 1)) (pc NX 1))),(18,(aE cP (pi 1)))],[]⟩)))))
 (.exit 0 ⟨[(19,(aj cP lD))],[]⟩))
def Yt:PT:=
 (.call ⟨[],[(5,(.mk [r2])),(3,(.mk [r0]))]⟩ [] 12 60 [r1]
 (.mcall ⟨[],[(3,(aA 8 o3)),(1,cn)]⟩ 1000000013 61 [pN,(.clo 62 [(.ref (aA 8 o3))]),cn]
 (.brk ⟨[(18,(pi 0)),(17,(.llen He)),(7,xg)],[(1,He)]⟩
(atV b)
 (.ret r7))))
def aoW:PT×List (Shp×PT):=(Yt b,[(.lp 0 [7,18,19] [] [7,18] [],Og b)])
def Uy:Ba.map told=some (aoW (bo Ba)):=by kernel_rfl
def azT:tree (ab Ba)=Yt Qm:=bF Uy
def aje:round 0 [7,18,19] [] [7,18] [] (Qm 0)=Og Qm:=bj Uy 0 λ_=>rfl
def Q5:Option PC:=cF [5] [] Tryz.f62 62 []
def azS:PT:=
 (.chk (aq (pc (.deref r2) 2) r0)
 (.chk (aq (pc (.deref r2) 2) r1)
 (.ret (br (pc (pn (pc (.deref r2) 2) r0) 0) (pc (pn (pc (.deref r2) 2) r1) 0)))))
def avu:Q5.map told=some (azS,[]):=by kernel_rfl
def Ka:Option PC:=cF [] [] Tryz.f18 18 [4,69636,73732,5,6,7]
def X3:PT:=
 (.ret (.mk [(pc ly 0),(pc ly 1),(pc ly 2),(pc ly 3),(pc ly 4),(pc ly 5),(pc ly 6),(pc ly 7),(pc ly 8),(pc ly 9),(pc ly 10),(pc ly 11),(pc ly 12),(pc ly 13),(pc ly 14),(pc ly 15),pL,pL,(pc ly 18)]))
def agQ:Ka.map told=some (X3,[]):=by kernel_rfl
def azp:tree (ab Ka)=X3:=aW agQ
def A9:Option PC:=cF [10,11,13,14,15,18,19,20] [] Tryz.f10 10 [5,7,9,12,17,52]
def Ql:Nat->PC:=bm A9
def atU:PC:=.block 0 [13,14,15,39,40] [] (.loop [13,14,15,39] [] (b 0))
def Of (b:Nat->PC):PT:=
 (.ite (aj qN jK)
 (.blockS ⟨[],[]⟩ 1 [13,14,15,17,41,42,43,44,45,46] [17]
 (.chk (aq Uf qN)
 (.ite (bE (pc VF 5) cR)
 (.exit 1 ⟨[],[]⟩)
 (.call ⟨[(47,(aA 8 o5))],[(17,VF)]⟩ [] 52 31 [(aA 8 o5),Uf,(pc VF 5)]
 (.call ⟨[],[]⟩ [] 54 30 [Dt,Du,(.mk [(pc o9 0),(pc o9 1)])]
 (.chk (aJ xg (pi 0))
 (.next ⟨[(15,(pc M3 5)),(14,(.ai .rem .i64 aim xg)),(13,(aE (aE dy (.ai .mul .i64 (.ai .quo .i64 (br (pc M3 5) cR) xg) (br xg mO))) (.ai .quo .i64 aim xg)))],[]⟩))))))
 (.next ⟨[(39,(aE qN (pi 1)))],[]⟩))
 (.exit 0 ⟨[(40,(aj qN jK))],[]⟩))
def Ys:PT:=
 (.call ⟨[],[(9,(.mk [r4])),(7,(.mk [r2])),(5,(.mk [r0]))]⟩ [] 22 19 [(.mk [(pc (.mk [r4]) 0),(pc (.mk [r4]) 1)])]
 (.call ⟨[(24,(aJ pz (pi 0)))],[]⟩ [(24,false)] 27 26 [(aA 8 o5),r1]
 (.ite (.pick pA pT (.nt eK))
 (.ret (.tup [(pi 0),(pi 1)]))
 (.call ⟨[],[]⟩ [] 34 27 [(aA 8 o5),r1,(aA 19 o7),r3]
 (.mcall ⟨[(12,pN)],[(12,Hu)]⟩ 1000000013 28 [pN,(.con (.clo 29 [])),Hu]
 (.brk ⟨[(39,(pi 0)),(38,(.llen He)),(15,(pi 0)),(14,(pi 0)),(13,(pi 0))],[(12,He)]⟩
(atU b)
 (.ret (.tup [dy,(pi 0)]))))))))
def aoV:PT×List (Shp×PT):=(Ys b,[(.lp 0 [13,14,15,39,40] [] [13,14,15,39] [],Of b)])
def Ux:A9.map told=some (aoV (bo A9)):=by kernel_rfl
def azR:tree (ab A9)=Ys Ql:=bF Ux
def ajd:round 0 [13,14,15,39,40] [] [13,14,15,39] [] (Ql 0)=Of Ql:=bj Ux 0 λ_=>rfl
def Ku:Option PC:=cF [4] [] Tryz.f26 26 [2]
def Yv:PT:=
 (.ret (.pick (bk r1 (pi 0)) (aj r1 Hg) pF))
def aha:Ku.map told=some (Yv,[]):=by kernel_rfl
def azV:tree (ab Ku)=Yv:=aW aha
def Kv:Option PC:=cF [] [] Tryz.f27 27 [4,6,8]
def Yw:PT:=
 (.call ⟨[],[]⟩ [] 13 11 [j7,r1,Hj,r3]
 (.call ⟨[],[]⟩ [] 14 56 [dy,(.con (.clo 57 []))]
 (.ret cw)))
def ahb:Kv.map told=some (Yw,[]):=by kernel_rfl
def azX:tree (ab Kv)=Yw:=aW ahb
def AU:Option PC:=cF [11] [] Tryz.f11 11 [4,6,8,9,10,28]
def P6:Nat->PC:=bm AU
def atA:PC:=.block 0 [10,21,22] [10] (.loop [10,21] [10] (b 0))
def N6 (b:Nat->PC):PT:=
 (.ite (aj iT fc)
 (.blockS ⟨[],[]⟩ 1 [10,11,23,25,26,27,28,29] [10,28]
 (.call ⟨[],[]⟩ [] 27 33 [(aA 31 o9),iT]
 (.chk (bE (.llen (.app cg (.lst [eK]))) cK)
 (.next ⟨[(10,pN)],[(10,(.app cg (.lst [eK])))]⟩)))
 (.next ⟨[(21,(aE iT (pi 1)))],[]⟩))
 (.exit 0 ⟨[(22,(aj iT fc))],[]⟩))
def XH:PT:=
 (.call ⟨[],[]⟩ [] 16 32 [j7,r1,Hj,r3]
 (.brk ⟨[(21,(pi 0)),(20,(.llen (pc (.setc VJ 0 cA) 25))),(10,pN)],[(10,pL),(9,(.setc VJ 0 cA))]⟩
(atA b)
 (.ret cg)))
def aoE:PT×List (Shp×PT):=(XH b,[(.lp 0 [10,21,22] [10] [10,21] [10],N6 b)])
def Ui:AU.map told=some (aoE (bo AU)):=by kernel_rfl
def ay0:tree (ab AU)=XH P6:=bF Ui
def ai5:round 0 [10,21,22] [10] [10,21] [10] (P6 0)=N6 P6:=bj Ui 0 λ_=>rfl
def JV:Option PC:=cF [] [] Tryz.f32 32 [4,6,8,9]
def XJ:PT:=
 (.call ⟨[],[(8,VJ),(4,(.mk [r0]))]⟩ [] 12 34 [Hj,r3]
 (.call ⟨[(16,(aA 19 (.setc vy 0 cn))),(15,r3),(14,r1),(13,(aA 8 o4))],[(9,(.setc vy 0 cn))]⟩ [] 21 36 [(aA 8 o4),r1,(pi 0),(aA 19 (.setc vy 0 cn)),r3]
 (.call ⟨[],[]⟩ [] 22 65 [iT]
 (.call ⟨[],[]⟩ [] 27 13 [(aA 8 o4),r1,(aA 19 o9),r3]
 (.ret (aA 31 (.setc o8 0 (.mk [dy,cw,cR,cA,pz,eK]))))))))
def agw:JV.map told=some (XJ,[]):=by kernel_rfl
def ay2:tree (ab JV)=XJ:=aW agw
def BB:Option PC:=cF [1000004,1000005] [] Tryz.f34 34 [2,4,65540,69636,73732,77828,5,65541,69637,73733,77829,7,31,9,49,11,13]
def uM:Nat->PC:=bm BB
def auD:PC:=.block 0 [20,21] [65541,5] (.loop [20] [65541,5] (b 0))
def auE:PC:=.block 2 [38,39] [73733,5] (.loop [38] [73733,5] (b 1))
def auF:PC:=.block 4 [56,57] [5,69637] (.loop [56] [5,69637] (b 2))
def auG:PC:=.block 6 [76,77] [5,77829] (.loop [76] [5,77829] (b 3))
def Ii (b:Nat->PC):PT:=
 (.ite (aj fc jv)
 (.chk (aq cP fc)
 (.ite (aU (pc (.setc z9 0 (pn cP fc)) 6) r1)
 (.exit 0 ⟨[(21,(aj fc jv))],[]⟩)
 (.chk (bE (.llen (.app (.o 65541) (.lst [(aA 9 (.setc z9 0 (pn cP fc)))]))) cK)
 (.next ⟨[(20,(aE fc (pi 1)))],[(65541,(.app (.o 65541) (.lst [(aA 9 (.setc z9 0 (pn cP fc)))]))),(5,(.setc o5 15 pN))]⟩))))
 (.exit 0 ⟨[(21,(aj fc jv))],[]⟩))
def Ij (b:Nat->PC):PT:=
 (.ite (aj jK mN)
 (.chk (aq lE jK)
 (.ite (aU (pc (.setc z9 0 (pn lE jK)) 6) r1)
 (.exit 2 ⟨[(39,(aj jK mN))],[]⟩)
 (.chk (bE (.llen (.app (.o 73733) (.lst [(aA 9 (.setc z9 0 (pn lE jK)))]))) cK)
 (.next ⟨[(38,(aE jK (pi 1)))],[(73733,(.app (.o 73733) (.lst [(aA 9 (.setc z9 0 (pn lE jK)))]))),(5,(.setc o5 17 pN))]⟩))))
 (.exit 2 ⟨[(39,(aj jK mN))],[]⟩))
def Ik (b:Nat->PC):PT:=
 (.ite (aj uo Dv)
 (.chk (aq mO uo)
 (.ite (bE (pc (.setc z2 0 (pn mO uo)) 0) (.llen (.o 65541)))
 (.chk (bE (.llen aiM) cK)
 (.next ⟨[(56,(aE uo (pi 1)))],[(5,(.setc o5 16 pN)),(69637,aiM)]⟩))
 (.next ⟨[(56,(aE uo (pi 1)))],[]⟩)))
 (.exit 4 ⟨[(57,(aj uo Dv))],[]⟩))
def Il (b:Nat->PC):PT:=
 (.ite (aj vA VW)
 (.blockS ⟨[],[]⟩ 7 [13,78,79,80,81,82,83,84,85] [13,77829,5]
 (.chk (aq VV vA)
 (.call ⟨[],[(13,(.setc z3 0 (pn VV vA)))]⟩ [] 85 70 [(pc (.setc z3 0 (pn VV vA)) 1),(.llen (.o 65541))]
 (.ite HA
 (.chk (bE (.llen aiv) cK)
 (.next ⟨[],[(77829,aiv),(5,(.setc o5 18 pN))]⟩))
 (.next ⟨[],[]⟩))))
 (.next ⟨[(76,(aE vA (pi 1)))],[]⟩))
 (.exit 6 ⟨[(77,(aj vA VW))],[]⟩))
def Zk:PT:=
 (.brk ⟨[(20,(pi 0)),(19,(.llen sE)),(18,sE)],[(77829,pL),(73733,pL),(69637,pL),(65541,pL),(5,(.setc vy 0 (.mk [(aA 15 (.mk [r0])),pL,pL,pL,pL]))),(4,vy),(2,(.mk [r0]))]⟩
(auD b)
 (.brk ⟨[(38,(pi 0)),(37,(.llen (pc o2 17))),(36,(pc o2 17))],[]⟩
(auE b)
 (.brk ⟨[(56,(pi 0)),(55,(.llen (pc o2 16))),(54,(pc o2 16))],[]⟩
(auF b)
 (.brk ⟨[(76,(pi 0)),(75,zR),(74,(pc o2 18))],[]⟩
(auG b)
 (.ret (.mk [(pc mK 0),(pc mK 1),(pc mK 2),(pc mK 3),(pc mK 4),(pc mK 5),(pc mK 6),(pc mK 7),(pc mK 8),(pc mK 9),(pc mK 10),(pc mK 11),(pc mK 12),(pc mK 13),(pc mK 14),(.o 65541),(.o 69637),(.o 73733),(.o 77829)]))))))
def apq:PT×List (Shp×PT):=(Zk b,[(.lp 0 [20,21] [65541,5] [20] [65541,5],Ii b),(.lp 2 [38,39] [73733,5] [38] [73733,5],Ij b),(.lp 4 [56,57] [5,69637] [56] [5,69637],Ik b),(.lp 6 [76,77] [5,77829] [76] [5,77829],Il b)])
def C2:BB.map told=some (apq (bo BB)):=by kernel_rfl
def aAA:tree (ab BB)=Zk uM:=bF C2
def WB:round 0 [20,21] [65541,5] [20] [65541,5] (uM 0)=Ii uM:=bj C2 0 λ_=>rfl
def WC:round 2 [38,39] [73733,5] [38] [73733,5] (uM 1)=Ij uM:=bj C2 1 λ_=>rfl
def WD:round 4 [56,57] [5,69637] [56] [5,69637] (uM 2)=Ik uM:=bj C2 2 λ_=>rfl
def WE:round 6 [76,77] [5,77829] [76] [5,77829] (uM 3)=Il uM:=bj C2 3 λ_=>rfl
def KM:Option PC:=cF [4] [] Tryz.f70 70 []
def Zp:PT:=
 (.ret VG)
def ahr:KM.map told=some (Zp,[]):=by kernel_rfl
def aAG:tree (ab KM)=Zp:=aW ahr
def JN:Option PC:=cF [] [] Tryz.f36 36 [5,8,77832,10]
def XA:PT:=
 (.call ⟨[],[(10,Dl)]⟩ [] 18 71 [j7,r1,r2,(.mk [(.mk [(pc kM 0),(pc kM 1),(pc kM 2),(pc kM 3),(pc kM 4),(pc kM 5),(pc kM 6),(pc kM 7),(pc kM 8),(pc kM 9),(pc kM 10),(pc kM 11),(pc kM 12),(pc kM 13),(pc kM 14),(pc kM 15),(pc kM 16),(pc kM 17),pL]),(pi 0),(pi (-1)),(pi (-1)),(pi (-1)),r4])]
 (.ret (aA 5 (.setc cg 0 cP))))
def ago:JN.map told=some (XA,[]):=by kernel_rfl
def ayS:tree (ab JN)=XA:=aW ago
def JM:Option PC:=cF [10] [] Tryz.f71 71 [4,7,8,9]
def Xz:PT:=
 (.call ⟨[],[(8,Dl),(4,(.mk [r0]))]⟩ [] 16 109 [j7,r1,r2,(aA 24 (.mk [r3]))]
 (.iteS ⟨[(10,(.tget cA 1))],[(9,(.setc Dl 0 (.tget cA 0)))]⟩ (aJ (pc (.setc Dl 0 (.tget cA 0)) 2) (pi (-1))) [] [9]
 (.chk (aq (pc o4 4) (pc o9 2))
 (.call ⟨[],[]⟩ [] 31 110 [(pn (pc o4 4) (pc o9 2)),r2,dx]
 (.next ⟨[],[(9,(.setc (.setc o9 0 (.tget sL 0)) 4 (.tget sL 1)))]⟩)))
 (.next ⟨[],[]⟩)
 (.ret (aA 5 (.setc o8 0 (aA 5 o9))))))
def agn:JM.map told=some (Xz,[]):=by kernel_rfl
def ayR:tree (ab JM)=Xz:=aW agn
def JR:Option PC:=cF [9,11,12,13,14] [] Tryz.f109 109 [4,7,8,10,16394]
def XE:PT:=
 (.call ⟨[],[(16394,pL),(10,(.setc Dl 0 (.mk [gl,(pi (-1)),pL,(pi 1)]))),(8,Dl),(7,(.mk [r3])),(4,(.mk [r0]))]⟩ [] 19 156 [j7,(aA 24 (.mk [r3]))]
 (.ite (peq (.llen (.tget jv 1)) (pi 0))
 (.ret (.tup [VO,pL]))
 (.call ⟨[(11,(.tget jv 1))],[(7,(.setc o7 0 (.tget jv 0)))]⟩ [] 28 157 [r2]
 (.ite (.nt (.tget uj 1))
 (.ret (.tup [VO,pL]))
 (.call ⟨[],[]⟩ [] 37 158 [(aA 8 o4),r1,(aA 24 o7)]
 (.ite (peq (.llen mN) (pi 0))
 (.ret (.tup [VO,pL]))
 (.call ⟨[],[]⟩ [] 46 159 [(aA 8 o4),r1,r2,mN]
 (.ite (peq (pc zX 4) (pi 0))
 (.chk (aq (pc zX 3) (br (.llen (pc zX 3)) (pi 1)))
 (.ret (.tup [(aA 5 (.setc o8 0 (aA 5 (.setc zX 2 (pn (pc zX 3) (br (.llen (pc zX 3)) (pi 1))))))),bQ])))
 (.ret (.tup [(aA 5 (.setc o8 0 (aA 5 zX))),bQ]))))))))))
def ags:JR.map told=some (XE,[]):=by kernel_rfl
def ayW:tree (ab JR)=XE:=aW ags
def JS:Option PC:=cF [5] [] Tryz.f156 156 [2,3,4]
def XF:PT:=
 (.call ⟨[],[(4,aiy),(3,(.mk [r1])),(2,(.mk [r0]))]⟩ [] 10 34 [(aA 19 (.mk [r1])),(pc (.mk [r1]) 23)]
 (.call ⟨[(12,(aA 24 (.setc o3 0 dx)))],[]⟩ [] 15 176 [(aA 8 o2),(aA 24 (.setc o3 0 dx))]
 (.ret (.tup [(aA 24 (.setc o4 0 cn)),cR]))))
def agt:JS.map told=some (XF,[]):=by kernel_rfl
def ayX:tree (ab JS)=XF:=aW agt
def BE:Option PC:=cF [4,7,9,11,12,13,14,15,16] [] Tryz.f176 176 [2,3,5,6,8,10,90,139]
def EK:Nat->PC:=bm BE
def au2:PC:=.meach 90 [94,95,11,12] [0,1,0,1] [10] (b 0)
def au3:PC:=.meach 139 [143,144,15,16] [0,1,0,1] [10] (b 1)
def WI (b:Nat->PC):PT:=
 (.chk (aq cg bQ)
 (.next ⟨[],[(10,(.setn cg bQ 0 (.mk [pT,cn])))]⟩))
def WJ (b:Nat->PC):PT:=
 (.blockS ⟨[],[]⟩ 3 [145,146,147,148,149] [10]
 (.call ⟨[(146,cR)],[]⟩ [] 148 195 [cA]
 (.chk (aq cg (.r 146))
 (.next ⟨[],[(10,(.setn cg (.r 146) 0 (.r 148)))]⟩)))
 (.next ⟨[],[]⟩))
def xC:PT:=
 (.call ⟨[(7,(.mx (pc (.mk [r1]) 20) (pi 0)))],[(6,(.setc Ja 0 (aA 15 (.mk [r1])))),(5,(.setc vy 0 (aA 19 (.mk [r1])))),(3,(.mk [r1])),(2,(.mk [r0]))]⟩ [] 30 70 [(pc (.mk [r1]) 19),(.llen (pc (.setc vy 0 (aA 19 (.mk [r1]))) 15))]
 (.call ⟨[(48,(aJ (pc o3 22) (pi (-1)))),(44,(.pick (.pick (.nt sK) pT (aj (pc o3 20) (pi (-1)))) pT (bk r7 (.llen (pc o5 15)))))],[]⟩ [(48,true),(44,false)] 51 70 [(pc o3 22),(pi 100001)]
 (.ite (.pick xl pT (.pick kc (.nt nL) pF))
 (.ret pL)
 (.chk (aq (pc o5 15) (pc o3 19))
 (.call ⟨[],[(8,(.setc z9 0 (pn (pc o5 15) (pc o3 19))))]⟩ [] 63 70 [(pc (.setc z9 0 (pn (pc o5 15) (pc o3 19))) 6),(pi 100001)]
 (.ite (.nt N3)
 (.ret pL)
 (.chk (.an (bk (pi 20) (pi 0)) (bE (pi 20) cK))
 (.chk (peq (pi 20) (pi 20))
 (.chk (aj (.mlen (.con (.map []))) cK)
 (.chk (aj (.mlen (.put (.con (.map [])) (pi 0) (pc o6 3))) cK)
 (.chk (aj (.mlen (.put (.put (.con (.map [])) (pi 0) (pc o6 3)) (pi 1) (pc o6 14))) cK)
 (.chk (aj (.mlen VK) cK)
 (.chk (aj (.mlen (.put VK (pi 3) (pc o6 12))) cK)
 (.chk (aj (.mlen VR) cK)
 (.chk (aj (.mlen (.put VR (pi 5) (pc o3 21))) cK)
 (.blockS ⟨[(10,pN),(9,ait)],[(90,(.tup [(.lst []),(.put (.put VR (pi 5) (pc o3 21)) (pi 6) ait)])),(10,(.rep (pi 20) gl))]⟩ 0 [] [10]
 (.brk ⟨[],[]⟩
(au2 b)
 (.exit 0 ⟨[],[]⟩))
 (.call ⟨[],[(3,(aA 24 o3))]⟩ [] 104 193 [(pc o5 16),(.clo 194 [(.ref (aA 24 o3))])]
 (.call ⟨[(13,awS)],[]⟩ [] 108 123 [(aA 8 o2),(pc o6 9)]
 (.call ⟨[],[]⟩ [] 112 123 [(aA 8 o2),(pc o6 10)]
 (.chk (aj (.mlen (.con (.map []))) cK)
 (.chk (aj (.mlen VQ) cK)
 (.chk (aj (.mlen (.put VQ (pi 8) (peq (pc o6 2) (pi (-1))))) cK)
 (.chk (aj (.mlen (.put (.put VQ (pi 8) (peq (pc o6 2) (pi (-1)))) (pi 9) (aJ (.ai .and .i64 (pc o6 13) (pi 4)) (pi 0)))) cK)
 (.chk (aj (.mlen NI) cK)
 (.chk (aj (.mlen (.put NI (pi 11) (aJ N1 VT))) cK)
 (.chk (aj (.mlen (.put (.put NI (pi 11) (aJ N1 VT)) (pi 12) dy)) cK)
 (.chk (aj (.mlen aiG) cK)
 (.blockS ⟨[],[(139,(.tup [(.lst []),(.put aiG (pi 14) (aU r9 (pi 0)))]))]⟩ 2 [] [10]
 (.brk ⟨[],[]⟩
(au3 b)
 (.exit 2 ⟨[],[]⟩))
 (.call ⟨[],[]⟩ [] 154 196 [(aA 19 o5),(pi 0),(pc o3 19)]
 (.chk (aq cg (pi 15))
 (.call ⟨[],[(10,(.setn cg (pi 15) 0 (.r 154)))]⟩ [] 160 196 [(aA 19 o5),(pi 1),(pc o3 19)]
 (.chk (aq cg (pi 16))
 (.call ⟨[],[(10,(.setn cg (pi 16) 0 (.r 160)))]⟩ [] 166 196 [(aA 19 o5),(pi 2),(pc o3 19)]
 (.chk (aq cg (pi 17))
 (.call ⟨[],[(10,(.setn cg (pi 17) 0 (.r 166)))]⟩ [] 171 196 [(aA 19 o5),(pi 3),r7]
 (.chk (aq cg (pi 18))
 (.call ⟨[],[(10,(.setn cg (pi 18) 0 (.r 171)))]⟩ [] 176 196 [(aA 19 o5),(pi 4),r7]
 (.chk (aq cg (pi 19))
 (.ret (.setn cg (pi 19) 0 (.r 176)))))))))))))))))))))))))))))))))))))))))
def apt:PT×List (Shp×PT):=(xC b,[(.ea [10],WI b),(.ea [10],WJ b)])
def Nj:BE.map told=some (apt (bo BE)):=by kernel_rfl
def aAE:tree (ab BE)=xC EK:=bF Nj
def axl:sS [10] (EK 0)=WI EK:=Xy Nj 0 λ_=>rfl
def axm:sS [10] (EK 1)=WJ EK:=Xy Nj 1 λ_=>rfl
def KK:Option PC:=cF [3] [] Tryz.f194 194 [2]
def Zn:PT:=
 (.ret (bE j9 (pc (.deref r1) 19)))
def ahp:KK.map told=some (Zn,[]):=by kernel_rfl
def aAD:tree (ab KK)=Zn:=aW ahp
def KN:Option PC:=cF [4] [] Tryz.f193 193 []
def Zr:PT:=
 (.call ⟨[],[]⟩ [] 7 206 [r0,r1]
 (.ret (bk r7 (pi 0))))
def ahs:KN.map told=some (Zr,[]):=by kernel_rfl
def aAI:tree (ab KN)=Zr:=aW ahs
def BG:Option PC:=cF [4,5] [] Tryz.f206 206 []
def QF:Nat->PC:=bm BG
def auM:PC:=.block 0 [4,8,9] [] (.loop [4,8] [] (b 0))
def Ir (b:Nat->PC):PT:=
 (.ite (aj r8 r7)
 (.blockS ⟨[],[]⟩ 1 [4,5,10,11,12,13,14,15,16] []
 (.chk (aq r0 r8)
 (.callc ⟨[(5,r8)],[]⟩ [] 16 r1 [(pn r0 r8)]
 (.ite cA
 (.ret r5)
 (.next ⟨[],[]⟩))))
 (.next ⟨[(8,sF)],[]⟩))
 (.exit 0 ⟨[(9,(aj r8 r7))],[]⟩))
def Zw:PT:=
 (.brk ⟨[(8,(pi 0)),(7,(.llen r0)),(4,(pi 0))],[]⟩
(auM b)
 (.ret (pi (-1))))
def apv:PT×List (Shp×PT):=(Zw b,[(.lp 0 [4,8,9] [] [4,8] [],Ir b)])
def UR:BG.map told=some (apv (bo BG)):=by kernel_rfl
def aAN:tree (ab BG)=Zw QF:=bF UR
def WK:round 0 [4,8,9] [] [4,8] [] (QF 0)=Ir QF:=bj UR 0 λ_=>rfl
def KH:Option PC:=cF [4] [] Tryz.f123 123 [2]
def YZ:PT:=
 (.call ⟨[],[(2,(.mk [r0]))]⟩ [] 9 116 [r1,(.llen mI)]
 (.ite (.nt r9)
 (.ret (pi (-1)))
 (.chk (aq (pc o2 1) r1)
 (.ret (pc (pn (pc o2 1) r1) 1)))))
def ahm:KH.map told=some (YZ,[]):=by kernel_rfl
def aAp:tree (ab KH)=YZ:=aW ahm
def KI:Option PC:=cF [4] [] Tryz.f116 116 []
def Zc:PT:=
 (.ret VG)
def ahn:KI.map told=some (Zc,[]):=by kernel_rfl
def aAs:tree (ab KI)=Zc:=aW ahn
def KL:Option PC:=cF [] [] Tryz.f195 195 [2]
def Zo:PT:=
 (.ite r0
 (.ret (.mk [(pc NF 0),(pc NF 1)]))
 (.ret (.mk [(pc NG 0),(pc NG 1)])))
def ahq:KL.map told=some (Zo,[]):=by kernel_rfl
def aAF:tree (ab KL)=Zo:=aW ahq
def BC:Option PC:=cF [] [] Tryz.f196 196 [3,6,8]
def QE:Nat->PC:=bm BC
def auH:PC:=.block 0 [12,13] [6] (.loop [12] [6] (b 0))
def Io (b:Nat->PC):PT:=
 (.ite xe
 (.blockS ⟨[],[]⟩ 1 [8,14,15,16,17,18,19,20,25] [8,6]
 (.chk (aq dx cn)
 (.iteS ⟨[],[(8,(.setc z3 0 qM))]⟩ (.pick (peq (pc (.setc z3 0 qM) 0) r1) (peq (pc (.setc z3 0 qM) 1) r2) pF) [] [6]
 (.call ⟨[],[]⟩ [] 29 195 [(aJ (pc o8 2) (pi 0))]
 (.ret (.mk [(pc (.setc o6 0 mM) 0),(pc (.setc o6 0 mM) 1)])))
 (.next ⟨[],[]⟩)
 (.next ⟨[],[]⟩)))
 (.next ⟨[(12,Dg)],[]⟩))
 (.exit 0 ⟨[(13,xe)],[]⟩))
def Zl:PT:=
 (.brk ⟨[(12,(pi 0)),(11,(.llen (pc (.mk [r0]) 18))),(10,(pc (.mk [r0]) 18))],[(6,gl)]⟩
(auH b)
 (.ret VP))
def apr:PT×List (Shp×PT):=(Zl b,[(.lp 0 [12,13] [6] [12] [6],Io b)])
def UQ:BC.map told=some (apr (bo BC)):=by kernel_rfl
def aAB:tree (ab BC)=Zl QE:=bF UQ
def WG:round 0 [12,13] [6] [12] [6] (QE 0)=Io QE:=bj UQ 0 λ_=>rfl
def Kh:Option PC:=cF [2,3,4,11] [] Tryz.f157 157 []
def Yc:PT:=
 (.blockS ⟨[],[]⟩ 0 [2,3,4,5,6,7,10,11,12,13,14] []
 (.iteS ⟨[],[]⟩ (.pick (aj r0 (pi 0)) pT (bk r0 (pi 22))) [2,3,11,12,13,14] []
 (.ret (.tup [(pi 0),pF]))
 (.call ⟨[],[]⟩ [] 14 168 [(.lst [(pc ug 0),(pc ug 1),(pc ug 2),(pc ug 3),(pc ug 4),(pc ug 5),(pc ug 6),(pc ug 7),(pc ug 8),(pc ug 9)]),r0]
 (.ite cw
 (.ret (.tup [(pi 0),pT]))
 (.next ⟨[],[]⟩)))
 (.next ⟨[],[]⟩))
 (.ret (.tup [(pi 1),pT])))
def agY:Kh.map told=some (Yc,[]):=by kernel_rfl
def azy:tree (ab Kh)=Yc:=aW agY
def KQ:Option PC:=cF [4] [] Tryz.f168 168 []
def Zu:PT:=
 (.call ⟨[],[]⟩ [] 7 190 [r0,r1]
 (.ret (bk r7 (pi 0))))
def ahv:KQ.map told=some (Zu,[]):=by kernel_rfl
def aAL:tree (ab KQ)=Zu:=aW ahv
def BK:Option PC:=cF [4,5] [] Tryz.f190 190 []
def QJ:Nat->PC:=bm BK
def auQ:PC:=.block 0 [4,8,9] [] (.loop [4,8] [] (b 0))
def Iv (b:Nat->PC):PT:=
 (.ite (aj r8 r7)
 (.chk (aq r0 r8)
 (.ite (peq r1 (pn r0 r8))
 (.ret r8)
 (.next ⟨[(8,sF)],[]⟩)))
 (.exit 0 ⟨[(9,(aj r8 r7))],[]⟩))
def ZA:PT:=
 (.brk ⟨[(8,(pi 0)),(7,(.llen r0)),(4,(pi 0))],[]⟩
(auQ b)
 (.ret (pi (-1))))
def apz:PT×List (Shp×PT):=(ZA b,[(.lp 0 [4,8,9] [] [4,8] [],Iv b)])
def UW:BK.map told=some (apz (bo BK)):=by kernel_rfl
def aAR:tree (ab BK)=ZA QJ:=bF UW
def WO:round 0 [4,8,9] [] [4,8] [] (QJ 0)=Iv QJ:=bj UW 0 λ_=>rfl
def A0:Option PC:=cF [8,9,11,12,13,14,55,70] [] Tryz.f159 159 [4,10,53]
def Qc:Nat->PC:=bm A0
def atH:PC:=.block 0 [] [] (.loop [8,9,10] [10] (b 0))
def V7 (b:Nat->PC):PT:=
 (.blockS ⟨[],[]⟩ 1 [8,9,10,11,12,13,14,32,33,35,36,37,38,39,40,41,42,43,44,45,46,49,50,52,53,54,55,56,57,58,68,70,71] [53,10]
 (.chk (aq cg (br (.llen cg) (pi 1)))
 (.call ⟨[(11,(pn cg (br (.llen cg) (pi 1))))],[]⟩ [] 41 178 [(aA 8 o4),(pn cg (br (.llen cg) (pi 1))),r2,r3]
 (.ite (peq (.tget um 0) bQ)
 (.ret (.tup [cg,(pi 0)]))
 (.call ⟨[(13,(.tget um 1)),(12,(.tget um 0))],[]⟩ [] 50 168 [cg,(.tget um 0)]
 (.chk (bE (.llen (.app cg (.lst [cn]))) cK)
 (.chk (.nt (.an (.an nK (.an (.nt (.nt dy)) pT)) (.nt (aq (pc o4 4) cn))))
 (.ite (.pick (.nt dy) pT (.pick nK (pc (pn (pc o4 4) cn) 1) pF))
 (.ret (.tup [(.app cg (.lst [cn])),(pi 0)]))
 (.ite nK
 (.ret (.tup [(.app cg (.lst [cn])),(pi 12)]))
 (.next ⟨[(10,pN)],[(10,(.app cg (.lst [cn])))]⟩)))))))))
 (.next ⟨[],[]⟩))
def XZ:PT:=
 (.call ⟨[(9,(pi 0)),(8,pL)],[(4,(.mk [r0]))]⟩ [] 19 177 [j7,r1,r2,r3]
 (.chk (.nt (.an (.an (.nt (.nt jv)) pT) (.nt (aq r3 (pi 0)))))
 (.ite (.pick (.nt jv) pT (aJ (pn r3 (pi 0)) r1))
 (.ret (.tup [pL,(pi 1)]))
 (.brk ⟨[(10,pN)],[(10,(.lst [r1]))]⟩
(atH b)
 (.next ⟨[],[]⟩)))))
def aoL:PT×List (Shp×PT):=(XZ b,[(.lp 0 [] [] [8,9,10] [10],V7 b)])
def Uo:A0.map told=some (aoL (bo A0)):=by kernel_rfl
def azk:tree (ab A0)=XZ Qc:=bF Uo
def axj:round 0 [] [] [8,9,10] [10] (Qc 0)=V7 Qc:=bj Uo 0 λ_=>rfl
def J8:Option PC:=cF [8] [] Tryz.f177 177 [4,9]
def xB:PT:=
 (.ite (.pick (.pick (.pick (.pick (aj r1 (pi 0)) pT (bk r1 (pc (.setc Hh 0 Hg) 0))) pT (aj r2 (pi 0))) pT (bk r2 (pi 22))) pT (aJ (.llen r3) (pi 5)))
 (.ret pF)
 (.call ⟨[],[]⟩ [] 35 197 [r3,(.clo 198 [(.ref (pc (.setc Hh 0 Hg) 0))])]
 (.ret (.nt sM))))
def agO:J8.map told=some (xB,[]):=by kernel_rfl
def azn:tree (ab J8)=xB:=aW agO
def J9:Option PC:=cF [3] [] Tryz.f198 198 []
def X1:PT:=
 (.ret (.pick (aj r0 (pi 0)) pT (bk r0 (.deref r1))))
def agP:J9.map told=some (X1,[]):=by kernel_rfl
def azm:tree (ab J9)=X1:=aW agP
def KP:Option PC:=cF [4] [] Tryz.f197 197 []
def Zt:PT:=
 (.call ⟨[],[]⟩ [] 7 207 [r0,r1]
 (.ret (bk r7 (pi 0))))
def ahu:KP.map told=some (Zt,[]):=by kernel_rfl
def aAK:tree (ab KP)=Zt:=aW ahu
def BJ:Option PC:=cF [4,5] [] Tryz.f207 207 []
def QI:Nat->PC:=bm BJ
def auP:PC:=.block 0 [4,8,9] [] (.loop [4,8] [] (b 0))
def Iu (b:Nat->PC):PT:=
 (.ite (aj r8 r7)
 (.blockS ⟨[],[]⟩ 1 [4,5,10,11,12,13,14,15,16] []
 (.chk (aq r0 r8)
 (.callc ⟨[(5,r8)],[]⟩ [] 16 r1 [(pn r0 r8)]
 (.ite cA
 (.ret r5)
 (.next ⟨[],[]⟩))))
 (.next ⟨[(8,sF)],[]⟩))
 (.exit 0 ⟨[(9,(aj r8 r7))],[]⟩))
def Zz:PT:=
 (.brk ⟨[(8,(pi 0)),(7,(.llen r0)),(4,(pi 0))],[]⟩
(auP b)
 (.ret (pi (-1))))
def apy:PT×List (Shp×PT):=(Zz b,[(.lp 0 [4,8,9] [] [4,8] [],Iu b)])
def UU:BJ.map told=some (apy (bo BJ)):=by kernel_rfl
def aAQ:tree (ab BJ)=Zz QI:=bF UU
def WN:round 0 [4,8,9] [] [4,8] [] (QI 0)=Iu QI:=bj UU 0 λ_=>rfl
def A1:Option PC:=cF [8,9] [] Tryz.f178 178 [4,11]
def Qd:Nat->PC:=bm A1
def atI:PC:=.block 0 [8,9,25,26] [] (.loop [8,9,25] [] (b 0))
def HJ (b:Nat->PC):PT:=
 (.ite (aj ka pA)
 (.chk (aq iu ka)
 (.ite (.pick (peq (pc Hq 0) r2) (aJ (pc Hq 1) (pi 0)) pF)
 (.chk (aq r3 (pc Hq 1))
 (.ret (.tup [(pn r3 (pc Hq 1)),(pc Hq 2)])))
 (.next ⟨[(25,(aE ka (pi 1)))],[]⟩)))
 (.exit 0 ⟨[(26,(aj ka pA))],[]⟩))
def X0:PT:=
 (.call ⟨[(9,pF),(8,(pi 0))],[(4,(.mk [r0]))]⟩ [] 16 177 [j7,r1,r2,r3]
 (.ite (.nt cA)
 (.ret (.tup [(pi (-1)),pF]))
 (.chk (aq (pc o4 4) r1)
 (.brk ⟨[(25,(pi 0)),(24,(.llen (pc (pn (pc o4 4) r1) 2))),(23,(pc (pn (pc o4 4) r1) 2))],[]⟩
(atI b)
 (.ret (.tup [r1,pF]))))))
def aoM:PT×List (Shp×PT):=(X0 b,[(.lp 0 [8,9,25,26] [] [8,9,25] [],HJ b)])
def Up:A1.map told=some (aoM (bo A1)):=by kernel_rfl
def azl:tree (ab A1)=X0 Qd:=bF Up
def V8:round 0 [8,9,25,26] [] [8,9,25] [] (Qd 0)=HJ Qd:=bj Up 0 λ_=>rfl
def Kg:Option PC:=cF [7,9,11,12] [] Tryz.f110 110 [3,6,8,10]
def Yb:PT:=
 (.call ⟨[],[(6,gl)]⟩ [] 16 160 [(aA 4 (.mk [r0])),r1]
 (.ite (aJ (.tget cA 1) (pi 0))
 (.ret (.tup [VP,(.tget cA 1)]))
 (.call ⟨[],[]⟩ [] 25 161 [(.mk [(pc (.setc nH 0 (.tget cA 0)) 0),(pc (.setc nH 0 (.tget cA 0)) 1),(pc (.setc nH 0 (.tget cA 0)) 2)]),r2]
 (.call ⟨[],[(10,(.setc gl 0 ka))]⟩ [] 28 157 [r1]
 (.ret (.tup [(.mk [(pc (.setc o6 0 (.mk [(pc NP 0),(pc NP 1)])) 0),(pc (.setc o6 0 (.mk [(pc NP 0),(pc NP 1)])) 1)]),(pi 0)]))))))
def agX:Kg.map told=some (Yb,[]):=by kernel_rfl
def azx:tree (ab Kg)=Yb:=aW agX
def Ki:Option PC:=cF [5,6,7,8,10,11] [] Tryz.f160 160 [2,3,4,12292,9]
def Yd:PT:=
 (.call ⟨[],[(4,nH),(3,(.mk [r1])),(2,(.mk [r0]))]⟩ [] 14 157 [(pc (.mk [r1]) 0)]
 (.ite (.nt (.tget cw 1))
 (.ret (.tup [VN,(pi 1)]))
 (.call ⟨[(6,(.tget cw 0))],[]⟩ [] 23 179 [(pc o2 3),(.clo 180 [(.ref (pc o3 0))])]
 (.ite (aj iu (pi 0))
 (.ret (.tup [VN,(pi 4)]))
 (.chk (aq (pc o2 3) iu)
 (.call ⟨[],[(9,NY)]⟩ [] 35 181 [(.mk [(pc NY 0),(pc NY 1),(pc NY 2)])]
 (.ite (.pick (aJ (.tget sM 1) (pi 0)) pT (aJ (.tget sM 0) r6))
 (.ret (.tup [VN,(pi 11)]))
 (.ret (.tup [(.mk [(pc VA 0),(pc VA 1),(pc VA 2)]),(pi 0)])))))))))
def agZ:Ki.map told=some (Yd,[]):=by kernel_rfl
def azA:tree (ab Ki)=Yd:=aW agZ
def Kj:Option PC:=cF [3] [] Tryz.f180 180 [2]
def Ye:PT:=
 (.ret (peq j9 (.deref r1)))
def ag0:Kj.map told=some (Ye,[]):=by kernel_rfl
def azz:tree (ab Kj)=Ye:=aW ag0
def BI:Option PC:=cF [4,5] [] Tryz.f179 179 []
def QH:Nat->PC:=bm BI
def auO:PC:=.block 0 [4,8,9] [] (.loop [4,8] [] (b 0))
def It (b:Nat->PC):PT:=
 (.ite (aj r8 r7)
 (.blockS ⟨[],[]⟩ 1 [4,5,10,11,12,13,14,15,16] []
 (.chk (aq r0 r8)
 (.callc ⟨[(5,r8)],[]⟩ [] 16 r1 [(pn r0 r8)]
 (.ite cA
 (.ret r5)
 (.next ⟨[],[]⟩))))
 (.next ⟨[(8,sF)],[]⟩))
 (.exit 0 ⟨[(9,(aj r8 r7))],[]⟩))
def Zy:PT:=
 (.brk ⟨[(8,(pi 0)),(7,(.llen r0)),(4,(pi 0))],[]⟩
(auO b)
 (.ret (pi (-1))))
def apx:PT×List (Shp×PT):=(Zy b,[(.lp 0 [4,8,9] [] [4,8] [],It b)])
def UT:BI.map told=some (apx (bo BI)):=by kernel_rfl
def aAP:tree (ab BI)=Zy QH:=bF UT
def WM:round 0 [4,8,9] [] [4,8] [] (QH 0)=It QH:=bj UT 0 λ_=>rfl
def KV:Option PC:=cF [2,3] [] Tryz.f181 181 [1]
def ZJ:PT:=
 (.call ⟨[],[(1,(.mk [r0]))]⟩ [] 5 199 [(.mk [j9,mI,zY]),(pi 1)]
 (.ite (aU r5 (pi 60))
 (.ret (.tup [(pi 0),(pi 6)]))
 (.call ⟨[],[]⟩ [] 8 200 [(.mk [(pc o1 0),(pc o1 1),(pc o1 2)])]
 (.ret (.tup [(.tget r8 0),(.tget r8 1)])))))
def ahD:KV.map told=some (ZJ,[]):=by kernel_rfl
def aAZ:tree (ab KV)=ZJ:=aW ahD
def yz:Option PC:=cF [4,5] [] Tryz.f199 199 [2,7,12295]
def QO:Nat->PC:=bm yz
def auY:PC:=.block 0 [5,13,14] [] (.loop [5,13] [] (b 0))
def Iz (b:Nat->PC):PT:=
 (.ite (aj dy cn)
 (.blockS ⟨[(14,(aj dy cn))],[]⟩ 1 [5,7,15,16,17,18,19,20,21,22,23,24] [7,12295]
 (.chk (aq bQ dy)
 (.call ⟨[(17,r5)],[]⟩ [] 21 199 [(.mk [(pc (.setc nH 0 (pn bQ dy)) 0),(pc (.setc nH 0 (pn bQ dy)) 1),(pc (.setc nH 0 (pn bQ dy)) 2)]),(aE r1 (pi 1))]
 (.ite (aU (aE lD iT) (pi 60))
 (.exit 0 ⟨[(5,(aE lD iT))],[]⟩)
 (.next ⟨[(5,(aE lD iT))],[]⟩))))
 (.next ⟨[(13,(aE dy (pi 1)))],[]⟩))
 (.exit 0 ⟨[(14,(aj dy cn))],[]⟩))
def Pg:PT:=
 (.ite (aU r1 (pi 8))
 (.ret (pi 61))
 (.brk ⟨[(13,(pi 0)),(12,sJ),(11,zY),(5,(pi 1))],[]⟩
(auY b)
 (.ret r5)))
def apG:PT×List (Shp×PT):=(Pg b,[(.lp 0 [5,13,14] [] [5,13] [],Iz b)])
def U1:yz.map told=some (apG (bo yz)):=by kernel_rfl
def ake:tree (ab yz)=Pg QO:=bF U1
def WV:round 0 [5,13,14] [] [5,13] [] (QO 0)=Iz QO:=bj U1 0 λ_=>rfl
def BP:Option PC:=cF [2,3,5,7,8,38,47,10,11,12] [] Tryz.f200 200 [1,4,6,12294,9]
def EN:Nat->PC:=bm BP
def auV:PC:=.block 0 [2,3,20,21] [4] (.loop [2,3,20] [4] (b 0))
def auW:PC:=.block 3 [2,3,10,82,83] [] (.loop [2,3,10,82] [] (b 1))
def Ix (b:Nat->PC):PT:=
 (.ite (aj fc jv)
 (.blockS ⟨[],[]⟩ 1 [2,3,5,6,7,8,22,23,24,25,26,27,28,29,30,31,33,34,35,36] [6,12294,4]
 (.chk (aq cP fc)
 (.call ⟨[(5,fc)],[]⟩ [] 27 200 [(.mk [(pc (.setc nH 0 (pn cP fc)) 0),(pc (.setc nH 0 (pn cP fc)) 1),(pc (.setc nH 0 (pn cP fc)) 2)])]
 (.ite (aJ (.tget eK 1) (pi 0))
 (.ret (.tup [(pi 0),(.tget eK 1)]))
 (.chk (aq o4 r5)
 (.next ⟨[],[(4,(.setn o4 r5 0 (.tget eK 0)))]⟩)))))
 (.next ⟨[(20,(aE fc (pi 1)))],[]⟩))
 (.exit 0 ⟨[(21,(aj fc jv))],[]⟩))
def xp (b:Nat->PC):PT:=
 (.ite (aj mh vB)
 (.chk (aq Aa mh)
 (.ite (.pick (peq (pn Aa mh) (pi (-1))) (peq dx (pi (-1))) pF)
 (.chk (aq o4 mh)
 (.ite (aJ (pn o4 mh) (.pick (peq (pn Aa mh) (pi (-1))) (pn o4 mh) (pn Aa mh)))
 (.ret (.tup [(pi 0),(pi 11)]))
 (.next ⟨[(10,(pn o4 mh)),(82,(aE mh (pi 1)))],[]⟩)))
 (.chk (aq o4 mh)
 (.ite (aJ (pn o4 mh) (.pick (peq (pn Aa mh) (pi (-1))) dx (pn Aa mh)))
 (.ret (.tup [(pi 0),(pi 11)]))
 (.next ⟨[(82,(aE mh (pi 1)))],[]⟩)))))
 (.exit 3 ⟨[(83,(aj mh vB))],[]⟩))
def ZN:PT:=
 (.chk (.an (bk sJ (pi 0)) (bE sJ cK))
 (.chk (peq sJ sJ)
 (.brk ⟨[(20,(pi 0)),(19,sJ),(18,zY),(4,pN),(3,(pi 0)),(2,(pi 0))],[(4,(.rep sJ (pi 0))),(1,(.mk [r0]))]⟩
(auV b)
 (.blockS ⟨[],[]⟩ 2 [2,3,38,39,40,41,42,46,47,48,49,50,51,55,56,60] []
 (.iteS ⟨[],[]⟩ (.pick (aj (pc o1 0) (pi 0)) pT (aU (pc o1 0) (pi 13))) [2,3,47,48,49,50,51,55,56,60] []
 (.ret (.tup [(pi 0),(pi 1)]))
 (.iteS ⟨[],[]⟩ (.pick (.pick (peq (pc o1 0) (pi 0)) pT (peq (pc o1 0) (pi 1))) pT (peq (pc o1 0) (pi 2))) [2,3] []
 (.call ⟨[],[]⟩ [] 62 208 [(.mk [(pc o1 0),(pc o1 1),(pc o1 2)])]
 (.ret (.tup [(.tget pC 0),(.tget pC 1)])))
 (.next ⟨[],[]⟩)
 (.next ⟨[],[]⟩))
 (.next ⟨[],[]⟩))
 (.call ⟨[],[]⟩ [] 67 209 [(pc o1 0)]
 (.ite (.pick (aJ (.llen o4) (.llen (pc (.setc mH 0 xm) 0))) pT (aJ (pc o1 1) (pi 0)))
 (.ret (.tup [(pi 0),(pi 2)]))
 (.brk ⟨[(82,(pi 0)),(81,(.llen (pc (.setc mH 0 xm) 0))),(80,(pc (.setc mH 0 xm) 0)),(10,(pi (-1)))],[(9,(.setc mH 0 xm))]⟩
(auW b)
 (.ite (peq (pc o9 1) (pi (-1)))
 (.ret (.tup [dx,(pi 0)]))
 (.ret (.tup [(pc o9 1),(pi 0)]))))))))))
def apE:PT×List (Shp×PT):=(ZN b,[(.lp 0 [2,3,20,21] [4] [2,3,20] [4],Ix b),(.lp 3 [2,3,10,82,83] [] [2,3,10,82] [],xp b)])
def Nn:BP.map told=some (apE (bo BP)):=by kernel_rfl
def aA3:tree (ab BP)=ZN EN:=bF Nn
def WT:round 0 [2,3,20,21] [4] [2,3,20] [4] (EN 0)=Ix EN:=bj Nn 0 λ_=>rfl
def DI:round 3 [2,3,10,82,83] [] [2,3,10,82] [] (EN 1)=xp EN:=bj Nn 1 λ_=>rfl
end Rm
