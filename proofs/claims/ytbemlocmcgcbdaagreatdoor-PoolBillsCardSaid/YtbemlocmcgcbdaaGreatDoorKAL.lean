/-
  The functions of this seat, compiled (1).
-/
import Derived.Test.YtbemlocmcgcbdaaGreatDoorKAJ
import Derived.KernelRfl
set_option linter.defProp false
set_option linter.unusedVariables false
set_option maxRecDepth 100000
noncomputable section
namespace Rm
open Go Go.Proofs Cx
def Bm:Option PC:=cF [16,17,19,22,24,25,26] [] Tryz.f3 3 [8,10,12,13,18,20,21,23]
def Qc:Nat->PC:=bo Bm
variable(b:Nat->PC)
def au1:PC:=.block 0 [19,56,57,58,59] [18] (.loop [19] [18] (b 0))
def N8 (b:Nat->PC):PT:=
 (.ite (ah fN (.llen r7))
 (.blockS ⟨[],[]⟩ 1 [20,62,63,64,65,66,67,68,69,73,74,78,79,86,87,91,92,96] [20,18]
 (.chk (ao r7 fN)
 (.iteS ⟨[],[(20,Aq)]⟩ (.pick (.pick (.pick (.pick (.pick (ba (pc Aq 0) (pi 0)) (ah (pc Aq 0) (pi 5)) pF) (ba (pc Aq 1) (pi 0)) pF) (ah (pc Aq 1) (.llen (pc bG 15))) pF) (ba (pc Aq 2) (pi 0)) pF) (bz (pc Aq 2) (pi 1)) pF) [] [18]
 (.call ⟨[],[]⟩ [] 99 8 [(ar 19 Uz),(.mk [(pc UA 0),(pc UA 1),(pc UA 2)])]
 (.next ⟨[],[(18,(.setc Uz 0 Hz))]⟩))
 (.next ⟨[],[]⟩)
 (.next ⟨[],[]⟩)))
 (.next ⟨[(19,(aA fN (pi 1)))],[]⟩))
 (.exit 0 ⟨[(56,fN),(57,r7),(58,(.llen r7)),(59,(ah fN (.llen r7)))],[]⟩))
def Yu:PT:=
 (.call ⟨[],[(13,(.mk [r5])),(12,(.mk [r4])),(10,(.mk [r2])),(8,(.mk [r0]))]⟩ [] 27 4 []
 (.call ⟨[(37,(.pick (aR (.llen (pc oT 1)) (pi 20)) pT (aR (.llen r7) (pi 30)))),(17,dx)],[]⟩ [(37,false)] 40 5 [(ar 8 o8),(ar 19 bG)]
 (.call ⟨[(43,(.pick lY pT (.nt rT)))],[]⟩ [(43,false)] 45 6 [(ar 8 o8)]
 (.call ⟨[(48,(.pick tU pT (aF rU (pi 0))))],[]⟩ [(48,false)] 51 7 [(ar 8 o8),(ar 19 bG)]
 (.ite (.pick fj pT (aF oZ (pi 0)))
 (.ret jn)
 (.brk ⟨[(19,(pi 0))],[(18,(.setc vk 0 (ar 19 bG)))]⟩
(au1 b)
 (.call ⟨[],[]⟩ [] 106 9 [(ar 8 o8),r1,(ar 19 bG),r3,(.mk [(pc oT 0),(pc oT 1)])]
 (.call ⟨[(22,(.tget Hp 1))],[(21,(.setc z3 0 (.tget Hp 0)))]⟩ [] 115 9 [(ar 8 o8),r1,(ar 19 Uz),r3,(.mk [(pc oT 0),(pc oT 1)])]
 (.call ⟨[(24,(.tget ajn 1))],[(23,(.setc z3 0 (.tget ajn 0)))]⟩ [] 124 10 [(ar 8 o8),r1,(ar 19 bG),r3,(.mk [(pc oT 0),(pc oT 1)])]
 (.ite (.pick (.pick (aF kD (.tget ajo 1)) pT (aF kD lg)) pT (.pick (aF kD (pi 0)) (.nt (.an (peq (pc N0 0) (pi 0)) (.an (peq (pc N0 1) (pi 0)) (.an (peq (pc N0 2) (pi 0)) pT)))) pF))
 (.ret pF)
 (.ite (aF kD (pi 0))
 (.ret jn)
 (.call ⟨[(153,(pc zV 1)),(151,(aF (pc zV 0) (.tget ajo 0)))],[]⟩ [(151,false)] 158 11 [(ar 8 o8),r1,(ar 19 bG),r3]
 (.call ⟨[(163,(pc zV 2)),(161,(.pick (.r 151) pT (aF (.r 153) (.r 158))))],[]⟩ [(161,false)] 168 12 [(ar 8 o8),r1,(ar 19 bG),r3,(pi 1)]
 (.ite (.pick (.pick (.r 161) pT (aF (.r 163) (.llen (.r 168)))) pT (aF (pc zV 1) (pc MY 1)))
 (.ret pF)
 (.call ⟨[(180,jn)],[]⟩ [(180,true)] 184 13 [(ar 5 wX),N0,r6]
 (.call ⟨[],[]⟩ [(180,true)] 188 13 [(ar 5 wX),(.mk [(pc MY 0),(pc MY 1),(pc MY 2)]),r6]
 (.ret (.pick (.r 180) (bz (.r 184) (.r 188)) pF))))))))))))))))))
def apz:PT×List (Shp×PT):=(Yu b,[(.lp 0 [19,56,57,58,59] [18] [19] [18],N8 b)])
def UJ:Bm.map told=some (apz (bk Bm)):=by kernel_rfl
def aBK:tree (ab Bm)=Yu Qc:=bH UJ
def ajx:round 0 [19,56,57,58,59] [18] [19] [18] (Qc 0)=N8 Qc:=bm UJ 0 λ_=>rfl
def Bo:Option PC:=cF [0,2,3,4,5,6,7,8,9,10,11,12] [] Tryz.f4 4 [1]
def aBM:PT:=
 (.call ⟨[],[]⟩ [] 13 14 []
 (.call ⟨[],[(1,(.setc z5 0 dh))]⟩ [] 14 15 []
 (.call ⟨[(2,bU)],[]⟩ [] 18 16 [(ar 5 o1),bU,(pi 0)]
 (.call ⟨[(4,(.tget cE 1)),(3,(.tget cE 0))],[]⟩ [] 24 17 [(ar 5 o1),r2,(pi 0)]
 (.call ⟨[(6,(.tget lg 1)),(5,(.tget lg 0))],[]⟩ [] 33 18 [(ar 5 o1),r2,(pi 0),(.lst [(pi 1)]),(.lst [(.mk [(pi 32),(pi 10),(pi 2)])])]
 (.call ⟨[(8,(.tget tS 1)),(7,(.tget tS 0))],[]⟩ [] 42 18 [(ar 5 o1),r2,(pi 0),(.lst [(pi 1)]),(.lst [(.mk [(pi 30),(pi 10),(pi 2)])])]
 (.call ⟨[(10,(.tget Wk 1))],[]⟩ [] 48 19 [(ar 5 o1),r2,(pi 0)]
 (.call ⟨[(12,(.tget fj 1)),(11,(.tget fj 0))],[]⟩ [] 53 20 [(ar 5 o1),r2,(pi 0)]
 (.call ⟨[(55,(aF DJ (pi 0)))],[]⟩ [(55,false)] 58 20 [(ar 5 o1),r2,(pi (-1))]
 (.ite (.pick (.pick (.pick (.pick (.pick (.pick (.pick vl pT (aF DK (pi 1))) pT (aF r4 (pi 0))) pT (aF r6 (pi 0))) pT (aF r8 (pi 0))) pT (aF dg (pi 7))) pT (aF bY (pi 0))) pT (aF (.llen r7) (pi 4)))
 (.ret pF)
 (.chk (.nt (.an (.an (peq r3 (pi 117)) pT) (.nt (ao r2 (pi 1)))))
 (.call ⟨[(88,(peq r3 (pi 117)))],[]⟩ [(88,true)] 93 13 [(ar 5 o1),(pn r2 (pi 1)),(pi 0)]
 (.call ⟨[(96,(.pick Hx (peq Hy (pi 45)) pF))],[]⟩ [(96,true)] 99 21 [r5,(.lst [(pi 2),(pi 3)])]
 (.chk (.nt (.an (.an (.pick Wp Hz pF) pT) (.nt (ao r7 (pi 3)))))
 (.ret (.pick (.pick (.pick Wp Hz pF) (peq (pc (pn r7 (pi 3)) 0) (pi 32)) pF) (peq bL (pi 92)) pF))))))))))))))))
def ahg:Bo.map told=some (aBM,[]):=by kernel_rfl
def Bp:Option PC:=cF [] [] Tryz.f14 14 [0]
def aBN:PT:=
 (.ret (ar 5 (.setc z5 0 (.mk [(pi 100),(pi 100),(pi 90),(pi 2),(pi 10)]))))
def ahh:Bp.map told=some (aBN,[]):=by kernel_rfl
def Bn:Option PC:=cF [0] [] Tryz.f15 15 []
def aBL:PT:=
 (.ret (.lst [(.mk [(pi 80),(pi 30),(pi 2)]),(.mk [(pi 50),(pi 60),(pi 3)]),(.mk [(pi 200),(pi 91),(pi 2)]),(.mk [(pi 70),(pi 20),(pi 1)])]))
def ahf:Bn.map told=some (aBL,[]):=by kernel_rfl
def Bu:Option PC:=cF [6,7,8] [] Tryz.f16 16 [3]
def aB7:PT:=
 (.call ⟨[],[(3,(.mk [r0]))]⟩ [] 12 20 [Dy,r1,r2]
 (.ite (aF bY (pi 0))
 (.ret (.tup [(pi 0),bY]))
 (.call ⟨[],[]⟩ [] 19 46 [(ar 5 o3),r1,r2]
 (.ret (.tup [fN,(pi 0)])))))
def ahu:Bu.map told=some (aB7,[]):=by kernel_rfl
def yq:Option PC:=cF [6] [] Tryz.f20 20 [3]
def YM:PT:=
 (.ite (aR (.llen r1) (pi 50))
 (.ret (pi 6))
 (.call ⟨[],[]⟩ [] 11 51 [Dy]
 (.call ⟨[(13,(.nt bL))],[]⟩ [(13,false)] 15 52 [r2,(pi 100000)]
 (.call ⟨[(18,(.pick dh pT (.nt dt)))],[]⟩ [(18,false)] 20 53 [r1,(.con (.clo 54 []))]
 (.ite (.pick cE pT dV)
 (.ret (pi 1))
 (.ret (pi 0)))))))
def UO:yq.map told=some (YM,[]):=by kernel_rfl
def aB6:tree (ab yq)=YM:=aT UO
def yA:Option PC:=cF [2] [] Tryz.f51 51 [1]
def YR:PT:=
 (.call ⟨[],[(1,(.mk [r0]))]⟩ [] 5 52 [jW,rM]
 (.call ⟨[(6,r5)],[]⟩ [(6,true)] 9 52 [(pc o1 4),rM]
 (.call ⟨[(11,(.pick r6 r9 pF))],[]⟩ [(11,true)] 14 52 [(pc o1 1),(pi 1000)]
 (.call ⟨[(16,(.pick bL bU pF))],[]⟩ [(16,true)] 19 52 [(pc o1 2),(pi 20000)]
 (.call ⟨[(21,(.pick cU fN pF))],[]⟩ [(21,true)] 24 52 [(pc o1 3),(pi 40)]
 (.ret (.pick gH lg pF)))))))
def US:yA.map told=some (YR,[]):=by kernel_rfl
def aCg:tree (ab yA)=YR:=aT US
def yB:Option PC:=cF [4] [] Tryz.f52 52 []
def YS:PT:=
 (.ret (.pick (ba r0 (pi 0)) (bz r0 r1) pF))
def UT:yB.map told=some (YS,[]):=by kernel_rfl
def aCh:tree (ab yB)=YS:=aT UT
def yF:Option PC:=cF [4] [] Tryz.f53 53 []
def ZU:PT:=
 (.call ⟨[],[]⟩ [] 7 91 [r0,r1]
 (.ret (ba r7 (pi 0))))
def Ve:yF.map told=some (ZU,[]):=by kernel_rfl
def aDf:tree (ab yF)=ZU:=aT Ve
def uz:Option PC:=cF [4,5] [] Tryz.f91 91 []
def QB:Nat->PC:=bo uz
def av5:PC:=.block 0 [4,8,9] [] (.loop [4,8] [] (b 0))
def Iq (b:Nat->PC):PT:=
 (.ite (ah r8 r7)
 (.blockS ⟨[],[]⟩ 1 [4,5,10,11,12,13,14,15,16] []
 (.chk (ao r0 r8)
 (.callc ⟨[(5,r8)],[]⟩ [] 16 r1 [(pn r0 r8)]
 (.ite cU
 (.ret r5)
 (.next ⟨[],[]⟩))))
 (.next ⟨[(8,oX)],[]⟩))
 (.exit 0 ⟨[(9,(ah r8 r7))],[]⟩))
def Z0:PT:=
 (.brk ⟨[(8,(pi 0)),(7,(.llen r0)),(4,(pi 0))],[]⟩
(av5 b)
 (.ret (pi (-1))))
def aqj:PT×List (Shp×PT):=(Z0 b,[(.lp 0 [4,8,9] [] [4,8] [],Iq b)])
def Ng:uz.map told=some (aqj (bk uz)):=by kernel_rfl
def aDl:tree (ab uz)=Z0 QB:=bH Ng
def Xe:round 0 [4,8,9] [] [4,8] [] (QB 0)=Iq QB:=bm Ng 0 λ_=>rfl
def yr:Option PC:=cF [2] [] Tryz.f54 54 [1]
def YN:PT:=
 (.call ⟨[],[]⟩ [] 4 55 [NK]
 (.ret (.nt r4)))
def UP:yr.map told=some (YN,[]):=by kernel_rfl
def aB5:tree (ab yr)=YN:=aT UP
def yz:Option PC:=cF [2] [] Tryz.f55 55 [1]
def YQ:PT:=
 (.call ⟨[],[(1,(.mk [r0]))]⟩ [] 5 52 [jW,rM]
 (.call ⟨[(6,r5)],[]⟩ [(6,true)] 9 52 [(pc o1 1),(pi 100000)]
 (.call ⟨[(11,(.pick r6 r9 pF))],[]⟩ [(11,true)] 14 52 [(pc o1 2),(pi 40)]
 (.ret (.pick bL bU pF)))))
def UR:yz.map told=some (YQ,[]):=by kernel_rfl
def aCf:tree (ab yz)=YQ:=aT UR
def yy:Option PC:=cF [6,7] [] Tryz.f46 46 [3,9]
def ave:PC:=.block 0 [7,12,13] [] (.loop [7,12] [] (b 0))
def azz (b:Nat->PC):PT:=
 (.ite tJ
 (.blockS ⟨[],[]⟩ 1 [7,9,14,15,16,17,18,19,20,21] [9]
 (.chk (ao dg bY)
 (.call ⟨[(16,r7)],[]⟩ [] 20 13 [(ar 5 o3),(.mk [(pc Dz 0),(pc Dz 1),(pc Dz 2)]),r2]
 (.next ⟨[(7,(aA cU dV))],[]⟩)))
 (.next ⟨[(12,Ak)],[]⟩))
 (.exit 0 ⟨[(13,tJ)],[]⟩))
def aCe:PT:=
 (.brk ⟨[(12,(pi 0)),(11,(.llen r1)),(10,r1),(7,(pi 0))],[(3,(.mk [r0]))]⟩
(ave b)
 (.ret r7))
def apI:PT×List (Shp×PT):=(aCe b,[(.lp 0 [7,12,13] [] [7,12] [],azz b)])
def ahA:yy.map told=some (apI (bk yy)):=by kernel_rfl
def yx:Option PC:=cF [6] [] Tryz.f13 13 [3,4]
def YP:PT:=
 (.call ⟨[],[(4,(.mk [r1])),(3,(.mk [r0]))]⟩ [] 11 20 [Dy,(.lst [(.mk [DA,(pc (.mk [r1]) 1),(pc (.mk [r1]) 2)])]),r2]
 (.ite (.pick (.pick (.pick (.pick (aF bL (pi 0)) pT (ah (pc o4 0) (pc o3 4))) pT (ah (pc o4 2) (pc o3 3))) pT (ah (pc o4 1) r2)) pT (aR (pc o4 1) (aA r2 (pc o3 2))))
 (.ret (pi 0))
 (.chk (aF (pi 1000) (pi 0))
 (.ret (.ai .quo .i64 (.ai .mul .i64 (pc o4 0) (bf (pi 1000) (pc o3 1))) (pi 1000))))))
def UQ:yx.map told=some (YP,[]):=by kernel_rfl
def aCd:tree (ab yx)=YP:=aT UQ
def yt:Option PC:=cF [6,7,8,9,11,14] [] Tryz.f17 17 [3,4,5,10,12,66]
def au8:PC:=.block 0 [36,37] [10] (.loop [36] [10] (b 0))
def au9:PC:=.block 2 [9,12,49,50] [12] (.loop [9,12,49] [12] (b 1))
def azt (b:Nat->PC):PT:=
 (.ite (ah iu oY)
 (.chk (ao bG iu)
 (.next ⟨[(36,(aA iu (pi 1)))],[(10,(.setn bG iu 0 iu))]⟩))
 (.exit 0 ⟨[(37,(ah iu oY))],[]⟩))
def azu (b:Nat->PC):PT:=
 (.ite (ah fl fj)
 (.blockS ⟨[(50,(ah fl fj))],[]⟩ 3 [9,12,14,51,52,53,54,55,56,57,58,59,60,61,62,63,65,66,67] [12,66]
 (.chk (ao bG fl)
 (.chk (ao o4 (pn bG fl))
 (.call ⟨[(53,r9),(14,(pn bG fl))],[]⟩ [] 60 13 [(.sub o3 0 5),(pn o4 (pn bG fl)),o5]
 (.ite (ah (bf DJ xg) (pi 0))
 (.exit 2 ⟨[(9,(bf DJ xg))],[]⟩)
 (.chk (bz (.llen (.app oT (.lst [bU]))) cj)
 (.next ⟨[(12,pN),(9,(bf DJ xg))],[(12,(.app oT (.lst [bU])))]⟩))))))
 (.next ⟨[(49,(aA fl (pi 1)))],[]⟩))
 (.exit 2 ⟨[(50,(ah fl fj))],[]⟩))
def aB9:PT:=
 (.call ⟨[],[(5,(.mk [r2])),(4,(.mk [r1])),(3,(.mk [r0]))]⟩ [] 18 20 [Dy,DA,(pc (.mk [r2]) 0)]
 (.ite (aF cE (pi 0))
 (.ret (.tup [pL,cE]))
 (.call ⟨[],[]⟩ [] 25 46 [(ar 5 o3),(pc o4 0),(pc o5 0)]
 (.ite (ah (bf gh (pc o3 0)) (pi 0))
 (.ret (.tup [pL,(pi 7)]))
 (.chk (.an (ba DB (pi 0)) (bz DB cj))
 (.chk (peq DB DB)
 (.brk ⟨[(36,(pi 0)),(35,(.llen (.rep DB (pi 0)))),(10,pN),(9,(bf gh (pc o3 0)))],[(10,(.rep DB (pi 0)))]⟩
(au8 b)
 (.mcall ⟨[],[(5,(pc o5 0)),(4,(pc o4 0)),(3,(ar 5 o3))]⟩ 1000000013 47 [pN,(.clo 48 [(.ref (ar 5 o3)),(.ref (pc o4 0)),(.ref (pc o5 0))]),bG]
 (.brk ⟨[(49,(pi 0)),(48,(.llen mw)),(12,pN)],[(12,pL),(10,mw)]⟩
(au9 b)
 (.mcall ⟨[],[]⟩ 1000000013 49 [pN,oT]
 (.ret (.tup [mw,(pi 0)]))))))))))))
def apF:PT×List (Shp×PT):=(aB9 b,[(.lp 0 [36,37] [10] [36] [10],azt b),(.lp 2 [9,12,49,50] [12] [9,12,49] [12],azu b)])
def ahw:yt.map told=some (apF (bk yt)):=by kernel_rfl
def Bv:Option PC:=cF [7] [] Tryz.f48 48 []
def aCa:PT:=
 (.chk (ao (.deref r3) r0)
 (.call ⟨[],[]⟩ [] 14 13 [(.deref r2),(pn (.deref r3) r0),(.deref r4)]
 (.chk (ao (.deref r3) r1)
 (.call ⟨[],[]⟩ [] 21 13 [(.deref r2),(pn (.deref r3) r1),(.deref r4)]
 (.ret (bf bU gH))))))
def ahx:Bv.map told=some (aCa,[]):=by kernel_rfl
def B8:Option PC:=cF [] [] Tryz.f47 47 [0]
def aDs:PT:=
 (.mcall ⟨[],[]⟩ 1000000013 87 [pN,(.llen r2),r1,r2]
 (.ret (.tup [(.tup []),mw])))
def ah2:B8.map told=some (aDs,[]):=by kernel_rfl
def yI:Option PC:=cF [6,7,8,9] [] Tryz.f87 87 [0]
def awd:PC:=.block 0 [7,8,11,12,13] [0] (.loop [7,8] [0] (b 0))
def awe:PC:=.block 4 [7,8,33,34,35] [0] (.loop [7,8] [0] (b 1))
def awf:PC:=.block 2 [6,7,8,28,29,30] [0] (.loop [6,7,8] [0] (b 2))
def azF (b:Nat->PC):PT:=
 (.ite (bz r8 r1)
 (.blockS ⟨[],[]⟩ 1 [7,8,14,15,16,17,18,19,20,21,22] [0]
 (.mcall ⟨[],[]⟩ 1000000013 127 [pN,r7,r8,r2,o0]
 (.next ⟨[(8,(aA r8 r6)),(7,r8)],[(0,mw)]⟩))
 (.next ⟨[],[]⟩))
 (.exit 0 ⟨[(11,r8),(12,r1),(13,(bz r8 r1))],[]⟩))
def azG (b:Nat->PC):PT:=
 (.ite (bz r8 r1)
 (.blockS ⟨[],[]⟩ 5 [7,8,36,37,38,39,40,41,42,43,44,45,46,47,48] [0]
 (.mcall ⟨[],[]⟩ 1000000013 128 [pN,r7,(aA r7 r6),r8,r2,o0]
 (.next ⟨[(8,(aA r8 (.ai .mul .i64 (pi 2) r6))),(7,r8)],[(0,mw)]⟩))
 (.next ⟨[],[]⟩))
 (.exit 4 ⟨[(33,r8),(34,r1),(35,(bz r8 r1))],[]⟩))
def azH:PT:=
 (.ite (ah r6 r1)
 (.blockS ⟨[(30,(ah r6 r1)),(29,r1),(28,r6)],[]⟩ 3 [6,7,8,9,31,32,33,34,35,49,50,51,52,53,54,61,62] [0]
 (.brk ⟨[(8,(.ai .mul .i64 (pi 2) r6)),(7,(pi 0))],[]⟩
(awe b)
 (.iteS ⟨[(9,(aA r7 r6))],[]⟩ (ah (aA r7 r6) r1) [] [0]
 (.mcall ⟨[],[]⟩ 1000000013 128 [pN,r7,r9,r1,r2,o0]
 (.next ⟨[],[(0,mw)]⟩))
 (.next ⟨[],[]⟩)
 (.next ⟨[(6,(.ai .mul .i64 r6 (pi 2)))],[]⟩)))
 (.next ⟨[],[]⟩))
 (.exit 2 ⟨[(28,r6),(29,r1),(30,(ah r6 r1))],[]⟩))
def aDu:PT:=
 (.brk ⟨[(8,(pi 20)),(7,(pi 0)),(6,(pi 20))],[(0,r3)]⟩
(awd b)
 (.mcall ⟨[],[]⟩ 1000000013 127 [pN,r7,r1,r2,o0]
 (.brk ⟨[],[(0,mw)]⟩
(awf b)
 (.ret (.tup [(.tup []),o0])))))
def aqr:PT×List (Shp×PT):=(aDu b,[(.lp 0 [7,8,11,12,13] [0] [7,8] [0],azF b),(.lp 4 [7,8,33,34,35] [0] [7,8] [0],azG b),(.lp 2 [6,7,8,28,29,30] [0] [6,7,8] [0],azH b)])
def ah4:yI.map told=some (aqr (bk yI)):=by kernel_rfl
def yH:Option PC:=cF [8,9] [] Tryz.f127 127 [0]
def awb:PC:=.block 2 [9,18,19,20,21,34] [0] (.loop [9] [0] (b 0))
def awc:PC:=.block 0 [8,12,13,14] [0] (.loop [8] [0] (b 1))
def azD (b:Nat->PC):PT:=
 (.chk (.nt (.an (.an (aR r9 r1) pT) (.nt (ao o0 r9))))
 (.chk (.nt (.an (.an (aR r9 r1) pT) (.nt (ao o0 w9))))
 (.callc ⟨[(21,(aR r9 r1)),(20,(aR r9 r1)),(19,r1),(18,r9)],[]⟩ [(21,true)] 32 r3 [(pn o0 r9),(pn o0 w9)]
 (.ite (.pick gH (ah tR (pi 0)) pF)
 (.chk (ao o0 w9)
 (.chk (ao o0 r9)
 (.chk (ao (.setn o0 r9 0 (pn o0 w9)) w9)
 (.next ⟨[(9,w9)],[(0,(.setn (.setn o0 r9 0 (pn o0 w9)) w9 0 (pn o0 r9)))]⟩))))
 (.exit 2 ⟨[(34,(.pick gH (ah tR (pi 0)) pF))],[]⟩)))))
def azE:PT:=
 (.ite (ah r8 r2)
 (.blockS ⟨[(14,(ah r8 r2)),(13,r2),(12,r8)],[]⟩ 1 [9,17,18,19,20,21,34] [0]
 (.brk ⟨[(9,r8)],[]⟩
(awb b)
 (.next ⟨[],[]⟩))
 (.next ⟨[(8,oX)],[]⟩))
 (.exit 0 ⟨[(12,r8),(13,r2),(14,(ah r8 r2))],[]⟩))
def aDt:PT:=
 (.brk ⟨[(8,(aA r1 (pi 1)))],[(0,r4)]⟩
(awc b)
 (.ret (.tup [(.tup []),o0])))
def aqq:PT×List (Shp×PT):=(aDt b,[(.lp 2 [9,18,19,20,21,34] [0] [9] [0],azD b),(.lp 0 [8,12,13,14] [0] [8] [0],azE b)])
def ah3:yH.map told=some (aqq (bk yH)):=by kernel_rfl
def yu:Option PC:=cF [10,11,12,13,14,16,18] [] Tryz.f18 18 [5,15,17]
def ava:PC:=.block 0 [10,11,28,29] [] (.loop [10,11,28] [] (b 0))
def avb:PC:=.block 2 [15,57,58] [15] (.loop [15,57] [15] (b 1))
def azv (b:Nat->PC):PT:=
 (.ite (ah il dx)
 (.chk (ao kE il)
 (.chk (.nt (.an (.an (aR il (pi 0)) (.an (.nt (.pick (ah (pn kE il) (pi 0)) pT (ba (pn kE il) (.llen r1)))) pT)) (.nt (ao r3 (bf il (pi 1))))))
 (.ite (.pick (.pick (ah (pn kE il) (pi 0)) pT (ba (pn kE il) (.llen r1))) pT (.pick (aR il (pi 0)) (ba (pn r3 (bf il (pi 1))) (pn kE il)) pF))
 (.ret (.tup [pL,(pi 4)]))
 (.next ⟨[(28,(aA il (pi 1)))],[]⟩))))
 (.exit 0 ⟨[(29,(ah il dx))],[]⟩))
def azw (b:Nat->PC):PT:=
 (.ite (ah tV pg)
 (.blockS ⟨[],[]⟩ 3 [15,16,17,59,60,61,62,63,64,65] [17,15]
 (.chk (ao vl tV)
 (.call ⟨[],[(17,(.setc z3 0 (pn vl tV)))]⟩ [] 64 50 [r3,tV]
 (.ite (.nt mz)
 (.chk (bz (.llen (.app zU (.lst [(.mk [(pc vb 0),(pc vb 1),(pc vb 2)])]))) cj)
 (.next ⟨[(15,pN)],[(15,(.app zU (.lst [(.mk [(pc vb 0),(pc vb 1),(pc vb 2)])])))]⟩))
 (.next ⟨[],[]⟩))))
 (.next ⟨[(57,(aA tV (pi 1)))],[]⟩))
 (.exit 2 ⟨[(58,(ah tV pg))],[]⟩))
def aCb:PT:=
 (.call ⟨[(11,(pi 0)),(10,pL)],[(5,(.mk [r0]))]⟩ [] 22 20 [Dy,r1,r2]
 (.ite (aF kD (pi 0))
 (.ret (.tup [pL,kD]))
 (.brk ⟨[(28,(pi 0)),(27,(.llen r3)),(26,r3)],[]⟩
(ava b)
 (.brk ⟨[(57,(pi 0)),(56,(.llen r1)),(55,r1),(15,pN)],[(15,pL)]⟩
(avb b)
 (.chk (bz (.llen (.app zU r4)) cj)
 (.call ⟨[],[(15,(.app zU r4))]⟩ [] 77 20 [(ar 5 o5),(.app zU r4),r2]
 (.ite (aF N4 (pi 0))
 (.ret (.tup [pL,N4]))
 (.call ⟨[],[]⟩ [] 84 46 [(ar 5 o5),zU,r2]
 (.ite (ah Wn (pc o5 0))
 (.ret (.tup [pL,(pi 7)]))
 (.ret (.tup [zU,(pi 0)])))))))))))
def apG:PT×List (Shp×PT):=(aCb b,[(.lp 0 [10,11,28,29] [] [10,11,28] [],azv b),(.lp 2 [15,57,58] [15] [15,57] [15],azw b)])
def ahy:yu.map told=some (apG (bk yu)):=by kernel_rfl
def yG:Option PC:=cF [4] [] Tryz.f50 50 []
def ZX:PT:=
 (.call ⟨[],[]⟩ [] 7 90 [r0,r1]
 (.ret (ba r7 (pi 0))))
def Vf:yG.map told=some (ZX,[]):=by kernel_rfl
def aDi:tree (ab yG)=ZX:=aT Vf
def uA:Option PC:=cF [4,5] [] Tryz.f90 90 []
def QF:Nat->PC:=bo uA
def av9:PC:=.block 0 [4,8,9] [] (.loop [4,8] [] (b 0))
def Iu (b:Nat->PC):PT:=
 (.ite (ah r8 r7)
 (.chk (ao r0 r8)
 (.ite (peq r1 (pn r0 r8))
 (.ret r8)
 (.next ⟨[(8,oX)],[]⟩)))
 (.exit 0 ⟨[(9,(ah r8 r7))],[]⟩))
def Z4:PT:=
 (.brk ⟨[(8,(pi 0)),(7,(.llen r0)),(4,(pi 0))],[]⟩
(av9 b)
 (.ret (pi (-1))))
def aqn:PT×List (Shp×PT):=(Z4 b,[(.lp 0 [4,8,9] [] [4,8] [],Iu b)])
def Nh:uA.map told=some (aqn (bk uA)):=by kernel_rfl
def aDp:tree (ab uA)=Z4 QF:=bH Nh
def Xi:round 0 [4,8,9] [] [4,8] [] (QF 0)=Iu QF:=bm Nh 0 λ_=>rfl
def yw:Option PC:=cF [6,7,8,13] [] Tryz.f19 19 [3,9,11]
def avc:PC:=.block 0 [9,25,26] [9] (.loop [9,25] [9] (b 0))
def avd:PC:=.block 2 [6,7,49,50] [] (.loop [6,7,49] [] (b 1))
def azx (b:Nat->PC):PT:=
 (.ite (ah gh lg)
 (.chk (ao gI gh)
 (.ite (.pick (ba NA r2) (ah NA (pi 100000)) pF)
 (.chk (bz (.llen (.app o9 (.lst [(aA NA (pi 1))]))) cj)
 (.next ⟨[(9,pN),(25,(aA gh (pi 1)))],[(9,(.app o9 (.lst [(aA NA (pi 1))])))]⟩))
 (.next ⟨[(25,(aA gh (pi 1)))],[]⟩)))
 (.exit 0 ⟨[(26,(ah gh lg))],[]⟩))
def azy (b:Nat->PC):PT:=
 (.ite (ah fl fj)
 (.blockS ⟨[],[]⟩ 3 [6,7,13,51,52,53,54,55,56,57,58,59] []
 (.chk (ao o9 fl)
 (.call ⟨[(13,(pn o9 fl))],[]⟩ [] 56 46 [(ar 5 o3),r1,(pn o9 fl)]
 (.ite (ah pg (pc o3 0))
 (.ret (.tup [dh,(pi 0)]))
 (.next ⟨[],[]⟩))))
 (.next ⟨[(49,(aA fl (pi 1)))],[]⟩))
 (.exit 2 ⟨[(50,(ah fl fj))],[]⟩))
def aCc:PT:=
 (.call ⟨[(7,(pi 0)),(6,(pi 0))],[(3,(.mk [r0]))]⟩ [] 17 20 [Dy,r1,r2]
 (.ite (aF jn (pi 0))
 (.ret (.tup [(pi 0),jn]))
 (.brk ⟨[(25,(pi 0)),(24,(.llen r1)),(23,r1),(9,pN)],[(9,(.lst [r2]))]⟩
(avc b)
 (.mcall ⟨[],[]⟩ 1000000013 49 [pN,o9]
 (.brk ⟨[(49,(pi 0)),(48,(.llen mw))],[(9,mw)]⟩
(avd b)
 (.ret (.tup [(pi (-1)),(pi 0)])))))))
def apH:PT×List (Shp×PT):=(aCc b,[(.lp 0 [9,25,26] [9] [9,25] [9],azx b),(.lp 2 [6,7,49,50] [] [6,7,49] [],azy b)])
def ahz:yw.map told=some (apH (bk yw)):=by kernel_rfl
def yC:Option PC:=cF [4,5] [] Tryz.f21 21 []
def avC:PC:=.block 0 [4,5,11,12,13,14] [] (.loop [4,5] [] (b 0))
def azA (b:Nat->PC):PT:=
 (.ite (ah r5 (.llen r0))
 (.chk (ao r0 r5)
 (.chk (ao r1 r5)
 (.ite (aF (pn r0 r5) (pn r1 r5))
 (.ret pF)
 (.next ⟨[(5,Am)],[]⟩))))
 (.exit 0 ⟨[(11,r5),(12,r0),(13,(.llen r0)),(14,(ah r5 (.llen r0)))],[]⟩))
def aCN:PT:=
 (.ite (aF (.llen r0) (.llen r1))
 (.ret pF)
 (.brk ⟨[(5,(pi 0)),(4,pF)],[]⟩
(avC b)
 (.ret pT)))
def apZ:PT×List (Shp×PT):=(aCN b,[(.lp 0 [4,5,11,12,13,14] [] [4,5] [],azA b)])
def ahN:yC.map told=some (apZ (bk yC)):=by kernel_rfl
def BN:Option PC:=cF [4,5] [] Tryz.f5 5 [2,3]
def Qs:Nat->PC:=bo BN
def avF:PC:=.block 0 [4,5,14,15,16,17,18] [] (.loop [4,5] [] (b 0))
def H6 (b:Nat->PC):PT:=
 (.ite (ah r5 (.llen (pc o2 4)))
 (.blockS ⟨[],[]⟩ 1 [4,21,22,23,24,25,26,27] []
 (.chk (ao (pc o2 4) r5)
 (.call ⟨[],[]⟩ [] 26 24 [(pn (pc o2 4) r5)]
 (.ite (.nt kE)
 (.ret pF)
 (.next ⟨[],[]⟩))))
 (.next ⟨[(5,Am)],[]⟩))
 (.exit 0 ⟨[(14,r5),(15,pN),(16,(pc o2 4)),(17,(.llen (pc o2 4))),(18,(ah r5 (.llen (pc o2 4))))],[]⟩))
def Zv:PT:=
 (.call ⟨[(4,pF)],[(3,(.mk [r1])),(2,(.mk [r0]))]⟩ [] 7 22 [jX]
 (.call ⟨[(9,(.nt r7))],[]⟩ [(9,false)] 11 23 [(ar 19 o3)]
 (.ite (.pick r9 pT (.nt bL))
 (.ret pF)
 (.brk ⟨[(5,(pi 0))],[]⟩
(avF b)
 (.ret pT)))))
def ap2:PT×List (Shp×PT):=(Zv b,[(.lp 0 [4,5,14,15,16,17,18] [] [4,5] [],H6 b)])
def U6:BN.map told=some (ap2 (bk BN)):=by kernel_rfl
def aCP:tree (ab BN)=Zv Qs:=bH U6
def WU:round 0 [4,5,14,15,16,17,18] [] [4,5] [] (Qs 0)=H6 Qs:=bm U6 0 λ_=>rfl
def BA:Option PC:=cF [2,3,4] [] Tryz.f22 22 [1]
def EF:Nat->PC:=bo BA
def avj:PC:=.block 0 [2,3,5,6,7,8,9,10,13] [] (.loop [2,3] [] (b 0))
def avk:PC:=.block 2 [2,4,44,45,46,47,48,49,52] [] (.loop [2,4] [] (b 1))
def Ay (b:Nat->PC):PT:=
 (.ite (.pick (ah r3 my) (ah r3 (pi 50)) pF)
 (.chk (ao (pc o1 1) r3)
 (.chk (.nt (.an (.an (.nt (aR (.llen (pc (pn (pc o1 1) r3) 4)) (pi 70))) pT) (.nt (ao (pc o1 1) r3))))
 (.chk (.nt (.an (.an (.nt ajf) pT) (.nt (ao (pc o1 1) r3))))
 (.ite (.pick ajf pT (aR (.llen (pc (pn (pc o1 1) r3) 3)) (pi 8)))
 (.ret pF)
 (.next ⟨[(3,xb)],[]⟩)))))
 (.exit 0 ⟨[(5,r3),(6,pN),(7,(pc o1 1)),(8,my),(9,(ah r3 my)),(10,(ah r3 my)),(13,(.pick (ah r3 my) (ah r3 (pi 50)) pF))],[]⟩))
def DM (b:Nat->PC):PT:=
 (.ite (.pick (ah r4 qk) (ah r4 (pi 50)) pF)
 (.chk (ao (pc o1 4) r4)
 (.chk (.nt (.an (.an (.nt (aR (.llen (pc Aj 2)) (pi 40))) pT) (.nt (ao (pc o1 4) r4))))
 (.ite (.pick (aR (.llen (pc Aj 2)) (pi 40)) pT (aR (.llen (pc Aj 3)) (pi 40)))
 (.ret pF)
 (.next ⟨[(4,(aA r4 (pi 1)))],[]⟩))))
 (.exit 2 ⟨[(44,r4),(45,pN),(46,(pc o1 4)),(47,qk),(48,(ah r4 qk)),(49,(ah r4 qk)),(52,(.pick (ah r4 qk) (ah r4 (pi 50)) pF))],[]⟩))
def Zd:PT:=
 (.brk ⟨[(3,(pi 0)),(2,pF)],[(1,(.mk [r0]))]⟩
(avj b)
 (.brk ⟨[(4,(pi 0))],[]⟩
(avk b)
 (.ret (.pick (.pick (.pick (.pick (.pick (.pick (.pick (ah xf (pi 50)) (ah my (pi 50)) pF) (ah tN (pi 50)) pF) (ah oW (pi 210)) pF) (ah qk (pi 50)) pF) (ah DC (pi 110)) pF) (ah (.llen (pc o1 6)) (pi 110)) pF) (ah Al (pi 50)) pF))))
def apN:PT×List (Shp×PT):=(Zd b,[(.lp 0 [2,3,5,6,7,8,9,10,13] [] [2,3] [],Ay b),(.lp 2 [2,4,44,45,46,47,48,49,52] [] [2,4] [],DM b)])
def M2:BA.map told=some (apN (bk BA)):=by kernel_rfl
def aCw:tree (ab BA)=Zd EF:=bH M2
def HO:round 0 [2,3,5,6,7,8,9,10,13] [] [2,3] [] (EF 0)=Ay EF:=bm M2 0 λ_=>rfl
def Oh:round 2 [2,4,44,45,46,47,48,49,52] [] [2,4] [] (EF 1)=DM EF:=bm M2 1 λ_=>rfl
def Kw:Option PC:=cF [2] [] Tryz.f23 23 [1]
def Zr:PT:=
 (.ret (.pick (.pick (.pick (bz (.llen rN) (pi 50)) (bz (.llen (pc (.mk [r0]) 16)) (pi 10)) pF) (bz (.llen (pc (.mk [r0]) 17)) (pi 110)) pF) (bz (.llen (pc (.mk [r0]) 18)) (pi 220)) pF))
def ahL:Kw.map told=some (Zr,[]):=by kernel_rfl
def aCK:tree (ab Kw)=Zr:=aT ahL
def BM:Option PC:=cF [2,3] [] Tryz.f24 24 [1]
def Qr:Nat->PC:=bo BM
def avE:PC:=.block 0 [2,3,14,15,16,17,18] [] (.loop [2,3] [] (b 0))
def H5 (b:Nat->PC):PT:=
 (.ite (ah r3 oW)
 (.blockS ⟨[],[]⟩ 1 [2,21,22,23,24,25,26,27,28] []
 (.chk (ao (pc o1 3) r3)
 (.call ⟨[],[]⟩ [] 27 56 [(.sub (pn (pc o1 3) r3) 1 3)]
 (.ite (.nt dx)
 (.ret pF)
 (.next ⟨[],[]⟩))))
 (.next ⟨[(3,xb)],[]⟩))
 (.exit 0 ⟨[(14,r3),(15,pN),(16,(pc o1 3)),(17,oW),(18,(ah r3 oW))],[]⟩))
def Zu:PT:=
 (.ite (.pick (aR (.llen (pc (.mk [r0]) 3)) (pi 60)) pT (aR rR (pi 60)))
 (.ret pF)
 (.brk ⟨[(3,(pi 0)),(2,pF)],[(1,(.mk [r0]))]⟩
(avE b)
 (.ret pT)))
def ap1:PT×List (Shp×PT):=(Zu b,[(.lp 0 [2,3,14,15,16,17,18] [] [2,3] [],H5 b)])
def U5:BM.map told=some (ap1 (bk BM)):=by kernel_rfl
def aCO:tree (ab BM)=Zu Qr:=bH U5
def WT:round 0 [2,3,14,15,16,17,18] [] [2,3] [] (Qr 0)=H5 Qr:=bm U5 0 λ_=>rfl
def Ky:Option PC:=cF [2] [] Tryz.f56 56 [1]
def Zt:PT:=
 (.call ⟨[],[]⟩ [] 4 92 [NK,(pi 100),(pi 20)]
 (.ret (ba r4 (pi 0))))
def ahM:Ky.map told=some (Zt,[]):=by kernel_rfl
def aCM:tree (ab Ky)=Zt:=aT ahM
def yD:Option PC:=cF [6,1,7] [] Tryz.f92 92 [3]
def Qq:Nat->PC:=bo yD
def avD:PC:=.block 0 [1,7,12,13,14,15,16,17,20] [] (.loop [1,7] [] (b 0))
def H4 (b:Nat->PC):PT:=
 (.ite (.pick (ah r7 qj) (ba r1 (pi 0)) pF)
 (.blockS ⟨[],[]⟩ 1 [1,23,24,25,26,27,28,29,30,31] []
 (.chk (ao (pc o3 2) r7)
 (.call ⟨[],[]⟩ [] 31 92 [(pn (pc o3 2) r7),r1,(bf r2 (pi 1))]
 (.next ⟨[(1,tQ)],[]⟩)))
 (.next ⟨[(7,(aA r7 (pi 1)))],[]⟩))
 (.exit 0 ⟨[(12,r7),(13,pN),(14,(pc o3 2)),(15,qj),(16,(ah r7 qj)),(17,(ah r7 qj)),(20,(.pick (ah r7 qj) (ba r1 (pi 0)) pF))],[]⟩))
def Pd:PT:=
 (.ite (ah r2 (pi 1))
 (.ret (pi (-1)))
 (.brk ⟨[(7,(pi 0)),(1,(bf r1 (pi 1)))],[(3,(.mk [r0]))]⟩
(avD b)
 (.ret r1)))
def ap0:PT×List (Shp×PT):=(Pd b,[(.lp 0 [1,7,12,13,14,15,16,17,20] [] [1,7] [],H4 b)])
def U4:yD.map told=some (ap0 (bk yD)):=by kernel_rfl
def akw:tree (ab yD)=Pd Qq:=bH U4
def WR:round 0 [1,7,12,13,14,15,16,17,20] [] [1,7] [] (Qq 0)=H4 Qq:=bm U4 0 λ_=>rfl
def Ks:Option PC:=cF [2,3] [] Tryz.f6 6 [1]
def Zc:PT:=
 (.call ⟨[],[(1,(.mk [r0]))]⟩ [] 5 25 [jX]
 (.iteS ⟨[(3,r5)],[]⟩ (peq r5 (pi 0)) [3] []
 (.call ⟨[],[]⟩ [] 9 26 [(ar 8 o1)]
 (.next ⟨[(3,r9)],[]⟩))
 (.next ⟨[],[]⟩)
 (.iteS ⟨[],[]⟩ (peq r3 (pi 0)) [3] []
 (.call ⟨[],[]⟩ [] 13 27 [(ar 8 o1)]
 (.next ⟨[(3,dh)],[]⟩))
 (.next ⟨[],[]⟩)
 (.iteS ⟨[],[]⟩ (peq r3 (pi 0)) [3] []
 (.call ⟨[],[]⟩ [] 17 28 [(ar 8 o1)]
 (.next ⟨[(3,jn)],[]⟩))
 (.next ⟨[],[]⟩)
 (.iteS ⟨[],[]⟩ (peq r3 (pi 0)) [3] []
 (.call ⟨[],[]⟩ [] 21 29 [(ar 8 o1)]
 (.next ⟨[(3,gH)],[]⟩))
 (.next ⟨[],[]⟩)
 (.ret r3))))))
def ahH:Ks.map told=some (Zc,[]):=by kernel_rfl
def aCv:tree (ab Ks)=Zc:=aT ahH
def BF:Option PC:=cF [2,3,4,6,7] [] Tryz.f25 25 [1,5,44]
def EH:Nat->PC:=bo BF
def avq:PC:=.block 0 [2,3,12,13,14,15,16] [] (.loop [2,3] [] (b 0))
def avr:PC:=.block 2 [2,5,6,30,31,32,33,34] [5] (.loop [2,5,6] [5] (b 1))
def HV (b:Nat->PC):PT:=
 (.ite (ah r3 xf)
 (.blockS ⟨[],[]⟩ 1 [2,4,19,20,21,22,23,24] []
 (.call ⟨[],[]⟩ [] 22 57 [(pc o1 0),r3]
 (.ite (aF kD (pi 0))
 (.ret kD)
 (.next ⟨[],[]⟩)))
 (.next ⟨[(3,xb)],[]⟩))
 (.exit 0 ⟨[(12,r3),(13,pN),(14,(pc o1 0)),(15,xf),(16,(ah r3 xf))],[]⟩))
def HW (b:Nat->PC):PT:=
 (.ite (ah r6 my)
 (.blockS ⟨[],[]⟩ 3 [2,5,7,38,39,40,41,42,43,44,45,46,47,48,49,50,52,53,54,55,56,57,58,59] [44,5]
 (.chk (ao (pc o1 1) r6)
 (.chk (bz (.llen VW) cj)
 (.call ⟨[(5,pN)],[(5,VW)]⟩ [] 48 57 [VW,r6]
 (.ite (aF fj (pi 0))
 (.ret fj)
 (.chk (ao (pc o1 1) r6)
 (.call ⟨[],[]⟩ [] 58 58 [(ar 8 o1),(pn (pc o1 1) r6)]
 (.ite (.nt DK)
 (.ret (pi 1))
 (.next ⟨[],[]⟩))))))))
 (.next ⟨[(6,(aA r6 (pi 1)))],[]⟩))
 (.exit 2 ⟨[(30,r6),(31,pN),(32,(pc o1 1)),(33,my),(34,(ah r6 my))],[]⟩))
def Zk:PT:=
 (.ite (aR (.llen jW) (pi 8))
 (.ret (pi 6))
 (.brk ⟨[(3,(pi 0)),(2,(pi 0))],[(1,(.mk [r0]))]⟩
(avq b)
 (.ite (aR my (pi 40))
 (.ret (pi 6))
 (.brk ⟨[(6,(pi 0)),(5,pN)],[(5,pL)]⟩
(avr b)
 (.ret (pi 0))))))
def apS:PT×List (Shp×PT):=(Zk b,[(.lp 0 [2,3,12,13,14,15,16] [] [2,3] [],HV b),(.lp 2 [2,5,6,30,31,32,33,34] [5] [2,5,6] [5],HW b)])
def M4:BF.map told=some (apS (bk BF)):=by kernel_rfl
def aCD:tree (ab BF)=Zk EH:=bH M4
def WI:round 0 [2,3,12,13,14,15,16] [] [2,3] [] (EH 0)=HV EH:=bm M4 0 λ_=>rfl
def WJ:round 2 [2,5,6,30,31,32,33,34] [5] [2,5,6] [5] (EH 1)=HW EH:=bm M4 1 λ_=>rfl
def Kv:Option PC:=cF [4] [] Tryz.f57 57 []
def Zm:PT:=
 (.chk (ao r0 r1)
 (.call ⟨[],[]⟩ [] 9 93 [(pn r0 r1)]
 (.ite (.nt r9)
 (.ret (pi 2))
 (.chk (ao r0 r1)
 (.call ⟨[],[]⟩ [] 17 94 [r0,r1,(pn r0 r1)]
 (.ite jn
 (.ret (pi 5))
 (.ret (pi 0))))))))
def ahK:Kv.map told=some (Zm,[]):=by kernel_rfl
def aCF:tree (ab Kv)=Zm:=aT ahK
def BB:Option PC:=cF [2,3,4] [] Tryz.f93 93 []
def Ql:Nat->PC:=bo BB
def avl:PC:=.block 0 [2,3,13,14,15,16] [] (.loop [2,3] [] (b 0))
def HP (b:Nat->PC):PT:=
 (.ite (ah r3 (.slen r0))
 (.blockS ⟨[],[]⟩ 1 [2,4,19,20,21,22,23,34,35,36,37,38,39,40,47] []
 (.chk (.sok r0 r3)
 (.chk (.nt (.an (.an (.nt VU) pT) (.nt (.sok r0 r3))))
 (.chk (.nt (.an (.an (bz (.con (.v (.int .u8 48))) (.sidx r0 r3)) (.an (.nt VU) pT)) (.nt (.sok r0 r3))))
 (.call ⟨[(4,(.pick VU pT (.pick (bz (.con (.v (.int .u8 48))) (.sidx r0 r3)) (bz (.sidx r0 r3) (.con (.v (.int .u8 57)))) pF)))],[]⟩ [] 38 140 [(.sidx r0 r3)]
 (.ite (.pick (.nt jY) (.pick (peq r3 (pi 0)) pT (.nt r4)) pF)
 (.ret pF)
 (.next ⟨[],[]⟩))))))
 (.next ⟨[(3,xb)],[]⟩))
 (.exit 0 ⟨[(13,r3),(14,r0),(15,(.slen r0)),(16,(ah r3 (.slen r0)))],[]⟩))
def Zf:PT:=
 (.ite (.pick (ah (.slen r0) (pi 1)) pT (aR (.slen r0) (pi 20)))
 (.ret pF)
 (.brk ⟨[(3,(pi 0)),(2,pF)],[]⟩
(avl b)
 (.ret pT)))
def apO:PT×List (Shp×PT):=(Zf b,[(.lp 0 [2,3,13,14,15,16] [] [2,3] [],HP b)])
def UZ:BB.map told=some (apO (bk BB)):=by kernel_rfl
def aCy:tree (ab BB)=Zf Ql:=bH UZ
def WC:round 0 [2,3,13,14,15,16] [] [2,3] [] (Ql 0)=HP Ql:=bm UZ 0 λ_=>rfl
def Kt:Option PC:=cF [2] [] Tryz.f140 140 []
def Ze:PT:=
 (.ret (.pick (.pick (bz (.con (.v (.int .u8 97))) r0) (bz r0 (.con (.v (.int .u8 122)))) pF) pT (.pick (bz (.con (.v (.int .u8 65))) r0) (bz r0 (.con (.v (.int .u8 90)))) pF)))
def ahI:Kt.map told=some (Ze,[]):=by kernel_rfl
def aCx:tree (ab Kt)=Ze:=aT ahI
def Bz:Option PC:=cF [6,7] [] Tryz.f94 94 []
def Qk:Nat->PC:=bo Bz
def avi:PC:=.block 0 [6,7,8,9,10,11,16] [] (.loop [6,7] [] (b 0))
def HM (b:Nat->PC):PT:=
 (.ite (.pick (ah r7 r1) (ah r7 (.llen r0)) pF)
 (.chk (ao r0 r7)
 (.ite (.cs .eql (pn r0 r7) r2)
 (.ret pT)
 (.next ⟨[(7,(aA r7 (pi 1)))],[]⟩)))
 (.exit 0 ⟨[(8,r7),(9,r1),(10,(ah r7 r1)),(11,(ah r7 r1)),(16,(.pick (ah r7 r1) (ah r7 (.llen r0)) pF))],[]⟩))
def Zb:PT:=
 (.brk ⟨[(7,(pi 0)),(6,pF)],[]⟩
(avi b)
 (.ret pF))
def apM:PT×List (Shp×PT):=(Zb b,[(.lp 0 [6,7,8,9,10,11,16] [] [6,7] [],HM b)])
def UY:Bz.map told=some (apM (bk Bz)):=by kernel_rfl
def aCu:tree (ab Bz)=Zb Qk:=bH UY
def WB:round 0 [6,7,8,9,10,11,16] [] [6,7] [] (Qk 0)=HM Qk:=bm UY 0 λ_=>rfl
def BC:Option PC:=cF [4,5] [] Tryz.f58 58 [2,3]
def Qm:Nat->PC:=bo BC
def avm:PC:=.block 0 [4,5,36,37,38,39,40] [] (.loop [4,5] [] (b 0))
def HQ (b:Nat->PC):PT:=
 (.ite (ah r5 (.llen (pc o3 4)))
 (.blockS ⟨[],[]⟩ 1 [4,43,44,45,46,47,48,49,50,51,60] []
 (.chk (ao (pc o3 4) r5)
 (.chk Dv
 (.call ⟨[],[]⟩ [] 49 59 [(.ai .quo .i64 (pn (pc o3 4) r5) (pi 100)),(pi 1),(pi 12)]
 (.chk (.nt (.an (.an (.nt (.nt fl)) pT) (.nt (ao (pc o3 4) r5))))
 (.chk (.nt (.an (.an (.nt (.nt fl)) pT) (.nt Dv)))
 (.call ⟨[(51,(.nt fl))],[]⟩ [(51,false)] 58 59 [(.ai .rem .i64 (pn (pc o3 4) r5) (pi 100)),(pi 1),(pi 31)]
 (.ite (.pick oZ pT (.nt DK))
 (.ret pF)
 (.next ⟨[],[]⟩))))))))
 (.next ⟨[(5,Am)],[]⟩))
 (.exit 0 ⟨[(36,r5),(37,pN),(38,(pc o3 4)),(39,(.llen (pc o3 4))),(40,(ah r5 (.llen (pc o3 4))))],[]⟩))
def Zg:PT:=
 (.call ⟨[(4,pF)],[(3,(.mk [r1])),(2,(.mk [r0]))]⟩ [] 12 59 [(pc (.mk [r1]) 1),(pi 0),(bf Hd (pi 1))]
 (.call ⟨[(14,(.nt bY))],[]⟩ [(14,false)] 21 59 [(pc o3 2),(pi 0),(bf (.llen (pc o2 0)) (pi 1))]
 (.ite (.pick (.pick (.pick bU pT (.nt gH)) pT (aR (.llen (pc o3 4)) (pi 60))) pT (aR (.llen (pc o3 5)) (pi 200)))
 (.ret pF)
 (.brk ⟨[(5,(pi 0))],[]⟩
(avm b)
 (.call ⟨[],[]⟩ [] 63 95 [(pc o3 3),(pi 0),(pi 6)]
 (.call ⟨[(64,N3)],[]⟩ [(64,true)] 67 95 [(pc o3 4),(pi 0),(pi 2000)]
 (.call ⟨[(69,(.pick mz xh pF))],[]⟩ [(69,true)] 72 95 [(pc o3 5),(pi 0),(pi 100000)]
 (.ret (.pick As Hu pF)))))))))
def apP:PT×List (Shp×PT):=(Zg b,[(.lp 0 [4,5,36,37,38,39,40] [] [4,5] [],HQ b)])
def U0:BC.map told=some (apP (bk BC)):=by kernel_rfl
def aCz:tree (ab BC)=Zg Qm:=bH U0
def WD:round 0 [4,5,36,37,38,39,40] [] [4,5] [] (Qm 0)=HQ Qm:=bm U0 0 λ_=>rfl
def Ku:Option PC:=cF [6] [] Tryz.f59 59 []
def Zj:PT:=
 (.ret (.pick (bz r1 r0) (bz r0 r2) pF))
def ahJ:Ku.map told=some (Zj,[]):=by kernel_rfl
def aCC:tree (ab Ku)=Zj:=aT ahJ
def BE:Option PC:=cF [6,7] [] Tryz.f95 95 []
def Qn:Nat->PC:=bo BE
def avp:PC:=.block 0 [6,7,8,9,10,11] [] (.loop [6,7] [] (b 0))
def HU (b:Nat->PC):PT:=
 (.ite (ah r7 (.llen r0))
 (.blockS ⟨[],[]⟩ 1 [6,14,15,16,17,18,19,20,21,22,23,24,35] []
 (.chk (ao r0 r7)
 (.call ⟨[],[]⟩ [] 20 59 [(pn r0 r7),r1,r2]
 (.ite (.nt dV)
 (.ret pF)
 (.chk (.nt (.an (.an (aR r7 (pi 0)) pT) (.nt (ao r0 (bf r7 (pi 1))))))
 (.chk (.nt (.an (.an (aR r7 (pi 0)) pT) (.nt (ao r0 r7))))
 (.ite (.pick (aR r7 (pi 0)) (ba (pn r0 (bf r7 (pi 1))) (pn r0 r7)) pF)
 (.ret pF)
 (.next ⟨[],[]⟩)))))))
 (.next ⟨[(7,(aA r7 (pi 1)))],[]⟩))
 (.exit 0 ⟨[(8,r7),(9,r0),(10,(.llen r0)),(11,(ah r7 (.llen r0)))],[]⟩))
def Zi:PT:=
 (.brk ⟨[(7,(pi 0)),(6,pF)],[]⟩
(avp b)
 (.ret pT))
def apR:PT×List (Shp×PT):=(Zi b,[(.lp 0 [6,7,8,9,10,11] [] [6,7] [],HU b)])
def U1:BE.map told=some (apR (bk BE)):=by kernel_rfl
def aCB:tree (ab BE)=Zi Qn:=bH U1
def WH:round 0 [6,7,8,9,10,11] [] [6,7] [] (Qn 0)=HU Qn:=bm U1 0 λ_=>rfl
def BG:Option PC:=cF [2,3,5,6] [] Tryz.f26 26 [1,4,44]
def EI:Nat->PC:=bo BG
def avs:PC:=.block 0 [2,3,11,12,13,14,15] [] (.loop [2,3] [] (b 0))
def avt:PC:=.block 2 [2,4,5,30,31,32,33,34] [4] (.loop [2,4,5] [4] (b 1))
def HX (b:Nat->PC):PT:=
 (.ite (ah r3 tN)
 (.blockS ⟨[],[]⟩ 1 [2,18,19,20,21,22,23,24,25] []
 (.chk (ao (pc o1 2) r3)
 (.call ⟨[],[]⟩ [] 24 59 [(pc (pn (pc o1 2) r3) 0),(pi 0),(pi 9)]
 (.ite (.nt lg)
 (.ret (pi 1))
 (.next ⟨[],[]⟩))))
 (.next ⟨[(3,xb)],[]⟩))
 (.exit 0 ⟨[(11,r3),(12,pN),(13,(pc o1 2)),(14,tN),(15,(ah r3 tN))],[]⟩))
def HY (b:Nat->PC):PT:=
 (.ite (ah r5 oW)
 (.blockS ⟨[],[]⟩ 3 [2,4,6,38,39,40,41,42,43,44,45,46,47,48,49,50,52,53,54,55,56,57,58,59,60,61,62,63,64,77] [44,4]
 (.chk (ao (pc o1 3) r5)
 (.chk (bz (.llen VX) cj)
 (.call ⟨[(4,pN)],[(4,VX)]⟩ [] 48 57 [VX,r5]
 (.ite (aF fj (pi 0))
 (.ret fj)
 (.chk (ao (pc o1 3) r5)
 (.call ⟨[],[]⟩ [] 62 59 [(pc (pn (pc o1 3) r5) 1),(pi 0),(bf my (pi 1))]
 (.chk (.nt (.an (.an (.nt (.nt ph)) pT) (.nt (ao (pc o1 3) r5))))
 (.call ⟨[(64,(.nt ph))],[]⟩ [(64,false)] 75 59 [(pc (pn (pc o1 3) r5) 2),(pi 0),(bf tN (pi 1))]
 (.ite (.pick mz pT (.nt Wm))
 (.ret (pi 1))
 (.next ⟨[],[]⟩))))))))))
 (.next ⟨[(5,Am)],[]⟩))
 (.exit 2 ⟨[(30,r5),(31,pN),(32,(pc o1 3)),(33,oW),(34,(ah r5 oW))],[]⟩))
def Zl:PT:=
 (.ite (aR rR (pi 20))
 (.ret (pi 6))
 (.brk ⟨[(3,(pi 0)),(2,(pi 0))],[(1,(.mk [r0]))]⟩
(avs b)
 (.ite (aR oW (pi 200))
 (.ret (pi 6))
 (.brk ⟨[(5,(pi 0)),(4,pN)],[(4,pL)]⟩
(avt b)
 (.ret (pi 0))))))
def apT:PT×List (Shp×PT):=(Zl b,[(.lp 0 [2,3,11,12,13,14,15] [] [2,3] [],HX b),(.lp 2 [2,4,5,30,31,32,33,34] [4] [2,4,5] [4],HY b)])
def M5:BG.map told=some (apT (bk BG)):=by kernel_rfl
def aCE:tree (ab BG)=Zl EI:=bH M5
def WK:round 0 [2,3,11,12,13,14,15] [] [2,3] [] (EI 0)=HX EI:=bm M5 0 λ_=>rfl
def WL:round 2 [2,4,5,30,31,32,33,34] [4] [2,4,5] [4] (EI 1)=HY EI:=bm M5 1 λ_=>rfl
def BH:Option PC:=cF [2,4,5] [] Tryz.f27 27 [1,3,24]
def Qo:Nat->PC:=bo BH
def avu:PC:=.block 0 [2,3,4,10,11,12,13,14] [3] (.loop [2,3,4] [3] (b 0))
def HZ (b:Nat->PC):PT:=
 (.ite (ah r4 qk)
 (.blockS ⟨[],[]⟩ 1 [2,3,5,18,19,20,21,22,23,24,25,26,27,28,29,30,32,33,34,35,36,37,38] [24,3]
 (.chk (ao (pc o1 4) r4)
 (.chk (bz (.llen (.app o3 (.lst [(pc Aj 0)]))) cj)
 (.call ⟨[(3,pN)],[(3,(.app o3 (.lst [(pc Aj 0)])))]⟩ [] 28 57 [(.app o3 (.lst [(pc Aj 0)])),r4]
 (.ite (aF il (pi 0))
 (.ret il)
 (.chk (ao (pc o1 4) r4)
 (.call ⟨[],[]⟩ [] 37 60 [Aj]
 (.ite (.nt lY)
 (.ret (pi 1))
 (.next ⟨[],[]⟩))))))))
 (.next ⟨[(4,(aA r4 (pi 1)))],[]⟩))
 (.exit 0 ⟨[(10,r4),(11,pN),(12,(pc o1 4)),(13,qk),(14,(ah r4 qk))],[]⟩))
def Zn:PT:=
 (.ite (aR Hd (pi 20))
 (.ret (pi 6))
 (.brk ⟨[(4,(pi 0)),(3,pN),(2,(pi 0))],[(3,pL),(1,(.mk [r0]))]⟩
(avu b)
 (.ret (pi 0))))
def apU:PT×List (Shp×PT):=(Zn b,[(.lp 0 [2,3,4,10,11,12,13,14] [3] [2,3,4] [3],HZ b)])
def U2:BH.map told=some (apU (bk BH)):=by kernel_rfl
def aCG:tree (ab BH)=Zn Qo:=bH U2
def WM:round 0 [2,3,4,10,11,12,13,14] [3] [2,3,4] [3] (Qo 0)=HZ Qo:=bm U2 0 λ_=>rfl
def BD:Option PC:=cF [2,3,4] [] Tryz.f60 60 [1]
def EG:Nat->PC:=bo BD
def avn:PC:=.block 0 [2,3,5,6,7,8,9] [] (.loop [2,3] [] (b 0))
def avo:PC:=.block 2 [2,4,48,49,50,51,52] [] (.loop [2,4] [] (b 1))
def HR (b:Nat->PC):PT:=
 (.ite (ah r3 tN)
 (.blockS ⟨[],[]⟩ 1 [2,12,13,14,15,16,17,18,19,20,29,30,31,32,47] []
 (.chk (ao (pc o1 2) r3)
 (.call ⟨[],[]⟩ [] 18 59 [(pc (pn (pc o1 2) r3) 0),(pi 0),(pi 21)]
 (.chk (.nt (.an (.an (.nt (.nt cE)) pT) (.nt (ao (pc o1 2) r3))))
 (.call ⟨[(20,(.nt cE))],[]⟩ [(20,false)] 27 59 [(pc (pn (pc o1 2) r3) 1),(pi 0),(pi 4)]
 (.ite (.pick dV pT (.nt dx))
 (.ret pF)
 (.chk (.nt (.an (.an (aR r3 (pi 0)) pT) (.nt (ao (pc o1 2) (bf r3 (pi 1))))))
 (.chk (.nt (.an (.an (aR r3 (pi 0)) pT) (.nt (ao (pc o1 2) r3))))
 (.ite (.pick (aR r3 (pi 0)) (ba (pc (pn (pc o1 2) (bf r3 (pi 1))) 0) (pc (pn (pc o1 2) r3) 0)) pF)
 (.ret pF)
 (.next ⟨[],[]⟩)))))))))
 (.next ⟨[(3,xb)],[]⟩))
 (.exit 0 ⟨[(5,r3),(6,pN),(7,(pc o1 2)),(8,tN),(9,(ah r3 tN))],[]⟩))
def HT (b:Nat->PC):PT:=
 (.ite (ah r4 oW)
 (.blockS ⟨[],[]⟩ 3 [2,55,56,57,58,59,60,61,62,63,64,65,80] []
 (.chk (ao (pc o1 3) r4)
 (.call ⟨[],[]⟩ [] 61 59 [(pc (pn (pc o1 3) r4) 0),(pi 0),(pi 21)]
 (.ite (.nt Ht)
 (.ret pF)
 (.chk (.nt (.an (.an (aR r4 (pi 0)) pT) (.nt (ao (pc o1 3) (bf r4 (pi 1))))))
 (.chk (.nt (.an (.an (aR r4 (pi 0)) pT) (.nt (ao (pc o1 3) r4))))
 (.ite (.pick (aR r4 (pi 0)) (ba (pc (pn (pc o1 3) (bf r4 (pi 1))) 0) (pc (pn (pc o1 3) r4) 0)) pF)
 (.ret pF)
 (.next ⟨[],[]⟩)))))))
 (.next ⟨[(4,(aA r4 (pi 1)))],[]⟩))
 (.exit 2 ⟨[(48,r4),(49,pN),(50,(pc o1 3)),(51,oW),(52,(ah r4 oW))],[]⟩))
def Zh:PT:=
 (.brk ⟨[(3,(pi 0)),(2,pF)],[(1,(.mk [r0]))]⟩
(avn b)
 (.brk ⟨[(4,(pi 0))],[]⟩
(avo b)
 (.ret pT)))
def apQ:PT×List (Shp×PT):=(Zh b,[(.lp 0 [2,3,5,6,7,8,9] [] [2,3] [],HR b),(.lp 2 [2,4,48,49,50,51,52] [] [2,4] [],HT b)])
def M3:BD.map told=some (apQ (bk BD)):=by kernel_rfl
def aCA:tree (ab BD)=Zh EG:=bH M3
def WE:round 0 [2,3,5,6,7,8,9] [] [2,3] [] (EG 0)=HR EG:=bm M3 0 λ_=>rfl
def WG:round 2 [2,4,48,49,50,51,52] [] [2,4] [] (EG 1)=HT EG:=bm M3 1 λ_=>rfl
def BJ:Option PC:=cF [2,3,5] [] Tryz.f28 28 [1,4]
def EK:Nat->PC:=bo BJ
def avx:PC:=.block 2 [2,5,46,47,48] [] (.loop [2,5] [] (b 0))
def avy:PC:=.block 0 [2,3,10,11,12,13,14] [] (.loop [2,3] [] (b 1))
def DN (b:Nat->PC):PT:=
 (.ite (ah r5 r3)
 (.chk (ao (pc o1 5) r5)
 (.chk (.nt (.an (.an (peq (pc (pn (pc o1 5) r5) 0) (pc o4 0)) pT) (.nt (ao (pc o1 5) r5))))
 (.ite (.pick (peq (pc (pn (pc o1 5) r5) 0) (pc o4 0)) (peq (pc (pn (pc o1 5) r5) 1) (pc o4 1)) pF)
 (.ret (pi 5))
 (.next ⟨[(5,Am)],[]⟩))))
 (.exit 2 ⟨[(46,r5),(47,r3),(48,(ah r5 r3))],[]⟩))
def H3:PT:=
 (.ite (ah r3 DC)
 (.blockS ⟨[(14,(ah r3 DC)),(13,DC),(12,(pc o1 5)),(11,pN),(10,r3)],[]⟩ 1 [2,4,5,17,18,19,20,21,22,23,24,25,26,27,28,29,30,39,40,45,46,47,48] [4]
 (.chk (ao (pc o1 5) r3)
 (.call ⟨[],[(4,(.setc z3 0 (pn (pc o1 5) r3)))]⟩ [] 28 59 [(pc (.setc z3 0 (pn (pc o1 5) r3)) 0),(pi 0),(bf my (pi 1))]
 (.call ⟨[(30,(.nt il))],[]⟩ [(30,false)] 37 59 [(pc o4 1),(pi 0),(bf my (pi 1))]
 (.call ⟨[(40,(.pick tP pT (.nt lY)))],[]⟩ [(40,false)] 43 59 [(pc o4 2),(pi 1),(pi 20000)]
 (.ite (.pick rT pT (.nt tU))
 (.ret (pi 1))
 (.brk ⟨[(5,(pi 0))],[]⟩
(avx b)
 (.next ⟨[],[]⟩)))))))
 (.next ⟨[(3,xb)],[]⟩))
 (.exit 0 ⟨[(10,r3),(11,pN),(12,(pc o1 5)),(13,DC),(14,(ah r3 DC))],[]⟩))
def Zp:PT:=
 (.ite (aR (.llen xe) (pi 100))
 (.ret (pi 6))
 (.brk ⟨[(3,(pi 0)),(2,(pi 0))],[(1,(.mk [r0]))]⟩
(avy b)
 (.ret (pi 0))))
def apW:PT×List (Shp×PT):=(Zp b,[(.lp 2 [2,5,46,47,48] [] [2,5] [],DN b),(.lp 0 [2,3,10,11,12,13,14] [] [2,3] [],H3 b)])
def M7:BJ.map told=some (apW (bk BJ)):=by kernel_rfl
def aCI:tree (ab BJ)=Zp EK:=bH M7
def Oi:round 2 [2,5,46,47,48] [] [2,5] [] (EK 0)=DN EK:=bm M7 0 λ_=>rfl
def WQ:round 0 [2,3,10,11,12,13,14] [] [2,3] [] (EK 1)=H3 EK:=bm M7 1 λ_=>rfl
def BI:Option PC:=cF [2,3,5] [] Tryz.f29 29 [1,4,6]
def EJ:Nat->PC:=bo BI
def avv:PC:=.block 0 [2,3,11,12,13,14,15] [] (.loop [2,3] [] (b 0))
def avw:PC:=.block 2 [2,5,68,69,70,71,72] [] (.loop [2,5] [] (b 1))
def H0 (b:Nat->PC):PT:=
 (.ite (ah r3 (.llen (pc o1 6)))
 (.blockS ⟨[],[]⟩ 1 [2,4,18,19,20,21,22,23,24,25,26,27,28,29,30,31,40,41,47,48,49,50,51,52,57,58,63] [4]
 (.chk (ao (pc o1 6) r3)
 (.call ⟨[],[(4,(.setc z5 0 (pn (pc o1 6) r3)))]⟩ [] 29 59 [(pc (.setc z5 0 (pn (pc o1 6) r3)) 0),(pi 0),(bf xf (pi 1))]
 (.call ⟨[(31,(.nt nu))],[]⟩ [(31,false)] 38 59 [(pc o4 1),(pi 0),(bf xf (pi 1))]
 (.ite (.pick (.pick tQ pT (.nt jY)) pT (peq (pc o4 0) (pc o4 1)))
 (.ret (pi 1))
 (.call ⟨[],[]⟩ [] 50 59 [(pc o4 2),(pi 1),(pi 1073741824)]
 (.call ⟨[(52,(.nt nv))],[]⟩ [(52,false)] 55 59 [(pc o4 3),(pi 1),(pi 1073741824)]
 (.call ⟨[(58,(.pick Hs pT (.nt vl)))],[]⟩ [(58,false)] 61 59 [(pc o4 4),(pi 0),(pi 100000)]
 (.ite (.pick DK pT (.nt Ht))
 (.ret (pi 1))
 (.next ⟨[],[]⟩)))))))))
 (.next ⟨[(3,xb)],[]⟩))
 (.exit 0 ⟨[(11,r3),(12,pN),(13,(pc o1 6)),(14,(.llen (pc o1 6))),(15,(ah r3 (.llen (pc o1 6))))],[]⟩))
def H2 (b:Nat->PC):PT:=
 (.ite (ah r5 Al)
 (.blockS ⟨[],[]⟩ 3 [2,6,75,76,77,78,79,80,81,82,83,84,85,86,87,88,95,96,100] [6]
 (.chk (ao (pc o1 7) r5)
 (.call ⟨[],[(6,(.setc z3 0 (pn (pc o1 7) r5)))]⟩ [] 86 59 [(pc (.setc z3 0 (pn (pc o1 7) r5)) 0),(pi 0),(bf qk (pi 1))]
 (.call ⟨[(88,(.nt r86))],[]⟩ [(88,false)] 93 59 [(pc o6 1),(pi 0),(pc o6 2)]
 (.ite (.pick (.pick Hx pT (.nt Hy)) pT (aR (pc o6 2) (pi 100000)))
 (.ret (pi 1))
 (.next ⟨[],[]⟩)))))
 (.next ⟨[(5,Am)],[]⟩))
 (.exit 2 ⟨[(68,r5),(69,pN),(70,(pc o1 7)),(71,Al),(72,(ah r5 Al))],[]⟩))
def Zo:PT:=
 (.ite (aR (.llen (pc (.mk [r0]) 6)) (pi 100))
 (.ret (pi 6))
 (.brk ⟨[(3,(pi 0)),(2,(pi 0))],[(1,(.mk [r0]))]⟩
(avv b)
 (.ite (aR Al (pi 20))
 (.ret (pi 6))
 (.brk ⟨[(5,(pi 0))],[]⟩
(avw b)
 (.ret (pi 0))))))
def apV:PT×List (Shp×PT):=(Zo b,[(.lp 0 [2,3,11,12,13,14,15] [] [2,3] [],H0 b),(.lp 2 [2,5,68,69,70,71,72] [] [2,5] [],H2 b)])
def M6:BI.map told=some (apV (bk BI)):=by kernel_rfl
def aCH:tree (ab BI)=Zo EJ:=bH M6
def WN:round 0 [2,3,11,12,13,14,15] [] [2,3] [] (EJ 0)=H0 EJ:=bm M6 0 λ_=>rfl
def WO:round 2 [2,5,68,69,70,71,72] [] [2,5] [] (EJ 1)=H2 EJ:=bm M6 1 λ_=>rfl
def yp:Option PC:=cF [4,5,6,7,8,11] [] Tryz.f7 7 [2,3,10]
def EE:Nat->PC:=bo yp
def au2:PC:=.block 0 [4,48,49] [] (.loop [4,48] [] (b 0))
def au3:PC:=.block 2 [4,8,62,63] [] (.loop [4,8,62] [] (b 1))
def HJ (b:Nat->PC):PT:=
 (.ite (ah fj N2)
 (.blockS ⟨[],[]⟩ 1 [4,6,7,50,51,52,53,54,55,56] []
 (.call ⟨[],[]⟩ [] 54 31 [(ar 8 o2),(ar 19 o3),fj]
 (.ite (aF pf (pi 0))
 (.ret pf)
 (.next ⟨[],[]⟩)))
 (.next ⟨[(48,(aA fj (pi 1)))],[]⟩))
 (.exit 0 ⟨[(49,(ah fj N2))],[]⟩))
def HL (b:Nat->PC):PT:=
 (.ite (ah ph Ht)
 (.blockS ⟨[],[]⟩ 3 [4,8,10,64,65,66,67,68,69,70,71,72,73,74,75,76,77,78,79,80] [10]
 (.chk (ao xg ph)
 (.call ⟨[],[(10,(.setc z2 0 (pn xg ph)))]⟩ [] 73 32 [(pc (.setc z2 0 (pn xg ph)) 0),oX,(.llen (pc o3 15))]
 (.ite (.nt Hv)
 (.ret (pi 1))
 (.call ⟨[],[]⟩ [] 77 32 [(pc bG 1),(pi 1),rM]
 (.ite (.nt N4)
 (.ret (pi 3))
 (.next ⟨[(8,(pc bG 0))],[]⟩))))))
 (.next ⟨[(62,(aA ph (pi 1)))],[]⟩))
 (.exit 2 ⟨[(63,(ah ph Ht))],[]⟩))
def YC:PT:=
 (.ite (.pick (.pick (.pick (aR (.llen (pc (.mk [r1]) 15)) (pi 40)) pT (aR (.llen (pc (.mk [r1]) 16)) (pi 4))) pT (aR (.llen (pc (.mk [r1]) 17)) (pi 100))) pT (aR (.llen (pc (.mk [r1]) 18)) (pi 200)))
 (.ret (pi 6))
 (.call ⟨[(4,(pi 0))],[(3,(.mk [r1])),(2,(.mk [r0]))]⟩ [] 37 30 [jX,(ar 15 (.mk [r1]))]
 (.ite (aF lY (pi 0))
 (.ret lY)
 (.ite (peq (.llen (pc o3 15)) (pi 0))
 (.ret (pi 14))
 (.brk ⟨[(48,(pi 0)),(47,(.llen (pc o3 15)))],[]⟩
(au2 b)
 (.brk ⟨[(62,(pi 0)),(61,(.llen (pc o3 16))),(60,(pc o3 16)),(8,(pi 0))],[]⟩
(au3 b)
 (.call ⟨[],[]⟩ [] 84 33 [(ar 8 o2),(ar 19 o3)]
 (.ite (aF Wn (pi 0))
 (.ret Wn)
 (.call ⟨[],[]⟩ [] 89 34 [(ar 19 o3)]
 (.ret r89))))))))))
def apA:PT×List (Shp×PT):=(YC b,[(.lp 0 [4,48,49] [] [4,48] [],HJ b),(.lp 2 [4,8,62,63] [] [4,8,62] [],HL b)])
def M1:yp.map told=some (apA (bk yp)):=by kernel_rfl
def aBV:tree (ab yp)=YC EE:=bH M1
def Wz:round 0 [4,48,49] [] [4,48] [] (EE 0)=HJ EE:=bm M1 0 λ_=>rfl
def WA:round 2 [4,8,62,63] [] [4,8,62] [] (EE 1)=HL EE:=bm M1 1 λ_=>rfl
def E7:Option PC:=cF [4,5,6,7,8,54,80,109,118,9,10] [] Tryz.f30 30 [2,3]
def aaq:PT:=
 (.call ⟨[],[(3,(.mk [r1])),(2,(.mk [r0]))]⟩ [] 12 61 [jX]
 (.ite (aF bY (pi 0))
 (.ret bY)
 (.call ⟨[(7,(.llen (pc o2 1))),(6,(.llen (pc o2 3)))],[]⟩ [] 25 62 [(pc o3 0),(.llen (pc o2 3))]
 (.call ⟨[(26,gh)],[]⟩ [(26,true)] 30 62 [(pc o3 1),r6]
 (.call ⟨[(36,(peq (pc o3 2) (pi (-1)))),(32,(.pick kE tP pF))],[]⟩ [(36,false),(32,true)] 40 62 [(pc o3 2),r6]
 (.call ⟨[(47,(peq (pc o3 11) (pi (-1)))),(43,(.pick tR (.pick iu pT rT) pF))],[]⟩ [(47,false),(43,true)] 51 62 [(pc o3 11),r6]
 (.blockS ⟨[(8,(.pick tU (.pick N2 pT oZ) pF))],[]⟩ 0 [4,54,55,56,57,65,66,72,73,79,80,81,82,83,84,88,89,93,94,98,99,103,104,108,109,110,111,112,113,117,118,119,120,121,122,126,127,137,138,142] []
 (.call ⟨[(57,(.nt r8))],[]⟩ [(57,false)] 63 62 [(pc o3 4),(.llen (pc o2 0))]
 (.call ⟨[(66,(.pick tV pT (.nt N3)))],[]⟩ [(66,false)] 70 62 [(pc o3 9),r7]
 (.call ⟨[(73,(.pick r66 pT (.nt r70)))],[]⟩ [(73,false)] 77 62 [(pc o3 10),r7]
 (.iteS ⟨[],[]⟩ (.pick Hv pT (.nt N4)) [4,80,81,82,83,84,88,89,93,94,98,99,103,104,108,109,110,111,112,113,117,118,119,120,121,122,126,127,137,138,142] []
 (.ret (pi 1))
 (.iteS ⟨[],[]⟩ (.pick (.pick (.pick (.pick (.pick (ah (pc o3 3) (pi 1)) pT (aR (pc o3 3) rM)) pT (ah (pc o3 8) (pi 0))) pT (aR (pc o3 8) (pi 100000))) pT (ah (pc o3 12) (pi 0))) pT (aR (pc o3 12) (pi 1000))) [4,109,110,111,112,113,117,118,119,120,121,122,126,127,137,138,142] []
 (.ret (pi 3))
 (.iteS ⟨[],[]⟩ (.pick (ah (pc o3 14) (pi 1)) pT (aR (pc o3 14) (pi 4))) [4,118,119,120,121,122,126,127,137,138,142] []
 (.ret (pi 15))
 (.call ⟨[(138,(.pick (.pick (ah (pc o3 13) (pi 0)) pT (aR (pc o3 13) (pi 7))) pT (.pick (aF (.ai .and .i64 (pc o3 13) (pi 4)) (pi 0)) (peq (pc o3 2) (pi (-1))) pF)))],[]⟩ [(138,false)] 140 63 [(ar 15 o3)]
 (.ite (.pick (.r 138) pT (.nt (.r 140)))
 (.ret (pi 2))
 (.next ⟨[],[]⟩)))
 (.next ⟨[],[]⟩))
 (.next ⟨[],[]⟩))
 (.next ⟨[],[]⟩)))))
 (.iteS ⟨[],[]⟩ (peq (pc o3 5) (pi 4)) [4] []
 (.call ⟨[],[]⟩ [] 153 64 [(ar 8 o2),(pc o3 9),(pc o3 10)]
 (.ret (.tget (.r 153) 1)))
 (.next ⟨[],[]⟩)
 (.ret (pi 0))))))))))
def aio:E7.map told=some (aaq,[]):=by kernel_rfl
def aDP:tree (ab E7)=aaq:=aT aio
def BO:Option PC:=cF [2,3,4,5,6,7,10,11,12] [] Tryz.f61 61 [1,9]
def Qt:Nat->PC:=bo BO
def avG:PC:=.block 0 [2,38,39] [] (.loop [2,38] [] (b 0))
def H7 (b:Nat->PC):PT:=
 (.ite (ah jY lY)
 (.blockS ⟨[],[]⟩ 1 [2,9,40,41,42,43,44,45] [9]
 (.chk (ao iu jY)
 (.call ⟨[],[]⟩ [] 44 101 [(pc (.setc He 0 (pn iu jY)) 0),(pi 10)]
 (.ite (.nt Ar)
 (.ret (pi 1))
 (.next ⟨[],[]⟩))))
 (.next ⟨[(38,(aA jY (pi 1)))],[]⟩))
 (.exit 0 ⟨[(39,(ah jY lY))],[]⟩))
def Zw:PT:=
 (.call ⟨[(2,(pi 0))],[(1,(.mk [r0]))]⟩ [] 15 96 [jX]
 (.call ⟨[(5,(.tget dt 2)),(4,(.tget dt 1)),(3,(.tget dt 0))],[]⟩ [] 21 97 [(pc o1 0),(pi 8),(.con (.clo 98 []))]
 (.ite (aF gH (pi 0))
 (.ret gH)
 (.call ⟨[],[(1,(ar 8 o1))]⟩ [] 27 97 [r3,(pi 40),(.clo 99 [(.ref (ar 8 o1))])]
 (.ite (aF dx (pi 0))
 (.ret dx)
 (.ite (aR tN (pi 20))
 (.ret (pi 6))
 (.brk ⟨[(38,(pi 0)),(37,tN),(36,(pc o1 2))],[]⟩
(avG b)
 (.call ⟨[],[]⟩ [] 49 97 [r4,(pi 200),(.clo 102 [(.ref o1)])]
 (.ite (aF fl (pi 0))
 (.ret fl)
 (.call ⟨[],[]⟩ [] 55 97 [r5,(pi 20),(.clo 103 [(.ref o1)])]
 (.ite (aF vl (pi 0))
 (.ret vl)
 (.call ⟨[],[]⟩ [] 60 105 [(.sub o1 0 8)]
 (.ite (aF xg (pi 0))
 (.ret xg)
 (.call ⟨[],[]⟩ [] 65 106 [(.sub o1 0 8)]
 (.ret DL)))))))))))))))
def ap3:PT×List (Shp×PT):=(Zw b,[(.lp 0 [2,38,39] [] [2,38] [],H7 b)])
def U7:BO.map told=some (ap3 (bk BO)):=by kernel_rfl
def aCU:tree (ab BO)=Zw Qt:=bH U7
def WV:round 0 [2,38,39] [] [2,38] [] (Qt 0)=H7 Qt:=bm U7 0 λ_=>rfl
def BS:Option PC:=cF [] [] Tryz.f96 96 [1,2,3,4,6,16390,20486,24582,21,8,34,10,12298,16394,47]
def yi:Nat->PC:=bo BS
def avL:PC:=.block 0 [2,14,15] [2] (.loop [2,14] [2] (b 0))
def avM:PC:=.block 2 [3,27,28] [3] (.loop [3,27] [3] (b 1))
def avN:PC:=.block 4 [4,40,41] [4] (.loop [4,40] [4] (b 2))
def On (b:Nat->PC):PT:=
 (.ite rQ
 (.chk (ao bY bU)
 (.chk (bz (.llen ajc) cj)
 (.next ⟨[(2,pN),(14,(aA bU (pi 1)))],[(2,ajc)]⟩)))
 (.exit 0 ⟨[(15,rQ)],[]⟩))
def Oo (b:Nat->PC):PT:=
 (.ite (ah dx kE)
 (.chk (ao gh dx)
 (.chk (bz (.llen ajg) cj)
 (.next ⟨[(3,pN),(27,(aA dx (pi 1)))],[(3,ajg)]⟩)))
 (.exit 2 ⟨[(28,(ah dx kE))],[]⟩))
def Oq (b:Nat->PC):PT:=
 (.ite (ah rT rS)
 (.chk (ao jY rT)
 (.chk (bz (.llen ajd) cj)
 (.next ⟨[(4,pN),(40,(aA rT (pi 1)))],[(4,ajd)]⟩)))
 (.exit 4 ⟨[(41,(ah rT rS))],[]⟩))
def ZH:PT:=
 (.brk ⟨[(14,(pi 0)),(13,(.llen oV)),(12,oV),(4,pN),(3,pN),(2,pN)],[(4,pL),(3,pL),(2,pL),(1,(.mk [r0]))]⟩
(avL b)
 (.brk ⟨[(27,(pi 0)),(26,oW),(25,(pc o1 3))],[]⟩
(avM b)
 (.brk ⟨[(40,(pi 0)),(39,qk),(38,(pc o1 4))],[]⟩
(avN b)
 (.ret (.tup [o2,o3,o4])))))
def ap8:PT×List (Shp×PT):=(ZH b,[(.lp 0 [2,14,15] [2] [2,14] [2],On b),(.lp 2 [3,27,28] [3] [3,27] [3],Oo b),(.lp 4 [4,40,41] [4] [4,40] [4],Oq b)])
def G3:BS.map told=some (ap8 (bk BS)):=by kernel_rfl
def aC1:tree (ab BS)=ZH yi:=bH G3
def ajF:round 0 [2,14,15] [2] [2,14] [2] (yi 0)=On yi:=bm G3 0 λ_=>rfl
def ajG:round 2 [3,27,28] [3] [3,27] [3] (yi 1)=Oo yi:=bm G3 1 λ_=>rfl
def ajH:round 4 [4,40,41] [4] [4,40] [4] (yi 2)=Oq yi:=bm G3 2 λ_=>rfl
def BQ:Option PC:=cF [6,7,8] [] Tryz.f97 97 []
def Qw:Nat->PC:=bo BQ
def avJ:PC:=.block 0 [6,15,16] [] (.loop [6,15] [] (b 0))
def H9 (b:Nat->PC):PT:=
 (.ite (ah dt bU)
 (.blockS ⟨[],[]⟩ 1 [6,7,8,17,18,19,20,21,22,24,25,26,27] []
 (.call ⟨[(7,dt)],[]⟩ [] 20 141 [r0,dt]
 (.ite (aF dV (pi 0))
 (.ret dV)
 (.callc ⟨[],[]⟩ [] 26 r2 [r7]
 (.ite (.nt kE)
 (.ret (pi 1))
 (.next ⟨[],[]⟩)))))
 (.next ⟨[(15,(aA dt (pi 1)))],[]⟩))
 (.exit 0 ⟨[(16,(ah dt bU))],[]⟩))
def ZD:PT:=
 (.ite (aR (.llen r0) r1)
 (.ret (pi 6))
 (.brk ⟨[(15,(pi 0)),(14,(.llen r0)),(6,(pi 0))],[]⟩
(avJ b)
 (.ret (pi 0))))
def ap6:PT×List (Shp×PT):=(ZD b,[(.lp 0 [6,15,16] [] [6,15] [],H9 b)])
def Va:BQ.map told=some (ap6 (bk BQ)):=by kernel_rfl
def aCX:tree (ab BQ)=ZD Qw:=bH Va
def WX:round 0 [6,15,16] [] [6,15] [] (Qw 0)=H9 Qw:=bm Va 0 λ_=>rfl
def KF:Option PC:=cF [4] [] Tryz.f141 141 []
def ZG:PT:=
 (.chk (ao r0 r1)
 (.call ⟨[],[]⟩ [] 9 174 [(pn r0 r1)]
 (.ite (.nt r9)
 (.ret (pi 2))
 (.chk (.slok r0 (pi 0) r1)
 (.chk (ao r0 r1)
 (.call ⟨[],[]⟩ [] 18 175 [(.slc r0 (pi 0) r1),(pn r0 r1)]
 (.ite cE
 (.ret (pi 5))
 (.ret (pi 0)))))))))
def ahU:KF.map told=some (ZG,[]):=by kernel_rfl
def aC0:tree (ab KF)=ZG:=aT ahU
def BR:Option PC:=cF [2,3,4,5] [] Tryz.f174 174 []
def Qx:Nat->PC:=bo BR
def avK:PC:=.block 0 [2,16,17] [] (.loop [2,16] [] (b 0))
def Ia (b:Nat->PC):PT:=
 (.ite (ah cU dt)
 (.chk (ao bU cU)
 (.ite (.pick (.nt (.pick (.pick (ba tK (.con (.v (.int .u8 97)))) (bz tK (.con (.v (.int .u8 122)))) pF) pT (.pick (ba tK (.con (.v (.int .u8 65)))) (bz tK (.con (.v (.int .u8 90)))) pF))) (.pick (peq cU (pi 0)) pT (.pick (aF tK (.con (.v (.int .u8 95)))) (.pick (ah tK (.con (.v (.int .u8 48)))) pT (aR tK (.con (.v (.int .u8 57))))) pF)) pF)
 (.ret pF)
 (.next ⟨[(16,(aA cU (pi 1)))],[]⟩)))
 (.exit 0 ⟨[(17,(ah cU dt))],[]⟩))
def ZF:PT:=
 (.ite (.pick (.cs .eql r0 (.con (.v (.string ⟨#[]⟩)))) pT (aR (.slen r0) (pi 20)))
 (.ret pF)
 (.chk (bz (.slen r0) cj)
 (.brk ⟨[(16,(pi 0)),(15,(.llen (.bytes r0))),(14,(.bytes r0)),(2,pF)],[]⟩
(avK b)
 (.ret pT))))
def ap7:PT×List (Shp×PT):=(ZF b,[(.lp 0 [2,16,17] [] [2,16] [],Ia b)])
def Vb:BR.map told=some (ap7 (bk BR)):=by kernel_rfl
def aCZ:tree (ab BR)=ZF Qx:=bH Vb
def WY:round 0 [2,16,17] [] [2,16] [] (Qx 0)=Ia Qx:=bm Vb 0 λ_=>rfl
def KM:Option PC:=cF [4] [] Tryz.f175 175 []
def ZY:PT:=
 (.call ⟨[],[]⟩ [] 7 202 [r0,r1]
 (.ret (ba r7 (pi 0))))
def ah1:KM.map told=some (ZY,[]):=by kernel_rfl
def aDj:tree (ab KM)=ZY:=aT ah1
def B6:Option PC:=cF [4,5] [] Tryz.f202 202 []
def QG:Nat->PC:=bo B6
def awa:PC:=.block 0 [4,8,9] [] (.loop [4,8] [] (b 0))
def Iv (b:Nat->PC):PT:=
 (.ite (ah r8 r7)
 (.chk (ao r0 r8)
 (.ite (.cs .eql r1 (pn r0 r8))
 (.ret r8)
 (.next ⟨[(8,oX)],[]⟩)))
 (.exit 0 ⟨[(9,(ah r8 r7))],[]⟩))
def Z5:PT:=
 (.brk ⟨[(8,(pi 0)),(7,(.llen r0)),(4,(pi 0))],[]⟩
(awa b)
 (.ret (pi (-1))))
def aqo:PT×List (Shp×PT):=(Z5 b,[(.lp 0 [4,8,9] [] [4,8] [],Iv b)])
def Vk:B6.map told=some (aqo (bk B6)):=by kernel_rfl
def aDq:tree (ab B6)=Z5 QG:=bH Vk
def Xj:round 0 [4,8,9] [] [4,8] [] (QG 0)=Iv QG:=bm Vk 0 λ_=>rfl
def Kz:Option PC:=cF [2] [] Tryz.f98 98 []
def Zx:PT:=
 (.ret pT)
def ahO:Kz.map told=some (Zx,[]):=by kernel_rfl
def aCQ:tree (ab Kz)=Zx:=aT ahO
def KA:Option PC:=cF [3] [] Tryz.f99 99 []
def Zy:PT:=
 (.chk (ao (pc (.deref r1) 1) r0)
 (.call ⟨[],[]⟩ [] 10 100 [(.deref r1),(pn (pc (.deref r1) 1) r0)]
 (.ret dg)))
def ahP:KA.map told=some (Zy,[]):=by kernel_rfl
def aCR:tree (ab KA)=Zy:=aT ahP
def BP:Option PC:=cF [4,6] [] Tryz.f100 100 [2,3]
def Qv:Nat->PC:=bo BP
def avI:PC:=.block 0 [4,10,11] [] (.loop [4,10] [] (b 0))
def H8 (b:Nat->PC):PT:=
 (.ite (ah dg r9)
 (.chk (ao r8 dg)
 (.chk Dv
 (.chk (.nt (.an (.an (.nt (ah V5 (pi 1))) pT) (.nt Dv)))
 (.ite (.pick (ah V5 (pi 1)) pT (aR V5 (pi 31)))
 (.ret pF)
 (.next ⟨[(10,(aA dg (pi 1)))],[]⟩)))))
 (.exit 0 ⟨[(11,(ah dg r9))],[]⟩))
def ZC:PT:=
 (.brk ⟨[(10,(pi 0)),(9,(.llen (pc (.mk [r1]) 4))),(8,(pc (.mk [r1]) 4)),(4,pF)],[(3,(.mk [r1])),(2,(.mk [r0]))]⟩
(avI b)
 (.call ⟨[(33,(.pick (aR (.llen (pc o3 4)) (pi 60)) pT (aR (.llen (pc o3 5)) (pi 200))))],[]⟩ [(33,false)] 39 101 [(pc o3 1),(.llen (pc o2 4))]
 (.call ⟨[(42,(.pick tS pT (.nt rS)))],[]⟩ [(42,false)] 48 101 [(pc o3 2),(.llen (pc o2 0))]
 (.ite (.pick Wk pT (.nt fj))
 (.ret pF)
 (.call ⟨[],[]⟩ [] 53 142 [(pc o3 3),(pi 0),(pi 6)]
 (.call ⟨[(54,DJ)],[]⟩ [(54,true)] 57 142 [(pc o3 4),(pi 101),(pi 1231)]
 (.call ⟨[(59,(.pick pf tV pF))],[]⟩ [(59,true)] 62 142 [(pc o3 5),(pi 0),(pi 100000)]
 (.ret (.pick r59 ph pF)))))))))
def ap5:PT×List (Shp×PT):=(ZC b,[(.lp 0 [4,10,11] [] [4,10] [],H8 b)])
def U9:BP.map told=some (ap5 (bk BP)):=by kernel_rfl
def aCW:tree (ab BP)=ZC Qv:=bH U9
def WW:round 0 [4,10,11] [] [4,10] [] (Qv 0)=H8 Qv:=bm U9 0 λ_=>rfl
def KE:Option PC:=cF [4] [] Tryz.f101 101 []
def ZE:PT:=
 (.ret V4)
def ahT:KE.map told=some (ZE,[]):=by kernel_rfl
def aCY:tree (ab KE)=ZE:=aT ahT
def BV:Option PC:=cF [6,7,8] [] Tryz.f142 142 []
def Qy:Nat->PC:=bo BV
def avS:PC:=.block 0 [6,11,12] [] (.loop [6,11] [] (b 0))
def xk (b:Nat->PC):PT:=
 (.ite (ah bL dg)
 (.chk (ao r9 bL)
 (.chk (.nt (.an (.an (aR bL (pi 0)) (.an (.nt (.pick (ah (pn r9 bL) r1) pT (aR (pn r9 bL) r2))) pT)) (.nt (ao r0 (bf bL (pi 1))))))
 (.ite (.pick (.pick (ah (pn r9 bL) r1) pT (aR (pn r9 bL) r2)) pT (.pick (aR bL (pi 0)) (bz (pn r9 bL) (pn r0 (bf bL (pi 1)))) pF))
 (.ret pF)
 (.next ⟨[(11,(aA bL (pi 1)))],[]⟩))))
 (.exit 0 ⟨[(12,(ah bL dg))],[]⟩))
def ZK:PT:=
 (.brk ⟨[(11,(pi 0)),(10,(.llen r0)),(9,r0),(6,pF)],[]⟩
(avS b)
 (.ret pT))
def aqb:PT×List (Shp×PT):=(ZK b,[(.lp 0 [6,11,12] [] [6,11] [],xk b)])
def Vc:BV.map told=some (aqb (bk BV)):=by kernel_rfl
def aC4:tree (ab BV)=ZK Qy:=bH Vc
def DS:round 0 [6,11,12] [] [6,11] [] (Qy 0)=xk Qy:=bm Vc 0 λ_=>rfl
def KB:Option PC:=cF [3] [] Tryz.f102 102 []
def Zz:PT:=
 (.chk (ao (pc (.deref r1) 3) r0)
 (.call ⟨[],[]⟩ [] 13 101 [(pc (pn (pc (.deref r1) 3) r0) 1),(.llen (pc (.deref r1) 1))]
 (.chk (.nt (.an (.an dh pT) (.nt (ao (pc (.deref r1) 3) r0))))
 (.call ⟨[(14,dh)],[]⟩ [(14,true)] 24 101 [(pc (pn (pc (.deref r1) 3) r0) 2),(.llen (pc (.deref r1) 2))]
 (.ret (.pick bU lg pF))))))
def ahQ:KB.map told=some (Zz,[]):=by kernel_rfl
def aCS:tree (ab KB)=Zz:=aT ahQ
def KC:Option PC:=cF [3] [] Tryz.f103 103 []
def ZA:PT:=
 (.chk (ao (pc (.deref r1) 4) r0)
 (.call ⟨[],[]⟩ [] 9 104 [(pn (pc (.deref r1) 4) r0)]
 (.ret r9)))
def ahR:KC.map told=some (ZA,[]):=by kernel_rfl
def aCT:tree (ab KC)=ZA:=aT ahR
def BT:Option PC:=cF [2] [] Tryz.f104 104 [1,3,4,6,19,8,16392,36]
def EM:Nat->PC:=bo BT
def avO:PC:=.block 0 [2,3,12,13] [3] (.loop [2,3,12] [3] (b 0))
def avP:PC:=.block 2 [4,29,30] [4] (.loop [4,29] [4] (b 1))
def Ib (b:Nat->PC):PT:=
 (.ite tJ
 (.blockS ⟨[],[]⟩ 1 [2,3,6,14,15,17,18,19,20,21,22,23,24] [6,19,3]
 (.chk (ao dg bY)
 (.chk (bz (.llen (.app o3 (.lst [(pc (.setc NO 0 tM) 0)]))) cj)
 (.call ⟨[(3,pN)],[(3,(.app o3 (.lst [(pc (.setc NO 0 tM) 0)])))]⟩ [] 23 101 [(pc (.setc NO 0 tM) 1),(pi 5)]
 (.ite (.nt gI)
 (.ret pF)
 (.next ⟨[],[]⟩)))))
 (.next ⟨[(12,Ak)],[]⟩))
 (.exit 0 ⟨[(13,tJ)],[]⟩))
def Ot (b:Nat->PC):PT:=
 (.ite (ah nu il)
 (.chk (ao dx nu)
 (.chk (bz (.llen ajh) cj)
 (.next ⟨[(4,pN),(29,(aA nu (pi 1)))],[(4,ajh)]⟩)))
 (.exit 2 ⟨[(30,(ah nu il))],[]⟩))
def ZI:PT:=
 (.brk ⟨[(12,(pi 0)),(11,rR),(10,Hh),(4,pN),(3,pN),(2,pF)],[(4,pL),(3,pL),(1,(.mk [r0]))]⟩
(avO b)
 (.brk ⟨[(29,(pi 0)),(28,oW),(27,(pc o1 3))],[]⟩
(avP b)
 (.call ⟨[],[]⟩ [] 40 142 [o3,(pi 0),(pi 21)]
 (.call ⟨[(41,rT)],[]⟩ [(41,true)] 43 142 [o4,(pi 0),(pi 21)]
 (.ret (.pick tT tU pF))))))
def ap9:PT×List (Shp×PT):=(ZI b,[(.lp 0 [2,3,12,13] [3] [2,3,12] [3],Ib b),(.lp 2 [4,29,30] [4] [4,29] [4],Ot b)])
def M9:BT.map told=some (ap9 (bk BT)):=by kernel_rfl
def aC2:tree (ab BT)=ZI EM:=bH M9
def WZ:round 0 [2,3,12,13] [3] [2,3,12] [3] (EM 0)=Ib EM:=bm M9 0 λ_=>rfl
def ajI:round 2 [4,29,30] [4] [4,29] [4] (EM 1)=Ot EM:=bm M9 1 λ_=>rfl
end Rm
