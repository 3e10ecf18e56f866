/-
  The functions of this seat, compiled (1).
-/
import Derived.Test.YtefchokhgdmamaaGreatDoorMAJ
import Derived.KernelRfl
set_option linter.defProp false
set_option linter.unusedVariables false
set_option maxRecDepth 100000
noncomputable section
namespace Rm
open Go Go.Proofs Cx
def IB:Option PC:=cF [16,17,18,19,20,21,22,23] [] Tryz.f3 3 [8,12]
def Vg:PT:=
 (.call ⟨[],[(12,(.mk [r4])),(8,(.mk [r0]))]⟩ [] 24 8 []
 (.call ⟨[(17,mu)],[]⟩ [] 27 9 [(ax 8 o8),(ax 24 q8)]
 (.ite (.nt gj)
 (.ret gi)
 (.call ⟨[],[]⟩ [] 36 10 [(ax 8 o8),r1,r2,r3,(ax 24 q8)]
 (.call ⟨[(20,(.tget m4 2)),(19,(.tget m4 1)),(18,(.tget m4 0))],[]⟩ [] 46 11 [(ax 8 o8),r1,r2,r3,(ax 24 q8)]
 (.call ⟨[(53,(.cb .neq gS (.tget CH 2))),(22,(.tget CH 1))],[]⟩ [(53,false)] 56 12 [jU,(.tget CH 0)]
 (.call ⟨[(59,(.pick TD pT (.nt nN)))],[]⟩ [(59,false)] 62 12 [gR,p7]
 (.call ⟨[(65,(.pick r59 pT (.nt lJ)))],[]⟩ [(65,false)] 71 13 [(ax 8 o8),r1,r2,r3,(ax 24 q8)]
 (.call ⟨[],[]⟩ [(65,false)] 77 14 [(ax 8 o8),r1,r2,r3,(ax 24 q8)]
 (.ite (.pick uZ pT (aW r71 Mq))
 (.ret pF)
 (.call ⟨[(81,gi)],[]⟩ [(81,true)] 87 16 [(ax 19 q8),r5,r6,r7]
 (.call ⟨[],[]⟩ [(81,true)] 93 17 [(ax 19 q8),r5,r6,r7]
 (.call ⟨[],[]⟩ [(81,true)] 94 15 [TF,Ms]
 (.ret (.pick w5 r94 pF)))))))))))))))
def acW:IB.map told=some (Vg,[]):=by kernel_rfl
def ava:tree (ae IB)=Vg:=aU acW
def ID:Option PC:=cF [0,1,2,3] [] Tryz.f8 8 [5,6]
def Vj:PT:=
 (.call ⟨[],[]⟩ [] 9 22 [pL,(pi 2),(.lst [(pi 0)]),(.lst [(pi 1)])]
 (.call ⟨[(1,r9)],[]⟩ [] 14 22 [(.lst [(.mk [(pi 0),(pi 0),(pi 1)])]),(pi 0),(.lst [(pi 0),(pi 2)]),(.lst [(pi 0),(pi 1)])]
 (.call ⟨[(2,cG)],[]⟩ [] 20 22 [(.lst [(.mk [(pi 0),(pi 0),(pi 0)]),(.mk [(pi 2),(pi 0),(pi 1)])]),(pi 1),(.lst [(pi 0)]),(.lst [(pi 1)])]
 (.call ⟨[(3,gS)],[]⟩ [] 24 23 [(.lst [(.mk [(pi 1),(pi 0),(pi 1)])])]
 (.call ⟨[],[]⟩ [] 29 16 [(ax 19 (.setc zf 0 (.tget mu 1))),(pi 0),(pi 0),(pi 7)]
 (.chk (.nt (.an (.an aeA pT) (.nt (ak F5 (pi 0)))))
 (.ret (.pick aeA (.an (af (pc (pn F5 (pi 0)) 0) (pi 0)) (.an (af (pc (pn F5 (pi 0)) 1) (pi 0)) (.an (af (pc (pn F5 (pi 0)) 2) (pi 1)) pT))) pF))))))))
def acZ:ID.map told=some (Vj,[]):=by kernel_rfl
def avd:tree (ae ID)=Vj:=aU acZ
def IE:Option PC:=cF [8,11,12,13] [] Tryz.f22 22 [9,10]
def Vk:PT:=
 (.call ⟨[],[]⟩ [] 16 23 [r0]
 (.call ⟨[],[(10,(.setc zf 0 (.tget dt 1))),(9,(.setc Tj 0 (.tget dt 0)))]⟩ [] 22 10 [(ax 8 (.setc Tj 0 (.tget dt 0))),(pi 0),(pi 1),(pi 2),(ax 24 (.setc zf 0 (.tget dt 1)))]
 (.call ⟨[(27,(.tget p7 2)),(12,(.tget p7 1)),(11,(.tget p7 0))],[]⟩ [(27,true)] 30 13 [(ax 8 o9),(pi 0),(pi 1),(pi 2),(ax 24 cX)]
 (.call ⟨[(34,(.pick gj (af zm r1) pF))],[]⟩ [(34,true)] 37 12 [bQ,r2]
 (.call ⟨[(39,(.pick Mn rq pF))],[]⟩ [(39,true)] 42 12 [cP,r3]
 (.ret (.pick Mo r42 pF)))))))
def ac0:IE.map told=some (Vk,[]):=by kernel_rfl
def ave:tree (ae IE)=Vk:=aU ac0
def IC:Option PC:=cF [] [] Tryz.f23 23 [2,3,4,12292,5,6,20486,24582,28678,32774,7,69639,73735]
def Vh:PT:=
 (.ret (.tup [(ax 8 (.setc Tj 0 (.mk [(pc Mg 0),(pc Mg 1),(pc Mg 2),(pc Mg 3),(.lst [(.mk [(.con (.v (.string ⟨#[103,101,110,101,118,97]⟩))),pF,pL,(.lst [(.mk [(pi 2),(.mk [(pc (.setc kz 0 (.mk [(pi 2),(pi 15),pL])) 0),(pc (.setc kz 0 (.mk [(pi 2),(pi 15),pL])) 1),pL])])])]),(.mk [(.con (.v (.string ⟨#[108,111,110,100,111,110]⟩))),pF,pL,(.lst [(.mk [(pi 2),(.mk [(pc Tg 0),(pc Tg 1),(pc Tg 2)])])])])]),pL,pL,pL]))),(ax 24 (.setc zf 0 (.mk [(.mk [(pc lG 0),(pc lG 1),(pc lG 2),(pc lG 3),(pc lG 4),(pc lG 5),(pc lG 6),(pc lG 7),(pc lG 8),(pc lG 9),(pc lG 10),(pc lG 11),(pc lG 12),(pc lG 13),(pc lG 14),(pc lG 15),pL,pL,(pc lG 18)]),(pi 0),(pi (-1)),(pi (-1)),(pi (-1)),(pi 20)])))]))
def acX:IC.map told=some (Vh,[]):=by kernel_rfl
def avb:tree (ae IC)=Vh:=aU acX
def z8:Option PC:=cF [10,12,13,14,15,17,18,19,20] [] Tryz.f10 10 [5,9,11,96]
def po:Nat->PC:=bI z8
variable(b:Nat->PC)
def ab1:PC:=.block 6 [11,85,86] [11] (.loop [11,85] [11] (b 0))
def ab2:PC:=.block 4 [10,11,12,64,65] [11] (.loop [10,11,12,64] [11] (b 1))
def ab3:PC:=.block 2 [10,11,12,58,59] [11] (.loop [10,11,12,58] [11] (b 2))
def apA:PC:=.block 0 [10,11,12,15,51,52] [11] (.loop [10,11,12,15] [11] (b 3))
def Mv (b:Nat->PC):PT:=
 (.ite (aj CK Mr)
 (.chk (cB (bx (bx fj (pi 1)) CK) (pi 0))
 (.chk (bD (.llen aeP) cI)
 (.next ⟨[(11,pN),(85,(bH CK (pi 1)))],[(11,aeP)]⟩)))
 (.exit 6 ⟨[(86,(aj CK Mr))],[]⟩))
def Gj:PT:=
 (.ite (aj jx zp)
 (.blockS ⟨[(65,(aj jx zp))],[]⟩ 5 [10,11,12,18,19,66,67,68,69,70,71,72,73,74,75,76,77,78,82] [11]
 (.call ⟨[(70,r3),(69,r2),(68,r1),(67,(ax 8 o5)),(18,jx)],[]⟩ [] 74 28 [(ax 24 o9),gi,jx]
 (.call ⟨[],[]⟩ [] 75 13 [sR,Ge,u3,Gf,Mp]
 (.ite (.pick (af Gg (pi 2)) pT (af Gg cG))
 (.exit 5 ⟨[],[]⟩)
 (.brk ⟨[(85,(pi 0)),(84,(.llen gi))],[]⟩
(ab1 b)
 (.ret (.tup [gi,iT,pT]))))))
 (.next ⟨[(64,(bH jx (pi 1)))],[]⟩))
 (.exit 4 ⟨[(65,(aj jx zp))],[]⟩))
def Gk:PT:=
 (.ite (aj wY zo)
 (.blockS ⟨[(59,(aj wY zo))],[]⟩ 3 [10,11,12,17,60,61,62,63,64,65] [11]
 (.chk (ak nN wY)
 (.chk (cB fj (pi 0))
 (.brk ⟨[(64,(pi 0)),(63,(.ai .shl .i64 (pi 1) fj)),(17,(pn nN wY))],[]⟩
(ab2 b)
 (.next ⟨[],[]⟩))))
 (.next ⟨[(58,(bH wY (pi 1)))],[]⟩))
 (.exit 2 ⟨[(59,(aj wY zo))],[]⟩))
def Gl:PT:=
 (.ite (bD fj (pi 5))
 (.blockS ⟨[(52,(bD fj (pi 5))),(51,fj)],[]⟩ 1 [10,11,12,55,56,57,58,59] [11]
 (.call ⟨[],[]⟩ [] 56 27 [fj,(pi 0)]
 (.brk ⟨[(58,(pi 0)),(57,(.llen nN))],[]⟩
(ab3 b)
 (.next ⟨[],[]⟩)))
 (.next ⟨[(15,(bH fj (pi 1)))],[]⟩))
 (.exit 0 ⟨[(51,fj),(52,(bD fj (pi 5)))],[]⟩))
def Nt:PT:=
 (.ite aeE
 (.ret (.tup [pL,pL,pF]))
 (.call ⟨[(10,pL),(11,pN),(12,pF)],[(11,pL),(9,(.mk [r4])),(5,(.mk [r0]))]⟩ [] 50 13 [ky,r1,r2,r3,(ax 24 (.mk [r4]))]
 (.brk ⟨[(15,(pi 1)),(14,kW)],[]⟩
(apA b)
 (.ret (.tup [pL,pL,pF])))))
def akR:PT×List (Shp×PT):=(Nt b,[(.lp 6 [11,85,86] [11] [11,85] [11],Mv b),(.lp 4 [10,11,12,64,65] [11] [10,11,12,64] [11],Gj b),(.lp 2 [10,11,12,58,59] [11] [10,11,12,58] [11],Gk b),(.lp 0 [10,11,12,15,51,52] [11] [10,11,12,15] [11],Gl b)])
def B7:z8.map told=some (akR (bz z8)):=by kernel_rfl
def au0:tree (ae z8)=Nt po:=cl B7
def afi:round 6 [11,85,86] [11] [11,85] [11] (po 0)=Mv po:=bl B7 0 λ_=>rfl
def TL:round 4 [10,11,12,64,65] [11] [10,11,12,64] [11] (po 1)=Gj po:=bl B7 1 λ_=>rfl
def TM:round 2 [10,11,12,58,59] [11] [10,11,12,58] [11] (po 2)=Gk po:=bl B7 2 λ_=>rfl
def TN:round 0 [10,11,12,15,51,52] [11] [10,11,12,15] [11] (po 3)=Gl po:=bl B7 3 λ_=>rfl
def It:Option PC:=cF [10,13,14,31,48] [] Tryz.f13 13 [5,9,11,12]
def U5:PT:=
 (.call ⟨[],[(9,(.mk [r4])),(5,(.mk [r0]))]⟩ [] 19 30 [ky,r1,r3,(ax 24 (.mk [r4]))]
 (.call ⟨[],[]⟩ [] 24 30 [(ax 8 o5),r2,r3,(ax 24 o9)]
 (.ite (.pick (.pick Td (.nt (pc (.setc jT 0 gR) 0)) pF) pT (.pick (af (pc (.setc jT 0 mu) 4) (pi 0)) (.nt (pc (.setc jT 0 mu) 0)) pF))
 (.ret (pi 2))
 (.ite (.pick (.cb .neq Td (af (pc (.setc jT 0 mu) 4) (pi 0))) pT (.pick Td (aW (pc (.setc jT 0 gR) 1) (pc (.setc jT 0 mu) 1)) pF))
 (.ret (pi 1))
 (.ret (pi 0))))))
def acO:It.map told=some (U5,[]):=by kernel_rfl
def auX:tree (ae It)=U5:=aU acO
def Il:Option PC:=cF [10] [] Tryz.f30 30 [4,7,8,9]
def U0:PT:=
 (.call ⟨[],[(8,jT),(4,(.mk [r0]))]⟩ [] 16 63 [ky,r1,r2,(ax 24 (.mk [r3]))]
 (.iteS ⟨[(10,(.tget dt 1))],[(9,(.setc jT 0 (.tget dt 0)))]⟩ (aW (pc (.setc jT 0 (.tget dt 0)) 2) (pi (-1))) [] [9]
 (.chk (ak (pc o4 4) (pc o9 2))
 (.call ⟨[],[]⟩ [] 31 64 [(pn (pc o4 4) (pc o9 2)),r2,cC]
 (.next ⟨[],[(9,(.setc (.setc o9 0 (.tget sP 0)) 4 (.tget sP 1)))]⟩)))
 (.next ⟨[],[]⟩)
 (.ret (ax 5 (.setc o8 0 (ax 5 o9))))))
def acI:Il.map told=some (U0,[]):=by kernel_rfl
def auR:tree (ae Il)=U0:=aU acI
def Io:Option PC:=cF [9,11,12,13,14] [] Tryz.f63 63 [4,7,8,10,16394]
def U1:PT:=
 (.call ⟨[],[(16394,pL),(10,(.setc jT 0 (.mk [dk,(pi (-1)),pL,(pi 1)]))),(8,jT),(7,(.mk [r3])),(4,(.mk [r0]))]⟩ [] 19 81 [ky,(ax 24 (.mk [r3]))]
 (.ite (af (.llen (.tget gR 1)) (pi 0))
 (.ret (.tup [To,pL]))
 (.call ⟨[(11,(.tget gR 1))],[(7,(.setc o7 0 (.tget gR 0)))]⟩ [] 28 82 [r2]
 (.ite (.nt (.tget zl 1))
 (.ret (.tup [To,pL]))
 (.call ⟨[],[]⟩ [] 37 83 [(ax 8 o4),r1,(ax 24 o7)]
 (.ite (af (.llen rq) (pi 0))
 (.ret (.tup [To,pL]))
 (.call ⟨[],[]⟩ [] 46 84 [(ax 8 o4),r1,r2,rq]
 (.ite (af (pc ze 4) (pi 0))
 (.chk (ak (pc ze 3) (bx (.llen (pc ze 3)) (pi 1)))
 (.ret (.tup [(ax 5 (.setc o8 0 (ax 5 (.setc ze 2 (pn (pc ze 3) (bx (.llen (pc ze 3)) (pi 1))))))),bQ])))
 (.ret (.tup [(ax 5 (.setc o8 0 (ax 5 ze))),bQ]))))))))))
def acJ:Io.map told=some (U1,[]):=by kernel_rfl
def auS:tree (ae Io)=U1:=aU acJ
def Ip:Option PC:=cF [5] [] Tryz.f81 81 [2,3,4]
def U2:PT:=
 (.call ⟨[],[(4,zf),(3,(.mk [r1])),(2,(.mk [r0]))]⟩ [] 10 103 [(ax 19 (.mk [r1])),(pc (.mk [r1]) 23)]
 (.call ⟨[(12,(ax 24 (.setc o3 0 cC)))],[]⟩ [] 15 104 [(ax 8 o2),(ax 24 (.setc o3 0 cC))]
 (.ret (.tup [(ax 24 (.setc o4 0 cP)),fj]))))
def acK:Ip.map told=some (U2,[]):=by kernel_rfl
def auT:tree (ae Ip)=U2:=aU acK
def AM:Option PC:=cF [1000004,1000005] [] Tryz.f103 103 [2,4,65540,69636,73732,77828,5,65541,69637,73733,77829,7,31,9,49,11,13]
def tO:Nat->PC:=bI AM
def aqt:PC:=.block 0 [20,21] [65541,5] (.loop [20] [65541,5] (b 0))
def aqu:PC:=.block 2 [38,39] [73733,5] (.loop [38] [73733,5] (b 1))
def aqv:PC:=.block 4 [56,57] [5,69637] (.loop [56] [5,69637] (b 2))
def aqw:PC:=.block 6 [76,77] [5,77829] (.loop [76] [5,77829] (b 3))
def GQ (b:Nat->PC):PT:=
 (.ite (aj gS gR)
 (.chk (ak jU gS)
 (.ite (bP (pc (.setc z9 0 (pn jU gS)) 6) r1)
 (.exit 0 ⟨[(21,(aj gS gR))],[]⟩)
 (.chk (bD (.llen (.app (.o 65541) (.lst [(ax 9 (.setc z9 0 (pn jU gS)))]))) cI)
 (.next ⟨[(20,(bH gS (pi 1)))],[(65541,(.app (.o 65541) (.lst [(ax 9 (.setc z9 0 (pn jU gS)))]))),(5,(.setc o5 15 pN))]⟩))))
 (.exit 0 ⟨[(21,(aj gS gR))],[]⟩))
def GR (b:Nat->PC):PT:=
 (.ite (aj lI rq)
 (.chk (ak m4 lI)
 (.ite (bP (pc (.setc z9 0 (pn m4 lI)) 6) r1)
 (.exit 2 ⟨[(39,(aj lI rq))],[]⟩)
 (.chk (bD (.llen (.app (.o 73733) (.lst [(ax 9 (.setc z9 0 (pn m4 lI)))]))) cI)
 (.next ⟨[(38,(bH lI (pi 1)))],[(73733,(.app (.o 73733) (.lst [(ax 9 (.setc z9 0 (pn m4 lI)))]))),(5,(.setc o5 17 pN))]⟩))))
 (.exit 2 ⟨[(39,(aj lI rq))],[]⟩))
def GS (b:Nat->PC):PT:=
 (.ite (aj nN CI)
 (.chk (ak uX nN)
 (.ite (bD (pc (.setc z2 0 (pn uX nN)) 0) (.llen (.o 65541)))
 (.chk (bD (.llen aeN) cI)
 (.next ⟨[(56,(bH nN (pi 1)))],[(5,(.setc o5 16 pN)),(69637,aeN)]⟩))
 (.next ⟨[(56,(bH nN (pi 1)))],[]⟩)))
 (.exit 4 ⟨[(57,(aj nN CI))],[]⟩))
def GU (b:Nat->PC):PT:=
 (.ite (aj wZ Gg)
 (.blockS ⟨[],[]⟩ 7 [13,78,79,80,81,82,83,84,85] [13,77829,5]
 (.chk (ak Mp wZ)
 (.call ⟨[],[(13,(.setc z3 0 (pn Mp wZ)))]⟩ [] 85 123 [(pc (.setc z3 0 (pn Mp wZ)) 1),(.llen (.o 65541))]
 (.ite CK
 (.chk (bD (.llen aeC) cI)
 (.next ⟨[],[(77829,aeC),(5,(.setc o5 18 pN))]⟩))
 (.next ⟨[],[]⟩))))
 (.next ⟨[(76,(bH wZ (pi 1)))],[]⟩))
 (.exit 6 ⟨[(77,(aj wZ Gg))],[]⟩))
def Wt:PT:=
 (.brk ⟨[(20,(pi 0)),(19,(.llen sI)),(18,sI)],[(77829,pL),(73733,pL),(69637,pL),(65541,pL),(5,(.setc wN 0 (.mk [mm,pL,pL,pL,pL]))),(4,wN),(2,(.mk [r0]))]⟩
(aqt b)
 (.brk ⟨[(38,(pi 0)),(37,sJ),(36,(pc o2 17))],[]⟩
(aqu b)
 (.brk ⟨[(56,(pi 0)),(55,zj),(54,(pc o2 16))],[]⟩
(aqv b)
 (.brk ⟨[(76,(pi 0)),(75,zi),(74,(pc o2 18))],[]⟩
(aqw b)
 (.ret (.mk [(pc m0 0),(pc m0 1),(pc m0 2),(pc m0 3),(pc m0 4),(pc m0 5),(pc m0 6),(pc m0 7),(pc m0 8),(pc m0 9),(pc m0 10),(pc m0 11),(pc m0 12),(pc m0 13),(pc m0 14),(.o 65541),(.o 69637),(.o 73733),(.o 77829)]))))))
def aly:PT×List (Shp×PT):=(Wt b,[(.lp 0 [20,21] [65541,5] [20] [65541,5],GQ b),(.lp 2 [38,39] [73733,5] [38] [73733,5],GR b),(.lp 4 [56,57] [5,69637] [56] [5,69637],GS b),(.lp 6 [76,77] [5,77829] [76] [5,77829],GU b)])
def Ca:AM.map told=some (aly (bz AM)):=by kernel_rfl
def awB:tree (ae AM)=Wt tO:=cl Ca
def Uk:round 0 [20,21] [65541,5] [20] [65541,5] (tO 0)=GQ tO:=bl Ca 0 λ_=>rfl
def Ul:round 2 [38,39] [73733,5] [38] [73733,5] (tO 1)=GR tO:=bl Ca 1 λ_=>rfl
def Um:round 4 [56,57] [5,69637] [56] [5,69637] (tO 2)=GS tO:=bl Ca 2 λ_=>rfl
def Un:round 6 [76,77] [5,77829] [76] [5,77829] (tO 3)=GU tO:=bl Ca 3 λ_=>rfl
def Jv:Option PC:=cF [4] [] Tryz.f123 123 []
def Wx:PT:=
 (.ret Te)
def adR:Jv.map told=some (Wx,[]):=by kernel_rfl
def awG:tree (ae Jv)=Wx:=aU adR
def AO:Option PC:=cF [4,7,9,11,12,13,14,15,16] [] Tryz.f104 104 [2,3,5,6,8,10,90,139]
def Dz:Nat->PC:=bI AO
def aqL:PC:=.meach 90 [94,95,11,12] [0,1,0,1] [10] (b 0)
def aqM:PC:=.meach 139 [143,144,15,16] [0,1,0,1] [10] (b 1)
def Up (b:Nat->PC):PT:=
 (.chk (ak cX bQ)
 (.next ⟨[],[(10,(.setn cX bQ 0 (.mk [pT,cP])))]⟩))
def Uq (b:Nat->PC):PT:=
 (.blockS ⟨[],[]⟩ 3 [145,146,147,148,149] [10]
 (.call ⟨[(146,fj)],[]⟩ [] 148 126 [dt]
 (.chk (ak cX (.r 146))
 (.next ⟨[],[(10,(.setn cX (.r 146) 0 (.r 148)))]⟩)))
 (.next ⟨[],[]⟩))
def xo:PT:=
 (.call ⟨[(7,(.mx (pc (.mk [r1]) 20) (pi 0)))],[(6,(.setc NK 0 kU)),(5,wP),(3,(.mk [r1])),(2,(.mk [r0]))]⟩ [] 30 123 [(pc (.mk [r1]) 19),(.llen (pc wP 15))]
 (.call ⟨[(48,F7),(44,(.pick (.pick (.nt zm) pT (aj (pc o3 20) (pi (-1)))) pT (cB r7 (.llen (pc o5 15)))))],[]⟩ [(48,true),(44,false)] 51 123 [(pc o3 22),(pi 100001)]
 (.ite (.pick Gc pT (.pick sQ (.nt ru) pF))
 (.ret pL)
 (.chk (ak (pc o5 15) (pc o3 19))
 (.call ⟨[],[(8,(.setc z9 0 (pn (pc o5 15) (pc o3 19))))]⟩ [] 63 123 [(pc (.setc z9 0 (pn (pc o5 15) (pc o3 19))) 6),(pi 100001)]
 (.ite (.nt zp)
 (.ret pL)
 (.chk (.an (cB (pi 20) (pi 0)) (bD (pi 20) cI))
 (.chk (af (pi 20) (pi 20))
 (.chk (aj (.mlen (.con (.map []))) cI)
 (.chk (aj (.mlen (.put (.con (.map [])) (pi 0) (pc o6 3))) cI)
 (.chk (aj (.mlen (.put (.put (.con (.map [])) (pi 0) (pc o6 3)) (pi 1) (pc o6 14))) cI)
 (.chk (aj (.mlen Th) cI)
 (.chk (aj (.mlen (.put Th (pi 3) (pc o6 12))) cI)
 (.chk (aj (.mlen Tq) cI)
 (.chk (aj (.mlen (.put Tq (pi 5) (pc o3 21))) cI)
 (.blockS ⟨[(10,pN),(9,(.pick F7 (bx (pc o8 6) (pc o3 22)) (pi 0)))],[(90,(.tup [(.lst []),(.put (.put Tq (pi 5) (pc o3 21)) (pi 6) (.pick F7 (bx (pc o8 6) (pc o3 22)) (pi 0)))])),(10,(.rep (pi 20) dk))]⟩ 0 [] [10]
 (.brk ⟨[],[]⟩
(aqL b)
 (.exit 0 ⟨[],[]⟩))
 (.call ⟨[],[(3,(ax 24 o3))]⟩ [] 104 124 [(pc o5 16),(.clo 125 [(.ref (ax 24 o3))])]
 (.call ⟨[(13,asI)],[]⟩ [] 108 106 [(ax 8 o2),(pc o6 9)]
 (.call ⟨[],[]⟩ [] 112 106 [(ax 8 o2),(pc o6 10)]
 (.chk (aj (.mlen (.con (.map []))) cI)
 (.chk (aj (.mlen Tp) cI)
 (.chk (aj (.mlen (.put Tp (pi 8) (af (pc o6 2) (pi (-1))))) cI)
 (.chk (aj (.mlen (.put (.put Tp (pi 8) (af (pc o6 2) (pi (-1)))) (pi 9) (aW (.ai .and .i64 (pc o6 13) (pi 4)) (pi 0)))) cI)
 (.chk (aj (.mlen L8) cI)
 (.chk (aj (.mlen (.put L8 (pi 11) (aW Gb Tu))) cI)
 (.chk (aj (.mlen (.put (.put L8 (pi 11) (aW Gb Tu)) (pi 12) dS)) cI)
 (.chk (aj (.mlen aeJ) cI)
 (.blockS ⟨[],[(139,(.tup [(.lst []),(.put aeJ (pi 14) (bP r9 (pi 0)))]))]⟩ 2 [] [10]
 (.brk ⟨[],[]⟩
(aqM b)
 (.exit 2 ⟨[],[]⟩))
 (.call ⟨[],[]⟩ [] 154 127 [(ax 19 o5),(pi 0),(pc o3 19)]
 (.chk (ak cX (pi 15))
 (.call ⟨[],[(10,(.setn cX (pi 15) 0 (.r 154)))]⟩ [] 160 127 [(ax 19 o5),(pi 1),(pc o3 19)]
 (.chk (ak cX (pi 16))
 (.call ⟨[],[(10,(.setn cX (pi 16) 0 (.r 160)))]⟩ [] 166 127 [(ax 19 o5),(pi 2),(pc o3 19)]
 (.chk (ak cX (pi 17))
 (.call ⟨[],[(10,(.setn cX (pi 17) 0 (.r 166)))]⟩ [] 171 127 [(ax 19 o5),(pi 3),r7]
 (.chk (ak cX (pi 18))
 (.call ⟨[],[(10,(.setn cX (pi 18) 0 (.r 171)))]⟩ [] 176 127 [(ax 19 o5),(pi 4),r7]
 (.chk (ak cX (pi 19))
 (.ret (.setn cX (pi 19) 0 (.r 176)))))))))))))))))))))))))))))))))))))))))
def alA:PT×List (Shp×PT):=(xo b,[(.ea [10],Up b),(.ea [10],Uq b)])
def LQ:AO.map told=some (alA (bz AO)):=by kernel_rfl
def awE:tree (ae AO)=xo Dz:=cl LQ
def atr:u6 [10] (Dz 0)=Up Dz:=agz LQ 0 λ_=>rfl
def ats:u6 [10] (Dz 1)=Uq Dz:=agz LQ 1 λ_=>rfl
def Jt:Option PC:=cF [3] [] Tryz.f125 125 [2]
def Wv:PT:=
 (.ret (bD mZ (pc (.deref r1) 19)))
def adP:Jt.map told=some (Wv,[]):=by kernel_rfl
def awD:tree (ae Jt)=Wv:=aU adP
def Jw:Option PC:=cF [4] [] Tryz.f124 124 []
def Wz:PT:=
 (.call ⟨[],[]⟩ [] 7 140 [r0,r1]
 (.ret (cB r7 (pi 0))))
def adS:Jw.map told=some (Wz,[]):=by kernel_rfl
def awI:tree (ae Jw)=Wz:=aU adS
def AQ:Option PC:=cF [4,5] [] Tryz.f140 140 []
def OV:Nat->PC:=bI AQ
def aqA:PC:=.block 0 [4,8,9] [] (.loop [4,8] [] (b 0))
def GW (b:Nat->PC):PT:=
 (.ite (aj r8 r7)
 (.blockS ⟨[],[]⟩ 1 [4,5,10,11,12,13,14,15,16] []
 (.chk (ak r0 r8)
 (.callc ⟨[(5,r8)],[]⟩ [] 16 r1 [(pn r0 r8)]
 (.ite dt
 (.ret r5)
 (.next ⟨[],[]⟩))))
 (.next ⟨[(8,rn)],[]⟩))
 (.exit 0 ⟨[(9,(aj r8 r7))],[]⟩))
def WD:PT:=
 (.brk ⟨[(8,(pi 0)),(7,(.llen r0)),(4,(pi 0))],[]⟩
(aqA b)
 (.ret (pi (-1))))
def alC:PT×List (Shp×PT):=(WD b,[(.lp 0 [4,8,9] [] [4,8] [],GW b)])
def SI:AQ.map told=some (alC (bz AQ)):=by kernel_rfl
def awM:tree (ae AQ)=WD OV:=cl SI
def Ur:round 0 [4,8,9] [] [4,8] [] (OV 0)=GW OV:=bl SI 0 λ_=>rfl
def Jq:Option PC:=cF [4] [] Tryz.f106 106 [2]
def Wh:PT:=
 (.call ⟨[],[(2,(.mk [r0]))]⟩ [] 9 55 [r1,(.llen mY)]
 (.ite (.nt r9)
 (.ret (pi (-1)))
 (.chk (ak (pc o2 1) r1)
 (.ret (pc (pn (pc o2 1) r1) 1)))))
def adM:Jq.map told=some (Wh,[]):=by kernel_rfl
def awp:tree (ae Jq)=Wh:=aU adM
def Jr:Option PC:=cF [4] [] Tryz.f55 55 []
def Wl:PT:=
 (.ret Te)
def adN:Jr.map told=some (Wl,[]):=by kernel_rfl
def awt:tree (ae Jr)=Wl:=aU adN
def Ju:Option PC:=cF [] [] Tryz.f126 126 [2]
def Ww:PT:=
 (.ite r0
 (.ret Tl)
 (.ret Tn))
def adQ:Ju.map told=some (Ww,[]):=by kernel_rfl
def awF:tree (ae Ju)=Ww:=aU adQ
def AN:Option PC:=cF [] [] Tryz.f127 127 [3,6,8]
def OU:Nat->PC:=bI AN
def aqx:PC:=.block 0 [12,13] [6] (.loop [12] [6] (b 0))
def GV (b:Nat->PC):PT:=
 (.ite (aj cP bQ)
 (.blockS ⟨[],[]⟩ 1 [8,14,15,16,17,18,19,20,25] [8,6]
 (.chk (ak cC cP)
 (.iteS ⟨[],[(8,(.setc z3 0 (pn cC cP)))]⟩ (.pick (af (pc (.setc z3 0 (pn cC cP)) 0) r1) (af (pc (.setc z3 0 (pn cC cP)) 1) r2) pF) [] [6]
 (.call ⟨[],[]⟩ [] 29 126 [(aW (pc o8 2) (pi 0))]
 (.ret (.mk [(pc (.setc o6 0 sO) 0),(pc (.setc o6 0 sO) 1)])))
 (.next ⟨[],[]⟩)
 (.next ⟨[],[]⟩)))
 (.next ⟨[(12,(bH cP (pi 1)))],[]⟩))
 (.exit 0 ⟨[(13,(aj cP bQ))],[]⟩))
def Wu:PT:=
 (.brk ⟨[(12,(pi 0)),(11,F8),(10,(pc (.mk [r0]) 18))],[(6,dk)]⟩
(aqx b)
 (.ret Me))
def alz:PT×List (Shp×PT):=(Wu b,[(.lp 0 [12,13] [6] [12] [6],GV b)])
def SH:AN.map told=some (alz (bz AN)):=by kernel_rfl
def awC:tree (ae AN)=Wu OU:=cl SH
def Uo:round 0 [12,13] [6] [12] [6] (OU 0)=GV OU:=bl SH 0 λ_=>rfl
def IG:Option PC:=cF [2,3,4,11] [] Tryz.f82 82 []
def Vm:PT:=
 (.blockS ⟨[],[]⟩ 0 [2,3,4,5,6,7,10,11,12,13,14] []
 (.iteS ⟨[],[]⟩ (.pick zd pT (cB r0 (pi 22))) [2,3,11,12,13,14] []
 (.ret (.tup [(pi 0),pF]))
 (.call ⟨[],[]⟩ [] 14 105 [(.lst [(pc sK 0),(pc sK 1),(pc sK 2),(pc sK 3),(pc sK 4),(pc sK 5),(pc sK 6),(pc sK 7),(pc sK 8),(pc sK 9)]),r0]
 (.ite cG
 (.ret (.tup [(pi 0),pT]))
 (.next ⟨[],[]⟩)))
 (.next ⟨[],[]⟩))
 (.ret (.tup [(pi 1),pT])))
def ac2:IG.map told=some (Vm,[]):=by kernel_rfl
def avg:tree (ae IG)=Vm:=aU ac2
def Jy:Option PC:=cF [4] [] Tryz.f105 105 []
def WB:PT:=
 (.call ⟨[],[]⟩ [] 7 128 [r0,r1]
 (.ret (cB r7 (pi 0))))
def adU:Jy.map told=some (WB,[]):=by kernel_rfl
def awK:tree (ae Jy)=WB:=aU adU
def AU:Option PC:=cF [4,5] [] Tryz.f128 128 []
def OZ:Nat->PC:=bI AU
def aqE:PC:=.block 0 [4,8,9] [] (.loop [4,8] [] (b 0))
def G0 (b:Nat->PC):PT:=
 (.ite (aj r8 r7)
 (.chk (ak r0 r8)
 (.ite (af r1 (pn r0 r8))
 (.ret r8)
 (.next ⟨[(8,rn)],[]⟩)))
 (.exit 0 ⟨[(9,(aj r8 r7))],[]⟩))
def WI:PT:=
 (.brk ⟨[(8,(pi 0)),(7,(.llen r0)),(4,(pi 0))],[]⟩
(aqE b)
 (.ret (pi (-1))))
def alG:PT×List (Shp×PT):=(WI b,[(.lp 0 [4,8,9] [] [4,8] [],G0 b)])
def SM:AU.map told=some (alG (bz AU)):=by kernel_rfl
def awQ:tree (ae AU)=WI OZ:=cl SM
def Uv:round 0 [4,8,9] [] [4,8] [] (OZ 0)=G0 OZ:=bl SM 0 λ_=>rfl
def Ac:Option PC:=cF [8,9,11,12,13,14,55,70] [] Tryz.f84 84 [4,10,53]
def Oq:Nat->PC:=bI Ac
def apF:PC:=.block 0 [] [] (.loop [8,9,10] [10] (b 0))
def TP (b:Nat->PC):PT:=
 (.blockS ⟨[],[]⟩ 1 [8,9,10,11,12,13,14,32,33,35,36,37,38,39,40,41,42,43,44,45,46,49,50,52,53,54,55,56,57,58,68,70,71] [53,10]
 (.chk (ak cX (bx (.llen cX) (pi 1)))
 (.call ⟨[(11,(pn cX (bx (.llen cX) (pi 1))))],[]⟩ [] 41 108 [(ax 8 o4),(pn cX (bx (.llen cX) (pi 1))),r2,r3]
 (.ite (af (.tget zn 0) bQ)
 (.ret (.tup [cX,(pi 0)]))
 (.call ⟨[(13,(.tget zn 1)),(12,(.tget zn 0))],[]⟩ [] 50 105 [cX,(.tget zn 0)]
 (.chk (bD (.llen (.app cX (.lst [cP]))) cI)
 (.chk (.nt (.an (.an kW (.an (.nt (.nt dS)) pT)) (.nt (ak (pc o4 4) cP))))
 (.ite (.pick (.nt dS) pT (.pick kW (pc (pn (pc o4 4) cP) 1) pF))
 (.ret (.tup [(.app cX (.lst [cP])),(pi 0)]))
 (.ite kW
 (.ret (.tup [(.app cX (.lst [cP])),(pi 12)]))
 (.next ⟨[(10,pN)],[(10,(.app cX (.lst [cP])))]⟩)))))))))
 (.next ⟨[],[]⟩))
def Vd:PT:=
 (.call ⟨[(9,(pi 0)),(8,pL)],[(4,(.mk [r0]))]⟩ [] 19 107 [ky,r1,r2,r3]
 (.chk (.nt (.an (.an (.nt (.nt gR)) pT) (.nt (ak r3 (pi 0)))))
 (.ite (.pick (.nt gR) pT (aW (pn r3 (pi 0)) r1))
 (.ret (.tup [pL,(pi 1)]))
 (.brk ⟨[(10,pN)],[(10,(.lst [r1]))]⟩
(apF b)
 (.next ⟨[],[]⟩)))))
def akV:PT×List (Shp×PT):=(Vd b,[(.lp 0 [] [] [8,9,10] [10],TP b)])
def Sc:Ac.map told=some (akV (bz Ac)):=by kernel_rfl
def au6:tree (ae Ac)=Vd Oq:=cl Sc
def ato:round 0 [] [] [8,9,10] [10] (Oq 0)=TP Oq:=bl Sc 0 λ_=>rfl
def Iz:Option PC:=cF [8] [] Tryz.f107 107 [4,9]
def xl:PT:=
 (.ite (.pick (.pick (.pick (.pick (aj r1 (pi 0)) pT (cB r1 aeB)) pT (aj r2 (pi 0))) pT (cB r2 (pi 22))) pT (aW (.llen r3) (pi 5)))
 (.ret pF)
 (.call ⟨[],[]⟩ [] 35 129 [r3,(.clo 130 [(.ref aeB)])]
 (.ret (.nt wV))))
def acU:Iz.map told=some (xl,[]):=by kernel_rfl
def au9:tree (ae Iz)=xl:=aU acU
def IA:Option PC:=cF [3] [] Tryz.f130 130 []
def Vf:PT:=
 (.ret (.pick zd pT (cB r0 (.deref r1))))
def acV:IA.map told=some (Vf,[]):=by kernel_rfl
def au8:tree (ae IA)=Vf:=aU acV
def Jx:Option PC:=cF [4] [] Tryz.f129 129 []
def WA:PT:=
 (.call ⟨[],[]⟩ [] 7 141 [r0,r1]
 (.ret (cB r7 (pi 0))))
def adT:Jx.map told=some (WA,[]):=by kernel_rfl
def awJ:tree (ae Jx)=WA:=aU adT
def AT:Option PC:=cF [4,5] [] Tryz.f141 141 []
def OY:Nat->PC:=bI AT
def aqD:PC:=.block 0 [4,8,9] [] (.loop [4,8] [] (b 0))
def GZ (b:Nat->PC):PT:=
 (.ite (aj r8 r7)
 (.blockS ⟨[],[]⟩ 1 [4,5,10,11,12,13,14,15,16] []
 (.chk (ak r0 r8)
 (.callc ⟨[(5,r8)],[]⟩ [] 16 r1 [(pn r0 r8)]
 (.ite dt
 (.ret r5)
 (.next ⟨[],[]⟩))))
 (.next ⟨[(8,rn)],[]⟩))
 (.exit 0 ⟨[(9,(aj r8 r7))],[]⟩))
def WH:PT:=
 (.brk ⟨[(8,(pi 0)),(7,(.llen r0)),(4,(pi 0))],[]⟩
(aqD b)
 (.ret (pi (-1))))
def alF:PT×List (Shp×PT):=(WH b,[(.lp 0 [4,8,9] [] [4,8] [],GZ b)])
def SL:AT.map told=some (alF (bz AT)):=by kernel_rfl
def awP:tree (ae AT)=WH OY:=cl SL
def Uu:round 0 [4,8,9] [] [4,8] [] (OY 0)=GZ OY:=bl SL 0 λ_=>rfl
def Ad:Option PC:=cF [8,9] [] Tryz.f108 108 [4,11]
def Ot:Nat->PC:=bI Ad
def apG:PC:=.block 0 [8,9,25,26] [] (.loop [8,9,25] [] (b 0))
def Gn (b:Nat->PC):PT:=
 (.ite (aj hH mu)
 (.chk (ak ju hH)
 (.ite (.pick (af (pc F6 0) r2) (aW (pc F6 1) (pi 0)) pF)
 (.chk (ak r3 (pc F6 1))
 (.ret (.tup [(pn r3 (pc F6 1)),(pc F6 2)])))
 (.next ⟨[(25,(bH hH (pi 1)))],[]⟩)))
 (.exit 0 ⟨[(26,(aj hH mu))],[]⟩))
def Ve:PT:=
 (.call ⟨[(9,pF),(8,(pi 0))],[(4,(.mk [r0]))]⟩ [] 16 107 [ky,r1,r2,r3]
 (.ite (.nt dt)
 (.ret (.tup [(pi (-1)),pF]))
 (.chk (ak (pc o4 4) r1)
 (.brk ⟨[(25,(pi 0)),(24,(.llen (pc (pn (pc o4 4) r1) 2))),(23,(pc (pn (pc o4 4) r1) 2))],[]⟩
(apG b)
 (.ret (.tup [r1,pF]))))))
def akW:PT×List (Shp×PT):=(Ve b,[(.lp 0 [8,9,25,26] [] [8,9,25] [],Gn b)])
def Sd:Ad.map told=some (akW (bz Ad)):=by kernel_rfl
def au7:tree (ae Ad)=Ve Ot:=cl Sd
def TQ:round 0 [8,9,25,26] [] [8,9,25] [] (Ot 0)=Gn Ot:=bl Sd 0 λ_=>rfl
def IF:Option PC:=cF [7,9,11,12] [] Tryz.f64 64 [3,6,8,10]
def Vl:PT:=
 (.call ⟨[],[(6,dk)]⟩ [] 16 85 [(ax 4 (.mk [r0])),r1]
 (.ite (aW (.tget dt 1) (pi 0))
 (.ret (.tup [Me,(.tget dt 1)]))
 (.call ⟨[],[]⟩ [] 25 86 [(.mk [(pc (.setc kz 0 (.tget dt 0)) 0),(pc (.setc kz 0 (.tget dt 0)) 1),(pc (.setc kz 0 (.tget dt 0)) 2)]),r2]
 (.call ⟨[],[(10,(.setc dk 0 hH))]⟩ [] 28 82 [r1]
 (.ret (.tup [(.mk [(pc (.setc o6 0 (.mk [(pc Mb 0),(pc Mb 1)])) 0),(pc (.setc o6 0 (.mk [(pc Mb 0),(pc Mb 1)])) 1)]),(pi 0)]))))))
def ac1:IF.map told=some (Vl,[]):=by kernel_rfl
def avf:tree (ae IF)=Vl:=aU ac1
def II:Option PC:=cF [5,6,7,8,10,11] [] Tryz.f85 85 [2,3,4,12292,9]
def Vn:PT:=
 (.call ⟨[],[(4,kz),(3,(.mk [r1])),(2,(.mk [r0]))]⟩ [] 14 82 [(pc (.mk [r1]) 0)]
 (.ite (.nt (.tget cG 1))
 (.ret (.tup [Tk,(pi 1)]))
 (.call ⟨[(6,(.tget cG 0))],[]⟩ [] 23 109 [(pc o2 3),(.clo 110 [(.ref (pc o3 0))])]
 (.ite (aj ju (pi 0))
 (.ret (.tup [Tk,(pi 4)]))
 (.chk (ak (pc o2 3) ju)
 (.call ⟨[],[(9,Mh)]⟩ [] 35 111 [(.mk [(pc Mh 0),(pc Mh 1),(pc Mh 2)])]
 (.ite (.pick (aW (.tget wV 1) (pi 0)) pT (aW (.tget wV 0) r6))
 (.ret (.tup [Tk,(pi 11)]))
 (.ret (.tup [(.mk [(pc (.setc o4 0 F2) 0),(pc (.setc o4 0 F2) 1),(pc (.setc o4 0 F2) 2)]),(pi 0)])))))))))
def ac3:II.map told=some (Vn,[]):=by kernel_rfl
def avi:tree (ae II)=Vn:=aU ac3
def IJ:Option PC:=cF [3] [] Tryz.f110 110 [2]
def Vo:PT:=
 (.ret (af mZ (.deref r1)))
def ac4:IJ.map told=some (Vo,[]):=by kernel_rfl
def avh:tree (ae IJ)=Vo:=aU ac4
def AS:Option PC:=cF [4,5] [] Tryz.f109 109 []
def OX:Nat->PC:=bI AS
def aqC:PC:=.block 0 [4,8,9] [] (.loop [4,8] [] (b 0))
def GY (b:Nat->PC):PT:=
 (.ite (aj r8 r7)
 (.blockS ⟨[],[]⟩ 1 [4,5,10,11,12,13,14,15,16] []
 (.chk (ak r0 r8)
 (.callc ⟨[(5,r8)],[]⟩ [] 16 r1 [(pn r0 r8)]
 (.ite dt
 (.ret r5)
 (.next ⟨[],[]⟩))))
 (.next ⟨[(8,rn)],[]⟩))
 (.exit 0 ⟨[(9,(aj r8 r7))],[]⟩))
def WG:PT:=
 (.brk ⟨[(8,(pi 0)),(7,(.llen r0)),(4,(pi 0))],[]⟩
(aqC b)
 (.ret (pi (-1))))
def alE:PT×List (Shp×PT):=(WG b,[(.lp 0 [4,8,9] [] [4,8] [],GY b)])
def SK:AS.map told=some (alE (bz AS)):=by kernel_rfl
def awO:tree (ae AS)=WG OX:=cl SK
def Ut:round 0 [4,8,9] [] [4,8] [] (OX 0)=GY OX:=bl SK 0 λ_=>rfl
def JA:Option PC:=cF [2,3] [] Tryz.f111 111 [1]
def WK:PT:=
 (.call ⟨[],[(1,(.mk [r0]))]⟩ [] 5 131 [F9,(pi 1)]
 (.ite (bP r5 (pi 60))
 (.ret (.tup [(pi 0),(pi 6)]))
 (.call ⟨[],[]⟩ [] 8 132 [Mj]
 (.ret (.tup [(.tget r8 0),(.tget r8 1)])))))
def adW:JA.map told=some (WK,[]):=by kernel_rfl
def awS:tree (ae JA)=WK:=aU adW
def xR:Option PC:=cF [4,5] [] Tryz.f131 131 [2,7,12295]
def O2:Nat->PC:=bI xR
def aqJ:PC:=.block 0 [5,13,14] [] (.loop [5,13] [] (b 0))
def G4 (b:Nat->PC):PT:=
 (.ite (aj dS cP)
 (.blockS ⟨[(14,(aj dS cP))],[]⟩ 1 [5,7,15,16,17,18,19,20,21,22,23,24] [7,12295]
 (.chk (ak bQ dS)
 (.call ⟨[(17,r5)],[]⟩ [] 21 131 [(.mk [(pc (.setc kz 0 (pn bQ dS)) 0),(pc (.setc kz 0 (pn bQ dS)) 1),(pc (.setc kz 0 (pn bQ dS)) 2)]),(bH r1 (pi 1))]
 (.ite (bP (bH gi kV) (pi 60))
 (.exit 0 ⟨[(5,(bH gi kV))],[]⟩)
 (.next ⟨[(5,(bH gi kV))],[]⟩))))
 (.next ⟨[(13,(bH dS (pi 1)))],[]⟩))
 (.exit 0 ⟨[(14,(aj dS cP))],[]⟩))
def NC:PT:=
 (.ite (bP r1 (pi 8))
 (.ret (pi 61))
 (.brk ⟨[(13,(pi 0)),(12,sM),(11,F3),(5,(pi 1))],[]⟩
(aqJ b)
 (.ret r5)))
def alK:PT×List (Shp×PT):=(NC b,[(.lp 0 [5,13,14] [] [5,13] [],G4 b)])
def SP:xR.map told=some (alK (bz xR)):=by kernel_rfl
def agD:tree (ae xR)=NC O2:=cl SP
def Uz:round 0 [5,13,14] [] [5,13] [] (O2 0)=G4 O2:=bl SP 0 λ_=>rfl
def AW:Option PC:=cF [2,3,5,7,8,38,47,10,11,12] [] Tryz.f132 132 [1,4,6,12294,9]
def DB:Nat->PC:=bI AW
def aqG:PC:=.block 0 [2,3,20,21] [4] (.loop [2,3,20] [4] (b 0))
def aqH:PC:=.block 3 [2,3,10,82,83] [] (.loop [2,3,10,82] [] (b 1))
def G2 (b:Nat->PC):PT:=
 (.ite (aj gS gR)
 (.blockS ⟨[],[]⟩ 1 [2,3,5,6,7,8,22,23,24,25,26,27,28,29,30,31,33,34,35,36] [6,12294,4]
 (.chk (ak jU gS)
 (.call ⟨[(5,gS)],[]⟩ [] 27 132 [(.mk [(pc (.setc kz 0 (pn jU gS)) 0),(pc (.setc kz 0 (pn jU gS)) 1),(pc (.setc kz 0 (pn jU gS)) 2)])]
 (.ite (aW (.tget gj 1) (pi 0))
 (.ret (.tup [(pi 0),(.tget gj 1)]))
 (.chk (ak o4 r5)
 (.next ⟨[],[(4,(.setn o4 r5 0 (.tget gj 0)))]⟩)))))
 (.next ⟨[(20,(bH gS (pi 1)))],[]⟩))
 (.exit 0 ⟨[(21,(aj gS gR))],[]⟩))
def w7 (b:Nat->PC):PT:=
 (.ite (aj mw w5)
 (.chk (ak sS mw)
 (.ite (.pick (af (pn sS mw) (pi (-1))) (af cC (pi (-1))) pF)
 (.chk (ak o4 mw)
 (.ite (aW (pn o4 mw) (.pick (af (pn sS mw) (pi (-1))) (pn o4 mw) (pn sS mw)))
 (.ret (.tup [(pi 0),(pi 11)]))
 (.next ⟨[(10,(pn o4 mw)),(82,(bH mw (pi 1)))],[]⟩)))
 (.chk (ak o4 mw)
 (.ite (aW (pn o4 mw) (.pick (af (pn sS mw) (pi (-1))) cC (pn sS mw)))
 (.ret (.tup [(pi 0),(pi 11)]))
 (.next ⟨[(82,(bH mw (pi 1)))],[]⟩)))))
 (.exit 3 ⟨[(83,(aj mw w5))],[]⟩))
def WO:PT:=
 (.chk (.an (cB sM (pi 0)) (bD sM cI))
 (.chk (af sM sM)
 (.brk ⟨[(20,(pi 0)),(19,sM),(18,F3),(4,pN),(3,(pi 0)),(2,(pi 0))],[(4,(.rep sM (pi 0))),(1,(.mk [r0]))]⟩
(aqG b)
 (.blockS ⟨[],[]⟩ 2 [2,3,38,39,40,41,42,46,47,48,49,50,51,55,56,60] []
 (.iteS ⟨[],[]⟩ (.pick (aj (pc o1 0) (pi 0)) pT (bP (pc o1 0) (pi 13))) [2,3,47,48,49,50,51,55,56,60] []
 (.ret (.tup [(pi 0),(pi 1)]))
 (.iteS ⟨[],[]⟩ (.pick (.pick (af (pc o1 0) (pi 0)) pT (af (pc o1 0) (pi 1))) pT (af (pc o1 0) (pi 2))) [2,3] []
 (.call ⟨[],[]⟩ [] 62 142 [Mj]
 (.ret (.tup [(.tget lJ 0),(.tget lJ 1)])))
 (.next ⟨[],[]⟩)
 (.next ⟨[],[]⟩))
 (.next ⟨[],[]⟩))
 (.call ⟨[],[]⟩ [] 67 143 [(pc o1 0)]
 (.ite (.pick (aW (.llen o4) (.llen (pc (.setc mX 0 sR) 0))) pT (aW (pc o1 1) (pi 0)))
 (.ret (.tup [(pi 0),(pi 2)]))
 (.brk ⟨[(82,(pi 0)),(81,(.llen (pc (.setc mX 0 sR) 0))),(80,(pc (.setc mX 0 sR) 0)),(10,(pi (-1)))],[(9,(.setc mX 0 sR))]⟩
(aqH b)
 (.ite (af (pc o9 1) (pi (-1)))
 (.ret (.tup [cC,(pi 0)]))
 (.ret (.tup [(pc o9 1),(pi 0)]))))))))))
def alI:PT×List (Shp×PT):=(WO b,[(.lp 0 [2,3,20,21] [4] [2,3,20] [4],G2 b),(.lp 3 [2,3,10,82,83] [] [2,3,10,82] [],w7 b)])
def LS:AW.map told=some (alI (bz AW)):=by kernel_rfl
def awW:tree (ae AW)=WO DB:=cl LS
def Ux:round 0 [2,3,20,21] [4] [2,3,20] [4] (DB 0)=G2 DB:=bl LS 0 λ_=>rfl
def CR:round 3 [2,3,10,82,83] [] [2,3,10,82] [] (DB 1)=w7 DB:=bl LS 1 λ_=>rfl
def JG:Option PC:=cF [2,3,12,20,4,5] [] Tryz.f142 142 [1]
def WS:PT:=
 (.ite (bP sM (pi 0))
 (.ret (.tup [(pi 0),(pi 2)]))
 (.blockS ⟨[(11,mZ)],[(1,(.mk [r0]))]⟩ 0 [2,3,12,13,20,21] []
 (.iteS ⟨[],[]⟩ (af bQ (pi 0)) [2,3,20,21] []
 (.call ⟨[],[]⟩ [] 16 146 [(pc o1 1)]
 (.ite (aW dt (pc o1 1))
 (.ret (.tup [(pi 0),(pi 3)]))
 (.ret (.tup [(pi 0),(pi 0)]))))
 (.ite (af bQ (pi 1))
 (.ite (.pick (aj (pc o1 1) (pi 0)) pT (bP (pc o1 1) (pi 1)))
 (.ret (.tup [(pi 0),(pi 3)]))
 (.ret (.tup [(pi 1),(pi 0)])))
 (.next ⟨[],[]⟩))
 (.next ⟨[],[]⟩))
 (.call ⟨[],[]⟩ [] 33 144 [(pc o1 1)]
 (.ite (.nt (.tget Mm 1))
 (.ret (.tup [(pi 0),(pi 10)]))
 (.ret (.tup [(.tget Mm 0),(pi 0)]))))))
def ad2:JG.map told=some (WS,[]):=by kernel_rfl
def awZ:tree (ae JG)=WS:=aU ad2
def JF:Option PC:=cF [2] [] Tryz.f146 146 []
def WR:PT:=
 (.ret (.mn (.mx r0 (pi (-1099511627776))) rj))
def ad1:JF.map told=some (WR,[]):=by kernel_rfl
def awY:tree (ae JF)=WR:=aU ad1
def JC:Option PC:=cF [2,3,4,11] [] Tryz.f144 144 []
def WM:PT:=
 (.ite (.pick zd pT (bP r0 (pi 19)))
 (.ret (.tup [(pi 0),pF]))
 (.ite (aj r0 (pi 7))
 (.ret (.tup [(pi 0),pT]))
 (.ret (.tup [(pi 1),pT]))))
def adY:JC.map told=some (WM,[]):=by kernel_rfl
def awU:tree (ae JC)=WM:=aU adY
def JJ:Option PC:=cF [4,8,13,17,21] [] Tryz.f143 143 [2]
def WV:PT:=
 (.ite (af r0 (pi 3))
 (.ret (.mk [(pc (.setc mX 0 (.mk [(.lst [(pi 1)]),(pi 1)])) 0),(pc (.setc mX 0 (.mk [(.lst [(pi 1)]),(pi 1)])) 1)]))
 (.ite (.pick (af r0 (pi 4)) (af r0 (pi 4)) (af r0 (pi 5)))
 (.ret (.mk [(pc (.setc mX 0 (.mk [(.lst [(pi 1),(pi 1)]),(pi 1)])) 0),(pc (.setc mX 0 (.mk [(.lst [(pi 1),(pi 1)]),(pi 1)])) 1)]))
 (.ite (af r0 (pi 6))
 (.ret (.mk [(pc aez 0),(pc aez 1)]))
 (.ite (af r0 (pi 7))
 (.ret (.mk [(pc (.setc mX 0 (.mk [(.lst [(pi 0),(pi 0)]),(pi 1)])) 0),(pc (.setc mX 0 (.mk [(.lst [(pi 0),(pi 0)]),(pi 1)])) 1)]))
 (.ite (af r0 (pi 8))
 (.ret (.mk [(pc (.setc mX 0 (.mk [(.lst [(pi (-1)),(pi (-1))]),(pi 1)])) 0),(pc (.setc mX 0 (.mk [(.lst [(pi (-1)),(pi (-1))]),(pi 1)])) 1)]))
 (.ret (.mk [(pc (.setc mX 0 (.mk [(.lst [(pi 0),(pi 0)]),(pi 0)])) 0),(pc (.setc mX 0 (.mk [(.lst [(pi 0),(pi 0)]),(pi 0)])) 1)])))))))
def ad5:JJ.map told=some (WV,[]):=by kernel_rfl
def aw3:tree (ae JJ)=WV:=aU ad5
def JB:Option PC:=cF [5,6,8] [] Tryz.f86 86 [2,4,7]
def WL:PT:=
 (.call ⟨[],[(4,dk),(2,(.mk [r0]))]⟩ [] 11 111 [F9]
 (.ite (aW (.tget bQ 1) (pi 0))
 (.ret uP)
 (.call ⟨[],[]⟩ [] 21 112 [(.mk [r1]),(.mk [(pc o2 0),(pc o2 1),(pc o2 2)])]
 (.ret (.mk [(pc aeO 0),(pc aeO 1)])))))
def adX:JB.map told=some (WL,[]):=by kernel_rfl
def awT:tree (ae JB)=WL:=aU adX
def AX:Option PC:=cF [5,15,21,9,11] [] Tryz.f112 112 [2,3,4,6,33,7,8,10,12298,12]
def O1:Nat->PC:=bI AX
def aqI:PC:=.block 1 [45,46] [7,8] (.loop [45] [7,8] (b 0))
def G3 (b:Nat->PC):PT:=
 (.ite (aj oP Gc)
 (.blockS ⟨[],[]⟩ 2 [9,10,47,48,49,50,51,52,53,54,55,56,57,58,59,60,61] [10,12298,8,7]
 (.chk (ak wW oP)
 (.call ⟨[(54,oP),(52,oP)],[]⟩ [] 57 112 [(.mk [(pc o2 0)]),(.mk [(pc (.setc kz 0 (pn wW oP)) 0),(pc (.setc kz 0 (pn wW oP)) 1),(pc (.setc kz 0 (pn wW oP)) 2)])]
 (.chk (ak o7 Gd)
 (.chk (ak o8 uX)
 (.next ⟨[],[(8,(.setn o8 uX 0 (.tget zo 1))),(7,(.setn o7 Gd 0 (.tget zo 0)))]⟩)))))
 (.next ⟨[(45,(bH oP (pi 1)))],[]⟩))
 (.exit 1 ⟨[(46,(aj oP Gc))],[]⟩))
def Hp:PT:=
 (.blockS ⟨[(14,(pc (.mk [r1]) 0))],[(4,dk),(3,(.mk [r1])),(2,(.mk [r0]))]⟩ 0 [5,15,16,21,22] [4]
 (.iteS ⟨[],[]⟩ (.pick (af cG (pi 0)) (af cG (pi 0)) (af cG (pi 1))) [5,21,22] [4]
 (.ret (.tup [(.mk [(pc (.setc o4 0 (.mk [pT,(pc o3 1)])) 0),(pc (.setc o4 0 (.mk [pT,(pc o3 1)])) 1)]),pL]))
 (.iteS ⟨[],[]⟩ (af cG (pi 2)) [5] [4]
 (.call ⟨[],[]⟩ [] 26 133 [(.mk [(pc o2 0)]),(pc o3 1)]
 (.ite (pc zh 0)
 (.ret (.tup [(.mk [(pc (.setc o4 0 (.mk [(pc zh 0),(pc zh 1)])) 0),(pc (.setc o4 0 (.mk [(pc zh 0),(pc zh 1)])) 1)]),pL]))
 (.ret (.tup [uP,(.lst [(pc o3 1)])]))))
 (.next ⟨[],[]⟩)
 (.next ⟨[],[]⟩))
 (.next ⟨[],[]⟩))
 (.chk (.an (cB p5 (pi 0)) (bD p5 cI))
 (.chk (af p5 p5)
 (.brk ⟨[(45,(pi 0)),(44,p5),(43,(pc o3 2)),(8,pN),(7,pN)],[(8,(.rep p5 pL)),(7,(.rep p5 dk))]⟩
(aqI b)
 (.chk (.nt (.an (.an (af (pc o3 0) (pi 6)) pT) (.nt (ak o7 (pi 0)))))
 (.ite (.pick (af (pc o3 0) (pi 6)) (pc (pn o7 (pi 0)) 0) pF)
 (.chk (ak o7 (pi 0))
 (.chk (ak o7 F4)
 (.chk (ak o8 F4)
 (.ret (.tup [(.mk [(pc (.setc o4 0 (.sub (pn o7 F4) 0 2)) 0),(pc (.setc o4 0 (.sub (pn o7 F4) 0 2)) 1)]),(pn o8 F4)])))))
 (.call ⟨[],[]⟩ [] 88 134 [(pc o3 0),o7]
 (.ite (pc (.setc dk 0 TG) 0)
 (.ret (.tup [(.mk [(pc aey 0),(pc aey 1)]),pL]))
 (.call ⟨[(92,(.mk [pF,(pi 0)]))],[]⟩ [] 94 135 [o8]
 (.ret (.tup [(.mk [(pc (.setc o4 0 r92) 0),(pc (.setc o4 0 r92) 1)]),r94])))))))))))
def alJ:PT×List (Shp×PT):=(Hp b,[(.lp 1 [45,46] [7,8] [45] [7,8],G3 b)])
def SO:AX.map told=some (alJ (bz AX)):=by kernel_rfl
def aw0:tree (ae AX)=Hp O1:=cl SO
def Uy:round 1 [45,46] [7,8] [45] [7,8] (O1 0)=G3 O1:=bl SO 0 λ_=>rfl
def JH:Option PC:=cF [5,6] [] Tryz.f133 133 [2,4]
def WT:PT:=
 (.chk (.nt (.an (.an (.nt (cB r1 (.llen mZ))) pT) (.nt (ak mZ r1))))
 (.ite (.pick (cB r1 (.llen mZ)) pT (.nt (pc (pn mZ r1) 0)))
 (.ret Md)
 (.call ⟨[],[(4,dk),(2,(.mk [r0]))]⟩ [] 24 144 [r1]
 (.iteS ⟨[],[]⟩ (af (.tget mu 0) (pi 1)) [] [4]
 (.chk (ak (pc o2 0) r1)
 (.call ⟨[],[]⟩ [] 36 145 [(aW (pc (pn (pc o2 0) r1) 1) (pi 0))]
 (.ret (.mk [(pc (.setc o4 0 m4) 0),(pc (.setc o4 0 m4) 1)]))))
 (.next ⟨[],[]⟩)
 (.chk (ak (pc o2 0) r1)
 (.call ⟨[],[]⟩ [] 43 146 [(pc (pn (pc o2 0) r1) 1)]
 (.ret (.mk [(pc (.setc o4 0 (.mk [pT,wW])) 0),(pc (.setc o4 0 (.mk [pT,wW])) 1)]))))))))
def ad3:JH.map told=some (WT,[]):=by kernel_rfl
def aw1:tree (ae JH)=WT:=aU ad3
def JK:Option PC:=cF [] [] Tryz.f145 145 [2]
def WW:PT:=
 (.ite r0
 (.ret Tl)
 (.ret Tn))
def ad6:JK.map told=some (WW,[]):=by kernel_rfl
def aw4:tree (ae JK)=WW:=aU ad6
def JE:Option PC:=cF [9,22,41,6,7,82,88,94] [] Tryz.f134 134 [4,5]
def WQ:PT:=
 (.blockS ⟨[(8,r0)],[(4,dk)]⟩ 0 [9,10,22,23] [4]
 (.iteS ⟨[],[]⟩ (af r8 (pi 3)) [22,23] [4]
 (.chk sL
 (.iteS ⟨[],[]⟩ (pc oO 0) [] [4]
 (.chk sL
 (.call ⟨[],[]⟩ [] 20 145 [(af (pc oO 1) (pi 0))]
 (.ret (.mk [(pc (.setc o4 0 gS) 0),(pc (.setc o4 0 gS) 1)]))))
 (.next ⟨[],[]⟩)
 (.ret uP)))
 (.iteS ⟨[],[]⟩ (.pick (af r8 (pi 4)) (af r8 (pi 4)) (af r8 (pi 5))) [] [4]
 (.call ⟨[],[]⟩ [] 27 145 [(af r0 (pi 5))]
 (.chk sL
 (.chk (.nt (.an (.an (.nt aex) pT) (.nt rp)))
 (.ite (.pick aex pT (.an (.cb .eql (pc lH 0) (pc CC 0)) (.an (af (pc lH 1) (pc CC 1)) pT)))
 (.ret (.mk [(pc (.setc o4 0 CC) 0),(pc (.setc o4 0 CC) 1)]))
 (.next ⟨[],[]⟩)))))
 (.ite (af r8 (pi 6))
 (.chk rp
 (.chk (.nt (.an (.an (pc lH 0) pT) (.nt rp)))
 (.chk (.nt (.an (.an (pc lH 0) pT) (.nt (ak r1 (pi 2)))))
 (.ite (.pick (pc lH 0) (.an (.cb .eql (pc lH 0) (pc (pn r1 (pi 2)) 0)) (.an (af (pc lH 1) (pc (pn r1 (pi 2)) 1)) pT)) pF)
 (.ret (.mk [(pc (.setc o4 0 lH) 0),(pc (.setc o4 0 lH) 1)]))
 (.ret uP)))))
 (.next ⟨[],[]⟩))
 (.next ⟨[],[]⟩))
 (.next ⟨[],[]⟩))
 (.chk sL
 (.chk (.nt (.an (.an (.nt (.nt (pc oO 0))) pT) (.nt rp)))
 (.ite (.pick (.nt (pc oO 0)) pT (.nt (pc lH 0)))
 (.ret uP)
 (.chk rp
 (.blockS ⟨[(81,r0),(7,(pc lH 1)),(6,(pc oO 1))],[]⟩ 1 [82,83,88,89,94,95] [4]
 (.iteS ⟨[],[]⟩ (.pick (af w5 (pi 4)) (af w5 (pi 4)) (af w5 (pi 5))) [88,89,94,95] [4]
 (.call ⟨[],[]⟩ [] 87 145 [(af r0 (pi 4))]
 (.ret (.mk [(pc (.setc o4 0 TF) 0),(pc (.setc o4 0 TF) 1)])))
 (.iteS ⟨[],[]⟩ (af w5 (pi 7)) [94,95] [4]
 (.call ⟨[],[]⟩ [] 93 145 [(aj r6 r7)]
 (.ret (.mk [(pc (.setc o4 0 Ms) 0),(pc (.setc o4 0 Ms) 1)])))
 (.iteS ⟨[],[]⟩ (af w5 (pi 8)) [] [4]
 (.call ⟨[],[]⟩ [] 99 145 [(af r6 r7)]
 (.ret (.mk [(pc (.setc o4 0 r99) 0),(pc (.setc o4 0 r99) 1)])))
 (.next ⟨[],[]⟩)
 (.next ⟨[],[]⟩))
 (.next ⟨[],[]⟩))
 (.next ⟨[],[]⟩))
 (.call ⟨[],[]⟩ [] 103 147 [r0,r6,r7]
 (.ret (.mk [(pc (.setc o4 0 (.mk [pT,aeR])) 0),(pc (.setc o4 0 (.mk [pT,aeR])) 1)])))))))))
def ad0:JE.map told=some (WQ,[]):=by kernel_rfl
def awX:tree (ae JE)=WQ:=aU ad0
def JD:Option PC:=cF [6,8,14,20,25] [] Tryz.f147 147 []
def WN:PT:=
 (.blockS ⟨[(7,r0)],[]⟩ 0 [6,8,9,14,15,20,21,25,26] []
 (.iteS ⟨[],[]⟩ (af r7 (pi 9)) [6,14,15,20,21,25,26] []
 (.call ⟨[],[]⟩ [] 13 146 [(bH r1 r2)]
 (.ret dS))
 (.iteS ⟨[],[]⟩ (af r7 (pi 10)) [6,20,21,25,26] []
 (.call ⟨[],[]⟩ [] 19 146 [(bx r1 r2)]
 (.ret gR))
 (.iteS ⟨[],[]⟩ (af r7 (pi 11)) [6,25,26] []
 (.call ⟨[],[]⟩ [] 24 156 [r1,r2]
 (.ret mu))
 (.ite (af r7 (pi 12))
 (.ret (.mn r1 r2))
 (.next ⟨[],[]⟩))
 (.next ⟨[],[]⟩))
 (.next ⟨[],[]⟩))
 (.next ⟨[],[]⟩))
 (.ret (.mx r1 r2)))
def adZ:JD.map told=some (WN,[]):=by kernel_rfl
def awV:tree (ae JD)=WN:=aU adZ
def JI:Option PC:=cF [4,5,6,7] [] Tryz.f156 156 []
def WU:PT:=
 (.call ⟨[],[]⟩ [] 19 157 [(.conv .u64 (.mx r0 (bx (pi 0) r0))),(.conv .u64 (.mx r1 (bx (pi 0) r1)))]
 (.ite (.cb .neq zd (aj r1 (pi 0)))
 (.ret (bx (pi 0) aeF))
 (.ret aeF)))
def ad4:JI.map told=some (WU,[]):=by kernel_rfl
def aw2:tree (ae JI)=WU:=aU ad4
end Rm
