/-
  The functions of this seat, compiled (1).
-/
import Derived.Test.YtipjidjopglknaaGreatDoorMAK
import Derived.KernelRfl
set_option linter.defProp false
set_option linter.unusedVariables false
set_option maxRecDepth 100000
noncomputable section
namespace Rm
open Go Go.Proofs Cx
def JP:Option PC:=cF [10,11,16] [] Tryz.f3 3 [5,8,12,13,14,15]
def Xc:PT:=
 (.call ⟨[],[(8,(.mk [r3])),(5,(.mk [r0]))]⟩ [] 17 6 []
 (.call ⟨[(11,iy)],[]⟩ [] 21 7 [(aq 8 o5),(aq 19 o8)]
 (.ite (.nt jt)
 (.ret bV)
 (.call ⟨[],[]⟩ [] 28 8 [(aq 8 o5),r1,r2,(aq 24 o8)]
 (.call ⟨[],[(12,(.setc kf 0 nB))]⟩ [] 33 9 [(aq 8 o5),r1,r2,(aq 24 o8)]
 (.call ⟨[],[(13,(.setc kf 0 oH))]⟩ [] 40 10 [(aq 8 o5),r1,r2,(aq 19 o8),r4]
 (.call ⟨[],[(14,(.setc kf 0 ma))]⟩ [] 47 11 [(aq 8 o5),r1,r2,(aq 19 o8),r4]
 (.call ⟨[],[(15,(.setc kf 0 Vd))]⟩ [] 50 12 [(aq 5 MR),(aq 5 zG)]
 (.call ⟨[(52,(.nt nD))],[]⟩ [(52,false)] 55 12 [(aq 5 MS),(aq 5 MT)]
 (.call ⟨[(58,(.pick tg pT (.nt va)))],[]⟩ [(58,false)] 60 13 [(aq 5 MR)]
 (.call ⟨[],[]⟩ [(58,false)] 62 14 [(aq 5 zG)]
 (.call ⟨[(65,(.pick xq pT (aR xr qd)))],[]⟩ [(65,false)] 67 15 [(aq 5 MS)]
 (.call ⟨[],[]⟩ [(65,false)] 69 16 [(aq 5 MT)]
 (.ite (.pick Hv pT (aR qe oI))
 (.ret pF)
 (.call ⟨[],[]⟩ [] 75 18 [(aq 8 o5),r1,(aq 24 o8)]
 (.call ⟨[],[]⟩ [] 79 19 [(aq 8 o5),r1,(aq 24 o8)]
 (.call ⟨[],[]⟩ [] 80 17 [vb,Dw]
 (.call ⟨[(81,th)],[]⟩ [(81,true)] 86 20 [(aq 8 o5),r1,r2,(aq 24 o8)]
 (.call ⟨[],[]⟩ [(81,true)] 91 21 [(aq 8 o5),r1,r2,(aq 24 o8)]
 (.call ⟨[],[]⟩ [(81,true)] 92 17 [HA,Dx]
 (.call ⟨[(98,(.pick bV (.pick rJ Af pF) pF))],[]⟩ [(98,true)] 104 22 [(aq 8 o5),r1,(aq 19 o8),r4]
 (.call ⟨[],[]⟩ [(98,true)] 110 23 [(aq 8 o5),r1,(aq 19 o8),r4]
 (.ret (.pick NP (peq Ho ahS) pF))))))))))))))))))))))))
def afp:JP.map told=some (Xc,[]):=by kernel_rfl
def azS:tree (ab JP)=Xc:=aO afp
def JU:Option PC:=cF [0,7,8,9] [] Tryz.f6 6 [1,2,3,4,5,6,73]
def Xh:PT:=
 (.call ⟨[],[]⟩ [] 10 28 []
 (.call ⟨[(11,(aq 8 ahA))],[(1,ahA)]⟩ [] 12 30 [(pi 0)]
 (.call ⟨[],[]⟩ [] 13 29 [bS]
 (.call ⟨[],[]⟩ [] 14 8 [bV,(pi 0),(pi 2),dP]
 (.call ⟨[(15,(aq 8 o1))],[(2,(.setc kf 0 dB))]⟩ [] 16 30 [(pi 0)]
 (.call ⟨[],[]⟩ [] 17 29 [fo]
 (.call ⟨[],[]⟩ [] 18 8 [fm,(pi 1),(pi 2),iy]
 (.call ⟨[(19,(aq 8 o1))],[(3,(.setc kf 0 kg))]⟩ [] 20 30 [(pi 1)]
 (.call ⟨[],[]⟩ [] 21 29 [eT]
 (.call ⟨[],[]⟩ [] 22 8 [gV,(pi 1),(pi 2),jt]
 (.call ⟨[(23,(aq 8 o1))],[(4,(.setc kf 0 NI))]⟩ [] 24 30 [(pi 0)]
 (.call ⟨[],[]⟩ [] 25 29 [nA]
 (.call ⟨[],[]⟩ [] 26 8 [kh,(pi 0),(pi 0),fp]
 (.call ⟨[],[(6,(.setc cN 0 (.mk [pT,(pi 1)]))),(5,(.setc kf 0 mN))]⟩ [] 32 12 [(aq 5 o2),(.mk [Ns,(pi 0),(.lst [(pi 0)]),(pi 0)])]
 (.call ⟨[(33,mP)],[]⟩ [(33,true)] 38 12 [(aq 5 o3),(.mk [(.mk [(pc o6 0),(pc o6 1)]),(pi 0),(.lst [(pi 1),(pi 0)]),(pi 0)])]
 (.call ⟨[(40,(.pick oH ju pF))],[]⟩ [(40,true)] 44 12 [(aq 5 o4),(.mk [cN,(pi 1),(.lst [(pi 1)]),(pi 0)])]
 (.call ⟨[(49,(peq (pc o5 4) (pi 4))),(7,(.pick ma Ad pF))],[]⟩ [(49,true)] 51 13 [(aq 5 o5)]
 (.call ⟨[(54,(.pick td (peq NK (pi 0)) pF))],[]⟩ [(54,true)] 56 15 [(aq 5 o5)]
 (.call ⟨[(59,(.pick rH (peq qa (pi (-1))) pF))],[]⟩ [(59,true)] 61 13 [(aq 5 o2)]
 (.call ⟨[(64,(.pick Ve (peq Dv (pi 1)) pF))],[]⟩ [(64,true)] 66 13 [(aq 5 o4)]
 (.call ⟨[(69,(aq 8 o1)),(8,(.pick Ae (peq Hw (pi 2)) pF))],[]⟩ [] 70 30 [(pi 1)]
 (.call ⟨[],[]⟩ [] 71 29 [r70]
 (.call ⟨[],[]⟩ [] 72 20 [oI,(pi 1),(pi 2),r71]
 (.call ⟨[],[]⟩ [] 74 17 [Hx,(.lst [(pi 17)])]
 (.call ⟨[(76,(aq 8 o1)),(75,Hy)],[]⟩ [(75,true)] 77 30 [(pi 0)]
 (.call ⟨[],[]⟩ [(75,true)] 78 29 [Vf]
 (.call ⟨[],[]⟩ [(75,true)] 79 18 [rI,(pi 1),Vg]
 (.call ⟨[],[]⟩ [(75,true)] 81 17 [Dw,(.lst [(pi 1),(pi 0),(pi 1),(pi 0),(pi 0)])]
 (.call ⟨[(91,(aq 8 o1)),(90,(.pick (.pick r7 r8 pF) (.pick vb rJ pF) pF))],[]⟩ [(90,true)] 92 30 [(pi 0)]
 (.call ⟨[],[]⟩ [(90,true)] 93 22 [Dx,(pi 0),Af,(pi 5)]
 (.call ⟨[(97,(aq 8 o1)),(96,(.pick r90 (peq HB (pi 10)) pF))],[]⟩ [(96,true)] 98 30 [(pi 0)]
 (.call ⟨[],[]⟩ [(96,true)] 99 22 [HC,(pi 1),NP,(pi 5)]
 (.call ⟨[(103,(aq 8 o1)),(102,(.pick NO (peq NQ (pi 13)) pF))],[]⟩ [(102,true)] 104 30 [(pi 0)]
 (.call ⟨[],[]⟩ [(102,true)] 105 22 [ND,(pi 0),Ho,(pi 1)]
 (.ret (.pick ahP (peq ahQ (pi (-1))) pF))))))))))))))))))))))))))))))))))))
def afv:JU.map told=some (Xh,[]):=by kernel_rfl
def azY:tree (ab JU)=Xh:=aO afv
def JT:Option PC:=cF [5] [] Tryz.f28 28 [0,24576,28672,32768,1,12289,2,3,12291,4]
def Xg:PT:=
 (.ret (.mk [(pc Ha 0),(pc Ha 1),(pc Ha 2),(pc Ha 3),(pc Ha 4),pL,pL,pL]))
def afu:JT.map told=some (Xg,[]):=by kernel_rfl
def azW:tree (ab JT)=Xg:=aO afu
def JS:Option PC:=cF [] [] Tryz.f30 30 [2,69634,73730,3,4]
def Xf:PT:=
 (.ret (.mk [(pc lg 0),(pc lg 1),(pc lg 2),(pc lg 3),(pc lg 4),(pc lg 5),(pc lg 6),(pc lg 7),(pc lg 8),(pc lg 9),(pc lg 10),(pc lg 11),(pc lg 12),(pc lg 13),(pc lg 14),(pc lg 15),pL,pL,(pc lg 18)]))
def afs:JS.map told=some (Xf,[]):=by kernel_rfl
def azV:tree (ab JS)=Xf:=aO afs
def JQ:Option PC:=cF [] [] Tryz.f29 29 [1,2]
def Xd:PT:=
 (.ret (aq 24 (.setc aht 0 (.mk [(aq 19 (.mk [r0])),(pi 0),(pi (-1)),(pi (-1)),(pi (-1)),(pi 5)]))))
def afq:JQ.map told=some (Xd,[]):=by kernel_rfl
def azT:tree (ab JQ)=Xd:=aO afq
def Jy:Option PC:=cF [10] [] Tryz.f8 8 [4,7,8,9]
def WN:PT:=
 (.call ⟨[],[(8,kf),(4,(.mk [r0]))]⟩ [] 16 33 [iU,r1,r2,Hc]
 (.iteS ⟨[(10,(.tget fo 1))],[(9,Hf)]⟩ (aR (pc Hf 2) (pi (-1))) [] [9]
 (.chk (ao (pc o4 4) (pc o9 2))
 (.call ⟨[],[]⟩ [] 31 34 [(pn (pc o4 4) (pc o9 2)),r2,bZ]
 (.next ⟨[],[(9,(.setc (.setc o9 0 (.tget mO 0)) 4 (.tget mO 1)))]⟩)))
 (.next ⟨[],[]⟩)
 (.ret (aq 5 (.setc o8 0 (aq 5 o9))))))
def ae3:Jy.map told=some (WN,[]):=by kernel_rfl
def azv:tree (ab Jy)=WN:=aO ae3
def JE:Option PC:=cF [9,11,12,13,14] [] Tryz.f33 33 [4,7,8,10,16394]
def WU:PT:=
 (.call ⟨[],[(16394,pL),(10,(.setc kf 0 (.mk [cN,(pi (-1)),pL,(pi 1)]))),(8,kf),(7,(.mk [r3])),(4,(.mk [r0]))]⟩ [] 19 39 [iU,Hc]
 (.ite (peq (.llen (.tget gV 1)) (pi 0))
 (.ret (.tup [UW,pL]))
 (.call ⟨[(11,(.tget gV 1))],[(7,(.setc o7 0 (.tget gV 0)))]⟩ [] 28 69 [r2]
 (.ite (.nt (.tget nB 1))
 (.ret (.tup [UW,pL]))
 (.call ⟨[],[]⟩ [] 37 40 [(aq 8 o4),r1,(aq 24 o7)]
 (.ite (peq (.llen p9) (pi 0))
 (.ret (.tup [UW,pL]))
 (.call ⟨[],[]⟩ [] 46 70 [(aq 8 o4),r1,r2,p9]
 (.ite (peq (pc zY 4) (pi 0))
 (.chk (ao (pc zY 3) (bp (.llen (pc zY 3)) (pi 1)))
 (.ret (.tup [(aq 5 (.setc o8 0 (aq 5 (.setc zY 2 (pn (pc zY 3) (bp (.llen (pc zY 3)) (pi 1))))))),bV])))
 (.ret (.tup [(aq 5 (.setc o8 0 (aq 5 zY))),bV]))))))))))
def afa:JE.map told=some (WU,[]):=by kernel_rfl
def azB:tree (ab JE)=WU:=aO afa
def JF:Option PC:=cF [5] [] Tryz.f39 39 [2,3,4]
def WV:PT:=
 (.call ⟨[],[(4,aht),(3,(.mk [r1])),(2,(.mk [r0]))]⟩ [] 10 24 [(aq 19 (.mk [r1])),(pc (.mk [r1]) 23)]
 (.call ⟨[(12,(aq 24 (.setc o3 0 bZ)))],[]⟩ [] 15 26 [(aq 8 o2),(aq 24 (.setc o3 0 bZ))]
 (.ret (.tup [(aq 24 (.setc o4 0 bS)),fm]))))
def afb:JF.map told=some (WV,[]):=by kernel_rfl
def azC:tree (ab JF)=WV:=aO afb
def BC:Option PC:=cF [1000004,1000005] [] Tryz.f24 24 [2,4,65540,69636,73732,77828,5,65541,69637,73733,77829,7,31,9,49,11,13]
def tW:Nat->PC:=bn BC
variable(b:Nat->PC)
def au8:PC:=.block 0 [20,21] [65541,5] (.loop [20] [65541,5] (b 0))
def au9:PC:=.block 2 [38,39] [73733,5] (.loop [38] [73733,5] (b 1))
def ava:PC:=.block 4 [56,57] [5,69637] (.loop [56] [5,69637] (b 2))
def avb:PC:=.block 6 [76,77] [5,77829] (.loop [76] [5,77829] (b 3))
def Ik (b:Nat->PC):PT:=
 (.ite (aj eT gV)
 (.chk (ao kg eT)
 (.ite (bq (pc (.setc z9 0 (pn kg eT)) 6) r1)
 (.exit 0 ⟨[(21,(aj eT gV))],[]⟩)
 (.chk (bB (.llen (.app (.o 65541) (.lst [(aq 9 (.setc z9 0 (pn kg eT)))]))) cM)
 (.next ⟨[(20,(aL eT (pi 1)))],[(65541,(.app (.o 65541) (.lst [(aq 9 (.setc z9 0 (pn kg eT)))]))),(5,(.setc o5 15 pN))]⟩))))
 (.exit 0 ⟨[(21,(aj eT gV))],[]⟩))
def Il (b:Nat->PC):PT:=
 (.ite (aj ju p9)
 (.chk (ao kH ju)
 (.ite (bq (pc (.setc z9 0 (pn kH ju)) 6) r1)
 (.exit 2 ⟨[(39,(aj ju p9))],[]⟩)
 (.chk (bB (.llen (.app (.o 73733) (.lst [(aq 9 (.setc z9 0 (pn kH ju)))]))) cM)
 (.next ⟨[(38,(aL ju (pi 1)))],[(73733,(.app (.o 73733) (.lst [(aq 9 (.setc z9 0 (pn kH ju)))]))),(5,(.setc o5 17 pN))]⟩))))
 (.exit 2 ⟨[(39,(aj ju p9))],[]⟩))
def Io (b:Nat->PC):PT:=
 (.ite (aj qa va)
 (.chk (ao rH qa)
 (.ite (bB (pc (.setc z2 0 (pn rH qa)) 0) (.llen (.o 65541)))
 (.chk (bB (.llen ahF) cM)
 (.next ⟨[(56,(aL qa (pi 1)))],[(5,(.setc o5 16 pN)),(69637,ahF)]⟩))
 (.next ⟨[(56,(aL qa (pi 1)))],[]⟩)))
 (.exit 4 ⟨[(57,(aj qa va))],[]⟩))
def Ip (b:Nat->PC):PT:=
 (.ite (aj rI vb)
 (.blockS ⟨[],[]⟩ 7 [13,78,79,80,81,82,83,84,85] [13,77829,5]
 (.chk (ao Hy rI)
 (.call ⟨[],[(13,(.setc z3 0 (pn Hy rI)))]⟩ [] 85 49 [(pc (.setc z3 0 (pn Hy rI)) 1),(.llen (.o 65541))]
 (.ite Hz
 (.chk (bB (.llen ahq) cM)
 (.next ⟨[],[(77829,ahq),(5,(.setc o5 18 pN))]⟩))
 (.next ⟨[],[]⟩))))
 (.next ⟨[(76,(aL rI (pi 1)))],[]⟩))
 (.exit 6 ⟨[(77,(aj rI vb))],[]⟩))
def YI:PT:=
 (.brk ⟨[(20,(pi 0)),(19,(.llen (pc (.mk [r0]) 15))),(18,(pc (.mk [r0]) 15))],[(77829,pL),(73733,pL),(69637,pL),(65541,pL),(5,(.setc zZ 0 (.mk [(aq 15 (.mk [r0])),pL,pL,pL,pL]))),(4,zZ),(2,(.mk [r0]))]⟩
(au8 b)
 (.brk ⟨[(38,(pi 0)),(37,(.llen (pc o2 17))),(36,(pc o2 17))],[]⟩
(au9 b)
 (.brk ⟨[(56,(pi 0)),(55,(.llen (pc o2 16))),(54,(pc o2 16))],[]⟩
(ava b)
 (.brk ⟨[(76,(pi 0)),(75,(.llen (pc o2 18))),(74,(pc o2 18))],[]⟩
(avb b)
 (.ret (.mk [(pc mM 0),(pc mM 1),(pc mM 2),(pc mM 3),(pc mM 4),(pc mM 5),(pc mM 6),(pc mM 7),(pc mM 8),(pc mM 9),(pc mM 10),(pc mM 11),(pc mM 12),(pc mM 13),(pc mM 14),(.o 65541),(.o 69637),(.o 73733),(.o 77829)]))))))
def apT:PT×List (Shp×PT):=(YI b,[(.lp 0 [20,21] [65541,5] [20] [65541,5],Ik b),(.lp 2 [38,39] [73733,5] [38] [73733,5],Il b),(.lp 4 [56,57] [5,69637] [56] [5,69637],Io b),(.lp 6 [76,77] [5,77829] [76] [5,77829],Ip b)])
def CV:BC.map told=some (apT (bx BC)):=by kernel_rfl
def aBE:tree (ab BC)=YI tW:=bJ CV
def V0:round 0 [20,21] [65541,5] [20] [65541,5] (tW 0)=Ik tW:=aZ CV 0 λ_=>rfl
def V1:round 2 [38,39] [73733,5] [38] [73733,5] (tW 1)=Il tW:=aZ CV 1 λ_=>rfl
def V2:round 4 [56,57] [5,69637] [56] [5,69637] (tW 2)=Io tW:=aZ CV 2 λ_=>rfl
def V3:round 6 [76,77] [5,77829] [76] [5,77829] (tW 3)=Ip tW:=aZ CV 3 λ_=>rfl
def KV:Option PC:=cF [4] [] Tryz.f49 49 []
def YN:PT:=
 (.ret (.pick (bY r0 (pi 0)) (aj r0 r1) pF))
def agv:KV.map told=some (YN,[]):=by kernel_rfl
def aBK:tree (ab KV)=YN:=aO agv
def BF:Option PC:=cF [4,7,9,11,12,13,14,15,16] [] Tryz.f26 26 [2,3,5,6,8,10,90,139]
def Ez:Nat->PC:=bn BF
def avu:PC:=.meach 90 [94,95,11,12] [0,1,0,1] [10] (b 0)
def avv:PC:=.meach 139 [143,144,15,16] [0,1,0,1] [10] (b 1)
def V6 (b:Nat->PC):PT:=
 (.chk (ao cq bV)
 (.next ⟨[],[(10,(.setn cq bV 0 (.mk [pT,bS])))]⟩))
def V7 (b:Nat->PC):PT:=
 (.blockS ⟨[],[]⟩ 3 [145,146,147,148,149] [10]
 (.call ⟨[(146,fm)],[]⟩ [] 148 58 [fo]
 (.chk (ao cq (.r 146))
 (.next ⟨[],[(10,(.setn cq (.r 146) 0 (.r 148)))]⟩)))
 (.next ⟨[],[]⟩))
def xK:PT:=
 (.call ⟨[(7,(.mx (pc (.mk [r1]) 20) (pi 0)))],[(6,(.setc O7 0 (aq 15 (.mk [r1])))),(5,xm),(3,(.mk [r1])),(2,(.mk [r0]))]⟩ [] 30 49 [(pc (.mk [r1]) 19),(.llen (pc xm 15))]
 (.call ⟨[(48,Hj),(44,(.pick (.pick (.nt p7) pT (aj (pc o3 20) (pi (-1)))) pT (bY r7 (.llen (pc o5 15)))))],[]⟩ [(48,true),(44,false)] 51 49 [(pc o3 22),(pi 100001)]
 (.ite (.pick Ad pT (.pick rG (.nt NK) pF))
 (.ret pL)
 (.chk (ao (pc o5 15) (pc o3 19))
 (.call ⟨[],[(8,(.setc z9 0 (pn (pc o5 15) (pc o3 19))))]⟩ [] 63 49 [(pc (.setc z9 0 (pn (pc o5 15) (pc o3 19))) 6),(pi 100001)]
 (.ite (.nt Hu)
 (.ret pL)
 (.chk (.an (bY (pi 20) (pi 0)) (bB (pi 20) cM))
 (.chk (peq (pi 20) (pi 20))
 (.chk (aj (.mlen (.con (.map []))) cM)
 (.chk (aj (.mlen (.put (.con (.map [])) (pi 0) (pc o6 3))) cM)
 (.chk (aj (.mlen (.put (.put (.con (.map [])) (pi 0) (pc o6 3)) (pi 1) (pc o6 14))) cM)
 (.chk (aj (.mlen UR) cM)
 (.chk (aj (.mlen (.put UR (pi 3) (pc o6 12))) cM)
 (.chk (aj (.mlen UY) cM)
 (.chk (aj (.mlen (.put UY (pi 5) (pc o3 21))) cM)
 (.blockS ⟨[(10,pN),(9,(.pick Hj (bp (pc o8 6) (pc o3 22)) (pi 0)))],[(90,(.tup [(.lst []),(.put (.put UY (pi 5) (pc o3 21)) (pi 6) (.pick Hj (bp (pc o8 6) (pc o3 22)) (pi 0)))])),(10,(.rep (pi 20) cN))]⟩ 0 [] [10]
 (.brk ⟨[],[]⟩
(avu b)
 (.exit 0 ⟨[],[]⟩))
 (.call ⟨[],[(3,(aq 24 o3))]⟩ [] 104 55 [(pc o5 16),(.clo 56 [(.ref (aq 24 o3))])]
 (.call ⟨[(13,Ho)],[]⟩ [] 108 57 [(aq 8 o2),(pc o6 9)]
 (.call ⟨[],[]⟩ [] 112 57 [(aq 8 o2),(pc o6 10)]
 (.chk (aj (.mlen (.con (.map []))) cM)
 (.chk (aj (.mlen UX) cM)
 (.chk (aj (.mlen (.put UX (pi 8) (peq (pc o6 2) (pi (-1))))) cM)
 (.chk (aj (.mlen (.put (.put UX (pi 8) (peq (pc o6 2) (pi (-1)))) (pi 9) (aR (.ai .and .i64 (pc o6 13) (pi 4)) (pi 0)))) cM)
 (.chk (aj (.mlen NB) cM)
 (.chk (aj (.mlen (.put NB (pi 11) (aR Hp Hq))) cM)
 (.chk (aj (.mlen (.put (.put NB (pi 11) (aR Hp Hq)) (pi 12) dP)) cM)
 (.chk (aj (.mlen ahB) cM)
 (.blockS ⟨[],[(139,(.tup [(.lst []),(.put ahB (pi 14) (bq r9 (pi 0)))]))]⟩ 2 [] [10]
 (.brk ⟨[],[]⟩
(avv b)
 (.exit 2 ⟨[],[]⟩))
 (.call ⟨[],[]⟩ [] 154 59 [(aq 19 o5),(pi 0),(pc o3 19)]
 (.chk (ao cq (pi 15))
 (.call ⟨[],[(10,(.setn cq (pi 15) 0 (.r 154)))]⟩ [] 160 59 [(aq 19 o5),(pi 1),(pc o3 19)]
 (.chk (ao cq (pi 16))
 (.call ⟨[],[(10,(.setn cq (pi 16) 0 (.r 160)))]⟩ [] 166 59 [(aq 19 o5),(pi 2),(pc o3 19)]
 (.chk (ao cq (pi 17))
 (.call ⟨[],[(10,(.setn cq (pi 17) 0 (.r 166)))]⟩ [] 171 59 [(aq 19 o5),(pi 3),r7]
 (.chk (ao cq (pi 18))
 (.call ⟨[],[(10,(.setn cq (pi 18) 0 (.r 171)))]⟩ [] 176 59 [(aq 19 o5),(pi 4),r7]
 (.chk (ao cq (pi 19))
 (.ret (.setn cq (pi 19) 0 (.r 176)))))))))))))))))))))))))))))))))))))))))
def apW:PT×List (Shp×PT):=(xK b,[(.ea [10],V6 b),(.ea [10],V7 b)])
def M7:BF.map told=some (apW (bx BF)):=by kernel_rfl
def aBI:tree (ab BF)=xK Ez:=bJ M7
def ax3:rP [10] (Ez 0)=V6 Ez:=WM M7 0 λ_=>rfl
def ax4:rP [10] (Ez 1)=V7 Ez:=WM M7 1 λ_=>rfl
def KT:Option PC:=cF [3] [] Tryz.f56 56 [2]
def YL:PT:=
 (.ret (bB gK (pc (.deref r1) 19)))
def agt:KT.map told=some (YL,[]):=by kernel_rfl
def aBH:tree (ab KT)=YL:=aO agt
def KW:Option PC:=cF [4] [] Tryz.f55 55 []
def YP:PT:=
 (.call ⟨[],[]⟩ [] 7 104 [r0,r1]
 (.ret (bY r7 (pi 0))))
def agw:KW.map told=some (YP,[]):=by kernel_rfl
def aBM:tree (ab KW)=YP:=aO agw
def BG:Option PC:=cF [4,5] [] Tryz.f104 104 []
def Qr:Nat->PC:=bn BG
def avh:PC:=.block 0 [4,8,9] [] (.loop [4,8] [] (b 0))
def It (b:Nat->PC):PT:=
 (.ite (aj r8 r7)
 (.blockS ⟨[],[]⟩ 1 [4,5,10,11,12,13,14,15,16] []
 (.chk (ao r0 r8)
 (.callc ⟨[(5,r8)],[]⟩ [] 16 r1 [(pn r0 r8)]
 (.ite fo
 (.ret r5)
 (.next ⟨[],[]⟩))))
 (.next ⟨[(8,sX)],[]⟩))
 (.exit 0 ⟨[(9,(aj r8 r7))],[]⟩))
def YT:PT:=
 (.brk ⟨[(8,(pi 0)),(7,(.llen r0)),(4,(pi 0))],[]⟩
(avh b)
 (.ret (pi (-1))))
def apY:PT×List (Shp×PT):=(YT b,[(.lp 0 [4,8,9] [] [4,8] [],It b)])
def Uj:BG.map told=some (apY (bx BG)):=by kernel_rfl
def aBQ:tree (ab BG)=YT Qr:=bJ Uj
def V8:round 0 [4,8,9] [] [4,8] [] (Qr 0)=It Qr:=aZ Uj 0 λ_=>rfl
def KQ:Option PC:=cF [4] [] Tryz.f57 57 [2]
def Yw:PT:=
 (.call ⟨[],[(2,(.mk [r0]))]⟩ [] 9 105 [r1,(.llen ke)]
 (.ite (.nt r9)
 (.ret (pi (-1)))
 (.chk (ao (pc o2 1) r1)
 (.ret (pc (pn (pc o2 1) r1) 1)))))
def agq:KQ.map told=some (Yw,[]):=by kernel_rfl
def aBt:tree (ab KQ)=Yw:=aO agq
def KR:Option PC:=cF [4] [] Tryz.f105 105 []
def Yz:PT:=
 (.ret (.pick (bY r0 (pi 0)) (aj r0 r1) pF))
def agr:KR.map told=some (Yz,[]):=by kernel_rfl
def aBw:tree (ab KR)=Yz:=aO agr
def KU:Option PC:=cF [] [] Tryz.f58 58 [2]
def YM:PT:=
 (.ite r0
 (.ret Ns)
 (.ret UU))
def agu:KU.map told=some (YM,[]):=by kernel_rfl
def aBJ:tree (ab KU)=YM:=aO agu
def BD:Option PC:=cF [] [] Tryz.f59 59 [3,6,8]
def Qq:Nat->PC:=bn BD
def avc:PC:=.block 0 [12,13] [6] (.loop [12] [6] (b 0))
def Iq (b:Nat->PC):PT:=
 (.ite (aj bS bV)
 (.blockS ⟨[],[]⟩ 1 [8,14,15,16,17,18,19,20,25] [8,6]
 (.chk (ao bZ bS)
 (.iteS ⟨[],[(8,(.setc z3 0 (pn bZ bS)))]⟩ (.pick (peq (pc (.setc z3 0 (pn bZ bS)) 0) r1) (peq (pc (.setc z3 0 (pn bZ bS)) 1) r2) pF) [] [6]
 (.call ⟨[],[]⟩ [] 29 58 [(aR (pc o8 2) (pi 0))]
 (.ret (.mk [(pc (.setc o6 0 p6) 0),(pc (.setc o6 0 p6) 1)])))
 (.next ⟨[],[]⟩)
 (.next ⟨[],[]⟩)))
 (.next ⟨[(12,(aL bS (pi 1)))],[]⟩))
 (.exit 0 ⟨[(13,(aj bS bV))],[]⟩))
def YJ:PT:=
 (.brk ⟨[(12,(pi 0)),(11,(.llen (pc (.mk [r0]) 18))),(10,(pc (.mk [r0]) 18))],[(6,cN)]⟩
(avc b)
 (.ret Nu))
def apU:PT×List (Shp×PT):=(YJ b,[(.lp 0 [12,13] [6] [12] [6],Iq b)])
def Ui:BD.map told=some (apU (bx BD)):=by kernel_rfl
def aBF:tree (ab BD)=YJ Qq:=bJ Ui
def V4:round 0 [12,13] [6] [12] [6] (Qq 0)=Iq Qq:=aZ Ui 0 λ_=>rfl
def JX:Option PC:=cF [2,3,4,11] [] Tryz.f69 69 []
def Xk:PT:=
 (.blockS ⟨[],[]⟩ 0 [2,3,4,5,6,7,10,11,12,13,14] []
 (.iteS ⟨[],[]⟩ (.pick zV pT (bY r0 (pi 22))) [2,3,11,12,13,14] []
 (.ret (.tup [(pi 0),pF]))
 (.call ⟨[],[]⟩ [] 14 81 [(.lst [(pc sZ 0),(pc sZ 1),(pc sZ 2),(pc sZ 3),(pc sZ 4),(pc sZ 5),(pc sZ 6),(pc sZ 7),(pc sZ 8),(pc sZ 9)]),r0]
 (.ite dB
 (.ret (.tup [(pi 0),pT]))
 (.next ⟨[],[]⟩)))
 (.next ⟨[],[]⟩))
 (.ret (.tup [(pi 1),pT])))
def afy:JX.map told=some (Xk,[]):=by kernel_rfl
def az1:tree (ab JX)=Xk:=aO afy
def KY:Option PC:=cF [4] [] Tryz.f81 81 []
def YR:PT:=
 (.call ⟨[],[]⟩ [] 7 124 [r0,r1]
 (.ret (bY r7 (pi 0))))
def agy:KY.map told=some (YR,[]):=by kernel_rfl
def aBO:tree (ab KY)=YR:=aO agy
def BJ:Option PC:=cF [4,5] [] Tryz.f124 124 []
def Qu:Nat->PC:=bn BJ
def avk:PC:=.block 0 [4,8,9] [] (.loop [4,8] [] (b 0))
def Iw (b:Nat->PC):PT:=
 (.ite (aj r8 r7)
 (.chk (ao r0 r8)
 (.ite (peq r1 (pn r0 r8))
 (.ret r8)
 (.next ⟨[(8,sX)],[]⟩)))
 (.exit 0 ⟨[(9,(aj r8 r7))],[]⟩))
def YW:PT:=
 (.brk ⟨[(8,(pi 0)),(7,(.llen r0)),(4,(pi 0))],[]⟩
(avk b)
 (.ret (pi (-1))))
def ap1:PT×List (Shp×PT):=(YW b,[(.lp 0 [4,8,9] [] [4,8] [],Iw b)])
def Um:BJ.map told=some (ap1 (bx BJ)):=by kernel_rfl
def aBT:tree (ab BJ)=YW Qu:=bJ Um
def Wb:round 0 [4,8,9] [] [4,8] [] (Qu 0)=Iw Qu:=aZ Um 0 λ_=>rfl
def AT:Option PC:=cF [8,9,11,12,13,14,55,70] [] Tryz.f70 70 [4,10,53]
def PU:Nat->PC:=bn AT
def at3:PC:=.block 0 [] [] (.loop [8,9,10] [10] (b 0))
def Vl (b:Nat->PC):PT:=
 (.blockS ⟨[],[]⟩ 1 [8,9,10,11,12,13,14,32,33,35,36,37,38,39,40,41,42,43,44,45,46,49,50,52,53,54,55,56,57,58,68,70,71] [53,10]
 (.chk (ao cq (bp (.llen cq) (pi 1)))
 (.call ⟨[(11,(pn cq (bp (.llen cq) (pi 1))))],[]⟩ [] 41 112 [(aq 8 o4),(pn cq (bp (.llen cq) (pi 1))),r2,r3]
 (.ite (peq (.tget s9 0) bV)
 (.ret (.tup [cq,(pi 0)]))
 (.call ⟨[(13,(.tget s9 1)),(12,(.tget s9 0))],[]⟩ [] 50 81 [cq,(.tget s9 0)]
 (.chk (bB (.llen (.app cq (.lst [bS]))) cM)
 (.chk (.nt (.an (.an nD (.an (.nt (.nt dP)) pT)) (.nt (ao (pc o4 4) bS))))
 (.ite (.pick (.nt dP) pT (.pick nD (pc (pn (pc o4 4) bS) 1) pF))
 (.ret (.tup [(.app cq (.lst [bS])),(pi 0)]))
 (.ite nD
 (.ret (.tup [(.app cq (.lst [bS])),(pi 12)]))
 (.next ⟨[(10,pN)],[(10,(.app cq (.lst [bS])))]⟩)))))))))
 (.next ⟨[],[]⟩))
def W9:PT:=
 (.call ⟨[(9,(pi 0)),(8,pL)],[(4,(.mk [r0]))]⟩ [] 19 111 [iU,r1,r2,r3]
 (.chk (.nt (.an (.an (.nt (.nt gV)) pT) (.nt (ao r3 (pi 0)))))
 (.ite (.pick (.nt gV) pT (aR (pn r3 (pi 0)) r1))
 (.ret (.tup [pL,(pi 1)]))
 (.brk ⟨[(10,pN)],[(10,(.lst [r1]))]⟩
(at3 b)
 (.next ⟨[],[]⟩)))))
def ao7:PT×List (Shp×PT):=(W9 b,[(.lp 0 [] [] [8,9,10] [10],Vl b)])
def TJ:AT.map told=some (ao7 (bx AT)):=by kernel_rfl
def azN:tree (ab AT)=W9 PU:=bJ TJ
def ax0:round 0 [] [] [8,9,10] [10] (PU 0)=Vl PU:=aZ TJ 0 λ_=>rfl
def JN:Option PC:=cF [8] [] Tryz.f111 111 [4,9]
def xH:PT:=
 (.ite (.pick (.pick (.pick (.pick (aj r1 (pi 0)) pT (bY r1 (pc (.setc Hb 0 (.llen uY)) 0))) pT (aj r2 (pi 0))) pT (bY r2 (pi 22))) pT (aR (.llen r3) (pi 5)))
 (.ret pF)
 (.call ⟨[],[]⟩ [] 35 150 [r3,(.clo 151 [(.ref (pc (.setc Hb 0 (.llen uY)) 0))])]
 (.ret (.nt p8))))
def afn:JN.map told=some (xH,[]):=by kernel_rfl
def azQ:tree (ab JN)=xH:=aO afn
def JO:Option PC:=cF [3] [] Tryz.f151 151 []
def Xb:PT:=
 (.ret (.pick zV pT (bY r0 (.deref r1))))
def afo:JO.map told=some (Xb,[]):=by kernel_rfl
def azP:tree (ab JO)=Xb:=aO afo
def KX:Option PC:=cF [4] [] Tryz.f150 150 []
def YQ:PT:=
 (.call ⟨[],[]⟩ [] 7 173 [r0,r1]
 (.ret (bY r7 (pi 0))))
def agx:KX.map told=some (YQ,[]):=by kernel_rfl
def aBN:tree (ab KX)=YQ:=aO agx
def BI:Option PC:=cF [4,5] [] Tryz.f173 173 []
def Qt:Nat->PC:=bn BI
def avj:PC:=.block 0 [4,8,9] [] (.loop [4,8] [] (b 0))
def Iv (b:Nat->PC):PT:=
 (.ite (aj r8 r7)
 (.blockS ⟨[],[]⟩ 1 [4,5,10,11,12,13,14,15,16] []
 (.chk (ao r0 r8)
 (.callc ⟨[(5,r8)],[]⟩ [] 16 r1 [(pn r0 r8)]
 (.ite fo
 (.ret r5)
 (.next ⟨[],[]⟩))))
 (.next ⟨[(8,sX)],[]⟩))
 (.exit 0 ⟨[(9,(aj r8 r7))],[]⟩))
def YV:PT:=
 (.brk ⟨[(8,(pi 0)),(7,(.llen r0)),(4,(pi 0))],[]⟩
(avj b)
 (.ret (pi (-1))))
def ap0:PT×List (Shp×PT):=(YV b,[(.lp 0 [4,8,9] [] [4,8] [],Iv b)])
def Ul:BI.map told=some (ap0 (bx BI)):=by kernel_rfl
def aBS:tree (ab BI)=YV Qt:=bJ Ul
def Wa:round 0 [4,8,9] [] [4,8] [] (Qt 0)=Iv Qt:=aZ Ul 0 λ_=>rfl
def AU:Option PC:=cF [8,9] [] Tryz.f112 112 [4,11]
def PV:Nat->PC:=bn AU
def at4:PC:=.block 0 [8,9,25,26] [] (.loop [8,9,25] [] (b 0))
def HD (b:Nat->PC):PT:=
 (.ite (aj fp nA)
 (.chk (ao kh fp)
 (.ite (.pick (peq (pc Hg 0) r2) (aR (pc Hg 1) (pi 0)) pF)
 (.chk (ao r3 (pc Hg 1))
 (.ret (.tup [(pn r3 (pc Hg 1)),(pc Hg 2)])))
 (.next ⟨[(25,(aL fp (pi 1)))],[]⟩)))
 (.exit 0 ⟨[(26,(aj fp nA))],[]⟩))
def Xa:PT:=
 (.call ⟨[(9,pF),(8,(pi 0))],[(4,(.mk [r0]))]⟩ [] 16 111 [iU,r1,r2,r3]
 (.ite (.nt fo)
 (.ret (.tup [(pi (-1)),pF]))
 (.chk (ao (pc o4 4) r1)
 (.brk ⟨[(25,(pi 0)),(24,(.llen (pc (pn (pc o4 4) r1) 2))),(23,(pc (pn (pc o4 4) r1) 2))],[]⟩
(at4 b)
 (.ret (.tup [r1,pF]))))))
def ao8:PT×List (Shp×PT):=(Xa b,[(.lp 0 [8,9,25,26] [] [8,9,25] [],HD b)])
def TK:AU.map told=some (ao8 (bx AU)):=by kernel_rfl
def azO:tree (ab AU)=Xa PV:=bJ TK
def Vm:round 0 [8,9,25,26] [] [8,9,25] [] (PV 0)=HD PV:=aZ TK 0 λ_=>rfl
def JV:Option PC:=cF [7,9,11,12] [] Tryz.f34 34 [3,6,8,10]
def Xi:PT:=
 (.call ⟨[],[(6,cN)]⟩ [] 16 71 [(aq 4 (.mk [r0])),r1]
 (.ite (aR (.tget fo 1) (pi 0))
 (.ret (.tup [Nu,(.tget fo 1)]))
 (.call ⟨[],[]⟩ [] 25 72 [(.mk [(pc (.setc lf 0 (.tget fo 0)) 0),(pc (.setc lf 0 (.tget fo 0)) 1),(pc (.setc lf 0 (.tget fo 0)) 2)]),r2]
 (.call ⟨[],[(10,(.setc cN 0 fp))]⟩ [] 28 69 [r1]
 (.ret (.tup [(.mk [(pc (.setc o6 0 (.mk [(pc Nq 0),(pc Nq 1)])) 0),(pc (.setc o6 0 (.mk [(pc Nq 0),(pc Nq 1)])) 1)]),(pi 0)]))))))
def afw:JV.map told=some (Xi,[]):=by kernel_rfl
def azZ:tree (ab JV)=Xi:=aO afw
def JY:Option PC:=cF [5,6,7,8,10,11] [] Tryz.f71 71 [2,3,4,12292,9]
def Xl:PT:=
 (.call ⟨[],[(4,lf),(3,(.mk [r1])),(2,(.mk [r0]))]⟩ [] 14 69 [zR]
 (.ite (.nt (.tget dB 1))
 (.ret (.tup [UT,(pi 1)]))
 (.call ⟨[(6,(.tget dB 0))],[]⟩ [] 23 113 [(pc o2 3),(.clo 114 [(.ref (pc o3 0))])]
 (.ite (aj kh (pi 0))
 (.ret (.tup [UT,(pi 4)]))
 (.chk (ao (pc o2 3) kh)
 (.call ⟨[],[(9,Nw)]⟩ [] 35 115 [(.mk [(pc Nw 0),(pc Nw 1),(pc Nw 2)])]
 (.ite (.pick (aR (.tget p8 1) (pi 0)) pT (aR (.tget p8 0) r6))
 (.ret (.tup [UT,(pi 11)]))
 (.ret (.tup [(.mk [(pc U0 0),(pc U0 1),(pc U0 2)]),(pi 0)])))))))))
def afz:JY.map told=some (Xl,[]):=by kernel_rfl
def az3:tree (ab JY)=Xl:=aO afz
def JZ:Option PC:=cF [3] [] Tryz.f114 114 [2]
def Xm:PT:=
 (.ret (peq gK (.deref r1)))
def afA:JZ.map told=some (Xm,[]):=by kernel_rfl
def az2:tree (ab JZ)=Xm:=aO afA
def BH:Option PC:=cF [4,5] [] Tryz.f113 113 []
def Qs:Nat->PC:=bn BH
def avi:PC:=.block 0 [4,8,9] [] (.loop [4,8] [] (b 0))
def Iu (b:Nat->PC):PT:=
 (.ite (aj r8 r7)
 (.blockS ⟨[],[]⟩ 1 [4,5,10,11,12,13,14,15,16] []
 (.chk (ao r0 r8)
 (.callc ⟨[(5,r8)],[]⟩ [] 16 r1 [(pn r0 r8)]
 (.ite fo
 (.ret r5)
 (.next ⟨[],[]⟩))))
 (.next ⟨[(8,sX)],[]⟩))
 (.exit 0 ⟨[(9,(aj r8 r7))],[]⟩))
def YU:PT:=
 (.brk ⟨[(8,(pi 0)),(7,(.llen r0)),(4,(pi 0))],[]⟩
(avi b)
 (.ret (pi (-1))))
def apZ:PT×List (Shp×PT):=(YU b,[(.lp 0 [4,8,9] [] [4,8] [],Iu b)])
def Uk:BH.map told=some (apZ (bx BH)):=by kernel_rfl
def aBR:tree (ab BH)=YU Qs:=bJ Uk
def V9:round 0 [4,8,9] [] [4,8] [] (Qs 0)=Iu Qs:=aZ Uk 0 λ_=>rfl
def K5:Option PC:=cF [2,3] [] Tryz.f115 115 [1]
def Zf:PT:=
 (.call ⟨[],[(1,(.mk [r0]))]⟩ [] 5 152 [z7,(pi 1)]
 (.ite (bq r5 (pi 60))
 (.ret (.tup [(pi 0),(pi 6)]))
 (.call ⟨[],[]⟩ [] 8 153 [NA]
 (.ret (.tup [(.tget r8 0),(.tget r8 1)])))))
def agI:K5.map told=some (Zf,[]):=by kernel_rfl
def aB1:tree (ab K5)=Zf:=aO agI
def yq:Option PC:=cF [4,5] [] Tryz.f152 152 [2,7,12295]
def Qz:Nat->PC:=bn yq
def avs:PC:=.block 0 [5,13,14] [] (.loop [5,13] [] (b 0))
def IA (b:Nat->PC):PT:=
 (.ite (aj dP bS)
 (.blockS ⟨[(14,(aj dP bS))],[]⟩ 1 [5,7,15,16,17,18,19,20,21,22,23,24] [7,12295]
 (.chk (ao bV dP)
 (.call ⟨[(17,r5)],[]⟩ [] 21 152 [(.mk [(pc (.setc lf 0 (pn bV dP)) 0),(pc (.setc lf 0 (pn bV dP)) 1),(pc (.setc lf 0 (pn bV dP)) 2)]),(aL r1 (pi 1))]
 (.ite (bq (aL iy jt) (pi 60))
 (.exit 0 ⟨[(5,(aL iy jt))],[]⟩)
 (.next ⟨[(5,(aL iy jt))],[]⟩))))
 (.next ⟨[(13,(aL dP (pi 1)))],[]⟩))
 (.exit 0 ⟨[(14,(aj dP bS))],[]⟩))
def O0:PT:=
 (.ite (bq r1 (pi 8))
 (.ret (pi 61))
 (.brk ⟨[(13,(pi 0)),(12,rF),(11,Ds),(5,(pi 1))],[]⟩
(avs b)
 (.ret r5)))
def ap8:PT×List (Shp×PT):=(O0 b,[(.lp 0 [5,13,14] [] [5,13] [],IA b)])
def Ur:yq.map told=some (ap8 (bx yq)):=by kernel_rfl
def ajt:tree (ab yq)=O0 Qz:=bJ Ur
def Wg:round 0 [5,13,14] [] [5,13] [] (Qz 0)=IA Qz:=aZ Ur 0 λ_=>rfl
def BO:Option PC:=cF [2,3,5,7,8,38,47,10,11,12] [] Tryz.f153 153 [1,4,6,12294,9]
def EC:Nat->PC:=bn BO
def avp:PC:=.block 0 [2,3,20,21] [4] (.loop [2,3,20] [4] (b 0))
def avq:PC:=.block 3 [2,3,10,82,83] [] (.loop [2,3,10,82] [] (b 1))
def Iy (b:Nat->PC):PT:=
 (.ite (aj eT gV)
 (.blockS ⟨[],[]⟩ 1 [2,3,5,6,7,8,22,23,24,25,26,27,28,29,30,31,33,34,35,36] [6,12294,4]
 (.chk (ao kg eT)
 (.call ⟨[(5,eT)],[]⟩ [] 27 153 [(.mk [(pc (.setc lf 0 (pn kg eT)) 0),(pc (.setc lf 0 (pn kg eT)) 1),(pc (.setc lf 0 (pn kg eT)) 2)])]
 (.ite (aR (.tget fM 1) (pi 0))
 (.ret (.tup [(pi 0),(.tget fM 1)]))
 (.chk (ao o4 r5)
 (.next ⟨[],[(4,(.setn o4 r5 0 (.tget fM 0)))]⟩)))))
 (.next ⟨[(20,(aL eT (pi 1)))],[]⟩))
 (.exit 0 ⟨[(21,(aj eT gV))],[]⟩))
def xx (b:Nat->PC):PT:=
 (.ite (aj mc rJ)
 (.chk (ao th mc)
 (.ite (.pick (peq (pn th mc) (pi (-1))) (peq bZ (pi (-1))) pF)
 (.chk (ao o4 mc)
 (.ite (aR (pn o4 mc) (.pick (peq (pn th mc) (pi (-1))) (pn o4 mc) (pn th mc)))
 (.ret (.tup [(pi 0),(pi 11)]))
 (.next ⟨[(10,(pn o4 mc)),(82,(aL mc (pi 1)))],[]⟩)))
 (.chk (ao o4 mc)
 (.ite (aR (pn o4 mc) (.pick (peq (pn th mc) (pi (-1))) bZ (pn th mc)))
 (.ret (.tup [(pi 0),(pi 11)]))
 (.next ⟨[(82,(aL mc (pi 1)))],[]⟩)))))
 (.exit 3 ⟨[(83,(aj mc rJ))],[]⟩))
def Zj:PT:=
 (.chk (.an (bY rF (pi 0)) (bB rF cM))
 (.chk (peq rF rF)
 (.brk ⟨[(20,(pi 0)),(19,rF),(18,Ds),(4,pN),(3,(pi 0)),(2,(pi 0))],[(4,(.rep rF (pi 0))),(1,(.mk [r0]))]⟩
(avp b)
 (.blockS ⟨[],[]⟩ 2 [2,3,38,39,40,41,42,46,47,48,49,50,51,55,56,60] []
 (.iteS ⟨[],[]⟩ (.pick (aj (pc o1 0) (pi 0)) pT (bq (pc o1 0) (pi 13))) [2,3,47,48,49,50,51,55,56,60] []
 (.ret (.tup [(pi 0),(pi 1)]))
 (.iteS ⟨[],[]⟩ (.pick (.pick (peq (pc o1 0) (pi 0)) pT (peq (pc o1 0) (pi 1))) pT (peq (pc o1 0) (pi 2))) [2,3] []
 (.call ⟨[],[]⟩ [] 62 174 [NA]
 (.ret (.tup [(.tget qd 0),(.tget qd 1)])))
 (.next ⟨[],[]⟩)
 (.next ⟨[],[]⟩))
 (.next ⟨[],[]⟩))
 (.call ⟨[],[]⟩ [] 67 175 [(pc o1 0)]
 (.ite (.pick (aR (.llen o4) (.llen (pc (.setc mJ 0 qe) 0))) pT (aR (pc o1 1) (pi 0)))
 (.ret (.tup [(pi 0),(pi 2)]))
 (.brk ⟨[(82,(pi 0)),(81,(.llen (pc (.setc mJ 0 qe) 0))),(80,(pc (.setc mJ 0 qe) 0)),(10,(pi (-1)))],[(9,(.setc mJ 0 qe))]⟩
(avq b)
 (.ite (peq (pc o9 1) (pi (-1)))
 (.ret (.tup [bZ,(pi 0)]))
 (.ret (.tup [(pc o9 1),(pi 0)]))))))))))
def ap6:PT×List (Shp×PT):=(Zj b,[(.lp 0 [2,3,20,21] [4] [2,3,20] [4],Iy b),(.lp 3 [2,3,10,82,83] [] [2,3,10,82] [],xx b)])
def Na:BO.map told=some (ap6 (bx BO)):=by kernel_rfl
def aB5:tree (ab BO)=Zj EC:=bJ Na
def We:round 0 [2,3,20,21] [4] [2,3,20] [4] (EC 0)=Iy EC:=aZ Na 0 λ_=>rfl
def DI:round 3 [2,3,10,82,83] [] [2,3,10,82] [] (EC 1)=xx EC:=aZ Na 1 λ_=>rfl
def K7:Option PC:=cF [2,3,12,20,4,5] [] Tryz.f174 174 [1]
def Zm:PT:=
 (.ite (bq rF (pi 0))
 (.ret (.tup [(pi 0),(pi 2)]))
 (.blockS ⟨[(11,gK)],[(1,(.mk [r0]))]⟩ 0 [2,3,12,13,20,21] []
 (.iteS ⟨[],[]⟩ (peq bV (pi 0)) [2,3,20,21] []
 (.call ⟨[],[]⟩ [] 16 178 [(pc o1 1)]
 (.ite (aR fo (pc o1 1))
 (.ret (.tup [(pi 0),(pi 3)]))
 (.ret (.tup [(pi 0),(pi 0)]))))
 (.ite (peq bV (pi 1))
 (.ite (.pick (aj (pc o1 1) (pi 0)) pT (bq (pc o1 1) (pi 1)))
 (.ret (.tup [(pi 0),(pi 3)]))
 (.ret (.tup [(pi 1),(pi 0)])))
 (.next ⟨[],[]⟩))
 (.next ⟨[],[]⟩))
 (.call ⟨[],[]⟩ [] 33 176 [(pc o1 1)]
 (.ite (.nt (.tget oH 1))
 (.ret (.tup [(pi 0),(pi 10)]))
 (.ret (.tup [(.tget oH 0),(pi 0)]))))))
def agO:K7.map told=some (Zm,[]):=by kernel_rfl
def aB8:tree (ab K7)=Zm:=aO agO
def EW:Option PC:=gf {eD with fr:=[2],nh:=[]} Tryz.f178 ((bk fa 178).getD default) []
def Zl:PT:=
 (.ret (.mn (.mx r0 (pi (-1099511627776))) (pi 1099511627776)))
def agN:EW.map told=some (Zl,[]):=by kernel_rfl
def aB7:tree (ab EW)=Zl:=aO agN
end Rm
