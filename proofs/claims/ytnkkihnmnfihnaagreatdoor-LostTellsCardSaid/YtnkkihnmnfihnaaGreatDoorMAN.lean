import Derived.Test.YtnkkihnmnfihnaaGreatDoorMAK
import Derived.KernelRfl
set_option maxRecDepth 100000
noncomputable section
set_option linter.all false
namespace Rm
open Go Go.Proofs Cx
def AN:Option PC:=cF [2,3,5,6] [] Tryz.f42 42 [1,4,44]
def Ea:Nat->PC:=bk AN
variable(b:Nat->PC)
def asz:PC:=.block 0 [2,3,11,12,13,14,15] [] (.loop [2,3] [] (b 0))
def asA:PC:=.block 2 [2,4,5,30,31,32,33,34] [4] (.loop [2,4,5] [4] (b 1))
def G7 (b:Nat->PC):PT:=
 (.ite (af r3 oX)
 (.blockS ⟨[],[]⟩ 1 [2,18,19,20,21,22,23,24,25] []
 (.chk (aj (pc o1 2) r3)
 (.call ⟨[],[]⟩ [] 24 63 [(pc (pn (pc o1 2) r3) 0),(pi 0),(pi 9)]
 (.ite (.nt oY)
 (.ret (pi 1))
 (.next ⟨[],[]⟩))))
 (.next ⟨[(3,xc)],[]⟩))
 (.exit 0 ⟨[(11,r3),(12,pN),(13,(pc o1 2)),(14,oX),(15,(af r3 oX))],[]⟩))
def G8 (b:Nat->PC):PT:=
 (.ite (af r5 oW)
 (.blockS ⟨[],[]⟩ 3 [2,4,6,38,39,40,41,42,43,44,45,46,47,48,49,50,52,53,54,55,56,57,58,59,60,61,62,63,64,77] [44,4]
 (.chk (aj (pc o1 3) r5)
 (.chk (bl (.llen Up) cj)
 (.call ⟨[(4,pN)],[(4,Up)]⟩ [] 48 70 [Up,r5]
 (.ite (aH nS (pi 0))
 (.ret nS)
 (.chk (aj (pc o1 3) r5)
 (.call ⟨[],[]⟩ [] 62 63 [(pc (pn (pc o1 3) r5) 1),(pi 0),(be mU (pi 1))]
 (.chk (.nt (.an (.an (.nt (.nt m6)) pT) (.nt (aj (pc o1 3) r5))))
 (.call ⟨[(64,(.nt m6))],[]⟩ [(64,false)] 75 63 [(pc (pn (pc o1 3) r5) 2),(pi 0),(be oX (pi 1))]
 (.ite (.pick kW pT (.nt M3))
 (.ret (pi 1))
 (.next ⟨[],[]⟩))))))))))
 (.next ⟨[(5,qo)],[]⟩))
 (.exit 2 ⟨[(30,r5),(31,pN),(32,(pc o1 3)),(33,oW),(34,(af r5 oW))],[]⟩))
def Xd:PT:=
 (.ite (aR rH (pi 20))
 (.ret (pi 6))
 (.brk ⟨[(3,(pi 0)),(2,(pi 0))],[(1,(.mk [r0]))]⟩
(asz b)
 (.ite (aR oW (pi 200))
 (.ret (pi 6))
 (.brk ⟨[(5,(pi 0)),(4,pN)],[(4,pL)]⟩
(asA b)
 (.ret (pi 0))))))
def anm:PT×List (Shp×PT):=(Xd b,[(.lp 0 [2,3,11,12,13,14,15] [] [2,3] [],G7 b),(.lp 2 [2,4,5,30,31,32,33,34] [4] [2,4,5] [4],G8 b)])
def Mo:AN.map told=some (anm (bf AN)):=by kernel_rfl
def ayW:tree (ae AN)=Xd Ea:=bA Mo
def U8:round 0 [2,3,11,12,13,14,15] [] [2,3] [] (Ea 0)=G7 Ea:=aT Mo 0 λ_=>rfl
def U9:round 2 [2,4,5,30,31,32,33,34] [4] [2,4,5] [4] (Ea 1)=G8 Ea:=aT Mo 1 λ_=>rfl
def AO:Option PC:=cF [2,4,5] [] Tryz.f43 43 [1,3,24]
def Pj:Nat->PC:=bk AO
def asB:PC:=.block 0 [2,3,4,10,11,12,13,14] [3] (.loop [2,3,4] [3] (b 0))
def G9 (b:Nat->PC):PT:=
 (.ite (af r4 qn)
 (.blockS ⟨[],[]⟩ 1 [2,3,5,18,19,20,21,22,23,24,25,26,27,28,29,30,32,33,34,35,36,37,38] [24,3]
 (.chk (aj (pc o1 4) r4)
 (.chk (bl (.llen (.app o3 (.lst [(pc zG 0)]))) cj)
 (.call ⟨[(3,pN)],[(3,(.app o3 (.lst [(pc zG 0)])))]⟩ [] 28 70 [(.app o3 (.lst [(pc zG 0)])),r4]
 (.ite (aH qq (pi 0))
 (.ret qq)
 (.chk (aj (pc o1 4) r4)
 (.call ⟨[],[]⟩ [] 37 72 [zG]
 (.ite (.nt iw)
 (.ret (pi 1))
 (.next ⟨[],[]⟩))))))))
 (.next ⟨[(4,(bt r4 (pi 1)))],[]⟩))
 (.exit 0 ⟨[(10,r4),(11,pN),(12,(pc o1 4)),(13,qn),(14,(af r4 qn))],[]⟩))
def Xf:PT:=
 (.ite (aR (.llen (pc (.mk [r0]) 4)) (pi 20))
 (.ret (pi 6))
 (.brk ⟨[(4,(pi 0)),(3,pN),(2,(pi 0))],[(3,pL),(1,(.mk [r0]))]⟩
(asB b)
 (.ret (pi 0))))
def ann:PT×List (Shp×PT):=(Xf b,[(.lp 0 [2,3,4,10,11,12,13,14] [3] [2,3,4] [3],G9 b)])
def Tf:AO.map told=some (ann (bf AO)):=by kernel_rfl
def ayY:tree (ae AO)=Xf Pj:=bA Tf
def Va:round 0 [2,3,4,10,11,12,13,14] [3] [2,3,4] [3] (Pj 0)=G9 Pj:=aT Tf 0 λ_=>rfl
def AJ:Option PC:=cF [2,3,4] [] Tryz.f72 72 [1]
def D8:Nat->PC:=bk AJ
def ast:PC:=.block 0 [2,3,5,6,7,8,9] [] (.loop [2,3] [] (b 0))
def asu:PC:=.block 2 [2,4,48,49,50,51,52] [] (.loop [2,4] [] (b 1))
def G1 (b:Nat->PC):PT:=
 (.ite (af r3 oX)
 (.blockS ⟨[],[]⟩ 1 [2,12,13,14,15,16,17,18,19,20,29,30,31,32,47] []
 (.chk (aj (pc o1 2) r3)
 (.call ⟨[],[]⟩ [] 18 63 [(pc (pn (pc o1 2) r3) 0),(pi 0),(pi 21)]
 (.chk (.nt (.an (.an (.nt (.nt ju)) pT) (.nt (aj (pc o1 2) r3))))
 (.call ⟨[(20,(.nt ju))],[]⟩ [(20,false)] 27 63 [(pc (pn (pc o1 2) r3) 1),(pi 0),(pi 4)]
 (.ite (.pick eD pT (.nt gd))
 (.ret pF)
 (.chk (.nt (.an (.an (aR r3 (pi 0)) pT) (.nt (aj (pc o1 2) (be r3 (pi 1))))))
 (.chk (.nt (.an (.an (aR r3 (pi 0)) pT) (.nt (aj (pc o1 2) r3))))
 (.ite (.pick (aR r3 (pi 0)) (bP (pc (pn (pc o1 2) (be r3 (pi 1))) 0) (pc (pn (pc o1 2) r3) 0)) pF)
 (.ret pF)
 (.next ⟨[],[]⟩)))))))))
 (.next ⟨[(3,xc)],[]⟩))
 (.exit 0 ⟨[(5,r3),(6,pN),(7,(pc o1 2)),(8,oX),(9,(af r3 oX))],[]⟩))
def G2 (b:Nat->PC):PT:=
 (.ite (af r4 oW)
 (.blockS ⟨[],[]⟩ 3 [2,55,56,57,58,59,60,61,62,63,64,65,80] []
 (.chk (aj (pc o1 3) r4)
 (.call ⟨[],[]⟩ [] 61 63 [(pc (pn (pc o1 3) r4) 0),(pi 0),(pi 21)]
 (.ite (.nt pg)
 (.ret pF)
 (.chk (.nt (.an (.an (aR r4 (pi 0)) pT) (.nt (aj (pc o1 3) (be r4 (pi 1))))))
 (.chk (.nt (.an (.an (aR r4 (pi 0)) pT) (.nt (aj (pc o1 3) r4))))
 (.ite (.pick (aR r4 (pi 0)) (bP (pc (pn (pc o1 3) (be r4 (pi 1))) 0) (pc (pn (pc o1 3) r4) 0)) pF)
 (.ret pF)
 (.next ⟨[],[]⟩)))))))
 (.next ⟨[(4,(bt r4 (pi 1)))],[]⟩))
 (.exit 2 ⟨[(48,r4),(49,pN),(50,(pc o1 3)),(51,oW),(52,(af r4 oW))],[]⟩))
def W8:PT:=
 (.brk ⟨[(3,(pi 0)),(2,pF)],[(1,(.mk [r0]))]⟩
(ast b)
 (.brk ⟨[(4,(pi 0))],[]⟩
(asu b)
 (.ret pT)))
def ani:PT×List (Shp×PT):=(W8 b,[(.lp 0 [2,3,5,6,7,8,9] [] [2,3] [],G1 b),(.lp 2 [2,4,48,49,50,51,52] [] [2,4] [],G2 b)])
def Mm:AJ.map told=some (ani (bf AJ)):=by kernel_rfl
def ayR:tree (ae AJ)=W8 D8:=bA Mm
def U2:round 0 [2,3,5,6,7,8,9] [] [2,3] [] (D8 0)=G1 D8:=aT Mm 0 λ_=>rfl
def U3:round 2 [2,4,48,49,50,51,52] [] [2,4] [] (D8 1)=G2 D8:=aT Mm 1 λ_=>rfl
def AQ:Option PC:=cF [2,3,5] [] Tryz.f44 44 [1,4]
def Ec:Nat->PC:=bk AQ
def asE:PC:=.block 2 [2,5,46,47,48] [] (.loop [2,5] [] (b 0))
def asF:PC:=.block 0 [2,3,10,11,12,13,14] [] (.loop [2,3] [] (b 1))
def Dk (b:Nat->PC):PT:=
 (.ite (af r5 r3)
 (.chk (aj (pc o1 5) r5)
 (.chk (.nt (.an (.an (ab (pc (pn (pc o1 5) r5) 0) (pc o4 0)) pT) (.nt (aj (pc o1 5) r5))))
 (.ite (.pick (ab (pc (pn (pc o1 5) r5) 0) (pc o4 0)) (ab (pc (pn (pc o1 5) r5) 1) (pc o4 1)) pF)
 (.ret (pi 5))
 (.next ⟨[(5,qo)],[]⟩))))
 (.exit 2 ⟨[(46,r5),(47,r3),(48,(af r5 r3))],[]⟩))
def Hc:PT:=
 (.ite (af r3 (.llen (pc o1 5)))
 (.blockS ⟨[(14,(af r3 (.llen (pc o1 5)))),(13,(.llen (pc o1 5))),(12,(pc o1 5)),(11,pN),(10,r3)],[]⟩ 1 [2,4,5,17,18,19,20,21,22,23,24,25,26,27,28,29,30,39,40,45,46,47,48] [4]
 (.chk (aj (pc o1 5) r3)
 (.call ⟨[],[(4,(.setc z3 0 (pn (pc o1 5) r3)))]⟩ [] 28 63 [(pc (.setc z3 0 (pn (pc o1 5) r3)) 0),(pi 0),(be mU (pi 1))]
 (.call ⟨[(30,(.nt qq))],[]⟩ [(30,false)] 37 63 [(pc o4 1),(pi 0),(be mU (pi 1))]
 (.call ⟨[(40,(.pick m0 pT (.nt iw)))],[]⟩ [(40,false)] 43 63 [(pc o4 2),(pi 1),(pi 20000)]
 (.ite (.pick m3 pT (.nt vq))
 (.ret (pi 1))
 (.brk ⟨[(5,(pi 0))],[]⟩
(asE b)
 (.next ⟨[],[]⟩)))))))
 (.next ⟨[(3,xc)],[]⟩))
 (.exit 0 ⟨[(10,r3),(11,pN),(12,(pc o1 5)),(13,(.llen (pc o1 5))),(14,(af r3 (.llen (pc o1 5))))],[]⟩))
def Xh:PT:=
 (.ite (aR (.llen (pc (.mk [r0]) 5)) (pi 100))
 (.ret (pi 6))
 (.brk ⟨[(3,(pi 0)),(2,(pi 0))],[(1,(.mk [r0]))]⟩
(asF b)
 (.ret (pi 0))))
def anp:PT×List (Shp×PT):=(Xh b,[(.lp 2 [2,5,46,47,48] [] [2,5] [],Dk b),(.lp 0 [2,3,10,11,12,13,14] [] [2,3] [],Hc b)])
def Mq:AQ.map told=some (anp (bf AQ)):=by kernel_rfl
def ay0:tree (ae AQ)=Xh Ec:=bA Mq
def Nf:round 2 [2,5,46,47,48] [] [2,5] [] (Ec 0)=Dk Ec:=aT Mq 0 λ_=>rfl
def Vd:round 0 [2,3,10,11,12,13,14] [] [2,3] [] (Ec 1)=Hc Ec:=aT Mq 1 λ_=>rfl
def AP:Option PC:=cF [2,3,5] [] Tryz.f45 45 [1,4,6]
def Eb:Nat->PC:=bk AP
def asC:PC:=.block 0 [2,3,11,12,13,14,15] [] (.loop [2,3] [] (b 0))
def asD:PC:=.block 2 [2,5,68,69,70,71,72] [] (.loop [2,5] [] (b 1))
def Ha (b:Nat->PC):PT:=
 (.ite (af r3 (.llen (pc o1 6)))
 (.blockS ⟨[],[]⟩ 1 [2,4,18,19,20,21,22,23,24,25,26,27,28,29,30,31,40,41,47,48,49,50,51,52,57,58,63] [4]
 (.chk (aj (pc o1 6) r3)
 (.call ⟨[],[(4,(.setc z5 0 (pn (pc o1 6) r3)))]⟩ [] 29 63 [(pc (.setc z5 0 (pn (pc o1 6) r3)) 0),(pi 0),(be w9 (pi 1))]
 (.call ⟨[(31,(.nt lI))],[]⟩ [(31,false)] 38 63 [(pc o4 1),(pi 0),(be w9 (pi 1))]
 (.ite (.pick (.pick rM pT (.nt fi)) pT (ab (pc o4 0) (pc o4 1)))
 (.ret (pi 1))
 (.call ⟨[],[]⟩ [] 50 63 [(pc o4 2),(pi 1),(pi 1073741824)]
 (.call ⟨[(52,(.nt m4))],[]⟩ [(52,false)] 55 63 [(pc o4 3),(pi 1),(pi 1073741824)]
 (.call ⟨[(58,(.pick Da pT (.nt zR)))],[]⟩ [(58,false)] 61 63 [(pc o4 4),(pi 0),(pi 100000)]
 (.ite (.pick GR pT (.nt pg))
 (.ret (pi 1))
 (.next ⟨[],[]⟩)))))))))
 (.next ⟨[(3,xc)],[]⟩))
 (.exit 0 ⟨[(11,r3),(12,pN),(13,(pc o1 6)),(14,(.llen (pc o1 6))),(15,(af r3 (.llen (pc o1 6))))],[]⟩))
def Hb (b:Nat->PC):PT:=
 (.ite (af r5 zI)
 (.blockS ⟨[],[]⟩ 3 [2,6,75,76,77,78,79,80,81,82,83,84,85,86,87,88,95,96,100] [6]
 (.chk (aj (pc o1 7) r5)
 (.call ⟨[],[(6,(.setc z3 0 (pn (pc o1 7) r5)))]⟩ [] 86 63 [(pc (.setc z3 0 (pn (pc o1 7) r5)) 0),(pi 0),(be qn (pi 1))]
 (.call ⟨[(88,(.nt UO))],[]⟩ [(88,false)] 93 63 [(pc o6 1),(pi 0),(pc o6 2)]
 (.ite (.pick (.pick De pT (.nt M5)) pT (aR (pc o6 2) (pi 100000)))
 (.ret (pi 1))
 (.next ⟨[],[]⟩)))))
 (.next ⟨[(5,qo)],[]⟩))
 (.exit 2 ⟨[(68,r5),(69,pN),(70,(pc o1 7)),(71,zI),(72,(af r5 zI))],[]⟩))
def Xg:PT:=
 (.ite (aR (.llen (pc (.mk [r0]) 6)) (pi 100))
 (.ret (pi 6))
 (.brk ⟨[(3,(pi 0)),(2,(pi 0))],[(1,(.mk [r0]))]⟩
(asC b)
 (.ite (aR zI (pi 20))
 (.ret (pi 6))
 (.brk ⟨[(5,(pi 0))],[]⟩
(asD b)
 (.ret (pi 0))))))
def ano:PT×List (Shp×PT):=(Xg b,[(.lp 0 [2,3,11,12,13,14,15] [] [2,3] [],Ha b),(.lp 2 [2,5,68,69,70,71,72] [] [2,5] [],Hb b)])
def Mp:AP.map told=some (ano (bf AP)):=by kernel_rfl
def ayZ:tree (ae AP)=Xg Eb:=bA Mp
def Vb:round 0 [2,3,11,12,13,14,15] [] [2,3] [] (Eb 0)=Ha Eb:=aT Mp 0 λ_=>rfl
def Vc:round 2 [2,5,68,69,70,71,72] [] [2,5] [] (Eb 1)=Hb Eb:=aT Mp 1 λ_=>rfl
def Ba:Option PC:=cF [11,12,14,15,2000037,1000013] [] Tryz.f7 7 [5,7,8,10,65546,69642,73738,77834,13,65549,69645,73741,77837,75]
def PA:Nat->PC:=bk Ba
def as6:PC:=.block 0 [15,43,44,45,46] [13,73741] (.loop [15] [13,73741] (b 0))
def Nu (b:Nat->PC):PT:=
 (.ite (af fh (.llen bU))
 (.blockS ⟨[],[]⟩ 1 [49,50,51,52,53,54,55] [73741,13]
 (.chk (aj bU fh)
 (.call ⟨[],[]⟩ [] 54 23 [bG,(pn bU fh)]
 (.ite (.nt rO)
 (.chk (aj bU fh)
 (.chk (aj (pc o5 3) (pc o8 2))
 (.chk (bl (.llen ag0) cj)
 (.next ⟨[],[(73741,ag0),(13,(.setc gT 17 pN))]⟩))))
 (.next ⟨[],[]⟩))))
 (.next ⟨[(15,(bt fh (pi 1)))],[]⟩))
 (.exit 0 ⟨[(43,fh),(44,bU),(45,(.llen bU)),(46,(af fh (.llen bU)))],[]⟩))
def XZ:PT:=
 (.call ⟨[],[(10,mf),(8,(.mk [r3])),(7,(.mk [r2])),(5,(.mk [r0]))]⟩ [] 21 11 [fN,r1,(au 19 (.mk [r2])),(au 6 (.mk [r3])),r4]
 (.ite (.pick (aH mY (pi 1)) pT (aR r4 (pi 100000)))
 (.ret (.tup [MV,(pi 7)]))
 (.call ⟨[],[]⟩ [] 33 20 [(au 19 o7),(pc o8 1),(pc o8 3)]
 (.call ⟨[(12,(pc vn 0))],[]⟩ [] 37 21 [(au 19 o7),r4]
 (.call ⟨[],[(77837,(pc iw 18)),(73741,(pc iw 17)),(69645,(pc iw 16)),(65549,(pc iw 15)),(13,ml)]⟩ [] 42 22 [(.mk [(pc ml 0),(pc ml 1),(pc ml 2),(pc ml 3),(pc ml 4),(pc ml 5),(pc ml 6),(pc ml 7),(pc ml 8),(pc ml 9),(pc ml 10),(pc ml 11),(pc ml 12),(pc ml 13),(pc ml 14),(pc iw 15),(pc iw 16),(pc iw 17),(pc iw 18)]),(pc o8 1),r4]
 (.brk ⟨[(15,(pi 0)),(14,oZ)],[]⟩
(as6 b)
 (.ite (aR (.llen (.o 73741)) (pi 100))
 (.ret (.tup [MV,(pi 6)]))
 (.ret (.tup [(.mk [(pc mT 0),(pc mT 1),(pc mT 2),(pc mT 3),(pc mT 4),(pc mT 5),(pc mT 6),(pc mT 7),(pc mT 8),(pc mT 9),(pc mT 10),(pc mT 11),(pc mT 12),(pc mT 13),(pc mT 14),(.o 65549),(.o 69645),(.o 73741),(.o 77837)]),(pi 0)])))))))))
def anL:PT×List (Shp×PT):=(XZ b,[(.lp 0 [15,43,44,45,46] [13,73741] [15] [13,73741],Nu b)])
def Tz:Ba.map told=some (anL (bf Ba)):=by kernel_rfl
def azX:tree (ae Ba)=XZ PA:=bA Tz
def ahP:round 0 [15,43,44,45,46] [13,73741] [15] [13,73741] (PA 0)=Nu PA:=aT Tz 0 λ_=>rfl
def Bc:Option PC:=cF [10,11,12,14] [] Tryz.f11 11 [5,7,8,13]
def PD:Nat->PC:=bk Bc
def as8:PC:=.block 0 [10,14,54,55,56,57,58] [] (.loop [10,14] [] (b 0))
def Hr (b:Nat->PC):PT:=
 (.ite (af bU (.llen (pc o8 5)))
 (.chk (aj (pc o8 5) bU)
 (.chk (.nt (.an (.an (pc (pn (pc o8 5) bU) 2) pT) (.nt (aj (pc o8 5) bU))))
 (.ite (.pick (pc (pn (pc o8 5) bU) 2) (bl (pc (pn (pc o8 5) bU) 1) (.mn bK r4)) pF)
 (.ret (pi 0))
 (.next ⟨[(14,(bt bU (pi 1)))],[]⟩))))
 (.exit 0 ⟨[(54,bU),(55,pN),(56,(pc o8 5)),(57,(.llen (pc o8 5))),(58,(af bU (.llen (pc o8 5))))],[]⟩))
def X2:PT:=
 (.call ⟨[(10,(pi 0))],[(8,(.mk [r3])),(7,(.mk [r2])),(5,(.mk [r0]))]⟩ [] 18 9 [fN,(au 19 (.mk [r2])),(au 6 (.mk [r3]))]
 (.ite (aH ju (pi 0))
 (.ret (pi 0))
 (.call ⟨[],[]⟩ [] 25 37 [(au 8 o5),r1,(au 19 o7),(au 6 o8)]
 (.call ⟨[(12,(.tget eM 1)),(11,(.tget eM 0))],[]⟩ [] 33 20 [(au 19 o7),(pc o8 1),(pc o8 3)]
 (.ite (.pick (.pick (.pick (af r4 (pc o8 3)) pT (.nt bG)) pT (aH (pc (.setc xd 0 vn) 1) (pc o8 2))) pT (aH (pc (.setc xd 0 vn) 2) (pi (-1))))
 (.ret (pi 0))
 (.brk ⟨[(14,(pi 0))],[]⟩
(as8 b)
 (.ite (bl r4 bK)
 (.ret (pi 2))
 (.ret (pi 1)))))))))
def anN:PT×List (Shp×PT):=(X2 b,[(.lp 0 [10,14,54,55,56,57,58] [] [10,14] [],Hr b)])
def TB:Bc.map told=some (anN (bf Bc)):=by kernel_rfl
def az0:tree (ae Bc)=X2 PD:=bA TB
def Vt:round 0 [10,14,54,55,56,57,58] [] [10,14] [] (PD 0)=Hr PD:=aT TB 0 λ_=>rfl
def Bb:Option PC:=cF [6,7,8,9,10] [] Tryz.f9 9 [3,4,5,11]
def PB:Nat->PC:=bk Bb
def as7:PC:=.block 0 [6,8,9,10,59,60,61,62,63] [] (.loop [6,8,9,10] [] (b 0))
def Hq (b:Nat->PC):PT:=
 (.ite (af bI (.llen (pc o5 5)))
 (.chk (aj (pc o5 5) bI)
 (.ite (.pick (af (pc MO 0) (pi 0)) pT (bP (pc MO 0) (.llen (pc o3 3))))
 (.ret (pi 1))
 (.next ⟨[(8,(.mx r8 (pc MO 1))),(9,(.pick r9 (bP (pc MO 1) r8) pF)),(10,(bt bI (pi 1)))],[]⟩)))
 (.exit 0 ⟨[(59,bI),(60,pN),(61,(pc o5 5)),(62,(.llen (pc o5 5))),(63,(af bI (.llen (pc o5 5))))],[]⟩))
def X0:PT:=
 (.call ⟨[(6,(pi 0))],[(5,(.mk [r2])),(4,(.mk [r1])),(3,(.mk [r0]))]⟩ [] 14 34 [fN,(au 19 (.mk [r1]))]
 (.ite (aH bU (pi 0))
 (.ret bU)
 (.ite (.pick (af (pc o5 1) (pi 0)) pT (bP (pc o5 1) (pc o4 14)))
 (.ret (pi 15))
 (.ite (.pick (af (pc o5 2) (pi 0)) pT (bP (pc o5 2) (.llen (pc o3 3))))
 (.ret (pi 1))
 (.ite (aR (.llen (pc o5 5)) (pi 20))
 (.ret (pi 6))
 (.brk ⟨[(10,(pi 0)),(9,(.pick (bP (pc o5 3) (pc o4 8)) (bP (pc o5 4) (pc o5 3)) pF)),(8,(pc o5 4))],[]⟩
(as7 b)
 (.ite (.pick (.nt r9) pT (aR r8 (pi 100000)))
 (.ret (pi 13))
 (.ret (pi 0)))))))))
def anM:PT×List (Shp×PT):=(X0 b,[(.lp 0 [6,8,9,10,59,60,61,62,63] [] [6,8,9,10] [],Hq b)])
def TA:Bb.map told=some (anM (bf Bb)):=by kernel_rfl
def azY:tree (ae Bb)=X0 PB:=bA TA
def Vs:round 0 [6,8,9,10,59,60,61,62,63] [] [6,8,9,10] [] (PB 0)=Hq PB:=aT TA 0 λ_=>rfl
def AR:Option PC:=cF [4,5,6,7,8,9,10] [] Tryz.f34 34 [2,3]
def tW:Nat->PC:=bk AR
def asG:PC:=.block 0 [5,6,45,46,47,48,49,50,53] [] (.loop [5,6] [] (b 0))
def asH:PC:=.block 2 [5,7,60,61,62,63,64,65,68] [] (.loop [5,7] [] (b 1))
def asI:PC:=.block 4 [5,9,101,102,103,104,105,106,109] [] (.loop [5,9] [] (b 2))
def asJ:PC:=.block 6 [5,10,116,117,118,119,120,121,124] [] (.loop [5,10] [] (b 3))
def Ng (b:Nat->PC):PT:=
 (.ite (.pick (af r6 nP) vb pF)
 (.blockS ⟨[],[]⟩ 1 [5,56,57,58,59] []
 (.call ⟨[],[]⟩ [] 59 62 [(au 8 o2),(au 19 o3),r6]
 (.next ⟨[(5,rQ)],[]⟩))
 (.next ⟨[(6,(bt r6 (pi 1)))],[]⟩))
 (.exit 0 ⟨[(45,r6),(46,pN),(47,(pc o3 15)),(48,nP),(49,(af r6 nP)),(50,(af r6 nP)),(53,(.pick (af r6 nP) vb pF))],[]⟩))
def Nh (b:Nat->PC):PT:=
 (.ite (.pick (af r7 C3) vb pF)
 (.blockS ⟨[],[]⟩ 3 [5,8,71,72,81,82,83,84,85,86,87,88,89,90,91,92] []
 (.ite (aR r7 (pi 0))
 (.chk (aj (pc o3 16) (be r7 (pi 1)))
 (.chk (aj (pc o3 16) r7)
 (.call ⟨[],[]⟩ [] 91 63 [(pc (pn (pc o3 16) r7) 0),(bt (pc (pn (pc o3 16) (be r7 (pi 1))) 0) (pi 1)),nP]
 (.iteS ⟨[],[]⟩ (.nt Df) [5] []
 (.next ⟨[(5,(pi 1))],[]⟩)
 (.chk (aj (pc o3 16) r7)
 (.call ⟨[],[]⟩ [] 99 63 [(pc (pn (pc o3 16) r7) 1),(pi 1),lF]
 (.next ⟨[(5,(.pick (.nt M6) (pi 3) r5))],[]⟩)))
 (.next ⟨[],[]⟩)))))
 (.chk (aj (pc o3 16) r7)
 (.call ⟨[],[]⟩ [] 91 63 [(pc (pn (pc o3 16) r7) 0),(pi 1),nP]
 (.iteS ⟨[],[]⟩ (.nt Df) [5] []
 (.next ⟨[(5,(pi 1))],[]⟩)
 (.chk (aj (pc o3 16) r7)
 (.call ⟨[],[]⟩ [] 99 63 [(pc (pn (pc o3 16) r7) 1),(pi 1),lF]
 (.next ⟨[(5,(.pick (.nt M6) (pi 3) r5))],[]⟩)))
 (.next ⟨[],[]⟩)))))
 (.next ⟨[(7,xb)],[]⟩))
 (.exit 2 ⟨[(60,r7),(61,pN),(62,(pc o3 16)),(63,C3),(64,(af r7 C3)),(65,(af r7 C3)),(68,(.pick (af r7 C3) vb pF))],[]⟩))
def Ni (b:Nat->PC):PT:=
 (.ite (.pick (af r9 rJ) vb pF)
 (.blockS ⟨[],[]⟩ 5 [5,112,113,114,115] []
 (.call ⟨[],[]⟩ [] 115 64 [(au 8 o2),(au 19 o3),r9]
 (.next ⟨[(5,avV)],[]⟩))
 (.next ⟨[(9,(bt r9 (pi 1)))],[]⟩))
 (.exit 4 ⟨[(101,r9),(102,pN),(103,(pc o3 17)),(104,rJ),(105,(af r9 rJ)),(106,(af r9 rJ)),(109,(.pick (af r9 rJ) vb pF))],[]⟩))
def Nj (b:Nat->PC):PT:=
 (.ite (.pick (af bI w8) vb pF)
 (.blockS ⟨[],[]⟩ 7 [5,127,128,129] []
 (.call ⟨[],[]⟩ [] 129 65 [(au 19 o3),bI]
 (.next ⟨[(5,avX)],[]⟩))
 (.next ⟨[(10,(bt bI (pi 1)))],[]⟩))
 (.exit 6 ⟨[(116,bI),(117,pN),(118,(pc o3 18)),(119,w8),(120,(af bI w8)),(121,(af bI w8)),(124,(.pick (af bI w8) vb pF))],[]⟩))
def Xm:PT:=
 (.ite agU
 (.ret (pi 6))
 (.call ⟨[],[(3,(.mk [r1])),(2,(.mk [r0]))]⟩ [] 36 61 [fN,kq]
 (.brk ⟨[(6,(pi 0)),(5,(.pick (.pick (ab nR (pi 0)) (ab nP (pi 0)) pF) (pi 14) nR))],[]⟩
(asG b)
 (.brk ⟨[(7,(pi 0))],[]⟩
(asH b)
 (.brk ⟨[(9,(pi 0))],[]⟩
(asI b)
 (.brk ⟨[(10,(pi 0))],[]⟩
(asJ b)
 (.ret r5)))))))
def anq:PT×List (Shp×PT):=(Xm b,[(.lp 0 [5,6,45,46,47,48,49,50,53] [] [5,6] [],Ng b),(.lp 2 [5,7,60,61,62,63,64,65,68] [] [5,7] [],Nh b),(.lp 4 [5,9,101,102,103,104,105,106,109] [] [5,9] [],Ni b),(.lp 6 [5,10,116,117,118,119,120,121,124] [] [5,10] [],Nj b)])
def CA:AR.map told=some (anq (bf AR)):=by kernel_rfl
def ay6:tree (ae AR)=Xm tW:=bA CA
def ahE:round 0 [5,6,45,46,47,48,49,50,53] [] [5,6] [] (tW 0)=Ng tW:=aT CA 0 λ_=>rfl
def ahF:round 2 [5,7,60,61,62,63,64,65,68] [] [5,7] [] (tW 1)=Nh tW:=aT CA 1 λ_=>rfl
def ahG:round 4 [5,9,101,102,103,104,105,106,109] [] [5,9] [] (tW 2)=Ni tW:=aT CA 2 λ_=>rfl
def ahH:round 6 [5,10,116,117,118,119,120,121,124] [] [5,10] [] (tW 3)=Nj tW:=aT CA 3 λ_=>rfl
def Jm:Option PC:=cF [4,5,6,7,8,9] [] Tryz.f61 61 [2,3]
def Xi:PT:=
 (.call ⟨[],[(3,(.mk [r1])),(2,(.mk [r0]))]⟩ [] 11 15 [fN]
 (.ite (aH bK (pi 0))
 (.ret bK)
 (.call ⟨[(7,(.llen (pc o2 1))),(6,zH)],[]⟩ [] 24 82 [(pc o3 0),zH]
 (.call ⟨[(26,(.nt oY))],[]⟩ [(26,false)] 30 82 [(pc o3 1),r6]
 (.call ⟨[(33,(.pick kU pT (.nt m0)))],[]⟩ [(33,false)] 37 83 [(pc o3 2),r6]
 (.call ⟨[(40,(.pick vn pT (.nt iw)))],[]⟩ [(40,false)] 44 83 [(pc o3 11),r6]
 (.call ⟨[(47,(.pick m3 pT (.nt zQ)))],[]⟩ [(47,false)] 53 82 [(pc o3 4),(.llen (pc o2 0))]
 (.call ⟨[(56,(.pick M1 pT (.nt M2)))],[]⟩ [(56,false)] 60 82 [(pc o3 9),r7]
 (.call ⟨[(63,(.pick rP pT (.nt qs)))],[]⟩ [(63,false)] 67 82 [(pc o3 10),r7]
 (.ite (.pick zS pT (.nt qt))
 (.ret (pi 1))
 (.call ⟨[(78,(.pick (af (pc o3 3) (pi 1)) pT (aR (pc o3 3) lF)))],[]⟩ [(78,false)] 81 84 [(pc o3 8)]
 (.ite (.pick (.pick (.pick UM pT (.nt xj)) pT (af (pc o3 12) (pi 0))) pT (aR (pc o3 12) (pi 1000)))
 (.ret (pi 3))
 (.ite (.pick (af (pc o3 14) (pi 1)) pT (aR (pc o3 14) (pi 4)))
 (.ret (pi 15))
 (.call ⟨[(121,(.pick (.pick (af (pc o3 13) (pi 0)) pT (aR (pc o3 13) (pi 7))) pT (.pick (ab (pc o3 2) (pi (-1))) (aH (.ai .and .i64 (pc o3 13) (pi 4)) (pi 0)) pF)))],[]⟩ [(121,false)] 123 85 [(au 15 o3)]
 (.ite (.pick ahd pT (.nt avW))
 (.ret (pi 2))
 (.ite (aH (pc o3 5) (pi 4))
 (.ret (pi 0))
 (.call ⟨[],[]⟩ [] 136 86 [(au 8 o2),(pc o3 9),(pc o3 10)]
 (.ret (.tget (.r 136) 1)))))))))))))))))))
def ae5:Jm.map told=some (Xi,[]):=by kernel_rfl
def ay1:tree (ae Jm)=Xi:=aO ae5
def Jo:Option PC:=cF [4] [] Tryz.f82 82 []
def Xk:PT:=
 (.ret MM)
def ae7:Jo.map told=some (Xk,[]):=by kernel_rfl
def ay3:tree (ae Jo)=Xk:=aO ae7
def Jp:Option PC:=cF [4] [] Tryz.f83 83 []
def N9:PT:=
 (.call ⟨[(7,(ab r0 (pi (-1))))],[]⟩ [(7,false)] 10 82 [r0,r1]
 (.ret (.pick r7 pT bI)))
def ae8:Jp.map told=some (N9,[]):=by kernel_rfl
def ay4:tree (ae Jp)=N9:=aO ae8
def Jf:Option PC:=cF [2] [] Tryz.f84 84 []
def WZ:PT:=
 (.ret (.pick (bP r0 (pi 0)) (bl r0 (pi 100000)) pF))
def aeY:Jf.map told=some (WZ,[]):=by kernel_rfl
def ayI:tree (ae Jf)=WZ:=aO aeY
def Jn:Option PC:=cF [2] [] Tryz.f85 85 [1,3]
def Xj:PT:=
 (.ite (.pick (ab (pc ga 0) (pi 0)) pT (ab (pc ga 0) (pi 4)))
 (.ret (.pick (ab (pc ga 1) (pi 0)) (ab (pc ga 2) (pi 0)) pF))
 (.ite (.pick (ab (pc ga 0) (pi 1)) pT (ab (pc ga 0) (pi 2)))
 (.ret agZ)
 (.ret (.pick (.pick (.pick (ab (pc ga 0) (pi 3)) (bP (pc ga 1) (pc (.mk [r0]) 8)) pF) (bl (pc ga 1) (pi 100000)) pF) (ab (pc ga 2) (pi 0)) pF))))
def ae6:Jn.map told=some (Xj,[]):=by kernel_rfl
def ay2:tree (ae Jn)=Xj:=aO ae6
def AL:Option PC:=cF [6,7,8] [] Tryz.f86 86 [3]
def Ph:Nat->PC:=bk AL
def asw:PC:=.block 0 [6,7,8,9,10,11,12,13] [] (.loop [6,7,8] [] (b 0))
def G4 (b:Nat->PC):PT:=
 (.ite (af r8 (.llen (pc o3 5)))
 (.chk (aj (pc o3 5) r8)
 (.chk (.nt (.an (.an (ab (pc (pn (pc o3 5) r8) 0) r1) pT) (.nt (aj (pc o3 5) r8))))
 (.ite (.pick (ab (pc (pn (pc o3 5) r8) 0) r1) (ab (pc (pn (pc o3 5) r8) 1) r2) pF)
 (.ret (.tup [(pc (pn (pc o3 5) r8) 2),(pi 0)]))
 (.next ⟨[(8,nQ)],[]⟩))))
 (.exit 0 ⟨[(9,r8),(10,pN),(11,(pc o3 5)),(12,(.llen (pc o3 5))),(13,(af r8 (.llen (pc o3 5))))],[]⟩))
def Xa:PT:=
 (.brk ⟨[(8,(pi 0)),(7,(pi 0)),(6,(pi 0))],[(3,(.mk [r0]))]⟩
(asw b)
 (.ret (.tup [(pi 0),(pi 4)])))
def ank:PT×List (Shp×PT):=(Xa b,[(.lp 0 [6,7,8,9,10,11,12,13] [] [6,7,8] [],G4 b)])
def Te:AL.map told=some (ank (bf AL)):=by kernel_rfl
def ayT:tree (ae AL)=Xa Ph:=bA Te
def U5:round 0 [6,7,8,9,10,11,12,13] [] [6,7,8] [] (Ph 0)=G4 Ph:=aT Te 0 λ_=>rfl
def AT:Option PC:=cF [6,8] [] Tryz.f62 62 [3,4,7]
def Ed:Nat->PC:=bk AT
def L7:PC:=.block 0 [6,8,72,73,74,75,79] [] (.loop [6,8] [] (b 0))
def Dl (b:Nat->PC):PT:=
 (.ite (.pick (af r8 r2) (ab (pc o7 0) (pi 1)) pF)
 (.chk (aj (pc o4 15) r8)
 (.chk (.nt (.an (.an (ab (pc (pn (pc o4 15) r8) 0) (pi 1)) pT) (.nt (aj (pc o4 15) r8))))
 (.ite (.pick (ab (pc (pn (pc o4 15) r8) 0) (pi 1)) (ab (pc (pn (pc o4 15) r8) 1) (pc o7 1)) pF)
 (.ret (pi 5))
 (.next ⟨[(8,nQ)],[]⟩))))
 (.exit 0 ⟨[(72,r8),(73,r2),(74,(af r8 r2)),(75,(af r8 r2)),(79,(.pick (af r8 r2) (ab (pc o7 0) (pi 1)) pF))],[]⟩))
def Xs:PT:=
 (.chk (aj C1 r2)
 (.call ⟨[(6,(pi 0))],[(7,mg),(4,(.mk [r1])),(3,(.mk [r0]))]⟩ [] 20 63 [(pc mg 1),(pi 0),(be (pc (.mk [r1]) 14) (pi 1))]
 (.ite (.nt eD)
 (.ret (pi 15))
 (.call ⟨[],[]⟩ [] 28 63 [(pc o7 2),(pi 0),zL]
 (.call ⟨[(30,(.nt qq))],[]⟩ [(30,false)] 37 63 [(pc o7 7),(pi 0),(be (.llen (pc o3 1)) (pi 1))]
 (.ite (.pick m0 pT (.nt iw))
 (.ret (pi 1))
 (.ite (.pick (.pick (ab r2 (pi 0)) (aH (pc o7 6) (pc o4 8)) pF) pT (aR (pc o7 6) (pi 100000)))
 (.ret (pi 13))
 (.ite (aR r2 (pi 0))
 (.chk (aj (pc o4 15) zJ)
 (.ite (af (pc o7 6) (pc (pn (pc o4 15) zJ) 6))
 (.ret (pi 13))
 (.call ⟨[],[]⟩ [] 70 87 [(au 8 o3),(au 19 o4),r2]
 (.ite (.nt UJ)
 (.ret (pi 14))
 (.brk ⟨[(8,(pi 0))],[]⟩
(L7 b)
 (.ret (pi 0)))))))
 (.call ⟨[],[]⟩ [] 70 87 [(au 8 o3),(au 19 o4),r2]
 (.ite (.nt UJ)
 (.ret (pi 14))
 (.brk ⟨[(8,(pi 0))],[]⟩
(L7 b)
 (.ret (pi 0)))))))))))))
def ans:PT×List (Shp×PT):=(Xs b,[(.lp 0 [6,8,72,73,74,75,79] [] [6,8] [],Dl b)])
def Tg:AT.map told=some (ans (bf AT)):=by kernel_rfl
def azd:tree (ae AT)=Xs Ed:=bA Tg
def No:round 0 [6,8,72,73,74,75,79] [] [6,8] [] (Ed 0)=Dl Ed:=aT Tg 0 λ_=>rfl
def Jr:Option PC:=cF [6,8,21,71,101,9,10,146,179] [] Tryz.f87 87 [3,4,7]
def Xn:PT:=
 (.chk (aj C1 r2)
 (.call ⟨[],[(7,mg),(4,(.mk [r1])),(3,(.mk [r0]))]⟩ [] 18 63 [(pc mg 5),(pi 1),lF]
 (.blockS ⟨[(20,(pc o7 0)),(8,ju)],[]⟩ 0 [6,21,22,71,72,101,102,146,147,179,180] []
 (.iteS ⟨[],[]⟩ (ab eD (pi 0)) [6,71,72,101,102,146,147,179,180] []
 (.ret (.pick (.pick (.pick (.pick (.pick (.pick (.pick (ab r2 (pi 0)) (ab (pc o7 2) (pc o4 0)) pF) (ab (pc o7 3) (pi (-1))) pF) (ab (pc o7 4) (pi (-1))) pF) (ab (pc o7 5) (pi 0)) pF) (.pick (ab (pc o7 8) (pi 0)) pT (ab (pc o7 8) (pi 1))) pF) (ab (pc o7 1) (pi 0)) pF) (ab (pc o7 7) (pc o4 9)) pF))
 (.iteS ⟨[],[]⟩ (ab eD (pi 1)) [6,101,102,146,147,179,180] []
 (.ret (.pick (.pick (.pick (.pick (.pick (aR r2 (pi 0)) (ab (pc o7 2) (pc o4 1)) pF) (ab (pc o7 3) (pi (-1))) pF) (ab (pc o7 4) (pi (-1))) pF) r8 pF) (ab (pc o7 8) (pi 0)) pF))
 (.iteS ⟨[],[]⟩ (ab eD (pi 2)) [6,146,147,179,180] []
 (.chk (aH (pi 2) (pi 0))
 (.chk (aH (pi 4) (pi 0))
 (.call ⟨[(120,(.pick (aR r2 (pi 0)) (ab (pc o7 3) (pi (-1))) pF)),(10,(ab (.ai .rem .i64 (.ai .quo .i64 (pc o7 8) (pi 4)) (pi 2)) (pi 1))),(9,(ab (.ai .rem .i64 (.ai .quo .i64 (pc o7 8) (pi 2)) (pi 2)) (pi 1)))],[]⟩ [(120,true)] 127 63 [(pc o7 4),(pi (-1)),zL]
 (.call ⟨[(134,(.pick (.pick UB MZ pF) (ab (pc o7 5) (pi 0)) pF))],[]⟩ [(134,true)] 137 63 [(pc o7 8),(pi 0),(pi 7)]
 (.ret (.pick (.pick (.r 134) (.r 137) pF) (.nt (.pick r9 bI pF)) pF))))))
 (.iteS ⟨[],[]⟩ (ab eD (pi 3)) [6,179,180] []
 (.call ⟨[(165,(.pick (.pick (.pick (ab r2 (pi 0)) pT (aH (pc o7 4) (pi (-1)))) pT (aH (pc o7 5) (pi 0))) pT (aH (pc o7 8) (pi 0))))],[]⟩ [(165,false)] 168 110 [(au 19 o4),r2]
 (.ite (.pick (.r 165) pT (.nt (.r 168)))
 (.ret pF)
 (.chk (aj (pc o4 15) (pc o7 3))
 (.ret (aH MQ (pi 3))))))
 (.iteS ⟨[],[]⟩ (ab eD (pi 4)) [6] []
 (.call ⟨[(205,(.pick (.pick (.pick (.pick (ab r2 (pi 0)) pT (aH (pc o7 4) (pi (-1)))) pT (.nt r8)) pT (aH (pc o7 8) (pi 0))) pT (ab (pc o7 2) (pc o4 1))))],[]⟩ [(205,false)] 208 110 [(au 19 o4),r2]
 (.ite (.pick (.r 205) pT (.nt (.r 208)))
 (.ret pF)
 (.chk (aj (pc o4 15) (pc o7 3))
 (.chk (.nt (.an (.an (.nt (ab MQ (pi 0))) pT) (.nt (aj (pc o4 15) (pc o7 3)))))
 (.ret (.pick (ab MQ (pi 0)) pT (ab MQ (pi 2))))))))
 (.next ⟨[],[]⟩)
 (.next ⟨[],[]⟩))
 (.next ⟨[],[]⟩))
 (.next ⟨[],[]⟩))
 (.next ⟨[],[]⟩))
 (.next ⟨[],[]⟩))
 (.ret pF))))
def afa:Jr.map told=some (Xn,[]):=by kernel_rfl
def ay7:tree (ae Jr)=Xn:=aO afa
def Ju:Option PC:=cF [4,5] [] Tryz.f110 110 [2]
def Xq:PT:=
 (.chk (aj mj r1)
 (.call ⟨[(5,(pc (pn mj r1) 3))],[(2,(.mk [r0]))]⟩ [] 15 63 [(pc (pn mj r1) 3),(pi 0),(be r1 (pi 1))]
 (.chk (.nt (.an (.an fh pT) (.nt (aj (pc o2 15) r1))))
 (.call ⟨[(16,fh)],[]⟩ [(16,true)] 25 111 [(au 19 o2),r5,(pc (pn (pc o2 15) r1) 1)]
 (.ret (.pick dH eM pF))))))
def afd:Ju.map told=some (Xq,[]):=by kernel_rfl
def azb:tree (ae Ju)=Xq:=aO afd
def Js:Option PC:=cF [6] [] Tryz.f111 111 [3]
def Oa:PT:=
 (.chk (.nt (.an (.an (.nt (ab r1 (pi 0))) pT) (.nt (aj mj r1))))
 (.ret (.pick (ab r1 (pi 0)) pT (ab (pc (pn mj r1) 1) r2))))
def afb:Js.map told=some (Oa,[]):=by kernel_rfl
def ay8:tree (ae Js)=Oa:=aO afb
def Jt:Option PC:=cF [6] [] Tryz.f64 64 [3,4,7]
def Xp:PT:=
 (.chk (aj C0 r2)
 (.call ⟨[],[(7,(.setc z9 0 (pn C0 r2))),(4,(.mk [r1])),(3,(.mk [r0]))]⟩ [] 19 63 [(pc (.setc z9 0 (pn C0 r2)) 3),(pi 0),(be (pc (.mk [r1]) 14) (pi 1))]
 (.ite (.nt iY)
 (.ret (pi 15))
 (.call ⟨[],[]⟩ [] 27 63 [(pc o7 7),(pi 0),(be (.llen (pc o3 1)) (pi 1))]
 (.call ⟨[(29,(.nt gd))],[]⟩ [(29,false)] 32 63 [(pc o7 0),(pi 0),(pi 9)]
 (.ite (.pick lI pT (.nt kV))
 (.ret (pi 1))
 (.call ⟨[],[]⟩ [] 38 88 [(au 8 o3),(au 19 o4),(au 9 o7)]
 (.ite (.nt fi)
 (.ret (pi 14))
 (.ite (.pick (af (pc o7 6) (pc o4 8)) pT (aR (pc o7 6) (pi 100000)))
 (.ret (pi 13))
 (.ite (bP (pc o7 4) (pi 0))
 (.chk (aj (pc o4 15) (pc o7 4))
 (.ite (af (pc o7 6) (pc (pn (pc o4 15) (pc o7 4)) 6))
 (.ret (pi 13))
 (.ite (aR r2 (pi 0))
 (.chk (aj (pc o4 17) zJ)
 (.ite (af (pc o7 6) (pc (pn (pc o4 17) zJ) 6))
 (.ret (pi 13))
 (.ret (pi 0))))
 (.ret (pi 0)))))
 (.ite (aR r2 (pi 0))
 (.chk (aj (pc o4 17) zJ)
 (.ite (af (pc o7 6) (pc (pn (pc o4 17) zJ) 6))
 (.ret (pi 13))
 (.ret (pi 0))))
 (.ret (pi 0)))))))))))))
def afc:Jt.map told=some (Xp,[]):=by kernel_rfl
def aza:tree (ae Jt)=Xp:=aO afc
def Jq:Option PC:=cF [6,7,8,9,10,56,76,93,114,133,151] [] Tryz.f88 88 [3,4,5]
def Xl:PT:=
 (.call ⟨[],[(5,(.mk [r2])),(4,(.mk [r1])),(3,(.mk [r0]))]⟩ [] 17 63 [(pc (.mk [r2]) 1),(pi 0),(be (.llen (pc (.mk [r0]) 3)) (pi 1))]
 (.ite (.nt kT)
 (.ret pF)
 (.call ⟨[],[]⟩ [] 25 63 [(pc o5 2),(pi 0),zL]
 (.call ⟨[(7,eM)],[]⟩ [] 28 63 [(pc o5 5),(pi 0),lF]
 (.call ⟨[(8,qq)],[]⟩ [] 35 63 [(pc o5 4),(pi 0),(be (.llen (pc o4 15)) (pi 1))]
 (.iteS ⟨[(9,tu)],[]⟩ tu [9] []
 (.call ⟨[],[]⟩ [] 42 111 [(au 19 o4),(pc o5 4),(pc o5 3)]
 (.next ⟨[(9,oZ)],[]⟩))
 (.next ⟨[],[]⟩)
 (.ite r9
 (.chk (aj (pc o4 15) (pc o5 4))
 (.ite ag2
 (.ret (.pick (.pick C6 vg pF) ql pF))
 (.ite (.pick (ab (pc o5 0) (pi 3)) (ab (pc o5 0) (pi 3)) (ab (pc o5 0) (pi 5)))
 (.ret (.pick (.pick C6 r8 pF) ql pF))
 (.ite (ab (pc o5 0) (pi 4))
 (.ret (.pick (.pick C6 r8 pF) (.pick ql pT (ab (pc o5 8) (pi 1))) pF))
 (.ite (ab (pc o5 0) (pi 6))
 (.ret (.pick (.pick (.pick (.pick r7 Uj pF) r8 pF) (aR (pc o5 5) (pi 0)) pF) ql pF))
 (.ite (ab (pc o5 0) (pi 9))
 (.ret (.pick (.pick (.pick zN Uj pF) vg pF) ql pF))
 (.ite agP
 (.ret (.pick (.pick (.pick zN r9 pF) vg pF) ql pF))
 (.ret pF))))))))
 (.ite ag2
 (.ret (.pick (.pick C6 vg pF) ql pF))
 (.ite (.pick (ab (pc o5 0) (pi 3)) (ab (pc o5 0) (pi 3)) (ab (pc o5 0) (pi 5)))
 (.ret (.pick (.pick C6 r8 pF) ql pF))
 (.ite (ab (pc o5 0) (pi 4))
 (.ret (.pick (.pick C6 r8 pF) (.pick ql pT (ab (pc o5 8) (pi 1))) pF))
 (.ite (ab (pc o5 0) (pi 6))
 (.ret (.pick (.pick (.pick (.pick r7 pF pF) r8 pF) (aR (pc o5 5) (pi 0)) pF) ql pF))
 (.ite (ab (pc o5 0) (pi 9))
 (.ret (.pick (.pick (.pick zN pF pF) vg pF) ql pF))
 (.ite agP
 (.ret (.pick (.pick (.pick zN r9 pF) vg pF) ql pF))
 (.ret pF))))))))))))))
def ae9:Jq.map told=some (Xl,[]):=by kernel_rfl
def ay5:tree (ae Jq)=Xl:=aO ae9
def Jv:Option PC:=cF [4] [] Tryz.f65 65 [2,5,6]
def Xr:PT:=
 (.chk (aj vj r1)
 (.call ⟨[],[(5,(.setc z3 0 (pn vj r1))),(2,(.mk [r0]))]⟩ [] 14 63 [(pc (.setc z3 0 (pn vj r1)) 0),(pi 0),(pi 4)]
 (.call ⟨[(16,(.nt bU))],[]⟩ [(16,false)] 23 63 [(pc o5 1),(pi 0),(be (.llen (pc o2 15)) (pi 1))]
 (.call ⟨[(26,(.pick dH pT (.nt mZ)))],[]⟩ [(26,false)] 29 63 [(pc o5 2),(pi 0),(pi 1)]
 (.ite (.pick kU pT (.nt lI))
 (.ret (pi 1))
 (.ite (aR r1 (pi 0))
 (.chk (aj (pc o2 18) (be r1 (pi 1)))
 (.ite (.pick (aR (pc Ul 1) (pc o5 1)) pT (.pick (ab (pc Ul 1) (pc o5 1)) (bP (pc Ul 0) (pc o5 0)) pF))
 (.ret (pi 5))
 (.ret (pi 0))))
 (.ret (pi 0))))))))
def afe:Jv.map told=some (Xr,[]):=by kernel_rfl
def azc:tree (ae Jv)=Xr:=aO afe
def JX:Option PC:=cF [8,9,10] [] Tryz.f37 37 [4,6,7]
def X1:PT:=
 (.call ⟨[],[(7,(.mk [r3]))]⟩ [] 16 68 [fN,r1,(pi 20),(au 19 (.mk [r2])),(pc (.mk [r3]) 3)]
 (.call ⟨[],[]⟩ [] 17 67 [dH]
 (.ret (.tup [(bt (pc o7 4) kT),(aH kT (pi (-1)))]))))
def afH:JX.map told=some (X1,[]):=by kernel_rfl
def azZ:tree (ae JX)=X1:=aO afH
def JU:Option PC:=cF [] [] Tryz.f68 68 [5,8,77832,10]
def XV:PT:=
 (.call ⟨[],[(10,ve)]⟩ [] 18 91 [fN,r1,r2,agS]
 (.ret (au 5 (.setc bM 0 ju))))
def afE:JU.map told=some (XV,[]):=by kernel_rfl
def azR:tree (ae JU)=XV:=aO afE
def JT:Option PC:=cF [10,11,12] [] Tryz.f91 91 [4,7,8,9,16393]
def XU:PT:=
 (.call ⟨[],[(16393,pL),(9,(.setc ve 0 (.mk [cU,(pi (-1)),pL,(pi 1)]))),(8,ve),(7,(.mk [r3])),(4,(.mk [r0]))]⟩ [] 17 118 [fN,r1,(au 24 (.mk [r3]))]
 (.call ⟨[(21,(ab (.llen kT) (pi 0))),(10,kT)],[]⟩ [(21,false)] 23 119 [r2]
 (.ite (.pick mY pT (.nt mZ))
 (.ret (au 5 (.setc o8 0 (.mk [(pc o9 0),(pc o9 1),(pc o9 2),(.o 16393),(pc o9 4)]))))
 (.call ⟨[],[]⟩ [] 32 120 [(au 8 o4),r1,r2,bI]
 (.ite (.pick (aH (.tget kV 1) (pi 0)) pT (ab (.llen (.tget kV 0)) (pi 0)))
 (.ret (au 5 (.setc o8 0 (au 5 (.setc (.setc o9 3 (.tget kV 0)) 4 (.tget kV 1))))))
 (.chk (aj (.tget kV 0) (be (.llen (.tget kV 0)) (pi 1)))
 (.chk (aj (pc o4 4) (pc Ur 2))
 (.call ⟨[(61,r2),(60,(pn (pc o4 4) (pc Ur 2)))],[(9,Ur)]⟩ [] 64 122 [(au 8 o4),(au 24 o7)]
 (.call ⟨[],[]⟩ [] 65 121 [qs,pg,kW]
 (.ret (au 5 (.setc o8 0 (au 5 (.setc (.setc o9 0 (.tget vt 0)) 4 (.tget vt 1)))))))))))))))
def afD:JT.map told=some (XU,[]):=by kernel_rfl
def azQ:tree (ae JT)=XU:=aO afD
def A9:Option PC:=cF [6,9] [] Tryz.f118 118 [3,5,7,8]
def Pz:Nat->PC:=bk A9
def adR:PC:=.block 0 [6,9,81,82,83,84] [] (.loop [6,9] [] (b 0))
def Hp (b:Nat->PC):PT:=
 (.ite (af r9 (.llen o8))
 (.chk (aj o8 r9)
 (.ite (af (pn o8 r9) (pi 0))
 (.ret pL)
 (.next ⟨[(9,(bt r9 (pi 1)))],[]⟩)))
 (.exit 0 ⟨[(81,r9),(82,r8),(83,(.llen o8)),(84,(af r9 (.llen o8)))],[]⟩))
def XY:PT:=
 (.call ⟨[(6,pL)],[(5,(.mk [r2])),(3,(.mk [r0]))]⟩ [] 12 122 [fN,(au 24 (.mk [r2]))]
 (.ite (.pick (.pick (ab (.llen bG) (pi 0)) pT (af r1 (pi 0))) pT (bP r1 (.llen (pc o3 4))))
 (.ret pL)
 (.chk (aj (pc o5 15) (pc o5 19))
 (.ite (.pick (af (pc MK 2) (pi 0)) pT (bP (pc MK 2) (.llen (pc o3 3))))
 (.ret pL)
 (.chk Un
 (.chk (ab (pi 5) (pi 5))
 (.chk (aj CY (pi 0))
 (.call ⟨[(8,pN)],[(8,(.setn CY (pi 0) 0 r1)),(7,MK)]⟩ [] 52 134 [(au 8 o3),(pc MK 7)]
 (.chk (aj o8 (pi 1))
 (.call ⟨[],[(8,(.setn o8 (pi 1) 0 Da))]⟩ [] 60 134 [(au 8 o3),(pc o5 10)]
 (.chk (aj o8 (pi 2))
 (.call ⟨[],[(8,(.setn o8 (pi 2) 0 qs))]⟩ [] 68 134 [(au 8 o3),(pc o5 9)]
 (.chk (aj o8 (pi 3))
 (.chk (aj (pc o3 3) (pc o7 2))
 (.call ⟨[],[(8,(.setn o8 (pi 3) 0 Dc))]⟩ [] 79 134 [(au 8 o3),(pc (pn (pc o3 3) (pc o7 2)) 1)]
 (.chk (aj o8 (pi 4))
 (.brk ⟨[(9,(pi 0))],[(8,(.setn o8 (pi 4) 0 r79))]⟩
(adR b)
 (.ret o8))))))))))))))))))
def anK:PT×List (Shp×PT):=(XY b,[(.lp 0 [6,9,81,82,83,84] [] [6,9] [],Hp b)])
def Tx:A9.map told=some (anK (bf A9)):=by kernel_rfl
def azW:tree (ae A9)=XY Pz:=bA Tx
def Vr:round 0 [6,9,81,82,83,84] [] [6,9] [] (Pz 0)=Hp Pz:=aT Tx 0 λ_=>rfl
def JV:Option PC:=cF [4] [] Tryz.f122 122 [2,3]
def XW:PT:=
 (.call ⟨[],[(3,(.mk [r1])),(2,(.mk [r0]))]⟩ [] 9 21 [(au 19 (.mk [r1])),(pc (.mk [r1]) 23)]
 (.call ⟨[],[]⟩ [] 13 141 [(au 8 o2),(au 24 (.setc o3 0 r9))]
 (.ret dk)))
def afF:JV.map told=some (XW,[]):=by kernel_rfl
def azS:tree (ae JV)=XW:=aO afF
def AY:Option PC:=cF [5,6,8,9,3000046,3000052,3000051,3000057,1000004,1000007] [] Tryz.f21 21 [2,4,65540,69636,73732,77828,46,52,7,65543,69639,73735,77831,81,115]
def tY:Nat->PC:=bk AY
def asS:PC:=.block 0 [5,10,11,12,13,14,15,24] [] (.loop [5] [] (b 0))
def asT:PC:=.block 2 [6,27,28,29,30,31,32,41] [] (.loop [6] [] (b 1))
def asU:PC:=.block 4 [8,59,60,61,62,63] [7,69639] (.loop [8] [7,69639] (b 2))
def asV:PC:=.block 6 [9,84,85,86,87,88] [7,77831] (.loop [9] [7,77831] (b 3))
def Hg (b:Nat->PC):PT:=
 (.chk (.nt (.an (.an zM pT) (.nt (aj (pc o2 15) r5))))
 (.ite (.pick zM (bl (pc rI 6) r1) pF)
 (.next ⟨[(5,qo)],[]⟩)
 (.exit 0 ⟨[(10,r5),(11,pN),(12,(pc o2 15)),(13,(.llen (pc o2 15))),(14,zM),(15,zM),(24,(.pick zM (bl (pc rI 6) r1) pF))],[]⟩)))
def Hh (b:Nat->PC):PT:=
 (.chk (.nt (.an (.an (af r6 tq) pT) (.nt (aj (pc o2 17) r6))))
 (.ite (.pick (af r6 tq) (bl (pc (pn (pc o2 17) r6) 6) r1) pF)
 (.next ⟨[(6,(bt r6 (pi 1)))],[]⟩)
 (.exit 2 ⟨[(27,r6),(28,pN),(29,(pc o2 17)),(30,tq),(31,(af r6 tq)),(32,(af r6 tq)),(41,(.pick (af r6 tq) (bl (pc (pn (pc o2 17) r6) 6) r1) pF))],[]⟩)))
def Hi (b:Nat->PC):PT:=
 (.ite (af r8 zE)
 (.chk (aj (pc o2 16) r8)
 (.ite (bl (pc (pn (pc o2 16) r8) 0) r5)
 (.chk (bl (.llen (.app (.o 69639) (.lst [(pn (pc o2 16) r8)]))) cj)
 (.next ⟨[(8,nQ)],[(7,(.setc o7 16 pN)),(69639,(.app (.o 69639) (.lst [(pn (pc o2 16) r8)])))]⟩))
 (.next ⟨[(8,nQ)],[]⟩)))
 (.exit 4 ⟨[(59,r8),(60,pN),(61,(pc o2 16)),(62,zE),(63,(af r8 zE))],[]⟩))
def Dm (b:Nat->PC):PT:=
 (.ite (af r9 zD)
 (.chk (aj (pc o2 18) r9)
 (.chk (.nt (.an (.an (bP (pc (pn (pc o2 18) r9) 1) (pi 0)) pT) (.nt (aj (pc o2 18) r9))))
 (.ite (.pick (bP (pc (pn (pc o2 18) r9) 1) (pi 0)) (af (pc (pn (pc o2 18) r9) 1) r5) pF)
 (.chk (bl (.llen (.app (.o 77831) (.lst [(pn (pc o2 18) r9)]))) cj)
 (.next ⟨[(9,(bt r9 (pi 1)))],[(7,(.setc o7 18 pN)),(77831,(.app (.o 77831) (.lst [(pn (pc o2 18) r9)])))]⟩))
 (.next ⟨[(9,(bt r9 (pi 1)))],[]⟩))))
 (.exit 6 ⟨[(84,r9),(85,pN),(86,(pc o2 18)),(87,zD),(88,(af r9 zD))],[]⟩))
def Xx:PT:=
 (.brk ⟨[(5,(pi 0))],[(4,mf),(2,(.mk [r0]))]⟩
(asS b)
 (.brk ⟨[(6,(pi 0))],[]⟩
(asT b)
 (.chk (.slok (pc o2 15) (pi 0) r5)
 (.chk (bl (.llen (.app (.lst []) (.slc (pc o2 15) (pi 0) r5))) cj)
 (.chk (.slok (pc o2 17) (pi 0) r6)
 (.chk (bl (.llen (.app (.lst []) (.slc (pc o2 17) (pi 0) r6))) cj)
 (.brk ⟨[(8,(pi 0))],[(73735,(.app (.lst []) (.slc (pc o2 17) (pi 0) r6))),(65543,(.app (.lst []) (.slc (pc o2 15) (pi 0) r5))),(77831,pL),(69639,pL),(7,(.setc mf 0 (.mk [(au 15 o2),pF,pL,pF,pL])))]⟩
(asU b)
 (.brk ⟨[(9,(pi 0))],[]⟩
(asV b)
 (.ret (.mk [(pc mV 0),(pc mV 1),(pc mV 2),(pc mV 3),(pc mV 4),(pc mV 5),(pc mV 6),(pc mV 7),(pc mV 8),(pc mV 9),(pc mV 10),(pc mV 11),(pc mV 12),(pc mV 13),(pc mV 14),(.o 65543),(.o 69639),(.o 73735),(.o 77831)]))))))))))
def anx:PT×List (Shp×PT):=(Xx b,[(.lp 0 [5,10,11,12,13,14,15,24] [] [5] [],Hg b),(.lp 2 [6,27,28,29,30,31,32,41] [] [6] [],Hh b),(.lp 4 [8,59,60,61,62,63] [7,69639] [8] [7,69639],Hi b),(.lp 6 [9,84,85,86,87,88] [7,77831] [9] [7,77831],Dm b)])
def CC:AY.map told=some (anx (bf AY)):=by kernel_rfl
def azj:tree (ae AY)=Xx tY:=bA CC
def Vh:round 0 [5,10,11,12,13,14,15,24] [] [5] [] (tY 0)=Hg tY:=aT CC 0 λ_=>rfl
def Vi:round 2 [6,27,28,29,30,31,32,41] [] [6] [] (tY 1)=Hh tY:=aT CC 1 λ_=>rfl
def Vj:round 4 [8,59,60,61,62,63] [7,69639] [8] [7,69639] (tY 2)=Hi tY:=aT CC 2 λ_=>rfl
def Nq:round 6 [9,84,85,86,87,88] [7,77831] [9] [7,77831] (tY 3)=Dm tY:=aT CC 3 λ_=>rfl
def A0:Option PC:=cF [4,8,9,10,11] [] Tryz.f141 141 [2,3,5,6,7]
def Pp:Nat->PC:=bk A0
def adQ:PC:=.block 0 [9,10,157,158,159,160,161] [] (.loop [9,10] [] (b 0))
def Ns (b:Nat->PC):PT:=
 (.ite (af bI (.llen (pc o5 16)))
 (.chk (.nt (.an (.an (.nt r9) pT) (.nt (aj (pc o5 16) bI))))
 (.next ⟨[(9,(.pick r9 pT (bl (pc (pn (pc o5 16) bI) 0) (pc o3 19)))),(10,(bt bI (pi 1)))],[]⟩))
 (.exit 0 ⟨[(157,bI),(158,pN),(159,(pc o5 16)),(160,(.llen (pc o5 16))),(161,(af bI (.llen (pc o5 16))))],[]⟩))
def XA:PT:=
 (.ite (.pick (.pick (.pick (.pick (.pick (af (pc (.mk [r1]) 19) (pi 0)) pT (bP (pc (.mk [r1]) 19) (.llen (pc xf 15)))) pT (af (pc (.mk [r1]) 20) (pi (-1)))) pT (bP (pc (.mk [r1]) 20) (.llen (pc xf 15)))) pT (af (pc (.mk [r1]) 22) (pi (-1)))) pT (aR (pc (.mk [r1]) 22) (pi 100000)))
 (.ret pL)
 (.chk (aj (pc xf 15) (pc (.mk [r1]) 19))
 (.ite (.pick (af (pc Uh 6) (pi 0)) pT (aR (pc Uh 6) (pi 100000)))
 (.ret pL)
 (.chk (.an (bP (pi 20) (pi 0)) (bl (pi 20) cj))
 (.chk (ab (pi 20) (pi 20))
 (.call ⟨[],[(7,(.rep (pi 20) cU)),(6,Uh),(5,xf),(3,(.mk [r1])),(2,(.mk [r0]))]⟩ [] 67 159 [(pc xf 3)]
 (.chk (aj o7 (pi 0))
 (.call ⟨[],[(7,(.setn o7 (pi 0) 0 qt))]⟩ [] 73 159 [(pc o5 14)]
 (.chk (aj o7 (pi 1))
 (.call ⟨[],[(7,(.setn o7 (pi 1) 0 zU))]⟩ [] 80 159 [(pc o5 5)]
 (.chk (aj o7 (pi 2))
 (.call ⟨[],[(7,(.setn o7 (pi 2) 0 tz))]⟩ [] 86 159 [(pc o5 12)]
 (.chk (aj o7 (pi 3))
 (.call ⟨[],[(7,(.setn o7 (pi 3) 0 UO))]⟩ [] 91 159 [(pc o6 0)]
 (.chk (aj o7 (pi 4))
 (.call ⟨[],[(7,(.setn o7 (pi 4) 0 Df))]⟩ [] 96 159 [(pc o3 21)]
 (.chk (aj o7 (pi 5))
 (.call ⟨[(8,(.pick GH (be (pc o6 6) (pc o3 22)) (pi 0)))],[(7,(.setn o7 (pi 5) 0 UP))]⟩ [] 108 159 [(.pick GH (be (pc o6 6) (pc o3 22)) (pi 0))]
 (.chk (aj o7 (pi 6))
 (.call ⟨[],[(7,(.setn o7 (pi 6) 0 GP))]⟩ [] 113 160 [(aR r8 (pi 0))]
 (.chk (aj o7 (pi 14))
 (.call ⟨[],[(7,(.setn o7 (pi 14) 0 ahb))]⟩ [] 119 161 [(pc o5 13),(pi 1)]
 (.call ⟨[],[]⟩ [] 120 160 [ahc]
 (.chk (aj o7 (pi 7))
 (.call ⟨[],[(7,(.setn o7 (pi 7) 0 UB))]⟩ [] 126 161 [(pc o5 13),(pi 2)]
 (.call ⟨[],[]⟩ [] 127 160 [ahe]
 (.chk (aj o7 (pi 10))
 (.call ⟨[],[(7,(.setn o7 (pi 10) 0 MZ))]⟩ [] 133 161 [(pc o5 13),(pi 4)]
 (.call ⟨[],[]⟩ [] 134 160 [(.r 133)]
 (.chk (aj o7 (pi 9))
 (.call ⟨[],[(7,(.setn o7 (pi 9) 0 (.r 134)))]⟩ [] 141 160 [zN]
 (.chk (aj o7 (pi 8))
 (.call ⟨[],[(7,(.setn o7 (pi 8) 0 (.r 141)))]⟩ [] 148 134 [(au 8 o2),(pc o5 9)]
 (.call ⟨[],[]⟩ [] 153 134 [(au 8 o2),(pc o5 10)]
 (.call ⟨[],[]⟩ [] 155 160 [(aH (.r 148) (.r 153))]
 (.chk (aj o7 (pi 11))
 (.brk ⟨[(10,(pi 0)),(9,pF)],[(7,(.setn o7 (pi 11) 0 (.r 155)))]⟩
(adQ b)
 (.call ⟨[],[]⟩ [] 178 160 [r9]
 (.chk (aj o7 (pi 12))
 (.call ⟨[],[(7,(.setn o7 (pi 12) 0 (.r 178)))]⟩ [] 183 161 [(pc o6 8),(pi 1)]
 (.call ⟨[],[]⟩ [] 184 160 [(.r 183)]
 (.chk (aj o7 (pi 13))
 (.call ⟨[(11,(.mx (pc o3 20) (pi 0)))],[(7,(.setn o7 (pi 13) 0 (.r 184)))]⟩ [] 193 162 [(au 19 o5),(pi 0),(pc o3 19)]
 (.chk (aj o7 (pi 15))
 (.call ⟨[],[(7,(.setn o7 (pi 15) 0 (.r 193)))]⟩ [] 199 162 [(au 19 o5),(pi 1),(pc o3 19)]
 (.chk (aj o7 (pi 16))
 (.call ⟨[],[(7,(.setn o7 (pi 16) 0 (.r 199)))]⟩ [] 205 162 [(au 19 o5),(pi 2),(pc o3 19)]
 (.chk (aj o7 (pi 17))
 (.call ⟨[],[(7,(.setn o7 (pi 17) 0 (.r 205)))]⟩ [] 210 162 [(au 19 o5),(pi 3),bK]
 (.chk (aj o7 (pi 18))
 (.call ⟨[],[(7,(.setn o7 (pi 18) 0 (.r 210)))]⟩ [] 215 162 [(au 19 o5),(pi 4),bK]
 (.chk (aj o7 (pi 19))
 (.ret (.setn o7 (pi 19) 0 (.r 215)))))))))))))))))))))))))))))))))))))))))))))))))))))))
def anA:PT×List (Shp×PT):=(XA b,[(.lp 0 [9,10,157,158,159,160,161] [] [9,10] [],Ns b)])
def Tn:A0.map told=some (anA (bf A0)):=by kernel_rfl
def azn:tree (ae A0)=XA Pp:=bA Tn
def ahN:round 0 [9,10,157,158,159,160,161] [] [9,10] [] (Pp 0)=Ns Pp:=aT Tn 0 λ_=>rfl
def Jz:Option PC:=cF [] [] Tryz.f159 159 [2]
def XC:PT:=
 (.ret (.mk [(pc (.setc cU 0 (.mk [pT,r0])) 0),(pc (.setc cU 0 (.mk [pT,r0])) 1)]))
def afi:Jz.map told=some (XC,[]):=by kernel_rfl
def azp:tree (ae Jz)=XC:=aO afi
def JA:Option PC:=cF [] [] Tryz.f160 160 [2]
def Od:PT:=
 (.iteS ⟨[],[(2,cU)]⟩ r0 [] [2]
 (.call ⟨[],[]⟩ [] 4 159 [(pi 1)]
 (.ret (.mk [(pc (.setc o2 0 r4) 0),(pc (.setc o2 0 r4) 1)])))
 (.next ⟨[],[]⟩)
 (.call ⟨[],[]⟩ [] 5 159 [(pi 0)]
 (.ret (.mk [(pc (.setc o2 0 r5) 0),(pc (.setc o2 0 r5) 1)]))))
def afj:JA.map told=some (Od,[]):=by kernel_rfl
def azq:tree (ae JA)=Od:=aO afj
def Jy:Option PC:=cF [4] [] Tryz.f161 161 []
def XB:PT:=
 (.ret (ab (.ai .and .i64 r0 r1) r1))
def afh:Jy.map told=some (XB,[]):=by kernel_rfl
def azo:tree (ae Jy)=XB:=aO afh
def Jj:Option PC:=cF [4] [] Tryz.f134 134 [2]
def W6:PT:=
 (.call ⟨[],[(2,(.mk [r0]))]⟩ [] 10 63 [r1,(pi 0),(be (.llen oU) (pi 1))]
 (.ite bI
 (.chk (aj (pc o2 1) r1)
 (.ret (pc (pn (pc o2 1) r1) 1)))
 (.ret (pi (-1)))))
def ae2:Jj.map told=some (W6,[]):=by kernel_rfl
def ayP:tree (ae Jj)=W6:=aO ae2
def AZ:Option PC:=cF [7] [] Tryz.f162 162 [3,6]
def Po:Nat->PC:=bk AZ
def asW:PC:=.block 0 [7,8,9,10,11,12] [6] (.loop [7] [6] (b 0))
def Dn (b:Nat->PC):PT:=
 (.ite (af r7 w8)
 (.chk (aj (pc o3 18) r7)
 (.chk (.nt (.an (.an (ab (pc (pn (pc o3 18) r7) 0) r1) pT) (.nt (aj (pc o3 18) r7))))
 (.ite (.pick (ab (pc (pn (pc o3 18) r7) 0) r1) (ab (pc (pn (pc o3 18) r7) 1) r2) pF)
 (.ite (ab (pc (pn (pc o3 18) r7) 2) (pi 0))
 (.ret (.mk [(pc (.setc o6 0 (.mk [pT,(pi 0)])) 0),(pc (.setc o6 0 (.mk [pT,(pi 0)])) 1)]))
 (.ret (.mk [(pc (.setc o6 0 (.mk [pT,(pi 1)])) 0),(pc (.setc o6 0 (.mk [pT,(pi 1)])) 1)])))
 (.next ⟨[(7,xb)],[]⟩))))
 (.exit 0 ⟨[(8,r7),(9,pN),(10,(pc o3 18)),(11,w8),(12,(af r7 w8))],[]⟩))
def Xy:PT:=
 (.brk ⟨[(7,(pi 0))],[(6,cU),(3,(.mk [r0]))]⟩
(asW b)
 (.ret MT))
def anz:PT×List (Shp×PT):=(Xy b,[(.lp 0 [7,8,9,10,11,12] [6] [7] [6],Dn b)])
def Tl:AZ.map told=some (anz (bf AZ)):=by kernel_rfl
def azk:tree (ae AZ)=Xy Po:=bA Tl
def Nr:round 0 [7,8,9,10,11,12] [6] [7] [6] (Po 0)=Dn Po:=aT Tl 0 λ_=>rfl
def JP:Option PC:=cF [2] [] Tryz.f119 119 []
def XM:PT:=
 (.ret (.pick (bP r0 (pi 0)) (af r0 (pi 22)) pF))
def afz:JP.map told=some (XM,[]):=by kernel_rfl
def azI:tree (ae JP)=XM:=aO afz
def A6:Option PC:=cF [8,9,12,13,14] [] Tryz.f120 120 [4,10,11,78]
def Pw:Nat->PC:=bk A6
def as3:PC:=.block 0 [8,9,11,12,47,48,49,50,51] [10,11] (.loop [8,9,11,12] [10,11] (b 0))
def Vp (b:Nat->PC):PT:=
 (.ite (bl bG rK)
 (.blockS ⟨[],[]⟩ 1 [8,9,11,13,14,54,55,58,59,61,62,63,64,65,66,67,70,71,73,74,77,78,79,80,81,83,84,85,86,87,94,96,97,98,99,101,102,103] [78,11,10]
 (.chk (aj gD (be (.llen gD) (pi 1)))
 (.call ⟨[],[]⟩ [] 64 136 [(au 8 o4),(pn gD (be (.llen gD) (pi 1))),r2,r3]
 (.chk (aj gD (be (.llen gD) (pi 1)))
 (.ite (ab vk (pn gD (be (.llen gD) (pi 1))))
 (.ret (.tup [gD,(pi 0)]))
 (.chk (bl (.llen GK) cj)
 (.ite (.nt (.tget kW 1))
 (.ret (.tup [GK,(pi 0)]))
 (.chk (aj bM vk)
 (.chk (.nt (.an (.an (pn bM vk) pT) (.nt (aj (pc o4 4) vk))))
 (.ite (.pick (pn bM vk) (pc (pn (pc o4 4) vk) 1) pF)
 (.ret (.tup [GK,(pi 0)]))
 (.ite (pn bM vk)
 (.ret (.tup [GK,(pi 12)]))
 (.next ⟨[(11,pN)],[(10,(.setn bM vk 0 pT)),(11,GK)]⟩)))))))))))
 (.next ⟨[(12,(bt bG (pi 1)))],[]⟩))
 (.exit 0 ⟨[(47,bG),(48,pN),(49,(pc o4 4)),(50,rK),(51,(bl bG rK))],[]⟩))
def XR:PT:=
 (.call ⟨[(9,(pi 0)),(8,pL)],[(4,(.mk [r0]))]⟩ [] 17 135 [fN,r3]
 (.call ⟨[(19,(.nt kT))],[]⟩ [(19,false)] 25 63 [r1,(pi 0),(be rK (pi 1))]
 (.call ⟨[(28,(.pick iY pT (.nt eM)))],[]⟩ [(28,false)] 30 63 [r2,(pi 0),(pi 21)]
 (.ite (.pick qq pT (.nt m0))
 (.ret (.tup [pL,(pi 1)]))
 (.chk (aj r3 (pi 0))
 (.ite (aH (pn r3 (pi 0)) r1)
 (.ret (.tup [pL,(pi 1)]))
 (.chk (.an (bP rK (pi 0)) (bl rK cj))
 (.chk (ab rK rK)
 (.chk (aj (.rep rK pF) r1)
 (.brk ⟨[(12,(pi 0)),(11,pN),(10,pN)],[(10,(.setn (.rep rK pF) r1 0 pT)),(11,(.lst [r1]))]⟩
(as3 b)
 (.ret (.tup [gD,(pi 12)]))))))))))))
def anH:PT×List (Shp×PT):=(XR b,[(.lp 0 [8,9,11,12,47,48,49,50,51] [10,11] [8,9,11,12] [10,11],Vp b)])
def Tu:A6.map told=some (anH (bf A6)):=by kernel_rfl
def azN:tree (ae A6)=XR Pw:=bA Tu
def awN:round 0 [8,9,11,12,47,48,49,50,51] [10,11] [8,9,11,12] [10,11] (Pw 0)=Vp Pw:=aT Tu 0 λ_=>rfl
def A7:Option PC:=cF [4,5] [] Tryz.f135 135 [2]
def Px:Nat->PC:=bk A7
def as4:PC:=.block 0 [4,5,6,7,8,9] [] (.loop [4,5] [] (b 0))
def Nt (b:Nat->PC):PT:=
 (.ite (af r5 (.llen r1))
 (.blockS ⟨[],[]⟩ 1 [4,12,13,14,15,16,17,18,19,20,21] []
 (.chk (aj r1 r5)
 (.call ⟨[],[]⟩ [] 20 63 [(pn r1 r5),(pi 0),(be (.llen (pc o2 4)) (pi 1))]
 (.ite (.nt eD)
 (.ret pF)
 (.next ⟨[],[]⟩))))
 (.next ⟨[(5,qo)],[]⟩))
 (.exit 0 ⟨[(6,r5),(7,r1),(8,(.llen r1)),(9,(af r5 (.llen r1)))],[]⟩))
def XT:PT:=
 (.brk ⟨[(5,(pi 0)),(4,pF)],[(2,(.mk [r0]))]⟩
(as4 b)
 (.ret (ab (.llen r1) (pi 5))))
def anI:PT×List (Shp×PT):=(XT b,[(.lp 0 [4,5,6,7,8,9] [] [4,5] [],Nt b)])
def Tv:A7.map told=some (anI (bf A7)):=by kernel_rfl
def azP:tree (ae A7)=XT Px:=bA Tv
def ahO:round 0 [4,5,6,7,8,9] [] [4,5] [] (Px 0)=Nt Px:=aT Tv 0 λ_=>rfl
def JS:Option PC:=cF [8,9] [] Tryz.f136 136 [4,10]
def XS:PT:=
 (.call ⟨[],[(4,(.mk [r0]))]⟩ [] 13 135 [fN,r3]
 (.call ⟨[(15,(.nt dk))],[]⟩ [(15,false)] 21 63 [r1,(pi 0),(be rK (pi 1))]
 (.call ⟨[(24,(.pick fh pT (.nt mY)))],[]⟩ [(24,false)] 26 63 [r2,(pi 0),(pi 21)]
 (.ite (.pick oY pT (.nt kU))
 (.ret (.tup [(pi (-1)),pF]))
 (.chk (aj (pc o4 4) r1)
 (.call ⟨[],[]⟩ [] 35 155 [(pn (pc o4 4) r1),r2]
 (.ite (ab (pc (.setc mX 0 tu) 1) (pi 0))
 (.ret (.tup [r1,pF]))
 (.chk (aj r3 (pc (.setc mX 0 tu) 1))
 (.ret (.tup [(pn r3 (pc (.setc mX 0 tu) 1)),(pc (.setc mX 0 tu) 2)]))))))))))
def afC:JS.map told=some (XS,[]):=by kernel_rfl
def azO:tree (ae JS)=XS:=aO afC
def A5:Option PC:=cF [5] [] Tryz.f155 155 [2,4]
def Pv:Nat->PC:=bk A5
def as2:PC:=.block 0 [5,6,7,8,9,10] [4] (.loop [5] [4] (b 0))
def Hn (b:Nat->PC):PT:=
 (.ite (af r5 (.llen (pc o2 2)))
 (.chk (aj (pc o2 2) r5)
 (.ite (ab (pc (pn (pc o2 2) r5) 0) r1)
 (.ret (.mk [(pc (.setc o4 0 (pn (pc o2 2) r5)) 0),(pc (.setc o4 0 (pn (pc o2 2) r5)) 1),(pc (.setc o4 0 (pn (pc o2 2) r5)) 2)]))
 (.next ⟨[(5,qo)],[]⟩)))
 (.exit 0 ⟨[(6,r5),(7,pN),(8,(pc o2 2)),(9,(.llen (pc o2 2))),(10,(af r5 (.llen (pc o2 2))))],[]⟩))
def XQ:PT:=
 (.brk ⟨[(5,(pi 0))],[(4,mX),(2,(.mk [r0]))]⟩
(as2 b)
 (.ret (.mk [(pc (.setc o4 0 (.mk [r1,(pi 0),pF])) 0),(pc (.setc o4 0 (.mk [r1,(pi 0),pF])) 1),(pc (.setc o4 0 (.mk [r1,(pi 0),pF])) 2)])))
def anG:PT×List (Shp×PT):=(XQ b,[(.lp 0 [5,6,7,8,9,10] [4] [5] [4],Hn b)])
def Tt:A5.map told=some (anG (bf A5)):=by kernel_rfl
def azM:tree (ae A5)=XQ Pv:=bA Tt
def Vo:round 0 [5,6,7,8,9,10] [4] [5] [4] (Pv 0)=Hn Pv:=aT Tt 0 λ_=>rfl
def JO:Option PC:=cF [7,8] [] Tryz.f121 121 [3,6,9]
def XK:PT:=
 (.call ⟨[],[(6,cU),(3,(.mk [r0]))]⟩ [] 12 137 [(au 4 (.mk [r0])),r1]
 (.ite (aH bG (pi 0))
 (.ret (.tup [MT,bG]))
 (.call ⟨[(18,(pc o3 3))],[]⟩ [] 21 139 [(au 4 o3),r1]
 (.chk (aj ju mY)
 (.call ⟨[],[]⟩ [] 26 138 [(.sub (pn ju mY) 1 3),r2]
 (.call ⟨[(29,(pc zC 0))],[(9,zC)]⟩ [(29,true)] 31 140 [r1]
 (.ret (.tup [(.mk [(pc (.setc o6 0 (.mk [(pc MJ 0),(pc MJ 1)])) 0),(pc (.setc o6 0 (.mk [(pc MJ 0),(pc MJ 1)])) 1)]),(pi 0)]))))))))
def afy:JO.map told=some (XK,[]):=by kernel_rfl
def azG:tree (ae JO)=XK:=aO afy
def JR:Option PC:=cF [4,5,6,7,8,9] [] Tryz.f137 137 [2]
def XP:PT:=
 (.call ⟨[],[(2,(.mk [r0]))]⟩ [] 11 119 [r1]
 (.ite (.nt bK)
 (.ret (pi 1))
 (.call ⟨[],[]⟩ [] 15 139 [(au 4 o2),r1]
 (.ite (af fh (pi 0))
 (.ret (pi 4))
 (.chk (aj (pc o2 3) fh)
 (.call ⟨[],[]⟩ [] 25 156 [(.sub (pn (pc o2 3) fh) 1 3)]
 (.call ⟨[(7,(.tget eM 1)),(6,(.tget eM 0))],[]⟩ [] 30 157 [r1]
 (.ite (.pick (aH r7 (pi 0)) pT (aH r6 (.tget m0 0)))
 (.ret (pi 11))
 (.ret (pi 0))))))))))
def afB:JR.map told=some (XP,[]):=by kernel_rfl
def azL:tree (ae JR)=XP:=aO afB
def A4:Option PC:=cF [4,5] [] Tryz.f139 139 [2]
def Pu:Nat->PC:=bk A4
def as1:PC:=.block 0 [4,5,6,7,8,9,10] [] (.loop [4,5] [] (b 0))
def Hm (b:Nat->PC):PT:=
 (.ite (af r5 zH)
 (.chk (aj (pc o2 3) r5)
 (.ite (ab (pc (pn (pc o2 3) r5) 0) r1)
 (.ret r5)
 (.next ⟨[(5,qo)],[]⟩)))
 (.exit 0 ⟨[(6,r5),(7,pN),(8,(pc o2 3)),(9,zH),(10,(af r5 zH))],[]⟩))
def XN:PT:=
 (.brk ⟨[(5,(pi 0)),(4,(pi 0))],[(2,(.mk [r0]))]⟩
(as1 b)
 (.ret (pi (-1))))
def anF:PT×List (Shp×PT):=(XN b,[(.lp 0 [4,5,6,7,8,9,10] [] [4,5] [],Hm b)])
def Ts:A4.map told=some (anF (bf A4)):=by kernel_rfl
def azJ:tree (ae A4)=XN Pu:=bA Ts
def Vn:round 0 [4,5,6,7,8,9,10] [] [4,5] [] (Pu 0)=Hm Pu:=aT Ts 0 λ_=>rfl
def JB:Option PC:=cF [2,3] [] Tryz.f156 156 [1]
def XD:PT:=
 (.call ⟨[],[(1,(.mk [r0]))]⟩ [] 5 92 [GJ,(pi 60),(pi 8)]
 (.ite (af r5 (pi 0))
 (.ret (.tup [(pi 0),(pi 6)]))
 (.call ⟨[],[]⟩ [] 8 173 [MN]
 (.ret (.tup [(.tget r8 0),(.tget r8 1)])))))
def afk:JB.map told=some (XD,[]):=by kernel_rfl
def azr:tree (ae JB)=XD:=aO afk
def A2:Option PC:=cF [2,3,5,6,7,8,9,10] [] Tryz.f173 173 [1,4,33]
def Ps:Nat->PC:=bk A2
def asZ:PC:=.block 0 [2,3,4,5,12,13,14,15,16] [4] (.loop [2,3,4,5] [4] (b 0))
def Hk (b:Nat->PC):PT:=
 (.ite (af r5 oX)
 (.blockS ⟨[],[]⟩ 1 [2,3,4,6,7,19,20,21,22,23,24,25,26,27,28,29,32,33,34] [4,33]
 (.chk (aj (pc o1 2) r5)
 (.call ⟨[],[]⟩ [] 25 173 [(pn (pc o1 2) r5)]
 (.ite (aH (.tget eM 1) (pi 0))
 (.ret (.tup [(pi 0),(.tget eM 1)]))
 (.chk (bl (.llen (.app o4 (.lst [(.tget eM 0)]))) cj)
 (.next ⟨[(4,pN)],[(4,(.app o4 (.lst [(.tget eM 0)])))]⟩)))))
 (.next ⟨[(5,qo)],[]⟩))
 (.exit 0 ⟨[(12,r5),(13,pN),(14,(pc o1 2)),(15,oX),(16,(af r5 oX))],[]⟩))
def XJ:PT:=
 (.brk ⟨[(5,(pi 0)),(4,pN),(3,(pi 0)),(2,(pi 0))],[(4,(.lst [])),(1,(.mk [r0]))]⟩
(asZ b)
 (.ite (.pick (af (pc o1 0) (pi 0)) pT (bP (pc o1 0) (pi 14)))
 (.ret (.tup [(pi 0),(pi 1)]))
 (.call ⟨[],[]⟩ [] 45 178 [(pc o1 0)]
 (.ite (.pick (aH (.llen o4) pf) pT (.pick (aR pf (pi 0)) (aH (pc o1 1) (pi 0)) pF))
 (.ret (.tup [(pi 0),(pi 2)]))
 (.iteS ⟨[],[]⟩ (ab pf (pi 0)) [2,3] []
 (.call ⟨[],[]⟩ [] 62 179 [MN]
 (.ret (.tup [(.tget m6 0),(.tget m6 1)])))
 (.next ⟨[],[]⟩)
 (.call ⟨[],[]⟩ [] 69 180 [(pc o1 0),o4]
 (.ite (.nt (.tget tw 1))
 (.ret (.tup [(pi 0),(pi 11)]))
 (.ret (.tup [(.tget tw 0),(pi 0)])))))))))
def anD:PT×List (Shp×PT):=(XJ b,[(.lp 0 [2,3,4,5,12,13,14,15,16] [4] [2,3,4,5] [4],Hk b)])
def Tq:A2.map told=some (anD (bf A2)):=by kernel_rfl
def azF:tree (ae A2)=XJ Ps:=bA Tq
def Vl:round 0 [2,3,4,5,12,13,14,15,16] [4] [2,3,4,5] [4] (Ps 0)=Hk Ps:=aT Tq 0 λ_=>rfl
def JI:Option PC:=cF [2,4,8,10] [] Tryz.f178 178 []
def xB:PT:=
 (.ite (.pick (ab r0 (pi 0)) (ab r0 (pi 0)) (.pick (ab r0 (pi 1)) (ab r0 (pi 1)) (ab r0 (pi 2))))
 (.ret (pi 0))
 (.ite (ab r0 (pi 3))
 (.ret (pi 1))
 (.ite (ab r0 (pi 6))
 (.ret (pi 3))
 (.ret (pi 2)))))
def afr:JI.map told=some (xB,[]):=by kernel_rfl
def azy:tree (ae JI)=xB:=aO afr
def JK:Option PC:=cF [2,3,4,5] [] Tryz.f179 179 [1]
def xC:PT:=
 (.ite (ab lG (pi 0))
 (.ite (.pick (af oU (pi (-1099511627776))) pT (aR oU lF))
 (.ret (.tup [(pi 0),(pi 3)]))
 (.ret (.tup [(pi 0),(pi 0)])))
 (.ite (ab lG (pi 1))
 (.ite (.pick (aH oU (pi 0)) (aH oU (pi 1)) pF)
 (.ret (.tup [(pi 0),(pi 3)]))
 (.ret (.tup [(pi 1),(pi 0)])))
 (.call ⟨[],[]⟩ [] 31 181 [oU]
 (.ite (.nt (.tget rM 1))
 (.ret (.tup [(pi 0),(pi 10)]))
 (.ret (.tup [(.tget rM 0),(pi 0)]))))))
def afu:JK.map told=some (xC,[]):=by kernel_rfl
def azB:tree (ae JK)=xC:=aO afu
def JH:Option PC:=cF [2,3] [] Tryz.f181 181 []
def DI:PT:=
 (.ite (.pick (af r0 (pi 0)) pT (bP r0 (pi 20)))
 (.ret (.tup [(pi 0),pF]))
 (.ite (bl r0 (pi 6))
 (.ret (.tup [(pi 0),pT]))
 (.ret (.tup [(pi 1),pT]))))
def afq:JH.map told=some (DI,[]):=by kernel_rfl
def azx:tree (ae JH)=DI:=aO afq
def JJ:Option PC:=cF [4,5,7,13,26,44,56] [] Tryz.f180 180 []
def vB:PT:=
 (.ite (ab r0 (pi 3))
 (.chk tn
 (.ret (.tup [(pi 1),CZ])))
 (.ite (.pick (ab r0 (pi 4)) (ab r0 (pi 4)) (ab r0 (pi 5)))
 (.chk tn
 (.chk (.nt (.an (.an CZ pT) (.nt rL)))
 (.ret (.tup [(pi 1),(.pick CZ (ab lH (pi 1)) pF)]))))
 (.ite (ab r0 (pi 6))
 (.chk rL
 (.chk tn
 (.chk (.nt (.an (.an CZ pT) (.nt rL)))
 (.chk (.nt (.an (.an CZ pT) (.nt (aj r1 (pi 2)))))
 (.ret (.tup [lH,(.pick CZ (ab lH (pn r1 (pi 2))) pF)]))))))
 (.ite (ab r0 (pi 7))
 (.chk tn
 (.chk (.nt (.an (.an (ab oV (pi 0)) pT) (.nt rL)))
 (.ret (.tup [(pi 1),(.pick (ab oV (pi 0)) (ab lH (pi 0)) pF)]))))
 (.ite (ab r0 (pi 8))
 (.chk tn
 (.chk rL
 (.ret (.tup [(pi 1),(ab oV lH)]))))
 (.chk tn
 (.chk (.nt (.an (.an (ab oV (pi 0)) pT) (.nt rL)))
 (.ret (.tup [(pi 0),(.pick (ab oV (pi 0)) (ab lH (pi 0)) pF)])))))))))
def afs:JJ.map told=some (vB,[]):=by kernel_rfl
def azA:tree (ae JJ)=vB:=aO afs
def JQ:Option PC:=cF [2,3] [] Tryz.f157 157 []
def XO:PT:=
 (.call ⟨[],[]⟩ [] 5 119 [r0]
 (.ite (.nt r5)
 (.ret (.tup [(pi 0),pF]))
 (.call ⟨[],[]⟩ [] 8 140 [r0]
 (.ite r8
 (.ret (.tup [(pi 1),pT]))
 (.ret (.tup [(pi 0),pT]))))))
def afA:JQ.map told=some (XO,[]):=by kernel_rfl
def azK:tree (ae JQ)=XO:=aO afA
def Jh:Option PC:=cF [2,4] [] Tryz.f140 140 []
def N8:PT:=
 (.ite (.pick (ab r0 (pi 6)) (ab r0 (pi 6)) (.pick (ab r0 (pi 7)) (ab r0 (pi 7)) (.pick (ab r0 (pi 10)) (ab r0 (pi 10)) (.pick (ab r0 (pi 12)) (ab r0 (pi 12)) (.pick (ab r0 (pi 13)) (ab r0 (pi 13)) (.pick (ab r0 (pi 14)) (ab r0 (pi 14)) (.pick (ab r0 (pi 15)) (ab r0 (pi 15)) (.pick (ab r0 (pi 16)) (ab r0 (pi 16)) (.pick (ab r0 (pi 20)) (ab r0 (pi 20)) (ab r0 (pi 21)))))))))))
 (.ret pF)
 (.call ⟨[],[]⟩ [] 16 63 [r0,(pi 0),(pi 21)]
 (.ret dH)))
def ae0:Jh.map told=some (N8,[]):=by kernel_rfl
def ayM:tree (ae Jh)=N8:=aO ae0
def JD:Option PC:=cF [5,6] [] Tryz.f138 138 [2,4]
def XE:PT:=
 (.call ⟨[],[(4,cU),(2,(.mk [r0]))]⟩ [] 9 156 [GJ]
 (.ite (aH (.tget r9 1) (pi 0))
 (.ret vc)
 (.call ⟨[],[]⟩ [] 17 158 [(.mk [(pc o2 0),(pc o2 1),(pc o2 2)]),r1]
 (.ret (.mk [(pc (.setc o4 0 kT) 0),(pc (.setc o4 0 kT) 1)])))))
def afm:JD.map told=some (XE,[]):=by kernel_rfl
def azt:tree (ae JD)=XE:=aO afm
end Rm
