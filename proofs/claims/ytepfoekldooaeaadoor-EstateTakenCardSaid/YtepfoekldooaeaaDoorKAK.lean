/-
  The functions of this seat, compiled (1).
-/
import Derived.Test.YtepfoekldooaeaaDoorKAJ
import Derived.KernelRfl
set_option linter.unusedVariables false
set_option maxRecDepth 100000
namespace Rm
open Go Go.Proofs Cx
noncomputable def vR:Option PC:=aB {ctx with fr:=[8,9,10,11,12,13,14,16,17,18],nh:=[]} Tryd.f3 ((ab ah 3).getD default) [4,6,7,15]
noncomputable def Dk:PC:=aA vR
noncomputable def F6:Nat→PC:=bL vR
def aix (b:Nat→PC):PC:=.block 0 [8,12,13,14,59,60,61,62,63] [] (.loop [8,12,13,14] [] (b 0))
def E6 (b:Nat→PC):PT:=
 (.ite (aj bG (.llen (pc o6 17)))
 (.blockS ⟨[],[]⟩ 1 [8,12,13,15,16,17,18,66,67,68,69,70,71,72,73,74,81,82,83,84,85,86,87,88,89,90,91,92,93,94,100,101,107,108,111,112,120,121,122,123,124] [15]
 (.chk (aq (pc o6 17) bG)
 (.ite (aj bF (.llen bY))
 (.chk (aq bY bF)
 (.call ⟨[(16,(ao (pn bY bF) bG))],[(15,(.setc z9 0 (pn (pc o6 17) bG)))]⟩ [] 89 11 [(aQ 8 o4),r1,(pi 21),U1]
 (.call ⟨[],[]⟩ [] 90 10 [KV]
 (.ite UN
 (.ret pF)
 (.next ⟨[(12,(.pick cg (aL bZ (pc tZ 5)) bZ)),(13,(.pick cg (aL bF (pi 1)) bF))],[]⟩)))))
 (.call ⟨[(16,pF)],[(15,(.setc z9 0 (pn (pc o6 17) bG)))]⟩ [] 89 11 [(aQ 8 o4),r1,(pi 21),U1]
 (.call ⟨[],[]⟩ [] 90 10 [KV]
 (.ite UN
 (.ret pF)
 (.next ⟨[(12,(.pick cg (aL bZ (pc tZ 5)) bZ)),(13,(.pick cg (aL bF (pi 1)) bF))],[]⟩))))))
 (.next ⟨[(14,(aL bG (pi 1)))],[]⟩))
 (.exit 0 ⟨[(59,bG),(60,pN),(61,(pc o6 17)),(62,(.llen (pc o6 17))),(63,(aj bG (.llen (pc o6 17))))],[]⟩))
def Md (b:Nat→PC):PT:=
 (.call ⟨[(8,pF)],[(7,(.mk [r3])),(6,(.mk [r2])),(4,(.mk [r0]))]⟩ [] 19 4 []
 (.call ⟨[(9,gJ)],[]⟩ [] 22 5 [(aQ 8 o4),(aQ 19 o6)]
 (.call ⟨[(24,(.nt Vc))],[]⟩ [(24,false)] 26 6 [(aQ 8 o4)]
 (.call ⟨[(29,(.pick lZ pT (aT kO (pi 0))))],[]⟩ [(29,false)] 31 7 [(aQ 19 o6)]
 (.call ⟨[(34,(.pick gn pT (.nt sk)))],[]⟩ [(34,false)] 37 8 [(aQ 8 o4),(aQ 19 o6)]
 (.ite (.pick (.pick (.pick r34 pT (aT jB (pi 0))) pT (aj (pc o7 1) (pi 0))) pT (bm (pc o7 1) (pi 100000)))
 (.ret r9)
 (.call ⟨[],[]⟩ [] 56 9 [(aQ 8 o4),r1,(aQ 19 o6),(.mk [(pc o7 0),(pc o7 1),(pc o7 2)])]
 (.brk ⟨[(14,(pi 0)),(13,(pi 0)),(12,(pi 0)),(11,(.tget kQ 1)),(10,(.tget kQ 0))],[]⟩
(aix b)
 (.ret (.pick (.pick r9 (ao bF (.llen bY)) pF) (ao bZ bl) pF))))))))))
def adl (b:Nat→PC):PT×List (Shp×PT):=(Md b,[(.lp 0 [8,12,13,14,59,60,61,62,63] [] [8,12,13,14] [],E6 b)])
theorem JM:vR.map told=some (adl (az vR)):=by kernel_rfl
theorem anP:tree Dk=Md F6:=aP JM
theorem Vp:round 0 [8,12,13,14,59,60,61,62,63] [] [8,12,13,14] [] (F6 0)=E6 F6:=bI JM 0 fun _=>rfl
theorem ZR:vR=some Dk:=aE JM
noncomputable def vS:Option PC:=aB {ctx with fr:=[0,1,2,3,4,5,6,7],nh:=[]} Tryd.f4 ((ab ah 4).getD default) []
noncomputable def Ks:PC:=aA vS
def anQ:PT:=
 (.call ⟨[],[]⟩ [] 14 12 [(.lst [(pi 50)]),(.lst [(pi 100),(pi 100)]),(.lst [(.mk [(pi 0),(pi 0),(pi 100)]),(.mk [(pi 1),(pi 0),(pi 100)])]),(.lst [(pi 25),(pi 25)])]
 (.call ⟨[(1,bG)],[]⟩ [] 21 12 [(.lst [(pi 50),(pi 80)]),(.lst [(pi 100)]),(.lst [(.mk [(pi 0),(pi 0),(pi 100)]),(.mk [(pi 0),(pi 1),(pi 100)])]),(.lst [(pi 50),(pi 50)])]
 (.call ⟨[(2,lX)],[]⟩ [] 29 12 [(.lst [(pi 10)]),(.lst [(pi 7),(pi 7),(pi 7)]),(.lst [(.mk [(pi 0),(pi 0),(pi 7)]),(.mk [(pi 1),(pi 0),(pi 7)]),(.mk [(pi 2),(pi 0),(pi 7)])]),(.lst [(pi 3),(pi 3),(pi 3)])]
 (.call ⟨[(3,gn)],[]⟩ [] 37 12 [(.lst [(pi 90),(pi 60)]),(.lst [(pi 100),(pi 20)]),(.lst [(.mk [(pi 0),(pi 0),(pi 100)]),(.mk [(pi 0),(pi 1),(pi 100)]),(.mk [(pi 1),(pi 1),(pi 20)])]),(.lst [(pi 90),(pi 10),(pi 20)])]
 (.call ⟨[(4,jB)],[]⟩ [] 42 13 [pL,(.lst [(pi 5)]),(.lst [(.mk [(pi 0),(pi 0),(pi 5)])])]
 (.call ⟨[(6,(.tget E0 1))],[]⟩ [] 52 14 [(.lst [(.mk [(pi 0),(pi 0),(pi 10)])]),(.lst [(.mk [(pi 0),(pi 0),(pi 7)])]),(.lst [(.mk [(pi 0),(pi 3)]),(.mk [(pi 1),(pi 5)])])]
 (.call ⟨[(67,(.pick (.pick (.pick (.pick r1 r2 pF) r3 pF) r4 pF) (ao r6 (pi 1)) pF))],[]⟩ [(67,true)] 70 15 [ot,(.lst [(pi 7)])]
 (.call ⟨[(72,(.pick mZ Vi pF))],[]⟩ [(72,true)] 77 16 [(.lst [(.mk [(pi 0),(pi 0),(pi 7)])]),(.lst [(.mk [(pi 0),(pi 3)])]),(pi 0)]
 (.call ⟨[(80,(.pick y9 (ao KT (pi 3)) pF))],[]⟩ [(80,true)] 81 17 [pL,pL,pL]
 (.ret (.pick pZ p5 pF)))))))))))
def adm (b:Nat→PC):PT×List (Shp×PT):=(anQ,[])
theorem akw:vS.map told=some (adm (az vS)):=by kernel_rfl
theorem OA:vS=some Ks:=aE akw
noncomputable def vT:Option PC:=aB {ctx with fr:=[8,10,11,12,13],nh:=[]} Tryd.f12 ((ab ah 12).getD default) [9,26]
noncomputable def Kt:PC:=aA vT
def aiy (b:Nat→PC):PC:=.block 0 [9,10,14,15,16,17] [9] (.loop [9,10] [9] (b 0))
def aiz (b:Nat→PC):PC:=.block 2 [8,13,44,45,46,47] [] (.loop [8,13] [] (b 1))
def amh (b:Nat→PC):PT:=
 (.ite (aj bY (.llen r0))
 (.chk (aq r0 bY)
 (.chk (bO (.llen (.app o9 (.lst [(.mk [(pi 0),(pi 0),(pn r0 bY)])]))) cq)
 (.next ⟨[(9,pN),(10,(aL bY (pi 1)))],[(9,(.app o9 (.lst [(.mk [(pi 0),(pi 0),(pn r0 bY)])])))]⟩)))
 (.exit 0 ⟨[(14,bY),(15,r0),(16,(.llen r0)),(17,(aj bY (.llen r0)))],[]⟩))
def ami (b:Nat→PC):PT:=
 (.ite (aj bF (.llen bl))
 (.chk (aq bl bF)
 (.chk (aq r3 bF)
 (.ite (.nt (.an (ao (pc pP 0) (pc (.mk [bF,(pn r3 bF)]) 0)) (.an (ao (pc pP 1) (pc (.mk [bF,(pn r3 bF)]) 1)) pT)))
 (.ret pF)
 (.next ⟨[(13,(aL bF (pi 1)))],[]⟩))))
 (.exit 2 ⟨[(44,bF),(45,bl),(46,(.llen bl)),(47,(aj bF (.llen bl)))],[]⟩))
def anR (b:Nat→PC):PT:=
 (.brk ⟨[(10,(pi 0)),(9,pN),(8,pF)],[(9,pL)]⟩
(aiy b)
 (.call ⟨[],[]⟩ [] 32 13 [o9,r1,r2]
 (.ite (.pick (aT (.tget uI 1) (pi 0)) pT (aT (.llen (.tget uI 0)) (.llen r3)))
 (.ret pF)
 (.brk ⟨[(13,(pi 0)),(11,(.tget uI 0))],[]⟩
(aiz b)
 (.ret pT)))))
def adn (b:Nat→PC):PT×List (Shp×PT):=(anR b,[(.lp 0 [9,10,14,15,16,17] [9] [9,10] [9],amh b),(.lp 2 [8,13,44,45,46,47] [] [8,13] [],ami b)])
theorem akx:vT.map told=some (adn (az vT)):=by kernel_rfl
theorem OB:vT=some Kt:=aE akx
noncomputable def vL:Option PC:=aB {ctx with fr:=[6,7,9,11,13,15,17],nh:=[]} Tryd.f13 ((ab ah 13).getD default) [5,8,4104,31,10,4106,12,14,16]
noncomputable def Km:PC:=aA vL
def aiq (b:Nat→PC):PC:=.block 0 [25,26] [4104,8] (.loop [25] [4104,8] (b 0))
def air (b:Nat→PC):PC:=.block 6 [51,52] [14] (.loop [51] [14] (b 1))
def ais (b:Nat→PC):PC:=.block 4 [13,14,17,46,47,49,50,51,52,80,81,82,83,84,85,86,87] [14,8,4104,10,4106,5] (.loop [13] [8,4104,10,4106,5] (b 2))
def ait (b:Nat→PC):PC:=.block 2 [39,40] [5,4106,10,4104,8] (.loop [39] [5,4106,10,4104,8] (b 3))
def amb (b:Nat→PC):PT:=
 (.ite (aj fV lZ)
 (.chk (bO (.llen (.app (.o 4104) (.lst [(.mk [fV,(pi 0)])]))) cq)
 (.next ⟨[(25,(aL fV (pi 1)))],[(4104,(.app (.o 4104) (.lst [(.mk [fV,(pi 0)])]))),(8,(.setc o8 0 pN))]⟩))
 (.exit 0 ⟨[(26,(aj fV lZ))],[]⟩))
def amc (b:Nat→PC):PT:=
 (.ite (aj eT gK)
 (.chk (aq mY eT)
 (.chk (aq (.o 4104) eT)
 (.chk (aq r1 (pc y2 0))
 (.chk (aq (.o 4106) (pc y2 0))
 (.chk (aq rP eT)
 (.next ⟨[(51,(aL eT (pi 1)))],[(14,(.setn rP eT 0 (.mn (bS (pc y2 2) (pc (pn (.o 4104) eT) 1)) (bS (pn r1 (pc y2 0)) (pn (.o 4106) (pc y2 0))))))]⟩))))))
 (.exit 6 ⟨[(52,(aj eT gK))],[]⟩))
def amd (b:Nat→PC):PT:=
 (.blockS ⟨[],[]⟩ 5 [13,14,17,46,47,49,50,51,52,80,81,82,83,84,85,86,87,88,89,90] [14,8,4104,10,4106,5]
 (.chk (.an (aY pS (pi 0)) (bO pS cq))
 (.chk (ao pS pS)
 (.brk ⟨[(51,(pi 0)),(50,pS),(49,(pc o5 0)),(14,pN),(47,pS),(46,(pc o5 0))],[(14,(.rep pS (pi 0)))]⟩
(air b)
 (.mcall ⟨[(84,pN),(83,(pc o5 0)),(82,bG),(81,bF),(80,bl)],[]⟩ 1000000013 39 [bl,bF,rP,(pc o5 0),pN,o8,(.o 4104),cw,(.o 4106),o5]
 (.ite (ao uD (pi 0))
 (.exit 4 ⟨[(87,(ao uD (pi 0))),(86,uD),(17,uD),(85,uD)],[(5,(.tget (.o 1000000013) 5)),(4106,(.tget (.o 1000000013) 4)),(10,(.tget (.o 1000000013) 3)),(4104,(.tget (.o 1000000013) 2)),(8,(.tget (.o 1000000013) 1))]⟩)
 (.next ⟨[(13,(bS bF uD))],[(5,(.tget (.o 1000000013) 5)),(4106,(.tget (.o 1000000013) 4)),(10,(.tget (.o 1000000013) 3)),(4104,(.tget (.o 1000000013) 2)),(8,(.tget (.o 1000000013) 1))]⟩))))))
 (.next ⟨[],[]⟩))
def ame (b:Nat→PC):PT:=
 (.ite (aj kP fB)
 (.blockS ⟨[(40,(aj kP fB))],[]⟩ 3 [11,12,13,14,17,41,42,43,44,45,46,47,49,50,51,52,80,81,82,83,84,85,86,87] [12,14,8,4104,10,4106,5]
 (.chk (aq jB kP)
 (.brk ⟨[(13,(pc (.setc z3 0 (pn jB kP)) 2)),(11,kP)],[]⟩
(ais b)
 (.next ⟨[],[]⟩)))
 (.next ⟨[(39,(aL kP (pi 1)))],[]⟩))
 (.exit 2 ⟨[(40,(aj kP fB))],[]⟩))
def anJ (b:Nat→PC):PT:=
 (.call ⟨[],[(5,(.mk [r2]))]⟩ [] 21 17 [r0,r1,(pc (.mk [r2]) 0)]
 (.ite (.nt lX)
 (.ret (.tup [pL,(pi 1)]))
 (.brk ⟨[(25,(pi 0)),(24,pS)],[(4104,pL),(8,(.con (.agg [(.list [])])))]⟩
(aiq b)
 (.chk (.an (aY (.llen r1) (pi 0)) (bO (.llen r1) cq))
 (.chk (ao (.llen r1) (.llen r1))
 (.brk ⟨[(39,(pi 0)),(38,(.llen r0)),(37,r0)],[(4106,(.rep (.llen r1) (pi 0))),(10,(.setc (.con (.agg [(.list [])])) 0 pN))]⟩
(ait b)
 (.ret (.tup [(.o 4104),(pi 0)]))))))))
def adf (b:Nat→PC):PT×List (Shp×PT):=(anJ b,[(.lp 0 [25,26] [4104,8] [25] [4104,8],amb b),(.lp 6 [51,52] [14] [51] [14],amc b),(.lp 4 [13,14,17,46,47,49,50,51,52,80,81,82,83,84,85,86,87] [14,8,4104,10,4106,5] [13] [8,4104,10,4106,5],amd b),(.lp 2 [39,40] [5,4106,10,4104,8] [39] [5,4106,10,4104,8],ame b)])
theorem akr:vL.map told=some (adf (az vL)):=by kernel_rfl
theorem Ow:vL=some Km:=aE akr
noncomputable def vK:Option PC:=aB {ctx with fr:=[6,10],nh:=[]} Tryd.f17 ((ab ah 17).getD default) [8,11,13,14]
noncomputable def Kl:PC:=aA vK
def ain (b:Nat→PC):PC:=.block 0 [6,30,31] [] (.loop [6,30] [] (b 0))
def aio (b:Nat→PC):PC:=.block 2 [6,41,42] [] (.loop [6,41] [] (b 1))
def aip (b:Nat→PC):PC:=.block 4 [6,52,53] [11] (.loop [6,52] [11] (b 2))
def al8 (b:Nat→PC):PT:=
 (.ite (aj pW gn)
 (.blockS ⟨[],[]⟩ 1 [6,8,32,33,34,35,36,37] [8]
 (.chk (aq oq pW)
 (.call ⟨[],[]⟩ [] 36 41 [(pc (.setc z3 0 (pn oq pW)) 2),(pi 0),pR]
 (.ite (.nt mU)
 (.ret pF)
 (.next ⟨[],[]⟩))))
 (.next ⟨[(30,(aL pW (pi 1)))],[]⟩))
 (.exit 0 ⟨[(31,(aj pW gn))],[]⟩))
def al9 (b:Nat→PC):PT:=
 (.ite (aj iy mV)
 (.blockS ⟨[],[]⟩ 3 [6,10,43,44,45,46,47] []
 (.chk (aq kP iy)
 (.call ⟨[],[]⟩ [] 46 41 [(pn kP iy),(pi 1),pR]
 (.ite (.nt y5)
 (.ret pF)
 (.next ⟨[],[]⟩))))
 (.next ⟨[(41,(aL iy (pi 1)))],[]⟩))
 (.exit 2 ⟨[(42,(aj iy mV))],[]⟩))
def ama (b:Nat→PC):PT:=
 (.ite (aj ot eT)
 (.blockS ⟨[],[]⟩ 5 [6,13,14,54,55,56,57,58,59,60,61,62,63,64,65,66,67,68,76,77,81,82,92,93,94] [13,14,11]
 (.chk (aq gK ot)
 (.call ⟨[],[(14,(.setc z2 0 (.mk [(pc EX 0),(pc EX 1)]))),(13,EX)]⟩ [] 66 41 [(pc EX 0),(pi 0),(bS (.llen r1) (pi 1))]
 (.call ⟨[(68,(.nt Vh))],[]⟩ [(68,false)] 74 41 [(pc rO 1),(pi 0),(bS (.llen r0) (pi 1))]
 (.chk (.nt (.an (.an (.nt U3) pT) (.nt (aq r1 (pc rO 0)))))
 (.call ⟨[(82,U3)],[]⟩ [(82,false)] 90 41 [(pc rO 2),(pi 1),(pn r1 (pc rO 0))]
 (.ite (.pick gL pT (.nt E3))
 (.ret pF)
 (.chk (aj (.mlen pG) cq)
 (.next ⟨[],[(11,(.put pG (.mk [(pc rP 0),(pc rP 1)]) pT))]⟩))))))))
 (.next ⟨[(52,(aL ot (pi 1)))],[]⟩))
 (.exit 4 ⟨[(53,(aj ot eT))],[]⟩))
def anI (b:Nat→PC):PT:=
 (.ite (.pick (.pick (bm (.llen r0) (pi 10)) pT (bm (.llen r1) (pi 50))) pT (bm (.llen r2) (pi 100)))
 (.ret pF)
 (.brk ⟨[(30,(pi 0)),(29,(.llen r0)),(28,r0),(6,pF)],[]⟩
(ain b)
 (.brk ⟨[(41,(pi 0)),(40,(.llen r1)),(39,r1)],[]⟩
(aio b)
 (.brk ⟨[(52,(pi 0)),(51,(.llen r2)),(50,r2),(11,pN)],[(11,(.con (.map [])))]⟩
(aip b)
 (.ret pT)))))
def ade (b:Nat→PC):PT×List (Shp×PT):=(anI b,[(.lp 0 [6,30,31] [] [6,30] [],al8 b),(.lp 2 [6,41,42] [] [6,41] [],al9 b),(.lp 4 [6,52,53] [11] [6,52] [11],ama b)])
theorem akq:vK.map told=some (ade (az vK)):=by kernel_rfl
theorem Ou:vK=some Kl:=aE akq
noncomputable def vO:Option PC:=aB {ctx with fr:=[6],nh:=[]} Tryd.f41 ((ab ah 41).getD default) []
noncomputable def Kp:PC:=aA vO
def anM:PT:=
 (.ret (.pick (aY r0 r1) (bO r0 r2) pF))
def adi (b:Nat→PC):PT×List (Shp×PT):=(anM,[])
theorem akt:vO.map told=some (adi (az vO)):=by kernel_rfl
theorem Ox:vO=some Kp:=aE akt
noncomputable def vQ:Option PC:=aB {ctx with fr:=[10,11,12,14,15,17],nh:=[]} Tryd.f39 ((ab ah 39).getD default) [900,901,902,903,904,13,16]
noncomputable def Kr:PC:=aA vQ
def aiv (b:Nat→PC):PC:=.block 0 [11,20,21] [] (.loop [11,20] [] (b 0))
def aiw (b:Nat→PC):PC:=.block 2 [14,43,44] [904,903,902,901,900] (.loop [14,43] [904,903,902,901,900] (b 1))
def amf (b:Nat→PC):PT:=
 (.ite (aj fj gJ)
 (.chk (aq fA fj)
 (.chk (.nt (.an (.an (ao (pc (.setc z3 0 oo) 1) r0) pT) (.nt (aq r2 fj))))
 (.next ⟨[(11,(.pick (.pick (ao (pc (.setc z3 0 oo) 1) r0) (bm (pn r2 fj) (pi 0)) pF) (aL bl (pc (.setc z3 0 oo) 2)) bl)),(20,(aL fj (pi 1)))],[]⟩)))
 (.exit 0 ⟨[(21,(aj fj gJ))],[]⟩))
def amg (b:Nat→PC):PT:=
 (.ite (aj gp E0)
 (.blockS ⟨[],[]⟩ 3 [14,15,16,45,46,47,48,49,50,51,52,58] [16,900,901,902,903,904]
 (.chk (aq iy gp)
 (.chk (.nt (.an (.an (ao (pc (.setc z3 0 (pn iy gp)) 1) r0) pT) (.nt (aq r2 gp))))
 (.iteS ⟨[(15,gp)],[(16,(.setc z3 0 (pn iy gp)))]⟩ (.pick (ao (pc (.setc z3 0 (pn iy gp)) 1) r0) (bm (pn r2 gp) (pi 0)) pF) [14] [900,901,902,903,904]
 (.chk (aq r2 cZ)
 (.call ⟨[(62,(pn r2 cZ))],[]⟩ [] 67 58 [r1,(pc o16 2),bl]
 (.mcall ⟨[(14,(aL bG (.mn j7 mZ)))],[]⟩ 1000000013 40 [cZ,(.mn j7 mZ),pN,pN,pN,(.o 900),(.o 901),(.o 902),(.o 903),(.o 904)]
 (.next ⟨[],[(904,(.tget (.o 1000000013) 5)),(903,(.tget (.o 1000000013) 4)),(902,(.tget (.o 1000000013) 3)),(901,(.tget (.o 1000000013) 2)),(900,(.tget (.o 1000000013) 1))]⟩))))
 (.next ⟨[],[]⟩)
 (.next ⟨[],[]⟩))))
 (.next ⟨[(43,(aL gp (pi 1)))],[]⟩))
 (.exit 2 ⟨[(44,(aj gp E0))],[]⟩))
def anO (b:Nat→PC):PT:=
 (.brk ⟨[(20,(pi 0)),(19,(.llen r3)),(18,r3),(11,(pi 0))],[(900,r5),(901,r6),(902,r7),(903,r8),(904,r9)]⟩
(aiv b)
 (.brk ⟨[(43,(pi 0)),(42,(.llen r3)),(41,r3),(14,(pi 0))],[]⟩
(aiw b)
 (.ret (.tup [bG,(.o 900),(.o 901),(.o 902),(.o 903),(.o 904)]))))
def adk (b:Nat→PC):PT×List (Shp×PT):=(anO b,[(.lp 0 [11,20,21] [] [11,20] [],amf b),(.lp 2 [14,43,44] [904,903,902,901,900] [14,43] [904,903,902,901,900],amg b)])
theorem akv:vQ.map told=some (adk (az vQ)):=by kernel_rfl
theorem Oz:vQ=some Kr:=aE akv
noncomputable def vP:Option PC:=aB {ctx with fr:=[6,7,8,9,10],nh:=[]} Tryd.f58 ((ab ah 58).getD default) []
noncomputable def Kq:PC:=aA vP
def anN:PT:=
 (.call ⟨[],[]⟩ [] 16 75 [(.conv .u64 r0),(.conv .u64 r1)]
 (.call ⟨[],[]⟩ [] 24 76 [(.tget cg 0),(.tget cg 1),(.conv .u64 r2)]
 (.ret (.conv .i64 (.tget lZ 0)))))
def adj (b:Nat→PC):PT×List (Shp×PT):=(anN,[])
theorem aku:vP.map told=some (adj (az vP)):=by kernel_rfl
theorem Oy:vP=some Kq:=aE aku
noncomputable def vE:Option PC:=aB {ctx with fr:=[4,5,6,7,8,9,10,11,12,13],nh:=[]} Tryd.f75 ((ab ah 75).getD default) []
noncomputable def Da:PC:=aA vE
def L5:PT:=
 (.chk uF
 (.ret (.tup [(.ai .add .u64 (.ai .add .u64 (.ai .mul .u64 oh (.ai .shr .u64 r1 pO)) (.ai .shr .u64 UR pO)) (.ai .shr .u64 (.ai .add .u64 (.ai .and .u64 UR rX) (.ai .mul .u64 (.ai .and .u64 r0 rX) (.ai .shr .u64 r1 pO))) pO)),(.ai .mul .u64 r0 r1)])))
def ac2 (b:Nat→PC):PT×List (Shp×PT):=(L5,[])
theorem TF:vE.map told=some (ac2 (az vE)):=by kernel_rfl
theorem anx:tree Da=L5:=aP TF
theorem Oo:vE=some Da:=aE TF
noncomputable def vB:Option PC:=aB {ctx with fr:=[6,7,8,2,9,10,11,12,13,14,15,16,17,18],nh:=[]} Tryd.f76 ((ab ah 76).getD default) []
noncomputable def Kg:PC:=aA vB
def CG (b:Nat→PC):PC:=.block 0 [15,16,67,68,69,78] [] (.loop [15,16] [] (b 0))
def CH (b:Nat→PC):PC:=.block 2 [16,18,102,103,104,113] [] (.loop [16,18] [] (b 1))
def al0 (b:Nat→PC):PT:=
 (.ite KJ
 (.ite (aY uE gI)
 (.exit 0 ⟨[(15,(.ai .sub .u64 cZ EY)),(16,uE),(67,cZ),(68,(aY cZ gI)),(69,(aY cZ gI)),(78,KJ)],[]⟩)
 (.next ⟨[(15,(.ai .sub .u64 cZ EY)),(16,uE)],[]⟩))
 (.exit 0 ⟨[(67,cZ),(68,(aY cZ gI)),(69,(aY cZ gI)),(78,KJ)],[]⟩))
def al3 (b:Nat→PC):PT:=
 (.ite KI
 (.ite (aY uE gI)
 (.exit 2 ⟨[(16,uE),(18,(.ai .sub .u64 fA EY)),(102,fA),(103,(aY fA gI)),(104,(aY fA gI)),(113,KI)],[]⟩)
 (.next ⟨[(16,uE),(18,(.ai .sub .u64 fA EY))],[]⟩))
 (.exit 2 ⟨[(102,fA),(103,(aY fA gI)),(104,(aY fA gI)),(113,KI)],[]⟩))
def anu (b:Nat→PC):PT:=
 (.ite (ao r2 (.con (.v (.int .u64 0))))
 (.chk pF
 (.chk (.nt pT)
 (.ite (bO r2 r0)
 (.chk pF
 (.chk (.nt pT)
 (.ite EN
 (.chk (aT r2 (pi 0))
 (.ret (.tup [(.ai .quo .u64 r1 r2),(.ai .rem .u64 r1 r2)])))
 (.call ⟨[],[]⟩ [] 35 91 [r2]
 (.chk (aY lT (pi 0))
 (.chk uF
 (.chk EK
 (.chk (aT lV (pi 0))
 (.brk ⟨[(16,EI),(15,EC),(14,EV),(13,EU),(11,rY),(10,EW),(9,lV),(2,yY),(8,lT)],[]⟩
(CG b)
 (.chk (aT r9 (pi 0))
 (.brk ⟨[(16,EJ),(18,(.ai .quo .u64 mQ r9)),(17,mQ)],[]⟩
(CH b)
 (.chk (aY r8 (pi 0))
 (.ret (.tup [EM,EG]))))))))))))))
 (.ite EN
 (.chk (aT r2 (pi 0))
 (.ret (.tup [(.ai .quo .u64 r1 r2),(.ai .rem .u64 r1 r2)])))
 (.call ⟨[],[]⟩ [] 35 91 [r2]
 (.chk (aY lT (pi 0))
 (.chk uF
 (.chk EK
 (.chk (aT lV (pi 0))
 (.brk ⟨[(16,EI),(15,EC),(14,EV),(13,EU),(11,rY),(10,EW),(9,lV),(2,yY),(8,lT)],[]⟩
(CG b)
 (.chk (aT r9 (pi 0))
 (.brk ⟨[(16,EJ),(18,(.ai .quo .u64 mQ r9)),(17,mQ)],[]⟩
(CH b)
 (.chk (aY r8 (pi 0))
 (.ret (.tup [EM,EG])))))))))))))))
 (.ite (bO r2 r0)
 (.chk pF
 (.chk (.nt pT)
 (.ite EN
 (.chk (aT r2 (pi 0))
 (.ret (.tup [(.ai .quo .u64 r1 r2),(.ai .rem .u64 r1 r2)])))
 (.call ⟨[],[]⟩ [] 35 91 [r2]
 (.chk (aY lT (pi 0))
 (.chk uF
 (.chk EK
 (.chk (aT lV (pi 0))
 (.brk ⟨[(16,EI),(15,EC),(14,EV),(13,EU),(11,rY),(10,EW),(9,lV),(2,yY),(8,lT)],[]⟩
(CG b)
 (.chk (aT r9 (pi 0))
 (.brk ⟨[(16,EJ),(18,(.ai .quo .u64 mQ r9)),(17,mQ)],[]⟩
(CH b)
 (.chk (aY r8 (pi 0))
 (.ret (.tup [EM,EG]))))))))))))))
 (.ite EN
 (.chk (aT r2 (pi 0))
 (.ret (.tup [(.ai .quo .u64 r1 r2),(.ai .rem .u64 r1 r2)])))
 (.call ⟨[],[]⟩ [] 35 91 [r2]
 (.chk (aY lT (pi 0))
 (.chk uF
 (.chk EK
 (.chk (aT lV (pi 0))
 (.brk ⟨[(16,EI),(15,EC),(14,EV),(13,EU),(11,rY),(10,EW),(9,lV),(2,yY),(8,lT)],[]⟩
(CG b)
 (.chk (aT r9 (pi 0))
 (.brk ⟨[(16,EJ),(18,(.ai .quo .u64 mQ r9)),(17,mQ)],[]⟩
(CH b)
 (.chk (aY r8 (pi 0))
 (.ret (.tup [EM,EG]))))))))))))))
def acZ (b:Nat→PC):PT×List (Shp×PT):=(anu b,[(.lp 0 [15,16,67,68,69,78] [] [15,16] [],al0 b),(.lp 2 [16,18,102,103,104,113] [] [16,18] [],al3 b)])
theorem akl:vB.map told=some (acZ (az vB)):=by kernel_rfl
theorem Ol:vB=some Kg:=aE akl
noncomputable def vC:Option PC:=aB {ctx with fr:=[2],nh:=[]} Tryd.f91 ((ab ah 91).getD default) []
noncomputable def Kh:PC:=aA vC
def anv:PT:=
 (.call ⟨[],[]⟩ [] 4 101 [r0]
 (.ret (bS (pi 64) r4)))
def ac0 (b:Nat→PC):PT×List (Shp×PT):=(anv,[])
theorem akm:vC.map told=some (ac0 (az vC)):=by kernel_rfl
theorem Om:vC=some Kh:=aE akm
noncomputable def vD:Option PC:=aB {ctx with fr:=[2,0],nh:=[]} Tryd.f101 ((ab ah 101).getD default) []
noncomputable def Ki:PC:=aA vD
def anw:PT:=
 (.ite (aY r0 gI)
 (.chk uF
 (.ite (aY oh (.con (.v (.int .u64 65536))))
 (.chk (aY EH (pi 0))
 (.ite (aY y1 ET)
 (.chk (aY kL (pi 0))
 (.chk (.sok iw (.conv .u8 (.ai .shr .u64 y1 kL)))
 (.ret (aL (aL (aL (pi 32) (pi 16)) (pi 8)) (.conv .i64 (.sidx iw (.conv .u8 (.ai .shr .u64 y1 kL))))))))
 (.chk (.sok iw (.conv .u8 y1))
 (.ret (aL (aL (pi 32) (pi 16)) (.conv .i64 (.sidx iw (.conv .u8 y1))))))))
 (.ite (aY oh ET)
 (.chk (aY kL (pi 0))
 (.chk (.sok iw (.conv .u8 (.ai .shr .u64 oh kL)))
 (.ret (aL (aL (pi 32) (pi 8)) (.conv .i64 (.sidx iw (.conv .u8 (.ai .shr .u64 oh kL))))))))
 (.chk (.sok iw (.conv .u8 oh))
 (.ret (aL (pi 32) (.conv .i64 (.sidx iw (.conv .u8 oh)))))))))
 (.ite (aY r0 (.con (.v (.int .u64 65536))))
 (.chk (aY EH (pi 0))
 (.ite (aY y3 ET)
 (.chk (aY kL (pi 0))
 (.chk (.sok iw (.conv .u8 (.ai .shr .u64 y3 kL)))
 (.ret (aL (aL (aL (pi 0) (pi 16)) (pi 8)) (.conv .i64 (.sidx iw (.conv .u8 (.ai .shr .u64 y3 kL))))))))
 (.chk (.sok iw (.conv .u8 y3))
 (.ret (aL (aL (pi 0) (pi 16)) (.conv .i64 (.sidx iw (.conv .u8 y3))))))))
 (.ite (aY r0 ET)
 (.chk (aY kL (pi 0))
 (.chk (.sok iw (.conv .u8 (.ai .shr .u64 r0 kL)))
 (.ret (aL (aL (pi 0) (pi 8)) (.conv .i64 (.sidx iw (.conv .u8 (.ai .shr .u64 r0 kL))))))))
 (.chk (.sok iw (.conv .u8 r0))
 (.ret (aL (pi 0) (.conv .i64 (.sidx iw (.conv .u8 r0)))))))))
def ac1 (b:Nat→PC):PT×List (Shp×PT):=(anw,[])
theorem akn:vD.map told=some (ac1 (az vD)):=by kernel_rfl
theorem On:vD=some Ki:=aE akn
noncomputable def vM:Option PC:=aB {ctx with fr:=[],nh:=[]} Tryd.f40 ((ab ah 40).getD default) [900,901,902,903,904]
noncomputable def Ko:PC:=aA vM
def anK:PT:=
 (.chk (aq r6 r0)
 (.chk (aq (pc r9 0) r0)
 (.chk (aq r8 (pc (pn (pc r9 0) r0) 0))
 (.ret (.tup [(.tup []),r5,(.setn r6 r0 1 (aL (pc (pn r6 r0) 1) r1)),r7,(.setn r8 (pc (pn (pc r9 0) r0) 0) 0 (aL (pn r8 (pc (pn (pc r9 0) r0) 0)) r1)),r9])))))
def adg (b:Nat→PC):PT×List (Shp×PT):=(anK,[])
theorem aks:vM.map told=some (adg (az vM)):=by kernel_rfl
theorem Ov:vM=some Ko:=aE aks
noncomputable def vI:Option PC:=aB {ctx with fr:=[6,8],nh:=[]} Tryd.f14 ((ab ah 14).getD default) [7,9,11]
noncomputable def Kj:PC:=aA vI
def aik (b:Nat→PC):PC:=.block 2 [29,30] [7] (.loop [29] [7] (b 0))
def ail (b:Nat→PC):PC:=.block 0 [17,18] [7] (.loop [17] [7] (b 1))
def al5 (b:Nat→PC):PT:=
 (.ite (aj gn oq)
 (.blockS ⟨[],[]⟩ 3 [11,31,32,33,34,35,36,37,38,39,48] [11,7]
 (.chk (aq dJ gn)
 (.call ⟨[],[(11,(.setc z2 0 (pn dJ gn)))]⟩ [] 38 41 [(pc (.setc z2 0 (pn dJ gn)) 0),(pi 0),(bS (.llen r1) (pi 1))]
 (.chk (.nt (.an (.an fB pT) (.nt (aq r1 (pc pG 0)))))
 (.ite (.pick fB (ao (pc (pn r1 (pc pG 0)) 1) r8) pF)
 (.chk (aq o7 r8)
 (.next ⟨[],[(7,(.setn o7 r8 0 (bS (pn o7 r8) (pc pG 1))))]⟩))
 (.next ⟨[],[]⟩)))))
 (.next ⟨[(29,(aL gn (pi 1)))],[]⟩))
 (.exit 2 ⟨[(30,(aj gn oq))],[]⟩))
def al6 (b:Nat→PC):PT:=
 (.ite (aj gm cg)
 (.blockS ⟨[(18,(aj gm cg))],[]⟩ 1 [8,9,19,20,21,22,23,24,25,26,27,28,29,30] [9,7]
 (.chk (aq cZ gm)
 (.chk (aq o7 gm)
 (.brk ⟨[(29,(pi 0)),(28,(.llen r2)),(27,r2),(8,gm)],[(7,(.setn o7 gm 0 (pc (.setc z3 0 (pn cZ gm)) 2)))]⟩
(aik b)
 (.next ⟨[],[]⟩))))
 (.next ⟨[(17,(aL gm (pi 1)))],[]⟩))
 (.exit 0 ⟨[(18,(aj gm cg))],[]⟩))
def anG (b:Nat→PC):PT:=
 (.chk (.an (aY (.llen r0) (pi 0)) (bO (.llen r0) cq))
 (.chk (ao (.llen r0) (.llen r0))
 (.brk ⟨[(17,(pi 0)),(16,(.llen r0)),(15,r0),(7,pN)],[(7,(.rep (.llen r0) (pi 0)))]⟩
(ail b)
 (.ret o7))))
def ada (b:Nat→PC):PT×List (Shp×PT):=(anG b,[(.lp 2 [29,30] [7] [29] [7],al5 b),(.lp 0 [17,18] [7] [17] [7],al6 b)])
theorem ako:vI.map told=some (ada (az vI)):=by kernel_rfl
theorem Oq:vI=some Kj:=aE ako
noncomputable def vY:Option PC:=aB {ctx with fr:=[4,5],nh:=[]} Tryd.f15 ((ab ah 15).getD default) []
noncomputable def Ku:PC:=aA vY
def aiF (b:Nat→PC):PC:=.block 0 [4,5,11,12,13,14] [] (.loop [4,5] [] (b 0))
def amk (b:Nat→PC):PT:=
 (.ite (aj r5 (.llen r0))
 (.chk (aq r0 r5)
 (.chk (aq r1 r5)
 (.ite (aT (pn r0 r5) (pn r1 r5))
 (.ret pF)
 (.next ⟨[(5,(aL r5 (pi 1)))],[]⟩))))
 (.exit 0 ⟨[(11,r5),(12,r0),(13,(.llen r0)),(14,(aj r5 (.llen r0)))],[]⟩))
def an5 (b:Nat→PC):PT:=
 (.ite (aT (.llen r0) (.llen r1))
 (.ret pF)
 (.brk ⟨[(5,(pi 0)),(4,pF)],[]⟩
(aiF b)
 (.ret pT)))
def adB (b:Nat→PC):PT×List (Shp×PT):=(an5 b,[(.lp 0 [4,5,11,12,13,14] [] [4,5] [],amk b)])
theorem aky:vY.map told=some (adB (az vY)):=by kernel_rfl
theorem OC:vY=some Ku:=aE aky
noncomputable def vJ:Option PC:=aB {ctx with fr:=[6,7],nh:=[]} Tryd.f16 ((ab ah 16).getD default) [9]
noncomputable def Kk:PC:=aA vJ
def aim (b:Nat→PC):PC:=.block 0 [7,12,13] [] (.loop [7,12] [] (b 0))
def al7 (b:Nat→PC):PT:=
 (.ite (aj bZ bl)
 (.blockS ⟨[],[]⟩ 1 [7,9,14,15,16,17,18,19,20,21,22,31] [9]
 (.chk (aq bY bZ)
 (.call ⟨[],[(9,(.setc z2 0 pQ))]⟩ [] 21 41 [(pc (.setc z2 0 pQ) 0),(pi 0),(bS (.llen r0) (pi 1))]
 (.chk (.nt (.an (.an lX pT) (.nt (aq r0 (pc o9 0)))))
 (.next ⟨[(7,(.pick (.pick lX (ao (pc (pn r0 (pc o9 0)) 0) r2) pF) (aL r7 (pc o9 1)) r7))],[]⟩))))
 (.next ⟨[(12,(aL bZ (pi 1)))],[]⟩))
 (.exit 0 ⟨[(13,(aj bZ bl))],[]⟩))
def anH (b:Nat→PC):PT:=
 (.brk ⟨[(12,(pi 0)),(11,(.llen r1)),(10,r1),(7,(pi 0))],[]⟩
(aim b)
 (.ret r7))
def adb (b:Nat→PC):PT×List (Shp×PT):=(anH b,[(.lp 0 [7,12,13] [] [7,12] [],al7 b)])
theorem akp:vJ.map told=some (adb (az vJ)):=by kernel_rfl
theorem Ot:vJ=some Kk:=aE akp
noncomputable def v7:Option PC:=aB {ctx with fr:=[4,5],nh:=[]} Tryd.f5 ((ab ah 5).getD default) [2,3]
noncomputable def DF:PC:=aA v7
noncomputable def Gc:Nat→PC:=bL v7
def aiK (b:Nat→PC):PC:=.block 0 [4,5,14,15,16,17,18] [] (.loop [4,5] [] (b 0))
def zi (b:Nat→PC):PT:=
 (.ite (aj r5 (.llen (pc o2 4)))
 (.blockS ⟨[],[]⟩ 1 [4,21,22,23,24,25,26,27] []
 (.chk (aq (pc o2 4) r5)
 (.call ⟨[],[]⟩ [] 26 20 [(pn (pc o2 4) r5)]
 (.ite (.nt kO)
 (.ret pF)
 (.next ⟨[],[]⟩))))
 (.next ⟨[(5,(aL r5 (pi 1)))],[]⟩))
 (.exit 0 ⟨[(14,r5),(15,pN),(16,(pc o2 4)),(17,(.llen (pc o2 4))),(18,(aj r5 (.llen (pc o2 4))))],[]⟩))
def Mv (b:Nat→PC):PT:=
 (.call ⟨[(4,pF)],[(3,(.mk [r1])),(2,(.mk [r0]))]⟩ [] 7 18 [mR]
 (.call ⟨[(9,(.nt r7))],[]⟩ [(9,false)] 11 19 [(aQ 19 o3)]
 (.ite (.pick r9 pT (.nt bl))
 (.ret pF)
 (.brk ⟨[(5,(pi 0))],[]⟩
(aiK b)
 (.ret pT)))))
def adI (b:Nat→PC):PT×List (Shp×PT):=(Mv b,[(.lp 0 [4,5,14,15,16,17,18] [] [4,5] [],zi b)])
theorem JS:v7.map told=some (adI (az v7)):=by kernel_rfl
theorem aob:tree DF=Mv Gc:=aP JS
theorem K5:round 0 [4,5,14,15,16,17,18] [] [4,5] [] (Gc 0)=zi Gc:=bI JS 0 fun _=>rfl
theorem aab:v7=some DF:=aE JS
noncomputable def vZ:Option PC:=aB {ctx with fr:=[2,3,4],nh:=[]} Tryd.f18 ((ab ah 18).getD default) [1]
noncomputable def Dz:PC:=aA vZ
noncomputable def vm:Nat→PC:=bL vZ
def aiG (b:Nat→PC):PC:=.block 0 [2,3,5,6,7,8,9,10,13] [] (.loop [2,3] [] (b 0))
def aiH (b:Nat→PC):PC:=.block 2 [2,4,44,45,46,47,48,49,52] [] (.loop [2,4] [] (b 1))
def sl (b:Nat→PC):PT:=
 (.ite (.pick (aj r3 pV) (aj r3 (pi 50)) pF)
 (.chk (aq (pc o1 1) r3)
 (.chk (.nt (.an (.an (.nt (bm (.llen (pc (pn (pc o1 1) r3) 4)) (pi 70))) pT) (.nt (aq (pc o1 1) r3))))
 (.chk (.nt (.an (.an (.nt UW) pT) (.nt (aq (pc o1 1) r3))))
 (.ite (.pick UW pT (bm (.llen (pc (pn (pc o1 1) r3) 3)) (pi 8)))
 (.ret pF)
 (.next ⟨[(3,(aL r3 (pi 1)))],[]⟩)))))
 (.exit 0 ⟨[(5,r3),(6,pN),(7,(pc o1 1)),(8,pV),(9,(aj r3 pV)),(10,(aj r3 pV)),(13,(.pick (aj r3 pV) (aj r3 (pi 50)) pF))],[]⟩))
def uM (b:Nat→PC):PT:=
 (.ite (.pick (aj r4 pU) (aj r4 (pi 50)) pF)
 (.chk (aq (pc o1 4) r4)
 (.chk (.nt (.an (.an (.nt (bm (.llen (pc (pn (pc o1 4) r4) 2)) (pi 40))) pT) (.nt (aq (pc o1 4) r4))))
 (.ite (.pick (bm (.llen (pc (pn (pc o1 4) r4) 2)) (pi 40)) pT (bm (.llen (pc (pn (pc o1 4) r4) 3)) (pi 40)))
 (.ret pF)
 (.next ⟨[(4,(aL r4 (pi 1)))],[]⟩))))
 (.exit 2 ⟨[(44,r4),(45,pN),(46,(pc o1 4)),(47,pU),(48,(aj r4 pU)),(49,(aj r4 pU)),(52,(.pick (aj r4 pU) (aj r4 (pi 50)) pF))],[]⟩))
def Mq (b:Nat→PC):PT:=
 (.brk ⟨[(3,(pi 0)),(2,pF)],[(1,(.mk [r0]))]⟩
(aiG b)
 (.brk ⟨[(4,(pi 0))],[]⟩
(aiH b)
 (.ret (.pick (.pick (.pick (.pick (.pick (.pick (.pick (aj (.llen (pc o1 0)) (pi 50)) (aj pV (pi 50)) pF) (aj (.llen (pc o1 2)) (pi 50)) pF) (aj uH (pi 210)) pF) (aj pU (pi 50)) pF) (aj (.llen (pc o1 5)) (pi 110)) pF) (aj (.llen (pc o1 6)) (pi 110)) pF) (aj (.llen (pc o1 7)) (pi 50)) pF))))
def adC (b:Nat→PC):PT×List (Shp×PT):=(Mq b,[(.lp 0 [2,3,5,6,7,8,9,10,13] [] [2,3] [],sl b),(.lp 2 [2,4,44,45,46,47,48,49,52] [] [2,4] [],uM b)])
theorem CT:vZ.map told=some (adC (az vZ)):=by kernel_rfl
theorem an6:tree Dz=Mq vm:=aP CT
theorem zf:round 0 [2,3,5,6,7,8,9,10,13] [] [2,3] [] (vm 0)=sl vm:=bI CT 0 fun _=>rfl
theorem Fa:round 2 [2,4,44,45,46,47,48,49,52] [] [2,4] [] (vm 1)=uM vm:=bI CT 1 fun _=>rfl
theorem Z5:vZ=some Dz:=aE CT
noncomputable def AO:Option PC:=aB {ctx with fr:=[2],nh:=[]} Tryd.f19 ((ab ah 19).getD default) [1]
noncomputable def DB:PC:=aA AO
def Ms:PT:=
 (.ret (.pick (.pick (.pick (bO (.llen om) (pi 50)) (bO (.llen (pc (.mk [r0]) 16)) (pi 10)) pF) (bO (.llen (pc (.mk [r0]) 17)) (pi 110)) pF) (bO (.llen uG) (pi 220)) pF))
def adE (b:Nat→PC):PT×List (Shp×PT):=(Ms,[])
theorem TV:AO.map told=some (adE (az AO)):=by kernel_rfl
theorem an8:tree DB=Ms:=aP TV
theorem Z7:AO=some DB:=aE TV
noncomputable def v5:Option PC:=aB {ctx with fr:=[2,3],nh:=[]} Tryd.f20 ((ab ah 20).getD default) [1]
noncomputable def DE:PC:=aA v5
noncomputable def Gb:Nat→PC:=bL v5
def aiJ (b:Nat→PC):PC:=.block 0 [2,3,14,15,16,17,18] [] (.loop [2,3] [] (b 0))
def zh (b:Nat→PC):PT:=
 (.ite (aj r3 uH)
 (.blockS ⟨[],[]⟩ 1 [2,21,22,23,24,25,26,27,28] []
 (.chk (aq (pc o1 3) r3)
 (.call ⟨[],[]⟩ [] 27 42 [(.sub (pn (pc o1 3) r3) 1 3)]
 (.ite (.nt dJ)
 (.ret pF)
 (.next ⟨[],[]⟩))))
 (.next ⟨[(3,(aL r3 (pi 1)))],[]⟩))
 (.exit 0 ⟨[(14,r3),(15,pN),(16,(pc o1 3)),(17,uH),(18,(aj r3 uH))],[]⟩))
def Mu (b:Nat→PC):PT:=
 (.ite (.pick (bm (.llen (pc (.mk [r0]) 3)) (pi 60)) pT (bm mT (pi 60)))
 (.ret pF)
 (.brk ⟨[(3,(pi 0)),(2,pF)],[(1,(.mk [r0]))]⟩
(aiJ b)
 (.ret pT)))
def adH (b:Nat→PC):PT×List (Shp×PT):=(Mu b,[(.lp 0 [2,3,14,15,16,17,18] [] [2,3] [],zh b)])
theorem JR:v5.map told=some (adH (az v5)):=by kernel_rfl
theorem aoa:tree DE=Mu Gb:=aP JR
theorem K4:round 0 [2,3,14,15,16,17,18] [] [2,3] [] (Gb 0)=zh Gb:=bI JR 0 fun _=>rfl
theorem aaa:v5=some DE:=aE JR
noncomputable def AP:Option PC:=aB {ctx with fr:=[2],nh:=[]} Tryd.f42 ((ab ah 42).getD default) [1]
noncomputable def DC:PC:=aA AP
def Mt:PT:=
 (.call ⟨[],[]⟩ [] 4 59 [(.mk [lU,sd,sc]),(pi 100),(pi 20)]
 (.ret (aY r4 (pi 0))))
def adF (b:Nat→PC):PT×List (Shp×PT):=(Mt,[])
theorem TW:AP.map told=some (adF (az AP)):=by kernel_rfl
theorem an9:tree DC=Mt:=aP TW
theorem Z8:AP=some DC:=aE TW
noncomputable def v3:Option PC:=aB {ctx with fr:=[6,1,7],nh:=[]} Tryd.f59 ((ab ah 59).getD default) [3]
noncomputable def DD:PC:=aA v3
noncomputable def Ga:Nat→PC:=bL v3
def aiI (b:Nat→PC):PC:=.block 0 [1,7,12,13,14,15,16,17,20] [] (.loop [1,7] [] (b 0))
def zg (b:Nat→PC):PT:=
 (.ite (.pick (aj r7 kM) (aY r1 (pi 0)) pF)
 (.blockS ⟨[],[]⟩ 1 [1,23,24,25,26,27,28,29,30,31] []
 (.chk (aq (pc o3 2) r7)
 (.call ⟨[],[]⟩ [] 31 59 [(pn (pc o3 2) r7),r1,(bS r2 (pi 1))]
 (.next ⟨[(1,sk)],[]⟩)))
 (.next ⟨[(7,(aL r7 (pi 1)))],[]⟩))
 (.exit 0 ⟨[(12,r7),(13,pN),(14,(pc o3 2)),(15,kM),(16,(aj r7 kM)),(17,(aj r7 kM)),(20,(.pick (aj r7 kM) (aY r1 (pi 0)) pF))],[]⟩))
def FF (b:Nat→PC):PT:=
 (.ite (aj r2 (pi 1))
 (.ret (pi (-1)))
 (.brk ⟨[(7,(pi 0)),(1,(bS r1 (pi 1)))],[(3,(.mk [r0]))]⟩
(aiI b)
 (.ret r1)))
def adG (b:Nat→PC):PT×List (Shp×PT):=(FF b,[(.lp 0 [1,7,12,13,14,15,16,17,20] [] [1,7] [],zg b)])
theorem JQ:v3.map told=some (adG (az v3)):=by kernel_rfl
theorem Wi:tree DD=FF Ga:=aP JQ
theorem K3:round 0 [1,7,12,13,14,15,16,17,20] [] [1,7] [] (Ga 0)=zg Ga:=bI JQ 0 fun _=>rfl
theorem Z9:v3=some DD:=aE JQ
noncomputable def v8:Option PC:=aB {ctx with fr:=[2,3,4,5,6,7,10,11,12],nh:=[]} Tryd.f6 ((ab ah 6).getD default) [1,9]
noncomputable def DG:PC:=aA v8
noncomputable def Gd:Nat→PC:=bL v8
def aiL (b:Nat→PC):PC:=.block 0 [2,38,39] [] (.loop [2,38] [] (b 0))
def zj (b:Nat→PC):PT:=
 (.ite (aj fB jB)
 (.blockS ⟨[],[]⟩ 1 [2,9,40,41,42,43,44,45] [9]
 (.chk (aq mU fB)
 (.call ⟨[],[]⟩ [] 44 26 [(pc (.setc (.con (.agg [(.int 0)])) 0 (pn mU fB)) 0),(pi 10)]
 (.ite (.nt y4)
 (.ret (pi 1))
 (.next ⟨[],[]⟩))))
 (.next ⟨[(38,(aL fB (pi 1)))],[]⟩))
 (.exit 0 ⟨[(39,(aj fB jB))],[]⟩))
def Mw (b:Nat→PC):PT:=
 (.call ⟨[(2,(pi 0))],[(1,(.mk [r0]))]⟩ [] 15 21 [mR]
 (.call ⟨[(5,(.tget cZ 2)),(4,(.tget cZ 1)),(3,(.tget cZ 0))],[]⟩ [] 21 22 [(pc o1 0),(pi 8),(.con (.clo 23 []))]
 (.ite (aT lX (pi 0))
 (.ret lX)
 (.call ⟨[],[(1,(aQ 8 o1))]⟩ [] 27 22 [r3,(pi 40),(.clo 24 [(.ref (aQ 8 o1))])]
 (.ite (aT dJ (pi 0))
 (.ret dJ)
 (.ite (bm (.llen (pc o1 2)) (pi 20))
 (.ret (pi 6))
 (.brk ⟨[(38,(pi 0)),(37,(.llen (pc o1 2))),(36,(pc o1 2))],[]⟩
(aiL b)
 (.call ⟨[],[]⟩ [] 49 22 [r4,(pi 200),(.clo 27 [(.ref o1)])]
 (.ite (aT mY (pi 0))
 (.ret mY)
 (.call ⟨[],[]⟩ [] 55 22 [r5,(pi 20),(.clo 28 [(.ref o1)])]
 (.ite (aT y7 (pi 0))
 (.ret y7)
 (.call ⟨[],[]⟩ [] 60 30 [(.sub o1 0 8)]
 (.ite (aT y8 (pi 0))
 (.ret y8)
 (.call ⟨[],[]⟩ [] 65 31 [(.sub o1 0 8)]
 (.ret uJ)))))))))))))))
def adJ (b:Nat→PC):PT×List (Shp×PT):=(Mw b,[(.lp 0 [2,38,39] [] [2,38] [],zj b)])
theorem JT:v8.map told=some (adJ (az v8)):=by kernel_rfl
theorem aog:tree DG=Mw Gd:=aP JT
theorem K6:round 0 [2,38,39] [] [2,38] [] (Gd 0)=zj Gd:=bI JT 0 fun _=>rfl
theorem aag:v8=some DG:=aE JT
noncomputable def wh:Option PC:=aB {ctx with fr:=[],nh:=[]} Tryd.f21 ((ab ah 21).getD default) [1,2,3,4,6,16390,20486,24582,21,8,34,10,12298,16394,47]
noncomputable def DS:PC:=aA wh
noncomputable def qE:Nat→PC:=bL wh
def aiQ (b:Nat→PC):PC:=.block 0 [2,14,15] [2] (.loop [2,14] [2] (b 0))
def aiR (b:Nat→PC):PC:=.block 2 [3,27,28] [3] (.loop [3,27] [3] (b 1))
def aiS (b:Nat→PC):PC:=.block 4 [4,40,41] [4] (.loop [4,40] [4] (b 2))
def Fb (b:Nat→PC):PT:=
 (.ite (aj bG bF)
 (.chk (aq bZ bG)
 (.chk (bO (.llen US) cq)
 (.next ⟨[(2,pN),(14,(aL bG (pi 1)))],[(2,US)]⟩)))
 (.exit 0 ⟨[(15,(aj bG bF))],[]⟩))
def Fc (b:Nat→PC):PT:=
 (.ite (aj dJ kO)
 (.chk (aq fV dJ)
 (.chk (bO (.llen UX) cq)
 (.next ⟨[(3,pN),(27,(aL dJ (pi 1)))],[(3,UX)]⟩)))
 (.exit 2 ⟨[(28,(aj dJ kO))],[]⟩))
def Fe (b:Nat→PC):PT:=
 (.ite (aj mV kP)
 (.chk (aq fB mV)
 (.chk (bO (.llen UT) cq)
 (.next ⟨[(4,pN),(40,(aL mV (pi 1)))],[(4,UT)]⟩)))
 (.exit 4 ⟨[(41,(aj mV kP))],[]⟩))
def MI (b:Nat→PC):PT:=
 (.brk ⟨[(14,(pi 0)),(13,(.llen sd)),(12,sd),(4,pN),(3,pN),(2,pN)],[(4,pL),(3,pL),(2,pL),(1,(.mk [r0]))]⟩
(aiQ b)
 (.brk ⟨[(27,(pi 0)),(26,uH),(25,(pc o1 3))],[]⟩
(aiR b)
 (.brk ⟨[(40,(pi 0)),(39,pU),(38,(pc o1 4))],[]⟩
(aiS b)
 (.ret (.tup [o2,o3,o4])))))
def adV (b:Nat→PC):PT×List (Shp×PT):=(MI b,[(.lp 0 [2,14,15] [2] [2,14] [2],Fb b),(.lp 2 [3,27,28] [3] [3,27] [3],Fc b),(.lp 4 [4,40,41] [4] [4,40] [4],Fe b)])
theorem yO:wh.map told=some (adV (az wh)):=by kernel_rfl
theorem aoo:tree DS=MI qE:=aP yO
theorem Vt:round 0 [2,14,15] [2] [2,14] [2] (qE 0)=Fb qE:=bI yO 0 fun _=>rfl
theorem Vu:round 2 [3,27,28] [3] [3,27] [3] (qE 1)=Fc qE:=bI yO 1 fun _=>rfl
theorem Vv:round 4 [4,40,41] [4] [4,40] [4] (qE 2)=Fe qE:=bI yO 2 fun _=>rfl
theorem aao:wh=some DS:=aE yO
noncomputable def we:Option PC:=aB {ctx with fr:=[6,7,8],nh:=[]} Tryd.f22 ((ab ah 22).getD default) []
noncomputable def DO:PC:=aA we
noncomputable def Gg:Nat→PC:=bL we
def aiO (b:Nat→PC):PC:=.block 0 [6,15,16] [] (.loop [6,15] [] (b 0))
def zm (b:Nat→PC):PT:=
 (.ite (aj cZ bG)
 (.blockS ⟨[],[]⟩ 1 [6,7,8,17,18,19,20,21,22,24,25,26,27] []
 (.call ⟨[(7,cZ)],[]⟩ [] 20 43 [r0,cZ]
 (.ite (aT fj (pi 0))
 (.ret fj)
 (.callc ⟨[],[]⟩ [] 26 r2 [r7]
 (.ite (.nt kO)
 (.ret (pi 1))
 (.next ⟨[],[]⟩)))))
 (.next ⟨[(15,(aL cZ (pi 1)))],[]⟩))
 (.exit 0 ⟨[(16,(aj cZ bG))],[]⟩))
def ME (b:Nat→PC):PT:=
 (.ite (bm (.llen r0) r1)
 (.ret (pi 6))
 (.brk ⟨[(15,(pi 0)),(14,(.llen r0)),(6,(pi 0))],[]⟩
(aiO b)
 (.ret (pi 0))))
def adR (b:Nat→PC):PT×List (Shp×PT):=(ME b,[(.lp 0 [6,15,16] [] [6,15] [],zm b)])
theorem JW:we.map told=some (adR (az we)):=by kernel_rfl
theorem aok:tree DO=ME Gg:=aP JW
theorem K9:round 0 [6,15,16] [] [6,15] [] (Gg 0)=zm Gg:=bI JW 0 fun _=>rfl
theorem aak:we=some DO:=aE JW
noncomputable def AW:Option PC:=aB {ctx with fr:=[4],nh:=[]} Tryd.f43 ((ab ah 43).getD default) []
noncomputable def DR:PC:=aA AW
def MH:PT:=
 (.chk (aq r0 r1)
 (.call ⟨[],[]⟩ [] 9 60 [(pn r0 r1)]
 (.ite (.nt r9)
 (.ret (pi 2))
 (.chk (.slok r0 (pi 0) r1)
 (.chk (aq r0 r1)
 (.call ⟨[],[]⟩ [] 18 61 [(.slc r0 (pi 0) r1),(pn r0 r1)]
 (.ite fA
 (.ret (pi 5))
 (.ret (pi 0)))))))))
def adU (b:Nat→PC):PT×List (Shp×PT):=(MH,[])
theorem T5:AW.map told=some (adU (az AW)):=by kernel_rfl
theorem aon:tree DR=MH:=aP T5
theorem aan:AW=some DR:=aE T5
noncomputable def wg:Option PC:=aB {ctx with fr:=[2,3,4,5],nh:=[]} Tryd.f60 ((ab ah 60).getD default) []
noncomputable def DQ:PC:=aA wg
noncomputable def Gi:Nat→PC:=bL wg
def aiP (b:Nat→PC):PC:=.block 0 [2,16,17] [] (.loop [2,16] [] (b 0))
def zn (b:Nat→PC):PT:=
 (.ite (aj cg cZ)
 (.chk (aq bG cg)
 (.ite (.pick (.nt (.pick (.pick (aY kN (.con (.v (.int .u8 97)))) (bO kN (.con (.v (.int .u8 122)))) pF) pT (.pick (aY kN (.con (.v (.int .u8 65)))) (bO kN (.con (.v (.int .u8 90)))) pF))) (.pick (ao cg (pi 0)) pT (.pick (aT kN (.con (.v (.int .u8 95)))) (.pick (aj kN (.con (.v (.int .u8 48)))) pT (bm kN (.con (.v (.int .u8 57))))) pF)) pF)
 (.ret pF)
 (.next ⟨[(16,(aL cg (pi 1)))],[]⟩)))
 (.exit 0 ⟨[(17,(aj cg cZ))],[]⟩))
def MG (b:Nat→PC):PT:=
 (.ite (.pick (.cs .eql r0 (.con (.v (.string ⟨#[]⟩)))) pT (bm (.slen r0) (pi 20)))
 (.ret pF)
 (.chk (bO (.slen r0) cq)
 (.brk ⟨[(16,(pi 0)),(15,(.llen (.bytes r0))),(14,(.bytes r0)),(2,pF)],[]⟩
(aiP b)
 (.ret pT))))
def adT (b:Nat→PC):PT×List (Shp×PT):=(MG b,[(.lp 0 [2,16,17] [] [2,16] [],zn b)])
theorem JX:wg.map told=some (adT (az wg)):=by kernel_rfl
theorem aom:tree DQ=MG Gi:=aP JX
theorem La:round 0 [2,16,17] [] [2,16] [] (Gi 0)=zn Gi:=bI JX 0 fun _=>rfl
theorem aam:wg=some DQ:=aE JX
noncomputable def A3:Option PC:=aB {ctx with fr:=[4],nh:=[]} Tryd.f61 ((ab ah 61).getD default) []
noncomputable def D7:PC:=aA A3
def MX:PT:=
 (.call ⟨[],[]⟩ [] 7 77 [r0,r1]
 (.ret (aY r7 (pi 0))))
def aea (b:Nat→PC):PT×List (Shp×PT):=(MX,[])
theorem Uc:A3.map told=some (aea (az A3)):=by kernel_rfl
theorem aoD:tree D7=MX:=aP Uc
theorem aaD:A3=some D7:=aE Uc
noncomputable def wE:Option PC:=aB {ctx with fr:=[4,5],nh:=[]} Tryd.f77 ((ab ah 77).getD default) []
noncomputable def Ec:PC:=aA wE
noncomputable def Gq:Nat→PC:=bL wE
def ajb (b:Nat→PC):PC:=.block 0 [4,8,9] [] (.loop [4,8] [] (b 0))
def zD (b:Nat→PC):PT:=
 (.ite (aj r8 r7)
 (.chk (aq r0 r8)
 (.ite (.cs .eql r1 (pn r0 r8))
 (.ret r8)
 (.next ⟨[(8,sf)],[]⟩)))
 (.exit 0 ⟨[(9,(aj r8 r7))],[]⟩))
def M2 (b:Nat→PC):PT:=
 (.brk ⟨[(8,(pi 0)),(7,(.llen r0)),(4,(pi 0))],[]⟩
(ajb b)
 (.ret (pi (-1))))
def aef (b:Nat→PC):PT×List (Shp×PT):=(M2 b,[(.lp 0 [4,8,9] [] [4,8] [],zD b)])
theorem J4:wE.map told=some (aef (az wE)):=by kernel_rfl
theorem aoI:tree Ec=M2 Gq:=aP J4
theorem Ls:round 0 [4,8,9] [] [4,8] [] (Gq 0)=zD Gq:=bI J4 0 fun _=>rfl
theorem aaI:wE=some Ec:=aE J4
noncomputable def AQ:Option PC:=aB {ctx with fr:=[2],nh:=[]} Tryd.f23 ((ab ah 23).getD default) []
noncomputable def DH:PC:=aA AQ
def Mx:PT:=
 (.ret pT)
def adK (b:Nat→PC):PT×List (Shp×PT):=(Mx,[])
theorem TX:AQ.map told=some (adK (az AQ)):=by kernel_rfl
theorem aoc:tree DH=Mx:=aP TX
theorem aac:AQ=some DH:=aE TX
noncomputable def AR:Option PC:=aB {ctx with fr:=[3],nh:=[]} Tryd.f24 ((ab ah 24).getD default) []
noncomputable def DI:PC:=aA AR
def My:PT:=
 (.chk (aq (pc (.deref r1) 1) r0)
 (.call ⟨[],[]⟩ [] 10 25 [(.deref r1),(pn (pc (.deref r1) 1) r0)]
 (.ret bY)))
def adL (b:Nat→PC):PT×List (Shp×PT):=(My,[])
theorem TY:AR.map told=some (adL (az AR)):=by kernel_rfl
theorem aod:tree DI=My:=aP TY
theorem aad:AR=some DI:=aE TY
noncomputable def wc:Option PC:=aB {ctx with fr:=[4,6],nh:=[]} Tryd.f25 ((ab ah 25).getD default) [2,3]
noncomputable def DN:PC:=aA wc
noncomputable def Gf:Nat→PC:=bL wc
def aiN (b:Nat→PC):PC:=.block 0 [4,10,11] [] (.loop [4,10] [] (b 0))
def zl (b:Nat→PC):PT:=
 (.ite (aj bY r9)
 (.chk (aq r8 bY)
 (.chk (aT (pi 100) (pi 0))
 (.chk (.nt (.an (.an (.nt (aj KG (pi 1))) pT) (.nt (aT (pi 100) (pi 0)))))
 (.ite (.pick (aj KG (pi 1)) pT (bm KG (pi 31)))
 (.ret pF)
 (.next ⟨[(10,(aL bY (pi 1)))],[]⟩)))))
 (.exit 0 ⟨[(11,(aj bY r9))],[]⟩))
def MD (b:Nat→PC):PT:=
 (.brk ⟨[(10,(pi 0)),(9,(.llen (pc (.mk [r1]) 4))),(8,(pc (.mk [r1]) 4)),(4,pF)],[(3,(.mk [r1])),(2,(.mk [r0]))]⟩
(aiN b)
 (.call ⟨[(33,(.pick (bm (.llen (pc o3 4)) (pi 60)) pT (bm (.llen (pc o3 5)) (pi 200))))],[]⟩ [(33,false)] 39 26 [(pc o3 1),(.llen (pc o2 4))]
 (.call ⟨[(42,(.pick EZ pT (.nt kP)))],[]⟩ [(42,false)] 48 26 [(pc o3 2),(.llen (pc o2 0))]
 (.ite (.pick E0 pT (.nt mX))
 (.ret pF)
 (.call ⟨[],[]⟩ [] 53 44 [(pc o3 3),(pi 0),(pi 6)]
 (.call ⟨[(54,Vd)],[]⟩ [(54,true)] 57 44 [(pc o3 4),(pi 101),(pi 1231)]
 (.call ⟨[(59,(.pick ou E1 pF))],[]⟩ [(59,true)] 62 44 [(pc o3 5),(pi 0),(pi 100000)]
 (.ret (.pick r59 j7 pF)))))))))
def adQ (b:Nat→PC):PT×List (Shp×PT):=(MD b,[(.lp 0 [4,10,11] [] [4,10] [],zl b)])
theorem JV:wc.map told=some (adQ (az wc)):=by kernel_rfl
theorem aoj:tree DN=MD Gf:=aP JV
theorem K8:round 0 [4,10,11] [] [4,10] [] (Gf 0)=zl Gf:=bI JV 0 fun _=>rfl
theorem aaj:wc=some DN:=aE JV
noncomputable def AV:Option PC:=aB {ctx with fr:=[4],nh:=[]} Tryd.f26 ((ab ah 26).getD default) []
noncomputable def DP:PC:=aA AV
def MF:PT:=
 (.ret KP)
def adS (b:Nat→PC):PT×List (Shp×PT):=(MF,[])
theorem T4:AV.map told=some (adS (az AV)):=by kernel_rfl
theorem aol:tree DP=MF:=aP T4
theorem aal:AV=some DP:=aE T4
noncomputable def wq:Option PC:=aB {ctx with fr:=[6,7,8],nh:=[]} Tryd.f44 ((ab ah 44).getD default) []
noncomputable def DV:PC:=aA wq
noncomputable def Gj:Nat→PC:=bL wq
def aiX (b:Nat→PC):PC:=.block 0 [6,11,12] [] (.loop [6,11] [] (b 0))
def p6 (b:Nat→PC):PT:=
 (.ite (aj bl bY)
 (.chk (aq r9 bl)
 (.chk (.nt (.an (.an (bm bl (pi 0)) (.an (.nt (.pick (aj (pn r9 bl) r1) pT (bm (pn r9 bl) r2))) pT)) (.nt (aq r0 (bS bl (pi 1))))))
 (.ite (.pick (.pick (aj (pn r9 bl) r1) pT (bm (pn r9 bl) r2)) pT (.pick (bm bl (pi 0)) (bO (pn r9 bl) (pn r0 (bS bl (pi 1)))) pF))
 (.ret pF)
 (.next ⟨[(11,(aL bl (pi 1)))],[]⟩))))
 (.exit 0 ⟨[(12,(aj bl bY))],[]⟩))
def ML (b:Nat→PC):PT:=
 (.brk ⟨[(11,(pi 0)),(10,(.llen r0)),(9,r0),(6,pF)],[]⟩
(aiX b)
 (.ret pT))
def adY (b:Nat→PC):PT×List (Shp×PT):=(ML b,[(.lp 0 [6,11,12] [] [6,11] [],p6 b)])
theorem JY:wq.map told=some (adY (az wq)):=by kernel_rfl
theorem aor:tree DV=ML Gj:=aP JY
theorem uN:round 0 [6,11,12] [] [6,11] [] (Gj 0)=p6 Gj:=bI JY 0 fun _=>rfl
theorem aar:wq=some DV:=aE JY
noncomputable def AS:Option PC:=aB {ctx with fr:=[3],nh:=[]} Tryd.f27 ((ab ah 27).getD default) []
noncomputable def DJ:PC:=aA AS
def Mz:PT:=
 (.chk (aq (pc (.deref r1) 3) r0)
 (.call ⟨[],[]⟩ [] 13 26 [(pc (pn (pc (.deref r1) 3) r0) 1),(.llen (pc (.deref r1) 1))]
 (.chk (.nt (.an (.an bF pT) (.nt (aq (pc (.deref r1) 3) r0))))
 (.call ⟨[(14,bF)],[]⟩ [(14,true)] 24 26 [(pc (pn (pc (.deref r1) 3) r0) 2),(.llen (pc (.deref r1) 2))]
 (.ret (.pick bG lZ pF))))))
def adM (b:Nat→PC):PT×List (Shp×PT):=(Mz,[])
theorem TZ:AS.map told=some (adM (az AS)):=by kernel_rfl
theorem aoe:tree DJ=Mz:=aP TZ
theorem aae:AS=some DJ:=aE TZ
noncomputable def AT:Option PC:=aB {ctx with fr:=[3],nh:=[]} Tryd.f28 ((ab ah 28).getD default) []
noncomputable def DK:PC:=aA AT
def MA:PT:=
 (.chk (aq (pc (.deref r1) 4) r0)
 (.call ⟨[],[]⟩ [] 9 29 [(pn (pc (.deref r1) 4) r0)]
 (.ret r9)))
def adN (b:Nat→PC):PT×List (Shp×PT):=(MA,[])
theorem T2:AT.map told=some (adN (az AT)):=by kernel_rfl
theorem aof:tree DK=MA:=aP T2
theorem aaf:AT=some DK:=aE T2
noncomputable def wj:Option PC:=aB {ctx with fr:=[2],nh:=[]} Tryd.f29 ((ab ah 29).getD default) [1,3,4,6,19,8,16392,36]
noncomputable def DT:PC:=aA wj
noncomputable def vn:Nat→PC:=bL wj
def aiT (b:Nat→PC):PC:=.block 0 [2,3,12,13] [3] (.loop [2,3,12] [3] (b 0))
def aiU (b:Nat→PC):PC:=.block 2 [4,29,30] [4] (.loop [4,29] [4] (b 1))
def zo (b:Nat→PC):PT:=
 (.ite (aj bZ bl)
 (.blockS ⟨[],[]⟩ 1 [2,3,6,14,15,17,18,19,20,21,22,23,24] [6,19,3]
 (.chk (aq bY bZ)
 (.chk (bO (.llen (.app o3 (.lst [(pc (.setc EF 0 pQ) 0)]))) cq)
 (.call ⟨[(3,pN)],[(3,(.app o3 (.lst [(pc (.setc EF 0 pQ) 0)])))]⟩ [] 23 26 [(pc (.setc EF 0 pQ) 1),(pi 5)]
 (.ite (.nt lY)
 (.ret pF)
 (.next ⟨[],[]⟩)))))
 (.next ⟨[(12,(aL bZ (pi 1)))],[]⟩))
 (.exit 0 ⟨[(13,(aj bZ bl))],[]⟩))
def Ff (b:Nat→PC):PT:=
 (.ite (aj gn oq)
 (.chk (aq dJ gn)
 (.chk (bO (.llen UY) cq)
 (.next ⟨[(4,pN),(29,(aL gn (pi 1)))],[(4,UY)]⟩)))
 (.exit 2 ⟨[(30,(aj gn oq))],[]⟩))
def MJ (b:Nat→PC):PT:=
 (.brk ⟨[(12,(pi 0)),(11,mT),(10,sc),(4,pN),(3,pN),(2,pF)],[(4,pL),(3,pL),(1,(.mk [r0]))]⟩
(aiT b)
 (.brk ⟨[(29,(pi 0)),(28,uH),(27,(pc o1 3))],[]⟩
(aiU b)
 (.call ⟨[],[]⟩ [] 40 44 [o3,(pi 0),(pi 21)]
 (.call ⟨[(41,mV)],[]⟩ [(41,true)] 43 44 [o4,(pi 0),(pi 21)]
 (.ret (.pick iy gp pF))))))
def adW (b:Nat→PC):PT×List (Shp×PT):=(MJ b,[(.lp 0 [2,3,12,13] [3] [2,3,12] [3],zo b),(.lp 2 [4,29,30] [4] [4,29] [4],Ff b)])
theorem CU:wj.map told=some (adW (az wj)):=by kernel_rfl
theorem aop:tree DT=MJ vn:=aP CU
theorem Lb:round 0 [2,3,12,13] [3] [2,3,12] [3] (vn 0)=zo vn:=bI CU 0 fun _=>rfl
theorem Vw:round 2 [4,29,30] [4] [4,29] [4] (vn 1)=Ff vn:=bI CU 1 fun _=>rfl
theorem aap:wj=some DT:=aE CU
noncomputable def wu:Option PC:=aB {ctx with fr:=[2,3],nh:=[]} Tryd.f30 ((ab ah 30).getD default) [1,4,6]
noncomputable def DW:PC:=aA wu
noncomputable def vq:Nat→PC:=bL wu
def aiY (b:Nat→PC):PC:=.block 2 [2,50,51] [] (.loop [2,50] [] (b 0))
def aiZ (b:Nat→PC):PC:=.block 0 [2,14,15] [] (.loop [2,14] [] (b 1))
def uO (b:Nat→PC):PT:=
 (.ite (aj gK mY)
 (.chk (aq mX gK)
 (.ite (.pick (ao (pc (.setc z3 0 (pn mX gK)) 0) (pc o4 0)) (ao (pc (.setc z3 0 (pn mX gK)) 1) (pc o4 1)) pF)
 (.ret (pi 5))
 (.next ⟨[(50,(aL gK (pi 1)))],[]⟩)))
 (.exit 2 ⟨[(51,(aj gK mY))],[]⟩))
def zr (b:Nat→PC):PT:=
 (.ite (aj bG bF)
 (.blockS ⟨[(15,(aj bG bF))],[]⟩ 1 [2,3,4,16,17,18,19,20,21,22,23,24,25,26,34,35,39,40,44,45,46,47,48,49,50,51] [4]
 (.chk (aq bZ bG)
 (.call ⟨[(3,bG)],[(4,(.setc z3 0 (pn bZ bG)))]⟩ [] 24 26 [(pc (.setc z3 0 (pn bZ bG)) 0),pV]
 (.call ⟨[(26,(.nt lZ))],[]⟩ [(26,false)] 32 26 [(pc o4 1),pV]
 (.ite (.pick (.pick (.pick kO pT (.nt uI)) pT (aj (pc o4 2) (pi 1))) pT (bm (pc o4 2) (pi 20000)))
 (.ret (pi 1))
 (.chk (.slok (pc o1 5) (pi 0) r3)
 (.brk ⟨[(50,(pi 0)),(49,(.llen (.slc (pc o1 5) (pi 0) r3))),(48,(.slc (pc o1 5) (pi 0) r3))],[]⟩
(aiY b)
 (.next ⟨[],[]⟩)))))))
 (.next ⟨[(14,(aL bG (pi 1)))],[]⟩))
 (.exit 0 ⟨[(15,(aj bG bF))],[]⟩))
def MM (b:Nat→PC):PT:=
 (.ite (bm (.llen (pc (.mk [r0]) 5)) (pi 100))
 (.ret (pi 6))
 (.brk ⟨[(14,(pi 0)),(13,(.llen (pc (.mk [r0]) 5))),(12,(pc (.mk [r0]) 5)),(2,(pi 0))],[(1,(.mk [r0]))]⟩
(aiZ b)
 (.ret (pi 0))))
def adZ (b:Nat→PC):PT×List (Shp×PT):=(MM b,[(.lp 2 [2,50,51] [] [2,50] [],uO b),(.lp 0 [2,14,15] [] [2,14] [],zr b)])
theorem CW:wu.map told=some (adZ (az wu)):=by kernel_rfl
theorem aos:tree DW=MM vq:=aP CW
theorem Fg:round 2 [2,50,51] [] [2,50] [] (vq 0)=uO vq:=bI CW 0 fun _=>rfl
theorem Lf:round 0 [2,14,15] [] [2,14] [] (vq 1)=zr vq:=bI CW 1 fun _=>rfl
theorem aas:wu=some DW:=aE CW
noncomputable def wk:Option PC:=aB {ctx with fr:=[2],nh:=[]} Tryd.f31 ((ab ah 31).getD default) [1,4,6]
noncomputable def DU:PC:=aA wk
noncomputable def vp:Nat→PC:=bL wk
def aiV (b:Nat→PC):PC:=.block 0 [2,14,15] [] (.loop [2,14] [] (b 0))
def aiW (b:Nat→PC):PC:=.block 2 [2,69,70] [] (.loop [2,69] [] (b 1))
def zp (b:Nat→PC):PT:=
 (.ite (aj bG bF)
 (.blockS ⟨[],[]⟩ 1 [2,4,16,17,18,19,20,21,22,23,24,25,33,34,40,41,47,48,54,55,60] [4]
 (.chk (aq bZ bG)
 (.call ⟨[],[(4,(.setc z5 0 (pn bZ bG)))]⟩ [] 23 26 [(pc (.setc z5 0 (pn bZ bG)) 0),(.llen (pc o1 0))]
 (.call ⟨[(25,(.nt lY))],[]⟩ [(25,false)] 31 26 [(pc o4 1),(.llen (pc o1 0))]
 (.call ⟨[(41,(.pick (.pick fV pT (.nt sk)) pT (ao (pc o4 0) (pc o4 1))))],[]⟩ [(41,false)] 45 26 [(bS (pc o4 2) (pi 1)),(pi 1073741824)]
 (.call ⟨[(48,(.pick iy pT (.nt mW)))],[]⟩ [(48,false)] 52 26 [(bS (pc o4 3) (pi 1)),(pi 1073741824)]
 (.call ⟨[(55,(.pick mX pT (.nt ot)))],[]⟩ [(55,false)] 58 26 [(pc o4 4),(pi 100001)]
 (.ite (.pick y7 pT (.nt Ve))
 (.ret (pi 1))
 (.next ⟨[],[]⟩))))))))
 (.next ⟨[(14,(aL bG (pi 1)))],[]⟩))
 (.exit 0 ⟨[(15,(aj bG bF))],[]⟩))
def zq (b:Nat→PC):PT:=
 (.ite (aj uK KS)
 (.blockS ⟨[],[]⟩ 3 [2,6,71,72,73,74,75,76,77,78,79,80,84,85,91,92,96] [6]
 (.chk (aq mZ uK)
 (.call ⟨[],[(6,(.setc z3 0 (pn mZ uK)))]⟩ [] 78 26 [(pc (.setc z3 0 (pn mZ uK)) 0),pU]
 (.ite (.pick (.pick (.pick (.nt r78) pT (aj (pc o6 1) (pi 0))) pT (bm (pc o6 1) (pc o6 2))) pT (bm (pc o6 2) (pi 100000)))
 (.ret (pi 1))
 (.next ⟨[],[]⟩))))
 (.next ⟨[(69,(aL uK (pi 1)))],[]⟩))
 (.exit 2 ⟨[(70,(aj uK KS))],[]⟩))
def MK (b:Nat→PC):PT:=
 (.ite (bm (.llen (pc (.mk [r0]) 6)) (pi 100))
 (.ret (pi 6))
 (.brk ⟨[(14,(pi 0)),(13,(.llen (pc (.mk [r0]) 6))),(12,(pc (.mk [r0]) 6)),(2,(pi 0))],[(1,(.mk [r0]))]⟩
(aiV b)
 (.ite (bm (.llen (pc o1 7)) (pi 20))
 (.ret (pi 6))
 (.brk ⟨[(69,(pi 0)),(68,(.llen (pc o1 7))),(67,(pc o1 7))],[]⟩
(aiW b)
 (.ret (pi 0))))))
def adX (b:Nat→PC):PT×List (Shp×PT):=(MK b,[(.lp 0 [2,14,15] [] [2,14] [],zp b),(.lp 2 [2,69,70] [] [2,69] [],zq b)])
theorem CV:wk.map told=some (adX (az wk)):=by kernel_rfl
theorem aoq:tree DU=MK vp:=aP CV
theorem Lc:round 0 [2,14,15] [] [2,14] [] (vp 0)=zp vp:=bI CV 0 fun _=>rfl
theorem Ld:round 2 [2,69,70] [] [2,69] [] (vp 1)=zq vp:=bI CV 1 fun _=>rfl
theorem aaq:wk=some DU:=aE CV
noncomputable def AN:Option PC:=aB {ctx with fr:=[2],nh:=[]} Tryd.f7 ((ab ah 7).getD default) [1]
noncomputable def DA:PC:=aA AN
def Mr:PT:=
 (.ret (.pick (.pick (.pick (bO (.llen om) (pi 42)) (bO (.llen (pc (.mk [r0]) 16)) (pi 6)) pF) (bO (.llen (pc (.mk [r0]) 17)) (pi 102)) pF) (bO (.llen uG) (pi 202)) pF))
def adD (b:Nat→PC):PT×List (Shp×PT):=(Mr,[])
theorem TU:AN.map told=some (adD (az AN)):=by kernel_rfl
theorem an7:tree DA=Mr:=aP TU
theorem Z6:AN=some DA:=aE TU
noncomputable def vU:Option PC:=aB {ctx with fr:=[4,5,6,7,8,11],nh:=[]} Tryd.f8 ((ab ah 8).getD default) [2,3,10]
noncomputable def Dq:PC:=aA vU
noncomputable def vl:Nat→PC:=bL vU
def aiA (b:Nat→PC):PC:=.block 0 [4,48,49] [] (.loop [4,48] [] (b 0))
def aiB (b:Nat→PC):PC:=.block 2 [4,8,62,63] [] (.loop [4,8,62] [] (b 1))
def zd (b:Nat→PC):PT:=
 (.ite (aj mX y6)
 (.blockS ⟨[],[]⟩ 1 [4,6,7,50,51,52,53,54,55,56] []
 (.call ⟨[],[]⟩ [] 54 33 [(aQ 8 o2),(aQ 19 o3),mX]
 (.ite (aT ou (pi 0))
 (.ret ou)
 (.next ⟨[],[]⟩)))
 (.next ⟨[(48,(aL mX (pi 1)))],[]⟩))
 (.exit 0 ⟨[(49,(aj mX y6))],[]⟩))
def ze (b:Nat→PC):PT:=
 (.ite (aj j7 Vf)
 (.blockS ⟨[],[]⟩ 3 [4,8,10,64,65,66,67,68,69,70,71,72,73,74,75,76,77,78,79,80] [10]
 (.chk (aq y8 j7)
 (.call ⟨[],[(10,(.setc z2 0 (pn y8 j7)))]⟩ [] 73 34 [(pc (.setc z2 0 (pn y8 j7)) 0),sf,(.llen (pc o3 15))]
 (.ite (.nt za)
 (.ret (pi 1))
 (.call ⟨[],[]⟩ [] 77 34 [(pc cw 1),(pi 1),pR]
 (.ite (.nt KT)
 (.ret (pi 3))
 (.next ⟨[(8,(pc cw 0))],[]⟩))))))
 (.next ⟨[(62,(aL j7 (pi 1)))],[]⟩))
 (.exit 2 ⟨[(63,(aj j7 Vf))],[]⟩))
def Mi (b:Nat→PC):PT:=
 (.ite (.pick (.pick (.pick (bm (.llen (pc (.mk [r1]) 15)) (pi 40)) pT (bm (.llen (pc (.mk [r1]) 16)) (pi 4))) pT (bm (.llen (pc (.mk [r1]) 17)) (pi 100))) pT (bm (.llen (pc (.mk [r1]) 18)) (pi 200)))
 (.ret (pi 6))
 (.call ⟨[(4,(pi 0))],[(3,(.mk [r1])),(2,(.mk [r0]))]⟩ [] 37 32 [mR,(aQ 15 (.mk [r1]))]
 (.ite (aT jB (pi 0))
 (.ret jB)
 (.ite (ao (.llen (pc o3 15)) (pi 0))
 (.ret (pi 14))
 (.brk ⟨[(48,(pi 0)),(47,(.llen (pc o3 15)))],[]⟩
(aiA b)
 (.brk ⟨[(62,(pi 0)),(61,(.llen (pc o3 16))),(60,(pc o3 16)),(8,(pi 0))],[]⟩
(aiB b)
 (.call ⟨[],[]⟩ [] 84 35 [(aQ 8 o2),(aQ 19 o3)]
 (.ite (aT Vk (pi 0))
 (.ret Vk)
 (.call ⟨[],[]⟩ [] 89 36 [(aQ 19 o3)]
 (.ret KV))))))))))
def ads (b:Nat→PC):PT×List (Shp×PT):=(Mi b,[(.lp 0 [4,48,49] [] [4,48] [],zd b),(.lp 2 [4,8,62,63] [] [4,8,62] [],ze b)])
theorem CS:vU.map told=some (ads (az vU)):=by kernel_rfl
theorem anW:tree Dq=Mi vl:=aP CS
theorem K0:round 0 [4,48,49] [] [4,48] [] (vl 0)=zd vl:=bI CS 0 fun _=>rfl
theorem K1:round 2 [4,8,62,63] [] [4,8,62] [] (vl 1)=ze vl:=bI CS 1 fun _=>rfl
theorem ZW:vU=some Dq:=aE CS
noncomputable def Bf:Option PC:=aB {ctx with fr:=[4,5,6,7,8,54,80,109,118,9,10],nh:=[]} Tryd.f32 ((ab ah 32).getD default) [2,3]
noncomputable def Es:PC:=aA Bf
def Ng:PT:=
 (.call ⟨[],[(3,(.mk [r1])),(2,(.mk [r0]))]⟩ [] 12 6 [mR]
 (.ite (aT bZ (pi 0))
 (.ret bZ)
 (.call ⟨[(7,(.llen (pc o2 1))),(6,(.llen (pc o2 3)))],[]⟩ [] 25 45 [(pc o3 0),(.llen (pc o2 3))]
 (.call ⟨[(26,fV)],[]⟩ [(26,true)] 30 45 [(pc o3 1),r6]
 (.call ⟨[(36,(ao (pc o3 2) (pi (-1)))),(32,(.pick kO pW pF))],[]⟩ [(36,false),(32,true)] 40 45 [(pc o3 2),r6]
 (.call ⟨[(47,(ao (pc o3 11) (pi (-1)))),(43,(.pick uI (.pick mU pT mV) pF))],[]⟩ [(47,false),(43,true)] 51 45 [(pc o3 11),r6]
 (.blockS ⟨[(8,(.pick gp (.pick y6 pT eT) pF))],[]⟩ 0 [4,54,55,56,57,65,66,72,73,79,80,81,82,83,84,88,89,93,94,98,99,103,104,108,109,110,111,112,113,117,118,119,120,121,122,126,127,137,138,142] []
 (.call ⟨[(57,(.nt r8))],[]⟩ [(57,false)] 63 45 [(pc o3 4),(.llen (pc o2 0))]
 (.call ⟨[(66,(.pick E1 pT (.nt Vg)))],[]⟩ [(66,false)] 70 45 [(pc o3 9),r7]
 (.call ⟨[(73,(.pick Vh pT (.nt Vi)))],[]⟩ [(73,false)] 77 45 [(pc o3 10),r7]
 (.iteS ⟨[],[]⟩ (.pick za pT (.nt KT)) [4,80,81,82,83,84,88,89,93,94,98,99,103,104,108,109,110,111,112,113,117,118,119,120,121,122,126,127,137,138,142] []
 (.ret (pi 1))
 (.iteS ⟨[],[]⟩ (.pick (.pick (.pick (.pick (.pick (aj (pc o3 3) (pi 1)) pT (bm (pc o3 3) pR)) pT (aj (pc o3 8) (pi 0))) pT (bm (pc o3 8) (pi 100000))) pT (aj (pc o3 12) (pi 0))) pT (bm (pc o3 12) (pi 1000))) [4,109,110,111,112,113,117,118,119,120,121,122,126,127,137,138,142] []
 (.ret (pi 3))
 (.iteS ⟨[],[]⟩ (.pick (aj (pc o3 14) (pi 1)) pT (bm (pc o3 14) (pi 4))) [4,118,119,120,121,122,126,127,137,138,142] []
 (.ret (pi 15))
 (.call ⟨[(138,(.pick (.pick (aj (pc o3 13) (pi 0)) pT (bm (pc o3 13) (pi 7))) pT (.pick (aT (.ai .and .i64 (pc o3 13) (pi 4)) (pi 0)) (ao (pc o3 2) (pi (-1))) pF)))],[]⟩ [(138,false)] 140 46 [(aQ 15 o3)]
 (.ite (.pick (.r 138) pT (.nt (.r 140)))
 (.ret (pi 2))
 (.next ⟨[],[]⟩)))
 (.next ⟨[],[]⟩))
 (.next ⟨[],[]⟩))
 (.next ⟨[],[]⟩)))))
 (.iteS ⟨[],[]⟩ (ao (pc o3 5) (pi 4)) [4] []
 (.call ⟨[],[]⟩ [] 153 47 [(aQ 8 o2),(pc o3 9),(pc o3 10)]
 (.ret (.tget (.r 153) 1)))
 (.next ⟨[],[]⟩)
 (.ret (pi 0))))))))))
def aeu (b:Nat→PC):PT×List (Shp×PT):=(Ng,[])
theorem Uo:Bf.map told=some (aeu (az Bf)):=by kernel_rfl
theorem aoW:tree Es=Ng:=aP Uo
theorem aaX:Bf=some Es:=aE Uo
noncomputable def Bg:Option PC:=aB {ctx with fr:=[4],nh:=[]} Tryd.f45 ((ab ah 45).getD default) []
noncomputable def Et:PC:=aA Bg
def Nh:PT:=
 (.ret KP)
def aev (b:Nat→PC):PT×List (Shp×PT):=(Nh,[])
theorem Up:Bg.map told=some (aev (az Bg)):=by kernel_rfl
theorem aoX:tree Et=Nh:=aP Up
theorem aaY:Bg=some Et:=aE Up
noncomputable def Bh:Option PC:=aB {ctx with fr:=[2,8,19,40],nh:=[]} Tryd.f46 ((ab ah 46).getD default) [1,3]
noncomputable def Eu:PC:=aA Bh
def Ni:PT:=
 (.ite (.pick (ao (pc ix 0) (pi 0)) (ao (pc ix 0) (pi 0)) (ao (pc ix 0) (pi 4)))
 (.ret (.pick (ao (pc ix 1) (pi 0)) (ao (pc ix 2) (pi 0)) pF))
 (.ite (.pick (ao (pc ix 0) (pi 1)) (ao (pc ix 0) (pi 1)) (ao (pc ix 0) (pi 2)))
 (.ret (.pick (.pick (aY (pc ix 1) (pi 1)) (bO (pc ix 1) (pi 400)) pF) (.pick (ao (pc ix 2) (pi 0)) pT (ao (pc ix 2) (pi 1))) pF))
 (.ite (ao (pc ix 0) (pi 3))
 (.ret (.pick (.pick (aY (pc ix 1) (pc (.mk [r0]) 8)) (bO (pc ix 1) (pi 100000)) pF) (ao (pc ix 2) (pi 0)) pF))
 (.ret pF))))
def aew (b:Nat→PC):PT×List (Shp×PT):=(Ni,[])
theorem Uq:Bh.map told=some (aew (az Bh)):=by kernel_rfl
theorem aoY:tree Eu=Ni:=aP Uq
theorem aaZ:Bh=some Eu:=aE Uq
noncomputable def v9:Option PC:=aB {ctx with fr:=[6,7],nh:=[]} Tryd.f47 ((ab ah 47).getD default) [3,9]
noncomputable def DM:PC:=aA v9
noncomputable def Ge:Nat→PC:=bL v9
def aiM (b:Nat→PC):PC:=.block 0 [6,7,13,14] [] (.loop [6,7,13] [] (b 0))
def zk (b:Nat→PC):PT:=
 (.ite (aj bF bZ)
 (.chk (aq bl bF)
 (.ite (.pick (ao (pc (.setc z3 0 pP) 0) r1) (ao (pc (.setc z3 0 pP) 1) r2) pF)
 (.ret (.tup [(pc (.setc z3 0 pP) 2),(pi 0)]))
 (.next ⟨[(13,(aL bF (pi 1)))],[]⟩)))
 (.exit 0 ⟨[(14,(aj bF bZ))],[]⟩))
def MC (b:Nat→PC):PT:=
 (.brk ⟨[(13,(pi 0)),(12,(.llen (pc (.mk [r0]) 5))),(11,(pc (.mk [r0]) 5)),(7,(pi 0)),(6,(pi 0))],[]⟩
(aiM b)
 (.ret (.tup [(pi 0),(pi 4)])))
def adP (b:Nat→PC):PT×List (Shp×PT):=(MC b,[(.lp 0 [6,7,13,14] [] [6,7,13] [],zk b)])
theorem JU:v9.map told=some (adP (az v9)):=by kernel_rfl
theorem aoi:tree DM=MC Ge:=aP JU
theorem K7:round 0 [6,7,13,14] [] [6,7,13] [] (Ge 0)=zk Ge:=bI JU 0 fun _=>rfl
theorem aai:v9=some DM:=aE JU
noncomputable def vX:Option PC:=aB {ctx with fr:=[6,8,9,76,92,98],nh:=[]} Tryd.f33 ((ab ah 33).getD default) [3,4,7,11]
noncomputable def Dx:PC:=aA vX
noncomputable def F9:Nat→PC:=bL vX
def aiE (b:Nat→PC):PC:=.block 0 [8,9,51,52] [] (.loop [8,9,51] [] (b 0))
def E9 (b:Nat→PC):PT:=
 (.ite (aj eT gK)
 (.chk (aq mY eT)
 (.next ⟨[(8,(pc (.setc z9 0 (pn mY eT)) 6)),(9,(.pick r9 pT (.pick (.pick (ao (pc o7 0) (pi 1)) (ao (pc (.setc z9 0 (pn mY eT)) 0) (pi 1)) pF) (ao (pc (.setc z9 0 (pn mY eT)) 1) (pc o7 1)) pF))),(51,(aL eT (pi 1)))],[]⟩))
 (.exit 0 ⟨[(52,(aj eT gK))],[]⟩))
def Mp (b:Nat→PC):PT:=
 (.chk (aq (pc (.mk [r1]) 15) r2)
 (.call ⟨[],[(7,kK),(4,(.mk [r1])),(3,(.mk [r0]))]⟩ [] 23 34 [(pc kK 1),(pi 0),(bS (pc (.mk [r1]) 14) (pi 1))]
 (.ite (.nt lY)
 (.ret (pi 15))
 (.call ⟨[],[]⟩ [] 31 34 [(pc o7 2),(pi 0),ER]
 (.call ⟨[(33,(.nt sk))],[]⟩ [(33,false)] 40 34 [(pc o7 7),(pi 0),(bS (.llen (pc o3 1)) (pi 1))]
 (.ite (.pick EZ pT (.nt mV))
 (.ret (pi 1))
 (.chk (.slok (pc o4 15) (pi 0) r2)
 (.brk ⟨[(51,(pi 0)),(50,(.llen (.slc (pc o4 15) (pi 0) r2))),(49,(.slc (pc o4 15) (pi 0) r2)),(9,pF),(8,(pc o4 8))],[]⟩
(aiE b)
 (.blockS ⟨[],[]⟩ 2 [6,76,77,78,79,80,81,82,91,92,93,94,95,96,97,98,99] []
 (.call ⟨[],[]⟩ [] 80 34 [(pc o7 6),r8,(pi 100000)]
 (.iteS ⟨[],[]⟩ (.pick (.nt pZ) pT (.pick (ao r2 (pi 0)) (aT (pc o7 6) r8) pF)) [6,92,93,94,95,96,97,98,99] []
 (.ret (pi 13))
 (.call ⟨[],[]⟩ [] 96 48 [(aQ 8 o3),(aQ 19 o4),r2]
 (.ite (.nt r96)
 (.ret (pi 14))
 (.ite r9
 (.ret (pi 5))
 (.next ⟨[],[]⟩))))
 (.next ⟨[],[]⟩)))
 (.ret (pi 0)))))))))))
def adz (b:Nat→PC):PT×List (Shp×PT):=(Mp b,[(.lp 0 [8,9,51,52] [] [8,9,51] [],E9 b)])
theorem JP:vX.map told=some (adz (az vX)):=by kernel_rfl
theorem an3:tree Dx=Mp F9:=aP JP
theorem Vs:round 0 [8,9,51,52] [] [8,9,51] [] (F9 0)=E9 F9:=bI JP 0 fun _=>rfl
theorem Z3:vX=some Dx:=aE JP
noncomputable def AL:Option PC:=aB {ctx with fr:=[6],nh:=[]} Tryd.f34 ((ab ah 34).getD default) []
noncomputable def Dw:PC:=aA AL
def Mo:PT:=
 (.ret (.pick (aY r0 r1) (bO r0 r2) pF))
def ady (b:Nat→PC):PT×List (Shp×PT):=(Mo,[])
theorem TR:AL.map told=some (ady (az AL)):=by kernel_rfl
theorem an2:tree Dw=Mo:=aP TR
theorem Z2:AL=some Dw:=aE TR
noncomputable def AK:Option PC:=aB {ctx with fr:=[6,9,10,66,103,113,11,140,149],nh:=[]} Tryd.f48 ((ab ah 48).getD default) [3,4,7,8]
noncomputable def Dv:PC:=aA AK
def Mn:PT:=
 (.chk (aq (pc (.mk [r1]) 15) r2)
 (.ite (.pick (.cb .neq (ao r2 (pi 0)) (ao (pc kK 0) (pi 0))) pT (.pick (aT (pc kK 0) (pi 2)) (aT (pc kK 4) (pi (-1))) pF))
 (.ret pF)
 (.ite (.pick (.pick (aT (pc kK 0) (pi 3)) (aT (pc kK 0) (pi 4)) pF) (aT (pc kK 3) (pi (-1))) pF)
 (.ret pF)
 (.call ⟨[(9,(.pick (ao (pc kK 5) (pi 0)) (ao (pc kK 8) (pi 0)) pF))],[(8,(.setc FN 0 (aQ 15 (.mk [r1])))),(7,kK),(4,(.mk [r1])),(3,(.mk [r0]))]⟩ [] 58 34 [(pc kK 5),(pi 1),pR]
 (.blockS ⟨[(65,(pc o7 0)),(10,(.pick Ve (ao (pc o7 8) (pi 0)) pF))],[]⟩ 0 [6,66,67,103,104,113,114,140,141,149,150] []
 (.iteS ⟨[],[]⟩ (ao uJ (pi 0)) [6,103,104,113,114,140,141,149,150] []
 (.ret (.pick (.pick (.pick (.pick (.pick (ao (pc o7 2) (pc o8 0)) (ao (pc o7 5) (pi 0)) pF) (ao (.ai .or .i64 (pc o7 8) (pi 1)) (pi 1)) pF) (ao (pc o7 1) (pi 0)) pF) (ao (pc o7 6) (pc o8 8)) pF) (ao (pc o7 7) (pc o8 9)) pF))
 (.iteS ⟨[],[]⟩ (ao uJ (pi 1)) [6,113,114,140,141,149,150] []
 (.ret (.pick (ao (pc o7 2) (pc o8 1)) bY pF))
 (.iteS ⟨[],[]⟩ (ao uJ (pi 2)) [6,140,141,149,150] []
 (.call ⟨[(11,(pi 6))],[]⟩ [] 121 34 [(pc o7 4),(pi (-1)),ER]
 (.call ⟨[(127,(.pick alJ (ao (pc o7 5) (pi 0)) pF))],[]⟩ [(127,true)] 130 34 [(pc o7 8),(pi 0),(pi 7)]
 (.ret (.pick (.pick alK (.r 130) pF) (aT (.ai .and .i64 (pc o7 8) bl) bl) pF))))
 (.iteS ⟨[],[]⟩ (ao uJ (pi 3)) [6,149,150] []
 (.call ⟨[(143,r9)],[]⟩ [(143,true)] 147 62 [(aQ 19 o4),r2,(.lst [(pi 0),(pi 1),(pi 2),(pi 4)])]
 (.ret (.pick (.r 143) (.r 147) pF)))
 (.iteS ⟨[],[]⟩ (ao uJ (pi 4)) [6] []
 (.call ⟨[(159,(.pick bY (aT (pc o7 2) (pc o8 1)) pF))],[]⟩ [(159,true)] 163 62 [(aQ 19 o4),r2,(.lst [(pi 0),(pi 2)])]
 (.ret (.pick (.r 159) (.r 163) pF)))
 (.next ⟨[],[]⟩)
 (.next ⟨[],[]⟩))
 (.next ⟨[],[]⟩))
 (.next ⟨[],[]⟩))
 (.next ⟨[],[]⟩))
 (.next ⟨[],[]⟩))
 (.ret pF))))))
def adx (b:Nat→PC):PT×List (Shp×PT):=(Mn,[])
theorem TQ:AK.map told=some (adx (az AK)):=by kernel_rfl
theorem an1:tree Dv=Mn:=aP TQ
theorem Z1:AK=some Dv:=aE TQ
noncomputable def AJ:Option PC:=aB {ctx with fr:=[6,7],nh:=[]} Tryd.f62 ((ab ah 62).getD default) [3]
noncomputable def Dt:PC:=aA AJ
def Ml:PT:=
 (.chk (aq om r1)
 (.call ⟨[(7,(pc (pn om r1) 3))],[(3,(.mk [r0]))]⟩ [] 17 34 [(pc (pn om r1) 3),(pi 0),(bS r1 (pi 1))]
 (.chk (.nt (.an (.an gm pT) (.nt (aq (pc o3 15) r1))))
 (.call ⟨[(18,gm)],[]⟩ [(18,true)] 27 63 [(aQ 19 o3),r7,(pc (pn (pc o3 15) r1) 1)]
 (.chk (.nt (.an (.an (.pick fA dJ pF) pT) (.nt (aq (pc o3 15) r7))))
 (.call ⟨[(29,(.pick fA dJ pF))],[]⟩ [(29,true)] 37 67 [r2,(pc (pn (pc o3 15) r7) 0)]
 (.ret (.pick gn jB pF))))))))
def adv (b:Nat→PC):PT×List (Shp×PT):=(Ml,[])
theorem TP:AJ.map told=some (adv (az AJ)):=by kernel_rfl
theorem anZ:tree Dt=Ml:=aP TP
theorem ZZ:AJ=some Dt:=aE TP
noncomputable def AM:Option PC:=aB {ctx with fr:=[6],nh:=[]} Tryd.f63 ((ab ah 63).getD default) [3]
noncomputable def Dy:PC:=aA AM
def FE:PT:=
 (.chk (.nt (.an (.an (.nt (ao r1 (pi 0))) pT) (.nt (aq om r1))))
 (.ret (.pick (ao r1 (pi 0)) pT (ao (pc (pn om r1) 1) r2))))
def adA (b:Nat→PC):PT×List (Shp×PT):=(FE,[])
theorem TS:AM.map told=some (adA (az AM)):=by kernel_rfl
theorem an4:tree Dy=FE:=aP TS
theorem Z4:AM=some Dy:=aE TS
noncomputable def A2:Option PC:=aB {ctx with fr:=[4],nh:=[]} Tryd.f67 ((ab ah 67).getD default) []
noncomputable def D6:PC:=aA A2
def MW:PT:=
 (.call ⟨[],[]⟩ [] 7 83 [r0,r1]
 (.ret (aY r7 (pi 0))))
def ad9 (b:Nat→PC):PT×List (Shp×PT):=(MW,[])
theorem Ub:A2.map told=some (ad9 (az A2)):=by kernel_rfl
theorem aoC:tree D6=MW:=aP Ub
theorem aaC:A2=some D6:=aE Ub
noncomputable def wD:Option PC:=aB {ctx with fr:=[4,5],nh:=[]} Tryd.f83 ((ab ah 83).getD default) []
noncomputable def Eb:PC:=aA wD
noncomputable def Gp:Nat→PC:=bL wD
def aja (b:Nat→PC):PC:=.block 0 [4,8,9] [] (.loop [4,8] [] (b 0))
def zC (b:Nat→PC):PT:=
 (.ite (aj r8 r7)
 (.chk (aq r0 r8)
 (.ite (ao r1 (pn r0 r8))
 (.ret r8)
 (.next ⟨[(8,sf)],[]⟩)))
 (.exit 0 ⟨[(9,(aj r8 r7))],[]⟩))
def M1 (b:Nat→PC):PT:=
 (.brk ⟨[(8,(pi 0)),(7,(.llen r0)),(4,(pi 0))],[]⟩
(aja b)
 (.ret (pi (-1))))
def aee (b:Nat→PC):PT×List (Shp×PT):=(M1 b,[(.lp 0 [4,8,9] [] [4,8] [],zC b)])
theorem J3:wD.map told=some (aee (az wD)):=by kernel_rfl
theorem aoH:tree Eb=M1 Gp:=aP J3
theorem Lr:round 0 [4,8,9] [] [4,8] [] (Gp 0)=zC Gp:=bI J3 0 fun _=>rfl
theorem aaH:wD=some Eb:=aE J3
noncomputable def vV:Option PC:=aB {ctx with fr:=[4,5,7],nh:=[]} Tryd.f35 ((ab ah 35).getD default) [2,3,6]
noncomputable def Ds:PC:=aA vV
noncomputable def F7:Nat→PC:=bL vV
def aiC (b:Nat→PC):PC:=.block 0 [4,11,12] [] (.loop [4,11] [] (b 0))
def E7 (b:Nat→PC):PT:=
 (.ite (aj bl bY)
 (.blockS ⟨[],[]⟩ 1 [4,5,6,7,13,14,15,16,17,18,19,20,21,22,23,24,25,26,27,28,29,30,31,32,37,38,39,40,41,42,43,44,45,46,47,48,58,59,69,70,71,72,73] [6]
 (.chk (aq r9 bl)
 (.call ⟨[(5,bl)],[(6,(.setc z9 0 (pn r9 bl)))]⟩ [] 22 34 [(pc (.setc z9 0 (pn r9 bl)) 3),(pi 0),(bS (pc o3 14) (pi 1))]
 (.ite (.nt Vc)
 (.ret (pi 15))
 (.call ⟨[],[]⟩ [] 30 34 [(pc o6 7),(pi 0),(bS (.llen (pc o2 1)) (pi 1))]
 (.call ⟨[(32,(.nt pW))],[]⟩ [(32,false)] 35 34 [(pc o6 0),(pi 0),(pi 9)]
 (.ite (.pick uI pT (.nt pX))
 (.ret (pi 1))
 (.call ⟨[],[]⟩ [] 41 49 [(aQ 8 o2),(aQ 19 o3),(aQ 9 o6)]
 (.ite (.nt iy)
 (.ret (pi 14))
 (.ite (aT (pc o6 4) (pi (-1)))
 (.chk (aq (pc o3 15) (pc o6 4))
 (.ite (bm r5 (pi 0))
 (.chk (aq (pc o3 17) (bS r5 (pi 1)))
 (.call ⟨[],[]⟩ [] 72 34 [(pc o6 6),(.mx (.mx (pc o3 8) (pc (pn (pc o3 15) (pc o6 4)) 6)) (pc (pn (pc o3 17) (bS r5 (pi 1))) 6)),(pi 100000)]
 (.ite (.nt y9)
 (.ret (pi 13))
 (.next ⟨[],[]⟩))))
 (.call ⟨[],[]⟩ [] 72 34 [(pc o6 6),(.mx (pc o3 8) (pc (pn (pc o3 15) (pc o6 4)) 6)),(pi 100000)]
 (.ite (.nt y9)
 (.ret (pi 13))
 (.next ⟨[],[]⟩)))))
 (.ite (bm r5 (pi 0))
 (.chk (aq (pc o3 17) (bS r5 (pi 1)))
 (.call ⟨[],[]⟩ [] 72 34 [(pc o6 6),(.mx (pc o3 8) (pc (pn (pc o3 17) (bS r5 (pi 1))) 6)),(pi 100000)]
 (.ite (.nt y9)
 (.ret (pi 13))
 (.next ⟨[],[]⟩))))
 (.call ⟨[],[]⟩ [] 72 34 [(pc o6 6),(pc o3 8),(pi 100000)]
 (.ite (.nt y9)
 (.ret (pi 13))
 (.next ⟨[],[]⟩)))))))))))))
 (.next ⟨[(11,(aL bl (pi 1)))],[]⟩))
 (.exit 0 ⟨[(12,(aj bl bY))],[]⟩))
def Mk (b:Nat→PC):PT:=
 (.brk ⟨[(11,(pi 0)),(10,(.llen (pc (.mk [r1]) 17))),(9,(pc (.mk [r1]) 17)),(4,(pi 0))],[(3,(.mk [r1])),(2,(.mk [r0]))]⟩
(aiC b)
 (.ret (pi 0)))
def adu (b:Nat→PC):PT×List (Shp×PT):=(Mk b,[(.lp 0 [4,11,12] [] [4,11] [],E7 b)])
theorem JN:vV.map told=some (adu (az vV)):=by kernel_rfl
theorem anY:tree Ds=Mk F7:=aP JN
theorem Vq:round 0 [4,11,12] [] [4,11] [] (F7 0)=E7 F7:=bI JN 0 fun _=>rfl
theorem ZY:vV=some Ds:=aE JN
noncomputable def AI:Option PC:=aB {ctx with fr:=[6,7,8,9,65,80,100,111],nh:=[]} Tryd.f49 ((ab ah 49).getD default) [3,4,5]
noncomputable def Dr:PC:=aA AI
def Mj:PT:=
 (.call ⟨[],[(5,(.mk [r2])),(4,(.mk [r1])),(3,(.mk [r0]))]⟩ [] 16 34 [(pc (.mk [r2]) 4),(pi 0),(bS (.llen (pc (.mk [r1]) 15)) (pi 1))]
 (.call ⟨[(17,cg)],[]⟩ [(17,true)] 23 63 [(aQ 19 o4),(pc o5 4),(pc o5 3)]
 (.chk (.nt (.an (.an (.pick gm lY pF) pT) (.nt (aq (pc o4 15) (pc o5 4)))))
 (.call ⟨[(8,(.pick (.pick gm lY pF) (ao (pc (pn (pc o4 15) (pc o5 4)) 2) (pc o5 1)) pF)),(7,(.pick gm lY pF))],[]⟩ [] 44 34 [(pc o5 2),(pi 0),ER]
 (.call ⟨[(9,y4)],[]⟩ [] 51 34 [(pc o5 1),(pi 0),ER]
 (.ite (.pick (.nt eT) pT (.pick (aT (pc o5 0) (pi 4)) (aT (pc o5 8) (pi 0)) pF))
 (.ret pF)
 (.blockS ⟨[(64,(pc o5 0))],[]⟩ 0 [6,65,66,80,81,100,101,111,112] []
 (.iteS ⟨[],[]⟩ (.pick (ao kR (pi 0)) (ao kR (pi 0)) (.pick (ao kR (pi 1)) (ao kR (pi 1)) (ao kR (pi 2)))) [6,80,81,100,101,111,112] []
 (.ret (.pick (.pick r9 (ao (pc o5 4) (pi (-1))) pF) (ao (pc o5 5) (pi 0)) pF))
 (.iteS ⟨[],[]⟩ (.pick (ao kR (pi 3)) (ao kR (pi 3)) (.pick (ao kR (pi 5)) (ao kR (pi 5)) (ao kR (pi 4)))) [6,100,101,111,112] []
 (.call ⟨[(90,(.pick r9 (ao (pc o5 4) (pi (-1))) pF))],[]⟩ [(90,true)] 93 34 [(pc o5 5),(pi 0),pR]
 (.call ⟨[(95,(.pick E3 KW pF))],[]⟩ [(95,true)] 98 34 [(pc o5 8),(pi 0),(pi 1)]
 (.ret (.pick r95 r98 pF))))
 (.iteS ⟨[],[]⟩ (ao kR (pi 6)) [6,111,112] []
 (.call ⟨[(106,(.pick r9 r8 pF))],[]⟩ [(106,true)] 109 34 [(pc o5 5),(pi 1),pR]
 (.ret (.pick alH alI pF)))
 (.ite (ao kR (pi 9))
 (.ret (.pick (.pick (ao (pc o5 2) (pi (-1))) r8 pF) (ao (pc o5 5) (pi 0)) pF))
 (.next ⟨[],[]⟩))
 (.next ⟨[],[]⟩))
 (.next ⟨[],[]⟩))
 (.next ⟨[],[]⟩))
 (.ret (.pick (.pick (ao (pc o5 2) (pi (-1))) r7 pF) (ao (pc o5 5) (pi 0)) pF)))))))))
def adt (b:Nat→PC):PT×List (Shp×PT):=(Mj,[])
theorem TO:AI.map told=some (adt (az AI)):=by kernel_rfl
theorem anX:tree Dr=Mj:=aP TO
theorem ZX:AI=some Dr:=aE TO
noncomputable def vW:Option PC:=aB {ctx with fr:=[2,3],nh:=[]} Tryd.f36 ((ab ah 36).getD default) [1,4,5]
noncomputable def Du:PC:=aA vW
noncomputable def F8:Nat→PC:=bL vW
def aiD (b:Nat→PC):PC:=.block 0 [2,9,10] [] (.loop [2,9] [] (b 0))
def E8 (b:Nat→PC):PT:=
 (.ite (aj r9 r8)
 (.blockS ⟨[],[]⟩ 1 [2,3,4,11,12,13,14,15,16,17,18,27,28,33,34,35] [4]
 (.chk (aq r7 r9)
 (.call ⟨[(3,r9)],[(4,(.setc z3 0 (pn r7 r9)))]⟩ [] 16 34 [(pc (.setc z3 0 (pn r7 r9)) 0),(pi 0),(pi 4)]
 (.call ⟨[(18,(.nt cg))],[]⟩ [(18,false)] 25 34 [(pc o4 1),(pi 0),(bS (.llen (pc o1 15)) (pi 1))]
 (.call ⟨[(28,(.pick fA pT (.nt fV)))],[]⟩ [(28,false)] 31 34 [(pc o4 2),(pi 0),(pi 1)]
 (.ite (.pick oq pT (.nt sk))
 (.ret (pi 1))
 (.ite (ao r3 (pi 0))
 (.exit 1 ⟨[],[]⟩)
 (.chk (aq (pc o1 18) (bS r3 (pi 1)))
 (.call ⟨[],[(5,(.setc z3 0 (pn (pc o1 18) (bS r3 (pi 1)))))]⟩ [] 46 51 [(pc (.setc z3 0 (pn (pc o1 18) (bS r3 (pi 1)))) 1),(pc o4 1)]
 (.call ⟨[],[]⟩ [] 51 51 [(pc o5 0),(pc o4 0)]
 (.call ⟨[],[]⟩ [] 53 50 [(.lst [y5,eT])]
 (.ite (aY Vd (pi 0))
 (.ret (pi 5))
 (.next ⟨[],[]⟩))))))))))))
 (.next ⟨[(9,(aL r9 (pi 1)))],[]⟩))
 (.exit 0 ⟨[(10,(aj r9 r8))],[]⟩))
def Mm (b:Nat→PC):PT:=
 (.brk ⟨[(9,(pi 0)),(8,(.llen uG)),(7,uG),(2,(pi 0))],[(1,(.mk [r0]))]⟩
(aiD b)
 (.ret (pi 0)))
def adw (b:Nat→PC):PT×List (Shp×PT):=(Mm b,[(.lp 0 [2,9,10] [] [2,9] [],E8 b)])
theorem JO:vW.map told=some (adw (az vW)):=by kernel_rfl
theorem an0:tree Du=Mm F8:=aP JO
theorem Vr:round 0 [2,9,10] [] [2,9] [] (F8 0)=E8 F8:=bI JO 0 fun _=>rfl
theorem Z0:vW=some Du:=aE JO
noncomputable def Az:Option PC:=aB {ctx with fr:=[4,5,6],nh:=[]} Tryd.f51 ((ab ah 51).getD default) []
noncomputable def Db:PC:=aA Az
def L6:PT:=
 (.call ⟨[],[]⟩ [] 8 64 [r0]
 (.call ⟨[(5,r8)],[]⟩ [] 10 64 [r1]
 (.ite r5
 (.ite bY
 (.ret (pi 0))
 (.ret (pi (-1))))
 (.ite bY
 (.ret (pi 1))
 (.ite (aj r0 r1)
 (.ret (pi (-1)))
 (.ite (bm r0 r1)
 (.ret (pi 1))
 (.ret (pi 0))))))))
def ac3 (b:Nat→PC):PT×List (Shp×PT):=(L6,[])
theorem TG:Az.map told=some (ac3 (az Az)):=by kernel_rfl
theorem anz:tree Db=L6:=aP TG
theorem ZJ:Az=some Db:=aE TG
noncomputable def AA:Option PC:=aB {ctx with fr:=[2],nh:=[]} Tryd.f64 ((ab ah 64).getD default) []
noncomputable def De:PC:=aA AA
def L8:PT:=
 (.ret (aT r0 r0))
def ac5 (b:Nat→PC):PT×List (Shp×PT):=(L8,[])
theorem TH:AA.map told=some (ac5 (az AA)):=by kernel_rfl
theorem anB:tree De=L8:=aP TH
theorem ZL:AA=some De:=aE TH
noncomputable def vF:Option PC:=aB {ctx with fr:=[2,3,5],nh:=[]} Tryd.f50 ((ab ah 50).getD default) []
noncomputable def Dc:PC:=aA vF
noncomputable def F2:Nat→PC:=bL vF
def aih (b:Nat→PC):PC:=.block 0 [2,8,9] [] (.loop [2,8] [] (b 0))
def zb (b:Nat→PC):PT:=
 (.ite (aj r8 r7)
 (.chk (aq r6 r8)
 (.ite (aT (pn r6 r8) r3)
 (.ret (pn r6 r8))
 (.next ⟨[(8,sf)],[]⟩)))
 (.exit 0 ⟨[(9,(aj r8 r7))],[]⟩))
def L7 (b:Nat→PC):PT:=
 (.brk ⟨[(8,(pi 0)),(7,(.llen r0)),(6,r0),(3,(pi 0)),(2,(pi 0))],[]⟩
(aih b)
 (.ret r3))
def ac4 (b:Nat→PC):PT×List (Shp×PT):=(L7 b,[(.lp 0 [2,8,9] [] [2,8] [],zb b)])
theorem JI:vF.map told=some (ac4 (az vF)):=by kernel_rfl
theorem anA:tree Dc=L7 F2:=aP JI
theorem KX:round 0 [2,8,9] [] [2,8] [] (F2 0)=zb F2:=bI JI 0 fun _=>rfl
theorem ZK:vF=some Dc:=aE JI
end Rm
