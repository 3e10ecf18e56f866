/-
  The functions of this seat, compiled (1).
-/
import Derived.Test.YtipjidjopglknaaGreatDoorNAK
import Derived.KernelRfl
set_option linter.unusedVariables false
set_option maxRecDepth 100000
noncomputable section
namespace Rm
open Go Go.Proofs Cx
def yN:Option PC:=cF [10,11,13,15,16,18] [] Tryz.f5 5 [5,8,12,14,17,112,126,19]
def Cf:Nat→PC:=br yN
def an1 (b:Nat→PC):PC:=.block 0 [10,16,54,55,56,57] [] (.loop [10,16] [] (b 0))
def an2 (b:Nat→PC):PC:=.block 2 [17,18,97,98] [17] (.loop [17,18] [17] (b 1))
def KG (b:Nat→PC):PT:=
 (.ite (aj cN (.llen cR))
 (.chk (ar cR cN)
 (.chk (.nt (.an (.an (.nt (aj (pn cR cN) (pi 15))) pT) (.nt (ar cR cN))))
 (.chk (.nt (.an (.an (.nt Rg) pT) (.nt (ar cR cN))))
 (.chk (.nt (.an (.an (.nt Rg) pT) (.nt (ar gZ (pn cR cN)))))
 (.ite (.pick Rg pT (pc (pn gZ (pn cR cN)) 0))
 (.ret pF)
 (.next ⟨[(16,(aN cN (pi 1)))],[]⟩))))))
 (.exit 0 ⟨[(54,cN),(55,cR),(56,(.llen cR)),(57,(aj cN (.llen cR)))],[]⟩))
def KH (b:Nat→PC):PT:=
 (.ite (aj eg (pi 5))
 (.chk (cL eg (pi 0))
 (.chk (aU (pi 2) (pi 0))
 (.chk (bM (.llen (.app Qb (.lst [(.mk [eg,(pc o8 19),(.ai .and .i64 (.ai .rem .i64 (.ai .shr .i64 (.conv .i64 r4) eg) (pi 2)) (pi 1))])]))) cM)
 (.chk (cL (aN eg (pi 5)) (pi 0))
 (.chk (bM (.llen acJ) cM)
 (.next ⟨[(17,pN),(18,(aN eg (pi 1)))],[(17,acJ)]⟩))))))
 (.exit 2 ⟨[(97,eg),(98,(aj eg (pi 5)))],[]⟩))
def Tu (b:Nat→PC):PT:=
 (.call ⟨[(10,pF)],[(8,(.mk [r3])),(5,(.mk [r0]))]⟩ [] 20 6 []
 (.call ⟨[(11,eZ)],[]⟩ [] 24 7 [(ax 8 o5),(ax 19 o8)]
 (.call ⟨[(26,(.nt oT))],[]⟩ [(26,false)] 30 25 [(ax 8 o5),(ax 19 o8)]
 (.ite (.pick lT pT (aU tF (pi 0)))
 (.ret bH)
 (.call ⟨[],[]⟩ [] 38 8 [(ax 8 o5),r1,r2,(ax 24 o8)]
 (.call ⟨[],[(12,(.setc nw 0 jm))]⟩ [] 43 20 [(ax 8 o5),r1,r2,(ax 24 o8)]
 (.call ⟨[(13,rP)],[(14,(.setc Q9 0 (ax 24 o8)))]⟩ [] 49 24 [(ax 19 o8),(pc o8 23)]
 (.call ⟨[],[(14,(.setc Qa 0 lU))]⟩ [] 53 26 [(ax 8 o5),(ax 24 (.setc Qa 0 lU))]
 (.brk ⟨[(16,(pi 0)),(15,Ru)],[]⟩
(an1 b)
 (.ite (.cb .neq (aZ (.llen cR) (pi 0)) (.pick (peq (pc P8 4) (pi 0)) (.nt (pc P8 0)) pF))
 (.ret pF)
 (.brk ⟨[(18,(pi 0)),(17,pN)],[(17,pL)]⟩
(an2 b)
 (.call ⟨[],[]⟩ [] 131 27 [(ax 19 o8),Qb]
 (.call ⟨[],[]⟩ [] 137 8 [(ax 8 o5),r1,r2,(ax 24 (.setc Qa 0 (.r 131)))]
 (.ret (.pick (.pick bH (peq (pc (.setc nw 0 (.r 137)) 4) (pc P8 4)) pF) (.pick (aU (pc (.setc nw 0 (.r 137)) 4) (pi 0)) pT (pc (.setc nw 0 (.r 137)) 0)) pF)))))))))))))))
def ajn (b:Nat→PC):PT×List (Shp×PT):=(Tu b,[(.lp 0 [10,16,54,55,56,57] [] [10,16] [],KG b),(.lp 2 [17,18,97,98] [17] [17,18] [17],KH b)])
theorem JT:yN.map told=some (ajn (bq yN)):=by kernel_rfl
theorem ate:tree (ae yN)=Tu Cf:=bN JT
theorem adl:round 0 [10,16,54,55,56,57] [] [10,16] [] (Cf 0)=KG Cf:=bj JT 0 fun _=>rfl
theorem adm:round 2 [17,18,97,98] [17] [17,18] [17] (Cf 1)=KH Cf:=bj JT 1 fun _=>rfl
def Hx:Option PC:=cF [0,7,8,9] [] Tryz.f6 6 [1,2,3,4,5,6,73]
def TB:PT:=
 (.call ⟨[],[]⟩ [] 10 28 []
 (.call ⟨[(11,(ax 8 acO))],[(1,acO)]⟩ [] 12 30 [(pi 0)]
 (.call ⟨[],[]⟩ [] 13 29 [cg]
 (.call ⟨[],[]⟩ [] 14 8 [bH,(pi 0),(pi 2),cR]
 (.call ⟨[(15,(ax 8 o1))],[(2,(.setc nw 0 dx))]⟩ [] 16 30 [(pi 0)]
 (.call ⟨[],[]⟩ [] 17 29 [cN]
 (.call ⟨[],[]⟩ [] 18 8 [gZ,(pi 1),(pi 2),lS]
 (.call ⟨[(19,(ax 8 o1))],[(3,(.setc nw 0 eg))]⟩ [] 20 30 [(pi 1)]
 (.call ⟨[],[]⟩ [] 21 29 [eZ]
 (.call ⟨[],[]⟩ [] 22 8 [jH,(pi 1),(pi 2),mF]
 (.call ⟨[(23,(ax 8 o1))],[(4,(.setc nw 0 E7))]⟩ [] 24 30 [(pi 0)]
 (.call ⟨[],[]⟩ [] 25 29 [oT]
 (.call ⟨[],[]⟩ [] 26 8 [j2,(pi 0),(pi 0),jI]
 (.call ⟨[],[(6,xI),(5,(.setc nw 0 lT))]⟩ [] 32 12 [(ax 5 o2),(.mk [(.mk [(pc xI 0),(pc xI 1)]),(pi 0),(.lst [(pi 0)]),(pi 0)])]
 (.call ⟨[(33,E8)],[]⟩ [(33,true)] 38 12 [(ax 5 o3),(.mk [(.mk [(pc o6 0),(pc o6 1)]),(pi 0),(.lst [(pi 1),(pi 0)]),(pi 0)])]
 (.call ⟨[(40,(.pick tG jm pF))],[]⟩ [(40,true)] 44 12 [(ax 5 o4),(.mk [fG,(pi 1),(.lst [(pi 1)]),(pi 0)])]
 (.call ⟨[(49,(peq (pc o5 4) (pi 4))),(7,(.pick oU vg pF))],[]⟩ [(49,true)] 51 13 [(ax 5 o5)]
 (.call ⟨[(54,(.pick lU (peq mI (pi 0)) pF))],[]⟩ [(54,true)] 56 15 [(ax 5 o5)]
 (.call ⟨[(59,(.pick qx (peq oV (pi (-1))) pF))],[]⟩ [(59,true)] 61 13 [(ax 5 o2)]
 (.call ⟨[(64,(.pick Rv (peq xQ (pi 1)) pF))],[]⟩ [(64,true)] 66 13 [(ax 5 o4)]
 (.call ⟨[(69,(ax 8 o1)),(8,(.pick ln (peq KA (pi 2)) pF))],[]⟩ [] 70 30 [(pi 1)]
 (.call ⟨[],[]⟩ [] 71 29 [Rw]
 (.call ⟨[],[]⟩ [] 72 20 [tH,(pi 1),(pi 2),r71]
 (.call ⟨[],[]⟩ [] 74 17 [xR,(.lst [(pi 17)])]
 (.call ⟨[(76,(ax 8 o1)),(75,Ff)],[]⟩ [(75,true)] 77 30 [(pi 0)]
 (.call ⟨[],[]⟩ [(75,true)] 78 29 [KB]
 (.call ⟨[],[]⟩ [(75,true)] 79 18 [qy,(pi 1),Rx]
 (.call ⟨[],[]⟩ [(75,true)] 81 17 [r79,(.lst [(pi 1),(pi 0),(pi 1),(pi 0),(pi 0)])]
 (.call ⟨[(91,(ax 8 o1)),(90,(.pick (.pick r7 r8 pF) (.pick Fg tI pF) pF))],[]⟩ [(90,true)] 92 30 [(pi 0)]
 (.call ⟨[],[]⟩ [(90,true)] 93 22 [r91,(pi 0),Fi,(pi 5)]
 (.call ⟨[(97,(ax 8 o1)),(96,(.pick Ry (peq Bt (pi 10)) pF))],[]⟩ [(96,true)] 98 30 [(pi 0)]
 (.call ⟨[],[]⟩ [(96,true)] 99 22 [r97,(pi 1),RA,(pi 5)]
 (.call ⟨[(103,(ax 8 o1)),(102,(.pick Rz (peq KD (pi 13)) pF))],[]⟩ [(102,true)] 104 30 [(pi 0)]
 (.call ⟨[],[]⟩ [(102,true)] 105 22 [Kv,(pi 0),Ro,(pi 1)]
 (.ret (.pick ac2 (peq ac3 (pi (-1))) pF))))))))))))))))))))))))))))))))))))
theorem abi:Hx.map told=some (TB,[]):=by kernel_rfl
theorem atl:tree (ae Hx)=TB:=ba abi
def Hw:Option PC:=cF [5] [] Tryz.f28 28 [0,24576,28672,32768,1,12289,2,3,12291,4]
def TA:PT:=
 (.ret (.mk [(pc EZ 0),(pc EZ 1),(pc EZ 2),(pc EZ 3),(pc EZ 4),pL,pL,pL]))
theorem abh:Hw.map told=some (TA,[]):=by kernel_rfl
theorem atj:tree (ae Hw)=TA:=ba abh
def Hv:Option PC:=cF [] [] Tryz.f30 30 [2,69634,73730,3,4]
def Tz:PT:=
 (.ret (.mk [(pc kC 0),(pc kC 1),(pc kC 2),(pc kC 3),(pc kC 4),(pc kC 5),(pc kC 6),(pc kC 7),(pc kC 8),(pc kC 9),(pc kC 10),(pc kC 11),(pc kC 12),(pc kC 13),(pc kC 14),(pc kC 15),pL,pL,(pc kC 18)]))
theorem abg:Hv.map told=some (Tz,[]):=by kernel_rfl
theorem ati:tree (ae Hv)=Tz:=ba abg
def Ht:Option PC:=cF [] [] Tryz.f29 29 [1,2]
def Tv:PT:=
 (.ret (ax 24 (.setc Q9 0 (.mk [(ax 19 (.mk [r0])),(pi 0),(pi (-1)),(pi (-1)),(pi (-1)),(pi 5)]))))
theorem abe:Ht.map told=some (Tv,[]):=by kernel_rfl
theorem atf:tree (ae Ht)=Tv:=ba abe
def Ha:Option PC:=cF [10] [] Tryz.f8 8 [4,7,8,9]
def S7:PT:=
 (.call ⟨[],[(8,nw),(4,(.mk [r0]))]⟩ [] 16 33 [lg,r1,r2,(ax 24 (.mk [r3]))]
 (.iteS ⟨[(10,(.tget cN 1))],[(9,E2)]⟩ (aU (pc E2 2) (pi (-1))) [] [9]
 (.chk (ar (pc o4 4) (pc o9 2))
 (.call ⟨[],[]⟩ [] 31 34 [(pn (pc o4 4) (pc o9 2)),r2,di]
 (.next ⟨[],[(9,(.setc (.setc o9 0 (.tget rN 0)) 4 (.tget rN 1)))]⟩)))
 (.next ⟨[],[]⟩)
 (.ret (ax 5 (.setc o8 0 (ax 5 o9))))))
theorem aaQ:Ha.map told=some (S7,[]):=by kernel_rfl
theorem asP:tree (ae Ha)=S7:=ba aaQ
def Hg:Option PC:=cF [9,11,12,13,14] [] Tryz.f33 33 [4,7,8,10,16394]
def Td:PT:=
 (.call ⟨[],[(16394,pL),(10,(.setc nw 0 (.mk [fG,(pi (-1)),pL,(pi 1)]))),(8,nw),(7,(.mk [r3])),(4,(.mk [r0]))]⟩ [] 19 39 [lg,(ax 24 (.mk [r3]))]
 (.ite (peq (.llen (.tget jH 1)) (pi 0))
 (.ret (.tup [Rc,pL]))
 (.call ⟨[(11,(.tget jH 1))],[(7,(.setc o7 0 (.tget jH 0)))]⟩ [] 28 69 [r2]
 (.ite (.nt (.tget rL 1))
 (.ret (.tup [Rc,pL]))
 (.call ⟨[],[]⟩ [] 37 40 [(ax 8 o4),r1,(ax 24 o7)]
 (.ite (peq (.llen mG) (pi 0))
 (.ret (.tup [Rc,pL]))
 (.call ⟨[],[]⟩ [] 46 70 [(ax 8 o4),r1,r2,mG]
 (.ite (peq (pc xH 4) (pi 0))
 (.chk (ar (pc xH 3) (bD (.llen (pc xH 3)) (pi 1)))
 (.ret (.tup [(ax 5 (.setc o8 0 (ax 5 (.setc xH 2 (pn (pc xH 3) (bD (.llen (pc xH 3)) (pi 1))))))),bH])))
 (.ret (.tup [(ax 5 (.setc o8 0 (ax 5 xH))),bH]))))))))))
theorem aaX:Hg.map told=some (Td,[]):=by kernel_rfl
theorem asV:tree (ae Hg)=Td:=ba aaX
def Hh:Option PC:=cF [5] [] Tryz.f39 39 [2,3,4]
def Te:PT:=
 (.call ⟨[],[(4,Q9),(3,(.mk [r1])),(2,(.mk [r0]))]⟩ [] 10 24 [(ax 19 (.mk [r1])),(pc (.mk [r1]) 23)]
 (.call ⟨[(12,(ax 24 (.setc o3 0 di)))],[]⟩ [] 15 26 [(ax 8 o2),(ax 24 (.setc o3 0 di))]
 (.ret (.tup [(ax 24 (.setc o4 0 cg)),gZ]))))
theorem aaY:Hh.map told=some (Te,[]):=by kernel_rfl
theorem asW:tree (ae Hh)=Te:=ba aaY
def zl:Option PC:=cF [1000004,1000005] [] Tryz.f24 24 [2,4,65540,69636,73732,77828,5,65541,69637,73733,77829,7,31,9,49,11,13]
def sB:Nat→PC:=br zl
def aoN (b:Nat→PC):PC:=.block 0 [20,21] [65541,5] (.loop [20] [65541,5] (b 0))
def aoO (b:Nat→PC):PC:=.block 2 [38,39] [73733,5] (.loop [38] [73733,5] (b 1))
def aoP (b:Nat→PC):PC:=.block 4 [56,57] [5,69637] (.loop [56] [5,69637] (b 2))
def aoQ (b:Nat→PC):PC:=.block 6 [76,77] [5,77829] (.loop [76] [5,77829] (b 3))
def FT (b:Nat→PC):PT:=
 (.ite (aj eZ jH)
 (.chk (ar eg eZ)
 (.ite (aZ (pc (.setc z9 0 (pn eg eZ)) 6) r1)
 (.exit 0 ⟨[(21,(aj eZ jH))],[]⟩)
 (.chk (bM (.llen (.app (.o 65541) (.lst [(ax 9 (.setc z9 0 (pn eg eZ)))]))) cM)
 (.next ⟨[(20,(aN eZ (pi 1)))],[(65541,(.app (.o 65541) (.lst [(ax 9 (.setc z9 0 (pn eg eZ)))]))),(5,(.setc o5 15 pN))]⟩))))
 (.exit 0 ⟨[(21,(aj eZ jH))],[]⟩))
def FU (b:Nat→PC):PT:=
 (.ite (aj jm mG)
 (.chk (ar lj jm)
 (.ite (aZ (pc (.setc z9 0 (pn lj jm)) 6) r1)
 (.exit 2 ⟨[(39,(aj jm mG))],[]⟩)
 (.chk (bM (.llen (.app (.o 73733) (.lst [(ax 9 (.setc z9 0 (pn lj jm)))]))) cM)
 (.next ⟨[(38,(aN jm (pi 1)))],[(73733,(.app (.o 73733) (.lst [(ax 9 (.setc z9 0 (pn lj jm)))]))),(5,(.setc o5 17 pN))]⟩))))
 (.exit 2 ⟨[(39,(aj jm mG))],[]⟩))
def FV (b:Nat→PC):PT:=
 (.ite (aj oV Br)
 (.chk (ar qx oV)
 (.ite (bM (pc (.setc z2 0 (pn qx oV)) 0) (.llen (.o 65541)))
 (.chk (bM (.llen acU) cM)
 (.next ⟨[(56,(aN oV (pi 1)))],[(5,(.setc o5 16 pN)),(69637,acU)]⟩))
 (.next ⟨[(56,(aN oV (pi 1)))],[]⟩)))
 (.exit 4 ⟨[(57,(aj oV Br))],[]⟩))
def FW (b:Nat→PC):PT:=
 (.ite (aj qy Fg)
 (.blockS ⟨[],[]⟩ 7 [13,78,79,80,81,82,83,84,85] [13,77829,5]
 (.chk (ar Ff qy)
 (.call ⟨[],[(13,(.setc z3 0 (pn Ff qy)))]⟩ [] 85 49 [(pc (.setc z3 0 (pn Ff qy)) 1),(.llen (.o 65541))]
 (.ite Fh
 (.chk (bM (.llen acF) cM)
 (.next ⟨[],[(77829,acF),(5,(.setc o5 18 pN))]⟩))
 (.next ⟨[],[]⟩))))
 (.next ⟨[(76,(aN qy (pi 1)))],[]⟩))
 (.exit 6 ⟨[(77,(aj qy Fg))],[]⟩))
def Uw (b:Nat→PC):PT:=
 (.brk ⟨[(20,(pi 0)),(19,(.llen rH)),(18,rH)],[(77829,pL),(73733,pL),(69637,pL),(65541,pL),(5,(.setc Bm 0 (.mk [(ax 15 (.mk [r0])),pL,pL,pL,pL]))),(4,Bm),(2,(.mk [r0]))]⟩
(aoN b)
 (.brk ⟨[(38,(pi 0)),(37,(.llen (pc o2 17))),(36,(pc o2 17))],[]⟩
(aoO b)
 (.brk ⟨[(56,(pi 0)),(55,(.llen (pc o2 16))),(54,(pc o2 16))],[]⟩
(aoP b)
 (.brk ⟨[(76,(pi 0)),(75,xK),(74,(pc o2 18))],[]⟩
(aoQ b)
 (.ret (.mk [(pc lR 0),(pc lR 1),(pc lR 2),(pc lR 3),(pc lR 4),(pc lR 5),(pc lR 6),(pc lR 7),(pc lR 8),(pc lR 9),(pc lR 10),(pc lR 11),(pc lR 12),(pc lR 13),(pc lR 14),(.o 65541),(.o 69637),(.o 73733),(.o 77829)]))))))
def ajV (b:Nat→PC):PT×List (Shp×PT):=(Uw b,[(.lp 0 [20,21] [65541,5] [20] [65541,5],FT b),(.lp 2 [38,39] [73733,5] [38] [73733,5],FU b),(.lp 4 [56,57] [5,69637] [56] [5,69637],FV b),(.lp 6 [76,77] [5,77829] [76] [5,77829],FW b)])
theorem AS:zl.map told=some (ajV (bq zl)):=by kernel_rfl
theorem auk:tree (ae zl)=Uw sB:=bN AS
theorem Sb:round 0 [20,21] [65541,5] [20] [65541,5] (sB 0)=FT sB:=bj AS 0 fun _=>rfl
theorem Sc:round 2 [38,39] [73733,5] [38] [73733,5] (sB 1)=FU sB:=bj AS 1 fun _=>rfl
theorem Sd:round 4 [56,57] [5,69637] [56] [5,69637] (sB 2)=FV sB:=bj AS 2 fun _=>rfl
theorem Se:round 6 [76,77] [5,77829] [76] [5,77829] (sB 3)=FW sB:=bj AS 3 fun _=>rfl
def HX:Option PC:=cF [4] [] Tryz.f49 49 []
def UB:PT:=
 (.ret Rm)
theorem abJ:HX.map told=some (UB,[]):=by kernel_rfl
theorem auq:tree (ae HX)=UB:=ba abJ
def zo:Option PC:=cF [4,7,9,11,12,13,14,15,16] [] Tryz.f26 26 [2,3,5,6,8,10,90,139]
def Cs:Nat→PC:=br zo
def ao9 (b:Nat→PC):PC:=.meach 90 [94,95,11,12] [0,1,0,1] [10] (b 0)
def apa (b:Nat→PC):PC:=.meach 139 [143,144,15,16] [0,1,0,1] [10] (b 1)
def Si (b:Nat→PC):PT:=
 (.chk (ar cA bH)
 (.next ⟨[],[(10,(.setn cA bH 0 (.mk [pT,cg])))]⟩))
def Sj (b:Nat→PC):PT:=
 (.blockS ⟨[],[]⟩ 3 [145,146,147,148,149] [10]
 (.call ⟨[(146,gZ)],[]⟩ [] 148 58 [cN]
 (.chk (ar cA (.r 146))
 (.next ⟨[],[(10,(.setn cA (.r 146) 0 (.r 148)))]⟩)))
 (.next ⟨[],[]⟩))
def vy (b:Nat→PC):PT:=
 (.call ⟨[(7,(.mx (pc (.mk [r1]) 20) (pi 0)))],[(6,(.setc GA 0 (ax 15 (.mk [r1])))),(5,(.setc Bm 0 (ax 19 (.mk [r1])))),(3,(.mk [r1])),(2,(.mk [r0]))]⟩ [] 30 49 [(pc (.mk [r1]) 19),(.llen (pc (.setc Bm 0 (ax 19 (.mk [r1]))) 15))]
 (.call ⟨[(48,(aU (pc o3 22) (pi (-1)))),(44,(.pick (.pick (.nt tF) pT (aj (pc o3 20) (pi (-1)))) pT (cL r7 (.llen (pc o5 15)))))],[]⟩ [(48,true),(44,false)] 51 49 [(pc o3 22),(pi 100001)]
 (.ite (.pick vg pT (.pick mH (.nt mI) pF))
 (.ret pL)
 (.chk (ar (pc o5 15) (pc o3 19))
 (.call ⟨[],[(8,(.setc z9 0 (pn (pc o5 15) (pc o3 19))))]⟩ [] 63 49 [(pc (.setc z9 0 (pn (pc o5 15) (pc o3 19))) 6),(pi 100001)]
 (.ite (.nt Kz)
 (.ret pL)
 (.chk (.an (cL (pi 20) (pi 0)) (bM (pi 20) cM))
 (.chk (peq (pi 20) (pi 20))
 (.chk (aj (.mlen (.con (.map []))) cM)
 (.chk (aj (.mlen (.put (.con (.map [])) (pi 0) (pc o6 3))) cM)
 (.chk (aj (.mlen (.put (.put (.con (.map [])) (pi 0) (pc o6 3)) (pi 1) (pc o6 14))) cM)
 (.chk (aj (.mlen Ra) cM)
 (.chk (aj (.mlen (.put Ra (pi 3) (pc o6 12))) cM)
 (.chk (aj (.mlen Rh) cM)
 (.chk (aj (.mlen (.put Rh (pi 5) (pc o3 21))) cM)
 (.blockS ⟨[(10,pN),(9,acE)],[(90,(.tup [(.lst []),(.put (.put Rh (pi 5) (pc o3 21)) (pi 6) acE)])),(10,(.rep (pi 20) fG))]⟩ 0 [] [10]
 (.brk ⟨[],[]⟩
(ao9 b)
 (.exit 0 ⟨[],[]⟩))
 (.call ⟨[],[(3,(ax 24 o3))]⟩ [] 104 55 [(pc o5 16),(.clo 56 [(.ref (ax 24 o3))])]
 (.call ⟨[(13,Ro)],[]⟩ [] 108 57 [(ax 8 o2),(pc o6 9)]
 (.call ⟨[],[]⟩ [] 112 57 [(ax 8 o2),(pc o6 10)]
 (.chk (aj (.mlen (.con (.map []))) cM)
 (.chk (aj (.mlen Rf) cM)
 (.chk (aj (.mlen (.put Rf (pi 8) (peq (pc o6 2) (pi (-1))))) cM)
 (.chk (aj (.mlen (.put (.put Rf (pi 8) (peq (pc o6 2) (pi (-1)))) (pi 9) (aU (.ai .and .i64 (pc o6 13) (pi 4)) (pi 0)))) cM)
 (.chk (aj (.mlen Kl) cM)
 (.chk (aj (.mlen (.put Kl (pi 11) (aU Rq Rr))) cM)
 (.chk (aj (.mlen (.put (.put Kl (pi 11) (aU Rq Rr)) (pi 12) cR)) cM)
 (.chk (aj (.mlen acP) cM)
 (.blockS ⟨[],[(139,(.tup [(.lst []),(.put acP (pi 14) (aZ r9 (pi 0)))]))]⟩ 2 [] [10]
 (.brk ⟨[],[]⟩
(apa b)
 (.exit 2 ⟨[],[]⟩))
 (.call ⟨[],[]⟩ [] 154 59 [(ax 19 o5),(pi 0),(pc o3 19)]
 (.chk (ar cA (pi 15))
 (.call ⟨[],[(10,(.setn cA (pi 15) 0 (.r 154)))]⟩ [] 160 59 [(ax 19 o5),(pi 1),(pc o3 19)]
 (.chk (ar cA (pi 16))
 (.call ⟨[],[(10,(.setn cA (pi 16) 0 (.r 160)))]⟩ [] 166 59 [(ax 19 o5),(pi 2),(pc o3 19)]
 (.chk (ar cA (pi 17))
 (.call ⟨[],[(10,(.setn cA (pi 17) 0 (.r 166)))]⟩ [] 171 59 [(ax 19 o5),(pi 3),r7]
 (.chk (ar cA (pi 18))
 (.call ⟨[],[(10,(.setn cA (pi 18) 0 (.r 171)))]⟩ [] 176 59 [(ax 19 o5),(pi 4),r7]
 (.chk (ar cA (pi 19))
 (.ret (.setn cA (pi 19) 0 (.r 176)))))))))))))))))))))))))))))))))))))))))
def ajY (b:Nat→PC):PT×List (Shp×PT):=(vy b,[(.ea [10],Si b),(.ea [10],Sj b)])
theorem J6:zo.map told=some (ajY (bq zo)):=by kernel_rfl
theorem auo:tree (ae zo)=vy Cs:=bN J6
theorem arq:qD [10] (Cs 0)=Si Cs:=S6 J6 0 fun _=>rfl
theorem ars:qD [10] (Cs 1)=Sj Cs:=S6 J6 1 fun _=>rfl
def HV:Option PC:=cF [3] [] Tryz.f56 56 [2]
def Uz:PT:=
 (.ret (bM kB (pc (.deref r1) 19)))
theorem abH:HV.map told=some (Uz,[]):=by kernel_rfl
theorem aun:tree (ae HV)=Uz:=ba abH
def HY:Option PC:=cF [4] [] Tryz.f55 55 []
def UD:PT:=
 (.call ⟨[],[]⟩ [] 7 104 [r0,r1]
 (.ret (cL r7 (pi 0))))
theorem abK:HY.map told=some (UD,[]):=by kernel_rfl
theorem aus:tree (ae HY)=UD:=ba abK
def zp:Option PC:=cF [4,5] [] Tryz.f104 104 []
def MR:Nat→PC:=br zp
def aoW (b:Nat→PC):PC:=.block 0 [4,8,9] [] (.loop [4,8] [] (b 0))
def F0 (b:Nat→PC):PT:=
 (.ite (aj r8 r7)
 (.blockS ⟨[],[]⟩ 1 [4,5,10,11,12,13,14,15,16] []
 (.chk (ar r0 r8)
 (.callc ⟨[(5,r8)],[]⟩ [] 16 r1 [(pn r0 r8)]
 (.ite cN
 (.ret r5)
 (.next ⟨[],[]⟩))))
 (.next ⟨[(8,tC)],[]⟩))
 (.exit 0 ⟨[(9,(aj r8 r7))],[]⟩))
def UH (b:Nat→PC):PT:=
 (.brk ⟨[(8,(pi 0)),(7,(.llen r0)),(4,(pi 0))],[]⟩
(aoW b)
 (.ret (pi (-1))))
def aj0 (b:Nat→PC):PT×List (Shp×PT):=(UH b,[(.lp 0 [4,8,9] [] [4,8] [],F0 b)])
theorem QD:zp.map told=some (aj0 (bq zp)):=by kernel_rfl
theorem auw:tree (ae zp)=UH MR:=bN QD
theorem Sk:round 0 [4,8,9] [] [4,8] [] (MR 0)=F0 MR:=bj QD 0 fun _=>rfl
def HS:Option PC:=cF [4] [] Tryz.f57 57 [2]
def Uk:PT:=
 (.call ⟨[],[(2,(.mk [r0]))]⟩ [] 9 105 [r1,(.llen qu)]
 (.ite (.nt r9)
 (.ret (pi (-1)))
 (.chk (ar (pc o2 1) r1)
 (.ret (pc (pn (pc o2 1) r1) 1)))))
theorem abE:HS.map told=some (Uk,[]):=by kernel_rfl
theorem at6:tree (ae HS)=Uk:=ba abE
def HT:Option PC:=cF [4] [] Tryz.f105 105 []
def Uo:PT:=
 (.ret Rm)
theorem abF:HT.map told=some (Uo,[]):=by kernel_rfl
theorem auc:tree (ae HT)=Uo:=ba abF
def HW:Option PC:=cF [] [] Tryz.f58 58 [2]
def UA:PT:=
 (.ite r0
 (.ret (.mk [(pc xI 0),(pc xI 1)]))
 (.ret (.mk [(pc Kt 0),(pc Kt 1)])))
theorem abI:HW.map told=some (UA,[]):=by kernel_rfl
theorem aup:tree (ae HW)=UA:=ba abI
def zm:Option PC:=cF [] [] Tryz.f59 59 [3,6,8]
def MQ:Nat→PC:=br zm
def aoR (b:Nat→PC):PC:=.block 0 [12,13] [6] (.loop [12] [6] (b 0))
def FX (b:Nat→PC):PT:=
 (.ite (aj cg bH)
 (.blockS ⟨[],[]⟩ 1 [8,14,15,16,17,18,19,20,25] [8,6]
 (.chk (ar di cg)
 (.iteS ⟨[],[(8,(.setc z3 0 (pn di cg)))]⟩ (.pick (peq (pc (.setc z3 0 (pn di cg)) 0) r1) (peq (pc (.setc z3 0 (pn di cg)) 1) r2) pF) [] [6]
 (.call ⟨[],[]⟩ [] 29 58 [(aU (pc o8 2) (pi 0))]
 (.ret (.mk [(pc (.setc o6 0 rM) 0),(pc (.setc o6 0 rM) 1)])))
 (.next ⟨[],[]⟩)
 (.next ⟨[],[]⟩)))
 (.next ⟨[(12,(aN cg (pi 1)))],[]⟩))
 (.exit 0 ⟨[(13,(aj cg bH))],[]⟩))
def Ux (b:Nat→PC):PT:=
 (.brk ⟨[(12,(pi 0)),(11,(.llen (pc (.mk [r0]) 18))),(10,(pc (.mk [r0]) 18))],[(6,fG)]⟩
(aoR b)
 (.ret Re))
def ajW (b:Nat→PC):PT×List (Shp×PT):=(Ux b,[(.lp 0 [12,13] [6] [12] [6],FX b)])
theorem QC:zm.map told=some (ajW (bq zm)):=by kernel_rfl
theorem aul:tree (ae zm)=Ux MQ:=bN QC
theorem Sf:round 0 [12,13] [6] [12] [6] (MQ 0)=FX MQ:=bj QC 0 fun _=>rfl
def HA:Option PC:=cF [2,3,4,11] [] Tryz.f69 69 []
def TE:PT:=
 (.blockS ⟨[],[]⟩ 0 [2,3,4,5,6,7,10,11,12,13,14] []
 (.iteS ⟨[],[]⟩ (.pick (aj r0 (pi 0)) pT (cL r0 (pi 22))) [2,3,11,12,13,14] []
 (.ret (.tup [(pi 0),pF]))
 (.call ⟨[],[]⟩ [] 14 81 [(.lst [(pc rJ 0),(pc rJ 1),(pc rJ 2),(pc rJ 3),(pc rJ 4),(pc rJ 5),(pc rJ 6),(pc rJ 7),(pc rJ 8),(pc rJ 9)]),r0]
 (.ite dx
 (.ret (.tup [(pi 0),pT]))
 (.next ⟨[],[]⟩)))
 (.next ⟨[],[]⟩))
 (.ret (.tup [(pi 1),pT])))
theorem abl:HA.map told=some (TE,[]):=by kernel_rfl
theorem ato:tree (ae HA)=TE:=ba abl
def H0:Option PC:=cF [4] [] Tryz.f81 81 []
def UF:PT:=
 (.call ⟨[],[]⟩ [] 7 124 [r0,r1]
 (.ret (cL r7 (pi 0))))
theorem abM:H0.map told=some (UF,[]):=by kernel_rfl
theorem auu:tree (ae H0)=UF:=ba abM
def zt:Option PC:=cF [4,5] [] Tryz.f124 124 []
def MU:Nat→PC:=br zt
def aoZ (b:Nat→PC):PC:=.block 0 [4,8,9] [] (.loop [4,8] [] (b 0))
def F3 (b:Nat→PC):PT:=
 (.ite (aj r8 r7)
 (.chk (ar r0 r8)
 (.ite (peq r1 (pn r0 r8))
 (.ret r8)
 (.next ⟨[(8,tC)],[]⟩)))
 (.exit 0 ⟨[(9,(aj r8 r7))],[]⟩))
def UK (b:Nat→PC):PT:=
 (.brk ⟨[(8,(pi 0)),(7,(.llen r0)),(4,(pi 0))],[]⟩
(aoZ b)
 (.ret (pi (-1))))
def aj3 (b:Nat→PC):PT×List (Shp×PT):=(UK b,[(.lp 0 [4,8,9] [] [4,8] [],F3 b)])
theorem QG:zt.map told=some (aj3 (bq zt)):=by kernel_rfl
theorem auA:tree (ae zt)=UK MU:=bN QG
theorem Sn:round 0 [4,8,9] [] [4,8] [] (MU 0)=F3 MU:=bj QG 0 fun _=>rfl
def yL:Option PC:=cF [8,9,11,12,13,14,55,70] [] Tryz.f70 70 [4,10,53]
def Ms:Nat→PC:=br yL
def anZ (b:Nat→PC):PC:=.block 0 [] [] (.loop [8,9,10] [10] (b 0))
def RH (b:Nat→PC):PT:=
 (.blockS ⟨[],[]⟩ 1 [8,9,10,11,12,13,14,32,33,35,36,37,38,39,40,41,42,43,44,45,46,49,50,52,53,54,55,56,57,58,68,70,71] [53,10]
 (.chk (ar cA (bD (.llen cA) (pi 1)))
 (.call ⟨[(11,(pn cA (bD (.llen cA) (pi 1))))],[]⟩ [] 41 112 [(ax 8 o4),(pn cA (bD (.llen cA) (pi 1))),r2,r3]
 (.ite (peq (.tget rO 0) bH)
 (.ret (.tup [cA,(pi 0)]))
 (.call ⟨[(13,(.tget rO 1)),(12,(.tget rO 0))],[]⟩ [] 50 81 [cA,(.tget rO 0)]
 (.chk (bM (.llen (.app cA (.lst [cg]))) cM)
 (.chk (.nt (.an (.an lV (.an (.nt (.nt cR)) pT)) (.nt (ar (pc o4 4) cg))))
 (.ite (.pick (.nt cR) pT (.pick lV (pc (pn (pc o4 4) cg) 1) pF))
 (.ret (.tup [(.app cA (.lst [cg])),(pi 0)]))
 (.ite lV
 (.ret (.tup [(.app cA (.lst [cg])),(pi 12)]))
 (.next ⟨[(10,pN)],[(10,(.app cA (.lst [cg])))]⟩)))))))))
 (.next ⟨[],[]⟩))
def Tr (b:Nat→PC):PT:=
 (.call ⟨[(9,(pi 0)),(8,pL)],[(4,(.mk [r0]))]⟩ [] 19 111 [lg,r1,r2,r3]
 (.chk (.nt (.an (.an (.nt (.nt jH)) pT) (.nt (ar r3 (pi 0)))))
 (.ite (.pick (.nt jH) pT (aU (pn r3 (pi 0)) r1))
 (.ret (.tup [pL,(pi 1)]))
 (.brk ⟨[(10,pN)],[(10,(.lst [r1]))]⟩
(anZ b)
 (.next ⟨[],[]⟩)))))
def ajl (b:Nat→PC):PT×List (Shp×PT):=(Tr b,[(.lp 0 [] [] [8,9,10] [10],RH b)])
theorem Qf:yL.map told=some (ajl (bq yL)):=by kernel_rfl
theorem ata:tree (ae yL)=Tr Ms:=bN Qf
theorem aro:round 0 [] [] [8,9,10] [10] (Ms 0)=RH Ms:=bj Qf 0 fun _=>rfl
end Rm
