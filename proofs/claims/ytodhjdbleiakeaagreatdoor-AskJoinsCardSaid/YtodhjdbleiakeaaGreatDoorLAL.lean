/-
  The functions of this seat, compiled (1).
-/
import Derived.Test.YtodhjdbleiakeaaGreatDoorLAK
import Derived.KernelRfl
set_option linter.unusedVariables false
set_option maxRecDepth 100000
namespace Rm
open Go Go.Proofs Cx
noncomputable def CS:Option PC:=aA {ctx with fr:=[8,9,11,13,15,16,17,18,20],nh:=[]} Tryz.f6 ((ae af 6).getD default) [4,7,10,12,14,19]
noncomputable def FU:PC:=ay CS
def Qr:PT:=
 (.call ⟨[],[(7,(.mk [r3])),(4,(.mk [r0]))]⟩ [] 21 26 []
 (.call ⟨[(9,jn)],[]⟩ [] 25 27 [(au 8 o4),(au 19 o7)]
 (.ite (.nt gI)
 (.ret r9)
 (.call ⟨[],[]⟩ [] 32 28 [(au 8 o4),r1,r2,(au 24 o7)]
 (.call ⟨[],[(10,(.setc nZ 0 AY))]⟩ [] 36 29 [(au 8 o4),r1,(au 24 o7)]
 (.call ⟨[(11,iL)],[(12,(.setc Ot 0 (au 24 o7)))]⟩ [] 42 30 [(au 19 o7),(pc o7 23)]
 (.call ⟨[],[(12,(.setc kl 0 A0))]⟩ [] 46 31 [(au 8 o4),(au 24 (.setc kl 0 A0))]
 (.ite (.pick (.pick (aw (.llen aU) (pi 0)) pT (ak r2 (pi 0))) pT (bt r2 (pi 22)))
 (.ret (.pick (.pick (.pick r9 (aw (pc bk 4) (pi 1)) pF) (aw (pc bk 2) (pi (-1))) pF) (aw (.llen (pc bk 3)) (pi 0)) pF))
 (.ite (.pick (.pick (.pick (aO (.llen aU) (pi 5)) pT (aO (.llen m6) (pi 20))) pT (ak (pc o7 19) (pi 0))) pT (bt (pc o7 19) (.llen (pc kl 15))))
 (.ret pF)
 (.chk (aq (pc kl 15) (pc o7 19))
 (.ite (.pick (ak (pc AN 2) (pi 0)) pT (bt (pc AN 2) (.llen (pc o4 3))))
 (.ret pF)
 (.chk (aq (pc o4 3) (pc AN 2))
 (.chk (aq aU (pi 0))
 (.chk (.nt (.an (.an (.nt (aO (pn aU (pi 0)) r1)) pT) (.nt (aq aU (pi 1)))))
 (.call ⟨[(130,(pn aU (pi 1))),(127,(aO (pn aU (pi 0)) r1)),(15,(pc (pn (pc o4 3) (pc AN 2)) 1)),(13,m6)],[]⟩ [(127,false)] 134 32 [(au 8 o4),(pc AN 7)]
 (.chk (.nt (.an (.an (.nt (.pick HJ pT (aO (.r 130) (.r 134)))) pT) (.nt (aq aU (pi 2)))))
 (.call ⟨[(140,(pn aU (pi 2))),(137,(.pick HJ pT (aO (.r 130) (.r 134))))],[]⟩ [(137,false)] 146 32 [(au 8 o4),(pc o7 10)]
 (.chk (.nt (.an (.an (.nt (.pick (.r 137) pT (aO (.r 140) (.r 146)))) pT) (.nt (aq aU (pi 3)))))
 (.call ⟨[(152,(pn aU (pi 3))),(149,(.pick (.r 137) pT (aO (.r 140) (.r 146))))],[]⟩ [(149,false)] 158 32 [(au 8 o4),(pc o7 9)]
 (.chk (.nt (.an (.an (.nt (.pick (.r 149) pT (aO (.r 152) (.r 158)))) pT) (.nt (aq aU (pi 4)))))
 (.call ⟨[(164,(pn aU (pi 4))),(161,(.pick (.r 149) pT (aO (.r 152) (.r 158))))],[]⟩ [(161,false)] 167 32 [(au 8 o4),gm]
 (.ite (.pick (.r 161) pT (aO (.r 164) (.r 167)))
 (.ret pF)
 (.call ⟨[],[]⟩ [] 175 33 [(au 8 o4),r1,r2,aU]
 (.call ⟨[(17,(.tget (.r 175) 1)),(16,(.tget (.r 175) 0))],[]⟩ [] 181 34 [(.tget (.r 175) 0),(pc bk 3)]
 (.ite (.pick (.nt (.r 181)) pT (ak (.llen bU) (pi 1)))
 (.ret pF)
 (.ite (aO jL (pi 0))
 (.ret (.pick (.pick r9 (aw (pc bk 4) jL) pF) (aw (pc bk 2) (pi (-1))) pF))
 (.chk (aq bU (bh (.llen bU) (pi 1)))
 (.ite (.pick (.pick (ak AP (pi 0)) pT (bt AP (.llen (pc o4 4)))) pT (aO (pc bk 2) AP))
 (.ret pF)
 (.chk (aq (pc o4 4) AP)
 (.call ⟨[],[]⟩ [] 231 35 [(pn (pc o4 4) AP),r2,dx]
 (.ret (.pick (.pick r9 (.an (.cb .eql (pc (.mk [(pc bk 0),(pc bk 1)]) 0) (pc (.mk [(pc HD 0),(pc HD 1)]) 0)) (.an (aw (pc (.mk [(pc bk 0),(pc bk 1)]) 1) (pc (.mk [(pc HD 0),(pc HD 1)]) 1)) pT)) pF) (aw (pc bk 4) (.tget (.r 231) 1)) pF))))))))))))))))))))))))))))))))
def aj4 (b:Nat→PC):PT×List (Shp×PT):=(Qr,[])
theorem Ze:CS.map told=some (aj4 (av CS)):=by kernel_rfl
theorem avA:tree FU=Qr:=aJ Ze
theorem agu:CS=some FU:=aC Ze
noncomputable def CX:Option PC:=aA {ctx with fr:=[0,7,8,9],nh:=[]} Tryz.f26 ((ae af 26).getD default) [1,2,3,4,5,6,73]
noncomputable def FZ:PC:=ay CX
def Qw:PT:=
 (.call ⟨[],[]⟩ [] 10 79 []
 (.call ⟨[(11,(au 8 aar))],[(1,aar)]⟩ [] 12 81 [(pi 0)]
 (.call ⟨[],[]⟩ [] 13 80 [bT]
 (.call ⟨[],[]⟩ [] 14 28 [aU,(pi 0),(pi 2),dx]
 (.call ⟨[(15,(au 8 o1))],[(2,(.setc nZ 0 cS))]⟩ [] 16 81 [(pi 0)]
 (.call ⟨[],[]⟩ [] 17 80 [bU]
 (.call ⟨[],[]⟩ [] 18 28 [gm,(pi 1),(pi 2),jL]
 (.call ⟨[(19,(au 8 o1))],[(3,(.setc nZ 0 gZ))]⟩ [] 20 81 [(pi 1)]
 (.call ⟨[],[]⟩ [] 21 80 [dD]
 (.call ⟨[],[]⟩ [] 22 28 [fX,(pi 1),(pi 2),jn]
 (.call ⟨[(23,(au 8 o1))],[(4,(.setc nZ 0 HK))]⟩ [] 24 81 [(pi 0)]
 (.call ⟨[],[]⟩ [] 25 80 [m0]
 (.call ⟨[],[]⟩ [] 26 28 [kp,(pi 0),(pi 0),gI]
 (.call ⟨[],[(6,tz),(5,(.setc nZ 0 kq))]⟩ [] 32 49 [(au 5 o2),(.mk [(.mk [(pc tz 0),(pc tz 1)]),(pi 0),(.lst [(pi 0)]),(pi 0)])]
 (.call ⟨[(33,AY)],[]⟩ [(33,true)] 38 49 [(au 5 o3),(.mk [(.mk [(pc o6 0),(pc o6 1)]),(pi 0),(.lst [(pi 1),(pi 0)]),(pi 0)])]
 (.call ⟨[(40,(.pick q6 gJ pF))],[]⟩ [(40,true)] 44 49 [(au 5 o4),(.mk [ej,(pi 1),(.lst [(pi 1)]),(pi 0)])]
 (.call ⟨[(49,(aw (pc o5 4) (pi 4))),(7,(.pick oa tF pF))],[]⟩ [(49,true)] 51 46 [(au 5 o5)]
 (.call ⟨[(54,(.pick pO (aw HL (pi 0)) pF))],[]⟩ [(54,true)] 56 48 [(au 5 o5)]
 (.call ⟨[(59,(.pick pP (aw lX (pi (-1))) pF))],[]⟩ [(59,true)] 61 46 [(au 5 o2)]
 (.call ⟨[(64,(.pick OL (aw A1 (pi 1)) pF))],[]⟩ [(64,true)] 66 46 [(au 5 o4)]
 (.call ⟨[(69,(au 8 o1)),(8,(.pick HO (aw ON (pi 2)) pF))],[]⟩ [] 70 81 [(pi 1)]
 (.call ⟨[],[]⟩ [] 71 80 [r70]
 (.call ⟨[],[]⟩ [] 72 82 [pQ,(pi 1),(pi 2),r71]
 (.call ⟨[],[]⟩ [] 74 34 [HP,(.lst [(pi 17)])]
 (.call ⟨[(76,(au 8 o1)),(75,A2)],[]⟩ [(75,true)] 77 81 [(pi 0)]
 (.call ⟨[],[]⟩ [(75,true)] 78 80 [r77]
 (.call ⟨[],[]⟩ [(75,true)] 79 29 [m8,(pi 1),OP]
 (.call ⟨[],[]⟩ [(75,true)] 81 34 [r79,(.lst [(pi 1),(pi 0),(pi 1),(pi 0),(pi 0)])]
 (.call ⟨[(91,(au 8 o1)),(90,(.pick (.pick r7 r8 pF) (.pick wz pR pF) pF))],[]⟩ [(90,true)] 92 81 [(pi 0)]
 (.call ⟨[],[]⟩ [(90,true)] 93 41 [r91,(pi 0),wC,(pi 5)]
 (.call ⟨[(97,(au 8 o1)),(96,(.pick r90 (aw A3 (pi 10)) pF))],[]⟩ [(96,true)] 98 81 [(pi 0)]
 (.call ⟨[],[]⟩ [(96,true)] 99 41 [r97,(pi 1),r98,(pi 5)]
 (.call ⟨[(103,(au 8 o1)),(102,(.pick r96 (aw oe (pi 13)) pF))],[]⟩ [(102,true)] 104 81 [(pi 0)]
 (.call ⟨[],[]⟩ [(102,true)] 105 41 [HI,(pi 0),OE,(pi 1)]
 (.ret (.pick aaI (aw aaJ (pi (-1))) pF))))))))))))))))))))))))))))))))))))
def aj9 (b:Nat→PC):PT×List (Shp×PT):=(Qw,[])
theorem Zj:CX.map told=some (aj9 (av CX)):=by kernel_rfl
theorem avG:tree FZ=Qw:=aJ Zj
theorem agz:CX=some FZ:=aC Zj
noncomputable def CW:Option PC:=aA {ctx with fr:=[5],nh:=[]} Tryz.f79 ((ae af 79).getD default) [0,24576,28672,32768,1,12289,2,3,12291,4]
noncomputable def FY:PC:=ay CW
def Qv:PT:=
 (.ret (.mk [(pc AL 0),(pc AL 1),(pc AL 2),(pc AL 3),(pc AL 4),pL,pL,pL]))
def aj8 (b:Nat→PC):PT×List (Shp×PT):=(Qv,[])
theorem Zi:CW.map told=some (aj8 (av CW)):=by kernel_rfl
theorem avE:tree FY=Qv:=aJ Zi
theorem agy:CW=some FY:=aC Zi
noncomputable def CV:Option PC:=aA {ctx with fr:=[],nh:=[]} Tryz.f81 ((ae af 81).getD default) [2,69634,73730,3,4]
noncomputable def FX:PC:=ay CV
def Qu:PT:=
 (.ret (.mk [(pc iK 0),(pc iK 1),(pc iK 2),(pc iK 3),(pc iK 4),(pc iK 5),(pc iK 6),(pc iK 7),(pc iK 8),(pc iK 9),(pc iK 10),(pc iK 11),(pc iK 12),(pc iK 13),(pc iK 14),(pc iK 15),pL,pL,(pc iK 18)]))
def aj7 (b:Nat→PC):PT×List (Shp×PT):=(Qu,[])
theorem Zh:CV.map told=some (aj7 (av CV)):=by kernel_rfl
theorem avD:tree FX=Qu:=aJ Zh
theorem agx:CV=some FX:=aC Zh
noncomputable def CT:Option PC:=aA {ctx with fr:=[],nh:=[]} Tryz.f80 ((ae af 80).getD default) [1,2]
noncomputable def FV:PC:=ay CT
def Qs:PT:=
 (.ret (au 24 (.setc Ot 0 (.mk [(au 19 (.mk [r0])),(pi 0),(pi (-1)),(pi (-1)),(pi (-1)),(pi 5)]))))
def aj5 (b:Nat→PC):PT×List (Shp×PT):=(Qs,[])
theorem Zf:CT.map told=some (aj5 (av CT)):=by kernel_rfl
theorem avB:tree FV=Qs:=aJ Zf
theorem agv:CT=some FV:=aC Zf
noncomputable def Cs:Option PC:=aA {ctx with fr:=[10],nh:=[]} Tryz.f28 ((ae af 28).getD default) [4,7,8,9]
noncomputable def Fv:PC:=ay Cs
def P7:PT:=
 (.call ⟨[],[(8,nZ),(4,(.mk [r0]))]⟩ [] 16 83 [ko,r1,r2,(au 24 (.mk [r3]))]
 (.iteS ⟨[(10,(.tget bU 1))],[(9,AQ)]⟩ (aO (pc AQ 2) (pi (-1))) [] [9]
 (.chk (aq (pc o4 4) (pc o9 2))
 (.call ⟨[],[]⟩ [] 31 35 [(pn (pc o4 4) (pc o9 2)),r2,dj]
 (.next ⟨[],[(9,(.setc (.setc o9 0 (.tget q5 0)) 4 (.tget q5 1)))]⟩)))
 (.next ⟨[],[]⟩)
 (.ret (au 5 (.setc o8 0 (au 5 o9))))))
def ajz (b:Nat→PC):PT×List (Shp×PT):=(P7,[])
theorem YI:Cs.map told=some (ajz (av Cs)):=by kernel_rfl
theorem au7:tree Fv=P7:=aJ YI
theorem af0:Cs=some Fv:=aC YI
noncomputable def CA:Option PC:=aA {ctx with fr:=[9,11,12,13,14],nh:=[]} Tryz.f83 ((ae af 83).getD default) [4,7,8,10,16394]
noncomputable def FC:PC:=ay CA
def Qe:PT:=
 (.call ⟨[],[(16394,pL),(10,(.setc nZ 0 (.mk [ej,(pi (-1)),pL,(pi 1)]))),(8,nZ),(7,(.mk [r3])),(4,(.mk [r0]))]⟩ [] 19 84 [ko,(au 24 (.mk [r3]))]
 (.ite (aw (.llen (.tget fX 1)) (pi 0))
 (.ret (.tup [Ow,pL]))
 (.call ⟨[(11,(.tget fX 1))],[(7,(.setc o7 0 (.tget fX 0)))]⟩ [] 28 97 [r2]
 (.ite (.nt (.tget pK 1))
 (.ret (.tup [Ow,pL]))
 (.call ⟨[],[]⟩ [] 37 85 [(au 8 o4),r1,(au 24 o7)]
 (.ite (aw (.llen m5) (pi 0))
 (.ret (.tup [Ow,pL]))
 (.call ⟨[],[]⟩ [] 46 33 [(au 8 o4),r1,r2,m5]
 (.ite (aw (pc tu 4) (pi 0))
 (.chk (aq (pc tu 3) (bh (.llen (pc tu 3)) (pi 1)))
 (.ret (.tup [(au 5 (.setc o8 0 (au 5 (.setc tu 2 (pn (pc tu 3) (bh (.llen (pc tu 3)) (pi 1))))))),aU])))
 (.ret (.tup [(au 5 (.setc o8 0 (au 5 tu))),aU]))))))))))
def ajG (b:Nat→PC):PT×List (Shp×PT):=(Qe,[])
theorem YP:CA.map told=some (ajG (av CA)):=by kernel_rfl
theorem ave:tree FC=Qe:=aJ YP
theorem af7:CA=some FC:=aC YP
noncomputable def CB:Option PC:=aA {ctx with fr:=[5],nh:=[]} Tryz.f84 ((ae af 84).getD default) [2,3,4]
noncomputable def FD:PC:=ay CB
def Qf:PT:=
 (.call ⟨[],[(4,Ot),(3,(.mk [r1])),(2,(.mk [r0]))]⟩ [] 10 30 [(au 19 (.mk [r1])),(pc (.mk [r1]) 23)]
 (.call ⟨[(12,(au 24 (.setc o3 0 dj)))],[]⟩ [] 15 31 [(au 8 o2),(au 24 (.setc o3 0 dj))]
 (.ret (.tup [(au 24 (.setc o4 0 bT)),gm]))))
def ajH (b:Nat→PC):PT×List (Shp×PT):=(Qf,[])
theorem YQ:CB.map told=some (ajH (av CB)):=by kernel_rfl
theorem avf:tree FD=Qf:=aJ YQ
theorem af8:CB=some FD:=aC YQ
noncomputable def yj:Option PC:=aA {ctx with fr:=[],nh:=[]} Tryz.f30 ((ae af 30).getD default) [2,4,5,65541,69637,73733,77829,7,31,9,49,11,13]
noncomputable def GK:PC:=ay yj
noncomputable def oE:Nat→PC:=bz yj
def aqh (b:Nat→PC):PC:=.block 0 [20,21] [65541,5] (.loop [20] [65541,5] (b 0))
def aqi (b:Nat→PC):PC:=.block 2 [38,39] [73733,5] (.loop [38] [73733,5] (b 1))
def aqj (b:Nat→PC):PC:=.block 4 [56,57] [5,69637] (.loop [56] [5,69637] (b 2))
def aqk (b:Nat→PC):PC:=.block 6 [76,77] [5,77829] (.loop [76] [5,77829] (b 3))
def Bw (b:Nat→PC):PT:=
 (.ite (ak dD fX)
 (.chk (aq gZ dD)
 (.ite (be (pc (.setc z9 0 (pn gZ dD)) 6) r1)
 (.exit 0 ⟨[(21,(ak dD fX))],[]⟩)
 (.chk (bM (.llen (.app (.o 65541) (.lst [(au 9 (.setc z9 0 (pn gZ dD)))]))) cG)
 (.next ⟨[(20,(aH dD (pi 1)))],[(65541,(.app (.o 65541) (.lst [(au 9 (.setc z9 0 (pn gZ dD)))]))),(5,(.setc o5 15 pN))]⟩))))
 (.exit 0 ⟨[(21,(ak dD fX))],[]⟩))
def Bx (b:Nat→PC):PT:=
 (.ite (ak gJ m5)
 (.chk (aq iL gJ)
 (.ite (be (pc (.setc z9 0 (pn iL gJ)) 6) r1)
 (.exit 2 ⟨[(39,(ak gJ m5))],[]⟩)
 (.chk (bM (.llen (.app (.o 73733) (.lst [(au 9 (.setc z9 0 (pn iL gJ)))]))) cG)
 (.next ⟨[(38,(aH gJ (pi 1)))],[(73733,(.app (.o 73733) (.lst [(au 9 (.setc z9 0 (pn iL gJ)))]))),(5,(.setc o5 17 pN))]⟩))))
 (.exit 2 ⟨[(39,(ak gJ m5))],[]⟩))
def By (b:Nat→PC):PT:=
 (.ite (ak lX wy)
 (.chk (aq pP lX)
 (.ite (bM (pc (.setc z2 0 (pn pP lX)) 0) (.llen (.o 65541)))
 (.chk (bM (.llen aax) cG)
 (.next ⟨[(56,(aH lX (pi 1)))],[(5,(.setc o5 16 pN)),(69637,aax)]⟩))
 (.next ⟨[(56,(aH lX (pi 1)))],[]⟩)))
 (.exit 4 ⟨[(57,(ak lX wy))],[]⟩))
def Bz (b:Nat→PC):PT:=
 (.ite (ak m8 wz)
 (.blockS ⟨[],[]⟩ 7 [13,78,79,80,81,82,83,84,85] [13,77829,5]
 (.chk (aq A2 m8)
 (.call ⟨[],[(13,(.setc z3 0 (pn A2 m8)))]⟩ [] 85 86 [(pc (.setc z3 0 (pn A2 m8)) 1),(.llen (.o 65541))]
 (.ite wB
 (.chk (bM (.llen aal) cG)
 (.next ⟨[],[(77829,aal),(5,(.setc o5 18 pN))]⟩))
 (.next ⟨[],[]⟩))))
 (.next ⟨[(76,(aH m8 (pi 1)))],[]⟩))
 (.exit 6 ⟨[(77,(ak m8 wz))],[]⟩))
def Rf (b:Nat→PC):PT:=
 (.brk ⟨[(20,(pi 0)),(19,(.llen (pc (.mk [r0]) 15))),(18,(pc (.mk [r0]) 15))],[(77829,pL),(73733,pL),(69637,pL),(65541,pL),(5,(.setc Hw 0 (.mk [(au 15 (.mk [r0])),pL,pL,pL,pL]))),(4,Hw),(2,(.mk [r0]))]⟩
(aqh b)
 (.brk ⟨[(38,(pi 0)),(37,(.llen (pc o2 17))),(36,(pc o2 17))],[]⟩
(aqi b)
 (.brk ⟨[(56,(pi 0)),(55,(.llen (pc o2 16))),(54,(pc o2 16))],[]⟩
(aqj b)
 (.brk ⟨[(76,(pi 0)),(75,(.llen (pc o2 18))),(74,(pc o2 18))],[]⟩
(aqk b)
 (.ret (au 19 (.setc o4 0 (.mk [(pc o5 0),(pc o5 1),(pc o5 2),(pc o5 3),(pc o5 4),(pc o5 5),(pc o5 6),(pc o5 7),(pc o5 8),(pc o5 9),(pc o5 10),(pc o5 11),(pc o5 12),(pc o5 13),(pc o5 14),(.o 65541),(.o 69637),(.o 73733),(.o 77829)]))))))))
def akS (b:Nat→PC):PT×List (Shp×PT):=(Rf b,[(.lp 0 [20,21] [65541,5] [20] [65541,5],Bw b),(.lp 2 [38,39] [73733,5] [38] [73733,5],Bx b),(.lp 4 [56,57] [5,69637] [56] [5,69637],By b),(.lp 6 [76,77] [5,77829] [76] [5,77829],Bz b)])
theorem vH:yj.map told=some (akS (av yj)):=by kernel_rfl
theorem awo:tree GK=Rf oE:=aJ vH
theorem Pk:round 0 [20,21] [65541,5] [20] [65541,5] (oE 0)=Bw oE:=br vH 0 fun _=>rfl
theorem Pl:round 2 [38,39] [73733,5] [38] [73733,5] (oE 1)=Bx oE:=br vH 1 fun _=>rfl
theorem Pm:round 4 [56,57] [5,69637] [56] [5,69637] (oE 2)=By oE:=br vH 2 fun _=>rfl
theorem Pn:round 6 [76,77] [5,77829] [76] [5,77829] (oE 3)=Bz oE:=br vH 3 fun _=>rfl
theorem ahe:yj=some GK:=aC vH
noncomputable def Df:Option PC:=aA {ctx with fr:=[4],nh:=[]} Tryz.f86 ((ae af 86).getD default) []
noncomputable def GQ:PC:=ay Df
def Rk:PT:=
 (.ret (.pick (bt r0 (pi 0)) (ak r0 r1) pF))
def akY (b:Nat→PC):PT×List (Shp×PT):=(Rk,[])
theorem ZD:Df.map told=some (akY (av Df)):=by kernel_rfl
theorem awu:tree GQ=Rk:=aJ ZD
theorem ahk:Df=some GQ:=aC ZD
noncomputable def yn:Option PC:=aA {ctx with fr:=[4,7,9,11,12,13,14,15,16],nh:=[]} Tryz.f31 ((ae af 31).getD default) [2,3,5,6,8,10,90,139]
noncomputable def GN:PC:=ay yn
noncomputable def xq:Nat→PC:=bz yn
def arA (b:Nat→PC):PC:=.meach 90 [94,95,11,12] [0,1,0,1] [10] (b 0)
def arB (b:Nat→PC):PC:=.meach 139 [143,144,15,16] [0,1,0,1] [10] (b 1)
def Pq (b:Nat→PC):PT:=
 (.chk (aq bk aU)
 (.next ⟨[],[(10,(.setn bk aU 0 (.mk [pT,bT])))]⟩))
def Pr (b:Nat→PC):PT:=
 (.blockS ⟨[],[]⟩ 3 [145,146,147,148,149] [10]
 (.call ⟨[(146,gm)],[]⟩ [] 148 89 [bU]
 (.chk (aq bk (.r 146))
 (.next ⟨[],[(10,(.setn bk (.r 146) 0 (.r 148)))]⟩)))
 (.next ⟨[],[]⟩))
def rA (b:Nat→PC):PT:=
 (.call ⟨[(7,(.mx (pc (.mk [r1]) 20) (pi 0)))],[(6,(.setc IT 0 (au 15 (.mk [r1])))),(5,(.setc Hw 0 (au 19 (.mk [r1])))),(3,(.mk [r1])),(2,(.mk [r0]))]⟩ [] 30 86 [(pc (.mk [r1]) 19),(.llen (pc (.setc Hw 0 (au 19 (.mk [r1]))) 15))]
 (.call ⟨[(48,(aO (pc o3 22) (pi (-1)))),(44,(.pick (.pick (.nt wv) pT (ak (pc o3 20) (pi (-1)))) pT (bt r7 (.llen (pc o5 15)))))],[]⟩ [(48,true),(44,false)] 51 86 [(pc o3 22),(pi 100001)]
 (.ite (.pick tF pT (.pick od (.nt HL) pF))
 (.ret pL)
 (.chk (aq (pc o5 15) (pc o3 19))
 (.call ⟨[],[(8,(.setc z9 0 (pn (pc o5 15) (pc o3 19))))]⟩ [] 63 86 [(pc (.setc z9 0 (pn (pc o5 15) (pc o3 19))) 6),(pi 100001)]
 (.ite (.nt OM)
 (.ret pL)
 (.chk (.an (bt (pi 20) (pi 0)) (bM (pi 20) cG))
 (.chk (aw (pi 20) (pi 20))
 (.chk (ak (.mlen (.con (.map []))) cG)
 (.chk (ak (.mlen (.put (.con (.map [])) (pi 0) (pc o6 3))) cG)
 (.chk (ak (.mlen (.put (.put (.con (.map [])) (pi 0) (pc o6 3)) (pi 1) (pc o6 14))) cG)
 (.chk (ak (.mlen Ou) cG)
 (.chk (ak (.mlen (.put Ou (pi 3) (pc o6 12))) cG)
 (.chk (ak (.mlen Oy) cG)
 (.chk (ak (.mlen (.put Oy (pi 5) (pc o3 21))) cG)
 (.blockS ⟨[(10,pN),(9,aaG)],[(90,(.tup [(.lst []),(.put (.put Oy (pi 5) (pc o3 21)) (pi 6) aaG)])),(10,(.rep (pi 20) ej))]⟩ 0 [] [10]
 (.brk ⟨[],[]⟩
(arA b)
 (.exit 0 ⟨[],[]⟩))
 (.call ⟨[],[(3,(au 24 o3))]⟩ [] 104 87 [(pc o5 16),(.clo 88 [(.ref (au 24 o3))])]
 (.call ⟨[(13,OE)],[]⟩ [] 108 32 [(au 8 o2),(pc o6 9)]
 (.call ⟨[],[]⟩ [] 112 32 [(au 8 o2),(pc o6 10)]
 (.chk (ak (.mlen (.con (.map []))) cG)
 (.chk (ak (.mlen Ox) cG)
 (.chk (ak (.mlen (.put Ox (pi 8) (aw (pc o6 2) (pi (-1))))) cG)
 (.chk (ak (.mlen (.put (.put Ox (pi 8) (aw (pc o6 2) (pi (-1)))) (pi 9) (aO (.ai .and .i64 (pc o6 13) (pi 4)) (pi 0)))) cG)
 (.chk (ak (.mlen HF) cG)
 (.chk (ak (.mlen (.put HF (pi 11) (aO OF OG))) cG)
 (.chk (ak (.mlen (.put (.put HF (pi 11) (aO OF OG)) (pi 12) dx)) cG)
 (.chk (ak (.mlen aas) cG)
 (.blockS ⟨[],[(139,(.tup [(.lst []),(.put aas (pi 14) (be r9 (pi 0)))]))]⟩ 2 [] [10]
 (.brk ⟨[],[]⟩
(arB b)
 (.exit 2 ⟨[],[]⟩))
 (.call ⟨[],[]⟩ [] 154 90 [(au 19 o5),(pi 0),(pc o3 19)]
 (.chk (aq bk (pi 15))
 (.call ⟨[],[(10,(.setn bk (pi 15) 0 (.r 154)))]⟩ [] 160 90 [(au 19 o5),(pi 1),(pc o3 19)]
 (.chk (aq bk (pi 16))
 (.call ⟨[],[(10,(.setn bk (pi 16) 0 (.r 160)))]⟩ [] 166 90 [(au 19 o5),(pi 2),(pc o3 19)]
 (.chk (aq bk (pi 17))
 (.call ⟨[],[(10,(.setn bk (pi 17) 0 (.r 166)))]⟩ [] 171 90 [(au 19 o5),(pi 3),r7]
 (.chk (aq bk (pi 18))
 (.call ⟨[],[(10,(.setn bk (pi 18) 0 (.r 171)))]⟩ [] 176 90 [(au 19 o5),(pi 4),r7]
 (.chk (aq bk (pi 19))
 (.ret (.setn bk (pi 19) 0 (.r 176)))))))))))))))))))))))))))))))))))))))))
def akV (b:Nat→PC):PT×List (Shp×PT):=(rA b,[(.ea [10],Pq b),(.ea [10],Pr b)])
theorem Fl:yn.map told=some (akV (av yn)):=by kernel_rfl
theorem aws:tree GN=rA xq:=aJ Fl
theorem atU:nf [10] (xq 0)=Pq xq:=P6 Fl 0 fun _=>rfl
theorem atV:nf [10] (xq 1)=Pr xq:=P6 Fl 1 fun _=>rfl
theorem ahi:yn=some GN:=aC Fl
noncomputable def Dc:Option PC:=aA {ctx with fr:=[3],nh:=[]} Tryz.f88 ((ae af 88).getD default) [2]
noncomputable def GO:PC:=ay Dc
def Ri:PT:=
 (.ret (bM jJ (pc (.deref r1) 19)))
def akW (b:Nat→PC):PT×List (Shp×PT):=(Ri,[])
theorem ZB:Dc.map told=some (akW (av Dc)):=by kernel_rfl
theorem awr:tree GO=Ri:=aJ ZB
theorem ahh:Dc=some GO:=aC ZB
noncomputable def Dg:Option PC:=aA {ctx with fr:=[4],nh:=[]} Tryz.f87 ((ae af 87).getD default) []
noncomputable def GS:PC:=ay Dg
def Rm:PT:=
 (.call ⟨[],[]⟩ [] 7 164 [r0,r1]
 (.ret (bt r7 (pi 0))))
def ak1 (b:Nat→PC):PT×List (Shp×PT):=(Rm,[])
theorem ZE:Dg.map told=some (ak1 (av Dg)):=by kernel_rfl
theorem awx:tree GS=Rm:=aJ ZE
theorem ahl:Dg=some GS:=aC ZE
noncomputable def yq:Option PC:=aA {ctx with fr:=[4,5],nh:=[]} Tryz.f164 ((ae af 164).getD default) []
noncomputable def GX:PC:=ay yq
noncomputable def JH:Nat→PC:=bz yq
def aqs (b:Nat→PC):PC:=.block 0 [4,8,9] [] (.loop [4,8] [] (b 0))
def BD (b:Nat→PC):PT:=
 (.ite (ak r8 r7)
 (.blockS ⟨[],[]⟩ 1 [4,5,10,11,12,13,14,15,16] []
 (.chk (aq r0 r8)
 (.callc ⟨[(5,r8)],[]⟩ [] 16 r1 [(pn r0 r8)]
 (.ite bU
 (.ret r5)
 (.next ⟨[],[]⟩))))
 (.next ⟨[(8,(aH r8 (pi 1)))],[]⟩))
 (.exit 0 ⟨[(9,(ak r8 r7))],[]⟩))
def Rq (b:Nat→PC):PT:=
 (.brk ⟨[(8,(pi 0)),(7,(.llen r0)),(4,(pi 0))],[]⟩
(aqs b)
 (.ret (pi (-1))))
def ak5 (b:Nat→PC):PT×List (Shp×PT):=(Rq b,[(.lp 0 [4,8,9] [] [4,8] [],BD b)])
theorem NP:yq.map told=some (ak5 (av yq)):=by kernel_rfl
theorem awB:tree GX=Rq JH:=aJ NP
theorem Ps:round 0 [4,8,9] [] [4,8] [] (JH 0)=BD JH:=br NP 0 fun _=>rfl
theorem aho:yq=some GX:=aC NP
noncomputable def C9:Option PC:=aA {ctx with fr:=[4],nh:=[]} Tryz.f32 ((ae af 32).getD default) [2]
noncomputable def Gx:PC:=ay C9
def Q3:PT:=
 (.call ⟨[],[(2,(.mk [r0]))]⟩ [] 9 91 [r1,(.llen pI)]
 (.ite (.nt r9)
 (.ret (pi (-1)))
 (.chk (aq (pc o2 1) r1)
 (.ret (pc (pn (pc o2 1) r1) 1)))))
def akG (b:Nat→PC):PT×List (Shp×PT):=(Q3,[])
theorem Zy:C9.map told=some (akG (av C9)):=by kernel_rfl
theorem awc:tree Gx=Q3:=aJ Zy
theorem ag2:C9=some Gx:=aC Zy
noncomputable def Da:Option PC:=aA {ctx with fr:=[4],nh:=[]} Tryz.f91 ((ae af 91).getD default) []
noncomputable def GB:PC:=ay Da
def Q7:PT:=
 (.ret (.pick (bt r0 (pi 0)) (ak r0 r1) pF))
def akK (b:Nat→PC):PT×List (Shp×PT):=(Q7,[])
theorem Zz:Da.map told=some (akK (av Da)):=by kernel_rfl
theorem awg:tree GB=Q7:=aJ Zz
theorem ag6:Da=some GB:=aC Zz
noncomputable def De:Option PC:=aA {ctx with fr:=[],nh:=[]} Tryz.f89 ((ae af 89).getD default) [2]
noncomputable def GP:PC:=ay De
def Rj:PT:=
 (.ite r0
 (.ret (.mk [(pc tz 0),(pc tz 1)]))
 (.ret (.mk [(pc HE 0),(pc HE 1)])))
def akX (b:Nat→PC):PT×List (Shp×PT):=(Rj,[])
theorem ZC:De.map told=some (akX (av De)):=by kernel_rfl
theorem awt:tree GP=Rj:=aJ ZC
theorem ahj:De=some GP:=aC ZC
noncomputable def yk:Option PC:=aA {ctx with fr:=[],nh:=[]} Tryz.f90 ((ae af 90).getD default) [3,6,8]
noncomputable def GL:PC:=ay yk
noncomputable def JG:Nat→PC:=bz yk
def aql (b:Nat→PC):PC:=.block 0 [12,13] [6] (.loop [12] [6] (b 0))
def BA (b:Nat→PC):PT:=
 (.ite (ak bT aU)
 (.blockS ⟨[],[]⟩ 1 [8,14,15,16,17,18,19,20,25] [8,6]
 (.chk (aq dj bT)
 (.iteS ⟨[],[(8,(.setc z3 0 (pn dj bT)))]⟩ (.pick (aw (pc (.setc z3 0 (pn dj bT)) 0) r1) (aw (pc (.setc z3 0 (pn dj bT)) 1) r2) pF) [] [6]
 (.call ⟨[],[]⟩ [] 29 89 [(aO (pc o8 2) (pi 0))]
 (.ret (.mk [(pc (.setc o6 0 m4) 0),(pc (.setc o6 0 m4) 1)])))
 (.next ⟨[],[]⟩)
 (.next ⟨[],[]⟩)))
 (.next ⟨[(12,(aH bT (pi 1)))],[]⟩))
 (.exit 0 ⟨[(13,(ak bT aU))],[]⟩))
def Rg (b:Nat→PC):PT:=
 (.brk ⟨[(12,(pi 0)),(11,(.llen (pc (.mk [r0]) 18))),(10,(pc (.mk [r0]) 18))],[(6,ej)]⟩
(aql b)
 (.ret (.mk [(pc (.setc o6 0 tD) 0),(pc (.setc o6 0 tD) 1)])))
def akT (b:Nat→PC):PT×List (Shp×PT):=(Rg b,[(.lp 0 [12,13] [6] [12] [6],BA b)])
theorem NO:yk.map told=some (akT (av yk)):=by kernel_rfl
theorem awp:tree GL=Rg JG:=aJ NO
theorem Po:round 0 [12,13] [6] [12] [6] (JG 0)=BA JG:=br NO 0 fun _=>rfl
theorem ahf:yk=some GL:=aC NO
noncomputable def xH:Option PC:=aA {ctx with fr:=[2,3,4,11],nh:=[]} Tryz.f97 ((ae af 97).getD default) []
noncomputable def F1:PC:=ay xH
def Qy:PT:=
 (.blockS ⟨[],[]⟩ 0 [2,3,4,5,6,7,10,11,12,13,14] []
 (.iteS ⟨[],[]⟩ (.pick (ak r0 (pi 0)) pT (bt r0 (pi 22))) [2,3,11,12,13,14] []
 (.ret (.tup [(pi 0),pF]))
 (.call ⟨[],[]⟩ [] 14 94 [(.lst [(pc nX 0),(pc nX 1),(pc nX 2),(pc nX 3),(pc nX 4),(pc nX 5),(pc nX 6),(pc nX 7),(pc nX 8),(pc nX 9)]),r0]
 (.ite cS
 (.ret (.tup [(pi 0),pT]))
 (.next ⟨[],[]⟩)))
 (.next ⟨[],[]⟩))
 (.ret (.tup [(pi 1),pT])))
def akc (b:Nat→PC):PT×List (Shp×PT):=(Qy,[])
theorem Zl:xH.map told=some (akc (av xH)):=by kernel_rfl
theorem avJ:tree F1=Qy:=aJ Zl
theorem Tq:xH=some F1:=aC Zl
noncomputable def yp:Option PC:=aA {ctx with fr:=[4],nh:=[]} Tryz.f94 ((ae af 94).getD default) []
noncomputable def GV:PC:=ay yp
def Ro:PT:=
 (.call ⟨[],[]⟩ [] 7 167 [r0,r1]
 (.ret (bt r7 (pi 0))))
def ak3 (b:Nat→PC):PT×List (Shp×PT):=(Ro,[])
theorem ZG:yp.map told=some (ak3 (av yp)):=by kernel_rfl
theorem awz:tree GV=Ro:=aJ ZG
theorem Tv:yp=some GV:=aC ZG
noncomputable def um:Option PC:=aA {ctx with fr:=[4,5],nh:=[]} Tryz.f167 ((ae af 167).getD default) []
noncomputable def G0:PC:=ay um
noncomputable def JK:Nat→PC:=bz um
def aqv (b:Nat→PC):PC:=.block 0 [4,8,9] [] (.loop [4,8] [] (b 0))
def BG (b:Nat→PC):PT:=
 (.ite (ak r8 r7)
 (.chk (aq r0 r8)
 (.ite (aw r1 (pn r0 r8))
 (.ret r8)
 (.next ⟨[(8,(aH r8 (pi 1)))],[]⟩)))
 (.exit 0 ⟨[(9,(ak r8 r7))],[]⟩))
def Rt (b:Nat→PC):PT:=
 (.brk ⟨[(8,(pi 0)),(7,(.llen r0)),(4,(pi 0))],[]⟩
(aqv b)
 (.ret (pi (-1))))
def ak8 (b:Nat→PC):PT×List (Shp×PT):=(Rt b,[(.lp 0 [4,8,9] [] [4,8] [],BG b)])
theorem NS:um.map told=some (ak8 (av um)):=by kernel_rfl
theorem awE:tree G0=Rt JK:=aJ NS
theorem Pv:round 0 [4,8,9] [] [4,8] [] (JK 0)=BG JK:=br NS 0 fun _=>rfl
theorem Tx:um=some G0:=aC NS
noncomputable def xE:Option PC:=aA {ctx with fr:=[8,9,11,12,13,14,55,70],nh:=[]} Tryz.f33 ((ae af 33).getD default) [4,10,53]
noncomputable def FO:PC:=ay xE
noncomputable def Jo:Nat→PC:=bz xE
def apE (b:Nat→PC):PC:=.block 0 [] [] (.loop [8,9,10] [10] (b 0))
def OR (b:Nat→PC):PT:=
 (.blockS ⟨[],[]⟩ 1 [8,9,10,11,12,13,14,32,33,35,36,37,38,39,40,41,42,43,44,45,46,49,50,52,53,54,55,56,57,58,68,70,71] [53,10]
 (.chk (aq bk (bh (.llen bk) (pi 1)))
 (.call ⟨[(11,(pn bk (bh (.llen bk) (pi 1))))],[]⟩ [] 41 93 [(au 8 o4),(pn bk (bh (.llen bk) (pi 1))),r2,r3]
 (.ite (aw (.tget pM 0) aU)
 (.ret (.tup [bk,(pi 0)]))
 (.call ⟨[(13,(.tget pM 1)),(12,(.tget pM 0))],[]⟩ [] 50 94 [bk,(.tget pM 0)]
 (.chk (bM (.llen (.app bk (.lst [bT]))) cG)
 (.chk (.nt (.an (.an lW (.an (.nt (.nt dx)) pT)) (.nt (aq (pc o4 4) bT))))
 (.ite (.pick (.nt dx) pT (.pick lW (pc (pn (pc o4 4) bT) 1) pF))
 (.ret (.tup [(.app bk (.lst [bT])),(pi 0)]))
 (.ite lW
 (.ret (.tup [(.app bk (.lst [bT])),(pi 12)]))
 (.next ⟨[(10,pN)],[(10,(.app bk (.lst [bT])))]⟩)))))))))
 (.next ⟨[],[]⟩))
def Qo (b:Nat→PC):PT:=
 (.call ⟨[(9,(pi 0)),(8,pL)],[(4,(.mk [r0]))]⟩ [] 19 92 [ko,r1,r2,r3]
 (.chk (.nt (.an (.an (.nt (.nt fX)) pT) (.nt (aq r3 (pi 0)))))
 (.ite (.pick (.nt fX) pT (aO (pn r3 (pi 0)) r1))
 (.ret (.tup [pL,(pi 1)]))
 (.brk ⟨[(10,pN)],[(10,(.lst [r1]))]⟩
(apE b)
 (.next ⟨[],[]⟩)))))
def aj0 (b:Nat→PC):PT×List (Shp×PT):=(Qo b,[(.lp 0 [] [] [8,9,10] [10],OR b)])
theorem Nv:xE.map told=some (aj0 (av xE)):=by kernel_rfl
theorem avv:tree FO=Qo Jo:=aJ Nv
theorem atQ:round 0 [] [] [8,9,10] [10] (Jo 0)=OR Jo:=br Nv 0 fun _=>rfl
theorem agq:xE=some FO:=aC Nv
noncomputable def CQ:Option PC:=aA {ctx with fr:=[8],nh:=[]} Tryz.f92 ((ae af 92).getD default) [4,9]
noncomputable def FQ:PC:=ay CQ
def rz:PT:=
 (.ite (.pick (.pick (.pick (.pick (ak r1 (pi 0)) pT (bt r1 (pc (.setc AU 0 (.llen tC)) 0))) pT (ak r2 (pi 0))) pT (bt r2 (pi 22))) pT (aO (.llen r3) (pi 5)))
 (.ret pF)
 (.call ⟨[],[]⟩ [] 35 165 [r3,(.clo 166 [(.ref (pc (.setc AU 0 (.llen tC)) 0))])]
 (.ret (.nt wx))))
def aj2 (b:Nat→PC):PT×List (Shp×PT):=(rz,[])
theorem Zc:CQ.map told=some (aj2 (av CQ)):=by kernel_rfl
theorem avy:tree FQ=rz:=aJ Zc
theorem agt:CQ=some FQ:=aC Zc
noncomputable def CR:Option PC:=aA {ctx with fr:=[3],nh:=[]} Tryz.f166 ((ae af 166).getD default) []
noncomputable def FT:PC:=ay CR
def Qq:PT:=
 (.ret (.pick (ak r0 (pi 0)) pT (bt r0 (.deref r1))))
def aj3 (b:Nat→PC):PT×List (Shp×PT):=(Qq,[])
theorem Zd:CR.map told=some (aj3 (av CR)):=by kernel_rfl
theorem avx:tree FT=Qq:=aJ Zd
theorem ags:CR=some FT:=aC Zd
noncomputable def Dh:Option PC:=aA {ctx with fr:=[4],nh:=[]} Tryz.f165 ((ae af 165).getD default) []
noncomputable def GU:PC:=ay Dh
def Rn:PT:=
 (.call ⟨[],[]⟩ [] 7 216 [r0,r1]
 (.ret (bt r7 (pi 0))))
def ak2 (b:Nat→PC):PT×List (Shp×PT):=(Rn,[])
theorem ZF:Dh.map told=some (ak2 (av Dh)):=by kernel_rfl
theorem awy:tree GU=Rn:=aJ ZF
theorem ahm:Dh=some GU:=aC ZF
noncomputable def yr:Option PC:=aA {ctx with fr:=[4,5],nh:=[]} Tryz.f216 ((ae af 216).getD default) []
noncomputable def GZ:PC:=ay yr
noncomputable def JJ:Nat→PC:=bz yr
def aqu (b:Nat→PC):PC:=.block 0 [4,8,9] [] (.loop [4,8] [] (b 0))
def BF (b:Nat→PC):PT:=
 (.ite (ak r8 r7)
 (.blockS ⟨[],[]⟩ 1 [4,5,10,11,12,13,14,15,16] []
 (.chk (aq r0 r8)
 (.callc ⟨[(5,r8)],[]⟩ [] 16 r1 [(pn r0 r8)]
 (.ite bU
 (.ret r5)
 (.next ⟨[],[]⟩))))
 (.next ⟨[(8,(aH r8 (pi 1)))],[]⟩))
 (.exit 0 ⟨[(9,(ak r8 r7))],[]⟩))
def Rs (b:Nat→PC):PT:=
 (.brk ⟨[(8,(pi 0)),(7,(.llen r0)),(4,(pi 0))],[]⟩
(aqu b)
 (.ret (pi (-1))))
def ak7 (b:Nat→PC):PT×List (Shp×PT):=(Rs b,[(.lp 0 [4,8,9] [] [4,8] [],BF b)])
theorem NR:yr.map told=some (ak7 (av yr)):=by kernel_rfl
theorem awD:tree GZ=Rs JJ:=aJ NR
theorem Pu:round 0 [4,8,9] [] [4,8] [] (JJ 0)=BF JJ:=br NR 0 fun _=>rfl
theorem ahp:yr=some GZ:=aC NR
noncomputable def xF:Option PC:=aA {ctx with fr:=[8,9],nh:=[]} Tryz.f93 ((ae af 93).getD default) [4,11]
noncomputable def FP:PC:=ay xF
noncomputable def Jp:Nat→PC:=bz xF
def apF (b:Nat→PC):PC:=.block 0 [8,9,25,26] [] (.loop [8,9,25] [] (b 0))
def A4 (b:Nat→PC):PT:=
 (.ite (ak gI m0)
 (.chk (aq kp gI)
 (.ite (.pick (aw (pc AR 0) r2) (aO (pc AR 1) (pi 0)) pF)
 (.chk (aq r3 (pc AR 1))
 (.ret (.tup [(pn r3 (pc AR 1)),(pc AR 2)])))
 (.next ⟨[(25,(aH gI (pi 1)))],[]⟩)))
 (.exit 0 ⟨[(26,(ak gI m0))],[]⟩))
def Qp (b:Nat→PC):PT:=
 (.call ⟨[(9,pF),(8,(pi 0))],[(4,(.mk [r0]))]⟩ [] 16 92 [ko,r1,r2,r3]
 (.ite (.nt bU)
 (.ret (.tup [(pi (-1)),pF]))
 (.chk (aq (pc o4 4) r1)
 (.brk ⟨[(25,(pi 0)),(24,(.llen (pc (pn (pc o4 4) r1) 2))),(23,(pc (pn (pc o4 4) r1) 2))],[]⟩
(apF b)
 (.ret (.tup [r1,pF]))))))
def aj1 (b:Nat→PC):PT×List (Shp×PT):=(Qp b,[(.lp 0 [8,9,25,26] [] [8,9,25] [],A4 b)])
theorem Nw:xF.map told=some (aj1 (av xF)):=by kernel_rfl
theorem avw:tree FP=Qp Jp:=aJ Nw
theorem OS:round 0 [8,9,25,26] [] [8,9,25] [] (Jp 0)=A4 Jp:=br Nw 0 fun _=>rfl
theorem agr:xF=some FP:=aC Nw
noncomputable def CY:Option PC:=aA {ctx with fr:=[7,9,11,12],nh:=[]} Tryz.f35 ((ae af 35).getD default) [3,6,8,10]
noncomputable def F0:PC:=ay CY
def Qx:PT:=
 (.call ⟨[],[(6,ej)]⟩ [] 16 95 [(au 4 (.mk [r0])),r1]
 (.ite (aO (.tget bU 1) (pi 0))
 (.ret (.tup [(.mk [(pc (.setc o6 0 tD) 0),(pc (.setc o6 0 tD) 1)]),(.tget bU 1)]))
 (.call ⟨[],[]⟩ [] 25 96 [(.mk [(pc (.setc iJ 0 (.tget bU 0)) 0),(pc (.setc iJ 0 (.tget bU 0)) 1),(pc (.setc iJ 0 (.tget bU 0)) 2)]),r2]
 (.call ⟨[],[(10,(.setc ej 0 gI))]⟩ [] 28 97 [r1]
 (.ret (.tup [(.mk [(pc (.setc o6 0 (.mk [(pc Hx 0),(pc Hx 1)])) 0),(pc (.setc o6 0 (.mk [(pc Hx 0),(pc Hx 1)])) 1)]),(pi 0)]))))))
def aka (b:Nat→PC):PT×List (Shp×PT):=(Qx,[])
theorem Zk:CY.map told=some (aka (av CY)):=by kernel_rfl
theorem avH:tree F0=Qx:=aJ Zk
theorem agA:CY=some F0:=aC Zk
noncomputable def xI:Option PC:=aA {ctx with fr:=[5,6,7,8,10,11],nh:=[]} Tryz.f95 ((ae af 95).getD default) [2,3,4,12292,9]
noncomputable def F2:PC:=ay xI
def Qz:PT:=
 (.call ⟨[],[(4,iJ),(3,(.mk [r1])),(2,(.mk [r0]))]⟩ [] 14 97 [(pc (.mk [r1]) 0)]
 (.ite (.nt (.tget cS 1))
 (.ret (.tup [Ov,(pi 1)]))
 (.call ⟨[(6,(.tget cS 0))],[]⟩ [] 23 168 [(pc o2 3),(.clo 169 [(.ref (pc o3 0))])]
 (.ite (ak kp (pi 0))
 (.ret (.tup [Ov,(pi 4)]))
 (.chk (aq (pc o2 3) kp)
 (.call ⟨[],[(9,HA)]⟩ [] 35 170 [(.mk [(pc HA 0),(pc HA 1),(pc HA 2)])]
 (.ite (.pick (aO (.tget wx 1) (pi 0)) pT (aO (.tget wx 0) r6))
 (.ret (.tup [Ov,(pi 11)]))
 (.ret (.tup [(.mk [(pc Oz 0),(pc Oz 1),(pc Oz 2)]),(pi 0)])))))))))
def akd (b:Nat→PC):PT×List (Shp×PT):=(Qz,[])
theorem Zm:xI.map told=some (akd (av xI)):=by kernel_rfl
theorem avL:tree F2=Qz:=aJ Zm
theorem Ts:xI=some F2:=aC Zm
noncomputable def xJ:Option PC:=aA {ctx with fr:=[3],nh:=[]} Tryz.f169 ((ae af 169).getD default) [2]
noncomputable def F3:PC:=ay xJ
def QA:PT:=
 (.ret (aw jJ (.deref r1)))
def ake (b:Nat→PC):PT×List (Shp×PT):=(QA,[])
theorem Zn:xJ.map told=some (ake (av xJ)):=by kernel_rfl
theorem avK:tree F3=QA:=aJ Zn
theorem Tr:xJ=some F3:=aC Zn
noncomputable def uk:Option PC:=aA {ctx with fr:=[4,5],nh:=[]} Tryz.f168 ((ae af 168).getD default) []
noncomputable def GY:PC:=ay uk
noncomputable def JI:Nat→PC:=bz uk
def aqt (b:Nat→PC):PC:=.block 0 [4,8,9] [] (.loop [4,8] [] (b 0))
def BE (b:Nat→PC):PT:=
 (.ite (ak r8 r7)
 (.blockS ⟨[],[]⟩ 1 [4,5,10,11,12,13,14,15,16] []
 (.chk (aq r0 r8)
 (.callc ⟨[(5,r8)],[]⟩ [] 16 r1 [(pn r0 r8)]
 (.ite bU
 (.ret r5)
 (.next ⟨[],[]⟩))))
 (.next ⟨[(8,(aH r8 (pi 1)))],[]⟩))
 (.exit 0 ⟨[(9,(ak r8 r7))],[]⟩))
def Rr (b:Nat→PC):PT:=
 (.brk ⟨[(8,(pi 0)),(7,(.llen r0)),(4,(pi 0))],[]⟩
(aqt b)
 (.ret (pi (-1))))
def ak6 (b:Nat→PC):PT×List (Shp×PT):=(Rr b,[(.lp 0 [4,8,9] [] [4,8] [],BE b)])
theorem NQ:uk.map told=some (ak6 (av uk)):=by kernel_rfl
theorem awC:tree GY=Rr JI:=aJ NQ
theorem Pt:round 0 [4,8,9] [] [4,8] [] (JI 0)=BE JI:=br NQ 0 fun _=>rfl
theorem Tw:uk=some GY:=aC NQ
noncomputable def yB:Option PC:=aA {ctx with fr:=[2,3],nh:=[]} Tryz.f170 ((ae af 170).getD default) [1]
noncomputable def Hb:PC:=ay yB
def RB:PT:=
 (.call ⟨[],[(1,(.mk [r0]))]⟩ [] 5 217 [HH,(pi 1)]
 (.ite (be r5 (pi 60))
 (.ret (.tup [(pi 0),(pi 6)]))
 (.call ⟨[],[]⟩ [] 8 218 [(.mk [(pc o1 0),(pc o1 1),(pc o1 2)])]
 (.ret (.tup [(.tget r8 0),(.tget r8 1)])))))
def aln (b:Nat→PC):PT×List (Shp×PT):=(RB,[])
theorem ZO:yB.map told=some (aln (av yB)):=by kernel_rfl
theorem awP:tree Hb=RB:=aJ ZO
theorem TC:yB=some Hb:=aC ZO
noncomputable def ur:Option PC:=aA {ctx with fr:=[4,5],nh:=[]} Tryz.f217 ((ae af 217).getD default) [2,7,12295]
noncomputable def Hl:PC:=ay ur
noncomputable def JP:Nat→PC:=bz ur
def aqG (b:Nat→PC):PC:=.block 0 [5,13,14] [] (.loop [5,13] [] (b 0))
def BK (b:Nat→PC):PT:=
 (.ite (ak dx bT)
 (.blockS ⟨[(14,(ak dx bT))],[]⟩ 1 [5,7,15,16,17,18,19,20,21,22,23,24] [7,12295]
 (.chk (aq aU dx)
 (.call ⟨[(17,r5)],[]⟩ [] 21 217 [(.mk [(pc (.setc iJ 0 (pn aU dx)) 0),(pc (.setc iJ 0 (pn aU dx)) 1),(pc (.setc iJ 0 (pn aU dx)) 2)]),(aH r1 (pi 1))]
 (.ite (be (aH jL jn) (pi 60))
 (.exit 0 ⟨[(5,(aH jL jn))],[]⟩)
 (.next ⟨[(5,(aH jL jn))],[]⟩))))
 (.next ⟨[(13,(aH dx (pi 1)))],[]⟩))
 (.exit 0 ⟨[(14,(ak dx bT))],[]⟩))
def II (b:Nat→PC):PT:=
 (.ite (be r1 (pi 8))
 (.ret (pi 61))
 (.brk ⟨[(13,(pi 0)),(12,mZ),(11,we),(5,(pi 1))],[]⟩
(aqG b)
 (.ret r5)))
def alz (b:Nat→PC):PT×List (Shp×PT):=(II b,[(.lp 0 [5,13,14] [] [5,13] [],BK b)])
theorem NX:ur.map told=some (alz (av ur)):=by kernel_rfl
theorem ab3:tree Hl=II JP:=aJ NX
theorem PA:round 0 [5,13,14] [] [5,13] [] (JP 0)=BK JP:=br NX 0 fun _=>rfl
theorem TK:ur=some Hl:=aC NX
end Rm
