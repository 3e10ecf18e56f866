/-
  The functions of this seat, compiled (2).
-/
import Derived.Test.YtodhjdbleiakeaaGreatDoorLAK
import Derived.KernelRfl
set_option linter.unusedVariables false
set_option maxRecDepth 100000
namespace Rm
open Go Go.Proofs Cx
noncomputable def uo:Option PC:=aA {ctx with fr:=[2,3,5,7,8,38,47,10,11,12],nh:=[]} Tryz.f218 ((ae af 218).getD default) [1,4,6,12294,9]
noncomputable def Hf:PC:=ay uo
noncomputable def xu:Nat→PC:=bz uo
def aqD (b:Nat→PC):PC:=.block 0 [2,3,20,21] [4] (.loop [2,3,20] [4] (b 0))
def aqE (b:Nat→PC):PC:=.block 3 [2,3,10,82,83] [] (.loop [2,3,10,82] [] (b 1))
def BI (b:Nat→PC):PT:=
 (.ite (ak dD fX)
 (.blockS ⟨[],[]⟩ 1 [2,3,5,6,7,8,22,23,24,25,26,27,28,29,30,31,33,34,35,36] [6,12294,4]
 (.chk (aq gZ dD)
 (.call ⟨[(5,dD)],[]⟩ [] 27 218 [(.mk [(pc (.setc iJ 0 (pn gZ dD)) 0),(pc (.setc iJ 0 (pn gZ dD)) 1),(pc (.setc iJ 0 (pn gZ dD)) 2)])]
 (.ite (aO (.tget eX 1) (pi 0))
 (.ret (.tup [(pi 0),(.tget eX 1)]))
 (.chk (aq o4 r5)
 (.next ⟨[],[(4,(.setn o4 r5 0 (.tget eX 0)))]⟩)))))
 (.next ⟨[(20,(aH dD (pi 1)))],[]⟩))
 (.exit 0 ⟨[(21,(ak dD fX))],[]⟩))
def re (b:Nat→PC):PT:=
 (.ite (ak jo pR)
 (.chk (aq wA jo)
 (.ite (.pick (aw (pn wA jo) (pi (-1))) (aw dj (pi (-1))) pF)
 (.chk (aq o4 jo)
 (.ite (aO (pn o4 jo) (.pick (aw (pn wA jo) (pi (-1))) (pn o4 jo) (pn wA jo)))
 (.ret (.tup [(pi 0),(pi 11)]))
 (.next ⟨[(10,(pn o4 jo)),(82,(aH jo (pi 1)))],[]⟩)))
 (.chk (aq o4 jo)
 (.ite (aO (pn o4 jo) (.pick (aw (pn wA jo) (pi (-1))) dj (pn wA jo)))
 (.ret (.tup [(pi 0),(pi 11)]))
 (.next ⟨[(82,(aH jo (pi 1)))],[]⟩)))))
 (.exit 3 ⟨[(83,(ak jo pR))],[]⟩))
def RF (b:Nat→PC):PT:=
 (.chk (.an (bt mZ (pi 0)) (bM mZ cG))
 (.chk (aw mZ mZ)
 (.brk ⟨[(20,(pi 0)),(19,mZ),(18,we),(4,pN),(3,(pi 0)),(2,(pi 0))],[(4,(.rep mZ (pi 0))),(1,(.mk [r0]))]⟩
(aqD b)
 (.blockS ⟨[],[]⟩ 2 [2,3,38,39,40,41,42,46,47,48,49,50,51,55,56,60] []
 (.iteS ⟨[],[]⟩ (.pick (ak (pc o1 0) (pi 0)) pT (be (pc o1 0) (pi 13))) [2,3,47,48,49,50,51,55,56,60] []
 (.ret (.tup [(pi 0),(pi 1)]))
 (.iteS ⟨[],[]⟩ (.pick (.pick (aw (pc o1 0) (pi 0)) pT (aw (pc o1 0) (pi 1))) pT (aw (pc o1 0) (pi 2))) [2,3] []
 (.call ⟨[],[]⟩ [] 62 260 [(.mk [(pc o1 0),(pc o1 1),(pc o1 2)])]
 (.ret (.tup [(.tget tG 0),(.tget tG 1)])))
 (.next ⟨[],[]⟩)
 (.next ⟨[],[]⟩))
 (.next ⟨[],[]⟩))
 (.call ⟨[],[]⟩ [] 67 261 [(pc o1 0)]
 (.ite (.pick (aO (.llen o4) (.llen (pc (.setc jI 0 q8) 0))) pT (aO (pc o1 1) (pi 0)))
 (.ret (.tup [(pi 0),(pi 2)]))
 (.brk ⟨[(82,(pi 0)),(81,(.llen (pc (.setc jI 0 q8) 0))),(80,(pc (.setc jI 0 q8) 0)),(10,(pi (-1)))],[(9,(.setc jI 0 q8))]⟩
(aqE b)
 (.ite (aw (pc o9 1) (pi (-1)))
 (.ret (.tup [dj,(pi 0)]))
 (.ret (.tup [(pc o9 1),(pi 0)]))))))))))
def als (b:Nat→PC):PT×List (Shp×PT):=(RF b,[(.lp 0 [2,3,20,21] [4] [2,3,20] [4],BI b),(.lp 3 [2,3,10,82,83] [] [2,3,10,82] [],re b)])
theorem Fp:uo.map told=some (als (av uo)):=by kernel_rfl
theorem awU:tree Hf=RF xu:=aJ Fp
theorem Py:round 0 [2,3,20,21] [4] [2,3,20] [4] (xu 0)=BI xu:=br Fp 0 fun _=>rfl
theorem wI:round 3 [2,3,10,82,83] [] [2,3,10,82] [] (xu 1)=re xu:=br Fp 1 fun _=>rfl
theorem TF:uo=some Hf:=aC Fp
noncomputable def yF:Option PC:=aA {ctx with fr:=[2,3,12,20,4,5],nh:=[]} Tryz.f260 ((ae af 260).getD default) [1]
noncomputable def Hi:PC:=ay yF
def RI:PT:=
 (.ite (be mZ (pi 0))
 (.ret (.tup [(pi 0),(pi 2)]))
 (.blockS ⟨[(11,jJ)],[(1,(.mk [r0]))]⟩ 0 [2,3,12,13,20,21] []
 (.iteS ⟨[],[]⟩ (aw aU (pi 0)) [2,3,20,21] []
 (.call ⟨[],[]⟩ [] 16 264 [(pc o1 1)]
 (.ite (aO bU (pc o1 1))
 (.ret (.tup [(pi 0),(pi 3)]))
 (.ret (.tup [(pi 0),(pi 0)]))))
 (.ite (aw aU (pi 1))
 (.ite (.pick (ak (pc o1 1) (pi 0)) pT (be (pc o1 1) (pi 1)))
 (.ret (.tup [(pi 0),(pi 3)]))
 (.ret (.tup [(pi 1),(pi 0)])))
 (.next ⟨[],[]⟩))
 (.next ⟨[],[]⟩))
 (.call ⟨[],[]⟩ [] 33 262 [(pc o1 1)]
 (.ite (.nt (.tget q6 1))
 (.ret (.tup [(pi 0),(pi 10)]))
 (.ret (.tup [(.tget q6 0),(pi 0)]))))))
def alw (b:Nat→PC):PT×List (Shp×PT):=(RI,[])
theorem ZU:yF.map told=some (alw (av yF)):=by kernel_rfl
theorem awX:tree Hi=RI:=aJ ZU
theorem TH:yF=some Hi:=aC ZU
noncomputable def Ds:Option PC:=aA {ctx with fr:=[2],nh:=[]} Tryz.f264 ((ae af 264).getD default) []
noncomputable def Hh:PC:=ay Ds
def RH:PT:=
 (.ret (.mn (.mx r0 (pi (-1099511627776))) (pi 1099511627776)))
def alv (b:Nat→PC):PT×List (Shp×PT):=(RH,[])
theorem ZT:Ds.map told=some (alv (av Ds)):=by kernel_rfl
theorem awW:tree Hh=RH:=aJ ZT
theorem ahC:Ds=some Hh:=aC ZT
noncomputable def yD:Option PC:=aA {ctx with fr:=[2,3,4,11],nh:=[]} Tryz.f262 ((ae af 262).getD default) []
noncomputable def Hd:PC:=ay yD
def RD:PT:=
 (.ite (.pick (ak r0 (pi 0)) pT (be r0 (pi 19)))
 (.ret (.tup [(pi 0),pF]))
 (.ite (ak r0 (pi 7))
 (.ret (.tup [(pi 0),pT]))
 (.ret (.tup [(pi 1),pT]))))
def alq (b:Nat→PC):PT×List (Shp×PT):=(RD,[])
theorem ZQ:yD.map told=some (alq (av yD)):=by kernel_rfl
theorem awS:tree Hd=RD:=aJ ZQ
theorem TE:yD=some Hd:=aC ZQ
noncomputable def yH:Option PC:=aA {ctx with fr:=[4,8,13,17,21],nh:=[]} Tryz.f261 ((ae af 261).getD default) [2]
noncomputable def Hn:PC:=ay yH
def RL:PT:=
 (.ite (aw r0 (pi 3))
 (.ret (.mk [(pc (.setc jI 0 (.mk [(.lst [(pi 1)]),(pi 1)])) 0),(pc (.setc jI 0 (.mk [(.lst [(pi 1)]),(pi 1)])) 1)]))
 (.ite (.pick (aw r0 (pi 4)) (aw r0 (pi 4)) (aw r0 (pi 5)))
 (.ret (.mk [(pc (.setc jI 0 (.mk [(.lst [(pi 1),(pi 1)]),(pi 1)])) 0),(pc (.setc jI 0 (.mk [(.lst [(pi 1),(pi 1)]),(pi 1)])) 1)]))
 (.ite (aw r0 (pi 6))
 (.ret (.mk [(pc aaF 0),(pc aaF 1)]))
 (.ite (aw r0 (pi 7))
 (.ret (.mk [(pc (.setc jI 0 (.mk [(.lst [(pi 0),(pi 0)]),(pi 1)])) 0),(pc (.setc jI 0 (.mk [(.lst [(pi 0),(pi 0)]),(pi 1)])) 1)]))
 (.ite (aw r0 (pi 8))
 (.ret (.mk [(pc (.setc jI 0 (.mk [(.lst [(pi (-1)),(pi (-1))]),(pi 1)])) 0),(pc (.setc jI 0 (.mk [(.lst [(pi (-1)),(pi (-1))]),(pi 1)])) 1)]))
 (.ret (.mk [(pc (.setc jI 0 (.mk [(.lst [(pi 0),(pi 0)]),(pi 0)])) 0),(pc (.setc jI 0 (.mk [(.lst [(pi 0),(pi 0)]),(pi 0)])) 1)])))))))
def alB (b:Nat→PC):PT×List (Shp×PT):=(RL,[])
theorem ZX:yH.map told=some (alB (av yH)):=by kernel_rfl
theorem aw1:tree Hn=RL:=aJ ZX
theorem TL:yH=some Hn:=aC ZX
noncomputable def Dq:Option PC:=aA {ctx with fr:=[5,6,8],nh:=[]} Tryz.f96 ((ae af 96).getD default) [2,4,7]
noncomputable def Hc:PC:=ay Dq
def RC:PT:=
 (.call ⟨[],[(4,ej),(2,(.mk [r0]))]⟩ [] 11 170 [HH]
 (.ite (aO (.tget aU 1) (pi 0))
 (.ret AM)
 (.call ⟨[],[]⟩ [] 21 171 [(.mk [r1]),(.mk [(pc o2 0),(pc o2 1),(pc o2 2)])]
 (.ret (.mk [(pc aaA 0),(pc aaA 1)])))))
def alo (b:Nat→PC):PT×List (Shp×PT):=(RC,[])
theorem ZP:Dq.map told=some (alo (av Dq)):=by kernel_rfl
theorem awQ:tree Hc=RC:=aJ ZP
theorem ahA:Dq=some Hc:=aC ZP
noncomputable def uq:Option PC:=aA {ctx with fr:=[5,15,21,9,11],nh:=[]} Tryz.f171 ((ae af 171).getD default) [2,3,4,6,33,7,8,10,12298,12]
noncomputable def Hj:PC:=ay uq
noncomputable def JO:Nat→PC:=bz uq
def aqF (b:Nat→PC):PC:=.block 1 [45,46] [7,8] (.loop [45] [7,8] (b 0))
def BJ (b:Nat→PC):PT:=
 (.ite (ak oc tF)
 (.blockS ⟨[],[]⟩ 2 [9,10,47,48,49,50,51,52,53,54,55,56,57,58,59,60,61] [10,12298,8,7]
 (.chk (aq q7 oc)
 (.call ⟨[(54,oc),(52,oc)],[]⟩ [] 57 171 [(.mk [(pc o2 0)]),(.mk [(pc (.setc iJ 0 (pn q7 oc)) 0),(pc (.setc iJ 0 (pn q7 oc)) 1),(pc (.setc iJ 0 (pn q7 oc)) 2)])]
 (.chk (aq o7 HM)
 (.chk (aq o8 pP)
 (.next ⟨[],[(8,(.setn o8 pP 0 (.tget OJ 1))),(7,(.setn o7 HM 0 (.tget OJ 0)))]⟩)))))
 (.next ⟨[(45,(aH oc (pi 1)))],[]⟩))
 (.exit 1 ⟨[(46,(ak oc tF))],[]⟩))
def B6 (b:Nat→PC):PT:=
 (.blockS ⟨[(14,(pc (.mk [r1]) 0))],[(4,ej),(3,(.mk [r1])),(2,(.mk [r0]))]⟩ 0 [5,15,16,21,22] [4]
 (.iteS ⟨[],[]⟩ (.pick (aw cS (pi 0)) (aw cS (pi 0)) (aw cS (pi 1))) [5,21,22] [4]
 (.ret (.tup [(.mk [(pc (.setc o4 0 (.mk [pT,(pc o3 1)])) 0),(pc (.setc o4 0 (.mk [pT,(pc o3 1)])) 1)]),pL]))
 (.iteS ⟨[],[]⟩ (aw cS (pi 2)) [5] [4]
 (.call ⟨[],[]⟩ [] 26 219 [(.mk [(pc o2 0)]),(pc o3 1)]
 (.ite (pc (.setc ej 0 kq) 0)
 (.ret (.tup [(.mk [(pc aaE 0),(pc aaE 1)]),pL]))
 (.ret (.tup [AM,(.lst [(pc o3 1)])]))))
 (.next ⟨[],[]⟩)
 (.next ⟨[],[]⟩))
 (.next ⟨[],[]⟩))
 (.chk (.an (bt lU (pi 0)) (bM lU cG))
 (.chk (aw lU lU)
 (.brk ⟨[(45,(pi 0)),(44,lU),(43,(pc o3 2)),(8,pN),(7,pN)],[(8,(.rep lU pL)),(7,(.rep lU ej))]⟩
(aqF b)
 (.chk (.nt (.an (.an (aw (pc o3 0) (pi 6)) pT) (.nt (aq o7 (pi 0)))))
 (.ite (.pick (aw (pc o3 0) (pi 6)) (pc (pn o7 (pi 0)) 0) pF)
 (.chk (aq o7 (pi 0))
 (.chk (aq o7 AO)
 (.chk (aq o8 AO)
 (.ret (.tup [(.mk [(pc (.setc o4 0 (.sub (pn o7 AO) 0 2)) 0),(pc (.setc o4 0 (.sub (pn o7 AO) 0 2)) 1)]),(pn o8 AO)])))))
 (.call ⟨[],[]⟩ [] 88 220 [(pc o3 0),o7]
 (.ite (pc (.setc ej 0 HQ) 0)
 (.ret (.tup [(.mk [(pc aaD 0),(pc aaD 1)]),pL]))
 (.call ⟨[(92,tD)],[]⟩ [] 94 221 [o8]
 (.ret (.tup [(.mk [(pc (.setc o4 0 wC) 0),(pc (.setc o4 0 wC) 1)]),r94])))))))))))
def alx (b:Nat→PC):PT×List (Shp×PT):=(B6 b,[(.lp 1 [45,46] [7,8] [45] [7,8],BJ b)])
theorem NW:uq.map told=some (alx (av uq)):=by kernel_rfl
theorem awY:tree Hj=B6 JO:=aJ NW
theorem Pz:round 1 [45,46] [7,8] [45] [7,8] (JO 0)=BJ JO:=br NW 0 fun _=>rfl
theorem TI:uq=some Hj:=aC NW
noncomputable def yG:Option PC:=aA {ctx with fr:=[5,6],nh:=[]} Tryz.f219 ((ae af 219).getD default) [2,4]
noncomputable def Hk:PC:=ay yG
def RJ:PT:=
 (.chk (.nt (.an (.an (.nt (bt r1 (.llen jJ))) pT) (.nt (aq jJ r1))))
 (.ite (.pick (bt r1 (.llen jJ)) pT (.nt (pc (pn jJ r1) 0)))
 (.ret (.mk [(pc (.setc ej 0 tD) 0),(pc (.setc ej 0 tD) 1)]))
 (.call ⟨[],[(4,ej),(2,(.mk [r0]))]⟩ [] 24 262 [r1]
 (.iteS ⟨[],[]⟩ (aw (.tget m0 0) (pi 1)) [] [4]
 (.chk (aq (pc o2 0) r1)
 (.call ⟨[],[]⟩ [] 36 263 [(aO (pc (pn (pc o2 0) r1) 1) (pi 0))]
 (.ret (.mk [(pc (.setc o4 0 iL) 0),(pc (.setc o4 0 iL) 1)]))))
 (.next ⟨[],[]⟩)
 (.chk (aq (pc o2 0) r1)
 (.call ⟨[],[]⟩ [] 43 264 [(pc (pn (pc o2 0) r1) 1)]
 (.ret (.mk [(pc (.setc o4 0 (.mk [pT,q7])) 0),(pc (.setc o4 0 (.mk [pT,q7])) 1)]))))))))
def aly (b:Nat→PC):PT×List (Shp×PT):=(RJ,[])
theorem ZV:yG.map told=some (aly (av yG)):=by kernel_rfl
theorem awZ:tree Hk=RJ:=aJ ZV
theorem TJ:yG=some Hk:=aC ZV
noncomputable def yI:Option PC:=aA {ctx with fr:=[],nh:=[]} Tryz.f263 ((ae af 263).getD default) [2]
noncomputable def Ho:PC:=ay yI
def RM:PT:=
 (.ite r0
 (.ret (.mk [(pc tz 0),(pc tz 1)]))
 (.ret (.mk [(pc HE 0),(pc HE 1)])))
def alC (b:Nat→PC):PT×List (Shp×PT):=(RM,[])
theorem ZY:yI.map told=some (alC (av yI)):=by kernel_rfl
theorem aw2:tree Ho=RM:=aJ ZY
theorem TM:yI=some Ho:=aC ZY
noncomputable def yE:Option PC:=aA {ctx with fr:=[9,22,41,6,7,82,88,94],nh:=[]} Tryz.f220 ((ae af 220).getD default) [4,5]
noncomputable def Hg:PC:=ay yE
def RG:PT:=
 (.blockS ⟨[(8,r0)],[(4,ej)]⟩ 0 [9,10,22,23] [4]
 (.iteS ⟨[],[]⟩ (aw r8 (pi 3)) [22,23] [4]
 (.chk (aq r1 (pi 0))
 (.iteS ⟨[],[]⟩ (pc (pn r1 (pi 0)) 0) [] [4]
 (.chk (aq r1 (pi 0))
 (.call ⟨[],[]⟩ [] 20 263 [(aw (pc (pn r1 (pi 0)) 1) (pi 0))]
 (.ret (.mk [(pc (.setc o4 0 dD) 0),(pc (.setc o4 0 dD) 1)]))))
 (.next ⟨[],[]⟩)
 (.ret AM)))
 (.iteS ⟨[],[]⟩ (.pick (aw r8 (pi 4)) (aw r8 (pi 4)) (aw r8 (pi 5))) [] [4]
 (.call ⟨[],[]⟩ [] 27 263 [(aw r0 (pi 5))]
 (.chk (aq r1 (pi 0))
 (.chk (.nt (.an (.an (.nt aaw) pT) (.nt (aq r1 (pi 1)))))
 (.ite (.pick aaw pT (.an (.cb .eql (pc mY 0) (pc v8 0)) (.an (aw (pc mY 1) (pc v8 1)) pT)))
 (.ret (.mk [(pc (.setc o4 0 v8) 0),(pc (.setc o4 0 v8) 1)]))
 (.next ⟨[],[]⟩)))))
 (.ite (aw r8 (pi 6))
 (.chk (aq r1 (pi 1))
 (.chk (.nt (.an (.an (pc mY 0) pT) (.nt (aq r1 (pi 1)))))
 (.chk (.nt (.an (.an (pc mY 0) pT) (.nt (aq r1 (pi 2)))))
 (.ite (.pick (pc mY 0) (.an (.cb .eql (pc mY 0) (pc (pn r1 (pi 2)) 0)) (.an (aw (pc mY 1) (pc (pn r1 (pi 2)) 1)) pT)) pF)
 (.ret (.mk [(pc (.setc o4 0 mY) 0),(pc (.setc o4 0 mY) 1)]))
 (.ret AM)))))
 (.next ⟨[],[]⟩))
 (.next ⟨[],[]⟩))
 (.next ⟨[],[]⟩))
 (.chk (aq r1 (pi 0))
 (.chk (.nt (.an (.an (.nt (.nt (pc (pn r1 (pi 0)) 0))) pT) (.nt (aq r1 (pi 1)))))
 (.ite (.pick (.nt (pc (pn r1 (pi 0)) 0)) pT (.nt (pc mY 0)))
 (.ret AM)
 (.chk (aq r1 (pi 1))
 (.blockS ⟨[(81,r0),(7,(pc mY 1)),(6,(pc (pn r1 (pi 0)) 1))],[]⟩ 1 [82,83,88,89,94,95] [4]
 (.iteS ⟨[],[]⟩ (.pick (aw pR (pi 4)) (aw pR (pi 4)) (aw pR (pi 5))) [88,89,94,95] [4]
 (.call ⟨[],[]⟩ [] 87 263 [(aw r0 (pi 4))]
 (.ret (.mk [(pc (.setc o4 0 r87) 0),(pc (.setc o4 0 r87) 1)])))
 (.iteS ⟨[],[]⟩ (aw pR (pi 7)) [94,95] [4]
 (.call ⟨[],[]⟩ [] 93 263 [(ak r6 r7)]
 (.ret (.mk [(pc (.setc o4 0 A3) 0),(pc (.setc o4 0 A3) 1)])))
 (.iteS ⟨[],[]⟩ (aw pR (pi 8)) [] [4]
 (.call ⟨[],[]⟩ [] 99 263 [(aw r6 r7)]
 (.ret (.mk [(pc (.setc o4 0 oe) 0),(pc (.setc o4 0 oe) 1)])))
 (.next ⟨[],[]⟩)
 (.next ⟨[],[]⟩))
 (.next ⟨[],[]⟩))
 (.next ⟨[],[]⟩))
 (.call ⟨[],[]⟩ [] 103 265 [r0,r6,r7]
 (.ret (.mk [(pc (.setc o4 0 (.mk [pT,HI])) 0),(pc (.setc o4 0 (.mk [pT,HI])) 1)])))))))))
def alu (b:Nat→PC):PT×List (Shp×PT):=(RG,[])
theorem ZS:yE.map told=some (alu (av yE)):=by kernel_rfl
theorem awV:tree Hg=RG:=aJ ZS
theorem TG:yE=some Hg:=aC ZS
noncomputable def Dr:Option PC:=aA {ctx with fr:=[6,8,14,20,25],nh:=[]} Tryz.f265 ((ae af 265).getD default) []
noncomputable def He:PC:=ay Dr
def RE:PT:=
 (.blockS ⟨[(7,r0)],[]⟩ 0 [6,8,9,14,15,20,21,25,26] []
 (.iteS ⟨[],[]⟩ (aw r7 (pi 9)) [6,14,15,20,21,25,26] []
 (.call ⟨[],[]⟩ [] 13 264 [(aH r1 r2)]
 (.ret dx))
 (.iteS ⟨[],[]⟩ (aw r7 (pi 10)) [6,20,21,25,26] []
 (.call ⟨[],[]⟩ [] 19 264 [(bh r1 r2)]
 (.ret fX))
 (.iteS ⟨[],[]⟩ (aw r7 (pi 11)) [6,25,26] []
 (.call ⟨[],[]⟩ [] 24 286 [r1,r2]
 (.ret m0))
 (.ite (aw r7 (pi 12))
 (.ret (.mn r1 r2))
 (.next ⟨[],[]⟩))
 (.next ⟨[],[]⟩))
 (.next ⟨[],[]⟩))
 (.next ⟨[],[]⟩))
 (.ret (.mx r1 r2)))
def alr (b:Nat→PC):PT×List (Shp×PT):=(RE,[])
theorem ZR:Dr.map told=some (alr (av Dr)):=by kernel_rfl
theorem awT:tree He=RE:=aJ ZR
theorem ahB:Dr=some He:=aC ZR
noncomputable def Dt:Option PC:=aA {ctx with fr:=[4,5,6,7],nh:=[]} Tryz.f286 ((ae af 286).getD default) []
noncomputable def Hm:PC:=ay Dt
def RK:PT:=
 (.call ⟨[],[]⟩ [] 19 298 [(.conv .u64 (.mx r0 (bh (pi 0) r0))),(.conv .u64 (.mx r1 (bh (pi 0) r1)))]
 (.ite (.cb .neq (ak r0 (pi 0)) (ak r1 (pi 0)))
 (.ret (bh (pi 0) aan))
 (.ret aan)))
def alA (b:Nat→PC):PT×List (Shp×PT):=(RK,[])
theorem ZW:Dt.map told=some (alA (av Dt)):=by kernel_rfl
theorem aw0:tree Hm=RK:=aJ ZW
theorem ahD:Dt=some Hm:=aC ZW
noncomputable def CF:Option PC:=aA {ctx with fr:=[4,5,6,7,8,9,10,11,12,13],nh:=[]} Tryz.f298 ((ae af 298).getD default) []
noncomputable def FE:PC:=ay CF
def Qh:PT:=
 (.chk (bt wh (pi 0))
 (.ret (.tup [(.ai .add .u64 (.ai .add .u64 (.ai .mul .u64 pH (.ai .shr .u64 r1 wh)) (.ai .shr .u64 aam wh)) (.ai .shr .u64 (.ai .add .u64 (.ai .and .u64 aam (.con (.v (.int .u64 4294967295)))) (.ai .mul .u64 (.ai .and .u64 r0 (.con (.v (.int .u64 4294967295)))) (.ai .shr .u64 r1 wh))) wh)),(.ai .mul .u64 r0 r1)])))
def ajN (b:Nat→PC):PT×List (Shp×PT):=(Qh,[])
theorem YT:CF.map told=some (ajN (av CF)):=by kernel_rfl
theorem avl:tree FE=Qh:=aJ YT
theorem agc:CF=some FE:=aC YT
noncomputable def uj:Option PC:=aA {ctx with fr:=[2,3,5,8],nh:=[]} Tryz.f221 ((ae af 221).getD default) [6]
noncomputable def GR:PC:=ay uj
noncomputable def xr:Nat→PC:=bz uj
def aqq (b:Nat→PC):PC:=.block 0 [3,11,12] [] (.loop [3,11] [] (b 0))
def aqr (b:Nat→PC):PC:=.block 2 [6,27,28] [6] (.loop [6,27] [6] (b 1))
def H2 (b:Nat→PC):PT:=
 (.ite (ak aU dj)
 (.chk (aq r9 aU)
 (.ite (ak (aH r3 (.llen (pn r9 aU))) (pi 0))
 (.chk (.nt pT)
 (.chk (.nt pT)
 (.next ⟨[(3,(aH r3 (.llen (pn r9 aU)))),(11,(aH aU (pi 1)))],[]⟩)))
 (.next ⟨[(3,(aH r3 (.llen (pn r9 aU)))),(11,(aH aU (pi 1)))],[]⟩)))
 (.exit 0 ⟨[(12,(ak aU dj))],[]⟩))
def H3 (b:Nat→PC):PT:=
 (.ite (ak eX kq)
 (.chk (aq gI eX)
 (.chk (bM (.llen (.app o6 (pn gI eX))) cG)
 (.next ⟨[(6,pN),(27,(aH eX (pi 1)))],[(6,(.app o6 (pn gI eX)))]⟩)))
 (.exit 2 ⟨[(28,(ak eX kq))],[]⟩))
def Rl (b:Nat→PC):PT:=
 (.brk ⟨[(11,(pi 0)),(10,(.llen r0)),(9,r0),(3,(pi 0))],[]⟩
(aqq b)
 (.call ⟨[],[]⟩ [] 24 266 [pL,r3]
 (.brk ⟨[(27,(pi 0)),(26,(.llen r0)),(25,r0),(6,pN)],[(6,m0)]⟩
(aqr b)
 (.ret o6))))
def ak0 (b:Nat→PC):PT×List (Shp×PT):=(Rl b,[(.lp 0 [3,11,12] [] [3,11] [],H2 b),(.lp 2 [6,27,28] [6] [6,27] [6],H3 b)])
theorem Fm:uj.map told=some (ak0 (av uj)):=by kernel_rfl
theorem aww:tree GR=Rl xr:=aJ Fm
theorem aa8:round 0 [3,11,12] [] [3,11] [] (xr 0)=H2 xr:=br Fm 0 fun _=>rfl
theorem aa9:round 2 [6,27,28] [6] [6,27] [6] (xr 1)=H3 xr:=br Fm 1 fun _=>rfl
theorem Tu:uj=some GR:=aC Fm
noncomputable def xZ:Option PC:=aA {ctx with fr:=[4,5],nh:=[]} Tryz.f49 ((ae af 49).getD default) [2,3]
noncomputable def Gr:PC:=ay xZ
noncomputable def Jz:Nat→PC:=bz xZ
def ap1 (b:Nat→PC):PC:=.block 0 [4,5,34,35,36,37,38] [] (.loop [4,5] [] (b 0))
def HV (b:Nat→PC):PT:=
 (.ite (ak r5 (.llen (pc o2 3)))
 (.chk (aq (pc o2 3) r5)
 (.chk (aq (pc o3 3) r5)
 (.ite (aO (pn (pc o2 3) r5) (pn (pc o3 3) r5))
 (.ret pF)
 (.next ⟨[(5,nV)],[]⟩))))
 (.exit 0 ⟨[(34,r5),(35,pN),(36,(pc o2 3)),(37,(.llen (pc o2 3))),(38,(ak r5 (.llen (pc o2 3))))],[]⟩))
def QV (b:Nat→PC):PT:=
 (.ite (.pick (.pick (.pick (.nt (.an (.cb .eql (pc (.mk [jJ,pI]) 0) (pc (.mk [(pc (.mk [r1]) 0),(pc (.mk [r1]) 1)]) 0)) (.an (aw (pc (.mk [jJ,pI]) 1) (pc (.mk [(pc (.mk [r1]) 0),(pc (.mk [r1]) 1)]) 1)) pT))) pT (aO we (pc (.mk [r1]) 2))) pT (aO tC (pc (.mk [r1]) 4))) pT (aO (.llen (pc (.mk [r0]) 3)) (.llen (pc (.mk [r1]) 3))))
 (.ret pF)
 (.brk ⟨[(5,(pi 0)),(4,pF)],[(3,(.mk [r1])),(2,(.mk [r0]))]⟩
(ap1 b)
 (.ret pT)))
def akA (b:Nat→PC):PT×List (Shp×PT):=(QV b,[(.lp 0 [4,5,34,35,36,37,38] [] [4,5] [],HV b)])
theorem NH:xZ.map told=some (akA (av xZ)):=by kernel_rfl
theorem av6:tree Gr=QV Jz:=aJ NH
theorem aa3:round 0 [4,5,34,35,36,37,38] [] [4,5] [] (Jz 0)=HV Jz:=br NH 0 fun _=>rfl
theorem agW:xZ=some Gr:=aC NH
noncomputable def Cz:Option PC:=aA {ctx with fr:=[2,3,7,12],nh:=[]} Tryz.f46 ((ae af 46).getD default) [1]
noncomputable def FB:PC:=ay Cz
def Qd:PT:=
 (.ite (aO tC (pi 0))
 (.ret (pi 0))
 (.ite (.nt jJ)
 (.ret (pi 2))
 (.ite (aO pI (pi 0))
 (.ret (pi 1))
 (.ret (pi 0)))))
def ajF (b:Nat→PC):PT×List (Shp×PT):=(Qd,[])
theorem YO:Cz.map told=some (ajF (av Cz)):=by kernel_rfl
theorem avd:tree FB=Qd:=aJ YO
theorem af6:Cz=some FB:=aC YO
noncomputable def Cw:Option PC:=aA {ctx with fr:=[2],nh:=[]} Tryz.f48 ((ae af 48).getD default) [1]
noncomputable def Fz:PC:=ay Cw
def Qb:PT:=
 (.ite (.pick (aO tC (pi 0)) pT (.nt jJ))
 (.ret (pi (-1)))
 (.ret pI))
def ajD (b:Nat→PC):PT×List (Shp×PT):=(Qb,[])
theorem YM:Cw.map told=some (ajD (av Cw)):=by kernel_rfl
theorem avb:tree Fz=Qb:=aJ YM
theorem af4:Cw=some Fz:=aC YM
noncomputable def Cv:Option PC:=aA {ctx with fr:=[8,10],nh:=[]} Tryz.f82 ((ae af 82).getD default) [4,7,9]
noncomputable def Fy:PC:=ay Cv
def Qa:PT:=
 (.call ⟨[],[(4,(.mk [r0]))]⟩ [] 16 83 [ko,r1,r2,(au 24 (.mk [r3]))]
 (.ite (aw (pc AQ 2) (pi (-1)))
 (.ret pL)
 (.chk (aq (pc o4 4) (pc AQ 2))
 (.call ⟨[],[]⟩ [] 30 163 [(pn (pc o4 4) (pc AQ 2)),r2,(.tget bU 1)]
 (.ret wv)))))
def ajC (b:Nat→PC):PT×List (Shp×PT):=(Qa,[])
theorem YL:Cv.map told=some (ajC (av Cv)):=by kernel_rfl
theorem ava:tree Fy=Qa:=aJ YL
theorem af3:Cv=some Fy:=aC YL
noncomputable def xG:Option PC:=aA {ctx with fr:=[6,8],nh:=[]} Tryz.f163 ((ae af 163).getD default) [3,7]
noncomputable def N8:PC:=ay xG
def avI:PT:=
 (.call ⟨[],[]⟩ [] 12 95 [(au 4 (.mk [r0])),r1]
 (.ite (aO (.tget bT 1) (pi 0))
 (.ret pL)
 (.call ⟨[],[]⟩ [] 19 215 [(.mk [(pc (.setc iJ 0 (.tget bT 0)) 0),(pc (.setc iJ 0 (.tget bT 0)) 1),(pc (.setc iJ 0 (.tget bT 0)) 2)]),r2]
 (.ret fX))))
def akb (b:Nat→PC):PT×List (Shp×PT):=(avI,[])
theorem asl:xG.map told=some (akb (av xG)):=by kernel_rfl
theorem Tp:xG=some N8:=aC asl
noncomputable def yC:Option PC:=aA {ctx with fr:=[4,5,6,8],nh:=[]} Tryz.f215 ((ae af 215).getD default) [2]
noncomputable def Oe:PC:=ay yC
def awR:PT:=
 (.call ⟨[],[(2,(.mk [r0]))]⟩ [] 11 170 [HH]
 (.ite (aO (.tget aU 1) (pi 0))
 (.ret pL)
 (.call ⟨[],[]⟩ [] 20 171 [(.mk [r1]),(.mk [(pc o2 0),(pc o2 1),(pc o2 2)])]
 (.call ⟨[(8,(.tget dD 1))],[]⟩ [] 24 139 [(.tget dD 1)]
 (.call ⟨[],[]⟩ [] 26 140 [r8]
 (.ret kq))))))
def alp (b:Nat→PC):PT×List (Shp×PT):=(awR,[])
theorem asr:yC.map told=some (alp (av yC)):=by kernel_rfl
theorem TD:yC=some Oe:=aC asr
noncomputable def yw:Option PC:=aA {ctx with fr:=[2],nh:=[]} Tryz.f139 ((ae af 139).getD default) []
noncomputable def Oa:PC:=ay yw
def awH:PT:=
 (.call ⟨[(6,(.llen r0)),(5,r0)],[]⟩ [] 9 207 [(.conv .u64 (.llen r0))]
 (.call ⟨[],[]⟩ [] 10 206 [r5,(pi 0),r6,r9]
 (.ret (.tup []))))
def alb (b:Nat→PC):PT×List (Shp×PT):=(awH,[])
theorem aso:yw.map told=some (alb (av yw)):=by kernel_rfl
theorem Tz:yw=some Oa:=aC aso
noncomputable def xB:Option PC:=aA {ctx with fr:=[2],nh:=[]} Tryz.f207 ((ae af 207).getD default) []
noncomputable def N6:PC:=ay xB
def avi:PT:=
 (.call ⟨[],[]⟩ [] 7 256 [r0]
 (.ret r7))
def ajK (b:Nat→PC):PT×List (Shp×PT):=(avi,[])
theorem asf:xB.map told=some (ajK (av xB)):=by kernel_rfl
theorem To:xB=some N6:=aC asf
noncomputable def CE:Option PC:=aA {ctx with fr:=[2,0],nh:=[]} Tryz.f255 ((ae af 255).getD default) []
noncomputable def aab:PC:=ay CE
def avj:PT:=
 (.ite (bt r0 (.con (.v (.int .u32 65536))))
 (.chk (bt v9 (pi 0))
 (.ite (bt AW (.con (.v (.int .u32 256))))
 (.chk wk
 (.chk (.sok eW (.conv .u8 (.ai .shr .u32 AW lg)))
 (.ret (aH (aH (pi 16) (pi 8)) (.conv .i64 (.sidx eW (.conv .u8 (.ai .shr .u32 AW lg))))))))
 (.chk (.sok eW (.conv .u8 AW))
 (.ret (aH (pi 16) (.conv .i64 (.sidx eW (.conv .u8 AW))))))))
 (.ite (bt r0 (.con (.v (.int .u32 256))))
 (.chk wk
 (.chk (.sok eW (.conv .u8 (.ai .shr .u32 r0 lg)))
 (.ret (aH (aH (pi 0) (pi 8)) (.conv .i64 (.sidx eW (.conv .u8 (.ai .shr .u32 r0 lg))))))))
 (.chk (.sok eW (.conv .u8 r0))
 (.ret (aH (pi 0) (.conv .i64 (.sidx eW (.conv .u8 r0))))))))
def ajL (b:Nat→PC):PT×List (Shp×PT):=(avj,[])
theorem asg:CE.map told=some (ajL (av CE)):=by kernel_rfl
theorem agb:CE=some aab:=aC asg
noncomputable def xC:Option PC:=aA {ctx with fr:=[2,0],nh:=[]} Tryz.f256 ((ae af 256).getD default) []
noncomputable def N7:PC:=ay xC
def avk:PT:=
 (.ite (bt r0 (.con (.v (.int .u64 4294967296))))
 (.chk (bt wh (pi 0))
 (.ite (bt pH (.con (.v (.int .u64 65536))))
 (.chk (bt v9 (pi 0))
 (.ite (bt AS HG)
 (.chk wk
 (.chk (.sok eW (.conv .u8 (.ai .shr .u64 AS lg)))
 (.ret (aH (aH (aH (pi 32) (pi 16)) (pi 8)) (.conv .i64 (.sidx eW (.conv .u8 (.ai .shr .u64 AS lg))))))))
 (.chk (.sok eW (.conv .u8 AS))
 (.ret (aH (aH (pi 32) (pi 16)) (.conv .i64 (.sidx eW (.conv .u8 AS))))))))
 (.ite (bt pH HG)
 (.chk wk
 (.chk (.sok eW (.conv .u8 (.ai .shr .u64 pH lg)))
 (.ret (aH (aH (pi 32) (pi 8)) (.conv .i64 (.sidx eW (.conv .u8 (.ai .shr .u64 pH lg))))))))
 (.chk (.sok eW (.conv .u8 pH))
 (.ret (aH (pi 32) (.conv .i64 (.sidx eW (.conv .u8 pH)))))))))
 (.ite (bt r0 (.con (.v (.int .u64 65536))))
 (.chk (bt v9 (pi 0))
 (.ite (bt AV HG)
 (.chk wk
 (.chk (.sok eW (.conv .u8 (.ai .shr .u64 AV lg)))
 (.ret (aH (aH (aH (pi 0) (pi 16)) (pi 8)) (.conv .i64 (.sidx eW (.conv .u8 (.ai .shr .u64 AV lg))))))))
 (.chk (.sok eW (.conv .u8 AV))
 (.ret (aH (aH (pi 0) (pi 16)) (.conv .i64 (.sidx eW (.conv .u8 AV))))))))
 (.ite (bt r0 HG)
 (.chk wk
 (.chk (.sok eW (.conv .u8 (.ai .shr .u64 r0 lg)))
 (.ret (aH (aH (pi 0) (pi 8)) (.conv .i64 (.sidx eW (.conv .u8 (.ai .shr .u64 r0 lg))))))))
 (.chk (.sok eW (.conv .u8 r0))
 (.ret (aH (pi 0) (.conv .i64 (.sidx eW (.conv .u8 r0)))))))))
def ajM (b:Nat→PC):PT×List (Shp×PT):=(avk,[])
theorem ash:xC.map told=some (ajM (av xC)):=by kernel_rfl
theorem Tn:xC=some N7:=aC ash
noncomputable def yy:Option PC:=aA {ctx with fr:=[8,9,10,3,11,12,13,1,14,15,16,17,18,2],nh:=[]} Tryz.f206 ((ae af 206).getD default) []
noncomputable def Od:PC:=ay yy
def aqz (b:Nat→PC):PC:=.block 0 [] [] (.loop [1,2,3,8,9] [] (b 0))
def at0 (b:Nat→PC):PT:=
 (.blockS ⟨[],[]⟩ 1 [1,2,3,8,9,10,11,12,19,20,21,22,23,28,29,34,35,42,43,44,45,46,47,48,49,50,61,62,64,65,68,73,74,75,87] []
 (.iteS ⟨[(10,(bh r2 r1))],[]⟩ (bM (bh r2 r1) (pi 12)) [] []
 (.call ⟨[],[]⟩ [] 27 246 [r0,r1,r2]
 (.ret (.tup [])))
 (.next ⟨[],[]⟩)
 (.iteS ⟨[],[]⟩ (aw r3 (pi 0)) [] []
 (.call ⟨[],[]⟩ [] 33 247 [r0,r1,r2]
 (.ret (.tup [])))
 (.next ⟨[],[]⟩)
 (.iteS ⟨[],[]⟩ (.nt r8) [3] []
 (.call ⟨[],[]⟩ [] 39 248 [r0,r1,r2]
 (.next ⟨[(3,(bh r3 (pi 1)))],[]⟩))
 (.next ⟨[],[]⟩)
 (.call ⟨[],[]⟩ [] 46 249 [r0,r1,r2]
 (.iteS ⟨[(12,(.tget m6 1)),(11,(.tget m6 0))],[]⟩ (aw (.tget m6 1) (pi 2)) [11,12] []
 (.call ⟨[],[]⟩ [] 54 250 [r0,r1,r2]
 (.next ⟨[(12,(pi 1)),(11,(bh (bh r2 (pi 1)) (bh aU r1)))],[]⟩))
 (.next ⟨[],[]⟩)
 (.iteS ⟨[],[]⟩ (.pick (.pick r8 r9 pF) (aw bT (pi 1)) pF) [] []
 (.call ⟨[],[]⟩ [] 72 251 [r0,r1,r2]
 (.ite HP
 (.ret (.tup []))
 (.next ⟨[],[]⟩)))
 (.next ⟨[],[]⟩)
 (.chk (.nt (.an (.an (be r1 (pi 0)) pT) (.nt (aq r0 (bh r1 (pi 1))))))
 (.chk (.nt (.an (.an (be r1 (pi 0)) pT) (.nt (aq r0 aU))))
 (.call ⟨[(75,(be r1 (pi 0)))],[]⟩ [(75,true)] 85 252 [(pn r0 (bh r1 (pi 1))),(pn r0 aU)]
 (.iteS ⟨[],[]⟩ (.pick wz (.nt wB) pF) [1] []
 (.call ⟨[],[]⟩ [] 92 253 [r0,r1,r2,aU]
 (.exit 1 ⟨[(1,wC)],[]⟩))
 (.next ⟨[],[]⟩)
 (.call ⟨[],[]⟩ [] 99 254 [r0,r1,r2,aU]
 (.chk (aO (pi 8) (pi 0))
 (.iteS ⟨[(18,(.ai .quo .i64 dj (pi 8))),(17,(bh r2 (.tget oe 0))),(16,(bh (.tget oe 0) r1)),(9,(.tget oe 1)),(14,(.tget oe 0))],[]⟩ (ak (bh (.tget oe 0) r1) (bh r2 (.tget oe 0))) [1,2,8] []
 (.call ⟨[(8,(bt bU gZ))],[]⟩ [] 121 206 [r0,r1,cS,r3]
 (.next ⟨[(1,wq)],[]⟩))
 (.call ⟨[(8,(bt jL gZ))],[]⟩ [] 132 206 [r0,wq,r2,r3]
 (.next ⟨[(2,cS)],[]⟩))
 (.next ⟨[],[]⟩))))))))))))))
 (.next ⟨[],[]⟩))
def awJ (b:Nat→PC):PT:=
 (.brk ⟨[(9,pT),(8,pT)],[]⟩
(aqz b)
 (.next ⟨[],[]⟩))
def ald (b:Nat→PC):PT×List (Shp×PT):=(awJ b,[(.lp 0 [] [] [1,2,3,8,9] [],at0 b)])
theorem asq:yy.map told=some (ald (av yy)):=by kernel_rfl
theorem TB:yy=some Od:=aC asq
noncomputable def yx:Option PC:=aA {ctx with fr:=[6,7],nh:=[]} Tryz.f246 ((ae af 246).getD default) []
noncomputable def Oc:PC:=ay yx
def aqx (b:Nat→PC):PC:=.block 2 [7,16,17,18,19,30] [] (.loop [7] [] (b 0))
def aqy (b:Nat→PC):PC:=.block 0 [6,10,11,12] [] (.loop [6] [] (b 1))
def atY (b:Nat→PC):PT:=
 (.chk (.nt (.an (.an (be r7 r1) pT) (.nt (aq r0 r7))))
 (.chk (.nt (.an (.an (be r7 r1) pT) (.nt (aq r0 v7))))
 (.call ⟨[(19,(be r7 r1)),(18,(be r7 r1)),(17,r1),(16,r7)],[]⟩ [(19,true)] 29 252 [(pn r0 r7),(pn r0 v7)]
 (.ite (.pick fX m4 pF)
 (.chk (aq r0 v7)
 (.chk (aq r0 r7)
 (.chk pF
 (.chk pF
 (.next ⟨[(7,v7)],[]⟩)))))
 (.exit 2 ⟨[(30,(.pick fX m4 pF))],[]⟩)))))
def atZ (b:Nat→PC):PT:=
 (.ite (ak r6 r2)
 (.blockS ⟨[(12,(ak r6 r2)),(11,r2),(10,r6)],[]⟩ 1 [7,15,16,17,18,19,30] []
 (.brk ⟨[(7,r6)],[]⟩
(aqx b)
 (.next ⟨[],[]⟩))
 (.next ⟨[(6,(aH r6 (pi 1)))],[]⟩))
 (.exit 0 ⟨[(10,r6),(11,r2),(12,(ak r6 r2))],[]⟩))
def awI (b:Nat→PC):PT:=
 (.brk ⟨[(6,(aH r1 (pi 1)))],[]⟩
(aqy b)
 (.ret (.tup [])))
def alc (b:Nat→PC):PT×List (Shp×PT):=(awI b,[(.lp 2 [7,16,17,18,19,30] [] [7] [],atY b),(.lp 0 [6,10,11,12] [] [6] [],atZ b)])
theorem asp:yx.map told=some (alc (av yx)):=by kernel_rfl
theorem TA:yx=some Oc:=aC asp
noncomputable def CO:Option PC:=aA {ctx with fr:=[4],nh:=[]} Tryz.f252 ((ae af 252).getD default) []
noncomputable def aac:PC:=ay CO
def avt:PT:=
 (.call ⟨[],[]⟩ [] 6 228 [r0]
 (.call ⟨[(7,r6)],[]⟩ [(7,true)] 9 228 [r1]
 (.ret (.pick (.pick r7 (.nt r9) pF) pT (ak r0 r1)))))
def ajY (b:Nat→PC):PT×List (Shp×PT):=(avt,[])
theorem asi:CO.map told=some (ajY (av CO)):=by kernel_rfl
theorem ago:CO=some aac:=aC asi
noncomputable def CP:Option PC:=aA {ctx with fr:=[2],nh:=[]} Tryz.f228 ((ae af 228).getD default) []
noncomputable def aad:PC:=ay CP
def avu:PT:=
 (.ret (aO r0 r0))
def ajZ (b:Nat→PC):PT×List (Shp×PT):=(avu,[])
theorem asj:CP.map told=some (ajZ (av CP)):=by kernel_rfl
theorem agp:CP=some aad:=aC asj
noncomputable def yo:Option PC:=aA {ctx with fr:=[2,3,4,5],nh:=[]} Tryz.f140 ((ae af 140).getD default) []
noncomputable def N9:PC:=ay yo
def aqo (b:Nat→PC):PC:=.block 2 [3,5,29,30,31,32] [] (.loop [3,5] [] (b 0))
def aqp (b:Nat→PC):PC:=.block 0 [2,3,10,11,12,13] [] (.loop [2,3] [] (b 1))
def atW (b:Nat→PC):PT:=
 (.ite (ak r5 (.llen r4))
 (.chk (aq r4 r5)
 (.chk (aq r4 (bh r5 (pi 1)))
 (.ite (aO (pn r4 r5) (pn r4 (bh r5 (pi 1))))
 (.chk (aq r0 r3)
 (.chk pF
 (.next ⟨[(3,nW),(5,nV)],[]⟩)))
 (.next ⟨[(5,nV)],[]⟩))))
 (.exit 2 ⟨[(29,r5),(30,r4),(31,(.llen r4)),(32,(ak r5 (.llen r4)))],[]⟩))
def atX (b:Nat→PC):PT:=
 (.ite (ak r3 (.llen r0))
 (.blockS ⟨[(13,(ak r3 (.llen r0))),(12,(.llen r0)),(11,r0),(10,r3)],[]⟩ 1 [2,3,16,17,18,19,20,21,22,23,24,25] []
 (.chk (aq r0 r3)
 (.chk (aq r0 (bh r3 (pi 1)))
 (.iteS ⟨[],[]⟩ (aw (pn r0 r3) (pn r0 (bh r3 (pi 1)))) [2,3] []
 (.chk (.slok r0 r3 (.llen r0))
 (.brk ⟨[(5,(pi 1)),(4,(.slc r0 r3 (.llen r0)))],[]⟩
(aqo b)
 (.chk (.slok r0 r3 (.llen r0))
 (.chk pF
 (.chk (.slok r0 (pi 0) r3)
 (.ret (.slc r0 (pi 0) r3)))))))
 (.next ⟨[],[]⟩)
 (.next ⟨[],[]⟩))))
 (.next ⟨[(3,nW)],[]⟩))
 (.exit 0 ⟨[(10,r3),(11,r0),(12,(.llen r0)),(13,(ak r3 (.llen r0)))],[]⟩))
def awv (b:Nat→PC):PT:=
 (.ite (ak (.llen r0) (pi 2))
 (.ret r0)
 (.brk ⟨[(3,(pi 1)),(2,pL)],[]⟩
(aqp b)
 (.ret r0)))
def akZ (b:Nat→PC):PT×List (Shp×PT):=(awv b,[(.lp 2 [3,5,29,30,31,32] [] [3,5] [],atW b),(.lp 0 [2,3,10,11,12,13] [] [2,3] [],atX b)])
theorem asn:yo.map told=some (akZ (av yo)):=by kernel_rfl
theorem Tt:yo=some N9:=aC asn
noncomputable def xV:Option PC:=aA {ctx with fr:=[4,5],nh:=[]} Tryz.f34 ((ae af 34).getD default) []
noncomputable def Gm:PC:=ay xV
noncomputable def Jv:Nat→PC:=bz xV
def apX (b:Nat→PC):PC:=.block 0 [4,5,11,12,13,14] [] (.loop [4,5] [] (b 0))
def HU (b:Nat→PC):PT:=
 (.ite (ak r5 (.llen r0))
 (.chk (aq r0 r5)
 (.chk (aq r1 r5)
 (.ite (aO (pn r0 r5) (pn r1 r5))
 (.ret pF)
 (.next ⟨[(5,nV)],[]⟩))))
 (.exit 0 ⟨[(11,r5),(12,r0),(13,(.llen r0)),(14,(ak r5 (.llen r0)))],[]⟩))
def QS (b:Nat→PC):PT:=
 (.ite (aO (.llen r0) (.llen r1))
 (.ret pF)
 (.brk ⟨[(5,(pi 0)),(4,pF)],[]⟩
(apX b)
 (.ret pT)))
def akw (b:Nat→PC):PT×List (Shp×PT):=(QS b,[(.lp 0 [4,5,11,12,13,14] [] [4,5] [],HU b)])
theorem NC:xV.map told=some (akw (av xV)):=by kernel_rfl
theorem av3:tree Gm=QS Jv:=aJ NC
theorem aa2:round 0 [4,5,11,12,13,14] [] [4,5] [] (Jv 0)=HU Jv:=br NC 0 fun _=>rfl
theorem agS:xV=some Gm:=aC NC
noncomputable def Cy:Option PC:=aA {ctx with fr:=[6,7],nh:=[]} Tryz.f29 ((ae af 29).getD default) [3,5]
noncomputable def FA:PC:=ay Cy
def Qc:PT:=
 (.call ⟨[],[(5,(.mk [r2])),(3,(.mk [r0]))]⟩ [] 11 84 [ko,(au 24 (.mk [r2]))]
 (.ite (aw (.llen (.tget aU 1)) (pi 0))
 (.ret pL)
 (.call ⟨[],[]⟩ [] 20 85 [(au 8 o3),r1,(au 24 (.setc o5 0 (.tget aU 0)))]
 (.ret dD))))
def ajE (b:Nat→PC):PT×List (Shp×PT):=(Qc,[])
theorem YN:Cy.map told=some (ajE (av Cy)):=by kernel_rfl
theorem avc:tree FA=Qc:=aJ YN
theorem af5:Cy=some FA:=aC YN
noncomputable def Cu:Option PC:=aA {ctx with fr:=[8,9,10,11],nh:=[]} Tryz.f41 ((ae af 41).getD default) [4,6]
noncomputable def Fx:PC:=ay Cu
def P9:PT:=
 (.call ⟨[],[(6,(.mk [r2])),(4,(.mk [r0]))]⟩ [] 14 30 [(au 19 (.mk [r2])),r3]
 (.ite (aw (.llen (pc (.setc o6 0 cS) 15)) (pi 0))
 (.ret (pi (-1)))
 (.call ⟨[],[(6,(.setc o6 0 cS))]⟩ [] 23 50 [(au 8 o4),r1,(pi 6),(au 19 (.setc o6 0 cS)),r3]
 (.call ⟨[],[]⟩ [] 24 48 [kp]
 (.call ⟨[(29,(au 15 o6)),(27,(au 8 o4)),(9,(.mx m0 (pi 0)))],[]⟩ [] 31 109 [(au 19 o6)]
 (.call ⟨[],[]⟩ [] 33 108 [eX,m4,q5,r9]
 (.ite (aO (.tget q6 1) (pi 0))
 (.ret (pi (-1)))
 (.ret (.tget q6 0)))))))))
def ajB (b:Nat→PC):PT×List (Shp×PT):=(P9,[])
theorem YK:Cu.map told=some (ajB (av Cu)):=by kernel_rfl
theorem au9:tree Fx=P9:=aJ YK
theorem af2:Cu=some Fx:=aC YK
noncomputable def Ct:Option PC:=aA {ctx with fr:=[],nh:=[]} Tryz.f50 ((ae af 50).getD default) [5,8,77832,10]
noncomputable def Fw:PC:=ay Ct
def P8:PT:=
 (.call ⟨[],[(10,nZ)]⟩ [] 18 28 [ko,r1,r2,(.mk [(.mk [(pc gY 0),(pc gY 1),(pc gY 2),(pc gY 3),(pc gY 4),(pc gY 5),(pc gY 6),(pc gY 7),(pc gY 8),(pc gY 9),(pc gY 10),(pc gY 11),(pc gY 12),(pc gY 13),(pc gY 14),(pc gY 15),(pc gY 16),(pc gY 17),pL]),(pi 0),(pi (-1)),(pi (-1)),(pi (-1)),r4])]
 (.ret (au 5 (.setc bk 0 gZ))))
def ajA (b:Nat→PC):PT×List (Shp×PT):=(P8,[])
theorem YJ:Ct.map told=some (ajA (av Ct)):=by kernel_rfl
theorem au8:tree Fw=P8:=aJ YJ
theorem af1:Ct=some Fw:=aC YJ
noncomputable def ym:Option PC:=aA {ctx with fr:=[2,4],nh:=[]} Tryz.f109 ((ae af 109).getD default) [1,3,6,8]
noncomputable def GM:PC:=ay ym
noncomputable def xp:Nat→PC:=bz ym
def aqm (b:Nat→PC):PC:=.block 0 [3,16,17] [3] (.loop [3,16] [3] (b 0))
def aqn (b:Nat→PC):PC:=.block 2 [2,3,36,37] [3] (.loop [2,3,36] [3] (b 1))
def BB (b:Nat→PC):PT:=
 (.ite (ak bU gm)
 (.chk (aq cS bU)
 (.ite (.pick (aw r4 (pi 1)) (aw (pc (.setc z9 0 nY) 0) (pi 1)) pF)
 (.chk (bM (.llen (.app o3 (.lst [(pc (.setc z9 0 nY) 6)]))) cG)
 (.next ⟨[(3,pN),(16,(aH bU (pi 1)))],[(3,(.app o3 (.lst [(pc (.setc z9 0 nY) 6)])))]⟩))
 (.next ⟨[(16,(aH bU (pi 1)))],[]⟩)))
 (.exit 0 ⟨[(17,(ak bU gm))],[]⟩))
def tJ (b:Nat→PC):PT:=
 (.ite (ak iL wx)
 (.chk (aq r34 iL)
 (.ite (.pick (aw r4 (pi 0)) (aw (pc AT 0) (pi 2)) pF)
 (.ret (pc AT 6))
 (.ite (.pick (aw r4 (pi 1)) (aw (pc AT 0) (pi 1)) pF)
 (.chk (bM (.llen (.app o3 (.lst [(pc AT 6)]))) cG)
 (.next ⟨[(3,pN),(36,(aH iL (pi 1)))],[(3,(.app o3 (.lst [(pc AT 6)])))]⟩))
 (.next ⟨[(36,(aH iL (pi 1)))],[]⟩))))
 (.exit 2 ⟨[(37,(ak iL wx))],[]⟩))
def Rh (b:Nat→PC):PT:=
 (.brk ⟨[(16,(pi 0)),(15,(.llen (pc (.mk [r0]) 15))),(14,(pc (.mk [r0]) 15)),(4,tB),(3,pN),(2,(pi 0))],[(3,pL),(1,(.mk [r0]))]⟩
(aqm b)
 (.brk ⟨[(36,(pi 0)),(35,(.llen (pc o1 17))),(34,(pc o1 17))],[]⟩
(aqn b)
 (.ite (aw (.llen o3) (pi 0))
 (.ret (pi (-1)))
 (.call ⟨[],[]⟩ [] 66 182 [o3]
 (.ret ON)))))
def akU (b:Nat→PC):PT×List (Shp×PT):=(Rh b,[(.lp 0 [3,16,17] [3] [3,16] [3],BB b),(.lp 2 [2,3,36,37] [3] [2,3,36] [3],tJ b)])
theorem Fk:ym.map told=some (akU (av ym)):=by kernel_rfl
theorem awq:tree GM=Rh xp:=aJ Fk
theorem Pp:round 0 [3,16,17] [3] [3,16] [3] (xp 0)=BB xp:=br Fk 0 fun _=>rfl
theorem BC:round 2 [2,3,36,37] [3] [2,3,36] [3] (xp 1)=tJ xp:=br Fk 1 fun _=>rfl
theorem ahg:ym=some GM:=aC Fk
noncomputable def yu:Option PC:=aA {ctx with fr:=[2,3,4],nh:=[]} Tryz.f182 ((ae af 182).getD default) []
noncomputable def G2:PC:=ay yu
noncomputable def JM:Nat→PC:=bz yu
def WI (b:Nat→PC):PC:=.block 0 [3,4,12,13,14,15] [] (.loop [3,4] [] (b 0))
def H4 (b:Nat→PC):PT:=
 (.ite (ak r4 (.llen r0))
 (.chk (aq r0 r4)
 (.next ⟨[(3,(.mn r3 (pn r0 r4))),(4,(aH r4 (pi 1)))],[]⟩))
 (.exit 0 ⟨[(12,r4),(13,r0),(14,(.llen r0)),(15,(ak r4 (.llen r0)))],[]⟩))
def Rv (b:Nat→PC):PT:=
 (.ite (ak (.llen r0) (pi 1))
 (.chk (.nt pT)
 (.chk (.nt pT)
 (.chk (aq r0 (pi 0))
 (.brk ⟨[(4,(pi 1)),(3,(pn r0 (pi 0)))],[]⟩
(WI b)
 (.ret r3)))))
 (.chk (aq r0 (pi 0))
 (.brk ⟨[(4,(pi 1)),(3,(pn r0 (pi 0)))],[]⟩
(WI b)
 (.ret r3))))
def ala (b:Nat→PC):PT×List (Shp×PT):=(Rv b,[(.lp 0 [3,4,12,13,14,15] [] [3,4] [],H4 b)])
theorem NU:yu.map told=some (ala (av yu)):=by kernel_rfl
theorem awG:tree G2=Rv JM:=aJ NU
theorem aba:round 0 [3,4,12,13,14,15] [] [3,4] [] (JM 0)=H4 JM:=br NU 0 fun _=>rfl
theorem ahr:yu=some G2:=aC NU
noncomputable def Dj:Option PC:=aA {ctx with fr:=[8,9,15,39,58,74,11,12],nh:=[]} Tryz.f108 ((ae af 108).getD default) [4,5,10]
noncomputable def G3:PC:=ay Dj
def IF:PT:=
 (.blockS ⟨[],[(10,(.setc z3 0 (.mk [(pc (.mk [r1]) 5),(pc (.mk [r1]) 6),(pc (.mk [r1]) 7)]))),(5,(.mk [r1])),(4,(.mk [r0]))]⟩ 0 [8,9,15,16,17,18,19,25,26,32,33,38,39,40,41,42,43,47,48,52,53,57,58,59,60,61,65,66,69,70,73,74,75,76,77,80] []
 (.call ⟨[],[]⟩ [] 17 54 [(au 8 o4)]
 (.call ⟨[(19,(aO jL (pi 0)))],[]⟩ [(19,false)] 23 177 [(au 8 o4),(pc o5 9)]
 (.call ⟨[(26,(.pick fX pT (.nt kp)))],[]⟩ [(26,false)] 30 177 [(au 8 o4),(pc o5 10)]
 (.call ⟨[(33,(.pick kq pT (.nt wv)))],[]⟩ [(33,false)] 36 178 [(pc o5 8)]
 (.iteS ⟨[],[]⟩ (.pick q6 pT (.nt iL)) [8,9,39,40,41,42,43,47,48,52,53,57,58,59,60,61,65,66,69,70,73,74,75,76,77,80] []
 (.ret (.tup [(pi 0),(pi 1)]))
 (.iteS ⟨[],[]⟩ (.pick (.pick (.pick (ak (pc bk 0) (pi 0)) pT (bt (pc bk 0) (pi 5))) pT (ak (pc bk 2) (pi 0))) pT (bt (pc bk 2) (pi 2))) [8,9,58,59,60,61,65,66,69,70,73,74,75,76,77,80] []
 (.ret (.tup [(pi 0),(pi 1)]))
 (.call ⟨[(61,(aO r2 (pi (-1))))],[]⟩ [(61,true)] 63 178 [r2]
 (.iteS ⟨[],[]⟩ (.pick (.pick (.pick A1 (.nt OM) pF) pT (ak r3 (pi 0))) pT (be r3 (pi 20000))) [8,9,74,75,76,77,80] []
 (.ret (.tup [(pi 0),(pi 1)]))
 (.call ⟨[],[]⟩ [] 76 179 [(.mk [(pc bk 0),(pc bk 1),(pc bk 2)])]
 (.ite (.pick m8 (aw r2 (pi (-1))) pF)
 (.ret (.tup [(pi 0),(pi 4)]))
 (.next ⟨[],[]⟩)))
 (.next ⟨[],[]⟩)))
 (.next ⟨[],[]⟩))
 (.next ⟨[],[]⟩))))))
 (.call ⟨[],[]⟩ [] 85 180 [(au 8 o4),(au 15 o5),r2]
 (.ite (aO (.tget wB 1) (pi 0))
 (.ret (.tup [(pi 0),(.tget wB 1)]))
 (.call ⟨[(11,(.tget wB 0))],[]⟩ [] 92 178 [(.tget wB 0)]
 (.ite (.pick (.nt wC) pT (be (aH aU r3) (pi 100000)))
 (.ret (.tup [(pi 0),(pi 3)]))
 (.call ⟨[],[]⟩ [] 106 181 [(au 8 o4),(pc o5 10),(aH aU r3)]
 (.ret (.tup [(.tget aaK 0),(.tget aaK 1)]))))))))
def ale (b:Nat→PC):PT×List (Shp×PT):=(IF,[])
theorem ZI:Dj.map told=some (ale (av Dj)):=by kernel_rfl
theorem ab2:tree G3=IF:=aJ ZI
theorem ahs:Dj=some G3:=aC ZI
end Rm
