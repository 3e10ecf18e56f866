/-
  The functions of this seat, compiled (1).
-/
import Derived.Test.YtopjnikcppafdaaGreatDoorMAJ
import Derived.KernelRfl
set_option linter.defProp false
set_option linter.unusedVariables false
set_option maxRecDepth 100000
noncomputable section
namespace Rm
open Go Go.Proofs Cx
def JT:Option PC:=cF [12,13,15,16,17,18,19,20,21,22,23] [] Tryz.f3 3 [6,8,10,11,14]
def XL:PT:=
 (.call ⟨[],[(11,(.mk [r5])),(10,(.mk [r4])),(8,(.mk [r2])),(6,(.mk [r0]))]⟩ [] 24 5 []
 (.call ⟨[(13,nu)],[]⟩ [] 28 6 [(aA 8 o6),(aA 19 o8),G8]
 (.ite (.nt sr)
 (.ret db)
 (.call ⟨[],[]⟩ [] 35 7 [(aA 8 o6),(aA 19 o8),(aA 9 TZ)]
 (.ite (.pick (aJ (.tget oZ 1) (pi 0)) pT (.pick (peq (pc TZ 0) (pi 1)) (peq (pc o8 5) (pi 1)) pF))
 (.ret db)
 (.call ⟨[],[(14,(.setc tP 0 (.tget oZ 0)))]⟩ [] 59 8 [(aA 8 o6),r1,(aA 19 o8),r3,G8]
 (.call ⟨[(17,(.tget VE 1)),(16,(.tget VE 0))],[]⟩ [] 68 8 [(aA 8 o6),r1,(aA 19 o14),r3,G8]
 (.call ⟨[(19,(.tget NN 1)),(18,(.tget NN 0))],[]⟩ [] 77 9 [(aA 8 o6),r1,(aA 19 o8),r3,G8]
 (.call ⟨[(21,(.tget NO 1)),(20,(.tget NO 0))],[]⟩ [] 86 9 [(aA 8 o6),r1,(aA 19 o14),r3,G8]
 (.ret (.pick (.pick (.pick (.pick (.pick db (peq lf jk) pF) (peq iO (.tget NP 1)) pF) (bG cj cI) pF) (bG eI (.tget NP 0)) pF) (.pick (bG (pc TZ 6) r3) pT (.pick (peq cj cI) (peq eI (.tget NP 0)) pF)) pF)))))))))))
def agf:JT.map told=some (XL,[]):=by kernel_rfl
def ayq:tree (ab JT)=XL:=aT agf
def JW:Option PC:=cF [0,2,3,4,5,6,7,8,9,10,11,12,13] [] Tryz.f5 5 [1,17]
def XQ:PT:=
 (.call ⟨[],[]⟩ [] 14 17 []
 (.call ⟨[(16,(aA 8 ah9))],[(17,(.lst [(pi 0),(pi 1)])),(1,ah9)]⟩ [] 18 19 []
 (.call ⟨[],[]⟩ [] 19 18 [cj,ML,cI]
 (.call ⟨[(23,(aA 8 o1)),(3,(.tget jk 1)),(2,(.tget jk 0))],[]⟩ [] 24 20 [(pi 1000),(pi 0)]
 (.call ⟨[],[]⟩ [] 25 19 []
 (.call ⟨[],[]⟩ [] 26 9 [gG,(pi 0),nu,(pi 4),kH]
 (.call ⟨[(30,(aA 8 o1)),(5,(.tget lU 1)),(4,(.tget lU 0))],[]⟩ [] 31 20 [(pi 1000),(pi 0)]
 (.call ⟨[],[]⟩ [] 32 19 []
 (.call ⟨[],[]⟩ [] 33 8 [su,(pi 0),sv,(pi 4),tS]
 (.call ⟨[(37,(aA 8 o1)),(7,(.tget tT 1)),(6,(.tget tT 0))],[]⟩ [] 38 20 [(pi 1000),(pi 1)]
 (.call ⟨[],[]⟩ [] 39 19 []
 (.call ⟨[],[]⟩ [] 40 8 [mD,(pi 0),jD,(pi 4),qA]
 (.call ⟨[(44,(aA 8 o1)),(9,(.tget qB 1)),(8,(.tget qB 0))],[]⟩ [] 45 20 [(pi 600),(pi 1)]
 (.call ⟨[],[]⟩ [] 46 19 []
 (.call ⟨[],[]⟩ [] 47 9 [wY,(pi 0),sw,(pi 4),C8]
 (.call ⟨[(51,(aA 8 o1)),(11,(.tget C9 1)),(10,(.tget C9 0))],[]⟩ [] 52 20 [(pi 600),(pi 1)]
 (.call ⟨[],[]⟩ [] 53 19 []
 (.call ⟨[],[]⟩ [] 54 8 [ny,(pi 0),Da,(pi 4),VD]
 (.call ⟨[(79,(.pick (.pick (.pick (.pick (.pick (aJ r3 (pi 0)) pT (aJ r5 (pi 0))) pT (aJ r7 (pi 0))) pT (aJ r9 (pi 0))) pT (aJ bQ (pi 0))) pT (aJ (.tget mE 1) (pi 0)))),(12,(.tget mE 0))],[]⟩ [(79,false)] 81 21 [(.mk [(pi 0),pL])]
 (.ite (.pick r79 pT (aJ w6 (pi 1)))
 (.ret pF)
 (.call ⟨[(107,(aA 8 o1)),(106,(.pick (.pick (.pick (.pick (.pick (peq r2 (pi 50000000)) (peq r4 (pi 900)) pF) (peq r6 (pi 891)) pF) (peq r8 (pi 940)) pF) (peq dA (pi 770)) pF) (peq cm (pi 762)) pF))],[]⟩ [(106,true)] 108 20 [(pi 600),(pi 1)]
 (.call ⟨[],[]⟩ [(106,true)] 109 12 [av3,(pi 0),NK,(pi 4),(pi 601)]
 (.call ⟨[],[]⟩ [(106,true)] 111 22 [aik,(.lst [(pi 1)])]
 (.ret (.pick NJ av4 pF)))))))))))))))))))))))))
def agk:JW.map told=some (XQ,[]):=by kernel_rfl
def ayv:tree (ab JW)=XQ:=aT agk
def JV:Option PC:=cF [] [] Tryz.f17 17 [0,24576,28672,32768,1,12289,2,12290]
def XO:PT:=
 (.ret (.mk [(pc G3 0),(pc G3 1),(pc G3 2),(pc G3 3),(pc G3 4),pL,pL,pL]))
def agj:JV.map told=some (XO,[]):=by kernel_rfl
def ayt:tree (ab JV)=XO:=aT agj
def AO:Option PC:=cF [2] [] Tryz.f19 19 [0,1]
def PY:Nat->PC:=bn AO
variable(b:Nat->PC)
def asZ:PC:=.block 0 [2,4,5,6,7] [1] (.loop [2] [1] (b 0))
def NV (b:Nat->PC):PT:=
 (.ite (aj r2 (.llen o1))
 (.chk (aq o1 r2)
 (.next ⟨[(2,(aF r2 (pi 1)))],[(1,(.setn o1 r2 0 (.mk [(pi 1),(pi 1)])))]⟩))
 (.exit 0 ⟨[(4,r2),(5,r1),(6,(.llen o1)),(7,(aj r2 (.llen o1)))],[]⟩))
def XP:PT:=
 (.chk (.an (bk (pi 10) (pi 0)) (bG (pi 10) cO))
 (.chk (peq (pi 10) (pi 10))
 (.brk ⟨[(2,(pi 0)),(1,pN)],[(1,(.rep (pi 10) z2)),(0,(.con (.agg [(.int 0),(.list [])])))]⟩
(asZ b)
 (.chk (aq o1 (pi 3))
 (.chk (aq (.setn o1 (pi 3) 0 (.mk [(pi 1),(pi 10)])) (pi 5))
 (.ret (.mk [(pc aib 0),(pc aib 1)])))))))
def aod:PT×List (Shp×PT):=(XP b,[(.lp 0 [2,4,5,6,7] [1] [2] [1],NV b)])
def Uc:AO.map told=some (aod (bt AO)):=by kernel_rfl
def ayu:tree (ab AO)=XP PY:=bH Uc
def aiy:round 0 [2,4,5,6,7] [1] [2] [1] (PY 0)=NV PY:=bm Uc 0 λ_=>rfl
def AT:Option PC:=cF [6,7,8,9,10] [] Tryz.f18 18 [3,5]
def P3:Nat->PC:=bn AT
def as6:PC:=.block 0 [8,16,17] [] (.loop [8,16] [] (b 0))
def Hs (b:Nat->PC):PT:=
 (.ite (aj cj dB)
 (.chk (aq cu cj)
 (.chk (.nt (.an (.an (aW cj (pi 0)) (.an (.nt (.pick (.pick r8 pT (aj mC (pi 0))) pT (bk mC ns))) pT)) (.nt (aq r1 (bq cj (pi 1))))))
 (.next ⟨[(8,(.pick (.pick (.pick r8 pT (aj mC (pi 0))) pT (bk mC ns)) pT (.pick (aW cj (pi 0)) (bk (pn r1 (bq cj (pi 1))) mC) pF))),(16,(aF cj (pi 1)))],[]⟩)))
 (.exit 0 ⟨[(17,(aj cj dB))],[]⟩))
def X8:PT:=
 (.call ⟨[],[(5,(.mk [r2])),(3,(.mk [r0]))]⟩ [] 12 21 [(.mk [(pc (.mk [r2]) 0),(pc (.mk [r2]) 1)])]
 (.brk ⟨[(16,(pi 0)),(15,(.llen r1)),(14,r1),(8,(aJ cm (pi 0)))],[]⟩
(as6 b)
 (.ite r8
 (.ret (.tup [(pi 0),(pi 1)]))
 (.call ⟨[],[]⟩ [] 51 36 [(aA 8 o3),r1,(.mk [(pc o5 0),(pc o5 1)])]
 (.ret (.tup [ny,(pi 0)]))))))
def aoj:PT×List (Shp×PT):=(X8 b,[(.lp 0 [8,16,17] [] [8,16] [],Hs b)])
def Uh:AT.map told=some (aoj (bt AT)):=by kernel_rfl
def ayO:tree (ab AT)=X8 P3:=bH Uh
def VV:round 0 [8,16,17] [] [8,16] [] (P3 0)=Hs P3:=bm Uh 0 λ_=>rfl
def J9:Option PC:=cF [2,3] [] Tryz.f21 21 [1]
def DC:PT:=
 (.call ⟨[(18,(.pick (.pick (aj j5 (pi 0)) pT (aW j5 (pi 1000))) pT (aJ (.llen mz) (pi 10))))],[]⟩ [(18,false)] 22 48 [mz,(.con (.clo 47 []))]
 (.ite (.pick cI pT qz)
 (.ret (pi 1))
 (.ret (pi 0))))
def agy:J9.map told=some (DC,[]):=by kernel_rfl
def ayQ:tree (ab J9)=DC:=aT agy
def Ka:Option PC:=cF [2] [] Tryz.f47 47 [1]
def X9:PT:=
 (.ret (.pick (.pick (.pick (aj mz (pi 1)) pT (aW mz (pi 1073741824))) pT (aj j5 (pi 0))) pT (aW j5 mz)))
def agz:Ka.map told=some (X9,[]):=by kernel_rfl
def ayP:tree (ab Ka)=X9:=aT agz
def Ky:Option PC:=cF [4] [] Tryz.f48 48 []
def Za:PT:=
 (.call ⟨[],[]⟩ [] 7 88 [r0,r1]
 (.ret (bk r7 (pi 0))))
def agX:Ky.map told=some (Za,[]):=by kernel_rfl
def azK:tree (ab Ky)=Za:=aT agX
def Bq:Option PC:=cF [4,5] [] Tryz.f88 88 []
def Qo:Nat->PC:=bn Bq
def atY:PC:=.block 0 [4,8,9] [] (.loop [4,8] [] (b 0))
def H8 (b:Nat->PC):PT:=
 (.ite (aj r8 r7)
 (.blockS ⟨[],[]⟩ 1 [4,5,10,11,12,13,14,15,16] []
 (.chk (aq r0 r8)
 (.callc ⟨[(5,r8)],[]⟩ [] 16 r1 [(pn r0 r8)]
 (.ite cj
 (.ret r5)
 (.next ⟨[],[]⟩))))
 (.next ⟨[(8,vg)],[]⟩))
 (.exit 0 ⟨[(9,(aj r8 r7))],[]⟩))
def Zf:PT:=
 (.brk ⟨[(8,(pi 0)),(7,(.llen r0)),(4,(pi 0))],[]⟩
(atY b)
 (.ret (pi (-1))))
def aoS:PT×List (Shp×PT):=(Zf b,[(.lp 0 [4,8,9] [] [4,8] [],H8 b)])
def UC:Bq.map told=some (aoS (bt Bq)):=by kernel_rfl
def azP:tree (ab Bq)=Zf Qo:=bH UC
def Wu:round 0 [4,8,9] [] [4,8] [] (Qo 0)=H8 Qo:=bm UC 0 λ_=>rfl
def AV:Option PC:=cF [6,7,9] [] Tryz.f36 36 [3,5,1,10]
def P5:Nat->PC:=bn AV
def as8:PC:=.block 0 [7,18,19] [] (.loop [7,18] [] (b 0))
def N1 (b:Nat->PC):PT:=
 (.ite (aj cI lf)
 (.chk (aq o1 cI)
 (.chk (aq (pc o3 2) (pn o1 cI))
 (.chk (aq (pc o5 1) (pc (pn (pc o3 2) (pn o1 cI)) 0))
 (.chk (aJ (pc ND 1) (pi 0))
 (.next ⟨[(7,(.ai .quo .i64 (bq (aF (.ai .mul .i64 r7 (pc ND 0)) (pc ND 1)) (pi 1)) (pc ND 1))),(18,(aF cI (pi 1)))],[]⟩)))))
 (.exit 0 ⟨[(19,(aj cI lf))],[]⟩))
def Yd:PT:=
 (.call ⟨[],[(5,(.mk [r2])),(3,(.mk [r0]))]⟩ [] 12 73 [r1]
 (.mcall ⟨[],[(3,(aA 8 o3)),(1,cm)]⟩ 1000000013 74 [pN,(.clo 75 [(.ref (aA 8 o3))]),cm]
 (.brk ⟨[(18,(pi 0)),(17,(.llen GV)),(7,wV)],[(1,GV)]⟩
(as8 b)
 (.ret r7))))
def aol:PT×List (Shp×PT):=(Yd b,[(.lp 0 [7,18,19] [] [7,18] [],N1 b)])
def Uj:AV.map told=some (aol (bt AV)):=by kernel_rfl
def ayW:tree (ab AV)=Yd P5:=bH Uj
def aiE:round 0 [7,18,19] [] [7,18] [] (P5 0)=N1 P5:=bm Uj 0 λ_=>rfl
def QK:Option PC:=cF [5] [] Tryz.f75 75 []
def ayV:PT:=
 (.chk (aq (pc (.deref r2) 2) r0)
 (.chk (aq (pc (.deref r2) 2) r1)
 (.ret (bq (pc (pn (pc (.deref r2) 2) r0) 0) (pc (pn (pc (.deref r2) 2) r1) 0)))))
def auH:QK.map told=some (ayV,[]):=by kernel_rfl
def JU:Option PC:=cF [] [] Tryz.f20 20 [4,69636,73732,5,6,7]
def XM:PT:=
 (.ret (.mk [(pc kZ 0),(pc kZ 1),(pc kZ 2),(pc kZ 3),(pc kZ 4),(pc kZ 5),(pc kZ 6),(pc kZ 7),(pc kZ 8),(pc kZ 9),(pc kZ 10),(pc kZ 11),(pc kZ 12),(pc kZ 13),(pc kZ 14),(pc kZ 15),pL,pL,(pc kZ 18)]))
def agh:JU.map told=some (XM,[]):=by kernel_rfl
def ayr:tree (ab JU)=XM:=aT agh
def AU:Option PC:=cF [10,11,13,14,15,18,19,20] [] Tryz.f9 9 [5,7,9,12,17,52]
def P4:Nat->PC:=bn AU
def as7:PC:=.block 0 [13,14,15,39,40] [] (.loop [13,14,15,39] [] (b 0))
def N0 (b:Nat->PC):PT:=
 (.ite (aj qA jD)
 (.blockS ⟨[],[]⟩ 1 [13,14,15,17,41,42,43,44,45,46] [17]
 (.chk (aq T2 qA)
 (.ite (bG (pc Vn 5) dB)
 (.exit 1 ⟨[],[]⟩)
 (.call ⟨[(47,(aA 8 o5))],[(17,Vn)]⟩ [] 52 37 [(aA 8 o5),T2,(pc Vn 5)]
 (.call ⟨[],[]⟩ [] 54 36 [C9,Da,(.mk [(pc o9 0),(pc o9 1)])]
 (.chk (aJ wV (pi 0))
 (.next ⟨[(15,(pc ML 5)),(14,(.ai .rem .i64 ahS wV)),(13,(aF (aF db (.ai .mul .i64 (.ai .quo .i64 (bq (pc ML 5) dB) wV) (bq wV mE))) (.ai .quo .i64 ahS wV)))],[]⟩))))))
 (.next ⟨[(39,(aF qA (pi 1)))],[]⟩))
 (.exit 0 ⟨[(40,(aj qA jD))],[]⟩))
def Yc:PT:=
 (.call ⟨[],[(9,(.mk [r4])),(7,(.mk [r2])),(5,(.mk [r0]))]⟩ [] 22 21 [(.mk [(pc (.mk [r4]) 0),(pc (.mk [r4]) 1)])]
 (.call ⟨[(24,(aJ qz (pi 0)))],[]⟩ [(24,false)] 27 32 [(aA 8 o5),r1]
 (.ite (.pick nu pT (.nt eJ))
 (.ret (.tup [(pi 0),(pi 1)]))
 (.call ⟨[],[]⟩ [] 34 33 [(aA 8 o5),r1,(aA 19 o7),r3]
 (.mcall ⟨[(12,pN)],[(12,Hd)]⟩ 1000000013 34 [pN,(.con (.clo 35 [])),Hd]
 (.brk ⟨[(39,(pi 0)),(38,(.llen GV)),(15,(pi 0)),(14,(pi 0)),(13,(pi 0))],[(12,GV)]⟩
(as7 b)
 (.ret (.tup [db,(pi 0)]))))))))
def aok:PT×List (Shp×PT):=(Yc b,[(.lp 0 [13,14,15,39,40] [] [13,14,15,39] [],N0 b)])
def Ui:AU.map told=some (aok (bt AU)):=by kernel_rfl
def ayU:tree (ab AU)=Yc P4:=bH Ui
def aiD:round 0 [13,14,15,39,40] [] [13,14,15,39] [] (P4 0)=N0 P4:=bm Ui 0 λ_=>rfl
def Kd:Option PC:=cF [4] [] Tryz.f32 32 [2]
def Yf:PT:=
 (.ret (.pick (bk r1 (pi 0)) (aj r1 GX) pF))
def agD:Kd.map told=some (Yf,[]):=by kernel_rfl
def ayY:tree (ab Kd)=Yf:=aT agD
def Ke:Option PC:=cF [] [] Tryz.f33 33 [4,6,8]
def Yg:PT:=
 (.call ⟨[],[]⟩ [] 13 10 [j4,r1,G0,r3]
 (.call ⟨[],[]⟩ [] 14 69 [db,(.con (.clo 70 []))]
 (.ret cu)))
def agF:Ke.map told=some (Yg,[]):=by kernel_rfl
def ay0:tree (ab Ke)=Yg:=aT agF
def AG:Option PC:=cF [11] [] Tryz.f10 10 [4,6,8,9,10,28]
def PO:Nat->PC:=bn AG
def asS:PC:=.block 0 [10,21,22] [10] (.loop [10,21] [10] (b 0))
def NT (b:Nat->PC):PT:=
 (.ite (aj iO eI)
 (.blockS ⟨[],[]⟩ 1 [10,11,23,25,26,27,28,29] [10,28]
 (.call ⟨[],[]⟩ [] 27 39 [(aA 31 o9),iO]
 (.chk (bG (.llen (.app cd (.lst [eJ]))) cO)
 (.next ⟨[(10,pN)],[(10,(.app cd (.lst [eJ])))]⟩)))
 (.next ⟨[(21,(aF iO (pi 1)))],[]⟩))
 (.exit 0 ⟨[(22,(aj iO eI))],[]⟩))
def Xq:PT:=
 (.call ⟨[],[]⟩ [] 16 38 [j4,r1,G0,r3]
 (.brk ⟨[(21,(pi 0)),(20,(.llen (pc (.setc Vr 0 cj) 25))),(10,pN)],[(10,pL),(9,(.setc Vr 0 cj))]⟩
(asS b)
 (.ret cd)))
def an4:PT×List (Shp×PT):=(Xq b,[(.lp 0 [10,21,22] [10] [10,21] [10],NT b)])
def T4:AG.map told=some (an4 (bt AG)):=by kernel_rfl
def ax2:tree (ab AG)=Xq PO:=bH T4
def aiw:round 0 [10,21,22] [10] [10,21] [10] (PO 0)=NT PO:=bm T4 0 λ_=>rfl
def JE:Option PC:=cF [] [] Tryz.f38 38 [4,6,8,9]
def Xs:PT:=
 (.call ⟨[],[(8,Vr),(4,(.mk [r0]))]⟩ [] 12 62 [G0,r3]
 (.call ⟨[(16,(aA 19 (.setc tP 0 cm))),(15,r3),(14,r1),(13,(aA 8 o4))],[(9,(.setc tP 0 cm))]⟩ [] 21 64 [(aA 8 o4),r1,(pi 0),(aA 19 (.setc tP 0 cm)),r3]
 (.call ⟨[],[]⟩ [] 22 78 [iO]
 (.call ⟨[],[]⟩ [] 27 30 [(aA 8 o4),r1,(aA 19 o9),r3]
 (.ret (aA 31 (.setc o8 0 (.mk [db,cu,dB,cj,qz,eJ]))))))))
def afX:JE.map told=some (Xs,[]):=by kernel_rfl
def ax4:tree (ab JE)=Xs:=aT afX
def Bk:Option PC:=cF [1000004,1000005] [] Tryz.f62 62 [2,4,65540,69636,73732,77828,5,65541,69637,73733,77829,7,31,9,49,11,13]
def uy:Nat->PC:=bn Bk
def atM:PC:=.block 0 [20,21] [65541,5] (.loop [20] [65541,5] (b 0))
def atN:PC:=.block 2 [38,39] [73733,5] (.loop [38] [73733,5] (b 1))
def atO:PC:=.block 4 [56,57] [5,69637] (.loop [56] [5,69637] (b 2))
def atP:PC:=.block 6 [76,77] [5,77829] (.loop [76] [5,77829] (b 3))
def HZ (b:Nat->PC):PT:=
 (.ite (aj eI jk)
 (.chk (aq cI eI)
 (.ite (aW (pc (.setc z9 0 (pn cI eI)) 6) r1)
 (.exit 0 ⟨[(21,(aj eI jk))],[]⟩)
 (.chk (bG (.llen (.app (.o 65541) (.lst [(aA 9 (.setc z9 0 (pn cI eI)))]))) cO)
 (.next ⟨[(20,(aF eI (pi 1)))],[(65541,(.app (.o 65541) (.lst [(aA 9 (.setc z9 0 (pn cI eI)))]))),(5,(.setc o5 15 pN))]⟩))))
 (.exit 0 ⟨[(21,(aj eI jk))],[]⟩))
def H0 (b:Nat->PC):PT:=
 (.ite (aj jD mD)
 (.chk (aq lg jD)
 (.ite (aW (pc (.setc z9 0 (pn lg jD)) 6) r1)
 (.exit 2 ⟨[(39,(aj jD mD))],[]⟩)
 (.chk (bG (.llen (.app (.o 73733) (.lst [(aA 9 (.setc z9 0 (pn lg jD)))]))) cO)
 (.next ⟨[(38,(aF jD (pi 1)))],[(73733,(.app (.o 73733) (.lst [(aA 9 (.setc z9 0 (pn lg jD)))]))),(5,(.setc o5 17 pN))]⟩))))
 (.exit 2 ⟨[(39,(aj jD mD))],[]⟩))
def H2 (b:Nat->PC):PT:=
 (.ite (aj tV Db)
 (.chk (aq mE tV)
 (.ite (bG (pc (.setc z2 0 (pn mE tV)) 0) (.llen (.o 65541)))
 (.chk (bG (.llen aih) cO)
 (.next ⟨[(56,(aF tV (pi 1)))],[(5,(.setc o5 16 pN)),(69637,aih)]⟩))
 (.next ⟨[(56,(aF tV (pi 1)))],[]⟩)))
 (.exit 4 ⟨[(57,(aj tV Db))],[]⟩))
def H3 (b:Nat->PC):PT:=
 (.ite (aj vi VG)
 (.blockS ⟨[],[]⟩ 7 [13,78,79,80,81,82,83,84,85] [13,77829,5]
 (.chk (aq VF vi)
 (.call ⟨[],[(13,(.setc z3 0 (pn VF vi)))]⟩ [] 85 102 [(pc (.setc z3 0 (pn VF vi)) 1),(.llen (.o 65541))]
 (.ite Hj
 (.chk (bG (.llen ah1) cO)
 (.next ⟨[],[(77829,ah1),(5,(.setc o5 18 pN))]⟩))
 (.next ⟨[],[]⟩))))
 (.next ⟨[(76,(aF vi (pi 1)))],[]⟩))
 (.exit 6 ⟨[(77,(aj vi VG))],[]⟩))
def YS:PT:=
 (.brk ⟨[(20,(pi 0)),(19,(.llen sf)),(18,sf)],[(77829,pL),(73733,pL),(69637,pL),(65541,pL),(5,(.setc tP 0 (.mk [(aA 15 (.mk [r0])),pL,pL,pL,pL]))),(4,tP),(2,(.mk [r0]))]⟩
(atM b)
 (.brk ⟨[(38,(pi 0)),(37,(.llen (pc o2 17))),(36,(pc o2 17))],[]⟩
(atN b)
 (.brk ⟨[(56,(pi 0)),(55,(.llen (pc o2 16))),(54,(pc o2 16))],[]⟩
(atO b)
 (.brk ⟨[(76,(pi 0)),(75,(.llen (pc o2 18))),(74,(pc o2 18))],[]⟩
(atP b)
 (.ret (.mk [(pc mB 0),(pc mB 1),(pc mB 2),(pc mB 3),(pc mB 4),(pc mB 5),(pc mB 6),(pc mB 7),(pc mB 8),(pc mB 9),(pc mB 10),(pc mB 11),(pc mB 12),(pc mB 13),(pc mB 14),(.o 65541),(.o 69637),(.o 73733),(.o 77829)]))))))
def aoM:PT×List (Shp×PT):=(YS b,[(.lp 0 [20,21] [65541,5] [20] [65541,5],HZ b),(.lp 2 [38,39] [73733,5] [38] [73733,5],H0 b),(.lp 4 [56,57] [5,69637] [56] [5,69637],H2 b),(.lp 6 [76,77] [5,77829] [76] [5,77829],H3 b)])
def CN:Bk.map told=some (aoM (bt Bk)):=by kernel_rfl
def azB:tree (ab Bk)=YS uy:=bH CN
def Wl:round 0 [20,21] [65541,5] [20] [65541,5] (uy 0)=HZ uy:=bm CN 0 λ_=>rfl
def Wm:round 2 [38,39] [73733,5] [38] [73733,5] (uy 1)=H0 uy:=bm CN 1 λ_=>rfl
def Wn:round 4 [56,57] [5,69637] [56] [5,69637] (uy 2)=H2 uy:=bm CN 2 λ_=>rfl
def Wo:round 6 [76,77] [5,77829] [76] [5,77829] (uy 3)=H3 uy:=bm CN 3 λ_=>rfl
def Kv:Option PC:=cF [4] [] Tryz.f102 102 []
def YX:PT:=
 (.ret Vo)
def agV:Kv.map told=some (YX,[]):=by kernel_rfl
def azH:tree (ab Kv)=YX:=aT agV
def Jw:Option PC:=cF [] [] Tryz.f64 64 [5,8,77832,10]
def Xj:PT:=
 (.call ⟨[],[(10,C5)]⟩ [] 18 103 [j4,r1,r2,(.mk [(.mk [(pc kF 0),(pc kF 1),(pc kF 2),(pc kF 3),(pc kF 4),(pc kF 5),(pc kF 6),(pc kF 7),(pc kF 8),(pc kF 9),(pc kF 10),(pc kF 11),(pc kF 12),(pc kF 13),(pc kF 14),(pc kF 15),(pc kF 16),(pc kF 17),pL]),(pi 0),(pi (-1)),(pi (-1)),(pi (-1)),r4])]
 (.ret (aA 5 (.setc cd 0 cI))))
def afP:Jw.map told=some (Xj,[]):=by kernel_rfl
def axU:tree (ab Jw)=Xj:=aT afP
def Jv:Option PC:=cF [10] [] Tryz.f103 103 [4,7,8,9]
def Xi:PT:=
 (.call ⟨[],[(8,C5),(4,(.mk [r0]))]⟩ [] 16 144 [j4,r1,r2,(aA 24 (.mk [r3]))]
 (.iteS ⟨[(10,(.tget cj 1))],[(9,(.setc C5 0 (.tget cj 0)))]⟩ (aJ (pc (.setc C5 0 (.tget cj 0)) 2) (pi (-1))) [] [9]
 (.chk (aq (pc o4 4) (pc o9 2))
 (.call ⟨[],[]⟩ [] 31 145 [(pn (pc o4 4) (pc o9 2)),r2,dA]
 (.next ⟨[],[(9,(.setc (.setc o9 0 (.tget sv 0)) 4 (.tget sv 1)))]⟩)))
 (.next ⟨[],[]⟩)
 (.ret (aA 5 (.setc o8 0 (aA 5 o9))))))
def afO:Jv.map told=some (Xi,[]):=by kernel_rfl
def axT:tree (ab Jv)=Xi:=aT afO
def JA:Option PC:=cF [9,11,12,13,14] [] Tryz.f144 144 [4,7,8,10,16394]
def Xn:PT:=
 (.call ⟨[],[(16394,pL),(10,(.setc C5 0 (.mk [gF,(pi (-1)),pL,(pi 1)]))),(8,C5),(7,(.mk [r3])),(4,(.mk [r0]))]⟩ [] 19 177 [j4,(aA 24 (.mk [r3]))]
 (.ite (peq (.llen (.tget jk 1)) (pi 0))
 (.ret (.tup [Vw,pL]))
 (.call ⟨[(11,(.tget jk 1))],[(7,(.setc o7 0 (.tget jk 0)))]⟩ [] 28 178 [r2]
 (.ite (.nt (.tget sr 1))
 (.ret (.tup [Vw,pL]))
 (.call ⟨[],[]⟩ [] 37 179 [(aA 8 o4),r1,(aA 24 o7)]
 (.ite (peq (.llen mD) (pi 0))
 (.ret (.tup [Vw,pL]))
 (.call ⟨[],[]⟩ [] 46 180 [(aA 8 o4),r1,r2,mD]
 (.ite (peq (pc zJ 4) (pi 0))
 (.chk (aq (pc zJ 3) (bq (.llen (pc zJ 3)) (pi 1)))
 (.ret (.tup [(aA 5 (.setc o8 0 (aA 5 (.setc zJ 2 (pn (pc zJ 3) (bq (.llen (pc zJ 3)) (pi 1))))))),bQ])))
 (.ret (.tup [(aA 5 (.setc o8 0 (aA 5 zJ))),bQ]))))))))))
def afT:JA.map told=some (Xn,[]):=by kernel_rfl
def axY:tree (ab JA)=Xn:=aT afT
def JB:Option PC:=cF [5] [] Tryz.f177 177 [2,3,4]
def Xo:PT:=
 (.call ⟨[],[(4,ah2),(3,(.mk [r1])),(2,(.mk [r0]))]⟩ [] 10 62 [G1,(pc (.mk [r1]) 23)]
 (.call ⟨[(12,(aA 24 (.setc o3 0 dA)))],[]⟩ [] 15 196 [(aA 8 o2),(aA 24 (.setc o3 0 dA))]
 (.ret (.tup [(aA 24 (.setc o4 0 cm)),dB]))))
def afU:JB.map told=some (Xo,[]):=by kernel_rfl
def axZ:tree (ab JB)=Xo:=aT afU
def Bn:Option PC:=cF [4,7,9,11,12,13,14,15,16] [] Tryz.f196 196 [2,3,5,6,8,10,90,139]
def Ek:Nat->PC:=bn Bn
def auf:PC:=.meach 90 [94,95,11,12] [0,1,0,1] [10] (b 0)
def aug:PC:=.meach 139 [143,144,15,16] [0,1,0,1] [10] (b 1)
def Wr (b:Nat->PC):PT:=
 (.chk (aq cd bQ)
 (.next ⟨[],[(10,(.setn cd bQ 0 (.mk [pT,cm])))]⟩))
def Ws (b:Nat->PC):PT:=
 (.blockS ⟨[],[]⟩ 3 [145,146,147,148,149] [10]
 (.call ⟨[(146,dB)],[]⟩ [] 148 213 [cj]
 (.chk (aq cd (.r 146))
 (.next ⟨[],[(10,(.setn cd (.r 146) 0 (.r 148)))]⟩)))
 (.next ⟨[],[]⟩))
def xo:PT:=
 (.call ⟨[(7,(.mx (pc (.mk [r1]) 20) (pi 0)))],[(6,(.setc DJ 0 (aA 15 (.mk [r1])))),(5,(.setc tP 0 G1)),(3,(.mk [r1])),(2,(.mk [r0]))]⟩ [] 30 102 [(pc (.mk [r1]) 19),(.llen (pc (.setc tP 0 G1) 15))]
 (.call ⟨[(48,(aJ (pc o3 22) (pi (-1)))),(44,(.pick (.pick (.nt su) pT (aj (pc o3 20) (pi (-1)))) pT (bk r7 (.llen (pc o5 15)))))],[]⟩ [(48,true),(44,false)] 51 102 [(pc o3 22),(pi 100001)]
 (.ite (.pick wY pT (.pick j6 (.nt ny) pF))
 (.ret pL)
 (.chk (aq (pc o5 15) (pc o3 19))
 (.call ⟨[],[(8,(.setc z9 0 (pn (pc o5 15) (pc o3 19))))]⟩ [] 63 102 [(pc (.setc z9 0 (pn (pc o5 15) (pc o3 19))) 6),(pi 100001)]
 (.ite (.nt NM)
 (.ret pL)
 (.chk (.an (bk (pi 20) (pi 0)) (bG (pi 20) cO))
 (.chk (peq (pi 20) (pi 20))
 (.chk (aj (.mlen (.con (.map []))) cO)
 (.chk (aj (.mlen (.put (.con (.map [])) (pi 0) (pc o6 3))) cO)
 (.chk (aj (.mlen (.put (.put (.con (.map [])) (pi 0) (pc o6 3)) (pi 1) (pc o6 14))) cO)
 (.chk (aj (.mlen Vs) cO)
 (.chk (aj (.mlen (.put Vs (pi 3) (pc o6 12))) cO)
 (.chk (aj (.mlen Vy) cO)
 (.chk (aj (.mlen (.put Vy (pi 5) (pc o3 21))) cO)
 (.blockS ⟨[(10,pN),(9,ahZ)],[(90,(.tup [(.lst []),(.put (.put Vy (pi 5) (pc o3 21)) (pi 6) ahZ)])),(10,(.rep (pi 20) gF))]⟩ 0 [] [10]
 (.brk ⟨[],[]⟩
(auf b)
 (.exit 0 ⟨[],[]⟩))
 (.call ⟨[],[(3,(aA 24 o3))]⟩ [] 104 211 [(pc o5 16),(.clo 212 [(.ref (aA 24 o3))])]
 (.call ⟨[(13,av2)],[]⟩ [] 108 147 [(aA 8 o2),(pc o6 9)]
 (.call ⟨[],[]⟩ [] 112 147 [(aA 8 o2),(pc o6 10)]
 (.chk (aj (.mlen (.con (.map []))) cO)
 (.chk (aj (.mlen Vx) cO)
 (.chk (aj (.mlen (.put Vx (pi 8) (peq (pc o6 2) (pi (-1))))) cO)
 (.chk (aj (.mlen (.put (.put Vx (pi 8) (peq (pc o6 2) (pi (-1)))) (pi 9) (aJ (.ai .and .i64 (pc o6 13) (pi 4)) (pi 0)))) cO)
 (.chk (aj (.mlen Nr) cO)
 (.chk (aj (.mlen (.put Nr (pi 11) (aJ NK VC))) cO)
 (.chk (aj (.mlen (.put (.put Nr (pi 11) (aJ NK VC)) (pi 12) db)) cO)
 (.chk (aj (.mlen aia) cO)
 (.blockS ⟨[],[(139,(.tup [(.lst []),(.put aia (pi 14) (aW r9 (pi 0)))]))]⟩ 2 [] [10]
 (.brk ⟨[],[]⟩
(aug b)
 (.exit 2 ⟨[],[]⟩))
 (.call ⟨[],[]⟩ [] 154 214 [(aA 19 o5),(pi 0),(pc o3 19)]
 (.chk (aq cd (pi 15))
 (.call ⟨[],[(10,(.setn cd (pi 15) 0 (.r 154)))]⟩ [] 160 214 [(aA 19 o5),(pi 1),(pc o3 19)]
 (.chk (aq cd (pi 16))
 (.call ⟨[],[(10,(.setn cd (pi 16) 0 (.r 160)))]⟩ [] 166 214 [(aA 19 o5),(pi 2),(pc o3 19)]
 (.chk (aq cd (pi 17))
 (.call ⟨[],[(10,(.setn cd (pi 17) 0 (.r 166)))]⟩ [] 171 214 [(aA 19 o5),(pi 3),r7]
 (.chk (aq cd (pi 18))
 (.call ⟨[],[(10,(.setn cd (pi 18) 0 (.r 171)))]⟩ [] 176 214 [(aA 19 o5),(pi 4),r7]
 (.chk (aq cd (pi 19))
 (.ret (.setn cd (pi 19) 0 (.r 176)))))))))))))))))))))))))))))))))))))))))
def aoP:PT×List (Shp×PT):=(xo b,[(.ea [10],Wr b),(.ea [10],Ws b)])
def M0:Bn.map told=some (aoP (bt Bn)):=by kernel_rfl
def azF:tree (ab Bn)=xo Ek:=bH M0
def aws:sD [10] (Ek 0)=Wr Ek:=Xh M0 0 λ_=>rfl
def awt:sD [10] (Ek 1)=Ws Ek:=Xh M0 1 λ_=>rfl
def Kt:Option PC:=cF [3] [] Tryz.f212 212 [2]
def YV:PT:=
 (.ret (bG j5 (pc (.deref r1) 19)))
def agT:Kt.map told=some (YV,[]):=by kernel_rfl
def azE:tree (ab Kt)=YV:=aT agT
def Kw:Option PC:=cF [4] [] Tryz.f211 211 []
def YZ:PT:=
 (.call ⟨[],[]⟩ [] 7 223 [r0,r1]
 (.ret (bk r7 (pi 0))))
def agW:Kw.map told=some (YZ,[]):=by kernel_rfl
def azJ:tree (ab Kw)=YZ:=aT agW
def Bp:Option PC:=cF [4,5] [] Tryz.f223 223 []
def Qn:Nat->PC:=bn Bp
def atX:PC:=.block 0 [4,8,9] [] (.loop [4,8] [] (b 0))
def H7 (b:Nat->PC):PT:=
 (.ite (aj r8 r7)
 (.blockS ⟨[],[]⟩ 1 [4,5,10,11,12,13,14,15,16] []
 (.chk (aq r0 r8)
 (.callc ⟨[(5,r8)],[]⟩ [] 16 r1 [(pn r0 r8)]
 (.ite cj
 (.ret r5)
 (.next ⟨[],[]⟩))))
 (.next ⟨[(8,vg)],[]⟩))
 (.exit 0 ⟨[(9,(aj r8 r7))],[]⟩))
def Ze:PT:=
 (.brk ⟨[(8,(pi 0)),(7,(.llen r0)),(4,(pi 0))],[]⟩
(atX b)
 (.ret (pi (-1))))
def aoR:PT×List (Shp×PT):=(Ze b,[(.lp 0 [4,8,9] [] [4,8] [],H7 b)])
def UB:Bp.map told=some (aoR (bt Bp)):=by kernel_rfl
def azO:tree (ab Bp)=Ze Qn:=bH UB
def Wt:round 0 [4,8,9] [] [4,8] [] (Qn 0)=H7 Qn:=bm UB 0 λ_=>rfl
def Kq:Option PC:=cF [4] [] Tryz.f147 147 [2]
def YH:PT:=
 (.call ⟨[],[(2,(.mk [r0]))]⟩ [] 9 135 [r1,(.llen mz)]
 (.ite (.nt r9)
 (.ret (pi (-1)))
 (.chk (aq (pc o2 1) r1)
 (.ret (pc (pn (pc o2 1) r1) 1)))))
def agQ:Kq.map told=some (YH,[]):=by kernel_rfl
def azq:tree (ab Kq)=YH:=aT agQ
def Kr:Option PC:=cF [4] [] Tryz.f135 135 []
def YK:PT:=
 (.ret Vo)
def agR:Kr.map told=some (YK,[]):=by kernel_rfl
def azt:tree (ab Kr)=YK:=aT agR
def Ku:Option PC:=cF [] [] Tryz.f213 213 [2]
def YW:PT:=
 (.ite r0
 (.ret (.mk [(pc Nk 0),(pc Nk 1)]))
 (.ret (.mk [(pc Nl 0),(pc Nl 1)])))
def agU:Ku.map told=some (YW,[]):=by kernel_rfl
def azG:tree (ab Ku)=YW:=aT agU
def Bl:Option PC:=cF [] [] Tryz.f214 214 [3,6,8]
def Qm:Nat->PC:=bn Bl
def atQ:PC:=.block 0 [12,13] [6] (.loop [12] [6] (b 0))
def H4 (b:Nat->PC):PT:=
 (.ite wT
 (.blockS ⟨[],[]⟩ 1 [8,14,15,16,17,18,19,20,25] [8,6]
 (.chk (aq dA cm)
 (.iteS ⟨[],[(8,(.setc z3 0 qy))]⟩ (.pick (peq (pc (.setc z3 0 qy) 0) r1) (peq (pc (.setc z3 0 qy) 1) r2) pF) [] [6]
 (.call ⟨[],[]⟩ [] 29 213 [(aJ (pc o8 2) (pi 0))]
 (.ret (.mk [(pc (.setc o6 0 nv) 0),(pc (.setc o6 0 nv) 1)])))
 (.next ⟨[],[]⟩)
 (.next ⟨[],[]⟩)))
 (.next ⟨[(12,C0)],[]⟩))
 (.exit 0 ⟨[(13,wT)],[]⟩))
def YT:PT:=
 (.brk ⟨[(12,(pi 0)),(11,(.llen (pc (.mk [r0]) 18))),(10,(pc (.mk [r0]) 18))],[(6,gF)]⟩
(atQ b)
 (.ret (.mk [(pc (.setc o6 0 zE) 0),(pc (.setc o6 0 zE) 1)])))
def aoN:PT×List (Shp×PT):=(YT b,[(.lp 0 [12,13] [6] [12] [6],H4 b)])
def UA:Bl.map told=some (aoN (bt Bl)):=by kernel_rfl
def azC:tree (ab Bl)=YT Qm:=bH UA
def Wp:round 0 [12,13] [6] [12] [6] (Qm 0)=H4 Qm:=bm UA 0 λ_=>rfl
def J1:Option PC:=cF [2,3,4,11] [] Tryz.f178 178 []
def XV:PT:=
 (.blockS ⟨[],[]⟩ 0 [2,3,4,5,6,7,10,11,12,13,14] []
 (.iteS ⟨[],[]⟩ (.pick (aj r0 (pi 0)) pT (bk r0 (pi 22))) [2,3,11,12,13,14] []
 (.ret (.tup [(pi 0),pF]))
 (.call ⟨[],[]⟩ [] 14 176 [(.lst [(pc tO 0),(pc tO 1),(pc tO 2),(pc tO 3),(pc tO 4),(pc tO 5),(pc tO 6),(pc tO 7),(pc tO 8),(pc tO 9)]),r0]
 (.ite cu
 (.ret (.tup [(pi 0),pT]))
 (.next ⟨[],[]⟩)))
 (.next ⟨[],[]⟩))
 (.ret (.tup [(pi 1),pT])))
def agp:J1.map told=some (XV,[]):=by kernel_rfl
def ayA:tree (ab J1)=XV:=aT agp
def KA:Option PC:=cF [4] [] Tryz.f176 176 []
def Zc:PT:=
 (.call ⟨[],[]⟩ [] 7 195 [r0,r1]
 (.ret (bk r7 (pi 0))))
def agZ:KA.map told=some (Zc,[]):=by kernel_rfl
def azM:tree (ab KA)=Zc:=aT agZ
def Bt:Option PC:=cF [4,5] [] Tryz.f195 195 []
def Qr:Nat->PC:=bn Bt
def at1:PC:=.block 0 [4,8,9] [] (.loop [4,8] [] (b 0))
def Ib (b:Nat->PC):PT:=
 (.ite (aj r8 r7)
 (.chk (aq r0 r8)
 (.ite (peq r1 (pn r0 r8))
 (.ret r8)
 (.next ⟨[(8,vg)],[]⟩)))
 (.exit 0 ⟨[(9,(aj r8 r7))],[]⟩))
def Zi:PT:=
 (.brk ⟨[(8,(pi 0)),(7,(.llen r0)),(4,(pi 0))],[]⟩
(at1 b)
 (.ret (pi (-1))))
def aoV:PT×List (Shp×PT):=(Zi b,[(.lp 0 [4,8,9] [] [4,8] [],Ib b)])
def UF:Bt.map told=some (aoV (bt Bt)):=by kernel_rfl
def azS:tree (ab Bt)=Zi Qr:=bH UF
def Wx:round 0 [4,8,9] [] [4,8] [] (Qr 0)=Ib Qr:=bm UF 0 λ_=>rfl
def AM:Option PC:=cF [8,9,11,12,13,14,55,70] [] Tryz.f180 180 [4,10,53]
def PW:Nat->PC:=bn AM
def asX:PC:=.block 0 [] [] (.loop [8,9,10] [10] (b 0))
def VR (b:Nat->PC):PT:=
 (.blockS ⟨[],[]⟩ 1 [8,9,10,11,12,13,14,32,33,35,36,37,38,39,40,41,42,43,44,45,46,49,50,52,53,54,55,56,57,58,68,70,71] [53,10]
 (.chk (aq cd (bq (.llen cd) (pi 1)))
 (.call ⟨[(11,(pn cd (bq (.llen cd) (pi 1))))],[]⟩ [] 41 198 [(aA 8 o4),(pn cd (bq (.llen cd) (pi 1))),r2,r3]
 (.ite (peq (.tget tU 0) bQ)
 (.ret (.tup [cd,(pi 0)]))
 (.call ⟨[(13,(.tget tU 1)),(12,(.tget tU 0))],[]⟩ [] 50 176 [cd,(.tget tU 0)]
 (.chk (bG (.llen (.app cd (.lst [cm]))) cO)
 (.chk (.nt (.an (.an nw (.an (.nt (.nt db)) pT)) (.nt (aq (pc o4 4) cm))))
 (.ite (.pick (.nt db) pT (.pick nw (pc (pn (pc o4 4) cm) 1) pF))
 (.ret (.tup [(.app cd (.lst [cm])),(pi 0)]))
 (.ite nw
 (.ret (.tup [(.app cd (.lst [cm])),(pi 12)]))
 (.next ⟨[(10,pN)],[(10,(.app cd (.lst [cm])))]⟩)))))))))
 (.next ⟨[],[]⟩))
def XI:PT:=
 (.call ⟨[(9,(pi 0)),(8,pL)],[(4,(.mk [r0]))]⟩ [] 19 197 [j4,r1,r2,r3]
 (.chk (.nt (.an (.an (.nt (.nt jk)) pT) (.nt (aq r3 (pi 0)))))
 (.ite (.pick (.nt jk) pT (aJ (pn r3 (pi 0)) r1))
 (.ret (.tup [pL,(pi 1)]))
 (.brk ⟨[(10,pN)],[(10,(.lst [r1]))]⟩
(asX b)
 (.next ⟨[],[]⟩)))))
def aob:PT×List (Shp×PT):=(XI b,[(.lp 0 [] [] [8,9,10] [10],VR b)])
def Ua:AM.map told=some (aob (bt AM)):=by kernel_rfl
def aym:tree (ab AM)=XI PW:=bH Ua
def awq:round 0 [] [] [8,9,10] [10] (PW 0)=VR PW:=bm Ua 0 λ_=>rfl
def JR:Option PC:=cF [8] [] Tryz.f197 197 [4,9]
def xn:PT:=
 (.ite (.pick (.pick (.pick (.pick (aj r1 (pi 0)) pT (bk r1 (pc (.setc GY 0 GX) 0))) pT (aj r2 (pi 0))) pT (bk r2 (pi 22))) pT (aJ (.llen r3) (pi 5)))
 (.ret pF)
 (.call ⟨[],[]⟩ [] 35 215 [r3,(.clo 216 [(.ref (pc (.setc GY 0 GX) 0))])]
 (.ret (.nt oZ))))
def agd:JR.map told=some (xn,[]):=by kernel_rfl
def ayp:tree (ab JR)=xn:=aT agd
def JS:Option PC:=cF [3] [] Tryz.f216 216 []
def XK:PT:=
 (.ret (.pick (aj r0 (pi 0)) pT (bk r0 (.deref r1))))
def age:JS.map told=some (XK,[]):=by kernel_rfl
def ayo:tree (ab JS)=XK:=aT age
def Kz:Option PC:=cF [4] [] Tryz.f215 215 []
def Zb:PT:=
 (.call ⟨[],[]⟩ [] 7 224 [r0,r1]
 (.ret (bk r7 (pi 0))))
def agY:Kz.map told=some (Zb,[]):=by kernel_rfl
def azL:tree (ab Kz)=Zb:=aT agY
def Bs:Option PC:=cF [4,5] [] Tryz.f224 224 []
def Qq:Nat->PC:=bn Bs
def at0:PC:=.block 0 [4,8,9] [] (.loop [4,8] [] (b 0))
def Ia (b:Nat->PC):PT:=
 (.ite (aj r8 r7)
 (.blockS ⟨[],[]⟩ 1 [4,5,10,11,12,13,14,15,16] []
 (.chk (aq r0 r8)
 (.callc ⟨[(5,r8)],[]⟩ [] 16 r1 [(pn r0 r8)]
 (.ite cj
 (.ret r5)
 (.next ⟨[],[]⟩))))
 (.next ⟨[(8,vg)],[]⟩))
 (.exit 0 ⟨[(9,(aj r8 r7))],[]⟩))
def Zh:PT:=
 (.brk ⟨[(8,(pi 0)),(7,(.llen r0)),(4,(pi 0))],[]⟩
(at0 b)
 (.ret (pi (-1))))
def aoU:PT×List (Shp×PT):=(Zh b,[(.lp 0 [4,8,9] [] [4,8] [],Ia b)])
def UE:Bs.map told=some (aoU (bt Bs)):=by kernel_rfl
def azR:tree (ab Bs)=Zh Qq:=bH UE
def Ww:round 0 [4,8,9] [] [4,8] [] (Qq 0)=Ia Qq:=bm UE 0 λ_=>rfl
def AN:Option PC:=cF [8,9] [] Tryz.f198 198 [4,11]
def PX:Nat->PC:=bn AN
def asY:PC:=.block 0 [8,9,25,26] [] (.loop [8,9,25] [] (b 0))
def Hp (b:Nat->PC):PT:=
 (.ite (aj kH nu)
 (.chk (aq gG kH)
 (.ite (.pick (peq (pc G9 0) r2) (aJ (pc G9 1) (pi 0)) pF)
 (.chk (aq r3 (pc G9 1))
 (.ret (.tup [(pn r3 (pc G9 1)),(pc G9 2)])))
 (.next ⟨[(25,(aF kH (pi 1)))],[]⟩)))
 (.exit 0 ⟨[(26,(aj kH nu))],[]⟩))
def XJ:PT:=
 (.call ⟨[(9,pF),(8,(pi 0))],[(4,(.mk [r0]))]⟩ [] 16 197 [j4,r1,r2,r3]
 (.ite (.nt cj)
 (.ret (.tup [(pi (-1)),pF]))
 (.chk (aq (pc o4 4) r1)
 (.brk ⟨[(25,(pi 0)),(24,(.llen (pc (pn (pc o4 4) r1) 2))),(23,(pc (pn (pc o4 4) r1) 2))],[]⟩
(asY b)
 (.ret (.tup [r1,pF]))))))
def aoc:PT×List (Shp×PT):=(XJ b,[(.lp 0 [8,9,25,26] [] [8,9,25] [],Hp b)])
def Ub:AN.map told=some (aoc (bt AN)):=by kernel_rfl
def ayn:tree (ab AN)=XJ PX:=bH Ub
def VS:round 0 [8,9,25,26] [] [8,9,25] [] (PX 0)=Hp PX:=bm Ub 0 λ_=>rfl
def J0:Option PC:=cF [7,9,11,12] [] Tryz.f145 145 [3,6,8,10]
def XU:PT:=
 (.call ⟨[],[(6,gF)]⟩ [] 16 181 [(aA 4 (.mk [r0])),r1]
 (.ite (aJ (.tget cj 1) (pi 0))
 (.ret (.tup [(.mk [(pc (.setc o6 0 zE) 0),(pc (.setc o6 0 zE) 1)]),(.tget cj 1)]))
 (.call ⟨[],[]⟩ [] 25 182 [(.mk [(pc (.setc nr 0 (.tget cj 0)) 0),(pc (.setc nr 0 (.tget cj 0)) 1),(pc (.setc nr 0 (.tget cj 0)) 2)]),r2]
 (.call ⟨[],[(10,(.setc gF 0 kH))]⟩ [] 28 178 [r1]
 (.ret (.tup [(.mk [(pc (.setc o6 0 (.mk [(pc Nv 0),(pc Nv 1)])) 0),(pc (.setc o6 0 (.mk [(pc Nv 0),(pc Nv 1)])) 1)]),(pi 0)]))))))
def ago:J0.map told=some (XU,[]):=by kernel_rfl
def ayz:tree (ab J0)=XU:=aT ago
def J2:Option PC:=cF [5,6,7,8,10,11] [] Tryz.f181 181 [2,3,4,12292,9]
def XW:PT:=
 (.call ⟨[],[(4,nr),(3,(.mk [r1])),(2,(.mk [r0]))]⟩ [] 14 178 [(pc (.mk [r1]) 0)]
 (.ite (.nt (.tget cu 1))
 (.ret (.tup [Vv,(pi 1)]))
 (.call ⟨[(6,(.tget cu 0))],[]⟩ [] 23 199 [(pc o2 3),(.clo 200 [(.ref (pc o3 0))])]
 (.ite (aj gG (pi 0))
 (.ret (.tup [Vv,(pi 4)]))
 (.chk (aq (pc o2 3) gG)
 (.call ⟨[],[(9,NF)]⟩ [] 35 201 [(.mk [(pc NF 0),(pc NF 1),(pc NF 2)])]
 (.ite (.pick (aJ (.tget oZ 1) (pi 0)) pT (aJ (.tget oZ 0) r6))
 (.ret (.tup [Vv,(pi 11)]))
 (.ret (.tup [(.mk [(pc Vz 0),(pc Vz 1),(pc Vz 2)]),(pi 0)])))))))))
def agq:J2.map told=some (XW,[]):=by kernel_rfl
def ayC:tree (ab J2)=XW:=aT agq
def J3:Option PC:=cF [3] [] Tryz.f200 200 [2]
def XX:PT:=
 (.ret (peq j5 (.deref r1)))
def agr:J3.map told=some (XX,[]):=by kernel_rfl
def ayB:tree (ab J3)=XX:=aT agr
def Br:Option PC:=cF [4,5] [] Tryz.f199 199 []
def Qp:Nat->PC:=bn Br
def atZ:PC:=.block 0 [4,8,9] [] (.loop [4,8] [] (b 0))
def H9 (b:Nat->PC):PT:=
 (.ite (aj r8 r7)
 (.blockS ⟨[],[]⟩ 1 [4,5,10,11,12,13,14,15,16] []
 (.chk (aq r0 r8)
 (.callc ⟨[(5,r8)],[]⟩ [] 16 r1 [(pn r0 r8)]
 (.ite cj
 (.ret r5)
 (.next ⟨[],[]⟩))))
 (.next ⟨[(8,vg)],[]⟩))
 (.exit 0 ⟨[(9,(aj r8 r7))],[]⟩))
def Zg:PT:=
 (.brk ⟨[(8,(pi 0)),(7,(.llen r0)),(4,(pi 0))],[]⟩
(atZ b)
 (.ret (pi (-1))))
def aoT:PT×List (Shp×PT):=(Zg b,[(.lp 0 [4,8,9] [] [4,8] [],H9 b)])
def UD:Br.map told=some (aoT (bt Br)):=by kernel_rfl
def azQ:tree (ab Br)=Zg Qp:=bH UD
def Wv:round 0 [4,8,9] [] [4,8] [] (Qp 0)=H9 Qp:=bm UD 0 λ_=>rfl
def KF:Option PC:=cF [2,3] [] Tryz.f201 201 [1]
def Zr:PT:=
 (.call ⟨[],[(1,(.mk [r0]))]⟩ [] 5 217 [(.mk [j5,mz,zK]),(pi 1)]
 (.ite (aW r5 (pi 60))
 (.ret (.tup [(pi 0),(pi 6)]))
 (.call ⟨[],[]⟩ [] 8 218 [(.mk [(pc o1 0),(pc o1 1),(pc o1 2)])]
 (.ret (.tup [(.tget r8 0),(.tget r8 1)])))))
def ag7:KF.map told=some (Zr,[]):=by kernel_rfl
def az0:tree (ab KF)=Zr:=aT ag7
def ym:Option PC:=cF [4,5] [] Tryz.f217 217 [2,7,12295]
def Qw:Nat->PC:=bn ym
def aub:PC:=.block 0 [5,13,14] [] (.loop [5,13] [] (b 0))
def Ig (b:Nat->PC):PT:=
 (.ite (aj db cm)
 (.blockS ⟨[(14,(aj db cm))],[]⟩ 1 [5,7,15,16,17,18,19,20,21,22,23,24] [7,12295]
 (.chk (aq bQ db)
 (.call ⟨[(17,r5)],[]⟩ [] 21 217 [(.mk [(pc (.setc nr 0 (pn bQ db)) 0),(pc (.setc nr 0 (pn bQ db)) 1),(pc (.setc nr 0 (pn bQ db)) 2)]),(aF r1 (pi 1))]
 (.ite (aW (aF lf iO) (pi 60))
 (.exit 0 ⟨[(5,(aF lf iO))],[]⟩)
 (.next ⟨[(5,(aF lf iO))],[]⟩))))
 (.next ⟨[(13,(aF db (pi 1)))],[]⟩))
 (.exit 0 ⟨[(14,(aj db cm))],[]⟩))
def O0:PT:=
 (.ite (aW r1 (pi 8))
 (.ret (pi 61))
 (.brk ⟨[(13,(pi 0)),(12,sm),(11,zK),(5,(pi 1))],[]⟩
(aub b)
 (.ret r5)))
def ao2:PT×List (Shp×PT):=(O0 b,[(.lp 0 [5,13,14] [] [5,13] [],Ig b)])
def UK:ym.map told=some (ao2 (bt ym)):=by kernel_rfl
def ajF:tree (ab ym)=O0 Qw:=bH UK
def WC:round 0 [5,13,14] [] [5,13] [] (Qw 0)=Ig Qw:=bm UK 0 λ_=>rfl
def By:Option PC:=cF [2,3,5,7,8,38,47,10,11,12] [] Tryz.f218 218 [1,4,6,12294,9]
def En:Nat->PC:=bn By
def at6:PC:=.block 0 [2,3,20,21] [4] (.loop [2,3,20] [4] (b 0))
def at7:PC:=.block 3 [2,3,10,82,83] [] (.loop [2,3,10,82] [] (b 1))
def Ie (b:Nat->PC):PT:=
 (.ite (aj eI jk)
 (.blockS ⟨[],[]⟩ 1 [2,3,5,6,7,8,22,23,24,25,26,27,28,29,30,31,33,34,35,36] [6,12294,4]
 (.chk (aq cI eI)
 (.call ⟨[(5,eI)],[]⟩ [] 27 218 [(.mk [(pc (.setc nr 0 (pn cI eI)) 0),(pc (.setc nr 0 (pn cI eI)) 1),(pc (.setc nr 0 (pn cI eI)) 2)])]
 (.ite (aJ (.tget eJ 1) (pi 0))
 (.ret (.tup [(pi 0),(.tget eJ 1)]))
 (.chk (aq o4 r5)
 (.next ⟨[],[(4,(.setn o4 r5 0 (.tget eJ 0)))]⟩)))))
 (.next ⟨[(20,(aF eI (pi 1)))],[]⟩))
 (.exit 0 ⟨[(21,(aj eI jk))],[]⟩))
def xb (b:Nat->PC):PT:=
 (.ite (aj lV w6)
 (.chk (aq zN lV)
 (.ite (.pick (peq (pn zN lV) (pi (-1))) (peq dA (pi (-1))) pF)
 (.chk (aq o4 lV)
 (.ite (aJ (pn o4 lV) (.pick (peq (pn zN lV) (pi (-1))) (pn o4 lV) (pn zN lV)))
 (.ret (.tup [(pi 0),(pi 11)]))
 (.next ⟨[(10,(pn o4 lV)),(82,(aF lV (pi 1)))],[]⟩)))
 (.chk (aq o4 lV)
 (.ite (aJ (pn o4 lV) (.pick (peq (pn zN lV) (pi (-1))) dA (pn zN lV)))
 (.ret (.tup [(pi 0),(pi 11)]))
 (.next ⟨[(82,(aF lV (pi 1)))],[]⟩)))))
 (.exit 3 ⟨[(83,(aj lV w6))],[]⟩))
def Zv:PT:=
 (.chk (.an (bk sm (pi 0)) (bG sm cO))
 (.chk (peq sm sm)
 (.brk ⟨[(20,(pi 0)),(19,sm),(18,zK),(4,pN),(3,(pi 0)),(2,(pi 0))],[(4,(.rep sm (pi 0))),(1,(.mk [r0]))]⟩
(at6 b)
 (.blockS ⟨[],[]⟩ 2 [2,3,38,39,40,41,42,46,47,48,49,50,51,55,56,60] []
 (.iteS ⟨[],[]⟩ (.pick (aj (pc o1 0) (pi 0)) pT (aW (pc o1 0) (pi 13))) [2,3,47,48,49,50,51,55,56,60] []
 (.ret (.tup [(pi 0),(pi 1)]))
 (.iteS ⟨[],[]⟩ (.pick (.pick (peq (pc o1 0) (pi 0)) pT (peq (pc o1 0) (pi 1))) pT (peq (pc o1 0) (pi 2))) [2,3] []
 (.call ⟨[],[]⟩ [] 62 225 [(.mk [(pc o1 0),(pc o1 1),(pc o1 2)])]
 (.ret (.tup [(.tget pg 0),(.tget pg 1)])))
 (.next ⟨[],[]⟩)
 (.next ⟨[],[]⟩))
 (.next ⟨[],[]⟩))
 (.call ⟨[],[]⟩ [] 67 226 [(pc o1 0)]
 (.ite (.pick (aJ (.llen o4) (.llen (pc (.setc mw 0 wZ) 0))) pT (aJ (pc o1 1) (pi 0)))
 (.ret (.tup [(pi 0),(pi 2)]))
 (.brk ⟨[(82,(pi 0)),(81,(.llen (pc (.setc mw 0 wZ) 0))),(80,(pc (.setc mw 0 wZ) 0)),(10,(pi (-1)))],[(9,(.setc mw 0 wZ))]⟩
(at7 b)
 (.ite (peq (pc o9 1) (pi (-1)))
 (.ret (.tup [dA,(pi 0)]))
 (.ret (.tup [(pc o9 1),(pi 0)]))))))))))
def ao0:PT×List (Shp×PT):=(Zv b,[(.lp 0 [2,3,20,21] [4] [2,3,20] [4],Ie b),(.lp 3 [2,3,10,82,83] [] [2,3,10,82] [],xb b)])
def M3:By.map told=some (ao0 (bt By)):=by kernel_rfl
def az4:tree (ab By)=Zv En:=bH M3
def WA:round 0 [2,3,20,21] [4] [2,3,20] [4] (En 0)=Ie En:=bm M3 0 λ_=>rfl
def Dl:round 3 [2,3,10,82,83] [] [2,3,10,82] [] (En 1)=xb En:=bm M3 1 λ_=>rfl
def KL:Option PC:=cF [2,3,12,20,4,5] [] Tryz.f225 225 [1]
def Zy:PT:=
 (.ite (aW sm (pi 0))
 (.ret (.tup [(pi 0),(pi 2)]))
 (.blockS ⟨[(11,j5)],[(1,(.mk [r0]))]⟩ 0 [2,3,12,13,20,21] []
 (.iteS ⟨[],[]⟩ (peq bQ (pi 0)) [2,3,20,21] []
 (.call ⟨[],[]⟩ [] 16 229 [(pc o1 1)]
 (.ite (aJ cj (pc o1 1))
 (.ret (.tup [(pi 0),(pi 3)]))
 (.ret (.tup [(pi 0),(pi 0)]))))
 (.ite (peq bQ (pi 1))
 (.ite (.pick (aj (pc o1 1) (pi 0)) pT (aW (pc o1 1) (pi 1)))
 (.ret (.tup [(pi 0),(pi 3)]))
 (.ret (.tup [(pi 1),(pi 0)])))
 (.next ⟨[],[]⟩))
 (.next ⟨[],[]⟩))
 (.call ⟨[],[]⟩ [] 33 227 [(pc o1 1)]
 (.ite (.nt (.tget tT 1))
 (.ret (.tup [(pi 0),(pi 10)]))
 (.ret (.tup [(.tget tT 0),(pi 0)]))))))
def ahd:KL.map told=some (Zy,[]):=by kernel_rfl
def az7:tree (ab KL)=Zy:=aT ahd
def KK:Option PC:=cF [2] [] Tryz.f229 229 []
def Zx:PT:=
 (.ret (.mn (.mx r0 (pi (-1099511627776))) zC))
def ahc:KK.map told=some (Zx,[]):=by kernel_rfl
def az6:tree (ab KK)=Zx:=aT ahc
def KH:Option PC:=cF [2,3,4,11] [] Tryz.f227 227 []
def Zt:PT:=
 (.ite (.pick (aj r0 (pi 0)) pT (aW r0 (pi 19)))
 (.ret (.tup [(pi 0),pF]))
 (.ite (aj r0 (pi 7))
 (.ret (.tup [(pi 0),pT]))
 (.ret (.tup [(pi 1),pT]))))
def ag9:KH.map told=some (Zt,[]):=by kernel_rfl
def az2:tree (ab KH)=Zt:=aT ag9
end Rm
