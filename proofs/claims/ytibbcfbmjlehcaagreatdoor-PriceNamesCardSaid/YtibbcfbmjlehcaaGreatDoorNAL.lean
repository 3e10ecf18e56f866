/-
  The functions of this seat, compiled (1).
-/
import Derived.Test.YtibbcfbmjlehcaaGreatDoorNAJ
import Derived.KernelRfl
set_option linter.defProp false
set_option linter.unusedVariables false
set_option maxRecDepth 100000
noncomputable section
namespace Rm
open Go Go.Proofs Cx
def Az:Option PC:=cF [14,15,17,18,19,20,21,22,23,24,25] [] Tryz.f4 4 [7,9,11,16,16400]
def Py:Nat->PC:=bm Az
variable(b:Nat->PC)
def asT:PC:=.block 0 [17,74,75,76,77,78] [16400] (.loop [17] [16400] (b 0))
def Nw (b:Nat->PC):PT:=
 (.ite (aj dz (.llen (.o 16400)))
 (.chk (aq (pc o7 3) dz)
 (.ite (peq (pc (pn (pc o7 3) dz) 2) r5)
 (.chk (aq (.o 16400) dz)
 (.ite (peq (pc (pn (pc o7 3) dz) 2) r6)
 (.chk (aq (.setn (.o 16400) dz 2 r6) dz)
 (.next ⟨[(17,(aE dz (pi 1)))],[(16400,(.setn (.setn (.o 16400) dz 2 r6) dz 2 r5))]⟩))
 (.next ⟨[(17,(aE dz (pi 1)))],[(16400,(.setn (.o 16400) dz 2 r6))]⟩)))
 (.ite (peq (pc (pn (pc o7 3) dz) 2) r6)
 (.chk (aq (.o 16400) dz)
 (.next ⟨[(17,(aE dz (pi 1)))],[(16400,(.setn (.o 16400) dz 2 r5))]⟩))
 (.next ⟨[(17,(aE dz (pi 1)))],[]⟩))))
 (.exit 0 ⟨[(74,dz),(75,pN),(76,pN),(77,(.llen (.o 16400))),(78,(aj dz (.llen (.o 16400))))],[]⟩))
def Xw:PT:=
 (.call ⟨[],[(11,(.mk [r4])),(9,(.mk [r2])),(7,(.mk [r0]))]⟩ [] 26 6 []
 (.call ⟨[(15,mm)],[]⟩ [] 30 7 [(aB 8 o7),(aB 19 o9),GX]
 (.chk (.nt (.an (.an (.nt U9) pT) (.nt (aq (pc o7 2) r5))))
 (.chk (.nt (.an (.an (.nt U9) pT) (.nt (aq (pc o7 2) r6))))
 (.ite (.pick U9 pT (.nt (.an (peq (pc (pn (pc o7 2) r5) 0) (pc (pn (pc o7 2) r6) 0)) pT)))
 (.ret dg)
 (.chk (bI (.llen (.app (.lst []) (pc o7 3))) cQ)
 (.brk ⟨[(17,(pi 0))],[(16400,(.app (.lst []) (pc o7 3))),(16,(.setc (.setc Va 0 (aB 8 o7)) 3 pN))]⟩
(asT b)
 (.call ⟨[],[]⟩ [] 115 9 [(aB 8 o7),r1,(aB 19 o9),r3,GX]
 (.call ⟨[(19,(.tget ah8 1)),(18,(.tget ah8 0))],[]⟩ [] 124 9 [ahD,r1,(aB 19 o9),r3,GX]
 (.call ⟨[(21,(.tget ah9 1)),(20,(.tget ah9 0))],[]⟩ [] 133 10 [(aB 8 o7),r1,(aB 19 o9),r3,GX]
 (.call ⟨[(23,(.tget (.r 133) 1)),(22,(.tget (.r 133) 0))],[]⟩ [] 142 10 [ahD,r1,(aB 19 o9),r3,GX]
 (.ret (.pick (.pick (.pick (.pick dg (peq cO fc) pF) (peq ji iK) pF) (peq oM (.tget (.r 142) 0)) pF) (peq gE (.tget (.r 142) 1)) pF)))))))))))))
def an2:PT×List (Shp×PT):=(Xw b,[(.lp 0 [17,74,75,76,77,78] [16400] [17] [16400],Nw b)])
def TO:Az.map told=some (an2 (bp Az)):=by kernel_rfl
def ayp:tree (ab Az)=Xw Py:=bF TO
def aiq:round 0 [17,74,75,76,77,78] [16400] [17] [16400] (Py 0)=Nw Py:=bk TO 0 λ_=>rfl
def JE:Option PC:=cF [0,2,3,4,5,6,7,8,9,10,11,12,13] [] Tryz.f6 6 [1,17]
def XB:PT:=
 (.call ⟨[],[]⟩ [] 14 15 []
 (.call ⟨[(16,(aB 8 (.setc Va 0 cm)))],[(17,(.lst [(pi 0),(pi 1)])),(1,(.setc Va 0 cm))]⟩ [] 18 17 []
 (.call ⟨[],[]⟩ [] 19 16 [cv,Mq,cO]
 (.call ⟨[(23,(aB 8 o1)),(3,(.tget ji 1)),(2,(.tget ji 0))],[]⟩ [] 24 18 [(pi 1000),(pi 0)]
 (.call ⟨[],[]⟩ [] 25 17 []
 (.call ⟨[],[]⟩ [] 26 10 [gE,(pi 0),oN,(pi 4),kF]
 (.call ⟨[(30,(aB 8 o1)),(5,(.tget mm 1)),(4,(.tget mm 0))],[]⟩ [] 31 18 [(pi 1000),(pi 0)]
 (.call ⟨[],[]⟩ [] 32 17 []
 (.call ⟨[],[]⟩ [] 33 9 [qo,(pi 0),rX,(pi 4),wL]
 (.call ⟨[(37,(aB 8 o1)),(7,(.tget tF 1)),(6,(.tget tF 0))],[]⟩ [] 38 18 [(pi 1000),(pi 1)]
 (.call ⟨[],[]⟩ [] 39 17 []
 (.call ⟨[],[]⟩ [] 40 9 [mq,(pi 0),jE,(pi 4),qp]
 (.call ⟨[(44,(aB 8 o1)),(9,(.tget qs 1)),(8,(.tget qs 0))],[]⟩ [] 45 18 [(pi 600),(pi 1)]
 (.call ⟨[],[]⟩ [] 46 17 []
 (.call ⟨[],[]⟩ [] 47 10 [wM,(pi 0),rZ,(pi 4),CX]
 (.call ⟨[(51,(aB 8 o1)),(11,(.tget CY 1)),(10,(.tget CY 0))],[]⟩ [] 52 18 [(pi 600),(pi 1)]
 (.call ⟨[],[]⟩ [] 53 17 []
 (.call ⟨[],[]⟩ [] 54 9 [np,(pi 0),CZ,(pi 4),Vm]
 (.call ⟨[(79,(.pick (.pick (.pick (.pick (.pick (aJ r3 (pi 0)) pT (aJ r5 (pi 0))) pT (aJ r7 (pi 0))) pT (aJ r9 (pi 0))) pT (aJ bQ (pi 0))) pT (aJ (.tget mu 1) (pi 0)))),(12,(.tget mu 0))],[]⟩ [(79,false)] 81 19 [(.mk [(pi 0),pL])]
 (.ite (.pick r79 pT (aJ wO (pi 1)))
 (.ret pF)
 (.call ⟨[(107,(aB 8 o1)),(106,(.pick (.pick (.pick (.pick (.pick (peq r2 (pi 50000000)) (peq r4 (pi 900)) pF) (peq r6 (pi 891)) pF) (peq r8 (pi 940)) pF) (peq dy (pi 770)) pF) (peq cj (pi 762)) pF))],[]⟩ [(106,true)] 108 18 [(pi 600),(pi 1)]
 (.call ⟨[],[]⟩ [(106,true)] 109 21 [av0,(pi 0),No,(pi 4),(pi 601)]
 (.call ⟨[],[]⟩ [(106,true)] 111 20 [ah7,(.lst [(pi 1)])]
 (.ret (.pick Nn av1 pF)))))))))))))))))))))))))
def aga:JE.map told=some (XB,[]):=by kernel_rfl
def ayu:tree (ab JE)=XB:=aU aga
def JD:Option PC:=cF [] [] Tryz.f15 15 [0,24576,28672,32768,1,12289,2,12290]
def Xz:PT:=
 (.ret (.mk [(pc GR 0),(pc GR 1),(pc GR 2),(pc GR 3),(pc GR 4),pL,pL,pL]))
def af9:JD.map told=some (Xz,[]):=by kernel_rfl
def ays:tree (ab JD)=Xz:=aU af9
def AA:Option PC:=cF [2] [] Tryz.f17 17 [0,1]
def Pz:Nat->PC:=bm AA
def asU:PC:=.block 0 [2,4,5,6,7] [1] (.loop [2] [1] (b 0))
def Nx (b:Nat->PC):PT:=
 (.ite (aj r2 (.llen o1))
 (.chk (aq o1 r2)
 (.next ⟨[(2,(aE r2 (pi 1)))],[(1,(.setn o1 r2 0 (.mk [(pi 1),(pi 1)])))]⟩))
 (.exit 0 ⟨[(4,r2),(5,r1),(6,(.llen o1)),(7,(aj r2 (.llen o1)))],[]⟩))
def XA:PT:=
 (.chk (.an (bh (pi 10) (pi 0)) (bI (pi 10) cQ))
 (.chk (peq (pi 10) (pi 10))
 (.brk ⟨[(2,(pi 0)),(1,pN)],[(1,(.rep (pi 10) z2)),(0,(.con (.agg [(.int 0),(.list [])])))]⟩
(asU b)
 (.chk (aq o1 (pi 3))
 (.chk (aq (.setn o1 (pi 3) 0 (.mk [(pi 1),(pi 10)])) (pi 5))
 (.ret (.mk [(pc ahY 0),(pc ahY 1)])))))))
def an3:PT×List (Shp×PT):=(XA b,[(.lp 0 [2,4,5,6,7] [1] [2] [1],Nx b)])
def TP:AA.map told=some (an3 (bp AA)):=by kernel_rfl
def ayt:tree (ab AA)=XA Pz:=bF TP
def air:round 0 [2,4,5,6,7] [1] [2] [1] (Pz 0)=Nx Pz:=bk TP 0 λ_=>rfl
def AH:Option PC:=cF [6,7,8,9,10] [] Tryz.f16 16 [3,5]
def PG:Nat->PC:=bm AH
def as1:PC:=.block 0 [8,16,17] [] (.loop [8,16] [] (b 0))
def Hg (b:Nat->PC):PT:=
 (.ite (aj cv dg)
 (.chk (aq cm cv)
 (.chk (.nt (.an (.an (aV cv (pi 0)) (.an (.nt (.pick (.pick r8 pT (aj ml (pi 0))) pT (bh ml nk))) pT)) (.nt (aq r1 (bo cv (pi 1))))))
 (.next ⟨[(8,(.pick (.pick (.pick r8 pT (aj ml (pi 0))) pT (bh ml nk)) pT (.pick (aV cv (pi 0)) (bh (pn r1 (bo cv (pi 1))) ml) pF))),(16,(aE cv (pi 1)))],[]⟩)))
 (.exit 0 ⟨[(17,(aj cv dg))],[]⟩))
def XS:PT:=
 (.call ⟨[],[(5,(.mk [r2])),(3,(.mk [r0]))]⟩ [] 12 19 [(.mk [(pc (.mk [r2]) 0),(pc (.mk [r2]) 1)])]
 (.brk ⟨[(16,(pi 0)),(15,(.llen r1)),(14,r1),(8,(aJ cj (pi 0)))],[]⟩
(as1 b)
 (.ite r8
 (.ret (.tup [(pi 0),(pi 1)]))
 (.call ⟨[],[]⟩ [] 51 30 [(aB 8 o3),r1,(.mk [(pc o5 0),(pc o5 1)])]
 (.ret (.tup [np,(pi 0)]))))))
def an9:PT×List (Shp×PT):=(XS b,[(.lp 0 [8,16,17] [] [8,16] [],Hg b)])
def TV:AH.map told=some (an9 (bp AH)):=by kernel_rfl
def ayM:tree (ab AH)=XS PG:=bF TV
def VD:round 0 [8,16,17] [] [8,16] [] (PG 0)=Hg PG:=bk TV 0 λ_=>rfl
def JR:Option PC:=cF [2,3] [] Tryz.f19 19 [1]
def Dr:PT:=
 (.call ⟨[(18,(.pick (.pick (aj jY (pi 0)) pT (aV jY (pi 1000))) pT (aJ (.llen mh) (pi 10))))],[]⟩ [(18,false)] 22 42 [mh,(.con (.clo 41 []))]
 (.ite (.pick cO pT oM)
 (.ret (pi 1))
 (.ret (pi 0))))
def ago:JR.map told=some (Dr,[]):=by kernel_rfl
def ayO:tree (ab JR)=Dr:=aU ago
def JS:Option PC:=cF [2] [] Tryz.f41 41 [1]
def XT:PT:=
 (.ret (.pick (.pick (.pick (aj mh (pi 1)) pT (aV mh (pi 1073741824))) pT (aj jY (pi 0))) pT (aV jY mh)))
def agp:JS.map told=some (XT,[]):=by kernel_rfl
def ayN:tree (ab JS)=XT:=aU agp
def Ke:Option PC:=cF [4] [] Tryz.f42 42 []
def YK:PT:=
 (.call ⟨[],[]⟩ [] 7 81 [r0,r1]
 (.ret (bh r7 (pi 0))))
def agN:Ke.map told=some (YK,[]):=by kernel_rfl
def azI:tree (ab Ke)=YK:=aU agN
def Be:Option PC:=cF [4,5] [] Tryz.f81 81 []
def P4:Nat->PC:=bm Be
def atT:PC:=.block 0 [4,8,9] [] (.loop [4,8] [] (b 0))
def HV (b:Nat->PC):PT:=
 (.ite (aj r8 r7)
 (.blockS ⟨[],[]⟩ 1 [4,5,10,11,12,13,14,15,16] []
 (.chk (aq r0 r8)
 (.callc ⟨[(5,r8)],[]⟩ [] 16 r1 [(pn r0 r8)]
 (.ite cv
 (.ret r5)
 (.next ⟨[],[]⟩))))
 (.next ⟨[(8,va)],[]⟩))
 (.exit 0 ⟨[(9,(aj r8 r7))],[]⟩))
def YP:PT:=
 (.brk ⟨[(8,(pi 0)),(7,(.llen r0)),(4,(pi 0))],[]⟩
(atT b)
 (.ret (pi (-1))))
def aoI:PT×List (Shp×PT):=(YP b,[(.lp 0 [4,8,9] [] [4,8] [],HV b)])
def Ui:Be.map told=some (aoI (bp Be)):=by kernel_rfl
def azN:tree (ab Be)=YP P4:=bF Ui
def Wc:round 0 [4,8,9] [] [4,8] [] (P4 0)=HV P4:=bk Ui 0 λ_=>rfl
def AJ:Option PC:=cF [6,7,9] [] Tryz.f30 30 [3,5,1,10]
def PJ:Nat->PC:=bm AJ
def as3:PC:=.block 0 [7,18,19] [] (.loop [7,18] [] (b 0))
def ND (b:Nat->PC):PT:=
 (.ite (aj cO dz)
 (.chk (aq o1 cO)
 (.chk (aq (pc o3 2) (pn o1 cO))
 (.chk (aq (pc o5 1) (pc (pn (pc o3 2) (pn o1 cO)) 0))
 (.chk (aJ (pc Ng 1) (pi 0))
 (.next ⟨[(7,(.ai .quo .i64 (bo (aE (.ai .mul .i64 r7 (pc Ng 0)) (pc Ng 1)) (pi 1)) (pc Ng 1))),(18,(aE cO (pi 1)))],[]⟩)))))
 (.exit 0 ⟨[(19,(aj cO dz))],[]⟩))
def XX:PT:=
 (.call ⟨[],[(5,(.mk [r2])),(3,(.mk [r0]))]⟩ [] 12 60 [r1]
 (.mcall ⟨[],[(3,(aB 8 o3)),(1,cj)]⟩ 1000000013 61 [pN,(.clo 62 [(.ref (aB 8 o3))]),cj]
 (.brk ⟨[(18,(pi 0)),(17,(.llen GL)),(7,wI)],[(1,GL)]⟩
(as3 b)
 (.ret r7))))
def aob:PT×List (Shp×PT):=(XX b,[(.lp 0 [7,18,19] [] [7,18] [],ND b)])
def TX:AJ.map told=some (aob (bp AJ)):=by kernel_rfl
def ayU:tree (ab AJ)=XX PJ:=bF TX
def aix:round 0 [7,18,19] [] [7,18] [] (PJ 0)=ND PJ:=bk TX 0 λ_=>rfl
def Qq:Option PC:=cF [5] [] Tryz.f62 62 []
def ayT:PT:=
 (.chk (aq (pc (.deref r2) 2) r0)
 (.chk (aq (pc (.deref r2) 2) r1)
 (.ret (bo (pc (pn (pc (.deref r2) 2) r0) 0) (pc (pn (pc (.deref r2) 2) r1) 0)))))
def auC:Qq.map told=some (ayT,[]):=by kernel_rfl
def JC:Option PC:=cF [] [] Tryz.f18 18 [4,69636,73732,5,6,7]
def Xx:PT:=
 (.ret (.mk [(pc kY 0),(pc kY 1),(pc kY 2),(pc kY 3),(pc kY 4),(pc kY 5),(pc kY 6),(pc kY 7),(pc kY 8),(pc kY 9),(pc kY 10),(pc kY 11),(pc kY 12),(pc kY 13),(pc kY 14),(pc kY 15),pL,pL,(pc kY 18)]))
def af7:JC.map told=some (Xx,[]):=by kernel_rfl
def ayq:tree (ab JC)=Xx:=aU af7
def AI:Option PC:=cF [10,11,13,14,15,18,19,20] [] Tryz.f10 10 [5,7,9,12,17,52]
def PH:Nat->PC:=bm AI
def as2:PC:=.block 0 [13,14,15,39,40] [] (.loop [13,14,15,39] [] (b 0))
def NC (b:Nat->PC):PT:=
 (.ite (aj qp jE)
 (.blockS ⟨[],[]⟩ 1 [13,14,15,17,41,42,43,44,45,46] [17]
 (.chk (aq TE qp)
 (.ite (bI (pc U3 5) dg)
 (.exit 1 ⟨[],[]⟩)
 (.call ⟨[(47,(aB 8 o5))],[(17,U3)]⟩ [] 52 31 [(aB 8 o5),TE,(pc U3 5)]
 (.call ⟨[],[]⟩ [] 54 30 [CY,CZ,(.mk [(pc o9 0),(pc o9 1)])]
 (.chk (aJ wI (pi 0))
 (.next ⟨[(15,(pc Mq 5)),(14,(.ai .rem .i64 ahG wI)),(13,(aE (aE dN (.ai .mul .i64 (.ai .quo .i64 (bo (pc Mq 5) dg) wI) (bo wI mu))) (.ai .quo .i64 ahG wI)))],[]⟩))))))
 (.next ⟨[(39,(aE qp (pi 1)))],[]⟩))
 (.exit 0 ⟨[(40,(aj qp jE))],[]⟩))
def XW:PT:=
 (.call ⟨[],[(9,(.mk [r4])),(7,(.mk [r2])),(5,(.mk [r0]))]⟩ [] 22 19 [(.mk [(pc (.mk [r4]) 0),(pc (.mk [r4]) 1)])]
 (.call ⟨[(24,(aJ oM (pi 0)))],[]⟩ [(24,false)] 27 26 [(aB 8 o5),r1]
 (.ite (.pick oN pT (.nt eL))
 (.ret (.tup [(pi 0),(pi 1)]))
 (.call ⟨[],[]⟩ [] 34 27 [(aB 8 o5),r1,(aB 19 o7),r3]
 (.mcall ⟨[(12,pN)],[(12,G1)]⟩ 1000000013 28 [pN,(.con (.clo 29 [])),G1]
 (.brk ⟨[(39,(pi 0)),(38,(.llen GL)),(15,(pi 0)),(14,(pi 0)),(13,(pi 0))],[(12,GL)]⟩
(as2 b)
 (.ret (.tup [dN,(pi 0)]))))))))
def aoa:PT×List (Shp×PT):=(XW b,[(.lp 0 [13,14,15,39,40] [] [13,14,15,39] [],NC b)])
def TW:AI.map told=some (aoa (bp AI)):=by kernel_rfl
def ayS:tree (ab AI)=XW PH:=bF TW
def aiw:round 0 [13,14,15,39,40] [] [13,14,15,39] [] (PH 0)=NC PH:=bk TW 0 λ_=>rfl
def JV:Option PC:=cF [4] [] Tryz.f26 26 [2]
def XZ:PT:=
 (.ret (.pick (bh r1 (pi 0)) (aj r1 GN) pF))
def ags:JV.map told=some (XZ,[]):=by kernel_rfl
def ayW:tree (ab JV)=XZ:=aU ags
def JW:Option PC:=cF [] [] Tryz.f27 27 [4,6,8]
def X0:PT:=
 (.call ⟨[],[]⟩ [] 13 11 [jX,r1,GQ,r3]
 (.call ⟨[],[]⟩ [] 14 56 [dN,(.con (.clo 57 []))]
 (.ret cm)))
def agt:JW.map told=some (X0,[]):=by kernel_rfl
def ayY:tree (ab JW)=X0:=aU agt
def Aq:Option PC:=cF [11] [] Tryz.f11 11 [4,6,8,9,10,28]
def Pq:Nat->PC:=bm Aq
def asM:PC:=.block 0 [10,21,22] [10] (.loop [10,21] [10] (b 0))
def Nu (b:Nat->PC):PT:=
 (.ite (aj iK fc)
 (.blockS ⟨[],[]⟩ 1 [10,11,23,25,26,27,28,29] [10,28]
 (.call ⟨[],[]⟩ [] 27 33 [(aB 31 o9),iK]
 (.chk (bI (.llen (.app cg (.lst [eL]))) cQ)
 (.next ⟨[(10,pN)],[(10,(.app cg (.lst [eL])))]⟩)))
 (.next ⟨[(21,(aE iK (pi 1)))],[]⟩))
 (.exit 0 ⟨[(22,(aj iK fc))],[]⟩))
def Xb:PT:=
 (.call ⟨[],[]⟩ [] 16 32 [jX,r1,GQ,r3]
 (.brk ⟨[(21,(pi 0)),(20,(.llen (pc (.setc U7 0 cv) 25))),(10,pN)],[(10,pL),(9,(.setc U7 0 cv))]⟩
(asM b)
 (.ret cg)))
def anT:PT×List (Shp×PT):=(Xb b,[(.lp 0 [10,21,22] [10] [10,21] [10],Nu b)])
def TG:Aq.map told=some (anT (bp Aq)):=by kernel_rfl
def ax1:tree (ab Aq)=Xb Pq:=bF TG
def aio:round 0 [10,21,22] [10] [10,21] [10] (Pq 0)=Nu Pq:=bk TG 0 λ_=>rfl
def Jn:Option PC:=cF [] [] Tryz.f32 32 [4,6,8,9]
def Xd:PT:=
 (.call ⟨[],[(8,U7),(4,(.mk [r0]))]⟩ [] 12 34 [GQ,r3]
 (.call ⟨[(16,(aB 19 (.setc zn 0 cj))),(15,r3),(14,r1),(13,(aB 8 o4))],[(9,(.setc zn 0 cj))]⟩ [] 21 36 [(aB 8 o4),r1,(pi 0),(aB 19 (.setc zn 0 cj)),r3]
 (.call ⟨[],[]⟩ [] 22 65 [iK]
 (.call ⟨[],[]⟩ [] 27 13 [(aB 8 o4),r1,(aB 19 o9),r3]
 (.ret (aB 31 (.setc o8 0 (.mk [dN,cm,dg,cv,oM,eL]))))))))
def afP:Jn.map told=some (Xd,[]):=by kernel_rfl
def ax3:tree (ab Jn)=Xd:=aU afP
def A8:Option PC:=cF [1000004,1000005] [] Tryz.f34 34 [2,4,65540,69636,73732,77828,5,65541,69637,73733,77829,7,31,9,49,11,13]
def ui:Nat->PC:=bm A8
def atH:PC:=.block 0 [20,21] [65541,5] (.loop [20] [65541,5] (b 0))
def atI:PC:=.block 2 [38,39] [73733,5] (.loop [38] [73733,5] (b 1))
def atJ:PC:=.block 4 [56,57] [5,69637] (.loop [56] [5,69637] (b 2))
def atK:PC:=.block 6 [76,77] [5,77829] (.loop [76] [5,77829] (b 3))
def HL (b:Nat->PC):PT:=
 (.ite (aj fc ji)
 (.chk (aq cO fc)
 (.ite (aV (pc (.setc z9 0 (pn cO fc)) 6) r1)
 (.exit 0 ⟨[(21,(aj fc ji))],[]⟩)
 (.chk (bI (.llen (.app (.o 65541) (.lst [(aB 9 (.setc z9 0 (pn cO fc)))]))) cQ)
 (.next ⟨[(20,(aE fc (pi 1)))],[(65541,(.app (.o 65541) (.lst [(aB 9 (.setc z9 0 (pn cO fc)))]))),(5,(.setc o5 15 pN))]⟩))))
 (.exit 0 ⟨[(21,(aj fc ji))],[]⟩))
def HM (b:Nat->PC):PT:=
 (.ite (aj jE mq)
 (.chk (aq lb jE)
 (.ite (aV (pc (.setc z9 0 (pn lb jE)) 6) r1)
 (.exit 2 ⟨[(39,(aj jE mq))],[]⟩)
 (.chk (bI (.llen (.app (.o 73733) (.lst [(aB 9 (.setc z9 0 (pn lb jE)))]))) cQ)
 (.next ⟨[(38,(aE jE (pi 1)))],[(73733,(.app (.o 73733) (.lst [(aB 9 (.setc z9 0 (pn lb jE)))]))),(5,(.setc o5 17 pN))]⟩))))
 (.exit 2 ⟨[(39,(aj jE mq))],[]⟩))
def HO (b:Nat->PC):PT:=
 (.ite (aj tH C0)
 (.chk (aq mu tH)
 (.ite (bI (pc (.setc z2 0 (pn mu tH)) 0) (.llen (.o 65541)))
 (.chk (bI (.llen ah3) cQ)
 (.next ⟨[(56,(aE tH (pi 1)))],[(5,(.setc o5 16 pN)),(69637,ah3)]⟩))
 (.next ⟨[(56,(aE tH (pi 1)))],[]⟩)))
 (.exit 4 ⟨[(57,(aj tH C0))],[]⟩))
def HP (b:Nat->PC):PT:=
 (.ite (aj vc Vo)
 (.blockS ⟨[],[]⟩ 7 [13,78,79,80,81,82,83,84,85] [13,77829,5]
 (.chk (aq Vn vc)
 (.call ⟨[],[(13,(.setc z3 0 (pn Vn vc)))]⟩ [] 85 70 [(pc (.setc z3 0 (pn Vn vc)) 1),(.llen (.o 65541))]
 (.ite G7
 (.chk (bI (.llen ahP) cQ)
 (.next ⟨[],[(77829,ahP),(5,(.setc o5 18 pN))]⟩))
 (.next ⟨[],[]⟩))))
 (.next ⟨[(76,(aE vc (pi 1)))],[]⟩))
 (.exit 6 ⟨[(77,(aj vc Vo))],[]⟩))
def YB:PT:=
 (.brk ⟨[(20,(pi 0)),(19,(.llen rS)),(18,rS)],[(77829,pL),(73733,pL),(69637,pL),(65541,pL),(5,(.setc zn 0 (.mk [(aB 15 (.mk [r0])),pL,pL,pL,pL]))),(4,zn),(2,(.mk [r0]))]⟩
(atH b)
 (.brk ⟨[(38,(pi 0)),(37,(.llen (pc o2 17))),(36,(pc o2 17))],[]⟩
(atI b)
 (.brk ⟨[(56,(pi 0)),(55,(.llen (pc o2 16))),(54,(pc o2 16))],[]⟩
(atJ b)
 (.brk ⟨[(76,(pi 0)),(75,(.llen (pc o2 18))),(74,(pc o2 18))],[]⟩
(atK b)
 (.ret (.mk [(pc mj 0),(pc mj 1),(pc mj 2),(pc mj 3),(pc mj 4),(pc mj 5),(pc mj 6),(pc mj 7),(pc mj 8),(pc mj 9),(pc mj 10),(pc mj 11),(pc mj 12),(pc mj 13),(pc mj 14),(.o 65541),(.o 69637),(.o 73733),(.o 77829)]))))))
def aoC:PT×List (Shp×PT):=(YB b,[(.lp 0 [20,21] [65541,5] [20] [65541,5],HL b),(.lp 2 [38,39] [73733,5] [38] [73733,5],HM b),(.lp 4 [56,57] [5,69637] [56] [5,69637],HO b),(.lp 6 [76,77] [5,77829] [76] [5,77829],HP b)])
def CC:A8.map told=some (aoC (bp A8)):=by kernel_rfl
def azz:tree (ab A8)=YB ui:=bF CC
def V3:round 0 [20,21] [65541,5] [20] [65541,5] (ui 0)=HL ui:=bk CC 0 λ_=>rfl
def V4:round 2 [38,39] [73733,5] [38] [73733,5] (ui 1)=HM ui:=bk CC 1 λ_=>rfl
def V5:round 4 [56,57] [5,69637] [56] [5,69637] (ui 2)=HO ui:=bk CC 2 λ_=>rfl
def V6:round 6 [76,77] [5,77829] [76] [5,77829] (ui 3)=HP ui:=bk CC 3 λ_=>rfl
def Kc:Option PC:=cF [4] [] Tryz.f70 70 []
def YH:PT:=
 (.ret U4)
def agL:Kc.map told=some (YH,[]):=by kernel_rfl
def azF:tree (ab Kc)=YH:=aU agL
def Jf:Option PC:=cF [] [] Tryz.f36 36 [5,8,77832,10]
def W4:PT:=
 (.call ⟨[],[(10,CU)]⟩ [] 18 71 [jX,r1,r2,(.mk [(.mk [(pc kE 0),(pc kE 1),(pc kE 2),(pc kE 3),(pc kE 4),(pc kE 5),(pc kE 6),(pc kE 7),(pc kE 8),(pc kE 9),(pc kE 10),(pc kE 11),(pc kE 12),(pc kE 13),(pc kE 14),(pc kE 15),(pc kE 16),(pc kE 17),pL]),(pi 0),(pi (-1)),(pi (-1)),(pi (-1)),r4])]
 (.ret (aB 5 (.setc cg 0 cO))))
def afH:Jf.map told=some (W4,[]):=by kernel_rfl
def axT:tree (ab Jf)=W4:=aU afH
def Je:Option PC:=cF [10] [] Tryz.f71 71 [4,7,8,9]
def W3:PT:=
 (.call ⟨[],[(8,CU),(4,(.mk [r0]))]⟩ [] 16 109 [jX,r1,r2,(aB 24 (.mk [r3]))]
 (.iteS ⟨[(10,(.tget cv 1))],[(9,(.setc CU 0 (.tget cv 0)))]⟩ (aJ (pc (.setc CU 0 (.tget cv 0)) 2) (pi (-1))) [] [9]
 (.chk (aq (pc o4 4) (pc o9 2))
 (.call ⟨[],[]⟩ [] 31 110 [(pn (pc o4 4) (pc o9 2)),r2,dy]
 (.next ⟨[],[(9,(.setc (.setc o9 0 (.tget rX 0)) 4 (.tget rX 1)))]⟩)))
 (.next ⟨[],[]⟩)
 (.ret (aB 5 (.setc o8 0 (aB 5 o9))))))
def afG:Je.map told=some (W3,[]):=by kernel_rfl
def axS:tree (ab Je)=W3:=aU afG
def Jj:Option PC:=cF [9,11,12,13,14] [] Tryz.f109 109 [4,7,8,10,16394]
def W8:PT:=
 (.call ⟨[],[(16394,pL),(10,(.setc CU 0 (.mk [gD,(pi (-1)),pL,(pi 1)]))),(8,CU),(7,(.mk [r3])),(4,(.mk [r0]))]⟩ [] 19 156 [jX,(aB 24 (.mk [r3]))]
 (.ite (peq (.llen (.tget ji 1)) (pi 0))
 (.ret (.tup [Ve,pL]))
 (.call ⟨[(11,(.tget ji 1))],[(7,(.setc o7 0 (.tget ji 0)))]⟩ [] 28 157 [r2]
 (.ite (.nt (.tget tD 1))
 (.ret (.tup [Ve,pL]))
 (.call ⟨[],[]⟩ [] 37 158 [(aB 8 o4),r1,(aB 24 o7)]
 (.ite (peq (.llen mq) (pi 0))
 (.ret (.tup [Ve,pL]))
 (.call ⟨[],[]⟩ [] 46 159 [(aB 8 o4),r1,r2,mq]
 (.ite (peq (pc zx 4) (pi 0))
 (.chk (aq (pc zx 3) (bo (.llen (pc zx 3)) (pi 1)))
 (.ret (.tup [(aB 5 (.setc o8 0 (aB 5 (.setc zx 2 (pn (pc zx 3) (bo (.llen (pc zx 3)) (pi 1))))))),bQ])))
 (.ret (.tup [(aB 5 (.setc o8 0 (aB 5 zx))),bQ]))))))))))
def afL:Jj.map told=some (W8,[]):=by kernel_rfl
def axX:tree (ab Jj)=W8:=aU afL
def Jk:Option PC:=cF [5] [] Tryz.f156 156 [2,3,4]
def W9:PT:=
 (.call ⟨[],[(4,ahQ),(3,(.mk [r1])),(2,(.mk [r0]))]⟩ [] 10 34 [(aB 19 (.mk [r1])),(pc (.mk [r1]) 23)]
 (.call ⟨[(12,(aB 24 (.setc o3 0 dy)))],[]⟩ [] 15 176 [(aB 8 o2),(aB 24 (.setc o3 0 dy))]
 (.ret (.tup [(aB 24 (.setc o4 0 cj)),dg]))))
def afM:Jk.map told=some (W9,[]):=by kernel_rfl
def axY:tree (ab Jk)=W9:=aU afM
def Bb:Option PC:=cF [4,7,9,11,12,13,14,15,16] [] Tryz.f176 176 [2,3,5,6,8,10,90,139]
def Ed:Nat->PC:=bm Bb
def aua:PC:=.meach 90 [94,95,11,12] [0,1,0,1] [10] (b 0)
def aub:PC:=.meach 139 [143,144,15,16] [0,1,0,1] [10] (b 1)
def V9 (b:Nat->PC):PT:=
 (.chk (aq cg bQ)
 (.next ⟨[],[(10,(.setn cg bQ 0 (.mk [pT,cj])))]⟩))
def Wa (b:Nat->PC):PT:=
 (.blockS ⟨[],[]⟩ 3 [145,146,147,148,149] [10]
 (.call ⟨[(146,dg)],[]⟩ [] 148 195 [cv]
 (.chk (aq cg (.r 146))
 (.next ⟨[],[(10,(.setn cg (.r 146) 0 (.r 148)))]⟩)))
 (.next ⟨[],[]⟩))
def xb:PT:=
 (.call ⟨[(7,(.mx (pc (.mk [r1]) 20) (pi 0)))],[(6,(.setc ID 0 (aB 15 (.mk [r1])))),(5,(.setc zn 0 (aB 19 (.mk [r1])))),(3,(.mk [r1])),(2,(.mk [r0]))]⟩ [] 30 70 [(pc (.mk [r1]) 19),(.llen (pc (.setc zn 0 (aB 19 (.mk [r1]))) 15))]
 (.call ⟨[(48,(aJ (pc o3 22) (pi (-1)))),(44,(.pick (.pick (.nt qo) pT (aj (pc o3 20) (pi (-1)))) pT (bh r7 (.llen (pc o5 15)))))],[]⟩ [(48,true),(44,false)] 51 70 [(pc o3 22),(pi 100001)]
 (.ite (.pick wM pT (.pick jZ (.nt np) pF))
 (.ret pL)
 (.chk (aq (pc o5 15) (pc o3 19))
 (.call ⟨[],[(8,(.setc z9 0 (pn (pc o5 15) (pc o3 19))))]⟩ [] 63 70 [(pc (.setc z9 0 (pn (pc o5 15) (pc o3 19))) 6),(pi 100001)]
 (.ite (.nt Nq)
 (.ret pL)
 (.chk (.an (bh (pi 20) (pi 0)) (bI (pi 20) cQ))
 (.chk (peq (pi 20) (pi 20))
 (.chk (aj (.mlen (.con (.map []))) cQ)
 (.chk (aj (.mlen (.put (.con (.map [])) (pi 0) (pc o6 3))) cQ)
 (.chk (aj (.mlen (.put (.put (.con (.map [])) (pi 0) (pc o6 3)) (pi 1) (pc o6 14))) cQ)
 (.chk (aj (.mlen U8) cQ)
 (.chk (aj (.mlen (.put U8 (pi 3) (pc o6 12))) cQ)
 (.chk (aj (.mlen Vg) cQ)
 (.chk (aj (.mlen (.put Vg (pi 5) (pc o3 21))) cQ)
 (.blockS ⟨[(10,pN),(9,ahN)],[(90,(.tup [(.lst []),(.put (.put Vg (pi 5) (pc o3 21)) (pi 6) ahN)])),(10,(.rep (pi 20) gD))]⟩ 0 [] [10]
 (.brk ⟨[],[]⟩
(aua b)
 (.exit 0 ⟨[],[]⟩))
 (.call ⟨[],[(3,(aB 24 o3))]⟩ [] 104 193 [(pc o5 16),(.clo 194 [(.ref (aB 24 o3))])]
 (.call ⟨[(13,avZ)],[]⟩ [] 108 123 [(aB 8 o2),(pc o6 9)]
 (.call ⟨[],[]⟩ [] 112 123 [(aB 8 o2),(pc o6 10)]
 (.chk (aj (.mlen (.con (.map []))) cQ)
 (.chk (aj (.mlen Vf) cQ)
 (.chk (aj (.mlen (.put Vf (pi 8) (peq (pc o6 2) (pi (-1))))) cQ)
 (.chk (aj (.mlen (.put (.put Vf (pi 8) (peq (pc o6 2) (pi (-1)))) (pi 9) (aJ (.ai .and .i64 (pc o6 13) (pi 4)) (pi 0)))) cQ)
 (.chk (aj (.mlen M3) cQ)
 (.chk (aj (.mlen (.put M3 (pi 11) (aJ No Vl))) cQ)
 (.chk (aj (.mlen (.put (.put M3 (pi 11) (aJ No Vl)) (pi 12) dN)) cQ)
 (.chk (aj (.mlen ahX) cQ)
 (.blockS ⟨[],[(139,(.tup [(.lst []),(.put ahX (pi 14) (aV r9 (pi 0)))]))]⟩ 2 [] [10]
 (.brk ⟨[],[]⟩
(aub b)
 (.exit 2 ⟨[],[]⟩))
 (.call ⟨[],[]⟩ [] 154 196 [(aB 19 o5),(pi 0),(pc o3 19)]
 (.chk (aq cg (pi 15))
 (.call ⟨[],[(10,(.setn cg (pi 15) 0 (.r 154)))]⟩ [] 160 196 [(aB 19 o5),(pi 1),(pc o3 19)]
 (.chk (aq cg (pi 16))
 (.call ⟨[],[(10,(.setn cg (pi 16) 0 (.r 160)))]⟩ [] 166 196 [(aB 19 o5),(pi 2),(pc o3 19)]
 (.chk (aq cg (pi 17))
 (.call ⟨[],[(10,(.setn cg (pi 17) 0 (.r 166)))]⟩ [] 171 196 [(aB 19 o5),(pi 3),r7]
 (.chk (aq cg (pi 18))
 (.call ⟨[],[(10,(.setn cg (pi 18) 0 (.r 171)))]⟩ [] 176 196 [(aB 19 o5),(pi 4),r7]
 (.chk (aq cg (pi 19))
 (.ret (.setn cg (pi 19) 0 (.r 176)))))))))))))))))))))))))))))))))))))))))
def aoF:PT×List (Shp×PT):=(xb b,[(.ea [10],V9 b),(.ea [10],Wa b)])
def ME:Bb.map told=some (aoF (bp Bb)):=by kernel_rfl
def azD:tree (ab Bb)=xb Ed:=bF ME
def awr:sk [10] (Ed 0)=V9 Ed:=W0 ME 0 λ_=>rfl
def aws:sk [10] (Ed 1)=Wa Ed:=W0 ME 1 λ_=>rfl
def Ka:Option PC:=cF [3] [] Tryz.f194 194 [2]
def YE:PT:=
 (.ret (bI jY (pc (.deref r1) 19)))
def agJ:Ka.map told=some (YE,[]):=by kernel_rfl
def azC:tree (ab Ka)=YE:=aU agJ
def Kd:Option PC:=cF [4] [] Tryz.f193 193 []
def YJ:PT:=
 (.call ⟨[],[]⟩ [] 7 206 [r0,r1]
 (.ret (bh r7 (pi 0))))
def agM:Kd.map told=some (YJ,[]):=by kernel_rfl
def azH:tree (ab Kd)=YJ:=aU agM
def Bd:Option PC:=cF [4,5] [] Tryz.f206 206 []
def P3:Nat->PC:=bm Bd
def atQ:PC:=.block 0 [4,8,9] [] (.loop [4,8] [] (b 0))
def HU (b:Nat->PC):PT:=
 (.ite (aj r8 r7)
 (.blockS ⟨[],[]⟩ 1 [4,5,10,11,12,13,14,15,16] []
 (.chk (aq r0 r8)
 (.callc ⟨[(5,r8)],[]⟩ [] 16 r1 [(pn r0 r8)]
 (.ite cv
 (.ret r5)
 (.next ⟨[],[]⟩))))
 (.next ⟨[(8,va)],[]⟩))
 (.exit 0 ⟨[(9,(aj r8 r7))],[]⟩))
def YO:PT:=
 (.brk ⟨[(8,(pi 0)),(7,(.llen r0)),(4,(pi 0))],[]⟩
(atQ b)
 (.ret (pi (-1))))
def aoH:PT×List (Shp×PT):=(YO b,[(.lp 0 [4,8,9] [] [4,8] [],HU b)])
def Uh:Bd.map told=some (aoH (bp Bd)):=by kernel_rfl
def azM:tree (ab Bd)=YO P3:=bF Uh
def Wb:round 0 [4,8,9] [] [4,8] [] (P3 0)=HU P3:=bk Uh 0 λ_=>rfl
def J7:Option PC:=cF [4] [] Tryz.f123 123 [2]
def Yq:PT:=
 (.call ⟨[],[(2,(.mk [r0]))]⟩ [] 9 116 [r1,(.llen mh)]
 (.ite (.nt r9)
 (.ret (pi (-1)))
 (.chk (aq (pc o2 1) r1)
 (.ret (pc (pn (pc o2 1) r1) 1)))))
def agG:J7.map told=some (Yq,[]):=by kernel_rfl
def azo:tree (ab J7)=Yq:=aU agG
def J8:Option PC:=cF [4] [] Tryz.f116 116 []
def Yt:PT:=
 (.ret U4)
def agH:J8.map told=some (Yt,[]):=by kernel_rfl
def azr:tree (ab J8)=Yt:=aU agH
def Kb:Option PC:=cF [] [] Tryz.f195 195 [2]
def YG:PT:=
 (.ite r0
 (.ret (.mk [(pc MX 0),(pc MX 1)]))
 (.ret (.mk [(pc MY 0),(pc MY 1)])))
def agK:Kb.map told=some (YG,[]):=by kernel_rfl
def azE:tree (ab Kb)=YG:=aU agK
def A9:Option PC:=cF [] [] Tryz.f196 196 [3,6,8]
def P2:Nat->PC:=bm A9
def atL:PC:=.block 0 [12,13] [6] (.loop [12] [6] (b 0))
def HQ (b:Nat->PC):PT:=
 (.ite wG
 (.blockS ⟨[],[]⟩ 1 [8,14,15,16,17,18,19,20,25] [8,6]
 (.chk (aq dy cj)
 (.iteS ⟨[],[(8,(.setc z3 0 qn))]⟩ (.pick (peq (pc (.setc z3 0 qn) 0) r1) (peq (pc (.setc z3 0 qn) 1) r2) pF) [] [6]
 (.call ⟨[],[]⟩ [] 29 195 [(aJ (pc o8 2) (pi 0))]
 (.ret (.mk [(pc (.setc o6 0 nl) 0),(pc (.setc o6 0 nl) 1)])))
 (.next ⟨[],[]⟩)
 (.next ⟨[],[]⟩)))
 (.next ⟨[(12,CP)],[]⟩))
 (.exit 0 ⟨[(13,wG)],[]⟩))
def YC:PT:=
 (.brk ⟨[(12,(pi 0)),(11,(.llen (pc (.mk [r0]) 18))),(10,(pc (.mk [r0]) 18))],[(6,gD)]⟩
(atL b)
 (.ret (.mk [(pc (.setc o6 0 zq) 0),(pc (.setc o6 0 zq) 1)])))
def aoD:PT×List (Shp×PT):=(YC b,[(.lp 0 [12,13] [6] [12] [6],HQ b)])
def Ug:A9.map told=some (aoD (bp A9)):=by kernel_rfl
def azA:tree (ab A9)=YC P2:=bF Ug
def V7:round 0 [12,13] [6] [12] [6] (P2 0)=HQ P2:=bk Ug 0 λ_=>rfl
def JJ:Option PC:=cF [2,3,4,11] [] Tryz.f157 157 []
def XG:PT:=
 (.blockS ⟨[],[]⟩ 0 [2,3,4,5,6,7,10,11,12,13,14] []
 (.iteS ⟨[],[]⟩ (.pick (aj r0 (pi 0)) pT (bh r0 (pi 22))) [2,3,11,12,13,14] []
 (.ret (.tup [(pi 0),pF]))
 (.call ⟨[],[]⟩ [] 14 168 [(.lst [(pc tA 0),(pc tA 1),(pc tA 2),(pc tA 3),(pc tA 4),(pc tA 5),(pc tA 6),(pc tA 7),(pc tA 8),(pc tA 9)]),r0]
 (.ite cm
 (.ret (.tup [(pi 0),pT]))
 (.next ⟨[],[]⟩)))
 (.next ⟨[],[]⟩))
 (.ret (.tup [(pi 1),pT])))
def agf:JJ.map told=some (XG,[]):=by kernel_rfl
def ayz:tree (ab JJ)=XG:=aU agf
def Kg:Option PC:=cF [4] [] Tryz.f168 168 []
def YM:PT:=
 (.call ⟨[],[]⟩ [] 7 190 [r0,r1]
 (.ret (bh r7 (pi 0))))
def agP:Kg.map told=some (YM,[]):=by kernel_rfl
def azK:tree (ab Kg)=YM:=aU agP
def Bh:Option PC:=cF [4,5] [] Tryz.f190 190 []
def P7:Nat->PC:=bm Bh
def atW:PC:=.block 0 [4,8,9] [] (.loop [4,8] [] (b 0))
def HY (b:Nat->PC):PT:=
 (.ite (aj r8 r7)
 (.chk (aq r0 r8)
 (.ite (peq r1 (pn r0 r8))
 (.ret r8)
 (.next ⟨[(8,va)],[]⟩)))
 (.exit 0 ⟨[(9,(aj r8 r7))],[]⟩))
def YS:PT:=
 (.brk ⟨[(8,(pi 0)),(7,(.llen r0)),(4,(pi 0))],[]⟩
(atW b)
 (.ret (pi (-1))))
def aoL:PT×List (Shp×PT):=(YS b,[(.lp 0 [4,8,9] [] [4,8] [],HY b)])
def Ul:Bh.map told=some (aoL (bp Bh)):=by kernel_rfl
def azQ:tree (ab Bh)=YS P7:=bF Ul
def Wf:round 0 [4,8,9] [] [4,8] [] (P7 0)=HY P7:=bk Ul 0 λ_=>rfl
def Ax:Option PC:=cF [8,9,11,12,13,14,55,70] [] Tryz.f159 159 [4,10,53]
def Pw:Nat->PC:=bm Ax
def asR:PC:=.block 0 [] [] (.loop [8,9,10] [10] (b 0))
def Vz (b:Nat->PC):PT:=
 (.blockS ⟨[],[]⟩ 1 [8,9,10,11,12,13,14,32,33,35,36,37,38,39,40,41,42,43,44,45,46,49,50,52,53,54,55,56,57,58,68,70,71] [53,10]
 (.chk (aq cg (bo (.llen cg) (pi 1)))
 (.call ⟨[(11,(pn cg (bo (.llen cg) (pi 1))))],[]⟩ [] 41 178 [(aB 8 o4),(pn cg (bo (.llen cg) (pi 1))),r2,r3]
 (.ite (peq (.tget tG 0) bQ)
 (.ret (.tup [cg,(pi 0)]))
 (.call ⟨[(13,(.tget tG 1)),(12,(.tget tG 0))],[]⟩ [] 50 168 [cg,(.tget tG 0)]
 (.chk (bI (.llen (.app cg (.lst [cj]))) cQ)
 (.chk (.nt (.an (.an nm (.an (.nt (.nt dN)) pT)) (.nt (aq (pc o4 4) cj))))
 (.ite (.pick (.nt dN) pT (.pick nm (pc (pn (pc o4 4) cj) 1) pF))
 (.ret (.tup [(.app cg (.lst [cj])),(pi 0)]))
 (.ite nm
 (.ret (.tup [(.app cg (.lst [cj])),(pi 12)]))
 (.next ⟨[(10,pN)],[(10,(.app cg (.lst [cj])))]⟩)))))))))
 (.next ⟨[],[]⟩))
def Xt:PT:=
 (.call ⟨[(9,(pi 0)),(8,pL)],[(4,(.mk [r0]))]⟩ [] 19 177 [jX,r1,r2,r3]
 (.chk (.nt (.an (.an (.nt (.nt ji)) pT) (.nt (aq r3 (pi 0)))))
 (.ite (.pick (.nt ji) pT (aJ (pn r3 (pi 0)) r1))
 (.ret (.tup [pL,(pi 1)]))
 (.brk ⟨[(10,pN)],[(10,(.lst [r1]))]⟩
(asR b)
 (.next ⟨[],[]⟩)))))
def an0:PT×List (Shp×PT):=(Xt b,[(.lp 0 [] [] [8,9,10] [10],Vz b)])
def TM:Ax.map told=some (an0 (bp Ax)):=by kernel_rfl
def ayl:tree (ab Ax)=Xt Pw:=bF TM
def awp:round 0 [] [] [8,9,10] [10] (Pw 0)=Vz Pw:=bk TM 0 λ_=>rfl
def JA:Option PC:=cF [8] [] Tryz.f177 177 [4,9]
def w9:PT:=
 (.ite (.pick (.pick (.pick (.pick (aj r1 (pi 0)) pT (bh r1 (pc (.setc GO 0 GN) 0))) pT (aj r2 (pi 0))) pT (bh r2 (pi 22))) pT (aJ (.llen r3) (pi 5)))
 (.ret pF)
 (.call ⟨[],[]⟩ [] 35 197 [r3,(.clo 198 [(.ref (pc (.setc GO 0 GN) 0))])]
 (.ret (.nt rY))))
def af5:JA.map told=some (w9,[]):=by kernel_rfl
def ayo:tree (ab JA)=w9:=aU af5
def JB:Option PC:=cF [3] [] Tryz.f198 198 []
def Xv:PT:=
 (.ret (.pick (aj r0 (pi 0)) pT (bh r0 (.deref r1))))
def af6:JB.map told=some (Xv,[]):=by kernel_rfl
def ayn:tree (ab JB)=Xv:=aU af6
def Kf:Option PC:=cF [4] [] Tryz.f197 197 []
def YL:PT:=
 (.call ⟨[],[]⟩ [] 7 207 [r0,r1]
 (.ret (bh r7 (pi 0))))
def agO:Kf.map told=some (YL,[]):=by kernel_rfl
def azJ:tree (ab Kf)=YL:=aU agO
def Bg:Option PC:=cF [4,5] [] Tryz.f207 207 []
def P6:Nat->PC:=bm Bg
def atV:PC:=.block 0 [4,8,9] [] (.loop [4,8] [] (b 0))
def HX (b:Nat->PC):PT:=
 (.ite (aj r8 r7)
 (.blockS ⟨[],[]⟩ 1 [4,5,10,11,12,13,14,15,16] []
 (.chk (aq r0 r8)
 (.callc ⟨[(5,r8)],[]⟩ [] 16 r1 [(pn r0 r8)]
 (.ite cv
 (.ret r5)
 (.next ⟨[],[]⟩))))
 (.next ⟨[(8,va)],[]⟩))
 (.exit 0 ⟨[(9,(aj r8 r7))],[]⟩))
def YR:PT:=
 (.brk ⟨[(8,(pi 0)),(7,(.llen r0)),(4,(pi 0))],[]⟩
(atV b)
 (.ret (pi (-1))))
def aoK:PT×List (Shp×PT):=(YR b,[(.lp 0 [4,8,9] [] [4,8] [],HX b)])
def Uk:Bg.map told=some (aoK (bp Bg)):=by kernel_rfl
def azP:tree (ab Bg)=YR P6:=bF Uk
def We:round 0 [4,8,9] [] [4,8] [] (P6 0)=HX P6:=bk Uk 0 λ_=>rfl
def Ay:Option PC:=cF [8,9] [] Tryz.f178 178 [4,11]
def Px:Nat->PC:=bm Ay
def asS:PC:=.block 0 [8,9,25,26] [] (.loop [8,9,25] [] (b 0))
def Hd (b:Nat->PC):PT:=
 (.ite (aj kF oN)
 (.chk (aq gE kF)
 (.ite (.pick (peq (pc GY 0) r2) (aJ (pc GY 1) (pi 0)) pF)
 (.chk (aq r3 (pc GY 1))
 (.ret (.tup [(pn r3 (pc GY 1)),(pc GY 2)])))
 (.next ⟨[(25,(aE kF (pi 1)))],[]⟩)))
 (.exit 0 ⟨[(26,(aj kF oN))],[]⟩))
def Xu:PT:=
 (.call ⟨[(9,pF),(8,(pi 0))],[(4,(.mk [r0]))]⟩ [] 16 177 [jX,r1,r2,r3]
 (.ite (.nt cv)
 (.ret (.tup [(pi (-1)),pF]))
 (.chk (aq (pc o4 4) r1)
 (.brk ⟨[(25,(pi 0)),(24,(.llen (pc (pn (pc o4 4) r1) 2))),(23,(pc (pn (pc o4 4) r1) 2))],[]⟩
(asS b)
 (.ret (.tup [r1,pF]))))))
def an1:PT×List (Shp×PT):=(Xu b,[(.lp 0 [8,9,25,26] [] [8,9,25] [],Hd b)])
def TN:Ay.map told=some (an1 (bp Ay)):=by kernel_rfl
def aym:tree (ab Ay)=Xu Px:=bF TN
def VA:round 0 [8,9,25,26] [] [8,9,25] [] (Px 0)=Hd Px:=bk TN 0 λ_=>rfl
def JI:Option PC:=cF [7,9,11,12] [] Tryz.f110 110 [3,6,8,10]
def XF:PT:=
 (.call ⟨[],[(6,gD)]⟩ [] 16 160 [(aB 4 (.mk [r0])),r1]
 (.ite (aJ (.tget cv 1) (pi 0))
 (.ret (.tup [(.mk [(pc (.setc o6 0 zq) 0),(pc (.setc o6 0 zq) 1)]),(.tget cv 1)]))
 (.call ⟨[],[]⟩ [] 25 161 [(.mk [(pc (.setc nj 0 (.tget cv 0)) 0),(pc (.setc nj 0 (.tget cv 0)) 1),(pc (.setc nj 0 (.tget cv 0)) 2)]),r2]
 (.call ⟨[],[(10,(.setc gD 0 kF))]⟩ [] 28 157 [r1]
 (.ret (.tup [(.mk [(pc (.setc o6 0 (.mk [(pc M7 0),(pc M7 1)])) 0),(pc (.setc o6 0 (.mk [(pc M7 0),(pc M7 1)])) 1)]),(pi 0)]))))))
def age:JI.map told=some (XF,[]):=by kernel_rfl
def ayy:tree (ab JI)=XF:=aU age
def JK:Option PC:=cF [5,6,7,8,10,11] [] Tryz.f160 160 [2,3,4,12292,9]
def XH:PT:=
 (.call ⟨[],[(4,nj),(3,(.mk [r1])),(2,(.mk [r0]))]⟩ [] 14 157 [(pc (.mk [r1]) 0)]
 (.ite (.nt (.tget cm 1))
 (.ret (.tup [Vd,(pi 1)]))
 (.call ⟨[(6,(.tget cm 0))],[]⟩ [] 23 179 [(pc o2 3),(.clo 180 [(.ref (pc o3 0))])]
 (.ite (aj gE (pi 0))
 (.ret (.tup [Vd,(pi 4)]))
 (.chk (aq (pc o2 3) gE)
 (.call ⟨[],[(9,Nh)]⟩ [] 35 181 [(.mk [(pc Nh 0),(pc Nh 1),(pc Nh 2)])]
 (.ite (.pick (aJ (.tget rY 1) (pi 0)) pT (aJ (.tget rY 0) r6))
 (.ret (.tup [Vd,(pi 11)]))
 (.ret (.tup [(.mk [(pc Vh 0),(pc Vh 1),(pc Vh 2)]),(pi 0)])))))))))
def agh:JK.map told=some (XH,[]):=by kernel_rfl
def ayB:tree (ab JK)=XH:=aU agh
def JL:Option PC:=cF [3] [] Tryz.f180 180 [2]
def XI:PT:=
 (.ret (peq jY (.deref r1)))
def agi:JL.map told=some (XI,[]):=by kernel_rfl
def ayA:tree (ab JL)=XI:=aU agi
def Bf:Option PC:=cF [4,5] [] Tryz.f179 179 []
def P5:Nat->PC:=bm Bf
def atU:PC:=.block 0 [4,8,9] [] (.loop [4,8] [] (b 0))
def HW (b:Nat->PC):PT:=
 (.ite (aj r8 r7)
 (.blockS ⟨[],[]⟩ 1 [4,5,10,11,12,13,14,15,16] []
 (.chk (aq r0 r8)
 (.callc ⟨[(5,r8)],[]⟩ [] 16 r1 [(pn r0 r8)]
 (.ite cv
 (.ret r5)
 (.next ⟨[],[]⟩))))
 (.next ⟨[(8,va)],[]⟩))
 (.exit 0 ⟨[(9,(aj r8 r7))],[]⟩))
def YQ:PT:=
 (.brk ⟨[(8,(pi 0)),(7,(.llen r0)),(4,(pi 0))],[]⟩
(atU b)
 (.ret (pi (-1))))
def aoJ:PT×List (Shp×PT):=(YQ b,[(.lp 0 [4,8,9] [] [4,8] [],HW b)])
def Uj:Bf.map told=some (aoJ (bp Bf)):=by kernel_rfl
def azO:tree (ab Bf)=YQ P5:=bF Uj
def Wd:round 0 [4,8,9] [] [4,8] [] (P5 0)=HW P5:=bk Uj 0 λ_=>rfl
def Kl:Option PC:=cF [2,3] [] Tryz.f181 181 [1]
def Zb:PT:=
 (.call ⟨[],[(1,(.mk [r0]))]⟩ [] 5 199 [(.mk [jY,mh,zy]),(pi 1)]
 (.ite (aV r5 (pi 60))
 (.ret (.tup [(pi 0),(pi 6)]))
 (.call ⟨[],[]⟩ [] 8 200 [(.mk [(pc o1 0),(pc o1 1),(pc o1 2)])]
 (.ret (.tup [(.tget r8 0),(.tget r8 1)])))))
def agX:Kl.map told=some (Zb,[]):=by kernel_rfl
def azY:tree (ab Kl)=Zb:=aU agX
def xZ:Option PC:=cF [4,5] [] Tryz.f199 199 [2,7,12295]
def Qc:Nat->PC:=bm xZ
def at4:PC:=.block 0 [5,13,14] [] (.loop [5,13] [] (b 0))
def H3 (b:Nat->PC):PT:=
 (.ite (aj dN cj)
 (.blockS ⟨[(14,(aj dN cj))],[]⟩ 1 [5,7,15,16,17,18,19,20,21,22,23,24] [7,12295]
 (.chk (aq bQ dN)
 (.call ⟨[(17,r5)],[]⟩ [] 21 199 [(.mk [(pc (.setc nj 0 (pn bQ dN)) 0),(pc (.setc nj 0 (pn bQ dN)) 1),(pc (.setc nj 0 (pn bQ dN)) 2)]),(aE r1 (pi 1))]
 (.ite (aV (aE dz iK) (pi 60))
 (.exit 0 ⟨[(5,(aE dz iK))],[]⟩)
 (.next ⟨[(5,(aE dz iK))],[]⟩))))
 (.next ⟨[(13,(aE dN (pi 1)))],[]⟩))
 (.exit 0 ⟨[(14,(aj dN cj))],[]⟩))
def OD:PT:=
 (.ite (aV r1 (pi 8))
 (.ret (pi 61))
 (.brk ⟨[(13,(pi 0)),(12,rW),(11,zy),(5,(pi 1))],[]⟩
(at4 b)
 (.ret r5)))
def aoS:PT×List (Shp×PT):=(OD b,[(.lp 0 [5,13,14] [] [5,13] [],H3 b)])
def Uq:xZ.map told=some (aoS (bp xZ)):=by kernel_rfl
def ajz:tree (ab xZ)=OD Qc:=bF Uq
def Wk:round 0 [5,13,14] [] [5,13] [] (Qc 0)=H3 Qc:=bk Uq 0 λ_=>rfl
end Rm
