/-
  The functions of this seat, compiled (1).
-/
import Derived.Test.YtopjnikcppafdaaGreatDoorKAI
import Derived.KernelRfl
set_option linter.unusedVariables false
set_option maxRecDepth 100000
noncomputable section
namespace Rm
open Go Go.Proofs Cx
def AM:Option PC:=cF [10,11,12,13,14,15,16,17,19,22,24,26,28,30] [] Tryz.f4 4 [5,7,9,18,20,21,23,25,27,29]
def D8:Nat→PC:=bo AM
def aua (b:Nat→PC):PC:=.block 0 [10,15,16,52,53,54,55] [] (.loop [10,15,16] [] (b 0))
def aub (b:Nat→PC):PC:=.block 2 [10,19,111,112,113,114] [18] (.loop [10,19] [18] (b 1))
def NZ (b:Nat→PC):PT:=
 (.ite (ak bT (.llen bQ))
 (.blockS ⟨[],[]⟩ 1 [10,15,58,59,60,61,62] []
 (.chk (aq bQ bT)
 (.call ⟨[],[]⟩ [] 62 11 [kj]
 (.ite l9
 (.chk (.nt (.an (.an (aR cn (pi 0)) pT) (.nt (aq bQ bT))))
 (.ite (.pick (aR cn (pi 0)) (aF (pc kj 5) cn) pF)
 (.ret bJ)
 (.chk (aq bQ bT)
 (.next ⟨[(15,(pc kj 5))],[]⟩))))
 (.next ⟨[],[]⟩))))
 (.next ⟨[(16,(aG bT (pi 1)))],[]⟩))
 (.exit 0 ⟨[(52,bT),(53,bQ),(54,(.llen bQ)),(55,(ak bT (.llen bQ)))],[]⟩))
def N0 (b:Nat→PC):PT:=
 (.ite (ak dC (.llen dB))
 (.blockS ⟨[],[]⟩ 3 [10,20,21,22,23,24,117,118,119,120,121,122,131,132,133,134,135,136,137,138,139,140,141,142,143,144,145,146,147,148,149,150,151,152,153,154,155,156,157,158,159,160,161,164,165] [20,21,23,18]
 (.chk (aq dB dC)
 (.chk (.nt (.an (.an (.nt (ak (pn dB dC) (pi 0))) pT) (.nt (aq dB dC))))
 (.ite (.pick (ak (pn dB dC) (pi 0)) pT (bk (pn dB dC) (.llen (pc o5 2))))
 (.ret pF)
 (.chk (aq (pc o5 2) (pn dB dC))
 (.chk (aq (pc o9 1) (pc (pn (pc o5 2) (pn dB dC)) 0))
 (.call ⟨[],[]⟩ [] 150 13 [(pc (.setc z2 0 (pn (pc o9 1) (pc (pn (pc o5 2) (pn dB dC)) 0))) 0),(pc (.setc z2 0 (pn (pc o9 1) (pc (pn (pc o5 2) (pn dB dC)) 0))) 1)]
 (.call ⟨[(22,(.tget (.r 150) 1))],[]⟩ [] 156 14 [(.mk [(pc GB 0),(pc GB 1)]),(.mk [(pc (.setc z2 0 (.tget (.r 150) 0)) 0),(pc (.setc z2 0 (.tget (.r 150) 0)) 1)])]
 (.ite (.pick (aF mW (pi 0)) pT (aF (.tget (.r 156) 1) (pi 0)))
 (.ret pF)
 (.next ⟨[],[(18,(.setc GB 0 (.mk [(pc (.setc z2 0 (.tget (.r 156) 0)) 0),(pc (.setc z2 0 (.tget (.r 156) 0)) 1)])))]⟩)))))))))
 (.next ⟨[(19,(aG dC (pi 1)))],[]⟩))
 (.exit 2 ⟨[(111,dC),(112,dB),(113,(.llen dB)),(114,(ak dC (.llen dB)))],[]⟩))
def XY (b:Nat→PC):PT:=
 (.call ⟨[(10,pF)],[(9,(.mk [r4])),(7,(.mk [r2])),(5,(.mk [r0]))]⟩ [] 31 5 []
 (.call ⟨[(11,pS)],[]⟩ [] 35 6 [(az 8 o5),(az 19 o7),Nv]
 (.ite (.nt pV)
 (.ret bJ)
 (.call ⟨[],[]⟩ [] 44 9 [(az 8 o5),r1,(az 19 o7),r3,Nv]
 (.call ⟨[(13,(.tget th 1)),(12,(.tget th 0))],[]⟩ [] 51 10 [(az 8 o5),r1,(az 19 o7),r3]
 (.brk ⟨[(16,(pi 0)),(15,(pi 0)),(14,lF)],[]⟩
(aua b)
 (.call ⟨[],[]⟩ [] 84 12 [(az 8 o5),r1,(az 19 o7),r3,(pi 1)]
 (.ite (.pick (.pick (.pick (aF cZ (pi 0)) pT (ak cn (pi 1))) pT (ak (.llen Ha) (pi 1))) pT (aR (.llen Ha) (pi 2)))
 (.ret (.pick bJ (.pick (aR cn (pi 0)) pT (peq bY (pi 0))) pF))
 (.brk ⟨[(19,(pi 0)),(17,Ha)],[(18,(.setc z2 0 (.mk [(pi 1),(pi 1)])))]⟩
(aub b)
 (.call ⟨[],[]⟩ [] 169 15 [(.mk [(pi 1),(pi 1)]),(.mk [(pc GB 0),(pc GB 1)])]
 (.call ⟨[(26,(.tget (.r 169) 1))],[(25,(.setc z2 0 (.tget (.r 169) 0)))]⟩ [] 175 13 [bY,cn]
 (.chk (aF td (pi 0))
 (.call ⟨[(28,(.tget (.r 175) 1))],[(27,(.setc z2 0 (.tget (.r 175) 0)))]⟩ [] 189 13 [(aG zz (.ai .quo .i64 (aG (.ai .mul .i64 cn (.llen dB)) (pi 999999999)) td)),cn]
 (.ite (.pick (.pick (aF lZ (pi 0)) pT (aF pR (pi 0))) pT (aF (.tget (.r 189) 1) (pi 0)))
 (.ret pF)
 (.call ⟨[(203,bJ)],[(29,(.setc z2 0 (.tget (.r 189) 0)))]⟩ [(203,true)] 206 16 [(.mk [(pc o27 0),(pc o27 1)]),(.mk [(pc MK 0),(pc MK 1)])]
 (.call ⟨[(209,(.pick (.r 203) (bI (.r 206) (pi 0)) pF))],[]⟩ [(209,true)] 212 16 [(.mk [(pc MK 0),(pc MK 1)]),(.mk [(pc o29 0),(pc o29 1)])]
 (.ret (.pick (.r 209) (bI (.r 212) (pi 0)) pF))))))))))))))))))
def aoX (b:Nat→PC):PT×List (Shp×PT):=(XY b,[(.lp 0 [10,15,16,52,53,54,55] [] [10,15,16] [],NZ b),(.lp 2 [10,19,111,112,113,114] [18] [10,19] [18],N0 b)])
theorem MN:AM.map told=some (aoX (bq AM)):=by kernel_rfl
theorem azC:tree (ab AM)=XY D8:=bG MN
theorem ajb:round 0 [10,15,16,52,53,54,55] [] [10,15,16] [] (D8 0)=NZ D8:=bf MN 0 fun _=>rfl
theorem ajc:round 2 [10,19,111,112,113,114] [18] [10,19] [18] (D8 1)=N0 D8:=bf MN 1 fun _=>rfl
def JQ:Option PC:=cF [0,2,3,4,5,6,7,8,9,10,11,12,13] [] Tryz.f5 5 [1,17]
def X3:PT:=
 (.call ⟨[],[]⟩ [] 14 17 []
 (.call ⟨[(16,(az 8 aiN))],[(17,(.lst [(pi 0),(pi 1)])),(1,aiN)]⟩ [] 18 19 []
 (.call ⟨[],[]⟩ [] 19 18 [bT,MJ,cv]
 (.call ⟨[(23,(az 8 o1)),(3,(.tget dC 1)),(2,(.tget dC 0))],[]⟩ [] 24 20 [(pi 1000),(pi 0)]
 (.call ⟨[],[]⟩ [] 25 19 []
 (.call ⟨[],[]⟩ [] 26 9 [gy,(pi 0),oy,(pi 4),jQ]
 (.call ⟨[(30,(az 8 o1)),(5,(.tget lZ 1)),(4,(.tget lZ 0))],[]⟩ [] 31 20 [(pi 1000),(pi 0)]
 (.call ⟨[],[]⟩ [] 32 19 []
 (.call ⟨[],[]⟩ [] 33 8 [oz,(pi 0),pS,(pi 4),pU]
 (.call ⟨[(37,(az 8 o1)),(7,(.tget rz 1)),(6,(.tget rz 0))],[]⟩ [] 38 20 [(pi 1000),(pi 1)]
 (.call ⟨[],[]⟩ [] 39 19 []
 (.call ⟨[],[]⟩ [] 40 8 [l0,(pi 0),gZ,(pi 4),pW]
 (.call ⟨[(44,(az 8 o1)),(9,(.tget pX 1)),(8,(.tget pX 0))],[]⟩ [] 45 20 [(pi 600),(pi 1)]
 (.call ⟨[],[]⟩ [] 46 19 []
 (.call ⟨[],[]⟩ [] 47 9 [th,(pi 0),rB,(pi 4),zJ]
 (.call ⟨[(51,(az 8 o1)),(11,(.tget Da 1)),(10,(.tget Da 0))],[]⟩ [] 52 20 [(pi 600),(pi 1)]
 (.call ⟨[],[]⟩ [] 53 19 []
 (.call ⟨[],[]⟩ [] 54 8 [lF,(pi 0),Db,(pi 4),VV]
 (.call ⟨[(79,(.pick (.pick (.pick (.pick (.pick (aF r3 (pi 0)) pT (aF r5 (pi 0))) pT (aF r7 (pi 0))) pT (aF r9 (pi 0))) pT (aF bJ (pi 0))) pT (aF (.tget l7 1) (pi 0)))),(12,(.tget l7 0))],[]⟩ [(79,false)] 81 21 [(.mk [(pi 0),pL])]
 (.ite (.pick r79 pT (aF rC (pi 1)))
 (.ret pF)
 (.call ⟨[(107,(az 8 o1)),(106,(.pick (.pick (.pick (.pick (.pick (peq r2 (pi 50000000)) (peq r4 (pi 900)) pF) (peq r6 (pi 891)) pF) (peq r8 (pi 940)) pF) (peq cV (pi 770)) pF) (peq bY (pi 762)) pF))],[]⟩ [(106,true)] 108 20 [(pi 600),(pi 1)]
 (.call ⟨[],[]⟩ [(106,true)] 109 12 [axb,(pi 0),NR,(pi 4),(pi 601)]
 (.call ⟨[],[]⟩ [(106,true)] 111 22 [aiX,(.lst [(pi 1)])]
 (.ret (.pick NQ axc pF)))))))))))))))))))))))))
theorem agN:JQ.map told=some (X3,[]):=by kernel_rfl
theorem azH:tree (ab JQ)=X3:=aQ agN
def JP:Option PC:=cF [] [] Tryz.f17 17 [0,24576,28672,32768,1,12289,2,12290]
def X1:PT:=
 (.ret (.mk [(pc GU 0),(pc GU 1),(pc GU 2),(pc GU 3),(pc GU 4),pL,pL,pL]))
theorem agM:JP.map told=some (X1,[]):=by kernel_rfl
theorem azF:tree (ab JP)=X1:=aQ agM
def AN:Option PC:=cF [2] [] Tryz.f19 19 [0,1]
def Qh:Nat→PC:=bo AN
def auc (b:Nat→PC):PC:=.block 0 [2,4,5,6,7] [1] (.loop [2] [1] (b 0))
def N1 (b:Nat→PC):PT:=
 (.ite (ak r2 (.llen o1))
 (.chk (aq o1 r2)
 (.next ⟨[(2,(aG r2 (pi 1)))],[(1,(.setn o1 r2 0 (.mk [(pi 1),(pi 1)])))]⟩))
 (.exit 0 ⟨[(4,r2),(5,r1),(6,(.llen o1)),(7,(ak r2 (.llen o1)))],[]⟩))
def X2 (b:Nat→PC):PT:=
 (.chk (.an (bk (pi 10) (pi 0)) (bI (pi 10) cU))
 (.chk (peq (pi 10) (pi 10))
 (.brk ⟨[(2,(pi 0)),(1,pN)],[(1,(.rep (pi 10) z2)),(0,(.con (.agg [(.int 0),(.list [])])))]⟩
(auc b)
 (.chk (aq o1 (pi 3))
 (.chk (aq (.setn o1 (pi 3) 0 (.mk [(pi 1),(pi 10)])) (pi 5))
 (.ret (.mk [(pc aiP 0),(pc aiP 1)])))))))
def aoY (b:Nat→PC):PT×List (Shp×PT):=(X2 b,[(.lp 0 [2,4,5,6,7] [1] [2] [1],N1 b)])
theorem Us:AN.map told=some (aoY (bq AN)):=by kernel_rfl
theorem azG:tree (ab AN)=X2 Qh:=bG Us
theorem ajd:round 0 [2,4,5,6,7] [1] [2] [1] (Qh 0)=N1 Qh:=bf Us 0 fun _=>rfl
def AS:Option PC:=cF [6,7,8,9,10] [] Tryz.f18 18 [3,5]
def Qm:Nat→PC:=bo AS
def auj (b:Nat→PC):PC:=.block 0 [8,16,17] [] (.loop [8,16] [] (b 0))
def Hk (b:Nat→PC):PT:=
 (.ite (ak bT cn)
 (.chk (aq bQ bT)
 (.chk (.nt (.an (.an (aR bT (pi 0)) (.an (.nt (.pick (.pick r8 pT (ak kj (pi 0))) pT (bk kj mV))) pT)) (.nt (aq r1 (bm bT (pi 1))))))
 (.next ⟨[(8,(.pick (.pick (.pick r8 pT (ak kj (pi 0))) pT (bk kj mV)) pT (.pick (aR bT (pi 0)) (bk (pn r1 (bm bT (pi 1))) kj) pF))),(16,(aG bT (pi 1)))],[]⟩)))
 (.exit 0 ⟨[(17,(ak bT cn))],[]⟩))
def Yk (b:Nat→PC):PT:=
 (.call ⟨[],[(5,(.mk [r2])),(3,(.mk [r0]))]⟩ [] 12 21 [(.mk [(pc (.mk [r2]) 0),(pc (.mk [r2]) 1)])]
 (.brk ⟨[(16,(pi 0)),(15,(.llen r1)),(14,r1),(8,(aF bY (pi 0)))],[]⟩
(auj b)
 (.ite r8
 (.ret (.tup [(pi 0),(pi 1)]))
 (.call ⟨[],[]⟩ [] 51 36 [(az 8 o3),r1,(.mk [(pc o5 0),(pc o5 1)])]
 (.ret (.tup [lF,(pi 0)]))))))
def ao4 (b:Nat→PC):PT×List (Shp×PT):=(Yk b,[(.lp 0 [8,16,17] [] [8,16] [],Hk b)])
theorem Ux:AS.map told=some (ao4 (bq AS)):=by kernel_rfl
theorem azZ:tree (ab AS)=Yk Qm:=bG Ux
theorem Wa:round 0 [8,16,17] [] [8,16] [] (Qm 0)=Hk Qm:=bf Ux 0 fun _=>rfl
def J3:Option PC:=cF [2,3] [] Tryz.f21 21 [1]
def DB:PT:=
 (.call ⟨[(18,(.pick (.pick (ak gw (pi 0)) pT (aR gw (pi 1000))) pT (aF (.llen iZ) (pi 10))))],[]⟩ [(18,false)] 22 48 [iZ,(.con (.clo 47 []))]
 (.ite (.pick cv pT mW)
 (.ret (pi 1))
 (.ret (pi 0))))
theorem ag0:J3.map told=some (DB,[]):=by kernel_rfl
theorem az1:tree (ab J3)=DB:=aQ ag0
def J4:Option PC:=cF [2] [] Tryz.f47 47 [1]
def Yl:PT:=
 (.ret (.pick (.pick (.pick (ak iZ (pi 1)) pT (aR iZ (pi 1073741824))) pT (ak gw (pi 0))) pT (aR gw iZ)))
theorem ag1:J4.map told=some (Yl,[]):=by kernel_rfl
theorem az0:tree (ab J4)=Yl:=aQ ag1
def KB:Option PC:=cF [4] [] Tryz.f48 48 []
def Zx:PT:=
 (.call ⟨[],[]⟩ [] 7 88 [r0,r1]
 (.ret (bk r7 (pi 0))))
theorem ahy:KB.map told=some (Zx,[]):=by kernel_rfl
theorem aA7:tree (ab KB)=Zx:=aQ ahy
def Br:Option PC:=cF [4,5] [] Tryz.f88 88 []
def QI:Nat→PC:=bo Br
def au9 (b:Nat→PC):PC:=.block 0 [4,8,9] [] (.loop [4,8] [] (b 0))
def H0 (b:Nat→PC):PT:=
 (.ite (ak r8 r7)
 (.blockS ⟨[],[]⟩ 1 [4,5,10,11,12,13,14,15,16] []
 (.chk (aq r0 r8)
 (.callc ⟨[(5,r8)],[]⟩ [] 16 r1 [(pn r0 r8)]
 (.ite bT
 (.ret r5)
 (.next ⟨[],[]⟩))))
 (.next ⟨[(8,uU)],[]⟩))
 (.exit 0 ⟨[(9,(ak r8 r7))],[]⟩))
def ZC (b:Nat→PC):PT:=
 (.brk ⟨[(8,(pi 0)),(7,(.llen r0)),(4,(pi 0))],[]⟩
(au9 b)
 (.ret (pi (-1))))
def apF (b:Nat→PC):PT×List (Shp×PT):=(ZC b,[(.lp 0 [4,8,9] [] [4,8] [],H0 b)])
theorem UT:Br.map told=some (apF (bq Br)):=by kernel_rfl
theorem aBc:tree (ab Br)=ZC QI:=bG UT
theorem WL:round 0 [4,8,9] [] [4,8] [] (QI 0)=H0 QI:=bf UT 0 fun _=>rfl
def AU:Option PC:=cF [6,7,9] [] Tryz.f36 36 [3,5,1,10]
def Qo:Nat→PC:=bo AU
def aul (b:Nat→PC):PC:=.block 0 [7,18,19] [] (.loop [7,18] [] (b 0))
def N7 (b:Nat→PC):PT:=
 (.ite (ak cv dB)
 (.chk (aq o1 cv)
 (.chk (aq (pc o3 2) (pn o1 cv))
 (.chk (aq (pc o5 1) (pc (pn (pc o3 2) (pn o1 cv)) 0))
 (.chk (aF (pc NL 1) (pi 0))
 (.next ⟨[(7,(.ai .quo .i64 (bm (aG (.ai .mul .i64 r7 (pc NL 0)) (pc NL 1)) (pi 1)) (pc NL 1))),(18,(aG cv (pi 1)))],[]⟩)))))
 (.exit 0 ⟨[(19,(ak cv dB))],[]⟩))
def Yo (b:Nat→PC):PT:=
 (.call ⟨[],[(5,(.mk [r2])),(3,(.mk [r0]))]⟩ [] 12 73 [r1]
 (.mcall ⟨[],[(3,(az 8 o3)),(1,bY)]⟩ 1000000013 74 [pN,(.clo 75 [(.ref (az 8 o3))]),bY]
 (.brk ⟨[(18,(pi 0)),(17,(.llen GL)),(7,td)],[(1,GL)]⟩
(aul b)
 (.ret r7))))
def ao6 (b:Nat→PC):PT×List (Shp×PT):=(Yo b,[(.lp 0 [7,18,19] [] [7,18] [],N7 b)])
theorem Uz:AU.map told=some (ao6 (bq AU)):=by kernel_rfl
theorem az6:tree (ab AU)=Yo Qo:=bG Uz
theorem ajj:round 0 [7,18,19] [] [7,18] [] (Qo 0)=N7 Qo:=bf Uz 0 fun _=>rfl
def Q7:Option PC:=cF [5] [] Tryz.f75 75 []
def az5:PT:=
 (.chk (aq (pc (.deref r2) 2) r0)
 (.chk (aq (pc (.deref r2) 2) r1)
 (.ret (bm (pc (pn (pc (.deref r2) 2) r0) 0) (pc (pn (pc (.deref r2) 2) r1) 0)))))
theorem avQ:Q7.map told=some (az5,[]):=by kernel_rfl
def JO:Option PC:=cF [] [] Tryz.f20 20 [4,69636,73732,5,6,7]
def XZ:PT:=
 (.ret (.mk [(pc kM 0),(pc kM 1),(pc kM 2),(pc kM 3),(pc kM 4),(pc kM 5),(pc kM 6),(pc kM 7),(pc kM 8),(pc kM 9),(pc kM 10),(pc kM 11),(pc kM 12),(pc kM 13),(pc kM 14),(pc kM 15),pL,pL,(pc kM 18)]))
theorem agK:JO.map told=some (XZ,[]):=by kernel_rfl
theorem azD:tree (ab JO)=XZ:=aQ agK
def AT:Option PC:=cF [10,11,13,14,15,18,19,20] [] Tryz.f9 9 [5,7,9,12,17,52]
def Qn:Nat→PC:=bo AT
def auk (b:Nat→PC):PC:=.block 0 [13,14,15,39,40] [] (.loop [13,14,15,39] [] (b 0))
def N6 (b:Nat→PC):PT:=
 (.ite (ak pW gZ)
 (.blockS ⟨[],[]⟩ 1 [13,14,15,17,41,42,43,44,45,46] [17]
 (.chk (aq Uj pW)
 (.ite (bI (pc VE 5) cn)
 (.exit 1 ⟨[],[]⟩)
 (.call ⟨[(47,(az 8 o5))],[(17,VE)]⟩ [] 52 37 [(az 8 o5),Uj,(pc VE 5)]
 (.call ⟨[],[]⟩ [] 54 36 [Da,Db,Nv]
 (.chk (aF td (pi 0))
 (.next ⟨[(15,(pc MJ 5)),(14,(.ai .rem .i64 aiw td)),(13,(aG (aG cZ (.ai .mul .i64 (.ai .quo .i64 (bm (pc MJ 5) cn) td) (bm td l7))) (.ai .quo .i64 aiw td)))],[]⟩))))))
 (.next ⟨[(39,(aG pW (pi 1)))],[]⟩))
 (.exit 0 ⟨[(40,(ak pW gZ))],[]⟩))
def Yn (b:Nat→PC):PT:=
 (.call ⟨[],[(9,(.mk [r4])),(7,(.mk [r2])),(5,(.mk [r0]))]⟩ [] 22 21 [(.mk [(pc (.mk [r4]) 0),(pc (.mk [r4]) 1)])]
 (.call ⟨[(24,(aF mW (pi 0)))],[]⟩ [(24,false)] 27 32 [(az 8 o5),r1]
 (.ite (.pick oy pT (.nt dD))
 (.ret (.tup [(pi 0),(pi 1)]))
 (.call ⟨[],[]⟩ [] 34 33 [(az 8 o5),r1,(az 19 o7),r3]
 (.mcall ⟨[(12,pN)],[(12,G4)]⟩ 1000000013 34 [pN,(.con (.clo 35 [])),G4]
 (.brk ⟨[(39,(pi 0)),(38,(.llen GL)),(15,(pi 0)),(14,(pi 0)),(13,(pi 0))],[(12,GL)]⟩
(auk b)
 (.ret (.tup [cZ,(pi 0)]))))))))
def ao5 (b:Nat→PC):PT×List (Shp×PT):=(Yn b,[(.lp 0 [13,14,15,39,40] [] [13,14,15,39] [],N6 b)])
theorem Uy:AT.map told=some (ao5 (bq AT)):=by kernel_rfl
theorem az4:tree (ab AT)=Yn Qn:=bG Uy
theorem aji:round 0 [13,14,15,39,40] [] [13,14,15,39] [] (Qn 0)=N6 Qn:=bf Uy 0 fun _=>rfl
def J6:Option PC:=cF [4] [] Tryz.f32 32 [2]
def Yq:PT:=
 (.ret (.pick (bk r1 (pi 0)) (ak r1 GN) pF))
theorem ag4:J6.map told=some (Yq,[]):=by kernel_rfl
theorem az8:tree (ab J6)=Yq:=aQ ag4
def J7:Option PC:=cF [] [] Tryz.f33 33 [4,6,8]
def Yr:PT:=
 (.call ⟨[],[]⟩ [] 13 10 [jP,r1,GS,r3]
 (.call ⟨[],[]⟩ [] 14 69 [cZ,(.con (.clo 70 []))]
 (.ret bQ)))
theorem ag5:J7.map told=some (Yr,[]):=by kernel_rfl
theorem aAa:tree (ab J7)=Yr:=aQ ag5
def AE:Option PC:=cF [11] [] Tryz.f10 10 [4,6,8,9,10,28]
def P9:Nat→PC:=bo AE
def at1 (b:Nat→PC):PC:=.block 0 [10,21,22] [10] (.loop [10,21] [10] (b 0))
def NX (b:Nat→PC):PT:=
 (.ite (ak gY fm)
 (.blockS ⟨[],[]⟩ 1 [10,11,23,25,26,27,28,29] [10,28]
 (.call ⟨[],[]⟩ [] 27 39 [(az 31 o9),gY]
 (.chk (bI (.llen (.app cm (.lst [dD]))) cU)
 (.next ⟨[(10,pN)],[(10,(.app cm (.lst [dD])))]⟩)))
 (.next ⟨[(21,(aG gY (pi 1)))],[]⟩))
 (.exit 0 ⟨[(22,(ak gY fm))],[]⟩))
def XC (b:Nat→PC):PT:=
 (.call ⟨[],[]⟩ [] 16 38 [jP,r1,GS,r3]
 (.brk ⟨[(21,(pi 0)),(20,(.llen (pc (.setc VI 0 bT) 25))),(10,pN)],[(10,pL),(9,(.setc VI 0 bT))]⟩
(at1 b)
 (.ret cm)))
def aoO (b:Nat→PC):PT×List (Shp×PT):=(XC b,[(.lp 0 [10,21,22] [10] [10,21] [10],NX b)])
theorem Uk:AE.map told=some (aoO (bq AE)):=by kernel_rfl
theorem azd:tree (ab AE)=XC P9:=bG Uk
theorem ai9:round 0 [10,21,22] [10] [10,21] [10] (P9 0)=NX P9:=bf Uk 0 fun _=>rfl
def Jy:Option PC:=cF [] [] Tryz.f38 38 [4,6,8,9]
def XE:PT:=
 (.call ⟨[],[(8,VI),(4,(.mk [r0]))]⟩ [] 12 62 [GS,r3]
 (.call ⟨[(16,(az 19 (.setc zw 0 bY))),(15,r3),(14,r1),(13,(az 8 o4))],[(9,(.setc zw 0 bY))]⟩ [] 21 64 [(az 8 o4),r1,(pi 0),(az 19 (.setc zw 0 bY)),r3]
 (.call ⟨[],[]⟩ [] 22 78 [gY]
 (.call ⟨[],[]⟩ [] 27 30 [(az 8 o4),r1,(az 19 o9),r3]
 (.ret (az 31 (.setc o8 0 (.mk [cZ,bQ,cn,bT,mW,dD]))))))))
theorem agq:Jy.map told=some (XE,[]):=by kernel_rfl
theorem azf:tree (ab Jy)=XE:=aQ agq
def Bl:Option PC:=cF [] [] Tryz.f62 62 [2,4,5,65541,69637,73733,77829,7,31,9,49,11,13]
def tZ:Nat→PC:=bo Bl
def auZ (b:Nat→PC):PC:=.block 0 [20,21] [65541,5] (.loop [20] [65541,5] (b 0))
def au0 (b:Nat→PC):PC:=.block 2 [38,39] [73733,5] (.loop [38] [73733,5] (b 1))
def au1 (b:Nat→PC):PC:=.block 4 [56,57] [5,69637] (.loop [56] [5,69637] (b 2))
def au2 (b:Nat→PC):PC:=.block 6 [76,77] [5,77829] (.loop [76] [5,77829] (b 3))
def HR (b:Nat→PC):PT:=
 (.ite (ak fm dC)
 (.chk (aq cv fm)
 (.ite (aR (pc (.setc z9 0 (pn cv fm)) 6) r1)
 (.exit 0 ⟨[(21,(ak fm dC))],[]⟩)
 (.chk (bI (.llen (.app (.o 65541) (.lst [(az 9 (.setc z9 0 (pn cv fm)))]))) cU)
 (.next ⟨[(20,(aG fm (pi 1)))],[(65541,(.app (.o 65541) (.lst [(az 9 (.setc z9 0 (pn cv fm)))]))),(5,(.setc o5 15 pN))]⟩))))
 (.exit 0 ⟨[(21,(ak fm dC))],[]⟩))
def HT (b:Nat→PC):PT:=
 (.ite (ak gZ l0)
 (.chk (aq jR gZ)
 (.ite (aR (pc (.setc z9 0 (pn jR gZ)) 6) r1)
 (.exit 2 ⟨[(39,(ak gZ l0))],[]⟩)
 (.chk (bI (.llen (.app (.o 73733) (.lst [(az 9 (.setc z9 0 (pn jR gZ)))]))) cU)
 (.next ⟨[(38,(aG gZ (pi 1)))],[(73733,(.app (.o 73733) (.lst [(az 9 (.setc z9 0 (pn jR gZ)))]))),(5,(.setc o5 17 pN))]⟩))))
 (.exit 2 ⟨[(39,(ak gZ l0))],[]⟩))
def HU (b:Nat→PC):PT:=
 (.ite (ak tj wH)
 (.chk (aq l7 tj)
 (.ite (bI (pc (.setc z2 0 (pn l7 tj)) 0) (.llen (.o 65541)))
 (.chk (bI (.llen aiU) cU)
 (.next ⟨[(56,(aG tj (pi 1)))],[(5,(.setc o5 16 pN)),(69637,aiU)]⟩))
 (.next ⟨[(56,(aG tj (pi 1)))],[]⟩)))
 (.exit 4 ⟨[(57,(ak tj wH))],[]⟩))
def HV (b:Nat→PC):PT:=
 (.ite (ak uV VX)
 (.blockS ⟨[],[]⟩ 7 [13,78,79,80,81,82,83,84,85] [13,77829,5]
 (.chk (aq VW uV)
 (.call ⟨[],[(13,(.setc z3 0 (pn VW uV)))]⟩ [] 85 102 [(pc (.setc z3 0 (pn VW uV)) 1),(.llen (.o 65541))]
 (.ite Hb
 (.chk (bI (.llen (.app (.o 77829) (.lst [(.mk [(pc CL 0),(pc CL 1),(pc CL 2)])]))) cU)
 (.next ⟨[],[(77829,(.app (.o 77829) (.lst [(.mk [(pc CL 0),(pc CL 1),(pc CL 2)])]))),(5,(.setc o5 18 pN))]⟩))
 (.next ⟨[],[]⟩))))
 (.next ⟨[(76,(aG uV (pi 1)))],[]⟩))
 (.exit 6 ⟨[(77,(ak uV VX))],[]⟩))
def Zp (b:Nat→PC):PT:=
 (.brk ⟨[(20,(pi 0)),(19,(.llen rp)),(18,rp)],[(77829,pL),(73733,pL),(69637,pL),(65541,pL),(5,(.setc zw 0 (.mk [(az 15 (.mk [r0])),pL,pL,pL,pL]))),(4,zw),(2,(.mk [r0]))]⟩
(auZ b)
 (.brk ⟨[(38,(pi 0)),(37,(.llen (pc o2 17))),(36,(pc o2 17))],[]⟩
(au0 b)
 (.brk ⟨[(56,(pi 0)),(55,(.llen (pc o2 16))),(54,(pc o2 16))],[]⟩
(au1 b)
 (.brk ⟨[(76,(pi 0)),(75,(.llen (pc o2 18))),(74,(pc o2 18))],[]⟩
(au2 b)
 (.ret (az 19 (.setc o4 0 (.mk [(pc o5 0),(pc o5 1),(pc o5 2),(pc o5 3),(pc o5 4),(pc o5 5),(pc o5 6),(pc o5 7),(pc o5 8),(pc o5 9),(pc o5 10),(pc o5 11),(pc o5 12),(pc o5 13),(pc o5 14),(.o 65541),(.o 69637),(.o 73733),(.o 77829)]))))))))
def apz (b:Nat→PC):PT×List (Shp×PT):=(Zp b,[(.lp 0 [20,21] [65541,5] [20] [65541,5],HR b),(.lp 2 [38,39] [73733,5] [38] [73733,5],HT b),(.lp 4 [56,57] [5,69637] [56] [5,69637],HU b),(.lp 6 [76,77] [5,77829] [76] [5,77829],HV b)])
theorem CO:Bl.map told=some (apz (bq Bl)):=by kernel_rfl
theorem aAY:tree (ab Bl)=Zp tZ:=bG CO
theorem WB:round 0 [20,21] [65541,5] [20] [65541,5] (tZ 0)=HR tZ:=bf CO 0 fun _=>rfl
theorem WC:round 2 [38,39] [73733,5] [38] [73733,5] (tZ 1)=HT tZ:=bf CO 1 fun _=>rfl
theorem WD:round 4 [56,57] [5,69637] [56] [5,69637] (tZ 2)=HU tZ:=bf CO 2 fun _=>rfl
theorem WE:round 6 [76,77] [5,77829] [76] [5,77829] (tZ 3)=HV tZ:=bf CO 3 fun _=>rfl
def Kz:Option PC:=cF [4] [] Tryz.f102 102 []
def Zu:PT:=
 (.ret VF)
theorem ahw:Kz.map told=some (Zu,[]):=by kernel_rfl
theorem aA4:tree (ab Kz)=Zu:=aQ ahw
def Jq:Option PC:=cF [] [] Tryz.f64 64 [5,8,77832,10]
def Xv:PT:=
 (.call ⟨[],[(10,C6)]⟩ [] 18 103 [jP,r1,r2,(.mk [(.mk [(pc ki 0),(pc ki 1),(pc ki 2),(pc ki 3),(pc ki 4),(pc ki 5),(pc ki 6),(pc ki 7),(pc ki 8),(pc ki 9),(pc ki 10),(pc ki 11),(pc ki 12),(pc ki 13),(pc ki 14),(pc ki 15),(pc ki 16),(pc ki 17),pL]),(pi 0),(pi (-1)),(pi (-1)),(pi (-1)),r4])]
 (.ret (az 5 (.setc cm 0 cv))))
theorem agi:Jq.map told=some (Xv,[]):=by kernel_rfl
theorem ay5:tree (ab Jq)=Xv:=aQ agi
def Jp:Option PC:=cF [10] [] Tryz.f103 103 [4,7,8,9]
def Xu:PT:=
 (.call ⟨[],[(8,C6),(4,(.mk [r0]))]⟩ [] 16 144 [jP,r1,r2,(az 24 (.mk [r3]))]
 (.iteS ⟨[(10,(.tget bT 1))],[(9,(.setc C6 0 (.tget bT 0)))]⟩ (aF (pc (.setc C6 0 (.tget bT 0)) 2) (pi (-1))) [] [9]
 (.chk (aq (pc o4 4) (pc o9 2))
 (.call ⟨[],[]⟩ [] 31 145 [(pn (pc o4 4) (pc o9 2)),r2,cV]
 (.next ⟨[],[(9,(.setc (.setc o9 0 (.tget pS 0)) 4 (.tget pS 1)))]⟩)))
 (.next ⟨[],[]⟩)
 (.ret (az 5 (.setc o8 0 (az 5 o9))))))
theorem agh:Jp.map told=some (Xu,[]):=by kernel_rfl
theorem ay4:tree (ab Jp)=Xu:=aQ agh
def Ju:Option PC:=cF [9,11,12,13,14] [] Tryz.f144 144 [4,7,8,10,16394]
def Xz:PT:=
 (.call ⟨[],[(16394,pL),(10,(.setc C6 0 (.mk [gx,(pi (-1)),pL,(pi 1)]))),(8,C6),(7,(.mk [r3])),(4,(.mk [r0]))]⟩ [] 19 177 [jP,(az 24 (.mk [r3]))]
 (.ite (peq (.llen (.tget dC 1)) (pi 0))
 (.ret (.tup [VO,pL]))
 (.call ⟨[(11,(.tget dC 1))],[(7,(.setc o7 0 (.tget dC 0)))]⟩ [] 28 178 [r2]
 (.ite (.nt (.tget pR 1))
 (.ret (.tup [VO,pL]))
 (.call ⟨[],[]⟩ [] 37 179 [(az 8 o4),r1,(az 24 o7)]
 (.ite (peq (.llen l0) (pi 0))
 (.ret (.tup [VO,pL]))
 (.call ⟨[],[]⟩ [] 46 180 [(az 8 o4),r1,r2,l0]
 (.ite (peq (pc zF 4) (pi 0))
 (.chk (aq (pc zF 3) (bm (.llen (pc zF 3)) (pi 1)))
 (.ret (.tup [(az 5 (.setc o8 0 (az 5 (.setc zF 2 (pn (pc zF 3) (bm (.llen (pc zF 3)) (pi 1))))))),bJ])))
 (.ret (.tup [(az 5 (.setc o8 0 (az 5 zF))),bJ]))))))))))
theorem agm:Ju.map told=some (Xz,[]):=by kernel_rfl
theorem ay9:tree (ab Ju)=Xz:=aQ agm
def Jv:Option PC:=cF [5] [] Tryz.f177 177 [2,3,4]
def XA:PT:=
 (.call ⟨[],[(4,aiF),(3,(.mk [r1])),(2,(.mk [r0]))]⟩ [] 10 62 [(az 19 (.mk [r1])),(pc (.mk [r1]) 23)]
 (.call ⟨[(12,(az 24 (.setc o3 0 cV)))],[]⟩ [] 15 196 [(az 8 o2),(az 24 (.setc o3 0 cV))]
 (.ret (.tup [(az 24 (.setc o4 0 bY)),cn]))))
theorem agn:Jv.map told=some (XA,[]):=by kernel_rfl
theorem aza:tree (ab Jv)=XA:=aQ agn
def Bo:Option PC:=cF [4,7,9,11,12,13,14,15,16] [] Tryz.f196 196 [2,3,5,6,8,10,90,139]
def Ek:Nat→PC:=bo Bo
def avo (b:Nat→PC):PC:=.meach 90 [94,95,11,12] [0,1,0,1] [10] (b 0)
def avp (b:Nat→PC):PC:=.meach 139 [143,144,15,16] [0,1,0,1] [10] (b 1)
def WI (b:Nat→PC):PT:=
 (.chk (aq cm bJ)
 (.next ⟨[],[(10,(.setn cm bJ 0 (.mk [pT,bY])))]⟩))
def WJ (b:Nat→PC):PT:=
 (.blockS ⟨[],[]⟩ 3 [145,146,147,148,149] [10]
 (.call ⟨[(146,cn)],[]⟩ [] 148 213 [bT]
 (.chk (aq cm (.r 146))
 (.next ⟨[],[(10,(.setn cm (.r 146) 0 (.r 148)))]⟩)))
 (.next ⟨[],[]⟩))
def wZ (b:Nat→PC):PT:=
 (.call ⟨[(7,(.mx (pc (.mk [r1]) 20) (pi 0)))],[(6,(.setc IK 0 (az 15 (.mk [r1])))),(5,(.setc zw 0 (az 19 (.mk [r1])))),(3,(.mk [r1])),(2,(.mk [r0]))]⟩ [] 30 102 [(pc (.mk [r1]) 19),(.llen (pc (.setc zw 0 (az 19 (.mk [r1]))) 15))]
 (.call ⟨[(48,(aF (pc o3 22) (pi (-1)))),(44,(.pick (.pick (.nt oz) pT (ak (pc o3 20) (pi (-1)))) pT (bk r7 (.llen (pc o5 15)))))],[]⟩ [(48,true),(44,false)] 51 102 [(pc o3 22),(pi 100001)]
 (.ite (.pick th pT (.pick jS (.nt lF) pF))
 (.ret pL)
 (.chk (aq (pc o5 15) (pc o3 19))
 (.call ⟨[],[(8,(.setc z9 0 (pn (pc o5 15) (pc o3 19))))]⟩ [] 63 102 [(pc (.setc z9 0 (pn (pc o5 15) (pc o3 19))) 6),(pi 100001)]
 (.ite (.nt NS)
 (.ret pL)
 (.chk (.an (bk (pi 20) (pi 0)) (bI (pi 20) cU))
 (.chk (peq (pi 20) (pi 20))
 (.chk (ak (.mlen (.con (.map []))) cU)
 (.chk (ak (.mlen (.put (.con (.map [])) (pi 0) (pc o6 3))) cU)
 (.chk (ak (.mlen (.put (.put (.con (.map [])) (pi 0) (pc o6 3)) (pi 1) (pc o6 14))) cU)
 (.chk (ak (.mlen VJ) cU)
 (.chk (ak (.mlen (.put VJ (pi 3) (pc o6 12))) cU)
 (.chk (ak (.mlen VQ) cU)
 (.chk (ak (.mlen (.put VQ (pi 5) (pc o3 21))) cU)
 (.blockS ⟨[(10,pN),(9,aiD)],[(90,(.tup [(.lst []),(.put (.put VQ (pi 5) (pc o3 21)) (pi 6) aiD)])),(10,(.rep (pi 20) gx))]⟩ 0 [] [10]
 (.brk ⟨[],[]⟩
(avo b)
 (.exit 0 ⟨[],[]⟩))
 (.call ⟨[],[(3,(az 24 o3))]⟩ [] 104 211 [(pc o5 16),(.clo 212 [(.ref (az 24 o3))])]
 (.call ⟨[(13,axa)],[]⟩ [] 108 147 [(az 8 o2),(pc o6 9)]
 (.call ⟨[],[]⟩ [] 112 147 [(az 8 o2),(pc o6 10)]
 (.chk (ak (.mlen (.con (.map []))) cU)
 (.chk (ak (.mlen VP) cU)
 (.chk (ak (.mlen (.put VP (pi 8) (peq (pc o6 2) (pi (-1))))) cU)
 (.chk (ak (.mlen (.put (.put VP (pi 8) (peq (pc o6 2) (pi (-1)))) (pi 9) (aF (.ai .and .i64 (pc o6 13) (pi 4)) (pi 0)))) cU)
 (.chk (ak (.mlen Nt) cU)
 (.chk (ak (.mlen (.put Nt (pi 11) (aF NR VU))) cU)
 (.chk (ak (.mlen (.put (.put Nt (pi 11) (aF NR VU)) (pi 12) cZ)) cU)
 (.chk (ak (.mlen aiO) cU)
 (.blockS ⟨[],[(139,(.tup [(.lst []),(.put aiO (pi 14) (aR r9 (pi 0)))]))]⟩ 2 [] [10]
 (.brk ⟨[],[]⟩
(avp b)
 (.exit 2 ⟨[],[]⟩))
 (.call ⟨[],[]⟩ [] 154 214 [(az 19 o5),(pi 0),(pc o3 19)]
 (.chk (aq cm (pi 15))
 (.call ⟨[],[(10,(.setn cm (pi 15) 0 (.r 154)))]⟩ [] 160 214 [(az 19 o5),(pi 1),(pc o3 19)]
 (.chk (aq cm (pi 16))
 (.call ⟨[],[(10,(.setn cm (pi 16) 0 (.r 160)))]⟩ [] 166 214 [(az 19 o5),(pi 2),(pc o3 19)]
 (.chk (aq cm (pi 17))
 (.call ⟨[],[(10,(.setn cm (pi 17) 0 (.r 166)))]⟩ [] 171 214 [(az 19 o5),(pi 3),r7]
 (.chk (aq cm (pi 18))
 (.call ⟨[],[(10,(.setn cm (pi 18) 0 (.r 171)))]⟩ [] 176 214 [(az 19 o5),(pi 4),r7]
 (.chk (aq cm (pi 19))
 (.ret (.setn cm (pi 19) 0 (.r 176)))))))))))))))))))))))))))))))))))))))))
def apC (b:Nat→PC):PT×List (Shp×PT):=(wZ b,[(.ea [10],WI b),(.ea [10],WJ b)])
theorem M0:Bo.map told=some (apC (bq Bo)):=by kernel_rfl
theorem aA2:tree (ab Bo)=wZ Ek:=bG M0
theorem axA:rG [10] (Ek 0)=WI Ek:=Xt M0 0 fun _=>rfl
theorem axB:rG [10] (Ek 1)=WJ Ek:=Xt M0 1 fun _=>rfl
def Kw:Option PC:=cF [3] [] Tryz.f212 212 [2]
def Zs:PT:=
 (.ret (bI gw (pc (.deref r1) 19)))
theorem ahu:Kw.map told=some (Zs,[]):=by kernel_rfl
theorem aA1:tree (ab Kw)=Zs:=aQ ahu
def KA:Option PC:=cF [4] [] Tryz.f211 211 []
def Zw:PT:=
 (.call ⟨[],[]⟩ [] 7 223 [r0,r1]
 (.ret (bk r7 (pi 0))))
theorem ahx:KA.map told=some (Zw,[]):=by kernel_rfl
theorem aA6:tree (ab KA)=Zw:=aQ ahx
def Bq:Option PC:=cF [4,5] [] Tryz.f223 223 []
def QH:Nat→PC:=bo Bq
def au8 (b:Nat→PC):PC:=.block 0 [4,8,9] [] (.loop [4,8] [] (b 0))
def HZ (b:Nat→PC):PT:=
 (.ite (ak r8 r7)
 (.blockS ⟨[],[]⟩ 1 [4,5,10,11,12,13,14,15,16] []
 (.chk (aq r0 r8)
 (.callc ⟨[(5,r8)],[]⟩ [] 16 r1 [(pn r0 r8)]
 (.ite bT
 (.ret r5)
 (.next ⟨[],[]⟩))))
 (.next ⟨[(8,uU)],[]⟩))
 (.exit 0 ⟨[(9,(ak r8 r7))],[]⟩))
def ZB (b:Nat→PC):PT:=
 (.brk ⟨[(8,(pi 0)),(7,(.llen r0)),(4,(pi 0))],[]⟩
(au8 b)
 (.ret (pi (-1))))
def apE (b:Nat→PC):PT×List (Shp×PT):=(ZB b,[(.lp 0 [4,8,9] [] [4,8] [],HZ b)])
theorem US:Bq.map told=some (apE (bq Bq)):=by kernel_rfl
theorem aBb:tree (ab Bq)=ZB QH:=bG US
theorem WK:round 0 [4,8,9] [] [4,8] [] (QH 0)=HZ QH:=bf US 0 fun _=>rfl
def Kt:Option PC:=cF [4] [] Tryz.f147 147 [2]
def Zd:PT:=
 (.call ⟨[],[(2,(.mk [r0]))]⟩ [] 9 135 [r1,(.llen iZ)]
 (.ite (.nt r9)
 (.ret (pi (-1)))
 (.chk (aq (pc o2 1) r1)
 (.ret (pc (pn (pc o2 1) r1) 1)))))
theorem ahr:Kt.map told=some (Zd,[]):=by kernel_rfl
theorem aAM:tree (ab Kt)=Zd:=aQ ahr
def Ku:Option PC:=cF [4] [] Tryz.f135 135 []
def Zh:PT:=
 (.ret VF)
theorem ahs:Ku.map told=some (Zh,[]):=by kernel_rfl
theorem aAQ:tree (ab Ku)=Zh:=aQ ahs
def Ky:Option PC:=cF [] [] Tryz.f213 213 [2]
def Zt:PT:=
 (.ite r0
 (.ret (.mk [(pc Nq 0),(pc Nq 1)]))
 (.ret (.mk [(pc Nr 0),(pc Nr 1)])))
theorem ahv:Ky.map told=some (Zt,[]):=by kernel_rfl
theorem aA3:tree (ab Ky)=Zt:=aQ ahv
def Bm:Option PC:=cF [] [] Tryz.f214 214 [3,6,8]
def QG:Nat→PC:=bo Bm
def au3 (b:Nat→PC):PC:=.block 0 [12,13] [6] (.loop [12] [6] (b 0))
def HW (b:Nat→PC):PT:=
 (.ite wC
 (.blockS ⟨[],[]⟩ 1 [8,14,15,16,17,18,19,20,25] [8,6]
 (.chk (aq cV bY)
 (.iteS ⟨[],[(8,(.setc z3 0 pQ))]⟩ (.pick (peq (pc (.setc z3 0 pQ) 0) r1) (peq (pc (.setc z3 0 pQ) 1) r2) pF) [] [6]
 (.call ⟨[],[]⟩ [] 29 213 [(aF (pc o8 2) (pi 0))]
 (.ret (.mk [(pc (.setc o6 0 mX) 0),(pc (.setc o6 0 mX) 1)])))
 (.next ⟨[],[]⟩)
 (.next ⟨[],[]⟩)))
 (.next ⟨[(12,zz)],[]⟩))
 (.exit 0 ⟨[(13,wC)],[]⟩))
def Zq (b:Nat→PC):PT:=
 (.brk ⟨[(12,(pi 0)),(11,(.llen (pc (.mk [r0]) 18))),(10,(pc (.mk [r0]) 18))],[(6,gx)]⟩
(au3 b)
 (.ret (.mk [(pc (.setc o6 0 zA) 0),(pc (.setc o6 0 zA) 1)])))
def apA (b:Nat→PC):PT×List (Shp×PT):=(Zq b,[(.lp 0 [12,13] [6] [12] [6],HW b)])
theorem UR:Bm.map told=some (apA (bq Bm)):=by kernel_rfl
theorem aAZ:tree (ab Bm)=Zq QG:=bG UR
theorem WG:round 0 [12,13] [6] [12] [6] (QG 0)=HW QG:=bf UR 0 fun _=>rfl
def JV:Option PC:=cF [2,3,4,11] [] Tryz.f178 178 []
def X8:PT:=
 (.blockS ⟨[],[]⟩ 0 [2,3,4,5,6,7,10,11,12,13,14] []
 (.iteS ⟨[],[]⟩ (.pick (ak r0 (pi 0)) pT (bk r0 (pi 22))) [2,3,11,12,13,14] []
 (.ret (.tup [(pi 0),pF]))
 (.call ⟨[],[]⟩ [] 14 176 [(.lst [(pc s9 0),(pc s9 1),(pc s9 2),(pc s9 3),(pc s9 4),(pc s9 5),(pc s9 6),(pc s9 7),(pc s9 8),(pc s9 9)]),r0]
 (.ite bQ
 (.ret (.tup [(pi 0),pT]))
 (.next ⟨[],[]⟩)))
 (.next ⟨[],[]⟩))
 (.ret (.tup [(pi 1),pT])))
theorem agS:JV.map told=some (X8,[]):=by kernel_rfl
theorem azM:tree (ab JV)=X8:=aQ agS
def KD:Option PC:=cF [4] [] Tryz.f176 176 []
def Zz:PT:=
 (.call ⟨[],[]⟩ [] 7 195 [r0,r1]
 (.ret (bk r7 (pi 0))))
theorem ahA:KD.map told=some (Zz,[]):=by kernel_rfl
theorem aA9:tree (ab KD)=Zz:=aQ ahA
def Bu:Option PC:=cF [4,5] [] Tryz.f195 195 []
def QL:Nat→PC:=bo Bu
def avc (b:Nat→PC):PC:=.block 0 [4,8,9] [] (.loop [4,8] [] (b 0))
def H4 (b:Nat→PC):PT:=
 (.ite (ak r8 r7)
 (.chk (aq r0 r8)
 (.ite (peq r1 (pn r0 r8))
 (.ret r8)
 (.next ⟨[(8,uU)],[]⟩)))
 (.exit 0 ⟨[(9,(ak r8 r7))],[]⟩))
def ZF (b:Nat→PC):PT:=
 (.brk ⟨[(8,(pi 0)),(7,(.llen r0)),(4,(pi 0))],[]⟩
(avc b)
 (.ret (pi (-1))))
def apI (b:Nat→PC):PT×List (Shp×PT):=(ZF b,[(.lp 0 [4,8,9] [] [4,8] [],H4 b)])
theorem UX:Bu.map told=some (apI (bq Bu)):=by kernel_rfl
theorem aBf:tree (ab Bu)=ZF QL:=bG UX
theorem WO:round 0 [4,8,9] [] [4,8] [] (QL 0)=H4 QL:=bf UX 0 fun _=>rfl
def AK:Option PC:=cF [8,9,11,12,13,14,55,70] [] Tryz.f180 180 [4,10,53]
def Qf:Nat→PC:=bo AK
def at6 (b:Nat→PC):PC:=.block 0 [] [] (.loop [8,9,10] [10] (b 0))
def V6 (b:Nat→PC):PT:=
 (.blockS ⟨[],[]⟩ 1 [8,9,10,11,12,13,14,32,33,35,36,37,38,39,40,41,42,43,44,45,46,49,50,52,53,54,55,56,57,58,68,70,71] [53,10]
 (.chk (aq cm (bm (.llen cm) (pi 1)))
 (.call ⟨[(11,(pn cm (bm (.llen cm) (pi 1))))],[]⟩ [] 41 198 [(az 8 o4),(pn cm (bm (.llen cm) (pi 1))),r2,r3]
 (.ite (peq (.tget rA 0) bJ)
 (.ret (.tup [cm,(pi 0)]))
 (.call ⟨[(13,(.tget rA 1)),(12,(.tget rA 0))],[]⟩ [] 50 176 [cm,(.tget rA 0)]
 (.chk (bI (.llen (.app cm (.lst [bY]))) cU)
 (.chk (.nt (.an (.an l6 (.an (.nt (.nt cZ)) pT)) (.nt (aq (pc o4 4) bY))))
 (.ite (.pick (.nt cZ) pT (.pick l6 (pc (pn (pc o4 4) bY) 1) pF))
 (.ret (.tup [(.app cm (.lst [bY])),(pi 0)]))
 (.ite l6
 (.ret (.tup [(.app cm (.lst [bY])),(pi 12)]))
 (.next ⟨[(10,pN)],[(10,(.app cm (.lst [bY])))]⟩)))))))))
 (.next ⟨[],[]⟩))
def XV (b:Nat→PC):PT:=
 (.call ⟨[(9,(pi 0)),(8,pL)],[(4,(.mk [r0]))]⟩ [] 19 197 [jP,r1,r2,r3]
 (.chk (.nt (.an (.an (.nt (.nt dC)) pT) (.nt (aq r3 (pi 0)))))
 (.ite (.pick (.nt dC) pT (aF (pn r3 (pi 0)) r1))
 (.ret (.tup [pL,(pi 1)]))
 (.brk ⟨[(10,pN)],[(10,(.lst [r1]))]⟩
(at6 b)
 (.next ⟨[],[]⟩)))))
def aoV (b:Nat→PC):PT×List (Shp×PT):=(XV b,[(.lp 0 [] [] [8,9,10] [10],V6 b)])
theorem Uq:AK.map told=some (aoV (bq AK)):=by kernel_rfl
theorem azy:tree (ab AK)=XV Qf:=bG Uq
theorem axy:round 0 [] [] [8,9,10] [10] (Qf 0)=V6 Qf:=bf Uq 0 fun _=>rfl
def JM:Option PC:=cF [8] [] Tryz.f197 197 [4,9]
def wY:PT:=
 (.ite (.pick (.pick (.pick (.pick (ak r1 (pi 0)) pT (bk r1 (pc (.setc GP 0 GN) 0))) pT (ak r2 (pi 0))) pT (bk r2 (pi 22))) pT (aF (.llen r3) (pi 5)))
 (.ret pF)
 (.call ⟨[],[]⟩ [] 35 215 [r3,(.clo 216 [(.ref (pc (.setc GP 0 GN) 0))])]
 (.ret (.nt pV))))
theorem agI:JM.map told=some (wY,[]):=by kernel_rfl
theorem azB:tree (ab JM)=wY:=aQ agI
def JN:Option PC:=cF [3] [] Tryz.f216 216 []
def XX:PT:=
 (.ret (.pick (ak r0 (pi 0)) pT (bk r0 (.deref r1))))
theorem agJ:JN.map told=some (XX,[]):=by kernel_rfl
theorem azA:tree (ab JN)=XX:=aQ agJ
def KC:Option PC:=cF [4] [] Tryz.f215 215 []
def Zy:PT:=
 (.call ⟨[],[]⟩ [] 7 224 [r0,r1]
 (.ret (bk r7 (pi 0))))
theorem ahz:KC.map told=some (Zy,[]):=by kernel_rfl
theorem aA8:tree (ab KC)=Zy:=aQ ahz
def Bt:Option PC:=cF [4,5] [] Tryz.f224 224 []
def QK:Nat→PC:=bo Bt
def avb (b:Nat→PC):PC:=.block 0 [4,8,9] [] (.loop [4,8] [] (b 0))
def H3 (b:Nat→PC):PT:=
 (.ite (ak r8 r7)
 (.blockS ⟨[],[]⟩ 1 [4,5,10,11,12,13,14,15,16] []
 (.chk (aq r0 r8)
 (.callc ⟨[(5,r8)],[]⟩ [] 16 r1 [(pn r0 r8)]
 (.ite bT
 (.ret r5)
 (.next ⟨[],[]⟩))))
 (.next ⟨[(8,uU)],[]⟩))
 (.exit 0 ⟨[(9,(ak r8 r7))],[]⟩))
def ZE (b:Nat→PC):PT:=
 (.brk ⟨[(8,(pi 0)),(7,(.llen r0)),(4,(pi 0))],[]⟩
(avb b)
 (.ret (pi (-1))))
def apH (b:Nat→PC):PT×List (Shp×PT):=(ZE b,[(.lp 0 [4,8,9] [] [4,8] [],H3 b)])
theorem UW:Bt.map told=some (apH (bq Bt)):=by kernel_rfl
theorem aBe:tree (ab Bt)=ZE QK:=bG UW
theorem WN:round 0 [4,8,9] [] [4,8] [] (QK 0)=H3 QK:=bf UW 0 fun _=>rfl
def AL:Option PC:=cF [8,9] [] Tryz.f198 198 [4,11]
def Qg:Nat→PC:=bo AL
def at7 (b:Nat→PC):PC:=.block 0 [8,9,25,26] [] (.loop [8,9,25] [] (b 0))
def Hh (b:Nat→PC):PT:=
 (.ite (ak jQ oy)
 (.chk (aq gy jQ)
 (.ite (.pick (peq (pc GZ 0) r2) (aF (pc GZ 1) (pi 0)) pF)
 (.chk (aq r3 (pc GZ 1))
 (.ret (.tup [(pn r3 (pc GZ 1)),(pc GZ 2)])))
 (.next ⟨[(25,(aG jQ (pi 1)))],[]⟩)))
 (.exit 0 ⟨[(26,(ak jQ oy))],[]⟩))
def XW (b:Nat→PC):PT:=
 (.call ⟨[(9,pF),(8,(pi 0))],[(4,(.mk [r0]))]⟩ [] 16 197 [jP,r1,r2,r3]
 (.ite (.nt bT)
 (.ret (.tup [(pi (-1)),pF]))
 (.chk (aq (pc o4 4) r1)
 (.brk ⟨[(25,(pi 0)),(24,(.llen (pc (pn (pc o4 4) r1) 2))),(23,(pc (pn (pc o4 4) r1) 2))],[]⟩
(at7 b)
 (.ret (.tup [r1,pF]))))))
def aoW (b:Nat→PC):PT×List (Shp×PT):=(XW b,[(.lp 0 [8,9,25,26] [] [8,9,25] [],Hh b)])
theorem Ur:AL.map told=some (aoW (bq AL)):=by kernel_rfl
theorem azz:tree (ab AL)=XW Qg:=bG Ur
theorem V7:round 0 [8,9,25,26] [] [8,9,25] [] (Qg 0)=Hh Qg:=bf Ur 0 fun _=>rfl
def JU:Option PC:=cF [7,9,11,12] [] Tryz.f145 145 [3,6,8,10]
def X7:PT:=
 (.call ⟨[],[(6,gx)]⟩ [] 16 181 [(az 4 (.mk [r0])),r1]
 (.ite (aF (.tget bT 1) (pi 0))
 (.ret (.tup [(.mk [(pc (.setc o6 0 zA) 0),(pc (.setc o6 0 zA) 1)]),(.tget bT 1)]))
 (.call ⟨[],[]⟩ [] 25 182 [(.mk [(pc (.setc mU 0 (.tget bT 0)) 0),(pc (.setc mU 0 (.tget bT 0)) 1),(pc (.setc mU 0 (.tget bT 0)) 2)]),r2]
 (.call ⟨[],[(10,(.setc gx 0 jQ))]⟩ [] 28 178 [r1]
 (.ret (.tup [(.mk [(pc (.setc o6 0 (.mk [(pc NC 0),(pc NC 1)])) 0),(pc (.setc o6 0 (.mk [(pc NC 0),(pc NC 1)])) 1)]),(pi 0)]))))))
theorem agR:JU.map told=some (X7,[]):=by kernel_rfl
theorem azL:tree (ab JU)=X7:=aQ agR
def JW:Option PC:=cF [5,6,7,8,10,11] [] Tryz.f181 181 [2,3,4,12292,9]
def X9:PT:=
 (.call ⟨[],[(4,mU),(3,(.mk [r1])),(2,(.mk [r0]))]⟩ [] 14 178 [(pc (.mk [r1]) 0)]
 (.ite (.nt (.tget bQ 1))
 (.ret (.tup [VM,(pi 1)]))
 (.call ⟨[(6,(.tget bQ 0))],[]⟩ [] 23 199 [(pc o2 3),(.clo 200 [(.ref (pc o3 0))])]
 (.ite (ak gy (pi 0))
 (.ret (.tup [VM,(pi 4)]))
 (.chk (aq (pc o2 3) gy)
 (.call ⟨[],[(9,NM)]⟩ [] 35 201 [(.mk [(pc NM 0),(pc NM 1),(pc NM 2)])]
 (.ite (.pick (aF (.tget pV 1) (pi 0)) pT (aF (.tget pV 0) r6))
 (.ret (.tup [VM,(pi 11)]))
 (.ret (.tup [(.mk [(pc VR 0),(pc VR 1),(pc VR 2)]),(pi 0)])))))))))
theorem agT:JW.map told=some (X9,[]):=by kernel_rfl
theorem azO:tree (ab JW)=X9:=aQ agT
def JX:Option PC:=cF [3] [] Tryz.f200 200 [2]
def Ya:PT:=
 (.ret (peq gw (.deref r1)))
theorem agU:JX.map told=some (Ya,[]):=by kernel_rfl
theorem azN:tree (ab JX)=Ya:=aQ agU
def Bs:Option PC:=cF [4,5] [] Tryz.f199 199 []
def QJ:Nat→PC:=bo Bs
def ava (b:Nat→PC):PC:=.block 0 [4,8,9] [] (.loop [4,8] [] (b 0))
def H2 (b:Nat→PC):PT:=
 (.ite (ak r8 r7)
 (.blockS ⟨[],[]⟩ 1 [4,5,10,11,12,13,14,15,16] []
 (.chk (aq r0 r8)
 (.callc ⟨[(5,r8)],[]⟩ [] 16 r1 [(pn r0 r8)]
 (.ite bT
 (.ret r5)
 (.next ⟨[],[]⟩))))
 (.next ⟨[(8,uU)],[]⟩))
 (.exit 0 ⟨[(9,(ak r8 r7))],[]⟩))
def ZD (b:Nat→PC):PT:=
 (.brk ⟨[(8,(pi 0)),(7,(.llen r0)),(4,(pi 0))],[]⟩
(ava b)
 (.ret (pi (-1))))
def apG (b:Nat→PC):PT×List (Shp×PT):=(ZD b,[(.lp 0 [4,8,9] [] [4,8] [],H2 b)])
theorem UU:Bs.map told=some (apG (bq Bs)):=by kernel_rfl
theorem aBd:tree (ab Bs)=ZD QJ:=bG UU
theorem WM:round 0 [4,8,9] [] [4,8] [] (QJ 0)=H2 QJ:=bf UU 0 fun _=>rfl
def KI:Option PC:=cF [2,3] [] Tryz.f201 201 [1]
def ZN:PT:=
 (.call ⟨[],[(1,(.mk [r0]))]⟩ [] 5 217 [(.mk [gw,iZ,zG]),(pi 1)]
 (.ite (aR r5 (pi 60))
 (.ret (.tup [(pi 0),(pi 6)]))
 (.call ⟨[],[]⟩ [] 8 218 [(.mk [(pc o1 0),(pc o1 1),(pc o1 2)])]
 (.ret (.tup [(.tget r8 0),(.tget r8 1)])))))
theorem ahI:KI.map told=some (ZN,[]):=by kernel_rfl
theorem aBn:tree (ab KI)=ZN:=aQ ahI
def ya:Option PC:=cF [4,5] [] Tryz.f217 217 [2,7,12295]
def QR:Nat→PC:=bo ya
def avk (b:Nat→PC):PC:=.block 0 [5,13,14] [] (.loop [5,13] [] (b 0))
def H8 (b:Nat→PC):PT:=
 (.ite (ak cZ bY)
 (.blockS ⟨[(14,(ak cZ bY))],[]⟩ 1 [5,7,15,16,17,18,19,20,21,22,23,24] [7,12295]
 (.chk (aq bJ cZ)
 (.call ⟨[(17,r5)],[]⟩ [] 21 217 [(.mk [(pc (.setc mU 0 (pn bJ cZ)) 0),(pc (.setc mU 0 (pn bJ cZ)) 1),(pc (.setc mU 0 (pn bJ cZ)) 2)]),(aG r1 (pi 1))]
 (.ite (aR (aG dB gY) (pi 60))
 (.exit 0 ⟨[(5,(aG dB gY))],[]⟩)
 (.next ⟨[(5,(aG dB gY))],[]⟩))))
 (.next ⟨[(13,(aG cZ (pi 1)))],[]⟩))
 (.exit 0 ⟨[(14,(ak cZ bY))],[]⟩))
def Ph (b:Nat→PC):PT:=
 (.ite (aR r1 (pi 8))
 (.ret (pi 61))
 (.brk ⟨[(13,(pi 0)),(12,ry),(11,zG),(5,(pi 1))],[]⟩
(avk b)
 (.ret r5)))
def apP (b:Nat→PC):PT×List (Shp×PT):=(Ph b,[(.lp 0 [5,13,14] [] [5,13] [],H8 b)])
theorem U2:ya.map told=some (apP (bq ya)):=by kernel_rfl
theorem aki:tree (ab ya)=Ph QR:=bG U2
theorem WV:round 0 [5,13,14] [] [5,13] [] (QR 0)=H8 QR:=bf U2 0 fun _=>rfl
def Bz:Option PC:=cF [2,3,5,7,8,38,47,10,11,12] [] Tryz.f218 218 [1,4,6,12294,9]
def En:Nat→PC:=bo Bz
def avh (b:Nat→PC):PC:=.block 0 [2,3,20,21] [4] (.loop [2,3,20] [4] (b 0))
def avi (b:Nat→PC):PC:=.block 3 [2,3,10,82,83] [] (.loop [2,3,10,82] [] (b 1))
def H6 (b:Nat→PC):PT:=
 (.ite (ak fm dC)
 (.blockS ⟨[],[]⟩ 1 [2,3,5,6,7,8,22,23,24,25,26,27,28,29,30,31,33,34,35,36] [6,12294,4]
 (.chk (aq cv fm)
 (.call ⟨[(5,fm)],[]⟩ [] 27 218 [(.mk [(pc (.setc mU 0 (pn cv fm)) 0),(pc (.setc mU 0 (pn cv fm)) 1),(pc (.setc mU 0 (pn cv fm)) 2)])]
 (.ite (aF (.tget dD 1) (pi 0))
 (.ret (.tup [(pi 0),(.tget dD 1)]))
 (.chk (aq o4 r5)
 (.next ⟨[],[(4,(.setn o4 r5 0 (.tget dD 0)))]⟩)))))
 (.next ⟨[(20,(aG fm (pi 1)))],[]⟩))
 (.exit 0 ⟨[(21,(ak fm dC))],[]⟩))
def wL (b:Nat→PC):PT:=
 (.ite (ak lG rC)
 (.chk (aq wJ lG)
 (.ite (.pick (peq (pn wJ lG) (pi (-1))) (peq cV (pi (-1))) pF)
 (.chk (aq o4 lG)
 (.ite (aF (pn o4 lG) (.pick (peq (pn wJ lG) (pi (-1))) (pn o4 lG) (pn wJ lG)))
 (.ret (.tup [(pi 0),(pi 11)]))
 (.next ⟨[(10,(pn o4 lG)),(82,(aG lG (pi 1)))],[]⟩)))
 (.chk (aq o4 lG)
 (.ite (aF (pn o4 lG) (.pick (peq (pn wJ lG) (pi (-1))) cV (pn wJ lG)))
 (.ret (.tup [(pi 0),(pi 11)]))
 (.next ⟨[(82,(aG lG (pi 1)))],[]⟩)))))
 (.exit 3 ⟨[(83,(ak lG rC))],[]⟩))
def ZR (b:Nat→PC):PT:=
 (.chk (.an (bk ry (pi 0)) (bI ry cU))
 (.chk (peq ry ry)
 (.brk ⟨[(20,(pi 0)),(19,ry),(18,zG),(4,pN),(3,(pi 0)),(2,(pi 0))],[(4,(.rep ry (pi 0))),(1,(.mk [r0]))]⟩
(avh b)
 (.blockS ⟨[],[]⟩ 2 [2,3,38,39,40,41,42,46,47,48,49,50,51,55,56,60] []
 (.iteS ⟨[],[]⟩ (.pick (ak (pc o1 0) (pi 0)) pT (aR (pc o1 0) (pi 13))) [2,3,47,48,49,50,51,55,56,60] []
 (.ret (.tup [(pi 0),(pi 1)]))
 (.iteS ⟨[],[]⟩ (.pick (.pick (peq (pc o1 0) (pi 0)) pT (peq (pc o1 0) (pi 1))) pT (peq (pc o1 0) (pi 2))) [2,3] []
 (.call ⟨[],[]⟩ [] 62 225 [(.mk [(pc o1 0),(pc o1 1),(pc o1 2)])]
 (.ret (.tup [(.tget l9 0),(.tget l9 1)])))
 (.next ⟨[],[]⟩)
 (.next ⟨[],[]⟩))
 (.next ⟨[],[]⟩))
 (.call ⟨[],[]⟩ [] 67 226 [(pc o1 0)]
 (.ite (.pick (aF (.llen o4) (.llen (pc (.setc lX 0 wI) 0))) pT (aF (pc o1 1) (pi 0)))
 (.ret (.tup [(pi 0),(pi 2)]))
 (.brk ⟨[(82,(pi 0)),(81,(.llen (pc (.setc lX 0 wI) 0))),(80,(pc (.setc lX 0 wI) 0)),(10,(pi (-1)))],[(9,(.setc lX 0 wI))]⟩
(avi b)
 (.ite (peq (pc o9 1) (pi (-1)))
 (.ret (.tup [cV,(pi 0)]))
 (.ret (.tup [(pc o9 1),(pi 0)]))))))))))
def apN (b:Nat→PC):PT×List (Shp×PT):=(ZR b,[(.lp 0 [2,3,20,21] [4] [2,3,20] [4],H6 b),(.lp 3 [2,3,10,82,83] [] [2,3,10,82] [],wL b)])
theorem M3:Bz.map told=some (apN (bq Bz)):=by kernel_rfl
theorem aBr:tree (ab Bz)=ZR En:=bG M3
theorem WT:round 0 [2,3,20,21] [4] [2,3,20] [4] (En 0)=H6 En:=bf M3 0 fun _=>rfl
theorem Dl:round 3 [2,3,10,82,83] [] [2,3,10,82] [] (En 1)=wL En:=bf M3 1 fun _=>rfl
def KO:Option PC:=cF [2,3,12,20,4,5] [] Tryz.f225 225 [1]
def ZU:PT:=
 (.ite (aR ry (pi 0))
 (.ret (.tup [(pi 0),(pi 2)]))
 (.blockS ⟨[(11,gw)],[(1,(.mk [r0]))]⟩ 0 [2,3,12,13,20,21] []
 (.iteS ⟨[],[]⟩ (peq bJ (pi 0)) [2,3,20,21] []
 (.call ⟨[],[]⟩ [] 16 229 [(pc o1 1)]
 (.ite (aF bT (pc o1 1))
 (.ret (.tup [(pi 0),(pi 3)]))
 (.ret (.tup [(pi 0),(pi 0)]))))
 (.ite (peq bJ (pi 1))
 (.ite (.pick (ak (pc o1 1) (pi 0)) pT (aR (pc o1 1) (pi 1)))
 (.ret (.tup [(pi 0),(pi 3)]))
 (.ret (.tup [(pi 1),(pi 0)])))
 (.next ⟨[],[]⟩))
 (.next ⟨[],[]⟩))
 (.call ⟨[],[]⟩ [] 33 227 [(pc o1 1)]
 (.ite (.nt (.tget rz 1))
 (.ret (.tup [(pi 0),(pi 10)]))
 (.ret (.tup [(.tget rz 0),(pi 0)]))))))
theorem ahO:KO.map told=some (ZU,[]):=by kernel_rfl
theorem aBu:tree (ab KO)=ZU:=aQ ahO
end Rm
