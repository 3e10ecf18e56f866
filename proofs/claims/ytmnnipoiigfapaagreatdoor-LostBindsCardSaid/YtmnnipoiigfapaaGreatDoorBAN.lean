/-
  The functions of this seat, compiled (3).
-/
import Derived.Test.YtmnnipoiigfapaaGreatDoorBAK
import Derived.KernelRfl
set_option linter.unusedVariables false
set_option maxRecDepth 100000
noncomputable section
namespace Rm
open Go Go.Proofs Cx
def IE:Option PC:=cF [] [] Tryz.f161 161 [2]
def VW:PT:=
 (.ite r0
 (.ret (.mk [(pc KT 0),(pc KT 1)]))
 (.ret (.mk [(pc KU 0),(pc KU 1)])))
theorem ade:IE.map told=some (VW,[]):=by kernel_rfl
theorem awh:tree (ab IE)=VW:=aV ade
def Iy:Option PC:=cF [9,22,41,6,7,82,88,94] [] Tryz.f149 149 [4,5]
def VQ:PT:=
 (.blockS ⟨[(8,r0)],[(4,gk)]⟩ 0 [9,10,22,23] [4]
 (.iteS ⟨[],[]⟩ (aj r8 (pi 3)) [22,23] [4]
 (.chk (ar r1 (pi 0))
 (.iteS ⟨[],[]⟩ (pc (pn r1 (pi 0)) 0) [] [4]
 (.chk (ar r1 (pi 0))
 (.call ⟨[],[]⟩ [] 20 161 [(aj (pc (pn r1 (pi 0)) 1) (pi 0))]
 (.ret (.mk [(pc (.setc o4 0 cv) 0),(pc (.setc o4 0 cv) 1)]))))
 (.next ⟨[],[]⟩)
 (.ret Fc)))
 (.iteS ⟨[],[]⟩ (.pick (aj r8 (pi 4)) (aj r8 (pi 4)) (aj r8 (pi 5))) [] [4]
 (.call ⟨[],[]⟩ [] 27 161 [(aj r0 (pi 5))]
 (.chk (ar r1 (pi 0))
 (.chk (.nt (.an (.an (.nt ad9) pT) (.nt (ar r1 (pi 1)))))
 (.ite (.pick ad9 pT (.an (.cb .eql (pc qC 0) (pc BG 0)) (.an (aj (pc qC 1) (pc BG 1)) pT)))
 (.ret (.mk [(pc (.setc o4 0 BG) 0),(pc (.setc o4 0 BG) 1)]))
 (.next ⟨[],[]⟩)))))
 (.ite (aj r8 (pi 6))
 (.chk (ar r1 (pi 1))
 (.chk (.nt (.an (.an (pc qC 0) pT) (.nt (ar r1 (pi 1)))))
 (.chk (.nt (.an (.an (pc qC 0) pT) (.nt (ar r1 (pi 2)))))
 (.ite (.pick (pc qC 0) (.an (.cb .eql (pc qC 0) (pc (pn r1 (pi 2)) 0)) (.an (aj (pc qC 1) (pc (pn r1 (pi 2)) 1)) pT)) pF)
 (.ret (.mk [(pc (.setc o4 0 qC) 0),(pc (.setc o4 0 qC) 1)]))
 (.ret Fc)))))
 (.next ⟨[],[]⟩))
 (.next ⟨[],[]⟩))
 (.next ⟨[],[]⟩))
 (.chk (ar r1 (pi 0))
 (.chk (.nt (.an (.an (.nt (.nt (pc (pn r1 (pi 0)) 0))) pT) (.nt (ar r1 (pi 1)))))
 (.ite (.pick (.nt (pc (pn r1 (pi 0)) 0)) pT (.nt (pc qC 0)))
 (.ret Fc)
 (.chk (ar r1 (pi 1))
 (.blockS ⟨[(81,r0),(7,(pc qC 1)),(6,(pc (pn r1 (pi 0)) 1))],[]⟩ 1 [82,83,88,89,94,95] [4]
 (.iteS ⟨[],[]⟩ (.pick (aj yj (pi 4)) (aj yj (pi 4)) (aj yj (pi 5))) [88,89,94,95] [4]
 (.call ⟨[],[]⟩ [] 87 161 [(aj r0 (pi 4))]
 (.ret (.mk [(pc (.setc o4 0 K7) 0),(pc (.setc o4 0 K7) 1)])))
 (.iteS ⟨[],[]⟩ (aj yj (pi 7)) [94,95] [4]
 (.call ⟨[],[]⟩ [] 93 161 [(ah r6 r7)]
 (.ret (.mk [(pc (.setc o4 0 K9) 0),(pc (.setc o4 0 K9) 1)])))
 (.iteS ⟨[],[]⟩ (aj yj (pi 8)) [] [4]
 (.call ⟨[],[]⟩ [] 99 161 [(aj r6 r7)]
 (.ret (.mk [(pc (.setc o4 0 r99) 0),(pc (.setc o4 0 r99) 1)])))
 (.next ⟨[],[]⟩)
 (.next ⟨[],[]⟩))
 (.next ⟨[],[]⟩))
 (.next ⟨[],[]⟩))
 (.call ⟨[],[]⟩ [] 103 163 [r0,r6,r7]
 (.ret (.mk [(pc (.setc o4 0 (.mk [pT,aeh])) 0),(pc (.setc o4 0 (.mk [pT,aeh])) 1)])))))))))
theorem ac6:Iy.map told=some (VQ,[]):=by kernel_rfl
theorem awa:tree (ab Iy)=VQ:=aV ac6
def Ix:Option PC:=cF [6,8,14,20,25] [] Tryz.f163 163 []
def VO:PT:=
 (.blockS ⟨[(7,r0)],[]⟩ 0 [6,8,9,14,15,20,21,25,26] []
 (.iteS ⟨[],[]⟩ (aj r7 (pi 9)) [6,14,15,20,21,25,26] []
 (.call ⟨[],[]⟩ [] 13 162 [(aL r1 r2)]
 (.ret cU))
 (.iteS ⟨[],[]⟩ (aj r7 (pi 10)) [6,20,21,25,26] []
 (.call ⟨[],[]⟩ [] 19 162 [(bE r1 r2)]
 (.ret eB))
 (.iteS ⟨[],[]⟩ (aj r7 (pi 11)) [6,25,26] []
 (.call ⟨[],[]⟩ [] 24 171 [r1,r2]
 (.ret nK))
 (.ite (aj r7 (pi 12))
 (.ret (.mn r1 r2))
 (.next ⟨[],[]⟩))
 (.next ⟨[],[]⟩))
 (.next ⟨[],[]⟩))
 (.next ⟨[],[]⟩))
 (.ret (.mx r1 r2)))
theorem ac5:Ix.map told=some (VO,[]):=by kernel_rfl
theorem av8:tree (ab Ix)=VO:=aV ac5
def IC:Option PC:=cF [4,5,6,7] [] Tryz.f171 171 []
def VU:PT:=
 (.call ⟨[],[]⟩ [] 19 173 [(.conv .u64 (.mx r0 (bE (pi 0) r0))),(.conv .u64 (.mx r1 (bE (pi 0) r1)))]
 (.ite (.cb .neq (ah r0 (pi 0)) (ah r1 (pi 0)))
 (.ret (bE (pi 0) adZ))
 (.ret adZ)))
theorem ada:IC.map told=some (VU,[]):=by kernel_rfl
theorem awf:tree (ab IC)=VU:=aV ada
def HA:Option PC:=cF [4,5,6,7,8,9,10,11,12,13] [] Tryz.f173 173 []
def T6:PT:=
 (.chk (cS BL (pi 0))
 (.ret (.tup [(.ai .add .u64 (.ai .add .u64 (.ai .mul .u64 (.ai .shr .u64 r0 BL) (.ai .shr .u64 r1 BL)) (.ai .shr .u64 adV BL)) (.ai .shr .u64 (.ai .add .u64 (.ai .and .u64 adV (.con (.v (.int .u64 4294967295)))) (.ai .mul .u64 (.ai .and .u64 r0 (.con (.v (.int .u64 4294967295)))) (.ai .shr .u64 r1 BL))) BL)),(.ai .mul .u64 r0 r1)])))
theorem ab2:HA.map told=some (T6,[]):=by kernel_rfl
theorem aul:tree (ab HA)=T6:=aV ab2
def zL:Option PC:=cF [2,3,5,8] [] Tryz.f150 150 [6]
def CS:Nat→PC:=bn zL
def apT (b:Nat→PC):PC:=.block 0 [3,11,12] [] (.loop [3,11] [] (b 0))
def apU (b:Nat→PC):PC:=.block 2 [6,27,28] [6] (.loop [6,27] [6] (b 1))
def Lx (b:Nat→PC):PT:=
 (.ite (ah bJ cO)
 (.chk (ar r9 bJ)
 (.ite (ah (aL r3 (.llen (pn r9 bJ))) (pi 0))
 (.chk (.nt pT)
 (.chk (.nt pT)
 (.next ⟨[(3,(aL r3 (.llen (pn r9 bJ)))),(11,(aL bJ (pi 1)))],[]⟩)))
 (.next ⟨[(3,(aL r3 (.llen (pn r9 bJ)))),(11,(aL bJ (pi 1)))],[]⟩)))
 (.exit 0 ⟨[(12,(ah bJ cO))],[]⟩))
def Ly (b:Nat→PC):PT:=
 (.ite (ah ei j9)
 (.chk (ar iv ei)
 (.chk (bD (.llen (.app o6 (pn iv ei))) cu)
 (.next ⟨[(6,pN),(27,(aL ei (pi 1)))],[(6,(.app o6 (pn iv ei)))]⟩)))
 (.exit 2 ⟨[(28,(ah ei j9))],[]⟩))
def Vs (b:Nat→PC):PT:=
 (.brk ⟨[(11,(pi 0)),(10,(.llen r0)),(9,r0),(3,(pi 0))],[]⟩
(apT b)
 (.call ⟨[],[]⟩ [] 24 164 [pL,r3]
 (.brk ⟨[(27,(pi 0)),(26,(.llen r0)),(25,r0),(6,pN)],[(6,nK)]⟩
(apU b)
 (.ret o6))))
def akt (b:Nat→PC):PT×List (Shp×PT):=(Vs b,[(.lp 0 [3,11,12] [] [3,11] [],Lx b),(.lp 2 [6,27,28] [6] [6,27] [6],Ly b)])
theorem KF:zL.map told=some (akt (bj zL)):=by kernel_rfl
theorem avM:tree (ab zL)=Vs CS:=bB KF
theorem aeI:round 0 [3,11,12] [] [3,11] [] (CS 0)=Lx CS:=be KF 0 fun _=>rfl
theorem aeJ:round 2 [6,27,28] [6] [6,27] [6] (CS 1)=Ly CS:=be KF 1 fun _=>rfl
def Hr:Option PC:=cF [2] [] Tryz.f34 34 [1]
def TS:PT:=
 (.ite (.pick (aO BD (pi 0)) pT (.nt ln))
 (.ret (pi (-1)))
 (.ret uc))
theorem abT:Hr.map told=some (TS,[]):=by kernel_rfl
theorem at7:tree (ab Hr)=TS:=aV abT
def zX:Option PC:=cF [10] [] Tryz.f12 12 [3,6,7,4103,24583,8,9,11,47]
def Hh:Nat→PC:=bn zX
def X2 (b:Nat→PC):PC:=.each Sc [30,31] [11,4103,24583,7] none (b 0)
def Tj (b:Nat→PC):PT:=
 (.blockS ⟨[(11,pN),(10,nM)],[(11,(.setc z9 0 qF)),(11,z9)]⟩ 1 [32,33,34,35,41,44,46,47,48,49,50,51,52,53,54,55,56,57,58,59,60,61,62,63,64,69] [47,4103,24583,7]
 (.ite RZ
 (.exit 0 ⟨[(43,pN),(42,cO),(41,RZ),(40,(aO (pc mK 2) (pc o7 1))),(39,(pc o7 1)),(38,pN),(37,(pc mK 2)),(36,pN),(35,(.nt (pc o7 3))),(34,(.nt (pc o7 3))),(33,(pc o7 3)),(32,pN)],[(7,(.setc o7 2 cO))]⟩)
 (.chk (bD (.llen (.app (.o 4103) (.lst [cO]))) cu)
 (.call ⟨[(58,(pc mK 8)),(57,pN),(56,(pc (.setc o7 0 pN) 4)),(55,pN),(54,(aj (pc mK 4) (pi (-1)))),(53,(pc mK 4)),(52,pN),(51,(pc mK 4)),(50,pN),(49,pN),(48,pN),(47,pN),(46,cO),(45,pN),(44,pN),(41,RZ),(40,(aO (pc mK 2) (pc o7 1))),(39,(pc o7 1)),(38,pN),(37,(pc mK 2)),(36,pN),(35,(.nt (pc o7 3))),(34,(.nt (pc o7 3))),(33,(pc o7 3)),(32,pN)],[(7,(.setc o7 0 pN)),(4103,(.app (.o 4103) (.lst [cO]))),(47,(.lst [cO])),(7,o7)]⟩ [] 59 31 [(pc (.setc o7 0 pN) 4),(pc mK 8)]
 (.ite (.pick (pc o9 0) Fi pF)
 (.chk (bD (.llen (.app (.o 24583) (.lst [cO]))) cu)
 (.next ⟨[(69,(.pick (pc o9 0) Fi pF)),(68,Fi),(67,(pc o8 0)),(66,(pc mK 6)),(65,pN),(64,(pc o9 0)),(63,(pc o9 0)),(62,pN),(61,pN),(60,pN)],[(24583,(.app (.o 24583) (.lst [cO]))),(7,(.setc (.setc BK 4 ug) 5 pN)),(7,(.setc BK 4 ug)),(7,BK),(7,(.setc o7 1 lU))]⟩))
 (.next ⟨[(69,(.pick (pc o9 0) Fi pF)),(68,Fi),(67,(pc o8 0)),(66,(pc mK 6)),(65,pN),(64,(pc o9 0)),(63,(pc o9 0)),(62,pN),(61,pN),(60,pN)],[(24583,(.o 24583)),(7,(.setc BK 4 ug)),(7,(.setc BK 4 ug)),(7,BK),(7,(.setc o7 1 lU))]⟩)))))
 (.next ⟨[],[(11,mK),(4103,(.o 4103)),(24583,(.o 24583)),(7,o7)]⟩))
def VX (b:Nat→PC):PT:=
 (.call ⟨[],[(24583,pL),(4103,pL),(7,(.setc KZ 0 (.mk [pL,tW,(pi (-1)),(aj tW (pi (-1))),(pi 0),pL]))),(6,KZ),(3,(.mk [r0]))]⟩ [] 23 29 [(au 19 (.mk [r0])),r2]
 (.call ⟨[],[(9,(.setc (.con (.agg [(.bool false)])) 0 (.tget fV 1))),(8,(.setc BM 0 (.tget fV 0)))]⟩ [] 29 30 [(au 19 o3),r1,r2]
 (.blockS ⟨[],[]⟩ 0 [] [4103,24583,7]
 (.callc ⟨[],[]⟩ [] 77 nL []
 (.brk ⟨[],[]⟩
(X2 b)
 (.next ⟨[],[]⟩)))
 (.ret (au 6 (.setc o6 0 (.mk [(.o 4103),(pc o7 1),(pc o7 2),(pc o7 3),(pc o7 4),(.o 24583)])))))))
def akG (b:Nat→PC):PT×List (Shp×PT):=(VX b,[(.ea [11,4103,24583,7],Tj b)])
theorem Rp:zX.map told=some (akG (bj zX)):=by kernel_rfl
theorem awi:tree (ab zX)=VX Hh:=bB Rp
theorem asJ:oX [11,4103,24583,7] (Hh 0)=Tj Hh:=L7 Rp 0 fun _=>rfl
def zY:Option PC:=cF [4,5,6,7] [] Tryz.f29 29 [2,9]
def NF:Nat→PC:=bn zY
def ap8 (b:Nat→PC):PC:=.block 0 [6,7,13,14] [] (.loop [6,7,13] [] (b 0))
def LD (b:Nat→PC):PT:=
 (.ite (ah cU bH)
 (.chk (ar bJ cU)
 (.ite (.pick (.pick (.pick (aO (pc yf 0) (pi 1)) (aO (pc yf 0) (pi 3)) pF) (aO (pc yf 0) (pi 4)) pF) pT (aX (pc yf 6) r1))
 (.next ⟨[(13,(aL cU (pi 1)))],[]⟩)
 (.next ⟨[(6,(.pick (.pick (.nt r7) pT (ah (pc yf 6) r6)) (pc yf 6) r6)),(7,(.pick (.pick (.nt r7) pT (ah (pc yf 6) r6)) pT r7)),(13,(aL cU (pi 1)))],[]⟩)))
 (.exit 0 ⟨[(14,(ah cU bH))],[]⟩))
def VZ (b:Nat→PC):PT:=
 (.brk ⟨[(13,(pi 0)),(12,(.llen BC)),(11,BC),(7,pF),(6,(pi 0))],[]⟩
(ap8 b)
 (.ret (.tup [r6,r7])))
def akH (b:Nat→PC):PT×List (Shp×PT):=(VZ b,[(.lp 0 [6,7,13,14] [] [6,7,13] [],LD b)])
theorem Rq:zY.map told=some (akH (bj zY)):=by kernel_rfl
theorem awk:tree (ab zY)=VZ NF:=bB Rq
theorem aeM:round 0 [6,7,13,14] [] [6,7,13] [] (NF 0)=LD NF:=be Rq 0 fun _=>rfl
def IG:Option PC:=cF [6] [] Tryz.f30 30 [3,4,5]
def V0:PT:=
 (.ret (.clo 64 [(.ref (au 19 (.mk [r0]))),(.ref (pc (.mk [r2]) 0)),(.ref (pc (.mk [r1]) 0))]))
theorem adg:IG.map told=some (V0,[]):=by kernel_rfl
theorem awm:tree (ab IG)=V0:=aV adg
def sW:Option PC:=wC {ctx with fr:=[5,6],nh:=[]} Tryz.f64 [(.ref cL),(.ref I),(.ref I)] [I,Y9] 1000 [1000,7]
def NG:Nat→PC:=bn sW
def ap9 (b:Nat→PC):PC:=.block 0 [14,15] [1000] (.loop [14] [1000] (b 0))
def LF (b:Nat→PC):PT:=
 (.ite nI
 (.blockS ⟨[],[]⟩ 1 [6,7,16,17,18,19,20,21,22,27,28,33,34,39,40,46] [7,1000]
 (.chk (ar bH cI)
 (.call ⟨[(40,adT)],[(1000,ad2)]⟩ [(40,true)] 44 1000000009 [ad2]
 (.ite (.pick qG (.nt sc) pF)
 (.ret (.o 1000))
 (.next ⟨[],[]⟩))))
 (.next ⟨[(14,BE)],[]⟩))
 (.exit 0 ⟨[(15,nI)],[]⟩))
def V1 (b:Nat→PC):PT:=
 (.call ⟨[],[]⟩ [] 10 33 [(.deref r1),(.deref r2)]
 (.brk ⟨[(14,(pi 0)),(13,(.llen (pc (.deref r1) 15))),(12,(pc (.deref r1) 15)),(5,cO)],[]⟩
(ap9 b)
 (.ret (.o 1000))))
def akI (b:Nat→PC):PT×List (Shp×PT):=(V1 b,[(.lp 0 [14,15] [1000] [14] [1000],LF b)])
theorem Rr:sW.map told=some (akI (bj sW)):=by kernel_rfl
theorem awl:tree (ab sW)=V1 NG:=bB Rr
theorem aeN:round 0 [14,15] [1000] [14] [1000] (NG 0)=LF NG:=be Rr 0 fun _=>rfl
theorem ahB:∀yv,wC {ctx with fr:=[5,6],nh:=[],yv:=yv} Tryz.f64 [(.ref cL),(.ref I),(.ref I)] [I,Y9] 1000 [1000,7]=some (ab sW):=fun yv=>(show _=sW by kernel_rfl).trans (ax sW Rr)
def zZ:Option PC:=cF [4] [] Tryz.f33 33 [2,5,7]
def NH:Nat→PC:=bn zZ
def aqa (b:Nat→PC):PC:=.block 0 [12,13] [5] (.loop [12] [5] (b 0))
def Gk (b:Nat→PC):PT:=
 (.ite (ah bH bJ)
 (.chk (ar cO bH)
 (.ite (.pick (aj (pc (.setc z9 0 tU) 0) (pi 7)) (bD (pc (.setc z9 0 tU) 6) r1) pF)
 (.chk (ah (.mlen o5) cu)
 (.next ⟨[(12,(aL bH (pi 1)))],[(5,(.put o5 (pc (.setc z9 0 tU) 4) pT))]⟩))
 (.next ⟨[(12,(aL bH (pi 1)))],[]⟩)))
 (.exit 0 ⟨[(13,(ah bH bJ))],[]⟩))
def V3 (b:Nat→PC):PT:=
 (.brk ⟨[(12,(pi 0)),(11,(.llen BC)),(10,BC),(5,pN)],[(5,(.con (.map [])))]⟩
(aqa b)
 (.ret o5))
def akJ (b:Nat→PC):PT×List (Shp×PT):=(V3 b,[(.lp 0 [12,13] [5] [12] [5],Gk b)])
theorem Rs:zZ.map told=some (akJ (bj zZ)):=by kernel_rfl
theorem awo:tree (ab zZ)=V3 NH:=bB Rs
theorem Tk:round 0 [12,13] [5] [12] [5] (NH 0)=Gk NH:=be Rs 0 fun _=>rfl
def II:Option PC:=cF [4,5,13] [] Tryz.f31 31 []
def V2:PT:=
 (.ite (.pick (aO (.ai .and .i64 r1 (pi 2)) (pi 0)) pT (aO r0 (pi 0)))
 (.ret (pi 1))
 (.ite (aO (.ai .and .i64 r1 (pi 4)) (pi 0))
 (.ret (pi 2))
 (.ret (pi 0))))
theorem adh:II.map told=some (V2,[]):=by kernel_rfl
theorem awn:tree (ab II)=V2:=aV adh
def y8:Option PC:=cF [11,12,15,2000038,1000013] [] Tryz.f9 9 [5,7,8,10,65546,69642,73738,77834,13,65549,69645,73741,77837,14,16,85]
def M6:Nat→PC:=bn y8
def aoY (b:Nat→PC):PC:=.block 0 [14,42,43] [14] (.loop [14,42] [14] (b 0))
def Lf (b:Nat→PC):PT:=
 (.ite (ah rZ oU)
 (.blockS ⟨[],[]⟩ 1 [14,15,16,44,45,46,47,48,49,50,56,57,62,63,69] [16,14]
 (.chk (ar (.o 65549) rZ)
 (.call ⟨[(57,(.pick (aj (pc (.setc z9 0 (.sub (pn (.o 65549) rZ) 0 9)) 0) (pi 2)) (aj (pc (.setc z9 0 (.sub (pn (.o 65549) rZ) 0 9)) 1) (pc o8 1)) pF)),(15,rZ)],[]⟩ [(57,true)] 60 23 [bH,rZ]
 (.call ⟨[(63,(.pick BQ (.nt vD) pF))],[]⟩ [(63,true)] 67 14 [(.mk [(pc jz 0),(pc jz 1),(pc jz 2),(pc jz 3),(pc jz 4),(pc jz 5),(pc jz 6),(pc jz 7),(pc jz 8),(pc jz 9),(pc jz 10),(pc jz 11),(pc jz 12),(pc jz 13),(pc jz 14),(.o 65549),(.o 69645),(.o 73741),(.o 77837)]),jB,r4]
 (.ite (.pick Fm (.nt uh) pF)
 (.chk (ar (pc o5 3) (pc o8 2))
 (.chk (bD (.llen ad4) cu)
 (.next ⟨[(14,pN)],[(14,ad4)]⟩)))
 (.next ⟨[],[]⟩)))))
 (.next ⟨[(42,(aL rZ (pi 1)))],[]⟩))
 (.exit 0 ⟨[(43,(ah rZ oU))],[]⟩))
def Um (b:Nat→PC):PT:=
 (.call ⟨[(19,(aX r4 (pi 100000)))],[(10,j6),(8,(.mk [r3])),(7,(.mk [r2])),(5,(.mk [r0]))]⟩ [(19,false)] 25 16 [jA,r1,E9,(au 6 (.mk [r3])),r4]
 (.ite (.pick eB pT (aO iv (pi 1)))
 (.ret (.tup [adX,(pi 7)]))
 (.call ⟨[],[]⟩ [] 34 12 [(au 19 o7),(pc o8 1),(pc o8 3)]
 (.call ⟨[(12,(pc R6 0))],[]⟩ [] 38 13 [(au 19 o7),r4]
 (.brk ⟨[(42,(pi 0)),(41,(.llen (pc gC 15))),(14,pN)],[(14,pL),(77837,(pc gC 18)),(73741,(pc gC 17)),(69645,(pc gC 16)),(65549,(pc gC 15)),(13,(.setc j6 0 gC))]⟩
(aoY b)
 (.chk (bD (.llen (.app (.o 73741) xM)) cu)
 (.ite (aX (.llen (.app (.o 73741) xM)) (pi 100))
 (.ret (.tup [adX,(pi 6)]))
 (.ret (.tup [(.mk [(pc lQ 0),(pc lQ 1),(pc lQ 2),(pc lQ 3),(pc lQ 4),(pc lQ 5),(pc lQ 6),(pc lQ 7),(pc lQ 8),(pc lQ 9),(pc lQ 10),(pc lQ 11),(pc lQ 12),(pc lQ 13),(pc lQ 14),(.o 65549),(.o 69645),(.app (.o 73741) xM),(.o 77837)]),(pi 0)])))))))))
def ajR (b:Nat→PC):PT×List (Shp×PT):=(Um b,[(.lp 0 [14,42,43] [14] [14,42] [14],Lf b)])
theorem QQ:y8.map told=some (ajR (bj y8)):=by kernel_rfl
theorem auF:tree (ab y8)=Um M6:=bB QQ
theorem aeu:round 0 [14,42,43] [14] [14,42] [14] (M6 0)=Lf M6:=be QQ 0 fun _=>rfl
def IF:Option PC:=cF [6] [] Tryz.f14 14 [3]
def VY:PT:=
 (.call ⟨[(16,(.pick (cS r1 (pi 0)) (ah r1 (.llen oR)) pF))],[]⟩ [(16,true)] 19 33 [(au 19 (.mk [r0])),r2]
 (.ret (.pick dI (.look eB r1 pF) pF)))
theorem adf:IF.map told=some (VY,[]):=by kernel_rfl
theorem awj:tree (ab IF)=VY:=aV adf
def HK:Option PC:=cF [6] [] Tryz.f8 8 [3,4,5]
def Uk:PT:=
 (.call ⟨[],[(5,(.mk [r2])),(3,(.mk [r0]))]⟩ [] 9 21 [jA,Fa]
 (.call ⟨[(10,r9)],[]⟩ [(10,true)] 12 22 [(au 8 o3)]
 (.ret (.pick (.pick cO (aj bH (pi 0)) pF) (bD (.llen (pc o5 5)) (pi 30)) pF))))
theorem ach:HK.map told=some (Uk,[]):=by kernel_rfl
theorem auD:tree (ab HK)=Uk:=aV ach
def zu:Option PC:=cF [4,5] [] Tryz.f21 21 [2,3]
def Nm:Nat→PC:=bn zu
def apw (b:Nat→PC):PC:=.block 0 [4,5,14,15,16,17,18] [] (.loop [4,5] [] (b 0))
def FT (b:Nat→PC):PT:=
 (.ite (ah r5 (.llen (pc o2 4)))
 (.blockS ⟨[],[]⟩ 1 [4,21,22,23,24,25,26,27] []
 (.chk (ar (pc o2 4) r5)
 (.call ⟨[],[]⟩ [] 26 50 [(pn (pc o2 4) r5)]
 (.ite (.nt j9)
 (.ret pF)
 (.next ⟨[],[]⟩))))
 (.next ⟨[(5,yc)],[]⟩))
 (.exit 0 ⟨[(14,r5),(15,pN),(16,(pc o2 4)),(17,(.llen (pc o2 4))),(18,(ah r5 (.llen (pc o2 4))))],[]⟩))
def U4 (b:Nat→PC):PT:=
 (.call ⟨[(4,pF)],[(3,(.mk [r1])),(2,(.mk [r0]))]⟩ [] 7 48 [jA]
 (.call ⟨[(9,(.nt r7))],[]⟩ [(9,false)] 11 49 [(au 19 o3)]
 (.ite (.pick r9 pT (.nt bJ))
 (.ret pF)
 (.brk ⟨[(5,(pi 0))],[]⟩
(apw b)
 (.ret pT)))))
def ake (b:Nat→PC):PT×List (Shp×PT):=(U4 b,[(.lp 0 [4,5,14,15,16,17,18] [] [4,5] [],FT b)])
theorem Q7:zu.map told=some (ake (bj zu)):=by kernel_rfl
theorem avn:tree (ab zu)=U4 Nm:=bB Q7
theorem SM:round 0 [4,5,14,15,16,17,18] [] [4,5] [] (Nm 0)=FT Nm:=be Q7 0 fun _=>rfl
def zh:Option PC:=cF [2,3,4] [] Tryz.f48 48 [1]
def CH:Nat→PC:=bn zh
def ao9 (b:Nat→PC):PC:=.block 0 [2,3,5,6,7,8,9,10,13] [] (.loop [2,3] [] (b 0))
def apa (b:Nat→PC):PC:=.block 2 [2,4,44,45,46,47,48,49,52] [] (.loop [2,4] [] (b 1))
def ym (b:Nat→PC):PT:=
 (.ite (.pick (ah r3 lR) (ah r3 (pi 50)) pF)
 (.chk (ar (pc o1 1) r3)
 (.chk (.nt (.an (.an (.nt (aX (.llen (pc (pn (pc o1 1) r3) 4)) (pi 70))) pT) (.nt (ar (pc o1 1) r3))))
 (.chk (.nt (.an (.an (.nt ad6) pT) (.nt (ar (pc o1 1) r3))))
 (.ite (.pick ad6 pT (aX (.llen (pc (pn (pc o1 1) r3) 3)) (pi 8)))
 (.ret pF)
 (.next ⟨[(3,vC)],[]⟩)))))
 (.exit 0 ⟨[(5,r3),(6,pN),(7,(pc o1 1)),(8,lR),(9,(ah r3 lR)),(10,(ah r3 lR)),(13,(.pick (ah r3 lR) (ah r3 (pi 50)) pF))],[]⟩))
def BU (b:Nat→PC):PT:=
 (.ite (.pick (ah r4 oT) (ah r4 (pi 50)) pF)
 (.chk (ar (pc o1 4) r4)
 (.chk (.nt (.an (.an (.nt (aX (.llen (pc xZ 2)) (pi 40))) pT) (.nt (ar (pc o1 4) r4))))
 (.ite (.pick (aX (.llen (pc xZ 2)) (pi 40)) pT (aX (.llen (pc xZ 3)) (pi 40)))
 (.ret pF)
 (.next ⟨[(4,(aL r4 (pi 1)))],[]⟩))))
 (.exit 2 ⟨[(44,r4),(45,pN),(46,(pc o1 4)),(47,oT),(48,(ah r4 oT)),(49,(ah r4 oT)),(52,(.pick (ah r4 oT) (ah r4 (pi 50)) pF))],[]⟩))
def UM (b:Nat→PC):PT:=
 (.brk ⟨[(3,(pi 0)),(2,pF)],[(1,(.mk [r0]))]⟩
(ao9 b)
 (.brk ⟨[(4,(pi 0))],[]⟩
(apa b)
 (.ret (.pick (.pick (.pick (.pick (.pick (.pick (.pick (ah vB (pi 50)) (ah lR (pi 50)) pF) (ah rV (pi 50)) pF) (ah nH (pi 210)) pF) (ah oT (pi 50)) pF) (ah BF (pi 110)) pF) (ah (.llen (pc o1 6)) (pi 110)) pF) (ah yb (pi 50)) pF))))
def aj1 (b:Nat→PC):PT×List (Shp×PT):=(UM b,[(.lp 0 [2,3,5,6,7,8,9,10,13] [] [2,3] [],ym b),(.lp 2 [2,4,44,45,46,47,48,49,52] [] [2,4] [],BU b)])
theorem Kt:zh.map told=some (aj1 (bj zh)):=by kernel_rfl
theorem au6:tree (ab zh)=UM CH:=bB Kt
theorem FB:round 0 [2,3,5,6,7,8,9,10,13] [] [2,3] [] (CH 0)=ym CH:=be Kt 0 fun _=>rfl
theorem Lm:round 2 [2,4,44,45,46,47,48,49,52] [] [2,4] [] (CH 1)=BU CH:=be Kt 1 fun _=>rfl
def H7:Option PC:=cF [2] [] Tryz.f49 49 [1]
def U1:PT:=
 (.ret (.pick (.pick (.pick (bD (.llen oR) (pi 50)) (bD (.llen (pc (.mk [r0]) 16)) (pi 10)) pF) (bD (.llen BC) (pi 110)) pF) (bD (.llen BB) (pi 220)) pF))
theorem acF:H7.map told=some (U1,[]):=by kernel_rfl
theorem avk:tree (ab H7)=U1:=aV acF
def zt:Option PC:=cF [2,3] [] Tryz.f50 50 [1]
def Nl:Nat→PC:=bn zt
def apv (b:Nat→PC):PC:=.block 0 [2,3,14,15,16,17,18] [] (.loop [2,3] [] (b 0))
def FQ (b:Nat→PC):PT:=
 (.ite (ah r3 nH)
 (.blockS ⟨[],[]⟩ 1 [2,21,22,23,24,25,26,27,28] []
 (.chk (ar (pc o1 3) r3)
 (.call ⟨[],[]⟩ [] 27 77 [(.sub (pn (pc o1 3) r3) 1 3)]
 (.ite (.nt ei)
 (.ret pF)
 (.next ⟨[],[]⟩))))
 (.next ⟨[(3,vC)],[]⟩))
 (.exit 0 ⟨[(14,r3),(15,pN),(16,(pc o1 3)),(17,nH),(18,(ah r3 nH))],[]⟩))
def U3 (b:Nat→PC):PT:=
 (.ite (.pick (aX (.llen (pc (.mk [r0]) 3)) (pi 60)) pT (aX qD (pi 60)))
 (.ret pF)
 (.brk ⟨[(3,(pi 0)),(2,pF)],[(1,(.mk [r0]))]⟩
(apv b)
 (.ret pT)))
def akd (b:Nat→PC):PT×List (Shp×PT):=(U3 b,[(.lp 0 [2,3,14,15,16,17,18] [] [2,3] [],FQ b)])
theorem Q6:zt.map told=some (akd (bj zt)):=by kernel_rfl
theorem avm:tree (ab zt)=U3 Nl:=bB Q6
theorem SL:round 0 [2,3,14,15,16,17,18] [] [2,3] [] (Nl 0)=FQ Nl:=be Q6 0 fun _=>rfl
def H8:Option PC:=cF [2] [] Tryz.f77 77 [1]
def U2:PT:=
 (.call ⟨[],[]⟩ [] 4 96 [(.mk [ln,uc,tW]),(pi 100),(pi 20)]
 (.ret (cS r4 (pi 0))))
theorem acG:H8.map told=some (U2,[]):=by kernel_rfl
theorem avl:tree (ab H8)=U2:=aV acG
def wA:Option PC:=cF [6,1,7] [] Tryz.f96 96 [3]
def Nk:Nat→PC:=bn wA
def apu (b:Nat→PC):PC:=.block 0 [1,7,12,13,14,15,16,17,20] [] (.loop [1,7] [] (b 0))
def FP (b:Nat→PC):PT:=
 (.ite (.pick (ah r7 oS) (cS r1 (pi 0)) pF)
 (.blockS ⟨[],[]⟩ 1 [1,23,24,25,26,27,28,29,30,31] []
 (.chk (ar (pc o3 2) r7)
 (.call ⟨[],[]⟩ [] 31 96 [(pn (pc o3 2) r7),r1,(bE r2 (pi 1))]
 (.next ⟨[(1,qF)],[]⟩)))
 (.next ⟨[(7,(aL r7 (pi 1)))],[]⟩))
 (.exit 0 ⟨[(12,r7),(13,pN),(14,(pc o3 2)),(15,oS),(16,(ah r7 oS)),(17,(ah r7 oS)),(20,(.pick (ah r7 oS) (cS r1 (pi 0)) pF))],[]⟩))
def Mg (b:Nat→PC):PT:=
 (.ite (ah r2 (pi 1))
 (.ret (pi (-1)))
 (.brk ⟨[(7,(pi 0)),(1,(bE r1 (pi 1)))],[(3,(.mk [r0]))]⟩
(apu b)
 (.ret r1)))
def akc (b:Nat→PC):PT×List (Shp×PT):=(Mg b,[(.lp 0 [1,7,12,13,14,15,16,17,20] [] [1,7] [],FP b)])
theorem Q5:wA.map told=some (akc (bj wA)):=by kernel_rfl
theorem afN:tree (ab wA)=Mg Nk:=bB Q5
theorem SK:round 0 [1,7,12,13,14,15,16,17,20] [] [1,7] [] (Nk 0)=FP Nk:=be Q5 0 fun _=>rfl
def H3:Option PC:=cF [2,3] [] Tryz.f22 22 [1]
def UL:PT:=
 (.call ⟨[],[(1,(.mk [r0]))]⟩ [] 5 51 [jA]
 (.iteS ⟨[(3,r5)],[]⟩ (aj r5 (pi 0)) [3] []
 (.call ⟨[],[]⟩ [] 9 52 [(au 8 o1)]
 (.next ⟨[(3,r9)],[]⟩))
 (.next ⟨[],[]⟩)
 (.iteS ⟨[],[]⟩ (aj r3 (pi 0)) [3] []
 (.call ⟨[],[]⟩ [] 13 53 [(au 8 o1)]
 (.next ⟨[(3,cU)],[]⟩))
 (.next ⟨[],[]⟩)
 (.iteS ⟨[],[]⟩ (aj r3 (pi 0)) [3] []
 (.call ⟨[],[]⟩ [] 17 54 [(au 8 o1)]
 (.next ⟨[(3,nJ)],[]⟩))
 (.next ⟨[],[]⟩)
 (.iteS ⟨[],[]⟩ (aj r3 (pi 0)) [3] []
 (.call ⟨[],[]⟩ [] 21 55 [(au 8 o1)]
 (.next ⟨[(3,iX)],[]⟩))
 (.next ⟨[],[]⟩)
 (.ret r3))))))
theorem acB:H3.map told=some (UL,[]):=by kernel_rfl
theorem au5:tree (ab H3)=UL:=aV acB
def zm:Option PC:=cF [2,3,4,6,7] [] Tryz.f51 51 [1,5,44]
def CJ:Nat→PC:=bn zm
def apg (b:Nat→PC):PC:=.block 0 [2,3,12,13,14,15,16] [] (.loop [2,3] [] (b 0))
def aph (b:Nat→PC):PC:=.block 2 [2,5,6,30,31,32,33,34] [5] (.loop [2,5,6] [5] (b 1))
def FH (b:Nat→PC):PT:=
 (.ite (ah r3 vB)
 (.blockS ⟨[],[]⟩ 1 [2,4,19,20,21,22,23,24] []
 (.call ⟨[],[]⟩ [] 22 78 [(pc o1 0),r3]
 (.ite (aO BO (pi 0))
 (.ret BO)
 (.next ⟨[],[]⟩)))
 (.next ⟨[(3,vC)],[]⟩))
 (.exit 0 ⟨[(12,r3),(13,pN),(14,(pc o1 0)),(15,vB),(16,(ah r3 vB))],[]⟩))
def FI (b:Nat→PC):PT:=
 (.ite (ah r6 lR)
 (.blockS ⟨[],[]⟩ 3 [2,5,7,38,39,40,41,42,43,44,45,46,47,48,49,50,52,53,54,55,56,57,58,59] [44,5]
 (.chk (ar (pc o1 1) r6)
 (.chk (bD (.llen RN) cu)
 (.call ⟨[(5,pN)],[(5,RN)]⟩ [] 48 78 [RN,r6]
 (.ite (aO jC (pi 0))
 (.ret jC)
 (.chk (ar (pc o1 1) r6)
 (.call ⟨[],[]⟩ [] 58 79 [(au 8 o1),(pn (pc o1 1) r6)]
 (.ite (.nt BR)
 (.ret (pi 1))
 (.next ⟨[],[]⟩))))))))
 (.next ⟨[(6,(aL r6 (pi 1)))],[]⟩))
 (.exit 2 ⟨[(30,r6),(31,pN),(32,(pc o1 1)),(33,lR),(34,(ah r6 lR))],[]⟩))
def UT (b:Nat→PC):PT:=
 (.ite (aX (.llen ln) (pi 8))
 (.ret (pi 6))
 (.brk ⟨[(3,(pi 0)),(2,(pi 0))],[(1,(.mk [r0]))]⟩
(apg b)
 (.ite (aX lR (pi 40))
 (.ret (pi 6))
 (.brk ⟨[(6,(pi 0)),(5,pN)],[(5,pL)]⟩
(aph b)
 (.ret (pi 0))))))
def aj6 (b:Nat→PC):PT×List (Shp×PT):=(UT b,[(.lp 0 [2,3,12,13,14,15,16] [] [2,3] [],FH b),(.lp 2 [2,5,6,30,31,32,33,34] [5] [2,5,6] [5],FI b)])
theorem Kv:zm.map told=some (aj6 (bj zm)):=by kernel_rfl
theorem avd:tree (ab zm)=UT CJ:=bB Kv
theorem SB:round 0 [2,3,12,13,14,15,16] [] [2,3] [] (CJ 0)=FH CJ:=be Kv 0 fun _=>rfl
theorem SC:round 2 [2,5,6,30,31,32,33,34] [5] [2,5,6] [5] (CJ 1)=FI CJ:=be Kv 1 fun _=>rfl
def H6:Option PC:=cF [4] [] Tryz.f78 78 []
def UW:PT:=
 (.chk (ar r0 r1)
 (.call ⟨[],[]⟩ [] 9 97 [(pn r0 r1)]
 (.ite (.nt r9)
 (.ret (pi 2))
 (.chk (ar r0 r1)
 (.call ⟨[],[]⟩ [] 17 98 [r0,r1,(pn r0 r1)]
 (.ite nJ
 (.ret (pi 5))
 (.ret (pi 0))))))))
theorem acE:H6.map told=some (UW,[]):=by kernel_rfl
theorem avf:tree (ab H6)=UW:=aV acE
def zi:Option PC:=cF [2,3,4] [] Tryz.f97 97 []
def Ng:Nat→PC:=bn zi
def apb (b:Nat→PC):PC:=.block 0 [2,3,13,14,15,16] [] (.loop [2,3] [] (b 0))
def FC (b:Nat→PC):PT:=
 (.ite (ah r3 (.slen r0))
 (.blockS ⟨[],[]⟩ 1 [2,4,19,20,21,22,23,34,35,36,37,38,39,40,47] []
 (.chk (.sok r0 r3)
 (.chk (.nt (.an (.an (.nt RM) pT) (.nt (.sok r0 r3))))
 (.chk (.nt (.an (.an (bD (.con (.v (.int .u8 48))) (.sidx r0 r3)) (.an (.nt RM) pT)) (.nt (.sok r0 r3))))
 (.call ⟨[(4,(.pick RM pT (.pick (bD (.con (.v (.int .u8 48))) (.sidx r0 r3)) (bD (.sidx r0 r3) (.con (.v (.int .u8 57)))) pF)))],[]⟩ [] 38 126 [(.sidx r0 r3)]
 (.ite (.pick (.nt gC) (.pick (aj r3 (pi 0)) pT (.nt r4)) pF)
 (.ret pF)
 (.next ⟨[],[]⟩))))))
 (.next ⟨[(3,vC)],[]⟩))
 (.exit 0 ⟨[(13,r3),(14,r0),(15,(.slen r0)),(16,(ah r3 (.slen r0)))],[]⟩))
def UO (b:Nat→PC):PT:=
 (.ite (.pick (ah (.slen r0) (pi 1)) pT (aX (.slen r0) (pi 20)))
 (.ret pF)
 (.brk ⟨[(3,(pi 0)),(2,pF)],[]⟩
(apb b)
 (.ret pT)))
def aj2 (b:Nat→PC):PT×List (Shp×PT):=(UO b,[(.lp 0 [2,3,13,14,15,16] [] [2,3] [],FC b)])
theorem QZ:zi.map told=some (aj2 (bj zi)):=by kernel_rfl
theorem au8:tree (ab zi)=UO Ng:=bB QZ
theorem Sv:round 0 [2,3,13,14,15,16] [] [2,3] [] (Ng 0)=FC Ng:=be QZ 0 fun _=>rfl
def H4:Option PC:=cF [2] [] Tryz.f126 126 []
def UN:PT:=
 (.ret (.pick (.pick (bD (.con (.v (.int .u8 97))) r0) (bD r0 (.con (.v (.int .u8 122)))) pF) pT (.pick (bD (.con (.v (.int .u8 65))) r0) (bD r0 (.con (.v (.int .u8 90)))) pF)))
theorem acC:H4.map told=some (UN,[]):=by kernel_rfl
theorem au7:tree (ab H4)=UN:=aV acC
def zg:Option PC:=cF [6,7] [] Tryz.f98 98 []
def Nf:Nat→PC:=bn zg
def ao8 (b:Nat→PC):PC:=.block 0 [6,7,8,9,10,11,16] [] (.loop [6,7] [] (b 0))
def FA (b:Nat→PC):PT:=
 (.ite (.pick (ah r7 r1) (ah r7 (.llen r0)) pF)
 (.chk (ar r0 r7)
 (.ite (.cs .eql (pn r0 r7) r2)
 (.ret pT)
 (.next ⟨[(7,(aL r7 (pi 1)))],[]⟩)))
 (.exit 0 ⟨[(8,r7),(9,r1),(10,(ah r7 r1)),(11,(ah r7 r1)),(16,(.pick (ah r7 r1) (ah r7 (.llen r0)) pF))],[]⟩))
def UK (b:Nat→PC):PT:=
 (.brk ⟨[(7,(pi 0)),(6,pF)],[]⟩
(ao8 b)
 (.ret pF))
def aj0 (b:Nat→PC):PT×List (Shp×PT):=(UK b,[(.lp 0 [6,7,8,9,10,11,16] [] [6,7] [],FA b)])
theorem QY:zg.map told=some (aj0 (bj zg)):=by kernel_rfl
theorem au4:tree (ab zg)=UK Nf:=bB QY
theorem Su:round 0 [6,7,8,9,10,11,16] [] [6,7] [] (Nf 0)=FA Nf:=be QY 0 fun _=>rfl
def zj:Option PC:=cF [4,5] [] Tryz.f79 79 [2,3]
def Nh:Nat→PC:=bn zj
def apc (b:Nat→PC):PC:=.block 0 [4,5,36,37,38,39,40] [] (.loop [4,5] [] (b 0))
def FD (b:Nat→PC):PT:=
 (.ite (ah r5 (.llen (pc o3 4)))
 (.blockS ⟨[],[]⟩ 1 [4,43,44,45,46,47,48,49,50,51,60] []
 (.chk (ar (pc o3 4) r5)
 (.chk BN
 (.call ⟨[],[]⟩ [] 49 26 [(.ai .quo .i64 (pn (pc o3 4) r5) (pi 100)),(pi 1),(pi 12)]
 (.chk (.nt (.an (.an (.nt (.nt nN)) pT) (.nt (ar (pc o3 4) r5))))
 (.chk (.nt (.an (.an (.nt (.nt nN)) pT) (.nt BN)))
 (.call ⟨[(51,(.nt nN))],[]⟩ [(51,false)] 58 26 [(.ai .rem .i64 (pn (pc o3 4) r5) (pi 100)),(pi 1),(pi 31)]
 (.ite (.pick lU pT (.nt BR))
 (.ret pF)
 (.next ⟨[],[]⟩))))))))
 (.next ⟨[(5,yc)],[]⟩))
 (.exit 0 ⟨[(36,r5),(37,pN),(38,(pc o3 4)),(39,(.llen (pc o3 4))),(40,(ah r5 (.llen (pc o3 4))))],[]⟩))
def UP (b:Nat→PC):PT:=
 (.call ⟨[(4,pF)],[(3,(.mk [r1])),(2,(.mk [r0]))]⟩ [] 12 26 [(pc (.mk [r1]) 1),(pi 0),(bE (.llen BD) (pi 1))]
 (.call ⟨[(14,(.nt bH))],[]⟩ [(14,false)] 21 26 [(pc o3 2),(pi 0),(bE (.llen (pc o2 0)) (pi 1))]
 (.ite (.pick (.pick (.pick cI pT (.nt iX)) pT (aX (.llen (pc o3 4)) (pi 60))) pT (aX (.llen (pc o3 5)) (pi 200)))
 (.ret pF)
 (.brk ⟨[(5,(pi 0))],[]⟩
(apc b)
 (.call ⟨[],[]⟩ [] 63 99 [(pc o3 3),(pi 0),(pi 6)]
 (.call ⟨[(64,Fm)],[]⟩ [(64,true)] 67 99 [(pc o3 4),(pi 0),(pi 2000)]
 (.call ⟨[(69,(.pick lV uh pF))],[]⟩ [(69,true)] 72 99 [(pc o3 5),(pi 0),(pi 100000)]
 (.ret (.pick yi Fo pF)))))))))
def aj3 (b:Nat→PC):PT×List (Shp×PT):=(UP b,[(.lp 0 [4,5,36,37,38,39,40] [] [4,5] [],FD b)])
theorem Q0:zj.map told=some (aj3 (bj zj)):=by kernel_rfl
theorem au9:tree (ab zj)=UP Nh:=bB Q0
theorem Sw:round 0 [4,5,36,37,38,39,40] [] [4,5] [] (Nh 0)=FD Nh:=be Q0 0 fun _=>rfl
def H5:Option PC:=cF [6] [] Tryz.f26 26 []
def US:PT:=
 (.ret (.pick (bD r1 r0) (bD r0 r2) pF))
theorem acD:H5.map told=some (US,[]):=by kernel_rfl
theorem avc:tree (ab H5)=US:=aV acD
def zl:Option PC:=cF [6,7] [] Tryz.f99 99 []
def Ni:Nat→PC:=bn zl
def apf (b:Nat→PC):PC:=.block 0 [6,7,8,9,10,11] [] (.loop [6,7] [] (b 0))
def FG (b:Nat→PC):PT:=
 (.ite (ah r7 (.llen r0))
 (.blockS ⟨[],[]⟩ 1 [6,14,15,16,17,18,19,20,21,22,23,24,35] []
 (.chk (ar r0 r7)
 (.call ⟨[],[]⟩ [] 20 26 [(pn r0 r7),r1,r2]
 (.ite (.nt cv)
 (.ret pF)
 (.chk (.nt (.an (.an (aX r7 (pi 0)) pT) (.nt (ar r0 (bE r7 (pi 1))))))
 (.chk (.nt (.an (.an (aX r7 (pi 0)) pT) (.nt (ar r0 r7))))
 (.ite (.pick (aX r7 (pi 0)) (cS (pn r0 (bE r7 (pi 1))) (pn r0 r7)) pF)
 (.ret pF)
 (.next ⟨[],[]⟩)))))))
 (.next ⟨[(7,(aL r7 (pi 1)))],[]⟩))
 (.exit 0 ⟨[(8,r7),(9,r0),(10,(.llen r0)),(11,(ah r7 (.llen r0)))],[]⟩))
def UR (b:Nat→PC):PT:=
 (.brk ⟨[(7,(pi 0)),(6,pF)],[]⟩
(apf b)
 (.ret pT))
def aj5 (b:Nat→PC):PT×List (Shp×PT):=(UR b,[(.lp 0 [6,7,8,9,10,11] [] [6,7] [],FG b)])
theorem Q3:zl.map told=some (aj5 (bj zl)):=by kernel_rfl
theorem avb:tree (ab zl)=UR Ni:=bB Q3
theorem SA:round 0 [6,7,8,9,10,11] [] [6,7] [] (Ni 0)=FG Ni:=be Q3 0 fun _=>rfl
def zn:Option PC:=cF [2,3,5,6] [] Tryz.f52 52 [1,4,44]
def CK:Nat→PC:=bn zn
def api (b:Nat→PC):PC:=.block 0 [2,3,11,12,13,14,15] [] (.loop [2,3] [] (b 0))
def apj (b:Nat→PC):PC:=.block 2 [2,4,5,30,31,32,33,34] [4] (.loop [2,4,5] [4] (b 1))
def FJ (b:Nat→PC):PT:=
 (.ite (ah r3 rV)
 (.blockS ⟨[],[]⟩ 1 [2,18,19,20,21,22,23,24,25] []
 (.chk (ar (pc o1 2) r3)
 (.call ⟨[],[]⟩ [] 24 26 [(pc (pn (pc o1 2) r3) 0),(pi 0),(pi 9)]
 (.ite (.nt nK)
 (.ret (pi 1))
 (.next ⟨[],[]⟩))))
 (.next ⟨[(3,vC)],[]⟩))
 (.exit 0 ⟨[(11,r3),(12,pN),(13,(pc o1 2)),(14,rV),(15,(ah r3 rV))],[]⟩))
def FK (b:Nat→PC):PT:=
 (.ite (ah r5 nH)
 (.blockS ⟨[],[]⟩ 3 [2,4,6,38,39,40,41,42,43,44,45,46,47,48,49,50,52,53,54,55,56,57,58,59,60,61,62,63,64,77] [44,4]
 (.chk (ar (pc o1 3) r5)
 (.chk (bD (.llen RO) cu)
 (.call ⟨[(4,pN)],[(4,RO)]⟩ [] 48 78 [RO,r5]
 (.ite (aO jC (pi 0))
 (.ret jC)
 (.chk (ar (pc o1 3) r5)
 (.call ⟨[],[]⟩ [] 62 26 [(pc (pn (pc o1 3) r5) 1),(pi 0),(bE lR (pi 1))]
 (.chk (.nt (.an (.an (.nt (.nt nO)) pT) (.nt (ar (pc o1 3) r5))))
 (.call ⟨[(64,(.nt nO))],[]⟩ [(64,false)] 75 26 [(pc (pn (pc o1 3) r5) 2),(pi 0),(bE rV (pi 1))]
 (.ite (.pick lV pT (.nt Sb))
 (.ret (pi 1))
 (.next ⟨[],[]⟩))))))))))
 (.next ⟨[(5,yc)],[]⟩))
 (.exit 2 ⟨[(30,r5),(31,pN),(32,(pc o1 3)),(33,nH),(34,(ah r5 nH))],[]⟩))
def UU (b:Nat→PC):PT:=
 (.ite (aX qD (pi 20))
 (.ret (pi 6))
 (.brk ⟨[(3,(pi 0)),(2,(pi 0))],[(1,(.mk [r0]))]⟩
(api b)
 (.ite (aX nH (pi 200))
 (.ret (pi 6))
 (.brk ⟨[(5,(pi 0)),(4,pN)],[(4,pL)]⟩
(apj b)
 (.ret (pi 0))))))
def aj7 (b:Nat→PC):PT×List (Shp×PT):=(UU b,[(.lp 0 [2,3,11,12,13,14,15] [] [2,3] [],FJ b),(.lp 2 [2,4,5,30,31,32,33,34] [4] [2,4,5] [4],FK b)])
theorem Kw:zn.map told=some (aj7 (bj zn)):=by kernel_rfl
theorem ave:tree (ab zn)=UU CK:=bB Kw
theorem SD:round 0 [2,3,11,12,13,14,15] [] [2,3] [] (CK 0)=FJ CK:=be Kw 0 fun _=>rfl
theorem SF:round 2 [2,4,5,30,31,32,33,34] [4] [2,4,5] [4] (CK 1)=FK CK:=be Kw 1 fun _=>rfl
def zo:Option PC:=cF [2,4,5] [] Tryz.f53 53 [1,3,24]
def Nj:Nat→PC:=bn zo
def apk (b:Nat→PC):PC:=.block 0 [2,3,4,10,11,12,13,14] [3] (.loop [2,3,4] [3] (b 0))
def FL (b:Nat→PC):PT:=
 (.ite (ah r4 oT)
 (.blockS ⟨[],[]⟩ 1 [2,3,5,18,19,20,21,22,23,24,25,26,27,28,29,30,32,33,34,35,36,37,38] [24,3]
 (.chk (ar (pc o1 4) r4)
 (.chk (bD (.llen (.app o3 (.lst [(pc xZ 0)]))) cu)
 (.call ⟨[(3,pN)],[(3,(.app o3 (.lst [(pc xZ 0)])))]⟩ [] 28 78 [(.app o3 (.lst [(pc xZ 0)])),r4]
 (.ite (aO qE (pi 0))
 (.ret qE)
 (.chk (ar (pc o1 4) r4)
 (.call ⟨[],[]⟩ [] 37 80 [xZ]
 (.ite (.nt mO)
 (.ret (pi 1))
 (.next ⟨[],[]⟩))))))))
 (.next ⟨[(4,(aL r4 (pi 1)))],[]⟩))
 (.exit 0 ⟨[(10,r4),(11,pN),(12,(pc o1 4)),(13,oT),(14,(ah r4 oT))],[]⟩))
def UX (b:Nat→PC):PT:=
 (.ite (aX (.llen BD) (pi 20))
 (.ret (pi 6))
 (.brk ⟨[(4,(pi 0)),(3,pN),(2,(pi 0))],[(3,pL),(1,(.mk [r0]))]⟩
(apk b)
 (.ret (pi 0))))
def aj8 (b:Nat→PC):PT×List (Shp×PT):=(UX b,[(.lp 0 [2,3,4,10,11,12,13,14] [3] [2,3,4] [3],FL b)])
theorem Q4:zo.map told=some (aj8 (bj zo)):=by kernel_rfl
theorem avg:tree (ab zo)=UX Nj:=bB Q4
theorem SG:round 0 [2,3,4,10,11,12,13,14] [3] [2,3,4] [3] (Nj 0)=FL Nj:=be Q4 0 fun _=>rfl
def zk:Option PC:=cF [2,3,4] [] Tryz.f80 80 [1]
def CI:Nat→PC:=bn zk
def apd (b:Nat→PC):PC:=.block 0 [2,3,5,6,7,8,9] [] (.loop [2,3] [] (b 0))
def ape (b:Nat→PC):PC:=.block 2 [2,4,48,49,50,51,52] [] (.loop [2,4] [] (b 1))
def FE (b:Nat→PC):PT:=
 (.ite (ah r3 rV)
 (.blockS ⟨[],[]⟩ 1 [2,12,13,14,15,16,17,18,19,20,29,30,31,32,47] []
 (.chk (ar (pc o1 2) r3)
 (.call ⟨[],[]⟩ [] 18 26 [(pc (pn (pc o1 2) r3) 0),(pi 0),(pi 21)]
 (.chk (.nt (.an (.an (.nt (.nt fA)) pT) (.nt (ar (pc o1 2) r3))))
 (.call ⟨[(20,(.nt fA))],[]⟩ [(20,false)] 27 26 [(pc (pn (pc o1 2) r3) 1),(pi 0),(pi 4)]
 (.ite (.pick cv pT (.nt ei))
 (.ret pF)
 (.chk (.nt (.an (.an (aX r3 (pi 0)) pT) (.nt (ar (pc o1 2) (bE r3 (pi 1))))))
 (.chk (.nt (.an (.an (aX r3 (pi 0)) pT) (.nt (ar (pc o1 2) r3))))
 (.ite (.pick (aX r3 (pi 0)) (cS (pc (pn (pc o1 2) (bE r3 (pi 1))) 0) (pc (pn (pc o1 2) r3) 0)) pF)
 (.ret pF)
 (.next ⟨[],[]⟩)))))))))
 (.next ⟨[(3,vC)],[]⟩))
 (.exit 0 ⟨[(5,r3),(6,pN),(7,(pc o1 2)),(8,rV),(9,(ah r3 rV))],[]⟩))
def FF (b:Nat→PC):PT:=
 (.ite (ah r4 nH)
 (.blockS ⟨[],[]⟩ 3 [2,55,56,57,58,59,60,61,62,63,64,65,80] []
 (.chk (ar (pc o1 3) r4)
 (.call ⟨[],[]⟩ [] 61 26 [(pc (pn (pc o1 3) r4) 0),(pi 0),(pi 21)]
 (.ite (.nt mQ)
 (.ret pF)
 (.chk (.nt (.an (.an (aX r4 (pi 0)) pT) (.nt (ar (pc o1 3) (bE r4 (pi 1))))))
 (.chk (.nt (.an (.an (aX r4 (pi 0)) pT) (.nt (ar (pc o1 3) r4))))
 (.ite (.pick (aX r4 (pi 0)) (cS (pc (pn (pc o1 3) (bE r4 (pi 1))) 0) (pc (pn (pc o1 3) r4) 0)) pF)
 (.ret pF)
 (.next ⟨[],[]⟩)))))))
 (.next ⟨[(4,(aL r4 (pi 1)))],[]⟩))
 (.exit 2 ⟨[(48,r4),(49,pN),(50,(pc o1 3)),(51,nH),(52,(ah r4 nH))],[]⟩))
def UQ (b:Nat→PC):PT:=
 (.brk ⟨[(3,(pi 0)),(2,pF)],[(1,(.mk [r0]))]⟩
(apd b)
 (.brk ⟨[(4,(pi 0))],[]⟩
(ape b)
 (.ret pT)))
def aj4 (b:Nat→PC):PT×List (Shp×PT):=(UQ b,[(.lp 0 [2,3,5,6,7,8,9] [] [2,3] [],FE b),(.lp 2 [2,4,48,49,50,51,52] [] [2,4] [],FF b)])
theorem Ku:zk.map told=some (aj4 (bj zk)):=by kernel_rfl
theorem ava:tree (ab zk)=UQ CI:=bB Ku
theorem Sy:round 0 [2,3,5,6,7,8,9] [] [2,3] [] (CI 0)=FE CI:=be Ku 0 fun _=>rfl
theorem Sz:round 2 [2,4,48,49,50,51,52] [] [2,4] [] (CI 1)=FF CI:=be Ku 1 fun _=>rfl
def zq:Option PC:=cF [2,3,5] [] Tryz.f54 54 [1,4]
def CM:Nat→PC:=bn zq
def apn (b:Nat→PC):PC:=.block 2 [2,5,46,47,48] [] (.loop [2,5] [] (b 0))
def apo (b:Nat→PC):PC:=.block 0 [2,3,10,11,12,13,14] [] (.loop [2,3] [] (b 1))
def BV (b:Nat→PC):PT:=
 (.ite (ah r5 r3)
 (.chk (ar (pc o1 5) r5)
 (.chk (.nt (.an (.an (aj (pc (pn (pc o1 5) r5) 0) (pc o4 0)) pT) (.nt (ar (pc o1 5) r5))))
 (.ite (.pick (aj (pc (pn (pc o1 5) r5) 0) (pc o4 0)) (aj (pc (pn (pc o1 5) r5) 1) (pc o4 1)) pF)
 (.ret (pi 5))
 (.next ⟨[(5,yc)],[]⟩))))
 (.exit 2 ⟨[(46,r5),(47,r3),(48,(ah r5 r3))],[]⟩))
def FO (b:Nat→PC):PT:=
 (.ite (ah r3 BF)
 (.blockS ⟨[(14,(ah r3 BF)),(13,BF),(12,(pc o1 5)),(11,pN),(10,r3)],[]⟩ 1 [2,4,5,17,18,19,20,21,22,23,24,25,26,27,28,29,30,39,40,45,46,47,48] [4]
 (.chk (ar (pc o1 5) r3)
 (.call ⟨[],[(4,(.setc z3 0 (pn (pc o1 5) r3)))]⟩ [] 28 26 [(pc (.setc z3 0 (pn (pc o1 5) r3)) 0),(pi 0),(bE lR (pi 1))]
 (.call ⟨[(30,(.nt qE))],[]⟩ [(30,false)] 37 26 [(pc o4 1),(pi 0),(bE lR (pi 1))]
 (.call ⟨[(40,(.pick nM pT (.nt mO)))],[]⟩ [(40,false)] 43 26 [(pc o4 2),(pi 1),(pi 20000)]
 (.ite (.pick qG pT (.nt uf))
 (.ret (pi 1))
 (.brk ⟨[(5,(pi 0))],[]⟩
(apn b)
 (.next ⟨[],[]⟩)))))))
 (.next ⟨[(3,vC)],[]⟩))
 (.exit 0 ⟨[(10,r3),(11,pN),(12,(pc o1 5)),(13,BF),(14,(ah r3 BF))],[]⟩))
def UZ (b:Nat→PC):PT:=
 (.ite (aX (.llen x9) (pi 100))
 (.ret (pi 6))
 (.brk ⟨[(3,(pi 0)),(2,(pi 0))],[(1,(.mk [r0]))]⟩
(apo b)
 (.ret (pi 0))))
def aka (b:Nat→PC):PT×List (Shp×PT):=(UZ b,[(.lp 2 [2,5,46,47,48] [] [2,5] [],BV b),(.lp 0 [2,3,10,11,12,13,14] [] [2,3] [],FO b)])
theorem Kz:zq.map told=some (aka (bj zq)):=by kernel_rfl
theorem avi:tree (ab zq)=UZ CM:=bB Kz
theorem Ln:round 2 [2,5,46,47,48] [] [2,5] [] (CM 0)=BV CM:=be Kz 0 fun _=>rfl
theorem SJ:round 0 [2,3,10,11,12,13,14] [] [2,3] [] (CM 1)=FO CM:=be Kz 1 fun _=>rfl
def zp:Option PC:=cF [2,3,5] [] Tryz.f55 55 [1,4,6]
def CL:Nat→PC:=bn zp
def apl (b:Nat→PC):PC:=.block 0 [2,3,11,12,13,14,15] [] (.loop [2,3] [] (b 0))
def apm (b:Nat→PC):PC:=.block 2 [2,5,68,69,70,71,72] [] (.loop [2,5] [] (b 1))
def FM (b:Nat→PC):PT:=
 (.ite (ah r3 (.llen (pc o1 6)))
 (.blockS ⟨[],[]⟩ 1 [2,4,18,19,20,21,22,23,24,25,26,27,28,29,30,31,40,41,47,48,49,50,51,52,57,58,63] [4]
 (.chk (ar (pc o1 6) r3)
 (.call ⟨[],[(4,(.setc z5 0 (pn (pc o1 6) r3)))]⟩ [] 29 26 [(pc (.setc z5 0 (pn (pc o1 6) r3)) 0),(pi 0),(bE vB (pi 1))]
 (.call ⟨[(31,(.nt nL))],[]⟩ [(31,false)] 38 26 [(pc o4 1),(pi 0),(bE vB (pi 1))]
 (.ite (.pick (.pick qF pT (.nt gC)) pT (aj (pc o4 0) (pc o4 1)))
 (.ret (pi 1))
 (.call ⟨[],[]⟩ [] 50 26 [(pc o4 2),(pi 1),(pi 1073741824)]
 (.call ⟨[(52,(.nt mP))],[]⟩ [(52,false)] 55 26 [(pc o4 3),(pi 1),(pi 1073741824)]
 (.call ⟨[(58,(.pick K6 pT (.nt yh)))],[]⟩ [(58,false)] 61 26 [(pc o4 4),(pi 0),(pi 100000)]
 (.ite (.pick BR pT (.nt mQ))
 (.ret (pi 1))
 (.next ⟨[],[]⟩)))))))))
 (.next ⟨[(3,vC)],[]⟩))
 (.exit 0 ⟨[(11,r3),(12,pN),(13,(pc o1 6)),(14,(.llen (pc o1 6))),(15,(ah r3 (.llen (pc o1 6))))],[]⟩))
def FN (b:Nat→PC):PT:=
 (.ite (ah r5 yb)
 (.blockS ⟨[],[]⟩ 3 [2,6,75,76,77,78,79,80,81,82,83,84,85,86,87,88,95,96,100] [6]
 (.chk (ar (pc o1 7) r5)
 (.call ⟨[],[(6,(.setc z3 0 (pn (pc o1 7) r5)))]⟩ [] 86 26 [(pc (.setc z3 0 (pn (pc o1 7) r5)) 0),(pi 0),(bE oT (pi 1))]
 (.call ⟨[(88,(.nt r86))],[]⟩ [(88,false)] 93 26 [(pc o6 1),(pi 0),(pc o6 2)]
 (.ite (.pick (.pick K8 pT (.nt K9)) pT (aX (pc o6 2) (pi 100000)))
 (.ret (pi 1))
 (.next ⟨[],[]⟩)))))
 (.next ⟨[(5,yc)],[]⟩))
 (.exit 2 ⟨[(68,r5),(69,pN),(70,(pc o1 7)),(71,yb),(72,(ah r5 yb))],[]⟩))
def UY (b:Nat→PC):PT:=
 (.ite (aX (.llen (pc (.mk [r0]) 6)) (pi 100))
 (.ret (pi 6))
 (.brk ⟨[(3,(pi 0)),(2,(pi 0))],[(1,(.mk [r0]))]⟩
(apl b)
 (.ite (aX yb (pi 20))
 (.ret (pi 6))
 (.brk ⟨[(5,(pi 0))],[]⟩
(apm b)
 (.ret (pi 0))))))
def aj9 (b:Nat→PC):PT×List (Shp×PT):=(UY b,[(.lp 0 [2,3,11,12,13,14,15] [] [2,3] [],FM b),(.lp 2 [2,5,68,69,70,71,72] [] [2,5] [],FN b)])
theorem Ky:zp.map told=some (aj9 (bj zp)):=by kernel_rfl
theorem avh:tree (ab zp)=UY CL:=bB Ky
theorem SH:round 0 [2,3,11,12,13,14,15] [] [2,3] [] (CL 0)=FM CL:=be Ky 0 fun _=>rfl
theorem SI:round 2 [2,5,68,69,70,71,72] [] [2,5] [] (CL 1)=FN CL:=be Ky 1 fun _=>rfl
def yZ:Option PC:=cF [8,11] [] Tryz.f18 18 [4,6,9,10,28]
def MX:Nat→PC:=bn yZ
def aoQ (b:Nat→PC):PC:=.block 0 [10,21,22] [10] (.loop [10,21] [10] (b 0))
def Lb (b:Nat→PC):PT:=
 (.ite (ah iX cv)
 (.blockS ⟨[],[]⟩ 1 [10,11,23,25,26,27,28,29] [10,28]
 (.call ⟨[],[]⟩ [] 27 47 [(au 31 o9),iX]
 (.chk (bD (.llen (.app bO (.lst [ei]))) cu)
 (.next ⟨[(10,pN)],[(10,(.app bO (.lst [ei])))]⟩)))
 (.next ⟨[(21,(aL iX (pi 1)))],[]⟩))
 (.exit 0 ⟨[(22,(ah iX cv))],[]⟩))
def TY (b:Nat→PC):PT:=
 (.call ⟨[],[]⟩ [] 16 46 [jA,r1,E9,r3]
 (.brk ⟨[(21,(pi 0)),(20,(.llen (pc (.setc RS 0 dI) 25))),(10,pN)],[(10,pL),(9,(.setc RS 0 dI))]⟩
(aoQ b)
 (.ret bO)))
def ajI (b:Nat→PC):PT×List (Shp×PT):=(TY b,[(.lp 0 [10,21,22] [10] [10,21] [10],Lb b)])
theorem QH:yZ.map told=some (ajI (bj yZ)):=by kernel_rfl
theorem auf:tree (ab yZ)=TY MX:=bB QH
theorem aer:round 0 [10,21,22] [10] [10,21] [10] (MX 0)=Lb MX:=be QH 0 fun _=>rfl
def Hx:Option PC:=cF [] [] Tryz.f46 46 [4,6,8,9]
def T2:PT:=
 (.call ⟨[],[(8,RS),(4,(.mk [r0]))]⟩ [] 12 13 [E9,r3]
 (.call ⟨[(16,(au 19 (.setc j6 0 bH))),(15,r3),(14,r1),(13,(au 8 o4))],[(9,(.setc j6 0 bH))]⟩ [] 21 35 [(au 8 o4),r1,(pi 0),(au 19 (.setc j6 0 bH)),r3]
 (.call ⟨[],[]⟩ [] 22 72 [iX]
 (.call ⟨[],[]⟩ [] 27 73 [(au 8 o4),r1,(au 19 o9),r3]
 (.ret (au 31 (.setc o8 0 (.mk [cU,cI,jB,dI,BO,ei]))))))))
theorem abZ:Hx.map told=some (T2,[]):=by kernel_rfl
theorem auh:tree (ab Hx)=T2:=aV abZ
def Hs:Option PC:=cF [2,3,7,12] [] Tryz.f72 72 [1]
def TU:PT:=
 (.ite (aO BD (pi 0))
 (.ret (pi 0))
 (.ite (.nt ln)
 (.ret (pi 2))
 (.ite (aO uc (pi 0))
 (.ret (pi 1))
 (.ret (pi 0)))))
theorem abU:Hs.map told=some (TU,[]):=by kernel_rfl
theorem aua:tree (ab Hs)=TU:=aV abU
def Hq:Option PC:=cF [8,9,10,11] [] Tryz.f73 73 [4,6]
def TR:PT:=
 (.call ⟨[],[(6,(.mk [r2])),(4,(.mk [r0]))]⟩ [] 14 13 [E9,r3]
 (.ite (aj (.llen (pc (.setc o6 0 cI) 15)) (pi 0))
 (.ret (pi (-1)))
 (.call ⟨[],[(6,(.setc o6 0 cI))]⟩ [] 23 35 [(au 8 o4),r1,(pi 6),(au 19 (.setc o6 0 cI)),r3]
 (.call ⟨[],[]⟩ [] 24 34 [fV]
 (.call ⟨[(29,(au 15 o6)),(27,(au 8 o4)),(9,(.mx nK (pi 0)))],[]⟩ [] 31 94 [(au 19 o6)]
 (.call ⟨[],[]⟩ [] 33 93 [ei,nL,qF,r9]
 (.ite (aO (.tget ud 1) (pi 0))
 (.ret (pi (-1)))
 (.ret (.tget ud 0)))))))))
theorem abS:Hq.map told=some (TR,[]):=by kernel_rfl
theorem at6:tree (ab Hq)=TR:=aV abS
def zJ:Option PC:=cF [2,4] [] Tryz.f94 94 [1,3,6,8]
def CQ:Nat→PC:=bn zJ
def apR (b:Nat→PC):PC:=.block 0 [3,16,17] [3] (.loop [3,16] [3] (b 0))
def apS (b:Nat→PC):PC:=.block 2 [2,3,36,37] [3] (.loop [2,3,36] [3] (b 1))
def F8 (b:Nat→PC):PT:=
 (.ite (ah dI jB)
 (.chk (ar cI dI)
 (.ite (.pick (aj r4 (pi 1)) (aj (pc (.setc z9 0 rU) 0) (pi 1)) pF)
 (.chk (bD (.llen (.app o3 (.lst [(pc (.setc z9 0 rU) 6)]))) cu)
 (.next ⟨[(3,pN),(16,(aL dI (pi 1)))],[(3,(.app o3 (.lst [(pc (.setc z9 0 rU) 6)])))]⟩))
 (.next ⟨[(16,(aL dI (pi 1)))],[]⟩)))
 (.exit 0 ⟨[(17,(ah dI jB))],[]⟩))
def yn (b:Nat→PC):PT:=
 (.ite (ah iY yg)
 (.chk (ar R6 iY)
 (.ite (.pick (aj r4 (pi 0)) (aj (pc Fj 0) (pi 2)) pF)
 (.ret (pc Fj 6))
 (.ite (.pick (aj r4 (pi 1)) (aj (pc Fj 0) (pi 1)) pF)
 (.chk (bD (.llen (.app o3 (.lst [(pc Fj 6)]))) cu)
 (.next ⟨[(3,pN),(36,(aL iY (pi 1)))],[(3,(.app o3 (.lst [(pc Fj 6)])))]⟩))
 (.next ⟨[(36,(aL iY (pi 1)))],[]⟩))))
 (.exit 2 ⟨[(37,(ah iY yg))],[]⟩))
def Vo (b:Nat→PC):PT:=
 (.brk ⟨[(16,(pi 0)),(15,(.llen oR)),(14,oR),(4,x9),(3,pN),(2,(pi 0))],[(3,pL),(1,(.mk [r0]))]⟩
(apR b)
 (.brk ⟨[(36,(pi 0)),(35,(.llen (pc o1 17))),(34,(pc o1 17))],[]⟩
(apS b)
 (.ite (aj (.llen o3) (pi 0))
 (.ret (pi (-1)))
 (.call ⟨[],[]⟩ [] 66 125 [o3]
 (.ret r66)))))
def akr (b:Nat→PC):PT×List (Shp×PT):=(Vo b,[(.lp 0 [3,16,17] [3] [3,16] [3],F8 b),(.lp 2 [2,3,36,37] [3] [2,3,36] [3],yn b)])
theorem KD:zJ.map told=some (akr (bj zJ)):=by kernel_rfl
theorem avH:tree (ab zJ)=Vo CQ:=bB KD
theorem S6:round 0 [3,16,17] [3] [3,16] [3] (CQ 0)=F8 CQ:=be KD 0 fun _=>rfl
theorem F9:round 2 [2,3,36,37] [3] [2,3,36] [3] (CQ 1)=yn CQ:=be KD 1 fun _=>rfl
def zS:Option PC:=cF [2,3,4] [] Tryz.f125 125 []
def NA:Nat→PC:=bn zS
def abe (b:Nat→PC):PC:=.block 0 [3,4,12,13,14,15] [] (.loop [3,4] [] (b 0))
def Lz (b:Nat→PC):PT:=
 (.ite (ah r4 (.llen r0))
 (.chk (ar r0 r4)
 (.next ⟨[(3,(.mn r3 (pn r0 r4))),(4,(aL r4 (pi 1)))],[]⟩))
 (.exit 0 ⟨[(12,r4),(13,r0),(14,(.llen r0)),(15,(ah r4 (.llen r0)))],[]⟩))
def VE (b:Nat→PC):PT:=
 (.ite (ah (.llen r0) (pi 1))
 (.chk (.nt pT)
 (.chk (.nt pT)
 (.chk (ar r0 (pi 0))
 (.brk ⟨[(4,(pi 1)),(3,(pn r0 (pi 0)))],[]⟩
(abe b)
 (.ret r3)))))
 (.chk (ar r0 (pi 0))
 (.brk ⟨[(4,(pi 1)),(3,(pn r0 (pi 0)))],[]⟩
(abe b)
 (.ret r3))))
def akA (b:Nat→PC):PT×List (Shp×PT):=(VE b,[(.lp 0 [3,4,12,13,14,15] [] [3,4] [],Lz b)])
theorem Rl:zS.map told=some (akA (bj zS)):=by kernel_rfl
theorem avY:tree (ab zS)=VE NA:=bB Rl
theorem aeK:round 0 [3,4,12,13,14,15] [] [3,4] [] (NA 0)=Lz NA:=be Rl 0 fun _=>rfl
end Rm
