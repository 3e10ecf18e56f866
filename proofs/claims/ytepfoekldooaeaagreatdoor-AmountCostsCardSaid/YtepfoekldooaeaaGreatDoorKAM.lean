/-
  The functions of this seat, compiled (2).
-/
import Derived.Test.YtepfoekldooaeaaGreatDoorKAK
import Derived.KernelRfl
set_option linter.unusedVariables false
set_option maxRecDepth 100000
namespace Rm
open Go Go.Proofs Cx
noncomputable def FZ:Option PC:=aw {ctx with fr:=[2],nh:=[]} Tryz.f143 ((aa ae 143).getD default) []
noncomputable def J1:PC:=av FZ
def UM:PT:=
 (.ret pT)
def aqA (b:Nat→PC):PT×List (Shp×PT):=(UM,[])
theorem ad0:FZ.map told=some (aqA (au FZ)):=by kernel_rfl
theorem aA4:tree J1=UM:=ay ad0
theorem amd:FZ=some J1:=ax ad0
noncomputable def F0:Option PC:=aw {ctx with fr:=[3],nh:=[]} Tryz.f144 ((aa ae 144).getD default) []
noncomputable def J2:PC:=av F0
def UN:PT:=
 (.chk (aD (pc (.deref r1) 1) r0)
 (.call ⟨[],[]⟩ [] 10 145 [(.deref r1),(pn (pc (.deref r1) 1) r0)]
 (.ret cP)))
def aqB (b:Nat→PC):PT×List (Shp×PT):=(UN,[])
theorem ad1:F0.map told=some (aqB (au F0)):=by kernel_rfl
theorem aA5:tree J2=UN:=ay ad1
theorem ame:F0=some J2:=ax ad1
noncomputable def AH:Option PC:=aw {ctx with fr:=[4,6],nh:=[]} Tryz.f145 ((aa ae 145).getD default) [2,3]
noncomputable def J7:PC:=av AH
noncomputable def Nz:Nat→PC:=bx AH
def av1 (b:Nat→PC):PC:=.block 0 [4,10,11] [] (.loop [4,10] [] (b 0))
def DF (b:Nat→PC):PT:=
 (.ite (aq cP r9)
 (.chk (aD r8 cP)
 (.chk (aL (pi 100) (pi 0))
 (.chk (.nt (.an (.an (.nt (aq RS (pi 1))) pT) (.nt (aL (pi 100) (pi 0)))))
 (.ite (.pick (aq RS (pi 1)) pT (bj RS (pi 31)))
 (.ret pF)
 (.next ⟨[(10,(aH cP (pi 1)))],[]⟩)))))
 (.exit 0 ⟨[(11,(aq cP r9))],[]⟩))
def US (b:Nat→PC):PT:=
 (.brk ⟨[(10,(pi 0)),(9,(.llen (pc (.mk [r1]) 4))),(8,(pc (.mk [r1]) 4)),(4,pF)],[(3,(.mk [r1])),(2,(.mk [r0]))]⟩
(av1 b)
 (.call ⟨[(33,(.pick (bj (.llen (pc o3 4)) (pi 60)) pT (bj (.llen (pc o3 5)) (pi 200))))],[]⟩ [(33,false)] 39 146 [(pc o3 1),(.llen (pc o2 4))]
 (.call ⟨[(42,(.pick tS pT (.nt tT)))],[]⟩ [(42,false)] 48 146 [(pc o3 2),(.llen (pc o2 0))]
 (.ite (.pick Sc pT (.nt jv))
 (.ret pF)
 (.call ⟨[],[]⟩ [] 53 185 [(pc o3 3),(pi 0),(pi 6)]
 (.call ⟨[(54,r53)],[]⟩ [(54,true)] 57 185 [(pc o3 4),(pi 101),(pi 1231)]
 (.call ⟨[(59,(.pick qA tV pF))],[]⟩ [(59,true)] 62 185 [(pc o3 5),(pi 0),(pi 100000)]
 (.ret (.pick LD pf pF)))))))))
def aqG (b:Nat→PC):PT×List (Shp×PT):=(US b,[(.lp 0 [4,10,11] [] [4,10] [],DF b)])
theorem Rj:AH.map told=some (aqG (au AH)):=by kernel_rfl
theorem aBb:tree J7=US Nz:=ay Rj
theorem SA:round 0 [4,10,11] [] [4,10] [] (Nz 0)=DF Nz:=bt Rj 0 fun _=>rfl
theorem amk:AH=some J7:=ax Rj
noncomputable def AN:Option PC:=aw {ctx with fr:=[6,7,8],nh:=[]} Tryz.f185 ((aa ae 185).getD default) []
noncomputable def Kf:PC:=av AN
noncomputable def NC:Nat→PC:=bx AN
def awb (b:Nat→PC):PC:=.block 0 [6,11,12] [] (.loop [6,11] [] (b 0))
def tX (b:Nat→PC):PT:=
 (.ite (aq bp cP)
 (.chk (aD r9 bp)
 (.chk (.nt (.an (.an (bj bp (pi 0)) (.an (.nt (.pick (aq (pn r9 bp) r1) pT (bj (pn r9 bp) r2))) pT)) (.nt (aD r0 (bJ bp (pi 1))))))
 (.ite (.pick (.pick (aq (pn r9 bp) r1) pT (bj (pn r9 bp) r2)) pT (.pick (bj bp (pi 0)) (bz (pn r9 bp) (pn r0 (bJ bp (pi 1)))) pF))
 (.ret pF)
 (.next ⟨[(11,(aH bp (pi 1)))],[]⟩))))
 (.exit 0 ⟨[(12,(aq bp cP))],[]⟩))
def U1 (b:Nat→PC):PT:=
 (.brk ⟨[(11,(pi 0)),(10,(.llen r0)),(9,r0),(6,pF)],[]⟩
(awb b)
 (.ret pT))
def aqO (b:Nat→PC):PT×List (Shp×PT):=(U1 b,[(.lp 0 [6,11,12] [] [6,11] [],tX b)])
theorem Rm:AN.map told=some (aqO (au AN)):=by kernel_rfl
theorem aBj:tree Kf=U1 NC:=ay Rm
theorem zg:round 0 [6,11,12] [] [6,11] [] (NC 0)=tX NC:=bt Rm 0 fun _=>rfl
theorem ams:AN=some Kf:=ax Rm
noncomputable def F1:Option PC:=aw {ctx with fr:=[3],nh:=[]} Tryz.f147 ((aa ae 147).getD default) []
noncomputable def J3:PC:=av F1
def UO:PT:=
 (.chk (aD (pc (.deref r1) 3) r0)
 (.call ⟨[],[]⟩ [] 13 146 [(pc (pn (pc (.deref r1) 3) r0) 1),(.llen (pc (.deref r1) 1))]
 (.chk (.nt (.an (.an cB pT) (.nt (aD (pc (.deref r1) 3) r0))))
 (.call ⟨[(14,cB)],[]⟩ [(14,true)] 24 146 [(pc (pn (pc (.deref r1) 3) r0) 2),(.llen (pc (.deref r1) 2))]
 (.ret (.pick dc qw pF))))))
def aqC (b:Nat→PC):PT×List (Shp×PT):=(UO,[])
theorem ad2:F1.map told=some (aqC (au F1)):=by kernel_rfl
theorem aA6:tree J3=UO:=ay ad2
theorem amf:F1=some J3:=ax ad2
noncomputable def F2:Option PC:=aw {ctx with fr:=[3],nh:=[]} Tryz.f148 ((aa ae 148).getD default) []
noncomputable def J4:PC:=av F2
def UP:PT:=
 (.chk (aD (pc (.deref r1) 4) r0)
 (.call ⟨[],[]⟩ [] 9 149 [(pn (pc (.deref r1) 4) r0)]
 (.ret r9)))
def aqD (b:Nat→PC):PT×List (Shp×PT):=(UP,[])
theorem ad3:F2.map told=some (aqD (au F2)):=by kernel_rfl
theorem aA7:tree J4=UP:=ay ad3
theorem amg:F2=some J4:=ax ad3
noncomputable def AL:Option PC:=aw {ctx with fr:=[2],nh:=[]} Tryz.f149 ((aa ae 149).getD default) [1,3,4,6,19,8,16392,36]
noncomputable def Kd:PC:=av AL
noncomputable def zZ:Nat→PC:=bx AL
def av7 (b:Nat→PC):PC:=.block 0 [2,3,12,13] [3] (.loop [2,3,12] [3] (b 0))
def av8 (b:Nat→PC):PC:=.block 2 [4,29,30] [4] (.loop [4,29] [4] (b 1))
def DI (b:Nat→PC):PT:=
 (.ite (aq cn bp)
 (.blockS ⟨[],[]⟩ 1 [2,3,6,14,15,17,18,19,20,21,22,23,24] [6,19,3]
 (.chk (aD cP cn)
 (.chk (bz (.llen (.app o3 (.lst [(pc (.setc Lo 0 rP) 0)]))) cO)
 (.call ⟨[(3,pN)],[(3,(.app o3 (.lst [(pc (.setc Lo 0 rP) 0)])))]⟩ [] 23 146 [(pc (.setc Lo 0 rP) 1),(pi 5)]
 (.ite (.nt fF)
 (.ret pF)
 (.next ⟨[],[]⟩)))))
 (.next ⟨[(12,(aH cn (pi 1)))],[]⟩))
 (.exit 0 ⟨[(13,(aq cn bp))],[]⟩))
def LW (b:Nat→PC):PT:=
 (.ite (aq qx tR)
 (.chk (aD eG qx)
 (.chk (bz (.llen afh) cO)
 (.next ⟨[(4,pN),(29,(aH qx (pi 1)))],[(4,afh)]⟩)))
 (.exit 2 ⟨[(30,(aq qx tR))],[]⟩))
def UZ (b:Nat→PC):PT:=
 (.brk ⟨[(12,(pi 0)),(11,qv),(10,wy),(4,pN),(3,pN),(2,pF)],[(4,pL),(3,pL),(1,(.mk [r0]))]⟩
(av7 b)
 (.brk ⟨[(29,(pi 0)),(28,y3),(27,(pc o1 3))],[]⟩
(av8 b)
 (.call ⟨[],[]⟩ [] 40 185 [o3,(pi 0),(pi 21)]
 (.call ⟨[(41,rR)],[]⟩ [(41,true)] 43 185 [o4,(pi 0),(pi 21)]
 (.ret (.pick lI rS pF))))))
def aqM (b:Nat→PC):PT×List (Shp×PT):=(UZ b,[(.lp 0 [2,3,12,13] [3] [2,3,12] [3],DI b),(.lp 2 [4,29,30] [4] [4,29] [4],LW b)])
theorem Iw:AL.map told=some (aqM (au AL)):=by kernel_rfl
theorem aBh:tree Kd=UZ zZ:=ay Iw
theorem SD:round 0 [2,3,12,13] [3] [2,3,12] [3] (zZ 0)=DI zZ:=bt Iw 0 fun _=>rfl
theorem afR:round 2 [4,29,30] [4] [4,29] [4] (zZ 1)=LW zZ:=bt Iw 1 fun _=>rfl
theorem amq:AL=some Kd:=ax Iw
noncomputable def AO:Option PC:=aw {ctx with fr:=[2,3],nh:=[]} Tryz.f150 ((aa ae 150).getD default) [1,4,6]
noncomputable def Kg:PC:=av AO
noncomputable def Aa:Nat→PC:=bx AO
def awc (b:Nat→PC):PC:=.block 2 [2,50,51] [] (.loop [2,50] [] (b 0))
def awd (b:Nat→PC):PC:=.block 0 [2,14,15] [] (.loop [2,14] [] (b 1))
def zh (b:Nat→PC):PT:=
 (.ite (aq lJ qz)
 (.chk (aD jv lJ)
 (.ite (.pick (ah (pc (.setc z3 0 (pn jv lJ)) 0) (pc o4 0)) (ah (pc (.setc z3 0 (pn jv lJ)) 1) (pc o4 1)) pF)
 (.ret (pi 5))
 (.next ⟨[(50,(aH lJ (pi 1)))],[]⟩)))
 (.exit 2 ⟨[(51,(aq lJ qz))],[]⟩))
def DL (b:Nat→PC):PT:=
 (.ite mR
 (.blockS ⟨[(15,mR)],[]⟩ 1 [2,3,4,16,17,18,19,20,21,22,23,24,25,26,34,35,39,40,44,45,46,47,48,49,50,51] [4]
 (.chk (aD cn dc)
 (.call ⟨[(3,dc)],[(4,(.setc z3 0 kO))]⟩ [] 24 146 [(pc (.setc z3 0 kO) 0),tP]
 (.call ⟨[(26,(.nt qw))],[]⟩ [(26,false)] 32 146 [(pc o4 1),tP]
 (.ite (.pick (.pick (.pick nM pT (.nt y9)) pT (aq (pc o4 2) (pi 1))) pT (bj (pc o4 2) (pi 20000)))
 (.ret (pi 1))
 (.chk (.slok (pc o1 5) (pi 0) r3)
 (.brk ⟨[(50,(pi 0)),(49,(.llen (.slc (pc o1 5) (pi 0) r3))),(48,(.slc (pc o1 5) (pi 0) r3))],[]⟩
(awc b)
 (.next ⟨[],[]⟩)))))))
 (.next ⟨[(14,y2)],[]⟩))
 (.exit 0 ⟨[(15,mR)],[]⟩))
def U2 (b:Nat→PC):PT:=
 (.ite (bj (.llen y1) (pi 100))
 (.ret (pi 6))
 (.brk ⟨[(14,(pi 0)),(13,(.llen y1)),(12,y1),(2,(pi 0))],[(1,(.mk [r0]))]⟩
(awd b)
 (.ret (pi 0))))
def aqP (b:Nat→PC):PT×List (Shp×PT):=(U2 b,[(.lp 2 [2,50,51] [] [2,50] [],zh b),(.lp 0 [2,14,15] [] [2,14] [],DL b)])
theorem Iy:AO.map told=some (aqP (au AO)):=by kernel_rfl
theorem aBk:tree Kg=U2 Aa:=ay Iy
theorem LX:round 2 [2,50,51] [] [2,50] [] (Aa 0)=zh Aa:=bt Iy 0 fun _=>rfl
theorem SH:round 0 [2,14,15] [] [2,14] [] (Aa 1)=DL Aa:=bt Iy 1 fun _=>rfl
theorem amt:AO=some Kg:=ax Iy
noncomputable def AM:Option PC:=aw {ctx with fr:=[2],nh:=[]} Tryz.f151 ((aa ae 151).getD default) [1,4,6]
noncomputable def Ke:PC:=av AM
noncomputable def z8:Nat→PC:=bx AM
def av9 (b:Nat→PC):PC:=.block 0 [2,14,15] [] (.loop [2,14] [] (b 0))
def awa (b:Nat→PC):PC:=.block 2 [2,69,70] [] (.loop [2,69] [] (b 1))
def DJ (b:Nat→PC):PT:=
 (.ite mR
 (.blockS ⟨[],[]⟩ 1 [2,4,16,17,18,19,20,21,22,23,24,25,33,34,40,41,47,48,54,55,60] [4]
 (.chk (aD cn dc)
 (.call ⟨[],[(4,(.setc z5 0 kO))]⟩ [] 23 146 [(pc (.setc z5 0 kO) 0),(.llen (pc o1 0))]
 (.call ⟨[(25,(.nt fF))],[]⟩ [(25,false)] 31 146 [(pc o4 1),(.llen (pc o1 0))]
 (.call ⟨[(41,(.pick (.pick iL pT (.nt oX)) pT (ah (pc o4 0) (pc o4 1))))],[]⟩ [(41,false)] 45 146 [(bJ (pc o4 2) (pi 1)),(pi 1073741824)]
 (.call ⟨[(48,(.pick lI pT (.nt qy)))],[]⟩ [(48,false)] 52 146 [(bJ (pc o4 3) (pi 1)),(pi 1073741824)]
 (.call ⟨[(55,(.pick jv pT (.nt zb)))],[]⟩ [(55,false)] 58 146 [(pc o4 4),(pi 100001)]
 (.ite (.pick tU pT (.nt rT))
 (.ret (pi 1))
 (.next ⟨[],[]⟩))))))))
 (.next ⟨[(14,y2)],[]⟩))
 (.exit 0 ⟨[(15,mR)],[]⟩))
def DK (b:Nat→PC):PT:=
 (.ite (aq zd r68)
 (.blockS ⟨[],[]⟩ 3 [2,6,71,72,73,74,75,76,77,78,79,80,84,85,91,92,96] [6]
 (.chk (aD wH zd)
 (.call ⟨[],[(6,(.setc z3 0 (pn wH zd)))]⟩ [] 78 146 [(pc (.setc z3 0 (pn wH zd)) 0),tO]
 (.ite (.pick (.pick (.pick (.nt r78) pT (aq (pc o6 1) (pi 0))) pT (bj (pc o6 1) (pc o6 2))) pT (bj (pc o6 2) (pi 100000)))
 (.ret (pi 1))
 (.next ⟨[],[]⟩))))
 (.next ⟨[(69,(aH zd (pi 1)))],[]⟩))
 (.exit 2 ⟨[(70,(aq zd r68))],[]⟩))
def U0 (b:Nat→PC):PT:=
 (.ite (bj (.llen (pc (.mk [r0]) 6)) (pi 100))
 (.ret (pi 6))
 (.brk ⟨[(14,(pi 0)),(13,(.llen (pc (.mk [r0]) 6))),(12,(pc (.mk [r0]) 6)),(2,(pi 0))],[(1,(.mk [r0]))]⟩
(av9 b)
 (.ite (bj (.llen (pc o1 7)) (pi 20))
 (.ret (pi 6))
 (.brk ⟨[(69,(pi 0)),(68,(.llen (pc o1 7))),(67,(pc o1 7))],[]⟩
(awa b)
 (.ret (pi 0))))))
def aqN (b:Nat→PC):PT×List (Shp×PT):=(U0 b,[(.lp 0 [2,14,15] [] [2,14] [],DJ b),(.lp 2 [2,69,70] [] [2,69] [],DK b)])
theorem Ix:AM.map told=some (aqN (au AM)):=by kernel_rfl
theorem aBi:tree Ke=U0 z8:=ay Ix
theorem SF:round 0 [2,14,15] [] [2,14] [] (z8 0)=DJ z8:=bt Ix 0 fun _=>rfl
theorem SG:round 2 [2,69,70] [] [2,69] [] (z8 1)=DK z8:=bt Ix 1 fun _=>rfl
theorem amr:AM=some Ke:=ax Ix
noncomputable def Gi:Option PC:=aw {ctx with fr:=[4],nh:=[]} Tryz.f124 ((aa ae 124).getD default) [2]
noncomputable def KF:PC:=av Gi
def Vm:PT:=
 (.ret (.pick (aY r1 (pi 0)) (aq r1 (.llen oU)) pF))
def arc (b:Nat→PC):PT×List (Shp×PT):=(Vm,[])
theorem aei:Gi.map told=some (arc (au Gi)):=by kernel_rfl
theorem aBE:tree KF=Vm:=ay aei
theorem amQ:Gi=some KF:=ax aei
noncomputable def Gj:Option PC:=aw {ctx with fr:=[2],nh:=[]} Tryz.f125 ((aa ae 125).getD default) []
noncomputable def KG:PC:=av Gj
def Vn:PT:=
 (.ret (.pick (aY r0 (pi 0)) (bz r0 (pi 100000)) pF))
def ard (b:Nat→PC):PT×List (Shp×PT):=(Vn,[])
theorem aej:Gj.map told=some (ard (au Gj)):=by kernel_rfl
theorem aBF:tree KG=Vn:=ay aej
theorem amR:Gj=some KG:=ax aej
noncomputable def Ge:Option PC:=aw {ctx with fr:=[2],nh:=[]} Tryz.f126 ((aa ae 126).getD default) [1]
noncomputable def KC:PC:=av Ge
def Vl:PT:=
 (.ret (.pick (ah lH (pi 0)) pT (ah lH (pi 1))))
def aq9 (b:Nat→PC):PT×List (Shp×PT):=(Vl,[])
theorem aef:Ge.map told=some (aq9 (au Ge)):=by kernel_rfl
theorem aBD:tree KC=Vl:=ay aef
theorem amN:Ge=some KC:=ax aef
noncomputable def Gg:Option PC:=aw {ctx with fr:=[6,7,13,16,24,33,8,9],nh:=[]} Tryz.f127 ((aa ae 127).getD default) [3,4]
noncomputable def KE:PC:=av Gg
def uo:PT:=
 (.blockS ⟨[(12,(pc (.mk [r1]) 5))],[(4,(.mk [r1])),(3,(.mk [r0]))]⟩ 0 [6,7,13,14,16,17,24,25,33,34] []
 (.iteS ⟨[],[]⟩ (ah cn (pi 0)) [6,7,16,17,24,25,33,34] []
 (.ret (.tup [r2,(pi 0)]))
 (.iteS ⟨[],[]⟩ (ah cn (pi 1)) [6,7,24,25,33,34] []
 (.call ⟨[],[]⟩ [] 21 169 [r2,(.mk [(pc o4 5),(pc o4 6),(pc o4 7)])]
 (.ret (.tup [(.tget jU 0),(.tget jU 1)])))
 (.iteS ⟨[],[]⟩ (ah cn (pi 2)) [6,7,33,34] []
 (.call ⟨[],[]⟩ [] 30 169 [(pc o4 8),(.mk [(pc o4 5),(pc o4 6),(pc o4 7)])]
 (.ret (.tup [(.tget mS 0),(.tget mS 1)])))
 (.iteS ⟨[],[]⟩ (ah cn (pi 4)) [6,7] []
 (.call ⟨[],[]⟩ [] 41 163 [(ao 8 o3),(pc o4 9),(pc o4 10)]
 (.ret (.tup [(aH (pc o4 8) (.tget lI 0)),(.tget lI 1)])))
 (.next ⟨[],[]⟩)
 (.next ⟨[],[]⟩))
 (.next ⟨[],[]⟩))
 (.next ⟨[],[]⟩))
 (.next ⟨[],[]⟩))
 (.ret (.tup [(pc o4 6),(pi 0)])))
def arb (b:Nat→PC):PT×List (Shp×PT):=(uo,[])
theorem aeh:Gg.map told=some (arb (au Gg)):=by kernel_rfl
theorem zy:tree KE=uo:=ay aeh
theorem amP:Gg=some KE:=ax aeh
noncomputable def Gf:Option PC:=aw {ctx with fr:=[4,5],nh:=[]} Tryz.f169 ((aa ae 169).getD default) [3]
noncomputable def KD:PC:=av Gf
def zx:PT:=
 (.ite (.pick (aq (pc (.mk [r1]) 1) (pi 0)) pT (bj (pc (.mk [r1]) 1) (pi 20000)))
 (.ret (.tup [(pi 0),(pi 3)]))
 (.iteS ⟨[],[(3,(.mk [r1]))]⟩ (ah (pc (.mk [r1]) 2) (pi 1)) [4,5] []
 (.call ⟨[],[]⟩ [] 20 195 [r0,(pc o3 1)]
 (.ret (.tup [(.tget dG 0),(.tget dG 1)])))
 (.next ⟨[],[]⟩)
 (.ret (.tup [(aH r0 (pc o3 1)),(pi 0)]))))
def ara (b:Nat→PC):PT×List (Shp×PT):=(zx,[])
theorem aeg:Gf.map told=some (ara (au Gf)):=by kernel_rfl
theorem MG:tree KD=zx:=ay aeg
theorem amO:Gf=some KD:=ax aeg
noncomputable def Fk:Option PC:=aw {ctx with fr:=[4,5,6,7,8,9],nh:=[]} Tryz.f195 ((aa ae 195).getD default) []
noncomputable def Ja:PC:=av Fk
def Mz:PT:=
 (.call ⟨[],[]⟩ [] 11 194 [r0]
 (.ite (.pick (.pick (.nt bp) pT (aq r1 (pi (-5000)))) pT (bj r1 (pi 5000)))
 (.ret (.tup [(pi 0),(pi 3)]))
 (.call ⟨[],[]⟩ [] 23 212 [r0]
 (.chk (aL (pi 12) (pi 0))
 (.call ⟨[(41,(.tget fF 2)),(40,(aH (.ai .rem .i64 Ls (pi 12)) (pi 1))),(39,(.ai .quo .i64 Ls (pi 12)))],[]⟩ [] 44 214 [(.ai .quo .i64 Ls (pi 12)),(aH (.ai .rem .i64 Ls (pi 12)) (pi 1))]
 (.call ⟨[],[]⟩ [] 46 213 [tT,rR,(.mn lI wF)]
 (.ret (.tup [(.tget Dm 0),(.tget Dm 1)]))))))))
def apI (b:Nat→PC):PT×List (Shp×PT):=(Mz,[])
theorem adp:Fk.map told=some (apI (au Fk)):=by kernel_rfl
theorem agH:tree Ja=Mz:=ay adp
theorem ali:Fk=some Ja:=ax adp
noncomputable def Ft:Option PC:=aw {ctx with fr:=[2],nh:=[]} Tryz.f194 ((aa ae 194).getD default) []
noncomputable def Ji:PC:=av Ft
def T7:PT:=
 (.ret (.pick (bz (pi 0) r0) (bz r0 (pi 100000)) pF))
def apR (b:Nat→PC):PT×List (Shp×PT):=(T7,[])
theorem adw:Ft.map told=some (apR (au Ft)):=by kernel_rfl
theorem aAo:tree Ji=T7:=ay adw
theorem als:Ft=some Ji:=ax adw
noncomputable def Fm:Option PC:=aw {ctx with fr:=[2,3,4,5,6,7,8,9],nh:=[]} Tryz.f212 ((aa ae 212).getD default) []
noncomputable def Jd:PC:=av Fm
def T3:PT:=
 (.chk (aL (pi 146097) (pi 0))
 (.chk (aL (pi 1460) (pi 0))
 (.chk (aL (pi 36524) (pi 0))
 (.chk (aL (pi 146096) (pi 0))
 (.chk (aL (pi 365) (pi 0))
 (.chk (aL (pi 4) (pi 0))
 (.chk (aL (pi 100) (pi 0))
 (.chk (aL (pi 153) (pi 0))
 (.chk (aL (pi 5) (pi 0))
 (.ret (.tup [(.pick (aq afk (pi 3)) (aH aeY (pi 1)) aeY),afk,(aH (bJ (bJ (.ai .rem .i64 (aH r0 (pi 730425)) (pi 146097)) (bJ (aH (.ai .mul .i64 (pi 365) wu) (.ai .quo .i64 wu (pi 4))) (.ai .quo .i64 wu (pi 100)))) (.ai .quo .i64 (aH (.ai .mul .i64 (pi 153) Lb) (pi 2)) (pi 5))) (pi 1))])))))))))))
def apL (b:Nat→PC):PT×List (Shp×PT):=(T3,[])
theorem adr:Fm.map told=some (apL (au Fm)):=by kernel_rfl
theorem aAj:tree Jd=T3:=ay adr
theorem alm:Fm=some Jd:=ax adr
noncomputable def Fp:Option PC:=aw {ctx with fr:=[4],nh:=[]} Tryz.f214 ((aa ae 214).getD default) []
noncomputable def Jf:PC:=av Fp
def MB:PT:=
 (.ite (ah r1 (pi 12))
 (.ret (pi 31))
 (.call ⟨[],[]⟩ [] 10 227 [r0,(aH r1 (pi 1)),(pi 1)]
 (.call ⟨[],[]⟩ [] 13 227 [r0,r1,(pi 1)]
 (.ret (bJ cP cB)))))
def apO (b:Nat→PC):PT×List (Shp×PT):=(MB,[])
theorem adt:Fp.map told=some (apO (au Fp)):=by kernel_rfl
theorem aAm:tree Jf=MB:=ay adt
theorem alp:Fp=some Jf:=ax adt
noncomputable def Fq:Option PC:=aw {ctx with fr:=[6,0,1],nh:=[]} Tryz.f227 ((aa ae 227).getD default) []
noncomputable def Jg:PC:=av Fq
def MC:PT:=
 (.chk (aL (pi 4) (pi 0))
 (.chk (aL (pi 100) (pi 0))
 (.chk (aL (pi 400) (pi 0))
 (.chk (aL (pi 5) (pi 0))
 (.ret (bJ (bJ (aH (aH (aH (bJ (aH (.ai .mul .i64 (pi 365) Lz) (.ai .quo .i64 Lz (pi 4))) (.ai .quo .i64 Lz (pi 100))) (.ai .quo .i64 Lz (pi 400))) (.ai .quo .i64 (aH (.ai .mul .i64 (pi 153) (bJ (.pick (aq r1 (pi 3)) (aH r1 (pi 12)) r1) (pi 3))) (pi 2)) (pi 5))) r2) (pi 1)) (pi 730425)))))))
def apP (b:Nat→PC):PT×List (Shp×PT):=(MC,[])
theorem adu:Fq.map told=some (apP (au Fq)):=by kernel_rfl
theorem agI:tree Jg=MC:=ay adu
theorem alq:Fq=some Jg:=ax adu
noncomputable def Fl:Option PC:=aw {ctx with fr:=[6,7,8],nh:=[]} Tryz.f213 ((aa ae 213).getD default) []
noncomputable def Jb:PC:=av Fl
def zw:PT:=
 (.call ⟨[(28,r2),(27,(.pick (.pick (.pick (.pick (aq r0 (pi 2000)) pT (bj r0 (pi 2300))) pT (aq r1 (pi 1))) pT (bj r1 (pi 12))) pT (aq r2 (pi 1))))],[]⟩ [(27,false)] 31 214 [r0,r1]
 (.ite (.pick eG pT (bj tR oX))
 (.ret (.tup [(pi 0),(pi 3)]))
 (.call ⟨[],[]⟩ [] 37 227 [r0,r1,r2]
 (.call ⟨[(8,kQ)],[]⟩ [] 39 194 [kQ]
 (.ite (.nt tT)
 (.ret (.tup [(pi 0),(pi 3)]))
 (.ret (.tup [r8,(pi 0)])))))))
def apJ (b:Nat→PC):PT×List (Shp×PT):=(zw,[])
theorem adq:Fl.map told=some (apJ (au Fl)):=by kernel_rfl
theorem MA:tree Jb=zw:=ay adq
theorem alj:Fl=some Jb:=ax adq
noncomputable def AG:Option PC:=aw {ctx with fr:=[6,7],nh:=[]} Tryz.f163 ((aa ae 163).getD default) [3,9]
noncomputable def J6:PC:=av AG
noncomputable def Ny:Nat→PC:=bx AG
def av0 (b:Nat→PC):PC:=.block 0 [6,7,13,14] [] (.loop [6,7,13] [] (b 0))
def DE (b:Nat→PC):PT:=
 (.ite (aq cB cn)
 (.chk (aD bp cB)
 (.ite (.pick (ah (pc (.setc z3 0 (pn bp cB)) 0) r1) (ah (pc (.setc z3 0 (pn bp cB)) 1) r2) pF)
 (.ret (.tup [(pc (.setc z3 0 (pn bp cB)) 2),(pi 0)]))
 (.next ⟨[(13,(aH cB (pi 1)))],[]⟩)))
 (.exit 0 ⟨[(14,(aq cB cn))],[]⟩))
def UR (b:Nat→PC):PT:=
 (.brk ⟨[(13,(pi 0)),(12,(.llen y1)),(11,y1),(7,(pi 0)),(6,(pi 0))],[]⟩
(av0 b)
 (.ret (.tup [(pi 0),(pi 4)])))
def aqF (b:Nat→PC):PT×List (Shp×PT):=(UR b,[(.lp 0 [6,7,13,14] [] [6,7,13] [],DE b)])
theorem Ri:AG.map told=some (aqF (au AG)):=by kernel_rfl
theorem aBa:tree J6=UR Ny:=ay Ri
theorem Sz:round 0 [6,7,13,14] [] [6,7,13] [] (Ny 0)=DE Ny:=bt Ri 0 fun _=>rfl
theorem amj:AG=some J6:=ax Ri
noncomputable def A0:Option PC:=aw {ctx with fr:=[6,7,8,2,9,10],nh:=[]} Tryz.f128 ((aa ae 128).getD default) [3]
noncomputable def KH:PC:=av A0
noncomputable def NL:Nat→PC:=bx A0
def aws (b:Nat→PC):PC:=.block 0 [] [] (.loop [2,6,7] [] (b 0))
def SW (b:Nat→PC):PT:=
 (.blockS ⟨[],[]⟩ 1 [2,6,7,9,10,14,15,16,17,18,19,20,21,22,23,24,25,26,27,28,29,30,31,32,34] []
 (.call ⟨[],[]⟩ [] 17 171 [(ao 8 o3),r8,r2]
 (.chk (aD (pc o3 1) r1)
 (.call ⟨[(2,kP)],[]⟩ [] 25 172 [(pn (pc o3 1) r1),kP]
 (.ite (aL (.tget iL 1) (pi 0))
 (.ret (.tup [(pi 0),(pi 3)]))
 (.ite (ah (.tget iL 0) r2)
 (.ret (.tup [r2,(pi 0)]))
 (.next ⟨[(2,(.tget iL 0))],[]⟩))))))
 (.next ⟨[],[]⟩))
def Vo (b:Nat→PC):PT:=
 (.call ⟨[(7,(pi 0)),(6,(pi 0))],[(3,(.mk [r0]))]⟩ [] 13 170 [ko,r1]
 (.brk ⟨[(8,cB)],[]⟩
(aws b)
 (.next ⟨[],[]⟩)))
def arf (b:Nat→PC):PT×List (Shp×PT):=(Vo b,[(.lp 0 [] [] [2,6,7] [],SW b)])
theorem Ru:A0.map told=some (arf (au A0)):=by kernel_rfl
theorem aBG:tree KH=Vo NL:=ay Ru
theorem ayJ:round 0 [] [] [2,6,7] [] (NL 0)=SW NL:=bt Ru 0 fun _=>rfl
theorem amS:A0=some KH:=ax Ru
noncomputable def A1:Option PC:=aw {ctx with fr:=[6,7,2],nh:=[]} Tryz.f171 ((aa ae 171).getD default) [3,9]
noncomputable def KI:PC:=av A1
noncomputable def Ae:Nat→PC:=bx A1
def awt (b:Nat→PC):PC:=.block 2 [2,7,14,15] [] (.loop [2,7,14] [] (b 0))
def awu (b:Nat→PC):PC:=.block 0 [2,7,10] [] (.loop [2,7] [] (b 1))
def zi (b:Nat→PC):PT:=
 (.ite mR
 (.chk (aD cn dc)
 (.next ⟨[(2,(.pick afc (aH (pc (.setc z3 0 kO) 2) (pi 1)) r2)),(7,(.pick afc pT r7)),(14,y2)],[]⟩))
 (.exit 2 ⟨[(15,mR)],[]⟩))
def L3 (b:Nat→PC):PT:=
 (.ite r7
 (.blockS ⟨[(10,r7)],[]⟩ 1 [2,7,11,12,13,14,15] []
 (.brk ⟨[(14,(pi 0)),(13,(.llen (pc o3 7))),(12,(pc o3 7)),(7,pF)],[]⟩
(awt b)
 (.next ⟨[],[]⟩))
 (.next ⟨[],[]⟩))
 (.exit 0 ⟨[(10,r7)],[]⟩))
def Vp (b:Nat→PC):PT:=
 (.brk ⟨[(7,pT)],[(3,(.mk [r0]))]⟩
(awu b)
 (.ret r2))
def arh (b:Nat→PC):PT×List (Shp×PT):=(Vp b,[(.lp 2 [2,7,14,15] [] [2,7,14] [],zi b),(.lp 0 [2,7,10] [] [2,7] [],L3 b)])
theorem IC:A1.map told=some (arh (au A1)):=by kernel_rfl
theorem aBH:tree KI=Vp Ae:=ay IC
theorem L2:round 2 [2,7,14,15] [] [2,7,14] [] (Ae 0)=zi Ae:=bt IC 0 fun _=>rfl
theorem afV:round 0 [2,7,10] [] [2,7] [] (Ae 1)=L3 Ae:=bt IC 1 fun _=>rfl
theorem amT:A1=some KI:=ax IC
noncomputable def Ap:Option PC:=aw {ctx with fr:=[6],nh:=[]} Tryz.f172 ((aa ae 172).getD default) [2,4,5]
noncomputable def Jc:PC:=av Ap
noncomputable def Nj:Nat→PC:=bx Ap
def aoy (b:Nat→PC):PC:=.each cT [16] [4,5] (some (.tup [(pc o4 0),(pc o5 0)])) (b 0)
def Sn (b:Nat→PC):PT:=
 (.exit 1000000007 ⟨[],[(4,(.setc o4 0 cQ)),(5,(.setc o5 0 (pi 0)))]⟩)
def T2 (b:Nat→PC):PT:=
 (.call ⟨[],[(5,Db),(4,Db),(2,(.mk [r0]))]⟩ [] 8 194 [r1]
 (.ite (.nt r8)
 (.ret (.tup [(pc (.setc o4 0 (pi 0)) 0),(pc (.setc o5 0 (pi 3)) 0)]))
 (.call ⟨[],[]⟩ [] 15 196 [(ao 6 o2),r1,(.mn (aH r1 (pi 400)) (pi 100000))]
 (.blockS ⟨[],[]⟩ 0 [] [4,5]
 (.callc ⟨[],[]⟩ [] 18 cm []
 (.brk ⟨[],[]⟩
(aoy b)
 (.next ⟨[],[]⟩)))
 (.ret (.tup [(pc (.setc o4 0 (pi 0)) 0),(pc (.setc o5 0 (pi 3)) 0)]))))))
def apK (b:Nat→PC):PT×List (Shp×PT):=(T2 b,[(.ea [4,5],Sn b)])
theorem Q3:Ap.map told=some (apK (au Ap)):=by kernel_rfl
theorem aAi:tree Jc=T2 Nj:=ay Q3
theorem ayE:po [4,5] (Nj 0)=Sn Nj:=TB Q3 0 fun _=>rfl
theorem alk:Ap=some Jc:=ax Q3
noncomputable def Fo:Option PC:=aw {ctx with fr:=[6],nh:=[]} Tryz.f196 ((aa ae 196).getD default) [3,4,5]
noncomputable def Je:PC:=av Fo
def T4:PT:=
 (.ret (.clo 215 [(.ref (pc (.mk [r1]) 0)),(.ref (pc (.mk [r2]) 0)),(.ref (ao 6 (.mk [r0])))]))
def apM (b:Nat→PC):PT×List (Shp×PT):=(T4,[])
theorem ads:Fo.map told=some (apM (au Fo)):=by kernel_rfl
theorem aAl:tree Je=T4:=ay ads
theorem alo:Fo=some Je:=ax ads
noncomputable def xk:Option PC:=A7 {ctx with fr:=[5],nh:=[]} Tryz.f215 [(.ref I),(.ref I),(.ref Y0)] [I] 1000 [1000]
noncomputable def C7:PC:=av xk
noncomputable def Nk:Nat→PC:=bx xk
def avI (b:Nat→PC):PC:=.block 0 [5,7,8,9] [1000] (.loop [5] [1000] (b 0))
def LK (b:Nat→PC):PT:=
 (.ite (bz r5 (.deref r2))
 (.blockS ⟨[],[]⟩ 1 [12,13,14,15,20] [1000]
 (.call ⟨[],[]⟩ [] 14 216 [(.deref r3),r5]
 (.call ⟨[(15,dc)],[(1000,afl)]⟩ [(15,true)] 18 1000000009 [afl]
 (.ite (.pick cm (.nt cT) pF)
 (.ret (.o 1000))
 (.next ⟨[],[]⟩))))
 (.next ⟨[(5,(aH r5 (pi 1)))],[]⟩))
 (.exit 0 ⟨[(7,r5),(8,(.deref r2)),(9,(bz r5 (.deref r2)))],[]⟩))
def T5 (b:Nat→PC):PT:=
 (.brk ⟨[(5,(.deref r1))],[]⟩
(avI b)
 (.ret (.o 1000)))
def apN (b:Nat→PC):PT×List (Shp×PT):=(T5 b,[(.lp 0 [5,7,8,9] [1000] [5] [1000],LK b)])
theorem Q4:xk.map told=some (apN (au xk)):=by kernel_rfl
theorem aAk:tree C7=T5 Nk:=ay Q4
theorem afH:round 0 [5,7,8,9] [1000] [5] [1000] (Nk 0)=LK Nk:=bt Q4 0 fun _=>rfl
theorem aln:xk=some C7:=ax Q4
theorem ane:∀yv,A7 {ctx with fr:=[5],nh:=[],yv:=yv} Tryz.f215 [(.ref I),(.ref I),(.ref Y0)] [I] 1000 [1000]=some C7:=fun yv=>(show _=xk by kernel_rfl).trans aln
noncomputable def Fs:Option PC:=aw {ctx with fr:=[4,5,6,7],nh:=[]} Tryz.f216 ((aa ae 216).getD default) [2]
noncomputable def Jh:PC:=av Fs
def T6:PT:=
 (.call ⟨[],[(2,(.mk [r0]))]⟩ [] 10 212 [r1]
 (.chk (aL (pi 7) (pi 0))
 (.call ⟨[(7,(.tget cP 2)),(6,(.tget cP 1))],[]⟩ [] 19 45 [(pc o2 3),(.ai .rem .i64 (aH r1 (pi 5)) (pi 7))]
 (.call ⟨[(21,(.nt iK))],[]⟩ [(21,true)] 28 45 [(pc o2 4),(aH (.ai .mul .i64 (pi 100) r6) r7)]
 (.call ⟨[(31,(.pick jU (.nt tR) pF))],[]⟩ [(31,true)] 35 45 [(pc o2 5),r1]
 (.ret (.pick oX (.nt nN) pF)))))))
def apQ (b:Nat→PC):PT×List (Shp×PT):=(T6,[])
theorem adv:Fs.map told=some (apQ (au Fs)):=by kernel_rfl
theorem aAn:tree Jh=T6:=ay adv
theorem alr:Fs=some Jh:=ax adv
noncomputable def Ff:Option PC:=aw {ctx with fr:=[],nh:=[]} Tryz.f85 ((aa ae 85).getD default) [2,4,5,6]
noncomputable def I3:PC:=av Ff
def TU:PT:=
 (.chk (aD (pc (.mk [r0]) 25) r1)
 (.call ⟨[],[(6,(.setc Df 0 (.mk [r1,(pc Dh 0),(pc Dh 2),(pi 0),(pi 0),(pi 0),(.pick (aL (pc Dh 0) (pi 1)) (ah (.ai .and .i64 (pc Dh 8) (pi 1)) (pi 0)) pF)]))),(5,Dh),(4,Df),(2,(.mk [r0]))]⟩ [] 33 21 [RT,r1,(pc (.mk [r0]) 9)]
 (.iteS ⟨[],[]⟩ (.nt tS) [] [6]
 (.call ⟨[(36,(pc o2 29))],[]⟩ [] 39 137 [(ao 31 o2),(pi 1),r1]
 (.call ⟨[],[]⟩ [] 42 137 [(ao 31 o2),(pi 2),r1]
 (.call ⟨[],[]⟩ [] 44 136 [(.lst [gW,tT,Sc])]
 (.next ⟨[],[(6,(.setc o6 3 wF))]⟩))))
 (.next ⟨[],[]⟩)
 (.call ⟨[],[]⟩ [] 49 138 [(ao 31 o2),r1]
 (.ret (ao 7 (.setc o4 0 (ao 7 (.pick (.pick (ah (pc o5 0) (pi 1)) pT (ah (pc o5 0) (pi 4))) (.setc R7 5 (.mn (pc R7 5) (pc o5 5))) R7)))))))))
def apB (b:Nat→PC):PT×List (Shp×PT):=(TU,[])
theorem adk:Ff.map told=some (apB (au Ff)):=by kernel_rfl
theorem aAb:tree I3=TU:=ay adk
theorem alb:Ff=some I3:=ax adk
noncomputable def Gw:Option PC:=aw {ctx with fr:=[6],nh:=[]} Tryz.f21 ((aa ae 21).getD default) [3]
noncomputable def KX:PC:=av Gw
def VC:PT:=
 (.call ⟨[(16,(.pick (aY r1 (pi 0)) (aq r1 (.llen nK)) pF))],[]⟩ [(16,true)] 19 55 [(ao 19 (.mk [r0])),r2]
 (.ret (.pick cQ (.look iK r1 pF) pF)))
def ary (b:Nat→PC):PT×List (Shp×PT):=(VC,[])
theorem aev:Gw.map told=some (ary (au Gw)):=by kernel_rfl
theorem aBV:tree KX=VC:=ay aev
theorem am8:Gw=some KX:=ax aev
noncomputable def A5:Option PC:=aw {ctx with fr:=[4],nh:=[]} Tryz.f55 ((aa ae 55).getD default) [2,5,7]
noncomputable def KY:PC:=av A5
noncomputable def NO:Nat→PC:=bx A5
def awz (b:Nat→PC):PC:=.block 0 [12,13] [5] (.loop [12] [5] (b 0))
def D1 (b:Nat→PC):PT:=
 (.ite (aq cn bp)
 (.chk (aD cP cn)
 (.ite (.pick (ah (pc (.setc z9 0 rP) 0) (pi 7)) (bz (pc (.setc z9 0 rP) 6) r1) pF)
 (.chk (aq (.mlen o5) cO)
 (.next ⟨[(12,(aH cn (pi 1)))],[(5,(.put o5 (pc (.setc z9 0 rP) 4) pT))]⟩))
 (.next ⟨[(12,(aH cn (pi 1)))],[]⟩)))
 (.exit 0 ⟨[(13,(aq cn bp))],[]⟩))
def VD (b:Nat→PC):PT:=
 (.brk ⟨[(12,(pi 0)),(11,(.llen (pc (.mk [r0]) 17))),(10,(pc (.mk [r0]) 17)),(5,pN)],[(5,(.con (.map [])))]⟩
(awz b)
 (.ret o5))
def arz (b:Nat→PC):PT×List (Shp×PT):=(VD b,[(.lp 0 [12,13] [5] [12] [5],D1 b)])
theorem Rx:A5.map told=some (arz (au A5)):=by kernel_rfl
theorem aBW:tree KY=VD NO:=ay Rx
theorem S4:round 0 [12,13] [5] [12] [5] (NO 0)=D1 NO:=bt Rx 0 fun _=>rfl
theorem am9:A5=some KY:=ax Rx
noncomputable def Fg:Option PC:=aw {ctx with fr:=[6],nh:=[]} Tryz.f137 ((aa ae 137).getD default) [3,7]
noncomputable def I4:PC:=av Fg
def TV:PT:=
 (.call ⟨[],[]⟩ [] 23 34 [ko,(pc (.mk [r0]) 8),r1,(ao 24 (.setc RV 0 (.mk [RT,r2,r2,(pi (-1)),(pc (.mk [r0]) 30),(pc (.mk [r0]) 9)])))]
 (.call ⟨[],[]⟩ [] 24 33 [fF]
 (.ret qw)))
def apC (b:Nat→PC):PT×List (Shp×PT):=(TV,[])
theorem adl:Fg.map told=some (apC (au Fg)):=by kernel_rfl
theorem aAc:tree I4=TV:=ay adl
theorem alc:Fg=some I4:=ax adl
noncomputable def Am:Option PC:=aw {ctx with fr:=[2,3,5,12,15],nh:=[]} Tryz.f136 ((aa ae 136).getD default) []
noncomputable def I1:PC:=av Am
noncomputable def Nh:Nat→PC:=bx Am
def avG (b:Nat→PC):PC:=.block 0 [2,3,8,9] [] (.loop [2,3,8] [] (b 0))
def Dr (b:Nat→PC):PT:=
 (.ite (aq r8 r7)
 (.chk (aD r6 r8)
 (.ite (ah (pn r6 r8) (pi 0))
 (.ret (pi 0))
 (.next ⟨[(3,(.pick (ah (pn r6 r8) (pi 2)) (pi 2) r3)),(8,tQ)],[]⟩)))
 (.exit 0 ⟨[(9,(aq r8 r7))],[]⟩))
def TR (b:Nat→PC):PT:=
 (.brk ⟨[(8,(pi 0)),(7,(.llen r0)),(6,r0),(3,(pi 1)),(2,(pi 0))],[]⟩
(avG b)
 (.ret r3))
def apz (b:Nat→PC):PT×List (Shp×PT):=(TR b,[(.lp 0 [2,3,8,9] [] [2,3,8] [],Dr b)])
theorem QZ:Am.map told=some (apz (au Am)):=by kernel_rfl
theorem az9:tree I1=TR Nh:=ay QZ
theorem Sj:round 0 [2,3,8,9] [] [2,3,8] [] (Nh 0)=Dr Nh:=bt QZ 0 fun _=>rfl
theorem ak9:Am=some I1:=ax QZ
noncomputable def An:Option PC:=aw {ctx with fr:=[4,5,6,7,10,50,54],nh:=[]} Tryz.f138 ((aa ae 138).getD default) [2,9]
noncomputable def I5:PC:=av An
noncomputable def Ni:Nat→PC:=bx An
def avH (b:Nat→PC):PC:=.block 0 [7,23,24] [] (.loop [7,23] [] (b 0))
def Ds (b:Nat→PC):PT:=
 (.ite (aq fF y8)
 (.chk (aD jU fF)
 (.next ⟨[(7,(.pick r7 pT (bj (pc (.setc z2 0 (pn jU fF)) 0) r1))),(23,(aH fF (pi 1)))],[]⟩))
 (.exit 0 ⟨[(24,(aq fF y8))],[]⟩))
def TW (b:Nat→PC):PT:=
 (.call ⟨[(5,(pi 0))],[(2,(.mk [r0]))]⟩ [] 14 180 [RT,r1]
 (.brk ⟨[(23,(pi 0)),(22,(.llen (pc o2 26))),(21,(pc o2 26)),(7,pF),(6,(.llen (pc o2 26))),(5,dc)],[]⟩
(avH b)
 (.ite (.nt r7)
 (.ret (.tup [(pi 0),r5]))
 (.chk (aD (pc o2 26) (bJ r6 (pi 1)))
 (.call ⟨[(10,(pc (pn (pc o2 26) (bJ r6 (pi 1))) 1))],[]⟩ [] 48 137 [(ao 31 o2),(pi 4),r1]
 (.ite (ah jv (pi 1))
 (.ret (.tup [jv,cP]))
 (.ite (ah jv (pi 2))
 (.ret (.tup [jv,(.mn r5 cP)]))
 (.ret (.tup [jv,r5])))))))))
def apD (b:Nat→PC):PT×List (Shp×PT):=(TW b,[(.lp 0 [7,23,24] [] [7,23] [],Ds b)])
theorem Q0:An.map told=some (apD (au An)):=by kernel_rfl
theorem aAd:tree I5=TW Ni:=ay Q0
theorem Sk:round 0 [7,23,24] [] [7,23] [] (Ni 0)=Ds Ni:=bt Q0 0 fun _=>rfl
theorem ald:An=some I5:=ax Q0
noncomputable def Av:Option PC:=aw {ctx with fr:=[4,5],nh:=[]} Tryz.f180 ((aa ae 180).getD default) [2,7]
noncomputable def JG:PC:=av Av
noncomputable def Np:Nat→PC:=bx Av
def avP (b:Nat→PC):PC:=.block 0 [5,14,15] [] (.loop [5,14] [] (b 0))
def LM (b:Nat→PC):PT:=
 (.ite mR
 (.chk (aD cn dc)
 (.next ⟨[(5,(.pick (bz (pc (.setc z2 0 kO) 0) r1) (pc (.setc z2 0 kO) 1) r5)),(14,y2)],[]⟩))
 (.exit 0 ⟨[(15,mR)],[]⟩))
def Uu (b:Nat→PC):PT:=
 (.brk ⟨[(14,(pi 0)),(13,(.llen (pc (.mk [r0]) 16))),(12,(pc (.mk [r0]) 16)),(5,(pc (.mk [r0]) 3))],[]⟩
(avP b)
 (.ret r5))
def aqf (b:Nat→PC):PT×List (Shp×PT):=(Uu b,[(.lp 0 [5,14,15] [] [5,14] [],LM b)])
theorem Q9:Av.map told=some (aqf (au Av)):=by kernel_rfl
theorem aAM:tree JG=Uu Np:=ay Q9
theorem afJ:round 0 [5,14,15] [] [5,14] [] (Np 0)=LM Np:=bt Q9 0 fun _=>rfl
theorem alR:Av=some JG:=ax Q9
noncomputable def E1:Option PC:=aw {ctx with fr:=[8,9,10],nh:=[]} Tryz.f91 ((aa ae 91).getD default) []
noncomputable def IP:PC:=av E1
def TF:PT:=
 (.call ⟨[],[]⟩ [] 16 41 [r0,r1,r2,r3,(pi 360)]
 (.ite (ah (.tget cQ 1) (pi 3))
 (.ret lG)
 (.ret (.tget cQ 0))))
def apl (b:Nat→PC):PT×List (Shp×PT):=(TF,[])
theorem ac5:E1.map told=some (apl (au E1)):=by kernel_rfl
theorem azW:tree IP=TF:=ay ac5
theorem akW:E1=some IP:=ax ac5
noncomputable def FF:Option PC:=aw {ctx with fr:=[10,11,12,13,14],nh:=[]} Tryz.f41 ((aa ae 41).getD default) []
noncomputable def Jy:PC:=av FF
def Um:PT:=
 (.call ⟨[],[]⟩ [] 16 93 [r0,lG]
 (.call ⟨[(18,(.nt cQ))],[]⟩ [(18,false)] 20 93 [r1,(pi 1000)]
 (.call ⟨[(23,(.pick cT pT (.nt dG)))],[]⟩ [(23,false)] 25 93 [r2,(pi 100000)]
 (.call ⟨[(28,(.pick fF pT (.nt iL)))],[]⟩ [(28,false)] 30 93 [r3,(pi 100000)]
 (.ite (.pick (.pick (.pick tR pT (.nt mS)) pT (aq r3 r2)) pT (.pick (aL r4 (pi 360)) (aL r4 (pi 365)) pF))
 (.ret (.tup [(pi 0),(pi 1)]))
 (.call ⟨[],[]⟩ [] 55 94 [r0,(.ai .mul .i64 r1 (bJ r3 r2)),(.ai .mul .i64 (pi 1000) r4)]
 (.ite (.nt (.tget tU 2))
 (.ret (.tup [(pi 0),(pi 3)]))
 (.ret (.tup [(.tget tU 0),(pi 0)])))))))))
def ap7 (b:Nat→PC):PT×List (Shp×PT):=(Um,[])
theorem adI:FF.map told=some (ap7 (au FF)):=by kernel_rfl
theorem aAE:tree Jy=Um:=ay adI
theorem alJ:FF=some Jy:=ax adI
noncomputable def FH:Option PC:=aw {ctx with fr:=[4],nh:=[]} Tryz.f93 ((aa ae 93).getD default) []
noncomputable def JA:PC:=av FH
def Uo:PT:=
 (.ret (.pick (aY r0 (pi 0)) (bz r0 r1) pF))
def ap9 (b:Nat→PC):PT×List (Shp×PT):=(Uo,[])
theorem adK:FH.map told=some (ap9 (au FH)):=by kernel_rfl
theorem aAG:tree JA=Uo:=ay adK
theorem alL:FH=some JA:=ax adK
noncomputable def FG:Option PC:=aw {ctx with fr:=[6,7,8,9,10,11,12],nh:=[]} Tryz.f94 ((aa ae 94).getD default) []
noncomputable def Jz:PC:=av FG
def Un:PT:=
 (.call ⟨[],[]⟩ [] 18 153 [(.conv .u64 r0),(.conv .u64 r1)]
 (.ite (aY (.tget cT 0) (.conv .u64 r2))
 (.ret (.tup [(pi 0),(pi 0),pF]))
 (.call ⟨[],[]⟩ [] 30 154 [(.tget cT 0),(.tget cT 1),(.conv .u64 r2)]
 (.ite (bj (.tget mS 0) (.con (.v (.int .u64 1099511627776))))
 (.ret (.tup [(pi 0),(pi 0),pF]))
 (.ret (.tup [(.conv .i64 (.tget mS 0)),(.conv .i64 (.tget mS 1)),pT]))))))
def ap8 (b:Nat→PC):PT×List (Shp×PT):=(Un,[])
theorem adJ:FG.map told=some (ap8 (au FG)):=by kernel_rfl
theorem aAF:tree Jz=Un:=ay adJ
theorem alK:FG=some Jz:=ax adJ
noncomputable def Ao:Option PC:=aw {ctx with fr:=[6,7,8,2,9,10,11,12,13,14,15,16,17,18],nh:=[]} Tryz.f154 ((aa ae 154).getD default) []
noncomputable def I6:PC:=av Ao
noncomputable def uI:Nat→PC:=bx Ao
def CM (b:Nat→PC):PC:=.block 0 [15,16,67,68,69,78] [] (.loop [15,16] [] (b 0))
def CN (b:Nat→PC):PC:=.block 2 [16,18,102,103,104,113] [] (.loop [16,18] [] (b 1))
def Dt (b:Nat→PC):PT:=
 (.ite RY
 (.ite (aY y7 jT)
 (.exit 0 ⟨[(15,(.ai .sub .u64 cm Da)),(16,y7),(67,cm),(68,(aY cm jT)),(69,(aY cm jT)),(78,RY)],[]⟩)
 (.next ⟨[(15,(.ai .sub .u64 cm Da)),(16,y7)],[]⟩))
 (.exit 0 ⟨[(67,cm),(68,(aY cm jT)),(69,(aY cm jT)),(78,RY)],[]⟩))
def Du (b:Nat→PC):PT:=
 (.ite RX
 (.ite (aY y7 jT)
 (.exit 2 ⟨[(16,y7),(18,(.ai .sub .u64 cT Da)),(102,cT),(103,(aY cT jT)),(104,(aY cT jT)),(113,RX)],[]⟩)
 (.next ⟨[(16,y7),(18,(.ai .sub .u64 cT Da))],[]⟩))
 (.exit 2 ⟨[(102,cT),(103,(aY cT jT)),(104,(aY cT jT)),(113,RX)],[]⟩))
def My (b:Nat→PC):PT:=
 (.ite (ah r2 lF)
 (.chk pF
 (.chk (.nt pT)
 (.ite (bz r2 r0)
 (.chk pF
 (.chk (.nt pT)
 (.ite (ah r0 lF)
 (.chk (aL r2 (pi 0))
 (.ret (.tup [(.ai .quo .u64 r1 r2),(.ai .rem .u64 r1 r2)])))
 (.call ⟨[],[]⟩ [] 35 186 [r2]
 (.chk (aY oT (pi 0))
 (.chk yZ
 (.chk Lv
 (.chk (aL oW (pi 0))
 (.brk ⟨[(16,Lt),(15,Ll),(14,Li),(13,Lh),(11,wz),(10,Lj),(9,oW),(2,Dg),(8,oT)],[]⟩
(CM b)
 (.chk (aL r9 (pi 0))
 (.brk ⟨[(16,Lu),(18,(.ai .quo .u64 qu r9)),(17,qu)],[]⟩
(CN b)
 (.chk (aY r8 (pi 0))
 (.ret (.tup [Ly,Lq]))))))))))))))
 (.ite (ah r0 lF)
 (.chk (aL r2 (pi 0))
 (.ret (.tup [(.ai .quo .u64 r1 r2),(.ai .rem .u64 r1 r2)])))
 (.call ⟨[],[]⟩ [] 35 186 [r2]
 (.chk (aY oT (pi 0))
 (.chk yZ
 (.chk Lv
 (.chk (aL oW (pi 0))
 (.brk ⟨[(16,Lt),(15,Ll),(14,Li),(13,Lh),(11,wz),(10,Lj),(9,oW),(2,Dg),(8,oT)],[]⟩
(CM b)
 (.chk (aL r9 (pi 0))
 (.brk ⟨[(16,Lu),(18,(.ai .quo .u64 qu r9)),(17,qu)],[]⟩
(CN b)
 (.chk (aY r8 (pi 0))
 (.ret (.tup [Ly,Lq])))))))))))))))
 (.ite (bz r2 r0)
 (.chk pF
 (.chk (.nt pT)
 (.ite (ah r0 lF)
 (.chk (aL r2 (pi 0))
 (.ret (.tup [(.ai .quo .u64 r1 r2),(.ai .rem .u64 r1 r2)])))
 (.call ⟨[],[]⟩ [] 35 186 [r2]
 (.chk (aY oT (pi 0))
 (.chk yZ
 (.chk Lv
 (.chk (aL oW (pi 0))
 (.brk ⟨[(16,Lt),(15,Ll),(14,Li),(13,Lh),(11,wz),(10,Lj),(9,oW),(2,Dg),(8,oT)],[]⟩
(CM b)
 (.chk (aL r9 (pi 0))
 (.brk ⟨[(16,Lu),(18,(.ai .quo .u64 qu r9)),(17,qu)],[]⟩
(CN b)
 (.chk (aY r8 (pi 0))
 (.ret (.tup [Ly,Lq]))))))))))))))
 (.ite (ah r0 lF)
 (.chk (aL r2 (pi 0))
 (.ret (.tup [(.ai .quo .u64 r1 r2),(.ai .rem .u64 r1 r2)])))
 (.call ⟨[],[]⟩ [] 35 186 [r2]
 (.chk (aY oT (pi 0))
 (.chk yZ
 (.chk Lv
 (.chk (aL oW (pi 0))
 (.brk ⟨[(16,Lt),(15,Ll),(14,Li),(13,Lh),(11,wz),(10,Lj),(9,oW),(2,Dg),(8,oT)],[]⟩
(CM b)
 (.chk (aL r9 (pi 0))
 (.brk ⟨[(16,Lu),(18,(.ai .quo .u64 qu r9)),(17,qu)],[]⟩
(CN b)
 (.chk (aY r8 (pi 0))
 (.ret (.tup [Ly,Lq]))))))))))))))
def apE (b:Nat→PC):PT×List (Shp×PT):=(My b,[(.lp 0 [15,16,67,68,69,78] [] [15,16] [],Dt b),(.lp 2 [16,18,102,103,104,113] [] [16,18] [],Du b)])
theorem It:Ao.map told=some (apE (au Ao)):=by kernel_rfl
theorem aAe:tree I6=My uI:=ay It
theorem Sl:round 0 [15,16,67,68,69,78] [] [15,16] [] (uI 0)=Dt uI:=bt It 0 fun _=>rfl
theorem Sm:round 2 [16,18,102,103,104,113] [] [16,18] [] (uI 1)=Du uI:=bt It 1 fun _=>rfl
theorem ale:Ao=some I6:=ax It
noncomputable def Fh:Option PC:=aw {ctx with fr:=[2],nh:=[]} Tryz.f186 ((aa ae 186).getD default) []
noncomputable def I7:PC:=av Fh
def TX:PT:=
 (.call ⟨[],[]⟩ [] 4 210 [r0]
 (.ret (bJ (pi 64) r4)))
def apF (b:Nat→PC):PT×List (Shp×PT):=(TX,[])
theorem adm:Fh.map told=some (apF (au Fh)):=by kernel_rfl
theorem aAf:tree I7=TX:=ay adm
theorem alf:Fh=some I7:=ax adm
noncomputable def Fi:Option PC:=aw {ctx with fr:=[2,0],nh:=[]} Tryz.f210 ((aa ae 210).getD default) []
noncomputable def I8:PC:=av Fi
def TY:PT:=
 (.ite (aY r0 jT)
 (.chk yZ
 (.ite (aY rQ (.con (.v (.int .u64 65536))))
 (.chk (aY Lr (pi 0))
 (.ite (aY Dk Lg)
 (.chk (aY nJ (pi 0))
 (.chk (.sok km (.conv .u8 (.ai .shr .u64 Dk nJ)))
 (.ret (aH (aH (aH (pi 32) (pi 16)) (pi 8)) (.conv .i64 (.sidx km (.conv .u8 (.ai .shr .u64 Dk nJ))))))))
 (.chk (.sok km (.conv .u8 Dk))
 (.ret (aH (aH (pi 32) (pi 16)) (.conv .i64 (.sidx km (.conv .u8 Dk))))))))
 (.ite (aY rQ Lg)
 (.chk (aY nJ (pi 0))
 (.chk (.sok km (.conv .u8 (.ai .shr .u64 rQ nJ)))
 (.ret (aH (aH (pi 32) (pi 8)) (.conv .i64 (.sidx km (.conv .u8 (.ai .shr .u64 rQ nJ))))))))
 (.chk (.sok km (.conv .u8 rQ))
 (.ret (aH (pi 32) (.conv .i64 (.sidx km (.conv .u8 rQ)))))))))
 (.ite (aY r0 (.con (.v (.int .u64 65536))))
 (.chk (aY Lr (pi 0))
 (.ite (aY Dc Lg)
 (.chk (aY nJ (pi 0))
 (.chk (.sok km (.conv .u8 (.ai .shr .u64 Dc nJ)))
 (.ret (aH (aH (aH (pi 0) (pi 16)) (pi 8)) (.conv .i64 (.sidx km (.conv .u8 (.ai .shr .u64 Dc nJ))))))))
 (.chk (.sok km (.conv .u8 Dc))
 (.ret (aH (aH (pi 0) (pi 16)) (.conv .i64 (.sidx km (.conv .u8 Dc))))))))
 (.ite (aY r0 Lg)
 (.chk (aY nJ (pi 0))
 (.chk (.sok km (.conv .u8 (.ai .shr .u64 r0 nJ)))
 (.ret (aH (aH (pi 0) (pi 8)) (.conv .i64 (.sidx km (.conv .u8 (.ai .shr .u64 r0 nJ))))))))
 (.chk (.sok km (.conv .u8 r0))
 (.ret (aH (pi 0) (.conv .i64 (.sidx km (.conv .u8 r0)))))))))
def apG (b:Nat→PC):PT×List (Shp×PT):=(TY,[])
theorem adn:Fi.map told=some (apG (au Fi)):=by kernel_rfl
theorem aAg:tree I8=TY:=ay adn
theorem alg:Fi=some I8:=ax adn
noncomputable def E0:Option PC:=aw {ctx with fr:=[12,13,15,17],nh:=[]} Tryz.f92 ((aa ae 92).getD default) [6,7,14,16]
noncomputable def IN:PC:=av E0
def TE:PT:=
 (.chk (aD (pc (.mk [r0]) 3) r2)
 (.chk (aD oU (pc (pn (pc (.mk [r0]) 3) r2) 1))
 (.ite (ah R5 (pc (.mk [r1]) 4))
 (.ret (pi 0))
 (.call ⟨[(13,R5)],[(7,(.mk [r1])),(6,(.mk [r0]))]⟩ [] 39 87 [ko,(pc (.mk [r1]) 4),R5,r4]
 (.call ⟨[(15,(.tget tT 1))],[(14,(.setc z2 0 (.tget tT 0)))]⟩ [] 48 87 [(ao 8 o6),cB,(pc o7 4),r5]
 (.ite (.pick (.nt cm) pT (.nt (.tget jv 1)))
 (.ret (pi 0))
 (.call ⟨[],[]⟩ [] 60 152 [r3,(.mk [(pc bH 0),(pc bH 1)]),(.mk [(pc (.setc z2 0 (.tget jv 0)) 0),(pc (.setc z2 0 (.tget jv 0)) 1)])]
 (.ret wG))))))))
def apk (b:Nat→PC):PT×List (Shp×PT):=(TE,[])
theorem ac4:E0.map told=some (apk (au E0)):=by kernel_rfl
theorem azV:tree IN=TE:=ay ac4
theorem akV:E0=some IN:=ax ac4
noncomputable def E2:Option PC:=aw {ctx with fr:=[6,7,8,9,10,11,12],nh:=[]} Tryz.f152 ((aa ae 152).getD default) [4,5]
noncomputable def IQ:PC:=av E2
def TG:PT:=
 (.ite (aY aeZ R2)
 (.ret (pi 0))
 (.call ⟨[(8,R2)],[]⟩ [] 36 153 [(.conv .u64 r0),(.ai .sub .u64 R2 aeZ)]
 (.call ⟨[],[]⟩ [] 43 154 [(.tget gW 0),(.tget gW 1),r8]
 (.ret (.conv .i64 (.tget rS 0))))))
def apm (b:Nat→PC):PT×List (Shp×PT):=(TG,[])
theorem ac6:E2.map told=some (apm (au E2)):=by kernel_rfl
theorem azX:tree IQ=TG:=ay ac6
theorem akX:E2=some IQ:=ax ac6
noncomputable def FC:Option PC:=aw {ctx with fr:=[4],nh:=[]} Tryz.f38 ((aa ae 38).getD default) [2,3]
noncomputable def Jv:PC:=av FC
def Uj:PT:=
 (.call ⟨[],[(3,(.mk [r1])),(2,(.mk [r0]))]⟩ [] 7 43 [ko,(ao 19 (.mk [r1]))]
 (.call ⟨[(8,r7)],[]⟩ [(8,true)] 10 89 [(ao 8 o2)]
 (.call ⟨[(13,(.pick r8 (ah cP (pi 0)) pF))],[]⟩ [(13,true)] 15 90 [(ao 19 o3)]
 (.call ⟨[(17,(.pick cB cm pF))],[]⟩ [(17,true)] 20 58 [(ao 8 o2),(ao 19 o3)]
 (.ret (.pick kP (ah dG (pi 0)) pF))))))
def ap4 (b:Nat→PC):PT×List (Shp×PT):=(Uj,[])
theorem adF:FC.map told=some (ap4 (au FC)):=by kernel_rfl
theorem aAB:tree Jv=Uj:=ay adF
theorem alG:FC=some Jv:=ax adF
noncomputable def AD:Option PC:=aw {ctx with fr:=[4,5],nh:=[]} Tryz.f43 ((aa ae 43).getD default) [2,3]
noncomputable def JV:PC:=av AD
noncomputable def Nv:Nat→PC:=bx AD
def avX (b:Nat→PC):PC:=.block 0 [4,5,14,15,16,17,18] [] (.loop [4,5] [] (b 0))
def DC (b:Nat→PC):PT:=
 (.ite (aq r5 (.llen (pc o2 4)))
 (.blockS ⟨[],[]⟩ 1 [4,21,22,23,24,25,26,27] []
 (.chk (aD (pc o2 4) r5)
 (.call ⟨[],[]⟩ [] 26 97 [(pn (pc o2 4) r5)]
 (.ite (.nt nM)
 (.ret pF)
 (.next ⟨[],[]⟩))))
 (.next ⟨[(5,(aH r5 (pi 1)))],[]⟩))
 (.exit 0 ⟨[(14,r5),(15,pN),(16,(pc o2 4)),(17,(.llen (pc o2 4))),(18,(aq r5 (.llen (pc o2 4))))],[]⟩))
def UH (b:Nat→PC):PT:=
 (.call ⟨[(4,pF)],[(3,(.mk [r1])),(2,(.mk [r0]))]⟩ [] 7 95 [ko]
 (.call ⟨[(9,(.nt r7))],[]⟩ [(9,false)] 11 96 [(ao 19 o3)]
 (.ite (.pick r9 pT (.nt bp))
 (.ret pF)
 (.brk ⟨[(5,(pi 0))],[]⟩
(avX b)
 (.ret pT)))))
def aqu (b:Nat→PC):PT×List (Shp×PT):=(UH b,[(.lp 0 [4,5,14,15,16,17,18] [] [4,5] [],DC b)])
theorem Rf:AD.map told=some (aqu (au AD)):=by kernel_rfl
theorem aA0:tree JV=UH Nv:=ay Rf
theorem Sw:round 0 [4,5,14,15,16,17,18] [] [4,5] [] (Nv 0)=DC Nv:=bt Rf 0 fun _=>rfl
theorem al8:AD=some JV:=ax Rf
noncomputable def Az:Option PC:=aw {ctx with fr:=[2,3,4],nh:=[]} Tryz.f95 ((aa ae 95).getD default) [1]
noncomputable def JP:PC:=av Az
noncomputable def zY:Nat→PC:=bx Az
def avT (b:Nat→PC):PC:=.block 0 [2,3,5,6,7,8,9,10,13] [] (.loop [2,3] [] (b 0))
def avU (b:Nat→PC):PC:=.block 2 [2,4,44,45,46,47,48,49,52] [] (.loop [2,4] [] (b 1))
def wK (b:Nat→PC):PT:=
 (.ite (.pick (aq r3 tP) (aq r3 (pi 50)) pF)
 (.chk (aD (pc o1 1) r3)
 (.chk (.nt (.an (.an (.nt (bj (.llen (pc (pn (pc o1 1) r3) 4)) (pi 70))) pT) (.nt (aD (pc o1 1) r3))))
 (.chk (.nt (.an (.an (.nt aff) pT) (.nt (aD (pc o1 1) r3))))
 (.ite (.pick aff pT (bj (.llen (pc (pn (pc o1 1) r3) 3)) (pi 8)))
 (.ret pF)
 (.next ⟨[(3,(aH r3 (pi 1)))],[]⟩)))))
 (.exit 0 ⟨[(5,r3),(6,pN),(7,(pc o1 1)),(8,tP),(9,(aq r3 tP)),(10,(aq r3 tP)),(13,(.pick (aq r3 tP) (aq r3 (pi 50)) pF))],[]⟩))
def zf (b:Nat→PC):PT:=
 (.ite (.pick (aq r4 tO) (aq r4 (pi 50)) pF)
 (.chk (aD (pc o1 4) r4)
 (.chk (.nt (.an (.an (.nt (bj (.llen (pc (pn (pc o1 4) r4) 2)) (pi 40))) pT) (.nt (aD (pc o1 4) r4))))
 (.ite (.pick (bj (.llen (pc (pn (pc o1 4) r4) 2)) (pi 40)) pT (bj (.llen (pc (pn (pc o1 4) r4) 3)) (pi 40)))
 (.ret pF)
 (.next ⟨[(4,(aH r4 (pi 1)))],[]⟩))))
 (.exit 2 ⟨[(44,r4),(45,pN),(46,(pc o1 4)),(47,tO),(48,(aq r4 tO)),(49,(aq r4 tO)),(52,(.pick (aq r4 tO) (aq r4 (pi 50)) pF))],[]⟩))
def UC (b:Nat→PC):PT:=
 (.brk ⟨[(3,(pi 0)),(2,pF)],[(1,(.mk [r0]))]⟩
(avT b)
 (.brk ⟨[(4,(pi 0))],[]⟩
(avU b)
 (.ret (.pick (.pick (.pick (.pick (.pick (.pick (.pick (aq (.llen (pc o1 0)) (pi 50)) (aq tP (pi 50)) pF) (aq (.llen (pc o1 2)) (pi 50)) pF) (aq y3 (pi 210)) pF) (aq tO (pi 50)) pF) (aq (.llen (pc o1 5)) (pi 110)) pF) (aq (.llen (pc o1 6)) (pi 110)) pF) (aq (.llen (pc o1 7)) (pi 50)) pF))))
def aqo (b:Nat→PC):PT×List (Shp×PT):=(UC b,[(.lp 0 [2,3,5,6,7,8,9,10,13] [] [2,3] [],wK b),(.lp 2 [2,4,44,45,46,47,48,49,52] [] [2,4] [],zf b)])
theorem Iv:Az.map told=some (aqo (au Az)):=by kernel_rfl
theorem aAV:tree JP=UC zY:=ay Iv
theorem Dz:round 0 [2,3,5,6,7,8,9,10,13] [] [2,3] [] (zY 0)=wK zY:=bt Iv 0 fun _=>rfl
theorem LQ:round 2 [2,4,44,45,46,47,48,49,52] [] [2,4] [] (zY 1)=zf zY:=bt Iv 1 fun _=>rfl
theorem al0:Az=some JP:=ax Iv
noncomputable def FU:Option PC:=aw {ctx with fr:=[2],nh:=[]} Tryz.f96 ((aa ae 96).getD default) [1]
noncomputable def JR:PC:=av FU
def UE:PT:=
 (.ret (.pick (.pick (.pick (bz (.llen nK) (pi 50)) (bz (.llen (pc (.mk [r0]) 16)) (pi 10)) pF) (bz (.llen (pc (.mk [r0]) 17)) (pi 110)) pF) (bz (.llen y0) (pi 220)) pF))
def aqq (b:Nat→PC):PT×List (Shp×PT):=(UE,[])
theorem adV:FU.map told=some (aqq (au FU)):=by kernel_rfl
theorem aAX:tree JR=UE:=ay adV
theorem al4:FU=some JR:=ax adV
noncomputable def AB:Option PC:=aw {ctx with fr:=[2,3],nh:=[]} Tryz.f97 ((aa ae 97).getD default) [1]
noncomputable def JU:PC:=av AB
noncomputable def Nu:Nat→PC:=bx AB
def avW (b:Nat→PC):PC:=.block 0 [2,3,14,15,16,17,18] [] (.loop [2,3] [] (b 0))
def DB (b:Nat→PC):PT:=
 (.ite (aq r3 y3)
 (.blockS ⟨[],[]⟩ 1 [2,21,22,23,24,25,26,27,28] []
 (.chk (aD (pc o1 3) r3)
 (.call ⟨[],[]⟩ [] 27 155 [(.sub (pn (pc o1 3) r3) 1 3)]
 (.ite (.nt eG)
 (.ret pF)
 (.next ⟨[],[]⟩))))
 (.next ⟨[(3,(aH r3 (pi 1)))],[]⟩))
 (.exit 0 ⟨[(14,r3),(15,pN),(16,(pc o1 3)),(17,y3),(18,(aq r3 y3))],[]⟩))
def UG (b:Nat→PC):PT:=
 (.ite (.pick (bj (.llen (pc (.mk [r0]) 3)) (pi 60)) pT (bj qv (pi 60)))
 (.ret pF)
 (.brk ⟨[(3,(pi 0)),(2,pF)],[(1,(.mk [r0]))]⟩
(avW b)
 (.ret pT)))
def aqt (b:Nat→PC):PT×List (Shp×PT):=(UG b,[(.lp 0 [2,3,14,15,16,17,18] [] [2,3] [],DB b)])
theorem Re:AB.map told=some (aqt (au AB)):=by kernel_rfl
theorem aAZ:tree JU=UG Nu:=ay Re
theorem Sv:round 0 [2,3,14,15,16,17,18] [] [2,3] [] (Nu 0)=DB Nu:=bt Re 0 fun _=>rfl
theorem al7:AB=some JU:=ax Re
noncomputable def FV:Option PC:=aw {ctx with fr:=[2],nh:=[]} Tryz.f155 ((aa ae 155).getD default) [1]
noncomputable def JS:PC:=av FV
def UF:PT:=
 (.call ⟨[],[]⟩ [] 4 187 [(.mk [lH,oU,wy]),(pi 100),(pi 20)]
 (.ret (aY r4 (pi 0))))
def aqr (b:Nat→PC):PT×List (Shp×PT):=(UF,[])
theorem adW:FV.map told=some (aqr (au FV)):=by kernel_rfl
theorem aAY:tree JS=UF:=ay adW
theorem al5:FV=some JS:=ax adW
noncomputable def AA:Option PC:=aw {ctx with fr:=[6,1,7],nh:=[]} Tryz.f187 ((aa ae 187).getD default) [3]
noncomputable def JT:PC:=av AA
noncomputable def Nt:Nat→PC:=bx AA
def avV (b:Nat→PC):PC:=.block 0 [1,7,12,13,14,15,16,17,20] [] (.loop [1,7] [] (b 0))
def DA (b:Nat→PC):PT:=
 (.ite (.pick (aq r7 nL) (aY r1 (pi 0)) pF)
 (.blockS ⟨[],[]⟩ 1 [1,23,24,25,26,27,28,29,30,31] []
 (.chk (aD (pc o3 2) r7)
 (.call ⟨[],[]⟩ [] 31 187 [(pn (pc o3 2) r7),r1,(bJ r2 (pi 1))]
 (.next ⟨[(1,oX)],[]⟩)))
 (.next ⟨[(7,(aH r7 (pi 1)))],[]⟩))
 (.exit 0 ⟨[(12,r7),(13,pN),(14,(pc o3 2)),(15,nL),(16,(aq r7 nL)),(17,(aq r7 nL)),(20,(.pick (aq r7 nL) (aY r1 (pi 0)) pF))],[]⟩))
def ME (b:Nat→PC):PT:=
 (.ite (aq r2 (pi 1))
 (.ret (pi (-1)))
 (.brk ⟨[(7,(pi 0)),(1,(bJ r1 (pi 1)))],[(3,(.mk [r0]))]⟩
(avV b)
 (.ret r1)))
def aqs (b:Nat→PC):PT×List (Shp×PT):=(ME b,[(.lp 0 [1,7,12,13,14,15,16,17,20] [] [1,7] [],DA b)])
theorem Rd:AA.map told=some (aqs (au AA)):=by kernel_rfl
theorem agJ:tree JT=ME Nt:=ay Rd
theorem Su:round 0 [1,7,12,13,14,15,16,17,20] [] [1,7] [] (Nt 0)=DA Nt:=bt Rd 0 fun _=>rfl
theorem al6:AA=some JT:=ax Rd
noncomputable def FT:Option PC:=aw {ctx with fr:=[2],nh:=[]} Tryz.f90 ((aa ae 90).getD default) [1]
noncomputable def JQ:PC:=av FT
def UD:PT:=
 (.ret (.pick (.pick (.pick (bz (.llen nK) (pi 42)) (bz (.llen (pc (.mk [r0]) 16)) (pi 6)) pF) (bz (.llen (pc (.mk [r0]) 17)) (pi 102)) pF) (bz (.llen y0) (pi 202)) pF))
def aqp (b:Nat→PC):PT×List (Shp×PT):=(UD,[])
theorem adU:FT.map told=some (aqp (au FT)):=by kernel_rfl
theorem aAW:tree JQ=UD:=ay adU
theorem al3:FT=some JQ:=ax adU
noncomputable def Au:Option PC:=aw {ctx with fr:=[4,5,6,7,8,11],nh:=[]} Tryz.f58 ((aa ae 58).getD default) [2,3,10]
noncomputable def JF:PC:=av Au
noncomputable def zX:Nat→PC:=bx Au
def avN (b:Nat→PC):PC:=.block 0 [4,48,49] [] (.loop [4,48] [] (b 0))
def avO (b:Nat→PC):PC:=.block 2 [4,8,62,63] [] (.loop [4,8,62] [] (b 1))
def Dx (b:Nat→PC):PT:=
 (.ite (aq jv za)
 (.blockS ⟨[],[]⟩ 1 [4,6,7,50,51,52,53,54,55,56] []
 (.call ⟨[],[]⟩ [] 54 113 [(ao 8 o2),(ao 19 o3),jv]
 (.ite (aL qA (pi 0))
 (.ret qA)
 (.next ⟨[],[]⟩)))
 (.next ⟨[(48,(aH jv (pi 1)))],[]⟩))
 (.exit 0 ⟨[(49,(aq jv za))],[]⟩))
def Dy (b:Nat→PC):PT:=
 (.ite (aq pf Sd)
 (.blockS ⟨[],[]⟩ 3 [4,8,10,64,65,66,67,68,69,70,71,72,73,74,75,76,77,78,79,80] [10]
 (.chk (aD wG pf)
 (.call ⟨[],[(10,(.setc z2 0 (pn wG pf)))]⟩ [] 73 114 [(pc (.setc z2 0 (pn wG pf)) 0),tQ,(.llen (pc o3 15))]
 (.ite (.nt Dn)
 (.ret (pi 1))
 (.call ⟨[],[]⟩ [] 77 114 [(pc bQ 1),(pi 1),lG]
 (.ite (.nt r77)
 (.ret (pi 3))
 (.next ⟨[(8,(pc bQ 0))],[]⟩))))))
 (.next ⟨[(62,(aH pf (pi 1)))],[]⟩))
 (.exit 2 ⟨[(63,(aq pf Sd))],[]⟩))
def Ut (b:Nat→PC):PT:=
 (.ite (.pick (.pick (.pick (bj (.llen (pc (.mk [r1]) 15)) (pi 40)) pT (bj (.llen (pc (.mk [r1]) 16)) (pi 4))) pT (bj (.llen (pc (.mk [r1]) 17)) (pi 100))) pT (bj (.llen (pc (.mk [r1]) 18)) (pi 200)))
 (.ret (pi 6))
 (.call ⟨[(4,(pi 0))],[(3,(.mk [r1])),(2,(.mk [r0]))]⟩ [] 37 112 [ko,(ao 15 (.mk [r1]))]
 (.ite (aL kQ (pi 0))
 (.ret kQ)
 (.ite (ah (.llen (pc o3 15)) (pi 0))
 (.ret (pi 14))
 (.brk ⟨[(48,(pi 0)),(47,(.llen (pc o3 15)))],[]⟩
(avN b)
 (.brk ⟨[(62,(pi 0)),(61,(.llen (pc o3 16))),(60,(pc o3 16)),(8,(pi 0))],[]⟩
(avO b)
 (.call ⟨[],[]⟩ [] 84 115 [(ao 8 o2),(ao 19 o3)]
 (.ite (aL r84 (pi 0))
 (.ret r84)
 (.call ⟨[],[]⟩ [] 89 116 [(ao 19 o3)]
 (.ret r89))))))))))
def aqe (b:Nat→PC):PT×List (Shp×PT):=(Ut b,[(.lp 0 [4,48,49] [] [4,48] [],Dx b),(.lp 2 [4,8,62,63] [] [4,8,62] [],Dy b)])
theorem Iu:Au.map told=some (aqe (au Au)):=by kernel_rfl
theorem aAL:tree JF=Ut zX:=ay Iu
theorem Sr:round 0 [4,48,49] [] [4,48] [] (zX 0)=Dx zX:=bt Iu 0 fun _=>rfl
theorem Ss:round 2 [4,8,62,63] [] [4,8,62] [] (zX 1)=Dy zX:=bt Iu 1 fun _=>rfl
theorem alQ:Au=some JF:=ax Iu
noncomputable def Gx:Option PC:=aw {ctx with fr:=[4,5,6,7,8,54,80,109,118,9,10],nh:=[]} Tryz.f112 ((aa ae 112).getD default) [2,3]
noncomputable def KZ:PC:=av Gx
def VE:PT:=
 (.call ⟨[],[(3,(.mk [r1])),(2,(.mk [r0]))]⟩ [] 12 89 [ko]
 (.ite (aL cn (pi 0))
 (.ret cn)
 (.call ⟨[(7,(.llen (pc o2 1))),(6,(.llen (pc o2 3)))],[]⟩ [] 25 161 [(pc o3 0),(.llen (pc o2 3))]
 (.call ⟨[(26,iL)],[]⟩ [(26,true)] 30 161 [(pc o3 1),r6]
 (.call ⟨[(36,(ah (pc o3 2) (pi (-1)))),(32,(.pick nM mS pF))],[]⟩ [(36,false),(32,true)] 40 161 [(pc o3 2),r6]
 (.call ⟨[(47,(ah (pc o3 11) (pi (-1)))),(43,(.pick y9 (.pick gW pT rR) pF))],[]⟩ [(47,false),(43,true)] 51 161 [(pc o3 11),r6]
 (.blockS ⟨[(8,(.pick rS (.pick za pT oY) pF))],[]⟩ 0 [4,54,55,56,57,65,66,72,73,79,80,81,82,83,84,88,89,93,94,98,99,103,104,108,109,110,111,112,113,117,118,119,120,121,122,126,127,137,138,142] []
 (.call ⟨[(57,(.nt r8))],[]⟩ [(57,false)] 63 161 [(pc o3 4),(.llen (pc o2 0))]
 (.call ⟨[(66,(.pick tV pT (.nt LF)))],[]⟩ [(66,false)] 70 161 [(pc o3 9),r7]
 (.call ⟨[(73,(.pick r66 pT (.nt r70)))],[]⟩ [(73,false)] 77 161 [(pc o3 10),r7]
 (.iteS ⟨[],[]⟩ (.pick Dn pT (.nt r77)) [4,80,81,82,83,84,88,89,93,94,98,99,103,104,108,109,110,111,112,113,117,118,119,120,121,122,126,127,137,138,142] []
 (.ret (pi 1))
 (.iteS ⟨[],[]⟩ (.pick (.pick (.pick (.pick (.pick (aq (pc o3 3) (pi 1)) pT (bj (pc o3 3) lG)) pT (aq (pc o3 8) (pi 0))) pT (bj (pc o3 8) (pi 100000))) pT (aq (pc o3 12) (pi 0))) pT (bj (pc o3 12) (pi 1000))) [4,109,110,111,112,113,117,118,119,120,121,122,126,127,137,138,142] []
 (.ret (pi 3))
 (.iteS ⟨[],[]⟩ (.pick (aq (pc o3 14) (pi 1)) pT (bj (pc o3 14) (pi 4))) [4,118,119,120,121,122,126,127,137,138,142] []
 (.ret (pi 15))
 (.call ⟨[(138,(.pick (.pick (aq (pc o3 13) (pi 0)) pT (bj (pc o3 13) (pi 7))) pT (.pick (aL (.ai .and .i64 (pc o3 13) (pi 4)) (pi 0)) (ah (pc o3 2) (pi (-1))) pF)))],[]⟩ [(138,false)] 140 162 [(ao 15 o3)]
 (.ite (.pick (.r 138) pT (.nt (.r 140)))
 (.ret (pi 2))
 (.next ⟨[],[]⟩)))
 (.next ⟨[],[]⟩))
 (.next ⟨[],[]⟩))
 (.next ⟨[],[]⟩)))))
 (.iteS ⟨[],[]⟩ (ah (pc o3 5) (pi 4)) [4] []
 (.call ⟨[],[]⟩ [] 153 163 [(ao 8 o2),(pc o3 9),(pc o3 10)]
 (.ret (.tget (.r 153) 1)))
 (.next ⟨[],[]⟩)
 (.ret (pi 0))))))))))
def arA (b:Nat→PC):PT×List (Shp×PT):=(VE,[])
theorem aew:Gx.map told=some (arA (au Gx)):=by kernel_rfl
theorem aBX:tree KZ=VE:=ay aew
theorem ana:Gx=some KZ:=ax aew
noncomputable def Gy:Option PC:=aw {ctx with fr:=[4],nh:=[]} Tryz.f161 ((aa ae 161).getD default) []
noncomputable def K0:PC:=av Gy
def VF:PT:=
 (.ret RR)
def arB (b:Nat→PC):PT×List (Shp×PT):=(VF,[])
theorem aex:Gy.map told=some (arB (au Gy)):=by kernel_rfl
theorem aBY:tree K0=VF:=ay aex
theorem anb:Gy=some K0:=ax aex
noncomputable def Gz:Option PC:=aw {ctx with fr:=[2,8,19,40],nh:=[]} Tryz.f162 ((aa ae 162).getD default) [1,3]
noncomputable def K1:PC:=av Gz
def VG:PT:=
 (.ite (.pick (ah (pc kl 0) (pi 0)) (ah (pc kl 0) (pi 0)) (ah (pc kl 0) (pi 4)))
 (.ret (.pick (ah (pc kl 1) (pi 0)) (ah (pc kl 2) (pi 0)) pF))
 (.ite (.pick (ah (pc kl 0) (pi 1)) (ah (pc kl 0) (pi 1)) (ah (pc kl 0) (pi 2)))
 (.ret (.pick (.pick (aY (pc kl 1) (pi 1)) (bz (pc kl 1) (pi 400)) pF) (.pick (ah (pc kl 2) (pi 0)) pT (ah (pc kl 2) (pi 1))) pF))
 (.ite (ah (pc kl 0) (pi 3))
 (.ret (.pick (.pick (aY (pc kl 1) (pc (.mk [r0]) 8)) (bz (pc kl 1) (pi 100000)) pF) (ah (pc kl 2) (pi 0)) pF))
 (.ret pF))))
def arC (b:Nat→PC):PT×List (Shp×PT):=(VG,[])
theorem aey:Gz.map told=some (arC (au Gz)):=by kernel_rfl
theorem aBZ:tree K1=VG:=ay aey
theorem anc:Gz=some K1:=ax aey
noncomputable def Ay:Option PC:=aw {ctx with fr:=[6,8,9,76,92,98],nh:=[]} Tryz.f113 ((aa ae 113).getD default) [3,4,7,11]
noncomputable def JN:PC:=av Ay
noncomputable def Ns:Nat→PC:=bx Ay
def avS (b:Nat→PC):PC:=.block 0 [8,9,51,52] [] (.loop [8,9,51] [] (b 0))
def LP (b:Nat→PC):PT:=
 (.ite (aq oY lJ)
 (.chk (aD qz oY)
 (.next ⟨[(8,(pc (.setc z9 0 (pn qz oY)) 6)),(9,(.pick r9 pT (.pick (.pick (ah (pc o7 0) (pi 1)) (ah (pc (.setc z9 0 (pn qz oY)) 0) (pi 1)) pF) (ah (pc (.setc z9 0 (pn qz oY)) 1) (pc o7 1)) pF))),(51,(aH oY (pi 1)))],[]⟩))
 (.exit 0 ⟨[(52,(aq oY lJ))],[]⟩))
def UB (b:Nat→PC):PT:=
 (.chk (aD (pc (.mk [r1]) 15) r2)
 (.call ⟨[],[(7,nI),(4,(.mk [r1])),(3,(.mk [r0]))]⟩ [] 23 114 [(pc nI 1),(pi 0),(bJ (pc (.mk [r1]) 14) (pi 1))]
 (.ite (.nt fF)
 (.ret (pi 15))
 (.call ⟨[],[]⟩ [] 31 114 [(pc o7 2),(pi 0),Lf]
 (.call ⟨[(33,(.nt oX))],[]⟩ [(33,false)] 40 114 [(pc o7 7),(pi 0),(bJ (.llen (pc o3 1)) (pi 1))]
 (.ite (.pick tS pT (.nt rR))
 (.ret (pi 1))
 (.chk (.slok (pc o4 15) (pi 0) r2)
 (.brk ⟨[(51,(pi 0)),(50,(.llen (.slc (pc o4 15) (pi 0) r2))),(49,(.slc (pc o4 15) (pi 0) r2)),(9,pF),(8,(pc o4 8))],[]⟩
(avS b)
 (.blockS ⟨[],[]⟩ 2 [6,76,77,78,79,80,81,82,91,92,93,94,95,96,97,98,99] []
 (.call ⟨[],[]⟩ [] 80 114 [(pc o7 6),r8,(pi 100000)]
 (.iteS ⟨[],[]⟩ (.pick (.nt wI) pT (.pick (ah r2 (pi 0)) (aL (pc o7 6) r8) pF)) [6,92,93,94,95,96,97,98,99] []
 (.ret (pi 13))
 (.call ⟨[],[]⟩ [] 96 164 [(ao 8 o3),(ao 19 o4),r2]
 (.ite (.nt r96)
 (.ret (pi 14))
 (.ite r9
 (.ret (pi 5))
 (.next ⟨[],[]⟩))))
 (.next ⟨[],[]⟩)))
 (.ret (pi 0)))))))))))
def aqm (b:Nat→PC):PT×List (Shp×PT):=(UB b,[(.lp 0 [8,9,51,52] [] [8,9,51] [],LP b)])
theorem Rc:Ay.map told=some (aqm (au Ay)):=by kernel_rfl
theorem aAT:tree JN=UB Ns:=ay Rc
theorem afM:round 0 [8,9,51,52] [] [8,9,51] [] (Ns 0)=LP Ns:=bt Rc 0 fun _=>rfl
theorem alY:Ay=some JN:=ax Rc
noncomputable def FP:Option PC:=aw {ctx with fr:=[6],nh:=[]} Tryz.f114 ((aa ae 114).getD default) []
noncomputable def JM:PC:=av FP
def UA:PT:=
 (.ret (.pick (aY r0 r1) (bz r0 r2) pF))
def aql (b:Nat→PC):PT×List (Shp×PT):=(UA,[])
theorem adS:FP.map told=some (aql (au FP)):=by kernel_rfl
theorem aAS:tree JM=UA:=ay adS
theorem alX:FP=some JM:=ax adS
noncomputable def FO:Option PC:=aw {ctx with fr:=[6,9,10,66,103,113,11,140,149],nh:=[]} Tryz.f164 ((aa ae 164).getD default) [3,4,7,8]
noncomputable def JL:PC:=av FO
def Uz:PT:=
 (.chk (aD (pc (.mk [r1]) 15) r2)
 (.ite (.pick (.cb .neq (ah r2 (pi 0)) (ah (pc nI 0) (pi 0))) pT (.pick (aL (pc nI 0) (pi 2)) (aL (pc nI 4) (pi (-1))) pF))
 (.ret pF)
 (.ite (.pick (.pick (aL (pc nI 0) (pi 3)) (aL (pc nI 0) (pi 4)) pF) (aL (pc nI 3) (pi (-1))) pF)
 (.ret pF)
 (.call ⟨[(9,(.pick (ah (pc nI 5) (pi 0)) (ah (pc nI 8) (pi 0)) pF))],[(8,(.setc MS 0 (ao 15 (.mk [r1])))),(7,nI),(4,(.mk [r1])),(3,(.mk [r0]))]⟩ [] 58 114 [(pc nI 5),(pi 1),lG]
 (.blockS ⟨[(65,(pc o7 0)),(10,(.pick rT (ah (pc o7 8) (pi 0)) pF))],[]⟩ 0 [6,66,67,103,104,113,114,140,141,149,150] []
 (.iteS ⟨[],[]⟩ (ah zc (pi 0)) [6,103,104,113,114,140,141,149,150] []
 (.ret (.pick (.pick (.pick (.pick (.pick (ah (pc o7 2) (pc o8 0)) (ah (pc o7 5) (pi 0)) pF) (ah (.ai .or .i64 (pc o7 8) (pi 1)) (pi 1)) pF) (ah (pc o7 1) (pi 0)) pF) (ah (pc o7 6) (pc o8 8)) pF) (ah (pc o7 7) (pc o8 9)) pF))
 (.iteS ⟨[],[]⟩ (ah zc (pi 1)) [6,113,114,140,141,149,150] []
 (.ret (.pick (ah (pc o7 2) (pc o8 1)) cP pF))
 (.iteS ⟨[],[]⟩ (ah zc (pi 2)) [6,140,141,149,150] []
 (.call ⟨[(11,(pi 6))],[]⟩ [] 121 114 [(pc o7 4),(pi (-1)),Lf]
 (.call ⟨[(127,(.pick ayo (ah (pc o7 5) (pi 0)) pF))],[]⟩ [(127,true)] 130 114 [(pc o7 8),(pi 0),(pi 7)]
 (.ret (.pick (.pick ayp (.r 130) pF) (aL (.ai .and .i64 (pc o7 8) bp) bp) pF))))
 (.iteS ⟨[],[]⟩ (ah zc (pi 3)) [6,149,150] []
 (.call ⟨[(143,r9)],[]⟩ [(143,true)] 147 191 [(ao 19 o4),r2,(.lst [(pi 0),(pi 1),(pi 2),(pi 4)])]
 (.ret (.pick (.r 143) (.r 147) pF)))
 (.iteS ⟨[],[]⟩ (ah zc (pi 4)) [6] []
 (.call ⟨[(159,(.pick cP (aL (pc o7 2) (pc o8 1)) pF))],[]⟩ [(159,true)] 163 191 [(ao 19 o4),r2,(.lst [(pi 0),(pi 2)])]
 (.ret (.pick (.r 159) (.r 163) pF)))
 (.next ⟨[],[]⟩)
 (.next ⟨[],[]⟩))
 (.next ⟨[],[]⟩))
 (.next ⟨[],[]⟩))
 (.next ⟨[],[]⟩))
 (.next ⟨[],[]⟩))
 (.ret pF))))))
def aqk (b:Nat→PC):PT×List (Shp×PT):=(Uz,[])
theorem adR:FO.map told=some (aqk (au FO)):=by kernel_rfl
theorem aAR:tree JL=Uz:=ay adR
theorem alW:FO=some JL:=ax adR
noncomputable def FN:Option PC:=aw {ctx with fr:=[6,7],nh:=[]} Tryz.f191 ((aa ae 191).getD default) [3]
noncomputable def JJ:PC:=av FN
def Ux:PT:=
 (.chk (aD nK r1)
 (.call ⟨[(7,(pc (pn nK r1) 3))],[(3,(.mk [r0]))]⟩ [] 17 114 [(pc (pn nK r1) 3),(pi 0),(bJ r1 (pi 1))]
 (.chk (.nt (.an (.an kP pT) (.nt (aD (pc o3 15) r1))))
 (.call ⟨[(18,kP)],[]⟩ [(18,true)] 27 192 [(ao 19 o3),r7,(pc (pn (pc o3 15) r1) 1)]
 (.chk (.nt (.an (.an (.pick cT eG pF) pT) (.nt (aD (pc o3 15) r7))))
 (.call ⟨[(29,(.pick cT eG pF))],[]⟩ [(29,true)] 37 45 [r2,(pc (pn (pc o3 15) r7) 0)]
 (.ret (.pick qx kQ pF))))))))
def aqi (b:Nat→PC):PT×List (Shp×PT):=(Ux,[])
theorem adQ:FN.map told=some (aqi (au FN)):=by kernel_rfl
theorem aAP:tree JJ=Ux:=ay adQ
theorem alU:FN=some JJ:=ax adQ
noncomputable def FQ:Option PC:=aw {ctx with fr:=[6],nh:=[]} Tryz.f192 ((aa ae 192).getD default) [3]
noncomputable def JO:PC:=av FQ
def MD:PT:=
 (.chk (.nt (.an (.an (.nt (ah r1 (pi 0))) pT) (.nt (aD nK r1))))
 (.ret (.pick (ah r1 (pi 0)) pT (ah (pc (pn nK r1) 1) r2))))
def aqn (b:Nat→PC):PT×List (Shp×PT):=(MD,[])
theorem adT:FQ.map told=some (aqn (au FQ)):=by kernel_rfl
theorem aAU:tree JO=MD:=ay adT
theorem alZ:FQ=some JO:=ax adT
noncomputable def Aw:Option PC:=aw {ctx with fr:=[4,5,7],nh:=[]} Tryz.f115 ((aa ae 115).getD default) [2,3,6]
noncomputable def JI:PC:=av Aw
noncomputable def Nq:Nat→PC:=bx Aw
def avQ (b:Nat→PC):PC:=.block 0 [4,11,12] [] (.loop [4,11] [] (b 0))
def LN (b:Nat→PC):PT:=
 (.ite (aq bp cP)
 (.blockS ⟨[],[]⟩ 1 [4,5,6,7,13,14,15,16,17,18,19,20,21,22,23,24,25,26,27,28,29,30,31,32,37,38,39,40,41,42,43,44,45,46,47,48,58,59,69,70,71,72,73] [6]
 (.chk (aD r9 bp)
 (.call ⟨[(5,bp)],[(6,(.setc z9 0 (pn r9 bp)))]⟩ [] 22 114 [(pc (.setc z9 0 (pn r9 bp)) 3),(pi 0),(bJ (pc o3 14) (pi 1))]
 (.ite (.nt y8)
 (.ret (pi 15))
 (.call ⟨[],[]⟩ [] 30 114 [(pc o6 7),(pi 0),(bJ (.llen (pc o2 1)) (pi 1))]
 (.call ⟨[(32,(.nt mS))],[]⟩ [(32,false)] 35 114 [(pc o6 0),(pi 0),(pi 9)]
 (.ite (.pick y9 pT (.nt nN))
 (.ret (pi 1))
 (.call ⟨[],[]⟩ [] 41 165 [(ao 8 o2),(ao 19 o3),(ao 9 o6)]
 (.ite (.nt lI)
 (.ret (pi 14))
 (.ite (aL (pc o6 4) (pi (-1)))
 (.chk (aD (pc o3 15) (pc o6 4))
 (.ite (bj r5 (pi 0))
 (.chk (aD (pc o3 17) (bJ r5 (pi 1)))
 (.call ⟨[],[]⟩ [] 72 114 [(pc o6 6),(.mx (.mx (pc o3 8) (pc (pn (pc o3 15) (pc o6 4)) 6)) (pc (pn (pc o3 17) (bJ r5 (pi 1))) 6)),(pi 100000)]
 (.ite (.nt LG)
 (.ret (pi 13))
 (.next ⟨[],[]⟩))))
 (.call ⟨[],[]⟩ [] 72 114 [(pc o6 6),(.mx (pc o3 8) (pc (pn (pc o3 15) (pc o6 4)) 6)),(pi 100000)]
 (.ite (.nt LG)
 (.ret (pi 13))
 (.next ⟨[],[]⟩)))))
 (.ite (bj r5 (pi 0))
 (.chk (aD (pc o3 17) (bJ r5 (pi 1)))
 (.call ⟨[],[]⟩ [] 72 114 [(pc o6 6),(.mx (pc o3 8) (pc (pn (pc o3 17) (bJ r5 (pi 1))) 6)),(pi 100000)]
 (.ite (.nt LG)
 (.ret (pi 13))
 (.next ⟨[],[]⟩))))
 (.call ⟨[],[]⟩ [] 72 114 [(pc o6 6),(pc o3 8),(pi 100000)]
 (.ite (.nt LG)
 (.ret (pi 13))
 (.next ⟨[],[]⟩)))))))))))))
 (.next ⟨[(11,(aH bp (pi 1)))],[]⟩))
 (.exit 0 ⟨[(12,(aq bp cP))],[]⟩))
def Uw (b:Nat→PC):PT:=
 (.brk ⟨[(11,(pi 0)),(10,(.llen (pc (.mk [r1]) 17))),(9,(pc (.mk [r1]) 17)),(4,(pi 0))],[(3,(.mk [r1])),(2,(.mk [r0]))]⟩
(avQ b)
 (.ret (pi 0)))
def aqh (b:Nat→PC):PT×List (Shp×PT):=(Uw b,[(.lp 0 [4,11,12] [] [4,11] [],LN b)])
theorem Ra:Aw.map told=some (aqh (au Aw)):=by kernel_rfl
theorem aAO:tree JI=Uw Nq:=ay Ra
theorem afK:round 0 [4,11,12] [] [4,11] [] (Nq 0)=LN Nq:=bt Ra 0 fun _=>rfl
theorem alT:Aw=some JI:=ax Ra
noncomputable def FM:Option PC:=aw {ctx with fr:=[6,7,8,9,65,80,100,111],nh:=[]} Tryz.f165 ((aa ae 165).getD default) [3,4,5]
noncomputable def JH:PC:=av FM
def Uv:PT:=
 (.call ⟨[],[(5,(.mk [r2])),(4,(.mk [r1])),(3,(.mk [r0]))]⟩ [] 16 114 [(pc (.mk [r2]) 4),(pi 0),(bJ (.llen (pc (.mk [r1]) 15)) (pi 1))]
 (.call ⟨[(17,cQ)],[]⟩ [(17,true)] 23 192 [(ao 19 o4),(pc o5 4),(pc o5 3)]
 (.chk (.nt (.an (.an (.pick kP fF pF) pT) (.nt (aD (pc o4 15) (pc o5 4)))))
 (.call ⟨[(8,(.pick (.pick kP fF pF) (ah (pc (pn (pc o4 15) (pc o5 4)) 2) (pc o5 1)) pF)),(7,(.pick kP fF pF))],[]⟩ [] 44 114 [(pc o5 2),(pi 0),Lf]
 (.call ⟨[(9,wF)],[]⟩ [] 51 114 [(pc o5 1),(pi 0),Lf]
 (.ite (.pick (.nt oY) pT (.pick (aL (pc o5 0) (pi 4)) (aL (pc o5 8) (pi 0)) pF))
 (.ret pF)
 (.blockS ⟨[(64,(pc o5 0))],[]⟩ 0 [6,65,66,80,81,100,101,111,112] []
 (.iteS ⟨[],[]⟩ (.pick (ah nO (pi 0)) (ah nO (pi 0)) (.pick (ah nO (pi 1)) (ah nO (pi 1)) (ah nO (pi 2)))) [6,80,81,100,101,111,112] []
 (.ret (.pick (.pick r9 (ah (pc o5 4) (pi (-1))) pF) (ah (pc o5 5) (pi 0)) pF))
 (.iteS ⟨[],[]⟩ (.pick (ah nO (pi 3)) (ah nO (pi 3)) (.pick (ah nO (pi 5)) (ah nO (pi 5)) (ah nO (pi 4)))) [6,100,101,111,112] []
 (.call ⟨[(90,(.pick r9 (ah (pc o5 4) (pi (-1))) pF))],[]⟩ [(90,true)] 93 114 [(pc o5 5),(pi 0),lG]
 (.call ⟨[(95,(.pick r90 Si pF))],[]⟩ [(95,true)] 98 114 [(pc o5 8),(pi 0),(pi 1)]
 (.ret (.pick r95 r98 pF))))
 (.iteS ⟨[],[]⟩ (ah nO (pi 6)) [6,111,112] []
 (.call ⟨[(106,(.pick r9 r8 pF))],[]⟩ [(106,true)] 109 114 [(pc o5 5),(pi 1),lG]
 (.ret (.pick R8 aym pF)))
 (.ite (ah nO (pi 9))
 (.ret (.pick (.pick (ah (pc o5 2) (pi (-1))) r8 pF) (ah (pc o5 5) (pi 0)) pF))
 (.next ⟨[],[]⟩))
 (.next ⟨[],[]⟩))
 (.next ⟨[],[]⟩))
 (.next ⟨[],[]⟩))
 (.ret (.pick (.pick (ah (pc o5 2) (pi (-1))) r7 pF) (ah (pc o5 5) (pi 0)) pF)))))))))
def aqg (b:Nat→PC):PT×List (Shp×PT):=(Uv,[])
theorem adP:FM.map told=some (aqg (au FM)):=by kernel_rfl
theorem aAN:tree JH=Uv:=ay adP
theorem alS:FM=some JH:=ax adP
end Rm
