/-
  The functions of this seat, compiled (2).
-/
import Derived.Test.YtbeeplempgffoaaGreatDoorQAH
import Derived.KernelRfl
set_option linter.unusedVariables false
set_option maxRecDepth 100000
noncomputable section
namespace Rm
open Go Go.Proofs Cx
def HM:Option PC:=cF [4] [] Tryz.f182 182 []
def Vz:PT:=
 (.call ⟨[],[]⟩ [] 7 206 [r0,r1]
 (.ret (bN r7 (pi 0))))
theorem acH:HM.map told=some (Vz,[]):=by kernel_rfl
theorem avG:tree (ab HM)=Vz:=aI acH
def yY:Option PC:=cF [4,5] [] Tryz.f206 206 []
def M9:Nat→PC:=bf yY
def ao8 (b:Nat→PC):PC:=.block 0 [4,8,9] [] (.loop [4,8] [] (b 0))
def E9 (b:Nat→PC):PT:=
 (.ite (ah r8 r7)
 (.chk (ao r0 r8)
 (.ite (.cs .eql r1 (pn r0 r8))
 (.ret r8)
 (.next ⟨[(8,qe)],[]⟩)))
 (.exit 0 ⟨[(9,(ah r8 r7))],[]⟩))
def VE (b:Nat→PC):PT:=
 (.brk ⟨[(8,(pi 0)),(7,(.llen r0)),(4,(pi 0))],[]⟩
(ao8 b)
 (.ret (pi (-1))))
def aj5 (b:Nat→PC):PT×List (Shp×PT):=(VE b,[(.lp 0 [4,8,9] [] [4,8] [],E9 b)])
theorem Qx:yY.map told=some (aj5 (aV yY)):=by kernel_rfl
theorem avL:tree (ab yY)=VE M9:=bz Qx
theorem SL:round 0 [4,8,9] [] [4,8] [] (M9 0)=E9 M9:=aQ Qx 0 fun _=>rfl
def Hz:Option PC:=cF [2] [] Tryz.f115 115 []
def Va:PT:=
 (.ret pT)
theorem acu:Hz.map told=some (Va,[]):=by kernel_rfl
theorem avf:tree (ab Hz)=Va:=aI acu
def HA:Option PC:=cF [3] [] Tryz.f116 116 []
def Vb:PT:=
 (.chk (ao (pc (.deref r1) 1) r0)
 (.call ⟨[],[]⟩ [] 10 117 [(.deref r1),(pn (pc (.deref r1) 1) r0)]
 (.ret bY)))
theorem acv:HA.map told=some (Vb,[]):=by kernel_rfl
theorem avg:tree (ab HA)=Vb:=aI acv
def yH:Option PC:=cF [4,6] [] Tryz.f117 117 [2,3]
def M0:Nat→PC:=bf yH
def aoI (b:Nat→PC):PC:=.block 0 [4,10,11] [] (.loop [4,10] [] (b 0))
def ER (b:Nat→PC):PT:=
 (.ite (ah bY r9)
 (.chk (ao r8 bY)
 (.chk wX
 (.chk (.nt (.an (.an (.nt (ah Rf (pi 1))) pT) (.nt wX)))
 (.ite (.pick (ah Rf (pi 1)) pT (bj Rf (pi 31)))
 (.ret pF)
 (.next ⟨[(10,(aD bY (pi 1)))],[]⟩)))))
 (.exit 0 ⟨[(11,(ah bY r9))],[]⟩))
def Vf (b:Nat→PC):PT:=
 (.brk ⟨[(10,(pi 0)),(9,(.llen (pc (.mk [r1]) 4))),(8,(pc (.mk [r1]) 4)),(4,pF)],[(3,(.mk [r1])),(2,(.mk [r0]))]⟩
(aoI b)
 (.call ⟨[(33,(.pick (bj AB (pi 60)) pT (bj (.llen (pc o3 5)) (pi 200))))],[]⟩ [(33,false)] 39 118 [(pc o3 1),(.llen (pc o2 4))]
 (.call ⟨[(42,(.pick mM pT (.nt uf)))],[]⟩ [(42,false)] 48 118 [(pc o3 2),(.llen (pc o2 0))]
 (.ite (.pick r42 pT (.nt kf))
 (.ret pF)
 (.call ⟨[],[]⟩ [] 53 158 [(pc o3 3),(pi 0),(pi 6)]
 (.call ⟨[(54,r53)],[]⟩ [(54,true)] 57 158 [(pc o3 4),(pi 101),(pi 1231)]
 (.call ⟨[(59,(.pick sd Kk pF))],[]⟩ [(59,true)] 62 158 [(pc o3 5),(pi 0),(pi 100000)]
 (.ret (.pick RD qh pF)))))))))
def ajO (b:Nat→PC):PT×List (Shp×PT):=(Vf b,[(.lp 0 [4,10,11] [] [4,10] [],ER b)])
theorem Qo:yH.map told=some (ajO (aV yH)):=by kernel_rfl
theorem avl:tree (ab yH)=Vf M0:=bz Qo
theorem Sp:round 0 [4,10,11] [] [4,10] [] (M0 0)=ER M0:=aQ Qo 0 fun _=>rfl
def yN:Option PC:=cF [6,7,8] [] Tryz.f158 158 []
def M3:Nat→PC:=bf yN
def aoS (b:Nat→PC):PC:=.block 0 [6,11,12] [] (.loop [6,11] [] (b 0))
def uk (b:Nat→PC):PT:=
 (.ite (ah bK bY)
 (.chk (ao r9 bK)
 (.chk (.nt (.an (.an (bj bK (pi 0)) (.an (.nt (.pick (ah (pn r9 bK) r1) pT (bj (pn r9 bK) r2))) pT)) (.nt (ao r0 (aY bK (pi 1))))))
 (.ite (.pick (.pick (ah (pn r9 bK) r1) pT (bj (pn r9 bK) r2)) pT (.pick (bj bK (pi 0)) (aX (pn r9 bK) (pn r0 (aY bK (pi 1)))) pF))
 (.ret pF)
 (.next ⟨[(11,(aD bK (pi 1)))],[]⟩))))
 (.exit 0 ⟨[(12,(ah bK bY))],[]⟩))
def Vn (b:Nat→PC):PT:=
 (.brk ⟨[(11,(pi 0)),(10,(.llen r0)),(9,r0),(6,pF)],[]⟩
(aoS b)
 (.ret pT))
def ajU (b:Nat→PC):PT×List (Shp×PT):=(Vn b,[(.lp 0 [6,11,12] [] [6,11] [],uk b)])
theorem Qr:yN.map told=some (ajU (aV yN)):=by kernel_rfl
theorem avt:tree (ab yN)=Vn M3:=bz Qr
theorem AS:round 0 [6,11,12] [] [6,11] [] (M3 0)=uk M3:=aQ Qr 0 fun _=>rfl
def HB:Option PC:=cF [3] [] Tryz.f119 119 []
def Vc:PT:=
 (.chk (ao (pc (.deref r1) 3) r0)
 (.call ⟨[],[]⟩ [] 13 118 [(pc (pn (pc (.deref r1) 3) r0) 1),(.llen (pc (.deref r1) 1))]
 (.chk (.nt (.an (.an cU pT) (.nt (ao (pc (.deref r1) 3) r0))))
 (.call ⟨[(14,cU)],[]⟩ [(14,true)] 24 118 [(pc (pn (pc (.deref r1) 3) r0) 2),(.llen (pc (.deref r1) 2))]
 (.ret (.pick ct nC pF))))))
theorem acw:HB.map told=some (Vc,[]):=by kernel_rfl
theorem avh:tree (ab HB)=Vc:=aI acw
def HC:Option PC:=cF [3] [] Tryz.f120 120 []
def Vd:PT:=
 (.chk (ao (pc (.deref r1) 4) r0)
 (.call ⟨[],[]⟩ [] 9 121 [(pn (pc (.deref r1) 4) r0)]
 (.ret r9)))
theorem acx:HC.map told=some (Vd,[]):=by kernel_rfl
theorem avi:tree (ab HC)=Vd:=aI acx
def yL:Option PC:=cF [2] [] Tryz.f121 121 [1,3,4,6,19,8,16392,36]
def BJ:Nat→PC:=bf yL
def aoO (b:Nat→PC):PC:=.block 0 [2,3,12,13] [3] (.loop [2,3,12] [3] (b 0))
def aoP (b:Nat→PC):PC:=.block 2 [4,29,30] [4] (.loop [4,29] [4] (b 1))
def EU (b:Nat→PC):PT:=
 (.ite (ah bR bK)
 (.blockS ⟨[],[]⟩ 1 [2,3,6,14,15,17,18,19,20,21,22,23,24] [6,19,3]
 (.chk (ao bY bR)
 (.chk (aX (.llen (.app o3 (.lst [(pc (.setc rS 0 rQ) 0)]))) cj)
 (.call ⟨[(3,pN)],[(3,(.app o3 (.lst [(pc (.setc rS 0 rQ) 0)])))]⟩ [] 23 118 [(pc (.setc rS 0 rQ) 1),(pi 5)]
 (.ite (.nt gx)
 (.ret pF)
 (.next ⟨[],[]⟩)))))
 (.next ⟨[(12,(aD bR (pi 1)))],[]⟩))
 (.exit 0 ⟨[(13,(ah bR bK))],[]⟩))
def KJ (b:Nat→PC):PT:=
 (.ite (ah kL nD)
 (.chk (ao eC kL)
 (.chk (aX (.llen adG) cj)
 (.next ⟨[(4,pN),(29,(aD kL (pi 1)))],[(4,adG)]⟩)))
 (.exit 2 ⟨[(30,(ah kL nD))],[]⟩))
def Vl (b:Nat→PC):PT:=
 (.brk ⟨[(12,(pi 0)),(11,oU),(10,DT),(4,pN),(3,pN),(2,pF)],[(4,pL),(3,pL),(1,(.mk [r0]))]⟩
(aoO b)
 (.brk ⟨[(29,(pi 0)),(28,mJ),(27,(pc o1 3))],[]⟩
(aoP b)
 (.call ⟨[],[]⟩ [] 40 158 [o3,(pi 0),(pi 21)]
 (.call ⟨[(41,lJ)],[]⟩ [(41,true)] 43 158 [o4,(pi 0),(pi 21)]
 (.ret (.pick qg rZ pF))))))
def ajS (b:Nat→PC):PT×List (Shp×PT):=(Vl b,[(.lp 0 [2,3,12,13] [3] [2,3,12] [3],EU b),(.lp 2 [4,29,30] [4] [4,29] [4],KJ b)])
theorem JI:yL.map told=some (ajS (aV yL)):=by kernel_rfl
theorem avr:tree (ab yL)=Vl BJ:=bz JI
theorem Ss:round 0 [2,3,12,13] [3] [2,3,12] [3] (BJ 0)=EU BJ:=aQ JI 0 fun _=>rfl
theorem aev:round 2 [4,29,30] [4] [4,29] [4] (BJ 1)=KJ BJ:=aQ JI 1 fun _=>rfl
def yO:Option PC:=cF [2,3] [] Tryz.f122 122 [1,4,6]
def BL:Nat→PC:=bf yO
def aoT (b:Nat→PC):PC:=.block 2 [2,50,51] [] (.loop [2,50] [] (b 0))
def aoU (b:Nat→PC):PC:=.block 0 [2,14,15] [] (.loop [2,14] [] (b 1))
def AT (b:Nat→PC):PT:=
 (.ite (ah nI nH)
 (.chk (ao kf nI)
 (.ite (.pick (ak (pc (.setc z3 0 (pn kf nI)) 0) (pc o4 0)) (ak (pc (.setc z3 0 (pn kf nI)) 1) (pc o4 1)) pF)
 (.ret (pi 5))
 (.next ⟨[(50,(aD nI (pi 1)))],[]⟩)))
 (.exit 2 ⟨[(51,(ah nI nH))],[]⟩))
def EX (b:Nat→PC):PT:=
 (.ite oT
 (.blockS ⟨[(15,oT)],[]⟩ 1 [2,3,4,16,17,18,19,20,21,22,23,24,25,26,34,35,39,40,44,45,46,47,48,49,50,51] [4]
 (.chk (ao bR ct)
 (.call ⟨[(3,ct)],[(4,AH)]⟩ [] 24 118 [(pc AH 0),kK]
 (.call ⟨[(26,(.nt nC))],[]⟩ [(26,false)] 32 118 [(pc o4 1),kK]
 (.ite (.pick (.pick (.pick mL pT (.nt lI)) pT (ah (pc o4 2) (pi 1))) pT (bj (pc o4 2) (pi 20000)))
 (.ret (pi 1))
 (.chk (.slok (pc o1 5) (pi 0) r3)
 (.brk ⟨[(50,(pi 0)),(49,(.llen (.slc (pc o1 5) (pi 0) r3))),(48,(.slc (pc o1 5) (pi 0) r3))],[]⟩
(aoT b)
 (.next ⟨[],[]⟩)))))))
 (.next ⟨[(14,(aD ct (pi 1)))],[]⟩))
 (.exit 0 ⟨[(15,oT)],[]⟩))
def Vo (b:Nat→PC):PT:=
 (.ite (bj (.llen ua) (pi 100))
 (.ret (pi 6))
 (.brk ⟨[(14,(pi 0)),(13,(.llen ua)),(12,ua),(2,(pi 0))],[(1,(.mk [r0]))]⟩
(aoU b)
 (.ret (pi 0))))
def ajV (b:Nat→PC):PT×List (Shp×PT):=(Vo b,[(.lp 2 [2,50,51] [] [2,50] [],AT b),(.lp 0 [2,14,15] [] [2,14] [],EX b)])
theorem JK:yO.map told=some (ajV (aV yO)):=by kernel_rfl
theorem avu:tree (ab yO)=Vo BL:=bz JK
theorem KK:round 2 [2,50,51] [] [2,50] [] (BL 0)=AT BL:=aQ JK 0 fun _=>rfl
theorem Sw:round 0 [2,14,15] [] [2,14] [] (BL 1)=EX BL:=aQ JK 1 fun _=>rfl
def yM:Option PC:=cF [2] [] Tryz.f123 123 [1,4,6]
def BK:Nat→PC:=bf yM
def aoQ (b:Nat→PC):PC:=.block 0 [2,14,15] [] (.loop [2,14] [] (b 0))
def aoR (b:Nat→PC):PC:=.block 2 [2,69,70] [] (.loop [2,69] [] (b 1))
def EV (b:Nat→PC):PT:=
 (.ite oT
 (.blockS ⟨[],[]⟩ 1 [2,4,16,17,18,19,20,21,22,23,24,25,33,34,40,41,47,48,54,55,60] [4]
 (.chk (ao bR ct)
 (.call ⟨[],[(4,(.setc z5 0 (pn bR ct)))]⟩ [] 23 118 [(pc (.setc z5 0 (pn bR ct)) 0),uc]
 (.call ⟨[(25,(.nt gx))],[]⟩ [(25,false)] 31 118 [(pc o4 1),uc]
 (.call ⟨[(41,(.pick (.pick eB pT (.nt kM)) pT (ak (pc o4 0) (pc o4 1))))],[]⟩ [(41,false)] 45 118 [(aY (pc o4 2) (pi 1)),(pi 1073741824)]
 (.call ⟨[(48,(.pick qg pT (.nt kN)))],[]⟩ [(48,false)] 52 118 [(aY (pc o4 3) (pi 1)),(pi 1073741824)]
 (.call ⟨[(55,(.pick kf pT (.nt sc)))],[]⟩ [(55,false)] 58 118 [(pc o4 4),(pi 100001)]
 (.ite (.pick ug pT (.nt AK))
 (.ret (pi 1))
 (.next ⟨[],[]⟩))))))))
 (.next ⟨[(14,(aD ct (pi 1)))],[]⟩))
 (.exit 0 ⟨[(15,oT)],[]⟩))
def EW (b:Nat→PC):PT:=
 (.ite (ah qk Ea)
 (.blockS ⟨[],[]⟩ 3 [2,6,71,72,73,74,75,76,77,78,79,80,84,85,91,92,96] [6]
 (.chk (ao qj qk)
 (.call ⟨[],[(6,(.setc z3 0 (pn qj qk)))]⟩ [] 78 118 [(pc (.setc z3 0 (pn qj qk)) 0),nz]
 (.ite (.pick (.pick (.pick (.nt r78) pT (ah (pc o6 1) (pi 0))) pT (bj (pc o6 1) (pc o6 2))) pT (bj (pc o6 2) (pi 100000)))
 (.ret (pi 1))
 (.next ⟨[],[]⟩))))
 (.next ⟨[(69,(aD qk (pi 1)))],[]⟩))
 (.exit 2 ⟨[(70,(ah qk Ea))],[]⟩))
def Vm (b:Nat→PC):PT:=
 (.ite (bj (.llen (pc (.mk [r0]) 6)) (pi 100))
 (.ret (pi 6))
 (.brk ⟨[(14,(pi 0)),(13,(.llen (pc (.mk [r0]) 6))),(12,(pc (.mk [r0]) 6)),(2,(pi 0))],[(1,(.mk [r0]))]⟩
(aoQ b)
 (.ite (bj wQ (pi 20))
 (.ret (pi 6))
 (.brk ⟨[(69,(pi 0)),(68,wQ),(67,(pc o1 7))],[]⟩
(aoR b)
 (.ret (pi 0))))))
def ajT (b:Nat→PC):PT×List (Shp×PT):=(Vm b,[(.lp 0 [2,14,15] [] [2,14] [],EV b),(.lp 2 [2,69,70] [] [2,69] [],EW b)])
theorem JJ:yM.map told=some (ajT (aV yM)):=by kernel_rfl
theorem avs:tree (ab yM)=Vm BK:=bz JJ
theorem Su:round 0 [2,14,15] [] [2,14] [] (BK 0)=EV BK:=aQ JJ 0 fun _=>rfl
theorem Sv:round 2 [2,69,70] [] [2,69] [] (BK 1)=EW BK:=aQ JJ 1 fun _=>rfl
def HO:Option PC:=cF [4] [] Tryz.f75 75 [2]
def VI:PT:=
 (.ret (.pick (bN r1 (pi 0)) (ah r1 (.llen jM)) pF))
theorem acM:HO.map told=some (VI,[]):=by kernel_rfl
theorem avO:tree (ab HO)=VI:=aI acM
def HP:Option PC:=cF [2] [] Tryz.f76 76 []
def VJ:PT:=
 (.ret (.pick (bN r0 (pi 0)) (aX r0 (pi 100000)) pF))
theorem acN:HP.map told=some (VJ,[]):=by kernel_rfl
theorem avP:tree (ab HP)=VJ:=aI acN
def HN:Option PC:=cF [2] [] Tryz.f77 77 [1]
def VH:PT:=
 (.ret (.pick (ak ga (pi 0)) pT (ak ga (pi 1))))
theorem acJ:HN.map told=some (VH,[]):=by kernel_rfl
theorem avN:tree (ab HN)=VH:=aI acJ
def B0:Option PC:=cF [6,7,13,16,24,33,8,9] [] Tryz.f78 78 [3,4]
def mQ:PT:=
 (.blockS ⟨[(12,(pc (.mk [r1]) 5))],[(4,(.mk [r1])),(3,(.mk [r0]))]⟩ 0 [6,7,13,14,16,17,24,25,33,34] []
 (.iteS ⟨[],[]⟩ (ak bR (pi 0)) [6,7,16,17,24,25,33,34] []
 (.ret (.tup [r2,(pi 0)]))
 (.iteS ⟨[],[]⟩ (ak bR (pi 1)) [6,7,24,25,33,34] []
 (.call ⟨[],[]⟩ [] 21 124 [r2,(.mk [(pc o4 5),(pc o4 6),(pc o4 7)])]
 (.ret (.tup [(.tget fB 0),(.tget fB 1)])))
 (.iteS ⟨[],[]⟩ (ak bR (pi 2)) [6,7,33,34] []
 (.call ⟨[],[]⟩ [] 30 124 [(pc o4 8),(.mk [(pc o4 5),(pc o4 6),(pc o4 7)])]
 (.ret (.tup [(.tget nE 0),(.tget nE 1)])))
 (.iteS ⟨[],[]⟩ (ak bR (pi 4)) [6,7] []
 (.call ⟨[],[]⟩ [] 41 83 [(ar 8 o3),(pc o4 9),(pc o4 10)]
 (.ret (.tup [(aD (pc o4 8) (.tget qg 0)),(.tget qg 1)])))
 (.next ⟨[],[]⟩)
 (.next ⟨[],[]⟩))
 (.next ⟨[],[]⟩))
 (.next ⟨[],[]⟩))
 (.next ⟨[],[]⟩))
 (.ret (.tup [(pc o4 6),(pi 0)])))
theorem acL:B0.map told=some (mQ,[]):=by kernel_rfl
theorem xn:tree (ab B0)=mQ:=aI acL
def BZ:Option PC:=cF [4,5] [] Tryz.f124 124 [3]
def qw:PT:=
 (.ite (.pick (ah (pc (.mk [r1]) 1) (pi 0)) pT (bj (pc (.mk [r1]) 1) (pi 20000)))
 (.ret (.tup [(pi 0),(pi 3)]))
 (.iteS ⟨[],[(3,(.mk [r1]))]⟩ (ak (pc (.mk [r1]) 2) (pi 1)) [4,5] []
 (.call ⟨[],[]⟩ [] 20 159 [r0,(pc o3 1)]
 (.ret (.tup [(.tget eA 0),(.tget eA 1)])))
 (.next ⟨[],[]⟩)
 (.ret (.tup [(aD r0 (pc o3 1)),(pi 0)]))))
theorem acK:BZ.map told=some (qw,[]):=by kernel_rfl
theorem uI:tree (ab BZ)=qw:=aI acK
def BV:Option PC:=cF [4,5,6,7,8,9] [] Tryz.f159 159 []
def A4:PT:=
 (.call ⟨[],[]⟩ [] 11 160 [r0]
 (.ite (.pick (.pick (.nt bK) pT (ah r1 (pi (-5000)))) pT (bj r1 (pi 5000)))
 (.ret (.tup [(pi 0),(pi 3)]))
 (.call ⟨[],[]⟩ [] 23 183 [r0]
 (.chk (aP (pi 12) (pi 0))
 (.call ⟨[(41,(.tget gx 2)),(40,(aD (.ai .rem .i64 Ka (pi 12)) (pi 1))),(39,(.ai .quo .i64 Ka (pi 12)))],[]⟩ [] 44 185 [(.ai .quo .i64 Ka (pi 12)),(aD (.ai .rem .i64 Ka (pi 12)) (pi 1))]
 (.call ⟨[],[]⟩ [] 46 184 [uf,lJ,(.mn qg w6)]
 (.ret (.tup [(.tget D9 0),(.tget D9 1)]))))))))
theorem abm:BV.map told=some (A4,[]):=by kernel_rfl
theorem Lm:tree (ab BV)=A4:=aI abm
def GA:Option PC:=cF [2] [] Tryz.f160 160 []
def TM:PT:=
 (.ret (.pick (aX (pi 0) r0) (aX r0 (pi 100000)) pF))
theorem abu:GA.map told=some (TM,[]):=by kernel_rfl
theorem atx:tree (ab GA)=TM:=aI abu
def Gw:Option PC:=cF [2,3,4,5,6,7,8,9] [] Tryz.f183 183 []
def TH:PT:=
 (.chk (aP (pi 146097) (pi 0))
 (.chk (aP (pi 1460) (pi 0))
 (.chk (aP (pi 36524) (pi 0))
 (.chk (aP (pi 146096) (pi 0))
 (.chk (aP (pi 365) (pi 0))
 (.chk (aP (pi 4) (pi 0))
 (.chk wX
 (.chk (aP (pi 153) (pi 0))
 (.chk (aP (pi 5) (pi 0))
 (.ret (.tup [(.pick (ah adk (pi 3)) (aD adn (pi 1)) adn),adk,(aD (aY (aY (.ai .rem .i64 (aD r0 (pi 730425)) (pi 146097)) (aY (aD (.ai .mul .i64 (pi 365) wK) (.ai .quo .i64 wK (pi 4))) (.ai .quo .i64 wK (pi 100)))) (.ai .quo .i64 (aD (.ai .mul .i64 (pi 153) Kb) (pi 2)) (pi 5))) (pi 1))])))))))))))
theorem abo:Gw.map told=some (TH,[]):=by kernel_rfl
theorem ats:tree (ab Gw)=TH:=aI abo
def Gy:Option PC:=cF [4] [] Tryz.f185 185 []
def Ln:PT:=
 (.ite (ak r1 (pi 12))
 (.ret (pi 31))
 (.call ⟨[],[]⟩ [] 10 207 [r0,(aD r1 (pi 1)),(pi 1)]
 (.call ⟨[],[]⟩ [] 13 207 [r0,r1,(pi 1)]
 (.ret (aY bY cU)))))
theorem abq:Gy.map told=some (Ln,[]):=by kernel_rfl
theorem atv:tree (ab Gy)=Ln:=aI abq
def BX:Option PC:=cF [6,0,1] [] Tryz.f207 207 []
def A5:PT:=
 (.chk (aP (pi 4) (pi 0))
 (.chk wX
 (.chk (aP (pi 400) (pi 0))
 (.chk (aP (pi 5) (pi 0))
 (.ret (aY (aY (aD (aD (aD (aY (aD (.ai .mul .i64 (pi 365) Kd) (.ai .quo .i64 Kd (pi 4))) (.ai .quo .i64 Kd (pi 100))) (.ai .quo .i64 Kd (pi 400))) (.ai .quo .i64 (aD (.ai .mul .i64 (pi 153) (aY (.pick (ah r1 (pi 3)) (aD r1 (pi 12)) r1) (pi 3))) (pi 2)) (pi 5))) r2) (pi 1)) (pi 730425)))))))
theorem abr:BX.map told=some (A5,[]):=by kernel_rfl
theorem TK:tree (ab BX)=A5:=aI abr
def BW:Option PC:=cF [6,7,8] [] Tryz.f184 184 []
def uD:PT:=
 (.call ⟨[(28,r2),(27,adz)],[]⟩ [(27,false)] 31 185 [r0,r1]
 (.ite (.pick eC pT (bj nD kM))
 (.ret (.tup [(pi 0),(pi 3)]))
 (.call ⟨[],[]⟩ [] 37 207 [r0,r1,r2]
 (.call ⟨[(8,nG)],[]⟩ [] 39 160 [nG]
 (.ite (.nt uf)
 (.ret (.tup [(pi 0),(pi 3)]))
 (.ret (.tup [r8,(pi 0)])))))))
theorem abn:BW.map told=some (uD,[]):=by kernel_rfl
theorem Fw:tree (ab BW)=uD:=aI abn
def ve:Option PC:=cF [6,7] [] Tryz.f83 83 [3,9]
def MZ:Nat→PC:=bf ve
def aoH (b:Nat→PC):PC:=.block 0 [6,7,13,14] [] (.loop [6,7,13] [] (b 0))
def uj (b:Nat→PC):PT:=
 (.ite (ah cU bR)
 (.chk (ao bK cU)
 (.ite (.pick (ak (pc (.setc z3 0 (pn bK cU)) 0) r1) (ak (pc (.setc z3 0 (pn bK cU)) 1) r2) pF)
 (.ret (.tup [(pc (.setc z3 0 (pn bK cU)) 2),(pi 0)]))
 (.next ⟨[(13,(aD cU (pi 1)))],[]⟩)))
 (.exit 0 ⟨[(14,(ah cU bR))],[]⟩))
def Lx (b:Nat→PC):PT:=
 (.brk ⟨[(13,(pi 0)),(12,(.llen ua)),(11,ua),(7,(pi 0)),(6,(pi 0))],[]⟩
(aoH b)
 (.ret (.tup [(pi 0),(pi 4)])))
def ajN (b:Nat→PC):PT×List (Shp×PT):=(Lx b,[(.lp 0 [6,7,13,14] [] [6,7,13] [],uj b)])
theorem Qn:ve.map told=some (ajN (aV ve)):=by kernel_rfl
theorem afe:tree (ab ve)=Lx MZ:=bz Qn
theorem AR:round 0 [6,7,13,14] [] [6,7,13] [] (MZ 0)=uj MZ:=aQ Qn 0 fun _=>rfl
def y2:Option PC:=cF [6,7,8,2,9,10] [] Tryz.f79 79 [3]
def Nb:Nat→PC:=bf y2
def ao9 (b:Nat→PC):PC:=.block 0 [] [] (.loop [2,6,7] [] (b 0))
def SM (b:Nat→PC):PT:=
 (.blockS ⟨[],[]⟩ 1 [2,6,7,9,10,14,15,16,17,18,19,20,21,22,23,24,25,26,27,28,29,30,31,32,34] []
 (.call ⟨[],[]⟩ [] 17 126 [(ar 8 o3),r8,r2]
 (.chk (ao (pc o3 1) r1)
 (.call ⟨[(2,gf)],[]⟩ [] 25 127 [(pn (pc o3 1) r1),gf]
 (.ite (aP (.tget eB 1) (pi 0))
 (.ret (.tup [(pi 0),(pi 3)]))
 (.ite (ak (.tget eB 0) r2)
 (.ret (.tup [r2,(pi 0)]))
 (.next ⟨[(2,(.tget eB 0))],[]⟩))))))
 (.next ⟨[],[]⟩))
def VK (b:Nat→PC):PT:=
 (.call ⟨[(7,(pi 0)),(6,(pi 0))],[(3,(.mk [r0]))]⟩ [] 13 125 [gd,r1]
 (.brk ⟨[(8,cU)],[]⟩
(ao9 b)
 (.next ⟨[],[]⟩)))
def aj7 (b:Nat→PC):PT×List (Shp×PT):=(VK b,[(.lp 0 [] [] [2,6,7] [],SM b)])
theorem Qz:y2.map told=some (aj7 (aV y2)):=by kernel_rfl
theorem avQ:tree (ab y2)=VK Nb:=bz Qz
theorem arN:round 0 [] [] [2,6,7] [] (Nb 0)=SM Nb:=aQ Qz 0 fun _=>rfl
def y3:Option PC:=cF [6,7,2] [] Tryz.f126 126 [3,9]
def BP:Nat→PC:=bf y3
def apa (b:Nat→PC):PC:=.block 2 [2,7,14,15] [] (.loop [2,7,14] [] (b 0))
def apb (b:Nat→PC):PC:=.block 0 [2,7,10] [] (.loop [2,7] [] (b 1))
def AU (b:Nat→PC):PT:=
 (.ite oT
 (.chk (ao bR ct)
 (.next ⟨[(2,(.pick adm (aD (pc AH 2) (pi 1)) r2)),(7,(.pick adm pT r7)),(14,(aD ct (pi 1)))],[]⟩))
 (.exit 2 ⟨[(15,oT)],[]⟩))
def KP (b:Nat→PC):PT:=
 (.ite r7
 (.blockS ⟨[(10,r7)],[]⟩ 1 [2,7,11,12,13,14,15] []
 (.brk ⟨[(14,(pi 0)),(13,(.llen (pc o3 7))),(12,(pc o3 7)),(7,pF)],[]⟩
(apa b)
 (.next ⟨[],[]⟩))
 (.next ⟨[],[]⟩))
 (.exit 0 ⟨[(10,r7)],[]⟩))
def VL (b:Nat→PC):PT:=
 (.brk ⟨[(7,pT)],[(3,(.mk [r0]))]⟩
(apb b)
 (.ret r2))
def aj8 (b:Nat→PC):PT×List (Shp×PT):=(VL b,[(.lp 2 [2,7,14,15] [] [2,7,14] [],AU b),(.lp 0 [2,7,10] [] [2,7] [],KP b)])
theorem JO:y3.map told=some (aj8 (aV y3)):=by kernel_rfl
theorem avR:tree (ab y3)=VL BP:=bz JO
theorem KO:round 2 [2,7,14,15] [] [2,7,14] [] (BP 0)=AU BP:=aQ JO 0 fun _=>rfl
theorem aez:round 0 [2,7,10] [] [2,7] [] (BP 1)=KP BP:=aQ JO 1 fun _=>rfl
def xP:Option PC:=cF [6] [] Tryz.f127 127 [2,4,5]
def Mt:Nat→PC:=bf xP
def air (b:Nat→PC):PC:=.each ij [16] [4,5] (some (.tup [(pc o4 0),(pc o5 0)])) (b 0)
def RN (b:Nat→PC):PT:=
 (.exit 1000000007 ⟨[],[(4,(.setc o4 0 dk)),(5,(.setc o5 0 (pi 0)))]⟩)
def TG (b:Nat→PC):PT:=
 (.call ⟨[],[(5,DR),(4,DR),(2,(.mk [r0]))]⟩ [] 8 160 [r1]
 (.ite (.nt r8)
 (.ret (.tup [(pc (.setc o4 0 (pi 0)) 0),(pc (.setc o5 0 (pi 3)) 0)]))
 (.call ⟨[],[]⟩ [] 15 161 [(ar 6 o2),r1,(.mn (aD r1 (pi 400)) (pi 100000))]
 (.blockS ⟨[],[]⟩ 0 [] [4,5]
 (.callc ⟨[],[]⟩ [] 18 dx []
 (.brk ⟨[],[]⟩
(air b)
 (.next ⟨[],[]⟩)))
 (.ret (.tup [(pc (.setc o4 0 (pi 0)) 0),(pc (.setc o5 0 (pi 3)) 0)]))))))
def ai6 (b:Nat→PC):PT×List (Shp×PT):=(TG b,[(.ea [4,5],RN b)])
theorem PR:xP.map told=some (ai6 (aV xP)):=by kernel_rfl
theorem atr:tree (ab xP)=TG Mt:=bz PR
theorem arG:oZ [4,5] (Mt 0)=RN Mt:=Tn PR 0 fun _=>rfl
def Gx:Option PC:=cF [6] [] Tryz.f161 161 [3,4,5]
def TI:PT:=
 (.ret (.clo 186 [(.ref (pc (.mk [r1]) 0)),(.ref (pc (.mk [r2]) 0)),(.ref (ar 6 (.mk [r0])))]))
theorem abp:Gx.map told=some (TI,[]):=by kernel_rfl
theorem atu:tree (ab Gx)=TI:=aI abp
def qX:Option PC:=B4 {ctx with fr:=[5],nh:=[]} Tryz.f186 [(.ref I),(.ref I),(.ref Y0)] [I] 1000 [1000]
def Mu:Nat→PC:=bf qX
def anQ (b:Nat→PC):PC:=.block 0 [5,7,8,9] [1000] (.loop [5] [1000] (b 0))
def Kq (b:Nat→PC):PT:=
 (.ite (aX r5 (.deref r2))
 (.blockS ⟨[],[]⟩ 1 [12,13,14,15,20] [1000]
 (.call ⟨[],[]⟩ [] 14 187 [(.deref r3),r5]
 (.call ⟨[(15,ct)],[(1000,adI)]⟩ [(15,true)] 18 1000000009 [adI]
 (.ite (.pick dx (.nt ij) pF)
 (.ret (.o 1000))
 (.next ⟨[],[]⟩))))
 (.next ⟨[(5,lH)],[]⟩))
 (.exit 0 ⟨[(7,r5),(8,(.deref r2)),(9,(aX r5 (.deref r2)))],[]⟩))
def TJ (b:Nat→PC):PT:=
 (.brk ⟨[(5,(.deref r1))],[]⟩
(anQ b)
 (.ret (.o 1000)))
def ai7 (b:Nat→PC):PT×List (Shp×PT):=(TJ b,[(.lp 0 [5,7,8,9] [1000] [5] [1000],Kq b)])
theorem PS:qX.map told=some (ai7 (aV qX)):=by kernel_rfl
theorem att:tree (ab qX)=TJ Mu:=bz PS
theorem aei:round 0 [5,7,8,9] [1000] [5] [1000] (Mu 0)=Kq Mu:=aQ PS 0 fun _=>rfl
theorem ahe:∀yv,B4 {ctx with fr:=[5],nh:=[],yv:=yv} Tryz.f186 [(.ref I),(.ref I),(.ref Y0)] [I] 1000 [1000]=some (ab qX):=fun yv=>(show _=qX by kernel_rfl).trans (au qX PS)
def Gz:Option PC:=cF [4,5,6,7] [] Tryz.f187 187 [2]
def TL:PT:=
 (.call ⟨[],[(2,(.mk [r0]))]⟩ [] 10 183 [r1]
 (.chk (aP (pi 7) (pi 0))
 (.call ⟨[(7,(.tget bY 2)),(6,(.tget bY 1))],[]⟩ [] 19 93 [(pc o2 3),(.ai .rem .i64 (aD r1 (pi 5)) (pi 7))]
 (.call ⟨[(21,(.nt fA))],[]⟩ [(21,true)] 28 93 [(pc o2 4),(aD (.ai .mul .i64 (pi 100) r6) r7)]
 (.call ⟨[(31,(.pick fB (.nt nD) pF))],[]⟩ [(31,true)] 35 93 [(pc o2 5),r1]
 (.ret (.pick kM (.nt nF) pF)))))))
theorem abt:Gz.map told=some (TL,[]):=by kernel_rfl
theorem atw:tree (ab Gz)=TL:=aI abt
def Gt:Option PC:=cF [] [] Tryz.f27 27 [2,4,5,6,43]
def TC:PT:=
 (.chk (ao (pc (.mk [r0]) 25) r1)
 (.call ⟨[],[(6,(.setc rV 0 (.mk [r1,(pc DW 0),(pc DW 2),(pi 0),(pi 0),(pi 0),(.pick (aP (pc DW 0) (pi 1)) (ak (.ai .and .i64 (pc DW 8) (pi 1)) (pi 0)) pF)]))),(5,DW),(4,rV),(2,(.mk [r0]))]⟩ [] 33 63 [Rc,r1,(pc (.mk [r0]) 9)]
 (.iteS ⟨[],[]⟩ (.nt mM) [] [6]
 (.call ⟨[(36,(pc o2 29))],[]⟩ [] 39 64 [(ar 31 o2),(pi 1),r1]
 (.call ⟨[],[]⟩ [] 42 64 [(ar 31 o2),(pi 2),r1]
 (.call ⟨[],[]⟩ [] 44 30 [(.lst [il,uf,r42])]
 (.next ⟨[],[(6,(.setc o6 3 w6))]⟩))))
 (.next ⟨[],[]⟩)
 (.call ⟨[],[]⟩ [] 49 65 [(ar 31 o2),r1]
 (.ret (ar 7 (.setc o4 0 (ar 7 (.pick (.pick (ak (pc o5 0) (pi 1)) pT (ak (pc o5 0) (pi 4))) (.setc Rr 5 (.mn (pc Rr 5) (pc o5 5))) Rr)))))))))
theorem abj:Gt.map told=some (TC,[]):=by kernel_rfl
theorem atn:tree (ab Gt)=TC:=aI abj
def H2:Option PC:=cF [6] [] Tryz.f63 63 [3]
def VY:PT:=
 (.call ⟨[(16,(.pick (bN r1 (pi 0)) (ah r1 D2) pF))],[]⟩ [(16,true)] 19 109 [(ar 19 (.mk [r0])),r2]
 (.ret (.pick dk (.look fA r1 pF) pF)))
theorem acZ:H2.map told=some (VY,[]):=by kernel_rfl
theorem av5:tree (ab H2)=VY:=aI acZ
def y6:Option PC:=cF [4] [] Tryz.f109 109 [2,5,7]
def Nf:Nat→PC:=bf y6
def apg (b:Nat→PC):PC:=.block 0 [12,13] [5] (.loop [12] [5] (b 0))
def Fe (b:Nat→PC):PT:=
 (.ite (ah bR bK)
 (.chk (ao bY bR)
 (.ite (.pick (ak (pc (.setc z9 0 rQ) 0) (pi 7)) (aX (pc (.setc z9 0 rQ) 6) r1) pF)
 (.chk (ah (.mlen o5) cj)
 (.next ⟨[(12,(aD bR (pi 1)))],[(5,(.put o5 (pc (.setc z9 0 rQ) 4) pT))]⟩))
 (.next ⟨[(12,(aD bR (pi 1)))],[]⟩)))
 (.exit 0 ⟨[(13,(ah bR bK))],[]⟩))
def VZ (b:Nat→PC):PT:=
 (.brk ⟨[(12,(pi 0)),(11,(.llen (pc (.mk [r0]) 17))),(10,(pc (.mk [r0]) 17)),(5,pN)],[(5,(.con (.map [])))]⟩
(apg b)
 (.ret o5))
def akc (b:Nat→PC):PT×List (Shp×PT):=(VZ b,[(.lp 0 [12,13] [5] [12] [5],Fe b)])
theorem QC:y6.map told=some (akc (aV y6)):=by kernel_rfl
theorem av6:tree (ab y6)=VZ Nf:=bz QC
theorem SQ:round 0 [12,13] [5] [12] [5] (Nf 0)=Fe Nf:=aQ QC 0 fun _=>rfl
def Gu:Option PC:=cF [6] [] Tryz.f64 64 [3,7]
def TD:PT:=
 (.call ⟨[],[]⟩ [] 23 73 [gd,(pc (.mk [r0]) 8),r1,(ar 24 (.setc Rg 0 (.mk [Rc,r2,r2,(pi (-1)),(pc (.mk [r0]) 30),(pc (.mk [r0]) 9)])))]
 (.call ⟨[],[]⟩ [] 24 22 [gx]
 (.ret nC)))
theorem abk:Gu.map told=some (TD,[]):=by kernel_rfl
theorem ato:tree (ab Gu)=TD:=aI abk
def xN:Option PC:=cF [2,3,5,12,15] [] Tryz.f30 30 []
def Mr:Nat→PC:=bf xN
def anO (b:Nat→PC):PC:=.block 0 [2,3,8,9] [] (.loop [2,3,8] [] (b 0))
def Ed (b:Nat→PC):PT:=
 (.ite (ah r8 r7)
 (.chk (ao r6 r8)
 (.ite (ak (pn r6 r8) (pi 0))
 (.ret (pi 0))
 (.next ⟨[(3,(.pick (ak (pn r6 r8) (pi 2)) (pi 2) r3)),(8,qe)],[]⟩)))
 (.exit 0 ⟨[(9,(ah r8 r7))],[]⟩))
def TA (b:Nat→PC):PT:=
 (.brk ⟨[(8,(pi 0)),(7,(.llen r0)),(6,r0),(3,(pi 1)),(2,(pi 0))],[]⟩
(anO b)
 (.ret r3))
def ai4 (b:Nat→PC):PT×List (Shp×PT):=(TA b,[(.lp 0 [2,3,8,9] [] [2,3,8] [],Ed b)])
theorem PO:xN.map told=some (ai4 (aV xN)):=by kernel_rfl
theorem atl:tree (ab xN)=TA Mr:=bz PO
theorem RL:round 0 [2,3,8,9] [] [2,3,8] [] (Mr 0)=Ed Mr:=aQ PO 0 fun _=>rfl
def xO:Option PC:=cF [4,5,6,7,10,50,54] [] Tryz.f65 65 [2,9]
def Ms:Nat→PC:=bf xO
def anP (b:Nat→PC):PC:=.block 0 [7,23,24] [] (.loop [7,23] [] (b 0))
def Ee (b:Nat→PC):PT:=
 (.ite (ah gx AJ)
 (.chk (ao fB gx)
 (.next ⟨[(7,(.pick r7 pT (bj (pc (.setc z2 0 (pn fB gx)) 0) r1))),(23,(aD gx (pi 1)))],[]⟩))
 (.exit 0 ⟨[(24,(ah gx AJ))],[]⟩))
def TE (b:Nat→PC):PT:=
 (.call ⟨[(5,(pi 0))],[(2,(.mk [r0]))]⟩ [] 14 110 [Rc,r1]
 (.brk ⟨[(23,(pi 0)),(22,(.llen (pc o2 26))),(21,(pc o2 26)),(7,pF),(6,(.llen (pc o2 26))),(5,ct)],[]⟩
(anP b)
 (.ite (.nt r7)
 (.ret (.tup [(pi 0),r5]))
 (.chk (ao (pc o2 26) (aY r6 (pi 1)))
 (.call ⟨[(10,(pc (pn (pc o2 26) (aY r6 (pi 1))) 1))],[]⟩ [] 48 64 [(ar 31 o2),(pi 4),r1]
 (.ite (ak kf (pi 1))
 (.ret (.tup [kf,bY]))
 (.ite (ak kf (pi 2))
 (.ret (.tup [kf,(.mn r5 bY)]))
 (.ret (.tup [kf,r5])))))))))
def ai5 (b:Nat→PC):PT×List (Shp×PT):=(TE b,[(.lp 0 [7,23,24] [] [7,23] [],Ee b)])
theorem PQ:xO.map told=some (ai5 (aV xO)):=by kernel_rfl
theorem atp:tree (ab xO)=TE Ms:=bz PQ
theorem RM:round 0 [7,23,24] [] [7,23] [] (Ms 0)=Ee Ms:=aQ PQ 0 fun _=>rfl
def xT:Option PC:=cF [4,5] [] Tryz.f110 110 [2,7]
def Mx:Nat→PC:=bf xT
def anT (b:Nat→PC):PC:=.block 0 [5,14,15] [] (.loop [5,14] [] (b 0))
def Kr (b:Nat→PC):PT:=
 (.ite oT
 (.chk (ao bR ct)
 (.next ⟨[(5,(.pick (aX (pc (.setc z2 0 (pn bR ct)) 0) r1) (pc (.setc z2 0 (pn bR ct)) 1) r5)),(14,(aD ct (pi 1)))],[]⟩))
 (.exit 0 ⟨[(15,oT)],[]⟩))
def T2 (b:Nat→PC):PT:=
 (.brk ⟨[(14,(pi 0)),(13,(.llen (pc (.mk [r0]) 16))),(12,(pc (.mk [r0]) 16)),(5,(pc (.mk [r0]) 3))],[]⟩
(anT b)
 (.ret r5))
def ajb (b:Nat→PC):PT×List (Shp×PT):=(T2 b,[(.lp 0 [5,14,15] [] [5,14] [],Kr b)])
theorem PW:xT.map told=some (ajb (aV xT)):=by kernel_rfl
theorem atM:tree (ab xT)=T2 Mx:=bz PW
theorem aej:round 0 [5,14,15] [] [5,14] [] (Mx 0)=Kr Mx:=aQ PW 0 fun _=>rfl
def xM:Option PC:=cF [8,11] [] Tryz.f10 10 [4,6,9,10,28]
def Mq:Nat→PC:=bf xM
def anN (b:Nat→PC):PC:=.block 0 [10,21,22] [10] (.loop [10,21] [10] (b 0))
def Kp (b:Nat→PC):PT:=
 (.ite (ah fB eA)
 (.blockS ⟨[],[]⟩ 1 [10,11,23,25,26,27,28,29] [10,28]
 (.call ⟨[],[]⟩ [] 27 27 [(ar 31 o9),fB]
 (.chk (aX (.llen (.app bI (.lst [eC]))) cj)
 (.next ⟨[(10,pN)],[(10,(.app bI (.lst [eC])))]⟩)))
 (.next ⟨[(21,(aD fB (pi 1)))],[]⟩))
 (.exit 0 ⟨[(22,(ah fB eA))],[]⟩))
def Tz (b:Nat→PC):PT:=
 (.call ⟨[],[]⟩ [] 16 26 [gd,r1,tZ,r3]
 (.brk ⟨[(21,(pi 0)),(20,(.llen (pc (.setc DV 0 dk) 25))),(10,pN)],[(10,pL),(9,(.setc DV 0 dk))]⟩
(anN b)
 (.ret bI)))
def ai3 (b:Nat→PC):PT×List (Shp×PT):=(Tz b,[(.lp 0 [10,21,22] [10] [10,21] [10],Kp b)])
theorem PN:xM.map told=some (ai3 (aV xM)):=by kernel_rfl
theorem atk:tree (ab xM)=Tz Mq:=bz PN
theorem aeh:round 0 [10,21,22] [10] [10,21] [10] (Mq 0)=Kp Mq:=aQ PN 0 fun _=>rfl
def yF:Option PC:=cF [4,5] [] Tryz.f9 9 []
def MX:Nat→PC:=bf yF
def aoF (b:Nat→PC):PC:=.block 0 [4,5,11,12,13,14] [] (.loop [4,5] [] (b 0))
def EO (b:Nat→PC):PT:=
 (.ite (ah r5 (.llen r0))
 (.chk (ao r0 r5)
 (.chk (ao r1 r5)
 (.ite (.nt (.an (ak (pc (pn r0 r5) 0) (pc (pn r1 r5) 0)) (.an (ak (pc (pn r0 r5) 1) (pc (pn r1 r5) 1)) (.an (ak (pc (pn r0 r5) 2) (pc (pn r1 r5) 2)) (.an (ak (pc (pn r0 r5) 3) (pc (pn r1 r5) 3)) (.an (ak (pc (pn r0 r5) 4) (pc (pn r1 r5) 4)) (.an (ak (pc (pn r0 r5) 5) (pc (pn r1 r5) 5)) (.an (.cb .eql (pc (pn r0 r5) 6) (pc (pn r1 r5) 6)) pT))))))))
 (.ret pF)
 (.next ⟨[(5,lH)],[]⟩))))
 (.exit 0 ⟨[(11,r5),(12,r0),(13,(.llen r0)),(14,(ah r5 (.llen r0)))],[]⟩))
def U7 (b:Nat→PC):PT:=
 (.ite (aP (.llen r0) (.llen r1))
 (.ret pF)
 (.brk ⟨[(5,(pi 0)),(4,pF)],[]⟩
(aoF b)
 (.ret pT)))
def ajL (b:Nat→PC):PT×List (Shp×PT):=(U7 b,[(.lp 0 [4,5,11,12,13,14] [] [4,5] [],EO b)])
theorem Ql:yF.map told=some (ajL (aV yF)):=by kernel_rfl
theorem avd:tree (ab yF)=U7 MX:=bz Ql
theorem Sn:round 0 [4,5,11,12,13,14] [] [4,5] [] (MX 0)=EO MX:=aQ Ql 0 fun _=>rfl
def Gq:Option PC:=cF [4] [] Tryz.f12 12 []
def Tw:PT:=
 (.call ⟨[],[]⟩ [] 8 30 [(.lst [r0,r1])]
 (.ret r8))
theorem abg:Gq.map told=some (Tw,[]):=by kernel_rfl
theorem ati:tree (ab Gq)=Tw:=aI abg
def GF:Option PC:=cF [4] [] Tryz.f6 6 [2,3]
def TS:PT:=
 (.call ⟨[],[(2,(.mk [r0]))]⟩ [] 7 24 [gd,(ar 19 (.mk [r1]))]
 (.call ⟨[(8,r7)],[]⟩ [(8,true)] 10 25 [(ar 8 o2)]
 (.ret (.pick r8 (ak bY (pi 0)) pF))))
theorem aby:GF.map told=some (TS,[]):=by kernel_rfl
theorem atE:tree (ab GF)=TS:=aI aby
def yB:Option PC:=cF [4,5] [] Tryz.f24 24 [2,3]
def MT:Nat→PC:=bf yB
def aoC (b:Nat→PC):PC:=.block 0 [4,5,14,15,16,17,18] [] (.loop [4,5] [] (b 0))
def EL (b:Nat→PC):PT:=
 (.ite (ah r5 (.llen (pc o2 4)))
 (.blockS ⟨[],[]⟩ 1 [4,21,22,23,24,25,26,27] []
 (.chk (ao (pc o2 4) r5)
 (.call ⟨[],[]⟩ [] 26 57 [(pn (pc o2 4) r5)]
 (.ite (.nt mL)
 (.ret pF)
 (.next ⟨[],[]⟩))))
 (.next ⟨[(5,lH)],[]⟩))
 (.exit 0 ⟨[(14,r5),(15,pN),(16,(pc o2 4)),(17,(.llen (pc o2 4))),(18,(ah r5 (.llen (pc o2 4))))],[]⟩))
def UZ (b:Nat→PC):PT:=
 (.call ⟨[(4,pF)],[(3,(.mk [r1])),(2,(.mk [r0]))]⟩ [] 7 55 [gd]
 (.call ⟨[(9,(.nt r7))],[]⟩ [(9,false)] 11 56 [(ar 19 o3)]
 (.ite (.pick r9 pT (.nt bK))
 (.ret pF)
 (.brk ⟨[(5,(pi 0))],[]⟩
(aoC b)
 (.ret pT)))))
def ajH (b:Nat→PC):PT×List (Shp×PT):=(UZ b,[(.lp 0 [4,5,14,15,16,17,18] [] [4,5] [],EL b)])
theorem Qh:yB.map told=some (ajH (aV yB)):=by kernel_rfl
theorem au3:tree (ab yB)=UZ MT:=bz Qh
theorem Sk:round 0 [4,5,14,15,16,17,18] [] [4,5] [] (MT 0)=EL MT:=aQ Qh 0 fun _=>rfl
def xZ:Option PC:=cF [2,3,4] [] Tryz.f55 55 [1]
def BC:Nat→PC:=bf xZ
def an1 (b:Nat→PC):PC:=.block 0 [2,3,5,6,7,8,9,10,13] [] (.loop [2,3] [] (b 0))
def an2 (b:Nat→PC):PC:=.block 2 [2,4,44,45,46,47,48,49,52] [] (.loop [2,4] [] (b 1))
def xb (b:Nat→PC):PT:=
 (.ite (.pick (ah r3 kK) (ah r3 (pi 50)) pF)
 (.chk (ao (pc o1 1) r3)
 (.chk (.nt (.an (.an (.nt (bj (.llen (pc (pn (pc o1 1) r3) 4)) (pi 70))) pT) (.nt (ao (pc o1 1) r3))))
 (.chk (.nt (.an (.an (.nt adE) pT) (.nt (ao (pc o1 1) r3))))
 (.ite (.pick adE pT (bj (.llen (pc (pn (pc o1 1) r3) 3)) (pi 8)))
 (.ret pF)
 (.next ⟨[(3,rX)],[]⟩)))))
 (.exit 0 ⟨[(5,r3),(6,pN),(7,(pc o1 1)),(8,kK),(9,(ah r3 kK)),(10,(ah r3 kK)),(13,(.pick (ah r3 kK) (ah r3 (pi 50)) pF))],[]⟩))
def AM (b:Nat→PC):PT:=
 (.ite (.pick (ah r4 nz) (ah r4 (pi 50)) pF)
 (.chk (ao (pc o1 4) r4)
 (.chk (.nt (.an (.an (.nt (bj (.llen (pc wP 2)) (pi 40))) pT) (.nt (ao (pc o1 4) r4))))
 (.ite (.pick (bj (.llen (pc wP 2)) (pi 40)) pT (bj (.llen (pc wP 3)) (pi 40)))
 (.ret pF)
 (.next ⟨[(4,(aD r4 (pi 1)))],[]⟩))))
 (.exit 2 ⟨[(44,r4),(45,pN),(46,(pc o1 4)),(47,nz),(48,(ah r4 nz)),(49,(ah r4 nz)),(52,(.pick (ah r4 nz) (ah r4 (pi 50)) pF))],[]⟩))
def Ue (b:Nat→PC):PT:=
 (.brk ⟨[(3,(pi 0)),(2,pF)],[(1,(.mk [r0]))]⟩
(an1 b)
 (.brk ⟨[(4,(pi 0))],[]⟩
(an2 b)
 (.ret (.pick (.pick (.pick (.pick (.pick (.pick (.pick (ah uc (pi 50)) (ah kK (pi 50)) pF) (ah mK (pi 50)) pF) (ah mJ (pi 210)) pF) (ah nz (pi 50)) pF) (ah AE (pi 110)) pF) (ah (.llen (pc o1 6)) (pi 110)) pF) (ah wQ (pi 50)) pF))))
def ajh (b:Nat→PC):PT×List (Shp×PT):=(Ue b,[(.lp 0 [2,3,5,6,7,8,9,10,13] [] [2,3] [],xb b),(.lp 2 [2,4,44,45,46,47,48,49,52] [] [2,4] [],AM b)])
theorem JB:xZ.map told=some (ajh (aV xZ)):=by kernel_rfl
theorem at1:tree (ab xZ)=Ue BC:=bz JB
theorem Ej:round 0 [2,3,5,6,7,8,9,10,13] [] [2,3] [] (BC 0)=xb BC:=aQ JB 0 fun _=>rfl
theorem Kw:round 2 [2,4,44,45,46,47,48,49,52] [] [2,4] [] (BC 1)=AM BC:=aQ JB 1 fun _=>rfl
def G3:Option PC:=cF [2] [] Tryz.f56 56 [1]
def UA:PT:=
 (.ret (.pick (.pick (.pick (aX D2 (pi 50)) (aX (.llen (pc (.mk [r0]) 16)) (pi 10)) pF) (aX (.llen (pc (.mk [r0]) 17)) (pi 110)) pF) (aX (.llen (pc (.mk [r0]) 18)) (pi 220)) pF))
theorem abV:G3.map told=some (UA,[]):=by kernel_rfl
theorem aus:tree (ab G3)=UA:=aI abV
def yw:Option PC:=cF [2,3] [] Tryz.f57 57 [1]
def MN:Nat→PC:=bf yw
def aox (b:Nat→PC):PC:=.block 0 [2,3,14,15,16,17,18] [] (.loop [2,3] [] (b 0))
def EI (b:Nat→PC):PT:=
 (.ite (ah r3 mJ)
 (.blockS ⟨[],[]⟩ 1 [2,21,22,23,24,25,26,27,28] []
 (.chk (ao (pc o1 3) r3)
 (.call ⟨[],[]⟩ [] 27 104 [(.sub (pn (pc o1 3) r3) 1 3)]
 (.ite (.nt eC)
 (.ret pF)
 (.next ⟨[],[]⟩))))
 (.next ⟨[(3,rX)],[]⟩))
 (.exit 0 ⟨[(14,r3),(15,pN),(16,(pc o1 3)),(17,mJ),(18,(ah r3 mJ))],[]⟩))
def UM (b:Nat→PC):PT:=
 (.ite (.pick (bj (.llen (pc (.mk [r0]) 3)) (pi 60)) pT (bj oU (pi 60)))
 (.ret pF)
 (.brk ⟨[(3,(pi 0)),(2,pF)],[(1,(.mk [r0]))]⟩
(aox b)
 (.ret pT)))
def ajC (b:Nat→PC):PT×List (Shp×PT):=(UM b,[(.lp 0 [2,3,14,15,16,17,18] [] [2,3] [],EI b)])
theorem Qc:yw.map told=some (ajC (aV yw)):=by kernel_rfl
theorem auQ:tree (ab yw)=UM MN:=bz Qc
theorem Sf:round 0 [2,3,14,15,16,17,18] [] [2,3] [] (MN 0)=EI MN:=aQ Qc 0 fun _=>rfl
def Ha:Option PC:=cF [2] [] Tryz.f104 104 [1]
def UG:PT:=
 (.call ⟨[],[]⟩ [] 4 147 [DP,(pi 100),(pi 20)]
 (.ret (bN r4 (pi 0))))
theorem ab2:Ha.map told=some (UG,[]):=by kernel_rfl
theorem auD:tree (ab Ha)=UG:=aI ab2
def vd:Option PC:=cF [6,1,7] [] Tryz.f147 147 [3]
def ML:Nat→PC:=bf vd
def aov (b:Nat→PC):PC:=.block 0 [1,7,12,13,14,15,16,17,20] [] (.loop [1,7] [] (b 0))
def EG (b:Nat→PC):PT:=
 (.ite (.pick (ah r7 ny) (bN r1 (pi 0)) pF)
 (.blockS ⟨[],[]⟩ 1 [1,23,24,25,26,27,28,29,30,31] []
 (.chk (ao (pc o3 2) r7)
 (.call ⟨[],[]⟩ [] 31 147 [(pn (pc o3 2) r7),r1,(aY r2 (pi 1))]
 (.next ⟨[(1,kM)],[]⟩)))
 (.next ⟨[(7,ud)],[]⟩))
 (.exit 0 ⟨[(12,r7),(13,pN),(14,(pc o3 2)),(15,ny),(16,(ah r7 ny)),(17,(ah r7 ny)),(20,(.pick (ah r7 ny) (bN r1 (pi 0)) pF))],[]⟩))
def Lv (b:Nat→PC):PT:=
 (.ite (ah r2 (pi 1))
 (.ret (pi (-1)))
 (.brk ⟨[(7,(pi 0)),(1,(aY r1 (pi 1)))],[(3,(.mk [r0]))]⟩
(aov b)
 (.ret r1)))
def ajA (b:Nat→PC):PT×List (Shp×PT):=(Lv b,[(.lp 0 [1,7,12,13,14,15,16,17,20] [] [1,7] [],EG b)])
theorem Qa:vd.map told=some (ajA (aV vd)):=by kernel_rfl
theorem afd:tree (ab vd)=Lv ML:=bz Qa
theorem Sd:round 0 [1,7,12,13,14,15,16,17,20] [] [1,7] [] (ML 0)=EG ML:=aQ Qa 0 fun _=>rfl
def GS:Option PC:=cF [2,3] [] Tryz.f25 25 [1]
def Ud:PT:=
 (.call ⟨[],[(1,(.mk [r0]))]⟩ [] 5 58 [gd]
 (.iteS ⟨[(3,r5)],[]⟩ (ak r5 (pi 0)) [3] []
 (.call ⟨[],[]⟩ [] 9 59 [(ar 8 o1)]
 (.next ⟨[(3,r9)],[]⟩))
 (.next ⟨[],[]⟩)
 (.iteS ⟨[],[]⟩ (ak r3 (pi 0)) [3] []
 (.call ⟨[],[]⟩ [] 13 60 [(ar 8 o1)]
 (.next ⟨[(3,cU)],[]⟩))
 (.next ⟨[],[]⟩)
 (.iteS ⟨[],[]⟩ (ak r3 (pi 0)) [3] []
 (.call ⟨[],[]⟩ [] 17 61 [(ar 8 o1)]
 (.next ⟨[(3,gf)],[]⟩))
 (.next ⟨[],[]⟩)
 (.iteS ⟨[],[]⟩ (ak r3 (pi 0)) [3] []
 (.call ⟨[],[]⟩ [] 21 62 [(ar 8 o1)]
 (.next ⟨[(3,fB)],[]⟩))
 (.next ⟨[],[]⟩)
 (.ret r3))))))
theorem abL:GS.map told=some (Ud,[]):=by kernel_rfl
theorem at0:tree (ab GS)=Ud:=aI abL
def ye:Option PC:=cF [2,3,4,6,7] [] Tryz.f58 58 [1,5,44]
def BE:Nat→PC:=bf ye
def an9 (b:Nat→PC):PC:=.block 0 [2,3,12,13,14,15,16] [] (.loop [2,3] [] (b 0))
def aoa (b:Nat→PC):PC:=.block 2 [2,5,6,30,31,32,33,34] [5] (.loop [2,5,6] [5] (b 1))
def Er (b:Nat→PC):PT:=
 (.ite (ah r3 uc)
 (.blockS ⟨[],[]⟩ 1 [2,4,19,20,21,22,23,24] []
 (.call ⟨[],[]⟩ [] 22 105 [(pc o1 0),r3]
 (.ite (aP AJ (pi 0))
 (.ret AJ)
 (.next ⟨[],[]⟩)))
 (.next ⟨[(3,rX)],[]⟩))
 (.exit 0 ⟨[(12,r3),(13,pN),(14,(pc o1 0)),(15,uc),(16,(ah r3 uc))],[]⟩))
def Es (b:Nat→PC):PT:=
 (.ite (ah r6 kK)
 (.blockS ⟨[],[]⟩ 3 [2,5,7,38,39,40,41,42,43,44,45,46,47,48,49,50,52,53,54,55,56,57,58,59] [44,5]
 (.chk (ao (pc o1 1) r6)
 (.chk (aX (.llen Rb) cj)
 (.call ⟨[(5,pN)],[(5,Rb)]⟩ [] 48 105 [Rb,r6]
 (.ite (aP kf (pi 0))
 (.ret kf)
 (.chk (ao (pc o1 1) r6)
 (.call ⟨[],[]⟩ [] 58 106 [(ar 8 o1),(pn (pc o1 1) r6)]
 (.ite (.nt AK)
 (.ret (pi 1))
 (.next ⟨[],[]⟩))))))))
 (.next ⟨[(6,wR)],[]⟩))
 (.exit 2 ⟨[(30,r6),(31,pN),(32,(pc o1 1)),(33,kK),(34,(ah r6 kK))],[]⟩))
def Un (b:Nat→PC):PT:=
 (.ite (bj (.llen ga) (pi 8))
 (.ret (pi 6))
 (.brk ⟨[(3,(pi 0)),(2,(pi 0))],[(1,(.mk [r0]))]⟩
(an9 b)
 (.ite (bj kK (pi 40))
 (.ret (pi 6))
 (.brk ⟨[(6,(pi 0)),(5,pN)],[(5,pL)]⟩
(aoa b)
 (.ret (pi 0))))))
def ajn (b:Nat→PC):PT×List (Shp×PT):=(Un b,[(.lp 0 [2,3,12,13,14,15,16] [] [2,3] [],Er b),(.lp 2 [2,5,6,30,31,32,33,34] [5] [2,5,6] [5],Es b)])
theorem JD:ye.map told=some (ajn (aV ye)):=by kernel_rfl
theorem aud:tree (ab ye)=Un BE:=bz JD
theorem RZ:round 0 [2,3,12,13,14,15,16] [] [2,3] [] (BE 0)=Er BE:=aQ JD 0 fun _=>rfl
theorem R0:round 2 [2,5,6,30,31,32,33,34] [5] [2,5,6] [5] (BE 1)=Es BE:=aQ JD 1 fun _=>rfl
def GY:Option PC:=cF [4] [] Tryz.f105 105 []
def Up:PT:=
 (.chk (ao r0 r1)
 (.call ⟨[],[]⟩ [] 9 148 [(pn r0 r1)]
 (.ite (.nt r9)
 (.ret (pi 2))
 (.chk (ao r0 r1)
 (.call ⟨[],[]⟩ [] 17 149 [r0,r1,(pn r0 r1)]
 (.ite gf
 (.ret (pi 5))
 (.ret (pi 0))))))))
theorem abQ:GY.map told=some (Up,[]):=by kernel_rfl
theorem auf:tree (ab GY)=Up:=aI abQ
def x9:Option PC:=cF [2,3,4] [] Tryz.f148 148 []
def MB:Nat→PC:=bf x9
def an3 (b:Nat→PC):PC:=.block 0 [2,3,13,14,15,16] [] (.loop [2,3] [] (b 0))
def Ek (b:Nat→PC):PT:=
 (.ite (ah r3 (.slen r0))
 (.blockS ⟨[],[]⟩ 1 [2,4,19,20,21,22,23,34,35,36,37,38,39,40,47] []
 (.chk (.sok r0 r3)
 (.chk (.nt (.an (.an (.nt Q8) pT) (.nt (.sok r0 r3))))
 (.chk (.nt (.an (.an (aX (.con (.v (.int .u8 48))) (.sidx r0 r3)) (.an (.nt Q8) pT)) (.nt (.sok r0 r3))))
 (.call ⟨[(4,(.pick Q8 pT (.pick (aX (.con (.v (.int .u8 48))) (.sidx r0 r3)) (aX (.sidx r0 r3) (.con (.v (.int .u8 57)))) pF)))],[]⟩ [] 38 173 [(.sidx r0 r3)]
 (.ite (.pick (.nt iQ) (.pick (ak r3 (pi 0)) pT (.nt r4)) pF)
 (.ret pF)
 (.next ⟨[],[]⟩))))))
 (.next ⟨[(3,rX)],[]⟩))
 (.exit 0 ⟨[(13,r3),(14,r0),(15,(.slen r0)),(16,(ah r3 (.slen r0)))],[]⟩))
def Ug (b:Nat→PC):PT:=
 (.ite (.pick (ah (.slen r0) (pi 1)) pT (bj (.slen r0) (pi 20)))
 (.ret pF)
 (.brk ⟨[(3,(pi 0)),(2,pF)],[]⟩
(an3 b)
 (.ret pT)))
def aji (b:Nat→PC):PT×List (Shp×PT):=(Ug b,[(.lp 0 [2,3,13,14,15,16] [] [2,3] [],Ek b)])
theorem P0:x9.map told=some (aji (aV x9)):=by kernel_rfl
theorem at4:tree (ab x9)=Ug MB:=bz P0
theorem RT:round 0 [2,3,13,14,15,16] [] [2,3] [] (MB 0)=Ek MB:=aQ P0 0 fun _=>rfl
def GV:Option PC:=cF [2] [] Tryz.f173 173 []
def Uf:PT:=
 (.ret (.pick (.pick (aX (.con (.v (.int .u8 97))) r0) (aX r0 (.con (.v (.int .u8 122)))) pF) pT (.pick (aX (.con (.v (.int .u8 65))) r0) (aX r0 (.con (.v (.int .u8 90)))) pF)))
theorem abN:GV.map told=some (Uf,[]):=by kernel_rfl
theorem at3:tree (ab GV)=Uf:=aI abN
def xY:Option PC:=cF [6,7] [] Tryz.f149 149 []
def MA:Nat→PC:=bf xY
def an0 (b:Nat→PC):PC:=.block 0 [6,7,8,9,10,11,16] [] (.loop [6,7] [] (b 0))
def Ei (b:Nat→PC):PT:=
 (.ite (.pick (ah r7 r1) (ah r7 (.llen r0)) pF)
 (.chk (ao r0 r7)
 (.ite (.cs .eql (pn r0 r7) r2)
 (.ret pT)
 (.next ⟨[(7,ud)],[]⟩)))
 (.exit 0 ⟨[(8,r7),(9,r1),(10,(ah r7 r1)),(11,(ah r7 r1)),(16,(.pick (ah r7 r1) (ah r7 (.llen r0)) pF))],[]⟩))
def Uc (b:Nat→PC):PT:=
 (.brk ⟨[(7,(pi 0)),(6,pF)],[]⟩
(an0 b)
 (.ret pF))
def ajg (b:Nat→PC):PT×List (Shp×PT):=(Uc b,[(.lp 0 [6,7,8,9,10,11,16] [] [6,7] [],Ei b)])
theorem PZ:xY.map told=some (ajg (aV xY)):=by kernel_rfl
theorem atZ:tree (ab xY)=Uc MA:=bz PZ
theorem RS:round 0 [6,7,8,9,10,11,16] [] [6,7] [] (MA 0)=Ei MA:=aQ PZ 0 fun _=>rfl
def ya:Option PC:=cF [4,5] [] Tryz.f106 106 [2,3]
def MC:Nat→PC:=bf ya
def an4 (b:Nat→PC):PC:=.block 0 [4,5,36,37,38,39,40] [] (.loop [4,5] [] (b 0))
def El (b:Nat→PC):PT:=
 (.ite (ah r5 AB)
 (.blockS ⟨[],[]⟩ 1 [4,43,44,45,46,47,48,49,50,51,60] []
 (.chk (ao (pc o3 4) r5)
 (.chk wX
 (.call ⟨[],[]⟩ [] 49 107 [(.ai .quo .i64 (pn (pc o3 4) r5) (pi 100)),(pi 1),(pi 12)]
 (.chk (.nt (.an (.an (.nt (.nt nH)) pT) (.nt (ao (pc o3 4) r5))))
 (.chk (.nt (.an (.an (.nt (.nt nH)) pT) (.nt wX)))
 (.call ⟨[(51,(.nt nH))],[]⟩ [(51,false)] 58 107 [(.ai .rem .i64 (pn (pc o3 4) r5) (pi 100)),(pi 1),(pi 31)]
 (.ite (.pick r51 pT (.nt AK))
 (.ret pF)
 (.next ⟨[],[]⟩))))))))
 (.next ⟨[(5,lH)],[]⟩))
 (.exit 0 ⟨[(36,r5),(37,pN),(38,(pc o3 4)),(39,AB),(40,(ah r5 AB))],[]⟩))
def Ui (b:Nat→PC):PT:=
 (.call ⟨[(4,pF)],[(3,(.mk [r1])),(2,(.mk [r0]))]⟩ [] 12 107 [(pc (.mk [r1]) 1),(pi 0),(aY (.llen ub) (pi 1))]
 (.call ⟨[(14,(.nt bR))],[]⟩ [(14,false)] 21 107 [(pc o3 2),(pi 0),(aY (.llen (pc o2 0)) (pi 1))]
 (.ite (.pick (.pick (.pick ct pT (.nt fB)) pT (bj AB (pi 60))) pT (bj (.llen (pc o3 5)) (pi 200)))
 (.ret pF)
 (.brk ⟨[(5,(pi 0))],[]⟩
(an4 b)
 (.call ⟨[],[]⟩ [] 63 150 [(pc o3 3),(pi 0),(pi 6)]
 (.call ⟨[(64,w7)],[]⟩ [(64,true)] 67 150 [(pc o3 4),(pi 0),(pi 2000)]
 (.call ⟨[(69,(.pick AL qj pF))],[]⟩ [(69,true)] 72 150 [(pc o3 5),(pi 0),(pi 100000)]
 (.ret (.pick qk RF pF)))))))))
def ajj (b:Nat→PC):PT×List (Shp×PT):=(Ui b,[(.lp 0 [4,5,36,37,38,39,40] [] [4,5] [],El b)])
theorem P1:ya.map told=some (ajj (aV ya)):=by kernel_rfl
theorem at6:tree (ab ya)=Ui MC:=bz P1
theorem RU:round 0 [4,5,36,37,38,39,40] [] [4,5] [] (MC 0)=El MC:=aQ P1 0 fun _=>rfl
def GX:Option PC:=cF [6] [] Tryz.f107 107 []
def Um:PT:=
 (.ret (.pick (aX r1 r0) (aX r0 r2) pF))
theorem abP:GX.map told=some (Um,[]):=by kernel_rfl
theorem auc:tree (ab GX)=Um:=aI abP
def yc:Option PC:=cF [6,7] [] Tryz.f150 150 []
def MD:Nat→PC:=bf yc
def an7 (b:Nat→PC):PC:=.block 0 [6,7,8,9,10,11] [] (.loop [6,7] [] (b 0))
def Eo (b:Nat→PC):PT:=
 (.ite (ah r7 (.llen r0))
 (.blockS ⟨[],[]⟩ 1 [6,14,15,16,17,18,19,20,21,22,23,24,35] []
 (.chk (ao r0 r7)
 (.call ⟨[],[]⟩ [] 20 107 [(pn r0 r7),r1,r2]
 (.ite (.nt eA)
 (.ret pF)
 (.chk (.nt (.an (.an (bj r7 (pi 0)) pT) (.nt (ao r0 (aY r7 (pi 1))))))
 (.chk (.nt (.an (.an (bj r7 (pi 0)) pT) (.nt (ao r0 r7))))
 (.ite (.pick (bj r7 (pi 0)) (bN (pn r0 (aY r7 (pi 1))) (pn r0 r7)) pF)
 (.ret pF)
 (.next ⟨[],[]⟩)))))))
 (.next ⟨[(7,ud)],[]⟩))
 (.exit 0 ⟨[(8,r7),(9,r0),(10,(.llen r0)),(11,(ah r7 (.llen r0)))],[]⟩))
def Uk (b:Nat→PC):PT:=
 (.brk ⟨[(7,(pi 0)),(6,pF)],[]⟩
(an7 b)
 (.ret pT))
def ajl (b:Nat→PC):PT×List (Shp×PT):=(Uk b,[(.lp 0 [6,7,8,9,10,11] [] [6,7] [],Eo b)])
theorem P2:yc.map told=some (ajl (aV yc)):=by kernel_rfl
theorem aua:tree (ab yc)=Uk MD:=bz P2
theorem RX:round 0 [6,7,8,9,10,11] [] [6,7] [] (MD 0)=Eo MD:=aQ P2 0 fun _=>rfl
def yf:Option PC:=cF [2,3,5,6] [] Tryz.f59 59 [1,4,44]
def BF:Nat→PC:=bf yf
def aob (b:Nat→PC):PC:=.block 0 [2,3,11,12,13,14,15] [] (.loop [2,3] [] (b 0))
def aoc (b:Nat→PC):PC:=.block 2 [2,4,5,30,31,32,33,34] [4] (.loop [2,4,5] [4] (b 1))
def Et (b:Nat→PC):PT:=
 (.ite (ah r3 mK)
 (.blockS ⟨[],[]⟩ 1 [2,18,19,20,21,22,23,24,25] []
 (.chk (ao (pc o1 2) r3)
 (.call ⟨[],[]⟩ [] 24 107 [(pc (pn (pc o1 2) r3) 0),(pi 0),(pi 9)]
 (.ite (.nt nC)
 (.ret (pi 1))
 (.next ⟨[],[]⟩))))
 (.next ⟨[(3,rX)],[]⟩))
 (.exit 0 ⟨[(11,r3),(12,pN),(13,(pc o1 2)),(14,mK),(15,(ah r3 mK))],[]⟩))
def Eu (b:Nat→PC):PT:=
 (.ite (ah r5 mJ)
 (.blockS ⟨[],[]⟩ 3 [2,4,6,38,39,40,41,42,43,44,45,46,47,48,49,50,52,53,54,55,56,57,58,59,60,61,62,63,64,77] [44,4]
 (.chk (ao (pc o1 3) r5)
 (.chk (aX (.llen Rd) cj)
 (.call ⟨[(4,pN)],[(4,Rd)]⟩ [] 48 105 [Rd,r5]
 (.ite (aP kf (pi 0))
 (.ret kf)
 (.chk (ao (pc o1 3) r5)
 (.call ⟨[],[]⟩ [] 62 107 [(pc (pn (pc o1 3) r5) 1),(pi 0),(aY kK (pi 1))]
 (.chk (.nt (.an (.an (.nt (.nt qh)) pT) (.nt (ao (pc o1 3) r5))))
 (.call ⟨[(64,(.nt qh))],[]⟩ [(64,false)] 75 107 [(pc (pn (pc o1 3) r5) 2),(pi 0),(aY mK (pi 1))]
 (.ite (.pick AL pT (.nt Eb))
 (.ret (pi 1))
 (.next ⟨[],[]⟩))))))))))
 (.next ⟨[(5,lH)],[]⟩))
 (.exit 2 ⟨[(30,r5),(31,pN),(32,(pc o1 3)),(33,mJ),(34,(ah r5 mJ))],[]⟩))
def Uo (b:Nat→PC):PT:=
 (.ite (bj oU (pi 20))
 (.ret (pi 6))
 (.brk ⟨[(3,(pi 0)),(2,(pi 0))],[(1,(.mk [r0]))]⟩
(aob b)
 (.ite (bj mJ (pi 200))
 (.ret (pi 6))
 (.brk ⟨[(5,(pi 0)),(4,pN)],[(4,pL)]⟩
(aoc b)
 (.ret (pi 0))))))
def ajo (b:Nat→PC):PT×List (Shp×PT):=(Uo b,[(.lp 0 [2,3,11,12,13,14,15] [] [2,3] [],Et b),(.lp 2 [2,4,5,30,31,32,33,34] [4] [2,4,5] [4],Eu b)])
theorem JE:yf.map told=some (ajo (aV yf)):=by kernel_rfl
theorem aue:tree (ab yf)=Uo BF:=bz JE
theorem R1:round 0 [2,3,11,12,13,14,15] [] [2,3] [] (BF 0)=Et BF:=aQ JE 0 fun _=>rfl
theorem R2:round 2 [2,4,5,30,31,32,33,34] [4] [2,4,5] [4] (BF 1)=Eu BF:=aQ JE 1 fun _=>rfl
def yg:Option PC:=cF [2,4,5] [] Tryz.f60 60 [1,3,24]
def MF:Nat→PC:=bf yg
def aod (b:Nat→PC):PC:=.block 0 [2,3,4,10,11,12,13,14] [3] (.loop [2,3,4] [3] (b 0))
def Ev (b:Nat→PC):PT:=
 (.ite (ah r4 nz)
 (.blockS ⟨[],[]⟩ 1 [2,3,5,18,19,20,21,22,23,24,25,26,27,28,29,30,32,33,34,35,36,37,38] [24,3]
 (.chk (ao (pc o1 4) r4)
 (.chk (aX (.llen (.app o3 (.lst [(pc wP 0)]))) cj)
 (.call ⟨[(3,pN)],[(3,(.app o3 (.lst [(pc wP 0)])))]⟩ [] 28 105 [(.app o3 (.lst [(pc wP 0)])),r4]
 (.ite (aP nD (pi 0))
 (.ret nD)
 (.chk (ao (pc o1 4) r4)
 (.call ⟨[],[]⟩ [] 37 108 [wP]
 (.ite (.nt nG)
 (.ret (pi 1))
 (.next ⟨[],[]⟩))))))))
 (.next ⟨[(4,(aD r4 (pi 1)))],[]⟩))
 (.exit 0 ⟨[(10,r4),(11,pN),(12,(pc o1 4)),(13,nz),(14,(ah r4 nz))],[]⟩))
def Uq (b:Nat→PC):PT:=
 (.ite (bj (.llen ub) (pi 20))
 (.ret (pi 6))
 (.brk ⟨[(4,(pi 0)),(3,pN),(2,(pi 0))],[(3,pL),(1,(.mk [r0]))]⟩
(aod b)
 (.ret (pi 0))))
def ajp (b:Nat→PC):PT×List (Shp×PT):=(Uq b,[(.lp 0 [2,3,4,10,11,12,13,14] [3] [2,3,4] [3],Ev b)])
theorem P4:yg.map told=some (ajp (aV yg)):=by kernel_rfl
theorem aug:tree (ab yg)=Uq MF:=bz P4
theorem R3:round 0 [2,3,4,10,11,12,13,14] [3] [2,3,4] [3] (MF 0)=Ev MF:=aQ P4 0 fun _=>rfl
def yb:Option PC:=cF [2,3,4] [] Tryz.f108 108 [1]
def BD:Nat→PC:=bf yb
def an5 (b:Nat→PC):PC:=.block 0 [2,3,5,6,7,8,9] [] (.loop [2,3] [] (b 0))
def an6 (b:Nat→PC):PC:=.block 2 [2,4,48,49,50,51,52] [] (.loop [2,4] [] (b 1))
def Em (b:Nat→PC):PT:=
 (.ite (ah r3 mK)
 (.blockS ⟨[],[]⟩ 1 [2,12,13,14,15,16,17,18,19,20,29,30,31,32,47] []
 (.chk (ao (pc o1 2) r3)
 (.call ⟨[],[]⟩ [] 18 107 [(pc (pn (pc o1 2) r3) 0),(pi 0),(pi 21)]
 (.chk (.nt (.an (.an (.nt (.nt ij)) pT) (.nt (ao (pc o1 2) r3))))
 (.call ⟨[(20,(.nt ij))],[]⟩ [(20,false)] 27 107 [(pc (pn (pc o1 2) r3) 1),(pi 0),(pi 4)]
 (.ite (.pick eA pT (.nt eC))
 (.ret pF)
 (.chk (.nt (.an (.an (bj r3 (pi 0)) pT) (.nt (ao (pc o1 2) (aY r3 (pi 1))))))
 (.chk (.nt (.an (.an (bj r3 (pi 0)) pT) (.nt (ao (pc o1 2) r3))))
 (.ite (.pick (bj r3 (pi 0)) (bN (pc (pn (pc o1 2) (aY r3 (pi 1))) 0) (pc (pn (pc o1 2) r3) 0)) pF)
 (.ret pF)
 (.next ⟨[],[]⟩)))))))))
 (.next ⟨[(3,rX)],[]⟩))
 (.exit 0 ⟨[(5,r3),(6,pN),(7,(pc o1 2)),(8,mK),(9,(ah r3 mK))],[]⟩))
def En (b:Nat→PC):PT:=
 (.ite (ah r4 mJ)
 (.blockS ⟨[],[]⟩ 3 [2,55,56,57,58,59,60,61,62,63,64,65,80] []
 (.chk (ao (pc o1 3) r4)
 (.call ⟨[],[]⟩ [] 61 107 [(pc (pn (pc o1 3) r4) 0),(pi 0),(pi 21)]
 (.ite (.nt Kl)
 (.ret pF)
 (.chk (.nt (.an (.an (bj r4 (pi 0)) pT) (.nt (ao (pc o1 3) (aY r4 (pi 1))))))
 (.chk (.nt (.an (.an (bj r4 (pi 0)) pT) (.nt (ao (pc o1 3) r4))))
 (.ite (.pick (bj r4 (pi 0)) (bN (pc (pn (pc o1 3) (aY r4 (pi 1))) 0) (pc (pn (pc o1 3) r4) 0)) pF)
 (.ret pF)
 (.next ⟨[],[]⟩)))))))
 (.next ⟨[(4,(aD r4 (pi 1)))],[]⟩))
 (.exit 2 ⟨[(48,r4),(49,pN),(50,(pc o1 3)),(51,mJ),(52,(ah r4 mJ))],[]⟩))
def Uj (b:Nat→PC):PT:=
 (.brk ⟨[(3,(pi 0)),(2,pF)],[(1,(.mk [r0]))]⟩
(an5 b)
 (.brk ⟨[(4,(pi 0))],[]⟩
(an6 b)
 (.ret pT)))
def ajk (b:Nat→PC):PT×List (Shp×PT):=(Uj b,[(.lp 0 [2,3,5,6,7,8,9] [] [2,3] [],Em b),(.lp 2 [2,4,48,49,50,51,52] [] [2,4] [],En b)])
theorem JC:yb.map told=some (ajk (aV yb)):=by kernel_rfl
theorem at7:tree (ab yb)=Uj BD:=bz JC
theorem RV:round 0 [2,3,5,6,7,8,9] [] [2,3] [] (BD 0)=Em BD:=aQ JC 0 fun _=>rfl
theorem RW:round 2 [2,4,48,49,50,51,52] [] [2,4] [] (BD 1)=En BD:=aQ JC 1 fun _=>rfl
def yi:Option PC:=cF [2,3,5] [] Tryz.f61 61 [1,4]
def BH:Nat→PC:=bf yi
def aog (b:Nat→PC):PC:=.block 2 [2,5,46,47,48] [] (.loop [2,5] [] (b 0))
def aoh (b:Nat→PC):PC:=.block 0 [2,3,10,11,12,13,14] [] (.loop [2,3] [] (b 1))
def AN (b:Nat→PC):PT:=
 (.ite (ah r5 r3)
 (.chk (ao (pc o1 5) r5)
 (.chk (.nt (.an (.an (ak (pc (pn (pc o1 5) r5) 0) (pc o4 0)) pT) (.nt (ao (pc o1 5) r5))))
 (.ite (.pick (ak (pc (pn (pc o1 5) r5) 0) (pc o4 0)) (ak (pc (pn (pc o1 5) r5) 1) (pc o4 1)) pF)
 (.ret (pi 5))
 (.next ⟨[(5,lH)],[]⟩))))
 (.exit 2 ⟨[(46,r5),(47,r3),(48,(ah r5 r3))],[]⟩))
def Ey (b:Nat→PC):PT:=
 (.ite (ah r3 AE)
 (.blockS ⟨[(14,(ah r3 AE)),(13,AE),(12,(pc o1 5)),(11,pN),(10,r3)],[]⟩ 1 [2,4,5,17,18,19,20,21,22,23,24,25,26,27,28,29,30,39,40,45,46,47,48] [4]
 (.chk (ao (pc o1 5) r3)
 (.call ⟨[],[(4,(.setc z3 0 (pn (pc o1 5) r3)))]⟩ [] 28 107 [(pc (.setc z3 0 (pn (pc o1 5) r3)) 0),(pi 0),(aY kK (pi 1))]
 (.call ⟨[(30,(.nt nD))],[]⟩ [(30,false)] 37 107 [(pc o4 1),(pi 0),(aY kK (pi 1))]
 (.call ⟨[(40,(.pick nE pT (.nt nG)))],[]⟩ [(40,false)] 43 107 [(pc o4 2),(pi 1),(pi 20000)]
 (.ite (.pick lJ pT (.nt rZ))
 (.ret (pi 1))
 (.brk ⟨[(5,(pi 0))],[]⟩
(aog b)
 (.next ⟨[],[]⟩)))))))
 (.next ⟨[(3,rX)],[]⟩))
 (.exit 0 ⟨[(10,r3),(11,pN),(12,(pc o1 5)),(13,AE),(14,(ah r3 AE))],[]⟩))
def Us (b:Nat→PC):PT:=
 (.ite (bj (.llen ua) (pi 100))
 (.ret (pi 6))
 (.brk ⟨[(3,(pi 0)),(2,(pi 0))],[(1,(.mk [r0]))]⟩
(aoh b)
 (.ret (pi 0))))
def ajr (b:Nat→PC):PT×List (Shp×PT):=(Us b,[(.lp 2 [2,5,46,47,48] [] [2,5] [],AN b),(.lp 0 [2,3,10,11,12,13,14] [] [2,3] [],Ey b)])
theorem JG:yi.map told=some (ajr (aV yi)):=by kernel_rfl
theorem aui:tree (ab yi)=Us BH:=bz JG
theorem Ky:round 2 [2,5,46,47,48] [] [2,5] [] (BH 0)=AN BH:=aQ JG 0 fun _=>rfl
theorem R6:round 0 [2,3,10,11,12,13,14] [] [2,3] [] (BH 1)=Ey BH:=aQ JG 1 fun _=>rfl
def yh:Option PC:=cF [2,3,5] [] Tryz.f62 62 [1,4,6]
def BG:Nat→PC:=bf yh
def aoe (b:Nat→PC):PC:=.block 0 [2,3,11,12,13,14,15] [] (.loop [2,3] [] (b 0))
def aof (b:Nat→PC):PC:=.block 2 [2,5,68,69,70,71,72] [] (.loop [2,5] [] (b 1))
def Ew (b:Nat→PC):PT:=
 (.ite (ah r3 (.llen (pc o1 6)))
 (.blockS ⟨[],[]⟩ 1 [2,4,18,19,20,21,22,23,24,25,26,27,28,29,30,31,40,41,47,48,49,50,51,52,57,58,63] [4]
 (.chk (ao (pc o1 6) r3)
 (.call ⟨[],[(4,(.setc z5 0 (pn (pc o1 6) r3)))]⟩ [] 29 107 [(pc (.setc z5 0 (pn (pc o1 6) r3)) 0),(pi 0),(aY uc (pi 1))]
 (.call ⟨[(31,(.nt kL))],[]⟩ [(31,false)] 38 107 [(pc o4 1),(pi 0),(aY uc (pi 1))]
 (.ite (.pick (.pick kM pT (.nt iQ)) pT (ak (pc o4 0) (pc o4 1)))
 (.ret (pi 1))
 (.call ⟨[],[]⟩ [] 50 107 [(pc o4 2),(pi 1),(pi 1073741824)]
 (.call ⟨[(52,(.nt nI))],[]⟩ [(52,false)] 55 107 [(pc o4 3),(pi 1),(pi 1073741824)]
 (.call ⟨[(58,(.pick sc pT (.nt ug)))],[]⟩ [(58,false)] 61 107 [(pc o4 4),(pi 0),(pi 100000)]
 (.ite (.pick AK pT (.nt Kl))
 (.ret (pi 1))
 (.next ⟨[],[]⟩)))))))))
 (.next ⟨[(3,rX)],[]⟩))
 (.exit 0 ⟨[(11,r3),(12,pN),(13,(pc o1 6)),(14,(.llen (pc o1 6))),(15,(ah r3 (.llen (pc o1 6))))],[]⟩))
def Ex (b:Nat→PC):PT:=
 (.ite (ah r5 wQ)
 (.blockS ⟨[],[]⟩ 3 [2,6,75,76,77,78,79,80,81,82,83,84,85,86,87,88,95,96,100] [6]
 (.chk (ao (pc o1 7) r5)
 (.call ⟨[],[(6,(.setc z3 0 (pn (pc o1 7) r5)))]⟩ [] 86 107 [(pc (.setc z3 0 (pn (pc o1 7) r5)) 0),(pi 0),(aY nz (pi 1))]
 (.call ⟨[(88,(.nt RH))],[]⟩ [(88,false)] 93 107 [(pc o6 1),(pi 0),(pc o6 2)]
 (.ite (.pick (.pick se pT (.nt RJ)) pT (bj (pc o6 2) (pi 100000)))
 (.ret (pi 1))
 (.next ⟨[],[]⟩)))))
 (.next ⟨[(5,lH)],[]⟩))
 (.exit 2 ⟨[(68,r5),(69,pN),(70,(pc o1 7)),(71,wQ),(72,(ah r5 wQ))],[]⟩))
def Ur (b:Nat→PC):PT:=
 (.ite (bj (.llen (pc (.mk [r0]) 6)) (pi 100))
 (.ret (pi 6))
 (.brk ⟨[(3,(pi 0)),(2,(pi 0))],[(1,(.mk [r0]))]⟩
(aoe b)
 (.ite (bj wQ (pi 20))
 (.ret (pi 6))
 (.brk ⟨[(5,(pi 0))],[]⟩
(aof b)
 (.ret (pi 0))))))
def ajq (b:Nat→PC):PT×List (Shp×PT):=(Ur b,[(.lp 0 [2,3,11,12,13,14,15] [] [2,3] [],Ew b),(.lp 2 [2,5,68,69,70,71,72] [] [2,5] [],Ex b)])
theorem JF:yh.map told=some (ajq (aV yh)):=by kernel_rfl
theorem auh:tree (ab yh)=Ur BG:=bz JF
theorem R4:round 0 [2,3,11,12,13,14,15] [] [2,3] [] (BG 0)=Ew BG:=aQ JF 0 fun _=>rfl
theorem R5:round 2 [2,5,68,69,70,71,72] [] [2,5] [] (BG 1)=Ex BG:=aQ JF 1 fun _=>rfl
def Hw:Option PC:=cF [11] [] Tryz.f8 8 [5,7,10,12]
def U4:PT:=
 (.call ⟨[],[(10,rV),(7,(.mk [r2])),(5,(.mk [r0]))]⟩ [] 15 28 [tZ,r4]
 (.ite (.pick (ah r3 (pi 0)) pT (bN r3 (.llen (pc (.setc jL 0 dx) 15))))
 (.ret (.tup [adq,pF]))
 (.call ⟨[],[]⟩ [] 31 29 [(ar 8 o5),r1,(ar 19 o7),r3,r4]
 (.ret (.tup [(ar 7 (.setc bI 0 kM)),pT])))))
theorem acq:Hw.map told=some (U4,[]):=by kernel_rfl
theorem ava:tree (ab Hw)=U4:=aI acq
end Rm
