/-
  The functions of this seat, compiled (3).
-/
import Derived.Test.YtodhjdbleiakeaaGreatDoorNAK
import Derived.KernelRfl
set_option linter.unusedVariables false
set_option maxRecDepth 100000
namespace Rm
open Go Go.Proofs Cx
noncomputable def Br:Option PC:=aD {ctx with fr:=[2,3,4,5,6,7,10,11,12],nh:=[]} Tryz.f54 ((ab af 54).getD default) [1,9]
noncomputable def Kv:PC:=az Br
noncomputable def NN:Nat→PC:=bG Br
def awH (b:Nat→PC):PC:=.block 0 [2,38,39] [] (.loop [2,38] [] (b 0))
def EG (b:Nat→PC):PT:=
 (.ite (aj iv kH)
 (.blockS ⟨[],[]⟩ 1 [2,9,40,41,42,43,44,45] [9]
 (.chk (av kG iv)
 (.call ⟨[],[]⟩ [] 44 91 [(pc (.setc D9 0 (pn kG iv)) 0),(pi 10)]
 (.ite (.nt ua)
 (.ret (pi 1))
 (.next ⟨[],[]⟩))))
 (.next ⟨[(38,(aP iv (pi 1)))],[]⟩))
 (.exit 0 ⟨[(39,(aj iv kH))],[]⟩))
def VP (b:Nat→PC):PT:=
 (.call ⟨[(2,(pi 0))],[(1,(.mk [r0]))]⟩ [] 15 129 [kD]
 (.call ⟨[(5,(.tget gg 2)),(4,(.tget gg 1)),(3,(.tget gg 0))],[]⟩ [] 21 130 [(pc o1 0),(pi 8),(.con (.clo 131 []))]
 (.ite (ba lV (pi 0))
 (.ret lV)
 (.call ⟨[],[(1,(aC 8 o1))]⟩ [] 27 130 [r3,(pi 40),(.clo 132 [(.ref (aC 8 o1))])]
 (.ite (ba eK (pi 0))
 (.ret eK)
 (.ite (bh qD (pi 20))
 (.ret (pi 6))
 (.brk ⟨[(38,(pi 0)),(37,qD),(36,(pc o1 2))],[]⟩
(awH b)
 (.call ⟨[],[]⟩ [] 49 130 [r4,(pi 200),(.clo 134 [(.ref o1)])]
 (.ite (ba mU (pi 0))
 (.ret mU)
 (.call ⟨[],[]⟩ [] 55 130 [r5,(pi 20),(.clo 135 [(.ref o1)])]
 (.ite (ba zy (pi 0))
 (.ret zy)
 (.call ⟨[],[]⟩ [] 60 137 [(.sub o1 0 8)]
 (.ite (ba Eg (pi 0))
 (.ret Eg)
 (.call ⟨[],[]⟩ [] 65 138 [(.sub o1 0 8)]
 (.ret zA)))))))))))))))
def ari (b:Nat→PC):PT×List (Shp×PT):=(VP b,[(.lp 0 [2,38,39] [] [2,38] [],EG b)])
theorem Sb:Br.map told=some (ari (ay Br)):=by kernel_rfl
theorem aC5:tree Kv=VP NN:=aN Sb
theorem TR:round 0 [2,38,39] [] [2,38] [] (NN 0)=EG NN:=bx Sb 0 fun _=>rfl
theorem ann:Br=some Kv:=aF Sb
noncomputable def Bw:Option PC:=aD {ctx with fr:=[],nh:=[]} Tryz.f129 ((ab af 129).getD default) [1,2,3,4,6,16390,20486,24582,21,8,34,10,12298,16394,47]
noncomputable def KI:PC:=az Bw
noncomputable def uV:Nat→PC:=bG Bw
def awM (b:Nat→PC):PC:=.block 0 [2,14,15] [2] (.loop [2,14] [2] (b 0))
def awN (b:Nat→PC):PC:=.block 2 [3,27,28] [3] (.loop [3,27] [3] (b 1))
def awO (b:Nat→PC):PC:=.block 4 [4,40,41] [4] (.loop [4,40] [4] (b 2))
def L9 (b:Nat→PC):PT:=
 (.ite sl
 (.chk (av bY dv)
 (.chk (bV (.llen agi) cW)
 (.next ⟨[(2,pN),(14,zw)],[(2,agi)]⟩)))
 (.exit 0 ⟨[(15,sl)],[]⟩))
def Ma (b:Nat→PC):PT:=
 (.ite (aj eK ld)
 (.chk (av iZ eK)
 (.chk (bV (.llen agn) cW)
 (.next ⟨[(3,pN),(27,(aP eK (pi 1)))],[(3,agn)]⟩)))
 (.exit 2 ⟨[(28,(aj eK ld))],[]⟩))
def Mb (b:Nat→PC):PT:=
 (.ite (aj nW Ee)
 (.chk (av iv nW)
 (.chk (bV (.llen agj) cW)
 (.next ⟨[(4,pN),(40,(aP nW (pi 1)))],[(4,agj)]⟩)))
 (.exit 4 ⟨[(41,(aj nW Ee))],[]⟩))
def V0 (b:Nat→PC):PT:=
 (.brk ⟨[(14,(pi 0)),(13,(.llen sk)),(12,sk),(4,pN),(3,pN),(2,pN)],[(4,pL),(3,pL),(2,pL),(1,(.mk [r0]))]⟩
(awM b)
 (.brk ⟨[(27,(pi 0)),(26,mT),(25,(pc o1 3))],[]⟩
(awN b)
 (.brk ⟨[(40,(pi 0)),(39,nT),(38,(pc o1 4))],[]⟩
(awO b)
 (.ret (.tup [o2,o3,o4])))))
def arw (b:Nat→PC):PT×List (Shp×PT):=(V0 b,[(.lp 0 [2,14,15] [2] [2,14] [2],L9 b),(.lp 2 [3,27,28] [3] [3,27] [3],Ma b),(.lp 4 [4,40,41] [4] [4,40] [4],Mb b)])
theorem DR:Bw.map told=some (arw (ay Bw)):=by kernel_rfl
theorem aDc:tree KI=V0 uV:=aN DR
theorem agR:round 0 [2,14,15] [2] [2,14] [2] (uV 0)=L9 uV:=bx DR 0 fun _=>rfl
theorem agS:round 2 [3,27,28] [3] [3,27] [3] (uV 1)=Ma uV:=bx DR 1 fun _=>rfl
theorem agT:round 4 [4,40,41] [4] [4,40] [4] (uV 2)=Mb uV:=bx DR 2 fun _=>rfl
theorem anv:Bw=some KI:=aF DR
noncomputable def Bu:Option PC:=aD {ctx with fr:=[6,7,8],nh:=[]} Tryz.f130 ((ab af 130).getD default) []
noncomputable def KE:PC:=az Bu
noncomputable def NQ:Nat→PC:=bG Bu
def awK (b:Nat→PC):PC:=.block 0 [6,15,16] [] (.loop [6,15] [] (b 0))
def EI (b:Nat→PC):PT:=
 (.ite (aj gg dv)
 (.blockS ⟨[],[]⟩ 1 [6,7,8,17,18,19,20,21,22,24,25,26,27] []
 (.call ⟨[(7,gg)],[]⟩ [] 20 204 [r0,gg]
 (.ite (ba ed (pi 0))
 (.ret ed)
 (.callc ⟨[],[]⟩ [] 26 r2 [r7]
 (.ite (.nt ld)
 (.ret (pi 1))
 (.next ⟨[],[]⟩)))))
 (.next ⟨[(15,(aP gg (pi 1)))],[]⟩))
 (.exit 0 ⟨[(16,(aj gg dv))],[]⟩))
def VW (b:Nat→PC):PT:=
 (.ite (bh (.llen r0) r1)
 (.ret (pi 6))
 (.brk ⟨[(15,(pi 0)),(14,(.llen r0)),(6,(pi 0))],[]⟩
(awK b)
 (.ret (pi 0))))
def ars (b:Nat→PC):PT×List (Shp×PT):=(VW b,[(.lp 0 [6,15,16] [] [6,15] [],EI b)])
theorem Se:Bu.map told=some (ars (ay Bu)):=by kernel_rfl
theorem aC8:tree KE=VW NQ:=aN Se
theorem TU:round 0 [6,15,16] [] [6,15] [] (NQ 0)=EI NQ:=bx Se 0 fun _=>rfl
theorem anr:Bu=some KE:=aF Se
noncomputable def GZ:Option PC:=aD {ctx with fr:=[4],nh:=[]} Tryz.f204 ((ab af 204).getD default) []
noncomputable def KH:PC:=az GZ
def VZ:PT:=
 (.chk (av r0 r1)
 (.call ⟨[],[]⟩ [] 9 244 [(pn r0 r1)]
 (.ite (.nt r9)
 (.ret (pi 2))
 (.chk (.slok r0 (pi 0) r1)
 (.chk (av r0 r1)
 (.call ⟨[],[]⟩ [] 18 245 [(.slc r0 (pi 0) r1),(pn r0 r1)]
 (.ite gT
 (.ret (pi 5))
 (.ret (pi 0)))))))))
def arv (b:Nat→PC):PT×List (Shp×PT):=(VZ,[])
theorem afe:GZ.map told=some (arv (ay GZ)):=by kernel_rfl
theorem aDb:tree KH=VZ:=aN afe
theorem anu:GZ=some KH:=aF afe
noncomputable def Bv:Option PC:=aD {ctx with fr:=[2,3,4,5],nh:=[]} Tryz.f244 ((ab af 244).getD default) []
noncomputable def KG:PC:=az Bv
noncomputable def NR:Nat→PC:=bG Bv
def awL (b:Nat→PC):PC:=.block 0 [2,16,17] [] (.loop [2,16] [] (b 0))
def EJ (b:Nat→PC):PT:=
 (.ite (aj dM gg)
 (.chk (av dv dM)
 (.ite (.pick (.nt (.pick (.pick (bR qH (.con (.v (.int .u8 97)))) (bV qH (.con (.v (.int .u8 122)))) pF) pT (.pick (bR qH (.con (.v (.int .u8 65)))) (bV qH (.con (.v (.int .u8 90)))) pF))) (.pick (aq dM (pi 0)) pT (.pick (ba qH (.con (.v (.int .u8 95)))) (.pick (aj qH (.con (.v (.int .u8 48)))) pT (bh qH (.con (.v (.int .u8 57))))) pF)) pF)
 (.ret pF)
 (.next ⟨[(16,(aP dM (pi 1)))],[]⟩)))
 (.exit 0 ⟨[(17,(aj dM gg))],[]⟩))
def VY (b:Nat→PC):PT:=
 (.ite (.pick (.cs .eql r0 (.con (.v (.string ⟨#[]⟩)))) pT (bh (.slen r0) (pi 20)))
 (.ret pF)
 (.chk (bV (.slen r0) cW)
 (.brk ⟨[(16,(pi 0)),(15,(.llen (.bytes r0))),(14,(.bytes r0)),(2,pF)],[]⟩
(awL b)
 (.ret pT))))
def aru (b:Nat→PC):PT×List (Shp×PT):=(VY b,[(.lp 0 [2,16,17] [] [2,16] [],EJ b)])
theorem Sf:Bv.map told=some (aru (ay Bv)):=by kernel_rfl
theorem aDa:tree KG=VY NR:=aN Sf
theorem TV:round 0 [2,16,17] [] [2,16] [] (NR 0)=EJ NR:=bx Sf 0 fun _=>rfl
theorem ant:Bv=some KG:=aF Sf
noncomputable def G5:Option PC:=aD {ctx with fr:=[4],nh:=[]} Tryz.f245 ((ab af 245).getD default) []
noncomputable def KY:PC:=az G5
def Wf:PT:=
 (.call ⟨[],[]⟩ [] 7 279 [r0,r1]
 (.ret (bR r7 (pi 0))))
def arO (b:Nat→PC):PT×List (Shp×PT):=(Wf,[])
theorem afl:G5.map told=some (arO (ay G5)):=by kernel_rfl
theorem aDt:tree KY=Wf:=aN afl
theorem anK:G5=some KY:=aF afl
noncomputable def BJ:Option PC:=aD {ctx with fr:=[4,5],nh:=[]} Tryz.f279 ((ab af 279).getD default) []
noncomputable def K5:PC:=az BJ
noncomputable def NY:Nat→PC:=bG BJ
def axb (b:Nat→PC):PC:=.block 0 [4,8,9] [] (.loop [4,8] [] (b 0))
def E0 (b:Nat→PC):PT:=
 (.ite (aj r8 r7)
 (.chk (av r0 r8)
 (.ite (.cs .eql r1 (pn r0 r8))
 (.ret r8)
 (.next ⟨[(8,wF)],[]⟩)))
 (.exit 0 ⟨[(9,(aj r8 r7))],[]⟩))
def Wk (b:Nat→PC):PT:=
 (.brk ⟨[(8,(pi 0)),(7,(.llen r0)),(4,(pi 0))],[]⟩
(axb b)
 (.ret (pi (-1))))
def arT (b:Nat→PC):PT×List (Shp×PT):=(Wk b,[(.lp 0 [4,8,9] [] [4,8] [],E0 b)])
theorem Sn:BJ.map told=some (arT (ay BJ)):=by kernel_rfl
theorem aDy:tree K5=Wk NY:=aN Sn
theorem Ue:round 0 [4,8,9] [] [4,8] [] (NY 0)=E0 NY:=bx Sn 0 fun _=>rfl
theorem anN:BJ=some K5:=aF Sn
noncomputable def GS:Option PC:=aD {ctx with fr:=[2],nh:=[]} Tryz.f131 ((ab af 131).getD default) []
noncomputable def Kw:PC:=az GS
def VQ:PT:=
 (.ret pT)
def arj (b:Nat→PC):PT×List (Shp×PT):=(VQ,[])
theorem ae8:GS.map told=some (arj (ay GS)):=by kernel_rfl
theorem aC1:tree Kw=VQ:=aN ae8
theorem anj:GS=some Kw:=aF ae8
noncomputable def GU:Option PC:=aD {ctx with fr:=[3],nh:=[]} Tryz.f132 ((ab af 132).getD default) []
noncomputable def Ky:PC:=az GU
def VR:PT:=
 (.chk (av (pc (.deref r1) 1) r0)
 (.call ⟨[],[]⟩ [] 10 133 [(.deref r1),(pn (pc (.deref r1) 1) r0)]
 (.ret cT)))
def ark (b:Nat→PC):PT×List (Shp×PT):=(VR,[])
theorem ae9:GU.map told=some (ark (ay GU)):=by kernel_rfl
theorem aC2:tree Ky=VR:=aN ae9
theorem ank:GU=some Ky:=aF ae9
noncomputable def Bt:Option PC:=aD {ctx with fr:=[4,6],nh:=[]} Tryz.f133 ((ab af 133).getD default) [2,3]
noncomputable def KD:PC:=az Bt
noncomputable def NP:Nat→PC:=bG Bt
def awJ (b:Nat→PC):PC:=.block 0 [4,10,11] [] (.loop [4,10] [] (b 0))
def EH (b:Nat→PC):PT:=
 (.ite (aj cT r9)
 (.chk (av r8 cT)
 (.chk zr
 (.chk (.nt (.an (.an (.nt (aj SY (pi 1))) pT) (.nt zr)))
 (.ite (.pick (aj SY (pi 1)) pT (bh SY (pi 31)))
 (.ret pF)
 (.next ⟨[(10,(aP cT (pi 1)))],[]⟩)))))
 (.exit 0 ⟨[(11,(aj cT r9))],[]⟩))
def VV (b:Nat→PC):PT:=
 (.brk ⟨[(10,(pi 0)),(9,(.llen (pc (.mk [r1]) 4))),(8,(pc (.mk [r1]) 4)),(4,pF)],[(3,(.mk [r1])),(2,(.mk [r0]))]⟩
(awJ b)
 (.call ⟨[(33,(.pick (bh (.llen (pc o3 4)) (pi 60)) pT (bh (.llen (pc o3 5)) (pi 200))))],[]⟩ [(33,false)] 39 91 [(pc o3 1),(.llen (pc o2 4))]
 (.call ⟨[(42,(.pick sm pT (.nt Ee)))],[]⟩ [(42,false)] 48 91 [(pc o3 2),(.llen (pc o2 0))]
 (.ite (.pick r42 pT (.nt lW))
 (.ret pF)
 (.call ⟨[],[]⟩ [] 53 205 [(pc o3 3),(pi 0),(pi 6)]
 (.call ⟨[(54,r53)],[]⟩ [(54,true)] 57 205 [(pc o3 4),(pi 101),(pi 1231)]
 (.call ⟨[(59,(.pick pz Ef pF))],[]⟩ [(59,true)] 62 205 [(pc o3 5),(pi 0),(pi 100000)]
 (.ret (.pick Tl mV pF)))))))))
def arq (b:Nat→PC):PT×List (Shp×PT):=(VV b,[(.lp 0 [4,10,11] [] [4,10] [],EH b)])
theorem Sd:Bt.map told=some (arq (ay Bt)):=by kernel_rfl
theorem aC7:tree KD=VV NP:=aN Sd
theorem TS:round 0 [4,10,11] [] [4,10] [] (NP 0)=EH NP:=bx Sd 0 fun _=>rfl
theorem anq:Bt=some KD:=aF Sd
noncomputable def Bz:Option PC:=aD {ctx with fr:=[6,7,8],nh:=[]} Tryz.f205 ((ab af 205).getD default) []
noncomputable def KL:PC:=az Bz
noncomputable def NS:Nat→PC:=bG Bz
def awT (b:Nat→PC):PC:=.block 0 [6,11,12] [] (.loop [6,11] [] (b 0))
def ug (b:Nat→PC):PT:=
 (.ite (aj bD cT)
 (.chk (av r9 bD)
 (.chk (.nt (.an (.an (bh bD (pi 0)) (.an (.nt (.pick (aj (pn r9 bD) r1) pT (bh (pn r9 bD) r2))) pT)) (.nt (av r0 (bC bD (pi 1))))))
 (.ite (.pick (.pick (aj (pn r9 bD) r1) pT (bh (pn r9 bD) r2)) pT (.pick (bh bD (pi 0)) (bV (pn r9 bD) (pn r0 (bC bD (pi 1)))) pF))
 (.ret pF)
 (.next ⟨[(11,(aP bD (pi 1)))],[]⟩))))
 (.exit 0 ⟨[(12,(aj bD cT))],[]⟩))
def V3 (b:Nat→PC):PT:=
 (.brk ⟨[(11,(pi 0)),(10,(.llen r0)),(9,r0),(6,pF)],[]⟩
(awT b)
 (.ret pT))
def arz (b:Nat→PC):PT×List (Shp×PT):=(V3 b,[(.lp 0 [6,11,12] [] [6,11] [],ug b)])
theorem Sg:Bz.map told=some (arz (ay Bz)):=by kernel_rfl
theorem aDf:tree KL=V3 NS:=aN Sg
theorem zJ:round 0 [6,11,12] [] [6,11] [] (NS 0)=ug NS:=bx Sg 0 fun _=>rfl
theorem anz:Bz=some KL:=aF Sg
noncomputable def GV:Option PC:=aD {ctx with fr:=[3],nh:=[]} Tryz.f134 ((ab af 134).getD default) []
noncomputable def Kz:PC:=az GV
def VS:PT:=
 (.chk (av (pc (.deref r1) 3) r0)
 (.call ⟨[],[]⟩ [] 13 91 [(pc (pn (pc (.deref r1) 3) r0) 1),(.llen (pc (.deref r1) 1))]
 (.chk (.nt (.an (.an dL pT) (.nt (av (pc (.deref r1) 3) r0))))
 (.call ⟨[(14,dL)],[]⟩ [(14,true)] 24 91 [(pc (pn (pc (.deref r1) 3) r0) 2),(.llen (pc (.deref r1) 2))]
 (.ret (.pick dv nU pF))))))
def arl (b:Nat→PC):PT×List (Shp×PT):=(VS,[])
theorem afa:GV.map told=some (arl (ay GV)):=by kernel_rfl
theorem aC3:tree Kz=VS:=aN afa
theorem anl:GV=some Kz:=aF afa
noncomputable def GW:Option PC:=aD {ctx with fr:=[3],nh:=[]} Tryz.f135 ((ab af 135).getD default) []
noncomputable def KA:PC:=az GW
def VT:PT:=
 (.chk (av (pc (.deref r1) 4) r0)
 (.call ⟨[],[]⟩ [] 9 136 [(pn (pc (.deref r1) 4) r0)]
 (.ret r9)))
def arn (b:Nat→PC):PT×List (Shp×PT):=(VT,[])
theorem afb:GW.map told=some (arn (ay GW)):=by kernel_rfl
theorem aC4:tree KA=VT:=aN afb
theorem anm:GW=some KA:=aF afb
noncomputable def Bx:Option PC:=aD {ctx with fr:=[2],nh:=[]} Tryz.f136 ((ab af 136).getD default) [1,3,4,6,19,8,16392,36]
noncomputable def KJ:PC:=az Bx
noncomputable def AK:Nat→PC:=bG Bx
def awP (b:Nat→PC):PC:=.block 0 [2,3,12,13] [3] (.loop [2,3,12] [3] (b 0))
def awQ (b:Nat→PC):PC:=.block 2 [4,29,30] [4] (.loop [4,29] [4] (b 1))
def EK (b:Nat→PC):PT:=
 (.ite (aj bY bD)
 (.blockS ⟨[],[]⟩ 1 [2,3,6,14,15,17,18,19,20,21,22,23,24] [6,19,3]
 (.chk (av cT bY)
 (.chk (bV (.llen (.app o3 (.lst [(pc (.setc LJ 0 (pn cT bY)) 0)]))) cW)
 (.call ⟨[(3,pN)],[(3,(.app o3 (.lst [(pc (.setc LJ 0 (pn cT bY)) 0)])))]⟩ [] 23 91 [(pc (.setc LJ 0 (pn cT bY)) 1),(pi 5)]
 (.ite (.nt jy)
 (.ret pF)
 (.next ⟨[],[]⟩)))))
 (.next ⟨[(12,(aP bY (pi 1)))],[]⟩))
 (.exit 0 ⟨[(13,(aj bY bD))],[]⟩))
def Mc (b:Nat→PC):PT:=
 (.ite (aj nV qI)
 (.chk (av eK nV)
 (.chk (bV (.llen ago) cW)
 (.next ⟨[(4,pN),(29,(aP nV (pi 1)))],[(4,ago)]⟩)))
 (.exit 2 ⟨[(30,(aj nV qI))],[]⟩))
def V1 (b:Nat→PC):PT:=
 (.brk ⟨[(12,(pi 0)),(11,px),(10,zo),(4,pN),(3,pN),(2,pF)],[(4,pL),(3,pL),(1,(.mk [r0]))]⟩
(awP b)
 (.brk ⟨[(29,(pi 0)),(28,mT),(27,(pc o1 3))],[]⟩
(awQ b)
 (.call ⟨[],[]⟩ [] 40 205 [o3,(pi 0),(pi 21)]
 (.call ⟨[(41,nW)],[]⟩ [(41,true)] 43 205 [o4,(pi 0),(pi 21)]
 (.ret (.pick qK qL pF))))))
def arx (b:Nat→PC):PT×List (Shp×PT):=(V1 b,[(.lp 0 [2,3,12,13] [3] [2,3,12] [3],EK b),(.lp 2 [4,29,30] [4] [4,29] [4],Mc b)])
theorem Jb:Bx.map told=some (arx (ay Bx)):=by kernel_rfl
theorem aDd:tree KJ=V1 AK:=aN Jb
theorem TW:round 0 [2,3,12,13] [3] [2,3,12] [3] (AK 0)=EK AK:=bx Jb 0 fun _=>rfl
theorem agU:round 2 [4,29,30] [4] [4,29] [4] (AK 1)=Mc AK:=bx Jb 1 fun _=>rfl
theorem anw:Bx=some KJ:=aF Jb
noncomputable def BA:Option PC:=aD {ctx with fr:=[2,3],nh:=[]} Tryz.f137 ((ab af 137).getD default) [1,4,6]
noncomputable def KM:PC:=az BA
noncomputable def AM:Nat→PC:=bG BA
def awU (b:Nat→PC):PC:=.block 2 [2,50,51] [] (.loop [2,50] [] (b 0))
def awV (b:Nat→PC):PC:=.block 0 [2,14,15] [] (.loop [2,14] [] (b 1))
def zK (b:Nat→PC):PT:=
 (.ite (aj lX mU)
 (.chk (av lW lX)
 (.ite (.pick (aq (pc (.setc z3 0 (pn lW lX)) 0) (pc o4 0)) (aq (pc (.setc z3 0 (pn lW lX)) 1) (pc o4 1)) pF)
 (.ret (pi 5))
 (.next ⟨[(50,(aP lX (pi 1)))],[]⟩)))
 (.exit 2 ⟨[(51,(aj lX mU))],[]⟩))
def EN (b:Nat→PC):PT:=
 (.ite sl
 (.blockS ⟨[(15,sl)],[]⟩ 1 [2,3,4,16,17,18,19,20,21,22,23,24,25,26,34,35,39,40,44,45,46,47,48,49,50,51] [4]
 (.chk (av bY dv)
 (.call ⟨[(3,dv)],[(4,zp)]⟩ [] 24 91 [(pc zp 0),lb]
 (.call ⟨[(26,(.nt nU))],[]⟩ [(26,false)] 32 91 [(pc o4 1),lb]
 (.ite (.pick (.pick (.pick ld pT (.nt Ed)) pT (aj (pc o4 2) (pi 1))) pT (bh (pc o4 2) (pi 20000)))
 (.ret (pi 1))
 (.chk (.slok (pc o1 5) (pi 0) r3)
 (.brk ⟨[(50,(pi 0)),(49,(.llen (.slc (pc o1 5) (pi 0) r3))),(48,(.slc (pc o1 5) (pi 0) r3))],[]⟩
(awU b)
 (.next ⟨[],[]⟩)))))))
 (.next ⟨[(14,zw)],[]⟩))
 (.exit 0 ⟨[(15,sl)],[]⟩))
def V4 (b:Nat→PC):PT:=
 (.ite (bh (.llen wB) (pi 100))
 (.ret (pi 6))
 (.brk ⟨[(14,(pi 0)),(13,(.llen wB)),(12,wB),(2,(pi 0))],[(1,(.mk [r0]))]⟩
(awV b)
 (.ret (pi 0))))
def arA (b:Nat→PC):PT×List (Shp×PT):=(V4 b,[(.lp 2 [2,50,51] [] [2,50] [],zK b),(.lp 0 [2,14,15] [] [2,14] [],EN b)])
theorem Jd:BA.map told=some (arA (ay BA)):=by kernel_rfl
theorem aDg:tree KM=V4 AM:=aN Jd
theorem Md:round 2 [2,50,51] [] [2,50] [] (AM 0)=zK AM:=bx Jd 0 fun _=>rfl
theorem TZ:round 0 [2,14,15] [] [2,14] [] (AM 1)=EN AM:=bx Jd 1 fun _=>rfl
theorem anA:BA=some KM:=aF Jd
noncomputable def By:Option PC:=aD {ctx with fr:=[2],nh:=[]} Tryz.f138 ((ab af 138).getD default) [1,4,6]
noncomputable def KK:PC:=az By
noncomputable def AL:Nat→PC:=bG By
def awR (b:Nat→PC):PC:=.block 0 [2,14,15] [] (.loop [2,14] [] (b 0))
def awS (b:Nat→PC):PC:=.block 2 [2,69,70] [] (.loop [2,69] [] (b 1))
def EL (b:Nat→PC):PT:=
 (.ite sl
 (.blockS ⟨[],[]⟩ 1 [2,4,16,17,18,19,20,21,22,23,24,25,33,34,40,41,47,48,54,55,60] [4]
 (.chk (av bY dv)
 (.call ⟨[],[(4,(.setc z5 0 (pn bY dv)))]⟩ [] 23 91 [(pc (.setc z5 0 (pn bY dv)) 0),tX]
 (.call ⟨[(25,(.nt jy))],[]⟩ [(25,false)] 31 91 [(pc o4 1),tX]
 (.call ⟨[(41,(.pick (.pick iZ pT (.nt qJ)) pT (aq (pc o4 0) (pc o4 1))))],[]⟩ [(41,false)] 45 91 [(bC (pc o4 2) (pi 1)),(pi 1073741824)]
 (.call ⟨[(48,(.pick qK pT (.nt py)))],[]⟩ [(48,false)] 52 91 [(bC (pc o4 3) (pi 1)),(pi 1073741824)]
 (.call ⟨[(55,(.pick lW pT (.nt LV)))],[]⟩ [(55,false)] 58 91 [(pc o4 4),(pi 100001)]
 (.ite (.pick zy pT (.nt zz))
 (.ret (pi 1))
 (.next ⟨[],[]⟩))))))))
 (.next ⟨[(14,zw)],[]⟩))
 (.exit 0 ⟨[(15,sl)],[]⟩))
def EM (b:Nat→PC):PT:=
 (.ite (aj sq r68)
 (.blockS ⟨[],[]⟩ 3 [2,6,71,72,73,74,75,76,77,78,79,80,84,85,91,92,96] [6]
 (.chk (av uc sq)
 (.call ⟨[],[(6,(.setc z3 0 (pn uc sq)))]⟩ [] 78 91 [(pc (.setc z3 0 (pn uc sq)) 0),nT]
 (.ite (.pick (.pick (.pick (.nt To) pT (aj (pc o6 1) (pi 0))) pT (bh (pc o6 1) (pc o6 2))) pT (bh (pc o6 2) (pi 100000)))
 (.ret (pi 1))
 (.next ⟨[],[]⟩))))
 (.next ⟨[(69,(aP sq (pi 1)))],[]⟩))
 (.exit 2 ⟨[(70,(aj sq r68))],[]⟩))
def V2 (b:Nat→PC):PT:=
 (.ite (bh (.llen (pc (.mk [r0]) 6)) (pi 100))
 (.ret (pi 6))
 (.brk ⟨[(14,(pi 0)),(13,(.llen (pc (.mk [r0]) 6))),(12,(pc (.mk [r0]) 6)),(2,(pi 0))],[(1,(.mk [r0]))]⟩
(awR b)
 (.ite (bh wE (pi 20))
 (.ret (pi 6))
 (.brk ⟨[(69,(pi 0)),(68,wE),(67,(pc o1 7))],[]⟩
(awS b)
 (.ret (pi 0))))))
def ary (b:Nat→PC):PT×List (Shp×PT):=(V2 b,[(.lp 0 [2,14,15] [] [2,14] [],EL b),(.lp 2 [2,69,70] [] [2,69] [],EM b)])
theorem Jc:By.map told=some (ary (ay By)):=by kernel_rfl
theorem aDe:tree KK=V2 AL:=aN Jc
theorem TX:round 0 [2,14,15] [] [2,14] [] (AL 0)=EL AL:=bx Jc 0 fun _=>rfl
theorem TY:round 2 [2,69,70] [] [2,69] [] (AL 1)=EM AL:=bx Jc 1 fun _=>rfl
theorem anx:By=some KK:=aF Jc
noncomputable def Ha:Option PC:=aD {ctx with fr:=[4],nh:=[]} Tryz.f177 ((ab af 177).getD default) [2]
noncomputable def Lb:PC:=az Ha
def Wo:PT:=
 (.ret (.pick (bR r1 (pi 0)) (aj r1 (.llen sk)) pF))
def ar2 (b:Nat→PC):PT×List (Shp×PT):=(Wo,[])
theorem afq:Ha.map told=some (ar2 (ay Ha)):=by kernel_rfl
theorem aDE:tree Lb=Wo:=aN afq
theorem anT:Ha=some Lb:=aF afq
noncomputable def Hb:Option PC:=aD {ctx with fr:=[2],nh:=[]} Tryz.f178 ((ab af 178).getD default) []
noncomputable def Lc:PC:=az Hb
def Wp:PT:=
 (.ret (.pick (bR r0 (pi 0)) (bV r0 (pi 100000)) pF))
def ar3 (b:Nat→PC):PT×List (Shp×PT):=(Wp,[])
theorem afr:Hb.map told=some (ar3 (ay Hb)):=by kernel_rfl
theorem aDF:tree Lc=Wp:=aN afr
theorem anU:Hb=some Lc:=aF afr
noncomputable def G7:Option PC:=aD {ctx with fr:=[2],nh:=[]} Tryz.f179 ((ab af 179).getD default) [1]
noncomputable def K8:PC:=az G7
def Wn:PT:=
 (.ret (.pick (aq la (pi 0)) pT (aq la (pi 1))))
def arZ (b:Nat→PC):PT×List (Shp×PT):=(Wn,[])
theorem afn:G7.map told=some (arZ (ay G7)):=by kernel_rfl
theorem aDD:tree K8=Wn:=aN afn
theorem anQ:G7=some K8:=aF afn
noncomputable def G9:Option PC:=aD {ctx with fr:=[6,7,13,16,24,33,8,9],nh:=[]} Tryz.f180 ((ab af 180).getD default) [3,4]
noncomputable def La:PC:=az G9
def m0:PT:=
 (.blockS ⟨[(12,(pc (.mk [r1]) 5))],[(4,(.mk [r1])),(3,(.mk [r0]))]⟩ 0 [6,7,13,14,16,17,24,25,33,34] []
 (.iteS ⟨[],[]⟩ (aq bY (pi 0)) [6,7,16,17,24,25,33,34] []
 (.ret (.tup [r2,(pi 0)]))
 (.iteS ⟨[],[]⟩ (aq bY (pi 1)) [6,7,24,25,33,34] []
 (.call ⟨[],[]⟩ [] 21 223 [r2,(.mk [(pc o4 5),(pc o4 6),(pc o4 7)])]
 (.ret (.tup [(.tget lV 0),(.tget lV 1)])))
 (.iteS ⟨[],[]⟩ (aq bY (pi 2)) [6,7,33,34] []
 (.call ⟨[],[]⟩ [] 30 223 [(pc o4 8),(.mk [(pc o4 5),(pc o4 6),(pc o4 7)])]
 (.ret (.tup [(.tget tZ 0),(.tget tZ 1)])))
 (.iteS ⟨[],[]⟩ (aq bY (pi 4)) [6,7] []
 (.call ⟨[],[]⟩ [] 41 185 [(aC 8 o3),(pc o4 9),(pc o4 10)]
 (.ret (.tup [(aP (pc o4 8) (.tget qK 0)),(.tget qK 1)])))
 (.next ⟨[],[]⟩)
 (.next ⟨[],[]⟩))
 (.next ⟨[],[]⟩))
 (.next ⟨[],[]⟩))
 (.next ⟨[],[]⟩))
 (.ret (.tup [(pc o4 6),(pi 0)])))
def ar1 (b:Nat→PC):PT×List (Shp×PT):=(m0,[])
theorem afp:G9.map told=some (ar1 (ay G9)):=by kernel_rfl
theorem wU:tree La=m0:=aN afp
theorem anS:G9=some La:=aF afp
noncomputable def G8:Option PC:=aD {ctx with fr:=[4,5],nh:=[]} Tryz.f223 ((ab af 223).getD default) [3]
noncomputable def K9:PC:=az G8
def uA:PT:=
 (.ite (.pick (aj (pc (.mk [r1]) 1) (pi 0)) pT (bh (pc (.mk [r1]) 1) (pi 20000)))
 (.ret (.tup [(pi 0),(pi 3)]))
 (.iteS ⟨[],[(3,(.mk [r1]))]⟩ (aq (pc (.mk [r1]) 2) (pi 1)) [4,5] []
 (.call ⟨[],[]⟩ [] 20 267 [r0,(pc o3 1)]
 (.ret (.tup [(.tget ed 0),(.tget ed 1)])))
 (.next ⟨[],[]⟩)
 (.ret (.tup [(aP r0 (pc o3 1)),(pi 0)]))))
def ar0 (b:Nat→PC):PT×List (Shp×PT):=(uA,[])
theorem afo:G8.map told=some (ar0 (ay G8)):=by kernel_rfl
theorem z8:tree K9=uA:=aN afo
theorem anR:G8=some K9:=aF afo
noncomputable def Gk:Option PC:=aD {ctx with fr:=[4,5,6,7,8,9],nh:=[]} Tryz.f267 ((ab af 267).getD default) []
noncomputable def Jy:PC:=az Gk
def Fq:PT:=
 (.call ⟨[],[]⟩ [] 11 120 [r0]
 (.ite (.pick (.pick (.nt bD) pT (aj r1 (pi (-5000)))) pT (bh r1 (pi 5000)))
 (.ret (.tup [(pi 0),(pi 3)]))
 (.call ⟨[],[]⟩ [] 23 201 [r0]
 (.chk (ba (pi 12) (pi 0))
 (.call ⟨[(41,(.tget jy 2)),(40,(aP (.ai .rem .i64 LK (pi 12)) (pi 1))),(39,(.ai .quo .i64 LK (pi 12)))],[]⟩ [] 44 288 [(.ai .quo .i64 LK (pi 12)),(aP (.ai .rem .i64 LK (pi 12)) (pi 1))]
 (.call ⟨[],[]⟩ [] 46 287 [Ee,nW,(.mn qK ua)]
 (.ret (.tup [(.tget ub 0),(.tget ub 1)]))))))))
def aqh (b:Nat→PC):PT×List (Shp×PT):=(Fq,[])
theorem aeA:Gk.map told=some (aqh (ay Gk)):=by kernel_rfl
theorem UX:tree Jy=Fq:=aN aeA
theorem amn:Gk=some Jy:=aF aeA
noncomputable def Gt:Option PC:=aD {ctx with fr:=[2],nh:=[]} Tryz.f120 ((ab af 120).getD default) []
noncomputable def JH:PC:=az Gt
def U5:PT:=
 (.ret (.pick (bV (pi 0) r0) (bV r0 (pi 100000)) pF))
def aqr (b:Nat→PC):PT×List (Shp×PT):=(U5,[])
theorem aeI:Gt.map told=some (aqr (ay Gt)):=by kernel_rfl
theorem aCc:tree JH=U5:=aN aeI
theorem amx:Gt=some JH:=aF aeI
noncomputable def Gn:Option PC:=aD {ctx with fr:=[2,3,4,5,6,7,8,9],nh:=[]} Tryz.f201 ((ab af 201).getD default) []
noncomputable def JC:PC:=az Gn
def U0:PT:=
 (.chk (ba (pi 146097) (pi 0))
 (.chk (ba (pi 1460) (pi 0))
 (.chk (ba (pi 36524) (pi 0))
 (.chk (ba (pi 146096) (pi 0))
 (.chk (ba (pi 365) (pi 0))
 (.chk (ba (pi 4) (pi 0))
 (.chk zr
 (.chk (ba (pi 153) (pi 0))
 (.chk (ba (pi 5) (pi 0))
 (.ret (.tup [(.pick (aj ags (pi 3)) (aP agv (pi 1)) agv),ags,(aP (bC (bC (.ai .rem .i64 (aP r0 (pi 730425)) (pi 146097)) (bC (aP (.ai .mul .i64 (pi 365) wx) (.ai .quo .i64 wx (pi 4))) (.ai .quo .i64 wx (pi 100)))) (.ai .quo .i64 (aP (.ai .mul .i64 (pi 153) LN) (pi 2)) (pi 5))) (pi 1))])))))))))))
def aql (b:Nat→PC):PT×List (Shp×PT):=(U0,[])
theorem aeD:Gn.map told=some (aql (ay Gn)):=by kernel_rfl
theorem aB7:tree JC=U0:=aN aeD
theorem amr:Gn=some JC:=aF aeD
noncomputable def Gq:Option PC:=aD {ctx with fr:=[4],nh:=[]} Tryz.f288 ((ab af 288).getD default) []
noncomputable def JE:PC:=az Gq
def MK:PT:=
 (.ite (aq r1 (pi 12))
 (.ret (pi 31))
 (.call ⟨[],[]⟩ [] 10 299 [r0,(aP r1 (pi 1)),(pi 1)]
 (.call ⟨[],[]⟩ [] 13 299 [r0,r1,(pi 1)]
 (.ret (bC cT dL)))))
def aqo (b:Nat→PC):PT×List (Shp×PT):=(MK,[])
theorem aeF:Gq.map told=some (aqo (ay Gq)):=by kernel_rfl
theorem aCa:tree JE=MK:=aN aeF
theorem amu:Gq=some JE:=aF aeF
noncomputable def Gr:Option PC:=aD {ctx with fr:=[6,0,1],nh:=[]} Tryz.f299 ((ab af 299).getD default) []
noncomputable def JF:PC:=az Gr
def z7:PT:=
 (.chk (ba (pi 4) (pi 0))
 (.chk zr
 (.chk (ba (pi 400) (pi 0))
 (.chk (ba (pi 5) (pi 0))
 (.ret (bC (bC (aP (aP (aP (bC (aP (.ai .mul .i64 (pi 365) LM) (.ai .quo .i64 LM (pi 4))) (.ai .quo .i64 LM (pi 100))) (.ai .quo .i64 LM (pi 400))) (.ai .quo .i64 (aP (.ai .mul .i64 (pi 153) (bC (.pick (aj r1 (pi 3)) (aP r1 (pi 12)) r1) (pi 3))) (pi 2)) (pi 5))) r2) (pi 1)) (pi 730425)))))))
def aqp (b:Nat→PC):PT×List (Shp×PT):=(z7,[])
theorem aeG:Gr.map told=some (aqp (ay Gr)):=by kernel_rfl
theorem U3:tree JF=z7:=aN aeG
theorem amv:Gr=some JF:=aF aeG
noncomputable def Gl:Option PC:=aD {ctx with fr:=[6,7,8],nh:=[]} Tryz.f287 ((ab af 287).getD default) []
noncomputable def Jz:PC:=az Gl
def qV:PT:=
 (.call ⟨[(28,r2),(27,(.pick (.pick (.pick (.pick (aj r0 (pi 2000)) pT (bh r0 (pi 2300))) pT (aj r1 (pi 1))) pT (bh r1 (pi 12))) pT (aj r2 (pi 1))))],[]⟩ [(27,false)] 31 288 [r0,r1]
 (.ite (.pick eK pT (bh qI qJ))
 (.ret (.tup [(pi 0),(pi 3)]))
 (.call ⟨[],[]⟩ [] 37 299 [r0,r1,r2]
 (.call ⟨[(8,kH)],[]⟩ [] 39 120 [kH]
 (.ite (.nt Ee)
 (.ret (.tup [(pi 0),(pi 3)]))
 (.ret (.tup [r8,(pi 0)])))))))
def aqi (b:Nat→PC):PT×List (Shp×PT):=(qV,[])
theorem aeB:Gl.map told=some (aqi (ay Gl)):=by kernel_rfl
theorem ux:tree Jz=qV:=aN aeB
theorem amo:Gl=some Jz:=aF aeB
noncomputable def Bs:Option PC:=aD {ctx with fr:=[6,7],nh:=[]} Tryz.f185 ((ab af 185).getD default) [3,9]
noncomputable def KC:PC:=az Bs
noncomputable def NO:Nat→PC:=bG Bs
def awI (b:Nat→PC):PC:=.block 0 [6,7,13,14] [] (.loop [6,7,13] [] (b 0))
def uf (b:Nat→PC):PT:=
 (.ite (aj dL bY)
 (.chk (av bD dL)
 (.ite (.pick (aq (pc (.setc z3 0 (pn bD dL)) 0) r1) (aq (pc (.setc z3 0 (pn bD dL)) 1) r2) pF)
 (.ret (.tup [(pc (.setc z3 0 (pn bD dL)) 2),(pi 0)]))
 (.next ⟨[(13,(aP dL (pi 1)))],[]⟩)))
 (.exit 0 ⟨[(14,(aj dL bY))],[]⟩))
def MN (b:Nat→PC):PT:=
 (.brk ⟨[(13,(pi 0)),(12,(.llen wB)),(11,wB),(7,(pi 0)),(6,(pi 0))],[]⟩
(awI b)
 (.ret (.tup [(pi 0),(pi 4)])))
def arp (b:Nat→PC):PT×List (Shp×PT):=(MN b,[(.lp 0 [6,7,13,14] [] [6,7,13] [],uf b)])
theorem Sc:Bs.map told=some (arp (ay Bs)):=by kernel_rfl
theorem ahL:tree KC=MN NO:=aN Sc
theorem zI:round 0 [6,7,13,14] [] [6,7,13] [] (NO 0)=uf NO:=bx Sc 0 fun _=>rfl
theorem anp:Bs=some KC:=aF Sc
noncomputable def BO:Option PC:=aD {ctx with fr:=[6,7,8,2,9,10],nh:=[]} Tryz.f181 ((ab af 181).getD default) [3]
noncomputable def Ld:PC:=az BO
noncomputable def N0:Nat→PC:=bG BO
def axf (b:Nat→PC):PC:=.block 0 [] [] (.loop [2,6,7] [] (b 0))
def Uf (b:Nat→PC):PT:=
 (.blockS ⟨[],[]⟩ 1 [2,6,7,9,10,14,15,16,17,18,19,20,21,22,23,24,25,26,27,28,29,30,31,32,34] []
 (.call ⟨[],[]⟩ [] 17 224 [(aC 8 o3),r8,r2]
 (.chk (av (pc o3 1) r1)
 (.call ⟨[(2,kF)],[]⟩ [] 25 225 [(pn (pc o3 1) r1),kF]
 (.ite (ba (.tget iZ 1) (pi 0))
 (.ret (.tup [(pi 0),(pi 3)]))
 (.ite (aq (.tget iZ 0) r2)
 (.ret (.tup [r2,(pi 0)]))
 (.next ⟨[(2,(.tget iZ 0))],[]⟩))))))
 (.next ⟨[],[]⟩))
def Wq (b:Nat→PC):PT:=
 (.call ⟨[(7,(pi 0)),(6,(pi 0))],[(3,(.mk [r0]))]⟩ [] 13 32 [kD,r1]
 (.brk ⟨[(8,dL)],[]⟩
(axf b)
 (.next ⟨[],[]⟩)))
def ar4 (b:Nat→PC):PT×List (Shp×PT):=(Wq b,[(.lp 0 [] [] [2,6,7] [],Uf b)])
theorem Sp:BO.map told=some (ar4 (ay BO)):=by kernel_rfl
theorem aDG:tree Ld=Wq N0:=aN Sp
theorem aAI:round 0 [] [] [2,6,7] [] (N0 0)=Uf N0:=bx Sp 0 fun _=>rfl
theorem anV:BO=some Ld:=aF Sp
noncomputable def BP:Option PC:=aD {ctx with fr:=[6,7,2],nh:=[]} Tryz.f224 ((ab af 224).getD default) [3,9]
noncomputable def Lf:PC:=az BP
noncomputable def AQ:Nat→PC:=bG BP
def axg (b:Nat→PC):PC:=.block 2 [2,7,14,15] [] (.loop [2,7,14] [] (b 0))
def axh (b:Nat→PC):PC:=.block 0 [2,7,10] [] (.loop [2,7] [] (b 1))
def zL (b:Nat→PC):PT:=
 (.ite sl
 (.chk (av bY dv)
 (.next ⟨[(2,(.pick agu (aP (pc zp 2) (pi 1)) r2)),(7,(.pick agu pT r7)),(14,zw)],[]⟩))
 (.exit 2 ⟨[(15,sl)],[]⟩))
def Mi (b:Nat→PC):PT:=
 (.ite r7
 (.blockS ⟨[(10,r7)],[]⟩ 1 [2,7,11,12,13,14,15] []
 (.brk ⟨[(14,(pi 0)),(13,(.llen (pc o3 7))),(12,(pc o3 7)),(7,pF)],[]⟩
(axg b)
 (.next ⟨[],[]⟩))
 (.next ⟨[],[]⟩))
 (.exit 0 ⟨[(10,r7)],[]⟩))
def Wr (b:Nat→PC):PT:=
 (.brk ⟨[(7,pT)],[(3,(.mk [r0]))]⟩
(axh b)
 (.ret r2))
def ar5 (b:Nat→PC):PT×List (Shp×PT):=(Wr b,[(.lp 2 [2,7,14,15] [] [2,7,14] [],zL b),(.lp 0 [2,7,10] [] [2,7] [],Mi b)])
theorem Jh:BP.map told=some (ar5 (ay BP)):=by kernel_rfl
theorem aDH:tree Lf=Wr AQ:=aN Jh
theorem Mh:round 2 [2,7,14,15] [] [2,7,14] [] (AQ 0)=zL AQ:=bx Jh 0 fun _=>rfl
theorem agY:round 0 [2,7,10] [] [2,7] [] (AQ 1)=Mi AQ:=bx Jh 1 fun _=>rfl
theorem anW:BP=some Lf:=aF Jh
noncomputable def AZ:Option PC:=aD {ctx with fr:=[6],nh:=[]} Tryz.f225 ((ab af 225).getD default) [2,4,5]
noncomputable def JA:PC:=az AZ
noncomputable def Nu:Nat→PC:=bG AZ
def apm (b:Nat→PC):PC:=.each gT [16] [4,5] (some (.tup [(pc o4 0),(pc o5 0)])) (b 0)
def Tt (b:Nat→PC):PT:=
 (.exit 1000000007 ⟨[],[(4,(.setc o4 0 dM)),(5,(.setc o5 0 (pi 0)))]⟩)
def UY (b:Nat→PC):PT:=
 (.call ⟨[],[(5,D9),(4,D9),(2,(.mk [r0]))]⟩ [] 8 120 [r1]
 (.ite (.nt r8)
 (.ret (.tup [(pc (.setc o4 0 (pi 0)) 0),(pc (.setc o5 0 (pi 3)) 0)]))
 (.call ⟨[],[]⟩ [] 15 268 [(aC 6 o2),r1,(.mn (aP r1 (pi 400)) (pi 100000))]
 (.blockS ⟨[],[]⟩ 0 [] [4,5]
 (.callc ⟨[],[]⟩ [] 18 gg []
 (.brk ⟨[],[]⟩
(apm b)
 (.next ⟨[],[]⟩)))
 (.ret (.tup [(pc (.setc o4 0 (pi 0)) 0),(pc (.setc o5 0 (pi 3)) 0)]))))))
def aqj (b:Nat→PC):PT×List (Shp×PT):=(UY b,[(.ea [4,5],Tt b)])
theorem RT:AZ.map told=some (aqj (ay AZ)):=by kernel_rfl
theorem aB5:tree JA=UY Nu:=aN RT
theorem aAy:pE [4,5] (Nu 0)=Tt Nu:=UK RT 0 fun _=>rfl
theorem amp:AZ=some JA:=aF RT
noncomputable def Gp:Option PC:=aD {ctx with fr:=[6],nh:=[]} Tryz.f268 ((ab af 268).getD default) [3,4,5]
noncomputable def JD:PC:=az Gp
def U1:PT:=
 (.ret (.clo 289 [(.ref (pc (.mk [r1]) 0)),(.ref (pc (.mk [r2]) 0)),(.ref (aC 6 (.mk [r0])))]))
def aqm (b:Nat→PC):PT×List (Shp×PT):=(U1,[])
theorem aeE:Gp.map told=some (aqm (ay Gp)):=by kernel_rfl
theorem aB9:tree JD=U1:=aN aeE
theorem amt:Gp=some JD:=aF aeE
noncomputable def xy:Option PC:=BY {ctx with fr:=[5],nh:=[]} Tryz.f289 [(.ref I),(.ref I),(.ref Y0)] [I] 1000 [1000]
noncomputable def DX:PC:=az xy
noncomputable def Nv:Nat→PC:=bG xy
def awc (b:Nat→PC):PC:=.block 0 [5,7,8,9] [1000] (.loop [5] [1000] (b 0))
def L1 (b:Nat→PC):PT:=
 (.ite (bV r5 (.deref r2))
 (.blockS ⟨[],[]⟩ 1 [12,13,14,15,20] [1000]
 (.call ⟨[],[]⟩ [] 14 121 [(.deref r3),r5]
 (.call ⟨[(15,dv)],[(1000,agr)]⟩ [(15,true)] 18 1000000009 [agr]
 (.ite (.pick gg (.nt gT) pF)
 (.ret (.o 1000))
 (.next ⟨[],[]⟩))))
 (.next ⟨[(5,qE)],[]⟩))
 (.exit 0 ⟨[(7,r5),(8,(.deref r2)),(9,(bV r5 (.deref r2)))],[]⟩))
def U2 (b:Nat→PC):PT:=
 (.brk ⟨[(5,(.deref r1))],[]⟩
(awc b)
 (.ret (.o 1000)))
def aqn (b:Nat→PC):PT×List (Shp×PT):=(U2 b,[(.lp 0 [5,7,8,9] [1000] [5] [1000],L1 b)])
theorem RU:xy.map told=some (aqn (ay xy)):=by kernel_rfl
theorem aB8:tree DX=U2 Nv:=aN RU
theorem agL:round 0 [5,7,8,9] [1000] [5] [1000] (Nv 0)=L1 Nv:=bx RU 0 fun _=>rfl
theorem ams:xy=some DX:=aF RU
theorem an4:∀yv,BY {ctx with fr:=[5],nh:=[],yv:=yv} Tryz.f289 [(.ref I),(.ref I),(.ref Y0)] [I] 1000 [1000]=some DX:=fun yv=>(show _=xy by kernel_rfl).trans ams
noncomputable def Gs:Option PC:=aD {ctx with fr:=[4,5,6,7],nh:=[]} Tryz.f121 ((ab af 121).getD default) [2]
noncomputable def JG:PC:=az Gs
def U4:PT:=
 (.call ⟨[],[(2,(.mk [r0]))]⟩ [] 10 201 [r1]
 (.chk (ba (pi 7) (pi 0))
 (.call ⟨[(7,(.tget cT 2)),(6,(.tget cT 1))],[]⟩ [] 19 94 [(pc o2 3),(.ai .rem .i64 (aP r1 (pi 5)) (pi 7))]
 (.call ⟨[(21,(.nt gr))],[]⟩ [(21,true)] 28 94 [(pc o2 4),(aP (.ai .mul .i64 (pi 100) r6) r7)]
 (.call ⟨[(31,(.pick lV (.nt qI) pF))],[]⟩ [(31,true)] 35 94 [(pc o2 5),r1]
 (.ret (.pick qJ (.nt wG) pF)))))))
def aqq (b:Nat→PC):PT×List (Shp×PT):=(U4,[])
theorem aeH:Gs.map told=some (aqq (ay Gs)):=by kernel_rfl
theorem aCb:tree JG=U4:=aN aeH
theorem amw:Gs=some JG:=aF aeH
noncomputable def GB:Option PC:=aD {ctx with fr:=[4],nh:=[]} Tryz.f27 ((ab af 27).getD default) [2,3]
noncomputable def JR:PC:=az GB
def Ve:PT:=
 (.call ⟨[],[(2,(.mk [r0]))]⟩ [] 7 53 [kD,(aC 19 (.mk [r1]))]
 (.call ⟨[(8,r7)],[]⟩ [(8,true)] 10 62 [(aC 8 o2)]
 (.ret (.pick r8 (aq cT (pi 0)) pF))))
def aqC (b:Nat→PC):PT×List (Shp×PT):=(Ve,[])
theorem aeP:GB.map told=some (aqC (ay GB)):=by kernel_rfl
theorem aCn:tree JR=Ve:=aN aeP
theorem amI:GB=some JR:=aF aeP
noncomputable def Bp:Option PC:=aD {ctx with fr:=[4,5],nh:=[]} Tryz.f53 ((ab af 53).getD default) [2,3]
noncomputable def Kt:PC:=az Bp
noncomputable def NL:Nat→PC:=bG Bp
def awF (b:Nat→PC):PC:=.block 0 [4,5,14,15,16,17,18] [] (.loop [4,5] [] (b 0))
def EF (b:Nat→PC):PT:=
 (.ite (aj r5 (.llen (pc o2 4)))
 (.blockS ⟨[],[]⟩ 1 [4,21,22,23,24,25,26,27] []
 (.chk (av (pc o2 4) r5)
 (.call ⟨[],[]⟩ [] 26 128 [(pn (pc o2 4) r5)]
 (.ite (.nt ld)
 (.ret pF)
 (.next ⟨[],[]⟩))))
 (.next ⟨[(5,qE)],[]⟩))
 (.exit 0 ⟨[(14,r5),(15,pN),(16,(pc o2 4)),(17,(.llen (pc o2 4))),(18,(aj r5 (.llen (pc o2 4))))],[]⟩))
def VN (b:Nat→PC):PT:=
 (.call ⟨[(4,pF)],[(3,(.mk [r1])),(2,(.mk [r0]))]⟩ [] 7 58 [kD]
 (.call ⟨[(9,(.nt r7))],[]⟩ [(9,false)] 11 127 [(aC 19 o3)]
 (.ite (.pick r9 pT (.nt bD))
 (.ret pF)
 (.brk ⟨[(5,(pi 0))],[]⟩
(awF b)
 (.ret pT)))))
def arf (b:Nat→PC):PT×List (Shp×PT):=(VN b,[(.lp 0 [4,5,14,15,16,17,18] [] [4,5] [],EF b)])
theorem R9:Bp.map told=some (arf (ay Bp)):=by kernel_rfl
theorem aCZ:tree Kt=VN NL:=aN R9
theorem TQ:round 0 [4,5,14,15,16,17,18] [] [4,5] [] (NL 0)=EF NL:=bx R9 0 fun _=>rfl
theorem anh:Bp=some Kt:=aF R9
noncomputable def Bc:Option PC:=aD {ctx with fr:=[2,3,4],nh:=[]} Tryz.f58 ((ab af 58).getD default) [1]
noncomputable def Ka:PC:=az Bc
noncomputable def AE:Nat→PC:=bG Bc
def awm (b:Nat→PC):PC:=.block 0 [2,3,5,6,7,8,9,10,13] [] (.loop [2,3] [] (b 0))
def awn (b:Nat→PC):PC:=.block 2 [2,4,44,45,46,47,48,49,52] [] (.loop [2,4] [] (b 1))
def wK (b:Nat→PC):PT:=
 (.ite (.pick (aj r3 lb) (aj r3 (pi 50)) pF)
 (.chk (av (pc o1 1) r3)
 (.chk (.nt (.an (.an (.nt (bh (.llen (pc (pn (pc o1 1) r3) 4)) (pi 70))) pT) (.nt (av (pc o1 1) r3))))
 (.chk (.nt (.an (.an (.nt agm) pT) (.nt (av (pc o1 1) r3))))
 (.ite (.pick agm pT (bh (.llen (pc (pn (pc o1 1) r3) 3)) (pi 8)))
 (.ret pF)
 (.next ⟨[(3,qF)],[]⟩)))))
 (.exit 0 ⟨[(5,r3),(6,pN),(7,(pc o1 1)),(8,lb),(9,(aj r3 lb)),(10,(aj r3 lb)),(13,(.pick (aj r3 lb) (aj r3 (pi 50)) pF))],[]⟩))
def zG (b:Nat→PC):PT:=
 (.ite (.pick (aj r4 nT) (aj r4 (pi 50)) pF)
 (.chk (av (pc o1 4) r4)
 (.chk (.nt (.an (.an (.nt (bh (.llen (pc wz 2)) (pi 40))) pT) (.nt (av (pc o1 4) r4))))
 (.ite (.pick (bh (.llen (pc wz 2)) (pi 40)) pT (bh (.llen (pc wz 3)) (pi 40)))
 (.ret pF)
 (.next ⟨[(4,(aP r4 (pi 1)))],[]⟩))))
 (.exit 2 ⟨[(44,r4),(45,pN),(46,(pc o1 4)),(47,nT),(48,(aj r4 nT)),(49,(aj r4 nT)),(52,(.pick (aj r4 nT) (aj r4 (pi 50)) pF))],[]⟩))
def Vw (b:Nat→PC):PT:=
 (.brk ⟨[(3,(pi 0)),(2,pF)],[(1,(.mk [r0]))]⟩
(awm b)
 (.brk ⟨[(4,(pi 0))],[]⟩
(awn b)
 (.ret (.pick (.pick (.pick (.pick (.pick (.pick (.pick (aj tX (pi 50)) (aj lb (pi 50)) pF) (aj qD (pi 50)) pF) (aj mT (pi 210)) pF) (aj nT (pi 50)) pF) (aj zi (pi 110)) pF) (aj (.llen (pc o1 6)) (pi 110)) pF) (aj wE (pi 50)) pF))))
def aqW (b:Nat→PC):PT×List (Shp×PT):=(Vw b,[(.lp 0 [2,3,5,6,7,8,9,10,13] [] [2,3] [],wK b),(.lp 2 [2,4,44,45,46,47,48,49,52] [] [2,4] [],zG b)])
theorem I5:Bc.map told=some (aqW (ay Bc)):=by kernel_rfl
theorem aCI:tree Ka=Vw AE:=aN I5
theorem Eo:round 0 [2,3,5,6,7,8,9,10,13] [] [2,3] [] (AE 0)=wK AE:=bx I5 0 fun _=>rfl
theorem L5:round 2 [2,4,44,45,46,47,48,49,52] [] [2,4] [] (AE 1)=zG AE:=bx I5 1 fun _=>rfl
theorem amY:Bc=some Ka:=aF I5
noncomputable def GQ:Option PC:=aD {ctx with fr:=[2],nh:=[]} Tryz.f127 ((ab af 127).getD default) [1]
noncomputable def Ko:PC:=az GQ
def VJ:PT:=
 (.ret (.pick (.pick (.pick (bV (.llen qC) (pi 50)) (bV (.llen (pc (.mk [r0]) 16)) (pi 10)) pF) (bV (.llen (pc (.mk [r0]) 17)) (pi 110)) pF) (bV (.llen (pc (.mk [r0]) 18)) (pi 220)) pF))
def aq9 (b:Nat→PC):PT×List (Shp×PT):=(VJ,[])
theorem ae6:GQ.map told=some (aq9 (ay GQ)):=by kernel_rfl
theorem aCV:tree Ko=VJ:=aN ae6
theorem anb:GQ=some Ko:=aF ae6
noncomputable def Bo:Option PC:=aD {ctx with fr:=[2,3],nh:=[]} Tryz.f128 ((ab af 128).getD default) [1]
noncomputable def Ks:PC:=az Bo
noncomputable def NK:Nat→PC:=bG Bo
def awE (b:Nat→PC):PC:=.block 0 [2,3,14,15,16,17,18] [] (.loop [2,3] [] (b 0))
def EE (b:Nat→PC):PT:=
 (.ite (aj r3 mT)
 (.blockS ⟨[],[]⟩ 1 [2,21,22,23,24,25,26,27,28] []
 (.chk (av (pc o1 3) r3)
 (.call ⟨[],[]⟩ [] 27 203 [(.sub (pn (pc o1 3) r3) 1 3)]
 (.ite (.nt eK)
 (.ret pF)
 (.next ⟨[],[]⟩))))
 (.next ⟨[(3,qF)],[]⟩))
 (.exit 0 ⟨[(14,r3),(15,pN),(16,(pc o1 3)),(17,mT),(18,(aj r3 mT))],[]⟩))
def VM (b:Nat→PC):PT:=
 (.ite (.pick (bh (.llen (pc (.mk [r0]) 3)) (pi 60)) pT (bh px (pi 60)))
 (.ret pF)
 (.brk ⟨[(3,(pi 0)),(2,pF)],[(1,(.mk [r0]))]⟩
(awE b)
 (.ret pT)))
def ard (b:Nat→PC):PT×List (Shp×PT):=(VM b,[(.lp 0 [2,3,14,15,16,17,18] [] [2,3] [],EE b)])
theorem R8:Bo.map told=some (ard (ay Bo)):=by kernel_rfl
theorem aCY:tree Ks=VM NK:=aN R8
theorem TP:round 0 [2,3,14,15,16,17,18] [] [2,3] [] (NK 0)=EE NK:=bx R8 0 fun _=>rfl
theorem ang:Bo=some Ks:=aF R8
noncomputable def GR:Option PC:=aD {ctx with fr:=[2],nh:=[]} Tryz.f203 ((ab af 203).getD default) [1]
noncomputable def Kp:PC:=az GR
def VK:PT:=
 (.call ⟨[],[]⟩ [] 4 243 [LH,(pi 100),(pi 20)]
 (.ret (bR r4 (pi 0))))
def ara (b:Nat→PC):PT×List (Shp×PT):=(VK,[])
theorem ae7:GR.map told=some (ara (ay GR)):=by kernel_rfl
theorem aCW:tree Kp=VK:=aN ae7
theorem anc:GR=some Kp:=aF ae7
noncomputable def Bn:Option PC:=aD {ctx with fr:=[6,1,7],nh:=[]} Tryz.f243 ((ab af 243).getD default) [3]
noncomputable def Kr:PC:=az Bn
noncomputable def NJ:Nat→PC:=bG Bn
def awD (b:Nat→PC):PC:=.block 0 [1,7,12,13,14,15,16,17,20] [] (.loop [1,7] [] (b 0))
def ED (b:Nat→PC):PT:=
 (.ite (.pick (aj r7 nS) (bR r1 (pi 0)) pF)
 (.blockS ⟨[],[]⟩ 1 [1,23,24,25,26,27,28,29,30,31] []
 (.chk (av (pc o3 2) r7)
 (.call ⟨[],[]⟩ [] 31 243 [(pn (pc o3 2) r7),r1,(bC r2 (pi 1))]
 (.next ⟨[(1,qJ)],[]⟩)))
 (.next ⟨[(7,(aP r7 (pi 1)))],[]⟩))
 (.exit 0 ⟨[(12,r7),(13,pN),(14,(pc o3 2)),(15,nS),(16,(aj r7 nS)),(17,(aj r7 nS)),(20,(.pick (aj r7 nS) (bR r1 (pi 0)) pF))],[]⟩))
def MM (b:Nat→PC):PT:=
 (.ite (aj r2 (pi 1))
 (.ret (pi (-1)))
 (.brk ⟨[(7,(pi 0)),(1,(bC r1 (pi 1)))],[(3,(.mk [r0]))]⟩
(awD b)
 (.ret r1)))
def arc (b:Nat→PC):PT×List (Shp×PT):=(MM b,[(.lp 0 [1,7,12,13,14,15,16,17,20] [] [1,7] [],ED b)])
theorem R7:Bn.map told=some (arc (ay Bn)):=by kernel_rfl
theorem ahK:tree Kr=MM NJ:=aN R7
theorem TO:round 0 [1,7,12,13,14,15,16,17,20] [] [1,7] [] (NJ 0)=ED NJ:=bx R7 0 fun _=>rfl
theorem anf:Bn=some Kr:=aF R7
noncomputable def GM:Option PC:=aD {ctx with fr:=[2,3],nh:=[]} Tryz.f62 ((ab af 62).getD default) [1]
noncomputable def J9:PC:=az GM
def Vv:PT:=
 (.call ⟨[],[(1,(.mk [r0]))]⟩ [] 5 145 [kD]
 (.iteS ⟨[(3,r5)],[]⟩ (aq r5 (pi 0)) [3] []
 (.call ⟨[],[]⟩ [] 9 146 [(aC 8 o1)]
 (.next ⟨[(3,r9)],[]⟩))
 (.next ⟨[],[]⟩)
 (.iteS ⟨[],[]⟩ (aq r3 (pi 0)) [3] []
 (.call ⟨[],[]⟩ [] 13 147 [(aC 8 o1)]
 (.next ⟨[(3,dL)],[]⟩))
 (.next ⟨[],[]⟩)
 (.iteS ⟨[],[]⟩ (aq r3 (pi 0)) [3] []
 (.call ⟨[],[]⟩ [] 17 148 [(aC 8 o1)]
 (.next ⟨[(3,kF)],[]⟩))
 (.next ⟨[],[]⟩)
 (.iteS ⟨[],[]⟩ (aq r3 (pi 0)) [3] []
 (.call ⟨[],[]⟩ [] 21 149 [(aC 8 o1)]
 (.next ⟨[(3,lV)],[]⟩))
 (.next ⟨[],[]⟩)
 (.ret r3))))))
def aqV (b:Nat→PC):PT×List (Shp×PT):=(Vv,[])
theorem ae2:GM.map told=some (aqV (ay GM)):=by kernel_rfl
theorem aCH:tree J9=Vv:=aN ae2
theorem amX:GM=some J9:=aF ae2
noncomputable def Bh:Option PC:=aD {ctx with fr:=[2,3,4,6,7],nh:=[]} Tryz.f145 ((ab af 145).getD default) [1,5,44]
noncomputable def Kh:PC:=az Bh
noncomputable def AG:Nat→PC:=bG Bh
def awt (b:Nat→PC):PC:=.block 0 [2,3,12,13,14,15,16] [] (.loop [2,3] [] (b 0))
def awu (b:Nat→PC):PC:=.block 2 [2,5,6,30,31,32,33,34] [5] (.loop [2,5,6] [5] (b 1))
def Ev (b:Nat→PC):PT:=
 (.ite (aj r3 tX)
 (.blockS ⟨[],[]⟩ 1 [2,4,19,20,21,22,23,24] []
 (.call ⟨[],[]⟩ [] 22 208 [(pc o1 0),r3]
 (.ite (ba zx (pi 0))
 (.ret zx)
 (.next ⟨[],[]⟩)))
 (.next ⟨[(3,qF)],[]⟩))
 (.exit 0 ⟨[(12,r3),(13,pN),(14,(pc o1 0)),(15,tX),(16,(aj r3 tX))],[]⟩))
def Ew (b:Nat→PC):PT:=
 (.ite (aj r6 lb)
 (.blockS ⟨[],[]⟩ 3 [2,5,7,38,39,40,41,42,43,44,45,46,47,48,49,50,52,53,54,55,56,57,58,59] [44,5]
 (.chk (av (pc o1 1) r6)
 (.chk (bV (.llen Tb) cW)
 (.call ⟨[(5,pN)],[(5,Tb)]⟩ [] 48 208 [Tb,r6]
 (.ite (ba lW (pi 0))
 (.ret lW)
 (.chk (av (pc o1 1) r6)
 (.call ⟨[],[]⟩ [] 58 209 [(aC 8 o1),(pn (pc o1 1) r6)]
 (.ite (.nt zz)
 (.ret (pi 1))
 (.next ⟨[],[]⟩))))))))
 (.next ⟨[(6,(aP r6 (pi 1)))],[]⟩))
 (.exit 2 ⟨[(30,r6),(31,pN),(32,(pc o1 1)),(33,lb),(34,(aj r6 lb))],[]⟩))
def VD (b:Nat→PC):PT:=
 (.ite (bh (.llen la) (pi 8))
 (.ret (pi 6))
 (.brk ⟨[(3,(pi 0)),(2,(pi 0))],[(1,(.mk [r0]))]⟩
(awt b)
 (.ite (bh lb (pi 40))
 (.ret (pi 6))
 (.brk ⟨[(6,(pi 0)),(5,pN)],[(5,pL)]⟩
(awu b)
 (.ret (pi 0))))))
def aq3 (b:Nat→PC):PT×List (Shp×PT):=(VD b,[(.lp 0 [2,3,12,13,14,15,16] [] [2,3] [],Ev b),(.lp 2 [2,5,6,30,31,32,33,34] [5] [2,5,6] [5],Ew b)])
theorem I7:Bh.map told=some (aq3 (ay Bh)):=by kernel_rfl
theorem aCP:tree Kh=VD AG:=aN I7
theorem TG:round 0 [2,3,12,13,14,15,16] [] [2,3] [] (AG 0)=Ev AG:=bx I7 0 fun _=>rfl
theorem TH:round 2 [2,5,6,30,31,32,33,34] [5] [2,5,6] [5] (AG 1)=Ew AG:=bx I7 1 fun _=>rfl
theorem am5:Bh=some Kh:=aF I7
noncomputable def GP:Option PC:=aD {ctx with fr:=[4],nh:=[]} Tryz.f208 ((ab af 208).getD default) []
noncomputable def Kj:PC:=az GP
def VF:PT:=
 (.chk (av r0 r1)
 (.call ⟨[],[]⟩ [] 9 257 [(pn r0 r1)]
 (.ite (.nt r9)
 (.ret (pi 2))
 (.chk (av r0 r1)
 (.call ⟨[],[]⟩ [] 17 258 [r0,r1,(pn r0 r1)]
 (.ite kF
 (.ret (pi 5))
 (.ret (pi 0))))))))
def aq5 (b:Nat→PC):PT×List (Shp×PT):=(VF,[])
theorem ae5:GP.map told=some (aq5 (ay GP)):=by kernel_rfl
theorem aCR:tree Kj=VF:=aN ae5
theorem am7:GP=some Kj:=aF ae5
noncomputable def Bd:Option PC:=aD {ctx with fr:=[2,3,4],nh:=[]} Tryz.f257 ((ab af 257).getD default) []
noncomputable def Kc:PC:=az Bd
noncomputable def ND:Nat→PC:=bG Bd
def awo (b:Nat→PC):PC:=.block 0 [2,3,13,14,15,16] [] (.loop [2,3] [] (b 0))
def Ep (b:Nat→PC):PT:=
 (.ite (aj r3 (.slen r0))
 (.blockS ⟨[],[]⟩ 1 [2,4,19,20,21,22,23,34,35,36,37,38,39,40,47] []
 (.chk (.sok r0 r3)
 (.chk (.nt (.an (.an (.nt Ta) pT) (.nt (.sok r0 r3))))
 (.chk (.nt (.an (.an (bV (.con (.v (.int .u8 48))) (.sidx r0 r3)) (.an (.nt Ta) pT)) (.nt (.sok r0 r3))))
 (.call ⟨[(4,(.pick Ta pT (.pick (bV (.con (.v (.int .u8 48))) (.sidx r0 r3)) (bV (.sidx r0 r3) (.con (.v (.int .u8 57)))) pF)))],[]⟩ [] 38 285 [(.sidx r0 r3)]
 (.ite (.pick (.nt iv) (.pick (aq r3 (pi 0)) pT (.nt r4)) pF)
 (.ret pF)
 (.next ⟨[],[]⟩))))))
 (.next ⟨[(3,qF)],[]⟩))
 (.exit 0 ⟨[(13,r3),(14,r0),(15,(.slen r0)),(16,(aj r3 (.slen r0)))],[]⟩))
def Vy (b:Nat→PC):PT:=
 (.ite (.pick (aj (.slen r0) (pi 1)) pT (bh (.slen r0) (pi 20)))
 (.ret pF)
 (.brk ⟨[(3,(pi 0)),(2,pF)],[]⟩
(awo b)
 (.ret pT)))
def aqY (b:Nat→PC):PT×List (Shp×PT):=(Vy b,[(.lp 0 [2,3,13,14,15,16] [] [2,3] [],Ep b)])
theorem R2:Bd.map told=some (aqY (ay Bd)):=by kernel_rfl
theorem aCK:tree Kc=Vy ND:=aN R2
theorem TB:round 0 [2,3,13,14,15,16] [] [2,3] [] (ND 0)=Ep ND:=bx R2 0 fun _=>rfl
theorem am0:Bd=some Kc:=aF R2
noncomputable def GN:Option PC:=aD {ctx with fr:=[2],nh:=[]} Tryz.f285 ((ab af 285).getD default) []
noncomputable def Kb:PC:=az GN
def Vx:PT:=
 (.ret (.pick (.pick (bV (.con (.v (.int .u8 97))) r0) (bV r0 (.con (.v (.int .u8 122)))) pF) pT (.pick (bV (.con (.v (.int .u8 65))) r0) (bV r0 (.con (.v (.int .u8 90)))) pF)))
def aqX (b:Nat→PC):PT×List (Shp×PT):=(Vx,[])
theorem ae3:GN.map told=some (aqX (ay GN)):=by kernel_rfl
theorem aCJ:tree Kb=Vx:=aN ae3
theorem amZ:GN=some Kb:=aF ae3
noncomputable def Bb:Option PC:=aD {ctx with fr:=[6,7],nh:=[]} Tryz.f258 ((ab af 258).getD default) []
noncomputable def J8:PC:=az Bb
noncomputable def NC:Nat→PC:=bG Bb
def awl (b:Nat→PC):PC:=.block 0 [6,7,8,9,10,11,16] [] (.loop [6,7] [] (b 0))
def En (b:Nat→PC):PT:=
 (.ite (.pick (aj r7 r1) (aj r7 (.llen r0)) pF)
 (.chk (av r0 r7)
 (.ite (.cs .eql (pn r0 r7) r2)
 (.ret pT)
 (.next ⟨[(7,(aP r7 (pi 1)))],[]⟩)))
 (.exit 0 ⟨[(8,r7),(9,r1),(10,(aj r7 r1)),(11,(aj r7 r1)),(16,(.pick (aj r7 r1) (aj r7 (.llen r0)) pF))],[]⟩))
def Vu (b:Nat→PC):PT:=
 (.brk ⟨[(7,(pi 0)),(6,pF)],[]⟩
(awl b)
 (.ret pF))
def aqU (b:Nat→PC):PT×List (Shp×PT):=(Vu b,[(.lp 0 [6,7,8,9,10,11,16] [] [6,7] [],En b)])
theorem R1:Bb.map told=some (aqU (ay Bb)):=by kernel_rfl
theorem aCG:tree J8=Vu NC:=aN R1
theorem TA:round 0 [6,7,8,9,10,11,16] [] [6,7] [] (NC 0)=En NC:=bx R1 0 fun _=>rfl
theorem amW:Bb=some J8:=aF R1
noncomputable def Be:Option PC:=aD {ctx with fr:=[4,5],nh:=[]} Tryz.f209 ((ab af 209).getD default) [2,3]
noncomputable def Kd:PC:=az Be
noncomputable def NF:Nat→PC:=bG Be
def awp (b:Nat→PC):PC:=.block 0 [4,5,36,37,38,39,40] [] (.loop [4,5] [] (b 0))
def Er (b:Nat→PC):PT:=
 (.ite (aj r5 (.llen (pc o3 4)))
 (.blockS ⟨[],[]⟩ 1 [4,43,44,45,46,47,48,49,50,51,60] []
 (.chk (av (pc o3 4) r5)
 (.chk zr
 (.call ⟨[],[]⟩ [] 49 210 [(.ai .quo .i64 (pn (pc o3 4) r5) (pi 100)),(pi 1),(pi 12)]
 (.chk (.nt (.an (.an (.nt (.nt mU)) pT) (.nt (av (pc o3 4) r5))))
 (.chk (.nt (.an (.an (.nt (.nt mU)) pT) (.nt zr)))
 (.call ⟨[(51,(.nt mU))],[]⟩ [(51,false)] 58 210 [(.ai .rem .i64 (pn (pc o3 4) r5) (pi 100)),(pi 1),(pi 31)]
 (.ite (.pick lf pT (.nt zz))
 (.ret pF)
 (.next ⟨[],[]⟩))))))))
 (.next ⟨[(5,qE)],[]⟩))
 (.exit 0 ⟨[(36,r5),(37,pN),(38,(pc o3 4)),(39,(.llen (pc o3 4))),(40,(aj r5 (.llen (pc o3 4))))],[]⟩))
def Vz (b:Nat→PC):PT:=
 (.call ⟨[(4,pF)],[(3,(.mk [r1])),(2,(.mk [r0]))]⟩ [] 12 210 [(pc (.mk [r1]) 1),(pi 0),(bC (.llen wC) (pi 1))]
 (.call ⟨[(14,(.nt bY))],[]⟩ [(14,false)] 21 210 [(pc o3 2),(pi 0),(bC (.llen (pc o2 0)) (pi 1))]
 (.ite (.pick (.pick (.pick dv pT (.nt lV)) pT (bh (.llen (pc o3 4)) (pi 60))) pT (bh (.llen (pc o3 5)) (pi 200)))
 (.ret pF)
 (.brk ⟨[(5,(pi 0))],[]⟩
(awp b)
 (.call ⟨[],[]⟩ [] 63 259 [(pc o3 3),(pi 0),(pi 6)]
 (.call ⟨[(64,LW)],[]⟩ [(64,true)] 67 259 [(pc o3 4),(pi 0),(pi 2000)]
 (.call ⟨[(69,(.pick kI uc pF))],[]⟩ [(69,true)] 72 259 [(pc o3 5),(pi 0),(pi 100000)]
 (.ret (.pick sq ud pF)))))))))
def aqZ (b:Nat→PC):PT×List (Shp×PT):=(Vz b,[(.lp 0 [4,5,36,37,38,39,40] [] [4,5] [],Er b)])
theorem R3:Be.map told=some (aqZ (ay Be)):=by kernel_rfl
theorem aCL:tree Kd=Vz NF:=aN R3
theorem TC:round 0 [4,5,36,37,38,39,40] [] [4,5] [] (NF 0)=Er NF:=bx R3 0 fun _=>rfl
theorem am1:Be=some Kd:=aF R3
end Rm
