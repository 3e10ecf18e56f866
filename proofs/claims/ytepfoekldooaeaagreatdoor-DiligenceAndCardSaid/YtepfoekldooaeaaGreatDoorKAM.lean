/-
  eJ functions of this T7, compiled (2).
-/
import Derived.Test.YtepfoekldooaeaaGreatDoorKAK
import Derived.KernelRfl
set_option linter.unusedVariables false
set_option maxRecDepth 100000
namespace Rm
open Go Go.Proofs Cx
noncomputable def As:Option PC:=av {ctx with fr:=[],nh:=[]} Tryz.f141 ((aa ab 141).getD default) [1,2,3,4,6,16390,20486,24582,21,8,34,10,12298,16394,47]
noncomputable def KA:PC:=au As
noncomputable def tZ:Nat→PC:=bk As
def ayK (b:Nat→PC):PC:=.block 0 [2,14,15] [2] (.loop [2,14] [2] (b 0))
def ayL (b:Nat→PC):PC:=.block 2 [3,27,28] [3] (.loop [3,27] [3] (b 1))
def ayM (b:Nat→PC):PC:=.block 4 [4,40,41] [4] (.loop [4,40] [4] (b 2))
def Mk (b:Nat→PC):PT:=
 (.ite mL
 (.chk (ay bI cj)
 (.chk (aW (.llen agr) cd)
 (.next ⟨[(2,pN),(14,(aD cj (pi 1)))],[(2,agr)]⟩)))
 (.exit 0 ⟨[(15,mL)],[]⟩))
def Ml (b:Nat→PC):PT:=
 (.ite (aj dP jQ)
 (.chk (ay gU dP)
 (.chk (aW (.llen af9) cd)
 (.next ⟨[(3,pN),(27,(aD dP (pi 1)))],[(3,af9)]⟩)))
 (.exit 2 ⟨[(28,(aj dP jQ))],[]⟩))
def Mm (b:Nat→PC):PT:=
 (.ite (aj nA qn)
 (.chk (ay jo nA)
 (.chk (aW (.llen agu) cd)
 (.next ⟨[(4,pN),(40,(aD nA (pi 1)))],[(4,agu)]⟩)))
 (.exit 4 ⟨[(41,(aj nA qn))],[]⟩))
def VS (b:Nat→PC):PT:=
 (.brk ⟨[(14,(pi 0)),(13,(.llen mJ)),(12,mJ),(4,pN),(3,pN),(2,pN)],[(4,pL),(3,pL),(2,pL),(1,(.mk [r0]))]⟩
(ayK b)
 (.brk ⟨[(27,(pi 0)),(26,mK),(25,(pc o1 3))],[]⟩
(ayL b)
 (.brk ⟨[(40,(pi 0)),(39,nz),(38,(pc o1 4))],[]⟩
(ayM b)
 (.ret (.tup [o2,o3,o4])))))
def atp (b:Nat→PC):PT×List (Shp×PT):=(VS b,[(.lp 0 [2,14,15] [2] [2,14] [2],Mk b),(.lp 2 [3,27,28] [3] [3,27] [3],Ml b),(.lp 4 [4,40,41] [4] [4,40] [4],Mm b)])
theorem Cz:As.map told=some (atp (ar As)):=by kernel_rfl
theorem aFv:tree KA=VS tZ:=aA Cz
theorem agQ:round 0 [2,14,15] [2] [2,14] [2] (tZ 0)=Mk tZ:=aZ Cz 0 fun _=>rfl
theorem agR:round 2 [3,27,28] [3] [3,27] [3] (tZ 1)=Ml tZ:=aZ Cz 1 fun _=>rfl
theorem agS:round 4 [4,40,41] [4] [4,40] [4] (tZ 2)=Mm tZ:=aZ Cz 2 fun _=>rfl
theorem an7:As=some KA:=aw Cz
noncomputable def Aq:Option PC:=av {ctx with fr:=[6,7,8],nh:=[]} Tryz.f142 ((aa ab 142).getD default) []
noncomputable def Kv:PC:=au Aq
noncomputable def NS:Nat→PC:=bk Aq
def ayI (b:Nat→PC):PC:=.block 0 [6,15,16] [] (.loop [6,15] [] (b 0))
def Ds (b:Nat→PC):PT:=
 (.ite (aj bM cj)
 (.blockS ⟨[],[]⟩ 1 [6,7,8,17,18,19,20,21,22,24,25,26,27] []
 (.call ⟨[(7,bM)],[]⟩ [] 20 184 [r0,bM]
 (.ite (aH cM (pi 0))
 (.ret cM)
 (.callc ⟨[],[]⟩ [] 26 r2 [r7]
 (.ite (.nt jQ)
 (.ret (pi 1))
 (.next ⟨[],[]⟩)))))
 (.next ⟨[(15,(aD bM (pi 1)))],[]⟩))
 (.exit 0 ⟨[(16,(aj bM cj))],[]⟩))
def VO (b:Nat→PC):PT:=
 (.ite (aO (.llen r0) r1)
 (.ret (pi 6))
 (.brk ⟨[(15,(pi 0)),(14,(.llen r0)),(6,(pi 0))],[]⟩
(ayI b)
 (.ret (pi 0))))
def atl (b:Nat→PC):PT×List (Shp×PT):=(VO b,[(.lp 0 [6,15,16] [] [6,15] [],Ds b)])
theorem RK:Aq.map told=some (atl (ar Aq)):=by kernel_rfl
theorem aFr:tree Kv=VO NS:=aA RK
theorem To:round 0 [6,15,16] [] [6,15] [] (NS 0)=Ds NS:=aZ RK 0 fun _=>rfl
theorem an3:Aq=some Kv:=aw RK
noncomputable def Ge:Option PC:=av {ctx with fr:=[4],nh:=[]} Tryz.f184 ((aa ab 184).getD default) []
noncomputable def Kz:PC:=au Ge
def VR:PT:=
 (.chk (ay r0 r1)
 (.call ⟨[],[]⟩ [] 9 208 [(pn r0 r1)]
 (.ite (.nt r9)
 (.ret (pi 2))
 (.chk (.slok r0 (pi 0) r1)
 (.chk (ay r0 r1)
 (.call ⟨[],[]⟩ [] 18 209 [(.slc r0 (pi 0) r1),(pn r0 r1)]
 (.ite cA
 (.ret (pi 5))
 (.ret (pi 0)))))))))
def ato (b:Nat→PC):PT×List (Shp×PT):=(VR,[])
theorem aeN:Ge.map told=some (ato (ar Ge)):=by kernel_rfl
theorem aFu:tree Kz=VR:=aA aeN
theorem an6:Ge=some Kz:=aw aeN
noncomputable def Ar:Option PC:=av {ctx with fr:=[2,3,4,5],nh:=[]} Tryz.f208 ((aa ab 208).getD default) []
noncomputable def Ky:PC:=au Ar
noncomputable def NT:Nat→PC:=bk Ar
def ayJ (b:Nat→PC):PC:=.block 0 [2,16,17] [] (.loop [2,16] [] (b 0))
def Dt (b:Nat→PC):PT:=
 (.ite (aj ct bM)
 (.chk (ay cj ct)
 (.ite (.pick (.nt (.pick (.pick (aV qh (.con (.v (.int .u8 97)))) (aW qh (.con (.v (.int .u8 122)))) pF) pT (.pick (aV qh (.con (.v (.int .u8 65)))) (aW qh (.con (.v (.int .u8 90)))) pF))) (.pick (ah ct (pi 0)) pT (.pick (aH qh (.con (.v (.int .u8 95)))) (.pick (aj qh (.con (.v (.int .u8 48)))) pT (aO qh (.con (.v (.int .u8 57))))) pF)) pF)
 (.ret pF)
 (.next ⟨[(16,(aD ct (pi 1)))],[]⟩)))
 (.exit 0 ⟨[(17,(aj ct bM))],[]⟩))
def VQ (b:Nat→PC):PT:=
 (.ite (.pick (.cs .eql r0 (.con (.v (.string ⟨#[]⟩)))) pT (aO (.slen r0) (pi 20)))
 (.ret pF)
 (.chk (aW (.slen r0) cd)
 (.brk ⟨[(16,(pi 0)),(15,(.llen (.bytes r0))),(14,(.bytes r0)),(2,pF)],[]⟩
(ayJ b)
 (.ret pT))))
def atn (b:Nat→PC):PT×List (Shp×PT):=(VQ b,[(.lp 0 [2,16,17] [] [2,16] [],Dt b)])
theorem RL:Ar.map told=some (atn (ar Ar)):=by kernel_rfl
theorem aFt:tree Ky=VQ NT:=aA RL
theorem Tp:round 0 [2,16,17] [] [2,16] [] (NT 0)=Dt NT:=aZ RL 0 fun _=>rfl
theorem an5:Ar=some Ky:=aw RL
noncomputable def Gm:Option PC:=av {ctx with fr:=[4],nh:=[]} Tryz.f209 ((aa ab 209).getD default) []
noncomputable def KQ:PC:=au Gm
def V7:PT:=
 (.call ⟨[],[]⟩ [] 7 226 [r0,r1]
 (.ret (aV r7 (pi 0))))
def atH (b:Nat→PC):PT×List (Shp×PT):=(V7,[])
theorem aeU:Gm.map told=some (atH (ar Gm)):=by kernel_rfl
theorem aFL:tree KQ=V7:=aA aeU
theorem aon:Gm=some KQ:=aw aeU
noncomputable def AH:Option PC:=av {ctx with fr:=[4,5],nh:=[]} Tryz.f226 ((aa ab 226).getD default) []
noncomputable def KV:PC:=au AH
noncomputable def N0:Nat→PC:=bk AH
def ay7 (b:Nat→PC):PC:=.block 0 [4,8,9] [] (.loop [4,8] [] (b 0))
def DJ (b:Nat→PC):PT:=
 (.ite (aj r8 r7)
 (.chk (ay r0 r8)
 (.ite (.cs .eql r1 (pn r0 r8))
 (.ret r8)
 (.next ⟨[(8,qm)],[]⟩)))
 (.exit 0 ⟨[(9,(aj r8 r7))],[]⟩))
def Wc (b:Nat→PC):PT:=
 (.brk ⟨[(8,(pi 0)),(7,(.llen r0)),(4,(pi 0))],[]⟩
(ay7 b)
 (.ret (pi (-1))))
def atM (b:Nat→PC):PT×List (Shp×PT):=(Wc b,[(.lp 0 [4,8,9] [] [4,8] [],DJ b)])
theorem RS:AH.map told=some (atM (ar AH)):=by kernel_rfl
theorem aFQ:tree KV=Wc N0:=aA RS
theorem TH:round 0 [4,8,9] [] [4,8] [] (N0 0)=DJ N0:=aZ RS 0 fun _=>rfl
theorem aos:AH=some KV:=aw RS
noncomputable def F8:Option PC:=av {ctx with fr:=[2],nh:=[]} Tryz.f143 ((aa ab 143).getD default) []
noncomputable def Ko:PC:=au F8
def VH:PT:=
 (.ret pT)
def ate (b:Nat→PC):PT×List (Shp×PT):=(VH,[])
theorem aeH:F8.map told=some (ate (ar F8)):=by kernel_rfl
theorem aFj:tree Ko=VH:=aA aeH
theorem anV:F8=some Ko:=aw aeH
noncomputable def F9:Option PC:=av {ctx with fr:=[3],nh:=[]} Tryz.f144 ((aa ab 144).getD default) []
noncomputable def Kp:PC:=au F9
def VI:PT:=
 (.chk (ay (pc (.deref r1) 1) r0)
 (.call ⟨[],[]⟩ [] 10 145 [(.deref r1),(pn (pc (.deref r1) 1) r0)]
 (.ret cf)))
def atf (b:Nat→PC):PT×List (Shp×PT):=(VI,[])
theorem aeI:F9.map told=some (atf (ar F9)):=by kernel_rfl
theorem aFk:tree Kp=VI:=aA aeI
theorem anW:F9=some Kp:=aw aeI
noncomputable def Ap:Option PC:=av {ctx with fr:=[4,6],nh:=[]} Tryz.f145 ((aa ab 145).getD default) [2,3]
noncomputable def Ku:PC:=au Ap
noncomputable def NR:Nat→PC:=bk Ap
def ayH (b:Nat→PC):PC:=.block 0 [4,10,11] [] (.loop [4,10] [] (b 0))
def Dr (b:Nat→PC):PT:=
 (.ite (aj cf r9)
 (.chk (ay r8 cf)
 (.chk yo
 (.chk (.nt (.an (.an (.nt (aj (.ai .rem .i64 (pn r8 cf) (pi 100)) (pi 1))) pT) (.nt yo)))
 (.ite (.pick (aj (.ai .rem .i64 (pn r8 cf) (pi 100)) (pi 1)) pT (aO (.ai .rem .i64 (pn r8 cf) (pi 100)) (pi 31)))
 (.ret pF)
 (.next ⟨[(10,(aD cf (pi 1)))],[]⟩)))))
 (.exit 0 ⟨[(11,(aj cf r9))],[]⟩))
def VN (b:Nat→PC):PT:=
 (.brk ⟨[(10,(pi 0)),(9,(.llen (pc (.mk [r1]) 4))),(8,(pc (.mk [r1]) 4)),(4,pF)],[(3,(.mk [r1])),(2,(.mk [r0]))]⟩
(ayH b)
 (.call ⟨[(33,(.pick (aO (.llen (pc o3 4)) (pi 60)) pT (aO (.llen (pc o3 5)) (pi 200))))],[]⟩ [(33,false)] 39 146 [(pc o3 1),(.llen (pc o2 4))]
 (.call ⟨[(42,(.pick tg pT (.nt qn)))],[]⟩ [(42,false)] 48 146 [(pc o3 2),(.llen (pc o2 0))]
 (.ite (.pick L1 pT (.nt ga))
 (.ret pF)
 (.call ⟨[],[]⟩ [] 53 185 [(pc o3 3),(pi 0),(pi 6)]
 (.call ⟨[(54,L2)],[]⟩ [(54,true)] 57 185 [(pc o3 4),(pi 101),(pi 1231)]
 (.call ⟨[(59,(.pick qo rI pF))],[]⟩ [(59,true)] 62 185 [(pc o3 5),(pi 0),(pi 100000)]
 (.ret (.pick L3 lO pF)))))))))
def atk (b:Nat→PC):PT×List (Shp×PT):=(VN b,[(.lp 0 [4,10,11] [] [4,10] [],Dr b)])
theorem RJ:Ap.map told=some (atk (ar Ap)):=by kernel_rfl
theorem aFq:tree Ku=VN NR:=aA RJ
theorem Tn:round 0 [4,10,11] [] [4,10] [] (NR 0)=Dr NR:=aZ RJ 0 fun _=>rfl
theorem an2:Ap=some Ku:=aw RJ
noncomputable def Av:Option PC:=av {ctx with fr:=[6,7,8],nh:=[]} Tryz.f185 ((aa ab 185).getD default) []
noncomputable def KD:PC:=au Av
noncomputable def NU:Nat→PC:=bk Av
def ayR (b:Nat→PC):PC:=.block 0 [6,11,12] [] (.loop [6,11] [] (b 0))
def tu (b:Nat→PC):PT:=
 (.ite (aj bp cf)
 (.chk (ay r9 bp)
 (.chk (.nt (.an (.an (aO bp (pi 0)) (.an (.nt (.pick (aj (pn r9 bp) r1) pT (aO (pn r9 bp) r2))) pT)) (.nt (ay r0 (bn bp (pi 1))))))
 (.ite (.pick (.pick (aj (pn r9 bp) r1) pT (aO (pn r9 bp) r2)) pT (.pick (aO bp (pi 0)) (aW (pn r9 bp) (pn r0 (bn bp (pi 1)))) pF))
 (.ret pF)
 (.next ⟨[(11,(aD bp (pi 1)))],[]⟩))))
 (.exit 0 ⟨[(12,(aj bp cf))],[]⟩))
def VV (b:Nat→PC):PT:=
 (.brk ⟨[(11,(pi 0)),(10,(.llen r0)),(9,r0),(6,pF)],[]⟩
(ayR b)
 (.ret pT))
def ats (b:Nat→PC):PT×List (Shp×PT):=(VV b,[(.lp 0 [6,11,12] [] [6,11] [],tu b)])
theorem RM:Av.map told=some (ats (ar Av)):=by kernel_rfl
theorem aFy:tree KD=VV NU:=aA RM
theorem yG:round 0 [6,11,12] [] [6,11] [] (NU 0)=tu NU:=aZ RM 0 fun _=>rfl
theorem aoa:Av=some KD:=aw RM
noncomputable def Ga:Option PC:=av {ctx with fr:=[3],nh:=[]} Tryz.f147 ((aa ab 147).getD default) []
noncomputable def Kq:PC:=au Ga
def VJ:PT:=
 (.chk (ay (pc (.deref r1) 3) r0)
 (.call ⟨[],[]⟩ [] 13 146 [(pc (pn (pc (.deref r1) 3) r0) 1),(.llen (pc (.deref r1) 1))]
 (.chk (.nt (.an (.an bU pT) (.nt (ay (pc (.deref r1) 3) r0))))
 (.call ⟨[(14,bU)],[]⟩ [(14,true)] 24 146 [(pc (pn (pc (.deref r1) 3) r0) 2),(.llen (pc (.deref r1) 2))]
 (.ret (.pick cj kq pF))))))
def atg (b:Nat→PC):PT×List (Shp×PT):=(VJ,[])
theorem aeJ:Ga.map told=some (atg (ar Ga)):=by kernel_rfl
theorem aFl:tree Kq=VJ:=aA aeJ
theorem anX:Ga=some Kq:=aw aeJ
noncomputable def Gb:Option PC:=av {ctx with fr:=[3],nh:=[]} Tryz.f148 ((aa ab 148).getD default) []
noncomputable def Kr:PC:=au Gb
def VK:PT:=
 (.chk (ay (pc (.deref r1) 4) r0)
 (.call ⟨[],[]⟩ [] 9 149 [(pn (pc (.deref r1) 4) r0)]
 (.ret r9)))
def ath (b:Nat→PC):PT×List (Shp×PT):=(VK,[])
theorem aeK:Gb.map told=some (ath (ar Gb)):=by kernel_rfl
theorem aFm:tree Kr=VK:=aA aeK
theorem anY:Gb=some Kr:=aw aeK
noncomputable def At:Option PC:=av {ctx with fr:=[2],nh:=[]} Tryz.f149 ((aa ab 149).getD default) [1,3,4,6,19,8,16392,36]
noncomputable def KB:PC:=au At
noncomputable def zw:Nat→PC:=bk At
def ayN (b:Nat→PC):PC:=.block 0 [2,3,12,13] [3] (.loop [2,3,12] [3] (b 0))
def ayO (b:Nat→PC):PC:=.block 2 [4,29,30] [4] (.loop [4,29] [4] (b 1))
def Du (b:Nat→PC):PT:=
 (.ite (aj bI bp)
 (.blockS ⟨[],[]⟩ 1 [2,3,6,14,15,17,18,19,20,21,22,23,24] [6,19,3]
 (.chk (ay cf bI)
 (.chk (aW (.llen (.app o3 (.lst [(pc (.setc LM 0 rB) 0)]))) cd)
 (.call ⟨[(3,pN)],[(3,(.app o3 (.lst [(pc (.setc LM 0 rB) 0)])))]⟩ [] 23 146 [(pc (.setc LM 0 rB) 1),(pi 5)]
 (.ite (.nt eX)
 (.ret pF)
 (.next ⟨[],[]⟩)))))
 (.next ⟨[(12,(aD bI (pi 1)))],[]⟩))
 (.exit 0 ⟨[(13,(aj bI bp))],[]⟩))
def Mn (b:Nat→PC):PT:=
 (.ite (aj kr fG)
 (.chk (ay dP kr)
 (.chk (aW (.llen aga) cd)
 (.next ⟨[(4,pN),(29,(aD kr (pi 1)))],[(4,aga)]⟩)))
 (.exit 2 ⟨[(30,(aj kr fG))],[]⟩))
def VT (b:Nat→PC):PT:=
 (.brk ⟨[(12,(pi 0)),(11,oQ),(10,vJ),(4,pN),(3,pN),(2,pF)],[(4,pL),(3,pL),(1,(.mk [r0]))]⟩
(ayN b)
 (.brk ⟨[(29,(pi 0)),(28,mK),(27,(pc o1 3))],[]⟩
(ayO b)
 (.call ⟨[],[]⟩ [] 40 185 [o3,(pi 0),(pi 21)]
 (.call ⟨[(41,nA)],[]⟩ [(41,true)] 43 185 [o4,(pi 0),(pi 21)]
 (.ret (.pick kT oU pF))))))
def atq (b:Nat→PC):PT×List (Shp×PT):=(VT b,[(.lp 0 [2,3,12,13] [3] [2,3,12] [3],Du b),(.lp 2 [4,29,30] [4] [4,29] [4],Mn b)])
theorem IL:At.map told=some (atq (ar At)):=by kernel_rfl
theorem aFw:tree KB=VT zw:=aA IL
theorem Tq:round 0 [2,3,12,13] [3] [2,3,12] [3] (zw 0)=Du zw:=aZ IL 0 fun _=>rfl
theorem agT:round 2 [4,29,30] [4] [4,29] [4] (zw 1)=Mn zw:=aZ IL 1 fun _=>rfl
theorem an8:At=some KB:=aw IL
noncomputable def Aw:Option PC:=av {ctx with fr:=[2,3],nh:=[]} Tryz.f150 ((aa ab 150).getD default) [1,4,6]
noncomputable def KE:PC:=au Aw
noncomputable def zy:Nat→PC:=bk Aw
def ayS (b:Nat→PC):PC:=.block 2 [2,50,51] [] (.loop [2,50] [] (b 0))
def ayT (b:Nat→PC):PC:=.block 0 [2,14,15] [] (.loop [2,14] [] (b 1))
def yH (b:Nat→PC):PT:=
 (.ite (aj fH kU)
 (.chk (ay ga fH)
 (.ite (.pick (ah (pc (.setc z3 0 (pn ga fH)) 0) (pc o4 0)) (ah (pc (.setc z3 0 (pn ga fH)) 1) (pc o4 1)) pF)
 (.ret (pi 5))
 (.next ⟨[(50,(aD fH (pi 1)))],[]⟩)))
 (.exit 2 ⟨[(51,(aj fH kU))],[]⟩))
def Dx (b:Nat→PC):PT:=
 (.ite mL
 (.blockS ⟨[(15,mL)],[]⟩ 1 [2,3,4,16,17,18,19,20,21,22,23,24,25,26,34,35,39,40,44,45,46,47,48,49,50,51] [4]
 (.chk (ay bI cj)
 (.call ⟨[(3,cj)],[(4,(.setc z3 0 kS))]⟩ [] 24 146 [(pc (.setc z3 0 kS) 0),kQ]
 (.call ⟨[(26,(.nt kq))],[]⟩ [(26,false)] 32 146 [(pc o4 1),kQ]
 (.ite (.pick (.pick (.pick jQ pT (.nt td)) pT (aj (pc o4 2) (pi 1))) pT (aO (pc o4 2) (pi 20000)))
 (.ret (pi 1))
 (.chk (.slok (pc o1 5) (pi 0) r3)
 (.brk ⟨[(50,(pi 0)),(49,(.llen (.slc (pc o1 5) (pi 0) r3))),(48,(.slc (pc o1 5) (pi 0) r3))],[]⟩
(ayS b)
 (.next ⟨[],[]⟩)))))))
 (.next ⟨[(14,(aD cj (pi 1)))],[]⟩))
 (.exit 0 ⟨[(15,mL)],[]⟩))
def VW (b:Nat→PC):PT:=
 (.ite (aO (.llen vC) (pi 100))
 (.ret (pi 6))
 (.brk ⟨[(14,(pi 0)),(13,(.llen vC)),(12,vC),(2,(pi 0))],[(1,(.mk [r0]))]⟩
(ayT b)
 (.ret (pi 0))))
def att (b:Nat→PC):PT×List (Shp×PT):=(VW b,[(.lp 2 [2,50,51] [] [2,50] [],yH b),(.lp 0 [2,14,15] [] [2,14] [],Dx b)])
theorem IN:Aw.map told=some (att (ar Aw)):=by kernel_rfl
theorem aFz:tree KE=VW zy:=aA IN
theorem Mo:round 2 [2,50,51] [] [2,50] [] (zy 0)=yH zy:=aZ IN 0 fun _=>rfl
theorem Tt:round 0 [2,14,15] [] [2,14] [] (zy 1)=Dx zy:=aZ IN 1 fun _=>rfl
theorem aob:Aw=some KE:=aw IN
noncomputable def Au:Option PC:=av {ctx with fr:=[2],nh:=[]} Tryz.f151 ((aa ab 151).getD default) [1,4,6]
noncomputable def KC:PC:=au Au
noncomputable def zx:Nat→PC:=bk Au
def ayP (b:Nat→PC):PC:=.block 0 [2,14,15] [] (.loop [2,14] [] (b 0))
def ayQ (b:Nat→PC):PC:=.block 2 [2,69,70] [] (.loop [2,69] [] (b 1))
def Dv (b:Nat→PC):PT:=
 (.ite mL
 (.blockS ⟨[],[]⟩ 1 [2,4,16,17,18,19,20,21,22,23,24,25,33,34,40,41,47,48,54,55,60] [4]
 (.chk (ay bI cj)
 (.call ⟨[],[(4,(.setc z5 0 kS))]⟩ [] 23 146 [(pc (.setc z5 0 kS) 0),sZ]
 (.call ⟨[(25,(.nt eX))],[]⟩ [(25,false)] 31 146 [(pc o4 1),sZ]
 (.call ⟨[(41,(.pick (.pick gU pT (.nt mM)) pT (ah (pc o4 0) (pc o4 1))))],[]⟩ [(41,false)] 45 146 [(bn (pc o4 2) (pi 1)),(pi 1073741824)]
 (.call ⟨[(48,(.pick kT pT (.nt nB)))],[]⟩ [(48,false)] 52 146 [(bn (pc o4 3) (pi 1)),(pi 1073741824)]
 (.call ⟨[(55,(.pick ga pT (.nt tn)))],[]⟩ [(55,false)] 58 146 [(pc o4 4),(pi 100001)]
 (.ite (.pick qp pT (.nt nC))
 (.ret (pi 1))
 (.next ⟨[],[]⟩))))))))
 (.next ⟨[(14,(aD cj (pi 1)))],[]⟩))
 (.exit 0 ⟨[(15,mL)],[]⟩))
def Dw (b:Nat→PC):PT:=
 (.ite (aj vP L4)
 (.blockS ⟨[],[]⟩ 3 [2,6,71,72,73,74,75,76,77,78,79,80,84,85,91,92,96] [6]
 (.chk (ay tp vP)
 (.call ⟨[],[(6,(.setc z3 0 (pn tp vP)))]⟩ [] 78 146 [(pc (.setc z3 0 (pn tp vP)) 0),nz]
 (.ite (.pick (.pick (.pick (.nt r78) pT (aj (pc o6 1) (pi 0))) pT (aO (pc o6 1) (pc o6 2))) pT (aO (pc o6 2) (pi 100000)))
 (.ret (pi 1))
 (.next ⟨[],[]⟩))))
 (.next ⟨[(69,(aD vP (pi 1)))],[]⟩))
 (.exit 2 ⟨[(70,(aj vP L4))],[]⟩))
def VU (b:Nat→PC):PT:=
 (.ite (aO (.llen (pc (.mk [r0]) 6)) (pi 100))
 (.ret (pi 6))
 (.brk ⟨[(14,(pi 0)),(13,(.llen (pc (.mk [r0]) 6))),(12,(pc (.mk [r0]) 6)),(2,(pi 0))],[(1,(.mk [r0]))]⟩
(ayP b)
 (.ite (aO vD (pi 20))
 (.ret (pi 6))
 (.brk ⟨[(69,(pi 0)),(68,vD),(67,(pc o1 7))],[]⟩
(ayQ b)
 (.ret (pi 0))))))
def atr (b:Nat→PC):PT×List (Shp×PT):=(VU b,[(.lp 0 [2,14,15] [] [2,14] [],Dv b),(.lp 2 [2,69,70] [] [2,69] [],Dw b)])
theorem IM:Au.map told=some (atr (ar Au)):=by kernel_rfl
theorem aFx:tree KC=VU zx:=aA IM
theorem Tr:round 0 [2,14,15] [] [2,14] [] (zx 0)=Dv zx:=aZ IM 0 fun _=>rfl
theorem Ts:round 2 [2,69,70] [] [2,69] [] (zx 1)=Dw zx:=aZ IM 1 fun _=>rfl
theorem an9:Au=some KC:=aw IM
noncomputable def Gs:Option PC:=av {ctx with fr:=[4],nh:=[]} Tryz.f124 ((aa ab 124).getD default) [2]
noncomputable def K1:PC:=au Gs
def Wf:PT:=
 (.ret (.pick (aV r1 (pi 0)) (aj r1 (.llen mJ)) pF))
def atU (b:Nat→PC):PT×List (Shp×PT):=(Wf,[])
theorem aeZ:Gs.map told=some (atU (ar Gs)):=by kernel_rfl
theorem aFT:tree K1=Wf:=aA aeZ
theorem aoy:Gs=some K1:=aw aeZ
noncomputable def Gt:Option PC:=av {ctx with fr:=[2],nh:=[]} Tryz.f125 ((aa ab 125).getD default) []
noncomputable def K4:PC:=au Gt
def Wg:PT:=
 (.ret (.pick (aV r0 (pi 0)) (aW r0 (pi 100000)) pF))
def atV (b:Nat→PC):PT×List (Shp×PT):=(Wg,[])
theorem ae0:Gt.map told=some (atV (ar Gt)):=by kernel_rfl
theorem aFU:tree K4=Wg:=aA ae0
theorem aoz:Gt=some K4:=aw ae0
noncomputable def Gp:Option PC:=av {ctx with fr:=[2],nh:=[]} Tryz.f126 ((aa ab 126).getD default) [1]
noncomputable def KY:PC:=au Gp
def We:PT:=
 (.ret (.pick (ah ko (pi 0)) pT (ah ko (pi 1))))
def atP (b:Nat→PC):PT×List (Shp×PT):=(We,[])
theorem aeW:Gp.map told=some (atP (ar Gp)):=by kernel_rfl
theorem aFS:tree KY=We:=aA aeW
theorem aov:Gp=some KY:=aw aeW
noncomputable def Gr:Option PC:=av {ctx with fr:=[6,7,13,16,24,33,8,9],nh:=[]} Tryz.f127 ((aa ab 127).getD default) [3,4]
noncomputable def K0:PC:=au Gr
def tM:PT:=
 (.blockS ⟨[(12,(pc (.mk [r1]) 5))],[(4,(.mk [r1])),(3,(.mk [r0]))]⟩ 0 [6,7,13,14,16,17,24,25,33,34] []
 (.iteS ⟨[],[]⟩ (ah bI (pi 0)) [6,7,16,17,24,25,33,34] []
 (.ret (.tup [r2,(pi 0)]))
 (.iteS ⟨[],[]⟩ (ah bI (pi 1)) [6,7,24,25,33,34] []
 (.call ⟨[],[]⟩ [] 21 169 [r2,(.mk [(pc o4 5),(pc o4 6),(pc o4 7)])]
 (.ret (.tup [(.tget fY 0),(.tget fY 1)])))
 (.iteS ⟨[],[]⟩ (ah bI (pi 2)) [6,7,33,34] []
 (.call ⟨[],[]⟩ [] 30 169 [(pc o4 8),(.mk [(pc o4 5),(pc o4 6),(pc o4 7)])]
 (.ret (.tup [(.tget fZ 0),(.tget fZ 1)])))
 (.iteS ⟨[],[]⟩ (ah bI (pi 4)) [6,7] []
 (.call ⟨[],[]⟩ [] 41 163 [(af 8 o3),(pc o4 9),(pc o4 10)]
 (.ret (.tup [(aD (pc o4 8) (.tget kT 0)),(.tget kT 1)])))
 (.next ⟨[],[]⟩)
 (.next ⟨[],[]⟩))
 (.next ⟨[],[]⟩))
 (.next ⟨[],[]⟩))
 (.next ⟨[],[]⟩))
 (.ret (.tup [(pc o4 6),(pi 0)])))
def atT (b:Nat→PC):PT×List (Shp×PT):=(tM,[])
theorem aeY:Gr.map told=some (atT (ar Gr)):=by kernel_rfl
theorem yX:tree K0=tM:=aA aeY
theorem aox:Gr=some K0:=aw aeY
noncomputable def Gq:Option PC:=av {ctx with fr:=[4,5],nh:=[]} Tryz.f169 ((aa ab 169).getD default) [3]
noncomputable def KZ:PC:=au Gq
def yW:PT:=
 (.ite (.pick (aj rF (pi 0)) pT (aO rF (pi 20000)))
 (.ret (.tup [(pi 0),(pi 3)]))
 (.iteS ⟨[],[(3,(.mk [r1]))]⟩ (ah (pc (.mk [r1]) 2) (pi 1)) [4,5] []
 (.call ⟨[],[]⟩ [] 20 195 [r0,(pc o3 1)]
 (.ret (.tup [(.tget cM 0),(.tget cM 1)])))
 (.next ⟨[],[]⟩)
 (.ret (.tup [(aD r0 (pc o3 1)),(pi 0)]))))
def atQ (b:Nat→PC):PT×List (Shp×PT):=(yW,[])
theorem aeX:Gq.map told=some (atQ (ar Gq)):=by kernel_rfl
theorem M0:tree KZ=yW:=aA aeX
theorem aow:Gq=some KZ:=aw aeX
noncomputable def E2:Option PC:=av {ctx with fr:=[4,5,6,7,8,9],nh:=[]} Tryz.f195 ((aa ab 195).getD default) []
noncomputable def I8:PC:=au E2
def MR:PT:=
 (.call ⟨[],[]⟩ [] 11 194 [r0]
 (.ite (.pick (.pick (.nt bp) pT (aj r1 (pi (-5000)))) pT (aO r1 (pi 5000)))
 (.ret (.tup [(pi 0),(pi 3)]))
 (.call ⟨[],[]⟩ [] 23 212 [r0]
 (.chk (aH (pi 12) (pi 0))
 (.call ⟨[(41,(.tget eX 2)),(40,(aD (.ai .rem .i64 LP (pi 12)) (pi 1))),(39,(.ai .quo .i64 LP (pi 12)))],[]⟩ [] 44 214 [(.ai .quo .i64 LP (pi 12)),(aD (.ai .rem .i64 LP (pi 12)) (pi 1))]
 (.call ⟨[],[]⟩ [] 46 213 [qn,nA,(.mn kT th)]
 (.ret (.tup [(.tget CX 0),(.tget CX 1)]))))))))
def arE (b:Nat→PC):PT×List (Shp×PT):=(MR,[])
theorem adX:E2.map told=some (arE (ar E2)):=by kernel_rfl
theorem ahW:tree I8=MR:=aA adX
theorem amn:E2=some I8:=aw adX
noncomputable def E9:Option PC:=av {ctx with fr:=[2],nh:=[]} Tryz.f194 ((aa ab 194).getD default) []
noncomputable def Jh:PC:=au E9
def UG:PT:=
 (.ret (.pick (aW (pi 0) r0) (aW r0 (pi 100000)) pF))
def arP (b:Nat→PC):PT×List (Shp×PT):=(UG,[])
theorem ad4:E9.map told=some (arP (ar E9)):=by kernel_rfl
theorem aDY:tree Jh=UG:=aA ad4
theorem amx:E9=some Jh:=aw ad4
noncomputable def E4:Option PC:=av {ctx with fr:=[2,3,4,5,6,7,8,9],nh:=[]} Tryz.f212 ((aa ab 212).getD default) []
noncomputable def Jc:PC:=au E4
def UC:PT:=
 (.chk (aH (pi 146097) (pi 0))
 (.chk (aH (pi 1460) (pi 0))
 (.chk (aH (pi 36524) (pi 0))
 (.chk (aH (pi 146096) (pi 0))
 (.chk (aH (pi 365) (pi 0))
 (.chk (aH (pi 4) (pi 0))
 (.chk yo
 (.chk (aH (pi 153) (pi 0))
 (.chk (aH (pi 5) (pi 0))
 (.ret (.tup [(.pick (aj age (pi 3)) (aD agj (pi 1)) agj),age,(aD (bn (bn (.ai .rem .i64 (aD r0 (pi 730425)) (pi 146097)) (bn (aD (.ai .mul .i64 (pi 365) vH) (.ai .quo .i64 vH (pi 4))) (.ai .quo .i64 vH (pi 100)))) (.ai .quo .i64 (aD (.ai .mul .i64 (pi 153) Lz) (pi 2)) (pi 5))) (pi 1))])))))))))))
def arJ (b:Nat→PC):PT×List (Shp×PT):=(UC,[])
theorem adZ:E4.map told=some (arJ (ar E4)):=by kernel_rfl
theorem aDT:tree Jc=UC:=aA adZ
theorem amr:E4=some Jc:=aw adZ
noncomputable def E6:Option PC:=av {ctx with fr:=[4],nh:=[]} Tryz.f214 ((aa ab 214).getD default) []
noncomputable def Je:PC:=au E6
def MT:PT:=
 (.ite (ah r1 (pi 12))
 (.ret (pi 31))
 (.call ⟨[],[]⟩ [] 10 227 [r0,(aD r1 (pi 1)),(pi 1)]
 (.call ⟨[],[]⟩ [] 13 227 [r0,r1,(pi 1)]
 (.ret (bn cf bU)))))
def arM (b:Nat→PC):PT×List (Shp×PT):=(MT,[])
theorem ad1:E6.map told=some (arM (ar E6)):=by kernel_rfl
theorem aDW:tree Je=MT:=aA ad1
theorem amu:E6=some Je:=aw ad1
noncomputable def E7:Option PC:=av {ctx with fr:=[6,0,1],nh:=[]} Tryz.f227 ((aa ab 227).getD default) []
noncomputable def Jf:PC:=au E7
def MU:PT:=
 (.chk (aH (pi 4) (pi 0))
 (.chk yo
 (.chk (aH (pi 400) (pi 0))
 (.chk (aH (pi 5) (pi 0))
 (.ret (bn (bn (aD (aD (aD (bn (aD (.ai .mul .i64 (pi 365) LX) (.ai .quo .i64 LX (pi 4))) (.ai .quo .i64 LX (pi 100))) (.ai .quo .i64 LX (pi 400))) (.ai .quo .i64 (aD (.ai .mul .i64 (pi 153) (bn (.pick (aj r1 (pi 3)) (aD r1 (pi 12)) r1) (pi 3))) (pi 2)) (pi 5))) r2) (pi 1)) (pi 730425)))))))
def arN (b:Nat→PC):PT×List (Shp×PT):=(MU,[])
theorem ad2:E7.map told=some (arN (ar E7)):=by kernel_rfl
theorem ahX:tree Jf=MU:=aA ad2
theorem amv:E7=some Jf:=aw ad2
noncomputable def E3:Option PC:=av {ctx with fr:=[6,7,8],nh:=[]} Tryz.f213 ((aa ab 213).getD default) []
noncomputable def I9:PC:=au E3
def yV:PT:=
 (.call ⟨[(28,r2),(27,(.pick (.pick (.pick (.pick (aj r0 (pi 2000)) pT (aO r0 (pi 2300))) pT (aj r1 (pi 1))) pT (aO r1 (pi 12))) pT (aj r2 (pi 1))))],[]⟩ [(27,false)] 31 214 [r0,r1]
 (.ite (.pick dP pT (aO fG mM))
 (.ret (.tup [(pi 0),(pi 3)]))
 (.call ⟨[],[]⟩ [] 37 227 [r0,r1,r2]
 (.call ⟨[(8,jn)],[]⟩ [] 39 194 [jn]
 (.ite (.nt qn)
 (.ret (.tup [(pi 0),(pi 3)]))
 (.ret (.tup [r8,(pi 0)])))))))
def arF (b:Nat→PC):PT×List (Shp×PT):=(yV,[])
theorem adY:E3.map told=some (arF (ar E3)):=by kernel_rfl
theorem MS:tree I9=yV:=aA adY
theorem amo:E3=some I9:=aw adY
noncomputable def Ao:Option PC:=av {ctx with fr:=[6,7],nh:=[]} Tryz.f163 ((aa ab 163).getD default) [3,9]
noncomputable def Kt:PC:=au Ao
noncomputable def NQ:Nat→PC:=bk Ao
def ayG (b:Nat→PC):PC:=.block 0 [6,7,13,14] [] (.loop [6,7,13] [] (b 0))
def Dq (b:Nat→PC):PT:=
 (.ite (aj bU bI)
 (.chk (ay bp bU)
 (.ite (.pick (ah (pc (.setc z3 0 qj) 0) r1) (ah (pc (.setc z3 0 qj) 1) r2) pF)
 (.ret (.tup [(pc (.setc z3 0 qj) 2),(pi 0)]))
 (.next ⟨[(13,(aD bU (pi 1)))],[]⟩)))
 (.exit 0 ⟨[(14,(aj bU bI))],[]⟩))
def VM (b:Nat→PC):PT:=
 (.brk ⟨[(13,(pi 0)),(12,(.llen vC)),(11,vC),(7,(pi 0)),(6,(pi 0))],[]⟩
(ayG b)
 (.ret (.tup [(pi 0),(pi 4)])))
def atj (b:Nat→PC):PT×List (Shp×PT):=(VM b,[(.lp 0 [6,7,13,14] [] [6,7,13] [],Dq b)])
theorem RI:Ao.map told=some (atj (ar Ao)):=by kernel_rfl
theorem aFp:tree Kt=VM NQ:=aA RI
theorem Tl:round 0 [6,7,13,14] [] [6,7,13] [] (NQ 0)=Dq NQ:=aZ RI 0 fun _=>rfl
theorem an1:Ao=some Kt:=aw RI
noncomputable def AJ:Option PC:=av {ctx with fr:=[6,7,8,2,9,10],nh:=[]} Tryz.f128 ((aa ab 128).getD default) [3]
noncomputable def K5:PC:=au AJ
noncomputable def N2:Nat→PC:=bk AJ
def ay8 (b:Nat→PC):PC:=.block 0 [] [] (.loop [2,6,7] [] (b 0))
def TI (b:Nat→PC):PT:=
 (.blockS ⟨[],[]⟩ 1 [2,6,7,9,10,14,15,16,17,18,19,20,21,22,23,24,25,26,27,28,29,30,31,32,34] []
 (.call ⟨[],[]⟩ [] 17 171 [(af 8 o3),r8,r2]
 (.chk (ay (pc o3 1) r1)
 (.call ⟨[(2,dB)],[]⟩ [] 25 172 [(pn (pc o3 1) r1),dB]
 (.ite (aH (.tget gU 1) (pi 0))
 (.ret (.tup [(pi 0),(pi 3)]))
 (.ite (ah (.tget gU 0) r2)
 (.ret (.tup [r2,(pi 0)]))
 (.next ⟨[(2,(.tget gU 0))],[]⟩))))))
 (.next ⟨[],[]⟩))
def Wh (b:Nat→PC):PT:=
 (.call ⟨[(7,(pi 0)),(6,(pi 0))],[(3,(.mk [r0]))]⟩ [] 13 170 [fX,r1]
 (.brk ⟨[(8,bU)],[]⟩
(ay8 b)
 (.next ⟨[],[]⟩)))
def atW (b:Nat→PC):PT×List (Shp×PT):=(Wh b,[(.lp 0 [] [] [2,6,7] [],TI b)])
theorem RU:AJ.map told=some (atW (ar AJ)):=by kernel_rfl
theorem aFV:tree K5=Wh N2:=aA RU
theorem aCj:round 0 [] [] [2,6,7] [] (N2 0)=TI N2:=aZ RU 0 fun _=>rfl
theorem aoA:AJ=some K5:=aw RU
noncomputable def AK:Option PC:=av {ctx with fr:=[6,7,2],nh:=[]} Tryz.f171 ((aa ab 171).getD default) [3,9]
noncomputable def K6:PC:=au AK
noncomputable def zC:Nat→PC:=bk AK
def ay9 (b:Nat→PC):PC:=.block 2 [2,7,14,15] [] (.loop [2,7,14] [] (b 0))
def aza (b:Nat→PC):PC:=.block 0 [2,7,10] [] (.loop [2,7] [] (b 1))
def yI (b:Nat→PC):PT:=
 (.ite mL
 (.chk (ay bI cj)
 (.next ⟨[(2,(.pick agt (aD (pc (.setc z3 0 kS) 2) (pi 1)) r2)),(7,(.pick agt pT r7)),(14,(aD cj (pi 1)))],[]⟩))
 (.exit 2 ⟨[(15,mL)],[]⟩))
def Mt (b:Nat→PC):PT:=
 (.ite r7
 (.blockS ⟨[(10,r7)],[]⟩ 1 [2,7,11,12,13,14,15] []
 (.brk ⟨[(14,(pi 0)),(13,(.llen (pc o3 7))),(12,(pc o3 7)),(7,pF)],[]⟩
(ay9 b)
 (.next ⟨[],[]⟩))
 (.next ⟨[],[]⟩))
 (.exit 0 ⟨[(10,r7)],[]⟩))
def Wi (b:Nat→PC):PT:=
 (.brk ⟨[(7,pT)],[(3,(.mk [r0]))]⟩
(aza b)
 (.ret r2))
def atX (b:Nat→PC):PT×List (Shp×PT):=(Wi b,[(.lp 2 [2,7,14,15] [] [2,7,14] [],yI b),(.lp 0 [2,7,10] [] [2,7] [],Mt b)])
theorem IT:AK.map told=some (atX (ar AK)):=by kernel_rfl
theorem aFW:tree K6=Wi zC:=aA IT
theorem Ms:round 2 [2,7,14,15] [] [2,7,14] [] (zC 0)=yI zC:=aZ IT 0 fun _=>rfl
theorem agX:round 0 [2,7,10] [] [2,7] [] (zC 1)=Mt zC:=aZ IT 1 fun _=>rfl
theorem aoB:AK=some K6:=aw IT
noncomputable def zK:Option PC:=av {ctx with fr:=[6],nh:=[]} Tryz.f172 ((aa ab 172).getD default) [2,4,5]
noncomputable def Ja:PC:=au zK
noncomputable def Ns:Nat→PC:=bk zK
def aqx (b:Nat→PC):PC:=.each cA [16] [4,5] (some (.tup [(pc o4 0),(pc o5 0)])) (b 0)
def SQ (b:Nat→PC):PT:=
 (.exit 1000000007 ⟨[],[(4,(.setc o4 0 ct)),(5,(.setc o5 0 (pi 0)))]⟩)
def UA (b:Nat→PC):PT:=
 (.call ⟨[],[(5,CN),(4,CN),(2,(.mk [r0]))]⟩ [] 8 194 [r1]
 (.ite (.nt r8)
 (.ret (.tup [(pc (.setc o4 0 (pi 0)) 0),(pc (.setc o5 0 (pi 3)) 0)]))
 (.call ⟨[],[]⟩ [] 15 196 [(af 6 o2),r1,(.mn (aD r1 (pi 400)) (pi 100000))]
 (.blockS ⟨[],[]⟩ 0 [] [4,5]
 (.callc ⟨[],[]⟩ [] 18 bM []
 (.brk ⟨[],[]⟩
(aqx b)
 (.next ⟨[],[]⟩)))
 (.ret (.tup [(pc (.setc o4 0 (pi 0)) 0),(pc (.setc o5 0 (pi 3)) 0)]))))))
def arG (b:Nat→PC):PT×List (Shp×PT):=(UA b,[(.ea [4,5],SQ b)])
theorem Rl:zK.map told=some (arG (ar zK)):=by kernel_rfl
theorem aDR:tree Ja=UA Ns:=aA Rl
theorem aCb:oZ [4,5] (Ns 0)=SQ Ns:=Uq Rl 0 fun _=>rfl
theorem amp:zK=some Ja:=aw Rl
noncomputable def E5:Option PC:=av {ctx with fr:=[6],nh:=[]} Tryz.f196 ((aa ab 196).getD default) [3,4,5]
noncomputable def Jd:PC:=au E5
def UD:PT:=
 (.ret (.clo 215 [(.ref rH),(.ref (pc (.mk [r2]) 0)),(.ref (af 6 (.mk [r0])))]))
def arK (b:Nat→PC):PT×List (Shp×PT):=(UD,[])
theorem ad0:E5.map told=some (arK (ar E5)):=by kernel_rfl
theorem aDV:tree Jd=UD:=aA ad0
theorem amt:E5=some Jd:=aw ad0
noncomputable def wJ:Option PC:=AO {ctx with fr:=[5],nh:=[]} Tryz.f215 [(.ref I),(.ref I),(.ref Y0)] [I] 1000 [1000]
noncomputable def CF:PC:=au wJ
noncomputable def Nu:Nat→PC:=bk wJ
def ax0 (b:Nat→PC):PC:=.block 0 [5,7,8,9] [1000] (.loop [5] [1000] (b 0))
def L7 (b:Nat→PC):PT:=
 (.ite (aW r5 (.deref r2))
 (.blockS ⟨[],[]⟩ 1 [12,13,14,15,20] [1000]
 (.call ⟨[],[]⟩ [] 14 216 [(.deref r3),r5]
 (.call ⟨[(15,cj)],[(1000,agf)]⟩ [(15,true)] 18 1000000009 [agf]
 (.ite (.pick bM (.nt cA) pF)
 (.ret (.o 1000))
 (.next ⟨[],[]⟩))))
 (.next ⟨[(5,vE)],[]⟩))
 (.exit 0 ⟨[(7,r5),(8,(.deref r2)),(9,(aW r5 (.deref r2)))],[]⟩))
def UE (b:Nat→PC):PT:=
 (.brk ⟨[(5,(.deref r1))],[]⟩
(ax0 b)
 (.ret (.o 1000)))
def arL (b:Nat→PC):PT×List (Shp×PT):=(UE b,[(.lp 0 [5,7,8,9] [1000] [5] [1000],L7 b)])
theorem Rn:wJ.map told=some (arL (ar wJ)):=by kernel_rfl
theorem aDU:tree CF=UE Nu:=aA Rn
theorem agI:round 0 [5,7,8,9] [1000] [5] [1000] (Nu 0)=L7 Nu:=aZ Rn 0 fun _=>rfl
theorem ams:wJ=some CF:=aw Rn
theorem aoV:∀yv,AO {ctx with fr:=[5],nh:=[],yv:=yv} Tryz.f215 [(.ref I),(.ref I),(.ref Y0)] [I] 1000 [1000]=some CF:=fun yv=>(show _=wJ by kernel_rfl).trans ams
noncomputable def E8:Option PC:=av {ctx with fr:=[4,5,6,7],nh:=[]} Tryz.f216 ((aa ab 216).getD default) [2]
noncomputable def Jg:PC:=au E8
def UF:PT:=
 (.call ⟨[],[(2,(.mk [r0]))]⟩ [] 10 212 [r1]
 (.chk (aH (pi 7) (pi 0))
 (.call ⟨[(7,(.tget cf 2)),(6,(.tget cf 1))],[]⟩ [] 19 45 [(pc o2 3),(.ai .rem .i64 (aD r1 (pi 5)) (pi 7))]
 (.call ⟨[(21,(.nt gu))],[]⟩ [(21,true)] 28 45 [(pc o2 4),(aD (.ai .mul .i64 (pi 100) r6) r7)]
 (.call ⟨[(31,(.pick fY (.nt fG) pF))],[]⟩ [(31,true)] 35 45 [(pc o2 5),r1]
 (.ret (.pick mM (.nt mN) pF)))))))
def arO (b:Nat→PC):PT×List (Shp×PT):=(UF,[])
theorem ad3:E8.map told=some (arO (ar E8)):=by kernel_rfl
theorem aDX:tree Jg=UF:=aA ad3
theorem amw:E8=some Jg:=aw ad3
noncomputable def Fo:Option PC:=av {ctx with fr:=[2,3,4,27,32],nh:=[]} Tryz.f71 ((aa ab 71).getD default) [1]
noncomputable def Jz:PC:=au Fo
def UX:PT:=
 (.iteS ⟨[(3,(pc (.mk [r0]) 14))],[(1,(.mk [r0]))]⟩ (ah (pc (.mk [r0]) 14) (pi 0)) [2] []
 (.call ⟨[(12,(af 31 o1))],[]⟩ [] 14 119 [(af 31 o1),(pi 2),(pi 0)]
 (.call ⟨[],[]⟩ [] 16 120 [(af 31 o1)]
 (.call ⟨[],[]⟩ [] 17 118 [bI,cj,ct]
 (.ret dB))))
 (.next ⟨[],[]⟩)
 (.iteS ⟨[(4,(pi 1))],[]⟩ (ah r3 (pi 1)) [4] []
 (.call ⟨[(20,(af 31 o1))],[]⟩ [] 23 81 [(.mk [(pc o1 9),(pc o1 10),(pc o1 11),(pc o1 12),(pc o1 13),(pc o1 14),(pc o1 15),(pc o1 16),(pc o1 17),(pc o1 18),(pc o1 19),(pc o1 20),(pc o1 21),(pc o1 22),(pc o1 23),(pc o1 24),(pc o1 25),(pc o1 26),(pc o1 27)])]
 (.call ⟨[],[]⟩ [] 25 120 [(af 31 o1)]
 (.call ⟨[],[]⟩ [] 26 118 [cM,eX,gU]
 (.next ⟨[(4,jQ)],[]⟩))))
 (.next ⟨[],[]⟩)
 (.blockS ⟨[],[]⟩ 0 [2,27,28,29,30,32,33,34,35] []
 (.call ⟨[],[]⟩ [] 29 121 [(af 31 o1)]
 (.iteS ⟨[],[]⟩ (aH kr (pi (-1))) [2,32,33,34,35] []
 (.ret r4)
 (.iteS ⟨[],[]⟩ (ah (pc o1 30) (pi (-1))) [2] []
 (.call ⟨[],[]⟩ [] 38 76 [(.lst [r4,(pi 2)])]
 (.ret jo))
 (.next ⟨[],[]⟩)
 (.next ⟨[],[]⟩))
 (.next ⟨[],[]⟩)))
 (.call ⟨[(40,(af 31 o1)),(39,r4)],[]⟩ [] 44 119 [(af 31 o1),(pi 2),(pc o1 30)]
 (.call ⟨[(45,(af 31 o1))],[]⟩ [] 47 73 [(af 31 o1),(pi 10)]
 (.call ⟨[],[]⟩ [] 50 122 [nB,tj,(pc o1 30)]
 (.call ⟨[],[]⟩ [] 51 118 [nA,th,fH]
 (.call ⟨[],[]⟩ [] 53 76 [(.lst [qn,kV])]
 (.ret L2)))))))))
def ar7 (b:Nat→PC):PT×List (Shp×PT):=(UX,[])
theorem aeh:Fo.map told=some (ar7 (ar Fo)):=by kernel_rfl
theorem aEg:tree Jz=UX:=aA aeh
theorem amP:Fo=some Jz:=aw aeh
noncomputable def zP:Option PC:=av {ctx with fr:=[6],nh:=[]} Tryz.f119 ((aa ab 119).getD default) [3,8]
noncomputable def Jx:PC:=au zP
noncomputable def Ny:Nat→PC:=bk zP
def ax4 (b:Nat→PC):PC:=.block 0 [6,13,14] [] (.loop [6,13] [] (b 0))
def C1 (b:Nat→PC):PT:=
 (.ite (aj bU bI)
 (.chk (ay bp bU)
 (.ite (.pick (.pick (ah (pc (.setc z9 0 qj) 0) r1) (ah (pc (.setc z9 0 qj) 2) (pc o3 10)) pF) (aV (pc (.setc z9 0 qj) 6) r2) pF)
 (.ret (pc (.setc z9 0 qj) 6))
 (.next ⟨[(13,(aD bU (pi 1)))],[]⟩)))
 (.exit 0 ⟨[(14,(aj bU bI))],[]⟩))
def UU (b:Nat→PC):PT:=
 (.brk ⟨[(13,(pi 0)),(12,(.llen (pc (.mk [r0]) 26))),(11,(pc (.mk [r0]) 26)),(6,(pi 0))],[(3,(.mk [r0]))]⟩
(ax4 b)
 (.ret (pi (-1))))
def ar5 (b:Nat→PC):PT×List (Shp×PT):=(UU b,[(.lp 0 [6,13,14] [] [6,13] [],C1 b)])
theorem Rr:zP.map told=some (ar5 (ar zP)):=by kernel_rfl
theorem aEe:tree Jx=UU Ny:=aA Rr
theorem SV:round 0 [6,13,14] [] [6,13] [] (Ny 0)=C1 Ny:=aZ Rr 0 fun _=>rfl
theorem amN:zP=some Jx:=aw Rr
noncomputable def Fq:Option PC:=av {ctx with fr:=[13,18,24],nh:=[]} Tryz.f120 ((aa ab 120).getD default) [1,2,3]
noncomputable def JC:PC:=au Fq
def U0:PT:=
 (.call ⟨[],[(2,cF),(1,(.mk [r0]))]⟩ [] 12 57 [fX,(pc (.mk [r0]) 8),(pi 7),agl,(pc (.mk [r0]) 29)]
 (.ite (aH (pc (.setc ns 0 bI) 4) (pi 0))
 (.ret (.mk [(pc (.setc o2 0 yw) 0),(pc (.setc o2 0 yw) 1)]))
 (.ite (.nt (pc (.setc ns 0 bI) 0))
 (.ret (.mk [(pc (.setc o2 0 rG) 0),(pc (.setc o2 0 rG) 1)]))
 (.ite (aO Sn (pi 100000))
 (.ret (.mk [(pc (.setc o2 0 yw) 0),(pc (.setc o2 0 yw) 1)]))
 (.ret (.mk [(pc (.setc o2 0 (.mk [pT,Sn])) 0),(pc (.setc o2 0 (.mk [pT,Sn])) 1)]))))))
def asa (b:Nat→PC):PT×List (Shp×PT):=(U0,[])
theorem aej:Fq.map told=some (asa (ar Fq)):=by kernel_rfl
theorem aEj:tree JC=U0:=aA aej
theorem amS:Fq=some JC:=aw aej
noncomputable def Fs:Option PC:=av {ctx with fr:=[6,7,11,20],nh:=[]} Tryz.f118 ((aa ab 118).getD default) [3,5]
noncomputable def JD:PC:=au Fs
def MV:PT:=
 (.ite (.nt (pc (.mk [r2]) 0))
 (.ret (pi 2))
 (.ite (.pick (aH r1 (pi (-1))) (aW r1 (pc (.mk [r2]) 1)) pF)
 (.ret (pi 1))
 (.ite (.pick (aH r1 (pi (-1))) pT (aO (pc (.mk [r0]) 29) (pc (.mk [r2]) 1)))
 (.ret (pi 0))
 (.ret (pi 2)))))
def asb (b:Nat→PC):PT×List (Shp×PT):=(MV,[])
theorem aek:Fs.map told=some (asb (ar Fs)):=by kernel_rfl
theorem aEk:tree JD=MV:=aA aek
theorem amT:Fs=some JD:=aw aek
noncomputable def Fp:Option PC:=av {ctx with fr:=[2,3],nh:=[]} Tryz.f121 ((aa ab 121).getD default) [1]
noncomputable def JB:PC:=au Fp
def UZ:PT:=
 (.call ⟨[],[(1,(.mk [r0]))]⟩ [] 5 119 [(af 31 (.mk [r0])),(pi 1),(pi 0)]
 (.ite (aO r5 (pc o1 30))
 (.ret (pi (-1)))
 (.ret r5)))
def ar9 (b:Nat→PC):PT×List (Shp×PT):=(UZ,[])
theorem aei:Fp.map told=some (ar9 (ar Fp)):=by kernel_rfl
theorem aEi:tree JB=UZ:=aA aei
theorem amR:Fp=some JB:=aw aei
noncomputable def Fh:Option PC:=av {ctx with fr:=[2,3,6],nh:=[]} Tryz.f76 ((aa ab 76).getD default) []
noncomputable def Jr:PC:=au Fh
def UP:PT:=
 (.blockS ⟨[],[]⟩ 0 [2,3,4,5,6,7,8] []
 (.call ⟨[],[]⟩ [] 5 45 [r0,(pi 0)]
 (.iteS ⟨[],[]⟩ r5 [2,6,7,8] []
 (.ret (pi 0))
 (.call ⟨[],[]⟩ [] 8 45 [r0,(pi 2)]
 (.ite r8
 (.ret (pi 2))
 (.next ⟨[],[]⟩)))
 (.next ⟨[],[]⟩)))
 (.ret (pi 1)))
def arZ (b:Nat→PC):PT×List (Shp×PT):=(UP,[])
theorem aeb:Fh.map told=some (arZ (ar Fh)):=by kernel_rfl
theorem aD8:tree Jr=UP:=aA aeb
theorem amH:Fh=some Jr:=aw aeb
noncomputable def Fk:Option PC:=av {ctx with fr:=[],nh:=[]} Tryz.f73 ((aa ab 73).getD default) [2,4]
noncomputable def Ju:PC:=au Fk
def US:PT:=
 (.call ⟨[],[(4,ns)]⟩ [] 21 34 [fX,(pc (.mk [r0]) 8),r1,(.mk [agl,(pc (.mk [r0]) 28),(pc (.mk [r0]) 28),(pi (-1)),(pc (.mk [r0]) 30),(pc (.mk [r0]) 29)])]
 (.ret (af 5 (.setc o4 0 fY))))
def ar2 (b:Nat→PC):PT×List (Shp×PT):=(US,[])
theorem aee:Fk.map told=some (ar2 (ar Fk)):=by kernel_rfl
theorem aEb:tree Ju=US:=aA aee
theorem amK:Fk=some Ju:=aw aee
noncomputable def Fl:Option PC:=av {ctx with fr:=[7,8],nh:=[]} Tryz.f122 ((aa ab 122).getD default) [3,4,6]
noncomputable def Jv:PC:=au Fl
def D6:PT:=
 (.ite (aH (pc (.mk [r1]) 4) (pi 0))
 (.ret (.mk [(pc (.setc cF 0 yw) 0),(pc (.setc cF 0 yw) 1)]))
 (.ite (.nt rH)
 (.ret (.mk [(pc (.setc cF 0 rG) 0),(pc (.setc cF 0 rG) 1)]))
 (.chk (ay mJ (pc (.mk [r0]) 19))
 (.call ⟨[],[(6,cF)]⟩ [] 32 168 [(pn mJ (pc (.mk [r0]) 19)),r2,rF]
 (.ret (.mk [(pc agd 0),(pc agd 1)]))))))
def ar3 (b:Nat→PC):PT×List (Shp×PT):=(D6,[])
theorem aef:Fl.map told=some (ar3 (ar Fl)):=by kernel_rfl
theorem aEc:tree Jv=D6:=aA aef
theorem amL:Fl=some Jv:=aw aef
noncomputable def zL:Option PC:=av {ctx with fr:=[6,7,8,9,1],nh:=[]} Tryz.f168 ((aa ab 168).getD default) [3]
noncomputable def Jb:PC:=au zL
noncomputable def Nt:Nat→PC:=bk zL
def axZ (b:Nat→PC):PC:=.block 0 [1,6,7,22,23] [] (.loop [1,6,7,22] [] (b 0))
def L6 (b:Nat→PC):PT:=
 (.ite (aj kp fY)
 (.blockS ⟨[],[]⟩ 1 [1,6,7,8,9,24,25,26,27,28,29,30,31,32,34] []
 (.call ⟨[],[]⟩ [] 28 172 [(af 6 o3),(aD r1 (pi 1))]
 (.ite (aH (.tget fG 1) (pi 0))
 (.ret (.tup [(pi 0),(.tget fG 1)]))
 (.next ⟨[(1,(.tget fG 0))],[]⟩)))
 (.next ⟨[(22,(aD kp (pi 1)))],[]⟩))
 (.exit 0 ⟨[(23,(aj kp fY))],[]⟩))
def UB (b:Nat→PC):PT:=
 (.call ⟨[(7,(pi 0)),(6,(pi 0))],[(3,(.mk [r0]))]⟩ [] 11 194 [r1]
 (.ite (.pick (.pick (.nt bp) pT (aj r2 (pi 0))) pT (aO r2 (pi 20000)))
 (.ret (.tup [(pi 0),(pi 3)]))
 (.brk ⟨[(22,(pi 0)),(21,r2)],[]⟩
(axZ b)
 (.ret (.tup [r1,(pi 0)])))))
def arH (b:Nat→PC):PT×List (Shp×PT):=(UB b,[(.lp 0 [1,6,7,22,23] [] [1,6,7,22] [],L6 b)])
theorem Rm:zL.map told=some (arH (ar zL)):=by kernel_rfl
theorem aDS:tree Jb=UB Nt:=aA Rm
theorem agH:round 0 [1,6,7,22,23] [] [1,6,7,22] [] (Nt 0)=L6 Nt:=aZ Rm 0 fun _=>rfl
theorem amq:zL=some Jb:=aw Rm
noncomputable def zR:Option PC:=av {ctx with fr:=[2,3,5,8,63,66],nh:=[]} Tryz.f74 ((aa ab 74).getD default) [1,4,7]
noncomputable def JA:PC:=au zR
noncomputable def Nz:Nat→PC:=bk zR
def ax7 (b:Nat→PC):PC:=.block 0 [2,5,28,29] [] (.loop [2,5,28] [] (b 0))
def Ma (b:Nat→PC):PT:=
 (.ite (aj fG dP)
 (.blockS ⟨[],[]⟩ 1 [2,5,7,30,31,32,33,34,35,43,44,49,50,56] [7]
 (.chk (ay jQ fG)
 (.ite (.pick (.pick (.pick (aH (pc CL 0) (pi 4)) pT (aH (pc CL 2) (pc o1 10))) pT (aj (pc CL 6) r3)) pT (aO (pc CL 6) (pc o4 1)))
 (.exit 1 ⟨[],[]⟩)
 (.iteS ⟨[(8,(pi 1))],[]⟩ (ah (pc CL 8) (pi 1)) [8] []
 (.call ⟨[],[]⟩ [] 61 73 [(af 31 o1),(pi 9)]
 (.call ⟨[],[]⟩ [] 62 33 [vN]
 (.next ⟨[(8,lO)],[]⟩)))
 (.next ⟨[],[]⟩)
 (.ite (ah r8 (pi 1))
 (.ret (pi 1))
 (.next ⟨[(5,(.pick (ah r8 (pi 2)) (pi 2) r5))],[]⟩)))))
 (.next ⟨[(28,(aD fG (pi 1)))],[]⟩))
 (.exit 0 ⟨[(29,(aj fG dP))],[]⟩))
def UY (b:Nat→PC):PT:=
 (.call ⟨[(2,(pi 0))],[(1,(.mk [r0]))]⟩ [] 10 79 [(af 31 (.mk [r0]))]
 (.call ⟨[(11,(af 31 o1)),(3,cf)],[]⟩ [] 13 73 [(af 31 o1),(pi 10)]
 (.call ⟨[],[]⟩ [] 15 122 [bp,bU,r3]
 (.ite (.nt (pc (.setc cF 0 bM) 0))
 (.ret (pi 2))
 (.brk ⟨[(28,(pi 0)),(27,(.llen (pc o1 26))),(26,(pc o1 26)),(5,(.pick (aW (pc o1 29) (pc (.setc cF 0 bM) 1)) (pi 2) (pi 0)))],[(4,(.setc cF 0 bM))]⟩
(ax7 b)
 (.ret r5))))))
def ar8 (b:Nat→PC):PT×List (Shp×PT):=(UY b,[(.lp 0 [2,5,28,29] [] [2,5,28] [],Ma b)])
theorem Rs:zR.map told=some (ar8 (ar zR)):=by kernel_rfl
theorem aEh:tree JA=UY Nz:=aA Rs
theorem agL:round 0 [2,5,28,29] [] [2,5,28] [] (Nz 0)=Ma Nz:=aZ Rs 0 fun _=>rfl
theorem amQ:zR=some JA:=aw Rs
noncomputable def Fm:Option PC:=av {ctx with fr:=[2,3],nh:=[]} Tryz.f79 ((aa ab 79).getD default) [1]
noncomputable def Jw:PC:=au Fm
def UT:PT:=
 (.call ⟨[],[(1,(.mk [r0]))]⟩ [] 5 121 [(af 31 (.mk [r0]))]
 (.ite (aH r5 (pi (-1)))
 (.ret r5)
 (.ret (pc o1 30))))
def ar4 (b:Nat→PC):PT×List (Shp×PT):=(UT,[])
theorem aeg:Fm.map told=some (ar4 (ar Fm)):=by kernel_rfl
theorem aEd:tree Jw=UT:=aA aeg
theorem amM:Fm=some Jw:=aw aeg
noncomputable def EM:Option PC:=av {ctx with fr:=[2,3,7,12],nh:=[]} Tryz.f33 ((aa ab 33).getD default) [1]
noncomputable def I4:PC:=au EM
def Uv:PT:=
 (.ite (aH (pc (.mk [r0]) 4) (pi 0))
 (.ret (pi 0))
 (.ite (.nt ko)
 (.ret (pi 2))
 (.ite (aH mJ (pi 0))
 (.ret (pi 1))
 (.ret (pi 0)))))
def aro (b:Nat→PC):PT×List (Shp×PT):=(Uv,[])
theorem adR:EM.map told=some (aro (ar EM)):=by kernel_rfl
theorem aDC:tree I4=Uv:=aA adR
theorem al8:EM=some I4:=aw adR
noncomputable def Fj:Option PC:=av {ctx with fr:=[4,5],nh:=[]} Tryz.f72 ((aa ab 72).getD default) [2]
noncomputable def Jt:PC:=au Fj
def UR:PT:=
 (.call ⟨[],[]⟩ [] 7 33 [(af 5 (.mk [r0]))]
 (.ite (.pick (ah r7 (pi 0)) pT (ah r1 (pi 1)))
 (.ret (pi 1))
 (.ite (ah r7 (pi 2))
 (.ret (pi 2))
 (.ret r1))))
def ar1 (b:Nat→PC):PT×List (Shp×PT):=(UR,[])
theorem aed:Fj.map told=some (ar1 (ar Fj)):=by kernel_rfl
theorem aEa:tree Jt=UR:=aA aed
theorem amJ:Fj=some Jt:=aw aed
noncomputable def zQ:Option PC:=av {ctx with fr:=[2,3,6,10],nh:=[]} Tryz.f75 ((aa ab 75).getD default) [1,4,5,7,9,12]
noncomputable def Jy:PC:=au zQ
noncomputable def zl:Nat→PC:=bk zQ
def ax5 (b:Nat→PC):PC:=.block 2 [10,50,51] [] (.loop [10,50] [] (b 0))
def ax6 (b:Nat→PC):PC:=.block 0 [2,6,7,30,31] [7] (.loop [2,6,7,30] [7] (b 1))
def L8 (b:Nat→PC):PT:=
 (.ite (aj fH kU)
 (.blockS ⟨[],[]⟩ 3 [10,12,52,53,54,55,72] [12]
 (.chk (ay o7 fH)
 (.call ⟨[(63,(pc o9 6)),(61,(ah (pc (.setc z9 0 (.sub (pn o7 fH) 0 9)) 2) (pc o9 1))),(55,cf)],[]⟩ [(61,true),(55,false)] 68 122 [(af 31 o1),(af 5 o4),(pc (.setc z9 0 (.sub (pn o7 fH) 0 9)) 6)]
 (.next ⟨[(10,(.pick qp pT (.pick vN (aW yx (pc L4 1)) pF)))],[]⟩)))
 (.next ⟨[(50,(aD fH (pi 1)))],[]⟩))
 (.exit 2 ⟨[(51,(aj fH kU))],[]⟩))
def L9 (b:Nat→PC):PT:=
 (.ite (aj fZ kr)
 (.blockS ⟨[(31,(aj fZ kr))],[]⟩ 1 [2,6,7,9,32,33,34,35,36] [9,7]
 (.chk (ay fG fZ)
 (.ite (aH (pc (.setc z9 0 (pn fG fZ)) 0) (pi 5))
 (.exit 1 ⟨[],[]⟩)
 (.brk ⟨[(50,(pi 0)),(49,(.llen o7)),(10,(.pick (aV (pc (.setc z9 0 (pn fG fZ)) 6) r3) (aW (pc (.setc z9 0 (pn fG fZ)) 6) (pc o5 1)) pF))],[(9,(.setc z9 0 (pn fG fZ)))]⟩
(ax5 b)
 (.ite (.nt cf)
 (.exit 1 ⟨[],[]⟩)
 (.chk (ay (pc o1 24) (pc o1 28))
 (.ite (ah (pc o9 2) (pc (pn (pc o1 24) (pc o1 28)) 2))
 (.ret (pi 1))
 (.chk (aW (.llen (.app o7 (.lst [(af 9 o9)]))) cd)
 (.call ⟨[(91,r6),(7,pN)],[(7,(.app o7 (.lst [(af 9 o9)])))]⟩ [] 96 122 [(af 31 o1),(af 5 o4),(pc o9 6)]
 (.next ⟨[(6,(.mx r91 (pc SP 1)))],[]⟩)))))))))
 (.next ⟨[(30,(aD fZ (pi 1)))],[]⟩))
 (.exit 0 ⟨[(31,(aj fZ kr))],[]⟩))
def UW (b:Nat→PC):PT:=
 (.call ⟨[(2,(pi 0))],[(1,(.mk [r0]))]⟩ [] 14 79 [(af 31 (.mk [r0]))]
 (.call ⟨[(3,cj)],[]⟩ [] 16 73 [(af 31 o1),(pi 12)]
 (.call ⟨[],[(4,(.setc ns 0 ct))]⟩ [] 20 122 [(af 31 o1),(af 5 (.setc ns 0 ct)),r3]
 (.ite (.nt (pc (.setc cF 0 cM) 0))
 (.ret (pi 2))
 (.brk ⟨[(30,(pi 0)),(29,(.llen (pc o1 26))),(28,(pc o1 26)),(7,pN),(6,(pc (.setc cF 0 cM) 1))],[(7,pL),(5,(.setc cF 0 cM))]⟩
(ax6 b)
 (.ite (aO (pc o1 29) r6)
 (.ret (pi 0))
 (.ret (pi 2))))))))
def ar6 (b:Nat→PC):PT×List (Shp×PT):=(UW b,[(.lp 2 [10,50,51] [] [10,50] [],L8 b),(.lp 0 [2,6,7,30,31] [7] [2,6,7,30] [7],L9 b)])
theorem IB:zQ.map told=some (ar6 (ar zQ)):=by kernel_rfl
theorem aEf:tree Jy=UW zl:=aA IB
theorem agJ:round 2 [10,50,51] [] [10,50] [] (zl 0)=L8 zl:=aZ IB 0 fun _=>rfl
theorem agK:round 0 [2,6,7,30,31] [7] [2,6,7,30] [7] (zl 1)=L9 zl:=aZ IB 1 fun _=>rfl
theorem amO:zQ=some Jy:=aw IB
noncomputable def Ff:Option PC:=av {ctx with fr:=[8],nh:=[]} Tryz.f30 ((aa ab 30).getD default) [4,6]
noncomputable def Jp:PC:=au Ff
def UN:PT:=
 (.call ⟨[],[]⟩ [] 13 70 [fX,r1,vz,(pi 0),r3]
 (.call ⟨[],[]⟩ [] 14 79 [bU]
 (.ret cj)))
def arX (b:Nat→PC):PT×List (Shp×PT):=(UN,[])
theorem ad9:Ff.map told=some (arX (ar Ff)):=by kernel_rfl
theorem aD6:tree Jp=UN:=aA ad9
theorem amF:Ff=some Jp:=aw ad9
noncomputable def Fu:Option PC:=av {ctx with fr:=[4],nh:=[]} Tryz.f26 ((aa ab 26).getD default) [2,3]
noncomputable def JH:PC:=au Fu
def U4:PT:=
 (.call ⟨[],[(3,(.mk [r1])),(2,(.mk [r0]))]⟩ [] 7 43 [fX,(af 19 (.mk [r1]))]
 (.call ⟨[(8,r7)],[]⟩ [(8,true)] 10 44 [(af 8 o2)]
 (.call ⟨[(13,(.pick r8 (ah cf (pi 0)) pF))],[]⟩ [(13,true)] 16 58 [(af 8 o2),(af 19 o3)]
 (.ret (.pick bU (ah ct (pi 0)) pF)))))
def asf (b:Nat→PC):PT×List (Shp×PT):=(U4,[])
theorem aem:Fu.map told=some (asf (ar Fu)):=by kernel_rfl
theorem aEo:tree JH=U4:=aA aem
theorem amX:Fu=some JH:=aw aem
noncomputable def Am:Option PC:=av {ctx with fr:=[4,5],nh:=[]} Tryz.f43 ((aa ab 43).getD default) [2,3]
noncomputable def Kl:PC:=au Am
noncomputable def NO:Nat→PC:=bk Am
def ayD (b:Nat→PC):PC:=.block 0 [4,5,14,15,16,17,18] [] (.loop [4,5] [] (b 0))
def Dn (b:Nat→PC):PT:=
 (.ite (aj r5 (.llen (pc o2 4)))
 (.blockS ⟨[],[]⟩ 1 [4,21,22,23,24,25,26,27] []
 (.chk (ay (pc o2 4) r5)
 (.call ⟨[],[]⟩ [] 26 97 [(pn (pc o2 4) r5)]
 (.ite (.nt jQ)
 (.ret pF)
 (.next ⟨[],[]⟩))))
 (.next ⟨[(5,vE)],[]⟩))
 (.exit 0 ⟨[(14,r5),(15,pN),(16,(pc o2 4)),(17,(.llen (pc o2 4))),(18,(aj r5 (.llen (pc o2 4))))],[]⟩))
def VF (b:Nat→PC):PT:=
 (.call ⟨[(4,pF)],[(3,(.mk [r1])),(2,(.mk [r0]))]⟩ [] 7 95 [fX]
 (.call ⟨[(9,(.nt r7))],[]⟩ [(9,false)] 11 96 [(af 19 o3)]
 (.ite (.pick r9 pT (.nt bp))
 (.ret pF)
 (.brk ⟨[(5,(pi 0))],[]⟩
(ayD b)
 (.ret pT)))))
def as8 (b:Nat→PC):PT×List (Shp×PT):=(VF b,[(.lp 0 [4,5,14,15,16,17,18] [] [4,5] [],Dn b)])
theorem RG:Am.map told=some (as8 (ar Am)):=by kernel_rfl
theorem aFe:tree Kl=VF NO:=aA RG
theorem Tj:round 0 [4,5,14,15,16,17,18] [] [4,5] [] (NO 0)=Dn NO:=aZ RG 0 fun _=>rfl
theorem anQ:Am=some Kl:=aw RG
noncomputable def zZ:Option PC:=av {ctx with fr:=[2,3,4],nh:=[]} Tryz.f95 ((aa ab 95).getD default) [1]
noncomputable def J2:PC:=au zZ
noncomputable def zn:Nat→PC:=bk zZ
def ayi (b:Nat→PC):PC:=.block 0 [2,3,5,6,7,8,9,10,13] [] (.loop [2,3] [] (b 0))
def ayj (b:Nat→PC):PC:=.block 2 [2,4,44,45,46,47,48,49,52] [] (.loop [2,4] [] (b 1))
def vU (b:Nat→PC):PT:=
 (.ite (.pick (aj r3 kQ) (aj r3 (pi 50)) pF)
 (.chk (ay (pc o1 1) r3)
 (.chk (.nt (.an (.an (.nt (aO (.llen (pc (pn (pc o1 1) r3) 4)) (pi 70))) pT) (.nt (ay (pc o1 1) r3))))
 (.chk (.nt (.an (.an (.nt af8) pT) (.nt (ay (pc o1 1) r3))))
 (.ite (.pick af8 pT (aO (.llen (pc (pn (pc o1 1) r3) 3)) (pi 8)))
 (.ret pF)
 (.next ⟨[(3,s9)],[]⟩)))))
 (.exit 0 ⟨[(5,r3),(6,pN),(7,(pc o1 1)),(8,kQ),(9,(aj r3 kQ)),(10,(aj r3 kQ)),(13,(.pick (aj r3 kQ) (aj r3 (pi 50)) pF))],[]⟩))
def yB (b:Nat→PC):PT:=
 (.ite (.pick (aj r4 nz) (aj r4 (pi 50)) pF)
 (.chk (ay (pc o1 4) r4)
 (.chk (.nt (.an (.an (.nt (aO (.llen (pc vB 2)) (pi 40))) pT) (.nt (ay (pc o1 4) r4))))
 (.ite (.pick (aO (.llen (pc vB 2)) (pi 40)) pT (aO (.llen (pc vB 3)) (pi 40)))
 (.ret pF)
 (.next ⟨[(4,(aD r4 (pi 1)))],[]⟩))))
 (.exit 2 ⟨[(44,r4),(45,pN),(46,(pc o1 4)),(47,nz),(48,(aj r4 nz)),(49,(aj r4 nz)),(52,(.pick (aj r4 nz) (aj r4 (pi 50)) pF))],[]⟩))
def Vn (b:Nat→PC):PT:=
 (.brk ⟨[(3,(pi 0)),(2,pF)],[(1,(.mk [r0]))]⟩
(ayi b)
 (.brk ⟨[(4,(pi 0))],[]⟩
(ayj b)
 (.ret (.pick (.pick (.pick (.pick (.pick (.pick (.pick (aj sZ (pi 50)) (aj kQ (pi 50)) pF) (aj ql (pi 50)) pF) (aj mK (pi 210)) pF) (aj nz (pi 50)) pF) (aj (.llen (pc o1 5)) (pi 110)) pF) (aj (.llen (pc o1 6)) (pi 110)) pF) (aj vD (pi 50)) pF))))
def asO (b:Nat→PC):PT×List (Shp×PT):=(Vn b,[(.lp 0 [2,3,5,6,7,8,9,10,13] [] [2,3] [],vU b),(.lp 2 [2,4,44,45,46,47,48,49,52] [] [2,4] [],yB b)])
theorem ID:zZ.map told=some (asO (ar zZ)):=by kernel_rfl
theorem aEV:tree J2=Vn zn:=aA ID
theorem C6:round 0 [2,3,5,6,7,8,9,10,13] [] [2,3] [] (zn 0)=vU zn:=aZ ID 0 fun _=>rfl
theorem Mf:round 2 [2,4,44,45,46,47,48,49,52] [] [2,4] [] (zn 1)=yB zn:=aZ ID 1 fun _=>rfl
theorem anv:zZ=some J2:=aw ID
noncomputable def F2:Option PC:=av {ctx with fr:=[2],nh:=[]} Tryz.f96 ((aa ab 96).getD default) [1]
noncomputable def Kg:PC:=au F2
def VB:PT:=
 (.ret (.pick (.pick (.pick (aW (.llen nw) (pi 50)) (aW (.llen (pc (.mk [r0]) 16)) (pi 10)) pF) (aW (.llen (pc (.mk [r0]) 17)) (pi 110)) pF) (aW (.llen yq) (pi 220)) pF))
def as3 (b:Nat→PC):PT×List (Shp×PT):=(VB,[])
theorem aeF:F2.map told=some (as3 (ar F2)):=by kernel_rfl
theorem aFa:tree Kg=VB:=aA aeF
theorem anL:F2=some Kg:=aw aeF
noncomputable def Al:Option PC:=av {ctx with fr:=[2,3],nh:=[]} Tryz.f97 ((aa ab 97).getD default) [1]
noncomputable def Kk:PC:=au Al
noncomputable def NN:Nat→PC:=bk Al
def ayC (b:Nat→PC):PC:=.block 0 [2,3,14,15,16,17,18] [] (.loop [2,3] [] (b 0))
def Dm (b:Nat→PC):PT:=
 (.ite (aj r3 mK)
 (.blockS ⟨[],[]⟩ 1 [2,21,22,23,24,25,26,27,28] []
 (.chk (ay (pc o1 3) r3)
 (.call ⟨[],[]⟩ [] 27 155 [(.sub (pn (pc o1 3) r3) 1 3)]
 (.ite (.nt dP)
 (.ret pF)
 (.next ⟨[],[]⟩))))
 (.next ⟨[(3,s9)],[]⟩))
 (.exit 0 ⟨[(14,r3),(15,pN),(16,(pc o1 3)),(17,mK),(18,(aj r3 mK))],[]⟩))
def VE (b:Nat→PC):PT:=
 (.ite (.pick (aO (.llen (pc (.mk [r0]) 3)) (pi 60)) pT (aO oQ (pi 60)))
 (.ret pF)
 (.brk ⟨[(3,(pi 0)),(2,pF)],[(1,(.mk [r0]))]⟩
(ayC b)
 (.ret pT)))
def as7 (b:Nat→PC):PT×List (Shp×PT):=(VE b,[(.lp 0 [2,3,14,15,16,17,18] [] [2,3] [],Dm b)])
theorem RF:Al.map told=some (as7 (ar Al)):=by kernel_rfl
theorem aFd:tree Kk=VE NN:=aA RF
theorem Ti:round 0 [2,3,14,15,16,17,18] [] [2,3] [] (NN 0)=Dm NN:=aZ RF 0 fun _=>rfl
theorem anP:Al=some Kk:=aw RF
noncomputable def F3:Option PC:=av {ctx with fr:=[2],nh:=[]} Tryz.f155 ((aa ab 155).getD default) [1]
noncomputable def Ki:PC:=au F3
def VD:PT:=
 (.call ⟨[],[]⟩ [] 4 187 [(.mk [ko,mJ,vJ]),(pi 100),(pi 20)]
 (.ret (aV r4 (pi 0))))
def as5 (b:Nat→PC):PT×List (Shp×PT):=(VD,[])
theorem aeG:F3.map told=some (as5 (ar F3)):=by kernel_rfl
theorem aFc:tree Ki=VD:=aA aeG
theorem anN:F3=some Ki:=aw aeG
noncomputable def Ak:Option PC:=av {ctx with fr:=[6,1,7],nh:=[]} Tryz.f187 ((aa ab 187).getD default) [3]
noncomputable def Kj:PC:=au Ak
noncomputable def NM:Nat→PC:=bk Ak
def ayB (b:Nat→PC):PC:=.block 0 [1,7,12,13,14,15,16,17,20] [] (.loop [1,7] [] (b 0))
def Dl (b:Nat→PC):PT:=
 (.ite (.pick (aj r7 ny) (aV r1 (pi 0)) pF)
 (.blockS ⟨[],[]⟩ 1 [1,23,24,25,26,27,28,29,30,31] []
 (.chk (ay (pc o3 2) r7)
 (.call ⟨[],[]⟩ [] 31 187 [(pn (pc o3 2) r7),r1,(bn r2 (pi 1))]
 (.next ⟨[(1,mM)],[]⟩)))
 (.next ⟨[(7,(aD r7 (pi 1)))],[]⟩))
 (.exit 0 ⟨[(12,r7),(13,pN),(14,(pc o3 2)),(15,ny),(16,(aj r7 ny)),(17,(aj r7 ny)),(20,(.pick (aj r7 ny) (aV r1 (pi 0)) pF))],[]⟩))
def MY (b:Nat→PC):PT:=
 (.ite (aj r2 (pi 1))
 (.ret (pi (-1)))
 (.brk ⟨[(7,(pi 0)),(1,(bn r1 (pi 1)))],[(3,(.mk [r0]))]⟩
(ayB b)
 (.ret r1)))
def as6 (b:Nat→PC):PT×List (Shp×PT):=(MY b,[(.lp 0 [1,7,12,13,14,15,16,17,20] [] [1,7] [],Dl b)])
theorem RE:Ak.map told=some (as6 (ar Ak)):=by kernel_rfl
theorem ahY:tree Kj=MY NM:=aA RE
theorem Th:round 0 [1,7,12,13,14,15,16,17,20] [] [1,7] [] (NM 0)=Dl NM:=aZ RE 0 fun _=>rfl
theorem anO:Ak=some Kj:=aw RE
noncomputable def FX:Option PC:=av {ctx with fr:=[2,3],nh:=[]} Tryz.f44 ((aa ab 44).getD default) [1]
noncomputable def J1:PC:=au FX
def Vm:PT:=
 (.call ⟨[],[(1,(.mk [r0]))]⟩ [] 5 98 [fX]
 (.iteS ⟨[(3,r5)],[]⟩ (ah r5 (pi 0)) [3] []
 (.call ⟨[],[]⟩ [] 9 99 [(af 8 o1)]
 (.next ⟨[(3,r9)],[]⟩))
 (.next ⟨[],[]⟩)
 (.iteS ⟨[],[]⟩ (ah r3 (pi 0)) [3] []
 (.call ⟨[],[]⟩ [] 13 100 [(af 8 o1)]
 (.next ⟨[(3,bU)],[]⟩))
 (.next ⟨[],[]⟩)
 (.iteS ⟨[],[]⟩ (ah r3 (pi 0)) [3] []
 (.call ⟨[],[]⟩ [] 17 101 [(af 8 o1)]
 (.next ⟨[(3,dB)],[]⟩))
 (.next ⟨[],[]⟩)
 (.iteS ⟨[],[]⟩ (ah r3 (pi 0)) [3] []
 (.call ⟨[],[]⟩ [] 21 102 [(af 8 o1)]
 (.next ⟨[(3,fY)],[]⟩))
 (.next ⟨[],[]⟩)
 (.ret r3))))))
def asN (b:Nat→PC):PT×List (Shp×PT):=(Vm,[])
theorem aeB:FX.map told=some (asN (ar FX)):=by kernel_rfl
theorem aEU:tree J1=Vm:=aA aeB
theorem anu:FX=some J1:=aw aeB
noncomputable def Ad:Option PC:=av {ctx with fr:=[2,3,4,6,7],nh:=[]} Tryz.f98 ((aa ab 98).getD default) [1,5,44]
noncomputable def J9:PC:=au Ad
noncomputable def zp:Nat→PC:=bk Ad
def ayp (b:Nat→PC):PC:=.block 0 [2,3,12,13,14,15,16] [] (.loop [2,3] [] (b 0))
def ayq (b:Nat→PC):PC:=.block 2 [2,5,6,30,31,32,33,34] [5] (.loop [2,5,6] [5] (b 1))
def Dc (b:Nat→PC):PT:=
 (.ite (aj r3 sZ)
 (.blockS ⟨[],[]⟩ 1 [2,4,19,20,21,22,23,24] []
 (.call ⟨[],[]⟩ [] 22 156 [(pc o1 0),r3]
 (.ite (aH kp (pi 0))
 (.ret kp)
 (.next ⟨[],[]⟩)))
 (.next ⟨[(3,s9)],[]⟩))
 (.exit 0 ⟨[(12,r3),(13,pN),(14,(pc o1 0)),(15,sZ),(16,(aj r3 sZ))],[]⟩))
def De (b:Nat→PC):PT:=
 (.ite (aj r6 kQ)
 (.blockS ⟨[],[]⟩ 3 [2,5,7,38,39,40,41,42,43,44,45,46,47,48,49,50,52,53,54,55,56,57,58,59] [44,5]
 (.chk (ay (pc o1 1) r6)
 (.chk (aW (.llen So) cd)
 (.call ⟨[(5,pN)],[(5,So)]⟩ [] 48 156 [So,r6]
 (.ite (aH ga (pi 0))
 (.ret ga)
 (.chk (ay (pc o1 1) r6)
 (.call ⟨[],[]⟩ [] 58 157 [(af 8 o1),(pn (pc o1 1) r6)]
 (.ite (.nt nC)
 (.ret (pi 1))
 (.next ⟨[],[]⟩))))))))
 (.next ⟨[(6,(aD r6 (pi 1)))],[]⟩))
 (.exit 2 ⟨[(30,r6),(31,pN),(32,(pc o1 1)),(33,kQ),(34,(aj r6 kQ))],[]⟩))
def Vu (b:Nat→PC):PT:=
 (.ite (aO (.llen ko) (pi 8))
 (.ret (pi 6))
 (.brk ⟨[(3,(pi 0)),(2,(pi 0))],[(1,(.mk [r0]))]⟩
(ayp b)
 (.ite (aO kQ (pi 40))
 (.ret (pi 6))
 (.brk ⟨[(6,(pi 0)),(5,pN)],[(5,pL)]⟩
(ayq b)
 (.ret (pi 0))))))
def asV (b:Nat→PC):PT×List (Shp×PT):=(Vu b,[(.lp 0 [2,3,12,13,14,15,16] [] [2,3] [],Dc b),(.lp 2 [2,5,6,30,31,32,33,34] [5] [2,5,6] [5],De b)])
theorem IF:Ad.map told=some (asV (ar Ad)):=by kernel_rfl
theorem aE2:tree J9=Vu zp:=aA IF
theorem S9:round 0 [2,3,12,13,14,15,16] [] [2,3] [] (zp 0)=Dc zp:=aZ IF 0 fun _=>rfl
theorem Ta:round 2 [2,5,6,30,31,32,33,34] [5] [2,5,6] [5] (zp 1)=De zp:=aZ IF 1 fun _=>rfl
theorem anD:Ad=some J9:=aw IF
noncomputable def F0:Option PC:=av {ctx with fr:=[4],nh:=[]} Tryz.f156 ((aa ab 156).getD default) []
noncomputable def Kb:PC:=au F0
def Vw:PT:=
 (.chk (ay r0 r1)
 (.call ⟨[],[]⟩ [] 9 188 [(pn r0 r1)]
 (.ite (.nt r9)
 (.ret (pi 2))
 (.chk (ay r0 r1)
 (.call ⟨[],[]⟩ [] 17 189 [r0,r1,(pn r0 r1)]
 (.ite dB
 (.ret (pi 5))
 (.ret (pi 0))))))))
def asX (b:Nat→PC):PT×List (Shp×PT):=(Vw,[])
theorem aeE:F0.map told=some (asX (ar F0)):=by kernel_rfl
theorem aE4:tree Kb=Vw:=aA aeE
theorem anF:F0=some Kb:=aw aeE
noncomputable def z8:Option PC:=av {ctx with fr:=[2,3,4],nh:=[]} Tryz.f188 ((aa ab 188).getD default) []
noncomputable def J4:PC:=au z8
noncomputable def NH:Nat→PC:=bk z8
def ayk (b:Nat→PC):PC:=.block 0 [2,3,13,14,15,16] [] (.loop [2,3] [] (b 0))
def C7 (b:Nat→PC):PT:=
 (.ite (aj r3 (.slen r0))
 (.blockS ⟨[],[]⟩ 1 [2,4,19,20,21,22,23,34,35,36,37,38,39,40,47] []
 (.chk (.sok r0 r3)
 (.chk (.nt (.an (.an (.nt Sm) pT) (.nt (.sok r0 r3))))
 (.chk (.nt (.an (.an (aW (.con (.v (.int .u8 48))) (.sidx r0 r3)) (.an (.nt Sm) pT)) (.nt (.sok r0 r3))))
 (.call ⟨[(4,(.pick Sm pT (.pick (aW (.con (.v (.int .u8 48))) (.sidx r0 r3)) (aW (.sidx r0 r3) (.con (.v (.int .u8 57)))) pF)))],[]⟩ [] 38 211 [(.sidx r0 r3)]
 (.ite (.pick (.nt jo) (.pick (ah r3 (pi 0)) pT (.nt r4)) pF)
 (.ret pF)
 (.next ⟨[],[]⟩))))))
 (.next ⟨[(3,s9)],[]⟩))
 (.exit 0 ⟨[(13,r3),(14,r0),(15,(.slen r0)),(16,(aj r3 (.slen r0)))],[]⟩))
def Vp (b:Nat→PC):PT:=
 (.ite (.pick (aj (.slen r0) (pi 1)) pT (aO (.slen r0) (pi 20)))
 (.ret pF)
 (.brk ⟨[(3,(pi 0)),(2,pF)],[]⟩
(ayk b)
 (.ret pT)))
def asQ (b:Nat→PC):PT×List (Shp×PT):=(Vp b,[(.lp 0 [2,3,13,14,15,16] [] [2,3] [],C7 b)])
theorem Rz:z8.map told=some (asQ (ar z8)):=by kernel_rfl
theorem aEX:tree J4=Vp NH:=aA Rz
theorem S4:round 0 [2,3,13,14,15,16] [] [2,3] [] (NH 0)=C7 NH:=aZ Rz 0 fun _=>rfl
theorem anx:z8=some J4:=aw Rz
noncomputable def FY:Option PC:=av {ctx with fr:=[2],nh:=[]} Tryz.f211 ((aa ab 211).getD default) []
noncomputable def J3:PC:=au FY
def Vo:PT:=
 (.ret (.pick (.pick (aW (.con (.v (.int .u8 97))) r0) (aW r0 (.con (.v (.int .u8 122)))) pF) pT (.pick (aW (.con (.v (.int .u8 65))) r0) (aW r0 (.con (.v (.int .u8 90)))) pF)))
def asP (b:Nat→PC):PT×List (Shp×PT):=(Vo,[])
theorem aeC:FY.map told=some (asP (ar FY)):=by kernel_rfl
theorem aEW:tree J3=Vo:=aA aeC
theorem anw:FY=some J3:=aw aeC
noncomputable def zY:Option PC:=av {ctx with fr:=[6,7],nh:=[]} Tryz.f189 ((aa ab 189).getD default) []
noncomputable def J0:PC:=au zY
noncomputable def NG:Nat→PC:=bk zY
def ayh (b:Nat→PC):PC:=.block 0 [6,7,8,9,10,11,16] [] (.loop [6,7] [] (b 0))
def C5 (b:Nat→PC):PT:=
 (.ite (.pick (aj r7 r1) (aj r7 (.llen r0)) pF)
 (.chk (ay r0 r7)
 (.ite (.cs .eql (pn r0 r7) r2)
 (.ret pT)
 (.next ⟨[(7,(aD r7 (pi 1)))],[]⟩)))
 (.exit 0 ⟨[(8,r7),(9,r1),(10,(aj r7 r1)),(11,(aj r7 r1)),(16,(.pick (aj r7 r1) (aj r7 (.llen r0)) pF))],[]⟩))
def Vl (b:Nat→PC):PT:=
 (.brk ⟨[(7,(pi 0)),(6,pF)],[]⟩
(ayh b)
 (.ret pF))
def asM (b:Nat→PC):PT×List (Shp×PT):=(Vl b,[(.lp 0 [6,7,8,9,10,11,16] [] [6,7] [],C5 b)])
theorem Ry:zY.map told=some (asM (ar zY)):=by kernel_rfl
theorem aET:tree J0=Vl NG:=aA Ry
theorem SZ:round 0 [6,7,8,9,10,11,16] [] [6,7] [] (NG 0)=C5 NG:=aZ Ry 0 fun _=>rfl
theorem ant:zY=some J0:=aw Ry
noncomputable def Aa:Option PC:=av {ctx with fr:=[4,5],nh:=[]} Tryz.f157 ((aa ab 157).getD default) [2,3]
noncomputable def J5:PC:=au Aa
noncomputable def NI:Nat→PC:=bk Aa
def ayl (b:Nat→PC):PC:=.block 0 [4,5,36,37,38,39,40] [] (.loop [4,5] [] (b 0))
def C8 (b:Nat→PC):PT:=
 (.ite (aj r5 (.llen (pc o3 4)))
 (.blockS ⟨[],[]⟩ 1 [4,43,44,45,46,47,48,49,50,51,60] []
 (.chk (ay (pc o3 4) r5)
 (.chk yo
 (.call ⟨[],[]⟩ [] 49 48 [(.ai .quo .i64 (pn (pc o3 4) r5) (pi 100)),(pi 1),(pi 12)]
 (.chk (.nt (.an (.an (.nt (.nt kU)) pT) (.nt (ay (pc o3 4) r5))))
 (.chk (.nt (.an (.an (.nt (.nt kU)) pT) (.nt yo)))
 (.call ⟨[(51,(.nt kU))],[]⟩ [(51,false)] 58 48 [(.ai .rem .i64 (pn (pc o3 4) r5) (pi 100)),(pi 1),(pi 31)]
 (.ite (.pick kV pT (.nt nC))
 (.ret pF)
 (.next ⟨[],[]⟩))))))))
 (.next ⟨[(5,vE)],[]⟩))
 (.exit 0 ⟨[(36,r5),(37,pN),(38,(pc o3 4)),(39,(.llen (pc o3 4))),(40,(aj r5 (.llen (pc o3 4))))],[]⟩))
def Vq (b:Nat→PC):PT:=
 (.call ⟨[(4,pF)],[(3,(.mk [r1])),(2,(.mk [r0]))]⟩ [] 12 48 [rF,(pi 0),(bn (.llen (pc (.mk [r0]) 4)) (pi 1))]
 (.call ⟨[(14,(.nt bI))],[]⟩ [(14,false)] 21 48 [(pc o3 2),(pi 0),(bn (.llen (pc o2 0)) (pi 1))]
 (.ite (.pick (.pick (.pick cj pT (.nt fY)) pT (aO (.llen (pc o3 4)) (pi 60))) pT (aO (.llen (pc o3 5)) (pi 200)))
 (.ret pF)
 (.brk ⟨[(5,(pi 0))],[]⟩
(ayl b)
 (.call ⟨[],[]⟩ [] 63 190 [(pc o3 3),(pi 0),(pi 6)]
 (.call ⟨[(64,yx)],[]⟩ [(64,true)] 67 190 [(pc o3 4),(pi 0),(pi 2000)]
 (.call ⟨[(69,(.pick kW tp pF))],[]⟩ [(69,true)] 72 190 [(pc o3 5),(pi 0),(pi 100000)]
 (.ret (.pick vP CY pF)))))))))
def asR (b:Nat→PC):PT×List (Shp×PT):=(Vq b,[(.lp 0 [4,5,36,37,38,39,40] [] [4,5] [],C8 b)])
theorem RA:Aa.map told=some (asR (ar Aa)):=by kernel_rfl
theorem aEY:tree J5=Vq NI:=aA RA
theorem S5:round 0 [4,5,36,37,38,39,40] [] [4,5] [] (NI 0)=C8 NI:=aZ RA 0 fun _=>rfl
theorem anz:Aa=some J5:=aw RA
noncomputable def FZ:Option PC:=av {ctx with fr:=[6],nh:=[]} Tryz.f48 ((aa ab 48).getD default) []
noncomputable def J8:PC:=au FZ
def Vt:PT:=
 (.ret (.pick (aW r1 r0) (aW r0 r2) pF))
def asU (b:Nat→PC):PT×List (Shp×PT):=(Vt,[])
theorem aeD:FZ.map told=some (asU (ar FZ)):=by kernel_rfl
theorem aE1:tree J8=Vt:=aA aeD
theorem anC:FZ=some J8:=aw aeD
noncomputable def Ac:Option PC:=av {ctx with fr:=[6,7],nh:=[]} Tryz.f190 ((aa ab 190).getD default) []
noncomputable def J7:PC:=au Ac
noncomputable def NJ:Nat→PC:=bk Ac
def ayo (b:Nat→PC):PC:=.block 0 [6,7,8,9,10,11] [] (.loop [6,7] [] (b 0))
def Db (b:Nat→PC):PT:=
 (.ite (aj r7 (.llen r0))
 (.blockS ⟨[],[]⟩ 1 [6,14,15,16,17,18,19,20,21,22,23,24,35] []
 (.chk (ay r0 r7)
 (.call ⟨[],[]⟩ [] 20 48 [(pn r0 r7),r1,r2]
 (.ite (.nt cM)
 (.ret pF)
 (.chk (.nt (.an (.an (aO r7 (pi 0)) pT) (.nt (ay r0 (bn r7 (pi 1))))))
 (.chk (.nt (.an (.an (aO r7 (pi 0)) pT) (.nt (ay r0 r7))))
 (.ite (.pick (aO r7 (pi 0)) (aV (pn r0 (bn r7 (pi 1))) (pn r0 r7)) pF)
 (.ret pF)
 (.next ⟨[],[]⟩)))))))
 (.next ⟨[(7,(aD r7 (pi 1)))],[]⟩))
 (.exit 0 ⟨[(8,r7),(9,r0),(10,(.llen r0)),(11,(aj r7 (.llen r0)))],[]⟩))
def Vs (b:Nat→PC):PT:=
 (.brk ⟨[(7,(pi 0)),(6,pF)],[]⟩
(ayo b)
 (.ret pT))
def asT (b:Nat→PC):PT×List (Shp×PT):=(Vs b,[(.lp 0 [6,7,8,9,10,11] [] [6,7] [],Db b)])
theorem RB:Ac.map told=some (asT (ar Ac)):=by kernel_rfl
theorem aE0:tree J7=Vs NJ:=aA RB
theorem S8:round 0 [6,7,8,9,10,11] [] [6,7] [] (NJ 0)=Db NJ:=aZ RB 0 fun _=>rfl
theorem anB:Ac=some J7:=aw RB
noncomputable def Ae:Option PC:=av {ctx with fr:=[2,3,5,6],nh:=[]} Tryz.f99 ((aa ab 99).getD default) [1,4,44]
noncomputable def Ka:PC:=au Ae
noncomputable def zq:Nat→PC:=bk Ae
def ayr (b:Nat→PC):PC:=.block 0 [2,3,11,12,13,14,15] [] (.loop [2,3] [] (b 0))
def ays (b:Nat→PC):PC:=.block 2 [2,4,5,30,31,32,33,34] [4] (.loop [2,4,5] [4] (b 1))
def Df (b:Nat→PC):PT:=
 (.ite (aj r3 ql)
 (.blockS ⟨[],[]⟩ 1 [2,18,19,20,21,22,23,24,25] []
 (.chk (ay (pc o1 2) r3)
 (.call ⟨[],[]⟩ [] 24 48 [(pc (pn (pc o1 2) r3) 0),(pi 0),(pi 9)]
 (.ite (.nt kq)
 (.ret (pi 1))
 (.next ⟨[],[]⟩))))
 (.next ⟨[(3,s9)],[]⟩))
 (.exit 0 ⟨[(11,r3),(12,pN),(13,(pc o1 2)),(14,ql),(15,(aj r3 ql))],[]⟩))
def Dg (b:Nat→PC):PT:=
 (.ite (aj r5 mK)
 (.blockS ⟨[],[]⟩ 3 [2,4,6,38,39,40,41,42,43,44,45,46,47,48,49,50,52,53,54,55,56,57,58,59,60,61,62,63,64,77] [44,4]
 (.chk (ay (pc o1 3) r5)
 (.chk (aW (.llen Sp) cd)
 (.call ⟨[(4,pN)],[(4,Sp)]⟩ [] 48 156 [Sp,r5]
 (.ite (aH ga (pi 0))
 (.ret ga)
 (.chk (ay (pc o1 3) r5)
 (.call ⟨[],[]⟩ [] 62 48 [(pc (pn (pc o1 3) r5) 1),(pi 0),(bn kQ (pi 1))]
 (.chk (.nt (.an (.an (.nt (.nt lO)) pT) (.nt (ay (pc o1 3) r5))))
 (.call ⟨[(64,(.nt lO))],[]⟩ [(64,false)] 75 48 [(pc (pn (pc o1 3) r5) 2),(pi 0),(bn ql (pi 1))]
 (.ite (.pick kW pT (.nt SK))
 (.ret (pi 1))
 (.next ⟨[],[]⟩))))))))))
 (.next ⟨[(5,vE)],[]⟩))
 (.exit 2 ⟨[(30,r5),(31,pN),(32,(pc o1 3)),(33,mK),(34,(aj r5 mK))],[]⟩))
def Vv (b:Nat→PC):PT:=
 (.ite (aO oQ (pi 20))
 (.ret (pi 6))
 (.brk ⟨[(3,(pi 0)),(2,(pi 0))],[(1,(.mk [r0]))]⟩
(ayr b)
 (.ite (aO mK (pi 200))
 (.ret (pi 6))
 (.brk ⟨[(5,(pi 0)),(4,pN)],[(4,pL)]⟩
(ays b)
 (.ret (pi 0))))))
def asW (b:Nat→PC):PT×List (Shp×PT):=(Vv b,[(.lp 0 [2,3,11,12,13,14,15] [] [2,3] [],Df b),(.lp 2 [2,4,5,30,31,32,33,34] [4] [2,4,5] [4],Dg b)])
theorem IG:Ae.map told=some (asW (ar Ae)):=by kernel_rfl
theorem aE3:tree Ka=Vv zq:=aA IG
theorem Tb:round 0 [2,3,11,12,13,14,15] [] [2,3] [] (zq 0)=Df zq:=aZ IG 0 fun _=>rfl
theorem Tc:round 2 [2,4,5,30,31,32,33,34] [4] [2,4,5] [4] (zq 1)=Dg zq:=aZ IG 1 fun _=>rfl
theorem anE:Ae=some Ka:=aw IG
noncomputable def Af:Option PC:=av {ctx with fr:=[2,4,5],nh:=[]} Tryz.f100 ((aa ab 100).getD default) [1,3,24]
noncomputable def Kc:PC:=au Af
noncomputable def NK:Nat→PC:=bk Af
def ayt (b:Nat→PC):PC:=.block 0 [2,3,4,10,11,12,13,14] [3] (.loop [2,3,4] [3] (b 0))
def Dh (b:Nat→PC):PT:=
 (.ite (aj r4 nz)
 (.blockS ⟨[],[]⟩ 1 [2,3,5,18,19,20,21,22,23,24,25,26,27,28,29,30,32,33,34,35,36,37,38] [24,3]
 (.chk (ay (pc o1 4) r4)
 (.chk (aW (.llen (.app o3 (.lst [(pc vB 0)]))) cd)
 (.call ⟨[(3,pN)],[(3,(.app o3 (.lst [(pc vB 0)])))]⟩ [] 28 156 [(.app o3 (.lst [(pc vB 0)])),r4]
 (.ite (aH fG (pi 0))
 (.ret fG)
 (.chk (ay (pc o1 4) r4)
 (.call ⟨[],[]⟩ [] 37 158 [vB]
 (.ite (.nt jn)
 (.ret (pi 1))
 (.next ⟨[],[]⟩))))))))
 (.next ⟨[(4,(aD r4 (pi 1)))],[]⟩))
 (.exit 0 ⟨[(10,r4),(11,pN),(12,(pc o1 4)),(13,nz),(14,(aj r4 nz))],[]⟩))
def Vx (b:Nat→PC):PT:=
 (.ite (aO (.llen (pc (.mk [r0]) 4)) (pi 20))
 (.ret (pi 6))
 (.brk ⟨[(4,(pi 0)),(3,pN),(2,(pi 0))],[(3,pL),(1,(.mk [r0]))]⟩
(ayt b)
 (.ret (pi 0))))
def asY (b:Nat→PC):PT×List (Shp×PT):=(Vx b,[(.lp 0 [2,3,4,10,11,12,13,14] [3] [2,3,4] [3],Dh b)])
theorem RC:Af.map told=some (asY (ar Af)):=by kernel_rfl
theorem aE5:tree Kc=Vx NK:=aA RC
theorem Td:round 0 [2,3,4,10,11,12,13,14] [3] [2,3,4] [3] (NK 0)=Dh NK:=aZ RC 0 fun _=>rfl
theorem anG:Af=some Kc:=aw RC
noncomputable def Ab:Option PC:=av {ctx with fr:=[2,3,4],nh:=[]} Tryz.f158 ((aa ab 158).getD default) [1]
noncomputable def J6:PC:=au Ab
noncomputable def zo:Nat→PC:=bk Ab
def aym (b:Nat→PC):PC:=.block 0 [2,3,5,6,7,8,9] [] (.loop [2,3] [] (b 0))
def ayn (b:Nat→PC):PC:=.block 2 [2,4,48,49,50,51,52] [] (.loop [2,4] [] (b 1))
def C9 (b:Nat→PC):PT:=
 (.ite (aj r3 ql)
 (.blockS ⟨[],[]⟩ 1 [2,12,13,14,15,16,17,18,19,20,29,30,31,32,47] []
 (.chk (ay (pc o1 2) r3)
 (.call ⟨[],[]⟩ [] 18 48 [(pc (pn (pc o1 2) r3) 0),(pi 0),(pi 21)]
 (.chk (.nt (.an (.an (.nt (.nt cA)) pT) (.nt (ay (pc o1 2) r3))))
 (.call ⟨[(20,(.nt cA))],[]⟩ [(20,false)] 27 48 [(pc (pn (pc o1 2) r3) 1),(pi 0),(pi 4)]
 (.ite (.pick cM pT (.nt dP))
 (.ret pF)
 (.chk (.nt (.an (.an (aO r3 (pi 0)) pT) (.nt (ay (pc o1 2) (bn r3 (pi 1))))))
 (.chk (.nt (.an (.an (aO r3 (pi 0)) pT) (.nt (ay (pc o1 2) r3))))
 (.ite (.pick (aO r3 (pi 0)) (aV (pc (pn (pc o1 2) (bn r3 (pi 1))) 0) (pc (pn (pc o1 2) r3) 0)) pF)
 (.ret pF)
 (.next ⟨[],[]⟩)))))))))
 (.next ⟨[(3,s9)],[]⟩))
 (.exit 0 ⟨[(5,r3),(6,pN),(7,(pc o1 2)),(8,ql),(9,(aj r3 ql))],[]⟩))
def Da (b:Nat→PC):PT:=
 (.ite (aj r4 mK)
 (.blockS ⟨[],[]⟩ 3 [2,55,56,57,58,59,60,61,62,63,64,65,80] []
 (.chk (ay (pc o1 3) r4)
 (.call ⟨[],[]⟩ [] 61 48 [(pc (pn (pc o1 3) r4) 0),(pi 0),(pi 21)]
 (.ite (.nt vN)
 (.ret pF)
 (.chk (.nt (.an (.an (aO r4 (pi 0)) pT) (.nt (ay (pc o1 3) (bn r4 (pi 1))))))
 (.chk (.nt (.an (.an (aO r4 (pi 0)) pT) (.nt (ay (pc o1 3) r4))))
 (.ite (.pick (aO r4 (pi 0)) (aV (pc (pn (pc o1 3) (bn r4 (pi 1))) 0) (pc (pn (pc o1 3) r4) 0)) pF)
 (.ret pF)
 (.next ⟨[],[]⟩)))))))
 (.next ⟨[(4,(aD r4 (pi 1)))],[]⟩))
 (.exit 2 ⟨[(48,r4),(49,pN),(50,(pc o1 3)),(51,mK),(52,(aj r4 mK))],[]⟩))
def Vr (b:Nat→PC):PT:=
 (.brk ⟨[(3,(pi 0)),(2,pF)],[(1,(.mk [r0]))]⟩
(aym b)
 (.brk ⟨[(4,(pi 0))],[]⟩
(ayn b)
 (.ret pT)))
def asS (b:Nat→PC):PT×List (Shp×PT):=(Vr b,[(.lp 0 [2,3,5,6,7,8,9] [] [2,3] [],C9 b),(.lp 2 [2,4,48,49,50,51,52] [] [2,4] [],Da b)])
theorem IE:Ab.map told=some (asS (ar Ab)):=by kernel_rfl
theorem aEZ:tree J6=Vr zo:=aA IE
theorem S6:round 0 [2,3,5,6,7,8,9] [] [2,3] [] (zo 0)=C9 zo:=aZ IE 0 fun _=>rfl
theorem S7:round 2 [2,4,48,49,50,51,52] [] [2,4] [] (zo 1)=Da zo:=aZ IE 1 fun _=>rfl
theorem anA:Ab=some J6:=aw IE
noncomputable def Ah:Option PC:=av {ctx with fr:=[2,3,5],nh:=[]} Tryz.f101 ((aa ab 101).getD default) [1,4]
noncomputable def Ke:PC:=au Ah
noncomputable def zt:Nat→PC:=bk Ah
def ayw (b:Nat→PC):PC:=.block 2 [2,5,46,47,48] [] (.loop [2,5] [] (b 0))
def ayx (b:Nat→PC):PC:=.block 0 [2,3,10,11,12,13,14] [] (.loop [2,3] [] (b 1))
def yC (b:Nat→PC):PT:=
 (.ite (aj r5 r3)
 (.chk (ay (pc o1 5) r5)
 (.chk (.nt (.an (.an (ah (pc (pn (pc o1 5) r5) 0) (pc o4 0)) pT) (.nt (ay (pc o1 5) r5))))
 (.ite (.pick (ah (pc (pn (pc o1 5) r5) 0) (pc o4 0)) (ah (pc (pn (pc o1 5) r5) 1) (pc o4 1)) pF)
 (.ret (pi 5))
 (.next ⟨[(5,vE)],[]⟩))))
 (.exit 2 ⟨[(46,r5),(47,r3),(48,(aj r5 r3))],[]⟩))
def Dk (b:Nat→PC):PT:=
 (.ite (aj r3 (.llen (pc o1 5)))
 (.blockS ⟨[(14,(aj r3 (.llen (pc o1 5)))),(13,(.llen (pc o1 5))),(12,(pc o1 5)),(11,pN),(10,r3)],[]⟩ 1 [2,4,5,17,18,19,20,21,22,23,24,25,26,27,28,29,30,39,40,45,46,47,48] [4]
 (.chk (ay (pc o1 5) r3)
 (.call ⟨[],[(4,(.setc z3 0 (pn (pc o1 5) r3)))]⟩ [] 28 48 [(pc (.setc z3 0 (pn (pc o1 5) r3)) 0),(pi 0),(bn kQ (pi 1))]
 (.call ⟨[(30,(.nt fG))],[]⟩ [(30,false)] 37 48 [(pc o4 1),(pi 0),(bn kQ (pi 1))]
 (.call ⟨[(40,(.pick fZ pT (.nt jn)))],[]⟩ [(40,false)] 43 48 [(pc o4 2),(pi 1),(pi 20000)]
 (.ite (.pick nA pT (.nt oU))
 (.ret (pi 1))
 (.brk ⟨[(5,(pi 0))],[]⟩
(ayw b)
 (.next ⟨[],[]⟩)))))))
 (.next ⟨[(3,s9)],[]⟩))
 (.exit 0 ⟨[(10,r3),(11,pN),(12,(pc o1 5)),(13,(.llen (pc o1 5))),(14,(aj r3 (.llen (pc o1 5))))],[]⟩))
def Vz (b:Nat→PC):PT:=
 (.ite (aO (.llen vC) (pi 100))
 (.ret (pi 6))
 (.brk ⟨[(3,(pi 0)),(2,(pi 0))],[(1,(.mk [r0]))]⟩
(ayx b)
 (.ret (pi 0))))
def as0 (b:Nat→PC):PT×List (Shp×PT):=(Vz b,[(.lp 2 [2,5,46,47,48] [] [2,5] [],yC b),(.lp 0 [2,3,10,11,12,13,14] [] [2,3] [],Dk b)])
theorem IJ:Ah.map told=some (as0 (ar Ah)):=by kernel_rfl
theorem aE7:tree Ke=Vz zt:=aA IJ
theorem Mg:round 2 [2,5,46,47,48] [] [2,5] [] (zt 0)=yC zt:=aZ IJ 0 fun _=>rfl
theorem Tg:round 0 [2,3,10,11,12,13,14] [] [2,3] [] (zt 1)=Dk zt:=aZ IJ 1 fun _=>rfl
theorem anI:Ah=some Ke:=aw IJ
noncomputable def Ag:Option PC:=av {ctx with fr:=[2,3,5],nh:=[]} Tryz.f102 ((aa ab 102).getD default) [1,4,6]
noncomputable def Kd:PC:=au Ag
noncomputable def zr:Nat→PC:=bk Ag
def ayu (b:Nat→PC):PC:=.block 0 [2,3,11,12,13,14,15] [] (.loop [2,3] [] (b 0))
def ayv (b:Nat→PC):PC:=.block 2 [2,5,68,69,70,71,72] [] (.loop [2,5] [] (b 1))
def Di (b:Nat→PC):PT:=
 (.ite (aj r3 (.llen (pc o1 6)))
 (.blockS ⟨[],[]⟩ 1 [2,4,18,19,20,21,22,23,24,25,26,27,28,29,30,31,40,41,47,48,49,50,51,52,57,58,63] [4]
 (.chk (ay (pc o1 6) r3)
 (.call ⟨[],[(4,(.setc z5 0 (pn (pc o1 6) r3)))]⟩ [] 29 48 [(pc (.setc z5 0 (pn (pc o1 6) r3)) 0),(pi 0),(bn sZ (pi 1))]
 (.call ⟨[(31,(.nt kr))],[]⟩ [(31,false)] 38 48 [(pc o4 1),(pi 0),(bn sZ (pi 1))]
 (.ite (.pick (.pick mM pT (.nt jo)) pT (ah (pc o4 0) (pc o4 1)))
 (.ret (pi 1))
 (.call ⟨[],[]⟩ [] 50 48 [(pc o4 2),(pi 1),(pi 1073741824)]
 (.call ⟨[(52,(.nt fH))],[]⟩ [(52,false)] 55 48 [(pc o4 3),(pi 1),(pi 1073741824)]
 (.call ⟨[(58,(.pick tn pT (.nt qp)))],[]⟩ [(58,false)] 61 48 [(pc o4 4),(pi 0),(pi 100000)]
 (.ite (.pick nC pT (.nt vN))
 (.ret (pi 1))
 (.next ⟨[],[]⟩)))))))))
 (.next ⟨[(3,s9)],[]⟩))
 (.exit 0 ⟨[(11,r3),(12,pN),(13,(pc o1 6)),(14,(.llen (pc o1 6))),(15,(aj r3 (.llen (pc o1 6))))],[]⟩))
def Dj (b:Nat→PC):PT:=
 (.ite (aj r5 vD)
 (.blockS ⟨[],[]⟩ 3 [2,6,75,76,77,78,79,80,81,82,83,84,85,86,87,88,95,96,100] [6]
 (.chk (ay (pc o1 7) r5)
 (.call ⟨[],[(6,(.setc z3 0 (pn (pc o1 7) r5)))]⟩ [] 86 48 [(pc (.setc z3 0 (pn (pc o1 7) r5)) 0),(pi 0),(bn nz (pi 1))]
 (.call ⟨[(88,(.nt r86))],[]⟩ [(88,false)] 93 48 [(pc o6 1),(pi 0),(pc o6 2)]
 (.ite (.pick (.pick vR pT (.nt L5)) pT (aO (pc o6 2) (pi 100000)))
 (.ret (pi 1))
 (.next ⟨[],[]⟩)))))
 (.next ⟨[(5,vE)],[]⟩))
 (.exit 2 ⟨[(68,r5),(69,pN),(70,(pc o1 7)),(71,vD),(72,(aj r5 vD))],[]⟩))
def Vy (b:Nat→PC):PT:=
 (.ite (aO (.llen (pc (.mk [r0]) 6)) (pi 100))
 (.ret (pi 6))
 (.brk ⟨[(3,(pi 0)),(2,(pi 0))],[(1,(.mk [r0]))]⟩
(ayu b)
 (.ite (aO vD (pi 20))
 (.ret (pi 6))
 (.brk ⟨[(5,(pi 0))],[]⟩
(ayv b)
 (.ret (pi 0))))))
def asZ (b:Nat→PC):PT×List (Shp×PT):=(Vy b,[(.lp 0 [2,3,11,12,13,14,15] [] [2,3] [],Di b),(.lp 2 [2,5,68,69,70,71,72] [] [2,5] [],Dj b)])
theorem II:Ag.map told=some (asZ (ar Ag)):=by kernel_rfl
theorem aE6:tree Kd=Vy zr:=aA II
theorem Te:round 0 [2,3,11,12,13,14,15] [] [2,3] [] (zr 0)=Di zr:=aZ II 0 fun _=>rfl
theorem Tf:round 2 [2,5,68,69,70,71,72] [] [2,5] [] (zr 1)=Dj zr:=aZ II 1 fun _=>rfl
theorem anH:Ag=some Kd:=aw II
noncomputable def zU:Option PC:=av {ctx with fr:=[4,5,6,7,8,11],nh:=[]} Tryz.f58 ((aa ab 58).getD default) [2,3,10]
noncomputable def JR:PC:=au zU
noncomputable def zm:Nat→PC:=bk zU
def ayb (b:Nat→PC):PC:=.block 0 [4,48,49] [] (.loop [4,48] [] (b 0))
def ayc (b:Nat→PC):PC:=.block 2 [4,8,62,63] [] (.loop [4,8,62] [] (b 1))
def C3 (b:Nat→PC):PT:=
 (.ite (aj ga tj)
 (.blockS ⟨[],[]⟩ 1 [4,6,7,50,51,52,53,54,55,56] []
 (.call ⟨[],[]⟩ [] 54 113 [(af 8 o2),(af 19 o3),ga]
 (.ite (aH qo (pi 0))
 (.ret qo)
 (.next ⟨[],[]⟩)))
 (.next ⟨[(48,(aD ga (pi 1)))],[]⟩))
 (.exit 0 ⟨[(49,(aj ga tj))],[]⟩))
def C4 (b:Nat→PC):PT:=
 (.ite (aj lO vN)
 (.blockS ⟨[],[]⟩ 3 [4,8,10,64,65,66,67,68,69,70,71,72,73,74,75,76,77,78,79,80] [10]
 (.chk (ay vM lO)
 (.call ⟨[],[(10,(.setc z2 0 (pn vM lO)))]⟩ [] 73 114 [(pc (.setc z2 0 (pn vM lO)) 0),qm,(.llen (pc o3 15))]
 (.ite (.nt yy)
 (.ret (pi 1))
 (.call ⟨[],[]⟩ [] 77 114 [(pc bO 1),(pi 1),lN]
 (.ite (.nt r77)
 (.ret (pi 3))
 (.next ⟨[(8,(pc bO 0))],[]⟩))))))
 (.next ⟨[(62,(aD lO (pi 1)))],[]⟩))
 (.exit 2 ⟨[(63,(aj lO vN))],[]⟩))
def Vd (b:Nat→PC):PT:=
 (.ite (.pick (.pick (.pick (aO (.llen (pc (.mk [r1]) 15)) (pi 40)) pT (aO (.llen (pc (.mk [r1]) 16)) (pi 4))) pT (aO (.llen (pc (.mk [r1]) 17)) (pi 100))) pT (aO (.llen (pc (.mk [r1]) 18)) (pi 200)))
 (.ret (pi 6))
 (.call ⟨[(4,(pi 0))],[(3,(.mk [r1])),(2,(.mk [r0]))]⟩ [] 37 112 [fX,(af 15 (.mk [r1]))]
 (.ite (aH jn (pi 0))
 (.ret jn)
 (.ite (ah (.llen (pc o3 15)) (pi 0))
 (.ret (pi 14))
 (.brk ⟨[(48,(pi 0)),(47,(.llen (pc o3 15)))],[]⟩
(ayb b)
 (.brk ⟨[(62,(pi 0)),(61,(.llen (pc o3 16))),(60,(pc o3 16)),(8,(pi 0))],[]⟩
(ayc b)
 (.call ⟨[],[]⟩ [] 84 115 [(af 8 o2),(af 19 o3)]
 (.ite (aH SL (pi 0))
 (.ret SL)
 (.call ⟨[],[]⟩ [] 89 116 [(af 19 o3)]
 (.ret r89))))))))))
def asC (b:Nat→PC):PT×List (Shp×PT):=(Vd b,[(.lp 0 [4,48,49] [] [4,48] [],C3 b),(.lp 2 [4,8,62,63] [] [4,8,62] [],C4 b)])
theorem IC:zU.map told=some (asC (ar zU)):=by kernel_rfl
theorem aEJ:tree JR=Vd zm:=aA IC
theorem SX:round 0 [4,48,49] [] [4,48] [] (zm 0)=C3 zm:=aZ IC 0 fun _=>rfl
theorem SY:round 2 [4,8,62,63] [] [4,8,62] [] (zm 1)=C4 zm:=aZ IC 1 fun _=>rfl
theorem anj:zU=some JR:=aw IC
noncomputable def GI:Option PC:=av {ctx with fr:=[4,5,6,7,8,54,80,109,118,9,10],nh:=[]} Tryz.f112 ((aa ab 112).getD default) [2,3]
noncomputable def Ln:PC:=au GI
def Wv:PT:=
 (.call ⟨[],[(3,(.mk [r1])),(2,(.mk [r0]))]⟩ [] 12 89 [fX]
 (.ite (aH bI (pi 0))
 (.ret bI)
 (.call ⟨[(7,(.llen (pc o2 1))),(6,(.llen (pc o2 3)))],[]⟩ [] 25 161 [(pc o3 0),(.llen (pc o2 3))]
 (.call ⟨[(26,gU)],[]⟩ [(26,true)] 30 161 [(pc o3 1),r6]
 (.call ⟨[(36,(ah (pc o3 2) (pi (-1)))),(32,(.pick jQ fZ pF))],[]⟩ [(36,false),(32,true)] 40 161 [(pc o3 2),r6]
 (.call ⟨[(47,(ah (pc o3 11) (pi (-1)))),(43,(.pick td (.pick gJ pT nA) pF))],[]⟩ [(47,false),(43,true)] 51 161 [(pc o3 11),r6]
 (.blockS ⟨[(8,(.pick oU (.pick tj pT kV) pF))],[]⟩ 0 [4,54,55,56,57,65,66,72,73,79,80,81,82,83,84,88,89,93,94,98,99,103,104,108,109,110,111,112,113,117,118,119,120,121,122,126,127,137,138,142] []
 (.call ⟨[(57,(.nt r8))],[]⟩ [(57,false)] 63 161 [(pc o3 4),(.llen (pc o2 0))]
 (.call ⟨[(66,(.pick rI pT (.nt yx)))],[]⟩ [(66,false)] 70 161 [(pc o3 9),r7]
 (.call ⟨[(73,(.pick r66 pT (.nt r70)))],[]⟩ [(73,false)] 77 161 [(pc o3 10),r7]
 (.iteS ⟨[],[]⟩ (.pick yy pT (.nt r77)) [4,80,81,82,83,84,88,89,93,94,98,99,103,104,108,109,110,111,112,113,117,118,119,120,121,122,126,127,137,138,142] []
 (.ret (pi 1))
 (.iteS ⟨[],[]⟩ (.pick (.pick (.pick (.pick (.pick (aj (pc o3 3) (pi 1)) pT (aO (pc o3 3) lN)) pT (aj (pc o3 8) (pi 0))) pT (aO (pc o3 8) (pi 100000))) pT (aj (pc o3 12) (pi 0))) pT (aO (pc o3 12) (pi 1000))) [4,109,110,111,112,113,117,118,119,120,121,122,126,127,137,138,142] []
 (.ret (pi 3))
 (.iteS ⟨[],[]⟩ (.pick (aj (pc o3 14) (pi 1)) pT (aO (pc o3 14) (pi 4))) [4,118,119,120,121,122,126,127,137,138,142] []
 (.ret (pi 15))
 (.call ⟨[(138,(.pick (.pick (aj (pc o3 13) (pi 0)) pT (aO (pc o3 13) (pi 7))) pT (.pick (aH (.ai .and .i64 (pc o3 13) (pi 4)) (pi 0)) (ah (pc o3 2) (pi (-1))) pF)))],[]⟩ [(138,false)] 140 162 [(af 15 o3)]
 (.ite (.pick (.r 138) pT (.nt (.r 140)))
 (.ret (pi 2))
 (.next ⟨[],[]⟩)))
 (.next ⟨[],[]⟩))
 (.next ⟨[],[]⟩))
 (.next ⟨[],[]⟩)))))
 (.iteS ⟨[],[]⟩ (ah (pc o3 5) (pi 4)) [4] []
 (.call ⟨[],[]⟩ [] 153 163 [(af 8 o2),(pc o3 9),(pc o3 10)]
 (.ret (.tget (.r 153) 1)))
 (.next ⟨[],[]⟩)
 (.ret (pi 0))))))))))
def aug (b:Nat→PC):PT×List (Shp×PT):=(Wv,[])
theorem afc:GI.map told=some (aug (ar GI)):=by kernel_rfl
theorem aGc:tree Ln=Wv:=aA afc
theorem aoS:GI=some Ln:=aw afc
noncomputable def GJ:Option PC:=av {ctx with fr:=[4],nh:=[]} Tryz.f161 ((aa ab 161).getD default) []
noncomputable def Lo:PC:=au GJ
def Ww:PT:=
 (.ret (.pick (aV r0 (pi 0)) (aj r0 r1) pF))
def auh (b:Nat→PC):PT×List (Shp×PT):=(Ww,[])
theorem afd:GJ.map told=some (auh (ar GJ)):=by kernel_rfl
theorem aGd:tree Lo=Ww:=aA afd
theorem aoT:GJ=some Lo:=aw afd
noncomputable def GK:Option PC:=av {ctx with fr:=[2,8,19,40],nh:=[]} Tryz.f162 ((aa ab 162).getD default) [1,3]
noncomputable def Lp:PC:=au GK
def Wx:PT:=
 (.ite (.pick (ah (pc ki 0) (pi 0)) (ah (pc ki 0) (pi 0)) (ah (pc ki 0) (pi 4)))
 (.ret (.pick (ah (pc ki 1) (pi 0)) (ah (pc ki 2) (pi 0)) pF))
 (.ite (.pick (ah (pc ki 0) (pi 1)) (ah (pc ki 0) (pi 1)) (ah (pc ki 0) (pi 2)))
 (.ret (.pick (.pick (aV (pc ki 1) (pi 1)) (aW (pc ki 1) (pi 400)) pF) (.pick (ah (pc ki 2) (pi 0)) pT (ah (pc ki 2) (pi 1))) pF))
 (.ite (ah (pc ki 0) (pi 3))
 (.ret (.pick (.pick (aV (pc ki 1) (pc (.mk [r0]) 8)) (aW (pc ki 1) (pi 100000)) pF) (ah (pc ki 2) (pi 0)) pF))
 (.ret pF))))
def aui (b:Nat→PC):PT×List (Shp×PT):=(Wx,[])
theorem afe:GK.map told=some (aui (ar GK)):=by kernel_rfl
theorem aGe:tree Lp=Wx:=aA afe
theorem aoU:GK=some Lp:=aw afe
end Rm
