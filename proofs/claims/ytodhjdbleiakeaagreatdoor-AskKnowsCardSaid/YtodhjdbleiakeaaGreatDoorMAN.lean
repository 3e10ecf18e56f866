/-
  The functions of this seat, compiled (3).
-/
import Derived.Test.YtodhjdbleiakeaaGreatDoorMAK
import Derived.KernelRfl
set_option linter.unusedVariables false
set_option maxRecDepth 100000
namespace Rm
open Go Go.Proofs Cx
noncomputable def Bh:Option PC:=aB {ctx with fr:=[2,3,4,5,6,7,10,11,12],nh:=[]} Tryz.f54 ((ab af 54).getD default) [1,9]
noncomputable def Km:PC:=aA Bh
noncomputable def NY:Nat→PC:=bE Bh
def axt (b:Nat→PC):PC:=.block 0 [2,38,39] [] (.loop [2,38] [] (b 0))
def Eu (b:Nat→PC):PT:=
 (.ite (aj fE lW)
 (.blockS ⟨[],[]⟩ 1 [2,9,40,41,42,43,44,45] [9]
 (.chk (av kr fE)
 (.call ⟨[],[]⟩ [] 44 91 [(pc (.setc DS 0 (pn kr fE)) 0),(pi 10)]
 (.ite (.nt tV)
 (.ret (pi 1))
 (.next ⟨[],[]⟩))))
 (.next ⟨[(38,(aO fE (pi 1)))],[]⟩))
 (.exit 0 ⟨[(39,(aj fE lW))],[]⟩))
def V3 (b:Nat→PC):PT:=
 (.call ⟨[(2,(pi 0))],[(1,(.mk [r0]))]⟩ [] 15 129 [km]
 (.call ⟨[(5,(.tget gP 2)),(4,(.tget gP 1)),(3,(.tget gP 0))],[]⟩ [] 21 130 [(pc o1 0),(pi 8),(.con (.clo 131 []))]
 (.ite (aU kq (pi 0))
 (.ret kq)
 (.call ⟨[],[(1,(au 8 o1))]⟩ [] 27 130 [r3,(pi 40),(.clo 132 [(.ref (au 8 o1))])]
 (.ite (aU fh (pi 0))
 (.ret fh)
 (.ite (be qM (pi 20))
 (.ret (pi 6))
 (.brk ⟨[(38,(pi 0)),(37,qM),(36,(pc o1 2))],[]⟩
(axt b)
 (.call ⟨[],[]⟩ [] 49 130 [r4,(pi 200),(.clo 134 [(.ref o1)])]
 (.ite (aU kV (pi 0))
 (.ret kV)
 (.call ⟨[],[]⟩ [] 55 130 [r5,(pi 20),(.clo 135 [(.ref o1)])]
 (.ite (aU zi (pi 0))
 (.ret zi)
 (.call ⟨[],[]⟩ [] 60 137 [(.sub o1 0 8)]
 (.ite (aU D4 (pi 0))
 (.ret D4)
 (.call ⟨[],[]⟩ [] 65 138 [(.sub o1 0 8)]
 (.ret zj)))))))))))))))
def arQ (b:Nat→PC):PT×List (Shp×PT):=(V3 b,[(.lp 0 [2,38,39] [] [2,38] [],Eu b)])
theorem Sq:Bh.map told=some (arQ (ax Bh)):=by kernel_rfl
theorem aDT:tree Km=V3 NY:=aK Sq
theorem T7:round 0 [2,38,39] [] [2,38] [] (NY 0)=Eu NY:=bq Sq 0 fun _=>rfl
theorem anW:Bh=some Km:=aC Sq
noncomputable def Bm:Option PC:=aB {ctx with fr:=[],nh:=[]} Tryz.f129 ((ab af 129).getD default) [1,2,3,4,6,16390,20486,24582,21,8,34,10,12298,16394,47]
noncomputable def KA:PC:=aA Bm
noncomputable def uO:Nat→PC:=bE Bm
def axy (b:Nat→PC):PC:=.block 0 [2,14,15] [2] (.loop [2,14] [2] (b 0))
def axz (b:Nat→PC):PC:=.block 2 [3,27,28] [3] (.loop [3,27] [3] (b 1))
def axA (b:Nat→PC):PC:=.block 4 [4,40,41] [4] (.loop [4,40] [4] (b 2))
def L8 (b:Nat→PC):PT:=
 (.ite sk
 (.chk (av bW du)
 (.chk (bJ (.llen agB) cK)
 (.next ⟨[(2,pN),(14,y5)],[(2,agB)]⟩)))
 (.exit 0 ⟨[(15,sk)],[]⟩))
def L9 (b:Nat→PC):PT:=
 (.ite (aj fh kU)
 (.chk (av gR fh)
 (.chk (bJ (.llen agG) cK)
 (.next ⟨[(3,pN),(27,(aO fh (pi 1)))],[(3,agG)]⟩)))
 (.exit 2 ⟨[(28,(aj fh kU))],[]⟩))
def Ma (b:Nat→PC):PT:=
 (.ite (aj nU D2)
 (.chk (av fE nU)
 (.chk (bJ (.llen agC) cK)
 (.next ⟨[(4,pN),(40,(aO nU (pi 1)))],[(4,agC)]⟩)))
 (.exit 4 ⟨[(41,(aj nU D2))],[]⟩))
def Wf (b:Nat→PC):PT:=
 (.brk ⟨[(14,(pi 0)),(13,(.llen se)),(12,se),(4,pN),(3,pN),(2,pN)],[(4,pL),(3,pL),(2,pL),(1,(.mk [r0]))]⟩
(axy b)
 (.brk ⟨[(27,(pi 0)),(26,mU),(25,(pc o1 3))],[]⟩
(axz b)
 (.brk ⟨[(40,(pi 0)),(39,nS),(38,(pc o1 4))],[]⟩
(axA b)
 (.ret (.tup [o2,o3,o4])))))
def ar2 (b:Nat→PC):PT×List (Shp×PT):=(Wf b,[(.lp 0 [2,14,15] [2] [2,14] [2],L8 b),(.lp 2 [3,27,28] [3] [3,27] [3],L9 b),(.lp 4 [4,40,41] [4] [4,40] [4],Ma b)])
theorem DB:Bm.map told=some (ar2 (ax Bm)):=by kernel_rfl
theorem aD1:tree KA=Wf uO:=aK DB
theorem ahb:round 0 [2,14,15] [2] [2,14] [2] (uO 0)=L8 uO:=bq DB 0 fun _=>rfl
theorem ahc:round 2 [3,27,28] [3] [3,27] [3] (uO 1)=L9 uO:=bq DB 1 fun _=>rfl
theorem ahd:round 4 [4,40,41] [4] [4,40] [4] (uO 2)=Ma uO:=bq DB 2 fun _=>rfl
theorem an4:Bm=some KA:=aC DB
noncomputable def Bk:Option PC:=aB {ctx with fr:=[6,7,8],nh:=[]} Tryz.f130 ((ab af 130).getD default) []
noncomputable def Kv:PC:=aA Bk
noncomputable def N1:Nat→PC:=bE Bk
def axw (b:Nat→PC):PC:=.block 0 [6,15,16] [] (.loop [6,15] [] (b 0))
def Ex (b:Nat→PC):PT:=
 (.ite (aj gP du)
 (.blockS ⟨[],[]⟩ 1 [6,7,8,17,18,19,20,21,22,24,25,26,27] []
 (.call ⟨[(7,gP)],[]⟩ [] 20 204 [r0,gP]
 (.ite (aU eg (pi 0))
 (.ret eg)
 (.callc ⟨[],[]⟩ [] 26 r2 [r7]
 (.ite (.nt kU)
 (.ret (pi 1))
 (.next ⟨[],[]⟩)))))
 (.next ⟨[(15,(aO gP (pi 1)))],[]⟩))
 (.exit 0 ⟨[(16,(aj gP du))],[]⟩))
def Wb (b:Nat→PC):PT:=
 (.ite (be (.llen r0) r1)
 (.ret (pi 6))
 (.brk ⟨[(15,(pi 0)),(14,(.llen r0)),(6,(pi 0))],[]⟩
(axw b)
 (.ret (pi 0))))
def arY (b:Nat→PC):PT×List (Shp×PT):=(Wb b,[(.lp 0 [6,15,16] [] [6,15] [],Ex b)])
theorem Su:Bk.map told=some (arY (ax Bk)):=by kernel_rfl
theorem aDX:tree Kv=Wb N1:=aK Su
theorem Ua:round 0 [6,15,16] [] [6,15] [] (N1 0)=Ex N1:=bq Su 0 fun _=>rfl
theorem an0:Bk=some Kv:=aC Su
noncomputable def GM:Option PC:=aB {ctx with fr:=[4],nh:=[]} Tryz.f204 ((ab af 204).getD default) []
noncomputable def Kz:PC:=aA GM
def We:PT:=
 (.chk (av r0 r1)
 (.call ⟨[],[]⟩ [] 9 244 [(pn r0 r1)]
 (.ite (.nt r9)
 (.ret (pi 2))
 (.chk (.slok r0 (pi 0) r1)
 (.chk (av r0 r1)
 (.call ⟨[],[]⟩ [] 18 245 [(.slc r0 (pi 0) r1),(pn r0 r1)]
 (.ite gQ
 (.ret (pi 5))
 (.ret (pi 0)))))))))
def ar1 (b:Nat→PC):PT×List (Shp×PT):=(We,[])
theorem afB:GM.map told=some (ar1 (ax GM)):=by kernel_rfl
theorem aD0:tree Kz=We:=aK afB
theorem an3:GM=some Kz:=aC afB
noncomputable def Bl:Option PC:=aB {ctx with fr:=[2,3,4,5],nh:=[]} Tryz.f244 ((ab af 244).getD default) []
noncomputable def Ky:PC:=aA Bl
noncomputable def N2:Nat→PC:=bE Bl
def axx (b:Nat→PC):PC:=.block 0 [2,16,17] [] (.loop [2,16] [] (b 0))
def Ey (b:Nat→PC):PT:=
 (.ite (aj dJ gP)
 (.chk (av du dJ)
 (.ite (.pick (.nt (.pick (.pick (bL qP (.con (.v (.int .u8 97)))) (bJ qP (.con (.v (.int .u8 122)))) pF) pT (.pick (bL qP (.con (.v (.int .u8 65)))) (bJ qP (.con (.v (.int .u8 90)))) pF))) (.pick (aq dJ (pi 0)) pT (.pick (aU qP (.con (.v (.int .u8 95)))) (.pick (aj qP (.con (.v (.int .u8 48)))) pT (be qP (.con (.v (.int .u8 57))))) pF)) pF)
 (.ret pF)
 (.next ⟨[(16,(aO dJ (pi 1)))],[]⟩)))
 (.exit 0 ⟨[(17,(aj dJ gP))],[]⟩))
def Wd (b:Nat→PC):PT:=
 (.ite (.pick (.cs .eql r0 (.con (.v (.string ⟨#[]⟩)))) pT (be (.slen r0) (pi 20)))
 (.ret pF)
 (.chk (bJ (.slen r0) cK)
 (.brk ⟨[(16,(pi 0)),(15,(.llen (.bytes r0))),(14,(.bytes r0)),(2,pF)],[]⟩
(axx b)
 (.ret pT))))
def ar0 (b:Nat→PC):PT×List (Shp×PT):=(Wd b,[(.lp 0 [2,16,17] [] [2,16] [],Ey b)])
theorem Sv:Bl.map told=some (ar0 (ax Bl)):=by kernel_rfl
theorem aDZ:tree Ky=Wd N2:=aK Sv
theorem Ub:round 0 [2,16,17] [] [2,16] [] (N2 0)=Ey N2:=bq Sv 0 fun _=>rfl
theorem an2:Bl=some Ky:=aC Sv
noncomputable def GS:Option PC:=aB {ctx with fr:=[4],nh:=[]} Tryz.f245 ((ab af 245).getD default) []
noncomputable def KQ:PC:=aA GS
def Wu:PT:=
 (.call ⟨[],[]⟩ [] 7 279 [r0,r1]
 (.ret (bL r7 (pi 0))))
def asj (b:Nat→PC):PT×List (Shp×PT):=(Wu,[])
theorem afI:GS.map told=some (asj (ax GS)):=by kernel_rfl
theorem aEi:tree KQ=Wu:=aK afI
theorem aoi:GS=some KQ:=aC afI
noncomputable def Bz:Option PC:=aB {ctx with fr:=[4,5],nh:=[]} Tryz.f279 ((ab af 279).getD default) []
noncomputable def KV:PC:=aA Bz
noncomputable def N9:Nat→PC:=bE Bz
def axX (b:Nat→PC):PC:=.block 0 [4,8,9] [] (.loop [4,8] [] (b 0))
def EO (b:Nat→PC):PT:=
 (.ite (aj r8 r7)
 (.chk (av r0 r8)
 (.ite (.cs .eql r1 (pn r0 r8))
 (.ret r8)
 (.next ⟨[(8,sf)],[]⟩)))
 (.exit 0 ⟨[(9,(aj r8 r7))],[]⟩))
def Wz (b:Nat→PC):PT:=
 (.brk ⟨[(8,(pi 0)),(7,(.llen r0)),(4,(pi 0))],[]⟩
(axX b)
 (.ret (pi (-1))))
def asq (b:Nat→PC):PT×List (Shp×PT):=(Wz b,[(.lp 0 [4,8,9] [] [4,8] [],EO b)])
theorem SD:Bz.map told=some (asq (ax Bz)):=by kernel_rfl
theorem aEn:tree KV=Wz N9:=aK SD
theorem Us:round 0 [4,8,9] [] [4,8] [] (N9 0)=EO N9:=bq SD 0 fun _=>rfl
theorem aol:Bz=some KV:=aC SD
noncomputable def GG:Option PC:=aB {ctx with fr:=[2],nh:=[]} Tryz.f131 ((ab af 131).getD default) []
noncomputable def Ko:PC:=aA GG
def V4:PT:=
 (.ret pT)
def arR (b:Nat→PC):PT×List (Shp×PT):=(V4,[])
theorem afv:GG.map told=some (arR (ax GG)):=by kernel_rfl
theorem aDP:tree Ko=V4:=aK afv
theorem anS:GG=some Ko:=aC afv
noncomputable def GH:Option PC:=aB {ctx with fr:=[3],nh:=[]} Tryz.f132 ((ab af 132).getD default) []
noncomputable def Kp:PC:=aA GH
def V5:PT:=
 (.chk (av (pc (.deref r1) 1) r0)
 (.call ⟨[],[]⟩ [] 10 133 [(.deref r1),(pn (pc (.deref r1) 1) r0)]
 (.ret cR)))
def arS (b:Nat→PC):PT×List (Shp×PT):=(V5,[])
theorem afw:GH.map told=some (arS (ax GH)):=by kernel_rfl
theorem aDQ:tree Kp=V5:=aK afw
theorem anT:GH=some Kp:=aC afw
noncomputable def Bj:Option PC:=aB {ctx with fr:=[4,6],nh:=[]} Tryz.f133 ((ab af 133).getD default) [2,3]
noncomputable def Ku:PC:=aA Bj
noncomputable def N0:Nat→PC:=bE Bj
def axv (b:Nat→PC):PC:=.block 0 [4,10,11] [] (.loop [4,10] [] (b 0))
def Ew (b:Nat→PC):PT:=
 (.ite (aj cR r9)
 (.chk (av r8 cR)
 (.chk zh
 (.chk (.nt (.an (.an (.nt (aj Ti (pi 1))) pT) (.nt zh)))
 (.ite (.pick (aj Ti (pi 1)) pT (be Ti (pi 31)))
 (.ret pF)
 (.next ⟨[(10,(aO cR (pi 1)))],[]⟩)))))
 (.exit 0 ⟨[(11,(aj cR r9))],[]⟩))
def Wa (b:Nat→PC):PT:=
 (.brk ⟨[(10,(pi 0)),(9,(.llen (pc (.mk [r1]) 4))),(8,(pc (.mk [r1]) 4)),(4,pF)],[(3,(.mk [r1])),(2,(.mk [r0]))]⟩
(axv b)
 (.call ⟨[(33,(.pick (be (.llen (pc o3 4)) (pi 60)) pT (be (.llen (pc o3 5)) (pi 200))))],[]⟩ [(33,false)] 39 91 [(pc o3 1),(.llen (pc o2 4))]
 (.call ⟨[(42,(.pick sl pT (.nt D2)))],[]⟩ [(42,false)] 48 91 [(pc o3 2),(.llen (pc o2 0))]
 (.ite (.pick r42 pT (.nt lX))
 (.ret pF)
 (.call ⟨[],[]⟩ [] 53 205 [(pc o3 3),(pi 0),(pi 6)]
 (.call ⟨[(54,r53)],[]⟩ [(54,true)] 57 205 [(pc o3 4),(pi 101),(pi 1231)]
 (.call ⟨[(59,(.pick pK LN pF))],[]⟩ [(59,true)] 62 205 [(pc o3 5),(pi 0),(pi 100000)]
 (.ret (.pick TA mV pF)))))))))
def arX (b:Nat→PC):PT×List (Shp×PT):=(Wa b,[(.lp 0 [4,10,11] [] [4,10] [],Ew b)])
theorem Ss:Bj.map told=some (arX (ax Bj)):=by kernel_rfl
theorem aDW:tree Ku=Wa N0:=aK Ss
theorem T9:round 0 [4,10,11] [] [4,10] [] (N0 0)=Ew N0:=bq Ss 0 fun _=>rfl
theorem anZ:Bj=some Ku:=aC Ss
noncomputable def Bp:Option PC:=aB {ctx with fr:=[6,7,8],nh:=[]} Tryz.f205 ((ab af 205).getD default) []
noncomputable def KD:PC:=aA Bp
noncomputable def N3:Nat→PC:=bE Bp
def axF (b:Nat→PC):PC:=.block 0 [6,11,12] [] (.loop [6,11] [] (b 0))
def tZ (b:Nat→PC):PT:=
 (.ite (aj bu cR)
 (.chk (av r9 bu)
 (.chk (.nt (.an (.an (be bu (pi 0)) (.an (.nt (.pick (aj (pn r9 bu) r1) pT (be (pn r9 bu) r2))) pT)) (.nt (av r0 (bD bu (pi 1))))))
 (.ite (.pick (.pick (aj (pn r9 bu) r1) pT (be (pn r9 bu) r2)) pT (.pick (be bu (pi 0)) (bJ (pn r9 bu) (pn r0 (bD bu (pi 1)))) pF))
 (.ret pF)
 (.next ⟨[(11,(aO bu (pi 1)))],[]⟩))))
 (.exit 0 ⟨[(12,(aj bu cR))],[]⟩))
def Wi (b:Nat→PC):PT:=
 (.brk ⟨[(11,(pi 0)),(10,(.llen r0)),(9,r0),(6,pF)],[]⟩
(axF b)
 (.ret pT))
def ar5 (b:Nat→PC):PT×List (Shp×PT):=(Wi b,[(.lp 0 [6,11,12] [] [6,11] [],tZ b)])
theorem Sw:Bp.map told=some (ar5 (ax Bp)):=by kernel_rfl
theorem aD4:tree KD=Wi N3:=aK Sw
theorem zu:round 0 [6,11,12] [] [6,11] [] (N3 0)=tZ N3:=bq Sw 0 fun _=>rfl
theorem an7:Bp=some KD:=aC Sw
noncomputable def GI:Option PC:=aB {ctx with fr:=[3],nh:=[]} Tryz.f134 ((ab af 134).getD default) []
noncomputable def Kq:PC:=aA GI
def V6:PT:=
 (.chk (av (pc (.deref r1) 3) r0)
 (.call ⟨[],[]⟩ [] 13 91 [(pc (pn (pc (.deref r1) 3) r0) 1),(.llen (pc (.deref r1) 1))]
 (.chk (.nt (.an (.an eH pT) (.nt (av (pc (.deref r1) 3) r0))))
 (.call ⟨[(14,eH)],[]⟩ [(14,true)] 24 91 [(pc (pn (pc (.deref r1) 3) r0) 2),(.llen (pc (.deref r1) 2))]
 (.ret (.pick du pJ pF))))))
def arT (b:Nat→PC):PT×List (Shp×PT):=(V6,[])
theorem afx:GI.map told=some (arT (ax GI)):=by kernel_rfl
theorem aDR:tree Kq=V6:=aK afx
theorem anU:GI=some Kq:=aC afx
noncomputable def GJ:Option PC:=aB {ctx with fr:=[3],nh:=[]} Tryz.f135 ((ab af 135).getD default) []
noncomputable def Kr:PC:=aA GJ
def V7:PT:=
 (.chk (av (pc (.deref r1) 4) r0)
 (.call ⟨[],[]⟩ [] 9 136 [(pn (pc (.deref r1) 4) r0)]
 (.ret r9)))
def arU (b:Nat→PC):PT×List (Shp×PT):=(V7,[])
theorem afy:GJ.map told=some (arU (ax GJ)):=by kernel_rfl
theorem aDS:tree Kr=V7:=aK afy
theorem anV:GJ=some Kr:=aC afy
noncomputable def Bn:Option PC:=aB {ctx with fr:=[2],nh:=[]} Tryz.f136 ((ab af 136).getD default) [1,3,4,6,19,8,16392,36]
noncomputable def KB:PC:=aA Bn
noncomputable def Aw:Nat→PC:=bE Bn
def axB (b:Nat→PC):PC:=.block 0 [2,3,12,13] [3] (.loop [2,3,12] [3] (b 0))
def axC (b:Nat→PC):PC:=.block 2 [4,29,30] [4] (.loop [4,29] [4] (b 1))
def Ez (b:Nat→PC):PT:=
 (.ite (aj bW bu)
 (.blockS ⟨[],[]⟩ 1 [2,3,6,14,15,17,18,19,20,21,22,23,24] [6,19,3]
 (.chk (av cR bW)
 (.chk (bJ (.llen (.app o3 (.lst [(pc (.setc LB 0 (pn cR bW)) 0)]))) cK)
 (.call ⟨[(3,pN)],[(3,(.app o3 (.lst [(pc (.setc LB 0 (pn cR bW)) 0)])))]⟩ [] 23 91 [(pc (.setc LB 0 (pn cR bW)) 1),(pi 5)]
 (.ite (.nt jA)
 (.ret pF)
 (.next ⟨[],[]⟩)))))
 (.next ⟨[(12,(aO bW (pi 1)))],[]⟩))
 (.exit 0 ⟨[(13,(aj bW bu))],[]⟩))
def Mb (b:Nat→PC):PT:=
 (.ite (aj nT qQ)
 (.chk (av fh nT)
 (.chk (bJ (.llen agH) cK)
 (.next ⟨[(4,pN),(29,(aO nT (pi 1)))],[(4,agH)]⟩)))
 (.exit 2 ⟨[(30,(aj nT qQ))],[]⟩))
def Wg (b:Nat→PC):PT:=
 (.brk ⟨[(12,(pi 0)),(11,pI),(10,zc),(4,pN),(3,pN),(2,pF)],[(4,pL),(3,pL),(1,(.mk [r0]))]⟩
(axB b)
 (.brk ⟨[(29,(pi 0)),(28,mU),(27,(pc o1 3))],[]⟩
(axC b)
 (.call ⟨[],[]⟩ [] 40 205 [o3,(pi 0),(pi 21)]
 (.call ⟨[(41,nU)],[]⟩ [(41,true)] 43 205 [o4,(pi 0),(pi 21)]
 (.ret (.pick qU sm pF))))))
def ar3 (b:Nat→PC):PT×List (Shp×PT):=(Wg b,[(.lp 0 [2,3,12,13] [3] [2,3,12] [3],Ez b),(.lp 2 [4,29,30] [4] [4,29] [4],Mb b)])
theorem I1:Bn.map told=some (ar3 (ax Bn)):=by kernel_rfl
theorem aD2:tree KB=Wg Aw:=aK I1
theorem Uc:round 0 [2,3,12,13] [3] [2,3,12] [3] (Aw 0)=Ez Aw:=bq I1 0 fun _=>rfl
theorem ahe:round 2 [4,29,30] [4] [4,29] [4] (Aw 1)=Mb Aw:=bq I1 1 fun _=>rfl
theorem an5:Bn=some KB:=aC I1
noncomputable def Bq:Option PC:=aB {ctx with fr:=[2,3],nh:=[]} Tryz.f137 ((ab af 137).getD default) [1,4,6]
noncomputable def KE:PC:=aA Bq
noncomputable def Ay:Nat→PC:=bE Bq
def axG (b:Nat→PC):PC:=.block 2 [2,50,51] [] (.loop [2,50] [] (b 0))
def axH (b:Nat→PC):PC:=.block 0 [2,14,15] [] (.loop [2,14] [] (b 1))
def zw (b:Nat→PC):PT:=
 (.ite (aj kW kV)
 (.chk (av lX kW)
 (.ite (.pick (aq (pc (.setc z3 0 (pn lX kW)) 0) (pc o4 0)) (aq (pc (.setc z3 0 (pn lX kW)) 1) (pc o4 1)) pF)
 (.ret (pi 5))
 (.next ⟨[(50,(aO kW (pi 1)))],[]⟩)))
 (.exit 2 ⟨[(51,(aj kW kV))],[]⟩))
def EC (b:Nat→PC):PT:=
 (.ite sk
 (.blockS ⟨[(15,sk)],[]⟩ 1 [2,3,4,16,17,18,19,20,21,22,23,24,25,26,34,35,39,40,44,45,46,47,48,49,50,51] [4]
 (.chk (av bW du)
 (.call ⟨[(3,du)],[(4,zf)]⟩ [] 24 91 [(pc zf 0),kT]
 (.call ⟨[(26,(.nt pJ))],[]⟩ [(26,false)] 32 91 [(pc o4 1),kT]
 (.ite (.pick (.pick (.pick kU pT (.nt D1)) pT (aj (pc o4 2) (pi 1))) pT (be (pc o4 2) (pi 20000)))
 (.ret (pi 1))
 (.chk (.slok (pc o1 5) (pi 0) r3)
 (.brk ⟨[(50,(pi 0)),(49,(.llen (.slc (pc o1 5) (pi 0) r3))),(48,(.slc (pc o1 5) (pi 0) r3))],[]⟩
(axG b)
 (.next ⟨[],[]⟩)))))))
 (.next ⟨[(14,y5)],[]⟩))
 (.exit 0 ⟨[(15,sk)],[]⟩))
def Wj (b:Nat→PC):PT:=
 (.ite (be (.llen wx) (pi 100))
 (.ret (pi 6))
 (.brk ⟨[(14,(pi 0)),(13,(.llen wx)),(12,wx),(2,(pi 0))],[(1,(.mk [r0]))]⟩
(axH b)
 (.ret (pi 0))))
def ar6 (b:Nat→PC):PT×List (Shp×PT):=(Wj b,[(.lp 2 [2,50,51] [] [2,50] [],zw b),(.lp 0 [2,14,15] [] [2,14] [],EC b)])
theorem I3:Bq.map told=some (ar6 (ax Bq)):=by kernel_rfl
theorem aD5:tree KE=Wj Ay:=aK I3
theorem Mc:round 2 [2,50,51] [] [2,50] [] (Ay 0)=zw Ay:=bq I3 0 fun _=>rfl
theorem Uf:round 0 [2,14,15] [] [2,14] [] (Ay 1)=EC Ay:=bq I3 1 fun _=>rfl
theorem an8:Bq=some KE:=aC I3
noncomputable def Bo:Option PC:=aB {ctx with fr:=[2],nh:=[]} Tryz.f138 ((ab af 138).getD default) [1,4,6]
noncomputable def KC:PC:=aA Bo
noncomputable def Ax:Nat→PC:=bE Bo
def axD (b:Nat→PC):PC:=.block 0 [2,14,15] [] (.loop [2,14] [] (b 0))
def axE (b:Nat→PC):PC:=.block 2 [2,69,70] [] (.loop [2,69] [] (b 1))
def EA (b:Nat→PC):PT:=
 (.ite sk
 (.blockS ⟨[],[]⟩ 1 [2,4,16,17,18,19,20,21,22,23,24,25,33,34,40,41,47,48,54,55,60] [4]
 (.chk (av bW du)
 (.call ⟨[],[(4,(.setc z5 0 (pn bW du)))]⟩ [] 23 91 [(pc (.setc z5 0 (pn bW du)) 0),tS]
 (.call ⟨[(25,(.nt jA))],[]⟩ [(25,false)] 31 91 [(pc o4 1),tS]
 (.call ⟨[(41,(.pick (.pick gR pT (.nt qT)) pT (aq (pc o4 0) (pc o4 1))))],[]⟩ [(41,false)] 45 91 [(bD (pc o4 2) (pi 1)),(pi 1073741824)]
 (.call ⟨[(48,(.pick qU pT (.nt nV)))],[]⟩ [(48,false)] 52 91 [(bD (pc o4 3) (pi 1)),(pi 1073741824)]
 (.call ⟨[(55,(.pick lX pT (.nt LM)))],[]⟩ [(55,false)] 58 91 [(pc o4 4),(pi 100001)]
 (.ite (.pick zi pT (.nt D3))
 (.ret (pi 1))
 (.next ⟨[],[]⟩))))))))
 (.next ⟨[(14,y5)],[]⟩))
 (.exit 0 ⟨[(15,sk)],[]⟩))
def EB (b:Nat→PC):PT:=
 (.ite (aj sn r68)
 (.blockS ⟨[],[]⟩ 3 [2,6,71,72,73,74,75,76,77,78,79,80,84,85,91,92,96] [6]
 (.chk (av tX sn)
 (.call ⟨[],[(6,(.setc z3 0 (pn tX sn)))]⟩ [] 78 91 [(pc (.setc z3 0 (pn tX sn)) 0),nS]
 (.ite (.pick (.pick (.pick (.nt TC) pT (aj (pc o6 1) (pi 0))) pT (be (pc o6 1) (pc o6 2))) pT (be (pc o6 2) (pi 100000)))
 (.ret (pi 1))
 (.next ⟨[],[]⟩))))
 (.next ⟨[(69,(aO sn (pi 1)))],[]⟩))
 (.exit 2 ⟨[(70,(aj sn r68))],[]⟩))
def Wh (b:Nat→PC):PT:=
 (.ite (be (.llen (pc (.mk [r0]) 6)) (pi 100))
 (.ret (pi 6))
 (.brk ⟨[(14,(pi 0)),(13,(.llen (pc (.mk [r0]) 6))),(12,(pc (.mk [r0]) 6)),(2,(pi 0))],[(1,(.mk [r0]))]⟩
(axD b)
 (.ite (be wz (pi 20))
 (.ret (pi 6))
 (.brk ⟨[(69,(pi 0)),(68,wz),(67,(pc o1 7))],[]⟩
(axE b)
 (.ret (pi 0))))))
def ar4 (b:Nat→PC):PT×List (Shp×PT):=(Wh b,[(.lp 0 [2,14,15] [] [2,14] [],EA b),(.lp 2 [2,69,70] [] [2,69] [],EB b)])
theorem I2:Bo.map told=some (ar4 (ax Bo)):=by kernel_rfl
theorem aD3:tree KC=Wh Ax:=aK I2
theorem Ud:round 0 [2,14,15] [] [2,14] [] (Ax 0)=EA Ax:=bq I2 0 fun _=>rfl
theorem Ue:round 2 [2,69,70] [] [2,69] [] (Ax 1)=EB Ax:=bq I2 1 fun _=>rfl
theorem an6:Bo=some KC:=aC I2
noncomputable def GY:Option PC:=aB {ctx with fr:=[4],nh:=[]} Tryz.f177 ((ab af 177).getD default) [2]
noncomputable def K1:PC:=aA GY
def WC:PT:=
 (.ret (.pick (bL r1 (pi 0)) (aj r1 (.llen se)) pF))
def asz (b:Nat→PC):PT×List (Shp×PT):=(WC,[])
theorem afN:GY.map told=some (asz (ax GY)):=by kernel_rfl
theorem aEt:tree K1=WC:=aK afN
theorem aor:GY=some K1:=aC afN
noncomputable def GZ:Option PC:=aB {ctx with fr:=[2],nh:=[]} Tryz.f178 ((ab af 178).getD default) []
noncomputable def K4:PC:=aA GZ
def WD:PT:=
 (.ret (.pick (bL r0 (pi 0)) (bJ r0 (pi 100000)) pF))
def asA (b:Nat→PC):PT×List (Shp×PT):=(WD,[])
theorem afO:GZ.map told=some (asA (ax GZ)):=by kernel_rfl
theorem aEu:tree K4=WD:=aK afO
theorem aos:GZ=some K4:=aC afO
noncomputable def GV:Option PC:=aB {ctx with fr:=[2],nh:=[]} Tryz.f179 ((ab af 179).getD default) [1]
noncomputable def KY:PC:=aA GV
def WB:PT:=
 (.ret (.pick (aq kS (pi 0)) pT (aq kS (pi 1))))
def asw (b:Nat→PC):PT×List (Shp×PT):=(WB,[])
theorem afK:GV.map told=some (asw (ax GV)):=by kernel_rfl
theorem aEs:tree KY=WB:=aK afK
theorem aoo:GV=some KY:=aC afK
noncomputable def GX:Option PC:=aB {ctx with fr:=[6,7,13,16,24,33,8,9],nh:=[]} Tryz.f180 ((ab af 180).getD default) [3,4]
noncomputable def K0:PC:=aA GX
def uu:PT:=
 (.blockS ⟨[(12,(pc (.mk [r1]) 5))],[(4,(.mk [r1])),(3,(.mk [r0]))]⟩ 0 [6,7,13,14,16,17,24,25,33,34] []
 (.iteS ⟨[],[]⟩ (aq bW (pi 0)) [6,7,16,17,24,25,33,34] []
 (.ret (.tup [r2,(pi 0)]))
 (.iteS ⟨[],[]⟩ (aq bW (pi 1)) [6,7,24,25,33,34] []
 (.call ⟨[],[]⟩ [] 21 223 [r2,(.mk [(pc o4 5),(pc o4 6),(pc o4 7)])]
 (.ret (.tup [(.tget kq 0),(.tget kq 1)])))
 (.iteS ⟨[],[]⟩ (aq bW (pi 2)) [6,7,33,34] []
 (.call ⟨[],[]⟩ [] 30 223 [(pc o4 8),(.mk [(pc o4 5),(pc o4 6),(pc o4 7)])]
 (.ret (.tup [(.tget tU 0),(.tget tU 1)])))
 (.iteS ⟨[],[]⟩ (aq bW (pi 4)) [6,7] []
 (.call ⟨[],[]⟩ [] 41 185 [(au 8 o3),(pc o4 9),(pc o4 10)]
 (.ret (.tup [(aO (pc o4 8) (.tget qU 0)),(.tget qU 1)])))
 (.next ⟨[],[]⟩)
 (.next ⟨[],[]⟩))
 (.next ⟨[],[]⟩))
 (.next ⟨[],[]⟩))
 (.next ⟨[],[]⟩))
 (.ret (.tup [(pc o4 6),(pi 0)])))
def asy (b:Nat→PC):PT×List (Shp×PT):=(uu,[])
theorem afM:GX.map told=some (asy (ax GX)):=by kernel_rfl
theorem zN:tree K0=uu:=aK afM
theorem aoq:GX=some K0:=aC afM
noncomputable def GW:Option PC:=aB {ctx with fr:=[4,5],nh:=[]} Tryz.f223 ((ab af 223).getD default) [3]
noncomputable def KZ:PC:=aA GW
def zM:PT:=
 (.ite (.pick (aj y3 (pi 0)) pT (be y3 (pi 20000)))
 (.ret (.tup [(pi 0),(pi 3)]))
 (.iteS ⟨[],[(3,(.mk [r1]))]⟩ (aq (pc (.mk [r1]) 2) (pi 1)) [4,5] []
 (.call ⟨[],[]⟩ [] 20 267 [r0,(pc o3 1)]
 (.ret (.tup [(.tget eg 0),(.tget eg 1)])))
 (.next ⟨[],[]⟩)
 (.ret (.tup [(aO r0 (pc o3 1)),(pi 0)]))))
def asx (b:Nat→PC):PT×List (Shp×PT):=(zM,[])
theorem afL:GW.map told=some (asx (ax GW)):=by kernel_rfl
theorem MO:tree KZ=zM:=aK afL
theorem aop:GW=some KZ:=aC afL
noncomputable def F8:Option PC:=aB {ctx with fr:=[4,5,6,7,8,9],nh:=[]} Tryz.f267 ((ab af 267).getD default) []
noncomputable def Jo:PC:=aA F8
def MH:PT:=
 (.call ⟨[],[]⟩ [] 11 120 [r0]
 (.ite (.pick (.pick (.nt bu) pT (aj r1 (pi (-5000)))) pT (be r1 (pi 5000)))
 (.ret (.tup [(pi 0),(pi 3)]))
 (.call ⟨[],[]⟩ [] 23 201 [r0]
 (.chk (aU (pi 12) (pi 0))
 (.call ⟨[(41,(.tget jA 2)),(40,(aO (.ai .rem .i64 LD (pi 12)) (pi 1))),(39,(.ai .quo .i64 LD (pi 12)))],[]⟩ [] 44 288 [(.ai .quo .i64 LD (pi 12)),(aO (.ai .rem .i64 LD (pi 12)) (pi 1))]
 (.call ⟨[],[]⟩ [] 46 287 [D2,nU,(.mn qU tV)]
 (.ret (.tup [(.tget tW 0),(.tget tW 1)]))))))))
def aqK (b:Nat→PC):PT×List (Shp×PT):=(MH,[])
theorem aeX:F8.map told=some (aqK (ax F8)):=by kernel_rfl
theorem ah7:tree Jo=MH:=aK aeX
theorem amT:F8=some Jo:=aC aeX
noncomputable def Gf:Option PC:=aB {ctx with fr:=[2],nh:=[]} Tryz.f120 ((ab af 120).getD default) []
noncomputable def Jw:PC:=aA Gf
def Vg:PT:=
 (.ret (.pick (bJ (pi 0) r0) (bJ r0 (pi 100000)) pF))
def aqT (b:Nat→PC):PT×List (Shp×PT):=(Vg,[])
theorem ae4:Gf.map told=some (aqT (ax Gf)):=by kernel_rfl
theorem aCW:tree Jw=Vg:=aK ae4
theorem am2:Gf=some Jw:=aC ae4
noncomputable def Ga:Option PC:=aB {ctx with fr:=[2,3,4,5,6,7,8,9],nh:=[]} Tryz.f201 ((ab af 201).getD default) []
noncomputable def Jr:PC:=aA Ga
def Vc:PT:=
 (.chk (aU (pi 146097) (pi 0))
 (.chk (aU (pi 1460) (pi 0))
 (.chk (aU (pi 36524) (pi 0))
 (.chk (aU (pi 146096) (pi 0))
 (.chk (aU (pi 365) (pi 0))
 (.chk (aU (pi 4) (pi 0))
 (.chk zh
 (.chk (aU (pi 153) (pi 0))
 (.chk (aU (pi 5) (pi 0))
 (.ret (.tup [(.pick (aj agL (pi 3)) (aO agO (pi 1)) agO),agL,(aO (bD (bD (.ai .rem .i64 (aO r0 (pi 730425)) (pi 146097)) (bD (aO (.ai .mul .i64 (pi 365) wj) (.ai .quo .i64 wj (pi 4))) (.ai .quo .i64 wj (pi 100)))) (.ai .quo .i64 (aO (.ai .mul .i64 (pi 153) LH) (pi 2)) (pi 5))) (pi 1))])))))))))))
def aqN (b:Nat→PC):PT×List (Shp×PT):=(Vc,[])
theorem aeZ:Ga.map told=some (aqN (ax Ga)):=by kernel_rfl
theorem aCR:tree Jr=Vc:=aK aeZ
theorem amW:Ga=some Jr:=aC aeZ
noncomputable def Gc:Option PC:=aB {ctx with fr:=[4],nh:=[]} Tryz.f288 ((ab af 288).getD default) []
noncomputable def Jt:PC:=aA Gc
def MJ:PT:=
 (.ite (aq r1 (pi 12))
 (.ret (pi 31))
 (.call ⟨[],[]⟩ [] 10 299 [r0,(aO r1 (pi 1)),(pi 1)]
 (.call ⟨[],[]⟩ [] 13 299 [r0,r1,(pi 1)]
 (.ret (bD cR eH)))))
def aqQ (b:Nat→PC):PT×List (Shp×PT):=(MJ,[])
theorem ae1:Gc.map told=some (aqQ (ax Gc)):=by kernel_rfl
theorem aCU:tree Jt=MJ:=aK ae1
theorem amZ:Gc=some Jt:=aC ae1
noncomputable def Gd:Option PC:=aB {ctx with fr:=[6,0,1],nh:=[]} Tryz.f299 ((ab af 299).getD default) []
noncomputable def Ju:PC:=aA Gd
def MK:PT:=
 (.chk (aU (pi 4) (pi 0))
 (.chk zh
 (.chk (aU (pi 400) (pi 0))
 (.chk (aU (pi 5) (pi 0))
 (.ret (bD (bD (aO (aO (aO (bD (aO (.ai .mul .i64 (pi 365) LG) (.ai .quo .i64 LG (pi 4))) (.ai .quo .i64 LG (pi 100))) (.ai .quo .i64 LG (pi 400))) (.ai .quo .i64 (aO (.ai .mul .i64 (pi 153) (bD (.pick (aj r1 (pi 3)) (aO r1 (pi 12)) r1) (pi 3))) (pi 2)) (pi 5))) r2) (pi 1)) (pi 730425)))))))
def aqR (b:Nat→PC):PT×List (Shp×PT):=(MK,[])
theorem ae2:Gd.map told=some (aqR (ax Gd)):=by kernel_rfl
theorem ah8:tree Ju=MK:=aK ae2
theorem am0:Gd=some Ju:=aC ae2
noncomputable def F9:Option PC:=aB {ctx with fr:=[6,7,8],nh:=[]} Tryz.f287 ((ab af 287).getD default) []
noncomputable def Jp:PC:=aA F9
def zL:PT:=
 (.call ⟨[(28,r2),(27,(.pick (.pick (.pick (.pick (aj r0 (pi 2000)) pT (be r0 (pi 2300))) pT (aj r1 (pi 1))) pT (be r1 (pi 12))) pT (aj r2 (pi 1))))],[]⟩ [(27,false)] 31 288 [r0,r1]
 (.ite (.pick fh pT (be qQ qT))
 (.ret (.tup [(pi 0),(pi 3)]))
 (.call ⟨[],[]⟩ [] 37 299 [r0,r1,r2]
 (.call ⟨[(8,lW)],[]⟩ [] 39 120 [lW]
 (.ite (.nt D2)
 (.ret (.tup [(pi 0),(pi 3)]))
 (.ret (.tup [r8,(pi 0)])))))))
def aqL (b:Nat→PC):PT×List (Shp×PT):=(zL,[])
theorem aeY:F9.map told=some (aqL (ax F9)):=by kernel_rfl
theorem MI:tree Jp=zL:=aK aeY
theorem amU:F9=some Jp:=aC aeY
noncomputable def Bi:Option PC:=aB {ctx with fr:=[6,7],nh:=[]} Tryz.f185 ((ab af 185).getD default) [3,9]
noncomputable def Kt:PC:=aA Bi
noncomputable def NZ:Nat→PC:=bE Bi
def axu (b:Nat→PC):PC:=.block 0 [6,7,13,14] [] (.loop [6,7,13] [] (b 0))
def Ev (b:Nat→PC):PT:=
 (.ite (aj eH bW)
 (.chk (av bu eH)
 (.ite (.pick (aq (pc (.setc z3 0 (pn bu eH)) 0) r1) (aq (pc (.setc z3 0 (pn bu eH)) 1) r2) pF)
 (.ret (.tup [(pc (.setc z3 0 (pn bu eH)) 2),(pi 0)]))
 (.next ⟨[(13,(aO eH (pi 1)))],[]⟩)))
 (.exit 0 ⟨[(14,(aj eH bW))],[]⟩))
def V9 (b:Nat→PC):PT:=
 (.brk ⟨[(13,(pi 0)),(12,(.llen wx)),(11,wx),(7,(pi 0)),(6,(pi 0))],[]⟩
(axu b)
 (.ret (.tup [(pi 0),(pi 4)])))
def arW (b:Nat→PC):PT×List (Shp×PT):=(V9 b,[(.lp 0 [6,7,13,14] [] [6,7,13] [],Ev b)])
theorem Sr:Bi.map told=some (arW (ax Bi)):=by kernel_rfl
theorem aDV:tree Kt=V9 NZ:=aK Sr
theorem T8:round 0 [6,7,13,14] [] [6,7,13] [] (NZ 0)=Ev NZ:=bq Sr 0 fun _=>rfl
theorem anY:Bi=some Kt:=aC Sr
noncomputable def BE:Option PC:=aB {ctx with fr:=[6,7,8,2,9,10],nh:=[]} Tryz.f181 ((ab af 181).getD default) [3]
noncomputable def K5:PC:=aA BE
noncomputable def Oc:Nat→PC:=bE BE
def ax1 (b:Nat→PC):PC:=.block 0 [] [] (.loop [2,6,7] [] (b 0))
def Ut (b:Nat→PC):PT:=
 (.blockS ⟨[],[]⟩ 1 [2,6,7,9,10,14,15,16,17,18,19,20,21,22,23,24,25,26,27,28,29,30,31,32,34] []
 (.call ⟨[],[]⟩ [] 17 224 [(au 8 o3),r8,r2]
 (.chk (av (pc o3 1) r1)
 (.call ⟨[(2,kp)],[]⟩ [] 25 225 [(pn (pc o3 1) r1),kp]
 (.ite (aU (.tget gR 1) (pi 0))
 (.ret (.tup [(pi 0),(pi 3)]))
 (.ite (aq (.tget gR 0) r2)
 (.ret (.tup [r2,(pi 0)]))
 (.next ⟨[(2,(.tget gR 0))],[]⟩))))))
 (.next ⟨[],[]⟩))
def WE (b:Nat→PC):PT:=
 (.call ⟨[(7,(pi 0)),(6,(pi 0))],[(3,(.mk [r0]))]⟩ [] 13 32 [km,r1]
 (.brk ⟨[(8,eH)],[]⟩
(ax1 b)
 (.next ⟨[],[]⟩)))
def asB (b:Nat→PC):PT×List (Shp×PT):=(WE b,[(.lp 0 [] [] [2,6,7] [],Ut b)])
theorem SG:BE.map told=some (asB (ax BE)):=by kernel_rfl
theorem aEv:tree K5=WE Oc:=aK SG
theorem aBw:round 0 [] [] [2,6,7] [] (Oc 0)=Ut Oc:=bq SG 0 fun _=>rfl
theorem aot:BE=some K5:=aC SG
noncomputable def BF:Option PC:=aB {ctx with fr:=[6,7,2],nh:=[]} Tryz.f224 ((ab af 224).getD default) [3,9]
noncomputable def K6:PC:=aA BF
noncomputable def AD:Nat→PC:=bE BF
def ax2 (b:Nat→PC):PC:=.block 2 [2,7,14,15] [] (.loop [2,7,14] [] (b 0))
def ax3 (b:Nat→PC):PC:=.block 0 [2,7,10] [] (.loop [2,7] [] (b 1))
def zx (b:Nat→PC):PT:=
 (.ite sk
 (.chk (av bW du)
 (.next ⟨[(2,(.pick agN (aO (pc zf 2) (pi 1)) r2)),(7,(.pick agN pT r7)),(14,y5)],[]⟩))
 (.exit 2 ⟨[(15,sk)],[]⟩))
def Mh (b:Nat→PC):PT:=
 (.ite r7
 (.blockS ⟨[(10,r7)],[]⟩ 1 [2,7,11,12,13,14,15] []
 (.brk ⟨[(14,(pi 0)),(13,(.llen (pc o3 7))),(12,(pc o3 7)),(7,pF)],[]⟩
(ax2 b)
 (.next ⟨[],[]⟩))
 (.next ⟨[],[]⟩))
 (.exit 0 ⟨[(10,r7)],[]⟩))
def WG (b:Nat→PC):PT:=
 (.brk ⟨[(7,pT)],[(3,(.mk [r0]))]⟩
(ax3 b)
 (.ret r2))
def asC (b:Nat→PC):PT×List (Shp×PT):=(WG b,[(.lp 2 [2,7,14,15] [] [2,7,14] [],zx b),(.lp 0 [2,7,10] [] [2,7] [],Mh b)])
theorem I7:BF.map told=some (asC (ax BF)):=by kernel_rfl
theorem aEw:tree K6=WG AD:=aK I7
theorem Mg:round 2 [2,7,14,15] [] [2,7,14] [] (AD 0)=zx AD:=bq I7 0 fun _=>rfl
theorem ahi:round 0 [2,7,10] [] [2,7] [] (AD 1)=Mh AD:=bq I7 1 fun _=>rfl
theorem aou:BF=some K6:=aC I7
noncomputable def AM:Option PC:=aB {ctx with fr:=[6],nh:=[]} Tryz.f225 ((ab af 225).getD default) [2,4,5]
noncomputable def Jq:PC:=aA AM
noncomputable def ND:Nat→PC:=bE AM
def apS (b:Nat→PC):PC:=.each gQ [16] [4,5] (some (.tup [(pc o4 0),(pc o5 0)])) (b 0)
def TH (b:Nat→PC):PT:=
 (.exit 1000000007 ⟨[],[(4,(.setc o4 0 dJ)),(5,(.setc o5 0 (pi 0)))]⟩)
def Vb (b:Nat→PC):PT:=
 (.call ⟨[],[(5,DS),(4,DS),(2,(.mk [r0]))]⟩ [] 8 120 [r1]
 (.ite (.nt r8)
 (.ret (.tup [(pc (.setc o4 0 (pi 0)) 0),(pc (.setc o5 0 (pi 3)) 0)]))
 (.call ⟨[],[]⟩ [] 15 268 [(au 6 o2),r1,(.mn (aO r1 (pi 400)) (pi 100000))]
 (.blockS ⟨[],[]⟩ 0 [] [4,5]
 (.callc ⟨[],[]⟩ [] 18 gP []
 (.brk ⟨[],[]⟩
(apS b)
 (.next ⟨[],[]⟩)))
 (.ret (.tup [(pc (.setc o4 0 (pi 0)) 0),(pc (.setc o5 0 (pi 3)) 0)]))))))
def aqM (b:Nat→PC):PT×List (Shp×PT):=(Vb b,[(.ea [4,5],TH b)])
theorem R5:AM.map told=some (aqM (ax AM)):=by kernel_rfl
theorem aCQ:tree Jq=Vb ND:=aK R5
theorem aBm:pR [4,5] (ND 0)=TH ND:=UZ R5 0 fun _=>rfl
theorem amV:AM=some Jq:=aC R5
noncomputable def Gb:Option PC:=aB {ctx with fr:=[6],nh:=[]} Tryz.f268 ((ab af 268).getD default) [3,4,5]
noncomputable def Js:PC:=aA Gb
def Vd:PT:=
 (.ret (.clo 289 [(.ref y4),(.ref (pc (.mk [r2]) 0)),(.ref (au 6 (.mk [r0])))]))
def aqO (b:Nat→PC):PT×List (Shp×PT):=(Vd,[])
theorem ae0:Gb.map told=some (aqO (ax Gb)):=by kernel_rfl
theorem aCT:tree Js=Vd:=aK ae0
theorem amY:Gb=some Js:=aC ae0
noncomputable def xo:Option PC:=BO {ctx with fr:=[5],nh:=[]} Tryz.f289 [(.ref I),(.ref I),(.ref Y0)] [I] 1000 [1000]
noncomputable def DH:PC:=aA xo
noncomputable def NF:Nat→PC:=bE xo
def awU (b:Nat→PC):PC:=.block 0 [5,7,8,9] [1000] (.loop [5] [1000] (b 0))
def LV (b:Nat→PC):PT:=
 (.ite (bJ r5 (.deref r2))
 (.blockS ⟨[],[]⟩ 1 [12,13,14,15,20] [1000]
 (.call ⟨[],[]⟩ [] 14 121 [(.deref r3),r5]
 (.call ⟨[(15,du)],[(1000,agK)]⟩ [(15,true)] 18 1000000009 [agK]
 (.ite (.pick gP (.nt gQ) pF)
 (.ret (.o 1000))
 (.next ⟨[],[]⟩))))
 (.next ⟨[(5,pG)],[]⟩))
 (.exit 0 ⟨[(7,r5),(8,(.deref r2)),(9,(bJ r5 (.deref r2)))],[]⟩))
def Ve (b:Nat→PC):PT:=
 (.brk ⟨[(5,(.deref r1))],[]⟩
(awU b)
 (.ret (.o 1000)))
def aqP (b:Nat→PC):PT×List (Shp×PT):=(Ve b,[(.lp 0 [5,7,8,9] [1000] [5] [1000],LV b)])
theorem R6:xo.map told=some (aqP (ax xo)):=by kernel_rfl
theorem aCS:tree DH=Ve NF:=aK R6
theorem ag4:round 0 [5,7,8,9] [1000] [5] [1000] (NF 0)=LV NF:=bq R6 0 fun _=>rfl
theorem amX:xo=some DH:=aC R6
theorem aoC:∀yv,BO {ctx with fr:=[5],nh:=[],yv:=yv} Tryz.f289 [(.ref I),(.ref I),(.ref Y0)] [I] 1000 [1000]=some DH:=fun yv=>(show _=xo by kernel_rfl).trans amX
noncomputable def Ge:Option PC:=aB {ctx with fr:=[4,5,6,7],nh:=[]} Tryz.f121 ((ab af 121).getD default) [2]
noncomputable def Jv:PC:=aA Ge
def Vf:PT:=
 (.call ⟨[],[(2,(.mk [r0]))]⟩ [] 10 201 [r1]
 (.chk (aU (pi 7) (pi 0))
 (.call ⟨[(7,(.tget cR 2)),(6,(.tget cR 1))],[]⟩ [] 19 94 [(pc o2 3),(.ai .rem .i64 (aO r1 (pi 5)) (pi 7))]
 (.call ⟨[(21,(.nt gj))],[]⟩ [(21,true)] 28 94 [(pc o2 4),(aO (.ai .mul .i64 (pi 100) r6) r7)]
 (.call ⟨[(31,(.pick kq (.nt qQ) pF))],[]⟩ [(31,true)] 35 94 [(pc o2 5),r1]
 (.ret (.pick qT (.nt wA) pF)))))))
def aqS (b:Nat→PC):PT×List (Shp×PT):=(Vf,[])
theorem ae3:Ge.map told=some (aqS (ax Ge)):=by kernel_rfl
theorem aCV:tree Jv=Vf:=aK ae3
theorem am1:Ge=some Jv:=aC ae3
noncomputable def Gp:Option PC:=aB {ctx with fr:=[4],nh:=[]} Tryz.f27 ((ab af 27).getD default) [2,3]
noncomputable def JH:PC:=aA Gp
def Vq:PT:=
 (.call ⟨[],[(2,(.mk [r0]))]⟩ [] 7 53 [km,(au 19 (.mk [r1]))]
 (.call ⟨[(8,r7)],[]⟩ [(8,true)] 10 62 [(au 8 o2)]
 (.ret (.pick r8 (aq cR (pi 0)) pF))))
def aq5 (b:Nat→PC):PT×List (Shp×PT):=(Vq,[])
theorem afb:Gp.map told=some (aq5 (ax Gp)):=by kernel_rfl
theorem aC9:tree JH=Vq:=aK afb
theorem anf:Gp=some JH:=aC afb
noncomputable def Bf:Option PC:=aB {ctx with fr:=[4,5],nh:=[]} Tryz.f53 ((ab af 53).getD default) [2,3]
noncomputable def Kk:PC:=aA Bf
noncomputable def NW:Nat→PC:=bE Bf
def axr (b:Nat→PC):PC:=.block 0 [4,5,14,15,16,17,18] [] (.loop [4,5] [] (b 0))
def Et (b:Nat→PC):PT:=
 (.ite (aj r5 (.llen (pc o2 4)))
 (.blockS ⟨[],[]⟩ 1 [4,21,22,23,24,25,26,27] []
 (.chk (av (pc o2 4) r5)
 (.call ⟨[],[]⟩ [] 26 128 [(pn (pc o2 4) r5)]
 (.ite (.nt kU)
 (.ret pF)
 (.next ⟨[],[]⟩))))
 (.next ⟨[(5,pG)],[]⟩))
 (.exit 0 ⟨[(14,r5),(15,pN),(16,(pc o2 4)),(17,(.llen (pc o2 4))),(18,(aj r5 (.llen (pc o2 4))))],[]⟩))
def V1 (b:Nat→PC):PT:=
 (.call ⟨[(4,pF)],[(3,(.mk [r1])),(2,(.mk [r0]))]⟩ [] 7 58 [km]
 (.call ⟨[(9,(.nt r7))],[]⟩ [(9,false)] 11 127 [(au 19 o3)]
 (.ite (.pick r9 pT (.nt bu))
 (.ret pF)
 (.brk ⟨[(5,(pi 0))],[]⟩
(axr b)
 (.ret pT)))))
def arO (b:Nat→PC):PT×List (Shp×PT):=(V1 b,[(.lp 0 [4,5,14,15,16,17,18] [] [4,5] [],Et b)])
theorem So:Bf.map told=some (arO (ax Bf)):=by kernel_rfl
theorem aDN:tree Kk=V1 NW:=aK So
theorem T6:round 0 [4,5,14,15,16,17,18] [] [4,5] [] (NW 0)=Et NW:=bq So 0 fun _=>rfl
theorem anQ:Bf=some Kk:=aC So
noncomputable def A0:Option PC:=aB {ctx with fr:=[2,3,4],nh:=[]} Tryz.f58 ((ab af 58).getD default) [1]
noncomputable def J0:PC:=aA A0
noncomputable def Ap:Nat→PC:=bE A0
def aw5 (b:Nat→PC):PC:=.block 0 [2,3,5,6,7,8,9,10,13] [] (.loop [2,3] [] (b 0))
def aw6 (b:Nat→PC):PC:=.block 2 [2,4,44,45,46,47,48,49,52] [] (.loop [2,4] [] (b 1))
def wE (b:Nat→PC):PT:=
 (.ite (.pick (aj r3 kT) (aj r3 (pi 50)) pF)
 (.chk (av (pc o1 1) r3)
 (.chk (.nt (.an (.an (.nt (be (.llen (pc (pn (pc o1 1) r3) 4)) (pi 70))) pT) (.nt (av (pc o1 1) r3))))
 (.chk (.nt (.an (.an (.nt agF) pT) (.nt (av (pc o1 1) r3))))
 (.ite (.pick agF pT (be (.llen (pc (pn (pc o1 1) r3) 3)) (pi 8)))
 (.ret pF)
 (.next ⟨[(3,qN)],[]⟩)))))
 (.exit 0 ⟨[(5,r3),(6,pN),(7,(pc o1 1)),(8,kT),(9,(aj r3 kT)),(10,(aj r3 kT)),(13,(.pick (aj r3 kT) (aj r3 (pi 50)) pF))],[]⟩))
def zo (b:Nat→PC):PT:=
 (.ite (.pick (aj r4 nS) (aj r4 (pi 50)) pF)
 (.chk (av (pc o1 4) r4)
 (.chk (.nt (.an (.an (.nt (be (.llen (pc wv 2)) (pi 40))) pT) (.nt (av (pc o1 4) r4))))
 (.ite (.pick (be (.llen (pc wv 2)) (pi 40)) pT (be (.llen (pc wv 3)) (pi 40)))
 (.ret pF)
 (.next ⟨[(4,(aO r4 (pi 1)))],[]⟩))))
 (.exit 2 ⟨[(44,r4),(45,pN),(46,(pc o1 4)),(47,nS),(48,(aj r4 nS)),(49,(aj r4 nS)),(52,(.pick (aj r4 nS) (aj r4 (pi 50)) pF))],[]⟩))
def VI (b:Nat→PC):PT:=
 (.brk ⟨[(3,(pi 0)),(2,pF)],[(1,(.mk [r0]))]⟩
(aw5 b)
 (.brk ⟨[(4,(pi 0))],[]⟩
(aw6 b)
 (.ret (.pick (.pick (.pick (.pick (.pick (.pick (.pick (aj tS (pi 50)) (aj kT (pi 50)) pF) (aj qM (pi 50)) pF) (aj mU (pi 210)) pF) (aj nS (pi 50)) pF) (aj y6 (pi 110)) pF) (aj (.llen (pc o1 6)) (pi 110)) pF) (aj wz (pi 50)) pF))))
def art (b:Nat→PC):PT×List (Shp×PT):=(VI b,[(.lp 0 [2,3,5,6,7,8,9,10,13] [] [2,3] [],wE b),(.lp 2 [2,4,44,45,46,47,48,49,52] [] [2,4] [],zo b)])
theorem IU:A0.map told=some (art (ax A0)):=by kernel_rfl
theorem aDu:tree J0=VI Ap:=aK IU
theorem Ec:round 0 [2,3,5,6,7,8,9,10,13] [] [2,3] [] (Ap 0)=wE Ap:=bq IU 0 fun _=>rfl
theorem L1:round 2 [2,4,44,45,46,47,48,49,52] [] [2,4] [] (Ap 1)=zo Ap:=bq IU 1 fun _=>rfl
theorem anv:A0=some J0:=aC IU
noncomputable def GD:Option PC:=aB {ctx with fr:=[2],nh:=[]} Tryz.f127 ((ab af 127).getD default) [1]
noncomputable def Ke:PC:=aA GD
def VW:PT:=
 (.ret (.pick (.pick (.pick (bJ (.llen qL) (pi 50)) (bJ (.llen (pc (.mk [r0]) 16)) (pi 10)) pF) (bJ (.llen (pc (.mk [r0]) 17)) (pi 110)) pF) (bJ (.llen (pc (.mk [r0]) 18)) (pi 220)) pF))
def arH (b:Nat→PC):PT×List (Shp×PT):=(VW,[])
theorem afs:GD.map told=some (arH (ax GD)):=by kernel_rfl
theorem aDI:tree Ke=VW:=aK afs
theorem anK:GD=some Ke:=aC afs
noncomputable def Be:Option PC:=aB {ctx with fr:=[2,3],nh:=[]} Tryz.f128 ((ab af 128).getD default) [1]
noncomputable def Kj:PC:=aA Be
noncomputable def NV:Nat→PC:=bE Be
def axq (b:Nat→PC):PC:=.block 0 [2,3,14,15,16,17,18] [] (.loop [2,3] [] (b 0))
def Es (b:Nat→PC):PT:=
 (.ite (aj r3 mU)
 (.blockS ⟨[],[]⟩ 1 [2,21,22,23,24,25,26,27,28] []
 (.chk (av (pc o1 3) r3)
 (.call ⟨[],[]⟩ [] 27 203 [(.sub (pn (pc o1 3) r3) 1 3)]
 (.ite (.nt fh)
 (.ret pF)
 (.next ⟨[],[]⟩))))
 (.next ⟨[(3,qN)],[]⟩))
 (.exit 0 ⟨[(14,r3),(15,pN),(16,(pc o1 3)),(17,mU),(18,(aj r3 mU))],[]⟩))
def V0 (b:Nat→PC):PT:=
 (.ite (.pick (be (.llen (pc (.mk [r0]) 3)) (pi 60)) pT (be pI (pi 60)))
 (.ret pF)
 (.brk ⟨[(3,(pi 0)),(2,pF)],[(1,(.mk [r0]))]⟩
(axq b)
 (.ret pT)))
def arN (b:Nat→PC):PT×List (Shp×PT):=(V0 b,[(.lp 0 [2,3,14,15,16,17,18] [] [2,3] [],Es b)])
theorem Sn:Be.map told=some (arN (ax Be)):=by kernel_rfl
theorem aDM:tree Kj=V0 NV:=aK Sn
theorem T5:round 0 [2,3,14,15,16,17,18] [] [2,3] [] (NV 0)=Es NV:=bq Sn 0 fun _=>rfl
theorem anP:Be=some Kj:=aC Sn
noncomputable def GF:Option PC:=aB {ctx with fr:=[2],nh:=[]} Tryz.f203 ((ab af 203).getD default) [1]
noncomputable def Kg:PC:=aA GF
def VY:PT:=
 (.call ⟨[],[]⟩ [] 4 243 [Lz,(pi 100),(pi 20)]
 (.ret (bL r4 (pi 0))))
def arK (b:Nat→PC):PT×List (Shp×PT):=(VY,[])
theorem afu:GF.map told=some (arK (ax GF)):=by kernel_rfl
theorem aDK:tree Kg=VY:=aK afu
theorem anM:GF=some Kg:=aC afu
noncomputable def Bd:Option PC:=aB {ctx with fr:=[6,1,7],nh:=[]} Tryz.f243 ((ab af 243).getD default) [3]
noncomputable def Ki:PC:=aA Bd
noncomputable def NU:Nat→PC:=bE Bd
def axp (b:Nat→PC):PC:=.block 0 [1,7,12,13,14,15,16,17,20] [] (.loop [1,7] [] (b 0))
def Er (b:Nat→PC):PT:=
 (.ite (.pick (aj r7 nR) (bL r1 (pi 0)) pF)
 (.blockS ⟨[],[]⟩ 1 [1,23,24,25,26,27,28,29,30,31] []
 (.chk (av (pc o3 2) r7)
 (.call ⟨[],[]⟩ [] 31 243 [(pn (pc o3 2) r7),r1,(bD r2 (pi 1))]
 (.next ⟨[(1,qT)],[]⟩)))
 (.next ⟨[(7,(aO r7 (pi 1)))],[]⟩))
 (.exit 0 ⟨[(12,r7),(13,pN),(14,(pc o3 2)),(15,nR),(16,(aj r7 nR)),(17,(aj r7 nR)),(20,(.pick (aj r7 nR) (bL r1 (pi 0)) pF))],[]⟩))
def MM (b:Nat→PC):PT:=
 (.ite (aj r2 (pi 1))
 (.ret (pi (-1)))
 (.brk ⟨[(7,(pi 0)),(1,(bD r1 (pi 1)))],[(3,(.mk [r0]))]⟩
(axp b)
 (.ret r1)))
def arM (b:Nat→PC):PT×List (Shp×PT):=(MM b,[(.lp 0 [1,7,12,13,14,15,16,17,20] [] [1,7] [],Er b)])
theorem Sm:Bd.map told=some (arM (ax Bd)):=by kernel_rfl
theorem ah9:tree Ki=MM NU:=aK Sm
theorem T4:round 0 [1,7,12,13,14,15,16,17,20] [] [1,7] [] (NU 0)=Er NU:=bq Sm 0 fun _=>rfl
theorem anO:Bd=some Ki:=aC Sm
noncomputable def Gz:Option PC:=aB {ctx with fr:=[2,3],nh:=[]} Tryz.f62 ((ab af 62).getD default) [1]
noncomputable def JZ:PC:=aA Gz
def VH:PT:=
 (.call ⟨[],[(1,(.mk [r0]))]⟩ [] 5 145 [km]
 (.iteS ⟨[(3,r5)],[]⟩ (aq r5 (pi 0)) [3] []
 (.call ⟨[],[]⟩ [] 9 146 [(au 8 o1)]
 (.next ⟨[(3,r9)],[]⟩))
 (.next ⟨[],[]⟩)
 (.iteS ⟨[],[]⟩ (aq r3 (pi 0)) [3] []
 (.call ⟨[],[]⟩ [] 13 147 [(au 8 o1)]
 (.next ⟨[(3,eH)],[]⟩))
 (.next ⟨[],[]⟩)
 (.iteS ⟨[],[]⟩ (aq r3 (pi 0)) [3] []
 (.call ⟨[],[]⟩ [] 17 148 [(au 8 o1)]
 (.next ⟨[(3,kp)],[]⟩))
 (.next ⟨[],[]⟩)
 (.iteS ⟨[],[]⟩ (aq r3 (pi 0)) [3] []
 (.call ⟨[],[]⟩ [] 21 149 [(au 8 o1)]
 (.next ⟨[(3,kq)],[]⟩))
 (.next ⟨[],[]⟩)
 (.ret r3))))))
def ars (b:Nat→PC):PT×List (Shp×PT):=(VH,[])
theorem afo:Gz.map told=some (ars (ax Gz)):=by kernel_rfl
theorem aDt:tree JZ=VH:=aK afo
theorem anu:Gz=some JZ:=aC afo
noncomputable def A5:Option PC:=aB {ctx with fr:=[2,3,4,6,7],nh:=[]} Tryz.f145 ((ab af 145).getD default) [1,5,44]
noncomputable def J7:PC:=aA A5
noncomputable def Ar:Nat→PC:=bE A5
def axc (b:Nat→PC):PC:=.block 0 [2,3,12,13,14,15,16] [] (.loop [2,3] [] (b 0))
def axd (b:Nat→PC):PC:=.block 2 [2,5,6,30,31,32,33,34] [5] (.loop [2,5,6] [5] (b 1))
def Ei (b:Nat→PC):PT:=
 (.ite (aj r3 tS)
 (.blockS ⟨[],[]⟩ 1 [2,4,19,20,21,22,23,24] []
 (.call ⟨[],[]⟩ [] 22 208 [(pc o1 0),r3]
 (.ite (aU D0 (pi 0))
 (.ret D0)
 (.next ⟨[],[]⟩)))
 (.next ⟨[(3,qN)],[]⟩))
 (.exit 0 ⟨[(12,r3),(13,pN),(14,(pc o1 0)),(15,tS),(16,(aj r3 tS))],[]⟩))
def Ej (b:Nat→PC):PT:=
 (.ite (aj r6 kT)
 (.blockS ⟨[],[]⟩ 3 [2,5,7,38,39,40,41,42,43,44,45,46,47,48,49,50,52,53,54,55,56,57,58,59] [44,5]
 (.chk (av (pc o1 1) r6)
 (.chk (bJ (.llen Tt) cK)
 (.call ⟨[(5,pN)],[(5,Tt)]⟩ [] 48 208 [Tt,r6]
 (.ite (aU lX (pi 0))
 (.ret lX)
 (.chk (av (pc o1 1) r6)
 (.call ⟨[],[]⟩ [] 58 209 [(au 8 o1),(pn (pc o1 1) r6)]
 (.ite (.nt D3)
 (.ret (pi 1))
 (.next ⟨[],[]⟩))))))))
 (.next ⟨[(6,(aO r6 (pi 1)))],[]⟩))
 (.exit 2 ⟨[(30,r6),(31,pN),(32,(pc o1 1)),(33,kT),(34,(aj r6 kT))],[]⟩))
def VP (b:Nat→PC):PT:=
 (.ite (be (.llen kS) (pi 8))
 (.ret (pi 6))
 (.brk ⟨[(3,(pi 0)),(2,(pi 0))],[(1,(.mk [r0]))]⟩
(axc b)
 (.ite (be kT (pi 40))
 (.ret (pi 6))
 (.brk ⟨[(6,(pi 0)),(5,pN)],[(5,pL)]⟩
(axd b)
 (.ret (pi 0))))))
def arA (b:Nat→PC):PT×List (Shp×PT):=(VP b,[(.lp 0 [2,3,12,13,14,15,16] [] [2,3] [],Ei b),(.lp 2 [2,5,6,30,31,32,33,34] [5] [2,5,6] [5],Ej b)])
theorem IW:A5.map told=some (arA (ax A5)):=by kernel_rfl
theorem aDB:tree J7=VP Ar:=aK IW
theorem TU:round 0 [2,3,12,13,14,15,16] [] [2,3] [] (Ar 0)=Ei Ar:=bq IW 0 fun _=>rfl
theorem TV:round 2 [2,5,6,30,31,32,33,34] [5] [2,5,6] [5] (Ar 1)=Ej Ar:=bq IW 1 fun _=>rfl
theorem anD:A5=some J7:=aC IW
noncomputable def GC:Option PC:=aB {ctx with fr:=[4],nh:=[]} Tryz.f208 ((ab af 208).getD default) []
noncomputable def J9:PC:=aA GC
def VR:PT:=
 (.chk (av r0 r1)
 (.call ⟨[],[]⟩ [] 9 257 [(pn r0 r1)]
 (.ite (.nt r9)
 (.ret (pi 2))
 (.chk (av r0 r1)
 (.call ⟨[],[]⟩ [] 17 258 [r0,r1,(pn r0 r1)]
 (.ite kp
 (.ret (pi 5))
 (.ret (pi 0))))))))
def arC (b:Nat→PC):PT×List (Shp×PT):=(VR,[])
theorem afr:GC.map told=some (arC (ax GC)):=by kernel_rfl
theorem aDD:tree J9=VR:=aK afr
theorem anF:GC=some J9:=aC afr
noncomputable def A1:Option PC:=aB {ctx with fr:=[2,3,4],nh:=[]} Tryz.f257 ((ab af 257).getD default) []
noncomputable def J2:PC:=aA A1
noncomputable def NO:Nat→PC:=bE A1
def aw7 (b:Nat→PC):PC:=.block 0 [2,3,13,14,15,16] [] (.loop [2,3] [] (b 0))
def Ed (b:Nat→PC):PT:=
 (.ite (aj r3 (.slen r0))
 (.blockS ⟨[],[]⟩ 1 [2,4,19,20,21,22,23,34,35,36,37,38,39,40,47] []
 (.chk (.sok r0 r3)
 (.chk (.nt (.an (.an (.nt Ts) pT) (.nt (.sok r0 r3))))
 (.chk (.nt (.an (.an (bJ (.con (.v (.int .u8 48))) (.sidx r0 r3)) (.an (.nt Ts) pT)) (.nt (.sok r0 r3))))
 (.call ⟨[(4,(.pick Ts pT (.pick (bJ (.con (.v (.int .u8 48))) (.sidx r0 r3)) (bJ (.sidx r0 r3) (.con (.v (.int .u8 57)))) pF)))],[]⟩ [] 38 285 [(.sidx r0 r3)]
 (.ite (.pick (.nt fE) (.pick (aq r3 (pi 0)) pT (.nt r4)) pF)
 (.ret pF)
 (.next ⟨[],[]⟩))))))
 (.next ⟨[(3,qN)],[]⟩))
 (.exit 0 ⟨[(13,r3),(14,r0),(15,(.slen r0)),(16,(aj r3 (.slen r0)))],[]⟩))
def VK (b:Nat→PC):PT:=
 (.ite (.pick (aj (.slen r0) (pi 1)) pT (be (.slen r0) (pi 20)))
 (.ret pF)
 (.brk ⟨[(3,(pi 0)),(2,pF)],[]⟩
(aw7 b)
 (.ret pT)))
def arv (b:Nat→PC):PT×List (Shp×PT):=(VK b,[(.lp 0 [2,3,13,14,15,16] [] [2,3] [],Ed b)])
theorem Sf:A1.map told=some (arv (ax A1)):=by kernel_rfl
theorem aDw:tree J2=VK NO:=aK Sf
theorem TO:round 0 [2,3,13,14,15,16] [] [2,3] [] (NO 0)=Ed NO:=bq Sf 0 fun _=>rfl
theorem anx:A1=some J2:=aC Sf
noncomputable def GA:Option PC:=aB {ctx with fr:=[2],nh:=[]} Tryz.f285 ((ab af 285).getD default) []
noncomputable def J1:PC:=aA GA
def VJ:PT:=
 (.ret (.pick (.pick (bJ (.con (.v (.int .u8 97))) r0) (bJ r0 (.con (.v (.int .u8 122)))) pF) pT (.pick (bJ (.con (.v (.int .u8 65))) r0) (bJ r0 (.con (.v (.int .u8 90)))) pF)))
def aru (b:Nat→PC):PT×List (Shp×PT):=(VJ,[])
theorem afp:GA.map told=some (aru (ax GA)):=by kernel_rfl
theorem aDv:tree J1=VJ:=aK afp
theorem anw:GA=some J1:=aC afp
noncomputable def AZ:Option PC:=aB {ctx with fr:=[6,7],nh:=[]} Tryz.f258 ((ab af 258).getD default) []
noncomputable def JY:PC:=aA AZ
noncomputable def NN:Nat→PC:=bE AZ
def aw4 (b:Nat→PC):PC:=.block 0 [6,7,8,9,10,11,16] [] (.loop [6,7] [] (b 0))
def Eb (b:Nat→PC):PT:=
 (.ite (.pick (aj r7 r1) (aj r7 (.llen r0)) pF)
 (.chk (av r0 r7)
 (.ite (.cs .eql (pn r0 r7) r2)
 (.ret pT)
 (.next ⟨[(7,(aO r7 (pi 1)))],[]⟩)))
 (.exit 0 ⟨[(8,r7),(9,r1),(10,(aj r7 r1)),(11,(aj r7 r1)),(16,(.pick (aj r7 r1) (aj r7 (.llen r0)) pF))],[]⟩))
def VG (b:Nat→PC):PT:=
 (.brk ⟨[(7,(pi 0)),(6,pF)],[]⟩
(aw4 b)
 (.ret pF))
def arq (b:Nat→PC):PT×List (Shp×PT):=(VG b,[(.lp 0 [6,7,8,9,10,11,16] [] [6,7] [],Eb b)])
theorem Se:AZ.map told=some (arq (ax AZ)):=by kernel_rfl
theorem aDs:tree JY=VG NN:=aK Se
theorem TN:round 0 [6,7,8,9,10,11,16] [] [6,7] [] (NN 0)=Eb NN:=bq Se 0 fun _=>rfl
theorem ant:AZ=some JY:=aC Se
noncomputable def A2:Option PC:=aB {ctx with fr:=[4,5],nh:=[]} Tryz.f209 ((ab af 209).getD default) [2,3]
noncomputable def J3:PC:=aA A2
noncomputable def NP:Nat→PC:=bE A2
def aw8 (b:Nat→PC):PC:=.block 0 [4,5,36,37,38,39,40] [] (.loop [4,5] [] (b 0))
def Ee (b:Nat→PC):PT:=
 (.ite (aj r5 (.llen (pc o3 4)))
 (.blockS ⟨[],[]⟩ 1 [4,43,44,45,46,47,48,49,50,51,60] []
 (.chk (av (pc o3 4) r5)
 (.chk zh
 (.call ⟨[],[]⟩ [] 49 210 [(.ai .quo .i64 (pn (pc o3 4) r5) (pi 100)),(pi 1),(pi 12)]
 (.chk (.nt (.an (.an (.nt (.nt kV)) pT) (.nt (av (pc o3 4) r5))))
 (.chk (.nt (.an (.an (.nt (.nt kV)) pT) (.nt zh)))
 (.call ⟨[(51,(.nt kV))],[]⟩ [(51,false)] 58 210 [(.ai .rem .i64 (pn (pc o3 4) r5) (pi 100)),(pi 1),(pi 31)]
 (.ite (.pick lY pT (.nt D3))
 (.ret pF)
 (.next ⟨[],[]⟩))))))))
 (.next ⟨[(5,pG)],[]⟩))
 (.exit 0 ⟨[(36,r5),(37,pN),(38,(pc o3 4)),(39,(.llen (pc o3 4))),(40,(aj r5 (.llen (pc o3 4))))],[]⟩))
def VL (b:Nat→PC):PT:=
 (.call ⟨[(4,pF)],[(3,(.mk [r1])),(2,(.mk [r0]))]⟩ [] 12 210 [y3,(pi 0),(bD (.llen wy) (pi 1))]
 (.call ⟨[(14,(.nt bW))],[]⟩ [(14,false)] 21 210 [(pc o3 2),(pi 0),(bD (.llen (pc o2 0)) (pi 1))]
 (.ite (.pick (.pick (.pick du pT (.nt kq)) pT (be (.llen (pc o3 4)) (pi 60))) pT (be (.llen (pc o3 5)) (pi 200)))
 (.ret pF)
 (.brk ⟨[(5,(pi 0))],[]⟩
(aw8 b)
 (.call ⟨[],[]⟩ [] 63 259 [(pc o3 3),(pi 0),(pi 6)]
 (.call ⟨[(64,LO)],[]⟩ [(64,true)] 67 259 [(pc o3 4),(pi 0),(pi 2000)]
 (.call ⟨[(69,(.pick ku tX pF))],[]⟩ [(69,true)] 72 259 [(pc o3 5),(pi 0),(pi 100000)]
 (.ret (.pick sn tY pF)))))))))
def arw (b:Nat→PC):PT×List (Shp×PT):=(VL b,[(.lp 0 [4,5,36,37,38,39,40] [] [4,5] [],Ee b)])
theorem Sg:A2.map told=some (arw (ax A2)):=by kernel_rfl
theorem aDx:tree J3=VL NP:=aK Sg
theorem TP:round 0 [4,5,36,37,38,39,40] [] [4,5] [] (NP 0)=Ee NP:=bq Sg 0 fun _=>rfl
theorem anz:A2=some J3:=aC Sg
end Rm
