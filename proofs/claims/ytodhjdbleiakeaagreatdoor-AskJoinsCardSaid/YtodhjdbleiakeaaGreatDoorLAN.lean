/-
  The functions of this seat, compiled (3).
-/
import Derived.Test.YtodhjdbleiakeaaGreatDoorLAK
import Derived.KernelRfl
set_option linter.unusedVariables false
set_option maxRecDepth 100000
namespace Rm
open Go Go.Proofs Cx
noncomputable def x9:Option PC:=aA {ctx with fr:=[2,3,4,5,6,7,10,11,12],nh:=[]} Tryz.f54 ((ae af 54).getD default) [1,9]
noncomputable def Gs:PC:=ay x9
noncomputable def JA:Nat→PC:=bz x9
def ap2 (b:Nat→PC):PC:=.block 0 [2,38,39] [] (.loop [2,38] [] (b 0))
def Bn (b:Nat→PC):PT:=
 (.ite (ak gJ m5)
 (.blockS ⟨[],[]⟩ 1 [2,9,40,41,42,43,44,45] [9]
 (.chk (aq iL gJ)
 (.call ⟨[],[]⟩ [] 44 91 [(pc (.setc AU 0 (pn iL gJ)) 0),(pi 10)]
 (.ite (.nt tF)
 (.ret (pi 1))
 (.next ⟨[],[]⟩))))
 (.next ⟨[(38,(aH gJ (pi 1)))],[]⟩))
 (.exit 0 ⟨[(39,(ak gJ m5))],[]⟩))
def QW (b:Nat→PC):PT:=
 (.call ⟨[(2,(pi 0))],[(1,(.mk [r0]))]⟩ [] 15 129 [ko]
 (.call ⟨[(5,(.tget gm 2)),(4,(.tget gm 1)),(3,(.tget gm 0))],[]⟩ [] 21 130 [(pc o1 0),(pi 8),(.con (.clo 131 []))]
 (.ite (aO jn (pi 0))
 (.ret jn)
 (.call ⟨[],[(1,(au 8 o1))]⟩ [] 27 130 [r3,(pi 40),(.clo 132 [(.ref (au 8 o1))])]
 (.ite (aO eX (pi 0))
 (.ret eX)
 (.ite (be nU (pi 20))
 (.ret (pi 6))
 (.brk ⟨[(38,(pi 0)),(37,nU),(36,(pc o1 2))],[]⟩
(ap2 b)
 (.call ⟨[],[]⟩ [] 49 130 [r4,(pi 200),(.clo 134 [(.ref o1)])]
 (.ite (aO pO (pi 0))
 (.ret pO)
 (.call ⟨[],[]⟩ [] 55 130 [r5,(pi 20),(.clo 135 [(.ref o1)])]
 (.ite (aO wy (pi 0))
 (.ret wy)
 (.call ⟨[],[]⟩ [] 60 137 [(.sub o1 0 8)]
 (.ite (aO r60 (pi 0))
 (.ret r60)
 (.call ⟨[],[]⟩ [] 65 138 [(.sub o1 0 8)]
 (.ret r65)))))))))))))))
def akB (b:Nat→PC):PT×List (Shp×PT):=(QW b,[(.lp 0 [2,38,39] [] [2,38] [],Bn b)])
theorem NI:x9.map told=some (akB (av x9)):=by kernel_rfl
theorem awb:tree Gs=QW JA:=aJ NI
theorem Pa:round 0 [2,38,39] [] [2,38] [] (JA 0)=Bn JA:=br NI 0 fun _=>rfl
theorem ag1:x9=some Gs:=aC NI
noncomputable def ye:Option PC:=aA {ctx with fr:=[],nh:=[]} Tryz.f129 ((ae af 129).getD default) [1,2,3,4,6,16390,20486,24582,21,8,34,10,12298,16394,47]
noncomputable def GF:PC:=ay ye
noncomputable def rK:Nat→PC:=bz ye
def ap7 (b:Nat→PC):PC:=.block 0 [2,14,15] [2] (.loop [2,14] [2] (b 0))
def ap8 (b:Nat→PC):PC:=.block 2 [3,27,28] [3] (.loop [3,27] [3] (b 1))
def ap9 (b:Nat→PC):PC:=.block 4 [4,40,41] [4] (.loop [4,40] [4] (b 2))
def HW (b:Nat→PC):PT:=
 (.ite pJ
 (.chk (aq bT cS)
 (.chk (bM (.llen aap) cG)
 (.next ⟨[(2,pN),(14,wq)],[(2,aap)]⟩)))
 (.exit 0 ⟨[(15,pJ)],[]⟩))
def HX (b:Nat→PC):PT:=
 (.ite (ak eX kq)
 (.chk (aq gI eX)
 (.chk (bM (.llen aau) cG)
 (.next ⟨[(3,pN),(27,(aH eX (pi 1)))],[(3,aau)]⟩)))
 (.exit 2 ⟨[(28,(ak eX kq))],[]⟩))
def HY (b:Nat→PC):PT:=
 (.ite (ak oa AZ)
 (.chk (aq gJ oa)
 (.chk (bM (.llen aaq) cG)
 (.next ⟨[(4,pN),(40,(aH oa (pi 1)))],[(4,aaq)]⟩)))
 (.exit 4 ⟨[(41,(ak oa AZ))],[]⟩))
def Ra (b:Nat→PC):PT:=
 (.brk ⟨[(14,(pi 0)),(13,(.llen pI)),(12,pI),(4,pN),(3,pN),(2,pN)],[(4,pL),(3,pL),(2,pL),(1,(.mk [r0]))]⟩
(ap7 b)
 (.brk ⟨[(27,(pi 0)),(26,lh),(25,(pc o1 3))],[]⟩
(ap8 b)
 (.brk ⟨[(40,(pi 0)),(39,lV),(38,(pc o1 4))],[]⟩
(ap9 b)
 (.ret (.tup [o2,o3,o4])))))
def akN (b:Nat→PC):PT×List (Shp×PT):=(Ra b,[(.lp 0 [2,14,15] [2] [2,14] [2],HW b),(.lp 2 [3,27,28] [3] [3,27] [3],HX b),(.lp 4 [4,40,41] [4] [4,40] [4],HY b)])
theorem Az:ye.map told=some (akN (av ye)):=by kernel_rfl
theorem awj:tree GF=Ra rK:=aJ Az
theorem aa4:round 0 [2,14,15] [2] [2,14] [2] (rK 0)=HW rK:=br Az 0 fun _=>rfl
theorem aa5:round 2 [3,27,28] [3] [3,27] [3] (rK 1)=HX rK:=br Az 1 fun _=>rfl
theorem aa6:round 4 [4,40,41] [4] [4,40] [4] (rK 2)=HY rK:=br Az 2 fun _=>rfl
theorem ag9:ye=some GF:=aC Az
noncomputable def yc:Option PC:=aA {ctx with fr:=[6,7,8],nh:=[]} Tryz.f130 ((ae af 130).getD default) []
noncomputable def GA:PC:=ay yc
noncomputable def JD:Nat→PC:=bz yc
def ap5 (b:Nat→PC):PC:=.block 0 [6,15,16] [] (.loop [6,15] [] (b 0))
def Bq (b:Nat→PC):PT:=
 (.ite (ak gm cS)
 (.blockS ⟨[],[]⟩ 1 [6,7,8,17,18,19,20,21,22,24,25,26,27] []
 (.call ⟨[(7,gm)],[]⟩ [] 20 204 [r0,gm]
 (.ite (aO dD (pi 0))
 (.ret dD)
 (.callc ⟨[],[]⟩ [] 26 r2 [r7]
 (.ite (.nt kq)
 (.ret (pi 1))
 (.next ⟨[],[]⟩)))))
 (.next ⟨[(15,(aH gm (pi 1)))],[]⟩))
 (.exit 0 ⟨[(16,(ak gm cS))],[]⟩))
def Q6 (b:Nat→PC):PT:=
 (.ite (be (.llen r0) r1)
 (.ret (pi 6))
 (.brk ⟨[(15,(pi 0)),(14,(.llen r0)),(6,(pi 0))],[]⟩
(ap5 b)
 (.ret (pi 0))))
def akJ (b:Nat→PC):PT×List (Shp×PT):=(Q6 b,[(.lp 0 [6,15,16] [] [6,15] [],Bq b)])
theorem NL:yc.map told=some (akJ (av yc)):=by kernel_rfl
theorem awf:tree GA=Q6 JD:=aJ NL
theorem Pd:round 0 [6,15,16] [] [6,15] [] (JD 0)=Bq JD:=br NL 0 fun _=>rfl
theorem ag5:yc=some GA:=aC NL
noncomputable def Db:Option PC:=aA {ctx with fr:=[4],nh:=[]} Tryz.f204 ((ae af 204).getD default) []
noncomputable def GD:PC:=ay Db
def Q9:PT:=
 (.chk (aq r0 r1)
 (.call ⟨[],[]⟩ [] 9 244 [(pn r0 r1)]
 (.ite (.nt r9)
 (.ret (pi 2))
 (.chk (.slok r0 (pi 0) r1)
 (.chk (aq r0 r1)
 (.call ⟨[],[]⟩ [] 18 245 [(.slc r0 (pi 0) r1),(pn r0 r1)]
 (.ite gZ
 (.ret (pi 5))
 (.ret (pi 0)))))))))
def akM (b:Nat→PC):PT×List (Shp×PT):=(Q9,[])
theorem ZA:Db.map told=some (akM (av Db)):=by kernel_rfl
theorem awi:tree GD=Q9:=aJ ZA
theorem ag8:Db=some GD:=aC ZA
noncomputable def yd:Option PC:=aA {ctx with fr:=[2,3,4,5],nh:=[]} Tryz.f244 ((ae af 244).getD default) []
noncomputable def GC:PC:=ay yd
noncomputable def JE:Nat→PC:=bz yd
def ap6 (b:Nat→PC):PC:=.block 0 [2,16,17] [] (.loop [2,16] [] (b 0))
def Br (b:Nat→PC):PT:=
 (.ite (ak bU gm)
 (.chk (aq cS bU)
 (.ite (.pick (.nt (.pick (.pick (bt nY (.con (.v (.int .u8 97)))) (bM nY (.con (.v (.int .u8 122)))) pF) pT (.pick (bt nY (.con (.v (.int .u8 65)))) (bM nY (.con (.v (.int .u8 90)))) pF))) (.pick (aw bU (pi 0)) pT (.pick (aO nY (.con (.v (.int .u8 95)))) (.pick (ak nY (.con (.v (.int .u8 48)))) pT (be nY (.con (.v (.int .u8 57))))) pF)) pF)
 (.ret pF)
 (.next ⟨[(16,(aH bU (pi 1)))],[]⟩)))
 (.exit 0 ⟨[(17,(ak bU gm))],[]⟩))
def Q8 (b:Nat→PC):PT:=
 (.ite (.pick (.cs .eql r0 (.con (.v (.string ⟨#[]⟩)))) pT (be (.slen r0) (pi 20)))
 (.ret pF)
 (.chk (bM (.slen r0) cG)
 (.brk ⟨[(16,(pi 0)),(15,(.llen (.bytes r0))),(14,(.bytes r0)),(2,pF)],[]⟩
(ap6 b)
 (.ret pT))))
def akL (b:Nat→PC):PT×List (Shp×PT):=(Q8 b,[(.lp 0 [2,16,17] [] [2,16] [],Br b)])
theorem NM:yd.map told=some (akL (av yd)):=by kernel_rfl
theorem awh:tree GC=Q8 JE:=aJ NM
theorem Pe:round 0 [2,16,17] [] [2,16] [] (JE 0)=Br JE:=br NM 0 fun _=>rfl
theorem ag7:yd=some GC:=aC NM
noncomputable def Di:Option PC:=aA {ctx with fr:=[4],nh:=[]} Tryz.f245 ((ae af 245).getD default) []
noncomputable def GW:PC:=ay Di
def Rp:PT:=
 (.call ⟨[],[]⟩ [] 7 279 [r0,r1]
 (.ret (bt r7 (pi 0))))
def ak4 (b:Nat→PC):PT×List (Shp×PT):=(Rp,[])
theorem ZH:Di.map told=some (ak4 (av Di)):=by kernel_rfl
theorem awA:tree GW=Rp:=aJ ZH
theorem ahn:Di=some GW:=aC ZH
noncomputable def yt:Option PC:=aA {ctx with fr:=[4,5],nh:=[]} Tryz.f279 ((ae af 279).getD default) []
noncomputable def G1:PC:=ay yt
noncomputable def JL:Nat→PC:=bz yt
def aqw (b:Nat→PC):PC:=.block 0 [4,8,9] [] (.loop [4,8] [] (b 0))
def BH (b:Nat→PC):PT:=
 (.ite (ak r8 r7)
 (.chk (aq r0 r8)
 (.ite (.cs .eql r1 (pn r0 r8))
 (.ret r8)
 (.next ⟨[(8,(aH r8 (pi 1)))],[]⟩)))
 (.exit 0 ⟨[(9,(ak r8 r7))],[]⟩))
def Ru (b:Nat→PC):PT:=
 (.brk ⟨[(8,(pi 0)),(7,(.llen r0)),(4,(pi 0))],[]⟩
(aqw b)
 (.ret (pi (-1))))
def ak9 (b:Nat→PC):PT×List (Shp×PT):=(Ru b,[(.lp 0 [4,8,9] [] [4,8] [],BH b)])
theorem NT:yt.map told=some (ak9 (av yt)):=by kernel_rfl
theorem awF:tree G1=Ru JL:=aJ NT
theorem Pw:round 0 [4,8,9] [] [4,8] [] (JL 0)=BH JL:=br NT 0 fun _=>rfl
theorem ahq:yt=some G1:=aC NT
noncomputable def C5:Option PC:=aA {ctx with fr:=[2],nh:=[]} Tryz.f131 ((ae af 131).getD default) []
noncomputable def Gt:PC:=ay C5
def QX:PT:=
 (.ret pT)
def akC (b:Nat→PC):PT×List (Shp×PT):=(QX,[])
theorem Zu:C5.map told=some (akC (av C5)):=by kernel_rfl
theorem av7:tree Gt=QX:=aJ Zu
theorem agX:C5=some Gt:=aC Zu
noncomputable def C6:Option PC:=aA {ctx with fr:=[3],nh:=[]} Tryz.f132 ((ae af 132).getD default) []
noncomputable def Gu:PC:=ay C6
def QY:PT:=
 (.chk (aq (pc (.deref r1) 1) r0)
 (.call ⟨[],[]⟩ [] 10 133 [(.deref r1),(pn (pc (.deref r1) 1) r0)]
 (.ret dj)))
def akD (b:Nat→PC):PT×List (Shp×PT):=(QY,[])
theorem Zv:C6.map told=some (akD (av C6)):=by kernel_rfl
theorem av8:tree Gu=QY:=aJ Zv
theorem agY:C6=some Gu:=aC Zv
noncomputable def yb:Option PC:=aA {ctx with fr:=[4,6],nh:=[]} Tryz.f133 ((ae af 133).getD default) [2,3]
noncomputable def Gz:PC:=ay yb
noncomputable def JC:Nat→PC:=bz yb
def ap4 (b:Nat→PC):PC:=.block 0 [4,10,11] [] (.loop [4,10] [] (b 0))
def Bp (b:Nat→PC):PT:=
 (.ite (ak dj r9)
 (.chk (aq r8 dj)
 (.chk wj
 (.chk (.nt (.an (.an (.nt (ak Oq (pi 1))) pT) (.nt wj)))
 (.ite (.pick (ak Oq (pi 1)) pT (be Oq (pi 31)))
 (.ret pF)
 (.next ⟨[(10,(aH dj (pi 1)))],[]⟩)))))
 (.exit 0 ⟨[(11,(ak dj r9))],[]⟩))
def Q5 (b:Nat→PC):PT:=
 (.brk ⟨[(10,(pi 0)),(9,(.llen (pc (.mk [r1]) 4))),(8,(pc (.mk [r1]) 4)),(4,pF)],[(3,(.mk [r1])),(2,(.mk [r0]))]⟩
(ap4 b)
 (.call ⟨[(33,(.pick (be (.llen (pc o3 4)) (pi 60)) pT (be (.llen (pc o3 5)) (pi 200))))],[]⟩ [(33,false)] 39 91 [(pc o3 1),(.llen (pc o2 4))]
 (.call ⟨[(42,(.pick q6 pT (.nt AZ)))],[]⟩ [(42,false)] 48 91 [(pc o3 2),(.llen (pc o2 0))]
 (.ite (.pick A0 pT (.nt od))
 (.ret pF)
 (.call ⟨[],[]⟩ [] 53 205 [(pc o3 3),(pi 0),(pi 6)]
 (.call ⟨[(54,r53)],[]⟩ [(54,true)] 57 205 [(pc o3 4),(pi 101),(pi 1231)]
 (.call ⟨[(59,(.pick pP OJ pF))],[]⟩ [(59,true)] 62 205 [(pc o3 5),(pi 0),(pi 100000)]
 (.ret (.pick OL tG pF)))))))))
def akI (b:Nat→PC):PT×List (Shp×PT):=(Q5 b,[(.lp 0 [4,10,11] [] [4,10] [],Bp b)])
theorem NK:yb.map told=some (akI (av yb)):=by kernel_rfl
theorem awe:tree Gz=Q5 JC:=aJ NK
theorem Pc:round 0 [4,10,11] [] [4,10] [] (JC 0)=Bp JC:=br NK 0 fun _=>rfl
theorem ag4:yb=some Gz:=aC NK
noncomputable def yh:Option PC:=aA {ctx with fr:=[6,7,8],nh:=[]} Tryz.f205 ((ae af 205).getD default) []
noncomputable def GI:PC:=ay yh
noncomputable def JF:Nat→PC:=bz yh
def aqe (b:Nat→PC):PC:=.block 0 [6,11,12] [] (.loop [6,11] [] (b 0))
def q9 (b:Nat→PC):PT:=
 (.ite (ak aU dj)
 (.chk (aq r9 aU)
 (.chk (.nt (.an (.an (be aU (pi 0)) (.an (.nt (.pick (ak (pn r9 aU) r1) pT (be (pn r9 aU) r2))) pT)) (.nt (aq r0 (bh aU (pi 1))))))
 (.ite (.pick (.pick (ak (pn r9 aU) r1) pT (be (pn r9 aU) r2)) pT (.pick (be aU (pi 0)) (bM (pn r9 aU) (pn r0 (bh aU (pi 1)))) pF))
 (.ret pF)
 (.next ⟨[(11,(aH aU (pi 1)))],[]⟩))))
 (.exit 0 ⟨[(12,(ak aU dj))],[]⟩))
def Rd (b:Nat→PC):PT:=
 (.brk ⟨[(11,(pi 0)),(10,(.llen r0)),(9,r0),(6,pF)],[]⟩
(aqe b)
 (.ret pT))
def akQ (b:Nat→PC):PT×List (Shp×PT):=(Rd b,[(.lp 0 [6,11,12] [] [6,11] [],q9 b)])
theorem NN:yh.map told=some (akQ (av yh)):=by kernel_rfl
theorem awm:tree GI=Rd JF:=aJ NN
theorem wF:round 0 [6,11,12] [] [6,11] [] (JF 0)=q9 JF:=br NN 0 fun _=>rfl
theorem ahc:yh=some GI:=aC NN
noncomputable def C7:Option PC:=aA {ctx with fr:=[3],nh:=[]} Tryz.f134 ((ae af 134).getD default) []
noncomputable def Gv:PC:=ay C7
def QZ:PT:=
 (.chk (aq (pc (.deref r1) 3) r0)
 (.call ⟨[],[]⟩ [] 13 91 [(pc (pn (pc (.deref r1) 3) r0) 1),(.llen (pc (.deref r1) 1))]
 (.chk (.nt (.an (.an dx pT) (.nt (aq (pc (.deref r1) 3) r0))))
 (.call ⟨[(14,dx)],[]⟩ [(14,true)] 24 91 [(pc (pn (pc (.deref r1) 3) r0) 2),(.llen (pc (.deref r1) 2))]
 (.ret (.pick cS m0 pF))))))
def akE (b:Nat→PC):PT×List (Shp×PT):=(QZ,[])
theorem Zw:C7.map told=some (akE (av C7)):=by kernel_rfl
theorem av9:tree Gv=QZ:=aJ Zw
theorem agZ:C7=some Gv:=aC Zw
noncomputable def C8:Option PC:=aA {ctx with fr:=[3],nh:=[]} Tryz.f135 ((ae af 135).getD default) []
noncomputable def Gw:PC:=ay C8
def Q0:PT:=
 (.chk (aq (pc (.deref r1) 4) r0)
 (.call ⟨[],[]⟩ [] 9 136 [(pn (pc (.deref r1) 4) r0)]
 (.ret r9)))
def akF (b:Nat→PC):PT×List (Shp×PT):=(Q0,[])
theorem Zx:C8.map told=some (akF (av C8)):=by kernel_rfl
theorem awa:tree Gw=Q0:=aJ Zx
theorem ag0:C8=some Gw:=aC Zx
noncomputable def yf:Option PC:=aA {ctx with fr:=[2],nh:=[]} Tryz.f136 ((ae af 136).getD default) [1,3,4,6,19,8,16392,36]
noncomputable def GG:PC:=ay yf
noncomputable def xm:Nat→PC:=bz yf
def aqa (b:Nat→PC):PC:=.block 0 [2,3,12,13] [3] (.loop [2,3,12] [3] (b 0))
def aqb (b:Nat→PC):PC:=.block 2 [4,29,30] [4] (.loop [4,29] [4] (b 1))
def Bs (b:Nat→PC):PT:=
 (.ite (ak bT aU)
 (.blockS ⟨[],[]⟩ 1 [2,3,6,14,15,17,18,19,20,21,22,23,24] [6,19,3]
 (.chk (aq dj bT)
 (.chk (bM (.llen (.app o3 (.lst [(pc (.setc Hy 0 (pn dj bT)) 0)]))) cG)
 (.call ⟨[(3,pN)],[(3,(.app o3 (.lst [(pc (.setc Hy 0 (pn dj bT)) 0)])))]⟩ [] 23 91 [(pc (.setc Hy 0 (pn dj bT)) 1),(pi 5)]
 (.ite (.nt kp)
 (.ret pF)
 (.next ⟨[],[]⟩)))))
 (.next ⟨[(12,(aH bT (pi 1)))],[]⟩))
 (.exit 0 ⟨[(13,(ak bT aU))],[]⟩))
def HZ (b:Nat→PC):PT:=
 (.ite (ak m4 pK)
 (.chk (aq eX m4)
 (.chk (bM (.llen aav) cG)
 (.next ⟨[(4,pN),(29,(aH m4 (pi 1)))],[(4,aav)]⟩)))
 (.exit 2 ⟨[(30,(ak m4 pK))],[]⟩))
def Rb (b:Nat→PC):PT:=
 (.brk ⟨[(12,(pi 0)),(11,mZ),(10,we),(4,pN),(3,pN),(2,pF)],[(4,pL),(3,pL),(1,(.mk [r0]))]⟩
(aqa b)
 (.brk ⟨[(29,(pi 0)),(28,lh),(27,(pc o1 3))],[]⟩
(aqb b)
 (.call ⟨[],[]⟩ [] 40 205 [o3,(pi 0),(pi 21)]
 (.call ⟨[(41,oa)],[]⟩ [(41,true)] 43 205 [o4,(pi 0),(pi 21)]
 (.ret (.pick pM q7 pF))))))
def akO (b:Nat→PC):PT×List (Shp×PT):=(Rb b,[(.lp 0 [2,3,12,13] [3] [2,3,12] [3],Bs b),(.lp 2 [4,29,30] [4] [4,29] [4],HZ b)])
theorem Fh:yf.map told=some (akO (av yf)):=by kernel_rfl
theorem awk:tree GG=Rb xm:=aJ Fh
theorem Pf:round 0 [2,3,12,13] [3] [2,3,12] [3] (xm 0)=Bs xm:=br Fh 0 fun _=>rfl
theorem aa7:round 2 [4,29,30] [4] [4,29] [4] (xm 1)=HZ xm:=br Fh 1 fun _=>rfl
theorem aha:yf=some GG:=aC Fh
noncomputable def yi:Option PC:=aA {ctx with fr:=[2,3],nh:=[]} Tryz.f137 ((ae af 137).getD default) [1,4,6]
noncomputable def GJ:PC:=ay yi
noncomputable def xo:Nat→PC:=bz yi
def aqf (b:Nat→PC):PC:=.block 2 [2,50,51] [] (.loop [2,50] [] (b 0))
def aqg (b:Nat→PC):PC:=.block 0 [2,14,15] [] (.loop [2,14] [] (b 1))
def wG (b:Nat→PC):PT:=
 (.ite (ak lW pO)
 (.chk (aq od lW)
 (.ite (.pick (aw (pc (.setc z3 0 (pn od lW)) 0) (pc o4 0)) (aw (pc (.setc z3 0 (pn od lW)) 1) (pc o4 1)) pF)
 (.ret (pi 5))
 (.next ⟨[(50,(aH lW (pi 1)))],[]⟩)))
 (.exit 2 ⟨[(51,(ak lW pO))],[]⟩))
def Bv (b:Nat→PC):PT:=
 (.ite pJ
 (.blockS ⟨[(15,pJ)],[]⟩ 1 [2,3,4,16,17,18,19,20,21,22,23,24,25,26,34,35,39,40,44,45,46,47,48,49,50,51] [4]
 (.chk (aq bT cS)
 (.call ⟨[(3,cS)],[(4,wg)]⟩ [] 24 91 [(pc wg 0),jK]
 (.call ⟨[(26,(.nt m0))],[]⟩ [(26,false)] 32 91 [(pc o4 1),jK]
 (.ite (.pick (.pick (.pick kq pT (.nt AY)) pT (ak (pc o4 2) (pi 1))) pT (be (pc o4 2) (pi 20000)))
 (.ret (pi 1))
 (.chk (.slok (pc o1 5) (pi 0) r3)
 (.brk ⟨[(50,(pi 0)),(49,(.llen (.slc (pc o1 5) (pi 0) r3))),(48,(.slc (pc o1 5) (pi 0) r3))],[]⟩
(aqf b)
 (.next ⟨[],[]⟩)))))))
 (.next ⟨[(14,wq)],[]⟩))
 (.exit 0 ⟨[(15,pJ)],[]⟩))
def Re (b:Nat→PC):PT:=
 (.ite (be (.llen tB) (pi 100))
 (.ret (pi 6))
 (.brk ⟨[(14,(pi 0)),(13,(.llen tB)),(12,tB),(2,(pi 0))],[(1,(.mk [r0]))]⟩
(aqg b)
 (.ret (pi 0))))
def akR (b:Nat→PC):PT×List (Shp×PT):=(Re b,[(.lp 2 [2,50,51] [] [2,50] [],wG b),(.lp 0 [2,14,15] [] [2,14] [],Bv b)])
theorem Fj:yi.map told=some (akR (av yi)):=by kernel_rfl
theorem awn:tree GJ=Re xo:=aJ Fj
theorem H0:round 2 [2,50,51] [] [2,50] [] (xo 0)=wG xo:=br Fj 0 fun _=>rfl
theorem Pj:round 0 [2,14,15] [] [2,14] [] (xo 1)=Bv xo:=br Fj 1 fun _=>rfl
theorem ahd:yi=some GJ:=aC Fj
noncomputable def yg:Option PC:=aA {ctx with fr:=[2],nh:=[]} Tryz.f138 ((ae af 138).getD default) [1,4,6]
noncomputable def GH:PC:=ay yg
noncomputable def xn:Nat→PC:=bz yg
def aqc (b:Nat→PC):PC:=.block 0 [2,14,15] [] (.loop [2,14] [] (b 0))
def aqd (b:Nat→PC):PC:=.block 2 [2,69,70] [] (.loop [2,69] [] (b 1))
def Bt (b:Nat→PC):PT:=
 (.ite pJ
 (.blockS ⟨[],[]⟩ 1 [2,4,16,17,18,19,20,21,22,23,24,25,33,34,40,41,47,48,54,55,60] [4]
 (.chk (aq bT cS)
 (.call ⟨[],[(4,(.setc z5 0 (pn bT cS)))]⟩ [] 23 91 [(pc (.setc z5 0 (pn bT cS)) 0),qZ]
 (.call ⟨[(25,(.nt kp))],[]⟩ [(25,false)] 31 91 [(pc o4 1),qZ]
 (.call ⟨[(41,(.pick (.pick gI pT (.nt q5)) pT (aw (pc o4 0) (pc o4 1))))],[]⟩ [(41,false)] 45 91 [(bh (pc o4 2) (pi 1)),(pi 1073741824)]
 (.call ⟨[(48,(.pick pM pT (.nt oc)))],[]⟩ [(48,false)] 52 91 [(bh (pc o4 3) (pi 1)),(pi 1073741824)]
 (.call ⟨[(55,(.pick od pT (.nt HM)))],[]⟩ [(55,false)] 58 91 [(pc o4 4),(pi 100001)]
 (.ite (.pick wy pT (.nt HN))
 (.ret (pi 1))
 (.next ⟨[],[]⟩))))))))
 (.next ⟨[(14,wq)],[]⟩))
 (.exit 0 ⟨[(15,pJ)],[]⟩))
def Bu (b:Nat→PC):PT:=
 (.ite (ak pQ r68)
 (.blockS ⟨[],[]⟩ 3 [2,6,71,72,73,74,75,76,77,78,79,80,84,85,91,92,96] [6]
 (.chk (aq q8 pQ)
 (.call ⟨[],[(6,(.setc z3 0 (pn q8 pQ)))]⟩ [] 78 91 [(pc (.setc z3 0 (pn q8 pQ)) 0),lV]
 (.ite (.pick (.pick (.pick (.nt OP) pT (ak (pc o6 1) (pi 0))) pT (be (pc o6 1) (pc o6 2))) pT (be (pc o6 2) (pi 100000)))
 (.ret (pi 1))
 (.next ⟨[],[]⟩))))
 (.next ⟨[(69,(aH pQ (pi 1)))],[]⟩))
 (.exit 2 ⟨[(70,(ak pQ r68))],[]⟩))
def Rc (b:Nat→PC):PT:=
 (.ite (be (.llen (pc (.mk [r0]) 6)) (pi 100))
 (.ret (pi 6))
 (.brk ⟨[(14,(pi 0)),(13,(.llen (pc (.mk [r0]) 6))),(12,(pc (.mk [r0]) 6)),(2,(pi 0))],[(1,(.mk [r0]))]⟩
(aqc b)
 (.ite (be tE (pi 20))
 (.ret (pi 6))
 (.brk ⟨[(69,(pi 0)),(68,tE),(67,(pc o1 7))],[]⟩
(aqd b)
 (.ret (pi 0))))))
def akP (b:Nat→PC):PT×List (Shp×PT):=(Rc b,[(.lp 0 [2,14,15] [] [2,14] [],Bt b),(.lp 2 [2,69,70] [] [2,69] [],Bu b)])
theorem Fi:yg.map told=some (akP (av yg)):=by kernel_rfl
theorem awl:tree GH=Rc xn:=aJ Fi
theorem Pg:round 0 [2,14,15] [] [2,14] [] (xn 0)=Bt xn:=br Fi 0 fun _=>rfl
theorem Ph:round 2 [2,69,70] [] [2,69] [] (xn 1)=Bu xn:=br Fi 1 fun _=>rfl
theorem ahb:yg=some GH:=aC Fi
noncomputable def Dn:Option PC:=aA {ctx with fr:=[4],nh:=[]} Tryz.f177 ((ae af 177).getD default) [2]
noncomputable def G7:PC:=ay Dn
def Rx:PT:=
 (.ret (.pick (bt r1 (pi 0)) (ak r1 (.llen pI)) pF))
def ali (b:Nat→PC):PT×List (Shp×PT):=(Rx,[])
theorem ZM:Dn.map told=some (ali (av Dn)):=by kernel_rfl
theorem awL:tree G7=Rx:=aJ ZM
theorem ahw:Dn=some G7:=aC ZM
noncomputable def Dp:Option PC:=aA {ctx with fr:=[2],nh:=[]} Tryz.f178 ((ae af 178).getD default) []
noncomputable def G8:PC:=ay Dp
def Ry:PT:=
 (.ret (.pick (bt r0 (pi 0)) (bM r0 (pi 100000)) pF))
def alj (b:Nat→PC):PT×List (Shp×PT):=(Ry,[])
theorem ZN:Dp.map told=some (alj (av Dp)):=by kernel_rfl
theorem awM:tree G8=Ry:=aJ ZN
theorem ahx:Dp=some G8:=aC ZN
noncomputable def Dk:Option PC:=aA {ctx with fr:=[2],nh:=[]} Tryz.f179 ((ae af 179).getD default) [1]
noncomputable def G4:PC:=ay Dk
def Rw:PT:=
 (.ret (.pick (aw jJ (pi 0)) pT (aw jJ (pi 1))))
def alf (b:Nat→PC):PT×List (Shp×PT):=(Rw,[])
theorem ZJ:Dk.map told=some (alf (av Dk)):=by kernel_rfl
theorem awK:tree G4=Rw:=aJ ZJ
theorem aht:Dk=some G4:=aC ZJ
noncomputable def Dm:Option PC:=aA {ctx with fr:=[6,7,13,16,24,33,8,9],nh:=[]} Tryz.f180 ((ae af 180).getD default) [3,4]
noncomputable def G6:PC:=ay Dm
def rB:PT:=
 (.blockS ⟨[(12,(pc (.mk [r1]) 5))],[(4,(.mk [r1])),(3,(.mk [r0]))]⟩ 0 [6,7,13,14,16,17,24,25,33,34] []
 (.iteS ⟨[],[]⟩ (aw bT (pi 0)) [6,7,16,17,24,25,33,34] []
 (.ret (.tup [r2,(pi 0)]))
 (.iteS ⟨[],[]⟩ (aw bT (pi 1)) [6,7,24,25,33,34] []
 (.call ⟨[],[]⟩ [] 21 223 [r2,(.mk [(pc o4 5),(pc o4 6),(pc o4 7)])]
 (.ret (.tup [(.tget jn 0),(.tget jn 1)])))
 (.iteS ⟨[],[]⟩ (aw bT (pi 2)) [6,7,33,34] []
 (.call ⟨[],[]⟩ [] 30 223 [(pc o4 8),(.mk [(pc o4 5),(pc o4 6),(pc o4 7)])]
 (.ret (.tup [(.tget wv 0),(.tget wv 1)])))
 (.iteS ⟨[],[]⟩ (aw bT (pi 4)) [6,7] []
 (.call ⟨[],[]⟩ [] 41 185 [(au 8 o3),(pc o4 9),(pc o4 10)]
 (.ret (.tup [(aH (pc o4 8) (.tget pM 0)),(.tget pM 1)])))
 (.next ⟨[],[]⟩)
 (.next ⟨[],[]⟩))
 (.next ⟨[],[]⟩))
 (.next ⟨[],[]⟩))
 (.next ⟨[],[]⟩))
 (.ret (.tup [(pc o4 6),(pi 0)])))
def alh (b:Nat→PC):PT×List (Shp×PT):=(rB,[])
theorem ZL:Dm.map told=some (alh (av Dm)):=by kernel_rfl
theorem wV:tree G6=rB:=aJ ZL
theorem ahv:Dm=some G6:=aC ZL
noncomputable def Dl:Option PC:=aA {ctx with fr:=[4,5],nh:=[]} Tryz.f223 ((ae af 223).getD default) [3]
noncomputable def G5:PC:=ay Dl
def wU:PT:=
 (.ite (.pick (ak (pc (.mk [r1]) 1) (pi 0)) pT (be (pc (.mk [r1]) 1) (pi 20000)))
 (.ret (.tup [(pi 0),(pi 3)]))
 (.iteS ⟨[],[(3,(.mk [r1]))]⟩ (aw (pc (.mk [r1]) 2) (pi 1)) [4,5] []
 (.call ⟨[],[]⟩ [] 20 267 [r0,(pc o3 1)]
 (.ret (.tup [(.tget dD 0),(.tget dD 1)])))
 (.next ⟨[],[]⟩)
 (.ret (.tup [(aH r0 (pc o3 1)),(pi 0)]))))
def alg (b:Nat→PC):PT×List (Shp×PT):=(wU,[])
theorem ZK:Dl.map told=some (alg (av Dl)):=by kernel_rfl
theorem IG:tree G5=wU:=aJ ZK
theorem ahu:Dl=some G5:=aC ZK
noncomputable def CG:Option PC:=aA {ctx with fr:=[4,5,6,7,8,9],nh:=[]} Tryz.f267 ((ae af 267).getD default) []
noncomputable def FF:PC:=ay CG
def IA:PT:=
 (.call ⟨[],[]⟩ [] 11 120 [r0]
 (.ite (.pick (.pick (.nt aU) pT (ak r1 (pi (-5000)))) pT (be r1 (pi 5000)))
 (.ret (.tup [(pi 0),(pi 3)]))
 (.call ⟨[],[]⟩ [] 23 201 [r0]
 (.chk (aO (pi 12) (pi 0))
 (.call ⟨[(41,(.tget kp 2)),(40,(aH (.ai .rem .i64 Hz (pi 12)) (pi 1))),(39,(.ai .quo .i64 Hz (pi 12)))],[]⟩ [] 44 288 [(.ai .quo .i64 Hz (pi 12)),(aH (.ai .rem .i64 Hz (pi 12)) (pi 1))]
 (.call ⟨[],[]⟩ [] 46 287 [AZ,oa,(.mn pM tF)]
 (.ret (.tup [(.tget m6 0),(.tget m6 1)]))))))))
def ajO (b:Nat→PC):PT×List (Shp×PT):=(IA,[])
theorem YU:CG.map told=some (ajO (av CG)):=by kernel_rfl
theorem abZ:tree FF=IA:=aJ YU
theorem agd:CG=some FF:=aC YU
noncomputable def CN:Option PC:=aA {ctx with fr:=[2],nh:=[]} Tryz.f120 ((ae af 120).getD default) []
noncomputable def FN:PC:=ay CN
def Qn:PT:=
 (.ret (.pick (bM (pi 0) r0) (bM r0 (pi 100000)) pF))
def ajX (b:Nat→PC):PT×List (Shp×PT):=(Qn,[])
theorem Zb:CN.map told=some (ajX (av CN)):=by kernel_rfl
theorem avs:tree FN=Qn:=aJ Zb
theorem agn:CN=some FN:=aC Zb
noncomputable def CI:Option PC:=aA {ctx with fr:=[2,3,4,5,6,7,8,9],nh:=[]} Tryz.f201 ((ae af 201).getD default) []
noncomputable def FI:PC:=ay CI
def Qj:PT:=
 (.chk (aO (pi 146097) (pi 0))
 (.chk (aO (pi 1460) (pi 0))
 (.chk (aO (pi 36524) (pi 0))
 (.chk (aO (pi 146096) (pi 0))
 (.chk (aO (pi 365) (pi 0))
 (.chk (aO (pi 4) (pi 0))
 (.chk wj
 (.chk (aO (pi 153) (pi 0))
 (.chk (aO (pi 5) (pi 0))
 (.ret (.tup [(.pick (ak aaz (pi 3)) (aH aaC (pi 1)) aaC),aaz,(aH (bh (bh (.ai .rem .i64 (aH r0 (pi 730425)) (pi 146097)) (bh (aH (.ai .mul .i64 (pi 365) tw) (.ai .quo .i64 tw (pi 4))) (.ai .quo .i64 tw (pi 100)))) (.ai .quo .i64 (aH (.ai .mul .i64 (pi 153) HC) (pi 2)) (pi 5))) (pi 1))])))))))))))
def ajR (b:Nat→PC):PT×List (Shp×PT):=(Qj,[])
theorem YW:CI.map told=some (ajR (av CI)):=by kernel_rfl
theorem avn:tree FI=Qj:=aJ YW
theorem agh:CI=some FI:=aC YW
noncomputable def CK:Option PC:=aA {ctx with fr:=[4],nh:=[]} Tryz.f288 ((ae af 288).getD default) []
noncomputable def FK:PC:=ay CK
def IC:PT:=
 (.ite (aw r1 (pi 12))
 (.ret (pi 31))
 (.call ⟨[],[]⟩ [] 10 299 [r0,(aH r1 (pi 1)),(pi 1)]
 (.call ⟨[],[]⟩ [] 13 299 [r0,r1,(pi 1)]
 (.ret (bh dj dx)))))
def ajU (b:Nat→PC):PT×List (Shp×PT):=(IC,[])
theorem YY:CK.map told=some (ajU (av CK)):=by kernel_rfl
theorem avq:tree FK=IC:=aJ YY
theorem agk:CK=some FK:=aC YY
noncomputable def CL:Option PC:=aA {ctx with fr:=[6,0,1],nh:=[]} Tryz.f299 ((ae af 299).getD default) []
noncomputable def FL:PC:=ay CL
def ID:PT:=
 (.chk (aO (pi 4) (pi 0))
 (.chk wj
 (.chk (aO (pi 400) (pi 0))
 (.chk (aO (pi 5) (pi 0))
 (.ret (bh (bh (aH (aH (aH (bh (aH (.ai .mul .i64 (pi 365) HB) (.ai .quo .i64 HB (pi 4))) (.ai .quo .i64 HB (pi 100))) (.ai .quo .i64 HB (pi 400))) (.ai .quo .i64 (aH (.ai .mul .i64 (pi 153) (bh (.pick (ak r1 (pi 3)) (aH r1 (pi 12)) r1) (pi 3))) (pi 2)) (pi 5))) r2) (pi 1)) (pi 730425)))))))
def ajV (b:Nat→PC):PT×List (Shp×PT):=(ID,[])
theorem YZ:CL.map told=some (ajV (av CL)):=by kernel_rfl
theorem ab0:tree FL=ID:=aJ YZ
theorem agl:CL=some FL:=aC YZ
noncomputable def CH:Option PC:=aA {ctx with fr:=[6,7,8],nh:=[]} Tryz.f287 ((ae af 287).getD default) []
noncomputable def FG:PC:=ay CH
def wT:PT:=
 (.call ⟨[(28,r2),(27,(.pick (.pick (.pick (.pick (ak r0 (pi 2000)) pT (be r0 (pi 2300))) pT (ak r1 (pi 1))) pT (be r1 (pi 12))) pT (ak r2 (pi 1))))],[]⟩ [(27,false)] 31 288 [r0,r1]
 (.ite (.pick eX pT (be pK q5))
 (.ret (.tup [(pi 0),(pi 3)]))
 (.call ⟨[],[]⟩ [] 37 299 [r0,r1,r2]
 (.call ⟨[(8,m5)],[]⟩ [] 39 120 [m5]
 (.ite (.nt AZ)
 (.ret (.tup [(pi 0),(pi 3)]))
 (.ret (.tup [r8,(pi 0)])))))))
def ajP (b:Nat→PC):PT×List (Shp×PT):=(wT,[])
theorem YV:CH.map told=some (ajP (av CH)):=by kernel_rfl
theorem IB:tree FG=wT:=aJ YV
theorem age:CH=some FG:=aC YV
noncomputable def ya:Option PC:=aA {ctx with fr:=[6,7],nh:=[]} Tryz.f185 ((ae af 185).getD default) [3,9]
noncomputable def Gy:PC:=ay ya
noncomputable def JB:Nat→PC:=bz ya
def ap3 (b:Nat→PC):PC:=.block 0 [6,7,13,14] [] (.loop [6,7,13] [] (b 0))
def Bo (b:Nat→PC):PT:=
 (.ite (ak dx bT)
 (.chk (aq aU dx)
 (.ite (.pick (aw (pc (.setc z3 0 (pn aU dx)) 0) r1) (aw (pc (.setc z3 0 (pn aU dx)) 1) r2) pF)
 (.ret (.tup [(pc (.setc z3 0 (pn aU dx)) 2),(pi 0)]))
 (.next ⟨[(13,(aH dx (pi 1)))],[]⟩)))
 (.exit 0 ⟨[(14,(ak dx bT))],[]⟩))
def Q4 (b:Nat→PC):PT:=
 (.brk ⟨[(13,(pi 0)),(12,(.llen tB)),(11,tB),(7,(pi 0)),(6,(pi 0))],[]⟩
(ap3 b)
 (.ret (.tup [(pi 0),(pi 4)])))
def akH (b:Nat→PC):PT×List (Shp×PT):=(Q4 b,[(.lp 0 [6,7,13,14] [] [6,7,13] [],Bo b)])
theorem NJ:ya.map told=some (akH (av ya)):=by kernel_rfl
theorem awd:tree Gy=Q4 JB:=aJ NJ
theorem Pb:round 0 [6,7,13,14] [] [6,7,13] [] (JB 0)=Bo JB:=br NJ 0 fun _=>rfl
theorem ag3:ya=some Gy:=aC NJ
noncomputable def yz:Option PC:=aA {ctx with fr:=[6,7,8,2,9,10],nh:=[]} Tryz.f181 ((ae af 181).getD default) [3]
noncomputable def G9:PC:=ay yz
noncomputable def JN:Nat→PC:=bz yz
def aqA (b:Nat→PC):PC:=.block 0 [] [] (.loop [2,6,7] [] (b 0))
def Px (b:Nat→PC):PT:=
 (.blockS ⟨[],[]⟩ 1 [2,6,7,9,10,14,15,16,17,18,19,20,21,22,23,24,25,26,27,28,29,30,31,32,34] []
 (.call ⟨[],[]⟩ [] 17 224 [(au 8 o3),r8,r2]
 (.chk (aq (pc o3 1) r1)
 (.call ⟨[(2,jL)],[]⟩ [] 25 225 [(pn (pc o3 1) r1),jL]
 (.ite (aO (.tget gI 1) (pi 0))
 (.ret (.tup [(pi 0),(pi 3)]))
 (.ite (aw (.tget gI 0) r2)
 (.ret (.tup [r2,(pi 0)]))
 (.next ⟨[(2,(.tget gI 0))],[]⟩))))))
 (.next ⟨[],[]⟩))
def Rz (b:Nat→PC):PT:=
 (.call ⟨[(7,(pi 0)),(6,(pi 0))],[(3,(.mk [r0]))]⟩ [] 13 32 [ko,r1]
 (.brk ⟨[(8,dx)],[]⟩
(aqA b)
 (.next ⟨[],[]⟩)))
def alk (b:Nat→PC):PT×List (Shp×PT):=(Rz b,[(.lp 0 [] [] [2,6,7] [],Px b)])
theorem NV:yz.map told=some (alk (av yz)):=by kernel_rfl
theorem awN:tree G9=Rz JN:=aJ NV
theorem at1:round 0 [] [] [2,6,7] [] (JN 0)=Px JN:=br NV 0 fun _=>rfl
theorem ahy:yz=some G9:=aC NV
noncomputable def yA:Option PC:=aA {ctx with fr:=[6,7,2],nh:=[]} Tryz.f224 ((ae af 224).getD default) [3,9]
noncomputable def Ha:PC:=ay yA
noncomputable def xt:Nat→PC:=bz yA
def aqB (b:Nat→PC):PC:=.block 2 [2,7,14,15] [] (.loop [2,7,14] [] (b 0))
def aqC (b:Nat→PC):PC:=.block 0 [2,7,10] [] (.loop [2,7] [] (b 1))
def wH (b:Nat→PC):PT:=
 (.ite pJ
 (.chk (aq bT cS)
 (.next ⟨[(2,(.pick aaB (aH (pc wg 2) (pi 1)) r2)),(7,(.pick aaB pT r7)),(14,wq)],[]⟩))
 (.exit 2 ⟨[(15,pJ)],[]⟩))
def H6 (b:Nat→PC):PT:=
 (.ite r7
 (.blockS ⟨[(10,r7)],[]⟩ 1 [2,7,11,12,13,14,15] []
 (.brk ⟨[(14,(pi 0)),(13,(.llen (pc o3 7))),(12,(pc o3 7)),(7,pF)],[]⟩
(aqB b)
 (.next ⟨[],[]⟩))
 (.next ⟨[],[]⟩))
 (.exit 0 ⟨[(10,r7)],[]⟩))
def RA (b:Nat→PC):PT:=
 (.brk ⟨[(7,pT)],[(3,(.mk [r0]))]⟩
(aqC b)
 (.ret r2))
def alm (b:Nat→PC):PT×List (Shp×PT):=(RA b,[(.lp 2 [2,7,14,15] [] [2,7,14] [],wH b),(.lp 0 [2,7,10] [] [2,7] [],H6 b)])
theorem Fo:yA.map told=some (alm (av yA)):=by kernel_rfl
theorem awO:tree Ha=RA xt:=aJ Fo
theorem H5:round 2 [2,7,14,15] [] [2,7,14] [] (xt 0)=wH xt:=br Fo 0 fun _=>rfl
theorem abb:round 0 [2,7,10] [] [2,7] [] (xt 1)=H6 xt:=br Fo 1 fun _=>rfl
theorem ahz:yA=some Ha:=aC Fo
noncomputable def xD:Option PC:=aA {ctx with fr:=[6],nh:=[]} Tryz.f225 ((ae af 225).getD default) [2,4,5]
noncomputable def FH:PC:=ay xD
noncomputable def Jm:Nat→PC:=bz xD
def aiX (b:Nat→PC):PC:=.each gZ [16] [4,5] (some (.tup [(pc o4 0),(pc o5 0)])) (b 0)
def OQ (b:Nat→PC):PT:=
 (.exit 1000000007 ⟨[],[(4,(.setc o4 0 bU)),(5,(.setc o5 0 (pi 0)))]⟩)
def Qi (b:Nat→PC):PT:=
 (.call ⟨[],[(5,AU),(4,AU),(2,(.mk [r0]))]⟩ [] 8 120 [r1]
 (.ite (.nt r8)
 (.ret (.tup [(pc (.setc o4 0 (pi 0)) 0),(pc (.setc o5 0 (pi 3)) 0)]))
 (.call ⟨[],[]⟩ [] 15 268 [(au 6 o2),r1,(.mn (aH r1 (pi 400)) (pi 100000))]
 (.blockS ⟨[],[]⟩ 0 [] [4,5]
 (.callc ⟨[],[]⟩ [] 18 gm []
 (.brk ⟨[],[]⟩
(aiX b)
 (.next ⟨[],[]⟩)))
 (.ret (.tup [(pc (.setc o4 0 (pi 0)) 0),(pc (.setc o5 0 (pi 3)) 0)]))))))
def ajQ (b:Nat→PC):PT×List (Shp×PT):=(Qi b,[(.ea [4,5],OQ b)])
theorem Nt:xD.map told=some (ajQ (av xD)):=by kernel_rfl
theorem avm:tree FH=Qi Jm:=aJ Nt
theorem atP:nf [4,5] (Jm 0)=OQ Jm:=P6 Nt 0 fun _=>rfl
theorem agf:xD=some FH:=aC Nt
noncomputable def CJ:Option PC:=aA {ctx with fr:=[6],nh:=[]} Tryz.f268 ((ae af 268).getD default) [3,4,5]
noncomputable def FJ:PC:=ay CJ
def Qk:PT:=
 (.ret (.clo 289 [(.ref (pc (.mk [r1]) 0)),(.ref (pc (.mk [r2]) 0)),(.ref (au 6 (.mk [r0])))]))
def ajS (b:Nat→PC):PT×List (Shp×PT):=(Qk,[])
theorem YX:CJ.map told=some (ajS (av CJ)):=by kernel_rfl
theorem avp:tree FJ=Qk:=aJ YX
theorem agj:CJ=some FJ:=aC YX
noncomputable def ui:Option PC:=yJ {ctx with fr:=[5],nh:=[]} Tryz.f289 [(.ref I),(.ref I),(.ref Y0)] [I] 1000 [1000]
noncomputable def AH:PC:=ay ui
noncomputable def Jn:Nat→PC:=bz ui
def apD (b:Nat→PC):PC:=.block 0 [5,7,8,9] [1000] (.loop [5] [1000] (b 0))
def HR (b:Nat→PC):PT:=
 (.ite (bM r5 (.deref r2))
 (.blockS ⟨[],[]⟩ 1 [12,13,14,15,20] [1000]
 (.call ⟨[],[]⟩ [] 14 121 [(.deref r3),r5]
 (.call ⟨[(15,cS)],[(1000,aay)]⟩ [(15,true)] 18 1000000009 [aay]
 (.ite (.pick gm (.nt gZ) pF)
 (.ret (.o 1000))
 (.next ⟨[],[]⟩))))
 (.next ⟨[(5,nV)],[]⟩))
 (.exit 0 ⟨[(7,r5),(8,(.deref r2)),(9,(bM r5 (.deref r2)))],[]⟩))
def Ql (b:Nat→PC):PT:=
 (.brk ⟨[(5,(.deref r1))],[]⟩
(apD b)
 (.ret (.o 1000)))
def ajT (b:Nat→PC):PT×List (Shp×PT):=(Ql b,[(.lp 0 [5,7,8,9] [1000] [5] [1000],HR b)])
theorem Nu:ui.map told=some (ajT (av ui)):=by kernel_rfl
theorem avo:tree AH=Ql Jn:=aJ Nu
theorem aa1:round 0 [5,7,8,9] [1000] [5] [1000] (Jn 0)=HR Jn:=br Nu 0 fun _=>rfl
theorem agi:ui=some AH:=aC Nu
theorem ahE:∀yv,yJ {ctx with fr:=[5],nh:=[],yv:=yv} Tryz.f289 [(.ref I),(.ref I),(.ref Y0)] [I] 1000 [1000]=some AH:=fun yv=>(show _=ui by kernel_rfl).trans agi
noncomputable def CM:Option PC:=aA {ctx with fr:=[4,5,6,7],nh:=[]} Tryz.f121 ((ae af 121).getD default) [2]
noncomputable def FM:PC:=ay CM
def Qm:PT:=
 (.call ⟨[],[(2,(.mk [r0]))]⟩ [] 10 201 [r1]
 (.chk (aO (pi 7) (pi 0))
 (.call ⟨[(7,(.tget dj 2)),(6,(.tget dj 1))],[]⟩ [] 19 94 [(pc o2 3),(.ai .rem .i64 (aH r1 (pi 5)) (pi 7))]
 (.call ⟨[(21,(.nt fX))],[]⟩ [(21,true)] 28 94 [(pc o2 4),(aH (.ai .mul .i64 (pi 100) r6) r7)]
 (.call ⟨[(31,(.pick jn (.nt pK) pF))],[]⟩ [(31,true)] 35 94 [(pc o2 5),r1]
 (.ret (.pick q5 (.nt wx) pF)))))))
def ajW (b:Nat→PC):PT×List (Shp×PT):=(Qm,[])
theorem Za:CM.map told=some (ajW (av CM)):=by kernel_rfl
theorem avr:tree FM=Qm:=aJ Za
theorem agm:CM=some FM:=aC Za
noncomputable def CU:Option PC:=aA {ctx with fr:=[4],nh:=[]} Tryz.f27 ((ae af 27).getD default) [2,3]
noncomputable def FW:PC:=ay CU
def Qt:PT:=
 (.call ⟨[],[(2,(.mk [r0]))]⟩ [] 7 53 [ko,(au 19 (.mk [r1]))]
 (.call ⟨[(8,r7)],[]⟩ [(8,true)] 10 62 [(au 8 o2)]
 (.ret (.pick r8 (aw dj (pi 0)) pF))))
def aj6 (b:Nat→PC):PT×List (Shp×PT):=(Qt,[])
theorem Zg:CU.map told=some (aj6 (av CU)):=by kernel_rfl
theorem avC:tree FW=Qt:=aJ Zg
theorem agw:CU=some FW:=aC Zg
noncomputable def xY:Option PC:=aA {ctx with fr:=[4,5],nh:=[]} Tryz.f53 ((ae af 53).getD default) [2,3]
noncomputable def Gq:PC:=ay xY
noncomputable def Jy:Nat→PC:=bz xY
def ap0 (b:Nat→PC):PC:=.block 0 [4,5,14,15,16,17,18] [] (.loop [4,5] [] (b 0))
def Bm (b:Nat→PC):PT:=
 (.ite (ak r5 (.llen (pc o2 4)))
 (.blockS ⟨[],[]⟩ 1 [4,21,22,23,24,25,26,27] []
 (.chk (aq (pc o2 4) r5)
 (.call ⟨[],[]⟩ [] 26 128 [(pn (pc o2 4) r5)]
 (.ite (.nt kq)
 (.ret pF)
 (.next ⟨[],[]⟩))))
 (.next ⟨[(5,nV)],[]⟩))
 (.exit 0 ⟨[(14,r5),(15,pN),(16,(pc o2 4)),(17,(.llen (pc o2 4))),(18,(ak r5 (.llen (pc o2 4))))],[]⟩))
def QU (b:Nat→PC):PT:=
 (.call ⟨[(4,pF)],[(3,(.mk [r1])),(2,(.mk [r0]))]⟩ [] 7 58 [ko]
 (.call ⟨[(9,(.nt r7))],[]⟩ [(9,false)] 11 127 [(au 19 o3)]
 (.ite (.pick r9 pT (.nt aU))
 (.ret pF)
 (.brk ⟨[(5,(pi 0))],[]⟩
(ap0 b)
 (.ret pT)))))
def akz (b:Nat→PC):PT×List (Shp×PT):=(QU b,[(.lp 0 [4,5,14,15,16,17,18] [] [4,5] [],Bm b)])
theorem NG:xY.map told=some (akz (av xY)):=by kernel_rfl
theorem av5:tree Gq=QU Jy:=aJ NG
theorem O9:round 0 [4,5,14,15,16,17,18] [] [4,5] [] (Jy 0)=Bm Jy:=br NG 0 fun _=>rfl
theorem agV:xY=some Gq:=aC NG
noncomputable def xL:Option PC:=aA {ctx with fr:=[2,3,4],nh:=[]} Tryz.f58 ((ae af 58).getD default) [1]
noncomputable def F6:PC:=ay xL
noncomputable def xf:Nat→PC:=bz xL
def apH (b:Nat→PC):PC:=.block 0 [2,3,5,6,7,8,9,10,13] [] (.loop [2,3] [] (b 0))
def apI (b:Nat→PC):PC:=.block 2 [2,4,44,45,46,47,48,49,52] [] (.loop [2,4] [] (b 1))
def tI (b:Nat→PC):PT:=
 (.ite (.pick (ak r3 jK) (ak r3 (pi 50)) pF)
 (.chk (aq (pc o1 1) r3)
 (.chk (.nt (.an (.an (.nt (be (.llen (pc (pn (pc o1 1) r3) 4)) (pi 70))) pT) (.nt (aq (pc o1 1) r3))))
 (.chk (.nt (.an (.an (.nt aat) pT) (.nt (aq (pc o1 1) r3))))
 (.ite (.pick aat pT (be (.llen (pc (pn (pc o1 1) r3) 3)) (pi 8)))
 (.ret pF)
 (.next ⟨[(3,nW)],[]⟩)))))
 (.exit 0 ⟨[(5,r3),(6,pN),(7,(pc o1 1)),(8,jK),(9,(ak r3 jK)),(10,(ak r3 jK)),(13,(.pick (ak r3 jK) (ak r3 (pi 50)) pF))],[]⟩))
def wD (b:Nat→PC):PT:=
 (.ite (.pick (ak r4 lV) (ak r4 (pi 50)) pF)
 (.chk (aq (pc o1 4) r4)
 (.chk (.nt (.an (.an (.nt (be (.llen (pc tA 2)) (pi 40))) pT) (.nt (aq (pc o1 4) r4))))
 (.ite (.pick (be (.llen (pc tA 2)) (pi 40)) pT (be (.llen (pc tA 3)) (pi 40)))
 (.ret pF)
 (.next ⟨[(4,(aH r4 (pi 1)))],[]⟩))))
 (.exit 2 ⟨[(44,r4),(45,pN),(46,(pc o1 4)),(47,lV),(48,(ak r4 lV)),(49,(ak r4 lV)),(52,(.pick (ak r4 lV) (ak r4 (pi 50)) pF))],[]⟩))
def QD (b:Nat→PC):PT:=
 (.brk ⟨[(3,(pi 0)),(2,pF)],[(1,(.mk [r0]))]⟩
(apH b)
 (.brk ⟨[(4,(pi 0))],[]⟩
(apI b)
 (.ret (.pick (.pick (.pick (.pick (.pick (.pick (.pick (ak qZ (pi 50)) (ak jK (pi 50)) pF) (ak nU (pi 50)) pF) (ak lh (pi 210)) pF) (ak lV (pi 50)) pF) (ak wu (pi 110)) pF) (ak (.llen (pc o1 6)) (pi 110)) pF) (ak tE (pi 50)) pF))))
def akh (b:Nat→PC):PT×List (Shp×PT):=(QD b,[(.lp 0 [2,3,5,6,7,8,9,10,13] [] [2,3] [],tI b),(.lp 2 [2,4,44,45,46,47,48,49,52] [] [2,4] [],wD b)])
theorem Fa:xL.map told=some (akh (av xL)):=by kernel_rfl
theorem avO:tree F6=QD xf:=aJ Fa
theorem A6:round 0 [2,3,5,6,7,8,9,10,13] [] [2,3] [] (xf 0)=tI xf:=br Fa 0 fun _=>rfl
theorem HS:round 2 [2,4,44,45,46,47,48,49,52] [] [2,4] [] (xf 1)=wD xf:=br Fa 1 fun _=>rfl
theorem agD:xL=some F6:=aC Fa
noncomputable def C3:Option PC:=aA {ctx with fr:=[2],nh:=[]} Tryz.f127 ((ae af 127).getD default) [1]
noncomputable def Gk:PC:=ay C3
def QQ:PT:=
 (.ret (.pick (.pick (.pick (bM (.llen (pc (.mk [r0]) 15)) (pi 50)) (bM (.llen (pc (.mk [r0]) 16)) (pi 10)) pF) (bM (.llen (pc (.mk [r0]) 17)) (pi 110)) pF) (bM (.llen (pc (.mk [r0]) 18)) (pi 220)) pF))
def aku (b:Nat→PC):PT×List (Shp×PT):=(QQ,[])
theorem Zs:C3.map told=some (aku (av C3)):=by kernel_rfl
theorem av1:tree Gk=QQ:=aJ Zs
theorem agQ:C3=some Gk:=aC Zs
noncomputable def xX:Option PC:=aA {ctx with fr:=[2,3],nh:=[]} Tryz.f128 ((ae af 128).getD default) [1]
noncomputable def Gp:PC:=ay xX
noncomputable def Jx:Nat→PC:=bz xX
def apZ (b:Nat→PC):PC:=.block 0 [2,3,14,15,16,17,18] [] (.loop [2,3] [] (b 0))
def Bl (b:Nat→PC):PT:=
 (.ite (ak r3 lh)
 (.blockS ⟨[],[]⟩ 1 [2,21,22,23,24,25,26,27,28] []
 (.chk (aq (pc o1 3) r3)
 (.call ⟨[],[]⟩ [] 27 203 [(.sub (pn (pc o1 3) r3) 1 3)]
 (.ite (.nt eX)
 (.ret pF)
 (.next ⟨[],[]⟩))))
 (.next ⟨[(3,nW)],[]⟩))
 (.exit 0 ⟨[(14,r3),(15,pN),(16,(pc o1 3)),(17,lh),(18,(ak r3 lh))],[]⟩))
def QT (b:Nat→PC):PT:=
 (.ite (.pick (be (.llen (pc (.mk [r0]) 3)) (pi 60)) pT (be mZ (pi 60)))
 (.ret pF)
 (.brk ⟨[(3,(pi 0)),(2,pF)],[(1,(.mk [r0]))]⟩
(apZ b)
 (.ret pT)))
def aky (b:Nat→PC):PT×List (Shp×PT):=(QT b,[(.lp 0 [2,3,14,15,16,17,18] [] [2,3] [],Bl b)])
theorem NF:xX.map told=some (aky (av xX)):=by kernel_rfl
theorem av4:tree Gp=QT Jx:=aJ NF
theorem O8:round 0 [2,3,14,15,16,17,18] [] [2,3] [] (Jx 0)=Bl Jx:=br NF 0 fun _=>rfl
theorem agU:xX=some Gp:=aC NF
noncomputable def C4:Option PC:=aA {ctx with fr:=[2],nh:=[]} Tryz.f203 ((ae af 203).getD default) [1]
noncomputable def Gl:PC:=ay C4
def QR:PT:=
 (.call ⟨[],[]⟩ [] 4 243 [HH,(pi 100),(pi 20)]
 (.ret (bt r4 (pi 0))))
def akv (b:Nat→PC):PT×List (Shp×PT):=(QR,[])
theorem Zt:C4.map told=some (akv (av C4)):=by kernel_rfl
theorem av2:tree Gl=QR:=aJ Zt
theorem agR:C4=some Gl:=aC Zt
noncomputable def xW:Option PC:=aA {ctx with fr:=[6,1,7],nh:=[]} Tryz.f243 ((ae af 243).getD default) [3]
noncomputable def Gn:PC:=ay xW
noncomputable def Jw:Nat→PC:=bz xW
def apY (b:Nat→PC):PC:=.block 0 [1,7,12,13,14,15,16,17,20] [] (.loop [1,7] [] (b 0))
def Bk (b:Nat→PC):PT:=
 (.ite (.pick (ak r7 lU) (bt r1 (pi 0)) pF)
 (.blockS ⟨[],[]⟩ 1 [1,23,24,25,26,27,28,29,30,31] []
 (.chk (aq (pc o3 2) r7)
 (.call ⟨[],[]⟩ [] 31 243 [(pn (pc o3 2) r7),r1,(bh r2 (pi 1))]
 (.next ⟨[(1,q5)],[]⟩)))
 (.next ⟨[(7,(aH r7 (pi 1)))],[]⟩))
 (.exit 0 ⟨[(12,r7),(13,pN),(14,(pc o3 2)),(15,lU),(16,(ak r7 lU)),(17,(ak r7 lU)),(20,(.pick (ak r7 lU) (bt r1 (pi 0)) pF))],[]⟩))
def IE (b:Nat→PC):PT:=
 (.ite (ak r2 (pi 1))
 (.ret (pi (-1)))
 (.brk ⟨[(7,(pi 0)),(1,(bh r1 (pi 1)))],[(3,(.mk [r0]))]⟩
(apY b)
 (.ret r1)))
def akx (b:Nat→PC):PT×List (Shp×PT):=(IE b,[(.lp 0 [1,7,12,13,14,15,16,17,20] [] [1,7] [],Bk b)])
theorem ND:xW.map told=some (akx (av xW)):=by kernel_rfl
theorem ab1:tree Gn=IE Jw:=aJ ND
theorem O7:round 0 [1,7,12,13,14,15,16,17,20] [] [1,7] [] (Jw 0)=Bk Jw:=br ND 0 fun _=>rfl
theorem agT:xW=some Gn:=aC ND
noncomputable def CZ:Option PC:=aA {ctx with fr:=[2,3],nh:=[]} Tryz.f62 ((ae af 62).getD default) [1]
noncomputable def F5:PC:=ay CZ
def QC:PT:=
 (.call ⟨[],[(1,(.mk [r0]))]⟩ [] 5 145 [ko]
 (.iteS ⟨[(3,r5)],[]⟩ (aw r5 (pi 0)) [3] []
 (.call ⟨[],[]⟩ [] 9 146 [(au 8 o1)]
 (.next ⟨[(3,r9)],[]⟩))
 (.next ⟨[],[]⟩)
 (.iteS ⟨[],[]⟩ (aw r3 (pi 0)) [3] []
 (.call ⟨[],[]⟩ [] 13 147 [(au 8 o1)]
 (.next ⟨[(3,dx)],[]⟩))
 (.next ⟨[],[]⟩)
 (.iteS ⟨[],[]⟩ (aw r3 (pi 0)) [3] []
 (.call ⟨[],[]⟩ [] 17 148 [(au 8 o1)]
 (.next ⟨[(3,jL)],[]⟩))
 (.next ⟨[],[]⟩)
 (.iteS ⟨[],[]⟩ (aw r3 (pi 0)) [3] []
 (.call ⟨[],[]⟩ [] 21 149 [(au 8 o1)]
 (.next ⟨[(3,jn)],[]⟩))
 (.next ⟨[],[]⟩)
 (.ret r3))))))
def akg (b:Nat→PC):PT×List (Shp×PT):=(QC,[])
theorem Zo:CZ.map told=some (akg (av CZ)):=by kernel_rfl
theorem avN:tree F5=QC:=aJ Zo
theorem agC:CZ=some F5:=aC Zo
noncomputable def xQ:Option PC:=aA {ctx with fr:=[2,3,4,6,7],nh:=[]} Tryz.f145 ((ae af 145).getD default) [1,5,44]
noncomputable def Gd:PC:=ay xQ
noncomputable def xh:Nat→PC:=bz xQ
def apO (b:Nat→PC):PC:=.block 0 [2,3,12,13,14,15,16] [] (.loop [2,3] [] (b 0))
def apP (b:Nat→PC):PC:=.block 2 [2,5,6,30,31,32,33,34] [5] (.loop [2,5,6] [5] (b 1))
def Bc (b:Nat→PC):PT:=
 (.ite (ak r3 qZ)
 (.blockS ⟨[],[]⟩ 1 [2,4,19,20,21,22,23,24] []
 (.call ⟨[],[]⟩ [] 22 208 [(pc o1 0),r3]
 (.ite (aO HK (pi 0))
 (.ret HK)
 (.next ⟨[],[]⟩)))
 (.next ⟨[(3,nW)],[]⟩))
 (.exit 0 ⟨[(12,r3),(13,pN),(14,(pc o1 0)),(15,qZ),(16,(ak r3 qZ))],[]⟩))
def Bd (b:Nat→PC):PT:=
 (.ite (ak r6 jK)
 (.blockS ⟨[],[]⟩ 3 [2,5,7,38,39,40,41,42,43,44,45,46,47,48,49,50,52,53,54,55,56,57,58,59] [44,5]
 (.chk (aq (pc o1 1) r6)
 (.chk (bM (.llen OB) cG)
 (.call ⟨[(5,pN)],[(5,OB)]⟩ [] 48 208 [OB,r6]
 (.ite (aO od (pi 0))
 (.ret od)
 (.chk (aq (pc o1 1) r6)
 (.call ⟨[],[]⟩ [] 58 209 [(au 8 o1),(pn (pc o1 1) r6)]
 (.ite (.nt HN)
 (.ret (pi 1))
 (.next ⟨[],[]⟩))))))))
 (.next ⟨[(6,(aH r6 (pi 1)))],[]⟩))
 (.exit 2 ⟨[(30,r6),(31,pN),(32,(pc o1 1)),(33,jK),(34,(ak r6 jK))],[]⟩))
def QK (b:Nat→PC):PT:=
 (.ite (be (.llen jJ) (pi 8))
 (.ret (pi 6))
 (.brk ⟨[(3,(pi 0)),(2,(pi 0))],[(1,(.mk [r0]))]⟩
(apO b)
 (.ite (be jK (pi 40))
 (.ret (pi 6))
 (.brk ⟨[(6,(pi 0)),(5,pN)],[(5,pL)]⟩
(apP b)
 (.ret (pi 0))))))
def ako (b:Nat→PC):PT×List (Shp×PT):=(QK b,[(.lp 0 [2,3,12,13,14,15,16] [] [2,3] [],Bc b),(.lp 2 [2,5,6,30,31,32,33,34] [5] [2,5,6] [5],Bd b)])
theorem Fc:xQ.map told=some (ako (av xQ)):=by kernel_rfl
theorem avV:tree Gd=QK xh:=aJ Fc
theorem OZ:round 0 [2,3,12,13,14,15,16] [] [2,3] [] (xh 0)=Bc xh:=br Fc 0 fun _=>rfl
theorem O0:round 2 [2,5,6,30,31,32,33,34] [5] [2,5,6] [5] (xh 1)=Bd xh:=br Fc 1 fun _=>rfl
theorem agK:xQ=some Gd:=aC Fc
noncomputable def C2:Option PC:=aA {ctx with fr:=[4],nh:=[]} Tryz.f208 ((ae af 208).getD default) []
noncomputable def Gf:PC:=ay C2
def QM:PT:=
 (.chk (aq r0 r1)
 (.call ⟨[],[]⟩ [] 9 257 [(pn r0 r1)]
 (.ite (.nt r9)
 (.ret (pi 2))
 (.chk (aq r0 r1)
 (.call ⟨[],[]⟩ [] 17 258 [r0,r1,(pn r0 r1)]
 (.ite jL
 (.ret (pi 5))
 (.ret (pi 0))))))))
def akq (b:Nat→PC):PT×List (Shp×PT):=(QM,[])
theorem Zr:C2.map told=some (akq (av C2)):=by kernel_rfl
theorem avX:tree Gf=QM:=aJ Zr
theorem agM:C2=some Gf:=aC Zr
noncomputable def xM:Option PC:=aA {ctx with fr:=[2,3,4],nh:=[]} Tryz.f257 ((ae af 257).getD default) []
noncomputable def F8:PC:=ay xM
noncomputable def Jr:Nat→PC:=bz xM
def apJ (b:Nat→PC):PC:=.block 0 [2,3,13,14,15,16] [] (.loop [2,3] [] (b 0))
def A7 (b:Nat→PC):PT:=
 (.ite (ak r3 (.slen r0))
 (.blockS ⟨[],[]⟩ 1 [2,4,19,20,21,22,23,34,35,36,37,38,39,40,47] []
 (.chk (.sok r0 r3)
 (.chk (.nt (.an (.an (.nt OA) pT) (.nt (.sok r0 r3))))
 (.chk (.nt (.an (.an (bM (.con (.v (.int .u8 48))) (.sidx r0 r3)) (.an (.nt OA) pT)) (.nt (.sok r0 r3))))
 (.call ⟨[(4,(.pick OA pT (.pick (bM (.con (.v (.int .u8 48))) (.sidx r0 r3)) (bM (.sidx r0 r3) (.con (.v (.int .u8 57)))) pF)))],[]⟩ [] 38 285 [(.sidx r0 r3)]
 (.ite (.pick (.nt gJ) (.pick (aw r3 (pi 0)) pT (.nt r4)) pF)
 (.ret pF)
 (.next ⟨[],[]⟩))))))
 (.next ⟨[(3,nW)],[]⟩))
 (.exit 0 ⟨[(13,r3),(14,r0),(15,(.slen r0)),(16,(ak r3 (.slen r0)))],[]⟩))
def QF (b:Nat→PC):PT:=
 (.ite (.pick (ak (.slen r0) (pi 1)) pT (be (.slen r0) (pi 20)))
 (.ret pF)
 (.brk ⟨[(3,(pi 0)),(2,pF)],[]⟩
(apJ b)
 (.ret pT)))
def akj (b:Nat→PC):PT×List (Shp×PT):=(QF b,[(.lp 0 [2,3,13,14,15,16] [] [2,3] [],A7 b)])
theorem Ny:xM.map told=some (akj (av xM)):=by kernel_rfl
theorem avQ:tree F8=QF Jr:=aJ Ny
theorem OU:round 0 [2,3,13,14,15,16] [] [2,3] [] (Jr 0)=A7 Jr:=br Ny 0 fun _=>rfl
theorem agF:xM=some F8:=aC Ny
noncomputable def C0:Option PC:=aA {ctx with fr:=[2],nh:=[]} Tryz.f285 ((ae af 285).getD default) []
noncomputable def F7:PC:=ay C0
def QE:PT:=
 (.ret (.pick (.pick (bM (.con (.v (.int .u8 97))) r0) (bM r0 (.con (.v (.int .u8 122)))) pF) pT (.pick (bM (.con (.v (.int .u8 65))) r0) (bM r0 (.con (.v (.int .u8 90)))) pF)))
def aki (b:Nat→PC):PT×List (Shp×PT):=(QE,[])
theorem Zp:C0.map told=some (aki (av C0)):=by kernel_rfl
theorem avP:tree F7=QE:=aJ Zp
theorem agE:C0=some F7:=aC Zp
noncomputable def xK:Option PC:=aA {ctx with fr:=[6,7],nh:=[]} Tryz.f258 ((ae af 258).getD default) []
noncomputable def F4:PC:=ay xK
noncomputable def Jq:Nat→PC:=bz xK
def apG (b:Nat→PC):PC:=.block 0 [6,7,8,9,10,11,16] [] (.loop [6,7] [] (b 0))
def A5 (b:Nat→PC):PT:=
 (.ite (.pick (ak r7 r1) (ak r7 (.llen r0)) pF)
 (.chk (aq r0 r7)
 (.ite (.cs .eql (pn r0 r7) r2)
 (.ret pT)
 (.next ⟨[(7,(aH r7 (pi 1)))],[]⟩)))
 (.exit 0 ⟨[(8,r7),(9,r1),(10,(ak r7 r1)),(11,(ak r7 r1)),(16,(.pick (ak r7 r1) (ak r7 (.llen r0)) pF))],[]⟩))
def QB (b:Nat→PC):PT:=
 (.brk ⟨[(7,(pi 0)),(6,pF)],[]⟩
(apG b)
 (.ret pF))
def akf (b:Nat→PC):PT×List (Shp×PT):=(QB b,[(.lp 0 [6,7,8,9,10,11,16] [] [6,7] [],A5 b)])
theorem Nx:xK.map told=some (akf (av xK)):=by kernel_rfl
theorem avM:tree F4=QB Jq:=aJ Nx
theorem OT:round 0 [6,7,8,9,10,11,16] [] [6,7] [] (Jq 0)=A5 Jq:=br Nx 0 fun _=>rfl
theorem agB:xK=some F4:=aC Nx
noncomputable def xN:Option PC:=aA {ctx with fr:=[4,5],nh:=[]} Tryz.f209 ((ae af 209).getD default) [2,3]
noncomputable def F9:PC:=ay xN
noncomputable def Js:Nat→PC:=bz xN
def apK (b:Nat→PC):PC:=.block 0 [4,5,36,37,38,39,40] [] (.loop [4,5] [] (b 0))
def A8 (b:Nat→PC):PT:=
 (.ite (ak r5 (.llen (pc o3 4)))
 (.blockS ⟨[],[]⟩ 1 [4,43,44,45,46,47,48,49,50,51,60] []
 (.chk (aq (pc o3 4) r5)
 (.chk wj
 (.call ⟨[],[]⟩ [] 49 210 [(.ai .quo .i64 (pn (pc o3 4) r5) (pi 100)),(pi 1),(pi 12)]
 (.chk (.nt (.an (.an (.nt (.nt pO)) pT) (.nt (aq (pc o3 4) r5))))
 (.chk (.nt (.an (.an (.nt (.nt pO)) pT) (.nt wj)))
 (.call ⟨[(51,(.nt pO))],[]⟩ [(51,false)] 58 210 [(.ai .rem .i64 (pn (pc o3 4) r5) (pi 100)),(pi 1),(pi 31)]
 (.ite (.pick HL pT (.nt HN))
 (.ret pF)
 (.next ⟨[],[]⟩))))))))
 (.next ⟨[(5,nV)],[]⟩))
 (.exit 0 ⟨[(36,r5),(37,pN),(38,(pc o3 4)),(39,(.llen (pc o3 4))),(40,(ak r5 (.llen (pc o3 4))))],[]⟩))
def QG (b:Nat→PC):PT:=
 (.call ⟨[(4,pF)],[(3,(.mk [r1])),(2,(.mk [r0]))]⟩ [] 12 210 [(pc (.mk [r1]) 1),(pi 0),(bh (.llen tC) (pi 1))]
 (.call ⟨[(14,(.nt bT))],[]⟩ [(14,false)] 21 210 [(pc o3 2),(pi 0),(bh (.llen (pc o2 0)) (pi 1))]
 (.ite (.pick (.pick (.pick cS pT (.nt jn)) pT (be (.llen (pc o3 4)) (pi 60))) pT (be (.llen (pc o3 5)) (pi 200)))
 (.ret pF)
 (.brk ⟨[(5,(pi 0))],[]⟩
(apK b)
 (.call ⟨[],[]⟩ [] 63 259 [(pc o3 3),(pi 0),(pi 6)]
 (.call ⟨[(64,OM)],[]⟩ [(64,true)] 67 259 [(pc o3 4),(pi 0),(pi 2000)]
 (.call ⟨[(69,(.pick HO q8 pF))],[]⟩ [(69,true)] 72 259 [(pc o3 5),(pi 0),(pi 100000)]
 (.ret (.pick pQ HP pF)))))))))
def akk (b:Nat→PC):PT×List (Shp×PT):=(QG b,[(.lp 0 [4,5,36,37,38,39,40] [] [4,5] [],A8 b)])
theorem Nz:xN.map told=some (akk (av xN)):=by kernel_rfl
theorem avR:tree F9=QG Js:=aJ Nz
theorem OV:round 0 [4,5,36,37,38,39,40] [] [4,5] [] (Js 0)=A8 Js:=br Nz 0 fun _=>rfl
theorem agG:xN=some F9:=aC Nz
end Rm
