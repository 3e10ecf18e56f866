/-
  The functions of this seat, compiled (2).
-/
import Derived.Test.YtipjidjopglknaaGreatDoorNAK
import Derived.KernelRfl
set_option linter.unusedVariables false
set_option maxRecDepth 100000
noncomputable section
namespace Rm
open Go Go.Proofs Cx
def Hr:Option PC:=cF [8] [] Tryz.f111 111 [4,9]
def vx:PT:=
 (.ite (.pick (.pick (.pick (.pick (aj r1 (pi 0)) pT (cL r1 (pc (.setc E5 0 (.llen xN)) 0))) pT (aj r2 (pi 0))) pT (cL r2 (pi 22))) pT (aU (.llen r3) (pi 5)))
 (.ret pF)
 (.call ⟨[],[]⟩ [] 35 150 [r3,(.clo 151 [(.ref (pc (.setc E5 0 (.llen xN)) 0))])]
 (.ret (.nt xP))))
theorem abc:Hr.map told=some (vx,[]):=by kernel_rfl
theorem atd:tree (ae Hr)=vx:=ba abc
def Hs:Option PC:=cF [3] [] Tryz.f151 151 []
def Tt:PT:=
 (.ret (.pick (aj r0 (pi 0)) pT (cL r0 (.deref r1))))
theorem abd:Hs.map told=some (Tt,[]):=by kernel_rfl
theorem atc:tree (ae Hs)=Tt:=ba abd
def HZ:Option PC:=cF [4] [] Tryz.f150 150 []
def UE:PT:=
 (.call ⟨[],[]⟩ [] 7 173 [r0,r1]
 (.ret (cL r7 (pi 0))))
theorem abL:HZ.map told=some (UE,[]):=by kernel_rfl
theorem aut:tree (ae HZ)=UE:=ba abL
def zr:Option PC:=cF [4,5] [] Tryz.f173 173 []
def MT:Nat→PC:=br zr
def aoY (b:Nat→PC):PC:=.block 0 [4,8,9] [] (.loop [4,8] [] (b 0))
def F2 (b:Nat→PC):PT:=
 (.ite (aj r8 r7)
 (.blockS ⟨[],[]⟩ 1 [4,5,10,11,12,13,14,15,16] []
 (.chk (ar r0 r8)
 (.callc ⟨[(5,r8)],[]⟩ [] 16 r1 [(pn r0 r8)]
 (.ite cN
 (.ret r5)
 (.next ⟨[],[]⟩))))
 (.next ⟨[(8,tC)],[]⟩))
 (.exit 0 ⟨[(9,(aj r8 r7))],[]⟩))
def UJ (b:Nat→PC):PT:=
 (.brk ⟨[(8,(pi 0)),(7,(.llen r0)),(4,(pi 0))],[]⟩
(aoY b)
 (.ret (pi (-1))))
def aj2 (b:Nat→PC):PT×List (Shp×PT):=(UJ b,[(.lp 0 [4,8,9] [] [4,8] [],F2 b)])
theorem QF:zr.map told=some (aj2 (bq zr)):=by kernel_rfl
theorem auz:tree (ae zr)=UJ MT:=bN QF
theorem Sm:round 0 [4,8,9] [] [4,8] [] (MT 0)=F2 MT:=bj QF 0 fun _=>rfl
def yM:Option PC:=cF [8,9] [] Tryz.f112 112 [4,11]
def Mt:Nat→PC:=br yM
def an0 (b:Nat→PC):PC:=.block 0 [8,9,25,26] [] (.loop [8,9,25] [] (b 0))
def Fl (b:Nat→PC):PT:=
 (.ite (aj jI oT)
 (.chk (ar j2 jI)
 (.ite (.pick (peq (pc E3 0) r2) (aU (pc E3 1) (pi 0)) pF)
 (.chk (ar r3 (pc E3 1))
 (.ret (.tup [(pn r3 (pc E3 1)),(pc E3 2)])))
 (.next ⟨[(25,(aN jI (pi 1)))],[]⟩)))
 (.exit 0 ⟨[(26,(aj jI oT))],[]⟩))
def Ts (b:Nat→PC):PT:=
 (.call ⟨[(9,pF),(8,(pi 0))],[(4,(.mk [r0]))]⟩ [] 16 111 [lg,r1,r2,r3]
 (.ite (.nt cN)
 (.ret (.tup [(pi (-1)),pF]))
 (.chk (ar (pc o4 4) r1)
 (.brk ⟨[(25,(pi 0)),(24,(.llen (pc (pn (pc o4 4) r1) 2))),(23,(pc (pn (pc o4 4) r1) 2))],[]⟩
(an0 b)
 (.ret (.tup [r1,pF]))))))
def ajm (b:Nat→PC):PT×List (Shp×PT):=(Ts b,[(.lp 0 [8,9,25,26] [] [8,9,25] [],Fl b)])
theorem Qg:yM.map told=some (ajm (bq yM)):=by kernel_rfl
theorem atb:tree (ae yM)=Ts Mt:=bN Qg
theorem RI:round 0 [8,9,25,26] [] [8,9,25] [] (Mt 0)=Fl Mt:=bj Qg 0 fun _=>rfl
def Hy:Option PC:=cF [7,9,11,12] [] Tryz.f34 34 [3,6,8,10]
def TC:PT:=
 (.call ⟨[],[(6,fG)]⟩ [] 16 71 [(ax 4 (.mk [r0])),r1]
 (.ite (aU (.tget cN 1) (pi 0))
 (.ret (.tup [Re,(.tget cN 1)]))
 (.call ⟨[],[]⟩ [] 25 72 [(.mk [(pc (.setc kA 0 (.tget cN 0)) 0),(pc (.setc kA 0 (.tget cN 0)) 1),(pc (.setc kA 0 (.tget cN 0)) 2)]),r2]
 (.call ⟨[],[(10,(.setc fG 0 jI))]⟩ [] 28 69 [r1]
 (.ret (.tup [(.mk [(pc (.setc o6 0 (.mk [(pc Km 0),(pc Km 1)])) 0),(pc (.setc o6 0 (.mk [(pc Km 0),(pc Km 1)])) 1)]),(pi 0)]))))))
theorem abj:Hy.map told=some (TC,[]):=by kernel_rfl
theorem atm:tree (ae Hy)=TC:=ba abj
def HB:Option PC:=cF [5,6,7,8,10,11] [] Tryz.f71 71 [2,3,4,12292,9]
def TF:PT:=
 (.call ⟨[],[(4,kA),(3,(.mk [r1])),(2,(.mk [r0]))]⟩ [] 14 69 [Bp]
 (.ite (.nt (.tget dx 1))
 (.ret (.tup [Rb,(pi 1)]))
 (.call ⟨[(6,(.tget dx 0))],[]⟩ [] 23 113 [(pc o2 3),(.clo 114 [(.ref (pc o3 0))])]
 (.ite (aj j2 (pi 0))
 (.ret (.tup [Rb,(pi 4)]))
 (.chk (ar (pc o2 3) j2)
 (.call ⟨[],[(9,Kr)]⟩ [] 35 115 [(.mk [(pc Kr 0),(pc Kr 1),(pc Kr 2)])]
 (.ite (.pick (aU (.tget xP 1) (pi 0)) pT (aU (.tget xP 0) r6))
 (.ret (.tup [Rb,(pi 11)]))
 (.ret (.tup [(.mk [(pc Ri 0),(pc Ri 1),(pc Ri 2)]),(pi 0)])))))))))
theorem abm:HB.map told=some (TF,[]):=by kernel_rfl
theorem atq:tree (ae HB)=TF:=ba abm
def HC:Option PC:=cF [3] [] Tryz.f114 114 [2]
def TG:PT:=
 (.ret (peq kB (.deref r1)))
theorem abn:HC.map told=some (TG,[]):=by kernel_rfl
theorem atp:tree (ae HC)=TG:=ba abn
def zq:Option PC:=cF [4,5] [] Tryz.f113 113 []
def MS:Nat→PC:=br zq
def aoX (b:Nat→PC):PC:=.block 0 [4,8,9] [] (.loop [4,8] [] (b 0))
def F1 (b:Nat→PC):PT:=
 (.ite (aj r8 r7)
 (.blockS ⟨[],[]⟩ 1 [4,5,10,11,12,13,14,15,16] []
 (.chk (ar r0 r8)
 (.callc ⟨[(5,r8)],[]⟩ [] 16 r1 [(pn r0 r8)]
 (.ite cN
 (.ret r5)
 (.next ⟨[],[]⟩))))
 (.next ⟨[(8,tC)],[]⟩))
 (.exit 0 ⟨[(9,(aj r8 r7))],[]⟩))
def UI (b:Nat→PC):PT:=
 (.brk ⟨[(8,(pi 0)),(7,(.llen r0)),(4,(pi 0))],[]⟩
(aoX b)
 (.ret (pi (-1))))
def aj1 (b:Nat→PC):PT×List (Shp×PT):=(UI b,[(.lp 0 [4,8,9] [] [4,8] [],F1 b)])
theorem QE:zq.map told=some (aj1 (bq zq)):=by kernel_rfl
theorem auy:tree (ae zq)=UI MS:=bN QE
theorem Sl:round 0 [4,8,9] [] [4,8] [] (MS 0)=F1 MS:=bj QE 0 fun _=>rfl
def H6:Option PC:=cF [2,3] [] Tryz.f115 115 [1]
def US:PT:=
 (.call ⟨[],[(1,(.mk [r0]))]⟩ [] 5 152 [(.mk [kB,qu,vd]),(pi 1)]
 (.ite (aZ r5 (pi 60))
 (.ret (.tup [(pi 0),(pi 6)]))
 (.call ⟨[],[]⟩ [] 8 153 [(.mk [(pc o1 0),(pc o1 1),(pc o1 2)])]
 (.ret (.tup [(.tget r8 0),(.tget r8 1)])))))
theorem abU:H6.map told=some (US,[]):=by kernel_rfl
theorem auI:tree (ae H6)=US:=ba abU
def wc:Option PC:=cF [4,5] [] Tryz.f152 152 [2,7,12295]
def MZ:Nat→PC:=br wc
def ao7 (b:Nat→PC):PC:=.block 0 [5,13,14] [] (.loop [5,13] [] (b 0))
def F7 (b:Nat→PC):PT:=
 (.ite (aj cR cg)
 (.blockS ⟨[(14,(aj cR cg))],[]⟩ 1 [5,7,15,16,17,18,19,20,21,22,23,24] [7,12295]
 (.chk (ar bH cR)
 (.call ⟨[(17,r5)],[]⟩ [] 21 152 [(.mk [(pc (.setc kA 0 (pn bH cR)) 0),(pc (.setc kA 0 (pn bH cR)) 1),(pc (.setc kA 0 (pn bH cR)) 2)]),(aN r1 (pi 1))]
 (.ite (aZ (aN lS mF) (pi 60))
 (.exit 0 ⟨[(5,(aN lS mF))],[]⟩)
 (.next ⟨[(5,(aN lS mF))],[]⟩))))
 (.next ⟨[(13,(aN cR (pi 1)))],[]⟩))
 (.exit 0 ⟨[(14,(aj cR cg))],[]⟩))
def LI (b:Nat→PC):PT:=
 (.ite (aZ r1 (pi 8))
 (.ret (pi 61))
 (.brk ⟨[(13,(pi 0)),(12,qw),(11,vd),(5,(pi 1))],[]⟩
(ao7 b)
 (.ret r5)))
def aka (b:Nat→PC):PT×List (Shp×PT):=(LI b,[(.lp 0 [5,13,14] [] [5,13] [],F7 b)])
theorem QL:wc.map told=some (aka (bq wc)):=by kernel_rfl
theorem aew:tree (ae wc)=LI MZ:=bN QL
theorem Su:round 0 [5,13,14] [] [5,13] [] (MZ 0)=F7 MZ:=bj QL 0 fun _=>rfl
def zz:Option PC:=cF [2,3,5,7,8,38,47,10,11,12] [] Tryz.f153 153 [1,4,6,12294,9]
def Cv:Nat→PC:=br zz
def ao4 (b:Nat→PC):PC:=.block 0 [2,3,20,21] [4] (.loop [2,3,20] [4] (b 0))
def ao5 (b:Nat→PC):PC:=.block 3 [2,3,10,82,83] [] (.loop [2,3,10,82] [] (b 1))
def F5 (b:Nat→PC):PT:=
 (.ite (aj eZ jH)
 (.blockS ⟨[],[]⟩ 1 [2,3,5,6,7,8,22,23,24,25,26,27,28,29,30,31,33,34,35,36] [6,12294,4]
 (.chk (ar eg eZ)
 (.call ⟨[(5,eZ)],[]⟩ [] 27 153 [(.mk [(pc (.setc kA 0 (pn eg eZ)) 0),(pc (.setc kA 0 (pn eg eZ)) 1),(pc (.setc kA 0 (pn eg eZ)) 2)])]
 (.ite (aU (.tget fH 1) (pi 0))
 (.ret (.tup [(pi 0),(.tget fH 1)]))
 (.chk (ar o4 r5)
 (.next ⟨[],[(4,(.setn o4 r5 0 (.tget fH 0)))]⟩)))))
 (.next ⟨[(20,(aN eZ (pi 1)))],[]⟩))
 (.exit 0 ⟨[(21,(aj eZ jH))],[]⟩))
def vj (b:Nat→PC):PT:=
 (.ite (aj lq tI)
 (.chk (ar xS lq)
 (.ite (.pick (peq (pn xS lq) (pi (-1))) (peq di (pi (-1))) pF)
 (.chk (ar o4 lq)
 (.ite (aU (pn o4 lq) (.pick (peq (pn xS lq) (pi (-1))) (pn o4 lq) (pn xS lq)))
 (.ret (.tup [(pi 0),(pi 11)]))
 (.next ⟨[(10,(pn o4 lq)),(82,(aN lq (pi 1)))],[]⟩)))
 (.chk (ar o4 lq)
 (.ite (aU (pn o4 lq) (.pick (peq (pn xS lq) (pi (-1))) di (pn xS lq)))
 (.ret (.tup [(pi 0),(pi 11)]))
 (.next ⟨[(82,(aN lq (pi 1)))],[]⟩)))))
 (.exit 3 ⟨[(83,(aj lq tI))],[]⟩))
def UX (b:Nat→PC):PT:=
 (.chk (.an (cL qw (pi 0)) (bM qw cM))
 (.chk (peq qw qw)
 (.brk ⟨[(20,(pi 0)),(19,qw),(18,vd),(4,pN),(3,(pi 0)),(2,(pi 0))],[(4,(.rep qw (pi 0))),(1,(.mk [r0]))]⟩
(ao4 b)
 (.blockS ⟨[],[]⟩ 2 [2,3,38,39,40,41,42,46,47,48,49,50,51,55,56,60] []
 (.iteS ⟨[],[]⟩ (.pick (aj (pc o1 0) (pi 0)) pT (aZ (pc o1 0) (pi 13))) [2,3,47,48,49,50,51,55,56,60] []
 (.ret (.tup [(pi 0),(pi 1)]))
 (.iteS ⟨[],[]⟩ (.pick (.pick (peq (pc o1 0) (pi 0)) pT (peq (pc o1 0) (pi 1))) pT (peq (pc o1 0) (pi 2))) [2,3] []
 (.call ⟨[],[]⟩ [] 62 174 [(.mk [(pc o1 0),(pc o1 1),(pc o1 2)])]
 (.ret (.tup [(.tget ny 0),(.tget ny 1)])))
 (.next ⟨[],[]⟩)
 (.next ⟨[],[]⟩))
 (.next ⟨[],[]⟩))
 (.call ⟨[],[]⟩ [] 67 175 [(pc o1 0)]
 (.ite (.pick (aU (.llen o4) (.llen (pc (.setc lP 0 vh) 0))) pT (aU (pc o1 1) (pi 0)))
 (.ret (.tup [(pi 0),(pi 2)]))
 (.brk ⟨[(82,(pi 0)),(81,(.llen (pc (.setc lP 0 vh) 0))),(80,(pc (.setc lP 0 vh) 0)),(10,(pi (-1)))],[(9,(.setc lP 0 vh))]⟩
(ao5 b)
 (.ite (peq (pc o9 1) (pi (-1)))
 (.ret (.tup [di,(pi 0)]))
 (.ret (.tup [(pc o9 1),(pi 0)]))))))))))
def aj8 (b:Nat→PC):PT×List (Shp×PT):=(UX b,[(.lp 0 [2,3,20,21] [4] [2,3,20] [4],F5 b),(.lp 3 [2,3,10,82,83] [] [2,3,10,82] [],vj b)])
theorem J9:zz.map told=some (aj8 (bq zz)):=by kernel_rfl
theorem auM:tree (ae zz)=UX Cv:=bN J9
theorem Sr:round 0 [2,3,20,21] [4] [2,3,20] [4] (Cv 0)=F5 Cv:=bj J9 0 fun _=>rfl
theorem BD:round 3 [2,3,10,82,83] [] [2,3,10,82] [] (Cv 1)=vj Cv:=bj J9 1 fun _=>rfl
def H8:Option PC:=cF [2,3,12,20,4,5] [] Tryz.f174 174 [1]
def U0:PT:=
 (.ite (aZ qw (pi 0))
 (.ret (.tup [(pi 0),(pi 2)]))
 (.blockS ⟨[(11,kB)],[(1,(.mk [r0]))]⟩ 0 [2,3,12,13,20,21] []
 (.iteS ⟨[],[]⟩ (peq bH (pi 0)) [2,3,20,21] []
 (.call ⟨[],[]⟩ [] 16 178 [(pc o1 1)]
 (.ite (aU cN (pc o1 1))
 (.ret (.tup [(pi 0),(pi 3)]))
 (.ret (.tup [(pi 0),(pi 0)]))))
 (.ite (peq bH (pi 1))
 (.ite (.pick (aj (pc o1 1) (pi 0)) pT (aZ (pc o1 1) (pi 1)))
 (.ret (.tup [(pi 0),(pi 3)]))
 (.ret (.tup [(pi 1),(pi 0)])))
 (.next ⟨[],[]⟩))
 (.next ⟨[],[]⟩))
 (.call ⟨[],[]⟩ [] 33 176 [(pc o1 1)]
 (.ite (.nt (.tget tG 1))
 (.ret (.tup [(pi 0),(pi 10)]))
 (.ret (.tup [(.tget tG 0),(pi 0)]))))))
theorem ab0:H8.map told=some (U0,[]):=by kernel_rfl
theorem auP:tree (ae H8)=U0:=ba ab0
def CP:Option PC:=fu {dM with fr:=[2],nh:=[]} Tryz.f178 ((aV eE 178).getD default) []
def UZ:PT:=
 (.ret (.mn (.mx r0 (pi (-1099511627776))) Bn))
theorem abZ:CP.map told=some (UZ,[]):=by kernel_rfl
theorem auO:tree (ae CP)=UZ:=ba abZ
def CM:Option PC:=fu {dM with fr:=[2,3,4,11],nh:=[]} Tryz.f176 ((aV eE 176).getD default) []
def UU:PT:=
 (.ite (.pick (aj r0 (pi 0)) pT (aZ r0 (pi 19)))
 (.ret (.tup [(pi 0),pF]))
 (.ite (aj r0 (pi 7))
 (.ret (.tup [(pi 0),pT]))
 (.ret (.tup [(pi 1),pT]))))
theorem abW:CM.map told=some (UU,[]):=by kernel_rfl
theorem auK:tree (ae CM)=UU:=ba abW
def H9:Option PC:=cF [4,8,13,17,21] [] Tryz.f175 175 [2]
def U3:PT:=
 (.ite (peq r0 (pi 3))
 (.ret (.mk [(pc (.setc lP 0 (.mk [(.lst [(pi 1)]),(pi 1)])) 0),(pc (.setc lP 0 (.mk [(.lst [(pi 1)]),(pi 1)])) 1)]))
 (.ite (.pick (peq r0 (pi 4)) (peq r0 (pi 4)) (peq r0 (pi 5)))
 (.ret (.mk [(pc (.setc lP 0 (.mk [(.lst [(pi 1),(pi 1)]),(pi 1)])) 0),(pc (.setc lP 0 (.mk [(.lst [(pi 1),(pi 1)]),(pi 1)])) 1)]))
 (.ite (peq r0 (pi 6))
 (.ret (.mk [(pc acD 0),(pc acD 1)]))
 (.ite (peq r0 (pi 7))
 (.ret (.mk [(pc (.setc lP 0 (.mk [(.lst [(pi 0),(pi 0)]),(pi 1)])) 0),(pc (.setc lP 0 (.mk [(.lst [(pi 0),(pi 0)]),(pi 1)])) 1)]))
 (.ite (peq r0 (pi 8))
 (.ret (.mk [(pc (.setc lP 0 (.mk [(.lst [(pi (-1)),(pi (-1))]),(pi 1)])) 0),(pc (.setc lP 0 (.mk [(.lst [(pi (-1)),(pi (-1))]),(pi 1)])) 1)]))
 (.ret (.mk [(pc (.setc lP 0 (.mk [(.lst [(pi 0),(pi 0)]),(pi 0)])) 0),(pc (.setc lP 0 (.mk [(.lst [(pi 0),(pi 0)]),(pi 0)])) 1)])))))))
theorem ab3:H9.map told=some (U3,[]):=by kernel_rfl
theorem auT:tree (ae H9)=U3:=ba ab3
def H7:Option PC:=cF [5,6,8] [] Tryz.f72 72 [2,4,7]
def UT:PT:=
 (.call ⟨[],[(4,fG),(2,(.mk [r0]))]⟩ [] 11 115 [(.mk [kB,qu,vd])]
 (.ite (aU (.tget bH 1) (pi 0))
 (.ret E0)
 (.call ⟨[],[]⟩ [] 21 116 [(.mk [r1]),(.mk [(pc o2 0),(pc o2 1),(pc o2 2)])]
 (.ret (.mk [(pc acX 0),(pc acX 1)])))))
theorem abV:H7.map told=some (UT,[]):=by kernel_rfl
theorem auJ:tree (ae H7)=UT:=ba abV
def v8:Option PC:=fu {dM with fr:=[5,15,21,9,11],nh:=[]} Tryz.f116 ((aV eE 116).getD default) [2,3,4,6,33,7,8,10,12298,12]
def MY:Nat→PC:=br v8
def ao6 (b:Nat→PC):PC:=.block 1 [45,46] [7,8] (.loop [45] [7,8] (b 0))
def F6 (b:Nat→PC):PT:=
 (.ite (aj rQ vg)
 (.blockS ⟨[],[]⟩ 2 [9,10,47,48,49,50,51,52,53,54,55,56,57,58,59,60,61] [10,12298,8,7]
 (.chk (ar rP rQ)
 (.call ⟨[(54,rQ),(52,rQ)],[]⟩ [] 57 116 [(.mk [(pc o2 0)]),(.mk [(pc (.setc kA 0 (pn rP rQ)) 0),(pc (.setc kA 0 (pn rP rQ)) 1),(pc (.setc kA 0 (pn rP rQ)) 2)])]
 (.chk (ar o7 Kw)
 (.chk (ar o8 qx)
 (.next ⟨[],[(8,(.setn o8 qx 0 (.tget Ky 1))),(7,(.setn o7 Kw 0 (.tget Ky 0)))]⟩)))))
 (.next ⟨[(45,(aN rQ (pi 1)))],[]⟩))
 (.exit 1 ⟨[(46,(aj rQ vg))],[]⟩))
def Gt (b:Nat→PC):PT:=
 (.blockS ⟨[(14,Bp)],[(4,fG),(3,(.mk [r1])),(2,(.mk [r0]))]⟩ 0 [5,15,16,21,22] [4]
 (.iteS ⟨[],[]⟩ (.pick (peq dx (pi 0)) (peq dx (pi 0)) (peq dx (pi 1))) [5,21,22] [4]
 (.ret (.tup [(.mk [(pc (.setc o4 0 (.mk [pT,(pc o3 1)])) 0),(pc (.setc o4 0 (.mk [pT,(pc o3 1)])) 1)]),pL]))
 (.iteS ⟨[],[]⟩ (peq dx (pi 2)) [5] [4]
 (.call ⟨[],[]⟩ [] 26 154 [(.mk [(pc o2 0)]),(pc o3 1)]
 (.ite (pc (.setc fG 0 lT) 0)
 (.ret (.tup [(.mk [(pc acC 0),(pc acC 1)]),pL]))
 (.ret (.tup [E0,(.lst [(pc o3 1)])]))))
 (.next ⟨[],[]⟩)
 (.next ⟨[],[]⟩))
 (.next ⟨[],[]⟩))
 (.chk (.an (cL oR (pi 0)) (bM oR cM))
 (.chk (peq oR oR)
 (.brk ⟨[(45,(pi 0)),(44,oR),(43,(pc o3 2)),(8,pN),(7,pN)],[(8,(.rep oR pL)),(7,(.rep oR fG))]⟩
(ao6 b)
 (.chk (.nt (.an (.an (peq (pc o3 0) (pi 6)) pT) (.nt (ar o7 (pi 0)))))
 (.ite (.pick (peq (pc o3 0) (pi 6)) (pc (pn o7 (pi 0)) 0) pF)
 (.chk (ar o7 (pi 0))
 (.chk (ar o7 E1)
 (.chk (ar o8 E1)
 (.ret (.tup [(.mk [(pc (.setc o4 0 (.sub (pn o7 E1) 0 2)) 0),(pc (.setc o4 0 (.sub (pn o7 E1) 0 2)) 1)]),(pn o8 E1)])))))
 (.call ⟨[],[]⟩ [] 88 155 [(pc o3 0),o7]
 (.ite (pc (.setc fG 0 KC) 0)
 (.ret (.tup [(.mk [(pc ac0 0),(pc ac0 1)]),pL]))
 (.call ⟨[(92,(.mk [pF,(pi 0)]))],[]⟩ [] 94 156 [o8]
 (.ret (.tup [(.mk [(pc (.setc o4 0 Fi) 0),(pc (.setc o4 0 Fi) 1)]),r94])))))))))))
def aj9 (b:Nat→PC):PT×List (Shp×PT):=(Gt b,[(.lp 1 [45,46] [7,8] [45] [7,8],F6 b)])
theorem QK:v8.map told=some (aj9 (bq v8)):=by kernel_rfl
theorem auQ:tree (ae v8)=Gt MY:=bN QK
theorem Ss:round 1 [45,46] [7,8] [45] [7,8] (MY 0)=F6 MY:=bj QK 0 fun _=>rfl
def CQ:Option PC:=fu {dM with fr:=[5,6],nh:=[]} Tryz.f154 ((aV eE 154).getD default) [2,4]
def U1:PT:=
 (.chk (.nt (.an (.an (.nt (cL r1 (.llen kB))) pT) (.nt (ar kB r1))))
 (.ite (.pick (cL r1 (.llen kB)) pT (.nt (pc (pn kB r1) 0)))
 (.ret (.mk [(pc (.setc fG 0 (.mk [pF,(pi 0)])) 0),(pc (.setc fG 0 (.mk [pF,(pi 0)])) 1)]))
 (.call ⟨[],[(4,fG),(2,(.mk [r0]))]⟩ [] 24 176 [r1]
 (.iteS ⟨[],[]⟩ (peq (.tget oT 0) (pi 1)) [] [4]
 (.chk (ar (pc o2 0) r1)
 (.call ⟨[],[]⟩ [] 36 177 [(aU (pc (pn (pc o2 0) r1) 1) (pi 0))]
 (.ret (.mk [(pc (.setc o4 0 lj) 0),(pc (.setc o4 0 lj) 1)]))))
 (.next ⟨[],[]⟩)
 (.chk (ar (pc o2 0) r1)
 (.call ⟨[],[]⟩ [] 43 178 [(pc (pn (pc o2 0) r1) 1)]
 (.ret (.mk [(pc (.setc o4 0 (.mk [pT,rP])) 0),(pc (.setc o4 0 (.mk [pT,rP])) 1)]))))))))
theorem ab1:CQ.map told=some (U1,[]):=by kernel_rfl
theorem auR:tree (ae CQ)=U1:=ba ab1
def CS:Option PC:=fu {dM with fr:=[],nh:=[]} Tryz.f177 ((aV eE 177).getD default) [2]
def U4:PT:=
 (.ite r0
 (.ret (.mk [(pc xI 0),(pc xI 1)]))
 (.ret (.mk [(pc Kt 0),(pc Kt 1)])))
theorem ab4:CS.map told=some (U4,[]):=by kernel_rfl
theorem auU:tree (ae CS)=U4:=ba ab4
def CO:Option PC:=fu {dM with fr:=[9,22,41,6,7,82,88,94],nh:=[]} Tryz.f155 ((aV eE 155).getD default) [4,5]
def UY:PT:=
 (.blockS ⟨[(8,r0)],[(4,fG)]⟩ 0 [9,10,22,23] [4]
 (.iteS ⟨[],[]⟩ (peq r8 (pi 3)) [22,23] [4]
 (.chk (ar r1 (pi 0))
 (.iteS ⟨[],[]⟩ (pc (pn r1 (pi 0)) 0) [] [4]
 (.chk (ar r1 (pi 0))
 (.call ⟨[],[]⟩ [] 20 177 [(peq (pc (pn r1 (pi 0)) 1) (pi 0))]
 (.ret (.mk [(pc (.setc o4 0 eZ) 0),(pc (.setc o4 0 eZ) 1)]))))
 (.next ⟨[],[]⟩)
 (.ret E0)))
 (.iteS ⟨[],[]⟩ (.pick (peq r8 (pi 4)) (peq r8 (pi 4)) (peq r8 (pi 5))) [] [4]
 (.call ⟨[],[]⟩ [] 27 177 [(peq r0 (pi 5))]
 (.chk (ar r1 (pi 0))
 (.chk (.nt (.an (.an (.nt acT) pT) (.nt (ar r1 (pi 1)))))
 (.ite (.pick acT pT (.an (.cb .eql (pc qv 0) (pc Bf 0)) (.an (peq (pc qv 1) (pc Bf 1)) pT)))
 (.ret (.mk [(pc (.setc o4 0 Bf) 0),(pc (.setc o4 0 Bf) 1)]))
 (.next ⟨[],[]⟩)))))
 (.ite (peq r8 (pi 6))
 (.chk (ar r1 (pi 1))
 (.chk (.nt (.an (.an (pc qv 0) pT) (.nt (ar r1 (pi 1)))))
 (.chk (.nt (.an (.an (pc qv 0) pT) (.nt (ar r1 (pi 2)))))
 (.ite (.pick (pc qv 0) (.an (.cb .eql (pc qv 0) (pc (pn r1 (pi 2)) 0)) (.an (peq (pc qv 1) (pc (pn r1 (pi 2)) 1)) pT)) pF)
 (.ret (.mk [(pc (.setc o4 0 qv) 0),(pc (.setc o4 0 qv) 1)]))
 (.ret E0)))))
 (.next ⟨[],[]⟩))
 (.next ⟨[],[]⟩))
 (.next ⟨[],[]⟩))
 (.chk (ar r1 (pi 0))
 (.chk (.nt (.an (.an (.nt (.nt (pc (pn r1 (pi 0)) 0))) pT) (.nt (ar r1 (pi 1)))))
 (.ite (.pick (.nt (pc (pn r1 (pi 0)) 0)) pT (.nt (pc qv 0)))
 (.ret E0)
 (.chk (ar r1 (pi 1))
 (.blockS ⟨[(81,r0),(7,(pc qv 1)),(6,(pc (pn r1 (pi 0)) 1))],[]⟩ 1 [82,83,88,89,94,95] [4]
 (.iteS ⟨[],[]⟩ (.pick (peq tI (pi 4)) (peq tI (pi 4)) (peq tI (pi 5))) [88,89,94,95] [4]
 (.call ⟨[],[]⟩ [] 87 177 [(peq r0 (pi 4))]
 (.ret (.mk [(pc (.setc o4 0 r87) 0),(pc (.setc o4 0 r87) 1)])))
 (.iteS ⟨[],[]⟩ (peq tI (pi 7)) [94,95] [4]
 (.call ⟨[],[]⟩ [] 93 177 [(aj r6 r7)]
 (.ret (.mk [(pc (.setc o4 0 Bt) 0),(pc (.setc o4 0 Bt) 1)])))
 (.iteS ⟨[],[]⟩ (peq tI (pi 8)) [] [4]
 (.call ⟨[],[]⟩ [] 99 177 [(peq r6 r7)]
 (.ret (.mk [(pc (.setc o4 0 KD) 0),(pc (.setc o4 0 KD) 1)])))
 (.next ⟨[],[]⟩)
 (.next ⟨[],[]⟩))
 (.next ⟨[],[]⟩))
 (.next ⟨[],[]⟩))
 (.call ⟨[],[]⟩ [] 103 179 [r0,r6,r7]
 (.ret (.mk [(pc (.setc o4 0 (.mk [pT,Kv])) 0),(pc (.setc o4 0 (.mk [pT,Kv])) 1)])))))))))
theorem abY:CO.map told=some (UY,[]):=by kernel_rfl
theorem auN:tree (ae CO)=UY:=ba abY
def CN:Option PC:=fu {dM with fr:=[6,8,14,20,25],nh:=[]} Tryz.f179 ((aV eE 179).getD default) []
def UW:PT:=
 (.blockS ⟨[(7,r0)],[]⟩ 0 [6,8,9,14,15,20,21,25,26] []
 (.iteS ⟨[],[]⟩ (peq r7 (pi 9)) [6,14,15,20,21,25,26] []
 (.call ⟨[],[]⟩ [] 13 178 [(aN r1 r2)]
 (.ret cR))
 (.iteS ⟨[],[]⟩ (peq r7 (pi 10)) [6,20,21,25,26] []
 (.call ⟨[],[]⟩ [] 19 178 [(bD r1 r2)]
 (.ret jH))
 (.iteS ⟨[],[]⟩ (peq r7 (pi 11)) [6,25,26] []
 (.call ⟨[],[]⟩ [] 24 209 [r1,r2]
 (.ret oT))
 (.ite (peq r7 (pi 12))
 (.ret (.mn r1 r2))
 (.next ⟨[],[]⟩))
 (.next ⟨[],[]⟩))
 (.next ⟨[],[]⟩))
 (.next ⟨[],[]⟩))
 (.ret (.mx r1 r2)))
theorem abX:CN.map told=some (UW,[]):=by kernel_rfl
theorem auL:tree (ae CN)=UW:=ba abX
def CR:Option PC:=fu {dM with fr:=[4,5,6,7],nh:=[]} Tryz.f209 ((aV eE 209).getD default) []
def U2:PT:=
 (.call ⟨[],[]⟩ [] 19 217 [(.conv .u64 (.mx r0 (bD (pi 0) r0))),(.conv .u64 (.mx r1 (bD (pi 0) r1)))]
 (.ite (.cb .neq (aj r0 (pi 0)) (aj r1 (pi 0)))
 (.ret (bD (pi 0) acK))
 (.ret acK)))
theorem ab2:CR.map told=some (U2,[]):=by kernel_rfl
theorem auS:tree (ae CR)=U2:=ba ab2
def CF:Option PC:=fu {dM with fr:=[4,5,6,7,8,9,10,11,12,13],nh:=[]} Tryz.f217 ((aV eE 217).getD default) []
def Tg:PT:=
 (.chk (cL Bk (pi 0))
 (.ret (.tup [(.ai .add .u64 (.ai .add .u64 (.ai .mul .u64 (.ai .shr .u64 r0 Bk) (.ai .shr .u64 r1 Bk)) (.ai .shr .u64 acI Bk)) (.ai .shr .u64 (.ai .add .u64 (.ai .and .u64 acI (.con (.v (.int .u64 4294967295)))) (.ai .mul .u64 (.ai .and .u64 r0 (.con (.v (.int .u64 4294967295)))) (.ai .shr .u64 r1 Bk))) Bk)),(.ai .mul .u64 r0 r1)])))
theorem aa1:CF.map told=some (Tg,[]):=by kernel_rfl
theorem asZ:tree (ae CF)=Tg:=ba aa1
def v7:Option PC:=fu {dM with fr:=[2,3,5,8],nh:=[]} Tryz.f156 ((aV eE 156).getD default) [6]
def Ct:Nat→PC:=br v7
def aoU (b:Nat→PC):PC:=.block 0 [3,11,12] [] (.loop [3,11] [] (b 0))
def aoV (b:Nat→PC):PC:=.block 2 [6,27,28] [6] (.loop [6,27] [6] (b 1))
def KY (b:Nat→PC):PT:=
 (.ite (aj bH di)
 (.chk (ar r9 bH)
 (.ite (aj (aN r3 (.llen (pn r9 bH))) (pi 0))
 (.chk (.nt pT)
 (.chk (.nt pT)
 (.next ⟨[(3,(aN r3 (.llen (pn r9 bH)))),(11,(aN bH (pi 1)))],[]⟩)))
 (.next ⟨[(3,(aN r3 (.llen (pn r9 bH)))),(11,(aN bH (pi 1)))],[]⟩)))
 (.exit 0 ⟨[(12,(aj bH di))],[]⟩))
def KZ (b:Nat→PC):PT:=
 (.ite (aj fH lT)
 (.chk (ar jI fH)
 (.chk (bM (.llen (.app o6 (pn jI fH))) cM)
 (.next ⟨[(6,pN),(27,(aN fH (pi 1)))],[(6,(.app o6 (pn jI fH)))]⟩)))
 (.exit 2 ⟨[(28,(aj fH lT))],[]⟩))
def UC (b:Nat→PC):PT:=
 (.brk ⟨[(11,(pi 0)),(10,(.llen r0)),(9,r0),(3,(pi 0))],[]⟩
(aoU b)
 (.call ⟨[],[]⟩ [] 24 180 [pL,r3]
 (.brk ⟨[(27,(pi 0)),(26,(.llen r0)),(25,r0),(6,pN)],[(6,oT)]⟩
(aoV b)
 (.ret o6))))
def ajZ (b:Nat→PC):PT×List (Shp×PT):=(UC b,[(.lp 0 [3,11,12] [] [3,11] [],KY b),(.lp 2 [6,27,28] [6] [6,27] [6],KZ b)])
theorem J7:v7.map told=some (ajZ (bq v7)):=by kernel_rfl
theorem aur:tree (ae v7)=UC Ct:=bN J7
theorem adx:round 0 [3,11,12] [] [3,11] [] (Ct 0)=KY Ct:=bj J7 0 fun _=>rfl
theorem ady:round 2 [6,27,28] [6] [6,27] [6] (Ct 1)=KZ Ct:=bj J7 1 fun _=>rfl
def za:Option PC:=cF [4,5] [] Tryz.f12 12 [2,3]
def MI:Nat→PC:=br za
def aox (b:Nat→PC):PC:=.block 0 [4,5,34,35,36,37,38] [] (.loop [4,5] [] (b 0))
def KS (b:Nat→PC):PT:=
 (.ite (aj r5 (.llen (pc o2 3)))
 (.chk (ar (pc o2 3) r5)
 (.chk (ar (pc o3 3) r5)
 (.ite (aU (pn (pc o2 3) r5) (pn (pc o3 3) r5))
 (.ret pF)
 (.next ⟨[(5,tD)],[]⟩))))
 (.exit 0 ⟨[(34,r5),(35,pN),(36,(pc o2 3)),(37,(.llen (pc o2 3))),(38,(aj r5 (.llen (pc o2 3))))],[]⟩))
def Ue (b:Nat→PC):PT:=
 (.ite (.pick (.pick (.pick (.nt (.an (.cb .eql (pc (.mk [kB,qu]) 0) (pc (.mk [Bp,Bo]) 0)) (.an (peq (pc (.mk [kB,qu]) 1) (pc (.mk [Bp,Bo]) 1)) pT))) pT (aU vd (pc (.mk [r1]) 2))) pT (aU xN (pc (.mk [r1]) 4))) pT (aU (.llen (pc (.mk [r0]) 3)) (.llen (pc (.mk [r1]) 3))))
 (.ret pF)
 (.brk ⟨[(5,(pi 0)),(4,pF)],[(3,(.mk [r1])),(2,(.mk [r0]))]⟩
(aox b)
 (.ret pT)))
def ajK (b:Nat→PC):PT×List (Shp×PT):=(Ue b,[(.lp 0 [4,5,34,35,36,37,38] [] [4,5] [],KS b)])
theorem Qv:za.map told=some (ajK (bq za)):=by kernel_rfl
theorem at0:tree (ae za)=Ue MI:=bN Qv
theorem ads:round 0 [4,5,34,35,36,37,38] [] [4,5] [] (MI 0)=KS MI:=bj Qv 0 fun _=>rfl
def Hf:Option PC:=cF [2,3,7,12] [] Tryz.f13 13 [1]
def Tc:PT:=
 (.ite (aU xN (pi 0))
 (.ret (pi 0))
 (.ite (.nt kB)
 (.ret (pi 2))
 (.ite (aU qu (pi 0))
 (.ret (pi 1))
 (.ret (pi 0)))))
theorem aaW:Hf.map told=some (Tc,[]):=by kernel_rfl
theorem asU:tree (ae Hf)=Tc:=ba aaW
def Hd:Option PC:=cF [2] [] Tryz.f15 15 [1]
def Ta:PT:=
 (.ite (.pick (aU xN (pi 0)) pT (.nt kB))
 (.ret (pi (-1)))
 (.ret qu))
theorem aaU:Hd.map told=some (Ta,[]):=by kernel_rfl
theorem asS:tree (ae Hd)=Ta:=ba aaU
def CE:Option PC:=cF [8,10] [] Tryz.f20 20 [4,7,9]
def Lw:PT:=
 (.call ⟨[],[(4,(.mk [r0]))]⟩ [] 16 33 [lg,r1,r2,(ax 24 (.mk [r3]))]
 (.ite (peq (pc E2 2) (pi (-1)))
 (.ret pL)
 (.chk (ar (pc o4 4) (pc E2 2))
 (.call ⟨[],[]⟩ [] 30 42 [(pn (pc o4 4) (pc E2 2)),r2,(.tget cN 1)]
 (.ret tF)))))
theorem aaT:CE.map told=some (Lw,[]):=by kernel_rfl
theorem aer:tree (ae CE)=Lw:=ba aaT
def Hz:Option PC:=cF [6,8] [] Tryz.f42 42 [3,7]
def TD:PT:=
 (.call ⟨[],[]⟩ [] 12 71 [(ax 4 (.mk [r0])),r1]
 (.ite (aU (.tget cg 1) (pi 0))
 (.ret pL)
 (.call ⟨[],[]⟩ [] 19 82 [(.mk [(pc (.setc kA 0 (.tget cg 0)) 0),(pc (.setc kA 0 (.tget cg 0)) 1),(pc (.setc kA 0 (.tget cg 0)) 2)]),r2]
 (.ret jH))))
theorem abk:Hz.map told=some (TD,[]):=by kernel_rfl
theorem atn:tree (ae Hz)=TD:=ba abk
def y7:Option PC:=cF [4,5] [] Tryz.f17 17 []
def ME:Nat→PC:=br y7
def aot (b:Nat→PC):PC:=.block 0 [4,5,11,12,13,14] [] (.loop [4,5] [] (b 0))
def KR (b:Nat→PC):PT:=
 (.ite (aj r5 (.llen r0))
 (.chk (ar r0 r5)
 (.chk (ar r1 r5)
 (.ite (aU (pn r0 r5) (pn r1 r5))
 (.ret pF)
 (.next ⟨[(5,tD)],[]⟩))))
 (.exit 0 ⟨[(11,r5),(12,r0),(13,(.llen r0)),(14,(aj r5 (.llen r0)))],[]⟩))
def Ub (b:Nat→PC):PT:=
 (.ite (aU (.llen r0) (.llen r1))
 (.ret pF)
 (.brk ⟨[(5,(pi 0)),(4,pF)],[]⟩
(aot b)
 (.ret pT)))
def ajG (b:Nat→PC):PT×List (Shp×PT):=(Ub b,[(.lp 0 [4,5,11,12,13,14] [] [4,5] [],KR b)])
theorem Qr:y7.map told=some (ajG (bq y7)):=by kernel_rfl
theorem atX:tree (ae y7)=Ub ME:=bN Qr
theorem adr:round 0 [4,5,11,12,13,14] [] [4,5] [] (ME 0)=KR ME:=bj Qr 0 fun _=>rfl
def He:Option PC:=cF [6,7] [] Tryz.f18 18 [3,5]
def Tb:PT:=
 (.call ⟨[],[(5,(.mk [r2])),(3,(.mk [r0]))]⟩ [] 11 39 [lg,(ax 24 (.mk [r2]))]
 (.ite (peq (.llen (.tget bH 1)) (pi 0))
 (.ret pL)
 (.call ⟨[],[]⟩ [] 20 40 [(ax 8 o3),r1,(ax 24 (.setc o5 0 (.tget bH 0)))]
 (.ret eZ))))
theorem aaV:He.map told=some (Tb,[]):=by kernel_rfl
theorem asT:tree (ae He)=Tb:=ba aaV
def Hc:Option PC:=cF [8,9,10,11] [] Tryz.f22 22 [4,6]
def S9:PT:=
 (.call ⟨[],[(6,(.mk [r2])),(4,(.mk [r0]))]⟩ [] 14 24 [(ax 19 (.mk [r2])),r3]
 (.ite (peq (.llen (pc (.setc o6 0 dx) 15)) (pi 0))
 (.ret (pi (-1)))
 (.call ⟨[],[(6,(.setc o6 0 dx))]⟩ [] 23 10 [(ax 8 o4),r1,(pi 6),(ax 19 (.setc o6 0 dx)),r3]
 (.call ⟨[],[]⟩ [] 24 15 [j2]
 (.call ⟨[(29,(ax 15 o6)),(27,(ax 8 o4)),(9,(.mx oT (pi 0)))],[]⟩ [] 31 45 [(ax 19 o6)]
 (.call ⟨[],[]⟩ [] 33 44 [fH,rM,rN,r9]
 (.ite (aU (.tget tG 1) (pi 0))
 (.ret (pi (-1)))
 (.ret (.tget tG 0)))))))))
theorem aaS:Hc.map told=some (S9,[]):=by kernel_rfl
theorem asR:tree (ae Hc)=S9:=ba aaS
def Hb:Option PC:=cF [] [] Tryz.f10 10 [5,8,77832,10]
def S8:PT:=
 (.call ⟨[],[(10,nw)]⟩ [] 18 8 [lg,r1,r2,(.mk [(.mk [(pc j0 0),(pc j0 1),(pc j0 2),(pc j0 3),(pc j0 4),(pc j0 5),(pc j0 6),(pc j0 7),(pc j0 8),(pc j0 9),(pc j0 10),(pc j0 11),(pc j0 12),(pc j0 13),(pc j0 14),(pc j0 15),(pc j0 16),(pc j0 17),pL]),(pi 0),(pi (-1)),(pi (-1)),(pi (-1)),r4])]
 (.ret (ax 5 (.setc cA 0 eg))))
theorem aaR:Hb.map told=some (S8,[]):=by kernel_rfl
theorem asQ:tree (ae Hb)=S8:=ba aaR
def zn:Option PC:=cF [2,4] [] Tryz.f45 45 [1,3,6,8]
def Cr:Nat→PC:=br zn
def aoS (b:Nat→PC):PC:=.block 0 [3,16,17] [3] (.loop [3,16] [3] (b 0))
def aoT (b:Nat→PC):PC:=.block 2 [2,3,36,37] [3] (.loop [2,3,36] [3] (b 1))
def FY (b:Nat→PC):PT:=
 (.ite (aj cN gZ)
 (.chk (ar dx cN)
 (.ite (.pick (peq r4 (pi 1)) (peq (pc (.setc z9 0 rK) 0) (pi 1)) pF)
 (.chk (bM (.llen (.app o3 (.lst [(pc (.setc z9 0 rK) 6)]))) cM)
 (.next ⟨[(3,pN),(16,(aN cN (pi 1)))],[(3,(.app o3 (.lst [(pc (.setc z9 0 rK) 6)])))]⟩))
 (.next ⟨[(16,(aN cN (pi 1)))],[]⟩)))
 (.exit 0 ⟨[(17,(aj cN gZ))],[]⟩))
def xV (b:Nat→PC):PT:=
 (.ite (aj lj xP)
 (.chk (ar r34 lj)
 (.ite (.pick (peq r4 (pi 0)) (peq (pc E4 0) (pi 2)) pF)
 (.ret (pc E4 6))
 (.ite (.pick (peq r4 (pi 1)) (peq (pc E4 0) (pi 1)) pF)
 (.chk (bM (.llen (.app o3 (.lst [(pc E4 6)]))) cM)
 (.next ⟨[(3,pN),(36,(aN lj (pi 1)))],[(3,(.app o3 (.lst [(pc E4 6)])))]⟩))
 (.next ⟨[(36,(aN lj (pi 1)))],[]⟩))))
 (.exit 2 ⟨[(37,(aj lj xP))],[]⟩))
def Uy (b:Nat→PC):PT:=
 (.brk ⟨[(16,(pi 0)),(15,(.llen rH)),(14,rH),(4,xM),(3,pN),(2,(pi 0))],[(3,pL),(1,(.mk [r0]))]⟩
(aoS b)
 (.brk ⟨[(36,(pi 0)),(35,(.llen (pc o1 17))),(34,(pc o1 17))],[]⟩
(aoT b)
 (.ite (peq (.llen o3) (pi 0))
 (.ret (pi (-1)))
 (.call ⟨[],[]⟩ [] 66 90 [o3]
 (.ret KA)))))
def ajX (b:Nat→PC):PT×List (Shp×PT):=(Uy b,[(.lp 0 [3,16,17] [3] [3,16] [3],FY b),(.lp 2 [2,3,36,37] [3] [2,3,36] [3],xV b)])
theorem J5:zn.map told=some (ajX (bq zn)):=by kernel_rfl
theorem aum:tree (ae zn)=Uy Cr:=bN J5
theorem Sg:round 0 [3,16,17] [3] [3,16] [3] (Cr 0)=FY Cr:=bj J5 0 fun _=>rfl
theorem FZ:round 2 [2,3,36,37] [3] [2,3,36] [3] (Cr 1)=xV Cr:=bj J5 1 fun _=>rfl
def zw:Option PC:=cF [2,3,4] [] Tryz.f90 90 []
def MW:Nat→PC:=br zw
def aac (b:Nat→PC):PC:=.block 0 [3,4,12,13,14,15] [] (.loop [3,4] [] (b 0))
def K0 (b:Nat→PC):PT:=
 (.ite (aj r4 (.llen r0))
 (.chk (ar r0 r4)
 (.next ⟨[(3,(.mn r3 (pn r0 r4))),(4,(aN r4 (pi 1)))],[]⟩))
 (.exit 0 ⟨[(12,r4),(13,r0),(14,(.llen r0)),(15,(aj r4 (.llen r0)))],[]⟩))
def UM (b:Nat→PC):PT:=
 (.ite (aj (.llen r0) (pi 1))
 (.chk (.nt pT)
 (.chk (.nt pT)
 (.chk (ar r0 (pi 0))
 (.brk ⟨[(4,(pi 1)),(3,(pn r0 (pi 0)))],[]⟩
(aac b)
 (.ret r3)))))
 (.chk (ar r0 (pi 0))
 (.brk ⟨[(4,(pi 1)),(3,(pn r0 (pi 0)))],[]⟩
(aac b)
 (.ret r3))))
def aj5 (b:Nat→PC):PT×List (Shp×PT):=(UM b,[(.lp 0 [3,4,12,13,14,15] [] [3,4] [],K0 b)])
theorem QI:zw.map told=some (aj5 (bq zw)):=by kernel_rfl
theorem auC:tree (ae zw)=UM MW:=bN QI
theorem adz:round 0 [3,4,12,13,14,15] [] [3,4] [] (MW 0)=K0 MW:=bj QI 0 fun _=>rfl
def CJ:Option PC:=cF [8,9,15,39,58,74,11,12] [] Tryz.f44 44 [4,5,10]
def LG:PT:=
 (.blockS ⟨[],[(10,(.setc z3 0 (.mk [(pc (.mk [r1]) 5),(pc (.mk [r1]) 6),(pc (.mk [r1]) 7)]))),(5,(.mk [r1])),(4,(.mk [r0]))]⟩ 0 [8,9,15,16,17,18,19,25,26,32,33,38,39,40,41,42,43,47,48,52,53,57,58,59,60,61,65,66,69,70,73,74,75,76,77,80] []
 (.call ⟨[],[]⟩ [] 17 84 [(ax 8 o4)]
 (.call ⟨[(19,(aU lS (pi 0)))],[]⟩ [(19,false)] 23 85 [(ax 8 o4),(pc o5 9)]
 (.call ⟨[(26,(.pick jH pT (.nt j2)))],[]⟩ [(26,false)] 30 85 [(ax 8 o4),(pc o5 10)]
 (.call ⟨[(33,(.pick lT pT (.nt tF)))],[]⟩ [(33,false)] 36 86 [(pc o5 8)]
 (.iteS ⟨[],[]⟩ (.pick tG pT (.nt lj)) [8,9,39,40,41,42,43,47,48,52,53,57,58,59,60,61,65,66,69,70,73,74,75,76,77,80] []
 (.ret (.tup [(pi 0),(pi 1)]))
 (.iteS ⟨[],[]⟩ (.pick (.pick (.pick (aj (pc cA 0) (pi 0)) pT (cL (pc cA 0) (pi 5))) pT (aj (pc cA 2) (pi 0))) pT (cL (pc cA 2) (pi 2))) [8,9,58,59,60,61,65,66,69,70,73,74,75,76,77,80] []
 (.ret (.tup [(pi 0),(pi 1)]))
 (.call ⟨[(61,(aU r2 (pi (-1))))],[]⟩ [(61,true)] 63 86 [r2]
 (.iteS ⟨[],[]⟩ (.pick (.pick (.pick xQ (.nt Kz) pF) pT (aj r3 (pi 0))) pT (aZ r3 (pi 20000))) [8,9,74,75,76,77,80] []
 (.ret (.tup [(pi 0),(pi 1)]))
 (.call ⟨[],[]⟩ [] 76 87 [(.mk [(pc cA 0),(pc cA 1),(pc cA 2)])]
 (.ite (.pick qy (peq r2 (pi (-1))) pF)
 (.ret (.tup [(pi 0),(pi 4)]))
 (.next ⟨[],[]⟩)))
 (.next ⟨[],[]⟩)))
 (.next ⟨[],[]⟩))
 (.next ⟨[],[]⟩))))))
 (.call ⟨[],[]⟩ [] 85 88 [(ax 8 o4),(ax 15 o5),r2]
 (.ite (aU (.tget Fh 1) (pi 0))
 (.ret (.tup [(pi 0),(.tget Fh 1)]))
 (.call ⟨[(11,(.tget Fh 0))],[]⟩ [] 92 86 [(.tget Fh 0)]
 (.ite (.pick (.nt Fi) pT (aZ (aN bH r3) (pi 100000)))
 (.ret (.tup [(pi 0),(pi 3)]))
 (.call ⟨[],[]⟩ [] 106 89 [(ax 8 o4),(pc o5 10),(aN bH r3)]
 (.ret (.tup [(.tget Rp 0),(.tget Rp 1)]))))))))
theorem abO:CJ.map told=some (LG,[]):=by kernel_rfl
theorem aev:tree (ae CJ)=LG:=ba abO
def zb:Option PC:=cF [2,3,4,5,6,7,10,11,12] [] Tryz.f84 84 [1,9]
def MJ:Nat→PC:=br zb
def aoy (b:Nat→PC):PC:=.block 0 [2,38,39] [] (.loop [2,38] [] (b 0))
def FI (b:Nat→PC):PT:=
 (.ite (aj jm mG)
 (.blockS ⟨[],[]⟩ 1 [2,9,40,41,42,43,44,45] [9]
 (.chk (ar lj jm)
 (.call ⟨[],[]⟩ [] 44 105 [(pc (.setc E5 0 (pn lj jm)) 0),(pi 10)]
 (.ite (.nt vg)
 (.ret (pi 1))
 (.next ⟨[],[]⟩))))
 (.next ⟨[(38,(aN jm (pi 1)))],[]⟩))
 (.exit 0 ⟨[(39,(aj jm mG))],[]⟩))
def Uf (b:Nat→PC):PT:=
 (.call ⟨[(2,(pi 0))],[(1,(.mk [r0]))]⟩ [] 15 128 [lg]
 (.call ⟨[(5,(.tget gZ 2)),(4,(.tget gZ 1)),(3,(.tget gZ 0))],[]⟩ [] 21 129 [(pc o1 0),(pi 8),(.con (.clo 130 []))]
 (.ite (aU mF (pi 0))
 (.ret mF)
 (.call ⟨[],[(1,(ax 8 o1))]⟩ [] 27 129 [r3,(pi 40),(.clo 131 [(.ref (ax 8 o1))])]
 (.ite (aU fH (pi 0))
 (.ret fH)
 (.ite (aZ rI (pi 20))
 (.ret (pi 6))
 (.brk ⟨[(38,(pi 0)),(37,rI),(36,(pc o1 2))],[]⟩
(aoy b)
 (.call ⟨[],[]⟩ [] 49 129 [r4,(pi 200),(.clo 133 [(.ref o1)])]
 (.ite (aU lU (pi 0))
 (.ret lU)
 (.call ⟨[],[]⟩ [] 55 129 [r5,(pi 20),(.clo 134 [(.ref o1)])]
 (.ite (aU Br (pi 0))
 (.ret Br)
 (.call ⟨[],[]⟩ [] 60 136 [(.sub o1 0 8)]
 (.ite (aU Fc (pi 0))
 (.ret Fc)
 (.call ⟨[],[]⟩ [] 65 137 [(.sub o1 0 8)]
 (.ret Bs)))))))))))))))
def ajL (b:Nat→PC):PT×List (Shp×PT):=(Uf b,[(.lp 0 [2,38,39] [] [2,38] [],FI b)])
theorem Qw:zb.map told=some (ajL (bq zb)):=by kernel_rfl
theorem at5:tree (ae zb)=Uf MJ:=bN Qw
theorem R2:round 0 [2,38,39] [] [2,38] [] (MJ 0)=FI MJ:=bj Qw 0 fun _=>rfl
def zg:Option PC:=cF [] [] Tryz.f128 128 [1,2,3,4,6,16390,20486,24582,21,8,34,10,12298,16394,47]
def vW:Nat→PC:=br zg
def aoD (b:Nat→PC):PC:=.block 0 [2,14,15] [2] (.loop [2,14] [2] (b 0))
def aoE (b:Nat→PC):PC:=.block 2 [3,27,28] [3] (.loop [3,27] [3] (b 1))
def aoF (b:Nat→PC):PC:=.block 4 [4,40,41] [4] (.loop [4,40] [4] (b 2))
def KT (b:Nat→PC):PT:=
 (.ite tE
 (.chk (ar cg dx)
 (.chk (bM (.llen acM) cM)
 (.next ⟨[(2,pN),(14,(aN dx (pi 1)))],[(2,acM)]⟩)))
 (.exit 0 ⟨[(15,tE)],[]⟩))
def KU (b:Nat→PC):PT:=
 (.ite (aj fH lT)
 (.chk (ar jI fH)
 (.chk (bM (.llen acR) cM)
 (.next ⟨[(3,pN),(27,(aN fH (pi 1)))],[(3,acR)]⟩)))
 (.exit 2 ⟨[(28,(aj fH lT))],[]⟩))
def KV (b:Nat→PC):PT:=
 (.ite (aj oU E9)
 (.chk (ar jm oU)
 (.chk (bM (.llen acN) cM)
 (.next ⟨[(4,pN),(40,(aN oU (pi 1)))],[(4,acN)]⟩)))
 (.exit 4 ⟨[(41,(aj oU E9))],[]⟩))
def Ur (b:Nat→PC):PT:=
 (.brk ⟨[(14,(pi 0)),(13,(.llen qu)),(12,qu),(4,pN),(3,pN),(2,pN)],[(4,pL),(3,pL),(2,pL),(1,(.mk [r0]))]⟩
(aoD b)
 (.brk ⟨[(27,(pi 0)),(26,nv),(25,(pc o1 3))],[]⟩
(aoE b)
 (.brk ⟨[(40,(pi 0)),(39,oS),(38,(pc o1 4))],[]⟩
(aoF b)
 (.ret (.tup [o2,o3,o4])))))
def ajQ (b:Nat→PC):PT×List (Shp×PT):=(Ur b,[(.lp 0 [2,14,15] [2] [2,14] [2],KT b),(.lp 2 [3,27,28] [3] [3,27] [3],KU b),(.lp 4 [4,40,41] [4] [4,40] [4],KV b)])
theorem EO:zg.map told=some (ajQ (bq zg)):=by kernel_rfl
theorem auf:tree (ae zg)=Ur vW:=bN EO
theorem adt:round 0 [2,14,15] [2] [2,14] [2] (vW 0)=KT vW:=bj EO 0 fun _=>rfl
theorem adu:round 2 [3,27,28] [3] [3,27] [3] (vW 1)=KU vW:=bj EO 1 fun _=>rfl
theorem adv:round 4 [4,40,41] [4] [4,40] [4] (vW 2)=KV vW:=bj EO 2 fun _=>rfl
def ze:Option PC:=cF [6,7,8] [] Tryz.f129 129 []
def MM:Nat→PC:=br ze
def aoB (b:Nat→PC):PC:=.block 0 [6,15,16] [] (.loop [6,15] [] (b 0))
def FL (b:Nat→PC):PT:=
 (.ite (aj gZ dx)
 (.blockS ⟨[],[]⟩ 1 [6,7,8,17,18,19,20,21,22,24,25,26,27] []
 (.call ⟨[(7,gZ)],[]⟩ [] 20 163 [r0,gZ]
 (.ite (aU eZ (pi 0))
 (.ret eZ)
 (.callc ⟨[],[]⟩ [] 26 r2 [r7]
 (.ite (.nt lT)
 (.ret (pi 1))
 (.next ⟨[],[]⟩)))))
 (.next ⟨[(15,(aN gZ (pi 1)))],[]⟩))
 (.exit 0 ⟨[(16,(aj gZ dx))],[]⟩))
def Un (b:Nat→PC):PT:=
 (.ite (aZ (.llen r0) r1)
 (.ret (pi 6))
 (.brk ⟨[(15,(pi 0)),(14,(.llen r0)),(6,(pi 0))],[]⟩
(aoB b)
 (.ret (pi 0))))
def ajO (b:Nat→PC):PT×List (Shp×PT):=(Un b,[(.lp 0 [6,15,16] [] [6,15] [],FL b)])
theorem Qz:ze.map told=some (ajO (bq ze)):=by kernel_rfl
theorem aub:tree (ae ze)=Un MM:=bN Qz
theorem R5:round 0 [6,15,16] [] [6,15] [] (MM 0)=FL MM:=bj Qz 0 fun _=>rfl
end Rm
