/-
  The functions of this seat, compiled (3).
-/
import Derived.Test.YtbemlocmcgcbdaaGreatDoorKAJ
import Derived.KernelRfl
set_option linter.defProp false
set_option linter.unusedVariables false
set_option maxRecDepth 100000
noncomputable section
namespace Rm
open Go Go.Proofs Cx
def Cc:Option PC:=cF [5,15,21,9,11] [] Tryz.f192 192 [2,3,4,6,33,7,8,10,12298,12]
def QJ:Nat->PC:=bo Cc
variable(b:Nat->PC)
def awl:PC:=.block 1 [45,46] [7,8] (.loop [45] [7,8] (b 0))
def Ix (b:Nat->PC):PT:=
 (.ite (ah rU Ar)
 (.blockS ⟨[],[]⟩ 2 [9,10,47,48,49,50,51,52,53,54,55,56,57,58,59,60,61] [10,12298,8,7]
 (.chk (ao tU rU)
 (.call ⟨[(54,rU),(52,rU)],[]⟩ [] 57 192 [(.mk [(pc o2 0)]),(.mk [(pc (.setc ns 0 (pn tU rU)) 0),(pc (.setc ns 0 (pn tU rU)) 1),(pc (.setc ns 0 (pn tU rU)) 2)])]
 (.chk (ao o7 Hs)
 (.chk (ao o8 pf)
 (.next ⟨[],[(8,(.setn o8 pf 0 (.tget tV 1))),(7,(.setn o7 Hs 0 (.tget tV 0)))]⟩)))))
 (.next ⟨[(45,(aA rU (pi 1)))],[]⟩))
 (.exit 1 ⟨[(46,(ah rU Ar))],[]⟩))
def IV:PT:=
 (.blockS ⟨[(14,DA)],[(4,gf),(3,(.mk [r1])),(2,(.mk [r0]))]⟩ 0 [5,15,16,21,22] [4]
 (.iteS ⟨[],[]⟩ (.pick (peq bU (pi 0)) (peq bU (pi 0)) (peq bU (pi 1))) [5,21,22] [4]
 (.ret (.tup [(.mk [(pc (.setc o4 0 (.mk [pT,(pc o3 1)])) 0),(pc (.setc o4 0 (.mk [pT,(pc o3 1)])) 1)]),pL]))
 (.iteS ⟨[],[]⟩ (peq bU (pi 2)) [5] [4]
 (.call ⟨[],[]⟩ [] 26 215 [(.mk [(pc o2 0)]),(pc o3 1)]
 (.ite (pc (.setc gf 0 kE) 0)
 (.ret (.tup [(.mk [(pc ai3 0),(pc ai3 1)]),pL]))
 (.ret (.tup [Hg,(.lst [(pc o3 1)])]))))
 (.next ⟨[],[]⟩)
 (.next ⟨[],[]⟩))
 (.next ⟨[],[]⟩))
 (.chk (.an (ba qj (pi 0)) (bz qj cj))
 (.chk (peq qj qj)
 (.brk ⟨[(45,(pi 0)),(44,qj),(43,(pc o3 2)),(8,pN),(7,pN)],[(8,(.rep qj pL)),(7,(.rep qj gf))]⟩
(awl b)
 (.chk (.nt (.an (.an (peq (pc o3 0) (pi 6)) pT) (.nt (ao o7 (pi 0)))))
 (.ite (.pick (peq (pc o3 0) (pi 6)) (pc (pn o7 (pi 0)) 0) pF)
 (.chk (ao o7 (pi 0))
 (.chk (ao o7 Hk)
 (.chk (ao o8 Hk)
 (.ret (.tup [(.mk [(pc (.setc o4 0 (.sub (pn o7 Hk) 0 2)) 0),(pc (.setc o4 0 (.sub (pn o7 Hk) 0 2)) 1)]),(pn o8 Hk)])))))
 (.call ⟨[],[]⟩ [] 88 216 [(pc o3 0),o7]
 (.ite (pc (.setc gf 0 Hx) 0)
 (.ret (.tup [(.mk [(pc ai2 0),(pc ai2 1)]),pL]))
 (.call ⟨[(92,(.mk [pF,(pi 0)]))],[]⟩ [] 94 217 [o8]
 (.ret (.tup [(.mk [(pc (.setc o4 0 Wo) 0),(pc (.setc o4 0 Wo) 1)]),r94])))))))))))
def aqv:PT×List (Shp×PT):=(IV b,[(.lp 1 [45,46] [7,8] [45] [7,8],Ix b)])
def Vn:Cc.map told=some (aqv (bk Cc)):=by kernel_rfl
def aDI:tree (ab Cc)=IV QJ:=bH Vn
def Xm:round 1 [45,46] [7,8] [45] [7,8] (QJ 0)=Ix QJ:=bm Vn 0 λ_=>rfl
def KX:Option PC:=cF [5,6] [] Tryz.f215 215 [2,4]
def aak:PT:=
 (.chk (.nt (.an (.an (.nt (ba r1 (.llen jW))) pT) (.nt (ao jW r1))))
 (.ite (.pick (ba r1 (.llen jW)) pT (.nt (pc (pn jW r1) 0)))
 (.ret (.mk [(pc (.setc gf 0 (.mk [pF,(pi 0)])) 0),(pc (.setc gf 0 (.mk [pF,(pi 0)])) 1)]))
 (.call ⟨[],[(4,gf),(2,(.mk [r0]))]⟩ [] 24 224 [r1]
 (.iteS ⟨[],[]⟩ (peq (.tget lg 0) (pi 1)) [] [4]
 (.chk (ao (pc o2 0) r1)
 (.call ⟨[],[]⟩ [] 36 225 [(aF (pc (pn (pc o2 0) r1) 1) (pi 0))]
 (.ret (.mk [(pc (.setc o4 0 iu) 0),(pc (.setc o4 0 iu) 1)]))))
 (.next ⟨[],[]⟩)
 (.chk (ao (pc o2 0) r1)
 (.call ⟨[],[]⟩ [] 43 226 [(pc (pn (pc o2 0) r1) 1)]
 (.ret (.mk [(pc (.setc o4 0 (.mk [pT,tU])) 0),(pc (.setc o4 0 (.mk [pT,tU])) 1)]))))))))
def aij:KX.map told=some (aak,[]):=by kernel_rfl
def aDJ:tree (ab KX)=aak:=aT aij
def K0:Option PC:=cF [] [] Tryz.f225 225 [2]
def aan:PT:=
 (.ite r0
 (.ret (.mk [(pc NC 0),(pc NC 1)]))
 (.ret (.mk [(pc ND 0),(pc ND 1)])))
def aim:K0.map told=some (aan,[]):=by kernel_rfl
def aDM:tree (ab K0)=aan:=aT aim
def KU:Option PC:=cF [9,22,41,6,7,82,88,94] [] Tryz.f216 216 [4,5]
def aah:PT:=
 (.blockS ⟨[(8,r0)],[(4,gf)]⟩ 0 [9,10,22,23] [4]
 (.iteS ⟨[],[]⟩ (peq r8 (pi 3)) [22,23] [4]
 (.chk (ao r1 (pi 0))
 (.iteS ⟨[],[]⟩ (pc (pn r1 (pi 0)) 0) [] [4]
 (.chk (ao r1 (pi 0))
 (.call ⟨[],[]⟩ [] 20 225 [(peq (pc (pn r1 (pi 0)) 1) (pi 0))]
 (.ret (.mk [(pc (.setc o4 0 dV) 0),(pc (.setc o4 0 dV) 1)]))))
 (.next ⟨[],[]⟩)
 (.ret Hg)))
 (.iteS ⟨[],[]⟩ (.pick (peq r8 (pi 4)) (peq r8 (pi 4)) (peq r8 (pi 5))) [] [4]
 (.call ⟨[],[]⟩ [] 27 225 [(peq r0 (pi 5))]
 (.chk (ao r1 (pi 0))
 (.chk (.nt (.an (.an (.nt aji) pT) (.nt (ao r1 (pi 1)))))
 (.ite (.pick aji pT (.an (.cb .eql (pc rP 0) (pc DE 0)) (.an (peq (pc rP 1) (pc DE 1)) pT)))
 (.ret (.mk [(pc (.setc o4 0 DE) 0),(pc (.setc o4 0 DE) 1)]))
 (.next ⟨[],[]⟩)))))
 (.ite (peq r8 (pi 6))
 (.chk (ao r1 (pi 1))
 (.chk (.nt (.an (.an (pc rP 0) pT) (.nt (ao r1 (pi 1)))))
 (.chk (.nt (.an (.an (pc rP 0) pT) (.nt (ao r1 (pi 2)))))
 (.ite (.pick (pc rP 0) (.an (.cb .eql (pc rP 0) (pc (pn r1 (pi 2)) 0)) (.an (peq (pc rP 1) (pc (pn r1 (pi 2)) 1)) pT)) pF)
 (.ret (.mk [(pc (.setc o4 0 rP) 0),(pc (.setc o4 0 rP) 1)]))
 (.ret Hg)))))
 (.next ⟨[],[]⟩))
 (.next ⟨[],[]⟩))
 (.next ⟨[],[]⟩))
 (.chk (ao r1 (pi 0))
 (.chk (.nt (.an (.an (.nt (.nt (pc (pn r1 (pi 0)) 0))) pT) (.nt (ao r1 (pi 1)))))
 (.ite (.pick (.nt (pc (pn r1 (pi 0)) 0)) pT (.nt (pc rP 0)))
 (.ret Hg)
 (.chk (ao r1 (pi 1))
 (.blockS ⟨[(81,r0),(7,(pc rP 1)),(6,(pc (pn r1 (pi 0)) 1))],[]⟩ 1 [82,83,88,89,94,95] [4]
 (.iteS ⟨[],[]⟩ (.pick (peq Av (pi 4)) (peq Av (pi 4)) (peq Av (pi 5))) [88,89,94,95] [4]
 (.call ⟨[],[]⟩ [] 87 225 [(peq r0 (pi 4))]
 (.ret (.mk [(pc (.setc o4 0 r87) 0),(pc (.setc o4 0 r87) 1)])))
 (.iteS ⟨[],[]⟩ (peq Av (pi 7)) [94,95] [4]
 (.call ⟨[],[]⟩ [] 93 225 [(ah r6 r7)]
 (.ret (.mk [(pc (.setc o4 0 Hy) 0),(pc (.setc o4 0 Hy) 1)])))
 (.iteS ⟨[],[]⟩ (peq Av (pi 8)) [] [4]
 (.call ⟨[],[]⟩ [] 99 225 [(peq r6 r7)]
 (.ret (.mk [(pc (.setc o4 0 Hz) 0),(pc (.setc o4 0 Hz) 1)])))
 (.next ⟨[],[]⟩)
 (.next ⟨[],[]⟩))
 (.next ⟨[],[]⟩))
 (.next ⟨[],[]⟩))
 (.call ⟨[],[]⟩ [] 103 227 [r0,r6,r7]
 (.ret (.mk [(pc (.setc o4 0 (.mk [pT,ajm])) 0),(pc (.setc o4 0 (.mk [pT,ajm])) 1)])))))))))
def aif:KU.map told=some (aah,[]):=by kernel_rfl
def aDF:tree (ab KU)=aah:=aT aif
def KT:Option PC:=cF [6,8,14,20,25] [] Tryz.f227 227 []
def aaf:PT:=
 (.blockS ⟨[(7,r0)],[]⟩ 0 [6,8,9,14,15,20,21,25,26] []
 (.iteS ⟨[],[]⟩ (peq r7 (pi 9)) [6,14,15,20,21,25,26] []
 (.call ⟨[],[]⟩ [] 13 226 [(aA r1 r2)]
 (.ret dh))
 (.iteS ⟨[],[]⟩ (peq r7 (pi 10)) [6,20,21,25,26] []
 (.call ⟨[],[]⟩ [] 19 226 [(bf r1 r2)]
 (.ret fN))
 (.iteS ⟨[],[]⟩ (peq r7 (pi 11)) [6,25,26] []
 (.call ⟨[],[]⟩ [] 24 229 [r1,r2]
 (.ret lg))
 (.ite (peq r7 (pi 12))
 (.ret (.mn r1 r2))
 (.next ⟨[],[]⟩))
 (.next ⟨[],[]⟩))
 (.next ⟨[],[]⟩))
 (.next ⟨[],[]⟩))
 (.ret (.mx r1 r2)))
def aie:KT.map told=some (aaf,[]):=by kernel_rfl
def aDD:tree (ab KT)=aaf:=aT aie
def KY:Option PC:=cF [4,5,6,7] [] Tryz.f229 229 []
def aal:PT:=
 (.call ⟨[],[]⟩ [] 19 116 [(.conv .u64 (.mx r0 (bf (pi 0) r0))),(.conv .u64 (.mx r1 (bf (pi 0) r1)))]
 (.ite (.cb .neq (ah r0 (pi 0)) (ah r1 (pi 0)))
 (.ret (bf (pi 0) ai8))
 (.ret ai8)))
def aik:KY.map told=some (aal,[]):=by kernel_rfl
def aDK:tree (ab KY)=aal:=aT aik
def JY:Option PC:=cF [4,5,6,7,8,9,10,11,12,13] [] Tryz.f116 116 []
def Yh:PT:=
 (.chk Dx
 (.ret (.tup [(.ai .add .u64 (.ai .add .u64 (.ai .mul .u64 vh (.ai .shr .u64 r1 xc)) (.ai .shr .u64 ajb xc)) (.ai .shr .u64 (.ai .add .u64 (.ai .and .u64 ajb An) (.ai .mul .u64 (.ai .and .u64 r0 An) (.ai .shr .u64 r1 xc))) xc)),(.ai .mul .u64 r0 r1)])))
def ag2:JY.map told=some (Yh,[]):=by kernel_rfl
def aBv:tree (ab JY)=Yh:=aT ag2
def B1:Option PC:=cF [2,3,5,8] [] Tryz.f217 217 [6]
def ES:Nat->PC:=bo B1
def av2:PC:=.block 0 [3,11,12] [] (.loop [3,11] [] (b 0))
def av3:PC:=.block 2 [6,27,28] [6] (.loop [6,27] [6] (b 1))
def Ov (b:Nat->PC):PT:=
 (.ite (ah bL dg)
 (.chk (ao r9 bL)
 (.ite (ah (aA r3 (.llen (pn r9 bL))) (pi 0))
 (.chk (.nt pT)
 (.chk (.nt pT)
 (.next ⟨[(3,(aA r3 (.llen (pn r9 bL)))),(11,(aA bL (pi 1)))],[]⟩)))
 (.next ⟨[(3,(aA r3 (.llen (pn r9 bL)))),(11,(aA bL (pi 1)))],[]⟩)))
 (.exit 0 ⟨[(12,(ah bL dg))],[]⟩))
def Ow (b:Nat->PC):PT:=
 (.ite (ah dx kE)
 (.chk (ao gh dx)
 (.chk (bz (.llen (.app o6 (pn gh dx))) cj)
 (.next ⟨[(6,pN),(27,(aA dx (pi 1)))],[(6,(.app o6 (pn gh dx)))]⟩)))
 (.exit 2 ⟨[(28,(ah dx kE))],[]⟩))
def ZS:PT:=
 (.brk ⟨[(11,(pi 0)),(10,(.llen r0)),(9,r0),(3,(pi 0))],[]⟩
(av2 b)
 (.call ⟨[],[]⟩ [] 24 228 [pL,r3]
 (.brk ⟨[(27,(pi 0)),(26,(.llen r0)),(25,r0),(6,pN)],[(6,lg)]⟩
(av3 b)
 (.ret o6))))
def aqh:PT×List (Shp×PT):=(ZS b,[(.lp 0 [3,11,12] [] [3,11] [],Ov b),(.lp 2 [6,27,28] [6] [6,27] [6],Ow b)])
def Nf:B1.map told=some (aqh (bk B1)):=by kernel_rfl
def aDd:tree (ab B1)=ZS ES:=bH Nf
def ajJ:round 0 [3,11,12] [] [3,11] [] (ES 0)=Ov ES:=bm Nf 0 λ_=>rfl
def ajK:round 2 [6,27,28] [6] [6,27] [6] (ES 1)=Ow ES:=bm Nf 1 λ_=>rfl
def JO:Option PC:=cF [2,3,7,12] [] Tryz.f163 163 [1]
def X5:PT:=
 (.ite (aF (pc (.mk [r0]) 4) (pi 0))
 (.ret (pi 0))
 (.ite (.nt jW)
 (.ret (pi 2))
 (.ite (aF oV (pi 0))
 (.ret (pi 1))
 (.ret (pi 0)))))
def agS:JO.map told=some (X5,[]):=by kernel_rfl
def aBh:tree (ab JO)=X5:=aT agS
def JM:Option PC:=cF [8,9,10,11] [] Tryz.f11 11 [4,6]
def X3:PT:=
 (.call ⟨[],[(6,(.mk [r2])),(4,(.mk [r0]))]⟩ [] 14 38 [Dw,r3]
 (.ite (peq (.llen (pc (.setc o6 0 bU) 15)) (pi 0))
 (.ret (pi (-1)))
 (.call ⟨[],[(6,(.setc o6 0 bU))]⟩ [] 23 40 [(ar 8 o4),r1,(pi 6),(ar 19 (.setc o6 0 bU)),r3]
 (.call ⟨[],[]⟩ [] 24 39 [gI]
 (.call ⟨[(29,(ar 15 o6)),(27,(ar 8 o4)),(9,(.mx lg (pi 0)))],[]⟩ [] 31 42 [(ar 19 o6)]
 (.call ⟨[],[]⟩ [] 33 41 [dx,nu,tQ,r9]
 (.ite (aF (.tget tS 1) (pi 0))
 (.ret (pi (-1)))
 (.ret (.tget tS 0)))))))))
def agQ:JM.map told=some (X3,[]):=by kernel_rfl
def aBf:tree (ab JM)=X3:=aT agQ
def JN:Option PC:=cF [2] [] Tryz.f39 39 [1]
def X4:PT:=
 (.ite (.pick (aF (pc (.mk [r0]) 4) (pi 0)) pT (.nt jW))
 (.ret (pi (-1)))
 (.ret oV))
def agR:JN.map told=some (X4,[]):=by kernel_rfl
def aBg:tree (ab JN)=X4:=aT agR
def BZ:Option PC:=cF [2,4] [] Tryz.f42 42 [1,3,6,8]
def EP:Nat->PC:=bo BZ
def av0:PC:=.block 0 [3,16,17] [3] (.loop [3,16] [3] (b 0))
def av1:PC:=.block 2 [2,3,36,37] [3] (.loop [2,3,36] [3] (b 1))
def Il (b:Nat->PC):PT:=
 (.ite (ah cU dt)
 (.chk (ao bU cU)
 (.ite (.pick (peq r4 (pi 1)) (peq (pc (.setc z9 0 tK) 0) (pi 1)) pF)
 (.chk (bz (.llen (.app o3 (.lst [(pc (.setc z9 0 tK) 6)]))) cj)
 (.next ⟨[(3,pN),(16,(aA cU (pi 1)))],[(3,(.app o3 (.lst [(pc (.setc z9 0 tK) 6)])))]⟩))
 (.next ⟨[(16,(aA cU (pi 1)))],[]⟩)))
 (.exit 0 ⟨[(17,(ah cU dt))],[]⟩))
def Az (b:Nat->PC):PT:=
 (.ite (ah iu oY)
 (.chk (ao Hq iu)
 (.ite (.pick (peq r4 (pi 0)) (peq (pc Hc 0) (pi 2)) pF)
 (.ret (pc Hc 6))
 (.ite (.pick (peq r4 (pi 1)) (peq (pc Hc 0) (pi 1)) pF)
 (.chk (bz (.llen (.app o3 (.lst [(pc Hc 6)]))) cj)
 (.next ⟨[(3,pN),(36,(aA iu (pi 1)))],[(3,(.app o3 (.lst [(pc Hc 6)])))]⟩))
 (.next ⟨[(36,(aA iu (pi 1)))],[]⟩))))
 (.exit 2 ⟨[(37,(ah iu oY))],[]⟩))
def ZO:PT:=
 (.brk ⟨[(16,(pi 0)),(15,(.llen rN)),(14,rN),(4,xe),(3,pN),(2,(pi 0))],[(3,pL),(1,(.mk [r0]))]⟩
(av0 b)
 (.brk ⟨[(36,(pi 0)),(35,(.llen (pc o1 17))),(34,(pc o1 17))],[]⟩
(av1 b)
 (.ite (peq (.llen o3) (pi 0))
 (.ret (pi (-1)))
 (.call ⟨[],[]⟩ [] 66 82 [o3]
 (.ret r66)))))
def aqf:PT×List (Shp×PT):=(ZO b,[(.lp 0 [3,16,17] [3] [3,16] [3],Il b),(.lp 2 [2,3,36,37] [3] [2,3,36] [3],Az b)])
def Nc:BZ.map told=some (aqf (bk BZ)):=by kernel_rfl
def aC8:tree (ab BZ)=ZO EP:=bH Nc
def Xa:round 0 [3,16,17] [3] [3,16] [3] (EP 0)=Il EP:=bm Nc 0 λ_=>rfl
def Io:round 2 [2,3,36,37] [3] [2,3,36] [3] (EP 1)=Az EP:=bm Nc 1 λ_=>rfl
def B7:Option PC:=cF [2,3,4] [] Tryz.f82 82 []
def QH:Nat->PC:=bo B7
def af8:PC:=.block 0 [3,4,12,13,14,15] [] (.loop [3,4] [] (b 0))
def Ox (b:Nat->PC):PT:=
 (.ite (ah r4 (.llen r0))
 (.chk (ao r0 r4)
 (.next ⟨[(3,(.mn r3 (pn r0 r4))),(4,(aA r4 (pi 1)))],[]⟩))
 (.exit 0 ⟨[(12,r4),(13,r0),(14,(.llen r0)),(15,(ah r4 (.llen r0)))],[]⟩))
def Z6:PT:=
 (.ite (ah (.llen r0) (pi 1))
 (.chk (.nt pT)
 (.chk (.nt pT)
 (.chk (ao r0 (pi 0))
 (.brk ⟨[(4,(pi 1)),(3,(pn r0 (pi 0)))],[]⟩
(af8 b)
 (.ret r3)))))
 (.chk (ao r0 (pi 0))
 (.brk ⟨[(4,(pi 1)),(3,(pn r0 (pi 0)))],[]⟩
(af8 b)
 (.ret r3))))
def aqp:PT×List (Shp×PT):=(Z6 b,[(.lp 0 [3,4,12,13,14,15] [] [3,4] [],Ox b)])
def Vl:B7.map told=some (aqp (bk B7)):=by kernel_rfl
def aDr:tree (ab B7)=Z6 QH:=bH Vl
def ajL:round 0 [3,4,12,13,14,15] [] [3,4] [] (QH 0)=Ox QH:=bm Vl 0 λ_=>rfl
def E4:Option PC:=cF [8,9,15,39,58,74,11,12] [] Tryz.f41 41 [4,5,10]
def Pf:PT:=
 (.blockS ⟨[],[(10,(.setc z3 0 (.mk [(pc (.mk [r1]) 5),(pc (.mk [r1]) 6),(pc (.mk [r1]) 7)]))),(5,(.mk [r1])),(4,(.mk [r0]))]⟩ 0 [8,9,15,16,17,18,19,25,26,32,33,38,39,40,41,42,43,47,48,52,53,57,58,59,60,61,65,66,69,70,73,74,75,76,77,80] []
 (.call ⟨[],[]⟩ [] 17 61 [(ar 8 o4)]
 (.call ⟨[(19,(aF jn (pi 0)))],[]⟩ [(19,false)] 23 77 [(ar 8 o4),(pc o5 9)]
 (.call ⟨[(26,(.pick fN pT (.nt gI)))],[]⟩ [(26,false)] 30 77 [(ar 8 o4),(pc o5 10)]
 (.call ⟨[(33,(.pick kE pT (.nt tP)))],[]⟩ [(33,false)] 36 78 [(pc o5 8)]
 (.iteS ⟨[],[]⟩ (.pick tS pT (.nt iu)) [8,9,39,40,41,42,43,47,48,52,53,57,58,59,60,61,65,66,69,70,73,74,75,76,77,80] []
 (.ret (.tup [(pi 0),(pi 1)]))
 (.iteS ⟨[],[]⟩ (.pick (.pick (.pick (ah (pc bG 0) (pi 0)) pT (ba (pc bG 0) (pi 5))) pT (ah (pc bG 2) (pi 0))) pT (ba (pc bG 2) (pi 2))) [8,9,58,59,60,61,65,66,69,70,73,74,75,76,77,80] []
 (.ret (.tup [(pi 0),(pi 1)]))
 (.call ⟨[(61,(aF r2 (pi (-1))))],[]⟩ [(61,true)] 63 78 [r2]
 (.iteS ⟨[],[]⟩ (.pick (.pick (.pick Ht (.nt N3) pF) pT (ah r3 (pi 0))) pT (aR r3 (pi 20000))) [8,9,74,75,76,77,80] []
 (.ret (.tup [(pi 0),(pi 1)]))
 (.call ⟨[],[]⟩ [] 76 79 [(.mk [(pc bG 0),(pc bG 1),(pc bG 2)])]
 (.ite (.pick vm (peq r2 (pi (-1))) pF)
 (.ret (.tup [(pi 0),(pi 4)]))
 (.next ⟨[],[]⟩)))
 (.next ⟨[],[]⟩)))
 (.next ⟨[],[]⟩))
 (.next ⟨[],[]⟩))))))
 (.call ⟨[],[]⟩ [] 85 80 [(ar 8 o4),(ar 15 o5),r2]
 (.ite (aF (.tget Hw 1) (pi 0))
 (.ret (.tup [(pi 0),(.tget Hw 1)]))
 (.call ⟨[(11,(.tget Hw 0))],[]⟩ [] 92 78 [(.tget Hw 0)]
 (.ite (.pick (.nt Wo) pT (aR (aA bL r3) (pi 100000)))
 (.ret (.tup [(pi 0),(pi 3)]))
 (.call ⟨[],[]⟩ [] 106 81 [(ar 8 o4),(pc o5 10),(aA bL r3)]
 (.ret (.tup [(.tget Hp 0),(.tget Hp 1)]))))))))
def ah5:E4.map told=some (Pf,[]):=by kernel_rfl
def aky:tree (ab E4)=Pf:=aT ah5
def KO:Option PC:=cF [4] [] Tryz.f77 77 [2]
def Z8:PT:=
 (.ret (.pick (ba r1 (pi 0)) (ah r1 (.llen oV)) pF))
def ah9:KO.map told=some (Z8,[]):=by kernel_rfl
def aDw:tree (ab KO)=Z8:=aT ah9
def KP:Option PC:=cF [2] [] Tryz.f78 78 []
def Z9:PT:=
 (.ret (.pick (ba r0 (pi 0)) (bz r0 (pi 100000)) pF))
def aia:KP.map told=some (Z9,[]):=by kernel_rfl
def aDx:tree (ab KP)=Z9:=aT aia
def KN:Option PC:=cF [2] [] Tryz.f79 79 [1]
def Z7:PT:=
 (.ret (.pick (peq jW (pi 0)) pT (peq jW (pi 1))))
def ah6:KN.map told=some (Z7,[]):=by kernel_rfl
def aDv:tree (ab KN)=Z7:=aT ah6
def E6:Option PC:=cF [6,7,13,16,24,33,8,9] [] Tryz.f80 80 [3,4]
def qs:PT:=
 (.blockS ⟨[(12,(pc (.mk [r1]) 5))],[(4,(.mk [r1])),(3,(.mk [r0]))]⟩ 0 [6,7,13,14,16,17,24,25,33,34] []
 (.iteS ⟨[],[]⟩ (peq bY (pi 0)) [6,7,16,17,24,25,33,34] []
 (.ret (.tup [r2,(pi 0)]))
 (.iteS ⟨[],[]⟩ (peq bY (pi 1)) [6,7,24,25,33,34] []
 (.call ⟨[],[]⟩ [] 21 120 [r2,(.mk [(pc o4 5),(pc o4 6),(pc o4 7)])]
 (.ret (.tup [(.tget gH 0),(.tget gH 1)])))
 (.iteS ⟨[],[]⟩ (peq bY (pi 2)) [6,7,33,34] []
 (.call ⟨[],[]⟩ [] 30 120 [(pc o4 8),(.mk [(pc o4 5),(pc o4 6),(pc o4 7)])]
 (.ret (.tup [(.tget tP 0),(.tget tP 1)])))
 (.iteS ⟨[],[]⟩ (peq bY (pi 4)) [6,7] []
 (.call ⟨[],[]⟩ [] 41 64 [(ar 8 o3),(pc o4 9),(pc o4 10)]
 (.ret (.tup [(aA (pc o4 8) (.tget tT 0)),(.tget tT 1)])))
 (.next ⟨[],[]⟩)
 (.next ⟨[],[]⟩))
 (.next ⟨[],[]⟩))
 (.next ⟨[],[]⟩))
 (.next ⟨[],[]⟩))
 (.ret (.tup [(pc o4 6),(pi 0)])))
def ah8:E6.map told=some (qs,[]):=by kernel_rfl
def Ee:tree (ab E6)=qs:=aT ah8
def E5:Option PC:=cF [4,5] [] Tryz.f120 120 [3]
def Ed:PT:=
 (.ite (.pick (ah (pc (.mk [r1]) 1) (pi 0)) pT (aR (pc (.mk [r1]) 1) (pi 20000)))
 (.ret (.tup [(pi 0),(pi 3)]))
 (.iteS ⟨[],[(3,(.mk [r1]))]⟩ (peq (pc (.mk [r1]) 2) (pi 1)) [4,5] []
 (.call ⟨[],[]⟩ [] 20 160 [r0,(pc o3 1)]
 (.ret (.tup [(.tget dV 0),(.tget dV 1)])))
 (.next ⟨[],[]⟩)
 (.ret (.tup [(aA r0 (pc o3 1)),(pi 0)]))))
def ah7:E5.map told=some (Ed,[]):=by kernel_rfl
def Pg:tree (ab E5)=Ed:=aT ah7
def E1:Option PC:=cF [4,5,6,7,8,9] [] Tryz.f160 160 []
def O8:PT:=
 (.call ⟨[],[]⟩ [] 11 161 [r0]
 (.ite (.pick (.pick (.nt bL) pT (ah r1 (pi (-5000)))) pT (aR r1 (pi 5000)))
 (.ret (.tup [(pi 0),(pi 3)]))
 (.call ⟨[],[]⟩ [] 23 193 [r0]
 (.chk (aF (pi 12) (pi 0))
 (.call ⟨[(41,(.tget gI 2)),(40,(aA (.ai .rem .i64 NR (pi 12)) (pi 1))),(39,(.ai .quo .i64 NR (pi 12)))],[]⟩ [] 44 195 [(.ai .quo .i64 NR (pi 12)),(aA (.ai .rem .i64 NR (pi 12)) (pi 1))]
 (.call ⟨[],[]⟩ [] 46 194 [rS,rT,(.mn tT Ar)]
 (.ret (.tup [(.tget Hr 0),(.tget Hr 1)]))))))))
def ag3:E1.map told=some (O8,[]):=by kernel_rfl
def aku:tree (ab E1)=O8:=aT ag3
def J3:Option PC:=cF [2] [] Tryz.f161 161 []
def Yn:PT:=
 (.ret (.pick (bz (pi 0) r0) (bz r0 (pi 100000)) pF))
def aha:J3.map told=some (Yn,[]):=by kernel_rfl
def aBC:tree (ab J3)=Yn:=aT aha
def JZ:Option PC:=cF [2,3,4,5,6,7,8,9] [] Tryz.f193 193 []
def Yj:PT:=
 (.chk (aF (pi 146097) (pi 0))
 (.chk (aF (pi 1460) (pi 0))
 (.chk (aF (pi 36524) (pi 0))
 (.chk (aF (pi 146096) (pi 0))
 (.chk (aF (pi 365) (pi 0))
 (.chk (aF (pi 4) (pi 0))
 (.chk Dv
 (.chk (aF (pi 153) (pi 0))
 (.chk (aF (pi 5) (pi 0))
 (.ret (.tup [(.pick (ah aiW (pi 3)) (aA ai0 (pi 1)) ai0),aiW,(aA (bf (bf (.ai .rem .i64 (aA r0 (pi 730425)) (pi 146097)) (bf (aA (.ai .mul .i64 (pi 365) Ah) (.ai .quo .i64 Ah (pi 4))) (.ai .quo .i64 Ah (pi 100)))) (.ai .quo .i64 (aA (.ai .mul .i64 (pi 153) NZ) (pi 2)) (pi 5))) (pi 1))])))))))))))
def ag5:JZ.map told=some (Yj,[]):=by kernel_rfl
def aBx:tree (ab JZ)=Yj:=aT ag5
def J1:Option PC:=cF [4] [] Tryz.f195 195 []
def Pa:PT:=
 (.ite (peq r1 (pi 12))
 (.ret (pi 31))
 (.call ⟨[],[]⟩ [] 10 218 [r0,(aA r1 (pi 1)),(pi 1)]
 (.call ⟨[],[]⟩ [] 13 218 [r0,r1,(pi 1)]
 (.ret (bf dg dh)))))
def ag7:J1.map told=some (Pa,[]):=by kernel_rfl
def aBA:tree (ab J1)=Pa:=aT ag7
def E3:Option PC:=cF [6,0,1] [] Tryz.f218 218 []
def Pb:PT:=
 (.chk (aF (pi 4) (pi 0))
 (.chk Dv
 (.chk (aF (pi 400) (pi 0))
 (.chk (aF (pi 5) (pi 0))
 (.ret (bf (bf (aA (aA (aA (bf (aA (.ai .mul .i64 (pi 365) NY) (.ai .quo .i64 NY (pi 4))) (.ai .quo .i64 NY (pi 100))) (.ai .quo .i64 NY (pi 400))) (.ai .quo .i64 (aA (.ai .mul .i64 (pi 153) (bf (.pick (ah r1 (pi 3)) (aA r1 (pi 12)) r1) (pi 3))) (pi 2)) (pi 5))) r2) (pi 1)) (pi 730425)))))))
def ag8:E3.map told=some (Pb,[]):=by kernel_rfl
def akv:tree (ab E3)=Pb:=aT ag8
def E2:Option PC:=cF [6,7,8] [] Tryz.f194 194 []
def Eb:PT:=
 (.call ⟨[(28,r2),(27,(.pick (.pick (.pick (.pick (ah r0 (pi 2000)) pT (aR r0 (pi 2300))) pT (ah r1 (pi 1))) pT (aR r1 (pi 12))) pT (ah r2 (pi 1))))],[]⟩ [(27,false)] 31 195 [r0,r1]
 (.ite (.pick dx pT (aR il tQ))
 (.ret (.tup [(pi 0),(pi 3)]))
 (.call ⟨[],[]⟩ [] 37 218 [r0,r1,r2]
 (.call ⟨[(8,lY)],[]⟩ [] 39 161 [lY]
 (.ite (.nt rS)
 (.ret (.tup [(pi 0),(pi 3)]))
 (.ret (.tup [r8,(pi 0)])))))))
def ag4:E2.map told=some (Eb,[]):=by kernel_rfl
def O9:tree (ab E2)=Eb:=aT ag4
def B9:Option PC:=cF [6,7,8,2,9,10] [] Tryz.f81 81 [3]
def QI:Nat->PC:=bo B9
def awg:PC:=.block 0 [] [] (.loop [2,6,7] [] (b 0))
def Xk (b:Nat->PC):PT:=
 (.blockS ⟨[],[]⟩ 1 [2,6,7,9,10,14,15,16,17,18,19,20,21,22,23,24,25,26,27,28,29,30,31,32,34] []
 (.call ⟨[],[]⟩ [] 17 122 [(ar 8 o3),r8,r2]
 (.chk (ao (pc o3 1) r1)
 (.call ⟨[(2,jn)],[]⟩ [] 25 123 [(pn (pc o3 1) r1),jn]
 (.ite (aF (.tget gh 1) (pi 0))
 (.ret (.tup [(pi 0),(pi 3)]))
 (.ite (peq (.tget gh 0) r2)
 (.ret (.tup [r2,(pi 0)]))
 (.next ⟨[(2,(.tget gh 0))],[]⟩))))))
 (.next ⟨[],[]⟩))
def aaa:PT:=
 (.call ⟨[(7,(pi 0)),(6,(pi 0))],[(3,(.mk [r0]))]⟩ [] 13 121 [jX,r1]
 (.brk ⟨[(8,dh)],[]⟩
(awg b)
 (.next ⟨[],[]⟩)))
def aqs:PT×List (Shp×PT):=(aaa b,[(.lp 0 [] [] [2,6,7] [],Xk b)])
def Vm:B9.map told=some (aqs (bk B9)):=by kernel_rfl
def aDy:tree (ab B9)=aaa QI:=bH Vm
def azI:round 0 [] [] [2,6,7] [] (QI 0)=Xk QI:=bm Vm 0 λ_=>rfl
def Ca:Option PC:=cF [6,7,2] [] Tryz.f122 122 [3,9]
def ET:Nat->PC:=bo Ca
def awh:PC:=.block 2 [2,7,14,15] [] (.loop [2,7,14] [] (b 0))
def awi:PC:=.block 0 [2,7,10] [] (.loop [2,7] [] (b 1))
def DU (b:Nat->PC):PT:=
 (.ite rQ
 (.chk (ao bY bU)
 (.next ⟨[(2,(.pick aiZ (aA (pc DH 2) (pi 1)) r2)),(7,(.pick aiZ pT r7)),(14,(aA bU (pi 1)))],[]⟩))
 (.exit 2 ⟨[(15,rQ)],[]⟩))
def Oz:PT:=
 (.ite r7
 (.blockS ⟨[(10,r7)],[]⟩ 1 [2,7,11,12,13,14,15] []
 (.brk ⟨[(14,(pi 0)),(13,(.llen (pc o3 7))),(12,(pc o3 7)),(7,pF)],[]⟩
(awh b)
 (.next ⟨[],[]⟩))
 (.next ⟨[],[]⟩))
 (.exit 0 ⟨[(10,r7)],[]⟩))
def aab:PT:=
 (.brk ⟨[(7,pT)],[(3,(.mk [r0]))]⟩
(awi b)
 (.ret r2))
def aqt:PT×List (Shp×PT):=(aab b,[(.lp 2 [2,7,14,15] [] [2,7,14] [],DU b),(.lp 0 [2,7,10] [] [2,7] [],Oz b)])
def Ni:Ca.map told=some (aqt (bk Ca)):=by kernel_rfl
def aDz:tree (ab Ca)=aab ET:=bH Ni
def Oy:round 2 [2,7,14,15] [] [2,7,14] [] (ET 0)=DU ET:=bm Ni 0 λ_=>rfl
def ajM:round 0 [2,7,10] [] [2,7] [] (ET 1)=Oz ET:=bm Ni 1 λ_=>rfl
def Bi:Option PC:=cF [6] [] Tryz.f123 123 [2,4,5]
def P7:Nat->PC:=bo Bi
def aoJ:PC:=.each cE [16] [4,5] (some (.tup [(pc o4 0),(pc o5 0)])) (b 0)
def Wv (b:Nat->PC):PT:=
 (.exit 1000000007 ⟨[],[(4,(.setc o4 0 cU)),(5,(.setc o5 0 (pi 0)))]⟩)
def Yi:PT:=
 (.call ⟨[],[(5,He),(4,He),(2,(.mk [r0]))]⟩ [] 8 161 [r1]
 (.ite (.nt r8)
 (.ret (.tup [(pc (.setc o4 0 (pi 0)) 0),(pc (.setc o5 0 (pi 3)) 0)]))
 (.call ⟨[],[]⟩ [] 15 162 [(ar 6 o2),r1,(.mn (aA r1 (pi 400)) (pi 100000))]
 (.blockS ⟨[],[]⟩ 0 [] [4,5]
 (.callc ⟨[],[]⟩ [] 18 dt []
 (.brk ⟨[],[]⟩
(aoJ b)
 (.next ⟨[],[]⟩)))
 (.ret (.tup [(pc (.setc o4 0 (pi 0)) 0),(pc (.setc o5 0 (pi 3)) 0)]))))))
def apu:PT×List (Shp×PT):=(Yi b,[(.ea [4,5],Wv b)])
def UE:Bi.map told=some (apu (bk Bi)):=by kernel_rfl
def aBw:tree (ab Bi)=Yi P7:=bH UE
def azq:rY [4,5] (P7 0)=Wv P7:=XY UE 0 λ_=>rfl
def J0:Option PC:=cF [6] [] Tryz.f162 162 [3,4,5]
def Yk:PT:=
 (.ret (.clo 196 [(.ref DA),(.ref (pc (.mk [r2]) 0)),(.ref (ar 6 (.mk [r0])))]))
def ag6:J0.map told=some (Yk,[]):=by kernel_rfl
def aBz:tree (ab J0)=Yk:=aT ag6
def uy:Option PC:=E8 {ctx with fr:=[5],nh:=[]} Tryz.f196 [(.ref I),(.ref I),(.ref Y0)] [I] 1000 [1000]
def P8:Nat->PC:=bo uy
def auX:PC:=.block 0 [5,7,8,9] [1000] (.loop [5] [1000] (b 0))
def N7 (b:Nat->PC):PT:=
 (.ite (bz r5 (.deref r2))
 (.blockS ⟨[],[]⟩ 1 [12,13,14,15,20] [1000]
 (.call ⟨[],[]⟩ [] 14 197 [(.deref r3),r5]
 (.call ⟨[(15,bU)],[(1000,ajk)]⟩ [(15,true)] 18 1000000009 [ajk]
 (.ite (.pick dt (.nt cE) pF)
 (.ret (.o 1000))
 (.next ⟨[],[]⟩))))
 (.next ⟨[(5,Am)],[]⟩))
 (.exit 0 ⟨[(7,r5),(8,(.deref r2)),(9,(bz r5 (.deref r2)))],[]⟩))
def Yl:PT:=
 (.brk ⟨[(5,(.deref r1))],[]⟩
(auX b)
 (.ret (.o 1000)))
def apv:PT×List (Shp×PT):=(Yl b,[(.lp 0 [5,7,8,9] [1000] [5] [1000],N7 b)])
def UF:uy.map told=some (apv (bk uy)):=by kernel_rfl
def aBy:tree (ab uy)=Yl P8:=bH UF
def ajw:round 0 [5,7,8,9] [1000] [5] [1000] (P8 0)=N7 P8:=bm UF 0 λ_=>rfl
def am1:∀yv,E8 {ctx with fr:=[5],nh:=[],yv:=yv} Tryz.f196 [(.ref I),(.ref I),(.ref Y0)] [I] 1000 [1000]=some (ab uy):=λyv=>(show _=uy by kernel_rfl).trans (ak uy UF)
def J2:Option PC:=cF [4,5,6,7] [] Tryz.f197 197 [2]
def Ym:PT:=
 (.call ⟨[],[(2,(.mk [r0]))]⟩ [] 10 193 [r1]
 (.chk (aF (pi 7) (pi 0))
 (.call ⟨[(7,(.tget dg 2)),(6,(.tget dg 1))],[]⟩ [] 19 50 [(pc o2 3),(.ai .rem .i64 (aA r1 (pi 5)) (pi 7))]
 (.call ⟨[(21,(.nt fN))],[]⟩ [(21,true)] 28 50 [(pc o2 4),(aA (.ai .mul .i64 (pi 100) r6) r7)]
 (.call ⟨[(31,(.pick gH (.nt il) pF))],[]⟩ [(31,true)] 35 50 [(pc o2 5),r1]
 (.ret (.pick tQ (.nt oY) pF)))))))
def ag9:J2.map told=some (Ym,[]):=by kernel_rfl
def aBB:tree (ab J2)=Ym:=aT ag9
def JU:Option PC:=cF [] [] Tryz.f126 126 [2,4,5,6,43]
def Yc:PT:=
 (.chk (ao (pc (.mk [r0]) 25) r1)
 (.call ⟨[],[(6,(.setc DD 0 (.mk [r1,(pc Hj 0),(pc Hj 2),(pi 0),(pi 0),(pi 0),(.pick (aF (pc Hj 0) (pi 1)) (peq (.ai .and .i64 (pc Hj 8) (pi 1)) (pi 0)) pF)]))),(5,Hj),(4,DD),(2,(.mk [r0]))]⟩ [] 33 164 [V0,r1,(pc (.mk [r0]) 9)]
 (.iteS ⟨[],[]⟩ (.nt tS) [] [6]
 (.call ⟨[(36,(pc o2 29))],[]⟩ [] 39 166 [(ar 31 o2),(pi 1),r1]
 (.call ⟨[],[]⟩ [] 42 166 [(ar 31 o2),(pi 2),r1]
 (.call ⟨[],[]⟩ [] 44 165 [(.lst [iu,rS,Wk])]
 (.next ⟨[],[(6,(.setc o6 3 Ar))]⟩))))
 (.next ⟨[],[]⟩)
 (.call ⟨[],[]⟩ [] 49 167 [(ar 31 o2),r1]
 (.ret (ar 7 (.setc o4 0 (ar 7 (.pick (.pick (peq (pc o5 0) (pi 1)) pT (peq (pc o5 0) (pi 4))) (.setc Wg 5 (.mn (pc Wg 5) (pc o5 5))) Wg)))))))))
def agY:JU.map told=some (Yc,[]):=by kernel_rfl
def aBp:tree (ab JU)=Yc:=aT agY
def K1:Option PC:=cF [6] [] Tryz.f164 164 [3]
def aao:PT:=
 (.call ⟨[(16,(.pick (ba r1 (pi 0)) (ah r1 (.llen rN)) pF))],[]⟩ [(16,true)] 19 198 [(ar 19 (.mk [r0])),r2]
 (.ret (.pick cU (.look fN r1 pF) pF)))
def ain:K1.map told=some (aao,[]):=by kernel_rfl
def aDN:tree (ab K1)=aao:=aT ain
def Cd:Option PC:=cF [4] [] Tryz.f198 198 [2,5,7]
def QL:Nat->PC:=bo Cd
def awn:PC:=.block 0 [12,13] [5] (.loop [12] [5] (b 0))
def Iz (b:Nat->PC):PT:=
 (.ite tJ
 (.chk (ao dg bY)
 (.ite (.pick (peq (pc (.setc z9 0 tM) 0) (pi 7)) (bz (pc (.setc z9 0 tM) 6) r1) pF)
 (.chk (ah (.mlen o5) cj)
 (.next ⟨[(12,Ak)],[(5,(.put o5 (pc (.setc z9 0 tM) 4) pT))]⟩))
 (.next ⟨[(12,Ak)],[]⟩)))
 (.exit 0 ⟨[(13,tJ)],[]⟩))
def aap:PT:=
 (.brk ⟨[(12,(pi 0)),(11,(.llen (pc (.mk [r0]) 17))),(10,(pc (.mk [r0]) 17)),(5,pN)],[(5,(.con (.map [])))]⟩
(awn b)
 (.ret o5))
def aqx:PT×List (Shp×PT):=(aap b,[(.lp 0 [12,13] [5] [12] [5],Iz b)])
def Vp:Cd.map told=some (aqx (bk Cd)):=by kernel_rfl
def aDO:tree (ab Cd)=aap QL:=bH Vp
def Xo:round 0 [12,13] [5] [12] [5] (QL 0)=Iz QL:=bm Vp 0 λ_=>rfl
def JV:Option PC:=cF [6] [] Tryz.f166 166 [3,7]
def Yd:PT:=
 (.call ⟨[],[]⟩ [] 23 76 [jX,(pc (.mk [r0]) 8),r1,(ar 24 (.setc ai7 0 (.mk [V0,r2,r2,(pi (-1)),(pc (.mk [r0]) 30),(pc (.mk [r0]) 9)])))]
 (.call ⟨[],[]⟩ [] 24 163 [gI]
 (.ret lg)))
def agZ:JV.map told=some (Yd,[]):=by kernel_rfl
def aBq:tree (ab JV)=Yd:=aT agZ
def Bf:Option PC:=cF [2,3,5,12,15] [] Tryz.f165 165 []
def P5:Nat->PC:=bo Bf
def auV:PC:=.block 0 [2,3,8,9] [] (.loop [2,3,8] [] (b 0))
def HA (b:Nat->PC):PT:=
 (.ite (ah r8 r7)
 (.chk (ao r6 r8)
 (.ite (peq (pn r6 r8) (pi 0))
 (.ret (pi 0))
 (.next ⟨[(3,(.pick (peq (pn r6 r8) (pi 2)) (pi 2) r3)),(8,oX)],[]⟩)))
 (.exit 0 ⟨[(9,(ah r8 r7))],[]⟩))
def Ya:PT:=
 (.brk ⟨[(8,(pi 0)),(7,(.llen r0)),(6,r0),(3,(pi 1)),(2,(pi 0))],[]⟩
(auV b)
 (.ret r3))
def apr:PT×List (Shp×PT):=(Ya b,[(.lp 0 [2,3,8,9] [] [2,3,8] [],HA b)])
def UC:Bf.map told=some (apr (bk Bf)):=by kernel_rfl
def aBn:tree (ab Bf)=Ya P5:=bH UC
def Wr:round 0 [2,3,8,9] [] [2,3,8] [] (P5 0)=HA P5:=bm UC 0 λ_=>rfl
def Bg:Option PC:=cF [4,5,6,7,10,50,54] [] Tryz.f167 167 [2,9]
def P6:Nat->PC:=bo Bg
def auW:PC:=.block 0 [7,23,24] [] (.loop [7,23] [] (b 0))
def HC (b:Nat->PC):PT:=
 (.ite (ah gI kD)
 (.chk (ao gH gI)
 (.next ⟨[(7,(.pick r7 pT (aR (pc (.setc z2 0 (pn gH gI)) 0) r1))),(23,(aA gI (pi 1)))],[]⟩))
 (.exit 0 ⟨[(24,(ah gI kD))],[]⟩))
def Ye:PT:=
 (.call ⟨[(5,(pi 0))],[(2,(.mk [r0]))]⟩ [] 14 199 [V0,r1]
 (.brk ⟨[(23,(pi 0)),(22,(.llen (pc o2 26))),(21,(pc o2 26)),(7,pF),(6,(.llen (pc o2 26))),(5,bU)],[]⟩
(auW b)
 (.ite (.nt r7)
 (.ret (.tup [(pi 0),r5]))
 (.chk (ao (pc o2 26) (bf r6 (pi 1)))
 (.call ⟨[(10,(pc (pn (pc o2 26) (bf r6 (pi 1))) 1))],[]⟩ [] 48 166 [(ar 31 o2),(pi 4),r1]
 (.ite (peq fj (pi 1))
 (.ret (.tup [fj,dg]))
 (.ite (peq fj (pi 2))
 (.ret (.tup [fj,(.mn r5 dg)]))
 (.ret (.tup [fj,r5])))))))))
def aps:PT×List (Shp×PT):=(Ye b,[(.lp 0 [7,23,24] [] [7,23] [],HC b)])
def UD:Bg.map told=some (aps (bk Bg)):=by kernel_rfl
def aBr:tree (ab Bg)=Ye P6:=bH UD
def Ws:round 0 [7,23,24] [] [7,23] [] (P6 0)=HC P6:=bm UD 0 λ_=>rfl
def Bq:Option PC:=cF [4,5] [] Tryz.f199 199 [2,7]
def Qd:Nat->PC:=bo Bq
def au4:PC:=.block 0 [5,14,15] [] (.loop [5,14] [] (b 0))
def N9 (b:Nat->PC):PT:=
 (.ite rQ
 (.chk (ao bY bU)
 (.next ⟨[(5,(.pick (bz (pc (.setc z2 0 (pn bY bU)) 0) r1) (pc (.setc z2 0 (pn bY bU)) 1) r5)),(14,(aA bU (pi 1)))],[]⟩))
 (.exit 0 ⟨[(15,rQ)],[]⟩))
def YD:PT:=
 (.brk ⟨[(14,(pi 0)),(13,(.llen (pc (.mk [r0]) 16))),(12,(pc (.mk [r0]) 16)),(5,(pc (.mk [r0]) 3))],[]⟩
(au4 b)
 (.ret r5))
def apB:PT×List (Shp×PT):=(YD b,[(.lp 0 [5,14,15] [] [5,14] [],N9 b)])
def UK:Bq.map told=some (apB (bk Bq)):=by kernel_rfl
def aBW:tree (ab Bq)=YD Qd:=bH UK
def ajy:round 0 [5,14,15] [] [5,14] [] (Qd 0)=N9 Qd:=bm UK 0 λ_=>rfl
def Q0:Option PC:=cF [2] [] Tryz.f86 86 [1]
def aCs:PT:=
 (.ret (.pick (aF (pc (.mk [r0]) 3) (pi 1)) pT (.pick (aF oV (pi 1)) (.nt (pc (.mk [r0]) 6)) pF)))
def axE:Q0.map told=some (aCs,[]):=by kernel_rfl
def QY:Option PC:=cF [4] [] Tryz.f71 71 [2,3]
def aCm:PT:=
 (.ret (bf xe (pc (.mk [r1]) 5)))
def axC:QY.map told=some (aCm,[]):=by kernel_rfl
def By:Option PC:=cF [] [] Tryz.f44 44 [3,6,7,9]
def Qj:Nat->PC:=bo By
def avh:PC:=.block 0 [7,12,13] [7] (.loop [7,12] [7] (b 0))
def Og (b:Nat->PC):PT:=
 (.ite tJ
 (.chk (ao dg bY)
 (.ite (ba (pc (.setc DD 0 tM) 5) r2)
 (.chk (ao (pc o3 3) (pc (.setc DD 0 tM) 2))
 (.chk (bz (.llen ai6) cj)
 (.next ⟨[(7,pN),(12,Ak)],[(7,ai6)]⟩)))
 (.next ⟨[(12,Ak)],[]⟩)))
 (.exit 0 ⟨[(13,tJ)],[]⟩))
def YY:PT:=
 (.brk ⟨[(12,(pi 0)),(11,(.llen r1)),(10,r1),(7,pN)],[(7,pL),(3,(.mk [r0]))]⟩
(avh b)
 (.mcall ⟨[],[]⟩ 1000000013 49 [pN,o7]
 (.call ⟨[],[]⟩ [] 34 83 [mw]
 (.ret Hq))))
def apL:PT×List (Shp×PT):=(YY b,[(.lp 0 [7,12,13] [7] [7,12] [7],Og b)])
def UX:By.map told=some (apL (bk By)):=by kernel_rfl
def aCq:tree (ab By)=YY Qj:=bH UX
def ajE:round 0 [7,12,13] [7] [7,12] [7] (Qj 0)=Og Qj:=bm UX 0 λ_=>rfl
def Bx:Option PC:=cF [6,7,9] [] Tryz.f72 72 [3,5,1,10]
def Qi:Nat->PC:=bo Bx
def avg:PC:=.block 0 [7,18,19] [] (.loop [7,18] [] (b 0))
def Of (b:Nat->PC):PT:=
 (.ite (ah cE jn)
 (.chk (ao o1 cE)
 (.chk (ao (pc o3 2) (pn o1 cE))
 (.chk (ao (pc o5 1) (pc (pn (pc o3 2) (pn o1 cE)) 0))
 (.chk (aF (pc NV 1) (pi 0))
 (.next ⟨[(7,(.ai .quo .i64 (bf (aA (.ai .mul .i64 r7 (pc NV 0)) (pc NV 1)) (pi 1)) (pc NV 1))),(18,(aA cE (pi 1)))],[]⟩)))))
 (.exit 0 ⟨[(19,(ah cE jn))],[]⟩))
def YX:PT:=
 (.call ⟨[],[(5,(.mk [r2])),(3,(.mk [r0]))]⟩ [] 12 113 [r1]
 (.mcall ⟨[],[(3,(ar 8 o3)),(1,bY)]⟩ 1000000013 114 [pN,(.clo 115 [(.ref (ar 8 o3))]),bY]
 (.brk ⟨[(18,(pi 0)),(17,(.llen mw)),(7,xd)],[(1,mw)]⟩
(avg b)
 (.ret r7))))
def apK:PT×List (Shp×PT):=(YX b,[(.lp 0 [7,18,19] [] [7,18] [],Of b)])
def UW:Bx.map told=some (apK (bk Bx)):=by kernel_rfl
def aCp:tree (ab Bx)=YX Qi:=bH UW
def ajD:round 0 [7,18,19] [] [7,18] [] (Qi 0)=Of Qi:=bm UW 0 λ_=>rfl
def QZ:Option PC:=cF [5] [] Tryz.f115 115 []
def aCo:PT:=
 (.chk (ao (pc (.deref r2) 2) r0)
 (.chk (ao (pc (.deref r2) 2) r1)
 (.ret (bf (pc (pn (pc (.deref r2) 2) r0) 0) (pc (pn (pc (.deref r2) 2) r1) 0)))))
def axD:QZ.map told=some (aCo,[]):=by kernel_rfl
def J8:Option PC:=cF [6,7,8,9,10] [] Tryz.f37 37 []
def Yv:PT:=
 (.call ⟨[],[]⟩ [] 12 73 [r0,rM]
 (.call ⟨[(14,(.nt bY))],[]⟩ [(14,false)] 16 73 [r1,(pi 1000)]
 (.call ⟨[(19,(.pick bU pT (.nt cU)))],[]⟩ [(19,false)] 21 73 [r2,(pi 20000)]
 (.ite (.pick fN pT (.nt gH))
 (.ret (.tup [(pi 0),(pi 1)]))
 (.call ⟨[],[]⟩ [] 29 74 [r0,(.ai .mul .i64 r1 r2),(pi 360000)]
 (.ite (.pick (.nt (.tget nu 2)) pT (aR ai1 r0))
 (.ret (.tup [(pi 0),(pi 3)]))
 (.ret (.tup [ai1,(pi 0)]))))))))
def ahi:J8.map told=some (Yv,[]):=by kernel_rfl
def aBO:tree (ab J8)=Yv:=aT ahi
def Ka:Option PC:=cF [4] [] Tryz.f73 73 []
def Yx:PT:=
 (.ret (.pick (ba r0 (pi 0)) (bz r0 r1) pF))
def ahk:Ka.map told=some (Yx,[]):=by kernel_rfl
def aBQ:tree (ab Ka)=Yx:=aT ahk
def J9:Option PC:=cF [6,7,8,9,10,11,12] [] Tryz.f74 74 []
def Yw:PT:=
 (.call ⟨[],[]⟩ [] 18 116 [(.conv .u64 r0),(.conv .u64 r1)]
 (.ite (ba (.tget cE 0) (.conv .u64 r2))
 (.ret (.tup [(pi 0),(pi 0),pF]))
 (.call ⟨[],[]⟩ [] 30 117 [(.tget cE 0),(.tget cE 1),(.conv .u64 r2)]
 (.ite (aR (.tget tP 0) (.con (.v (.int .u64 1099511627776))))
 (.ret (.tup [(pi 0),(pi 0),pF]))
 (.ret (.tup [(.conv .i64 (.tget tP 0)),(.conv .i64 (.tget tP 1)),pT]))))))
def ahj:J9.map told=some (Yw,[]):=by kernel_rfl
def aBP:tree (ab J9)=Yw:=aT ahj
def Bh:Option PC:=cF [6,7,8,2,9,10,11,12,13,14,15,16,17,18] [] Tryz.f117 117 []
def yh:Nat->PC:=bo Bh
def GV:PC:=.block 0 [15,16,67,68,69,78] [] (.loop [15,16] [] (b 0))
def GW:PC:=.block 2 [16,18,102,103,104,113] [] (.loop [16,18] [] (b 1))
def HE (b:Nat->PC):PT:=
 (.ite V9
 (.ite (ba DI la)
 (.exit 0 ⟨[(15,(.ai .sub .u64 dt NL)),(16,DI),(67,dt),(68,(ba dt la)),(69,(ba dt la)),(78,V9)],[]⟩)
 (.next ⟨[(15,(.ai .sub .u64 dt NL)),(16,DI)],[]⟩))
 (.exit 0 ⟨[(67,dt),(68,(ba dt la)),(69,(ba dt la)),(78,V9)],[]⟩))
def HF (b:Nat->PC):PT:=
 (.ite V8
 (.ite (ba DI la)
 (.exit 2 ⟨[(16,DI),(18,(.ai .sub .u64 cE NL)),(102,cE),(103,(ba cE la)),(104,(ba cE la)),(113,V8)],[]⟩)
 (.next ⟨[(16,DI),(18,(.ai .sub .u64 cE NL))],[]⟩))
 (.exit 2 ⟨[(102,cE),(103,(ba cE la)),(104,(ba cE la)),(113,V8)],[]⟩))
def O7:PT:=
 (.ite (peq r2 (.con (.v (.int .u64 0))))
 (.chk pF
 (.chk (.nt pT)
 (.ite (bz r2 r0)
 (.chk pF
 (.chk (.nt pT)
 (.ite N1
 (.chk (aF r2 (pi 0))
 (.ret (.tup [(.ai .quo .u64 r1 r2),(.ai .rem .u64 r1 r2)])))
 (.call ⟨[],[]⟩ [] 35 153 [r2]
 (.chk (ba rL (pi 0))
 (.chk Dx
 (.chk NU
 (.chk (aF rO (pi 0))
 (.brk ⟨[(16,NS),(15,NM),(14,NI),(13,NH),(11,Ao),(10,NJ),(9,rO),(2,Hi),(8,rL)],[]⟩
(GV b)
 (.chk (aF r9 (pi 0))
 (.brk ⟨[(16,NT),(18,(.ai .quo .u64 tL r9)),(17,tL)],[]⟩
(GW b)
 (.chk (ba r8 (pi 0))
 (.ret (.tup [NX,NP]))))))))))))))
 (.ite N1
 (.chk (aF r2 (pi 0))
 (.ret (.tup [(.ai .quo .u64 r1 r2),(.ai .rem .u64 r1 r2)])))
 (.call ⟨[],[]⟩ [] 35 153 [r2]
 (.chk (ba rL (pi 0))
 (.chk Dx
 (.chk NU
 (.chk (aF rO (pi 0))
 (.brk ⟨[(16,NS),(15,NM),(14,NI),(13,NH),(11,Ao),(10,NJ),(9,rO),(2,Hi),(8,rL)],[]⟩
(GV b)
 (.chk (aF r9 (pi 0))
 (.brk ⟨[(16,NT),(18,(.ai .quo .u64 tL r9)),(17,tL)],[]⟩
(GW b)
 (.chk (ba r8 (pi 0))
 (.ret (.tup [NX,NP])))))))))))))))
 (.ite (bz r2 r0)
 (.chk pF
 (.chk (.nt pT)
 (.ite N1
 (.chk (aF r2 (pi 0))
 (.ret (.tup [(.ai .quo .u64 r1 r2),(.ai .rem .u64 r1 r2)])))
 (.call ⟨[],[]⟩ [] 35 153 [r2]
 (.chk (ba rL (pi 0))
 (.chk Dx
 (.chk NU
 (.chk (aF rO (pi 0))
 (.brk ⟨[(16,NS),(15,NM),(14,NI),(13,NH),(11,Ao),(10,NJ),(9,rO),(2,Hi),(8,rL)],[]⟩
(GV b)
 (.chk (aF r9 (pi 0))
 (.brk ⟨[(16,NT),(18,(.ai .quo .u64 tL r9)),(17,tL)],[]⟩
(GW b)
 (.chk (ba r8 (pi 0))
 (.ret (.tup [NX,NP]))))))))))))))
 (.ite N1
 (.chk (aF r2 (pi 0))
 (.ret (.tup [(.ai .quo .u64 r1 r2),(.ai .rem .u64 r1 r2)])))
 (.call ⟨[],[]⟩ [] 35 153 [r2]
 (.chk (ba rL (pi 0))
 (.chk Dx
 (.chk NU
 (.chk (aF rO (pi 0))
 (.brk ⟨[(16,NS),(15,NM),(14,NI),(13,NH),(11,Ao),(10,NJ),(9,rO),(2,Hi),(8,rL)],[]⟩
(GV b)
 (.chk (aF r9 (pi 0))
 (.brk ⟨[(16,NT),(18,(.ai .quo .u64 tL r9)),(17,tL)],[]⟩
(GW b)
 (.chk (ba r8 (pi 0))
 (.ret (.tup [NX,NP]))))))))))))))
def apt:PT×List (Shp×PT):=(O7 b,[(.lp 0 [15,16,67,68,69,78] [] [15,16] [],HE b),(.lp 2 [16,18,102,103,104,113] [] [16,18] [],HF b)])
def M0:Bh.map told=some (apt (bk Bh)):=by kernel_rfl
def aBs:tree (ab Bh)=O7 yh:=bH M0
def Wt:round 0 [15,16,67,68,69,78] [] [15,16] [] (yh 0)=HE yh:=bm M0 0 λ_=>rfl
def Wu:round 2 [16,18,102,103,104,113] [] [16,18] [] (yh 1)=HF yh:=bm M0 1 λ_=>rfl
def JW:Option PC:=cF [2] [] Tryz.f153 153 []
def Yf:PT:=
 (.call ⟨[],[]⟩ [] 4 139 [r0]
 (.ret (bf (pi 64) r4)))
def ag0:JW.map told=some (Yf,[]):=by kernel_rfl
def aBt:tree (ab JW)=Yf:=aT ag0
end Rm
