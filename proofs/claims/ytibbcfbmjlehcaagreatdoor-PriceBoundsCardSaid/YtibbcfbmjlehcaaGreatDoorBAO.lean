/-
  Shared texts of this claim.
-/
import Derived.Test.YtibbcfbmjlehcaaGreatDoorBAJ
import Derived.KernelRfl
import Derived.Test.YtibbcfbmjlehcaaGreatDoorBAL
import Derived.Test.YtibbcfbmjlehcaaGreatDoorBAM
import Derived.Test.YtibbcfbmjlehcaaGreatDoorBAN
import Derived.Test.YtibbcfbmjlehcaaGreatDoorBAK
import Derived.Test.YtibbcfbmjlehcaaGreatDoorBAI
import Derived.WalkKit
import Derived.WalkSpells
import Derived.Lib.SliceRun
import Derived.Lib.AppendZeros
import Derived.Laws.Strings
set_option linter.defProp false
set_option linter.unusedVariables false
set_option maxRecDepth 100000
noncomputable section
open Go.IntKind (i64)
namespace Rm
open Go Go.Proofs Cx
def AI:Option PC:=cF [4,5,7] [] Tryz.f54 54 [2,3,6]
def PO:Nat->PC:=bn AI
variable(b:Nat->PC)
def asW:PC:=.block 0 [4,11,12] [] (.loop [4,11] [] (b 0))
def NI (b:Nat->PC):PT:=
 (.ite (aj bK dw)
 (.blockS ⟨[],[]⟩ 1 [4,5,6,7,13,14,15,16,17,18,19,20,21,22,23,24,25,26,27,28,29,30,31,32,37,38,39,40,41,42,43,44,45,46,47,48,58,59,69,70,71,72,73] [6]
 (.chk (aq r9 bK)
 (.call ⟨[(5,bK)],[(6,(.setc z9 0 (pn r9 bK)))]⟩ [] 22 53 [(pc (.setc z9 0 (pn r9 bK)) 3),(pi 0),(bm (pc o3 14) (pi 1))]
 (.ite (.nt qg)
 (.ret (pi 15))
 (.call ⟨[],[]⟩ [] 30 53 [(pc o6 7),(pi 0),(bm (.llen (pc o2 1)) (pi 1))]
 (.call ⟨[(32,(.nt rR))],[]⟩ [(32,false)] 35 53 [(pc o6 0),(pi 0),(pi 9)]
 (.ite (.pick wI pT (.nt rU))
 (.ret (pi 1))
 (.call ⟨[],[]⟩ [] 41 91 [(aA 8 o2),(aA 19 o3),(aA 9 o6)]
 (.ite (.nt tB)
 (.ret (pi 14))
 (.ite (aI (pc o6 4) (pi (-1)))
 (.chk (aq (pc o3 15) (pc o6 4))
 (.ite (aS r5 (pi 0))
 (.chk (aq (pc o3 17) (bm r5 (pi 1)))
 (.call ⟨[],[]⟩ [] 72 53 [(pc o6 6),(.mx (.mx (pc o3 8) (pc (pn (pc o3 15) (pc o6 4)) 6)) (pc (pn (pc o3 17) (bm r5 (pi 1))) 6)),(pi 100000)]
 (.ite (.nt G7)
 (.ret (pi 13))
 (.next ⟨[],[]⟩))))
 (.call ⟨[],[]⟩ [] 72 53 [(pc o6 6),(.mx (pc o3 8) (pc (pn (pc o3 15) (pc o6 4)) 6)),(pi 100000)]
 (.ite (.nt G7)
 (.ret (pi 13))
 (.next ⟨[],[]⟩)))))
 (.ite (aS r5 (pi 0))
 (.chk (aq (pc o3 17) (bm r5 (pi 1)))
 (.call ⟨[],[]⟩ [] 72 53 [(pc o6 6),(.mx (pc o3 8) (pc (pn (pc o3 17) (bm r5 (pi 1))) 6)),(pi 100000)]
 (.ite (.nt G7)
 (.ret (pi 13))
 (.next ⟨[],[]⟩))))
 (.call ⟨[],[]⟩ [] 72 53 [(pc o6 6),(pc o3 8),(pi 100000)]
 (.ite (.nt G7)
 (.ret (pi 13))
 (.next ⟨[],[]⟩)))))))))))))
 (.next ⟨[(11,(aF bK (pi 1)))],[]⟩))
 (.exit 0 ⟨[(12,(aj bK dw))],[]⟩))
def XR:PT:=
 (.brk ⟨[(11,(pi 0)),(10,(.llen (pc (.mk [r1]) 17))),(9,(pc (.mk [r1]) 17)),(4,(pi 0))],[(3,(.mk [r1])),(2,(.mk [r0]))]⟩
(asW b)
 (.ret (pi 0)))
def an5:PT×List (Shp×PT):=(XR b,[(.lp 0 [4,11,12] [] [4,11] [],NI b)])
def T5:AI.map told=some (an5 (bp AI)):=by kernel_rfl
def ayB:tree (ab AI)=XR PO:=bF T5
def aiv:round 0 [4,11,12] [] [4,11] [] (PO 0)=NI PO:=bh T5 0 λ_=>rfl
def JO:Option PC:=cF [6,7,8,9,65,80,100,111] [] Tryz.f91 91 [3,4,5]
def XQ:PT:=
 (.call ⟨[],[(5,(.mk [r2])),(4,(.mk [r1])),(3,(.mk [r0]))]⟩ [] 16 53 [(pc (.mk [r2]) 4),(pi 0),(bm (.llen (pc (.mk [r1]) 15)) (pi 1))]
 (.call ⟨[(17,bN)],[]⟩ [(17,true)] 23 132 [(aA 19 o4),(pc o5 4),(pc o5 3)]
 (.chk (.nt (.an (.an (.pick jW gY pF) pT) (.nt (aq (pc o4 15) (pc o5 4)))))
 (.call ⟨[(8,(.pick (.pick jW gY pF) (peq (pc (pn (pc o4 15) (pc o5 4)) 2) (pc o5 1)) pF)),(7,(.pick jW gY pF))],[]⟩ [] 44 53 [(pc o5 2),(pi 0),M3]
 (.call ⟨[(9,wJ)],[]⟩ [] 51 53 [(pc o5 1),(pi 0),M3]
 (.ite (.pick (.nt kA) pT (.pick (aI (pc o5 0) (pi 4)) (aI (pc o5 8) (pi 0)) pF))
 (.ret pF)
 (.blockS ⟨[(64,(pc o5 0))],[]⟩ 0 [6,65,66,80,81,100,101,111,112] []
 (.iteS ⟨[],[]⟩ (.pick (peq nm (pi 0)) (peq nm (pi 0)) (.pick (peq nm (pi 1)) (peq nm (pi 1)) (peq nm (pi 2)))) [6,80,81,100,101,111,112] []
 (.ret (.pick (.pick r9 (peq (pc o5 4) (pi (-1))) pF) (peq (pc o5 5) (pi 0)) pF))
 (.iteS ⟨[],[]⟩ (.pick (peq nm (pi 3)) (peq nm (pi 3)) (.pick (peq nm (pi 5)) (peq nm (pi 5)) (peq nm (pi 4)))) [6,100,101,111,112] []
 (.call ⟨[(90,(.pick r9 (peq (pc o5 4) (pi (-1))) pF))],[]⟩ [(90,true)] 93 53 [(pc o5 5),(pi 0),zt]
 (.call ⟨[(95,(.pick r90 Nz pF))],[]⟩ [(95,true)] 98 53 [(pc o5 8),(pi 0),(pi 1)]
 (.ret (.pick r95 r98 pF))))
 (.iteS ⟨[],[]⟩ (peq nm (pi 6)) [6,111,112] []
 (.call ⟨[(106,(.pick r9 r8 pF))],[]⟩ [(106,true)] 109 53 [(pc o5 5),(pi 1),zt]
 (.ret (.pick Nr aib pF)))
 (.ite (peq nm (pi 9))
 (.ret (.pick (.pick (peq (pc o5 2) (pi (-1))) r8 pF) (peq (pc o5 5) (pi 0)) pF))
 (.next ⟨[],[]⟩))
 (.next ⟨[],[]⟩))
 (.next ⟨[],[]⟩))
 (.next ⟨[],[]⟩))
 (.ret (.pick (.pick (peq (pc o5 2) (pi (-1))) r7 pF) (peq (pc o5 5) (pi 0)) pF)))))))))
def agn:JO.map told=some (XQ,[]):=by kernel_rfl
def ayA:tree (ab JO)=XQ:=aU agn
def AJ:Option PC:=cF [2,3] [] Tryz.f55 55 [1,4,5,52]
def PQ:Nat->PC:=bn AJ
def asX:PC:=.block 0 [2,9,10] [] (.loop [2,9] [] (b 0))
def NJ (b:Nat->PC):PT:=
 (.ite (aj r9 r8)
 (.blockS ⟨[],[]⟩ 1 [2,3,4,11,12,13,14,15,16,17,18,27,28,33,34,35] [4]
 (.chk (aq r7 r9)
 (.call ⟨[(3,r9)],[(4,(.setc z3 0 (pn r7 r9)))]⟩ [] 16 53 [(pc (.setc z3 0 (pn r7 r9)) 0),(pi 0),(pi 4)]
 (.call ⟨[(18,(.nt bN))],[]⟩ [(18,false)] 25 53 [(pc o4 1),(pi 0),(bm (.llen (pc o1 15)) (pi 1))]
 (.call ⟨[(28,(.pick cf pT (.nt jX)))],[]⟩ [(28,false)] 31 53 [(pc o4 2),(pi 0),(pi 1)]
 (.ite (.pick tA pT (.nt rS))
 (.ret (pi 1))
 (.ite (peq r3 (pi 0))
 (.exit 1 ⟨[],[]⟩)
 (.chk (aq (pc o1 18) (bm r3 (pi 1)))
 (.call ⟨[],[(5,(.setc z3 0 (pn (pc o1 18) (bm r3 (pi 1)))))]⟩ [] 46 93 [(pc (.setc z3 0 (pn (pc o1 18) (bm r3 (pi 1)))) 1),(pc o4 1)]
 (.call ⟨[],[]⟩ [] 51 93 [(pc o5 0),(pc o4 0)]
 (.call ⟨[],[]⟩ [] 53 92 [(.lst [CZ,kA])]
 (.ite (bk Vw (pi 0))
 (.ret (pi 5))
 (.next ⟨[],[]⟩))))))))))))
 (.next ⟨[(9,(aF r9 (pi 1)))],[]⟩))
 (.exit 0 ⟨[(10,(aj r9 r8))],[]⟩))
def XT:PT:=
 (.brk ⟨[(9,(pi 0)),(8,(.llen (pc (.mk [r0]) 18))),(7,(pc (.mk [r0]) 18)),(2,(pi 0))],[(1,(.mk [r0]))]⟩
(asX b)
 (.ret (pi 0)))
def an6:PT×List (Shp×PT):=(XT b,[(.lp 0 [2,9,10] [] [2,9] [],NJ b)])
def T6:AJ.map told=some (an6 (bp AJ)):=by kernel_rfl
def ayD:tree (ab AJ)=XT PQ:=bF T6
def aiw:round 0 [2,9,10] [] [2,9] [] (PQ 0)=NJ PQ:=bh T6 0 λ_=>rfl
def JA:Option PC:=cF [4,5,6] [] Tryz.f93 93 []
def Xv:PT:=
 (.call ⟨[],[]⟩ [] 8 133 [r0]
 (.call ⟨[(5,r8)],[]⟩ [] 10 133 [r1]
 (.ite r5
 (.ite dw
 (.ret (pi 0))
 (.ret (pi (-1))))
 (.ite dw
 (.ret (pi 1))
 (.ite (aj r0 r1)
 (.ret (pi (-1)))
 (.ite (aS r0 r1)
 (.ret (pi 1))
 (.ret (pi 0))))))))
def af7:JA.map told=some (Xv,[]):=by kernel_rfl
def aye:tree (ab JA)=Xv:=aU af7
def JB:Option PC:=cF [2] [] Tryz.f133 133 []
def Xx:PT:=
 (.ret (aI r0 r0))
def af8:JB.map told=some (Xx,[]):=by kernel_rfl
def ayg:tree (ab JB)=Xx:=aU af8
def AA:Option PC:=cF [2,3,5] [] Tryz.f92 92 []
def PJ:Nat->PC:=bn AA
def asN:PC:=.block 0 [2,8,9] [] (.loop [2,8] [] (b 0))
def Hd (b:Nat->PC):PT:=
 (.ite (aj r8 r7)
 (.chk (aq r6 r8)
 (.ite (aI (pn r6 r8) r3)
 (.ret (pn r6 r8))
 (.next ⟨[(8,uZ)],[]⟩)))
 (.exit 0 ⟨[(9,(aj r8 r7))],[]⟩))
def Xw:PT:=
 (.brk ⟨[(8,(pi 0)),(7,(.llen r0)),(6,r0),(3,(pi 0)),(2,(pi 0))],[]⟩
(asN b)
 (.ret r3))
def anY:PT×List (Shp×PT):=(Xw b,[(.lp 0 [2,8,9] [] [2,8] [],Hd b)])
def TY:AA.map told=some (anY (bp AA)):=by kernel_rfl
def ayf:tree (ab AA)=Xw PJ:=bF TY
def VH:round 0 [2,8,9] [] [2,8] [] (PJ 0)=Hd PJ:=bh TY 0 λ_=>rfl
def J5:Option PC:=cF [2] [] Tryz.f12 12 [1]
def Yq:PT:=
 (.ret (.pick (peq (pc (.mk [r0]) 3) (pi 1)) (.pick (peq lP (pi 1)) pT CP) pF))
def agG:J5.map told=some (Yq,[]):=by kernel_rfl
def azf:tree (ab J5)=Yq:=aU agG
def Jn:Option PC:=mK {ctx with fr:=[6],nh:=[]} Tryz.f158 ⟨[Y8,I,sA],.slice I,.dat⟩ [3,5,7,8,42,9]
def Xf:PT:=
 (.chk (aq (pc (.mk [r2]) 15) (pc (.mk [r2]) 19))
 (.ite ahV
 (.ret pL)
 (.chk (.an (bk (pi 5) (pi 0)) (bI (pi 5) cO))
 (.chk (peq (pi 5) (pi 5))
 (.chk (aq (.rep (pi 5) (pi 0)) (pi 0))
 (.call ⟨[],[(9,(.setn (.rep (pi 5) (pi 0)) (pi 0) 0 r1)),(8,(.setc IE 0 (aA 15 (.mk [r2])))),(7,CU),(3,(.mk [r0]))]⟩ [] 50 123 [jU,(pc CU 7)]
 (.chk (aq o9 (pi 1))
 (.call ⟨[],[(9,(.setn o9 (pi 1) 0 nl))]⟩ [] 56 123 [(aA 8 o3),(pc o8 10)]
 (.chk (aq o9 (pi 2))
 (.call ⟨[],[(9,(.setn o9 (pi 2) 0 tC))]⟩ [] 62 123 [(aA 8 o3),(pc o8 9)]
 (.chk (aq o9 (pi 3))
 (.chk (aq (pc o3 3) (pc o7 2))
 (.call ⟨[],[(9,(.setn o9 (pi 3) 0 oP))]⟩ [] 73 123 [(aA 8 o3),(pc (pn (pc o3 3) (pc o7 2)) 1)]
 (.chk (aq o9 (pi 4))
 (.call ⟨[],[(9,(.setn o9 (pi 4) 0 G8))]⟩ [] 76 168 [(.setn o9 (pi 4) 0 G8),(pi (-1))]
 (.ite u9
 (.ret pL)
 (.ret o9)))))))))))))))))
def afR:Jn.map told=some (Xf,[]):=by kernel_rfl
def axV:tree (ab Jn)=Xf:=aU afR
def Jo:Option PC:=mK {ctx with fr:=[6],nh:=[]} Tryz.f158 ⟨[Y8,I,sA],.nils .bool,.dat⟩ [3,5,7,8,42,9]
def OD:PT:=
 (.chk (aq (pc (.mk [r2]) 15) (pc (.mk [r2]) 19))
 (.ite ahV
 (.ret pL)
 (.chk (.an (bk (pi 5) (pi 0)) (bI (pi 5) cO))
 (.chk (peq (pi 5) (pi 5))
 (.chk (aq (.rep (pi 5) (pi 0)) (pi 0))
 (.call ⟨[],[(9,(.setn (.rep (pi 5) (pi 0)) (pi 0) 0 r1)),(8,(.setc IE 0 (aA 15 (.mk [r2])))),(7,CU),(3,(.mk [r0]))]⟩ [] 50 123 [jU,(pc CU 7)]
 (.chk (aq o9 (pi 1))
 (.call ⟨[],[(9,(.setn o9 (pi 1) 0 nl))]⟩ [] 56 123 [(aA 8 o3),(pc o8 10)]
 (.chk (aq o9 (pi 2))
 (.call ⟨[],[(9,(.setn o9 (pi 2) 0 tC))]⟩ [] 62 123 [(aA 8 o3),(pc o8 9)]
 (.chk (aq o9 (pi 3))
 (.chk (aq (pc o3 3) (pc o7 2))
 (.call ⟨[],[(9,(.setn o9 (pi 3) 0 oP))]⟩ [] 73 123 [(aA 8 o3),(pc (pn (pc o3 3) (pc o7 2)) 1)]
 (.chk (aq o9 (pi 4))
 (.call ⟨[],[]⟩ [] 76 168 [(.setn o9 (pi 4) 0 G8),(pi (-1))]
 (.ite u9
 (.ret pL)
 (.chk pF
 (.next ⟨[],[]⟩))))))))))))))))))
def afS:Jo.map told=some (OD,[]):=by kernel_rfl
def axW:tree (ab Jo)=OD:=aU afS
def UZ:List Nat:=[5,6,15,17,16,19,41,42,81,30,62,18,10,26,27,11,32,34,70,36,71,109,156,176,194,193,206,123,116,195,196,157,168,190,159,177,198,197,207,178,110,160,180,179,181,199,200,208,212,210,209,161,182,201,211,202,213,215,79,203,65,13,35,38,78,37,72,111,112,162,183,184,204,113,114,115,163,117,118,119,120,121,73,74,75,76,122,164,165,185,187,205,186,89,77,124,125,166,189,33,66,107,68,67,69,108,57,29,31,9,14,39,40,80,126,104,21,20,7,22,43,44,45,82,127,23,46,83,128,167,129,84,85,130,47,48,86,49,50,24,51,87,88,52,53,90,131,132,54,91,55,93,133,92,12]
def CI:List (Nat×PC):=[(5,(ab AF)),(6,(ab JG)),(15,(ab JF)),(17,(ab AG)),(16,(ab AL)),(19,(ab JT)),(41,(ab JU)),(42,(ab Kh)),(81,(ab Bi)),(30,(ab AN)),(62,(ab QA)),(18,(ab JE)),(10,(ab AM)),(26,(ab JX)),(27,(ab JY)),(11,(ab Av)),(32,(ab Jp)),(34,(ab Bc)),(70,(ab Kf)),(36,(ab Jh)),(71,(ab Jg)),(109,(ab Jl)),(156,(ab Jm)),(176,(ab Bf)),(194,(ab Kd)),(193,(ab Kg)),(206,(ab Bh)),(123,(ab Ka)),(116,(ab Kb)),(195,(ab Ke)),(196,(ab Bd)),(157,(ab JL)),(168,(ab Kj)),(190,(ab Bl)),(159,(ab AB)),(177,(ab JC)),(198,(ab JD)),(197,(ab Ki)),(207,(ab Bk)),(178,(ab AE)),(110,(ab JK)),(160,(ab JM)),(180,(ab JN)),(179,(ab Bj)),(181,(ab Kp)),(199,(ab xY)),(200,(ab Bq)),(208,(ab Kv)),(212,(ab Ku)),(210,(ab Kr)),(209,(ab Kz)),(161,(ab Kq)),(182,(ab Br)),(201,(ab Kw)),(211,(ab KA)),(202,(ab Kt)),(213,(ab Ks)),(215,(ab Ky)),(79,(ab Ju)),(203,(ab Bg)),(65,(ab Jk)),(13,(ab Ji)),(35,(ab Jj)),(38,(ab Be)),(78,(ab Bn)),(37,(ab Ex)),(72,(ab A3)),(111,(ab A7)),(112,(ab A5)),(162,(ab Kc)),(183,(ab A6)),(184,(ab Kk)),(204,(ab Bm)),(113,(ab J6)),(114,(ab J7)),(115,(ab A4)),(163,(ab Ba)),(117,(ab J8)),(118,(ab J9)),(119,(ab A8)),(120,(ab Bb)),(121,(ab A9)),(73,(ab Km)),(74,(ab Ko)),(75,(ab Kl)),(76,(ab Ez)),(122,(ab Ey)),(164,(ab Et)),(165,(ab Jz)),(185,(ab Jv)),(187,(ab Jx)),(205,(ab Ev)),(186,(ab Eu)),(89,(ab xX)),(77,(ab Bo)),(124,(ab Bp)),(125,(ab Az)),(166,(ab Jw)),(189,(ab Jy)),(33,(ab Jq)),(66,(ab KB)),(107,(ab Bs)),(68,(ab Jr)),(67,(ab Aw)),(69,(ab Ax)),(108,(ab AH)),(57,(ab QB)),(29,(ab Qz)),(31,(ab AO)),(9,(ab JW)),(14,(ab JH)),(39,(ab JJ)),(40,(ab JI)),(80,(ab Ay)),(126,(ab Js)),(104,(ab Jt)),(21,(ab JV)),(20,(ab A0)),(7,(ab Ew)),(22,(ab A2)),(43,(ab AQ)),(44,(ab J3)),(45,(ab A1)),(82,(ab J4)),(127,(ab xW)),(23,(ab JZ)),(46,(ab AV)),(83,(ab J2)),(128,(ab AR)),(167,(ab J0)),(129,(ab AP)),(84,(ab AS)),(85,(ab J1)),(130,(ab AU)),(47,(ab AW)),(48,(ab AX)),(86,(ab AT)),(49,(ab AZ)),(50,(ab AY)),(24,(ab xV)),(51,(ab EA)),(87,(ab KC)),(88,(ab KD)),(52,(ab AK)),(53,(ab JR)),(90,(ab JQ)),(131,(ab JP)),(132,(ab JS)),(54,(ab AI)),(91,(ab JO)),(55,(ab AJ)),(93,(ab JA)),(133,(ab JB)),(92,(ab AA)),(12,(ab J5))]
def tab:Nat->Option PC:=bH CI
def ahx:CI.map (·.1)=UZ:=by kernel_rfl
def avo:(CI.map (·.1)).Nodup:=by rw[ahx];exact pY (by kernel_rfl)
def lA (k:Nat){f:Nat}{x:PC}(h:CI[k]?=some (f,x):=by kernel_rfl):tab f=some x:=ae3 avo h
def aaZ:tab 199=some (ab xY):=lA 45 (by kernel_rfl)
def Pz:tab 37=some (ab Ex):=lA 65 (by kernel_rfl)
def xM:tab 76=some (ab Ez):=lA 85 (by kernel_rfl)
def I9:tab 122=some (ab Ey):=lA 86 (by kernel_rfl)
def aaV:tab 164=some (ab Et):=lA 87 (by kernel_rfl)
def aaW:tab 205=some (ab Ev):=lA 91 (by kernel_rfl)
def I8:tab 186=some (ab Eu):=lA 92 (by kernel_rfl)
def aaY:tab 89=some (ab xX):=lA 93 (by kernel_rfl)
def akQ:tab 7=some (ab Ew):=lA 118 (by kernel_rfl)
def aaX:tab 127=some (ab xW):=lA 124 (by kernel_rfl)
def akR:tab 24=some (ab xV):=lA 139 (by kernel_rfl)
def akS:tab 51=some (ab EA):=lA 140 (by kernel_rfl)
def caps:∀f cs,bH Qu f=some cs->(oH cs.args cs.res=none->bH wV f=some ⟨cs.args++cs.caps,cs.res,.dat⟩)/\∀ys,oH cs.args cs.res=some ys->fH UZ f=false/\Is Tryz.prog f=true:=abd (l:=Qu) (sig:=wV) (P:=Tryz.prog) (pcs:=UZ) (by kernel_rfl)
def clos:dK ctx:=⟨(λf cs h=>(caps f cs h).1),λf s h=>ajt (l:=wV) (P:=Tryz.prog) (by kernel_rfl) f s h⟩
def its:∀f cs ys,ctx.cap f=some cs->oH cs.args cs.res=some ys->tab f=none/\∃fn,ctx.P.funcs[f]?=some fn/\fn.body.isSome=true/\(fn.name== "runtime.NumGoroutine")=false:=λf cs ys h hi=>⟨aeU (l:=CI) (by rw[ahx];exact((caps f cs h).2 ys hi).1),axJ ((caps f cs h).2 ys hi).2⟩
def axx:∀f pc,tab f=some pc->∃fn s ids fr nh,ctx.P.funcs[f]?=some fn/\ctx.sig f=some s/\mK {ctx with fr:=fr,nh:=nh} fn s ids=some pc:=
 TC (R:=λf pc=>∃fn s ids fr nh,ctx.P.funcs[f]?=some fn/\ctx.sig f=some s/\mK {ctx with fr:=fr,nh:=nh} fn s ids=some pc) (l:=CI)
  (aw (ax [5,7,9,22,8214,23,8215] [10,11,12,13,14,15,16,17,18,19,20,21,24,25,26,27,28] [] Tryz.func5 rfl (av AF Mw))
  (aw (ax [1,17] [0,2,3,4,5,6,7,8,9,10,11,12,13] [] Tryz.func6 rfl (av JG age))
  (aw (ax [0,24576,28672,32768,1,12289,2,12290] [] [] Tryz.func15 rfl (av JF agd))
  (aw (ax [0,1] [2] [] Tryz.func17 rfl (av AG T3))
  (aw (ax [3,5] [6,7,8,9,10] [] Tryz.func16 rfl (av AL T8))
  (aw (ax [1] [2,3] [] Tryz.func19 rfl (av JT ags))
  (aw (ax [1] [2] [] Tryz.func41 rfl (av JU agt))
  (aw (ax [] [4] [] Tryz.func42 rfl (av Kh agS))
  (aw (ax [] [4,5] [] Tryz.func81 rfl (av Bi Ut))
  (aw (ax [3,5,1,10] [6,7,9] [] Tryz.func30 rfl (av AN Ua))
  (aw (ax [] [5] [] Tryz.func62 rfl (av QA auD))
  (aw (ax [4,69636,73732,5,6,7] [] [] Tryz.func18 rfl (av JE agb))
  (aw (ax [5,7,9,12,17,52] [10,11,13,14,15,18,19,20] [] Tryz.func10 rfl (av AM T9))
  (aw (ax [2] [4] [] Tryz.func26 rfl (av JX agw))
  (aw (ax [4,6,8] [] [] Tryz.func27 rfl (av JY agx))
  (aw (ax [4,6,8,9,10,28] [11] [] Tryz.func11 rfl (av Av TS))
  (aw (ax [4,6,8,9] [] [] Tryz.func32 rfl (av Jp afT))
  (aw (ax [2,4,65540,69636,73732,77828,5,65541,69637,73733,77829,7,31,9,49,11,13] [1000004,1000005] [] Tryz.func34 rfl (av Bc CC))
  (aw (ax [] [4] [] Tryz.func70 rfl (av Kf agQ))
  (aw (ax [5,8,77832,10] [] [] Tryz.func36 rfl (av Jh afL))
  (aw (ax [4,7,8,9] [10] [] Tryz.func71 rfl (av Jg afK))
  (aw (ax [4,7,8,10,16394] [9,11,12,13,14] [] Tryz.func109 rfl (av Jl afP))
  (aw (ax [2,3,4] [5] [] Tryz.func156 rfl (av Jm afQ))
  (aw (ax [2,3,5,6,8,10,90,139] [4,7,9,11,12,13,14,15,16] [] Tryz.func176 rfl (av Bf MI))
  (aw (ax [2] [3] [] Tryz.func194 rfl (av Kd agO))
  (aw (ax [] [4] [] Tryz.func193 rfl (av Kg agR))
  (aw (ax [] [4,5] [] Tryz.func206 rfl (av Bh Us))
  (aw (ax [2] [4] [] Tryz.func123 rfl (av Ka agL))
  (aw (ax [] [4] [] Tryz.func116 rfl (av Kb agM))
  (aw (ax [2] [] [] Tryz.func195 rfl (av Ke agP))
  (aw (ax [3,6,8] [] [] Tryz.func196 rfl (av Bd Ur))
  (aw (ax [] [2,3,4,11] [] Tryz.func157 rfl (av JL agk))
  (aw (ax [] [4] [] Tryz.func168 rfl (av Kj agU))
  (aw (ax [] [4,5] [] Tryz.func190 rfl (av Bl Uw))
  (aw (ax [4,10,53] [8,9,11,12,13,14,55,70] [] Tryz.func159 rfl (av AB TZ))
  (aw (ax [4,9] [8] [] Tryz.func177 rfl (av JC af9))
  (aw (ax [] [3] [] Tryz.func198 rfl (av JD aga))
  (aw (ax [] [4] [] Tryz.func197 rfl (av Ki agT))
  (aw (ax [] [4,5] [] Tryz.func207 rfl (av Bk Uv))
  (aw (ax [4,11] [8,9] [] Tryz.func178 rfl (av AE T2))
  (aw (ax [3,6,8,10] [7,9,11,12] [] Tryz.func110 rfl (av JK agj))
  (aw (ax [2,3,4,12292,9] [5,6,7,8,10,11] [] Tryz.func160 rfl (av JM agl))
  (aw (ax [2] [3] [] Tryz.func180 rfl (av JN agm))
  (aw (ax [] [4,5] [] Tryz.func179 rfl (av Bj Uu))
  (aw (ax [1] [2,3] [] Tryz.func181 rfl (av Kp ag2))
  (aw (ax [2,7,12295] [4,5] [] Tryz.func199 rfl (av xY UB))
  (aw (ax [1,4,6,12294,9] [2,3,5,7,8,38,47,10,11,12] [] Tryz.func200 rfl (av Bq ML))
  (aw (ax [1] [2,3,12,20,4,5] [] Tryz.func208 rfl (av Kv ag8))
  (aw (ax [] [2] [] Tryz.func212 rfl (av Ku ag7))
  (aw (ax [] [2,3,4,11] [] Tryz.func210 rfl (av Kr ag4))
  (aw (ax [2] [4,8,13,17,21] [] Tryz.func209 rfl (av Kz ahb))
  (aw (ax [2,4,7] [5,6,8] [] Tryz.func161 rfl (av Kq ag3))
  (aw (ax [2,3,4,6,33,7,8,10,12298,12] [5,15,21,9,11] [] Tryz.func182 rfl (av Br UA))
  (aw (ax [2,4] [5,6] [] Tryz.func201 rfl (av Kw ag9))
  (aw (ax [2] [] [] Tryz.func211 rfl (av KA ahc))
  (aw (ax [4,5] [9,22,41,6,7,82,88,94] [] Tryz.func202 rfl (av Kt ag6))
  (aw (ax [] [6,8,14,20,25] [] Tryz.func213 rfl (av Ks ag5))
  (aw (ax [] [4,5,6,7] [] Tryz.func215 rfl (av Ky aha))
  (aw (ax [] [4,5,6,7,8,9,10,11,12,13] [] Tryz.func79 rfl (av Ju afY))
  (aw (ax [6] [2,3,5,8] [] Tryz.func203 rfl (av Bg MJ))
  (aw (ax [1] [2,3,7,12] [] Tryz.func65 rfl (av Jk afO))
  (aw (ax [4,6] [8,9,10,11] [] Tryz.func13 rfl (av Ji afM))
  (aw (ax [1] [2] [] Tryz.func35 rfl (av Jj afN))
  (aw (ax [1,3,6,8] [2,4] [] Tryz.func38 rfl (av Be MH))
  (aw (ax [] [2,3,4] [] Tryz.func78 rfl (av Bn Uy))
  (aw (ax [4,5,10] [8,9,15,39,58,74,11,12] [] Tryz.func37 rfl (av Ex agW))
  (aw (ax [1,9] [2,3,4,5,6,7,10,11,12] [] Tryz.func72 rfl (av A3 Ul))
  (aw (ax [1,2,3,4,6,16390,20486,24582,21,8,34,10,12298,16394,47] [] [] Tryz.func111 rfl (av A7 GD))
  (aw (ax [] [6,7,8] [] Tryz.func112 rfl (av A5 Uo))
  (aw (ax [] [4] [] Tryz.func162 rfl (av Kc agN))
  (aw (ax [] [2,3,4,5] [] Tryz.func183 rfl (av A6 Up))
  (aw (ax [] [4] [] Tryz.func184 rfl (av Kk agV))
  (aw (ax [] [4,5] [] Tryz.func204 rfl (av Bm Ux))
  (aw (ax [] [2] [] Tryz.func113 rfl (av J6 agH))
  (aw (ax [] [3] [] Tryz.func114 rfl (av J7 agI))
  (aw (ax [2,3] [4,6] [] Tryz.func115 rfl (av A4 Un))
  (aw (ax [] [6,7,8] [] Tryz.func163 rfl (av Ba Uq))
  (aw (ax [] [3] [] Tryz.func117 rfl (av J8 agJ))
  (aw (ax [] [3] [] Tryz.func118 rfl (av J9 agK))
  (aw (ax [1,3,4,6,19,8,16392,36] [2] [] Tryz.func119 rfl (av A8 ME))
  (aw (ax [1,4,6] [2,3] [] Tryz.func120 rfl (av Bb MG))
  (aw (ax [1,4,6] [2] [] Tryz.func121 rfl (av A9 MF))
  (aw (ax [2] [4] [] Tryz.func73 rfl (av Km ag0))
  (aw (ax [] [2] [] Tryz.func74 rfl (av Ko ag1))
  (aw (ax [1] [2] [] Tryz.func75 rfl (av Kl agX))
  (aw (ax [3,4] [6,7,13,16,24,33,8,9] [] Tryz.func76 rfl (av Ez agZ))
  (aw (ax [3] [4,5] [] Tryz.func122 rfl (av Ey agY))
  (aw (ax [] [4,5,6,7,8,9] [] Tryz.func164 rfl (av Et afZ))
  (aw (ax [] [2] [] Tryz.func165 rfl (av Jz af6))
  (aw (ax [] [2,3,4,5,6,7,8,9] [] Tryz.func185 rfl (av Jv af1))
  (aw (ax [] [4] [] Tryz.func187 rfl (av Jx af3))
  (aw (ax [] [6,0,1] [] Tryz.func205 rfl (av Ev af4))
  (aw (ax [] [6,7,8] [] Tryz.func186 rfl (av Eu af0))
  (aw (ax [3,9] [6,7] [] Tryz.func89 rfl (av xX Um))
  (aw (ax [3] [6,7,8,2,9,10] [] Tryz.func77 rfl (av Bo Uz))
  (aw (ax [3,9] [6,7,2] [] Tryz.func124 rfl (av Bp MK))
  (aw (ax [2,4,5] [6] [] Tryz.func125 rfl (av Az TW))
  (aw (ax [3,4,5] [6] [] Tryz.func166 rfl (av Jw af2))
  (aw (ax [2] [4,5,6,7] [] Tryz.func189 rfl (av Jy af5))
  (aw (ax [2,4,5,6,43] [] [] Tryz.func33 rfl (av Jq afU))
  (aw (ax [3] [6] [] Tryz.func66 rfl (av KB ahd))
  (aw (ax [2,5,7] [4] [] Tryz.func107 rfl (av Bs UC))
  (aw (ax [3,7] [6] [] Tryz.func68 rfl (av Jr afV))
  (aw (ax [] [2,3,5,12,15] [] Tryz.func67 rfl (av Aw TU))
  (aw (ax [2,9] [4,5,6,7,10,50,54] [] Tryz.func69 rfl (av Ax TV))
  (aw (ax [2,7] [4,5] [] Tryz.func108 rfl (av AH T4))
  (aw (ax [1] [2] [] Tryz.func57 rfl (av QB auE))
  (aw (ax [2,3] [4] [] Tryz.func29 rfl (av Qz auC))
  (aw (ax [3,6,7,9] [] [] Tryz.func31 rfl (av AO Ub))
  (aw (ax [5,7,9] [10,11,12,13,14,33,36,15] [] Tryz.func9 rfl (av JW agv))
  (aw (ax [] [6,7,8,9,10] [] Tryz.func14 rfl (av JH agf))
  (aw (ax [] [4] [] Tryz.func39 rfl (av JJ agi))
  (aw (ax [] [6,7,8,9,10,11,12] [] Tryz.func40 rfl (av JI agh))
  (aw (ax [] [6,7,8,2,9,10,11,12,13,14,15,16,17,18] [] Tryz.func80 rfl (av Ay Mv))
  (aw (ax [] [2] [] Tryz.func126 rfl (av Js afW))
  (aw (ax [] [2,0] [] Tryz.func104 rfl (av Jt afX))
  (aw (ax [5,7,20,22] [10] [] Tryz.func21 rfl (av JV agu))
  (aw (ax [] [4,5] [] Tryz.func20 rfl (av A0 Uh))
  (aw (ax [3,4,5] [6] [] Tryz.func7 rfl (av Ew agc))
  (aw (ax [2,3] [4,5] [] Tryz.func22 rfl (av A2 Uk))
  (aw (ax [1] [2,3,4] [] Tryz.func43 rfl (av AQ My))
  (aw (ax [1] [2] [] Tryz.func44 rfl (av J3 agD))
  (aw (ax [1] [2,3] [] Tryz.func45 rfl (av A1 Uj))
  (aw (ax [1] [2] [] Tryz.func82 rfl (av J4 agF))
  (aw (ax [3] [6,1,7] [] Tryz.func127 rfl (av xW Ui))
  (aw (ax [1] [2,3] [] Tryz.func23 rfl (av JZ agy))
  (aw (ax [1,5,44] [2,3,4,6,7] [] Tryz.func46 rfl (av AV MA))
  (aw (ax [] [4] [] Tryz.func83 rfl (av J2 agC))
  (aw (ax [] [2,3,4] [] Tryz.func128 rfl (av AR Ud))
  (aw (ax [] [2] [] Tryz.func167 rfl (av J0 agz))
  (aw (ax [] [6,7] [] Tryz.func129 rfl (av AP Uc))
  (aw (ax [2,3] [4,5] [] Tryz.func84 rfl (av AS Ue))
  (aw (ax [] [6] [] Tryz.func85 rfl (av J1 agA))
  (aw (ax [] [6,7] [] Tryz.func130 rfl (av AU Uf))
  (aw (ax [1,4,44] [2,3,5,6] [] Tryz.func47 rfl (av AW MB))
  (aw (ax [1,3,24] [2,4,5] [] Tryz.func48 rfl (av AX Ug))
  (aw (ax [1] [2,3,4] [] Tryz.func86 rfl (av AT Mz))
  (aw (ax [1,4] [2,3,5] [] Tryz.func49 rfl (av AZ MD))
  (aw (ax [1,4,6] [2,3,5] [] Tryz.func50 rfl (av AY MC))
  (aw (ax [2,3,10] [4,5,6,7,8,11] [] Tryz.func24 rfl (av xV Mx))
  (aw (ax [2,3] [4,5,6,7,8,54,80,109,118,9,10] [] Tryz.func51 rfl (av EA ahe))
  (aw (ax [] [4] [] Tryz.func87 rfl (av KC ahf))
  (aw (ax [1,3] [2,8,19,40] [] Tryz.func88 rfl (av KD ahg))
  (aw (ax [3,4,7,11] [6,8,9,76,92,98] [] Tryz.func52 rfl (av AK T7))
  (aw (ax [] [6] [] Tryz.func53 rfl (av JR agq))
  (aw (ax [3,4,7,8] [6,9,10,66,103,113,11,140,149] [] Tryz.func90 rfl (av JQ agp))
  (aw (ax [3] [6,7] [] Tryz.func131 rfl (av JP ago))
  (aw (ax [3] [6] [] Tryz.func132 rfl (av JS agr))
  (aw (ax [2,3,6] [4,5,7] [] Tryz.func54 rfl (av AI T5))
  (aw (ax [3,4,5] [6,7,8,9,65,80,100,111] [] Tryz.func91 rfl (av JO agn))
  (aw (ax [1,4,5,52] [2,3] [] Tryz.func55 rfl (av AJ T6))
  (aw (ax [] [4,5,6] [] Tryz.func93 rfl (av JA af7))
  (aw (ax [] [2] [] Tryz.func133 rfl (av JB af8))
  (aw (ax [] [2,3,5] [] Tryz.func92 rfl (av AA TY))
  (aw (ax [1] [2] [] Tryz.func12 rfl (av J5 agG))
  trivial)))))))))))))))))))))))))))))))))))))))))))))))))))))))))))))))))))))))))))))))))))))))))))))))))))))))))))))))))))))))))))))))))))))))))))))))))))))))))))
end Rm
set_option linter.unusedSimpArgs false
namespace Rm
open Go Go.Proofs Cx Go.RowKit Go.Lib
def asg:(Tryz.prog.info? 3).map (λi=>(i.zero,i.size,i.bytes))=some (some (.int .i64 0),1,8):=by kernel_rfl
set_option maxHeartbeats 2000000 in
set_option maxRecDepth 100000 in
def ape (w:World):Calls Tryz.prog 214 #[.slice none 0 0,.int .i64 0] w λe w'=>e=.returned (.slice none 0 0)/\w'=w:=by
 go_enter Tryz.func214,Tryz.ntmps214
 go_wp2
 go_ret
 exact⟨rfl,rfl⟩
set_option maxHeartbeats 2000000 in
set_option maxRecDepth 100000 in
def apd (n:Nat)(w:World)(h0:0<n)(h1:n<=4294967296):Calls Tryz.prog 214 #[.slice none 0 0,.int .i64 n] w λe w'=>
 ∃v',e=.returned v'/\w'.ownsRow w.heap.size 3 1 v' 0 []/\Below w.heap.size w w':=by
 obtain⟨i0,hi,Cj,pP,hz2⟩:=info_parts asg;have hr:=run_append_nil_zeros w 71 3 71 3 i0 (.int .i64 0) .i64 .i64 Tryz.underlying71 Tryz.underlying3 hi Cj n h0 (by rw[pP];decide) (by omega) (by rw[hz2];omega);have hn:¬((n:Int)<0):=by omega
 have ru:(n:Int)>0:=by omega
 have hw:i64.wrap (n:Int)=n:=by rw[IntKind.wrap_i64];omega
 have jx:i64.wrap 0=0:=by decide
 have gR:=grownCap_ge w n 0 3;have hle:=grownCap_le_maxLen w n 0 3 (by unfold maxLen;omega);have hs:(Builtin.zeroCells #[Value.int IntKind.i64 0] n++Builtin.zeroCells #[Value.int IntKind.i64 0] (grownCap w n 0 3-n)).size=grownCap w n 0 3*1:=by
  rw[Array.size_append,size_zeroCells,size_zeroCells];simp;omega
 go_enter Tryz.func214,Tryz.ntmps214
 go_wp2_with (at_builtin;refine wpList_append_run _ rfl _ _ 71 3 rfl _ _ rfl rfl _ _ hr ?qc)
 go_ret
 refine⟨_,rfl,?_,?_⟩
 .exact World.ownsRow.drew (World.ownsRow_made w _ _ (aX _) hle hs)
 .exact((Below.refl _ w).alloc (aX _) _).drew
def KX (ds:List D):Option D:=
 match ds with
 |[.list [],.v (.int .i64 n)]=>if 0<=n/\n<=4294967296 then some (.list []) else none
 |_=>none
def apc (ds:List D)(d:D)(h:KX ds=some d):∃s,ctx.sig 214=some s/\O0 ctx 214 s ds d:=by
 refine⟨_,rfl,λ_=>?_,λshs obs hm=>by cases hm⟩;unfold KX at h;split at h
 case h_2=>cases h
 rename_i n;split at h
 case isFalse=>cases h
 rename_i hn;cases h;obtain⟨k,rfl⟩:=qz hn.1;intro V w args ar hC ha;obtain⟨a1,a2,a3⟩:=ha;have h0:=a3 0 _ rfl;have h1:=a3 1 _ rfl;obtain⟨u,v,rfl⟩:∃u v,args=#[u,v]:=by
  have:args.size=2:=by simpa using a1
  match args,this with
  |⟨[u,v]⟩,_=>exact⟨u,v,rfl⟩
 simp only[su,DL] at h0 h1;change Rep ctx.cap V (.nils .bool) u (.list []) at h0;change Rep ctx.cap V (.int .i64) v (.v (.int .i64 k)) at h1;have hu:u=.slice none 0 0:=by cases h0;rfl
 have hv:v=.int .i64 k:=by cases h1;rfl
 subst hu hv;by_cases hk:k=0
 .subst hk;refine(ape w).mono λe w' hh=>?_;obtain⟨rfl,rfl⟩:=hh;refine⟨_,V,rfl,.refl V,ar,.refl _ _,λ_ _ _ h=>.inl h,λ_ _ h=>.inl h,?_⟩;exact⟨[],[],rfl,⟨by simp,.inl ⟨rfl,rfl⟩⟩,⟨λ_=>undef,λi x hx=>by simp at hx,λi j u hi=>by simp at hi⟩,λk hk=>by cases hk⟩
 .refine(apd k w (by omega) (by omega)).mono λe w' hh=>?_;obtain⟨v',rfl,bu,hb⟩:=hh;refine⟨v',V,rfl,.refl V,ar.below hb,hb,λ_ _ _ h=>.inl h,λ_ _ h=>.inl h,?_⟩;refine⟨[],[],rfl,bu,⟨λ_=>undef,λi x hx=>by simp at hx,λi j u hi=>by simp at hi⟩,λk hk=>?_⟩;have bf:=(bu.lt k hk).1;refine⟨λo=>?_,?_⟩
  .cases hc:V.c k o with
   |none=>rfl
   |some u=>have:=World.block_lt_of_cell? w (a:=⟨k,o,none⟩) (ar.c _ _ _ hc);simp at this;omega
  .cases hc:V.m k with
   |none=>rfl
   |some u=>have:=(ar.m _ _ hc).lt;omega
def fq (day:Int):Int×Int×Int:=
 let n:=day+730425
 let e:=n/146097
 let r:=n%146097
 let y:=(r-r/1460+r/36524-r/146096)/365
 let r:=r-(365*y+y/4-y/100)
 let m:=(5*r+2)/153
 let dom:=r-(153*m+2)/5+1
 let month:=if 12<m+3 then m+3-12 else m+3
 (if month<3 then y+400*e+1 else y+400*e,month,dom)
def zl (rest feasts shut:List Int)(day:Int):Bool:=
 !rest.contains ((day+5)%7)&&(!feasts.contains (100*(fq day).2.1+(fq day).2.2)&& !shut.contains day)
def abz (rest feasts shut:List Int)(a b:Int):List Int:=((List.range (b-a+1).toNat).map λ(k:Nat)=>a+k).filter (zl rest feasts shut)
def y2 (d:D):List Int:=d.l.map D.i
def abA (ds:List D):List D:=
 let c:=(ds.getD 2 .none).deref
 (abz (y2 (c.c 3)) (y2 (c.c 4)) (y2 (c.c 5)) (ds.getD 0 .none).deref.i (ds.getD 1 .none).deref.i).map λd=>.tup [.int d]
def As (r:D)(city:Int):Int:=if 0<=city/\city<(r.c 1).l.length then(((r.c 1).l.getD city.toNat .none).c 1).i else-1
def U2 (ds:List D):D:=
 let r:=ds.getD 0 .none
 let forum:=(ds.getD 1 .none).i
 let c:=ds.getD 2 .none
 let s:=(c.c 15).l.getD (c.c 19).i.toNat .none
 let who:=(s.c 2).i
 if who<0\/(r.c 3).l.length<=who\/forum<0\/(r.c 4).l.length<=forum then .list [] else
 let out:=[forum,As r (s.c 7).i,As r (c.c 10).i,As r (c.c 9).i,As r (((r.c 3).l.getD who.toNat .none).c 1).i]
 if(-1)∈out then .list [] else ints out
def ab2:List (Nat×(aT->List D->Option D)):=[(214,λ_ ds=>KX ds),(158,Cz (ab Jn) (ab Jo) U2),(188,Gn (ab ui) 1000 1 abA),(63,λ_ ds=>Ip ds),(64,λ_ ds=>KI ds),(60,λ_ ds=>KE ds),(28,λ_ ds=>Oi ds),(61,λ_ ds=>Oj ds),(56,λ_ ds=>KK ds)]
def ext:Nat->Option (aT->List D->Option D):=bH ab2
def axw:TabOK ctx tab ext:=by
 refine⟨clos,its,λf pc _ h=>axx f pc h,λf g hg Z hΦ ed ds d h=>?_⟩
 have:=TC (R:=λf (g:aT->List D->Option D)=>∀Z,dq ctx Z->gM ctx Z->∀ds d,g Z ds=some d->(∀s,ctx.sig f=some s->O0 ctx f s ds d)/\
  ∀cs ys,ctx.cap f=some cs->oH cs.args cs.res=some ys->∃xs,d=.list xs/\(∀x,x∈xs->∃ds',x=.tup ds'/\ds'.length=ys.length)/\mC ctx f cs.caps ys ds xs) (l:=ab2)
  ⟨λZ hΦ ed ds d h=>⟨λs hs=>by obtain⟨s',h1,h2⟩:=apc ds d h;rw[hs] at h1;cases h1;exact h2,λcs ys hc hi=>by cases hc⟩,
   λZ hΦ ed ds d h=>⟨λs hs=>by cases hs;exact⟨λ_=>aus clos hΦ ed Tryz.func158 (av Jn afR) (av Jo afS) h,λshs obs hm=>by cases hm⟩,λcs ys hc hi=>by cases hc⟩,
   λZ hΦ ed ds d h=>⟨λs hs=>(by cases hs),λcs ys hc hi=>by
    cases hc;cases hi;exact asn clos hΦ ed Tryz.func188 aly h rfl⟩,
   λZ hΦ ed ds d h=>⟨λs hs=>by cases hs;exact⟨λhm=>(by cases hm),λshs obs hm=>by cases hm;exact axk ds d h⟩,λcs ys hc hi=>by cases hc⟩,
   λZ hΦ ed ds d h=>⟨λs hs=>by cases hs;exact⟨λhm=>(by cases hm),λshs obs hm=>by cases hm;exact al7 ds d h⟩,λcs ys hc hi=>by cases hc⟩,
   λZ hΦ ed ds d h=>⟨λs hs=>by obtain⟨s',h1,h2⟩:=alQ ds d h;rw[hs] at h1;cases h1;cases hs;exact⟨λ_=>h2,λshs obs hm=>by cases hm⟩,λcs ys hc hi=>by cases hc⟩,
   λZ hΦ ed ds d h=>⟨λs hs=>by cases hs;exact⟨λhm=>(by cases hm),λshs obs hm=>by cases hm;exact axf ds d h⟩,λcs ys hc hi=>by cases hc⟩,
   λZ hΦ ed ds d h=>⟨λs hs=>by cases hs;exact⟨λhm=>(by cases hm),λshs obs hm=>by cases hm;exact axh ds d h⟩,λcs ys hc hi=>by cases hc⟩,
   λZ hΦ ed ds d h=>⟨λs hs=>by cases hs;exact⟨λhm=>(by cases hm),λshs obs hm=>by cases hm;exact amo ds d h⟩,λcs ys hc hi=>by cases hc⟩,trivial⟩ f g hg
 exact this Z hΦ ed ds d h
abbrev T:cK:=eJ tab ext
theorem zyw {ds:List D}{d:D}{t:PT}(k:Nat){f:Nat}{x:PC}(he:tree x=t)(h:aH (eJ tab ext) t (lX ds) (λx=>x=.ret d))(hl:CI[k]?=some (f,x):=by kernel_rfl)(hx:ext f=none:=by rfl):ah (eJ tab ext) f ds d:=.of_tree hx (lA k hl) he h
def ah.of_nsl {tab:Nat->Option PC}{ext:Nat->Option (aT->List D->Option D)}{f:Nat}{pa pb:PC}{spec:List D->D}{ds:List D}{ta tb:PT}(hx:ext f=some (Cz pa pb spec))(hta:tree pa=ta)(htb:tree pb=tb)
 (h:(∃xs,xs≠[]/\spec ds=.list xs/\aH (eJ tab ext) ta (lX ds) (λx=>x=.ret (.list xs)))\/(spec ds=.list []/\aH (eJ tab ext) tb (lX ds) (λx=>x=.ret (.list [])))):ah (eJ tab ext) f ds (spec ds):=by
 refine ah.of_ext hx ?_;rcases h with⟨xs,h1,h2,h3⟩|⟨h2,h3⟩
 .obtain⟨x,rfl,n0,hn⟩:=OP (c:=pa) (hta▸h3);refine⟨n0,λn hle=>?_⟩;unfold Cz;rw[if_pos (.inl ⟨n,xs,hn n hle,h1,h2⟩)]
 .obtain⟨x,rfl,n0,hn⟩:=OP (c:=pb) (htb▸h3);refine⟨n0,λn hle=>?_⟩;unfold Cz;rw[if_pos (.inr ⟨n,hn n hle,h2⟩)]
end Rm
namespace Rm
open Go Go.Proofs Cx
def eO (n:Nat)(p:Nat->Bool):Bool:=(List.range n).all p
def aaO {n:Nat}{p:Nat->Bool}(h:∀k,k<n->p k=true):eO n p=true:=cN.2 λk hk=>h k (fP.1 hk)
def akG {n k:Nat}{p:Nat->Bool}(hk:k<n)(h:p k=false):eO n p=false:=List.all_eq_false.2 ⟨k,fP.2 hk,by simp[h]⟩
def xJ {n:Nat}{p:Nat->Bool}:eO n p=true↔∀k,k<n->p k=true:=⟨λh k hk=>cN.1 h k (fP.2 hk),aaO⟩
def fU (n:Nat)(f:Nat->Int):Int:=(((List.range n).map f).find? λx=>x !=0).getD 0
def Re {n:Nat}{f:Nat->Int}(h:∀k,k<n->f k=0):fU n f=0:=by
 unfold fU;rw[Af.2]
 .rfl
 .intro x hx;obtain⟨k,hk,rfl⟩:=cr.1 hx;simp[h k (fP.1 hk)]
def Rb {n k:Nat}{f:Nat->Int}(hk:k<n)(hj:∀j,j<k->f j=0)(h:f k≠0):fU n f=f k:=by
 unfold fU;have e:List.range n=List.range k++k::(List.range' (k+1) (n-k-1)):=by
  rw[Pe,Pe,<-Pd];have:=List.range'_append_1 (s:=0) (m:=k) (n:=n-k-1+1);rw[fQ] at this;rw[this];congr 1;omega
 rw[e,pf,List.find?_append,Af.2,Option.none_or,iO,List.find?_cons_of_pos (by simpa using h)]
 .rfl
 .intro x hx;obtain⟨j,vK,rfl⟩:=cr.1 hx;simp[hj j (fP.1 vK)]
def Rc {n:Nat}{f:Nat->Int}:fU n f=0↔∀k,k<n->f k=0:=by
 refine⟨λh k=>?_,Re⟩
 induction k using Nat.strongRecOn with
 |ind k ih=>
  intro hk;refine DG λau=>?_;rw[Rb hk (λj hj=>ih j hj (by omega)) au] at h;exact au h
section
variable {T:cK} {id:Nat} {bE bD lr lo:List Nat} {a:PC} {O:Env} {Q:Out->Prop}
def gF (N:Nat)(p:Nat->Bool)(str fK:Nat->List D)(h0:lr.map O.r=str 0/\lo.map O.o=fK 0)
 (step:∀k,k<N->p k=true->aH T (round id bE bD lr lo a) (O.put lr (str k) lo (fK k)) (ff O id bE bD lr lo (λvr vo=>vr=str (k+1)/\vo=fK (k+1)) Q))
 (bad:∀k,k<N->p k=false->eO N p=false->aH T (round id bE bD lr lo a) (O.put lr (str k) lo (fK k)) (ff O id bE bD lr lo (λ_ _=>False) Q))
 (last:eO N p=true->aH T (round id bE bD lr lo a) (O.put lr (str N) lo (fK N)) (ff O id bE bD lr lo (λ_ _=>False) Q)):aL T (.block id bE bD (.loop lr lo a)) O Q:=
 .scan N (λk=>p k=true) str fK h0 (λk hk _ h=>step k hk h) (λk hk _ h=>bad k hk (by simpa using h) (akG hk (by simpa using h))) (λh=>last (aaO h))
def qo (N:Nat)(f:Nat->Int)(str fK:Nat->List D)(h0:lr.map O.r=str 0/\lo.map O.o=fK 0)
 (step:∀k,k<N->f k=0->aH T (round id bE bD lr lo a) (O.put lr (str k) lo (fK k)) (ff O id bE bD lr lo (λvr vo=>vr=str (k+1)/\vo=fK (k+1)) Q))
 (bad:∀k,k<N->f k≠0->fU N f=f k->aH T (round id bE bD lr lo a) (O.put lr (str k) lo (fK k)) (ff O id bE bD lr lo (λ_ _=>False) Q))
 (last:fU N f=0->aH T (round id bE bD lr lo a) (O.put lr (str N) lo (fK N)) (ff O id bE bD lr lo (λ_ _=>False) Q)):aL T (.block id bE bD (.loop lr lo a)) O Q:=
 .scan N (λk=>f k=0) str fK h0 (λk hk _ h=>step k hk h) (λk hk hj h=>bad k hk h (Rb hk hj h)) (λh=>last (Re h))
end
def br {k n:Nat}(h:k<n)(hn:n<=4294967296):i64.wrap ((k:Int)+1)=(k:Int)+1:=aO (by omega)
def xk {k:Nat}(hn:k<=4294967296):i64.wrap ((k:Int)-1)=(k:Int)-1:=aO (by omega)
def aD (i n:Int):Bool:=decide (0<=i)&&decide (i<n)
def wi (n a b:Int):Bool:=decide (a<=n)&&decide (n<=b)
def gd (i n:Int):ah T 116 [.int i,.int n] (.bool (aD i n)):=by
 refine zyw 28 azo ?_;simp[Yz,aD];by_cases h:0<=i<;>simp[h]
def rX (i n:Int):ah T 70 [.int i,.int n] (.bool (aD i n)):=by
 refine zyw 18 azC ?_;simp[YN,aD];by_cases h:0<=i<;>simp[h]
def cV (n a b:Int):ah T 85 [.int n,.int a,.int b] (.bool (wi n a b)):=by
 refine zyw 132 ay3 ?_;simp[Ye,wi];by_cases h:a<=n<;>simp[h]
def idx_eq {α:Type}[DecidableEq α]{l:List α}{x z:α}{k:Nat}(hk:k<l.length)(hj:∀j,j<k->l.getD j z≠x)(h:¬l.getD k z≠x):x∈l/\l.findIdx (λy=>decide (y=x))=k:=by
 have e:l[k]=x:=by simpa [hk] using h
 refine⟨e▸bS hk,(List.findIdx_eq hk).2 ⟨by simp[e],λj km=>?_⟩⟩;have gS:j<l.length:=by omega
 simpa [gS] using hj j km
def aec {α:Type}[DecidableEq α]{l:List α}{x z:α}(hj:∀j,j<l.length->l.getD j z≠x):¬x∈l:=λhm=>by
 obtain⟨j,gS,rfl⟩:=fm hm;have:=hj j gS;simp[gS] at this
def vY {α:Type}[DecidableEq α](l:List α)(x:α):Int:=if x∈l then(l.findIdx (λy=>decide (y=x)):Nat) else-1
def hasB {α:Type}[DecidableEq α](l:List α)(x:α):Bool:=l.any λy=>decide (y=x)
def RG {α:Type}[DecidableEq α]{l:List α}{x:α}:hasB l x=true↔x∈l:=by simp[hasB]
def acO {α:Type}[DecidableEq α]{l:List α}{x:α}:hasB l x=false↔¬x∈l:=by rw[<-RG];simp
def aeb {α:Type}[DecidableEq α](l:List α)(x:α):decide (0<=vY l x)=hasB l x:=by
 unfold vY;by_cases h:x∈l
 .rw[RG.2 h];simp[h]
 .rw[acO.2 h];simp[h]
@[simp] def aEd (a b:ByteArray):Bw .eql a b=decide (a=b):=by
  simp only[Bw,ByteArray.toList_eq];by_cases h:a=b
  .subst h;simp
  .rw[decide_eq_false h,beq_eq_false_iff_ne];intro e;have:a.data=b.data:=by rw[<-vf];exact e
   exact h (by cases a;cases b;cases this;rfl)
@[simp] def aE7 (O:Env)(x i:PE):PE.ev O (.sidx x i)=.v (.int .u8 ((PE.ev O x).s.data.getD (PE.ev O i).i.toNat 0).toNat):=zyz
@[simp] def aFb (O:Env)(x i:PE):PE.ev O (.sok x i)=.v (.bool (decide (0<=(PE.ev O i).i/\(PE.ev O i).i<(PE.ev O x).s.size))):=zyz
@[simp] def aId (a:ByteArray):(str a).s=a:=zyz
def akc (l:List Int)(x:Int)(hl:l.length<=4294967296):ah T 190 [ints l,.int x] (.int (vY l x)):=by
 refine zyw 33 azN ?_;simp[YY];refine .scan l.length (λk=>l.getD k 0≠x) (λk=>[.int 0,.int k]) (λ_=>[]) ?_ (λk hk hj ho=>?_) (λk hk hj ho=>?_) (λhj=>?_)
 .simp
 .have hw:=br hk hl;simp[hk] at ho;have iX:¬x=l[k]:=λe=>ho e.symm;simp[Wo,HZ,hk,hw,ints,ho,iX]
 .obtain⟨hm,he⟩:=idx_eq hk hj ho;simp[hk] at ho;simp[Wo,HZ,hk,ints,ho,vY,hm,he]
 .have:=aec hj;simp[Wo,HZ,vY,this,ints]
def xo (l:List Int)(x:Int)(hl:l.length<=4294967296):ah T 168 [ints l,.int x] (.bool (hasB l x)):=by
 refine zyw 32 azH ?_;simp[YS];refine⟨_,akc l x hl,?_⟩;have:=aeb l x;simp at this ⊢;exact this
def akd (l:List ByteArray)(x:ByteArray)(hl:l.length<=4294967296):ah T 204 [strs l,str x] (.int (vY l x)):=by
 refine zyw 72 azO ?_;simp[YZ];refine .scan l.length (λk=>l.getD k default≠x) (λk=>[.int 0,.int k]) (λ_=>[]) ?_ (λk hk hj ho=>?_) (λk hk hj ho=>?_) (λhj=>?_)
 .simp
 .have hw:=br hk hl;simp[hk] at ho;have iX:¬x=l[k]:=λe=>ho e.symm;simp[Wp,H0,hk,hw,strs,ho,iX]
 .obtain⟨hm,he⟩:=idx_eq hk hj ho;simp[hk] at ho;simp[Wp,H0,hk,strs,ho,vY,hm,he]
 .have:=aec hj;simp[Wp,H0,vY,this,strs]
def aj5 (l:List ByteArray)(x:ByteArray)(hl:l.length<=4294967296):ah T 184 [strs l,str x] (.bool (hasB l x)):=by
 refine zyw 71 azI ?_;simp[YT];refine⟨_,akd l x hl,?_⟩;have:=aeb l x;simp at this ⊢;exact this
def qm (l:List Int)(a b:Int)(k:Nat):Bool:=wi (l.getD k 0) a b&&(k==0||decide (l.getD (k-1) 0<l.getD k 0))
def rising (l:List Int)(a b:Int):Bool:=eO l.length (qm l a b)
def H7 (l:List Int)(a b:Int)(hl:l.length<=4294967296):ah T 163 [ints l,.int a,.int b] (.bool (rising l a b)):=by
 refine zyw 76 azu ?_;simp[YG];refine gF l.length (qm l a b) (λk=>[.bool false,.int k]) (λ_=>[]) ?_ (λk hk ho=>?_) (λk hk ho hb=>?_) (λhj=>?_)
 .simp
 .have hw:=br hk hl;simp[qm,wi,hk] at ho;obtain⟨⟨h1,h2⟩,h3⟩:=ho;have cB:¬l[k]<a:=by omega
  have fa:¬b<l[k]:=by omega
  by_cases gT:0<k
  .have bC:k-1<l.length:=by omega
   have cT:i64.wrap ((k:Int)-1)=((k-1:Nat):Int):=by rw[xk (by omega)];omega
   have fw:¬l[k]<=l[k-1]:=by
        rcases h3 with h3|h3
        .omega
        .simp[bC] at h3;omega
   simp[C9,wN,hk,hw,cT,ints,cB,fa,fw,gT,bC]
  .simp[C9,wN,hk,hw,ints,cB,fa,gT]
 .have hf:rising l a b=false:=hb;simp[qm,wi,hk] at ho;by_cases h1:l[k]<a
  .simp[C9,wN,hk,ints,h1,hf]
  by_cases h2:b<l[k]
  .simp[C9,wN,hk,ints,h1,h2,hf]
  have h3:=ho (by omega) (by omega);have gT:0<k:=by omega
  have bC:k-1<l.length:=by omega
  have cT:i64.wrap ((k:Int)-1)=((k-1:Nat):Int):=by rw[xk (by omega)];omega
  have fw:=h3.2;simp[bC] at fw;simp[C9,wN,hk,cT,ints,h1,h2,fw,gT,bC,hf]
 .have hf:rising l a b=true:=hj;simp[C9,wN,hf]
def Gt (c:Int):Bool:=wi c 97 122||wi c 65 90
def zi (i:Nat)(c:Int):Bool:=Gt c||(i !=0&&(decide (c=95)||wi c 48 57))
def Em (s:ByteArray)(k:Nat):Int:=((s.data.toList.getD k 0).toNat:Nat)
def jy (s:ByteArray):Bool:=decide (1<=s.size)&&decide (s.size<=20)&&eO s.size (λk=>zi k (Em s k))
def Jd {s:ByteArray}{k:Nat}(h:k<s.data.size):(s.data[k].toNat:Int)=Em s k:=by
 unfold Em;rw[aE,aW (by simpa using h)];rfl
def ajg {s:ByteArray}:s=⟨#[]⟩↔s.size=0:=by
 constructor
 .rintro rfl;rfl
 .intro h;cases s with|mk d=>congr;exact OV h
def awt (s:ByteArray):ah T 183 [str s] (.bool (jy s)):=by
 refine zyw 70 azp ?_;simp[YA];by_cases h0:s=⟨#[]⟩
 .have hn:jy s=false:=by simp[jy,ajg.1 h0]
  rw[hn];simp[h0]
 by_cases h1:(20:Int)<s.size
 .have cB:¬s.size<=20:=by omega
  simp[h0,h1,jy,cB]
 have hz:1<=s.size:=by
  have:s.size≠0:=λe=>h0 (ajg.2 e);omega
 have cB:s.size<=20:=by omega
 simp[h0,h1];refine⟨by omega,gF s.size (λk=>zi k (Em s k)) (λk=>[.bool false,.int k]) (λ_=>[]) ?_ (λk hk ho=>?_) (λk hk ho hb=>?_) (λhj=>?_)⟩
 .simp
 .have hw:=br hk (by omega);have bf:k<s.data.size:=hk;have hg:=Jd bf;simp[zi,Gt,wi] at ho;simp[V7,HF,hk,bf,hw,hg];omega
 .have bf:k<s.data.size:=hk;have hg:=Jd bf;have hn:jy s=false:=by simp[jy,hb]
  simp[zi,Gt,wi] at ho;simp[V7,HF,hk,bf,hg,hn];omega
 .have hn:jy s=true:=by simp[jy,hj,hz,cB]
  have hd:s.data.size=s.size:=rfl;simp[V7,HF,hn,hd]
def ah9 (c:Int):ah T 167 [.v (.int .u8 c)] (.bool (Gt c)):=by
 refine zyw 129 ayY ?_;simp[X9,Gt,wi];by_cases h:97<=c<;>by_cases h2:c<=122<;>by_cases h3:65<=c<;>by_cases h4:c<=90<;>simp[h,h2,h3,h4]
def avO (s:ByteArray):ah T 128 [str s] (.bool (jy s)):=by
 refine zyw 128 ayZ ?_;simp[Ya];by_cases h0:(s.size:Int)<1
 .have hn:jy s=false:=by simp[jy];omega
  simp[h0,hn]
 by_cases h1:(20:Int)<s.size
 .have hn:jy s=false:=by simp[jy];omega
  simp[h0,h1,hn]
 rw[if_neg (by omega)];refine gF s.size (λk=>zi k (Em s k)) (λk=>[.bool false,.int k]) (λ_=>[]) ?_ (λk hk ho=>?_) (λk hk ho hb=>?_) (λhj=>?_)
 .simp
 .have hw:=br hk (by omega);have bf:k<s.data.size:=hk;have hg:=Jd bf;simp[zi,wi] at ho;simp[VO,Hk,hk,bf,hw,hg];refine⟨_,ah9 _,?_⟩;simp[hw];intro g1 g2;exfalso;rcases ho with h|h
  .rw[h] at g1;cases g1
  .omega
 .have bf:k<s.data.size:=hk;have hg:=Jd bf;have hn:jy s=false:=by simp[jy,hb]
  simp[zi,wi] at ho;simp[VO,Hk,hk,bf,hg,hn];refine⟨_,ah9 _,?_⟩;simp[ho.1];omega
 .have hn:jy s=true:=by simp[jy,hj];omega
  simp[VO,Hk,hn]
def avL (l:List ByteArray)(n:Nat)(x:ByteArray)(hn:n<=l.length)(hl:l.length<=4294967296):ah T 129 [strs l,.int n,str x] (.bool (hasB (l.take n) x)):=by
 refine zyw 130 ayV ?_;simp[X6];refine .scan n (λk=>l.getD k default≠x) (λk=>[.bool false,.int k]) (λ_=>[]) ?_ (λk hk hj ho=>?_) (λk hk hj ho=>?_) (λhj=>?_)
 .simp
 .have bf:k<l.length:=by omega
  have hw:=br bf hl;simp[bf] at ho;simp[VN,Hi,hk,bf,hw,strs,ho]
 .have bf:k<l.length:=by omega
  simp[bf] at ho;have hm:hasB (l.take n) x=true:=RG.2 (by rw[<-ho,akk];exact⟨k,by omega,rfl⟩);simp[VN,Hi,hk,bf,strs,ho,hm]
 .have hm:hasB (l.take n) x=false:=acO.2 (λh=>by
   rw[akk] at h;obtain⟨k,hk,e⟩:=h;have:=hj k (by omega);simp[show k<l.length by omega] at this;exact this e)
  simp[VN,Hi,hm]
def iz (l:List ByteArray)(i:Nat):Int:=if jy (l.getD i default)=false then 2 else if hasB (l.take i) (l.getD i default) then 5 else 0
def TL (l:List ByteArray)(i n:Nat)(h:i<n):iz (l.take n) i=iz l i:=by
 unfold iz;rw[aE,DN h,Ph,mF (by omega),<-aE]
def G2 (l:List ByteArray)(i:Nat)(hi:i<l.length)(hl:l.length<=4294967296):ah T 83 [strs l,.int i] (.int (iz l i)):=by
 refine zyw 127 ay6 ?_;simp[Yh,hi];refine⟨_,by simpa [strs,hi] using avO l[i],?_⟩;unfold iz;rw[aE,aW hi,kF];cases h1:jy l[i]<;>simp[h1];refine⟨_,by simpa [strs,hi] using avL l i l[i] (by omega) hl,?_⟩;cases h2:hasB (l.take i) l[i]<;>simp[h2]
def aiM (l:List ByteArray)(i:Nat)(hi:i<l.length)(hl:l.length<=4294967296):ah T 162 [strs l,.int i] (.int (iz l i)):=by
 refine zyw 69 azq ?_;simp[YB,hi];refine⟨_,by simpa [strs,hi] using awt l[i],?_⟩;unfold iz;rw[aE,aW hi,kF];cases h1:jy l[i]<;>simp[h1];refine⟨by omega,_,by simpa [strs,hi] using aj5 (l.take i) l[i] (by rw[dL];omega),?_⟩;cases h2:hasB (l.take i) l[i]<;>simp[h2]
def kM (l:List ByteArray)(g:Nat->Bool)(i:Nat):Int:=if iz l i≠0 then iz l i else if g i then 0 else 1
def eK (l:List ByteArray)(Gz:Int)(g:Nat->Bool):Int:=if Gz<l.length then 6 else fU l.length (kM l g)
def N3 (l:List ByteArray)(Gz:Int)(f:Nat)(caps:List D)(g:Nat->Bool)(hg:∀i:Nat,i<l.length->ah T f (.int i::caps) (.bool (g i)))(hl:l.length<=4294967296):
 ah T 112 [strs l,.int Gz,.clo f caps] (.int (eK l Gz g)):=by
 refine zyw 68 azn ?_;simp[Yy,eK];by_cases h0:Gz<l.length
 .simp[h0];intro h;omega
 simp[h0];refine qo l.length (kM l g) (λk=>[.int 0,.int k]) (λ_=>[]) ?_ (λk hk ho=>?_) (λk hk ho hb=>?_) (λhj=>?_)
 .simp
 .have hw:=br hk hl;have h1:iz l k=0:=by
   refine DG λh=>?_;unfold kM at ho;rw[if_pos h] at ho;exact h ho
  have h2:g k=true:=by
   unfold kM at ho;rw[if_neg (by simpa using h1)] at ho;cases h:g k with
   |true=>rfl
   |false=>rw[h] at ho;simp at ho
  simp[V6,HE,hk,hw];refine⟨_,aiM l k hk hl,?_⟩;simp[h1];refine⟨_,_,⟨rfl,rfl⟩,_,hg k hk,?_⟩;simp[h2,hw]
 .simp[V6,HE,hk,hb];refine⟨_,aiM l k hk hl,?_⟩;unfold kM at ho ⊢;by_cases h1:iz l k=0
  .simp[h1] at ho ⊢;refine⟨_,_,⟨rfl,rfl⟩,_,hg k hk,?_⟩;simp[ho]
  .simp[h1]
 .simp[V6,HE,hj]
def Vu (l:List Int)(a b:Int)(hl:l.length<=4294967296):ah T 130 [ints l,.int a,.int b] (.bool (rising l a b)):=by
 refine zyw 133 ay2 ?_;simp[Yd];refine gF l.length (qm l a b) (λk=>[.bool false,.int k]) (λ_=>[]) ?_ (λk hk ho=>?_) (λk hk ho hb=>?_) (λhj=>?_)
 .simp
 .have hw:=br hk hl;simp[qm,hk] at ho;simp[VS,Ho,hk,hw,ints];refine⟨_,cV _ _ _,?_⟩;by_cases gT:0<k
  .have bC:k-1<l.length:=by omega
   have cT:i64.wrap ((k:Int)-1)=((k-1:Nat):Int):=by rw[xk (by omega)];omega
   have fw:¬l[k]<=l[k-1]:=by
        rcases ho.2 with h3|h3
        .omega
        .simp[bC] at h3;omega
   simp[ho.1,hk,hw,cT,fw,gT,bC]
  .simp[ho.1,hk,hw,gT];omega
 .have hf:rising l a b=false:=hb;simp[qm,hk] at ho;simp[VS,Ho,hk,ints,hf];refine⟨_,cV _ _ _,?_⟩;cases h1:wi l[k] a b with
  |false=>simp
  |true=>
   have h3:=ho h1;have gT:0<k:=by omega
   have bC:k-1<l.length:=by omega
   have cT:i64.wrap ((k:Int)-1)=((k-1:Nat):Int):=by rw[xk (by omega)];omega
   have fw:=h3.2;simp[bC] at fw;simp[hk,cT,fw,gT,bC]
 .have hf:rising l a b=true:=hj;simp[VS,Ho,hf]
def W0 (n:Int):n.tdiv 100=if 0<=n then n/100 else-((-n)/100):=by
 split
 .rename_i h;exact DJ h
 .rename_i h;have e:n.tdiv 100=-((-n).tdiv 100):=by rw[Int.neg_tdiv,Int.neg_neg]
  rw[e,DJ (by omega)]
def ajv (n:Int):n.tmod 100=n-100*n.tdiv 100:=Int.tmod_def n 100
def ajN {n:Int}(h:aZ n):i64.wrap (n.tdiv 100)=n.tdiv 100:=aO (by rw[W0];unfold aZ at h;split<;>omega)
def pw (r:Realm)(c:City):Bool:=eO c.feasts.length (λk=>wi ((c.feasts.getD k 0).tmod 100) 1 31)&&(decide (c.feasts.length<=60)&&decide (c.shut.length<=200)&&aD c.order r.orders.length&&aD c.currency r.currencies.length)&&
 (rising c.rest 0 6&&rising c.feasts 101 1231&&rising c.shut 0 100000)
def awr (r:Realm)(c:City)(h1:c.rest.length<=4294967296)(h2:c.feasts.length<=4294967296)(h3:c.shut.length<=4294967296):ah T 115 [aQ r,gP c] (.bool (pw r c)):=by
 refine zyw 75 azm ?_;simp[Yx];refine gF c.feasts.length (λk=>wi ((c.feasts.getD k 0).tmod 100) 1 31) (λk=>[.bool false,.int k]) (λ_=>[]) ?_ (λk hk ho=>?_) (λk hk ho hb=>?_) (λhj=>?_)
 .simp
 .have hw:=br hk h2;simp[wi,hk] at ho;have g1:¬(c.feasts[k].tmod 100<1):=by omega
  have g2:¬(31<c.feasts[k].tmod 100):=by omega
  simp[V5,HC,hk,hw,ints,g1,g2]
 .have hf:pw r c=false:=by simp only[pw,hb,sm]
  simp[wi,hk] at ho;simp[V5,HC,hk,ints,hf];by_cases g1:c.feasts[k].tmod 100<1
  .simp[g1]
  .have g2:=ho (by omega);simp[g1,g2]
 .simp[V5,HC];by_cases g1:(c.feasts.length:Int)<=60
  case neg=>
   have hf:pw r c=false:=by
        have fu:decide (c.feasts.length<=60)=false:=decide_eq_false (by omega);simp only[pw,fu,sm,z8]
   have fu:(60:Int)<c.feasts.length:=by omega
   simp[g1,fu,hf]
  by_cases g2:(c.shut.length:Int)<=200
  case neg=>
   have hf:pw r c=false:=by
        have fu:decide (c.shut.length<=200)=false:=decide_eq_false (by omega);simp only[pw,fu,sm,z8]
   have pA:(200:Int)<c.shut.length:=by omega
   simp[g1,g2,pA,hf]
  have fu:¬(60:Int)<c.feasts.length:=by omega
  have pA:¬(200:Int)<c.shut.length:=by omega
  have hf:pw r c=(aD c.order r.orders.length&&aD c.currency r.currencies.length&&(rising c.rest 0 6&&rising c.feasts 101 1231&&rising c.shut 0 100000)):=by
   have e1:decide (c.feasts.length<=60)=true:=decide_eq_true (by omega);have e2:decide (c.shut.length<=200)=true:=decide_eq_true (by omega);simp only[pw,hj,e1,e2,Aa]
  rw[hf];simp[g1,g2,fu,pA];refine⟨_,gd _ _,?_⟩;simp;cases e1:aD c.order r.orders.length<;>simp;refine⟨_,gd _ _,?_⟩;simp;cases e2:aD c.currency r.currencies.length<;>simp;refine⟨_,H7 _ _ _ h1,?_⟩;simp;cases e3:rising c.rest 0 6<;>simp;refine⟨_,H7 _ _ _ h2,?_⟩;simp;cases e4:rising c.feasts 101 1231<;>simp;exact H7 _ _ _ h3
def qN (r:Realm)(c:City):Bool:=(wi c.order 0 (r.orders.length-1)&&wi c.currency 0 (r.currencies.length-1)&&decide (c.feasts.length<=60)&&decide (c.shut.length<=200))&&
 eO c.feasts.length (λk=>wi ((c.feasts.getD k 0).tdiv 100) 1 12&&wi ((c.feasts.getD k 0).tmod 100) 1 31)&&(rising c.rest 0 6&&rising c.feasts 0 2000&&rising c.shut 0 100000)
def tP (n:Nat)(h:n<=4294967296):i64.wrap ((n:Int)-1)=(n:Int)-1:=aO (by omega)
def avP (r:Realm)(c:City)(h1:c.rest.length<=4294967296)(h2:c.feasts.length<=4294967296)(h3:c.shut.length<=4294967296)(h4:r.orders.length<=4294967296)(h5:r.currencies.length<=4294967296)(hi:∀y,y∈c.feasts->aZ y):
 ah T 84 [aQ r,gP c] (.bool (qN r c)):=by
 refine zyw 131 ay0 ?_;simp[Yb,tP _ h4,tP _ h5];refine⟨_,cV _ _ _,?_⟩;cases e1:wi c.order 0 (r.orders.length-1)
 case false=>simp[qN,e1]
 simp;refine⟨_,cV _ _ _,?_⟩;cases e2:wi c.currency 0 (r.currencies.length-1)
 case false=>simp[qN,e1,e2]
 by_cases g1:(c.feasts.length:Int)<=60
 case neg=>
  have hf:qN r c=false:=by
   have fu:decide (c.feasts.length<=60)=false:=decide_eq_false (by omega);simp only[qN,fu,sm,z8]
  have fu:(60:Int)<c.feasts.length:=by omega
  simp[fu,hf]
 by_cases g2:(c.shut.length:Int)<=200
 case neg=>
  have hf:qN r c=false:=by
   have fu:decide (c.shut.length<=200)=false:=decide_eq_false (by omega);simp only[qN,fu,sm,z8]
  have pA:(200:Int)<c.shut.length:=by omega
  simp[pA,hf]
 have fu:¬(60:Int)<c.feasts.length:=by omega
 have pA:¬(200:Int)<c.shut.length:=by omega
 have hf:qN r c=(eO c.feasts.length (λk=>wi ((c.feasts.getD k 0).tdiv 100) 1 12&&wi ((c.feasts.getD k 0).tmod 100) 1 31)&&(rising c.rest 0 6&&rising c.feasts 0 2000&&rising c.shut 0 100000)):=by
  have e3:decide (c.feasts.length<=60)=true:=decide_eq_true (by omega);have e4:decide (c.shut.length<=200)=true:=decide_eq_true (by omega);simp only[qN,e1,e2,e3,e4,Aa]
 rw[hf];simp[fu,pA];refine gF c.feasts.length (λk=>wi ((c.feasts.getD k 0).tdiv 100) 1 12&&wi ((c.feasts.getD k 0).tmod 100) 1 31) (λk=>[.bool false,.int k]) (λ_=>[]) ?_ (λk hk ho=>?_) (λk hk ho hb=>?_) (λhj=>?_)
 .simp
 .have hw:=br hk h2;have hI:=hi _ (bS hk);have hq:i64.wrap (c.feasts[k].tdiv 100)=c.feasts[k].tdiv 100:=ajN hI;simp[hk] at ho;simp[VP,Hl,hk,ints,hq];refine⟨_,cV _ _ _,?_⟩;simp[ho.1,hk];refine⟨_,cV _ _ _,?_⟩;simp[ho.2,hk,hw]
 .have hI:=hi _ (bS hk);have hq:i64.wrap (c.feasts[k].tdiv 100)=c.feasts[k].tdiv 100:=ajN hI;simp[hk] at ho;simp only[aE] at hb;rw[hb];simp[VP,Hl,hk,ints,hq];refine⟨_,cV _ _ _,?_⟩;cases e3:wi (c.feasts[k].tdiv 100) 1 12 with
  |false=>simp
  |true=>
   have:=ho e3;simp[hk];refine⟨_,cV _ _ _,?_⟩;simp[this]
 .simp only[aE] at hj;rw[hj];simp[VP,Hl];refine⟨_,Vu _ _ _ h1,?_⟩;simp;cases e3:rising c.rest 0 6<;>simp;refine⟨_,Vu _ _ _ h2,?_⟩;simp;cases e4:rising c.feasts 0 2000<;>simp;exact Vu _ _ _ h3
def alL (r:Realm)(c:City):qN r c=pw r c:=by
 rw[tR];have bP:∀(i:Int) (n:Nat),(wi i 0 (n-1)=true)↔(aD i n=true):=by intro i n;simp[wi,aD];omega
 simp only[qN,pw,ao,decide_eq_true_eq,bP,rising,xJ,qm];constructor
 .rintro⟨⟨⟨⟨⟨a1,a2⟩,a3⟩,a4⟩,a5⟩,⟨a6,a7⟩,a8⟩;refine⟨⟨λk hk=>(a5 k hk).2,⟨⟨⟨a3,a4⟩,a1⟩,a2⟩⟩,⟨a6,λk hk=>?_⟩,a8⟩;have h1:=a5 k hk;have h2:=a7 k hk;simp[wi,ajv,W0] at h1 h2 ⊢;split at h1<;>omega
 .rintro⟨⟨a5,⟨⟨⟨a3,a4⟩,a1⟩,a2⟩⟩,⟨a6,a7⟩,a8⟩;refine⟨⟨⟨⟨⟨a1,a2⟩,a3⟩,a4⟩,λk hk=>?_⟩,⟨a6,λk hk=>?_⟩,a8⟩
  .have h1:=a5 k hk;have h2:=a7 k hk;simp[wi,ajv,W0] at h1 h2 ⊢;split at h1<;>(try split)<;>omega
  .have h2:=a7 k hk;simp[wi] at h2 ⊢;omega
def Ds {α β:Type}(f:α->β){l:List α}{k:Nat}(h:k<l.length):(l.take (k+1)).map f=(l.take k).map f++[f l[k]]:=by
 rw[iP h,pf];rfl
def oG (i:Int)(n:Nat):aD i n=wi i 0 ((n:Int)-1):=by
 rw[tR];simp[wi,aD];omega
def Ar (o:Order):List Int:=o.choices.map (·.ask)
def D3 (o:Order):List Int:=o.rules.map (·.ask)
def rJ (o:Order):Bool:=eO o.choices.length (λk=>aD (o.choices.getD k default).by_ 5)&&(rising (Ar o) 0 21&&rising (D3 o) 0 21)
def aww (o:Order)(h1:o.choices.length<=100000)(h2:o.rules.length<=100000):ah T 119 [kh o] (.bool (rJ o)):=by
 refine zyw 79 azs ?_;simp[YD];refine gF o.choices.length (λk=>aD (o.choices.getD k default).by_ 5) (λk=>[.bool false,.none,.int k]) (λk=>[ints ((o.choices.take k).map (·.ask))]) ?_ (λk hk ho=>?_) (λk hk ho hb=>?_) (λhj=>?_)
 .simp[ints]
 .have hw:=br hk (by omega);have hl:(o.choices.take k).length=k:=by rw[dL];omega
  simp[hk] at ho;rw[Ds _ hk];simp[V8,HG,hk,hw,ints,hl];refine⟨by omega,_,gd _ _,?_⟩;simp[ho,hw]
 .have hf:rJ o=false:=by simp only[rJ,hb,sm]
  have hl:(o.choices.take k).length=k:=by rw[dL];omega
  simp[hk] at ho;simp[V8,HG,hk,ints,hl,hf];refine⟨by omega,_,gd _ _,?_⟩;simp[ho]
 .have hf:rJ o=(rising (Ar o) 0 21&&rising (D3 o) 0 21):=by simp only[rJ,hj,Aa]
  rw[hf];simp[V8,HG];refine aL.forRounds o.rules.length (λk=>[.none,.int k]) (λk=>[ints ((o.rules.take k).map (·.ask))]) ?_ (λk hk=>?_) ?_
  .simp[ints]
  .have hw:=br hk (by omega);have hl:(o.rules.take k).length=k:=by rw[dL];omega
   rw[Ds _ hk];simp[aiF,NU,hk,hw,ints,hl];omega
  .simp[aiF,NU];refine⟨_,H7 (Ar o) _ _ (by simp[Ar];omega),?_⟩;simp;cases e1:rising (Ar o) 0 21<;>simp;exact H7 (D3 o) _ _ (by simp[D3];omega)
def zm (o:Order)(k:Nat):Bool:=wi (o.choices.getD k default).ask 0 21&&wi (o.choices.getD k default).by_ 0 4&&(k==0||decide ((o.choices.getD (k-1) default).ask<(o.choices.getD k default).ask))
def CF (o:Order)(k:Nat):Bool:=wi (o.rules.getD k default).ask 0 21&&(k==0||decide ((o.rules.getD (k-1) default).ask<(o.rules.getD k default).ask))
def au2 (o:Order):(eO o.choices.length (zm o)&&eO o.rules.length (CF o))=rJ o:=by
 rw[tR];simp only[rJ,ao,rising,xJ,Ar,D3,dY];have g1:∀k,k<o.choices.length->(qm (o.choices.map (·.ask)) 0 21 k=true↔wi (o.choices.getD k default).ask 0 21=true/\(k=0\/(o.choices.getD (k-1) default).ask<(o.choices.getD k default).ask)):=by
  intro k hk;have bC:k-1<o.choices.length:=by omega
  simp[qm,hk,bC]
 have g2:∀k,k<o.rules.length->(qm (o.rules.map (·.ask)) 0 21 k=true↔wi (o.rules.getD k default).ask 0 21=true/\(k=0\/(o.rules.getD (k-1) default).ask<(o.rules.getD k default).ask)):=by
  intro k hk;have bC:k-1<o.rules.length:=by omega
  simp[qm,hk,bC]
 constructor
 .rintro⟨a,b⟩;refine⟨λk hk=>?_,λk hk=>(g1 k hk).2 ?_,λk hk=>(g2 k hk).2 ?_⟩
  .have:=a k hk;simp[zm,wi,aD] at this ⊢;omega
  .have:=a k hk;simp[zm] at this ⊢;exact⟨this.1.1,this.2⟩
  .have:=b k hk;simp[CF] at this ⊢;exact this
 .rintro⟨c,a,b⟩;refine⟨λk hk=>?_,λk hk=>?_⟩
  .have h1:=(g1 k hk).1 (a k hk);have h2:=c k hk;simp[zm,wi,aD] at h1 h2 ⊢;omega
  .have h1:=(g2 k hk).1 (b k hk);simp[CF] at h1 ⊢;exact h1
def avQ (o:Order)(h1:o.choices.length<=100000)(h2:o.rules.length<=100000):ah T 86 [kh o] (.bool (rJ o)):=by
 rw[<-au2];refine zyw 136 ay1 ?_;simp[Yc];refine gF o.choices.length (zm o) (λk=>[.bool false,.int k]) (λ_=>[]) ?_ (λk hk ho=>?_) (λk hk ho hb=>?_) (λhj=>?_)
 .simp
 .have hw:=br hk (by omega);simp[zm,hk] at ho;simp[VQ,Hm,hk];refine⟨_,cV _ _ _,?_⟩;simp[ho.1.1,hk];refine⟨_,cV _ _ _,?_⟩;by_cases gT:0<k
  .have bC:k-1<o.choices.length:=by omega
   have cT:i64.wrap ((k:Int)-1)=((k-1:Nat):Int):=by rw[xk (by omega)];omega
   have h3:¬o.choices[k].ask<=o.choices[k-1].ask:=by
        rcases ho.2 with h3|h3
        .omega
        .simp[bC] at h3;omega
   simp[ho.1.2,hk,hw,cT,h3,gT,bC]
  .simp[ho.1.2,hk,hw,gT];omega
 .rw[hb];simp[zm,hk] at ho;simp[VQ,Hm,hk];refine⟨_,cV _ _ _,?_⟩;cases e1:wi o.choices[k].ask 0 21 with
  |false=>simp
  |true=>
   simp[hk];refine⟨_,cV _ _ _,?_⟩;cases e2:wi o.choices[k].by_ 0 4 with
   |false=>simp
   |true=>
    have h3:=ho e1 e2;have gT:0<k:=by omega
    have bC:k-1<o.choices.length:=by omega
    have cT:i64.wrap ((k:Int)-1)=((k-1:Nat):Int):=by rw[xk (by omega)];omega
    have fw:=h3.2;simp[bC] at fw;simp[hk,cT,fw,gT,bC]
 .rw[hj];simp[VQ,Hm];refine gF o.rules.length (CF o) (λk=>[.bool false,.int k]) (λ_=>[]) ?_ (λk hk ho=>?_) (λk hk ho hb=>?_) (λhj=>?_)
  .simp
  .have hw:=br hk (by omega);simp[CF,hk] at ho;simp[VR,Hn,hk];refine⟨_,cV _ _ _,?_⟩;by_cases gT:0<k
   .have bC:k-1<o.rules.length:=by omega
    have cT:i64.wrap ((k:Int)-1)=((k-1:Nat):Int):=by rw[xk (by omega)];omega
    have h3:¬o.rules[k].ask<=o.rules[k-1].ask:=by
       rcases ho.2 with h3|h3
       .omega
       .simp[bC] at h3;omega
    simp[ho.1,hk,hw,cT,h3,gT,bC]
   .simp[ho.1,hk,hw,gT];omega
  .rw[hb];simp[CF,hk] at ho;simp[VR,Hn,hk];refine⟨_,cV _ _ _,?_⟩;cases e1:wi o.rules[k].ask 0 21 with
   |false=>simp
   |true=>
    have h3:=ho e1;have gT:0<k:=by omega
    have bC:k-1<o.rules.length:=by omega
    have cT:i64.wrap ((k:Int)-1)=((k-1:Nat):Int):=by rw[xk (by omega)];omega
    have fw:=h3.2;simp[bC] at fw;simp[hk,cT,fw,gT,bC]
  .rw[hj];simp[VR,Hn]
def fI (r:Realm):List ByteArray:=r.cities.map (·.name)
def eU (r:Realm):List ByteArray:=r.firms.map (·.name)
def eV (r:Realm):List ByteArray:=r.orders.map (·.name)
def awv (r:Realm)(h1:r.cities.length<=100000)(h2:r.firms.length<=100000)(h3:r.orders.length<=100000):ah T 111 [aQ r] (.tup [strs (fI r),strs (eU r),strs (eV r)]):=by
 refine zyw 67 azr ?_;simp[YC];refine aL.forRounds r.cities.length (λk=>[.none,.int k]) (λk=>[strs ((r.cities.take k).map (·.name))]) ?_ (λk hk=>?_) ?_
 .simp[strs]
 .have hw:=br hk (by omega);have hl:(r.cities.take k).length=k:=by rw[dL];omega
  rw[Ds _ hk];simp[aiC,NR,hk,hw,strs,hl];omega
 .simp[aiC,NR];refine aL.forRounds r.firms.length (λk=>[.none,.int k]) (λk=>[strs ((r.firms.take k).map (·.name))]) ?_ (λk hk=>?_) ?_
  .simp[strs]
  .have hw:=br hk (by omega);have hl:(r.firms.take k).length=k:=by rw[dL];omega
   rw[Ds _ hk];simp[aiD,NS,hk,hw,strs,hl];omega
  .simp[aiD,NS];refine aL.forRounds r.orders.length (λk=>[.none,.int k]) (λk=>[strs ((r.orders.take k).map (·.name))]) ?_ (λk hk=>?_) ?_
   .simp[strs]
   .have hw:=br hk (by omega);have hl:(r.orders.take k).length=k:=by rw[dL];omega
    rw[Ds _ hk];simp[aiE,NT,hk,hw,strs,hl];omega
   .simp[aiE,NT,fI,eU,eV]
structure Small (r:Realm):Prop where
 cur:r.currencies.length<=1000
 cities:r.cities.length<=1000
 groups:r.groups.length<=1000
 firms:r.firms.length<=1000
 orders:r.orders.length<=1000
 us:r.usances.length<=1000
 rates:r.rates.length<=1000
 halts:r.halts.length<=1000
 city:∀c,c∈r.cities->c.rest.length<=1000/\c.feasts.length<=1000/\c.shut.length<=1000/\∀y,y∈c.feasts->aZ y
 order:∀o,o∈r.orders->o.choices.length<=1000/\o.rules.length<=1000
 rate:∀x,x∈r.rates->aZ x.num/\aZ x.den
def mA (r:Realm)(k j:Nat):Bool:=(r.usances.getD j default).fr !=(r.usances.getD k default).fr||(r.usances.getD j default).to !=(r.usances.getD k default).to
def zU (r:Realm)(k:Nat):Int:=
 if(aD (r.usances.getD k default).fr r.cities.length&&aD (r.usances.getD k default).to r.cities.length&&wi (r.usances.getD k default).days 1 20000)=false then 1 else if eO k (mA r k) then 0 else 5
def w9 (r:Realm):Int:=if 100<r.usances.length then 6 else fU r.usances.length (zU r)
def awy (r:Realm)(h:Small r):ah T 120 [aQ r] (.int (w9 r)):=by
 refine zyw 80 azv ?_;have hu:=h.us;simp[YH,w9];by_cases h0:100<r.usances.length
 .have gp:(100:Int)<r.usances.length:=by omega
  have yj:¬r.usances.length<=100:=by omega
  simp[h0,gp,yj]
 have gp:¬(100:Int)<r.usances.length:=by omega
 simp[h0,gp];refine qo r.usances.length (zU r) (λk=>[.int 0,.int k]) (λ_=>[]) ?_ (λk hk ho=>?_) (λk hk ho hb=>?_) (λhj=>?_)
 .simp
 .have hw:=br hk (by omega);have ha:aD r.usances[k].fr r.cities.length=true/\aD r.usances[k].to r.cities.length=true/\wi r.usances[k].days 1 20000=true/\eO k (mA r k)=true:=by
   unfold zU at ho;simp only[aE,aW hk,kF] at ho;cases e1:aD r.usances[k].fr r.cities.length<;>cases e2:aD r.usances[k].to r.cities.length<;>cases e3:wi r.usances[k].days 1 20000<;>cases e4:eO k (mA r k)<;>simp[e1,e2,e3,e4] at ho ⊢
  obtain⟨a1,a2,a3,a4⟩:=ha;simp[wi] at a3;have a5:¬r.usances[k].days<1:=by omega
  have a6:¬20000<r.usances[k].days:=by omega
  simp[Wb,HL,hk];refine⟨_,gd _ _,?_⟩;simp[a1];refine⟨_,gd _ _,?_⟩;simp[a2,a5,a6];refine⟨by omega,gF k (mA r k) (λj=>[.int 0,.int j]) (λ_=>[]) ?_ (λj hj fD=>?_) (λj hj fD db=>?_) (λsT=>?_)⟩
  .simp
  .have yW:=br hj (by omega);have bB:j<r.usances.length:=by omega
   have hm:j<min k r.usances.length:=by omega
   simp[mA,bB,hk] at fD;simp[NV,Da,hj,bB,hk,yW,hm];intro e e';rcases fD with h|h
   .exact absurd e h
   .exact absurd e' h
  .rw[a4] at db;cases db
  .simp[NV,Da,hw];omega
 .simp[Wb,HL,hk,hb];refine⟨_,gd _ _,?_⟩;unfold zU at ho ⊢;simp only[aE,aW hk,kF] at ho ⊢;cases e1:aD r.usances[k].fr r.cities.length
  .simp
  simp;refine⟨_,gd _ _,?_⟩;cases e2:aD r.usances[k].to r.cities.length
  .simp
  cases e3:wi r.usances[k].days 1 20000
  .simp[wi] at e3;by_cases g:r.usances[k].days<1
   .simp[g]
   .simp[g,e3 (by omega)]
  have EG:=e3;simp[wi] at EG;have a5:¬r.usances[k].days<1:=by omega
  have a6:¬20000<r.usances[k].days:=by omega
  simp[e1,e2,e3] at ho;simp[a5,a6];refine⟨by omega,gF k (mA r k) (λj=>[.int 0,.int j]) (λ_=>[]) ?_ (λj hj fD=>?_) (λj hj fD db=>?_) (λsT=>?_)⟩
  .simp
  .have yW:=br hj (by omega);have bB:j<r.usances.length:=by omega
   have hm:j<min k r.usances.length:=by omega
   simp[mA,bB,hk] at fD;simp[NV,Da,hj,bB,hk,yW,hm];intro e e';rcases fD with h|h
   .exact absurd e h
   .exact absurd e' h
  .have bB:j<r.usances.length:=by omega
   have hm:j<min k r.usances.length:=by omega
   simp[mA,bB,hk] at fD;simp[NV,Da,hj,bB,hk,ho,hm]
   first|exact fD|simp[fD]
  .rw[sT] at ho;cases ho
 .simp[Wb,HL,hj]
def avV (r:Realm)(h:Small r):ah T 49 [aQ r] (.int (w9 r)):=by
 refine zyw 137 ay9 ?_;have hu:=h.us;have hc:=h.cities;simp[Yk,w9];by_cases h0:100<r.usances.length
 .have gp:(100:Int)<r.usances.length:=by omega
  have yj:¬r.usances.length<=100:=by omega
  simp[h0,gp,yj]
 have gp:¬(100:Int)<r.usances.length:=by omega
 simp[h0,gp];refine qo r.usances.length (zU r) (λk=>[.int 0,.int k]) (λ_=>[]) ?_ (λk hk ho=>?_) (λk hk ho hb=>?_) (λhj=>?_)
 .simp
 .have hw:=br hk (by omega);have ha:aD r.usances[k].fr r.cities.length=true/\aD r.usances[k].to r.cities.length=true/\wi r.usances[k].days 1 20000=true/\eO k (mA r k)=true:=by
   unfold zU at ho;simp only[aE,aW hk,kF] at ho;cases e1:aD r.usances[k].fr r.cities.length<;>cases e2:aD r.usances[k].to r.cities.length<;>cases e3:wi r.usances[k].days 1 20000<;>cases e4:eO k (mA r k)<;>simp[e1,e2,e3,e4] at ho ⊢
  obtain⟨a1,a2,a3,a4⟩:=ha;rw[oG] at a1 a2;simp[V0,Hw,hk,tP _ (show r.cities.length<=4294967296 by omega)];refine⟨_,cV _ _ _,?_⟩;simp[a1,tP _ (show r.cities.length<=4294967296 by omega)];refine⟨_,cV _ _ _,?_⟩;simp[a2];refine⟨_,cV _ _ _,?_⟩;simp[a3];refine gF k (mA r k) (λj=>[.int 0,.int j]) (λ_=>[]) ?_ (λj hj fD=>?_) (λj hj fD db=>?_) (λsT=>?_)
  .simp
  .have yW:=br hj (by omega);have bB:j<r.usances.length:=by omega
   simp[mA,bB,hk] at fD;simp[NP,C7,hj,bB,hk,yW];intro e e';rcases fD with h|h
   .exact absurd e h
   .exact absurd e' h
  .rw[a4] at db;cases db
  .simp[NP,C7,hw]
 .simp[V0,Hw,hk,hb,tP _ (show r.cities.length<=4294967296 by omega)];refine⟨_,cV _ _ _,?_⟩;unfold zU at ho ⊢;simp only[aE,aW hk,kF,oG] at ho ⊢;cases e1:wi r.usances[k].fr 0 ((r.cities.length:Int)-1)
  .simp
  simp[tP _ (show r.cities.length<=4294967296 by omega)];refine⟨_,cV _ _ _,?_⟩;cases e2:wi r.usances[k].to 0 ((r.cities.length:Int)-1)
  .simp
  simp;refine⟨_,cV _ _ _,?_⟩;cases e3:wi r.usances[k].days 1 20000
  .simp
  simp[e1,e2,e3] at ho;simp;refine gF k (mA r k) (λj=>[.int 0,.int j]) (λ_=>[]) ?_ (λj hj fD=>?_) (λj hj fD db=>?_) (λsT=>?_)
  .simp
  .have yW:=br hj (by omega);have bB:j<r.usances.length:=by omega
   simp[mA,bB,hk] at fD;simp[NP,C7,hj,bB,hk,yW];intro e e';rcases fD with h|h
   .exact absurd e h
   .exact absurd e' h
  .have bB:j<r.usances.length:=by omega
   simp[mA,bB,hk] at fD;simp[NP,C7,hj,bB,hk,ho]
   first|exact fD|simp[fD]
  .rw[sT] at ho;cases ho
 .simp[V0,Hw,hj]
def zH (r:Realm)(k:Nat):Bool:=aD (r.rates.getD k default).fr r.currencies.length&&aD (r.rates.getD k default).to r.currencies.length&&((r.rates.getD k default).fr !=(r.rates.getD k default).to)&&
 wi (r.rates.getD k default).num 1 1073741824&&wi (r.rates.getD k default).den 1 1073741824&&wi (r.rates.getD k default).since 0 100000
def vG (r:Realm)(k:Nat):Bool:=aD (r.halts.getD k default).order r.orders.length&&wi (r.halts.getD k default).fr 0 (r.halts.getD k default).to&&decide ((r.halts.getD k default).to<=100000)
def ql (r:Realm):Int:=if 100<r.rates.length then 6 else if eO r.rates.length (zH r)=false then 1 else if 20<r.halts.length then 6 else if eO r.halts.length (vG r) then 0 else 1
def LZ {n:Int}(h:aZ n)(m:Int)(hm:0<=m/\m<=4294967296):aD (i64.wrap (n-1)) m=wi n 1 m:=by
 unfold aZ at h;by_cases e:n=-9223372036854775808
 .subst e;have:i64.wrap (-9223372036854775808-1)=9223372036854775807:=by decide
  rw[this,tR];simp[aD,wi];omega
 .rw[aO (by omega),tR];simp[aD,wi];omega
def aei (n:Int):aD n 100001=wi n 0 100000:=by rw[tR];simp[aD,wi];omega
def awx (r:Realm)(h:Small r):ah T 121 [aQ r] (.int (ql r)):=by
 refine zyw 81 azt ?_;have hu:=h.rates;have hh:=h.halts;simp[YE,ql];by_cases h0:100<r.rates.length
 .have gp:(100:Int)<r.rates.length:=by omega
  have yj:¬r.rates.length<=100:=by omega
  simp[h0,gp,yj]
 have gp:¬(100:Int)<r.rates.length:=by omega
 simp[h0,gp];have key:∀k (hk:k<r.rates.length),∀{O:Env} {Q:Out->Prop},True:=λ_ _ _ _=>trivial;refine gF r.rates.length (zH r) (λk=>[.int 0,.int k]) (λ_=>[]) ?_ (λk hk ho=>?_) (λk hk ho hb=>?_) (λhj=>?_)
 .simp
 .have hw:=br hk (by omega);have hI:=h.rate _ (bS hk);simp[zH,hk] at ho;obtain⟨⟨⟨⟨⟨a1,a2⟩,a3⟩,a4⟩,a5⟩,a6⟩:=ho;simp[V9,HI,hk];refine⟨_,gd _ _,?_⟩;simp[a1];refine⟨_,gd _ _,?_⟩;simp[a2,a3];refine⟨_,gd _ _,?_⟩;simp[LZ hI.1,a4];refine⟨_,gd _ _,?_⟩;simp[LZ hI.2,a5];refine⟨_,gd _ _,?_⟩;simp[aei,a6,hw]
 .have hI:=h.rate _ (bS hk);rw[hb];simp[zH,hk] at ho;simp[V9,HI,hk];refine⟨_,gd _ _,?_⟩;cases e1:aD r.rates[k].fr r.currencies.length
  .simp
  simp;refine⟨_,gd _ _,?_⟩;cases e2:aD r.rates[k].to r.currencies.length
  .simp
  by_cases e3:r.rates[k].fr=r.rates[k].to
  .simp[e3]
  simp[e3];refine⟨_,gd _ _,?_⟩;rw[LZ hI.1 _ (by omega)];cases e4:wi r.rates[k].num 1 1073741824
  .simp
  simp;refine⟨_,gd _ _,?_⟩;rw[LZ hI.2 _ (by omega)];cases e5:wi r.rates[k].den 1 1073741824
  .simp
  simp;refine⟨_,gd _ _,?_⟩;rw[aei];simp[ho e1 e2 e3 e4 e5]
 .rw[hj];simp[V9,HI];by_cases h1:20<r.halts.length
  .have cB:(20:Int)<r.halts.length:=by omega
   have Rs:¬r.halts.length<=20:=by omega
   simp[h1,cB,Rs]
  have cB:¬(20:Int)<r.halts.length:=by omega
  simp[h1,cB];refine gF r.halts.length (vG r) (λk=>[.int 0,.int k]) (λ_=>[]) ?_ (λk hk ho=>?_) (λk hk ho hb=>?_) (λhj=>?_)
  .simp
  .have hw:=br hk (by omega);simp[vG,wi,hk] at ho;obtain⟨⟨a1,a2⟩,a3⟩:=ho;have b1:¬r.halts[k].fr<0:=by omega
   have b2:¬r.halts[k].to<r.halts[k].fr:=by omega
   have b3:¬100000<r.halts[k].to:=by omega
   simp[Wa,HJ,hk];refine⟨_,gd _ _,?_⟩;simp[a1,b1,b2,b3,hw]
  .rw[hb];simp[vG,wi,hk] at ho;simp[Wa,HJ,hk];refine⟨_,gd _ _,?_⟩;cases e1:aD r.halts[k].order r.orders.length
   .simp
   have:=ho e1;by_cases b1:r.halts[k].fr<0
   .simp[b1]
   by_cases b2:r.halts[k].to<r.halts[k].fr
   .simp[b1,b2]
   have b3:100000<r.halts[k].to:=this (by omega) (by omega);simp[b1,b2,b3]
  .rw[hj];simp[Wa,HJ]
def avU (r:Realm)(h:Small r):ah T 50 [aQ r] (.int (ql r)):=by
 refine zyw 138 ay8 ?_;have hu:=h.rates;have hh:=h.halts;have hc:=tP r.currencies.length (by have:=h.cur;omega);have LK:=tP r.orders.length (by have:=h.orders;omega);simp[Yj,ql];by_cases h0:100<r.rates.length
 .have gp:(100:Int)<r.rates.length:=by omega
  have yj:¬r.rates.length<=100:=by omega
  simp[h0,gp,yj]
 have gp:¬(100:Int)<r.rates.length:=by omega
 simp[h0,gp];refine gF r.rates.length (zH r) (λk=>[.int 0,.int k]) (λ_=>[]) ?_ (λk hk ho=>?_) (λk hk ho hb=>?_) (λhj=>?_)
 .simp
 .have hw:=br hk (by omega);simp[zH,hk,oG] at ho;obtain⟨⟨⟨⟨⟨a1,a2⟩,a3⟩,a4⟩,a5⟩,a6⟩:=ho;simp[VY,Hu,hk,hc];refine⟨_,cV _ _ _,?_⟩;simp[a1,hc];refine⟨_,cV _ _ _,?_⟩;simp[a2,a3];refine⟨_,cV _ _ _,?_⟩;simp[a4];refine⟨_,cV _ _ _,?_⟩;simp[a5];refine⟨_,cV _ _ _,?_⟩;simp[a6,hw]
 .rw[hb];simp[zH,hk,oG] at ho;simp[VY,Hu,hk,hc];refine⟨_,cV _ _ _,?_⟩;cases e1:wi r.rates[k].fr 0 ((r.currencies.length:Int)-1)
  .simp
  simp[hc];refine⟨_,cV _ _ _,?_⟩;cases e2:wi r.rates[k].to 0 ((r.currencies.length:Int)-1)
  .simp
  by_cases e3:r.rates[k].fr=r.rates[k].to
  .simp[e3]
  simp[e3];refine⟨_,cV _ _ _,?_⟩;cases e4:wi r.rates[k].num 1 1073741824
  .simp
  simp;refine⟨_,cV _ _ _,?_⟩;cases e5:wi r.rates[k].den 1 1073741824
  .simp
  simp;refine⟨_,cV _ _ _,?_⟩;simp[ho e1 e2 e3 e4 e5]
 .rw[hj];simp[VY,Hu];by_cases h1:20<r.halts.length
  .have cB:(20:Int)<r.halts.length:=by omega
   have Rs:¬r.halts.length<=20:=by omega
   simp[h1,cB,Rs]
  have cB:¬(20:Int)<r.halts.length:=by omega
  simp[h1,cB];refine gF r.halts.length (vG r) (λk=>[.int 0,.int k]) (λ_=>[]) ?_ (λk hk ho=>?_) (λk hk ho hb=>?_) (λhj=>?_)
  .simp
  .have hw:=br hk (by omega);simp[vG,hk,oG] at ho;obtain⟨⟨a1,a2⟩,a3⟩:=ho;have b3:¬100000<r.halts[k].to:=by omega
   simp[VZ,Hv,hk,LK];refine⟨_,cV _ _ _,?_⟩;simp[a1];refine⟨_,cV _ _ _,?_⟩;simp[a2,b3,hw]
  .rw[hb];simp[vG,hk,oG] at ho;simp[VZ,Hv,hk,LK];refine⟨_,cV _ _ _,?_⟩;cases e1:wi r.halts[k].order 0 ((r.orders.length:Int)-1)
   .simp
   simp;refine⟨_,cV _ _ _,?_⟩;cases e2:wi r.halts[k].fr 0 r.halts[k].to
   .simp
   simp[ho e1 e2]
  .rw[hj];simp[VZ,Hv]
def fh:List Int->Int
 |[]=>0
 |x::l=>if x=0 then fh l else x
def Oc:∀{l:List Int},fh l=0↔∀x,x∈l->x=0
 |[]=>by simp[fh]
 |x::l=>by
  simp only[fh,cA,forall_eq_or_imp];by_cases h:x=0
  .simp[h,Oc (l:=l)]
  .simp[h]
def oc (r:Realm)(i:Nat):Bool:=aD (r.firms.getD i default).city r.cities.length&&aD (r.firms.getD i default).group r.groups.length
def qM (r:Realm)(i:Nat):Bool:=pw r (r.cities.getD i default)
def oM (r:Realm)(i:Nat):Bool:=rJ (r.orders.getD i default)
def vE (r:Realm)(i:Nat):Bool:=aD (r.groups.getD i default).grade 10
def sM (r:Realm):Int:=if 20<r.groups.length then 6 else if eO r.groups.length (vE r) then 0 else 1
def il (r:Realm):Int:=fh [eK r.currencies 8 (λ_=>true),eK (fI r) 40 (qM r),sM r,eK (eU r) 200 (oc r),eK (eV r) 20 (oM r),w9 r,ql r]
def alB (i:Int):ah T 113 [.int i] (.bool true):=by
 refine zyw 73 azg ?_;simp[Ys]
def alC (r:Realm)(h:Small r)(i:Nat)(hi:i<r.cities.length):ah T 114 [.int i,.ref (aQ r)] (.bool (qM r i)):=by
 refine zyw 74 azh ?_;obtain⟨h1,h2,h3,h4⟩:=h.city _ (bS hi);simp[Yt,hi,qM];exact awr r r.cities[i] (by omega) (by omega) (by omega)
def alD (r:Realm)(i:Nat)(hi:i<r.firms.length):ah T 117 [.int i,.ref (aQ r)] (.bool (oc r i)):=by
 refine zyw 77 azi ?_;simp[Yu,hi,oc];refine⟨_,gd _ _,?_⟩;simp[hi];cases e1:aD r.firms[i].city r.cities.length<;>simp;exact gd _ _
def alE (r:Realm)(h:Small r)(i:Nat)(hi:i<r.orders.length):ah T 118 [.int i,.ref (aQ r)] (.bool (oM r i)):=by
 refine zyw 78 azj ?_;obtain⟨h1,h2⟩:=h.order _ (bS hi);simp[Yv,hi,oM];exact aww r.orders[i] (by omega) (by omega)
def N2 (r:Realm)(h:Small r):ah T 72 [aQ r] (.int (il r)):=by
 refine zyw 66 azk ?_;have g1:=h.cur;have g2:=h.cities;have g3:=h.firms;have g4:=h.orders;have g5:=h.groups;simp[Yr];refine⟨_,awv r (by omega) (by omega) (by omega),?_⟩;simp;refine⟨_,N3 r.currencies 8 113 [] (λ_=>true) (λi _=>alB _) (by omega),?_⟩;unfold il;generalize e1:eK r.currencies 8 (λ_=>true)=x1;by_cases z1:x1=0
 case neg=>simp[z1,fh]
 simp[z1,fh];refine⟨_,N3 (fI r) 40 114 [.ref (aQ r)] (qM r) (λi hi=>alC r h i (by simpa [fI] using hi)) (by simp[fI];omega),?_⟩;generalize e2:eK (fI r) 40 (qM r)=x2;by_cases z2:x2=0
 case neg=>simp[z2]
 simp[z2];by_cases z3:20<r.groups.length
 .have Z3:(20:Int)<r.groups.length:=by omega
  simp[Z3,sM,z3]
 have Z3:¬(20:Int)<r.groups.length:=by omega
 simp[Z3,sM,z3];refine gF r.groups.length (vE r) (λk=>[.int 0,.int k]) (λ_=>[]) ?_ (λk hk ho=>?_) (λk hk ho hb=>?_) (λhj=>?_)
 .simp
 .have hw:=br hk (by omega);simp[vE,hk] at ho;simp[V4,HA,hk];refine⟨_,gd _ _,?_⟩;simp[ho,hw]
 .simp[vE,hk] at ho;rw[hb];simp[V4,HA,hk];refine⟨_,gd _ _,?_⟩;simp[ho]
 .rw[hj];simp[V4,HA];refine⟨_,N3 (eU r) 200 117 [.ref (aQ r)] (oc r) (λi hi=>alD r i (by simpa [eU] using hi)) (by simp[eU];omega),?_⟩;generalize e4:eK (eU r) 200 (oc r)=x4;by_cases z4:x4=0
  case neg=>simp[z4]
  simp[z4];refine⟨_,N3 (eV r) 20 118 [.ref (aQ r)] (oM r) (λi hi=>alE r h i (by simpa [eV] using hi)) (by simp[eV];omega),?_⟩;generalize e5:eK (eV r) 20 (oM r)=x5;by_cases z5:x5=0
  case neg=>simp[z5]
  simp[z5];refine⟨_,awy r h,?_⟩;generalize e6:w9 r=x6;by_cases z6:x6=0
  case neg=>simp[z6]
  simp[z6];have e7:(if ql r=0 then 0 else ql r)=ql r:=by split<;>simp_all
  rw[e7];exact awx r h
def anN (l:List ByteArray)(k:Nat):kM l (λ_=>true) k=iz l k:=by
 unfold kM;by_cases h:iz l k=0<;>simp[h]
def BG {l:List ByteArray}{g:Nat->Bool}{k:Nat}(h:kM l g k=0):iz l k=0/\g k=true:=by
 unfold kM at h;by_cases h1:iz l k=0
 .simp[h1] at h;exact⟨h1,h⟩
 .simp[h1] at h
def Rf {l:List ByteArray}{g:Nat->Bool}{k:Nat}(h:kM l g k≠0):(iz l k≠0/\kM l g k=iz l k)\/(iz l k=0/\g k=false/\kM l g k=1):=by
 unfold kM at h ⊢;by_cases h1:iz l k=0
 .simp[h1] at h ⊢;simp[h]
 .simp[h1]
def avR (r:Realm)(h:Small r):ah T 46 [aQ r] (.int (fh [eK r.currencies 8 (λ_=>true),eK (fI r) 40 (qM r)])):=by
 refine zyw 126 ay4 ?_;have g1:=h.cur;have g2:=h.cities;have g4:=h.orders;simp[Yf];unfold eK;by_cases z1:(8:Int)<r.currencies.length
 .simp[z1,fh]
 simp[z1,fh];refine qo r.currencies.length (kM r.currencies (λ_=>true)) (λk=>[.int 0,.int k]) (λ_=>[]) ?_ (λk hk ho=>?_) (λk hk ho hb=>?_) (λhj=>?_)
 .simp
 .have hw:=br hk (by omega);simp[VT,Hp,hk];refine⟨_,G2 _ k hk (by omega),?_⟩;simp[(BG ho).1,hw]
 .rw[hb];simp[VT,Hp,hk,ho];rw[anN];exact G2 _ k hk (by omega)
 .rw[hj];simp[VT,Hp];have hlen:(fI r).length=r.cities.length:=by simp[fI]
  rw[hlen];by_cases z2:(40:Int)<r.cities.length
  .simp[z2]
  simp[z2];have key:∀k (hk:k<r.cities.length),((fI r).take k).length=k/\D.list (List.take k (List.map str (fI r))++[str r.cities[k].name])=strs ((fI r).take (k+1))/\
     ah T 83 [strs ((fI r).take (k+1)),.int k] (.int (iz (fI r) k))/\ah T 84 [aQ r,gP r.cities[k]] (.bool (qM r k)):=by
   intro k hk;have bf:k<(fI r).length:=by omega
   have hg:(fI r)[k]=r.cities[k].name:=by simp[fI]
   have hs:(fI r).take (k+1)=(fI r).take k++[(fI r)[k]]:=iP bf;have hn:=G2 ((fI r).take (k+1)) k (by rw[dL];omega) (by rw[dL];omega);rw[TL _ _ _ (by omega)] at hn;obtain⟨c1,c2,c3,c4⟩:=h.city _ (bS hk);have hc:=avP r r.cities[k] (by omega) (by omega) (by omega) (by omega) (by omega) c4;rw[alL] at hc;exact⟨by rw[dL];omega,by rw[hs,hg];simp[strs],hn,by simpa [qM,hk] using hc⟩
  refine qo r.cities.length (kM (fI r) (qM r)) (λk=>[.int 0,.none,.int k]) (λk=>[strs ((fI r).take k)]) ?_ (λk hk ho=>?_) (λk hk ho hb=>?_) (λhj=>?_)
  .simp[strs]
  .have hw:=br hk (by omega);obtain⟨hl,ef,hn,hc⟩:=key k hk;obtain⟨o1,o2⟩:=BG ho;rw[o1] at hn;rw[o2] at hc;simp[VU,Hq,hk,hl,ef,axr];refine⟨by omega,_,hn,?_⟩;simp[hk];refine⟨_,hc,?_⟩;simp[hw]
  .rw[hb];obtain⟨hl,ef,hn,hc⟩:=key k hk;simp[VU,Hq,hk,hl,ef,ho];refine⟨by omega,_,hn,?_⟩;rcases Rf ho with⟨o1,o2⟩|⟨o1,o2,o3⟩
   .simp[o1,o2]
   .rw[o2] at hc;simp[o1,o3,hk];refine⟨_,hc,?_⟩;simp
  .rw[hj];simp[VU,Hq]
def avS (r:Realm)(h:Small r):ah T 47 [aQ r] (.int (fh [sM r,eK (eU r) 200 (oc r)])):=by
 refine zyw 134 ay5 ?_;have g1:=h.groups;have g2:=h.firms;have g3:=h.cities;have w3:=tP r.cities.length (by omega);have w1:=tP r.groups.length (by omega);simp[Yg];by_cases z1:20<r.groups.length
 .have Z2:(20:Int)<r.groups.length:=by omega
  simp[Z2,sM,z1,fh]
 have Z2:¬(20:Int)<r.groups.length:=by omega
 simp[Z2,sM,z1,fh];refine gF r.groups.length (vE r) (λk=>[.int 0,.int k]) (λ_=>[]) ?_ (λk hk ho=>?_) (λk hk ho hb=>?_) (λhj=>?_)
 .simp
 .have hw:=br hk (by omega);simp[vE,hk] at ho;have e:wi r.groups[k].grade 0 9=aD r.groups[k].grade 10:=by rw[tR];simp[wi,aD];omega
  simp[VV,Hr,hk];refine⟨_,cV _ _ _,?_⟩;simp[e,ho,hw]
 .simp[vE,hk] at ho;have e:wi r.groups[k].grade 0 9=aD r.groups[k].grade 10:=by rw[tR];simp[wi,aD];omega
  rw[hb];simp[VV,Hr,hk];refine⟨_,cV _ _ _,?_⟩;simp[e,ho]
 .rw[hj];simp[VV,Hr];unfold eK;have hlen:(eU r).length=r.firms.length:=by simp[eU]
  rw[hlen];by_cases z2:(200:Int)<r.firms.length
  .simp[z2]
  simp[z2];have key:∀k (hk:k<r.firms.length),((eU r).take k).length=k/\D.list (List.take k (List.map str (eU r))++[str r.firms[k].name])=strs ((eU r).take (k+1))/\
     ah T 83 [strs ((eU r).take (k+1)),.int k] (.int (iz (eU r) k))/\oc r k=(wi r.firms[k].city 0 ((r.cities.length:Int)-1)&&wi r.firms[k].group 0 ((r.groups.length:Int)-1)):=by
   intro k hk;have bf:k<(eU r).length:=by omega
   have hg:(eU r)[k]=r.firms[k].name:=by simp[eU]
   have hs:(eU r).take (k+1)=(eU r).take k++[(eU r)[k]]:=iP bf;have hn:=G2 ((eU r).take (k+1)) k (by rw[dL];omega) (by rw[dL];omega);rw[TL _ _ _ (by omega)] at hn;exact⟨by rw[dL];omega,by rw[hs,hg];simp[strs],hn,by simp[oc,hk,oG]⟩
  refine qo r.firms.length (kM (eU r) (oc r)) (λk=>[.int 0,.none,.int k]) (λk=>[strs ((eU r).take k)]) ?_ (λk hk ho=>?_) (λk hk ho hb=>?_) (λhj=>?_)
  .simp[strs]
  .have hw:=br hk (by omega);obtain⟨hl,ef,hn,hc⟩:=key k hk;obtain⟨o1,o2⟩:=BG ho;rw[o1] at hn;rw[o2] at hc;have hc':=Bool.and_eq_true_iff.1 hc.symm;simp[VW,Hs,hk,hl,ef];refine⟨by omega,_,hn,?_⟩;simp[hk,w3];refine⟨_,cV _ _ _,?_⟩;simp[hc'.1,hk,w1];refine⟨_,cV _ _ _,?_⟩;simp[hc'.2,hw]
  .rw[hb];obtain⟨hl,ef,hn,hc⟩:=key k hk;simp[VW,Hs,hk,hl,ef,ho];refine⟨by omega,_,hn,?_⟩;rcases Rf ho with⟨o1,o2⟩|⟨o1,o2,o3⟩
   .simp[o1,o2]
   .rw[o2] at hc;simp[o1,o3,hk,w3];refine⟨_,cV _ _ _,?_⟩;cases e1:wi r.firms[k].city 0 ((r.cities.length:Int)-1)
    .simp
    rw[e1,Aa] at hc;simp[hk,w1];refine⟨_,cV _ _ _,?_⟩;simp[<-hc]
  .rw[hj];simp[VW,Hs]
def avT (r:Realm)(h:Small r):ah T 48 [aQ r] (.int (eK (eV r) 20 (oM r))):=by
 refine zyw 135 ay7 ?_;have g2:=h.orders;simp[Yi];unfold eK;have hlen:(eV r).length=r.orders.length:=by simp[eV]
 rw[hlen];by_cases z2:(20:Int)<r.orders.length
 .simp[z2]
 simp[z2];have key:∀k (hk:k<r.orders.length),((eV r).take k).length=k/\D.list (List.take k (List.map str (eV r))++[str r.orders[k].name])=strs ((eV r).take (k+1))/\
  ah T 83 [strs ((eV r).take (k+1)),.int k] (.int (iz (eV r) k))/\ah T 86 [kh r.orders[k]] (.bool (oM r k)):=by
  intro k hk;have bf:k<(eV r).length:=by omega
  have hg:(eV r)[k]=r.orders[k].name:=by simp[eV]
  have hs:(eV r).take (k+1)=(eV r).take k++[(eV r)[k]]:=iP bf;have hn:=G2 ((eV r).take (k+1)) k (by rw[dL];omega) (by rw[dL];omega);rw[TL _ _ _ (by omega)] at hn;obtain⟨c1,c2⟩:=h.order _ (bS hk);exact⟨by rw[dL];omega,by rw[hs,hg];simp[strs],hn,by simpa [oM,hk] using avQ r.orders[k] (by omega) (by omega)⟩
 refine qo r.orders.length (kM (eV r) (oM r)) (λk=>[.int 0,.none,.int k]) (λk=>[strs ((eV r).take k)]) ?_ (λk hk ho=>?_) (λk hk ho hb=>?_) (λhj=>?_)
 .simp[strs]
 .have hw:=br hk (by omega);obtain⟨hl,ef,hn,hc⟩:=key k hk;obtain⟨o1,o2⟩:=BG ho;rw[o1] at hn;rw[o2] at hc;simp[VX,Ht,hk,hl,ef];refine⟨by omega,_,hn,?_⟩;simp[hk];refine⟨_,hc,?_⟩;simp[hw]
 .rw[hb];obtain⟨hl,ef,hn,hc⟩:=key k hk;simp[VX,Ht,hk,hl,ef,ho];refine⟨by omega,_,hn,?_⟩;rcases Rf ho with⟨o1,o2⟩|⟨o1,o2,o3⟩
  .simp[o1,o2]
  .rw[o2] at hc;simp[o1,o3,hk];refine⟨_,hc,?_⟩;simp
 .rw[hj];simp[VX,Ht]
def avM (r:Realm)(h:Small r):ah T 23 [aQ r] (.int (il r)):=by
 refine zyw 125 ayW ?_
 have e:il r=fh [fh [eK r.currencies 8 (λ_=>true),eK (fI r) 40 (qM r)],fh [sM r,eK (eU r) 200 (oc r)],eK (eV r) 20 (oM r),w9 r,ql r]:=by
  unfold il;simp only[fh];split<;>(try split)<;>(try split)<;>(try split)<;>simp_all
 rw[e];simp[X7];refine⟨_,avR r h,?_⟩;have h1:=avS r h;generalize fh [eK r.currencies 8 (λ_=>true),eK (fI r) 40 (qM r)]=x1 at*;generalize fh [sM r,eK (eU r) 200 (oc r)]=x2 at*;have h2:=avT r h;generalize eK (eV r) 20 (oM r)=x3 at*;have h3:=avV r h;generalize w9 r=x4 at*;have h4:=avU r h;generalize ql r=x5 at*;by_cases z1:x1=0
 case neg=>simp[z1,fh]
 simp[z1,fh];refine⟨_,h1,?_⟩;by_cases z2:x2=0
 case neg=>simp[z2]
 simp[z2];refine⟨_,h2,?_⟩;by_cases z3:x3=0
 case neg=>simp[z3]
 simp[z3];refine⟨_,h3,?_⟩;by_cases z4:x4=0
 case neg=>simp[z4]
 simp[z4];have e7:(if x5=0 then 0 else x5)=x5:=by split<;>simp_all
 rw[e7];exact h4
def kB:Nat->Tm->Int->Int
 |0,_,_=>-1
 |L+1,t,n=>t.args.foldl (λm a=>if 0<=m then kB L a m else m) (n-1)
def size_le:∀(L:Nat) (t:Tm) (n:Int),0<=n->-1<=kB L t n/\kB L t n<=n
 |0,t,n,h=>by simp[kB];omega
 |L+1,t,n,h=>by
  have key:∀(l:List Tm) (m:Int),-1<=m->m<=n->-1<=l.foldl (λm a=>if 0<=m then kB L a m else m) m/\l.foldl (λm a=>if 0<=m then kB L a m else m) m<=n:=by
   intro l
   induction l with
   |nil=>intro m h1 h2;exact⟨h1,h2⟩
   |cons a l ih=>
    intro m h1 h2;simp only[xw];split
    .rename_i hm;have:=size_le L a m hm;exact ih _ this.1 (by omega)
    .exact ih _ h1 h2
  exact key _ _ (by omega) (by omega)
def ajf (L:Nat):∀(l:List Tm) (m:Int),m<0->l.foldl (λm a=>if 0<=m then kB L a m else m) m=m
 |[],m,h=>rfl
 |a::l,m,h=>by simp only[xw];rw[if_neg (by omega)];exact ajf L l m h
def aoW {α β:Type}(f:β->α->β)(b:β){l:List α}{k:Nat}(h:k<l.length):(l.take (k+1)).foldl f b=f ((l.take k).foldl f b) l[k]:=by
 rw[iP h,tV];rfl
def aoV {α β:Type}(f:β->α->β)(b:β)(l:List α)(k:Nat):l.foldl f b=(l.drop k).foldl f ((l.take k).foldl f b):=by
 rw[<-tV,IT]
def _root_.Cx.Tm.OK.len {t:Tm}(h:t.OK):t.args.length<=9223372036854775807:=by cases h with|mk o n xs h1 h2 h3 h4=>exact h3
def _root_.Cx.Tm.OK.arg {t:Tm}(h:t.OK){a:Tm}(ha:a∈t.args):a.OK:=by cases h with|mk o n xs h1 h2 h3 h4=>exact h4 a ha
def aid:∀(L:Nat) (t:Tm) (n:Int),t.OK->0<=n->n<=1000->L<=1000->ah T 127 [dN t,.int n,.int L] (.int (kB L t n))
 |0,t,n,ht,h0,h1,hL=>by
  refine .of_tree rfl aaX ajy ?_;simp[OL,kB]
 |L+1,t,n,ht,h0,h1,hL=>by
  refine .of_tree rfl aaX ajy ?_;have jx:i64.wrap (n-1)=n-1:=aO (by omega);have hl:=ht.len;have kO:¬((L:Int)+1<1):=by omega
  simp[OL,jx,kO]
  let g:Nat->Int:=λk=>(t.args.take k).foldl (λm a=>if 0<=m then kB L a m else m) (n-1)
  have gb:∀k,-1<=g k/\g k<=1000:=by
   intro k;have:g k=kB (L+1) (.mk 0 0 (t.args.take k)) n:=rfl;have:=size_le (L+1) (.mk 0 0 (t.args.take k)) n h0;omega
  refine .scan t.args.length (λk=>0<=g k) (λk=>[.int (g k),.int k]) (λ_=>[]) ?_ (λk hk hj ho=>?_) (λk hk hj ho=>?_) (λhj=>?_)
  .simp[g,jx]
  .have hw:i64.wrap ((k:Int)+1)=(k:Int)+1:=aO (by omega);have LV:i64.wrap (L:Int)=(L:Int):=aO (by omega);have hg:g (k+1)=kB L t.args[k] (g k):=by
    show(t.args.take (k+1)).foldl _ _=_;rw[aoW _ _ hk];show(if 0<=g k then _ else _)=_;rw[if_pos ho]
   rw[hg];have jw:=aid L t.args[k] (g k) (ht.arg (bS hk)) ho (gb k).2 (by omega);generalize g k=m at*;simp[V1,Hx,hk,ho,LV];refine⟨_,jw,?_⟩;simp[hw]
  .have hf:kB (L+1) t n=g k:=by
    show t.args.foldl _ _=_;rw[aoV _ _ _ k];exact ajf L _ _ (by show g k<0;omega)
   rw[hf];generalize g k=m at*;simp[V1,Hx,hk,ho]
  .have hf:kB (L+1) t n=g t.args.length:=by
    show t.args.foldl _ _=(t.args.take t.args.length).foldl _ _;rw[DP]
   rw[hf];generalize g t.args.length=m at*;simp[V1,Hx]
def aic (t:Tm)(ht:t.OK):ah T 82 [dN t] (.bool (decide (0<=kB 20 t 100))):=by
 refine zyw 123 azb ?_;simp[Ym];refine⟨_,aid 20 t 100 ht (by omega) (by omega) (by omega),?_⟩;simp
def sK (o:Order):Bool:=(decide (o.rules.length<=60)&&decide (o.choices.length<=60))&&eO o.rules.length (λk=>decide (0<=kB 20 (o.rules.getD k default).term 100))
def aie (o:Order)(ho:o.OK):ah T 45 [kh o] (.bool (sK o)):=by
 refine zyw 122 azd ?_;simp[Yo];by_cases h1:(o.rules.length:Int)<=60
 case neg=>
  have cB:(60:Int)<o.rules.length:=by omega
  have hf:sK o=false:=by
   have:decide (o.rules.length<=60)=false:=decide_eq_false (by omega);simp only[sK,this,sm]
  simp[cB,hf]
 by_cases h2:(o.choices.length:Int)<=60
 case neg=>
  have cB:(60:Int)<o.choices.length:=by omega
  have hf:sK o=false:=by
   have:decide (o.choices.length<=60)=false:=decide_eq_false (by omega);simp only[sK,this,sm,z8]
  simp[cB,hf]
 have cB:¬(60:Int)<o.rules.length:=by omega
 have fa:¬(60:Int)<o.choices.length:=by omega
 have hf:sK o=eO o.rules.length (λk=>decide (0<=kB 20 (o.rules.getD k default).term 100)):=by
  have e1:decide (o.rules.length<=60)=true:=decide_eq_true (by omega);have e2:decide (o.choices.length<=60)=true:=decide_eq_true (by omega);simp only[sK,e1,e2,Aa]
 rw[hf];simp[cB,fa];have hO:=ho.2.2;refine gF o.rules.length (λk=>decide (0<=kB 20 (o.rules.getD k default).term 100)) (λk=>[.bool false,.int k]) (λ_=>[]) ?_ (λk hk ho=>?_) (λk hk ho hb=>?_) (λhj=>?_)
 .simp
 .have hw:=br hk (by omega);simp[hk] at ho;simp[V2,Hy,hk];refine⟨_,aic _ (hO _ (bS hk)).2,?_⟩;simp[ho,hw]
 .simp only[aE] at hb;rw[hb];simp[hk] at ho;simp[V2,Hy,hk];refine⟨_,aic _ (hO _ (bS hk)).2,?_⟩;simp[ho]
 .simp only[aE] at hj;rw[hj];simp[V2,Hy]
def E0 (f:File):Bool:=decide ((f.signs.length:Int)<=50)&&decide ((f.alters.length:Int)<=10)&&decide ((f.acts.length:Int)<=110)&&decide ((f.facts.length:Int)<=220)
def av1 (f:File):ah T 44 [cu f] (.bool (E0 f)):=by
 refine zyw 121 aza ?_;simp[Yl,E0];by_cases h1:(f.signs.length:Int)<=50<;>by_cases h2:(f.alters.length:Int)<=10<;>by_cases h3:(f.acts.length:Int)<=110<;>by_cases h4:(f.facts.length:Int)<=220<;>
  simp[h1,h2,h3,h4]
def EY (r:Realm)(k:Nat):Bool:=decide (((r.cities.getD k default).feasts.length:Int)<=70)&&decide (((r.cities.getD k default).shut.length:Int)<=210)&&decide (((r.cities.getD k default).rest.length:Int)<=8)
def EZ (r:Realm)(k:Nat):Bool:=decide (((r.orders.getD k default).choices.length:Int)<=40)&&decide (((r.orders.getD k default).rules.length:Int)<=40)
def KR (r:Realm):Bool:=decide ((r.currencies.length:Int)<50)&&decide ((r.cities.length:Int)<50)&&decide ((r.groups.length:Int)<50)&&decide ((r.firms.length:Int)<210)&&decide ((r.orders.length:Int)<50)&&decide ((r.usances.length:Int)<110)&&decide ((r.rates.length:Int)<110)&&decide ((r.halts.length:Int)<50)
def q9 (r:Realm):Bool:=eO (min r.cities.length 50) (EY r)&&eO (min r.orders.length 50) (EZ r)&&KR r
def avN (r:Realm)(hr:r.OK):ah T 43 [aQ r] (.bool (q9 r)):=by
 refine zyw 120 ayX ?_;simp[X8];refine gF (min r.cities.length 50) (EY r) (λk=>[.bool false,.int k]) (λ_=>[]) ?_ (λk hk ho=>?_) (λk hk ho hb=>?_) (λhj=>?_)
 .simp
 .have bC:k<r.cities.length:=by omega
  have cE:k<50:=by omega
  have hw:=br cE (by omega);simp[EY,bC] at ho;obtain⟨⟨a1,a2⟩,a3⟩:=ho;have b1:¬(70:Int)<r.cities[k].feasts.length:=by omega
  have b2:¬(210:Int)<r.cities[k].shut.length:=by omega
  have b3:¬(8:Int)<r.cities[k].rest.length:=by omega
  simp[Hj,zI,bC,cE,hw,b1,b2,b3];omega
 .have bC:k<r.cities.length:=by omega
  have cE:k<50:=by omega
  have hf:q9 r=false:=by simp only[q9,hb,sm]
  rw[hf];simp[EY,bC] at ho;by_cases b1:(70:Int)<r.cities[k].feasts.length
  .simp[Hj,zI,bC,cE,b1];omega
  by_cases b2:(210:Int)<r.cities[k].shut.length
  .simp[Hj,zI,bC,cE,b1,b2];omega
  have b3:(8:Int)<r.cities[k].rest.length:=by have:=ho (by omega) (by omega);omega
  simp[Hj,zI,bC,cE,b1,b2,b3];omega
 .have hn:¬((min r.cities.length 50:Nat):Int)<r.cities.length\/¬((min r.cities.length 50:Nat):Int)<50:=by omega
  simp[Hj,zI];rw[if_neg (by omega)];refine gF (min r.orders.length 50) (EZ r) (λk=>[.bool false,.int k]) (λ_=>[]) ?_ (λk hk ho=>?_) (λk hk ho hb=>?_) (λyA=>?_)
  .simp
  .have bC:k<r.orders.length:=by omega
   have cE:k<50:=by omega
   have hw:=br cE (by omega);simp[EZ,bC] at ho;obtain⟨a1,a2⟩:=ho;have b1:¬(40:Int)<r.orders[k].choices.length:=by omega
   have b2:¬(40:Int)<r.orders[k].rules.length:=by omega
   simp[NO,C6,bC,cE,hw,b1,b2];omega
  .have bC:k<r.orders.length:=by omega
   have cE:k<50:=by omega
   have hf:q9 r=false:=by simp only[q9,hb,sm,z8]
   rw[hf];simp[EZ,bC] at ho;by_cases b1:(40:Int)<r.orders[k].choices.length
   .simp[NO,C6,bC,cE,b1];omega
   have b2:(40:Int)<r.orders[k].rules.length:=by have:=ho (by omega);omega
   simp[NO,C6,bC,cE,b1,b2];omega
  .have hf:q9 r=KR r:=by simp only[q9,hj,yA,Aa]
   rw[hf];simp[NO,C6];rw[if_neg (by omega)];unfold KR;by_cases c1:(r.currencies.length:Int)<50<;>simp[c1];by_cases c2:(r.cities.length:Int)<50<;>simp[c2];by_cases c3:(r.groups.length:Int)<50<;>simp[c3];by_cases c4:(r.firms.length:Int)<210<;>simp[c4];by_cases c5:(r.orders.length:Int)<50<;>simp[c5];by_cases c6:(r.usances.length:Int)<110<;>simp[c6];by_cases c7:(r.rates.length:Int)<110<;>simp[c7]
def Q7 {r:Realm}(hr:r.OK)(h:q9 r=true):Small r:=by
 simp only[q9,KR,ao,decide_eq_true_eq,xJ] at h;obtain⟨⟨h1,h2⟩,⟨⟨⟨⟨⟨⟨⟨c1,c2⟩,c3⟩,c4⟩,c5⟩,c6⟩,c7⟩,c8⟩⟩:=h;obtain⟨k1,⟨k2,k2'⟩,⟨k3,k3'⟩,⟨k4,k4'⟩,⟨k5,k5'⟩,⟨k6,k6'⟩,⟨k7,k7'⟩,⟨k8,k8'⟩⟩:=hr;refine⟨by omega,by omega,by omega,by omega,by omega,by omega,by omega,by omega,λc hc=>?_,λo ho=>?_,λx hx=>?_⟩
 .obtain⟨k,hk,rfl⟩:=fm hc;have:=h1 k (by omega);simp[EY,hk] at this;have:=k2' _ hc;exact⟨by omega,by omega,by omega,λy hy=>this.2.2.2.1.2 y hy⟩
 .obtain⟨k,hk,rfl⟩:=fm ho;have:=h2 k (by omega);simp[EZ,hk] at this;omega
 .have:=k7' x hx;exact⟨this.2.2.1,this.2.2.2.1⟩
def uu (r:Realm)(f:File):Bool:=(q9 r&&E0 f)&&eO r.orders.length (λk=>sK (r.orders.getD k default))
def aif (r:Realm)(f:File)(hr:r.OK):ah T 22 [aQ r,cu f] (.bool (uu r f)):=by
 refine zyw 119 aze ?_;simp[Yp];refine⟨_,avN r hr,?_⟩;cases e1:q9 r
 .simp[uu,e1]
 simp;refine⟨_,av1 f,?_⟩;cases e2:E0 f
 .simp[uu,e1,e2]
 have hs:=Q7 hr e1;have ho:=hs.orders;have hf:uu r f=eO r.orders.length (λk=>sK (r.orders.getD k default)):=by simp only[uu,e1,e2,Aa]
 rw[hf];simp;have hO:=hr.2.2.2.2.1.2;refine gF r.orders.length (λk=>sK (r.orders.getD k default)) (λk=>[.bool false,.int k]) (λ_=>[]) ?_ (λk hk ho=>?_) (λk hk ho hb=>?_) (λhj=>?_)
 .simp
 .have hw:=br hk (by omega);simp[hk] at ho;simp[V3,Hz,hk];refine⟨_,aie _ (hO _ (bS hk)),?_⟩;simp[ho,hw]
 .simp only[aE] at hb;rw[hb];simp[hk] at ho;simp[V3,Hz,hk];refine⟨_,aie _ (hO _ (bS hk)),?_⟩;simp[ho]
 .simp only[aE] at hj;rw[hj];simp[V3,Hz]
def Fb (r:Realm)(f:File):Bool:=uu r f&&decide (il r=0)
def qP (n:Int):Int:=min (max n (-1099511627776)) 1099511627776
def OA (n:Int):ah T 212 [.int n] (.int (qP n)):=by
 refine zyw 48 az1 ?_;simp[Zn,qP];by_cases h1:-1099511627776>n
 .have:¬(1099511627776:Int)< -1099511627776:=by omega
  simp[h1];omega
 .by_cases h2:(1099511627776:Int)<n
  .simp[h1,h2];omega
  .simp[h1,h2];omega
def nw (v:Int):Int×Bool:=if v<0\/19<v then(0,false) else if v<7 then(0,true) else(1,true)
def ajq (v:Int):ah T 210 [.int v] (.tup [.int (nw v).1,.bool (nw v).2]):=by
 refine zyw 49 azX ?_;simp[Zj,nw];by_cases h1:v<0
 .simp[h1]
 by_cases h2:19<v
 .simp[h1,h2]
 by_cases h3:v<7
 .simp[h1,h2,h3]
 .simp[h1,h2,h3]
def Gs (t:Tm):Int×Int:=
 if 0<t.args.length then(0,2) else if t.op=0 then(if qP t.n≠t.n then(0,3) else(0,0)) else if t.op=1 then(if t.n<0\/1<t.n then(0,3) else(1,0)) else if(nw t.n).2=false then(0,10) else((nw t.n).1,0)
def axC (t:Tm):ah T 208 [dN t] (.tup [.int (Gs t).1,.int (Gs t).2]):=by
 refine zyw 47 az2 ?_;simp[Zo,Gs];by_cases h0:0<t.args.length
 .have gp:(0:Int)<t.args.length:=by omega
  simp[h0,gp]
 simp[h0];by_cases h1:t.op=0
 .simp[h1];refine⟨_,OA _,?_⟩;by_cases h2:qP t.n=t.n<;>simp[h2]
 by_cases h2:t.op=1
 .simp[h1,h2];by_cases h3:t.n<0<;>by_cases h4:1<t.n<;>simp[h3,h4]
 simp[h1,h2];refine⟨_,ajq _,?_⟩;cases h3:(nw t.n).2<;>simp[h3]
def fi (op:Int):List Int×Int:=
 if op=3 then([1],1) else if op=4\/op=5 then([1,1],1) else if op=6 then([1,-1,-1],-1) else if op=7 then([0,0],1) else if op=8 then([-1,-1],1) else([0,0],0)
def EW (s:List Int×Int):D:=.agg [ints s.1,.int s.2]
@[simp] def aCJ (s:List Int×Int):(EW s).cells=[ints s.1,.int s.2]:=zyz
@[simp] def aCH (s:List Int×Int):(EW s).c 0=ints s.1:=zyz
@[simp] def aCI (s:List Int×Int):(EW s).c 1=.int s.2:=zyz
@[simp] def aG4 (s:List Int×Int):D.agg [ints s.1,.int s.2]=EW s:=zyz
@[simp] def aH3 (x y:Int):wW (.int x) 0 (.int y)=.int y:=zyz
def axE (op:Int):ah T 209 [.int op] (EW (fi op)):=by
 refine zyw 50 az6 ?_;simp[Zr,fi];by_cases h3:op=3
 .simp[h3];rfl
 by_cases h4:op=4
 .simp[h4];rfl
 by_cases h5:op=5
 .simp[h5];rfl
 by_cases h6:op=6
 .simp[h6];rfl
 by_cases h7:op=7
 .simp[h7];rfl
 by_cases h8:op=8
 .simp[h8];rfl
 simp[h3,h4,h5,h6,h7,h8];rfl
def fZ (f:Tm->Int):List Tm->Int->Int
 |[],n=>n
 |a::l,n=>if 60<n+f a then n+f a else fZ f l (n+f a)
def cU:Nat->Tm->Int
 |0,_=>61
 |L+1,t=>fZ (cU L) t.args 1
def dV (f:Tm->Int)(l:List Tm):Int:=(l.map f).sum
def Ml {f:Tm->Int}{l:List Tm}{k:Nat}(h:k<l.length):dV f (l.take (k+1))=dV f (l.take k)+f l[k]:=by
 unfold dV;rw[Ds f h,List.sum_append];simp
def afe {f:Tm->Int}:∀{l:List Tm} {n:Int} {k:Nat},(hk:k<l.length)->(∀j,j<k->n+dV f (l.take (j+1))<=60)->60<n+dV f (l.take (k+1))->fZ f l n=n+dV f (l.take (k+1))
 |a::l,n,0,hk,_,h=>by
  simp[dV] at h ⊢;unfold fZ;rw[if_pos (by omega)]
 |a::l,n,k+1,hk,hj,h=>by
  have h0:=hj 0 (by omega);simp[dV] at h0;unfold fZ;rw[if_neg (by omega)];have e:∀j,n+dV f ((a::l).take (j+1+1))=n+f a+dV f (l.take (j+1)):=by intro j;simp[dV];omega
  rw[afe (l:=l) (k:=k) (by simpa using hk) (λj mP=>by have:=hj (j+1) (by omega);rw[e] at this;exact this) (by rw[<-e];exact h),e]
def afg {f:Tm->Int}:∀{l:List Tm} {n:Int},(∀j,j<l.length->n+dV f (l.take (j+1))<=60)->fZ f l n=n+dV f l
 |[],n,_=>by simp[fZ,dV]
 |a::l,n,hj=>by
  have h0:=hj 0 (by simp);simp[dV] at h0;unfold fZ;rw[if_neg (by omega)];have e:∀j,n+dV f ((a::l).take (j+1+1))=n+f a+dV f (l.take (j+1)):=by intro j;simp[dV];omega
  rw[afg (l:=l) (λj gS=>by have:=hj (j+1) (by simpa using gS);rw[e] at this;exact this)];simp[dV];omega
def aff {f:Tm->Int}(hf:∀a,1<=f a):∀{l:List Tm} {n:Int},n<=fZ f l n
 |[],n=>by simp[fZ]
 |a::l,n=>by
  unfold fZ;have:=hf a;split
  .omega
  .have:=aff hf (l:=l) (n:=n+f a);omega
def zd:∀(L:Nat) (t:Tm),1<=cU L t
 |0,t=>by simp[cU]
 |L+1,t=>aff (zd L)
def afh {f:Tm->Int}{B:Int}(hf:∀a,f a<=B)(hB:0<=B):∀{l:List Tm} {n:Int},n<=60->fZ f l n<=60+B
 |[],n,h=>by simp[fZ];omega
 |a::l,n,h=>by
  unfold fZ;have:=hf a;split
  .omega
  .exact afh hf hB (by omega)
def afj:∀(L:Nat) (t:Tm),cU L t<=61+60*L
 |0,t=>by simp[cU]
 |L+1,t=>by
  have:=afh (f:=cU L) (λa=>afj L a) (by omega) (l:=t.args) (n:=1) (by omega);show fZ _ _ _<=_;omega
def afi {f:Tm->Int}(hf:∀a,1<=f a):∀{l:List Tm} {n:Int},fZ f l n<=60->(n:Int)+l.length<=60/\∀a,a∈l->f a<=60-n
 |[],n,h=>by simp[fZ] at h ⊢;exact h
 |a::l,n,h=>by
  unfold fZ at h;have:=hf a;split at h
  .omega
  .obtain⟨h1,h2⟩:=afi hf h;refine⟨by simp;omega,λb hb=>?_⟩;rcases cA.1 hb with rfl|hb
   .omega
   .have:=h2 b hb;omega
def TG {L:Nat}{t:Tm}(h:cU (L+1) t<=60):t.args.length<=59/\∀a,a∈t.args->cU L a<=60:=by
 obtain⟨h1,h2⟩:=afi (zd L) h;exact⟨by omega,λa ha=>by have:=h2 a ha;omega⟩
def W4:∀(L:Nat) (t:Tm) (lv:Int),t.OK->L<=8->lv=9-(L:Int)->ah T 199 [dN t,.int lv] (.int (cU L t))
 |0,t,lv,ht,hL,R7=>by
  refine .of_tree rfl aaZ ajA ?_;subst R7;simp[OO,cU]
 |L+1,t,lv,ht,hL,R7=>by
  refine .of_tree rfl aaZ ajA ?_;have hl:=ht.len;have h8:¬(8<lv):=by omega
  have LV:i64.wrap (lv+1)=lv+1:=aO (by omega);simp[OO,h8];refine .scan t.args.length (λk=>1+dV (cU L) (t.args.take (k+1))<=60) (λk=>[.int (1+dV (cU L) (t.args.take k)),.int k]) (λ_=>[]) ?_ (λk hk hj ho=>?_) (λk hk hj ho=>?_) (λhj=>?_)
  .simp[dV]
  all_goals try rw[Ml hk] at ho
  .have hw:i64.wrap ((k:Int)+1)=(k:Int)+1:=aO (by omega);have jw:=W4 L t.args[k] (lv+1) (ht.arg (bS hk)) (by omega) (by omega);rw[Ml hk];have hs:0<=dV (cU L) (t.args.take k):=by
    unfold dV;have:∀(l:List Tm),0<=(l.map (cU L)).sum:=by
     intro l
     induction l with
     |nil=>simp
     |cons a l ih=>have:=zd L a;simp;omega
    exact this _
   have gq:=zd L t.args[k];generalize dV (cU L) (t.args.take k)=m at*;generalize cU L t.args[k]=v at*;have uN:i64.wrap (1+m+v)=1+m+v:=aO (by omega);have iX:¬60<1+m+v:=by omega
   simp[Wt,H4,hk,LV];refine⟨_,jw,?_⟩;simp[uN,iX,hw];omega
  .have jw:=W4 L t.args[k] (lv+1) (ht.arg (bS hk)) (by omega) (by omega);have hf:cU (L+1) t=1+dV (cU L) (t.args.take (k+1)):=afe hk hj (by rw[Ml hk];omega);rw[hf,Ml hk];have hs:0<=dV (cU L) (t.args.take k)/\1+dV (cU L) (t.args.take k)<=60:=by
    constructor
    .unfold dV;have:∀(l:List Tm),0<=(l.map (cU L)).sum:=by
       intro l
       induction l with
       |nil=>simp
       |cons a l ih=>have:=zd L a;simp;omega
     exact this _
    .cases k with
     |zero=>simp[dV]
     |succ k=>exact hj k (by omega)
   have gq:=zd L t.args[k];have db:=afj L t.args[k];generalize dV (cU L) (t.args.take k)=m at*;generalize cU L t.args[k]=v at*;have uN:i64.wrap (1+m+v)=1+m+v:=aO (by omega);have iX:60<1+m+v:=by omega
   simp[Wt,H4,hk,LV];refine⟨_,jw,?_⟩;simp[uN,iX];omega
  .have hf:cU (L+1) t=1+dV (cU L) t.args:=afg hj;rw[hf];simp[Wt,H4]
def oI (ws ts:List Int):Nat->Int
 |0=>-1
 |k+1=>if ws.getD k 0=-1/\oI ws ts k=-1 then ts.getD k 0 else oI ws ts k
def pV (ws ts:List Int)(k:Nat):Bool:=if ws.getD k 0=-1 then decide (oI ws ts k=-1)||decide (ts.getD k 0=oI ws ts k) else decide (ts.getD k 0=ws.getD k 0)
def zf (t:Tm)(ks:List Int):Int×Int:=
 if t.op<0\/13<t.op then(0,1) else if t.op=0\/t.op=1\/t.op=2 then Gs t else
 if ks.length≠(fi t.op).1.length\/t.n≠0 then(0,2) else
 if eO (fi t.op).1.length (pV (fi t.op).1 ks)=false then(0,11) else if(fi t.op).2=-1 then(oI (fi t.op).1 ks (fi t.op).1.length,0) else((fi t.op).2,0)
def cG:Nat->Tm->Int×Int
 |0,_=>(0,0)
 |L+1,t=>if fU t.args.length (λk=>(cG L (t.args.getD k default)).2)≠0 then(0,fU t.args.length (λk=>(cG L (t.args.getD k default)).2)) else zf t (t.args.map λa=>(cG L a).1)
def QD (L:Nat)(t:Tm):cG (L+1) t=if fU t.args.length (λk=>(cG L (t.args.getD k default)).2)≠0 then(0,fU t.args.length (λk=>(cG L (t.args.getD k default)).2)) else zf t (t.args.map λa=>(cG L a).1):=rfl
def WL {α:Type}(A:List α)(z:α){k n:Nat}(hA:A.length=n)(hk:k<n):(A.take k++List.replicate (n-k) z).set k A[k]=A.take (k+1)++List.replicate (n-(k+1)) z:=by
 have h1:(A.take k).length=k:=by rw[dL];omega
 rw[List.set_append_right _ _ (by omega),h1,Pn];have:n-k=(n-(k+1))+1:=by omega
 rw[this,List.replicate_succ,List.set_cons_zero,iP (by omega),sr];rfl
def aw9 (op:Int):(fi op).1.length<=3:=by
 unfold fi;repeat' split
 all_goals simp
def W3:∀(L:Nat) (t:Tm),t.OK->cU L t<=60->ah T 200 [dN t] (.tup [.int (cG L t).1,.int (cG L t).2])
 |0,t,ht,hm=>by simp[cU] at hm
 |L+1,t,ht,hm=>by
  refine zyw 46 azZ ?_;obtain⟨hl,hp⟩:=TG hm;simp[Zl];refine⟨by omega,?_⟩;refine qo t.args.length (λk=>(cG L (t.args.getD k default)).2) (λk=>[.int 0,.int 0,.int k]) (λk=>[ints ((t.args.map λa=>(cG L a).1).take k++List.replicate (t.args.length-k) 0)]) ?_ (λk hk ho=>?_) (λk hk ho hb=>?_) (λhj=>?_)
  .simp[ints]
  .have hw:=br hk (by omega);have cQ:=bS hk;have jw:=W3 L t.args[k] (ht.arg cQ) (hp _ cQ);have hs:=WL (t.args.map λa=>(cG L a).1) 0 (n:=t.args.length) (by simp) hk;rw[<-hs];have hlen:((t.args.map λa=>(cG L a).1).take k++List.replicate (t.args.length-k) (0:Int)).length=t.args.length:=by simp;omega
   have hgk:(t.args.map λa=>(cG L a).1)[k]'(by simpa using hk)=(cG L t.args[k]).1:=by simp
   rw[hgk];generalize (t.args.map λa=>(cG L a).1).take k++List.replicate (t.args.length-k) (0:Int)=A at*;simp[hk] at ho;rw[ho] at jw;generalize (cG L t.args[k]).1=kd at*;simp[Wr,H2,hk];refine⟨_,jw,?_⟩;simp[hlen,hk,hw,ints]
  .have cQ:=bS hk;have jw:=W3 L t.args[k] (ht.arg cQ) (hp _ cQ);have hf:cG (L+1) t=(0,(cG L (t.args.getD k default)).2):=by
    rw[QD,hb,if_pos ho]
   rw[hf];simp[hk] at ho ⊢;simp[Wr,H2,hk];refine⟨_,jw,?_⟩;simp[ho]
  .have hf:cG (L+1) t=zf t (t.args.map λa=>(cG L a).1):=by
    rw[QD,hj];simp
   rw[hf]
   have e0:(t.args.map λa=>(cG L a).1).take t.args.length++List.replicate (t.args.length-t.args.length) 0=t.args.map λa=>(cG L a).1:=by
    rw[Pn,xD (by simp)];simp
   rw[e0];have hkl:(t.args.map λa=>(cG L a).1).length=t.args.length:=by simp
   generalize (t.args.map λa=>(cG L a).1)=ks at*;simp[Wr,H2];unfold zf;by_cases h1:t.op<0
   .simp[h1]
   by_cases h2:13<t.op
   .simp[h1,h2]
   simp[h1,h2];by_cases h3:t.op=0\/t.op=1\/t.op=2
   .have fw:(t.op=0\/t.op=1)\/t.op=2:=by omega
    simp[h3,fw];refine⟨_,axC t,?_⟩;simp
   have fw:¬((t.op=0\/t.op=1)\/t.op=2):=by omega
   simp[h3,fw];refine⟨_,axE _,?_⟩;have hsl:=aw9 t.op;generalize fi t.op=sh at*;simp;by_cases h4:ks.length=sh.1.length
   case neg=>
    have om:¬((ks.length:Int)=sh.1.length):=by omega
    have K6:¬t.args.length=sh.1.length:=by omega
    simp[h4,om,K6]
   have om:(ks.length:Int)=sh.1.length:=by omega
   have K6:t.args.length=sh.1.length:=by omega
   by_cases h5:t.n=0
   case neg=>simp[h4,om,K6,h5]
   simp[h4,om,K6,h5];refine gF sh.1.length (pV sh.1 ks) (λk=>[.int 0,.int 0,.int (oI sh.1 ks k),.int k]) (λ_=>[]) ?_ (λk hk ho=>?_) (λk hk ho hb=>?_) (λhj=>?_)
   .simp[oI]
   .have hw:=br hk (by omega);have cE:k<ks.length:=by omega
    simp only[oI];unfold pV at ho;simp only[aE,aW hk,aW cE,kF] at ho ⊢;generalize oI sh.1 ks k=c at*;by_cases a1:sh.1[k]=-1
    .by_cases a2:c=-1
     .simp[Dc,wO,hk,cE,hw,ints,a1,a2]
     .simp[a1,a2] at ho;simp[Dc,wO,hk,cE,hw,ints,a1,a2,ho]
    .simp[a1] at ho;simp[Dc,wO,hk,cE,hw,ints,a1,ho]
   .rw[hb];have cE:k<ks.length:=by omega
    unfold pV at ho;simp only[aE,aW hk,aW cE,kF] at ho;generalize oI sh.1 ks k=c at*;by_cases a1:sh.1[k]=-1
    .by_cases a2:c=-1
     .simp[a1,a2] at ho
     .simp[a1,a2] at ho;simp[Dc,wO,hk,cE,ints,a1,a2,ho]
    .simp[a1] at ho;simp[Dc,wO,hk,cE,ints,a1,ho]
   .rw[hj];simp[Dc,wO];by_cases a1:sh.2=-1<;>simp[a1]
def pv (t:Tm):Int×Int:=if 60<cU 8 t then(0,6) else cG 8 t
def ajp (t:Tm)(ht:t.OK):ah T 181 [dN t] (.tup [.int (pv t).1,.int (pv t).2]):=by
 refine zyw 44 azV ?_;simp[Zh,pv];refine⟨_,W4 8 t 1 ht (by omega) (by omega),?_⟩;by_cases h:60<cU 8 t
 .simp[h]
 simp[h];refine⟨_,W3 8 t ht (by omega),?_⟩;simp
end Rm
