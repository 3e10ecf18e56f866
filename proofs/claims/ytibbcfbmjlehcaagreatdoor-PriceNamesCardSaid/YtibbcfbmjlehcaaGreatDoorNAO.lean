/-
  Shared texts of this claim.
-/
import Derived.Test.YtibbcfbmjlehcaaGreatDoorNAJ
import Derived.KernelRfl
import Derived.Test.YtibbcfbmjlehcaaGreatDoorNAL
import Derived.Test.YtibbcfbmjlehcaaGreatDoorNAM
import Derived.Test.YtibbcfbmjlehcaaGreatDoorNAN
import Derived.Test.YtibbcfbmjlehcaaGreatDoorNAK
import Derived.Test.YtibbcfbmjlehcaaGreatDoorNAI
import Derived.WalkKit
import Derived.WalkSpells
import Derived.Lib.SliceRun
import Derived.Lib.AppendZeros
import Derived.Laws.Strings
set_option linter.defProp false
set_option linter.unusedVariables false
set_option maxRecDepth 100000
noncomputable section
open Go.IntKind (i64)
namespace Rm
open Go Go.Proofs Cx
def AE:Option PC:=cF [4,5,7] [] Tryz.f54 54 [2,3,6]
def PB:Nat->PC:=bm AE
variable(b:Nat->PC)
def asY:PC:=.block 0 [4,11,12] [] (.loop [4,11] [] (b 0))
def Nz (b:Nat->PC):PT:=
 (.ite (aj bQ dy)
 (.blockS ⟨[],[]⟩ 1 [4,5,6,7,13,14,15,16,17,18,19,20,21,22,23,24,25,26,27,28,29,30,31,32,37,38,39,40,41,42,43,44,45,46,47,48,58,59,69,70,71,72,73] [6]
 (.chk (aq r9 bQ)
 (.call ⟨[(5,bQ)],[(6,(.setc z9 0 (pn r9 bQ)))]⟩ [] 22 53 [(pc (.setc z9 0 (pn r9 bQ)) 3),(pi 0),(bo (pc o3 14) (pi 1))]
 (.ite (.nt oM)
 (.ret (pi 15))
 (.call ⟨[],[]⟩ [] 30 53 [(pc o6 7),(pi 0),(bo (.llen (pc o2 1)) (pi 1))]
 (.call ⟨[(32,(.nt qo))],[]⟩ [(32,false)] 35 53 [(pc o6 0),(pi 0),(pi 9)]
 (.ite (.pick wL pT (.nt rY))
 (.ret (pi 1))
 (.call ⟨[],[]⟩ [] 41 91 [(aB 8 o2),(aB 19 o3),(aB 9 o6)]
 (.ite (.nt tG)
 (.ret (pi 14))
 (.ite (aJ (pc o6 4) (pi (-1)))
 (.chk (aq (pc o3 15) (pc o6 4))
 (.ite (aV r5 (pi 0))
 (.chk (aq (pc o3 17) (bo r5 (pi 1)))
 (.call ⟨[],[]⟩ [] 72 53 [(pc o6 6),(.mx (.mx (pc o3 8) (pc (pn (pc o3 15) (pc o6 4)) 6)) (pc (pn (pc o3 17) (bo r5 (pi 1))) 6)),(pi 100000)]
 (.ite (.nt G5)
 (.ret (pi 13))
 (.next ⟨[],[]⟩))))
 (.call ⟨[],[]⟩ [] 72 53 [(pc o6 6),(.mx (pc o3 8) (pc (pn (pc o3 15) (pc o6 4)) 6)),(pi 100000)]
 (.ite (.nt G5)
 (.ret (pi 13))
 (.next ⟨[],[]⟩)))))
 (.ite (aV r5 (pi 0))
 (.chk (aq (pc o3 17) (bo r5 (pi 1)))
 (.call ⟨[],[]⟩ [] 72 53 [(pc o6 6),(.mx (pc o3 8) (pc (pn (pc o3 17) (bo r5 (pi 1))) 6)),(pi 100000)]
 (.ite (.nt G5)
 (.ret (pi 13))
 (.next ⟨[],[]⟩))))
 (.call ⟨[],[]⟩ [] 72 53 [(pc o6 6),(pc o3 8),(pi 100000)]
 (.ite (.nt G5)
 (.ret (pi 13))
 (.next ⟨[],[]⟩)))))))))))))
 (.next ⟨[(11,(aE bQ (pi 1)))],[]⟩))
 (.exit 0 ⟨[(12,(aj bQ dy))],[]⟩))
def XM:PT:=
 (.brk ⟨[(11,(pi 0)),(10,(.llen (pc (.mk [r1]) 17))),(9,(pc (.mk [r1]) 17)),(4,(pi 0))],[(3,(.mk [r1])),(2,(.mk [r0]))]⟩
(asY b)
 (.ret (pi 0)))
def an6:PT×List (Shp×PT):=(XM b,[(.lp 0 [4,11,12] [] [4,11] [],Nz b)])
def TR:AE.map told=some (an6 (bp AE)):=by kernel_rfl
def ayF:tree (ab AE)=XM PB:=bF TR
def ait:round 0 [4,11,12] [] [4,11] [] (PB 0)=Nz PB:=bk TR 0 λ_=>rfl
def JM:Option PC:=cF [6,7,8,9,65,80,100,111] [] Tryz.f91 91 [3,4,5]
def XL:PT:=
 (.call ⟨[],[(5,(.mk [r2])),(4,(.mk [r1])),(3,(.mk [r0]))]⟩ [] 16 53 [(pc (.mk [r2]) 4),(pi 0),(bo (.llen (pc (.mk [r1]) 15)) (pi 1))]
 (.call ⟨[(17,cv)],[]⟩ [(17,true)] 23 132 [(aB 19 o4),(pc o5 4),(pc o5 3)]
 (.chk (.nt (.an (.an (.pick dz gE pF) pT) (.nt (aq (pc o4 15) (pc o5 4)))))
 (.call ⟨[(8,(.pick (.pick dz gE pF) (peq (pc (pn (pc o4 15) (pc o5 4)) 2) (pc o5 1)) pF)),(7,(.pick dz gE pF))],[]⟩ [] 44 53 [(pc o5 2),(pi 0),MZ]
 (.call ⟨[(9,wM)],[]⟩ [] 51 53 [(pc o5 1),(pi 0),MZ]
 (.ite (.pick (.nt np) pT (.pick (aJ (pc o5 0) (pi 4)) (aJ (pc o5 8) (pi 0)) pF))
 (.ret pF)
 (.blockS ⟨[(64,(pc o5 0))],[]⟩ 0 [6,65,66,80,81,100,101,111,112] []
 (.iteS ⟨[],[]⟩ (.pick (peq nq (pi 0)) (peq nq (pi 0)) (.pick (peq nq (pi 1)) (peq nq (pi 1)) (peq nq (pi 2)))) [6,80,81,100,101,111,112] []
 (.ret (.pick (.pick r9 (peq (pc o5 4) (pi (-1))) pF) (peq (pc o5 5) (pi 0)) pF))
 (.iteS ⟨[],[]⟩ (.pick (peq nq (pi 3)) (peq nq (pi 3)) (.pick (peq nq (pi 5)) (peq nq (pi 5)) (peq nq (pi 4)))) [6,100,101,111,112] []
 (.call ⟨[(90,(.pick r9 (peq (pc o5 4) (pi (-1))) pF))],[]⟩ [(90,true)] 93 53 [(pc o5 5),(pi 0),zo]
 (.call ⟨[(95,(.pick r90 Ns pF))],[]⟩ [(95,true)] 98 53 [(pc o5 8),(pi 0),(pi 1)]
 (.ret (.pick r95 r98 pF))))
 (.iteS ⟨[],[]⟩ (peq nq (pi 6)) [6,111,112] []
 (.call ⟨[(106,(.pick r9 r8 pF))],[]⟩ [(106,true)] 109 53 [(pc o5 5),(pi 1),zo]
 (.ret (.pick Nn ah7 pF)))
 (.ite (peq nq (pi 9))
 (.ret (.pick (.pick (peq (pc o5 2) (pi (-1))) r8 pF) (peq (pc o5 5) (pi 0)) pF))
 (.next ⟨[],[]⟩))
 (.next ⟨[],[]⟩))
 (.next ⟨[],[]⟩))
 (.next ⟨[],[]⟩))
 (.ret (.pick (.pick (peq (pc o5 2) (pi (-1))) r7 pF) (peq (pc o5 5) (pi 0)) pF)))))))))
def agj:JM.map told=some (XL,[]):=by kernel_rfl
def ayE:tree (ab JM)=XL:=aU agj
def AF:Option PC:=cF [2,3] [] Tryz.f55 55 [1,4,5,52]
def PD:Nat->PC:=bm AF
def asZ:PC:=.block 0 [2,9,10] [] (.loop [2,9] [] (b 0))
def NA (b:Nat->PC):PT:=
 (.ite (aj r9 r8)
 (.blockS ⟨[],[]⟩ 1 [2,3,4,11,12,13,14,15,16,17,18,27,28,33,34,35] [4]
 (.chk (aq r7 r9)
 (.call ⟨[(3,r9)],[(4,(.setc z3 0 (pn r7 r9)))]⟩ [] 16 53 [(pc (.setc z3 0 (pn r7 r9)) 0),(pi 0),(pi 4)]
 (.call ⟨[(18,(.nt cv))],[]⟩ [(18,false)] 25 53 [(pc o4 1),(pi 0),(bo (.llen (pc o1 15)) (pi 1))]
 (.call ⟨[(28,(.pick cO pT (.nt kF)))],[]⟩ [(28,false)] 31 53 [(pc o4 2),(pi 0),(pi 1)]
 (.ite (.pick tD pT (.nt rX))
 (.ret (pi 1))
 (.ite (peq r3 (pi 0))
 (.exit 1 ⟨[],[]⟩)
 (.chk (aq (pc o1 18) (bo r3 (pi 1)))
 (.call ⟨[],[(5,(.setc z3 0 (pn (pc o1 18) (bo r3 (pi 1)))))]⟩ [] 46 93 [(pc (.setc z3 0 (pn (pc o1 18) (bo r3 (pi 1)))) 1),(pc o4 1)]
 (.call ⟨[],[]⟩ [] 51 93 [(pc o5 0),(pc o4 0)]
 (.call ⟨[],[]⟩ [] 53 92 [(.lst [CX,np])]
 (.ite (bh Vm (pi 0))
 (.ret (pi 5))
 (.next ⟨[],[]⟩))))))))))))
 (.next ⟨[(9,(aE r9 (pi 1)))],[]⟩))
 (.exit 0 ⟨[(10,(aj r9 r8))],[]⟩))
def XO:PT:=
 (.brk ⟨[(9,(pi 0)),(8,(.llen (pc (.mk [r0]) 18))),(7,(pc (.mk [r0]) 18)),(2,(pi 0))],[(1,(.mk [r0]))]⟩
(asZ b)
 (.ret (pi 0)))
def an7:PT×List (Shp×PT):=(XO b,[(.lp 0 [2,9,10] [] [2,9] [],NA b)])
def TS:AF.map told=some (an7 (bp AF)):=by kernel_rfl
def ayH:tree (ab AF)=XO PD:=bF TS
def aiu:round 0 [2,9,10] [] [2,9] [] (PD 0)=NA PD:=bk TS 0 λ_=>rfl
def Jy:Option PC:=cF [4,5,6] [] Tryz.f93 93 []
def Xq:PT:=
 (.call ⟨[],[]⟩ [] 8 133 [r0]
 (.call ⟨[(5,r8)],[]⟩ [] 10 133 [r1]
 (.ite r5
 (.ite dy
 (.ret (pi 0))
 (.ret (pi (-1))))
 (.ite dy
 (.ret (pi 1))
 (.ite (aj r0 r1)
 (.ret (pi (-1)))
 (.ite (aV r0 r1)
 (.ret (pi 1))
 (.ret (pi 0))))))))
def af3:Jy.map told=some (Xq,[]):=by kernel_rfl
def ayi:tree (ab Jy)=Xq:=aU af3
def Jz:Option PC:=cF [2] [] Tryz.f133 133 []
def Xs:PT:=
 (.ret (aJ r0 r0))
def af4:Jz.map told=some (Xs,[]):=by kernel_rfl
def ayk:tree (ab Jz)=Xs:=aU af4
def Aw:Option PC:=cF [2,3,5] [] Tryz.f92 92 []
def Pv:Nat->PC:=bm Aw
def asQ:PC:=.block 0 [2,8,9] [] (.loop [2,8] [] (b 0))
def Hc (b:Nat->PC):PT:=
 (.ite (aj r8 r7)
 (.chk (aq r6 r8)
 (.ite (aJ (pn r6 r8) r3)
 (.ret (pn r6 r8))
 (.next ⟨[(8,va)],[]⟩)))
 (.exit 0 ⟨[(9,(aj r8 r7))],[]⟩))
def Xr:PT:=
 (.brk ⟨[(8,(pi 0)),(7,(.llen r0)),(6,r0),(3,(pi 0)),(2,(pi 0))],[]⟩
(asQ b)
 (.ret r3))
def anZ:PT×List (Shp×PT):=(Xr b,[(.lp 0 [2,8,9] [] [2,8] [],Hc b)])
def TL:Aw.map told=some (anZ (bp Aw)):=by kernel_rfl
def ayj:tree (ab Aw)=Xr Pv:=bF TL
def Vy:round 0 [2,8,9] [] [2,8] [] (Pv 0)=Hc Pv:=bk TL 0 λ_=>rfl
def Jl:Option PC:=mI {ctx with fr:=[6],nh:=[]} Tryz.f158 ⟨[Y8,I,sE],.slice I,.dat⟩ [3,5,7,8,42,9]
def Xa:PT:=
 (.chk (aq (pc (.mk [r2]) 15) (pc (.mk [r2]) 19))
 (.ite ahS
 (.ret pL)
 (.chk (.an (bh (pi 5) (pi 0)) (bI (pi 5) cQ))
 (.chk (peq (pi 5) (pi 5))
 (.chk (aq (.rep (pi 5) (pi 0)) (pi 0))
 (.call ⟨[],[(9,(.setn (.rep (pi 5) (pi 0)) (pi 0) 0 r1)),(8,(.setc ID 0 (aB 15 (.mk [r2])))),(7,CT),(3,(.mk [r0]))]⟩ [] 50 123 [jX,(pc CT 7)]
 (.chk (aq o9 (pi 1))
 (.call ⟨[],[(9,(.setn o9 (pi 1) 0 nm))]⟩ [] 56 123 [(aB 8 o3),(pc o8 10)]
 (.chk (aq o9 (pi 2))
 (.call ⟨[],[(9,(.setn o9 (pi 2) 0 tH))]⟩ [] 62 123 [(aB 8 o3),(pc o8 9)]
 (.chk (aq o9 (pi 3))
 (.chk (aq (pc o3 3) (pc o7 2))
 (.call ⟨[],[(9,(.setn o9 (pi 3) 0 oP))]⟩ [] 73 123 [(aB 8 o3),(pc (pn (pc o3 3) (pc o7 2)) 1)]
 (.chk (aq o9 (pi 4))
 (.call ⟨[],[(9,(.setn o9 (pi 4) 0 G6))]⟩ [] 76 168 [(.setn o9 (pi 4) 0 G6),(pi (-1))]
 (.ite vc
 (.ret pL)
 (.ret o9)))))))))))))))))
def afN:Jl.map told=some (Xa,[]):=by kernel_rfl
def axZ:tree (ab Jl)=Xa:=aU afN
def Jm:Option PC:=mI {ctx with fr:=[6],nh:=[]} Tryz.f158 ⟨[Y8,I,sE],.nils .bool,.dat⟩ [3,5,7,8,42,9]
def Ot:PT:=
 (.chk (aq (pc (.mk [r2]) 15) (pc (.mk [r2]) 19))
 (.ite ahS
 (.ret pL)
 (.chk (.an (bh (pi 5) (pi 0)) (bI (pi 5) cQ))
 (.chk (peq (pi 5) (pi 5))
 (.chk (aq (.rep (pi 5) (pi 0)) (pi 0))
 (.call ⟨[],[(9,(.setn (.rep (pi 5) (pi 0)) (pi 0) 0 r1)),(8,(.setc ID 0 (aB 15 (.mk [r2])))),(7,CT),(3,(.mk [r0]))]⟩ [] 50 123 [jX,(pc CT 7)]
 (.chk (aq o9 (pi 1))
 (.call ⟨[],[(9,(.setn o9 (pi 1) 0 nm))]⟩ [] 56 123 [(aB 8 o3),(pc o8 10)]
 (.chk (aq o9 (pi 2))
 (.call ⟨[],[(9,(.setn o9 (pi 2) 0 tH))]⟩ [] 62 123 [(aB 8 o3),(pc o8 9)]
 (.chk (aq o9 (pi 3))
 (.chk (aq (pc o3 3) (pc o7 2))
 (.call ⟨[],[(9,(.setn o9 (pi 3) 0 oP))]⟩ [] 73 123 [(aB 8 o3),(pc (pn (pc o3 3) (pc o7 2)) 1)]
 (.chk (aq o9 (pi 4))
 (.call ⟨[],[]⟩ [] 76 168 [(.setn o9 (pi 4) 0 G6),(pi (-1))]
 (.ite vc
 (.ret pL)
 (.chk pF
 (.next ⟨[],[]⟩))))))))))))))))))
def afO:Jm.map told=some (Ot,[]):=by kernel_rfl
def ax0:tree (ab Jm)=Ot:=aU afO
def UM:List Nat:=[4,6,15,17,16,19,41,42,81,30,62,18,10,26,27,11,32,34,70,36,71,109,156,176,194,193,206,123,116,195,196,157,168,190,159,177,198,197,207,178,110,160,180,179,181,199,200,208,212,210,209,161,182,201,211,202,213,215,79,203,65,13,35,38,78,37,72,111,112,162,183,184,204,113,114,115,163,117,118,119,120,121,73,74,75,76,122,164,165,185,187,205,186,89,77,124,125,166,189,33,66,107,68,67,69,108,57,29,31,9,14,39,40,80,126,104,21,20,7,22,43,44,45,82,127,23,46,83,128,167,129,84,85,130,47,48,86,49,50,24,51,87,88,52,53,90,131,132,54,91,55,93,133,92]
def CI:List (Nat×PC):=[(4,(ab Az)),(6,(ab JE)),(15,(ab JD)),(17,(ab AA)),(16,(ab AH)),(19,(ab JR)),(41,(ab JS)),(42,(ab Ke)),(81,(ab Be)),(30,(ab AJ)),(62,(ab Qq)),(18,(ab JC)),(10,(ab AI)),(26,(ab JV)),(27,(ab JW)),(11,(ab Aq)),(32,(ab Jn)),(34,(ab A8)),(70,(ab Kc)),(36,(ab Jf)),(71,(ab Je)),(109,(ab Jj)),(156,(ab Jk)),(176,(ab Bb)),(194,(ab Ka)),(193,(ab Kd)),(206,(ab Bd)),(123,(ab J7)),(116,(ab J8)),(195,(ab Kb)),(196,(ab A9)),(157,(ab JJ)),(168,(ab Kg)),(190,(ab Bh)),(159,(ab Ax)),(177,(ab JA)),(198,(ab JB)),(197,(ab Kf)),(207,(ab Bg)),(178,(ab Ay)),(110,(ab JI)),(160,(ab JK)),(180,(ab JL)),(179,(ab Bf)),(181,(ab Kl)),(199,(ab xZ)),(200,(ab Bm)),(208,(ab Ks)),(212,(ab Kr)),(210,(ab Ko)),(209,(ab Kv)),(161,(ab Km)),(182,(ab Bn)),(201,(ab Kt)),(211,(ab Kw)),(202,(ab Kq)),(213,(ab Kp)),(215,(ab Ku)),(79,(ab Js)),(203,(ab Bc)),(65,(ab Ji)),(13,(ab Jg)),(35,(ab Jh)),(38,(ab Ba)),(78,(ab Bj)),(37,(ab Et)),(72,(ab AZ)),(111,(ab A3)),(112,(ab A1)),(162,(ab J9)),(183,(ab A2)),(184,(ab Kh)),(204,(ab Bi)),(113,(ab J3)),(114,(ab J4)),(115,(ab A0)),(163,(ab A6)),(117,(ab J5)),(118,(ab J6)),(119,(ab A4)),(120,(ab A7)),(121,(ab A5)),(73,(ab Kj)),(74,(ab Kk)),(75,(ab Ki)),(76,(ab Ev)),(122,(ab Eu)),(164,(ab Eo)),(165,(ab Jx)),(185,(ab Jt)),(187,(ab Jv)),(205,(ab Er)),(186,(ab Ep)),(89,(ab xY)),(77,(ab Bk)),(124,(ab Bl)),(125,(ab Av)),(166,(ab Ju)),(189,(ab Jw)),(33,(ab Jo)),(66,(ab Ky)),(107,(ab Bo)),(68,(ab Jp)),(67,(ab Ar)),(69,(ab As)),(108,(ab AB)),(57,(ab Qr)),(29,(ab Qp)),(31,(ab AK)),(9,(ab JU)),(14,(ab JF)),(39,(ab JH)),(40,(ab JG)),(80,(ab Au)),(126,(ab Jq)),(104,(ab Jr)),(21,(ab JT)),(20,(ab AW)),(7,(ab Es)),(22,(ab AY)),(43,(ab AM)),(44,(ab J1)),(45,(ab AX)),(82,(ab J2)),(127,(ab xX)),(23,(ab JX)),(46,(ab AR)),(83,(ab J0)),(128,(ab AN)),(167,(ab JY)),(129,(ab AL)),(84,(ab AO)),(85,(ab JZ)),(130,(ab AQ)),(47,(ab AS)),(48,(ab AT)),(86,(ab AP)),(49,(ab AV)),(50,(ab AU)),(24,(ab xW)),(51,(ab Ew)),(87,(ab Kz)),(88,(ab KA)),(52,(ab AG)),(53,(ab JP)),(90,(ab JO)),(131,(ab JN)),(132,(ab JQ)),(54,(ab AE)),(91,(ab JM)),(55,(ab AF)),(93,(ab Jy)),(133,(ab Jz)),(92,(ab Aw))]
def tab:Nat->Option PC:=bH CI
def ahs:CI.map (·.1)=UM:=by kernel_rfl
def avp:(CI.map (·.1)).Nodup:=by rw[ahs];exact qd (by kernel_rfl)
def lA (k:Nat){f:Nat}{x:PC}(h:CI[k]?=some (f,x):=by kernel_rfl):tab f=some x:=ae1 avp h
def aaU:tab 199=some (ab xZ):=lA 45 (by kernel_rfl)
def Po:tab 37=some (ab Et):=lA 65 (by kernel_rfl)
def xN:tab 76=some (ab Ev):=lA 85 (by kernel_rfl)
def I7:tab 122=some (ab Eu):=lA 86 (by kernel_rfl)
def aaQ:tab 164=some (ab Eo):=lA 87 (by kernel_rfl)
def aaR:tab 205=some (ab Er):=lA 91 (by kernel_rfl)
def I6:tab 186=some (ab Ep):=lA 92 (by kernel_rfl)
def aaT:tab 89=some (ab xY):=lA 93 (by kernel_rfl)
def akO:tab 7=some (ab Es):=lA 118 (by kernel_rfl)
def aaS:tab 127=some (ab xX):=lA 124 (by kernel_rfl)
def akP:tab 24=some (ab xW):=lA 139 (by kernel_rfl)
def akQ:tab 51=some (ab Ew):=lA 140 (by kernel_rfl)
def caps:∀f cs,bH Qk f=some cs->(oG cs.args cs.res=none->bH wY f=some ⟨cs.args++cs.caps,cs.res,.dat⟩)/\∀ys,oG cs.args cs.res=some ys->fL UM f=false/\Ir Tryz.prog f=true:=aa9 (l:=Qk) (sig:=wY) (P:=Tryz.prog) (pcs:=UM) (by kernel_rfl)
def clos:dP ctx:=⟨(λf cs h=>(caps f cs h).1),λf s h=>ajs (l:=wY) (P:=Tryz.prog) (by kernel_rfl) f s h⟩
def its:∀f cs ys,ctx.cap f=some cs->oG cs.args cs.res=some ys->tab f=none/\∃fn,ctx.P.funcs[f]?=some fn/\fn.body.isSome=true/\(fn.name== "runtime.NumGoroutine")=false:=λf cs ys h hi=>⟨aeS (l:=CI) (by rw[ahs];exact((caps f cs h).2 ys hi).1),axN ((caps f cs h).2 ys hi).2⟩
def axB:∀f pc,tab f=some pc->∃fn s ids fr nh,ctx.P.funcs[f]?=some fn/\ctx.sig f=some s/\mI {ctx with fr:=fr,nh:=nh} fn s ids=some pc:=
 Tp (R:=λf pc=>∃fn s ids fr nh,ctx.P.funcs[f]?=some fn/\ctx.sig f=some s/\mI {ctx with fr:=fr,nh:=nh} fn s ids=some pc) (l:=CI)
  (aw (ax [7,9,11,16,16400] [14,15,17,18,19,20,21,22,23,24,25] [] Tryz.func4 rfl (av Az TO))
  (aw (ax [1,17] [0,2,3,4,5,6,7,8,9,10,11,12,13] [] Tryz.func6 rfl (av JE aga))
  (aw (ax [0,24576,28672,32768,1,12289,2,12290] [] [] Tryz.func15 rfl (av JD af9))
  (aw (ax [0,1] [2] [] Tryz.func17 rfl (av AA TP))
  (aw (ax [3,5] [6,7,8,9,10] [] Tryz.func16 rfl (av AH TV))
  (aw (ax [1] [2,3] [] Tryz.func19 rfl (av JR ago))
  (aw (ax [1] [2] [] Tryz.func41 rfl (av JS agp))
  (aw (ax [] [4] [] Tryz.func42 rfl (av Ke agN))
  (aw (ax [] [4,5] [] Tryz.func81 rfl (av Be Ui))
  (aw (ax [3,5,1,10] [6,7,9] [] Tryz.func30 rfl (av AJ TX))
  (aw (ax [] [5] [] Tryz.func62 rfl (av Qq auC))
  (aw (ax [4,69636,73732,5,6,7] [] [] Tryz.func18 rfl (av JC af7))
  (aw (ax [5,7,9,12,17,52] [10,11,13,14,15,18,19,20] [] Tryz.func10 rfl (av AI TW))
  (aw (ax [2] [4] [] Tryz.func26 rfl (av JV ags))
  (aw (ax [4,6,8] [] [] Tryz.func27 rfl (av JW agt))
  (aw (ax [4,6,8,9,10,28] [11] [] Tryz.func11 rfl (av Aq TG))
  (aw (ax [4,6,8,9] [] [] Tryz.func32 rfl (av Jn afP))
  (aw (ax [2,4,65540,69636,73732,77828,5,65541,69637,73733,77829,7,31,9,49,11,13] [1000004,1000005] [] Tryz.func34 rfl (av A8 CC))
  (aw (ax [] [4] [] Tryz.func70 rfl (av Kc agL))
  (aw (ax [5,8,77832,10] [] [] Tryz.func36 rfl (av Jf afH))
  (aw (ax [4,7,8,9] [10] [] Tryz.func71 rfl (av Je afG))
  (aw (ax [4,7,8,10,16394] [9,11,12,13,14] [] Tryz.func109 rfl (av Jj afL))
  (aw (ax [2,3,4] [5] [] Tryz.func156 rfl (av Jk afM))
  (aw (ax [2,3,5,6,8,10,90,139] [4,7,9,11,12,13,14,15,16] [] Tryz.func176 rfl (av Bb ME))
  (aw (ax [2] [3] [] Tryz.func194 rfl (av Ka agJ))
  (aw (ax [] [4] [] Tryz.func193 rfl (av Kd agM))
  (aw (ax [] [4,5] [] Tryz.func206 rfl (av Bd Uh))
  (aw (ax [2] [4] [] Tryz.func123 rfl (av J7 agG))
  (aw (ax [] [4] [] Tryz.func116 rfl (av J8 agH))
  (aw (ax [2] [] [] Tryz.func195 rfl (av Kb agK))
  (aw (ax [3,6,8] [] [] Tryz.func196 rfl (av A9 Ug))
  (aw (ax [] [2,3,4,11] [] Tryz.func157 rfl (av JJ agf))
  (aw (ax [] [4] [] Tryz.func168 rfl (av Kg agP))
  (aw (ax [] [4,5] [] Tryz.func190 rfl (av Bh Ul))
  (aw (ax [4,10,53] [8,9,11,12,13,14,55,70] [] Tryz.func159 rfl (av Ax TM))
  (aw (ax [4,9] [8] [] Tryz.func177 rfl (av JA af5))
  (aw (ax [] [3] [] Tryz.func198 rfl (av JB af6))
  (aw (ax [] [4] [] Tryz.func197 rfl (av Kf agO))
  (aw (ax [] [4,5] [] Tryz.func207 rfl (av Bg Uk))
  (aw (ax [4,11] [8,9] [] Tryz.func178 rfl (av Ay TN))
  (aw (ax [3,6,8,10] [7,9,11,12] [] Tryz.func110 rfl (av JI age))
  (aw (ax [2,3,4,12292,9] [5,6,7,8,10,11] [] Tryz.func160 rfl (av JK agh))
  (aw (ax [2] [3] [] Tryz.func180 rfl (av JL agi))
  (aw (ax [] [4,5] [] Tryz.func179 rfl (av Bf Uj))
  (aw (ax [1] [2,3] [] Tryz.func181 rfl (av Kl agX))
  (aw (ax [2,7,12295] [4,5] [] Tryz.func199 rfl (av xZ Uq))
  (aw (ax [1,4,6,12294,9] [2,3,5,7,8,38,47,10,11,12] [] Tryz.func200 rfl (av Bm MH))
  (aw (ax [1] [2,3,12,20,4,5] [] Tryz.func208 rfl (av Ks ag3))
  (aw (ax [] [2] [] Tryz.func212 rfl (av Kr ag2))
  (aw (ax [] [2,3,4,11] [] Tryz.func210 rfl (av Ko agZ))
  (aw (ax [2] [4,8,13,17,21] [] Tryz.func209 rfl (av Kv ag6))
  (aw (ax [2,4,7] [5,6,8] [] Tryz.func161 rfl (av Km agY))
  (aw (ax [2,3,4,6,33,7,8,10,12298,12] [5,15,21,9,11] [] Tryz.func182 rfl (av Bn Up))
  (aw (ax [2,4] [5,6] [] Tryz.func201 rfl (av Kt ag4))
  (aw (ax [2] [] [] Tryz.func211 rfl (av Kw ag7))
  (aw (ax [4,5] [9,22,41,6,7,82,88,94] [] Tryz.func202 rfl (av Kq ag1))
  (aw (ax [] [6,8,14,20,25] [] Tryz.func213 rfl (av Kp ag0))
  (aw (ax [] [4,5,6,7] [] Tryz.func215 rfl (av Ku ag5))
  (aw (ax [] [4,5,6,7,8,9,10,11,12,13] [] Tryz.func79 rfl (av Js afU))
  (aw (ax [6] [2,3,5,8] [] Tryz.func203 rfl (av Bc MF))
  (aw (ax [1] [2,3,7,12] [] Tryz.func65 rfl (av Ji afK))
  (aw (ax [4,6] [8,9,10,11] [] Tryz.func13 rfl (av Jg afI))
  (aw (ax [1] [2] [] Tryz.func35 rfl (av Jh afJ))
  (aw (ax [1,3,6,8] [2,4] [] Tryz.func38 rfl (av Ba MD))
  (aw (ax [] [2,3,4] [] Tryz.func78 rfl (av Bj Un))
  (aw (ax [4,5,10] [8,9,15,39,58,74,11,12] [] Tryz.func37 rfl (av Et agR))
  (aw (ax [1,9] [2,3,4,5,6,7,10,11,12] [] Tryz.func72 rfl (av AZ Ua))
  (aw (ax [1,2,3,4,6,16390,20486,24582,21,8,34,10,12298,16394,47] [] [] Tryz.func111 rfl (av A3 GB))
  (aw (ax [] [6,7,8] [] Tryz.func112 rfl (av A1 Ud))
  (aw (ax [] [4] [] Tryz.func162 rfl (av J9 agI))
  (aw (ax [] [2,3,4,5] [] Tryz.func183 rfl (av A2 Ue))
  (aw (ax [] [4] [] Tryz.func184 rfl (av Kh agQ))
  (aw (ax [] [4,5] [] Tryz.func204 rfl (av Bi Um))
  (aw (ax [] [2] [] Tryz.func113 rfl (av J3 agA))
  (aw (ax [] [3] [] Tryz.func114 rfl (av J4 agC))
  (aw (ax [2,3] [4,6] [] Tryz.func115 rfl (av A0 Uc))
  (aw (ax [] [6,7,8] [] Tryz.func163 rfl (av A6 Uf))
  (aw (ax [] [3] [] Tryz.func117 rfl (av J5 agD))
  (aw (ax [] [3] [] Tryz.func118 rfl (av J6 agF))
  (aw (ax [1,3,4,6,19,8,16392,36] [2] [] Tryz.func119 rfl (av A4 MA))
  (aw (ax [1,4,6] [2,3] [] Tryz.func120 rfl (av A7 MC))
  (aw (ax [1,4,6] [2] [] Tryz.func121 rfl (av A5 MB))
  (aw (ax [2] [4] [] Tryz.func73 rfl (av Kj agV))
  (aw (ax [] [2] [] Tryz.func74 rfl (av Kk agW))
  (aw (ax [1] [2] [] Tryz.func75 rfl (av Ki agS))
  (aw (ax [3,4] [6,7,13,16,24,33,8,9] [] Tryz.func76 rfl (av Ev agU))
  (aw (ax [3] [4,5] [] Tryz.func122 rfl (av Eu agT))
  (aw (ax [] [4,5,6,7,8,9] [] Tryz.func164 rfl (av Eo afV))
  (aw (ax [] [2] [] Tryz.func165 rfl (av Jx af2))
  (aw (ax [] [2,3,4,5,6,7,8,9] [] Tryz.func185 rfl (av Jt afX))
  (aw (ax [] [4] [] Tryz.func187 rfl (av Jv afZ))
  (aw (ax [] [6,0,1] [] Tryz.func205 rfl (av Er af0))
  (aw (ax [] [6,7,8] [] Tryz.func186 rfl (av Ep afW))
  (aw (ax [3,9] [6,7] [] Tryz.func89 rfl (av xY Ub))
  (aw (ax [3] [6,7,8,2,9,10] [] Tryz.func77 rfl (av Bk Uo))
  (aw (ax [3,9] [6,7,2] [] Tryz.func124 rfl (av Bl MG))
  (aw (ax [2,4,5] [6] [] Tryz.func125 rfl (av Av TJ))
  (aw (ax [3,4,5] [6] [] Tryz.func166 rfl (av Ju afY))
  (aw (ax [2] [4,5,6,7] [] Tryz.func189 rfl (av Jw af1))
  (aw (ax [2,4,5,6,43] [] [] Tryz.func33 rfl (av Jo afQ))
  (aw (ax [3] [6] [] Tryz.func66 rfl (av Ky ag8))
  (aw (ax [2,5,7] [4] [] Tryz.func107 rfl (av Bo Ur))
  (aw (ax [3,7] [6] [] Tryz.func68 rfl (av Jp afR))
  (aw (ax [] [2,3,5,12,15] [] Tryz.func67 rfl (av Ar TH))
  (aw (ax [2,9] [4,5,6,7,10,50,54] [] Tryz.func69 rfl (av As TI))
  (aw (ax [2,7] [4,5] [] Tryz.func108 rfl (av AB TQ))
  (aw (ax [1] [2] [] Tryz.func57 rfl (av Qr auD))
  (aw (ax [2,3] [4] [] Tryz.func29 rfl (av Qp auB))
  (aw (ax [3,6,7,9] [] [] Tryz.func31 rfl (av AK TY))
  (aw (ax [5,7,9] [10,11,12,13,14,33,36,15] [] Tryz.func9 rfl (av JU agr))
  (aw (ax [] [6,7,8,9,10] [] Tryz.func14 rfl (av JF agb))
  (aw (ax [] [4] [] Tryz.func39 rfl (av JH agd))
  (aw (ax [] [6,7,8,9,10,11,12] [] Tryz.func40 rfl (av JG agc))
  (aw (ax [] [6,7,8,2,9,10,11,12,13,14,15,16,17,18] [] Tryz.func80 rfl (av Au Ms))
  (aw (ax [] [2] [] Tryz.func126 rfl (av Jq afS))
  (aw (ax [] [2,0] [] Tryz.func104 rfl (av Jr afT))
  (aw (ax [5,7,20,22] [10] [] Tryz.func21 rfl (av JT agq))
  (aw (ax [] [4,5] [] Tryz.func20 rfl (av AW T6))
  (aw (ax [3,4,5] [6] [] Tryz.func7 rfl (av Es af8))
  (aw (ax [2,3] [4,5] [] Tryz.func22 rfl (av AY T9))
  (aw (ax [1] [2,3,4] [] Tryz.func43 rfl (av AM Mu))
  (aw (ax [1] [2] [] Tryz.func44 rfl (av J1 agy))
  (aw (ax [1] [2,3] [] Tryz.func45 rfl (av AX T8))
  (aw (ax [1] [2] [] Tryz.func82 rfl (av J2 agz))
  (aw (ax [3] [6,1,7] [] Tryz.func127 rfl (av xX T7))
  (aw (ax [1] [2,3] [] Tryz.func23 rfl (av JX agu))
  (aw (ax [1,5,44] [2,3,4,6,7] [] Tryz.func46 rfl (av AR Mw))
  (aw (ax [] [4] [] Tryz.func83 rfl (av J0 agx))
  (aw (ax [] [2,3,4] [] Tryz.func128 rfl (av AN T2))
  (aw (ax [] [2] [] Tryz.func167 rfl (av JY agv))
  (aw (ax [] [6,7] [] Tryz.func129 rfl (av AL TZ))
  (aw (ax [2,3] [4,5] [] Tryz.func84 rfl (av AO T3))
  (aw (ax [] [6] [] Tryz.func85 rfl (av JZ agw))
  (aw (ax [] [6,7] [] Tryz.func130 rfl (av AQ T4))
  (aw (ax [1,4,44] [2,3,5,6] [] Tryz.func47 rfl (av AS Mx))
  (aw (ax [1,3,24] [2,4,5] [] Tryz.func48 rfl (av AT T5))
  (aw (ax [1] [2,3,4] [] Tryz.func86 rfl (av AP Mv))
  (aw (ax [1,4] [2,3,5] [] Tryz.func49 rfl (av AV Mz))
  (aw (ax [1,4,6] [2,3,5] [] Tryz.func50 rfl (av AU My))
  (aw (ax [2,3,10] [4,5,6,7,8,11] [] Tryz.func24 rfl (av xW Mt))
  (aw (ax [2,3] [4,5,6,7,8,54,80,109,118,9,10] [] Tryz.func51 rfl (av Ew ag9))
  (aw (ax [] [4] [] Tryz.func87 rfl (av Kz aha))
  (aw (ax [1,3] [2,8,19,40] [] Tryz.func88 rfl (av KA ahb))
  (aw (ax [3,4,7,11] [6,8,9,76,92,98] [] Tryz.func52 rfl (av AG TU))
  (aw (ax [] [6] [] Tryz.func53 rfl (av JP agm))
  (aw (ax [3,4,7,8] [6,9,10,66,103,113,11,140,149] [] Tryz.func90 rfl (av JO agl))
  (aw (ax [3] [6,7] [] Tryz.func131 rfl (av JN agk))
  (aw (ax [3] [6] [] Tryz.func132 rfl (av JQ agn))
  (aw (ax [2,3,6] [4,5,7] [] Tryz.func54 rfl (av AE TR))
  (aw (ax [3,4,5] [6,7,8,9,65,80,100,111] [] Tryz.func91 rfl (av JM agj))
  (aw (ax [1,4,5,52] [2,3] [] Tryz.func55 rfl (av AF TS))
  (aw (ax [] [4,5,6] [] Tryz.func93 rfl (av Jy af3))
  (aw (ax [] [2] [] Tryz.func133 rfl (av Jz af4))
  (aw (ax [] [2,3,5] [] Tryz.func92 rfl (av Aw TL))
  trivial))))))))))))))))))))))))))))))))))))))))))))))))))))))))))))))))))))))))))))))))))))))))))))))))))))))))))))))))))))))))))))))))))))))))))))))))))))))))))
end Rm
set_option linter.unusedSimpArgs false
namespace Rm
open Go Go.Proofs Cx Go.RowKit Go.Lib
def asi:(Tryz.prog.info? 3).map (λi=>(i.zero,i.size,i.bytes))=some (some (.int .i64 0),1,8):=by kernel_rfl
set_option maxHeartbeats 2000000 in
set_option maxRecDepth 100000 in
def apf (w:World):Calls Tryz.prog 214 #[.slice none 0 0,.int .i64 0] w λe w'=>e=.returned (.slice none 0 0)/\w'=w:=by
 go_enter Tryz.func214,Tryz.ntmps214
 go_wp2
 go_ret
 exact⟨rfl,rfl⟩
set_option maxHeartbeats 2000000 in
set_option maxRecDepth 100000 in
def ape (n:Nat)(w:World)(h0:0<n)(h1:n<=4294967296):Calls Tryz.prog 214 #[.slice none 0 0,.int .i64 n] w λe w'=>
 ∃v',e=.returned v'/\w'.ownsRow w.heap.size 3 1 v' 0 []/\Below w.heap.size w w':=by
 obtain⟨i0,hi,Cj,pX,hz2⟩:=info_parts asi;have hr:=run_append_nil_zeros w 71 3 71 3 i0 (.int .i64 0) .i64 .i64 Tryz.underlying71 Tryz.underlying3 hi Cj n h0 (by rw[pX];decide) (by omega) (by rw[hz2];omega);have hn:¬((n:Int)<0):=by omega
 have rA:(n:Int)>0:=by omega
 have hw:i64.wrap (n:Int)=n:=by rw[IntKind.wrap_i64];omega
 have mT:i64.wrap 0=0:=by decide
 have gT:=grownCap_ge w n 0 3;have hle:=grownCap_le_maxLen w n 0 3 (by unfold maxLen;omega);have hs:(Builtin.zeroCells #[Value.int IntKind.i64 0] n++Builtin.zeroCells #[Value.int IntKind.i64 0] (grownCap w n 0 3-n)).size=grownCap w n 0 3*1:=by
  rw[Array.size_append,size_zeroCells,size_zeroCells];simp;omega
 go_enter Tryz.func214,Tryz.ntmps214
 go_wp2_with (at_builtin;refine wpList_append_run _ rfl _ _ 71 3 rfl _ _ rfl rfl _ _ hr ?qc)
 go_ret
 refine⟨_,rfl,?_,?_⟩
 .exact World.ownsRow.drew (World.ownsRow_made w _ _ (ba _) hle hs)
 .exact((Below.refl _ w).alloc (ba _) _).drew
def KT (ds:List D):Option D:=
 match ds with
 |[.list [],.v (.int .i64 n)]=>if 0<=n/\n<=4294967296 then some (.list []) else none
 |_=>none
def apd (ds:List D)(d:D)(h:KT ds=some d):∃s,ctx.sig 214=some s/\OQ ctx 214 s ds d:=by
 refine⟨_,rfl,λ_=>?_,λshs obs hm=>by cases hm⟩;unfold KT at h;split at h
 case h_2=>cases h
 rename_i n;split at h
 case isFalse=>cases h
 rename_i hn;cases h;obtain⟨k,rfl⟩:=qF hn.1;intro V w args ar hC ha;obtain⟨a1,a2,a3⟩:=ha;have h0:=a3 0 _ rfl;have h1:=a3 1 _ rfl;obtain⟨u,v,rfl⟩:∃u v,args=#[u,v]:=by
  have:args.size=2:=by simpa using a1
  match args,this with
  |⟨[u,v]⟩,_=>exact⟨u,v,rfl⟩
 simp only[sA,DH] at h0 h1;change Rep ctx.cap V (.nils .bool) u (.list []) at h0;change Rep ctx.cap V (.int .i64) v (.v (.int .i64 k)) at h1;have hu:u=.slice none 0 0:=by cases h0;rfl
 have hv:v=.int .i64 k:=by cases h1;rfl
 subst hu hv;by_cases hk:k=0
 .subst hk;refine(apf w).mono λe w' hh=>?_;obtain⟨rfl,rfl⟩:=hh;refine⟨_,V,rfl,.refl V,ar,.refl _ _,λ_ _ _ h=>.inl h,λ_ _ h=>.inl h,?_⟩;exact⟨[],[],rfl,⟨by simp,.inl ⟨rfl,rfl⟩⟩,⟨λ_=>undef,λi x hx=>by simp at hx,λi j u hi=>by simp at hi⟩,λk hk=>by cases hk⟩
 .refine(ape k w (by omega) (by omega)).mono λe w' hh=>?_;obtain⟨v',rfl,bu,hb⟩:=hh;refine⟨v',V,rfl,.refl V,ar.below hb,hb,λ_ _ _ h=>.inl h,λ_ _ h=>.inl h,?_⟩;refine⟨[],[],rfl,bu,⟨λ_=>undef,λi x hx=>by simp at hx,λi j u hi=>by simp at hi⟩,λk hk=>?_⟩;have bf:=(bu.lt k hk).1;refine⟨λo=>?_,?_⟩
  .cases hc:V.c k o with
   |none=>rfl
   |some u=>have:=World.block_lt_of_cell? w (a:=⟨k,o,none⟩) (ar.c _ _ _ hc);simp at this;omega
  .cases hc:V.m k with
   |none=>rfl
   |some u=>have:=(ar.m _ _ hc).lt;omega
def fA (day:Int):Int×Int×Int:=
 let n:=day+730425
 let e:=n/146097
 let r:=n%146097
 let y:=(r-r/1460+r/36524-r/146096)/365
 let r:=r-(365*y+y/4-y/100)
 let m:=(5*r+2)/153
 let dom:=r-(153*m+2)/5+1
 let month:=if 12<m+3 then m+3-12 else m+3
 (if month<3 then y+400*e+1 else y+400*e,month,dom)
def zh (rest feasts shut:List Int)(day:Int):Bool:=
 !rest.contains ((day+5)%7)&&(!feasts.contains (100*(fA day).2.1+(fA day).2.2)&& !shut.contains day)
def abu (rest feasts shut:List Int)(a b:Int):List Int:=((List.range (b-a+1).toNat).map λ(k:Nat)=>a+k).filter (zh rest feasts shut)
def yX (d:D):List Int:=d.l.map D.i
def abv (ds:List D):List D:=
 let c:=(ds.getD 2 .none).deref
 (abu (yX (c.c 3)) (yX (c.c 4)) (yX (c.c 5)) (ds.getD 0 .none).deref.i (ds.getD 1 .none).deref.i).map λd=>.tup [.int d]
def Ao (r:D)(city:Int):Int:=if 0<=city/\city<(r.c 1).l.length then(((r.c 1).l.getD city.toNat .none).c 1).i else-1
def UP (ds:List D):D:=
 let r:=ds.getD 0 .none
 let forum:=(ds.getD 1 .none).i
 let c:=ds.getD 2 .none
 let s:=(c.c 15).l.getD (c.c 19).i.toNat .none
 let who:=(s.c 2).i
 if who<0\/(r.c 3).l.length<=who\/forum<0\/(r.c 4).l.length<=forum then .list [] else
 let out:=[forum,Ao r (s.c 7).i,Ao r (c.c 10).i,Ao r (c.c 9).i,Ao r (((r.c 3).l.getD who.toNat .none).c 1).i]
 if(-1)∈out then .list [] else ints out
def abX:List (Nat×(aS->List D->Option D)):=[(214,λ_ ds=>KT ds),(158,Cz (ab Jl) (ab Jm) UP),(188,Gl (ab uk) 1000 1 abv),(63,λ_ ds=>Io ds),(64,λ_ ds=>KF ds),(60,λ_ ds=>KB ds),(28,λ_ ds=>N9 ds),(61,λ_ ds=>Oa ds),(56,λ_ ds=>KH ds)]
def ext:Nat->Option (aS->List D->Option D):=bH abX
def axA:TabOK ctx tab ext:=by
 refine⟨clos,its,λf pc _ h=>axB f pc h,λf g hg Z hΦ ej ds d h=>?_⟩
 have:=Tp (R:=λf (g:aS->List D->Option D)=>∀Z,du ctx Z->gN ctx Z->∀ds d,g Z ds=some d->(∀s,ctx.sig f=some s->OQ ctx f s ds d)/\
  ∀cs ys,ctx.cap f=some cs->oG cs.args cs.res=some ys->∃xs,d=.list xs/\(∀x,x∈xs->∃ds',x=.tup ds'/\ds'.length=ys.length)/\mD ctx f cs.caps ys ds xs) (l:=abX)
  ⟨λZ hΦ ej ds d h=>⟨λs hs=>by obtain⟨s',h1,h2⟩:=apd ds d h;rw[hs] at h1;cases h1;exact h2,λcs ys hc hi=>by cases hc⟩,
   λZ hΦ ej ds d h=>⟨λs hs=>by cases hs;exact⟨λ_=>aut clos hΦ ej Tryz.func158 (av Jl afN) (av Jm afO) h,λshs obs hm=>by cases hm⟩,λcs ys hc hi=>by cases hc⟩,
   λZ hΦ ej ds d h=>⟨λs hs=>(by cases hs),λcs ys hc hi=>by
    cases hc;cases hi;exact asp clos hΦ ej Tryz.func188 alw h rfl⟩,
   λZ hΦ ej ds d h=>⟨λs hs=>by cases hs;exact⟨λhm=>(by cases hm),λshs obs hm=>by cases hm;exact axn ds d h⟩,λcs ys hc hi=>by cases hc⟩,
   λZ hΦ ej ds d h=>⟨λs hs=>by cases hs;exact⟨λhm=>(by cases hm),λshs obs hm=>by cases hm;exact al6 ds d h⟩,λcs ys hc hi=>by cases hc⟩,
   λZ hΦ ej ds d h=>⟨λs hs=>by obtain⟨s',h1,h2⟩:=alQ ds d h;rw[hs] at h1;cases h1;cases hs;exact⟨λ_=>h2,λshs obs hm=>by cases hm⟩,λcs ys hc hi=>by cases hc⟩,
   λZ hΦ ej ds d h=>⟨λs hs=>by cases hs;exact⟨λhm=>(by cases hm),λshs obs hm=>by cases hm;exact axi ds d h⟩,λcs ys hc hi=>by cases hc⟩,
   λZ hΦ ej ds d h=>⟨λs hs=>by cases hs;exact⟨λhm=>(by cases hm),λshs obs hm=>by cases hm;exact axk ds d h⟩,λcs ys hc hi=>by cases hc⟩,
   λZ hΦ ej ds d h=>⟨λs hs=>by cases hs;exact⟨λhm=>(by cases hm),λshs obs hm=>by cases hm;exact amn ds d h⟩,λcs ys hc hi=>by cases hc⟩,trivial⟩ f g hg
 exact this Z hΦ ej ds d h
abbrev T:cL:=eO tab ext
theorem zyw {ds:List D}{d:D}{t:PT}(k:Nat){f:Nat}{x:PC}(he:tree x=t)(h:aH (eO tab ext) t (lZ ds) (λx=>x=.ret d))(hl:CI[k]?=some (f,x):=by kernel_rfl)(hx:ext f=none:=by rfl):ah (eO tab ext) f ds d:=.of_tree hx (lA k hl) he h
def ah.of_nsl {tab:Nat->Option PC}{ext:Nat->Option (aS->List D->Option D)}{f:Nat}{pa pb:PC}{spec:List D->D}{ds:List D}{ta tb:PT}(hx:ext f=some (Cz pa pb spec))(hta:tree pa=ta)(htb:tree pb=tb)
 (h:(∃xs,xs≠[]/\spec ds=.list xs/\aH (eO tab ext) ta (lZ ds) (λx=>x=.ret (.list xs)))\/(spec ds=.list []/\aH (eO tab ext) tb (lZ ds) (λx=>x=.ret (.list [])))):ah (eO tab ext) f ds (spec ds):=by
 refine ah.of_ext hx ?_;rcases h with⟨xs,h1,h2,h3⟩|⟨h2,h3⟩
 .obtain⟨x,rfl,n0,hn⟩:=OE (c:=pa) (hta▸h3);refine⟨n0,λn hle=>?_⟩;unfold Cz;rw[if_pos (.inl ⟨n,xs,hn n hle,h1,h2⟩)]
 .obtain⟨x,rfl,n0,hn⟩:=OE (c:=pb) (htb▸h3);refine⟨n0,λn hle=>?_⟩;unfold Cz;rw[if_pos (.inr ⟨n,hn n hle,h2⟩)]
end Rm
namespace Rm
open Go Go.Proofs Cx
def eV (n:Nat)(p:Nat->Bool):Bool:=(List.range n).all p
def aaI {n:Nat}{p:Nat->Bool}(h:∀k,k<n->p k=true):eV n p=true:=cP.2 λk hk=>h k (fS.1 hk)
def akE {n k:Nat}{p:Nat->Bool}(hk:k<n)(h:p k=false):eV n p=false:=List.all_eq_false.2 ⟨k,fS.2 hk,by simp[h]⟩
def xK {n:Nat}{p:Nat->Bool}:eV n p=true↔∀k,k<n->p k=true:=⟨λh k hk=>cP.1 h k (fS.2 hk),aaI⟩
def fC (n:Nat)(f:Nat->Int):Int:=(((List.range n).map f).find? λx=>x !=0).getD 0
def Q3 {n:Nat}{f:Nat->Int}(h:∀k,k<n->f k=0):fC n f=0:=by
 unfold fC;rw[Ac.2]
 .rfl
 .intro x hx;obtain⟨k,hk,rfl⟩:=bZ.1 hx;simp[h k (fS.1 hk)]
def QZ {n k:Nat}{f:Nat->Int}(hk:k<n)(hj:∀j,j<k->f j=0)(h:f k≠0):fC n f=f k:=by
 unfold fC;have e:List.range n=List.range k++k::(List.range' (k+1) (n-k-1)):=by
  rw[O3,O3,<-O2];have:=List.range'_append_1 (s:=0) (m:=k) (n:=n-k-1+1);rw[gl] at this;rw[this];congr 1;omega
 rw[e,nH,List.find?_append,Ac.2,Option.none_or,iP,List.find?_cons_of_pos (by simpa using h)]
 .rfl
 .intro x hx;obtain⟨j,vO,rfl⟩:=bZ.1 hx;simp[hj j (fS.1 vO)]
def Q0 {n:Nat}{f:Nat->Int}:fC n f=0↔∀k,k<n->f k=0:=by
 refine⟨λh k=>?_,Q3⟩
 induction k using Nat.strongRecOn with
 |ind k ih=>
  intro hk;refine DC λau=>?_;rw[QZ hk (λj hj=>ih j hj (by omega)) au] at h;exact au h
section
variable {T:cL} {id:Nat} {bE bD lr lo:List Nat} {a:PC} {O:Env} {Q:Out->Prop}
def gG (N:Nat)(p:Nat->Bool)(str fN:Nat->List D)(h0:lr.map O.r=str 0/\lo.map O.o=fN 0)
 (step:∀k,k<N->p k=true->aH T (round id bE bD lr lo a) (O.put lr (str k) lo (fN k)) (fm O id bE bD lr lo (λvr vo=>vr=str (k+1)/\vo=fN (k+1)) Q))
 (bad:∀k,k<N->p k=false->eV N p=false->aH T (round id bE bD lr lo a) (O.put lr (str k) lo (fN k)) (fm O id bE bD lr lo (λ_ _=>False) Q))
 (last:eV N p=true->aH T (round id bE bD lr lo a) (O.put lr (str N) lo (fN N)) (fm O id bE bD lr lo (λ_ _=>False) Q)):aL T (.block id bE bD (.loop lr lo a)) O Q:=
 .scan N (λk=>p k=true) str fN h0 (λk hk _ h=>step k hk h) (λk hk _ h=>bad k hk (by simpa using h) (akE hk (by simpa using h))) (λh=>last (aaI h))
def qw (N:Nat)(f:Nat->Int)(str fN:Nat->List D)(h0:lr.map O.r=str 0/\lo.map O.o=fN 0)
 (step:∀k,k<N->f k=0->aH T (round id bE bD lr lo a) (O.put lr (str k) lo (fN k)) (fm O id bE bD lr lo (λvr vo=>vr=str (k+1)/\vo=fN (k+1)) Q))
 (bad:∀k,k<N->f k≠0->fC N f=f k->aH T (round id bE bD lr lo a) (O.put lr (str k) lo (fN k)) (fm O id bE bD lr lo (λ_ _=>False) Q))
 (last:fC N f=0->aH T (round id bE bD lr lo a) (O.put lr (str N) lo (fN N)) (fm O id bE bD lr lo (λ_ _=>False) Q)):aL T (.block id bE bD (.loop lr lo a)) O Q:=
 .scan N (λk=>f k=0) str fN h0 (λk hk _ h=>step k hk h) (λk hk hj h=>bad k hk h (QZ hk hj h)) (λh=>last (Q3 h))
end
def bt {k n:Nat}(h:k<n)(hn:n<=4294967296):i64.wrap ((k:Int)+1)=(k:Int)+1:=aQ (by omega)
def xm {k:Nat}(hn:k<=4294967296):i64.wrap ((k:Int)-1)=(k:Int)-1:=aQ (by omega)
def aC (i n:Int):Bool:=decide (0<=i)&&decide (i<n)
def wi (n a b:Int):Bool:=decide (a<=n)&&decide (n<=b)
def gd (i n:Int):ah T 116 [.int i,.int n] (.bool (aC i n)):=by
 refine zyw 28 azr ?_;simp[Yt,aC];by_cases h:0<=i<;>simp[h]
def sd (i n:Int):ah T 70 [.int i,.int n] (.bool (aC i n)):=by
 refine zyw 18 azF ?_;simp[YH,aC];by_cases h:0<=i<;>simp[h]
def cV (n a b:Int):ah T 85 [.int n,.int a,.int b] (.bool (wi n a b)):=by
 refine zyw 132 ay7 ?_;simp[X9,wi];by_cases h:a<=n<;>simp[h]
def idx_eq {α:Type}[DecidableEq α]{l:List α}{x z:α}{k:Nat}(hk:k<l.length)(hj:∀j,j<k->l.getD j z≠x)(h:¬l.getD k z≠x):x∈l/\l.findIdx (λy=>decide (y=x))=k:=by
 have e:l[k]=x:=by simpa [hk] using h
 refine⟨e▸bV hk,(List.findIdx_eq hk).2 ⟨by simp[e],λj ky=>?_⟩⟩;have gU:j<l.length:=by omega
 simpa [gU] using hj j ky
def aeb {α:Type}[DecidableEq α]{l:List α}{x z:α}(hj:∀j,j<l.length->l.getD j z≠x):¬x∈l:=λhm=>by
 obtain⟨j,gU,rfl⟩:=fu hm;have:=hj j gU;simp[gU] at this
def we {α:Type}[DecidableEq α](l:List α)(x:α):Int:=if x∈l then(l.findIdx (λy=>decide (y=x)):Nat) else-1
def hasB {α:Type}[DecidableEq α](l:List α)(x:α):Bool:=l.any λy=>decide (y=x)
def Ru {α:Type}[DecidableEq α]{l:List α}{x:α}:hasB l x=true↔x∈l:=by simp[hasB]
def acJ {α:Type}[DecidableEq α]{l:List α}{x:α}:hasB l x=false↔¬x∈l:=by rw[<-Ru];simp
def aea {α:Type}[DecidableEq α](l:List α)(x:α):decide (0<=we l x)=hasB l x:=by
 unfold we;by_cases h:x∈l
 .rw[Ru.2 h];simp[h]
 .rw[acJ.2 h];simp[h]
@[simp] def aEf (a b:ByteArray):Bs .eql a b=decide (a=b):=by
  simp only[Bs,ByteArray.toList_eq];by_cases h:a=b
  .subst h;simp
  .rw[decide_eq_false h,beq_eq_false_iff_ne];intro e;have:a.data=b.data:=by rw[<-vj];exact e
   exact h (by cases a;cases b;cases this;rfl)
@[simp] def aE9 (O:Env)(x i:PE):PE.ev O (.sidx x i)=.v (.int .u8 ((PE.ev O x).s.data.getD (PE.ev O i).i.toNat 0).toNat):=zyz
@[simp] def aFd (O:Env)(x i:PE):PE.ev O (.sok x i)=.v (.bool (decide (0<=(PE.ev O i).i/\(PE.ev O i).i<(PE.ev O x).s.size))):=zyz
@[simp] def aId (a:ByteArray):(str a).s=a:=zyz
def akb (l:List Int)(x:Int)(hl:l.length<=4294967296):ah T 190 [ints l,.int x] (.int (we l x)):=by
 refine zyw 33 azQ ?_;simp[YS];refine .scan l.length (λk=>l.getD k 0≠x) (λk=>[.int 0,.int k]) (λ_=>[]) ?_ (λk hk hj ho=>?_) (λk hk hj ho=>?_) (λhj=>?_)
 .simp
 .have hw:=bt hk hl;simp[hk] at ho;have iY:¬x=l[k]:=λe=>ho e.symm;simp[Wf,HY,hk,hw,ints,ho,iY]
 .obtain⟨hm,he⟩:=idx_eq hk hj ho;simp[hk] at ho;simp[Wf,HY,hk,ints,ho,we,hm,he]
 .have:=aeb hj;simp[Wf,HY,we,this,ints]
def xq (l:List Int)(x:Int)(hl:l.length<=4294967296):ah T 168 [ints l,.int x] (.bool (hasB l x)):=by
 refine zyw 32 azK ?_;simp[YM];refine⟨_,akb l x hl,?_⟩;have:=aea l x;simp at this ⊢;exact this
def akc (l:List ByteArray)(x:ByteArray)(hl:l.length<=4294967296):ah T 204 [strs l,str x] (.int (we l x)):=by
 refine zyw 72 azR ?_;simp[YT];refine .scan l.length (λk=>l.getD k default≠x) (λk=>[.int 0,.int k]) (λ_=>[]) ?_ (λk hk hj ho=>?_) (λk hk hj ho=>?_) (λhj=>?_)
 .simp
 .have hw:=bt hk hl;simp[hk] at ho;have iY:¬x=l[k]:=λe=>ho e.symm;simp[Wg,HZ,hk,hw,strs,ho,iY]
 .obtain⟨hm,he⟩:=idx_eq hk hj ho;simp[hk] at ho;simp[Wg,HZ,hk,strs,ho,we,hm,he]
 .have:=aeb hj;simp[Wg,HZ,we,this,strs]
def aj2 (l:List ByteArray)(x:ByteArray)(hl:l.length<=4294967296):ah T 184 [strs l,str x] (.bool (hasB l x)):=by
 refine zyw 71 azL ?_;simp[YN];refine⟨_,akc l x hl,?_⟩;have:=aea l x;simp at this ⊢;exact this
def qu (l:List Int)(a b:Int)(k:Nat):Bool:=wi (l.getD k 0) a b&&(k==0||decide (l.getD (k-1) 0<l.getD k 0))
def rising (l:List Int)(a b:Int):Bool:=eV l.length (qu l a b)
def H6 (l:List Int)(a b:Int)(hl:l.length<=4294967296):ah T 163 [ints l,.int a,.int b] (.bool (rising l a b)):=by
 refine zyw 76 azx ?_;simp[Yz];refine gG l.length (qu l a b) (λk=>[.bool false,.int k]) (λ_=>[]) ?_ (λk hk ho=>?_) (λk hk ho hb=>?_) (λhj=>?_)
 .simp
 .have hw:=bt hk hl;simp[qu,wi,hk] at ho;obtain⟨⟨h1,h2⟩,h3⟩:=ho;have cA:¬l[k]<a:=by omega
  have gS:¬b<l[k]:=by omega
  by_cases gV:0<k
  .have bC:k-1<l.length:=by omega
   have da:i64.wrap ((k:Int)-1)=((k-1:Nat):Int):=by rw[xm (by omega)];omega
   have fE:¬l[k]<=l[k-1]:=by
        rcases h3 with h3|h3
        .omega
        .simp[bC] at h3;omega
   simp[C6,wQ,hk,hw,da,ints,cA,gS,fE,gV,bC]
  .simp[C6,wQ,hk,hw,ints,cA,gS,gV]
 .have hf:rising l a b=false:=hb;simp[qu,wi,hk] at ho;by_cases h1:l[k]<a
  .simp[C6,wQ,hk,ints,h1,hf]
  by_cases h2:b<l[k]
  .simp[C6,wQ,hk,ints,h1,h2,hf]
  have h3:=ho (by omega) (by omega);have gV:0<k:=by omega
  have bC:k-1<l.length:=by omega
  have da:i64.wrap ((k:Int)-1)=((k-1:Nat):Int):=by rw[xm (by omega)];omega
  have fE:=h3.2;simp[bC] at fE;simp[C6,wQ,hk,da,ints,h1,h2,fE,gV,bC,hf]
 .have hf:rising l a b=true:=hj;simp[C6,wQ,hf]
def Gr (c:Int):Bool:=wi c 97 122||wi c 65 90
def ze (i:Nat)(c:Int):Bool:=Gr c||(i !=0&&(decide (c=95)||wi c 48 57))
def Ei (s:ByteArray)(k:Nat):Int:=((s.data.toList.getD k 0).toNat:Nat)
def jy (s:ByteArray):Bool:=decide (1<=s.size)&&decide (s.size<=20)&&eV s.size (λk=>ze k (Ei s k))
def Jb {s:ByteArray}{k:Nat}(h:k<s.data.size):(s.data[k].toNat:Int)=Ei s k:=by
 unfold Ei;rw[aF,aW (by simpa using h)];rfl
def ajd {s:ByteArray}:s=⟨#[]⟩↔s.size=0:=by
 constructor
 .rintro rfl;rfl
 .intro h;cases s with|mk d=>congr;exact OL h
def aww (s:ByteArray):ah T 183 [str s] (.bool (jy s)):=by
 refine zyw 70 azs ?_;simp[Yu];by_cases h0:s=⟨#[]⟩
 .have hn:jy s=false:=by simp[jy,ajd.1 h0]
  rw[hn];simp[h0]
 by_cases h1:(20:Int)<s.size
 .have cA:¬s.size<=20:=by omega
  simp[h0,h1,jy,cA]
 have hz:1<=s.size:=by
  have:s.size≠0:=λe=>h0 (ajd.2 e);omega
 have cA:s.size<=20:=by omega
 simp[h0,h1];refine⟨by omega,gG s.size (λk=>ze k (Ei s k)) (λk=>[.bool false,.int k]) (λ_=>[]) ?_ (λk hk ho=>?_) (λk hk ho hb=>?_) (λhj=>?_)⟩
 .simp
 .have hw:=bt hk (by omega);have bf:k<s.data.size:=hk;have hg:=Jb bf;simp[ze,Gr,wi] at ho;simp[VY,HE,hk,bf,hw,hg];omega
 .have bf:k<s.data.size:=hk;have hg:=Jb bf;have hn:jy s=false:=by simp[jy,hb]
  simp[ze,Gr,wi] at ho;simp[VY,HE,hk,bf,hg,hn];omega
 .have hn:jy s=true:=by simp[jy,hj,hz,cA]
  have hd:s.data.size=s.size:=rfl;simp[VY,HE,hn,hd]
def ah5 (c:Int):ah T 167 [.v (.int .u8 c)] (.bool (Gr c)):=by
 refine zyw 129 ay2 ?_;simp[X4,Gr,wi];by_cases h:97<=c<;>by_cases h2:c<=122<;>by_cases h3:65<=c<;>by_cases h4:c<=90<;>simp[h,h2,h3,h4]
def avR (s:ByteArray):ah T 128 [str s] (.bool (jy s)):=by
 refine zyw 128 ay3 ?_;simp[X5];by_cases h0:(s.size:Int)<1
 .have hn:jy s=false:=by simp[jy];omega
  simp[h0,hn]
 by_cases h1:(20:Int)<s.size
 .have hn:jy s=false:=by simp[jy];omega
  simp[h0,h1,hn]
 rw[if_neg (by omega)];refine gG s.size (λk=>ze k (Ei s k)) (λk=>[.bool false,.int k]) (λ_=>[]) ?_ (λk hk ho=>?_) (λk hk ho hb=>?_) (λhj=>?_)
 .simp
 .have hw:=bt hk (by omega);have bf:k<s.data.size:=hk;have hg:=Jb bf;simp[ze,wi] at ho;simp[VF,Hj,hk,bf,hw,hg];refine⟨_,ah5 _,?_⟩;simp[hw];intro g1 g2;exfalso;rcases ho with h|h
  .rw[h] at g1;cases g1
  .omega
 .have bf:k<s.data.size:=hk;have hg:=Jb bf;have hn:jy s=false:=by simp[jy,hb]
  simp[ze,wi] at ho;simp[VF,Hj,hk,bf,hg,hn];refine⟨_,ah5 _,?_⟩;simp[ho.1];omega
 .have hn:jy s=true:=by simp[jy,hj];omega
  simp[VF,Hj,hn]
def avO (l:List ByteArray)(n:Nat)(x:ByteArray)(hn:n<=l.length)(hl:l.length<=4294967296):ah T 129 [strs l,.int n,str x] (.bool (hasB (l.take n) x)):=by
 refine zyw 130 ayZ ?_;simp[X1];refine .scan n (λk=>l.getD k default≠x) (λk=>[.bool false,.int k]) (λ_=>[]) ?_ (λk hk hj ho=>?_) (λk hk hj ho=>?_) (λhj=>?_)
 .simp
 .have bf:k<l.length:=by omega
  have hw:=bt bf hl;simp[bf] at ho;simp[VE,Hh,hk,bf,hw,strs,ho]
 .have bf:k<l.length:=by omega
  simp[bf] at ho;have hm:hasB (l.take n) x=true:=Ru.2 (by rw[<-ho,akh];exact⟨k,by omega,rfl⟩);simp[VE,Hh,hk,bf,strs,ho,hm]
 .have hm:hasB (l.take n) x=false:=acJ.2 (λh=>by
   rw[akh] at h;obtain⟨k,hk,e⟩:=h;have:=hj k (by omega);simp[show k<l.length by omega] at this;exact this e)
  simp[VE,Hh,hm]
def iz (l:List ByteArray)(i:Nat):Int:=if jy (l.getD i default)=false then 2 else if hasB (l.take i) (l.getD i default) then 5 else 0
def Tz (l:List ByteArray)(i n:Nat)(h:i<n):iz (l.take n) i=iz l i:=by
 unfold iz;rw[aF,DJ h,O6,lq (by omega),<-aF]
def G0 (l:List ByteArray)(i:Nat)(hi:i<l.length)(hl:l.length<=4294967296):ah T 83 [strs l,.int i] (.int (iz l i)):=by
 refine zyw 127 aza ?_;simp[Yc,hi];refine⟨_,by simpa [strs,hi] using avR l[i],?_⟩;unfold iz;rw[aF,aW hi,kL];cases h1:jy l[i]<;>simp[h1];refine⟨_,by simpa [strs,hi] using avO l i l[i] (by omega) hl,?_⟩;cases h2:hasB (l.take i) l[i]<;>simp[h2]
def aiK (l:List ByteArray)(i:Nat)(hi:i<l.length)(hl:l.length<=4294967296):ah T 162 [strs l,.int i] (.int (iz l i)):=by
 refine zyw 69 azt ?_;simp[Yv,hi];refine⟨_,by simpa [strs,hi] using aww l[i],?_⟩;unfold iz;rw[aF,aW hi,kL];cases h1:jy l[i]<;>simp[h1];refine⟨by omega,_,by simpa [strs,hi] using aj2 (l.take i) l[i] (by rw[dQ];omega),?_⟩;cases h2:hasB (l.take i) l[i]<;>simp[h2]
def km (l:List ByteArray)(g:Nat->Bool)(i:Nat):Int:=if iz l i≠0 then iz l i else if g i then 0 else 1
def dj (l:List ByteArray)(Gx:Int)(g:Nat->Bool):Int:=if Gx<l.length then 6 else fC l.length (km l g)
def NV (l:List ByteArray)(Gx:Int)(f:Nat)(caps:List D)(g:Nat->Bool)(hg:∀i:Nat,i<l.length->ah T f (.int i::caps) (.bool (g i)))(hl:l.length<=4294967296):
 ah T 112 [strs l,.int Gx,.clo f caps] (.int (dj l Gx g)):=by
 refine zyw 68 azq ?_;simp[Ys,dj];by_cases h0:Gx<l.length
 .simp[h0];intro h;omega
 simp[h0];refine qw l.length (km l g) (λk=>[.int 0,.int k]) (λ_=>[]) ?_ (λk hk ho=>?_) (λk hk ho hb=>?_) (λhj=>?_)
 .simp
 .have hw:=bt hk hl;have h1:iz l k=0:=by
   refine DC λh=>?_;unfold km at ho;rw[if_pos h] at ho;exact h ho
  have h2:g k=true:=by
   unfold km at ho;rw[if_neg (by simpa using h1)] at ho;cases h:g k with
   |true=>rfl
   |false=>rw[h] at ho;simp at ho
  simp[VX,HC,hk,hw];refine⟨_,aiK l k hk hl,?_⟩;simp[h1];refine⟨_,_,⟨rfl,rfl⟩,_,hg k hk,?_⟩;simp[h2,hw]
 .simp[VX,HC,hk,hb];refine⟨_,aiK l k hk hl,?_⟩;unfold km at ho ⊢;by_cases h1:iz l k=0
  .simp[h1] at ho ⊢;refine⟨_,_,⟨rfl,rfl⟩,_,hg k hk,?_⟩;simp[ho]
  .simp[h1]
 .simp[VX,HC,hj]
def Vk (l:List Int)(a b:Int)(hl:l.length<=4294967296):ah T 130 [ints l,.int a,.int b] (.bool (rising l a b)):=by
 refine zyw 133 ay6 ?_;simp[X8];refine gG l.length (qu l a b) (λk=>[.bool false,.int k]) (λ_=>[]) ?_ (λk hk ho=>?_) (λk hk ho hb=>?_) (λhj=>?_)
 .simp
 .have hw:=bt hk hl;simp[qu,hk] at ho;simp[VJ,Hn,hk,hw,ints];refine⟨_,cV _ _ _,?_⟩;by_cases gV:0<k
  .have bC:k-1<l.length:=by omega
   have da:i64.wrap ((k:Int)-1)=((k-1:Nat):Int):=by rw[xm (by omega)];omega
   have fE:¬l[k]<=l[k-1]:=by
        rcases ho.2 with h3|h3
        .omega
        .simp[bC] at h3;omega
   simp[ho.1,hk,hw,da,fE,gV,bC]
  .simp[ho.1,hk,hw,gV];omega
 .have hf:rising l a b=false:=hb;simp[qu,hk] at ho;simp[VJ,Hn,hk,ints,hf];refine⟨_,cV _ _ _,?_⟩;cases h1:wi l[k] a b with
  |false=>simp
  |true=>
   have h3:=ho h1;have gV:0<k:=by omega
   have bC:k-1<l.length:=by omega
   have da:i64.wrap ((k:Int)-1)=((k-1:Nat):Int):=by rw[xm (by omega)];omega
   have fE:=h3.2;simp[bC] at fE;simp[hk,da,fE,gV,bC]
 .have hf:rising l a b=true:=hj;simp[VJ,Hn,hf]
def WV (n:Int):n.tdiv 100=if 0<=n then n/100 else-((-n)/100):=by
 split
 .rename_i h;exact DG h
 .rename_i h;have e:n.tdiv 100=-((-n).tdiv 100):=by rw[Int.neg_tdiv,Int.neg_neg]
  rw[e,DG (by omega)]
def aju (n:Int):n.tmod 100=n-100*n.tdiv 100:=Int.tmod_def n 100
def ajK {n:Int}(h:aZ n):i64.wrap (n.tdiv 100)=n.tdiv 100:=aQ (by rw[WV];unfold aZ at h;split<;>omega)
def pB (r:Realm)(c:City):Bool:=eV c.feasts.length (λk=>wi ((c.feasts.getD k 0).tmod 100) 1 31)&&(decide (c.feasts.length<=60)&&decide (c.shut.length<=200)&&aC c.order r.orders.length&&aC c.currency r.currencies.length)&&
 (rising c.rest 0 6&&rising c.feasts 101 1231&&rising c.shut 0 100000)
def awu (r:Realm)(c:City)(h1:c.rest.length<=4294967296)(h2:c.feasts.length<=4294967296)(h3:c.shut.length<=4294967296):ah T 115 [aP r,gR c] (.bool (pB r c)):=by
 refine zyw 75 azp ?_;simp[Yr];refine gG c.feasts.length (λk=>wi ((c.feasts.getD k 0).tmod 100) 1 31) (λk=>[.bool false,.int k]) (λ_=>[]) ?_ (λk hk ho=>?_) (λk hk ho hb=>?_) (λhj=>?_)
 .simp
 .have hw:=bt hk h2;simp[wi,hk] at ho;have g1:¬(c.feasts[k].tmod 100<1):=by omega
  have g2:¬(31<c.feasts[k].tmod 100):=by omega
  simp[VW,HA,hk,hw,ints,g1,g2]
 .have hf:pB r c=false:=by simp only[pB,hb,sv]
  simp[wi,hk] at ho;simp[VW,HA,hk,ints,hf];by_cases g1:c.feasts[k].tmod 100<1
  .simp[g1]
  .have g2:=ho (by omega);simp[g1,g2]
 .simp[VW,HA];by_cases g1:(c.feasts.length:Int)<=60
  case neg=>
   have hf:pB r c=false:=by
        have fD:decide (c.feasts.length<=60)=false:=decide_eq_false (by omega);simp only[pB,fD,sv,zX]
   have fD:(60:Int)<c.feasts.length:=by omega
   simp[g1,fD,hf]
  by_cases g2:(c.shut.length:Int)<=200
  case neg=>
   have hf:pB r c=false:=by
        have fD:decide (c.shut.length<=200)=false:=decide_eq_false (by omega);simp only[pB,fD,sv,zX]
   have pH:(200:Int)<c.shut.length:=by omega
   simp[g1,g2,pH,hf]
  have fD:¬(60:Int)<c.feasts.length:=by omega
  have pH:¬(200:Int)<c.shut.length:=by omega
  have hf:pB r c=(aC c.order r.orders.length&&aC c.currency r.currencies.length&&(rising c.rest 0 6&&rising c.feasts 101 1231&&rising c.shut 0 100000)):=by
   have e1:decide (c.feasts.length<=60)=true:=decide_eq_true (by omega);have e2:decide (c.shut.length<=200)=true:=decide_eq_true (by omega);simp only[pB,hj,e1,e2,zY]
  rw[hf];simp[g1,g2,fD,pH];refine⟨_,gd _ _,?_⟩;simp;cases e1:aC c.order r.orders.length<;>simp;refine⟨_,gd _ _,?_⟩;simp;cases e2:aC c.currency r.currencies.length<;>simp;refine⟨_,H6 _ _ _ h1,?_⟩;simp;cases e3:rising c.rest 0 6<;>simp;refine⟨_,H6 _ _ _ h2,?_⟩;simp;cases e4:rising c.feasts 101 1231<;>simp;exact H6 _ _ _ h3
def qU (r:Realm)(c:City):Bool:=(wi c.order 0 (r.orders.length-1)&&wi c.currency 0 (r.currencies.length-1)&&decide (c.feasts.length<=60)&&decide (c.shut.length<=200))&&
 eV c.feasts.length (λk=>wi ((c.feasts.getD k 0).tdiv 100) 1 12&&wi ((c.feasts.getD k 0).tmod 100) 1 31)&&(rising c.rest 0 6&&rising c.feasts 0 2000&&rising c.shut 0 100000)
def tS (n:Nat)(h:n<=4294967296):i64.wrap ((n:Int)-1)=(n:Int)-1:=aQ (by omega)
def avS (r:Realm)(c:City)(h1:c.rest.length<=4294967296)(h2:c.feasts.length<=4294967296)(h3:c.shut.length<=4294967296)(h4:r.orders.length<=4294967296)(h5:r.currencies.length<=4294967296)(hi:∀y,y∈c.feasts->aZ y):
 ah T 84 [aP r,gR c] (.bool (qU r c)):=by
 refine zyw 131 ay4 ?_;simp[X6,tS _ h4,tS _ h5];refine⟨_,cV _ _ _,?_⟩;cases e1:wi c.order 0 (r.orders.length-1)
 case false=>simp[qU,e1]
 simp;refine⟨_,cV _ _ _,?_⟩;cases e2:wi c.currency 0 (r.currencies.length-1)
 case false=>simp[qU,e1,e2]
 by_cases g1:(c.feasts.length:Int)<=60
 case neg=>
  have hf:qU r c=false:=by
   have fD:decide (c.feasts.length<=60)=false:=decide_eq_false (by omega);simp only[qU,fD,sv,zX]
  have fD:(60:Int)<c.feasts.length:=by omega
  simp[fD,hf]
 by_cases g2:(c.shut.length:Int)<=200
 case neg=>
  have hf:qU r c=false:=by
   have fD:decide (c.shut.length<=200)=false:=decide_eq_false (by omega);simp only[qU,fD,sv,zX]
  have pH:(200:Int)<c.shut.length:=by omega
  simp[pH,hf]
 have fD:¬(60:Int)<c.feasts.length:=by omega
 have pH:¬(200:Int)<c.shut.length:=by omega
 have hf:qU r c=(eV c.feasts.length (λk=>wi ((c.feasts.getD k 0).tdiv 100) 1 12&&wi ((c.feasts.getD k 0).tmod 100) 1 31)&&(rising c.rest 0 6&&rising c.feasts 0 2000&&rising c.shut 0 100000)):=by
  have e3:decide (c.feasts.length<=60)=true:=decide_eq_true (by omega);have e4:decide (c.shut.length<=200)=true:=decide_eq_true (by omega);simp only[qU,e1,e2,e3,e4,zY]
 rw[hf];simp[fD,pH];refine gG c.feasts.length (λk=>wi ((c.feasts.getD k 0).tdiv 100) 1 12&&wi ((c.feasts.getD k 0).tmod 100) 1 31) (λk=>[.bool false,.int k]) (λ_=>[]) ?_ (λk hk ho=>?_) (λk hk ho hb=>?_) (λhj=>?_)
 .simp
 .have hw:=bt hk h2;have hI:=hi _ (bV hk);have hq:i64.wrap (c.feasts[k].tdiv 100)=c.feasts[k].tdiv 100:=ajK hI;simp[hk] at ho;simp[VG,Hk,hk,ints,hq];refine⟨_,cV _ _ _,?_⟩;simp[ho.1,hk];refine⟨_,cV _ _ _,?_⟩;simp[ho.2,hk,hw]
 .have hI:=hi _ (bV hk);have hq:i64.wrap (c.feasts[k].tdiv 100)=c.feasts[k].tdiv 100:=ajK hI;simp[hk] at ho;simp only[aF] at hb;rw[hb];simp[VG,Hk,hk,ints,hq];refine⟨_,cV _ _ _,?_⟩;cases e3:wi (c.feasts[k].tdiv 100) 1 12 with
  |false=>simp
  |true=>
   have:=ho e3;simp[hk];refine⟨_,cV _ _ _,?_⟩;simp[this]
 .simp only[aF] at hj;rw[hj];simp[VG,Hk];refine⟨_,Vk _ _ _ h1,?_⟩;simp;cases e3:rising c.rest 0 6<;>simp;refine⟨_,Vk _ _ _ h2,?_⟩;simp;cases e4:rising c.feasts 0 2000<;>simp;exact Vk _ _ _ h3
def alL (r:Realm)(c:City):qU r c=pB r c:=by
 rw[tU];have bO:∀(i:Int) (n:Nat),(wi i 0 (n-1)=true)↔(aC i n=true):=by intro i n;simp[wi,aC];omega
 simp only[qU,pB,ao,decide_eq_true_eq,bO,rising,xK,qu];constructor
 .rintro⟨⟨⟨⟨⟨a1,a2⟩,a3⟩,a4⟩,a5⟩,⟨a6,a7⟩,a8⟩;refine⟨⟨λk hk=>(a5 k hk).2,⟨⟨⟨a3,a4⟩,a1⟩,a2⟩⟩,⟨a6,λk hk=>?_⟩,a8⟩;have h1:=a5 k hk;have h2:=a7 k hk;simp[wi,aju,WV] at h1 h2 ⊢;split at h1<;>omega
 .rintro⟨⟨a5,⟨⟨⟨a3,a4⟩,a1⟩,a2⟩⟩,⟨a6,a7⟩,a8⟩;refine⟨⟨⟨⟨⟨a1,a2⟩,a3⟩,a4⟩,λk hk=>?_⟩,⟨a6,λk hk=>?_⟩,a8⟩
  .have h1:=a5 k hk;have h2:=a7 k hk;simp[wi,aju,WV] at h1 h2 ⊢;split at h1<;>(try split)<;>omega
  .have h2:=a7 k hk;simp[wi] at h2 ⊢;omega
def Dn {α β:Type}(f:α->β){l:List α}{k:Nat}(h:k<l.length):(l.take (k+1)).map f=(l.take k).map f++[f l[k]]:=by
 rw[iQ h,nH];rfl
def oF (i:Int)(n:Nat):aC i n=wi i 0 ((n:Int)-1):=by
 rw[tU];simp[wi,aC];omega
def An (o:Order):List Int:=o.choices.map (·.ask)
def D0 (o:Order):List Int:=o.rules.map (·.ask)
def rP (o:Order):Bool:=eV o.choices.length (λk=>aC (o.choices.getD k default).by_ 5)&&(rising (An o) 0 21&&rising (D0 o) 0 21)
def awz (o:Order)(h1:o.choices.length<=100000)(h2:o.rules.length<=100000):ah T 119 [kl o] (.bool (rP o)):=by
 refine zyw 79 azv ?_;simp[Yx];refine gG o.choices.length (λk=>aC (o.choices.getD k default).by_ 5) (λk=>[.bool false,.none,.int k]) (λk=>[ints ((o.choices.take k).map (·.ask))]) ?_ (λk hk ho=>?_) (λk hk ho hb=>?_) (λhj=>?_)
 .simp[ints]
 .have hw:=bt hk (by omega);have hl:(o.choices.take k).length=k:=by rw[dQ];omega
  simp[hk] at ho;rw[Dn _ hk];simp[VZ,HF,hk,hw,ints,hl];refine⟨by omega,_,gd _ _,?_⟩;simp[ho,hw]
 .have hf:rP o=false:=by simp only[rP,hb,sv]
  have hl:(o.choices.take k).length=k:=by rw[dQ];omega
  simp[hk] at ho;simp[VZ,HF,hk,ints,hl,hf];refine⟨by omega,_,gd _ _,?_⟩;simp[ho]
 .have hf:rP o=(rising (An o) 0 21&&rising (D0 o) 0 21):=by simp only[rP,hj,zY]
  rw[hf];simp[VZ,HF];refine aL.forRounds o.rules.length (λk=>[.none,.int k]) (λk=>[ints ((o.rules.take k).map (·.ask))]) ?_ (λk hk=>?_) ?_
  .simp[ints]
  .have hw:=bt hk (by omega);have hl:(o.rules.take k).length=k:=by rw[dQ];omega
   rw[Dn _ hk];simp[aiD,NM,hk,hw,ints,hl];omega
  .simp[aiD,NM];refine⟨_,H6 (An o) _ _ (by simp[An];omega),?_⟩;simp;cases e1:rising (An o) 0 21<;>simp;exact H6 (D0 o) _ _ (by simp[D0];omega)
def zi (o:Order)(k:Nat):Bool:=wi (o.choices.getD k default).ask 0 21&&wi (o.choices.getD k default).by_ 0 4&&(k==0||decide ((o.choices.getD (k-1) default).ask<(o.choices.getD k default).ask))
def CF (o:Order)(k:Nat):Bool:=wi (o.rules.getD k default).ask 0 21&&(k==0||decide ((o.rules.getD (k-1) default).ask<(o.rules.getD k default).ask))
def au1 (o:Order):(eV o.choices.length (zi o)&&eV o.rules.length (CF o))=rP o:=by
 rw[tU];simp only[rP,ao,rising,xK,An,D0,ei];have g1:∀k,k<o.choices.length->(qu (o.choices.map (·.ask)) 0 21 k=true↔wi (o.choices.getD k default).ask 0 21=true/\(k=0\/(o.choices.getD (k-1) default).ask<(o.choices.getD k default).ask)):=by
  intro k hk;have bC:k-1<o.choices.length:=by omega
  simp[qu,hk,bC]
 have g2:∀k,k<o.rules.length->(qu (o.rules.map (·.ask)) 0 21 k=true↔wi (o.rules.getD k default).ask 0 21=true/\(k=0\/(o.rules.getD (k-1) default).ask<(o.rules.getD k default).ask)):=by
  intro k hk;have bC:k-1<o.rules.length:=by omega
  simp[qu,hk,bC]
 constructor
 .rintro⟨a,b⟩;refine⟨λk hk=>?_,λk hk=>(g1 k hk).2 ?_,λk hk=>(g2 k hk).2 ?_⟩
  .have:=a k hk;simp[zi,wi,aC] at this ⊢;omega
  .have:=a k hk;simp[zi] at this ⊢;exact⟨this.1.1,this.2⟩
  .have:=b k hk;simp[CF] at this ⊢;exact this
 .rintro⟨c,a,b⟩;refine⟨λk hk=>?_,λk hk=>?_⟩
  .have h1:=(g1 k hk).1 (a k hk);have h2:=c k hk;simp[zi,wi,aC] at h1 h2 ⊢;omega
  .have h1:=(g2 k hk).1 (b k hk);simp[CF] at h1 ⊢;exact h1
def avT (o:Order)(h1:o.choices.length<=100000)(h2:o.rules.length<=100000):ah T 86 [kl o] (.bool (rP o)):=by
 rw[<-au1];refine zyw 136 ay5 ?_;simp[X7];refine gG o.choices.length (zi o) (λk=>[.bool false,.int k]) (λ_=>[]) ?_ (λk hk ho=>?_) (λk hk ho hb=>?_) (λhj=>?_)
 .simp
 .have hw:=bt hk (by omega);simp[zi,hk] at ho;simp[VH,Hl,hk];refine⟨_,cV _ _ _,?_⟩;simp[ho.1.1,hk];refine⟨_,cV _ _ _,?_⟩;by_cases gV:0<k
  .have bC:k-1<o.choices.length:=by omega
   have da:i64.wrap ((k:Int)-1)=((k-1:Nat):Int):=by rw[xm (by omega)];omega
   have h3:¬o.choices[k].ask<=o.choices[k-1].ask:=by
        rcases ho.2 with h3|h3
        .omega
        .simp[bC] at h3;omega
   simp[ho.1.2,hk,hw,da,h3,gV,bC]
  .simp[ho.1.2,hk,hw,gV];omega
 .rw[hb];simp[zi,hk] at ho;simp[VH,Hl,hk];refine⟨_,cV _ _ _,?_⟩;cases e1:wi o.choices[k].ask 0 21 with
  |false=>simp
  |true=>
   simp[hk];refine⟨_,cV _ _ _,?_⟩;cases e2:wi o.choices[k].by_ 0 4 with
   |false=>simp
   |true=>
    have h3:=ho e1 e2;have gV:0<k:=by omega
    have bC:k-1<o.choices.length:=by omega
    have da:i64.wrap ((k:Int)-1)=((k-1:Nat):Int):=by rw[xm (by omega)];omega
    have fE:=h3.2;simp[bC] at fE;simp[hk,da,fE,gV,bC]
 .rw[hj];simp[VH,Hl];refine gG o.rules.length (CF o) (λk=>[.bool false,.int k]) (λ_=>[]) ?_ (λk hk ho=>?_) (λk hk ho hb=>?_) (λhj=>?_)
  .simp
  .have hw:=bt hk (by omega);simp[CF,hk] at ho;simp[VI,Hm,hk];refine⟨_,cV _ _ _,?_⟩;by_cases gV:0<k
   .have bC:k-1<o.rules.length:=by omega
    have da:i64.wrap ((k:Int)-1)=((k-1:Nat):Int):=by rw[xm (by omega)];omega
    have h3:¬o.rules[k].ask<=o.rules[k-1].ask:=by
       rcases ho.2 with h3|h3
       .omega
       .simp[bC] at h3;omega
    simp[ho.1,hk,hw,da,h3,gV,bC]
   .simp[ho.1,hk,hw,gV];omega
  .rw[hb];simp[CF,hk] at ho;simp[VI,Hm,hk];refine⟨_,cV _ _ _,?_⟩;cases e1:wi o.rules[k].ask 0 21 with
   |false=>simp
   |true=>
    have h3:=ho e1;have gV:0<k:=by omega
    have bC:k-1<o.rules.length:=by omega
    have da:i64.wrap ((k:Int)-1)=((k-1:Nat):Int):=by rw[xm (by omega)];omega
    have fE:=h3.2;simp[bC] at fE;simp[hk,da,fE,gV,bC]
  .rw[hj];simp[VI,Hm]
def fi (r:Realm):List ByteArray:=r.cities.map (·.name)
def dF (r:Realm):List ByteArray:=r.firms.map (·.name)
def eR (r:Realm):List ByteArray:=r.orders.map (·.name)
def awy (r:Realm)(h1:r.cities.length<=100000)(h2:r.firms.length<=100000)(h3:r.orders.length<=100000):ah T 111 [aP r] (.tup [strs (fi r),strs (dF r),strs (eR r)]):=by
 refine zyw 67 azu ?_;simp[Yw];refine aL.forRounds r.cities.length (λk=>[.none,.int k]) (λk=>[strs ((r.cities.take k).map (·.name))]) ?_ (λk hk=>?_) ?_
 .simp[strs]
 .have hw:=bt hk (by omega);have hl:(r.cities.take k).length=k:=by rw[dQ];omega
  rw[Dn _ hk];simp[aiA,NJ,hk,hw,strs,hl];omega
 .simp[aiA,NJ];refine aL.forRounds r.firms.length (λk=>[.none,.int k]) (λk=>[strs ((r.firms.take k).map (·.name))]) ?_ (λk hk=>?_) ?_
  .simp[strs]
  .have hw:=bt hk (by omega);have hl:(r.firms.take k).length=k:=by rw[dQ];omega
   rw[Dn _ hk];simp[aiB,NK,hk,hw,strs,hl];omega
  .simp[aiB,NK];refine aL.forRounds r.orders.length (λk=>[.none,.int k]) (λk=>[strs ((r.orders.take k).map (·.name))]) ?_ (λk hk=>?_) ?_
   .simp[strs]
   .have hw:=bt hk (by omega);have hl:(r.orders.take k).length=k:=by rw[dQ];omega
    rw[Dn _ hk];simp[aiC,NL,hk,hw,strs,hl];omega
   .simp[aiC,NL,fi,dF,eR]
structure Small (r:Realm):Prop where
 cur:r.currencies.length<=1000
 cities:r.cities.length<=1000
 groups:r.groups.length<=1000
 firms:r.firms.length<=1000
 orders:r.orders.length<=1000
 us:r.usances.length<=1000
 rates:r.rates.length<=1000
 halts:r.halts.length<=1000
 city:∀c,c∈r.cities->c.rest.length<=1000/\c.feasts.length<=1000/\c.shut.length<=1000/\∀y,y∈c.feasts->aZ y
 order:∀o,o∈r.orders->o.choices.length<=1000/\o.rules.length<=1000
 rate:∀x,x∈r.rates->aZ x.num/\aZ x.den
def mB (r:Realm)(k j:Nat):Bool:=(r.usances.getD j default).fr !=(r.usances.getD k default).fr||(r.usances.getD j default).to !=(r.usances.getD k default).to
def zQ (r:Realm)(k:Nat):Int:=
 if(aC (r.usances.getD k default).fr r.cities.length&&aC (r.usances.getD k default).to r.cities.length&&wi (r.usances.getD k default).days 1 20000)=false then 1 else if eV k (mB r k) then 0 else 5
def vg (r:Realm):Int:=if 100<r.usances.length then 6 else fC r.usances.length (zQ r)
def awB (r:Realm)(h:Small r):ah T 120 [aP r] (.int (vg r)):=by
 refine zyw 80 azy ?_;have hu:=h.us;simp[YA,vg];by_cases h0:100<r.usances.length
 .have gn:(100:Int)<r.usances.length:=by omega
  have yi:¬r.usances.length<=100:=by omega
  simp[h0,gn,yi]
 have gn:¬(100:Int)<r.usances.length:=by omega
 simp[h0,gn];refine qw r.usances.length (zQ r) (λk=>[.int 0,.int k]) (λ_=>[]) ?_ (λk hk ho=>?_) (λk hk ho hb=>?_) (λhj=>?_)
 .simp
 .have hw:=bt hk (by omega);have ha:aC r.usances[k].fr r.cities.length=true/\aC r.usances[k].to r.cities.length=true/\wi r.usances[k].days 1 20000=true/\eV k (mB r k)=true:=by
   unfold zQ at ho;simp only[aF,aW hk,kL] at ho;cases e1:aC r.usances[k].fr r.cities.length<;>cases e2:aC r.usances[k].to r.cities.length<;>cases e3:wi r.usances[k].days 1 20000<;>cases e4:eV k (mB r k)<;>simp[e1,e2,e3,e4] at ho ⊢
  obtain⟨a1,a2,a3,a4⟩:=ha;simp[wi] at a3;have a5:¬r.usances[k].days<1:=by omega
  have a6:¬20000<r.usances[k].days:=by omega
  simp[V2,HJ,hk];refine⟨_,gd _ _,?_⟩;simp[a1];refine⟨_,gd _ _,?_⟩;simp[a2,a5,a6];refine⟨by omega,gG k (mB r k) (λj=>[.int 0,.int j]) (λ_=>[]) ?_ (λj hj fJ=>?_) (λj hj fJ de=>?_) (λsV=>?_)⟩
  .simp
  .have yS:=bt hj (by omega);have bB:j<r.usances.length:=by omega
   have hm:j<min k r.usances.length:=by omega
   simp[mB,bB,hk] at fJ;simp[NN,C7,hj,bB,hk,yS,hm];intro e e';rcases fJ with h|h
   .exact absurd e h
   .exact absurd e' h
  .rw[a4] at de;cases de
  .simp[NN,C7,hw];omega
 .simp[V2,HJ,hk,hb];refine⟨_,gd _ _,?_⟩;unfold zQ at ho ⊢;simp only[aF,aW hk,kL] at ho ⊢;cases e1:aC r.usances[k].fr r.cities.length
  .simp
  simp;refine⟨_,gd _ _,?_⟩;cases e2:aC r.usances[k].to r.cities.length
  .simp
  cases e3:wi r.usances[k].days 1 20000
  .simp[wi] at e3;by_cases g:r.usances[k].days<1
   .simp[g]
   .simp[g,e3 (by omega)]
  have EC:=e3;simp[wi] at EC;have a5:¬r.usances[k].days<1:=by omega
  have a6:¬20000<r.usances[k].days:=by omega
  simp[e1,e2,e3] at ho;simp[a5,a6];refine⟨by omega,gG k (mB r k) (λj=>[.int 0,.int j]) (λ_=>[]) ?_ (λj hj fJ=>?_) (λj hj fJ de=>?_) (λsV=>?_)⟩
  .simp
  .have yS:=bt hj (by omega);have bB:j<r.usances.length:=by omega
   have hm:j<min k r.usances.length:=by omega
   simp[mB,bB,hk] at fJ;simp[NN,C7,hj,bB,hk,yS,hm];intro e e';rcases fJ with h|h
   .exact absurd e h
   .exact absurd e' h
  .have bB:j<r.usances.length:=by omega
   have hm:j<min k r.usances.length:=by omega
   simp[mB,bB,hk] at fJ;simp[NN,C7,hj,bB,hk,ho,hm]
   first|exact fJ|simp[fJ]
  .rw[sV] at ho;cases ho
 .simp[V2,HJ,hj]
def avY (r:Realm)(h:Small r):ah T 49 [aP r] (.int (vg r)):=by
 refine zyw 137 azd ?_;have hu:=h.us;have hc:=h.cities;simp[Yf,vg];by_cases h0:100<r.usances.length
 .have gn:(100:Int)<r.usances.length:=by omega
  have yi:¬r.usances.length<=100:=by omega
  simp[h0,gn,yi]
 have gn:¬(100:Int)<r.usances.length:=by omega
 simp[h0,gn];refine qw r.usances.length (zQ r) (λk=>[.int 0,.int k]) (λ_=>[]) ?_ (λk hk ho=>?_) (λk hk ho hb=>?_) (λhj=>?_)
 .simp
 .have hw:=bt hk (by omega);have ha:aC r.usances[k].fr r.cities.length=true/\aC r.usances[k].to r.cities.length=true/\wi r.usances[k].days 1 20000=true/\eV k (mB r k)=true:=by
   unfold zQ at ho;simp only[aF,aW hk,kL] at ho;cases e1:aC r.usances[k].fr r.cities.length<;>cases e2:aC r.usances[k].to r.cities.length<;>cases e3:wi r.usances[k].days 1 20000<;>cases e4:eV k (mB r k)<;>simp[e1,e2,e3,e4] at ho ⊢
  obtain⟨a1,a2,a3,a4⟩:=ha;rw[oF] at a1 a2;simp[VR,Hv,hk,tS _ (show r.cities.length<=4294967296 by omega)];refine⟨_,cV _ _ _,?_⟩;simp[a1,tS _ (show r.cities.length<=4294967296 by omega)];refine⟨_,cV _ _ _,?_⟩;simp[a2];refine⟨_,cV _ _ _,?_⟩;simp[a3];refine gG k (mB r k) (λj=>[.int 0,.int j]) (λ_=>[]) ?_ (λj hj fJ=>?_) (λj hj fJ de=>?_) (λsV=>?_)
  .simp
  .have yS:=bt hj (by omega);have bB:j<r.usances.length:=by omega
   simp[mB,bB,hk] at fJ;simp[NH,C4,hj,bB,hk,yS];intro e e';rcases fJ with h|h
   .exact absurd e h
   .exact absurd e' h
  .rw[a4] at de;cases de
  .simp[NH,C4,hw]
 .simp[VR,Hv,hk,hb,tS _ (show r.cities.length<=4294967296 by omega)];refine⟨_,cV _ _ _,?_⟩;unfold zQ at ho ⊢;simp only[aF,aW hk,kL,oF] at ho ⊢;cases e1:wi r.usances[k].fr 0 ((r.cities.length:Int)-1)
  .simp
  simp[tS _ (show r.cities.length<=4294967296 by omega)];refine⟨_,cV _ _ _,?_⟩;cases e2:wi r.usances[k].to 0 ((r.cities.length:Int)-1)
  .simp
  simp;refine⟨_,cV _ _ _,?_⟩;cases e3:wi r.usances[k].days 1 20000
  .simp
  simp[e1,e2,e3] at ho;simp;refine gG k (mB r k) (λj=>[.int 0,.int j]) (λ_=>[]) ?_ (λj hj fJ=>?_) (λj hj fJ de=>?_) (λsV=>?_)
  .simp
  .have yS:=bt hj (by omega);have bB:j<r.usances.length:=by omega
   simp[mB,bB,hk] at fJ;simp[NH,C4,hj,bB,hk,yS];intro e e';rcases fJ with h|h
   .exact absurd e h
   .exact absurd e' h
  .have bB:j<r.usances.length:=by omega
   simp[mB,bB,hk] at fJ;simp[NH,C4,hj,bB,hk,ho]
   first|exact fJ|simp[fJ]
  .rw[sV] at ho;cases ho
 .simp[VR,Hv,hj]
def zD (r:Realm)(k:Nat):Bool:=aC (r.rates.getD k default).fr r.currencies.length&&aC (r.rates.getD k default).to r.currencies.length&&((r.rates.getD k default).fr !=(r.rates.getD k default).to)&&
 wi (r.rates.getD k default).num 1 1073741824&&wi (r.rates.getD k default).den 1 1073741824&&wi (r.rates.getD k default).since 0 100000
def vL (r:Realm)(k:Nat):Bool:=aC (r.halts.getD k default).order r.orders.length&&wi (r.halts.getD k default).fr 0 (r.halts.getD k default).to&&decide ((r.halts.getD k default).to<=100000)
def oR (r:Realm):Int:=if 100<r.rates.length then 6 else if eV r.rates.length (zD r)=false then 1 else if 20<r.halts.length then 6 else if eV r.halts.length (vL r) then 0 else 1
def LW {n:Int}(h:aZ n)(m:Int)(hm:0<=m/\m<=4294967296):aC (i64.wrap (n-1)) m=wi n 1 m:=by
 unfold aZ at h;by_cases e:n=-9223372036854775808
 .subst e;have:i64.wrap (-9223372036854775808-1)=9223372036854775807:=by decide
  rw[this,tU];simp[aC,wi];omega
 .rw[aQ (by omega),tU];simp[aC,wi];omega
def aeh (n:Int):aC n 100001=wi n 0 100000:=by rw[tU];simp[aC,wi];omega
def awA (r:Realm)(h:Small r):ah T 121 [aP r] (.int (oR r)):=by
 refine zyw 81 azw ?_;have hu:=h.rates;have hh:=h.halts;simp[Yy,oR];by_cases h0:100<r.rates.length
 .have gn:(100:Int)<r.rates.length:=by omega
  have yi:¬r.rates.length<=100:=by omega
  simp[h0,gn,yi]
 have gn:¬(100:Int)<r.rates.length:=by omega
 simp[h0,gn];have key:∀k (hk:k<r.rates.length),∀{O:Env} {Q:Out->Prop},True:=λ_ _ _ _=>trivial;refine gG r.rates.length (zD r) (λk=>[.int 0,.int k]) (λ_=>[]) ?_ (λk hk ho=>?_) (λk hk ho hb=>?_) (λhj=>?_)
 .simp
 .have hw:=bt hk (by omega);have hI:=h.rate _ (bV hk);simp[zD,hk] at ho;obtain⟨⟨⟨⟨⟨a1,a2⟩,a3⟩,a4⟩,a5⟩,a6⟩:=ho;simp[V0,HG,hk];refine⟨_,gd _ _,?_⟩;simp[a1];refine⟨_,gd _ _,?_⟩;simp[a2,a3];refine⟨_,gd _ _,?_⟩;simp[LW hI.1,a4];refine⟨_,gd _ _,?_⟩;simp[LW hI.2,a5];refine⟨_,gd _ _,?_⟩;simp[aeh,a6,hw]
 .have hI:=h.rate _ (bV hk);rw[hb];simp[zD,hk] at ho;simp[V0,HG,hk];refine⟨_,gd _ _,?_⟩;cases e1:aC r.rates[k].fr r.currencies.length
  .simp
  simp;refine⟨_,gd _ _,?_⟩;cases e2:aC r.rates[k].to r.currencies.length
  .simp
  by_cases e3:r.rates[k].fr=r.rates[k].to
  .simp[e3]
  simp[e3];refine⟨_,gd _ _,?_⟩;rw[LW hI.1 _ (by omega)];cases e4:wi r.rates[k].num 1 1073741824
  .simp
  simp;refine⟨_,gd _ _,?_⟩;rw[LW hI.2 _ (by omega)];cases e5:wi r.rates[k].den 1 1073741824
  .simp
  simp;refine⟨_,gd _ _,?_⟩;rw[aeh];simp[ho e1 e2 e3 e4 e5]
 .rw[hj];simp[V0,HG];by_cases h1:20<r.halts.length
  .have cA:(20:Int)<r.halts.length:=by omega
   have Ri:¬r.halts.length<=20:=by omega
   simp[h1,cA,Ri]
  have cA:¬(20:Int)<r.halts.length:=by omega
  simp[h1,cA];refine gG r.halts.length (vL r) (λk=>[.int 0,.int k]) (λ_=>[]) ?_ (λk hk ho=>?_) (λk hk ho hb=>?_) (λhj=>?_)
  .simp
  .have hw:=bt hk (by omega);simp[vL,wi,hk] at ho;obtain⟨⟨a1,a2⟩,a3⟩:=ho;have b1:¬r.halts[k].fr<0:=by omega
   have b2:¬r.halts[k].to<r.halts[k].fr:=by omega
   have b3:¬100000<r.halts[k].to:=by omega
   simp[V1,HI,hk];refine⟨_,gd _ _,?_⟩;simp[a1,b1,b2,b3,hw]
  .rw[hb];simp[vL,wi,hk] at ho;simp[V1,HI,hk];refine⟨_,gd _ _,?_⟩;cases e1:aC r.halts[k].order r.orders.length
   .simp
   have:=ho e1;by_cases b1:r.halts[k].fr<0
   .simp[b1]
   by_cases b2:r.halts[k].to<r.halts[k].fr
   .simp[b1,b2]
   have b3:100000<r.halts[k].to:=this (by omega) (by omega);simp[b1,b2,b3]
  .rw[hj];simp[V1,HI]
def avX (r:Realm)(h:Small r):ah T 50 [aP r] (.int (oR r)):=by
 refine zyw 138 azc ?_;have hu:=h.rates;have hh:=h.halts;have hc:=tS r.currencies.length (by have:=h.cur;omega);have LG:=tS r.orders.length (by have:=h.orders;omega);simp[Ye,oR];by_cases h0:100<r.rates.length
 .have gn:(100:Int)<r.rates.length:=by omega
  have yi:¬r.rates.length<=100:=by omega
  simp[h0,gn,yi]
 have gn:¬(100:Int)<r.rates.length:=by omega
 simp[h0,gn];refine gG r.rates.length (zD r) (λk=>[.int 0,.int k]) (λ_=>[]) ?_ (λk hk ho=>?_) (λk hk ho hb=>?_) (λhj=>?_)
 .simp
 .have hw:=bt hk (by omega);simp[zD,hk,oF] at ho;obtain⟨⟨⟨⟨⟨a1,a2⟩,a3⟩,a4⟩,a5⟩,a6⟩:=ho;simp[VP,Ht,hk,hc];refine⟨_,cV _ _ _,?_⟩;simp[a1,hc];refine⟨_,cV _ _ _,?_⟩;simp[a2,a3];refine⟨_,cV _ _ _,?_⟩;simp[a4];refine⟨_,cV _ _ _,?_⟩;simp[a5];refine⟨_,cV _ _ _,?_⟩;simp[a6,hw]
 .rw[hb];simp[zD,hk,oF] at ho;simp[VP,Ht,hk,hc];refine⟨_,cV _ _ _,?_⟩;cases e1:wi r.rates[k].fr 0 ((r.currencies.length:Int)-1)
  .simp
  simp[hc];refine⟨_,cV _ _ _,?_⟩;cases e2:wi r.rates[k].to 0 ((r.currencies.length:Int)-1)
  .simp
  by_cases e3:r.rates[k].fr=r.rates[k].to
  .simp[e3]
  simp[e3];refine⟨_,cV _ _ _,?_⟩;cases e4:wi r.rates[k].num 1 1073741824
  .simp
  simp;refine⟨_,cV _ _ _,?_⟩;cases e5:wi r.rates[k].den 1 1073741824
  .simp
  simp;refine⟨_,cV _ _ _,?_⟩;simp[ho e1 e2 e3 e4 e5]
 .rw[hj];simp[VP,Ht];by_cases h1:20<r.halts.length
  .have cA:(20:Int)<r.halts.length:=by omega
   have Ri:¬r.halts.length<=20:=by omega
   simp[h1,cA,Ri]
  have cA:¬(20:Int)<r.halts.length:=by omega
  simp[h1,cA];refine gG r.halts.length (vL r) (λk=>[.int 0,.int k]) (λ_=>[]) ?_ (λk hk ho=>?_) (λk hk ho hb=>?_) (λhj=>?_)
  .simp
  .have hw:=bt hk (by omega);simp[vL,hk,oF] at ho;obtain⟨⟨a1,a2⟩,a3⟩:=ho;have b3:¬100000<r.halts[k].to:=by omega
   simp[VQ,Hu,hk,LG];refine⟨_,cV _ _ _,?_⟩;simp[a1];refine⟨_,cV _ _ _,?_⟩;simp[a2,b3,hw]
  .rw[hb];simp[vL,hk,oF] at ho;simp[VQ,Hu,hk,LG];refine⟨_,cV _ _ _,?_⟩;cases e1:wi r.halts[k].order 0 ((r.orders.length:Int)-1)
   .simp
   simp;refine⟨_,cV _ _ _,?_⟩;cases e2:wi r.halts[k].fr 0 r.halts[k].to
   .simp
   simp[ho e1 e2]
  .rw[hj];simp[VQ,Hu]
def fe:List Int->Int
 |[]=>0
 |x::l=>if x=0 then fe l else x
def N3:∀{l:List Int},fe l=0↔∀x,x∈l->x=0
 |[]=>by simp[fe]
 |x::l=>by
  simp only[fe,cB,forall_eq_or_imp];by_cases h:x=0
  .simp[h,N3 (l:=l)]
  .simp[h]
def jM (r:Realm)(i:Nat):Bool:=aC (r.firms.getD i default).city r.cities.length&&aC (r.firms.getD i default).group r.groups.length
def pA (r:Realm)(i:Nat):Bool:=pB r (r.cities.getD i default)
def nf (r:Realm)(i:Nat):Bool:=rP (r.orders.getD i default)
def vJ (r:Realm)(i:Nat):Bool:=aC (r.groups.getD i default).grade 10
def rk (r:Realm):Int:=if 20<r.groups.length then 6 else if eV r.groups.length (vJ r) then 0 else 1
def dv (r:Realm):Int:=fe [dj r.currencies 8 (λ_=>true),dj (fi r) 40 (pA r),rk r,dj (dF r) 200 (jM r),dj (eR r) 20 (nf r),vg r,oR r]
def alA (i:Int):ah T 113 [.int i] (.bool true):=by
 refine zyw 73 azj ?_;simp[Ym]
def alB (r:Realm)(h:Small r)(i:Nat)(hi:i<r.cities.length):ah T 114 [.int i,.ref (aP r)] (.bool (pA r i)):=by
 refine zyw 74 azk ?_;obtain⟨h1,h2,h3,h4⟩:=h.city _ (bV hi);simp[Yn,hi,pA];exact awu r r.cities[i] (by omega) (by omega) (by omega)
def alC (r:Realm)(i:Nat)(hi:i<r.firms.length):ah T 117 [.int i,.ref (aP r)] (.bool (jM r i)):=by
 refine zyw 77 azl ?_;simp[Yo,hi,jM];refine⟨_,gd _ _,?_⟩;simp[hi];cases e1:aC r.firms[i].city r.cities.length<;>simp;exact gd _ _
def alD (r:Realm)(h:Small r)(i:Nat)(hi:i<r.orders.length):ah T 118 [.int i,.ref (aP r)] (.bool (nf r i)):=by
 refine zyw 78 azm ?_;obtain⟨h1,h2⟩:=h.order _ (bV hi);simp[Yp,hi,nf];exact awz r.orders[i] (by omega) (by omega)
def NU (r:Realm)(h:Small r):ah T 72 [aP r] (.int (dv r)):=by
 refine zyw 66 azn ?_;have g1:=h.cur;have g2:=h.cities;have g3:=h.firms;have g4:=h.orders;have g5:=h.groups;simp[Yl];refine⟨_,awy r (by omega) (by omega) (by omega),?_⟩;simp;refine⟨_,NV r.currencies 8 113 [] (λ_=>true) (λi _=>alA _) (by omega),?_⟩;unfold dv;generalize e1:dj r.currencies 8 (λ_=>true)=x1;by_cases z1:x1=0
 case neg=>simp[z1,fe]
 simp[z1,fe];refine⟨_,NV (fi r) 40 114 [.ref (aP r)] (pA r) (λi hi=>alB r h i (by simpa [fi] using hi)) (by simp[fi];omega),?_⟩;generalize e2:dj (fi r) 40 (pA r)=x2;by_cases z2:x2=0
 case neg=>simp[z2]
 simp[z2];by_cases z3:20<r.groups.length
 .have ZX:(20:Int)<r.groups.length:=by omega
  simp[ZX,rk,z3]
 have ZX:¬(20:Int)<r.groups.length:=by omega
 simp[ZX,rk,z3];refine gG r.groups.length (vJ r) (λk=>[.int 0,.int k]) (λ_=>[]) ?_ (λk hk ho=>?_) (λk hk ho hb=>?_) (λhj=>?_)
 .simp
 .have hw:=bt hk (by omega);simp[vJ,hk] at ho;simp[VV,Hz,hk];refine⟨_,gd _ _,?_⟩;simp[ho,hw]
 .simp[vJ,hk] at ho;rw[hb];simp[VV,Hz,hk];refine⟨_,gd _ _,?_⟩;simp[ho]
 .rw[hj];simp[VV,Hz];refine⟨_,NV (dF r) 200 117 [.ref (aP r)] (jM r) (λi hi=>alC r i (by simpa [dF] using hi)) (by simp[dF];omega),?_⟩;generalize e4:dj (dF r) 200 (jM r)=x4;by_cases z4:x4=0
  case neg=>simp[z4]
  simp[z4];refine⟨_,NV (eR r) 20 118 [.ref (aP r)] (nf r) (λi hi=>alD r h i (by simpa [eR] using hi)) (by simp[eR];omega),?_⟩;generalize e5:dj (eR r) 20 (nf r)=x5;by_cases z5:x5=0
  case neg=>simp[z5]
  simp[z5];refine⟨_,awB r h,?_⟩;generalize e6:vg r=x6;by_cases z6:x6=0
  case neg=>simp[z6]
  simp[z6];have e7:(if oR r=0 then 0 else oR r)=oR r:=by split<;>simp_all
  rw[e7];exact awA r h
def anO (l:List ByteArray)(k:Nat):km l (λ_=>true) k=iz l k:=by
 unfold km;by_cases h:iz l k=0<;>simp[h]
def BC {l:List ByteArray}{g:Nat->Bool}{k:Nat}(h:km l g k=0):iz l k=0/\g k=true:=by
 unfold km at h;by_cases h1:iz l k=0
 .simp[h1] at h;exact⟨h1,h⟩
 .simp[h1] at h
def Q4 {l:List ByteArray}{g:Nat->Bool}{k:Nat}(h:km l g k≠0):(iz l k≠0/\km l g k=iz l k)\/(iz l k=0/\g k=false/\km l g k=1):=by
 unfold km at h ⊢;by_cases h1:iz l k=0
 .simp[h1] at h ⊢;simp[h]
 .simp[h1]
def avU (r:Realm)(h:Small r):ah T 46 [aP r] (.int (fe [dj r.currencies 8 (λ_=>true),dj (fi r) 40 (pA r)])):=by
 refine zyw 126 ay8 ?_;have g1:=h.cur;have g2:=h.cities;have g4:=h.orders;simp[Ya];unfold dj;by_cases z1:(8:Int)<r.currencies.length
 .simp[z1,fe]
 simp[z1,fe];refine qw r.currencies.length (km r.currencies (λ_=>true)) (λk=>[.int 0,.int k]) (λ_=>[]) ?_ (λk hk ho=>?_) (λk hk ho hb=>?_) (λhj=>?_)
 .simp
 .have hw:=bt hk (by omega);simp[VK,Ho,hk];refine⟨_,G0 _ k hk (by omega),?_⟩;simp[(BC ho).1,hw]
 .rw[hb];simp[VK,Ho,hk,ho];rw[anO];exact G0 _ k hk (by omega)
 .rw[hj];simp[VK,Ho];have hlen:(fi r).length=r.cities.length:=by simp[fi]
  rw[hlen];by_cases z2:(40:Int)<r.cities.length
  .simp[z2]
  simp[z2];have key:∀k (hk:k<r.cities.length),((fi r).take k).length=k/\D.list (List.take k (List.map str (fi r))++[str r.cities[k].name])=strs ((fi r).take (k+1))/\
     ah T 83 [strs ((fi r).take (k+1)),.int k] (.int (iz (fi r) k))/\ah T 84 [aP r,gR r.cities[k]] (.bool (pA r k)):=by
   intro k hk;have bf:k<(fi r).length:=by omega
   have hg:(fi r)[k]=r.cities[k].name:=by simp[fi]
   have hs:(fi r).take (k+1)=(fi r).take k++[(fi r)[k]]:=iQ bf;have hn:=G0 ((fi r).take (k+1)) k (by rw[dQ];omega) (by rw[dQ];omega);rw[Tz _ _ _ (by omega)] at hn;obtain⟨c1,c2,c3,c4⟩:=h.city _ (bV hk);have hc:=avS r r.cities[k] (by omega) (by omega) (by omega) (by omega) (by omega) c4;rw[alL] at hc;exact⟨by rw[dQ];omega,by rw[hs,hg];simp[strs],hn,by simpa [pA,hk] using hc⟩
  refine qw r.cities.length (km (fi r) (pA r)) (λk=>[.int 0,.none,.int k]) (λk=>[strs ((fi r).take k)]) ?_ (λk hk ho=>?_) (λk hk ho hb=>?_) (λhj=>?_)
  .simp[strs]
  .have hw:=bt hk (by omega);obtain⟨hl,eu,hn,hc⟩:=key k hk;obtain⟨o1,o2⟩:=BC ho;rw[o1] at hn;rw[o2] at hc;simp[VL,Hp,hk,hl,eu,axt];refine⟨by omega,_,hn,?_⟩;simp[hk];refine⟨_,hc,?_⟩;simp[hw]
  .rw[hb];obtain⟨hl,eu,hn,hc⟩:=key k hk;simp[VL,Hp,hk,hl,eu,ho];refine⟨by omega,_,hn,?_⟩;rcases Q4 ho with⟨o1,o2⟩|⟨o1,o2,o3⟩
   .simp[o1,o2]
   .rw[o2] at hc;simp[o1,o3,hk];refine⟨_,hc,?_⟩;simp
  .rw[hj];simp[VL,Hp]
def avV (r:Realm)(h:Small r):ah T 47 [aP r] (.int (fe [rk r,dj (dF r) 200 (jM r)])):=by
 refine zyw 134 ay9 ?_;have g1:=h.groups;have g2:=h.firms;have g3:=h.cities;have w3:=tS r.cities.length (by omega);have w1:=tS r.groups.length (by omega);simp[Yb];by_cases z1:20<r.groups.length
 .have ZW:(20:Int)<r.groups.length:=by omega
  simp[ZW,rk,z1,fe]
 have ZW:¬(20:Int)<r.groups.length:=by omega
 simp[ZW,rk,z1,fe];refine gG r.groups.length (vJ r) (λk=>[.int 0,.int k]) (λ_=>[]) ?_ (λk hk ho=>?_) (λk hk ho hb=>?_) (λhj=>?_)
 .simp
 .have hw:=bt hk (by omega);simp[vJ,hk] at ho;have e:wi r.groups[k].grade 0 9=aC r.groups[k].grade 10:=by rw[tU];simp[wi,aC];omega
  simp[VM,Hq,hk];refine⟨_,cV _ _ _,?_⟩;simp[e,ho,hw]
 .simp[vJ,hk] at ho;have e:wi r.groups[k].grade 0 9=aC r.groups[k].grade 10:=by rw[tU];simp[wi,aC];omega
  rw[hb];simp[VM,Hq,hk];refine⟨_,cV _ _ _,?_⟩;simp[e,ho]
 .rw[hj];simp[VM,Hq];unfold dj;have hlen:(dF r).length=r.firms.length:=by simp[dF]
  rw[hlen];by_cases z2:(200:Int)<r.firms.length
  .simp[z2]
  simp[z2];have key:∀k (hk:k<r.firms.length),((dF r).take k).length=k/\D.list (List.take k (List.map str (dF r))++[str r.firms[k].name])=strs ((dF r).take (k+1))/\
     ah T 83 [strs ((dF r).take (k+1)),.int k] (.int (iz (dF r) k))/\jM r k=(wi r.firms[k].city 0 ((r.cities.length:Int)-1)&&wi r.firms[k].group 0 ((r.groups.length:Int)-1)):=by
   intro k hk;have bf:k<(dF r).length:=by omega
   have hg:(dF r)[k]=r.firms[k].name:=by simp[dF]
   have hs:(dF r).take (k+1)=(dF r).take k++[(dF r)[k]]:=iQ bf;have hn:=G0 ((dF r).take (k+1)) k (by rw[dQ];omega) (by rw[dQ];omega);rw[Tz _ _ _ (by omega)] at hn;exact⟨by rw[dQ];omega,by rw[hs,hg];simp[strs],hn,by simp[jM,hk,oF]⟩
  refine qw r.firms.length (km (dF r) (jM r)) (λk=>[.int 0,.none,.int k]) (λk=>[strs ((dF r).take k)]) ?_ (λk hk ho=>?_) (λk hk ho hb=>?_) (λhj=>?_)
  .simp[strs]
  .have hw:=bt hk (by omega);obtain⟨hl,eu,hn,hc⟩:=key k hk;obtain⟨o1,o2⟩:=BC ho;rw[o1] at hn;rw[o2] at hc;have hc':=Bool.and_eq_true_iff.1 hc.symm;simp[VN,Hr,hk,hl,eu];refine⟨by omega,_,hn,?_⟩;simp[hk,w3];refine⟨_,cV _ _ _,?_⟩;simp[hc'.1,hk,w1];refine⟨_,cV _ _ _,?_⟩;simp[hc'.2,hw]
  .rw[hb];obtain⟨hl,eu,hn,hc⟩:=key k hk;simp[VN,Hr,hk,hl,eu,ho];refine⟨by omega,_,hn,?_⟩;rcases Q4 ho with⟨o1,o2⟩|⟨o1,o2,o3⟩
   .simp[o1,o2]
   .rw[o2] at hc;simp[o1,o3,hk,w3];refine⟨_,cV _ _ _,?_⟩;cases e1:wi r.firms[k].city 0 ((r.cities.length:Int)-1)
    .simp
    rw[e1,zY] at hc;simp[hk,w1];refine⟨_,cV _ _ _,?_⟩;simp[<-hc]
  .rw[hj];simp[VN,Hr]
def avW (r:Realm)(h:Small r):ah T 48 [aP r] (.int (dj (eR r) 20 (nf r))):=by
 refine zyw 135 azb ?_;have g2:=h.orders;simp[Yd];unfold dj;have hlen:(eR r).length=r.orders.length:=by simp[eR]
 rw[hlen];by_cases z2:(20:Int)<r.orders.length
 .simp[z2]
 simp[z2];have key:∀k (hk:k<r.orders.length),((eR r).take k).length=k/\D.list (List.take k (List.map str (eR r))++[str r.orders[k].name])=strs ((eR r).take (k+1))/\
  ah T 83 [strs ((eR r).take (k+1)),.int k] (.int (iz (eR r) k))/\ah T 86 [kl r.orders[k]] (.bool (nf r k)):=by
  intro k hk;have bf:k<(eR r).length:=by omega
  have hg:(eR r)[k]=r.orders[k].name:=by simp[eR]
  have hs:(eR r).take (k+1)=(eR r).take k++[(eR r)[k]]:=iQ bf;have hn:=G0 ((eR r).take (k+1)) k (by rw[dQ];omega) (by rw[dQ];omega);rw[Tz _ _ _ (by omega)] at hn;obtain⟨c1,c2⟩:=h.order _ (bV hk);exact⟨by rw[dQ];omega,by rw[hs,hg];simp[strs],hn,by simpa [nf,hk] using avT r.orders[k] (by omega) (by omega)⟩
 refine qw r.orders.length (km (eR r) (nf r)) (λk=>[.int 0,.none,.int k]) (λk=>[strs ((eR r).take k)]) ?_ (λk hk ho=>?_) (λk hk ho hb=>?_) (λhj=>?_)
 .simp[strs]
 .have hw:=bt hk (by omega);obtain⟨hl,eu,hn,hc⟩:=key k hk;obtain⟨o1,o2⟩:=BC ho;rw[o1] at hn;rw[o2] at hc;simp[VO,Hs,hk,hl,eu];refine⟨by omega,_,hn,?_⟩;simp[hk];refine⟨_,hc,?_⟩;simp[hw]
 .rw[hb];obtain⟨hl,eu,hn,hc⟩:=key k hk;simp[VO,Hs,hk,hl,eu,ho];refine⟨by omega,_,hn,?_⟩;rcases Q4 ho with⟨o1,o2⟩|⟨o1,o2,o3⟩
  .simp[o1,o2]
  .rw[o2] at hc;simp[o1,o3,hk];refine⟨_,hc,?_⟩;simp
 .rw[hj];simp[VO,Hs]
def avP (r:Realm)(h:Small r):ah T 23 [aP r] (.int (dv r)):=by
 refine zyw 125 ay0 ?_
 have e:dv r=fe [fe [dj r.currencies 8 (λ_=>true),dj (fi r) 40 (pA r)],fe [rk r,dj (dF r) 200 (jM r)],dj (eR r) 20 (nf r),vg r,oR r]:=by
  unfold dv;simp only[fe];split<;>(try split)<;>(try split)<;>(try split)<;>simp_all
 rw[e];simp[X2];refine⟨_,avU r h,?_⟩;have h1:=avV r h;generalize fe [dj r.currencies 8 (λ_=>true),dj (fi r) 40 (pA r)]=x1 at*;generalize fe [rk r,dj (dF r) 200 (jM r)]=x2 at*;have h2:=avW r h;generalize dj (eR r) 20 (nf r)=x3 at*;have h3:=avY r h;generalize vg r=x4 at*;have h4:=avX r h;generalize oR r=x5 at*;by_cases z1:x1=0
 case neg=>simp[z1,fe]
 simp[z1,fe];refine⟨_,h1,?_⟩;by_cases z2:x2=0
 case neg=>simp[z2]
 simp[z2];refine⟨_,h2,?_⟩;by_cases z3:x3=0
 case neg=>simp[z3]
 simp[z3];refine⟨_,h3,?_⟩;by_cases z4:x4=0
 case neg=>simp[z4]
 simp[z4];have e7:(if x5=0 then 0 else x5)=x5:=by split<;>simp_all
 rw[e7];exact h4
def kG:Nat->Tm->Int->Int
 |0,_,_=>-1
 |L+1,t,n=>t.args.foldl (λm a=>if 0<=m then kG L a m else m) (n-1)
def size_le:∀(L:Nat) (t:Tm) (n:Int),0<=n->-1<=kG L t n/\kG L t n<=n
 |0,t,n,h=>by simp[kG];omega
 |L+1,t,n,h=>by
  have key:∀(l:List Tm) (m:Int),-1<=m->m<=n->-1<=l.foldl (λm a=>if 0<=m then kG L a m else m) m/\l.foldl (λm a=>if 0<=m then kG L a m else m) m<=n:=by
   intro l
   induction l with
   |nil=>intro m h1 h2;exact⟨h1,h2⟩
   |cons a l ih=>
    intro m h1 h2;simp only[xy];split
    .rename_i hm;have:=size_le L a m hm;exact ih _ this.1 (by omega)
    .exact ih _ h1 h2
  exact key _ _ (by omega) (by omega)
def ajc (L:Nat):∀(l:List Tm) (m:Int),m<0->l.foldl (λm a=>if 0<=m then kG L a m else m) m=m
 |[],m,h=>rfl
 |a::l,m,h=>by simp only[xy];rw[if_neg (by omega)];exact ajc L l m h
def aoX {α β:Type}(f:β->α->β)(b:β){l:List α}{k:Nat}(h:k<l.length):(l.take (k+1)).foldl f b=f ((l.take k).foldl f b) l[k]:=by
 rw[iQ h,tY];rfl
def aoW {α β:Type}(f:β->α->β)(b:β)(l:List α)(k:Nat):l.foldl f b=(l.drop k).foldl f ((l.take k).foldl f b):=by
 rw[<-tY,IP]
def _root_.Cx.Tm.OK.len {t:Tm}(h:t.OK):t.args.length<=9223372036854775807:=by cases h with|mk o n xs h1 h2 h3 h4=>exact h3
def _root_.Cx.Tm.OK.arg {t:Tm}(h:t.OK){a:Tm}(ha:a∈t.args):a.OK:=by cases h with|mk o n xs h1 h2 h3 h4=>exact h4 a ha
def aib:∀(L:Nat) (t:Tm) (n:Int),t.OK->0<=n->n<=1000->L<=1000->ah T 127 [dS t,.int n,.int L] (.int (kG L t n))
 |0,t,n,ht,h0,h1,hL=>by
  refine .of_tree rfl aaS ajx ?_;simp[OA,kG]
 |L+1,t,n,ht,h0,h1,hL=>by
  refine .of_tree rfl aaS ajx ?_;have mT:i64.wrap (n-1)=n-1:=aQ (by omega);have hl:=ht.len;have jR:¬((L:Int)+1<1):=by omega
  simp[OA,mT,jR]
  let g:Nat->Int:=λk=>(t.args.take k).foldl (λm a=>if 0<=m then kG L a m else m) (n-1)
  have gb:∀k,-1<=g k/\g k<=1000:=by
   intro k;have:g k=kG (L+1) (.mk 0 0 (t.args.take k)) n:=rfl;have:=size_le (L+1) (.mk 0 0 (t.args.take k)) n h0;omega
  refine .scan t.args.length (λk=>0<=g k) (λk=>[.int (g k),.int k]) (λ_=>[]) ?_ (λk hk hj ho=>?_) (λk hk hj ho=>?_) (λhj=>?_)
  .simp[g,mT]
  .have hw:i64.wrap ((k:Int)+1)=(k:Int)+1:=aQ (by omega);have LQ:i64.wrap (L:Int)=(L:Int):=aQ (by omega);have hg:g (k+1)=kG L t.args[k] (g k):=by
    show(t.args.take (k+1)).foldl _ _=_;rw[aoX _ _ hk];show(if 0<=g k then _ else _)=_;rw[if_pos ho]
   rw[hg];have jw:=aib L t.args[k] (g k) (ht.arg (bV hk)) ho (gb k).2 (by omega);generalize g k=m at*;simp[VS,Hw,hk,ho,LQ];refine⟨_,jw,?_⟩;simp[hw]
  .have hf:kG (L+1) t n=g k:=by
    show t.args.foldl _ _=_;rw[aoW _ _ _ k];exact ajc L _ _ (by show g k<0;omega)
   rw[hf];generalize g k=m at*;simp[VS,Hw,hk,ho]
  .have hf:kG (L+1) t n=g t.args.length:=by
    show t.args.foldl _ _=(t.args.take t.args.length).foldl _ _;rw[DN]
   rw[hf];generalize g t.args.length=m at*;simp[VS,Hw]
def aia (t:Tm)(ht:t.OK):ah T 82 [dS t] (.bool (decide (0<=kG 20 t 100))):=by
 refine zyw 123 azf ?_;simp[Yh];refine⟨_,aib 20 t 100 ht (by omega) (by omega) (by omega),?_⟩;simp
def sN (o:Order):Bool:=(decide (o.rules.length<=60)&&decide (o.choices.length<=60))&&eV o.rules.length (λk=>decide (0<=kG 20 (o.rules.getD k default).term 100))
def aic (o:Order)(ho:o.OK):ah T 45 [kl o] (.bool (sN o)):=by
 refine zyw 122 azh ?_;simp[Yj];by_cases h1:(o.rules.length:Int)<=60
 case neg=>
  have cA:(60:Int)<o.rules.length:=by omega
  have hf:sN o=false:=by
   have:decide (o.rules.length<=60)=false:=decide_eq_false (by omega);simp only[sN,this,sv]
  simp[cA,hf]
 by_cases h2:(o.choices.length:Int)<=60
 case neg=>
  have cA:(60:Int)<o.choices.length:=by omega
  have hf:sN o=false:=by
   have:decide (o.choices.length<=60)=false:=decide_eq_false (by omega);simp only[sN,this,sv,zX]
  simp[cA,hf]
 have cA:¬(60:Int)<o.rules.length:=by omega
 have gS:¬(60:Int)<o.choices.length:=by omega
 have hf:sN o=eV o.rules.length (λk=>decide (0<=kG 20 (o.rules.getD k default).term 100)):=by
  have e1:decide (o.rules.length<=60)=true:=decide_eq_true (by omega);have e2:decide (o.choices.length<=60)=true:=decide_eq_true (by omega);simp only[sN,e1,e2,zY]
 rw[hf];simp[cA,gS];have hO:=ho.2.2;refine gG o.rules.length (λk=>decide (0<=kG 20 (o.rules.getD k default).term 100)) (λk=>[.bool false,.int k]) (λ_=>[]) ?_ (λk hk ho=>?_) (λk hk ho hb=>?_) (λhj=>?_)
 .simp
 .have hw:=bt hk (by omega);simp[hk] at ho;simp[VT,Hx,hk];refine⟨_,aia _ (hO _ (bV hk)).2,?_⟩;simp[ho,hw]
 .simp only[aF] at hb;rw[hb];simp[hk] at ho;simp[VT,Hx,hk];refine⟨_,aia _ (hO _ (bV hk)).2,?_⟩;simp[ho]
 .simp only[aF] at hj;rw[hj];simp[VT,Hx]
def EW (f:File):Bool:=decide ((f.signs.length:Int)<=50)&&decide ((f.alters.length:Int)<=10)&&decide ((f.acts.length:Int)<=110)&&decide ((f.facts.length:Int)<=220)
def av4 (f:File):ah T 44 [ct f] (.bool (EW f)):=by
 refine zyw 121 aze ?_;simp[Yg,EW];by_cases h1:(f.signs.length:Int)<=50<;>by_cases h2:(f.alters.length:Int)<=10<;>by_cases h3:(f.acts.length:Int)<=110<;>by_cases h4:(f.facts.length:Int)<=220<;>
  simp[h1,h2,h3,h4]
def ET (r:Realm)(k:Nat):Bool:=decide (((r.cities.getD k default).feasts.length:Int)<=70)&&decide (((r.cities.getD k default).shut.length:Int)<=210)&&decide (((r.cities.getD k default).rest.length:Int)<=8)
def EV (r:Realm)(k:Nat):Bool:=decide (((r.orders.getD k default).choices.length:Int)<=40)&&decide (((r.orders.getD k default).rules.length:Int)<=40)
def KO (r:Realm):Bool:=decide ((r.currencies.length:Int)<50)&&decide ((r.cities.length:Int)<50)&&decide ((r.groups.length:Int)<50)&&decide ((r.firms.length:Int)<210)&&decide ((r.orders.length:Int)<50)&&decide ((r.usances.length:Int)<110)&&decide ((r.rates.length:Int)<110)&&decide ((r.halts.length:Int)<50)
def ri (r:Realm):Bool:=eV (min r.cities.length 50) (ET r)&&eV (min r.orders.length 50) (EV r)&&KO r
def avQ (r:Realm)(hr:r.OK):ah T 43 [aP r] (.bool (ri r)):=by
 refine zyw 120 ay1 ?_;simp[X3];refine gG (min r.cities.length 50) (ET r) (λk=>[.bool false,.int k]) (λ_=>[]) ?_ (λk hk ho=>?_) (λk hk ho hb=>?_) (λhj=>?_)
 .simp
 .have bC:k<r.cities.length:=by omega
  have cG:k<50:=by omega
  have hw:=bt cG (by omega);simp[ET,bC] at ho;obtain⟨⟨a1,a2⟩,a3⟩:=ho;have b1:¬(70:Int)<r.cities[k].feasts.length:=by omega
  have b2:¬(210:Int)<r.cities[k].shut.length:=by omega
  have b3:¬(8:Int)<r.cities[k].rest.length:=by omega
  simp[Hi,zE,bC,cG,hw,b1,b2,b3];omega
 .have bC:k<r.cities.length:=by omega
  have cG:k<50:=by omega
  have hf:ri r=false:=by simp only[ri,hb,sv]
  rw[hf];simp[ET,bC] at ho;by_cases b1:(70:Int)<r.cities[k].feasts.length
  .simp[Hi,zE,bC,cG,b1];omega
  by_cases b2:(210:Int)<r.cities[k].shut.length
  .simp[Hi,zE,bC,cG,b1,b2];omega
  have b3:(8:Int)<r.cities[k].rest.length:=by have:=ho (by omega) (by omega);omega
  simp[Hi,zE,bC,cG,b1,b2,b3];omega
 .have hn:¬((min r.cities.length 50:Nat):Int)<r.cities.length\/¬((min r.cities.length 50:Nat):Int)<50:=by omega
  simp[Hi,zE];rw[if_neg (by omega)];refine gG (min r.orders.length 50) (EV r) (λk=>[.bool false,.int k]) (λ_=>[]) ?_ (λk hk ho=>?_) (λk hk ho hb=>?_) (λyz=>?_)
  .simp
  .have bC:k<r.orders.length:=by omega
   have cG:k<50:=by omega
   have hw:=bt cG (by omega);simp[EV,bC] at ho;obtain⟨a1,a2⟩:=ho;have b1:¬(40:Int)<r.orders[k].choices.length:=by omega
   have b2:¬(40:Int)<r.orders[k].rules.length:=by omega
   simp[NG,C3,bC,cG,hw,b1,b2];omega
  .have bC:k<r.orders.length:=by omega
   have cG:k<50:=by omega
   have hf:ri r=false:=by simp only[ri,hb,sv,zX]
   rw[hf];simp[EV,bC] at ho;by_cases b1:(40:Int)<r.orders[k].choices.length
   .simp[NG,C3,bC,cG,b1];omega
   have b2:(40:Int)<r.orders[k].rules.length:=by have:=ho (by omega);omega
   simp[NG,C3,bC,cG,b1,b2];omega
  .have hf:ri r=KO r:=by simp only[ri,hj,yz,zY]
   rw[hf];simp[NG,C3];rw[if_neg (by omega)];unfold KO;by_cases c1:(r.currencies.length:Int)<50<;>simp[c1];by_cases c2:(r.cities.length:Int)<50<;>simp[c2];by_cases c3:(r.groups.length:Int)<50<;>simp[c3];by_cases c4:(r.firms.length:Int)<210<;>simp[c4];by_cases c5:(r.orders.length:Int)<50<;>simp[c5];by_cases c6:(r.usances.length:Int)<110<;>simp[c6];by_cases c7:(r.rates.length:Int)<110<;>simp[c7]
def QV {r:Realm}(hr:r.OK)(h:ri r=true):Small r:=by
 simp only[ri,KO,ao,decide_eq_true_eq,xK] at h;obtain⟨⟨h1,h2⟩,⟨⟨⟨⟨⟨⟨⟨c1,c2⟩,c3⟩,c4⟩,c5⟩,c6⟩,c7⟩,c8⟩⟩:=h;obtain⟨k1,⟨k2,k2'⟩,⟨k3,k3'⟩,⟨k4,k4'⟩,⟨k5,k5'⟩,⟨k6,k6'⟩,⟨k7,k7'⟩,⟨k8,k8'⟩⟩:=hr;refine⟨by omega,by omega,by omega,by omega,by omega,by omega,by omega,by omega,λc hc=>?_,λo ho=>?_,λx hx=>?_⟩
 .obtain⟨k,hk,rfl⟩:=fu hc;have:=h1 k (by omega);simp[ET,hk] at this;have:=k2' _ hc;exact⟨by omega,by omega,by omega,λy hy=>this.2.2.2.1.2 y hy⟩
 .obtain⟨k,hk,rfl⟩:=fu ho;have:=h2 k (by omega);simp[EV,hk] at this;omega
 .have:=k7' x hx;exact⟨this.2.2.1,this.2.2.2.1⟩
def ux (r:Realm)(f:File):Bool:=(ri r&&EW f)&&eV r.orders.length (λk=>sN (r.orders.getD k default))
def aid (r:Realm)(f:File)(hr:r.OK):ah T 22 [aP r,ct f] (.bool (ux r f)):=by
 refine zyw 119 azi ?_;simp[Yk];refine⟨_,avQ r hr,?_⟩;cases e1:ri r
 .simp[ux,e1]
 simp;refine⟨_,av4 f,?_⟩;cases e2:EW f
 .simp[ux,e1,e2]
 have hs:=QV hr e1;have ho:=hs.orders;have hf:ux r f=eV r.orders.length (λk=>sN (r.orders.getD k default)):=by simp only[ux,e1,e2,zY]
 rw[hf];simp;have hO:=hr.2.2.2.2.1.2;refine gG r.orders.length (λk=>sN (r.orders.getD k default)) (λk=>[.bool false,.int k]) (λ_=>[]) ?_ (λk hk ho=>?_) (λk hk ho hb=>?_) (λhj=>?_)
 .simp
 .have hw:=bt hk (by omega);simp[hk] at ho;simp[VU,Hy,hk];refine⟨_,aic _ (hO _ (bV hk)),?_⟩;simp[ho,hw]
 .simp only[aF] at hb;rw[hb];simp[hk] at ho;simp[VU,Hy,hk];refine⟨_,aic _ (hO _ (bV hk)),?_⟩;simp[ho]
 .simp only[aF] at hj;rw[hj];simp[VU,Hy]
def E7 (r:Realm)(f:File):Bool:=ux r f&&decide (dv r=0)
def qW (n:Int):Int:=min (max n (-1099511627776)) 1099511627776
def On (n:Int):ah T 212 [.int n] (.int (qW n)):=by
 refine zyw 48 az4 ?_;simp[Zh,qW];by_cases h1:-1099511627776>n
 .have:¬(1099511627776:Int)< -1099511627776:=by omega
  simp[h1];omega
 .by_cases h2:(1099511627776:Int)<n
  .simp[h1,h2];omega
  .simp[h1,h2];omega
def nz (v:Int):Int×Bool:=if v<0\/19<v then(0,false) else if v<7 then(0,true) else(1,true)
def ajp (v:Int):ah T 210 [.int v] (.tup [.int (nz v).1,.bool (nz v).2]):=by
 refine zyw 49 az0 ?_;simp[Zd,nz];by_cases h1:v<0
 .simp[h1]
 by_cases h2:19<v
 .simp[h1,h2]
 by_cases h3:v<7
 .simp[h1,h2,h3]
 .simp[h1,h2,h3]
def Gq (t:Tm):Int×Int:=
 if 0<t.args.length then(0,2) else if t.op=0 then(if qW t.n≠t.n then(0,3) else(0,0)) else if t.op=1 then(if t.n<0\/1<t.n then(0,3) else(1,0)) else if(nz t.n).2=false then(0,10) else((nz t.n).1,0)
def axG (t:Tm):ah T 208 [dS t] (.tup [.int (Gq t).1,.int (Gq t).2]):=by
 refine zyw 47 az5 ?_;simp[Zi,Gq];by_cases h0:0<t.args.length
 .have gn:(0:Int)<t.args.length:=by omega
  simp[h0,gn]
 simp[h0];by_cases h1:t.op=0
 .simp[h1];refine⟨_,On _,?_⟩;by_cases h2:qW t.n=t.n<;>simp[h2]
 by_cases h2:t.op=1
 .simp[h1,h2];by_cases h3:t.n<0<;>by_cases h4:1<t.n<;>simp[h3,h4]
 simp[h1,h2];refine⟨_,ajp _,?_⟩;cases h3:(nz t.n).2<;>simp[h3]
def fo (op:Int):List Int×Int:=
 if op=3 then([1],1) else if op=4\/op=5 then([1,1],1) else if op=6 then([1,-1,-1],-1) else if op=7 then([0,0],1) else if op=8 then([-1,-1],1) else([0,0],0)
def ER (s:List Int×Int):D:=.agg [ints s.1,.int s.2]
@[simp] def aCL (s:List Int×Int):(ER s).cells=[ints s.1,.int s.2]:=zyz
@[simp] def aCJ (s:List Int×Int):(ER s).c 0=ints s.1:=zyz
@[simp] def aCK (s:List Int×Int):(ER s).c 1=.int s.2:=zyz
@[simp] def aG5 (s:List Int×Int):D.agg [ints s.1,.int s.2]=ER s:=zyz
@[simp] def aH3 (x y:Int):wZ (.int x) 0 (.int y)=.int y:=zyz
def axI (op:Int):ah T 209 [.int op] (ER (fo op)):=by
 refine zyw 50 az9 ?_;simp[Zl,fo];by_cases h3:op=3
 .simp[h3];rfl
 by_cases h4:op=4
 .simp[h4];rfl
 by_cases h5:op=5
 .simp[h5];rfl
 by_cases h6:op=6
 .simp[h6];rfl
 by_cases h7:op=7
 .simp[h7];rfl
 by_cases h8:op=8
 .simp[h8];rfl
 simp[h3,h4,h5,h6,h7,h8];rfl
def fZ (f:Tm->Int):List Tm->Int->Int
 |[],n=>n
 |a::l,n=>if 60<n+f a then n+f a else fZ f l (n+f a)
def cU:Nat->Tm->Int
 |0,_=>61
 |L+1,t=>fZ (cU L) t.args 1
def ed (f:Tm->Int)(l:List Tm):Int:=(l.map f).sum
def Mi {f:Tm->Int}{l:List Tm}{k:Nat}(h:k<l.length):ed f (l.take (k+1))=ed f (l.take k)+f l[k]:=by
 unfold ed;rw[Dn f h,List.sum_append];simp
def afc {f:Tm->Int}:∀{l:List Tm} {n:Int} {k:Nat},(hk:k<l.length)->(∀j,j<k->n+ed f (l.take (j+1))<=60)->60<n+ed f (l.take (k+1))->fZ f l n=n+ed f (l.take (k+1))
 |a::l,n,0,hk,_,h=>by
  simp[ed] at h ⊢;unfold fZ;rw[if_pos (by omega)]
 |a::l,n,k+1,hk,hj,h=>by
  have h0:=hj 0 (by omega);simp[ed] at h0;unfold fZ;rw[if_neg (by omega)];have e:∀j,n+ed f ((a::l).take (j+1+1))=n+f a+ed f (l.take (j+1)):=by intro j;simp[ed];omega
  rw[afc (l:=l) (k:=k) (by simpa using hk) (λj mO=>by have:=hj (j+1) (by omega);rw[e] at this;exact this) (by rw[<-e];exact h),e]
def afe {f:Tm->Int}:∀{l:List Tm} {n:Int},(∀j,j<l.length->n+ed f (l.take (j+1))<=60)->fZ f l n=n+ed f l
 |[],n,_=>by simp[fZ,ed]
 |a::l,n,hj=>by
  have h0:=hj 0 (by simp);simp[ed] at h0;unfold fZ;rw[if_neg (by omega)];have e:∀j,n+ed f ((a::l).take (j+1+1))=n+f a+ed f (l.take (j+1)):=by intro j;simp[ed];omega
  rw[afe (l:=l) (λj gU=>by have:=hj (j+1) (by simpa using gU);rw[e] at this;exact this)];simp[ed];omega
def afd {f:Tm->Int}(hf:∀a,1<=f a):∀{l:List Tm} {n:Int},n<=fZ f l n
 |[],n=>by simp[fZ]
 |a::l,n=>by
  unfold fZ;have:=hf a;split
  .omega
  .have:=afd hf (l:=l) (n:=n+f a);omega
def y8:∀(L:Nat) (t:Tm),1<=cU L t
 |0,t=>by simp[cU]
 |L+1,t=>afd (y8 L)
def aff {f:Tm->Int}{B:Int}(hf:∀a,f a<=B)(hB:0<=B):∀{l:List Tm} {n:Int},n<=60->fZ f l n<=60+B
 |[],n,h=>by simp[fZ];omega
 |a::l,n,h=>by
  unfold fZ;have:=hf a;split
  .omega
  .exact aff hf hB (by omega)
def afh:∀(L:Nat) (t:Tm),cU L t<=61+60*L
 |0,t=>by simp[cU]
 |L+1,t=>by
  have:=aff (f:=cU L) (λa=>afh L a) (by omega) (l:=t.args) (n:=1) (by omega);show fZ _ _ _<=_;omega
def afg {f:Tm->Int}(hf:∀a,1<=f a):∀{l:List Tm} {n:Int},fZ f l n<=60->(n:Int)+l.length<=60/\∀a,a∈l->f a<=60-n
 |[],n,h=>by simp[fZ] at h ⊢;exact h
 |a::l,n,h=>by
  unfold fZ at h;have:=hf a;split at h
  .omega
  .obtain⟨h1,h2⟩:=afg hf h;refine⟨by simp;omega,λb hb=>?_⟩;rcases cB.1 hb with rfl|hb
   .omega
   .have:=h2 b hb;omega
def Tu {L:Nat}{t:Tm}(h:cU (L+1) t<=60):t.args.length<=59/\∀a,a∈t.args->cU L a<=60:=by
 obtain⟨h1,h2⟩:=afg (y8 L) h;exact⟨by omega,λa ha=>by have:=h2 a ha;omega⟩
def WX:∀(L:Nat) (t:Tm) (lv:Int),t.OK->L<=8->lv=9-(L:Int)->ah T 199 [dS t,.int lv] (.int (cU L t))
 |0,t,lv,ht,hL,RV=>by
  refine .of_tree rfl aaU ajz ?_;subst RV;simp[OD,cU]
 |L+1,t,lv,ht,hL,RV=>by
  refine .of_tree rfl aaU ajz ?_;have hl:=ht.len;have h8:¬(8<lv):=by omega
  have LQ:i64.wrap (lv+1)=lv+1:=aQ (by omega);simp[OD,h8];refine .scan t.args.length (λk=>1+ed (cU L) (t.args.take (k+1))<=60) (λk=>[.int (1+ed (cU L) (t.args.take k)),.int k]) (λ_=>[]) ?_ (λk hk hj ho=>?_) (λk hk hj ho=>?_) (λhj=>?_)
  .simp[ed]
  all_goals try rw[Mi hk] at ho
  .have hw:i64.wrap ((k:Int)+1)=(k:Int)+1:=aQ (by omega);have jw:=WX L t.args[k] (lv+1) (ht.arg (bV hk)) (by omega) (by omega);rw[Mi hk];have hs:0<=ed (cU L) (t.args.take k):=by
    unfold ed;have:∀(l:List Tm),0<=(l.map (cU L)).sum:=by
     intro l
     induction l with
     |nil=>simp
     |cons a l ih=>have:=y8 L a;simp;omega
    exact this _
   have gp:=y8 L t.args[k];generalize ed (cU L) (t.args.take k)=m at*;generalize cU L t.args[k]=v at*;have uQ:i64.wrap (1+m+v)=1+m+v:=aQ (by omega);have iY:¬60<1+m+v:=by omega
   simp[Wk,H3,hk,LQ];refine⟨_,jw,?_⟩;simp[uQ,iY,hw];omega
  .have jw:=WX L t.args[k] (lv+1) (ht.arg (bV hk)) (by omega) (by omega);have hf:cU (L+1) t=1+ed (cU L) (t.args.take (k+1)):=afc hk hj (by rw[Mi hk];omega);rw[hf,Mi hk];have hs:0<=ed (cU L) (t.args.take k)/\1+ed (cU L) (t.args.take k)<=60:=by
    constructor
    .unfold ed;have:∀(l:List Tm),0<=(l.map (cU L)).sum:=by
       intro l
       induction l with
       |nil=>simp
       |cons a l ih=>have:=y8 L a;simp;omega
     exact this _
    .cases k with
     |zero=>simp[ed]
     |succ k=>exact hj k (by omega)
   have gp:=y8 L t.args[k];have de:=afh L t.args[k];generalize ed (cU L) (t.args.take k)=m at*;generalize cU L t.args[k]=v at*;have uQ:i64.wrap (1+m+v)=1+m+v:=aQ (by omega);have iY:60<1+m+v:=by omega
   simp[Wk,H3,hk,LQ];refine⟨_,jw,?_⟩;simp[uQ,iY];omega
  .have hf:cU (L+1) t=1+ed (cU L) t.args:=afe hj;rw[hf];simp[Wk,H3]
def oH (ws ts:List Int):Nat->Int
 |0=>-1
 |k+1=>if ws.getD k 0=-1/\oH ws ts k=-1 then ts.getD k 0 else oH ws ts k
def p8 (ws ts:List Int)(k:Nat):Bool:=if ws.getD k 0=-1 then decide (oH ws ts k=-1)||decide (ts.getD k 0=oH ws ts k) else decide (ts.getD k 0=ws.getD k 0)
def za (t:Tm)(ks:List Int):Int×Int:=
 if t.op<0\/13<t.op then(0,1) else if t.op=0\/t.op=1\/t.op=2 then Gq t else
 if ks.length≠(fo t.op).1.length\/t.n≠0 then(0,2) else
 if eV (fo t.op).1.length (p8 (fo t.op).1 ks)=false then(0,11) else if(fo t.op).2=-1 then(oH (fo t.op).1 ks (fo t.op).1.length,0) else((fo t.op).2,0)
def cH:Nat->Tm->Int×Int
 |0,_=>(0,0)
 |L+1,t=>if fC t.args.length (λk=>(cH L (t.args.getD k default)).2)≠0 then(0,fC t.args.length (λk=>(cH L (t.args.getD k default)).2)) else za t (t.args.map λa=>(cH L a).1)
def Qt (L:Nat)(t:Tm):cH (L+1) t=if fC t.args.length (λk=>(cH L (t.args.getD k default)).2)≠0 then(0,fC t.args.length (λk=>(cH L (t.args.getD k default)).2)) else za t (t.args.map λa=>(cH L a).1):=rfl
def WB {α:Type}(A:List α)(z:α){k n:Nat}(hA:A.length=n)(hk:k<n):(A.take k++List.replicate (n-k) z).set k A[k]=A.take (k+1)++List.replicate (n-(k+1)) z:=by
 have h1:(A.take k).length=k:=by rw[dQ];omega
 rw[List.set_append_right _ _ (by omega),h1,Pa];have:n-k=(n-(k+1))+1:=by omega
 rw[this,List.replicate_succ,List.set_cons_zero,iQ (by omega),sy];rfl
def axc (op:Int):(fo op).1.length<=3:=by
 unfold fo;repeat' split
 all_goals simp
def WW:∀(L:Nat) (t:Tm),t.OK->cU L t<=60->ah T 200 [dS t] (.tup [.int (cH L t).1,.int (cH L t).2])
 |0,t,ht,hm=>by simp[cU] at hm
 |L+1,t,ht,hm=>by
  refine zyw 46 az2 ?_;obtain⟨hl,hp⟩:=Tu hm;simp[Zf];refine⟨by omega,?_⟩;refine qw t.args.length (λk=>(cH L (t.args.getD k default)).2) (λk=>[.int 0,.int 0,.int k]) (λk=>[ints ((t.args.map λa=>(cH L a).1).take k++List.replicate (t.args.length-k) 0)]) ?_ (λk hk ho=>?_) (λk hk ho hb=>?_) (λhj=>?_)
  .simp[ints]
  .have hw:=bt hk (by omega);have cW:=bV hk;have jw:=WW L t.args[k] (ht.arg cW) (hp _ cW);have hs:=WB (t.args.map λa=>(cH L a).1) 0 (n:=t.args.length) (by simp) hk;rw[<-hs];have hlen:((t.args.map λa=>(cH L a).1).take k++List.replicate (t.args.length-k) (0:Int)).length=t.args.length:=by simp;omega
   have hgk:(t.args.map λa=>(cH L a).1)[k]'(by simpa using hk)=(cH L t.args[k]).1:=by simp
   rw[hgk];generalize (t.args.map λa=>(cH L a).1).take k++List.replicate (t.args.length-k) (0:Int)=A at*;simp[hk] at ho;rw[ho] at jw;generalize (cH L t.args[k]).1=kd at*;simp[Wi,H0,hk];refine⟨_,jw,?_⟩;simp[hlen,hk,hw,ints]
  .have cW:=bV hk;have jw:=WW L t.args[k] (ht.arg cW) (hp _ cW);have hf:cH (L+1) t=(0,(cH L (t.args.getD k default)).2):=by
    rw[Qt,hb,if_pos ho]
   rw[hf];simp[hk] at ho ⊢;simp[Wi,H0,hk];refine⟨_,jw,?_⟩;simp[ho]
  .have hf:cH (L+1) t=za t (t.args.map λa=>(cH L a).1):=by
    rw[Qt,hj];simp
   rw[hf]
   have e0:(t.args.map λa=>(cH L a).1).take t.args.length++List.replicate (t.args.length-t.args.length) 0=t.args.map λa=>(cH L a).1:=by
    rw[Pa,xE (by simp)];simp
   rw[e0];have hkl:(t.args.map λa=>(cH L a).1).length=t.args.length:=by simp
   generalize (t.args.map λa=>(cH L a).1)=ks at*;simp[Wi,H0];unfold za;by_cases h1:t.op<0
   .simp[h1]
   by_cases h2:13<t.op
   .simp[h1,h2]
   simp[h1,h2];by_cases h3:t.op=0\/t.op=1\/t.op=2
   .have fE:(t.op=0\/t.op=1)\/t.op=2:=by omega
    simp[h3,fE];refine⟨_,axG t,?_⟩;simp
   have fE:¬((t.op=0\/t.op=1)\/t.op=2):=by omega
   simp[h3,fE];refine⟨_,axI _,?_⟩;have hsl:=axc t.op;generalize fo t.op=sh at*;simp;by_cases h4:ks.length=sh.1.length
   case neg=>
    have om:¬((ks.length:Int)=sh.1.length):=by omega
    have K0:¬t.args.length=sh.1.length:=by omega
    simp[h4,om,K0]
   have om:(ks.length:Int)=sh.1.length:=by omega
   have K0:t.args.length=sh.1.length:=by omega
   by_cases h5:t.n=0
   case neg=>simp[h4,om,K0,h5]
   simp[h4,om,K0,h5];refine gG sh.1.length (p8 sh.1 ks) (λk=>[.int 0,.int 0,.int (oH sh.1 ks k),.int k]) (λ_=>[]) ?_ (λk hk ho=>?_) (λk hk ho hb=>?_) (λhj=>?_)
   .simp[oH]
   .have hw:=bt hk (by omega);have cG:k<ks.length:=by omega
    simp only[oH];unfold p8 at ho;simp only[aF,aW hk,aW cG,kL] at ho ⊢;generalize oH sh.1 ks k=c at*;by_cases a1:sh.1[k]=-1
    .by_cases a2:c=-1
     .simp[C9,wR,hk,cG,hw,ints,a1,a2]
     .simp[a1,a2] at ho;simp[C9,wR,hk,cG,hw,ints,a1,a2,ho]
    .simp[a1] at ho;simp[C9,wR,hk,cG,hw,ints,a1,ho]
   .rw[hb];have cG:k<ks.length:=by omega
    unfold p8 at ho;simp only[aF,aW hk,aW cG,kL] at ho;generalize oH sh.1 ks k=c at*;by_cases a1:sh.1[k]=-1
    .by_cases a2:c=-1
     .simp[a1,a2] at ho
     .simp[a1,a2] at ho;simp[C9,wR,hk,cG,ints,a1,a2,ho]
    .simp[a1] at ho;simp[C9,wR,hk,cG,ints,a1,ho]
   .rw[hj];simp[C9,wR];by_cases a1:sh.2=-1<;>simp[a1]
def pz (t:Tm):Int×Int:=if 60<cU 8 t then(0,6) else cH 8 t
def ajo (t:Tm)(ht:t.OK):ah T 181 [dS t] (.tup [.int (pz t).1,.int (pz t).2]):=by
 refine zyw 44 azY ?_;simp[Zb,pz];refine⟨_,WX 8 t 1 ht (by omega) (by omega),?_⟩;by_cases h:60<cU 8 t
 .simp[h]
 simp[h];refine⟨_,WW 8 t ht (by omega),?_⟩;simp
end Rm
