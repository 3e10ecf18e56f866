/-
  Shared texts of this claim.
-/
import Derived.Test.YtibbcfbmjlehcaaGreatDoorGAJ
import Derived.KernelRfl
import Derived.Test.YtibbcfbmjlehcaaGreatDoorGAL
import Derived.Test.YtibbcfbmjlehcaaGreatDoorGAM
import Derived.Test.YtibbcfbmjlehcaaGreatDoorGAN
import Derived.Test.YtibbcfbmjlehcaaGreatDoorGAK
import Derived.Test.YtibbcfbmjlehcaaGreatDoorGAI
import Derived.WalkKit
import Derived.WalkSpells
import Derived.Lib.SliceRun
import Derived.Lib.AppendZeros
import Derived.Laws.Strings
set_option linter.defProp false
set_option linter.unusedVariables false
set_option maxRecDepth 100000
noncomputable section
open Go.IntKind (i64)
namespace Rm
open Go Go.Proofs Cx
def A6:Option PC:=cF [2,3] [] Tryz.f55 55 [1,4,5,52]
def Qi:Nat->PC:=bm A6
variable(b:Nat->PC)
def atP:PC:=.block 0 [2,9,10] [] (.loop [2,9] [] (b 0))
def Od (b:Nat->PC):PT:=
 (.ite (aj r9 r8)
 (.blockS ⟨[],[]⟩ 1 [2,3,4,11,12,13,14,15,16,17,18,27,28,33,34,35] [4]
 (.chk (aq r7 r9)
 (.call ⟨[(3,r9)],[(4,(.setc z3 0 (pn r7 r9)))]⟩ [] 16 53 [(pc (.setc z3 0 (pn r7 r9)) 0),(pi 0),(pi 4)]
 (.call ⟨[(18,(.nt cA))],[]⟩ [(18,false)] 25 53 [(pc o4 1),(pi 0),(br (.llen (pc o1 15)) (pi 1))]
 (.call ⟨[(28,(.pick cP pT (.nt ka)))],[]⟩ [(28,false)] 31 53 [(pc o4 2),(pi 0),(pi 1)]
 (.ite (.pick uj pT (.nt sL))
 (.ret (pi 1))
 (.ite (peq r3 (pi 0))
 (.exit 1 ⟨[],[]⟩)
 (.chk (aq (pc o1 18) (br r3 (pi 1)))
 (.call ⟨[],[(5,(.setc z3 0 (pn (pc o1 18) (br r3 (pi 1)))))]⟩ [] 46 93 [(pc (.setc z3 0 (pn (pc o1 18) (br r3 (pi 1)))) 1),(pc o4 1)]
 (.call ⟨[],[]⟩ [] 51 93 [(pc o5 0),(pc o4 0)]
 (.call ⟨[],[]⟩ [] 53 92 [(.lst [Ds,nL])]
 (.ite (bk VU (pi 0))
 (.ret (pi 5))
 (.next ⟨[],[]⟩))))))))))))
 (.next ⟨[(9,(aE r9 (pi 1)))],[]⟩))
 (.exit 0 ⟨[(10,(aj r9 r8))],[]⟩))
def Yk:PT:=
 (.brk ⟨[(9,(pi 0)),(8,(.llen (pc (.mk [r0]) 18))),(7,(pc (.mk [r0]) 18)),(2,(pi 0))],[(1,(.mk [r0]))]⟩
(atP b)
 (.ret (pi 0)))
def aoS:PT×List (Shp×PT):=(Yk b,[(.lp 0 [2,9,10] [] [2,9] [],Od b)])
def Uu:A6.map told=some (aoS (bo A6)):=by kernel_rfl
def azG:tree (ab A6)=Yk Qi:=bF Uu
def ajb:round 0 [2,9,10] [] [2,9] [] (Qi 0)=Od Qi:=bj Uu 0 λ_=>rfl
def J6:Option PC:=cF [4,5,6] [] Tryz.f93 93 []
def XW:PT:=
 (.call ⟨[],[]⟩ [] 8 133 [r0]
 (.call ⟨[(5,r8)],[]⟩ [] 10 133 [r1]
 (.ite r5
 (.ite dx
 (.ret (pi 0))
 (.ret (pi (-1))))
 (.ite dx
 (.ret (pi 1))
 (.ite (aj r0 r1)
 (.ret (pi (-1)))
 (.ite (aU r0 r1)
 (.ret (pi 1))
 (.ret (pi 0))))))))
def agM:J6.map told=some (XW,[]):=by kernel_rfl
def azh:tree (ab J6)=XW:=aW agM
def J7:Option PC:=cF [2] [] Tryz.f133 133 []
def XY:PT:=
 (.ret (aJ r0 r0))
def agN:J7.map told=some (XY,[]):=by kernel_rfl
def azj:tree (ab J7)=XY:=aW agN
def AZ:Option PC:=cF [2,3,5] [] Tryz.f92 92 []
def Qb:Nat->PC:=bm AZ
def atG:PC:=.block 0 [2,8,9] [] (.loop [2,8] [] (b 0))
def HI (b:Nat->PC):PT:=
 (.ite (aj r8 r7)
 (.chk (aq r6 r8)
 (.ite (aJ (pn r6 r8) r3)
 (.ret (pn r6 r8))
 (.next ⟨[(8,sF)],[]⟩)))
 (.exit 0 ⟨[(9,(aj r8 r7))],[]⟩))
def XX:PT:=
 (.brk ⟨[(8,(pi 0)),(7,(.llen r0)),(6,r0),(3,(pi 0)),(2,(pi 0))],[]⟩
(atG b)
 (.ret r3))
def aoK:PT×List (Shp×PT):=(XX b,[(.lp 0 [2,8,9] [] [2,8] [],HI b)])
def Un:AZ.map told=some (aoK (bo AZ)):=by kernel_rfl
def azi:tree (ab AZ)=XX Qb:=bF Un
def V6:round 0 [2,8,9] [] [2,8] [] (Qb 0)=HI Qb:=bj Un 0 λ_=>rfl
def Bo:Option PC:=cF [6,8] [] Tryz.f8 8 [2,77826,3,4,5,7,9]
def EF:Nat->PC:=bm Bo
def auh:PC:=.block 0 [5,6,18,19,20,21,22] [5] (.loop [5,6] [5] (b 0))
def aui:PC:=.block 2 [5,8,57,58,59,60,61] [5] (.loop [5,8] [5] (b 1))
def DC (b:Nat->PC):PT:=
 (.ite (aj r6 zR)
 (.chk (aq (pc o2 18) r6)
 (.ite (.pick (aj (pc Dn 1) (pc o3 1)) pT (.pick (peq (pc Dn 1) (pc o3 1)) (aj (pc Dn 0) (pc o3 0)) pF))
 (.chk (bE (.llen aiw) cK)
 (.next ⟨[(5,pN),(6,(aE r6 (pi 1)))],[(5,aiw)]⟩))
 (.next ⟨[(6,(aE r6 (pi 1)))],[]⟩)))
 (.exit 0 ⟨[(18,r6),(19,pN),(20,(pc o2 18)),(21,zR),(22,(aj r6 zR))],[]⟩))
def DD (b:Nat->PC):PT:=
 (.ite (aj r8 zR)
 (.chk (aq (pc o2 18) r8)
 (.ite (.pick (aU (pc Dm 1) (pc o3 1)) pT (.pick (peq (pc Dm 1) (pc o3 1)) (aU (pc Dm 0) (pc o3 0)) pF))
 (.chk (bE (.llen aix) cK)
 (.next ⟨[(5,pN),(8,sF)],[(5,aix)]⟩))
 (.next ⟨[(8,sF)],[]⟩)))
 (.exit 2 ⟨[(57,r8),(58,pN),(59,(pc o2 18)),(60,zR),(61,(aj r8 zR))],[]⟩))
def YP:PT:=
 (.call ⟨[],[(4,vy),(3,(.mk [r1])),(2,(.mk [r0]))]⟩ [] 15 25 [(aA 19 (.mk [r0])),(pc (.mk [r1]) 0),(pc (.mk [r1]) 1)]
 (.ite (pc cR 0)
 (.ret (aA 19 (.setc o4 0 (aA 19 o2))))
 (.brk ⟨[(6,(pi 0)),(5,pN)],[(5,pL)]⟩
(auh b)
 (.chk (bE (.llen (.app o5 (.lst [(.mk [(pc o3 0),(pc o3 1),(pc o3 2)])]))) cK)
 (.brk ⟨[(8,(pi 0)),(5,pN)],[(5,(.app o5 (.lst [(.mk [(pc o3 0),(pc o3 1),(pc o3 2)])])))]⟩
(aui b)
 (.ret (aA 19 (.setc o4 0 (.mk [(pc kN 0),(pc kN 1),(pc kN 2),(pc kN 3),(pc kN 4),(pc kN 5),(pc kN 6),(pc kN 7),(pc kN 8),(pc kN 9),(pc kN 10),(pc kN 11),(pc kN 12),(pc kN 13),(pc kN 14),(pc kN 15),(pc kN 16),(pc kN 17),o5])))))))))
def apa:PT×List (Shp×PT):=(YP b,[(.lp 0 [5,6,18,19,20,21,22] [5] [5,6] [5],DC b),(.lp 2 [5,8,57,58,59,60,61] [5] [5,8] [5],DD b)])
def Nd:Bo.map told=some (apa (bo Bo)):=by kernel_rfl
def aAf:tree (ab Bo)=YP EF:=bF Nd
def Om:round 0 [5,6,18,19,20,21,22] [5] [5,6] [5] (EF 0)=DC EF:=bj Nd 0 λ_=>rfl
def On:round 2 [5,8,57,58,59,60,61] [5] [5,8] [5] (EF 1)=DD EF:=bj Nd 1 λ_=>rfl
def Bn:Option PC:=cF [7] [] Tryz.f25 25 [3,6]
def Qt:Nat->PC:=bm Bn
def aug:PC:=.block 0 [7,8,9,10,11,12] [6] (.loop [7] [6] (b 0))
def DB (b:Nat->PC):PT:=
 (.ite (aj r7 (.llen (pc o3 18)))
 (.chk (aq (pc o3 18) r7)
 (.chk (.nt (.an (.an (peq (pc (pn (pc o3 18) r7) 0) r1) pT) (.nt (aq (pc o3 18) r7))))
 (.ite (.pick (peq (pc (pn (pc o3 18) r7) 0) r1) (peq (pc (pn (pc o3 18) r7) 1) r2) pF)
 (.ite (peq (pc (pn (pc o3 18) r7) 2) (pi 0))
 (.ret (.mk [(pc (.setc o6 0 (.mk [pT,(pi 0)])) 0),(pc (.setc o6 0 (.mk [pT,(pi 0)])) 1)]))
 (.ret (.mk [(pc (.setc o6 0 (.mk [pT,(pi 1)])) 0),(pc (.setc o6 0 (.mk [pT,(pi 1)])) 1)])))
 (.next ⟨[(7,(aE r7 (pi 1)))],[]⟩))))
 (.exit 0 ⟨[(8,r7),(9,pN),(10,(pc o3 18)),(11,(.llen (pc o3 18))),(12,(aj r7 (.llen (pc o3 18))))],[]⟩))
def YN:PT:=
 (.brk ⟨[(7,(pi 0))],[(6,gl),(3,(.mk [r0]))]⟩
(aug b)
 (.ret VP))
def ao9:PT×List (Shp×PT):=(YN b,[(.lp 0 [7,8,9,10,11,12] [6] [7] [6],DB b)])
def UF:Bn.map told=some (ao9 (bo Bn)):=by kernel_rfl
def aAd:tree (ab Bn)=YN Qt:=bF UF
def Ol:round 0 [7,8,9,10,11,12] [6] [7] [6] (Qt 0)=DB Qt:=bj UF 0 λ_=>rfl
def JT:Option PC:=nl {ctx with fr:=[6],nh:=[]} Tryz.f158 ⟨[Y8,I,th],.slice I,.dat⟩ [3,5,7,8,42,9]
def XG:PT:=
 (.chk (aq (pc (.mk [r2]) 15) (pc (.mk [r2]) 19))
 (.ite aiA
 (.ret pL)
 (.chk (.an (bk (pi 5) (pi 0)) (bE (pi 5) cK))
 (.chk (peq (pi 5) (pi 5))
 (.chk (aq (.rep (pi 5) (pi 0)) (pi 0))
 (.call ⟨[],[(9,(.setn (.rep (pi 5) (pi 0)) (pi 0) 0 r1)),(8,(.setc Ja 0 (aA 15 (.mk [r2])))),(7,Dk),(3,(.mk [r0]))]⟩ [] 50 123 [j7,(pc Dk 7)]
 (.chk (aq o9 (pi 1))
 (.call ⟨[],[(9,(.setn o9 (pi 1) 0 nK))]⟩ [] 56 123 [(aA 8 o3),(pc o8 10)]
 (.chk (aq o9 (pi 2))
 (.call ⟨[],[(9,(.setn o9 (pi 2) 0 uo))]⟩ [] 62 123 [(aA 8 o3),(pc o8 9)]
 (.chk (aq o9 (pi 3))
 (.chk (aq (pc o3 3) (pc o7 2))
 (.call ⟨[],[(9,(.setn o9 (pi 3) 0 pC))]⟩ [] 73 123 [(aA 8 o3),(pc (pn (pc o3 3) (pc o7 2)) 1)]
 (.chk (aq o9 (pi 4))
 (.call ⟨[],[(9,(.setn o9 (pi 4) 0 Hz))]⟩ [] 76 168 [(.setn o9 (pi 4) 0 Hz),(pi (-1))]
 (.ite vA
 (.ret pL)
 (.ret o9)))))))))))))))))
def agu:JT.map told=some (XG,[]):=by kernel_rfl
def ayY:tree (ab JT)=XG:=aW agu
def JU:Option PC:=nl {ctx with fr:=[6],nh:=[]} Tryz.f158 ⟨[Y8,I,th],.nils .bool,.dat⟩ [3,5,7,8,42,9]
def O6:PT:=
 (.chk (aq (pc (.mk [r2]) 15) (pc (.mk [r2]) 19))
 (.ite aiA
 (.ret pL)
 (.chk (.an (bk (pi 5) (pi 0)) (bE (pi 5) cK))
 (.chk (peq (pi 5) (pi 5))
 (.chk (aq (.rep (pi 5) (pi 0)) (pi 0))
 (.call ⟨[],[(9,(.setn (.rep (pi 5) (pi 0)) (pi 0) 0 r1)),(8,(.setc Ja 0 (aA 15 (.mk [r2])))),(7,Dk),(3,(.mk [r0]))]⟩ [] 50 123 [j7,(pc Dk 7)]
 (.chk (aq o9 (pi 1))
 (.call ⟨[],[(9,(.setn o9 (pi 1) 0 nK))]⟩ [] 56 123 [(aA 8 o3),(pc o8 10)]
 (.chk (aq o9 (pi 2))
 (.call ⟨[],[(9,(.setn o9 (pi 2) 0 uo))]⟩ [] 62 123 [(aA 8 o3),(pc o8 9)]
 (.chk (aq o9 (pi 3))
 (.chk (aq (pc o3 3) (pc o7 2))
 (.call ⟨[],[(9,(.setn o9 (pi 3) 0 pC))]⟩ [] 73 123 [(aA 8 o3),(pc (pn (pc o3 3) (pc o7 2)) 1)]
 (.chk (aq o9 (pi 4))
 (.call ⟨[],[]⟩ [] 76 168 [(.setn o9 (pi 4) 0 Hz),(pi (-1))]
 (.ite vA
 (.ret pL)
 (.chk pF
 (.next ⟨[],[]⟩))))))))))))))))))
def agv:JU.map told=some (O6,[]):=by kernel_rfl
def ayZ:tree (ab JU)=O6:=aW agv
def Vn:List Nat:=[3,6,15,17,16,19,41,42,81,30,62,18,10,26,27,11,32,34,70,36,71,109,156,176,194,193,206,123,116,195,196,157,168,190,159,177,198,197,207,178,110,160,180,179,181,199,200,208,212,210,209,161,182,201,211,202,213,215,79,203,65,13,35,38,78,37,72,111,112,162,183,184,204,113,114,115,163,117,118,119,120,121,73,74,75,76,122,164,165,185,187,205,186,89,77,124,125,166,189,33,66,107,68,67,69,108,57,29,31,9,14,39,40,80,126,104,21,20,7,22,43,44,45,82,127,23,46,83,128,167,129,84,85,130,47,48,86,49,50,24,51,87,88,52,53,90,131,132,54,91,55,93,133,92,8,25]
def C8:List (Nat×PC):=[(3,(ab A2)),(6,(ab Kc)),(15,(ab Kb)),(17,(ab A3)),(16,(ab A8)),(19,(ab Kq)),(41,(ab Kr)),(42,(ab KO)),(81,(ab BH)),(30,(ab Ba)),(62,(ab Q5)),(18,(ab Ka)),(10,(ab A9)),(26,(ab Ku)),(27,(ab Kv)),(11,(ab AU)),(32,(ab JV)),(34,(ab BB)),(70,(ab KM)),(36,(ab JN)),(71,(ab JM)),(109,(ab JR)),(156,(ab JS)),(176,(ab BE)),(194,(ab KK)),(193,(ab KN)),(206,(ab BG)),(123,(ab KH)),(116,(ab KI)),(195,(ab KL)),(196,(ab BC)),(157,(ab Kh)),(168,(ab KQ)),(190,(ab BK)),(159,(ab A0)),(177,(ab J8)),(198,(ab J9)),(197,(ab KP)),(207,(ab BJ)),(178,(ab A1)),(110,(ab Kg)),(160,(ab Ki)),(180,(ab Kj)),(179,(ab BI)),(181,(ab KV)),(199,(ab yz)),(200,(ab BP)),(208,(ab K1)),(212,(ab K0)),(210,(ab KX)),(209,(ab K6)),(161,(ab KW)),(182,(ab BQ)),(201,(ab K4)),(211,(ab K7)),(202,(ab KZ)),(213,(ab KY)),(215,(ab K5)),(79,(ab J0)),(203,(ab BF)),(65,(ab JQ)),(13,(ab JO)),(35,(ab JP)),(38,(ab BD)),(78,(ab BM)),(37,(ab E1)),(72,(ab Bs)),(111,(ab Bw)),(112,(ab Bu)),(162,(ab KJ)),(183,(ab Bv)),(184,(ab KR)),(204,(ab BL)),(113,(ab KD)),(114,(ab KE)),(115,(ab Bt)),(163,(ab Bz)),(117,(ab KF)),(118,(ab KG)),(119,(ab Bx)),(120,(ab BA)),(121,(ab By)),(73,(ab KT)),(74,(ab KU)),(75,(ab KS)),(76,(ab E3)),(122,(ab E2)),(164,(ab EX)),(165,(ab J5)),(185,(ab J1)),(187,(ab J3)),(205,(ab EZ)),(186,(ab EY)),(89,(ab yy)),(77,(ab BN)),(124,(ab BO)),(125,(ab AY)),(166,(ab J2)),(189,(ab J4)),(33,(ab JW)),(66,(ab K8)),(107,(ab BR)),(68,(ab JX)),(67,(ab AV)),(69,(ab AW)),(108,(ab A4)),(57,(ab Q6)),(29,(ab Q4)),(31,(ab Bb)),(9,(ab Kt)),(14,(ab Kd)),(39,(ab Kf)),(40,(ab Ke)),(80,(ab AX)),(126,(ab JY)),(104,(ab JZ)),(21,(ab Ks)),(20,(ab Bp)),(7,(ab E0)),(22,(ab Br)),(43,(ab Bd)),(44,(ab KB)),(45,(ab Bq)),(82,(ab KC)),(127,(ab yx)),(23,(ab Kw)),(46,(ab Bi)),(83,(ab KA)),(128,(ab Be)),(167,(ab Ky)),(129,(ab Bc)),(84,(ab Bf)),(85,(ab Kz)),(130,(ab Bh)),(47,(ab Bj)),(48,(ab Bk)),(86,(ab Bg)),(49,(ab Bm)),(50,(ab Bl)),(24,(ab yw)),(51,(ab E4)),(87,(ab K9)),(88,(ab La)),(52,(ab A7)),(53,(ab Ko)),(90,(ab Km)),(131,(ab Kl)),(132,(ab Kp)),(54,(ab A5)),(91,(ab Kk)),(55,(ab A6)),(93,(ab J6)),(133,(ab J7)),(92,(ab AZ)),(8,(ab Bo)),(25,(ab Bn))]
def tab:Nat->Option PC:=bK C8
def ah8:C8.map (·.1)=Vn:=by kernel_rfl
def awi:(C8.map (·.1)).Nodup:=by rw[ah8];exact qD (by kernel_rfl)
def lA (k:Nat){f:Nat}{x:PC}(h:C8[k]?=some (f,x):=by kernel_rfl):tab f=some x:=afG awi h
def abv:tab 199=some (ab yz):=lA 45 (by kernel_rfl)
def P4:tab 37=some (ab E1):=lA 65 (by kernel_rfl)
def yk:tab 76=some (ab E3):=lA 85 (by kernel_rfl)
def JF:tab 122=some (ab E2):=lA 86 (by kernel_rfl)
def abq:tab 164=some (ab EX):=lA 87 (by kernel_rfl)
def abr:tab 205=some (ab EZ):=lA 91 (by kernel_rfl)
def JE:tab 186=some (ab EY):=lA 92 (by kernel_rfl)
def abu:tab 89=some (ab yy):=lA 93 (by kernel_rfl)
def alB:tab 7=some (ab E0):=lA 118 (by kernel_rfl)
def abt:tab 127=some (ab yx):=lA 124 (by kernel_rfl)
def alC:tab 24=some (ab yw):=lA 139 (by kernel_rfl)
def alD:tab 51=some (ab E4):=lA 140 (by kernel_rfl)
def caps:∀f cs,bK QX f=some cs->(pk cs.args cs.res=none->bK xx f=some ⟨cs.args++cs.caps,cs.res,.dat⟩)/\∀ys,pk cs.args cs.res=some ys->fL Vn f=false/\IX Tryz.prog f=true:=abK (l:=QX) (sig:=xx) (P:=Tryz.prog) (pcs:=Vn) (by kernel_rfl)
def clos:dN ctx:=⟨(λf cs h=>(caps f cs h).1),λf s h=>aj7 (l:=xx) (P:=Tryz.prog) (by kernel_rfl) f s h⟩
def its:∀f cs ys,ctx.cap f=some cs->pk cs.args cs.res=some ys->tab f=none/\∃fn,ctx.P.funcs[f]?=some fn/\fn.body.isSome=true/\(fn.name== "runtime.NumGoroutine")=false:=λf cs ys h hi=>⟨afx (l:=C8) (by rw[ah8];exact((caps f cs h).2 ys hi).1),ayM ((caps f cs h).2 ys hi).2⟩
def ayA:∀f pc,tab f=some pc->∃fn s ids fr nh,ctx.P.funcs[f]?=some fn/\ctx.sig f=some s/\nl {ctx with fr:=fr,nh:=nh} fn s ids=some pc:=
 T2 (R:=λf pc=>∃fn s ids fr nh,ctx.P.funcs[f]?=some fn/\ctx.sig f=some s/\nl {ctx with fr:=fr,nh:=nh} fn s ids=some pc) (l:=C8)
  (aw (ax [6,8,10,14,16] [12,13,15,17,18,19,20,21,22,23,24] [] Tryz.func3 rfl (av A2 Uq))
  (aw (ax [1,17] [0,2,3,4,5,6,7,8,9,10,11,12,13] [] Tryz.func6 rfl (av Kc agT))
  (aw (ax [0,24576,28672,32768,1,12289,2,12290] [] [] Tryz.func15 rfl (av Kb agS))
  (aw (ax [0,1] [2] [] Tryz.func17 rfl (av A3 Ur))
  (aw (ax [3,5] [6,7,8,9,10] [] Tryz.func16 rfl (av A8 Uw))
  (aw (ax [1] [2,3] [] Tryz.func19 rfl (av Kq ag6))
  (aw (ax [1] [2] [] Tryz.func41 rfl (av Kr ag7))
  (aw (ax [] [4] [] Tryz.func42 rfl (av KO aht))
  (aw (ax [] [4,5] [] Tryz.func81 rfl (av BH US))
  (aw (ax [3,5,1,10] [6,7,9] [] Tryz.func30 rfl (av Ba Uy))
  (aw (ax [] [5] [] Tryz.func62 rfl (av Q5 avu))
  (aw (ax [4,69636,73732,5,6,7] [] [] Tryz.func18 rfl (av Ka agQ))
  (aw (ax [5,7,9,12,17,52] [10,11,13,14,15,18,19,20] [] Tryz.func10 rfl (av A9 Ux))
  (aw (ax [2] [4] [] Tryz.func26 rfl (av Ku aha))
  (aw (ax [4,6,8] [] [] Tryz.func27 rfl (av Kv ahb))
  (aw (ax [4,6,8,9,10,28] [11] [] Tryz.func11 rfl (av AU Ui))
  (aw (ax [4,6,8,9] [] [] Tryz.func32 rfl (av JV agw))
  (aw (ax [2,4,65540,69636,73732,77828,5,65541,69637,73733,77829,7,31,9,49,11,13] [1000004,1000005] [] Tryz.func34 rfl (av BB C2))
  (aw (ax [] [4] [] Tryz.func70 rfl (av KM ahr))
  (aw (ax [5,8,77832,10] [] [] Tryz.func36 rfl (av JN ago))
  (aw (ax [4,7,8,9] [10] [] Tryz.func71 rfl (av JM agn))
  (aw (ax [4,7,8,10,16394] [9,11,12,13,14] [] Tryz.func109 rfl (av JR ags))
  (aw (ax [2,3,4] [5] [] Tryz.func156 rfl (av JS agt))
  (aw (ax [2,3,5,6,8,10,90,139] [4,7,9,11,12,13,14,15,16] [] Tryz.func176 rfl (av BE Nj))
  (aw (ax [2] [3] [] Tryz.func194 rfl (av KK ahp))
  (aw (ax [] [4] [] Tryz.func193 rfl (av KN ahs))
  (aw (ax [] [4,5] [] Tryz.func206 rfl (av BG UR))
  (aw (ax [2] [4] [] Tryz.func123 rfl (av KH ahm))
  (aw (ax [] [4] [] Tryz.func116 rfl (av KI ahn))
  (aw (ax [2] [] [] Tryz.func195 rfl (av KL ahq))
  (aw (ax [3,6,8] [] [] Tryz.func196 rfl (av BC UQ))
  (aw (ax [] [2,3,4,11] [] Tryz.func157 rfl (av Kh agY))
  (aw (ax [] [4] [] Tryz.func168 rfl (av KQ ahv))
  (aw (ax [] [4,5] [] Tryz.func190 rfl (av BK UW))
  (aw (ax [4,10,53] [8,9,11,12,13,14,55,70] [] Tryz.func159 rfl (av A0 Uo))
  (aw (ax [4,9] [8] [] Tryz.func177 rfl (av J8 agO))
  (aw (ax [] [3] [] Tryz.func198 rfl (av J9 agP))
  (aw (ax [] [4] [] Tryz.func197 rfl (av KP ahu))
  (aw (ax [] [4,5] [] Tryz.func207 rfl (av BJ UU))
  (aw (ax [4,11] [8,9] [] Tryz.func178 rfl (av A1 Up))
  (aw (ax [3,6,8,10] [7,9,11,12] [] Tryz.func110 rfl (av Kg agX))
  (aw (ax [2,3,4,12292,9] [5,6,7,8,10,11] [] Tryz.func160 rfl (av Ki agZ))
  (aw (ax [2] [3] [] Tryz.func180 rfl (av Kj ag0))
  (aw (ax [] [4,5] [] Tryz.func179 rfl (av BI UT))
  (aw (ax [1] [2,3] [] Tryz.func181 rfl (av KV ahD))
  (aw (ax [2,7,12295] [4,5] [] Tryz.func199 rfl (av yz U1))
  (aw (ax [1,4,6,12294,9] [2,3,5,7,8,38,47,10,11,12] [] Tryz.func200 rfl (av BP Nn))
  (aw (ax [1] [2,3,12,20,4,5] [] Tryz.func208 rfl (av K1 ahJ))
  (aw (ax [] [2] [] Tryz.func212 rfl (av K0 ahI))
  (aw (ax [] [2,3,4,11] [] Tryz.func210 rfl (av KX ahF))
  (aw (ax [2] [4,8,13,17,21] [] Tryz.func209 rfl (av K6 ahM))
  (aw (ax [2,4,7] [5,6,8] [] Tryz.func161 rfl (av KW ahE))
  (aw (ax [2,3,4,6,33,7,8,10,12298,12] [5,15,21,9,11] [] Tryz.func182 rfl (av BQ U0))
  (aw (ax [2,4] [5,6] [] Tryz.func201 rfl (av K4 ahK))
  (aw (ax [2] [] [] Tryz.func211 rfl (av K7 ahN))
  (aw (ax [4,5] [9,22,41,6,7,82,88,94] [] Tryz.func202 rfl (av KZ ahH))
  (aw (ax [] [6,8,14,20,25] [] Tryz.func213 rfl (av KY ahG))
  (aw (ax [] [4,5,6,7] [] Tryz.func215 rfl (av K5 ahL))
  (aw (ax [] [4,5,6,7,8,9,10,11,12,13] [] Tryz.func79 rfl (av J0 agC))
  (aw (ax [6] [2,3,5,8] [] Tryz.func203 rfl (av BF Nk))
  (aw (ax [1] [2,3,7,12] [] Tryz.func65 rfl (av JQ agr))
  (aw (ax [4,6] [8,9,10,11] [] Tryz.func13 rfl (av JO agp))
  (aw (ax [1] [2] [] Tryz.func35 rfl (av JP agq))
  (aw (ax [1,3,6,8] [2,4] [] Tryz.func38 rfl (av BD Ni))
  (aw (ax [] [2,3,4] [] Tryz.func78 rfl (av BM UY))
  (aw (ax [4,5,10] [8,9,15,39,58,74,11,12] [] Tryz.func37 rfl (av E1 ahx))
  (aw (ax [1,9] [2,3,4,5,6,7,10,11,12] [] Tryz.func72 rfl (av Bs UK))
  (aw (ax [1,2,3,4,6,16390,20486,24582,21,8,34,10,12298,16394,47] [] [] Tryz.func111 rfl (av Bw G5))
  (aw (ax [] [6,7,8] [] Tryz.func112 rfl (av Bu UN))
  (aw (ax [] [4] [] Tryz.func162 rfl (av KJ aho))
  (aw (ax [] [2,3,4,5] [] Tryz.func183 rfl (av Bv UO))
  (aw (ax [] [4] [] Tryz.func184 rfl (av KR ahw))
  (aw (ax [] [4,5] [] Tryz.func204 rfl (av BL UX))
  (aw (ax [] [2] [] Tryz.func113 rfl (av KD ahi))
  (aw (ax [] [3] [] Tryz.func114 rfl (av KE ahj))
  (aw (ax [2,3] [4,6] [] Tryz.func115 rfl (av Bt UM))
  (aw (ax [] [6,7,8] [] Tryz.func163 rfl (av Bz UP))
  (aw (ax [] [3] [] Tryz.func117 rfl (av KF ahk))
  (aw (ax [] [3] [] Tryz.func118 rfl (av KG ahl))
  (aw (ax [1,3,4,6,19,8,16392,36] [2] [] Tryz.func119 rfl (av Bx Nf))
  (aw (ax [1,4,6] [2,3] [] Tryz.func120 rfl (av BA Nh))
  (aw (ax [1,4,6] [2] [] Tryz.func121 rfl (av By Ng))
  (aw (ax [2] [4] [] Tryz.func73 rfl (av KT ahB))
  (aw (ax [] [2] [] Tryz.func74 rfl (av KU ahC))
  (aw (ax [1] [2] [] Tryz.func75 rfl (av KS ahy))
  (aw (ax [3,4] [6,7,13,16,24,33,8,9] [] Tryz.func76 rfl (av E3 ahA))
  (aw (ax [3] [4,5] [] Tryz.func122 rfl (av E2 ahz))
  (aw (ax [] [4,5,6,7,8,9] [] Tryz.func164 rfl (av EX agD))
  (aw (ax [] [2] [] Tryz.func165 rfl (av J5 agL))
  (aw (ax [] [2,3,4,5,6,7,8,9] [] Tryz.func185 rfl (av J1 agG))
  (aw (ax [] [4] [] Tryz.func187 rfl (av J3 agI))
  (aw (ax [] [6,0,1] [] Tryz.func205 rfl (av EZ agJ))
  (aw (ax [] [6,7,8] [] Tryz.func186 rfl (av EY agF))
  (aw (ax [3,9] [6,7] [] Tryz.func89 rfl (av yy UL))
  (aw (ax [3] [6,7,8,2,9,10] [] Tryz.func77 rfl (av BN UZ))
  (aw (ax [3,9] [6,7,2] [] Tryz.func124 rfl (av BO Nl))
  (aw (ax [2,4,5] [6] [] Tryz.func125 rfl (av AY Ul))
  (aw (ax [3,4,5] [6] [] Tryz.func166 rfl (av J2 agH))
  (aw (ax [2] [4,5,6,7] [] Tryz.func189 rfl (av J4 agK))
  (aw (ax [2,4,5,6,43] [] [] Tryz.func33 rfl (av JW agx))
  (aw (ax [3] [6] [] Tryz.func66 rfl (av K8 ahO))
  (aw (ax [2,5,7] [4] [] Tryz.func107 rfl (av BR U2))
  (aw (ax [3,7] [6] [] Tryz.func68 rfl (av JX agy))
  (aw (ax [] [2,3,5,12,15] [] Tryz.func67 rfl (av AV Uj))
  (aw (ax [2,9] [4,5,6,7,10,50,54] [] Tryz.func69 rfl (av AW Uk))
  (aw (ax [2,7] [4,5] [] Tryz.func108 rfl (av A4 Us))
  (aw (ax [1] [2] [] Tryz.func57 rfl (av Q6 avv))
  (aw (ax [2,3] [4] [] Tryz.func29 rfl (av Q4 avt))
  (aw (ax [3,6,7,9] [] [] Tryz.func31 rfl (av Bb Uz))
  (aw (ax [5,7,9] [10,11,12,13,14,33,36,15] [] Tryz.func9 rfl (av Kt ag9))
  (aw (ax [] [6,7,8,9,10] [] Tryz.func14 rfl (av Kd agU))
  (aw (ax [] [4] [] Tryz.func39 rfl (av Kf agW))
  (aw (ax [] [6,7,8,9,10,11,12] [] Tryz.func40 rfl (av Ke agV))
  (aw (ax [] [6,7,8,2,9,10,11,12,13,14,15,16,17,18] [] Tryz.func80 rfl (av AX M5))
  (aw (ax [] [2] [] Tryz.func126 rfl (av JY agz))
  (aw (ax [] [2,0] [] Tryz.func104 rfl (av JZ agA))
  (aw (ax [5,7,20,22] [10] [] Tryz.func21 rfl (av Ks ag8))
  (aw (ax [] [4,5] [] Tryz.func20 rfl (av Bp UG))
  (aw (ax [3,4,5] [6] [] Tryz.func7 rfl (av E0 agR))
  (aw (ax [2,3] [4,5] [] Tryz.func22 rfl (av Br UJ))
  (aw (ax [1] [2,3,4] [] Tryz.func43 rfl (av Bd M7))
  (aw (ax [1] [2] [] Tryz.func44 rfl (av KB ahg))
  (aw (ax [1] [2,3] [] Tryz.func45 rfl (av Bq UI))
  (aw (ax [1] [2] [] Tryz.func82 rfl (av KC ahh))
  (aw (ax [3] [6,1,7] [] Tryz.func127 rfl (av yx UH))
  (aw (ax [1] [2,3] [] Tryz.func23 rfl (av Kw ahc))
  (aw (ax [1,5,44] [2,3,4,6,7] [] Tryz.func46 rfl (av Bi M9))
  (aw (ax [] [4] [] Tryz.func83 rfl (av KA ahf))
  (aw (ax [] [2,3,4] [] Tryz.func128 rfl (av Be UB))
  (aw (ax [] [2] [] Tryz.func167 rfl (av Ky ahd))
  (aw (ax [] [6,7] [] Tryz.func129 rfl (av Bc UA))
  (aw (ax [2,3] [4,5] [] Tryz.func84 rfl (av Bf UC))
  (aw (ax [] [6] [] Tryz.func85 rfl (av Kz ahe))
  (aw (ax [] [6,7] [] Tryz.func130 rfl (av Bh UD))
  (aw (ax [1,4,44] [2,3,5,6] [] Tryz.func47 rfl (av Bj Na))
  (aw (ax [1,3,24] [2,4,5] [] Tryz.func48 rfl (av Bk UE))
  (aw (ax [1] [2,3,4] [] Tryz.func86 rfl (av Bg M8))
  (aw (ax [1,4] [2,3,5] [] Tryz.func49 rfl (av Bm Nc))
  (aw (ax [1,4,6] [2,3,5] [] Tryz.func50 rfl (av Bl Nb))
  (aw (ax [2,3,10] [4,5,6,7,8,11] [] Tryz.func24 rfl (av yw M6))
  (aw (ax [2,3] [4,5,6,7,8,54,80,109,118,9,10] [] Tryz.func51 rfl (av E4 ahP))
  (aw (ax [] [4] [] Tryz.func87 rfl (av K9 ahQ))
  (aw (ax [1,3] [2,8,19,40] [] Tryz.func88 rfl (av La ahR))
  (aw (ax [3,4,7,11] [6,8,9,76,92,98] [] Tryz.func52 rfl (av A7 Uv))
  (aw (ax [] [6] [] Tryz.func53 rfl (av Ko ag4))
  (aw (ax [3,4,7,8] [6,9,10,66,103,113,11,140,149] [] Tryz.func90 rfl (av Km ag3))
  (aw (ax [3] [6,7] [] Tryz.func131 rfl (av Kl ag2))
  (aw (ax [3] [6] [] Tryz.func132 rfl (av Kp ag5))
  (aw (ax [2,3,6] [4,5,7] [] Tryz.func54 rfl (av A5 Ut))
  (aw (ax [3,4,5] [6,7,8,9,65,80,100,111] [] Tryz.func91 rfl (av Kk ag1))
  (aw (ax [1,4,5,52] [2,3] [] Tryz.func55 rfl (av A6 Uu))
  (aw (ax [] [4,5,6] [] Tryz.func93 rfl (av J6 agM))
  (aw (ax [] [2] [] Tryz.func133 rfl (av J7 agN))
  (aw (ax [] [2,3,5] [] Tryz.func92 rfl (av AZ Un))
  (aw (ax [2,77826,3,4,5,7,9] [6,8] [] Tryz.func8 rfl (av Bo Nd))
  (aw (ax [3,6] [7] [] Tryz.func25 rfl (av Bn UF))
  trivial))))))))))))))))))))))))))))))))))))))))))))))))))))))))))))))))))))))))))))))))))))))))))))))))))))))))))))))))))))))))))))))))))))))))))))))))))))))))))))
end Rm
set_option linter.unusedSimpArgs false
namespace Rm
open Go Go.Proofs Cx Go.RowKit Go.Lib
def as8:(Tryz.prog.info? 3).map (λi=>(i.zero,i.size,i.bytes))=some (some (.int .i64 0),1,8):=by kernel_rfl
set_option maxHeartbeats 2000000 in
set_option maxRecDepth 100000 in
def ap3 (w:World):Calls Tryz.prog 214 #[.slice none 0 0,.int .i64 0] w λe w'=>e=.returned (.slice none 0 0)/\w'=w:=by
 go_enter Tryz.func214,Tryz.ntmps214
 go_wp2
 go_ret
 exact⟨rfl,rfl⟩
set_option maxHeartbeats 2000000 in
set_option maxRecDepth 100000 in
def ap2 (n:Nat)(w:World)(h0:0<n)(h1:n<=4294967296):Calls Tryz.prog 214 #[.slice none 0 0,.int .i64 n] w λe w'=>
 ∃v',e=.returned v'/\w'.ownsRow w.heap.size 3 1 v' 0 []/\Below w.heap.size w w':=by
 obtain⟨i0,hi,CL,qv,hz2⟩:=info_parts as8;have hr:=run_append_nil_zeros w 71 3 71 3 i0 (.int .i64 0) .i64 .i64 Tryz.underlying71 Tryz.underlying3 hi CL n h0 (by rw[qv];decide) (by omega) (by rw[hz2];omega);have hn:¬((n:Int)<0):=by omega
 have rZ:(n:Int)>0:=by omega
 have hw:i64.wrap (n:Int)=n:=by rw[IntKind.wrap_i64];omega
 have nz:i64.wrap 0=0:=by decide
 have gZ:=grownCap_ge w n 0 3;have hle:=grownCap_le_maxLen w n 0 3 (by unfold maxLen;omega);have hs:(Builtin.zeroCells #[Value.int IntKind.i64 0] n++Builtin.zeroCells #[Value.int IntKind.i64 0] (grownCap w n 0 3-n)).size=grownCap w n 0 3*1:=by
  rw[Array.size_append,size_zeroCells,size_zeroCells];simp;omega
 go_enter Tryz.func214,Tryz.ntmps214
 go_wp2_with (at_builtin;refine wpList_append_run _ rfl _ _ 71 3 rfl _ _ rfl rfl _ _ hr ?qc)
 go_ret
 refine⟨_,rfl,?_,?_⟩
 .exact World.ownsRow.drew (World.ownsRow_made w _ _ (aZ _) hle hs)
 .exact((Below.refl _ w).alloc (aZ _) _).drew
def Lw (ds:List D):Option D:=
 match ds with
 |[.list [],.v (.int .i64 n)]=>if 0<=n/\n<=4294967296 then some (.list []) else none
 |_=>none
def ap1 (ds:List D)(d:D)(h:Lw ds=some d):∃s,ctx.sig 214=some s/\Ps ctx 214 s ds d:=by
 refine⟨_,rfl,λ_=>?_,λshs obs hm=>by cases hm⟩;unfold Lw at h;split at h
 case h_2=>cases h
 rename_i n;split at h
 case isFalse=>cases h
 rename_i hn;cases h;obtain⟨k,rfl⟩:=rf hn.1;intro V w args ar hC ha;obtain⟨a1,a2,a3⟩:=ha;have h0:=a3 0 _ rfl;have h1:=a3 1 _ rfl;obtain⟨u,v,rfl⟩:∃u v,args=#[u,v]:=by
  have:args.size=2:=by simpa using a1
  match args,this with
  |⟨[u,v]⟩,_=>exact⟨u,v,rfl⟩
 simp only[ri,AH] at h0 h1;change Rep ctx.cap V (.nils .bool) u (.list []) at h0;change Rep ctx.cap V (.int .i64) v (.v (.int .i64 k)) at h1;have hu:u=.slice none 0 0:=by cases h0;rfl
 have hv:v=.int .i64 k:=by cases h1;rfl
 subst hu hv;by_cases hk:k=0
 .subst hk;refine(ap3 w).mono λe w' hh=>?_;obtain⟨rfl,rfl⟩:=hh;refine⟨_,V,rfl,.refl V,ar,.refl _ _,λ_ _ _ h=>.inl h,λ_ _ h=>.inl h,?_⟩;exact⟨[],[],rfl,⟨by simp,.inl ⟨rfl,rfl⟩⟩,⟨λ_=>undef,λi x hx=>by simp at hx,λi j u hi=>by simp at hi⟩,λk hk=>by cases hk⟩
 .refine(ap2 k w (by omega) (by omega)).mono λe w' hh=>?_;obtain⟨v',rfl,bA,hb⟩:=hh;refine⟨v',V,rfl,.refl V,ar.below hb,hb,λ_ _ _ h=>.inl h,λ_ _ h=>.inl h,?_⟩;refine⟨[],[],rfl,bA,⟨λ_=>undef,λi x hx=>by simp at hx,λi j u hi=>by simp at hi⟩,λk hk=>?_⟩;have bf:=(bA.lt k hk).1;refine⟨λo=>?_,?_⟩
  .cases hc:V.c k o with
   |none=>rfl
   |some u=>have:=World.block_lt_of_cell? w (a:=⟨k,o,none⟩) (ar.c _ _ _ hc);simp at this;omega
  .cases hc:V.m k with
   |none=>rfl
   |some u=>have:=(ar.m _ _ hc).lt;omega
def fB (day:Int):Int×Int×Int:=
 let n:=day+730425
 let e:=n/146097
 let r:=n%146097
 let y:=(r-r/1460+r/36524-r/146096)/365
 let r:=r-(365*y+y/4-y/100)
 let m:=(5*r+2)/153
 let dom:=r-(153*m+2)/5+1
 let month:=if 12<m+3 then m+3-12 else m+3
 (if month<3 then y+400*e+1 else y+400*e,month,dom)
def zJ (rest feasts shut:List Int)(day:Int):Bool:=
 !rest.contains ((day+5)%7)&&(!feasts.contains (100*(fB day).2.1+(fB day).2.2)&& !shut.contains day)
def ab8 (rest feasts shut:List Int)(a b:Int):List Int:=((List.range (b-a+1).toNat).map λ(k:Nat)=>a+k).filter (zJ rest feasts shut)
def zp (d:D):List Int:=d.l.map D.i
def ab9 (ds:List D):List D:=
 let c:=(ds.getD 2 .none).deref
 (ab8 (zp (c.c 3)) (zp (c.c 4)) (zp (c.c 5)) (ds.getD 0 .none).deref.i (ds.getD 1 .none).deref.i).map λd=>.tup [.int d]
def AS (r:D)(city:Int):Int:=if 0<=city/\city<(r.c 1).l.length then(((r.c 1).l.getD city.toNat .none).c 1).i else-1
def Vq (ds:List D):D:=
 let r:=ds.getD 0 .none
 let forum:=(ds.getD 1 .none).i
 let c:=ds.getD 2 .none
 let s:=(c.c 15).l.getD (c.c 19).i.toNat .none
 let who:=(s.c 2).i
 if who<0\/(r.c 3).l.length<=who\/forum<0\/(r.c 4).l.length<=forum then .list [] else
 let out:=[forum,AS r (s.c 7).i,AS r (c.c 10).i,AS r (c.c 9).i,AS r (((r.c 3).l.getD who.toNat .none).c 1).i]
 if(-1)∈out then .list [] else ints out
def acE:List (Nat×(aT->List D->Option D)):=[(214,λ_ ds=>Lw ds),(158,CZ (ab JT) (ab JU) Vq),(188,GP (ab uO) 1000 1 ab9),(63,λ_ ds=>IT ds),(64,λ_ ds=>Lj ds),(60,λ_ ds=>Lf ds),(28,λ_ ds=>OT ds),(61,λ_ ds=>OU ds),(56,λ_ ds=>Lm ds)]
def ext:Nat->Option (aT->List D->Option D):=bK acE
def ayz:TabOK ctx tab ext:=by
 refine⟨clos,its,λf pc _ h=>ayA f pc h,λf g hg Z hΦ eh ds d h=>?_⟩
 have:=T2 (R:=λf (g:aT->List D->Option D)=>∀Z,du ctx Z->gR ctx Z->∀ds d,g Z ds=some d->(∀s,ctx.sig f=some s->Ps ctx f s ds d)/\
  ∀cs ys,ctx.cap f=some cs->pk cs.args cs.res=some ys->∃xs,d=.list xs/\(∀x,x∈xs->∃ds',x=.tup ds'/\ds'.length=ys.length)/\mU ctx f cs.caps ys ds xs) (l:=acE)
  ⟨λZ hΦ eh ds d h=>⟨λs hs=>by obtain⟨s',h1,h2⟩:=ap1 ds d h;rw[hs] at h1;cases h1;exact h2,λcs ys hc hi=>by cases hc⟩,
   λZ hΦ eh ds d h=>⟨λs hs=>by cases hs;exact⟨λ_=>avl clos hΦ eh Tryz.func158 (av JT agu) (av JU agv) h,λshs obs hm=>by cases hm⟩,λcs ys hc hi=>by cases hc⟩,
   λZ hΦ eh ds d h=>⟨λs hs=>(by cases hs),λcs ys hc hi=>by
    cases hc;cases hi;exact atd clos hΦ eh Tryz.func188 amj h rfl⟩,
   λZ hΦ eh ds d h=>⟨λs hs=>by cases hs;exact⟨λhm=>(by cases hm),λshs obs hm=>by cases hm;exact ayl ds d h⟩,λcs ys hc hi=>by cases hc⟩,
   λZ hΦ eh ds d h=>⟨λs hs=>by cases hs;exact⟨λhm=>(by cases hm),λshs obs hm=>by cases hm;exact amR ds d h⟩,λcs ys hc hi=>by cases hc⟩,
   λZ hΦ eh ds d h=>⟨λs hs=>by obtain⟨s',h1,h2⟩:=amB ds d h;rw[hs] at h1;cases h1;cases hs;exact⟨λ_=>h2,λshs obs hm=>by cases hm⟩,λcs ys hc hi=>by cases hc⟩,
   λZ hΦ eh ds d h=>⟨λs hs=>by cases hs;exact⟨λhm=>(by cases hm),λshs obs hm=>by cases hm;exact ayg ds d h⟩,λcs ys hc hi=>by cases hc⟩,
   λZ hΦ eh ds d h=>⟨λs hs=>by cases hs;exact⟨λhm=>(by cases hm),λshs obs hm=>by cases hm;exact ayi ds d h⟩,λcs ys hc hi=>by cases hc⟩,
   λZ hΦ eh ds d h=>⟨λs hs=>by cases hs;exact⟨λhm=>(by cases hm),λshs obs hm=>by cases hm;exact am8 ds d h⟩,λcs ys hc hi=>by cases hc⟩,trivial⟩ f g hg
 exact this Z hΦ eh ds d h
abbrev T:cM:=eN tab ext
theorem zyw {ds:List D}{d:D}{t:PT}(k:Nat){f:Nat}{x:PC}(he:tree x=t)(h:aH (eN tab ext) t (mu ds) (λx=>x=.ret d))(hl:C8[k]?=some (f,x):=by kernel_rfl)(hx:ext f=none:=by rfl):ah (eN tab ext) f ds d:=.of_tree hx (lA k hl) he h
def ah.of_nsl {tab:Nat->Option PC}{ext:Nat->Option (aT->List D->Option D)}{f:Nat}{pa pb:PC}{spec:List D->D}{ds:List D}{ta tb:PT}(hx:ext f=some (CZ pa pb spec))(hta:tree pa=ta)(htb:tree pb=tb)
 (h:(∃xs,xs≠[]/\spec ds=.list xs/\aH (eN tab ext) ta (mu ds) (λx=>x=.ret (.list xs)))\/(spec ds=.list []/\aH (eN tab ext) tb (mu ds) (λx=>x=.ret (.list [])))):ah (eN tab ext) f ds (spec ds):=by
 refine ah.of_ext hx ?_;rcases h with⟨xs,h1,h2,h3⟩|⟨h2,h3⟩
 .obtain⟨x,rfl,n0,hn⟩:=Ph (c:=pa) (hta▸h3);refine⟨n0,λn hle=>?_⟩;unfold CZ;rw[if_pos (.inl ⟨n,xs,hn n hle,h1,h2⟩)]
 .obtain⟨x,rfl,n0,hn⟩:=Ph (c:=pb) (htb▸h3);refine⟨n0,λn hle=>?_⟩;unfold CZ;rw[if_pos (.inr ⟨n,hn n hle,h2⟩)]
end Rm
namespace Rm
open Go Go.Proofs Cx
def eU (n:Nat)(p:Nat->Bool):Bool:=(List.range n).all p
def abk {n:Nat}{p:Nat->Bool}(h:∀k,k<n->p k=true):eU n p=true:=cQ.2 λk hk=>h k (fy.1 hk)
def alo {n k:Nat}{p:Nat->Bool}(hk:k<n)(h:p k=false):eU n p=false:=List.all_eq_false.2 ⟨k,fy.2 hk,by simp[h]⟩
def yh {n:Nat}{p:Nat->Bool}:eU n p=true↔∀k,k<n->p k=true:=⟨λh k hk=>cQ.1 h k (fy.2 hk),abk⟩
def fX (n:Nat)(f:Nat->Int):Int:=(((List.range n).map f).find? λx=>x !=0).getD 0
def RE {n:Nat}{f:Nat->Int}(h:∀k,k<n->f k=0):fX n f=0:=by
 unfold fX;rw[xX.2]
 .rfl
 .intro x hx;obtain⟨k,hk,rfl⟩:=bY.1 hx;simp[h k (fy.1 hk)]
def RB {n k:Nat}{f:Nat->Int}(hk:k<n)(hj:∀j,j<k->f j=0)(h:f k≠0):fX n f=f k:=by
 unfold fX;have e:List.range n=List.range k++k::(List.range' (k+1) (n-k-1)):=by
  rw[PG,PG,<-PF];have:=List.range'_append_1 (s:=0) (m:=k) (n:=n-k-1+1);rw[gu] at this;rw[this];congr 1;omega
 rw[e,pR,aaQ,xX.2,Option.none_or,iz,List.find?_cons_of_pos (by simpa using h)]
 .rfl
 .intro x hx;obtain⟨j,wz,rfl⟩:=bY.1 hx;simp[hj j (fy.1 wz)]
def RD {n:Nat}{f:Nat->Int}:fX n f=0↔∀k,k<n->f k=0:=by
 refine⟨λh k=>?_,RE⟩
 induction k using Nat.strongRecOn with
 |ind k ih=>
  intro hk;refine AA λau=>?_;rw[RB hk (λj hj=>ih j hj (by omega)) au] at h;exact au h
section
variable {T:cM} {id:Nat} {bI bH lr lo:List Nat} {a:PC} {O:Env} {Q:Out->Prop}
def gK (N:Nat)(p:Nat->Bool)(str fO:Nat->List D)(h0:lr.map O.r=str 0/\lo.map O.o=fO 0)
 (step:∀k,k<N->p k=true->aH T (round id bI bH lr lo a) (O.put lr (str k) lo (fO k)) (fm O id bI bH lr lo (λvr vo=>vr=str (k+1)/\vo=fO (k+1)) Q))
 (bad:∀k,k<N->p k=false->eU N p=false->aH T (round id bI bH lr lo a) (O.put lr (str k) lo (fO k)) (fm O id bI bH lr lo (λ_ _=>False) Q))
 (last:eU N p=true->aH T (round id bI bH lr lo a) (O.put lr (str N) lo (fO N)) (fm O id bI bH lr lo (λ_ _=>False) Q)):aL T (.block id bI bH (.loop lr lo a)) O Q:=
 .scan N (λk=>p k=true) str fO h0 (λk hk _ h=>step k hk h) (λk hk _ h=>bad k hk (by simpa using h) (alo hk (by simpa using h))) (λh=>last (abk h))
def qW (N:Nat)(f:Nat->Int)(str fO:Nat->List D)(h0:lr.map O.r=str 0/\lo.map O.o=fO 0)
 (step:∀k,k<N->f k=0->aH T (round id bI bH lr lo a) (O.put lr (str k) lo (fO k)) (fm O id bI bH lr lo (λvr vo=>vr=str (k+1)/\vo=fO (k+1)) Q))
 (bad:∀k,k<N->f k≠0->fX N f=f k->aH T (round id bI bH lr lo a) (O.put lr (str k) lo (fO k)) (fm O id bI bH lr lo (λ_ _=>False) Q))
 (last:fX N f=0->aH T (round id bI bH lr lo a) (O.put lr (str N) lo (fO N)) (fm O id bI bH lr lo (λ_ _=>False) Q)):aL T (.block id bI bH (.loop lr lo a)) O Q:=
 .scan N (λk=>f k=0) str fO h0 (λk hk _ h=>step k hk h) (λk hk hj h=>bad k hk h (RB hk hj h)) (λh=>last (RE h))
end
def bq {k n:Nat}(h:k<n)(hn:n<=4294967296):i64.wrap ((k:Int)+1)=(k:Int)+1:=aR (by omega)
def xN {k:Nat}(hn:k<=4294967296):i64.wrap ((k:Int)-1)=(k:Int)-1:=aR (by omega)
def aC (i n:Int):Bool:=decide (0<=i)&&decide (i<n)
def wi (n a b:Int):Bool:=decide (a<=n)&&decide (n<=b)
def gm (i n:Int):ah T 116 [.int i,.int n] (.bool (aC i n)):=by
 refine zyw 28 aAs ?_;simp[Zc,aC];by_cases h:0<=i<;>simp[h]
def sP (i n:Int):ah T 70 [.int i,.int n] (.bool (aC i n)):=by
 refine zyw 18 aAG ?_;simp[Zp,aC];by_cases h:0<=i<;>simp[h]
def cX (n a b:Int):ah T 85 [.int n,.int a,.int b] (.bool (wi n a b)):=by
 refine zyw 132 az6 ?_;simp[YG,wi];by_cases h:a<=n<;>simp[h]
def idx_eq {α:Type}[DecidableEq α]{l:List α}{x z:α}{k:Nat}(hk:k<l.length)(hj:∀j,j<k->l.getD j z≠x)(h:¬l.getD k z≠x):x∈l/\l.findIdx (λy=>decide (y=x))=k:=by
 have e:l[k]=x:=by simpa [hk] using h
 refine⟨e▸bR hk,(List.findIdx_eq hk).2 ⟨by simp[e],λj kH=>?_⟩⟩;have hZ:j<l.length:=by omega
 simpa [hZ] using hj j kH
def aeR {α:Type}[DecidableEq α]{l:List α}{x z:α}(hj:∀j,j<l.length->l.getD j z≠x):¬x∈l:=λhm=>by
 obtain⟨j,hZ,rfl⟩:=fe hm;have:=hj j hZ;simp[hZ] at this
def wO {α:Type}[DecidableEq α](l:List α)(x:α):Int:=if x∈l then(l.findIdx (λy=>decide (y=x)):Nat) else-1
def hasB {α:Type}[DecidableEq α](l:List α)(x:α):Bool:=l.any λy=>decide (y=x)
def R6 {α:Type}[DecidableEq α]{l:List α}{x:α}:hasB l x=true↔x∈l:=by simp[hasB]
def adu {α:Type}[DecidableEq α]{l:List α}{x:α}:hasB l x=false↔¬x∈l:=by rw[<-R6];simp
def aeQ {α:Type}[DecidableEq α](l:List α)(x:α):decide (0<=wO l x)=hasB l x:=by
 unfold wO;by_cases h:x∈l
 .rw[R6.2 h];simp[h]
 .rw[adu.2 h];simp[h]
@[simp] def aFk (a b:ByteArray):BV .eql a b=decide (a=b):=by
  simp only[BV,ByteArray.toList_eq];by_cases h:a=b
  .subst h;simp
  .rw[decide_eq_false h,beq_eq_false_iff_ne];intro e;have:a.data=b.data:=by rw[<-vJ];exact e
   exact h (by cases a;cases b;cases this;rfl)
@[simp] def aGd (O:Env)(x i:PE):PE.ev O (.sidx x i)=.v (.int .u8 ((PE.ev O x).s.data.getD (PE.ev O i).i.toNat 0).toNat):=zyz
@[simp] def aGh (O:Env)(x i:PE):PE.ev O (.sok x i)=.v (.bool (decide (0<=(PE.ev O i).i/\(PE.ev O i).i<(PE.ev O x).s.size))):=zyz
@[simp] def aJj (a:ByteArray):(str a).s=a:=zyz
def akS (l:List Int)(x:Int)(hl:l.length<=4294967296):ah T 190 [ints l,.int x] (.int (wO l x)):=by
 refine zyw 33 aAR ?_;simp[ZA];refine .scan l.length (λk=>l.getD k 0≠x) (λk=>[.int 0,.int k]) (λ_=>[]) ?_ (λk hk hj ho=>?_) (λk hk hj ho=>?_) (λhj=>?_)
 .simp
 .have hw:=bq hk hl;simp[hk] at ho;have ji:¬x=l[k]:=λe=>ho e.symm;simp[WO,Iv,hk,hw,ints,ho,ji]
 .obtain⟨hm,he⟩:=idx_eq hk hj ho;simp[hk] at ho;simp[WO,Iv,hk,ints,ho,wO,hm,he]
 .have:=aeR hj;simp[WO,Iv,wO,this,ints]
def xR (l:List Int)(x:Int)(hl:l.length<=4294967296):ah T 168 [ints l,.int x] (.bool (hasB l x)):=by
 refine zyw 32 aAL ?_;simp[Zu];refine⟨_,akS l x hl,?_⟩;have:=aeQ l x;simp at this ⊢;exact this
def akT (l:List ByteArray)(x:ByteArray)(hl:l.length<=4294967296):ah T 204 [strs l,str x] (.int (wO l x)):=by
 refine zyw 72 aAS ?_;simp[ZB];refine .scan l.length (λk=>l.getD k default≠x) (λk=>[.int 0,.int k]) (λ_=>[]) ?_ (λk hk hj ho=>?_) (λk hk hj ho=>?_) (λhj=>?_)
 .simp
 .have hw:=bq hk hl;simp[hk] at ho;have ji:¬x=l[k]:=λe=>ho e.symm;simp[WQ,Iw,hk,hw,strs,ho,ji]
 .obtain⟨hm,he⟩:=idx_eq hk hj ho;simp[hk] at ho;simp[WQ,Iw,hk,strs,ho,wO,hm,he]
 .have:=aeR hj;simp[WQ,Iw,wO,this,strs]
def akJ (l:List ByteArray)(x:ByteArray)(hl:l.length<=4294967296):ah T 184 [strs l,str x] (.bool (hasB l x)):=by
 refine zyw 71 aAM ?_;simp[Zv];refine⟨_,akT l x hl,?_⟩;have:=aeQ l x;simp at this ⊢;exact this
def qT (l:List Int)(a b:Int)(k:Nat):Bool:=wi (l.getD k 0) a b&&(k==0||decide (l.getD (k-1) 0<l.getD k 0))
def rising (l:List Int)(a b:Int):Bool:=eU l.length (qT l a b)
def IC (l:List Int)(a b:Int)(hl:l.length<=4294967296):ah T 163 [ints l,.int a,.int b] (.bool (rising l a b)):=by
 refine zyw 76 aAy ?_;simp[Zi];refine gK l.length (qT l a b) (λk=>[.bool false,.int k]) (λ_=>[]) ?_ (λk hk ho=>?_) (λk hk ho hb=>?_) (λhj=>?_)
 .simp
 .have hw:=bq hk hl;simp[qT,wi,hk] at ho;obtain⟨⟨h1,h2⟩,h3⟩:=ho;have cC:¬l[k]<a:=by omega
  have gY:¬b<l[k]:=by omega
  by_cases ia:0<k
  .have bG:k-1<l.length:=by omega
   have db:i64.wrap ((k:Int)-1)=((k-1:Nat):Int):=by rw[xN (by omega)];omega
   have fE:¬l[k]<=l[k-1]:=by
        rcases h3 with h3|h3
        .omega
        .simp[bG] at h3;omega
   simp[DF,xo,hk,hw,db,ints,cC,gY,fE,ia,bG]
  .simp[DF,xo,hk,hw,ints,cC,gY,ia]
 .have hf:rising l a b=false:=hb;simp[qT,wi,hk] at ho;by_cases h1:l[k]<a
  .simp[DF,xo,hk,ints,h1,hf]
  by_cases h2:b<l[k]
  .simp[DF,xo,hk,ints,h1,h2,hf]
  have h3:=ho (by omega) (by omega);have ia:0<k:=by omega
  have bG:k-1<l.length:=by omega
  have db:i64.wrap ((k:Int)-1)=((k-1:Nat):Int):=by rw[xN (by omega)];omega
  have fE:=h3.2;simp[bG] at fE;simp[DF,xo,hk,db,ints,h1,h2,fE,ia,bG,hf]
 .have hf:rising l a b=true:=hj;simp[DF,xo,hf]
def GV (c:Int):Bool:=wi c 97 122||wi c 65 90
def zG (i:Nat)(c:Int):Bool:=GV c||(i !=0&&(decide (c=95)||wi c 48 57))
def EP (s:ByteArray)(k:Nat):Int:=((s.data.toList.getD k 0).toNat:Nat)
def jG (s:ByteArray):Bool:=decide (1<=s.size)&&decide (s.size<=20)&&eU s.size (λk=>zG k (EP s k))
def JJ {s:ByteArray}{k:Nat}(h:k<s.data.size):(s.data[k].toNat:Int)=EP s k:=by
 unfold EP;rw[aF,aX (by simpa using h)];rfl
def ajU {s:ByteArray}:s=⟨#[]⟩↔s.size=0:=by
 constructor
 .rintro rfl;rfl
 .intro h;cases s with|mk d=>congr;exact Pn h
def axq (s:ByteArray):ah T 183 [str s] (.bool (jG s)):=by
 refine zyw 70 aAt ?_;simp[Zd];by_cases h0:s=⟨#[]⟩
 .have hn:jG s=false:=by simp[jG,ajU.1 h0]
  rw[hn];simp[h0]
 by_cases h1:(20:Int)<s.size
 .have cC:¬s.size<=20:=by omega
  simp[h0,h1,jG,cC]
 have hz:1<=s.size:=by
  have:s.size≠0:=λe=>h0 (ajU.2 e);omega
 have cC:s.size<=20:=by omega
 simp[h0,h1];refine⟨by omega,gK s.size (λk=>zG k (EP s k)) (λk=>[.bool false,.int k]) (λ_=>[]) ?_ (λk hk ho=>?_) (λk hk ho hb=>?_) (λhj=>?_)⟩
 .simp
 .have hw:=bq hk (by omega);have bf:k<s.data.size:=hk;have hg:=JJ bf;simp[zG,GV,wi] at ho;simp[Ww,Ic,hk,bf,hw,hg];omega
 .have bf:k<s.data.size:=hk;have hg:=JJ bf;have hn:jG s=false:=by simp[jG,hb]
  simp[zG,GV,wi] at ho;simp[Ww,Ic,hk,bf,hg,hn];omega
 .have hn:jG s=true:=by simp[jG,hj,hz,cC]
  have hd:s.data.size=s.size:=rfl;simp[Ww,Ic,hn,hd]
def aiN (c:Int):ah T 167 [.v (.int .u8 c)] (.bool (GV c)):=by
 refine zyw 129 az1 ?_;simp[YA,GV,wi];by_cases h:97<=c<;>by_cases h2:c<=122<;>by_cases h3:65<=c<;>by_cases h4:c<=90<;>simp[h,h2,h3,h4]
def awK (s:ByteArray):ah T 128 [str s] (.bool (jG s)):=by
 refine zyw 128 az2 ?_;simp[YB];by_cases h0:(s.size:Int)<1
 .have hn:jG s=false:=by simp[jG];omega
  simp[h0,hn]
 by_cases h1:(20:Int)<s.size
 .have hn:jG s=false:=by simp[jG];omega
  simp[h0,h1,hn]
 rw[if_neg (by omega)];refine gK s.size (λk=>zG k (EP s k)) (λk=>[.bool false,.int k]) (λ_=>[]) ?_ (λk hk ho=>?_) (λk hk ho hb=>?_) (λhj=>?_)
 .simp
 .have hw:=bq hk (by omega);have bf:k<s.data.size:=hk;have hg:=JJ bf;simp[zG,wi] at ho;simp[Wd,HR,hk,bf,hw,hg];refine⟨_,aiN _,?_⟩;simp[hw];intro g1 g2;exfalso;rcases ho with h|h
  .rw[h] at g1;cases g1
  .omega
 .have bf:k<s.data.size:=hk;have hg:=JJ bf;have hn:jG s=false:=by simp[jG,hb]
  simp[zG,wi] at ho;simp[Wd,HR,hk,bf,hg,hn];refine⟨_,aiN _,?_⟩;simp[ho.1];omega
 .have hn:jG s=true:=by simp[jG,hj];omega
  simp[Wd,HR,hn]
def awH (l:List ByteArray)(n:Nat)(x:ByteArray)(hn:n<=l.length)(hl:l.length<=4294967296):ah T 129 [strs l,.int n,str x] (.bool (hasB (l.take n) x)):=by
 refine zyw 130 azY ?_;simp[Yx];refine .scan n (λk=>l.getD k default≠x) (λk=>[.bool false,.int k]) (λ_=>[]) ?_ (λk hk hj ho=>?_) (λk hk hj ho=>?_) (λhj=>?_)
 .simp
 .have bf:k<l.length:=by omega
  have hw:=bq bf hl;simp[bf] at ho;simp[Wc,HP,hk,bf,hw,strs,ho]
 .have bf:k<l.length:=by omega
  simp[bf] at ho;have hm:hasB (l.take n) x=true:=R6.2 (by rw[<-ho,akZ];exact⟨k,by omega,rfl⟩);simp[Wc,HP,hk,bf,strs,ho,hm]
 .have hm:hasB (l.take n) x=false:=adu.2 (λh=>by
   rw[akZ] at h;obtain⟨k,hk,e⟩:=h;have:=hj k (by omega);simp[show k<l.length by omega] at this;exact this e)
  simp[Wc,HP,hm]
def iP (l:List ByteArray)(i:Nat):Int:=if jG (l.getD i default)=false then 2 else if hasB (l.take i) (l.getD i default) then 5 else 0
def Ua (l:List ByteArray)(i n:Nat)(h:i<n):iP (l.take n) i=iP l i:=by
 unfold iP;rw[aF,Ef h,PJ,mX (by omega),<-aF]
def Ht (l:List ByteArray)(i:Nat)(hi:i<l.length)(hl:l.length<=4294967296):ah T 83 [strs l,.int i] (.int (iP l i)):=by
 refine zyw 127 az9 ?_;simp[YJ,hi];refine⟨_,by simpa [strs,hi] using awK l[i],?_⟩;unfold iP;rw[aF,aX hi,kU];cases h1:jG l[i]<;>simp[h1];refine⟨_,by simpa [strs,hi] using awH l i l[i] (by omega) hl,?_⟩;cases h2:hasB (l.take i) l[i]<;>simp[h2]
def ajr (l:List ByteArray)(i:Nat)(hi:i<l.length)(hl:l.length<=4294967296):ah T 162 [strs l,.int i] (.int (iP l i)):=by
 refine zyw 69 aAu ?_;simp[Ze,hi];refine⟨_,by simpa [strs,hi] using axq l[i],?_⟩;unfold iP;rw[aF,aX hi,kU];cases h1:jG l[i]<;>simp[h1];refine⟨by omega,_,by simpa [strs,hi] using akJ (l.take i) l[i] (by rw[dG];omega),?_⟩;cases h2:hasB (l.take i) l[i]<;>simp[h2]
def la (l:List ByteArray)(g:Nat->Bool)(i:Nat):Int:=if iP l i≠0 then iP l i else if g i then 0 else 1
def eO (l:List ByteArray)(G1:Int)(g:Nat->Bool):Int:=if G1<l.length then 6 else fX l.length (la l g)
def OE (l:List ByteArray)(G1:Int)(f:Nat)(caps:List D)(g:Nat->Bool)(hg:∀i:Nat,i<l.length->ah T f (.int i::caps) (.bool (g i)))(hl:l.length<=4294967296):
 ah T 112 [strs l,.int G1,.clo f caps] (.int (eO l G1 g)):=by
 refine zyw 68 aAr ?_;simp[Zb,eO];by_cases h0:G1<l.length
 .simp[h0];intro h;omega
 simp[h0];refine qW l.length (la l g) (λk=>[.int 0,.int k]) (λ_=>[]) ?_ (λk hk ho=>?_) (λk hk ho hb=>?_) (λhj=>?_)
 .simp
 .have hw:=bq hk hl;have h1:iP l k=0:=by
   refine AA λh=>?_;unfold la at ho;rw[if_pos h] at ho;exact h ho
  have h2:g k=true:=by
   unfold la at ho;rw[if_neg (by simpa using h1)] at ho;cases h:g k with
   |true=>rfl
   |false=>rw[h] at ho;simp at ho
  simp[Wv,Ib,hk,hw];refine⟨_,ajr l k hk hl,?_⟩;simp[h1];refine⟨_,_,⟨rfl,rfl⟩,_,hg k hk,?_⟩;simp[h2,hw]
 .simp[Wv,Ib,hk,hb];refine⟨_,ajr l k hk hl,?_⟩;unfold la at ho ⊢;by_cases h1:iP l k=0
  .simp[h1] at ho ⊢;refine⟨_,_,⟨rfl,rfl⟩,_,hg k hk,?_⟩;simp[ho]
  .simp[h1]
 .simp[Wv,Ib,hj]
def VS (l:List Int)(a b:Int)(hl:l.length<=4294967296):ah T 130 [ints l,.int a,.int b] (.bool (rising l a b)):=by
 refine zyw 133 az5 ?_;simp[YE];refine gK l.length (qT l a b) (λk=>[.bool false,.int k]) (λ_=>[]) ?_ (λk hk ho=>?_) (λk hk ho hb=>?_) (λhj=>?_)
 .simp
 .have hw:=bq hk hl;simp[qT,hk] at ho;simp[Wh,HW,hk,hw,ints];refine⟨_,cX _ _ _,?_⟩;by_cases ia:0<k
  .have bG:k-1<l.length:=by omega
   have db:i64.wrap ((k:Int)-1)=((k-1:Nat):Int):=by rw[xN (by omega)];omega
   have fE:¬l[k]<=l[k-1]:=by
        rcases ho.2 with h3|h3
        .omega
        .simp[bG] at h3;omega
   simp[ho.1,hk,hw,db,fE,ia,bG]
  .simp[ho.1,hk,hw,ia];omega
 .have hf:rising l a b=false:=hb;simp[qT,hk] at ho;simp[Wh,HW,hk,ints,hf];refine⟨_,cX _ _ _,?_⟩;cases h1:wi l[k] a b with
  |false=>simp
  |true=>
   have h3:=ho h1;have ia:0<k:=by omega
   have bG:k-1<l.length:=by omega
   have db:i64.wrap ((k:Int)-1)=((k-1:Nat):Int):=by rw[xN (by omega)];omega
   have fE:=h3.2;simp[bG] at fE;simp[hk,db,fE,ia,bG]
 .have hf:rising l a b=true:=hj;simp[Wh,HW,hf]
def Xt (n:Int):n.tdiv 100=if 0<=n then n/100 else-((-n)/100):=by
 split
 .rename_i h;exact Ec h
 .rename_i h;have e:n.tdiv 100=-((-n).tdiv 100):=by rw[Int.neg_tdiv,Int.neg_neg]
  rw[e,Ec (by omega)]
def aj9 (n:Int):n.tmod 100=n-100*n.tdiv 100:=Int.tmod_def n 100
def akr {n:Int}(h:bh n):i64.wrap (n.tdiv 100)=n.tdiv 100:=aR (by rw[Xt];unfold bh at h;split<;>omega)
def p7 (r:Realm)(c:City):Bool:=eU c.feasts.length (λk=>wi ((c.feasts.getD k 0).tmod 100) 1 31)&&(decide (c.feasts.length<=60)&&decide (c.shut.length<=200)&&aC c.order r.orders.length&&aC c.currency r.currencies.length)&&
 (rising c.rest 0 6&&rising c.feasts 101 1231&&rising c.shut 0 100000)
def axo (r:Realm)(c:City)(h1:c.rest.length<=4294967296)(h2:c.feasts.length<=4294967296)(h3:c.shut.length<=4294967296):ah T 115 [aQ r,gX c] (.bool (p7 r c)):=by
 refine zyw 75 aAq ?_;simp[Za];refine gK c.feasts.length (λk=>wi ((c.feasts.getD k 0).tmod 100) 1 31) (λk=>[.bool false,.int k]) (λ_=>[]) ?_ (λk hk ho=>?_) (λk hk ho hb=>?_) (λhj=>?_)
 .simp
 .have hw:=bq hk h2;simp[wi,hk] at ho;have g1:¬(c.feasts[k].tmod 100<1):=by omega
  have g2:¬(31<c.feasts[k].tmod 100):=by omega
  simp[Wu,Ia,hk,hw,ints,g1,g2]
 .have hf:p7 r c=false:=by simp only[p7,hb,sX]
  simp[wi,hk] at ho;simp[Wu,Ia,hk,ints,hf];by_cases g1:c.feasts[k].tmod 100<1
  .simp[g1]
  .have g2:=ho (by omega);simp[g1,g2]
 .simp[Wu,Ia];by_cases g1:(c.feasts.length:Int)<=60
  case neg=>
   have hf:p7 r c=false:=by
        have fC:decide (c.feasts.length<=60)=false:=decide_eq_false (by omega);simp only[p7,fC,sX,Ay]
   have fC:(60:Int)<c.feasts.length:=by omega
   simp[g1,fC,hf]
  by_cases g2:(c.shut.length:Int)<=200
  case neg=>
   have hf:p7 r c=false:=by
        have fC:decide (c.shut.length<=200)=false:=decide_eq_false (by omega);simp only[p7,fC,sX,Ay]
   have qe:(200:Int)<c.shut.length:=by omega
   simp[g1,g2,qe,hf]
  have fC:¬(60:Int)<c.feasts.length:=by omega
  have qe:¬(200:Int)<c.shut.length:=by omega
  have hf:p7 r c=(aC c.order r.orders.length&&aC c.currency r.currencies.length&&(rising c.rest 0 6&&rising c.feasts 101 1231&&rising c.shut 0 100000)):=by
   have e1:decide (c.feasts.length<=60)=true:=decide_eq_true (by omega);have e2:decide (c.shut.length<=200)=true:=decide_eq_true (by omega);simp only[p7,hj,e1,e2,Az]
  rw[hf];simp[g1,g2,fC,qe];refine⟨_,gm _ _,?_⟩;simp;cases e1:aC c.order r.orders.length<;>simp;refine⟨_,gm _ _,?_⟩;simp;cases e2:aC c.currency r.currencies.length<;>simp;refine⟨_,IC _ _ _ h1,?_⟩;simp;cases e3:rising c.rest 0 6<;>simp;refine⟨_,IC _ _ _ h2,?_⟩;simp;cases e4:rising c.feasts 101 1231<;>simp;exact IC _ _ _ h3
def rz (r:Realm)(c:City):Bool:=(wi c.order 0 (r.orders.length-1)&&wi c.currency 0 (r.currencies.length-1)&&decide (c.feasts.length<=60)&&decide (c.shut.length<=200))&&
 eU c.feasts.length (λk=>wi ((c.feasts.getD k 0).tdiv 100) 1 12&&wi ((c.feasts.getD k 0).tmod 100) 1 31)&&(rising c.rest 0 6&&rising c.feasts 0 2000&&rising c.shut 0 100000)
def uB (n:Nat)(h:n<=4294967296):i64.wrap ((n:Int)-1)=(n:Int)-1:=aR (by omega)
def awL (r:Realm)(c:City)(h1:c.rest.length<=4294967296)(h2:c.feasts.length<=4294967296)(h3:c.shut.length<=4294967296)(h4:r.orders.length<=4294967296)(h5:r.currencies.length<=4294967296)(hi:∀y,y∈c.feasts->bh y):
 ah T 84 [aQ r,gX c] (.bool (rz r c)):=by
 refine zyw 131 az3 ?_;simp[YC,uB _ h4,uB _ h5];refine⟨_,cX _ _ _,?_⟩;cases e1:wi c.order 0 (r.orders.length-1)
 case false=>simp[rz,e1]
 simp;refine⟨_,cX _ _ _,?_⟩;cases e2:wi c.currency 0 (r.currencies.length-1)
 case false=>simp[rz,e1,e2]
 by_cases g1:(c.feasts.length:Int)<=60
 case neg=>
  have hf:rz r c=false:=by
   have fC:decide (c.feasts.length<=60)=false:=decide_eq_false (by omega);simp only[rz,fC,sX,Ay]
  have fC:(60:Int)<c.feasts.length:=by omega
  simp[fC,hf]
 by_cases g2:(c.shut.length:Int)<=200
 case neg=>
  have hf:rz r c=false:=by
   have fC:decide (c.shut.length<=200)=false:=decide_eq_false (by omega);simp only[rz,fC,sX,Ay]
  have qe:(200:Int)<c.shut.length:=by omega
  simp[qe,hf]
 have fC:¬(60:Int)<c.feasts.length:=by omega
 have qe:¬(200:Int)<c.shut.length:=by omega
 have hf:rz r c=(eU c.feasts.length (λk=>wi ((c.feasts.getD k 0).tdiv 100) 1 12&&wi ((c.feasts.getD k 0).tmod 100) 1 31)&&(rising c.rest 0 6&&rising c.feasts 0 2000&&rising c.shut 0 100000)):=by
  have e3:decide (c.feasts.length<=60)=true:=decide_eq_true (by omega);have e4:decide (c.shut.length<=200)=true:=decide_eq_true (by omega);simp only[rz,e1,e2,e3,e4,Az]
 rw[hf];simp[fC,qe];refine gK c.feasts.length (λk=>wi ((c.feasts.getD k 0).tdiv 100) 1 12&&wi ((c.feasts.getD k 0).tmod 100) 1 31) (λk=>[.bool false,.int k]) (λ_=>[]) ?_ (λk hk ho=>?_) (λk hk ho hb=>?_) (λhj=>?_)
 .simp
 .have hw:=bq hk h2;have hI:=hi _ (bR hk);have hq:i64.wrap (c.feasts[k].tdiv 100)=c.feasts[k].tdiv 100:=akr hI;simp[hk] at ho;simp[We,HT,hk,ints,hq];refine⟨_,cX _ _ _,?_⟩;simp[ho.1,hk];refine⟨_,cX _ _ _,?_⟩;simp[ho.2,hk,hw]
 .have hI:=hi _ (bR hk);have hq:i64.wrap (c.feasts[k].tdiv 100)=c.feasts[k].tdiv 100:=akr hI;simp[hk] at ho;simp only[aF] at hb;rw[hb];simp[We,HT,hk,ints,hq];refine⟨_,cX _ _ _,?_⟩;cases e3:wi (c.feasts[k].tdiv 100) 1 12 with
  |false=>simp
  |true=>
   have:=ho e3;simp[hk];refine⟨_,cX _ _ _,?_⟩;simp[this]
 .simp only[aF] at hj;rw[hj];simp[We,HT];refine⟨_,VS _ _ _ h1,?_⟩;simp;cases e3:rising c.rest 0 6<;>simp;refine⟨_,VS _ _ _ h2,?_⟩;simp;cases e4:rising c.feasts 0 2000<;>simp;exact VS _ _ _ h3
def amw (r:Realm)(c:City):rz r c=p7 r c:=by
 rw[uD];have bO:∀(i:Int) (n:Nat),(wi i 0 (n-1)=true)↔(aC i n=true):=by intro i n;simp[wi,aC];omega
 simp only[rz,p7,ao,decide_eq_true_eq,bO,rising,yh,qT];constructor
 .rintro⟨⟨⟨⟨⟨a1,a2⟩,a3⟩,a4⟩,a5⟩,⟨a6,a7⟩,a8⟩;refine⟨⟨λk hk=>(a5 k hk).2,⟨⟨⟨a3,a4⟩,a1⟩,a2⟩⟩,⟨a6,λk hk=>?_⟩,a8⟩;have h1:=a5 k hk;have h2:=a7 k hk;simp[wi,aj9,Xt] at h1 h2 ⊢;split at h1<;>omega
 .rintro⟨⟨a5,⟨⟨⟨a3,a4⟩,a1⟩,a2⟩⟩,⟨a6,a7⟩,a8⟩;refine⟨⟨⟨⟨⟨a1,a2⟩,a3⟩,a4⟩,λk hk=>?_⟩,⟨a6,λk hk=>?_⟩,a8⟩
  .have h1:=a5 k hk;have h2:=a7 k hk;simp[wi,aj9,Xt] at h1 h2 ⊢;split at h1<;>(try split)<;>omega
  .have h2:=a7 k hk;simp[wi] at h2 ⊢;omega
def DW {α β:Type}(f:α->β){l:List α}{k:Nat}(h:k<l.length):(l.take (k+1)).map f=(l.take k).map f++[f l[k]]:=by
 rw[iX h,pR];rfl
def pj (i:Int)(n:Nat):aC i n=wi i 0 ((n:Int)-1):=by
 rw[uD];simp[wi,aC];omega
def AR (o:Order):List Int:=o.choices.map (·.ask)
def Ew (o:Order):List Int:=o.rules.map (·.ask)
def sB (o:Order):Bool:=eU o.choices.length (λk=>aC (o.choices.getD k default).by_ 5)&&(rising (AR o) 0 21&&rising (Ew o) 0 21)
def axt (o:Order)(h1:o.choices.length<=100000)(h2:o.rules.length<=100000):ah T 119 [kD o] (.bool (sB o)):=by
 refine zyw 79 aAw ?_;simp[Zg];refine gK o.choices.length (λk=>aC (o.choices.getD k default).by_ 5) (λk=>[.bool false,.none,.int k]) (λk=>[ints ((o.choices.take k).map (·.ask))]) ?_ (λk hk ho=>?_) (λk hk ho hb=>?_) (λhj=>?_)
 .simp[ints]
 .have hw:=bq hk (by omega);have hl:(o.choices.take k).length=k:=by rw[dG];omega
  simp[hk] at ho;rw[DW _ hk];simp[Wx,Ie,hk,hw,ints,hl];refine⟨by omega,_,gm _ _,?_⟩;simp[ho,hw]
 .have hf:sB o=false:=by simp only[sB,hb,sX]
  have hl:(o.choices.take k).length=k:=by rw[dG];omega
  simp[hk] at ho;simp[Wx,Ie,hk,ints,hl,hf];refine⟨by omega,_,gm _ _,?_⟩;simp[ho]
 .have hf:sB o=(rising (AR o) 0 21&&rising (Ew o) 0 21):=by simp only[sB,hj,Az]
  rw[hf];simp[Wx,Ie];refine aL.forRounds o.rules.length (λk=>[.none,.int k]) (λk=>[ints ((o.rules.take k).map (·.ask))]) ?_ (λk hk=>?_) ?_
  .simp[ints]
  .have hw:=bq hk (by omega);have hl:(o.rules.take k).length=k:=by rw[dG];omega
   rw[DW _ hk];simp[ajk,Ov,hk,hw,ints,hl];omega
  .simp[ajk,Ov];refine⟨_,IC (AR o) _ _ (by simp[AR];omega),?_⟩;simp;cases e1:rising (AR o) 0 21<;>simp;exact IC (Ew o) _ _ (by simp[Ew];omega)
def zK (o:Order)(k:Nat):Bool:=wi (o.choices.getD k default).ask 0 21&&wi (o.choices.getD k default).by_ 0 4&&(k==0||decide ((o.choices.getD (k-1) default).ask<(o.choices.getD k default).ask))
def C5 (o:Order)(k:Nat):Bool:=wi (o.rules.getD k default).ask 0 21&&(k==0||decide ((o.rules.getD (k-1) default).ask<(o.rules.getD k default).ask))
def avU (o:Order):(eU o.choices.length (zK o)&&eU o.rules.length (C5 o))=sB o:=by
 rw[uD];simp only[sB,ao,rising,yh,AR,Ew,ed];have g1:∀k,k<o.choices.length->(qT (o.choices.map (·.ask)) 0 21 k=true↔wi (o.choices.getD k default).ask 0 21=true/\(k=0\/(o.choices.getD (k-1) default).ask<(o.choices.getD k default).ask)):=by
  intro k hk;have bG:k-1<o.choices.length:=by omega
  simp[qT,hk,bG]
 have g2:∀k,k<o.rules.length->(qT (o.rules.map (·.ask)) 0 21 k=true↔wi (o.rules.getD k default).ask 0 21=true/\(k=0\/(o.rules.getD (k-1) default).ask<(o.rules.getD k default).ask)):=by
  intro k hk;have bG:k-1<o.rules.length:=by omega
  simp[qT,hk,bG]
 constructor
 .rintro⟨a,b⟩;refine⟨λk hk=>?_,λk hk=>(g1 k hk).2 ?_,λk hk=>(g2 k hk).2 ?_⟩
  .have:=a k hk;simp[zK,wi,aC] at this ⊢;omega
  .have:=a k hk;simp[zK] at this ⊢;exact⟨this.1.1,this.2⟩
  .have:=b k hk;simp[C5] at this ⊢;exact this
 .rintro⟨c,a,b⟩;refine⟨λk hk=>?_,λk hk=>?_⟩
  .have h1:=(g1 k hk).1 (a k hk);have h2:=c k hk;simp[zK,wi,aC] at h1 h2 ⊢;omega
  .have h1:=(g2 k hk).1 (b k hk);simp[C5] at h1 ⊢;exact h1
def awM (o:Order)(h1:o.choices.length<=100000)(h2:o.rules.length<=100000):ah T 86 [kD o] (.bool (sB o)):=by
 rw[<-avU];refine zyw 136 az4 ?_;simp[YD];refine gK o.choices.length (zK o) (λk=>[.bool false,.int k]) (λ_=>[]) ?_ (λk hk ho=>?_) (λk hk ho hb=>?_) (λhj=>?_)
 .simp
 .have hw:=bq hk (by omega);simp[zK,hk] at ho;simp[Wf,HU,hk];refine⟨_,cX _ _ _,?_⟩;simp[ho.1.1,hk];refine⟨_,cX _ _ _,?_⟩;by_cases ia:0<k
  .have bG:k-1<o.choices.length:=by omega
   have db:i64.wrap ((k:Int)-1)=((k-1:Nat):Int):=by rw[xN (by omega)];omega
   have h3:¬o.choices[k].ask<=o.choices[k-1].ask:=by
        rcases ho.2 with h3|h3
        .omega
        .simp[bG] at h3;omega
   simp[ho.1.2,hk,hw,db,h3,ia,bG]
  .simp[ho.1.2,hk,hw,ia];omega
 .rw[hb];simp[zK,hk] at ho;simp[Wf,HU,hk];refine⟨_,cX _ _ _,?_⟩;cases e1:wi o.choices[k].ask 0 21 with
  |false=>simp
  |true=>
   simp[hk];refine⟨_,cX _ _ _,?_⟩;cases e2:wi o.choices[k].by_ 0 4 with
   |false=>simp
   |true=>
    have h3:=ho e1 e2;have ia:0<k:=by omega
    have bG:k-1<o.choices.length:=by omega
    have db:i64.wrap ((k:Int)-1)=((k-1:Nat):Int):=by rw[xN (by omega)];omega
    have fE:=h3.2;simp[bG] at fE;simp[hk,db,fE,ia,bG]
 .rw[hj];simp[Wf,HU];refine gK o.rules.length (C5 o) (λk=>[.bool false,.int k]) (λ_=>[]) ?_ (λk hk ho=>?_) (λk hk ho hb=>?_) (λhj=>?_)
  .simp
  .have hw:=bq hk (by omega);simp[C5,hk] at ho;simp[Wg,HV,hk];refine⟨_,cX _ _ _,?_⟩;by_cases ia:0<k
   .have bG:k-1<o.rules.length:=by omega
    have db:i64.wrap ((k:Int)-1)=((k-1:Nat):Int):=by rw[xN (by omega)];omega
    have h3:¬o.rules[k].ask<=o.rules[k-1].ask:=by
       rcases ho.2 with h3|h3
       .omega
       .simp[bG] at h3;omega
    simp[ho.1,hk,hw,db,h3,ia,bG]
   .simp[ho.1,hk,hw,ia];omega
  .rw[hb];simp[C5,hk] at ho;simp[Wg,HV,hk];refine⟨_,cX _ _ _,?_⟩;cases e1:wi o.rules[k].ask 0 21 with
   |false=>simp
   |true=>
    have h3:=ho e1;have ia:0<k:=by omega
    have bG:k-1<o.rules.length:=by omega
    have db:i64.wrap ((k:Int)-1)=((k-1:Nat):Int):=by rw[xN (by omega)];omega
    have fE:=h3.2;simp[bG] at fE;simp[hk,db,fE,ia,bG]
  .rw[hj];simp[Wg,HV]
def fM (r:Realm):List ByteArray:=r.cities.map (·.name)
def eZ (r:Realm):List ByteArray:=r.firms.map (·.name)
def fa (r:Realm):List ByteArray:=r.orders.map (·.name)
def axs (r:Realm)(h1:r.cities.length<=100000)(h2:r.firms.length<=100000)(h3:r.orders.length<=100000):ah T 111 [aQ r] (.tup [strs (fM r),strs (eZ r),strs (fa r)]):=by
 refine zyw 67 aAv ?_;simp[Zf];refine aL.forRounds r.cities.length (λk=>[.none,.int k]) (λk=>[strs ((r.cities.take k).map (·.name))]) ?_ (λk hk=>?_) ?_
 .simp[strs]
 .have hw:=bq hk (by omega);have hl:(r.cities.take k).length=k:=by rw[dG];omega
  rw[DW _ hk];simp[ajh,Oq,hk,hw,strs,hl];omega
 .simp[ajh,Oq];refine aL.forRounds r.firms.length (λk=>[.none,.int k]) (λk=>[strs ((r.firms.take k).map (·.name))]) ?_ (λk hk=>?_) ?_
  .simp[strs]
  .have hw:=bq hk (by omega);have hl:(r.firms.take k).length=k:=by rw[dG];omega
   rw[DW _ hk];simp[aji,Ot,hk,hw,strs,hl];omega
  .simp[aji,Ot];refine aL.forRounds r.orders.length (λk=>[.none,.int k]) (λk=>[strs ((r.orders.take k).map (·.name))]) ?_ (λk hk=>?_) ?_
   .simp[strs]
   .have hw:=bq hk (by omega);have hl:(r.orders.take k).length=k:=by rw[dG];omega
    rw[DW _ hk];simp[ajj,Ou,hk,hw,strs,hl];omega
   .simp[ajj,Ou,fM,eZ,fa]
structure Small (r:Realm):Prop where
 cur:r.currencies.length<=1000
 cities:r.cities.length<=1000
 groups:r.groups.length<=1000
 firms:r.firms.length<=1000
 orders:r.orders.length<=1000
 us:r.usances.length<=1000
 rates:r.rates.length<=1000
 halts:r.halts.length<=1000
 city:∀c,c∈r.cities->c.rest.length<=1000/\c.feasts.length<=1000/\c.shut.length<=1000/\∀y,y∈c.feasts->bh y
 order:∀o,o∈r.orders->o.choices.length<=1000/\o.rules.length<=1000
 rate:∀x,x∈r.rates->bh x.num/\bh x.den
def mS (r:Realm)(k j:Nat):Bool:=(r.usances.getD j default).fr !=(r.usances.getD k default).fr||(r.usances.getD j default).to !=(r.usances.getD k default).to
def Aq (r:Realm)(k:Nat):Int:=
 if(aC (r.usances.getD k default).fr r.cities.length&&aC (r.usances.getD k default).to r.cities.length&&wi (r.usances.getD k default).days 1 20000)=false then 1 else if eU k (mS r k) then 0 else 5
def xE (r:Realm):Int:=if 100<r.usances.length then 6 else fX r.usances.length (Aq r)
def axv (r:Realm)(h:Small r):ah T 120 [aQ r] (.int (xE r)):=by
 refine zyw 80 aAz ?_;have hu:=h.us;simp[Zj,xE];by_cases h0:100<r.usances.length
 .have gy:(100:Int)<r.usances.length:=by omega
  have yL:¬r.usances.length<=100:=by omega
  simp[h0,gy,yL]
 have gy:¬(100:Int)<r.usances.length:=by omega
 simp[h0,gy];refine qW r.usances.length (Aq r) (λk=>[.int 0,.int k]) (λ_=>[]) ?_ (λk hk ho=>?_) (λk hk ho hb=>?_) (λhj=>?_)
 .simp
 .have hw:=bq hk (by omega);have ha:aC r.usances[k].fr r.cities.length=true/\aC r.usances[k].to r.cities.length=true/\wi r.usances[k].days 1 20000=true/\eU k (mS r k)=true:=by
   unfold Aq at ho;simp only[aF,aX hk,kU] at ho;cases e1:aC r.usances[k].fr r.cities.length<;>cases e2:aC r.usances[k].to r.cities.length<;>cases e3:wi r.usances[k].days 1 20000<;>cases e4:eU k (mS r k)<;>simp[e1,e2,e3,e4] at ho ⊢
  obtain⟨a1,a2,a3,a4⟩:=ha;simp[wi] at a3;have a5:¬r.usances[k].days<1:=by omega
  have a6:¬20000<r.usances[k].days:=by omega
  simp[WA,Ih,hk];refine⟨_,gm _ _,?_⟩;simp[a1];refine⟨_,gm _ _,?_⟩;simp[a2,a5,a6];refine⟨by omega,gK k (mS r k) (λj=>[.int 0,.int j]) (λ_=>[]) ?_ (λj hj fJ=>?_) (λj hj fJ df=>?_) (λtQ=>?_)⟩
  .simp
  .have zk:=bq hj (by omega);have bz:j<r.usances.length:=by omega
   have hm:j<min k r.usances.length:=by omega
   simp[mS,bz,hk] at fJ;simp[Ow,DG,hj,bz,hk,zk,hm];intro e e';rcases fJ with h|h
   .exact absurd e h
   .exact absurd e' h
  .rw[a4] at df;cases df
  .simp[Ow,DG,hw];omega
 .simp[WA,Ih,hk,hb];refine⟨_,gm _ _,?_⟩;unfold Aq at ho ⊢;simp only[aF,aX hk,kU] at ho ⊢;cases e1:aC r.usances[k].fr r.cities.length
  .simp
  simp;refine⟨_,gm _ _,?_⟩;cases e2:aC r.usances[k].to r.cities.length
  .simp
  cases e3:wi r.usances[k].days 1 20000
  .simp[wi] at e3;by_cases g:r.usances[k].days<1
   .simp[g]
   .simp[g,e3 (by omega)]
  have Fa:=e3;simp[wi] at Fa;have a5:¬r.usances[k].days<1:=by omega
  have a6:¬20000<r.usances[k].days:=by omega
  simp[e1,e2,e3] at ho;simp[a5,a6];refine⟨by omega,gK k (mS r k) (λj=>[.int 0,.int j]) (λ_=>[]) ?_ (λj hj fJ=>?_) (λj hj fJ df=>?_) (λtQ=>?_)⟩
  .simp
  .have zk:=bq hj (by omega);have bz:j<r.usances.length:=by omega
   have hm:j<min k r.usances.length:=by omega
   simp[mS,bz,hk] at fJ;simp[Ow,DG,hj,bz,hk,zk,hm];intro e e';rcases fJ with h|h
   .exact absurd e h
   .exact absurd e' h
  .have bz:j<r.usances.length:=by omega
   have hm:j<min k r.usances.length:=by omega
   simp[mS,bz,hk] at fJ;simp[Ow,DG,hj,bz,hk,ho,hm]
   first|exact fJ|simp[fJ]
  .rw[tQ] at ho;cases ho
 .simp[WA,Ih,hj]
def awR (r:Realm)(h:Small r):ah T 49 [aQ r] (.int (xE r)):=by
 refine zyw 137 aAc ?_;have hu:=h.us;have hc:=h.cities;simp[YM,xE];by_cases h0:100<r.usances.length
 .have gy:(100:Int)<r.usances.length:=by omega
  have yL:¬r.usances.length<=100:=by omega
  simp[h0,gy,yL]
 have gy:¬(100:Int)<r.usances.length:=by omega
 simp[h0,gy];refine qW r.usances.length (Aq r) (λk=>[.int 0,.int k]) (λ_=>[]) ?_ (λk hk ho=>?_) (λk hk ho hb=>?_) (λhj=>?_)
 .simp
 .have hw:=bq hk (by omega);have ha:aC r.usances[k].fr r.cities.length=true/\aC r.usances[k].to r.cities.length=true/\wi r.usances[k].days 1 20000=true/\eU k (mS r k)=true:=by
   unfold Aq at ho;simp only[aF,aX hk,kU] at ho;cases e1:aC r.usances[k].fr r.cities.length<;>cases e2:aC r.usances[k].to r.cities.length<;>cases e3:wi r.usances[k].days 1 20000<;>cases e4:eU k (mS r k)<;>simp[e1,e2,e3,e4] at ho ⊢
  obtain⟨a1,a2,a3,a4⟩:=ha;rw[pj] at a1 a2;simp[Wp,H5,hk,uB _ (show r.cities.length<=4294967296 by omega)];refine⟨_,cX _ _ _,?_⟩;simp[a1,uB _ (show r.cities.length<=4294967296 by omega)];refine⟨_,cX _ _ _,?_⟩;simp[a2];refine⟨_,cX _ _ _,?_⟩;simp[a3];refine gK k (mS r k) (λj=>[.int 0,.int j]) (λ_=>[]) ?_ (λj hj fJ=>?_) (λj hj fJ df=>?_) (λtQ=>?_)
  .simp
  .have zk:=bq hj (by omega);have bz:j<r.usances.length:=by omega
   simp[mS,bz,hk] at fJ;simp[Oj,DA,hj,bz,hk,zk];intro e e';rcases fJ with h|h
   .exact absurd e h
   .exact absurd e' h
  .rw[a4] at df;cases df
  .simp[Oj,DA,hw]
 .simp[Wp,H5,hk,hb,uB _ (show r.cities.length<=4294967296 by omega)];refine⟨_,cX _ _ _,?_⟩;unfold Aq at ho ⊢;simp only[aF,aX hk,kU,pj] at ho ⊢;cases e1:wi r.usances[k].fr 0 ((r.cities.length:Int)-1)
  .simp
  simp[uB _ (show r.cities.length<=4294967296 by omega)];refine⟨_,cX _ _ _,?_⟩;cases e2:wi r.usances[k].to 0 ((r.cities.length:Int)-1)
  .simp
  simp;refine⟨_,cX _ _ _,?_⟩;cases e3:wi r.usances[k].days 1 20000
  .simp
  simp[e1,e2,e3] at ho;simp;refine gK k (mS r k) (λj=>[.int 0,.int j]) (λ_=>[]) ?_ (λj hj fJ=>?_) (λj hj fJ df=>?_) (λtQ=>?_)
  .simp
  .have zk:=bq hj (by omega);have bz:j<r.usances.length:=by omega
   simp[mS,bz,hk] at fJ;simp[Oj,DA,hj,bz,hk,zk];intro e e';rcases fJ with h|h
   .exact absurd e h
   .exact absurd e' h
  .have bz:j<r.usances.length:=by omega
   simp[mS,bz,hk] at fJ;simp[Oj,DA,hj,bz,hk,ho]
   first|exact fJ|simp[fJ]
  .rw[tQ] at ho;cases ho
 .simp[Wp,H5,hj]
def Ac (r:Realm)(k:Nat):Bool:=aC (r.rates.getD k default).fr r.currencies.length&&aC (r.rates.getD k default).to r.currencies.length&&((r.rates.getD k default).fr !=(r.rates.getD k default).to)&&
 wi (r.rates.getD k default).num 1 1073741824&&wi (r.rates.getD k default).den 1 1073741824&&wi (r.rates.getD k default).since 0 100000
def wx (r:Realm)(k:Nat):Bool:=aC (r.halts.getD k default).order r.orders.length&&wi (r.halts.getD k default).fr 0 (r.halts.getD k default).to&&decide ((r.halts.getD k default).to<=100000)
def qQ (r:Realm):Int:=if 100<r.rates.length then 6 else if eU r.rates.length (Ac r)=false then 1 else if 20<r.halts.length then 6 else if eU r.halts.length (wx r) then 0 else 1
def Mw {n:Int}(h:bh n)(m:Int)(hm:0<=m/\m<=4294967296):aC (i64.wrap (n-1)) m=wi n 1 m:=by
 unfold bh at h;by_cases e:n=-9223372036854775808
 .subst e;have:i64.wrap (-9223372036854775808-1)=9223372036854775807:=by decide
  rw[this,uD];simp[aC,wi];omega
 .rw[aR (by omega),uD];simp[aC,wi];omega
def aeX (n:Int):aC n 100001=wi n 0 100000:=by rw[uD];simp[aC,wi];omega
def axu (r:Realm)(h:Small r):ah T 121 [aQ r] (.int (qQ r)):=by
 refine zyw 81 aAx ?_;have hu:=h.rates;have hh:=h.halts;simp[Zh,qQ];by_cases h0:100<r.rates.length
 .have gy:(100:Int)<r.rates.length:=by omega
  have yL:¬r.rates.length<=100:=by omega
  simp[h0,gy,yL]
 have gy:¬(100:Int)<r.rates.length:=by omega
 simp[h0,gy];have key:∀k (hk:k<r.rates.length),∀{O:Env} {Q:Out->Prop},True:=λ_ _ _ _=>trivial;refine gK r.rates.length (Ac r) (λk=>[.int 0,.int k]) (λ_=>[]) ?_ (λk hk ho=>?_) (λk hk ho hb=>?_) (λhj=>?_)
 .simp
 .have hw:=bq hk (by omega);have hI:=h.rate _ (bR hk);simp[Ac,hk] at ho;obtain⟨⟨⟨⟨⟨a1,a2⟩,a3⟩,a4⟩,a5⟩,a6⟩:=ho;simp[Wy,If,hk];refine⟨_,gm _ _,?_⟩;simp[a1];refine⟨_,gm _ _,?_⟩;simp[a2,a3];refine⟨_,gm _ _,?_⟩;simp[Mw hI.1,a4];refine⟨_,gm _ _,?_⟩;simp[Mw hI.2,a5];refine⟨_,gm _ _,?_⟩;simp[aeX,a6,hw]
 .have hI:=h.rate _ (bR hk);rw[hb];simp[Ac,hk] at ho;simp[Wy,If,hk];refine⟨_,gm _ _,?_⟩;cases e1:aC r.rates[k].fr r.currencies.length
  .simp
  simp;refine⟨_,gm _ _,?_⟩;cases e2:aC r.rates[k].to r.currencies.length
  .simp
  by_cases e3:r.rates[k].fr=r.rates[k].to
  .simp[e3]
  simp[e3];refine⟨_,gm _ _,?_⟩;rw[Mw hI.1 _ (by omega)];cases e4:wi r.rates[k].num 1 1073741824
  .simp
  simp;refine⟨_,gm _ _,?_⟩;rw[Mw hI.2 _ (by omega)];cases e5:wi r.rates[k].den 1 1073741824
  .simp
  simp;refine⟨_,gm _ _,?_⟩;rw[aeX];simp[ho e1 e2 e3 e4 e5]
 .rw[hj];simp[Wy,If];by_cases h1:20<r.halts.length
  .have cC:(20:Int)<r.halts.length:=by omega
   have RS:¬r.halts.length<=20:=by omega
   simp[h1,cC,RS]
  have cC:¬(20:Int)<r.halts.length:=by omega
  simp[h1,cC];refine gK r.halts.length (wx r) (λk=>[.int 0,.int k]) (λ_=>[]) ?_ (λk hk ho=>?_) (λk hk ho hb=>?_) (λhj=>?_)
  .simp
  .have hw:=bq hk (by omega);simp[wx,wi,hk] at ho;obtain⟨⟨a1,a2⟩,a3⟩:=ho;have b1:¬r.halts[k].fr<0:=by omega
   have b2:¬r.halts[k].to<r.halts[k].fr:=by omega
   have b3:¬100000<r.halts[k].to:=by omega
   simp[Wz,Ig,hk];refine⟨_,gm _ _,?_⟩;simp[a1,b1,b2,b3,hw]
  .rw[hb];simp[wx,wi,hk] at ho;simp[Wz,Ig,hk];refine⟨_,gm _ _,?_⟩;cases e1:aC r.halts[k].order r.orders.length
   .simp
   have:=ho e1;by_cases b1:r.halts[k].fr<0
   .simp[b1]
   by_cases b2:r.halts[k].to<r.halts[k].fr
   .simp[b1,b2]
   have b3:100000<r.halts[k].to:=this (by omega) (by omega);simp[b1,b2,b3]
  .rw[hj];simp[Wz,Ig]
def awQ (r:Realm)(h:Small r):ah T 50 [aQ r] (.int (qQ r)):=by
 refine zyw 138 aAb ?_;have hu:=h.rates;have hh:=h.halts;have hc:=uB r.currencies.length (by have:=h.cur;omega);have Mi:=uB r.orders.length (by have:=h.orders;omega);simp[YL,qQ];by_cases h0:100<r.rates.length
 .have gy:(100:Int)<r.rates.length:=by omega
  have yL:¬r.rates.length<=100:=by omega
  simp[h0,gy,yL]
 have gy:¬(100:Int)<r.rates.length:=by omega
 simp[h0,gy];refine gK r.rates.length (Ac r) (λk=>[.int 0,.int k]) (λ_=>[]) ?_ (λk hk ho=>?_) (λk hk ho hb=>?_) (λhj=>?_)
 .simp
 .have hw:=bq hk (by omega);simp[Ac,hk,pj] at ho;obtain⟨⟨⟨⟨⟨a1,a2⟩,a3⟩,a4⟩,a5⟩,a6⟩:=ho;simp[Wn,H3,hk,hc];refine⟨_,cX _ _ _,?_⟩;simp[a1,hc];refine⟨_,cX _ _ _,?_⟩;simp[a2,a3];refine⟨_,cX _ _ _,?_⟩;simp[a4];refine⟨_,cX _ _ _,?_⟩;simp[a5];refine⟨_,cX _ _ _,?_⟩;simp[a6,hw]
 .rw[hb];simp[Ac,hk,pj] at ho;simp[Wn,H3,hk,hc];refine⟨_,cX _ _ _,?_⟩;cases e1:wi r.rates[k].fr 0 ((r.currencies.length:Int)-1)
  .simp
  simp[hc];refine⟨_,cX _ _ _,?_⟩;cases e2:wi r.rates[k].to 0 ((r.currencies.length:Int)-1)
  .simp
  by_cases e3:r.rates[k].fr=r.rates[k].to
  .simp[e3]
  simp[e3];refine⟨_,cX _ _ _,?_⟩;cases e4:wi r.rates[k].num 1 1073741824
  .simp
  simp;refine⟨_,cX _ _ _,?_⟩;cases e5:wi r.rates[k].den 1 1073741824
  .simp
  simp;refine⟨_,cX _ _ _,?_⟩;simp[ho e1 e2 e3 e4 e5]
 .rw[hj];simp[Wn,H3];by_cases h1:20<r.halts.length
  .have cC:(20:Int)<r.halts.length:=by omega
   have RS:¬r.halts.length<=20:=by omega
   simp[h1,cC,RS]
  have cC:¬(20:Int)<r.halts.length:=by omega
  simp[h1,cC];refine gK r.halts.length (wx r) (λk=>[.int 0,.int k]) (λ_=>[]) ?_ (λk hk ho=>?_) (λk hk ho hb=>?_) (λhj=>?_)
  .simp
  .have hw:=bq hk (by omega);simp[wx,hk,pj] at ho;obtain⟨⟨a1,a2⟩,a3⟩:=ho;have b3:¬100000<r.halts[k].to:=by omega
   simp[Wo,H4,hk,Mi];refine⟨_,cX _ _ _,?_⟩;simp[a1];refine⟨_,cX _ _ _,?_⟩;simp[a2,b3,hw]
  .rw[hb];simp[wx,hk,pj] at ho;simp[Wo,H4,hk,Mi];refine⟨_,cX _ _ _,?_⟩;cases e1:wi r.halts[k].order 0 ((r.orders.length:Int)-1)
   .simp
   simp;refine⟨_,cX _ _ _,?_⟩;cases e2:wi r.halts[k].fr 0 r.halts[k].to
   .simp
   simp[ho e1 e2]
  .rw[hj];simp[Wo,H4]
def fo:List Int->Int
 |[]=>0
 |x::l=>if x=0 then fo l else x
def ON:∀{l:List Int},fo l=0↔∀x,x∈l->x=0
 |[]=>by simp[fo]
 |x::l=>by
  simp only[fo,cD,forall_eq_or_imp];by_cases h:x=0
  .simp[h,ON (l:=l)]
  .simp[h]
def oM (r:Realm)(i:Nat):Bool:=aC (r.firms.getD i default).city r.cities.length&&aC (r.firms.getD i default).group r.groups.length
def ry (r:Realm)(i:Nat):Bool:=p7 r (r.cities.getD i default)
def px (r:Realm)(i:Nat):Bool:=sB (r.orders.getD i default)
def wk (r:Realm)(i:Nat):Bool:=aC (r.groups.getD i default).grade 10
def tJ (r:Realm):Int:=if 20<r.groups.length then 6 else if eU r.groups.length (wk r) then 0 else 1
def gW (r:Realm):Int:=fo [eO r.currencies 8 (λ_=>true),eO (fM r) 40 (ry r),tJ r,eO (eZ r) 200 (oM r),eO (fa r) 20 (px r),xE r,qQ r]
def amn (i:Int):ah T 113 [.int i] (.bool true):=by
 refine zyw 73 aAk ?_;simp[YV]
def amo (r:Realm)(h:Small r)(i:Nat)(hi:i<r.cities.length):ah T 114 [.int i,.ref (aQ r)] (.bool (ry r i)):=by
 refine zyw 74 aAl ?_;obtain⟨h1,h2,h3,h4⟩:=h.city _ (bR hi);simp[YW,hi,ry];exact axo r r.cities[i] (by omega) (by omega) (by omega)
def amp (r:Realm)(i:Nat)(hi:i<r.firms.length):ah T 117 [.int i,.ref (aQ r)] (.bool (oM r i)):=by
 refine zyw 77 aAm ?_;simp[YX,hi,oM];refine⟨_,gm _ _,?_⟩;simp[hi];cases e1:aC r.firms[i].city r.cities.length<;>simp;exact gm _ _
def amq (r:Realm)(h:Small r)(i:Nat)(hi:i<r.orders.length):ah T 118 [.int i,.ref (aQ r)] (.bool (px r i)):=by
 refine zyw 78 aAn ?_;obtain⟨h1,h2⟩:=h.order _ (bR hi);simp[YY,hi,px];exact axt r.orders[i] (by omega) (by omega)
def OD (r:Realm)(h:Small r):ah T 72 [aQ r] (.int (gW r)):=by
 refine zyw 66 aAo ?_;have g1:=h.cur;have g2:=h.cities;have g3:=h.firms;have g4:=h.orders;have g5:=h.groups;simp[YU];refine⟨_,axs r (by omega) (by omega) (by omega),?_⟩;simp;refine⟨_,OE r.currencies 8 113 [] (λ_=>true) (λi _=>amn _) (by omega),?_⟩;unfold gW;generalize e1:eO r.currencies 8 (λ_=>true)=x1;by_cases z1:x1=0
 case neg=>simp[z1,fo]
 simp[z1,fo];refine⟨_,OE (fM r) 40 114 [.ref (aQ r)] (ry r) (λi hi=>amo r h i (by simpa [fM] using hi)) (by simp[fM];omega),?_⟩;generalize e2:eO (fM r) 40 (ry r)=x2;by_cases z2:x2=0
 case neg=>simp[z2]
 simp[z2];by_cases z3:20<r.groups.length
 .have z3':(20:Int)<r.groups.length:=by omega
  simp[z3',tJ,z3]
 have z3':¬(20:Int)<r.groups.length:=by omega
 simp[z3',tJ,z3];refine gK r.groups.length (wk r) (λk=>[.int 0,.int k]) (λ_=>[]) ?_ (λk hk ho=>?_) (λk hk ho hb=>?_) (λhj=>?_)
 .simp
 .have hw:=bq hk (by omega);simp[wk,hk] at ho;simp[Wt,H9,hk];refine⟨_,gm _ _,?_⟩;simp[ho,hw]
 .simp[wk,hk] at ho;rw[hb];simp[Wt,H9,hk];refine⟨_,gm _ _,?_⟩;simp[ho]
 .rw[hj];simp[Wt,H9];refine⟨_,OE (eZ r) 200 117 [.ref (aQ r)] (oM r) (λi hi=>amp r i (by simpa [eZ] using hi)) (by simp[eZ];omega),?_⟩;generalize e4:eO (eZ r) 200 (oM r)=x4;by_cases z4:x4=0
  case neg=>simp[z4]
  simp[z4];refine⟨_,OE (fa r) 20 118 [.ref (aQ r)] (px r) (λi hi=>amq r h i (by simpa [fa] using hi)) (by simp[fa];omega),?_⟩;generalize e5:eO (fa r) 20 (px r)=x5;by_cases z5:x5=0
  case neg=>simp[z5]
  simp[z5];refine⟨_,axv r h,?_⟩;generalize e6:xE r=x6;by_cases z6:x6=0
  case neg=>simp[z6]
  simp[z6];have e7:(if qQ r=0 then 0 else qQ r)=qQ r:=by split<;>simp_all
  rw[e7];exact axu r h
def aoz (l:List ByteArray)(k:Nat):la l (λ_=>true) k=iP l k:=by
 unfold la;by_cases h:iP l k=0<;>simp[h]
def B6 {l:List ByteArray}{g:Nat->Bool}{k:Nat}(h:la l g k=0):iP l k=0/\g k=true:=by
 unfold la at h;by_cases h1:iP l k=0
 .simp[h1] at h;exact⟨h1,h⟩
 .simp[h1] at h
def RF {l:List ByteArray}{g:Nat->Bool}{k:Nat}(h:la l g k≠0):(iP l k≠0/\la l g k=iP l k)\/(iP l k=0/\g k=false/\la l g k=1):=by
 unfold la at h ⊢;by_cases h1:iP l k=0
 .simp[h1] at h ⊢;simp[h]
 .simp[h1]
def awN (r:Realm)(h:Small r):ah T 46 [aQ r] (.int (fo [eO r.currencies 8 (λ_=>true),eO (fM r) 40 (ry r)])):=by
 refine zyw 126 az7 ?_;have g1:=h.cur;have g2:=h.cities;have g4:=h.orders;simp[YH];unfold eO;by_cases z1:(8:Int)<r.currencies.length
 .simp[z1,fo]
 simp[z1,fo];refine qW r.currencies.length (la r.currencies (λ_=>true)) (λk=>[.int 0,.int k]) (λ_=>[]) ?_ (λk hk ho=>?_) (λk hk ho hb=>?_) (λhj=>?_)
 .simp
 .have hw:=bq hk (by omega);simp[Wi,HX,hk];refine⟨_,Ht _ k hk (by omega),?_⟩;simp[(B6 ho).1,hw]
 .rw[hb];simp[Wi,HX,hk,ho];rw[aoz];exact Ht _ k hk (by omega)
 .rw[hj];simp[Wi,HX];have hlen:(fM r).length=r.cities.length:=by simp[fM]
  rw[hlen];by_cases z2:(40:Int)<r.cities.length
  .simp[z2]
  simp[z2];have key:∀k (hk:k<r.cities.length),((fM r).take k).length=k/\D.list (List.take k (List.map str (fM r))++[str r.cities[k].name])=strs ((fM r).take (k+1))/\
     ah T 83 [strs ((fM r).take (k+1)),.int k] (.int (iP (fM r) k))/\ah T 84 [aQ r,gX r.cities[k]] (.bool (ry r k)):=by
   intro k hk;have bf:k<(fM r).length:=by omega
   have hg:(fM r)[k]=r.cities[k].name:=by simp[fM]
   have hs:(fM r).take (k+1)=(fM r).take k++[(fM r)[k]]:=iX bf;have hn:=Ht ((fM r).take (k+1)) k (by rw[dG];omega) (by rw[dG];omega);rw[Ua _ _ _ (by omega)] at hn;obtain⟨c1,c2,c3,c4⟩:=h.city _ (bR hk);have hc:=awL r r.cities[k] (by omega) (by omega) (by omega) (by omega) (by omega) c4;rw[amw] at hc;exact⟨by rw[dG];omega,by rw[hs,hg];simp[strs],hn,by simpa [ry,hk] using hc⟩
  refine qW r.cities.length (la (fM r) (ry r)) (λk=>[.int 0,.none,.int k]) (λk=>[strs ((fM r).take k)]) ?_ (λk hk ho=>?_) (λk hk ho hb=>?_) (λhj=>?_)
  .simp[strs]
  .have hw:=bq hk (by omega);obtain⟨hl,ei,hn,hc⟩:=key k hk;obtain⟨o1,o2⟩:=B6 ho;rw[o1] at hn;rw[o2] at hc;simp[Wj,HY,hk,hl,ei,ays];refine⟨by omega,_,hn,?_⟩;simp[hk];refine⟨_,hc,?_⟩;simp[hw]
  .rw[hb];obtain⟨hl,ei,hn,hc⟩:=key k hk;simp[Wj,HY,hk,hl,ei,ho];refine⟨by omega,_,hn,?_⟩;rcases RF ho with⟨o1,o2⟩|⟨o1,o2,o3⟩
   .simp[o1,o2]
   .rw[o2] at hc;simp[o1,o3,hk];refine⟨_,hc,?_⟩;simp
  .rw[hj];simp[Wj,HY]
def awO (r:Realm)(h:Small r):ah T 47 [aQ r] (.int (fo [tJ r,eO (eZ r) 200 (oM r)])):=by
 refine zyw 134 az8 ?_;have g1:=h.groups;have g2:=h.firms;have g3:=h.cities;have w3:=uB r.cities.length (by omega);have w1:=uB r.groups.length (by omega);simp[YI];by_cases z1:20<r.groups.length
 .have z1':(20:Int)<r.groups.length:=by omega
  simp[z1',tJ,z1,fo]
 have z1':¬(20:Int)<r.groups.length:=by omega
 simp[z1',tJ,z1,fo];refine gK r.groups.length (wk r) (λk=>[.int 0,.int k]) (λ_=>[]) ?_ (λk hk ho=>?_) (λk hk ho hb=>?_) (λhj=>?_)
 .simp
 .have hw:=bq hk (by omega);simp[wk,hk] at ho;have e:wi r.groups[k].grade 0 9=aC r.groups[k].grade 10:=by rw[uD];simp[wi,aC];omega
  simp[Wk,HZ,hk];refine⟨_,cX _ _ _,?_⟩;simp[e,ho,hw]
 .simp[wk,hk] at ho;have e:wi r.groups[k].grade 0 9=aC r.groups[k].grade 10:=by rw[uD];simp[wi,aC];omega
  rw[hb];simp[Wk,HZ,hk];refine⟨_,cX _ _ _,?_⟩;simp[e,ho]
 .rw[hj];simp[Wk,HZ];unfold eO;have hlen:(eZ r).length=r.firms.length:=by simp[eZ]
  rw[hlen];by_cases z2:(200:Int)<r.firms.length
  .simp[z2]
  simp[z2];have key:∀k (hk:k<r.firms.length),((eZ r).take k).length=k/\D.list (List.take k (List.map str (eZ r))++[str r.firms[k].name])=strs ((eZ r).take (k+1))/\
     ah T 83 [strs ((eZ r).take (k+1)),.int k] (.int (iP (eZ r) k))/\oM r k=(wi r.firms[k].city 0 ((r.cities.length:Int)-1)&&wi r.firms[k].group 0 ((r.groups.length:Int)-1)):=by
   intro k hk;have bf:k<(eZ r).length:=by omega
   have hg:(eZ r)[k]=r.firms[k].name:=by simp[eZ]
   have hs:(eZ r).take (k+1)=(eZ r).take k++[(eZ r)[k]]:=iX bf;have hn:=Ht ((eZ r).take (k+1)) k (by rw[dG];omega) (by rw[dG];omega);rw[Ua _ _ _ (by omega)] at hn;exact⟨by rw[dG];omega,by rw[hs,hg];simp[strs],hn,by simp[oM,hk,pj]⟩
  refine qW r.firms.length (la (eZ r) (oM r)) (λk=>[.int 0,.none,.int k]) (λk=>[strs ((eZ r).take k)]) ?_ (λk hk ho=>?_) (λk hk ho hb=>?_) (λhj=>?_)
  .simp[strs]
  .have hw:=bq hk (by omega);obtain⟨hl,ei,hn,hc⟩:=key k hk;obtain⟨o1,o2⟩:=B6 ho;rw[o1] at hn;rw[o2] at hc;have hc':=Bool.and_eq_true_iff.1 hc.symm;simp[Wl,H0,hk,hl,ei];refine⟨by omega,_,hn,?_⟩;simp[hk,w3];refine⟨_,cX _ _ _,?_⟩;simp[hc'.1,hk,w1];refine⟨_,cX _ _ _,?_⟩;simp[hc'.2,hw]
  .rw[hb];obtain⟨hl,ei,hn,hc⟩:=key k hk;simp[Wl,H0,hk,hl,ei,ho];refine⟨by omega,_,hn,?_⟩;rcases RF ho with⟨o1,o2⟩|⟨o1,o2,o3⟩
   .simp[o1,o2]
   .rw[o2] at hc;simp[o1,o3,hk,w3];refine⟨_,cX _ _ _,?_⟩;cases e1:wi r.firms[k].city 0 ((r.cities.length:Int)-1)
    .simp
    rw[e1,Az] at hc;simp[hk,w1];refine⟨_,cX _ _ _,?_⟩;simp[<-hc]
  .rw[hj];simp[Wl,H0]
def awP (r:Realm)(h:Small r):ah T 48 [aQ r] (.int (eO (fa r) 20 (px r))):=by
 refine zyw 135 aAa ?_;have g2:=h.orders;simp[YK];unfold eO;have hlen:(fa r).length=r.orders.length:=by simp[fa]
 rw[hlen];by_cases z2:(20:Int)<r.orders.length
 .simp[z2]
 simp[z2];have key:∀k (hk:k<r.orders.length),((fa r).take k).length=k/\D.list (List.take k (List.map str (fa r))++[str r.orders[k].name])=strs ((fa r).take (k+1))/\
  ah T 83 [strs ((fa r).take (k+1)),.int k] (.int (iP (fa r) k))/\ah T 86 [kD r.orders[k]] (.bool (px r k)):=by
  intro k hk;have bf:k<(fa r).length:=by omega
  have hg:(fa r)[k]=r.orders[k].name:=by simp[fa]
  have hs:(fa r).take (k+1)=(fa r).take k++[(fa r)[k]]:=iX bf;have hn:=Ht ((fa r).take (k+1)) k (by rw[dG];omega) (by rw[dG];omega);rw[Ua _ _ _ (by omega)] at hn;obtain⟨c1,c2⟩:=h.order _ (bR hk);exact⟨by rw[dG];omega,by rw[hs,hg];simp[strs],hn,by simpa [px,hk] using awM r.orders[k] (by omega) (by omega)⟩
 refine qW r.orders.length (la (fa r) (px r)) (λk=>[.int 0,.none,.int k]) (λk=>[strs ((fa r).take k)]) ?_ (λk hk ho=>?_) (λk hk ho hb=>?_) (λhj=>?_)
 .simp[strs]
 .have hw:=bq hk (by omega);obtain⟨hl,ei,hn,hc⟩:=key k hk;obtain⟨o1,o2⟩:=B6 ho;rw[o1] at hn;rw[o2] at hc;simp[Wm,H2,hk,hl,ei];refine⟨by omega,_,hn,?_⟩;simp[hk];refine⟨_,hc,?_⟩;simp[hw]
 .rw[hb];obtain⟨hl,ei,hn,hc⟩:=key k hk;simp[Wm,H2,hk,hl,ei,ho];refine⟨by omega,_,hn,?_⟩;rcases RF ho with⟨o1,o2⟩|⟨o1,o2,o3⟩
  .simp[o1,o2]
  .rw[o2] at hc;simp[o1,o3,hk];refine⟨_,hc,?_⟩;simp
 .rw[hj];simp[Wm,H2]
def awI (r:Realm)(h:Small r):ah T 23 [aQ r] (.int (gW r)):=by
 refine zyw 125 azZ ?_
 have e:gW r=fo [fo [eO r.currencies 8 (λ_=>true),eO (fM r) 40 (ry r)],fo [tJ r,eO (eZ r) 200 (oM r)],eO (fa r) 20 (px r),xE r,qQ r]:=by
  unfold gW;simp only[fo];split<;>(try split)<;>(try split)<;>(try split)<;>simp_all
 rw[e];simp[Yy];refine⟨_,awN r h,?_⟩;have h1:=awO r h;generalize fo [eO r.currencies 8 (λ_=>true),eO (fM r) 40 (ry r)]=x1 at*;generalize fo [tJ r,eO (eZ r) 200 (oM r)]=x2 at*;have h2:=awP r h;generalize eO (fa r) 20 (px r)=x3 at*;have h3:=awR r h;generalize xE r=x4 at*;have h4:=awQ r h;generalize qQ r=x5 at*;by_cases z1:x1=0
 case neg=>simp[z1,fo]
 simp[z1,fo];refine⟨_,h1,?_⟩;by_cases z2:x2=0
 case neg=>simp[z2]
 simp[z2];refine⟨_,h2,?_⟩;by_cases z3:x3=0
 case neg=>simp[z3]
 simp[z3];refine⟨_,h3,?_⟩;by_cases z4:x4=0
 case neg=>simp[z4]
 simp[z4];have e7:(if x5=0 then 0 else x5)=x5:=by split<;>simp_all
 rw[e7];exact h4
def kP:Nat->Tm->Int->Int
 |0,_,_=>-1
 |L+1,t,n=>t.args.foldl (λm a=>if 0<=m then kP L a m else m) (n-1)
def size_le:∀(L:Nat) (t:Tm) (n:Int),0<=n->-1<=kP L t n/\kP L t n<=n
 |0,t,n,h=>by simp[kP];omega
 |L+1,t,n,h=>by
  have key:∀(l:List Tm) (m:Int),-1<=m->m<=n->-1<=l.foldl (λm a=>if 0<=m then kP L a m else m) m/\l.foldl (λm a=>if 0<=m then kP L a m else m) m<=n:=by
   intro l
   induction l with
   |nil=>intro m h1 h2;exact⟨h1,h2⟩
   |cons a l ih=>
    intro m h1 h2;simp only[vP];split
    .rename_i hm;have:=size_le L a m hm;exact ih _ this.1 (by omega)
    .exact ih _ h1 h2
  exact key _ _ (by omega) (by omega)
def ajT (L:Nat):∀(l:List Tm) (m:Int),m<0->l.foldl (λm a=>if 0<=m then kP L a m else m) m=m
 |[],m,h=>rfl
 |a::l,m,h=>by simp only[vP];rw[if_neg (by omega)];exact ajT L l m h
def apL {α β:Type}(f:β->α->β)(b:β){l:List α}{k:Nat}(h:k<l.length):(l.take (k+1)).foldl f b=f ((l.take k).foldl f b) l[k]:=by
 rw[iX h,s9];rfl
def apK {α β:Type}(f:β->α->β)(b:β)(l:List α)(k:Nat):l.foldl f b=(l.drop k).foldl f ((l.take k).foldl f b):=by
 rw[<-s9,Jp]
def _root_.Cx.Tm.OK.len {t:Tm}(h:t.OK):t.args.length<=9223372036854775807:=by cases h with|mk o n xs h1 h2 h3 h4=>exact h3
def _root_.Cx.Tm.OK.arg {t:Tm}(h:t.OK){a:Tm}(ha:a∈t.args):a.OK:=by cases h with|mk o n xs h1 h2 h3 h4=>exact h4 a ha
def aiS:∀(L:Nat) (t:Tm) (n:Int),t.OK->0<=n->n<=1000->L<=1000->ah T 127 [dP t,.int n,.int L] (.int (kP L t n))
 |0,t,n,ht,h0,h1,hL=>by
  refine .of_tree rfl abt akc ?_;simp[Pd,kP]
 |L+1,t,n,ht,h0,h1,hL=>by
  refine .of_tree rfl abt akc ?_;have nz:i64.wrap (n-1)=n-1:=aR (by omega);have hl:=ht.len;have lf:¬((L:Int)+1<1):=by omega
  simp[Pd,nz,lf]
  let g:Nat->Int:=λk=>(t.args.take k).foldl (λm a=>if 0<=m then kP L a m else m) (n-1)
  have gb:∀k,-1<=g k/\g k<=1000:=by
   intro k;have:g k=kP (L+1) (.mk 0 0 (t.args.take k)) n:=rfl;have:=size_le (L+1) (.mk 0 0 (t.args.take k)) n h0;omega
  refine .scan t.args.length (λk=>0<=g k) (λk=>[.int (g k),.int k]) (λ_=>[]) ?_ (λk hk hj ho=>?_) (λk hk hj ho=>?_) (λhj=>?_)
  .simp[g,nz]
  .have hw:i64.wrap ((k:Int)+1)=(k:Int)+1:=aR (by omega);have Ms:i64.wrap (L:Int)=(L:Int):=aR (by omega);have hg:g (k+1)=kP L t.args[k] (g k):=by
    show(t.args.take (k+1)).foldl _ _=_;rw[apL _ _ hk];show(if 0<=g k then _ else _)=_;rw[if_pos ho]
   rw[hg];have jF:=aiS L t.args[k] (g k) (ht.arg (bR hk)) ho (gb k).2 (by omega);generalize g k=m at*;simp[Wq,H6,hk,ho,Ms];refine⟨_,jF,?_⟩;simp[hw]
  .have hf:kP (L+1) t n=g k:=by
    show t.args.foldl _ _=_;rw[apK _ _ _ k];exact ajT L _ _ (by show g k<0;omega)
   rw[hf];generalize g k=m at*;simp[Wq,H6,hk,ho]
  .have hf:kP (L+1) t n=g t.args.length:=by
    show t.args.foldl _ _=(t.args.take t.args.length).foldl _ _;rw[Ei]
   rw[hf];generalize g t.args.length=m at*;simp[Wq,H6]
def aiR (t:Tm)(ht:t.OK):ah T 82 [dP t] (.bool (decide (0<=kP 20 t 100))):=by
 refine zyw 123 aAg ?_;simp[YQ];refine⟨_,aiS 20 t 100 ht (by omega) (by omega) (by omega),?_⟩;simp
def tF (o:Order):Bool:=(decide (o.rules.length<=60)&&decide (o.choices.length<=60))&&eU o.rules.length (λk=>decide (0<=kP 20 (o.rules.getD k default).term 100))
def aiT (o:Order)(ho:o.OK):ah T 45 [kD o] (.bool (tF o)):=by
 refine zyw 122 aAi ?_;simp[YS];by_cases h1:(o.rules.length:Int)<=60
 case neg=>
  have cC:(60:Int)<o.rules.length:=by omega
  have hf:tF o=false:=by
   have:decide (o.rules.length<=60)=false:=decide_eq_false (by omega);simp only[tF,this,sX]
  simp[cC,hf]
 by_cases h2:(o.choices.length:Int)<=60
 case neg=>
  have cC:(60:Int)<o.choices.length:=by omega
  have hf:tF o=false:=by
   have:decide (o.choices.length<=60)=false:=decide_eq_false (by omega);simp only[tF,this,sX,Ay]
  simp[cC,hf]
 have cC:¬(60:Int)<o.rules.length:=by omega
 have gY:¬(60:Int)<o.choices.length:=by omega
 have hf:tF o=eU o.rules.length (λk=>decide (0<=kP 20 (o.rules.getD k default).term 100)):=by
  have e1:decide (o.rules.length<=60)=true:=decide_eq_true (by omega);have e2:decide (o.choices.length<=60)=true:=decide_eq_true (by omega);simp only[tF,e1,e2,Az]
 rw[hf];simp[cC,gY];have hO:=ho.2.2;refine gK o.rules.length (λk=>decide (0<=kP 20 (o.rules.getD k default).term 100)) (λk=>[.bool false,.int k]) (λ_=>[]) ?_ (λk hk ho=>?_) (λk hk ho hb=>?_) (λhj=>?_)
 .simp
 .have hw:=bq hk (by omega);simp[hk] at ho;simp[Wr,H7,hk];refine⟨_,aiR _ (hO _ (bR hk)).2,?_⟩;simp[ho,hw]
 .simp only[aF] at hb;rw[hb];simp[hk] at ho;simp[Wr,H7,hk];refine⟨_,aiR _ (hO _ (bR hk)).2,?_⟩;simp[ho]
 .simp only[aF] at hj;rw[hj];simp[Wr,H7]
def B3 (f:File):Bool:=decide ((f.signs.length:Int)<=50)&&decide ((f.alters.length:Int)<=10)&&decide ((f.acts.length:Int)<=110)&&decide ((f.facts.length:Int)<=220)
def awY (f:File):ah T 44 [bW f] (.bool (B3 f)):=by
 refine zyw 121 aAe ?_;simp[YO,B3];by_cases h1:(f.signs.length:Int)<=50<;>by_cases h2:(f.alters.length:Int)<=10<;>by_cases h3:(f.acts.length:Int)<=110<;>by_cases h4:(f.facts.length:Int)<=220<;>
  simp[h1,h2,h3,h4]
def Ft (r:Realm)(k:Nat):Bool:=decide (((r.cities.getD k default).feasts.length:Int)<=70)&&decide (((r.cities.getD k default).shut.length:Int)<=210)&&decide (((r.cities.getD k default).rest.length:Int)<=8)
def Fu (r:Realm)(k:Nat):Bool:=decide (((r.orders.getD k default).choices.length:Int)<=40)&&decide (((r.orders.getD k default).rules.length:Int)<=40)
def Lr (r:Realm):Bool:=decide ((r.currencies.length:Int)<50)&&decide ((r.cities.length:Int)<50)&&decide ((r.groups.length:Int)<50)&&decide ((r.firms.length:Int)<210)&&decide ((r.orders.length:Int)<50)&&decide ((r.usances.length:Int)<110)&&decide ((r.rates.length:Int)<110)&&decide ((r.halts.length:Int)<50)
def rN (r:Realm):Bool:=eU (min r.cities.length 50) (Ft r)&&eU (min r.orders.length 50) (Fu r)&&Lr r
def awJ (r:Realm)(hr:r.OK):ah T 43 [aQ r] (.bool (rN r)):=by
 refine zyw 120 az0 ?_;simp[Yz];refine gK (min r.cities.length 50) (Ft r) (λk=>[.bool false,.int k]) (λ_=>[]) ?_ (λk hk ho=>?_) (λk hk ho hb=>?_) (λhj=>?_)
 .simp
 .have bG:k<r.cities.length:=by omega
  have cu:k<50:=by omega
  have hw:=bq cu (by omega);simp[Ft,bG] at ho;obtain⟨⟨a1,a2⟩,a3⟩:=ho;have b1:¬(70:Int)<r.cities[k].feasts.length:=by omega
  have b2:¬(210:Int)<r.cities[k].shut.length:=by omega
  have b3:¬(8:Int)<r.cities[k].rest.length:=by omega
  simp[HQ,Ad,bG,cu,hw,b1,b2,b3];omega
 .have bG:k<r.cities.length:=by omega
  have cu:k<50:=by omega
  have hf:rN r=false:=by simp only[rN,hb,sX]
  rw[hf];simp[Ft,bG] at ho;by_cases b1:(70:Int)<r.cities[k].feasts.length
  .simp[HQ,Ad,bG,cu,b1];omega
  by_cases b2:(210:Int)<r.cities[k].shut.length
  .simp[HQ,Ad,bG,cu,b1,b2];omega
  have b3:(8:Int)<r.cities[k].rest.length:=by have:=ho (by omega) (by omega);omega
  simp[HQ,Ad,bG,cu,b1,b2,b3];omega
 .have hn:¬((min r.cities.length 50:Nat):Int)<r.cities.length\/¬((min r.cities.length 50:Nat):Int)<50:=by omega
  simp[HQ,Ad];rw[if_neg (by omega)];refine gK (min r.orders.length 50) (Fu r) (λk=>[.bool false,.int k]) (λ_=>[]) ?_ (λk hk ho=>?_) (λk hk ho hb=>?_) (λyZ=>?_)
  .simp
  .have bG:k<r.orders.length:=by omega
   have cu:k<50:=by omega
   have hw:=bq cu (by omega);simp[Fu,bG] at ho;obtain⟨a1,a2⟩:=ho;have b1:¬(40:Int)<r.orders[k].choices.length:=by omega
   have b2:¬(40:Int)<r.orders[k].rules.length:=by omega
   simp[Oi,Dz,bG,cu,hw,b1,b2];omega
  .have bG:k<r.orders.length:=by omega
   have cu:k<50:=by omega
   have hf:rN r=false:=by simp only[rN,hb,sX,Ay]
   rw[hf];simp[Fu,bG] at ho;by_cases b1:(40:Int)<r.orders[k].choices.length
   .simp[Oi,Dz,bG,cu,b1];omega
   have b2:(40:Int)<r.orders[k].rules.length:=by have:=ho (by omega);omega
   simp[Oi,Dz,bG,cu,b1,b2];omega
  .have hf:rN r=Lr r:=by simp only[rN,hj,yZ,Az]
   rw[hf];simp[Oi,Dz];rw[if_neg (by omega)];unfold Lr;by_cases c1:(r.currencies.length:Int)<50<;>simp[c1];by_cases c2:(r.cities.length:Int)<50<;>simp[c2];by_cases c3:(r.groups.length:Int)<50<;>simp[c3];by_cases c4:(r.firms.length:Int)<210<;>simp[c4];by_cases c5:(r.orders.length:Int)<50<;>simp[c5];by_cases c6:(r.usances.length:Int)<110<;>simp[c6];by_cases c7:(r.rates.length:Int)<110<;>simp[c7]
def Rx {r:Realm}(hr:r.OK)(h:rN r=true):Small r:=by
 simp only[rN,Lr,ao,decide_eq_true_eq,yh] at h;obtain⟨⟨h1,h2⟩,⟨⟨⟨⟨⟨⟨⟨c1,c2⟩,c3⟩,c4⟩,c5⟩,c6⟩,c7⟩,c8⟩⟩:=h;obtain⟨k1,⟨k2,k2'⟩,⟨k3,k3'⟩,⟨k4,k4'⟩,⟨k5,k5'⟩,⟨k6,k6'⟩,⟨k7,k7'⟩,⟨k8,k8'⟩⟩:=hr;refine⟨by omega,by omega,by omega,by omega,by omega,by omega,by omega,by omega,λc hc=>?_,λo ho=>?_,λx hx=>?_⟩
 .obtain⟨k,hk,rfl⟩:=fe hc;have:=h1 k (by omega);simp[Ft,hk] at this;have:=k2' _ hc;exact⟨by omega,by omega,by omega,λy hy=>this.2.2.2.1.2 y hy⟩
 .obtain⟨k,hk,rfl⟩:=fe ho;have:=h2 k (by omega);simp[Fu,hk] at this;omega
 .have:=k7' x hx;exact⟨this.2.2.1,this.2.2.2.1⟩
def tD (r:Realm)(f:File):Bool:=(rN r&&B3 f)&&eU r.orders.length (λk=>tF (r.orders.getD k default))
def aiU (r:Realm)(f:File)(hr:r.OK):ah T 22 [aQ r,bW f] (.bool (tD r f)):=by
 refine zyw 119 aAj ?_;simp[YT];refine⟨_,awJ r hr,?_⟩;cases e1:rN r
 .simp[tD,e1]
 simp;refine⟨_,awY f,?_⟩;cases e2:B3 f
 .simp[tD,e1,e2]
 have hs:=Rx hr e1;have ho:=hs.orders;have hf:tD r f=eU r.orders.length (λk=>tF (r.orders.getD k default)):=by simp only[tD,e1,e2,Az]
 rw[hf];simp;have hO:=hr.2.2.2.2.1.2;refine gK r.orders.length (λk=>tF (r.orders.getD k default)) (λk=>[.bool false,.int k]) (λ_=>[]) ?_ (λk hk ho=>?_) (λk hk ho hb=>?_) (λhj=>?_)
 .simp
 .have hw:=bq hk (by omega);simp[hk] at ho;simp[Ws,H8,hk];refine⟨_,aiT _ (hO _ (bR hk)),?_⟩;simp[ho,hw]
 .simp only[aF] at hb;rw[hb];simp[hk] at ho;simp[Ws,H8,hk];refine⟨_,aiT _ (hO _ (bR hk)),?_⟩;simp[ho]
 .simp only[aF] at hj;rw[hj];simp[Ws,H8]
def wj (r:Realm)(f:File):Bool:=tD r f&&decide (gW r=0)
def rB (n:Int):Int:=min (max n (-1099511627776)) 1099511627776
def O3 (n:Int):ah T 212 [.int n] (.int (rB n)):=by
 refine zyw 48 aA5 ?_;simp[ZP,rB];by_cases h1:-1099511627776>n
 .have:¬(1099511627776:Int)< -1099511627776:=by omega
  simp[h1];omega
 .by_cases h2:(1099511627776:Int)<n
  .simp[h1,h2];omega
  .simp[h1,h2];omega
def nV (v:Int):Int×Bool:=if v<0\/19<v then(0,false) else if v<7 then(0,true) else(1,true)
def aj4 (v:Int):ah T 210 [.int v] (.tup [.int (nV v).1,.bool (nV v).2]):=by
 refine zyw 49 aA1 ?_;simp[ZL,nV];by_cases h1:v<0
 .simp[h1]
 by_cases h2:19<v
 .simp[h1,h2]
 by_cases h3:v<7
 .simp[h1,h2,h3]
 .simp[h1,h2,h3]
def GU (t:Tm):Int×Int:=
 if 0<t.args.length then(0,2) else if t.op=0 then(if rB t.n≠t.n then(0,3) else(0,0)) else if t.op=1 then(if t.n<0\/1<t.n then(0,3) else(1,0)) else if(nV t.n).2=false then(0,10) else((nV t.n).1,0)
def ayF (t:Tm):ah T 208 [dP t] (.tup [.int (GU t).1,.int (GU t).2]):=by
 refine zyw 47 aA6 ?_;simp[ZQ,GU];by_cases h0:0<t.args.length
 .have gy:(0:Int)<t.args.length:=by omega
  simp[h0,gy]
 simp[h0];by_cases h1:t.op=0
 .simp[h1];refine⟨_,O3 _,?_⟩;by_cases h2:rB t.n=t.n<;>simp[h2]
 by_cases h2:t.op=1
 .simp[h1,h2];by_cases h3:t.n<0<;>by_cases h4:1<t.n<;>simp[h3,h4]
 simp[h1,h2];refine⟨_,aj4 _,?_⟩;cases h3:(nV t.n).2<;>simp[h3]
def fp (op:Int):List Int×Int:=
 if op=3 then([1],1) else if op=4\/op=5 then([1,1],1) else if op=6 then([1,-1,-1],-1) else if op=7 then([0,0],1) else if op=8 then([-1,-1],1) else([0,0],0)
def Fq (s:List Int×Int):D:=.agg [ints s.1,.int s.2]
@[simp] def aDQ (s:List Int×Int):(Fq s).cells=[ints s.1,.int s.2]:=zyz
@[simp] def aDO (s:List Int×Int):(Fq s).c 0=ints s.1:=zyz
@[simp] def aDP (s:List Int×Int):(Fq s).c 1=.int s.2:=zyz
@[simp] def aIa (s:List Int×Int):D.agg [ints s.1,.int s.2]=Fq s:=zyz
@[simp] def aI9 (x y:Int):xy (.int x) 0 (.int y)=.int y:=zyz
def ayH (op:Int):ah T 209 [.int op] (Fq (fp op)):=by
 refine zyw 50 aBa ?_;simp[ZT,fp];by_cases h3:op=3
 .simp[h3];rfl
 by_cases h4:op=4
 .simp[h4];rfl
 by_cases h5:op=5
 .simp[h5];rfl
 by_cases h6:op=6
 .simp[h6];rfl
 by_cases h7:op=7
 .simp[h7];rfl
 by_cases h8:op=8
 .simp[h8];rfl
 simp[h3,h4,h5,h6,h7,h8];rfl
def gf (f:Tm->Int):List Tm->Int->Int
 |[],n=>n
 |a::l,n=>if 60<n+f a then n+f a else gf f l (n+f a)
def cW:Nat->Tm->Int
 |0,_=>61
 |L+1,t=>gf (cW L) t.args 1
def dW (f:Tm->Int)(l:List Tm):Int:=(l.map f).sum
def MU {f:Tm->Int}{l:List Tm}{k:Nat}(h:k<l.length):dW f (l.take (k+1))=dW f (l.take k)+f l[k]:=by
 unfold dW;rw[DW f h,List.sum_append];simp
def afR {f:Tm->Int}:∀{l:List Tm} {n:Int} {k:Nat},(hk:k<l.length)->(∀j,j<k->n+dW f (l.take (j+1))<=60)->60<n+dW f (l.take (k+1))->gf f l n=n+dW f (l.take (k+1))
 |a::l,n,0,hk,_,h=>by
  simp[dW] at h ⊢;unfold gf;rw[if_pos (by omega)]
 |a::l,n,k+1,hk,hj,h=>by
  have h0:=hj 0 (by omega);simp[dW] at h0;unfold gf;rw[if_neg (by omega)];have e:∀j,n+dW f ((a::l).take (j+1+1))=n+f a+dW f (l.take (j+1)):=by intro j;simp[dW];omega
  rw[afR (l:=l) (k:=k) (by simpa using hk) (λj nu=>by have:=hj (j+1) (by omega);rw[e] at this;exact this) (by rw[<-e];exact h),e]
def afT {f:Tm->Int}:∀{l:List Tm} {n:Int},(∀j,j<l.length->n+dW f (l.take (j+1))<=60)->gf f l n=n+dW f l
 |[],n,_=>by simp[gf,dW]
 |a::l,n,hj=>by
  have h0:=hj 0 (by simp);simp[dW] at h0;unfold gf;rw[if_neg (by omega)];have e:∀j,n+dW f ((a::l).take (j+1+1))=n+f a+dW f (l.take (j+1)):=by intro j;simp[dW];omega
  rw[afT (l:=l) (λj hZ=>by have:=hj (j+1) (by simpa using hZ);rw[e] at this;exact this)];simp[dW];omega
def afS {f:Tm->Int}(hf:∀a,1<=f a):∀{l:List Tm} {n:Int},n<=gf f l n
 |[],n=>by simp[gf]
 |a::l,n=>by
  unfold gf;have:=hf a;split
  .omega
  .have:=afS hf (l:=l) (n:=n+f a);omega
def zB:∀(L:Nat) (t:Tm),1<=cW L t
 |0,t=>by simp[cW]
 |L+1,t=>afS (zB L)
def afU {f:Tm->Int}{B:Int}(hf:∀a,f a<=B)(hB:0<=B):∀{l:List Tm} {n:Int},n<=60->gf f l n<=60+B
 |[],n,h=>by simp[gf];omega
 |a::l,n,h=>by
  unfold gf;have:=hf a;split
  .omega
  .exact afU hf hB (by omega)
def afW:∀(L:Nat) (t:Tm),cW L t<=61+60*L
 |0,t=>by simp[cW]
 |L+1,t=>by
  have:=afU (f:=cW L) (λa=>afW L a) (by omega) (l:=t.args) (n:=1) (by omega);show gf _ _ _<=_;omega
def afV {f:Tm->Int}(hf:∀a,1<=f a):∀{l:List Tm} {n:Int},gf f l n<=60->(n:Int)+l.length<=60/\∀a,a∈l->f a<=60-n
 |[],n,h=>by simp[gf] at h ⊢;exact h
 |a::l,n,h=>by
  unfold gf at h;have:=hf a;split at h
  .omega
  .obtain⟨h1,h2⟩:=afV hf h;refine⟨by simp;omega,λb hb=>?_⟩;rcases cD.1 hb with rfl|hb
   .omega
   .have:=h2 b hb;omega
def T6 {L:Nat}{t:Tm}(h:cW (L+1) t<=60):t.args.length<=59/\∀a,a∈t.args->cW L a<=60:=by
 obtain⟨h1,h2⟩:=afV (zB L) h;exact⟨by omega,λa ha=>by have:=h2 a ha;omega⟩
def Xv:∀(L:Nat) (t:Tm) (lv:Int),t.OK->L<=8->lv=9-(L:Int)->ah T 199 [dP t,.int lv] (.int (cW L t))
 |0,t,lv,ht,hL,Sz=>by
  refine .of_tree rfl abv ake ?_;subst Sz;simp[Pg,cW]
 |L+1,t,lv,ht,hL,Sz=>by
  refine .of_tree rfl abv ake ?_;have hl:=ht.len;have h8:¬(8<lv):=by omega
  have Ms:i64.wrap (lv+1)=lv+1:=aR (by omega);simp[Pg,h8];refine .scan t.args.length (λk=>1+dW (cW L) (t.args.take (k+1))<=60) (λk=>[.int (1+dW (cW L) (t.args.take k)),.int k]) (λ_=>[]) ?_ (λk hk hj ho=>?_) (λk hk hj ho=>?_) (λhj=>?_)
  .simp[dW]
  all_goals try rw[MU hk] at ho
  .have hw:i64.wrap ((k:Int)+1)=(k:Int)+1:=aR (by omega);have jF:=Xv L t.args[k] (lv+1) (ht.arg (bR hk)) (by omega) (by omega);rw[MU hk];have hs:0<=dW (cW L) (t.args.take k):=by
    unfold dW;have:∀(l:List Tm),0<=(l.map (cW L)).sum:=by
     intro l
     induction l with
     |nil=>simp
     |cons a l ih=>have:=zB L a;simp;omega
    exact this _
   have gz:=zB L t.args[k];generalize dW (cW L) (t.args.take k)=m at*;generalize cW L t.args[k]=v at*;have vi:i64.wrap (1+m+v)=1+m+v:=aR (by omega);have ji:¬60<1+m+v:=by omega
   simp[WV,Iz,hk,Ms];refine⟨_,jF,?_⟩;simp[vi,ji,hw];omega
  .have jF:=Xv L t.args[k] (lv+1) (ht.arg (bR hk)) (by omega) (by omega);have hf:cW (L+1) t=1+dW (cW L) (t.args.take (k+1)):=afR hk hj (by rw[MU hk];omega);rw[hf,MU hk];have hs:0<=dW (cW L) (t.args.take k)/\1+dW (cW L) (t.args.take k)<=60:=by
    constructor
    .unfold dW;have:∀(l:List Tm),0<=(l.map (cW L)).sum:=by
       intro l
       induction l with
       |nil=>simp
       |cons a l ih=>have:=zB L a;simp;omega
     exact this _
    .cases k with
     |zero=>simp[dW]
     |succ k=>exact hj k (by omega)
   have gz:=zB L t.args[k];have df:=afW L t.args[k];generalize dW (cW L) (t.args.take k)=m at*;generalize cW L t.args[k]=v at*;have vi:i64.wrap (1+m+v)=1+m+v:=aR (by omega);have ji:60<1+m+v:=by omega
   simp[WV,Iz,hk,Ms];refine⟨_,jF,?_⟩;simp[vi,ji];omega
  .have hf:cW (L+1) t=1+dW (cW L) t.args:=afT hj;rw[hf];simp[WV,Iz]
def po (ws ts:List Int):Nat->Int
 |0=>-1
 |k+1=>if ws.getD k 0=-1/\po ws ts k=-1 then ts.getD k 0 else po ws ts k
def qA (ws ts:List Int)(k:Nat):Bool:=if ws.getD k 0=-1 then decide (po ws ts k=-1)||decide (ts.getD k 0=po ws ts k) else decide (ts.getD k 0=ws.getD k 0)
def zD (t:Tm)(ks:List Int):Int×Int:=
 if t.op<0\/13<t.op then(0,1) else if t.op=0\/t.op=1\/t.op=2 then GU t else
 if ks.length≠(fp t.op).1.length\/t.n≠0 then(0,2) else
 if eU (fp t.op).1.length (qA (fp t.op).1 ks)=false then(0,11) else if(fp t.op).2=-1 then(po (fp t.op).1 ks (fp t.op).1.length,0) else((fp t.op).2,0)
def cd:Nat->Tm->Int×Int
 |0,_=>(0,0)
 |L+1,t=>if fX t.args.length (λk=>(cd L (t.args.getD k default)).2)≠0 then(0,fX t.args.length (λk=>(cd L (t.args.getD k default)).2)) else zD t (t.args.map λa=>(cd L a).1)
def Q7 (L:Nat)(t:Tm):cd (L+1) t=if fX t.args.length (λk=>(cd L (t.args.getD k default)).2)≠0 then(0,fX t.args.length (λk=>(cd L (t.args.getD k default)).2)) else zD t (t.args.map λa=>(cd L a).1):=rfl
def Xf {α:Type}(A:List α)(z:α){k n:Nat}(hA:A.length=n)(hk:k<n):(A.take k++List.replicate (n-k) z).set k A[k]=A.take (k+1)++List.replicate (n-(k+1)) z:=by
 have h1:(A.take k).length=k:=by rw[dG];omega
 rw[List.set_append_right _ _ (by omega),h1,PN];have:n-k=(n-(k+1))+1:=by omega
 rw[this,List.replicate_succ,List.set_cons_zero,iX (by omega),rh];rfl
def aya (op:Int):(fp op).1.length<=3:=by
 unfold fp;repeat' split
 all_goals simp
def Xu:∀(L:Nat) (t:Tm),t.OK->cW L t<=60->ah T 200 [dP t] (.tup [.int (cd L t).1,.int (cd L t).2])
 |0,t,ht,hm=>by simp[cW] at hm
 |L+1,t,ht,hm=>by
  refine zyw 46 aA3 ?_;obtain⟨hl,hp⟩:=T6 hm;simp[ZN];refine⟨by omega,?_⟩;refine qW t.args.length (λk=>(cd L (t.args.getD k default)).2) (λk=>[.int 0,.int 0,.int k]) (λk=>[ints ((t.args.map λa=>(cd L a).1).take k++List.replicate (t.args.length-k) 0)]) ?_ (λk hk ho=>?_) (λk hk ho hb=>?_) (λhj=>?_)
  .simp[ints]
  .have hw:=bq hk (by omega);have cY:=bR hk;have jF:=Xu L t.args[k] (ht.arg cY) (hp _ cY);have hs:=Xf (t.args.map λa=>(cd L a).1) 0 (n:=t.args.length) (by simp) hk;rw[<-hs];have hlen:((t.args.map λa=>(cd L a).1).take k++List.replicate (t.args.length-k) (0:Int)).length=t.args.length:=by simp;omega
   have hgk:(t.args.map λa=>(cd L a).1)[k]'(by simpa using hk)=(cd L t.args[k]).1:=by simp
   rw[hgk];generalize (t.args.map λa=>(cd L a).1).take k++List.replicate (t.args.length-k) (0:Int)=A at*;simp[hk] at ho;rw[ho] at jF;generalize (cd L t.args[k]).1=kd at*;simp[WT,Ix,hk];refine⟨_,jF,?_⟩;simp[hlen,hk,hw,ints]
  .have cY:=bR hk;have jF:=Xu L t.args[k] (ht.arg cY) (hp _ cY);have hf:cd (L+1) t=(0,(cd L (t.args.getD k default)).2):=by
    rw[Q7,hb,if_pos ho]
   rw[hf];simp[hk] at ho ⊢;simp[WT,Ix,hk];refine⟨_,jF,?_⟩;simp[ho]
  .have hf:cd (L+1) t=zD t (t.args.map λa=>(cd L a).1):=by
    rw[Q7,hj];simp
   rw[hf]
   have e0:(t.args.map λa=>(cd L a).1).take t.args.length++List.replicate (t.args.length-t.args.length) 0=t.args.map λa=>(cd L a).1:=by
    rw[PN,yc (by simp)];simp
   rw[e0];have hkl:(t.args.map λa=>(cd L a).1).length=t.args.length:=by simp
   generalize (t.args.map λa=>(cd L a).1)=ks at*;simp[WT,Ix];unfold zD;by_cases h1:t.op<0
   .simp[h1]
   by_cases h2:13<t.op
   .simp[h1,h2]
   simp[h1,h2];by_cases h3:t.op=0\/t.op=1\/t.op=2
   .have fE:(t.op=0\/t.op=1)\/t.op=2:=by omega
    simp[h3,fE];refine⟨_,ayF t,?_⟩;simp
   have fE:¬((t.op=0\/t.op=1)\/t.op=2):=by omega
   simp[h3,fE];refine⟨_,ayH _,?_⟩;have hsl:=aya t.op;generalize fp t.op=sh at*;simp;by_cases h4:ks.length=sh.1.length
   case neg=>
    have oQ:¬((ks.length:Int)=sh.1.length):=by omega
    have LF:¬t.args.length=sh.1.length:=by omega
    simp[h4,oQ,LF]
   have oQ:(ks.length:Int)=sh.1.length:=by omega
   have LF:t.args.length=sh.1.length:=by omega
   by_cases h5:t.n=0
   case neg=>simp[h4,oQ,LF,h5]
   simp[h4,oQ,LF,h5];refine gK sh.1.length (qA sh.1 ks) (λk=>[.int 0,.int 0,.int (po sh.1 ks k),.int k]) (λ_=>[]) ?_ (λk hk ho=>?_) (λk hk ho hb=>?_) (λhj=>?_)
   .simp[po]
   .have hw:=bq hk (by omega);have cu:k<ks.length:=by omega
    simp only[po];unfold qA at ho;simp only[aF,aX hk,aX cu,kU] at ho ⊢;generalize po sh.1 ks k=c at*;by_cases a1:sh.1[k]=-1
    .by_cases a2:c=-1
     .simp[DI,xp,hk,cu,hw,ints,a1,a2]
     .simp[a1,a2] at ho;simp[DI,xp,hk,cu,hw,ints,a1,a2,ho]
    .simp[a1] at ho;simp[DI,xp,hk,cu,hw,ints,a1,ho]
   .rw[hb];have cu:k<ks.length:=by omega
    unfold qA at ho;simp only[aF,aX hk,aX cu,kU] at ho;generalize po sh.1 ks k=c at*;by_cases a1:sh.1[k]=-1
    .by_cases a2:c=-1
     .simp[a1,a2] at ho
     .simp[a1,a2] at ho;simp[DI,xp,hk,cu,ints,a1,a2,ho]
    .simp[a1] at ho;simp[DI,xp,hk,cu,ints,a1,ho]
   .rw[hj];simp[DI,xp];by_cases a1:sh.2=-1<;>simp[a1]
def oq (t:Tm):Int×Int:=if 60<cW 8 t then(0,6) else cd 8 t
def aj3 (t:Tm)(ht:t.OK):ah T 181 [dP t] (.tup [.int (oq t).1,.int (oq t).2]):=by
 refine zyw 44 aAZ ?_;simp[ZJ,oq];refine⟨_,Xv 8 t 1 ht (by omega) (by omega),?_⟩;by_cases h:60<cW 8 t
 .simp[h]
 simp[h];refine⟨_,Xu 8 t ht (by omega),?_⟩;simp
end Rm
