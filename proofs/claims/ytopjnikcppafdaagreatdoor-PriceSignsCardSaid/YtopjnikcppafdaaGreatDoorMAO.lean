/-
  Shared texts of this claim.
-/
import Derived.Test.YtopjnikcppafdaaGreatDoorMAJ
import Derived.KernelRfl
import Derived.Test.YtopjnikcppafdaaGreatDoorMAL
import Derived.Test.YtopjnikcppafdaaGreatDoorMAM
import Derived.Test.YtopjnikcppafdaaGreatDoorMAN
import Derived.Test.YtopjnikcppafdaaGreatDoorMAK
import Derived.Test.YtopjnikcppafdaaGreatDoorMAI
import Derived.WalkKit
import Derived.WalkSpells
import Derived.Lib.SliceRun
import Derived.Lib.AppendZeros
import Derived.Laws.Strings
set_option linter.defProp false
set_option linter.unusedVariables false
set_option maxRecDepth 100000
noncomputable section
open Go.IntKind (i64)
namespace Rm
open Go Go.Proofs Cx
def JC:Option PC:=mU {ctx with fr:=[6],nh:=[]} Tryz.f179 ⟨[Y8,I,sN],.slice I,.dat⟩ [3,5,7,8,42,9]
def Xp:PT:=
 (.chk (aq (pc (.mk [r2]) 15) (pc (.mk [r2]) 19))
 (.ite ah4
 (.ret pL)
 (.chk (.an (bk (pi 5) (pi 0)) (bG (pi 5) cO))
 (.chk (peq (pi 5) (pi 5))
 (.chk (aq (.rep (pi 5) (pi 0)) (pi 0))
 (.call ⟨[],[(9,(.setn (.rep (pi 5) (pi 0)) (pi 0) 0 r1)),(8,(.setc DJ 0 (aA 15 (.mk [r2])))),(7,C4),(3,(.mk [r0]))]⟩ [] 50 147 [j4,(pc C4 7)]
 (.chk (aq o9 (pi 1))
 (.call ⟨[],[(9,(.setn o9 (pi 1) 0 nw))]⟩ [] 56 147 [(aA 8 o3),(pc o8 10)]
 (.chk (aq o9 (pi 2))
 (.call ⟨[],[(9,(.setn o9 (pi 2) 0 tV))]⟩ [] 62 147 [(aA 8 o3),(pc o8 9)]
 (.chk (aq o9 (pi 3))
 (.chk (aq (pc o3 3) (pc o7 2))
 (.call ⟨[],[(9,(.setn o9 (pi 3) 0 pg))]⟩ [] 73 147 [(aA 8 o3),(pc (pn (pc o3 3) (pc o7 2)) 1)]
 (.chk (aq o9 (pi 4))
 (.call ⟨[],[(9,(.setn o9 (pi 4) 0 Hi))]⟩ [] 76 176 [(.setn o9 (pi 4) 0 Hi),(pi (-1))]
 (.ite vi
 (.ret pL)
 (.ret o9)))))))))))))))))
def afV:JC.map told=some (Xp,[]):=by kernel_rfl
def ax0:tree (ab JC)=Xp:=aT afV
def JD:Option PC:=mU {ctx with fr:=[6],nh:=[]} Tryz.f179 ⟨[Y8,I,sN],.nils .bool,.dat⟩ [3,5,7,8,42,9]
def OQ:PT:=
 (.chk (aq (pc (.mk [r2]) 15) (pc (.mk [r2]) 19))
 (.ite ah4
 (.ret pL)
 (.chk (.an (bk (pi 5) (pi 0)) (bG (pi 5) cO))
 (.chk (peq (pi 5) (pi 5))
 (.chk (aq (.rep (pi 5) (pi 0)) (pi 0))
 (.call ⟨[],[(9,(.setn (.rep (pi 5) (pi 0)) (pi 0) 0 r1)),(8,(.setc DJ 0 (aA 15 (.mk [r2])))),(7,C4),(3,(.mk [r0]))]⟩ [] 50 147 [j4,(pc C4 7)]
 (.chk (aq o9 (pi 1))
 (.call ⟨[],[(9,(.setn o9 (pi 1) 0 nw))]⟩ [] 56 147 [(aA 8 o3),(pc o8 10)]
 (.chk (aq o9 (pi 2))
 (.call ⟨[],[(9,(.setn o9 (pi 2) 0 tV))]⟩ [] 62 147 [(aA 8 o3),(pc o8 9)]
 (.chk (aq o9 (pi 3))
 (.chk (aq (pc o3 3) (pc o7 2))
 (.call ⟨[],[(9,(.setn o9 (pi 3) 0 pg))]⟩ [] 73 147 [(aA 8 o3),(pc (pn (pc o3 3) (pc o7 2)) 1)]
 (.chk (aq o9 (pi 4))
 (.call ⟨[],[]⟩ [] 76 176 [(.setn o9 (pi 4) 0 Hi),(pi (-1))]
 (.ite vi
 (.ret pL)
 (.chk pF
 (.next ⟨[],[]⟩))))))))))))))))))
def afW:JD.map told=some (OQ,[]):=by kernel_rfl
def ax1:tree (ab JD)=OQ:=aT afW
def U7:List Nat:=[3,5,17,19,18,21,47,48,88,36,75,20,9,32,33,10,38,62,102,64,103,144,177,196,212,211,223,147,135,213,214,178,176,195,180,197,216,215,224,198,145,181,200,199,201,217,218,225,229,227,226,182,202,219,228,220,230,232,83,221,78,30,63,66,109,65,94,130,131,174,193,194,210,132,133,134,175,136,137,138,139,140,104,105,106,107,146,183,184,203,205,222,204,97,108,148,149,185,207,39,79,124,81,80,82,125,70,35,37,8,31,67,68,110,150,121,12,22,6,23,49,50,51,89,126,24,52,90,127,173,128,91,92,129,53,54,93,55,56,25,57,95,96,58,59,98,141,142,60,99,61,101,143,100,7]
def CT:List (Nat×PC):=[(3,(ab JT)),(5,(ab JW)),(17,(ab JV)),(19,(ab AO)),(18,(ab AT)),(21,(ab J9)),(47,(ab Ka)),(48,(ab Ky)),(88,(ab Bq)),(36,(ab AV)),(75,(ab QK)),(20,(ab JU)),(9,(ab AU)),(32,(ab Kd)),(33,(ab Ke)),(10,(ab AG)),(38,(ab JE)),(62,(ab Bk)),(102,(ab Kv)),(64,(ab Jw)),(103,(ab Jv)),(144,(ab JA)),(177,(ab JB)),(196,(ab Bn)),(212,(ab Kt)),(211,(ab Kw)),(223,(ab Bp)),(147,(ab Kq)),(135,(ab Kr)),(213,(ab Ku)),(214,(ab Bl)),(178,(ab J1)),(176,(ab KA)),(195,(ab Bt)),(180,(ab AM)),(197,(ab JR)),(216,(ab JS)),(215,(ab Kz)),(224,(ab Bs)),(198,(ab AN)),(145,(ab J0)),(181,(ab J2)),(200,(ab J3)),(199,(ab Br)),(201,(ab KF)),(217,(ab ym)),(218,(ab By)),(225,(ab KL)),(229,(ab KK)),(227,(ab KH)),(226,(ab KO)),(182,(ab KG)),(202,(ab Bz)),(219,(ab KM)),(228,(ab KP)),(220,(ab KJ)),(230,(ab KI)),(232,(ab KN)),(83,(ab JJ)),(221,(ab Bo)),(78,(ab Jz)),(30,(ab Jx)),(63,(ab Jy)),(66,(ab Bm)),(109,(ab Bv)),(65,(ab EB)),(94,(ab Bb)),(130,(ab Bf)),(131,(ab Bd)),(174,(ab Ks)),(193,(ab Be)),(194,(ab KB)),(210,(ab Bu)),(132,(ab Kl)),(133,(ab Km)),(134,(ab Bc)),(175,(ab Bi)),(136,(ab Ko)),(137,(ab Kp)),(138,(ab Bg)),(139,(ab Bj)),(140,(ab Bh)),(104,(ab KD)),(105,(ab KE)),(106,(ab KC)),(107,(ab ED)),(146,(ab EC)),(183,(ab Ew)),(184,(ab JO)),(203,(ab JK)),(205,(ab JM)),(222,(ab Ey)),(204,(ab Ex)),(97,(ab yk)),(108,(ab Bw)),(148,(ab Bx)),(149,(ab AK)),(185,(ab JL)),(207,(ab JN)),(39,(ab JF)),(79,(ab KQ)),(124,(ab BA)),(81,(ab JG)),(80,(ab AH)),(82,(ab AI)),(125,(ab AP)),(70,(ab QL)),(35,(ab QJ)),(37,(ab AW)),(8,(ab Kc)),(31,(ab JX)),(67,(ab JZ)),(68,(ab JY)),(110,(ab AJ)),(150,(ab JH)),(121,(ab JI)),(12,(ab Kb)),(22,(ab A8)),(6,(ab Ez)),(23,(ab Ba)),(49,(ab AY)),(50,(ab Kj)),(51,(ab A9)),(89,(ab Kk)),(126,(ab yj)),(24,(ab Kf)),(52,(ab A3)),(90,(ab Ki)),(127,(ab AZ)),(173,(ab Kg)),(128,(ab AX)),(91,(ab A0)),(92,(ab Kh)),(129,(ab A2)),(53,(ab A4)),(54,(ab A5)),(93,(ab A1)),(55,(ab A7)),(56,(ab A6)),(25,(ab yi)),(57,(ab EE)),(95,(ab KR)),(96,(ab KS)),(58,(ab AS)),(59,(ab J7)),(98,(ab J6)),(141,(ab J5)),(142,(ab J8)),(60,(ab AQ)),(99,(ab J4)),(61,(ab AR)),(101,(ab JP)),(143,(ab JQ)),(100,(ab AL)),(7,(ab EA))]
def tab:Nat->Option PC:=bK CT
def ahF:CT.map (·.1)=U7:=by kernel_rfl
def avr:(CT.map (·.1)).Nodup:=by rw[ahF];exact qn (by kernel_rfl)
def lA (k:Nat){f:Nat}{x:PC}(h:CT[k]?=some (f,x):=by kernel_rfl):tab f=some x:=ae6 avr h
def aa7:tab 217=some (ab ym):=lA 45 (by kernel_rfl)
def PM:tab 65=some (ab EB):=lA 65 (by kernel_rfl)
def x9:tab 107=some (ab ED):=lA 85 (by kernel_rfl)
def Jo:tab 146=some (ab EC):=lA 86 (by kernel_rfl)
def aa3:tab 183=some (ab Ew):=lA 87 (by kernel_rfl)
def aa4:tab 222=some (ab Ey):=lA 91 (by kernel_rfl)
def Jn:tab 204=some (ab Ex):=lA 92 (by kernel_rfl)
def aa6:tab 97=some (ab yk):=lA 93 (by kernel_rfl)
def akU:tab 6=some (ab Ez):=lA 118 (by kernel_rfl)
def aa5:tab 126=some (ab yj):=lA 124 (by kernel_rfl)
def akV:tab 25=some (ab yi):=lA 139 (by kernel_rfl)
def akX:tab 57=some (ab EE):=lA 140 (by kernel_rfl)
def akW:tab 7=some (ab EA):=lA 154 (by kernel_rfl)
def caps:∀f cs,bK QE f=some cs->(oS cs.args cs.res=none->bK xj f=some ⟨cs.args++cs.caps,cs.res,.dat⟩)/\∀ys,oS cs.args cs.res=some ys->fK U7 f=false/\IE Tryz.prog f=true:=abl (l:=QE) (sig:=xj) (P:=Tryz.prog) (pcs:=U7) (by kernel_rfl)
def clos:dN ctx:=⟨(λf cs h=>(caps f cs h).1),λf s h=>ajy (l:=xj) (P:=Tryz.prog) (by kernel_rfl) f s h⟩
def its:∀f cs ys,ctx.cap f=some cs->oS cs.args cs.res=some ys->tab f=none/\∃fn,ctx.P.funcs[f]?=some fn/\fn.body.isSome=true/\(fn.name== "runtime.NumGoroutine")=false:=λf cs ys h hi=>⟨aeX (l:=CT) (by rw[ahF];exact((caps f cs h).2 ys hi).1),axO ((caps f cs h).2 ys hi).2⟩
def axC:∀f pc,tab f=some pc->∃fn s ids fr nh,ctx.P.funcs[f]?=some fn/\ctx.sig f=some s/\mU {ctx with fr:=fr,nh:=nh} fn s ids=some pc:=
 TL (R:=λf pc=>∃fn s ids fr nh,ctx.P.funcs[f]?=some fn/\ctx.sig f=some s/\mU {ctx with fr:=fr,nh:=nh} fn s ids=some pc) (l:=CT)
  (aw (ax [6,8,10,11,14] [12,13,15,16,17,18,19,20,21,22,23] [] Tryz.func3 rfl (av JT agf))
  (aw (ax [1,17] [0,2,3,4,5,6,7,8,9,10,11,12,13] [] Tryz.func5 rfl (av JW agk))
  (aw (ax [0,24576,28672,32768,1,12289,2,12290] [] [] Tryz.func17 rfl (av JV agj))
  (aw (ax [0,1] [2] [] Tryz.func19 rfl (av AO Uc))
  (aw (ax [3,5] [6,7,8,9,10] [] Tryz.func18 rfl (av AT Uh))
  (aw (ax [1] [2,3] [] Tryz.func21 rfl (av J9 agy))
  (aw (ax [1] [2] [] Tryz.func47 rfl (av Ka agz))
  (aw (ax [] [4] [] Tryz.func48 rfl (av Ky agX))
  (aw (ax [] [4,5] [] Tryz.func88 rfl (av Bq UC))
  (aw (ax [3,5,1,10] [6,7,9] [] Tryz.func36 rfl (av AV Uj))
  (aw (ax [] [5] [] Tryz.func75 rfl (av QK auH))
  (aw (ax [4,69636,73732,5,6,7] [] [] Tryz.func20 rfl (av JU agh))
  (aw (ax [5,7,9,12,17,52] [10,11,13,14,15,18,19,20] [] Tryz.func9 rfl (av AU Ui))
  (aw (ax [2] [4] [] Tryz.func32 rfl (av Kd agD))
  (aw (ax [4,6,8] [] [] Tryz.func33 rfl (av Ke agF))
  (aw (ax [4,6,8,9,10,28] [11] [] Tryz.func10 rfl (av AG T4))
  (aw (ax [4,6,8,9] [] [] Tryz.func38 rfl (av JE afX))
  (aw (ax [2,4,65540,69636,73732,77828,5,65541,69637,73733,77829,7,31,9,49,11,13] [1000004,1000005] [] Tryz.func62 rfl (av Bk CN))
  (aw (ax [] [4] [] Tryz.func102 rfl (av Kv agV))
  (aw (ax [5,8,77832,10] [] [] Tryz.func64 rfl (av Jw afP))
  (aw (ax [4,7,8,9] [10] [] Tryz.func103 rfl (av Jv afO))
  (aw (ax [4,7,8,10,16394] [9,11,12,13,14] [] Tryz.func144 rfl (av JA afT))
  (aw (ax [2,3,4] [5] [] Tryz.func177 rfl (av JB afU))
  (aw (ax [2,3,5,6,8,10,90,139] [4,7,9,11,12,13,14,15,16] [] Tryz.func196 rfl (av Bn M0))
  (aw (ax [2] [3] [] Tryz.func212 rfl (av Kt agT))
  (aw (ax [] [4] [] Tryz.func211 rfl (av Kw agW))
  (aw (ax [] [4,5] [] Tryz.func223 rfl (av Bp UB))
  (aw (ax [2] [4] [] Tryz.func147 rfl (av Kq agQ))
  (aw (ax [] [4] [] Tryz.func135 rfl (av Kr agR))
  (aw (ax [2] [] [] Tryz.func213 rfl (av Ku agU))
  (aw (ax [3,6,8] [] [] Tryz.func214 rfl (av Bl UA))
  (aw (ax [] [2,3,4,11] [] Tryz.func178 rfl (av J1 agp))
  (aw (ax [] [4] [] Tryz.func176 rfl (av KA agZ))
  (aw (ax [] [4,5] [] Tryz.func195 rfl (av Bt UF))
  (aw (ax [4,10,53] [8,9,11,12,13,14,55,70] [] Tryz.func180 rfl (av AM Ua))
  (aw (ax [4,9] [8] [] Tryz.func197 rfl (av JR agd))
  (aw (ax [] [3] [] Tryz.func216 rfl (av JS age))
  (aw (ax [] [4] [] Tryz.func215 rfl (av Kz agY))
  (aw (ax [] [4,5] [] Tryz.func224 rfl (av Bs UE))
  (aw (ax [4,11] [8,9] [] Tryz.func198 rfl (av AN Ub))
  (aw (ax [3,6,8,10] [7,9,11,12] [] Tryz.func145 rfl (av J0 ago))
  (aw (ax [2,3,4,12292,9] [5,6,7,8,10,11] [] Tryz.func181 rfl (av J2 agq))
  (aw (ax [2] [3] [] Tryz.func200 rfl (av J3 agr))
  (aw (ax [] [4,5] [] Tryz.func199 rfl (av Br UD))
  (aw (ax [1] [2,3] [] Tryz.func201 rfl (av KF ag7))
  (aw (ax [2,7,12295] [4,5] [] Tryz.func217 rfl (av ym UK))
  (aw (ax [1,4,6,12294,9] [2,3,5,7,8,38,47,10,11,12] [] Tryz.func218 rfl (av By M3))
  (aw (ax [1] [2,3,12,20,4,5] [] Tryz.func225 rfl (av KL ahd))
  (aw (ax [] [2] [] Tryz.func229 rfl (av KK ahc))
  (aw (ax [] [2,3,4,11] [] Tryz.func227 rfl (av KH ag9))
  (aw (ax [2] [4,8,13,17,21] [] Tryz.func226 rfl (av KO ahg))
  (aw (ax [2,4,7] [5,6,8] [] Tryz.func182 rfl (av KG ag8))
  (aw (ax [2,3,4,6,33,7,8,10,12298,12] [5,15,21,9,11] [] Tryz.func202 rfl (av Bz UJ))
  (aw (ax [2,4] [5,6] [] Tryz.func219 rfl (av KM ahe))
  (aw (ax [2] [] [] Tryz.func228 rfl (av KP ahh))
  (aw (ax [4,5] [9,22,41,6,7,82,88,94] [] Tryz.func220 rfl (av KJ ahb))
  (aw (ax [] [6,8,14,20,25] [] Tryz.func230 rfl (av KI aha))
  (aw (ax [] [4,5,6,7] [] Tryz.func232 rfl (av KN ahf))
  (aw (ax [] [4,5,6,7,8,9,10,11,12,13] [] Tryz.func83 rfl (av JJ af2))
  (aw (ax [6] [2,3,5,8] [] Tryz.func221 rfl (av Bo M1))
  (aw (ax [1] [2,3,7,12] [] Tryz.func78 rfl (av Jz afS))
  (aw (ax [4,6] [8,9,10,11] [] Tryz.func30 rfl (av Jx afQ))
  (aw (ax [1] [2] [] Tryz.func63 rfl (av Jy afR))
  (aw (ax [1,3,6,8] [2,4] [] Tryz.func66 rfl (av Bm MZ))
  (aw (ax [] [2,3,4] [] Tryz.func109 rfl (av Bv UH))
  (aw (ax [4,5,10] [8,9,15,39,58,74,11,12] [] Tryz.func65 rfl (av EB ag1))
  (aw (ax [1,9] [2,3,4,5,6,7,10,11,12] [] Tryz.func94 rfl (av Bb Uu))
  (aw (ax [1,2,3,4,6,16390,20486,24582,21,8,34,10,12298,16394,47] [] [] Tryz.func130 rfl (av Bf GL))
  (aw (ax [] [6,7,8] [] Tryz.func131 rfl (av Bd Ux))
  (aw (ax [] [4] [] Tryz.func174 rfl (av Ks agS))
  (aw (ax [] [2,3,4,5] [] Tryz.func193 rfl (av Be Uy))
  (aw (ax [] [4] [] Tryz.func194 rfl (av KB ag0))
  (aw (ax [] [4,5] [] Tryz.func210 rfl (av Bu UG))
  (aw (ax [] [2] [] Tryz.func132 rfl (av Kl agM))
  (aw (ax [] [3] [] Tryz.func133 rfl (av Km agN))
  (aw (ax [2,3] [4,6] [] Tryz.func134 rfl (av Bc Uw))
  (aw (ax [] [6,7,8] [] Tryz.func175 rfl (av Bi Uz))
  (aw (ax [] [3] [] Tryz.func136 rfl (av Ko agO))
  (aw (ax [] [3] [] Tryz.func137 rfl (av Kp agP))
  (aw (ax [1,3,4,6,19,8,16392,36] [2] [] Tryz.func138 rfl (av Bg MW))
  (aw (ax [1,4,6] [2,3] [] Tryz.func139 rfl (av Bj MY))
  (aw (ax [1,4,6] [2] [] Tryz.func140 rfl (av Bh MX))
  (aw (ax [2] [4] [] Tryz.func104 rfl (av KD ag5))
  (aw (ax [] [2] [] Tryz.func105 rfl (av KE ag6))
  (aw (ax [1] [2] [] Tryz.func106 rfl (av KC ag2))
  (aw (ax [3,4] [6,7,13,16,24,33,8,9] [] Tryz.func107 rfl (av ED ag4))
  (aw (ax [3] [4,5] [] Tryz.func146 rfl (av EC ag3))
  (aw (ax [] [4,5,6,7,8,9] [] Tryz.func183 rfl (av Ew af3))
  (aw (ax [] [2] [] Tryz.func184 rfl (av JO aga))
  (aw (ax [] [2,3,4,5,6,7,8,9] [] Tryz.func203 rfl (av JK af5))
  (aw (ax [] [4] [] Tryz.func205 rfl (av JM af7))
  (aw (ax [] [6,0,1] [] Tryz.func222 rfl (av Ey af8))
  (aw (ax [] [6,7,8] [] Tryz.func204 rfl (av Ex af4))
  (aw (ax [3,9] [6,7] [] Tryz.func97 rfl (av yk Uv))
  (aw (ax [3] [6,7,8,2,9,10] [] Tryz.func108 rfl (av Bw UI))
  (aw (ax [3,9] [6,7,2] [] Tryz.func148 rfl (av Bx M2))
  (aw (ax [2,4,5] [6] [] Tryz.func149 rfl (av AK T7))
  (aw (ax [3,4,5] [6] [] Tryz.func185 rfl (av JL af6))
  (aw (ax [2] [4,5,6,7] [] Tryz.func207 rfl (av JN af9))
  (aw (ax [2,4,5,6,43] [] [] Tryz.func39 rfl (av JF afY))
  (aw (ax [3] [6] [] Tryz.func79 rfl (av KQ ahi))
  (aw (ax [2,5,7] [4] [] Tryz.func124 rfl (av BA UL))
  (aw (ax [3,7] [6] [] Tryz.func81 rfl (av JG afZ))
  (aw (ax [] [2,3,5,12,15] [] Tryz.func80 rfl (av AH T5))
  (aw (ax [2,9] [4,5,6,7,10,50,54] [] Tryz.func82 rfl (av AI T6))
  (aw (ax [2,7] [4,5] [] Tryz.func125 rfl (av AP Ud))
  (aw (ax [1] [2] [] Tryz.func70 rfl (av QL auI))
  (aw (ax [2,3] [4] [] Tryz.func35 rfl (av QJ auG))
  (aw (ax [3,6,7,9] [] [] Tryz.func37 rfl (av AW Uk))
  (aw (ax [5,7,9] [10,11,12,13,14,33,36,15] [] Tryz.func8 rfl (av Kc agC))
  (aw (ax [] [6,7,8,9,10] [] Tryz.func31 rfl (av JX agl))
  (aw (ax [] [4] [] Tryz.func67 rfl (av JZ agn))
  (aw (ax [] [6,7,8,9,10,11,12] [] Tryz.func68 rfl (av JY agm))
  (aw (ax [] [6,7,8,2,9,10,11,12,13,14,15,16,17,18] [] Tryz.func110 rfl (av AJ MN))
  (aw (ax [] [2] [] Tryz.func150 rfl (av JH af0))
  (aw (ax [] [2,0] [] Tryz.func121 rfl (av JI af1))
  (aw (ax [5,7,20,22] [10] [] Tryz.func12 rfl (av Kb agA))
  (aw (ax [] [4,5] [] Tryz.func22 rfl (av A8 Uq))
  (aw (ax [3,4,5] [6] [] Tryz.func6 rfl (av Ez agi))
  (aw (ax [2,3] [4,5] [] Tryz.func23 rfl (av Ba Ut))
  (aw (ax [1] [2,3,4] [] Tryz.func49 rfl (av AY MQ))
  (aw (ax [1] [2] [] Tryz.func50 rfl (av Kj agK))
  (aw (ax [1] [2,3] [] Tryz.func51 rfl (av A9 Us))
  (aw (ax [1] [2] [] Tryz.func89 rfl (av Kk agL))
  (aw (ax [3] [6,1,7] [] Tryz.func126 rfl (av yj Ur))
  (aw (ax [1] [2,3] [] Tryz.func24 rfl (av Kf agG))
  (aw (ax [1,5,44] [2,3,4,6,7] [] Tryz.func52 rfl (av A3 MS))
  (aw (ax [] [4] [] Tryz.func90 rfl (av Ki agJ))
  (aw (ax [] [2,3,4] [] Tryz.func127 rfl (av AZ Um))
  (aw (ax [] [2] [] Tryz.func173 rfl (av Kg agH))
  (aw (ax [] [6,7] [] Tryz.func128 rfl (av AX Ul))
  (aw (ax [2,3] [4,5] [] Tryz.func91 rfl (av A0 Un))
  (aw (ax [] [6] [] Tryz.func92 rfl (av Kh agI))
  (aw (ax [] [6,7] [] Tryz.func129 rfl (av A2 Uo))
  (aw (ax [1,4,44] [2,3,5,6] [] Tryz.func53 rfl (av A4 MT))
  (aw (ax [1,3,24] [2,4,5] [] Tryz.func54 rfl (av A5 Up))
  (aw (ax [1] [2,3,4] [] Tryz.func93 rfl (av A1 MR))
  (aw (ax [1,4] [2,3,5] [] Tryz.func55 rfl (av A7 MV))
  (aw (ax [1,4,6] [2,3,5] [] Tryz.func56 rfl (av A6 MU))
  (aw (ax [2,3,10] [4,5,6,7,8,11] [] Tryz.func25 rfl (av yi MO))
  (aw (ax [2,3] [4,5,6,7,8,54,80,109,118,9,10] [] Tryz.func57 rfl (av EE ahj))
  (aw (ax [] [4] [] Tryz.func95 rfl (av KR ahk))
  (aw (ax [1,3] [2,8,19,40] [] Tryz.func96 rfl (av KS ahl))
  (aw (ax [3,4,7,11] [6,8,9,76,92,98] [] Tryz.func58 rfl (av AS Ug))
  (aw (ax [] [6] [] Tryz.func59 rfl (av J7 agw))
  (aw (ax [3,4,7,8] [6,9,10,66,103,113,11,140,149] [] Tryz.func98 rfl (av J6 agv))
  (aw (ax [3] [6,7] [] Tryz.func141 rfl (av J5 agu))
  (aw (ax [3] [6] [] Tryz.func142 rfl (av J8 agx))
  (aw (ax [2,3,6] [4,5,7] [] Tryz.func60 rfl (av AQ Ue))
  (aw (ax [3,4,5] [6,7,8,9,65,80,100,111] [] Tryz.func99 rfl (av J4 agt))
  (aw (ax [1,4,5,52] [2,3] [] Tryz.func61 rfl (av AR Uf))
  (aw (ax [] [4,5,6] [] Tryz.func101 rfl (av JP agb))
  (aw (ax [] [2] [] Tryz.func143 rfl (av JQ agc))
  (aw (ax [] [2,3,5] [] Tryz.func100 rfl (av AL T9))
  (aw (ax [3,4,5,6,65542,69638,73734,77830,8,65544,69640,73736,77832,13,15,20,23,26] [7,9] [] Tryz.func7 rfl (av EA ags))
  trivial)))))))))))))))))))))))))))))))))))))))))))))))))))))))))))))))))))))))))))))))))))))))))))))))))))))))))))))))))))))))))))))))))))))))))))))))))))))))))))
end Rm
set_option linter.unusedSimpArgs false
namespace Rm
open Go Go.Proofs Cx Go.RowKit Go.Lib
def asr:(Tryz.prog.info? 3).map (λi=>(i.zero,i.size,i.bytes))=some (some (.int .i64 0),1,8):=by kernel_rfl
set_option maxHeartbeats 2000000 in
set_option maxRecDepth 100000 in
def apo (w:World):Calls Tryz.prog 231 #[.slice none 0 0,.int .i64 0] w λe w'=>e=.returned (.slice none 0 0)/\w'=w:=by
 go_enter Tryz.func231,Tryz.ntmps231
 go_wp2
 go_ret
 exact⟨rfl,rfl⟩
set_option maxHeartbeats 2000000 in
set_option maxRecDepth 100000 in
def apn (n:Nat)(w:World)(h0:0<n)(h1:n<=4294967296):Calls Tryz.prog 231 #[.slice none 0 0,.int .i64 n] w λe w'=>
 ∃v',e=.returned v'/\w'.ownsRow w.heap.size 3 1 v' 0 []/\Below w.heap.size w w':=by
 obtain⟨i0,hi,tF,kV,Gq⟩:=info_parts asr;have hr:=run_append_nil_zeros w 60 3 60 3 i0 (.int .i64 0) .i64 .i64 Tryz.underlying60 Tryz.underlying3 hi tF n h0 (by rw[kV];decide) (by omega) (by rw[Gq];omega);have hn:¬((n:Int)<0):=by omega
 have rL:(n:Int)>0:=by omega
 have hw:i64.wrap (n:Int)=n:=by rw[IntKind.wrap_i64];omega
 have ni:i64.wrap 0=0:=by decide
 have gV:=grownCap_ge w n 0 3;have hle:=grownCap_le_maxLen w n 0 3 (by unfold maxLen;omega);have hs:(Builtin.zeroCells #[Value.int IntKind.i64 0] n++Builtin.zeroCells #[Value.int IntKind.i64 0] (grownCap w n 0 3-n)).size=grownCap w n 0 3*1:=by
  rw[Array.size_append,size_zeroCells,size_zeroCells];simp;omega
 go_enter Tryz.func231,Tryz.ntmps231
 go_wp2_with (at_builtin;refine wpList_append_run _ rfl _ _ 60 3 rfl _ _ rfl rfl _ _ hr ?qc)
 go_ret
 refine⟨_,rfl,?_,?_⟩
 .exact World.ownsRow.drew (World.ownsRow_made w _ _ (aX _) hle hs)
 .exact((Below.refl _ w).alloc (aX _) _).drew
def Lg (ds:List D):Option D:=
 match ds with
 |[.list [],.v (.int .i64 n)]=>if 0<=n/\n<=4294967296 then some (.list []) else none
 |_=>none
def apm (ds:List D)(d:D)(h:Lg ds=some d):∃s,ctx.sig 231=some s/\Ph ctx 231 s ds d:=by
 refine⟨_,rfl,λ_=>?_,λshs obs hm=>by cases hm⟩;unfold Lg at h;split at h
 case h_2=>cases h
 rename_i n;split at h
 case isFalse=>cases h
 rename_i hn;cases h;obtain⟨k,rfl⟩:=qP hn.1;intro V w args ar hC ha;obtain⟨a1,a2,a3⟩:=ha;have h0:=a3 0 _ rfl;have h1:=a3 1 _ rfl;obtain⟨u,v,rfl⟩:∃u v,args=#[u,v]:=by
  have:args.size=2:=by simpa using a1
  match args,this with
  |⟨[u,v]⟩,_=>exact⟨u,v,rfl⟩
 simp only[qQ,DT] at h0 h1;change Rep ctx.cap V (.nils .bool) u (.list []) at h0;change Rep ctx.cap V (.int .i64) v (.v (.int .i64 k)) at h1;have hu:u=.slice none 0 0:=by cases h0;rfl
 have hv:v=.int .i64 k:=by cases h1;rfl
 subst hu hv;by_cases hk:k=0
 .subst hk;refine(apo w).mono λe w' hh=>?_;obtain⟨rfl,rfl⟩:=hh;refine⟨_,V,rfl,.refl V,ar,.refl _ _,λ_ _ _ h=>.inl h,λ_ _ h=>.inl h,?_⟩;exact⟨[],[],rfl,⟨by simp,.inl ⟨rfl,rfl⟩⟩,⟨λ_=>undef,λi x hx=>by simp at hx,λi j u hi=>by simp at hi⟩,λk hk=>by cases hk⟩
 .refine(apn k w (by omega) (by omega)).mono λe w' hh=>?_;obtain⟨v',rfl,bp,hb⟩:=hh;refine⟨v',V,rfl,.refl V,ar.below hb,hb,λ_ _ _ h=>.inl h,λ_ _ h=>.inl h,?_⟩;refine⟨[],[],rfl,bp,⟨λ_=>undef,λi x hx=>by simp at hx,λi j u hi=>by simp at hi⟩,λk hk=>?_⟩;have bf:=(bp.lt k hk).1;refine⟨λo=>?_,?_⟩
  .cases hc:V.c k o with
   |none=>rfl
   |some u=>have:=World.block_lt_of_cell? w (a:=⟨k,o,none⟩) (ar.c _ _ _ hc);simp at this;omega
  .cases hc:V.m k with
   |none=>rfl
   |some u=>have:=(ar.m _ _ hc).lt;omega
def fA (day:Int):Int×Int×Int:=
 let n:=day+730425
 let e:=n/146097
 let r:=n%146097
 let y:=(r-r/1460+r/36524-r/146096)/365
 let r:=r-(365*y+y/4-y/100)
 let m:=(5*r+2)/153
 let dom:=r-(153*m+2)/5+1
 let month:=if 12<m+3 then m+3-12 else m+3
 (if month<3 then y+400*e+1 else y+400*e,month,dom)
def zu (rest feasts shut:List Int)(day:Int):Bool:=
 !rest.contains ((day+5)%7)&&(!feasts.contains (100*(fA day).2.1+(fA day).2.2)&& !shut.contains day)
def abH (rest feasts shut:List Int)(a b:Int):List Int:=((List.range (b-a+1).toNat).map λ(k:Nat)=>a+k).filter (zu rest feasts shut)
def zc (d:D):List Int:=d.l.map D.i
def abI (ds:List D):List D:=
 let c:=(ds.getD 2 .none).deref
 (abH (zc (c.c 3)) (zc (c.c 4)) (zc (c.c 5)) (ds.getD 0 .none).deref.i (ds.getD 1 .none).deref.i).map λd=>.tup [.int d]
def AE (r:D)(city:Int):Int:=if 0<=city/\city<(r.c 1).l.length then(((r.c 1).l.getD city.toNat .none).c 1).i else-1
def Va (ds:List D):D:=
 let r:=ds.getD 0 .none
 let forum:=(ds.getD 1 .none).i
 let c:=ds.getD 2 .none
 let s:=(c.c 15).l.getD (c.c 19).i.toNat .none
 let who:=(s.c 2).i
 if who<0\/(r.c 3).l.length<=who\/forum<0\/(r.c 4).l.length<=forum then .list [] else
 let out:=[forum,AE r (s.c 7).i,AE r (c.c 10).i,AE r (c.c 9).i,AE r (((r.c 3).l.getD who.toNat .none).c 1).i]
 if(-1)∈out then .list [] else ints out
def acb:List (Nat×(aS->List D->Option D)):=[(231,λ_ ds=>Lg ds),(179,CK (ab JC) (ab JD) Va),(206,Gv (ab uA) 1000 1 abI),(76,λ_ ds=>IA ds),(77,λ_ ds=>KZ ds),(73,λ_ ds=>ly ds),(34,λ_ ds=>OB ds),(74,λ_ ds=>OC ds),(69,λ_ ds=>K1 ds),(26,λ_ ds=>ly ds),(27,λ_ ds=>ly ds),(28,λ_ ds=>ly ds),(29,λ_ ds=>ly ds)]
def ext:Nat->Option (aS->List D->Option D):=bK acb
def axB:TabOK ctx tab ext:=by
 refine⟨clos,its,λf pc _ h=>axC f pc h,λf g hg Z hΦ dv ds d h=>?_⟩
 have:=TL (R:=λf (g:aS->List D->Option D)=>∀Z,du ctx Z->gP ctx Z->∀ds d,g Z ds=some d->(∀s,ctx.sig f=some s->Ph ctx f s ds d)/\
  ∀cs ys,ctx.cap f=some cs->oS cs.args cs.res=some ys->∃xs,d=.list xs/\(∀x,x∈xs->∃ds',x=.tup ds'/\ds'.length=ys.length)/\mL ctx f cs.caps ys ds xs) (l:=acb)
  ⟨λZ hΦ dv ds d h=>⟨λs hs=>by obtain⟨s',h1,h2⟩:=apm ds d h;rw[hs] at h1;cases h1;exact h2,λcs ys hc hi=>by cases hc⟩,
   λZ hΦ dv ds d h=>⟨λs hs=>by cases hs;exact⟨λ_=>auz clos hΦ dv Tryz.func179 (av JC afV) (av JD afW) h,λshs obs hm=>by cases hm⟩,λcs ys hc hi=>by cases hc⟩,
   λZ hΦ dv ds d h=>⟨λs hs=>(by cases hs),λcs ys hc hi=>by
    cases hc;cases hi;exact asw clos hΦ dv Tryz.func206 alD h rfl⟩,
   λZ hΦ dv ds d h=>⟨λs hs=>by cases hs;exact⟨λhm=>(by cases hm),λshs obs hm=>by cases hm;exact axo ds d h⟩,λcs ys hc hi=>by cases hc⟩,
   λZ hΦ dv ds d h=>⟨λs hs=>by cases hs;exact⟨λhm=>(by cases hm),λshs obs hm=>by cases hm;exact amk ds d h⟩,λcs ys hc hi=>by cases hc⟩,
   λZ hΦ dv ds d h=>⟨λs hs=>by obtain⟨s',h1,h2⟩:=al3 ds d h;rw[hs] at h1;cases h1;cases hs;exact⟨λ_=>h2,λshs obs hm=>by cases hm⟩,λcs ys hc hi=>by cases hc⟩,
   λZ hΦ dv ds d h=>⟨λs hs=>by cases hs;exact⟨λhm=>(by cases hm),λshs obs hm=>by cases hm;exact axj ds d h⟩,λcs ys hc hi=>by cases hc⟩,
   λZ hΦ dv ds d h=>⟨λs hs=>by cases hs;exact⟨λhm=>(by cases hm),λshs obs hm=>by cases hm;exact axl ds d h⟩,λcs ys hc hi=>by cases hc⟩,
   λZ hΦ dv ds d h=>⟨λs hs=>by cases hs;exact⟨λhm=>(by cases hm),λshs obs hm=>by cases hm;exact amA ds d h⟩,λcs ys hc hi=>by cases hc⟩,
   λZ hΦ dv ds d h=>⟨λs hs=>by obtain⟨s',h1,h2⟩:=al0 ds d h;rw[hs] at h1;cases h1;cases hs;exact⟨λ_=>h2,λshs obs hm=>by cases hm⟩,λcs ys hc hi=>by cases hc⟩,
   λZ hΦ dv ds d h=>⟨λs hs=>by obtain⟨s',h1,h2⟩:=alV ds d h;rw[hs] at h1;cases h1;cases hs;exact⟨λ_=>h2,λshs obs hm=>by cases hm⟩,λcs ys hc hi=>by cases hc⟩,
   λZ hΦ dv ds d h=>⟨λs hs=>by obtain⟨s',h1,h2⟩:=alW ds d h;rw[hs] at h1;cases h1;cases hs;exact⟨λ_=>h2,λshs obs hm=>by cases hm⟩,λcs ys hc hi=>by cases hc⟩,
   λZ hΦ dv ds d h=>⟨λs hs=>by obtain⟨s',h1,h2⟩:=alX ds d h;rw[hs] at h1;cases h1;cases hs;exact⟨λ_=>h2,λshs obs hm=>by cases hm⟩,λcs ys hc hi=>by cases hc⟩,trivial⟩ f g hg
 exact this Z hΦ dv ds d h
abbrev T:cK:=eM tab ext
theorem zyw {ds:List D}{d:D}{t:PT}(k:Nat){f:Nat}{x:PC}(he:tree x=t)(h:aH (eM tab ext) t (l7 ds) (λx=>x=.ret d))(hl:CT[k]?=some (f,x):=by kernel_rfl)(hx:ext f=none:=by rfl):ah (eM tab ext) f ds d:=.of_tree hx (lA k hl) he h
def ah.of_nsl {tab:Nat->Option PC}{ext:Nat->Option (aS->List D->Option D)}{f:Nat}{pa pb:PC}{spec:List D->D}{ds:List D}{ta tb:PT}(hx:ext f=some (CK pa pb spec))(hta:tree pa=ta)(htb:tree pb=tb)
 (h:(∃xs,xs≠[]/\spec ds=.list xs/\aH (eM tab ext) ta (l7 ds) (λx=>x=.ret (.list xs)))\/(spec ds=.list []/\aH (eM tab ext) tb (l7 ds) (λx=>x=.ret (.list [])))):ah (eM tab ext) f ds (spec ds):=by
 refine ah.of_ext hx ?_;rcases h with⟨xs,h1,h2,h3⟩|⟨h2,h3⟩
 .obtain⟨x,rfl,n0,hn⟩:=O1 (c:=pa) (hta▸h3);refine⟨n0,λn hle=>?_⟩;unfold CK;rw[if_pos (.inl ⟨n,xs,hn n hle,h1,h2⟩)]
 .obtain⟨x,rfl,n0,hn⟩:=O1 (c:=pb) (htb▸h3);refine⟨n0,λn hle=>?_⟩;unfold CK;rw[if_pos (.inr ⟨n,hn n hle,h2⟩)]
end Rm
namespace Rm
open Go Go.Proofs Cx
def eT (n:Nat)(p:Nat->Bool):Bool:=(List.range n).all p
def aaW {n:Nat}{p:Nat->Bool}(h:∀k,k<n->p k=true):eT n p=true:=cN.2 λk hk=>h k (fu.1 hk)
def akK {n k:Nat}{p:Nat->Bool}(hk:k<n)(h:p k=false):eT n p=false:=List.all_eq_false.2 ⟨k,fu.2 hk,by simp[h]⟩
def xY {n:Nat}{p:Nat->Bool}:eT n p=true↔∀k,k<n->p k=true:=⟨λh k hk=>cN.1 h k (fu.2 hk),aaW⟩
def fU (n:Nat)(f:Nat->Int):Int:=(((List.range n).map f).find? λx=>x !=0).getD 0
def Rl {n:Nat}{f:Nat->Int}(h:∀k,k<n->f k=0):fU n f=0:=by
 unfold fU;rw[Ao.2]
 .rfl
 .intro x hx;obtain⟨k,hk,rfl⟩:=cr.1 hx;simp[h k (fu.1 hk)]
def Rj {n k:Nat}{f:Nat->Int}(hk:k<n)(hj:∀j,j<k->f j=0)(h:f k≠0):fU n f=f k:=by
 unfold fU;have e:List.range n=List.range k++k::(List.range' (k+1) (n-k-1)):=by
  rw[Ps,Ps,<-Pr];have:=List.range'_append_1 (s:=0) (m:=k) (n:=n-k-1+1);rw[fw] at this;rw[this];congr 1;omega
 rw[e,nR,List.find?_append,Ao.2,Option.none_or,iS,List.find?_cons_of_pos (by simpa using h)]
 .rfl
 .intro x hx;obtain⟨j,vY,rfl⟩:=cr.1 hx;simp[hj j (fu.1 vY)]
def Rk {n:Nat}{f:Nat->Int}:fU n f=0↔∀k,k<n->f k=0:=by
 refine⟨λh k=>?_,Rl⟩
 induction k using Nat.strongRecOn with
 |ind k ih=>
  intro hk;refine Aj λau=>?_;rw[Rj hk (λj hj=>ih j hj (by omega)) au] at h;exact au h
section
variable {T:cK} {id:Nat} {bF bE lr lo:List Nat} {a:PC} {O:Env} {Q:Out->Prop}
def gI (N:Nat)(p:Nat->Bool)(str fN:Nat->List D)(h0:lr.map O.r=str 0/\lo.map O.o=fN 0)
 (step:∀k,k<N->p k=true->aH T (round id bF bE lr lo a) (O.put lr (str k) lo (fN k)) (fl O id bF bE lr lo (λvr vo=>vr=str (k+1)/\vo=fN (k+1)) Q))
 (bad:∀k,k<N->p k=false->eT N p=false->aH T (round id bF bE lr lo a) (O.put lr (str k) lo (fN k)) (fl O id bF bE lr lo (λ_ _=>False) Q))
 (last:eT N p=true->aH T (round id bF bE lr lo a) (O.put lr (str N) lo (fN N)) (fl O id bF bE lr lo (λ_ _=>False) Q)):aO T (.block id bF bE (.loop lr lo a)) O Q:=
 .scan N (λk=>p k=true) str fN h0 (λk hk _ h=>step k hk h) (λk hk _ h=>bad k hk (by simpa using h) (akK hk (by simpa using h))) (λh=>last (aaW h))
def qG (N:Nat)(f:Nat->Int)(str fN:Nat->List D)(h0:lr.map O.r=str 0/\lo.map O.o=fN 0)
 (step:∀k,k<N->f k=0->aH T (round id bF bE lr lo a) (O.put lr (str k) lo (fN k)) (fl O id bF bE lr lo (λvr vo=>vr=str (k+1)/\vo=fN (k+1)) Q))
 (bad:∀k,k<N->f k≠0->fU N f=f k->aH T (round id bF bE lr lo a) (O.put lr (str k) lo (fN k)) (fl O id bF bE lr lo (λ_ _=>False) Q))
 (last:fU N f=0->aH T (round id bF bE lr lo a) (O.put lr (str N) lo (fN N)) (fl O id bF bE lr lo (λ_ _=>False) Q)):aO T (.block id bF bE (.loop lr lo a)) O Q:=
 .scan N (λk=>f k=0) str fN h0 (λk hk _ h=>step k hk h) (λk hk hj h=>bad k hk h (Rj hk hj h)) (λh=>last (Rl h))
end
def bx {k n:Nat}(h:k<n)(hn:n<=4294967296):i64.wrap ((k:Int)+1)=(k:Int)+1:=aQ (by omega)
def xB {k:Nat}(hn:k<=4294967296):i64.wrap ((k:Int)-1)=(k:Int)-1:=aQ (by omega)
def aC (i n:Int):Bool:=decide (0<=i)&&decide (i<n)
def wi (n a b:Int):Bool:=decide (a<=n)&&decide (n<=b)
def gf (i n:Int):ah T 135 [.int i,.int n] (.bool (aC i n)):=by
 refine zyw 28 azt ?_;simp[YK,aC];by_cases h:0<=i<;>simp[h]
def sA (i n:Int):ah T 102 [.int i,.int n] (.bool (aC i n)):=by
 refine zyw 18 azH ?_;simp[YX,aC];by_cases h:0<=i<;>simp[h]
def cT (n a b:Int):ah T 92 [.int n,.int a,.int b] (.bool (wi n a b)):=by
 refine zyw 132 ay9 ?_;simp[Yp,wi];by_cases h:a<=n<;>simp[h]
def idx_eq {α:Type}[DecidableEq α]{l:List α}{x z:α}{k:Nat}(hk:k<l.length)(hj:∀j,j<k->l.getD j z≠x)(h:¬l.getD k z≠x):x∈l/\l.findIdx (λy=>decide (y=x))=k:=by
 have e:l[k]=x:=by simpa [hk] using h
 refine⟨e▸bU hk,(List.findIdx_eq hk).2 ⟨by simp[e],λj kA=>?_⟩⟩;have fF:j<l.length:=by omega
 simpa [fF] using hj j kA
def aeh {α:Type}[DecidableEq α]{l:List α}{x z:α}(hj:∀j,j<l.length->l.getD j z≠x):¬x∈l:=λhm=>by
 obtain⟨j,fF,rfl⟩:=ew hm;have:=hj j fF;simp[fF] at this
def wA {α:Type}[DecidableEq α](l:List α)(x:α):Int:=if x∈l then(l.findIdx (λy=>decide (y=x)):Nat) else-1
def hasB {α:Type}[DecidableEq α](l:List α)(x:α):Bool:=l.any λy=>decide (y=x)
def RN {α:Type}[DecidableEq α]{l:List α}{x:α}:hasB l x=true↔x∈l:=by simp[hasB]
def acW {α:Type}[DecidableEq α]{l:List α}{x:α}:hasB l x=false↔¬x∈l:=by rw[<-RN];simp
def aeg {α:Type}[DecidableEq α](l:List α)(x:α):decide (0<=wA l x)=hasB l x:=by
 unfold wA;by_cases h:x∈l
 .rw[RN.2 h];simp[h]
 .rw[acW.2 h];simp[h]
@[simp] def aEg (a b:ByteArray):BE .eql a b=decide (a=b):=by
  simp only[BE,ByteArray.toList_eq];by_cases h:a=b
  .subst h;simp
  .rw[decide_eq_false h,beq_eq_false_iff_ne];intro e;have:a.data=b.data:=by rw[<-vt];exact e
   exact h (by cases a;cases b;cases this;rfl)
@[simp] def aE9 (O:Env)(x i:PE):PE.ev O (.sidx x i)=.v (.int .u8 ((PE.ev O x).s.data.getD (PE.ev O i).i.toNat 0).toNat):=zyz
@[simp] def aFd (O:Env)(x i:PE):PE.ev O (.sok x i)=.v (.bool (decide (0<=(PE.ev O i).i/\(PE.ev O i).i<(PE.ev O x).s.size))):=zyz
@[simp] def aH7 (a:ByteArray):(str a).s=a:=zyz
def akh (l:List Int)(x:Int)(hl:l.length<=4294967296):ah T 195 [ints l,.int x] (.int (wA l x)):=by
 refine zyw 33 azS ?_;simp[Zi];refine .scan l.length (λk=>l.getD k 0≠x) (λk=>[.int 0,.int k]) (λ_=>[]) ?_ (λk hk hj ho=>?_) (λk hk hj ho=>?_) (λhj=>?_)
 .simp
 .have hw:=bx hk hl;simp[hk] at ho;have jb:¬x=l[k]:=λe=>ho e.symm;simp[Wx,Ib,hk,hw,ints,ho,jb]
 .obtain⟨hm,he⟩:=idx_eq hk hj ho;simp[hk] at ho;simp[Wx,Ib,hk,ints,ho,wA,hm,he]
 .have:=aeh hj;simp[Wx,Ib,wA,this,ints]
def xF (l:List Int)(x:Int)(hl:l.length<=4294967296):ah T 176 [ints l,.int x] (.bool (hasB l x)):=by
 refine zyw 32 azM ?_;simp[Zc];refine⟨_,akh l x hl,?_⟩;have:=aeg l x;simp at this ⊢;exact this
def aki (l:List ByteArray)(x:ByteArray)(hl:l.length<=4294967296):ah T 210 [strs l,str x] (.int (wA l x)):=by
 refine zyw 72 azT ?_;simp[Zj];refine .scan l.length (λk=>l.getD k default≠x) (λk=>[.int 0,.int k]) (λ_=>[]) ?_ (λk hk hj ho=>?_) (λk hk hj ho=>?_) (λhj=>?_)
 .simp
 .have hw:=bx hk hl;simp[hk] at ho;have jb:¬x=l[k]:=λe=>ho e.symm;simp[Wy,Ic,hk,hw,strs,ho,jb]
 .obtain⟨hm,he⟩:=idx_eq hk hj ho;simp[hk] at ho;simp[Wy,Ic,hk,strs,ho,wA,hm,he]
 .have:=aeh hj;simp[Wy,Ic,wA,this,strs]
def aj8 (l:List ByteArray)(x:ByteArray)(hl:l.length<=4294967296):ah T 194 [strs l,str x] (.bool (hasB l x)):=by
 refine zyw 71 azN ?_;simp[Zd];refine⟨_,aki l x hl,?_⟩;have:=aeg l x;simp at this ⊢;exact this
def qE (l:List Int)(a b:Int)(k:Nat):Bool:=wi (l.getD k 0) a b&&(k==0||decide (l.getD (k-1) 0<l.getD k 0))
def rising (l:List Int)(a b:Int):Bool:=eT l.length (qE l a b)
def Ij (l:List Int)(a b:Int)(hl:l.length<=4294967296):ah T 175 [ints l,.int a,.int b] (.bool (rising l a b)):=by
 refine zyw 76 azz ?_;simp[YQ];refine gI l.length (qE l a b) (λk=>[.bool false,.int k]) (λ_=>[]) ?_ (λk hk ho=>?_) (λk hk ho hb=>?_) (λhj=>?_)
 .simp
 .have hw:=bx hk hl;simp[qE,wi,hk] at ho;obtain⟨⟨h1,h2⟩,h3⟩:=ho;have cw:¬l[k]<a:=by omega
  have gU:¬b<l[k]:=by omega
  by_cases gW:0<k
  .have bD:k-1<l.length:=by omega
   have cZ:i64.wrap ((k:Int)-1)=((k-1:Nat):Int):=by rw[xB (by omega)];omega
   have fD:¬l[k]<=l[k-1]:=by
        rcases h3 with h3|h3
        .omega
        .simp[bD] at h3;omega
   simp[Di,w9,hk,hw,cZ,ints,cw,gU,fD,gW,bD]
  .simp[Di,w9,hk,hw,ints,cw,gU,gW]
 .have hf:rising l a b=false:=hb;simp[qE,wi,hk] at ho;by_cases h1:l[k]<a
  .simp[Di,w9,hk,ints,h1,hf]
  by_cases h2:b<l[k]
  .simp[Di,w9,hk,ints,h1,h2,hf]
  have h3:=ho (by omega) (by omega);have gW:0<k:=by omega
  have bD:k-1<l.length:=by omega
  have cZ:i64.wrap ((k:Int)-1)=((k-1:Nat):Int):=by rw[xB (by omega)];omega
  have fD:=h3.2;simp[bD] at fD;simp[Di,w9,hk,cZ,ints,h1,h2,fD,gW,bD,hf]
 .have hf:rising l a b=true:=hj;simp[Di,w9,hf]
def GA (c:Int):Bool:=wi c 97 122||wi c 65 90
def zq (i:Nat)(c:Int):Bool:=GA c||(i !=0&&(decide (c=95)||wi c 48 57))
def Ep (s:ByteArray)(k:Nat):Int:=((s.data.toList.getD k 0).toNat:Nat)
def jz (s:ByteArray):Bool:=decide (1<=s.size)&&decide (s.size<=20)&&eT s.size (λk=>zq k (Ep s k))
def Js {s:ByteArray}{k:Nat}(h:k<s.data.size):(s.data[k].toNat:Int)=Ep s k:=by
 unfold Ep;rw[aE,aU (by simpa using h)];rfl
def ajl {s:ByteArray}:s=⟨#[]⟩↔s.size=0:=by
 constructor
 .rintro rfl;rfl
 .intro h;cases s with|mk d=>congr;exact Pc h
def awx (s:ByteArray):ah T 193 [str s] (.bool (jz s)):=by
 refine zyw 70 azu ?_;simp[YL];by_cases h0:s=⟨#[]⟩
 .have hn:jz s=false:=by simp[jz,ajl.1 h0]
  rw[hn];simp[h0]
 by_cases h1:(20:Int)<s.size
 .have cw:¬s.size<=20:=by omega
  simp[h0,h1,jz,cw]
 have hz:1<=s.size:=by
  have:s.size≠0:=λe=>h0 (ajl.2 e);omega
 have cw:s.size<=20:=by omega
 simp[h0,h1];refine⟨by omega,gI s.size (λk=>zq k (Ep s k)) (λk=>[.bool false,.int k]) (λ_=>[]) ?_ (λk hk ho=>?_) (λk hk ho hb=>?_) (λhj=>?_)⟩
 .simp
 .have hw:=bx hk (by omega);have bf:k<s.data.size:=hk;have hg:=Js bf;simp[zq,GA,wi] at ho;simp[Wg,HU,hk,bf,hw,hg];omega
 .have bf:k<s.data.size:=hk;have hg:=Js bf;have hn:jz s=false:=by simp[jz,hb]
  simp[zq,GA,wi] at ho;simp[Wg,HU,hk,bf,hg,hn];omega
 .have hn:jz s=true:=by simp[jz,hj,hz,cw]
  have hd:s.data.size=s.size:=rfl;simp[Wg,HU,hn,hd]
def aii (c:Int):ah T 173 [.v (.int .u8 c)] (.bool (GA c)):=by
 refine zyw 129 ay4 ?_;simp[Yk,GA,wi];by_cases h:97<=c<;>by_cases h2:c<=122<;>by_cases h3:65<=c<;>by_cases h4:c<=90<;>simp[h,h2,h3,h4]
def avU (s:ByteArray):ah T 127 [str s] (.bool (jz s)):=by
 refine zyw 128 ay5 ?_;simp[Yl];by_cases h0:(s.size:Int)<1
 .have hn:jz s=false:=by simp[jz];omega
  simp[h0,hn]
 by_cases h1:(20:Int)<s.size
 .have hn:jz s=false:=by simp[jz];omega
  simp[h0,h1,hn]
 rw[if_neg (by omega)];refine gI s.size (λk=>zq k (Ep s k)) (λk=>[.bool false,.int k]) (λ_=>[]) ?_ (λk hk ho=>?_) (λk hk ho hb=>?_) (λhj=>?_)
 .simp
 .have hw:=bx hk (by omega);have bf:k<s.data.size:=hk;have hg:=Js bf;simp[zq,wi] at ho;simp[VX,Hv,hk,bf,hw,hg];refine⟨_,aii _,?_⟩;simp[hw];intro g1 g2;exfalso;rcases ho with h|h
  .rw[h] at g1;cases g1
  .omega
 .have bf:k<s.data.size:=hk;have hg:=Js bf;have hn:jz s=false:=by simp[jz,hb]
  simp[zq,wi] at ho;simp[VX,Hv,hk,bf,hg,hn];refine⟨_,aii _,?_⟩;simp[ho.1];omega
 .have hn:jz s=true:=by simp[jz,hj];omega
  simp[VX,Hv,hn]
def avR (l:List ByteArray)(n:Nat)(x:ByteArray)(hn:n<=l.length)(hl:l.length<=4294967296):ah T 128 [strs l,.int n,str x] (.bool (hasB (l.take n) x)):=by
 refine zyw 130 ay1 ?_;simp[Yh];refine .scan n (λk=>l.getD k default≠x) (λk=>[.bool false,.int k]) (λ_=>[]) ?_ (λk hk hj ho=>?_) (λk hk hj ho=>?_) (λhj=>?_)
 .simp
 .have bf:k<l.length:=by omega
  have hw:=bx bf hl;simp[bf] at ho;simp[VW,Ht,hk,bf,hw,strs,ho]
 .have bf:k<l.length:=by omega
  simp[bf] at ho;have hm:hasB (l.take n) x=true:=RN.2 (by rw[<-ho,ako];exact⟨k,by omega,rfl⟩);simp[VW,Ht,hk,bf,strs,ho,hm]
 .have hm:hasB (l.take n) x=false:=acW.2 (λh=>by
   rw[ako] at h;obtain⟨k,hk,e⟩:=h;have:=hj k (by omega);simp[show k<l.length by omega] at this;exact this e)
  simp[VW,Ht,hm]
def iL (l:List ByteArray)(i:Nat):Int:=if jz (l.getD i default)=false then 2 else if hasB (l.take i) (l.getD i default) then 5 else 0
def TU (l:List ByteArray)(i n:Nat)(h:i<n):iL (l.take n) i=iL l i:=by
 unfold iL;rw[aE,DV h,Pt,mN (by omega),<-aE]
def Hc (l:List ByteArray)(i:Nat)(hi:i<l.length)(hl:l.length<=4294967296):ah T 90 [strs l,.int i] (.int (iL l i)):=by
 refine zyw 127 azc ?_;simp[Ys,hi];refine⟨_,by simpa [strs,hi] using avU l[i],?_⟩;unfold iL;rw[aE,aU hi,kM];cases h1:jz l[i]<;>simp[h1];refine⟨_,by simpa [strs,hi] using avR l i l[i] (by omega) hl,?_⟩;cases h2:hasB (l.take i) l[i]<;>simp[h2]
def aiR (l:List ByteArray)(i:Nat)(hi:i<l.length)(hl:l.length<=4294967296):ah T 174 [strs l,.int i] (.int (iL l i)):=by
 refine zyw 69 azv ?_;simp[YM,hi];refine⟨_,by simpa [strs,hi] using awx l[i],?_⟩;unfold iL;rw[aE,aU hi,kM];cases h1:jz l[i]<;>simp[h1];refine⟨by omega,_,by simpa [strs,hi] using aj8 (l.take i) l[i] (by rw[dO];omega),?_⟩;cases h2:hasB (l.take i) l[i]<;>simp[h2]
def kO (l:List ByteArray)(g:Nat->Bool)(i:Nat):Int:=if iL l i≠0 then iL l i else if g i then 0 else 1
def eN (l:List ByteArray)(GH:Int)(g:Nat->Bool):Int:=if GH<l.length then 6 else fU l.length (kO l g)
def Oj (l:List ByteArray)(GH:Int)(f:Nat)(caps:List D)(g:Nat->Bool)(hg:∀i:Nat,i<l.length->ah T f (.int i::caps) (.bool (g i)))(hl:l.length<=4294967296):
 ah T 131 [strs l,.int GH,.clo f caps] (.int (eN l GH g)):=by
 refine zyw 68 azs ?_;simp[YJ,eN];by_cases h0:GH<l.length
 .simp[h0];intro h;omega
 simp[h0];refine qG l.length (kO l g) (λk=>[.int 0,.int k]) (λ_=>[]) ?_ (λk hk ho=>?_) (λk hk ho hb=>?_) (λhj=>?_)
 .simp
 .have hw:=bx hk hl;have h1:iL l k=0:=by
   refine Aj λh=>?_;unfold kO at ho;rw[if_pos h] at ho;exact h ho
  have h2:g k=true:=by
   unfold kO at ho;rw[if_neg (by simpa using h1)] at ho;cases h:g k with
   |true=>rfl
   |false=>rw[h] at ho;simp at ho
  simp[Wf,HT,hk,hw];refine⟨_,aiR l k hk hl,?_⟩;simp[h1];refine⟨_,_,⟨rfl,rfl⟩,_,hg k hk,?_⟩;simp[h2,hw]
 .simp[Wf,HT,hk,hb];refine⟨_,aiR l k hk hl,?_⟩;unfold kO at ho ⊢;by_cases h1:iL l k=0
  .simp[h1] at ho ⊢;refine⟨_,_,⟨rfl,rfl⟩,_,hg k hk,?_⟩;simp[ho]
  .simp[h1]
 .simp[Wf,HT,hj]
def VB (l:List Int)(a b:Int)(hl:l.length<=4294967296):ah T 129 [ints l,.int a,.int b] (.bool (rising l a b)):=by
 refine zyw 133 ay8 ?_;simp[Yo];refine gI l.length (qE l a b) (λk=>[.bool false,.int k]) (λ_=>[]) ?_ (λk hk ho=>?_) (λk hk ho hb=>?_) (λhj=>?_)
 .simp
 .have hw:=bx hk hl;simp[qE,hk] at ho;simp[V1,Hz,hk,hw,ints];refine⟨_,cT _ _ _,?_⟩;by_cases gW:0<k
  .have bD:k-1<l.length:=by omega
   have cZ:i64.wrap ((k:Int)-1)=((k-1:Nat):Int):=by rw[xB (by omega)];omega
   have fD:¬l[k]<=l[k-1]:=by
        rcases ho.2 with h3|h3
        .omega
        .simp[bD] at h3;omega
   simp[ho.1,hk,hw,cZ,fD,gW,bD]
  .simp[ho.1,hk,hw,gW];omega
 .have hf:rising l a b=false:=hb;simp[qE,hk] at ho;simp[V1,Hz,hk,ints,hf];refine⟨_,cT _ _ _,?_⟩;cases h1:wi l[k] a b with
  |false=>simp
  |true=>
   have h3:=ho h1;have gW:0<k:=by omega
   have bD:k-1<l.length:=by omega
   have cZ:i64.wrap ((k:Int)-1)=((k-1:Nat):Int):=by rw[xB (by omega)];omega
   have fD:=h3.2;simp[bD] at fD;simp[hk,cZ,fD,gW,bD]
 .have hf:rising l a b=true:=hj;simp[V1,Hz,hf]
def Xc (n:Int):n.tdiv 100=if 0<=n then n/100 else-((-n)/100):=by
 split
 .rename_i h;exact DR h
 .rename_i h;have e:n.tdiv 100=-((-n).tdiv 100):=by rw[Int.neg_tdiv,Int.neg_neg]
  rw[e,DR (by omega)]
def ajA (n:Int):n.tmod 100=n-100*n.tdiv 100:=Int.tmod_def n 100
def ajQ {n:Int}(h:ba n):i64.wrap (n.tdiv 100)=n.tdiv 100:=aQ (by rw[Xc];unfold ba at h;split<;>omega)
def pO (r:Realm)(c:City):Bool:=eT c.feasts.length (λk=>wi ((c.feasts.getD k 0).tmod 100) 1 31)&&(decide (c.feasts.length<=60)&&decide (c.shut.length<=200)&&aC c.order r.orders.length&&aC c.currency r.currencies.length)&&
 (rising c.rest 0 6&&rising c.feasts 101 1231&&rising c.shut 0 100000)
def awv (r:Realm)(c:City)(h1:c.rest.length<=4294967296)(h2:c.feasts.length<=4294967296)(h3:c.shut.length<=4294967296):ah T 134 [aP r,gT c] (.bool (pO r c)):=by
 refine zyw 75 azr ?_;simp[YI];refine gI c.feasts.length (λk=>wi ((c.feasts.getD k 0).tmod 100) 1 31) (λk=>[.bool false,.int k]) (λ_=>[]) ?_ (λk hk ho=>?_) (λk hk ho hb=>?_) (λhj=>?_)
 .simp
 .have hw:=bx hk h2;simp[wi,hk] at ho;have g1:¬(c.feasts[k].tmod 100<1):=by omega
  have g2:¬(31<c.feasts[k].tmod 100):=by omega
  simp[We,HR,hk,hw,ints,g1,g2]
 .have hf:pO r c=false:=by simp only[pO,hb,sI]
  simp[wi,hk] at ho;simp[We,HR,hk,ints,hf];by_cases g1:c.feasts[k].tmod 100<1
  .simp[g1]
  .have g2:=ho (by omega);simp[g1,g2]
 .simp[We,HR];by_cases g1:(c.feasts.length:Int)<=60
  case neg=>
   have hf:pO r c=false:=by
        have fB:decide (c.feasts.length<=60)=false:=decide_eq_false (by omega);simp only[pO,fB,sI,Ah]
   have fB:(60:Int)<c.feasts.length:=by omega
   simp[g1,fB,hf]
  by_cases g2:(c.shut.length:Int)<=200
  case neg=>
   have hf:pO r c=false:=by
        have fB:decide (c.shut.length<=200)=false:=decide_eq_false (by omega);simp only[pO,fB,sI,Ah]
   have pV:(200:Int)<c.shut.length:=by omega
   simp[g1,g2,pV,hf]
  have fB:¬(60:Int)<c.feasts.length:=by omega
  have pV:¬(200:Int)<c.shut.length:=by omega
  have hf:pO r c=(aC c.order r.orders.length&&aC c.currency r.currencies.length&&(rising c.rest 0 6&&rising c.feasts 101 1231&&rising c.shut 0 100000)):=by
   have e1:decide (c.feasts.length<=60)=true:=decide_eq_true (by omega);have e2:decide (c.shut.length<=200)=true:=decide_eq_true (by omega);simp only[pO,hj,e1,e2,Ai]
  rw[hf];simp[g1,g2,fB,pV];refine⟨_,gf _ _,?_⟩;simp;cases e1:aC c.order r.orders.length<;>simp;refine⟨_,gf _ _,?_⟩;simp;cases e2:aC c.currency r.currencies.length<;>simp;refine⟨_,Ij _ _ _ h1,?_⟩;simp;cases e3:rising c.rest 0 6<;>simp;refine⟨_,Ij _ _ _ h2,?_⟩;simp;cases e4:rising c.feasts 101 1231<;>simp;exact Ij _ _ _ h3
def rf (r:Realm)(c:City):Bool:=(wi c.order 0 (r.orders.length-1)&&wi c.currency 0 (r.currencies.length-1)&&decide (c.feasts.length<=60)&&decide (c.shut.length<=200))&&
 eT c.feasts.length (λk=>wi ((c.feasts.getD k 0).tdiv 100) 1 12&&wi ((c.feasts.getD k 0).tmod 100) 1 31)&&(rising c.rest 0 6&&rising c.feasts 0 2000&&rising c.shut 0 100000)
def ug (n:Nat)(h:n<=4294967296):i64.wrap ((n:Int)-1)=(n:Int)-1:=aQ (by omega)
def avV (r:Realm)(c:City)(h1:c.rest.length<=4294967296)(h2:c.feasts.length<=4294967296)(h3:c.shut.length<=4294967296)(h4:r.orders.length<=4294967296)(h5:r.currencies.length<=4294967296)(hi:∀y,y∈c.feasts->ba y):
 ah T 91 [aP r,gT c] (.bool (rf r c)):=by
 refine zyw 131 ay6 ?_;simp[Ym,ug _ h4,ug _ h5];refine⟨_,cT _ _ _,?_⟩;cases e1:wi c.order 0 (r.orders.length-1)
 case false=>simp[rf,e1]
 simp;refine⟨_,cT _ _ _,?_⟩;cases e2:wi c.currency 0 (r.currencies.length-1)
 case false=>simp[rf,e1,e2]
 by_cases g1:(c.feasts.length:Int)<=60
 case neg=>
  have hf:rf r c=false:=by
   have fB:decide (c.feasts.length<=60)=false:=decide_eq_false (by omega);simp only[rf,fB,sI,Ah]
  have fB:(60:Int)<c.feasts.length:=by omega
  simp[fB,hf]
 by_cases g2:(c.shut.length:Int)<=200
 case neg=>
  have hf:rf r c=false:=by
   have fB:decide (c.shut.length<=200)=false:=decide_eq_false (by omega);simp only[rf,fB,sI,Ah]
  have pV:(200:Int)<c.shut.length:=by omega
  simp[pV,hf]
 have fB:¬(60:Int)<c.feasts.length:=by omega
 have pV:¬(200:Int)<c.shut.length:=by omega
 have hf:rf r c=(eT c.feasts.length (λk=>wi ((c.feasts.getD k 0).tdiv 100) 1 12&&wi ((c.feasts.getD k 0).tmod 100) 1 31)&&(rising c.rest 0 6&&rising c.feasts 0 2000&&rising c.shut 0 100000)):=by
  have e3:decide (c.feasts.length<=60)=true:=decide_eq_true (by omega);have e4:decide (c.shut.length<=200)=true:=decide_eq_true (by omega);simp only[rf,e1,e2,e3,e4,Ai]
 rw[hf];simp[fB,pV];refine gI c.feasts.length (λk=>wi ((c.feasts.getD k 0).tdiv 100) 1 12&&wi ((c.feasts.getD k 0).tmod 100) 1 31) (λk=>[.bool false,.int k]) (λ_=>[]) ?_ (λk hk ho=>?_) (λk hk ho hb=>?_) (λhj=>?_)
 .simp
 .have hw:=bx hk h2;have hI:=hi _ (bU hk);have hq:i64.wrap (c.feasts[k].tdiv 100)=c.feasts[k].tdiv 100:=ajQ hI;simp[hk] at ho;simp[VY,Hw,hk,ints,hq];refine⟨_,cT _ _ _,?_⟩;simp[ho.1,hk];refine⟨_,cT _ _ _,?_⟩;simp[ho.2,hk,hw]
 .have hI:=hi _ (bU hk);have hq:i64.wrap (c.feasts[k].tdiv 100)=c.feasts[k].tdiv 100:=ajQ hI;simp[hk] at ho;simp only[aE] at hb;rw[hb];simp[VY,Hw,hk,ints,hq];refine⟨_,cT _ _ _,?_⟩;cases e3:wi (c.feasts[k].tdiv 100) 1 12 with
  |false=>simp
  |true=>
   have:=ho e3;simp[hk];refine⟨_,cT _ _ _,?_⟩;simp[this]
 .simp only[aE] at hj;rw[hj];simp[VY,Hw];refine⟨_,VB _ _ _ h1,?_⟩;simp;cases e3:rising c.rest 0 6<;>simp;refine⟨_,VB _ _ _ h2,?_⟩;simp;cases e4:rising c.feasts 0 2000<;>simp;exact VB _ _ _ h3
def alR (r:Realm)(c:City):rf r c=pO r c:=by
 rw[ui];have bO:∀(i:Int) (n:Nat),(wi i 0 (n-1)=true)↔(aC i n=true):=by intro i n;simp[wi,aC];omega
 simp only[rf,pO,ao,decide_eq_true_eq,bO,rising,xY,qE];constructor
 .rintro⟨⟨⟨⟨⟨a1,a2⟩,a3⟩,a4⟩,a5⟩,⟨a6,a7⟩,a8⟩;refine⟨⟨λk hk=>(a5 k hk).2,⟨⟨⟨a3,a4⟩,a1⟩,a2⟩⟩,⟨a6,λk hk=>?_⟩,a8⟩;have h1:=a5 k hk;have h2:=a7 k hk;simp[wi,ajA,Xc] at h1 h2 ⊢;split at h1<;>omega
 .rintro⟨⟨a5,⟨⟨⟨a3,a4⟩,a1⟩,a2⟩⟩,⟨a6,a7⟩,a8⟩;refine⟨⟨⟨⟨⟨a1,a2⟩,a3⟩,a4⟩,λk hk=>?_⟩,⟨a6,λk hk=>?_⟩,a8⟩
  .have h1:=a5 k hk;have h2:=a7 k hk;simp[wi,ajA,Xc] at h1 h2 ⊢;split at h1<;>(try split)<;>omega
  .have h2:=a7 k hk;simp[wi] at h2 ⊢;omega
def Dz {α β:Type}(f:α->β){l:List α}{k:Nat}(h:k<l.length):(l.take (k+1)).map f=(l.take k).map f++[f l[k]]:=by
 rw[jn h,nR];rfl
def oR (i:Int)(n:Nat):aC i n=wi i 0 ((n:Int)-1):=by
 rw[ui];simp[wi,aC];omega
def AB (o:Order):List Int:=o.choices.map (·.ask)
def D7 (o:Order):List Int:=o.rules.map (·.ask)
def sc (o:Order):Bool:=eT o.choices.length (λk=>aC (o.choices.getD k default).by_ 5)&&(rising (AB o) 0 21&&rising (D7 o) 0 21)
def awA (o:Order)(h1:o.choices.length<=100000)(h2:o.rules.length<=100000):ah T 138 [kq o] (.bool (sc o)):=by
 refine zyw 79 azx ?_;simp[YO];refine gI o.choices.length (λk=>aC (o.choices.getD k default).by_ 5) (λk=>[.bool false,.none,.int k]) (λk=>[ints ((o.choices.take k).map (·.ask))]) ?_ (λk hk ho=>?_) (λk hk ho hb=>?_) (λhj=>?_)
 .simp[ints]
 .have hw:=bx hk (by omega);have hl:(o.choices.take k).length=k:=by rw[dO];omega
  simp[hk] at ho;rw[Dz _ hk];simp[Wh,HV,hk,hw,ints,hl];refine⟨by omega,_,gf _ _,?_⟩;simp[ho,hw]
 .have hf:sc o=false:=by simp only[sc,hb,sI]
  have hl:(o.choices.take k).length=k:=by rw[dO];omega
  simp[hk] at ho;simp[Wh,HV,hk,ints,hl,hf];refine⟨by omega,_,gf _ _,?_⟩;simp[ho]
 .have hf:sc o=(rising (AB o) 0 21&&rising (D7 o) 0 21):=by simp only[sc,hj,Ai]
  rw[hf];simp[Wh,HV];refine aO.forRounds o.rules.length (λk=>[.none,.int k]) (λk=>[ints ((o.rules.take k).map (·.ask))]) ?_ (λk hk=>?_) ?_
  .simp[ints]
  .have hw:=bx hk (by omega);have hl:(o.rules.take k).length=k:=by rw[dO];omega
   rw[Dz _ hk];simp[aiK,N9,hk,hw,ints,hl];omega
  .simp[aiK,N9];refine⟨_,Ij (AB o) _ _ (by simp[AB];omega),?_⟩;simp;cases e1:rising (AB o) 0 21<;>simp;exact Ij (D7 o) _ _ (by simp[D7];omega)
def zw (o:Order)(k:Nat):Bool:=wi (o.choices.getD k default).ask 0 21&&wi (o.choices.getD k default).by_ 0 4&&(k==0||decide ((o.choices.getD (k-1) default).ask<(o.choices.getD k default).ask))
def CQ (o:Order)(k:Nat):Bool:=wi (o.rules.getD k default).ask 0 21&&(k==0||decide ((o.rules.getD (k-1) default).ask<(o.rules.getD k default).ask))
def au6 (o:Order):(eT o.choices.length (zw o)&&eT o.rules.length (CQ o))=sc o:=by
 rw[ui];simp only[sc,ao,rising,xY,AB,D7,ef];have g1:∀k,k<o.choices.length->(qE (o.choices.map (·.ask)) 0 21 k=true↔wi (o.choices.getD k default).ask 0 21=true/\(k=0\/(o.choices.getD (k-1) default).ask<(o.choices.getD k default).ask)):=by
  intro k hk;have bD:k-1<o.choices.length:=by omega
  simp[qE,hk,bD]
 have g2:∀k,k<o.rules.length->(qE (o.rules.map (·.ask)) 0 21 k=true↔wi (o.rules.getD k default).ask 0 21=true/\(k=0\/(o.rules.getD (k-1) default).ask<(o.rules.getD k default).ask)):=by
  intro k hk;have bD:k-1<o.rules.length:=by omega
  simp[qE,hk,bD]
 constructor
 .rintro⟨a,b⟩;refine⟨λk hk=>?_,λk hk=>(g1 k hk).2 ?_,λk hk=>(g2 k hk).2 ?_⟩
  .have:=a k hk;simp[zw,wi,aC] at this ⊢;omega
  .have:=a k hk;simp[zw] at this ⊢;exact⟨this.1.1,this.2⟩
  .have:=b k hk;simp[CQ] at this ⊢;exact this
 .rintro⟨c,a,b⟩;refine⟨λk hk=>?_,λk hk=>?_⟩
  .have h1:=(g1 k hk).1 (a k hk);have h2:=c k hk;simp[zw,wi,aC] at h1 h2 ⊢;omega
  .have h1:=(g2 k hk).1 (b k hk);simp[CQ] at h1 ⊢;exact h1
def avW (o:Order)(h1:o.choices.length<=100000)(h2:o.rules.length<=100000):ah T 93 [kq o] (.bool (sc o)):=by
 rw[<-au6];refine zyw 136 ay7 ?_;simp[Yn];refine gI o.choices.length (zw o) (λk=>[.bool false,.int k]) (λ_=>[]) ?_ (λk hk ho=>?_) (λk hk ho hb=>?_) (λhj=>?_)
 .simp
 .have hw:=bx hk (by omega);simp[zw,hk] at ho;simp[VZ,Hx,hk];refine⟨_,cT _ _ _,?_⟩;simp[ho.1.1,hk];refine⟨_,cT _ _ _,?_⟩;by_cases gW:0<k
  .have bD:k-1<o.choices.length:=by omega
   have cZ:i64.wrap ((k:Int)-1)=((k-1:Nat):Int):=by rw[xB (by omega)];omega
   have h3:¬o.choices[k].ask<=o.choices[k-1].ask:=by
        rcases ho.2 with h3|h3
        .omega
        .simp[bD] at h3;omega
   simp[ho.1.2,hk,hw,cZ,h3,gW,bD]
  .simp[ho.1.2,hk,hw,gW];omega
 .rw[hb];simp[zw,hk] at ho;simp[VZ,Hx,hk];refine⟨_,cT _ _ _,?_⟩;cases e1:wi o.choices[k].ask 0 21 with
  |false=>simp
  |true=>
   simp[hk];refine⟨_,cT _ _ _,?_⟩;cases e2:wi o.choices[k].by_ 0 4 with
   |false=>simp
   |true=>
    have h3:=ho e1 e2;have gW:0<k:=by omega
    have bD:k-1<o.choices.length:=by omega
    have cZ:i64.wrap ((k:Int)-1)=((k-1:Nat):Int):=by rw[xB (by omega)];omega
    have fD:=h3.2;simp[bD] at fD;simp[hk,cZ,fD,gW,bD]
 .rw[hj];simp[VZ,Hx];refine gI o.rules.length (CQ o) (λk=>[.bool false,.int k]) (λ_=>[]) ?_ (λk hk ho=>?_) (λk hk ho hb=>?_) (λhj=>?_)
  .simp
  .have hw:=bx hk (by omega);simp[CQ,hk] at ho;simp[V0,Hy,hk];refine⟨_,cT _ _ _,?_⟩;by_cases gW:0<k
   .have bD:k-1<o.rules.length:=by omega
    have cZ:i64.wrap ((k:Int)-1)=((k-1:Nat):Int):=by rw[xB (by omega)];omega
    have h3:¬o.rules[k].ask<=o.rules[k-1].ask:=by
       rcases ho.2 with h3|h3
       .omega
       .simp[bD] at h3;omega
    simp[ho.1,hk,hw,cZ,h3,gW,bD]
   .simp[ho.1,hk,hw,gW];omega
  .rw[hb];simp[CQ,hk] at ho;simp[V0,Hy,hk];refine⟨_,cT _ _ _,?_⟩;cases e1:wi o.rules[k].ask 0 21 with
   |false=>simp
   |true=>
    have h3:=ho e1;have gW:0<k:=by omega
    have bD:k-1<o.rules.length:=by omega
    have cZ:i64.wrap ((k:Int)-1)=((k-1:Nat):Int):=by rw[xB (by omega)];omega
    have fD:=h3.2;simp[bD] at fD;simp[hk,cZ,fD,gW,bD]
  .rw[hj];simp[V0,Hy]
def fL (r:Realm):List ByteArray:=r.cities.map (·.name)
def eY (r:Realm):List ByteArray:=r.firms.map (·.name)
def eZ (r:Realm):List ByteArray:=r.orders.map (·.name)
def awz (r:Realm)(h1:r.cities.length<=100000)(h2:r.firms.length<=100000)(h3:r.orders.length<=100000):ah T 130 [aP r] (.tup [strs (fL r),strs (eY r),strs (eZ r)]):=by
 refine zyw 67 azw ?_;simp[YN];refine aO.forRounds r.cities.length (λk=>[.none,.int k]) (λk=>[strs ((r.cities.take k).map (·.name))]) ?_ (λk hk=>?_) ?_
 .simp[strs]
 .have hw:=bx hk (by omega);have hl:(r.cities.take k).length=k:=by rw[dO];omega
  rw[Dz _ hk];simp[aiH,N6,hk,hw,strs,hl];omega
 .simp[aiH,N6];refine aO.forRounds r.firms.length (λk=>[.none,.int k]) (λk=>[strs ((r.firms.take k).map (·.name))]) ?_ (λk hk=>?_) ?_
  .simp[strs]
  .have hw:=bx hk (by omega);have hl:(r.firms.take k).length=k:=by rw[dO];omega
   rw[Dz _ hk];simp[aiI,N7,hk,hw,strs,hl];omega
  .simp[aiI,N7];refine aO.forRounds r.orders.length (λk=>[.none,.int k]) (λk=>[strs ((r.orders.take k).map (·.name))]) ?_ (λk hk=>?_) ?_
   .simp[strs]
   .have hw:=bx hk (by omega);have hl:(r.orders.take k).length=k:=by rw[dO];omega
    rw[Dz _ hk];simp[aiJ,N8,hk,hw,strs,hl];omega
   .simp[aiJ,N8,fL,eY,eZ]
structure Small (r:Realm):Prop where
 cur:r.currencies.length<=1000
 cities:r.cities.length<=1000
 groups:r.groups.length<=1000
 firms:r.firms.length<=1000
 orders:r.orders.length<=1000
 us:r.usances.length<=1000
 rates:r.rates.length<=1000
 halts:r.halts.length<=1000
 city:∀c,c∈r.cities->c.rest.length<=1000/\c.feasts.length<=1000/\c.shut.length<=1000/\∀y,y∈c.feasts->ba y
 order:∀o,o∈r.orders->o.choices.length<=1000/\o.rules.length<=1000
 rate:∀x,x∈r.rates->ba x.num/\ba x.den
def mJ (r:Realm)(k j:Nat):Bool:=(r.usances.getD j default).fr !=(r.usances.getD k default).fr||(r.usances.getD j default).to !=(r.usances.getD k default).to
def Aa (r:Realm)(k:Nat):Int:=
 if(aC (r.usances.getD k default).fr r.cities.length&&aC (r.usances.getD k default).to r.cities.length&&wi (r.usances.getD k default).days 1 20000)=false then 1 else if eT k (mJ r k) then 0 else 5
def xq (r:Realm):Int:=if 100<r.usances.length then 6 else fU r.usances.length (Aa r)
def awC (r:Realm)(h:Small r):ah T 139 [aP r] (.int (xq r)):=by
 refine zyw 80 azA ?_;have hu:=h.us;simp[YR,xq];by_cases h0:100<r.usances.length
 .have gq:(100:Int)<r.usances.length:=by omega
  have yy:¬r.usances.length<=100:=by omega
  simp[h0,gq,yy]
 have gq:¬(100:Int)<r.usances.length:=by omega
 simp[h0,gq];refine qG r.usances.length (Aa r) (λk=>[.int 0,.int k]) (λ_=>[]) ?_ (λk hk ho=>?_) (λk hk ho hb=>?_) (λhj=>?_)
 .simp
 .have hw:=bx hk (by omega);have ha:aC r.usances[k].fr r.cities.length=true/\aC r.usances[k].to r.cities.length=true/\wi r.usances[k].days 1 20000=true/\eT k (mJ r k)=true:=by
   unfold Aa at ho;simp only[aE,aU hk,kM] at ho;cases e1:aC r.usances[k].fr r.cities.length<;>cases e2:aC r.usances[k].to r.cities.length<;>cases e3:wi r.usances[k].days 1 20000<;>cases e4:eT k (mJ r k)<;>simp[e1,e2,e3,e4] at ho ⊢
  obtain⟨a1,a2,a3,a4⟩:=ha;simp[wi] at a3;have a5:¬r.usances[k].days<1:=by omega
  have a6:¬20000<r.usances[k].days:=by omega
  simp[Wk,HY,hk];refine⟨_,gf _ _,?_⟩;simp[a1];refine⟨_,gf _ _,?_⟩;simp[a2,a5,a6];refine⟨by omega,gI k (mJ r k) (λj=>[.int 0,.int j]) (λ_=>[]) ?_ (λj hj fI=>?_) (λj hj fI de=>?_) (λtn=>?_)⟩
  .simp
  .have y7:=bx hj (by omega);have bC:j<r.usances.length:=by omega
   have hm:j<min k r.usances.length:=by omega
   simp[mJ,bC,hk] at fI;simp[Oa,Dj,hj,bC,hk,y7,hm];intro e e';rcases fI with h|h
   .exact absurd e h
   .exact absurd e' h
  .rw[a4] at de;cases de
  .simp[Oa,Dj,hw];omega
 .simp[Wk,HY,hk,hb];refine⟨_,gf _ _,?_⟩;unfold Aa at ho ⊢;simp only[aE,aU hk,kM] at ho ⊢;cases e1:aC r.usances[k].fr r.cities.length
  .simp
  simp;refine⟨_,gf _ _,?_⟩;cases e2:aC r.usances[k].to r.cities.length
  .simp
  cases e3:wi r.usances[k].days 1 20000
  .simp[wi] at e3;by_cases g:r.usances[k].days<1
   .simp[g]
   .simp[g,e3 (by omega)]
  have EK:=e3;simp[wi] at EK;have a5:¬r.usances[k].days<1:=by omega
  have a6:¬20000<r.usances[k].days:=by omega
  simp[e1,e2,e3] at ho;simp[a5,a6];refine⟨by omega,gI k (mJ r k) (λj=>[.int 0,.int j]) (λ_=>[]) ?_ (λj hj fI=>?_) (λj hj fI de=>?_) (λtn=>?_)⟩
  .simp
  .have y7:=bx hj (by omega);have bC:j<r.usances.length:=by omega
   have hm:j<min k r.usances.length:=by omega
   simp[mJ,bC,hk] at fI;simp[Oa,Dj,hj,bC,hk,y7,hm];intro e e';rcases fI with h|h
   .exact absurd e h
   .exact absurd e' h
  .have bC:j<r.usances.length:=by omega
   have hm:j<min k r.usances.length:=by omega
   simp[mJ,bC,hk] at fI;simp[Oa,Dj,hj,bC,hk,ho,hm]
   first|exact fI|simp[fI]
  .rw[tn] at ho;cases ho
 .simp[Wk,HY,hj]
def av1 (r:Realm)(h:Small r):ah T 55 [aP r] (.int (xq r)):=by
 refine zyw 137 azf ?_;have hu:=h.us;have hc:=h.cities;simp[Yv,xq];by_cases h0:100<r.usances.length
 .have gq:(100:Int)<r.usances.length:=by omega
  have yy:¬r.usances.length<=100:=by omega
  simp[h0,gq,yy]
 have gq:¬(100:Int)<r.usances.length:=by omega
 simp[h0,gq];refine qG r.usances.length (Aa r) (λk=>[.int 0,.int k]) (λ_=>[]) ?_ (λk hk ho=>?_) (λk hk ho hb=>?_) (λhj=>?_)
 .simp
 .have hw:=bx hk (by omega);have ha:aC r.usances[k].fr r.cities.length=true/\aC r.usances[k].to r.cities.length=true/\wi r.usances[k].days 1 20000=true/\eT k (mJ r k)=true:=by
   unfold Aa at ho;simp only[aE,aU hk,kM] at ho;cases e1:aC r.usances[k].fr r.cities.length<;>cases e2:aC r.usances[k].to r.cities.length<;>cases e3:wi r.usances[k].days 1 20000<;>cases e4:eT k (mJ r k)<;>simp[e1,e2,e3,e4] at ho ⊢
  obtain⟨a1,a2,a3,a4⟩:=ha;rw[oR] at a1 a2;simp[V9,HL,hk,ug _ (show r.cities.length<=4294967296 by omega)];refine⟨_,cT _ _ _,?_⟩;simp[a1,ug _ (show r.cities.length<=4294967296 by omega)];refine⟨_,cT _ _ _,?_⟩;simp[a2];refine⟨_,cT _ _ _,?_⟩;simp[a3];refine gI k (mJ r k) (λj=>[.int 0,.int j]) (λ_=>[]) ?_ (λj hj fI=>?_) (λj hj fI de=>?_) (λtn=>?_)
  .simp
  .have y7:=bx hj (by omega);have bC:j<r.usances.length:=by omega
   simp[mJ,bC,hk] at fI;simp[N4,Dg,hj,bC,hk,y7];intro e e';rcases fI with h|h
   .exact absurd e h
   .exact absurd e' h
  .rw[a4] at de;cases de
  .simp[N4,Dg,hw]
 .simp[V9,HL,hk,hb,ug _ (show r.cities.length<=4294967296 by omega)];refine⟨_,cT _ _ _,?_⟩;unfold Aa at ho ⊢;simp only[aE,aU hk,kM,oR] at ho ⊢;cases e1:wi r.usances[k].fr 0 ((r.cities.length:Int)-1)
  .simp
  simp[ug _ (show r.cities.length<=4294967296 by omega)];refine⟨_,cT _ _ _,?_⟩;cases e2:wi r.usances[k].to 0 ((r.cities.length:Int)-1)
  .simp
  simp;refine⟨_,cT _ _ _,?_⟩;cases e3:wi r.usances[k].days 1 20000
  .simp
  simp[e1,e2,e3] at ho;simp;refine gI k (mJ r k) (λj=>[.int 0,.int j]) (λ_=>[]) ?_ (λj hj fI=>?_) (λj hj fI de=>?_) (λtn=>?_)
  .simp
  .have y7:=bx hj (by omega);have bC:j<r.usances.length:=by omega
   simp[mJ,bC,hk] at fI;simp[N4,Dg,hj,bC,hk,y7];intro e e';rcases fI with h|h
   .exact absurd e h
   .exact absurd e' h
  .have bC:j<r.usances.length:=by omega
   simp[mJ,bC,hk] at fI;simp[N4,Dg,hj,bC,hk,ho]
   first|exact fI|simp[fI]
  .rw[tn] at ho;cases ho
 .simp[V9,HL,hj]
def zP (r:Realm)(k:Nat):Bool:=aC (r.rates.getD k default).fr r.currencies.length&&aC (r.rates.getD k default).to r.currencies.length&&((r.rates.getD k default).fr !=(r.rates.getD k default).to)&&
 wi (r.rates.getD k default).num 1 1073741824&&wi (r.rates.getD k default).den 1 1073741824&&wi (r.rates.getD k default).since 0 100000
def vU (r:Realm)(k:Nat):Bool:=aC (r.halts.getD k default).order r.orders.length&&wi (r.halts.getD k default).fr 0 (r.halts.getD k default).to&&decide ((r.halts.getD k default).to<=100000)
def qD (r:Realm):Int:=if 100<r.rates.length then 6 else if eT r.rates.length (zP r)=false then 1 else if 20<r.halts.length then 6 else if eT r.halts.length (vU r) then 0 else 1
def Mh {n:Int}(h:ba n)(m:Int)(hm:0<=m/\m<=4294967296):aC (i64.wrap (n-1)) m=wi n 1 m:=by
 unfold ba at h;by_cases e:n=-9223372036854775808
 .subst e;have:i64.wrap (-9223372036854775808-1)=9223372036854775807:=by decide
  rw[this,ui];simp[aC,wi];omega
 .rw[aQ (by omega),ui];simp[aC,wi];omega
def aen (n:Int):aC n 100001=wi n 0 100000:=by rw[ui];simp[aC,wi];omega
def awB (r:Realm)(h:Small r):ah T 140 [aP r] (.int (qD r)):=by
 refine zyw 81 azy ?_;have hu:=h.rates;have hh:=h.halts;simp[YP,qD];by_cases h0:100<r.rates.length
 .have gq:(100:Int)<r.rates.length:=by omega
  have yy:¬r.rates.length<=100:=by omega
  simp[h0,gq,yy]
 have gq:¬(100:Int)<r.rates.length:=by omega
 simp[h0,gq];have key:∀k (hk:k<r.rates.length),∀{O:Env} {Q:Out->Prop},True:=λ_ _ _ _=>trivial;refine gI r.rates.length (zP r) (λk=>[.int 0,.int k]) (λ_=>[]) ?_ (λk hk ho=>?_) (λk hk ho hb=>?_) (λhj=>?_)
 .simp
 .have hw:=bx hk (by omega);have hI:=h.rate _ (bU hk);simp[zP,hk] at ho;obtain⟨⟨⟨⟨⟨a1,a2⟩,a3⟩,a4⟩,a5⟩,a6⟩:=ho;simp[Wi,HW,hk];refine⟨_,gf _ _,?_⟩;simp[a1];refine⟨_,gf _ _,?_⟩;simp[a2,a3];refine⟨_,gf _ _,?_⟩;simp[Mh hI.1,a4];refine⟨_,gf _ _,?_⟩;simp[Mh hI.2,a5];refine⟨_,gf _ _,?_⟩;simp[aen,a6,hw]
 .have hI:=h.rate _ (bU hk);rw[hb];simp[zP,hk] at ho;simp[Wi,HW,hk];refine⟨_,gf _ _,?_⟩;cases e1:aC r.rates[k].fr r.currencies.length
  .simp
  simp;refine⟨_,gf _ _,?_⟩;cases e2:aC r.rates[k].to r.currencies.length
  .simp
  by_cases e3:r.rates[k].fr=r.rates[k].to
  .simp[e3]
  simp[e3];refine⟨_,gf _ _,?_⟩;rw[Mh hI.1 _ (by omega)];cases e4:wi r.rates[k].num 1 1073741824
  .simp
  simp;refine⟨_,gf _ _,?_⟩;rw[Mh hI.2 _ (by omega)];cases e5:wi r.rates[k].den 1 1073741824
  .simp
  simp;refine⟨_,gf _ _,?_⟩;rw[aen];simp[ho e1 e2 e3 e4 e5]
 .rw[hj];simp[Wi,HW];by_cases h1:20<r.halts.length
  .have cw:(20:Int)<r.halts.length:=by omega
   have Rz:¬r.halts.length<=20:=by omega
   simp[h1,cw,Rz]
  have cw:¬(20:Int)<r.halts.length:=by omega
  simp[h1,cw];refine gI r.halts.length (vU r) (λk=>[.int 0,.int k]) (λ_=>[]) ?_ (λk hk ho=>?_) (λk hk ho hb=>?_) (λhj=>?_)
  .simp
  .have hw:=bx hk (by omega);simp[vU,wi,hk] at ho;obtain⟨⟨a1,a2⟩,a3⟩:=ho;have b1:¬r.halts[k].fr<0:=by omega
   have b2:¬r.halts[k].to<r.halts[k].fr:=by omega
   have b3:¬100000<r.halts[k].to:=by omega
   simp[Wj,HX,hk];refine⟨_,gf _ _,?_⟩;simp[a1,b1,b2,b3,hw]
  .rw[hb];simp[vU,wi,hk] at ho;simp[Wj,HX,hk];refine⟨_,gf _ _,?_⟩;cases e1:aC r.halts[k].order r.orders.length
   .simp
   have:=ho e1;by_cases b1:r.halts[k].fr<0
   .simp[b1]
   by_cases b2:r.halts[k].to<r.halts[k].fr
   .simp[b1,b2]
   have b3:100000<r.halts[k].to:=this (by omega) (by omega);simp[b1,b2,b3]
  .rw[hj];simp[Wj,HX]
def av0 (r:Realm)(h:Small r):ah T 56 [aP r] (.int (qD r)):=by
 refine zyw 138 aze ?_;have hu:=h.rates;have hh:=h.halts;have hc:=ug r.currencies.length (by have:=h.cur;omega);have L2:=ug r.orders.length (by have:=h.orders;omega);simp[Yu,qD];by_cases h0:100<r.rates.length
 .have gq:(100:Int)<r.rates.length:=by omega
  have yy:¬r.rates.length<=100:=by omega
  simp[h0,gq,yy]
 have gq:¬(100:Int)<r.rates.length:=by omega
 simp[h0,gq];refine gI r.rates.length (zP r) (λk=>[.int 0,.int k]) (λ_=>[]) ?_ (λk hk ho=>?_) (λk hk ho hb=>?_) (λhj=>?_)
 .simp
 .have hw:=bx hk (by omega);simp[zP,hk,oR] at ho;obtain⟨⟨⟨⟨⟨a1,a2⟩,a3⟩,a4⟩,a5⟩,a6⟩:=ho;simp[V7,HI,hk,hc];refine⟨_,cT _ _ _,?_⟩;simp[a1,hc];refine⟨_,cT _ _ _,?_⟩;simp[a2,a3];refine⟨_,cT _ _ _,?_⟩;simp[a4];refine⟨_,cT _ _ _,?_⟩;simp[a5];refine⟨_,cT _ _ _,?_⟩;simp[a6,hw]
 .rw[hb];simp[zP,hk,oR] at ho;simp[V7,HI,hk,hc];refine⟨_,cT _ _ _,?_⟩;cases e1:wi r.rates[k].fr 0 ((r.currencies.length:Int)-1)
  .simp
  simp[hc];refine⟨_,cT _ _ _,?_⟩;cases e2:wi r.rates[k].to 0 ((r.currencies.length:Int)-1)
  .simp
  by_cases e3:r.rates[k].fr=r.rates[k].to
  .simp[e3]
  simp[e3];refine⟨_,cT _ _ _,?_⟩;cases e4:wi r.rates[k].num 1 1073741824
  .simp
  simp;refine⟨_,cT _ _ _,?_⟩;cases e5:wi r.rates[k].den 1 1073741824
  .simp
  simp;refine⟨_,cT _ _ _,?_⟩;simp[ho e1 e2 e3 e4 e5]
 .rw[hj];simp[V7,HI];by_cases h1:20<r.halts.length
  .have cw:(20:Int)<r.halts.length:=by omega
   have Rz:¬r.halts.length<=20:=by omega
   simp[h1,cw,Rz]
  have cw:¬(20:Int)<r.halts.length:=by omega
  simp[h1,cw];refine gI r.halts.length (vU r) (λk=>[.int 0,.int k]) (λ_=>[]) ?_ (λk hk ho=>?_) (λk hk ho hb=>?_) (λhj=>?_)
  .simp
  .have hw:=bx hk (by omega);simp[vU,hk,oR] at ho;obtain⟨⟨a1,a2⟩,a3⟩:=ho;have b3:¬100000<r.halts[k].to:=by omega
   simp[V8,HJ,hk,L2];refine⟨_,cT _ _ _,?_⟩;simp[a1];refine⟨_,cT _ _ _,?_⟩;simp[a2,b3,hw]
  .rw[hb];simp[vU,hk,oR] at ho;simp[V8,HJ,hk,L2];refine⟨_,cT _ _ _,?_⟩;cases e1:wi r.halts[k].order 0 ((r.orders.length:Int)-1)
   .simp
   simp;refine⟨_,cT _ _ _,?_⟩;cases e2:wi r.halts[k].fr 0 r.halts[k].to
   .simp
   simp[ho e1 e2]
  .rw[hj];simp[V8,HJ]
def fm:List Int->Int
 |[]=>0
 |x::l=>if x=0 then fm l else x
def Ov:∀{l:List Int},fm l=0↔∀x,x∈l->x=0
 |[]=>by simp[fm]
 |x::l=>by
  simp only[fm,cB,forall_eq_or_imp];by_cases h:x=0
  .simp[h,Ov (l:=l)]
  .simp[h]
def oB (r:Realm)(i:Nat):Bool:=aC (r.firms.getD i default).city r.cities.length&&aC (r.firms.getD i default).group r.groups.length
def re (r:Realm)(i:Nat):Bool:=pO r (r.cities.getD i default)
def oX (r:Realm)(i:Nat):Bool:=sc (r.orders.getD i default)
def vQ (r:Realm)(i:Nat):Bool:=aC (r.groups.getD i default).grade 10
def s9 (r:Realm):Int:=if 20<r.groups.length then 6 else if eT r.groups.length (vQ r) then 0 else 1
def iw (r:Realm):Int:=fm [eN r.currencies 8 (λ_=>true),eN (fL r) 40 (re r),s9 r,eN (eY r) 200 (oB r),eN (eZ r) 20 (oX r),xq r,qD r]
def alH (i:Int):ah T 132 [.int i] (.bool true):=by
 refine zyw 73 azl ?_;simp[YC]
def alI (r:Realm)(h:Small r)(i:Nat)(hi:i<r.cities.length):ah T 133 [.int i,.ref (aP r)] (.bool (re r i)):=by
 refine zyw 74 azm ?_;obtain⟨h1,h2,h3,h4⟩:=h.city _ (bU hi);simp[YD,hi,re];exact awv r r.cities[i] (by omega) (by omega) (by omega)
def alJ (r:Realm)(i:Nat)(hi:i<r.firms.length):ah T 136 [.int i,.ref (aP r)] (.bool (oB r i)):=by
 refine zyw 77 azn ?_;simp[YE,hi,oB];refine⟨_,gf _ _,?_⟩;simp[hi];cases e1:aC r.firms[i].city r.cities.length<;>simp;exact gf _ _
def alK (r:Realm)(h:Small r)(i:Nat)(hi:i<r.orders.length):ah T 137 [.int i,.ref (aP r)] (.bool (oX r i)):=by
 refine zyw 78 azo ?_;obtain⟨h1,h2⟩:=h.order _ (bU hi);simp[YG,hi,oX];exact awA r.orders[i] (by omega) (by omega)
def Oi (r:Realm)(h:Small r):ah T 94 [aP r] (.int (iw r)):=by
 refine zyw 66 azp ?_;have g1:=h.cur;have g2:=h.cities;have g3:=h.firms;have g4:=h.orders;have g5:=h.groups;simp[YB];refine⟨_,awz r (by omega) (by omega) (by omega),?_⟩;simp;refine⟨_,Oj r.currencies 8 132 [] (λ_=>true) (λi _=>alH _) (by omega),?_⟩;unfold iw;generalize e1:eN r.currencies 8 (λ_=>true)=x1;by_cases z1:x1=0
 case neg=>simp[z1,fm]
 simp[z1,fm];refine⟨_,Oj (fL r) 40 133 [.ref (aP r)] (re r) (λi hi=>alI r h i (by simpa [fL] using hi)) (by simp[fL];omega),?_⟩;generalize e2:eN (fL r) 40 (re r)=x2;by_cases z2:x2=0
 case neg=>simp[z2]
 simp[z2];by_cases z3:20<r.groups.length
 .have Z9:(20:Int)<r.groups.length:=by omega
  simp[Z9,s9,z3]
 have Z9:¬(20:Int)<r.groups.length:=by omega
 simp[Z9,s9,z3];refine gI r.groups.length (vQ r) (λk=>[.int 0,.int k]) (λ_=>[]) ?_ (λk hk ho=>?_) (λk hk ho hb=>?_) (λhj=>?_)
 .simp
 .have hw:=bx hk (by omega);simp[vQ,hk] at ho;simp[Wd,HQ,hk];refine⟨_,gf _ _,?_⟩;simp[ho,hw]
 .simp[vQ,hk] at ho;rw[hb];simp[Wd,HQ,hk];refine⟨_,gf _ _,?_⟩;simp[ho]
 .rw[hj];simp[Wd,HQ];refine⟨_,Oj (eY r) 200 136 [.ref (aP r)] (oB r) (λi hi=>alJ r i (by simpa [eY] using hi)) (by simp[eY];omega),?_⟩;generalize e4:eN (eY r) 200 (oB r)=x4;by_cases z4:x4=0
  case neg=>simp[z4]
  simp[z4];refine⟨_,Oj (eZ r) 20 137 [.ref (aP r)] (oX r) (λi hi=>alK r h i (by simpa [eZ] using hi)) (by simp[eZ];omega),?_⟩;generalize e5:eN (eZ r) 20 (oX r)=x5;by_cases z5:x5=0
  case neg=>simp[z5]
  simp[z5];refine⟨_,awC r h,?_⟩;generalize e6:xq r=x6;by_cases z6:x6=0
  case neg=>simp[z6]
  simp[z6];have e7:(if qD r=0 then 0 else qD r)=qD r:=by split<;>simp_all
  rw[e7];exact awB r h
def anZ (l:List ByteArray)(k:Nat):kO l (λ_=>true) k=iL l k:=by
 unfold kO;by_cases h:iL l k=0<;>simp[h]
def BP {l:List ByteArray}{g:Nat->Bool}{k:Nat}(h:kO l g k=0):iL l k=0/\g k=true:=by
 unfold kO at h;by_cases h1:iL l k=0
 .simp[h1] at h;exact⟨h1,h⟩
 .simp[h1] at h
def Rn {l:List ByteArray}{g:Nat->Bool}{k:Nat}(h:kO l g k≠0):(iL l k≠0/\kO l g k=iL l k)\/(iL l k=0/\g k=false/\kO l g k=1):=by
 unfold kO at h ⊢;by_cases h1:iL l k=0
 .simp[h1] at h ⊢;simp[h]
 .simp[h1]
def avX (r:Realm)(h:Small r):ah T 52 [aP r] (.int (fm [eN r.currencies 8 (λ_=>true),eN (fL r) 40 (re r)])):=by
 refine zyw 126 aza ?_;have g1:=h.cur;have g2:=h.cities;have g4:=h.orders;simp[Yq];unfold eN;by_cases z1:(8:Int)<r.currencies.length
 .simp[z1,fm]
 simp[z1,fm];refine qG r.currencies.length (kO r.currencies (λ_=>true)) (λk=>[.int 0,.int k]) (λ_=>[]) ?_ (λk hk ho=>?_) (λk hk ho hb=>?_) (λhj=>?_)
 .simp
 .have hw:=bx hk (by omega);simp[V2,HA,hk];refine⟨_,Hc _ k hk (by omega),?_⟩;simp[(BP ho).1,hw]
 .rw[hb];simp[V2,HA,hk,ho];rw[anZ];exact Hc _ k hk (by omega)
 .rw[hj];simp[V2,HA];have hlen:(fL r).length=r.cities.length:=by simp[fL]
  rw[hlen];by_cases z2:(40:Int)<r.cities.length
  .simp[z2]
  simp[z2];have key:∀k (hk:k<r.cities.length),((fL r).take k).length=k/\D.list (List.take k (List.map str (fL r))++[str r.cities[k].name])=strs ((fL r).take (k+1))/\
     ah T 90 [strs ((fL r).take (k+1)),.int k] (.int (iL (fL r) k))/\ah T 91 [aP r,gT r.cities[k]] (.bool (re r k)):=by
   intro k hk;have bf:k<(fL r).length:=by omega
   have hg:(fL r)[k]=r.cities[k].name:=by simp[fL]
   have hs:(fL r).take (k+1)=(fL r).take k++[(fL r)[k]]:=jn bf;have hn:=Hc ((fL r).take (k+1)) k (by rw[dO];omega) (by rw[dO];omega);rw[TU _ _ _ (by omega)] at hn;obtain⟨c1,c2,c3,c4⟩:=h.city _ (bU hk);have hc:=avV r r.cities[k] (by omega) (by omega) (by omega) (by omega) (by omega) c4;rw[alR] at hc;exact⟨by rw[dO];omega,by rw[hs,hg];simp[strs],hn,by simpa [re,hk] using hc⟩
  refine qG r.cities.length (kO (fL r) (re r)) (λk=>[.int 0,.none,.int k]) (λk=>[strs ((fL r).take k)]) ?_ (λk hk ho=>?_) (λk hk ho hb=>?_) (λhj=>?_)
  .simp[strs]
  .have hw:=bx hk (by omega);obtain⟨hl,eh,hn,hc⟩:=key k hk;obtain⟨o1,o2⟩:=BP ho;rw[o1] at hn;rw[o2] at hc;simp[V3,HC,hk,hl,eh,axw];refine⟨by omega,_,hn,?_⟩;simp[hk];refine⟨_,hc,?_⟩;simp[hw]
  .rw[hb];obtain⟨hl,eh,hn,hc⟩:=key k hk;simp[V3,HC,hk,hl,eh,ho];refine⟨by omega,_,hn,?_⟩;rcases Rn ho with⟨o1,o2⟩|⟨o1,o2,o3⟩
   .simp[o1,o2]
   .rw[o2] at hc;simp[o1,o3,hk];refine⟨_,hc,?_⟩;simp
  .rw[hj];simp[V3,HC]
def avY (r:Realm)(h:Small r):ah T 53 [aP r] (.int (fm [s9 r,eN (eY r) 200 (oB r)])):=by
 refine zyw 134 azb ?_;have g1:=h.groups;have g2:=h.firms;have g3:=h.cities;have w3:=ug r.cities.length (by omega);have w1:=ug r.groups.length (by omega);simp[Yr];by_cases z1:20<r.groups.length
 .have Z8:(20:Int)<r.groups.length:=by omega
  simp[Z8,s9,z1,fm]
 have Z8:¬(20:Int)<r.groups.length:=by omega
 simp[Z8,s9,z1,fm];refine gI r.groups.length (vQ r) (λk=>[.int 0,.int k]) (λ_=>[]) ?_ (λk hk ho=>?_) (λk hk ho hb=>?_) (λhj=>?_)
 .simp
 .have hw:=bx hk (by omega);simp[vQ,hk] at ho;have e:wi r.groups[k].grade 0 9=aC r.groups[k].grade 10:=by rw[ui];simp[wi,aC];omega
  simp[V4,HE,hk];refine⟨_,cT _ _ _,?_⟩;simp[e,ho,hw]
 .simp[vQ,hk] at ho;have e:wi r.groups[k].grade 0 9=aC r.groups[k].grade 10:=by rw[ui];simp[wi,aC];omega
  rw[hb];simp[V4,HE,hk];refine⟨_,cT _ _ _,?_⟩;simp[e,ho]
 .rw[hj];simp[V4,HE];unfold eN;have hlen:(eY r).length=r.firms.length:=by simp[eY]
  rw[hlen];by_cases z2:(200:Int)<r.firms.length
  .simp[z2]
  simp[z2];have key:∀k (hk:k<r.firms.length),((eY r).take k).length=k/\D.list (List.take k (List.map str (eY r))++[str r.firms[k].name])=strs ((eY r).take (k+1))/\
     ah T 90 [strs ((eY r).take (k+1)),.int k] (.int (iL (eY r) k))/\oB r k=(wi r.firms[k].city 0 ((r.cities.length:Int)-1)&&wi r.firms[k].group 0 ((r.groups.length:Int)-1)):=by
   intro k hk;have bf:k<(eY r).length:=by omega
   have hg:(eY r)[k]=r.firms[k].name:=by simp[eY]
   have hs:(eY r).take (k+1)=(eY r).take k++[(eY r)[k]]:=jn bf;have hn:=Hc ((eY r).take (k+1)) k (by rw[dO];omega) (by rw[dO];omega);rw[TU _ _ _ (by omega)] at hn;exact⟨by rw[dO];omega,by rw[hs,hg];simp[strs],hn,by simp[oB,hk,oR]⟩
  refine qG r.firms.length (kO (eY r) (oB r)) (λk=>[.int 0,.none,.int k]) (λk=>[strs ((eY r).take k)]) ?_ (λk hk ho=>?_) (λk hk ho hb=>?_) (λhj=>?_)
  .simp[strs]
  .have hw:=bx hk (by omega);obtain⟨hl,eh,hn,hc⟩:=key k hk;obtain⟨o1,o2⟩:=BP ho;rw[o1] at hn;rw[o2] at hc;have hc':=Bool.and_eq_true_iff.1 hc.symm;simp[V5,HF,hk,hl,eh];refine⟨by omega,_,hn,?_⟩;simp[hk,w3];refine⟨_,cT _ _ _,?_⟩;simp[hc'.1,hk,w1];refine⟨_,cT _ _ _,?_⟩;simp[hc'.2,hw]
  .rw[hb];obtain⟨hl,eh,hn,hc⟩:=key k hk;simp[V5,HF,hk,hl,eh,ho];refine⟨by omega,_,hn,?_⟩;rcases Rn ho with⟨o1,o2⟩|⟨o1,o2,o3⟩
   .simp[o1,o2]
   .rw[o2] at hc;simp[o1,o3,hk,w3];refine⟨_,cT _ _ _,?_⟩;cases e1:wi r.firms[k].city 0 ((r.cities.length:Int)-1)
    .simp
    rw[e1,Ai] at hc;simp[hk,w1];refine⟨_,cT _ _ _,?_⟩;simp[<-hc]
  .rw[hj];simp[V5,HF]
def avZ (r:Realm)(h:Small r):ah T 54 [aP r] (.int (eN (eZ r) 20 (oX r))):=by
 refine zyw 135 azd ?_;have g2:=h.orders;simp[Yt];unfold eN;have hlen:(eZ r).length=r.orders.length:=by simp[eZ]
 rw[hlen];by_cases z2:(20:Int)<r.orders.length
 .simp[z2]
 simp[z2];have key:∀k (hk:k<r.orders.length),((eZ r).take k).length=k/\D.list (List.take k (List.map str (eZ r))++[str r.orders[k].name])=strs ((eZ r).take (k+1))/\
  ah T 90 [strs ((eZ r).take (k+1)),.int k] (.int (iL (eZ r) k))/\ah T 93 [kq r.orders[k]] (.bool (oX r k)):=by
  intro k hk;have bf:k<(eZ r).length:=by omega
  have hg:(eZ r)[k]=r.orders[k].name:=by simp[eZ]
  have hs:(eZ r).take (k+1)=(eZ r).take k++[(eZ r)[k]]:=jn bf;have hn:=Hc ((eZ r).take (k+1)) k (by rw[dO];omega) (by rw[dO];omega);rw[TU _ _ _ (by omega)] at hn;obtain⟨c1,c2⟩:=h.order _ (bU hk);exact⟨by rw[dO];omega,by rw[hs,hg];simp[strs],hn,by simpa [oX,hk] using avW r.orders[k] (by omega) (by omega)⟩
 refine qG r.orders.length (kO (eZ r) (oX r)) (λk=>[.int 0,.none,.int k]) (λk=>[strs ((eZ r).take k)]) ?_ (λk hk ho=>?_) (λk hk ho hb=>?_) (λhj=>?_)
 .simp[strs]
 .have hw:=bx hk (by omega);obtain⟨hl,eh,hn,hc⟩:=key k hk;obtain⟨o1,o2⟩:=BP ho;rw[o1] at hn;rw[o2] at hc;simp[V6,HG,hk,hl,eh];refine⟨by omega,_,hn,?_⟩;simp[hk];refine⟨_,hc,?_⟩;simp[hw]
 .rw[hb];obtain⟨hl,eh,hn,hc⟩:=key k hk;simp[V6,HG,hk,hl,eh,ho];refine⟨by omega,_,hn,?_⟩;rcases Rn ho with⟨o1,o2⟩|⟨o1,o2,o3⟩
  .simp[o1,o2]
  .rw[o2] at hc;simp[o1,o3,hk];refine⟨_,hc,?_⟩;simp
 .rw[hj];simp[V6,HG]
def avS (r:Realm)(h:Small r):ah T 24 [aP r] (.int (iw r)):=by
 refine zyw 125 ay2 ?_
 have e:iw r=fm [fm [eN r.currencies 8 (λ_=>true),eN (fL r) 40 (re r)],fm [s9 r,eN (eY r) 200 (oB r)],eN (eZ r) 20 (oX r),xq r,qD r]:=by
  unfold iw;simp only[fm];split<;>(try split)<;>(try split)<;>(try split)<;>simp_all
 rw[e];simp[Yi];refine⟨_,avX r h,?_⟩;have h1:=avY r h;generalize fm [eN r.currencies 8 (λ_=>true),eN (fL r) 40 (re r)]=x1 at*;generalize fm [s9 r,eN (eY r) 200 (oB r)]=x2 at*;have h2:=avZ r h;generalize eN (eZ r) 20 (oX r)=x3 at*;have h3:=av1 r h;generalize xq r=x4 at*;have h4:=av0 r h;generalize qD r=x5 at*;by_cases z1:x1=0
 case neg=>simp[z1,fm]
 simp[z1,fm];refine⟨_,h1,?_⟩;by_cases z2:x2=0
 case neg=>simp[z2]
 simp[z2];refine⟨_,h2,?_⟩;by_cases z3:x3=0
 case neg=>simp[z3]
 simp[z3];refine⟨_,h3,?_⟩;by_cases z4:x4=0
 case neg=>simp[z4]
 simp[z4];have e7:(if x5=0 then 0 else x5)=x5:=by split<;>simp_all
 rw[e7];exact h4
def kI:Nat->Tm->Int->Int
 |0,_,_=>-1
 |L+1,t,n=>t.args.foldl (λm a=>if 0<=m then kI L a m else m) (n-1)
def size_le:∀(L:Nat) (t:Tm) (n:Int),0<=n->-1<=kI L t n/\kI L t n<=n
 |0,t,n,h=>by simp[kI];omega
 |L+1,t,n,h=>by
  have key:∀(l:List Tm) (m:Int),-1<=m->m<=n->-1<=l.foldl (λm a=>if 0<=m then kI L a m else m) m/\l.foldl (λm a=>if 0<=m then kI L a m else m) m<=n:=by
   intro l
   induction l with
   |nil=>intro m h1 h2;exact⟨h1,h2⟩
   |cons a l ih=>
    intro m h1 h2;simp only[xM];split
    .rename_i hm;have:=size_le L a m hm;exact ih _ this.1 (by omega)
    .exact ih _ h1 h2
  exact key _ _ (by omega) (by omega)
def ajk (L:Nat):∀(l:List Tm) (m:Int),m<0->l.foldl (λm a=>if 0<=m then kI L a m else m) m=m
 |[],m,h=>rfl
 |a::l,m,h=>by simp only[xM];rw[if_neg (by omega)];exact ajk L l m h
def ao7 {α β:Type}(f:β->α->β)(b:β){l:List α}{k:Nat}(h:k<l.length):(l.take (k+1)).foldl f b=f ((l.take k).foldl f b) l[k]:=by
 rw[jn h,uo];rfl
def ao6 {α β:Type}(f:β->α->β)(b:β)(l:List α)(k:Nat):l.foldl f b=(l.drop k).foldl f ((l.take k).foldl f b):=by
 rw[<-uo,I7]
def _root_.Cx.Tm.OK.len {t:Tm}(h:t.OK):t.args.length<=9223372036854775807:=by cases h with|mk o n xs h1 h2 h3 h4=>exact h3
def _root_.Cx.Tm.OK.arg {t:Tm}(h:t.OK){a:Tm}(ha:a∈t.args):a.OK:=by cases h with|mk o n xs h1 h2 h3 h4=>exact h4 a ha
def aim:∀(L:Nat) (t:Tm) (n:Int),t.OK->0<=n->n<=1000->L<=1000->ah T 126 [dP t,.int n,.int L] (.int (kI L t n))
 |0,t,n,ht,h0,h1,hL=>by
  refine .of_tree rfl aa5 ajD ?_;simp[OX,kI]
 |L+1,t,n,ht,h0,h1,hL=>by
  refine .of_tree rfl aa5 ajD ?_;have ni:i64.wrap (n-1)=n-1:=aQ (by omega);have hl:=ht.len;have kQ:¬((L:Int)+1<1):=by omega
  simp[OX,ni,kQ]
  let g:Nat->Int:=λk=>(t.args.take k).foldl (λm a=>if 0<=m then kI L a m else m) (n-1)
  have gb:∀k,-1<=g k/\g k<=1000:=by
   intro k;have:g k=kI (L+1) (.mk 0 0 (t.args.take k)) n:=rfl;have:=size_le (L+1) (.mk 0 0 (t.args.take k)) n h0;omega
  refine .scan t.args.length (λk=>0<=g k) (λk=>[.int (g k),.int k]) (λ_=>[]) ?_ (λk hk hj ho=>?_) (λk hk hj ho=>?_) (λhj=>?_)
  .simp[g,ni]
  .have hw:i64.wrap ((k:Int)+1)=(k:Int)+1:=aQ (by omega);have Md:i64.wrap (L:Int)=(L:Int):=aQ (by omega);have hg:g (k+1)=kI L t.args[k] (g k):=by
    show(t.args.take (k+1)).foldl _ _=_;rw[ao7 _ _ hk];show(if 0<=g k then _ else _)=_;rw[if_pos ho]
   rw[hg];have jx:=aim L t.args[k] (g k) (ht.arg (bU hk)) ho (gb k).2 (by omega);generalize g k=m at*;simp[Wa,HM,hk,ho,Md];refine⟨_,jx,?_⟩;simp[hw]
  .have hf:kI (L+1) t n=g k:=by
    show t.args.foldl _ _=_;rw[ao6 _ _ _ k];exact ajk L _ _ (by show g k<0;omega)
   rw[hf];generalize g k=m at*;simp[Wa,HM,hk,ho]
  .have hf:kI (L+1) t n=g t.args.length:=by
    show t.args.foldl _ _=(t.args.take t.args.length).foldl _ _;rw[Au]
   rw[hf];generalize g t.args.length=m at*;simp[Wa,HM]
def ail (t:Tm)(ht:t.OK):ah T 89 [dP t] (.bool (decide (0<=kI 20 t 100))):=by
 refine zyw 123 azh ?_;simp[Yx];refine⟨_,aim 20 t 100 ht (by omega) (by omega) (by omega),?_⟩;simp
def sY (o:Order):Bool:=(decide (o.rules.length<=60)&&decide (o.choices.length<=60))&&eT o.rules.length (λk=>decide (0<=kI 20 (o.rules.getD k default).term 100))
def ain (o:Order)(ho:o.OK):ah T 51 [kq o] (.bool (sY o)):=by
 refine zyw 122 azj ?_;simp[Yz];by_cases h1:(o.rules.length:Int)<=60
 case neg=>
  have cw:(60:Int)<o.rules.length:=by omega
  have hf:sY o=false:=by
   have:decide (o.rules.length<=60)=false:=decide_eq_false (by omega);simp only[sY,this,sI]
  simp[cw,hf]
 by_cases h2:(o.choices.length:Int)<=60
 case neg=>
  have cw:(60:Int)<o.choices.length:=by omega
  have hf:sY o=false:=by
   have:decide (o.choices.length<=60)=false:=decide_eq_false (by omega);simp only[sY,this,sI,Ah]
  simp[cw,hf]
 have cw:¬(60:Int)<o.rules.length:=by omega
 have gU:¬(60:Int)<o.choices.length:=by omega
 have hf:sY o=eT o.rules.length (λk=>decide (0<=kI 20 (o.rules.getD k default).term 100)):=by
  have e1:decide (o.rules.length<=60)=true:=decide_eq_true (by omega);have e2:decide (o.choices.length<=60)=true:=decide_eq_true (by omega);simp only[sY,e1,e2,Ai]
 rw[hf];simp[cw,gU];have hO:=ho.2.2;refine gI o.rules.length (λk=>decide (0<=kI 20 (o.rules.getD k default).term 100)) (λk=>[.bool false,.int k]) (λ_=>[]) ?_ (λk hk ho=>?_) (λk hk ho hb=>?_) (λhj=>?_)
 .simp
 .have hw:=bx hk (by omega);simp[hk] at ho;simp[Wb,HO,hk];refine⟨_,ail _ (hO _ (bU hk)).2,?_⟩;simp[ho,hw]
 .simp only[aE] at hb;rw[hb];simp[hk] at ho;simp[Wb,HO,hk];refine⟨_,ail _ (hO _ (bU hk)).2,?_⟩;simp[ho]
 .simp only[aE] at hj;rw[hj];simp[Wb,HO]
def E4 (f:File):Bool:=decide ((f.signs.length:Int)<=50)&&decide ((f.alters.length:Int)<=10)&&decide ((f.acts.length:Int)<=110)&&decide ((f.facts.length:Int)<=220)
def av7 (f:File):ah T 50 [cf f] (.bool (E4 f)):=by
 refine zyw 121 azg ?_;simp[Yw,E4];by_cases h1:(f.signs.length:Int)<=50<;>by_cases h2:(f.alters.length:Int)<=10<;>by_cases h3:(f.acts.length:Int)<=110<;>by_cases h4:(f.facts.length:Int)<=220<;>
  simp[h1,h2,h3,h4]
def E2 (r:Realm)(k:Nat):Bool:=decide (((r.cities.getD k default).feasts.length:Int)<=70)&&decide (((r.cities.getD k default).shut.length:Int)<=210)&&decide (((r.cities.getD k default).rest.length:Int)<=8)
def E3 (r:Realm)(k:Nat):Bool:=decide (((r.orders.getD k default).choices.length:Int)<=40)&&decide (((r.orders.getD k default).rules.length:Int)<=40)
def La (r:Realm):Bool:=decide ((r.currencies.length:Int)<50)&&decide ((r.cities.length:Int)<50)&&decide ((r.groups.length:Int)<50)&&decide ((r.firms.length:Int)<210)&&decide ((r.orders.length:Int)<50)&&decide ((r.usances.length:Int)<110)&&decide ((r.rates.length:Int)<110)&&decide ((r.halts.length:Int)<50)
def rB (r:Realm):Bool:=eT (min r.cities.length 50) (E2 r)&&eT (min r.orders.length 50) (E3 r)&&La r
def avT (r:Realm)(hr:r.OK):ah T 49 [aP r] (.bool (rB r)):=by
 refine zyw 120 ay3 ?_;simp[Yj];refine gI (min r.cities.length 50) (E2 r) (λk=>[.bool false,.int k]) (λ_=>[]) ?_ (λk hk ho=>?_) (λk hk ho hb=>?_) (λhj=>?_)
 .simp
 .have bD:k<r.cities.length:=by omega
  have cE:k<50:=by omega
  have hw:=bx cE (by omega);simp[E2,bD] at ho;obtain⟨⟨a1,a2⟩,a3⟩:=ho;have b1:¬(70:Int)<r.cities[k].feasts.length:=by omega
  have b2:¬(210:Int)<r.cities[k].shut.length:=by omega
  have b3:¬(8:Int)<r.cities[k].rest.length:=by omega
  simp[Hu,zQ,bD,cE,hw,b1,b2,b3];omega
 .have bD:k<r.cities.length:=by omega
  have cE:k<50:=by omega
  have hf:rB r=false:=by simp only[rB,hb,sI]
  rw[hf];simp[E2,bD] at ho;by_cases b1:(70:Int)<r.cities[k].feasts.length
  .simp[Hu,zQ,bD,cE,b1];omega
  by_cases b2:(210:Int)<r.cities[k].shut.length
  .simp[Hu,zQ,bD,cE,b1,b2];omega
  have b3:(8:Int)<r.cities[k].rest.length:=by have:=ho (by omega) (by omega);omega
  simp[Hu,zQ,bD,cE,b1,b2,b3];omega
 .have hn:¬((min r.cities.length 50:Nat):Int)<r.cities.length\/¬((min r.cities.length 50:Nat):Int)<50:=by omega
  simp[Hu,zQ];rw[if_neg (by omega)];refine gI (min r.orders.length 50) (E3 r) (λk=>[.bool false,.int k]) (λ_=>[]) ?_ (λk hk ho=>?_) (λk hk ho hb=>?_) (λyM=>?_)
  .simp
  .have bD:k<r.orders.length:=by omega
   have cE:k<50:=by omega
   have hw:=bx cE (by omega);simp[E3,bD] at ho;obtain⟨a1,a2⟩:=ho;have b1:¬(40:Int)<r.orders[k].choices.length:=by omega
   have b2:¬(40:Int)<r.orders[k].rules.length:=by omega
   simp[N3,Df,bD,cE,hw,b1,b2];omega
  .have bD:k<r.orders.length:=by omega
   have cE:k<50:=by omega
   have hf:rB r=false:=by simp only[rB,hb,sI,Ah]
   rw[hf];simp[E3,bD] at ho;by_cases b1:(40:Int)<r.orders[k].choices.length
   .simp[N3,Df,bD,cE,b1];omega
   have b2:(40:Int)<r.orders[k].rules.length:=by have:=ho (by omega);omega
   simp[N3,Df,bD,cE,b1,b2];omega
  .have hf:rB r=La r:=by simp only[rB,hj,yM,Ai]
   rw[hf];simp[N3,Df];rw[if_neg (by omega)];unfold La;by_cases c1:(r.currencies.length:Int)<50<;>simp[c1];by_cases c2:(r.cities.length:Int)<50<;>simp[c2];by_cases c3:(r.groups.length:Int)<50<;>simp[c3];by_cases c4:(r.firms.length:Int)<210<;>simp[c4];by_cases c5:(r.orders.length:Int)<50<;>simp[c5];by_cases c6:(r.usances.length:Int)<110<;>simp[c6];by_cases c7:(r.rates.length:Int)<110<;>simp[c7]
def Rg {r:Realm}(hr:r.OK)(h:rB r=true):Small r:=by
 simp only[rB,La,ao,decide_eq_true_eq,xY] at h;obtain⟨⟨h1,h2⟩,⟨⟨⟨⟨⟨⟨⟨c1,c2⟩,c3⟩,c4⟩,c5⟩,c6⟩,c7⟩,c8⟩⟩:=h;obtain⟨k1,⟨k2,k2'⟩,⟨k3,k3'⟩,⟨k4,k4'⟩,⟨k5,k5'⟩,⟨k6,k6'⟩,⟨k7,k7'⟩,⟨k8,k8'⟩⟩:=hr;refine⟨by omega,by omega,by omega,by omega,by omega,by omega,by omega,by omega,λc hc=>?_,λo ho=>?_,λx hx=>?_⟩
 .obtain⟨k,hk,rfl⟩:=ew hc;have:=h1 k (by omega);simp[E2,hk] at this;have:=k2' _ hc;exact⟨by omega,by omega,by omega,λy hy=>this.2.2.2.1.2 y hy⟩
 .obtain⟨k,hk,rfl⟩:=ew ho;have:=h2 k (by omega);simp[E3,hk] at this;omega
 .have:=k7' x hx;exact⟨this.2.2.1,this.2.2.2.1⟩
def uG (r:Realm)(f:File):Bool:=(rB r&&E4 f)&&eT r.orders.length (λk=>sY (r.orders.getD k default))
def aio (r:Realm)(f:File)(hr:r.OK):ah T 23 [aP r,cf f] (.bool (uG r f)):=by
 refine zyw 119 azk ?_;simp[YA];refine⟨_,avT r hr,?_⟩;cases e1:rB r
 .simp[uG,e1]
 simp;refine⟨_,av7 f,?_⟩;cases e2:E4 f
 .simp[uG,e1,e2]
 have hs:=Rg hr e1;have ho:=hs.orders;have hf:uG r f=eT r.orders.length (λk=>sY (r.orders.getD k default)):=by simp only[uG,e1,e2,Ai]
 rw[hf];simp;have hO:=hr.2.2.2.2.1.2;refine gI r.orders.length (λk=>sY (r.orders.getD k default)) (λk=>[.bool false,.int k]) (λ_=>[]) ?_ (λk hk ho=>?_) (λk hk ho hb=>?_) (λhj=>?_)
 .simp
 .have hw:=bx hk (by omega);simp[hk] at ho;simp[Wc,HP,hk];refine⟨_,ain _ (hO _ (bU hk)),?_⟩;simp[ho,hw]
 .simp only[aE] at hb;rw[hb];simp[hk] at ho;simp[Wc,HP,hk];refine⟨_,ain _ (hO _ (bU hk)),?_⟩;simp[ho]
 .simp only[aE] at hj;rw[hj];simp[Wc,HP]
def Fg (r:Realm)(f:File):Bool:=uG r f&&decide (iw r=0)
def ri (n:Int):Int:=min (max n (-1099511627776)) 1099511627776
def ON (n:Int):ah T 229 [.int n] (.int (ri n)):=by
 refine zyw 48 az6 ?_;simp[Zx,ri];by_cases h1:-1099511627776>n
 .have:¬(1099511627776:Int)< -1099511627776:=by omega
  simp[h1];omega
 .by_cases h2:(1099511627776:Int)<n
  .simp[h1,h2];omega
  .simp[h1,h2];omega
def nI (v:Int):Int×Bool:=if v<0\/19<v then(0,false) else if v<7 then(0,true) else(1,true)
def ajv (v:Int):ah T 227 [.int v] (.tup [.int (nI v).1,.bool (nI v).2]):=by
 refine zyw 49 az2 ?_;simp[Zt,nI];by_cases h1:v<0
 .simp[h1]
 by_cases h2:19<v
 .simp[h1,h2]
 by_cases h3:v<7
 .simp[h1,h2,h3]
 .simp[h1,h2,h3]
def Gz (t:Tm):Int×Int:=
 if 0<t.args.length then(0,2) else if t.op=0 then(if ri t.n≠t.n then(0,3) else(0,0)) else if t.op=1 then(if t.n<0\/1<t.n then(0,3) else(1,0)) else if(nI t.n).2=false then(0,10) else((nI t.n).1,0)
def axH (t:Tm):ah T 225 [dP t] (.tup [.int (Gz t).1,.int (Gz t).2]):=by
 refine zyw 47 az7 ?_;simp[Zy,Gz];by_cases h0:0<t.args.length
 .have gq:(0:Int)<t.args.length:=by omega
  simp[h0,gq]
 simp[h0];by_cases h1:t.op=0
 .simp[h1];refine⟨_,ON _,?_⟩;by_cases h2:ri t.n=t.n<;>simp[h2]
 by_cases h2:t.op=1
 .simp[h1,h2];by_cases h3:t.n<0<;>by_cases h4:1<t.n<;>simp[h3,h4]
 simp[h1,h2];refine⟨_,ajv _,?_⟩;cases h3:(nI t.n).2<;>simp[h3]
def fo (op:Int):List Int×Int:=
 if op=3 then([1],1) else if op=4\/op=5 then([1,1],1) else if op=6 then([1,-1,-1],-1) else if op=7 then([0,0],1) else if op=8 then([-1,-1],1) else([0,0],0)
def E0 (s:List Int×Int):D:=.agg [ints s.1,.int s.2]
@[simp] def aCL (s:List Int×Int):(E0 s).cells=[ints s.1,.int s.2]:=zyz
@[simp] def aCJ (s:List Int×Int):(E0 s).c 0=ints s.1:=zyz
@[simp] def aCK (s:List Int×Int):(E0 s).c 1=.int s.2:=zyz
@[simp] def aG2 (s:List Int×Int):D.agg [ints s.1,.int s.2]=E0 s:=zyz
@[simp] def aHX (x y:Int):xk (.int x) 0 (.int y)=.int y:=zyz
def axJ (op:Int):ah T 226 [.int op] (E0 (fo op)):=by
 refine zyw 50 aAb ?_;simp[ZB,fo];by_cases h3:op=3
 .simp[h3];rfl
 by_cases h4:op=4
 .simp[h4];rfl
 by_cases h5:op=5
 .simp[h5];rfl
 by_cases h6:op=6
 .simp[h6];rfl
 by_cases h7:op=7
 .simp[h7];rfl
 by_cases h8:op=8
 .simp[h8];rfl
 simp[h3,h4,h5,h6,h7,h8];rfl
def ga (f:Tm->Int):List Tm->Int->Int
 |[],n=>n
 |a::l,n=>if 60<n+f a then n+f a else ga f l (n+f a)
def cS:Nat->Tm->Int
 |0,_=>61
 |L+1,t=>ga (cS L) t.args 1
def dX (f:Tm->Int)(l:List Tm):Int:=(l.map f).sum
def MD {f:Tm->Int}{l:List Tm}{k:Nat}(h:k<l.length):dX f (l.take (k+1))=dX f (l.take k)+f l[k]:=by
 unfold dX;rw[Dz f h,List.sum_append];simp
def afh {f:Tm->Int}:∀{l:List Tm} {n:Int} {k:Nat},(hk:k<l.length)->(∀j,j<k->n+dX f (l.take (j+1))<=60)->60<n+dX f (l.take (k+1))->ga f l n=n+dX f (l.take (k+1))
 |a::l,n,0,hk,_,h=>by
  simp[dX] at h ⊢;unfold ga;rw[if_pos (by omega)]
 |a::l,n,k+1,hk,hj,h=>by
  have h0:=hj 0 (by omega);simp[dX] at h0;unfold ga;rw[if_neg (by omega)];have e:∀j,n+dX f ((a::l).take (j+1+1))=n+f a+dX f (l.take (j+1)):=by intro j;simp[dX];omega
  rw[afh (l:=l) (k:=k) (by simpa using hk) (λj mY=>by have:=hj (j+1) (by omega);rw[e] at this;exact this) (by rw[<-e];exact h),e]
def afj {f:Tm->Int}:∀{l:List Tm} {n:Int},(∀j,j<l.length->n+dX f (l.take (j+1))<=60)->ga f l n=n+dX f l
 |[],n,_=>by simp[ga,dX]
 |a::l,n,hj=>by
  have h0:=hj 0 (by simp);simp[dX] at h0;unfold ga;rw[if_neg (by omega)];have e:∀j,n+dX f ((a::l).take (j+1+1))=n+f a+dX f (l.take (j+1)):=by intro j;simp[dX];omega
  rw[afj (l:=l) (λj fF=>by have:=hj (j+1) (by simpa using fF);rw[e] at this;exact this)];simp[dX];omega
def afi {f:Tm->Int}(hf:∀a,1<=f a):∀{l:List Tm} {n:Int},n<=ga f l n
 |[],n=>by simp[ga]
 |a::l,n=>by
  unfold ga;have:=hf a;split
  .omega
  .have:=afi hf (l:=l) (n:=n+f a);omega
def zl:∀(L:Nat) (t:Tm),1<=cS L t
 |0,t=>by simp[cS]
 |L+1,t=>afi (zl L)
def afk {f:Tm->Int}{B:Int}(hf:∀a,f a<=B)(hB:0<=B):∀{l:List Tm} {n:Int},n<=60->ga f l n<=60+B
 |[],n,h=>by simp[ga];omega
 |a::l,n,h=>by
  unfold ga;have:=hf a;split
  .omega
  .exact afk hf hB (by omega)
def afm:∀(L:Nat) (t:Tm),cS L t<=61+60*L
 |0,t=>by simp[cS]
 |L+1,t=>by
  have:=afk (f:=cS L) (λa=>afm L a) (by omega) (l:=t.args) (n:=1) (by omega);show ga _ _ _<=_;omega
def afl {f:Tm->Int}(hf:∀a,1<=f a):∀{l:List Tm} {n:Int},ga f l n<=60->(n:Int)+l.length<=60/\∀a,a∈l->f a<=60-n
 |[],n,h=>by simp[ga] at h ⊢;exact h
 |a::l,n,h=>by
  unfold ga at h;have:=hf a;split at h
  .omega
  .obtain⟨h1,h2⟩:=afl hf h;refine⟨by simp;omega,λb hb=>?_⟩;rcases cB.1 hb with rfl|hb
   .omega
   .have:=h2 b hb;omega
def TP {L:Nat}{t:Tm}(h:cS (L+1) t<=60):t.args.length<=59/\∀a,a∈t.args->cS L a<=60:=by
 obtain⟨h1,h2⟩:=afl (zl L) h;exact⟨by omega,λa ha=>by have:=h2 a ha;omega⟩
def Xe:∀(L:Nat) (t:Tm) (lv:Int),t.OK->L<=8->lv=9-(L:Int)->ah T 217 [dP t,.int lv] (.int (cS L t))
 |0,t,lv,ht,hL,Sf=>by
  refine .of_tree rfl aa7 ajF ?_;subst Sf;simp[O0,cS]
 |L+1,t,lv,ht,hL,Sf=>by
  refine .of_tree rfl aa7 ajF ?_;have hl:=ht.len;have h8:¬(8<lv):=by omega
  have Md:i64.wrap (lv+1)=lv+1:=aQ (by omega);simp[O0,h8];refine .scan t.args.length (λk=>1+dX (cS L) (t.args.take (k+1))<=60) (λk=>[.int (1+dX (cS L) (t.args.take k)),.int k]) (λ_=>[]) ?_ (λk hk hj ho=>?_) (λk hk hj ho=>?_) (λhj=>?_)
  .simp[dX]
  all_goals try rw[MD hk] at ho
  .have hw:i64.wrap ((k:Int)+1)=(k:Int)+1:=aQ (by omega);have jx:=Xe L t.args[k] (lv+1) (ht.arg (bU hk)) (by omega) (by omega);rw[MD hk];have hs:0<=dX (cS L) (t.args.take k):=by
    unfold dX;have:∀(l:List Tm),0<=(l.map (cS L)).sum:=by
     intro l
     induction l with
     |nil=>simp
     |cons a l ih=>have:=zl L a;simp;omega
    exact this _
   have gu:=zl L t.args[k];generalize dX (cS L) (t.args.take k)=m at*;generalize cS L t.args[k]=v at*;have uX:i64.wrap (1+m+v)=1+m+v:=aQ (by omega);have jb:¬60<1+m+v:=by omega
   simp[WC,Ig,hk,Md];refine⟨_,jx,?_⟩;simp[uX,jb,hw];omega
  .have jx:=Xe L t.args[k] (lv+1) (ht.arg (bU hk)) (by omega) (by omega);have hf:cS (L+1) t=1+dX (cS L) (t.args.take (k+1)):=afh hk hj (by rw[MD hk];omega);rw[hf,MD hk];have hs:0<=dX (cS L) (t.args.take k)/\1+dX (cS L) (t.args.take k)<=60:=by
    constructor
    .unfold dX;have:∀(l:List Tm),0<=(l.map (cS L)).sum:=by
       intro l
       induction l with
       |nil=>simp
       |cons a l ih=>have:=zl L a;simp;omega
     exact this _
    .cases k with
     |zero=>simp[dX]
     |succ k=>exact hj k (by omega)
   have gu:=zl L t.args[k];have de:=afm L t.args[k];generalize dX (cS L) (t.args.take k)=m at*;generalize cS L t.args[k]=v at*;have uX:i64.wrap (1+m+v)=1+m+v:=aQ (by omega);have jb:60<1+m+v:=by omega
   simp[WC,Ig,hk,Md];refine⟨_,jx,?_⟩;simp[uX,jb];omega
  .have hf:cS (L+1) t=1+dX (cS L) t.args:=afj hj;rw[hf];simp[WC,Ig]
def oT (ws ts:List Int):Nat->Int
 |0=>-1
 |k+1=>if ws.getD k 0=-1/\oT ws ts k=-1 then ts.getD k 0 else oT ws ts k
def qk (ws ts:List Int)(k:Nat):Bool:=if ws.getD k 0=-1 then decide (oT ws ts k=-1)||decide (ts.getD k 0=oT ws ts k) else decide (ts.getD k 0=ws.getD k 0)
def zn (t:Tm)(ks:List Int):Int×Int:=
 if t.op<0\/13<t.op then(0,1) else if t.op=0\/t.op=1\/t.op=2 then Gz t else
 if ks.length≠(fo t.op).1.length\/t.n≠0 then(0,2) else
 if eT (fo t.op).1.length (qk (fo t.op).1 ks)=false then(0,11) else if(fo t.op).2=-1 then(oT (fo t.op).1 ks (fo t.op).1.length,0) else((fo t.op).2,0)
def cG:Nat->Tm->Int×Int
 |0,_=>(0,0)
 |L+1,t=>if fU t.args.length (λk=>(cG L (t.args.getD k default)).2)≠0 then(0,fU t.args.length (λk=>(cG L (t.args.getD k default)).2)) else zn t (t.args.map λa=>(cG L a).1)
def QM (L:Nat)(t:Tm):cG (L+1) t=if fU t.args.length (λk=>(cG L (t.args.getD k default)).2)≠0 then(0,fU t.args.length (λk=>(cG L (t.args.getD k default)).2)) else zn t (t.args.map λa=>(cG L a).1):=rfl
def WW {α:Type}(A:List α)(z:α){k n:Nat}(hA:A.length=n)(hk:k<n):(A.take k++List.replicate (n-k) z).set k A[k]=A.take (k+1)++List.replicate (n-(k+1)) z:=by
 have h1:(A.take k).length=k:=by rw[dO];omega
 rw[List.set_append_right _ _ (by omega),h1,Pw];have:n-k=(n-(k+1))+1:=by omega
 rw[this,List.replicate_succ,List.set_cons_zero,jn (by omega),sK];rfl
def axe (op:Int):(fo op).1.length<=3:=by
 unfold fo;repeat' split
 all_goals simp
def Xd:∀(L:Nat) (t:Tm),t.OK->cS L t<=60->ah T 218 [dP t] (.tup [.int (cG L t).1,.int (cG L t).2])
 |0,t,ht,hm=>by simp[cS] at hm
 |L+1,t,ht,hm=>by
  refine zyw 46 az4 ?_;obtain⟨hl,hp⟩:=TP hm;simp[Zv];refine⟨by omega,?_⟩;refine qG t.args.length (λk=>(cG L (t.args.getD k default)).2) (λk=>[.int 0,.int 0,.int k]) (λk=>[ints ((t.args.map λa=>(cG L a).1).take k++List.replicate (t.args.length-k) 0)]) ?_ (λk hk ho=>?_) (λk hk ho hb=>?_) (λhj=>?_)
  .simp[ints]
  .have hw:=bx hk (by omega);have cV:=bU hk;have jx:=Xd L t.args[k] (ht.arg cV) (hp _ cV);have hs:=WW (t.args.map λa=>(cG L a).1) 0 (n:=t.args.length) (by simp) hk;rw[<-hs];have hlen:((t.args.map λa=>(cG L a).1).take k++List.replicate (t.args.length-k) (0:Int)).length=t.args.length:=by simp;omega
   have hgk:(t.args.map λa=>(cG L a).1)[k]'(by simpa using hk)=(cG L t.args[k]).1:=by simp
   rw[hgk];generalize (t.args.map λa=>(cG L a).1).take k++List.replicate (t.args.length-k) (0:Int)=A at*;simp[hk] at ho;rw[ho] at jx;generalize (cG L t.args[k]).1=kd at*;simp[WA,Ie,hk];refine⟨_,jx,?_⟩;simp[hlen,hk,hw,ints]
  .have cV:=bU hk;have jx:=Xd L t.args[k] (ht.arg cV) (hp _ cV);have hf:cG (L+1) t=(0,(cG L (t.args.getD k default)).2):=by
    rw[QM,hb,if_pos ho]
   rw[hf];simp[hk] at ho ⊢;simp[WA,Ie,hk];refine⟨_,jx,?_⟩;simp[ho]
  .have hf:cG (L+1) t=zn t (t.args.map λa=>(cG L a).1):=by
    rw[QM,hj];simp
   rw[hf]
   have e0:(t.args.map λa=>(cG L a).1).take t.args.length++List.replicate (t.args.length-t.args.length) 0=t.args.map λa=>(cG L a).1:=by
    rw[Pw,xT (by simp)];simp
   rw[e0];have Sc:(t.args.map λa=>(cG L a).1).length=t.args.length:=by simp
   generalize (t.args.map λa=>(cG L a).1)=ks at*;simp[WA,Ie];unfold zn;by_cases h1:t.op<0
   .simp[h1]
   by_cases h2:13<t.op
   .simp[h1,h2]
   simp[h1,h2];by_cases h3:t.op=0\/t.op=1\/t.op=2
   .have fD:(t.op=0\/t.op=1)\/t.op=2:=by omega
    simp[h3,fD];refine⟨_,axH t,?_⟩;simp
   have fD:¬((t.op=0\/t.op=1)\/t.op=2):=by omega
   simp[h3,fD];refine⟨_,axJ _,?_⟩;have hsl:=axe t.op;generalize fo t.op=sh at*;simp;by_cases h4:ks.length=sh.1.length
   case neg=>
    have oE:¬((ks.length:Int)=sh.1.length):=by omega
    have Lo:¬t.args.length=sh.1.length:=by omega
    simp[h4,oE,Lo]
   have oE:(ks.length:Int)=sh.1.length:=by omega
   have Lo:t.args.length=sh.1.length:=by omega
   by_cases h5:t.n=0
   case neg=>simp[h4,oE,Lo,h5]
   simp[h4,oE,Lo,h5];refine gI sh.1.length (qk sh.1 ks) (λk=>[.int 0,.int 0,.int (oT sh.1 ks k),.int k]) (λ_=>[]) ?_ (λk hk ho=>?_) (λk hk ho hb=>?_) (λhj=>?_)
   .simp[oT]
   .have hw:=bx hk (by omega);have cE:k<ks.length:=by omega
    simp only[oT];unfold qk at ho;simp only[aE,aU hk,aU cE,kM] at ho ⊢;generalize oT sh.1 ks k=c at*;by_cases a1:sh.1[k]=-1
    .by_cases a2:c=-1
     .simp[Dl,xb,hk,cE,hw,ints,a1,a2]
     .simp[a1,a2] at ho;simp[Dl,xb,hk,cE,hw,ints,a1,a2,ho]
    .simp[a1] at ho;simp[Dl,xb,hk,cE,hw,ints,a1,ho]
   .rw[hb];have cE:k<ks.length:=by omega
    unfold qk at ho;simp only[aE,aU hk,aU cE,kM] at ho;generalize oT sh.1 ks k=c at*;by_cases a1:sh.1[k]=-1
    .by_cases a2:c=-1
     .simp[a1,a2] at ho
     .simp[a1,a2] at ho;simp[Dl,xb,hk,cE,ints,a1,a2,ho]
    .simp[a1] at ho;simp[Dl,xb,hk,cE,ints,a1,ho]
   .rw[hj];simp[Dl,xb];by_cases a1:sh.2=-1<;>simp[a1]
def pM (t:Tm):Int×Int:=if 60<cS 8 t then(0,6) else cG 8 t
def aju (t:Tm)(ht:t.OK):ah T 201 [dP t] (.tup [.int (pM t).1,.int (pM t).2]):=by
 refine zyw 44 az0 ?_;simp[Zr,pM];refine⟨_,Xe 8 t 1 ht (by omega) (by omega),?_⟩;by_cases h:60<cS 8 t
 .simp[h]
 simp[h];refine⟨_,Xd 8 t ht (by omega),?_⟩;simp
end Rm
