/-
  Shared texts of this claim.
-/
import Derived.Test.YtbeeplempgffoaaGreatDoorQAI
import Derived.Test.YtbeeplempgffoaaGreatDoorQAJ
import Derived.Test.YtbeeplempgffoaaGreatDoorQAK
import Derived.Test.YtbeeplempgffoaaGreatDoorQAH
import Derived.WalkKit
import Derived.WalkSpells
import Derived.Lib.SliceRun
import Derived.Lib.AppendZeros
import Derived.Laws.Strings
set_option linter.unusedVariables false
set_option maxRecDepth 100000
noncomputable section
namespace Rm
open Go Go.Proofs Cx
def QV:List Nat:=[3,5,23,54,7,26,33,72,35,73,111,151,174,196,195,216,125,118,197,198,152,93,132,154,175,200,199,217,176,112,155,178,177,179,201,202,218,222,220,219,156,180,203,221,204,223,225,226,205,22,16,34,37,80,36,74,113,114,157,181,182,206,115,116,117,158,119,120,121,122,123,75,76,77,78,124,159,160,183,185,207,184,83,79,126,127,161,187,27,63,109,64,30,65,110,10,9,12,6,24,55,56,57,104,147,25,58,105,148,173,149,106,107,150,59,60,108,61,62,8,28,29,67,52,97,101,145,167,168,169,138,170,98,99,139,140,163,100,141,143,164,190,209,210,212,211,165,144,142,166,191,213,192,193,214,215,66,68,51,94,96,95,133,102,134,135,136,162,171,194,208,189,188,137,103,146,172,13,69,70,71,11]
def Av:List (Nat×PC):=[(3,(ab GD)),(5,(ab GG)),(23,(ab xS)),(54,(ab GH)),(7,(ab Gr)),(26,(ab Gs)),(33,(ab yP)),(72,(ab HI)),(35,(ab Gg)),(73,(ab Gf)),(111,(ab Gl)),(151,(ab Gm)),(174,(ab yS)),(196,(ab HG)),(195,(ab HJ)),(216,(ab yU)),(125,(ab HD)),(118,(ab HE)),(197,(ab HH)),(198,(ab yQ)),(152,(ab GJ)),(93,(ab HL)),(132,(ab yX)),(154,(ab xQ)),(175,(ab GB)),(200,(ab GC)),(199,(ab HK)),(217,(ab yW)),(176,(ab xR)),(112,(ab GI)),(155,(ab GK)),(178,(ab GL)),(177,(ab yV)),(179,(ab HQ)),(201,(ab vf)),(202,(ab y4)),(218,(ab HW)),(222,(ab HV)),(220,(ab HS)),(219,(ab HZ)),(156,(ab HR)),(180,(ab y5)),(203,(ab HX)),(221,(ab H0)),(204,(ab HU)),(223,(ab HT)),(225,(ab HY)),(226,(ab Gv)),(205,(ab yT)),(22,(ab Gk)),(16,(ab Gi)),(34,(ab Gj)),(37,(ab yR)),(80,(ab yZ)),(36,(ab BY)),(74,(ab yG)),(113,(ab yK)),(114,(ab yI)),(157,(ab HF)),(181,(ab yJ)),(182,(ab HM)),(206,(ab yY)),(115,(ab Hz)),(116,(ab HA)),(117,(ab yH)),(158,(ab yN)),(119,(ab HB)),(120,(ab HC)),(121,(ab yL)),(122,(ab yO)),(123,(ab yM)),(75,(ab HO)),(76,(ab HP)),(77,(ab HN)),(78,(ab B0)),(124,(ab BZ)),(159,(ab BV)),(160,(ab GA)),(183,(ab Gw)),(185,(ab Gy)),(207,(ab BX)),(184,(ab BW)),(83,(ab ve)),(79,(ab y2)),(126,(ab y3)),(127,(ab xP)),(161,(ab Gx)),(187,(ab Gz)),(27,(ab Gt)),(63,(ab H2)),(109,(ab y6)),(64,(ab Gu)),(30,(ab xN)),(65,(ab xO)),(110,(ab xT)),(10,(ab xM)),(9,(ab yF)),(12,(ab Gq)),(6,(ab GF)),(24,(ab yB)),(55,(ab xZ)),(56,(ab G3)),(57,(ab yw)),(104,(ab Ha)),(147,(ab vd)),(25,(ab GS)),(58,(ab ye)),(105,(ab GY)),(148,(ab x9)),(173,(ab GV)),(149,(ab xY)),(106,(ab ya)),(107,(ab GX)),(150,(ab yc)),(59,(ab yf)),(60,(ab yg)),(108,(ab yb)),(61,(ab yi)),(62,(ab yh)),(8,(ab Hw)),(28,(ab yn)),(29,(ab Hx)),(67,(ab Hr)),(52,(ab Hq)),(97,(ab yC)),(101,(ab Hs)),(145,(ab yq)),(167,(ab G5)),(168,(ab G6)),(169,(ab G4)),(138,(ab GW)),(170,(ab yo)),(98,(ab Hl)),(99,(ab yz)),(139,(ab yA)),(140,(ab Ho)),(163,(ab yy)),(100,(ab Hk)),(141,(ab Hn)),(143,(ab yx)),(164,(ab G7)),(190,(ab yt)),(209,(ab He)),(210,(ab Hg)),(212,(ab Hd)),(211,(ab Hf)),(165,(ab Hm)),(144,(ab GU)),(142,(ab G9)),(166,(ab yr)),(191,(ab Hc)),(213,(ab G8)),(192,(ab Hh)),(193,(ab Hi)),(214,(ab Hj)),(215,(ab Hb)),(66,(ab Hv)),(68,(ab Hy)),(51,(ab Ht)),(94,(ab Hu)),(96,(ab yp)),(95,(ab G0)),(133,(ab G2)),(102,(ab GP)),(134,(ab G1)),(135,(ab yd)),(136,(ab GZ)),(162,(ab GM)),(171,(ab xU)),(194,(ab GQ)),(208,(ab GR)),(189,(ab GN)),(188,(ab xV)),(137,(ab yj)),(103,(ab xW)),(146,(ab GO)),(172,(ab xX)),(13,(ab Hp)),(69,(ab ym)),(70,(ab yk)),(71,(ab yD)),(11,(ab yE))]
def tab:Nat→Option PC:=bP Av
theorem ac8:Av.map (·.1)=QV:=by kernel_rfl
theorem aqv:(Av.map (·.1)).Nodup:=by rw[ac8];exact rK (by kernel_rfl)
theorem lA (k:Nat){f:Nat}{x:PC}(h:Av[k]?=some (f,x)):tab f=some x:=aau aqv h
theorem W2:tab 201=some (ab vf):=lA 34 (by kernel_rfl)
theorem Mp:tab 36=some (ab BY):=lA 54 (by kernel_rfl)
theorem uZ:tab 78=some (ab B0):=lA 74 (by kernel_rfl)
theorem sR:tab 124=some (ab BZ):=lA 75 (by kernel_rfl)
theorem F0:tab 159=some (ab BV):=lA 76 (by kernel_rfl)
theorem Mo:tab 207=some (ab BX):=lA 80 (by kernel_rfl)
theorem Bz:tab 184=some (ab BW):=lA 81 (by kernel_rfl)
theorem W0:tab 83=some (ab ve):=lA 82 (by kernel_rfl)
theorem WZ:tab 147=some (ab vd):=lA 104 (by kernel_rfl)
theorem caps:∀f cs,bP Nl f=some cs→(mB cs.args cs.res=none→bP uw f=some ⟨cs.args++cs.caps,cs.res,.dat⟩)∧∀ys,mB cs.args cs.res=some ys→fu QV f=false∧Fu Tryz.prog f=true:=Xe (l:=Nl) (sig:=uw) (P:=Tryz.prog) (pcs:=QV) (by kernel_rfl)
theorem clos:dP ctx:=⟨(fun f cs h=>(caps f cs h).1),fun f s h=>afa (l:=uw) (P:=Tryz.prog) (by kernel_rfl) f s h⟩
theorem its:∀f cs ys,ctx.cap f=some cs→mB cs.args cs.res=some ys→tab f=none∧∃fn,ctx.P.funcs[f]?=some fn∧fn.body.isSome=true∧(fn.name== "runtime.NumGoroutine")=false:=fun f cs ys h hi=>⟨aap (l:=Av) (by rw[ac8];exact((caps f cs h).2 ys hi).1),as4 ((caps f cs h).2 ys hi).2⟩
theorem asU:∀f pc,tab f=some pc→∃fn s ids fr nh,ctx.P.funcs[f]?=some fn∧ctx.sig f=some s∧l5 {ctx with fr:=fr,nh:=nh} fn s ids=some pc:=
 Px (R:=fun f pc=>∃fn s ids fr nh,ctx.P.funcs[f]?=some fn∧ctx.sig f=some s∧l5 {ctx with fr:=fr,nh:=nh} fn s ids=some pc) (l:=Av)
  (av (aw [7,9,18,20] [14,15,16,17,19,21] [] Tryz.func3 rfl (au GD abx))
  (av (aw [1,2,4] [0,3,5,7] [] Tryz.func5 rfl (au GG abz))
  (av (aw [0,1,2,12290,16386,16,3,24579,28675,32771,4,65540,69636,73732,77828] [] [] Tryz.func23 rfl ahd)
  (av (aw [2,12290] [] [] Tryz.func54 rfl (au GH abA))
  (av (aw [5,7,10,12] [11] [] Tryz.func7 rfl (au Gr abh))
  (av (aw [4,6,8,9] [] [] Tryz.func26 rfl (au Gs abi))
  (av (aw [2,4,5,65541,69637,73733,77829,7,31,9,49,11,13] [] [] Tryz.func33 rfl (au yP Ar))
  (av (aw [] [4] [] Tryz.func72 rfl (au HI acD))
  (av (aw [5,8,77832,10] [] [] Tryz.func35 rfl (au Gg aa8))
  (av (aw [4,7,8,9] [10] [] Tryz.func73 rfl (au Gf aa7))
  (av (aw [4,7,8,10,16394] [9,11,12,13,14] [] Tryz.func111 rfl (au Gl abc))
  (av (aw [2,3,4] [5] [] Tryz.func151 rfl (au Gm abd))
  (av (aw [2,3,5,6,8,10,90,139] [4,7,9,11,12,13,14,15,16] [] Tryz.func174 rfl (au yS JM))
  (av (aw [2] [3] [] Tryz.func196 rfl (au HG acB))
  (av (aw [] [4] [] Tryz.func195 rfl (au HJ acE))
  (av (aw [] [4,5] [] Tryz.func216 rfl (au yU Qt))
  (av (aw [2] [4] [] Tryz.func125 rfl (au HD acy))
  (av (aw [] [4] [] Tryz.func118 rfl (au HE acz))
  (av (aw [2] [] [] Tryz.func197 rfl (au HH acC))
  (av (aw [3,6,8] [] [] Tryz.func198 rfl (au yQ Qs))
  (av (aw [] [2,3,4,11] [] Tryz.func152 rfl (au GJ abC))
  (av (aw [] [4] [] Tryz.func93 rfl (au HL acG))
  (av (aw [] [4,5] [] Tryz.func132 rfl (au yX Qw))
  (av (aw [4,10,53] [8,9,11,12,13,14,55,70] [] Tryz.func154 rfl (au xQ PU))
  (av (aw [4,9] [8] [] Tryz.func175 rfl (au GB abv))
  (av (aw [] [3] [] Tryz.func200 rfl (au GC abw))
  (av (aw [] [4] [] Tryz.func199 rfl (au HK acF))
  (av (aw [] [4,5] [] Tryz.func217 rfl (au yW Qv))
  (av (aw [4,11] [8,9] [] Tryz.func176 rfl (au xR PV))
  (av (aw [3,6,8,10] [7,9,11,12] [] Tryz.func112 rfl (au GI abB))
  (av (aw [2,3,4,12292,9] [5,6,7,8,10,11] [] Tryz.func155 rfl (au GK abD))
  (av (aw [2] [3] [] Tryz.func178 rfl (au GL abE))
  (av (aw [] [4,5] [] Tryz.func177 rfl (au yV Qu))
  (av (aw [1] [2,3] [] Tryz.func179 rfl (au HQ acO))
  (av (aw [2,7,12295] [4,5] [] Tryz.func201 rfl (au vf QB))
  (av (aw [1,4,6,12294,9] [2,3,5,7,8,38,47,10,11,12] [] Tryz.func202 rfl (au y4 JP))
  (av (aw [1] [2,3,12,20,4,5] [] Tryz.func218 rfl (au HW acU))
  (av (aw [] [2] [] Tryz.func222 rfl (au HV acT))
  (av (aw [] [2,3,4,11] [] Tryz.func220 rfl (au HS acQ))
  (av (aw [2] [4,8,13,17,21] [] Tryz.func219 rfl (au HZ acX))
  (av (aw [2,4,7] [5,6,8] [] Tryz.func156 rfl (au HR acP))
  (av (aw [2,3,4,6,33,7,8,10,12298,12] [5,15,21,9,11] [] Tryz.func180 rfl (au y5 QA))
  (av (aw [2,4] [5,6] [] Tryz.func203 rfl (au HX acV))
  (av (aw [2] [] [] Tryz.func221 rfl (au H0 acY))
  (av (aw [4,5] [9,22,41,6,7,82,88,94] [] Tryz.func204 rfl (au HU acS))
  (av (aw [] [6,8,14,20,25] [] Tryz.func223 rfl (au HT acR))
  (av (aw [] [4,5,6,7] [] Tryz.func225 rfl (au HY acW))
  (av (aw [] [4,5,6,7,8,9,10,11,12,13] [] Tryz.func226 rfl (au Gv abl))
  (av (aw [6] [2,3,5,8] [] Tryz.func205 rfl (au yT JN))
  (av (aw [1] [2,3,7,12] [] Tryz.func22 rfl (au Gk abb))
  (av (aw [4,6] [8,9,10,11] [] Tryz.func16 rfl (au Gi aa9))
  (av (aw [1] [2] [] Tryz.func34 rfl (au Gj aba))
  (av (aw [1,3,6,8] [2,4] [] Tryz.func37 rfl (au yR JL))
  (av (aw [] [2,3,4] [] Tryz.func80 rfl (au yZ Qy))
  (av (aw [4,5,10] [8,9,15,39,58,74,11,12] [] Tryz.func36 rfl (au BY acI))
  (av (aw [1,9] [2,3,4,5,6,7,10,11,12] [] Tryz.func74 rfl (au yG Qm))
  (av (aw [1,2,3,4,6,16390,20486,24582,21,8,34,10,12298,16394,47] [] [] Tryz.func113 rfl (au yK DF))
  (av (aw [] [6,7,8] [] Tryz.func114 rfl (au yI Qp))
  (av (aw [] [4] [] Tryz.func157 rfl (au HF acA))
  (av (aw [] [2,3,4,5] [] Tryz.func181 rfl (au yJ Qq))
  (av (aw [] [4] [] Tryz.func182 rfl (au HM acH))
  (av (aw [] [4,5] [] Tryz.func206 rfl (au yY Qx))
  (av (aw [] [2] [] Tryz.func115 rfl (au Hz acu))
  (av (aw [] [3] [] Tryz.func116 rfl (au HA acv))
  (av (aw [2,3] [4,6] [] Tryz.func117 rfl (au yH Qo))
  (av (aw [] [6,7,8] [] Tryz.func158 rfl (au yN Qr))
  (av (aw [] [3] [] Tryz.func119 rfl (au HB acw))
  (av (aw [] [3] [] Tryz.func120 rfl (au HC acx))
  (av (aw [1,3,4,6,19,8,16392,36] [2] [] Tryz.func121 rfl (au yL JI))
  (av (aw [1,4,6] [2,3] [] Tryz.func122 rfl (au yO JK))
  (av (aw [1,4,6] [2] [] Tryz.func123 rfl (au yM JJ))
  (av (aw [2] [4] [] Tryz.func75 rfl (au HO acM))
  (av (aw [] [2] [] Tryz.func76 rfl (au HP acN))
  (av (aw [1] [2] [] Tryz.func77 rfl (au HN acJ))
  (av (aw [3,4] [6,7,13,16,24,33,8,9] [] Tryz.func78 rfl (au B0 acL))
  (av (aw [3] [4,5] [] Tryz.func124 rfl (au BZ acK))
  (av (aw [] [4,5,6,7,8,9] [] Tryz.func159 rfl (au BV abm))
  (av (aw [] [2] [] Tryz.func160 rfl (au GA abu))
  (av (aw [] [2,3,4,5,6,7,8,9] [] Tryz.func183 rfl (au Gw abo))
  (av (aw [] [4] [] Tryz.func185 rfl (au Gy abq))
  (av (aw [] [6,0,1] [] Tryz.func207 rfl (au BX abr))
  (av (aw [] [6,7,8] [] Tryz.func184 rfl (au BW abn))
  (av (aw [3,9] [6,7] [] Tryz.func83 rfl (au ve Qn))
  (av (aw [3] [6,7,8,2,9,10] [] Tryz.func79 rfl (au y2 Qz))
  (av (aw [3,9] [6,7,2] [] Tryz.func126 rfl (au y3 JO))
  (av (aw [2,4,5] [6] [] Tryz.func127 rfl (au xP PR))
  (av (aw [3,4,5] [6] [] Tryz.func161 rfl (au Gx abp))
  (av (aw [2] [4,5,6,7] [] Tryz.func187 rfl (au Gz abt))
  (av (aw [2,4,5,6,43] [] [] Tryz.func27 rfl (au Gt abj))
  (av (aw [3] [6] [] Tryz.func63 rfl (au H2 acZ))
  (av (aw [2,5,7] [4] [] Tryz.func109 rfl (au y6 QC))
  (av (aw [3,7] [6] [] Tryz.func64 rfl (au Gu abk))
  (av (aw [] [2,3,5,12,15] [] Tryz.func30 rfl (au xN PO))
  (av (aw [2,9] [4,5,6,7,10,50,54] [] Tryz.func65 rfl (au xO PQ))
  (av (aw [2,7] [4,5] [] Tryz.func110 rfl (au xT PW))
  (av (aw [4,6,9,10,28] [8,11] [] Tryz.func10 rfl (au xM PN))
  (av (aw [] [4,5] [] Tryz.func9 rfl (au yF Ql))
  (av (aw [] [4] [] Tryz.func12 rfl (au Gq abg))
  (av (aw [2,3] [4] [] Tryz.func6 rfl (au GF aby))
  (av (aw [2,3] [4,5] [] Tryz.func24 rfl (au yB Qh))
  (av (aw [1] [2,3,4] [] Tryz.func55 rfl (au xZ JB))
  (av (aw [1] [2] [] Tryz.func56 rfl (au G3 abV))
  (av (aw [1] [2,3] [] Tryz.func57 rfl (au yw Qc))
  (av (aw [1] [2] [] Tryz.func104 rfl (au Ha ab2))
  (av (aw [3] [6,1,7] [] Tryz.func147 rfl (au vd Qa))
  (av (aw [1] [2,3] [] Tryz.func25 rfl (au GS abL))
  (av (aw [1,5,44] [2,3,4,6,7] [] Tryz.func58 rfl (au ye JD))
  (av (aw [] [4] [] Tryz.func105 rfl (au GY abQ))
  (av (aw [] [2,3,4] [] Tryz.func148 rfl (au x9 P0))
  (av (aw [] [2] [] Tryz.func173 rfl (au GV abN))
  (av (aw [] [6,7] [] Tryz.func149 rfl (au xY PZ))
  (av (aw [2,3] [4,5] [] Tryz.func106 rfl (au ya P1))
  (av (aw [] [6] [] Tryz.func107 rfl (au GX abP))
  (av (aw [] [6,7] [] Tryz.func150 rfl (au yc P2))
  (av (aw [1,4,44] [2,3,5,6] [] Tryz.func59 rfl (au yf JE))
  (av (aw [1,3,24] [2,4,5] [] Tryz.func60 rfl (au yg P4))
  (av (aw [1] [2,3,4] [] Tryz.func108 rfl (au yb JC))
  (av (aw [1,4] [2,3,5] [] Tryz.func61 rfl (au yi JG))
  (av (aw [1,4,6] [2,3,5] [] Tryz.func62 rfl (au yh JF))
  (av (aw [5,7,10,12] [11] [] Tryz.func8 rfl (au Hw acq))
  (av (aw [2,4,46,52,7,69639,77831,81,115] [5,6,8,9] [] Tryz.func28 rfl (au yn Aq))
  (av (aw [5,7,10,11,12,13] [14,15] [] Tryz.func29 rfl (au Hx acr))
  (av (aw [5,8,77832,10] [] [] Tryz.func67 rfl (au Hr ack))
  (av (aw [4,7,8,9,16393] [10,11,12] [] Tryz.func52 rfl (au Hq acj))
  (av (aw [3,5,7,8] [6,9] [] Tryz.func97 rfl (au yC Qi))
  (av (aw [2,3] [4] [] Tryz.func101 rfl (au Hs acm))
  (av (aw [2,3,5,6,7] [4,8,9,10,11] [] Tryz.func145 rfl (au yq P8))
  (av (aw [2] [] [] Tryz.func167 rfl (au G5 abX))
  (av (aw [2] [] [] Tryz.func168 rfl (au G6 abY))
  (av (aw [] [4] [] Tryz.func169 rfl (au G4 abW))
  (av (aw [2] [4] [] Tryz.func138 rfl (au GW abO))
  (av (aw [3,6] [7] [] Tryz.func170 rfl (au yo P7))
  (av (aw [] [2] [] Tryz.func98 rfl (au Hl ace))
  (av (aw [4,10,11,78] [8,9,12,13,14] [] Tryz.func99 rfl (au yz Qf))
  (av (aw [2] [4,5] [] Tryz.func139 rfl (au yA Qg))
  (av (aw [4,10] [8,9] [] Tryz.func140 rfl (au Ho ach))
  (av (aw [2,4] [5] [] Tryz.func163 rfl (au yy Qe))
  (av (aw [3,6,9] [7,8] [] Tryz.func100 rfl (au Hk acd))
  (av (aw [2] [4,5,6,7,8,9] [] Tryz.func141 rfl (au Hn acg))
  (av (aw [2] [4,5] [] Tryz.func143 rfl (au yx Qd))
  (av (aw [1] [2,3] [] Tryz.func164 rfl (au G7 abZ))
  (av (aw [1,4,33] [2,3,5,6,7,8,9,10] [] Tryz.func190 rfl (au yt Qb))
  (av (aw [] [2,4,8,10] [] Tryz.func209 rfl (au He ab6))
  (av (aw [1] [2,3,4,5] [] Tryz.func210 rfl (au Hg ab8))
  (av (aw [] [2,3] [] Tryz.func212 rfl (au Hd ab5))
  (av (aw [] [4,5,7,13,26,44,56] [] Tryz.func211 rfl (au Hf ab7))
  (av (aw [] [2,3] [] Tryz.func165 rfl (au Hm acf))
  (av (aw [] [2,4] [] Tryz.func144 rfl (au GU abM))
  (av (aw [2,4] [5,6] [] Tryz.func142 rfl (au G9 ab1))
  (av (aw [2,4,5,37] [9,15,6,41,55,64,73] [] Tryz.func166 rfl (au yr P9))
  (av (aw [4,5] [6,7] [] Tryz.func191 rfl (au Hc ab4))
  (av (aw [] [2] [] Tryz.func213 rfl (au G8 ab0))
  (av (aw [3,4,6] [] [] Tryz.func192 rfl (au Hh ab9))
  (av (aw [6] [8,14,20,27,34,40] [] Tryz.func193 rfl (au Hi aca))
  (av (aw [2] [] [] Tryz.func214 rfl (au Hj acb))
  (av (aw [] [4,5,6] [] Tryz.func215 rfl (au Hb ab3))
  (av (aw [1] [2] [] Tryz.func66 rfl (au Hv acp))
  (av (aw [6,9,13] [12] [] Tryz.func68 rfl (au Hy acs))
  (av (aw [4,6,9] [8,10,11,12] [] Tryz.func51 rfl (au Ht acn))
  (av (aw [1] [2] [] Tryz.func94 rfl (au Hu aco))
  (av (aw [1] [2,3,4,5,6,7] [] Tryz.func96 rfl (au yp DE))
  (av (aw [4,5,10] [8,9,11,12,13] [] Tryz.func95 rfl (au G0 abS))
  (av (aw [2] [4] [] Tryz.func133 rfl (au G2 abU))
  (av (aw [] [2] [] Tryz.func102 rfl (au GP abI))
  (av (aw [1] [2] [] Tryz.func134 rfl (au G1 abT))
  (av (aw [3] [6,7,8] [] Tryz.func135 rfl (au yd P3))
  (av (aw [3,4,7] [6,8,9] [] Tryz.func136 rfl (au GZ abR))
  (av (aw [] [4,5,6,7,8,9,10,11,12,13,14] [] Tryz.func162 rfl (au GM abF))
  (av (aw [] [2,3,4,5,6,7,8] [] Tryz.func171 rfl (au xU Jz))
  (av (aw [] [2] [] Tryz.func194 rfl (au GQ abJ))
  (av (aw [] [2] [] Tryz.func208 rfl (au GR abK))
  (av (aw [] [4] [] Tryz.func189 rfl (au GN abG))
  (av (aw [] [6,7,8,9,10] [] Tryz.func188 rfl (au xV JA))
  (av (aw [3] [6,7,8,9,10,11,12,2] [] Tryz.func137 rfl (au yj JH))
  (av (aw [2] [4,5,6,7,8] [] Tryz.func103 rfl (au xW PX))
  (av (aw [2] [4,5,6,7,8,9] [] Tryz.func146 rfl (au GO abH))
  (av (aw [] [4,5] [] Tryz.func172 rfl (au xX PY))
  (av (aw [] [4] [] Tryz.func13 rfl (au Hp aci))
  (av (aw [3] [6,7] [] Tryz.func69 rfl (au ym P6))
  (av (aw [2] [4,5] [] Tryz.func70 rfl (au yk P5))
  (av (aw [2] [4,5] [] Tryz.func71 rfl (au yD Qj))
  (av (aw [4,6,9,10,30] [8,11] [] Tryz.func11 rfl (au yE Qk))
  trivial))))))))))))))))))))))))))))))))))))))))))))))))))))))))))))))))))))))))))))))))))))))))))))))))))))))))))))))))))))))))))))))))))))))))))))))))))))))))))))))))))))))))))))))))))))))
end Rm
set_option linter.unusedSimpArgs false
namespace Rm
open Go Go.Proofs Cx Go.RowKit Go.Lib
theorem anp:(Tryz.prog.info? 3).map (fun i=>(i.zero,i.size,i.bytes))=some (some (.int .i64 0),1,8):=by kernel_rfl
set_option maxHeartbeats 2000000 in
set_option maxRecDepth 100000 in
theorem akq (w:World):Calls Tryz.prog 224 #[.slice none 0 0,.int .i64 0] w fun e w'=>e=.returned (.slice none 0 0)∧w'=w:=by
 go_enter Tryz.func224,Tryz.ntmps224
 go_wp2
 go_ret
 exact⟨rfl,rfl⟩
set_option maxHeartbeats 2000000 in
set_option maxRecDepth 100000 in
theorem akp (n:Nat)(w:World)(h0:0<n)(h1:n≤4294967296):Calls Tryz.prog 224 #[.slice none 0 0,.int .i64 n] w fun e w'=>
 ∃v',e=.returned v'∧w'.ownsRow w.heap.size 3 1 v' 0 []∧Below w.heap.size w w':=by
 obtain⟨i0,hi,Pj,v7,hz2⟩:=info_parts anp;have hr:=run_append_nil_zeros w 65 3 65 3 i0 (.int .i64 0) .i64 .i64 Tryz.underlying65 Tryz.underlying3 hi Pj n h0 (by rw[v7];decide) (by omega) (by rw[hz2];omega);have hn:¬((n:Int)<0):=by omega
 have IW:(n:Int)>0:=by omega
 have hw:IntKind.i64.wrap (n:Int)=n:=by rw[IntKind.wrap_i64];omega
 have tI:IntKind.i64.wrap 0=0:=by decide
 have gH:=grownCap_ge w n 0 3;have hle:=grownCap_le_maxLen w n 0 3 (by unfold maxLen;omega);have hs:(Builtin.zeroCells #[Value.int IntKind.i64 0] n++Builtin.zeroCells #[Value.int IntKind.i64 0] (grownCap w n 0 3-n)).size=grownCap w n 0 3*1:=by
  rw[Array.size_append,size_zeroCells,size_zeroCells];simp;omega
 go_enter Tryz.func224,Tryz.ntmps224
 go_wp2_with (at_builtin;refine wpList_append_run _ rfl _ _ 65 3 rfl _ _ rfl rfl _ _ hr ?qc)
 go_ret
 refine⟨_,rfl,?_,?_⟩
 ·exact World.ownsRow.drew (World.ownsRow_made w _ _ (bJ _) hle hs)
 ·exact((Below.refl _ w).alloc (bJ _) _).drew
def Ii (ds:List D):Option D:=
 match ds with
 |[.list [],.v (.int .i64 n)]=>if 0≤n∧n≤4294967296 then some (.list []) else none
 |_=>none
theorem ako (ds:List D)(d:D)(h:Ii ds=some d):∃s,ctx.sig 224=some s∧LO ctx 224 s ds d:=by
 refine⟨_,rfl,fun _=>?_,fun aJ eP hm=>by cases hm⟩;unfold Ii at h;split at h
 case h_2=>cases h
 rename_i n;split at h
 case isFalse=>cases h
 rename_i hn;cases h;obtain⟨k,rfl⟩:=mT hn.1;intro σ w args az hC ha;obtain⟨a1,a2,a3⟩:=ha;have h0:=a3 0 _ rfl;have h1:=a3 1 _ rfl;obtain⟨u,v,rfl⟩:∃u v,args=#[u,v]:=by
  have:args.size=2:=by simpa using a1
  match args,this with
  |⟨[u,v]⟩,_=>exact⟨u,v,rfl⟩
 simp only[uS,FJ] at h0 h1;change Rep ctx.cap σ (.nils .bool) u (.list []) at h0;change Rep ctx.cap σ (.int .i64) v (.v (.int .i64 k)) at h1;have hu:u=.slice none 0 0:=by cases h0;rfl
 have hv:v=.int .i64 k:=by cases h1;rfl
 subst hu hv;by_cases hk:k=0
 ·subst hk;refine(akq w).mono fun e w' hh=>?_;obtain⟨rfl,rfl⟩:=hh;refine⟨_,σ,rfl,.refl σ,az,.refl _ _,fun _ _ _ h=>.inl h,fun _ _ h=>.inl h,?_⟩;exact⟨[],[],rfl,⟨by simp,.inl ⟨rfl,rfl⟩⟩,⟨fun _=>undef,fun i x hx=>by simp at hx,fun i j u hi=>by simp at hi⟩,fun k hk=>by cases hk⟩
 ·refine(akp k w (by omega) (by omega)).mono fun e w' hh=>?_;obtain⟨v',rfl,df,hb⟩:=hh;refine⟨v',σ,rfl,.refl σ,az.below hb,hb,fun _ _ _ h=>.inl h,fun _ _ h=>.inl h,?_⟩;refine⟨[],[],rfl,df,⟨fun _=>undef,fun i x hx=>by simp at hx,fun i j u hi=>by simp at hi⟩,fun k hk=>?_⟩;have br:=(df.lt k hk).1;refine⟨fun o=>?_,?_⟩
  ·cases hc:σ.c k o with
   |none=>rfl
   |some u=>have:=World.block_lt_of_cell? w (a:=⟨k,o,none⟩) (az.c _ _ _ hc);simp at this;omega
  ·cases hc:σ.m k with
   |none=>rfl
   |some u=>rcases az.m _ _ hc with⟨arr,clock,x,g1,_⟩|⟨_,g1⟩<;>(have:=(gl.1 g1).1;omega)
def bu (day:Int):Int×Int×Int:=
 let n:=day+730425
 let e:=n/146097
 let r:=n%146097
 let y:=(r-r/1460+r/36524-r/146096)/365
 let r:=r-(365*y+y/4-y/100)
 let m:=(5*r+2)/153
 let H7:=r-(153*m+2)/5+1
 let month:=if 12<m+3 then m+3-12 else m+3
 (if month<3 then y+400*e+1 else y+400*e,month,H7)
def lF (rest feasts shut:List Int)(day:Int):Bool:=
 !rest.contains ((day+5)%7)&&(!feasts.contains (100*(bu day).2.1+(bu day).2.2)&& !shut.contains day)
def Xw (rest feasts shut:List Int)(a b:Int):List Int:=((List.range (b-a+1).toNat).map fun(k:Nat)=>a+k).filter (lF rest feasts shut)
def wc (d:D):List Int:=d.l.map D.i
def Xx (ds:List D):List D:=
 let c:=(ds.getD 2 .none).deref
 (Xw (wc (c.c 3)) (wc (c.c 4)) (wc (c.c 5)) (ds.getD 0 .none).deref.i (ds.getD 1 .none).deref.i).map fun d=>.tup [.int d]
def xK (r:D)(city:Int):Int:=if 0≤city∧city<(r.c 1).l.length then(((r.c 1).l.getD city.toNat .none).c 1).i else-1
def QX (ds:List D):D:=
 let r:=ds.getD 0 .none
 let forum:=(ds.getD 1 .none).i
 let c:=ds.getD 2 .none
 let s:=(c.c 15).l.getD (c.c 19).i.toNat .none
 let who:=(s.c 2).i
 if who<0∨(r.c 3).l.length≤who∨forum<0∨(r.c 4).l.length≤forum then .list [] else
 let out:=[forum,xK r (s.c 7).i,xK r (c.c 10).i,xK r (c.c 9).i,xK r (((r.c 3).l.getD who.toNat .none).c 1).i]
 if(-1)∈out then .list [] else ints out
def XU:List (Nat×(aR→List D→Option D)):=[(224,fun _ ds=>Ii ds),(153,Am (ab Gn) (ab Gp) QX),(186,Dq (ab qX) 1000 1 Xx)]
def ext:Nat→Option (aR→List D→Option D):=bP XU
theorem asT:TabOK ctx tab ext:=by
 refine⟨clos,its,fun f pc _ h=>asU f pc h,fun f g hg Φ hΦ fG ds d h=>?_⟩
 have:=Px (R:=fun f (g:aR→List D→Option D)=>∀Φ,dz ctx Φ→fP ctx Φ→∀ds d,g Φ ds=some d→(∀s,ctx.sig f=some s→LO ctx f s ds d)∧
  ∀cs ys,ctx.cap f=some cs→mB cs.args cs.res=some ys→∃xs,d=.list xs∧(∀x,x∈xs→∃cw,x=.tup cw∧cw.length=ys.length)∧kY ctx f cs.caps ys ds xs) (l:=XU)
  ⟨fun Φ hΦ fG ds d h=>⟨fun s hs=>by obtain⟨s',h1,h2⟩:=ako ds d h;rw[hs] at h1;cases h1;exact h2,fun cs ys hc hi=>by cases hc⟩,
   fun Φ hΦ fG ds d h=>⟨fun s hs=>by cases hs;exact⟨fun _=>apR clos hΦ fG Tryz.func153 (au Gn abe) (au Gp abf) h,fun aJ eP hm=>by cases hm⟩,fun cs ys hc hi=>by cases hc⟩,
   fun Φ hΦ fG ds d h=>⟨fun s hs=>(by cases hs),fun cs ys hc hi=>by
    cases hc;cases hi;exact ans clos hΦ fG Tryz.func186 ahe h rfl⟩,trivial⟩ f g hg
 exact this Φ hΦ fG ds d h
abbrev T:cD:=fb tab ext
theorem aj.of_nsl {tab:Nat→Option PC}{ext:Nat→Option (aR→List D→Option D)}{f:Nat}{pa pb:PC}{spec:List D→D}{ds:List D}{ta tb:PT}(hx:ext f=some (Am pa pb spec))(hta:tree pa=ta)(htb:tree pb=tb)
 (h:(∃xs,xs≠[]∧spec ds=.list xs∧aE (fb tab ext) ta (l8 ds) (fun x=>x=.ret (.list xs)))∨(spec ds=.list []∧aE (fb tab ext) tb (l8 ds) (fun x=>x=.ret (.list [])))):aj (fb tab ext) f ds (spec ds):=by
 refine aj.of_ext hx ?_;rcases h with⟨xs,h1,h2,h3⟩|⟨h2,h3⟩
 ·obtain⟨x,rfl,n0,hn⟩:=Lz (c:=pa) (hta▸h3);refine⟨n0,fun n hle=>?_⟩;unfold Am;rw[if_pos (.inl ⟨n,xs,hn n hle,h1,h2⟩)]
 ·obtain⟨x,rfl,n0,hn⟩:=Lz (c:=pb) (htb▸h3);refine⟨n0,fun n hle=>?_⟩;unfold Am;rw[if_pos (.inr ⟨n,hn n hle,h2⟩)]
end Rm
namespace Rm
open Go Go.Proofs Cx
def eg (n:Nat)(p:Nat→Bool):Bool:=(List.range n).all p
theorem FW {n:Nat}{p:Nat→Bool}(h:∀k,k<n→p k=true):eg n p=true:=eQ.2 fun k hk=>h k (gm.1 hk)
theorem WR {n k:Nat}{p:Nat→Bool}(hk:k<n)(h:p k=false):eg n p=false:=List.all_eq_false.2 ⟨k,gm.2 hk,by simp[h]⟩
theorem uW {n:Nat}{p:Nat→Bool}:eg n p=true↔∀k,k<n→p k=true:=⟨fun h k hk=>eQ.1 h k (gm.2 hk),FW⟩
def kq (n:Nat)(f:Nat→Int):Int:=(((List.range n).map f).find? fun x=>x !=0).getD 0
theorem X2 {n:Nat}{f:Nat→Int}(h:∀k,k<n→f k=0):kq n f=0:=by
 unfold kq;rw[sG.2]
 ·rfl
 ·intro x hx;obtain⟨k,hk,rfl⟩:=eR.1 hx;simp[h k (gm.1 hk)]
theorem X1 {n k:Nat}{f:Nat→Int}(hk:k<n)(hj:∀j,j<k→f j=0)(h:f k≠0):kq n f=f k:=by
 unfold kq;have e:List.range n=List.range k++k::(List.range' (k+1) (n-k-1)):=by
  rw[L1,L1,←L0];have:=List.range'_append_1 (s:=0) (m:=k) (n:=n-k-1+1);rw[lV] at this;rw[this];congr 1;omega
 rw[e,px,List.find?_append,sG.2,Option.none_or,iX,List.find?_cons_of_pos (by simpa using h)]
 ·rfl
 ·intro x hx;obtain⟨j,tn,rfl⟩:=eR.1 hx;simp[hj j (gm.1 tn)]
theorem NJ {n:Nat}{f:Nat→Int}:kq n f=0↔∀k,k<n→f k=0:=by
 refine⟨fun h k=>?_,X2⟩
 induction k using Nat.strongRecOn with
 |ind k ih=>
  intro hk;refine Bf fun aC=>?_;rw[X1 hk (fun j hj=>ih j hj (by omega)) aC] at h;exact aC h
section
variable {T:cD} {id:Nat} {bH bG lr lo:List Nat} {a:PC} {ρ:Env} {Q:Out→Prop}
theorem fN (N:Nat)(p:Nat→Bool)(str fi:Nat→List D)(h0:lr.map ρ.r=str 0∧lo.map ρ.o=fi 0)
 (step:∀k,k<N→p k=true→aE T (round id bH bG lr lo a) (ρ.put lr (str k) lo (fi k)) (eY ρ id bH bG lr lo (fun vr vo=>vr=str (k+1)∧vo=fi (k+1)) Q))
 (bad:∀k,k<N→p k=false→eg N p=false→aE T (round id bH bG lr lo a) (ρ.put lr (str k) lo (fi k)) (eY ρ id bH bG lr lo (fun _ _=>False) Q))
 (last:eg N p=true→aE T (round id bH bG lr lo a) (ρ.put lr (str N) lo (fi N)) (eY ρ id bH bG lr lo (fun _ _=>False) Q)):aH T (.block id bH bG (.loop lr lo a)) ρ Q:=
 .scan N (fun k=>p k=true) str fi h0 (fun k hk _ h=>step k hk h) (fun k hk _ h=>bad k hk (by simpa using h) (WR hk (by simpa using h))) (fun h=>last (FW h))
theorem sq (N:Nat)(f:Nat→Int)(str fi:Nat→List D)(h0:lr.map ρ.r=str 0∧lo.map ρ.o=fi 0)
 (step:∀k,k<N→f k=0→aE T (round id bH bG lr lo a) (ρ.put lr (str k) lo (fi k)) (eY ρ id bH bG lr lo (fun vr vo=>vr=str (k+1)∧vo=fi (k+1)) Q))
 (bad:∀k,k<N→f k≠0→kq N f=f k→aE T (round id bH bG lr lo a) (ρ.put lr (str k) lo (fi k)) (eY ρ id bH bG lr lo (fun _ _=>False) Q))
 (last:kq N f=0→aE T (round id bH bG lr lo a) (ρ.put lr (str N) lo (fi N)) (eY ρ id bH bG lr lo (fun _ _=>False) Q)):aH T (.block id bH bG (.loop lr lo a)) ρ Q:=
 .scan N (fun k=>f k=0) str fi h0 (fun k hk _ h=>step k hk h) (fun k hk hj h=>bad k hk h (X1 hk hj h)) (fun h=>last (X2 h))
end
theorem ba {k n:Nat}(h:k<n)(hn:n≤4294967296):IntKind.i64.wrap ((k:Int)+1)=(k:Int)+1:=aN (by omega)
theorem uM {k:Nat}(hn:k≤4294967296):IntKind.i64.wrap ((k:Int)-1)=(k:Int)-1:=aN (by omega)
def aF (i n:Int):Bool:=decide (0≤i)&&decide (i<n)
def wi (n a b:Int):Bool:=decide (a≤n)&&decide (n≤b)
theorem fC (i n:Int):aj T 118 [.int i,.int n] (.bool (aF i n)):=by
 refine .of_tree rfl (lA 17 (by kernel_rfl)) avn ?_;simp[Vh,aF];by_cases h:0≤i<;>simp[h]
theorem oY (i n:Int):aj T 72 [.int i,.int n] (.bool (aF i n)):=by
 refine .of_tree rfl (lA 7 (by kernel_rfl)) avB ?_;simp[Vu,aF];by_cases h:0≤i<;>simp[h]
theorem cm (n a b:Int):aj T 107 [.int n,.int a,.int b] (.bool (wi n a b)):=by
 refine .of_tree rfl (lA 112 (by kernel_rfl)) auc ?_;simp[Um,wi];by_cases h:a≤n<;>simp[h]
theorem idx_eq {α:Type}[DecidableEq α]{l:List α}{x z:α}{k:Nat}(hk:k<l.length)(hj:∀j,j<k→l.getD j z≠x)(h:¬l.getD k z≠x):x∈l∧l.findIdx (fun y=>decide (y=x))=k:=by
 have e:l[k]=x:=by simpa [hk] using h
 refine⟨e▸cq hk,(List.findIdx_eq hk).2 ⟨by simp[e],fun j lx=>?_⟩⟩;have gI:j<l.length:=by omega
 simpa [gI] using hj j lx
theorem ZZ {α:Type}[DecidableEq α]{l:List α}{x z:α}(hj:∀j,j<l.length→l.getD j z≠x):¬x∈l:=fun hm=>by
 obtain⟨j,gI,rfl⟩:=jt hm;have:=hj j gI;simp[gI] at this
def tK {α:Type}[DecidableEq α](l:List α)(x:α):Int:=if x∈l then(l.findIdx (fun y=>decide (y=x)):Nat) else-1
def hasB {α:Type}[DecidableEq α](l:List α)(x:α):Bool:=l.any fun y=>decide (y=x)
theorem N1 {α:Type}[DecidableEq α]{l:List α}{x:α}:hasB l x=true↔x∈l:=by simp[hasB]
theorem Yx {α:Type}[DecidableEq α]{l:List α}{x:α}:hasB l x=false↔¬x∈l:=by rw[←N1];simp
theorem ZY {α:Type}[DecidableEq α](l:List α)(x:α):decide (0≤tK l x)=hasB l x:=by
 unfold tK;by_cases h:x∈l
 ·rw[N1.2 h];simp[h]
 ·rw[Yx.2 h];simp[h]
@[simp] theorem azH (a b:ByteArray):vh .eql a b=decide (a=b):=by
  simp only[vh,ByteArray.toList_eq];by_cases h:a=b
  ·subst h;simp
  ·rw[decide_eq_false h,beq_eq_false_iff_ne];intro e;have:a.data=b.data:=by rw[←uN];exact e
   exact h (by cases a;cases b;cases this;rfl)
@[simp] theorem aAA (ρ:Env)(x i:PE):PE.ev ρ (.sidx x i)=.v (.int .u8 ((PE.ev ρ x).s.data.getD (PE.ev ρ i).i.toNat 0).toNat):=_root_.id rfl
@[simp] theorem aAE (ρ:Env)(x i:PE):PE.ev ρ (.sok x i)=.v (.bool (decide (0≤(PE.ev ρ i).i∧(PE.ev ρ i).i<(PE.ev ρ x).s.size))):=_root_.id rfl
@[simp] theorem aDe (a:ByteArray):(str a).s=a:=_root_.id rfl
theorem aga (l:List Int)(x:Int)(hl:l.length≤4294967296):aj T 132 [ints l,.int x] (.int (tK l x)):=by
 refine .of_tree rfl (lA 22 (by kernel_rfl)) avK ?_;simp[VD];refine .scan l.length (fun k=>l.getD k 0≠x) (fun k=>[.int 0,.int k]) (fun _=>[]) ?_ (fun k hk hj ho=>?_) (fun k hk hj ho=>?_) (fun hj=>?_)
 ·simp
 ·have hw:=ba hk hl;simp[hk] at ho;have fp:¬x=l[k]:=fun e=>ho e.symm;simp[SK,E8,hk,hw,ints,ho,fp]
 ·obtain⟨hm,he⟩:=idx_eq hk hj ho;simp[hk] at ho;simp[SK,E8,hk,ints,ho,tK,hm,he]
 ·have:=ZZ hj;simp[SK,E8,tK,this,ints]
theorem xy (l:List Int)(x:Int)(hl:l.length≤4294967296):aj T 93 [ints l,.int x] (.bool (hasB l x)):=by
 refine .of_tree rfl (lA 21 (by kernel_rfl)) avF ?_;simp[Vy];refine⟨_,aga l x hl,?_⟩;have:=ZY l x;simp at this ⊢;exact this
theorem agb (l:List ByteArray)(x:ByteArray)(hl:l.length≤4294967296):aj T 206 [strs l,str x] (.int (tK l x)):=by
 refine .of_tree rfl (lA 61 (by kernel_rfl)) avL ?_;simp[VE];refine .scan l.length (fun k=>l.getD k default≠x) (fun k=>[.int 0,.int k]) (fun _=>[]) ?_ (fun k hk hj ho=>?_) (fun k hk hj ho=>?_) (fun hj=>?_)
 ·simp
 ·have hw:=ba hk hl;simp[hk] at ho;have fp:¬x=l[k]:=fun e=>ho e.symm;simp[SL,E9,hk,hw,strs,ho,fp]
 ·obtain⟨hm,he⟩:=idx_eq hk hj ho;simp[hk] at ho;simp[SL,E9,hk,strs,ho,tK,hm,he]
 ·have:=ZZ hj;simp[SL,E9,tK,this,strs]
theorem af3 (l:List ByteArray)(x:ByteArray)(hl:l.length≤4294967296):aj T 182 [strs l,str x] (.bool (hasB l x)):=by
 refine .of_tree rfl (lA 60 (by kernel_rfl)) avG ?_;simp[Vz];refine⟨_,agb l x hl,?_⟩;have:=ZY l x;simp at this ⊢;exact this
def mN (l:List Int)(a b:Int)(k:Nat):Bool:=wi (l.getD k 0) a b&&(k==0||decide (l.getD (k-1) 0<l.getD k 0))
def rising (l:List Int)(a b:Int):Bool:=eg l.length (mN l a b)
theorem Fg (l:List Int)(a b:Int)(hl:l.length≤4294967296):aj T 158 [ints l,.int a,.int b] (.bool (rising l a b)):=by
 refine .of_tree rfl (lA 65 (by kernel_rfl)) avt ?_;simp[Vn];refine fN l.length (mN l a b) (fun k=>[.bool false,.int k]) (fun _=>[]) ?_ (fun k hk ho=>?_) (fun k hk ho hb=>?_) (fun hj=>?_)
 ·simp
 ·have hw:=ba hk hl;simp[mN,wi,hk] at ho;obtain⟨⟨h1,h2⟩,h3⟩:=ho;have cr:¬l[k]<a:=by omega
  have gF:¬b<l[k]:=by omega
  by_cases fU:0<k
  ·have bE:k-1<l.length:=by omega
   have cM:IntKind.i64.wrap ((k:Int)-1)=((k-1:Nat):Int):=by rw[uM (by omega)];omega
   have gr:¬l[k]≤l[k-1]:=by
        rcases h3 with h3|h3
        ·omega
        ·simp[bE] at h3;omega
   simp[AS,uk,hk,hw,cM,ints,cr,gF,gr,fU,bE]
  ·simp[AS,uk,hk,hw,ints,cr,gF,fU]
 ·have hf:rising l a b=false:=hb;simp[mN,wi,hk] at ho;by_cases h1:l[k]<a
  ·simp[AS,uk,hk,ints,h1,hf]
  by_cases h2:b<l[k]
  ·simp[AS,uk,hk,ints,h1,h2,hf]
  have h3:=ho (by omega) (by omega);have fU:0<k:=by omega
  have bE:k-1<l.length:=by omega
  have cM:IntKind.i64.wrap ((k:Int)-1)=((k-1:Nat):Int):=by rw[uM (by omega)];omega
  have gr:=h3.2;simp[bE] at gr;simp[AS,uk,hk,cM,ints,h1,h2,gr,fU,bE,hf]
 ·have hf:rising l a b=true:=hj;simp[AS,uk,hf]
def Dv (c:Int):Bool:=wi c 97 122||wi c 65 90
def wD (i:Nat)(c:Int):Bool:=Dv c||(i !=0&&(decide (c=95)||wi c 48 57))
def BR (s:ByteArray)(k:Nat):Int:=((s.data.toList.getD k 0).toNat:Nat)
def ic (s:ByteArray):Bool:=decide (1≤s.size)&&decide (s.size≤20)&&eg s.size (fun k=>wD k (BR s k))
theorem Gb {s:ByteArray}{k:Nat}(h:k<s.data.size):(s.data[k].toNat:Int)=BR s k:=by
 unfold BR;rw[be,bW (by simpa using h)];rfl
theorem aeZ {s:ByteArray}:s=⟨#[]⟩↔s.size=0:=by
 constructor
 ·rintro rfl;rfl
 ·intro h;cases s with|mk d=>congr;exact LI h
theorem arQ (s:ByteArray):aj T 181 [str s] (.bool (ic s)):=by
 refine .of_tree rfl (lA 59 (by kernel_rfl)) avo ?_;simp[Vi];by_cases h0:s=⟨#[]⟩
 ·have hn:ic s=false:=by simp[ic,aeZ.1 h0]
  rw[hn];simp[h0]
 by_cases h1:(20:Int)<s.size
 ·have cr:¬s.size≤20:=by omega
  simp[h0,h1,ic,cr]
 have hz:1≤s.size:=by
  have:s.size≠0:=fun e=>h0 (aeZ.2 e);omega
 have cr:s.size≤20:=by omega
 simp[h0,h1];refine⟨by omega,fN s.size (fun k=>wD k (BR s k)) (fun k=>[.bool false,.int k]) (fun _=>[]) ?_ (fun k hk ho=>?_) (fun k hk ho hb=>?_) (fun hj=>?_)⟩
 ·simp
 ·have hw:=ba hk (by omega);have br:k<s.data.size:=hk;have hg:=Gb br;simp[wD,Dv,wi] at ho;simp[Sr,ET,hk,br,hw,hg];omega
 ·have br:k<s.data.size:=hk;have hg:=Gb br;have hn:ic s=false:=by simp[ic,hb]
  simp[wD,Dv,wi] at ho;simp[Sr,ET,hk,br,hg,hn];omega
 ·have hn:ic s=true:=by simp[ic,hj,hz,cr]
  have hd:s.data.size=s.size:=rfl;simp[Sr,ET,hn,hd]
theorem adN (c:Int):aj T 173 [.v (.int .u8 c)] (.bool (Dv c)):=by
 refine .of_tree rfl (lA 109 (by kernel_rfl)) at3 ?_;simp[Uf,Dv,wi];by_cases h:97≤c<;>by_cases h2:c≤122<;>by_cases h3:65≤c<;>by_cases h4:c≤90<;>simp[h,h2,h3,h4]
theorem aqN (s:ByteArray):aj T 148 [str s] (.bool (ic s)):=by
 refine .of_tree rfl (lA 108 (by kernel_rfl)) at4 ?_;simp[Ug];by_cases h0:(s.size:Int)<1
 ·have hn:ic s=false:=by simp[ic];omega
  simp[h0,hn]
 by_cases h1:(20:Int)<s.size
 ·have hn:ic s=false:=by simp[ic];omega
  simp[h0,h1,hn]
 rw[if_neg (by omega)];refine fN s.size (fun k=>wD k (BR s k)) (fun k=>[.bool false,.int k]) (fun _=>[]) ?_ (fun k hk ho=>?_) (fun k hk ho hb=>?_) (fun hj=>?_)
 ·simp
 ·have hw:=ba hk (by omega);have br:k<s.data.size:=hk;have hg:=Gb br;simp[wD,wi] at ho;simp[RT,Ek,hk,br,hw,hg];refine⟨_,adN _,?_⟩;simp[hw];intro g1 g2;exfalso;rcases ho with h|h
  ·rw[h] at g1;cases g1
  ·omega
 ·have br:k<s.data.size:=hk;have hg:=Gb br;have hn:ic s=false:=by simp[ic,hb]
  simp[wD,wi] at ho;simp[RT,Ek,hk,br,hg,hn];refine⟨_,adN _,?_⟩;simp[ho.1];omega
 ·have hn:ic s=true:=by simp[ic,hj];omega
  simp[RT,Ek,hn]
end Rm
namespace Rm
open Go Go.Proofs Cx
theorem aqL (l:List ByteArray)(n:Nat)(x:ByteArray)(hn:n≤l.length)(hl:l.length≤4294967296):aj T 149 [strs l,.int n,str x] (.bool (hasB (l.take n) x)):=by
 refine .of_tree rfl (lA 110 (by kernel_rfl)) atZ ?_;simp[Uc];refine .scan n (fun k=>l.getD k default≠x) (fun k=>[.bool false,.int k]) (fun _=>[]) ?_ (fun k hk hj ho=>?_) (fun k hk hj ho=>?_) (fun hj=>?_)
 ·simp
 ·have br:k<l.length:=by omega
  have hw:=ba br hl;simp[br] at ho;simp[RS,Ei,hk,br,hw,strs,ho]
 ·have br:k<l.length:=by omega
  simp[br] at ho;have hm:hasB (l.take n) x=true:=N1.2 (by rw[←ho,agk];exact⟨k,by omega,rfl⟩);simp[RS,Ei,hk,br,strs,ho,hm]
 ·have hm:hasB (l.take n) x=false:=Yx.2 (fun h=>by
   rw[agk] at h;obtain⟨k,hk,e⟩:=h;have:=hj k (by omega);simp[show k<l.length by omega] at this;exact this e)
  simp[RS,Ei,hm]
def gu (l:List ByteArray)(i:Nat):Int:=if ic (l.getD i default)=false then 2 else if hasB (l.take i) (l.getD i default) then 5 else 0
theorem PF (l:List ByteArray)(i n:Nat)(h:i<n):gu (l.take n) i=gu l i:=by
 unfold gu;rw[be,List.getElem?_take_of_lt h,List.take_take,nU (by omega),←be]
theorem D4 (l:List ByteArray)(i:Nat)(hi:i<l.length)(hl:l.length≤4294967296):aj T 105 [strs l,.int i] (.int (gu l i)):=by
 refine .of_tree rfl (lA 107 (by kernel_rfl)) auf ?_;simp[Up,hi];refine⟨_,by simpa [strs,hi] using aqN l[i],?_⟩;unfold gu;rw[be,bW hi,ki];cases h1:ic l[i]<;>simp[h1];refine⟨_,by simpa [strs,hi] using aqL l i l[i] (by omega) hl,?_⟩;cases h2:hasB (l.take i) l[i]<;>simp[h2]
theorem aeB (l:List ByteArray)(i:Nat)(hi:i<l.length)(hl:l.length≤4294967296):aj T 157 [strs l,.int i] (.int (gu l i)):=by
 refine .of_tree rfl (lA 58 (by kernel_rfl)) avp ?_;simp[Vj,hi];refine⟨_,by simpa [strs,hi] using arQ l[i],?_⟩;unfold gu;rw[be,bW hi,ki];cases h1:ic l[i]<;>simp[h1];refine⟨by omega,_,by simpa [strs,hi] using af3 (l.take i) l[i] (by rw[dZ];omega),?_⟩;cases h2:hasB (l.take i) l[i]<;>simp[h2]
def jC (l:List ByteArray)(g:Nat→Bool)(i:Nat):Int:=if gu l i≠0 then gu l i else if g i then 0 else 1
def ej (l:List ByteArray)(DA:Int)(g:Nat→Bool):Int:=if DA<l.length then 6 else kq l.length (jC l g)
theorem KR (l:List ByteArray)(DA:Int)(f:Nat)(caps:List D)(g:Nat→Bool)(hg:∀i:Nat,i<l.length→aj T f (.int i::caps) (.bool (g i)))(hl:l.length≤4294967296):
 aj T 114 [strs l,.int DA,.clo f caps] (.int (ej l DA g)):=by
 refine .of_tree rfl (lA 57 (by kernel_rfl)) avm ?_;simp[Vg,ej];by_cases h0:DA<l.length
 ·simp[h0];intro h;omega
 simp[h0];refine sq l.length (jC l g) (fun k=>[.int 0,.int k]) (fun _=>[]) ?_ (fun k hk ho=>?_) (fun k hk ho hb=>?_) (fun hj=>?_)
 ·simp
 ·have hw:=ba hk hl;have h1:gu l k=0:=by
   refine Bf fun h=>?_;unfold jC at ho;rw[if_pos h] at ho;exact h ho
  have h2:g k=true:=by
   unfold jC at ho;rw[if_neg (by simpa using h1)] at ho;cases h:g k with
   |true=>rfl
   |false=>rw[h] at ho;simp at ho
  simp[Sq,ES,hk,hw];refine⟨_,aeB l k hk hl,?_⟩;simp[h1];refine⟨_,_,⟨rfl,rfl⟩,_,hg k hk,?_⟩;simp[h2,hw]
 ·simp[Sq,ES,hk,hb];refine⟨_,aeB l k hk hl,?_⟩;unfold jC at ho ⊢;by_cases h1:gu l k=0
  ·simp[h1] at ho ⊢;refine⟨_,_,⟨rfl,rfl⟩,_,hg k hk,?_⟩;simp[ho]
  ·simp[h1]
 ·simp[Sq,ES,hj]
theorem Rv (l:List Int)(a b:Int)(hl:l.length≤4294967296):aj T 150 [ints l,.int a,.int b] (.bool (rising l a b)):=by
 refine .of_tree rfl (lA 113 (by kernel_rfl)) aua ?_;simp[Uk];refine fN l.length (mN l a b) (fun k=>[.bool false,.int k]) (fun _=>[]) ?_ (fun k hk ho=>?_) (fun k hk ho hb=>?_) (fun hj=>?_)
 ·simp
 ·have hw:=ba hk hl;simp[mN,hk] at ho;simp[RX,Eo,hk,hw,ints];refine⟨_,cm _ _ _,?_⟩;by_cases fU:0<k
  ·have bE:k-1<l.length:=by omega
   have cM:IntKind.i64.wrap ((k:Int)-1)=((k-1:Nat):Int):=by rw[uM (by omega)];omega
   have gr:¬l[k]≤l[k-1]:=by
        rcases ho.2 with h3|h3
        ·omega
        ·simp[bE] at h3;omega
   simp[ho.1,hk,hw,cM,gr,fU,bE]
  ·simp[ho.1,hk,hw,fU];omega
 ·have hf:rising l a b=false:=hb;simp[mN,hk] at ho;simp[RX,Eo,hk,ints,hf];refine⟨_,cm _ _ _,?_⟩;cases h1:wi l[k] a b with
  |false=>simp
  |true=>
   have h3:=ho h1;have fU:0<k:=by omega
   have bE:k-1<l.length:=by omega
   have cM:IntKind.i64.wrap ((k:Int)-1)=((k-1:Nat):Int):=by rw[uM (by omega)];omega
   have gr:=h3.2;simp[bE] at gr;simp[hk,cM,gr,fU,bE]
 ·have hf:rising l a b=true:=hj;simp[RX,Eo,hf]
theorem Th (n:Int):n.tdiv 100=if 0≤n then n/100 else-((-n)/100):=by
 split
 ·rename_i h;exact xB h
 ·rename_i h;have e:n.tdiv 100=-((-n).tdiv 100):=by rw[Int.neg_tdiv,Int.neg_neg]
  rw[e,xB (by omega)]
theorem afc (n:Int):n.tmod 100=n-100*n.tdiv 100:=Int.tmod_def n 100
theorem afU {n:Int}(h:bk n):IntKind.i64.wrap (n.tdiv 100)=n.tdiv 100:=aN (by rw[Th];unfold bk at h;split<;>omega)
def lh (r:Realm)(c:City):Bool:=eg c.feasts.length (fun k=>wi ((c.feasts.getD k 0).tmod 100) 1 31)&&(decide (c.feasts.length≤60)&&decide (c.shut.length≤200)&&aF c.order r.orders.length&&aF c.currency r.currencies.length)&&
 (rising c.rest 0 6&&rising c.feasts 101 1231&&rising c.shut 0 100000)
theorem arO (r:Realm)(c:City)(h1:c.rest.length≤4294967296)(h2:c.feasts.length≤4294967296)(h3:c.shut.length≤4294967296):aj T 117 [aL r,fm c] (.bool (lh r c)):=by
 refine .of_tree rfl (lA 64 (by kernel_rfl)) avl ?_;simp[Vf];refine fN c.feasts.length (fun k=>wi ((c.feasts.getD k 0).tmod 100) 1 31) (fun k=>[.bool false,.int k]) (fun _=>[]) ?_ (fun k hk ho=>?_) (fun k hk ho hb=>?_) (fun hj=>?_)
 ·simp
 ·have hw:=ba hk h2;simp[wi,hk] at ho;have g1:¬(c.feasts[k].tmod 100<1):=by omega
  have g2:¬(31<c.feasts[k].tmod 100):=by omega
  simp[Sp,ER,hk,hw,ints,g1,g2]
 ·have hf:lh r c=false:=by simp only[lh,hb,qE]
  simp[wi,hk] at ho;simp[Sp,ER,hk,ints,hf];by_cases g1:c.feasts[k].tmod 100<1
  ·simp[g1]
  ·have g2:=ho (by omega);simp[g1,g2]
 ·simp[Sp,ER];by_cases g1:(c.feasts.length:Int)≤60
  case neg=>
   have hf:lh r c=false:=by
        have eH:decide (c.feasts.length≤60)=false:=decide_eq_false (by omega);simp only[lh,eH,qE,xw]
   have eH:(60:Int)<c.feasts.length:=by omega
   simp[g1,eH,hf]
  by_cases g2:(c.shut.length:Int)≤200
  case neg=>
   have hf:lh r c=false:=by
        have eH:decide (c.shut.length≤200)=false:=decide_eq_false (by omega);simp only[lh,eH,qE,xw]
   have ma:(200:Int)<c.shut.length:=by omega
   simp[g1,g2,ma,hf]
  have eH:¬(60:Int)<c.feasts.length:=by omega
  have ma:¬(200:Int)<c.shut.length:=by omega
  have hf:lh r c=(aF c.order r.orders.length&&aF c.currency r.currencies.length&&(rising c.rest 0 6&&rising c.feasts 101 1231&&rising c.shut 0 100000)):=by
   have e1:decide (c.feasts.length≤60)=true:=decide_eq_true (by omega);have e2:decide (c.shut.length≤200)=true:=decide_eq_true (by omega);simp only[lh,hj,e1,e2,uO]
  rw[hf];simp[g1,g2,eH,ma];refine⟨_,fC _ _,?_⟩;simp;cases e1:aF c.order r.orders.length<;>simp;refine⟨_,fC _ _,?_⟩;simp;cases e2:aF c.currency r.currencies.length<;>simp;refine⟨_,Fg _ _ _ h1,?_⟩;simp;cases e3:rising c.rest 0 6<;>simp;refine⟨_,Fg _ _ _ h2,?_⟩;simp;cases e4:rising c.feasts 101 1231<;>simp;exact Fg _ _ _ h3
def nY (r:Realm)(c:City):Bool:=(wi c.order 0 (r.orders.length-1)&&wi c.currency 0 (r.currencies.length-1)&&decide (c.feasts.length≤60)&&decide (c.shut.length≤200))&&
 eg c.feasts.length (fun k=>wi ((c.feasts.getD k 0).tdiv 100) 1 12&&wi ((c.feasts.getD k 0).tmod 100) 1 31)&&(rising c.rest 0 6&&rising c.feasts 0 2000&&rising c.shut 0 100000)
theorem qC (n:Nat)(h:n≤4294967296):IntKind.i64.wrap ((n:Int)-1)=(n:Int)-1:=aN (by omega)
theorem aqO (r:Realm)(c:City)(h1:c.rest.length≤4294967296)(h2:c.feasts.length≤4294967296)(h3:c.shut.length≤4294967296)(h4:r.orders.length≤4294967296)(h5:r.currencies.length≤4294967296)(hi:∀y,y∈c.feasts→bk y):
 aj T 106 [aL r,fm c] (.bool (nY r c)):=by
 refine .of_tree rfl (lA 111 (by kernel_rfl)) at6 ?_;simp[Ui,qC _ h4,qC _ h5];refine⟨_,cm _ _ _,?_⟩;cases e1:wi c.order 0 (r.orders.length-1)
 case false=>simp[nY,e1]
 simp;refine⟨_,cm _ _ _,?_⟩;cases e2:wi c.currency 0 (r.currencies.length-1)
 case false=>simp[nY,e1,e2]
 by_cases g1:(c.feasts.length:Int)≤60
 case neg=>
  have hf:nY r c=false:=by
   have eH:decide (c.feasts.length≤60)=false:=decide_eq_false (by omega);simp only[nY,eH,qE,xw]
  have eH:(60:Int)<c.feasts.length:=by omega
  simp[eH,hf]
 by_cases g2:(c.shut.length:Int)≤200
 case neg=>
  have hf:nY r c=false:=by
   have eH:decide (c.shut.length≤200)=false:=decide_eq_false (by omega);simp only[nY,eH,qE,xw]
  have ma:(200:Int)<c.shut.length:=by omega
  simp[ma,hf]
 have eH:¬(60:Int)<c.feasts.length:=by omega
 have ma:¬(200:Int)<c.shut.length:=by omega
 have hf:nY r c=(eg c.feasts.length (fun k=>wi ((c.feasts.getD k 0).tdiv 100) 1 12&&wi ((c.feasts.getD k 0).tmod 100) 1 31)&&(rising c.rest 0 6&&rising c.feasts 0 2000&&rising c.shut 0 100000)):=by
  have e3:decide (c.feasts.length≤60)=true:=decide_eq_true (by omega);have e4:decide (c.shut.length≤200)=true:=decide_eq_true (by omega);simp only[nY,e1,e2,e3,e4,uO]
 rw[hf];simp[eH,ma];refine fN c.feasts.length (fun k=>wi ((c.feasts.getD k 0).tdiv 100) 1 12&&wi ((c.feasts.getD k 0).tmod 100) 1 31) (fun k=>[.bool false,.int k]) (fun _=>[]) ?_ (fun k hk ho=>?_) (fun k hk ho hb=>?_) (fun hj=>?_)
 ·simp
 ·have hw:=ba hk h2;have hI:=hi _ (cq hk);have hq:IntKind.i64.wrap (c.feasts[k].tdiv 100)=c.feasts[k].tdiv 100:=afU hI;simp[hk] at ho;simp[RU,El,hk,ints,hq];refine⟨_,cm _ _ _,?_⟩;simp[ho.1,hk];refine⟨_,cm _ _ _,?_⟩;simp[ho.2,hk,hw]
 ·have hI:=hi _ (cq hk);have hq:IntKind.i64.wrap (c.feasts[k].tdiv 100)=c.feasts[k].tdiv 100:=afU hI;simp[hk] at ho;simp only[be] at hb;rw[hb];simp[RU,El,hk,ints,hq];refine⟨_,cm _ _ _,?_⟩;cases e3:wi (c.feasts[k].tdiv 100) 1 12 with
  |false=>simp
  |true=>
   have:=ho e3;simp[hk];refine⟨_,cm _ _ _,?_⟩;simp[this]
 ·simp only[be] at hj;rw[hj];simp[RU,El];refine⟨_,Rv _ _ _ h1,?_⟩;simp;cases e3:rising c.rest 0 6<;>simp;refine⟨_,Rv _ _ _ h2,?_⟩;simp;cases e4:rising c.feasts 0 2000<;>simp;exact Rv _ _ _ h3
theorem aho (r:Realm)(c:City):nY r c=lh r c:=by
 rw[qD];have cf:∀(i:Int) (n:Nat),(wi i 0 (n-1)=true)↔(aF i n=true):=by intro i n;simp[wi,aF];omega
 simp only[nY,lh,ay,decide_eq_true_eq,cf,rising,uW,mN];constructor
 ·rintro⟨⟨⟨⟨⟨a1,a2⟩,a3⟩,a4⟩,a5⟩,⟨a6,a7⟩,a8⟩;refine⟨⟨fun k hk=>(a5 k hk).2,⟨⟨⟨a3,a4⟩,a1⟩,a2⟩⟩,⟨a6,fun k hk=>?_⟩,a8⟩;have h1:=a5 k hk;have h2:=a7 k hk;simp[wi,afc,Th] at h1 h2 ⊢;split at h1<;>omega
 ·rintro⟨⟨a5,⟨⟨⟨a3,a4⟩,a1⟩,a2⟩⟩,⟨a6,a7⟩,a8⟩;refine⟨⟨⟨⟨⟨a1,a2⟩,a3⟩,a4⟩,fun k hk=>?_⟩,⟨a6,fun k hk=>?_⟩,a8⟩
  ·have h1:=a5 k hk;have h2:=a7 k hk;simp[wi,afc,Th] at h1 h2 ⊢;split at h1<;>(try split)<;>omega
  ·have h2:=a7 k hk;simp[wi] at h2 ⊢;omega
end Rm
namespace Rm
open Go Go.Proofs Cx
theorem A3 {α β:Type}(f:α→β){l:List α}{k:Nat}(h:k<l.length):(l.take (k+1)).map f=(l.take k).map f++[f l[k]]:=by
 rw[gU h,px];rfl
theorem v9 (i:Int)(n:Nat):aF i n=wi i 0 ((n:Int)-1):=by
 rw[qD];simp[wi,aF];omega
def uX (o:Order):List Int:=o.choices.map (·.ask)
def By (o:Order):List Int:=o.rules.map (·.ask)
def nu (o:Order):Bool:=eg o.choices.length (fun k=>aF (o.choices.getD k default).by_ 5)&&(rising (uX o) 0 21&&rising (By o) 0 21)
theorem arS (o:Order)(h1:o.choices.length≤100000)(h2:o.rules.length≤100000):aj T 121 [gq o] (.bool (nu o)):=by
 refine .of_tree rfl (lA 68 (by kernel_rfl)) avr ?_;simp[Vl];refine fN o.choices.length (fun k=>aF (o.choices.getD k default).by_ 5) (fun k=>[.bool false,.none,.int k]) (fun k=>[ints ((o.choices.take k).map (·.ask))]) ?_ (fun k hk ho=>?_) (fun k hk ho hb=>?_) (fun hj=>?_)
 ·simp[ints]
 ·have hw:=ba hk (by omega);have hl:(o.choices.take k).length=k:=by rw[dZ];omega
  simp[hk] at ho;rw[A3 _ hk];simp[Ss,EU,hk,hw,ints,hl];refine⟨by omega,_,fC _ _,?_⟩;simp[ho,hw]
 ·have hf:nu o=false:=by simp only[nu,hb,qE]
  have hl:(o.choices.take k).length=k:=by rw[dZ];omega
  simp[hk] at ho;simp[Ss,EU,hk,ints,hl,hf];refine⟨by omega,_,fC _ _,?_⟩;simp[ho]
 ·have hf:nu o=(rising (uX o) 0 21&&rising (By o) 0 21):=by simp only[nu,hj,uO]
  rw[hf];simp[Ss,EU];refine aH.forRounds o.rules.length (fun k=>[.none,.int k]) (fun k=>[ints ((o.rules.take k).map (·.ask))]) ?_ (fun k hk=>?_) ?_
  ·simp[ints]
  ·have hw:=ba hk (by omega);have hl:(o.rules.take k).length=k:=by rw[dZ];omega
   rw[A3 _ hk];simp[aev,KJ,hk,hw,ints,hl];omega
  ·simp[aev,KJ];refine⟨_,Fg (uX o) _ _ (by simp[uX];omega),?_⟩;simp;cases e1:rising (uX o) 0 21<;>simp;exact Fg (By o) _ _ (by simp[By];omega)
def wG (o:Order)(k:Nat):Bool:=wi (o.choices.getD k default).ask 0 21&&wi (o.choices.getD k default).by_ 0 4&&(k==0||decide ((o.choices.getD (k-1) default).ask<(o.choices.getD k default).ask))
def At (o:Order)(k:Nat):Bool:=wi (o.rules.getD k default).ask 0 21&&(k==0||decide ((o.rules.getD (k-1) default).ask<(o.rules.getD k default).ask))
theorem aqj (o:Order):(eg o.choices.length (wG o)&&eg o.rules.length (At o))=nu o:=by
 rw[qD];simp only[nu,ay,rising,uW,uX,By,mV];have g1:∀k,k<o.choices.length→(mN (o.choices.map (·.ask)) 0 21 k=true↔wi (o.choices.getD k default).ask 0 21=true∧(k=0∨(o.choices.getD (k-1) default).ask<(o.choices.getD k default).ask)):=by
  intro k hk;have bE:k-1<o.choices.length:=by omega
  simp[mN,hk,bE]
 have g2:∀k,k<o.rules.length→(mN (o.rules.map (·.ask)) 0 21 k=true↔wi (o.rules.getD k default).ask 0 21=true∧(k=0∨(o.rules.getD (k-1) default).ask<(o.rules.getD k default).ask)):=by
  intro k hk;have bE:k-1<o.rules.length:=by omega
  simp[mN,hk,bE]
 constructor
 ·rintro⟨a,b⟩;refine⟨fun k hk=>?_,fun k hk=>(g1 k hk).2 ?_,fun k hk=>(g2 k hk).2 ?_⟩
  ·have:=a k hk;simp[wG,wi,aF] at this ⊢;omega
  ·have:=a k hk;simp[wG] at this ⊢;exact⟨this.1.1,this.2⟩
  ·have:=b k hk;simp[At] at this ⊢;exact this
 ·rintro⟨c,a,b⟩;refine⟨fun k hk=>?_,fun k hk=>?_⟩
  ·have h1:=(g1 k hk).1 (a k hk);have h2:=c k hk;simp[wG,wi,aF] at h1 h2 ⊢;omega
  ·have h1:=(g2 k hk).1 (b k hk);simp[At] at h1 ⊢;exact h1
theorem aqP (o:Order)(h1:o.choices.length≤100000)(h2:o.rules.length≤100000):aj T 108 [gq o] (.bool (nu o)):=by
 rw[←aqj];refine .of_tree rfl (lA 116 (by kernel_rfl)) at7 ?_;simp[Uj];refine fN o.choices.length (wG o) (fun k=>[.bool false,.int k]) (fun _=>[]) ?_ (fun k hk ho=>?_) (fun k hk ho hb=>?_) (fun hj=>?_)
 ·simp
 ·have hw:=ba hk (by omega);simp[wG,hk] at ho;simp[RV,Em,hk];refine⟨_,cm _ _ _,?_⟩;simp[ho.1.1,hk];refine⟨_,cm _ _ _,?_⟩;by_cases fU:0<k
  ·have bE:k-1<o.choices.length:=by omega
   have cM:IntKind.i64.wrap ((k:Int)-1)=((k-1:Nat):Int):=by rw[uM (by omega)];omega
   have h3:¬o.choices[k].ask≤o.choices[k-1].ask:=by
        rcases ho.2 with h3|h3
        ·omega
        ·simp[bE] at h3;omega
   simp[ho.1.2,hk,hw,cM,h3,fU,bE]
  ·simp[ho.1.2,hk,hw,fU];omega
 ·rw[hb];simp[wG,hk] at ho;simp[RV,Em,hk];refine⟨_,cm _ _ _,?_⟩;cases e1:wi o.choices[k].ask 0 21 with
  |false=>simp
  |true=>
   simp[hk];refine⟨_,cm _ _ _,?_⟩;cases e2:wi o.choices[k].by_ 0 4 with
   |false=>simp
   |true=>
    have h3:=ho e1 e2;have fU:0<k:=by omega
    have bE:k-1<o.choices.length:=by omega
    have cM:IntKind.i64.wrap ((k:Int)-1)=((k-1:Nat):Int):=by rw[uM (by omega)];omega
    have gr:=h3.2;simp[bE] at gr;simp[hk,cM,gr,fU,bE]
 ·rw[hj];simp[RV,Em];refine fN o.rules.length (At o) (fun k=>[.bool false,.int k]) (fun _=>[]) ?_ (fun k hk ho=>?_) (fun k hk ho hb=>?_) (fun hj=>?_)
  ·simp
  ·have hw:=ba hk (by omega);simp[At,hk] at ho;simp[RW,En,hk];refine⟨_,cm _ _ _,?_⟩;by_cases fU:0<k
   ·have bE:k-1<o.rules.length:=by omega
    have cM:IntKind.i64.wrap ((k:Int)-1)=((k-1:Nat):Int):=by rw[uM (by omega)];omega
    have h3:¬o.rules[k].ask≤o.rules[k-1].ask:=by
       rcases ho.2 with h3|h3
       ·omega
       ·simp[bE] at h3;omega
    simp[ho.1,hk,hw,cM,h3,fU,bE]
   ·simp[ho.1,hk,hw,fU];omega
  ·rw[hb];simp[At,hk] at ho;simp[RW,En,hk];refine⟨_,cm _ _ _,?_⟩;cases e1:wi o.rules[k].ask 0 21 with
   |false=>simp
   |true=>
    have h3:=ho e1;have fU:0<k:=by omega
    have bE:k-1<o.rules.length:=by omega
    have cM:IntKind.i64.wrap ((k:Int)-1)=((k-1:Nat):Int):=by rw[uM (by omega)];omega
    have gr:=h3.2;simp[bE] at gr;simp[hk,cM,gr,fU,bE]
  ·rw[hj];simp[RW,En]
def eN (r:Realm):List ByteArray:=r.cities.map (·.name)
def fh (r:Realm):List ByteArray:=r.firms.map (·.name)
def eO (r:Realm):List ByteArray:=r.orders.map (·.name)
theorem arR (r:Realm)(h1:r.cities.length≤100000)(h2:r.firms.length≤100000)(h3:r.orders.length≤100000):aj T 113 [aL r] (.tup [strs (eN r),strs (fh r),strs (eO r)]):=by
 refine .of_tree rfl (lA 56 (by kernel_rfl)) avq ?_;simp[Vk];refine aH.forRounds r.cities.length (fun k=>[.none,.int k]) (fun k=>[strs ((r.cities.take k).map (·.name))]) ?_ (fun k hk=>?_) ?_
 ·simp[strs]
 ·have hw:=ba hk (by omega);have hl:(r.cities.take k).length=k:=by rw[dZ];omega
  rw[A3 _ hk];simp[aes,KG,hk,hw,strs,hl];omega
 ·simp[aes,KG];refine aH.forRounds r.firms.length (fun k=>[.none,.int k]) (fun k=>[strs ((r.firms.take k).map (·.name))]) ?_ (fun k hk=>?_) ?_
  ·simp[strs]
  ·have hw:=ba hk (by omega);have hl:(r.firms.take k).length=k:=by rw[dZ];omega
   rw[A3 _ hk];simp[aet,KH,hk,hw,strs,hl];omega
  ·simp[aet,KH];refine aH.forRounds r.orders.length (fun k=>[.none,.int k]) (fun k=>[strs ((r.orders.take k).map (·.name))]) ?_ (fun k hk=>?_) ?_
   ·simp[strs]
   ·have hw:=ba hk (by omega);have hl:(r.orders.take k).length=k:=by rw[dZ];omega
    rw[A3 _ hk];simp[aeu,KI,hk,hw,strs,hl];omega
   ·simp[aeu,KI,eN,fh,eO]
end Rm
namespace Rm
open Go Go.Proofs Cx
structure Small (r:Realm):Prop where
 cur:r.currencies.length≤1000
 cities:r.cities.length≤1000
 groups:r.groups.length≤1000
 firms:r.firms.length≤1000
 orders:r.orders.length≤1000
 us:r.usances.length≤1000
 rates:r.rates.length≤1000
 halts:r.halts.length≤1000
 city:∀c,c∈r.cities→c.rest.length≤1000∧c.feasts.length≤1000∧c.shut.length≤1000∧∀y,y∈c.feasts→bk y
 order:∀o,o∈r.orders→o.choices.length≤1000∧o.rules.length≤1000
 rate:∀x,x∈r.rates→bk x.num∧bk x.den
def kT (r:Realm)(k j:Nat):Bool:=(r.usances.getD j default).fr !=(r.usances.getD k default).fr||(r.usances.getD j default).to !=(r.usances.getD k default).to
def xq (r:Realm)(k:Nat):Int:=
 if(aF (r.usances.getD k default).fr r.cities.length&&aF (r.usances.getD k default).to r.cities.length&&wi (r.usances.getD k default).days 1 20000)=false then 1 else if eg k (kT r k) then 0 else 5
def uK (r:Realm):Int:=if 100<r.usances.length then 6 else kq r.usances.length (xq r)
theorem arU (r:Realm)(h:Small r):aj T 122 [aL r] (.int (uK r)):=by
 refine .of_tree rfl (lA 69 (by kernel_rfl)) avu ?_;have hu:=h.us;simp[Vo,uK];by_cases h0:100<r.usances.length
 ·have eI:(100:Int)<r.usances.length:=by omega
  have vw:¬r.usances.length≤100:=by omega
  simp[h0,eI,vw]
 have eI:¬(100:Int)<r.usances.length:=by omega
 simp[h0,eI];refine sq r.usances.length (xq r) (fun k=>[.int 0,.int k]) (fun _=>[]) ?_ (fun k hk ho=>?_) (fun k hk ho hb=>?_) (fun hj=>?_)
 ·simp
 ·have hw:=ba hk (by omega);have ha:aF r.usances[k].fr r.cities.length=true∧aF r.usances[k].to r.cities.length=true∧wi r.usances[k].days 1 20000=true∧eg k (kT r k)=true:=by
   unfold xq at ho;simp only[be,bW hk,ki] at ho;cases e1:aF r.usances[k].fr r.cities.length<;>cases e2:aF r.usances[k].to r.cities.length<;>cases e3:wi r.usances[k].days 1 20000<;>cases e4:eg k (kT r k)<;>simp[e1,e2,e3,e4] at ho ⊢
  obtain⟨a1,a2,a3,a4⟩:=ha;simp[wi] at a3;have a5:¬r.usances[k].days<1:=by omega
  have a6:¬20000<r.usances[k].days:=by omega
  simp[Sw,EX,hk];refine⟨_,fC _ _,?_⟩;simp[a1];refine⟨_,fC _ _,?_⟩;simp[a2,a5,a6];refine⟨by omega,fN k (kT r k) (fun j=>[.int 0,.int j]) (fun _=>[]) ?_ (fun j hj ff=>?_) (fun j hj ff dT=>?_) (fun CP=>?_)⟩
  ·simp
  ·have vW:=ba hj (by omega);have bm:j<r.usances.length:=by omega
   have hm:j<min k r.usances.length:=by omega
   simp[kT,bm,hk] at ff;simp[KK,AT,hj,bm,hk,vW,hm];intro e e';rcases ff with h|h
   ·exact absurd e h
   ·exact absurd e' h
  ·rw[a4] at dT;cases dT
  ·simp[KK,AT,hw];omega
 ·simp[Sw,EX,hk,hb];refine⟨_,fC _ _,?_⟩;unfold xq at ho ⊢;simp only[be,bW hk,ki] at ho ⊢;cases e1:aF r.usances[k].fr r.cities.length
  ·simp
  simp;refine⟨_,fC _ _,?_⟩;cases e2:aF r.usances[k].to r.cities.length
  ·simp
  cases e3:wi r.usances[k].days 1 20000
  ·simp[wi] at e3;by_cases g:r.usances[k].days<1
   ·simp[g]
   ·simp[g,e3 (by omega)]
  have Nw:=e3;simp[wi] at Nw;have a5:¬r.usances[k].days<1:=by omega
  have a6:¬20000<r.usances[k].days:=by omega
  simp[e1,e2,e3] at ho;simp[a5,a6];refine⟨by omega,fN k (kT r k) (fun j=>[.int 0,.int j]) (fun _=>[]) ?_ (fun j hj ff=>?_) (fun j hj ff dT=>?_) (fun CP=>?_)⟩
  ·simp
  ·have vW:=ba hj (by omega);have bm:j<r.usances.length:=by omega
   have hm:j<min k r.usances.length:=by omega
   simp[kT,bm,hk] at ff;simp[KK,AT,hj,bm,hk,vW,hm];intro e e';rcases ff with h|h
   ·exact absurd e h
   ·exact absurd e' h
  ·have bm:j<r.usances.length:=by omega
   have hm:j<min k r.usances.length:=by omega
   simp[kT,bm,hk] at ff;simp[KK,AT,hj,bm,hk,ho,hm]
   first|exact ff|simp[ff]
  ·rw[CP] at ho;cases ho
 ·simp[Sw,EX,hj]
theorem aqU (r:Realm)(h:Small r):aj T 61 [aL r] (.int (uK r)):=by
 refine .of_tree rfl (lA 117 (by kernel_rfl)) aui ?_;have hu:=h.us;have hc:=h.cities;simp[Us,uK];by_cases h0:100<r.usances.length
 ·have eI:(100:Int)<r.usances.length:=by omega
  have vw:¬r.usances.length≤100:=by omega
  simp[h0,eI,vw]
 have eI:¬(100:Int)<r.usances.length:=by omega
 simp[h0,eI];refine sq r.usances.length (xq r) (fun k=>[.int 0,.int k]) (fun _=>[]) ?_ (fun k hk ho=>?_) (fun k hk ho hb=>?_) (fun hj=>?_)
 ·simp
 ·have hw:=ba hk (by omega);have ha:aF r.usances[k].fr r.cities.length=true∧aF r.usances[k].to r.cities.length=true∧wi r.usances[k].days 1 20000=true∧eg k (kT r k)=true:=by
   unfold xq at ho;simp only[be,bW hk,ki] at ho;cases e1:aF r.usances[k].fr r.cities.length<;>cases e2:aF r.usances[k].to r.cities.length<;>cases e3:wi r.usances[k].days 1 20000<;>cases e4:eg k (kT r k)<;>simp[e1,e2,e3,e4] at ho ⊢
  obtain⟨a1,a2,a3,a4⟩:=ha;rw[v9] at a1 a2;simp[R6,Ey,hk,qC _ (show r.cities.length≤4294967296 by omega)];refine⟨_,cm _ _ _,?_⟩;simp[a1,qC _ (show r.cities.length≤4294967296 by omega)];refine⟨_,cm _ _ _,?_⟩;simp[a2];refine⟨_,cm _ _ _,?_⟩;simp[a3];refine fN k (kT r k) (fun j=>[.int 0,.int j]) (fun _=>[]) ?_ (fun j hj ff=>?_) (fun j hj ff dT=>?_) (fun CP=>?_)
  ·simp
  ·have vW:=ba hj (by omega);have bm:j<r.usances.length:=by omega
   simp[kT,bm,hk] at ff;simp[Ky,AN,hj,bm,hk,vW];intro e e';rcases ff with h|h
   ·exact absurd e h
   ·exact absurd e' h
  ·rw[a4] at dT;cases dT
  ·simp[Ky,AN,hw]
 ·simp[R6,Ey,hk,hb,qC _ (show r.cities.length≤4294967296 by omega)];refine⟨_,cm _ _ _,?_⟩;unfold xq at ho ⊢;simp only[be,bW hk,ki,v9] at ho ⊢;cases e1:wi r.usances[k].fr 0 ((r.cities.length:Int)-1)
  ·simp
  simp[qC _ (show r.cities.length≤4294967296 by omega)];refine⟨_,cm _ _ _,?_⟩;cases e2:wi r.usances[k].to 0 ((r.cities.length:Int)-1)
  ·simp
  simp;refine⟨_,cm _ _ _,?_⟩;cases e3:wi r.usances[k].days 1 20000
  ·simp
  simp[e1,e2,e3] at ho;simp;refine fN k (kT r k) (fun j=>[.int 0,.int j]) (fun _=>[]) ?_ (fun j hj ff=>?_) (fun j hj ff dT=>?_) (fun CP=>?_)
  ·simp
  ·have vW:=ba hj (by omega);have bm:j<r.usances.length:=by omega
   simp[kT,bm,hk] at ff;simp[Ky,AN,hj,bm,hk,vW];intro e e';rcases ff with h|h
   ·exact absurd e h
   ·exact absurd e' h
  ·have bm:j<r.usances.length:=by omega
   simp[kT,bm,hk] at ff;simp[Ky,AN,hj,bm,hk,ho]
   first|exact ff|simp[ff]
  ·rw[CP] at ho;cases ho
 ·simp[R6,Ey,hj]
def w9 (r:Realm)(k:Nat):Bool:=aF (r.rates.getD k default).fr r.currencies.length&&aF (r.rates.getD k default).to r.currencies.length&&((r.rates.getD k default).fr !=(r.rates.getD k default).to)&&
 wi (r.rates.getD k default).num 1 1073741824&&wi (r.rates.getD k default).den 1 1073741824&&wi (r.rates.getD k default).since 0 100000
def tc (r:Realm)(k:Nat):Bool:=aF (r.halts.getD k default).order r.orders.length&&wi (r.halts.getD k default).fr 0 (r.halts.getD k default).to&&decide ((r.halts.getD k default).to≤100000)
def nK (r:Realm):Int:=if 100<r.rates.length then 6 else if eg r.rates.length (w9 r)=false then 1 else if 20<r.halts.length then 6 else if eg r.halts.length (tc r) then 0 else 1
theorem Jc {n:Int}(h:bk n)(m:Int)(hm:0≤m∧m≤4294967296):aF (IntKind.i64.wrap (n-1)) m=wi n 1 m:=by
 unfold bk at h;by_cases e:n=-9223372036854775808
 ·subst e;have:IntKind.i64.wrap (-9223372036854775808-1)=9223372036854775807:=by decide
  rw[this,qD];simp[aF,wi];omega
 ·rw[aN (by omega),qD];simp[aF,wi];omega
theorem Z1 (n:Int):aF n 100001=wi n 0 100000:=by rw[qD];simp[aF,wi];omega
theorem arT (r:Realm)(h:Small r):aj T 123 [aL r] (.int (nK r)):=by
 refine .of_tree rfl (lA 70 (by kernel_rfl)) avs ?_;have hu:=h.rates;have hh:=h.halts;simp[Vm,nK];by_cases h0:100<r.rates.length
 ·have eI:(100:Int)<r.rates.length:=by omega
  have vw:¬r.rates.length≤100:=by omega
  simp[h0,eI,vw]
 have eI:¬(100:Int)<r.rates.length:=by omega
 simp[h0,eI];have key:∀k (hk:k<r.rates.length),∀{ρ:Env} {Q:Out→Prop},True:=fun _ _ _ _=>trivial;refine fN r.rates.length (w9 r) (fun k=>[.int 0,.int k]) (fun _=>[]) ?_ (fun k hk ho=>?_) (fun k hk ho hb=>?_) (fun hj=>?_)
 ·simp
 ·have hw:=ba hk (by omega);have hI:=h.rate _ (cq hk);simp[w9,hk] at ho;obtain⟨⟨⟨⟨⟨a1,a2⟩,a3⟩,a4⟩,a5⟩,a6⟩:=ho;simp[Su,EV,hk];refine⟨_,fC _ _,?_⟩;simp[a1];refine⟨_,fC _ _,?_⟩;simp[a2,a3];refine⟨_,fC _ _,?_⟩;simp[Jc hI.1,a4];refine⟨_,fC _ _,?_⟩;simp[Jc hI.2,a5];refine⟨_,fC _ _,?_⟩;simp[Z1,a6,hw]
 ·have hI:=h.rate _ (cq hk);rw[hb];simp[w9,hk] at ho;simp[Su,EV,hk];refine⟨_,fC _ _,?_⟩;cases e1:aF r.rates[k].fr r.currencies.length
  ·simp
  simp;refine⟨_,fC _ _,?_⟩;cases e2:aF r.rates[k].to r.currencies.length
  ·simp
  by_cases e3:r.rates[k].fr=r.rates[k].to
  ·simp[e3]
  simp[e3];refine⟨_,fC _ _,?_⟩;rw[Jc hI.1 _ (by omega)];cases e4:wi r.rates[k].num 1 1073741824
  ·simp
  simp;refine⟨_,fC _ _,?_⟩;rw[Jc hI.2 _ (by omega)];cases e5:wi r.rates[k].den 1 1073741824
  ·simp
  simp;refine⟨_,fC _ _,?_⟩;rw[Z1];simp[ho e1 e2 e3 e4 e5]
 ·rw[hj];simp[Su,EV];by_cases h1:20<r.halts.length
  ·have cr:(20:Int)<r.halts.length:=by omega
   have NP:¬r.halts.length≤20:=by omega
   simp[h1,cr,NP]
  have cr:¬(20:Int)<r.halts.length:=by omega
  simp[h1,cr];refine fN r.halts.length (tc r) (fun k=>[.int 0,.int k]) (fun _=>[]) ?_ (fun k hk ho=>?_) (fun k hk ho hb=>?_) (fun hj=>?_)
  ·simp
  ·have hw:=ba hk (by omega);simp[tc,wi,hk] at ho;obtain⟨⟨a1,a2⟩,a3⟩:=ho;have b1:¬r.halts[k].fr<0:=by omega
   have b2:¬r.halts[k].to<r.halts[k].fr:=by omega
   have b3:¬100000<r.halts[k].to:=by omega
   simp[Sv,EW,hk];refine⟨_,fC _ _,?_⟩;simp[a1,b1,b2,b3,hw]
  ·rw[hb];simp[tc,wi,hk] at ho;simp[Sv,EW,hk];refine⟨_,fC _ _,?_⟩;cases e1:aF r.halts[k].order r.orders.length
   ·simp
   have:=ho e1;by_cases b1:r.halts[k].fr<0
   ·simp[b1]
   by_cases b2:r.halts[k].to<r.halts[k].fr
   ·simp[b1,b2]
   have b3:100000<r.halts[k].to:=this (by omega) (by omega);simp[b1,b2,b3]
  ·rw[hj];simp[Sv,EW]
theorem aqT (r:Realm)(h:Small r):aj T 62 [aL r] (.int (nK r)):=by
 refine .of_tree rfl (lA 118 (by kernel_rfl)) auh ?_;have hu:=h.rates;have hh:=h.halts;have hc:=qC r.currencies.length (by have:=h.cur;omega);have Zw:=qC r.orders.length (by have:=h.orders;omega);simp[Ur,nK];by_cases h0:100<r.rates.length
 ·have eI:(100:Int)<r.rates.length:=by omega
  have vw:¬r.rates.length≤100:=by omega
  simp[h0,eI,vw]
 have eI:¬(100:Int)<r.rates.length:=by omega
 simp[h0,eI];refine fN r.rates.length (w9 r) (fun k=>[.int 0,.int k]) (fun _=>[]) ?_ (fun k hk ho=>?_) (fun k hk ho hb=>?_) (fun hj=>?_)
 ·simp
 ·have hw:=ba hk (by omega);simp[w9,hk,v9] at ho;obtain⟨⟨⟨⟨⟨a1,a2⟩,a3⟩,a4⟩,a5⟩,a6⟩:=ho;simp[R4,Ew,hk,hc];refine⟨_,cm _ _ _,?_⟩;simp[a1,hc];refine⟨_,cm _ _ _,?_⟩;simp[a2,a3];refine⟨_,cm _ _ _,?_⟩;simp[a4];refine⟨_,cm _ _ _,?_⟩;simp[a5];refine⟨_,cm _ _ _,?_⟩;simp[a6,hw]
 ·rw[hb];simp[w9,hk,v9] at ho;simp[R4,Ew,hk,hc];refine⟨_,cm _ _ _,?_⟩;cases e1:wi r.rates[k].fr 0 ((r.currencies.length:Int)-1)
  ·simp
  simp[hc];refine⟨_,cm _ _ _,?_⟩;cases e2:wi r.rates[k].to 0 ((r.currencies.length:Int)-1)
  ·simp
  by_cases e3:r.rates[k].fr=r.rates[k].to
  ·simp[e3]
  simp[e3];refine⟨_,cm _ _ _,?_⟩;cases e4:wi r.rates[k].num 1 1073741824
  ·simp
  simp;refine⟨_,cm _ _ _,?_⟩;cases e5:wi r.rates[k].den 1 1073741824
  ·simp
  simp;refine⟨_,cm _ _ _,?_⟩;simp[ho e1 e2 e3 e4 e5]
 ·rw[hj];simp[R4,Ew];by_cases h1:20<r.halts.length
  ·have cr:(20:Int)<r.halts.length:=by omega
   have NP:¬r.halts.length≤20:=by omega
   simp[h1,cr,NP]
  have cr:¬(20:Int)<r.halts.length:=by omega
  simp[h1,cr];refine fN r.halts.length (tc r) (fun k=>[.int 0,.int k]) (fun _=>[]) ?_ (fun k hk ho=>?_) (fun k hk ho hb=>?_) (fun hj=>?_)
  ·simp
  ·have hw:=ba hk (by omega);simp[tc,hk,v9] at ho;obtain⟨⟨a1,a2⟩,a3⟩:=ho;have b3:¬100000<r.halts[k].to:=by omega
   simp[R5,Ex,hk,Zw];refine⟨_,cm _ _ _,?_⟩;simp[a1];refine⟨_,cm _ _ _,?_⟩;simp[a2,b3,hw]
  ·rw[hb];simp[tc,hk,v9] at ho;simp[R5,Ex,hk,Zw];refine⟨_,cm _ _ _,?_⟩;cases e1:wi r.halts[k].order 0 ((r.orders.length:Int)-1)
   ·simp
   simp;refine⟨_,cm _ _ _,?_⟩;cases e2:wi r.halts[k].fr 0 r.halts[k].to
   ·simp
   simp[ho e1 e2]
  ·rw[hj];simp[R5,Ex]
end Rm
namespace Rm
open Go Go.Proofs Cx
def eZ:List Int→Int
 |[]=>0
 |x::l=>if x=0 then eZ l else x
theorem K4:∀{l:List Int},eZ l=0↔∀x,x∈l→x=0
 |[]=>by simp[eZ]
 |x::l=>by
  simp only[eZ,di,forall_eq_or_imp];by_cases h:x=0
  ·simp[h,K4 (l:=l)]
  ·simp[h]
def ou (r:Realm)(i:Nat):Bool:=aF (r.firms.getD i default).city r.cities.length&&aF (r.firms.getD i default).group r.groups.length
def l0 (r:Realm)(i:Nat):Bool:=lh r (r.cities.getD i default)
def mH (r:Realm)(i:Nat):Bool:=nu (r.orders.getD i default)
def vu (r:Realm)(i:Nat):Bool:=aF (r.groups.getD i default).grade 10
def sZ (r:Realm):Int:=if 20<r.groups.length then 6 else if eg r.groups.length (vu r) then 0 else 1
def dJ (r:Realm):Int:=eZ [ej r.currencies 8 (fun _=>true),ej (eN r) 40 (l0 r),sZ r,ej (fh r) 200 (ou r),ej (eO r) 20 (mH r),uK r,nK r]
theorem ahf (i:Int):aj T 115 [.int i] (.bool true):=by
 refine .of_tree rfl (lA 62 (by kernel_rfl)) avf ?_;simp[Va]
theorem ahg (r:Realm)(h:Small r)(i:Nat)(hi:i<r.cities.length):aj T 116 [.int i,.ref (aL r)] (.bool (l0 r i)):=by
 refine .of_tree rfl (lA 63 (by kernel_rfl)) avg ?_;obtain⟨h1,h2,h3,h4⟩:=h.city _ (cq hi);simp[Vb,hi,l0];exact arO r r.cities[i] (by omega) (by omega) (by omega)
theorem ahh (r:Realm)(i:Nat)(hi:i<r.firms.length):aj T 119 [.int i,.ref (aL r)] (.bool (ou r i)):=by
 refine .of_tree rfl (lA 66 (by kernel_rfl)) avh ?_;simp[Vc,hi,ou];refine⟨_,fC _ _,?_⟩;simp[hi];cases e1:aF r.firms[i].city r.cities.length<;>simp;exact fC _ _
theorem ahi (r:Realm)(h:Small r)(i:Nat)(hi:i<r.orders.length):aj T 120 [.int i,.ref (aL r)] (.bool (mH r i)):=by
 refine .of_tree rfl (lA 67 (by kernel_rfl)) avi ?_;obtain⟨h1,h2⟩:=h.order _ (cq hi);simp[Vd,hi,mH];exact arS r.orders[i] (by omega) (by omega)
theorem SS (r:Realm)(h:Small r):aj T 74 [aL r] (.int (dJ r)):=by
 refine .of_tree rfl (lA 55 (by kernel_rfl)) avj ?_;have g1:=h.cur;have g2:=h.cities;have g3:=h.firms;have g4:=h.orders;have g5:=h.groups;simp[U9];refine⟨_,arR r (by omega) (by omega) (by omega),?_⟩;simp;refine⟨_,KR r.currencies 8 115 [] (fun _=>true) (fun i _=>ahf _) (by omega),?_⟩;unfold dJ;generalize e1:ej r.currencies 8 (fun _=>true)=x1;by_cases z1:x1=0
 case neg=>simp[z1,eZ]
 simp[z1,eZ];refine⟨_,KR (eN r) 40 116 [.ref (aL r)] (l0 r) (fun i hi=>ahg r h i (by simpa [eN] using hi)) (by simp[eN];omega),?_⟩;generalize e2:ej (eN r) 40 (l0 r)=x2;by_cases z2:x2=0
 case neg=>simp[z2]
 simp[z2];by_cases z3:20<r.groups.length
 ·have Wp:(20:Int)<r.groups.length:=by omega
  simp[Wp,sZ,z3]
 have Wp:¬(20:Int)<r.groups.length:=by omega
 simp[Wp,sZ,z3];refine fN r.groups.length (vu r) (fun k=>[.int 0,.int k]) (fun _=>[]) ?_ (fun k hk ho=>?_) (fun k hk ho hb=>?_) (fun hj=>?_)
 ·simp
 ·have hw:=ba hk (by omega);simp[vu,hk] at ho;simp[So,EP,hk];refine⟨_,fC _ _,?_⟩;simp[ho,hw]
 ·simp[vu,hk] at ho;rw[hb];simp[So,EP,hk];refine⟨_,fC _ _,?_⟩;simp[ho]
 ·rw[hj];simp[So,EP];refine⟨_,KR (fh r) 200 119 [.ref (aL r)] (ou r) (fun i hi=>ahh r i (by simpa [fh] using hi)) (by simp[fh];omega),?_⟩;generalize e4:ej (fh r) 200 (ou r)=x4;by_cases z4:x4=0
  case neg=>simp[z4]
  simp[z4];refine⟨_,KR (eO r) 20 120 [.ref (aL r)] (mH r) (fun i hi=>ahi r h i (by simpa [eO] using hi)) (by simp[eO];omega),?_⟩;generalize e5:ej (eO r) 20 (mH r)=x5;by_cases z5:x5=0
  case neg=>simp[z5]
  simp[z5];refine⟨_,arU r h,?_⟩;generalize e6:uK r=x6;by_cases z6:x6=0
  case neg=>simp[z6]
  simp[z6];have e7:(if nK r=0 then 0 else nK r)=nK r:=by split<;>simp_all
  rw[e7];exact arT r h
theorem ai0 (l:List ByteArray)(k:Nat):jC l (fun _=>true) k=gu l k:=by
 unfold jC;by_cases h:gu l k=0<;>simp[h]
theorem zj {l:List ByteArray}{g:Nat→Bool}{k:Nat}(h:jC l g k=0):gu l k=0∧g k=true:=by
 unfold jC at h;by_cases h1:gu l k=0
 ·simp[h1] at h;exact⟨h1,h⟩
 ·simp[h1] at h
theorem NK {l:List ByteArray}{g:Nat→Bool}{k:Nat}(h:jC l g k≠0):(gu l k≠0∧jC l g k=gu l k)∨(gu l k=0∧g k=false∧jC l g k=1):=by
 unfold jC at h ⊢;by_cases h1:gu l k=0
 ·simp[h1] at h ⊢;simp[h]
 ·simp[h1]
theorem aqQ (r:Realm)(h:Small r):aj T 58 [aL r] (.int (eZ [ej r.currencies 8 (fun _=>true),ej (eN r) 40 (l0 r)])):=by
 refine .of_tree rfl (lA 106 (by kernel_rfl)) aud ?_;have g1:=h.cur;have g2:=h.cities;have g4:=h.orders;simp[Un];unfold ej;by_cases z1:(8:Int)<r.currencies.length
 ·simp[z1,eZ]
 simp[z1,eZ];refine sq r.currencies.length (jC r.currencies (fun _=>true)) (fun k=>[.int 0,.int k]) (fun _=>[]) ?_ (fun k hk ho=>?_) (fun k hk ho hb=>?_) (fun hj=>?_)
 ·simp
 ·have hw:=ba hk (by omega);simp[RZ,Er,hk];refine⟨_,D4 _ k hk (by omega),?_⟩;simp[(zj ho).1,hw]
 ·rw[hb];simp[RZ,Er,hk,ho];rw[ai0];exact D4 _ k hk (by omega)
 ·rw[hj];simp[RZ,Er];have hlen:(eN r).length=r.cities.length:=by simp[eN]
  rw[hlen];by_cases z2:(40:Int)<r.cities.length
  ·simp[z2]
  simp[z2];have key:∀k (hk:k<r.cities.length),((eN r).take k).length=k∧D.list (List.take k (List.map str (eN r))++[str r.cities[k].name])=strs ((eN r).take (k+1))∧
     aj T 105 [strs ((eN r).take (k+1)),.int k] (.int (gu (eN r) k))∧aj T 106 [aL r,fm r.cities[k]] (.bool (l0 r k)):=by
   intro k hk;have br:k<(eN r).length:=by omega
   have hg:(eN r)[k]=r.cities[k].name:=by simp[eN]
   have hs:(eN r).take (k+1)=(eN r).take k++[(eN r)[k]]:=gU br;have hn:=D4 ((eN r).take (k+1)) k (by rw[dZ];omega) (by rw[dZ];omega);rw[PF _ _ _ (by omega)] at hn;obtain⟨c1,c2,c3,c4⟩:=h.city _ (cq hk);have hc:=aqO r r.cities[k] (by omega) (by omega) (by omega) (by omega) (by omega) c4;rw[aho] at hc;exact⟨by rw[dZ];omega,by rw[hs,hg];simp[strs],hn,by simpa [l0,hk] using hc⟩
  refine sq r.cities.length (jC (eN r) (l0 r)) (fun k=>[.int 0,.none,.int k]) (fun k=>[strs ((eN r).take k)]) ?_ (fun k hk ho=>?_) (fun k hk ho hb=>?_) (fun hj=>?_)
  ·simp[strs]
  ·have hw:=ba hk (by omega);obtain⟨hl,dV,hn,hc⟩:=key k hk;obtain⟨o1,o2⟩:=zj ho;rw[o1] at hn;rw[o2] at hc;simp[R0,Es,hk,hl,dV,asM];refine⟨by omega,_,hn,?_⟩;simp[hk];refine⟨_,hc,?_⟩;simp[hw]
  ·rw[hb];obtain⟨hl,dV,hn,hc⟩:=key k hk;simp[R0,Es,hk,hl,dV,ho];refine⟨by omega,_,hn,?_⟩;rcases NK ho with⟨o1,o2⟩|⟨o1,o2,o3⟩
   ·simp[o1,o2]
   ·rw[o2] at hc;simp[o1,o3,hk];refine⟨_,hc,?_⟩;simp
  ·rw[hj];simp[R0,Es]
theorem aqR (r:Realm)(h:Small r):aj T 59 [aL r] (.int (eZ [sZ r,ej (fh r) 200 (ou r)])):=by
 refine .of_tree rfl (lA 114 (by kernel_rfl)) aue ?_;have g1:=h.groups;have g2:=h.firms;have g3:=h.cities;have w3:=qC r.cities.length (by omega);have w1:=qC r.groups.length (by omega);simp[Uo];by_cases z1:20<r.groups.length
 ·have Wn:(20:Int)<r.groups.length:=by omega
  simp[Wn,sZ,z1,eZ]
 have Wn:¬(20:Int)<r.groups.length:=by omega
 simp[Wn,sZ,z1,eZ];refine fN r.groups.length (vu r) (fun k=>[.int 0,.int k]) (fun _=>[]) ?_ (fun k hk ho=>?_) (fun k hk ho hb=>?_) (fun hj=>?_)
 ·simp
 ·have hw:=ba hk (by omega);simp[vu,hk] at ho;have e:wi r.groups[k].grade 0 9=aF r.groups[k].grade 10:=by rw[qD];simp[wi,aF];omega
  simp[R1,Et,hk];refine⟨_,cm _ _ _,?_⟩;simp[e,ho,hw]
 ·simp[vu,hk] at ho;have e:wi r.groups[k].grade 0 9=aF r.groups[k].grade 10:=by rw[qD];simp[wi,aF];omega
  rw[hb];simp[R1,Et,hk];refine⟨_,cm _ _ _,?_⟩;simp[e,ho]
 ·rw[hj];simp[R1,Et];unfold ej;have hlen:(fh r).length=r.firms.length:=by simp[fh]
  rw[hlen];by_cases z2:(200:Int)<r.firms.length
  ·simp[z2]
  simp[z2];have key:∀k (hk:k<r.firms.length),((fh r).take k).length=k∧D.list (List.take k (List.map str (fh r))++[str r.firms[k].name])=strs ((fh r).take (k+1))∧
     aj T 105 [strs ((fh r).take (k+1)),.int k] (.int (gu (fh r) k))∧ou r k=(wi r.firms[k].city 0 ((r.cities.length:Int)-1)&&wi r.firms[k].group 0 ((r.groups.length:Int)-1)):=by
   intro k hk;have br:k<(fh r).length:=by omega
   have hg:(fh r)[k]=r.firms[k].name:=by simp[fh]
   have hs:(fh r).take (k+1)=(fh r).take k++[(fh r)[k]]:=gU br;have hn:=D4 ((fh r).take (k+1)) k (by rw[dZ];omega) (by rw[dZ];omega);rw[PF _ _ _ (by omega)] at hn;exact⟨by rw[dZ];omega,by rw[hs,hg];simp[strs],hn,by simp[ou,hk,v9]⟩
  refine sq r.firms.length (jC (fh r) (ou r)) (fun k=>[.int 0,.none,.int k]) (fun k=>[strs ((fh r).take k)]) ?_ (fun k hk ho=>?_) (fun k hk ho hb=>?_) (fun hj=>?_)
  ·simp[strs]
  ·have hw:=ba hk (by omega);obtain⟨hl,dV,hn,hc⟩:=key k hk;obtain⟨o1,o2⟩:=zj ho;rw[o1] at hn;rw[o2] at hc;have ls:=Bool.and_eq_true_iff.1 hc.symm;simp[R2,Eu,hk,hl,dV];refine⟨by omega,_,hn,?_⟩;simp[hk,w3];refine⟨_,cm _ _ _,?_⟩;simp[ls.1,hk,w1];refine⟨_,cm _ _ _,?_⟩;simp[ls.2,hw]
  ·rw[hb];obtain⟨hl,dV,hn,hc⟩:=key k hk;simp[R2,Eu,hk,hl,dV,ho];refine⟨by omega,_,hn,?_⟩;rcases NK ho with⟨o1,o2⟩|⟨o1,o2,o3⟩
   ·simp[o1,o2]
   ·rw[o2] at hc;simp[o1,o3,hk,w3];refine⟨_,cm _ _ _,?_⟩;cases e1:wi r.firms[k].city 0 ((r.cities.length:Int)-1)
    ·simp
    rw[e1,uO] at hc;simp[hk,w1];refine⟨_,cm _ _ _,?_⟩;simp[←hc]
  ·rw[hj];simp[R2,Eu]
theorem aqS (r:Realm)(h:Small r):aj T 60 [aL r] (.int (ej (eO r) 20 (mH r))):=by
 refine .of_tree rfl (lA 115 (by kernel_rfl)) aug ?_;have g2:=h.orders;simp[Uq];unfold ej;have hlen:(eO r).length=r.orders.length:=by simp[eO]
 rw[hlen];by_cases z2:(20:Int)<r.orders.length
 ·simp[z2]
 simp[z2];have key:∀k (hk:k<r.orders.length),((eO r).take k).length=k∧D.list (List.take k (List.map str (eO r))++[str r.orders[k].name])=strs ((eO r).take (k+1))∧
  aj T 105 [strs ((eO r).take (k+1)),.int k] (.int (gu (eO r) k))∧aj T 108 [gq r.orders[k]] (.bool (mH r k)):=by
  intro k hk;have br:k<(eO r).length:=by omega
  have hg:(eO r)[k]=r.orders[k].name:=by simp[eO]
  have hs:(eO r).take (k+1)=(eO r).take k++[(eO r)[k]]:=gU br;have hn:=D4 ((eO r).take (k+1)) k (by rw[dZ];omega) (by rw[dZ];omega);rw[PF _ _ _ (by omega)] at hn;obtain⟨c1,c2⟩:=h.order _ (cq hk);exact⟨by rw[dZ];omega,by rw[hs,hg];simp[strs],hn,by simpa [mH,hk] using aqP r.orders[k] (by omega) (by omega)⟩
 refine sq r.orders.length (jC (eO r) (mH r)) (fun k=>[.int 0,.none,.int k]) (fun k=>[strs ((eO r).take k)]) ?_ (fun k hk ho=>?_) (fun k hk ho hb=>?_) (fun hj=>?_)
 ·simp[strs]
 ·have hw:=ba hk (by omega);obtain⟨hl,dV,hn,hc⟩:=key k hk;obtain⟨o1,o2⟩:=zj ho;rw[o1] at hn;rw[o2] at hc;simp[R3,Ev,hk,hl,dV];refine⟨by omega,_,hn,?_⟩;simp[hk];refine⟨_,hc,?_⟩;simp[hw]
 ·rw[hb];obtain⟨hl,dV,hn,hc⟩:=key k hk;simp[R3,Ev,hk,hl,dV,ho];refine⟨by omega,_,hn,?_⟩;rcases NK ho with⟨o1,o2⟩|⟨o1,o2,o3⟩
  ·simp[o1,o2]
  ·rw[o2] at hc;simp[o1,o3,hk];refine⟨_,hc,?_⟩;simp
 ·rw[hj];simp[R3,Ev]
theorem adL (r:Realm)(h:Small r):aj T 25 [aL r] (.int (dJ r)):=by
 refine .of_tree rfl (lA 105 (by kernel_rfl)) at0 ?_
 have e:dJ r=eZ [eZ [ej r.currencies 8 (fun _=>true),ej (eN r) 40 (l0 r)],eZ [sZ r,ej (fh r) 200 (ou r)],ej (eO r) 20 (mH r),uK r,nK r]:=by
  unfold dJ;simp only[eZ];split<;>(try split)<;>(try split)<;>(try split)<;>simp_all
 rw[e];simp[Ud];refine⟨_,aqQ r h,?_⟩;have h1:=aqR r h;generalize eZ [ej r.currencies 8 (fun _=>true),ej (eN r) 40 (l0 r)]=x1 at*;generalize eZ [sZ r,ej (fh r) 200 (ou r)]=x2 at*;have h2:=aqS r h;generalize ej (eO r) 20 (mH r)=x3 at*;have h3:=aqU r h;generalize uK r=x4 at*;have h4:=aqT r h;generalize nK r=x5 at*;by_cases z1:x1=0
 case neg=>simp[z1,eZ]
 simp[z1,eZ];refine⟨_,h1,?_⟩;by_cases z2:x2=0
 case neg=>simp[z2]
 simp[z2];refine⟨_,h2,?_⟩;by_cases z3:x3=0
 case neg=>simp[z3]
 simp[z3];refine⟨_,h3,?_⟩;by_cases z4:x4=0
 case neg=>simp[z4]
 simp[z4];have e7:(if x5=0 then 0 else x5)=x5:=by split<;>simp_all
 rw[e7];exact h4
end Rm
namespace Rm
open Go Go.Proofs Cx
def fE:Nat→Tm→Int→Int
 |0,_,_=>-1
 |L+1,t,n=>t.args.foldl (fun m a=>if 0≤m then fE L a m else m) (n-1)
theorem size_le:∀(L:Nat) (t:Tm) (n:Int),0≤n→-1≤fE L t n∧fE L t n≤n
 |0,t,n,h=>by simp[fE];omega
 |L+1,t,n,h=>by
  have key:∀(l:List Tm) (m:Int),-1≤m→m≤n→-1≤l.foldl (fun m a=>if 0≤m then fE L a m else m) m∧l.foldl (fun m a=>if 0≤m then fE L a m else m) m≤n:=by
   intro l
   induction l with
   |nil=>intro m h1 h2;exact⟨h1,h2⟩
   |cons a l ih=>
    intro m h1 h2;simp only[FI];split
    ·rename_i hm;have:=size_le L a m hm;exact ih _ this.1 (by omega)
    ·exact ih _ h1 h2
  exact key _ _ (by omega) (by omega)
theorem K8 (L:Nat):∀(l:List Tm) (m:Int),m<0→l.foldl (fun m a=>if 0≤m then fE L a m else m) m=m
 |[],m,h=>rfl
 |a::l,m,h=>by simp only[FI];rw[if_neg (by omega)];exact K8 L l m h
theorem ake {α β:Type}(f:β→α→β)(b:β){l:List α}{k:Nat}(h:k<l.length):(l.take (k+1)).foldl f b=f ((l.take k).foldl f b) l[k]:=by
 rw[gU h,uR];rfl
theorem akd {α β:Type}(f:β→α→β)(b:β)(l:List α)(k:Nat):l.foldl f b=(l.drop k).foldl f ((l.take k).foldl f b):=by
 rw[←uR,L3]
theorem _root_.Cx.Tm.OK.len {t:Tm}(h:t.OK):t.args.length≤9223372036854775807:=by cases h with|mk o n xs h1 h2 h3 h4=>exact h3
theorem _root_.Cx.Tm.OK.arg {t:Tm}(h:t.OK){a:Tm}(ha:a∈t.args):a.OK:=by cases h with|mk o n xs h1 h2 h3 h4=>exact h4 a ha
theorem Rx:∀(L:Nat) (t:Tm) (n:Int),t.OK→0≤n→n≤1000→L≤1000→aj T 147 [cR t,.int n,.int L] (.int (fE L t n))
 |0,t,n,ht,h0,h1,hL=>by
  refine .of_tree rfl WZ afd ?_;simp[Lv,fE]
 |L+1,t,n,ht,h0,h1,hL=>by
  refine .of_tree rfl WZ afd ?_;have tI:IntKind.i64.wrap (n-1)=n-1:=aN (by omega);have hl:=ht.len;have oE:¬((L:Int)+1<1):=by omega
  simp[Lv,tI,oE]
  let g:Nat→Int:=fun k=>(t.args.take k).foldl (fun m a=>if 0≤m then fE L a m else m) (n-1)
  have gb:∀k,-1≤g k∧g k≤1000:=by
   intro k;have:g k=fE (L+1) (.mk 0 0 (t.args.take k)) n:=rfl;have:=size_le (L+1) (.mk 0 0 (t.args.take k)) n h0;omega
  refine .scan t.args.length (fun k=>0≤g k) (fun k=>[.int (g k),.int k]) (fun _=>[]) ?_ (fun k hk hj ho=>?_) (fun k hk hj ho=>?_) (fun hj=>?_)
  ·simp[g,tI]
  ·have hw:IntKind.i64.wrap ((k:Int)+1)=(k:Int)+1:=aN (by omega);have vX:IntKind.i64.wrap (L:Int)=(L:Int):=aN (by omega);have hg:g (k+1)=fE L t.args[k] (g k):=by
    show(t.args.take (k+1)).foldl _ _=_;rw[ake _ _ hk];show(if 0≤g k then _ else _)=_;rw[if_pos ho]
   rw[hg];have eV:=Rx L t.args[k] (g k) (ht.arg (cq hk)) ho (gb k).2 (by omega);generalize g k=m at*;simp[Sd,EG,hk,ho,vX];refine⟨_,eV,?_⟩;simp[hw]
  ·have hf:fE (L+1) t n=g k:=by
    show t.args.foldl _ _=_;rw[akd _ _ _ k];exact K8 L _ _ (by show g k<0;omega)
   rw[hf];generalize g k=m at*;simp[Sd,EG,hk,ho]
  ·have hf:fE (L+1) t n=g t.args.length:=by
    show t.args.foldl _ _=(t.args.take t.args.length).foldl _ _;rw[xH]
   rw[hf];generalize g t.args.length=m at*;simp[Sd,EG]
theorem adY (t:Tm)(ht:t.OK):aj T 104 [cR t] (.bool (decide (0≤fE 20 t 100))):=by
 refine .of_tree rfl (lA 103 (by kernel_rfl)) auD ?_;simp[UG];refine⟨_,Rx 20 t 100 ht (by omega) (by omega) (by omega),?_⟩;simp
def pH (o:Order):Bool:=(decide (o.rules.length≤60)&&decide (o.choices.length≤60))&&eg o.rules.length (fun k=>decide (0≤fE 20 (o.rules.getD k default).term 100))
theorem ad3 (o:Order)(ho:o.OK):aj T 57 [gq o] (.bool (pH o)):=by
 refine .of_tree rfl (lA 102 (by kernel_rfl)) auQ ?_;simp[UM];by_cases h1:(o.rules.length:Int)≤60
 case neg=>
  have cr:(60:Int)<o.rules.length:=by omega
  have hf:pH o=false:=by
   have:decide (o.rules.length≤60)=false:=decide_eq_false (by omega);simp only[pH,this,qE]
  simp[cr,hf]
 by_cases h2:(o.choices.length:Int)≤60
 case neg=>
  have cr:(60:Int)<o.choices.length:=by omega
  have hf:pH o=false:=by
   have:decide (o.choices.length≤60)=false:=decide_eq_false (by omega);simp only[pH,this,qE,xw]
  simp[cr,hf]
 have cr:¬(60:Int)<o.rules.length:=by omega
 have gF:¬(60:Int)<o.choices.length:=by omega
 have hf:pH o=eg o.rules.length (fun k=>decide (0≤fE 20 (o.rules.getD k default).term 100)):=by
  have e1:decide (o.rules.length≤60)=true:=decide_eq_true (by omega);have e2:decide (o.choices.length≤60)=true:=decide_eq_true (by omega);simp only[pH,e1,e2,uO]
 rw[hf];simp[cr,gF];have hO:=ho.2.2;refine fN o.rules.length (fun k=>decide (0≤fE 20 (o.rules.getD k default).term 100)) (fun k=>[.bool false,.int k]) (fun _=>[]) ?_ (fun k hk ho=>?_) (fun k hk ho hb=>?_) (fun hj=>?_)
 ·simp
 ·have hw:=ba hk (by omega);simp[hk] at ho;simp[Sf,EI,hk];refine⟨_,adY _ (hO _ (cq hk)).2,?_⟩;simp[ho,hw]
 ·simp only[be] at hb;rw[hb];simp[hk] at ho;simp[Sf,EI,hk];refine⟨_,adY _ (hO _ (cq hk)).2,?_⟩;simp[ho]
 ·simp only[be] at hj;rw[hj];simp[Sf,EI]
def Co (f:File):Bool:=decide ((f.signs.length:Int)≤50)&&decide ((f.alters.length:Int)≤10)&&decide ((f.acts.length:Int)≤110)&&decide ((f.facts.length:Int)≤220)
theorem aq3 (f:File):aj T 56 [cd f] (.bool (Co f)):=by
 refine .of_tree rfl (lA 101 (by kernel_rfl)) aus ?_;simp[UA,Co];by_cases h1:(f.signs.length:Int)≤50<;>by_cases h2:(f.alters.length:Int)≤10<;>by_cases h3:(f.acts.length:Int)≤110<;>by_cases h4:(f.facts.length:Int)≤220<;>
  simp[h1,h2,h3,h4]
end Rm
namespace Rm
open Go Go.Proofs Cx
def Cm (r:Realm)(k:Nat):Bool:=decide (((r.cities.getD k default).feasts.length:Int)≤70)&&decide (((r.cities.getD k default).shut.length:Int)≤210)&&decide (((r.cities.getD k default).rest.length:Int)≤8)
def Cn (r:Realm)(k:Nat):Bool:=decide (((r.orders.getD k default).choices.length:Int)≤40)&&decide (((r.orders.getD k default).rules.length:Int)≤40)
def If (r:Realm):Bool:=decide ((r.currencies.length:Int)<50)&&decide ((r.cities.length:Int)<50)&&decide ((r.groups.length:Int)<50)&&decide ((r.firms.length:Int)<210)&&decide ((r.orders.length:Int)<50)&&decide ((r.usances.length:Int)<110)&&decide ((r.rates.length:Int)<110)&&decide ((r.halts.length:Int)<50)
def oq (r:Realm):Bool:=eg (min r.cities.length 50) (Cm r)&&eg (min r.orders.length 50) (Cn r)&&If r
theorem aqM (r:Realm)(hr:r.OK):aj T 55 [aL r] (.bool (oq r)):=by
 refine .of_tree rfl (lA 100 (by kernel_rfl)) at1 ?_;simp[Ue];refine fN (min r.cities.length 50) (Cm r) (fun k=>[.bool false,.int k]) (fun _=>[]) ?_ (fun k hk ho=>?_) (fun k hk ho hb=>?_) (fun hj=>?_)
 ·simp
 ·have bE:k<r.cities.length:=by omega
  have de:k<50:=by omega
  have hw:=ba de (by omega);simp[Cm,bE] at ho;obtain⟨⟨a1,a2⟩,a3⟩:=ho;have b1:¬(70:Int)<r.cities[k].feasts.length:=by omega
  have b2:¬(210:Int)<r.cities[k].shut.length:=by omega
  have b3:¬(8:Int)<r.cities[k].rest.length:=by omega
  simp[Ej,xb,bE,de,hw,b1,b2,b3];omega
 ·have bE:k<r.cities.length:=by omega
  have de:k<50:=by omega
  have hf:oq r=false:=by simp only[oq,hb,qE]
  rw[hf];simp[Cm,bE] at ho;by_cases b1:(70:Int)<r.cities[k].feasts.length
  ·simp[Ej,xb,bE,de,b1];omega
  by_cases b2:(210:Int)<r.cities[k].shut.length
  ·simp[Ej,xb,bE,de,b1,b2];omega
  have b3:(8:Int)<r.cities[k].rest.length:=by have:=ho (by omega) (by omega);omega
  simp[Ej,xb,bE,de,b1,b2,b3];omega
 ·have hn:¬((min r.cities.length 50:Nat):Int)<r.cities.length∨¬((min r.cities.length 50:Nat):Int)<50:=by omega
  simp[Ej,xb];rw[if_neg (by omega)];refine fN (min r.orders.length 50) (Cn r) (fun k=>[.bool false,.int k]) (fun _=>[]) ?_ (fun k hk ho=>?_) (fun k hk ho hb=>?_) (fun hj2=>?_)
  ·simp
  ·have bE:k<r.orders.length:=by omega
   have de:k<50:=by omega
   have hw:=ba de (by omega);simp[Cn,bE] at ho;obtain⟨a1,a2⟩:=ho;have b1:¬(40:Int)<r.orders[k].choices.length:=by omega
   have b2:¬(40:Int)<r.orders[k].rules.length:=by omega
   simp[Kw,AM,bE,de,hw,b1,b2];omega
  ·have bE:k<r.orders.length:=by omega
   have de:k<50:=by omega
   have hf:oq r=false:=by simp only[oq,hb,qE,xw]
   rw[hf];simp[Cn,bE] at ho;by_cases b1:(40:Int)<r.orders[k].choices.length
   ·simp[Kw,AM,bE,de,b1];omega
   have b2:(40:Int)<r.orders[k].rules.length:=by have:=ho (by omega);omega
   simp[Kw,AM,bE,de,b1,b2];omega
  ·have hf:oq r=If r:=by simp only[oq,hj,hj2,uO]
   rw[hf];simp[Kw,AM];rw[if_neg (by omega)];unfold If;by_cases c1:(r.currencies.length:Int)<50<;>simp[c1];by_cases c2:(r.cities.length:Int)<50<;>simp[c2];by_cases c3:(r.groups.length:Int)<50<;>simp[c3];by_cases c4:(r.firms.length:Int)<210<;>simp[c4];by_cases c5:(r.orders.length:Int)<50<;>simp[c5];by_cases c6:(r.usances.length:Int)<110<;>simp[c6];by_cases c7:(r.rates.length:Int)<110<;>simp[c7]
theorem NH {r:Realm}(hr:r.OK)(h:oq r=true):Small r:=by
 simp only[oq,If,ay,decide_eq_true_eq,uW] at h;obtain⟨⟨h1,h2⟩,⟨⟨⟨⟨⟨⟨⟨c1,c2⟩,c3⟩,c4⟩,c5⟩,c6⟩,c7⟩,c8⟩⟩:=h;obtain⟨k1,⟨k2,k2'⟩,⟨k3,k3'⟩,⟨k4,k4'⟩,⟨k5,k5'⟩,⟨k6,k6'⟩,⟨k7,k7'⟩,⟨k8,k8'⟩⟩:=hr;refine⟨by omega,by omega,by omega,by omega,by omega,by omega,by omega,by omega,fun c hc=>?_,fun o ho=>?_,fun x hx=>?_⟩
 ·obtain⟨k,hk,rfl⟩:=jt hc;have:=h1 k (by omega);simp[Cm,hk] at this;have:=k2' _ hc;exact⟨by omega,by omega,by omega,fun y hy=>this.2.2.2.1.2 y hy⟩
 ·obtain⟨k,hk,rfl⟩:=jt ho;have:=h2 k (by omega);simp[Cn,hk] at this;omega
 ·have:=k7' x hx;exact⟨this.2.2.1,this.2.2.2.1⟩
def re (r:Realm)(f:File):Bool:=(oq r&&Co f)&&eg r.orders.length (fun k=>pH (r.orders.getD k default))
theorem arl (r:Realm)(f:File)(hr:r.OK):aj T 24 [aL r,cd f] (.bool (re r f)):=by
 refine .of_tree rfl (lA 99 (by kernel_rfl)) au3 ?_;simp[UZ];refine⟨_,aqM r hr,?_⟩;cases e1:oq r
 ·simp[re,e1]
 simp;refine⟨_,aq3 f,?_⟩;cases e2:Co f
 ·simp[re,e1,e2]
 have hs:=NH hr e1;have ho:=hs.orders;have hf:re r f=eg r.orders.length (fun k=>pH (r.orders.getD k default)):=by simp only[re,e1,e2,uO]
 rw[hf];simp;have hO:=hr.2.2.2.2.1.2;refine fN r.orders.length (fun k=>pH (r.orders.getD k default)) (fun k=>[.bool false,.int k]) (fun _=>[]) ?_ (fun k hk ho=>?_) (fun k hk ho hb=>?_) (fun hj=>?_)
 ·simp
 ·have hw:=ba hk (by omega);simp[hk] at ho;simp[Sk,EL,hk];refine⟨_,ad3 _ (hO _ (cq hk)),?_⟩;simp[ho,hw]
 ·simp only[be] at hb;rw[hb];simp[hk] at ho;simp[Sk,EL,hk];refine⟨_,ad3 _ (hO _ (cq hk)),?_⟩;simp[ho]
 ·simp only[be] at hj;rw[hj];simp[Sk,EL]
def zm (r:Realm)(f:File):Bool:=re r f&&decide (dJ r=0)
def kp (n:Int):Int:=min (max n (-1099511627776)) 1099511627776
theorem Lh (n:Int):aj T 222 [.int n] (.int (kp n)):=by
 refine .of_tree rfl (lA 37 (by kernel_rfl)) avY ?_;simp[VS,kp];by_cases h1:-1099511627776>n
 ·have:¬(1099511627776:Int)< -1099511627776:=by omega
  simp[h1];omega
 ·by_cases h2:(1099511627776:Int)<n
  ·simp[h1,h2];omega
  ·simp[h1,h2];omega
def jn (v:Int):Int×Bool:=if v<0∨19<v then(0,false) else if v<7 then(0,true) else(1,true)
theorem ae8 (v:Int):aj T 220 [.int v] (.tup [.int (jn v).1,.bool (jn v).2]):=by
 refine .of_tree rfl (lA 38 (by kernel_rfl)) avU ?_;simp[VO,jn];by_cases h1:v<0
 ·simp[h1]
 by_cases h2:19<v
 ·simp[h1,h2]
 by_cases h3:v<7
 ·simp[h1,h2,h3]
 ·simp[h1,h2,h3]
def p5 (t:Tm):Int×Int:=
 if 0<t.args.length then(0,2) else if t.op=0 then(if kp t.n≠t.n then(0,3) else(0,0)) else if t.op=1 then(if t.n<0∨1<t.n then(0,3) else(1,0)) else if(jn t.n).2=false then(0,10) else((jn t.n).1,0)
theorem asY (t:Tm):aj T 218 [cR t] (.tup [.int (p5 t).1,.int (p5 t).2]):=by
 refine .of_tree rfl (lA 36 (by kernel_rfl)) avZ ?_;simp[VT,p5];by_cases h0:0<t.args.length
 ·have eI:(0:Int)<t.args.length:=by omega
  simp[h0,eI]
 simp[h0];by_cases h1:t.op=0
 ·simp[h1];refine⟨_,Lh _,?_⟩;by_cases h2:kp t.n=t.n<;>simp[h2]
 by_cases h2:t.op=1
 ·simp[h1,h2];by_cases h3:t.n<0<;>by_cases h4:1<t.n<;>simp[h3,h4]
 simp[h1,h2];refine⟨_,ae8 _,?_⟩;cases h3:(jn t.n).2<;>simp[h3]
def dh (op:Int):List Int×Int:=
 if op=3 then([1],1) else if op=4∨op=5 then([1,1],1) else if op=6 then([1,-1,-1],-1) else if op=7 then([0,0],1) else if op=8 then([-1,-1],1) else([0,0],0)
def Ci (s:List Int×Int):D:=.agg [ints s.1,.int s.2]
@[simp] theorem ayd (s:List Int×Int):(Ci s).cells=[ints s.1,.int s.2]:=_root_.id rfl
@[simp] theorem ayb (s:List Int×Int):(Ci s).c 0=ints s.1:=_root_.id rfl
@[simp] theorem ayc (s:List Int×Int):(Ci s).c 1=.int s.2:=_root_.id rfl
@[simp] theorem aCc (s:List Int×Int):D.agg [ints s.1,.int s.2]=Ci s:=_root_.id rfl
@[simp] theorem aC4 (x y:Int):sv (.int x) 0 (.int y)=.int y:=_root_.id rfl
theorem as0 (op:Int):aj T 219 [.int op] (Ci (dh op)):=by
 refine .of_tree rfl (lA 39 (by kernel_rfl)) av3 ?_;simp[VW,dh];by_cases h3:op=3
 ·simp[h3];rfl
 by_cases h4:op=4
 ·simp[h4];rfl
 by_cases h5:op=5
 ·simp[h5];rfl
 by_cases h6:op=6
 ·simp[h6];rfl
 by_cases h7:op=7
 ·simp[h7];rfl
 by_cases h8:op=8
 ·simp[h8];rfl
 simp[h3,h4,h5,h6,h7,h8];rfl
end Rm
namespace Rm
open Go Go.Proofs Cx
def cO (f:Tm→Int):List Tm→Int→Int
 |[],n=>n
 |a::l,n=>if 60<n+f a then n+f a else cO f l (n+f a)
def bo:Nat→Tm→Int
 |0,_=>61
 |L+1,t=>cO (bo L) t.args 1
def dD (f:Tm→Int)(l:List Tm):Int:=(l.map f).sum
theorem Jr {f:Tm→Int}{l:List Tm}{k:Nat}(h:k<l.length):dD f (l.take (k+1))=dD f (l.take k)+f l[k]:=by
 unfold dD;rw[A3 f h,List.sum_append];simp
theorem aaI {f:Tm→Int}:∀{l:List Tm} {n:Int} {k:Nat},(hk:k<l.length)→(∀j,j<k→n+dD f (l.take (j+1))≤60)→60<n+dD f (l.take (k+1))→cO f l n=n+dD f (l.take (k+1))
 |a::l,n,0,hk,_,h=>by
  simp[dD] at h ⊢;unfold cO;rw[if_pos (by omega)]
 |a::l,n,k+1,hk,hj,h=>by
  have h0:=hj 0 (by omega);simp[dD] at h0;unfold cO;rw[if_neg (by omega)];have e:∀j,n+dD f ((a::l).take (j+1+1))=n+f a+dD f (l.take (j+1)):=by intro j;simp[dD];omega
  rw[aaI (l:=l) (k:=k) (by simpa using hk) (fun j vH=>by have:=hj (j+1) (by omega);rw[e] at this;exact this) (by rw[←e];exact h),e]
theorem aaK {f:Tm→Int}:∀{l:List Tm} {n:Int},(∀j,j<l.length→n+dD f (l.take (j+1))≤60)→cO f l n=n+dD f l
 |[],n,_=>by simp[cO,dD]
 |a::l,n,hj=>by
  have h0:=hj 0 (by simp);simp[dD] at h0;unfold cO;rw[if_neg (by omega)];have e:∀j,n+dD f ((a::l).take (j+1+1))=n+f a+dD f (l.take (j+1)):=by intro j;simp[dD];omega
  rw[aaK (l:=l) (fun j gI=>by have:=hj (j+1) (by simpa using gI);rw[e] at this;exact this)];simp[dD];omega
theorem aaJ {f:Tm→Int}(hf:∀a,1≤f a):∀{l:List Tm} {n:Int},n≤cO f l n
 |[],n=>by simp[cO]
 |a::l,n=>by
  unfold cO;have:=hf a;split
  ·omega
  ·have:=aaJ hf (l:=l) (n:=n+f a);omega
theorem tU:∀(L:Nat) (t:Tm),1≤bo L t
 |0,t=>by simp[bo]
 |L+1,t=>aaJ (tU L)
theorem aaL {f:Tm→Int}{B:Int}(hf:∀a,f a≤B)(hB:0≤B):∀{l:List Tm} {n:Int},n≤60→cO f l n≤60+B
 |[],n,h=>by simp[cO];omega
 |a::l,n,h=>by
  unfold cO;have:=hf a;split
  ·omega
  ·exact aaL hf hB (by omega)
theorem aaN:∀(L:Nat) (t:Tm),bo L t≤61+60*L
 |0,t=>by simp[bo]
 |L+1,t=>by
  have:=aaL (f:=bo L) (fun a=>aaN L a) (by omega) (l:=t.args) (n:=1) (by omega);show cO _ _ _≤_;omega
theorem aaM {f:Tm→Int}(hf:∀a,1≤f a):∀{l:List Tm} {n:Int},cO f l n≤60→(n:Int)+l.length≤60∧∀a,a∈l→f a≤60-n
 |[],n,h=>by simp[cO] at h ⊢;exact h
 |a::l,n,h=>by
  unfold cO at h;have:=hf a;split at h
  ·omega
  ·obtain⟨h1,h2⟩:=aaM hf h;refine⟨by simp;omega,fun b hb=>?_⟩;rcases di.1 hb with rfl|hb
   ·omega
   ·have:=h2 b hb;omega
theorem Dz {L:Nat}{t:Tm}(h:bo (L+1) t≤60):t.args.length≤59∧∀a,a∈t.args→bo L a≤60:=by
 obtain⟨h1,h2⟩:=aaM (tU L) h;exact⟨by omega,fun a ha=>by have:=h2 a ha;omega⟩
theorem Tj:∀(L:Nat) (t:Tm) (lv:Int),t.OK→L≤8→lv=9-(L:Int)→aj T 201 [cR t,.int lv] (.int (bo L t))
 |0,t,lv,ht,hL,Oy=>by
  refine .of_tree rfl W2 aff ?_;subst Oy;simp[Ly,bo]
 |L+1,t,lv,ht,hL,Oy=>by
  refine .of_tree rfl W2 aff ?_;have hl:=ht.len;have h8:¬(8<lv):=by omega
  have vX:IntKind.i64.wrap (lv+1)=lv+1:=aN (by omega);simp[Ly,h8];refine .scan t.args.length (fun k=>1+dD (bo L) (t.args.take (k+1))≤60) (fun k=>[.int (1+dD (bo L) (t.args.take k)),.int k]) (fun _=>[]) ?_ (fun k hk hj ho=>?_) (fun k hk hj ho=>?_) (fun hj=>?_)
  ·simp[dD]
  all_goals try rw[Jr hk] at ho
  ·have hw:IntKind.i64.wrap ((k:Int)+1)=(k:Int)+1:=aN (by omega);have eV:=Tj L t.args[k] (lv+1) (ht.arg (cq hk)) (by omega) (by omega);rw[Jr hk];have hs:0≤dD (bo L) (t.args.take k):=by
    unfold dD;have:∀(l:List Tm),0≤(l.map (bo L)).sum:=by
     intro l
     induction l with
     |nil=>simp
     |cons a l ih=>have:=tU L a;simp;omega
    exact this _
   have jd:=tU L t.args[k];generalize dD (bo L) (t.args.take k)=m at*;generalize bo L t.args[k]=v at*;have rD:IntKind.i64.wrap (1+m+v)=1+m+v:=aN (by omega);have fp:¬60<1+m+v:=by omega
   simp[SP,Fc,hk,vX];refine⟨_,eV,?_⟩;simp[rD,fp,hw];omega
  ·have eV:=Tj L t.args[k] (lv+1) (ht.arg (cq hk)) (by omega) (by omega);have hf:bo (L+1) t=1+dD (bo L) (t.args.take (k+1)):=aaI hk hj (by rw[Jr hk];omega);rw[hf,Jr hk];have hs:0≤dD (bo L) (t.args.take k)∧1+dD (bo L) (t.args.take k)≤60:=by
    constructor
    ·unfold dD;have:∀(l:List Tm),0≤(l.map (bo L)).sum:=by
       intro l
       induction l with
       |nil=>simp
       |cons a l ih=>have:=tU L a;simp;omega
     exact this _
    ·cases k with
     |zero=>simp[dD]
     |succ k=>exact hj k (by omega)
   have jd:=tU L t.args[k];have dT:=aaN L t.args[k];generalize dD (bo L) (t.args.take k)=m at*;generalize bo L t.args[k]=v at*;have rD:IntKind.i64.wrap (1+m+v)=1+m+v:=aN (by omega);have fp:60<1+m+v:=by omega
   simp[SP,Fc,hk,vX];refine⟨_,eV,?_⟩;simp[rD,fp];omega
  ·have hf:bo (L+1) t=1+dD (bo L) t.args:=aaK hj;rw[hf];simp[SP,Fc]
def mC (ws ts:List Int):Nat→Int
 |0=>-1
 |k+1=>if ws.getD k 0=-1∧mC ws ts k=-1 then ts.getD k 0 else mC ws ts k
def nq (ws ts:List Int)(k:Nat):Bool:=if ws.getD k 0=-1 then decide (mC ws ts k=-1)||decide (ts.getD k 0=mC ws ts k) else decide (ts.getD k 0=ws.getD k 0)
def p7 (t:Tm)(ks:List Int):Int×Int:=
 if t.op<0∨13<t.op then(0,1) else if t.op=0∨t.op=1∨t.op=2 then p5 t else
 if ks.length≠(dh t.op).1.length∨t.n≠0 then(0,2) else
 if eg (dh t.op).1.length (nq (dh t.op).1 ks)=false then(0,11) else if(dh t.op).2=-1 then(mC (dh t.op).1 ks (dh t.op).1.length,0) else((dh t.op).2,0)
def bt:Nat→Tm→Int×Int
 |0,_=>(0,0)
 |L+1,t=>if kq t.args.length (fun k=>(bt L (t.args.getD k default)).2)≠0 then(0,kq t.args.length (fun k=>(bt L (t.args.getD k default)).2)) else p7 t (t.args.map fun a=>(bt L a).1)
theorem B1 (L:Nat)(t:Tm):bt (L+1) t=if kq t.args.length (fun k=>(bt L (t.args.getD k default)).2)≠0 then(0,kq t.args.length (fun k=>(bt L (t.args.getD k default)).2)) else p7 t (t.args.map fun a=>(bt L a).1):=rfl
theorem S8 {α:Type}(A:List α)(z:α){k n:Nat}(hA:A.length=n)(hk:k<n):(A.take k++List.replicate (n-k) z).set k A[k]=A.take (k+1)++List.replicate (n-(k+1)) z:=by
 have h1:(A.take k).length=k:=by rw[dZ];omega
 rw[List.set_append_right _ _ (by omega),h1,L5];have:n-k=(n-(k+1))+1:=by omega
 rw[this,List.replicate_succ,List.set_cons_zero,gU (by omega),nS];rfl
theorem asx (op:Int):(dh op).1.length≤3:=by
 unfold dh;repeat' split
 all_goals simp
theorem Ti:∀(L:Nat) (t:Tm),t.OK→bo L t≤60→aj T 202 [cR t] (.tup [.int (bt L t).1,.int (bt L t).2])
 |0,t,ht,hm=>by simp[bo] at hm
 |L+1,t,ht,hm=>by
  refine .of_tree rfl (lA 35 (by kernel_rfl)) avW ?_;obtain⟨hl,hp⟩:=Dz hm;simp[VQ];refine⟨by omega,?_⟩;refine sq t.args.length (fun k=>(bt L (t.args.getD k default)).2) (fun k=>[.int 0,.int 0,.int k]) (fun k=>[ints ((t.args.map fun a=>(bt L a).1).take k++List.replicate (t.args.length-k) 0)]) ?_ (fun k hk ho=>?_) (fun k hk ho hb=>?_) (fun hj=>?_)
  ·simp[ints]
  ·have hw:=ba hk (by omega);have cI:=cq hk;have eV:=Ti L t.args[k] (ht.arg cI) (hp _ cI);have hs:=S8 (t.args.map fun a=>(bt L a).1) 0 (n:=t.args.length) (by simp) hk;rw[←hs];have hlen:((t.args.map fun a=>(bt L a).1).take k++List.replicate (t.args.length-k) (0:Int)).length=t.args.length:=by simp;omega
   have CM:(t.args.map fun a=>(bt L a).1)[k]'(by simpa using hk)=(bt L t.args[k]).1:=by simp
   rw[CM];generalize (t.args.map fun a=>(bt L a).1).take k++List.replicate (t.args.length-k) (0:Int)=A at*;simp[hk] at ho;rw[ho] at eV;generalize (bt L t.args[k]).1=kd at*;simp[SN,Fa,hk];refine⟨_,eV,?_⟩;simp[hlen,hk,hw,ints]
  ·have cI:=cq hk;have eV:=Ti L t.args[k] (ht.arg cI) (hp _ cI);have hf:bt (L+1) t=(0,(bt L (t.args.getD k default)).2):=by
    rw[B1,hb,if_pos ho]
   rw[hf];simp[hk] at ho ⊢;simp[SN,Fa,hk];refine⟨_,eV,?_⟩;simp[ho]
  ·have hf:bt (L+1) t=p7 t (t.args.map fun a=>(bt L a).1):=by
    rw[B1,hj];simp
   rw[hf]
   have e0:(t.args.map fun a=>(bt L a).1).take t.args.length++List.replicate (t.args.length-t.args.length) 0=t.args.map fun a=>(bt L a).1:=by
    rw[L5,Bn (by simp)];simp
   rw[e0];have Zb:(t.args.map fun a=>(bt L a).1).length=t.args.length:=by simp
   generalize (t.args.map fun a=>(bt L a).1)=ks at*;simp[SN,Fa];unfold p7;by_cases h1:t.op<0
   ·simp[h1]
   by_cases h2:13<t.op
   ·simp[h1,h2]
   simp[h1,h2];by_cases h3:t.op=0∨t.op=1∨t.op=2
   ·have gr:(t.op=0∨t.op=1)∨t.op=2:=by omega
    simp[h3,gr];refine⟨_,asY t,?_⟩;simp
   have gr:¬((t.op=0∨t.op=1)∨t.op=2):=by omega
   simp[h3,gr];refine⟨_,as0 _,?_⟩;have I6:=asx t.op;generalize dh t.op=sh at*;simp;by_cases h4:ks.length=sh.1.length
   case neg=>
    have m5:¬((ks.length:Int)=sh.1.length):=by omega
    have Ir:¬t.args.length=sh.1.length:=by omega
    simp[h4,m5,Ir]
   have m5:(ks.length:Int)=sh.1.length:=by omega
   have Ir:t.args.length=sh.1.length:=by omega
   by_cases h5:t.n=0
   case neg=>simp[h4,m5,Ir,h5]
   simp[h4,m5,Ir,h5];refine fN sh.1.length (nq sh.1 ks) (fun k=>[.int 0,.int 0,.int (mC sh.1 ks k),.int k]) (fun _=>[]) ?_ (fun k hk ho=>?_) (fun k hk ho hb=>?_) (fun hj=>?_)
   ·simp[mC]
   ·have hw:=ba hk (by omega);have de:k<ks.length:=by omega
    simp only[mC];unfold nq at ho;simp only[be,bW hk,bW de,ki] at ho ⊢;generalize mC sh.1 ks k=c at*;by_cases a1:sh.1[k]=-1
    ·by_cases a2:c=-1
     ·simp[AV,um,hk,de,hw,ints,a1,a2]
     ·simp[a1,a2] at ho;simp[AV,um,hk,de,hw,ints,a1,a2,ho]
    ·simp[a1] at ho;simp[AV,um,hk,de,hw,ints,a1,ho]
   ·rw[hb];have de:k<ks.length:=by omega
    unfold nq at ho;simp only[be,bW hk,bW de,ki] at ho;generalize mC sh.1 ks k=c at*;by_cases a1:sh.1[k]=-1
    ·by_cases a2:c=-1
     ·simp[a1,a2] at ho
     ·simp[a1,a2] at ho;simp[AV,um,hk,de,ints,a1,a2,ho]
    ·simp[a1] at ho;simp[AV,um,hk,de,ints,a1,ho]
   ·rw[hj];simp[AV,um];by_cases a1:sh.2=-1<;>simp[a1]
def jb (t:Tm):Int×Int:=if 60<bo 8 t then(0,6) else bt 8 t
theorem ae7 (t:Tm)(ht:t.OK):aj T 179 [cR t] (.tup [.int (jb t).1,.int (jb t).2]):=by
 refine .of_tree rfl (lA 33 (by kernel_rfl)) avS ?_;simp[VM,jb];refine⟨_,Tj 8 t 1 ht (by omega) (by omega),?_⟩;by_cases h:60<bo 8 t
 ·simp[h]
 simp[h];refine⟨_,Ti 8 t ht (by omega),?_⟩;simp
end Rm
