/-
  Shared texts of this claim.
-/
import Derived.Test.YtefchokhgdmamaaGreatDoorMAM
import Derived.Test.YtefchokhgdmamaaGreatDoorMAN
import Derived.Test.YtefchokhgdmamaaGreatDoorMAO
import Derived.Test.YtefchokhgdmamaaGreatDoorMAK
import Derived.Test.YtefchokhgdmamaaGreatDoorMAL
import Derived.Test.YtefchokhgdmamaaGreatDoorMAJ
import Derived.WalkKit
import Derived.WalkSpells
import Derived.Lib.SliceRun
import Derived.Lib.AppendZeros
import Derived.Laws.Strings
import Derived.Lib.Mul64
set_option linter.defProp false
set_option linter.unusedVariables false
set_option maxRecDepth 100000
noncomputable section
open Go.IntKind (i64)
namespace Rm
open Go Go.Proofs Cx
def SX:List Nat:=[3,8,22,23,10,13,30,63,81,103,123,104,125,124,140,106,55,126,127,82,105,128,84,107,130,129,141,108,64,85,110,109,111,131,132,142,146,144,143,86,112,133,145,134,147,156,157,135,27,28,61,12,9,24,47,48,49,78,100,25,50,51,79,101,102,122,52,53,54,80,56,57,58,59,60,26,21,42,73,74,75,43,44,76,98,99,45,77,46,38,70,37,11,19,20,29,62,41,17,40,14,31,65,69,95,96,117,118,119,87,89,120,66,67,88,90,113,68,91,93,114,136,149,150,152,151,115,94,92,116,137,153,138,139,154,155,15,34,32,36]
def Cr:List (Nat×PC):=[(3,(ae IB)),(8,(ae ID)),(22,(ae IE)),(23,(ae IC)),(10,(ae z8)),(13,(ae It)),(30,(ae Il)),(63,(ae Io)),(81,(ae Ip)),(103,(ae AM)),(123,(ae Jv)),(104,(ae AO)),(125,(ae Jt)),(124,(ae Jw)),(140,(ae AQ)),(106,(ae Jq)),(55,(ae Jr)),(126,(ae Ju)),(127,(ae AN)),(82,(ae IG)),(105,(ae Jy)),(128,(ae AU)),(84,(ae Ac)),(107,(ae Iz)),(130,(ae IA)),(129,(ae Jx)),(141,(ae AT)),(108,(ae Ad)),(64,(ae IF)),(85,(ae II)),(110,(ae IJ)),(109,(ae AS)),(111,(ae JA)),(131,(ae xR)),(132,(ae AW)),(142,(ae JG)),(146,(ae JF)),(144,(ae JC)),(143,(ae JJ)),(86,(ae JB)),(112,(ae AX)),(133,(ae JH)),(145,(ae JK)),(134,(ae JE)),(147,(ae JD)),(156,(ae JI)),(157,(ae Is)),(135,(ae AP)),(27,(ae xO)),(28,(ae Aa)),(61,(ae Iw)),(12,(ae Ah)),(9,(ae DH)),(24,(ae Au)),(47,(ae Ai)),(48,(ae IU)),(49,(ae Ap)),(78,(ae I1)),(100,(ae xQ)),(25,(ae AB)),(50,(ae AH)),(51,(ae AF)),(79,(ae Js)),(101,(ae AG)),(102,(ae Jz)),(122,(ae AV)),(52,(ae Jm)),(53,(ae Jn)),(54,(ae AE)),(80,(ae AK)),(56,(ae Jo)),(57,(ae Jp)),(58,(ae AI)),(59,(ae AL)),(60,(ae AJ)),(26,(ae DI)),(21,(ae xP)),(42,(ae DJ)),(73,(ae JL)),(74,(ae JM)),(75,(ae AD)),(43,(ae Ag)),(44,(ae IN)),(76,(ae IM)),(98,(ae IL)),(99,(ae IP)),(45,(ae Ae)),(77,(ae IK)),(46,(ae Af)),(38,(ae Ix)),(70,(ae Iy)),(37,(ae Ab)),(11,(ae Az)),(19,(ae Ax)),(20,(ae Aw)),(29,(ae Jl)),(62,(ae AA)),(41,(ae Jk)),(17,(ae Ay)),(40,(ae Ji)),(14,(ae Jj)),(31,(ae Jg)),(65,(ae Av)),(69,(ae Jh)),(95,(ae Ak)),(96,(ae Am)),(117,(ae IW)),(118,(ae IX)),(119,(ae IV)),(87,(ae IS)),(89,(ae IT)),(120,(ae Al)),(66,(ae Jc)),(67,(ae As)),(88,(ae At)),(90,(ae Jf)),(113,(ae Ar)),(68,(ae Jb)),(91,(ae Je)),(93,(ae Aq)),(114,(ae IY)),(136,(ae Ao)),(149,(ae I5)),(150,(ae I7)),(152,(ae I4)),(151,(ae I6)),(115,(ae Jd)),(94,(ae IQ)),(92,(ae I0)),(116,(ae An)),(137,(ae I3)),(153,(ae IZ)),(138,(ae I8)),(139,(ae I9)),(154,(ae Ja)),(155,(ae I2)),(15,(ae Aj)),(34,(ae AR)),(32,(ae Iu)),(36,(ae Iv))]
def tab:Nat->Option PC:=bS Cr
def aer:Cr.map (·.1)=SX:=by kernel_rfl
def ast:(Cr.map (·.1)).Nodup:=by rw[aer];exact nJ (by kernel_rfl)
def lA (k:Nat){f:Nat}{x:PC}(h:Cr[k]?=some (f,x):=by kernel_rfl):tab f=some x:=ab0 ast h
def Ye:tab 131=some (ae xR):=lA 33 (by kernel_rfl)
def Yc:tab 27=some (ae xO):=lA 48 (by kernel_rfl)
def aii:tab 9=some (ae DH):=lA 52 (by kernel_rfl)
def Yd:tab 100=some (ae xQ):=lA 58 (by kernel_rfl)
def aik:tab 26=some (ae DI):=lA 75 (by kernel_rfl)
def aij:tab 21=some (ae xP):=lA 76 (by kernel_rfl)
def aim:tab 42=some (ae DJ):=lA 77 (by kernel_rfl)
def caps:∀f cs,bS O9 f=some cs->(nF cs.args cs.res=none->bS xg f=some ⟨cs.args++cs.caps,cs.res,.dat⟩)/\∀ys,nF cs.args cs.res=some ys->gB SX f=false/\Hn Tryz.prog f=true:=Yt (l:=O9) (sig:=xg) (P:=Tryz.prog) (pcs:=SX) (by kernel_rfl)
def clos:eU ctx:=⟨(λf cs h=>(caps f cs h).1),λf s h=>agw (l:=xg) (P:=Tryz.prog) (by kernel_rfl) f s h⟩
def its:∀f cs ys,ctx.cap f=some cs->nF cs.args cs.res=some ys->tab f=none/\∃fn,ctx.P.funcs[f]?=some fn/\fn.body.isSome=true/\(fn.name== "runtime.NumGoroutine")=false:=λf cs ys h hi=>⟨abS (l:=Cr) (by rw[aer];exact((caps f cs h).2 ys hi).1),auN ((caps f cs h).2 ys hi).2⟩
def auD:∀f pc,tab f=some pc->∃fn s ids fr nh,ctx.P.funcs[f]?=some fn/\ctx.sig f=some s/\nu {ctx with fr:=fr,nh:=nh} fn s ids=some pc:=
 RY (R:=λf pc=>∃fn s ids fr nh,ctx.P.funcs[f]?=some fn/\ctx.sig f=some s/\nu {ctx with fr:=fr,nh:=nh} fn s ids=some pc) (l:=Cr)
  (aE (aF [8,12] [16,17,18,19,20,21,22,23] [] Tryz.func3 rfl (aD IB acW))
  (aE (aF [5,6] [0,1,2,3] [] Tryz.func8 rfl (aD ID acZ))
  (aE (aF [9,10] [8,11,12,13] [] Tryz.func22 rfl (aD IE ac0))
  (aE (aF [2,3,4,12292,5,6,20486,24582,28678,32774,7,69639,73735] [] [] Tryz.func23 rfl (aD IC acX))
  (aE (aF [5,9,11,96] [10,12,13,14,15,17,18,19,20] [] Tryz.func10 rfl (aD z8 B7))
  (aE (aF [5,9,11,12] [10,13,14,31,48] [] Tryz.func13 rfl (aD It acO))
  (aE (aF [4,7,8,9] [10] [] Tryz.func30 rfl (aD Il acI))
  (aE (aF [4,7,8,10,16394] [9,11,12,13,14] [] Tryz.func63 rfl (aD Io acJ))
  (aE (aF [2,3,4] [5] [] Tryz.func81 rfl (aD Ip acK))
  (aE (aF [2,4,65540,69636,73732,77828,5,65541,69637,73733,77829,7,31,9,49,11,13] [1000004,1000005] [] Tryz.func103 rfl (aD AM Ca))
  (aE (aF [] [4] [] Tryz.func123 rfl (aD Jv adR))
  (aE (aF [2,3,5,6,8,10,90,139] [4,7,9,11,12,13,14,15,16] [] Tryz.func104 rfl (aD AO LQ))
  (aE (aF [2] [3] [] Tryz.func125 rfl (aD Jt adP))
  (aE (aF [] [4] [] Tryz.func124 rfl (aD Jw adS))
  (aE (aF [] [4,5] [] Tryz.func140 rfl (aD AQ SI))
  (aE (aF [2] [4] [] Tryz.func106 rfl (aD Jq adM))
  (aE (aF [] [4] [] Tryz.func55 rfl (aD Jr adN))
  (aE (aF [2] [] [] Tryz.func126 rfl (aD Ju adQ))
  (aE (aF [3,6,8] [] [] Tryz.func127 rfl (aD AN SH))
  (aE (aF [] [2,3,4,11] [] Tryz.func82 rfl (aD IG ac2))
  (aE (aF [] [4] [] Tryz.func105 rfl (aD Jy adU))
  (aE (aF [] [4,5] [] Tryz.func128 rfl (aD AU SM))
  (aE (aF [4,10,53] [8,9,11,12,13,14,55,70] [] Tryz.func84 rfl (aD Ac Sc))
  (aE (aF [4,9] [8] [] Tryz.func107 rfl (aD Iz acU))
  (aE (aF [] [3] [] Tryz.func130 rfl (aD IA acV))
  (aE (aF [] [4] [] Tryz.func129 rfl (aD Jx adT))
  (aE (aF [] [4,5] [] Tryz.func141 rfl (aD AT SL))
  (aE (aF [4,11] [8,9] [] Tryz.func108 rfl (aD Ad Sd))
  (aE (aF [3,6,8,10] [7,9,11,12] [] Tryz.func64 rfl (aD IF ac1))
  (aE (aF [2,3,4,12292,9] [5,6,7,8,10,11] [] Tryz.func85 rfl (aD II ac3))
  (aE (aF [2] [3] [] Tryz.func110 rfl (aD IJ ac4))
  (aE (aF [] [4,5] [] Tryz.func109 rfl (aD AS SK))
  (aE (aF [1] [2,3] [] Tryz.func111 rfl (aD JA adW))
  (aE (aF [2,7,12295] [4,5] [] Tryz.func131 rfl (aD xR SP))
  (aE (aF [1,4,6,12294,9] [2,3,5,7,8,38,47,10,11,12] [] Tryz.func132 rfl (aD AW LS))
  (aE (aF [1] [2,3,12,20,4,5] [] Tryz.func142 rfl (aD JG ad2))
  (aE (aF [] [2] [] Tryz.func146 rfl (aD JF ad1))
  (aE (aF [] [2,3,4,11] [] Tryz.func144 rfl (aD JC adY))
  (aE (aF [2] [4,8,13,17,21] [] Tryz.func143 rfl (aD JJ ad5))
  (aE (aF [2,4,7] [5,6,8] [] Tryz.func86 rfl (aD JB adX))
  (aE (aF [2,3,4,6,33,7,8,10,12298,12] [5,15,21,9,11] [] Tryz.func112 rfl (aD AX SO))
  (aE (aF [2,4] [5,6] [] Tryz.func133 rfl (aD JH ad3))
  (aE (aF [2] [] [] Tryz.func145 rfl (aD JK ad6))
  (aE (aF [4,5] [9,22,41,6,7,82,88,94] [] Tryz.func134 rfl (aD JE ad0))
  (aE (aF [] [6,8,14,20,25] [] Tryz.func147 rfl (aD JD adZ))
  (aE (aF [] [4,5,6,7] [] Tryz.func156 rfl (aD JI ad4))
  (aE (aF [] [4,5,6,7,8,9,10,11,12,13] [] Tryz.func157 rfl (aD Is acN))
  (aE (aF [6] [2,3,5,8] [] Tryz.func135 rfl (aD AP LR))
  (aE (aF [5,29,32] [4,6,8] [] Tryz.func27 rfl (aD xO LI))
  (aE (aF [3,6] [7,8] [] Tryz.func28 rfl (aD Aa Sa))
  (aE (aF [2] [4] [] Tryz.func61 rfl (aD Iw acR))
  (aE (aF [] [4,5] [] Tryz.func12 rfl (aD Ah Si))
  (aE (aF [2,3] [4] [] Tryz.func9 rfl (aD DH acY))
  (aE (aF [2,3] [4,5] [] Tryz.func24 rfl (aD Au Su))
  (aE (aF [1] [2,3,4] [] Tryz.func47 rfl (aD Ai LK))
  (aE (aF [1] [2] [] Tryz.func48 rfl (aD IU adg))
  (aE (aF [1] [2,3] [] Tryz.func49 rfl (aD Ap So))
  (aE (aF [1] [2] [] Tryz.func78 rfl (aD I1 adn))
  (aE (aF [3] [6,1,7] [] Tryz.func100 rfl (aD xQ Sm))
  (aE (aF [1,9] [2,3,4,5,6,7,10,11,12] [] Tryz.func25 rfl (aD AB SA))
  (aE (aF [1,2,3,4,6,16390,20486,24582,21,8,34,10,12298,16394,47] [] [] Tryz.func50 rfl (aD AH FP))
  (aE (aF [] [6,7,8] [] Tryz.func51 rfl (aD AF SD))
  (aE (aF [] [4] [] Tryz.func79 rfl (aD Js adO))
  (aE (aF [] [2,3,4,5] [] Tryz.func101 rfl (aD AG SF))
  (aE (aF [] [4] [] Tryz.func102 rfl (aD Jz adV))
  (aE (aF [] [4,5] [] Tryz.func122 rfl (aD AV SN))
  (aE (aF [] [2] [] Tryz.func52 rfl (aD Jm adI))
  (aE (aF [] [3] [] Tryz.func53 rfl (aD Jn adJ))
  (aE (aF [2,3] [4,6] [] Tryz.func54 rfl (aD AE SC))
  (aE (aF [] [6,7,8] [] Tryz.func80 rfl (aD AK SG))
  (aE (aF [] [3] [] Tryz.func56 rfl (aD Jo adK))
  (aE (aF [] [3] [] Tryz.func57 rfl (aD Jp adL))
  (aE (aF [1,3,4,6,19,8,16392,36] [2] [] Tryz.func58 rfl (aD AI LN))
  (aE (aF [1,4,6] [2,3] [] Tryz.func59 rfl (aD AL LP))
  (aE (aF [1,4,6] [2] [] Tryz.func60 rfl (aD AJ LO))
  (aE (aF [1] [2] [] Tryz.func26 rfl (aD DI adf))
  (aE (aF [2,3,10] [4,5,6,7,8,11] [] Tryz.func21 rfl (aD xP LJ))
  (aE (aF [2,3] [4,5,6,7,8,54,80,109,118,9,10] [] Tryz.func42 rfl (aD DJ ad7))
  (aE (aF [] [4] [] Tryz.func73 rfl (aD JL ad8))
  (aE (aF [1,3] [2,8,19,40] [] Tryz.func74 rfl (aD JM ad9))
  (aE (aF [3,9] [6,7] [] Tryz.func75 rfl (aD AD SB))
  (aE (aF [3,4,7,11] [6,8,9,76,92,98] [] Tryz.func43 rfl (aD Ag Sg))
  (aE (aF [] [6] [] Tryz.func44 rfl (aD IN ac8))
  (aE (aF [3,4,7,8] [6,9,10,66,103,113,11,140,149] [] Tryz.func76 rfl (aD IM ac7))
  (aE (aF [3] [6,7] [] Tryz.func98 rfl (aD IL ac6))
  (aE (aF [3] [6] [] Tryz.func99 rfl (aD IP ac9))
  (aE (aF [2,3,6] [4,5,7] [] Tryz.func45 rfl (aD Ae Se))
  (aE (aF [3,4,5] [6,7,8,9,65,80,100,111] [] Tryz.func77 rfl (aD IK ac5))
  (aE (aF [1,4,5] [2,3] [] Tryz.func46 rfl (aD Af Sf))
  (aE (aF [] [4,5,6] [] Tryz.func38 rfl (aD Ix acS))
  (aE (aF [] [2] [] Tryz.func70 rfl (aD Iy acT))
  (aE (aF [] [2,3,5] [] Tryz.func37 rfl (aD Ab Sb))
  (aE (aF [5,9] [10,11,12,13,14,15,16,17,18,19] [] Tryz.func11 rfl (aD Az Sy))
  (aE (aF [4,5] [2,3,6,0] [] Tryz.func19 rfl (aD Ax Sw))
  (aE (aF [] [8,9,10] [] Tryz.func20 rfl (aD Aw LL))
  (aE (aF [7,11] [14,15] [] Tryz.func29 rfl (aD Jl adH))
  (aE (aF [3,6] [7] [] Tryz.func62 rfl (aD AA Sz))
  (aE (aF [2] [4] [] Tryz.func41 rfl (aD Jk adG))
  (aE (aF [4,77828,8,9,12,15] [10,11,13,14,16] [] Tryz.func17 rfl (aD Ay LM))
  (aE (aF [2,3] [4] [] Tryz.func40 rfl (aD Ji adE))
  (aE (aF [5,9,11,12] [10] [] Tryz.func14 rfl (aD Jj adF))
  (aE (aF [4,7,8,9,16393] [10,11,12] [] Tryz.func31 rfl (aD Jg adC))
  (aE (aF [3,5,7,8] [6,9] [] Tryz.func65 rfl (aD Av Sv))
  (aE (aF [2,3] [4] [] Tryz.func69 rfl (aD Jh adD))
  (aE (aF [2,4,46,52,7,69639,77831,81,115] [5,6,8,9] [] Tryz.func95 rfl (aD Ak B9))
  (aE (aF [2,3,5,6,7] [4,8,9,10,11] [] Tryz.func96 rfl (aD Am Sk))
  (aE (aF [2] [] [] Tryz.func117 rfl (aD IW adi))
  (aE (aF [2] [] [] Tryz.func118 rfl (aD IX adj))
  (aE (aF [] [4] [] Tryz.func119 rfl (aD IV adh))
  (aE (aF [2] [4] [] Tryz.func87 rfl (aD IS adb))
  (aE (aF [] [6] [] Tryz.func89 rfl (aD IT ade))
  (aE (aF [3,6] [7] [] Tryz.func120 rfl (aD Al Sj))
  (aE (aF [] [2] [] Tryz.func66 rfl (aD Jc ady))
  (aE (aF [4,10,11,78] [8,9,12,13,14] [] Tryz.func67 rfl (aD As Sr))
  (aE (aF [2] [4,5] [] Tryz.func88 rfl (aD At Ss))
  (aE (aF [4,10] [8,9] [] Tryz.func90 rfl (aD Jf adB))
  (aE (aF [2,4] [5] [] Tryz.func113 rfl (aD Ar Sq))
  (aE (aF [3,6,9] [7,8] [] Tryz.func68 rfl (aD Jb adx))
  (aE (aF [2] [4,5,6,7,8,9] [] Tryz.func91 rfl (aD Je adA))
  (aE (aF [2] [4,5] [] Tryz.func93 rfl (aD Aq Sp))
  (aE (aF [1] [2,3] [] Tryz.func114 rfl (aD IY adk))
  (aE (aF [1,4,33] [2,3,5,6,7,8,9,10] [] Tryz.func136 rfl (aD Ao Sn))
  (aE (aF [] [2,4,8,10] [] Tryz.func149 rfl (aD I5 adr))
  (aE (aF [1] [2,3,4,5] [] Tryz.func150 rfl (aD I7 adt))
  (aE (aF [] [2,3] [] Tryz.func152 rfl (aD I4 adq))
  (aE (aF [] [4,5,7,13,26,44,56] [] Tryz.func151 rfl (aD I6 ads))
  (aE (aF [] [2,3] [] Tryz.func115 rfl (aD Jd adz))
  (aE (aF [] [2,4] [] Tryz.func94 rfl (aD IQ ada))
  (aE (aF [2,4] [5,6] [] Tryz.func92 rfl (aD I0 adm))
  (aE (aF [2,4,5,37] [9,15,6,41,55,64,73] [] Tryz.func116 rfl (aD An Sl))
  (aE (aF [4,5] [6,7] [] Tryz.func137 rfl (aD I3 adp))
  (aE (aF [] [2] [] Tryz.func153 rfl (aD IZ adl))
  (aE (aF [3,4,6] [] [] Tryz.func138 rfl (aD I8 adu))
  (aE (aF [6] [8,14,20,27,34,40] [] Tryz.func139 rfl (aD I9 adv))
  (aE (aF [2] [] [] Tryz.func154 rfl (aD Ja adw))
  (aE (aF [] [4,5,6] [] Tryz.func155 rfl (aD I2 ado))
  (aE (aF [2,3] [4,5,6,7,8] [] Tryz.func15 rfl (aD Aj B8))
  (aE (aF [] [4,5] [] Tryz.func34 rfl (aD AR SJ))
  (aE (aF [3] [4] [] Tryz.func32 rfl (aD Iu acP))
  (aE (aF [3] [4] [] Tryz.func36 rfl (aD Iv acQ))
  trivial))))))))))))))))))))))))))))))))))))))))))))))))))))))))))))))))))))))))))))))))))))))))))))))))))))))))))))))))))))))))))))))))))))))))))))
end Rm
set_option linter.unusedSimpArgs false
namespace Rm
open Go Go.Proofs Cx Go.RowKit Go.Lib
def ao9:(Tryz.prog.info? 3).map (λi=>(i.zero,i.size,i.bytes))=some (some (.int .i64 0),1,8):=by kernel_rfl
set_option maxHeartbeats 2000000 in
set_option maxRecDepth 100000 in
def al6 (w:World):Calls Tryz.prog 148 #[.slice none 0 0,.int .i64 0] w λe w'=>e=.returned (.slice none 0 0)/\w'=w:=by
 go_enter Tryz.func148,Tryz.ntmps148
 go_wp2
 go_ret
 exact⟨rfl,rfl⟩
set_option maxHeartbeats 2000000 in
set_option maxRecDepth 100000 in
def al5 (n:Nat)(w:World)(h0:0<n)(h1:n<=4294967296):Calls Tryz.prog 148 #[.slice none 0 0,.int .i64 n] w λe w'=>
 ∃v',e=.returned v'/\w'.ownsRow w.heap.size 3 1 v' 0 []/\Below w.heap.size w w':=by
 obtain⟨i0,hi,oH,mf,uz⟩:=info_parts ao9;have hr:=run_append_nil_zeros w 46 3 46 3 i0 (.int .i64 0) .i64 .i64 Tryz.underlying46 Tryz.underlying3 hi oH n h0 (by rw[mf];decide) (by omega) (by rw[uz];omega);have hn:¬((n:Int)<0):=by omega
 have qM:(n:Int)>0:=by omega
 have hw:i64.wrap (n:Int)=n:=by rw[IntKind.wrap_i64];omega
 have nC:i64.wrap 0=0:=by decide
 have gx:=grownCap_ge w n 0 3;have hle:=grownCap_le_maxLen w n 0 3 (by unfold maxLen;omega);have hs:(Builtin.zeroCells #[Value.int IntKind.i64 0] n++Builtin.zeroCells #[Value.int IntKind.i64 0] (grownCap w n 0 3-n)).size=grownCap w n 0 3*1:=by
  rw[Xz,size_zeroCells,size_zeroCells];simp;omega
 go_enter Tryz.func148,Tryz.ntmps148
 go_wp2_with (at_builtin;refine wpList_append_run _ rfl _ _ 46 3 rfl _ _ rfl rfl _ _ hr ?qc)
 go_ret
 refine⟨_,rfl,?_,?_⟩
 .exact World.ownsRow.drew (World.ownsRow_made w _ _ (aY _) hle hs)
 .exact((Below.refl _ w).alloc (aY _) _).drew
def J9 (ds:List D):Option D:=
 match ds with
 |[.list [],.v (.int .i64 n)]=>if 0<=n/\n<=4294967296 then some (.list []) else none
 |_=>none
def al4 (ds:List D)(d:D)(h:J9 ds=some d):∃s,ctx.sig 148=some s/\HJ ctx 148 s ds d:=by
 refine⟨_,rfl,λ_=>?_,λshs obs hm=>by cases hm⟩;unfold J9 at h;split at h
 case h_2=>cases h
 rename_i n;split at h
 case isFalse=>cases h
 rename_i hn;cases h;obtain⟨k,rfl⟩:=vl hn.1;intro V w args az hC ha;obtain⟨a1,a2,a3⟩:=ha;have h0:=a3 0 _ rfl;have h1:=a3 1 _ rfl;obtain⟨u,v,rfl⟩:∃u v,args=#[u,v]:=by
  have:args.size=2:=by simpa using a1
  match args,this with
  |⟨[u,v]⟩,_=>exact⟨u,v,rfl⟩
 simp only[vm,Di] at h0 h1;change Rep ctx.cap V (.nils .bool) u (.list []) at h0;change Rep ctx.cap V (.int .i64) v (.v (.int .i64 k)) at h1;have hu:u=.slice none 0 0:=by cases h0;rfl
 have hv:v=.int .i64 k:=by cases h1;rfl
 subst hu hv;by_cases hk:k=0
 .subst hk;refine(al6 w).mono λe w' hh=>?_;obtain⟨rfl,rfl⟩:=hh;refine⟨_,V,rfl,.refl V,az,.refl _ _,λ_ _ _ h=>.inl h,λ_ _ h=>.inl h,?_⟩;exact⟨[],[],rfl,⟨by simp,.inl ⟨rfl,rfl⟩⟩,⟨λ_=>undef,λi x hx=>by simp at hx,λi j u hi=>by simp at hi⟩,λk hk=>by cases hk⟩
 .refine(al5 k w (by omega) (by omega)).mono λe w' hh=>?_;obtain⟨v',rfl,be,hb⟩:=hh;refine⟨v',V,rfl,.refl V,az.below hb,hb,λ_ _ _ h=>.inl h,λ_ _ h=>.inl h,?_⟩;refine⟨[],[],rfl,be,⟨λ_=>undef,λi x hx=>by simp at hx,λi j u hi=>by simp at hi⟩,λk hk=>?_⟩;have bM:=(be.lt k hk).1;refine⟨λo=>?_,?_⟩
  .cases hc:V.c k o with
   |none=>rfl
   |some u=>have:=World.block_lt_of_cell? w (a:=⟨k,o,none⟩) (az.c _ _ _ hc);simp at this;omega
  .cases hc:V.m k with
   |none=>rfl
   |some u=>rcases az.m _ _ hc with⟨arr,clock,x,g1,_⟩|⟨_,g1⟩<;>(have:=(dV.1 g1).1;omega)
def zW (r:D)(city:Int):Int:=if 0<=city/\city<(r.c 1).l.length then(((r.c 1).l.getD city.toNat .none).c 1).i else-1
def SZ (ds:List D):D:=
 let r:=ds.getD 0 .none
 let av:=(ds.getD 1 .none).i
 let c:=ds.getD 2 .none
 let s:=(c.c 15).l.getD (c.c 19).i.toNat .none
 let who:=(s.c 2).i
 if who<0\/(r.c 3).l.length<=who\/av<0\/(r.c 4).l.length<=av then .list [] else
 let out:=[av,zW r (s.c 7).i,zW r (c.c 10).i,zW r (c.c 9).i,zW r (((r.c 3).l.getD who.toNat .none).c 1).i]
 if(-1)∈out then .list [] else ints out
def Zc:List (Nat×(aV->List D->Option D)):=[(148,λ_ ds=>J9 ds),(83,B4 (ae Iq) (ae Ir) SZ),(16,CW)]
def ext:Nat->Option (aV->List D->Option D):=bS Zc
def auC:TabOK ctx tab ext:=by
 refine⟨clos,its,λf pc _ h=>auD f pc h,λf g hg Z hΦ jG ds d h=>?_⟩
 have:=RY (R:=λf (g:aV->List D->Option D)=>∀Z,ei ctx Z->la ctx Z->∀ds d,g Z ds=some d->(∀s,ctx.sig f=some s->HJ ctx f s ds d)/\
  ∀cs ys,ctx.cap f=some cs->nF cs.args cs.res=some ys->∃xs,d=.list xs/\(∀x,x∈xs->∃ds',x=.tup ds'/\ds'.length=ys.length)/\zK ctx f cs.caps ys ds xs) (l:=Zc)
  ⟨λZ hΦ jG ds d h=>⟨λs hs=>by obtain⟨s',h1,h2⟩:=al4 ds d h;rw[hs] at h1;cases h1;exact h2,λcs ys hc hi=>by cases hc⟩,
   λZ hΦ jG ds d h=>⟨λs hs=>by cases hs;exact⟨λ_=>arn clos hΦ jG Tryz.func83 (aD Iq acL) (aD Ir acM) h,λshs obs hm=>by cases hm⟩,λcs ys hc hi=>by cases hc⟩,
   λZ hΦ jG ds d h=>⟨λs hs=>by obtain⟨s',h1,h2⟩:=aun hΦ h;rw[hs] at h1;cases h1;exact h2,λcs ys hc hi=>by cases hc⟩,
   trivial⟩ f g hg
 exact this Z hΦ jG ds d h
abbrev T:dI:=gr tab ext
theorem zyv {ds:List D}{d:D}{t:PT}(k:Nat){f:Nat}{x:PC}(he:tree x=t)(h:aL (gr tab ext) t (mE ds) (λx=>x=.ret d))(hl:Cr[k]?=some (f,x):=by kernel_rfl)(hx:ext f=none:=by rfl):au (gr tab ext) f ds d:=.of_tree hx (lA k hl) he h
def au.of_nsl {tab:Nat->Option PC}{ext:Nat->Option (aV->List D->Option D)}{f:Nat}{pa pb:PC}{spec:List D->D}{ds:List D}{ta tb:PT}(hx:ext f=some (B4 pa pb spec))(hta:tree pa=ta)(htb:tree pb=tb)
 (h:(∃xs,xs≠[]/\spec ds=.list xs/\aL (gr tab ext) ta (mE ds) (λx=>x=.ret (.list xs)))\/(spec ds=.list []/\aL (gr tab ext) tb (mE ds) (λx=>x=.ret (.list [])))):au (gr tab ext) f ds (spec ds):=by
 refine au.of_ext hx ?_;rcases h with⟨xs,h1,h2,h3⟩|⟨h2,h3⟩
 .obtain⟨x,rfl,n0,hn⟩:=W0 (c:=pa) (hta▸h3);refine⟨n0,λn hle=>?_⟩;unfold B4;rw[if_pos (.inl ⟨n,xs,hn n hle,h1,h2⟩)]
 .obtain⟨x,rfl,n0,hn⟩:=W0 (c:=pb) (htb▸h3);refine⟨n0,λn hle=>?_⟩;unfold B4;rw[if_pos (.inr ⟨n,hn n hle,h2⟩)]
end Rm
namespace Rm
open Go Go.Proofs Cx
def iO (n:Nat)(p:Nat->Bool):Bool:=(List.range n).all p
def X7 {n:Nat}{p:Nat->Bool}(h:∀k,k<n->p k=true):iO n p=true:=bJ.2 λk hk=>h k (cm.1 hk)
def ah7 {n k:Nat}{p:Nat->Bool}(hk:k<n)(h:p k=false):iO n p=false:=List.all_eq_false.2 ⟨k,cm.2 hk,by simp[h]⟩
def Dn {n:Nat}{p:Nat->Bool}:iO n p=true↔∀k,k<n->p k=true:=⟨λh k hk=>bJ.1 h k (cm.2 hk),X7⟩
def gw (n:Nat)(f:Nat->Int):Int:=(((List.range n).map f).find? λx=>x !=0).getD 0
def PJ {n:Nat}{f:Nat->Int}(h:∀k,k<n->f k=0):gw n f=0:=by
 unfold gw;rw[qk.2]
 .rfl
 .intro x hx;obtain⟨k,hk,rfl⟩:=dX.1 hx;simp[h k (cm.1 hk)]
def PH {n k:Nat}{f:Nat->Int}(hk:k<n)(hj:∀j,j<k->f j=0)(h:f k≠0):gw n f=f k:=by
 unfold gw;have e:List.range n=List.range k++k::(List.range' (k+1) (n-k-1)):=by
  rw[N0,N0,<-HY];have:=List.range'_append_1 (s:=0) (m:=k) (n:=n-k-1+1);rw[fR] at this;rw[this];congr 1;omega
 rw[e,mB,XI,qk.2,Option.none_or,gq,List.find?_cons_of_pos (by simpa using h)]
 .rfl
 .intro x hx;obtain⟨j,vX,rfl⟩:=dX.1 hx;simp[hj j (cm.1 vX)]
def J0 {n:Nat}{f:Nat->Int}:gw n f=0↔∀k,k<n->f k=0:=by
 refine⟨λh k=>?_,PJ⟩
 induction k using Nat.strongRecOn with
 |ind k ih=>
  intro hk;refine xC λaB=>?_;rw[PH hk (λj hj=>ih j hj (by omega)) aB] at h;exact aB h
section
variable {T:dI} {id:Nat} {bG bF lr lo:List Nat} {a:PC} {O:Env} {Q:Out->Prop}
def nO (N:Nat)(p:Nat->Bool)(str gE:Nat->List D)(h0:lr.map O.r=str 0/\lo.map O.o=gE 0)
 (step:∀k,k<N->p k=true->aL T (round id bG bF lr lo a) (O.put lr (str k) lo (gE k)) (gl O id bG bF lr lo (λvr vo=>vr=str (k+1)/\vo=gE (k+1)) Q))
 (bad:∀k,k<N->p k=false->iO N p=false->aL T (round id bG bF lr lo a) (O.put lr (str k) lo (gE k)) (gl O id bG bF lr lo (λ_ _=>False) Q))
 (last:iO N p=true->aL T (round id bG bF lr lo a) (O.put lr (str N) lo (gE N)) (gl O id bG bF lr lo (λ_ _=>False) Q)):aP T (.block id bG bF (.loop lr lo a)) O Q:=
 .scan N (λk=>p k=true) str gE h0 (λk hk _ h=>step k hk h) (λk hk _ h=>bad k hk (by simpa using h) (ah7 hk (by simpa using h))) (λh=>last (X7 h))
def xd (N:Nat)(f:Nat->Int)(str gE:Nat->List D)(h0:lr.map O.r=str 0/\lo.map O.o=gE 0)
 (step:∀k,k<N->f k=0->aL T (round id bG bF lr lo a) (O.put lr (str k) lo (gE k)) (gl O id bG bF lr lo (λvr vo=>vr=str (k+1)/\vo=gE (k+1)) Q))
 (bad:∀k,k<N->f k≠0->gw N f=f k->aL T (round id bG bF lr lo a) (O.put lr (str k) lo (gE k)) (gl O id bG bF lr lo (λ_ _=>False) Q))
 (last:gw N f=0->aL T (round id bG bF lr lo a) (O.put lr (str N) lo (gE N)) (gl O id bG bF lr lo (λ_ _=>False) Q)):aP T (.block id bG bF (.loop lr lo a)) O Q:=
 .scan N (λk=>f k=0) str gE h0 (λk hk _ h=>step k hk h) (λk hk hj h=>bad k hk h (PH hk hj h)) (λh=>last (PJ h))
end
def br {k n:Nat}(h:k<n)(hn:n<=4294967296):i64.wrap ((k:Int)+1)=(k:Int)+1:=bu (by omega)
def ahn {k:Nat}(hn:k<=4294967296):i64.wrap ((k:Int)-1)=(k:Int)-1:=bu (by omega)
def aJ (i n:Int):Bool:=decide (0<=i)&&decide (i<n)
def wi (n a b:Int):Bool:=decide (a<=n)&&decide (n<=b)
def gT (i n:Int):au T 55 [.int i,.int n] (.bool (aJ i n)):=by
 refine zyv 16 awt ?_;simp[Wl,aJ];by_cases h:0<=i<;>simp[h]
def ry (i n:Int):au T 123 [.int i,.int n] (.bool (aJ i n)):=by
 refine zyv 10 awG ?_;simp[Wx,aJ];by_cases h:0<=i<;>simp[h]
def zk (n a b:Int):au T 89 [.int n,.int a,.int b] (.bool (wi n a b)):=by
 refine zyv 110 avw ?_;simp[VA,wi];by_cases h:a<=n<;>simp[h]
def idx_eq {α:Type}[DecidableEq α]{l:List α}{x z:α}{k:Nat}(hk:k<l.length)(hj:∀j,j<k->l.getD j z≠x)(h:¬l.getD k z≠x):x∈l/\l.findIdx (λy=>decide (y=x))=k:=by
 have e:l[k]=x:=by simpa [hk] using h
 refine⟨e▸cY hk,(List.findIdx_eq hk).2 ⟨by simp[e],λj fq=>?_⟩⟩;have fX:j<l.length:=by omega
 simpa [fX] using hj j fq
def abk {α:Type}[DecidableEq α]{l:List α}{x z:α}(hj:∀j,j<l.length->l.getD j z≠x):¬x∈l:=λhm=>by
 obtain⟨j,fX,rfl⟩:=gn hm;have:=hj j fX;simp[fX] at this
def wx {α:Type}[DecidableEq α](l:List α)(x:α):Int:=if x∈l then(l.findIdx (λy=>decide (y=x)):Nat) else-1
def hasB {α:Type}[DecidableEq α](l:List α)(x:α):Bool:=l.any λy=>decide (y=x)
def Z2 {α:Type}[DecidableEq α]{l:List α}{x:α}:hasB l x=true↔x∈l:=by simp[hasB]
def amH {α:Type}[DecidableEq α]{l:List α}{x:α}:hasB l x=false↔¬x∈l:=by rw[<-Z2];simp
def abj {α:Type}[DecidableEq α](l:List α)(x:α):decide (0<=wx l x)=hasB l x:=by
 unfold wx;by_cases h:x∈l
 .rw[Z2.2 h];simp[h]
 .rw[amH.2 h];simp[h]
@[simp] def aAx (a b:ByteArray):A5 .eql a b=decide (a=b):=by
  simp only[A5,ByteArray.toList_eq];by_cases h:a=b
  .subst h;simp
  .rw[decide_eq_false h,beq_eq_false_iff_ne];intro e;have:a.data=b.data:=by rw[<-vi];exact e
   exact h (by cases a;cases b;cases this;rfl)
@[simp] def aDP (a:ByteArray):(str a).s=a:=zyy
def ahE (l:List Int)(x:Int)(hl:l.length<=4294967296):au T 128 [ints l,.int x] (.int (wx l x)):=by
 refine zyv 21 awQ ?_;simp[WI];refine .scan l.length (λk=>l.getD k 0≠x) (λk=>[.int 0,.int k]) (λ_=>[]) ?_ (λk hk hj ho=>?_) (λk hk hj ho=>?_) (λhj=>?_)
 .simp
 .have hw:=br hk hl;simp[hk] at ho;have eC:¬x=l[k]:=λe=>ho e.symm;simp[Uv,G0,hk,hw,ints,ho,eC]
 .obtain⟨hm,he⟩:=idx_eq hk hj ho;simp[hk] at ho;simp[Uv,G0,hk,ints,ho,wx,hm,he]
 .have:=abk hj;simp[Uv,G0,wx,this,ints]
def HH (l:List Int)(x:Int)(hl:l.length<=4294967296):au T 105 [ints l,.int x] (.bool (hasB l x)):=by
 refine zyv 20 awK ?_;simp[WB];refine⟨_,ahE l x hl,?_⟩;have:=abj l x;simp at this ⊢;exact this
def ahF (l:List ByteArray)(x:ByteArray)(hl:l.length<=4294967296):au T 122 [strs l,str x] (.int (wx l x)):=by
 refine zyv 65 awR ?_;simp[WJ];refine .scan l.length (λk=>l.getD k default≠x) (λk=>[.int 0,.int k]) (λ_=>[]) ?_ (λk hk hj ho=>?_) (λk hk hj ho=>?_) (λhj=>?_)
 .simp
 .have hw:=br hk hl;simp[hk] at ho;have eC:¬x=l[k]:=λe=>ho e.symm;simp[Uw,G1,hk,hw,strs,ho,eC]
 .obtain⟨hm,he⟩:=idx_eq hk hj ho;simp[hk] at ho;simp[Uw,G1,hk,strs,ho,wx,hm,he]
 .have:=abk hj;simp[Uw,G1,wx,this,strs]
def ahA (l:List ByteArray)(x:ByteArray)(hl:l.length<=4294967296):au T 102 [strs l,str x] (.bool (hasB l x)):=by
 refine zyv 64 awL ?_;simp[WC];refine⟨_,ahF l x hl,?_⟩;have:=abj l x;simp at this ⊢;exact this
def Hb (l:List Int)(a b:Int)(k:Nat):Bool:=wi (l.getD k 0) a b&&(k==0||decide (l.getD (k-1) 0<l.getD k 0))
def rising (l:List Int)(a b:Int):Bool:=iO l.length (Hb l a b)
def G6 (l:List Int)(a b:Int)(hl:l.length<=4294967296):au T 80 [ints l,.int a,.int b] (.bool (rising l a b)):=by
 refine zyv 69 awz ?_;simp[Wr];refine nO l.length (Hb l a b) (λk=>[.bool false,.int k]) (λ_=>[]) ?_ (λk hk ho=>?_) (λk hk ho hb=>?_) (λhj=>?_)
 .simp
 .have hw:=br hk hl;simp[Hb,wi,hk] at ho;obtain⟨⟨h1,h2⟩,h3⟩:=ho;have da:¬l[k]<a:=by omega
  have oo:¬b<l[k]:=by omega
  by_cases vY:0<k
  .have bW:k-1<l.length:=by omega
   have fL:i64.wrap ((k:Int)-1)=((k-1:Nat):Int):=by rw[ahn (by omega)];omega
   have mH:¬l[k]<=l[k-1]:=by
        rcases h3 with h3|h3
        .omega
        .simp[bW] at h3;omega
   simp[CP,w6,hk,hw,fL,ints,da,oo,mH,vY,bW]
  .simp[CP,w6,hk,hw,ints,da,oo,vY]
 .have hf:rising l a b=false:=hb;simp[Hb,wi,hk] at ho;by_cases h1:l[k]<a
  .simp[CP,w6,hk,ints,h1,hf]
  by_cases h2:b<l[k]
  .simp[CP,w6,hk,ints,h1,h2,hf]
  have h3:=ho (by omega) (by omega);have vY:0<k:=by omega
  have bW:k-1<l.length:=by omega
  have fL:i64.wrap ((k:Int)-1)=((k-1:Nat):Int):=by rw[ahn (by omega)];omega
  have mH:=h3.2;simp[bW] at mH;simp[CP,w6,hk,fL,ints,h1,h2,mH,vY,bW,hf]
 .have hf:rising l a b=true:=hj;simp[CP,w6,hf]
def RN (c:Int):Bool:=wi c 97 122||wi c 65 90
def LU (i:Nat)(c:Int):Bool:=RN c||(i !=0&&(decide (c=95)||wi c 48 57))
def Ih (s:ByteArray)(k:Nat):Int:=((s.data.toList.getD k 0).toNat:Nat)
def sB (s:ByteArray):Bool:=decide (1<=s.size)&&decide (s.size<=20)&&iO s.size (λk=>LU k (Ih s k))
def Yo {s:ByteArray}{k:Nat}(h:k<s.data.size):(s.data[k].toNat:Int)=Ih s k:=by
 unfold Ih;rw[aN,bE (by simpa using h)];rfl
def agl {s:ByteArray}:s=⟨#[]⟩↔s.size=0:=by
 constructor
 .rintro rfl;rfl
 .intro h;cases s with|mk d=>congr;exact NM h
def atv (s:ByteArray):au T 101 [str s] (.bool (sB s)):=by
 refine zyv 63 awu ?_;simp[Wm];by_cases h0:s=⟨#[]⟩
 .have hn:sB s=false:=by simp[sB,agl.1 h0]
  rw[hn];simp[h0]
 by_cases h1:(20:Int)<s.size
 .have da:¬s.size<=20:=by omega
  simp[h0,h1,sB,da]
 have hz:1<=s.size:=by
  have:s.size≠0:=λe=>h0 (agl.2 e);omega
 have da:s.size<=20:=by omega
 simp[h0,h1];refine⟨by omega,nO s.size (λk=>LU k (Ih s k)) (λk=>[.bool false,.int k]) (λ_=>[]) ?_ (λk hk ho=>?_) (λk hk ho hb=>?_) (λhj=>?_)⟩
 .simp
 .have hw:=br hk (by omega);have bM:k<s.data.size:=hk;have hg:=Yo bM;simp[LU,RN,wi] at ho;simp[Uf,GL,hk,bM,hw,hg];omega
 .have bM:k<s.data.size:=hk;have hg:=Yo bM;have hn:sB s=false:=by simp[sB,hb]
  simp[LU,RN,wi] at ho;simp[Uf,GL,hk,bM,hg,hn];omega
 .have hn:sB s=true:=by simp[sB,hj,hz,da]
  have hd:s.data.size=s.size:=rfl;simp[Uf,GL,hn,hd]
def wI (l:List ByteArray)(i:Nat):Int:=if sB (l.getD i default)=false then 2 else if hasB (l.take i) (l.getD i default) then 5 else 0
def afK (l:List ByteArray)(i:Nat)(hi:i<l.length)(hl:l.length<=4294967296):au T 79 [strs l,.int i] (.int (wI l i)):=by
 refine zyv 62 awv ?_;simp[Wn,hi];refine⟨_,by simpa [strs,hi] using atv l[i],?_⟩;unfold wI;rw[aN,bE hi,nZ];cases h1:sB l[i]<;>simp[h1];refine⟨by omega,_,by simpa [strs,hi] using ahA (l.take i) l[i] (by rw[dv];omega),?_⟩;cases h2:hasB (l.take i) l[i]<;>simp[h2]
def yb (l:List ByteArray)(g:Nat->Bool)(i:Nat):Int:=if wI l i≠0 then wI l i else if g i then 0 else 1
def nv (l:List ByteArray)(FL:Int)(g:Nat->Bool):Int:=if FL<l.length then 6 else gw l.length (yb l g)
def MX (l:List ByteArray)(FL:Int)(f:Nat)(caps:List D)(g:Nat->Bool)(hg:∀i:Nat,i<l.length->au T f (.int i::caps) (.bool (g i)))(hl:l.length<=4294967296):
 au T 51 [strs l,.int FL,.clo f caps] (.int (nv l FL g)):=by
 refine zyv 61 aws ?_;simp[Wk,nv];by_cases h0:FL<l.length
 .simp[h0];intro h;omega
 simp[h0];refine xd l.length (yb l g) (λk=>[.int 0,.int k]) (λ_=>[]) ?_ (λk hk ho=>?_) (λk hk ho hb=>?_) (λhj=>?_)
 .simp
 .have hw:=br hk hl;have h1:wI l k=0:=by
   refine xC λh=>?_;unfold yb at ho;rw[if_pos h] at ho;exact h ho
  have h2:g k=true:=by
   unfold yb at ho;rw[if_neg (by simpa using h1)] at ho;cases h:g k with
   |true=>rfl
   |false=>rw[h] at ho;simp at ho
  simp[Ue,GK,hk,hw];refine⟨_,afK l k hk hl,?_⟩;simp[h1];refine⟨_,_,⟨rfl,rfl⟩,_,hg k hk,?_⟩;simp[h2,hw]
 .simp[Ue,GK,hk,hb];refine⟨_,afK l k hk hl,?_⟩;unfold yb at ho ⊢;by_cases h1:wI l k=0
  .simp[h1] at ho ⊢;refine⟨_,_,⟨rfl,rfl⟩,_,hg k hk,?_⟩;simp[ho]
  .simp[h1]
 .simp[Ue,GK,hj]
def pq (r:Realm)(c:City):Bool:=iO c.feasts.length (λk=>wi ((c.feasts.getD k 0).tmod 100) 1 31)&&(decide (c.feasts.length<=60)&&decide (c.shut.length<=200)&&aJ c.order r.orders.length&&aJ c.currency r.currencies.length)&&
 (rising c.rest 0 6&&rising c.feasts 101 1231&&rising c.shut 0 100000)
def att (r:Realm)(c:City)(h1:c.rest.length<=4294967296)(h2:c.feasts.length<=4294967296)(h3:c.shut.length<=4294967296):au T 54 [bB r,og c] (.bool (pq r c)):=by
 refine zyv 68 awr ?_;simp[Wj];refine nO c.feasts.length (λk=>wi ((c.feasts.getD k 0).tmod 100) 1 31) (λk=>[.bool false,.int k]) (λ_=>[]) ?_ (λk hk ho=>?_) (λk hk ho hb=>?_) (λhj=>?_)
 .simp
 .have hw:=br hk h2;simp[wi,hk] at ho;have g1:¬(c.feasts[k].tmod 100<1):=by omega
  have g2:¬(31<c.feasts[k].tmod 100):=by omega
  simp[Ud,GJ,hk,hw,ints,g1,g2]
 .have hf:pq r c=false:=by simp only[pq,hb,xz]
  simp[wi,hk] at ho;simp[Ud,GJ,hk,ints,hf];by_cases g1:c.feasts[k].tmod 100<1
  .simp[g1]
  .have g2:=ho (by omega);simp[g1,g2]
 .simp[Ud,GJ];by_cases g1:(c.feasts.length:Int)<=60
  case neg=>
   have hf:pq r c=false:=by
        have gJ:decide (c.feasts.length<=60)=false:=decide_eq_false (by omega);simp only[pq,gJ,xz,HA]
   have gJ:(60:Int)<c.feasts.length:=by omega
   simp[g1,gJ,hf]
  by_cases g2:(c.shut.length:Int)<=200
  case neg=>
   have hf:pq r c=false:=by
        have gJ:decide (c.shut.length<=200)=false:=decide_eq_false (by omega);simp only[pq,gJ,xz,HA]
   have pz:(200:Int)<c.shut.length:=by omega
   simp[g1,g2,pz,hf]
  have gJ:¬(60:Int)<c.feasts.length:=by omega
  have pz:¬(200:Int)<c.shut.length:=by omega
  have hf:pq r c=(aJ c.order r.orders.length&&aJ c.currency r.currencies.length&&(rising c.rest 0 6&&rising c.feasts 101 1231&&rising c.shut 0 100000)):=by
   have e1:decide (c.feasts.length<=60)=true:=decide_eq_true (by omega);have e2:decide (c.shut.length<=200)=true:=decide_eq_true (by omega);simp only[pq,hj,e1,e2,HD]
  rw[hf];simp[g1,g2,gJ,pz];refine⟨_,gT _ _,?_⟩;simp;cases e1:aJ c.order r.orders.length<;>simp;refine⟨_,gT _ _,?_⟩;simp;cases e2:aJ c.currency r.currencies.length<;>simp;refine⟨_,G6 _ _ _ h1,?_⟩;simp;cases e3:rising c.rest 0 6<;>simp;refine⟨_,G6 _ _ _ h2,?_⟩;simp;cases e4:rising c.feasts 101 1231<;>simp;exact G6 _ _ _ h3
def C3 {α β:Type}(f:α->β){l:List α}{k:Nat}(h:k<l.length):(l.take (k+1)).map f=(l.take k).map f++[f l[k]]:=by
 rw[ql h,mB];rfl
def BV (i:Int)(n:Nat):aJ i n=wi i 0 ((n:Int)-1):=by
 rw[HB];simp[wi,aJ];omega
def zV (o:Order):List Int:=o.choices.map (·.ask)
def Ib (o:Order):List Int:=o.rules.map (·.ask)
def uJ (o:Order):Bool:=iO o.choices.length (λk=>aJ (o.choices.getD k default).by_ 5)&&(rising (zV o) 0 21&&rising (Ib o) 0 21)
def atx (o:Order)(h1:o.choices.length<=100000)(h2:o.rules.length<=100000):au T 58 [jC o] (.bool (uJ o)):=by
 refine zyv 72 awx ?_;simp[Wp];refine nO o.choices.length (λk=>aJ (o.choices.getD k default).by_ 5) (λk=>[.bool false,.none,.int k]) (λk=>[ints ((o.choices.take k).map (·.ask))]) ?_ (λk hk ho=>?_) (λk hk ho hb=>?_) (λhj=>?_)
 .simp[ints]
 .have hw:=br hk (by omega);have hl:(o.choices.take k).length=k:=by rw[dv];omega
  simp[hk] at ho;rw[C3 _ hk];simp[Ug,GM,hk,hw,ints,hl];refine⟨by omega,_,gT _ _,?_⟩;simp[ho,hw]
 .have hf:uJ o=false:=by simp only[uJ,hb,xz]
  have hl:(o.choices.take k).length=k:=by rw[dv];omega
  simp[hk] at ho;simp[Ug,GM,hk,ints,hl,hf];refine⟨by omega,_,gT _ _,?_⟩;simp[ho]
 .have hf:uJ o=(rising (zV o) 0 21&&rising (Ib o) 0 21):=by simp only[uJ,hj,HD]
  rw[hf];simp[Ug,GM];refine aP.forRounds o.rules.length (λk=>[.none,.int k]) (λk=>[ints ((o.rules.take k).map (·.ask))]) ?_ (λk hk=>?_) ?_
  .simp[ints]
  .have hw:=br hk (by omega);have hl:(o.rules.take k).length=k:=by rw[dv];omega
   rw[C3 _ hk];simp[afC,MS,hk,hw,ints,hl];omega
  .simp[afC,MS];refine⟨_,G6 (zV o) _ _ (by simp[zV];omega),?_⟩;simp;cases e1:rising (zV o) 0 21<;>simp;exact G6 (Ib o) _ _ (by simp[Ib];omega)
def uF (r:Realm):List ByteArray:=r.cities.map (·.name)
def y4 (r:Realm):List ByteArray:=r.firms.map (·.name)
def uG (r:Realm):List ByteArray:=r.orders.map (·.name)
def atw (r:Realm)(h1:r.cities.length<=100000)(h2:r.firms.length<=100000)(h3:r.orders.length<=100000):au T 50 [bB r] (.tup [strs (uF r),strs (y4 r),strs (uG r)]):=by
 refine zyv 60 aww ?_;simp[Wo];refine aP.forRounds r.cities.length (λk=>[.none,.int k]) (λk=>[strs ((r.cities.take k).map (·.name))]) ?_ (λk hk=>?_) ?_
 .simp[strs]
 .have hw:=br hk (by omega);have hl:(r.cities.take k).length=k:=by rw[dv];omega
  rw[C3 _ hk];simp[afz,MO,hk,hw,strs,hl];omega
 .simp[afz,MO];refine aP.forRounds r.firms.length (λk=>[.none,.int k]) (λk=>[strs ((r.firms.take k).map (·.name))]) ?_ (λk hk=>?_) ?_
  .simp[strs]
  .have hw:=br hk (by omega);have hl:(r.firms.take k).length=k:=by rw[dv];omega
   rw[C3 _ hk];simp[afA,MQ,hk,hw,strs,hl];omega
  .simp[afA,MQ];refine aP.forRounds r.orders.length (λk=>[.none,.int k]) (λk=>[strs ((r.orders.take k).map (·.name))]) ?_ (λk hk=>?_) ?_
   .simp[strs]
   .have hw:=br hk (by omega);have hl:(r.orders.take k).length=k:=by rw[dv];omega
    rw[C3 _ hk];simp[afB,MR,hk,hw,strs,hl];omega
   .simp[afB,MR,uF,y4,uG]
structure Small (r:Realm):Prop where
 cur:r.currencies.length<=1000
 cities:r.cities.length<=1000
 groups:r.groups.length<=1000
 firms:r.firms.length<=1000
 orders:r.orders.length<=1000
 us:r.usances.length<=1000
 rates:r.rates.length<=1000
 halts:r.halts.length<=1000
 city:∀c,c∈r.cities->c.rest.length<=1000/\c.feasts.length<=1000/\c.shut.length<=1000/\∀y,y∈c.feasts->aX y
 order:∀o,o∈r.orders->o.choices.length<=1000/\o.rules.length<=1000
 rate:∀x,x∈r.rates->aX x.num/\aX x.den
def xq (r:Realm)(k j:Nat):Bool:=(r.usances.getD j default).fr !=(r.usances.getD k default).fr||(r.usances.getD j default).to !=(r.usances.getD k default).to
def NG (r:Realm)(k:Nat):Int:=
 if(aJ (r.usances.getD k default).fr r.cities.length&&aJ (r.usances.getD k default).to r.cities.length&&wi (r.usances.getD k default).days 1 20000)=false then 1 else if iO k (xq r k) then 0 else 5
def NH (r:Realm):Int:=if 100<r.usances.length then 6 else gw r.usances.length (NG r)
def atz (r:Realm)(h:Small r):au T 59 [bB r] (.int (NH r)):=by
 refine zyv 73 awA ?_;have hu:=h.us;simp[Ws,NH];by_cases h0:100<r.usances.length
 .have jE:(100:Int)<r.usances.length:=by omega
  have PX:¬r.usances.length<=100:=by omega
  simp[h0,jE,PX]
 have jE:¬(100:Int)<r.usances.length:=by omega
 simp[h0,jE];refine xd r.usances.length (NG r) (λk=>[.int 0,.int k]) (λ_=>[]) ?_ (λk hk ho=>?_) (λk hk ho hb=>?_) (λhj=>?_)
 .simp
 .have hw:=br hk (by omega);have ha:aJ r.usances[k].fr r.cities.length=true/\aJ r.usances[k].to r.cities.length=true/\wi r.usances[k].days 1 20000=true/\iO k (xq r k)=true:=by
   unfold NG at ho;simp only[aN,bE hk,nZ] at ho;cases e1:aJ r.usances[k].fr r.cities.length<;>cases e2:aJ r.usances[k].to r.cities.length<;>cases e3:wi r.usances[k].days 1 20000<;>cases e4:iO k (xq r k)<;>simp[e1,e2,e3,e4] at ho ⊢
  obtain⟨a1,a2,a3,a4⟩:=ha;simp[wi] at a3;have a5:¬r.usances[k].days<1:=by omega
  have a6:¬20000<r.usances[k].days:=by omega
  simp[Uj,GP,hk];refine⟨_,gT _ _,?_⟩;simp[a1];refine⟨_,gT _ _,?_⟩;simp[a2,a5,a6];refine⟨by omega,nO k (xq r k) (λj=>[.int 0,.int j]) (λ_=>[]) ?_ (λj hj jh=>?_) (λj hj jh bC=>?_) (λyt=>?_)⟩
  .simp
  .have Fv:=br hj (by omega);have bh:j<r.usances.length:=by omega
   have hm:j<min k r.usances.length:=by omega
   simp[xq,bh,hk] at jh;simp[MT,CQ,hj,bh,hk,Fv,hm];intro e e';rcases jh with h|h
   .exact absurd e h
   .exact absurd e' h
  .rw[a4] at bC;cases bC
  .simp[MT,CQ,hw];omega
 .simp[Uj,GP,hk,hb];refine⟨_,gT _ _,?_⟩;unfold NG at ho ⊢;simp only[aN,bE hk,nZ] at ho ⊢;cases e1:aJ r.usances[k].fr r.cities.length
  .simp
  simp;refine⟨_,gT _ _,?_⟩;cases e2:aJ r.usances[k].to r.cities.length
  .simp
  cases e3:wi r.usances[k].days 1 20000
  .simp[wi] at e3;by_cases g:r.usances[k].days<1
   .simp[g]
   .simp[g,e3 (by omega)]
  have Po:=e3;simp[wi] at Po;have a5:¬r.usances[k].days<1:=by omega
  have a6:¬20000<r.usances[k].days:=by omega
  simp[e1,e2,e3] at ho;simp[a5,a6];refine⟨by omega,nO k (xq r k) (λj=>[.int 0,.int j]) (λ_=>[]) ?_ (λj hj jh=>?_) (λj hj jh bC=>?_) (λyt=>?_)⟩
  .simp
  .have Fv:=br hj (by omega);have bh:j<r.usances.length:=by omega
   have hm:j<min k r.usances.length:=by omega
   simp[xq,bh,hk] at jh;simp[MT,CQ,hj,bh,hk,Fv,hm];intro e e';rcases jh with h|h
   .exact absurd e h
   .exact absurd e' h
  .have bh:j<r.usances.length:=by omega
   have hm:j<min k r.usances.length:=by omega
   simp[xq,bh,hk] at jh;simp[MT,CQ,hj,bh,hk,ho,hm]
   first|exact jh|simp[jh]
  .rw[yt] at ho;cases ho
 .simp[Uj,GP,hj]
def Mt (r:Realm)(k:Nat):Bool:=aJ (r.rates.getD k default).fr r.currencies.length&&aJ (r.rates.getD k default).to r.currencies.length&&((r.rates.getD k default).fr !=(r.rates.getD k default).to)&&
 wi (r.rates.getD k default).num 1 1073741824&&wi (r.rates.getD k default).den 1 1073741824&&wi (r.rates.getD k default).since 0 100000
def Ey (r:Realm)(k:Nat):Bool:=aJ (r.halts.getD k default).order r.orders.length&&wi (r.halts.getD k default).fr 0 (r.halts.getD k default).to&&decide ((r.halts.getD k default).to<=100000)
def w8 (r:Realm):Int:=if 100<r.rates.length then 6 else if iO r.rates.length (Mt r)=false then 1 else if 20<r.halts.length then 6 else if iO r.halts.length (Ey r) then 0 else 1
def Lc {n:Int}(h:aX n)(m:Int)(hm:0<=m/\m<=4294967296):aJ (i64.wrap (n-1)) m=wi n 1 m:=by
 unfold aX at h;by_cases e:n=-9223372036854775808
 .subst e;have:i64.wrap (-9223372036854775808-1)=9223372036854775807:=by decide
  rw[this,HB];simp[aJ,wi];omega
 .rw[bu (by omega),HB];simp[aJ,wi];omega
def abo (n:Int):aJ n 100001=wi n 0 100000:=by rw[HB];simp[aJ,wi];omega
def aty (r:Realm)(h:Small r):au T 60 [bB r] (.int (w8 r)):=by
 refine zyv 74 awy ?_;have hu:=h.rates;have hh:=h.halts;simp[Wq,w8];by_cases h0:100<r.rates.length
 .have jE:(100:Int)<r.rates.length:=by omega
  have PX:¬r.rates.length<=100:=by omega
  simp[h0,jE,PX]
 have jE:¬(100:Int)<r.rates.length:=by omega
 simp[h0,jE];have key:∀k (hk:k<r.rates.length),∀{O:Env} {Q:Out->Prop},True:=λ_ _ _ _=>trivial;refine nO r.rates.length (Mt r) (λk=>[.int 0,.int k]) (λ_=>[]) ?_ (λk hk ho=>?_) (λk hk ho hb=>?_) (λhj=>?_)
 .simp
 .have hw:=br hk (by omega);have hI:=h.rate _ (cY hk);simp[Mt,hk] at ho;obtain⟨⟨⟨⟨⟨a1,a2⟩,a3⟩,a4⟩,a5⟩,a6⟩:=ho;simp[Uh,GN,hk];refine⟨_,gT _ _,?_⟩;simp[a1];refine⟨_,gT _ _,?_⟩;simp[a2,a3];refine⟨_,gT _ _,?_⟩;simp[Lc hI.1,a4];refine⟨_,gT _ _,?_⟩;simp[Lc hI.2,a5];refine⟨_,gT _ _,?_⟩;simp[abo,a6,hw]
 .have hI:=h.rate _ (cY hk);rw[hb];simp[Mt,hk] at ho;simp[Uh,GN,hk];refine⟨_,gT _ _,?_⟩;cases e1:aJ r.rates[k].fr r.currencies.length
  .simp
  simp;refine⟨_,gT _ _,?_⟩;cases e2:aJ r.rates[k].to r.currencies.length
  .simp
  by_cases e3:r.rates[k].fr=r.rates[k].to
  .simp[e3]
  simp[e3];refine⟨_,gT _ _,?_⟩;rw[Lc hI.1 _ (by omega)];cases e4:wi r.rates[k].num 1 1073741824
  .simp
  simp;refine⟨_,gT _ _,?_⟩;rw[Lc hI.2 _ (by omega)];cases e5:wi r.rates[k].den 1 1073741824
  .simp
  simp;refine⟨_,gT _ _,?_⟩;rw[abo];simp[ho e1 e2 e3 e4 e5]
 .rw[hj];simp[Uh,GN];by_cases h1:20<r.halts.length
  .have da:(20:Int)<r.halts.length:=by omega
   have al9:¬r.halts.length<=20:=by omega
   simp[h1,da,al9]
  have da:¬(20:Int)<r.halts.length:=by omega
  simp[h1,da];refine nO r.halts.length (Ey r) (λk=>[.int 0,.int k]) (λ_=>[]) ?_ (λk hk ho=>?_) (λk hk ho hb=>?_) (λhj=>?_)
  .simp
  .have hw:=br hk (by omega);simp[Ey,wi,hk] at ho;obtain⟨⟨a1,a2⟩,a3⟩:=ho;have b1:¬r.halts[k].fr<0:=by omega
   have b2:¬r.halts[k].to<r.halts[k].fr:=by omega
   have b3:¬100000<r.halts[k].to:=by omega
   simp[Ui,GO,hk];refine⟨_,gT _ _,?_⟩;simp[a1,b1,b2,b3,hw]
  .rw[hb];simp[Ey,wi,hk] at ho;simp[Ui,GO,hk];refine⟨_,gT _ _,?_⟩;cases e1:aJ r.halts[k].order r.orders.length
   .simp
   have:=ho e1;by_cases b1:r.halts[k].fr<0
   .simp[b1]
   by_cases b2:r.halts[k].to<r.halts[k].fr
   .simp[b1,b2]
   have b3:100000<r.halts[k].to:=this (by omega) (by omega);simp[b1,b2,b3]
  .rw[hj];simp[Ui,GO]
def oS:List Int->Int
 |[]=>0
 |x::l=>if x=0 then oS l else x
def M8:∀{l:List Int},oS l=0↔∀x,x∈l->x=0
 |[]=>by simp[oS]
 |x::l=>by
  simp only[oS,cZ,forall_eq_or_imp];by_cases h:x=0
  .simp[h,M8 (l:=l)]
  .simp[h]
def Ed (r:Realm)(i:Nat):Bool:=aJ (r.firms.getD i default).city r.cities.length&&aJ (r.firms.getD i default).group r.groups.length
def xS (r:Realm)(i:Nat):Bool:=pq r (r.cities.getD i default)
def y8 (r:Realm)(i:Nat):Bool:=uJ (r.orders.getD i default)
def J8 (r:Realm)(i:Nat):Bool:=aJ (r.groups.getD i default).grade 10
def PW (r:Realm):Int:=if 20<r.groups.length then 6 else if iO r.groups.length (J8 r) then 0 else 1
def ic (r:Realm):Int:=oS [nv r.currencies 8 (λ_=>true),nv (uF r) 40 (xS r),PW r,nv (y4 r) 200 (Ed r),nv (uG r) 20 (y8 r),NH r,w8 r]
def aiT (i:Int):au T 52 [.int i] (.bool true):=by
 refine zyv 66 awk ?_;simp[Wd]
def aiU (r:Realm)(h:Small r)(i:Nat)(hi:i<r.cities.length):au T 53 [.int i,.ref (bB r)] (.bool (xS r i)):=by
 refine zyv 67 awl ?_;obtain⟨h1,h2,h3,h4⟩:=h.city _ (cY hi);simp[We,hi,xS];exact att r r.cities[i] (by omega) (by omega) (by omega)
def aiV (r:Realm)(i:Nat)(hi:i<r.firms.length):au T 56 [.int i,.ref (bB r)] (.bool (Ed r i)):=by
 refine zyv 70 awm ?_;simp[Wf,hi,Ed];refine⟨_,gT _ _,?_⟩;simp[hi];cases e1:aJ r.firms[i].city r.cities.length<;>simp;exact gT _ _
def aiW (r:Realm)(h:Small r)(i:Nat)(hi:i<r.orders.length):au T 57 [.int i,.ref (bB r)] (.bool (y8 r i)):=by
 refine zyv 71 awn ?_;obtain⟨h1,h2⟩:=h.order _ (cY hi);simp[Wg,hi,y8];exact atx r.orders[i] (by omega) (by omega)
def afJ (r:Realm)(h:Small r):au T 25 [bB r] (.int (ic r)):=by
 refine zyv 59 awo ?_;have g1:=h.cur;have g2:=h.cities;have g3:=h.firms;have g4:=h.orders;have g5:=h.groups;simp[Wc];refine⟨_,atw r (by omega) (by omega) (by omega),?_⟩;simp;refine⟨_,MX r.currencies 8 52 [] (λ_=>true) (λi _=>aiT _) (by omega),?_⟩;unfold ic;generalize e1:nv r.currencies 8 (λ_=>true)=x1;by_cases z1:x1=0
 case neg=>simp[z1,oS]
 simp[z1,oS];refine⟨_,MX (uF r) 40 53 [.ref (bB r)] (xS r) (λi hi=>aiU r h i (by simpa [uF] using hi)) (by simp[uF];omega),?_⟩;generalize e2:nv (uF r) 40 (xS r)=x2;by_cases z2:x2=0
 case neg=>simp[z2]
 simp[z2];by_cases z3:20<r.groups.length
 .have Xr:(20:Int)<r.groups.length:=by omega
  simp[Xr,PW,z3]
 have Xr:¬(20:Int)<r.groups.length:=by omega
 simp[Xr,PW,z3];refine nO r.groups.length (J8 r) (λk=>[.int 0,.int k]) (λ_=>[]) ?_ (λk hk ho=>?_) (λk hk ho hb=>?_) (λhj=>?_)
 .simp
 .have hw:=br hk (by omega);simp[J8,hk] at ho;simp[Ub,GH,hk];refine⟨_,gT _ _,?_⟩;simp[ho,hw]
 .simp[J8,hk] at ho;rw[hb];simp[Ub,GH,hk];refine⟨_,gT _ _,?_⟩;simp[ho]
 .rw[hj];simp[Ub,GH];refine⟨_,MX (y4 r) 200 56 [.ref (bB r)] (Ed r) (λi hi=>aiV r i (by simpa [y4] using hi)) (by simp[y4];omega),?_⟩;generalize e4:nv (y4 r) 200 (Ed r)=x4;by_cases z4:x4=0
  case neg=>simp[z4]
  simp[z4];refine⟨_,MX (uG r) 20 57 [.ref (bB r)] (y8 r) (λi hi=>aiW r h i (by simpa [uG] using hi)) (by simp[uG];omega),?_⟩;generalize e5:nv (uG r) 20 (y8 r)=x5;by_cases z5:x5=0
  case neg=>simp[z5]
  simp[z5];refine⟨_,atz r h,?_⟩;generalize e6:NH r=x6;by_cases z6:x6=0
  case neg=>simp[z6]
  simp[z6];have e7:(if w8 r=0 then 0 else w8 r)=w8 r:=by split<;>simp_all
  rw[e7];exact aty r h
def Zm {l:List ByteArray}{g:Nat->Bool}{k:Nat}(h:yb l g k=0):wI l k=0/\g k=true:=by
 unfold yb at h;by_cases h1:wI l k=0
 .simp[h1] at h;exact⟨h1,h⟩
 .simp[h1] at h
def gU:Nat->Tm->Int->Int
 |0,_,_=>-1
 |L+1,t,n=>t.args.foldl (λm a=>if 0<=m then gU L a m else m) (n-1)
def size_le:∀(L:Nat) (t:Tm) (n:Int),0<=n->-1<=gU L t n/\gU L t n<=n
 |0,t,n,h=>by simp[gU];omega
 |L+1,t,n,h=>by
  have key:∀(l:List Tm) (m:Int),-1<=m->m<=n->-1<=l.foldl (λm a=>if 0<=m then gU L a m else m) m/\l.foldl (λm a=>if 0<=m then gU L a m else m) m<=n:=by
   intro l
   induction l with
   |nil=>intro m h1 h2;exact⟨h1,h2⟩
   |cons a l ih=>
    intro m h1 h2;simp only[HQ];split
    .rename_i hm;have:=size_le L a m hm;exact ih _ this.1 (by omega)
    .exact ih _ h1 h2
  exact key _ _ (by omega) (by omega)
def Nj (L:Nat):∀(l:List Tm) (m:Int),m<0->l.foldl (λm a=>if 0<=m then gU L a m else m) m=m
 |[],m,h=>rfl
 |a::l,m,h=>by simp only[HQ];rw[if_neg (by omega)];exact Nj L l m h
def alM {α β:Type}(f:β->α->β)(b:β){l:List α}{k:Nat}(h:k<l.length):(l.take (k+1)).foldl f b=f ((l.take k).foldl f b) l[k]:=by
 rw[ql h,List.foldl_append];rfl
def alL {α β:Type}(f:β->α->β)(b:β)(l:List α)(k:Nat):l.foldl f b=(l.drop k).foldl f ((l.take k).foldl f b):=by
 rw[<-List.foldl_append,vq]
def _root_.Cx.Tm.OK.len {t:Tm}(h:t.OK):t.args.length<=9223372036854775807:=by cases h with|mk o n xs h1 h2 h3 h4=>exact h3
def _root_.Cx.Tm.OK.arg {t:Tm}(h:t.OK){a:Tm}(ha:a∈t.args):a.OK:=by cases h with|mk o n xs h1 h2 h3 h4=>exact h4 a ha
def Tx:∀(L:Nat) (t:Tm) (n:Int),t.OK->0<=n->n<=1000->L<=1000->au T 100 [dB t,.int n,.int L] (.int (gU L t n))
 |0,t,n,ht,h0,h1,hL=>by
  refine .of_tree rfl Yd agC ?_;simp[NA,gU]
 |L+1,t,n,ht,h0,h1,hL=>by
  refine .of_tree rfl Yd agC ?_;have nC:i64.wrap (n-1)=n-1:=bu (by omega);have hl:=ht.len;have mR:¬((L:Int)+1<1):=by omega
  simp[NA,nC,mR]
  let g:Nat->Int:=λk=>(t.args.take k).foldl (λm a=>if 0<=m then gU L a m else m) (n-1)
  have gb:∀k,-1<=g k/\g k<=1000:=by
   intro k;have:g k=gU (L+1) (.mk 0 0 (t.args.take k)) n:=rfl;have:=size_le (L+1) (.mk 0 0 (t.args.take k)) n h0;omega
  refine .scan t.args.length (λk=>0<=g k) (λk=>[.int (g k),.int k]) (λ_=>[]) ?_ (λk hk hj ho=>?_) (λk hk hj ho=>?_) (λhj=>?_)
  .simp[g,nC]
  .have hw:i64.wrap ((k:Int)+1)=(k:Int)+1:=bu (by omega);have yQ:i64.wrap (L:Int)=(L:Int):=bu (by omega);have hg:g (k+1)=gU L t.args[k] (g k):=by
    show(t.args.take (k+1)).foldl _ _=_;rw[alM _ _ hk];show(if 0<=g k then _ else _)=_;rw[if_pos ho]
   rw[hg];have ga:=Tx L t.args[k] (g k) (ht.arg (cY hk)) ho (gb k).2 (by omega);generalize g k=m at*;simp[TY,Gw,hk,ho,yQ];refine⟨_,ga,?_⟩;simp[hw]
  .have hf:gU (L+1) t n=g k:=by
    show t.args.foldl _ _=_;rw[alL _ _ _ k];exact Nj L _ _ (by show g k<0;omega)
   rw[hf];generalize g k=m at*;simp[TY,Gw,hk,ho]
  .have hf:gU (L+1) t n=g t.args.length:=by
    show t.args.foldl _ _=(t.args.take t.args.length).foldl _ _;rw[Dk]
   rw[hf];generalize g t.args.length=m at*;simp[TY,Gw]
def aeX (t:Tm)(ht:t.OK):au T 78 [dB t] (.bool (decide (0<=gU 20 t 100))):=by
 refine zyv 57 avK ?_;simp[VL];refine⟨_,Tx 20 t 100 ht (by omega) (by omega) (by omega),?_⟩;simp
def rY (o:Order):Bool:=(decide (o.rules.length<=60)&&decide (o.choices.length<=60))&&iO o.rules.length (λk=>decide (0<=gU 20 (o.rules.getD k default).term 100))
def ae2 (o:Order)(ho:o.OK):au T 49 [jC o] (.bool (rY o)):=by
 refine zyv 56 avX ?_;simp[VR];by_cases h1:(o.rules.length:Int)<=60
 case neg=>
  have da:(60:Int)<o.rules.length:=by omega
  have hf:rY o=false:=by
   have:decide (o.rules.length<=60)=false:=decide_eq_false (by omega);simp only[rY,this,xz]
  simp[da,hf]
 by_cases h2:(o.choices.length:Int)<=60
 case neg=>
  have da:(60:Int)<o.choices.length:=by omega
  have hf:rY o=false:=by
   have:decide (o.choices.length<=60)=false:=decide_eq_false (by omega);simp only[rY,this,xz,HA]
  simp[da,hf]
 have da:¬(60:Int)<o.rules.length:=by omega
 have oo:¬(60:Int)<o.choices.length:=by omega
 have hf:rY o=iO o.rules.length (λk=>decide (0<=gU 20 (o.rules.getD k default).term 100)):=by
  have e1:decide (o.rules.length<=60)=true:=decide_eq_true (by omega);have e2:decide (o.choices.length<=60)=true:=decide_eq_true (by omega);simp only[rY,e1,e2,HD]
 rw[hf];simp[da,oo];have hO:=ho.2.2;refine nO o.rules.length (λk=>decide (0<=gU 20 (o.rules.getD k default).term 100)) (λk=>[.bool false,.int k]) (λ_=>[]) ?_ (λk hk ho=>?_) (λk hk ho hb=>?_) (λhj=>?_)
 .simp
 .have hw:=br hk (by omega);simp[hk] at ho;simp[T2,Gy,hk];refine⟨_,aeX _ (hO _ (cY hk)).2,?_⟩;simp[ho,hw]
 .simp only[aN] at hb;rw[hb];simp[hk] at ho;simp[T2,Gy,hk];refine⟨_,aeX _ (hO _ (cY hk)).2,?_⟩;simp[ho]
 .simp only[aN] at hj;rw[hj];simp[T2,Gy]
def Ea (f:File):Bool:=decide ((f.signs.length:Int)<=50)&&decide ((f.alters.length:Int)<=10)&&decide ((f.acts.length:Int)<=110)&&decide ((f.facts.length:Int)<=220)
def asP (f:File):au T 48 [cr f] (.bool (Ea f)):=by
 refine zyv 55 avB ?_;simp[VF,Ea];by_cases h1:(f.signs.length:Int)<=50<;>by_cases h2:(f.alters.length:Int)<=10<;>by_cases h3:(f.acts.length:Int)<=110<;>by_cases h4:(f.facts.length:Int)<=220<;>
  simp[h1,h2,h3,h4]
def D8 (r:Realm)(k:Nat):Bool:=decide (((r.cities.getD k default).feasts.length:Int)<=70)&&decide (((r.cities.getD k default).shut.length:Int)<=210)&&decide (((r.cities.getD k default).rest.length:Int)<=8)
def D9 (r:Realm)(k:Nat):Bool:=decide (((r.orders.getD k default).choices.length:Int)<=40)&&decide (((r.orders.getD k default).rules.length:Int)<=40)
def JZ (r:Realm):Bool:=decide ((r.currencies.length:Int)<50)&&decide ((r.cities.length:Int)<50)&&decide ((r.groups.length:Int)<50)&&decide ((r.firms.length:Int)<210)&&decide ((r.orders.length:Int)<50)&&decide ((r.usances.length:Int)<110)&&decide ((r.rates.length:Int)<110)&&decide ((r.halts.length:Int)<50)
def qx (r:Realm):Bool:=iO (min r.cities.length 50) (D8 r)&&iO (min r.orders.length 50) (D9 r)&&JZ r
def asH (r:Realm)(hr:r.OK):au T 47 [bB r] (.bool (qx r)):=by
 refine zyv 54 avt ?_;simp[Vy];refine nO (min r.cities.length 50) (D8 r) (λk=>[.bool false,.int k]) (λ_=>[]) ?_ (λk hk ho=>?_) (λk hk ho hb=>?_) (λhj=>?_)
 .simp
 .have bW:k<r.cities.length:=by omega
  have bN:k<50:=by omega
  have hw:=br bN (by omega);simp[D8,bW] at ho;obtain⟨⟨a1,a2⟩,a3⟩:=ho;have b1:¬(70:Int)<r.cities[k].feasts.length:=by omega
  have b2:¬(210:Int)<r.cities[k].shut.length:=by omega
  have b3:¬(8:Int)<r.cities[k].rest.length:=by omega
  simp[Gs,zr,bW,bN,hw,b1,b2,b3];omega
 .have bW:k<r.cities.length:=by omega
  have bN:k<50:=by omega
  have hf:qx r=false:=by simp only[qx,hb,xz]
  rw[hf];simp[D8,bW] at ho;by_cases b1:(70:Int)<r.cities[k].feasts.length
  .simp[Gs,zr,bW,bN,b1];omega
  by_cases b2:(210:Int)<r.cities[k].shut.length
  .simp[Gs,zr,bW,bN,b1,b2];omega
  have b3:(8:Int)<r.cities[k].rest.length:=by have:=ho (by omega) (by omega);omega
  simp[Gs,zr,bW,bN,b1,b2,b3];omega
 .have hn:¬((min r.cities.length 50:Nat):Int)<r.cities.length\/¬((min r.cities.length 50:Nat):Int)<50:=by omega
  simp[Gs,zr];rw[if_neg (by omega)];refine nO (min r.orders.length 50) (D9 r) (λk=>[.bool false,.int k]) (λ_=>[]) ?_ (λk hk ho=>?_) (λk hk ho hb=>?_) (λny=>?_)
  .simp
  .have bW:k<r.orders.length:=by omega
   have bN:k<50:=by omega
   have hw:=br bN (by omega);simp[D9,bW] at ho;obtain⟨a1,a2⟩:=ho;have b1:¬(40:Int)<r.orders[k].choices.length:=by omega
   have b2:¬(40:Int)<r.orders[k].rules.length:=by omega
   simp[MC,CM,bW,bN,hw,b1,b2];omega
  .have bW:k<r.orders.length:=by omega
   have bN:k<50:=by omega
   have hf:qx r=false:=by simp only[qx,hb,xz,HA]
   rw[hf];simp[D9,bW] at ho;by_cases b1:(40:Int)<r.orders[k].choices.length
   .simp[MC,CM,bW,bN,b1];omega
   have b2:(40:Int)<r.orders[k].rules.length:=by have:=ho (by omega);omega
   simp[MC,CM,bW,bN,b1,b2];omega
  .have hf:qx r=JZ r:=by simp only[qx,hj,ny,HD]
   rw[hf];simp[MC,CM];rw[if_neg (by omega)];unfold JZ;by_cases c1:(r.currencies.length:Int)<50<;>simp[c1];by_cases c2:(r.cities.length:Int)<50<;>simp[c2];by_cases c3:(r.groups.length:Int)<50<;>simp[c3];by_cases c4:(r.firms.length:Int)<210<;>simp[c4];by_cases c5:(r.orders.length:Int)<50<;>simp[c5];by_cases c6:(r.usances.length:Int)<110<;>simp[c6];by_cases c7:(r.rates.length:Int)<110<;>simp[c7]
def PD {r:Realm}(hr:r.OK)(h:qx r=true):Small r:=by
 simp only[qx,JZ,aq,decide_eq_true_eq,Dn] at h;obtain⟨⟨h1,h2⟩,⟨⟨⟨⟨⟨⟨⟨c1,c2⟩,c3⟩,c4⟩,c5⟩,c6⟩,c7⟩,c8⟩⟩:=h;obtain⟨k1,⟨k2,k2'⟩,⟨k3,k3'⟩,⟨k4,k4'⟩,⟨k5,k5'⟩,⟨k6,k6'⟩,⟨k7,k7'⟩,⟨k8,k8'⟩⟩:=hr;refine⟨by omega,by omega,by omega,by omega,by omega,by omega,by omega,by omega,λc hc=>?_,λo ho=>?_,λx hx=>?_⟩
 .obtain⟨k,hk,rfl⟩:=gn hc;have:=h1 k (by omega);simp[D8,hk] at this;have:=k2' _ hc;exact⟨by omega,by omega,by omega,λy hy=>this.2.2.2.1.2 y hy⟩
 .obtain⟨k,hk,rfl⟩:=gn ho;have:=h2 k (by omega);simp[D9,hk] at this;omega
 .have:=k7' x hx;exact⟨this.2.2.1,this.2.2.2.1⟩
def tX (r:Realm)(f:File):Bool:=(qx r&&Ea f)&&iO r.orders.length (λk=>rY (r.orders.getD k default))
def as4 (r:Realm)(f:File)(hr:r.OK):au T 24 [bB r,cr f] (.bool (tX r f)):=by
 refine zyv 53 av8 ?_;simp[V2];refine⟨_,asH r hr,?_⟩;cases e1:qx r
 .simp[tX,e1]
 simp;refine⟨_,asP f,?_⟩;cases e2:Ea f
 .simp[tX,e1,e2]
 have hs:=PD hr e1;have ho:=hs.orders;have hf:tX r f=iO r.orders.length (λk=>rY (r.orders.getD k default)):=by simp only[tX,e1,e2,HD]
 rw[hf];simp;have hO:=hr.2.2.2.2.1.2;refine nO r.orders.length (λk=>rY (r.orders.getD k default)) (λk=>[.bool false,.int k]) (λ_=>[]) ?_ (λk hk ho=>?_) (λk hk ho hb=>?_) (λhj=>?_)
 .simp
 .have hw:=br hk (by omega);simp[hk] at ho;simp[T6,GB,hk];refine⟨_,ae2 _ (hO _ (cY hk)),?_⟩;simp[ho,hw]
 .simp only[aN] at hb;rw[hb];simp[hk] at ho;simp[T6,GB,hk];refine⟨_,ae2 _ (hO _ (cY hk)),?_⟩;simp[ho]
 .simp only[aN] at hj;rw[hj];simp[T6,GB]
def J7 (r:Realm)(f:File):Bool:=tX r f&&decide (ic r=0)
def mC (n:Int):Int:=min (max n (-1099511627776)) 1099511627776
def Np (n:Int):au T 146 [.int n] (.int (mC n)):=by
 refine zyv 36 awY ?_;simp[WR,mC];by_cases h1:-1099511627776>n
 .have:¬(1099511627776:Int)< -1099511627776:=by omega
  simp[h1];omega
 .by_cases h2:(1099511627776:Int)<n
  .simp[h1,h2];omega
  .simp[h1,h2];omega
def kZ (v:Int):Int×Bool:=if v<0\/19<v then(0,false) else if v<7 then(0,true) else(1,true)
def agu (v:Int):au T 144 [.int v] (.tup [.int (kZ v).1,.bool (kZ v).2]):=by
 refine zyv 37 awU ?_;simp[WM,kZ];by_cases h1:v<0
 .simp[h1]
 by_cases h2:19<v
 .simp[h1,h2]
 by_cases h3:v<7
 .simp[h1,h2,h3]
 .simp[h1,h2,h3]
def sA (t:Tm):Int×Int:=
 if 0<t.args.length then(0,2) else if t.op=0 then(if mC t.n≠t.n then(0,3) else(0,0)) else if t.op=1 then(if t.n<0\/1<t.n then(0,3) else(1,0)) else if(kZ t.n).2=false then(0,10) else((kZ t.n).1,0)
def auI (t:Tm):au T 142 [dB t] (.tup [.int (sA t).1,.int (sA t).2]):=by
 refine zyv 35 awZ ?_;simp[WS,sA];by_cases h0:0<t.args.length
 .have jE:(0:Int)<t.args.length:=by omega
  simp[h0,jE]
 simp[h0];by_cases h1:t.op=0
 .simp[h1];refine⟨_,Np _,?_⟩;by_cases h2:mC t.n=t.n<;>simp[h2]
 by_cases h2:t.op=1
 .simp[h1,h2];by_cases h3:t.n<0<;>by_cases h4:1<t.n<;>simp[h3,h4]
 simp[h1,h2];refine⟨_,agu _,?_⟩;cases h3:(kZ t.n).2<;>simp[h3]
def dU (op:Int):List Int×Int:=
 if op=3 then([1],1) else if op=4\/op=5 then([1,1],1) else if op=6 then([1,-1,-1],-1) else if op=7 then([0,0],1) else if op=8 then([-1,-1],1) else([0,0],0)
def D4 (s:List Int×Int):D:=.agg [ints s.1,.int s.2]
@[simp] def azt (s:List Int×Int):(D4 s).cells=[ints s.1,.int s.2]:=zyy
@[simp] def azr (s:List Int×Int):(D4 s).c 0=ints s.1:=zyy
@[simp] def azs (s:List Int×Int):(D4 s).c 1=.int s.2:=zyy
@[simp] def aCU (s:List Int×Int):D.agg [ints s.1,.int s.2]=D4 s:=zyy
@[simp] def aDG (x y:Int):va (.int x) 0 (.int y)=.int y:=zyy
def auK (op:Int):au T 143 [.int op] (D4 (dU op)):=by
 refine zyv 38 aw3 ?_;simp[WV,dU];by_cases h3:op=3
 .simp[h3];rfl
 by_cases h4:op=4
 .simp[h4];rfl
 by_cases h5:op=5
 .simp[h5];rfl
 by_cases h6:op=6
 .simp[h6];rfl
 by_cases h7:op=7
 .simp[h7];rfl
 by_cases h8:op=8
 .simp[h8];rfl
 simp[h3,h4,h5,h6,h7,h8];rfl
def di (f:Tm->Int):List Tm->Int->Int
 |[],n=>n
 |a::l,n=>if 60<n+f a then n+f a else di f l (n+f a)
def bk:Nat->Tm->Int
 |0,_=>61
 |L+1,t=>di (bk L) t.args 1
def eO (f:Tm->Int)(l:List Tm):Int:=(l.map f).sum
def LA {f:Tm->Int}{l:List Tm}{k:Nat}(h:k<l.length):eO f (l.take (k+1))=eO f (l.take k)+f l[k]:=by
 unfold eO;rw[C3 f h,List.sum_append];simp
def aci {f:Tm->Int}:∀{l:List Tm} {n:Int} {k:Nat},(hk:k<l.length)->(∀j,j<k->n+eO f (l.take (j+1))<=60)->60<n+eO f (l.take (k+1))->di f l n=n+eO f (l.take (k+1))
 |a::l,n,0,hk,_,h=>by
  simp[eO] at h ⊢;unfold di;rw[if_pos (by omega)]
 |a::l,n,k+1,hk,hj,h=>by
  have h0:=hj 0 (by omega);simp[eO] at h0;unfold di;rw[if_neg (by omega)];have e:∀j,n+eO f ((a::l).take (j+1+1))=n+f a+eO f (l.take (j+1)):=by intro j;simp[eO];omega
  rw[aci (l:=l) (k:=k) (by simpa using hk) (λj yu=>by have:=hj (j+1) (by omega);rw[e] at this;exact this) (by rw[<-e];exact h),e]
def ack {f:Tm->Int}:∀{l:List Tm} {n:Int},(∀j,j<l.length->n+eO f (l.take (j+1))<=60)->di f l n=n+eO f l
 |[],n,_=>by simp[di,eO]
 |a::l,n,hj=>by
  have h0:=hj 0 (by simp);simp[eO] at h0;unfold di;rw[if_neg (by omega)];have e:∀j,n+eO f ((a::l).take (j+1+1))=n+f a+eO f (l.take (j+1)):=by intro j;simp[eO];omega
  rw[ack (l:=l) (λj fX=>by have:=hj (j+1) (by simpa using fX);rw[e] at this;exact this)];simp[eO];omega
def acj {f:Tm->Int}(hf:∀a,1<=f a):∀{l:List Tm} {n:Int},n<=di f l n
 |[],n=>by simp[di]
 |a::l,n=>by
  unfold di;have:=hf a;split
  .omega
  .have:=acj hf (l:=l) (n:=n+f a);omega
def wH:∀(L:Nat) (t:Tm),1<=bk L t
 |0,t=>by simp[bk]
 |L+1,t=>acj (wH L)
def acm {f:Tm->Int}{B:Int}(hf:∀a,f a<=B)(hB:0<=B):∀{l:List Tm} {n:Int},n<=60->di f l n<=60+B
 |[],n,h=>by simp[di];omega
 |a::l,n,h=>by
  unfold di;have:=hf a;split
  .omega
  .exact acm hf hB (by omega)
def aco:∀(L:Nat) (t:Tm),bk L t<=61+60*L
 |0,t=>by simp[bk]
 |L+1,t=>by
  have:=acm (f:=bk L) (λa=>aco L a) (by omega) (l:=t.args) (n:=1) (by omega);show di _ _ _<=_;omega
def acn {f:Tm->Int}(hf:∀a,1<=f a):∀{l:List Tm} {n:Int},di f l n<=60->(n:Int)+l.length<=60/\∀a,a∈l->f a<=60-n
 |[],n,h=>by simp[di] at h ⊢;exact h
 |a::l,n,h=>by
  unfold di at h;have:=hf a;split at h
  .omega
  .obtain⟨h1,h2⟩:=acn hf h;refine⟨by simp;omega,λb hb=>?_⟩;rcases cZ.1 hb with rfl|hb
   .omega
   .have:=h2 b hb;omega
def FK {L:Nat}{t:Tm}(h:bk (L+1) t<=60):t.args.length<=59/\∀a,a∈t.args->bk L a<=60:=by
 obtain⟨h1,h2⟩:=acn (wH L) h;exact⟨by omega,λa ha=>by have:=h2 a ha;omega⟩
def UX:∀(L:Nat) (t:Tm) (lv:Int),t.OK->L<=8->lv=9-(L:Int)->au T 131 [dB t,.int lv] (.int (bk L t))
 |0,t,lv,ht,hL,QE=>by
  refine .of_tree rfl Ye agD ?_;subst QE;simp[NC,bk]
 |L+1,t,lv,ht,hL,QE=>by
  refine .of_tree rfl Ye agD ?_;have hl:=ht.len;have h8:¬(8<lv):=by omega
  have yQ:i64.wrap (lv+1)=lv+1:=bu (by omega);simp[NC,h8];refine .scan t.args.length (λk=>1+eO (bk L) (t.args.take (k+1))<=60) (λk=>[.int (1+eO (bk L) (t.args.take k)),.int k]) (λ_=>[]) ?_ (λk hk hj ho=>?_) (λk hk hj ho=>?_) (λhj=>?_)
  .simp[eO]
  all_goals try rw[LA hk] at ho
  .have hw:i64.wrap ((k:Int)+1)=(k:Int)+1:=bu (by omega);have ga:=UX L t.args[k] (lv+1) (ht.arg (cY hk)) (by omega) (by omega);rw[LA hk];have hs:0<=eO (bk L) (t.args.take k):=by
    unfold eO;have:∀(l:List Tm),0<=(l.map (bk L)).sum:=by
     intro l
     induction l with
     |nil=>simp
     |cons a l ih=>have:=wH L a;simp;omega
    exact this _
   have cH:=wH L t.args[k];generalize eO (bk L) (t.args.take k)=m at*;generalize bk L t.args[k]=v at*;have uv:i64.wrap (1+m+v)=1+m+v:=bu (by omega);have eC:¬60<1+m+v:=by omega
   simp[Uz,G4,hk,yQ];refine⟨_,ga,?_⟩;simp[uv,eC,hw];omega
  .have ga:=UX L t.args[k] (lv+1) (ht.arg (cY hk)) (by omega) (by omega);have hf:bk (L+1) t=1+eO (bk L) (t.args.take (k+1)):=aci hk hj (by rw[LA hk];omega);rw[hf,LA hk];have hs:0<=eO (bk L) (t.args.take k)/\1+eO (bk L) (t.args.take k)<=60:=by
    constructor
    .unfold eO;have:∀(l:List Tm),0<=(l.map (bk L)).sum:=by
       intro l
       induction l with
       |nil=>simp
       |cons a l ih=>have:=wH L a;simp;omega
     exact this _
    .cases k with
     |zero=>simp[eO]
     |succ k=>exact hj k (by omega)
   have cH:=wH L t.args[k];have bC:=aco L t.args[k];generalize eO (bk L) (t.args.take k)=m at*;generalize bk L t.args[k]=v at*;have uv:i64.wrap (1+m+v)=1+m+v:=bu (by omega);have eC:60<1+m+v:=by omega
   simp[Uz,G4,hk,yQ];refine⟨_,ga,?_⟩;simp[uv,eC];omega
  .have hf:bk (L+1) t=1+eO (bk L) t.args:=ack hj;rw[hf];simp[Uz,G4]
def oK (ws ts:List Int):Nat->Int
 |0=>-1
 |k+1=>if ws.getD k 0=-1/\oK ws ts k=-1 then ts.getD k 0 else oK ws ts k
def pQ (ws ts:List Int)(k:Nat):Bool:=if ws.getD k 0=-1 then decide (oK ws ts k=-1)||decide (ts.getD k 0=oK ws ts k) else decide (ts.getD k 0=ws.getD k 0)
def sC (t:Tm)(ks:List Int):Int×Int:=
 if t.op<0\/13<t.op then(0,1) else if t.op=0\/t.op=1\/t.op=2 then sA t else
 if ks.length≠(dU t.op).1.length\/t.n≠0 then(0,2) else
 if iO (dU t.op).1.length (pQ (dU t.op).1 ks)=false then(0,11) else if(dU t.op).2=-1 then(oK (dU t.op).1 ks (dU t.op).1.length,0) else((dU t.op).2,0)
def bq:Nat->Tm->Int×Int
 |0,_=>(0,0)
 |L+1,t=>if gw t.args.length (λk=>(bq L (t.args.getD k default)).2)≠0 then(0,gw t.args.length (λk=>(bq L (t.args.getD k default)).2)) else sC t (t.args.map λa=>(bq L a).1)
def DK (L:Nat)(t:Tm):bq (L+1) t=if gw t.args.length (λk=>(bq L (t.args.getD k default)).2)≠0 then(0,gw t.args.length (λk=>(bq L (t.args.getD k default)).2)) else sC t (t.args.map λa=>(bq L a).1):=rfl
def UO {α:Type}(A:List α)(z:α){k n:Nat}(hA:A.length=n)(hk:k<n):(A.take k++List.replicate (n-k) z).set k A[k]=A.take (k+1)++List.replicate (n-(k+1)) z:=by
 have h1:(A.take k).length=k:=by rw[dv];omega
 rw[List.set_append_right _ _ (by omega),h1,N3];have:n-k=(n-(k+1))+1:=by omega
 rw[this,List.replicate_succ,List.set_cons_zero,ql (by omega),kD];rfl
def auo (op:Int):(dU op).1.length<=3:=by
 unfold dU;repeat' split
 all_goals simp
def UW:∀(L:Nat) (t:Tm),t.OK->bk L t<=60->au T 132 [dB t] (.tup [.int (bq L t).1,.int (bq L t).2])
 |0,t,ht,hm=>by simp[bk] at hm
 |L+1,t,ht,hm=>by
  refine zyv 34 awW ?_;obtain⟨hl,hp⟩:=FK hm;simp[WO];refine⟨by omega,?_⟩;refine xd t.args.length (λk=>(bq L (t.args.getD k default)).2) (λk=>[.int 0,.int 0,.int k]) (λk=>[ints ((t.args.map λa=>(bq L a).1).take k++List.replicate (t.args.length-k) 0)]) ?_ (λk hk ho=>?_) (λk hk ho hb=>?_) (λhj=>?_)
  .simp[ints]
  .have hw:=br hk (by omega);have cL:=cY hk;have ga:=UW L t.args[k] (ht.arg cL) (hp _ cL);have hs:=UO (t.args.map λa=>(bq L a).1) 0 (n:=t.args.length) (by simp) hk;rw[<-hs];have hlen:((t.args.map λa=>(bq L a).1).take k++List.replicate (t.args.length-k) (0:Int)).length=t.args.length:=by simp;omega
   have EN:(t.args.map λa=>(bq L a).1)[k]'(by simpa using hk)=(bq L t.args[k]).1:=by simp
   rw[EN];generalize (t.args.map λa=>(bq L a).1).take k++List.replicate (t.args.length-k) (0:Int)=A at*;simp[hk] at ho;rw[ho] at ga;generalize (bq L t.args[k]).1=kd at*;simp[Ux,G2,hk];refine⟨_,ga,?_⟩;simp[hlen,hk,hw,ints]
  .have cL:=cY hk;have ga:=UW L t.args[k] (ht.arg cL) (hp _ cL);have hf:bq (L+1) t=(0,(bq L (t.args.getD k default)).2):=by
    rw[DK,hb,if_pos ho]
   rw[hf];simp[hk] at ho ⊢;simp[Ux,G2,hk];refine⟨_,ga,?_⟩;simp[ho]
  .have hf:bq (L+1) t=sC t (t.args.map λa=>(bq L a).1):=by
    rw[DK,hj];simp
   rw[hf]
   have e0:(t.args.map λa=>(bq L a).1).take t.args.length++List.replicate (t.args.length-t.args.length) 0=t.args.map λa=>(bq L a).1:=by
    rw[N3,vt (by simp)];simp
   rw[e0];have hkl:(t.args.map λa=>(bq L a).1).length=t.args.length:=by simp
   generalize (t.args.map λa=>(bq L a).1)=ks at*;simp[Ux,G2];unfold sC;by_cases h1:t.op<0
   .simp[h1]
   by_cases h2:13<t.op
   .simp[h1,h2]
   simp[h1,h2];by_cases h3:t.op=0\/t.op=1\/t.op=2
   .have mH:(t.op=0\/t.op=1)\/t.op=2:=by omega
    simp[h3,mH];refine⟨_,auI t,?_⟩;simp
   have mH:¬((t.op=0\/t.op=1)\/t.op=2):=by omega
   simp[h3,mH];refine⟨_,auK _,?_⟩;have K9:=auo t.op;generalize dU t.op=sh at*;simp;by_cases h4:ks.length=sh.1.length
   case neg=>
    have uc:¬((ks.length:Int)=sh.1.length):=by omega
    have Kd:¬t.args.length=sh.1.length:=by omega
    simp[h4,uc,Kd]
   have uc:(ks.length:Int)=sh.1.length:=by omega
   have Kd:t.args.length=sh.1.length:=by omega
   by_cases h5:t.n=0
   case neg=>simp[h4,uc,Kd,h5]
   simp[h4,uc,Kd,h5];refine nO sh.1.length (pQ sh.1 ks) (λk=>[.int 0,.int 0,.int (oK sh.1 ks k),.int k]) (λ_=>[]) ?_ (λk hk ho=>?_) (λk hk ho hb=>?_) (λhj=>?_)
   .simp[oK]
   .have hw:=br hk (by omega);have bN:k<ks.length:=by omega
    simp only[oK];unfold pQ at ho;simp only[aN,bE hk,bE bN,nZ] at ho ⊢;generalize oK sh.1 ks k=c at*;by_cases a1:sh.1[k]=-1
    .by_cases a2:c=-1
     .simp[CR,w7,hk,bN,hw,ints,a1,a2]
     .simp[a1,a2] at ho;simp[CR,w7,hk,bN,hw,ints,a1,a2,ho]
    .simp[a1] at ho;simp[CR,w7,hk,bN,hw,ints,a1,ho]
   .rw[hb];have bN:k<ks.length:=by omega
    unfold pQ at ho;simp only[aN,bE hk,bE bN,nZ] at ho;generalize oK sh.1 ks k=c at*;by_cases a1:sh.1[k]=-1
    .by_cases a2:c=-1
     .simp[a1,a2] at ho
     .simp[a1,a2] at ho;simp[CR,w7,hk,bN,ints,a1,a2,ho]
    .simp[a1] at ho;simp[CR,w7,hk,bN,ints,a1,ho]
   .rw[hj];simp[CR,w7];by_cases a1:sh.2=-1<;>simp[a1]
def kF (t:Tm):Int×Int:=if 60<bk 8 t then(0,6) else bq 8 t
def agt (t:Tm)(ht:t.OK):au T 111 [dB t] (.tup [.int (kF t).1,.int (kF t).2]):=by
 refine zyv 32 awS ?_;simp[WK,kF];refine⟨_,UX 8 t 1 ht (by omega) (by omega),?_⟩;by_cases h:60<bk 8 t
 .simp[h]
 simp[h];refine⟨_,UW 8 t ht (by omega),?_⟩;simp
abbrev u (n:Nat):D:=.v (.int .u64 n)
def aho (n:Int):IntKind.u64.wrap n=n%18446744073709551616:=rfl
def Hv {n:Int}(h:0<=n/\n<18446744073709551616):IntKind.u64.wrap n=n:=by
 rw[aho];omega
def zE {n:Nat}(h:n<18446744073709551616):IntKind.u64.wrap (n:Int)=n:=Hv (by omega)
def aup (a s:Nat)(h:s<=64):cJ .shr .u64 a s=((a/2^s:Nat):Int):=by
 show Int.fdiv (a:Int) (2^(min (s:Int).toNat 64))=_;have:min (s:Int).toNat 64=s:=by simp;omega
 rw[this,ahG _ (Int.le_of_lt (Int.pow_pos (by decide)))];rw[Int.natCast_ediv,Int.natCast_pow];rfl
def Oj (a:Nat)(h:a<18446744073709551616):cJ .and .u64 a 4294967295=((a%4294967296:Nat):Int):=by
 show IntKind.u64.wrap ((BitVec.ofInt 64 (a:Int)&&& BitVec.ofInt 64 4294967295).toNat:Nat)=_;have e:(BitVec.ofInt 64 (a:Int)&&& BitVec.ofInt 64 4294967295).toNat=a%4294967296:=by
  rw[BitVec.toNat_and];have e1:(BitVec.ofInt 64 (a:Int)).toNat=a:=by simp[BitVec.ofInt,BitVec.toNat_ofNat];omega
  have e2:(BitVec.ofInt 64 4294967295).toNat=2^32-1:=by decide
  rw[e1,e2,Nat.and_two_pow_sub_one_eq_mod]
 rw[e,zE (by omega)]
@[simp] def C0 (a:Nat):cJ .shr .u64 a 32=((a/4294967296:Nat):Int):=aup a 32 (by decide)
set_option maxHeartbeats 2000000 in
def aqY (a b:Nat)(ha:a<18446744073709551616)(hb:b<18446744073709551616):au T 157 [u a,u b] (.tup [u (a*b/18446744073709551616),u (a*b%18446744073709551616)]):=by
 refine zyv 46 auW ?_;obtain⟨h1,h2,h3,h4⟩:=Go.Lib.mul64_hi a b ha hb;have elo:IntKind.u64.wrap ((a:Int)*(b:Int))=((a*b%18446744073709551616:Nat):Int):=by rw[aho,Int.natCast_emod,Int.natCast_mul];rfl
 have Ps:cJ .shr .u64 (a:Int) 32=((a/4294967296:Nat):Int):=C0 a;have ea0:cJ .and .u64 (a:Int) 4294967295=((a%4294967296:Nat):Int):=Oj a ha;have Pt:cJ .shr .u64 (b:Int) 32=((b/4294967296:Nat):Int):=C0 b;have eb0:cJ .and .u64 (b:Int) 4294967295=((b%4294967296:Nat):Int):=Oj b hb;have aB9:=Go.Lib.half_mul_le (a:=a/4294967296) (b:=b/4294967296) (by omega) (by omega);have aB8:=Go.Lib.half_mul_le (a:=a/4294967296) (b:=b%4294967296) (by omega) (by omega);have aB7:=Go.Lib.half_mul_le (a:=a%4294967296) (b:=b/4294967296) (by omega) (by omega);have aB6:=Go.Lib.half_mul_le (a:=a%4294967296) (b:=b%4294967296) (by omega) (by omega);have Qv:a*b/18446744073709551616<18446744073709551616:=by
  have:a*b<18446744073709551616*18446744073709551616:=Nat.mul_lt_mul'' ha hb;exact Nat.div_lt_of_lt_mul this
 simp only[U4];generalize a/4294967296=a1 at*;generalize a%4294967296=a0 at*;generalize b/4294967296=b1 at*;generalize b%4294967296=b0 at*;have p11:IntKind.u64.wrap ((a1:Int)*(b1:Int))=((a1*b1:Nat):Int):=by rw[<-Int.natCast_mul];exact zE (by omega)
 have p10:IntKind.u64.wrap ((a1:Int)*(b0:Int))=((a1*b0:Nat):Int):=by rw[<-Int.natCast_mul];exact zE (by omega)
 have p01:IntKind.u64.wrap ((a0:Int)*(b1:Int))=((a0*b1:Nat):Int):=by rw[<-Int.natCast_mul];exact zE (by omega)
 have p00:IntKind.u64.wrap ((a0:Int)*(b0:Int))=((a0*b0:Nat):Int):=by rw[<-Int.natCast_mul];exact zE (by omega)
 rw[<-h4] at Qv ⊢;generalize a1*b1=P at*;generalize a1*b0=Q at*;generalize a0*b1=R at*;generalize a0*b0=S at*;have s1:cJ .shr .u64 (S:Int) 32=((S/4294967296:Nat):Int):=C0 S;have s2:IntKind.u64.wrap ((Q:Int)+((S/4294967296:Nat):Int))=((Q+S/4294967296:Nat):Int):=by rw[Hv (by omega)];omega
 generalize S/4294967296=S1 at*;generalize hT:Q+S1=TT at*;have s3:cJ .shr .u64 (TT:Int) 32=((TT/4294967296:Nat):Int):=C0 TT;have s4:cJ .and .u64 (TT:Int) 4294967295=((TT%4294967296:Nat):Int):=Oj TT (by omega);have s5:IntKind.u64.wrap (((TT%4294967296:Nat):Int)+(R:Int))=((TT%4294967296+R:Nat):Int):=by rw[Hv (by omega)];omega
 generalize hU:TT%4294967296+R=U at*;have s6:cJ .shr .u64 (U:Int) 32=((U/4294967296:Nat):Int):=C0 U;have s7:IntKind.u64.wrap ((P:Int)+((TT/4294967296:Nat):Int))=((P+TT/4294967296:Nat):Int):=by rw[Hv (by omega)];omega
 have s8:IntKind.u64.wrap (((P+TT/4294967296:Nat):Int)+((U/4294967296:Nat):Int))=((P+TT/4294967296+U/4294967296:Nat):Int):=by rw[Hv (by omega)];omega
 simp[-C0,-Int.natCast_add,-Int.natCast_mul,-Int.natCast_ediv,-Int.natCast_emod,elo,Ps,ea0,Pt,eb0,p11,p10,p01,p00,s1,s2,s3,s4,s5,s6,s7,s8]
def nM (m:Nat):Int:=if m<1099511627776 then m else 1099511627776
def ri (a b:Int):Int:=if(decide (a<0)!=decide (b<0))=true then-nM (a.natAbs*b.natAbs) else nM (a.natAbs*b.natAbs)
def aev (m:Nat):0<=nM m/\nM m<=1099511627776:=by unfold nM;split<;>omega
set_option maxHeartbeats 1000000 in
def auJ (a b:Int)(ha:-1099511627776<=a/\a<=1099511627776)(hb:-1099511627776<=b/\b<=1099511627776):au T 156 [.int a,.int b] (.int (ri a b)):=by
 refine zyv 45 aw2 ?_;have wa:IntKind.u64.wrap (a.natAbs:Int)=a.natAbs:=zE (by omega);have wb:IntKind.u64.wrap (b.natAbs:Int)=b.natAbs:=zE (by omega);have w0a:i64.wrap (0-a)=-a:=by rw[bu (by omega)];omega
 have w0b:i64.wrap (0-b)=-b:=by rw[bu (by omega)];omega
 have axw:i64.wrap (-a)=-a:=bu (by omega);have axx:i64.wrap (-b)=-b:=bu (by omega);have ea:(if a< -a then D.int (-a) else D.int a)=D.int a.natAbs:=by split<;>congr 1<;>omega
 have eb:(if b< -b then D.int (-b) else D.int b)=D.int b.natAbs:=by split<;>congr 1<;>omega
 have ea':(if a< -a then-a else a)=(a.natAbs:Int):=by split<;>omega
 have eb':(if b< -b then-b else b)=(b.natAbs:Int):=by split<;>omega
 simp[WU,axw,axx,ea,eb,ea',eb'];rw[wa,wb];refine⟨_,aqY a.natAbs b.natAbs (by omega) (by omega),?_⟩;unfold ri;generalize a.natAbs*b.natAbs=m;have hs:(decide (a<0)!=decide (b<0))=false↔(a<0↔b<0):=by
  by_cases h1:a<0<;>by_cases h2:b<0<;>simp[h1,h2]
 have key:((if((m/18446744073709551616:Nat):Int)=0/\((m%18446744073709551616:Nat):Int)<1099511627776 then i64.wrap ((m%18446744073709551616:Nat):Int) else 1099511627776):Int)=nM m:=by
  unfold nM;by_cases hm:m<1099511627776
  .have h1:m/18446744073709551616=0:=by omega
   have h2:m%18446744073709551616=m:=by omega
   rw[h1,h2,if_pos ⟨rfl,by omega⟩,if_pos hm,bu (by omega)]
  .rw[if_neg hm,if_neg];rintro⟨h1,h2⟩;omega
 have eA:=aev m;have apk:(if((m/18446744073709551616:Nat):Int)=0/\((m%18446744073709551616:Nat):Int)<1099511627776 then D.int (i64.wrap ((m%18446744073709551616:Nat):Int)) else D.int 1099511627776)=D.int (nM m):=by
  rw[<-key];split<;>rfl
 show(if a<0↔b<0 then(if((m/18446744073709551616:Nat):Int)=0/\((m%18446744073709551616:Nat):Int)<1099511627776 then D.int (i64.wrap ((m%18446744073709551616:Nat):Int)) else D.int 1099511627776)=_ else
  i64.wrap (-(if((m/18446744073709551616:Nat):Int)=0/\((m%18446744073709551616:Nat):Int)<1099511627776 then i64.wrap ((m%18446744073709551616:Nat):Int) else 1099511627776))=_)
 rw[apk,key];generalize nM m=n at*;split
 .rename_i h;rw[hs.2 h];simp
 .rename_i h;have:(decide (a<0)!=decide (b<0))=true:=by
   cases e:(decide (a<0)!=decide (b<0)) with
   |true=>rfl
   |false=>exact absurd (hs.1 e) h
  rw[this,bu (by omega)];simp
def tK (op a b:Int):Int:=if op=9 then mC (a+b) else if op=10 then mC (a-b) else if op=11 then ri a b else if op=12 then min a b else max a b
def auG (op a b:Int)(ha:-1099511627776<=a/\a<=1099511627776)(hb:-1099511627776<=b/\b<=1099511627776):au T 147 [.int op,.int a,.int b] (.int (tK op a b)):=by
 refine zyv 44 awV ?_;have w1:i64.wrap (a+b)=a+b:=bu (by omega);have w2:i64.wrap (a-b)=a-b:=bu (by omega);simp[WN,tK,w1,w2];by_cases h1:op=9
 .simp[h1];exact Np _
 by_cases h2:op=10
 .simp[h1,h2];exact Np _
 by_cases h3:op=11
 .simp[h1,h2,h3];exact auJ a b ha hb
 by_cases h4:op=12
 .simp[h1,h2,h3,h4];by_cases h5:b<a<;>simp[h5]<;>omega
 simp[h1,h2,h3,h4];by_cases h5:b>a<;>simp[h5]<;>omega
def fD (b:Bool):Cell:=if b then⟨true,1⟩ else⟨true,0⟩
def xk (b:Bool):au T 145 [.bool b] (cu (fD b)):=by
 refine zyv 42 aw4 ?_;cases b<;>simp[WW,fD]<;>rfl
def dj:Cell:=⟨false,0⟩
@[simp] def aCY:D.agg [.bool false,.int 0]=cu dj:=zyy
@[simp] def aCZ:dj.known=false:=rfl
@[simp] def aC0:dj.n=0:=rfl
def cellAt (cs:List Cell)(v:Int):Cell:=cs.getD v.toNat default
def kY (cs:List Cell)(v:Int):Cell:=if cs.length<=v.toNat\/(cellAt cs v).known=false then dj else if(kZ v).1=1 then fD (decide ((cellAt cs v).n≠0)) else⟨true,mC (cellAt cs v).n⟩
abbrev Pv (cs:List Cell):D:=.agg [cells cs]
def auL (cs:List Cell)(v:Int)(hv:0<=v):au T 133 [Pv cs,.int v] (cu (kY cs v)):=by
 refine zyv 41 aw1 ?_;obtain⟨k,rfl⟩:=vl hv;simp[WT,kY,cellAt];by_cases h1:cs.length<=k
 .simp[h1]
 have da:k<cs.length:=by omega
 simp[h1,da];cases h2:cs[k].known
 .simp[h2]
 simp[h2];refine⟨_,agu _,?_⟩;by_cases h3:(kZ k).1=1
 .simp[h3,da];refine⟨_,xk _,?_⟩;simp;rfl
 .simp[h3,da];refine⟨_,Np _,?_⟩;simp;rfl
@[simp] def aCo (a b:Int):(a==b)=decide (a=b):=zyy
@[simp] def aCp (a b:Int):(a !=b)= !decide (a=b):=zyy
def bf (l:List Cell)(k:Nat):Cell:=l.getD k default
def fc (op:Int)(l:List Cell):Cell:=
 if op=3 then(if(bf l 0).known=true then fD (decide ((bf l 0).n=0)) else dj)
 else if(op=4\/op=5)/\(bf l 0=fD (decide (op=5))\/bf l 1=fD (decide (op=5))) then fD (decide (op=5))
 else if op=6 then(if(bf l 1).known=true/\bf l 1=bf l 2 then bf l 1 else dj)
 else if(bf l 0).known=false\/(bf l 1).known=false then dj
 else if op=4\/op=5 then fD (decide (op=4))
 else if op=7 then fD (decide ((bf l 0).n<(bf l 1).n)) else if op=8 then fD (decide ((bf l 0).n=(bf l 1).n)) else⟨true,tK op (bf l 0).n (bf l 1).n⟩
def Ij (a b:Cell):a=b↔a.known=b.known/\a.n=b.n:=by cases a;cases b;simp
def auH (op:Int)(l:List Cell)(h1:1<=l.length)(h2:op≠3->2<=l.length)(h3:op=6->3<=l.length)
 (hb:9<=op->(-1099511627776<=(bf l 0).n/\(bf l 0).n<=1099511627776)/\(-1099511627776<=(bf l 1).n/\(bf l 1).n<=1099511627776)) (h9:op<3\/8<op->9<=op):
 au T 134 [.int op,cells l] (cu (fc op l)):=by
 refine zyv 43 awX ?_;have g0:0<l.length:=by omega
 have yc:l[0]=bf l 0:=by simp[bf,g0]
 simp[WQ];unfold fc;by_cases o3:op=3
 .simp[o3,g0,yc];cases e:(bf l 0).known
  .simp
  .simp[g0];refine⟨_,xk _,?_⟩;simp
 have g1:1<l.length:=by have:=h2 o3;omega
 have El:l[1]=bf l 1:=by simp[bf,g1]
 have gJ:(1:Int)<l.length:=by omega
 simp[o3];have fin:∀a b:Cell,(a=b)=(a.known=b.known/\a.n=b.n):=λa b=>propext (Ij a b);rcases HE (op=4) with o4|o4
 .subst o4;simp;refine⟨_,xk _,?_⟩;simp[g0,g1,gJ,yc,El,fin];split
  .rfl
  .split
   .rfl
   .refine⟨_,xk _,?_⟩;simp
 rcases HE (op=5) with o5|o5
 .subst o5;simp;refine⟨_,xk _,?_⟩;simp[g0,g1,gJ,yc,El,fin];split
  .rfl
  .split
   .rfl
   .refine⟨_,xk _,?_⟩;simp
 rcases HE (op=6) with o6|o6
 .subst o6;have g2:2<l.length:=by have:=h3 rfl;omega
  have gg2:l[2]=bf l 2:=by simp[bf,g2]
  have pz:(2:Int)<l.length:=by omega
  simp[g1,g2,gJ,pz,El,gg2,fin];cases e1:(bf l 1).known
  .simp
  by_cases e2:(bf l 1).known=(bf l 2).known/\(bf l 1).n=(bf l 2).n
  .rw[e1] at e2;simp[e1,e2]
  .rw[e1] at e2;have vF:¬((bf l 2).known=true/\(bf l 1).n=(bf l 2).n):=λh=>e2 ⟨h.1.symm,h.2⟩;simp only[e1,true_and,if_true]
   first|(rw[if_neg vF,if_neg vF])|(simp[vF])
 simp[o4,o5,o6,g0,g1,gJ,yc,El];cases e1:(bf l 0).known
 .simp
 cases e2:(bf l 1).known
 .simp
 simp[g1,gJ,El];rcases HE (op=7) with o7|o7
 .subst o7;simp;refine⟨_,xk _,?_⟩;simp
 rcases HE (op=8) with o8|o8
 .subst o8;simp;refine⟨_,xk _,?_⟩;simp
 simp[o7,o8];obtain⟨b1,b2⟩:=hb (h9 (by omega));refine⟨_,auG op _ _ b1 b2,?_⟩;simp;rfl
def aZ:Nat->List Cell->Tm->Cell
 |0,_,_=>dj
 |L+1,cs,t=>if t.op=0\/t.op=1 then⟨true,t.n⟩ else if t.op=2 then kY cs t.n else
   if t.op=6/\(bf (t.args.map (aZ L cs)) 0).known=true then bf (t.args.map (aZ L cs)) (2-(bf (t.args.map (aZ L cs)) 0).n).toNat else fc t.op (t.args.map (aZ L cs))
def fi:Nat->List Cell->Tm->List Int
 |0,_,_=>[]
 |L+1,cs,t=>if t.op=0\/t.op=1 then[] else if t.op=2 then(if(kY cs t.n).known=true then[] else[t.n]) else
   if t.op=6/\(bf (t.args.map (aZ L cs)) 0).known=true then(t.args.map (fi L cs)).getD (2-(bf (t.args.map (aZ L cs)) 0).n).toNat [] else
   if(fc t.op (t.args.map (aZ L cs))).known=true then[] else(t.args.map (fi L cs)).flatten
def x9 (L:Nat)(cs:List Cell)(t:Tm):aZ (L+1) cs t=if t.op=0\/t.op=1 then⟨true,t.n⟩ else if t.op=2 then kY cs t.n else
 if t.op=6/\(bf (t.args.map (aZ L cs)) 0).known=true then bf (t.args.map (aZ L cs)) (2-(bf (t.args.map (aZ L cs)) 0).n).toNat else fc t.op (t.args.map (aZ L cs)):=rfl
def LF (L:Nat)(cs:List Cell)(t:Tm):fi (L+1) cs t=if t.op=0\/t.op=1 then[] else if t.op=2 then(if(kY cs t.n).known=true then[] else[t.n]) else
 if t.op=6/\(bf (t.args.map (aZ L cs)) 0).known=true then(t.args.map (fi L cs)).getD (2-(bf (t.args.map (aZ L cs)) 0).n).toNat [] else
 if(fc t.op (t.args.map (aZ L cs))).known=true then[] else(t.args.map (fi L cs)).flatten:=rfl
def JO {L:Nat}{t:Tm}{k:Int}(h:bq (L+1) t=(k,0)):(∀a,a∈t.args->(bq L a).2=0)/\sC t (t.args.map λa=>(bq L a).1)=(k,0):=by
 rw[DK] at h;by_cases e:gw t.args.length (λk=>(bq L (t.args.getD k default)).2)=0
 .rw[if_neg (by simpa using e)] at h;refine⟨λa ha=>?_,h⟩;obtain⟨j,hj,rfl⟩:=gn ha;have:=J0.1 e j hj;simpa [hj] using this
 .rw[if_pos e] at h;injection h with _ h
  exact absurd h e
inductive Node (ks:List Int) (t:Tm):Int->Prop where
 |int (h:t.op=0) (ha:t.args=[]) (hn:-1099511627776<=t.n/\t.n<=1099511627776):Node ks t 0
 |bool (h:t.op=1) (ha:t.args=[]) (hn:t.n=0\/t.n=1):Node ks t 1
 |var (h:t.op=2) (ha:t.args=[]) (hn:0<=t.n/\t.n<=19):Node ks t (kZ t.n).1
 |not (h:t.op=3) (hk:ks=[1]):Node ks t 1
 |log (h:t.op=4\/t.op=5) (hk:ks=[1,1]):Node ks t 1
 |ite (k:Int) (h:t.op=6) (hk:ks=[1,k,k]):Node ks t k
 |less (h:t.op=7) (hk:ks=[0,0]):Node ks t 1
 |equal (k:Int) (h:t.op=8) (hk:ks=[k,k]):Node ks t 1
 |num (h:9<=t.op/\t.op<=13) (hk:ks=[0,0]):Node ks t 0
def ahi (v:Int):(kZ v).1=0\/(kZ v).1=1:=by
 unfold kZ;repeat' split
 all_goals simp
def ark {t:Tm}{ks:List Int}{k:Int}(hl:ks.length=t.args.length)(dR:∀x,x∈ks->x=0\/x=1)(h:sC t ks=(k,0)):Node ks t k:=by
 unfold sC at h;split at h
 .injection h with _ h;cases h
 rename_i bT;split at h
 .rename_i h3;unfold sA at h;split at h
  .injection h with _ h;cases h
  rename_i ha0;have ha:t.args=[]:=NR (by omega);split at h
  .rename_i h0;split at h
   .injection h with _ h;cases h
   .rename_i hc;injection h with h _
    subst h;refine .int h0 ha ?_;unfold mC at hc;omega
  split at h
  .rename_i h0;split at h
   .injection h with _ h;cases h
   .rename_i hc;injection h with h _
    subst h;exact .bool h0 ha (by omega)
  split at h
  .injection h with _ h;cases h
  .rename_i g0 g1 hc;injection h with h _
   subst h;refine .var (by omega) ha ?_;unfold kZ at hc;split at hc
   .simp at hc
   .omega
 rename_i h3;split at h
 .injection h with _ h;cases h
 rename_i hlen;have pE:ks.length=(dU t.op).1.length:=by
  refine xC λhh=>hlen (.inl hh)
 split at h
 .injection h with _ h;cases h
 rename_i az;have jN:∀j,j<(dU t.op).1.length->pQ (dU t.op).1 ks j=true:=Dn.1 (by simpa using az)
 have two:∀{n:Nat},ks.length=2->∃a b,ks=[a,b]:=λh=>by
  match ks,h with
  |[a,b],_=>exact⟨a,b,rfl⟩
 by_cases o3:t.op=3
 .have e:dU t.op=([1],1):=by simp[dU,o3]
  rw[e] at pE jN h
  match ks,pE with
  |[a],_=>
   have:=jN 0 (by simp);simp[pQ] at this;simp at h;subst h this;exact .not o3 rfl
 by_cases B5:t.op=4\/t.op=5
 .have e:dU t.op=([1,1],1):=by simp[dU,o3,B5]
  rw[e] at pE jN h
  match ks,pE with
  |[a,b],_=>
   have t1:=jN 0 (by simp);have t2:=jN 1 (by simp);simp[pQ] at t1 t2;simp at h;subst h t1 t2;exact .log B5 rfl
 by_cases o6:t.op=6
 .have e:dU t.op=([1,-1,-1],-1):=by simp[dU,o6]
  rw[e] at pE jN h
  match ks,pE,dR with
  |[a,b,c],_,dR=>
   have t1:=jN 0 (by simp);have t3:=jN 2 (by simp);have hb:=dR b (by simp);have sf:¬b=-1:=by omega
   simp[pQ] at t1;simp[pQ,oK,sf] at t3;simp[oK,sf] at h;subst h t1 t3;exact .ite _ o6 rfl
 by_cases o7:t.op=7
 .have e:dU t.op=([0,0],1):=by simp[dU,o7]
  rw[e] at pE jN h
  match ks,pE with
  |[a,b],_=>
   have t1:=jN 0 (by simp);have t2:=jN 1 (by simp);simp[pQ] at t1 t2;simp at h;subst h t1 t2;exact .less o7 rfl
 by_cases o8:t.op=8
 .have e:dU t.op=([-1,-1],1):=by simp[dU,o8]
  rw[e] at pE jN h
  match ks,pE,dR with
  |[a,b],_,dR=>
   have t2:=jN 1 (by simp);have ha:=dR a (by simp);have han:¬a=-1:=by omega
   simp[pQ,oK,han] at t2;simp at h;subst h t2;exact .equal _ o8 rfl
 have e:dU t.op=([0,0],0):=by simp[dU,o3,B5,o6,o7,o8]
 rw[e] at pE jN h
 match ks,pE with
 |[a,b],_=>
  have t1:=jN 0 (by simp);have t2:=jN 1 (by simp);simp[pQ] at t1 t2;simp at h;subst h t1 t2;exact .num (by omega) rfl
def DL:∀{L:Nat} {t:Tm} {k:Int},bq (L+1) t=(k,0)->Node (t.args.map λa=>(bq L a).1) t k/\(k=0\/k=1)
 |L,t,k,h=>by
  obtain⟨h1,h2⟩:=JO h
  have dR:∀x,x∈(t.args.map λa=>(bq L a).1)->x=0\/x=1:=by
   intro x hx;obtain⟨a,ha,rfl⟩:=dX.1 hx;cases L with
   |zero=>exact .inl rfl
   |succ L=>exact(DL (L:=L) (t:=a) (k:=(bq (L+1) a).1) (by rw[<-h1 a ha])).2
  have hn:=ark (by simp) dR h2;refine⟨hn,?_⟩;cases hn with
  |int=>simp
  |bool=>simp
  |var=>exact ahi _
  |not=>simp
  |log=>simp
  |ite k _ hk=>exact dR k (by rw[hk];simp)
  |less=>simp
  |equal=>simp
  |num=>simp
def rJ (k:Int)(c:Cell):Prop:=(c.known=false->c=dj)/\(c.known=true->(k=1->c.n=0\/c.n=1)/\(k=0->-1099511627776<=c.n/\c.n<=1099511627776))
def w9 (k:Int):rJ k dj:=⟨λ_=>rfl,λh=>by cases h⟩
def CU (b:Bool):rJ 1 (fD b):=⟨λh=>(by cases b<;>cases h),λ_=>⟨λ_=>(by cases b<;>simp[fD]),λh=>by cases h⟩⟩
def Pl (n:Int):-1099511627776<=mC n/\mC n<=1099511627776:=by unfold mC;omega
def atT (cs:List Cell)(v:Int)(hv:0<=v/\v<=19):rJ (kZ v).1 (kY cs v):=by
 unfold kY;split
 .exact w9 _
 .split
  .rename_i h;rw[h];exact CU _
  .rename_i h;refine⟨λh=>(by cases h),λ_=>⟨λh'=>absurd h' h,λ_=>Pl _⟩⟩
def asC (a b:Int):-1099511627776<=ri a b/\ri a b<=1099511627776:=by
 unfold ri;have:=aev (a.natAbs*b.natAbs);split<;>omega
def aid (op a b:Int)(ha:-1099511627776<=a/\a<=1099511627776)(hb:-1099511627776<=b/\b<=1099511627776):-1099511627776<=tK op a b/\tK op a b<=1099511627776:=by
 unfold tK;split
 .exact Pl _
 split
 .exact Pl _
 split
 .exact asC _ _
 split<;>omega
def aca {α β:Type}{f:α->β}{l:List α}{x:β}(h:l.map f=[x]):∃a,l=[a]/\f a=x:=by
 match l,h with
 |[a],h=>exact⟨a,rfl,by simpa using h⟩
def wF {α β:Type}{f:α->β}{l:List α}{x y:β}(h:l.map f=[x,y]):∃a b,l=[a,b]/\f a=x/\f b=y:=by
 match l,h with
 |[a,b],h=>exact⟨a,b,rfl,by simpa using h⟩
def Lu {α β:Type}{f:α->β}{l:List α}{x y z:β}(h:l.map f=[x,y,z]):∃a b c,l=[a,b,c]/\f a=x/\f b=y/\f c=z:=by
 match l,h with
 |[a,b,c],h=>exact⟨a,b,c,rfl,by simpa using h⟩
def PA:∀{L:Nat} {t:Tm} {k:Int} (cs:List Cell),bq L t=(k,0)->rJ k (aZ L cs t)
 |0,t,k,cs,h=>w9 _
 |L+1,t,k,cs,h=>by
  obtain⟨hn,hk⟩:=DL h;obtain⟨ha,_⟩:=JO h;have ih:∀a,a∈t.args->rJ (bq L a).1 (aZ L cs a):=λa hm=>PA cs (show bq L a=((bq L a).1,0) by rw[<-ha a hm]);rw[x9];cases hn with
  |int h0 ha hn=>rw[if_pos (.inl h0)];exact⟨λh=>(by cases h),λ_=>⟨λh=>(by cases h),λ_=>hn⟩⟩
  |bool h0 ha hn=>rw[if_pos (.inr h0)];exact⟨λh=>(by cases h),λ_=>⟨λ_=>hn,λh=>by cases h⟩⟩
  |var h0 ha hn=>rw[if_neg (by omega),if_pos h0];exact atT cs _ hn
  |not h0 hk=>
   rw[if_neg (by omega),if_neg (by omega),if_neg (by omega)];unfold fc;rw[if_pos h0];split
   .exact CU _
   .exact w9 _
  |log h0 hk=>
   rw[if_neg (by omega),if_neg (by omega),if_neg (by omega)];unfold fc;rw[if_neg (by omega)];split
   .exact CU _
   rw[if_neg (by omega)];split
   .exact w9 _
   exact CU _
  |ite k h0 bN=>
   obtain⟨a,b,c,hl,e1,e2,e3⟩:=Lu bN;rw[hl] at ih ⊢;have r1:=ih a (by simp);have r2:=ih b (by simp);have r3:=ih c (by simp);rw[e1] at r1;rw[e2] at r2;rw[e3] at r3;rw[if_neg (by omega),if_neg (by omega)];simp only[gq,tF,bf,vm];split
   .rename_i hh;rcases(r1.2 hh.2).1 rfl with h1|h1<;>rw[h1]
    .exact r3
    .exact r2
   .unfold fc;rw[if_neg (by omega),if_neg (by omega),if_pos h0];simp only[bf,vm,Di];split
    .exact r2
    .exact w9 _
  |less h0 hk=>
   rw[if_neg (by omega),if_neg (by omega),if_neg (by omega)];unfold fc;rw[if_neg (by omega),if_neg (by omega),if_neg (by omega)];split
   .exact w9 _
   repeat' split
   all_goals exact CU _
  |equal k h0 hk=>
   rw[if_neg (by omega),if_neg (by omega),if_neg (by omega)];unfold fc;rw[if_neg (by omega),if_neg (by omega),if_neg (by omega)];split
   .exact w9 _
   repeat' split
   all_goals exact CU _
  |num h0 bN=>
   obtain⟨a,b,hl,e1,e2⟩:=wF bN;rw[hl] at ih ⊢;have r1:=ih a (by simp);have r2:=ih b (by simp);rw[e1] at r1;rw[e2] at r2;rw[if_neg (by omega),if_neg (by omega),if_neg (by omega)];unfold fc;rw[if_neg (by omega),if_neg (by omega),if_neg (by omega)];simp only[gq,tF,bf,vm,Di];split
   .exact w9 _
   rename_i EW;rw[if_neg (by omega),if_neg (by omega),if_neg (by omega)];have k1:(aZ L cs a).known=true:=by
    cases e:(aZ L cs a).known with
    |true=>rfl
    |false=>exact absurd (.inl e) EW
   have k2:(aZ L cs b).known=true:=by
    cases e:(aZ L cs b).known with
    |true=>rfl
    |false=>exact absurd (.inr e) EW
   exact⟨λh=>(by cases h),λ_=>⟨λh=>(by cases h),λ_=>aid _ _ _ ((r1.2 k1).2 rfl) ((r2.2 k2).2 rfl)⟩⟩
def acy:∀(L:Nat) (cs:List Cell) (t:Tm),bk L t<=60->((fi L cs t).length:Int)<=bk L t
 |0,cs,t,h=>by simp[bk] at h
 |L+1,cs,t,h=>by
  have h1:=wH (L+1) t;obtain⟨hl,hp⟩:=FK h;have hs:∀(l:List Tm) (n:Int),(∀a,a∈l->bk L a<=60)->di (bk L) l n<=60->((l.map (fi L cs)).flatten.length:Int)+n<=di (bk L) l n/\∀j,(((l.map (fi L cs)).getD j []).length:Int)+n<=di (bk L) l n:=by
   intro l
   induction l with
   |nil=>intro n _ _;simp[di]
   |cons a l ih=>
    intro n hp hm;have ha:=acy L cs a (hp a (by simp));unfold di at hm ⊢;split at hm
    .omega
    .rename_i h60;rw[if_neg h60];obtain⟨i1,i2⟩:=ih (n+bk L a) (λb hb=>hp b (by simp[hb])) hm;refine⟨by rw[gq,XL,jY];omega,λj=>?_⟩;cases j with
     |zero=>simp;omega
     |succ j=>have:=i2 j;simp at this ⊢;omega
  obtain⟨kh,fe⟩:=hs t.args 1 hp h;rw[LF];split
  .simp;omega
  split
  .split<;>simp<;>omega
  split
  .have:=fe (2-(bf (t.args.map (aZ L cs)) 0).n).toNat;show _<=di _ _ _;omega
  split
  .simp;omega
  .show _<=di _ _ _;omega
@[simp] def aDH (x y:List Int):va (ints x) 0 (ints y)=ints y:=zyy
@[simp] def aut (x y:Cell):va (cu x) 0 (cu y)=cu y:=zyy
@[simp] def aCq (a b:List Int):D.list (a.map D.int++b.map D.int)=ints (a++b):=by simp[ints]
def lists (l:List (List Int)):D:=.list (l.map ints)
@[simp] def aCC (l:List (List Int)):(lists l).l=l.map ints:=zyy
def ahx (l:List (List Int))(hl:l.length<=1000)(hs:l.flatten.length<=1000000):au T 135 [lists l] (ints l.flatten):=by
 refine zyv 47 awH ?_;simp[Wy];have hb:∀k,(l.take k).flatten.length<=l.flatten.length:=by
  intro k
  conv=>rhs;rw[<-vq k l]
  rw[List.flatten_append,jY];omega
 have bW:∀k (hk:k<l.length),(l.take (k+1)).flatten=(l.take k).flatten++l[k]:=λk hk=>by
  rw[ql hk,List.flatten_append];simp
 refine aP.forRounds l.length (λk=>[.int ((l.take k).flatten.length:Nat),.int k]) (λk=>[]) ?_ (λk hk=>?_) ?_
 .simp
 .have hw:=br hk (by omega);have h1:=bW k hk;have h2:=hb (k+1);rw[h1] at h2 ⊢;rw[jY] at h2 ⊢;generalize (l.take k).flatten.length=m at*;have uv:i64.wrap ((m:Int)+(l[k].length:Int))=(m:Int)+l[k].length:=bu (by omega);have yD:¬((m:Int)+l[k].length<0):=by omega
  simp[afD,MU,hk,hw,uv,yD]
 .simp[afD,MU];have BD:au T 148 [.list [],.int (l.flatten.length:Nat)] (.list []):=by
   refine .of_ext (g:=λ_ ds=>J9 ds) rfl ⟨0,λ_ _=>?_⟩;show(if(0:Int)<=(l.flatten.length:Nat)/\((l.flatten.length:Nat):Int)<=4294967296 then some (D.list []) else none)=some (D.list []);rw[if_pos (by omega)]
  rw[List.length_flatten] at BD;refine⟨_,BD,?_⟩;refine aP.forRounds l.length (λk=>[.none,.int k]) (λk=>[ints (l.take k).flatten]) ?_ (λk hk=>?_) ?_
  .simp[ints]
  .have hw:=br hk (by omega);have h1:=bW k hk;have h2:=hb (k+1);rw[h1] at h2 ⊢;rw[jY] at h2;generalize (l.take k).flatten=m at*;simp[afE,MV,hk,hw];omega
  .simp[afE,MV]
def ajf {op:Int}{l:List Cell}(h:(fc op l).known=false):fc op l=dj:=by
 have hy:∀b,(fD b).known=true:=λb=>by cases b<;>simp[fD]
 unfold fc at h ⊢;split<;>rename_i c1
 .rw[if_pos c1] at h;split<;>rename_i c2
  .rw[if_pos c2,hy] at h;cases h
  .rfl
 rw[if_neg c1] at h;split<;>rename_i c2
 .rw[if_pos c2,hy] at h;cases h
 rw[if_neg c2] at h;split<;>rename_i c3
 .rw[if_pos c3] at h;split<;>rename_i c4
  .rw[if_pos c4,c4.1] at h;cases h
  .rfl
 rw[if_neg c3] at h;split<;>rename_i c4
 .rfl
 rw[if_neg c4] at h
 repeat' split at h
 all_goals first|(rw[hy] at h;cases h)|cases h
def agv:∀(L:Nat) (cs:List Cell) (t:Tm) (k:Int),t.OK->bk L t<=60->bq L t=(k,0)->au T 112 [Pv cs,dB t] (.tup [cu (aZ L cs t),ints (fi L cs t)])
 |0,cs,t,k,ht,hm,hc=>by simp[bk] at hm
 |L+1,cs,t,k,ht,hm,hc=>by
  refine zyv 40 aw0 ?_;obtain⟨hl,hp⟩:=FK hm;obtain⟨ha,_⟩:=JO hc;obtain⟨hn,anA⟩:=DL hc;have ga:∀a,a∈t.args->au T 112 [Pv cs,dB a] (.tup [cu (aZ L cs a),ints (fi L cs a)]):=λa dM=>agv L cs a (bq L a).1 (ht.arg dM) (hp a dM) (by rw[<-ha a dM]);have pI:∀a,a∈t.args->rJ (bq L a).1 (aZ L cs a):=λa dM=>PA cs (show bq L a=((bq L a).1,0) by rw[<-ha a dM]);have QQ:∀a,a∈t.args->(fi L cs a).length<=60:=λa dM=>by have:=acy L cs a (hp a dM);have:=hp a dM;omega
  by_cases dR:t.op=0\/t.op=1
  ·
   have e1:aZ (L+1) cs t=⟨true,t.n⟩:=by rw[x9,if_pos dR]
   have e2:fi (L+1) cs t=[]:=by rw[LF,if_pos dR]
   rw[e1,e2];rcases dR with h|h<;>simp[Hp,h]<;>exact⟨rfl,rfl⟩
  have o0:t.op≠0:=λh=>dR (.inl h);have o1:t.op≠1:=λh=>dR (.inr h);by_cases o2:t.op=2
  .have hv:0<=t.n:=by
    cases hn with
    |var h0 ha hn=>exact hn.1
    |_=>omega
   have e1:aZ (L+1) cs t=kY cs t.n:=by rw[x9,if_neg dR,if_pos o2]
   have e2:fi (L+1) cs t=if(kY cs t.n).known=true then[] else[t.n]:=by rw[LF,if_neg dR,if_pos o2]
   rw[e1,e2];simp[Hp,o2];refine⟨_,auL cs t.n hv,?_⟩;cases e:(kY cs t.n).known
   .have:kY cs t.n=dj:=by
     unfold kY at e ⊢;split
     .rfl
     .rename_i h;rw[if_neg h] at e;split at e
      .cases hb:decide ((cellAt cs t.n).n≠0)<;>rw[hb] at e<;>cases e
      .cases e
    rw[this];simp[ints]
   .have h:kY cs t.n=⟨true,(kY cs t.n).n⟩:=by rw[<-e]
    rw[h];simp[ints]
    try rfl
  have hlen:1<=t.args.length/\(t.op≠3->2<=t.args.length)/\(t.op=6->3<=t.args.length):=by
   cases hn with
   |int h0 ha hn=>omega
   |bool h0 ha hn=>omega
   |var h0 ha hn=>omega
   |not h0 hk=>obtain⟨a,hl,_⟩:=aca hk;rw[hl];simp;omega
   |log h0 hk=>obtain⟨a,b,hl,_⟩:=wF hk;rw[hl];simp;omega
   |ite k h0 hk=>obtain⟨a,b,c,hl,_⟩:=Lu hk;rw[hl];simp
   |less h0 hk=>obtain⟨a,b,hl,_⟩:=wF hk;rw[hl];simp;omega
   |equal k h0 hk=>obtain⟨a,b,hl,_⟩:=wF hk;rw[hl];simp;omega
   |num h0 hk=>obtain⟨a,b,hl,_⟩:=wF hk;rw[hl];simp;omega
  have hb9:9<=t.op->(-1099511627776<=(bf (t.args.map (aZ L cs)) 0).n/\(bf (t.args.map (aZ L cs)) 0).n<=1099511627776)/\(-1099511627776<=(bf (t.args.map (aZ L cs)) 1).n/\(bf (t.args.map (aZ L cs)) 1).n<=1099511627776):=by
   intro h9;have rb:∀c:Cell,rJ 0 c->-1099511627776<=c.n/\c.n<=1099511627776:=by
    intro c hr;cases e:c.known with
    |false=>rw[hr.1 e];simp
    |true=>exact(hr.2 e).2 rfl
   cases hn with
   |num h0 hk=>
    obtain⟨a,b,hl,ea,eb⟩:=wF hk;rw[hl] at pI ⊢;have r1:=pI a (by simp);have r2:=pI b (by simp);rw[ea] at r1;rw[eb] at r2;exact⟨rb _ r1,rb _ r2⟩
   |log h0 hk=>omega
   |_=>omega
  have h6:t.op=6->(bf (t.args.map (aZ L cs)) 0).known=true->(bf (t.args.map (aZ L cs)) 0).n=0\/(bf (t.args.map (aZ L cs)) 0).n=1:=by
   intro o6 EW;cases hn with
   |ite k h0 hk=>
    obtain⟨a,b,c,hl,ea,_⟩:=Lu hk;rw[hl] at pI EW ⊢;have r1:=pI a (by simp);rw[ea] at r1;exact(r1.2 EW).1 rfl
   |log h0 hk=>omega
   |num h0 hk=>omega
   |_=>omega
  have bT:t.op<3\/8<t.op->9<=t.op:=by
   cases hn with
   |log h0 hk=>omega
   |num h0 hk=>omega
   |_=>omega
  have e1:aZ (L+1) cs t=if t.op=6/\(bf (t.args.map (aZ L cs)) 0).known=true then bf (t.args.map (aZ L cs)) (2-(bf (t.args.map (aZ L cs)) 0).n).toNat else fc t.op (t.args.map (aZ L cs)):=by
   rw[x9,if_neg dR,if_neg o2]
  have e2:fi (L+1) cs t=if t.op=6/\(bf (t.args.map (aZ L cs)) 0).known=true then(t.args.map (fi L cs)).getD (2-(bf (t.args.map (aZ L cs)) 0).n).toNat [] else if(fc t.op (t.args.map (aZ L cs))).known=true then[] else(t.args.map (fi L cs)).flatten:=by
   rw[LF,if_neg dR,if_neg o2]
  rw[e1,e2];simp[Hp,o0,o1,o2];refine⟨by omega,?_⟩;refine aP.forRounds t.args.length (λk=>[.int k]) (λk=>[cells ((t.args.map (aZ L cs)).take k++List.replicate (t.args.length-k) dj),lists ((t.args.map (fi L cs)).take k++List.replicate (t.args.length-k) [])]) ?_ (λk hk=>?_) ?_
  .simp[cells,lists,ints]
  .have hw:=br hk (by omega);have cL:=cY hk;have hr:=ga _ cL;have s1:=UO (t.args.map (aZ L cs)) dj (n:=t.args.length) (by simp) hk;have s2:=UO (t.args.map (fi L cs)) [] (n:=t.args.length) (by simp) hk;rw[<-s1,<-s2];have l1:((t.args.map (aZ L cs)).take k++List.replicate (t.args.length-k) dj).length=t.args.length:=by simp;omega
   have l2:((t.args.map (fi L cs)).take k++List.replicate (t.args.length-k) []).length=t.args.length:=by simp;omega
   have g1:(t.args.map (aZ L cs))[k]'(by simpa using hk)=aZ L cs t.args[k]:=by simp
   have g2:(t.args.map (fi L cs))[k]'(by simpa using hk)=fi L cs t.args[k]:=by simp
   rw[g1,g2];generalize (t.args.map (aZ L cs)).take k++List.replicate (t.args.length-k) dj=A at*;generalize (t.args.map (fi L cs)).take k++List.replicate (t.args.length-k) []=B at*;generalize aZ L cs t.args[k]=c at*;generalize fi L cs t.args[k]=d at*;simp[Uy,G3,hk];refine⟨_,hr,?_⟩;simp[hw,hk,l1,l2,cells,lists]
  .have hA:(t.args.map (aZ L cs)).take t.args.length++List.replicate (t.args.length-t.args.length) dj=t.args.map (aZ L cs):=by rw[N3,List.replicate_zero,mz,vt (by simp)]
   have hB:(t.args.map (fi L cs)).take t.args.length++List.replicate (t.args.length-t.args.length) []=t.args.map (fi L cs):=by rw[N3,List.replicate_zero,mz,vt (by simp)]
   have lA:(t.args.map (aZ L cs)).length=t.args.length:=by simp
   have lB:(t.args.map (fi L cs)).length=t.args.length:=by simp
   have jM:∀l:List Tm,(∀a,a∈l->a∈t.args)->((l.map (fi L cs)).flatten.length<=l.length*60):=by
    intro l
    induction l with
    |nil=>intro _;simp
    |cons a l ih=>
     intro h;have h1:=QQ a (h a (by simp));have h2:=ih (λb hb=>h b (by simp[hb]));rw[gq,XL,jY,mA];omega
   have jM:=jM t.args (λa h=>h);have hBg:∀m:Nat,(Option.map (fi L cs) t.args[m]?).getD []=(t.args.map (fi L cs)).getD m []:=λm=>by simp[aN]
   rw[hA,hB];generalize t.args.map (aZ L cs)=A at*;generalize t.args.map (fi L cs)=B at*;have g0:0<A.length:=by omega
   have yc:A[0]=bf A 0:=by simp[bf,g0]
   by_cases Kf:t.op=6/\(bf A 0).known=true
   .obtain⟨o6,kn⟩:=Kf;have hv:=h6 o6 kn;have hw:i64.wrap (2-(bf A 0).n)=2-(bf A 0).n:=bu (by omega);have h3:3<=t.args.length:=hlen.2.2 o6;rw[if_pos ⟨o6,kn⟩,if_pos ⟨o6,kn⟩];obtain⟨m,dM⟩:∃m:Nat,m=(2-(bf A 0).n).toNat:=⟨_,rfl⟩
    have EY:m<A.length:=by omega
    have QF:m<B.length:=by omega
    simp[Uy,G3,o6,kn,g0,yc,hw,<-dM,EY,QF,cells,lists];refine⟨by omega,by omega,by simp[bf,EY],?_⟩;rw[hBg,aN,bE QF];rfl
   .rw[if_neg Kf,if_neg Kf];have amS:=auH t.op A (by omega) (by omega) (by omega) hb9 bT;have amU:=ahx B (by omega) (by omega);simp[Uy,G3,g0,yc];rw[if_neg Kf];refine⟨_,amS,?_⟩;cases e:(fc t.op A).known
    .have eY:fc t.op A=dj:=ajf e;rw[eY];simp;exact amU
    .have h:fc t.op A=⟨true,(fc t.op A).n⟩:=by rw[<-e]
     rw[h];simp[ints]
     try rfl
end Rm
