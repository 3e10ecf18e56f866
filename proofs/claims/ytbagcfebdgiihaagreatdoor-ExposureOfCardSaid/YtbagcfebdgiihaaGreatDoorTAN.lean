/-
  Shared texts of this claim.
-/
import Derived.Test.YtbagcfebdgiihaaGreatDoorTAK
import Derived.Test.YtbagcfebdgiihaaGreatDoorTAL
import Derived.Test.YtbagcfebdgiihaaGreatDoorTAM
import Derived.Test.YtbagcfebdgiihaaGreatDoorTAJ
import Derived.Test.YtbagcfebdgiihaaGreatDoorTAI
import Derived.WalkKit
import Derived.WalkSpells
import Derived.Lib.SliceRun
import Derived.Lib.AppendZeros
import Derived.Laws.Strings
import Derived.Lib.Mul64
set_option linter.unusedVariables false
set_option maxRecDepth 100000
noncomputable section
namespace Rm
open Go Go.Proofs Cx
def Ow:List Nat:=[4,12,45,46,20,71,72,70,47,18,48,49,13,19,50,51,101,159,14,52,53,102,160,161,208,54,55,56,57,103,58,59,60,61,62,15,16,63,104,105,106,64,65,107,162,163,185,221,66,108,67,110,164,109,17,21,73,29,80,81,33,84,126,184,218,217,246,181,219,220,127,129,186,223,222,247,187,85,130,189,188,190,224,225,248,252,250,249,131,191,226,251,227,253,269,134,228,35,31,32,83,125,82,120,121,122,123,180,214,215,241,243,268,242,124,182,183,216,245,74,113,176,115,114,116,177,5,22]
def yL:List (Nat×PC):=[(4,(ae EK)),(12,(ae wL)),(45,(ae wK)),(46,(ae tJ)),(20,(ae p5)),(71,(ae p8)),(72,(ae p7)),(70,(ae p6)),(47,(ae tL)),(18,(ae tH)),(48,(ae tG)),(49,(ae tI)),(13,(ae wS)),(19,(ae wQ)),(50,(ae EV)),(51,(ae wR)),(101,(ae EW)),(159,(ae tM)),(14,(ae wT)),(52,(ae wZ)),(53,(ae wX)),(102,(ae E3)),(160,(ae wY)),(161,(ae Fa)),(208,(ae xl)),(54,(ae EX)),(55,(ae EY)),(56,(ae wW)),(57,(ae E2)),(103,(ae w8)),(58,(ae EZ)),(59,(ae E0)),(60,(ae w6)),(61,(ae w9)),(62,(ae w7)),(15,(ae Aj)),(16,(ae tK)),(63,(ae An)),(104,(ae Ft)),(105,(ae Fu)),(106,(ae wV)),(64,(ae wP)),(65,(ae ET)),(107,(ae ES)),(162,(ae ER)),(163,(ae EU)),(185,(ae E9)),(221,(ae xk)),(66,(ae wN)),(108,(ae EP)),(67,(ae wO)),(110,(ae EG)),(164,(ae EH)),(109,(ae wF)),(17,(ae wI)),(21,(ae wB)),(73,(ae Ex)),(29,(ae xb)),(80,(ae E6)),(81,(ae Eo)),(33,(ae En)),(84,(ae Et)),(126,(ae Eu)),(184,(ae xe)),(218,(ae E4)),(217,(ae E7)),(246,(ae xg)),(181,(ae E1)),(219,(ae E5)),(220,(ae xc)),(127,(ae EM)),(129,(ae wG)),(186,(ae EI)),(223,(ae EJ)),(222,(ae E8)),(247,(ae xj)),(187,(ae wH)),(85,(ae EL)),(130,(ae EN)),(189,(ae EO)),(188,(ae xh)),(190,(ae Ff)),(224,(ae tN)),(225,(ae xp)),(248,(ae Fl)),(252,(ae Fk)),(250,(ae Fh)),(249,(ae Fp)),(131,(ae Fg)),(191,(ae xq)),(226,(ae Fm)),(251,(ae Fq)),(227,(ae Fj)),(253,(ae Fi)),(269,(ae Fo)),(134,(ae EA)),(228,(ae xf)),(35,(ae Es)),(31,(ae Ep)),(32,(ae Er)),(83,(ae xd)),(125,(ae xm)),(82,(ae Ak)),(120,(ae Fc)),(121,(ae Fe)),(122,(ae Fb)),(123,(ae Am)),(180,(ae Al)),(214,(ae Ag)),(215,(ae EF)),(241,(ae EB)),(243,(ae ED)),(268,(ae Ai)),(242,(ae Ah)),(124,(ae xn)),(182,(ae xo)),(183,(ae wE)),(216,(ae EC)),(245,(ae EE)),(74,(ae Ey)),(113,(ae Fs)),(176,(ae xr)),(115,(ae Ez)),(114,(ae wC)),(116,(ae wD)),(177,(ae wM)),(5,(ae wJ)),(22,(ae wU))]
def tab:Nat→Option PC:=bu yL
theorem Zi:yL.map (·.1)=Ow:=by kernel_rfl
theorem anm:(yL.map (·.1)).Nodup:=by rw[Zi];exact nz (by kernel_rfl)
theorem lA (k:Nat){f:Nat}{x:PC}(h:yL[k]?=some (f,x)):tab f=some x:=WZ anm h
theorem acs:tab 12=some (ae wL):=lA 1 (by kernel_rfl)
theorem acr:tab 45=some (ae wK):=lA 2 (by kernel_rfl)
theorem acq:tab 46=some (ae tJ):=lA 3 (by kernel_rfl)
theorem Tu:tab 20=some (ae p5):=lA 4 (by kernel_rfl)
theorem Tx:tab 71=some (ae p8):=lA 5 (by kernel_rfl)
theorem Tw:tab 72=some (ae p7):=lA 6 (by kernel_rfl)
theorem Tv:tab 70=some (ae p6):=lA 7 (by kernel_rfl)
theorem acv:tab 47=some (ae tL):=lA 8 (by kernel_rfl)
theorem Tt:tab 18=some (ae tH):=lA 9 (by kernel_rfl)
theorem aco:tab 48=some (ae tG):=lA 10 (by kernel_rfl)
theorem acp:tab 49=some (ae tI):=lA 11 (by kernel_rfl)
theorem Tz:tab 159=some (ae tM):=lA 17 (by kernel_rfl)
theorem acw:tab 15=some (ae Aj):=lA 35 (by kernel_rfl)
theorem acu:tab 16=some (ae tK):=lA 36 (by kernel_rfl)
theorem acy:tab 63=some (ae An):=lA 37 (by kernel_rfl)
theorem TA:tab 224=some (ae tN):=lA 82 (by kernel_rfl)
theorem acx:tab 82=some (ae Ak):=lA 102 (by kernel_rfl)
theorem zS:tab 123=some (ae Am):=lA 106 (by kernel_rfl)
theorem Ef:tab 180=some (ae Al):=lA 107 (by kernel_rfl)
theorem Tr:tab 214=some (ae Ag):=lA 108 (by kernel_rfl)
theorem Ts:tab 268=some (ae Ai):=lA 112 (by kernel_rfl)
theorem Ee:tab 242=some (ae Ah):=lA 113 (by kernel_rfl)
theorem caps:∀f cs,bu Kr f=some cs→(lE cs.args cs.res=none→bu sT f=some ⟨cs.args++cs.caps,cs.res,.dat⟩)∧∀ys,lE cs.args cs.res=some ys→eE Ow f=false∧DF Tryz.prog f=true:=TN (l:=Kr) (sig:=sT) (P:=Tryz.prog) (pcs:=Ow) (by kernel_rfl)
theorem clos:du ctx:=⟨(fun f cs h=>(caps f cs h).1),fun f s h=>aa8 (l:=sT) (P:=Tryz.prog) (by kernel_rfl) f s h⟩
theorem its:∀f cs ys,ctx.cap f=some cs→lE cs.args cs.res=some ys→tab f=none∧∃fn,ctx.P.funcs[f]?=some fn∧fn.body.isSome=true∧(fn.name== "runtime.NumGoroutine")=false:=fun f cs ys h hi=>⟨WQ (l:=yL) (by rw[Zi];exact((caps f cs h).2 ys hi).1),apk ((caps f cs h).2 ys hi).2⟩
theorem apa:∀f pc,tab f=some pc→∃fn s ids fr nh,ctx.P.funcs[f]?=some fn∧ctx.sig f=some s∧kl {ctx with fr:=fr,nh:=nh} fn s ids=some pc:=
 Cg (R:=fun f pc=>∃fn s ids fr nh,ctx.P.funcs[f]?=some fn∧ctx.sig f=some s∧kl {ctx with fr:=fr,nh:=nh} fn s ids=some pc) (l:=yL)
  (aA (aB [6,8,14,77838,70] [12,13,15,16,17,18,19,20] [] Tryz.func4 rfl (av EK amE))
  (aA (aB [] [0,1,2,3,4,5,6,7,8,9,10] [] Tryz.func12 rfl (av wL X9))
  (aA (aB [] [0] [] Tryz.func45 rfl (av wK X8))
  (aA (aB [11] [6,7,8,9,10,12,13,14,15] [] Tryz.func46 rfl (av tJ X7))
  (aA (aB [4,8196] [2,5,6] [] Tryz.func20 rfl (av p5 Cn))
  (aA (aB [3,5,8197,16] [2] [] Tryz.func71 rfl (av p8 Hn))
  (aA (aB [] [2,3,5] [] Tryz.func72 rfl (av p7 Hm))
  (aA (aB [9,8201] [6,7,8] [] Tryz.func70 rfl (av p6 Hl))
  (aA (aB [] [4,5] [] Tryz.func47 rfl (av tL Yj))
  (aA (aB [] [4] [] Tryz.func18 rfl (av tH NH))
  (aA (aB [5] [4,6,7] [] Tryz.func48 rfl (av tG X5))
  (aA (aB [5] [4,6,7] [] Tryz.func49 rfl (av tI X6))
  (aA (aB [2,3] [4,5] [] Tryz.func13 rfl (av wS NO))
  (aA (aB [1] [2,3,4] [] Tryz.func19 rfl (av wQ Hp))
  (aA (aB [1] [2] [] Tryz.func50 rfl (av EV Yl))
  (aA (aB [1] [2,3] [] Tryz.func51 rfl (av wR NN))
  (aA (aB [1] [2] [] Tryz.func101 rfl (av EW Ym))
  (aA (aB [3] [6,1,7] [] Tryz.func159 rfl (av tM NM))
  (aA (aB [1,9] [2,3,4,5,6,7,10,11,12] [] Tryz.func14 rfl (av wT NP))
  (aA (aB [1,2,3,4,6,16390,20486,24582,21,8,34,10,12298,16394,47] [] [] Tryz.func52 rfl (av wZ Co))
  (aA (aB [] [6,7,8] [] Tryz.func53 rfl (av wX NT))
  (aA (aB [] [4] [] Tryz.func102 rfl (av E3 Yt))
  (aA (aB [] [2,3,4,5] [] Tryz.func160 rfl (av wY NU))
  (aA (aB [] [4] [] Tryz.func161 rfl (av Fa YA))
  (aA (aB [] [4,5] [] Tryz.func208 rfl (av xl N1))
  (aA (aB [] [2] [] Tryz.func54 rfl (av EX Yn))
  (aA (aB [] [3] [] Tryz.func55 rfl (av EY Yo))
  (aA (aB [2,3] [4,6] [] Tryz.func56 rfl (av wW NS))
  (aA (aB [] [4] [] Tryz.func57 rfl (av E2 Ys))
  (aA (aB [] [6,7,8] [] Tryz.func103 rfl (av w8 NV))
  (aA (aB [] [3] [] Tryz.func58 rfl (av EZ Yp))
  (aA (aB [] [3] [] Tryz.func59 rfl (av E0 Yq))
  (aA (aB [1,3,4,6,19,8,16392,36] [2] [] Tryz.func60 rfl (av w6 Hq))
  (aA (aB [1,4,6] [2,3] [] Tryz.func61 rfl (av w9 Hs))
  (aA (aB [1,4,6] [2] [] Tryz.func62 rfl (av w7 Hr))
  (aA (aB [1] [2] [] Tryz.func15 rfl (av Aj Yk))
  (aA (aB [2,3,10] [4,5,6,7,8,11] [] Tryz.func16 rfl (av tK Ho))
  (aA (aB [2,3] [4,5,6,7,8,54,80,109,118,9,10] [] Tryz.func63 rfl (av An YU))
  (aA (aB [] [4] [] Tryz.func104 rfl (av Ft YV))
  (aA (aB [1,3] [2,8,19,40] [] Tryz.func105 rfl (av Fu YW))
  (aA (aB [3,9] [6,7] [] Tryz.func106 rfl (av wV NR))
  (aA (aB [3,4,7,11] [6,8,9,76,92,98] [] Tryz.func64 rfl (av wP NL))
  (aA (aB [] [6] [] Tryz.func65 rfl (av ET Yh))
  (aA (aB [3,4,7,8] [6,9,10,66,103,113,11,140,149] [] Tryz.func107 rfl (av ES Yg))
  (aA (aB [3] [6,7] [] Tryz.func162 rfl (av ER Yf))
  (aA (aB [3] [6] [] Tryz.func163 rfl (av EU Yi))
  (aA (aB [] [4] [] Tryz.func185 rfl (av E9 Yz))
  (aA (aB [] [4,5] [] Tryz.func221 rfl (av xk N0))
  (aA (aB [2,3,6] [4,5,7] [] Tryz.func66 rfl (av wN NJ))
  (aA (aB [3,4,5] [6,7,8,9,65,80,100,111] [] Tryz.func108 rfl (av EP Ye))
  (aA (aB [1,4,5,52] [2,3] [] Tryz.func67 rfl (av wO NK))
  (aA (aB [] [4,5,6] [] Tryz.func110 rfl (av EG X1))
  (aA (aB [] [2] [] Tryz.func164 rfl (av EH X2))
  (aA (aB [] [2,3,5] [] Tryz.func109 rfl (av wF ND))
  (aA (aB [4,9,11,65547,69643,73739,77835,12,8204,14,69,82] [8] [] Tryz.func17 rfl (av wI Hk))
  (aA (aB [4,6,9,10,28] [8,11] [] Tryz.func21 rfl (av wB Ny))
  (aA (aB [4,6,8,9] [] [] Tryz.func73 rfl (av Ex XP))
  (aA (aB [2,4,5,65541,69637,73733,77829,7,31,9,49,11,13] [] [] Tryz.func29 rfl (av xb yH))
  (aA (aB [] [4] [] Tryz.func80 rfl (av E6 Yw))
  (aA (aB [5,8,77832,10] [] [] Tryz.func81 rfl (av Eo XH))
  (aA (aB [4,7,8,9] [10] [] Tryz.func33 rfl (av En XG))
  (aA (aB [4,7,8,10,16394] [9,11,12,13,14] [] Tryz.func84 rfl (av Et XL))
  (aA (aB [2,3,4] [5] [] Tryz.func126 rfl (av Eu XM))
  (aA (aB [2,3,5,6,8,10,90,139] [4,7,9,11,12,13,14,15,16] [] Tryz.func184 rfl (av xe Hu))
  (aA (aB [2] [3] [] Tryz.func218 rfl (av E4 Yu))
  (aA (aB [] [4] [] Tryz.func217 rfl (av E7 Yx))
  (aA (aB [] [4,5] [] Tryz.func246 rfl (av xg NX))
  (aA (aB [2] [4] [] Tryz.func181 rfl (av E1 Yr))
  (aA (aB [2] [] [] Tryz.func219 rfl (av E5 Yv))
  (aA (aB [3,6,8] [] [] Tryz.func220 rfl (av xc NW))
  (aA (aB [] [2,3,4,11] [] Tryz.func127 rfl (av EM Yb))
  (aA (aB [4,10,53] [8,9,11,12,13,14,55,70] [] Tryz.func129 rfl (av wG NF))
  (aA (aB [4,9] [8] [] Tryz.func186 rfl (av EI X3))
  (aA (aB [] [3] [] Tryz.func223 rfl (av EJ X4))
  (aA (aB [] [4] [] Tryz.func222 rfl (av E8 Yy))
  (aA (aB [] [4,5] [] Tryz.func247 rfl (av xj NZ))
  (aA (aB [4,11] [8,9] [] Tryz.func187 rfl (av wH NG))
  (aA (aB [3,6,8,10] [7,9,11,12] [] Tryz.func85 rfl (av EL Ya))
  (aA (aB [2,3,4,12292,9] [5,6,7,8,10,11] [] Tryz.func130 rfl (av EN Yc))
  (aA (aB [2] [3] [] Tryz.func189 rfl (av EO Yd))
  (aA (aB [] [4,5] [] Tryz.func188 rfl (av xh NY))
  (aA (aB [1] [2,3] [] Tryz.func190 rfl (av Ff YI))
  (aA (aB [2,7,12295] [4,5] [] Tryz.func224 rfl (av tN N5))
  (aA (aB [1,4,6,12294,9] [2,3,5,7,8,38,47,10,11,12] [] Tryz.func225 rfl (av xp Hx))
  (aA (aB [1] [2,3,12,20,4,5] [] Tryz.func248 rfl (av Fl YO))
  (aA (aB [] [2] [] Tryz.func252 rfl (av Fk YN))
  (aA (aB [] [2,3,4,11] [] Tryz.func250 rfl (av Fh YK))
  (aA (aB [2] [4,8,13,17,21] [] Tryz.func249 rfl (av Fp YR))
  (aA (aB [2,4,7] [5,6,8] [] Tryz.func131 rfl (av Fg YJ))
  (aA (aB [2,3,4,6,33,7,8,10,12298,12] [5,15,21,9,11] [] Tryz.func191 rfl (av xq N4))
  (aA (aB [2,4] [5,6] [] Tryz.func226 rfl (av Fm YP))
  (aA (aB [2] [] [] Tryz.func251 rfl (av Fq YS))
  (aA (aB [4,5] [9,22,41,6,7,82,88,94] [] Tryz.func227 rfl (av Fj YM))
  (aA (aB [] [6,8,14,20,25] [] Tryz.func253 rfl (av Fi YL))
  (aA (aB [] [4,5,6,7] [] Tryz.func269 rfl (av Fo YQ))
  (aA (aB [] [4,5,6,7,8,9,10,11,12,13] [] Tryz.func134 rfl (av EA XS))
  (aA (aB [6] [2,3,5,8] [] Tryz.func228 rfl (av xf Hv))
  (aA (aB [1] [2,3,7,12] [] Tryz.func35 rfl (av Es XK))
  (aA (aB [4,6] [8,9,10,11] [] Tryz.func31 rfl (av Ep XI))
  (aA (aB [1] [2] [] Tryz.func32 rfl (av Er XJ))
  (aA (aB [1,3,6,8] [2,4] [] Tryz.func83 rfl (av xd Ht))
  (aA (aB [] [2,3,4] [] Tryz.func125 rfl (av xm N2))
  (aA (aB [4,5,10] [8,9,15,39,58,74,11,12] [] Tryz.func82 rfl (av Ak YB))
  (aA (aB [2] [4] [] Tryz.func120 rfl (av Fc YG))
  (aA (aB [] [2] [] Tryz.func121 rfl (av Fe YH))
  (aA (aB [1] [2] [] Tryz.func122 rfl (av Fb YC))
  (aA (aB [3,4] [6,7,13,16,24,33,8,9] [] Tryz.func123 rfl (av Am YE))
  (aA (aB [3] [4,5] [] Tryz.func180 rfl (av Al YD))
  (aA (aB [] [4,5,6,7,8,9] [] Tryz.func214 rfl (av Ag XT))
  (aA (aB [] [2] [] Tryz.func215 rfl (av EF X0))
  (aA (aB [] [2,3,4,5,6,7,8,9] [] Tryz.func241 rfl (av EB XV))
  (aA (aB [] [4] [] Tryz.func243 rfl (av ED XX))
  (aA (aB [] [6,0,1] [] Tryz.func268 rfl (av Ai XY))
  (aA (aB [] [6,7,8] [] Tryz.func242 rfl (av Ah XU))
  (aA (aB [3] [6,7,8,2,9,10] [] Tryz.func124 rfl (av xn N3))
  (aA (aB [3,9] [6,7,2] [] Tryz.func182 rfl (av xo Hw))
  (aA (aB [2,4,5] [6] [] Tryz.func183 rfl (av wE NB))
  (aA (aB [3,4,5] [6] [] Tryz.func216 rfl (av EC XW))
  (aA (aB [2] [4,5,6,7] [] Tryz.func245 rfl (av EE XZ))
  (aA (aB [2,4,5,6,43] [] [] Tryz.func74 rfl (av Ey XQ))
  (aA (aB [3] [6] [] Tryz.func113 rfl (av Fs YT))
  (aA (aB [2,5,7] [4] [] Tryz.func176 rfl (av xr N6))
  (aA (aB [3,7] [6] [] Tryz.func115 rfl (av Ez XR))
  (aA (aB [] [2,3,5,12,15] [] Tryz.func114 rfl (av wC Nz))
  (aA (aB [2,9] [4,5,6,7,10,50,54] [] Tryz.func116 rfl (av wD NA))
  (aA (aB [2,7] [4,5] [] Tryz.func177 rfl (av wM NI))
  (aA (aB [4,13,94] [8,9,10,11,12,14,15,16,17,18,19,20,21,22,23] [] Tryz.func5 rfl (av wJ qL))
  (aA (aB [2,5,7] [4,6] [] Tryz.func22 rfl (av wU NQ))
  trivial))))))))))))))))))))))))))))))))))))))))))))))))))))))))))))))))))))))))))))))))))))))))))))))))))))))))))))))))))))))))))))))))
end Rm
set_option linter.unusedSimpArgs false
namespace Rm
open Go Go.Proofs Cx Go.RowKit Go.Lib
theorem ajG:(Tryz.prog.info? 3).map (fun i=>(i.zero,i.size,i.bytes))=some (some (.int .i64 0),1,8):=by kernel_rfl
set_option maxHeartbeats 2000000 in
set_option maxRecDepth 100000 in
theorem agA (w:World):Calls Tryz.prog 254 #[.slice none 0 0,.int .i64 0] w fun e w'=>e=.returned (.slice none 0 0)∧w'=w:=by
 go_enter Tryz.func254,Tryz.ntmps254
 go_wp2
 go_ret
 exact⟨rfl,rfl⟩
set_option maxHeartbeats 2000000 in
set_option maxRecDepth 100000 in
theorem agz (n:Nat)(w:World)(h0:0<n)(h1:n≤4294967296):Calls Tryz.prog 254 #[.slice none 0 0,.int .i64 n] w fun e w'=>
 ∃v',e=.returned v'∧w'.ownsRow w.heap.size 3 1 v' 0 []∧Below w.heap.size w w':=by
 obtain⟨i0,hi,yp,uM,hz2⟩:=info_parts ajG;have hr:=run_append_nil_zeros w 53 3 53 3 i0 (.int .i64 0) .i64 .i64 Tryz.underlying53 Tryz.underlying3 hi yp n h0 (by rw[uM];decide) (by omega) (by rw[hz2];omega);have hn:¬((n:Int)<0):=by omega
 have nk:(n:Int)>0:=by omega
 have hw:IntKind.i64.wrap (n:Int)=n:=by rw[IntKind.wrap_i64];omega
 have oO:IntKind.i64.wrap 0=0:=by decide
 have gf:=grownCap_ge w n 0 3;have hle:=grownCap_le_maxLen w n 0 3 (by unfold maxLen;omega);have hs:(Builtin.zeroCells #[Value.int IntKind.i64 0] n++Builtin.zeroCells #[Value.int IntKind.i64 0] (grownCap w n 0 3-n)).size=grownCap w n 0 3*1:=by
  rw[Array.size_append,size_zeroCells,size_zeroCells];simp;omega
 go_enter Tryz.func254,Tryz.ntmps254
 go_wp2_with (at_builtin;refine wpList_append_run _ rfl _ _ 53 3 rfl _ _ rfl rfl _ _ hr ?qc)
 go_ret
 refine⟨_,rfl,?_,?_⟩
 ·exact World.ownsRow.drew (World.ownsRow_made w _ _ (aU _) hle hs)
 ·exact((Below.refl _ w).alloc (aU _) _).drew
def FU (ds:List D):Option D:=
 match ds with
 |[.list [],.v (.int .i64 n)]=>if 0≤n∧n≤4294967296 then some (.list []) else none
 |_=>none
theorem agy (ds:List D)(d:D)(h:FU ds=some d):∃s,ctx.sig 254=some s∧Js ctx 254 s ds d:=by
 refine⟨_,rfl,fun _=>?_,fun shs obs hm=>by cases hm⟩;unfold FU at h;split at h
 case h_2=>cases h
 rename_i n;split at h
 case isFalse=>cases h
 rename_i hn;cases h;obtain⟨k,rfl⟩:=mL hn.1;intro σ w args ar hC ha;obtain⟨a1,a2,a3⟩:=ha;have h0:=a3 0 _ rfl;have h1:=a3 1 _ rfl;obtain⟨u,v,rfl⟩:∃u v,args=#[u,v]:=by
  have:args.size=2:=by simpa using a1
  match args,this with
  |⟨[u,v]⟩,_=>exact⟨u,v,rfl⟩
 simp only[rh,DW] at h0 h1;change Rep ctx.cap σ (.nils .bool) u (.list []) at h0;change Rep ctx.cap σ (.int .i64) v (.v (.int .i64 k)) at h1;have hu:u=.slice none 0 0:=by cases h0;rfl
 have hv:v=.int .i64 k:=by cases h1;rfl
 subst hu hv;by_cases hk:k=0
 ·subst hk;refine(agA w).mono fun e w' hh=>?_;obtain⟨rfl,rfl⟩:=hh;refine⟨_,σ,rfl,.refl σ,ar,.refl _ _,fun _ _ _ h=>.inl h,fun _ _ h=>.inl h,?_⟩;exact⟨[],[],rfl,⟨by simp,.inl ⟨rfl,rfl⟩⟩,⟨fun _=>undef,fun i x hx=>by simp at hx,fun i j u hi=>by simp at hi⟩,fun k hk=>by cases hk⟩
 ·refine(agz k w (by omega) (by omega)).mono fun e w' hh=>?_;obtain⟨v',rfl,bt,hb⟩:=hh;refine⟨v',σ,rfl,.refl σ,ar.below hb,hb,fun _ _ _ h=>.inl h,fun _ _ h=>.inl h,?_⟩;refine⟨[],[],rfl,bt,⟨fun _=>undef,fun i x hx=>by simp at hx,fun i j u hi=>by simp at hi⟩,fun k hk=>?_⟩;have bL:=(bt.lt k hk).1;refine⟨fun o=>?_,?_⟩
  ·cases hc:σ.c k o with
   |none=>rfl
   |some u=>have:=World.block_lt_of_cell? w (a:=⟨k,o,none⟩) (ar.c _ _ _ hc);simp at this;omega
  ·cases hc:σ.m k with
   |none=>rfl
   |some u=>rcases ar.m _ _ hc with⟨arr,clock,x,g1,_⟩|⟨_,g1⟩<;>(have:=(ei.1 g1).1;omega)
def eu (day:Int):Int×Int×Int:=
 let n:=day+730425
 let e:=n/146097
 let r:=n%146097
 let y:=(r-r/1460+r/36524-r/146096)/365
 let r:=r-(365*y+y/4-y/100)
 let m:=(5*r+2)/153
 let dom:=r-(153*m+2)/5+1
 let month:=if 12<m+3 then m+3-12 else m+3
 (if month<3 then y+400*e+1 else y+400*e,month,dom)
def vd (rest feasts shut:List Int)(day:Int):Bool:=
 !rest.contains ((day+5)%7)&&(!feasts.contains (100*(eu day).2.1+(eu day).2.2)&& !shut.contains day)
def T6 (rest feasts shut:List Int)(a b:Int):List Int:=((List.range (b-a+1).toNat).map fun(k:Nat)=>a+k).filter (vd rest feasts shut)
def uP (d:D):List Int:=d.l.map D.i
def T7 (ds:List D):List D:=
 let c:=(ds.getD 2 .none).deref
 (T6 (uP (c.c 3)) (uP (c.c 4)) (uP (c.c 5)) (ds.getD 0 .none).deref.i (ds.getD 1 .none).deref.i).map fun d=>.tup [.int d]
def wz (r:D)(city:Int):Int:=if 0≤city∧city<(r.c 1).l.length then(((r.c 1).l.getD city.toNat .none).c 1).i else-1
def Oz (ds:List D):D:=
 let r:=ds.getD 0 .none
 let forum:=(ds.getD 1 .none).i
 let c:=ds.getD 2 .none
 let s:=(c.c 15).l.getD (c.c 19).i.toNat .none
 let who:=(s.c 2).i
 if who<0∨(r.c 3).l.length≤who∨forum<0∨(r.c 4).l.length≤forum then .list [] else
 let out:=[forum,wz r (s.c 7).i,wz r (c.c 10).i,wz r (c.c 9).i,wz r (((r.c 3).l.getD who.toNat .none).c 1).i]
 if(-1)∈out then .list [] else ints out
def KV:List (Nat×(aJ→List D→Option D)):=[(254,fun _ ds=>FU ds),(128,qK (ae Ev) (ae Ew) Oz),(244,sk (ae pZ) 1000 1 T7),(68,fun _ ds=>DC ds),(69,fun _ ds=>Fz ds),(100,fun _ ds=>Fv ds)]
def ext:Nat→Option (aJ→List D→Option D):=bu KV
theorem ao9:TabOK ctx tab ext:=by
 refine⟨clos,its,fun f pc _ h=>apa f pc h,fun f g hg Φ hΦ dO ds d h=>?_⟩
 have:=Cg (R:=fun f (g:aJ→List D→Option D)=>∀Φ,cW ctx Φ→fm ctx Φ→∀ds d,g Φ ds=some d→(∀s,ctx.sig f=some s→Js ctx f s ds d)∧
  ∀cs ys,ctx.cap f=some cs→lE cs.args cs.res=some ys→∃xs,d=.list xs∧(∀x,x∈xs→∃ds',x=.tup ds'∧ds'.length=ys.length)∧kg ctx f cs.caps ys ds xs) (l:=KV)
  ⟨fun Φ hΦ dO ds d h=>⟨fun s hs=>by obtain⟨s',h1,h2⟩:=agy ds d h;rw[hs] at h1;cases h1;exact h2,fun cs ys hc hi=>by cases hc⟩,
   fun Φ hΦ dO ds d h=>⟨fun s hs=>by cases hs;exact⟨fun _=>amy clos hΦ dO Tryz.func128 (av Ev XN) (av Ew XO) h,fun shs obs hm=>by cases hm⟩,fun cs ys hc hi=>by cases hc⟩,
   fun Φ hΦ dO ds d h=>⟨fun s hs=>(by cases hs),fun cs ys hc hi=>by
    cases hc;cases hi;exact ajN clos hΦ dO Tryz.func244 adg h rfl⟩,
   fun Φ hΦ dO ds d h=>⟨fun s hs=>by cases hs;exact⟨fun hm=>(by cases hm),fun shs obs hm=>by cases hm;exact aoY ds d h⟩,fun cs ys hc hi=>by cases hc⟩,
   fun Φ hΦ dO ds d h=>⟨fun s hs=>by cases hs;exact⟨fun hm=>(by cases hm),fun shs obs hm=>by cases hm;exact adF ds d h⟩,fun cs ys hc hi=>by cases hc⟩,
   fun Φ hΦ dO ds d h=>⟨fun s hs=>by obtain⟨s',h1,h2⟩:=adu ds d h;rw[hs] at h1;cases h1;cases hs;exact⟨fun _=>h2,fun shs obs hm=>by cases hm⟩,fun cs ys hc hi=>by cases hc⟩,trivial⟩ f g hg
 exact this Φ hΦ dO ds d h
abbrev T:cA:=cH tab ext
theorem amx {pa pb:PC}{spec:List D→D}{Φ Ψ:aJ}(h:Le Φ Ψ){ds:List D}{d:D}(e:qK pa pb spec Φ ds=some d):qK pa pb spec Ψ ds=some d:=by
 unfold qK at e ⊢;split at e
 ·rename_i hs;rw[if_pos]
  ·exact e
  ·rcases hs with⟨N,xs,h1,h2⟩|⟨N,h1,h2⟩
   ·exact .inl ⟨N,xs,PC.ev_mono h (aU _) h1,h2⟩
   ·exact .inr ⟨N,PC.ev_mono h (aU _) h1,h2⟩
 ·cases e
theorem afc:∀f g,ext f=some g→∀Φ Ψ,Le Φ Ψ→∀ds d,g Φ ds=some d→g Ψ ds=some d:=fun f g hg=>
 Cg (R:=fun _ (g:aJ→List D→Option D)=>∀Φ Ψ,Le Φ Ψ→∀ds d,g Φ ds=some d→g Ψ ds=some d) (l:=KV) ⟨fun _ _ _ _ _ e=>e,fun _ _ h _ _ e=>amx h e,fun _ _ h _ _ e=>ajM h e,fun _ _ _ _ _ e=>e,fun _ _ _ _ _ e=>e,fun _ _ _ _ _ e=>e,trivial⟩ f g hg
theorem ak.of_nsl {tab:Nat→Option PC}{ext:Nat→Option (aJ→List D→Option D)}{f:Nat}{pa pb:PC}{spec:List D→D}{ds:List D}{ta tb:PT}(hx:ext f=some (qK pa pb spec))(hta:tree pa=ta)(htb:tree pb=tb)
 (h:(∃xs,xs≠[]∧spec ds=.list xs∧aE (cH tab ext) ta (jt ds) (fun x=>x=.ret (.list xs)))∨(spec ds=.list []∧aE (cH tab ext) tb (jt ds) (fun x=>x=.ret (.list [])))):ak (cH tab ext) f ds (spec ds):=by
 refine ak.of_ext hx ?_;rcases h with⟨xs,h1,h2,h3⟩|⟨h2,h3⟩
 ·obtain⟨x,rfl,n0,hn⟩:=Jg (c:=pa) (hta▸h3);refine⟨n0,fun n hle=>?_⟩;unfold qK;rw[if_pos (.inl ⟨n,xs,hn n hle,h1,h2⟩)]
 ·obtain⟨x,rfl,n0,hn⟩:=Jg (c:=pb) (htb▸h3);refine⟨n0,fun n hle=>?_⟩;unfold qK;rw[if_pos (.inr ⟨n,hn n hle,h2⟩)]
end Rm
namespace Rm
open Go Go.Proofs Cx
def fN (n:Nat)(p:Nat→Bool):Bool:=(List.range n).all p
theorem Tj {n:Nat}{p:Nat→Bool}(h:∀k,k<n→p k=true):fN n p=true:=db.2 fun k hk=>h k (fp.1 hk)
theorem ab8 {n k:Nat}{p:Nat→Bool}(hk:k<n)(h:p k=false):fN n p=false:=List.all_eq_false.2 ⟨k,fp.2 hk,by simp[h]⟩
theorem zN {n:Nat}{p:Nat→Bool}:fN n p=true↔∀k,k<n→p k=true:=⟨fun h k hk=>db.1 h k (fp.2 hk),Tj⟩
def eL (n:Nat)(f:Nat→Int):Int:=(((List.range n).map f).find? fun x=>x !=0).getD 0
theorem K1 {n:Nat}{f:Nat→Int}(h:∀k,k<n→f k=0):eL n f=0:=by
 unfold eL;rw[we.2]
 ·rfl
 ·intro x hx;obtain⟨k,hk,rfl⟩:=cX.1 hx;simp[h k (fp.1 hk)]
theorem K0 {n k:Nat}{f:Nat→Int}(hk:k<n)(hj:∀j,j<k→f j=0)(h:f k≠0):eL n f=f k:=by
 unfold eL;have e:List.range n=List.range k++k::(List.range' (k+1) (n-k-1)):=by
  rw[Jx,Jx,←Jw];have:=List.range'_append_1 (s:=0) (m:=k) (n:=n-k-1+1);rw[jo] at this;rw[this];congr 1;omega
 rw[e,ki,List.find?_append,we.2,Option.none_or,fo,List.find?_cons_of_pos (by simpa using h)]
 ·rfl
 ·intro x hx;obtain⟨j,rP,rfl⟩:=cX.1 hx;simp[hj j (fp.1 rP)]
theorem FL {n:Nat}{f:Nat→Int}:eL n f=0↔∀k,k<n→f k=0:=by
 refine⟨fun h k=>?_,K1⟩
 induction k using Nat.strongRecOn with
 |ind k ih=>
  intro hk;refine SI fun az=>?_;rw[K0 hk (fun j hj=>ih j hj (by omega)) az] at h;exact az h
section
variable {T:cA} {id:Nat} {bo bn lr lo:List Nat} {a:PC} {ρ:Env} {Q:Out→Prop}
theorem kK (N:Nat)(p:Nat→Bool)(str eF:Nat→List D)(h0:lr.map ρ.r=str 0∧lo.map ρ.o=eF 0)
 (step:∀k,k<N→p k=true→aE T (round id bo bn lr lo a) (ρ.put lr (str k) lo (eF k)) (eg ρ id bo bn lr lo (fun vr vo=>vr=str (k+1)∧vo=eF (k+1)) Q))
 (bad:∀k,k<N→p k=false→fN N p=false→aE T (round id bo bn lr lo a) (ρ.put lr (str k) lo (eF k)) (eg ρ id bo bn lr lo (fun _ _=>False) Q))
 (last:fN N p=true→aE T (round id bo bn lr lo a) (ρ.put lr (str N) lo (eF N)) (eg ρ id bo bn lr lo (fun _ _=>False) Q)):aH T (.block id bo bn (.loop lr lo a)) ρ Q:=
 .scan N (fun k=>p k=true) str eF h0 (fun k hk _ h=>step k hk h) (fun k hk _ h=>bad k hk (by simpa using h) (ab8 hk (by simpa using h))) (fun h=>last (Tj h))
theorem vG (N:Nat)(f:Nat→Int)(str eF:Nat→List D)(h0:lr.map ρ.r=str 0∧lo.map ρ.o=eF 0)
 (step:∀k,k<N→f k=0→aE T (round id bo bn lr lo a) (ρ.put lr (str k) lo (eF k)) (eg ρ id bo bn lr lo (fun vr vo=>vr=str (k+1)∧vo=eF (k+1)) Q))
 (bad:∀k,k<N→f k≠0→eL N f=f k→aE T (round id bo bn lr lo a) (ρ.put lr (str k) lo (eF k)) (eg ρ id bo bn lr lo (fun _ _=>False) Q))
 (last:eL N f=0→aE T (round id bo bn lr lo a) (ρ.put lr (str N) lo (eF N)) (eg ρ id bo bn lr lo (fun _ _=>False) Q)):aH T (.block id bo bn (.loop lr lo a)) ρ Q:=
 .scan N (fun k=>f k=0) str eF h0 (fun k hk _ h=>step k hk h) (fun k hk hj h=>bad k hk h (K0 hk hj h)) (fun h=>last (K1 h))
end
theorem bA {k n:Nat}(h:k<n)(hn:n≤4294967296):IntKind.i64.wrap ((k:Int)+1)=(k:Int)+1:=bE (by omega)
theorem abm {k:Nat}(hn:k≤4294967296):IntKind.i64.wrap ((k:Int)-1)=(k:Int)-1:=bE (by omega)
def aD (i n:Int):Bool:=decide (0≤i)&&decide (i<n)
def wi (n a b:Int):Bool:=decide (a≤n)&&decide (n≤b)
theorem eV (i n:Int):ak T 57 [.int i,.int n] (.bool (aD i n)):=by
 refine .of_tree rfl (lA 28 (by kernel_rfl)) aqC ?_;simp[Rn,aD];by_cases h:0≤i<;>simp[h]
theorem nL (i n:Int):ak T 80 [.int i,.int n] (.bool (aD i n)):=by
 refine .of_tree rfl (lA 58 (by kernel_rfl)) aqQ ?_;simp[RB,aD];by_cases h:0≤i<;>simp[h]
theorem idx_eq {α:Type}[DecidableEq α]{l:List α}{x z:α}{k:Nat}(hk:k<l.length)(hj:∀j,j<k→l.getD j z≠x)(h:¬l.getD k z≠x):x∈l∧l.findIdx (fun y=>decide (y=x))=k:=by
 have e:l[k]=x:=by simpa [hk] using h
 refine⟨e▸cr hk,(List.findIdx_eq hk).2 ⟨by simp[e],fun j iu=>?_⟩⟩;have fC:j<l.length:=by omega
 simpa [fC] using hj j iu
theorem Wk {α:Type}[DecidableEq α]{l:List α}{x z:α}(hj:∀j,j<l.length→l.getD j z≠x):¬x∈l:=fun hm=>by
 obtain⟨j,fC,rfl⟩:=eZ hm;have:=hj j fC;simp[fC] at this
def sc {α:Type}[DecidableEq α](l:List α)(x:α):Int:=if x∈l then(l.findIdx (fun y=>decide (y=x)):Nat) else-1
def hasB {α:Type}[DecidableEq α](l:List α)(x:α):Bool:=l.any fun y=>decide (y=x)
theorem Vf {α:Type}[DecidableEq α]{l:List α}{x:α}:hasB l x=true↔x∈l:=by simp[hasB]
theorem ag6 {α:Type}[DecidableEq α]{l:List α}{x:α}:hasB l x=false↔¬x∈l:=by rw[←Vf];simp
theorem Wj {α:Type}[DecidableEq α](l:List α)(x:α):decide (0≤sc l x)=hasB l x:=by
 unfold sc;by_cases h:x∈l
 ·rw[Vf.2 h];simp[h]
 ·rw[ag6.2 h];simp[h]
@[simp] theorem avg (a b:ByteArray):tP .eql a b=decide (a=b):=by
  simp only[tP,ByteArray.toList_eq];by_cases h:a=b
  ·subst h;simp
  ·rw[decide_eq_false h,beq_eq_false_iff_ne];intro e;have:a.data=b.data:=by rw[←re];exact e
   exact h (by cases a;cases b;cases this;rfl)
@[simp] theorem ayI (a:ByteArray):(str a).s=a:=_root_.id rfl
theorem abB (l:List Int)(x:Int)(hl:l.length≤4294967296):ak T 221 [ints l,.int x] (.int (sc l x)):=by
 refine .of_tree rfl (lA 47 (by kernel_rfl)) aqZ ?_;simp[RK];refine .scan l.length (fun k=>l.getD k 0≠x) (fun k=>[.int 0,.int k]) (fun _=>[]) ?_ (fun k hk hj ho=>?_) (fun k hk hj ho=>?_) (fun hj=>?_)
 ·simp
 ·have hw:=bA hk hl;simp[hk] at ho;have gK:¬x=l[k]:=fun e=>ho e.symm;simp[PJ,Df,hk,hw,ints,ho,gK]
 ·obtain⟨hm,he⟩:=idx_eq hk hj ho;simp[hk] at ho;simp[PJ,Df,hk,ints,ho,sc,hm,he]
 ·have:=Wk hj;simp[PJ,Df,sc,this,ints]
theorem tj (l:List Int)(x:Int)(hl:l.length≤4294967296):ak T 185 [ints l,.int x] (.bool (hasB l x)):=by
 refine .of_tree rfl (lA 46 (by kernel_rfl)) aqU ?_;simp[RF];refine⟨_,abB l x hl,?_⟩;have:=Wj l x;simp at this ⊢;exact this
theorem abC (l:List ByteArray)(x:ByteArray)(hl:l.length≤4294967296):ak T 208 [strs l,str x] (.int (sc l x)):=by
 refine .of_tree rfl (lA 24 (by kernel_rfl)) aq0 ?_;simp[RL];refine .scan l.length (fun k=>l.getD k default≠x) (fun k=>[.int 0,.int k]) (fun _=>[]) ?_ (fun k hk hj ho=>?_) (fun k hk hj ho=>?_) (fun hj=>?_)
 ·simp
 ·have hw:=bA hk hl;simp[hk] at ho;have gK:¬x=l[k]:=fun e=>ho e.symm;simp[PK,Dg,hk,hw,strs,ho,gK]
 ·obtain⟨hm,he⟩:=idx_eq hk hj ho;simp[hk] at ho;simp[PK,Dg,hk,strs,ho,sc,hm,he]
 ·have:=Wk hj;simp[PK,Dg,sc,this,strs]
theorem abu (l:List ByteArray)(x:ByteArray)(hl:l.length≤4294967296):ak T 161 [strs l,str x] (.bool (hasB l x)):=by
 refine .of_tree rfl (lA 23 (by kernel_rfl)) aqV ?_;simp[RG];refine⟨_,abC l x hl,?_⟩;have:=Wj l x;simp at this ⊢;exact this
def IK (l:List Int)(a b:Int)(k:Nat):Bool:=wi (l.getD k 0) a b&&(k==0||decide (l.getD (k-1) 0<l.getD k 0))
def rising (l:List Int)(a b:Int):Bool:=fN l.length (IK l a b)
theorem Dm (l:List Int)(a b:Int)(hl:l.length≤4294967296):ak T 103 [ints l,.int a,.int b] (.bool (rising l a b)):=by
 refine .of_tree rfl (lA 29 (by kernel_rfl)) aqI ?_;simp[Ru];refine kK l.length (IK l a b) (fun k=>[.bool false,.int k]) (fun _=>[]) ?_ (fun k hk ho=>?_) (fun k hk ho hb=>?_) (fun hj=>?_)
 ·simp
 ·have hw:=bA hk hl;simp[IK,wi,hk] at ho;obtain⟨⟨h1,h2⟩,h3⟩:=ho;have cN:¬l[k]<a:=by omega
  have jU:¬b<l[k]:=by omega
  by_cases l7:0<k
  ·have bP:k-1<l.length:=by omega
   have eN:IntKind.i64.wrap ((k:Int)-1)=((k-1:Nat):Int):=by rw[abm (by omega)];omega
   have jV:¬l[k]≤l[k-1]:=by
        rcases h3 with h3|h3
        ·omega
        ·simp[bP] at h3;omega
   simp[y6,sK,hk,hw,eN,ints,cN,jU,jV,l7,bP]
  ·simp[y6,sK,hk,hw,ints,cN,jU,l7]
 ·have hf:rising l a b=false:=hb;simp[IK,wi,hk] at ho;by_cases h1:l[k]<a
  ·simp[y6,sK,hk,ints,h1,hf]
  by_cases h2:b<l[k]
  ·simp[y6,sK,hk,ints,h1,h2,hf]
  have h3:=ho (by omega) (by omega);have l7:0<k:=by omega
  have bP:k-1<l.length:=by omega
  have eN:IntKind.i64.wrap ((k:Int)-1)=((k-1:Nat):Int):=by rw[abm (by omega)];omega
  have jV:=h3.2;simp[bP] at jV;simp[y6,sK,hk,eN,ints,h1,h2,jV,l7,bP,hf]
 ·have hf:rising l a b=true:=hj;simp[y6,sK,hf]
def M9 (c:Int):Bool:=wi c 97 122||wi c 65 90
def Hy (i:Nat)(c:Int):Bool:=M9 c||(i !=0&&(decide (c=95)||wi c 48 57))
def Ej (s:ByteArray)(k:Nat):Int:=((s.data.toList.getD k 0).toNat:Nat)
def oV (s:ByteArray):Bool:=decide (1≤s.size)&&decide (s.size≤20)&&fN s.size (fun k=>Hy k (Ej s k))
theorem TI {s:ByteArray}{k:Nat}(h:k<s.data.size):(s.data[k].toNat:Int)=Ej s k:=by
 unfold Ej;rw[aI,aZ (by simpa using h)];rfl
theorem aaW {s:ByteArray}:s=⟨#[]⟩↔s.size=0:=by
 constructor
 ·rintro rfl;rfl
 ·intro h;cases s with|mk d=>congr;exact Jp h
theorem aoa (s:ByteArray):ak T 160 [str s] (.bool (oV s)):=by
 refine .of_tree rfl (lA 22 (by kernel_rfl)) aqD ?_;simp[Ro];by_cases h0:s=⟨#[]⟩
 ·have hn:oV s=false:=by simp[oV,aaW.1 h0]
  rw[hn];simp[h0]
 by_cases h1:(20:Int)<s.size
 ·have cN:¬s.size≤20:=by omega
  simp[h0,h1,oV,cN]
 have hz:1≤s.size:=by
  have:s.size≠0:=fun e=>h0 (aaW.2 e);omega
 have cN:s.size≤20:=by omega
 simp[h0,h1];refine⟨by omega,kK s.size (fun k=>Hy k (Ej s k)) (fun k=>[.bool false,.int k]) (fun _=>[]) ?_ (fun k hk ho=>?_) (fun k hk ho hb=>?_) (fun hj=>?_)⟩
 ·simp
 ·have hw:=bA hk (by omega);have bL:k<s.data.size:=hk;have hg:=TI bL;simp[Hy,M9,wi] at ho;simp[Pq,CZ,hk,bL,hw,hg];omega
 ·have bL:k<s.data.size:=hk;have hg:=TI bL;have hn:oV s=false:=by simp[oV,hb]
  simp[Hy,M9,wi] at ho;simp[Pq,CZ,hk,bL,hg,hn];omega
 ·have hn:oV s=true:=by simp[oV,hj,hz,cN]
  have hd:s.data.size=s.size:=rfl;simp[Pq,CZ,hn,hd]
end Rm
namespace Rm
open Go Go.Proofs Cx
def sw (l:List ByteArray)(i:Nat):Int:=if oV (l.getD i default)=false then 2 else if hasB (l.take i) (l.getD i default) then 5 else 0
theorem aau (l:List ByteArray)(i:Nat)(hi:i<l.length)(hl:l.length≤4294967296):ak T 102 [strs l,.int i] (.int (sw l i)):=by
 refine .of_tree rfl (lA 21 (by kernel_rfl)) aqE ?_;simp[Rp,hi];refine⟨_,by simpa [strs,hi] using aoa l[i],?_⟩;unfold sw;rw[aI,aZ hi,kW];cases h1:oV l[i]<;>simp[h1];refine⟨by omega,_,by simpa [strs,hi] using abu (l.take i) l[i] (by rw[gp];omega),?_⟩;cases h2:hasB (l.take i) l[i]<;>simp[h2]
def tX (l:List ByteArray)(g:Nat→Bool)(i:Nat):Int:=if sw l i≠0 then sw l i else if g i then 0 else 1
def ju (l:List ByteArray)(Cj:Int)(g:Nat→Bool):Int:=if Cj<l.length then 6 else eL l.length (tX l g)
theorem ID (l:List ByteArray)(Cj:Int)(f:Nat)(caps:List D)(g:Nat→Bool)(hg:∀i:Nat,i<l.length→ak T f (.int i::caps) (.bool (g i)))(hl:l.length≤4294967296):
 ak T 53 [strs l,.int Cj,.clo f caps] (.int (ju l Cj g)):=by
 refine .of_tree rfl (lA 20 (by kernel_rfl)) aqB ?_;simp[Rm,ju];by_cases h0:Cj<l.length
 ·simp[h0];intro h;omega
 simp[h0];refine vG l.length (tX l g) (fun k=>[.int 0,.int k]) (fun _=>[]) ?_ (fun k hk ho=>?_) (fun k hk ho hb=>?_) (fun hj=>?_)
 ·simp
 ·have hw:=bA hk hl;have h1:sw l k=0:=by
   refine SI fun h=>?_;unfold tX at ho;rw[if_pos h] at ho;exact h ho
  have h2:g k=true:=by
   unfold tX at ho;rw[if_neg (by simpa using h1)] at ho;cases h:g k with
   |true=>rfl
   |false=>rw[h] at ho;simp at ho
  simp[Pp,CY,hk,hw];refine⟨_,aau l k hk hl,?_⟩;simp[h1];refine⟨_,_,⟨rfl,rfl⟩,_,hg k hk,?_⟩;simp[h2,hw]
 ·simp[Pp,CY,hk,hb];refine⟨_,aau l k hk hl,?_⟩;unfold tX at ho ⊢;by_cases h1:sw l k=0
  ·simp[h1] at ho ⊢;refine⟨_,_,⟨rfl,rfl⟩,_,hg k hk,?_⟩;simp[ho]
  ·simp[h1]
 ·simp[Pp,CY,hj]
def om (r:Realm)(c:City):Bool:=fN c.feasts.length (fun k=>wi ((c.feasts.getD k 0).tmod 100) 1 31)&&(decide (c.feasts.length≤60)&&decide (c.shut.length≤200)&&aD c.order r.orders.length&&aD c.currency r.currencies.length)&&
 (rising c.rest 0 6&&rising c.feasts 101 1231&&rising c.shut 0 100000)
theorem an8 (r:Realm)(c:City)(h1:c.rest.length≤4294967296)(h2:c.feasts.length≤4294967296)(h3:c.shut.length≤4294967296):ak T 56 [bq r,fZ c] (.bool (om r c)):=by
 refine .of_tree rfl (lA 27 (by kernel_rfl)) aqA ?_;simp[Rl];refine kK c.feasts.length (fun k=>wi ((c.feasts.getD k 0).tmod 100) 1 31) (fun k=>[.bool false,.int k]) (fun _=>[]) ?_ (fun k hk ho=>?_) (fun k hk ho hb=>?_) (fun hj=>?_)
 ·simp
 ·have hw:=bA hk h2;simp[wi,hk] at ho;have g1:¬(c.feasts[k].tmod 100<1):=by omega
  have g2:¬(31<c.feasts[k].tmod 100):=by omega
  simp[Po,CX,hk,hw,ints,g1,g2]
 ·have hf:om r c=false:=by simp only[om,hb,th]
  simp[wi,hk] at ho;simp[Po,CX,hk,ints,hf];by_cases g1:c.feasts[k].tmod 100<1
  ·simp[g1]
  ·have g2:=ho (by omega);simp[g1,g2]
 ·simp[Po,CX];by_cases g1:(c.feasts.length:Int)≤60
  case neg=>
   have hf:om r c=false:=by
        have ic:decide (c.feasts.length≤60)=false:=decide_eq_false (by omega);simp only[om,ic,th,DP]
   have ic:(60:Int)<c.feasts.length:=by omega
   simp[g1,ic,hf]
  by_cases g2:(c.shut.length:Int)≤200
  case neg=>
   have hf:om r c=false:=by
        have ic:decide (c.shut.length≤200)=false:=decide_eq_false (by omega);simp only[om,ic,th,DP]
   have rF:(200:Int)<c.shut.length:=by omega
   simp[g1,g2,rF,hf]
  have ic:¬(60:Int)<c.feasts.length:=by omega
  have rF:¬(200:Int)<c.shut.length:=by omega
  have hf:om r c=(aD c.order r.orders.length&&aD c.currency r.currencies.length&&(rising c.rest 0 6&&rising c.feasts 101 1231&&rising c.shut 0 100000)):=by
   have e1:decide (c.feasts.length≤60)=true:=decide_eq_true (by omega);have e2:decide (c.shut.length≤200)=true:=decide_eq_true (by omega);simp only[om,hj,e1,e2,vY]
  rw[hf];simp[g1,g2,ic,rF];refine⟨_,eV _ _,?_⟩;simp;cases e1:aD c.order r.orders.length<;>simp;refine⟨_,eV _ _,?_⟩;simp;cases e2:aD c.currency r.currencies.length<;>simp;refine⟨_,Dm _ _ _ h1,?_⟩;simp;cases e3:rising c.rest 0 6<;>simp;refine⟨_,Dm _ _ _ h2,?_⟩;simp;cases e4:rising c.feasts 101 1231<;>simp;exact Dm _ _ _ h3
end Rm
namespace Rm
open Go Go.Proofs Cx
theorem zl {α β:Type}(f:α→β){l:List α}{k:Nat}(h:k<l.length):(l.take (k+1)).map f=(l.take k).map f++[f l[k]]:=by
 rw[fL h,ki];rfl
theorem yq (i:Int)(n:Nat):aD i n=wi i 0 ((n:Int)-1):=by
 rw[vW];simp[wi,aD];omega
def zP (o:Order):List Int:=o.choices.map (·.ask)
def Ec (o:Order):List Int:=o.rules.map (·.ask)
def sC (o:Order):Bool:=fN o.choices.length (fun k=>aD (o.choices.getD k default).by_ 5)&&(rising (zP o) 0 21&&rising (Ec o) 0 21)
theorem aod (o:Order)(h1:o.choices.length≤100000)(h2:o.rules.length≤100000):ak T 60 [jr o] (.bool (sC o)):=by
 refine .of_tree rfl (lA 32 (by kernel_rfl)) aqG ?_;simp[Rr];refine kK o.choices.length (fun k=>aD (o.choices.getD k default).by_ 5) (fun k=>[.bool false,.none,.int k]) (fun k=>[ints ((o.choices.take k).map (·.ask))]) ?_ (fun k hk ho=>?_) (fun k hk ho hb=>?_) (fun hj=>?_)
 ·simp[ints]
 ·have hw:=bA hk (by omega);have hl:(o.choices.take k).length=k:=by rw[gp];omega
  simp[hk] at ho;rw[zl _ hk];simp[Pr,C0,hk,hw,ints,hl];refine⟨by omega,_,eV _ _,?_⟩;simp[ho,hw]
 ·have hf:sC o=false:=by simp only[sC,hb,th]
  have hl:(o.choices.take k).length=k:=by rw[gp];omega
  simp[hk] at ho;simp[Pr,C0,hk,ints,hl,hf];refine⟨by omega,_,eV _ _,?_⟩;simp[ho]
 ·have hf:sC o=(rising (zP o) 0 21&&rising (Ec o) 0 21):=by simp only[sC,hj,vY]
  rw[hf];simp[Pr,C0];refine aH.forRounds o.rules.length (fun k=>[.none,.int k]) (fun k=>[ints ((o.rules.take k).map (·.ask))]) ?_ (fun k hk=>?_) ?_
  ·simp[ints]
  ·have hw:=bA hk (by omega);have hl:(o.rules.take k).length=k:=by rw[gp];omega
   rw[zl _ hk];simp[aao,Iv,hk,hw,ints,hl];omega
  ·simp[aao,Iv];refine⟨_,Dm (zP o) _ _ (by simp[zP];omega),?_⟩;simp;cases e1:rising (zP o) 0 21<;>simp;exact Dm (Ec o) _ _ (by simp[Ec];omega)
def u7 (r:Realm):List ByteArray:=r.cities.map (·.name)
def ny (r:Realm):List ByteArray:=r.firms.map (·.name)
def qI (r:Realm):List ByteArray:=r.orders.map (·.name)
theorem aob (r:Realm)(h1:r.cities.length≤100000)(h2:r.firms.length≤100000)(h3:r.orders.length≤100000):ak T 52 [bq r] (.tup [strs (u7 r),strs (ny r),strs (qI r)]):=by
 refine .of_tree rfl (lA 19 (by kernel_rfl)) aqF ?_;simp[Rq];refine aH.forRounds r.cities.length (fun k=>[.none,.int k]) (fun k=>[strs ((r.cities.take k).map (·.name))]) ?_ (fun k hk=>?_) ?_
 ·simp[strs]
 ·have hw:=bA hk (by omega);have hl:(r.cities.take k).length=k:=by rw[gp];omega
  rw[zl _ hk];simp[aal,Is,hk,hw,strs,hl];omega
 ·simp[aal,Is];refine aH.forRounds r.firms.length (fun k=>[.none,.int k]) (fun k=>[strs ((r.firms.take k).map (·.name))]) ?_ (fun k hk=>?_) ?_
  ·simp[strs]
  ·have hw:=bA hk (by omega);have hl:(r.firms.take k).length=k:=by rw[gp];omega
   rw[zl _ hk];simp[aam,It,hk,hw,strs,hl];omega
  ·simp[aam,It];refine aH.forRounds r.orders.length (fun k=>[.none,.int k]) (fun k=>[strs ((r.orders.take k).map (·.name))]) ?_ (fun k hk=>?_) ?_
   ·simp[strs]
   ·have hw:=bA hk (by omega);have hl:(r.orders.take k).length=k:=by rw[gp];omega
    rw[zl _ hk];simp[aan,Iu,hk,hw,strs,hl];omega
   ·simp[aan,Iu,u7,ny,qI]
end Rm
namespace Rm
open Go Go.Proofs Cx
structure Small (r:Realm):Prop where
 cur:r.currencies.length≤1000
 cities:r.cities.length≤1000
 groups:r.groups.length≤1000
 firms:r.firms.length≤1000
 orders:r.orders.length≤1000
 us:r.usances.length≤1000
 rates:r.rates.length≤1000
 halts:r.halts.length≤1000
 city:∀c,c∈r.cities→c.rest.length≤1000∧c.feasts.length≤1000∧c.shut.length≤1000∧∀y,y∈c.feasts→aY y
 order:∀o,o∈r.orders→o.choices.length≤1000∧o.rules.length≤1000
 rate:∀x,x∈r.rates→aY x.num∧aY x.den
def s9 (r:Realm)(k j:Nat):Bool:=(r.usances.getD j default).fr !=(r.usances.getD k default).fr||(r.usances.getD j default).to !=(r.usances.getD k default).to
def Jl (r:Realm)(k:Nat):Int:=
 if(aD (r.usances.getD k default).fr r.cities.length&&aD (r.usances.getD k default).to r.cities.length&&wi (r.usances.getD k default).days 1 20000)=false then 1 else if fN k (s9 r k) then 0 else 5
def Jm (r:Realm):Int:=if 100<r.usances.length then 6 else eL r.usances.length (Jl r)
theorem aof (r:Realm)(h:Small r):ak T 61 [bq r] (.int (Jm r)):=by
 refine .of_tree rfl (lA 33 (by kernel_rfl)) aqJ ?_;have hu:=h.us;simp[Rv,Jm];by_cases h0:100<r.usances.length
 ·have gF:(100:Int)<r.usances.length:=by omega
  have Lb:¬r.usances.length≤100:=by omega
  simp[h0,gF,Lb]
 have gF:¬(100:Int)<r.usances.length:=by omega
 simp[h0,gF];refine vG r.usances.length (Jl r) (fun k=>[.int 0,.int k]) (fun _=>[]) ?_ (fun k hk ho=>?_) (fun k hk ho hb=>?_) (fun hj=>?_)
 ·simp
 ·have hw:=bA hk (by omega);have ha:aD r.usances[k].fr r.cities.length=true∧aD r.usances[k].to r.cities.length=true∧wi r.usances[k].days 1 20000=true∧fN k (s9 r k)=true:=by
   unfold Jl at ho;simp only[aI,aZ hk,kW] at ho;cases e1:aD r.usances[k].fr r.cities.length<;>cases e2:aD r.usances[k].to r.cities.length<;>cases e3:wi r.usances[k].days 1 20000<;>cases e4:fN k (s9 r k)<;>simp[e1,e2,e3,e4] at ho ⊢
  obtain⟨a1,a2,a3,a4⟩:=ha;simp[wi] at a3;have a5:¬r.usances[k].days<1:=by omega
  have a6:¬20000<r.usances[k].days:=by omega
  simp[Pu,C3,hk];refine⟨_,eV _ _,?_⟩;simp[a1];refine⟨_,eV _ _,?_⟩;simp[a2,a5,a6];refine⟨by omega,kK k (s9 r k) (fun j=>[.int 0,.int j]) (fun _=>[]) ?_ (fun j hj j2=>?_) (fun j hj j2 fc=>?_) (fun ur=>?_)⟩
  ·simp
  ·have ME:=bA hj (by omega);have cC:j<r.usances.length:=by omega
   have hm:j<min k r.usances.length:=by omega
   simp[s9,cC,hk] at j2;simp[Iw,y7,hj,cC,hk,ME,hm];intro e e';rcases j2 with h|h
   ·exact absurd e h
   ·exact absurd e' h
  ·rw[a4] at fc;cases fc
  ·simp[Iw,y7,hw];omega
 ·simp[Pu,C3,hk,hb];refine⟨_,eV _ _,?_⟩;unfold Jl at ho ⊢;simp only[aI,aZ hk,kW] at ho ⊢;cases e1:aD r.usances[k].fr r.cities.length
  ·simp
  simp;refine⟨_,eV _ _,?_⟩;cases e2:aD r.usances[k].to r.cities.length
  ·simp
  cases e3:wi r.usances[k].days 1 20000
  ·simp[wi] at e3;by_cases g:r.usances[k].days<1
   ·simp[g]
   ·simp[g,e3 (by omega)]
  have KI:=e3;simp[wi] at KI;have a5:¬r.usances[k].days<1:=by omega
  have a6:¬20000<r.usances[k].days:=by omega
  simp[e1,e2,e3] at ho;simp[a5,a6];refine⟨by omega,kK k (s9 r k) (fun j=>[.int 0,.int j]) (fun _=>[]) ?_ (fun j hj j2=>?_) (fun j hj j2 fc=>?_) (fun ur=>?_)⟩
  ·simp
  ·have ME:=bA hj (by omega);have cC:j<r.usances.length:=by omega
   have hm:j<min k r.usances.length:=by omega
   simp[s9,cC,hk] at j2;simp[Iw,y7,hj,cC,hk,ME,hm];intro e e';rcases j2 with h|h
   ·exact absurd e h
   ·exact absurd e' h
  ·have cC:j<r.usances.length:=by omega
   have hm:j<min k r.usances.length:=by omega
   simp[s9,cC,hk] at j2;simp[Iw,y7,hj,cC,hk,ho,hm]
   first|exact j2|simp[j2]
  ·rw[ur] at ho;cases ho
 ·simp[Pu,C3,hj]
def CH (r:Realm)(k:Nat):Bool:=aD (r.rates.getD k default).fr r.currencies.length&&aD (r.rates.getD k default).to r.currencies.length&&((r.rates.getD k default).fr !=(r.rates.getD k default).to)&&
 wi (r.rates.getD k default).num 1 1073741824&&wi (r.rates.getD k default).den 1 1073741824&&wi (r.rates.getD k default).since 0 100000
def A8 (r:Realm)(k:Nat):Bool:=aD (r.halts.getD k default).order r.orders.length&&wi (r.halts.getD k default).fr 0 (r.halts.getD k default).to&&decide ((r.halts.getD k default).to≤100000)
def pw (r:Realm):Int:=if 100<r.rates.length then 6 else if fN r.rates.length (CH r)=false then 1 else if 20<r.halts.length then 6 else if fN r.halts.length (A8 r) then 0 else 1
theorem GV {n:Int}(h:aY n)(m:Int)(hm:0≤m∧m≤4294967296):aD (IntKind.i64.wrap (n-1)) m=wi n 1 m:=by
 unfold aY at h;by_cases e:n=-9223372036854775808
 ·subst e;have:IntKind.i64.wrap (-9223372036854775808-1)=9223372036854775807:=by decide
  rw[this,vW];simp[aD,wi];omega
 ·rw[bE (by omega),vW];simp[aD,wi];omega
theorem Wn (n:Int):aD n 100001=wi n 0 100000:=by rw[vW];simp[aD,wi];omega
theorem aoe (r:Realm)(h:Small r):ak T 62 [bq r] (.int (pw r)):=by
 refine .of_tree rfl (lA 34 (by kernel_rfl)) aqH ?_;have hu:=h.rates;have hh:=h.halts;simp[Rs,pw];by_cases h0:100<r.rates.length
 ·have gF:(100:Int)<r.rates.length:=by omega
  have Lb:¬r.rates.length≤100:=by omega
  simp[h0,gF,Lb]
 have gF:¬(100:Int)<r.rates.length:=by omega
 simp[h0,gF];have key:∀k (hk:k<r.rates.length),∀{ρ:Env} {Q:Out→Prop},True:=fun _ _ _ _=>trivial;refine kK r.rates.length (CH r) (fun k=>[.int 0,.int k]) (fun _=>[]) ?_ (fun k hk ho=>?_) (fun k hk ho hb=>?_) (fun hj=>?_)
 ·simp
 ·have hw:=bA hk (by omega);have hI:=h.rate _ (cr hk);simp[CH,hk] at ho;obtain⟨⟨⟨⟨⟨a1,a2⟩,a3⟩,a4⟩,a5⟩,a6⟩:=ho;simp[Ps,C1,hk];refine⟨_,eV _ _,?_⟩;simp[a1];refine⟨_,eV _ _,?_⟩;simp[a2,a3];refine⟨_,eV _ _,?_⟩;simp[GV hI.1,a4];refine⟨_,eV _ _,?_⟩;simp[GV hI.2,a5];refine⟨_,eV _ _,?_⟩;simp[Wn,a6,hw]
 ·have hI:=h.rate _ (cr hk);rw[hb];simp[CH,hk] at ho;simp[Ps,C1,hk];refine⟨_,eV _ _,?_⟩;cases e1:aD r.rates[k].fr r.currencies.length
  ·simp
  simp;refine⟨_,eV _ _,?_⟩;cases e2:aD r.rates[k].to r.currencies.length
  ·simp
  by_cases e3:r.rates[k].fr=r.rates[k].to
  ·simp[e3]
  simp[e3];refine⟨_,eV _ _,?_⟩;rw[GV hI.1 _ (by omega)];cases e4:wi r.rates[k].num 1 1073741824
  ·simp
  simp;refine⟨_,eV _ _,?_⟩;rw[GV hI.2 _ (by omega)];cases e5:wi r.rates[k].den 1 1073741824
  ·simp
  simp;refine⟨_,eV _ _,?_⟩;rw[Wn];simp[ho e1 e2 e3 e4 e5]
 ·rw[hj];simp[Ps,C1];by_cases h1:20<r.halts.length
  ·have cN:(20:Int)<r.halts.length:=by omega
   have agF:¬r.halts.length≤20:=by omega
   simp[h1,cN,agF]
  have cN:¬(20:Int)<r.halts.length:=by omega
  simp[h1,cN];refine kK r.halts.length (A8 r) (fun k=>[.int 0,.int k]) (fun _=>[]) ?_ (fun k hk ho=>?_) (fun k hk ho hb=>?_) (fun hj=>?_)
  ·simp
  ·have hw:=bA hk (by omega);simp[A8,wi,hk] at ho;obtain⟨⟨a1,a2⟩,a3⟩:=ho;have b1:¬r.halts[k].fr<0:=by omega
   have b2:¬r.halts[k].to<r.halts[k].fr:=by omega
   have b3:¬100000<r.halts[k].to:=by omega
   simp[Pt,C2,hk];refine⟨_,eV _ _,?_⟩;simp[a1,b1,b2,b3,hw]
  ·rw[hb];simp[A8,wi,hk] at ho;simp[Pt,C2,hk];refine⟨_,eV _ _,?_⟩;cases e1:aD r.halts[k].order r.orders.length
   ·simp
   have:=ho e1;by_cases b1:r.halts[k].fr<0
   ·simp[b1]
   by_cases b2:r.halts[k].to<r.halts[k].fr
   ·simp[b1,b2]
   have b3:100000<r.halts[k].to:=this (by omega) (by omega);simp[b1,b2,b3]
  ·rw[hj];simp[Pt,C2]
end Rm
namespace Rm
open Go Go.Proofs Cx
def lN:List Int→Int
 |[]=>0
 |x::l=>if x=0 then lN l else x
theorem Dy:∀{l:List Int},lN l=0↔∀x,x∈l→x=0
 |[]=>by simp[lN]
 |x::l=>by
  simp only[lN,cG,forall_eq_or_imp];by_cases h:x=0
  ·simp[h,Dy (l:=l)]
  ·simp[h]
def ql (r:Realm)(i:Nat):Bool:=aD (r.firms.getD i default).city r.cities.length&&aD (r.firms.getD i default).group r.groups.length
def Ap (r:Realm)(i:Nat):Bool:=om r (r.cities.getD i default)
def ve (r:Realm)(i:Nat):Bool:=sC (r.orders.getD i default)
def FT (r:Realm)(i:Nat):Bool:=aD (r.groups.getD i default).grade 10
def AZ (r:Realm):Int:=if 20<r.groups.length then 6 else if fN r.groups.length (FT r) then 0 else 1
def hZ (r:Realm):Int:=lN [ju r.currencies 8 (fun _=>true),ju (u7 r) 40 (Ap r),AZ r,ju (ny r) 200 (ql r),ju (qI r) 20 (ve r),Jm r,pw r]
theorem adh (i:Int):ak T 54 [.int i] (.bool true):=by
 refine .of_tree rfl (lA 25 (by kernel_rfl)) aqs ?_;simp[Re]
theorem adi (r:Realm)(h:Small r)(i:Nat)(hi:i<r.cities.length):ak T 55 [.int i,.ref (bq r)] (.bool (Ap r i)):=by
 refine .of_tree rfl (lA 26 (by kernel_rfl)) aqt ?_;obtain⟨h1,h2,h3,h4⟩:=h.city _ (cr hi);simp[Rf,hi,Ap];exact an8 r r.cities[i] (by omega) (by omega) (by omega)
theorem adj (r:Realm)(i:Nat)(hi:i<r.firms.length):ak T 58 [.int i,.ref (bq r)] (.bool (ql r i)):=by
 refine .of_tree rfl (lA 30 (by kernel_rfl)) aqu ?_;simp[Rg,hi,ql];refine⟨_,eV _ _,?_⟩;simp[hi];cases e1:aD r.firms[i].city r.cities.length<;>simp;exact eV _ _
theorem adk (r:Realm)(h:Small r)(i:Nat)(hi:i<r.orders.length):ak T 59 [.int i,.ref (bq r)] (.bool (ve r i)):=by
 refine .of_tree rfl (lA 31 (by kernel_rfl)) aqv ?_;obtain⟨h1,h2⟩:=h.order _ (cr hi);simp[Rh,hi,ve];exact aod r.orders[i] (by omega) (by omega)
theorem PS (r:Realm)(h:Small r):ak T 14 [bq r] (.int (hZ r)):=by
 refine .of_tree rfl (lA 18 (by kernel_rfl)) aqw ?_;have g1:=h.cur;have g2:=h.cities;have g3:=h.firms;have g4:=h.orders;have g5:=h.groups;simp[Rc];refine⟨_,aob r (by omega) (by omega) (by omega),?_⟩;simp;refine⟨_,ID r.currencies 8 54 [] (fun _=>true) (fun i _=>adh _) (by omega),?_⟩;unfold hZ;generalize e1:ju r.currencies 8 (fun _=>true)=x1;by_cases z1:x1=0
 case neg=>simp[z1,lN]
 simp[z1,lN];refine⟨_,ID (u7 r) 40 55 [.ref (bq r)] (Ap r) (fun i hi=>adi r h i (by simpa [u7] using hi)) (by simp[u7];omega),?_⟩;generalize e2:ju (u7 r) 40 (Ap r)=x2;by_cases z2:x2=0
 case neg=>simp[z2]
 simp[z2];by_cases z3:20<r.groups.length
 ·have Sw:(20:Int)<r.groups.length:=by omega
  simp[Sw,AZ,z3]
 have Sw:¬(20:Int)<r.groups.length:=by omega
 simp[Sw,AZ,z3];refine kK r.groups.length (FT r) (fun k=>[.int 0,.int k]) (fun _=>[]) ?_ (fun k hk ho=>?_) (fun k hk ho hb=>?_) (fun hj=>?_)
 ·simp
 ·have hw:=bA hk (by omega);simp[FT,hk] at ho;simp[Pm,CV,hk];refine⟨_,eV _ _,?_⟩;simp[ho,hw]
 ·simp[FT,hk] at ho;rw[hb];simp[Pm,CV,hk];refine⟨_,eV _ _,?_⟩;simp[ho]
 ·rw[hj];simp[Pm,CV];refine⟨_,ID (ny r) 200 58 [.ref (bq r)] (ql r) (fun i hi=>adj r i (by simpa [ny] using hi)) (by simp[ny];omega),?_⟩;generalize e4:ju (ny r) 200 (ql r)=x4;by_cases z4:x4=0
  case neg=>simp[z4]
  simp[z4];refine⟨_,ID (qI r) 20 59 [.ref (bq r)] (ve r) (fun i hi=>adk r h i (by simpa [qI] using hi)) (by simp[qI];omega),?_⟩;generalize e5:ju (qI r) 20 (ve r)=x5;by_cases z5:x5=0
  case neg=>simp[z5]
  simp[z5];refine⟨_,aof r h,?_⟩;generalize e6:Jm r=x6;by_cases z6:x6=0
  case neg=>simp[z6]
  simp[z6];have e7:(if pw r=0 then 0 else pw r)=pw r:=by split<;>simp_all
  rw[e7];exact aoe r h
theorem K4 {l:List ByteArray}{g:Nat→Bool}{k:Nat}(h:tX l g k=0):sw l k=0∧g k=true:=by
 unfold tX at h;by_cases h1:sw l k=0
 ·simp[h1] at h;exact⟨h1,h⟩
 ·simp[h1] at h
end Rm
namespace Rm
open Go Go.Proofs Cx
def iL:Nat→Tm→Int→Int
 |0,_,_=>-1
 |L+1,t,n=>t.args.foldl (fun m a=>if 0≤m then iL L a m else m) (n-1)
theorem size_le:∀(L:Nat) (t:Tm) (n:Int),0≤n→-1≤iL L t n∧iL L t n≤n
 |0,t,n,h=>by simp[iL];omega
 |L+1,t,n,h=>by
  have key:∀(l:List Tm) (m:Int),-1≤m→m≤n→-1≤l.foldl (fun m a=>if 0≤m then iL L a m else m) m∧l.foldl (fun m a=>if 0≤m then iL L a m else m) m≤n:=by
   intro l
   induction l with
   |nil=>intro m h1 h2;exact⟨h1,h2⟩
   |cons a l ih=>
    intro m h1 h2;simp only[DV];split
    ·rename_i hm;have:=size_le L a m hm;exact ih _ this.1 (by omega)
    ·exact ih _ h1 h2
  exact key _ _ (by omega) (by omega)
theorem aaV (L:Nat):∀(l:List Tm) (m:Int),m<0→l.foldl (fun m a=>if 0≤m then iL L a m else m) m=m
 |[],m,h=>rfl
 |a::l,m,h=>by simp only[DV];rw[if_neg (by omega)];exact aaV L l m h
theorem ago {α β:Type}(f:β→α→β)(b:β){l:List α}{k:Nat}(h:k<l.length):(l.take (k+1)).foldl f b=f ((l.take k).foldl f b) l[k]:=by
 rw[fL h,wg];rfl
theorem agn {α β:Type}(f:β→α→β)(b:β)(l:List α)(k:Nat):l.foldl f b=(l.drop k).foldl f ((l.take k).foldl f b):=by
 rw[←wg,Jy]
theorem _root_.Cx.Tm.OK.len {t:Tm}(h:t.OK):t.args.length≤9223372036854775807:=by cases h with|mk o n xs h1 h2 h3 h4=>exact h3
theorem _root_.Cx.Tm.OK.arg {t:Tm}(h:t.OK){a:Tm}(ha:a∈t.args):a.OK:=by cases h with|mk o n xs h1 h2 h3 h4=>exact h4 a ha
theorem ZT:∀(L:Nat) (t:Tm) (n:Int),t.OK→0≤n→n≤1000→L≤1000→ak T 159 [dm t,.int n,.int L] (.int (iL L t n))
 |0,t,n,ht,h0,h1,hL=>by
  refine .of_tree rfl Tz abc ?_;simp[Jd,iL]
 |L+1,t,n,ht,h0,h1,hL=>by
  refine .of_tree rfl Tz abc ?_;have oO:IntKind.i64.wrap (n-1)=n-1:=bE (by omega);have hl:=ht.len;have j0:¬((L:Int)+1<1):=by omega
  simp[Jd,oO,j0]
  let g:Nat→Int:=fun k=>(t.args.take k).foldl (fun m a=>if 0≤m then iL L a m else m) (n-1)
  have gb:∀k,-1≤g k∧g k≤1000:=by
   intro k;have:g k=iL (L+1) (.mk 0 0 (t.args.take k)) n:=rfl;have:=size_le (L+1) (.mk 0 0 (t.args.take k)) n h0;omega
  refine .scan t.args.length (fun k=>0≤g k) (fun k=>[.int (g k),.int k]) (fun _=>[]) ?_ (fun k hk hj ho=>?_) (fun k hk hj ho=>?_) (fun hj=>?_)
  ·simp[g,oO]
  ·have hw:IntKind.i64.wrap ((k:Int)+1)=(k:Int)+1:=bE (by omega);have GS:IntKind.i64.wrap (L:Int)=(L:Int):=bE (by omega);have hg:g (k+1)=iL L t.args[k] (g k):=by
    show(t.args.take (k+1)).foldl _ _=_;rw[ago _ _ hk];show(if 0≤g k then _ else _)=_;rw[if_pos ho]
   rw[hg];have gy:=ZT L t.args[k] (g k) (ht.arg (cr hk)) ho (gb k).2 (by omega);generalize g k=m at*;simp[Pj,CS,hk,ho,GS];refine⟨_,gy,?_⟩;simp[hw]
  ·have hf:iL (L+1) t n=g k:=by
    show t.args.foldl _ _=_;rw[agn _ _ _ k];exact aaV L _ _ (by show g k<0;omega)
   rw[hf];generalize g k=m at*;simp[Pj,CS,hk,ho]
  ·have hf:iL (L+1) t n=g t.args.length:=by
    show t.args.foldl _ _=(t.args.take t.args.length).foldl _ _;rw[D2]
   rw[hf];generalize g t.args.length=m at*;simp[Pj,CS]
theorem ZS (t:Tm)(ht:t.OK):ak T 101 [dm t] (.bool (decide (0≤iL 20 t 100))):=by
 refine .of_tree rfl (lA 16 (by kernel_rfl)) aqp ?_;simp[Q9];refine⟨_,ZT 20 t 100 ht (by omega) (by omega) (by omega),?_⟩;simp
def oy (o:Order):Bool:=(decide (o.rules.length≤60)&&decide (o.choices.length≤60))&&fN o.rules.length (fun k=>decide (0≤iL 20 (o.rules.getD k default).term 100))
theorem ZU (o:Order)(ho:o.OK):ak T 51 [jr o] (.bool (oy o)):=by
 refine .of_tree rfl (lA 15 (by kernel_rfl)) aqq ?_;simp[Ra];by_cases h1:(o.rules.length:Int)≤60
 case neg=>
  have cN:(60:Int)<o.rules.length:=by omega
  have hf:oy o=false:=by
   have:decide (o.rules.length≤60)=false:=decide_eq_false (by omega);simp only[oy,this,th]
  simp[cN,hf]
 by_cases h2:(o.choices.length:Int)≤60
 case neg=>
  have cN:(60:Int)<o.choices.length:=by omega
  have hf:oy o=false:=by
   have:decide (o.choices.length≤60)=false:=decide_eq_false (by omega);simp only[oy,this,th,DP]
  simp[cN,hf]
 have cN:¬(60:Int)<o.rules.length:=by omega
 have jU:¬(60:Int)<o.choices.length:=by omega
 have hf:oy o=fN o.rules.length (fun k=>decide (0≤iL 20 (o.rules.getD k default).term 100)):=by
  have e1:decide (o.rules.length≤60)=true:=decide_eq_true (by omega);have e2:decide (o.choices.length≤60)=true:=decide_eq_true (by omega);simp only[oy,e1,e2,vY]
 rw[hf];simp[cN,jU];have hO:=ho.2.2;refine kK o.rules.length (fun k=>decide (0≤iL 20 (o.rules.getD k default).term 100)) (fun k=>[.bool false,.int k]) (fun _=>[]) ?_ (fun k hk ho=>?_) (fun k hk ho hb=>?_) (fun hj=>?_)
 ·simp
 ·have hw:=bA hk (by omega);simp[hk] at ho;simp[Pk,CT,hk];refine⟨_,ZS _ (hO _ (cr hk)).2,?_⟩;simp[ho,hw]
 ·simp only[aI] at hb;rw[hb];simp[hk] at ho;simp[Pk,CT,hk];refine⟨_,ZS _ (hO _ (cr hk)).2,?_⟩;simp[ho]
 ·simp only[aI] at hj;rw[hj];simp[Pk,CT]
def AP (f:File):Bool:=decide ((f.signs.length:Int)≤50)&&decide ((f.alters.length:Int)≤10)&&decide ((f.acts.length:Int)≤110)&&decide ((f.facts.length:Int)≤220)
theorem anE (f:File):ak T 50 [cd f] (.bool (AP f)):=by
 refine .of_tree rfl (lA 14 (by kernel_rfl)) aqo ?_;simp[Q8,AP];by_cases h1:(f.signs.length:Int)≤50<;>by_cases h2:(f.alters.length:Int)≤10<;>by_cases h3:(f.acts.length:Int)≤110<;>by_cases h4:(f.facts.length:Int)≤220<;>
  simp[h1,h2,h3,h4]
end Rm
namespace Rm
open Go Go.Proofs Cx
def AN (r:Realm)(k:Nat):Bool:=decide (((r.cities.getD k default).feasts.length:Int)≤70)&&decide (((r.cities.getD k default).shut.length:Int)≤210)&&decide (((r.cities.getD k default).rest.length:Int)≤8)
def AO (r:Realm)(k:Nat):Bool:=decide (((r.orders.getD k default).choices.length:Int)≤40)&&decide (((r.orders.getD k default).rules.length:Int)≤40)
def FI (r:Realm):Bool:=decide ((r.currencies.length:Int)<50)&&decide ((r.cities.length:Int)<50)&&decide ((r.groups.length:Int)<50)&&decide ((r.firms.length:Int)<210)&&decide ((r.orders.length:Int)<50)&&decide ((r.usances.length:Int)<110)&&decide ((r.rates.length:Int)<110)&&decide ((r.halts.length:Int)<50)
def lY (r:Realm):Bool:=fN (min r.cities.length 50) (AN r)&&fN (min r.orders.length 50) (AO r)&&FI r
theorem ZO (r:Realm)(hr:r.OK):ak T 19 [bq r] (.bool (lY r)):=by
 refine .of_tree rfl (lA 13 (by kernel_rfl)) aqm ?_;simp[Q6];refine kK (min r.cities.length 50) (AN r) (fun k=>[.bool false,.int k]) (fun _=>[]) ?_ (fun k hk ho=>?_) (fun k hk ho hb=>?_) (fun hj=>?_)
 ·simp
 ·have bP:k<r.cities.length:=by omega
  have cn:k<50:=by omega
  have hw:=bA cn (by omega);simp[AN,bP] at ho;obtain⟨⟨a1,a2⟩,a3⟩:=ho;have b1:¬(70:Int)<r.cities[k].feasts.length:=by omega
  have b2:¬(210:Int)<r.cities[k].shut.length:=by omega
  have b3:¬(8:Int)<r.cities[k].rest.length:=by omega
  simp[CR,vC,bP,cn,hw,b1,b2,b3];omega
 ·have bP:k<r.cities.length:=by omega
  have cn:k<50:=by omega
  have hf:lY r=false:=by simp only[lY,hb,th]
  rw[hf];simp[AN,bP] at ho;by_cases b1:(70:Int)<r.cities[k].feasts.length
  ·simp[CR,vC,bP,cn,b1];omega
  by_cases b2:(210:Int)<r.cities[k].shut.length
  ·simp[CR,vC,bP,cn,b1,b2];omega
  have b3:(8:Int)<r.cities[k].rest.length:=by have:=ho (by omega) (by omega);omega
  simp[CR,vC,bP,cn,b1,b2,b3];omega
 ·have hn:¬((min r.cities.length 50:Nat):Int)<r.cities.length∨¬((min r.cities.length 50:Nat):Int)<50:=by omega
  simp[CR,vC];rw[if_neg (by omega)];refine kK (min r.orders.length 50) (AO r) (fun k=>[.bool false,.int k]) (fun _=>[]) ?_ (fun k hk ho=>?_) (fun k hk ho hb=>?_) (fun Bs=>?_)
  ·simp
  ·have bP:k<r.orders.length:=by omega
   have cn:k<50:=by omega
   have hw:=bA cn (by omega);simp[AO,bP] at ho;obtain⟨a1,a2⟩:=ho;have b1:¬(40:Int)<r.orders[k].choices.length:=by omega
   have b2:¬(40:Int)<r.orders[k].rules.length:=by omega
   simp[Iq,y5,bP,cn,hw,b1,b2];omega
  ·have bP:k<r.orders.length:=by omega
   have cn:k<50:=by omega
   have hf:lY r=false:=by simp only[lY,hb,th,DP]
   rw[hf];simp[AO,bP] at ho;by_cases b1:(40:Int)<r.orders[k].choices.length
   ·simp[Iq,y5,bP,cn,b1];omega
   have b2:(40:Int)<r.orders[k].rules.length:=by have:=ho (by omega);omega
   simp[Iq,y5,bP,cn,b1,b2];omega
  ·have hf:lY r=FI r:=by simp only[lY,hj,Bs,vY]
   rw[hf];simp[Iq,y5];rw[if_neg (by omega)];unfold FI;by_cases c1:(r.currencies.length:Int)<50<;>simp[c1];by_cases c2:(r.cities.length:Int)<50<;>simp[c2];by_cases c3:(r.groups.length:Int)<50<;>simp[c3];by_cases c4:(r.firms.length:Int)<210<;>simp[c4];by_cases c5:(r.orders.length:Int)<50<;>simp[c5];by_cases c6:(r.usances.length:Int)<110<;>simp[c6];by_cases c7:(r.rates.length:Int)<110<;>simp[c7]
theorem KX {r:Realm}(hr:r.OK)(h:lY r=true):Small r:=by
 simp only[lY,FI,aq,decide_eq_true_eq,zN] at h;obtain⟨⟨h1,h2⟩,⟨⟨⟨⟨⟨⟨⟨c1,c2⟩,c3⟩,c4⟩,c5⟩,c6⟩,c7⟩,c8⟩⟩:=h;obtain⟨k1,⟨k2,k2'⟩,⟨k3,k3'⟩,⟨k4,k4'⟩,⟨k5,k5'⟩,⟨k6,k6'⟩,⟨k7,k7'⟩,⟨k8,k8'⟩⟩:=hr;refine⟨by omega,by omega,by omega,by omega,by omega,by omega,by omega,by omega,fun c hc=>?_,fun o ho=>?_,fun x hx=>?_⟩
 ·obtain⟨k,hk,rfl⟩:=eZ hc;have:=h1 k (by omega);simp[AN,hk] at this;have:=k2' _ hc;exact⟨by omega,by omega,by omega,fun y hy=>this.2.2.2.1.2 y hy⟩
 ·obtain⟨k,hk,rfl⟩:=eZ ho;have:=h2 k (by omega);simp[AO,hk] at this;omega
 ·have:=k7' x hx;exact⟨this.2.2.1,this.2.2.2.1⟩
def ox (r:Realm)(f:File):Bool:=(lY r&&AP f)&&fN r.orders.length (fun k=>oy (r.orders.getD k default))
theorem ZV (r:Realm)(f:File)(hr:r.OK):ak T 13 [bq r,cd f] (.bool (ox r f)):=by
 refine .of_tree rfl (lA 12 (by kernel_rfl)) aqr ?_;simp[Rb];refine⟨_,ZO r hr,?_⟩;cases e1:lY r
 ·simp[ox,e1]
 simp;refine⟨_,anE f,?_⟩;cases e2:AP f
 ·simp[ox,e1,e2]
 have hs:=KX hr e1;have ho:=hs.orders;have hf:ox r f=fN r.orders.length (fun k=>oy (r.orders.getD k default)):=by simp only[ox,e1,e2,vY]
 rw[hf];simp;have hO:=hr.2.2.2.2.1.2;refine kK r.orders.length (fun k=>oy (r.orders.getD k default)) (fun k=>[.bool false,.int k]) (fun _=>[]) ?_ (fun k hk ho=>?_) (fun k hk ho hb=>?_) (fun hj=>?_)
 ·simp
 ·have hw:=bA hk (by omega);simp[hk] at ho;simp[Pl,CU,hk];refine⟨_,ZU _ (hO _ (cr hk)),?_⟩;simp[ho,hw]
 ·simp only[aI] at hb;rw[hb];simp[hk] at ho;simp[Pl,CU,hk];refine⟨_,ZU _ (hO _ (cr hk)),?_⟩;simp[ho]
 ·simp only[aI] at hj;rw[hj];simp[Pl,CU]
def FQ (r:Realm)(f:File):Bool:=ox r f&&decide (hZ r=0)
def m0 (n:Int):Int:=min (max n (-1099511627776)) 1099511627776
theorem I4 (n:Int):ak T 252 [.int n] (.int (m0 n)):=by
 refine .of_tree rfl (lA 85 (by kernel_rfl)) arf ?_;simp[RZ,m0];by_cases h1:-1099511627776>n
 ·have:¬(1099511627776:Int)< -1099511627776:=by omega
  simp[h1];omega
 ·by_cases h2:(1099511627776:Int)<n
  ·simp[h1,h2];omega
  ·simp[h1,h2];omega
def kP (v:Int):Int×Bool:=if v<0∨19<v then(0,false) else if v<7 then(0,true) else(1,true)
theorem aa6 (v:Int):ak T 250 [.int v] (.tup [.int (kP v).1,.bool (kP v).2]):=by
 refine .of_tree rfl (lA 86 (by kernel_rfl)) ara ?_;simp[RV,kP];by_cases h1:v<0
 ·simp[h1]
 by_cases h2:19<v
 ·simp[h1,h2]
 by_cases h3:v<7
 ·simp[h1,h2,h3]
 ·simp[h1,h2,h3]
def Cd (t:Tm):Int×Int:=
 if 0<t.args.length then(0,2) else if t.op=0 then(if m0 t.n≠t.n then(0,3) else(0,0)) else if t.op=1 then(if t.n<0∨1<t.n then(0,3) else(1,0)) else if(kP t.n).2=false then(0,10) else((kP t.n).1,0)
theorem ape (t:Tm):ak T 248 [dm t] (.tup [.int (Cd t).1,.int (Cd t).2]):=by
 refine .of_tree rfl (lA 84 (by kernel_rfl)) arh ?_;simp[R0,Cd];by_cases h0:0<t.args.length
 ·have gF:(0:Int)<t.args.length:=by omega
  simp[h0,gF]
 simp[h0];by_cases h1:t.op=0
 ·simp[h1];refine⟨_,I4 _,?_⟩;by_cases h2:m0 t.n=t.n<;>simp[h2]
 by_cases h2:t.op=1
 ·simp[h1,h2];by_cases h3:t.n<0<;>by_cases h4:1<t.n<;>simp[h3,h4]
 simp[h1,h2];refine⟨_,aa6 _,?_⟩;cases h3:(kP t.n).2<;>simp[h3]
def eh (op:Int):List Int×Int:=
 if op=3 then([1],1) else if op=4∨op=5 then([1,1],1) else if op=6 then([1,-1,-1],-1) else if op=7 then([0,0],1) else if op=8 then([-1,-1],1) else([0,0],0)
def AK (s:List Int×Int):D:=.agg [ints s.1,.int s.2]
@[simp] theorem atE (s:List Int×Int):(AK s).cells=[ints s.1,.int s.2]:=_root_.id rfl
@[simp] theorem atC (s:List Int×Int):(AK s).c 0=ints s.1:=_root_.id rfl
@[simp] theorem atD (s:List Int×Int):(AK s).c 1=.int s.2:=_root_.id rfl
@[simp] theorem axJ (s:List Int×Int):D.agg [ints s.1,.int s.2]=AK s:=_root_.id rfl
@[simp] theorem ayy (x y:Int):sU (.int x) 0 (.int y)=.int y:=_root_.id rfl
theorem apg (op:Int):ak T 249 [.int op] (AK (eh op)):=by
 refine .of_tree rfl (lA 87 (by kernel_rfl)) arl ?_;simp[R3,eh];by_cases h3:op=3
 ·simp[h3];rfl
 by_cases h4:op=4
 ·simp[h4];rfl
 by_cases h5:op=5
 ·simp[h5];rfl
 by_cases h6:op=6
 ·simp[h6];rfl
 by_cases h7:op=7
 ·simp[h7];rfl
 by_cases h8:op=8
 ·simp[h8];rfl
 simp[h3,h4,h5,h6,h7,h8];rfl
end Rm
namespace Rm
open Go Go.Proofs Cx
def eQ (f:Tm→Int):List Tm→Int→Int
 |[],n=>n
 |a::l,n=>if 60<n+f a then n+f a else eQ f l (n+f a)
def cJ:Nat→Tm→Int
 |0,_=>61
 |L+1,t=>eQ (cJ L) t.args 1
def dq (f:Tm→Int)(l:List Tm):Int:=(l.map f).sum
theorem Hb {f:Tm→Int}{l:List Tm}{k:Nat}(h:k<l.length):dq f (l.take (k+1))=dq f (l.take k)+f l[k]:=by
 unfold dq;rw[zl f h,List.sum_append];simp
theorem Xg {f:Tm→Int}:∀{l:List Tm} {n:Int} {k:Nat},(hk:k<l.length)→(∀j,j<k→n+dq f (l.take (j+1))≤60)→60<n+dq f (l.take (k+1))→eQ f l n=n+dq f (l.take (k+1))
 |a::l,n,0,hk,_,h=>by
  simp[dq] at h ⊢;unfold eQ;rw[if_pos (by omega)]
 |a::l,n,k+1,hk,hj,h=>by
  have h0:=hj 0 (by omega);simp[dq] at h0;unfold eQ;rw[if_neg (by omega)];have e:∀j,n+dq f ((a::l).take (j+1+1))=n+f a+dq f (l.take (j+1)):=by intro j;simp[dq];omega
  rw[Xg (l:=l) (k:=k) (by simpa using hk) (fun j nj=>by have:=hj (j+1) (by omega);rw[e] at this;exact this) (by rw[←e];exact h),e]
theorem Xi {f:Tm→Int}:∀{l:List Tm} {n:Int},(∀j,j<l.length→n+dq f (l.take (j+1))≤60)→eQ f l n=n+dq f l
 |[],n,_=>by simp[eQ,dq]
 |a::l,n,hj=>by
  have h0:=hj 0 (by simp);simp[dq] at h0;unfold eQ;rw[if_neg (by omega)];have e:∀j,n+dq f ((a::l).take (j+1+1))=n+f a+dq f (l.take (j+1)):=by intro j;simp[dq];omega
  rw[Xi (l:=l) (fun j fC=>by have:=hj (j+1) (by simpa using fC);rw[e] at this;exact this)];simp[dq];omega
theorem Xh {f:Tm→Int}(hf:∀a,1≤f a):∀{l:List Tm} {n:Int},n≤eQ f l n
 |[],n=>by simp[eQ]
 |a::l,n=>by
  unfold eQ;have:=hf a;split
  ·omega
  ·have:=Xh hf (l:=l) (n:=n+f a);omega
theorem uY:∀(L:Nat) (t:Tm),1≤cJ L t
 |0,t=>by simp[cJ]
 |L+1,t=>Xh (uY L)
theorem Xj {f:Tm→Int}{B:Int}(hf:∀a,f a≤B)(hB:0≤B):∀{l:List Tm} {n:Int},n≤60→eQ f l n≤60+B
 |[],n,h=>by simp[eQ];omega
 |a::l,n,h=>by
  unfold eQ;have:=hf a;split
  ·omega
  ·exact Xj hf hB (by omega)
theorem Xl:∀(L:Nat) (t:Tm),cJ L t≤61+60*L
 |0,t=>by simp[cJ]
 |L+1,t=>by
  have:=Xj (f:=cJ L) (fun a=>Xl L a) (by omega) (l:=t.args) (n:=1) (by omega);show eQ _ _ _≤_;omega
theorem Xk {f:Tm→Int}(hf:∀a,1≤f a):∀{l:List Tm} {n:Int},eQ f l n≤60→(n:Int)+l.length≤60∧∀a,a∈l→f a≤60-n
 |[],n,h=>by simp[eQ] at h ⊢;exact h
 |a::l,n,h=>by
  unfold eQ at h;have:=hf a;split at h
  ·omega
  ·obtain⟨h1,h2⟩:=Xk hf h;refine⟨by simp;omega,fun b hb=>?_⟩;rcases cG.1 hb with rfl|hb
   ·omega
   ·have:=h2 b hb;omega
theorem Np {L:Nat}{t:Tm}(h:cJ (L+1) t≤60):t.args.length≤59∧∀a,a∈t.args→cJ L a≤60:=by
 obtain⟨h1,h2⟩:=Xk (uY L) h;exact⟨by omega,fun a ha=>by have:=h2 a ha;omega⟩
theorem Qf:∀(L:Nat) (t:Tm) (lv:Int),t.OK→L≤8→lv=9-(L:Int)→ak T 224 [dm t,.int lv] (.int (cJ L t))
 |0,t,lv,ht,hL,LP=>by
  refine .of_tree rfl TA abd ?_;subst LP;simp[Jf,cJ]
 |L+1,t,lv,ht,hL,LP=>by
  refine .of_tree rfl TA abd ?_;have hl:=ht.len;have h8:¬(8<lv):=by omega
  have GS:IntKind.i64.wrap (lv+1)=lv+1:=bE (by omega);simp[Jf,h8];refine .scan t.args.length (fun k=>1+dq (cJ L) (t.args.take (k+1))≤60) (fun k=>[.int (1+dq (cJ L) (t.args.take k)),.int k]) (fun _=>[]) ?_ (fun k hk hj ho=>?_) (fun k hk hj ho=>?_) (fun hj=>?_)
  ·simp[dq]
  all_goals try rw[Hb hk] at ho
  ·have hw:IntKind.i64.wrap ((k:Int)+1)=(k:Int)+1:=bE (by omega);have gy:=Qf L t.args[k] (lv+1) (ht.arg (cr hk)) (by omega) (by omega);rw[Hb hk];have hs:0≤dq (cJ L) (t.args.take k):=by
    unfold dq;have:∀(l:List Tm),0≤(l.map (cJ L)).sum:=by
     intro l
     induction l with
     |nil=>simp
     |cons a l ih=>have:=uY L a;simp;omega
    exact this _
   have ij:=uY L t.args[k];generalize dq (cJ L) (t.args.take k)=m at*;generalize cJ L t.args[k]=v at*;have qB:IntKind.i64.wrap (1+m+v)=1+m+v:=bE (by omega);have gK:¬60<1+m+v:=by omega
   simp[PO,Dj,hk,GS];refine⟨_,gy,?_⟩;simp[qB,gK,hw];omega
  ·have gy:=Qf L t.args[k] (lv+1) (ht.arg (cr hk)) (by omega) (by omega);have hf:cJ (L+1) t=1+dq (cJ L) (t.args.take (k+1)):=Xg hk hj (by rw[Hb hk];omega);rw[hf,Hb hk];have hs:0≤dq (cJ L) (t.args.take k)∧1+dq (cJ L) (t.args.take k)≤60:=by
    constructor
    ·unfold dq;have:∀(l:List Tm),0≤(l.map (cJ L)).sum:=by
       intro l
       induction l with
       |nil=>simp
       |cons a l ih=>have:=uY L a;simp;omega
     exact this _
    ·cases k with
     |zero=>simp[dq]
     |succ k=>exact hj k (by omega)
   have ij:=uY L t.args[k];have fc:=Xl L t.args[k];generalize dq (cJ L) (t.args.take k)=m at*;generalize cJ L t.args[k]=v at*;have qB:IntKind.i64.wrap (1+m+v)=1+m+v:=bE (by omega);have gK:60<1+m+v:=by omega
   simp[PO,Dj,hk,GS];refine⟨_,gy,?_⟩;simp[qB,gK];omega
  ·have hf:cJ (L+1) t=1+dq (cJ L) t.args:=Xi hj;rw[hf];simp[PO,Dj]
def lG (ws ts:List Int):Nat→Int
 |0=>-1
 |k+1=>if ws.getD k 0=-1∧lG ws ts k=-1 then ts.getD k 0 else lG ws ts k
def mg (ws ts:List Int)(k:Nat):Bool:=if ws.getD k 0=-1 then decide (lG ws ts k=-1)||decide (ts.getD k 0=lG ws ts k) else decide (ts.getD k 0=ws.getD k 0)
def u9 (t:Tm)(ks:List Int):Int×Int:=
 if t.op<0∨13<t.op then(0,1) else if t.op=0∨t.op=1∨t.op=2 then Cd t else
 if ks.length≠(eh t.op).1.length∨t.n≠0 then(0,2) else
 if fN (eh t.op).1.length (mg (eh t.op).1 ks)=false then(0,11) else if(eh t.op).2=-1 then(lG (eh t.op).1 ks (eh t.op).1.length,0) else((eh t.op).2,0)
def cm:Nat→Tm→Int×Int
 |0,_=>(0,0)
 |L+1,t=>if eL t.args.length (fun k=>(cm L (t.args.getD k default)).2)≠0 then(0,eL t.args.length (fun k=>(cm L (t.args.getD k default)).2)) else u9 t (t.args.map fun a=>(cm L a).1)
theorem Kw (L:Nat)(t:Tm):cm (L+1) t=if eL t.args.length (fun k=>(cm L (t.args.getD k default)).2)≠0 then(0,eL t.args.length (fun k=>(cm L (t.args.getD k default)).2)) else u9 t (t.args.map fun a=>(cm L a).1):=rfl
theorem P8 {α:Type}(A:List α)(z:α){k n:Nat}(hA:A.length=n)(hk:k<n):(A.take k++List.replicate (n-k) z).set k A[k]=A.take (k+1)++List.replicate (n-(k+1)) z:=by
 have h1:(A.take k).length=k:=by rw[gp];omega
 rw[List.set_append_right _ _ (by omega),h1,JA];have:n-k=(n-(k+1))+1:=by omega
 rw[this,List.replicate_succ,List.set_cons_zero,fL (by omega),nT];rfl
theorem aoR (op:Int):(eh op).1.length≤3:=by
 unfold eh;repeat' split
 all_goals simp
theorem Qe:∀(L:Nat) (t:Tm),t.OK→cJ L t≤60→ak T 225 [dm t] (.tup [.int (cm L t).1,.int (cm L t).2])
 |0,t,ht,hm=>by simp[cJ] at hm
 |L+1,t,ht,hm=>by
  refine .of_tree rfl (lA 83 (by kernel_rfl)) arc ?_;obtain⟨hl,hp⟩:=Np hm;simp[RX];refine⟨by omega,?_⟩;refine vG t.args.length (fun k=>(cm L (t.args.getD k default)).2) (fun k=>[.int 0,.int 0,.int k]) (fun k=>[ints ((t.args.map fun a=>(cm L a).1).take k++List.replicate (t.args.length-k) 0)]) ?_ (fun k hk ho=>?_) (fun k hk ho hb=>?_) (fun hj=>?_)
  ·simp[ints]
  ·have hw:=bA hk (by omega);have cO:=cr hk;have gy:=Qe L t.args[k] (ht.arg cO) (hp _ cO);have hs:=P8 (t.args.map fun a=>(cm L a).1) 0 (n:=t.args.length) (by simp) hk;rw[←hs];have hlen:((t.args.map fun a=>(cm L a).1).take k++List.replicate (t.args.length-k) (0:Int)).length=t.args.length:=by simp;omega
   have Bo:(t.args.map fun a=>(cm L a).1)[k]'(by simpa using hk)=(cm L t.args[k]).1:=by simp
   rw[Bo];generalize (t.args.map fun a=>(cm L a).1).take k++List.replicate (t.args.length-k) (0:Int)=A at*;simp[hk] at ho;rw[ho] at gy;generalize (cm L t.args[k]).1=kd at*;simp[PM,Dh,hk];refine⟨_,gy,?_⟩;simp[hlen,hk,hw,ints]
  ·have cO:=cr hk;have gy:=Qe L t.args[k] (ht.arg cO) (hp _ cO);have hf:cm (L+1) t=(0,(cm L (t.args.getD k default)).2):=by
    rw[Kw,hb,if_pos ho]
   rw[hf];simp[hk] at ho ⊢;simp[PM,Dh,hk];refine⟨_,gy,?_⟩;simp[ho]
  ·have hf:cm (L+1) t=u9 t (t.args.map fun a=>(cm L a).1):=by
    rw[Kw,hj];simp
   rw[hf]
   have e0:(t.args.map fun a=>(cm L a).1).take t.args.length++List.replicate (t.args.length-t.args.length) 0=t.args.map fun a=>(cm L a).1:=by
    rw[JA,wq (by simp)];simp
   rw[e0];have VD:(t.args.map fun a=>(cm L a).1).length=t.args.length:=by simp
   generalize (t.args.map fun a=>(cm L a).1)=ks at*;simp[PM,Dh];unfold u9;by_cases h1:t.op<0
   ·simp[h1]
   by_cases h2:13<t.op
   ·simp[h1,h2]
   simp[h1,h2];by_cases h3:t.op=0∨t.op=1∨t.op=2
   ·have jV:(t.op=0∨t.op=1)∨t.op=2:=by omega
    simp[h3,jV];refine⟨_,ape t,?_⟩;simp
   have jV:¬((t.op=0∨t.op=1)∨t.op=2):=by omega
   simp[h3,jV];refine⟨_,apg _,?_⟩;have hsl:=aoR t.op;generalize eh t.op=sh at*;simp;by_cases h4:ks.length=sh.1.length
   case neg=>
    have na:¬((ks.length:Int)=sh.1.length):=by omega
    have F2:¬t.args.length=sh.1.length:=by omega
    simp[h4,na,F2]
   have na:(ks.length:Int)=sh.1.length:=by omega
   have F2:t.args.length=sh.1.length:=by omega
   by_cases h5:t.n=0
   case neg=>simp[h4,na,F2,h5]
   simp[h4,na,F2,h5];refine kK sh.1.length (mg sh.1 ks) (fun k=>[.int 0,.int 0,.int (lG sh.1 ks k),.int k]) (fun _=>[]) ?_ (fun k hk ho=>?_) (fun k hk ho hb=>?_) (fun hj=>?_)
   ·simp[lG]
   ·have hw:=bA hk (by omega);have cn:k<ks.length:=by omega
    simp only[lG];unfold mg at ho;simp only[aI,aZ hk,aZ cn,kW] at ho ⊢;generalize lG sh.1 ks k=c at*;by_cases a1:sh.1[k]=-1
    ·by_cases a2:c=-1
     ·simp[y9,sL,hk,cn,hw,ints,a1,a2]
     ·simp[a1,a2] at ho;simp[y9,sL,hk,cn,hw,ints,a1,a2,ho]
    ·simp[a1] at ho;simp[y9,sL,hk,cn,hw,ints,a1,ho]
   ·rw[hb];have cn:k<ks.length:=by omega
    unfold mg at ho;simp only[aI,aZ hk,aZ cn,kW] at ho;generalize lG sh.1 ks k=c at*;by_cases a1:sh.1[k]=-1
    ·by_cases a2:c=-1
     ·simp[a1,a2] at ho
     ·simp[a1,a2] at ho;simp[y9,sL,hk,cn,ints,a1,a2,ho]
    ·simp[a1] at ho;simp[y9,sL,hk,cn,ints,a1,ho]
   ·rw[hj];simp[y9,sL];by_cases a1:sh.2=-1<;>simp[a1]
def lW (t:Tm):Int×Int:=if 60<cJ 8 t then(0,6) else cm 8 t
theorem aa5 (t:Tm)(ht:t.OK):ak T 190 [dm t] (.tup [.int (lW t).1,.int (lW t).2]):=by
 refine .of_tree rfl (lA 81 (by kernel_rfl)) aq8 ?_;simp[RT,lW];refine⟨_,Qf 8 t 1 ht (by omega) (by omega),?_⟩;by_cases h:60<cJ 8 t
 ·simp[h]
 simp[h];refine⟨_,Qe 8 t ht (by omega),?_⟩;simp
end Rm
namespace Rm
open Go Go.Proofs Cx
abbrev u (n:Nat):D:=.v (.int .u64 n)
theorem abn (n:Int):IntKind.u64.wrap n=n%18446744073709551616:=rfl
theorem DM {n:Int}(h:0≤n∧n<18446744073709551616):IntKind.u64.wrap n=n:=by
 rw[abn];omega
theorem vS {n:Nat}(h:n<18446744073709551616):IntKind.u64.wrap (n:Int)=n:=DM (by omega)
theorem aoS (a s:Nat)(h:s≤64):cB .shr .u64 a s=((a/2^s:Nat):Int):=by
 show Int.fdiv (a:Int) (2^(min (s:Int).toNat 64))=_;have:min (s:Int).toNat 64=s:=by simp;omega
 rw[this,abD _ (Int.le_of_lt (Int.pow_pos (by decide)))];rw[Int.natCast_ediv,Int.natCast_pow];rfl
theorem JI (a:Nat)(h:a<18446744073709551616):cB .and .u64 a 4294967295=((a%4294967296:Nat):Int):=by
 show IntKind.u64.wrap ((BitVec.ofInt 64 (a:Int)&&& BitVec.ofInt 64 4294967295).toNat:Nat)=_;have e:(BitVec.ofInt 64 (a:Int)&&& BitVec.ofInt 64 4294967295).toNat=a%4294967296:=by
  rw[BitVec.toNat_and];have e1:(BitVec.ofInt 64 (a:Int)).toNat=a:=by simp[BitVec.ofInt,BitVec.toNat_ofNat];omega
  have e2:(BitVec.ofInt 64 4294967295).toNat=2^32-1:=by decide
  rw[e1,e2,Nat.and_two_pow_sub_one_eq_mod]
 rw[e,vS (by omega)]
@[simp] theorem zg (a:Nat):cB .shr .u64 a 32=((a/4294967296:Nat):Int):=aoS a 32 (by decide)
set_option maxHeartbeats 2000000 in
theorem aml (a b:Nat)(ha:a<18446744073709551616)(hb:b<18446744073709551616):ak T 134 [u a,u b] (.tup [u (a*b/18446744073709551616),u (a*b%18446744073709551616)]):=by
 refine .of_tree rfl (lA 95 (by kernel_rfl)) apF ?_;obtain⟨h1,h2,h3,h4⟩:=Go.Lib.mul64_hi a b ha hb;have elo:IntKind.u64.wrap ((a:Int)*(b:Int))=((a*b%18446744073709551616:Nat):Int):=by rw[abn,Int.natCast_emod,Int.natCast_mul];rfl
 have KM:cB .shr .u64 (a:Int) 32=((a/4294967296:Nat):Int):=zg a;have ea0:cB .and .u64 (a:Int) 4294967295=((a%4294967296:Nat):Int):=JI a ha;have KN:cB .shr .u64 (b:Int) 32=((b/4294967296:Nat):Int):=zg b;have eb0:cB .and .u64 (b:Int) 4294967295=((b%4294967296:Nat):Int):=JI b hb;have awU:=Go.Lib.half_mul_le (a:=a/4294967296) (b:=b/4294967296) (by omega) (by omega);have awT:=Go.Lib.half_mul_le (a:=a/4294967296) (b:=b%4294967296) (by omega) (by omega);have awS:=Go.Lib.half_mul_le (a:=a%4294967296) (b:=b/4294967296) (by omega) (by omega);have awR:=Go.Lib.half_mul_le (a:=a%4294967296) (b:=b%4294967296) (by omega) (by omega);have LK:a*b/18446744073709551616<18446744073709551616:=by
  have:a*b<18446744073709551616*18446744073709551616:=Nat.mul_lt_mul'' ha hb;exact Nat.div_lt_of_lt_mul this
 simp only[Qx];generalize a/4294967296=a1 at*;generalize a%4294967296=a0 at*;generalize b/4294967296=b1 at*;generalize b%4294967296=b0 at*;have p11:IntKind.u64.wrap ((a1:Int)*(b1:Int))=((a1*b1:Nat):Int):=by rw[←Int.natCast_mul];exact vS (by omega)
 have p10:IntKind.u64.wrap ((a1:Int)*(b0:Int))=((a1*b0:Nat):Int):=by rw[←Int.natCast_mul];exact vS (by omega)
 have p01:IntKind.u64.wrap ((a0:Int)*(b1:Int))=((a0*b1:Nat):Int):=by rw[←Int.natCast_mul];exact vS (by omega)
 have p00:IntKind.u64.wrap ((a0:Int)*(b0:Int))=((a0*b0:Nat):Int):=by rw[←Int.natCast_mul];exact vS (by omega)
 rw[←h4] at LK ⊢;generalize a1*b1=P at*;generalize a1*b0=Q at*;generalize a0*b1=R at*;generalize a0*b0=S at*;have s1:cB .shr .u64 (S:Int) 32=((S/4294967296:Nat):Int):=zg S;have s2:IntKind.u64.wrap ((Q:Int)+((S/4294967296:Nat):Int))=((Q+S/4294967296:Nat):Int):=by rw[DM (by omega)];omega
 generalize S/4294967296=S1 at*;generalize hT:Q+S1=TT at*;have s3:cB .shr .u64 (TT:Int) 32=((TT/4294967296:Nat):Int):=zg TT;have s4:cB .and .u64 (TT:Int) 4294967295=((TT%4294967296:Nat):Int):=JI TT (by omega);have s5:IntKind.u64.wrap (((TT%4294967296:Nat):Int)+(R:Int))=((TT%4294967296+R:Nat):Int):=by rw[DM (by omega)];omega
 generalize hU:TT%4294967296+R=U at*;have s6:cB .shr .u64 (U:Int) 32=((U/4294967296:Nat):Int):=zg U;have s7:IntKind.u64.wrap ((P:Int)+((TT/4294967296:Nat):Int))=((P+TT/4294967296:Nat):Int):=by rw[DM (by omega)];omega
 have s8:IntKind.u64.wrap (((P+TT/4294967296:Nat):Int)+((U/4294967296:Nat):Int))=((P+TT/4294967296+U/4294967296:Nat):Int):=by rw[DM (by omega)];omega
 simp[-zg,-Int.natCast_add,-Int.natCast_mul,-Int.natCast_ediv,-Int.natCast_emod,elo,KM,ea0,KN,eb0,p11,p10,p01,p00,s1,s2,s3,s4,s5,s6,s7,s8]
def qO (m:Nat):Int:=if m<1099511627776 then m else 1099511627776
def yM (a b:Int):Int:=if(decide (a<0)!=decide (b<0))=true then-qO (a.natAbs*b.natAbs) else qO (a.natAbs*b.natAbs)
theorem Zn (m:Nat):0≤qO m∧qO m≤1099511627776:=by unfold qO;split<;>omega
set_option maxHeartbeats 1000000 in
theorem apf (a b:Int)(ha:-1099511627776≤a∧a≤1099511627776)(hb:-1099511627776≤b∧b≤1099511627776):ak T 269 [.int a,.int b] (.int (yM a b)):=by
 refine .of_tree rfl (lA 94 (by kernel_rfl)) ark ?_;have wa:IntKind.u64.wrap (a.natAbs:Int)=a.natAbs:=vS (by omega);have wb:IntKind.u64.wrap (b.natAbs:Int)=b.natAbs:=vS (by omega);have w0a:IntKind.i64.wrap (0-a)=-a:=by rw[bE (by omega)];omega
 have w0b:IntKind.i64.wrap (0-b)=-b:=by rw[bE (by omega)];omega
 have arK:IntKind.i64.wrap (-a)=-a:=bE (by omega);have arL:IntKind.i64.wrap (-b)=-b:=bE (by omega);have ea:(if a< -a then D.int (-a) else D.int a)=D.int a.natAbs:=by split<;>congr 1<;>omega
 have eb:(if b< -b then D.int (-b) else D.int b)=D.int b.natAbs:=by split<;>congr 1<;>omega
 have ea':(if a< -a then-a else a)=(a.natAbs:Int):=by split<;>omega
 have eb':(if b< -b then-b else b)=(b.natAbs:Int):=by split<;>omega
 simp[R2,arK,arL,ea,eb,ea',eb'];rw[wa,wb];refine⟨_,aml a.natAbs b.natAbs (by omega) (by omega),?_⟩;unfold yM;generalize a.natAbs*b.natAbs=m;have hs:(decide (a<0)!=decide (b<0))=false↔(a<0↔b<0):=by
  by_cases h1:a<0<;>by_cases h2:b<0<;>simp[h1,h2]
 have key:((if((m/18446744073709551616:Nat):Int)=0∧((m%18446744073709551616:Nat):Int)<1099511627776 then IntKind.i64.wrap ((m%18446744073709551616:Nat):Int) else 1099511627776):Int)=qO m:=by
  unfold qO;by_cases hm:m<1099511627776
  ·have h1:m/18446744073709551616=0:=by omega
   have h2:m%18446744073709551616=m:=by omega
   rw[h1,h2,if_pos ⟨rfl,by omega⟩,if_pos hm,bE (by omega)]
  ·rw[if_neg hm,if_neg];rintro⟨h1,h2⟩;omega
 have ec:=Zn m;have ajT:(if((m/18446744073709551616:Nat):Int)=0∧((m%18446744073709551616:Nat):Int)<1099511627776 then D.int (IntKind.i64.wrap ((m%18446744073709551616:Nat):Int)) else D.int 1099511627776)=D.int (qO m):=by
  rw[←key];split<;>rfl
 show(if a<0↔b<0 then(if((m/18446744073709551616:Nat):Int)=0∧((m%18446744073709551616:Nat):Int)<1099511627776 then D.int (IntKind.i64.wrap ((m%18446744073709551616:Nat):Int)) else D.int 1099511627776)=_ else
  IntKind.i64.wrap (-(if((m/18446744073709551616:Nat):Int)=0∧((m%18446744073709551616:Nat):Int)<1099511627776 then IntKind.i64.wrap ((m%18446744073709551616:Nat):Int) else 1099511627776))=_)
 rw[ajT,key];generalize qO m=n at*;split
 ·rename_i h;rw[hs.2 h];simp
 ·rename_i h;have:(decide (a<0)!=decide (b<0))=true:=by
   cases e:(decide (a<0)!=decide (b<0)) with
   |true=>rfl
   |false=>exact absurd (hs.1 e) h
  rw[this,bE (by omega)];simp
def wy (op a b:Int):Int:=if op=9 then m0 (a+b) else if op=10 then m0 (a-b) else if op=11 then yM a b else if op=12 then min a b else max a b
theorem apc (op a b:Int)(ha:-1099511627776≤a∧a≤1099511627776)(hb:-1099511627776≤b∧b≤1099511627776):ak T 253 [.int op,.int a,.int b] (.int (wy op a b)):=by
 refine .of_tree rfl (lA 93 (by kernel_rfl)) arb ?_;have w1:IntKind.i64.wrap (a+b)=a+b:=bE (by omega);have w2:IntKind.i64.wrap (a-b)=a-b:=bE (by omega);simp[RW,wy,w1,w2];by_cases h1:op=9
 ·simp[h1];exact I4 _
 by_cases h2:op=10
 ·simp[h1,h2];exact I4 _
 by_cases h3:op=11
 ·simp[h1,h2,h3];exact apf a b ha hb
 by_cases h4:op=12
 ·simp[h1,h2,h3,h4];by_cases h5:b<a<;>simp[h5]<;>omega
 simp[h1,h2,h3,h4];by_cases h5:b>a<;>simp[h5]<;>omega
def fU (b:Bool):Cell:=if b then⟨true,1⟩ else⟨true,0⟩
theorem sW (b:Bool):ak T 251 [.bool b] (cM (fU b)):=by
 refine .of_tree rfl (lA 91 (by kernel_rfl)) arn ?_;cases b<;>simp[R4,fU]<;>rfl
def dT:Cell:=⟨false,0⟩
@[simp] theorem axO:D.agg [.bool false,.int 0]=cM dT:=_root_.id rfl
@[simp] theorem axP:dT.known=false:=rfl
@[simp] theorem axQ:dT.n=0:=rfl
def cellAt (cs:List Cell)(v:Int):Cell:=cs.getD v.toNat default
def kf (cs:List Cell)(v:Int):Cell:=if cs.length≤v.toNat∨(cellAt cs v).known=false then dT else if(kP v).1=1 then fU (decide ((cellAt cs v).n≠0)) else⟨true,m0 (cellAt cs v).n⟩
abbrev KP (cs:List Cell):D:=.agg [cells cs]
theorem aph (cs:List Cell)(v:Int)(hv:0≤v):ak T 226 [KP cs,.int v] (cM (kf cs v)):=by
 refine .of_tree rfl (lA 90 (by kernel_rfl)) arj ?_;obtain⟨k,rfl⟩:=mL hv;simp[R1,kf,cellAt];by_cases h1:cs.length≤k
 ·simp[h1]
 have cN:k<cs.length:=by omega
 simp[h1,cN];cases h2:cs[k].known
 ·simp[h2]
 simp[h2];refine⟨_,aa6 _,?_⟩;by_cases h3:(kP k).1=1
 ·simp[h3,cN];refine⟨_,sW _,?_⟩;simp;rfl
 ·simp[h3,cN];refine⟨_,I4 _,?_⟩;simp;rfl
@[simp] theorem axb (a b:Int):(a==b)=decide (a=b):=_root_.id rfl
@[simp] theorem axc (a b:Int):(a !=b)= !decide (a=b):=_root_.id rfl
def bf (l:List Cell)(k:Nat):Cell:=l.getD k default
def fY (op:Int)(l:List Cell):Cell:=
 if op=3 then(if(bf l 0).known=true then fU (decide ((bf l 0).n=0)) else dT)
 else if(op=4∨op=5)∧(bf l 0=fU (decide (op=5))∨bf l 1=fU (decide (op=5))) then fU (decide (op=5))
 else if op=6 then(if(bf l 1).known=true∧bf l 1=bf l 2 then bf l 1 else dT)
 else if(bf l 0).known=false∨(bf l 1).known=false then dT
 else if op=4∨op=5 then fU (decide (op=4))
 else if op=7 then fU (decide ((bf l 0).n<(bf l 1).n)) else if op=8 then fU (decide ((bf l 0).n=(bf l 1).n)) else⟨true,wy op (bf l 0).n (bf l 1).n⟩
theorem ada (a b:Cell):a=b↔a.known=b.known∧a.n=b.n:=by cases a;cases b;simp
theorem apd (op:Int)(l:List Cell)(h1:1≤l.length)(h2:op≠3→2≤l.length)(h3:op=6→3≤l.length)
 (hb:9≤op→(-1099511627776≤(bf l 0).n∧(bf l 0).n≤1099511627776)∧(-1099511627776≤(bf l 1).n∧(bf l 1).n≤1099511627776)) (h9:op<3∨8<op→9≤op):
 ak T 227 [.int op,cells l] (cM (fY op l)):=by
 refine .of_tree rfl (lA 92 (by kernel_rfl)) ard ?_;have g0:0<l.length:=by omega
 have tZ:l[0]=bf l 0:=by simp[bf,g0]
 simp[RY];unfold fY;by_cases o3:op=3
 ·simp[o3,g0,tZ];cases e:(bf l 0).known
  ·simp
  ·simp[g0];refine⟨_,sW _,?_⟩;simp
 have g1:1<l.length:=by have:=h2 o3;omega
 have AY:l[1]=bf l 1:=by simp[bf,g1]
 have ic:(1:Int)<l.length:=by omega
 simp[o3];have fin:∀a b:Cell,(a=b)=(a.known=b.known∧a.n=b.n):=fun a b=>propext (ada a b);rcases DQ (op=4) with o4|o4
 ·subst o4;simp;refine⟨_,sW _,?_⟩;simp[g0,g1,ic,tZ,AY,fin];split
  ·rfl
  ·split
   ·rfl
   ·refine⟨_,sW _,?_⟩;simp
 rcases DQ (op=5) with o5|o5
 ·subst o5;simp;refine⟨_,sW _,?_⟩;simp[g0,g1,ic,tZ,AY,fin];split
  ·rfl
  ·split
   ·rfl
   ·refine⟨_,sW _,?_⟩;simp
 rcases DQ (op=6) with o6|o6
 ·subst o6;have g2:2<l.length:=by have:=h3 rfl;omega
  have gg2:l[2]=bf l 2:=by simp[bf,g2]
  have rF:(2:Int)<l.length:=by omega
  simp[g1,g2,ic,rF,AY,gg2,fin];cases e1:(bf l 1).known
  ·simp
  by_cases e2:(bf l 1).known=(bf l 2).known∧(bf l 1).n=(bf l 2).n
  ·rw[e1] at e2;simp[e1,e2]
  ·rw[e1] at e2;have rA:¬((bf l 2).known=true∧(bf l 1).n=(bf l 2).n):=fun h=>e2 ⟨h.1.symm,h.2⟩;simp only[e1,true_and,if_true]
   first|(rw[if_neg rA,if_neg rA])|(simp[rA])
 simp[o4,o5,o6,g0,g1,ic,tZ,AY];cases e1:(bf l 0).known
 ·simp
 cases e2:(bf l 1).known
 ·simp
 simp[g1,ic,AY];rcases DQ (op=7) with o7|o7
 ·subst o7;simp;refine⟨_,sW _,?_⟩;simp
 rcases DQ (op=8) with o8|o8
 ·subst o8;simp;refine⟨_,sW _,?_⟩;simp
 simp[o7,o8];obtain⟨b1,b2⟩:=hb (h9 (by omega));refine⟨_,apc op _ _ b1 b2,?_⟩;simp;rfl
end Rm
namespace Rm
open Go Go.Proofs Cx
def bl (x L:Nat):Prop:=(L=0→x=0)∧(0<L→2^(L-1)≤x)∧x<2^L∧L≤64
end Rm
namespace Rm
open Go Go.Proofs Cx
end Rm
namespace Rm
open Go Go.Proofs Cx
def bJ:Nat→List Cell→Tm→Cell
 |0,_,_=>dT
 |L+1,cs,t=>if t.op=0∨t.op=1 then⟨true,t.n⟩ else if t.op=2 then kf cs t.n else
   if t.op=6∧(bf (t.args.map (bJ L cs)) 0).known=true then bf (t.args.map (bJ L cs)) (2-(bf (t.args.map (bJ L cs)) 0).n).toNat else fY t.op (t.args.map (bJ L cs))
def dC:Nat→List Cell→Tm→List Int
 |0,_,_=>[]
 |L+1,cs,t=>if t.op=0∨t.op=1 then[] else if t.op=2 then(if(kf cs t.n).known=true then[] else[t.n]) else
   if t.op=6∧(bf (t.args.map (bJ L cs)) 0).known=true then(t.args.map (dC L cs)).getD (2-(bf (t.args.map (bJ L cs)) 0).n).toNat [] else
   if(fY t.op (t.args.map (bJ L cs))).known=true then[] else(t.args.map (dC L cs)).flatten
theorem FF (L:Nat)(cs:List Cell)(t:Tm):bJ (L+1) cs t=if t.op=0∨t.op=1 then⟨true,t.n⟩ else if t.op=2 then kf cs t.n else
 if t.op=6∧(bf (t.args.map (bJ L cs)) 0).known=true then bf (t.args.map (bJ L cs)) (2-(bf (t.args.map (bJ L cs)) 0).n).toNat else fY t.op (t.args.map (bJ L cs)):=rfl
theorem He (L:Nat)(cs:List Cell)(t:Tm):dC (L+1) cs t=if t.op=0∨t.op=1 then[] else if t.op=2 then(if(kf cs t.n).known=true then[] else[t.n]) else
 if t.op=6∧(bf (t.args.map (bJ L cs)) 0).known=true then(t.args.map (dC L cs)).getD (2-(bf (t.args.map (bJ L cs)) 0).n).toNat [] else
 if(fY t.op (t.args.map (bJ L cs))).known=true then[] else(t.args.map (dC L cs)).flatten:=rfl
theorem Ky {L:Nat}{t:Tm}{k:Int}(h:cm (L+1) t=(k,0)):(∀a,a∈t.args→(cm L a).2=0)∧u9 t (t.args.map fun a=>(cm L a).1)=(k,0):=by
 rw[Kw] at h;by_cases e:eL t.args.length (fun k=>(cm L (t.args.getD k default)).2)=0
 ·rw[if_neg (by simpa using e)] at h;refine⟨fun a ha=>?_,h⟩;obtain⟨j,hj,rfl⟩:=eZ ha;have:=FL.1 e j hj;simpa [hj] using this
 ·rw[if_pos e] at h;injection h with _ h
  exact absurd h e
inductive Node (ks:List Int) (t:Tm):Int→Prop where
 |int (h:t.op=0) (ha:t.args=[]) (hn:-1099511627776≤t.n∧t.n≤1099511627776):Node ks t 0
 |bool (h:t.op=1) (ha:t.args=[]) (hn:t.n=0∨t.n=1):Node ks t 1
 |var (h:t.op=2) (ha:t.args=[]) (hn:0≤t.n∧t.n≤19):Node ks t (kP t.n).1
 |not (h:t.op=3) (hk:ks=[1]):Node ks t 1
 |log (h:t.op=4∨t.op=5) (hk:ks=[1,1]):Node ks t 1
 |ite (k:Int) (h:t.op=6) (hk:ks=[1,k,k]):Node ks t k
 |less (h:t.op=7) (hk:ks=[0,0]):Node ks t 1
 |equal (k:Int) (h:t.op=8) (hk:ks=[k,k]):Node ks t 1
 |num (h:9≤t.op∧t.op≤13) (hk:ks=[0,0]):Node ks t 0
theorem arG (v:Int):(kP v).1=0∨(kP v).1=1:=by
 unfold kP;repeat' split
 all_goals simp
theorem amv {t:Tm}{ks:List Int}{k:Int}(hl:ks.length=t.args.length)(gG:∀x,x∈ks→x=0∨x=1)(h:u9 t ks=(k,0)):Node ks t k:=by
 unfold u9 at h;split at h
 ·injection h with _ h;cases h
 rename_i dA;split at h
 ·rename_i h3;unfold Cd at h;split at h
  ·injection h with _ h;cases h
  rename_i ha0;have ha:t.args=[]:=SO (by omega);split at h
  ·rename_i h0;split at h
   ·injection h with _ h;cases h
   ·rename_i hc;injection h with h _
    subst h;refine .int h0 ha ?_;unfold m0 at hc;omega
  split at h
  ·rename_i h0;split at h
   ·injection h with _ h;cases h
   ·rename_i hc;injection h with h _
    subst h;exact .bool h0 ha (by omega)
  split at h
  ·injection h with _ h;cases h
  ·rename_i g0 g1 hc;injection h with h _
   subst h;refine .var (by omega) ha ?_;unfold kP at hc;split at hc
   ·simp at hc
   ·omega
 rename_i h3;split at h
 ·injection h with _ h;cases h
 rename_i hlen;have l8:ks.length=(eh t.op).1.length:=by
  refine SI fun hh=>hlen (.inl hh)
 split at h
 ·injection h with _ h;cases h
 rename_i ar;have iw:∀j,j<(eh t.op).1.length→mg (eh t.op).1 ks j=true:=zN.1 (by simpa using ar)
 have two:∀{n:Nat},ks.length=2→∃a b,ks=[a,b]:=fun h=>by
  match ks,h with
  |[a,b],_=>exact⟨a,b,rfl⟩
 by_cases o3:t.op=3
 ·have e:eh t.op=([1],1):=by simp[eh,o3]
  rw[e] at l8 iw h
  match ks,l8 with
  |[a],_=>
   have:=iw 0 (by simp);simp[mg] at this;simp at h;subst h this;exact .not o3 rfl
 by_cases Hj:t.op=4∨t.op=5
 ·have e:eh t.op=([1,1],1):=by simp[eh,o3,Hj]
  rw[e] at l8 iw h
  match ks,l8 with
  |[a,b],_=>
   have t1:=iw 0 (by simp);have t2:=iw 1 (by simp);simp[mg] at t1 t2;simp at h;subst h t1 t2;exact .log Hj rfl
 by_cases o6:t.op=6
 ·have e:eh t.op=([1,-1,-1],-1):=by simp[eh,o6]
  rw[e] at l8 iw h
  match ks,l8,gG with
  |[a,b,c],_,gG=>
   have t1:=iw 0 (by simp);have t3:=iw 2 (by simp);have hb:=gG b (by simp);have oC:¬b=-1:=by omega
   simp[mg] at t1;simp[mg,lG,oC] at t3;simp[lG,oC] at h;subst h t1 t3;exact .ite _ o6 rfl
 by_cases o7:t.op=7
 ·have e:eh t.op=([0,0],1):=by simp[eh,o7]
  rw[e] at l8 iw h
  match ks,l8 with
  |[a,b],_=>
   have t1:=iw 0 (by simp);have t2:=iw 1 (by simp);simp[mg] at t1 t2;simp at h;subst h t1 t2;exact .less o7 rfl
 by_cases o8:t.op=8
 ·have e:eh t.op=([-1,-1],1):=by simp[eh,o8]
  rw[e] at l8 iw h
  match ks,l8,gG with
  |[a,b],_,gG=>
   have t2:=iw 1 (by simp);have ha:=gG a (by simp);have han:¬a=-1:=by omega
   simp[mg,lG,han] at t2;simp at h;subst h t2;exact .equal _ o8 rfl
 have e:eh t.op=([0,0],0):=by simp[eh,o3,Hj,o6,o7,o8]
 rw[e] at l8 iw h
 match ks,l8 with
 |[a,b],_=>
  have t1:=iw 0 (by simp);have t2:=iw 1 (by simp);simp[mg] at t1 t2;simp at h;subst h t1 t2;exact .num (by omega) rfl
theorem Kz:∀{L:Nat} {t:Tm} {k:Int},cm (L+1) t=(k,0)→Node (t.args.map fun a=>(cm L a).1) t k∧(k=0∨k=1)
 |L,t,k,h=>by
  obtain⟨h1,h2⟩:=Ky h
  have gG:∀x,x∈(t.args.map fun a=>(cm L a).1)→x=0∨x=1:=by
   intro x hx;obtain⟨a,ha,rfl⟩:=cX.1 hx;cases L with
   |zero=>exact .inl rfl
   |succ L=>exact(Kz (L:=L) (t:=a) (k:=(cm (L+1) a).1) (by rw[←h1 a ha])).2
  have hn:=amv (by simp) gG h2;refine⟨hn,?_⟩;cases hn with
  |int=>simp
  |bool=>simp
  |var=>exact arG _
  |not=>simp
  |log=>simp
  |ite k _ hk=>exact gG k (by rw[hk];simp)
  |less=>simp
  |equal=>simp
  |num=>simp
end Rm
namespace Rm
open Go Go.Proofs Cx
def tq (k:Int)(c:Cell):Prop:=(c.known=false→c=dT)∧(c.known=true→(k=1→c.n=0∨c.n=1)∧(k=0→-1099511627776≤c.n∧c.n≤1099511627776))
theorem sN (k:Int):tq k dT:=⟨fun _=>rfl,fun h=>by cases h⟩
theorem zd (b:Bool):tq 1 (fU b):=⟨fun h=>(by cases b<;>cases h),fun _=>⟨fun _=>(by cases b<;>simp[fU]),fun h=>by cases h⟩⟩
theorem KF (n:Int):-1099511627776≤m0 n∧m0 n≤1099511627776:=by unfold m0;omega
theorem aou (cs:List Cell)(v:Int)(hv:0≤v∧v≤19):tq (kP v).1 (kf cs v):=by
 unfold kf;split
 ·exact sN _
 ·split
  ·rename_i h;rw[h];exact zd _
  ·rename_i h;refine⟨fun h=>(by cases h),fun _=>⟨fun h'=>absurd h' h,fun _=>KF _⟩⟩
theorem anu (a b:Int):-1099511627776≤yM a b∧yM a b≤1099511627776:=by
 unfold yM;have:=Zn (a.natAbs*b.natAbs);split<;>omega
theorem aci (op a b:Int)(ha:-1099511627776≤a∧a≤1099511627776)(hb:-1099511627776≤b∧b≤1099511627776):-1099511627776≤wy op a b∧wy op a b≤1099511627776:=by
 unfold wy;split
 ·exact KF _
 split
 ·exact KF _
 split
 ·exact anu _ _
 split<;>omega
theorem al4 {α β:Type}{f:α→β}{l:List α}{x:β}(h:l.map f=[x]):∃a,l=[a]∧f a=x:=by
 match l,h with
 |[a],h=>exact⟨a,rfl,by simpa using h⟩
theorem yy {α β:Type}{f:α→β}{l:List α}{x y:β}(h:l.map f=[x,y]):∃a b,l=[a,b]∧f a=x∧f b=y:=by
 match l,h with
 |[a,b],h=>exact⟨a,b,rfl,by simpa using h⟩
theorem Nk {α β:Type}{f:α→β}{l:List α}{x y z:β}(h:l.map f=[x,y,z]):∃a b c,l=[a,b,c]∧f a=x∧f b=y∧f c=z:=by
 match l,h with
 |[a,b,c],h=>exact⟨a,b,c,rfl,by simpa using h⟩
theorem Up:∀{L:Nat} {t:Tm} {k:Int} (cs:List Cell),cm L t=(k,0)→tq k (bJ L cs t)
 |0,t,k,cs,h=>sN _
 |L+1,t,k,cs,h=>by
  obtain⟨hn,hk⟩:=Kz h;obtain⟨ha,_⟩:=Ky h;have ih:∀a,a∈t.args→tq (cm L a).1 (bJ L cs a):=fun a hm=>Up cs (show cm L a=((cm L a).1,0) by rw[←ha a hm]);rw[FF];cases hn with
  |int h0 ha hn=>rw[if_pos (.inl h0)];exact⟨fun h=>(by cases h),fun _=>⟨fun h=>(by cases h),fun _=>hn⟩⟩
  |bool h0 ha hn=>rw[if_pos (.inr h0)];exact⟨fun h=>(by cases h),fun _=>⟨fun _=>hn,fun h=>by cases h⟩⟩
  |var h0 ha hn=>rw[if_neg (by omega),if_pos h0];exact aou cs _ hn
  |not h0 hk=>
   rw[if_neg (by omega),if_neg (by omega),if_neg (by omega)];unfold fY;rw[if_pos h0];split
   ·exact zd _
   ·exact sN _
  |log h0 hk=>
   rw[if_neg (by omega),if_neg (by omega),if_neg (by omega)];unfold fY;rw[if_neg (by omega)];split
   ·exact zd _
   rw[if_neg (by omega)];split
   ·exact sN _
   exact zd _
  |ite k h0 cn=>
   obtain⟨a,b,c,hl,e1,e2,e3⟩:=Nk cn;rw[hl] at ih ⊢;have r1:=ih a (by simp);have r2:=ih b (by simp);have r3:=ih c (by simp);rw[e1] at r1;rw[e2] at r2;rw[e3] at r3;rw[if_neg (by omega),if_neg (by omega)];simp only[fo,List.map_nil,bf,rh];split
   ·rename_i hh;rcases(r1.2 hh.2).1 rfl with h1|h1<;>rw[h1]
    ·exact r3
    ·exact r2
   ·unfold fY;rw[if_neg (by omega),if_neg (by omega),if_pos h0];simp only[bf,rh,DW];split
    ·exact r2
    ·exact sN _
  |less h0 hk=>
   rw[if_neg (by omega),if_neg (by omega),if_neg (by omega)];unfold fY;rw[if_neg (by omega),if_neg (by omega),if_neg (by omega)];split
   ·exact sN _
   repeat' split
   all_goals exact zd _
  |equal k h0 hk=>
   rw[if_neg (by omega),if_neg (by omega),if_neg (by omega)];unfold fY;rw[if_neg (by omega),if_neg (by omega),if_neg (by omega)];split
   ·exact sN _
   repeat' split
   all_goals exact zd _
  |num h0 cn=>
   obtain⟨a,b,hl,e1,e2⟩:=yy cn;rw[hl] at ih ⊢;have r1:=ih a (by simp);have r2:=ih b (by simp);rw[e1] at r1;rw[e2] at r2;rw[if_neg (by omega),if_neg (by omega),if_neg (by omega)];unfold fY;rw[if_neg (by omega),if_neg (by omega),if_neg (by omega)];simp only[fo,List.map_nil,bf,rh,DW];split
   ·exact sN _
   rename_i Bv;rw[if_neg (by omega),if_neg (by omega),if_neg (by omega)];have k1:(bJ L cs a).known=true:=by
    cases e:(bJ L cs a).known with
    |true=>rfl
    |false=>exact absurd (.inl e) Bv
   have k2:(bJ L cs b).known=true:=by
    cases e:(bJ L cs b).known with
    |true=>rfl
    |false=>exact absurd (.inr e) Bv
   exact⟨fun h=>(by cases h),fun _=>⟨fun h=>(by cases h),fun _=>aci _ _ _ ((r1.2 k1).2 rfl) ((r2.2 k2).2 rfl)⟩⟩
theorem Xv:∀(L:Nat) (cs:List Cell) (t:Tm),cJ L t≤60→((dC L cs t).length:Int)≤cJ L t
 |0,cs,t,h=>by simp[cJ] at h
 |L+1,cs,t,h=>by
  have h1:=uY (L+1) t;obtain⟨hl,hp⟩:=Np h;have hs:∀(l:List Tm) (n:Int),(∀a,a∈l→cJ L a≤60)→eQ (cJ L) l n≤60→((l.map (dC L cs)).flatten.length:Int)+n≤eQ (cJ L) l n∧∀j,(((l.map (dC L cs)).getD j []).length:Int)+n≤eQ (cJ L) l n:=by
   intro l
   induction l with
   |nil=>intro n _ _;simp[eQ]
   |cons a l ih=>
    intro n hp hm;have ha:=Xv L cs a (hp a (by simp));unfold eQ at hm ⊢;split at hm
    ·omega
    ·rename_i h60;rw[if_neg h60];obtain⟨i1,i2⟩:=ih (n+cJ L a) (fun b hb=>hp b (by simp[hb])) hm;refine⟨by rw[fo,SQ,kV];omega,fun j=>?_⟩;cases j with
     |zero=>simp;omega
     |succ j=>have:=i2 j;simp at this ⊢;omega
  obtain⟨V3,dP⟩:=hs t.args 1 hp h;rw[He];split
  ·simp;omega
  split
  ·split<;>simp<;>omega
  split
  ·have:=dP (2-(bf (t.args.map (bJ L cs)) 0).n).toNat;show _≤eQ _ _ _;omega
  split
  ·simp;omega
  ·show _≤eQ _ _ _;omega
@[simp] theorem ayz (x y:List Int):sU (ints x) 0 (ints y)=ints y:=_root_.id rfl
@[simp] theorem ao1 (x y:Cell):sU (cM x) 0 (cM y)=cM y:=_root_.id rfl
@[simp] theorem axd (a b:List Int):D.list (a.map D.int++b.map D.int)=ints (a++b):=by simp[ints]
def lists (l:List (List Int)):D:=.list (l.map ints)
@[simp] theorem axp (l:List (List Int)):(lists l).l=l.map ints:=_root_.id rfl
theorem abq (l:List (List Int))(hl:l.length≤1000)(hs:l.flatten.length≤1000000):ak T 228 [lists l] (ints l.flatten):=by
 refine .of_tree rfl (lA 96 (by kernel_rfl)) aqR ?_;simp[RC];have hb:∀k,(l.take k).flatten.length≤l.flatten.length:=by
  intro k
  conv=>rhs;rw[←Jy k l]
  rw[List.flatten_append,kV];omega
 have bP:∀k (hk:k<l.length),(l.take (k+1)).flatten=(l.take k).flatten++l[k]:=fun k hk=>by
  rw[fL hk,List.flatten_append];simp
 refine aH.forRounds l.length (fun k=>[.int ((l.take k).flatten.length:Nat),.int k]) (fun k=>[]) ?_ (fun k hk=>?_) ?_
 ·simp
 ·have hw:=bA hk (by omega);have h1:=bP k hk;have h2:=hb (k+1);rw[h1] at h2 ⊢;rw[kV] at h2 ⊢;generalize (l.take k).flatten.length=m at*;have qB:IntKind.i64.wrap ((m:Int)+(l[k].length:Int))=(m:Int)+l[k].length:=bE (by omega);have BD:¬((m:Int)+l[k].length<0):=by omega
  simp[aap,Ix,hk,hw,qB,BD]
 ·simp[aap,Ix];have ir:ak T 254 [.list [],.int (l.flatten.length:Nat)] (.list []):=by
   refine .of_ext (g:=fun _ ds=>FU ds) rfl ⟨0,fun _ _=>?_⟩;show(if(0:Int)≤(l.flatten.length:Nat)∧((l.flatten.length:Nat):Int)≤4294967296 then some (D.list []) else none)=some (D.list []);rw[if_pos (by omega)]
  rw[List.length_flatten] at ir;refine⟨_,ir,?_⟩;refine aH.forRounds l.length (fun k=>[.none,.int k]) (fun k=>[ints (l.take k).flatten]) ?_ (fun k hk=>?_) ?_
  ·simp[ints]
  ·have hw:=bA hk (by omega);have h1:=bP k hk;have h2:=hb (k+1);rw[h1] at h2 ⊢;rw[kV] at h2;generalize (l.take k).flatten=m at*;simp[aaq,Iy,hk,hw];omega
  ·simp[aaq,Iy]
theorem adv {op:Int}{l:List Cell}(h:(fY op l).known=false):fY op l=dT:=by
 have hy:∀b,(fU b).known=true:=fun b=>by cases b<;>simp[fU]
 unfold fY at h ⊢;split<;>rename_i c1
 ·rw[if_pos c1] at h;split<;>rename_i c2
  ·rw[if_pos c2,hy] at h;cases h
  ·rfl
 rw[if_neg c1] at h;split<;>rename_i c2
 ·rw[if_pos c2,hy] at h;cases h
 rw[if_neg c2] at h;split<;>rename_i c3
 ·rw[if_pos c3] at h;split<;>rename_i c4
  ·rw[if_pos c4,c4.1] at h;cases h
  ·rfl
 rw[if_neg c3] at h;split<;>rename_i c4
 ·rfl
 rw[if_neg c4] at h
 repeat' split at h
 all_goals first|(rw[hy] at h;cases h)|cases h
theorem aa7:∀(L:Nat) (cs:List Cell) (t:Tm) (k:Int),t.OK→cJ L t≤60→cm L t=(k,0)→ak T 191 [KP cs,dm t] (.tup [cM (bJ L cs t),ints (dC L cs t)])
 |0,cs,t,k,ht,hm,hc=>by simp[cJ] at hm
 |L+1,cs,t,k,ht,hm,hc=>by
  refine .of_tree rfl (lA 89 (by kernel_rfl)) ari ?_;obtain⟨hl,hp⟩:=Np hm;obtain⟨ha,_⟩:=Ky hc;obtain⟨hn,awL⟩:=Kz hc;have gy:∀a,a∈t.args→ak T 191 [KP cs,dm a] (.tup [cM (bJ L cs a),ints (dC L cs a)]):=fun a eA=>aa7 L cs a (cm L a).1 (ht.arg eA) (hp a eA) (by rw[←ha a eA]);have BQ:∀a,a∈t.args→tq (cm L a).1 (bJ L cs a):=fun a eA=>Up cs (show cm L a=((cm L a).1,0) by rw[←ha a eA]);have VQ:∀a,a∈t.args→(dC L cs a).length≤60:=fun a eA=>by have:=Xv L cs a (hp a eA);have:=hp a eA;omega
  by_cases gG:t.op=0∨t.op=1
  ·
   have e1:bJ (L+1) cs t=⟨true,t.n⟩:=by rw[FF,if_pos gG]
   have e2:dC (L+1) cs t=[]:=by rw[He,if_pos gG]
   rw[e1,e2];rcases gG with h|h<;>simp[DI,h]<;>exact⟨rfl,rfl⟩
  have o0:t.op≠0:=fun h=>gG (.inl h);have o1:t.op≠1:=fun h=>gG (.inr h);by_cases o2:t.op=2
  ·have hv:0≤t.n:=by
    cases hn with
    |var h0 ha hn=>exact hn.1
    |_=>omega
   have e1:bJ (L+1) cs t=kf cs t.n:=by rw[FF,if_neg gG,if_pos o2]
   have e2:dC (L+1) cs t=if(kf cs t.n).known=true then[] else[t.n]:=by rw[He,if_neg gG,if_pos o2]
   rw[e1,e2];simp[DI,o2];refine⟨_,aph cs t.n hv,?_⟩;cases e:(kf cs t.n).known
   ·have:kf cs t.n=dT:=by
     unfold kf at e ⊢;split
     ·rfl
     ·rename_i h;rw[if_neg h] at e;split at e
      ·cases hb:decide ((cellAt cs t.n).n≠0)<;>rw[hb] at e<;>cases e
      ·cases e
    rw[this];simp[ints]
   ·have h:kf cs t.n=⟨true,(kf cs t.n).n⟩:=by rw[←e]
    rw[h];simp[ints]
    try rfl
  have hlen:1≤t.args.length∧(t.op≠3→2≤t.args.length)∧(t.op=6→3≤t.args.length):=by
   cases hn with
   |int h0 ha hn=>omega
   |bool h0 ha hn=>omega
   |var h0 ha hn=>omega
   |not h0 hk=>obtain⟨a,hl,_⟩:=al4 hk;rw[hl];simp;omega
   |log h0 hk=>obtain⟨a,b,hl,_⟩:=yy hk;rw[hl];simp;omega
   |ite k h0 hk=>obtain⟨a,b,c,hl,_⟩:=Nk hk;rw[hl];simp
   |less h0 hk=>obtain⟨a,b,hl,_⟩:=yy hk;rw[hl];simp;omega
   |equal k h0 hk=>obtain⟨a,b,hl,_⟩:=yy hk;rw[hl];simp;omega
   |num h0 hk=>obtain⟨a,b,hl,_⟩:=yy hk;rw[hl];simp;omega
  have hb9:9≤t.op→(-1099511627776≤(bf (t.args.map (bJ L cs)) 0).n∧(bf (t.args.map (bJ L cs)) 0).n≤1099511627776)∧(-1099511627776≤(bf (t.args.map (bJ L cs)) 1).n∧(bf (t.args.map (bJ L cs)) 1).n≤1099511627776):=by
   intro h9;have rb:∀c:Cell,tq 0 c→-1099511627776≤c.n∧c.n≤1099511627776:=by
    intro c hr;cases e:c.known with
    |false=>rw[hr.1 e];simp
    |true=>exact(hr.2 e).2 rfl
   cases hn with
   |num h0 hk=>
    obtain⟨a,b,hl,ea,eb⟩:=yy hk;rw[hl] at BQ ⊢;have r1:=BQ a (by simp);have r2:=BQ b (by simp);rw[ea] at r1;rw[eb] at r2;exact⟨rb _ r1,rb _ r2⟩
   |log h0 hk=>omega
   |_=>omega
  have h6:t.op=6→(bf (t.args.map (bJ L cs)) 0).known=true→(bf (t.args.map (bJ L cs)) 0).n=0∨(bf (t.args.map (bJ L cs)) 0).n=1:=by
   intro o6 Bv;cases hn with
   |ite k h0 hk=>
    obtain⟨a,b,c,hl,ea,_⟩:=Nk hk;rw[hl] at BQ Bv ⊢;have r1:=BQ a (by simp);rw[ea] at r1;exact(r1.2 Bv).1 rfl
   |log h0 hk=>omega
   |num h0 hk=>omega
   |_=>omega
  have dA:t.op<3∨8<t.op→9≤t.op:=by
   cases hn with
   |log h0 hk=>omega
   |num h0 hk=>omega
   |_=>omega
  have e1:bJ (L+1) cs t=if t.op=6∧(bf (t.args.map (bJ L cs)) 0).known=true then bf (t.args.map (bJ L cs)) (2-(bf (t.args.map (bJ L cs)) 0).n).toNat else fY t.op (t.args.map (bJ L cs)):=by
   rw[FF,if_neg gG,if_neg o2]
  have e2:dC (L+1) cs t=if t.op=6∧(bf (t.args.map (bJ L cs)) 0).known=true then(t.args.map (dC L cs)).getD (2-(bf (t.args.map (bJ L cs)) 0).n).toNat [] else if(fY t.op (t.args.map (bJ L cs))).known=true then[] else(t.args.map (dC L cs)).flatten:=by
   rw[He,if_neg gG,if_neg o2]
  rw[e1,e2];simp[DI,o0,o1,o2];refine⟨by omega,?_⟩;refine aH.forRounds t.args.length (fun k=>[.int k]) (fun k=>[cells ((t.args.map (bJ L cs)).take k++List.replicate (t.args.length-k) dT),lists ((t.args.map (dC L cs)).take k++List.replicate (t.args.length-k) [])]) ?_ (fun k hk=>?_) ?_
  ·simp[cells,lists,ints]
  ·have hw:=bA hk (by omega);have cO:=cr hk;have hr:=gy _ cO;have s1:=P8 (t.args.map (bJ L cs)) dT (n:=t.args.length) (by simp) hk;have s2:=P8 (t.args.map (dC L cs)) [] (n:=t.args.length) (by simp) hk;rw[←s1,←s2];have l1:((t.args.map (bJ L cs)).take k++List.replicate (t.args.length-k) dT).length=t.args.length:=by simp;omega
   have l2:((t.args.map (dC L cs)).take k++List.replicate (t.args.length-k) []).length=t.args.length:=by simp;omega
   have g1:(t.args.map (bJ L cs))[k]'(by simpa using hk)=bJ L cs t.args[k]:=by simp
   have g2:(t.args.map (dC L cs))[k]'(by simpa using hk)=dC L cs t.args[k]:=by simp
   rw[g1,g2];generalize (t.args.map (bJ L cs)).take k++List.replicate (t.args.length-k) dT=A at*;generalize (t.args.map (dC L cs)).take k++List.replicate (t.args.length-k) []=B at*;generalize bJ L cs t.args[k]=c at*;generalize dC L cs t.args[k]=d at*;simp[PN,Di,hk];refine⟨_,hr,?_⟩;simp[hw,hk,l1,l2,cells,lists]
  ·have hA:(t.args.map (bJ L cs)).take t.args.length++List.replicate (t.args.length-t.args.length) dT=t.args.map (bJ L cs):=by rw[JA,List.replicate_zero,rf,wq (by simp)]
   have hB:(t.args.map (dC L cs)).take t.args.length++List.replicate (t.args.length-t.args.length) []=t.args.map (dC L cs):=by rw[JA,List.replicate_zero,rf,wq (by simp)]
   have lA:(t.args.map (bJ L cs)).length=t.args.length:=by simp
   have lB:(t.args.map (dC L cs)).length=t.args.length:=by simp
   have uq:∀l:List Tm,(∀a,a∈l→a∈t.args)→((l.map (dC L cs)).flatten.length≤l.length*60):=by
    intro l
    induction l with
    |nil=>intro _;simp
    |cons a l ih=>
     intro h;have h1:=VQ a (h a (by simp));have h2:=ih (fun b hb=>h b (by simp[hb]));rw[fo,SQ,kV,nV];omega
   have uq:=uq t.args (fun a h=>h);have hBg:∀m:Nat,(Option.map (dC L cs) t.args[m]?).getD []=(t.args.map (dC L cs)).getD m []:=fun m=>by simp[aI]
   rw[hA,hB];generalize t.args.map (bJ L cs)=A at*;generalize t.args.map (dC L cs)=B at*;have g0:0<A.length:=by omega
   have tZ:A[0]=bf A 0:=by simp[bf,g0]
   by_cases F4:t.op=6∧(bf A 0).known=true
   ·obtain⟨o6,kn⟩:=F4;have hv:=h6 o6 kn;have hw:IntKind.i64.wrap (2-(bf A 0).n)=2-(bf A 0).n:=bE (by omega);have h3:3≤t.args.length:=hlen.2.2 o6;rw[if_pos ⟨o6,kn⟩,if_pos ⟨o6,kn⟩];obtain⟨m,eA⟩:∃m:Nat,m=(2-(bf A 0).n).toNat:=⟨_,rfl⟩
    have BA:m<A.length:=by omega
    have LR:m<B.length:=by omega
    simp[PN,Di,o6,kn,g0,tZ,hw,←eA,BA,LR,cells,lists];refine⟨by omega,by omega,by simp[bf,BA],?_⟩;rw[hBg,aI,aZ LR];rfl
   ·rw[if_neg F4,if_neg F4];have ahl:=apd t.op A (by omega) (by omega) (by omega) hb9 dA;have ahm:=abq B (by omega) (by omega);simp[PN,Di,g0,tZ];rw[if_neg F4];refine⟨_,ahl,?_⟩;cases e:(fY t.op A).known
    ·have eB:fY t.op A=dT:=adv e;rw[eB];simp;exact ahm
    ·have h:fY t.op A=⟨true,(fY t.op A).n⟩:=by rw[←e]
     rw[h];simp[ints]
     try rfl
end Rm
