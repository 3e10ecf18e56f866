/-
  Shared texts of this claim.
-/
import Derived.Test.YtbagcfebdgiihaaGreatDoorSAK
import Derived.Test.YtbagcfebdgiihaaGreatDoorSAL
import Derived.Test.YtbagcfebdgiihaaGreatDoorSAM
import Derived.Test.YtbagcfebdgiihaaGreatDoorSAJ
import Derived.Test.YtbagcfebdgiihaaGreatDoorSAI
import Derived.WalkKit
import Derived.WalkSpells
import Derived.Lib.SliceRun
import Derived.Lib.AppendZeros
import Derived.Laws.Strings
import Derived.Lib.Mul64
set_option linter.unusedVariables false
set_option maxRecDepth 100000
noncomputable section
namespace Rm
open Go Go.Proofs Cx
def OD:List Nat:=[4,12,45,46,20,71,72,70,47,18,48,49,13,19,50,51,101,159,14,52,53,102,160,161,208,54,55,56,57,103,58,59,60,61,62,15,16,63,104,105,106,64,65,107,162,163,185,221,66,108,67,110,164,109,17,21,73,29,80,81,33,84,126,184,218,217,246,181,219,220,127,129,186,223,222,247,187,85,130,189,188,190,224,225,248,252,250,249,131,191,226,251,227,253,269,134,228,35,31,32,83,125,82,120,121,122,123,180,214,215,241,243,268,242,124,182,183,216,245,74,113,176,115,114,116,177,5,22]
def y6:List (Nat×PC):=[(4,(ae w8)),(12,(ae xb)),(45,(ae w9)),(46,(ae uk)),(20,(ae qy)),(71,(ae qB)),(72,(ae qA)),(70,(ae qz)),(47,(ae uo)),(18,(ae ui)),(48,(ae uh)),(49,(ae uj)),(13,(ae xj)),(19,(ae xg)),(50,(ae Fc)),(51,(ae xh)),(101,(ae Fe)),(159,(ae uq)),(14,(ae xk)),(52,(ae xp)),(53,(ae xn)),(102,(ae Fm)),(160,(ae xo)),(161,(ae Fv)),(208,(ae xF)),(54,(ae Ff)),(55,(ae Fg)),(56,(ae xm)),(57,(ae Fl)),(103,(ae xt)),(58,(ae Fh)),(59,(ae Fi)),(60,(ae xq)),(61,(ae xu)),(62,(ae xr)),(15,(ae AH)),(16,(ae um)),(63,(ae AL)),(104,(ae FL)),(105,(ae FM)),(106,(ae xl)),(64,(ae xf)),(65,(ae Fa)),(107,(ae E9)),(162,(ae E8)),(163,(ae Fb)),(185,(ae Fu)),(221,(ae xE)),(66,(ae xd)),(108,(ae E7)),(67,(ae xe)),(110,(ae EY)),(164,(ae EZ)),(109,(ae wY)),(17,(ae w7)),(21,(ae wU)),(73,(ae EO)),(29,(ae xw)),(80,(ae Fq)),(81,(ae EG)),(33,(ae EF)),(84,(ae EK)),(126,(ae EL)),(184,(ae xz)),(218,(ae Fo)),(217,(ae Fs)),(246,(ae xB)),(181,(ae Fk)),(219,(ae Fp)),(220,(ae xx)),(127,(ae E4)),(129,(ae wZ)),(186,(ae E0)),(223,(ae E1)),(222,(ae Ft)),(247,(ae xD)),(187,(ae w6)),(85,(ae E3)),(130,(ae E5)),(189,(ae E6)),(188,(ae xC)),(190,(ae Fz)),(224,(ae ur)),(225,(ae xJ)),(248,(ae FF)),(252,(ae FE)),(250,(ae FB)),(249,(ae FI)),(131,(ae FA)),(191,(ae xK)),(226,(ae FG)),(251,(ae FJ)),(227,(ae FD)),(253,(ae FC)),(269,(ae FH)),(134,(ae ES)),(228,(ae xA)),(35,(ae EJ)),(31,(ae EH)),(32,(ae EI)),(83,(ae xy)),(125,(ae xG)),(82,(ae AI)),(120,(ae Fx)),(121,(ae Fy)),(122,(ae Fw)),(123,(ae AK)),(180,(ae AJ)),(214,(ae AE)),(215,(ae EX)),(241,(ae ET)),(243,(ae EV)),(268,(ae AG)),(242,(ae AF)),(124,(ae xH)),(182,(ae xI)),(183,(ae wX)),(216,(ae EU)),(245,(ae EW)),(74,(ae EP)),(113,(ae FK)),(176,(ae xL)),(115,(ae ER)),(114,(ae wV)),(116,(ae wW)),(177,(ae xc)),(5,(ae E2)),(22,(ae Fj))]
def tab:Nat→Option PC:=bu y6
theorem Zr:y6.map (·.1)=OD:=by kernel_rfl
theorem ans:(y6.map (·.1)).Nodup:=by rw[Zr];exact oa (by kernel_rfl)
theorem lA (k:Nat){f:Nat}{x:PC}(h:y6[k]?=some (f,x)):tab f=some x:=W8 ans h
theorem acv:tab 12=some (ae xb):=lA 1 (by kernel_rfl)
theorem acu:tab 45=some (ae w9):=lA 2 (by kernel_rfl)
theorem acs:tab 46=some (ae uk):=lA 3 (by kernel_rfl)
theorem Tx:tab 20=some (ae qy):=lA 4 (by kernel_rfl)
theorem TB:tab 71=some (ae qB):=lA 5 (by kernel_rfl)
theorem TA:tab 72=some (ae qA):=lA 6 (by kernel_rfl)
theorem Tz:tab 70=some (ae qz):=lA 7 (by kernel_rfl)
theorem acx:tab 47=some (ae uo):=lA 8 (by kernel_rfl)
theorem Tw:tab 18=some (ae ui):=lA 9 (by kernel_rfl)
theorem acq:tab 48=some (ae uh):=lA 10 (by kernel_rfl)
theorem acr:tab 49=some (ae uj):=lA 11 (by kernel_rfl)
theorem TC:tab 159=some (ae uq):=lA 17 (by kernel_rfl)
theorem acy:tab 15=some (ae AH):=lA 35 (by kernel_rfl)
theorem acw:tab 16=some (ae um):=lA 36 (by kernel_rfl)
theorem acA:tab 63=some (ae AL):=lA 37 (by kernel_rfl)
theorem TD:tab 224=some (ae ur):=lA 82 (by kernel_rfl)
theorem acz:tab 82=some (ae AI):=lA 102 (by kernel_rfl)
theorem Am:tab 123=some (ae AK):=lA 106 (by kernel_rfl)
theorem Ex:tab 180=some (ae AJ):=lA 107 (by kernel_rfl)
theorem Tu:tab 214=some (ae AE):=lA 108 (by kernel_rfl)
theorem Tv:tab 268=some (ae AG):=lA 112 (by kernel_rfl)
theorem Ew:tab 242=some (ae AF):=lA 113 (by kernel_rfl)
theorem caps:∀f cs,bu KE f=some cs→(lW cs.args cs.res=none→bu tD f=some ⟨cs.args++cs.caps,cs.res,.dat⟩)∧∀ys,lW cs.args cs.res=some ys→eJ OD f=false∧DW Tryz.prog f=true:=TR (l:=KE) (sig:=tD) (P:=Tryz.prog) (pcs:=OD) (by kernel_rfl)
theorem clos:dy ctx:=⟨(fun f cs h=>(caps f cs h).1),fun f s h=>aa8 (l:=tD) (P:=Tryz.prog) (by kernel_rfl) f s h⟩
theorem its:∀f cs ys,ctx.cap f=some cs→lW cs.args cs.res=some ys→tab f=none∧∃fn,ctx.P.funcs[f]?=some fn∧fn.body.isSome=true∧(fn.name== "runtime.NumGoroutine")=false:=fun f cs ys h hi=>⟨WY (l:=y6) (by rw[Zr];exact((caps f cs h).2 ys hi).1),apE ((caps f cs h).2 ys hi).2⟩
theorem apu:∀f pc,tab f=some pc→∃fn s ids fr nh,ctx.P.funcs[f]?=some fn∧ctx.sig f=some s∧kG {ctx with fr:=fr,nh:=nh} fn s ids=some pc:=
 Cy (R:=fun f pc=>∃fn s ids fr nh,ctx.P.funcs[f]?=some fn∧ctx.sig f=some s∧kG {ctx with fr:=fr,nh:=nh} fn s ids=some pc) (l:=y6)
  (aA (aB [6,8,14,77838,70] [12,13,15,16,17,18,19,20] [] Tryz.func4 rfl (av w8 CG))
  (aA (aB [] [0,1,2,3,4,5,6,7,8,9,10] [] Tryz.func12 rfl (av xb Yj))
  (aA (aB [] [0] [] Tryz.func45 rfl (av w9 Yi))
  (aA (aB [11] [6,7,8,9,10,12,13,14,15] [] Tryz.func46 rfl (av uk Yh))
  (aA (aB [4,8196] [2,5,6] [] Tryz.func20 rfl (av qy CF))
  (aA (aB [3,5,8197,16] [2] [] Tryz.func71 rfl (av qB HD))
  (aA (aB [] [2,3,5] [] Tryz.func72 rfl (av qA HC))
  (aA (aB [9,8201] [6,7,8] [] Tryz.func70 rfl (av qz HB))
  (aA (aB [] [4,5] [] Tryz.func47 rfl (av uo Yt))
  (aA (aB [] [4] [] Tryz.func18 rfl (av ui NP))
  (aA (aB [5] [4,6,7] [] Tryz.func48 rfl (av uh Yf))
  (aA (aB [5] [4,6,7] [] Tryz.func49 rfl (av uj Yg))
  (aA (aB [2,3] [4,5] [] Tryz.func13 rfl (av xj NW))
  (aA (aB [1] [2,3,4] [] Tryz.func19 rfl (av xg HF))
  (aA (aB [1] [2] [] Tryz.func50 rfl (av Fc Yv))
  (aA (aB [1] [2,3] [] Tryz.func51 rfl (av xh NV))
  (aA (aB [1] [2] [] Tryz.func101 rfl (av Fe Yw))
  (aA (aB [3] [6,1,7] [] Tryz.func159 rfl (av uq NU))
  (aA (aB [1,9] [2,3,4,5,6,7,10,11,12] [] Tryz.func14 rfl (av xk NX))
  (aA (aB [1,2,3,4,6,16390,20486,24582,21,8,34,10,12298,16394,47] [] [] Tryz.func52 rfl (av xp CH))
  (aA (aB [] [6,7,8] [] Tryz.func53 rfl (av xn N0))
  (aA (aB [] [4] [] Tryz.func102 rfl (av Fm YD))
  (aA (aB [] [2,3,4,5] [] Tryz.func160 rfl (av xo N1))
  (aA (aB [] [4] [] Tryz.func161 rfl (av Fv YL))
  (aA (aB [] [4,5] [] Tryz.func208 rfl (av xF N8))
  (aA (aB [] [2] [] Tryz.func54 rfl (av Ff Yx))
  (aA (aB [] [3] [] Tryz.func55 rfl (av Fg Yy))
  (aA (aB [2,3] [4,6] [] Tryz.func56 rfl (av xm NZ))
  (aA (aB [] [4] [] Tryz.func57 rfl (av Fl YC))
  (aA (aB [] [6,7,8] [] Tryz.func103 rfl (av xt N2))
  (aA (aB [] [3] [] Tryz.func58 rfl (av Fh Yz))
  (aA (aB [] [3] [] Tryz.func59 rfl (av Fi YA))
  (aA (aB [1,3,4,6,19,8,16392,36] [2] [] Tryz.func60 rfl (av xq HG))
  (aA (aB [1,4,6] [2,3] [] Tryz.func61 rfl (av xu HI))
  (aA (aB [1,4,6] [2] [] Tryz.func62 rfl (av xr HH))
  (aA (aB [1] [2] [] Tryz.func15 rfl (av AH Yu))
  (aA (aB [2,3,10] [4,5,6,7,8,11] [] Tryz.func16 rfl (av um HE))
  (aA (aB [2,3] [4,5,6,7,8,54,80,109,118,9,10] [] Tryz.func63 rfl (av AL Ze))
  (aA (aB [] [4] [] Tryz.func104 rfl (av FL Zf))
  (aA (aB [1,3] [2,8,19,40] [] Tryz.func105 rfl (av FM Zg))
  (aA (aB [3,9] [6,7] [] Tryz.func106 rfl (av xl NY))
  (aA (aB [3,4,7,11] [6,8,9,76,92,98] [] Tryz.func64 rfl (av xf NT))
  (aA (aB [] [6] [] Tryz.func65 rfl (av Fa Yr))
  (aA (aB [3,4,7,8] [6,9,10,66,103,113,11,140,149] [] Tryz.func107 rfl (av E9 Yq))
  (aA (aB [3] [6,7] [] Tryz.func162 rfl (av E8 Yp))
  (aA (aB [3] [6] [] Tryz.func163 rfl (av Fb Ys))
  (aA (aB [] [4] [] Tryz.func185 rfl (av Fu YK))
  (aA (aB [] [4,5] [] Tryz.func221 rfl (av xE N7))
  (aA (aB [2,3,6] [4,5,7] [] Tryz.func66 rfl (av xd NR))
  (aA (aB [3,4,5] [6,7,8,9,65,80,100,111] [] Tryz.func108 rfl (av E7 Yo))
  (aA (aB [1,4,5,52] [2,3] [] Tryz.func67 rfl (av xe NS))
  (aA (aB [] [4,5,6] [] Tryz.func110 rfl (av EY Yb))
  (aA (aB [] [2] [] Tryz.func164 rfl (av EZ Yc))
  (aA (aB [] [2,3,5] [] Tryz.func109 rfl (av wY NM))
  (aA (aB [4,9,11,65547,69643,73739,77835,12,8204,14,69,82] [8] [] Tryz.func17 rfl (av w7 HA))
  (aA (aB [4,6,9,10,28] [8,11] [] Tryz.func21 rfl (av wU NH))
  (aA (aB [4,6,8,9] [] [] Tryz.func73 rfl (av EO XZ))
  (aA (aB [2,4,5,65541,69637,73733,77829,7,31,9,49,11,13] [] [] Tryz.func29 rfl (av xw y3))
  (aA (aB [] [4] [] Tryz.func80 rfl (av Fq YH))
  (aA (aB [5,8,77832,10] [] [] Tryz.func81 rfl (av EG XR))
  (aA (aB [4,7,8,9] [10] [] Tryz.func33 rfl (av EF XQ))
  (aA (aB [4,7,8,10,16394] [9,11,12,13,14] [] Tryz.func84 rfl (av EK XV))
  (aA (aB [2,3,4] [5] [] Tryz.func126 rfl (av EL XW))
  (aA (aB [2,3,5,6,8,10,90,139] [4,7,9,11,12,13,14,15,16] [] Tryz.func184 rfl (av xz HK))
  (aA (aB [2] [3] [] Tryz.func218 rfl (av Fo YE))
  (aA (aB [] [4] [] Tryz.func217 rfl (av Fs YI))
  (aA (aB [] [4,5] [] Tryz.func246 rfl (av xB N4))
  (aA (aB [2] [4] [] Tryz.func181 rfl (av Fk YB))
  (aA (aB [2] [] [] Tryz.func219 rfl (av Fp YG))
  (aA (aB [3,6,8] [] [] Tryz.func220 rfl (av xx N3))
  (aA (aB [] [2,3,4,11] [] Tryz.func127 rfl (av E4 Yl))
  (aA (aB [4,10,53] [8,9,11,12,13,14,55,70] [] Tryz.func129 rfl (av wZ NN))
  (aA (aB [4,9] [8] [] Tryz.func186 rfl (av E0 Yd))
  (aA (aB [] [3] [] Tryz.func223 rfl (av E1 Ye))
  (aA (aB [] [4] [] Tryz.func222 rfl (av Ft YJ))
  (aA (aB [] [4,5] [] Tryz.func247 rfl (av xD N6))
  (aA (aB [4,11] [8,9] [] Tryz.func187 rfl (av w6 NO))
  (aA (aB [3,6,8,10] [7,9,11,12] [] Tryz.func85 rfl (av E3 Yk))
  (aA (aB [2,3,4,12292,9] [5,6,7,8,10,11] [] Tryz.func130 rfl (av E5 Ym))
  (aA (aB [2] [3] [] Tryz.func189 rfl (av E6 Yn))
  (aA (aB [] [4,5] [] Tryz.func188 rfl (av xC N5))
  (aA (aB [1] [2,3] [] Tryz.func190 rfl (av Fz YS))
  (aA (aB [2,7,12295] [4,5] [] Tryz.func224 rfl (av ur Od))
  (aA (aB [1,4,6,12294,9] [2,3,5,7,8,38,47,10,11,12] [] Tryz.func225 rfl (av xJ HN))
  (aA (aB [1] [2,3,12,20,4,5] [] Tryz.func248 rfl (av FF YY))
  (aA (aB [] [2] [] Tryz.func252 rfl (av FE YX))
  (aA (aB [] [2,3,4,11] [] Tryz.func250 rfl (av FB YU))
  (aA (aB [2] [4,8,13,17,21] [] Tryz.func249 rfl (av FI Zb))
  (aA (aB [2,4,7] [5,6,8] [] Tryz.func131 rfl (av FA YT))
  (aA (aB [2,3,4,6,33,7,8,10,12298,12] [5,15,21,9,11] [] Tryz.func191 rfl (av xK Oc))
  (aA (aB [2,4] [5,6] [] Tryz.func226 rfl (av FG YZ))
  (aA (aB [2] [] [] Tryz.func251 rfl (av FJ Zc))
  (aA (aB [4,5] [9,22,41,6,7,82,88,94] [] Tryz.func227 rfl (av FD YW))
  (aA (aB [] [6,8,14,20,25] [] Tryz.func253 rfl (av FC YV))
  (aA (aB [] [4,5,6,7] [] Tryz.func269 rfl (av FH Za))
  (aA (aB [] [4,5,6,7,8,9,10,11,12,13] [] Tryz.func134 rfl (av ES X2))
  (aA (aB [6] [2,3,5,8] [] Tryz.func228 rfl (av xA HL))
  (aA (aB [1] [2,3,7,12] [] Tryz.func35 rfl (av EJ XU))
  (aA (aB [4,6] [8,9,10,11] [] Tryz.func31 rfl (av EH XS))
  (aA (aB [1] [2] [] Tryz.func32 rfl (av EI XT))
  (aA (aB [1,3,6,8] [2,4] [] Tryz.func83 rfl (av xy HJ))
  (aA (aB [] [2,3,4] [] Tryz.func125 rfl (av xG N9))
  (aA (aB [4,5,10] [8,9,15,39,58,74,11,12] [] Tryz.func82 rfl (av AI YM))
  (aA (aB [2] [4] [] Tryz.func120 rfl (av Fx YQ))
  (aA (aB [] [2] [] Tryz.func121 rfl (av Fy YR))
  (aA (aB [1] [2] [] Tryz.func122 rfl (av Fw YN))
  (aA (aB [3,4] [6,7,13,16,24,33,8,9] [] Tryz.func123 rfl (av AK YP))
  (aA (aB [3] [4,5] [] Tryz.func180 rfl (av AJ YO))
  (aA (aB [] [4,5,6,7,8,9] [] Tryz.func214 rfl (av AE X3))
  (aA (aB [] [2] [] Tryz.func215 rfl (av EX Ya))
  (aA (aB [] [2,3,4,5,6,7,8,9] [] Tryz.func241 rfl (av ET X5))
  (aA (aB [] [4] [] Tryz.func243 rfl (av EV X7))
  (aA (aB [] [6,0,1] [] Tryz.func268 rfl (av AG X8))
  (aA (aB [] [6,7,8] [] Tryz.func242 rfl (av AF X4))
  (aA (aB [3] [6,7,8,2,9,10] [] Tryz.func124 rfl (av xH Oa))
  (aA (aB [3,9] [6,7,2] [] Tryz.func182 rfl (av xI HM))
  (aA (aB [2,4,5] [6] [] Tryz.func183 rfl (av wX NK))
  (aA (aB [3,4,5] [6] [] Tryz.func216 rfl (av EU X6))
  (aA (aB [2] [4,5,6,7] [] Tryz.func245 rfl (av EW X9))
  (aA (aB [2,4,5,6,43] [] [] Tryz.func74 rfl (av EP X0))
  (aA (aB [3] [6] [] Tryz.func113 rfl (av FK Zd))
  (aA (aB [2,5,7] [4] [] Tryz.func176 rfl (av xL Oe))
  (aA (aB [3,7] [6] [] Tryz.func115 rfl (av ER X1))
  (aA (aB [] [2,3,5,12,15] [] Tryz.func114 rfl (av wV NI))
  (aA (aB [2,9] [4,5,6,7,10,50,54] [] Tryz.func116 rfl (av wW NJ))
  (aA (aB [2,7] [4,5] [] Tryz.func177 rfl (av xc NQ))
  (aA (aB [4,13,94] [8,9,10,11,12,14,15,16,17,18,19,20,21,22,23] [] Tryz.func5 rfl (av E2 amI))
  (aA (aB [2,5,7] [4,6] [] Tryz.func22 rfl (av Fj amJ))
  trivial))))))))))))))))))))))))))))))))))))))))))))))))))))))))))))))))))))))))))))))))))))))))))))))))))))))))))))))))))))))))))))))))
end Rm
set_option linter.unusedSimpArgs false
namespace Rm
open Go Go.Proofs Cx Go.RowKit Go.Lib
theorem ajM:(Tryz.prog.info? 3).map (fun i=>(i.zero,i.size,i.bytes))=some (some (.int .i64 0),1,8):=by kernel_rfl
set_option maxHeartbeats 2000000 in
set_option maxRecDepth 100000 in
theorem agF (w:World):Calls Tryz.prog 254 #[.slice none 0 0,.int .i64 0] w fun e w'=>e=.returned (.slice none 0 0)∧w'=w:=by
 go_enter Tryz.func254,Tryz.ntmps254
 go_wp2
 go_ret
 exact⟨rfl,rfl⟩
set_option maxHeartbeats 2000000 in
set_option maxRecDepth 100000 in
theorem agE (n:Nat)(w:World)(h0:0<n)(h1:n≤4294967296):Calls Tryz.prog 254 #[.slice none 0 0,.int .i64 n] w fun e w'=>
 ∃v',e=.returned v'∧w'.ownsRow w.heap.size 3 1 v' 0 []∧Below w.heap.size w w':=by
 obtain⟨i0,hi,yN,vh,hz2⟩:=info_parts ajM;have hr:=run_append_nil_zeros w 53 3 53 3 i0 (.int .i64 0) .i64 .i64 Tryz.underlying53 Tryz.underlying3 hi yN n h0 (by rw[vh];decide) (by omega) (by rw[hz2];omega);have hn:¬((n:Int)<0):=by omega
 have nR:(n:Int)>0:=by omega
 have hw:IntKind.i64.wrap (n:Int)=n:=by rw[IntKind.wrap_i64];omega
 have pB:IntKind.i64.wrap 0=0:=by decide
 have gk:=grownCap_ge w n 0 3;have hle:=grownCap_le_maxLen w n 0 3 (by unfold maxLen;omega);have hs:(Builtin.zeroCells #[Value.int IntKind.i64 0] n++Builtin.zeroCells #[Value.int IntKind.i64 0] (grownCap w n 0 3-n)).size=grownCap w n 0 3*1:=by
  rw[Array.size_append,size_zeroCells,size_zeroCells];simp;omega
 go_enter Tryz.func254,Tryz.ntmps254
 go_wp2_with (at_builtin;refine wpList_append_run _ rfl _ _ 53 3 rfl _ _ rfl rfl _ _ hr ?qc)
 go_ret
 refine⟨_,rfl,?_,?_⟩
 ·exact World.ownsRow.drew (World.ownsRow_made w _ _ (aU _) hle hs)
 ·exact((Below.refl _ w).alloc (aU _) _).drew
def Gb (ds:List D):Option D:=
 match ds with
 |[.list [],.v (.int .i64 n)]=>if 0≤n∧n≤4294967296 then some (.list []) else none
 |_=>none
theorem agD (ds:List D)(d:D)(h:Gb ds=some d):∃s,ctx.sig 254=some s∧JB ctx 254 s ds d:=by
 refine⟨_,rfl,fun _=>?_,fun shs obs hm=>by cases hm⟩;unfold Gb at h;split at h
 case h_2=>cases h
 rename_i n;split at h
 case isFalse=>cases h
 rename_i hn;cases h;obtain⟨k,rfl⟩:=mh hn.1;intro σ w args au hC ha;obtain⟨a1,a2,a3⟩:=ha;have h0:=a3 0 _ rfl;have h1:=a3 1 _ rfl;obtain⟨u,v,rfl⟩:∃u v,args=#[u,v]:=by
  have:args.size=2:=by simpa using a1
  match args,this with
  |⟨[u,v]⟩,_=>exact⟨u,v,rfl⟩
 simp only[qg,Aa] at h0 h1;change Rep ctx.cap σ (.nils .bool) u (.list []) at h0;change Rep ctx.cap σ (.int .i64) v (.v (.int .i64 k)) at h1;have hu:u=.slice none 0 0:=by cases h0;rfl
 have hv:v=.int .i64 k:=by cases h1;rfl
 subst hu hv;by_cases hk:k=0
 ·subst hk;refine(agF w).mono fun e w' hh=>?_;obtain⟨rfl,rfl⟩:=hh;refine⟨_,σ,rfl,.refl σ,au,.refl _ _,fun _ _ _ h=>.inl h,fun _ _ h=>.inl h,?_⟩;exact⟨[],[],rfl,⟨by simp,.inl ⟨rfl,rfl⟩⟩,⟨fun _=>undef,fun i x hx=>by simp at hx,fun i j u hi=>by simp at hi⟩,fun k hk=>by cases hk⟩
 ·refine(agE k w (by omega) (by omega)).mono fun e w' hh=>?_;obtain⟨v',rfl,bt,hb⟩:=hh;refine⟨v',σ,rfl,.refl σ,au.below hb,hb,fun _ _ _ h=>.inl h,fun _ _ h=>.inl h,?_⟩;refine⟨[],[],rfl,bt,⟨fun _=>undef,fun i x hx=>by simp at hx,fun i j u hi=>by simp at hi⟩,fun k hk=>?_⟩;have bL:=(bt.lt k hk).1;refine⟨fun o=>?_,?_⟩
  ·cases hc:σ.c k o with
   |none=>rfl
   |some u=>have:=World.block_lt_of_cell? w (a:=⟨k,o,none⟩) (au.c _ _ _ hc);simp at this;omega
  ·cases hc:σ.m k with
   |none=>rfl
   |some u=>rcases au.m _ _ hc with⟨arr,clock,x,g1,_⟩|⟨_,g1⟩<;>(have:=(eA.1 g1).1;omega)
def eD (day:Int):Int×Int×Int:=
 let n:=day+730425
 let e:=n/146097
 let r:=n%146097
 let y:=(r-r/1460+r/36524-r/146096)/365
 let r:=r-(365*y+y/4-y/100)
 let m:=(5*r+2)/153
 let dom:=r-(153*m+2)/5+1
 let month:=if 12<m+3 then m+3-12 else m+3
 (if month<3 then y+400*e+1 else y+400*e,month,dom)
def vG (rest feasts shut:List Int)(day:Int):Bool:=
 !rest.contains ((day+5)%7)&&(!feasts.contains (100*(eD day).2.1+(eD day).2.2)&& !shut.contains day)
def Ue (rest feasts shut:List Int)(a b:Int):List Int:=((List.range (b-a+1).toNat).map fun(k:Nat)=>a+k).filter (vG rest feasts shut)
def vk (d:D):List Int:=d.l.map D.i
def Uf (ds:List D):List D:=
 let c:=(ds.getD 2 .none).deref
 (Ue (vk (c.c 3)) (vk (c.c 4)) (vk (c.c 5)) (ds.getD 0 .none).deref.i (ds.getD 1 .none).deref.i).map fun d=>.tup [.int d]
def wS (r:D)(city:Int):Int:=if 0≤city∧city<(r.c 1).l.length then(((r.c 1).l.getD city.toNat .none).c 1).i else-1
def OG (ds:List D):D:=
 let r:=ds.getD 0 .none
 let forum:=(ds.getD 1 .none).i
 let c:=ds.getD 2 .none
 let s:=(c.c 15).l.getD (c.c 19).i.toNat .none
 let who:=(s.c 2).i
 if who<0∨(r.c 3).l.length≤who∨forum<0∨(r.c 4).l.length≤forum then .list [] else
 let out:=[forum,wS r (s.c 7).i,wS r (c.c 10).i,wS r (c.c 9).i,wS r (((r.c 3).l.getD who.toNat .none).c 1).i]
 if(-1)∈out then .list [] else ints out
def K7:List (Nat×(aJ→List D→Option D)):=[(254,fun _ ds=>Gb ds),(128,rk (ae EM) (ae EN) OG),(244,sO (ae qx) 1000 1 Uf),(68,fun _ ds=>DT ds),(69,fun _ ds=>FV ds),(100,fun _ ds=>FP ds)]
def ext:Nat→Option (aJ→List D→Option D):=bu K7
theorem apt:TabOK ctx tab ext:=by
 refine⟨clos,its,fun f pc _ h=>apu f pc h,fun f g hg Φ hΦ dW ds d h=>?_⟩
 have:=Cy (R:=fun f (g:aJ→List D→Option D)=>∀Φ,cY ctx Φ→fA ctx Φ→∀ds d,g Φ ds=some d→(∀s,ctx.sig f=some s→JB ctx f s ds d)∧
  ∀cs ys,ctx.cap f=some cs→lW cs.args cs.res=some ys→∃xs,d=.list xs∧(∀x,x∈xs→∃ds',x=.tup ds'∧ds'.length=ys.length)∧kC ctx f cs.caps ys ds xs) (l:=K7)
  ⟨fun Φ hΦ dW ds d h=>⟨fun s hs=>by obtain⟨s',h1,h2⟩:=agD ds d h;rw[hs] at h1;cases h1;exact h2,fun cs ys hc hi=>by cases hc⟩,
   fun Φ hΦ dW ds d h=>⟨fun s hs=>by cases hs;exact⟨fun _=>amB clos hΦ dW Tryz.func128 (av EM XX) (av EN XY) h,fun shs obs hm=>by cases hm⟩,fun cs ys hc hi=>by cases hc⟩,
   fun Φ hΦ dW ds d h=>⟨fun s hs=>(by cases hs),fun cs ys hc hi=>by
    cases hc;cases hi;exact ajT clos hΦ dW Tryz.func244 adi h rfl⟩,
   fun Φ hΦ dW ds d h=>⟨fun s hs=>by cases hs;exact⟨fun hm=>(by cases hm),fun shs obs hm=>by cases hm;exact apf ds d h⟩,fun cs ys hc hi=>by cases hc⟩,
   fun Φ hΦ dW ds d h=>⟨fun s hs=>by cases hs;exact⟨fun hm=>(by cases hm),fun shs obs hm=>by cases hm;exact adG ds d h⟩,fun cs ys hc hi=>by cases hc⟩,
   fun Φ hΦ dW ds d h=>⟨fun s hs=>by obtain⟨s',h1,h2⟩:=adv ds d h;rw[hs] at h1;cases h1;cases hs;exact⟨fun _=>h2,fun shs obs hm=>by cases hm⟩,fun cs ys hc hi=>by cases hc⟩,trivial⟩ f g hg
 exact this Φ hΦ dW ds d h
abbrev T:cA:=cH tab ext
theorem amA {pa pb:PC}{spec:List D→D}{Φ Ψ:aJ}(h:Le Φ Ψ){ds:List D}{d:D}(e:rk pa pb spec Φ ds=some d):rk pa pb spec Ψ ds=some d:=by
 unfold rk at e ⊢;split at e
 ·rename_i hs;rw[if_pos]
  ·exact e
  ·rcases hs with⟨N,xs,h1,h2⟩|⟨N,h1,h2⟩
   ·exact .inl ⟨N,xs,PC.ev_mono h (aU _) h1,h2⟩
   ·exact .inr ⟨N,PC.ev_mono h (aU _) h1,h2⟩
 ·cases e
theorem afe:∀f g,ext f=some g→∀Φ Ψ,Le Φ Ψ→∀ds d,g Φ ds=some d→g Ψ ds=some d:=fun f g hg=>
 Cy (R:=fun _ (g:aJ→List D→Option D)=>∀Φ Ψ,Le Φ Ψ→∀ds d,g Φ ds=some d→g Ψ ds=some d) (l:=K7) ⟨fun _ _ _ _ _ e=>e,fun _ _ h _ _ e=>amA h e,fun _ _ h _ _ e=>ajS h e,fun _ _ _ _ _ e=>e,fun _ _ _ _ _ e=>e,fun _ _ _ _ _ e=>e,trivial⟩ f g hg
theorem ak.of_nsl {tab:Nat→Option PC}{ext:Nat→Option (aJ→List D→Option D)}{f:Nat}{pa pb:PC}{spec:List D→D}{ds:List D}{ta tb:PT}(hx:ext f=some (rk pa pb spec))(hta:tree pa=ta)(htb:tree pb=tb)
 (h:(∃xs,xs≠[]∧spec ds=.list xs∧aE (cH tab ext) ta (jG ds) (fun x=>x=.ret (.list xs)))∨(spec ds=.list []∧aE (cH tab ext) tb (jG ds) (fun x=>x=.ret (.list [])))):ak (cH tab ext) f ds (spec ds):=by
 refine ak.of_ext hx ?_;rcases h with⟨xs,h1,h2,h3⟩|⟨h2,h3⟩
 ·obtain⟨x,rfl,n0,hn⟩:=Jr (c:=pa) (hta▸h3);refine⟨n0,fun n hle=>?_⟩;unfold rk;rw[if_pos (.inl ⟨n,xs,hn n hle,h1,h2⟩)]
 ·obtain⟨x,rfl,n0,hn⟩:=Jr (c:=pb) (htb▸h3);refine⟨n0,fun n hle=>?_⟩;unfold rk;rw[if_pos (.inr ⟨n,hn n hle,h2⟩)]
end Rm
namespace Rm
open Go Go.Proofs Cx
def fT (n:Nat)(p:Nat→Bool):Bool:=(List.range n).all p
theorem To {n:Nat}{p:Nat→Bool}(h:∀k,k<n→p k=true):fT n p=true:=df.2 fun k hk=>h k (gf.1 hk)
theorem ab7 {n k:Nat}{p:Nat→Bool}(hk:k<n)(h:p k=false):fT n p=false:=List.all_eq_false.2 ⟨k,gf.2 hk,by simp[h]⟩
theorem Ai {n:Nat}{p:Nat→Bool}:fT n p=true↔∀k,k<n→p k=true:=⟨fun h k hk=>df.1 h k (gf.2 hk),To⟩
def eU (n:Nat)(f:Nat→Int):Int:=(((List.range n).map f).find? fun x=>x !=0).getD 0
theorem Lc {n:Nat}{f:Nat→Int}(h:∀k,k<n→f k=0):eU n f=0:=by
 unfold eU;rw[tR.2]
 ·rfl
 ·intro x hx;obtain⟨k,hk,rfl⟩:=cZ.1 hx;simp[h k (gf.1 hk)]
theorem Lb {n k:Nat}{f:Nat→Int}(hk:k<n)(hj:∀j,j<k→f j=0)(h:f k≠0):eU n f=f k:=by
 unfold eU;have e:List.range n=List.range k++k::(List.range' (k+1) (n-k-1)):=by
  rw[JH,JH,←JG];have:=List.range'_append_1 (s:=0) (m:=k) (n:=n-k-1+1);rw[jD] at this;rw[this];congr 1;omega
 rw[e,lx,List.find?_append,tR.2,Option.none_or,eB,List.find?_cons_of_pos (by simpa using h)]
 ·rfl
 ·intro x hx;obtain⟨j,sy,rfl⟩:=cZ.1 hx;simp[hj j (gf.1 sy)]
theorem F4 {n:Nat}{f:Nat→Int}:eU n f=0↔∀k,k<n→f k=0:=by
 refine⟨fun h k=>?_,Lc⟩
 induction k using Nat.strongRecOn with
 |ind k ih=>
  intro hk;refine JA fun az=>?_;rw[Lb hk (fun j hj=>ih j hj (by omega)) az] at h;exact az h
section
variable {T:cA} {id:Nat} {bp bo lr lo:List Nat} {a:PC} {ρ:Env} {Q:Out→Prop}
theorem kY (N:Nat)(p:Nat→Bool)(str eK:Nat→List D)(h0:lr.map ρ.r=str 0∧lo.map ρ.o=eK 0)
 (step:∀k,k<N→p k=true→aE T (round id bp bo lr lo a) (ρ.put lr (str k) lo (eK k)) (ew ρ id bp bo lr lo (fun vr vo=>vr=str (k+1)∧vo=eK (k+1)) Q))
 (bad:∀k,k<N→p k=false→fT N p=false→aE T (round id bp bo lr lo a) (ρ.put lr (str k) lo (eK k)) (ew ρ id bp bo lr lo (fun _ _=>False) Q))
 (last:fT N p=true→aE T (round id bp bo lr lo a) (ρ.put lr (str N) lo (eK N)) (ew ρ id bp bo lr lo (fun _ _=>False) Q)):aH T (.block id bp bo (.loop lr lo a)) ρ Q:=
 .scan N (fun k=>p k=true) str eK h0 (fun k hk _ h=>step k hk h) (fun k hk _ h=>bad k hk (by simpa using h) (ab7 hk (by simpa using h))) (fun h=>last (To h))
theorem wh (N:Nat)(f:Nat→Int)(str eK:Nat→List D)(h0:lr.map ρ.r=str 0∧lo.map ρ.o=eK 0)
 (step:∀k,k<N→f k=0→aE T (round id bp bo lr lo a) (ρ.put lr (str k) lo (eK k)) (ew ρ id bp bo lr lo (fun vr vo=>vr=str (k+1)∧vo=eK (k+1)) Q))
 (bad:∀k,k<N→f k≠0→eU N f=f k→aE T (round id bp bo lr lo a) (ρ.put lr (str k) lo (eK k)) (ew ρ id bp bo lr lo (fun _ _=>False) Q))
 (last:eU N f=0→aE T (round id bp bo lr lo a) (ρ.put lr (str N) lo (eK N)) (ew ρ id bp bo lr lo (fun _ _=>False) Q)):aH T (.block id bp bo (.loop lr lo a)) ρ Q:=
 .scan N (fun k=>f k=0) str eK h0 (fun k hk _ h=>step k hk h) (fun k hk hj h=>bad k hk h (Lb hk hj h)) (fun h=>last (Lc h))
end
theorem bI {k n:Nat}(h:k<n)(hn:n≤4294967296):IntKind.i64.wrap ((k:Int)+1)=(k:Int)+1:=bG (by omega)
theorem abl {k:Nat}(hn:k≤4294967296):IntKind.i64.wrap ((k:Int)-1)=(k:Int)-1:=bG (by omega)
def aC (i n:Int):Bool:=decide (0≤i)&&decide (i<n)
def wi (n a b:Int):Bool:=decide (a≤n)&&decide (n≤b)
theorem fe (i n:Int):ak T 57 [.int i,.int n] (.bool (aC i n)):=by
 refine .of_tree rfl (lA 28 (by kernel_rfl)) aqV ?_;simp[Rs,aC];by_cases h:0≤i<;>simp[h]
theorem oy (i n:Int):ak T 80 [.int i,.int n] (.bool (aC i n)):=by
 refine .of_tree rfl (lA 58 (by kernel_rfl)) aq9 ?_;simp[RG,aC];by_cases h:0≤i<;>simp[h]
theorem idx_eq {α:Type}[DecidableEq α]{l:List α}{x z:α}{k:Nat}(hk:k<l.length)(hj:∀j,j<k→l.getD j z≠x)(h:¬l.getD k z≠x):x∈l∧l.findIdx (fun y=>decide (y=x))=k:=by
 have e:l[k]=x:=by simpa [hk] using h
 refine⟨e▸cM hk,(List.findIdx_eq hk).2 ⟨by simp[e],fun j iM=>?_⟩⟩;have fJ:j<l.length:=by omega
 simpa [fJ] using hj j iM
theorem Wq {α:Type}[DecidableEq α]{l:List α}{x z:α}(hj:∀j,j<l.length→l.getD j z≠x):¬x∈l:=fun hm=>by
 obtain⟨j,fJ,rfl⟩:=fj hm;have:=hj j fJ;simp[fJ] at this
def sK {α:Type}[DecidableEq α](l:List α)(x:α):Int:=if x∈l then(l.findIdx (fun y=>decide (y=x)):Nat) else-1
def hasB {α:Type}[DecidableEq α](l:List α)(x:α):Bool:=l.any fun y=>decide (y=x)
theorem Vk {α:Type}[DecidableEq α]{l:List α}{x:α}:hasB l x=true↔x∈l:=by simp[hasB]
theorem ahd {α:Type}[DecidableEq α]{l:List α}{x:α}:hasB l x=false↔¬x∈l:=by rw[←Vk];simp
theorem Wp {α:Type}[DecidableEq α](l:List α)(x:α):decide (0≤sK l x)=hasB l x:=by
 unfold sK;by_cases h:x∈l
 ·rw[Vk.2 h];simp[h]
 ·rw[ahd.2 h];simp[h]
@[simp] theorem avE (a b:ByteArray):uv .eql a b=decide (a=b):=by
  simp only[uv,ByteArray.toList_eq];by_cases h:a=b
  ·subst h;simp
  ·rw[decide_eq_false h,beq_eq_false_iff_ne];intro e;have:a.data=b.data:=by rw[←rK];exact e
   exact h (by cases a;cases b;cases this;rfl)
@[simp] theorem ay5 (a:ByteArray):(str a).s=a:=_root_.id rfl
theorem abB (l:List Int)(x:Int)(hl:l.length≤4294967296):ak T 221 [ints l,.int x] (.int (sK l x)):=by
 refine .of_tree rfl (lA 47 (by kernel_rfl)) ark ?_;simp[RP];refine .scan l.length (fun k=>l.getD k 0≠x) (fun k=>[.int 0,.int k]) (fun _=>[]) ?_ (fun k hk hj ho=>?_) (fun k hk hj ho=>?_) (fun hj=>?_)
 ·simp
 ·have hw:=bI hk hl;simp[hk] at ho;have gT:¬x=l[k]:=fun e=>ho e.symm;simp[PQ,Dx,hk,hw,ints,ho,gT]
 ·obtain⟨hm,he⟩:=idx_eq hk hj ho;simp[hk] at ho;simp[PQ,Dx,hk,ints,ho,sK,hm,he]
 ·have:=Wq hj;simp[PQ,Dx,sK,this,ints]
theorem tP (l:List Int)(x:Int)(hl:l.length≤4294967296):ak T 185 [ints l,.int x] (.bool (hasB l x)):=by
 refine .of_tree rfl (lA 46 (by kernel_rfl)) ard ?_;simp[RK];refine⟨_,abB l x hl,?_⟩;have:=Wp l x;simp at this ⊢;exact this
theorem abC (l:List ByteArray)(x:ByteArray)(hl:l.length≤4294967296):ak T 208 [strs l,str x] (.int (sK l x)):=by
 refine .of_tree rfl (lA 24 (by kernel_rfl)) arl ?_;simp[RQ];refine .scan l.length (fun k=>l.getD k default≠x) (fun k=>[.int 0,.int k]) (fun _=>[]) ?_ (fun k hk hj ho=>?_) (fun k hk hj ho=>?_) (fun hj=>?_)
 ·simp
 ·have hw:=bI hk hl;simp[hk] at ho;have gT:¬x=l[k]:=fun e=>ho e.symm;simp[PR,Dy,hk,hw,strs,ho,gT]
 ·obtain⟨hm,he⟩:=idx_eq hk hj ho;simp[hk] at ho;simp[PR,Dy,hk,strs,ho,sK,hm,he]
 ·have:=Wq hj;simp[PR,Dy,sK,this,strs]
theorem abt (l:List ByteArray)(x:ByteArray)(hl:l.length≤4294967296):ak T 161 [strs l,str x] (.bool (hasB l x)):=by
 refine .of_tree rfl (lA 23 (by kernel_rfl)) arf ?_;simp[RL];refine⟨_,abC l x hl,?_⟩;have:=Wp l x;simp at this ⊢;exact this
def IY (l:List Int)(a b:Int)(k:Nat):Bool:=wi (l.getD k 0) a b&&(k==0||decide (l.getD (k-1) 0<l.getD k 0))
def rising (l:List Int)(a b:Int):Bool:=fT l.length (IY l a b)
theorem DE (l:List Int)(a b:Int)(hl:l.length≤4294967296):ak T 103 [ints l,.int a,.int b] (.bool (rising l a b)):=by
 refine .of_tree rfl (lA 29 (by kernel_rfl)) aq1 ?_;simp[Rz];refine kY l.length (IY l a b) (fun k=>[.bool false,.int k]) (fun _=>[]) ?_ (fun k hk ho=>?_) (fun k hk ho hb=>?_) (fun hj=>?_)
 ·simp
 ·have hw:=bI hk hl;simp[IY,wi,hk] at ho;obtain⟨⟨h1,h2⟩,h3⟩:=ho;have cP:¬l[k]<a:=by omega
  have j7:¬b<l[k]:=by omega
  by_cases mF:0<k
  ·have bQ:k-1<l.length:=by omega
   have eW:IntKind.i64.wrap ((k:Int)-1)=((k-1:Nat):Int):=by rw[abl (by omega)];omega
   have j8:¬l[k]≤l[k-1]:=by
        rcases h3 with h3|h3
        ·omega
        ·simp[bQ] at h3;omega
   simp[zr,tp,hk,hw,eW,ints,cP,j7,j8,mF,bQ]
  ·simp[zr,tp,hk,hw,ints,cP,j7,mF]
 ·have hf:rising l a b=false:=hb;simp[IY,wi,hk] at ho;by_cases h1:l[k]<a
  ·simp[zr,tp,hk,ints,h1,hf]
  by_cases h2:b<l[k]
  ·simp[zr,tp,hk,ints,h1,h2,hf]
  have h3:=ho (by omega) (by omega);have mF:0<k:=by omega
  have bQ:k-1<l.length:=by omega
  have eW:IntKind.i64.wrap ((k:Int)-1)=((k-1:Nat):Int):=by rw[abl (by omega)];omega
  have j8:=h3.2;simp[bQ] at j8;simp[zr,tp,hk,eW,ints,h1,h2,j8,mF,bQ,hf]
 ·have hf:rising l a b=true:=hj;simp[zr,tp,hf]
def Nk (c:Int):Bool:=wi c 97 122||wi c 65 90
def HO (i:Nat)(c:Int):Bool:=Nk c||(i !=0&&(decide (c=95)||wi c 48 57))
def EB (s:ByteArray)(k:Nat):Int:=((s.data.toList.getD k 0).toNat:Nat)
def pJ (s:ByteArray):Bool:=decide (1≤s.size)&&decide (s.size≤20)&&fT s.size (fun k=>HO k (EB s k))
theorem TM {s:ByteArray}{k:Nat}(h:k<s.data.size):(s.data[k].toNat:Int)=EB s k:=by
 unfold EB;rw[aI,be (by simpa using h)];rfl
theorem aaY {s:ByteArray}:s=⟨#[]⟩↔s.size=0:=by
 constructor
 ·rintro rfl;rfl
 ·intro h;cases s with|mk d=>congr;exact Jy h
theorem aon (s:ByteArray):ak T 160 [str s] (.bool (pJ s)):=by
 refine .of_tree rfl (lA 22 (by kernel_rfl)) aqW ?_;simp[Ru];by_cases h0:s=⟨#[]⟩
 ·have hn:pJ s=false:=by simp[pJ,aaY.1 h0]
  rw[hn];simp[h0]
 by_cases h1:(20:Int)<s.size
 ·have cP:¬s.size≤20:=by omega
  simp[h0,h1,pJ,cP]
 have hz:1≤s.size:=by
  have:s.size≠0:=fun e=>h0 (aaY.2 e);omega
 have cP:s.size≤20:=by omega
 simp[h0,h1];refine⟨by omega,kY s.size (fun k=>HO k (EB s k)) (fun k=>[.bool false,.int k]) (fun _=>[]) ?_ (fun k hk ho=>?_) (fun k hk ho hb=>?_) (fun hj=>?_)⟩
 ·simp
 ·have hw:=bI hk (by omega);have bL:k<s.data.size:=hk;have hg:=TM bL;simp[HO,Nk,wi] at ho;simp[Pw,Dh,hk,bL,hw,hg];omega
 ·have bL:k<s.data.size:=hk;have hg:=TM bL;have hn:pJ s=false:=by simp[pJ,hb]
  simp[HO,Nk,wi] at ho;simp[Pw,Dh,hk,bL,hg,hn];omega
 ·have hn:pJ s=true:=by simp[pJ,hj,hz,cP]
  have hd:s.data.size=s.size:=rfl;simp[Pw,Dh,hn,hd]
end Rm
namespace Rm
open Go Go.Proofs Cx
def sW (l:List ByteArray)(i:Nat):Int:=if pJ (l.getD i default)=false then 2 else if hasB (l.take i) (l.getD i default) then 5 else 0
theorem aaw (l:List ByteArray)(i:Nat)(hi:i<l.length)(hl:l.length≤4294967296):ak T 102 [strs l,.int i] (.int (sW l i)):=by
 refine .of_tree rfl (lA 21 (by kernel_rfl)) aqX ?_;simp[Rv,hi];refine⟨_,by simpa [strs,hi] using aon l[i],?_⟩;unfold sW;rw[aI,be hi,ly];cases h1:pJ l[i]<;>simp[h1];refine⟨by omega,_,by simpa [strs,hi] using abt (l.take i) l[i] (by rw[gd];omega),?_⟩;cases h2:hasB (l.take i) l[i]<;>simp[h2]
def uD (l:List ByteArray)(g:Nat→Bool)(i:Nat):Int:=if sW l i≠0 then sW l i else if g i then 0 else 1
def jH (l:List ByteArray)(CB:Int)(g:Nat→Bool):Int:=if CB<l.length then 6 else eU l.length (uD l g)
theorem IS (l:List ByteArray)(CB:Int)(f:Nat)(caps:List D)(g:Nat→Bool)(hg:∀i:Nat,i<l.length→ak T f (.int i::caps) (.bool (g i)))(hl:l.length≤4294967296):
 ak T 53 [strs l,.int CB,.clo f caps] (.int (jH l CB g)):=by
 refine .of_tree rfl (lA 20 (by kernel_rfl)) aqU ?_;simp[Rr,jH];by_cases h0:CB<l.length
 ·simp[h0];intro h;omega
 simp[h0];refine wh l.length (uD l g) (fun k=>[.int 0,.int k]) (fun _=>[]) ?_ (fun k hk ho=>?_) (fun k hk ho hb=>?_) (fun hj=>?_)
 ·simp
 ·have hw:=bI hk hl;have h1:sW l k=0:=by
   refine JA fun h=>?_;unfold uD at ho;rw[if_pos h] at ho;exact h ho
  have h2:g k=true:=by
   unfold uD at ho;rw[if_neg (by simpa using h1)] at ho;cases h:g k with
   |true=>rfl
   |false=>rw[h] at ho;simp at ho
  simp[Pv,Dg,hk,hw];refine⟨_,aaw l k hk hl,?_⟩;simp[h1];refine⟨_,_,⟨rfl,rfl⟩,_,hg k hk,?_⟩;simp[h2,hw]
 ·simp[Pv,Dg,hk,hb];refine⟨_,aaw l k hk hl,?_⟩;unfold uD at ho ⊢;by_cases h1:sW l k=0
  ·simp[h1] at ho ⊢;refine⟨_,_,⟨rfl,rfl⟩,_,hg k hk,?_⟩;simp[ho]
  ·simp[h1]
 ·simp[Pv,Dg,hj]
def oT (r:Realm)(c:City):Bool:=fT c.feasts.length (fun k=>wi ((c.feasts.getD k 0).tmod 100) 1 31)&&(decide (c.feasts.length≤60)&&decide (c.shut.length≤200)&&aC c.order r.orders.length&&aC c.currency r.currencies.length)&&
 (rising c.rest 0 6&&rising c.feasts 101 1231&&rising c.shut 0 100000)
theorem aol (r:Realm)(c:City)(h1:c.rest.length≤4294967296)(h2:c.feasts.length≤4294967296)(h3:c.shut.length≤4294967296):ak T 56 [bA r,gh c] (.bool (oT r c)):=by
 refine .of_tree rfl (lA 27 (by kernel_rfl)) aqT ?_;simp[Rq];refine kY c.feasts.length (fun k=>wi ((c.feasts.getD k 0).tmod 100) 1 31) (fun k=>[.bool false,.int k]) (fun _=>[]) ?_ (fun k hk ho=>?_) (fun k hk ho hb=>?_) (fun hj=>?_)
 ·simp
 ·have hw:=bI hk h2;simp[wi,hk] at ho;have g1:¬(c.feasts[k].tmod 100<1):=by omega
  have g2:¬(31<c.feasts[k].tmod 100):=by omega
  simp[Pu,Df,hk,hw,ints,g1,g2]
 ·have hf:oT r c=false:=by simp only[oT,hb,tO]
  simp[wi,hk] at ho;simp[Pu,Df,hk,ints,hf];by_cases g1:c.feasts[k].tmod 100<1
  ·simp[g1]
  ·have g2:=ho (by omega);simp[g1,g2]
 ·simp[Pu,Df];by_cases g1:(c.feasts.length:Int)≤60
  case neg=>
   have hf:oT r c=false:=by
        have iI:decide (c.feasts.length≤60)=false:=decide_eq_false (by omega);simp only[oT,iI,tO,D7]
   have iI:(60:Int)<c.feasts.length:=by omega
   simp[g1,iI,hf]
  by_cases g2:(c.shut.length:Int)≤200
  case neg=>
   have hf:oT r c=false:=by
        have iI:decide (c.shut.length≤200)=false:=decide_eq_false (by omega);simp only[oT,iI,tO,D7]
   have sf:(200:Int)<c.shut.length:=by omega
   simp[g1,g2,sf,hf]
  have iI:¬(60:Int)<c.feasts.length:=by omega
  have sf:¬(200:Int)<c.shut.length:=by omega
  have hf:oT r c=(aC c.order r.orders.length&&aC c.currency r.currencies.length&&(rising c.rest 0 6&&rising c.feasts 101 1231&&rising c.shut 0 100000)):=by
   have e1:decide (c.feasts.length≤60)=true:=decide_eq_true (by omega);have e2:decide (c.shut.length≤200)=true:=decide_eq_true (by omega);simp only[oT,hj,e1,e2,wH]
  rw[hf];simp[g1,g2,iI,sf];refine⟨_,fe _ _,?_⟩;simp;cases e1:aC c.order r.orders.length<;>simp;refine⟨_,fe _ _,?_⟩;simp;cases e2:aC c.currency r.currencies.length<;>simp;refine⟨_,DE _ _ _ h1,?_⟩;simp;cases e3:rising c.rest 0 6<;>simp;refine⟨_,DE _ _ _ h2,?_⟩;simp;cases e4:rising c.feasts 101 1231<;>simp;exact DE _ _ _ h3
end Rm
namespace Rm
open Go Go.Proofs Cx
theorem zJ {α β:Type}(f:α→β){l:List α}{k:Nat}(h:k<l.length):(l.take (k+1)).map f=(l.take k).map f++[f l[k]]:=by
 rw[gx h,lx];rfl
theorem yO (i:Int)(n:Nat):aC i n=wi i 0 ((n:Int)-1):=by
 rw[wF];simp[wi,aC];omega
def Ak (o:Order):List Int:=o.choices.map (·.ask)
def Eu (o:Order):List Int:=o.rules.map (·.ask)
def s9 (o:Order):Bool:=fT o.choices.length (fun k=>aC (o.choices.getD k default).by_ 5)&&(rising (Ak o) 0 21&&rising (Eu o) 0 21)
theorem aoq (o:Order)(h1:o.choices.length≤100000)(h2:o.rules.length≤100000):ak T 60 [jF o] (.bool (s9 o)):=by
 refine .of_tree rfl (lA 32 (by kernel_rfl)) aqZ ?_;simp[Rx];refine kY o.choices.length (fun k=>aC (o.choices.getD k default).by_ 5) (fun k=>[.bool false,.none,.int k]) (fun k=>[ints ((o.choices.take k).map (·.ask))]) ?_ (fun k hk ho=>?_) (fun k hk ho hb=>?_) (fun hj=>?_)
 ·simp[ints]
 ·have hw:=bI hk (by omega);have hl:(o.choices.take k).length=k:=by rw[gd];omega
  simp[hk] at ho;rw[zJ _ hk];simp[Px,Di,hk,hw,ints,hl];refine⟨by omega,_,fe _ _,?_⟩;simp[ho,hw]
 ·have hf:s9 o=false:=by simp only[s9,hb,tO]
  have hl:(o.choices.take k).length=k:=by rw[gd];omega
  simp[hk] at ho;simp[Px,Di,hk,ints,hl,hf];refine⟨by omega,_,fe _ _,?_⟩;simp[ho]
 ·have hf:s9 o=(rising (Ak o) 0 21&&rising (Eu o) 0 21):=by simp only[s9,hj,wH]
  rw[hf];simp[Px,Di];refine aH.forRounds o.rules.length (fun k=>[.none,.int k]) (fun k=>[ints ((o.rules.take k).map (·.ask))]) ?_ (fun k hk=>?_) ?_
  ·simp[ints]
  ·have hw:=bI hk (by omega);have hl:(o.rules.take k).length=k:=by rw[gd];omega
   rw[zJ _ hk];simp[aaq,II,hk,hw,ints,hl];omega
  ·simp[aaq,II];refine⟨_,DE (Ak o) _ _ (by simp[Ak];omega),?_⟩;simp;cases e1:rising (Ak o) 0 21<;>simp;exact DE (Eu o) _ _ (by simp[Eu];omega)
def vB (r:Realm):List ByteArray:=r.cities.map (·.name)
def nZ (r:Realm):List ByteArray:=r.firms.map (·.name)
def ri (r:Realm):List ByteArray:=r.orders.map (·.name)
theorem aoo (r:Realm)(h1:r.cities.length≤100000)(h2:r.firms.length≤100000)(h3:r.orders.length≤100000):ak T 52 [bA r] (.tup [strs (vB r),strs (nZ r),strs (ri r)]):=by
 refine .of_tree rfl (lA 19 (by kernel_rfl)) aqY ?_;simp[Rw];refine aH.forRounds r.cities.length (fun k=>[.none,.int k]) (fun k=>[strs ((r.cities.take k).map (·.name))]) ?_ (fun k hk=>?_) ?_
 ·simp[strs]
 ·have hw:=bI hk (by omega);have hl:(r.cities.take k).length=k:=by rw[gd];omega
  rw[zJ _ hk];simp[aan,IE,hk,hw,strs,hl];omega
 ·simp[aan,IE];refine aH.forRounds r.firms.length (fun k=>[.none,.int k]) (fun k=>[strs ((r.firms.take k).map (·.name))]) ?_ (fun k hk=>?_) ?_
  ·simp[strs]
  ·have hw:=bI hk (by omega);have hl:(r.firms.take k).length=k:=by rw[gd];omega
   rw[zJ _ hk];simp[aao,IF,hk,hw,strs,hl];omega
  ·simp[aao,IF];refine aH.forRounds r.orders.length (fun k=>[.none,.int k]) (fun k=>[strs ((r.orders.take k).map (·.name))]) ?_ (fun k hk=>?_) ?_
   ·simp[strs]
   ·have hw:=bI hk (by omega);have hl:(r.orders.take k).length=k:=by rw[gd];omega
    rw[zJ _ hk];simp[aap,IG,hk,hw,strs,hl];omega
   ·simp[aap,IG,vB,nZ,ri]
end Rm
namespace Rm
open Go Go.Proofs Cx
structure Small (r:Realm):Prop where
 cur:r.currencies.length≤1000
 cities:r.cities.length≤1000
 groups:r.groups.length≤1000
 firms:r.firms.length≤1000
 orders:r.orders.length≤1000
 us:r.usances.length≤1000
 rates:r.rates.length≤1000
 halts:r.halts.length≤1000
 city:∀c,c∈r.cities→c.rest.length≤1000∧c.feasts.length≤1000∧c.shut.length≤1000∧∀y,y∈c.feasts→aZ y
 order:∀o,o∈r.orders→o.choices.length≤1000∧o.rules.length≤1000
 rate:∀x,x∈r.rates→aZ x.num∧aZ x.den
def tK (r:Realm)(k j:Nat):Bool:=(r.usances.getD j default).fr !=(r.usances.getD k default).fr||(r.usances.getD j default).to !=(r.usances.getD k default).to
def Ju (r:Realm)(k:Nat):Int:=
 if(aC (r.usances.getD k default).fr r.cities.length&&aC (r.usances.getD k default).to r.cities.length&&wi (r.usances.getD k default).days 1 20000)=false then 1 else if fT k (tK r k) then 0 else 5
def Jv (r:Realm):Int:=if 100<r.usances.length then 6 else eU r.usances.length (Ju r)
theorem aos (r:Realm)(h:Small r):ak T 61 [bA r] (.int (Jv r)):=by
 refine .of_tree rfl (lA 33 (by kernel_rfl)) aq2 ?_;have hu:=h.us;simp[RA,Jv];by_cases h0:100<r.usances.length
 ·have gO:(100:Int)<r.usances.length:=by omega
  have Ll:¬r.usances.length≤100:=by omega
  simp[h0,gO,Ll]
 have gO:¬(100:Int)<r.usances.length:=by omega
 simp[h0,gO];refine wh r.usances.length (Ju r) (fun k=>[.int 0,.int k]) (fun _=>[]) ?_ (fun k hk ho=>?_) (fun k hk ho hb=>?_) (fun hj=>?_)
 ·simp
 ·have hw:=bI hk (by omega);have ha:aC r.usances[k].fr r.cities.length=true∧aC r.usances[k].to r.cities.length=true∧wi r.usances[k].days 1 20000=true∧fT k (tK r k)=true:=by
   unfold Ju at ho;simp only[aI,be hk,ly] at ho;cases e1:aC r.usances[k].fr r.cities.length<;>cases e2:aC r.usances[k].to r.cities.length<;>cases e3:wi r.usances[k].days 1 20000<;>cases e4:fT k (tK r k)<;>simp[e1,e2,e3,e4] at ho ⊢
  obtain⟨a1,a2,a3,a4⟩:=ha;simp[wi] at a3;have a5:¬r.usances[k].days<1:=by omega
  have a6:¬20000<r.usances[k].days:=by omega
  simp[PA,Dl,hk];refine⟨_,fe _ _,?_⟩;simp[a1];refine⟨_,fe _ _,?_⟩;simp[a2,a5,a6];refine⟨by omega,kY k (tK r k) (fun j=>[.int 0,.int j]) (fun _=>[]) ?_ (fun j hj kh=>?_) (fun j hj kh fm=>?_) (fun uQ=>?_)⟩
  ·simp
  ·have MN:=bI hj (by omega);have cC:j<r.usances.length:=by omega
   have hm:j<min k r.usances.length:=by omega
   simp[tK,cC,hk] at kh;simp[IJ,zt,hj,cC,hk,MN,hm];intro e e';rcases kh with h|h
   ·exact absurd e h
   ·exact absurd e' h
  ·rw[a4] at fm;cases fm
  ·simp[IJ,zt,hw];omega
 ·simp[PA,Dl,hk,hb];refine⟨_,fe _ _,?_⟩;unfold Ju at ho ⊢;simp only[aI,be hk,ly] at ho ⊢;cases e1:aC r.usances[k].fr r.cities.length
  ·simp
  simp;refine⟨_,fe _ _,?_⟩;cases e2:aC r.usances[k].to r.cities.length
  ·simp
  cases e3:wi r.usances[k].days 1 20000
  ·simp[wi] at e3;by_cases g:r.usances[k].days<1
   ·simp[g]
   ·simp[g,e3 (by omega)]
  have KR:=e3;simp[wi] at KR;have a5:¬r.usances[k].days<1:=by omega
  have a6:¬20000<r.usances[k].days:=by omega
  simp[e1,e2,e3] at ho;simp[a5,a6];refine⟨by omega,kY k (tK r k) (fun j=>[.int 0,.int j]) (fun _=>[]) ?_ (fun j hj kh=>?_) (fun j hj kh fm=>?_) (fun uQ=>?_)⟩
  ·simp
  ·have MN:=bI hj (by omega);have cC:j<r.usances.length:=by omega
   have hm:j<min k r.usances.length:=by omega
   simp[tK,cC,hk] at kh;simp[IJ,zt,hj,cC,hk,MN,hm];intro e e';rcases kh with h|h
   ·exact absurd e h
   ·exact absurd e' h
  ·have cC:j<r.usances.length:=by omega
   have hm:j<min k r.usances.length:=by omega
   simp[tK,cC,hk] at kh;simp[IJ,zt,hj,cC,hk,ho,hm]
   first|exact kh|simp[kh]
  ·rw[uQ] at ho;cases ho
 ·simp[PA,Dl,hj]
def CZ (r:Realm)(k:Nat):Bool:=aC (r.rates.getD k default).fr r.currencies.length&&aC (r.rates.getD k default).to r.currencies.length&&((r.rates.getD k default).fr !=(r.rates.getD k default).to)&&
 wi (r.rates.getD k default).num 1 1073741824&&wi (r.rates.getD k default).den 1 1073741824&&wi (r.rates.getD k default).since 0 100000
def Bs (r:Realm)(k:Nat):Bool:=aC (r.halts.getD k default).order r.orders.length&&wi (r.halts.getD k default).fr 0 (r.halts.getD k default).to&&decide ((r.halts.getD k default).to≤100000)
def pZ (r:Realm):Int:=if 100<r.rates.length then 6 else if fT r.rates.length (CZ r)=false then 1 else if 20<r.halts.length then 6 else if fT r.halts.length (Bs r) then 0 else 1
theorem Hb {n:Int}(h:aZ n)(m:Int)(hm:0≤m∧m≤4294967296):aC (IntKind.i64.wrap (n-1)) m=wi n 1 m:=by
 unfold aZ at h;by_cases e:n=-9223372036854775808
 ·subst e;have:IntKind.i64.wrap (-9223372036854775808-1)=9223372036854775807:=by decide
  rw[this,wF];simp[aC,wi];omega
 ·rw[bG (by omega),wF];simp[aC,wi];omega
theorem Wt (n:Int):aC n 100001=wi n 0 100000:=by rw[wF];simp[aC,wi];omega
theorem aor (r:Realm)(h:Small r):ak T 62 [bA r] (.int (pZ r)):=by
 refine .of_tree rfl (lA 34 (by kernel_rfl)) aq0 ?_;have hu:=h.rates;have hh:=h.halts;simp[Ry,pZ];by_cases h0:100<r.rates.length
 ·have gO:(100:Int)<r.rates.length:=by omega
  have Ll:¬r.rates.length≤100:=by omega
  simp[h0,gO,Ll]
 have gO:¬(100:Int)<r.rates.length:=by omega
 simp[h0,gO];have key:∀k (hk:k<r.rates.length),∀{ρ:Env} {Q:Out→Prop},True:=fun _ _ _ _=>trivial;refine kY r.rates.length (CZ r) (fun k=>[.int 0,.int k]) (fun _=>[]) ?_ (fun k hk ho=>?_) (fun k hk ho hb=>?_) (fun hj=>?_)
 ·simp
 ·have hw:=bI hk (by omega);have hI:=h.rate _ (cM hk);simp[CZ,hk] at ho;obtain⟨⟨⟨⟨⟨a1,a2⟩,a3⟩,a4⟩,a5⟩,a6⟩:=ho;simp[Py,Dj,hk];refine⟨_,fe _ _,?_⟩;simp[a1];refine⟨_,fe _ _,?_⟩;simp[a2,a3];refine⟨_,fe _ _,?_⟩;simp[Hb hI.1,a4];refine⟨_,fe _ _,?_⟩;simp[Hb hI.2,a5];refine⟨_,fe _ _,?_⟩;simp[Wt,a6,hw]
 ·have hI:=h.rate _ (cM hk);rw[hb];simp[CZ,hk] at ho;simp[Py,Dj,hk];refine⟨_,fe _ _,?_⟩;cases e1:aC r.rates[k].fr r.currencies.length
  ·simp
  simp;refine⟨_,fe _ _,?_⟩;cases e2:aC r.rates[k].to r.currencies.length
  ·simp
  by_cases e3:r.rates[k].fr=r.rates[k].to
  ·simp[e3]
  simp[e3];refine⟨_,fe _ _,?_⟩;rw[Hb hI.1 _ (by omega)];cases e4:wi r.rates[k].num 1 1073741824
  ·simp
  simp;refine⟨_,fe _ _,?_⟩;rw[Hb hI.2 _ (by omega)];cases e5:wi r.rates[k].den 1 1073741824
  ·simp
  simp;refine⟨_,fe _ _,?_⟩;rw[Wt];simp[ho e1 e2 e3 e4 e5]
 ·rw[hj];simp[Py,Dj];by_cases h1:20<r.halts.length
  ·have cP:(20:Int)<r.halts.length:=by omega
   have agL:¬r.halts.length≤20:=by omega
   simp[h1,cP,agL]
  have cP:¬(20:Int)<r.halts.length:=by omega
  simp[h1,cP];refine kY r.halts.length (Bs r) (fun k=>[.int 0,.int k]) (fun _=>[]) ?_ (fun k hk ho=>?_) (fun k hk ho hb=>?_) (fun hj=>?_)
  ·simp
  ·have hw:=bI hk (by omega);simp[Bs,wi,hk] at ho;obtain⟨⟨a1,a2⟩,a3⟩:=ho;have b1:¬r.halts[k].fr<0:=by omega
   have b2:¬r.halts[k].to<r.halts[k].fr:=by omega
   have b3:¬100000<r.halts[k].to:=by omega
   simp[Pz,Dk,hk];refine⟨_,fe _ _,?_⟩;simp[a1,b1,b2,b3,hw]
  ·rw[hb];simp[Bs,wi,hk] at ho;simp[Pz,Dk,hk];refine⟨_,fe _ _,?_⟩;cases e1:aC r.halts[k].order r.orders.length
   ·simp
   have:=ho e1;by_cases b1:r.halts[k].fr<0
   ·simp[b1]
   by_cases b2:r.halts[k].to<r.halts[k].fr
   ·simp[b1,b2]
   have b3:100000<r.halts[k].to:=this (by omega) (by omega);simp[b1,b2,b3]
  ·rw[hj];simp[Pz,Dk]
end Rm
namespace Rm
open Go Go.Proofs Cx
def ma:List Int→Int
 |[]=>0
 |x::l=>if x=0 then ma l else x
theorem DP:∀{l:List Int},ma l=0↔∀x,x∈l→x=0
 |[]=>by simp[ma]
 |x::l=>by
  simp only[ma,cG,forall_eq_or_imp];by_cases h:x=0
  ·simp[h,DP (l:=l)]
  ·simp[h]
def qJ (r:Realm)(i:Nat):Bool:=aC (r.firms.getD i default).city r.cities.length&&aC (r.firms.getD i default).group r.groups.length
def AM (r:Realm)(i:Nat):Bool:=oT r (r.cities.getD i default)
def vH (r:Realm)(i:Nat):Bool:=s9 (r.orders.getD i default)
def F9 (r:Realm)(i:Nat):Bool:=aC (r.groups.getD i default).grade 10
def Bk (r:Realm):Int:=if 20<r.groups.length then 6 else if fT r.groups.length (F9 r) then 0 else 1
def ix (r:Realm):Int:=ma [jH r.currencies 8 (fun _=>true),jH (vB r) 40 (AM r),Bk r,jH (nZ r) 200 (qJ r),jH (ri r) 20 (vH r),Jv r,pZ r]
theorem adj (i:Int):ak T 54 [.int i] (.bool true):=by
 refine .of_tree rfl (lA 25 (by kernel_rfl)) aqL ?_;simp[Rk]
theorem adk (r:Realm)(h:Small r)(i:Nat)(hi:i<r.cities.length):ak T 55 [.int i,.ref (bA r)] (.bool (AM r i)):=by
 refine .of_tree rfl (lA 26 (by kernel_rfl)) aqM ?_;obtain⟨h1,h2,h3,h4⟩:=h.city _ (cM hi);simp[Rl,hi,AM];exact aol r r.cities[i] (by omega) (by omega) (by omega)
theorem adl (r:Realm)(i:Nat)(hi:i<r.firms.length):ak T 58 [.int i,.ref (bA r)] (.bool (qJ r i)):=by
 refine .of_tree rfl (lA 30 (by kernel_rfl)) aqN ?_;simp[Rm,hi,qJ];refine⟨_,fe _ _,?_⟩;simp[hi];cases e1:aC r.firms[i].city r.cities.length<;>simp;exact fe _ _
theorem adm (r:Realm)(h:Small r)(i:Nat)(hi:i<r.orders.length):ak T 59 [.int i,.ref (bA r)] (.bool (vH r i)):=by
 refine .of_tree rfl (lA 31 (by kernel_rfl)) aqO ?_;obtain⟨h1,h2⟩:=h.order _ (cM hi);simp[Rn,hi,vH];exact aoq r.orders[i] (by omega) (by omega)
theorem PZ (r:Realm)(h:Small r):ak T 14 [bA r] (.int (ix r)):=by
 refine .of_tree rfl (lA 18 (by kernel_rfl)) aqP ?_;have g1:=h.cur;have g2:=h.cities;have g3:=h.firms;have g4:=h.orders;have g5:=h.groups;simp[Rj];refine⟨_,aoo r (by omega) (by omega) (by omega),?_⟩;simp;refine⟨_,IS r.currencies 8 54 [] (fun _=>true) (fun i _=>adj _) (by omega),?_⟩;unfold ix;generalize e1:jH r.currencies 8 (fun _=>true)=x1;by_cases z1:x1=0
 case neg=>simp[z1,ma]
 simp[z1,ma];refine⟨_,IS (vB r) 40 55 [.ref (bA r)] (AM r) (fun i hi=>adk r h i (by simpa [vB] using hi)) (by simp[vB];omega),?_⟩;generalize e2:jH (vB r) 40 (AM r)=x2;by_cases z2:x2=0
 case neg=>simp[z2]
 simp[z2];by_cases z3:20<r.groups.length
 ·have SC:(20:Int)<r.groups.length:=by omega
  simp[SC,Bk,z3]
 have SC:¬(20:Int)<r.groups.length:=by omega
 simp[SC,Bk,z3];refine kY r.groups.length (F9 r) (fun k=>[.int 0,.int k]) (fun _=>[]) ?_ (fun k hk ho=>?_) (fun k hk ho hb=>?_) (fun hj=>?_)
 ·simp
 ·have hw:=bI hk (by omega);simp[F9,hk] at ho;simp[Ps,Dc,hk];refine⟨_,fe _ _,?_⟩;simp[ho,hw]
 ·simp[F9,hk] at ho;rw[hb];simp[Ps,Dc,hk];refine⟨_,fe _ _,?_⟩;simp[ho]
 ·rw[hj];simp[Ps,Dc];refine⟨_,IS (nZ r) 200 58 [.ref (bA r)] (qJ r) (fun i hi=>adl r i (by simpa [nZ] using hi)) (by simp[nZ];omega),?_⟩;generalize e4:jH (nZ r) 200 (qJ r)=x4;by_cases z4:x4=0
  case neg=>simp[z4]
  simp[z4];refine⟨_,IS (ri r) 20 59 [.ref (bA r)] (vH r) (fun i hi=>adm r h i (by simpa [ri] using hi)) (by simp[ri];omega),?_⟩;generalize e5:jH (ri r) 20 (vH r)=x5;by_cases z5:x5=0
  case neg=>simp[z5]
  simp[z5];refine⟨_,aos r h,?_⟩;generalize e6:Jv r=x6;by_cases z6:x6=0
  case neg=>simp[z6]
  simp[z6];have e7:(if pZ r=0 then 0 else pZ r)=pZ r:=by split<;>simp_all
  rw[e7];exact aor r h
theorem Ld {l:List ByteArray}{g:Nat→Bool}{k:Nat}(h:uD l g k=0):sW l k=0∧g k=true:=by
 unfold uD at h;by_cases h1:sW l k=0
 ·simp[h1] at h;exact⟨h1,h⟩
 ·simp[h1] at h
end Rm
namespace Rm
open Go Go.Proofs Cx
def iW:Nat→Tm→Int→Int
 |0,_,_=>-1
 |L+1,t,n=>t.args.foldl (fun m a=>if 0≤m then iW L a m else m) (n-1)
theorem size_le:∀(L:Nat) (t:Tm) (n:Int),0≤n→-1≤iW L t n∧iW L t n≤n
 |0,t,n,h=>by simp[iW];omega
 |L+1,t,n,h=>by
  have key:∀(l:List Tm) (m:Int),-1≤m→m≤n→-1≤l.foldl (fun m a=>if 0≤m then iW L a m else m) m∧l.foldl (fun m a=>if 0≤m then iW L a m else m) m≤n:=by
   intro l
   induction l with
   |nil=>intro m h1 h2;exact⟨h1,h2⟩
   |cons a l ih=>
    intro m h1 h2;simp only[Ee];split
    ·rename_i hm;have:=size_le L a m hm;exact ih _ this.1 (by omega)
    ·exact ih _ h1 h2
  exact key _ _ (by omega) (by omega)
theorem aaX (L:Nat):∀(l:List Tm) (m:Int),m<0→l.foldl (fun m a=>if 0≤m then iW L a m else m) m=m
 |[],m,h=>rfl
 |a::l,m,h=>by simp only[Ee];rw[if_neg (by omega)];exact aaX L l m h
theorem ags {α β:Type}(f:β→α→β)(b:β){l:List α}{k:Nat}(h:k<l.length):(l.take (k+1)).foldl f b=f ((l.take k).foldl f b) l[k]:=by
 rw[gx h,wM];rfl
theorem agr {α β:Type}(f:β→α→β)(b:β)(l:List α)(k:Nat):l.foldl f b=(l.drop k).foldl f ((l.take k).foldl f b):=by
 rw[←wM,JJ]
theorem _root_.Cx.Tm.OK.len {t:Tm}(h:t.OK):t.args.length≤9223372036854775807:=by cases h with|mk o n xs h1 h2 h3 h4=>exact h3
theorem _root_.Cx.Tm.OK.arg {t:Tm}(h:t.OK){a:Tm}(ha:a∈t.args):a.OK:=by cases h with|mk o n xs h1 h2 h3 h4=>exact h4 a ha
theorem Z0:∀(L:Nat) (t:Tm) (n:Int),t.OK→0≤n→n≤1000→L≤1000→ak T 159 [du t,.int n,.int L] (.int (iW L t n))
 |0,t,n,ht,h0,h1,hL=>by
  refine .of_tree rfl TC abc ?_;simp[Jo,iW]
 |L+1,t,n,ht,h0,h1,hL=>by
  refine .of_tree rfl TC abc ?_;have pB:IntKind.i64.wrap (n-1)=n-1:=bG (by omega);have hl:=ht.len;have kf:¬((L:Int)+1<1):=by omega
  simp[Jo,pB,kf]
  let g:Nat→Int:=fun k=>(t.args.take k).foldl (fun m a=>if 0≤m then iW L a m else m) (n-1)
  have gb:∀k,-1≤g k∧g k≤1000:=by
   intro k;have:g k=iW (L+1) (.mk 0 0 (t.args.take k)) n:=rfl;have:=size_le (L+1) (.mk 0 0 (t.args.take k)) n h0;omega
  refine .scan t.args.length (fun k=>0≤g k) (fun k=>[.int (g k),.int k]) (fun _=>[]) ?_ (fun k hk hj ho=>?_) (fun k hk hj ho=>?_) (fun hj=>?_)
  ·simp[g,pB]
  ·have hw:IntKind.i64.wrap ((k:Int)+1)=(k:Int)+1:=bG (by omega);have G9:IntKind.i64.wrap (L:Int)=(L:Int):=bG (by omega);have hg:g (k+1)=iW L t.args[k] (g k):=by
    show(t.args.take (k+1)).foldl _ _=_;rw[ags _ _ hk];show(if 0≤g k then _ else _)=_;rw[if_pos ho]
   rw[hg];have gG:=Z0 L t.args[k] (g k) (ht.arg (cM hk)) ho (gb k).2 (by omega);generalize g k=m at*;simp[Pp,C9,hk,ho,G9];refine⟨_,gG,?_⟩;simp[hw]
  ·have hf:iW (L+1) t n=g k:=by
    show t.args.foldl _ _=_;rw[agr _ _ _ k];exact aaX L _ _ (by show g k<0;omega)
   rw[hf];generalize g k=m at*;simp[Pp,C9,hk,ho]
  ·have hf:iW (L+1) t n=g t.args.length:=by
    show t.args.foldl _ _=(t.args.take t.args.length).foldl _ _;rw[JK]
   rw[hf];generalize g t.args.length=m at*;simp[Pp,C9]
theorem ZZ (t:Tm)(ht:t.OK):ak T 101 [du t] (.bool (decide (0≤iW 20 t 100))):=by
 refine .of_tree rfl (lA 16 (by kernel_rfl)) aqI ?_;simp[Rg];refine⟨_,Z0 20 t 100 ht (by omega) (by omega) (by omega),?_⟩;simp
def pf (o:Order):Bool:=(decide (o.rules.length≤60)&&decide (o.choices.length≤60))&&fT o.rules.length (fun k=>decide (0≤iW 20 (o.rules.getD k default).term 100))
theorem Z1 (o:Order)(ho:o.OK):ak T 51 [jF o] (.bool (pf o)):=by
 refine .of_tree rfl (lA 15 (by kernel_rfl)) aqJ ?_;simp[Rh];by_cases h1:(o.rules.length:Int)≤60
 case neg=>
  have cP:(60:Int)<o.rules.length:=by omega
  have hf:pf o=false:=by
   have:decide (o.rules.length≤60)=false:=decide_eq_false (by omega);simp only[pf,this,tO]
  simp[cP,hf]
 by_cases h2:(o.choices.length:Int)≤60
 case neg=>
  have cP:(60:Int)<o.choices.length:=by omega
  have hf:pf o=false:=by
   have:decide (o.choices.length≤60)=false:=decide_eq_false (by omega);simp only[pf,this,tO,D7]
  simp[cP,hf]
 have cP:¬(60:Int)<o.rules.length:=by omega
 have j7:¬(60:Int)<o.choices.length:=by omega
 have hf:pf o=fT o.rules.length (fun k=>decide (0≤iW 20 (o.rules.getD k default).term 100)):=by
  have e1:decide (o.rules.length≤60)=true:=decide_eq_true (by omega);have e2:decide (o.choices.length≤60)=true:=decide_eq_true (by omega);simp only[pf,e1,e2,wH]
 rw[hf];simp[cP,j7];have hO:=ho.2.2;refine kY o.rules.length (fun k=>decide (0≤iW 20 (o.rules.getD k default).term 100)) (fun k=>[.bool false,.int k]) (fun _=>[]) ?_ (fun k hk ho=>?_) (fun k hk ho hb=>?_) (fun hj=>?_)
 ·simp
 ·have hw:=bI hk (by omega);simp[hk] at ho;simp[Pq,Da,hk];refine⟨_,ZZ _ (hO _ (cM hk)).2,?_⟩;simp[ho,hw]
 ·simp only[aI] at hb;rw[hb];simp[hk] at ho;simp[Pq,Da,hk];refine⟨_,ZZ _ (hO _ (cM hk)).2,?_⟩;simp[ho]
 ·simp only[aI] at hj;rw[hj];simp[Pq,Da]
def xW (f:File):Bool:=decide ((f.signs.length:Int)≤50)&&decide ((f.alters.length:Int)≤10)&&decide ((f.acts.length:Int)≤110)&&decide ((f.facts.length:Int)≤220)
theorem anM (f:File):ak T 50 [cB f] (.bool (xW f)):=by
 refine .of_tree rfl (lA 14 (by kernel_rfl)) aqH ?_;simp[Rf,xW];by_cases h1:(f.signs.length:Int)≤50<;>by_cases h2:(f.alters.length:Int)≤10<;>by_cases h3:(f.acts.length:Int)≤110<;>by_cases h4:(f.facts.length:Int)≤220<;>
  simp[h1,h2,h3,h4]
end Rm
namespace Rm
open Go Go.Proofs Cx
def A8 (r:Realm)(k:Nat):Bool:=decide (((r.cities.getD k default).feasts.length:Int)≤70)&&decide (((r.cities.getD k default).shut.length:Int)≤210)&&decide (((r.cities.getD k default).rest.length:Int)≤8)
def A9 (r:Realm)(k:Nat):Bool:=decide (((r.orders.getD k default).choices.length:Int)≤40)&&decide (((r.orders.getD k default).rules.length:Int)≤40)
def F2 (r:Realm):Bool:=decide ((r.currencies.length:Int)<50)&&decide ((r.cities.length:Int)<50)&&decide ((r.groups.length:Int)<50)&&decide ((r.firms.length:Int)<210)&&decide ((r.orders.length:Int)<50)&&decide ((r.usances.length:Int)<110)&&decide ((r.rates.length:Int)<110)&&decide ((r.halts.length:Int)<50)
def nK (r:Realm):Bool:=fT (min r.cities.length 50) (A8 r)&&fT (min r.orders.length 50) (A9 r)&&F2 r
theorem anG (r:Realm)(hr:r.OK):ak T 19 [bA r] (.bool (nK r)):=by
 refine .of_tree rfl (lA 13 (by kernel_rfl)) aqF ?_;simp[Rc];refine kY (min r.cities.length 50) (A8 r) (fun k=>[.bool false,.int k]) (fun _=>[]) ?_ (fun k hk ho=>?_) (fun k hk ho hb=>?_) (fun hj=>?_)
 ·simp
 ·have bQ:k<r.cities.length:=by omega
  have cq:k<50:=by omega
  have hw:=bI cq (by omega);simp[A8,bQ] at ho;obtain⟨⟨a1,a2⟩,a3⟩:=ho;have b1:¬(70:Int)<r.cities[k].feasts.length:=by omega
  have b2:¬(210:Int)<r.cities[k].shut.length:=by omega
  have b3:¬(8:Int)<r.cities[k].rest.length:=by omega
  simp[C8,v8,bQ,cq,hw,b1,b2,b3];omega
 ·have bQ:k<r.cities.length:=by omega
  have cq:k<50:=by omega
  have hf:nK r=false:=by simp only[nK,hb,tO]
  rw[hf];simp[A8,bQ] at ho;by_cases b1:(70:Int)<r.cities[k].feasts.length
  ·simp[C8,v8,bQ,cq,b1];omega
  by_cases b2:(210:Int)<r.cities[k].shut.length
  ·simp[C8,v8,bQ,cq,b1,b2];omega
  have b3:(8:Int)<r.cities[k].rest.length:=by have:=ho (by omega) (by omega);omega
  simp[C8,v8,bQ,cq,b1,b2,b3];omega
 ·have hn:¬((min r.cities.length 50:Nat):Int)<r.cities.length∨¬((min r.cities.length 50:Nat):Int)<50:=by omega
  simp[C8,v8];rw[if_neg (by omega)];refine kY (min r.orders.length 50) (A9 r) (fun k=>[.bool false,.int k]) (fun _=>[]) ?_ (fun k hk ho=>?_) (fun k hk ho hb=>?_) (fun BM=>?_)
  ·simp
  ·have bQ:k<r.orders.length:=by omega
   have cq:k<50:=by omega
   have hw:=bI cq (by omega);simp[A9,bQ] at ho;obtain⟨a1,a2⟩:=ho;have b1:¬(40:Int)<r.orders[k].choices.length:=by omega
   have b2:¬(40:Int)<r.orders[k].rules.length:=by omega
   simp[ID,zq,bQ,cq,hw,b1,b2];omega
  ·have bQ:k<r.orders.length:=by omega
   have cq:k<50:=by omega
   have hf:nK r=false:=by simp only[nK,hb,tO,D7]
   rw[hf];simp[A9,bQ] at ho;by_cases b1:(40:Int)<r.orders[k].choices.length
   ·simp[ID,zq,bQ,cq,b1];omega
   have b2:(40:Int)<r.orders[k].rules.length:=by have:=ho (by omega);omega
   simp[ID,zq,bQ,cq,b1,b2];omega
  ·have hf:nK r=F2 r:=by simp only[nK,hj,BM,wH]
   rw[hf];simp[ID,zq];rw[if_neg (by omega)];unfold F2;by_cases c1:(r.currencies.length:Int)<50<;>simp[c1];by_cases c2:(r.cities.length:Int)<50<;>simp[c2];by_cases c3:(r.groups.length:Int)<50<;>simp[c3];by_cases c4:(r.firms.length:Int)<210<;>simp[c4];by_cases c5:(r.orders.length:Int)<50<;>simp[c5];by_cases c6:(r.usances.length:Int)<110<;>simp[c6];by_cases c7:(r.rates.length:Int)<110<;>simp[c7]
theorem K8 {r:Realm}(hr:r.OK)(h:nK r=true):Small r:=by
 simp only[nK,F2,aq,decide_eq_true_eq,Ai] at h;obtain⟨⟨h1,h2⟩,⟨⟨⟨⟨⟨⟨⟨c1,c2⟩,c3⟩,c4⟩,c5⟩,c6⟩,c7⟩,c8⟩⟩:=h;obtain⟨k1,⟨k2,k2'⟩,⟨k3,k3'⟩,⟨k4,k4'⟩,⟨k5,k5'⟩,⟨k6,k6'⟩,⟨k7,k7'⟩,⟨k8,k8'⟩⟩:=hr;refine⟨by omega,by omega,by omega,by omega,by omega,by omega,by omega,by omega,fun c hc=>?_,fun o ho=>?_,fun x hx=>?_⟩
 ·obtain⟨k,hk,rfl⟩:=fj hc;have:=h1 k (by omega);simp[A8,hk] at this;have:=k2' _ hc;exact⟨by omega,by omega,by omega,fun y hy=>this.2.2.2.1.2 y hy⟩
 ·obtain⟨k,hk,rfl⟩:=fj ho;have:=h2 k (by omega);simp[A9,hk] at this;omega
 ·have:=k7' x hx;exact⟨this.2.2.1,this.2.2.2.1⟩
def nJ (r:Realm)(f:File):Bool:=(nK r&&xW f)&&fT r.orders.length (fun k=>pf (r.orders.getD k default))
theorem anN (r:Realm)(f:File)(hr:r.OK):ak T 13 [bA r,cB f] (.bool (nJ r f)):=by
 refine .of_tree rfl (lA 12 (by kernel_rfl)) aqK ?_;simp[Ri];refine⟨_,anG r hr,?_⟩;cases e1:nK r
 ·simp[nJ,e1]
 simp;refine⟨_,anM f,?_⟩;cases e2:xW f
 ·simp[nJ,e1,e2]
 have hs:=K8 hr e1;have ho:=hs.orders;have hf:nJ r f=fT r.orders.length (fun k=>pf (r.orders.getD k default)):=by simp only[nJ,e1,e2,wH]
 rw[hf];simp;have hO:=hr.2.2.2.2.1.2;refine kY r.orders.length (fun k=>pf (r.orders.getD k default)) (fun k=>[.bool false,.int k]) (fun _=>[]) ?_ (fun k hk ho=>?_) (fun k hk ho hb=>?_) (fun hj=>?_)
 ·simp
 ·have hw:=bI hk (by omega);simp[hk] at ho;simp[Pr,Db,hk];refine⟨_,Z1 _ (hO _ (cM hk)),?_⟩;simp[ho,hw]
 ·simp only[aI] at hb;rw[hb];simp[hk] at ho;simp[Pr,Db,hk];refine⟨_,Z1 _ (hO _ (cM hk)),?_⟩;simp[ho]
 ·simp only[aI] at hj;rw[hj];simp[Pr,Db]
def yb (r:Realm)(f:File):Bool:=nJ r f&&decide (ix r=0)
def nD (n:Int):Int:=min (max n (-1099511627776)) 1099511627776
theorem Jf (n:Int):ak T 252 [.int n] (.int (nD n)):=by
 refine .of_tree rfl (lA 85 (by kernel_rfl)) arB ?_;simp[R4,nD];by_cases h1:-1099511627776>n
 ·have:¬(1099511627776:Int)< -1099511627776:=by omega
  simp[h1];omega
 ·by_cases h2:(1099511627776:Int)<n
  ·simp[h1,h2];omega
  ·simp[h1,h2];omega
def lh (v:Int):Int×Bool:=if v<0∨19<v then(0,false) else if v<7 then(0,true) else(1,true)
theorem aa6 (v:Int):ak T 250 [.int v] (.tup [.int (lh v).1,.bool (lh v).2]):=by
 refine .of_tree rfl (lA 86 (by kernel_rfl)) arx ?_;simp[R0,lh];by_cases h1:v<0
 ·simp[h1]
 by_cases h2:19<v
 ·simp[h1,h2]
 by_cases h3:v<7
 ·simp[h1,h2,h3]
 ·simp[h1,h2,h3]
def Cu (t:Tm):Int×Int:=
 if 0<t.args.length then(0,2) else if t.op=0 then(if nD t.n≠t.n then(0,3) else(0,0)) else if t.op=1 then(if t.n<0∨1<t.n then(0,3) else(1,0)) else if(lh t.n).2=false then(0,10) else((lh t.n).1,0)
theorem apy (t:Tm):ak T 248 [du t] (.tup [.int (Cu t).1,.int (Cu t).2]):=by
 refine .of_tree rfl (lA 84 (by kernel_rfl)) arC ?_;simp[R5,Cu];by_cases h0:0<t.args.length
 ·have gO:(0:Int)<t.args.length:=by omega
  simp[h0,gO]
 simp[h0];by_cases h1:t.op=0
 ·simp[h1];refine⟨_,Jf _,?_⟩;by_cases h2:nD t.n=t.n<;>simp[h2]
 by_cases h2:t.op=1
 ·simp[h1,h2];by_cases h3:t.n<0<;>by_cases h4:1<t.n<;>simp[h3,h4]
 simp[h1,h2];refine⟨_,aa6 _,?_⟩;cases h3:(lh t.n).2<;>simp[h3]
def ez (op:Int):List Int×Int:=
 if op=3 then([1],1) else if op=4∨op=5 then([1,1],1) else if op=6 then([1,-1,-1],-1) else if op=7 then([0,0],1) else if op=8 then([-1,-1],1) else([0,0],0)
def A5 (s:List Int×Int):D:=.agg [ints s.1,.int s.2]
@[simp] theorem at4 (s:List Int×Int):(A5 s).cells=[ints s.1,.int s.2]:=_root_.id rfl
@[simp] theorem at2 (s:List Int×Int):(A5 s).c 0=ints s.1:=_root_.id rfl
@[simp] theorem at3 (s:List Int×Int):(A5 s).c 1=.int s.2:=_root_.id rfl
@[simp] theorem ax6 (s:List Int×Int):D.agg [ints s.1,.int s.2]=A5 s:=_root_.id rfl
@[simp] theorem ayV (x y:Int):tE (.int x) 0 (.int y)=.int y:=_root_.id rfl
theorem apA (op:Int):ak T 249 [.int op] (A5 (ez op)):=by
 refine .of_tree rfl (lA 87 (by kernel_rfl)) arG ?_;simp[R8,ez];by_cases h3:op=3
 ·simp[h3];rfl
 by_cases h4:op=4
 ·simp[h4];rfl
 by_cases h5:op=5
 ·simp[h5];rfl
 by_cases h6:op=6
 ·simp[h6];rfl
 by_cases h7:op=7
 ·simp[h7];rfl
 by_cases h8:op=8
 ·simp[h8];rfl
 simp[h3,h4,h5,h6,h7,h8];rfl
end Rm
namespace Rm
open Go Go.Proofs Cx
def eZ (f:Tm→Int):List Tm→Int→Int
 |[],n=>n
 |a::l,n=>if 60<n+f a then n+f a else eZ f l (n+f a)
def cJ:Nat→Tm→Int
 |0,_=>61
 |L+1,t=>eZ (cJ L) t.args 1
def dw (f:Tm→Int)(l:List Tm):Int:=(l.map f).sum
theorem Hr {f:Tm→Int}{l:List Tm}{k:Nat}(h:k<l.length):dw f (l.take (k+1))=dw f (l.take k)+f l[k]:=by
 unfold dw;rw[zJ f h,List.sum_append];simp
theorem Xq {f:Tm→Int}:∀{l:List Tm} {n:Int} {k:Nat},(hk:k<l.length)→(∀j,j<k→n+dw f (l.take (j+1))≤60)→60<n+dw f (l.take (k+1))→eZ f l n=n+dw f (l.take (k+1))
 |a::l,n,0,hk,_,h=>by
  simp[dw] at h ⊢;unfold eZ;rw[if_pos (by omega)]
 |a::l,n,k+1,hk,hj,h=>by
  have h0:=hj 0 (by omega);simp[dw] at h0;unfold eZ;rw[if_neg (by omega)];have e:∀j,n+dw f ((a::l).take (j+1+1))=n+f a+dw f (l.take (j+1)):=by intro j;simp[dw];omega
  rw[Xq (l:=l) (k:=k) (by simpa using hk) (fun j nP=>by have:=hj (j+1) (by omega);rw[e] at this;exact this) (by rw[←e];exact h),e]
theorem Xs {f:Tm→Int}:∀{l:List Tm} {n:Int},(∀j,j<l.length→n+dw f (l.take (j+1))≤60)→eZ f l n=n+dw f l
 |[],n,_=>by simp[eZ,dw]
 |a::l,n,hj=>by
  have h0:=hj 0 (by simp);simp[dw] at h0;unfold eZ;rw[if_neg (by omega)];have e:∀j,n+dw f ((a::l).take (j+1+1))=n+f a+dw f (l.take (j+1)):=by intro j;simp[dw];omega
  rw[Xs (l:=l) (fun j fJ=>by have:=hj (j+1) (by simpa using fJ);rw[e] at this;exact this)];simp[dw];omega
theorem Xr {f:Tm→Int}(hf:∀a,1≤f a):∀{l:List Tm} {n:Int},n≤eZ f l n
 |[],n=>by simp[eZ]
 |a::l,n=>by
  unfold eZ;have:=hf a;split
  ·omega
  ·have:=Xr hf (l:=l) (n:=n+f a);omega
theorem vz:∀(L:Nat) (t:Tm),1≤cJ L t
 |0,t=>by simp[cJ]
 |L+1,t=>Xr (vz L)
theorem Xt {f:Tm→Int}{B:Int}(hf:∀a,f a≤B)(hB:0≤B):∀{l:List Tm} {n:Int},n≤60→eZ f l n≤60+B
 |[],n,h=>by simp[eZ];omega
 |a::l,n,h=>by
  unfold eZ;have:=hf a;split
  ·omega
  ·exact Xt hf hB (by omega)
theorem Xv:∀(L:Nat) (t:Tm),cJ L t≤61+60*L
 |0,t=>by simp[cJ]
 |L+1,t=>by
  have:=Xt (f:=cJ L) (fun a=>Xv L a) (by omega) (l:=t.args) (n:=1) (by omega);show eZ _ _ _≤_;omega
theorem Xu {f:Tm→Int}(hf:∀a,1≤f a):∀{l:List Tm} {n:Int},eZ f l n≤60→(n:Int)+l.length≤60∧∀a,a∈l→f a≤60-n
 |[],n,h=>by simp[eZ] at h ⊢;exact h
 |a::l,n,h=>by
  unfold eZ at h;have:=hf a;split at h
  ·omega
  ·obtain⟨h1,h2⟩:=Xu hf h;refine⟨by simp;omega,fun b hb=>?_⟩;rcases cG.1 hb with rfl|hb
   ·omega
   ·have:=h2 b hb;omega
theorem Nx {L:Nat}{t:Tm}(h:cJ (L+1) t≤60):t.args.length≤59∧∀a,a∈t.args→cJ L a≤60:=by
 obtain⟨h1,h2⟩:=Xu (vz L) h;exact⟨by omega,fun a ha=>by have:=h2 a ha;omega⟩
theorem Ql:∀(L:Nat) (t:Tm) (lv:Int),t.OK→L≤8→lv=9-(L:Int)→ak T 224 [du t,.int lv] (.int (cJ L t))
 |0,t,lv,ht,hL,LZ=>by
  refine .of_tree rfl TD abd ?_;subst LZ;simp[Jq,cJ]
 |L+1,t,lv,ht,hL,LZ=>by
  refine .of_tree rfl TD abd ?_;have hl:=ht.len;have h8:¬(8<lv):=by omega
  have G9:IntKind.i64.wrap (lv+1)=lv+1:=bG (by omega);simp[Jq,h8];refine .scan t.args.length (fun k=>1+dw (cJ L) (t.args.take (k+1))≤60) (fun k=>[.int (1+dw (cJ L) (t.args.take k)),.int k]) (fun _=>[]) ?_ (fun k hk hj ho=>?_) (fun k hk hj ho=>?_) (fun hj=>?_)
  ·simp[dw]
  all_goals try rw[Hr hk] at ho
  ·have hw:IntKind.i64.wrap ((k:Int)+1)=(k:Int)+1:=bG (by omega);have gG:=Ql L t.args[k] (lv+1) (ht.arg (cM hk)) (by omega) (by omega);rw[Hr hk];have hs:0≤dw (cJ L) (t.args.take k):=by
    unfold dw;have:∀(l:List Tm),0≤(l.map (cJ L)).sum:=by
     intro l
     induction l with
     |nil=>simp
     |cons a l ih=>have:=vz L a;simp;omega
    exact this _
   have iJ:=vz L t.args[k];generalize dw (cJ L) (t.args.take k)=m at*;generalize cJ L t.args[k]=v at*;have q7:IntKind.i64.wrap (1+m+v)=1+m+v:=bG (by omega);have gT:¬60<1+m+v:=by omega
   simp[PW,DB,hk,G9];refine⟨_,gG,?_⟩;simp[q7,gT,hw];omega
  ·have gG:=Ql L t.args[k] (lv+1) (ht.arg (cM hk)) (by omega) (by omega);have hf:cJ (L+1) t=1+dw (cJ L) (t.args.take (k+1)):=Xq hk hj (by rw[Hr hk];omega);rw[hf,Hr hk];have hs:0≤dw (cJ L) (t.args.take k)∧1+dw (cJ L) (t.args.take k)≤60:=by
    constructor
    ·unfold dw;have:∀(l:List Tm),0≤(l.map (cJ L)).sum:=by
       intro l
       induction l with
       |nil=>simp
       |cons a l ih=>have:=vz L a;simp;omega
     exact this _
    ·cases k with
     |zero=>simp[dw]
     |succ k=>exact hj k (by omega)
   have iJ:=vz L t.args[k];have fm:=Xv L t.args[k];generalize dw (cJ L) (t.args.take k)=m at*;generalize cJ L t.args[k]=v at*;have q7:IntKind.i64.wrap (1+m+v)=1+m+v:=bG (by omega);have gT:60<1+m+v:=by omega
   simp[PW,DB,hk,G9];refine⟨_,gG,?_⟩;simp[q7,gT];omega
  ·have hf:cJ (L+1) t=1+dw (cJ L) t.args:=Xs hj;rw[hf];simp[PW,DB]
def lY (ws ts:List Int):Nat→Int
 |0=>-1
 |k+1=>if ws.getD k 0=-1∧lY ws ts k=-1 then ts.getD k 0 else lY ws ts k
def mM (ws ts:List Int)(k:Nat):Bool:=if ws.getD k 0=-1 then decide (lY ws ts k=-1)||decide (ts.getD k 0=lY ws ts k) else decide (ts.getD k 0=ws.getD k 0)
def vC (t:Tm)(ks:List Int):Int×Int:=
 if t.op<0∨13<t.op then(0,1) else if t.op=0∨t.op=1∨t.op=2 then Cu t else
 if ks.length≠(ez t.op).1.length∨t.n≠0 then(0,2) else
 if fT (ez t.op).1.length (mM (ez t.op).1 ks)=false then(0,11) else if(ez t.op).2=-1 then(lY (ez t.op).1 ks (ez t.op).1.length,0) else((ez t.op).2,0)
def bP:Nat→Tm→Int×Int
 |0,_=>(0,0)
 |L+1,t=>if eU t.args.length (fun k=>(bP L (t.args.getD k default)).2)≠0 then(0,eU t.args.length (fun k=>(bP L (t.args.getD k default)).2)) else vC t (t.args.map fun a=>(bP L a).1)
theorem KJ (L:Nat)(t:Tm):bP (L+1) t=if eU t.args.length (fun k=>(bP L (t.args.getD k default)).2)≠0 then(0,eU t.args.length (fun k=>(bP L (t.args.getD k default)).2)) else vC t (t.args.map fun a=>(bP L a).1):=rfl
theorem Qe {α:Type}(A:List α)(z:α){k n:Nat}(hA:A.length=n)(hk:k<n):(A.take k++List.replicate (n-k) z).set k A[k]=A.take (k+1)++List.replicate (n-(k+1)) z:=by
 have h1:(A.take k).length=k:=by rw[gd];omega
 rw[List.set_append_right _ _ (by omega),h1,JM];have:n-k=(n-(k+1))+1:=by omega
 rw[this,List.replicate_succ,List.set_cons_zero,gx (by omega),oH];rfl
theorem ao8 (op:Int):(ez op).1.length≤3:=by
 unfold ez;repeat' split
 all_goals simp
theorem Qk:∀(L:Nat) (t:Tm),t.OK→cJ L t≤60→ak T 225 [du t] (.tup [.int (bP L t).1,.int (bP L t).2])
 |0,t,ht,hm=>by simp[cJ] at hm
 |L+1,t,ht,hm=>by
  refine .of_tree rfl (lA 83 (by kernel_rfl)) arz ?_;obtain⟨hl,hp⟩:=Nx hm;simp[R2];refine⟨by omega,?_⟩;refine wh t.args.length (fun k=>(bP L (t.args.getD k default)).2) (fun k=>[.int 0,.int 0,.int k]) (fun k=>[ints ((t.args.map fun a=>(bP L a).1).take k++List.replicate (t.args.length-k) 0)]) ?_ (fun k hk ho=>?_) (fun k hk ho hb=>?_) (fun hj=>?_)
  ·simp[ints]
  ·have hw:=bI hk (by omega);have cQ:=cM hk;have gG:=Qk L t.args[k] (ht.arg cQ) (hp _ cQ);have hs:=Qe (t.args.map fun a=>(bP L a).1) 0 (n:=t.args.length) (by simp) hk;rw[←hs];have hlen:((t.args.map fun a=>(bP L a).1).take k++List.replicate (t.args.length-k) (0:Int)).length=t.args.length:=by simp;omega
   have LR:(t.args.map fun a=>(bP L a).1)[k]'(by simpa using hk)=(bP L t.args[k]).1:=by simp
   rw[LR];generalize (t.args.map fun a=>(bP L a).1).take k++List.replicate (t.args.length-k) (0:Int)=A at*;simp[hk] at ho;rw[ho] at gG;generalize (bP L t.args[k]).1=kd at*;simp[PU,Dz,hk];refine⟨_,gG,?_⟩;simp[hlen,hk,hw,ints]
  ·have cQ:=cM hk;have gG:=Qk L t.args[k] (ht.arg cQ) (hp _ cQ);have hf:bP (L+1) t=(0,(bP L (t.args.getD k default)).2):=by
    rw[KJ,hb,if_pos ho]
   rw[hf];simp[hk] at ho ⊢;simp[PU,Dz,hk];refine⟨_,gG,?_⟩;simp[ho]
  ·have hf:bP (L+1) t=vC t (t.args.map fun a=>(bP L a).1):=by
    rw[KJ,hj];simp
   rw[hf]
   have e0:(t.args.map fun a=>(bP L a).1).take t.args.length++List.replicate (t.args.length-t.args.length) 0=t.args.map fun a=>(bP L a).1:=by
    rw[JM,wP (by simp)];simp
   rw[e0];have VI:(t.args.map fun a=>(bP L a).1).length=t.args.length:=by simp
   generalize (t.args.map fun a=>(bP L a).1)=ks at*;simp[PU,Dz];unfold vC;by_cases h1:t.op<0
   ·simp[h1]
   by_cases h2:13<t.op
   ·simp[h1,h2]
   simp[h1,h2];by_cases h3:t.op=0∨t.op=1∨t.op=2
   ·have j8:(t.op=0∨t.op=1)∨t.op=2:=by omega
    simp[h3,j8];refine⟨_,apy t,?_⟩;simp
   have j8:¬((t.op=0∨t.op=1)∨t.op=2):=by omega
   simp[h3,j8];refine⟨_,apA _,?_⟩;have hsl:=ao8 t.op;generalize ez t.op=sh at*;simp;by_cases h4:ks.length=sh.1.length
   case neg=>
    have nL:¬((ks.length:Int)=sh.1.length):=by omega
    have Gg:¬t.args.length=sh.1.length:=by omega
    simp[h4,nL,Gg]
   have nL:(ks.length:Int)=sh.1.length:=by omega
   have Gg:t.args.length=sh.1.length:=by omega
   by_cases h5:t.n=0
   case neg=>simp[h4,nL,Gg,h5]
   simp[h4,nL,Gg,h5];refine kY sh.1.length (mM sh.1 ks) (fun k=>[.int 0,.int 0,.int (lY sh.1 ks k),.int k]) (fun _=>[]) ?_ (fun k hk ho=>?_) (fun k hk ho hb=>?_) (fun hj=>?_)
   ·simp[lY]
   ·have hw:=bI hk (by omega);have cq:k<ks.length:=by omega
    simp only[lY];unfold mM at ho;simp only[aI,be hk,be cq,ly] at ho ⊢;generalize lY sh.1 ks k=c at*;by_cases a1:sh.1[k]=-1
    ·by_cases a2:c=-1
     ·simp[zw,tq,hk,cq,hw,ints,a1,a2]
     ·simp[a1,a2] at ho;simp[zw,tq,hk,cq,hw,ints,a1,a2,ho]
    ·simp[a1] at ho;simp[zw,tq,hk,cq,hw,ints,a1,ho]
   ·rw[hb];have cq:k<ks.length:=by omega
    unfold mM at ho;simp only[aI,be hk,be cq,ly] at ho;generalize lY sh.1 ks k=c at*;by_cases a1:sh.1[k]=-1
    ·by_cases a2:c=-1
     ·simp[a1,a2] at ho
     ·simp[a1,a2] at ho;simp[zw,tq,hk,cq,ints,a1,a2,ho]
    ·simp[a1] at ho;simp[zw,tq,hk,cq,ints,a1,ho]
   ·rw[hj];simp[zw,tq];by_cases a1:sh.2=-1<;>simp[a1]
def lD (t:Tm):Int×Int:=if 60<cJ 8 t then(0,6) else bP 8 t
theorem aa5 (t:Tm)(ht:t.OK):ak T 190 [du t] (.tup [.int (lD t).1,.int (lD t).2]):=by
 refine .of_tree rfl (lA 81 (by kernel_rfl)) arv ?_;simp[RY,lD];refine⟨_,Ql 8 t 1 ht (by omega) (by omega),?_⟩;by_cases h:60<cJ 8 t
 ·simp[h]
 simp[h];refine⟨_,Qk 8 t ht (by omega),?_⟩;simp
end Rm
namespace Rm
open Go Go.Proofs Cx
abbrev u (n:Nat):D:=.v (.int .u64 n)
theorem abm (n:Int):IntKind.u64.wrap n=n%18446744073709551616:=rfl
theorem D4 {n:Int}(h:0≤n∧n<18446744073709551616):IntKind.u64.wrap n=n:=by
 rw[abm];omega
theorem wB {n:Nat}(h:n<18446744073709551616):IntKind.u64.wrap (n:Int)=n:=D4 (by omega)
theorem ao9 (a s:Nat)(h:s≤64):cj .shr .u64 a s=((a/2^s:Nat):Int):=by
 show Int.fdiv (a:Int) (2^(min (s:Int).toNat 64))=_;have:min (s:Int).toNat 64=s:=by simp;omega
 rw[this,abD _ (Int.le_of_lt (Int.pow_pos (by decide)))];rw[Int.natCast_ediv,Int.natCast_pow];rfl
theorem JV (a:Nat)(h:a<18446744073709551616):cj .and .u64 a 4294967295=((a%4294967296:Nat):Int):=by
 show IntKind.u64.wrap ((BitVec.ofInt 64 (a:Int)&&& BitVec.ofInt 64 4294967295).toNat:Nat)=_;have e:(BitVec.ofInt 64 (a:Int)&&& BitVec.ofInt 64 4294967295).toNat=a%4294967296:=by
  rw[BitVec.toNat_and];have e1:(BitVec.ofInt 64 (a:Int)).toNat=a:=by simp[BitVec.ofInt,BitVec.toNat_ofNat];omega
  have e2:(BitVec.ofInt 64 4294967295).toNat=2^32-1:=by decide
  rw[e1,e2,Nat.and_two_pow_sub_one_eq_mod]
 rw[e,wB (by omega)]
@[simp] theorem zE (a:Nat):cj .shr .u64 a 32=((a/4294967296:Nat):Int):=ao9 a 32 (by decide)
set_option maxHeartbeats 2000000 in
theorem amo (a b:Nat)(ha:a<18446744073709551616)(hb:b<18446744073709551616):ak T 134 [u a,u b] (.tup [u (a*b/18446744073709551616),u (a*b%18446744073709551616)]):=by
 refine .of_tree rfl (lA 95 (by kernel_rfl)) apY ?_;obtain⟨h1,h2,h3,h4⟩:=Go.Lib.mul64_hi a b ha hb;have elo:IntKind.u64.wrap ((a:Int)*(b:Int))=((a*b%18446744073709551616:Nat):Int):=by rw[abm,Int.natCast_emod,Int.natCast_mul];rfl
 have KV:cj .shr .u64 (a:Int) 32=((a/4294967296:Nat):Int):=zE a;have ea0:cj .and .u64 (a:Int) 4294967295=((a%4294967296:Nat):Int):=JV a ha;have KW:cj .shr .u64 (b:Int) 32=((b/4294967296:Nat):Int):=zE b;have eb0:cj .and .u64 (b:Int) 4294967295=((b%4294967296:Nat):Int):=JV b hb;have axi:=Go.Lib.half_mul_le (a:=a/4294967296) (b:=b/4294967296) (by omega) (by omega);have axh:=Go.Lib.half_mul_le (a:=a/4294967296) (b:=b%4294967296) (by omega) (by omega);have axg:=Go.Lib.half_mul_le (a:=a%4294967296) (b:=b/4294967296) (by omega) (by omega);have axf:=Go.Lib.half_mul_le (a:=a%4294967296) (b:=b%4294967296) (by omega) (by omega);have LU:a*b/18446744073709551616<18446744073709551616:=by
  have:a*b<18446744073709551616*18446744073709551616:=Nat.mul_lt_mul'' ha hb;exact Nat.div_lt_of_lt_mul this
 simp only[QD];generalize a/4294967296=a1 at*;generalize a%4294967296=a0 at*;generalize b/4294967296=b1 at*;generalize b%4294967296=b0 at*;have p11:IntKind.u64.wrap ((a1:Int)*(b1:Int))=((a1*b1:Nat):Int):=by rw[←Int.natCast_mul];exact wB (by omega)
 have p10:IntKind.u64.wrap ((a1:Int)*(b0:Int))=((a1*b0:Nat):Int):=by rw[←Int.natCast_mul];exact wB (by omega)
 have p01:IntKind.u64.wrap ((a0:Int)*(b1:Int))=((a0*b1:Nat):Int):=by rw[←Int.natCast_mul];exact wB (by omega)
 have p00:IntKind.u64.wrap ((a0:Int)*(b0:Int))=((a0*b0:Nat):Int):=by rw[←Int.natCast_mul];exact wB (by omega)
 rw[←h4] at LU ⊢;generalize a1*b1=P at*;generalize a1*b0=Q at*;generalize a0*b1=R at*;generalize a0*b0=S at*;have s1:cj .shr .u64 (S:Int) 32=((S/4294967296:Nat):Int):=zE S;have s2:IntKind.u64.wrap ((Q:Int)+((S/4294967296:Nat):Int))=((Q+S/4294967296:Nat):Int):=by rw[D4 (by omega)];omega
 generalize S/4294967296=S1 at*;generalize hT:Q+S1=TT at*;have s3:cj .shr .u64 (TT:Int) 32=((TT/4294967296:Nat):Int):=zE TT;have s4:cj .and .u64 (TT:Int) 4294967295=((TT%4294967296:Nat):Int):=JV TT (by omega);have s5:IntKind.u64.wrap (((TT%4294967296:Nat):Int)+(R:Int))=((TT%4294967296+R:Nat):Int):=by rw[D4 (by omega)];omega
 generalize hU:TT%4294967296+R=U at*;have s6:cj .shr .u64 (U:Int) 32=((U/4294967296:Nat):Int):=zE U;have s7:IntKind.u64.wrap ((P:Int)+((TT/4294967296:Nat):Int))=((P+TT/4294967296:Nat):Int):=by rw[D4 (by omega)];omega
 have s8:IntKind.u64.wrap (((P+TT/4294967296:Nat):Int)+((U/4294967296:Nat):Int))=((P+TT/4294967296+U/4294967296:Nat):Int):=by rw[D4 (by omega)];omega
 simp[-zE,-Int.natCast_add,-Int.natCast_mul,-Int.natCast_ediv,-Int.natCast_emod,elo,KV,ea0,KW,eb0,p11,p10,p01,p00,s1,s2,s3,s4,s5,s6,s7,s8]
def rp (m:Nat):Int:=if m<1099511627776 then m else 1099511627776
def y7 (a b:Int):Int:=if(decide (a<0)!=decide (b<0))=true then-rp (a.natAbs*b.natAbs) else rp (a.natAbs*b.natAbs)
theorem Zw (m:Nat):0≤rp m∧rp m≤1099511627776:=by unfold rp;split<;>omega
set_option maxHeartbeats 1000000 in
theorem apz (a b:Int)(ha:-1099511627776≤a∧a≤1099511627776)(hb:-1099511627776≤b∧b≤1099511627776):ak T 269 [.int a,.int b] (.int (y7 a b)):=by
 refine .of_tree rfl (lA 94 (by kernel_rfl)) arF ?_;have wa:IntKind.u64.wrap (a.natAbs:Int)=a.natAbs:=wB (by omega);have wb:IntKind.u64.wrap (b.natAbs:Int)=b.natAbs:=wB (by omega);have w0a:IntKind.i64.wrap (0-a)=-a:=by rw[bG (by omega)];omega
 have w0b:IntKind.i64.wrap (0-b)=-b:=by rw[bG (by omega)];omega
 have ar7:IntKind.i64.wrap (-a)=-a:=bG (by omega);have ar8:IntKind.i64.wrap (-b)=-b:=bG (by omega);have ea:(if a< -a then D.int (-a) else D.int a)=D.int a.natAbs:=by split<;>congr 1<;>omega
 have eb:(if b< -b then D.int (-b) else D.int b)=D.int b.natAbs:=by split<;>congr 1<;>omega
 have ea':(if a< -a then-a else a)=(a.natAbs:Int):=by split<;>omega
 have eb':(if b< -b then-b else b)=(b.natAbs:Int):=by split<;>omega
 simp[R7,ar7,ar8,ea,eb,ea',eb'];rw[wa,wb];refine⟨_,amo a.natAbs b.natAbs (by omega) (by omega),?_⟩;unfold y7;generalize a.natAbs*b.natAbs=m;have hs:(decide (a<0)!=decide (b<0))=false↔(a<0↔b<0):=by
  by_cases h1:a<0<;>by_cases h2:b<0<;>simp[h1,h2]
 have key:((if((m/18446744073709551616:Nat):Int)=0∧((m%18446744073709551616:Nat):Int)<1099511627776 then IntKind.i64.wrap ((m%18446744073709551616:Nat):Int) else 1099511627776):Int)=rp m:=by
  unfold rp;by_cases hm:m<1099511627776
  ·have h1:m/18446744073709551616=0:=by omega
   have h2:m%18446744073709551616=m:=by omega
   rw[h1,h2,if_pos ⟨rfl,by omega⟩,if_pos hm,bG (by omega)]
  ·rw[if_neg hm,if_neg];rintro⟨h1,h2⟩;omega
 have eh:=Zw m;have ajZ:(if((m/18446744073709551616:Nat):Int)=0∧((m%18446744073709551616:Nat):Int)<1099511627776 then D.int (IntKind.i64.wrap ((m%18446744073709551616:Nat):Int)) else D.int 1099511627776)=D.int (rp m):=by
  rw[←key];split<;>rfl
 show(if a<0↔b<0 then(if((m/18446744073709551616:Nat):Int)=0∧((m%18446744073709551616:Nat):Int)<1099511627776 then D.int (IntKind.i64.wrap ((m%18446744073709551616:Nat):Int)) else D.int 1099511627776)=_ else
  IntKind.i64.wrap (-(if((m/18446744073709551616:Nat):Int)=0∧((m%18446744073709551616:Nat):Int)<1099511627776 then IntKind.i64.wrap ((m%18446744073709551616:Nat):Int) else 1099511627776))=_)
 rw[ajZ,key];generalize rp m=n at*;split
 ·rename_i h;rw[hs.2 h];simp
 ·rename_i h;have:(decide (a<0)!=decide (b<0))=true:=by
   cases e:(decide (a<0)!=decide (b<0)) with
   |true=>rfl
   |false=>exact absurd (hs.1 e) h
  rw[this,bG (by omega)];simp
def wR (op a b:Int):Int:=if op=9 then nD (a+b) else if op=10 then nD (a-b) else if op=11 then y7 a b else if op=12 then min a b else max a b
theorem apw (op a b:Int)(ha:-1099511627776≤a∧a≤1099511627776)(hb:-1099511627776≤b∧b≤1099511627776):ak T 253 [.int op,.int a,.int b] (.int (wR op a b)):=by
 refine .of_tree rfl (lA 93 (by kernel_rfl)) ary ?_;have w1:IntKind.i64.wrap (a+b)=a+b:=bG (by omega);have w2:IntKind.i64.wrap (a-b)=a-b:=bG (by omega);simp[R1,wR,w1,w2];by_cases h1:op=9
 ·simp[h1];exact Jf _
 by_cases h2:op=10
 ·simp[h1,h2];exact Jf _
 by_cases h3:op=11
 ·simp[h1,h2,h3];exact apz a b ha hb
 by_cases h4:op=12
 ·simp[h1,h2,h3,h4];by_cases h5:b<a<;>simp[h5]<;>omega
 simp[h1,h2,h3,h4];by_cases h5:b>a<;>simp[h5]<;>omega
def dL (b:Bool):Cell:=if b then⟨true,1⟩ else⟨true,0⟩
theorem tG (b:Bool):ak T 251 [.bool b] (cN (dL b)):=by
 refine .of_tree rfl (lA 91 (by kernel_rfl)) arH ?_;cases b<;>simp[R9,dL]<;>rfl
def dH:Cell:=⟨false,0⟩
@[simp] theorem ayb:D.agg [.bool false,.int 0]=cN dH:=_root_.id rfl
@[simp] theorem ayc:dH.known=false:=rfl
@[simp] theorem ayd:dH.n=0:=rfl
def cellAt (cs:List Cell)(v:Int):Cell:=cs.getD v.toNat default
def iX (cs:List Cell)(v:Int):Cell:=if cs.length≤v.toNat∨(cellAt cs v).known=false then dH else if(lh v).1=1 then dL (decide ((cellAt cs v).n≠0)) else⟨true,nD (cellAt cs v).n⟩
abbrev KY (cs:List Cell):D:=.agg [cells cs]
theorem apB (cs:List Cell)(v:Int)(hv:0≤v):ak T 226 [KY cs,.int v] (cN (iX cs v)):=by
 refine .of_tree rfl (lA 90 (by kernel_rfl)) arE ?_;obtain⟨k,rfl⟩:=mh hv;simp[R6,iX,cellAt];by_cases h1:cs.length≤k
 ·simp[h1]
 have cP:k<cs.length:=by omega
 simp[h1,cP];cases h2:cs[k].known
 ·simp[h2]
 simp[h2];refine⟨_,aa6 _,?_⟩;by_cases h3:(lh k).1=1
 ·simp[h3,cP];refine⟨_,tG _,?_⟩;simp;rfl
 ·simp[h3,cP];refine⟨_,Jf _,?_⟩;simp;rfl
@[simp] theorem axy (a b:Int):(a==b)=decide (a=b):=_root_.id rfl
@[simp] theorem axz (a b:Int):(a !=b)= !decide (a=b):=_root_.id rfl
def aK (l:List Cell)(k:Nat):Cell:=l.getD k default
def eR (op:Int)(l:List Cell):Cell:=
 if op=3 then(if(aK l 0).known=true then dL (decide ((aK l 0).n=0)) else dH)
 else if(op=4∨op=5)∧(aK l 0=dL (decide (op=5))∨aK l 1=dL (decide (op=5))) then dL (decide (op=5))
 else if op=6 then(if(aK l 1).known=true∧aK l 1=aK l 2 then aK l 1 else dH)
 else if(aK l 0).known=false∨(aK l 1).known=false then dH
 else if op=4∨op=5 then dL (decide (op=4))
 else if op=7 then dL (decide ((aK l 0).n<(aK l 1).n)) else if op=8 then dL (decide ((aK l 0).n=(aK l 1).n)) else⟨true,wR op (aK l 0).n (aK l 1).n⟩
theorem ade (a b:Cell):a=b↔a.known=b.known∧a.n=b.n:=by cases a;cases b;simp
theorem apx (op:Int)(l:List Cell)(h1:1≤l.length)(h2:op≠3→2≤l.length)(h3:op=6→3≤l.length)
 (hb:9≤op→(-1099511627776≤(aK l 0).n∧(aK l 0).n≤1099511627776)∧(-1099511627776≤(aK l 1).n∧(aK l 1).n≤1099511627776)) (h9:op<3∨8<op→9≤op):
 ak T 227 [.int op,cells l] (cN (eR op l)):=by
 refine .of_tree rfl (lA 92 (by kernel_rfl)) arA ?_;have g0:0<l.length:=by omega
 have uF:l[0]=aK l 0:=by simp[aK,g0]
 simp[R3];unfold eR;by_cases o3:op=3
 ·simp[o3,g0,uF];cases e:(aK l 0).known
  ·simp
  ·simp[g0];refine⟨_,tG _,?_⟩;simp
 have g1:1<l.length:=by have:=h2 o3;omega
 have Bj:l[1]=aK l 1:=by simp[aK,g1]
 have iI:(1:Int)<l.length:=by omega
 simp[o3];have fin:∀a b:Cell,(a=b)=(a.known=b.known∧a.n=b.n):=fun a b=>propext (ade a b);rcases D8 (op=4) with o4|o4
 ·subst o4;simp;refine⟨_,tG _,?_⟩;simp[g0,g1,iI,uF,Bj,fin];split
  ·rfl
  ·split
   ·rfl
   ·refine⟨_,tG _,?_⟩;simp
 rcases D8 (op=5) with o5|o5
 ·subst o5;simp;refine⟨_,tG _,?_⟩;simp[g0,g1,iI,uF,Bj,fin];split
  ·rfl
  ·split
   ·rfl
   ·refine⟨_,tG _,?_⟩;simp
 rcases D8 (op=6) with o6|o6
 ·subst o6;have g2:2<l.length:=by have:=h3 rfl;omega
  have gg2:l[2]=aK l 2:=by simp[aK,g2]
  have sf:(2:Int)<l.length:=by omega
  simp[g1,g2,iI,sf,Bj,gg2,fin];cases e1:(aK l 1).known
  ·simp
  by_cases e2:(aK l 1).known=(aK l 2).known∧(aK l 1).n=(aK l 2).n
  ·rw[e1] at e2;simp[e1,e2]
  ·rw[e1] at e2;have rX:¬((aK l 2).known=true∧(aK l 1).n=(aK l 2).n):=fun h=>e2 ⟨h.1.symm,h.2⟩;simp only[e1,true_and,if_true]
   first|(rw[if_neg rX,if_neg rX])|(simp[rX])
 simp[o4,o5,o6,g0,g1,iI,uF,Bj];cases e1:(aK l 0).known
 ·simp
 cases e2:(aK l 1).known
 ·simp
 simp[g1,iI,Bj];rcases D8 (op=7) with o7|o7
 ·subst o7;simp;refine⟨_,tG _,?_⟩;simp
 rcases D8 (op=8) with o8|o8
 ·subst o8;simp;refine⟨_,tG _,?_⟩;simp
 simp[o7,o8];obtain⟨b1,b2⟩:=hb (h9 (by omega));refine⟨_,apw op _ _ b1 b2,?_⟩;simp;rfl
end Rm
namespace Rm
open Go Go.Proofs Cx
def bl (x L:Nat):Prop:=(L=0→x=0)∧(0<L→2^(L-1)≤x)∧x<2^L∧L≤64
end Rm
namespace Rm
open Go Go.Proofs Cx
end Rm
namespace Rm
open Go Go.Proofs Cx
def bk:Nat→List Cell→Tm→Cell
 |0,_,_=>dH
 |L+1,cs,t=>if t.op=0∨t.op=1 then⟨true,t.n⟩ else if t.op=2 then iX cs t.n else
   if t.op=6∧(aK (t.args.map (bk L cs)) 0).known=true then aK (t.args.map (bk L cs)) (2-(aK (t.args.map (bk L cs)) 0).n).toNat else eR t.op (t.args.map (bk L cs))
def dG:Nat→List Cell→Tm→List Int
 |0,_,_=>[]
 |L+1,cs,t=>if t.op=0∨t.op=1 then[] else if t.op=2 then(if(iX cs t.n).known=true then[] else[t.n]) else
   if t.op=6∧(aK (t.args.map (bk L cs)) 0).known=true then(t.args.map (dG L cs)).getD (2-(aK (t.args.map (bk L cs)) 0).n).toNat [] else
   if(eR t.op (t.args.map (bk L cs))).known=true then[] else(t.args.map (dG L cs)).flatten
theorem xV (L:Nat)(cs:List Cell)(t:Tm):bk (L+1) cs t=if t.op=0∨t.op=1 then⟨true,t.n⟩ else if t.op=2 then iX cs t.n else
 if t.op=6∧(aK (t.args.map (bk L cs)) 0).known=true then aK (t.args.map (bk L cs)) (2-(aK (t.args.map (bk L cs)) 0).n).toNat else eR t.op (t.args.map (bk L cs)):=rfl
theorem Hu (L:Nat)(cs:List Cell)(t:Tm):dG (L+1) cs t=if t.op=0∨t.op=1 then[] else if t.op=2 then(if(iX cs t.n).known=true then[] else[t.n]) else
 if t.op=6∧(aK (t.args.map (bk L cs)) 0).known=true then(t.args.map (dG L cs)).getD (2-(aK (t.args.map (bk L cs)) 0).n).toNat [] else
 if(eR t.op (t.args.map (bk L cs))).known=true then[] else(t.args.map (dG L cs)).flatten:=rfl
theorem FN {L:Nat}{t:Tm}{k:Int}(h:bP (L+1) t=(k,0)):(∀a,a∈t.args→(bP L a).2=0)∧vC t (t.args.map fun a=>(bP L a).1)=(k,0):=by
 rw[KJ] at h;by_cases e:eU t.args.length (fun k=>(bP L (t.args.getD k default)).2)=0
 ·rw[if_neg (by simpa using e)] at h;refine⟨fun a ha=>?_,h⟩;obtain⟨j,hj,rfl⟩:=fj ha;have:=F4.1 e j hj;simpa [hj] using this
 ·rw[if_pos e] at h;injection h with _ h
  exact absurd h e
inductive Node (ks:List Int) (t:Tm):Int→Prop where
 |int (h:t.op=0) (ha:t.args=[]) (hn:-1099511627776≤t.n∧t.n≤1099511627776):Node ks t 0
 |bool (h:t.op=1) (ha:t.args=[]) (hn:t.n=0∨t.n=1):Node ks t 1
 |var (h:t.op=2) (ha:t.args=[]) (hn:0≤t.n∧t.n≤19):Node ks t (lh t.n).1
 |not (h:t.op=3) (hk:ks=[1]):Node ks t 1
 |log (h:t.op=4∨t.op=5) (hk:ks=[1,1]):Node ks t 1
 |ite (k:Int) (h:t.op=6) (hk:ks=[1,k,k]):Node ks t k
 |less (h:t.op=7) (hk:ks=[0,0]):Node ks t 1
 |equal (k:Int) (h:t.op=8) (hk:ks=[k,k]):Node ks t 1
 |num (h:9≤t.op∧t.op≤13) (hk:ks=[0,0]):Node ks t 0
theorem ar3 (v:Int):(lh v).1=0∨(lh v).1=1:=by
 unfold lh;repeat' split
 all_goals simp
theorem amy {t:Tm}{ks:List Int}{k:Int}(hl:ks.length=t.args.length)(gP:∀x,x∈ks→x=0∨x=1)(h:vC t ks=(k,0)):Node ks t k:=by
 unfold vC at h;split at h
 ·injection h with _ h;cases h
 rename_i dD;split at h
 ·rename_i h3;unfold Cu at h;split at h
  ·injection h with _ h;cases h
  rename_i ha0;have ha:t.args=[]:=SS (by omega);split at h
  ·rename_i h0;split at h
   ·injection h with _ h;cases h
   ·rename_i hc;injection h with h _
    subst h;refine .int h0 ha ?_;unfold nD at hc;omega
  split at h
  ·rename_i h0;split at h
   ·injection h with _ h;cases h
   ·rename_i hc;injection h with h _
    subst h;exact .bool h0 ha (by omega)
  split at h
  ·injection h with _ h;cases h
  ·rename_i g0 g1 hc;injection h with h _
   subst h;refine .var (by omega) ha ?_;unfold lh at hc;split at hc
   ·simp at hc
   ·omega
 rename_i h3;split at h
 ·injection h with _ h;cases h
 rename_i hlen;have mG:ks.length=(ez t.op).1.length:=by
  refine JA fun hh=>hlen (.inl hh)
 split at h
 ·injection h with _ h;cases h
 rename_i au;have iO:∀j,j<(ez t.op).1.length→mM (ez t.op).1 ks j=true:=Ai.1 (by simpa using au)
 have two:∀{n:Nat},ks.length=2→∃a b,ks=[a,b]:=fun h=>by
  match ks,h with
  |[a,b],_=>exact⟨a,b,rfl⟩
 by_cases o3:t.op=3
 ·have e:ez t.op=([1],1):=by simp[ez,o3]
  rw[e] at mG iO h
  match ks,mG with
  |[a],_=>
   have:=iO 0 (by simp);simp[mM] at this;simp at h;subst h this;exact .not o3 rfl
 by_cases Hz:t.op=4∨t.op=5
 ·have e:ez t.op=([1,1],1):=by simp[ez,o3,Hz]
  rw[e] at mG iO h
  match ks,mG with
  |[a,b],_=>
   have t1:=iO 0 (by simp);have t2:=iO 1 (by simp);simp[mM] at t1 t2;simp at h;subst h t1 t2;exact .log Hz rfl
 by_cases o6:t.op=6
 ·have e:ez t.op=([1,-1,-1],-1):=by simp[ez,o6]
  rw[e] at mG iO h
  match ks,mG,gP with
  |[a,b,c],_,gP=>
   have t1:=iO 0 (by simp);have t3:=iO 2 (by simp);have hb:=gP b (by simp);have pk:¬b=-1:=by omega
   simp[mM] at t1;simp[mM,lY,pk] at t3;simp[lY,pk] at h;subst h t1 t3;exact .ite _ o6 rfl
 by_cases o7:t.op=7
 ·have e:ez t.op=([0,0],1):=by simp[ez,o7]
  rw[e] at mG iO h
  match ks,mG with
  |[a,b],_=>
   have t1:=iO 0 (by simp);have t2:=iO 1 (by simp);simp[mM] at t1 t2;simp at h;subst h t1 t2;exact .less o7 rfl
 by_cases o8:t.op=8
 ·have e:ez t.op=([-1,-1],1):=by simp[ez,o8]
  rw[e] at mG iO h
  match ks,mG,gP with
  |[a,b],_,gP=>
   have t2:=iO 1 (by simp);have ha:=gP a (by simp);have han:¬a=-1:=by omega
   simp[mM,lY,han] at t2;simp at h;subst h t2;exact .equal _ o8 rfl
 have e:ez t.op=([0,0],0):=by simp[ez,o3,Hz,o6,o7,o8]
 rw[e] at mG iO h
 match ks,mG with
 |[a,b],_=>
  have t1:=iO 0 (by simp);have t2:=iO 1 (by simp);simp[mM] at t1 t2;simp at h;subst h t1 t2;exact .num (by omega) rfl
theorem FO:∀{L:Nat} {t:Tm} {k:Int},bP (L+1) t=(k,0)→Node (t.args.map fun a=>(bP L a).1) t k∧(k=0∨k=1)
 |L,t,k,h=>by
  obtain⟨h1,h2⟩:=FN h
  have gP:∀x,x∈(t.args.map fun a=>(bP L a).1)→x=0∨x=1:=by
   intro x hx;obtain⟨a,ha,rfl⟩:=cZ.1 hx;cases L with
   |zero=>exact .inl rfl
   |succ L=>exact(FO (L:=L) (t:=a) (k:=(bP (L+1) a).1) (by rw[←h1 a ha])).2
  have hn:=amy (by simp) gP h2;refine⟨hn,?_⟩;cases hn with
  |int=>simp
  |bool=>simp
  |var=>exact ar3 _
  |not=>simp
  |log=>simp
  |ite k _ hk=>exact gP k (by rw[hk];simp)
  |less=>simp
  |equal=>simp
  |num=>simp
end Rm
namespace Rm
open Go Go.Proofs Cx
def rP (k:Int)(c:Cell):Prop:=(c.known=false→c=dH)∧(c.known=true→(k=1→c.n=0∨c.n=1)∧(k=0→-1099511627776≤c.n∧c.n≤1099511627776))
theorem tw (k:Int):rP k dH:=⟨fun _=>rfl,fun h=>by cases h⟩
theorem zA (b:Bool):rP 1 (dL b):=⟨fun h=>(by cases b<;>cases h),fun _=>⟨fun _=>(by cases b<;>simp[dL]),fun h=>by cases h⟩⟩
theorem KO (n:Int):-1099511627776≤nD n∧nD n≤1099511627776:=by unfold nD;omega
theorem aoH (cs:List Cell)(v:Int)(hv:0≤v∧v≤19):rP (lh v).1 (iX cs v):=by
 unfold iX;split
 ·exact tw _
 ·split
  ·rename_i h;rw[h];exact zA _
  ·rename_i h;refine⟨fun h=>(by cases h),fun _=>⟨fun h'=>absurd h' h,fun _=>KO _⟩⟩
theorem anB (a b:Int):-1099511627776≤y7 a b∧y7 a b≤1099511627776:=by
 unfold y7;have:=Zw (a.natAbs*b.natAbs);split<;>omega
theorem acj (op a b:Int)(ha:-1099511627776≤a∧a≤1099511627776)(hb:-1099511627776≤b∧b≤1099511627776):-1099511627776≤wR op a b∧wR op a b≤1099511627776:=by
 unfold wR;split
 ·exact KO _
 split
 ·exact KO _
 split
 ·exact anB _ _
 split<;>omega
theorem al9 {α β:Type}{f:α→β}{l:List α}{x:β}(h:l.map f=[x]):∃a,l=[a]∧f a=x:=by
 match l,h with
 |[a],h=>exact⟨a,rfl,by simpa using h⟩
theorem yT {α β:Type}{f:α→β}{l:List α}{x y:β}(h:l.map f=[x,y]):∃a b,l=[a,b]∧f a=x∧f b=y:=by
 match l,h with
 |[a,b],h=>exact⟨a,b,rfl,by simpa using h⟩
theorem Hm {α β:Type}{f:α→β}{l:List α}{x y z:β}(h:l.map f=[x,y,z]):∃a b c,l=[a,b,c]∧f a=x∧f b=y∧f c=z:=by
 match l,h with
 |[a,b,c],h=>exact⟨a,b,c,rfl,by simpa using h⟩
theorem K6:∀{L:Nat} {t:Tm} {k:Int} (cs:List Cell),bP L t=(k,0)→rP k (bk L cs t)
 |0,t,k,cs,h=>tw _
 |L+1,t,k,cs,h=>by
  obtain⟨hn,hk⟩:=FO h;obtain⟨ha,_⟩:=FN h;have ih:∀a,a∈t.args→rP (bP L a).1 (bk L cs a):=fun a hm=>K6 cs (show bP L a=((bP L a).1,0) by rw[←ha a hm]);rw[xV];cases hn with
  |int h0 ha hn=>rw[if_pos (.inl h0)];exact⟨fun h=>(by cases h),fun _=>⟨fun h=>(by cases h),fun _=>hn⟩⟩
  |bool h0 ha hn=>rw[if_pos (.inr h0)];exact⟨fun h=>(by cases h),fun _=>⟨fun _=>hn,fun h=>by cases h⟩⟩
  |var h0 ha hn=>rw[if_neg (by omega),if_pos h0];exact aoH cs _ hn
  |not h0 hk=>
   rw[if_neg (by omega),if_neg (by omega),if_neg (by omega)];unfold eR;rw[if_pos h0];split
   ·exact zA _
   ·exact tw _
  |log h0 hk=>
   rw[if_neg (by omega),if_neg (by omega),if_neg (by omega)];unfold eR;rw[if_neg (by omega)];split
   ·exact zA _
   rw[if_neg (by omega)];split
   ·exact tw _
   exact zA _
  |ite k h0 cq=>
   obtain⟨a,b,c,hl,e1,e2,e3⟩:=Hm cq;rw[hl] at ih ⊢;have r1:=ih a (by simp);have r2:=ih b (by simp);have r3:=ih c (by simp);rw[e1] at r1;rw[e2] at r2;rw[e3] at r3;rw[if_neg (by omega),if_neg (by omega)];simp only[eB,Ad,aK,qg];split
   ·rename_i hh;rcases(r1.2 hh.2).1 rfl with h1|h1<;>rw[h1]
    ·exact r3
    ·exact r2
   ·unfold eR;rw[if_neg (by omega),if_neg (by omega),if_pos h0];simp only[aK,qg,Aa];split
    ·exact r2
    ·exact tw _
  |less h0 hk=>
   rw[if_neg (by omega),if_neg (by omega),if_neg (by omega)];unfold eR;rw[if_neg (by omega),if_neg (by omega),if_neg (by omega)];split
   ·exact tw _
   repeat' split
   all_goals exact zA _
  |equal k h0 hk=>
   rw[if_neg (by omega),if_neg (by omega),if_neg (by omega)];unfold eR;rw[if_neg (by omega),if_neg (by omega),if_neg (by omega)];split
   ·exact tw _
   repeat' split
   all_goals exact zA _
  |num h0 cq=>
   obtain⟨a,b,hl,e1,e2⟩:=yT cq;rw[hl] at ih ⊢;have r1:=ih a (by simp);have r2:=ih b (by simp);rw[e1] at r1;rw[e2] at r2;rw[if_neg (by omega),if_neg (by omega),if_neg (by omega)];unfold eR;rw[if_neg (by omega),if_neg (by omega),if_neg (by omega)];simp only[eB,Ad,aK,qg,Aa];split
   ·exact tw _
   rename_i nQ;rw[if_neg (by omega),if_neg (by omega),if_neg (by omega)];have k1:(bk L cs a).known=true:=by
    cases e:(bk L cs a).known with
    |true=>rfl
    |false=>exact absurd (.inl e) nQ
   have k2:(bk L cs b).known=true:=by
    cases e:(bk L cs b).known with
    |true=>rfl
    |false=>exact absurd (.inr e) nQ
   exact⟨fun h=>(by cases h),fun _=>⟨fun h=>(by cases h),fun _=>acj _ _ _ ((r1.2 k1).2 rfl) ((r2.2 k2).2 rfl)⟩⟩
theorem XE:∀(L:Nat) (cs:List Cell) (t:Tm),cJ L t≤60→((dG L cs t).length:Int)≤cJ L t
 |0,cs,t,h=>by simp[cJ] at h
 |L+1,cs,t,h=>by
  have h1:=vz (L+1) t;obtain⟨hl,hp⟩:=Nx h;have hs:∀(l:List Tm) (n:Int),(∀a,a∈l→cJ L a≤60)→eZ (cJ L) l n≤60→((l.map (dG L cs)).flatten.length:Int)+n≤eZ (cJ L) l n∧∀j,(((l.map (dG L cs)).getD j []).length:Int)+n≤eZ (cJ L) l n:=by
   intro l
   induction l with
   |nil=>intro n _ _;simp[eZ]
   |cons a l ih=>
    intro n hp hm;have ha:=XE L cs a (hp a (by simp));unfold eZ at hm ⊢;split at hm
    ·omega
    ·rename_i h60;rw[if_neg h60];obtain⟨i1,i2⟩:=ih (n+cJ L a) (fun b hb=>hp b (by simp[hb])) hm;refine⟨by rw[eB,SV,lu];omega,fun j=>?_⟩;cases j with
     |zero=>simp;omega
     |succ j=>have:=i2 j;simp at this ⊢;omega
  obtain⟨V9,dE⟩:=hs t.args 1 hp h;rw[Hu];split
  ·simp;omega
  split
  ·split<;>simp<;>omega
  split
  ·have:=dE (2-(aK (t.args.map (bk L cs)) 0).n).toNat;show _≤eZ _ _ _;omega
  split
  ·simp;omega
  ·show _≤eZ _ _ _;omega
@[simp] theorem ayW (x y:List Int):tE (ints x) 0 (ints y)=ints y:=_root_.id rfl
@[simp] theorem api (x y:Cell):tE (cN x) 0 (cN y)=cN y:=_root_.id rfl
@[simp] theorem axA (a b:List Int):D.list (a.map D.int++b.map D.int)=ints (a++b):=by simp[ints]
def lists (l:List (List Int)):D:=.list (l.map ints)
@[simp] theorem axM (l:List (List Int)):(lists l).l=l.map ints:=_root_.id rfl
theorem abp (l:List (List Int))(hl:l.length≤1000)(hs:l.flatten.length≤1000000):ak T 228 [lists l] (ints l.flatten):=by
 refine .of_tree rfl (lA 96 (by kernel_rfl)) ara ?_;simp[RH];have hb:∀k,(l.take k).flatten.length≤l.flatten.length:=by
  intro k
  conv=>rhs;rw[←JJ k l]
  rw[List.flatten_append,lu];omega
 have bQ:∀k (hk:k<l.length),(l.take (k+1)).flatten=(l.take k).flatten++l[k]:=fun k hk=>by
  rw[gx hk,List.flatten_append];simp
 refine aH.forRounds l.length (fun k=>[.int ((l.take k).flatten.length:Nat),.int k]) (fun k=>[]) ?_ (fun k hk=>?_) ?_
 ·simp
 ·have hw:=bI hk (by omega);have h1:=bQ k hk;have h2:=hb (k+1);rw[h1] at h2 ⊢;rw[lu] at h2 ⊢;generalize (l.take k).flatten.length=m at*;have q7:IntKind.i64.wrap ((m:Int)+(l[k].length:Int))=(m:Int)+l[k].length:=bG (by omega);have BX:¬((m:Int)+l[k].length<0):=by omega
  simp[aar,IK,hk,hw,q7,BX]
 ·simp[aar,IK];have iL:ak T 254 [.list [],.int (l.flatten.length:Nat)] (.list []):=by
   refine .of_ext (g:=fun _ ds=>Gb ds) rfl ⟨0,fun _ _=>?_⟩;show(if(0:Int)≤(l.flatten.length:Nat)∧((l.flatten.length:Nat):Int)≤4294967296 then some (D.list []) else none)=some (D.list []);rw[if_pos (by omega)]
  rw[List.length_flatten] at iL;refine⟨_,iL,?_⟩;refine aH.forRounds l.length (fun k=>[.none,.int k]) (fun k=>[ints (l.take k).flatten]) ?_ (fun k hk=>?_) ?_
  ·simp[ints]
  ·have hw:=bI hk (by omega);have h1:=bQ k hk;have h2:=hb (k+1);rw[h1] at h2 ⊢;rw[lu] at h2;generalize (l.take k).flatten=m at*;simp[aas,IL,hk,hw];omega
  ·simp[aas,IL]
theorem adw {op:Int}{l:List Cell}(h:(eR op l).known=false):eR op l=dH:=by
 have hy:∀b,(dL b).known=true:=fun b=>by cases b<;>simp[dL]
 unfold eR at h ⊢;split<;>rename_i c1
 ·rw[if_pos c1] at h;split<;>rename_i c2
  ·rw[if_pos c2,hy] at h;cases h
  ·rfl
 rw[if_neg c1] at h;split<;>rename_i c2
 ·rw[if_pos c2,hy] at h;cases h
 rw[if_neg c2] at h;split<;>rename_i c3
 ·rw[if_pos c3] at h;split<;>rename_i c4
  ·rw[if_pos c4,c4.1] at h;cases h
  ·rfl
 rw[if_neg c3] at h;split<;>rename_i c4
 ·rfl
 rw[if_neg c4] at h
 repeat' split at h
 all_goals first|(rw[hy] at h;cases h)|cases h
theorem aa7:∀(L:Nat) (cs:List Cell) (t:Tm) (k:Int),t.OK→cJ L t≤60→bP L t=(k,0)→ak T 191 [KY cs,du t] (.tup [cN (bk L cs t),ints (dG L cs t)])
 |0,cs,t,k,ht,hm,hc=>by simp[cJ] at hm
 |L+1,cs,t,k,ht,hm,hc=>by
  refine .of_tree rfl (lA 89 (by kernel_rfl)) arD ?_;obtain⟨hl,hp⟩:=Nx hm;obtain⟨ha,_⟩:=FN hc;obtain⟨hn,aw9⟩:=FO hc;have gG:∀a,a∈t.args→ak T 191 [KY cs,du a] (.tup [cN (bk L cs a),ints (dG L cs a)]):=fun a eF=>aa7 L cs a (bP L a).1 (ht.arg eF) (hp a eF) (by rw[←ha a eF]);have Ca:∀a,a∈t.args→rP (bP L a).1 (bk L cs a):=fun a eF=>K6 cs (show bP L a=((bP L a).1,0) by rw[←ha a eF]);have VV:∀a,a∈t.args→(dG L cs a).length≤60:=fun a eF=>by have:=XE L cs a (hp a eF);have:=hp a eF;omega
  by_cases gP:t.op=0∨t.op=1
  ·
   have e1:bk (L+1) cs t=⟨true,t.n⟩:=by rw[xV,if_pos gP]
   have e2:dG (L+1) cs t=[]:=by rw[Hu,if_pos gP]
   rw[e1,e2];rcases gP with h|h<;>simp[DZ,h]<;>exact⟨rfl,rfl⟩
  have o0:t.op≠0:=fun h=>gP (.inl h);have o1:t.op≠1:=fun h=>gP (.inr h);by_cases o2:t.op=2
  ·have hv:0≤t.n:=by
    cases hn with
    |var h0 ha hn=>exact hn.1
    |_=>omega
   have e1:bk (L+1) cs t=iX cs t.n:=by rw[xV,if_neg gP,if_pos o2]
   have e2:dG (L+1) cs t=if(iX cs t.n).known=true then[] else[t.n]:=by rw[Hu,if_neg gP,if_pos o2]
   rw[e1,e2];simp[DZ,o2];refine⟨_,apB cs t.n hv,?_⟩;cases e:(iX cs t.n).known
   ·have:iX cs t.n=dH:=by
     unfold iX at e ⊢;split
     ·rfl
     ·rename_i h;rw[if_neg h] at e;split at e
      ·cases hb:decide ((cellAt cs t.n).n≠0)<;>rw[hb] at e<;>cases e
      ·cases e
    rw[this];simp[ints]
   ·have h:iX cs t.n=⟨true,(iX cs t.n).n⟩:=by rw[←e]
    rw[h];simp[ints]
    try rfl
  have hlen:1≤t.args.length∧(t.op≠3→2≤t.args.length)∧(t.op=6→3≤t.args.length):=by
   cases hn with
   |int h0 ha hn=>omega
   |bool h0 ha hn=>omega
   |var h0 ha hn=>omega
   |not h0 hk=>obtain⟨a,hl,_⟩:=al9 hk;rw[hl];simp;omega
   |log h0 hk=>obtain⟨a,b,hl,_⟩:=yT hk;rw[hl];simp;omega
   |ite k h0 hk=>obtain⟨a,b,c,hl,_⟩:=Hm hk;rw[hl];simp
   |less h0 hk=>obtain⟨a,b,hl,_⟩:=yT hk;rw[hl];simp;omega
   |equal k h0 hk=>obtain⟨a,b,hl,_⟩:=yT hk;rw[hl];simp;omega
   |num h0 hk=>obtain⟨a,b,hl,_⟩:=yT hk;rw[hl];simp;omega
  have hb9:9≤t.op→(-1099511627776≤(aK (t.args.map (bk L cs)) 0).n∧(aK (t.args.map (bk L cs)) 0).n≤1099511627776)∧(-1099511627776≤(aK (t.args.map (bk L cs)) 1).n∧(aK (t.args.map (bk L cs)) 1).n≤1099511627776):=by
   intro h9;have rb:∀c:Cell,rP 0 c→-1099511627776≤c.n∧c.n≤1099511627776:=by
    intro c hr;cases e:c.known with
    |false=>rw[hr.1 e];simp
    |true=>exact(hr.2 e).2 rfl
   cases hn with
   |num h0 hk=>
    obtain⟨a,b,hl,ea,eb⟩:=yT hk;rw[hl] at Ca ⊢;have r1:=Ca a (by simp);have r2:=Ca b (by simp);rw[ea] at r1;rw[eb] at r2;exact⟨rb _ r1,rb _ r2⟩
   |log h0 hk=>omega
   |_=>omega
  have h6:t.op=6→(aK (t.args.map (bk L cs)) 0).known=true→(aK (t.args.map (bk L cs)) 0).n=0∨(aK (t.args.map (bk L cs)) 0).n=1:=by
   intro o6 nQ;cases hn with
   |ite k h0 hk=>
    obtain⟨a,b,c,hl,ea,_⟩:=Hm hk;rw[hl] at Ca nQ ⊢;have r1:=Ca a (by simp);rw[ea] at r1;exact(r1.2 nQ).1 rfl
   |log h0 hk=>omega
   |num h0 hk=>omega
   |_=>omega
  have dD:t.op<3∨8<t.op→9≤t.op:=by
   cases hn with
   |log h0 hk=>omega
   |num h0 hk=>omega
   |_=>omega
  have e1:bk (L+1) cs t=if t.op=6∧(aK (t.args.map (bk L cs)) 0).known=true then aK (t.args.map (bk L cs)) (2-(aK (t.args.map (bk L cs)) 0).n).toNat else eR t.op (t.args.map (bk L cs)):=by
   rw[xV,if_neg gP,if_neg o2]
  have e2:dG (L+1) cs t=if t.op=6∧(aK (t.args.map (bk L cs)) 0).known=true then(t.args.map (dG L cs)).getD (2-(aK (t.args.map (bk L cs)) 0).n).toNat [] else if(eR t.op (t.args.map (bk L cs))).known=true then[] else(t.args.map (dG L cs)).flatten:=by
   rw[Hu,if_neg gP,if_neg o2]
  rw[e1,e2];simp[DZ,o0,o1,o2];refine⟨by omega,?_⟩;refine aH.forRounds t.args.length (fun k=>[.int k]) (fun k=>[cells ((t.args.map (bk L cs)).take k++List.replicate (t.args.length-k) dH),lists ((t.args.map (dG L cs)).take k++List.replicate (t.args.length-k) [])]) ?_ (fun k hk=>?_) ?_
  ·simp[cells,lists,ints]
  ·have hw:=bI hk (by omega);have cQ:=cM hk;have hr:=gG _ cQ;have s1:=Qe (t.args.map (bk L cs)) dH (n:=t.args.length) (by simp) hk;have s2:=Qe (t.args.map (dG L cs)) [] (n:=t.args.length) (by simp) hk;rw[←s1,←s2];have l1:((t.args.map (bk L cs)).take k++List.replicate (t.args.length-k) dH).length=t.args.length:=by simp;omega
   have l2:((t.args.map (dG L cs)).take k++List.replicate (t.args.length-k) []).length=t.args.length:=by simp;omega
   have g1:(t.args.map (bk L cs))[k]'(by simpa using hk)=bk L cs t.args[k]:=by simp
   have g2:(t.args.map (dG L cs))[k]'(by simpa using hk)=dG L cs t.args[k]:=by simp
   rw[g1,g2];generalize (t.args.map (bk L cs)).take k++List.replicate (t.args.length-k) dH=A at*;generalize (t.args.map (dG L cs)).take k++List.replicate (t.args.length-k) []=B at*;generalize bk L cs t.args[k]=c at*;generalize dG L cs t.args[k]=d at*;simp[PV,DA,hk];refine⟨_,hr,?_⟩;simp[hw,hk,l1,l2,cells,lists]
  ·have hA:(t.args.map (bk L cs)).take t.args.length++List.replicate (t.args.length-t.args.length) dH=t.args.map (bk L cs):=by rw[JM,List.replicate_zero,rL,wP (by simp)]
   have hB:(t.args.map (dG L cs)).take t.args.length++List.replicate (t.args.length-t.args.length) []=t.args.map (dG L cs):=by rw[JM,List.replicate_zero,rL,wP (by simp)]
   have lA:(t.args.map (bk L cs)).length=t.args.length:=by simp
   have lB:(t.args.map (dG L cs)).length=t.args.length:=by simp
   have BH:∀l:List Tm,(∀a,a∈l→a∈t.args)→((l.map (dG L cs)).flatten.length≤l.length*60):=by
    intro l
    induction l with
    |nil=>intro _;simp
    |cons a l ih=>
     intro h;have h1:=VV a (h a (by simp));have h2:=ih (fun b hb=>h b (by simp[hb]));rw[eB,SV,lu,oJ];omega
   have BH:=BH t.args (fun a h=>h);have hBg:∀m:Nat,(Option.map (dG L cs) t.args[m]?).getD []=(t.args.map (dG L cs)).getD m []:=fun m=>by simp[aI]
   rw[hA,hB];generalize t.args.map (bk L cs)=A at*;generalize t.args.map (dG L cs)=B at*;have g0:0<A.length:=by omega
   have uF:A[0]=aK A 0:=by simp[aK,g0]
   by_cases Gj:t.op=6∧(aK A 0).known=true
   ·obtain⟨o6,kn⟩:=Gj;have hv:=h6 o6 kn;have hw:IntKind.i64.wrap (2-(aK A 0).n)=2-(aK A 0).n:=bG (by omega);have h3:3≤t.args.length:=hlen.2.2 o6;rw[if_pos ⟨o6,kn⟩,if_pos ⟨o6,kn⟩];obtain⟨m,eF⟩:∃m:Nat,m=(2-(aK A 0).n).toNat:=⟨_,rfl⟩
    have BT:m<A.length:=by omega
    have L2:m<B.length:=by omega
    simp[PV,DA,o6,kn,g0,uF,hw,←eF,BT,L2,cells,lists];refine⟨by omega,by omega,by simp[aK,BT],?_⟩;rw[hBg,aI,be L2];rfl
   ·rw[if_neg Gj,if_neg Gj];have ahr:=apx t.op A (by omega) (by omega) (by omega) hb9 dD;have ahs:=abp B (by omega) (by omega);simp[PV,DA,g0,uF];rw[if_neg Gj];refine⟨_,ahr,?_⟩;cases e:(eR t.op A).known
    ·have eG:eR t.op A=dH:=adw e;rw[eG];simp;exact ahs
    ·have h:eR t.op A=⟨true,(eR t.op A).n⟩:=by rw[←e]
     rw[h];simp[ints]
     try rfl
end Rm
