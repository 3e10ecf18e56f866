/-
  Shared texts of this claim.
-/
import Derived.Test.YtbemlocmcgcbdaaGreatDoorKAJ
import Derived.KernelRfl
import Derived.Test.YtbemlocmcgcbdaaGreatDoorKAL
import Derived.Test.YtbemlocmcgcbdaaGreatDoorKAM
import Derived.Test.YtbemlocmcgcbdaaGreatDoorKAN
import Derived.Test.YtbemlocmcgcbdaaGreatDoorKAK
import Derived.Test.YtbemlocmcgcbdaaGreatDoorKAI
import Derived.WalkKit
import Derived.WalkSpells
import Derived.Lib.SliceRun
import Derived.Lib.AppendZeros
import Derived.Laws.Strings
set_option linter.defProp false
set_option linter.unusedVariables false
set_option maxRecDepth 100000
noncomputable section
open Go.IntKind (i64)
namespace Rm
open Go Go.Proofs Cx
def JX:Option PC:=cF [2,0] [] Tryz.f139 139 []
def Yg:PT:=
 (.ite (ba r0 la)
 (.chk Dx
 (.ite (ba vh (.con (.v (.int .u64 65536))))
 (.chk (ba NQ (pi 0))
 (.ite (ba Hm NG)
 (.chk (ba qh (pi 0))
 (.chk (.sok lb (.conv .u8 (.ai .shr .u64 Hm qh)))
 (.ret (aA (aA (aA (pi 32) (pi 16)) (pi 8)) (.conv .i64 (.sidx lb (.conv .u8 (.ai .shr .u64 Hm qh))))))))
 (.chk (.sok lb (.conv .u8 Hm))
 (.ret (aA (aA (pi 32) (pi 16)) (.conv .i64 (.sidx lb (.conv .u8 Hm))))))))
 (.ite (ba vh NG)
 (.chk (ba qh (pi 0))
 (.chk (.sok lb (.conv .u8 (.ai .shr .u64 vh qh)))
 (.ret (aA (aA (pi 32) (pi 8)) (.conv .i64 (.sidx lb (.conv .u8 (.ai .shr .u64 vh qh))))))))
 (.chk (.sok lb (.conv .u8 vh))
 (.ret (aA (pi 32) (.conv .i64 (.sidx lb (.conv .u8 vh)))))))))
 (.ite (ba r0 (.con (.v (.int .u64 65536))))
 (.chk (ba NQ (pi 0))
 (.ite (ba Hf NG)
 (.chk (ba qh (pi 0))
 (.chk (.sok lb (.conv .u8 (.ai .shr .u64 Hf qh)))
 (.ret (aA (aA (aA (pi 0) (pi 16)) (pi 8)) (.conv .i64 (.sidx lb (.conv .u8 (.ai .shr .u64 Hf qh))))))))
 (.chk (.sok lb (.conv .u8 Hf))
 (.ret (aA (aA (pi 0) (pi 16)) (.conv .i64 (.sidx lb (.conv .u8 Hf))))))))
 (.ite (ba r0 NG)
 (.chk (ba qh (pi 0))
 (.chk (.sok lb (.conv .u8 (.ai .shr .u64 r0 qh)))
 (.ret (aA (aA (pi 0) (pi 8)) (.conv .i64 (.sidx lb (.conv .u8 (.ai .shr .u64 r0 qh))))))))
 (.chk (.sok lb (.conv .u8 r0))
 (.ret (aA (pi 0) (.conv .i64 (.sidx lb (.conv .u8 r0)))))))))
def ag1:JX.map told=some (Yg,[]):=by kernel_rfl
def aBu:tree (ab JX)=Yg:=aT ag1
def Ko:Option PC:=cF [10] [] Tryz.f12 12 [5,7,20,22]
def YU:PT:=
 (.call ⟨[],[(7,(.mk [r2])),(5,(.mk [r0]))]⟩ [] 13 43 [jX,r1]
 (.ite (.nt dh)
 (.ret pL)
 (.call ⟨[(15,(ar 8 o5))],[]⟩ [] 20 45 [(ar 8 o5),r1,(ar 19 o7),r3]
 (.call ⟨[],[]⟩ [] 22 44 [dt,dV,r4]
 (.ret kD)))))
def ahD:Ko.map told=some (YU,[]):=by kernel_rfl
def aCk:tree (ab Ko)=YU:=aT ahD
def JR:Option PC:=mQ {ctx with fr:=[6],nh:=[]} Tryz.f156 ⟨[Y8,I,sD],.slice I,.dat⟩ [3,5,7,8,42,9]
def X8:PT:=
 (.chk (ao (pc (.mk [r2]) 15) (pc (.mk [r2]) 19))
 (.ite ai9
 (.ret pL)
 (.chk (.an (ba (pi 5) (pi 0)) (bz (pi 5) cj))
 (.chk (peq (pi 5) (pi 5))
 (.chk (ao (.rep (pi 5) (pi 0)) (pi 0))
 (.call ⟨[],[(9,(.setn (.rep (pi 5) (pi 0)) (pi 0) 0 r1)),(8,(.setc Pn 0 (ar 15 (.mk [r2])))),(7,DF),(3,(.mk [r0]))]⟩ [] 50 121 [jX,(pc DF 7)]
 (.chk (ao o9 (pi 1))
 (.call ⟨[],[(9,(.setn o9 (pi 1) 0 nv))]⟩ [] 56 121 [(ar 8 o3),(pc o8 10)]
 (.chk (ao o9 (pi 2))
 (.call ⟨[],[(9,(.setn o9 (pi 2) 0 pg))]⟩ [] 62 121 [(ar 8 o3),(pc o8 9)]
 (.chk (ao o9 (pi 3))
 (.chk (ao (pc o3 3) (pc o7 2))
 (.call ⟨[],[(9,(.setn o9 (pi 3) 0 ph))]⟩ [] 73 121 [(ar 8 o3),(pc (pn (pc o3 3) (pc o7 2)) 1)]
 (.chk (ao o9 (pi 4))
 (.call ⟨[],[(9,(.setn o9 (pi 4) 0 Hv))]⟩ [] 76 50 [(.setn o9 (pi 4) 0 Hv),(pi (-1))]
 (.ite vm
 (.ret pL)
 (.ret o9)))))))))))))))))
def agV:JR.map told=some (X8,[]):=by kernel_rfl
def aBk:tree (ab JR)=X8:=aT agV
def JS:Option PC:=mQ {ctx with fr:=[6],nh:=[]} Tryz.f156 ⟨[Y8,I,sD],.nils .bool,.dat⟩ [3,5,7,8,42,9]
def O6:PT:=
 (.chk (ao (pc (.mk [r2]) 15) (pc (.mk [r2]) 19))
 (.ite ai9
 (.ret pL)
 (.chk (.an (ba (pi 5) (pi 0)) (bz (pi 5) cj))
 (.chk (peq (pi 5) (pi 5))
 (.chk (ao (.rep (pi 5) (pi 0)) (pi 0))
 (.call ⟨[],[(9,(.setn (.rep (pi 5) (pi 0)) (pi 0) 0 r1)),(8,(.setc Pn 0 (ar 15 (.mk [r2])))),(7,DF),(3,(.mk [r0]))]⟩ [] 50 121 [jX,(pc DF 7)]
 (.chk (ao o9 (pi 1))
 (.call ⟨[],[(9,(.setn o9 (pi 1) 0 nv))]⟩ [] 56 121 [(ar 8 o3),(pc o8 10)]
 (.chk (ao o9 (pi 2))
 (.call ⟨[],[(9,(.setn o9 (pi 2) 0 pg))]⟩ [] 62 121 [(ar 8 o3),(pc o8 9)]
 (.chk (ao o9 (pi 3))
 (.chk (ao (pc o3 3) (pc o7 2))
 (.call ⟨[],[(9,(.setn o9 (pi 3) 0 ph))]⟩ [] 73 121 [(ar 8 o3),(pc (pn (pc o3 3) (pc o7 2)) 1)]
 (.chk (ao o9 (pi 4))
 (.call ⟨[],[]⟩ [] 76 50 [(.setn o9 (pi 4) 0 Hv),(pi (-1))]
 (.ite vm
 (.ret pL)
 (.chk pF
 (.next ⟨[],[]⟩))))))))))))))))))
def agW:JS.map told=some (O6,[]):=by kernel_rfl
def aBl:tree (ab JS)=O6:=aT agW
def VK:List Nat:=[3,4,14,15,16,20,51,52,53,91,54,55,46,13,17,48,47,87,127,18,50,90,19,21,5,22,23,24,56,92,6,25,57,93,140,94,58,59,95,26,27,60,28,29,7,30,61,96,97,141,174,175,202,98,99,100,101,142,102,103,104,105,106,62,63,64,31,32,65,107,108,33,66,34,68,109,67,8,35,9,10,36,69,110,111,143,43,45,85,125,38,75,40,76,118,154,186,208,207,220,121,209,210,155,157,187,212,211,221,188,119,158,190,189,191,213,214,222,226,224,223,159,192,215,225,216,227,229,116,217,163,11,39,42,82,41,77,78,79,80,120,160,161,193,195,218,194,81,122,123,162,197,126,164,198,166,165,167,199,86,71,44,72,115,37,73,74,117,153,139,12]
def Dp:List (Nat×PC):=[(3,(ab Bm)),(4,(ab Bo)),(14,(ab Bp)),(15,(ab Bn)),(16,(ab Bu)),(20,(ab yq)),(51,(ab yA)),(52,(ab yB)),(53,(ab yF)),(91,(ab uz)),(54,(ab yr)),(55,(ab yz)),(46,(ab yy)),(13,(ab yx)),(17,(ab yt)),(48,(ab Bv)),(47,(ab B8)),(87,(ab yI)),(127,(ab yH)),(18,(ab yu)),(50,(ab yG)),(90,(ab uA)),(19,(ab yw)),(21,(ab yC)),(5,(ab BN)),(22,(ab BA)),(23,(ab Kw)),(24,(ab BM)),(56,(ab Ky)),(92,(ab yD)),(6,(ab Ks)),(25,(ab BF)),(57,(ab Kv)),(93,(ab BB)),(140,(ab Kt)),(94,(ab Bz)),(58,(ab BC)),(59,(ab Ku)),(95,(ab BE)),(26,(ab BG)),(27,(ab BH)),(60,(ab BD)),(28,(ab BJ)),(29,(ab BI)),(7,(ab yp)),(30,(ab E7)),(61,(ab BO)),(96,(ab BS)),(97,(ab BQ)),(141,(ab KF)),(174,(ab BR)),(175,(ab KM)),(202,(ab B6)),(98,(ab Kz)),(99,(ab KA)),(100,(ab BP)),(101,(ab KE)),(142,(ab BV)),(102,(ab KB)),(103,(ab KC)),(104,(ab BT)),(105,(ab BW)),(106,(ab BU)),(62,(ab K4)),(63,(ab K5)),(64,(ab yE)),(31,(ab Bt)),(32,(ab Ki)),(65,(ab Kh)),(107,(ab Kg)),(108,(ab Kj)),(33,(ab Br)),(66,(ab Kf)),(34,(ab Bs)),(68,(ab J4)),(109,(ab J5)),(67,(ab Bj)),(8,(ab BL)),(35,(ab BK)),(9,(ab Kk)),(10,(ab Kp)),(36,(ab Bw)),(69,(ab Kl)),(110,(ab Km)),(111,(ab KK)),(143,(ab B3)),(43,(ab Kq)),(45,(ab Kr)),(85,(ab Be)),(125,(ab JT)),(38,(ab BX)),(75,(ab KI)),(40,(ab JL)),(76,(ab JK)),(118,(ab JP)),(154,(ab JQ)),(186,(ab B0)),(208,(ab KG)),(207,(ab KJ)),(220,(ab B2)),(121,(ab KD)),(209,(ab KH)),(210,(ab BY)),(155,(ab Kc)),(157,(ab Bk)),(187,(ab J6)),(212,(ab J7)),(211,(ab KL)),(221,(ab B5)),(188,(ab Bl)),(119,(ab Kb)),(158,(ab Kd)),(190,(ab Ke)),(189,(ab B4)),(191,(ab KQ)),(213,(ab yJ)),(214,(ab Cb)),(222,(ab KW)),(226,(ab KV)),(224,(ab KS)),(223,(ab KZ)),(159,(ab KR)),(192,(ab Cc)),(215,(ab KX)),(225,(ab K0)),(216,(ab KU)),(227,(ab KT)),(229,(ab KY)),(116,(ab JY)),(217,(ab B1)),(163,(ab JO)),(11,(ab JM)),(39,(ab JN)),(42,(ab BZ)),(82,(ab B7)),(41,(ab E4)),(77,(ab KO)),(78,(ab KP)),(79,(ab KN)),(80,(ab E6)),(120,(ab E5)),(160,(ab E1)),(161,(ab J3)),(193,(ab JZ)),(195,(ab J1)),(218,(ab E3)),(194,(ab E2)),(81,(ab B9)),(122,(ab Ca)),(123,(ab Bi)),(162,(ab J0)),(197,(ab J2)),(126,(ab JU)),(164,(ab K1)),(198,(ab Cd)),(166,(ab JV)),(165,(ab Bf)),(167,(ab Bg)),(199,(ab Bq)),(86,(ab Q0)),(71,(ab QY)),(44,(ab By)),(72,(ab Bx)),(115,(ab QZ)),(37,(ab J8)),(73,(ab Ka)),(74,(ab J9)),(117,(ab Bh)),(153,(ab JW)),(139,(ab JX)),(12,(ab Ko))]
def tab:Nat->Option PC:=bI Dp
def aiH:Dp.map (·.1)=VK:=by kernel_rfl
def ayr:(Dp.map (·.1)).Nodup:=by rw[aiH];exact rH (by kernel_rfl)
def lA (k:Nat){f:Nat}{x:PC}(h:Dp[k]?=some (f,x):=by kernel_rfl):tab f=some x:=af6 ayr h
def alT:tab 4=some (ab Bo):=lA 1 (by kernel_rfl)
def alU:tab 14=some (ab Bp):=lA 2 (by kernel_rfl)
def alS:tab 15=some (ab Bn):=lA 3 (by kernel_rfl)
def alW:tab 16=some (ab Bu):=lA 4 (by kernel_rfl)
def abO:tab 20=some (ab yq):=lA 5 (by kernel_rfl)
def abS:tab 51=some (ab yA):=lA 6 (by kernel_rfl)
def abT:tab 52=some (ab yB):=lA 7 (by kernel_rfl)
def abW:tab 53=some (ab yF):=lA 8 (by kernel_rfl)
def abY:tab 91=some (ab uz):=lA 9 (by kernel_rfl)
def abP:tab 54=some (ab yr):=lA 10 (by kernel_rfl)
def abR:tab 55=some (ab yz):=lA 11 (by kernel_rfl)
def al3:tab 46=some (ab yy):=lA 12 (by kernel_rfl)
def abQ:tab 13=some (ab yx):=lA 13 (by kernel_rfl)
def alX:tab 17=some (ab yt):=lA 14 (by kernel_rfl)
def alY:tab 48=some (ab Bv):=lA 15 (by kernel_rfl)
def al5:tab 47=some (ab B8):=lA 16 (by kernel_rfl)
def al7:tab 87=some (ab yI):=lA 17 (by kernel_rfl)
def al6:tab 127=some (ab yH):=lA 18 (by kernel_rfl)
def alZ:tab 18=some (ab yu):=lA 19 (by kernel_rfl)
def abX:tab 50=some (ab yG):=lA 20 (by kernel_rfl)
def abZ:tab 90=some (ab uA):=lA 21 (by kernel_rfl)
def al0:tab 19=some (ab yw):=lA 22 (by kernel_rfl)
def al4:tab 21=some (ab yC):=lA 23 (by kernel_rfl)
def abU:tab 92=some (ab yD):=lA 29 (by kernel_rfl)
def alV:tab 7=some (ab yp):=lA 44 (by kernel_rfl)
def al8:tab 30=some (ab E7):=lA 45 (by kernel_rfl)
def abV:tab 64=some (ab yE):=lA 65 (by kernel_rfl)
def ab1:tab 213=some (ab yJ):=lA 115 (by kernel_rfl)
def ab0:tab 41=some (ab E4):=lA 135 (by kernel_rfl)
def Bd:tab 80=some (ab E6):=lA 139 (by kernel_rfl)
def JC:tab 120=some (ab E5):=lA 140 (by kernel_rfl)
def abM:tab 160=some (ab E1):=lA 141 (by kernel_rfl)
def abN:tab 218=some (ab E3):=lA 145 (by kernel_rfl)
def JB:tab 194=some (ab E2):=lA 146 (by kernel_rfl)
def caps:∀f cs,bI QT f=some cs->(oO cs.args cs.res=none->bI xu f=some ⟨cs.args++cs.caps,cs.res,.dat⟩)/\∀ys,oO cs.args cs.res=some ys->fK VK f=false/\IT Tryz.prog f=true:=acg (l:=QT) (sig:=xu) (P:=Tryz.prog) (pcs:=VK) (by kernel_rfl)
def clos:dJ ctx:=⟨(λf cs h=>(caps f cs h).1),λf s h=>akr (l:=xu) (P:=Tryz.prog) (by kernel_rfl) f s h⟩
def its:∀f cs ys,ctx.cap f=some cs->oO cs.args cs.res=some ys->tab f=none/\∃fn,ctx.P.funcs[f]?=some fn/\fn.body.isSome=true/\(fn.name== "runtime.NumGoroutine")=false:=λf cs ys h hi=>⟨afV (l:=Dp) (by rw[aiH];exact((caps f cs h).2 ys hi).1),aA8 ((caps f cs h).2 ys hi).2⟩
def aAW:∀f pc,tab f=some pc->∃fn s ids fr nh,ctx.P.funcs[f]?=some fn/\ctx.sig f=some s/\mQ {ctx with fr:=fr,nh:=nh} fn s ids=some pc:=
 GU (R:=λf pc=>∃fn s ids fr nh,ctx.P.funcs[f]?=some fn/\ctx.sig f=some s/\mQ {ctx with fr:=fr,nh:=nh} fn s ids=some pc) (l:=Dp)
  (av (aw [8,10,12,13,18,20,21,23] [16,17,19,22,24,25,26] [] Tryz.func3 rfl (ak Bm UJ))
  (av (aw [1] [0,2,3,4,5,6,7,8,9,10,11,12] [] Tryz.func4 rfl (ak Bo ahg))
  (av (aw [0] [] [] Tryz.func14 rfl (ak Bp ahh))
  (av (aw [] [0] [] Tryz.func15 rfl (ak Bn ahf))
  (av (aw [3] [6,7,8] [] Tryz.func16 rfl (ak Bu ahu))
  (av (aw [3] [6] [] Tryz.func20 rfl (ak yq UO))
  (av (aw [1] [2] [] Tryz.func51 rfl (ak yA US))
  (av (aw [] [4] [] Tryz.func52 rfl (ak yB UT))
  (av (aw [] [4] [] Tryz.func53 rfl (ak yF Ve))
  (av (aw [] [4,5] [] Tryz.func91 rfl (ak uz Ng))
  (av (aw [1] [2] [] Tryz.func54 rfl (ak yr UP))
  (av (aw [1] [2] [] Tryz.func55 rfl (ak yz UR))
  (av (aw [3,9] [6,7] [] Tryz.func46 rfl (ak yy ahA))
  (av (aw [3,4] [6] [] Tryz.func13 rfl (ak yx UQ))
  (av (aw [3,4,5,10,12,66] [6,7,8,9,11,14] [] Tryz.func17 rfl (ak yt ahw))
  (av (aw [] [7] [] Tryz.func48 rfl (ak Bv ahx))
  (av (aw [0] [] [] Tryz.func47 rfl (ak B8 ah2))
  (av (aw [0] [6,7,8,9] [] Tryz.func87 rfl (ak yI ah4))
  (av (aw [0] [8,9] [] Tryz.func127 rfl (ak yH ah3))
  (av (aw [5,15,17] [10,11,12,13,14,16,18] [] Tryz.func18 rfl (ak yu ahy))
  (av (aw [] [4] [] Tryz.func50 rfl (ak yG Vf))
  (av (aw [] [4,5] [] Tryz.func90 rfl (ak uA Nh))
  (av (aw [3,9,11] [6,7,8,13] [] Tryz.func19 rfl (ak yw ahz))
  (av (aw [] [4,5] [] Tryz.func21 rfl (ak yC ahN))
  (av (aw [2,3] [4,5] [] Tryz.func5 rfl (ak BN U6))
  (av (aw [1] [2,3,4] [] Tryz.func22 rfl (ak BA M2))
  (av (aw [1] [2] [] Tryz.func23 rfl (ak Kw ahL))
  (av (aw [1] [2,3] [] Tryz.func24 rfl (ak BM U5))
  (av (aw [1] [2] [] Tryz.func56 rfl (ak Ky ahM))
  (av (aw [3] [6,1,7] [] Tryz.func92 rfl (ak yD U4))
  (av (aw [1] [2,3] [] Tryz.func6 rfl (ak Ks ahH))
  (av (aw [1,5,44] [2,3,4,6,7] [] Tryz.func25 rfl (ak BF M4))
  (av (aw [] [4] [] Tryz.func57 rfl (ak Kv ahK))
  (av (aw [] [2,3,4] [] Tryz.func93 rfl (ak BB UZ))
  (av (aw [] [2] [] Tryz.func140 rfl (ak Kt ahI))
  (av (aw [] [6,7] [] Tryz.func94 rfl (ak Bz UY))
  (av (aw [2,3] [4,5] [] Tryz.func58 rfl (ak BC U0))
  (av (aw [] [6] [] Tryz.func59 rfl (ak Ku ahJ))
  (av (aw [] [6,7] [] Tryz.func95 rfl (ak BE U1))
  (av (aw [1,4,44] [2,3,5,6] [] Tryz.func26 rfl (ak BG M5))
  (av (aw [1,3,24] [2,4,5] [] Tryz.func27 rfl (ak BH U2))
  (av (aw [1] [2,3,4] [] Tryz.func60 rfl (ak BD M3))
  (av (aw [1,4] [2,3,5] [] Tryz.func28 rfl (ak BJ M7))
  (av (aw [1,4,6] [2,3,5] [] Tryz.func29 rfl (ak BI M6))
  (av (aw [2,3,10] [4,5,6,7,8,11] [] Tryz.func7 rfl (ak yp M1))
  (av (aw [2,3] [4,5,6,7,8,54,80,109,118,9,10] [] Tryz.func30 rfl (ak E7 aio))
  (av (aw [1,9] [2,3,4,5,6,7,10,11,12] [] Tryz.func61 rfl (ak BO U7))
  (av (aw [1,2,3,4,6,16390,20486,24582,21,8,34,10,12298,16394,47] [] [] Tryz.func96 rfl (ak BS G3))
  (av (aw [] [6,7,8] [] Tryz.func97 rfl (ak BQ Va))
  (av (aw [] [4] [] Tryz.func141 rfl (ak KF ahU))
  (av (aw [] [2,3,4,5] [] Tryz.func174 rfl (ak BR Vb))
  (av (aw [] [4] [] Tryz.func175 rfl (ak KM ah1))
  (av (aw [] [4,5] [] Tryz.func202 rfl (ak B6 Vk))
  (av (aw [] [2] [] Tryz.func98 rfl (ak Kz ahO))
  (av (aw [] [3] [] Tryz.func99 rfl (ak KA ahP))
  (av (aw [2,3] [4,6] [] Tryz.func100 rfl (ak BP U9))
  (av (aw [] [4] [] Tryz.func101 rfl (ak KE ahT))
  (av (aw [] [6,7,8] [] Tryz.func142 rfl (ak BV Vc))
  (av (aw [] [3] [] Tryz.func102 rfl (ak KB ahQ))
  (av (aw [] [3] [] Tryz.func103 rfl (ak KC ahR))
  (av (aw [1,3,4,6,19,8,16392,36] [2] [] Tryz.func104 rfl (ak BT M9))
  (av (aw [1,4,6] [2,3] [] Tryz.func105 rfl (ak BW Nb))
  (av (aw [1,4,6] [2] [] Tryz.func106 rfl (ak BU Na))
  (av (aw [] [4] [] Tryz.func62 rfl (ak K4 aip))
  (av (aw [1,3] [2,8,19,40] [] Tryz.func63 rfl (ak K5 aiq))
  (av (aw [3,9] [6,7] [] Tryz.func64 rfl (ak yE U8))
  (av (aw [3,4,7,11] [6,8,9,76,92,98] [] Tryz.func31 rfl (ak Bt UN))
  (av (aw [] [6] [] Tryz.func32 rfl (ak Ki ahs))
  (av (aw [3,4,7,8] [6,9,10,66,103,113,11,140,149] [] Tryz.func65 rfl (ak Kh ahr))
  (av (aw [3] [6,7] [] Tryz.func107 rfl (ak Kg ahq))
  (av (aw [3] [6] [] Tryz.func108 rfl (ak Kj aht))
  (av (aw [2,3,6] [4,5,7] [] Tryz.func33 rfl (ak Br UL))
  (av (aw [3,4,5] [6,7,8,9,65,80,100,111] [] Tryz.func66 rfl (ak Kf ahp))
  (av (aw [1,4,5,52] [2,3] [] Tryz.func34 rfl (ak Bs UM))
  (av (aw [] [4,5,6] [] Tryz.func68 rfl (ak J4 ahb))
  (av (aw [] [2] [] Tryz.func109 rfl (ak J5 ahc))
  (av (aw [] [2,3,5] [] Tryz.func67 rfl (ak Bj UG))
  (av (aw [2,3,4,5,7,9] [6,8] [] Tryz.func8 rfl (ak BL M8))
  (av (aw [3,6] [7] [] Tryz.func35 rfl (ak BK U3))
  (av (aw [5,7,9,10] [11,12,13] [] Tryz.func9 rfl (ak Kk ahv))
  (av (aw [5,7,9] [10,11,12,13,14,33,36,15] [] Tryz.func10 rfl (ak Kp ahE))
  (av (aw [5,7,9,12,17,52] [10,11,13,14,15,18,19,20] [] Tryz.func36 rfl (ak Bw UU))
  (av (aw [1] [2,3] [] Tryz.func69 rfl (ak Kl ahB))
  (av (aw [1] [2] [] Tryz.func110 rfl (ak Km ahC))
  (av (aw [] [4] [] Tryz.func111 rfl (ak KK ahZ))
  (av (aw [] [4,5] [] Tryz.func143 rfl (ak B3 Vh))
  (av (aw [2] [4] [] Tryz.func43 rfl (ak Kq ahF))
  (av (aw [4,6,8] [] [] Tryz.func45 rfl (ak Kr ahG))
  (av (aw [4,6,8,9,10,28] [11] [] Tryz.func85 rfl (ak Be UB))
  (av (aw [4,6,8,9] [] [] Tryz.func125 rfl (ak JT agX))
  (av (aw [2,4,5,65541,69637,73733,77829,7,31,9,49,11,13] [] [] Tryz.func38 rfl (ak BX Dj))
  (av (aw [] [4] [] Tryz.func75 rfl (ak KI ahX))
  (av (aw [5,8,77832,10] [] [] Tryz.func40 rfl (ak JL agP))
  (av (aw [4,7,8,9] [10] [] Tryz.func76 rfl (ak JK agO))
  (av (aw [4,7,8,10,16394] [9,11,12,13,14] [] Tryz.func118 rfl (ak JP agT))
  (av (aw [2,3,4] [5] [] Tryz.func154 rfl (ak JQ agU))
  (av (aw [2,3,5,6,8,10,90,139] [4,7,9,11,12,13,14,15,16] [] Tryz.func186 rfl (ak B0 Nd))
  (av (aw [2] [3] [] Tryz.func208 rfl (ak KG ahV))
  (av (aw [] [4] [] Tryz.func207 rfl (ak KJ ahY))
  (av (aw [] [4,5] [] Tryz.func220 rfl (ak B2 Vg))
  (av (aw [2] [4] [] Tryz.func121 rfl (ak KD ahS))
  (av (aw [2] [] [] Tryz.func209 rfl (ak KH ahW))
  (av (aw [3,6,8] [] [] Tryz.func210 rfl (ak BY Vd))
  (av (aw [] [2,3,4,11] [] Tryz.func155 rfl (ak Kc ahm))
  (av (aw [4,10,53] [8,9,11,12,13,14,55,70] [] Tryz.func157 rfl (ak Bk UH))
  (av (aw [4,9] [8] [] Tryz.func187 rfl (ak J6 ahd))
  (av (aw [] [3] [] Tryz.func212 rfl (ak J7 ahe))
  (av (aw [] [4] [] Tryz.func211 rfl (ak KL ah0))
  (av (aw [] [4,5] [] Tryz.func221 rfl (ak B5 Vj))
  (av (aw [4,11] [8,9] [] Tryz.func188 rfl (ak Bl UI))
  (av (aw [3,6,8,10] [7,9,11,12] [] Tryz.func119 rfl (ak Kb ahl))
  (av (aw [2,3,4,12292,9] [5,6,7,8,10,11] [] Tryz.func158 rfl (ak Kd ahn))
  (av (aw [2] [3] [] Tryz.func190 rfl (ak Ke aho))
  (av (aw [] [4,5] [] Tryz.func189 rfl (ak B4 Vi))
  (av (aw [1] [2,3] [] Tryz.func191 rfl (ak KQ aib))
  (av (aw [2,7,12295] [4,5] [] Tryz.func213 rfl (ak yJ Vo))
  (av (aw [1,4,6,12294,9] [2,3,5,7,8,38,47,10,11,12] [] Tryz.func214 rfl (ak Cb Nj))
  (av (aw [1] [2,3,12,20,4,5] [] Tryz.func222 rfl (ak KW aii))
  (av (aw [] [2] [] Tryz.func226 rfl (ak KV aih))
  (av (aw [] [2,3,4,11] [] Tryz.func224 rfl (ak KS aid))
  (av (aw [2] [4,8,13,17,21] [] Tryz.func223 rfl (ak KZ ail))
  (av (aw [2,4,7] [5,6,8] [] Tryz.func159 rfl (ak KR aic))
  (av (aw [2,3,4,6,33,7,8,10,12298,12] [5,15,21,9,11] [] Tryz.func192 rfl (ak Cc Vn))
  (av (aw [2,4] [5,6] [] Tryz.func215 rfl (ak KX aij))
  (av (aw [2] [] [] Tryz.func225 rfl (ak K0 aim))
  (av (aw [4,5] [9,22,41,6,7,82,88,94] [] Tryz.func216 rfl (ak KU aif))
  (av (aw [] [6,8,14,20,25] [] Tryz.func227 rfl (ak KT aie))
  (av (aw [] [4,5,6,7] [] Tryz.func229 rfl (ak KY aik))
  (av (aw [] [4,5,6,7,8,9,10,11,12,13] [] Tryz.func116 rfl (ak JY ag2))
  (av (aw [6] [2,3,5,8] [] Tryz.func217 rfl (ak B1 Nf))
  (av (aw [1] [2,3,7,12] [] Tryz.func163 rfl (ak JO agS))
  (av (aw [4,6] [8,9,10,11] [] Tryz.func11 rfl (ak JM agQ))
  (av (aw [1] [2] [] Tryz.func39 rfl (ak JN agR))
  (av (aw [1,3,6,8] [2,4] [] Tryz.func42 rfl (ak BZ Nc))
  (av (aw [] [2,3,4] [] Tryz.func82 rfl (ak B7 Vl))
  (av (aw [4,5,10] [8,9,15,39,58,74,11,12] [] Tryz.func41 rfl (ak E4 ah5))
  (av (aw [2] [4] [] Tryz.func77 rfl (ak KO ah9))
  (av (aw [] [2] [] Tryz.func78 rfl (ak KP aia))
  (av (aw [1] [2] [] Tryz.func79 rfl (ak KN ah6))
  (av (aw [3,4] [6,7,13,16,24,33,8,9] [] Tryz.func80 rfl (ak E6 ah8))
  (av (aw [3] [4,5] [] Tryz.func120 rfl (ak E5 ah7))
  (av (aw [] [4,5,6,7,8,9] [] Tryz.func160 rfl (ak E1 ag3))
  (av (aw [] [2] [] Tryz.func161 rfl (ak J3 aha))
  (av (aw [] [2,3,4,5,6,7,8,9] [] Tryz.func193 rfl (ak JZ ag5))
  (av (aw [] [4] [] Tryz.func195 rfl (ak J1 ag7))
  (av (aw [] [6,0,1] [] Tryz.func218 rfl (ak E3 ag8))
  (av (aw [] [6,7,8] [] Tryz.func194 rfl (ak E2 ag4))
  (av (aw [3] [6,7,8,2,9,10] [] Tryz.func81 rfl (ak B9 Vm))
  (av (aw [3,9] [6,7,2] [] Tryz.func122 rfl (ak Ca Ni))
  (av (aw [2,4,5] [6] [] Tryz.func123 rfl (ak Bi UE))
  (av (aw [3,4,5] [6] [] Tryz.func162 rfl (ak J0 ag6))
  (av (aw [2] [4,5,6,7] [] Tryz.func197 rfl (ak J2 ag9))
  (av (aw [2,4,5,6,43] [] [] Tryz.func126 rfl (ak JU agY))
  (av (aw [3] [6] [] Tryz.func164 rfl (ak K1 ain))
  (av (aw [2,5,7] [4] [] Tryz.func198 rfl (ak Cd Vp))
  (av (aw [3,7] [6] [] Tryz.func166 rfl (ak JV agZ))
  (av (aw [] [2,3,5,12,15] [] Tryz.func165 rfl (ak Bf UC))
  (av (aw [2,9] [4,5,6,7,10,50,54] [] Tryz.func167 rfl (ak Bg UD))
  (av (aw [2,7] [4,5] [] Tryz.func199 rfl (ak Bq UK))
  (av (aw [1] [2] [] Tryz.func86 rfl (ak Q0 axE))
  (av (aw [2,3] [4] [] Tryz.func71 rfl (ak QY axC))
  (av (aw [3,6,7,9] [] [] Tryz.func44 rfl (ak By UX))
  (av (aw [3,5,1,10] [6,7,9] [] Tryz.func72 rfl (ak Bx UW))
  (av (aw [] [5] [] Tryz.func115 rfl (ak QZ axD))
  (av (aw [] [6,7,8,9,10] [] Tryz.func37 rfl (ak J8 ahi))
  (av (aw [] [4] [] Tryz.func73 rfl (ak Ka ahk))
  (av (aw [] [6,7,8,9,10,11,12] [] Tryz.func74 rfl (ak J9 ahj))
  (av (aw [] [6,7,8,2,9,10,11,12,13,14,15,16,17,18] [] Tryz.func117 rfl (ak Bh M0))
  (av (aw [] [2] [] Tryz.func153 rfl (ak JW ag0))
  (av (aw [] [2,0] [] Tryz.func139 rfl (ak JX ag1))
  (av (aw [5,7,20,22] [10] [] Tryz.func12 rfl (ak Ko ahD))
  trivial)))))))))))))))))))))))))))))))))))))))))))))))))))))))))))))))))))))))))))))))))))))))))))))))))))))))))))))))))))))))))))))))))))))))))))))))))))))))))))))))))))))))))))
end Rm
set_option linter.unusedSimpArgs false
namespace Rm
open Go Go.Proofs Cx Go.RowKit Go.Lib
def auc:(Tryz.prog.info? 3).map (λi=>(i.zero,i.size,i.bytes))=some (some (.int .i64 0),1,8):=by kernel_rfl
set_option maxHeartbeats 2000000 in
set_option maxRecDepth 100000 in
def aqQ (w:World):Calls Tryz.prog 228 #[.slice none 0 0,.int .i64 0] w λe w'=>e=.returned (.slice none 0 0)/\w'=w:=by
 go_enter Tryz.func228,Tryz.ntmps228
 go_wp2
 go_ret
 exact⟨rfl,rfl⟩
set_option maxHeartbeats 2000000 in
set_option maxRecDepth 100000 in
def aqP (n:Nat)(w:World)(h0:0<n)(h1:n<=4294967296):Calls Tryz.prog 228 #[.slice none 0 0,.int .i64 n] w λe w'=>
 ∃v',e=.returned v'/\w'.ownsRow w.heap.size 3 1 v' 0 []/\Below w.heap.size w w':=by
 obtain⟨i0,hi,C4,pW,hz2⟩:=info_parts auc;have hr:=run_append_nil_zeros w 62 3 62 3 i0 (.int .i64 0) .i64 .i64 Tryz.underlying62 Tryz.underlying3 hi C4 n h0 (by rw[pW];decide) (by omega) (by rw[hz2];omega);have hn:¬((n:Int)<0):=by omega
 have mf:(n:Int)>0:=by omega
 have hw:i64.wrap (n:Int)=n:=by rw[IntKind.wrap_i64];omega
 have lP:i64.wrap 0=0:=by decide
 have hZ:=grownCap_ge w n 0 3;have hle:=grownCap_le_maxLen w n 0 3 (by unfold maxLen;omega);have hs:(Builtin.zeroCells #[Value.int IntKind.i64 0] n++Builtin.zeroCells #[Value.int IntKind.i64 0] (grownCap w n 0 3-n)).size=grownCap w n 0 3*1:=by
  rw[Array.size_append,size_zeroCells,size_zeroCells];simp;omega
 go_enter Tryz.func228,Tryz.ntmps228
 go_wp2_with (at_builtin;refine wpList_append_run _ rfl _ _ 62 3 rfl _ _ rfl rfl _ _ hr ?qc)
 go_ret
 refine⟨_,rfl,?_,?_⟩
 .exact World.ownsRow.drew (World.ownsRow_made w _ _ (aZ _) hle hs)
 .exact((Below.refl _ w).alloc (aZ _) _).drew
def FD (ds:List D):Option D:=
 match ds with
 |[.list [],.v (.int .i64 n)]=>if 0<=n/\n<=4294967296 then some (.list []) else none
 |_=>none
def aqO (ds:List D)(d:D)(h:FD ds=some d):∃s,ctx.sig 228=some s/\Pt ctx 228 s ds d:=by
 refine⟨_,rfl,λ_=>?_,λshs obs hm=>by cases hm⟩;unfold FD at h;split at h
 case h_2=>cases h
 rename_i n;split at h
 case isFalse=>cases h
 rename_i hn;cases h;obtain⟨k,rfl⟩:=qB hn.1;intro V w args ax hC ha;obtain⟨a1,a2,a3⟩:=ha;have h0:=a3 0 _ rfl;have h1:=a3 1 _ rfl;obtain⟨u,v,rfl⟩:∃u v,args=#[u,v]:=by
  have:args.size=2:=by simpa using a1
  match args,this with
  |⟨[u,v]⟩,_=>exact⟨u,v,rfl⟩
 simp only[qD,A0] at h0 h1;change Rep ctx.cap V (.nils .bool) u (.list []) at h0;change Rep ctx.cap V (.int .i64) v (.v (.int .i64 k)) at h1;have hu:u=.slice none 0 0:=by cases h0;rfl
 have hv:v=.int .i64 k:=by cases h1;rfl
 subst hu hv;by_cases hk:k=0
 .subst hk;refine(aqQ w).mono λe w' hh=>?_;obtain⟨rfl,rfl⟩:=hh;refine⟨_,V,rfl,.refl V,ax,.refl _ _,λ_ _ _ h=>.inl h,λ_ _ h=>.inl h,?_⟩;exact⟨[],[],rfl,⟨by simp,.inl ⟨rfl,rfl⟩⟩,⟨λ_=>undef,λi x hx=>by simp at hx,λi j u hi=>by simp at hi⟩,λk hk=>by cases hk⟩
 .refine(aqP k w (by omega) (by omega)).mono λe w' hh=>?_;obtain⟨v',rfl,bB,hb⟩:=hh;refine⟨v',V,rfl,.refl V,ax.below hb,hb,λ_ _ _ h=>.inl h,λ_ _ h=>.inl h,?_⟩;refine⟨[],[],rfl,bB,⟨λ_=>undef,λi x hx=>by simp at hx,λi j u hi=>by simp at hi⟩,λk hk=>?_⟩;have bn:=(bB.lt k hk).1;refine⟨λo=>?_,?_⟩
  .cases hc:V.c k o with
   |none=>rfl
   |some u=>have:=World.block_lt_of_cell? w (a:=⟨k,o,none⟩) (ax.c _ _ _ hc);simp at this;omega
  .cases hc:V.m k with
   |none=>rfl
   |some u=>have:=(ax.m _ _ hc).lt;omega
def fA (day:Int):Int×Int×Int:=
 let n:=day+730425
 let e:=n/146097
 let r:=n%146097
 let y:=(r-r/1460+r/36524-r/146096)/365
 let r:=r-(365*y+y/4-y/100)
 let m:=(5*r+2)/153
 let dom:=r-(153*m+2)/5+1
 let month:=if 12<m+3 then m+3-12 else m+3
 (if month<3 then y+400*e+1 else y+400*e,month,dom)
def z8 (rest feasts shut:List Int)(day:Int):Bool:=
 !rest.contains ((day+5)%7)&&(!feasts.contains (100*(fA day).2.1+(fA day).2.2)&& !shut.contains day)
def acE (rest feasts shut:List Int)(a b:Int):List Int:=((List.range (b-a+1).toNat).map λ(k:Nat)=>a+k).filter (z8 rest feasts shut)
def zF (d:D):List Int:=d.l.map D.i
def acF (ds:List D):List D:=
 let c:=(ds.getD 2 .none).deref
 (acE (zF (c.c 3)) (zF (c.c 4)) (zF (c.c 5)) (ds.getD 0 .none).deref.i (ds.getD 1 .none).deref.i).map λd=>.tup [.int d]
def Bc (r:D)(city:Int):Int:=if 0<=city/\city<(r.c 1).l.length then(((r.c 1).l.getD city.toNat .none).c 1).i else-1
def VN (ds:List D):D:=
 let r:=ds.getD 0 .none
 let forum:=(ds.getD 1 .none).i
 let c:=ds.getD 2 .none
 let s:=(c.c 15).l.getD (c.c 19).i.toNat .none
 let who:=(s.c 2).i
 if who<0\/(r.c 3).l.length<=who\/forum<0\/(r.c 4).l.length<=forum then .list [] else
 let out:=[forum,Bc r (s.c 7).i,Bc r (c.c 10).i,Bc r (c.c 9).i,Bc r (((r.c 3).l.getD who.toNat .none).c 1).i]
 if(-1)∈out then .list [] else ints out
def Rs:List (Nat×(aO->List D->Option D)):=[(228,λ_ ds=>FD ds),(156,u9 (ab JR) (ab JS) VN),(196,wM (ab uy) 1000 1 acF),(49,λ_ ds=>D5 ds),(83,λ_ ds=>Ld ds),(113,λ_ ds=>K9 ds),(70,λ_ ds=>OT ds),(114,λ_ ds=>OU ds),(84,λ_ ds=>Lg ds)]
def ext:Nat->Option (aO->List D->Option D):=bI Rs
def aAV:TabOK ctx tab ext:=by
 refine⟨clos,its,λf pc _ h=>aAW f pc h,λf g hg Z hΦ ef ds d h=>?_⟩
 have:=GU (R:=λf (g:aO->List D->Option D)=>∀Z,dj ctx Z->gR ctx Z->∀ds d,g Z ds=some d->(∀s,ctx.sig f=some s->Pt ctx f s ds d)/\
  ∀cs ys,ctx.cap f=some cs->oO cs.args cs.res=some ys->∃xs,d=.list xs/\(∀x,x∈xs->∃ds',x=.tup ds'/\ds'.length=ys.length)/\mE ctx f cs.caps ys ds xs) (l:=Rs)
  ⟨λZ hΦ ef ds d h=>⟨λs hs=>by obtain⟨s',h1,h2⟩:=aqO ds d h;rw[hs] at h1;cases h1;exact h2,λcs ys hc hi=>by cases hc⟩,
   λZ hΦ ef ds d h=>⟨λs hs=>by cases hs;exact⟨λ_=>axu clos hΦ ef Tryz.func156 (ak JR agV) (ak JS agW) h,λshs obs hm=>by cases hm⟩,λcs ys hc hi=>by cases hc⟩,
   λZ hΦ ef ds d h=>⟨λs hs=>(by cases hs),λcs ys hc hi=>by
    cases hc;cases hi;exact aui clos hΦ ef Tryz.func196 am1 h rfl⟩,
   λZ hΦ ef ds d h=>⟨λs hs=>by cases hs;exact⟨λhm=>(by cases hm),λshs obs hm=>by cases hm;exact aAH ds d h⟩,λcs ys hc hi=>by cases hc⟩,
   λZ hΦ ef ds d h=>⟨λs hs=>by cases hs;exact⟨λhm=>(by cases hm),λshs obs hm=>by cases hm;exact anB ds d h⟩,λcs ys hc hi=>by cases hc⟩,
   λZ hΦ ef ds d h=>⟨λs hs=>by obtain⟨s',h1,h2⟩:=ank ds d h;rw[hs] at h1;cases h1;cases hs;exact⟨λ_=>h2,λshs obs hm=>by cases hm⟩,λcs ys hc hi=>by cases hc⟩,
   λZ hΦ ef ds d h=>⟨λs hs=>by cases hs;exact⟨λhm=>(by cases hm),λshs obs hm=>by cases hm;exact aAC ds d h⟩,λcs ys hc hi=>by cases hc⟩,
   λZ hΦ ef ds d h=>⟨λs hs=>by cases hs;exact⟨λhm=>(by cases hm),λshs obs hm=>by cases hm;exact aAE ds d h⟩,λcs ys hc hi=>by cases hc⟩,
   λZ hΦ ef ds d h=>⟨λs hs=>by cases hs;exact⟨λhm=>(by cases hm),λshs obs hm=>by cases hm;exact anS ds d h⟩,λcs ys hc hi=>by cases hc⟩,trivial⟩ f g hg
 exact this Z hΦ ef ds d h
abbrev T:cH:=cP tab ext
theorem zyw {ds:List D}{d:D}{t:PT}(k:Nat){f:Nat}{x:PC}(he:tree x=t)(h:aI (cP tab ext) t (lF ds) (λx=>x=.ret d))(hl:Dp[k]?=some (f,x):=by kernel_rfl)(hx:ext f=none:=by rfl):aj (cP tab ext) f ds d:=.of_tree hx (lA k hl) he h
def axt {pa pb:PC}{spec:List D->D}{Z Ψ:aO}(h:Le Z Ψ){ds:List D}{d:D}(e:u9 pa pb spec Z ds=some d):u9 pa pb spec Ψ ds=some d:=by
 unfold u9 at e ⊢;split at e
 .rename_i hs;rw[if_pos]
  .exact e
  .rcases hs with⟨N,xs,h1,h2⟩|⟨N,h1,h2⟩
   .exact .inl ⟨N,xs,PC.ev_mono h (aZ _) h1,h2⟩
   .exact .inr ⟨N,PC.ev_mono h (aZ _) h1,h2⟩
 .cases e
def ao7:∀f g,ext f=some g->∀Z Ψ,Le Z Ψ->∀ds d,g Z ds=some d->g Ψ ds=some d:=λf g hg=>
 GU (R:=λ_ (g:aO->List D->Option D)=>∀Z Ψ,Le Z Ψ->∀ds d,g Z ds=some d->g Ψ ds=some d) (l:=Rs) ⟨λ_ _ _ _ _ e=>e,λ_ _ h _ _ e=>axt h e,λ_ _ h _ _ e=>auh h e,λ_ _ _ _ _ e=>e,λ_ _ _ _ _ e=>e,λ_ _ _ _ _ e=>e,λ_ _ _ _ _ e=>e,λ_ _ _ _ _ e=>e,λ_ _ _ _ _ e=>e,trivial⟩ f g hg
def aj.of_nsl {tab:Nat->Option PC}{ext:Nat->Option (aO->List D->Option D)}{f:Nat}{pa pb:PC}{spec:List D->D}{ds:List D}{ta tb:PT}(hx:ext f=some (u9 pa pb spec))(hta:tree pa=ta)(htb:tree pb=tb)
 (h:(∃xs,xs≠[]/\spec ds=.list xs/\aI (cP tab ext) ta (lF ds) (λx=>x=.ret (.list xs)))\/(spec ds=.list []/\aI (cP tab ext) tb (lF ds) (λx=>x=.ret (.list [])))):aj (cP tab ext) f ds (spec ds):=by
 refine aj.of_ext hx ?_;rcases h with⟨xs,h1,h2,h3⟩|⟨h2,h3⟩
 .obtain⟨x,rfl,n0,hn⟩:=Pj (c:=pa) (hta▸h3);refine⟨n0,λn hle=>?_⟩;unfold u9;rw[if_pos (.inl ⟨n,xs,hn n hle,h1,h2⟩)]
 .obtain⟨x,rfl,n0,hn⟩:=Pj (c:=pb) (htb▸h3);refine⟨n0,λn hle=>?_⟩;unfold u9;rw[if_pos (.inr ⟨n,hn n hle,h2⟩)]
end Rm
namespace Rm
open Go Go.Proofs Cx
def eP (n:Nat)(p:Nat->Bool):Bool:=(List.range n).all p
def abG {n:Nat}{p:Nat->Bool}(h:∀k,k<n->p k=true):eP n p=true:=cM.2 λk hk=>h k (fR.1 hk)
def alG {n k:Nat}{p:Nat->Bool}(hk:k<n)(h:p k=false):eP n p=false:=List.all_eq_false.2 ⟨k,fR.2 hk,by simp[h]⟩
def yd {n:Nat}{p:Nat->Bool}:eP n p=true↔∀k,k<n->p k=true:=⟨λh k hk=>cM.1 h k (fR.2 hk),abG⟩
def fW (n:Nat)(f:Nat->Int):Int:=(((List.range n).map f).find? λx=>x !=0).getD 0
def Rz {n:Nat}{f:Nat->Int}(h:∀k,k<n->f k=0):fW n f=0:=by
 unfold fW;rw[xS.2]
 .rfl
 .intro x hx;obtain⟨k,hk,rfl⟩:=cd.1 hx;simp[h k (fR.1 hk)]
def Rx {n k:Nat}{f:Nat->Int}(hk:k<n)(hj:∀j,j<k->f j=0)(h:f k≠0):fW n f=f k:=by
 unfold fW;have e:List.range n=List.range k++k::(List.range' (k+1) (n-k-1)):=by
  rw[PK,PK,<-PJ];have:=List.range'_append_1 (s:=0) (m:=k) (n:=n-k-1+1);rw[ke] at this;rw[this];congr 1;omega
 rw[e,py,aa8,xS.2,Option.none_or,iy,List.find?_cons_of_pos (by simpa using h)]
 .rfl
 .intro x hx;obtain⟨j,wg,rfl⟩:=cd.1 hx;simp[hj j (fR.1 wg)]
def Ry {n:Nat}{f:Nat->Int}:fW n f=0↔∀k,k<n->f k=0:=by
 refine⟨λh k=>?_,Rz⟩
 induction k using Nat.strongRecOn with
 |ind k ih=>
  intro hk;refine vB λay=>?_;rw[Rx hk (λj hj=>ih j hj (by omega)) ay] at h;exact ay h
section
variable {T:cH} {id:Nat} {bF bE lr lo:List Nat} {a:PC} {O:Env} {Q:Out->Prop}
def gK (N:Nat)(p:Nat->Bool)(str fO:Nat->List D)(h0:lr.map O.r=str 0/\lo.map O.o=fO 0)
 (step:∀k,k<N->p k=true->aI T (round id bF bE lr lo a) (O.put lr (str k) lo (fO k)) (fm O id bF bE lr lo (λvr vo=>vr=str (k+1)/\vo=fO (k+1)) Q))
 (bad:∀k,k<N->p k=false->eP N p=false->aI T (round id bF bE lr lo a) (O.put lr (str k) lo (fO k)) (fm O id bF bE lr lo (λ_ _=>False) Q))
 (last:eP N p=true->aI T (round id bF bE lr lo a) (O.put lr (str N) lo (fO N)) (fm O id bF bE lr lo (λ_ _=>False) Q)):aK T (.block id bF bE (.loop lr lo a)) O Q:=
 .scan N (λk=>p k=true) str fO h0 (λk hk _ h=>step k hk h) (λk hk _ h=>bad k hk (by simpa using h) (alG hk (by simpa using h))) (λh=>last (abG h))
def qo (N:Nat)(f:Nat->Int)(str fO:Nat->List D)(h0:lr.map O.r=str 0/\lo.map O.o=fO 0)
 (step:∀k,k<N->f k=0->aI T (round id bF bE lr lo a) (O.put lr (str k) lo (fO k)) (fm O id bF bE lr lo (λvr vo=>vr=str (k+1)/\vo=fO (k+1)) Q))
 (bad:∀k,k<N->f k≠0->fW N f=f k->aI T (round id bF bE lr lo a) (O.put lr (str k) lo (fO k)) (fm O id bF bE lr lo (λ_ _=>False) Q))
 (last:fW N f=0->aI T (round id bF bE lr lo a) (O.put lr (str N) lo (fO N)) (fm O id bF bE lr lo (λ_ _=>False) Q)):aK T (.block id bF bE (.loop lr lo a)) O Q:=
 .scan N (λk=>f k=0) str fO h0 (λk hk _ h=>step k hk h) (λk hk hj h=>bad k hk h (Rx hk hj h)) (λh=>last (Rz h))
end
def bq {k n:Nat}(h:k<n)(hn:n<=4294967296):i64.wrap ((k:Int)+1)=(k:Int)+1:=aQ (by omega)
def xL {k:Nat}(hn:k<=4294967296):i64.wrap ((k:Int)-1)=(k:Int)-1:=aQ (by omega)
def aC (i n:Int):Bool:=decide (0<=i)&&decide (i<n)
def wi (n a b:Int):Bool:=decide (a<=n)&&decide (n<=b)
def gl (i n:Int):aj T 101 [.int i,.int n] (.bool (aC i n)):=by
 refine zyw 56 aCY ?_;simp[ZE,aC];by_cases h:0<=i<;>simp[h]
def rW (i n:Int):aj T 75 [.int i,.int n] (.bool (aC i n)):=by
 refine zyw 91 aDc ?_;simp[ZR,aC];by_cases h:0<=i<;>simp[h]
def cT (n a b:Int):aj T 59 [.int n,.int a,.int b] (.bool (wi n a b)):=by
 refine zyw 37 aCC ?_;simp[Zj,wi];by_cases h:a<=n<;>simp[h]
def idx_eq {α:Type}[DecidableEq α]{l:List α}{x z:α}{k:Nat}(hk:k<l.length)(hj:∀j,j<k->l.getD j z≠x)(h:¬l.getD k z≠x):x∈l/\l.findIdx (λy=>decide (y=x))=k:=by
 have e:l[k]=x:=by simpa [hk] using h
 refine⟨e▸bQ hk,(List.findIdx_eq hk).2 ⟨by simp[e],λj ko=>?_⟩⟩;have ia:j<l.length:=by omega
 simpa [ia] using hj j ko
def afe {α:Type}[DecidableEq α]{l:List α}{x z:α}(hj:∀j,j<l.length->l.getD j z≠x):¬x∈l:=λhm=>by
 obtain⟨j,ia,rfl⟩:=fw hm;have:=hj j ia;simp[ia] at this
def wH {α:Type}[DecidableEq α](l:List α)(x:α):Int:=if x∈l then(l.findIdx (λy=>decide (y=x)):Nat) else-1
def hasB {α:Type}[DecidableEq α](l:List α)(x:α):Bool:=l.any λy=>decide (y=x)
def R0 {α:Type}[DecidableEq α]{l:List α}{x:α}:hasB l x=true↔x∈l:=by simp[hasB]
def ad0 {α:Type}[DecidableEq α]{l:List α}{x:α}:hasB l x=false↔¬x∈l:=by rw[<-R0];simp
def afd {α:Type}[DecidableEq α](l:List α)(x:α):decide (0<=wH l x)=hasB l x:=by
 unfold wH;by_cases h:x∈l
 .rw[R0.2 h];simp[h]
 .rw[ad0.2 h];simp[h]
@[simp] def aHL (a b:ByteArray):Ch .eql a b=decide (a=b):=by
  simp only[Ch,ByteArray.toList_eq];by_cases h:a=b
  .subst h;simp
  .rw[decide_eq_false h,beq_eq_false_iff_ne];intro e;have:a.data=b.data:=by rw[<-AQ];exact e
   exact h (by cases a;cases b;cases this;rfl)
@[simp] def aIE (O:Env)(x i:PE):PE.ev O (.sidx x i)=.v (.int .u8 ((PE.ev O x).s.data.getD (PE.ev O i).i.toNat 0).toNat):=zyz
@[simp] def aII (O:Env)(x i:PE):PE.ev O (.sok x i)=.v (.bool (decide (0<=(PE.ev O i).i/\(PE.ev O i).i<(PE.ev O x).s.size))):=zyz
@[simp] def aLC (a:ByteArray):(str a).s=a:=zyz
def ak4 (l:List Int)(x:Int)(hl:l.length<=4294967296):aj T 90 [ints l,.int x] (.int (wH l x)):=by
 refine .of_tree rfl abZ aDp ?_;simp[Z4];refine .scan l.length (λk=>l.getD k 0≠x) (λk=>[.int 0,.int k]) (λ_=>[]) ?_ (λk hk hj ho=>?_) (λk hk hj ho=>?_) (λhj=>?_)
 .simp
 .have hw:=bq hk hl;simp[hk] at ho;have jc:¬x=l[k]:=λe=>ho e.symm;simp[Xi,Iu,hk,hw,ints,ho,jc]
 .obtain⟨hm,he⟩:=idx_eq hk hj ho;simp[hk] at ho;simp[Xi,Iu,hk,ints,ho,wH,hm,he]
 .have:=afe hj;simp[Xi,Iu,wH,this,ints]
def xN (l:List Int)(x:Int)(hl:l.length<=4294967296):aj T 50 [ints l,.int x] (.bool (hasB l x)):=by
 refine .of_tree rfl abX aDi ?_;simp[ZX];refine⟨_,ak4 l x hl,?_⟩;have:=afd l x;simp at this ⊢;exact this
def ak5 (l:List ByteArray)(x:ByteArray)(hl:l.length<=4294967296):aj T 202 [strs l,str x] (.int (wH l x)):=by
 refine zyw 52 aDq ?_;simp[Z5];refine .scan l.length (λk=>l.getD k default≠x) (λk=>[.int 0,.int k]) (λ_=>[]) ?_ (λk hk hj ho=>?_) (λk hk hj ho=>?_) (λhj=>?_)
 .simp
 .have hw:=bq hk hl;simp[hk] at ho;have jc:¬x=l[k]:=λe=>ho e.symm;simp[Xj,Iv,hk,hw,strs,ho,jc]
 .obtain⟨hm,he⟩:=idx_eq hk hj ho;simp[hk] at ho;simp[Xj,Iv,hk,strs,ho,wH,hm,he]
 .have:=afe hj;simp[Xj,Iv,wH,this,strs]
def akU (l:List ByteArray)(x:ByteArray)(hl:l.length<=4294967296):aj T 175 [strs l,str x] (.bool (hasB l x)):=by
 refine zyw 51 aDj ?_;simp[ZY];refine⟨_,ak5 l x hl,?_⟩;have:=afd l x;simp at this ⊢;exact this
def qm (l:List Int)(a b:Int)(k:Nat):Bool:=wi (l.getD k 0) a b&&(k==0||decide (l.getD (k-1) 0<l.getD k 0))
def rising (l:List Int)(a b:Int):Bool:=eP l.length (qm l a b)
def IB (l:List Int)(a b:Int)(hl:l.length<=4294967296):aj T 142 [ints l,.int a,.int b] (.bool (rising l a b)):=by
 refine zyw 57 aC4 ?_;simp[ZK];refine gK l.length (qm l a b) (λk=>[.bool false,.int k]) (λ_=>[]) ?_ (λk hk ho=>?_) (λk hk ho hb=>?_) (λhj=>?_)
 .simp
 .have hw:=bq hk hl;simp[qm,wi,hk] at ho;obtain⟨⟨h1,h2⟩,h3⟩:=ho;have cC:¬l[k]<a:=by omega
  have gZ:¬b<l[k]:=by omega
  by_cases ib:0<k
  .have bD:k-1<l.length:=by omega
   have cZ:i64.wrap ((k:Int)-1)=((k-1:Nat):Int):=by rw[xL (by omega)];omega
   have fD:¬l[k]<=l[k-1]:=by
        rcases h3 with h3|h3
        .omega
        .simp[bD] at h3;omega
   simp[DS,xk,hk,hw,cZ,ints,cC,gZ,fD,ib,bD]
  .simp[DS,xk,hk,hw,ints,cC,gZ,ib]
 .have hf:rising l a b=false:=hb;simp[qm,wi,hk] at ho;by_cases h1:l[k]<a
  .simp[DS,xk,hk,ints,h1,hf]
  by_cases h2:b<l[k]
  .simp[DS,xk,hk,ints,h1,h2,hf]
  have h3:=ho (by omega) (by omega);have ib:0<k:=by omega
  have bD:k-1<l.length:=by omega
  have cZ:i64.wrap ((k:Int)-1)=((k-1:Nat):Int):=by rw[xL (by omega)];omega
  have fD:=h3.2;simp[bD] at fD;simp[DS,xk,hk,cZ,ints,h1,h2,fD,ib,bD,hf]
 .have hf:rising l a b=true:=hj;simp[DS,xk,hf]
def GQ (c:Int):Bool:=wi c 97 122||wi c 65 90
def zY (i:Nat)(c:Int):Bool:=GQ c||(i !=0&&(decide (c=95)||wi c 48 57))
def EX (s:ByteArray)(k:Nat):Int:=((s.data.toList.getD k 0).toNat:Nat)
def jz (s:ByteArray):Bool:=decide (1<=s.size)&&decide (s.size<=20)&&eP s.size (λk=>zY k (EX s k))
def JG {s:ByteArray}{k:Nat}(h:k<s.data.size):(s.data[k].toNat:Int)=EX s k:=by
 unfold EX;rw[aH,aY (by simpa using h)];rfl
def ake {s:ByteArray}:s=⟨#[]⟩↔s.size=0:=by
 constructor
 .rintro rfl;rfl
 .intro h;cases s with|mk d=>congr;exact Pp h
def azL (s:ByteArray):aj T 174 [str s] (.bool (jz s)):=by
 refine zyw 50 aCZ ?_;simp[ZF];by_cases h0:s=⟨#[]⟩
 .have hn:jz s=false:=by simp[jz,ake.1 h0]
  rw[hn];simp[h0]
 by_cases h1:(20:Int)<s.size
 .have cC:¬s.size<=20:=by omega
  simp[h0,h1,jz,cC]
 have hz:1<=s.size:=by
  have:s.size≠0:=λe=>h0 (ake.2 e);omega
 have cC:s.size<=20:=by omega
 simp[h0,h1];refine⟨by omega,gK s.size (λk=>zY k (EX s k)) (λk=>[.bool false,.int k]) (λ_=>[]) ?_ (λk hk ho=>?_) (λk hk ho hb=>?_) (λhj=>?_)⟩
 .simp
 .have hw:=bq hk (by omega);have bn:k<s.data.size:=hk;have hg:=JG bn;simp[zY,GQ,wi] at ho;simp[WY,Ia,hk,bn,hw,hg];omega
 .have bn:k<s.data.size:=hk;have hg:=JG bn;have hn:jz s=false:=by simp[jz,hb]
  simp[zY,GQ,wi] at ho;simp[WY,Ia,hk,bn,hg,hn];omega
 .have hn:jz s=true:=by simp[jz,hj,hz,cC]
  have hd:s.data.size=s.size:=rfl;simp[WY,Ia,hn,hd]
def ajl (c:Int):aj T 140 [.v (.int .u8 c)] (.bool (GQ c)):=by
 refine zyw 34 aCx ?_;simp[Ze,GQ,wi];by_cases h:97<=c<;>by_cases h2:c<=122<;>by_cases h3:65<=c<;>by_cases h4:c<=90<;>simp[h,h2,h3,h4]
def ayW (s:ByteArray):aj T 93 [str s] (.bool (jz s)):=by
 refine zyw 33 aCy ?_;simp[Zf];by_cases h0:(s.size:Int)<1
 .have hn:jz s=false:=by simp[jz];omega
  simp[h0,hn]
 by_cases h1:(20:Int)<s.size
 .have hn:jz s=false:=by simp[jz];omega
  simp[h0,h1,hn]
 rw[if_neg (by omega)];refine gK s.size (λk=>zY k (EX s k)) (λk=>[.bool false,.int k]) (λ_=>[]) ?_ (λk hk ho=>?_) (λk hk ho hb=>?_) (λhj=>?_)
 .simp
 .have hw:=bq hk (by omega);have bn:k<s.data.size:=hk;have hg:=JG bn;simp[zY,wi] at ho;simp[WC,HP,hk,bn,hw,hg];refine⟨_,ajl _,?_⟩;simp[hw];intro g1 g2;exfalso;rcases ho with h|h
  .rw[h] at g1;cases g1
  .omega
 .have bn:k<s.data.size:=hk;have hg:=JG bn;have hn:jz s=false:=by simp[jz,hb]
  simp[zY,wi] at ho;simp[WC,HP,hk,bn,hg,hn];refine⟨_,ajl _,?_⟩;simp[ho.1];omega
 .have hn:jz s=true:=by simp[jz,hj];omega
  simp[WC,HP,hn]
def ayT (l:List ByteArray)(n:Nat)(x:ByteArray)(hn:n<=l.length)(hl:l.length<=4294967296):aj T 94 [strs l,.int n,str x] (.bool (hasB (l.take n) x)):=by
 refine zyw 35 aCu ?_;simp[Zb];refine .scan n (λk=>l.getD k default≠x) (λk=>[.bool false,.int k]) (λ_=>[]) ?_ (λk hk hj ho=>?_) (λk hk hj ho=>?_) (λhj=>?_)
 .simp
 .have bn:k<l.length:=by omega
  have hw:=bq bn hl;simp[bn] at ho;simp[WB,HM,hk,bn,hw,strs,ho]
 .have bn:k<l.length:=by omega
  simp[bn] at ho;have hm:hasB (l.take n) x=true:=R0.2 (by rw[<-ho,alb];exact⟨k,by omega,rfl⟩);simp[WB,HM,hk,bn,strs,ho,hm]
 .have hm:hasB (l.take n) x=false:=ad0.2 (λh=>by
   rw[alb] at h;obtain⟨k,hk,e⟩:=h;have:=hj k (by omega);simp[show k<l.length by omega] at this;exact this e)
  simp[WB,HM,hm]
def iM (l:List ByteArray)(i:Nat):Int:=if jz (l.getD i default)=false then 2 else if hasB (l.take i) (l.getD i default) then 5 else 0
def Ut (l:List ByteArray)(i n:Nat)(h:i<n):iM (l.take n) i=iM l i:=by
 unfold iM;rw[aH,Eo h,PM,mH (by omega),<-aH]
def Ho (l:List ByteArray)(i:Nat)(hi:i<l.length)(hl:l.length<=4294967296):aj T 57 [strs l,.int i] (.int (iM l i)):=by
 refine zyw 32 aCF ?_;simp[Zm,hi];refine⟨_,by simpa [strs,hi] using ayW l[i],?_⟩;unfold iM;rw[aH,aY hi,lz];cases h1:jz l[i]<;>simp[h1];refine⟨_,by simpa [strs,hi] using ayT l i l[i] (by omega) hl,?_⟩;cases h2:hasB (l.take i) l[i]<;>simp[h2]
def ajO (l:List ByteArray)(i:Nat)(hi:i<l.length)(hl:l.length<=4294967296):aj T 141 [strs l,.int i] (.int (iM l i)):=by
 refine zyw 49 aC0 ?_;simp[ZG,hi];refine⟨_,by simpa [strs,hi] using azL l[i],?_⟩;unfold iM;rw[aH,aY hi,lz];cases h1:jz l[i]<;>simp[h1];refine⟨by omega,_,by simpa [strs,hi] using akU (l.take i) l[i] (by rw[dY];omega),?_⟩;cases h2:hasB (l.take i) l[i]<;>simp[h2]
def kM (l:List ByteArray)(g:Nat->Bool)(i:Nat):Int:=if iM l i≠0 then iM l i else if g i then 0 else 1
def eL (l:List ByteArray)(GY:Int)(g:Nat->Bool):Int:=if GY<l.length then 6 else fW l.length (kM l g)
def OB (l:List ByteArray)(GY:Int)(f:Nat)(caps:List D)(g:Nat->Bool)(hg:∀i:Nat,i<l.length->aj T f (.int i::caps) (.bool (g i)))(hl:l.length<=4294967296):
 aj T 97 [strs l,.int GY,.clo f caps] (.int (eL l GY g)):=by
 refine zyw 48 aCX ?_;simp[ZD,eL];by_cases h0:GY<l.length
 .simp[h0];intro h;omega
 simp[h0];refine qo l.length (kM l g) (λk=>[.int 0,.int k]) (λ_=>[]) ?_ (λk hk ho=>?_) (λk hk ho hb=>?_) (λhj=>?_)
 .simp
 .have hw:=bq hk hl;have h1:iM l k=0:=by
   refine vB λh=>?_;unfold kM at ho;rw[if_pos h] at ho;exact h ho
  have h2:g k=true:=by
   unfold kM at ho;rw[if_neg (by simpa using h1)] at ho;cases h:g k with
   |true=>rfl
   |false=>rw[h] at ho;simp at ho
  simp[WX,H9,hk,hw];refine⟨_,ajO l k hk hl,?_⟩;simp[h1];refine⟨_,_,⟨rfl,rfl⟩,_,hg k hk,?_⟩;simp[h2,hw]
 .simp[WX,H9,hk,hb];refine⟨_,ajO l k hk hl,?_⟩;unfold kM at ho ⊢;by_cases h1:iM l k=0
  .simp[h1] at ho ⊢;refine⟨_,_,⟨rfl,rfl⟩,_,hg k hk,?_⟩;simp[ho]
  .simp[h1]
 .simp[WX,H9,hj]
def Wh (l:List Int)(a b:Int)(hl:l.length<=4294967296):aj T 95 [ints l,.int a,.int b] (.bool (rising l a b)):=by
 refine zyw 38 aCB ?_;simp[Zi];refine gK l.length (qm l a b) (λk=>[.bool false,.int k]) (λ_=>[]) ?_ (λk hk ho=>?_) (λk hk ho hb=>?_) (λhj=>?_)
 .simp
 .have hw:=bq hk hl;simp[qm,hk] at ho;simp[WH,HU,hk,hw,ints];refine⟨_,cT _ _ _,?_⟩;by_cases ib:0<k
  .have bD:k-1<l.length:=by omega
   have cZ:i64.wrap ((k:Int)-1)=((k-1:Nat):Int):=by rw[xL (by omega)];omega
   have fD:¬l[k]<=l[k-1]:=by
        rcases ho.2 with h3|h3
        .omega
        .simp[bD] at h3;omega
   simp[ho.1,hk,hw,cZ,fD,ib,bD]
  .simp[ho.1,hk,hw,ib];omega
 .have hf:rising l a b=false:=hb;simp[qm,hk] at ho;simp[WH,HU,hk,ints,hf];refine⟨_,cT _ _ _,?_⟩;cases h1:wi l[k] a b with
  |false=>simp
  |true=>
   have h3:=ho h1;have ib:0<k:=by omega
   have bD:k-1<l.length:=by omega
   have cZ:i64.wrap ((k:Int)-1)=((k-1:Nat):Int):=by rw[xL (by omega)];omega
   have fD:=h3.2;simp[bD] at fD;simp[hk,cZ,fD,ib,bD]
 .have hf:rising l a b=true:=hj;simp[WH,HU,hf]
def XT (n:Int):n.tdiv 100=if 0<=n then n/100 else-((-n)/100):=by
 split
 .rename_i h;exact AZ h
 .rename_i h;have e:n.tdiv 100=-((-n).tdiv 100):=by rw[Int.neg_tdiv,Int.neg_neg]
  rw[e,AZ (by omega)]
def akt (n:Int):n.tmod 100=n-100*n.tdiv 100:=Int.tmod_def n 100
def akK {n:Int}(h:aX n):i64.wrap (n.tdiv 100)=n.tdiv 100:=aQ (by rw[XT];unfold aX at h;split<;>omega)
def pE (r:Realm)(c:City):Bool:=eP c.feasts.length (λk=>wi ((c.feasts.getD k 0).tmod 100) 1 31)&&(decide (c.feasts.length<=60)&&decide (c.shut.length<=200)&&aC c.order r.orders.length&&aC c.currency r.currencies.length)&&
 (rising c.rest 0 6&&rising c.feasts 101 1231&&rising c.shut 0 100000)
def azJ (r:Realm)(c:City)(h1:c.rest.length<=4294967296)(h2:c.feasts.length<=4294967296)(h3:c.shut.length<=4294967296):aj T 100 [aV r,gX c] (.bool (pE r c)):=by
 refine zyw 55 aCW ?_;simp[ZC];refine gK c.feasts.length (λk=>wi ((c.feasts.getD k 0).tmod 100) 1 31) (λk=>[.bool false,.int k]) (λ_=>[]) ?_ (λk hk ho=>?_) (λk hk ho hb=>?_) (λhj=>?_)
 .simp
 .have hw:=bq hk h2;simp[wi,hk] at ho;have g1:¬(c.feasts[k].tmod 100<1):=by omega
  have g2:¬(31<c.feasts[k].tmod 100):=by omega
  simp[WW,H8,hk,hw,ints,g1,g2]
 .have hf:pE r c=false:=by simp only[pE,hb,sr]
  simp[wi,hk] at ho;simp[WW,H8,hk,ints,hf];by_cases g1:c.feasts[k].tmod 100<1
  .simp[g1]
  .have g2:=ho (by omega);simp[g1,g2]
 .simp[WW,H8];by_cases g1:(c.feasts.length:Int)<=60
  case neg=>
   have hf:pE r c=false:=by
        have fB:decide (c.feasts.length<=60)=false:=decide_eq_false (by omega);simp only[pE,fB,sr,AS]
   have fB:(60:Int)<c.feasts.length:=by omega
   simp[g1,fB,hf]
  by_cases g2:(c.shut.length:Int)<=200
  case neg=>
   have hf:pE r c=false:=by
        have fB:decide (c.shut.length<=200)=false:=decide_eq_false (by omega);simp only[pE,fB,sr,AS]
   have pJ:(200:Int)<c.shut.length:=by omega
   simp[g1,g2,pJ,hf]
  have fB:¬(60:Int)<c.feasts.length:=by omega
  have pJ:¬(200:Int)<c.shut.length:=by omega
  have hf:pE r c=(aC c.order r.orders.length&&aC c.currency r.currencies.length&&(rising c.rest 0 6&&rising c.feasts 101 1231&&rising c.shut 0 100000)):=by
   have e1:decide (c.feasts.length<=60)=true:=decide_eq_true (by omega);have e2:decide (c.shut.length<=200)=true:=decide_eq_true (by omega);simp only[pE,hj,e1,e2,AU]
  rw[hf];simp[g1,g2,fB,pJ];refine⟨_,gl _ _,?_⟩;simp;cases e1:aC c.order r.orders.length<;>simp;refine⟨_,gl _ _,?_⟩;simp;cases e2:aC c.currency r.currencies.length<;>simp;refine⟨_,IB _ _ _ h1,?_⟩;simp;cases e3:rising c.rest 0 6<;>simp;refine⟨_,IB _ _ _ h2,?_⟩;simp;cases e4:rising c.feasts 101 1231<;>simp;exact IB _ _ _ h3
def qO (r:Realm)(c:City):Bool:=(wi c.order 0 (r.orders.length-1)&&wi c.currency 0 (r.currencies.length-1)&&decide (c.feasts.length<=60)&&decide (c.shut.length<=200))&&
 eP c.feasts.length (λk=>wi ((c.feasts.getD k 0).tdiv 100) 1 12&&wi ((c.feasts.getD k 0).tmod 100) 1 31)&&(rising c.rest 0 6&&rising c.feasts 0 2000&&rising c.shut 0 100000)
def ug (n:Nat)(h:n<=4294967296):i64.wrap ((n:Int)-1)=(n:Int)-1:=aQ (by omega)
def ayX (r:Realm)(c:City)(h1:c.rest.length<=4294967296)(h2:c.feasts.length<=4294967296)(h3:c.shut.length<=4294967296)(h4:r.orders.length<=4294967296)(h5:r.currencies.length<=4294967296)(hi:∀y,y∈c.feasts->aX y):
 aj T 58 [aV r,gX c] (.bool (qO r c)):=by
 refine zyw 36 aCz ?_;simp[Zg,ug _ h4,ug _ h5];refine⟨_,cT _ _ _,?_⟩;cases e1:wi c.order 0 (r.orders.length-1)
 case false=>simp[qO,e1]
 simp;refine⟨_,cT _ _ _,?_⟩;cases e2:wi c.currency 0 (r.currencies.length-1)
 case false=>simp[qO,e1,e2]
 by_cases g1:(c.feasts.length:Int)<=60
 case neg=>
  have hf:qO r c=false:=by
   have fB:decide (c.feasts.length<=60)=false:=decide_eq_false (by omega);simp only[qO,fB,sr,AS]
  have fB:(60:Int)<c.feasts.length:=by omega
  simp[fB,hf]
 by_cases g2:(c.shut.length:Int)<=200
 case neg=>
  have hf:qO r c=false:=by
   have fB:decide (c.shut.length<=200)=false:=decide_eq_false (by omega);simp only[qO,fB,sr,AS]
  have pJ:(200:Int)<c.shut.length:=by omega
  simp[pJ,hf]
 have fB:¬(60:Int)<c.feasts.length:=by omega
 have pJ:¬(200:Int)<c.shut.length:=by omega
 have hf:qO r c=(eP c.feasts.length (λk=>wi ((c.feasts.getD k 0).tdiv 100) 1 12&&wi ((c.feasts.getD k 0).tmod 100) 1 31)&&(rising c.rest 0 6&&rising c.feasts 0 2000&&rising c.shut 0 100000)):=by
  have e3:decide (c.feasts.length<=60)=true:=decide_eq_true (by omega);have e4:decide (c.shut.length<=200)=true:=decide_eq_true (by omega);simp only[qO,e1,e2,e3,e4,AU]
 rw[hf];simp[fB,pJ];refine gK c.feasts.length (λk=>wi ((c.feasts.getD k 0).tdiv 100) 1 12&&wi ((c.feasts.getD k 0).tmod 100) 1 31) (λk=>[.bool false,.int k]) (λ_=>[]) ?_ (λk hk ho=>?_) (λk hk ho hb=>?_) (λhj=>?_)
 .simp
 .have hw:=bq hk h2;have hI:=hi _ (bQ hk);have hq:i64.wrap (c.feasts[k].tdiv 100)=c.feasts[k].tdiv 100:=akK hI;simp[hk] at ho;simp[WD,HQ,hk,ints,hq];refine⟨_,cT _ _ _,?_⟩;simp[ho.1,hk];refine⟨_,cT _ _ _,?_⟩;simp[ho.2,hk,hw]
 .have hI:=hi _ (bQ hk);have hq:i64.wrap (c.feasts[k].tdiv 100)=c.feasts[k].tdiv 100:=akK hI;simp[hk] at ho;simp only[aH] at hb;rw[hb];simp[WD,HQ,hk,ints,hq];refine⟨_,cT _ _ _,?_⟩;cases e3:wi (c.feasts[k].tdiv 100) 1 12 with
  |false=>simp
  |true=>
   have:=ho e3;simp[hk];refine⟨_,cT _ _ _,?_⟩;simp[this]
 .simp only[aH] at hj;rw[hj];simp[WD,HQ];refine⟨_,Wh _ _ _ h1,?_⟩;simp;cases e3:rising c.rest 0 6<;>simp;refine⟨_,Wh _ _ _ h2,?_⟩;simp;cases e4:rising c.feasts 0 2000<;>simp;exact Wh _ _ _ h3
def anf (r:Realm)(c:City):qO r c=pE r c:=by
 rw[uh];have cg:∀(i:Int) (n:Nat),(wi i 0 (n-1)=true)↔(aC i n=true):=by intro i n;simp[wi,aC];omega
 simp only[qO,pE,au,decide_eq_true_eq,cg,rising,yd,qm];constructor
 .rintro⟨⟨⟨⟨⟨a1,a2⟩,a3⟩,a4⟩,a5⟩,⟨a6,a7⟩,a8⟩;refine⟨⟨λk hk=>(a5 k hk).2,⟨⟨⟨a3,a4⟩,a1⟩,a2⟩⟩,⟨a6,λk hk=>?_⟩,a8⟩;have h1:=a5 k hk;have h2:=a7 k hk;simp[wi,akt,XT] at h1 h2 ⊢;split at h1<;>omega
 .rintro⟨⟨a5,⟨⟨⟨a3,a4⟩,a1⟩,a2⟩⟩,⟨a6,a7⟩,a8⟩;refine⟨⟨⟨⟨⟨a1,a2⟩,a3⟩,a4⟩,λk hk=>?_⟩,⟨a6,λk hk=>?_⟩,a8⟩
  .have h1:=a5 k hk;have h2:=a7 k hk;simp[wi,akt,XT] at h1 h2 ⊢;split at h1<;>(try split)<;>omega
  .have h2:=a7 k hk;simp[wi] at h2 ⊢;omega
def D9 {α β:Type}(f:α->β){l:List α}{k:Nat}(h:k<l.length):(l.take (k+1)).map f=(l.take k).map f++[f l[k]]:=by
 rw[iS h,py];rfl
def oN (i:Int)(n:Nat):aC i n=wi i 0 ((n:Int)-1):=by
 rw[uh];simp[wi,aC];omega
def Bb (o:Order):List Int:=o.choices.map (·.ask)
def EC (o:Order):List Int:=o.rules.map (·.ask)
def rJ (o:Order):Bool:=eP o.choices.length (λk=>aC (o.choices.getD k default).by_ 5)&&(rising (Bb o) 0 21&&rising (EC o) 0 21)
def azO (o:Order)(h1:o.choices.length<=100000)(h2:o.rules.length<=100000):aj T 104 [kj o] (.bool (rJ o)):=by
 refine zyw 60 aC2 ?_;simp[ZI];refine gK o.choices.length (λk=>aC (o.choices.getD k default).by_ 5) (λk=>[.bool false,.none,.int k]) (λk=>[ints ((o.choices.take k).map (·.ask))]) ?_ (λk hk ho=>?_) (λk hk ho hb=>?_) (λhj=>?_)
 .simp[ints]
 .have hw:=bq hk (by omega);have hl:(o.choices.take k).length=k:=by rw[dY];omega
  simp[hk] at ho;rw[D9 _ hk];simp[WZ,Ib,hk,hw,ints,hl];refine⟨by omega,_,gl _ _,?_⟩;simp[ho,hw]
 .have hf:rJ o=false:=by simp only[rJ,hb,sr]
  have hl:(o.choices.take k).length=k:=by rw[dY];omega
  simp[hk] at ho;simp[WZ,Ib,hk,ints,hl,hf];refine⟨by omega,_,gl _ _,?_⟩;simp[ho]
 .have hf:rJ o=(rising (Bb o) 0 21&&rising (EC o) 0 21):=by simp only[rJ,hj,AU]
  rw[hf];simp[WZ,Ib];refine aK.forRounds o.rules.length (λk=>[.none,.int k]) (λk=>[ints ((o.rules.take k).map (·.ask))]) ?_ (λk hk=>?_) ?_
  .simp[ints]
  .have hw:=bq hk (by omega);have hl:(o.rules.take k).length=k:=by rw[dY];omega
   rw[D9 _ hk];simp[ajI,Ot,hk,hw,ints,hl];omega
  .simp[ajI,Ot];refine⟨_,IB (Bb o) _ _ (by simp[Bb];omega),?_⟩;simp;cases e1:rising (Bb o) 0 21<;>simp;exact IB (EC o) _ _ (by simp[EC];omega)
def Aa (o:Order)(k:Nat):Bool:=wi (o.choices.getD k default).ask 0 21&&wi (o.choices.getD k default).by_ 0 4&&(k==0||decide ((o.choices.getD (k-1) default).ask<(o.choices.getD k default).ask))
def Dl (o:Order)(k:Nat):Bool:=wi (o.rules.getD k default).ask 0 21&&(k==0||decide ((o.rules.getD (k-1) default).ask<(o.rules.getD k default).ask))
def ax3 (o:Order):(eP o.choices.length (Aa o)&&eP o.rules.length (Dl o))=rJ o:=by
 rw[uh];simp only[rJ,au,rising,yd,Bb,EC,dX];have g1:∀k,k<o.choices.length->(qm (o.choices.map (·.ask)) 0 21 k=true↔wi (o.choices.getD k default).ask 0 21=true/\(k=0\/(o.choices.getD (k-1) default).ask<(o.choices.getD k default).ask)):=by
  intro k hk;have bD:k-1<o.choices.length:=by omega
  simp[qm,hk,bD]
 have g2:∀k,k<o.rules.length->(qm (o.rules.map (·.ask)) 0 21 k=true↔wi (o.rules.getD k default).ask 0 21=true/\(k=0\/(o.rules.getD (k-1) default).ask<(o.rules.getD k default).ask)):=by
  intro k hk;have bD:k-1<o.rules.length:=by omega
  simp[qm,hk,bD]
 constructor
 .rintro⟨a,b⟩;refine⟨λk hk=>?_,λk hk=>(g1 k hk).2 ?_,λk hk=>(g2 k hk).2 ?_⟩
  .have:=a k hk;simp[Aa,wi,aC] at this ⊢;omega
  .have:=a k hk;simp[Aa] at this ⊢;exact⟨this.1.1,this.2⟩
  .have:=b k hk;simp[Dl] at this ⊢;exact this
 .rintro⟨c,a,b⟩;refine⟨λk hk=>?_,λk hk=>?_⟩
  .have h1:=(g1 k hk).1 (a k hk);have h2:=c k hk;simp[Aa,wi,aC] at h1 h2 ⊢;omega
  .have h1:=(g2 k hk).1 (b k hk);simp[Dl] at h1 ⊢;exact h1
def ayY (o:Order)(h1:o.choices.length<=100000)(h2:o.rules.length<=100000):aj T 60 [kj o] (.bool (rJ o)):=by
 rw[<-ax3];refine zyw 41 aCA ?_;simp[Zh];refine gK o.choices.length (Aa o) (λk=>[.bool false,.int k]) (λ_=>[]) ?_ (λk hk ho=>?_) (λk hk ho hb=>?_) (λhj=>?_)
 .simp
 .have hw:=bq hk (by omega);simp[Aa,hk] at ho;simp[WE,HR,hk];refine⟨_,cT _ _ _,?_⟩;simp[ho.1.1,hk];refine⟨_,cT _ _ _,?_⟩;by_cases ib:0<k
  .have bD:k-1<o.choices.length:=by omega
   have cZ:i64.wrap ((k:Int)-1)=((k-1:Nat):Int):=by rw[xL (by omega)];omega
   have h3:¬o.choices[k].ask<=o.choices[k-1].ask:=by
        rcases ho.2 with h3|h3
        .omega
        .simp[bD] at h3;omega
   simp[ho.1.2,hk,hw,cZ,h3,ib,bD]
  .simp[ho.1.2,hk,hw,ib];omega
 .rw[hb];simp[Aa,hk] at ho;simp[WE,HR,hk];refine⟨_,cT _ _ _,?_⟩;cases e1:wi o.choices[k].ask 0 21 with
  |false=>simp
  |true=>
   simp[hk];refine⟨_,cT _ _ _,?_⟩;cases e2:wi o.choices[k].by_ 0 4 with
   |false=>simp
   |true=>
    have h3:=ho e1 e2;have ib:0<k:=by omega
    have bD:k-1<o.choices.length:=by omega
    have cZ:i64.wrap ((k:Int)-1)=((k-1:Nat):Int):=by rw[xL (by omega)];omega
    have fD:=h3.2;simp[bD] at fD;simp[hk,cZ,fD,ib,bD]
 .rw[hj];simp[WE,HR];refine gK o.rules.length (Dl o) (λk=>[.bool false,.int k]) (λ_=>[]) ?_ (λk hk ho=>?_) (λk hk ho hb=>?_) (λhj=>?_)
  .simp
  .have hw:=bq hk (by omega);simp[Dl,hk] at ho;simp[WG,HT,hk];refine⟨_,cT _ _ _,?_⟩;by_cases ib:0<k
   .have bD:k-1<o.rules.length:=by omega
    have cZ:i64.wrap ((k:Int)-1)=((k-1:Nat):Int):=by rw[xL (by omega)];omega
    have h3:¬o.rules[k].ask<=o.rules[k-1].ask:=by
       rcases ho.2 with h3|h3
       .omega
       .simp[bD] at h3;omega
    simp[ho.1,hk,hw,cZ,h3,ib,bD]
   .simp[ho.1,hk,hw,ib];omega
  .rw[hb];simp[Dl,hk] at ho;simp[WG,HT,hk];refine⟨_,cT _ _ _,?_⟩;cases e1:wi o.rules[k].ask 0 21 with
   |false=>simp
   |true=>
    have h3:=ho e1;have ib:0<k:=by omega
    have bD:k-1<o.rules.length:=by omega
    have cZ:i64.wrap ((k:Int)-1)=((k-1:Nat):Int):=by rw[xL (by omega)];omega
    have fD:=h3.2;simp[bD] at fD;simp[hk,cZ,fD,ib,bD]
  .rw[hj];simp[WG,HT]
def fL (r:Realm):List ByteArray:=r.cities.map (·.name)
def eW (r:Realm):List ByteArray:=r.firms.map (·.name)
def eX (r:Realm):List ByteArray:=r.orders.map (·.name)
def azN (r:Realm)(h1:r.cities.length<=100000)(h2:r.firms.length<=100000)(h3:r.orders.length<=100000):aj T 96 [aV r] (.tup [strs (fL r),strs (eW r),strs (eX r)]):=by
 refine zyw 47 aC1 ?_;simp[ZH];refine aK.forRounds r.cities.length (λk=>[.none,.int k]) (λk=>[strs ((r.cities.take k).map (·.name))]) ?_ (λk hk=>?_) ?_
 .simp[strs]
 .have hw:=bq hk (by omega);have hl:(r.cities.take k).length=k:=by rw[dY];omega
  rw[D9 _ hk];simp[ajF,On,hk,hw,strs,hl];omega
 .simp[ajF,On];refine aK.forRounds r.firms.length (λk=>[.none,.int k]) (λk=>[strs ((r.firms.take k).map (·.name))]) ?_ (λk hk=>?_) ?_
  .simp[strs]
  .have hw:=bq hk (by omega);have hl:(r.firms.take k).length=k:=by rw[dY];omega
   rw[D9 _ hk];simp[ajG,Oo,hk,hw,strs,hl];omega
  .simp[ajG,Oo];refine aK.forRounds r.orders.length (λk=>[.none,.int k]) (λk=>[strs ((r.orders.take k).map (·.name))]) ?_ (λk hk=>?_) ?_
   .simp[strs]
   .have hw:=bq hk (by omega);have hl:(r.orders.take k).length=k:=by rw[dY];omega
    rw[D9 _ hk];simp[ajH,Oq,hk,hw,strs,hl];omega
   .simp[ajH,Oq,fL,eW,eX]
structure Small (r:Realm):Prop where
 cur:r.currencies.length<=1000
 cities:r.cities.length<=1000
 groups:r.groups.length<=1000
 firms:r.firms.length<=1000
 orders:r.orders.length<=1000
 us:r.usances.length<=1000
 rates:r.rates.length<=1000
 halts:r.halts.length<=1000
 city:∀c,c∈r.cities->c.rest.length<=1000/\c.feasts.length<=1000/\c.shut.length<=1000/\∀y,y∈c.feasts->aX y
 order:∀o,o∈r.orders->o.choices.length<=1000/\o.rules.length<=1000
 rate:∀x,x∈r.rates->aX x.num/\aX x.den
def mC (r:Realm)(k j:Nat):Bool:=(r.usances.getD j default).fr !=(r.usances.getD k default).fr||(r.usances.getD j default).to !=(r.usances.getD k default).to
def AK (r:Realm)(k:Nat):Int:=
 if(aC (r.usances.getD k default).fr r.cities.length&&aC (r.usances.getD k default).to r.cities.length&&wi (r.usances.getD k default).days 1 20000)=false then 1 else if eP k (mC r k) then 0 else 5
def xC (r:Realm):Int:=if 100<r.usances.length then 6 else fW r.usances.length (AK r)
def azQ (r:Realm)(h:Small r):aj T 105 [aV r] (.int (xC r)):=by
 refine zyw 61 aC5 ?_;have hu:=h.us;simp[ZL,xC];by_cases h0:100<r.usances.length
 .have gw:(100:Int)<r.usances.length:=by omega
  have yX:¬r.usances.length<=100:=by omega
  simp[h0,gw,yX]
 have gw:¬(100:Int)<r.usances.length:=by omega
 simp[h0,gw];refine qo r.usances.length (AK r) (λk=>[.int 0,.int k]) (λ_=>[]) ?_ (λk hk ho=>?_) (λk hk ho hb=>?_) (λhj=>?_)
 .simp
 .have hw:=bq hk (by omega);have ha:aC r.usances[k].fr r.cities.length=true/\aC r.usances[k].to r.cities.length=true/\wi r.usances[k].days 1 20000=true/\eP k (mC r k)=true:=by
   unfold AK at ho;simp only[aH,aY hk,lz] at ho;cases e1:aC r.usances[k].fr r.cities.length<;>cases e2:aC r.usances[k].to r.cities.length<;>cases e3:wi r.usances[k].days 1 20000<;>cases e4:eP k (mC r k)<;>simp[e1,e2,e3,e4] at ho ⊢
  obtain⟨a1,a2,a3,a4⟩:=ha;simp[wi] at a3;have a5:¬r.usances[k].days<1:=by omega
  have a6:¬20000<r.usances[k].days:=by omega
  simp[W4,If,hk];refine⟨_,gl _ _,?_⟩;simp[a1];refine⟨_,gl _ _,?_⟩;simp[a2,a5,a6];refine⟨by omega,gK k (mC r k) (λj=>[.int 0,.int j]) (λ_=>[]) ?_ (λj hj fI=>?_) (λj hj fI dA=>?_) (λtg=>?_)⟩
  .simp
  .have zz:=bq hj (by omega);have bA:j<r.usances.length:=by omega
   have hm:j<min k r.usances.length:=by omega
   simp[mC,bA,hk] at fI;simp[Ou,DT,hj,bA,hk,zz,hm];intro e e';rcases fI with h|h
   .exact absurd e h
   .exact absurd e' h
  .rw[a4] at dA;cases dA
  .simp[Ou,DT,hw];omega
 .simp[W4,If,hk,hb];refine⟨_,gl _ _,?_⟩;unfold AK at ho ⊢;simp only[aH,aY hk,lz] at ho ⊢;cases e1:aC r.usances[k].fr r.cities.length
  .simp
  simp;refine⟨_,gl _ _,?_⟩;cases e2:aC r.usances[k].to r.cities.length
  .simp
  cases e3:wi r.usances[k].days 1 20000
  .simp[wi] at e3;by_cases g:r.usances[k].days<1
   .simp[g]
   .simp[g,e3 (by omega)]
  have Fb:=e3;simp[wi] at Fb;have a5:¬r.usances[k].days<1:=by omega
  have a6:¬20000<r.usances[k].days:=by omega
  simp[e1,e2,e3] at ho;simp[a5,a6];refine⟨by omega,gK k (mC r k) (λj=>[.int 0,.int j]) (λ_=>[]) ?_ (λj hj fI=>?_) (λj hj fI dA=>?_) (λtg=>?_)⟩
  .simp
  .have zz:=bq hj (by omega);have bA:j<r.usances.length:=by omega
   have hm:j<min k r.usances.length:=by omega
   simp[mC,bA,hk] at fI;simp[Ou,DT,hj,bA,hk,zz,hm];intro e e';rcases fI with h|h
   .exact absurd e h
   .exact absurd e' h
  .have bA:j<r.usances.length:=by omega
   have hm:j<min k r.usances.length:=by omega
   simp[mC,bA,hk] at fI;simp[Ou,DT,hj,bA,hk,ho,hm]
   first|exact fI|simp[fI]
  .rw[tg] at ho;cases ho
 .simp[W4,If,hj]
def ay3 (r:Realm)(h:Small r):aj T 28 [aV r] (.int (xC r)):=by
 refine zyw 42 aCI ?_;have hu:=h.us;have hc:=h.cities;simp[Zp,xC];by_cases h0:100<r.usances.length
 .have gw:(100:Int)<r.usances.length:=by omega
  have yX:¬r.usances.length<=100:=by omega
  simp[h0,gw,yX]
 have gw:¬(100:Int)<r.usances.length:=by omega
 simp[h0,gw];refine qo r.usances.length (AK r) (λk=>[.int 0,.int k]) (λ_=>[]) ?_ (λk hk ho=>?_) (λk hk ho hb=>?_) (λhj=>?_)
 .simp
 .have hw:=bq hk (by omega);have ha:aC r.usances[k].fr r.cities.length=true/\aC r.usances[k].to r.cities.length=true/\wi r.usances[k].days 1 20000=true/\eP k (mC r k)=true:=by
   unfold AK at ho;simp only[aH,aY hk,lz] at ho;cases e1:aC r.usances[k].fr r.cities.length<;>cases e2:aC r.usances[k].to r.cities.length<;>cases e3:wi r.usances[k].days 1 20000<;>cases e4:eP k (mC r k)<;>simp[e1,e2,e3,e4] at ho ⊢
  obtain⟨a1,a2,a3,a4⟩:=ha;rw[oN] at a1 a2;simp[WQ,H3,hk,ug _ (show r.cities.length<=4294967296 by omega)];refine⟨_,cT _ _ _,?_⟩;simp[a1,ug _ (show r.cities.length<=4294967296 by omega)];refine⟨_,cT _ _ _,?_⟩;simp[a2];refine⟨_,cT _ _ _,?_⟩;simp[a3];refine gK k (mC r k) (λj=>[.int 0,.int j]) (λ_=>[]) ?_ (λj hj fI=>?_) (λj hj fI dA=>?_) (λtg=>?_)
  .simp
  .have zz:=bq hj (by omega);have bA:j<r.usances.length:=by omega
   simp[mC,bA,hk] at fI;simp[Oi,DN,hj,bA,hk,zz];intro e e';rcases fI with h|h
   .exact absurd e h
   .exact absurd e' h
  .rw[a4] at dA;cases dA
  .simp[Oi,DN,hw]
 .simp[WQ,H3,hk,hb,ug _ (show r.cities.length<=4294967296 by omega)];refine⟨_,cT _ _ _,?_⟩;unfold AK at ho ⊢;simp only[aH,aY hk,lz,oN] at ho ⊢;cases e1:wi r.usances[k].fr 0 ((r.cities.length:Int)-1)
  .simp
  simp[ug _ (show r.cities.length<=4294967296 by omega)];refine⟨_,cT _ _ _,?_⟩;cases e2:wi r.usances[k].to 0 ((r.cities.length:Int)-1)
  .simp
  simp;refine⟨_,cT _ _ _,?_⟩;cases e3:wi r.usances[k].days 1 20000
  .simp
  simp[e1,e2,e3] at ho;simp;refine gK k (mC r k) (λj=>[.int 0,.int j]) (λ_=>[]) ?_ (λj hj fI=>?_) (λj hj fI dA=>?_) (λtg=>?_)
  .simp
  .have zz:=bq hj (by omega);have bA:j<r.usances.length:=by omega
   simp[mC,bA,hk] at fI;simp[Oi,DN,hj,bA,hk,zz];intro e e';rcases fI with h|h
   .exact absurd e h
   .exact absurd e' h
  .have bA:j<r.usances.length:=by omega
   simp[mC,bA,hk] at fI;simp[Oi,DN,hj,bA,hk,ho]
   first|exact fI|simp[fI]
  .rw[tg] at ho;cases ho
 .simp[WQ,H3,hj]
def Ax (r:Realm)(k:Nat):Bool:=aC (r.rates.getD k default).fr r.currencies.length&&aC (r.rates.getD k default).to r.currencies.length&&((r.rates.getD k default).fr !=(r.rates.getD k default).to)&&
 wi (r.rates.getD k default).num 1 1073741824&&wi (r.rates.getD k default).den 1 1073741824&&wi (r.rates.getD k default).since 0 100000
def v7 (r:Realm)(k:Nat):Bool:=aC (r.halts.getD k default).order r.orders.length&&wi (r.halts.getD k default).fr 0 (r.halts.getD k default).to&&decide ((r.halts.getD k default).to<=100000)
def ql (r:Realm):Int:=if 100<r.rates.length then 6 else if eP r.rates.length (Ax r)=false then 1 else if 20<r.halts.length then 6 else if eP r.halts.length (v7 r) then 0 else 1
def Mt {n:Int}(h:aX n)(m:Int)(hm:0<=m/\m<=4294967296):aC (i64.wrap (n-1)) m=wi n 1 m:=by
 unfold aX at h;by_cases e:n=-9223372036854775808
 .subst e;have:i64.wrap (-9223372036854775808-1)=9223372036854775807:=by decide
  rw[this,uh];simp[aC,wi];omega
 .rw[aQ (by omega),uh];simp[aC,wi];omega
def afj (n:Int):aC n 100001=wi n 0 100000:=by rw[uh];simp[aC,wi];omega
def azP (r:Realm)(h:Small r):aj T 106 [aV r] (.int (ql r)):=by
 refine zyw 62 aC3 ?_;have hu:=h.rates;have hh:=h.halts;simp[ZJ,ql];by_cases h0:100<r.rates.length
 .have gw:(100:Int)<r.rates.length:=by omega
  have yX:¬r.rates.length<=100:=by omega
  simp[h0,gw,yX]
 have gw:¬(100:Int)<r.rates.length:=by omega
 simp[h0,gw];have key:∀k (hk:k<r.rates.length),∀{O:Env} {Q:Out->Prop},True:=λ_ _ _ _=>trivial;refine gK r.rates.length (Ax r) (λk=>[.int 0,.int k]) (λ_=>[]) ?_ (λk hk ho=>?_) (λk hk ho hb=>?_) (λhj=>?_)
 .simp
 .have hw:=bq hk (by omega);have hI:=h.rate _ (bQ hk);simp[Ax,hk] at ho;obtain⟨⟨⟨⟨⟨a1,a2⟩,a3⟩,a4⟩,a5⟩,a6⟩:=ho;simp[W0,Ic,hk];refine⟨_,gl _ _,?_⟩;simp[a1];refine⟨_,gl _ _,?_⟩;simp[a2,a3];refine⟨_,gl _ _,?_⟩;simp[Mt hI.1,a4];refine⟨_,gl _ _,?_⟩;simp[Mt hI.2,a5];refine⟨_,gl _ _,?_⟩;simp[afj,a6,hw]
 .have hI:=h.rate _ (bQ hk);rw[hb];simp[Ax,hk] at ho;simp[W0,Ic,hk];refine⟨_,gl _ _,?_⟩;cases e1:aC r.rates[k].fr r.currencies.length
  .simp
  simp;refine⟨_,gl _ _,?_⟩;cases e2:aC r.rates[k].to r.currencies.length
  .simp
  by_cases e3:r.rates[k].fr=r.rates[k].to
  .simp[e3]
  simp[e3];refine⟨_,gl _ _,?_⟩;rw[Mt hI.1 _ (by omega)];cases e4:wi r.rates[k].num 1 1073741824
  .simp
  simp;refine⟨_,gl _ _,?_⟩;rw[Mt hI.2 _ (by omega)];cases e5:wi r.rates[k].den 1 1073741824
  .simp
  simp;refine⟨_,gl _ _,?_⟩;rw[afj];simp[ho e1 e2 e3 e4 e5]
 .rw[hj];simp[W0,Ic];by_cases h1:20<r.halts.length
  .have cC:(20:Int)<r.halts.length:=by omega
   have RM:¬r.halts.length<=20:=by omega
   simp[h1,cC,RM]
  have cC:¬(20:Int)<r.halts.length:=by omega
  simp[h1,cC];refine gK r.halts.length (v7 r) (λk=>[.int 0,.int k]) (λ_=>[]) ?_ (λk hk ho=>?_) (λk hk ho hb=>?_) (λhj=>?_)
  .simp
  .have hw:=bq hk (by omega);simp[v7,wi,hk] at ho;obtain⟨⟨a1,a2⟩,a3⟩:=ho;have b1:¬r.halts[k].fr<0:=by omega
   have b2:¬r.halts[k].to<r.halts[k].fr:=by omega
   have b3:¬100000<r.halts[k].to:=by omega
   simp[W3,Ie,hk];refine⟨_,gl _ _,?_⟩;simp[a1,b1,b2,b3,hw]
  .rw[hb];simp[v7,wi,hk] at ho;simp[W3,Ie,hk];refine⟨_,gl _ _,?_⟩;cases e1:aC r.halts[k].order r.orders.length
   .simp
   have:=ho e1;by_cases b1:r.halts[k].fr<0
   .simp[b1]
   by_cases b2:r.halts[k].to<r.halts[k].fr
   .simp[b1,b2]
   have b3:100000<r.halts[k].to:=this (by omega) (by omega);simp[b1,b2,b3]
  .rw[hj];simp[W3,Ie]
def ay2 (r:Realm)(h:Small r):aj T 29 [aV r] (.int (ql r)):=by
 refine zyw 43 aCH ?_;have hu:=h.rates;have hh:=h.halts;have hc:=ug r.currencies.length (by have:=h.cur;omega);have Mh:=ug r.orders.length (by have:=h.orders;omega);simp[Zo,ql];by_cases h0:100<r.rates.length
 .have gw:(100:Int)<r.rates.length:=by omega
  have yX:¬r.rates.length<=100:=by omega
  simp[h0,gw,yX]
 have gw:¬(100:Int)<r.rates.length:=by omega
 simp[h0,gw];refine gK r.rates.length (Ax r) (λk=>[.int 0,.int k]) (λ_=>[]) ?_ (λk hk ho=>?_) (λk hk ho hb=>?_) (λhj=>?_)
 .simp
 .have hw:=bq hk (by omega);simp[Ax,hk,oN] at ho;obtain⟨⟨⟨⟨⟨a1,a2⟩,a3⟩,a4⟩,a5⟩,a6⟩:=ho;simp[WN,H0,hk,hc];refine⟨_,cT _ _ _,?_⟩;simp[a1,hc];refine⟨_,cT _ _ _,?_⟩;simp[a2,a3];refine⟨_,cT _ _ _,?_⟩;simp[a4];refine⟨_,cT _ _ _,?_⟩;simp[a5];refine⟨_,cT _ _ _,?_⟩;simp[a6,hw]
 .rw[hb];simp[Ax,hk,oN] at ho;simp[WN,H0,hk,hc];refine⟨_,cT _ _ _,?_⟩;cases e1:wi r.rates[k].fr 0 ((r.currencies.length:Int)-1)
  .simp
  simp[hc];refine⟨_,cT _ _ _,?_⟩;cases e2:wi r.rates[k].to 0 ((r.currencies.length:Int)-1)
  .simp
  by_cases e3:r.rates[k].fr=r.rates[k].to
  .simp[e3]
  simp[e3];refine⟨_,cT _ _ _,?_⟩;cases e4:wi r.rates[k].num 1 1073741824
  .simp
  simp;refine⟨_,cT _ _ _,?_⟩;cases e5:wi r.rates[k].den 1 1073741824
  .simp
  simp;refine⟨_,cT _ _ _,?_⟩;simp[ho e1 e2 e3 e4 e5]
 .rw[hj];simp[WN,H0];by_cases h1:20<r.halts.length
  .have cC:(20:Int)<r.halts.length:=by omega
   have RM:¬r.halts.length<=20:=by omega
   simp[h1,cC,RM]
  have cC:¬(20:Int)<r.halts.length:=by omega
  simp[h1,cC];refine gK r.halts.length (v7 r) (λk=>[.int 0,.int k]) (λ_=>[]) ?_ (λk hk ho=>?_) (λk hk ho hb=>?_) (λhj=>?_)
  .simp
  .have hw:=bq hk (by omega);simp[v7,hk,oN] at ho;obtain⟨⟨a1,a2⟩,a3⟩:=ho;have b3:¬100000<r.halts[k].to:=by omega
   simp[WO,H2,hk,Mh];refine⟨_,cT _ _ _,?_⟩;simp[a1];refine⟨_,cT _ _ _,?_⟩;simp[a2,b3,hw]
  .rw[hb];simp[v7,hk,oN] at ho;simp[WO,H2,hk,Mh];refine⟨_,cT _ _ _,?_⟩;cases e1:wi r.halts[k].order 0 ((r.orders.length:Int)-1)
   .simp
   simp;refine⟨_,cT _ _ _,?_⟩;cases e2:wi r.halts[k].fr 0 r.halts[k].to
   .simp
   simp[ho e1 e2]
  .rw[hj];simp[WO,H2]
def fo:List Int->Int
 |[]=>0
 |x::l=>if x=0 then fo l else x
def OM:∀{l:List Int},fo l=0↔∀x,x∈l->x=0
 |[]=>by simp[fo]
 |x::l=>by
  simp only[fo,cv,forall_eq_or_imp];by_cases h:x=0
  .simp[h,OM (l:=l)]
  .simp[h]
def om (r:Realm)(i:Nat):Bool:=aC (r.firms.getD i default).city r.cities.length&&aC (r.firms.getD i default).group r.groups.length
def qN (r:Realm)(i:Nat):Bool:=pE r (r.cities.getD i default)
def oU (r:Realm)(i:Nat):Bool:=rJ (r.orders.getD i default)
def vW (r:Realm)(i:Nat):Bool:=aC (r.groups.getD i default).grade 10
def sV (r:Realm):Int:=if 20<r.groups.length then 6 else if eP r.groups.length (vW r) then 0 else 1
def iV (r:Realm):Int:=fo [eL r.currencies 8 (λ_=>true),eL (fL r) 40 (qN r),sV r,eL (eW r) 200 (om r),eL (eX r) 20 (oU r),xC r,ql r]
def am6 (i:Int):aj T 98 [.int i] (.bool true):=by
 refine zyw 53 aCQ ?_;simp[Zx]
def am7 (r:Realm)(h:Small r)(i:Nat)(hi:i<r.cities.length):aj T 99 [.int i,.ref (aV r)] (.bool (qN r i)):=by
 refine zyw 54 aCR ?_;obtain⟨h1,h2,h3,h4⟩:=h.city _ (bQ hi);simp[Zy,hi,qN];exact azJ r r.cities[i] (by omega) (by omega) (by omega)
def am8 (r:Realm)(i:Nat)(hi:i<r.firms.length):aj T 102 [.int i,.ref (aV r)] (.bool (om r i)):=by
 refine zyw 58 aCS ?_;simp[Zz,hi,om];refine⟨_,gl _ _,?_⟩;simp[hi];cases e1:aC r.firms[i].city r.cities.length<;>simp;exact gl _ _
def am9 (r:Realm)(h:Small r)(i:Nat)(hi:i<r.orders.length):aj T 103 [.int i,.ref (aV r)] (.bool (oU r i)):=by
 refine zyw 59 aCT ?_;obtain⟨h1,h2⟩:=h.order _ (bQ hi);simp[ZA,hi,oU];exact azO r.orders[i] (by omega) (by omega)
def Xq (r:Realm)(h:Small r):aj T 61 [aV r] (.int (iV r)):=by
 refine zyw 46 aCU ?_;have g1:=h.cur;have g2:=h.cities;have g3:=h.firms;have g4:=h.orders;have g5:=h.groups;simp[Zw];refine⟨_,azN r (by omega) (by omega) (by omega),?_⟩;simp;refine⟨_,OB r.currencies 8 98 [] (λ_=>true) (λi _=>am6 _) (by omega),?_⟩;unfold iV;generalize e1:eL r.currencies 8 (λ_=>true)=x1;by_cases z1:x1=0
 case neg=>simp[z1,fo]
 simp[z1,fo];refine⟨_,OB (fL r) 40 99 [.ref (aV r)] (qN r) (λi hi=>am7 r h i (by simpa [fL] using hi)) (by simp[fL];omega),?_⟩;generalize e2:eL (fL r) 40 (qN r)=x2;by_cases z2:x2=0
 case neg=>simp[z2]
 simp[z2];by_cases z3:20<r.groups.length
 .have z3':(20:Int)<r.groups.length:=by omega
  simp[z3',sV,z3]
 have z3':¬(20:Int)<r.groups.length:=by omega
 simp[z3',sV,z3];refine gK r.groups.length (vW r) (λk=>[.int 0,.int k]) (λ_=>[]) ?_ (λk hk ho=>?_) (λk hk ho hb=>?_) (λhj=>?_)
 .simp
 .have hw:=bq hk (by omega);simp[vW,hk] at ho;simp[WV,H7,hk];refine⟨_,gl _ _,?_⟩;simp[ho,hw]
 .simp[vW,hk] at ho;rw[hb];simp[WV,H7,hk];refine⟨_,gl _ _,?_⟩;simp[ho]
 .rw[hj];simp[WV,H7];refine⟨_,OB (eW r) 200 102 [.ref (aV r)] (om r) (λi hi=>am8 r i (by simpa [eW] using hi)) (by simp[eW];omega),?_⟩;generalize e4:eL (eW r) 200 (om r)=x4;by_cases z4:x4=0
  case neg=>simp[z4]
  simp[z4];refine⟨_,OB (eX r) 20 103 [.ref (aV r)] (oU r) (λi hi=>am9 r h i (by simpa [eX] using hi)) (by simp[eX];omega),?_⟩;generalize e5:eL (eX r) 20 (oU r)=x5;by_cases z5:x5=0
  case neg=>simp[z5]
  simp[z5];refine⟨_,azQ r h,?_⟩;generalize e6:xC r=x6;by_cases z6:x6=0
  case neg=>simp[z6]
  simp[z6];have e7:(if ql r=0 then 0 else ql r)=ql r:=by split<;>simp_all
  rw[e7];exact azP r h
def apk (l:List ByteArray)(k:Nat):kM l (λ_=>true) k=iM l k:=by
 unfold kM;by_cases h:iM l k=0<;>simp[h]
def Cr {l:List ByteArray}{g:Nat->Bool}{k:Nat}(h:kM l g k=0):iM l k=0/\g k=true:=by
 unfold kM at h;by_cases h1:iM l k=0
 .simp[h1] at h;exact⟨h1,h⟩
 .simp[h1] at h
def RA {l:List ByteArray}{g:Nat->Bool}{k:Nat}(h:kM l g k≠0):(iM l k≠0/\kM l g k=iM l k)\/(iM l k=0/\g k=false/\kM l g k=1):=by
 unfold kM at h ⊢;by_cases h1:iM l k=0
 .simp[h1] at h ⊢;simp[h]
 .simp[h1]
def ayZ (r:Realm)(h:Small r):aj T 25 [aV r] (.int (fo [eL r.currencies 8 (λ_=>true),eL (fL r) 40 (qN r)])):=by
 refine zyw 31 aCD ?_;have g1:=h.cur;have g2:=h.cities;have g4:=h.orders;simp[Zk];unfold eL;by_cases z1:(8:Int)<r.currencies.length
 .simp[z1,fo]
 simp[z1,fo];refine qo r.currencies.length (kM r.currencies (λ_=>true)) (λk=>[.int 0,.int k]) (λ_=>[]) ?_ (λk hk ho=>?_) (λk hk ho hb=>?_) (λhj=>?_)
 .simp
 .have hw:=bq hk (by omega);simp[WI,HV,hk];refine⟨_,Ho _ k hk (by omega),?_⟩;simp[(Cr ho).1,hw]
 .rw[hb];simp[WI,HV,hk,ho];rw[apk];exact Ho _ k hk (by omega)
 .rw[hj];simp[WI,HV];have hlen:(fL r).length=r.cities.length:=by simp[fL]
  rw[hlen];by_cases z2:(40:Int)<r.cities.length
  .simp[z2]
  simp[z2];have key:∀k (hk:k<r.cities.length),((fL r).take k).length=k/\D.list (List.take k (List.map str (fL r))++[str r.cities[k].name])=strs ((fL r).take (k+1))/\
     aj T 57 [strs ((fL r).take (k+1)),.int k] (.int (iM (fL r) k))/\aj T 58 [aV r,gX r.cities[k]] (.bool (qN r k)):=by
   intro k hk;have bn:k<(fL r).length:=by omega
   have hg:(fL r)[k]=r.cities[k].name:=by simp[fL]
   have hs:(fL r).take (k+1)=(fL r).take k++[(fL r)[k]]:=iS bn;have hn:=Ho ((fL r).take (k+1)) k (by rw[dY];omega) (by rw[dY];omega);rw[Ut _ _ _ (by omega)] at hn;obtain⟨c1,c2,c3,c4⟩:=h.city _ (bQ hk);have hc:=ayX r r.cities[k] (by omega) (by omega) (by omega) (by omega) (by omega) c4;rw[anf] at hc;exact⟨by rw[dY];omega,by rw[hs,hg];simp[strs],hn,by simpa [qN,hk] using hc⟩
  refine qo r.cities.length (kM (fL r) (qN r)) (λk=>[.int 0,.none,.int k]) (λk=>[strs ((fL r).take k)]) ?_ (λk hk ho=>?_) (λk hk ho hb=>?_) (λhj=>?_)
  .simp[strs]
  .have hw:=bq hk (by omega);obtain⟨hl,eh,hn,hc⟩:=key k hk;obtain⟨o1,o2⟩:=Cr ho;rw[o1] at hn;rw[o2] at hc;simp[WJ,HW,hk,hl,eh,aAO];refine⟨by omega,_,hn,?_⟩;simp[hk];refine⟨_,hc,?_⟩;simp[hw]
  .rw[hb];obtain⟨hl,eh,hn,hc⟩:=key k hk;simp[WJ,HW,hk,hl,eh,ho];refine⟨by omega,_,hn,?_⟩;rcases RA ho with⟨o1,o2⟩|⟨o1,o2,o3⟩
   .simp[o1,o2]
   .rw[o2] at hc;simp[o1,o3,hk];refine⟨_,hc,?_⟩;simp
  .rw[hj];simp[WJ,HW]
def ay0 (r:Realm)(h:Small r):aj T 26 [aV r] (.int (fo [sV r,eL (eW r) 200 (om r)])):=by
 refine zyw 39 aCE ?_;have g1:=h.groups;have g2:=h.firms;have g3:=h.cities;have w3:=ug r.cities.length (by omega);have w1:=ug r.groups.length (by omega);simp[Zl];by_cases z1:20<r.groups.length
 .have z1':(20:Int)<r.groups.length:=by omega
  simp[z1',sV,z1,fo]
 have z1':¬(20:Int)<r.groups.length:=by omega
 simp[z1',sV,z1,fo];refine gK r.groups.length (vW r) (λk=>[.int 0,.int k]) (λ_=>[]) ?_ (λk hk ho=>?_) (λk hk ho hb=>?_) (λhj=>?_)
 .simp
 .have hw:=bq hk (by omega);simp[vW,hk] at ho;have e:wi r.groups[k].grade 0 9=aC r.groups[k].grade 10:=by rw[uh];simp[wi,aC];omega
  simp[WK,HX,hk];refine⟨_,cT _ _ _,?_⟩;simp[e,ho,hw]
 .simp[vW,hk] at ho;have e:wi r.groups[k].grade 0 9=aC r.groups[k].grade 10:=by rw[uh];simp[wi,aC];omega
  rw[hb];simp[WK,HX,hk];refine⟨_,cT _ _ _,?_⟩;simp[e,ho]
 .rw[hj];simp[WK,HX];unfold eL;have hlen:(eW r).length=r.firms.length:=by simp[eW]
  rw[hlen];by_cases z2:(200:Int)<r.firms.length
  .simp[z2]
  simp[z2];have key:∀k (hk:k<r.firms.length),((eW r).take k).length=k/\D.list (List.take k (List.map str (eW r))++[str r.firms[k].name])=strs ((eW r).take (k+1))/\
     aj T 57 [strs ((eW r).take (k+1)),.int k] (.int (iM (eW r) k))/\om r k=(wi r.firms[k].city 0 ((r.cities.length:Int)-1)&&wi r.firms[k].group 0 ((r.groups.length:Int)-1)):=by
   intro k hk;have bn:k<(eW r).length:=by omega
   have hg:(eW r)[k]=r.firms[k].name:=by simp[eW]
   have hs:(eW r).take (k+1)=(eW r).take k++[(eW r)[k]]:=iS bn;have hn:=Ho ((eW r).take (k+1)) k (by rw[dY];omega) (by rw[dY];omega);rw[Ut _ _ _ (by omega)] at hn;exact⟨by rw[dY];omega,by rw[hs,hg];simp[strs],hn,by simp[om,hk,oN]⟩
  refine qo r.firms.length (kM (eW r) (om r)) (λk=>[.int 0,.none,.int k]) (λk=>[strs ((eW r).take k)]) ?_ (λk hk ho=>?_) (λk hk ho hb=>?_) (λhj=>?_)
  .simp[strs]
  .have hw:=bq hk (by omega);obtain⟨hl,eh,hn,hc⟩:=key k hk;obtain⟨o1,o2⟩:=Cr ho;rw[o1] at hn;rw[o2] at hc;have LO:=Bool.and_eq_true_iff.1 hc.symm;simp[WL,HY,hk,hl,eh];refine⟨by omega,_,hn,?_⟩;simp[hk,w3];refine⟨_,cT _ _ _,?_⟩;simp[LO.1,hk,w1];refine⟨_,cT _ _ _,?_⟩;simp[LO.2,hw]
  .rw[hb];obtain⟨hl,eh,hn,hc⟩:=key k hk;simp[WL,HY,hk,hl,eh,ho];refine⟨by omega,_,hn,?_⟩;rcases RA ho with⟨o1,o2⟩|⟨o1,o2,o3⟩
   .simp[o1,o2]
   .rw[o2] at hc;simp[o1,o3,hk,w3];refine⟨_,cT _ _ _,?_⟩;cases e1:wi r.firms[k].city 0 ((r.cities.length:Int)-1)
    .simp
    rw[e1,AU] at hc;simp[hk,w1];refine⟨_,cT _ _ _,?_⟩;simp[<-hc]
  .rw[hj];simp[WL,HY]
def ay1 (r:Realm)(h:Small r):aj T 27 [aV r] (.int (eL (eX r) 20 (oU r))):=by
 refine zyw 40 aCG ?_;have g2:=h.orders;simp[Zn];unfold eL;have hlen:(eX r).length=r.orders.length:=by simp[eX]
 rw[hlen];by_cases z2:(20:Int)<r.orders.length
 .simp[z2]
 simp[z2];have key:∀k (hk:k<r.orders.length),((eX r).take k).length=k/\D.list (List.take k (List.map str (eX r))++[str r.orders[k].name])=strs ((eX r).take (k+1))/\
  aj T 57 [strs ((eX r).take (k+1)),.int k] (.int (iM (eX r) k))/\aj T 60 [kj r.orders[k]] (.bool (oU r k)):=by
  intro k hk;have bn:k<(eX r).length:=by omega
  have hg:(eX r)[k]=r.orders[k].name:=by simp[eX]
  have hs:(eX r).take (k+1)=(eX r).take k++[(eX r)[k]]:=iS bn;have hn:=Ho ((eX r).take (k+1)) k (by rw[dY];omega) (by rw[dY];omega);rw[Ut _ _ _ (by omega)] at hn;obtain⟨c1,c2⟩:=h.order _ (bQ hk);exact⟨by rw[dY];omega,by rw[hs,hg];simp[strs],hn,by simpa [oU,hk] using ayY r.orders[k] (by omega) (by omega)⟩
 refine qo r.orders.length (kM (eX r) (oU r)) (λk=>[.int 0,.none,.int k]) (λk=>[strs ((eX r).take k)]) ?_ (λk hk ho=>?_) (λk hk ho hb=>?_) (λhj=>?_)
 .simp[strs]
 .have hw:=bq hk (by omega);obtain⟨hl,eh,hn,hc⟩:=key k hk;obtain⟨o1,o2⟩:=Cr ho;rw[o1] at hn;rw[o2] at hc;simp[WM,HZ,hk,hl,eh];refine⟨by omega,_,hn,?_⟩;simp[hk];refine⟨_,hc,?_⟩;simp[hw]
 .rw[hb];obtain⟨hl,eh,hn,hc⟩:=key k hk;simp[WM,HZ,hk,hl,eh,ho];refine⟨by omega,_,hn,?_⟩;rcases RA ho with⟨o1,o2⟩|⟨o1,o2,o3⟩
  .simp[o1,o2]
  .rw[o2] at hc;simp[o1,o3,hk];refine⟨_,hc,?_⟩;simp
 .rw[hj];simp[WM,HZ]
def ayU (r:Realm)(h:Small r):aj T 6 [aV r] (.int (iV r)):=by
 refine zyw 30 aCv ?_
 have e:iV r=fo [fo [eL r.currencies 8 (λ_=>true),eL (fL r) 40 (qN r)],fo [sV r,eL (eW r) 200 (om r)],eL (eX r) 20 (oU r),xC r,ql r]:=by
  unfold iV;simp only[fo];split<;>(try split)<;>(try split)<;>(try split)<;>simp_all
 rw[e];simp[Zc];refine⟨_,ayZ r h,?_⟩;have h1:=ay0 r h;generalize fo [eL r.currencies 8 (λ_=>true),eL (fL r) 40 (qN r)]=x1 at*;generalize fo [sV r,eL (eW r) 200 (om r)]=x2 at*;have h2:=ay1 r h;generalize eL (eX r) 20 (oU r)=x3 at*;have h3:=ay3 r h;generalize xC r=x4 at*;have h4:=ay2 r h;generalize ql r=x5 at*;by_cases z1:x1=0
 case neg=>simp[z1,fo]
 simp[z1,fo];refine⟨_,h1,?_⟩;by_cases z2:x2=0
 case neg=>simp[z2]
 simp[z2];refine⟨_,h2,?_⟩;by_cases z3:x3=0
 case neg=>simp[z3]
 simp[z3];refine⟨_,h3,?_⟩;by_cases z4:x4=0
 case neg=>simp[z4]
 simp[z4];have e7:(if x5=0 then 0 else x5)=x5:=by split<;>simp_all
 rw[e7];exact h4
def kF:Nat->Tm->Int->Int
 |0,_,_=>-1
 |L+1,t,n=>t.args.foldl (λm a=>if 0<=m then kF L a m else m) (n-1)
def size_le:∀(L:Nat) (t:Tm) (n:Int),0<=n->-1<=kF L t n/\kF L t n<=n
 |0,t,n,h=>by simp[kF];omega
 |L+1,t,n,h=>by
  have key:∀(l:List Tm) (m:Int),-1<=m->m<=n->-1<=l.foldl (λm a=>if 0<=m then kF L a m else m) m/\l.foldl (λm a=>if 0<=m then kF L a m else m) m<=n:=by
   intro l
   induction l with
   |nil=>intro m h1 h2;exact⟨h1,h2⟩
   |cons a l ih=>
    intro m h1 h2;simp only[vG];split
    .rename_i hm;have:=size_le L a m hm;exact ih _ this.1 (by omega)
    .exact ih _ h1 h2
  exact key _ _ (by omega) (by omega)
def akd (L:Nat):∀(l:List Tm) (m:Int),m<0->l.foldl (λm a=>if 0<=m then kF L a m else m) m=m
 |[],m,h=>rfl
 |a::l,m,h=>by simp only[vG];rw[if_neg (by omega)];exact akd L l m h
def aqB {α β:Type}(f:β->α->β)(b:β){l:List α}{k:Nat}(h:k<l.length):(l.take (k+1)).foldl f b=f ((l.take k).foldl f b) l[k]:=by
 rw[iS h,sw];rfl
def aqA {α β:Type}(f:β->α->β)(b:β)(l:List α)(k:Nat):l.foldl f b=(l.drop k).foldl f ((l.take k).foldl f b):=by
 rw[<-sw,Jj]
def _root_.Cx.Tm.OK.len {t:Tm}(h:t.OK):t.args.length<=9223372036854775807:=by cases h with|mk o n xs h1 h2 h3 h4=>exact h3
def _root_.Cx.Tm.OK.arg {t:Tm}(h:t.OK){a:Tm}(ha:a∈t.args):a.OK:=by cases h with|mk o n xs h1 h2 h3 h4=>exact h4 a ha
def ajq:∀(L:Nat) (t:Tm) (n:Int),t.OK->0<=n->n<=1000->L<=1000->aj T 92 [dL t,.int n,.int L] (.int (kF L t n))
 |0,t,n,ht,h0,h1,hL=>by
  refine .of_tree rfl abU akw ?_;simp[Pd,kF]
 |L+1,t,n,ht,h0,h1,hL=>by
  refine .of_tree rfl abU akw ?_;have lP:i64.wrap (n-1)=n-1:=aQ (by omega);have hl:=ht.len;have kQ:¬((L:Int)+1<1):=by omega
  simp[Pd,lP,kQ]
  let g:Nat->Int:=λk=>(t.args.take k).foldl (λm a=>if 0<=m then kF L a m else m) (n-1)
  have gb:∀k,-1<=g k/\g k<=1000:=by
   intro k;have:g k=kF (L+1) (.mk 0 0 (t.args.take k)) n:=rfl;have:=size_le (L+1) (.mk 0 0 (t.args.take k)) n h0;omega
  refine .scan t.args.length (λk=>0<=g k) (λk=>[.int (g k),.int k]) (λ_=>[]) ?_ (λk hk hj ho=>?_) (λk hk hj ho=>?_) (λhj=>?_)
  .simp[g,lP]
  .have hw:i64.wrap ((k:Int)+1)=(k:Int)+1:=aQ (by omega);have GC:i64.wrap (L:Int)=(L:Int):=aQ (by omega);have hg:g (k+1)=kF L t.args[k] (g k):=by
    show(t.args.take (k+1)).foldl _ _=_;rw[aqB _ _ hk];show(if 0<=g k then _ else _)=_;rw[if_pos ho]
   rw[hg];have jy:=ajq L t.args[k] (g k) (ht.arg (bQ hk)) ho (gb k).2 (by omega);generalize g k=m at*;simp[WR,H4,hk,ho,GC];refine⟨_,jy,?_⟩;simp[hw]
  .have hf:kF (L+1) t n=g k:=by
    show t.args.foldl _ _=_;rw[aqA _ _ _ k];exact akd L _ _ (by show g k<0;omega)
   rw[hf];generalize g k=m at*;simp[WR,H4,hk,ho]
  .have hf:kF (L+1) t n=g t.args.length:=by
    show t.args.foldl _ _=(t.args.take t.args.length).foldl _ _;rw[Jk]
   rw[hf];generalize g t.args.length=m at*;simp[WR,H4]
def ajp (t:Tm)(ht:t.OK):aj T 56 [dL t] (.bool (decide (0<=kF 20 t 100))):=by
 refine zyw 28 aCM ?_;simp[Zt];refine⟨_,ajq 20 t 100 ht (by omega) (by omega) (by omega),?_⟩;simp
def sR (o:Order):Bool:=(decide (o.rules.length<=60)&&decide (o.choices.length<=60))&&eP o.rules.length (λk=>decide (0<=kF 20 (o.rules.getD k default).term 100))
def ajr (o:Order)(ho:o.OK):aj T 24 [kj o] (.bool (sR o)):=by
 refine zyw 27 aCO ?_;simp[Zu];by_cases h1:(o.rules.length:Int)<=60
 case neg=>
  have cC:(60:Int)<o.rules.length:=by omega
  have hf:sR o=false:=by
   have:decide (o.rules.length<=60)=false:=decide_eq_false (by omega);simp only[sR,this,sr]
  simp[cC,hf]
 by_cases h2:(o.choices.length:Int)<=60
 case neg=>
  have cC:(60:Int)<o.choices.length:=by omega
  have hf:sR o=false:=by
   have:decide (o.choices.length<=60)=false:=decide_eq_false (by omega);simp only[sR,this,sr,AS]
  simp[cC,hf]
 have cC:¬(60:Int)<o.rules.length:=by omega
 have gZ:¬(60:Int)<o.choices.length:=by omega
 have hf:sR o=eP o.rules.length (λk=>decide (0<=kF 20 (o.rules.getD k default).term 100)):=by
  have e1:decide (o.rules.length<=60)=true:=decide_eq_true (by omega);have e2:decide (o.choices.length<=60)=true:=decide_eq_true (by omega);simp only[sR,e1,e2,AU]
 rw[hf];simp[cC,gZ];have hO:=ho.2.2;refine gK o.rules.length (λk=>decide (0<=kF 20 (o.rules.getD k default).term 100)) (λk=>[.bool false,.int k]) (λ_=>[]) ?_ (λk hk ho=>?_) (λk hk ho hb=>?_) (λhj=>?_)
 .simp
 .have hw:=bq hk (by omega);simp[hk] at ho;simp[WT,H5,hk];refine⟨_,ajp _ (hO _ (bQ hk)).2,?_⟩;simp[ho,hw]
 .simp only[aH] at hb;rw[hb];simp[hk] at ho;simp[WT,H5,hk];refine⟨_,ajp _ (hO _ (bQ hk)).2,?_⟩;simp[ho]
 .simp only[aH] at hj;rw[hj];simp[WT,H5]
def Co (f:File):Bool:=decide ((f.signs.length:Int)<=50)&&decide ((f.alters.length:Int)<=10)&&decide ((f.acts.length:Int)<=110)&&decide ((f.facts.length:Int)<=220)
def ay9 (f:File):aj T 23 [cr f] (.bool (Co f)):=by
 refine zyw 26 aCK ?_;simp[Zr,Co];by_cases h1:(f.signs.length:Int)<=50<;>by_cases h2:(f.alters.length:Int)<=10<;>by_cases h3:(f.acts.length:Int)<=110<;>by_cases h4:(f.facts.length:Int)<=220<;>
  simp[h1,h2,h3,h4]
def Fs (r:Realm)(k:Nat):Bool:=decide (((r.cities.getD k default).feasts.length:Int)<=70)&&decide (((r.cities.getD k default).shut.length:Int)<=210)&&decide (((r.cities.getD k default).rest.length:Int)<=8)
def Ft (r:Realm)(k:Nat):Bool:=decide (((r.orders.getD k default).choices.length:Int)<=40)&&decide (((r.orders.getD k default).rules.length:Int)<=40)
def Lp (r:Realm):Bool:=decide ((r.currencies.length:Int)<50)&&decide ((r.cities.length:Int)<50)&&decide ((r.groups.length:Int)<50)&&decide ((r.firms.length:Int)<210)&&decide ((r.orders.length:Int)<50)&&decide ((r.usances.length:Int)<110)&&decide ((r.rates.length:Int)<110)&&decide ((r.halts.length:Int)<50)
def rf (r:Realm):Bool:=eP (min r.cities.length 50) (Fs r)&&eP (min r.orders.length 50) (Ft r)&&Lp r
def ayV (r:Realm)(hr:r.OK):aj T 22 [aV r] (.bool (rf r)):=by
 refine zyw 25 aCw ?_;simp[Zd];refine gK (min r.cities.length 50) (Fs r) (λk=>[.bool false,.int k]) (λ_=>[]) ?_ (λk hk ho=>?_) (λk hk ho hb=>?_) (λhj=>?_)
 .simp
 .have bD:k<r.cities.length:=by omega
  have ct:k<50:=by omega
  have hw:=bq ct (by omega);simp[Fs,bD] at ho;obtain⟨⟨a1,a2⟩,a3⟩:=ho;have b1:¬(70:Int)<r.cities[k].feasts.length:=by omega
  have b2:¬(210:Int)<r.cities[k].shut.length:=by omega
  have b3:¬(8:Int)<r.cities[k].rest.length:=by omega
  simp[HO,Ay,bD,ct,hw,b1,b2,b3];omega
 .have bD:k<r.cities.length:=by omega
  have ct:k<50:=by omega
  have hf:rf r=false:=by simp only[rf,hb,sr]
  rw[hf];simp[Fs,bD] at ho;by_cases b1:(70:Int)<r.cities[k].feasts.length
  .simp[HO,Ay,bD,ct,b1];omega
  by_cases b2:(210:Int)<r.cities[k].shut.length
  .simp[HO,Ay,bD,ct,b1,b2];omega
  have b3:(8:Int)<r.cities[k].rest.length:=by have:=ho (by omega) (by omega);omega
  simp[HO,Ay,bD,ct,b1,b2,b3];omega
 .have hn:¬((min r.cities.length 50:Nat):Int)<r.cities.length\/¬((min r.cities.length 50:Nat):Int)<50:=by omega
  simp[HO,Ay];rw[if_neg (by omega)];refine gK (min r.orders.length 50) (Ft r) (λk=>[.bool false,.int k]) (λ_=>[]) ?_ (λk hk ho=>?_) (λk hk ho hb=>?_) (λF3=>?_)
  .simp
  .have bD:k<r.orders.length:=by omega
   have ct:k<50:=by omega
   have hw:=bq ct (by omega);simp[Ft,bD] at ho;obtain⟨a1,a2⟩:=ho;have b1:¬(40:Int)<r.orders[k].choices.length:=by omega
   have b2:¬(40:Int)<r.orders[k].rules.length:=by omega
   simp[Oh,DM,bD,ct,hw,b1,b2];omega
  .have bD:k<r.orders.length:=by omega
   have ct:k<50:=by omega
   have hf:rf r=false:=by simp only[rf,hb,sr,AS]
   rw[hf];simp[Ft,bD] at ho;by_cases b1:(40:Int)<r.orders[k].choices.length
   .simp[Oh,DM,bD,ct,b1];omega
   have b2:(40:Int)<r.orders[k].rules.length:=by have:=ho (by omega);omega
   simp[Oh,DM,bD,ct,b1,b2];omega
  .have hf:rf r=Lp r:=by simp only[rf,hj,F3,AU]
   rw[hf];simp[Oh,DM];rw[if_neg (by omega)];unfold Lp;by_cases c1:(r.currencies.length:Int)<50<;>simp[c1];by_cases c2:(r.cities.length:Int)<50<;>simp[c2];by_cases c3:(r.groups.length:Int)<50<;>simp[c3];by_cases c4:(r.firms.length:Int)<210<;>simp[c4];by_cases c5:(r.orders.length:Int)<50<;>simp[c5];by_cases c6:(r.usances.length:Int)<110<;>simp[c6];by_cases c7:(r.rates.length:Int)<110<;>simp[c7]
def Rt {r:Realm}(hr:r.OK)(h:rf r=true):Small r:=by
 simp only[rf,Lp,au,decide_eq_true_eq,yd] at h;obtain⟨⟨h1,h2⟩,⟨⟨⟨⟨⟨⟨⟨c1,c2⟩,c3⟩,c4⟩,c5⟩,c6⟩,c7⟩,c8⟩⟩:=h;obtain⟨k1,⟨k2,k2'⟩,⟨k3,k3'⟩,⟨k4,k4'⟩,⟨k5,k5'⟩,⟨k6,k6'⟩,⟨k7,k7'⟩,⟨k8,k8'⟩⟩:=hr;refine⟨by omega,by omega,by omega,by omega,by omega,by omega,by omega,by omega,λc hc=>?_,λo ho=>?_,λx hx=>?_⟩
 .obtain⟨k,hk,rfl⟩:=fw hc;have:=h1 k (by omega);simp[Fs,hk] at this;have:=k2' _ hc;exact⟨by omega,by omega,by omega,λy hy=>this.2.2.2.1.2 y hy⟩
 .obtain⟨k,hk,rfl⟩:=fw ho;have:=h2 k (by omega);simp[Ft,hk] at this;omega
 .have:=k7' x hx;exact⟨this.2.2.1,this.2.2.2.1⟩
def sQ (r:Realm)(f:File):Bool:=(rf r&&Co f)&&eP r.orders.length (λk=>sR (r.orders.getD k default))
def aza (r:Realm)(f:File)(hr:r.OK):aj T 5 [aV r,cr f] (.bool (sQ r f)):=by
 refine zyw 24 aCP ?_;simp[Zv];refine⟨_,ayV r hr,?_⟩;cases e1:rf r
 .simp[sQ,e1]
 simp;refine⟨_,ay9 f,?_⟩;cases e2:Co f
 .simp[sQ,e1,e2]
 have hs:=Rt hr e1;have ho:=hs.orders;have hf:sQ r f=eP r.orders.length (λk=>sR (r.orders.getD k default)):=by simp only[sQ,e1,e2,AU]
 rw[hf];simp;have hO:=hr.2.2.2.2.1.2;refine gK r.orders.length (λk=>sR (r.orders.getD k default)) (λk=>[.bool false,.int k]) (λ_=>[]) ?_ (λk hk ho=>?_) (λk hk ho hb=>?_) (λhj=>?_)
 .simp
 .have hw:=bq hk (by omega);simp[hk] at ho;simp[WU,H6,hk];refine⟨_,ajr _ (hO _ (bQ hk)),?_⟩;simp[ho,hw]
 .simp only[aH] at hb;rw[hb];simp[hk] at ho;simp[WU,H6,hk];refine⟨_,ajr _ (hO _ (bQ hk)),?_⟩;simp[ho]
 .simp only[aH] at hj;rw[hj];simp[WU,H6]
def yW (r:Realm)(f:File):Bool:=sQ r f&&decide (iV r=0)
def qQ (n:Int):Int:=min (max n (-1099511627776)) 1099511627776
def O3 (n:Int):aj T 226 [.int n] (.int (qQ n)):=by
 refine zyw 118 aDG ?_;simp[aai,qQ];by_cases h1:-1099511627776>n
 .have:¬(1099511627776:Int)< -1099511627776:=by omega
  simp[h1];omega
 .by_cases h2:(1099511627776:Int)<n
  .simp[h1,h2];omega
  .simp[h1,h2];omega
def nC (v:Int):Int×Bool:=if v<0\/19<v then(0,false) else if v<7 then(0,true) else(1,true)
def ako (v:Int):aj T 224 [.int v] (.tup [.int (nC v).1,.bool (nC v).2]):=by
 refine zyw 119 aDC ?_;simp[aae,nC];by_cases h1:v<0
 .simp[h1]
 by_cases h2:19<v
 .simp[h1,h2]
 by_cases h3:v<7
 .simp[h1,h2,h3]
 .simp[h1,h2,h3]
def GP (t:Tm):Int×Int:=
 if 0<t.args.length then(0,2) else if t.op=0 then(if qQ t.n≠t.n then(0,3) else(0,0)) else if t.op=1 then(if t.n<0\/1<t.n then(0,3) else(1,0)) else if(nC t.n).2=false then(0,10) else((nC t.n).1,0)
def aA1 (t:Tm):aj T 222 [dL t] (.tup [.int (GP t).1,.int (GP t).2]):=by
 refine zyw 117 aDH ?_;simp[aaj,GP];by_cases h0:0<t.args.length
 .have gw:(0:Int)<t.args.length:=by omega
  simp[h0,gw]
 simp[h0];by_cases h1:t.op=0
 .simp[h1];refine⟨_,O3 _,?_⟩;by_cases h2:qQ t.n=t.n<;>simp[h2]
 by_cases h2:t.op=1
 .simp[h1,h2];by_cases h3:t.n<0<;>by_cases h4:1<t.n<;>simp[h3,h4]
 simp[h1,h2];refine⟨_,ako _,?_⟩;cases h3:(nC t.n).2<;>simp[h3]
def fp (op:Int):List Int×Int:=
 if op=3 then([1],1) else if op=4\/op=5 then([1,1],1) else if op=6 then([1,-1,-1],-1) else if op=7 then([0,0],1) else if op=8 then([-1,-1],1) else([0,0],0)
def Fp (s:List Int×Int):D:=.agg [ints s.1,.int s.2]
@[simp] def aGh (s:List Int×Int):(Fp s).cells=[ints s.1,.int s.2]:=zyz
@[simp] def aGf (s:List Int×Int):(Fp s).c 0=ints s.1:=zyz
@[simp] def aGg (s:List Int×Int):(Fp s).c 1=.int s.2:=zyz
@[simp] def aKz (s:List Int×Int):D.agg [ints s.1,.int s.2]=Fp s:=zyz
@[simp] def aLs (x y:Int):xw (.int x) 0 (.int y)=.int y:=zyz
def aA3 (op:Int):aj T 223 [.int op] (Fp (fp op)):=by
 refine zyw 120 aDL ?_;simp[aam,fp];by_cases h3:op=3
 .simp[h3];rfl
 by_cases h4:op=4
 .simp[h4];rfl
 by_cases h5:op=5
 .simp[h5];rfl
 by_cases h6:op=6
 .simp[h6];rfl
 by_cases h7:op=7
 .simp[h7];rfl
 by_cases h8:op=8
 .simp[h8];rfl
 simp[h3,h4,h5,h6,h7,h8];rfl
def fZ (f:Tm->Int):List Tm->Int->Int
 |[],n=>n
 |a::l,n=>if 60<n+f a then n+f a else fZ f l (n+f a)
def cS:Nat->Tm->Int
 |0,_=>61
 |L+1,t=>fZ (cS L) t.args 1
def dS (f:Tm->Int)(l:List Tm):Int:=(l.map f).sum
def MQ {f:Tm->Int}{l:List Tm}{k:Nat}(h:k<l.length):dS f (l.take (k+1))=dS f (l.take k)+f l[k]:=by
 unfold dS;rw[D9 f h,List.sum_append];simp
def agj {f:Tm->Int}:∀{l:List Tm} {n:Int} {k:Nat},(hk:k<l.length)->(∀j,j<k->n+dS f (l.take (j+1))<=60)->60<n+dS f (l.take (k+1))->fZ f l n=n+dS f (l.take (k+1))
 |a::l,n,0,hk,_,h=>by
  simp[dS] at h ⊢;unfold fZ;rw[if_pos (by omega)]
 |a::l,n,k+1,hk,hj,h=>by
  have h0:=hj 0 (by omega);simp[dS] at h0;unfold fZ;rw[if_neg (by omega)];have e:∀j,n+dS f ((a::l).take (j+1+1))=n+f a+dS f (l.take (j+1)):=by intro j;simp[dS];omega
  rw[agj (l:=l) (k:=k) (by simpa using hk) (λj mY=>by have:=hj (j+1) (by omega);rw[e] at this;exact this) (by rw[<-e];exact h),e]
def agl {f:Tm->Int}:∀{l:List Tm} {n:Int},(∀j,j<l.length->n+dS f (l.take (j+1))<=60)->fZ f l n=n+dS f l
 |[],n,_=>by simp[fZ,dS]
 |a::l,n,hj=>by
  have h0:=hj 0 (by simp);simp[dS] at h0;unfold fZ;rw[if_neg (by omega)];have e:∀j,n+dS f ((a::l).take (j+1+1))=n+f a+dS f (l.take (j+1)):=by intro j;simp[dS];omega
  rw[agl (l:=l) (λj ia=>by have:=hj (j+1) (by simpa using ia);rw[e] at this;exact this)];simp[dS];omega
def agk {f:Tm->Int}(hf:∀a,1<=f a):∀{l:List Tm} {n:Int},n<=fZ f l n
 |[],n=>by simp[fZ]
 |a::l,n=>by
  unfold fZ;have:=hf a;split
  .omega
  .have:=agk hf (l:=l) (n:=n+f a);omega
def zQ:∀(L:Nat) (t:Tm),1<=cS L t
 |0,t=>by simp[cS]
 |L+1,t=>agk (zQ L)
def agm {f:Tm->Int}{B:Int}(hf:∀a,f a<=B)(hB:0<=B):∀{l:List Tm} {n:Int},n<=60->fZ f l n<=60+B
 |[],n,h=>by simp[fZ];omega
 |a::l,n,h=>by
  unfold fZ;have:=hf a;split
  .omega
  .exact agm hf hB (by omega)
def ago:∀(L:Nat) (t:Tm),cS L t<=61+60*L
 |0,t=>by simp[cS]
 |L+1,t=>by
  have:=agm (f:=cS L) (λa=>ago L a) (by omega) (l:=t.args) (n:=1) (by omega);show fZ _ _ _<=_;omega
def agn {f:Tm->Int}(hf:∀a,1<=f a):∀{l:List Tm} {n:Int},fZ f l n<=60->(n:Int)+l.length<=60/\∀a,a∈l->f a<=60-n
 |[],n,h=>by simp[fZ] at h ⊢;exact h
 |a::l,n,h=>by
  unfold fZ at h;have:=hf a;split at h
  .omega
  .obtain⟨h1,h2⟩:=agn hf h;refine⟨by simp;omega,λb hb=>?_⟩;rcases cv.1 hb with rfl|hb
   .omega
   .have:=h2 b hb;omega
def Up {L:Nat}{t:Tm}(h:cS (L+1) t<=60):t.args.length<=59/\∀a,a∈t.args->cS L a<=60:=by
 obtain⟨h1,h2⟩:=agn (zQ L) h;exact⟨by omega,λa ha=>by have:=h2 a ha;omega⟩
def XV:∀(L:Nat) (t:Tm) (lv:Int),t.OK->L<=8->lv=9-(L:Int)->aj T 213 [dL t,.int lv] (.int (cS L t))
 |0,t,lv,ht,hL,Sq=>by
  refine .of_tree rfl ab1 akz ?_;subst Sq;simp[Ph,cS]
 |L+1,t,lv,ht,hL,Sq=>by
  refine .of_tree rfl ab1 akz ?_;have hl:=ht.len;have h8:¬(8<lv):=by omega
  have GC:i64.wrap (lv+1)=lv+1:=aQ (by omega);simp[Ph,h8];refine .scan t.args.length (λk=>1+dS (cS L) (t.args.take (k+1))<=60) (λk=>[.int (1+dS (cS L) (t.args.take k)),.int k]) (λ_=>[]) ?_ (λk hk hj ho=>?_) (λk hk hj ho=>?_) (λhj=>?_)
  .simp[dS]
  all_goals try rw[MQ hk] at ho
  .have hw:i64.wrap ((k:Int)+1)=(k:Int)+1:=aQ (by omega);have jy:=XV L t.args[k] (lv+1) (ht.arg (bQ hk)) (by omega) (by omega);rw[MQ hk];have hs:0<=dS (cS L) (t.args.take k):=by
    unfold dS;have:∀(l:List Tm),0<=(l.map (cS L)).sum:=by
     intro l
     induction l with
     |nil=>simp
     |cons a l ih=>have:=zQ L a;simp;omega
    exact this _
   have jN:=zQ L t.args[k];generalize dS (cS L) (t.args.take k)=m at*;generalize cS L t.args[k]=v at*;have uU:i64.wrap (1+m+v)=1+m+v:=aQ (by omega);have jc:¬60<1+m+v:=by omega
   simp[Xn,Iy,hk,GC];refine⟨_,jy,?_⟩;simp[uU,jc,hw];omega
  .have jy:=XV L t.args[k] (lv+1) (ht.arg (bQ hk)) (by omega) (by omega);have hf:cS (L+1) t=1+dS (cS L) (t.args.take (k+1)):=agj hk hj (by rw[MQ hk];omega);rw[hf,MQ hk];have hs:0<=dS (cS L) (t.args.take k)/\1+dS (cS L) (t.args.take k)<=60:=by
    constructor
    .unfold dS;have:∀(l:List Tm),0<=(l.map (cS L)).sum:=by
       intro l
       induction l with
       |nil=>simp
       |cons a l ih=>have:=zQ L a;simp;omega
     exact this _
    .cases k with
     |zero=>simp[dS]
     |succ k=>exact hj k (by omega)
   have jN:=zQ L t.args[k];have dA:=ago L t.args[k];generalize dS (cS L) (t.args.take k)=m at*;generalize cS L t.args[k]=v at*;have uU:i64.wrap (1+m+v)=1+m+v:=aQ (by omega);have jc:60<1+m+v:=by omega
   simp[Xn,Iy,hk,GC];refine⟨_,jy,?_⟩;simp[uU,jc];omega
  .have hf:cS (L+1) t=1+dS (cS L) t.args:=agl hj;rw[hf];simp[Xn,Iy]
def oP (ws ts:List Int):Nat->Int
 |0=>-1
 |k+1=>if ws.getD k 0=-1/\oP ws ts k=-1 then ts.getD k 0 else oP ws ts k
def p7 (ws ts:List Int)(k:Nat):Bool:=if ws.getD k 0=-1 then decide (oP ws ts k=-1)||decide (ts.getD k 0=oP ws ts k) else decide (ts.getD k 0=ws.getD k 0)
def zS (t:Tm)(ks:List Int):Int×Int:=
 if t.op<0\/13<t.op then(0,1) else if t.op=0\/t.op=1\/t.op=2 then GP t else
 if ks.length≠(fp t.op).1.length\/t.n≠0 then(0,2) else
 if eP (fp t.op).1.length (p7 (fp t.op).1 ks)=false then(0,11) else if(fp t.op).2=-1 then(oP (fp t.op).1 ks (fp t.op).1.length,0) else((fp t.op).2,0)
def bW:Nat->Tm->Int×Int
 |0,_=>(0,0)
 |L+1,t=>if fW t.args.length (λk=>(bW L (t.args.getD k default)).2)≠0 then(0,fW t.args.length (λk=>(bW L (t.args.getD k default)).2)) else zS t (t.args.map λa=>(bW L a).1)
def Q3 (L:Nat)(t:Tm):bW (L+1) t=if fW t.args.length (λk=>(bW L (t.args.getD k default)).2)≠0 then(0,fW t.args.length (λk=>(bW L (t.args.getD k default)).2)) else zS t (t.args.map λa=>(bW L a).1):=rfl
def XG {α:Type}(A:List α)(z:α){k n:Nat}(hA:A.length=n)(hk:k<n):(A.take k++List.replicate (n-k) z).set k A[k]=A.take (k+1)++List.replicate (n-(k+1)) z:=by
 have h1:(A.take k).length=k:=by rw[dY];omega
 rw[List.set_append_right _ _ (by omega),h1,PR];have:n-k=(n-(k+1))+1:=by omega
 rw[this,List.replicate_succ,List.set_cons_zero,iS (by omega),qC];rfl
def aAw (op:Int):(fp op).1.length<=3:=by
 unfold fp;repeat' split
 all_goals simp
def XU:∀(L:Nat) (t:Tm),t.OK->cS L t<=60->aj T 214 [dL t] (.tup [.int (bW L t).1,.int (bW L t).2])
 |0,t,ht,hm=>by simp[cS] at hm
 |L+1,t,ht,hm=>by
  refine zyw 116 aDE ?_;obtain⟨hl,hp⟩:=Up hm;simp[aag];refine⟨by omega,?_⟩;refine qo t.args.length (λk=>(bW L (t.args.getD k default)).2) (λk=>[.int 0,.int 0,.int k]) (λk=>[ints ((t.args.map λa=>(bW L a).1).take k++List.replicate (t.args.length-k) 0)]) ?_ (λk hk ho=>?_) (λk hk ho hb=>?_) (λhj=>?_)
  .simp[ints]
  .have hw:=bq hk (by omega);have cV:=bQ hk;have jy:=XU L t.args[k] (ht.arg cV) (hp _ cV);have hs:=XG (t.args.map λa=>(bW L a).1) 0 (n:=t.args.length) (by simp) hk;rw[<-hs];have hlen:((t.args.map λa=>(bW L a).1).take k++List.replicate (t.args.length-k) (0:Int)).length=t.args.length:=by simp;omega
   have hgk:(t.args.map λa=>(bW L a).1)[k]'(by simpa using hk)=(bW L t.args[k]).1:=by simp
   rw[hgk];generalize (t.args.map λa=>(bW L a).1).take k++List.replicate (t.args.length-k) (0:Int)=A at*;simp[hk] at ho;rw[ho] at jy;generalize (bW L t.args[k]).1=kd at*;simp[Xl,Iw,hk];refine⟨_,jy,?_⟩;simp[hlen,hk,hw,ints]
  .have cV:=bQ hk;have jy:=XU L t.args[k] (ht.arg cV) (hp _ cV);have hf:bW (L+1) t=(0,(bW L (t.args.getD k default)).2):=by
    rw[Q3,hb,if_pos ho]
   rw[hf];simp[hk] at ho ⊢;simp[Xl,Iw,hk];refine⟨_,jy,?_⟩;simp[ho]
  .have hf:bW (L+1) t=zS t (t.args.map λa=>(bW L a).1):=by
    rw[Q3,hj];simp
   rw[hf]
   have e0:(t.args.map λa=>(bW L a).1).take t.args.length++List.replicate (t.args.length-t.args.length) 0=t.args.map λa=>(bW L a).1:=by
    rw[PR,xY (by simp)];simp
   rw[e0];have hkl:(t.args.map λa=>(bW L a).1).length=t.args.length:=by simp
   generalize (t.args.map λa=>(bW L a).1)=ks at*;simp[Xl,Iw];unfold zS;by_cases h1:t.op<0
   .simp[h1]
   by_cases h2:13<t.op
   .simp[h1,h2]
   simp[h1,h2];by_cases h3:t.op=0\/t.op=1\/t.op=2
   .have fD:(t.op=0\/t.op=1)\/t.op=2:=by omega
    simp[h3,fD];refine⟨_,aA1 t,?_⟩;simp
   have fD:¬((t.op=0\/t.op=1)\/t.op=2):=by omega
   simp[h3,fD];refine⟨_,aA3 _,?_⟩;have hsl:=aAw t.op;generalize fp t.op=sh at*;simp;by_cases h4:ks.length=sh.1.length
   case neg=>
    have ox:¬((ks.length:Int)=sh.1.length):=by omega
    have LA:¬t.args.length=sh.1.length:=by omega
    simp[h4,ox,LA]
   have ox:(ks.length:Int)=sh.1.length:=by omega
   have LA:t.args.length=sh.1.length:=by omega
   by_cases h5:t.n=0
   case neg=>simp[h4,ox,LA,h5]
   simp[h4,ox,LA,h5];refine gK sh.1.length (p7 sh.1 ks) (λk=>[.int 0,.int 0,.int (oP sh.1 ks k),.int k]) (λ_=>[]) ?_ (λk hk ho=>?_) (λk hk ho hb=>?_) (λhj=>?_)
   .simp[oP]
   .have hw:=bq hk (by omega);have ct:k<ks.length:=by omega
    simp only[oP];unfold p7 at ho;simp only[aH,aY hk,aY ct,lz] at ho ⊢;generalize oP sh.1 ks k=c at*;by_cases a1:sh.1[k]=-1
    .by_cases a2:c=-1
     .simp[DV,xl,hk,ct,hw,ints,a1,a2]
     .simp[a1,a2] at ho;simp[DV,xl,hk,ct,hw,ints,a1,a2,ho]
    .simp[a1] at ho;simp[DV,xl,hk,ct,hw,ints,a1,ho]
   .rw[hb];have ct:k<ks.length:=by omega
    unfold p7 at ho;simp only[aH,aY hk,aY ct,lz] at ho;generalize oP sh.1 ks k=c at*;by_cases a1:sh.1[k]=-1
    .by_cases a2:c=-1
     .simp[a1,a2] at ho
     .simp[a1,a2] at ho;simp[DV,xl,hk,ct,ints,a1,a2,ho]
    .simp[a1] at ho;simp[DV,xl,hk,ct,ints,a1,ho]
   .rw[hj];simp[DV,xl];by_cases a1:sh.2=-1<;>simp[a1]
def nP (t:Tm):Int×Int:=if 60<cS 8 t then(0,6) else bW 8 t
def akn (t:Tm)(ht:t.OK):aj T 191 [dL t] (.tup [.int (nP t).1,.int (nP t).2]):=by
 refine zyw 114 aDA ?_;simp[aac,nP];refine⟨_,XV 8 t 1 ht (by omega) (by omega),?_⟩;by_cases h:60<cS 8 t
 .simp[h]
 simp[h];refine⟨_,XU 8 t ht (by omega),?_⟩;simp
end Rm
