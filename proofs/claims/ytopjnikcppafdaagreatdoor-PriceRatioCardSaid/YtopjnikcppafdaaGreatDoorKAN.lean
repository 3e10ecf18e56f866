/-
  Shared texts of this claim.
-/
import Derived.Test.YtopjnikcppafdaaGreatDoorKAI
import Derived.KernelRfl
import Derived.Test.YtopjnikcppafdaaGreatDoorKAK
import Derived.Test.YtopjnikcppafdaaGreatDoorKAL
import Derived.Test.YtopjnikcppafdaaGreatDoorKAM
import Derived.Test.YtopjnikcppafdaaGreatDoorKAJ
import Derived.WalkKit
import Derived.WalkSpells
import Derived.Lib.SliceRun
import Derived.Lib.AppendZeros
import Derived.Laws.Strings
set_option linter.unusedVariables false
set_option maxRecDepth 100000
noncomputable section
namespace Rm
open Go Go.Proofs Cx
def Kk:Option PC:=cF [2] [] Tryz.f40 40 []
def Pe:PT:=
 (.ite (ak r0 (pi 0))
 (.ret (.ai .sub .u64 kh (.conv .u64 r0)))
 (.ret (.conv .u64 r0)))
theorem ahj:Kk.map told=some (Pe,[]):=by kernel_rfl
theorem aAC:tree (ab Kk)=Pe:=aQ ahj
def Ba:Option PC:=cF [4,0,1] [] Tryz.f41 41 []
def Qz:Nat→PC:=bo Ba
def auJ (b:Nat→PC):PC:=.block 0 [0,1,5,6] [] (.loop [0,1] [] (b 0))
def Od (b:Nat→PC):PT:=
 (.ite (aF r1 kh)
 (.chk (aF r1 (pi 0))
 (.next ⟨[(0,r1),(1,(.ai .rem .u64 r0 r1))],[]⟩))
 (.exit 0 ⟨[(5,r1),(6,(aF r1 kh))],[]⟩))
def YU (b:Nat→PC):PT:=
 (.brk ⟨[],[]⟩
(auJ b)
 (.ret r0))
def apn (b:Nat→PC):PT×List (Shp×PT):=(YU b,[(.lp 0 [0,1,5,6] [] [0,1] [],Od b)])
theorem UK:Ba.map told=some (apn (bq Ba)):=by kernel_rfl
theorem aAD:tree (ab Ba)=YU Qz:=bG UK
theorem ajm:round 0 [0,1,5,6] [] [0,1] [] (Qz 0)=Od Qz:=bf UK 0 fun _=>rfl
def Kl:Option PC:=cF [7,8] [] Tryz.f42 42 [4,5,6]
def YV:PT:=
 (.ite (.pick (.pick (.pick (aR (pc (.mk [r1]) 0) kh) pT (aR (pc (.mk [r2]) 0) kh)) pT (aR (pc (.mk [r1]) 1) VB)) pT (aR (pc (.mk [r2]) 1) VB))
 (.ret (.tup [(.mk [(pc No 0),(pc No 1)]),(pi 3)]))
 (.ret (.tup [(.mk [(pc aiK 0),(pc aiK 1)]),(pi 0)])))
theorem ahk:Kl.map told=some (YV,[]):=by kernel_rfl
theorem aAE:tree (ab Kl)=YV:=aQ ahk
def Kh:Option PC:=cF [5,6,7,8,9] [] Tryz.f14 14 [2,3,4]
def YR:PT:=
 (.call ⟨[],[(4,z2),(3,(.mk [r1])),(2,(.mk [r0]))]⟩ [] 11 43 [(.mk [gw,iZ])]
 (.call ⟨[(13,(.nt bJ))],[]⟩ [(13,false)] 15 43 [(.mk [(pc o3 0),(pc o3 1)])]
 (.ite (.pick cZ pT (.nt cn))
 (.ret (.tup [VN,(pi 1)]))
 (.ite (.pick (peq (pc o2 0) (pi 0)) pT (peq (pc o3 0) (pi 0)))
 (.ret (.tup [(.mk [(pc Np 0),(pc Np 1)]),(pi 0)]))
 (.call ⟨[],[]⟩ [] 30 40 [(pc o2 0)]
 (.call ⟨[],[]⟩ [] 33 40 [(pc o3 0)]
 (.call ⟨[(7,rz),(6,oz)],[]⟩ [] 38 41 [oz,C8]
 (.call ⟨[],[]⟩ [] 43 41 [r7,GR]
 (.chk (aF gZ (pi 0))
 (.chk (aF oA (pi 0))
 (.call ⟨[(50,(.cb .neq (ak (pc o2 0) (pi 0)) (ak (pc o3 0) (pi 0)))),(9,oA),(8,gZ)],[]⟩ [] 57 44 [(.ai .quo .u64 r6 gZ),(.ai .quo .u64 r7 oA)]
 (.chk (aF r9 (pi 0))
 (.chk (aF r8 (pi 0))
 (.call ⟨[],[]⟩ [] 68 44 [(.ai .quo .u64 GR r9),(.ai .quo .u64 C8 r8)]
 (.call ⟨[],[]⟩ [] 69 42 [l6,G5,NT]
 (.ret (.tup [(.mk [(pc (.setc o4 0 (.tget pY 0)) 0),(pc (.setc o4 0 (.tget pY 0)) 1)]),(.tget pY 1)])))))))))))))))))
theorem ahg:Kh.map told=some (YR,[]):=by kernel_rfl
theorem aAz:tree (ab Kh)=YR:=aQ ahg
def Ki:Option PC:=cF [2] [] Tryz.f43 43 [1]
def YS:PT:=
 (.call ⟨[(11,(.pick (ak iZ (pi 1)) pT (aR iZ (pi 1152921504606846976))))],[(1,(.mk [r0]))]⟩ [(11,false)] 14 40 [gw]
 (.ite (.pick bJ pT (aR bQ VB))
 (.ret pF)
 (.call ⟨[],[]⟩ [] 19 40 [(pc o1 0)]
 (.call ⟨[],[]⟩ [] 23 41 [dC,(.conv .u64 (pc o1 1))]
 (.ret (peq gy GO))))))
theorem ahh:Ki.map told=some (YS,[]):=by kernel_rfl
theorem aAA:tree (ab Ki)=YS:=aQ ahh
def Ko:Option PC:=cF [5,6] [] Tryz.f44 44 [4]
def YX:PT:=
 (.call ⟨[],[(4,NB)]⟩ [] 10 83 [r0,r1]
 (.ret (.mk [(pc (.setc o4 0 (.mk [(.tget cV 0),(.tget cV 1)])) 0),(pc (.setc o4 0 (.mk [(.tget cV 0),(.tget cV 1)])) 1)])))
theorem ahm:Ko.map told=some (YX,[]):=by kernel_rfl
theorem aAG:tree (ab Ko)=YX:=aQ ahm
def Kj:Option PC:=cF [5] [] Tryz.f15 15 [2,3,4]
def YT:PT:=
 (.call ⟨[],[(4,z2),(3,(.mk [r1])),(2,(.mk [r0]))]⟩ [] 7 43 [(.mk [(pc (.mk [r1]) 0),(pc (.mk [r1]) 1)])]
 (.ite (.nt r7)
 (.ret (.tup [VN,(pi 1)]))
 (.call ⟨[],[]⟩ [] 17 45 [(.mk [(pc o2 0),(pc o2 1)]),(.mk [(bm (pi 0) (pc o3 0)),(pc o3 1)])]
 (.ret (.tup [(.mk [(pc (.setc o4 0 (.tget dB 0)) 0),(pc (.setc o4 0 (.tget dB 0)) 1)]),(.tget dB 1)])))))
theorem ahi:Kj.map told=some (YT,[]):=by kernel_rfl
theorem aAB:tree (ab Kj)=YT:=aQ ahi
def Kf:Option PC:=cF [5,6,7,8,10,11] [] Tryz.f45 45 [2,3,4,9]
def YO:PT:=
 (.call ⟨[],[(4,z2),(3,(.mk [r1])),(2,(.mk [r0]))]⟩ [] 13 43 [(.mk [gw,iZ])]
 (.call ⟨[(15,(.nt cZ))],[]⟩ [(15,false)] 17 43 [(.mk [(pc o3 0),(pc o3 1)])]
 (.ite (.pick cn pT (.nt dB))
 (.ret (.tup [VN,(pi 1)]))
 (.call ⟨[],[]⟩ [] 27 41 [GR,C8]
 (.chk (aF dD (pi 0))
 (.call ⟨[(8,(.ai .quo .u64 C8 dD)),(7,(.ai .quo .u64 GR dD)),(6,dD)],[]⟩ [] 41 40 [(pc o2 0)]
 (.call ⟨[],[]⟩ [] 43 44 [rA,r8]
 (.call ⟨[(46,(ak (pc o2 0) (pi 0)))],[]⟩ [] 49 40 [(pc o3 0)]
 (.call ⟨[],[]⟩ [] 51 44 [mY,r7]
 (.call ⟨[],[]⟩ [] 55 46 [oA,zJ,lF,(ak (pc o3 0) (pi 0))]
 (.ite (.an (peq (pc (.mk [(pc zI 0),(pc zI 1)]) 0) kh) (.an (peq (pc (.mk [(pc zI 0),(pc zI 1)]) 1) kh) pT))
 (.ret (.tup [(.mk [(pc Np 0),(pc Np 1)]),(pi 0)]))
 (.call ⟨[(62,r6),(10,(.tget wH 1))],[(9,zI)]⟩ [] 68 84 [(pc zI 0),(pc zI 1),r6]
 (.call ⟨[],[]⟩ [] 69 41 [l9,NT]
 (.call ⟨[(70,cV),(11,pY)],[]⟩ [] 73 85 [Nv,pY]
 (.chk (aF bJ (pi 0))
 (.call ⟨[],[]⟩ [] 80 44 [r7,(.ai .quo .u64 C8 bJ)]
 (.call ⟨[],[]⟩ [] 81 42 [r70,De,wJ]
 (.ret (.tup [(.mk [(pc (.setc o4 0 (.tget rC 0)) 0),(pc (.setc o4 0 (.tget rC 0)) 1)]),(.tget rC 1)])))))))))))))))))))
theorem ahd:Kf.map told=some (YO,[]):=by kernel_rfl
theorem aAw:tree (ab Kf)=YO:=aQ ahd
def JE:Option PC:=cF [6,7,8] [] Tryz.f84 84 []
def XL:PT:=
 (.chk (aF r2 (pi 0))
 (.call ⟨[],[]⟩ [] 15 110 [(.ai .rem .u64 r0 r2),r1,r2]
 (.ret (.tget cn 1))))
theorem agw:JE.map told=some (XL,[]):=by kernel_rfl
theorem azn:tree (ab JE)=XL:=aQ agw
def Km:Option PC:=cF [5,6,7,8] [] Tryz.f85 85 [2,4]
def YW:PT:=
 (.call ⟨[],[(4,NB),(2,(.mk [r0]))]⟩ [] 13 110 [kh,gw,r1]
 (.call ⟨[(5,(.tget cZ 0))],[]⟩ [] 21 110 [(.tget cZ 1),(pc o2 1),r1]
 (.ret (.mk [(pc (.setc o4 0 (.mk [r5,(.tget gY 0)])) 0),(pc (.setc o4 0 (.mk [r5,(.tget gY 0)])) 1)]))))
theorem ahl:Km.map told=some (YW,[]):=by kernel_rfl
theorem aAF:tree (ab Km)=YW:=aQ ahl
def EB:Option PC:=cF [4,6,39,43] [] Tryz.f16 16 [2,3,5]
def YP:PT:=
 (.call ⟨[],[(3,(.mk [r1])),(2,(.mk [r0]))]⟩ [] 8 43 [(.mk [gw,iZ])]
 (.call ⟨[(10,(.nt r8))],[]⟩ [(10,false)] 12 43 [(.mk [(pc o3 0),(pc o3 1)])]
 (.ite (.pick cV pT (.nt bY))
 (.ret (pi 0))
 (.call ⟨[],[]⟩ [] 18 40 [(pc o2 0)]
 (.call ⟨[],[]⟩ [] 22 44 [cv,C8]
 (.call ⟨[(25,(ak (pc o2 0) (pi 0)))],[]⟩ [] 28 40 [(pc o3 0)]
 (.call ⟨[],[]⟩ [] 32 44 [pR,GR]
 (.call ⟨[],[]⟩ [] 36 46 [mW,jQ,pU,(bk (pc o3 0) (pi 0))]
 (.ite (.an (peq (pc (.mk [(pc Nu 0),(pc Nu 1)]) 0) kh) (.an (peq (pc (.mk [(pc Nu 0),(pc Nu 1)]) 1) kh) pT))
 (.ret (pi 0))
 (.ite (.tget jR 1)
 (.ret (pi (-1)))
 (.ret (pi 1))))))))))))
theorem ahe:EB.map told=some (YP,[]):=by kernel_rfl
theorem aAx:tree (ab EB)=YP:=aQ ahe
def Jw:Option PC:=my {ctx with fr:=[6],nh:=[]} Tryz.f179 ⟨[Y8,I,rW],.slice I,.dat⟩ [3,5,7,8,42,9]
def XB:PT:=
 (.chk (aq (pc (.mk [r2]) 15) (pc (.mk [r2]) 19))
 (.ite aiG
 (.ret pL)
 (.chk (.an (bk (pi 5) (pi 0)) (bI (pi 5) cU))
 (.chk (peq (pi 5) (pi 5))
 (.chk (aq (.rep (pi 5) (pi 0)) (pi 0))
 (.call ⟨[],[(9,(.setn (.rep (pi 5) (pi 0)) (pi 0) 0 r1)),(8,(.setc IK 0 (az 15 (.mk [r2])))),(7,C5),(3,(.mk [r0]))]⟩ [] 50 147 [jP,(pc C5 7)]
 (.chk (aq o9 (pi 1))
 (.call ⟨[],[(9,(.setn o9 (pi 1) 0 l6))]⟩ [] 56 147 [(az 8 o3),(pc o8 10)]
 (.chk (aq o9 (pi 2))
 (.call ⟨[],[(9,(.setn o9 (pi 2) 0 tj))]⟩ [] 62 147 [(az 8 o3),(pc o8 9)]
 (.chk (aq o9 (pi 3))
 (.chk (aq (pc o3 3) (pc o7 2))
 (.call ⟨[],[(9,(.setn o9 (pi 3) 0 l9))]⟩ [] 73 147 [(az 8 o3),(pc (pn (pc o3 3) (pc o7 2)) 1)]
 (.chk (aq o9 (pi 4))
 (.call ⟨[],[(9,(.setn o9 (pi 4) 0 De))]⟩ [] 76 176 [(.setn o9 (pi 4) 0 De),(pi (-1))]
 (.ite uV
 (.ret pL)
 (.ret o9)))))))))))))))))
theorem ago:Jw.map told=some (XB,[]):=by kernel_rfl
theorem azb:tree (ab Jw)=XB:=aQ ago
def Jx:Option PC:=my {ctx with fr:=[6],nh:=[]} Tryz.f179 ⟨[Y8,I,rW],.nils .bool,.dat⟩ [3,5,7,8,42,9]
def O5:PT:=
 (.chk (aq (pc (.mk [r2]) 15) (pc (.mk [r2]) 19))
 (.ite aiG
 (.ret pL)
 (.chk (.an (bk (pi 5) (pi 0)) (bI (pi 5) cU))
 (.chk (peq (pi 5) (pi 5))
 (.chk (aq (.rep (pi 5) (pi 0)) (pi 0))
 (.call ⟨[],[(9,(.setn (.rep (pi 5) (pi 0)) (pi 0) 0 r1)),(8,(.setc IK 0 (az 15 (.mk [r2])))),(7,C5),(3,(.mk [r0]))]⟩ [] 50 147 [jP,(pc C5 7)]
 (.chk (aq o9 (pi 1))
 (.call ⟨[],[(9,(.setn o9 (pi 1) 0 l6))]⟩ [] 56 147 [(az 8 o3),(pc o8 10)]
 (.chk (aq o9 (pi 2))
 (.call ⟨[],[(9,(.setn o9 (pi 2) 0 tj))]⟩ [] 62 147 [(az 8 o3),(pc o8 9)]
 (.chk (aq o9 (pi 3))
 (.chk (aq (pc o3 3) (pc o7 2))
 (.call ⟨[],[(9,(.setn o9 (pi 3) 0 l9))]⟩ [] 73 147 [(az 8 o3),(pc (pn (pc o3 3) (pc o7 2)) 1)]
 (.chk (aq o9 (pi 4))
 (.call ⟨[],[]⟩ [] 76 176 [(.setn o9 (pi 4) 0 De),(pi (-1))]
 (.ite uV
 (.ret pL)
 (.chk pF
 (.next ⟨[],[]⟩))))))))))))))))))
theorem agp:Jx.map told=some (O5,[]):=by kernel_rfl
theorem azc:tree (ab Jx)=O5:=aQ agp
end Rm
namespace Rm
open Go Go.Proofs Cx
def Vp:List Nat:=[4,5,17,19,18,21,47,48,88,36,75,20,9,32,33,10,38,62,102,64,103,144,177,196,212,211,223,147,135,213,214,178,176,195,180,197,216,215,224,198,145,181,200,199,201,217,218,225,229,227,226,182,202,219,228,220,230,232,83,221,78,30,63,66,109,65,94,130,131,174,193,194,210,132,133,134,175,136,137,138,139,140,104,105,106,107,146,183,184,203,205,222,204,97,108,148,149,185,207,39,79,124,81,80,82,125,70,35,37,8,31,67,68,110,150,121,12,22,6,23,49,50,51,89,126,24,52,90,127,173,128,91,92,129,53,54,93,55,56,25,57,95,96,58,59,98,141,142,60,99,61,101,143,100,11,13,40,41,42,14,43,44,15,45,84,85,16]
def CT:List (Nat×PC):=[(4,(ab AM)),(5,(ab JQ)),(17,(ab JP)),(19,(ab AN)),(18,(ab AS)),(21,(ab J3)),(47,(ab J4)),(48,(ab KB)),(88,(ab Br)),(36,(ab AU)),(75,(ab Q7)),(20,(ab JO)),(9,(ab AT)),(32,(ab J6)),(33,(ab J7)),(10,(ab AE)),(38,(ab Jy)),(62,(ab Bl)),(102,(ab Kz)),(64,(ab Jq)),(103,(ab Jp)),(144,(ab Ju)),(177,(ab Jv)),(196,(ab Bo)),(212,(ab Kw)),(211,(ab KA)),(223,(ab Bq)),(147,(ab Kt)),(135,(ab Ku)),(213,(ab Ky)),(214,(ab Bm)),(178,(ab JV)),(176,(ab KD)),(195,(ab Bu)),(180,(ab AK)),(197,(ab JM)),(216,(ab JN)),(215,(ab KC)),(224,(ab Bt)),(198,(ab AL)),(145,(ab JU)),(181,(ab JW)),(200,(ab JX)),(199,(ab Bs)),(201,(ab KI)),(217,(ab ya)),(218,(ab Bz)),(225,(ab KO)),(229,(ab KN)),(227,(ab KK)),(226,(ab KR)),(182,(ab KJ)),(202,(ab BA)),(219,(ab KP)),(228,(ab KS)),(220,(ab KM)),(230,(ab KL)),(232,(ab KQ)),(83,(ab JD)),(221,(ab Bp)),(78,(ab Jt)),(30,(ab Jr)),(63,(ab Js)),(66,(ab Bn)),(109,(ab Bw)),(65,(ab EC)),(94,(ab Bb)),(130,(ab Bg)),(131,(ab Be)),(174,(ab Kv)),(193,(ab Bf)),(194,(ab KE)),(210,(ab Bv)),(132,(ab Kp)),(133,(ab Kq)),(134,(ab Bd)),(175,(ab Bj)),(136,(ab Kr)),(137,(ab Ks)),(138,(ab Bh)),(139,(ab Bk)),(140,(ab Bi)),(104,(ab KG)),(105,(ab KH)),(106,(ab KF)),(107,(ab EE)),(146,(ab ED)),(183,(ab Ew)),(184,(ab JJ)),(203,(ab JF)),(205,(ab JH)),(222,(ab Ey)),(204,(ab Ex)),(97,(ab Bc)),(108,(ab Bx)),(148,(ab By)),(149,(ab AI)),(185,(ab JG)),(207,(ab JI)),(39,(ab Jz)),(79,(ab KT)),(124,(ab BB)),(81,(ab JA)),(80,(ab AF)),(82,(ab AG)),(125,(ab AO)),(70,(ab Q8)),(35,(ab Q6)),(37,(ab AV)),(8,(ab J5)),(31,(ab JR)),(67,(ab JT)),(68,(ab JS)),(110,(ab AH)),(150,(ab JB)),(121,(ab JC)),(12,(ab EA)),(22,(ab A7)),(6,(ab Ez)),(23,(ab A9)),(49,(ab AX)),(50,(ab Kc)),(51,(ab A8)),(89,(ab Kd)),(126,(ab x9)),(24,(ab J8)),(52,(ab A2)),(90,(ab Kb)),(127,(ab AY)),(173,(ab J9)),(128,(ab AW)),(91,(ab AZ)),(92,(ab Ka)),(129,(ab A1)),(53,(ab A3)),(54,(ab A4)),(93,(ab A0)),(55,(ab A6)),(56,(ab A5)),(25,(ab xZ)),(57,(ab EF)),(95,(ab KU)),(96,(ab KV)),(58,(ab AR)),(59,(ab J1)),(98,(ab J0)),(141,(ab JZ)),(142,(ab J2)),(60,(ab AP)),(99,(ab JY)),(61,(ab AQ)),(101,(ab JK)),(143,(ab JL)),(100,(ab AJ)),(11,(ab Ke)),(13,(ab Kg)),(40,(ab Kk)),(41,(ab Ba)),(42,(ab Kl)),(14,(ab Kh)),(43,(ab Ki)),(44,(ab Ko)),(15,(ab Kj)),(45,(ab Kf)),(84,(ab JE)),(85,(ab Km)),(16,(ab EB))]
def tab:Nat→Option PC:=bL CT
theorem aid:CT.map (·.1)=Vp:=by kernel_rfl
theorem awC:(CT.map (·.1)).Nodup:=by rw[aid];exact rf (by kernel_rfl)
theorem lA (k:Nat){f:Nat}{x:PC}(h:CT[k]?=some (f,x)):tab f=some x:=afE awC h
theorem abC:tab 217=some (ab ya):=lA 45 (by kernel_rfl)
theorem abB:tab 65=some (ab EC):=lA 65 (by kernel_rfl)
theorem AB:tab 107=some (ab EE):=lA 85 (by kernel_rfl)
theorem Ji:tab 146=some (ab ED):=lA 86 (by kernel_rfl)
theorem abx:tab 183=some (ab Ew):=lA 87 (by kernel_rfl)
theorem aby:tab 222=some (ab Ey):=lA 91 (by kernel_rfl)
theorem Jh:tab 204=some (ab Ex):=lA 92 (by kernel_rfl)
theorem abz:tab 12=some (ab EA):=lA 116 (by kernel_rfl)
theorem alM:tab 6=some (ab Ez):=lA 118 (by kernel_rfl)
theorem abA:tab 126=some (ab x9):=lA 124 (by kernel_rfl)
theorem alN:tab 25=some (ab xZ):=lA 139 (by kernel_rfl)
theorem alP:tab 57=some (ab EF):=lA 140 (by kernel_rfl)
theorem alO:tab 16=some (ab EB):=lA 166 (by kernel_rfl)
theorem caps:∀f cs,bL QZ f=some cs→(og cs.args cs.res=none→bL wU f=some ⟨cs.args++cs.caps,cs.res,.dat⟩)∧∀ys,og cs.args cs.res=some ys→fR Vp f=false∧Iz Tryz.prog f=true:=abP (l:=QZ) (sig:=wU) (P:=Tryz.prog) (pcs:=Vp) (by kernel_rfl)
theorem clos:dL ctx:=⟨(fun f cs h=>(caps f cs h).1),fun f s h=>aka (l:=wU) (P:=Tryz.prog) (by kernel_rfl) f s h⟩
theorem its:∀f cs ys,ctx.cap f=some cs→og cs.args cs.res=some ys→tab f=none∧∃fn,ctx.P.funcs[f]?=some fn∧fn.body.isSome=true∧(fn.name== "runtime.NumGoroutine")=false:=fun f cs ys h hi=>⟨afu (l:=CT) (by rw[aid];exact((caps f cs h).2 ys hi).1),ayZ ((caps f cs h).2 ys hi).2⟩
theorem ayN:∀f pc,tab f=some pc→∃fn s ids fr nh,ctx.P.funcs[f]?=some fn∧ctx.sig f=some s∧my {ctx with fr:=fr,nh:=nh} fn s ids=some pc:=
 T5 (R:=fun f pc=>∃fn s ids fr nh,ctx.P.funcs[f]?=some fn∧ctx.sig f=some s∧my {ctx with fr:=fr,nh:=nh} fn s ids=some pc) (l:=CT)
  (au (av [5,7,9,18,20,21,23,25,27,29] [10,11,12,13,14,15,16,17,19,22,24,26,28,30] [] Tryz.func4 rfl (ar AM MN))
  (au (av [1,17] [0,2,3,4,5,6,7,8,9,10,11,12,13] [] Tryz.func5 rfl (ar JQ agN))
  (au (av [0,24576,28672,32768,1,12289,2,12290] [] [] Tryz.func17 rfl (ar JP agM))
  (au (av [0,1] [2] [] Tryz.func19 rfl (ar AN Us))
  (au (av [3,5] [6,7,8,9,10] [] Tryz.func18 rfl (ar AS Ux))
  (au (av [1] [2,3] [] Tryz.func21 rfl (ar J3 ag0))
  (au (av [1] [2] [] Tryz.func47 rfl (ar J4 ag1))
  (au (av [] [4] [] Tryz.func48 rfl (ar KB ahy))
  (au (av [] [4,5] [] Tryz.func88 rfl (ar Br UT))
  (au (av [3,5,1,10] [6,7,9] [] Tryz.func36 rfl (ar AU Uz))
  (au (av [] [5] [] Tryz.func75 rfl (ar Q7 avQ))
  (au (av [4,69636,73732,5,6,7] [] [] Tryz.func20 rfl (ar JO agK))
  (au (av [5,7,9,12,17,52] [10,11,13,14,15,18,19,20] [] Tryz.func9 rfl (ar AT Uy))
  (au (av [2] [4] [] Tryz.func32 rfl (ar J6 ag4))
  (au (av [4,6,8] [] [] Tryz.func33 rfl (ar J7 ag5))
  (au (av [4,6,8,9,10,28] [11] [] Tryz.func10 rfl (ar AE Uk))
  (au (av [4,6,8,9] [] [] Tryz.func38 rfl (ar Jy agq))
  (au (av [2,4,5,65541,69637,73733,77829,7,31,9,49,11,13] [] [] Tryz.func62 rfl (ar Bl CO))
  (au (av [] [4] [] Tryz.func102 rfl (ar Kz ahw))
  (au (av [5,8,77832,10] [] [] Tryz.func64 rfl (ar Jq agi))
  (au (av [4,7,8,9] [10] [] Tryz.func103 rfl (ar Jp agh))
  (au (av [4,7,8,10,16394] [9,11,12,13,14] [] Tryz.func144 rfl (ar Ju agm))
  (au (av [2,3,4] [5] [] Tryz.func177 rfl (ar Jv agn))
  (au (av [2,3,5,6,8,10,90,139] [4,7,9,11,12,13,14,15,16] [] Tryz.func196 rfl (ar Bo M0))
  (au (av [2] [3] [] Tryz.func212 rfl (ar Kw ahu))
  (au (av [] [4] [] Tryz.func211 rfl (ar KA ahx))
  (au (av [] [4,5] [] Tryz.func223 rfl (ar Bq US))
  (au (av [2] [4] [] Tryz.func147 rfl (ar Kt ahr))
  (au (av [] [4] [] Tryz.func135 rfl (ar Ku ahs))
  (au (av [2] [] [] Tryz.func213 rfl (ar Ky ahv))
  (au (av [3,6,8] [] [] Tryz.func214 rfl (ar Bm UR))
  (au (av [] [2,3,4,11] [] Tryz.func178 rfl (ar JV agS))
  (au (av [] [4] [] Tryz.func176 rfl (ar KD ahA))
  (au (av [] [4,5] [] Tryz.func195 rfl (ar Bu UX))
  (au (av [4,10,53] [8,9,11,12,13,14,55,70] [] Tryz.func180 rfl (ar AK Uq))
  (au (av [4,9] [8] [] Tryz.func197 rfl (ar JM agI))
  (au (av [] [3] [] Tryz.func216 rfl (ar JN agJ))
  (au (av [] [4] [] Tryz.func215 rfl (ar KC ahz))
  (au (av [] [4,5] [] Tryz.func224 rfl (ar Bt UW))
  (au (av [4,11] [8,9] [] Tryz.func198 rfl (ar AL Ur))
  (au (av [3,6,8,10] [7,9,11,12] [] Tryz.func145 rfl (ar JU agR))
  (au (av [2,3,4,12292,9] [5,6,7,8,10,11] [] Tryz.func181 rfl (ar JW agT))
  (au (av [2] [3] [] Tryz.func200 rfl (ar JX agU))
  (au (av [] [4,5] [] Tryz.func199 rfl (ar Bs UU))
  (au (av [1] [2,3] [] Tryz.func201 rfl (ar KI ahI))
  (au (av [2,7,12295] [4,5] [] Tryz.func217 rfl (ar ya U2))
  (au (av [1,4,6,12294,9] [2,3,5,7,8,38,47,10,11,12] [] Tryz.func218 rfl (ar Bz M3))
  (au (av [1] [2,3,12,20,4,5] [] Tryz.func225 rfl (ar KO ahO))
  (au (av [] [2] [] Tryz.func229 rfl (ar KN ahN))
  (au (av [] [2,3,4,11] [] Tryz.func227 rfl (ar KK ahK))
  (au (av [2] [4,8,13,17,21] [] Tryz.func226 rfl (ar KR ahR))
  (au (av [2,4,7] [5,6,8] [] Tryz.func182 rfl (ar KJ ahJ))
  (au (av [2,3,4,6,33,7,8,10,12298,12] [5,15,21,9,11] [] Tryz.func202 rfl (ar BA U1))
  (au (av [2,4] [5,6] [] Tryz.func219 rfl (ar KP ahP))
  (au (av [2] [] [] Tryz.func228 rfl (ar KS ahS))
  (au (av [4,5] [9,22,41,6,7,82,88,94] [] Tryz.func220 rfl (ar KM ahM))
  (au (av [] [6,8,14,20,25] [] Tryz.func230 rfl (ar KL ahL))
  (au (av [] [4,5,6,7] [] Tryz.func232 rfl (ar KQ ahQ))
  (au (av [] [4,5,6,7,8,9,10,11,12,13] [] Tryz.func83 rfl (ar JD agv))
  (au (av [6] [2,3,5,8] [] Tryz.func221 rfl (ar Bp M1))
  (au (av [1] [2,3,7,12] [] Tryz.func78 rfl (ar Jt agl))
  (au (av [4,6] [8,9,10,11] [] Tryz.func30 rfl (ar Jr agj))
  (au (av [1] [2] [] Tryz.func63 rfl (ar Js agk))
  (au (av [1,3,6,8] [2,4] [] Tryz.func66 rfl (ar Bn MZ))
  (au (av [] [2,3,4] [] Tryz.func109 rfl (ar Bw UZ))
  (au (av [4,5,10] [8,9,15,39,58,74,11,12] [] Tryz.func65 rfl (ar EC ahC))
  (au (av [1,9] [2,3,4,5,6,7,10,11,12] [] Tryz.func94 rfl (ar Bb UL))
  (au (av [1,2,3,4,6,16390,20486,24582,21,8,34,10,12298,16394,47] [] [] Tryz.func130 rfl (ar Bg GC))
  (au (av [] [6,7,8] [] Tryz.func131 rfl (ar Be UO))
  (au (av [] [4] [] Tryz.func174 rfl (ar Kv aht))
  (au (av [] [2,3,4,5] [] Tryz.func193 rfl (ar Bf UP))
  (au (av [] [4] [] Tryz.func194 rfl (ar KE ahB))
  (au (av [] [4,5] [] Tryz.func210 rfl (ar Bv UY))
  (au (av [] [2] [] Tryz.func132 rfl (ar Kp ahn))
  (au (av [] [3] [] Tryz.func133 rfl (ar Kq aho))
  (au (av [2,3] [4,6] [] Tryz.func134 rfl (ar Bd UN))
  (au (av [] [6,7,8] [] Tryz.func175 rfl (ar Bj UQ))
  (au (av [] [3] [] Tryz.func136 rfl (ar Kr ahp))
  (au (av [] [3] [] Tryz.func137 rfl (ar Ks ahq))
  (au (av [1,3,4,6,19,8,16392,36] [2] [] Tryz.func138 rfl (ar Bh MW))
  (au (av [1,4,6] [2,3] [] Tryz.func139 rfl (ar Bk MY))
  (au (av [1,4,6] [2] [] Tryz.func140 rfl (ar Bi MX))
  (au (av [2] [4] [] Tryz.func104 rfl (ar KG ahG))
  (au (av [] [2] [] Tryz.func105 rfl (ar KH ahH))
  (au (av [1] [2] [] Tryz.func106 rfl (ar KF ahD))
  (au (av [3,4] [6,7,13,16,24,33,8,9] [] Tryz.func107 rfl (ar EE ahF))
  (au (av [3] [4,5] [] Tryz.func146 rfl (ar ED ahE))
  (au (av [] [4,5,6,7,8,9] [] Tryz.func183 rfl (ar Ew agx))
  (au (av [] [2] [] Tryz.func184 rfl (ar JJ agF))
  (au (av [] [2,3,4,5,6,7,8,9] [] Tryz.func203 rfl (ar JF agz))
  (au (av [] [4] [] Tryz.func205 rfl (ar JH agC))
  (au (av [] [6,0,1] [] Tryz.func222 rfl (ar Ey agD))
  (au (av [] [6,7,8] [] Tryz.func204 rfl (ar Ex agy))
  (au (av [3,9] [6,7] [] Tryz.func97 rfl (ar Bc UM))
  (au (av [3] [6,7,8,2,9,10] [] Tryz.func108 rfl (ar Bx U0))
  (au (av [3,9] [6,7,2] [] Tryz.func148 rfl (ar By M2))
  (au (av [2,4,5] [6] [] Tryz.func149 rfl (ar AI Un))
  (au (av [3,4,5] [6] [] Tryz.func185 rfl (ar JG agA))
  (au (av [2] [4,5,6,7] [] Tryz.func207 rfl (ar JI agE))
  (au (av [2,4,5,6,43] [] [] Tryz.func39 rfl (ar Jz agr))
  (au (av [3] [6] [] Tryz.func79 rfl (ar KT ahT))
  (au (av [2,5,7] [4] [] Tryz.func124 rfl (ar BB U3))
  (au (av [3,7] [6] [] Tryz.func81 rfl (ar JA ags))
  (au (av [] [2,3,5,12,15] [] Tryz.func80 rfl (ar AF Ul))
  (au (av [2,9] [4,5,6,7,10,50,54] [] Tryz.func82 rfl (ar AG Um))
  (au (av [2,7] [4,5] [] Tryz.func125 rfl (ar AO Ut))
  (au (av [1] [2] [] Tryz.func70 rfl (ar Q8 avR))
  (au (av [2,3] [4] [] Tryz.func35 rfl (ar Q6 avP))
  (au (av [3,6,7,9] [] [] Tryz.func37 rfl (ar AV UA))
  (au (av [5,7,9] [10,11,12,13,14,33,36,15] [] Tryz.func8 rfl (ar J5 ag3))
  (au (av [] [6,7,8,9,10] [] Tryz.func31 rfl (ar JR agO))
  (au (av [] [4] [] Tryz.func67 rfl (ar JT agQ))
  (au (av [] [6,7,8,9,10,11,12] [] Tryz.func68 rfl (ar JS agP))
  (au (av [] [6,7,8,2,9,10,11,12,13,14,15,16,17,18] [] Tryz.func110 rfl (ar AH MM))
  (au (av [] [2] [] Tryz.func150 rfl (ar JB agt))
  (au (av [] [2,0] [] Tryz.func121 rfl (ar JC agu))
  (au (av [5,7,20,22] [10] [] Tryz.func12 rfl (ar EA ag2))
  (au (av [] [4,5] [] Tryz.func22 rfl (ar A7 UG))
  (au (av [3,4,5] [6] [] Tryz.func6 rfl (ar Ez agL))
  (au (av [2,3] [4,5] [] Tryz.func23 rfl (ar A9 UJ))
  (au (av [1] [2,3,4] [] Tryz.func49 rfl (ar AX MQ))
  (au (av [1] [2] [] Tryz.func50 rfl (ar Kc aha))
  (au (av [1] [2,3] [] Tryz.func51 rfl (ar A8 UI))
  (au (av [1] [2] [] Tryz.func89 rfl (ar Kd ahb))
  (au (av [3] [6,1,7] [] Tryz.func126 rfl (ar x9 UH))
  (au (av [1] [2,3] [] Tryz.func24 rfl (ar J8 ag6))
  (au (av [1,5,44] [2,3,4,6,7] [] Tryz.func52 rfl (ar A2 MS))
  (au (av [] [4] [] Tryz.func90 rfl (ar Kb ag9))
  (au (av [] [2,3,4] [] Tryz.func127 rfl (ar AY UC))
  (au (av [] [2] [] Tryz.func173 rfl (ar J9 ag7))
  (au (av [] [6,7] [] Tryz.func128 rfl (ar AW UB))
  (au (av [2,3] [4,5] [] Tryz.func91 rfl (ar AZ UD))
  (au (av [] [6] [] Tryz.func92 rfl (ar Ka ag8))
  (au (av [] [6,7] [] Tryz.func129 rfl (ar A1 UE))
  (au (av [1,4,44] [2,3,5,6] [] Tryz.func53 rfl (ar A3 MT))
  (au (av [1,3,24] [2,4,5] [] Tryz.func54 rfl (ar A4 UF))
  (au (av [1] [2,3,4] [] Tryz.func93 rfl (ar A0 MR))
  (au (av [1,4] [2,3,5] [] Tryz.func55 rfl (ar A6 MV))
  (au (av [1,4,6] [2,3,5] [] Tryz.func56 rfl (ar A5 MU))
  (au (av [2,3,10] [4,5,6,7,8,11] [] Tryz.func25 rfl (ar xZ MO))
  (au (av [2,3] [4,5,6,7,8,54,80,109,118,9,10] [] Tryz.func57 rfl (ar EF ahU))
  (au (av [] [4] [] Tryz.func95 rfl (ar KU ahV))
  (au (av [1,3] [2,8,19,40] [] Tryz.func96 rfl (ar KV ahW))
  (au (av [3,4,7,11] [6,8,9,76,92,98] [] Tryz.func58 rfl (ar AR Uw))
  (au (av [] [6] [] Tryz.func59 rfl (ar J1 agY))
  (au (av [3,4,7,8] [6,9,10,66,103,113,11,140,149] [] Tryz.func98 rfl (ar J0 agX))
  (au (av [3] [6,7] [] Tryz.func141 rfl (ar JZ agW))
  (au (av [3] [6] [] Tryz.func142 rfl (ar J2 agZ))
  (au (av [2,3,6] [4,5,7] [] Tryz.func60 rfl (ar AP Uu))
  (au (av [3,4,5] [6,7,8,9,65,80,100,111] [] Tryz.func99 rfl (ar JY agV))
  (au (av [1,4,5,52] [2,3] [] Tryz.func61 rfl (ar AQ Uv))
  (au (av [] [4,5,6] [] Tryz.func101 rfl (ar JK agG))
  (au (av [] [2] [] Tryz.func143 rfl (ar JL agH))
  (au (av [] [2,3,5] [] Tryz.func100 rfl (ar AJ Up))
  (au (av [1] [2] [] Tryz.func11 rfl (ar Ke ahc))
  (au (av [4] [5,6,7,8] [] Tryz.func13 rfl (ar Kg ahf))
  (au (av [] [2] [] Tryz.func40 rfl (ar Kk ahj))
  (au (av [] [4,0,1] [] Tryz.func41 rfl (ar Ba UK))
  (au (av [4,5,6] [7,8] [] Tryz.func42 rfl (ar Kl ahk))
  (au (av [2,3,4] [5,6,7,8,9] [] Tryz.func14 rfl (ar Kh ahg))
  (au (av [1] [2] [] Tryz.func43 rfl (ar Ki ahh))
  (au (av [4] [5,6] [] Tryz.func44 rfl (ar Ko ahm))
  (au (av [2,3,4] [5] [] Tryz.func15 rfl (ar Kj ahi))
  (au (av [2,3,4,9] [5,6,7,8,10,11] [] Tryz.func45 rfl (ar Kf ahd))
  (au (av [] [6,7,8] [] Tryz.func84 rfl (ar JE agw))
  (au (av [2,4] [5,6,7,8] [] Tryz.func85 rfl (ar Km ahl))
  (au (av [2,3,5] [4,6,39,43] [] Tryz.func16 rfl (ar EB ahe))
  trivial)))))))))))))))))))))))))))))))))))))))))))))))))))))))))))))))))))))))))))))))))))))))))))))))))))))))))))))))))))))))))))))))))))))))))))))))))))))))))))))))))))))))
end Rm
set_option linter.unusedSimpArgs false
namespace Rm
open Go Go.Proofs Cx Go.RowKit Go.Lib
theorem atv:(Tryz.prog.info? 3).map (fun i=>(i.zero,i.size,i.bytes))=some (some (.int .i64 0),1,8):=by kernel_rfl
set_option maxHeartbeats 2000000 in
set_option maxRecDepth 100000 in
theorem aqa (w:World):Calls Tryz.prog 231 #[.slice none 0 0,.int .i64 0] w fun e w'=>e=.returned (.slice none 0 0)∧w'=w:=by
 go_enter Tryz.func231,Tryz.ntmps231
 go_wp2
 go_ret
 exact⟨rfl,rfl⟩
set_option maxHeartbeats 2000000 in
set_option maxRecDepth 100000 in
theorem ap9 (n:Nat)(w:World)(h0:0<n)(h1:n≤4294967296):Calls Tryz.prog 231 #[.slice none 0 0,.int .i64 n] w fun e w'=>
 ∃v',e=.returned v'∧w'.ownsRow w.heap.size 3 1 v' 0 []∧Below w.heap.size w w':=by
 obtain⟨i0,hi,Cw,pw,hz2⟩:=info_parts atv;have hr:=run_append_nil_zeros w 60 3 60 3 i0 (.int .i64 0) .i64 .i64 Tryz.underlying60 Tryz.underlying3 hi Cw n h0 (by rw[pw];decide) (by omega) (by rw[hz2];omega);have hn:¬((n:Int)<0):=by omega
 have qV:(n:Int)>0:=by omega
 have hw:IntKind.i64.wrap (n:Int)=n:=by rw[IntKind.wrap_i64];omega
 have yX:IntKind.i64.wrap 0=0:=by decide
 have fN:=grownCap_ge w n 0 3;have hle:=grownCap_le_maxLen w n 0 3 (by unfold maxLen;omega);have hs:(Builtin.zeroCells #[Value.int IntKind.i64 0] n++Builtin.zeroCells #[Value.int IntKind.i64 0] (grownCap w n 0 3-n)).size=grownCap w n 0 3*1:=by
  rw[Array.size_append,size_zeroCells,size_zeroCells];simp;omega
 go_enter Tryz.func231,Tryz.ntmps231
 go_wp2_with (at_builtin;refine wpList_append_run _ rfl _ _ 60 3 rfl _ _ rfl rfl _ _ hr ?qc)
 go_ret
 refine⟨_,rfl,?_,?_⟩
 ·exact World.ownsRow.drew (World.ownsRow_made w _ _ (bn _) hle hs)
 ·exact((Below.refl _ w).alloc (bn _) _).drew
def Lh (ds:List D):Option D:=
 match ds with
 |[.list [],.v (.int .i64 n)]=>if 0≤n∧n≤4294967296 then some (.list []) else none
 |_=>none
theorem ap8 (ds:List D)(d:D)(h:Lh ds=some d):∃s,ctx.sig 231=some s∧Pt ctx 231 s ds d:=by
 refine⟨_,rfl,fun _=>?_,fun shs obs hm=>by cases hm⟩;unfold Lh at h;split at h
 case h_2=>cases h
 rename_i n;split at h
 case isFalse=>cases h
 rename_i hn;cases h;obtain⟨k,rfl⟩:=lO hn.1;intro σ w args ax hC ha;obtain⟨a1,a2,a3⟩:=ha;have h0:=a3 0 _ rfl;have h1:=a3 1 _ rfl;obtain⟨u,v,rfl⟩:∃u v,args=#[u,v]:=by
  have:args.size=2:=by simpa using a1
  match args,this with
  |⟨[u,v]⟩,_=>exact⟨u,v,rfl⟩
 simp only[oI,xx] at h0 h1;change Rep ctx.cap σ (.nils .bool) u (.list []) at h0;change Rep ctx.cap σ (.int .i64) v (.v (.int .i64 k)) at h1;have hu:u=.slice none 0 0:=by cases h0;rfl
 have hv:v=.int .i64 k:=by cases h1;rfl
 subst hu hv;by_cases hk:k=0
 ·subst hk;refine(aqa w).mono fun e w' hh=>?_;obtain⟨rfl,rfl⟩:=hh;refine⟨_,σ,rfl,.refl σ,ax,.refl _ _,fun _ _ _ h=>.inl h,fun _ _ h=>.inl h,?_⟩;exact⟨[],[],rfl,⟨by simp,.inl ⟨rfl,rfl⟩⟩,⟨fun _=>undef,fun i x hx=>by simp at hx,fun i j u hi=>by simp at hi⟩,fun k hk=>by cases hk⟩
 ·refine(ap9 k w (by omega) (by omega)).mono fun e w' hh=>?_;obtain⟨v',rfl,bC,hb⟩:=hh;refine⟨v',σ,rfl,.refl σ,ax.below hb,hb,fun _ _ _ h=>.inl h,fun _ _ h=>.inl h,?_⟩;refine⟨[],[],rfl,bC,⟨fun _=>undef,fun i x hx=>by simp at hx,fun i j u hi=>by simp at hi⟩,fun k hk=>?_⟩;have bp:=(bC.lt k hk).1;refine⟨fun o=>?_,?_⟩
  ·cases hc:σ.c k o with
   |none=>rfl
   |some u=>have:=World.block_lt_of_cell? w (a:=⟨k,o,none⟩) (ax.c _ _ _ hc);simp at this;omega
  ·cases hc:σ.m k with
   |none=>rfl
   |some u=>have:=(ax.m _ _ hc).lt;omega
def fA (day:Int):Int×Int×Int:=
 let n:=day+730425
 let e:=n/146097
 let r:=n%146097
 let y:=(r-r/1460+r/36524-r/146096)/365
 let r:=r-(365*y+y/4-y/100)
 let m:=(5*r+2)/153
 let dom:=r-(153*m+2)/5+1
 let month:=if 12<m+3 then m+3-12 else m+3
 (if month<3 then y+400*e+1 else y+400*e,month,dom)
def zp (rest feasts shut:List Int)(day:Int):Bool:=
 !rest.contains ((day+5)%7)&&(!feasts.contains (100*(fA day).2.1+(fA day).2.2)&& !shut.contains day)
def ab9 (rest feasts shut:List Int)(a b:Int):List Int:=((List.range (b-a+1).toNat).map fun(k:Nat)=>a+k).filter (zp rest feasts shut)
def y3 (d:D):List Int:=d.l.map D.i
def aca (ds:List D):List D:=
 let c:=(ds.getD 2 .none).deref
 (ab9 (y3 (c.c 3)) (y3 (c.c 4)) (y3 (c.c 5)) (ds.getD 0 .none).deref.i (ds.getD 1 .none).deref.i).map fun d=>.tup [.int d]
def AA (r:D)(city:Int):Int:=if 0≤city∧city<(r.c 1).l.length then(((r.c 1).l.getD city.toNat .none).c 1).i else-1
def Vs (ds:List D):D:=
 let r:=ds.getD 0 .none
 let forum:=(ds.getD 1 .none).i
 let c:=ds.getD 2 .none
 let s:=(c.c 15).l.getD (c.c 19).i.toNat .none
 let who:=(s.c 2).i
 if who<0∨(r.c 3).l.length≤who∨forum<0∨(r.c 4).l.length≤forum then .list [] else
 let out:=[forum,AA r (s.c 7).i,AA r (c.c 10).i,AA r (c.c 9).i,AA r (((r.c 3).l.getD who.toNat .none).c 1).i]
 if(-1)∈out then .list [] else ints out
def acE:List (Nat×(aW→List D→Option D)):=[(231,fun _ ds=>Lh ds),(179,CK (ab Jw) (ab Jx) Vs),(206,Gl (ab ub) 1000 1 aca),(76,fun _ ds=>Is ds),(77,fun _ ds=>K0 ds),(73,fun _ ds=>KW ds),(34,fun _ ds=>OM ds),(74,fun _ ds=>ON ds),(69,fun _ ds=>K1 ds),(46,fun _ ds=>OU ds)]
def ext:Nat→Option (aW→List D→Option D):=bL acE
theorem ayM:TabOK ctx tab ext:=by
 refine⟨clos,its,fun f pc _ h=>ayN f pc h,fun f g hg Φ hΦ dY ds d h=>?_⟩
 have:=T5 (R:=fun f (g:aW→List D→Option D)=>∀Φ,dt ctx Φ→gH ctx Φ→∀ds d,g Φ ds=some d→(∀s,ctx.sig f=some s→Pt ctx f s ds d)∧
  ∀cs ys,ctx.cap f=some cs→og cs.args cs.res=some ys→∃xs,d=.list xs∧(∀x,x∈xs→∃ds',x=.tup ds'∧ds'.length=ys.length)∧mj ctx f cs.caps ys ds xs) (l:=acE)
  ⟨fun Φ hΦ dY ds d h=>⟨fun s hs=>by obtain⟨s',h1,h2⟩:=ap8 ds d h;rw[hs] at h1;cases h1;exact h2,fun cs ys hc hi=>by cases hc⟩,
   fun Φ hΦ dY ds d h=>⟨fun s hs=>by cases hs;exact⟨fun _=>avI clos hΦ dY Tryz.func179 (ar Jw ago) (ar Jx agp) h,fun shs obs hm=>by cases hm⟩,fun cs ys hc hi=>by cases hc⟩,
   fun Φ hΦ dY ds d h=>⟨fun s hs=>(by cases hs),fun cs ys hc hi=>by
    cases hc;cases hi;exact atA clos hΦ dY Tryz.func206 amv h rfl⟩,
   fun Φ hΦ dY ds d h=>⟨fun s hs=>by cases hs;exact⟨fun hm=>(by cases hm),fun shs obs hm=>by cases hm;exact ayy ds d h⟩,fun cs ys hc hi=>by cases hc⟩,
   fun Φ hΦ dY ds d h=>⟨fun s hs=>by cases hs;exact⟨fun hm=>(by cases hm),fun shs obs hm=>by cases hm;exact am5 ds d h⟩,fun cs ys hc hi=>by cases hc⟩,
   fun Φ hΦ dY ds d h=>⟨fun s hs=>by obtain⟨s',h1,h2⟩:=amN ds d h;rw[hs] at h1;cases h1;cases hs;exact⟨fun _=>h2,fun shs obs hm=>by cases hm⟩,fun cs ys hc hi=>by cases hc⟩,
   fun Φ hΦ dY ds d h=>⟨fun s hs=>by cases hs;exact⟨fun hm=>(by cases hm),fun shs obs hm=>by cases hm;exact ayt ds d h⟩,fun cs ys hc hi=>by cases hc⟩,
   fun Φ hΦ dY ds d h=>⟨fun s hs=>by cases hs;exact⟨fun hm=>(by cases hm),fun shs obs hm=>by cases hm;exact ayv ds d h⟩,fun cs ys hc hi=>by cases hc⟩,
   fun Φ hΦ dY ds d h=>⟨fun s hs=>by cases hs;exact⟨fun hm=>(by cases hm),fun shs obs hm=>by cases hm;exact anm ds d h⟩,fun cs ys hc hi=>by cases hc⟩,
   fun Φ hΦ dY ds d h=>⟨fun s hs=>by obtain⟨s',h1,h2⟩:=ayJ ds d h;rw[hs] at h1;cases h1;cases hs;exact⟨fun _=>h2,fun shs obs hm=>by cases hm⟩,fun cs ys hc hi=>by cases hc⟩,trivial⟩ f g hg
 exact this Φ hΦ dY ds d h
abbrev T:cG:=eL tab ext
theorem aj.of_nsl {tab:Nat→Option PC}{ext:Nat→Option (aW→List D→Option D)}{f:Nat}{pa pb:PC}{spec:List D→D}{ds:List D}{ta tb:PT}(hx:ext f=some (CK pa pb spec))(hta:tree pa=ta)(htb:tree pb=tb)
 (h:(∃xs,xs≠[]∧spec ds=.list xs∧aH (eL tab ext) ta (oV ds) (fun x=>x=.ret (.list xs)))∨(spec ds=.list []∧aH (eL tab ext) tb (oV ds) (fun x=>x=.ret (.list [])))):aj (eL tab ext) f ds (spec ds):=by
 refine aj.of_ext hx ?_;rcases h with⟨xs,h1,h2,h3⟩|⟨h2,h3⟩
 ·obtain⟨x,rfl,n0,hn⟩:=Pj (c:=pa) (hta▸h3);refine⟨n0,fun n hle=>?_⟩;unfold CK;rw[if_pos (.inl ⟨n,xs,hn n hle,h1,h2⟩)]
 ·obtain⟨x,rfl,n0,hn⟩:=Pj (c:=pb) (htb▸h3);refine⟨n0,fun n hle=>?_⟩;unfold CK;rw[if_pos (.inr ⟨n,hn n hle,h2⟩)]
end Rm
namespace Rm
open Go Go.Proofs Cx
def eP (n:Nat)(p:Nat→Bool):Bool:=(List.range n).all p
theorem abp {n:Nat}{p:Nat→Bool}(h:∀k,k<n→p k=true):eP n p=true:=da.2 fun k hk=>h k (fY.1 hk)
theorem alC {n k:Nat}{p:Nat→Bool}(hk:k<n)(h:p k=false):eP n p=false:=List.all_eq_false.2 ⟨k,fY.2 hk,by simp[h]⟩
theorem xP {n:Nat}{p:Nat→Bool}:eP n p=true↔∀k,k<n→p k=true:=⟨fun h k hk=>da.1 h k (fY.2 hk),abp⟩
def fM (n:Nat)(f:Nat→Int):Int:=(((List.range n).map f).find? fun x=>x !=0).getD 0
theorem RG {n:Nat}{f:Nat→Int}(h:∀k,k<n→f k=0):fM n f=0:=by
 unfold fM;rw[An.2]
 ·rfl
 ·intro x hx;obtain⟨k,hk,rfl⟩:=cu.1 hx;simp[h k (fY.1 hk)]
theorem RE {n k:Nat}{f:Nat→Int}(hk:k<n)(hj:∀j,j<k→f j=0)(h:f k≠0):fM n f=f k:=by
 unfold fM;have e:List.range n=List.range k++k::(List.range' (k+1) (n-k-1)):=by
  rw[PJ,PJ,←PH];have:=List.range'_append_1 (s:=0) (m:=k) (n:=n-k-1+1);rw[je] at this;rw[this];congr 1;omega
 rw[e,np,List.find?_append,An.2,Option.none_or,jc,List.find?_cons_of_pos (by simpa using h)]
 ·rfl
 ·intro x hx;obtain⟨j,vE,rfl⟩:=cu.1 hx;simp[hj j (fY.1 vE)]
theorem RF {n:Nat}{f:Nat→Int}:fM n f=0↔∀k,k<n→f k=0:=by
 refine⟨fun h k=>?_,RG⟩
 induction k using Nat.strongRecOn with
 |ind k ih=>
  intro hk;refine DN fun ay=>?_;rw[RE hk (fun j hj=>ih j hj (by omega)) ay] at h;exact ay h
section
variable {T:cG} {id:Nat} {bF bE lr lo:List Nat} {a:PC} {ρ:Env} {Q:Out→Prop}
theorem gA (N:Nat)(p:Nat→Bool)(str fI:Nat→List D)(h0:lr.map ρ.r=str 0∧lo.map ρ.o=fI 0)
 (step:∀k,k<N→p k=true→aH T (round id bF bE lr lo a) (ρ.put lr (str k) lo (fI k)) (fo ρ id bF bE lr lo (fun vr vo=>vr=str (k+1)∧vo=fI (k+1)) Q))
 (bad:∀k,k<N→p k=false→eP N p=false→aH T (round id bF bE lr lo a) (ρ.put lr (str k) lo (fI k)) (fo ρ id bF bE lr lo (fun _ _=>False) Q))
 (last:eP N p=true→aH T (round id bF bE lr lo a) (ρ.put lr (str N) lo (fI N)) (fo ρ id bF bE lr lo (fun _ _=>False) Q)):aK T (.block id bF bE (.loop lr lo a)) ρ Q:=
 .scan N (fun k=>p k=true) str fI h0 (fun k hk _ h=>step k hk h) (fun k hk _ h=>bad k hk (by simpa using h) (alC hk (by simpa using h))) (fun h=>last (abp h))
theorem p6 (N:Nat)(f:Nat→Int)(str fI:Nat→List D)(h0:lr.map ρ.r=str 0∧lo.map ρ.o=fI 0)
 (step:∀k,k<N→f k=0→aH T (round id bF bE lr lo a) (ρ.put lr (str k) lo (fI k)) (fo ρ id bF bE lr lo (fun vr vo=>vr=str (k+1)∧vo=fI (k+1)) Q))
 (bad:∀k,k<N→f k≠0→fM N f=f k→aH T (round id bF bE lr lo a) (ρ.put lr (str k) lo (fI k)) (fo ρ id bF bE lr lo (fun _ _=>False) Q))
 (last:fM N f=0→aH T (round id bF bE lr lo a) (ρ.put lr (str N) lo (fI N)) (fo ρ id bF bE lr lo (fun _ _=>False) Q)):aK T (.block id bF bE (.loop lr lo a)) ρ Q:=
 .scan N (fun k=>f k=0) str fI h0 (fun k hk _ h=>step k hk h) (fun k hk hj h=>bad k hk h (RE hk hj h)) (fun h=>last (RG h))
end
theorem bu {k n:Nat}(h:k<n)(hn:n≤4294967296):IntKind.i64.wrap ((k:Int)+1)=(k:Int)+1:=aN (by omega)
theorem xk {k:Nat}(hn:k≤4294967296):IntKind.i64.wrap ((k:Int)-1)=(k:Int)-1:=aN (by omega)
def aE (i n:Int):Bool:=decide (0≤i)&&decide (i<n)
def wi (n a b:Int):Bool:=decide (a≤n)&&decide (n≤b)
theorem fU (i n:Int):aj T 135 [.int i,.int n] (.bool (aE i n)):=by
 refine .of_tree rfl (lA 28 (by kernel_rfl)) aAQ ?_;simp[Zh,aE];by_cases h:0≤i<;>simp[h]
theorem rE (i n:Int):aj T 102 [.int i,.int n] (.bool (aE i n)):=by
 refine .of_tree rfl (lA 18 (by kernel_rfl)) aA4 ?_;simp[Zu,aE];by_cases h:0≤i<;>simp[h]
theorem cY (n a b:Int):aj T 92 [.int n,.int a,.int b] (.bool (wi n a b)):=by
 refine .of_tree rfl (lA 132 (by kernel_rfl)) aAj ?_;simp[YA,wi];by_cases h:a≤n<;>simp[h]
theorem idx_eq {α:Type}[DecidableEq α]{l:List α}{x z:α}{k:Nat}(hk:k<l.length)(hj:∀j,j<k→l.getD j z≠x)(h:¬l.getD k z≠x):x∈l∧l.findIdx (fun y=>decide (y=x))=k:=by
 have e:l[k]=x:=by simpa [hk] using h
 refine⟨e▸bW hk,(List.findIdx_eq hk).2 ⟨by simp[e],fun j j5=>?_⟩⟩;have gS:j<l.length:=by omega
 simpa [gS] using hj j j5
theorem aeR {α:Type}[DecidableEq α]{l:List α}{x z:α}(hj:∀j,j<l.length→l.getD j z≠x):¬x∈l:=fun hm=>by
 obtain⟨j,gS,rfl⟩:=fX hm;have:=hj j gS;simp[gS] at this
def vW {α:Type}[DecidableEq α](l:List α)(x:α):Int:=if x∈l then(l.findIdx (fun y=>decide (y=x)):Nat) else-1
def hasB {α:Type}[DecidableEq α](l:List α)(x:α):Bool:=l.any fun y=>decide (y=x)
theorem R7 {α:Type}[DecidableEq α]{l:List α}{x:α}:hasB l x=true↔x∈l:=by simp[hasB]
theorem ads {α:Type}[DecidableEq α]{l:List α}{x:α}:hasB l x=false↔¬x∈l:=by rw[←R7];simp
theorem aeQ {α:Type}[DecidableEq α](l:List α)(x:α):decide (0≤vW l x)=hasB l x:=by
 unfold vW;by_cases h:x∈l
 ·rw[R7.2 h];simp[h]
 ·rw[ads.2 h];simp[h]
@[simp] theorem aFG (a b:ByteArray):BF .eql a b=decide (a=b):=by
  simp only[BF,ByteArray.toList_eq];by_cases h:a=b
  ·subst h;simp
  ·rw[decide_eq_false h,beq_eq_false_iff_ne];intro e;have:a.data=b.data:=by rw[←Ab];exact e
   exact h (by cases a;cases b;cases this;rfl)
@[simp] theorem aGB (ρ:Env)(x i:PE):PE.ev ρ (.sidx x i)=.v (.int .u8 ((PE.ev ρ x).s.data.getD (PE.ev ρ i).i.toNat 0).toNat):=_root_.id rfl
@[simp] theorem aGF (ρ:Env)(x i:PE):PE.ev ρ (.sok x i)=.v (.bool (decide (0≤(PE.ev ρ i).i∧(PE.ev ρ i).i<(PE.ev ρ x).s.size))):=_root_.id rfl
@[simp] theorem aJr (a:ByteArray):(str a).s=a:=_root_.id rfl
theorem akX (l:List Int)(x:Int)(hl:l.length≤4294967296):aj T 195 [ints l,.int x] (.int (vW l x)):=by
 refine .of_tree rfl (lA 33 (by kernel_rfl)) aBf ?_;simp[ZF];refine .scan l.length (fun k=>l.getD k 0≠x) (fun k=>[.int 0,.int k]) (fun _=>[]) ?_ (fun k hk hj ho=>?_) (fun k hk hj ho=>?_) (fun hj=>?_)
 ·simp
 ·have hw:=bu hk hl;simp[hk] at ho;have gU:¬x=l[k]:=fun e=>ho e.symm;simp[WO,H4,hk,hw,ints,ho,gU]
 ·obtain⟨hm,he⟩:=idx_eq hk hj ho;simp[hk] at ho;simp[WO,H4,hk,ints,ho,vW,hm,he]
 ·have:=aeR hj;simp[WO,H4,vW,this,ints]
theorem xo (l:List Int)(x:Int)(hl:l.length≤4294967296):aj T 176 [ints l,.int x] (.bool (hasB l x)):=by
 refine .of_tree rfl (lA 32 (by kernel_rfl)) aA9 ?_;simp[Zz];refine⟨_,akX l x hl,?_⟩;have:=aeQ l x;simp at this ⊢;exact this
theorem akY (l:List ByteArray)(x:ByteArray)(hl:l.length≤4294967296):aj T 210 [strs l,str x] (.int (vW l x)):=by
 refine .of_tree rfl (lA 72 (by kernel_rfl)) aBg ?_;simp[ZG];refine .scan l.length (fun k=>l.getD k default≠x) (fun k=>[.int 0,.int k]) (fun _=>[]) ?_ (fun k hk hj ho=>?_) (fun k hk hj ho=>?_) (fun hj=>?_)
 ·simp
 ·have hw:=bu hk hl;simp[hk] at ho;have gU:¬x=l[k]:=fun e=>ho e.symm;simp[WQ,H5,hk,hw,strs,ho,gU]
 ·obtain⟨hm,he⟩:=idx_eq hk hj ho;simp[hk] at ho;simp[WQ,H5,hk,strs,ho,vW,hm,he]
 ·have:=aeR hj;simp[WQ,H5,vW,this,strs]
theorem akQ (l:List ByteArray)(x:ByteArray)(hl:l.length≤4294967296):aj T 194 [strs l,str x] (.bool (hasB l x)):=by
 refine .of_tree rfl (lA 71 (by kernel_rfl)) aBa ?_;simp[ZA];refine⟨_,akY l x hl,?_⟩;have:=aeQ l x;simp at this ⊢;exact this
def p5 (l:List Int)(a b:Int)(k:Nat):Bool:=wi (l.getD k 0) a b&&(k==0||decide (l.getD (k-1) 0<l.getD k 0))
def rising (l:List Int)(a b:Int):Bool:=eP l.length (p5 l a b)
theorem Ib (l:List Int)(a b:Int)(hl:l.length≤4294967296):aj T 175 [ints l,.int a,.int b] (.bool (rising l a b)):=by
 refine .of_tree rfl (lA 76 (by kernel_rfl)) aAW ?_;simp[Zn];refine gA l.length (p5 l a b) (fun k=>[.bool false,.int k]) (fun _=>[]) ?_ (fun k hk ho=>?_) (fun k hk ho hb=>?_) (fun hj=>?_)
 ·simp
 ·have hw:=bu hk hl;simp[p5,wi,hk] at ho;obtain⟨⟨h1,h2⟩,h3⟩:=ho;have cJ:¬l[k]<a:=by omega
  have iP:¬b<l[k]:=by omega
  by_cases gT:0<k
  ·have bD:k-1<l.length:=by omega
   have cQ:IntKind.i64.wrap ((k:Int)-1)=((k-1:Nat):Int):=by rw[xk (by omega)];omega
   have fC:¬l[k]≤l[k-1]:=by
        rcases h3 with h3|h3
        ·omega
        ·simp[bD] at h3;omega
   simp[Di,wK,hk,hw,cQ,ints,cJ,iP,fC,gT,bD]
  ·simp[Di,wK,hk,hw,ints,cJ,iP,gT]
 ·have hf:rising l a b=false:=hb;simp[p5,wi,hk] at ho;by_cases h1:l[k]<a
  ·simp[Di,wK,hk,ints,h1,hf]
  by_cases h2:b<l[k]
  ·simp[Di,wK,hk,ints,h1,h2,hf]
  have h3:=ho (by omega) (by omega);have gT:0<k:=by omega
  have bD:k-1<l.length:=by omega
  have cQ:IntKind.i64.wrap ((k:Int)-1)=((k-1:Nat):Int):=by rw[xk (by omega)];omega
  have fC:=h3.2;simp[bD] at fC;simp[Di,wK,hk,cQ,ints,h1,h2,fC,gT,bD,hf]
 ·have hf:rising l a b=true:=hj;simp[Di,wK,hf]
def Gq (c:Int):Bool:=wi c 97 122||wi c 65 90
def zm (i:Nat)(c:Int):Bool:=Gq c||(i !=0&&(decide (c=95)||wi c 48 57))
def Er (s:ByteArray)(k:Nat):Int:=((s.data.toList.getD k 0).toNat:Nat)
def ju (s:ByteArray):Bool:=decide (1≤s.size)&&decide (s.size≤20)&&eP s.size (fun k=>zm k (Er s k))
theorem Jl {s:ByteArray}{k:Nat}(h:k<s.data.size):(s.data[k].toNat:Int)=Er s k:=by
 unfold Er;rw[aI,aX (by simpa using h)];rfl
theorem ajV {s:ByteArray}:s=⟨#[]⟩↔s.size=0:=by
 constructor
 ·rintro rfl;rfl
 ·intro h;cases s with|mk d=>congr;exact Po h
theorem axF (s:ByteArray):aj T 193 [str s] (.bool (ju s)):=by
 refine .of_tree rfl (lA 70 (by kernel_rfl)) aAR ?_;simp[Zi];by_cases h0:s=⟨#[]⟩
 ·have hn:ju s=false:=by simp[ju,ajV.1 h0]
  rw[hn];simp[h0]
 by_cases h1:(20:Int)<s.size
 ·have cJ:¬s.size≤20:=by omega
  simp[h0,h1,ju,cJ]
 have hz:1≤s.size:=by
  have:s.size≠0:=fun e=>h0 (ajV.2 e);omega
 have cJ:s.size≤20:=by omega
 simp[h0,h1];refine⟨by omega,gA s.size (fun k=>zm k (Er s k)) (fun k=>[.bool false,.int k]) (fun _=>[]) ?_ (fun k hk ho=>?_) (fun k hk ho hb=>?_) (fun hj=>?_)⟩
 ·simp
 ·have hw:=bu hk (by omega);have bp:k<s.data.size:=hk;have hg:=Jl bp;simp[zm,Gq,wi] at ho;simp[Ww,HL,hk,bp,hw,hg];omega
 ·have bp:k<s.data.size:=hk;have hg:=Jl bp;have hn:ju s=false:=by simp[ju,hb]
  simp[zm,Gq,wi] at ho;simp[Ww,HL,hk,bp,hg,hn];omega
 ·have hn:ju s=true:=by simp[ju,hj,hz,cJ]
  have hd:s.data.size=s.size:=rfl;simp[Ww,HL,hn,hd]
theorem aiV (c:Int):aj T 173 [.v (.int .u8 c)] (.bool (Gq c)):=by
 refine .of_tree rfl (lA 129 (by kernel_rfl)) aAe ?_;simp[Yv,Gq,wi];by_cases h:97≤c<;>by_cases h2:c≤122<;>by_cases h3:65≤c<;>by_cases h4:c≤90<;>simp[h,h2,h3,h4]
theorem aw2 (s:ByteArray):aj T 127 [str s] (.bool (ju s)):=by
 refine .of_tree rfl (lA 128 (by kernel_rfl)) aAf ?_;simp[Yw];by_cases h0:(s.size:Int)<1
 ·have hn:ju s=false:=by simp[ju];omega
  simp[h0,hn]
 by_cases h1:(20:Int)<s.size
 ·have hn:ju s=false:=by simp[ju];omega
  simp[h0,h1,hn]
 rw[if_neg (by omega)];refine gA s.size (fun k=>zm k (Er s k)) (fun k=>[.bool false,.int k]) (fun _=>[]) ?_ (fun k hk ho=>?_) (fun k hk ho hb=>?_) (fun hj=>?_)
 ·simp
 ·have hw:=bu hk (by omega);have bp:k<s.data.size:=hk;have hg:=Jl bp;simp[zm,wi] at ho;simp[Wc,Hn,hk,bp,hw,hg];refine⟨_,aiV _,?_⟩;simp[hw];intro g1 g2;exfalso;rcases ho with h|h
  ·rw[h] at g1;cases g1
  ·omega
 ·have bp:k<s.data.size:=hk;have hg:=Jl bp;have hn:ju s=false:=by simp[ju,hb]
  simp[zm,wi] at ho;simp[Wc,Hn,hk,bp,hg,hn];refine⟨_,aiV _,?_⟩;simp[ho.1];omega
 ·have hn:ju s=true:=by simp[ju,hj];omega
  simp[Wc,Hn,hn]
end Rm
namespace Rm
open Go Go.Proofs Cx
theorem awZ (l:List ByteArray)(n:Nat)(x:ByteArray)(hn:n≤l.length)(hl:l.length≤4294967296):aj T 128 [strs l,.int n,str x] (.bool (hasB (l.take n) x)):=by
 refine .of_tree rfl (lA 130 (by kernel_rfl)) aAb ?_;simp[Ys];refine .scan n (fun k=>l.getD k default≠x) (fun k=>[.bool false,.int k]) (fun _=>[]) ?_ (fun k hk hj ho=>?_) (fun k hk hj ho=>?_) (fun hj=>?_)
 ·simp
 ·have bp:k<l.length:=by omega
  have hw:=bu bp hl;simp[bp] at ho;simp[Wb,Hl,hk,bp,hw,strs,ho]
 ·have bp:k<l.length:=by omega
  simp[bp] at ho;have hm:hasB (l.take n) x=true:=R7.2 (by rw[←ho,ak7];exact⟨k,by omega,rfl⟩);simp[Wb,Hl,hk,bp,strs,ho,hm]
 ·have hm:hasB (l.take n) x=false:=ads.2 (fun h=>by
   rw[ak7] at h;obtain⟨k,hk,e⟩:=h;have:=hj k (by omega);simp[show k<l.length by omega] at this;exact this e)
  simp[Wb,Hl,hm]
def iw (l:List ByteArray)(i:Nat):Int:=if ju (l.getD i default)=false then 2 else if hasB (l.take i) (l.getD i default) then 5 else 0
theorem Ue (l:List ByteArray)(i n:Nat)(h:i<n):iw (l.take n) i=iw l i:=by
 unfold iw;rw[aI,DO h,PL,mu (by omega),←aI]
theorem G3 (l:List ByteArray)(i:Nat)(hi:i<l.length)(hl:l.length≤4294967296):aj T 90 [strs l,.int i] (.int (iw l i)):=by
 refine .of_tree rfl (lA 127 (by kernel_rfl)) aAm ?_;simp[YD,hi];refine⟨_,by simpa [strs,hi] using aw2 l[i],?_⟩;unfold iw;rw[aI,aX hi,kV];cases h1:ju l[i]<;>simp[h1];refine⟨_,by simpa [strs,hi] using awZ l i l[i] (by omega) hl,?_⟩;cases h2:hasB (l.take i) l[i]<;>simp[h2]
theorem ajw (l:List ByteArray)(i:Nat)(hi:i<l.length)(hl:l.length≤4294967296):aj T 174 [strs l,.int i] (.int (iw l i)):=by
 refine .of_tree rfl (lA 69 (by kernel_rfl)) aAS ?_;simp[Zj,hi];refine⟨_,by simpa [strs,hi] using axF l[i],?_⟩;unfold iw;rw[aI,aX hi,kV];cases h1:ju l[i]<;>simp[h1];refine⟨by omega,_,by simpa [strs,hi] using akQ (l.take i) l[i] (by rw[ej];omega),?_⟩;cases h2:hasB (l.take i) l[i]<;>simp[h2]
def kA (l:List ByteArray)(g:Nat→Bool)(i:Nat):Int:=if iw l i≠0 then iw l i else if g i then 0 else 1
def eM (l:List ByteArray)(Gx:Int)(g:Nat→Bool):Int:=if Gx<l.length then 6 else fM l.length (kA l g)
theorem Ot (l:List ByteArray)(Gx:Int)(f:Nat)(caps:List D)(g:Nat→Bool)(hg:∀i:Nat,i<l.length→aj T f (.int i::caps) (.bool (g i)))(hl:l.length≤4294967296):
 aj T 131 [strs l,.int Gx,.clo f caps] (.int (eM l Gx g)):=by
 refine .of_tree rfl (lA 68 (by kernel_rfl)) aAP ?_;simp[Zg,eM];by_cases h0:Gx<l.length
 ·simp[h0];intro h;omega
 simp[h0];refine p6 l.length (kA l g) (fun k=>[.int 0,.int k]) (fun _=>[]) ?_ (fun k hk ho=>?_) (fun k hk ho hb=>?_) (fun hj=>?_)
 ·simp
 ·have hw:=bu hk hl;have h1:iw l k=0:=by
   refine DN fun h=>?_;unfold kA at ho;rw[if_pos h] at ho;exact h ho
  have h2:g k=true:=by
   unfold kA at ho;rw[if_neg (by simpa using h1)] at ho;cases h:g k with
   |true=>rfl
   |false=>rw[h] at ho;simp at ho
  simp[Wv,HJ,hk,hw];refine⟨_,ajw l k hk hl,?_⟩;simp[h1];refine⟨_,_,⟨rfl,rfl⟩,_,hg k hk,?_⟩;simp[h2,hw]
 ·simp[Wv,HJ,hk,hb];refine⟨_,ajw l k hk hl,?_⟩;unfold kA at ho ⊢;by_cases h1:iw l k=0
  ·simp[h1] at ho ⊢;refine⟨_,_,⟨rfl,rfl⟩,_,hg k hk,?_⟩;simp[ho]
  ·simp[h1]
 ·simp[Wv,HJ,hj]
theorem VT (l:List Int)(a b:Int)(hl:l.length≤4294967296):aj T 129 [ints l,.int a,.int b] (.bool (rising l a b)):=by
 refine .of_tree rfl (lA 133 (by kernel_rfl)) aAi ?_;simp[Yz];refine gA l.length (p5 l a b) (fun k=>[.bool false,.int k]) (fun _=>[]) ?_ (fun k hk ho=>?_) (fun k hk ho hb=>?_) (fun hj=>?_)
 ·simp
 ·have hw:=bu hk hl;simp[p5,hk] at ho;simp[Wg,Hr,hk,hw,ints];refine⟨_,cY _ _ _,?_⟩;by_cases gT:0<k
  ·have bD:k-1<l.length:=by omega
   have cQ:IntKind.i64.wrap ((k:Int)-1)=((k-1:Nat):Int):=by rw[xk (by omega)];omega
   have fC:¬l[k]≤l[k-1]:=by
        rcases ho.2 with h3|h3
        ·omega
        ·simp[bD] at h3;omega
   simp[ho.1,hk,hw,cQ,fC,gT,bD]
  ·simp[ho.1,hk,hw,gT];omega
 ·have hf:rising l a b=false:=hb;simp[p5,hk] at ho;simp[Wg,Hr,hk,ints,hf];refine⟨_,cY _ _ _,?_⟩;cases h1:wi l[k] a b with
  |false=>simp
  |true=>
   have h3:=ho h1;have gT:0<k:=by omega
   have bD:k-1<l.length:=by omega
   have cQ:IntKind.i64.wrap ((k:Int)-1)=((k-1:Nat):Int):=by rw[xk (by omega)];omega
   have fC:=h3.2;simp[bD] at fC;simp[hk,cQ,fC,gT,bD]
 ·have hf:rising l a b=true:=hj;simp[Wg,Hr,hf]
theorem Xo (n:Int):n.tdiv 100=if 0≤n then n/100 else-((-n)/100):=by
 split
 ·rename_i h;exact xt h
 ·rename_i h;have e:n.tdiv 100=-((-n).tdiv 100):=by rw[Int.neg_tdiv,Int.neg_neg]
  rw[e,xt (by omega)]
theorem akc (n:Int):n.tmod 100=n-100*n.tdiv 100:=Int.tmod_def n 100
theorem akx {n:Int}(h:aY n):IntKind.i64.wrap (n.tdiv 100)=n.tdiv 100:=aN (by rw[Xo];unfold aY at h;split<;>omega)
def oS (r:Realm)(c:City):Bool:=eP c.feasts.length (fun k=>wi ((c.feasts.getD k 0).tmod 100) 1 31)&&(decide (c.feasts.length≤60)&&decide (c.shut.length≤200)&&aE c.order r.orders.length&&aE c.currency r.currencies.length)&&
 (rising c.rest 0 6&&rising c.feasts 101 1231&&rising c.shut 0 100000)
theorem axD (r:Realm)(c:City)(h1:c.rest.length≤4294967296)(h2:c.feasts.length≤4294967296)(h3:c.shut.length≤4294967296):aj T 134 [aT r,gL c] (.bool (oS r c)):=by
 refine .of_tree rfl (lA 75 (by kernel_rfl)) aAO ?_;simp[Zf];refine gA c.feasts.length (fun k=>wi ((c.feasts.getD k 0).tmod 100) 1 31) (fun k=>[.bool false,.int k]) (fun _=>[]) ?_ (fun k hk ho=>?_) (fun k hk ho hb=>?_) (fun hj=>?_)
 ·simp
 ·have hw:=bu hk h2;simp[wi,hk] at ho;have g1:¬(c.feasts[k].tmod 100<1):=by omega
  have g2:¬(31<c.feasts[k].tmod 100):=by omega
  simp[Wu,HI,hk,hw,ints,g1,g2]
 ·have hf:oS r c=false:=by simp only[oS,hb,rR]
  simp[wi,hk] at ho;simp[Wu,HI,hk,ints,hf];by_cases g1:c.feasts[k].tmod 100<1
  ·simp[g1]
  ·have g2:=ho (by omega);simp[g1,g2]
 ·simp[Wu,HI];by_cases g1:(c.feasts.length:Int)≤60
  case neg=>
   have hf:oS r c=false:=by
        have fB:decide (c.feasts.length≤60)=false:=decide_eq_false (by omega);simp only[oS,fB,rR,Ad]
   have fB:(60:Int)<c.feasts.length:=by omega
   simp[g1,fB,hf]
  by_cases g2:(c.shut.length:Int)≤200
  case neg=>
   have hf:oS r c=false:=by
        have fB:decide (c.shut.length≤200)=false:=decide_eq_false (by omega);simp only[oS,fB,rR,Ad]
   have oX:(200:Int)<c.shut.length:=by omega
   simp[g1,g2,oX,hf]
  have fB:¬(60:Int)<c.feasts.length:=by omega
  have oX:¬(200:Int)<c.shut.length:=by omega
  have hf:oS r c=(aE c.order r.orders.length&&aE c.currency r.currencies.length&&(rising c.rest 0 6&&rising c.feasts 101 1231&&rising c.shut 0 100000)):=by
   have e1:decide (c.feasts.length≤60)=true:=decide_eq_true (by omega);have e2:decide (c.shut.length≤200)=true:=decide_eq_true (by omega);simp only[oS,hj,e1,e2,Af]
  rw[hf];simp[g1,g2,fB,oX];refine⟨_,fU _ _,?_⟩;simp;cases e1:aE c.order r.orders.length<;>simp;refine⟨_,fU _ _,?_⟩;simp;cases e2:aE c.currency r.currencies.length<;>simp;refine⟨_,Ib _ _ _ h1,?_⟩;simp;cases e3:rising c.rest 0 6<;>simp;refine⟨_,Ib _ _ _ h2,?_⟩;simp;cases e4:rising c.feasts 101 1231<;>simp;exact Ib _ _ _ h3
def qx (r:Realm)(c:City):Bool:=(wi c.order 0 (r.orders.length-1)&&wi c.currency 0 (r.currencies.length-1)&&decide (c.feasts.length≤60)&&decide (c.shut.length≤200))&&
 eP c.feasts.length (fun k=>wi ((c.feasts.getD k 0).tdiv 100) 1 12&&wi ((c.feasts.getD k 0).tmod 100) 1 31)&&(rising c.rest 0 6&&rising c.feasts 0 2000&&rising c.shut 0 100000)
theorem tD (n:Nat)(h:n≤4294967296):IntKind.i64.wrap ((n:Int)-1)=(n:Int)-1:=aN (by omega)
theorem aw3 (r:Realm)(c:City)(h1:c.rest.length≤4294967296)(h2:c.feasts.length≤4294967296)(h3:c.shut.length≤4294967296)(h4:r.orders.length≤4294967296)(h5:r.currencies.length≤4294967296)(hi:∀y,y∈c.feasts→aY y):
 aj T 91 [aT r,gL c] (.bool (qx r c)):=by
 refine .of_tree rfl (lA 131 (by kernel_rfl)) aAg ?_;simp[Yx,tD _ h4,tD _ h5];refine⟨_,cY _ _ _,?_⟩;cases e1:wi c.order 0 (r.orders.length-1)
 case false=>simp[qx,e1]
 simp;refine⟨_,cY _ _ _,?_⟩;cases e2:wi c.currency 0 (r.currencies.length-1)
 case false=>simp[qx,e1,e2]
 by_cases g1:(c.feasts.length:Int)≤60
 case neg=>
  have hf:qx r c=false:=by
   have fB:decide (c.feasts.length≤60)=false:=decide_eq_false (by omega);simp only[qx,fB,rR,Ad]
  have fB:(60:Int)<c.feasts.length:=by omega
  simp[fB,hf]
 by_cases g2:(c.shut.length:Int)≤200
 case neg=>
  have hf:qx r c=false:=by
   have fB:decide (c.shut.length≤200)=false:=decide_eq_false (by omega);simp only[qx,fB,rR,Ad]
  have oX:(200:Int)<c.shut.length:=by omega
  simp[oX,hf]
 have fB:¬(60:Int)<c.feasts.length:=by omega
 have oX:¬(200:Int)<c.shut.length:=by omega
 have hf:qx r c=(eP c.feasts.length (fun k=>wi ((c.feasts.getD k 0).tdiv 100) 1 12&&wi ((c.feasts.getD k 0).tmod 100) 1 31)&&(rising c.rest 0 6&&rising c.feasts 0 2000&&rising c.shut 0 100000)):=by
  have e3:decide (c.feasts.length≤60)=true:=decide_eq_true (by omega);have e4:decide (c.shut.length≤200)=true:=decide_eq_true (by omega);simp only[qx,e1,e2,e3,e4,Af]
 rw[hf];simp[fB,oX];refine gA c.feasts.length (fun k=>wi ((c.feasts.getD k 0).tdiv 100) 1 12&&wi ((c.feasts.getD k 0).tmod 100) 1 31) (fun k=>[.bool false,.int k]) (fun _=>[]) ?_ (fun k hk ho=>?_) (fun k hk ho hb=>?_) (fun hj=>?_)
 ·simp
 ·have hw:=bu hk h2;have hI:=hi _ (bW hk);have hq:IntKind.i64.wrap (c.feasts[k].tdiv 100)=c.feasts[k].tdiv 100:=akx hI;simp[hk] at ho;simp[Wd,Ho,hk,ints,hq];refine⟨_,cY _ _ _,?_⟩;simp[ho.1,hk];refine⟨_,cY _ _ _,?_⟩;simp[ho.2,hk,hw]
 ·have hI:=hi _ (bW hk);have hq:IntKind.i64.wrap (c.feasts[k].tdiv 100)=c.feasts[k].tdiv 100:=akx hI;simp[hk] at ho;simp only[aI] at hb;rw[hb];simp[Wd,Ho,hk,ints,hq];refine⟨_,cY _ _ _,?_⟩;cases e3:wi (c.feasts[k].tdiv 100) 1 12 with
  |false=>simp
  |true=>
   have:=ho e3;simp[hk];refine⟨_,cY _ _ _,?_⟩;simp[this]
 ·simp only[aI] at hj;rw[hj];simp[Wd,Ho];refine⟨_,VT _ _ _ h1,?_⟩;simp;cases e3:rising c.rest 0 6<;>simp;refine⟨_,VT _ _ _ h2,?_⟩;simp;cases e4:rising c.feasts 0 2000<;>simp;exact VT _ _ _ h3
theorem amI (r:Realm)(c:City):qx r c=oS r c:=by
 rw[tF];have cf:∀(i:Int) (n:Nat),(wi i 0 (n-1)=true)↔(aE i n=true):=by intro i n;simp[wi,aE];omega
 simp only[qx,oS,aw,decide_eq_true_eq,cf,rising,xP,p5];constructor
 ·rintro⟨⟨⟨⟨⟨a1,a2⟩,a3⟩,a4⟩,a5⟩,⟨a6,a7⟩,a8⟩;refine⟨⟨fun k hk=>(a5 k hk).2,⟨⟨⟨a3,a4⟩,a1⟩,a2⟩⟩,⟨a6,fun k hk=>?_⟩,a8⟩;have h1:=a5 k hk;have h2:=a7 k hk;simp[wi,akc,Xo] at h1 h2 ⊢;split at h1<;>omega
 ·rintro⟨⟨a5,⟨⟨⟨a3,a4⟩,a1⟩,a2⟩⟩,⟨a6,a7⟩,a8⟩;refine⟨⟨⟨⟨⟨a1,a2⟩,a3⟩,a4⟩,fun k hk=>?_⟩,⟨a6,fun k hk=>?_⟩,a8⟩
  ·have h1:=a5 k hk;have h2:=a7 k hk;simp[wi,akc,Xo] at h1 h2 ⊢;split at h1<;>(try split)<;>omega
  ·have h2:=a7 k hk;simp[wi] at h2 ⊢;omega
end Rm
namespace Rm
open Go Go.Proofs Cx
theorem Dx {α β:Type}(f:α→β){l:List α}{k:Nat}(h:k<l.length):(l.take (k+1)).map f=(l.take k).map f++[f l[k]]:=by
 rw[il h,np];rfl
theorem oe (i:Int)(n:Nat):aE i n=wi i 0 ((n:Int)-1):=by
 rw[tF];simp[wi,aE];omega
def Az (o:Order):List Int:=o.choices.map (·.ask)
def D6 (o:Order):List Int:=o.rules.map (·.ask)
def rj (o:Order):Bool:=eP o.choices.length (fun k=>aE (o.choices.getD k default).by_ 5)&&(rising (Az o) 0 21&&rising (D6 o) 0 21)
theorem axI (o:Order)(h1:o.choices.length≤100000)(h2:o.rules.length≤100000):aj T 138 [j3 o] (.bool (rj o)):=by
 refine .of_tree rfl (lA 79 (by kernel_rfl)) aAU ?_;simp[Zl];refine gA o.choices.length (fun k=>aE (o.choices.getD k default).by_ 5) (fun k=>[.bool false,.none,.int k]) (fun k=>[ints ((o.choices.take k).map (·.ask))]) ?_ (fun k hk ho=>?_) (fun k hk ho hb=>?_) (fun hj=>?_)
 ·simp[ints]
 ·have hw:=bu hk (by omega);have hl:(o.choices.take k).length=k:=by rw[ej];omega
  simp[hk] at ho;rw[Dx _ hk];simp[Wx,HM,hk,hw,ints,hl];refine⟨by omega,_,fU _ _,?_⟩;simp[ho,hw]
 ·have hf:rj o=false:=by simp only[rj,hb,rR]
  have hl:(o.choices.take k).length=k:=by rw[ej];omega
  simp[hk] at ho;simp[Wx,HM,hk,ints,hl,hf];refine⟨by omega,_,fU _ _,?_⟩;simp[ho]
 ·have hf:rj o=(rising (Az o) 0 21&&rising (D6 o) 0 21):=by simp only[rj,hj,Af]
  rw[hf];simp[Wx,HM];refine aK.forRounds o.rules.length (fun k=>[.none,.int k]) (fun k=>[ints ((o.rules.take k).map (·.ask))]) ?_ (fun k hk=>?_) ?_
  ·simp[ints]
  ·have hw:=bu hk (by omega);have hl:(o.rules.take k).length=k:=by rw[ej];omega
   rw[Dx _ hk];simp[ajq,Oh,hk,hw,ints,hl];omega
  ·simp[ajq,Oh];refine⟨_,Ib (Az o) _ _ (by simp[Az];omega),?_⟩;simp;cases e1:rising (Az o) 0 21<;>simp;exact Ib (D6 o) _ _ (by simp[D6];omega)
def zq (o:Order)(k:Nat):Bool:=wi (o.choices.getD k default).ask 0 21&&wi (o.choices.getD k default).by_ 0 4&&(k==0||decide ((o.choices.getD (k-1) default).ask<(o.choices.getD k default).ask))
def CQ (o:Order)(k:Nat):Bool:=wi (o.rules.getD k default).ask 0 21&&(k==0||decide ((o.rules.getD (k-1) default).ask<(o.rules.getD k default).ask))
theorem awf (o:Order):(eP o.choices.length (zq o)&&eP o.rules.length (CQ o))=rj o:=by
 rw[tF];simp only[rj,aw,rising,xP,Az,D6,dM];have g1:∀k,k<o.choices.length→(p5 (o.choices.map (·.ask)) 0 21 k=true↔wi (o.choices.getD k default).ask 0 21=true∧(k=0∨(o.choices.getD (k-1) default).ask<(o.choices.getD k default).ask)):=by
  intro k hk;have bD:k-1<o.choices.length:=by omega
  simp[p5,hk,bD]
 have g2:∀k,k<o.rules.length→(p5 (o.rules.map (·.ask)) 0 21 k=true↔wi (o.rules.getD k default).ask 0 21=true∧(k=0∨(o.rules.getD (k-1) default).ask<(o.rules.getD k default).ask)):=by
  intro k hk;have bD:k-1<o.rules.length:=by omega
  simp[p5,hk,bD]
 constructor
 ·rintro⟨a,b⟩;refine⟨fun k hk=>?_,fun k hk=>(g1 k hk).2 ?_,fun k hk=>(g2 k hk).2 ?_⟩
  ·have:=a k hk;simp[zq,wi,aE] at this ⊢;omega
  ·have:=a k hk;simp[zq] at this ⊢;exact⟨this.1.1,this.2⟩
  ·have:=b k hk;simp[CQ] at this ⊢;exact this
 ·rintro⟨c,a,b⟩;refine⟨fun k hk=>?_,fun k hk=>?_⟩
  ·have h1:=(g1 k hk).1 (a k hk);have h2:=c k hk;simp[zq,wi,aE] at h1 h2 ⊢;omega
  ·have h1:=(g2 k hk).1 (b k hk);simp[CQ] at h1 ⊢;exact h1
theorem aw4 (o:Order)(h1:o.choices.length≤100000)(h2:o.rules.length≤100000):aj T 93 [j3 o] (.bool (rj o)):=by
 rw[←awf];refine .of_tree rfl (lA 136 (by kernel_rfl)) aAh ?_;simp[Yy];refine gA o.choices.length (zq o) (fun k=>[.bool false,.int k]) (fun _=>[]) ?_ (fun k hk ho=>?_) (fun k hk ho hb=>?_) (fun hj=>?_)
 ·simp
 ·have hw:=bu hk (by omega);simp[zq,hk] at ho;simp[We,Hp,hk];refine⟨_,cY _ _ _,?_⟩;simp[ho.1.1,hk];refine⟨_,cY _ _ _,?_⟩;by_cases gT:0<k
  ·have bD:k-1<o.choices.length:=by omega
   have cQ:IntKind.i64.wrap ((k:Int)-1)=((k-1:Nat):Int):=by rw[xk (by omega)];omega
   have h3:¬o.choices[k].ask≤o.choices[k-1].ask:=by
        rcases ho.2 with h3|h3
        ·omega
        ·simp[bD] at h3;omega
   simp[ho.1.2,hk,hw,cQ,h3,gT,bD]
  ·simp[ho.1.2,hk,hw,gT];omega
 ·rw[hb];simp[zq,hk] at ho;simp[We,Hp,hk];refine⟨_,cY _ _ _,?_⟩;cases e1:wi o.choices[k].ask 0 21 with
  |false=>simp
  |true=>
   simp[hk];refine⟨_,cY _ _ _,?_⟩;cases e2:wi o.choices[k].by_ 0 4 with
   |false=>simp
   |true=>
    have h3:=ho e1 e2;have gT:0<k:=by omega
    have bD:k-1<o.choices.length:=by omega
    have cQ:IntKind.i64.wrap ((k:Int)-1)=((k-1:Nat):Int):=by rw[xk (by omega)];omega
    have fC:=h3.2;simp[bD] at fC;simp[hk,cQ,fC,gT,bD]
 ·rw[hj];simp[We,Hp];refine gA o.rules.length (CQ o) (fun k=>[.bool false,.int k]) (fun _=>[]) ?_ (fun k hk ho=>?_) (fun k hk ho hb=>?_) (fun hj=>?_)
  ·simp
  ·have hw:=bu hk (by omega);simp[CQ,hk] at ho;simp[Wf,Hq,hk];refine⟨_,cY _ _ _,?_⟩;by_cases gT:0<k
   ·have bD:k-1<o.rules.length:=by omega
    have cQ:IntKind.i64.wrap ((k:Int)-1)=((k-1:Nat):Int):=by rw[xk (by omega)];omega
    have h3:¬o.rules[k].ask≤o.rules[k-1].ask:=by
       rcases ho.2 with h3|h3
       ·omega
       ·simp[bD] at h3;omega
    simp[ho.1,hk,hw,cQ,h3,gT,bD]
   ·simp[ho.1,hk,hw,gT];omega
  ·rw[hb];simp[CQ,hk] at ho;simp[Wf,Hq,hk];refine⟨_,cY _ _ _,?_⟩;cases e1:wi o.rules[k].ask 0 21 with
   |false=>simp
   |true=>
    have h3:=ho e1;have gT:0<k:=by omega
    have bD:k-1<o.rules.length:=by omega
    have cQ:IntKind.i64.wrap ((k:Int)-1)=((k-1:Nat):Int):=by rw[xk (by omega)];omega
    have fC:=h3.2;simp[bD] at fC;simp[hk,cQ,fC,gT,bD]
  ·rw[hj];simp[Wf,Hq]
def fG (r:Realm):List ByteArray:=r.cities.map (·.name)
def eY (r:Realm):List ByteArray:=r.firms.map (·.name)
def eZ (r:Realm):List ByteArray:=r.orders.map (·.name)
theorem axH (r:Realm)(h1:r.cities.length≤100000)(h2:r.firms.length≤100000)(h3:r.orders.length≤100000):aj T 130 [aT r] (.tup [strs (fG r),strs (eY r),strs (eZ r)]):=by
 refine .of_tree rfl (lA 67 (by kernel_rfl)) aAT ?_;simp[Zk];refine aK.forRounds r.cities.length (fun k=>[.none,.int k]) (fun k=>[strs ((r.cities.take k).map (·.name))]) ?_ (fun k hk=>?_) ?_
 ·simp[strs]
 ·have hw:=bu hk (by omega);have hl:(r.cities.take k).length=k:=by rw[ej];omega
  rw[Dx _ hk];simp[ajn,Oe,hk,hw,strs,hl];omega
 ·simp[ajn,Oe];refine aK.forRounds r.firms.length (fun k=>[.none,.int k]) (fun k=>[strs ((r.firms.take k).map (·.name))]) ?_ (fun k hk=>?_) ?_
  ·simp[strs]
  ·have hw:=bu hk (by omega);have hl:(r.firms.take k).length=k:=by rw[ej];omega
   rw[Dx _ hk];simp[ajo,Of,hk,hw,strs,hl];omega
  ·simp[ajo,Of];refine aK.forRounds r.orders.length (fun k=>[.none,.int k]) (fun k=>[strs ((r.orders.take k).map (·.name))]) ?_ (fun k hk=>?_) ?_
   ·simp[strs]
   ·have hw:=bu hk (by omega);have hl:(r.orders.take k).length=k:=by rw[ej];omega
    rw[Dx _ hk];simp[ajp,Og,hk,hw,strs,hl];omega
   ·simp[ajp,Og,fG,eY,eZ]
end Rm
namespace Rm
open Go Go.Proofs Cx
structure Small (r:Realm):Prop where
 cur:r.currencies.length≤1000
 cities:r.cities.length≤1000
 groups:r.groups.length≤1000
 firms:r.firms.length≤1000
 orders:r.orders.length≤1000
 us:r.usances.length≤1000
 rates:r.rates.length≤1000
 halts:r.halts.length≤1000
 city:∀c,c∈r.cities→c.rest.length≤1000∧c.feasts.length≤1000∧c.shut.length≤1000∧∀y,y∈c.feasts→aY y
 order:∀o,o∈r.orders→o.choices.length≤1000∧o.rules.length≤1000
 rate:∀x,x∈r.rates→aY x.num∧aY x.den
def mf (r:Realm)(k j:Nat):Bool:=(r.usances.getD j default).fr !=(r.usances.getD k default).fr||(r.usances.getD j default).to !=(r.usances.getD k default).to
def zW (r:Realm)(k:Nat):Int:=
 if(aE (r.usances.getD k default).fr r.cities.length&&aE (r.usances.getD k default).to r.cities.length&&wi (r.usances.getD k default).days 1 20000)=false then 1 else if eP k (mf r k) then 0 else 5
def w9 (r:Realm):Int:=if 100<r.usances.length then 6 else fM r.usances.length (zW r)
theorem axK (r:Realm)(h:Small r):aj T 139 [aT r] (.int (w9 r)):=by
 refine .of_tree rfl (lA 80 (by kernel_rfl)) aAX ?_;have hu:=h.us;simp[Zo,w9];by_cases h0:100<r.usances.length
 ·have fi:(100:Int)<r.usances.length:=by omega
  have yn:¬r.usances.length≤100:=by omega
  simp[h0,fi,yn]
 have fi:¬(100:Int)<r.usances.length:=by omega
 simp[h0,fi];refine p6 r.usances.length (zW r) (fun k=>[.int 0,.int k]) (fun _=>[]) ?_ (fun k hk ho=>?_) (fun k hk ho hb=>?_) (fun hj=>?_)
 ·simp
 ·have hw:=bu hk (by omega);have ha:aE r.usances[k].fr r.cities.length=true∧aE r.usances[k].to r.cities.length=true∧wi r.usances[k].days 1 20000=true∧eP k (mf r k)=true:=by
   unfold zW at ho;simp only[aI,aX hk,kV] at ho;cases e1:aE r.usances[k].fr r.cities.length<;>cases e2:aE r.usances[k].to r.cities.length<;>cases e3:wi r.usances[k].days 1 20000<;>cases e4:eP k (mf r k)<;>simp[e1,e2,e3,e4] at ho ⊢
  obtain⟨a1,a2,a3,a4⟩:=ha;simp[wi] at a3;have a5:¬r.usances[k].days<1:=by omega
  have a6:¬20000<r.usances[k].days:=by omega
  simp[WA,HQ,hk];refine⟨_,fU _ _,?_⟩;simp[a1];refine⟨_,fU _ _,?_⟩;simp[a2,a5,a6];refine⟨by omega,gA k (mf r k) (fun j=>[.int 0,.int j]) (fun _=>[]) ?_ (fun j hj fF=>?_) (fun j hj fF dG=>?_) (fun sD=>?_)⟩
  ·simp
  ·have yZ:=bu hj (by omega);have bK:j<r.usances.length:=by omega
   have hm:j<min k r.usances.length:=by omega
   simp[mf,bK,hk] at fF;simp[Oi,Dj,hj,bK,hk,yZ,hm];intro e e';rcases fF with h|h
   ·exact absurd e h
   ·exact absurd e' h
  ·rw[a4] at dG;cases dG
  ·simp[Oi,Dj,hw];omega
 ·simp[WA,HQ,hk,hb];refine⟨_,fU _ _,?_⟩;unfold zW at ho ⊢;simp only[aI,aX hk,kV] at ho ⊢;cases e1:aE r.usances[k].fr r.cities.length
  ·simp
  simp;refine⟨_,fU _ _,?_⟩;cases e2:aE r.usances[k].to r.cities.length
  ·simp
  cases e3:wi r.usances[k].days 1 20000
  ·simp[wi] at e3;by_cases g:r.usances[k].days<1
   ·simp[g]
   ·simp[g,e3 (by omega)]
  have EJ:=e3;simp[wi] at EJ;have a5:¬r.usances[k].days<1:=by omega
  have a6:¬20000<r.usances[k].days:=by omega
  simp[e1,e2,e3] at ho;simp[a5,a6];refine⟨by omega,gA k (mf r k) (fun j=>[.int 0,.int j]) (fun _=>[]) ?_ (fun j hj fF=>?_) (fun j hj fF dG=>?_) (fun sD=>?_)⟩
  ·simp
  ·have yZ:=bu hj (by omega);have bK:j<r.usances.length:=by omega
   have hm:j<min k r.usances.length:=by omega
   simp[mf,bK,hk] at fF;simp[Oi,Dj,hj,bK,hk,yZ,hm];intro e e';rcases fF with h|h
   ·exact absurd e h
   ·exact absurd e' h
  ·have bK:j<r.usances.length:=by omega
   have hm:j<min k r.usances.length:=by omega
   simp[mf,bK,hk] at fF;simp[Oi,Dj,hj,bK,hk,ho,hm]
   first|exact fF|simp[fF]
  ·rw[sD] at ho;cases ho
 ·simp[WA,HQ,hj]
theorem aw9 (r:Realm)(h:Small r):aj T 55 [aT r] (.int (w9 r)):=by
 refine .of_tree rfl (lA 137 (by kernel_rfl)) aAp ?_;have hu:=h.us;have hc:=h.cities;simp[YH,w9];by_cases h0:100<r.usances.length
 ·have fi:(100:Int)<r.usances.length:=by omega
  have yn:¬r.usances.length≤100:=by omega
  simp[h0,fi,yn]
 have fi:¬(100:Int)<r.usances.length:=by omega
 simp[h0,fi];refine p6 r.usances.length (zW r) (fun k=>[.int 0,.int k]) (fun _=>[]) ?_ (fun k hk ho=>?_) (fun k hk ho hb=>?_) (fun hj=>?_)
 ·simp
 ·have hw:=bu hk (by omega);have ha:aE r.usances[k].fr r.cities.length=true∧aE r.usances[k].to r.cities.length=true∧wi r.usances[k].days 1 20000=true∧eP k (mf r k)=true:=by
   unfold zW at ho;simp only[aI,aX hk,kV] at ho;cases e1:aE r.usances[k].fr r.cities.length<;>cases e2:aE r.usances[k].to r.cities.length<;>cases e3:wi r.usances[k].days 1 20000<;>cases e4:eP k (mf r k)<;>simp[e1,e2,e3,e4] at ho ⊢
  obtain⟨a1,a2,a3,a4⟩:=ha;rw[oe] at a1 a2;simp[Wo,Hz,hk,tD _ (show r.cities.length≤4294967296 by omega)];refine⟨_,cY _ _ _,?_⟩;simp[a1,tD _ (show r.cities.length≤4294967296 by omega)];refine⟨_,cY _ _ _,?_⟩;simp[a2];refine⟨_,cY _ _ _,?_⟩;simp[a3];refine gA k (mf r k) (fun j=>[.int 0,.int j]) (fun _=>[]) ?_ (fun j hj fF=>?_) (fun j hj fF dG=>?_) (fun sD=>?_)
  ·simp
  ·have yZ:=bu hj (by omega);have bK:j<r.usances.length:=by omega
   simp[mf,bK,hk] at fF;simp[Oa,Dh,hj,bK,hk,yZ];intro e e';rcases fF with h|h
   ·exact absurd e h
   ·exact absurd e' h
  ·rw[a4] at dG;cases dG
  ·simp[Oa,Dh,hw]
 ·simp[Wo,Hz,hk,hb,tD _ (show r.cities.length≤4294967296 by omega)];refine⟨_,cY _ _ _,?_⟩;unfold zW at ho ⊢;simp only[aI,aX hk,kV,oe] at ho ⊢;cases e1:wi r.usances[k].fr 0 ((r.cities.length:Int)-1)
  ·simp
  simp[tD _ (show r.cities.length≤4294967296 by omega)];refine⟨_,cY _ _ _,?_⟩;cases e2:wi r.usances[k].to 0 ((r.cities.length:Int)-1)
  ·simp
  simp;refine⟨_,cY _ _ _,?_⟩;cases e3:wi r.usances[k].days 1 20000
  ·simp
  simp[e1,e2,e3] at ho;simp;refine gA k (mf r k) (fun j=>[.int 0,.int j]) (fun _=>[]) ?_ (fun j hj fF=>?_) (fun j hj fF dG=>?_) (fun sD=>?_)
  ·simp
  ·have yZ:=bu hj (by omega);have bK:j<r.usances.length:=by omega
   simp[mf,bK,hk] at fF;simp[Oa,Dh,hj,bK,hk,yZ];intro e e';rcases fF with h|h
   ·exact absurd e h
   ·exact absurd e' h
  ·have bK:j<r.usances.length:=by omega
   simp[mf,bK,hk] at fF;simp[Oa,Dh,hj,bK,hk,ho]
   first|exact fF|simp[fF]
  ·rw[sD] at ho;cases ho
 ·simp[Wo,Hz,hj]
def zK (r:Realm)(k:Nat):Bool:=aE (r.rates.getD k default).fr r.currencies.length&&aE (r.rates.getD k default).to r.currencies.length&&((r.rates.getD k default).fr !=(r.rates.getD k default).to)&&
 wi (r.rates.getD k default).num 1 1073741824&&wi (r.rates.getD k default).den 1 1073741824&&wi (r.rates.getD k default).since 0 100000
def vA (r:Realm)(k:Nat):Bool:=aE (r.halts.getD k default).order r.orders.length&&wi (r.halts.getD k default).fr 0 (r.halts.getD k default).to&&decide ((r.halts.getD k default).to≤100000)
def pZ (r:Realm):Int:=if 100<r.rates.length then 6 else if eP r.rates.length (zK r)=false then 1 else if 20<r.halts.length then 6 else if eP r.halts.length (vA r) then 0 else 1
theorem Mh {n:Int}(h:aY n)(m:Int)(hm:0≤m∧m≤4294967296):aE (IntKind.i64.wrap (n-1)) m=wi n 1 m:=by
 unfold aY at h;by_cases e:n=-9223372036854775808
 ·subst e;have:IntKind.i64.wrap (-9223372036854775808-1)=9223372036854775807:=by decide
  rw[this,tF];simp[aE,wi];omega
 ·rw[aN (by omega),tF];simp[aE,wi];omega
theorem aeW (n:Int):aE n 100001=wi n 0 100000:=by rw[tF];simp[aE,wi];omega
theorem axJ (r:Realm)(h:Small r):aj T 140 [aT r] (.int (pZ r)):=by
 refine .of_tree rfl (lA 81 (by kernel_rfl)) aAV ?_;have hu:=h.rates;have hh:=h.halts;simp[Zm,pZ];by_cases h0:100<r.rates.length
 ·have fi:(100:Int)<r.rates.length:=by omega
  have yn:¬r.rates.length≤100:=by omega
  simp[h0,fi,yn]
 have fi:¬(100:Int)<r.rates.length:=by omega
 simp[h0,fi];have key:∀k (hk:k<r.rates.length),∀{ρ:Env} {Q:Out→Prop},True:=fun _ _ _ _=>trivial;refine gA r.rates.length (zK r) (fun k=>[.int 0,.int k]) (fun _=>[]) ?_ (fun k hk ho=>?_) (fun k hk ho hb=>?_) (fun hj=>?_)
 ·simp
 ·have hw:=bu hk (by omega);have hI:=h.rate _ (bW hk);simp[zK,hk] at ho;obtain⟨⟨⟨⟨⟨a1,a2⟩,a3⟩,a4⟩,a5⟩,a6⟩:=ho;simp[Wy,HO,hk];refine⟨_,fU _ _,?_⟩;simp[a1];refine⟨_,fU _ _,?_⟩;simp[a2,a3];refine⟨_,fU _ _,?_⟩;simp[Mh hI.1,a4];refine⟨_,fU _ _,?_⟩;simp[Mh hI.2,a5];refine⟨_,fU _ _,?_⟩;simp[aeW,a6,hw]
 ·have hI:=h.rate _ (bW hk);rw[hb];simp[zK,hk] at ho;simp[Wy,HO,hk];refine⟨_,fU _ _,?_⟩;cases e1:aE r.rates[k].fr r.currencies.length
  ·simp
  simp;refine⟨_,fU _ _,?_⟩;cases e2:aE r.rates[k].to r.currencies.length
  ·simp
  by_cases e3:r.rates[k].fr=r.rates[k].to
  ·simp[e3]
  simp[e3];refine⟨_,fU _ _,?_⟩;rw[Mh hI.1 _ (by omega)];cases e4:wi r.rates[k].num 1 1073741824
  ·simp
  simp;refine⟨_,fU _ _,?_⟩;rw[Mh hI.2 _ (by omega)];cases e5:wi r.rates[k].den 1 1073741824
  ·simp
  simp;refine⟨_,fU _ _,?_⟩;rw[aeW];simp[ho e1 e2 e3 e4 e5]
 ·rw[hj];simp[Wy,HO];by_cases h1:20<r.halts.length
  ·have cJ:(20:Int)<r.halts.length:=by omega
   have RU:¬r.halts.length≤20:=by omega
   simp[h1,cJ,RU]
  have cJ:¬(20:Int)<r.halts.length:=by omega
  simp[h1,cJ];refine gA r.halts.length (vA r) (fun k=>[.int 0,.int k]) (fun _=>[]) ?_ (fun k hk ho=>?_) (fun k hk ho hb=>?_) (fun hj=>?_)
  ·simp
  ·have hw:=bu hk (by omega);simp[vA,wi,hk] at ho;obtain⟨⟨a1,a2⟩,a3⟩:=ho;have b1:¬r.halts[k].fr<0:=by omega
   have b2:¬r.halts[k].to<r.halts[k].fr:=by omega
   have b3:¬100000<r.halts[k].to:=by omega
   simp[Wz,HP,hk];refine⟨_,fU _ _,?_⟩;simp[a1,b1,b2,b3,hw]
  ·rw[hb];simp[vA,wi,hk] at ho;simp[Wz,HP,hk];refine⟨_,fU _ _,?_⟩;cases e1:aE r.halts[k].order r.orders.length
   ·simp
   have:=ho e1;by_cases b1:r.halts[k].fr<0
   ·simp[b1]
   by_cases b2:r.halts[k].to<r.halts[k].fr
   ·simp[b1,b2]
   have b3:100000<r.halts[k].to:=this (by omega) (by omega);simp[b1,b2,b3]
  ·rw[hj];simp[Wz,HP]
theorem aw8 (r:Realm)(h:Small r):aj T 56 [aT r] (.int (pZ r)):=by
 refine .of_tree rfl (lA 138 (by kernel_rfl)) aAo ?_;have hu:=h.rates;have hh:=h.halts;have hc:=tD r.currencies.length (by have:=h.cur;omega);have hor:=tD r.orders.length (by have:=h.orders;omega);simp[YG,pZ];by_cases h0:100<r.rates.length
 ·have fi:(100:Int)<r.rates.length:=by omega
  have yn:¬r.rates.length≤100:=by omega
  simp[h0,fi,yn]
 have fi:¬(100:Int)<r.rates.length:=by omega
 simp[h0,fi];refine gA r.rates.length (zK r) (fun k=>[.int 0,.int k]) (fun _=>[]) ?_ (fun k hk ho=>?_) (fun k hk ho hb=>?_) (fun hj=>?_)
 ·simp
 ·have hw:=bu hk (by omega);simp[zK,hk,oe] at ho;obtain⟨⟨⟨⟨⟨a1,a2⟩,a3⟩,a4⟩,a5⟩,a6⟩:=ho;simp[Wm,Hx,hk,hc];refine⟨_,cY _ _ _,?_⟩;simp[a1,hc];refine⟨_,cY _ _ _,?_⟩;simp[a2,a3];refine⟨_,cY _ _ _,?_⟩;simp[a4];refine⟨_,cY _ _ _,?_⟩;simp[a5];refine⟨_,cY _ _ _,?_⟩;simp[a6,hw]
 ·rw[hb];simp[zK,hk,oe] at ho;simp[Wm,Hx,hk,hc];refine⟨_,cY _ _ _,?_⟩;cases e1:wi r.rates[k].fr 0 ((r.currencies.length:Int)-1)
  ·simp
  simp[hc];refine⟨_,cY _ _ _,?_⟩;cases e2:wi r.rates[k].to 0 ((r.currencies.length:Int)-1)
  ·simp
  by_cases e3:r.rates[k].fr=r.rates[k].to
  ·simp[e3]
  simp[e3];refine⟨_,cY _ _ _,?_⟩;cases e4:wi r.rates[k].num 1 1073741824
  ·simp
  simp;refine⟨_,cY _ _ _,?_⟩;cases e5:wi r.rates[k].den 1 1073741824
  ·simp
  simp;refine⟨_,cY _ _ _,?_⟩;simp[ho e1 e2 e3 e4 e5]
 ·rw[hj];simp[Wm,Hx];by_cases h1:20<r.halts.length
  ·have cJ:(20:Int)<r.halts.length:=by omega
   have RU:¬r.halts.length≤20:=by omega
   simp[h1,cJ,RU]
  have cJ:¬(20:Int)<r.halts.length:=by omega
  simp[h1,cJ];refine gA r.halts.length (vA r) (fun k=>[.int 0,.int k]) (fun _=>[]) ?_ (fun k hk ho=>?_) (fun k hk ho hb=>?_) (fun hj=>?_)
  ·simp
  ·have hw:=bu hk (by omega);simp[vA,hk,oe] at ho;obtain⟨⟨a1,a2⟩,a3⟩:=ho;have b3:¬100000<r.halts[k].to:=by omega
   simp[Wn,Hy,hk,hor];refine⟨_,cY _ _ _,?_⟩;simp[a1];refine⟨_,cY _ _ _,?_⟩;simp[a2,b3,hw]
  ·rw[hb];simp[vA,hk,oe] at ho;simp[Wn,Hy,hk,hor];refine⟨_,cY _ _ _,?_⟩;cases e1:wi r.halts[k].order 0 ((r.orders.length:Int)-1)
   ·simp
   simp;refine⟨_,cY _ _ _,?_⟩;cases e2:wi r.halts[k].fr 0 r.halts[k].to
   ·simp
   simp[ho e1 e2]
  ·rw[hj];simp[Wn,Hy]
end Rm
namespace Rm
open Go Go.Proofs Cx
def fp:List Int→Int
 |[]=>0
 |x::l=>if x=0 then fp l else x
theorem OE:∀{l:List Int},fp l=0↔∀x,x∈l→x=0
 |[]=>by simp[fp]
 |x::l=>by
  simp only[fp,cC,forall_eq_or_imp];by_cases h:x=0
  ·simp[h,OE (l:=l)]
  ·simp[h]
def nQ (r:Realm)(i:Nat):Bool:=aE (r.firms.getD i default).city r.cities.length&&aE (r.firms.getD i default).group r.groups.length
def qw (r:Realm)(i:Nat):Bool:=oS r (r.cities.getD i default)
def ot (r:Realm)(i:Nat):Bool:=rj (r.orders.getD i default)
def vx (r:Realm)(i:Nat):Bool:=aE (r.groups.getD i default).grade 10
def sr (r:Realm):Int:=if 20<r.groups.length then 6 else if eP r.groups.length (vx r) then 0 else 1
def jf (r:Realm):Int:=fp [eM r.currencies 8 (fun _=>true),eM (fG r) 40 (qw r),sr r,eM (eY r) 200 (nQ r),eM (eZ r) 20 (ot r),w9 r,pZ r]
theorem amz (i:Int):aj T 132 [.int i] (.bool true):=by
 refine .of_tree rfl (lA 73 (by kernel_rfl)) aAH ?_;simp[YZ]
theorem amA (r:Realm)(h:Small r)(i:Nat)(hi:i<r.cities.length):aj T 133 [.int i,.ref (aT r)] (.bool (qw r i)):=by
 refine .of_tree rfl (lA 74 (by kernel_rfl)) aAI ?_;obtain⟨h1,h2,h3,h4⟩:=h.city _ (bW hi);simp[Za,hi,qw];exact axD r r.cities[i] (by omega) (by omega) (by omega)
theorem amB (r:Realm)(i:Nat)(hi:i<r.firms.length):aj T 136 [.int i,.ref (aT r)] (.bool (nQ r i)):=by
 refine .of_tree rfl (lA 77 (by kernel_rfl)) aAJ ?_;simp[Zb,hi,nQ];refine⟨_,fU _ _,?_⟩;simp[hi];cases e1:aE r.firms[i].city r.cities.length<;>simp;exact fU _ _
theorem amC (r:Realm)(h:Small r)(i:Nat)(hi:i<r.orders.length):aj T 137 [.int i,.ref (aT r)] (.bool (ot r i)):=by
 refine .of_tree rfl (lA 78 (by kernel_rfl)) aAK ?_;obtain⟨h1,h2⟩:=h.order _ (bW hi);simp[Zc,hi,ot];exact axI r.orders[i] (by omega) (by omega)
theorem WY (r:Realm)(h:Small r):aj T 94 [aT r] (.int (jf r)):=by
 refine .of_tree rfl (lA 66 (by kernel_rfl)) aAL ?_;have g1:=h.cur;have g2:=h.cities;have g3:=h.firms;have g4:=h.orders;have g5:=h.groups;simp[YY];refine⟨_,axH r (by omega) (by omega) (by omega),?_⟩;simp;refine⟨_,Ot r.currencies 8 132 [] (fun _=>true) (fun i _=>amz _) (by omega),?_⟩;unfold jf;generalize e1:eM r.currencies 8 (fun _=>true)=x1;by_cases z1:x1=0
 case neg=>simp[z1,fp]
 simp[z1,fp];refine⟨_,Ot (fG r) 40 133 [.ref (aT r)] (qw r) (fun i hi=>amA r h i (by simpa [fG] using hi)) (by simp[fG];omega),?_⟩;generalize e2:eM (fG r) 40 (qw r)=x2;by_cases z2:x2=0
 case neg=>simp[z2]
 simp[z2];by_cases z3:20<r.groups.length
 ·have z3':(20:Int)<r.groups.length:=by omega
  simp[z3',sr,z3]
 have z3':¬(20:Int)<r.groups.length:=by omega
 simp[z3',sr,z3];refine gA r.groups.length (vx r) (fun k=>[.int 0,.int k]) (fun _=>[]) ?_ (fun k hk ho=>?_) (fun k hk ho hb=>?_) (fun hj=>?_)
 ·simp
 ·have hw:=bu hk (by omega);simp[vx,hk] at ho;simp[Ws,HF,hk];refine⟨_,fU _ _,?_⟩;simp[ho,hw]
 ·simp[vx,hk] at ho;rw[hb];simp[Ws,HF,hk];refine⟨_,fU _ _,?_⟩;simp[ho]
 ·rw[hj];simp[Ws,HF];refine⟨_,Ot (eY r) 200 136 [.ref (aT r)] (nQ r) (fun i hi=>amB r i (by simpa [eY] using hi)) (by simp[eY];omega),?_⟩;generalize e4:eM (eY r) 200 (nQ r)=x4;by_cases z4:x4=0
  case neg=>simp[z4]
  simp[z4];refine⟨_,Ot (eZ r) 20 137 [.ref (aT r)] (ot r) (fun i hi=>amC r h i (by simpa [eZ] using hi)) (by simp[eZ];omega),?_⟩;generalize e5:eM (eZ r) 20 (ot r)=x5;by_cases z5:x5=0
  case neg=>simp[z5]
  simp[z5];refine⟨_,axK r h,?_⟩;generalize e6:w9 r=x6;by_cases z6:x6=0
  case neg=>simp[z6]
  simp[z6];have e7:(if pZ r=0 then 0 else pZ r)=pZ r:=by split<;>simp_all
  rw[e7];exact axJ r h
theorem aoJ (l:List ByteArray)(k:Nat):kA l (fun _=>true) k=iw l k:=by
 unfold kA;by_cases h:iw l k=0<;>simp[h]
theorem BO {l:List ByteArray}{g:Nat→Bool}{k:Nat}(h:kA l g k=0):iw l k=0∧g k=true:=by
 unfold kA at h;by_cases h1:iw l k=0
 ·simp[h1] at h;exact⟨h1,h⟩
 ·simp[h1] at h
theorem RH {l:List ByteArray}{g:Nat→Bool}{k:Nat}(h:kA l g k≠0):(iw l k≠0∧kA l g k=iw l k)∨(iw l k=0∧g k=false∧kA l g k=1):=by
 unfold kA at h ⊢;by_cases h1:iw l k=0
 ·simp[h1] at h ⊢;simp[h]
 ·simp[h1]
theorem aw5 (r:Realm)(h:Small r):aj T 52 [aT r] (.int (fp [eM r.currencies 8 (fun _=>true),eM (fG r) 40 (qw r)])):=by
 refine .of_tree rfl (lA 126 (by kernel_rfl)) aAk ?_;have g1:=h.cur;have g2:=h.cities;have g4:=h.orders;simp[YB];unfold eM;by_cases z1:(8:Int)<r.currencies.length
 ·simp[z1,fp]
 simp[z1,fp];refine p6 r.currencies.length (kA r.currencies (fun _=>true)) (fun k=>[.int 0,.int k]) (fun _=>[]) ?_ (fun k hk ho=>?_) (fun k hk ho hb=>?_) (fun hj=>?_)
 ·simp
 ·have hw:=bu hk (by omega);simp[Wh,Hs,hk];refine⟨_,G3 _ k hk (by omega),?_⟩;simp[(BO ho).1,hw]
 ·rw[hb];simp[Wh,Hs,hk,ho];rw[aoJ];exact G3 _ k hk (by omega)
 ·rw[hj];simp[Wh,Hs];have hlen:(fG r).length=r.cities.length:=by simp[fG]
  rw[hlen];by_cases z2:(40:Int)<r.cities.length
  ·simp[z2]
  simp[z2];have key:∀k (hk:k<r.cities.length),((fG r).take k).length=k∧D.list (List.take k (List.map str (fG r))++[str r.cities[k].name])=strs ((fG r).take (k+1))∧
     aj T 90 [strs ((fG r).take (k+1)),.int k] (.int (iw (fG r) k))∧aj T 91 [aT r,gL r.cities[k]] (.bool (qw r k)):=by
   intro k hk;have bp:k<(fG r).length:=by omega
   have hg:(fG r)[k]=r.cities[k].name:=by simp[fG]
   have hs:(fG r).take (k+1)=(fG r).take k++[(fG r)[k]]:=il bp;have hn:=G3 ((fG r).take (k+1)) k (by rw[ej];omega) (by rw[ej];omega);rw[Ue _ _ _ (by omega)] at hn;obtain⟨c1,c2,c3,c4⟩:=h.city _ (bW hk);have hc:=aw3 r r.cities[k] (by omega) (by omega) (by omega) (by omega) (by omega) c4;rw[amI] at hc;exact⟨by rw[ej];omega,by rw[hs,hg];simp[strs],hn,by simpa [qw,hk] using hc⟩
  refine p6 r.cities.length (kA (fG r) (qw r)) (fun k=>[.int 0,.none,.int k]) (fun k=>[strs ((fG r).take k)]) ?_ (fun k hk ho=>?_) (fun k hk ho hb=>?_) (fun hj=>?_)
  ·simp[strs]
  ·have hw:=bu hk (by omega);obtain⟨hl,dZ,hn,hc⟩:=key k hk;obtain⟨o1,o2⟩:=BO ho;rw[o1] at hn;rw[o2] at hc;simp[Wi,Ht,hk,hl,dZ,ayF];refine⟨by omega,_,hn,?_⟩;simp[hk];refine⟨_,hc,?_⟩;simp[hw]
  ·rw[hb];obtain⟨hl,dZ,hn,hc⟩:=key k hk;simp[Wi,Ht,hk,hl,dZ,ho];refine⟨by omega,_,hn,?_⟩;rcases RH ho with⟨o1,o2⟩|⟨o1,o2,o3⟩
   ·simp[o1,o2]
   ·rw[o2] at hc;simp[o1,o3,hk];refine⟨_,hc,?_⟩;simp
  ·rw[hj];simp[Wi,Ht]
theorem aw6 (r:Realm)(h:Small r):aj T 53 [aT r] (.int (fp [sr r,eM (eY r) 200 (nQ r)])):=by
 refine .of_tree rfl (lA 134 (by kernel_rfl)) aAl ?_;have g1:=h.groups;have g2:=h.firms;have g3:=h.cities;have w3:=tD r.cities.length (by omega);have w1:=tD r.groups.length (by omega);simp[YC];by_cases z1:20<r.groups.length
 ·have z1':(20:Int)<r.groups.length:=by omega
  simp[z1',sr,z1,fp]
 have z1':¬(20:Int)<r.groups.length:=by omega
 simp[z1',sr,z1,fp];refine gA r.groups.length (vx r) (fun k=>[.int 0,.int k]) (fun _=>[]) ?_ (fun k hk ho=>?_) (fun k hk ho hb=>?_) (fun hj=>?_)
 ·simp
 ·have hw:=bu hk (by omega);simp[vx,hk] at ho;have e:wi r.groups[k].grade 0 9=aE r.groups[k].grade 10:=by rw[tF];simp[wi,aE];omega
  simp[Wj,Hu,hk];refine⟨_,cY _ _ _,?_⟩;simp[e,ho,hw]
 ·simp[vx,hk] at ho;have e:wi r.groups[k].grade 0 9=aE r.groups[k].grade 10:=by rw[tF];simp[wi,aE];omega
  rw[hb];simp[Wj,Hu,hk];refine⟨_,cY _ _ _,?_⟩;simp[e,ho]
 ·rw[hj];simp[Wj,Hu];unfold eM;have hlen:(eY r).length=r.firms.length:=by simp[eY]
  rw[hlen];by_cases z2:(200:Int)<r.firms.length
  ·simp[z2]
  simp[z2];have key:∀k (hk:k<r.firms.length),((eY r).take k).length=k∧D.list (List.take k (List.map str (eY r))++[str r.firms[k].name])=strs ((eY r).take (k+1))∧
     aj T 90 [strs ((eY r).take (k+1)),.int k] (.int (iw (eY r) k))∧nQ r k=(wi r.firms[k].city 0 ((r.cities.length:Int)-1)&&wi r.firms[k].group 0 ((r.groups.length:Int)-1)):=by
   intro k hk;have bp:k<(eY r).length:=by omega
   have hg:(eY r)[k]=r.firms[k].name:=by simp[eY]
   have hs:(eY r).take (k+1)=(eY r).take k++[(eY r)[k]]:=il bp;have hn:=G3 ((eY r).take (k+1)) k (by rw[ej];omega) (by rw[ej];omega);rw[Ue _ _ _ (by omega)] at hn;exact⟨by rw[ej];omega,by rw[hs,hg];simp[strs],hn,by simp[nQ,hk,oe]⟩
  refine p6 r.firms.length (kA (eY r) (nQ r)) (fun k=>[.int 0,.none,.int k]) (fun k=>[strs ((eY r).take k)]) ?_ (fun k hk ho=>?_) (fun k hk ho hb=>?_) (fun hj=>?_)
  ·simp[strs]
  ·have hw:=bu hk (by omega);obtain⟨hl,dZ,hn,hc⟩:=key k hk;obtain⟨o1,o2⟩:=BO ho;rw[o1] at hn;rw[o2] at hc;have hc':=Bool.and_eq_true_iff.1 hc.symm;simp[Wk,Hv,hk,hl,dZ];refine⟨by omega,_,hn,?_⟩;simp[hk,w3];refine⟨_,cY _ _ _,?_⟩;simp[hc'.1,hk,w1];refine⟨_,cY _ _ _,?_⟩;simp[hc'.2,hw]
  ·rw[hb];obtain⟨hl,dZ,hn,hc⟩:=key k hk;simp[Wk,Hv,hk,hl,dZ,ho];refine⟨by omega,_,hn,?_⟩;rcases RH ho with⟨o1,o2⟩|⟨o1,o2,o3⟩
   ·simp[o1,o2]
   ·rw[o2] at hc;simp[o1,o3,hk,w3];refine⟨_,cY _ _ _,?_⟩;cases e1:wi r.firms[k].city 0 ((r.cities.length:Int)-1)
    ·simp
    rw[e1,Af] at hc;simp[hk,w1];refine⟨_,cY _ _ _,?_⟩;simp[←hc]
  ·rw[hj];simp[Wk,Hv]
theorem aw7 (r:Realm)(h:Small r):aj T 54 [aT r] (.int (eM (eZ r) 20 (ot r))):=by
 refine .of_tree rfl (lA 135 (by kernel_rfl)) aAn ?_;have g2:=h.orders;simp[YE];unfold eM;have hlen:(eZ r).length=r.orders.length:=by simp[eZ]
 rw[hlen];by_cases z2:(20:Int)<r.orders.length
 ·simp[z2]
 simp[z2];have key:∀k (hk:k<r.orders.length),((eZ r).take k).length=k∧D.list (List.take k (List.map str (eZ r))++[str r.orders[k].name])=strs ((eZ r).take (k+1))∧
  aj T 90 [strs ((eZ r).take (k+1)),.int k] (.int (iw (eZ r) k))∧aj T 93 [j3 r.orders[k]] (.bool (ot r k)):=by
  intro k hk;have bp:k<(eZ r).length:=by omega
  have hg:(eZ r)[k]=r.orders[k].name:=by simp[eZ]
  have hs:(eZ r).take (k+1)=(eZ r).take k++[(eZ r)[k]]:=il bp;have hn:=G3 ((eZ r).take (k+1)) k (by rw[ej];omega) (by rw[ej];omega);rw[Ue _ _ _ (by omega)] at hn;obtain⟨c1,c2⟩:=h.order _ (bW hk);exact⟨by rw[ej];omega,by rw[hs,hg];simp[strs],hn,by simpa [ot,hk] using aw4 r.orders[k] (by omega) (by omega)⟩
 refine p6 r.orders.length (kA (eZ r) (ot r)) (fun k=>[.int 0,.none,.int k]) (fun k=>[strs ((eZ r).take k)]) ?_ (fun k hk ho=>?_) (fun k hk ho hb=>?_) (fun hj=>?_)
 ·simp[strs]
 ·have hw:=bu hk (by omega);obtain⟨hl,dZ,hn,hc⟩:=key k hk;obtain⟨o1,o2⟩:=BO ho;rw[o1] at hn;rw[o2] at hc;simp[Wl,Hw,hk,hl,dZ];refine⟨by omega,_,hn,?_⟩;simp[hk];refine⟨_,hc,?_⟩;simp[hw]
 ·rw[hb];obtain⟨hl,dZ,hn,hc⟩:=key k hk;simp[Wl,Hw,hk,hl,dZ,ho];refine⟨by omega,_,hn,?_⟩;rcases RH ho with⟨o1,o2⟩|⟨o1,o2,o3⟩
  ·simp[o1,o2]
  ·rw[o2] at hc;simp[o1,o3,hk];refine⟨_,hc,?_⟩;simp
 ·rw[hj];simp[Wl,Hw]
theorem aw0 (r:Realm)(h:Small r):aj T 24 [aT r] (.int (jf r)):=by
 refine .of_tree rfl (lA 125 (by kernel_rfl)) aAc ?_
 have e:jf r=fp [fp [eM r.currencies 8 (fun _=>true),eM (fG r) 40 (qw r)],fp [sr r,eM (eY r) 200 (nQ r)],eM (eZ r) 20 (ot r),w9 r,pZ r]:=by
  unfold jf;simp only[fp];split<;>(try split)<;>(try split)<;>(try split)<;>simp_all
 rw[e];simp[Yt];refine⟨_,aw5 r h,?_⟩;have h1:=aw6 r h;generalize fp [eM r.currencies 8 (fun _=>true),eM (fG r) 40 (qw r)]=x1 at*;generalize fp [sr r,eM (eY r) 200 (nQ r)]=x2 at*;have h2:=aw7 r h;generalize eM (eZ r) 20 (ot r)=x3 at*;have h3:=aw9 r h;generalize w9 r=x4 at*;have h4:=aw8 r h;generalize pZ r=x5 at*;by_cases z1:x1=0
 case neg=>simp[z1,fp]
 simp[z1,fp];refine⟨_,h1,?_⟩;by_cases z2:x2=0
 case neg=>simp[z2]
 simp[z2];refine⟨_,h2,?_⟩;by_cases z3:x3=0
 case neg=>simp[z3]
 simp[z3];refine⟨_,h3,?_⟩;by_cases z4:x4=0
 case neg=>simp[z4]
 simp[z4];have e7:(if x5=0 then 0 else x5)=x5:=by split<;>simp_all
 rw[e7];exact h4
end Rm
namespace Rm
open Go Go.Proofs Cx
def kl:Nat→Tm→Int→Int
 |0,_,_=>-1
 |L+1,t,n=>t.args.foldl (fun m a=>if 0≤m then kl L a m else m) (n-1)
theorem size_le:∀(L:Nat) (t:Tm) (n:Int),0≤n→-1≤kl L t n∧kl L t n≤n
 |0,t,n,h=>by simp[kl];omega
 |L+1,t,n,h=>by
  have key:∀(l:List Tm) (m:Int),-1≤m→m≤n→-1≤l.foldl (fun m a=>if 0≤m then kl L a m else m) m∧l.foldl (fun m a=>if 0≤m then kl L a m else m) m≤n:=by
   intro l
   induction l with
   |nil=>intro m h1 h2;exact⟨h1,h2⟩
   |cons a l ih=>
    intro m h1 h2;simp only[xw];split
    ·rename_i hm;have:=size_le L a m hm;exact ih _ this.1 (by omega)
    ·exact ih _ h1 h2
  exact key _ _ (by omega) (by omega)
theorem ajU (L:Nat):∀(l:List Tm) (m:Int),m<0→l.foldl (fun m a=>if 0≤m then kl L a m else m) m=m
 |[],m,h=>rfl
 |a::l,m,h=>by simp only[xw];rw[if_neg (by omega)];exact ajU L l m h
theorem apU {α β:Type}(f:β→α→β)(b:β){l:List α}{k:Nat}(h:k<l.length):(l.take (k+1)).foldl f b=f ((l.take k).foldl f b) l[k]:=by
 rw[il h,rT];rfl
theorem apT {α β:Type}(f:β→α→β)(b:β)(l:List α)(k:Nat):l.foldl f b=(l.drop k).foldl f ((l.take k).foldl f b):=by
 rw[←rT,I1]
theorem _root_.Cx.Tm.OK.len {t:Tm}(h:t.OK):t.args.length≤9223372036854775807:=by cases h with|mk o n xs h1 h2 h3 h4=>exact h3
theorem _root_.Cx.Tm.OK.arg {t:Tm}(h:t.OK){a:Tm}(ha:a∈t.args):a.OK:=by cases h with|mk o n xs h1 h2 h3 h4=>exact h4 a ha
theorem aiZ:∀(L:Nat) (t:Tm) (n:Int),t.OK→0≤n→n≤1000→L≤1000→aj T 126 [dP t,.int n,.int L] (.int (kl L t n))
 |0,t,n,ht,h0,h1,hL=>by
  refine .of_tree rfl abA akg ?_;simp[Pd,kl]
 |L+1,t,n,ht,h0,h1,hL=>by
  refine .of_tree rfl abA akg ?_;have yX:IntKind.i64.wrap (n-1)=n-1:=aN (by omega);have hl:=ht.len;have kC:¬((L:Int)+1<1):=by omega
  simp[Pd,yX,kC]
  let g:Nat→Int:=fun k=>(t.args.take k).foldl (fun m a=>if 0≤m then kl L a m else m) (n-1)
  have gb:∀k,-1≤g k∧g k≤1000:=by
   intro k;have:g k=kl (L+1) (.mk 0 0 (t.args.take k)) n:=rfl;have:=size_le (L+1) (.mk 0 0 (t.args.take k)) n h0;omega
  refine .scan t.args.length (fun k=>0≤g k) (fun k=>[.int (g k),.int k]) (fun _=>[]) ?_ (fun k hk hj ho=>?_) (fun k hk hj ho=>?_) (fun hj=>?_)
  ·simp[g,yX]
  ·have hw:IntKind.i64.wrap ((k:Int)+1)=(k:Int)+1:=aN (by omega);have Cu:IntKind.i64.wrap (L:Int)=(L:Int):=aN (by omega);have hg:g (k+1)=kl L t.args[k] (g k):=by
    show(t.args.take (k+1)).foldl _ _=_;rw[apU _ _ hk];show(if 0≤g k then _ else _)=_;rw[if_pos ho]
   rw[hg];have jr:=aiZ L t.args[k] (g k) (ht.arg (bW hk)) ho (gb k).2 (by omega);generalize g k=m at*;simp[Wp,HA,hk,ho,Cu];refine⟨_,jr,?_⟩;simp[hw]
  ·have hf:kl (L+1) t n=g k:=by
    show t.args.foldl _ _=_;rw[apT _ _ _ k];exact ajU L _ _ (by show g k<0;omega)
   rw[hf];generalize g k=m at*;simp[Wp,HA,hk,ho]
  ·have hf:kl (L+1) t n=g t.args.length:=by
    show t.args.foldl _ _=(t.args.take t.args.length).foldl _ _;rw[DR]
   rw[hf];generalize g t.args.length=m at*;simp[Wp,HA]
theorem aiY (t:Tm)(ht:t.OK):aj T 89 [dP t] (.bool (decide (0≤kl 20 t 100))):=by
 refine .of_tree rfl (lA 123 (by kernel_rfl)) aAr ?_;simp[YJ];refine⟨_,aiZ 20 t 100 ht (by omega) (by omega) (by omega),?_⟩;simp
def sm (o:Order):Bool:=(decide (o.rules.length≤60)&&decide (o.choices.length≤60))&&eP o.rules.length (fun k=>decide (0≤kl 20 (o.rules.getD k default).term 100))
theorem ai0 (o:Order)(ho:o.OK):aj T 51 [j3 o] (.bool (sm o)):=by
 refine .of_tree rfl (lA 122 (by kernel_rfl)) aAt ?_;simp[YL];by_cases h1:(o.rules.length:Int)≤60
 case neg=>
  have cJ:(60:Int)<o.rules.length:=by omega
  have hf:sm o=false:=by
   have:decide (o.rules.length≤60)=false:=decide_eq_false (by omega);simp only[sm,this,rR]
  simp[cJ,hf]
 by_cases h2:(o.choices.length:Int)≤60
 case neg=>
  have cJ:(60:Int)<o.choices.length:=by omega
  have hf:sm o=false:=by
   have:decide (o.choices.length≤60)=false:=decide_eq_false (by omega);simp only[sm,this,rR,Ad]
  simp[cJ,hf]
 have cJ:¬(60:Int)<o.rules.length:=by omega
 have iP:¬(60:Int)<o.choices.length:=by omega
 have hf:sm o=eP o.rules.length (fun k=>decide (0≤kl 20 (o.rules.getD k default).term 100)):=by
  have e1:decide (o.rules.length≤60)=true:=decide_eq_true (by omega);have e2:decide (o.choices.length≤60)=true:=decide_eq_true (by omega);simp only[sm,e1,e2,Af]
 rw[hf];simp[cJ,iP];have hO:=ho.2.2;refine gA o.rules.length (fun k=>decide (0≤kl 20 (o.rules.getD k default).term 100)) (fun k=>[.bool false,.int k]) (fun _=>[]) ?_ (fun k hk ho=>?_) (fun k hk ho hb=>?_) (fun hj=>?_)
 ·simp
 ·have hw:=bu hk (by omega);simp[hk] at ho;simp[Wq,HC,hk];refine⟨_,aiY _ (hO _ (bW hk)).2,?_⟩;simp[ho,hw]
 ·simp only[aI] at hb;rw[hb];simp[hk] at ho;simp[Wq,HC,hk];refine⟨_,aiY _ (hO _ (bW hk)).2,?_⟩;simp[ho]
 ·simp only[aI] at hj;rw[hj];simp[Wq,HC]
def E2 (f:File):Bool:=decide ((f.signs.length:Int)≤50)&&decide ((f.alters.length:Int)≤10)&&decide ((f.acts.length:Int)≤110)&&decide ((f.facts.length:Int)≤220)
theorem axf (f:File):aj T 50 [cg f] (.bool (E2 f)):=by
 refine .of_tree rfl (lA 121 (by kernel_rfl)) aAq ?_;simp[YI,E2];by_cases h1:(f.signs.length:Int)≤50<;>by_cases h2:(f.alters.length:Int)≤10<;>by_cases h3:(f.acts.length:Int)≤110<;>by_cases h4:(f.facts.length:Int)≤220<;>
  simp[h1,h2,h3,h4]
end Rm
namespace Rm
open Go Go.Proofs Cx
def E0 (r:Realm)(k:Nat):Bool:=decide (((r.cities.getD k default).feasts.length:Int)≤70)&&decide (((r.cities.getD k default).shut.length:Int)≤210)&&decide (((r.cities.getD k default).rest.length:Int)≤8)
def E1 (r:Realm)(k:Nat):Bool:=decide (((r.orders.getD k default).choices.length:Int)≤40)&&decide (((r.orders.getD k default).rules.length:Int)≤40)
def Lb (r:Realm):Bool:=decide ((r.currencies.length:Int)<50)&&decide ((r.cities.length:Int)<50)&&decide ((r.groups.length:Int)<50)&&decide ((r.firms.length:Int)<210)&&decide ((r.orders.length:Int)<50)&&decide ((r.usances.length:Int)<110)&&decide ((r.rates.length:Int)<110)&&decide ((r.halts.length:Int)<50)
def qL (r:Realm):Bool:=eP (min r.cities.length 50) (E0 r)&&eP (min r.orders.length 50) (E1 r)&&Lb r
theorem aw1 (r:Realm)(hr:r.OK):aj T 49 [aT r] (.bool (qL r)):=by
 refine .of_tree rfl (lA 120 (by kernel_rfl)) aAd ?_;simp[Yu];refine gA (min r.cities.length 50) (E0 r) (fun k=>[.bool false,.int k]) (fun _=>[]) ?_ (fun k hk ho=>?_) (fun k hk ho hb=>?_) (fun hj=>?_)
 ·simp
 ·have bD:k<r.cities.length:=by omega
  have cB:k<50:=by omega
  have hw:=bu cB (by omega);simp[E0,bD] at ho;obtain⟨⟨a1,a2⟩,a3⟩:=ho;have b1:¬(70:Int)<r.cities[k].feasts.length:=by omega
  have b2:¬(210:Int)<r.cities[k].shut.length:=by omega
  have b3:¬(8:Int)<r.cities[k].rest.length:=by omega
  simp[Hm,zL,bD,cB,hw,b1,b2,b3];omega
 ·have bD:k<r.cities.length:=by omega
  have cB:k<50:=by omega
  have hf:qL r=false:=by simp only[qL,hb,rR]
  rw[hf];simp[E0,bD] at ho;by_cases b1:(70:Int)<r.cities[k].feasts.length
  ·simp[Hm,zL,bD,cB,b1];omega
  by_cases b2:(210:Int)<r.cities[k].shut.length
  ·simp[Hm,zL,bD,cB,b1,b2];omega
  have b3:(8:Int)<r.cities[k].rest.length:=by have:=ho (by omega) (by omega);omega
  simp[Hm,zL,bD,cB,b1,b2,b3];omega
 ·have hn:¬((min r.cities.length 50:Nat):Int)<r.cities.length∨¬((min r.cities.length 50:Nat):Int)<50:=by omega
  simp[Hm,zL];rw[if_neg (by omega)];refine gA (min r.orders.length 50) (E1 r) (fun k=>[.bool false,.int k]) (fun _=>[]) ?_ (fun k hk ho=>?_) (fun k hk ho hb=>?_) (fun FF=>?_)
  ·simp
  ·have bD:k<r.orders.length:=by omega
   have cB:k<50:=by omega
   have hw:=bu cB (by omega);simp[E1,bD] at ho;obtain⟨a1,a2⟩:=ho;have b1:¬(40:Int)<r.orders[k].choices.length:=by omega
   have b2:¬(40:Int)<r.orders[k].rules.length:=by omega
   simp[N9,Dg,bD,cB,hw,b1,b2];omega
  ·have bD:k<r.orders.length:=by omega
   have cB:k<50:=by omega
   have hf:qL r=false:=by simp only[qL,hb,rR,Ad]
   rw[hf];simp[E1,bD] at ho;by_cases b1:(40:Int)<r.orders[k].choices.length
   ·simp[N9,Dg,bD,cB,b1];omega
   have b2:(40:Int)<r.orders[k].rules.length:=by have:=ho (by omega);omega
   simp[N9,Dg,bD,cB,b1,b2];omega
  ·have hf:qL r=Lb r:=by simp only[qL,hj,FF,Af]
   rw[hf];simp[N9,Dg];rw[if_neg (by omega)];unfold Lb;by_cases c1:(r.currencies.length:Int)<50<;>simp[c1];by_cases c2:(r.cities.length:Int)<50<;>simp[c2];by_cases c3:(r.groups.length:Int)<50<;>simp[c3];by_cases c4:(r.firms.length:Int)<210<;>simp[c4];by_cases c5:(r.orders.length:Int)<50<;>simp[c5];by_cases c6:(r.usances.length:Int)<110<;>simp[c6];by_cases c7:(r.rates.length:Int)<110<;>simp[c7]
theorem Rz {r:Realm}(hr:r.OK)(h:qL r=true):Small r:=by
 simp only[qL,Lb,aw,decide_eq_true_eq,xP] at h;obtain⟨⟨h1,h2⟩,⟨⟨⟨⟨⟨⟨⟨c1,c2⟩,c3⟩,c4⟩,c5⟩,c6⟩,c7⟩,c8⟩⟩:=h;obtain⟨k1,⟨k2,k2'⟩,⟨k3,k3'⟩,⟨k4,k4'⟩,⟨k5,k5'⟩,⟨k6,k6'⟩,⟨k7,k7'⟩,⟨k8,k8'⟩⟩:=hr;refine⟨by omega,by omega,by omega,by omega,by omega,by omega,by omega,by omega,fun c hc=>?_,fun o ho=>?_,fun x hx=>?_⟩
 ·obtain⟨k,hk,rfl⟩:=fX hc;have:=h1 k (by omega);simp[E0,hk] at this;have:=k2' _ hc;exact⟨by omega,by omega,by omega,fun y hy=>this.2.2.2.1.2 y hy⟩
 ·obtain⟨k,hk,rfl⟩:=fX ho;have:=h2 k (by omega);simp[E1,hk] at this;omega
 ·have:=k7' x hx;exact⟨this.2.2.1,this.2.2.2.1⟩
def uk (r:Realm)(f:File):Bool:=(qL r&&E2 f)&&eP r.orders.length (fun k=>sm (r.orders.getD k default))
theorem ai1 (r:Realm)(f:File)(hr:r.OK):aj T 23 [aT r,cg f] (.bool (uk r f)):=by
 refine .of_tree rfl (lA 119 (by kernel_rfl)) aAu ?_;simp[YM];refine⟨_,aw1 r hr,?_⟩;cases e1:qL r
 ·simp[uk,e1]
 simp;refine⟨_,axf f,?_⟩;cases e2:E2 f
 ·simp[uk,e1,e2]
 have hs:=Rz hr e1;have ho:=hs.orders;have hf:uk r f=eP r.orders.length (fun k=>sm (r.orders.getD k default)):=by simp only[uk,e1,e2,Af]
 rw[hf];simp;have hO:=hr.2.2.2.2.1.2;refine gA r.orders.length (fun k=>sm (r.orders.getD k default)) (fun k=>[.bool false,.int k]) (fun _=>[]) ?_ (fun k hk ho=>?_) (fun k hk ho hb=>?_) (fun hj=>?_)
 ·simp
 ·have hw:=bu hk (by omega);simp[hk] at ho;simp[Wr,HE,hk];refine⟨_,ai0 _ (hO _ (bW hk)),?_⟩;simp[ho,hw]
 ·simp only[aI] at hb;rw[hb];simp[hk] at ho;simp[Wr,HE,hk];refine⟨_,ai0 _ (hO _ (bW hk)),?_⟩;simp[ho]
 ·simp only[aI] at hj;rw[hj];simp[Wr,HE]
def Fe (r:Realm)(f:File):Bool:=uk r f&&decide (jf r=0)
def qz (n:Int):Int:=min (max n (-1099511627776)) 1099511627776
theorem O2 (n:Int):aj T 229 [.int n] (.int (qz n)):=by
 refine .of_tree rfl (lA 48 (by kernel_rfl)) aBt ?_;simp[ZT,qz];by_cases h1:-1099511627776>n
 ·have:¬(1099511627776:Int)< -1099511627776:=by omega
  simp[h1];omega
 ·by_cases h2:(1099511627776:Int)<n
  ·simp[h1,h2];omega
  ·simp[h1,h2];omega
def nj (v:Int):Int×Bool:=if v<0∨19<v then(0,false) else if v<7 then(0,true) else(1,true)
theorem aj7 (v:Int):aj T 227 [.int v] (.tup [.int (nj v).1,.bool (nj v).2]):=by
 refine .of_tree rfl (lA 49 (by kernel_rfl)) aBp ?_;simp[ZP,nj];by_cases h1:v<0
 ·simp[h1]
 by_cases h2:19<v
 ·simp[h1,h2]
 by_cases h3:v<7
 ·simp[h1,h2,h3]
 ·simp[h1,h2,h3]
def Gp (t:Tm):Int×Int:=
 if 0<t.args.length then(0,2) else if t.op=0 then(if qz t.n≠t.n then(0,3) else(0,0)) else if t.op=1 then(if t.n<0∨1<t.n then(0,3) else(1,0)) else if(nj t.n).2=false then(0,10) else((nj t.n).1,0)
theorem ayS (t:Tm):aj T 225 [dP t] (.tup [.int (Gp t).1,.int (Gp t).2]):=by
 refine .of_tree rfl (lA 47 (by kernel_rfl)) aBu ?_;simp[ZU,Gp];by_cases h0:0<t.args.length
 ·have fi:(0:Int)<t.args.length:=by omega
  simp[h0,fi]
 simp[h0];by_cases h1:t.op=0
 ·simp[h1];refine⟨_,O2 _,?_⟩;by_cases h2:qz t.n=t.n<;>simp[h2]
 by_cases h2:t.op=1
 ·simp[h1,h2];by_cases h3:t.n<0<;>by_cases h4:1<t.n<;>simp[h3,h4]
 simp[h1,h2];refine⟨_,aj7 _,?_⟩;cases h3:(nj t.n).2<;>simp[h3]
def fq (op:Int):List Int×Int:=
 if op=3 then([1],1) else if op=4∨op=5 then([1,1],1) else if op=6 then([1,-1,-1],-1) else if op=7 then([0,0],1) else if op=8 then([-1,-1],1) else([0,0],0)
def EY (s:List Int×Int):D:=.agg [ints s.1,.int s.2]
@[simp] theorem aEc (s:List Int×Int):(EY s).cells=[ints s.1,.int s.2]:=_root_.id rfl
@[simp] theorem aEa (s:List Int×Int):(EY s).c 0=ints s.1:=_root_.id rfl
@[simp] theorem aEb (s:List Int×Int):(EY s).c 1=.int s.2:=_root_.id rfl
@[simp] theorem aIs (s:List Int×Int):D.agg [ints s.1,.int s.2]=EY s:=_root_.id rfl
@[simp] theorem aJh (x y:Int):wV (.int x) 0 (.int y)=.int y:=_root_.id rfl
theorem ayU (op:Int):aj T 226 [.int op] (EY (fq op)):=by
 refine .of_tree rfl (lA 50 (by kernel_rfl)) aBy ?_;simp[ZX,fq];by_cases h3:op=3
 ·simp[h3];rfl
 by_cases h4:op=4
 ·simp[h4];rfl
 by_cases h5:op=5
 ·simp[h5];rfl
 by_cases h6:op=6
 ·simp[h6];rfl
 by_cases h7:op=7
 ·simp[h7];rfl
 by_cases h8:op=8
 ·simp[h8];rfl
 simp[h3,h4,h5,h6,h7,h8];rfl
end Rm
namespace Rm
open Go Go.Proofs Cx
def fQ (f:Tm→Int):List Tm→Int→Int
 |[],n=>n
 |a::l,n=>if 60<n+f a then n+f a else fQ f l (n+f a)
def cX:Nat→Tm→Int
 |0,_=>61
 |L+1,t=>fQ (cX L) t.args 1
def dV (f:Tm→Int)(l:List Tm):Int:=(l.map f).sum
theorem MB {f:Tm→Int}{l:List Tm}{k:Nat}(h:k<l.length):dV f (l.take (k+1))=dV f (l.take k)+f l[k]:=by
 unfold dV;rw[Dx f h,List.sum_append];simp
theorem afP {f:Tm→Int}:∀{l:List Tm} {n:Int} {k:Nat},(hk:k<l.length)→(∀j,j<k→n+dV f (l.take (j+1))≤60)→60<n+dV f (l.take (k+1))→fQ f l n=n+dV f (l.take (k+1))
 |a::l,n,0,hk,_,h=>by
  simp[dV] at h ⊢;unfold fQ;rw[if_pos (by omega)]
 |a::l,n,k+1,hk,hj,h=>by
  have h0:=hj 0 (by omega);simp[dV] at h0;unfold fQ;rw[if_neg (by omega)];have e:∀j,n+dV f ((a::l).take (j+1+1))=n+f a+dV f (l.take (j+1)):=by intro j;simp[dV];omega
  rw[afP (l:=l) (k:=k) (by simpa using hk) (fun j mE=>by have:=hj (j+1) (by omega);rw[e] at this;exact this) (by rw[←e];exact h),e]
theorem afR {f:Tm→Int}:∀{l:List Tm} {n:Int},(∀j,j<l.length→n+dV f (l.take (j+1))≤60)→fQ f l n=n+dV f l
 |[],n,_=>by simp[fQ,dV]
 |a::l,n,hj=>by
  have h0:=hj 0 (by simp);simp[dV] at h0;unfold fQ;rw[if_neg (by omega)];have e:∀j,n+dV f ((a::l).take (j+1+1))=n+f a+dV f (l.take (j+1)):=by intro j;simp[dV];omega
  rw[afR (l:=l) (fun j gS=>by have:=hj (j+1) (by simpa using gS);rw[e] at this;exact this)];simp[dV];omega
theorem afQ {f:Tm→Int}(hf:∀a,1≤f a):∀{l:List Tm} {n:Int},n≤fQ f l n
 |[],n=>by simp[fQ]
 |a::l,n=>by
  unfold fQ;have:=hf a;split
  ·omega
  ·have:=afQ hf (l:=l) (n:=n+f a);omega
theorem zg:∀(L:Nat) (t:Tm),1≤cX L t
 |0,t=>by simp[cX]
 |L+1,t=>afQ (zg L)
theorem afS {f:Tm→Int}{B:Int}(hf:∀a,f a≤B)(hB:0≤B):∀{l:List Tm} {n:Int},n≤60→fQ f l n≤60+B
 |[],n,h=>by simp[fQ];omega
 |a::l,n,h=>by
  unfold fQ;have:=hf a;split
  ·omega
  ·exact afS hf hB (by omega)
theorem afU:∀(L:Nat) (t:Tm),cX L t≤61+60*L
 |0,t=>by simp[cX]
 |L+1,t=>by
  have:=afS (f:=cX L) (fun a=>afU L a) (by omega) (l:=t.args) (n:=1) (by omega);show fQ _ _ _≤_;omega
theorem afT {f:Tm→Int}(hf:∀a,1≤f a):∀{l:List Tm} {n:Int},fQ f l n≤60→(n:Int)+l.length≤60∧∀a,a∈l→f a≤60-n
 |[],n,h=>by simp[fQ] at h ⊢;exact h
 |a::l,n,h=>by
  unfold fQ at h;have:=hf a;split at h
  ·omega
  ·obtain⟨h1,h2⟩:=afT hf h;refine⟨by simp;omega,fun b hb=>?_⟩;rcases cC.1 hb with rfl|hb
   ·omega
   ·have:=h2 b hb;omega
theorem T9 {L:Nat}{t:Tm}(h:cX (L+1) t≤60):t.args.length≤59∧∀a,a∈t.args→cX L a≤60:=by
 obtain⟨h1,h2⟩:=afT (zg L) h;exact⟨by omega,fun a ha=>by have:=h2 a ha;omega⟩
theorem Xq:∀(L:Nat) (t:Tm) (lv:Int),t.OK→L≤8→lv=9-(L:Int)→aj T 217 [dP t,.int lv] (.int (cX L t))
 |0,t,lv,ht,hL,SC=>by
  refine .of_tree rfl abC aki ?_;subst SC;simp[Ph,cX]
 |L+1,t,lv,ht,hL,SC=>by
  refine .of_tree rfl abC aki ?_;have hl:=ht.len;have h8:¬(8<lv):=by omega
  have Cu:IntKind.i64.wrap (lv+1)=lv+1:=aN (by omega);simp[Ph,h8];refine .scan t.args.length (fun k=>1+dV (cX L) (t.args.take (k+1))≤60) (fun k=>[.int (1+dV (cX L) (t.args.take k)),.int k]) (fun _=>[]) ?_ (fun k hk hj ho=>?_) (fun k hk hj ho=>?_) (fun hj=>?_)
  ·simp[dV]
  all_goals try rw[MB hk] at ho
  ·have hw:IntKind.i64.wrap ((k:Int)+1)=(k:Int)+1:=aN (by omega);have jr:=Xq L t.args[k] (lv+1) (ht.arg (bW hk)) (by omega) (by omega);rw[MB hk];have hs:0≤dV (cX L) (t.args.take k):=by
    unfold dV;have:∀(l:List Tm),0≤(l.map (cX L)).sum:=by
     intro l
     induction l with
     |nil=>simp
     |cons a l ih=>have:=zg L a;simp;omega
    exact this _
   have jF:=zg L t.args[k];generalize dV (cX L) (t.args.take k)=m at*;generalize cX L t.args[k]=v at*;have uH:IntKind.i64.wrap (1+m+v)=1+m+v:=aN (by omega);have gU:¬60<1+m+v:=by omega
   simp[WV,H8,hk,Cu];refine⟨_,jr,?_⟩;simp[uH,gU,hw];omega
  ·have jr:=Xq L t.args[k] (lv+1) (ht.arg (bW hk)) (by omega) (by omega);have hf:cX (L+1) t=1+dV (cX L) (t.args.take (k+1)):=afP hk hj (by rw[MB hk];omega);rw[hf,MB hk];have hs:0≤dV (cX L) (t.args.take k)∧1+dV (cX L) (t.args.take k)≤60:=by
    constructor
    ·unfold dV;have:∀(l:List Tm),0≤(l.map (cX L)).sum:=by
       intro l
       induction l with
       |nil=>simp
       |cons a l ih=>have:=zg L a;simp;omega
     exact this _
    ·cases k with
     |zero=>simp[dV]
     |succ k=>exact hj k (by omega)
   have jF:=zg L t.args[k];have dG:=afU L t.args[k];generalize dV (cX L) (t.args.take k)=m at*;generalize cX L t.args[k]=v at*;have uH:IntKind.i64.wrap (1+m+v)=1+m+v:=aN (by omega);have gU:60<1+m+v:=by omega
   simp[WV,H8,hk,Cu];refine⟨_,jr,?_⟩;simp[uH,gU];omega
  ·have hf:cX (L+1) t=1+dV (cX L) t.args:=afR hj;rw[hf];simp[WV,H8]
def oh (ws ts:List Int):Nat→Int
 |0=>-1
 |k+1=>if ws.getD k 0=-1∧oh ws ts k=-1 then ts.getD k 0 else oh ws ts k
def pC (ws ts:List Int)(k:Nat):Bool:=if ws.getD k 0=-1 then decide (oh ws ts k=-1)||decide (ts.getD k 0=oh ws ts k) else decide (ts.getD k 0=ws.getD k 0)
def zi (t:Tm)(ks:List Int):Int×Int:=
 if t.op<0∨13<t.op then(0,1) else if t.op=0∨t.op=1∨t.op=2 then Gp t else
 if ks.length≠(fq t.op).1.length∨t.n≠0 then(0,2) else
 if eP (fq t.op).1.length (pC (fq t.op).1 ks)=false then(0,11) else if(fq t.op).2=-1 then(oh (fq t.op).1 ks (fq t.op).1.length,0) else((fq t.op).2,0)
def cE:Nat→Tm→Int×Int
 |0,_=>(0,0)
 |L+1,t=>if fM t.args.length (fun k=>(cE L (t.args.getD k default)).2)≠0 then(0,fM t.args.length (fun k=>(cE L (t.args.getD k default)).2)) else zi t (t.args.map fun a=>(cE L a).1)
theorem Ra (L:Nat)(t:Tm):cE (L+1) t=if fM t.args.length (fun k=>(cE L (t.args.getD k default)).2)≠0 then(0,fM t.args.length (fun k=>(cE L (t.args.getD k default)).2)) else zi t (t.args.map fun a=>(cE L a).1):=rfl
theorem Xd {α:Type}(A:List α)(z:α){k n:Nat}(hA:A.length=n)(hk:k<n):(A.take k++List.replicate (n-k) z).set k A[k]=A.take (k+1)++List.replicate (n-(k+1)) z:=by
 have h1:(A.take k).length=k:=by rw[ej];omega
 rw[List.set_append_right _ _ (by omega),h1,PV];have:n-k=(n-(k+1))+1:=by omega
 rw[this,List.replicate_succ,List.set_cons_zero,il (by omega),rS];rfl
theorem ayn (op:Int):(fq op).1.length≤3:=by
 unfold fq;repeat' split
 all_goals simp
theorem Xp:∀(L:Nat) (t:Tm),t.OK→cX L t≤60→aj T 218 [dP t] (.tup [.int (cE L t).1,.int (cE L t).2])
 |0,t,ht,hm=>by simp[cX] at hm
 |L+1,t,ht,hm=>by
  refine .of_tree rfl (lA 46 (by kernel_rfl)) aBr ?_;obtain⟨hl,hp⟩:=T9 hm;simp[ZR];refine⟨by omega,?_⟩;refine p6 t.args.length (fun k=>(cE L (t.args.getD k default)).2) (fun k=>[.int 0,.int 0,.int k]) (fun k=>[ints ((t.args.map fun a=>(cE L a).1).take k++List.replicate (t.args.length-k) 0)]) ?_ (fun k hk ho=>?_) (fun k hk ho hb=>?_) (fun hj=>?_)
  ·simp[ints]
  ·have hw:=bu hk (by omega);have dc:=bW hk;have jr:=Xp L t.args[k] (ht.arg dc) (hp _ dc);have hs:=Xd (t.args.map fun a=>(cE L a).1) 0 (n:=t.args.length) (by simp) hk;rw[←hs];have hlen:((t.args.map fun a=>(cE L a).1).take k++List.replicate (t.args.length-k) (0:Int)).length=t.args.length:=by simp;omega
   have hgk:(t.args.map fun a=>(cE L a).1)[k]'(by simpa using hk)=(cE L t.args[k]).1:=by simp
   rw[hgk];generalize (t.args.map fun a=>(cE L a).1).take k++List.replicate (t.args.length-k) (0:Int)=A at*;simp[hk] at ho;rw[ho] at jr;generalize (cE L t.args[k]).1=kd at*;simp[WT,H6,hk];refine⟨_,jr,?_⟩;simp[hlen,hk,hw,ints]
  ·have dc:=bW hk;have jr:=Xp L t.args[k] (ht.arg dc) (hp _ dc);have hf:cE (L+1) t=(0,(cE L (t.args.getD k default)).2):=by
    rw[Ra,hb,if_pos ho]
   rw[hf];simp[hk] at ho ⊢;simp[WT,H6,hk];refine⟨_,jr,?_⟩;simp[ho]
  ·have hf:cE (L+1) t=zi t (t.args.map fun a=>(cE L a).1):=by
    rw[Ra,hj];simp
   rw[hf]
   have e0:(t.args.map fun a=>(cE L a).1).take t.args.length++List.replicate (t.args.length-t.args.length) 0=t.args.map fun a=>(cE L a).1:=by
    rw[PV,xE (by simp)];simp
   rw[e0];have hkl:(t.args.map fun a=>(cE L a).1).length=t.args.length:=by simp
   generalize (t.args.map fun a=>(cE L a).1)=ks at*;simp[WT,H6];unfold zi;by_cases h1:t.op<0
   ·simp[h1]
   by_cases h2:13<t.op
   ·simp[h1,h2]
   simp[h1,h2];by_cases h3:t.op=0∨t.op=1∨t.op=2
   ·have fC:(t.op=0∨t.op=1)∨t.op=2:=by omega
    simp[h3,fC];refine⟨_,ayS t,?_⟩;simp
   have fC:¬((t.op=0∨t.op=1)∨t.op=2):=by omega
   simp[h3,fC];refine⟨_,ayU _,?_⟩;have hsl:=ayn t.op;generalize fq t.op=sh at*;simp;by_cases h4:ks.length=sh.1.length
   case neg=>
    have qM:¬((ks.length:Int)=sh.1.length):=by omega
    have Lq:¬t.args.length=sh.1.length:=by omega
    simp[h4,qM,Lq]
   have qM:(ks.length:Int)=sh.1.length:=by omega
   have Lq:t.args.length=sh.1.length:=by omega
   by_cases h5:t.n=0
   case neg=>simp[h4,qM,Lq,h5]
   simp[h4,qM,Lq,h5];refine gA sh.1.length (pC sh.1 ks) (fun k=>[.int 0,.int 0,.int (oh sh.1 ks k),.int k]) (fun _=>[]) ?_ (fun k hk ho=>?_) (fun k hk ho hb=>?_) (fun hj=>?_)
   ·simp[oh]
   ·have hw:=bu hk (by omega);have cB:k<ks.length:=by omega
    simp only[oh];unfold pC at ho;simp only[aI,aX hk,aX cB,kV] at ho ⊢;generalize oh sh.1 ks k=c at*;by_cases a1:sh.1[k]=-1
    ·by_cases a2:c=-1
     ·simp[Dl,wL,hk,cB,hw,ints,a1,a2]
     ·simp[a1,a2] at ho;simp[Dl,wL,hk,cB,hw,ints,a1,a2,ho]
    ·simp[a1] at ho;simp[Dl,wL,hk,cB,hw,ints,a1,ho]
   ·rw[hb];have cB:k<ks.length:=by omega
    unfold pC at ho;simp only[aI,aX hk,aX cB,kV] at ho;generalize oh sh.1 ks k=c at*;by_cases a1:sh.1[k]=-1
    ·by_cases a2:c=-1
     ·simp[a1,a2] at ho
     ·simp[a1,a2] at ho;simp[Dl,wL,hk,cB,ints,a1,a2,ho]
    ·simp[a1] at ho;simp[Dl,wL,hk,cB,ints,a1,ho]
   ·rw[hj];simp[Dl,wL];by_cases a1:sh.2=-1<;>simp[a1]
def oR (t:Tm):Int×Int:=if 60<cX 8 t then(0,6) else cE 8 t
theorem aj6 (t:Tm)(ht:t.OK):aj T 201 [dP t] (.tup [.int (oR t).1,.int (oR t).2]):=by
 refine .of_tree rfl (lA 44 (by kernel_rfl)) aBn ?_;simp[ZN,oR];refine⟨_,Xq 8 t 1 ht (by omega) (by omega),?_⟩;by_cases h:60<cX 8 t
 ·simp[h]
 simp[h];refine⟨_,Xp 8 t ht (by omega),?_⟩;simp
end Rm
