/-
  The functions of this seat, compiled (2).
-/
import Derived.Test.YtbemlocmcgcbdaaGreatDoorKAJ
import Derived.KernelRfl
set_option linter.defProp false
set_option linter.unusedVariables false
set_option maxRecDepth 100000
noncomputable section
namespace Rm
open Go Go.Proofs Cx
def BW:Option PC:=cF [2,3] [] Tryz.f105 105 [1,4,6]
def EO:Nat->PC:=bo BW
variable(b:Nat->PC)
def avT:PC:=.block 2 [2,50,51] [] (.loop [2,50] [] (b 0))
def avU:PC:=.block 0 [2,14,15] [] (.loop [2,14] [] (b 1))
def DT (b:Nat->PC):PT:=
 (.ite (ah nv fl)
 (.chk (ao fj nv)
 (.ite (.pick (peq (pc (.setc z3 0 (pn fj nv)) 0) (pc o4 0)) (peq (pc (.setc z3 0 (pn fj nv)) 1) (pc o4 1)) pF)
 (.ret (pi 5))
 (.next ⟨[(50,(aA nv (pi 1)))],[]⟩)))
 (.exit 2 ⟨[(51,(ah nv fl))],[]⟩))
def If:PT:=
 (.ite rQ
 (.blockS ⟨[(15,rQ)],[]⟩ 1 [2,3,4,16,17,18,19,20,21,22,23,24,25,26,34,35,39,40,44,45,46,47,48,49,50,51] [4]
 (.chk (ao bY bU)
 (.call ⟨[(3,bU)],[(4,DH)]⟩ [] 24 101 [(pc DH 0),my]
 (.call ⟨[(26,(.nt lg))],[]⟩ [(26,false)] 32 101 [(pc o4 1),my]
 (.ite (.pick (.pick (.pick kE pT (.nt tR)) pT (ah (pc o4 2) (pi 1))) pT (aR (pc o4 2) (pi 20000)))
 (.ret (pi 1))
 (.chk (.slok (pc o1 5) (pi 0) r3)
 (.brk ⟨[(50,(pi 0)),(49,(.llen (.slc (pc o1 5) (pi 0) r3))),(48,(.slc (pc o1 5) (pi 0) r3))],[]⟩
(avT b)
 (.next ⟨[],[]⟩)))))))
 (.next ⟨[(14,(aA bU (pi 1)))],[]⟩))
 (.exit 0 ⟨[(15,rQ)],[]⟩))
def ZL:PT:=
 (.ite (aR (.llen xe) (pi 100))
 (.ret (pi 6))
 (.brk ⟨[(14,(pi 0)),(13,(.llen xe)),(12,xe),(2,(pi 0))],[(1,(.mk [r0]))]⟩
(avU b)
 (.ret (pi 0))))
def aqc:PT×List (Shp×PT):=(ZL b,[(.lp 2 [2,50,51] [] [2,50] [],DT b),(.lp 0 [2,14,15] [] [2,14] [],If b)])
def Nb:BW.map told=some (aqc (bk BW)):=by kernel_rfl
def aC5:tree (ab BW)=ZL EO:=bH Nb
def Ou:round 2 [2,50,51] [] [2,50] [] (EO 0)=DT EO:=bm Nb 0 λ_=>rfl
def W4:round 0 [2,14,15] [] [2,14] [] (EO 1)=If EO:=bm Nb 1 λ_=>rfl
def BU:Option PC:=cF [2] [] Tryz.f106 106 [1,4,6]
def EN:Nat->PC:=bo BU
def avQ:PC:=.block 0 [2,14,15] [] (.loop [2,14] [] (b 0))
def avR:PC:=.block 2 [2,69,70] [] (.loop [2,69] [] (b 1))
def Ic (b:Nat->PC):PT:=
 (.ite rQ
 (.blockS ⟨[],[]⟩ 1 [2,4,16,17,18,19,20,21,22,23,24,25,33,34,40,41,47,48,54,55,60] [4]
 (.chk (ao bY bU)
 (.call ⟨[],[(4,(.setc z5 0 (pn bY bU)))]⟩ [] 23 101 [(pc (.setc z5 0 (pn bY bU)) 0),xf]
 (.call ⟨[(25,(.nt gI))],[]⟩ [(25,false)] 31 101 [(pc o4 1),xf]
 (.call ⟨[(41,(.pick (.pick gh pT (.nt tQ)) pT (peq (pc o4 0) (pc o4 1))))],[]⟩ [(41,false)] 45 101 [(bf (pc o4 2) (pi 1)),(pi 1073741824)]
 (.call ⟨[(48,(.pick tT pT (.nt rU)))],[]⟩ [(48,false)] 52 101 [(bf (pc o4 3) (pi 1)),(pi 1073741824)]
 (.call ⟨[(55,(.pick fj pT (.nt Hs)))],[]⟩ [(55,false)] 58 101 [(pc o4 4),(pi 100001)]
 (.ite (.pick vl pT (.nt DK))
 (.ret (pi 1))
 (.next ⟨[],[]⟩))))))))
 (.next ⟨[(14,(aA bU (pi 1)))],[]⟩))
 (.exit 0 ⟨[(15,rQ)],[]⟩))
def Ie (b:Nat->PC):PT:=
 (.ite (ah As r68)
 (.blockS ⟨[],[]⟩ 3 [2,6,71,72,73,74,75,76,77,78,79,80,84,85,91,92,96] [6]
 (.chk (ao xh As)
 (.call ⟨[],[(6,(.setc z3 0 (pn xh As)))]⟩ [] 78 101 [(pc (.setc z3 0 (pn xh As)) 0),qk]
 (.ite (.pick (.pick (.pick (.nt r78) pT (ah (pc o6 1) (pi 0))) pT (aR (pc o6 1) (pc o6 2))) pT (aR (pc o6 2) (pi 100000)))
 (.ret (pi 1))
 (.next ⟨[],[]⟩))))
 (.next ⟨[(69,(aA As (pi 1)))],[]⟩))
 (.exit 2 ⟨[(70,(ah As r68))],[]⟩))
def ZJ:PT:=
 (.ite (aR (.llen (pc (.mk [r0]) 6)) (pi 100))
 (.ret (pi 6))
 (.brk ⟨[(14,(pi 0)),(13,(.llen (pc (.mk [r0]) 6))),(12,(pc (.mk [r0]) 6)),(2,(pi 0))],[(1,(.mk [r0]))]⟩
(avQ b)
 (.ite (aR Al (pi 20))
 (.ret (pi 6))
 (.brk ⟨[(69,(pi 0)),(68,Al),(67,(pc o1 7))],[]⟩
(avR b)
 (.ret (pi 0))))))
def aqa:PT×List (Shp×PT):=(ZJ b,[(.lp 0 [2,14,15] [] [2,14] [],Ic b),(.lp 2 [2,69,70] [] [2,69] [],Ie b)])
def Na:BU.map told=some (aqa (bk BU)):=by kernel_rfl
def aC3:tree (ab BU)=ZJ EN:=bH Na
def W0:round 0 [2,14,15] [] [2,14] [] (EN 0)=Ic EN:=bm Na 0 λ_=>rfl
def W3:round 2 [2,69,70] [] [2,69] [] (EN 1)=Ie EN:=bm Na 1 λ_=>rfl
def K4:Option PC:=cF [4] [] Tryz.f62 62 []
def aar:PT:=
 (.ret V4)
def aip:K4.map told=some (aar,[]):=by kernel_rfl
def aDQ:tree (ab K4)=aar:=aT aip
def K5:Option PC:=cF [2,8,19,40] [] Tryz.f63 63 [1,3]
def aas:PT:=
 (.ite (.pick (peq (pc lX 0) (pi 0)) (peq (pc lX 0) (pi 0)) (peq (pc lX 0) (pi 4)))
 (.ret (.pick (peq (pc lX 1) (pi 0)) (peq (pc lX 2) (pi 0)) pF))
 (.ite (.pick (peq (pc lX 0) (pi 1)) (peq (pc lX 0) (pi 1)) (peq (pc lX 0) (pi 2)))
 (.ret (.pick (.pick (ba (pc lX 1) (pi 1)) (bz (pc lX 1) (pi 400)) pF) (.pick (peq (pc lX 2) (pi 0)) pT (peq (pc lX 2) (pi 1))) pF))
 (.ite (peq (pc lX 0) (pi 3))
 (.ret (.pick (.pick (ba (pc lX 1) (pc (.mk [r0]) 8)) (bz (pc lX 1) (pi 100000)) pF) (peq (pc lX 2) (pi 0)) pF))
 (.ret pF))))
def aiq:K5.map told=some (aas,[]):=by kernel_rfl
def aDR:tree (ab K5)=aas:=aT aiq
def yE:Option PC:=cF [6,7] [] Tryz.f64 64 [3,9]
def Qu:Nat->PC:=bo yE
def avH:PC:=.block 0 [6,7,13,14] [] (.loop [6,7,13] [] (b 0))
def xj (b:Nat->PC):PT:=
 (.ite (ah dh bY)
 (.chk (ao bL dh)
 (.ite (.pick (peq (pc (.setc z3 0 (pn bL dh)) 0) r1) (peq (pc (.setc z3 0 (pn bL dh)) 1) r2) pF)
 (.ret (.tup [(pc (.setc z3 0 (pn bL dh)) 2),(pi 0)]))
 (.next ⟨[(13,(aA dh (pi 1)))],[]⟩)))
 (.exit 0 ⟨[(14,(ah dh bY))],[]⟩))
def Pe:PT:=
 (.brk ⟨[(13,(pi 0)),(12,(.llen xe)),(11,xe),(7,(pi 0)),(6,(pi 0))],[]⟩
(avH b)
 (.ret (.tup [(pi 0),(pi 4)])))
def ap4:PT×List (Shp×PT):=(Pe b,[(.lp 0 [6,7,13,14] [] [6,7,13] [],xj b)])
def U8:yE.map told=some (ap4 (bk yE)):=by kernel_rfl
def akx:tree (ab yE)=Pe Qu:=bH U8
def DR:round 0 [6,7,13,14] [] [6,7,13] [] (Qu 0)=xj Qu:=bm U8 0 λ_=>rfl
def Bt:Option PC:=cF [6,8,9,76,92,98] [] Tryz.f31 31 [3,4,7,11]
def Qg:Nat->PC:=bo Bt
def au7:PC:=.block 0 [8,9,51,52] [] (.loop [8,9,51] [] (b 0))
def Od (b:Nat->PC):PT:=
 (.ite (ah oZ nv)
 (.chk (ao fl oZ)
 (.next ⟨[(8,(pc (.setc z9 0 (pn fl oZ)) 6)),(9,(.pick r9 pT (.pick (.pick (peq (pc o7 0) (pi 1)) (peq (pc (.setc z9 0 (pn fl oZ)) 0) (pi 1)) pF) (peq (pc (.setc z9 0 (pn fl oZ)) 1) (pc o7 1)) pF))),(51,(aA oZ (pi 1)))],[]⟩))
 (.exit 0 ⟨[(52,(ah oZ nv))],[]⟩))
def YL:PT:=
 (.chk (ao (pc (.mk [r1]) 15) r2)
 (.call ⟨[],[(7,qg),(4,(.mk [r1])),(3,(.mk [r0]))]⟩ [] 23 32 [(pc qg 1),(pi 0),(bf (pc (.mk [r1]) 14) (pi 1))]
 (.ite (.nt gI)
 (.ret (pi 15))
 (.call ⟨[],[]⟩ [] 31 32 [(pc o7 2),(pi 0),NF]
 (.call ⟨[(33,(.nt tQ))],[]⟩ [(33,false)] 40 32 [(pc o7 7),(pi 0),(bf (.llen (pc o3 1)) (pi 1))]
 (.ite (.pick tS pT (.nt rT))
 (.ret (pi 1))
 (.chk (.slok (pc o4 15) (pi 0) r2)
 (.brk ⟨[(51,(pi 0)),(50,(.llen (.slc (pc o4 15) (pi 0) r2))),(49,(.slc (pc o4 15) (pi 0) r2)),(9,pF),(8,(pc o4 8))],[]⟩
(au7 b)
 (.blockS ⟨[],[]⟩ 2 [6,76,77,78,79,80,81,82,91,92,93,94,95,96,97,98,99] []
 (.call ⟨[],[]⟩ [] 80 32 [(pc o7 6),r8,(pi 100000)]
 (.iteS ⟨[],[]⟩ (.pick (.nt Au) pT (.pick (peq r2 (pi 0)) (aF (pc o7 6) r8) pF)) [6,92,93,94,95,96,97,98,99] []
 (.ret (pi 13))
 (.call ⟨[],[]⟩ [] 96 65 [(ar 8 o3),(ar 19 o4),r2]
 (.ite (.nt Wp)
 (.ret (pi 14))
 (.ite r9
 (.ret (pi 5))
 (.next ⟨[],[]⟩))))
 (.next ⟨[],[]⟩)))
 (.ret (pi 0)))))))))))
def apE:PT×List (Shp×PT):=(YL b,[(.lp 0 [8,9,51,52] [] [8,9,51] [],Od b)])
def UN:Bt.map told=some (apE (bk Bt)):=by kernel_rfl
def aB3:tree (ab Bt)=YL Qg:=bH UN
def ajB:round 0 [8,9,51,52] [] [8,9,51] [] (Qg 0)=Od Qg:=bm UN 0 λ_=>rfl
def Ki:Option PC:=cF [6] [] Tryz.f32 32 []
def YK:PT:=
 (.ret (.pick (ba r0 r1) (bz r0 r2) pF))
def ahs:Ki.map told=some (YK,[]):=by kernel_rfl
def aB2:tree (ab Ki)=YK:=aT ahs
def Kh:Option PC:=cF [6,9,10,66,103,113,11,140,149] [] Tryz.f65 65 [3,4,7,8]
def YJ:PT:=
 (.chk (ao (pc (.mk [r1]) 15) r2)
 (.ite (.pick (.cb .neq (peq r2 (pi 0)) (peq (pc qg 0) (pi 0))) pT (.pick (aF (pc qg 0) (pi 2)) (aF (pc qg 4) (pi (-1))) pF))
 (.ret pF)
 (.ite (.pick (.pick (aF (pc qg 0) (pi 3)) (aF (pc qg 0) (pi 4)) pF) (aF (pc qg 3) (pi (-1))) pF)
 (.ret pF)
 (.call ⟨[(9,(.pick (peq (pc qg 5) (pi 0)) (peq (pc qg 8) (pi 0)) pF))],[(8,(.setc Pn 0 (ar 15 (.mk [r1])))),(7,qg),(4,(.mk [r1])),(3,(.mk [r0]))]⟩ [] 58 32 [(pc qg 5),(pi 1),rM]
 (.blockS ⟨[(65,(pc o7 0)),(10,(.pick DK (peq (pc o7 8) (pi 0)) pF))],[]⟩ 0 [6,66,67,103,104,113,114,140,141,149,150] []
 (.iteS ⟨[],[]⟩ (peq DL (pi 0)) [6,103,104,113,114,140,141,149,150] []
 (.ret (.pick (.pick (.pick (.pick (.pick (peq (pc o7 2) (pc o8 0)) (peq (pc o7 5) (pi 0)) pF) (peq (.ai .or .i64 (pc o7 8) (pi 1)) (pi 1)) pF) (peq (pc o7 1) (pi 0)) pF) (peq (pc o7 6) (pc o8 8)) pF) (peq (pc o7 7) (pc o8 9)) pF))
 (.iteS ⟨[],[]⟩ (peq DL (pi 1)) [6,113,114,140,141,149,150] []
 (.ret (.pick (peq (pc o7 2) (pc o8 1)) dg pF))
 (.iteS ⟨[],[]⟩ (peq DL (pi 2)) [6,140,141,149,150] []
 (.call ⟨[(11,(pi 6))],[]⟩ [] 121 32 [(pc o7 4),(pi (-1)),NF]
 (.call ⟨[(127,(.pick ay6 (peq (pc o7 5) (pi 0)) pF))],[]⟩ [(127,true)] 130 32 [(pc o7 8),(pi 0),(pi 7)]
 (.ret (.pick (.pick ay7 (.r 130) pF) (aF (.ai .and .i64 (pc o7 8) bL) bL) pF))))
 (.iteS ⟨[],[]⟩ (peq DL (pi 3)) [6,149,150] []
 (.call ⟨[(143,r9)],[]⟩ [(143,true)] 147 107 [(ar 19 o4),r2,(.lst [(pi 0),(pi 1),(pi 2),(pi 4)])]
 (.ret (.pick (.r 143) (.r 147) pF)))
 (.iteS ⟨[],[]⟩ (peq DL (pi 4)) [6] []
 (.call ⟨[(159,(.pick dg (aF (pc o7 2) (pc o8 1)) pF))],[]⟩ [(159,true)] 163 107 [(ar 19 o4),r2,(.lst [(pi 0),(pi 2)])]
 (.ret (.pick (.r 159) (.r 163) pF)))
 (.next ⟨[],[]⟩)
 (.next ⟨[],[]⟩))
 (.next ⟨[],[]⟩))
 (.next ⟨[],[]⟩))
 (.next ⟨[],[]⟩))
 (.next ⟨[],[]⟩))
 (.ret pF))))))
def ahr:Kh.map told=some (YJ,[]):=by kernel_rfl
def aB1:tree (ab Kh)=YJ:=aT ahr
def Kg:Option PC:=cF [6,7] [] Tryz.f107 107 [3]
def YH:PT:=
 (.chk (ao rN r1)
 (.call ⟨[(7,(pc (pn rN r1) 3))],[(3,(.mk [r0]))]⟩ [] 17 32 [(pc (pn rN r1) 3),(pi 0),(bf r1 (pi 1))]
 (.chk (.nt (.an (.an jn pT) (.nt (ao (pc o3 15) r1))))
 (.call ⟨[(18,jn)],[]⟩ [(18,true)] 27 108 [(ar 19 o3),r7,(pc (pn (pc o3 15) r1) 1)]
 (.chk (.nt (.an (.an (.pick cE dx pF) pT) (.nt (ao (pc o3 15) r7))))
 (.call ⟨[(29,(.pick cE dx pF))],[]⟩ [(29,true)] 37 50 [r2,(pc (pn (pc o3 15) r7) 0)]
 (.ret (.pick nu lY pF))))))))
def ahq:Kg.map told=some (YH,[]):=by kernel_rfl
def aBZ:tree (ab Kg)=YH:=aT ahq
def Kj:Option PC:=cF [6] [] Tryz.f108 108 [3]
def Pc:PT:=
 (.chk (.nt (.an (.an (.nt (peq r1 (pi 0))) pT) (.nt (ao rN r1))))
 (.ret (.pick (peq r1 (pi 0)) pT (peq (pc (pn rN r1) 1) r2))))
def aht:Kj.map told=some (Pc,[]):=by kernel_rfl
def aB4:tree (ab Kj)=Pc:=aT aht
def Br:Option PC:=cF [4,5,7] [] Tryz.f33 33 [2,3,6]
def Qe:Nat->PC:=bo Br
def au5:PC:=.block 0 [4,11,12] [] (.loop [4,11] [] (b 0))
def Oa (b:Nat->PC):PT:=
 (.ite (ah bL dg)
 (.blockS ⟨[],[]⟩ 1 [4,5,6,7,13,14,15,16,17,18,19,20,21,22,23,24,25,26,27,28,29,30,31,32,37,38,39,40,41,42,43,44,45,46,47,48,58,59,69,70,71,72,73] [6]
 (.chk (ao r9 bL)
 (.call ⟨[(5,bL)],[(6,(.setc z9 0 (pn r9 bL)))]⟩ [] 22 32 [(pc (.setc z9 0 (pn r9 bL)) 3),(pi 0),(bf (pc o3 14) (pi 1))]
 (.ite (.nt kD)
 (.ret (pi 15))
 (.call ⟨[],[]⟩ [] 30 32 [(pc o6 7),(pi 0),(bf (.llen (pc o2 1)) (pi 1))]
 (.call ⟨[(32,(.nt tP))],[]⟩ [(32,false)] 35 32 [(pc o6 0),(pi 0),(pi 9)]
 (.ite (.pick tR pT (.nt oY))
 (.ret (pi 1))
 (.call ⟨[],[]⟩ [] 41 66 [(ar 8 o2),(ar 19 o3),(ar 9 o6)]
 (.ite (.nt tT)
 (.ret (pi 14))
 (.ite (aF (pc o6 4) (pi (-1)))
 (.chk (ao (pc o3 15) (pc o6 4))
 (.ite (aR r5 (pi 0))
 (.chk (ao (pc o3 17) (bf r5 (pi 1)))
 (.call ⟨[],[]⟩ [] 72 32 [(pc o6 6),(.mx (.mx (pc o3 8) (pc (pn (pc o3 15) (pc o6 4)) 6)) (pc (pn (pc o3 17) (bf r5 (pi 1))) 6)),(pi 100000)]
 (.ite (.nt Hu)
 (.ret (pi 13))
 (.next ⟨[],[]⟩))))
 (.call ⟨[],[]⟩ [] 72 32 [(pc o6 6),(.mx (pc o3 8) (pc (pn (pc o3 15) (pc o6 4)) 6)),(pi 100000)]
 (.ite (.nt Hu)
 (.ret (pi 13))
 (.next ⟨[],[]⟩)))))
 (.ite (aR r5 (pi 0))
 (.chk (ao (pc o3 17) (bf r5 (pi 1)))
 (.call ⟨[],[]⟩ [] 72 32 [(pc o6 6),(.mx (pc o3 8) (pc (pn (pc o3 17) (bf r5 (pi 1))) 6)),(pi 100000)]
 (.ite (.nt Hu)
 (.ret (pi 13))
 (.next ⟨[],[]⟩))))
 (.call ⟨[],[]⟩ [] 72 32 [(pc o6 6),(pc o3 8),(pi 100000)]
 (.ite (.nt Hu)
 (.ret (pi 13))
 (.next ⟨[],[]⟩)))))))))))))
 (.next ⟨[(11,(aA bL (pi 1)))],[]⟩))
 (.exit 0 ⟨[(12,(ah bL dg))],[]⟩))
def YG:PT:=
 (.brk ⟨[(11,(pi 0)),(10,(.llen (pc (.mk [r1]) 17))),(9,(pc (.mk [r1]) 17)),(4,(pi 0))],[(3,(.mk [r1])),(2,(.mk [r0]))]⟩
(au5 b)
 (.ret (pi 0)))
def apC:PT×List (Shp×PT):=(YG b,[(.lp 0 [4,11,12] [] [4,11] [],Oa b)])
def UL:Br.map told=some (apC (bk Br)):=by kernel_rfl
def aBY:tree (ab Br)=YG Qe:=bH UL
def ajz:round 0 [4,11,12] [] [4,11] [] (Qe 0)=Oa Qe:=bm UL 0 λ_=>rfl
def Kf:Option PC:=cF [6,7,8,9,65,80,100,111] [] Tryz.f66 66 [3,4,5]
def YE:PT:=
 (.call ⟨[],[(5,(.mk [r2])),(4,(.mk [r1])),(3,(.mk [r0]))]⟩ [] 16 32 [(pc (.mk [r2]) 4),(pi 0),(bf (.llen (pc (.mk [r1]) 15)) (pi 1))]
 (.call ⟨[(17,cU)],[]⟩ [(17,true)] 23 108 [(ar 19 o4),(pc o5 4),(pc o5 3)]
 (.chk (.nt (.an (.an (.pick jn gI pF) pT) (.nt (ao (pc o4 15) (pc o5 4)))))
 (.call ⟨[(8,(.pick (.pick jn gI pF) (peq (pc (pn (pc o4 15) (pc o5 4)) 2) (pc o5 1)) pF)),(7,(.pick jn gI pF))],[]⟩ [] 44 32 [(pc o5 2),(pi 0),NF]
 (.call ⟨[(9,Ar)],[]⟩ [] 51 32 [(pc o5 1),(pi 0),NF]
 (.ite (.pick (.nt oZ) pT (.pick (aF (pc o5 0) (pi 4)) (aF (pc o5 8) (pi 0)) pF))
 (.ret pF)
 (.blockS ⟨[(64,(pc o5 0))],[]⟩ 0 [6,65,66,80,81,100,101,111,112] []
 (.iteS ⟨[],[]⟩ (.pick (peq mz (pi 0)) (peq mz (pi 0)) (.pick (peq mz (pi 1)) (peq mz (pi 1)) (peq mz (pi 2)))) [6,80,81,100,101,111,112] []
 (.ret (.pick (.pick r9 (peq (pc o5 4) (pi (-1))) pF) (peq (pc o5 5) (pi 0)) pF))
 (.iteS ⟨[],[]⟩ (.pick (peq mz (pi 3)) (peq mz (pi 3)) (.pick (peq mz (pi 5)) (peq mz (pi 5)) (peq mz (pi 4)))) [6,100,101,111,112] []
 (.call ⟨[(90,(.pick r9 (peq (pc o5 4) (pi (-1))) pF))],[]⟩ [(90,true)] 93 32 [(pc o5 5),(pi 0),rM]
 (.call ⟨[(95,(.pick r90 Hy pF))],[]⟩ [(95,true)] 98 32 [(pc o5 8),(pi 0),(pi 1)]
 (.ret (.pick r95 r98 pF))))
 (.iteS ⟨[],[]⟩ (peq mz (pi 6)) [6,111,112] []
 (.call ⟨[(106,(.pick r9 r8 pF))],[]⟩ [(106,true)] 109 32 [(pc o5 5),(pi 1),rM]
 (.ret (.pick Hp ay5 pF)))
 (.ite (peq mz (pi 9))
 (.ret (.pick (.pick (peq (pc o5 2) (pi (-1))) r8 pF) (peq (pc o5 5) (pi 0)) pF))
 (.next ⟨[],[]⟩))
 (.next ⟨[],[]⟩))
 (.next ⟨[],[]⟩))
 (.next ⟨[],[]⟩))
 (.ret (.pick (.pick (peq (pc o5 2) (pi (-1))) r7 pF) (peq (pc o5 5) (pi 0)) pF)))))))))
def ahp:Kf.map told=some (YE,[]):=by kernel_rfl
def aBX:tree (ab Kf)=YE:=aT ahp
def Bs:Option PC:=cF [2,3] [] Tryz.f34 34 [1,4,5,52]
def Qf:Nat->PC:=bo Bs
def au6:PC:=.block 0 [2,9,10] [] (.loop [2,9] [] (b 0))
def Oc (b:Nat->PC):PT:=
 (.ite (ah r9 r8)
 (.blockS ⟨[],[]⟩ 1 [2,3,4,11,12,13,14,15,16,17,18,27,28,33,34,35] [4]
 (.chk (ao r7 r9)
 (.call ⟨[(3,r9)],[(4,(.setc z3 0 (pn r7 r9)))]⟩ [] 16 32 [(pc (.setc z3 0 (pn r7 r9)) 0),(pi 0),(pi 4)]
 (.call ⟨[(18,(.nt cU))],[]⟩ [(18,false)] 25 32 [(pc o4 1),(pi 0),(bf (.llen (pc o1 15)) (pi 1))]
 (.call ⟨[(28,(.pick cE pT (.nt gh)))],[]⟩ [(28,false)] 31 32 [(pc o4 2),(pi 0),(pi 1)]
 (.ite (.pick il pT (.nt tQ))
 (.ret (pi 1))
 (.ite (peq r3 (pi 0))
 (.exit 1 ⟨[],[]⟩)
 (.chk (ao (pc o1 18) (bf r3 (pi 1)))
 (.call ⟨[],[(5,(.setc z3 0 (pn (pc o1 18) (bf r3 (pi 1)))))]⟩ [] 46 68 [(pc (.setc z3 0 (pn (pc o1 18) (bf r3 (pi 1)))) 1),(pc o4 1)]
 (.call ⟨[],[]⟩ [] 51 68 [(pc o5 0),(pc o4 0)]
 (.call ⟨[],[]⟩ [] 53 67 [(.lst [Hr,oZ])]
 (.ite (ba DJ (pi 0))
 (.ret (pi 5))
 (.next ⟨[],[]⟩))))))))))))
 (.next ⟨[(9,(aA r9 (pi 1)))],[]⟩))
 (.exit 0 ⟨[(10,(ah r9 r8))],[]⟩))
def YI:PT:=
 (.brk ⟨[(9,(pi 0)),(8,(.llen (pc (.mk [r0]) 18))),(7,(pc (.mk [r0]) 18)),(2,(pi 0))],[(1,(.mk [r0]))]⟩
(au6 b)
 (.ret (pi 0)))
def apD:PT×List (Shp×PT):=(YI b,[(.lp 0 [2,9,10] [] [2,9] [],Oc b)])
def UM:Bs.map told=some (apD (bk Bs)):=by kernel_rfl
def aB0:tree (ab Bs)=YI Qf:=bH UM
def ajA:round 0 [2,9,10] [] [2,9] [] (Qf 0)=Oc Qf:=bm UM 0 λ_=>rfl
def J4:Option PC:=cF [4,5,6] [] Tryz.f68 68 []
def Yo:PT:=
 (.call ⟨[],[]⟩ [] 8 109 [r0]
 (.call ⟨[(5,r8)],[]⟩ [] 10 109 [r1]
 (.ite r5
 (.ite dg
 (.ret (pi 0))
 (.ret (pi (-1))))
 (.ite dg
 (.ret (pi 1))
 (.ite (ah r0 r1)
 (.ret (pi (-1)))
 (.ite (aR r0 r1)
 (.ret (pi 1))
 (.ret (pi 0))))))))
def ahb:J4.map told=some (Yo,[]):=by kernel_rfl
def aBD:tree (ab J4)=Yo:=aT ahb
def J5:Option PC:=cF [2] [] Tryz.f109 109 []
def Yq:PT:=
 (.ret (aF r0 r0))
def ahc:J5.map told=some (Yq,[]):=by kernel_rfl
def aBF:tree (ab J5)=Yq:=aT ahc
def Bj:Option PC:=cF [2,3,5] [] Tryz.f67 67 []
def P9:Nat->PC:=bo Bj
def auY:PC:=.block 0 [2,8,9] [] (.loop [2,8] [] (b 0))
def HG (b:Nat->PC):PT:=
 (.ite (ah r8 r7)
 (.chk (ao r6 r8)
 (.ite (aF (pn r6 r8) r3)
 (.ret (pn r6 r8))
 (.next ⟨[(8,oX)],[]⟩)))
 (.exit 0 ⟨[(9,(ah r8 r7))],[]⟩))
def Yp:PT:=
 (.brk ⟨[(8,(pi 0)),(7,(.llen r0)),(6,r0),(3,(pi 0)),(2,(pi 0))],[]⟩
(auY b)
 (.ret r3))
def apw:PT×List (Shp×PT):=(Yp b,[(.lp 0 [2,8,9] [] [2,8] [],HG b)])
def UG:Bj.map told=some (apw (bk Bj)):=by kernel_rfl
def aBE:tree (ab Bj)=Yp P9:=bH UG
def Ww:round 0 [2,8,9] [] [2,8] [] (P9 0)=HG P9:=bm UG 0 λ_=>rfl
def BL:Option PC:=cF [6,8] [] Tryz.f8 8 [2,3,4,5,7,9]
def EL:Nat->PC:=bo BL
def avA:PC:=.block 0 [5,6,18,19,20,21,22] [5] (.loop [5,6] [5] (b 0))
def avB:PC:=.block 2 [5,8,57,58,59,60,61] [5] (.loop [5,8] [5] (b 1))
def DP (b:Nat->PC):PT:=
 (.ite (ah r6 Ai)
 (.chk (ao (pc o2 18) r6)
 (.ite (.pick (ah (pc vj 1) (pc o3 1)) pT (.pick (peq (pc vj 1) (pc o3 1)) (ah (pc vj 0) (pc o3 0)) pF))
 (.chk (bz (.llen (.app o5 (.lst [(.mk [(pc vj 0),(pc vj 1),(pc vj 2)])]))) cj)
 (.next ⟨[(5,pN),(6,(aA r6 (pi 1)))],[(5,(.app o5 (.lst [(.mk [(pc vj 0),(pc vj 1),(pc vj 2)])])))]⟩))
 (.next ⟨[(6,(aA r6 (pi 1)))],[]⟩)))
 (.exit 0 ⟨[(18,r6),(19,pN),(20,(pc o2 18)),(21,Ai),(22,(ah r6 Ai))],[]⟩))
def DQ (b:Nat->PC):PT:=
 (.ite (ah r8 Ai)
 (.chk (ao (pc o2 18) r8)
 (.ite (.pick (aR (pc vi 1) (pc o3 1)) pT (.pick (peq (pc vi 1) (pc o3 1)) (aR (pc vi 0) (pc o3 0)) pF))
 (.chk (bz (.llen (.app o5 (.lst [(.mk [(pc vi 0),(pc vi 1),(pc vi 2)])]))) cj)
 (.next ⟨[(5,pN),(8,oX)],[(5,(.app o5 (.lst [(.mk [(pc vi 0),(pc vi 1),(pc vi 2)])])))]⟩))
 (.next ⟨[(8,oX)],[]⟩)))
 (.exit 2 ⟨[(57,r8),(58,pN),(59,(pc o2 18)),(60,Ai),(61,(ah r8 Ai))],[]⟩))
def Zs:PT:=
 (.call ⟨[],[(4,vk),(3,(.mk [r1])),(2,(.mk [r0]))]⟩ [] 15 35 [(ar 19 (.mk [r0])),DA,(pc (.mk [r1]) 1)]
 (.ite (pc dt 0)
 (.ret (ar 19 (.setc o4 0 (ar 19 o2))))
 (.brk ⟨[(6,(pi 0)),(5,pN)],[(5,pL)]⟩
(avA b)
 (.chk (bz (.llen (.app o5 (.lst [(.mk [(pc o3 0),(pc o3 1),(pc o3 2)])]))) cj)
 (.brk ⟨[(8,(pi 0)),(5,pN)],[(5,(.app o5 (.lst [(.mk [(pc o3 0),(pc o3 1),(pc o3 2)])])))]⟩
(avB b)
 (.ret (ar 19 (.setc o4 0 (.mk [(pc kC 0),(pc kC 1),(pc kC 2),(pc kC 3),(pc kC 4),(pc kC 5),(pc kC 6),(pc kC 7),(pc kC 8),(pc kC 9),(pc kC 10),(pc kC 11),(pc kC 12),(pc kC 13),(pc kC 14),(pc kC 15),(pc kC 16),(pc kC 17),o5])))))))))
def apY:PT×List (Shp×PT):=(Zs b,[(.lp 0 [5,6,18,19,20,21,22] [5] [5,6] [5],DP b),(.lp 2 [5,8,57,58,59,60,61] [5] [5,8] [5],DQ b)])
def M8:BL.map told=some (apY (bk BL)):=by kernel_rfl
def aCL:tree (ab BL)=Zs EL:=bH M8
def Ol:round 0 [5,6,18,19,20,21,22] [5] [5,6] [5] (EL 0)=DP EL:=bm M8 0 λ_=>rfl
def Om:round 2 [5,8,57,58,59,60,61] [5] [5,8] [5] (EL 1)=DQ EL:=bm M8 1 λ_=>rfl
def BK:Option PC:=cF [7] [] Tryz.f35 35 [3,6]
def Qp:Nat->PC:=bo BK
def avz:PC:=.block 0 [7,8,9,10,11,12] [6] (.loop [7] [6] (b 0))
def DO (b:Nat->PC):PT:=
 (.ite (ah r7 (.llen (pc o3 18)))
 (.chk (ao (pc o3 18) r7)
 (.chk (.nt (.an (.an (peq (pc (pn (pc o3 18) r7) 0) r1) pT) (.nt (ao (pc o3 18) r7))))
 (.ite (.pick (peq (pc (pn (pc o3 18) r7) 0) r1) (peq (pc (pn (pc o3 18) r7) 1) r2) pF)
 (.ite (peq (pc (pn (pc o3 18) r7) 2) (pi 0))
 (.ret (.mk [(pc (.setc o6 0 (.mk [pT,(pi 0)])) 0),(pc (.setc o6 0 (.mk [pT,(pi 0)])) 1)]))
 (.ret (.mk [(pc (.setc o6 0 (.mk [pT,(pi 1)])) 0),(pc (.setc o6 0 (.mk [pT,(pi 1)])) 1)])))
 (.next ⟨[(7,(aA r7 (pi 1)))],[]⟩))))
 (.exit 0 ⟨[(8,r7),(9,pN),(10,(pc o3 18)),(11,(.llen (pc o3 18))),(12,(ah r7 (.llen (pc o3 18))))],[]⟩))
def Zq:PT:=
 (.brk ⟨[(7,(pi 0))],[(6,gf),(3,(.mk [r0]))]⟩
(avz b)
 (.ret Wc))
def apX:PT×List (Shp×PT):=(Zq b,[(.lp 0 [7,8,9,10,11,12] [6] [7] [6],DO b)])
def U3:BK.map told=some (apX (bk BK)):=by kernel_rfl
def aCJ:tree (ab BK)=Zq Qp:=bH U3
def Oj:round 0 [7,8,9,10,11,12] [6] [7] [6] (Qp 0)=DO Qp:=bm U3 0 λ_=>rfl
def Kk:Option PC:=cF [11,12,13] [] Tryz.f9 9 [5,7,9,10]
def YO:PT:=
 (.call ⟨[],[(10,z3),(7,(.mk [r2])),(5,(.mk [r0]))]⟩ [] 20 10 [jX,r1,Dw,r3,VV]
 (.ite (aF (.tget dV 1) (pi 0))
 (.ret (.tup [(.mk [(pc VY 0),(pc VY 1),(pc VY 2)]),(.tget dV 1)]))
 (.call ⟨[(27,(.tget dV 0))],[]⟩ [] 32 11 [(ar 8 o5),r1,(ar 19 o7),r3]
 (.call ⟨[],[]⟩ [] 37 12 [(ar 8 o5),r1,(ar 19 o7),r3,(pi 1)]
 (.ret (.tup [(.mk [(pc VZ 0),(pc VZ 1),(pc VZ 2)]),(pi 0)]))))))
def ahv:Kk.map told=some (YO,[]):=by kernel_rfl
def aB8:tree (ab Kk)=YO:=aT ahv
def Kp:Option PC:=cF [10,11,12,13,14,33,36,15] [] Tryz.f10 10 [5,7,9]
def YV:PT:=
 (.call ⟨[],[(9,(.mk [r4])),(7,(.mk [r2])),(5,(.mk [r0]))]⟩ [] 22 36 [jX,r1,Dw,r3,VV]
 (.ite (aF (.tget kD 1) (pi 0))
 (.ret (.tup [(pi 0),(.tget kD 1)]))
 (.call ⟨[(12,(.tget kD 0))],[]⟩ [] 32 11 [(ar 8 o5),r1,(ar 19 o7),r3]
 (.ite (peq tR (pi (-1)))
 (.ret (.tup [(pi 0),(pi 4)]))
 (.ite (.pick (aR tR r3) (aR (bf tR r3) (pi 20000)) pF)
 (.ret (.tup [(pi 0),(pi 3)]))
 (.call ⟨[],[]⟩ [] 54 37 [bY,(pc o9 0),(.mx (bf tR r3) (pi 0))]
 (.ite (aF (.tget pf 1) (pi 0))
 (.ret (.tup [(pi 0),(pi 0)]))
 (.ret (.tup [(bf bY (.tget pf 0)),(pi 0)])))))))))
def ahE:Kp.map told=some (YV,[]):=by kernel_rfl
def aCl:tree (ab Kp)=YV:=aT ahE
def Bw:Option PC:=cF [10,11,13,14,15,18,19,20] [] Tryz.f36 36 [5,7,9,12,17,52]
def Qh:Nat->PC:=bo Bw
def avf:PC:=.block 0 [13,14,15,39,40] [] (.loop [13,14,15,39] [] (b 0))
def Oe (b:Nat->PC):PT:=
 (.ite (ah rS jY)
 (.blockS ⟨[],[]⟩ 1 [13,14,15,17,41,42,43,44,45,46] [17]
 (.chk (ao oT rS)
 (.ite (bz (pc V3 5) dt)
 (.exit 1 ⟨[],[]⟩)
 (.call ⟨[(47,(ar 8 o5))],[(17,V3)]⟩ [] 52 44 [(ar 8 o5),oT,(pc V3 5)]
 (.call ⟨[],[]⟩ [] 54 72 [N2,Hs,(.mk [(pc o9 0),(pc o9 1)])]
 (.chk (aF xd (pi 0))
 (.next ⟨[(15,(pc vb 5)),(14,(.ai .rem .i64 aiY xd)),(13,(aA (aA dh (.ai .mul .i64 (.ai .quo .i64 (bf (pc vb 5) dt) xd) (bf xd pf))) (.ai .quo .i64 aiY xd)))],[]⟩))))))
 (.next ⟨[(39,(aA rS (pi 1)))],[]⟩))
 (.exit 0 ⟨[(40,(ah rS jY))],[]⟩))
def YW:PT:=
 (.call ⟨[],[(9,(.mk [r4])),(7,(.mk [r2])),(5,(.mk [r0]))]⟩ [] 22 69 [VV]
 (.call ⟨[(24,(aF kD (pi 0)))],[]⟩ [(24,false)] 27 43 [(ar 8 o5),r1]
 (.ite (.pick lg pT (.nt dx))
 (.ret (.tup [(pi 0),(pi 1)]))
 (.call ⟨[],[]⟩ [] 34 45 [(ar 8 o5),r1,(ar 19 o7),r3]
 (.mcall ⟨[(12,pN)],[(12,Hq)]⟩ 1000000013 70 [pN,(.con (.clo 71 [])),Hq]
 (.brk ⟨[(39,(pi 0)),(38,(.llen mw)),(15,(pi 0)),(14,(pi 0)),(13,(pi 0))],[(12,mw)]⟩
(avf b)
 (.ret (.tup [dh,(pi 0)]))))))))
def apJ:PT×List (Shp×PT):=(YW b,[(.lp 0 [13,14,15,39,40] [] [13,14,15,39] [],Oe b)])
def UU:Bw.map told=some (apJ (bk Bw)):=by kernel_rfl
def aCn:tree (ab Bw)=YW Qh:=bH UU
def ajC:round 0 [13,14,15,39,40] [] [13,14,15,39] [] (Qh 0)=Oe Qh:=bm UU 0 λ_=>rfl
def Kl:Option PC:=cF [2,3] [] Tryz.f69 69 [1]
def Ec:PT:=
 (.call ⟨[(18,(.pick (.pick (ah jW (pi 0)) pT (aR jW (pi 1000))) pT (aF (.llen oV) (pi 10))))],[]⟩ [(18,false)] 22 111 [oV,(.con (.clo 110 []))]
 (.ite (.pick cE pT kD)
 (.ret (pi 1))
 (.ret (pi 0))))
def ahB:Kl.map told=some (Ec,[]):=by kernel_rfl
def aCj:tree (ab Kl)=Ec:=aT ahB
def Km:Option PC:=cF [2] [] Tryz.f110 110 [1]
def YT:PT:=
 (.ret (.pick (.pick (.pick (ah oV (pi 1)) pT (aR oV (pi 1073741824))) pT (ah jW (pi 0))) pT (aR jW oV)))
def ahC:Km.map told=some (YT,[]):=by kernel_rfl
def aCi:tree (ab Km)=YT:=aT ahC
def KK:Option PC:=cF [4] [] Tryz.f111 111 []
def ZV:PT:=
 (.call ⟨[],[]⟩ [] 7 143 [r0,r1]
 (.ret (ba r7 (pi 0))))
def ahZ:KK.map told=some (ZV,[]):=by kernel_rfl
def aDg:tree (ab KK)=ZV:=aT ahZ
def B3:Option PC:=cF [4,5] [] Tryz.f143 143 []
def QC:Nat->PC:=bo B3
def av6:PC:=.block 0 [4,8,9] [] (.loop [4,8] [] (b 0))
def Ir (b:Nat->PC):PT:=
 (.ite (ah r8 r7)
 (.blockS ⟨[],[]⟩ 1 [4,5,10,11,12,13,14,15,16] []
 (.chk (ao r0 r8)
 (.callc ⟨[(5,r8)],[]⟩ [] 16 r1 [(pn r0 r8)]
 (.ite cU
 (.ret r5)
 (.next ⟨[],[]⟩))))
 (.next ⟨[(8,oX)],[]⟩))
 (.exit 0 ⟨[(9,(ah r8 r7))],[]⟩))
def Z1:PT:=
 (.brk ⟨[(8,(pi 0)),(7,(.llen r0)),(4,(pi 0))],[]⟩
(av6 b)
 (.ret (pi (-1))))
def aqk:PT×List (Shp×PT):=(Z1 b,[(.lp 0 [4,8,9] [] [4,8] [],Ir b)])
def Vh:B3.map told=some (aqk (bk B3)):=by kernel_rfl
def aDm:tree (ab B3)=Z1 QC:=bH Vh
def Xf:round 0 [4,8,9] [] [4,8] [] (QC 0)=Ir QC:=bm Vh 0 λ_=>rfl
def Kq:Option PC:=cF [4] [] Tryz.f43 43 [2]
def YZ:PT:=
 (.ret (.pick (ba r1 (pi 0)) (ah r1 Hd) pF))
def ahF:Kq.map told=some (YZ,[]):=by kernel_rfl
def aCr:tree (ab Kq)=YZ:=aT ahF
def Kr:Option PC:=cF [] [] Tryz.f45 45 [4,6,8]
def Za:PT:=
 (.call ⟨[],[]⟩ [] 13 85 [jX,r1,Dw,r3]
 (.call ⟨[],[]⟩ [] 14 84 [dh,(.con (.clo 86 []))]
 (.ret bU)))
def ahG:Kr.map told=some (Za,[]):=by kernel_rfl
def aCt:tree (ab Kr)=Za:=aT ahG
def Be:Option PC:=cF [11] [] Tryz.f85 85 [4,6,8,9,10,28]
def P4:Nat->PC:=bo Be
def auU:PC:=.block 0 [10,21,22] [10] (.loop [10,21] [10] (b 0))
def N6 (b:Nat->PC):PT:=
 (.ite (ah gH dV)
 (.blockS ⟨[],[]⟩ 1 [10,11,23,25,26,27,28,29] [10,28]
 (.call ⟨[],[]⟩ [] 27 126 [(ar 31 o9),gH]
 (.chk (bz (.llen (.app bG (.lst [dx]))) cj)
 (.next ⟨[(10,pN)],[(10,(.app bG (.lst [dx])))]⟩)))
 (.next ⟨[(21,(aA gH (pi 1)))],[]⟩))
 (.exit 0 ⟨[(22,(ah gH dV))],[]⟩))
def X9:PT:=
 (.call ⟨[],[]⟩ [] 16 125 [jX,r1,Dw,r3]
 (.brk ⟨[(21,(pi 0)),(20,(.llen (pc (.setc V6 0 cU) 25))),(10,pN)],[(10,pL),(9,(.setc V6 0 cU))]⟩
(auU b)
 (.ret bG)))
def apq:PT×List (Shp×PT):=(X9 b,[(.lp 0 [10,21,22] [10] [10,21] [10],N6 b)])
def UB:Be.map told=some (apq (bk Be)):=by kernel_rfl
def aBm:tree (ab Be)=X9 P4:=bH UB
def ajv:round 0 [10,21,22] [10] [10,21] [10] (P4 0)=N6 P4:=bm UB 0 λ_=>rfl
def JT:Option PC:=cF [] [] Tryz.f125 125 [4,6,8,9]
def Yb:PT:=
 (.call ⟨[],[(8,V6),(4,(.mk [r0]))]⟩ [] 12 38 [Dw,r3]
 (.call ⟨[(16,(ar 19 (.setc vk 0 bY))),(15,r3),(14,r1),(13,(ar 8 o4))],[(9,(.setc vk 0 bY))]⟩ [] 21 40 [(ar 8 o4),r1,(pi 0),(ar 19 (.setc vk 0 bY)),r3]
 (.call ⟨[],[]⟩ [] 22 163 [gH]
 (.call ⟨[],[]⟩ [] 27 11 [(ar 8 o4),r1,(ar 19 o9),r3]
 (.ret (ar 31 (.setc o8 0 (.mk [dh,bU,dt,cU,kD,dx]))))))))
def agX:JT.map told=some (Yb,[]):=by kernel_rfl
def aBo:tree (ab JT)=Yb:=aT agX
def BX:Option PC:=cF [] [] Tryz.f38 38 [2,4,5,65541,69637,73733,77829,7,31,9,49,11,13]
def uw:Nat->PC:=bo BX
def avV:PC:=.block 0 [20,21] [65541,5] (.loop [20] [65541,5] (b 0))
def avW:PC:=.block 2 [38,39] [73733,5] (.loop [38] [73733,5] (b 1))
def avX:PC:=.block 4 [56,57] [5,69637] (.loop [56] [5,69637] (b 2))
def avY:PC:=.block 6 [76,77] [5,77829] (.loop [76] [5,77829] (b 3))
def Ig (b:Nat->PC):PT:=
 (.ite (ah dV fN)
 (.chk (ao cE dV)
 (.ite (aR (pc (.setc z9 0 (pn cE dV)) 6) r1)
 (.exit 0 ⟨[(21,(ah dV fN))],[]⟩)
 (.chk (bz (.llen (.app (.o 65541) (.lst [(ar 9 (.setc z9 0 (pn cE dV)))]))) cj)
 (.next ⟨[(20,(aA dV (pi 1)))],[(65541,(.app (.o 65541) (.lst [(ar 9 (.setc z9 0 (pn cE dV)))]))),(5,(.setc o5 15 pN))]⟩))))
 (.exit 0 ⟨[(21,(ah dV fN))],[]⟩))
def Ih (b:Nat->PC):PT:=
 (.ite (ah jY lY)
 (.chk (ao iu jY)
 (.ite (aR (pc (.setc z9 0 (pn iu jY)) 6) r1)
 (.exit 2 ⟨[(39,(ah jY lY))],[]⟩)
 (.chk (bz (.llen (.app (.o 73733) (.lst [(ar 9 (.setc z9 0 (pn iu jY)))]))) cj)
 (.next ⟨[(38,(aA jY (pi 1)))],[(73733,(.app (.o 73733) (.lst [(ar 9 (.setc z9 0 (pn iu jY)))]))),(5,(.setc o5 17 pN))]⟩))))
 (.exit 2 ⟨[(39,(ah jY lY))],[]⟩))
def Ii (b:Nat->PC):PT:=
 (.ite (ah pg vl)
 (.chk (ao pf pg)
 (.ite (bz (pc (.setc z2 0 (pn pf pg)) 0) (.llen (.o 65541)))
 (.chk (bz (.llen ajj) cj)
 (.next ⟨[(56,(aA pg (pi 1)))],[(5,(.setc o5 16 pN)),(69637,ajj)]⟩))
 (.next ⟨[(56,(aA pg (pi 1)))],[]⟩)))
 (.exit 4 ⟨[(57,(ah pg vl))],[]⟩))
def Ij (b:Nat->PC):PT:=
 (.ite (ah vm Wm)
 (.blockS ⟨[],[]⟩ 7 [13,78,79,80,81,82,83,84,85] [13,77829,5]
 (.chk (ao Wl vm)
 (.call ⟨[],[(13,(.setc z3 0 (pn Wl vm)))]⟩ [] 85 75 [(pc (.setc z3 0 (pn Wl vm)) 1),(.llen (.o 65541))]
 (.ite Hw
 (.chk (bz (.llen (.app (.o 77829) (.lst [(.mk [(pc wX 0),(pc wX 1),(pc wX 2)])]))) cj)
 (.next ⟨[],[(77829,(.app (.o 77829) (.lst [(.mk [(pc wX 0),(pc wX 1),(pc wX 2)])]))),(5,(.setc o5 18 pN))]⟩))
 (.next ⟨[],[]⟩))))
 (.next ⟨[(76,(aA vm (pi 1)))],[]⟩))
 (.exit 6 ⟨[(77,(ah vm Wm))],[]⟩))
def ZM:PT:=
 (.brk ⟨[(20,(pi 0)),(19,(.llen rN)),(18,rN)],[(77829,pL),(73733,pL),(69637,pL),(65541,pL),(5,(.setc vk 0 (.mk [(ar 15 (.mk [r0])),pL,pL,pL,pL]))),(4,vk),(2,(.mk [r0]))]⟩
(avV b)
 (.brk ⟨[(38,(pi 0)),(37,(.llen (pc o2 17))),(36,(pc o2 17))],[]⟩
(avW b)
 (.brk ⟨[(56,(pi 0)),(55,(.llen (pc o2 16))),(54,(pc o2 16))],[]⟩
(avX b)
 (.brk ⟨[(76,(pi 0)),(75,Ai),(74,(pc o2 18))],[]⟩
(avY b)
 (.ret (ar 19 (.setc o4 0 (.mk [(pc o5 0),(pc o5 1),(pc o5 2),(pc o5 3),(pc o5 4),(pc o5 5),(pc o5 6),(pc o5 7),(pc o5 8),(pc o5 9),(pc o5 10),(pc o5 11),(pc o5 12),(pc o5 13),(pc o5 14),(.o 65541),(.o 69637),(.o 73733),(.o 77829)]))))))))
def aqd:PT×List (Shp×PT):=(ZM b,[(.lp 0 [20,21] [65541,5] [20] [65541,5],Ig b),(.lp 2 [38,39] [73733,5] [38] [73733,5],Ih b),(.lp 4 [56,57] [5,69637] [56] [5,69637],Ii b),(.lp 6 [76,77] [5,77829] [76] [5,77829],Ij b)])
def Dj:BX.map told=some (aqd (bk BX)):=by kernel_rfl
def aC6:tree (ab BX)=ZM uw:=bH Dj
def W5:round 0 [20,21] [65541,5] [20] [65541,5] (uw 0)=Ig uw:=bm Dj 0 λ_=>rfl
def W6:round 2 [38,39] [73733,5] [38] [73733,5] (uw 1)=Ih uw:=bm Dj 1 λ_=>rfl
def W7:round 4 [56,57] [5,69637] [56] [5,69637] (uw 2)=Ii uw:=bm Dj 2 λ_=>rfl
def W8:round 6 [76,77] [5,77829] [76] [5,77829] (uw 3)=Ij uw:=bm Dj 3 λ_=>rfl
def KI:Option PC:=cF [4] [] Tryz.f75 75 []
def ZR:PT:=
 (.ret V4)
def ahX:KI.map told=some (ZR,[]):=by kernel_rfl
def aDc:tree (ab KI)=ZR:=aT ahX
def JL:Option PC:=cF [] [] Tryz.f40 40 [5,8,77832,10]
def X0:PT:=
 (.call ⟨[],[(10,DG)]⟩ [] 18 76 [jX,r1,r2,(.mk [(.mk [(pc kB 0),(pc kB 1),(pc kB 2),(pc kB 3),(pc kB 4),(pc kB 5),(pc kB 6),(pc kB 7),(pc kB 8),(pc kB 9),(pc kB 10),(pc kB 11),(pc kB 12),(pc kB 13),(pc kB 14),(pc kB 15),(pc kB 16),(pc kB 17),pL]),(pi 0),(pi (-1)),(pi (-1)),(pi (-1)),r4])]
 (.ret (ar 5 (.setc bG 0 cE))))
def agP:JL.map told=some (X0,[]):=by kernel_rfl
def aBe:tree (ab JL)=X0:=aT agP
def JK:Option PC:=cF [10] [] Tryz.f76 76 [4,7,8,9]
def XZ:PT:=
 (.call ⟨[],[(8,DG),(4,(.mk [r0]))]⟩ [] 16 118 [jX,r1,r2,(ar 24 (.mk [r3]))]
 (.iteS ⟨[(10,(.tget cU 1))],[(9,(.setc DG 0 (.tget cU 0)))]⟩ (aF (pc (.setc DG 0 (.tget cU 0)) 2) (pi (-1))) [] [9]
 (.chk (ao (pc o4 4) (pc o9 2))
 (.call ⟨[],[]⟩ [] 31 119 [(pn (pc o4 4) (pc o9 2)),r2,dg]
 (.next ⟨[],[(9,(.setc (.setc o9 0 (.tget tQ 0)) 4 (.tget tQ 1)))]⟩)))
 (.next ⟨[],[]⟩)
 (.ret (ar 5 (.setc o8 0 (ar 5 o9))))))
def agO:JK.map told=some (XZ,[]):=by kernel_rfl
def aBd:tree (ab JK)=XZ:=aT agO
def JP:Option PC:=cF [9,11,12,13,14] [] Tryz.f118 118 [4,7,8,10,16394]
def X6:PT:=
 (.call ⟨[],[(16394,pL),(10,(.setc DG 0 (.mk [gf,(pi (-1)),pL,(pi 1)]))),(8,DG),(7,(.mk [r3])),(4,(.mk [r0]))]⟩ [] 19 154 [jX,(ar 24 (.mk [r3]))]
 (.ite (peq (.llen (.tget fN 1)) (pi 0))
 (.ret (.tup [Wb,pL]))
 (.call ⟨[(11,(.tget fN 1))],[(7,(.setc o7 0 (.tget fN 0)))]⟩ [] 28 155 [r2]
 (.ite (.nt (.tget il 1))
 (.ret (.tup [Wb,pL]))
 (.call ⟨[],[]⟩ [] 37 156 [(ar 8 o4),r1,(ar 24 o7)]
 (.ite (peq (.llen lY) (pi 0))
 (.ret (.tup [Wb,pL]))
 (.call ⟨[],[]⟩ [] 46 157 [(ar 8 o4),r1,r2,lY]
 (.ite (peq (pc Ap 4) (pi 0))
 (.chk (ao (pc Ap 3) (bf (.llen (pc Ap 3)) (pi 1)))
 (.ret (.tup [(ar 5 (.setc o8 0 (ar 5 (.setc Ap 2 (pn (pc Ap 3) (bf (.llen (pc Ap 3)) (pi 1))))))),bL])))
 (.ret (.tup [(ar 5 (.setc o8 0 (ar 5 Ap))),bL]))))))))))
def agT:JP.map told=some (X6,[]):=by kernel_rfl
def aBi:tree (ab JP)=X6:=aT agT
def JQ:Option PC:=cF [5] [] Tryz.f154 154 [2,3,4]
def X7:PT:=
 (.call ⟨[],[(4,ai7),(3,(.mk [r1])),(2,(.mk [r0]))]⟩ [] 10 38 [(ar 19 (.mk [r1])),(pc (.mk [r1]) 23)]
 (.call ⟨[(12,(ar 24 (.setc o3 0 dg)))],[]⟩ [] 15 186 [(ar 8 o2),(ar 24 (.setc o3 0 dg))]
 (.ret (.tup [(ar 24 (.setc o4 0 bY)),dt]))))
def agU:JQ.map told=some (X7,[]):=by kernel_rfl
def aBj:tree (ab JQ)=X7:=aT agU
def B0:Option PC:=cF [4,7,9,11,12,13,14,15,16] [] Tryz.f186 186 [2,3,5,6,8,10,90,139]
def ER:Nat->PC:=bo B0
def axa:PC:=.meach 90 [94,95,11,12] [0,1,0,1] [10] (b 0)
def axb:PC:=.meach 139 [143,144,15,16] [0,1,0,1] [10] (b 1)
def Xb (b:Nat->PC):PT:=
 (.chk (ao bG bL)
 (.next ⟨[],[(10,(.setn bG bL 0 (.mk [pT,bY])))]⟩))
def Xc (b:Nat->PC):PT:=
 (.blockS ⟨[],[]⟩ 3 [145,146,147,148,149] [10]
 (.call ⟨[(146,dt)],[]⟩ [] 148 209 [cU]
 (.chk (ao bG (.r 146))
 (.next ⟨[],[(10,(.setn bG (.r 146) 0 (.r 148)))]⟩)))
 (.next ⟨[],[]⟩))
def xA:PT:=
 (.call ⟨[(7,(.mx (pc (.mk [r1]) 20) (pi 0)))],[(6,(.setc Pn 0 (ar 15 (.mk [r1])))),(5,(.setc vk 0 (ar 19 (.mk [r1])))),(3,(.mk [r1])),(2,(.mk [r0]))]⟩ [] 30 75 [(pc (.mk [r1]) 19),(.llen (pc (.setc vk 0 (ar 19 (.mk [r1]))) 15))]
 (.call ⟨[(48,(aF (pc o3 22) (pi (-1)))),(44,(.pick (.pick (.nt tP) pT (ah (pc o3 20) (pi (-1)))) pT (ba r7 (.llen (pc o5 15)))))],[]⟩ [(48,true),(44,false)] 51 75 [(pc o3 22),(pi 100001)]
 (.ite (.pick Ar pT (.pick fj (.nt oZ) pF))
 (.ret pL)
 (.chk (ao (pc o5 15) (pc o3 19))
 (.call ⟨[],[(8,(.setc z9 0 (pn (pc o5 15) (pc o3 19))))]⟩ [] 63 75 [(pc (.setc z9 0 (pn (pc o5 15) (pc o3 19))) 6),(pi 100001)]
 (.ite (.nt N3)
 (.ret pL)
 (.chk (.an (ba (pi 20) (pi 0)) (bz (pi 20) cj))
 (.chk (peq (pi 20) (pi 20))
 (.chk (ah (.mlen (.con (.map []))) cj)
 (.chk (ah (.mlen (.put (.con (.map [])) (pi 0) (pc o6 3))) cj)
 (.chk (ah (.mlen (.put (.put (.con (.map [])) (pi 0) (pc o6 3)) (pi 1) (pc o6 14))) cj)
 (.chk (ah (.mlen V7) cj)
 (.chk (ah (.mlen (.put V7 (pi 3) (pc o6 12))) cj)
 (.chk (ah (.mlen We) cj)
 (.chk (ah (.mlen (.put We (pi 5) (pc o3 21))) cj)
 (.blockS ⟨[(10,pN),(9,ai5)],[(90,(.tup [(.lst []),(.put (.put We (pi 5) (pc o3 21)) (pi 6) ai5)])),(10,(.rep (pi 20) gf))]⟩ 0 [] [10]
 (.brk ⟨[],[]⟩
(axa b)
 (.exit 0 ⟨[],[]⟩))
 (.call ⟨[],[(3,(ar 24 o3))]⟩ [] 104 207 [(pc o5 16),(.clo 208 [(.ref (ar 24 o3))])]
 (.call ⟨[(13,ay4)],[]⟩ [] 108 121 [(ar 8 o2),(pc o6 9)]
 (.call ⟨[],[]⟩ [] 112 121 [(ar 8 o2),(pc o6 10)]
 (.chk (ah (.mlen (.con (.map []))) cj)
 (.chk (ah (.mlen Wd) cj)
 (.chk (ah (.mlen (.put Wd (pi 8) (peq (pc o6 2) (pi (-1))))) cj)
 (.chk (ah (.mlen (.put (.put Wd (pi 8) (peq (pc o6 2) (pi (-1)))) (pi 9) (aF (.ai .and .i64 (pc o6 13) (pi 4)) (pi 0)))) cj)
 (.chk (ah (.mlen NB) cj)
 (.chk (ah (.mlen (.put NB (pi 11) (aF Wi Wj))) cj)
 (.chk (ah (.mlen (.put (.put NB (pi 11) (aF Wi Wj)) (pi 12) dh)) cj)
 (.chk (ah (.mlen aje) cj)
 (.blockS ⟨[],[(139,(.tup [(.lst []),(.put aje (pi 14) (aR r9 (pi 0)))]))]⟩ 2 [] [10]
 (.brk ⟨[],[]⟩
(axb b)
 (.exit 2 ⟨[],[]⟩))
 (.call ⟨[],[]⟩ [] 154 210 [(ar 19 o5),(pi 0),(pc o3 19)]
 (.chk (ao bG (pi 15))
 (.call ⟨[],[(10,(.setn bG (pi 15) 0 (.r 154)))]⟩ [] 160 210 [(ar 19 o5),(pi 1),(pc o3 19)]
 (.chk (ao bG (pi 16))
 (.call ⟨[],[(10,(.setn bG (pi 16) 0 (.r 160)))]⟩ [] 166 210 [(ar 19 o5),(pi 2),(pc o3 19)]
 (.chk (ao bG (pi 17))
 (.call ⟨[],[(10,(.setn bG (pi 17) 0 (.r 166)))]⟩ [] 171 210 [(ar 19 o5),(pi 3),r7]
 (.chk (ao bG (pi 18))
 (.call ⟨[],[(10,(.setn bG (pi 18) 0 (.r 171)))]⟩ [] 176 210 [(ar 19 o5),(pi 4),r7]
 (.chk (ao bG (pi 19))
 (.ret (.setn bG (pi 19) 0 (.r 176)))))))))))))))))))))))))))))))))))))))))
def aqg:PT×List (Shp×PT):=(xA b,[(.ea [10],Xb b),(.ea [10],Xc b)])
def Nd:B0.map told=some (aqg (bk B0)):=by kernel_rfl
def aDa:tree (ab B0)=xA ER:=bH Nd
def azB:rY [10] (ER 0)=Xb ER:=XY Nd 0 λ_=>rfl
def azC:rY [10] (ER 1)=Xc ER:=XY Nd 1 λ_=>rfl
def KG:Option PC:=cF [3] [] Tryz.f208 208 [2]
def ZP:PT:=
 (.ret (bz jW (pc (.deref r1) 19)))
def ahV:KG.map told=some (ZP,[]):=by kernel_rfl
def aC9:tree (ab KG)=ZP:=aT ahV
def KJ:Option PC:=cF [4] [] Tryz.f207 207 []
def ZT:PT:=
 (.call ⟨[],[]⟩ [] 7 220 [r0,r1]
 (.ret (ba r7 (pi 0))))
def ahY:KJ.map told=some (ZT,[]):=by kernel_rfl
def aDe:tree (ab KJ)=ZT:=aT ahY
def B2:Option PC:=cF [4,5] [] Tryz.f220 220 []
def QA:Nat->PC:=bo B2
def av4:PC:=.block 0 [4,8,9] [] (.loop [4,8] [] (b 0))
def Ip (b:Nat->PC):PT:=
 (.ite (ah r8 r7)
 (.blockS ⟨[],[]⟩ 1 [4,5,10,11,12,13,14,15,16] []
 (.chk (ao r0 r8)
 (.callc ⟨[(5,r8)],[]⟩ [] 16 r1 [(pn r0 r8)]
 (.ite cU
 (.ret r5)
 (.next ⟨[],[]⟩))))
 (.next ⟨[(8,oX)],[]⟩))
 (.exit 0 ⟨[(9,(ah r8 r7))],[]⟩))
def ZZ:PT:=
 (.brk ⟨[(8,(pi 0)),(7,(.llen r0)),(4,(pi 0))],[]⟩
(av4 b)
 (.ret (pi (-1))))
def aqi:PT×List (Shp×PT):=(ZZ b,[(.lp 0 [4,8,9] [] [4,8] [],Ip b)])
def Vg:B2.map told=some (aqi (bk B2)):=by kernel_rfl
def aDk:tree (ab B2)=ZZ QA:=bH Vg
def Xd:round 0 [4,8,9] [] [4,8] [] (QA 0)=Ip QA:=bm Vg 0 λ_=>rfl
def KD:Option PC:=cF [4] [] Tryz.f121 121 [2]
def ZB:PT:=
 (.call ⟨[],[(2,(.mk [r0]))]⟩ [] 9 101 [r1,(.llen oV)]
 (.ite (.nt r9)
 (.ret (pi (-1)))
 (.chk (ao (pc o2 1) r1)
 (.ret (pc (pn (pc o2 1) r1) 1)))))
def ahS:KD.map told=some (ZB,[]):=by kernel_rfl
def aCV:tree (ab KD)=ZB:=aT ahS
def KH:Option PC:=cF [] [] Tryz.f209 209 [2]
def ZQ:PT:=
 (.ite r0
 (.ret (.mk [(pc NC 0),(pc NC 1)]))
 (.ret (.mk [(pc ND 0),(pc ND 1)])))
def ahW:KH.map told=some (ZQ,[]):=by kernel_rfl
def aDb:tree (ab KH)=ZQ:=aT ahW
def BY:Option PC:=cF [] [] Tryz.f210 210 [3,6,8]
def Qz:Nat->PC:=bo BY
def avZ:PC:=.block 0 [12,13] [6] (.loop [12] [6] (b 0))
def Ik (b:Nat->PC):PT:=
 (.ite tJ
 (.blockS ⟨[],[]⟩ 1 [8,14,15,16,17,18,19,20,25] [8,6]
 (.chk (ao dg bY)
 (.iteS ⟨[],[(8,Dz)]⟩ (.pick (peq (pc Dz 0) r1) (peq (pc Dz 1) r2) pF) [] [6]
 (.call ⟨[],[]⟩ [] 29 209 [(aF (pc o8 2) (pi 0))]
 (.ret (.mk [(pc (.setc o6 0 nu) 0),(pc (.setc o6 0 nu) 1)])))
 (.next ⟨[],[]⟩)
 (.next ⟨[],[]⟩)))
 (.next ⟨[(12,Ak)],[]⟩))
 (.exit 0 ⟨[(13,tJ)],[]⟩))
def ZN:PT:=
 (.brk ⟨[(12,(pi 0)),(11,(.llen (pc (.mk [r0]) 18))),(10,(pc (.mk [r0]) 18))],[(6,gf)]⟩
(avZ b)
 (.ret Wc))
def aqe:PT×List (Shp×PT):=(ZN b,[(.lp 0 [12,13] [6] [12] [6],Ik b)])
def Vd:BY.map told=some (aqe (bk BY)):=by kernel_rfl
def aC7:tree (ab BY)=ZN Qz:=bH Vd
def W9:round 0 [12,13] [6] [12] [6] (Qz 0)=Ik Qz:=bm Vd 0 λ_=>rfl
def Kc:Option PC:=cF [2,3,4,11] [] Tryz.f155 155 []
def Yz:PT:=
 (.blockS ⟨[],[]⟩ 0 [2,3,4,5,6,7,10,11,12,13,14] []
 (.iteS ⟨[],[]⟩ (.pick (ah r0 (pi 0)) pT (ba r0 (pi 22))) [2,3,11,12,13,14] []
 (.ret (.tup [(pi 0),pF]))
 (.call ⟨[],[]⟩ [] 14 50 [(.lst [(pc tO 0),(pc tO 1),(pc tO 2),(pc tO 3),(pc tO 4),(pc tO 5),(pc tO 6),(pc tO 7),(pc tO 8),(pc tO 9)]),r0]
 (.ite bU
 (.ret (.tup [(pi 0),pT]))
 (.next ⟨[],[]⟩)))
 (.next ⟨[],[]⟩))
 (.ret (.tup [(pi 1),pT])))
def ahm:Kc.map told=some (Yz,[]):=by kernel_rfl
def aBS:tree (ab Kc)=Yz:=aT ahm
def Bk:Option PC:=cF [8,9,11,12,13,14,55,70] [] Tryz.f157 157 [4,10,53]
def Qa:Nat->PC:=bo Bk
def auZ:PC:=.block 0 [] [] (.loop [8,9,10] [10] (b 0))
def Wx (b:Nat->PC):PT:=
 (.blockS ⟨[],[]⟩ 1 [8,9,10,11,12,13,14,32,33,35,36,37,38,39,40,41,42,43,44,45,46,49,50,52,53,54,55,56,57,58,68,70,71] [53,10]
 (.chk (ao bG (bf (.llen bG) (pi 1)))
 (.call ⟨[(11,(pn bG (bf (.llen bG) (pi 1))))],[]⟩ [] 41 188 [(ar 8 o4),(pn bG (bf (.llen bG) (pi 1))),r2,r3]
 (.ite (peq (.tget tT 0) bL)
 (.ret (.tup [bG,(pi 0)]))
 (.call ⟨[(13,(.tget tT 1)),(12,(.tget tT 0))],[]⟩ [] 50 50 [bG,(.tget tT 0)]
 (.chk (bz (.llen (.app bG (.lst [bY]))) cj)
 (.chk (.nt (.an (.an nv (.an (.nt (.nt dh)) pT)) (.nt (ao (pc o4 4) bY))))
 (.ite (.pick (.nt dh) pT (.pick nv (pc (pn (pc o4 4) bY) 1) pF))
 (.ret (.tup [(.app bG (.lst [bY])),(pi 0)]))
 (.ite nv
 (.ret (.tup [(.app bG (.lst [bY])),(pi 12)]))
 (.next ⟨[(10,pN)],[(10,(.app bG (.lst [bY])))]⟩)))))))))
 (.next ⟨[],[]⟩))
def Yr:PT:=
 (.call ⟨[(9,(pi 0)),(8,pL)],[(4,(.mk [r0]))]⟩ [] 19 187 [jX,r1,r2,r3]
 (.chk (.nt (.an (.an (.nt (.nt fN)) pT) (.nt (ao r3 (pi 0)))))
 (.ite (.pick (.nt fN) pT (aF (pn r3 (pi 0)) r1))
 (.ret (.tup [pL,(pi 1)]))
 (.brk ⟨[(10,pN)],[(10,(.lst [r1]))]⟩
(auZ b)
 (.next ⟨[],[]⟩)))))
def apx:PT×List (Shp×PT):=(Yr b,[(.lp 0 [] [] [8,9,10] [10],Wx b)])
def UH:Bk.map told=some (apx (bk Bk)):=by kernel_rfl
def aBG:tree (ab Bk)=Yr Qa:=bH UH
def azr:round 0 [] [] [8,9,10] [10] (Qa 0)=Wx Qa:=bm UH 0 λ_=>rfl
def J6:Option PC:=cF [8] [] Tryz.f187 187 [4,9]
def xz:PT:=
 (.ite (.pick (.pick (.pick (.pick (ah r1 (pi 0)) pT (ba r1 (pc (.setc He 0 Hd) 0))) pT (ah r2 (pi 0))) pT (ba r2 (pi 22))) pT (aF (.llen r3) (pi 5)))
 (.ret pF)
 (.call ⟨[],[]⟩ [] 35 211 [r3,(.clo 212 [(.ref (pc (.setc He 0 Hd) 0))])]
 (.ret (.nt oY))))
def ahd:J6.map told=some (xz,[]):=by kernel_rfl
def aBJ:tree (ab J6)=xz:=aT ahd
def J7:Option PC:=cF [3] [] Tryz.f212 212 []
def Yt:PT:=
 (.ret (.pick (ah r0 (pi 0)) pT (ba r0 (.deref r1))))
def ahe:J7.map told=some (Yt,[]):=by kernel_rfl
def aBI:tree (ab J7)=Yt:=aT ahe
def KL:Option PC:=cF [4] [] Tryz.f211 211 []
def ZW:PT:=
 (.call ⟨[],[]⟩ [] 7 221 [r0,r1]
 (.ret (ba r7 (pi 0))))
def ah0:KL.map told=some (ZW,[]):=by kernel_rfl
def aDh:tree (ab KL)=ZW:=aT ah0
def B5:Option PC:=cF [4,5] [] Tryz.f221 221 []
def QE:Nat->PC:=bo B5
def av8:PC:=.block 0 [4,8,9] [] (.loop [4,8] [] (b 0))
def It (b:Nat->PC):PT:=
 (.ite (ah r8 r7)
 (.blockS ⟨[],[]⟩ 1 [4,5,10,11,12,13,14,15,16] []
 (.chk (ao r0 r8)
 (.callc ⟨[(5,r8)],[]⟩ [] 16 r1 [(pn r0 r8)]
 (.ite cU
 (.ret r5)
 (.next ⟨[],[]⟩))))
 (.next ⟨[(8,oX)],[]⟩))
 (.exit 0 ⟨[(9,(ah r8 r7))],[]⟩))
def Z3:PT:=
 (.brk ⟨[(8,(pi 0)),(7,(.llen r0)),(4,(pi 0))],[]⟩
(av8 b)
 (.ret (pi (-1))))
def aqm:PT×List (Shp×PT):=(Z3 b,[(.lp 0 [4,8,9] [] [4,8] [],It b)])
def Vj:B5.map told=some (aqm (bk B5)):=by kernel_rfl
def aDo:tree (ab B5)=Z3 QE:=bH Vj
def Xh:round 0 [4,8,9] [] [4,8] [] (QE 0)=It QE:=bm Vj 0 λ_=>rfl
def Bl:Option PC:=cF [8,9] [] Tryz.f188 188 [4,11]
def Qb:Nat->PC:=bo Bl
def au0:PC:=.block 0 [8,9,25,26] [] (.loop [8,9,25] [] (b 0))
def HI (b:Nat->PC):PT:=
 (.ite (ah gh lg)
 (.chk (ao gI gh)
 (.ite (.pick (peq (pc Hl 0) r2) (aF (pc Hl 1) (pi 0)) pF)
 (.chk (ao r3 (pc Hl 1))
 (.ret (.tup [(pn r3 (pc Hl 1)),(pc Hl 2)])))
 (.next ⟨[(25,(aA gh (pi 1)))],[]⟩)))
 (.exit 0 ⟨[(26,(ah gh lg))],[]⟩))
def Ys:PT:=
 (.call ⟨[(9,pF),(8,(pi 0))],[(4,(.mk [r0]))]⟩ [] 16 187 [jX,r1,r2,r3]
 (.ite (.nt cU)
 (.ret (.tup [(pi (-1)),pF]))
 (.chk (ao (pc o4 4) r1)
 (.brk ⟨[(25,(pi 0)),(24,(.llen (pc (pn (pc o4 4) r1) 2))),(23,(pc (pn (pc o4 4) r1) 2))],[]⟩
(au0 b)
 (.ret (.tup [r1,pF]))))))
def apy:PT×List (Shp×PT):=(Ys b,[(.lp 0 [8,9,25,26] [] [8,9,25] [],HI b)])
def UI:Bl.map told=some (apy (bk Bl)):=by kernel_rfl
def aBH:tree (ab Bl)=Ys Qb:=bH UI
def Wy:round 0 [8,9,25,26] [] [8,9,25] [] (Qb 0)=HI Qb:=bm UI 0 λ_=>rfl
def Kb:Option PC:=cF [7,9,11,12] [] Tryz.f119 119 [3,6,8,10]
def Yy:PT:=
 (.call ⟨[],[(6,gf)]⟩ [] 16 158 [(ar 4 (.mk [r0])),r1]
 (.ite (aF (.tget cU 1) (pi 0))
 (.ret (.tup [Wc,(.tget cU 1)]))
 (.call ⟨[],[]⟩ [] 25 159 [(.mk [(pc (.setc ns 0 (.tget cU 0)) 0),(pc (.setc ns 0 (.tget cU 0)) 1),(pc (.setc ns 0 (.tget cU 0)) 2)]),r2]
 (.call ⟨[],[(10,(.setc gf 0 gh))]⟩ [] 28 155 [r1]
 (.ret (.tup [(.mk [(pc (.setc o6 0 (.mk [(pc NN 0),(pc NN 1)])) 0),(pc (.setc o6 0 (.mk [(pc NN 0),(pc NN 1)])) 1)]),(pi 0)]))))))
def ahl:Kb.map told=some (Yy,[]):=by kernel_rfl
def aBR:tree (ab Kb)=Yy:=aT ahl
def Kd:Option PC:=cF [5,6,7,8,10,11] [] Tryz.f158 158 [2,3,4,12292,9]
def YA:PT:=
 (.call ⟨[],[(4,ns),(3,(.mk [r1])),(2,(.mk [r0]))]⟩ [] 14 155 [DA]
 (.ite (.nt (.tget bU 1))
 (.ret (.tup [Wa,(pi 1)]))
 (.call ⟨[(6,(.tget bU 0))],[]⟩ [] 23 189 [(pc o2 3),(.clo 190 [(.ref (pc o3 0))])]
 (.ite (ah gI (pi 0))
 (.ret (.tup [Wa,(pi 4)]))
 (.chk (ao (pc o2 3) gI)
 (.call ⟨[],[(9,NW)]⟩ [] 35 191 [(.mk [(pc NW 0),(pc NW 1),(pc NW 2)])]
 (.ite (.pick (aF (.tget oY 1) (pi 0)) pT (aF (.tget oY 0) r6))
 (.ret (.tup [Wa,(pi 11)]))
 (.ret (.tup [(.mk [(pc Wf 0),(pc Wf 1),(pc Wf 2)]),(pi 0)])))))))))
def ahn:Kd.map told=some (YA,[]):=by kernel_rfl
def aBU:tree (ab Kd)=YA:=aT ahn
def Ke:Option PC:=cF [3] [] Tryz.f190 190 [2]
def YB:PT:=
 (.ret (peq jW (.deref r1)))
def aho:Ke.map told=some (YB,[]):=by kernel_rfl
def aBT:tree (ab Ke)=YB:=aT aho
def B4:Option PC:=cF [4,5] [] Tryz.f189 189 []
def QD:Nat->PC:=bo B4
def av7:PC:=.block 0 [4,8,9] [] (.loop [4,8] [] (b 0))
def Is (b:Nat->PC):PT:=
 (.ite (ah r8 r7)
 (.blockS ⟨[],[]⟩ 1 [4,5,10,11,12,13,14,15,16] []
 (.chk (ao r0 r8)
 (.callc ⟨[(5,r8)],[]⟩ [] 16 r1 [(pn r0 r8)]
 (.ite cU
 (.ret r5)
 (.next ⟨[],[]⟩))))
 (.next ⟨[(8,oX)],[]⟩))
 (.exit 0 ⟨[(9,(ah r8 r7))],[]⟩))
def Z2:PT:=
 (.brk ⟨[(8,(pi 0)),(7,(.llen r0)),(4,(pi 0))],[]⟩
(av7 b)
 (.ret (pi (-1))))
def aql:PT×List (Shp×PT):=(Z2 b,[(.lp 0 [4,8,9] [] [4,8] [],Is b)])
def Vi:B4.map told=some (aql (bk B4)):=by kernel_rfl
def aDn:tree (ab B4)=Z2 QD:=bH Vi
def Xg:round 0 [4,8,9] [] [4,8] [] (QD 0)=Is QD:=bm Vi 0 λ_=>rfl
def KQ:Option PC:=cF [2,3] [] Tryz.f191 191 [1]
def aac:PT:=
 (.call ⟨[],[(1,(.mk [r0]))]⟩ [] 5 213 [NK,(pi 1)]
 (.ite (aR r5 (pi 60))
 (.ret (.tup [(pi 0),(pi 6)]))
 (.call ⟨[],[]⟩ [] 8 214 [(.mk [(pc o1 0),(pc o1 1),(pc o1 2)])]
 (.ret (.tup [(.tget r8 0),(.tget r8 1)])))))
def aib:KQ.map told=some (aac,[]):=by kernel_rfl
def aDA:tree (ab KQ)=aac:=aT aib
def yJ:Option PC:=cF [4,5] [] Tryz.f213 213 [2,7,12295]
def QK:Nat->PC:=bo yJ
def awm:PC:=.block 0 [5,13,14] [] (.loop [5,13] [] (b 0))
def Iy (b:Nat->PC):PT:=
 (.ite (ah dh bY)
 (.blockS ⟨[(14,(ah dh bY))],[]⟩ 1 [5,7,15,16,17,18,19,20,21,22,23,24] [7,12295]
 (.chk (ao bL dh)
 (.call ⟨[(17,r5)],[]⟩ [] 21 213 [(.mk [(pc (.setc ns 0 (pn bL dh)) 0),(pc (.setc ns 0 (pn bL dh)) 1),(pc (.setc ns 0 (pn bL dh)) 2)]),(aA r1 (pi 1))]
 (.ite (aR (aA jn gH) (pi 60))
 (.exit 0 ⟨[(5,(aA jn gH))],[]⟩)
 (.next ⟨[(5,(aA jn gH))],[]⟩))))
 (.next ⟨[(13,(aA dh (pi 1)))],[]⟩))
 (.exit 0 ⟨[(14,(ah dh bY))],[]⟩))
def Ph:PT:=
 (.ite (aR r1 (pi 8))
 (.ret (pi 61))
 (.brk ⟨[(13,(pi 0)),(12,rR),(11,Hh),(5,(pi 1))],[]⟩
(awm b)
 (.ret r5)))
def aqw:PT×List (Shp×PT):=(Ph b,[(.lp 0 [5,13,14] [] [5,13] [],Iy b)])
def Vo:yJ.map told=some (aqw (bk yJ)):=by kernel_rfl
def akz:tree (ab yJ)=Ph QK:=bH Vo
def Xn:round 0 [5,13,14] [] [5,13] [] (QK 0)=Iy QK:=bm Vo 0 λ_=>rfl
def Cb:Option PC:=cF [2,3,5,7,8,38,47,10,11,12] [] Tryz.f214 214 [1,4,6,12294,9]
def EV:Nat->PC:=bo Cb
def awj:PC:=.block 0 [2,3,20,21] [4] (.loop [2,3,20] [4] (b 0))
def awk:PC:=.block 3 [2,3,10,82,83] [] (.loop [2,3,10,82] [] (b 1))
def Iw (b:Nat->PC):PT:=
 (.ite (ah dV fN)
 (.blockS ⟨[],[]⟩ 1 [2,3,5,6,7,8,22,23,24,25,26,27,28,29,30,31,33,34,35,36] [6,12294,4]
 (.chk (ao cE dV)
 (.call ⟨[(5,dV)],[]⟩ [] 27 214 [(.mk [(pc (.setc ns 0 (pn cE dV)) 0),(pc (.setc ns 0 (pn cE dV)) 1),(pc (.setc ns 0 (pn cE dV)) 2)])]
 (.ite (aF (.tget dx 1) (pi 0))
 (.ret (.tup [(pi 0),(.tget dx 1)]))
 (.chk (ao o4 r5)
 (.next ⟨[],[(4,(.setn o4 r5 0 (.tget dx 0)))]⟩)))))
 (.next ⟨[(20,(aA dV (pi 1)))],[]⟩))
 (.exit 0 ⟨[(21,(ah dV fN))],[]⟩))
def xl (b:Nat->PC):PT:=
 (.ite (ah lZ Av)
 (.chk (ao Au lZ)
 (.ite (.pick (peq (pn Au lZ) (pi (-1))) (peq dg (pi (-1))) pF)
 (.chk (ao o4 lZ)
 (.ite (aF (pn o4 lZ) (.pick (peq (pn Au lZ) (pi (-1))) (pn o4 lZ) (pn Au lZ)))
 (.ret (.tup [(pi 0),(pi 11)]))
 (.next ⟨[(10,(pn o4 lZ)),(82,(aA lZ (pi 1)))],[]⟩)))
 (.chk (ao o4 lZ)
 (.ite (aF (pn o4 lZ) (.pick (peq (pn Au lZ) (pi (-1))) dg (pn Au lZ)))
 (.ret (.tup [(pi 0),(pi 11)]))
 (.next ⟨[(82,(aA lZ (pi 1)))],[]⟩)))))
 (.exit 3 ⟨[(83,(ah lZ Av))],[]⟩))
def aag:PT:=
 (.chk (.an (ba rR (pi 0)) (bz rR cj))
 (.chk (peq rR rR)
 (.brk ⟨[(20,(pi 0)),(19,rR),(18,Hh),(4,pN),(3,(pi 0)),(2,(pi 0))],[(4,(.rep rR (pi 0))),(1,(.mk [r0]))]⟩
(awj b)
 (.blockS ⟨[],[]⟩ 2 [2,3,38,39,40,41,42,46,47,48,49,50,51,55,56,60] []
 (.iteS ⟨[],[]⟩ (.pick (ah (pc o1 0) (pi 0)) pT (aR (pc o1 0) (pi 13))) [2,3,47,48,49,50,51,55,56,60] []
 (.ret (.tup [(pi 0),(pi 1)]))
 (.iteS ⟨[],[]⟩ (.pick (.pick (peq (pc o1 0) (pi 0)) pT (peq (pc o1 0) (pi 1))) pT (peq (pc o1 0) (pi 2))) [2,3] []
 (.call ⟨[],[]⟩ [] 62 222 [(.mk [(pc o1 0),(pc o1 1),(pc o1 2)])]
 (.ret (.tup [(.tget ph 0),(.tget ph 1)])))
 (.next ⟨[],[]⟩)
 (.next ⟨[],[]⟩))
 (.next ⟨[],[]⟩))
 (.call ⟨[],[]⟩ [] 67 223 [(pc o1 0)]
 (.ite (.pick (aF (.llen o4) (.llen (pc (.setc mu 0 xh) 0))) pT (aF (pc o1 1) (pi 0)))
 (.ret (.tup [(pi 0),(pi 2)]))
 (.brk ⟨[(82,(pi 0)),(81,(.llen (pc (.setc mu 0 xh) 0))),(80,(pc (.setc mu 0 xh) 0)),(10,(pi (-1)))],[(9,(.setc mu 0 xh))]⟩
(awk b)
 (.ite (peq (pc o9 1) (pi (-1)))
 (.ret (.tup [dg,(pi 0)]))
 (.ret (.tup [(pc o9 1),(pi 0)]))))))))))
def aqu:PT×List (Shp×PT):=(aag b,[(.lp 0 [2,3,20,21] [4] [2,3,20] [4],Iw b),(.lp 3 [2,3,10,82,83] [] [2,3,10,82] [],xl b)])
def Nj:Cb.map told=some (aqu (bk Cb)):=by kernel_rfl
def aDE:tree (ab Cb)=aag EV:=bH Nj
def Xl:round 0 [2,3,20,21] [4] [2,3,20] [4] (EV 0)=Iw EV:=bm Nj 0 λ_=>rfl
def DV:round 3 [2,3,10,82,83] [] [2,3,10,82] [] (EV 1)=xl EV:=bm Nj 1 λ_=>rfl
def KW:Option PC:=cF [2,3,12,20,4,5] [] Tryz.f222 222 [1]
def aaj:PT:=
 (.ite (aR rR (pi 0))
 (.ret (.tup [(pi 0),(pi 2)]))
 (.blockS ⟨[(11,jW)],[(1,(.mk [r0]))]⟩ 0 [2,3,12,13,20,21] []
 (.iteS ⟨[],[]⟩ (peq bL (pi 0)) [2,3,20,21] []
 (.call ⟨[],[]⟩ [] 16 226 [(pc o1 1)]
 (.ite (aF cU (pc o1 1))
 (.ret (.tup [(pi 0),(pi 3)]))
 (.ret (.tup [(pi 0),(pi 0)]))))
 (.ite (peq bL (pi 1))
 (.ite (.pick (ah (pc o1 1) (pi 0)) pT (aR (pc o1 1) (pi 1)))
 (.ret (.tup [(pi 0),(pi 3)]))
 (.ret (.tup [(pi 1),(pi 0)])))
 (.next ⟨[],[]⟩))
 (.next ⟨[],[]⟩))
 (.call ⟨[],[]⟩ [] 33 224 [(pc o1 1)]
 (.ite (.nt (.tget tS 1))
 (.ret (.tup [(pi 0),(pi 10)]))
 (.ret (.tup [(.tget tS 0),(pi 0)]))))))
def aii:KW.map told=some (aaj,[]):=by kernel_rfl
def aDH:tree (ab KW)=aaj:=aT aii
def KV:Option PC:=cF [2] [] Tryz.f226 226 []
def aai:PT:=
 (.ret (.mn (.mx r0 (pi (-1099511627776))) rM))
def aih:KV.map told=some (aai,[]):=by kernel_rfl
def aDG:tree (ab KV)=aai:=aT aih
def KS:Option PC:=cF [2,3,4,11] [] Tryz.f224 224 []
def aae:PT:=
 (.ite (.pick (ah r0 (pi 0)) pT (aR r0 (pi 19)))
 (.ret (.tup [(pi 0),pF]))
 (.ite (ah r0 (pi 7))
 (.ret (.tup [(pi 0),pT]))
 (.ret (.tup [(pi 1),pT]))))
def aid:KS.map told=some (aae,[]):=by kernel_rfl
def aDC:tree (ab KS)=aae:=aT aid
def KZ:Option PC:=cF [4,8,13,17,21] [] Tryz.f223 223 [2]
def aam:PT:=
 (.ite (peq r0 (pi 3))
 (.ret (.mk [(pc (.setc mu 0 (.mk [(.lst [(pi 1)]),(pi 1)])) 0),(pc (.setc mu 0 (.mk [(.lst [(pi 1)]),(pi 1)])) 1)]))
 (.ite (.pick (peq r0 (pi 4)) (peq r0 (pi 4)) (peq r0 (pi 5)))
 (.ret (.mk [(pc (.setc mu 0 (.mk [(.lst [(pi 1),(pi 1)]),(pi 1)])) 0),(pc (.setc mu 0 (.mk [(.lst [(pi 1),(pi 1)]),(pi 1)])) 1)]))
 (.ite (peq r0 (pi 6))
 (.ret (.mk [(pc ai4 0),(pc ai4 1)]))
 (.ite (peq r0 (pi 7))
 (.ret (.mk [(pc (.setc mu 0 (.mk [(.lst [(pi 0),(pi 0)]),(pi 1)])) 0),(pc (.setc mu 0 (.mk [(.lst [(pi 0),(pi 0)]),(pi 1)])) 1)]))
 (.ite (peq r0 (pi 8))
 (.ret (.mk [(pc (.setc mu 0 (.mk [(.lst [(pi (-1)),(pi (-1))]),(pi 1)])) 0),(pc (.setc mu 0 (.mk [(.lst [(pi (-1)),(pi (-1))]),(pi 1)])) 1)]))
 (.ret (.mk [(pc (.setc mu 0 (.mk [(.lst [(pi 0),(pi 0)]),(pi 0)])) 0),(pc (.setc mu 0 (.mk [(.lst [(pi 0),(pi 0)]),(pi 0)])) 1)])))))))
def ail:KZ.map told=some (aam,[]):=by kernel_rfl
def aDL:tree (ab KZ)=aam:=aT ail
def KR:Option PC:=cF [5,6,8] [] Tryz.f159 159 [2,4,7]
def aad:PT:=
 (.call ⟨[],[(4,gf),(2,(.mk [r0]))]⟩ [] 11 191 [NK]
 (.ite (aF (.tget bL 1) (pi 0))
 (.ret Hg)
 (.call ⟨[],[]⟩ [] 21 192 [(.mk [r1]),(.mk [(pc o2 0),(pc o2 1),(pc o2 2)])]
 (.ret (.mk [(pc aiX 0),(pc aiX 1)])))))
def aic:KR.map told=some (aad,[]):=by kernel_rfl
def aDB:tree (ab KR)=aad:=aT aic
end Rm
