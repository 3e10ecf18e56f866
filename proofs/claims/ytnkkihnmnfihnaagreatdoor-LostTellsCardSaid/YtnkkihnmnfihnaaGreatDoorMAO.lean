import Derived.Test.YtnkkihnmnfihnaaGreatDoorMAK
import Derived.KernelRfl
import Derived.Test.YtnkkihnmnfihnaaGreatDoorMAL
import Derived.Test.YtnkkihnmnfihnaaGreatDoorMAM
import Derived.Test.YtnkkihnmnfihnaaGreatDoorMAN
import Derived.Test.YtnkkihnmnfihnaaGreatDoorMAJ
import Derived.WalkKit
import Derived.WalkSpells
import Derived.Lib.SliceRun
import Derived.Lib.AppendZeros
import Derived.Laws.Strings
set_option maxRecDepth 100000
noncomputable section
open Go.IntKind (i64)
set_option linter.all false
namespace Rm
open Go Go.Proofs Cx
def A1:Option PC:=cF [9,15,6,41,55,64,73] [] Tryz.f158 158 [2,4,5,37]
def Pq:Nat->PC:=bk A1
variable(b:Nat->PC)
def asX:PC:=.block 1 [5,6,22,23,24,25,26] [5] (.loop [5,6] [5] (b 0))
def rR (b:Nat->PC):PT:=
 (.ite (af r6 (.llen (pc o2 2)))
 (.blockS ⟨[],[]⟩ 2 [5,30,31,32,33,34,35,36,37,38] [5,37]
 (.chk (aj (pc o2 2) r6)
 (.call ⟨[],[]⟩ [] 36 158 [(pn (pc o2 2) r6),r1]
 (.chk (bl (.llen (.app o5 (.lst [nR]))) cj)
 (.next ⟨[(5,pN)],[(5,(.app o5 (.lst [nR])))]⟩))))
 (.next ⟨[(6,(bt r6 (pi 1)))],[]⟩))
 (.exit 1 ⟨[(22,r6),(23,pN),(24,(pc o2 2)),(25,(.llen (pc o2 2))),(26,(af r6 (.llen (pc o2 2))))],[]⟩))
def H8:PT:=
 (.blockS ⟨[(8,lG)],[(4,cU),(2,(.mk [r0]))]⟩ 0 [9,10,15,16] [4]
 (.iteS ⟨[],[]⟩ (.pick (ab r8 (pi 0)) (ab r8 (pi 0)) (ab r8 (pi 1))) [15,16] [4]
 (.ret (.mk [(pc (.setc o4 0 (.mk [pT,(pc o2 1)])) 0),(pc (.setc o4 0 (.mk [pT,(pc o2 1)])) 1)]))
 (.iteS ⟨[],[]⟩ (ab r8 (pi 2)) [] [4]
 (.call ⟨[],[]⟩ [] 20 174 [(pc o2 1),r1]
 (.ret (.mk [(pc (.setc o4 0 eD) 0),(pc (.setc o4 0 eD) 1)])))
 (.next ⟨[],[]⟩)
 (.next ⟨[],[]⟩))
 (.next ⟨[],[]⟩))
 (.brk ⟨[(6,(pi 0)),(5,pN)],[(5,(.lst []))]⟩
(asX b)
 (.blockS ⟨[(40,(pc o2 0))],[]⟩ 3 [41,42,55,56,64,65,73,74] [4]
 (.iteS ⟨[],[]⟩ (ab m3 (pi 3)) [55,56,64,65,73,74] [4]
 (.chk (aj o5 (pi 0))
 (.ite (.nt (pc qp 0))
 (.ret vc)
 (.ret (.mk [(pc (.setc o4 0 (.mk [pT,(be (pi 1) (pc qp 1))])) 0),(pc (.setc o4 0 (.mk [pT,(be (pi 1) (pc qp 1))])) 1)]))))
 (.iteS ⟨[],[]⟩ (ab m3 (pi 4)) [64,65,73,74] [4]
 (.chk (aj o5 (pi 0))
 (.chk (aj o5 (pi 1))
 (.call ⟨[],[]⟩ [] 63 175 [(.sub qp 0 2),(.sub vl 0 2),(pi 0)]
 (.ret (.mk [(pc (.setc o4 0 zS) 0),(pc (.setc o4 0 zS) 1)])))))
 (.iteS ⟨[],[]⟩ (ab m3 (pi 5)) [73,74] [4]
 (.chk (aj o5 (pi 0))
 (.chk (aj o5 (pi 1))
 (.call ⟨[],[]⟩ [] 72 175 [(.sub qp 0 2),(.sub vl 0 2),(pi 1)]
 (.ret (.mk [(pc (.setc o4 0 zT) 0),(pc (.setc o4 0 zT) 1)])))))
 (.ite (ab m3 (pi 6))
 (.chk (aj o5 (pi 0))
 (.ite (pc qp 0)
 (.chk (aj o5 (be (pi 2) (pc qp 1)))
 (.ret (.mk [(pc (.setc o4 0 (.sub (pn o5 (be (pi 2) (pc qp 1))) 0 2)) 0),(pc (.setc o4 0 (.sub (pn o5 (be (pi 2) (pc qp 1))) 0 2)) 1)])))
 (.chk (aj o5 (pi 1))
 (.chk (.nt (.an (.an (pc vl 0) pT) (.nt (aj o5 (pi 2)))))
 (.chk (.nt (.an (.an Um pT) (.nt (aj o5 (pi 1)))))
 (.chk (.nt (.an (.an Um pT) (.nt (aj o5 (pi 2)))))
 (.ite (.pick Um (ab (pc vl 1) (pc (pn o5 (pi 2)) 1)) pF)
 (.ret (.mk [(pc (.setc o4 0 (.sub vl 0 2)) 0),(pc (.setc o4 0 (.sub vl 0 2)) 1)]))
 (.ret vc))))))))
 (.next ⟨[],[]⟩))
 (.next ⟨[],[]⟩))
 (.next ⟨[],[]⟩))
 (.next ⟨[],[]⟩))
 (.chk (aj o5 (pi 0))
 (.chk (.nt (.an (.an (.nt (.nt (pc qp 0))) pT) (.nt (aj o5 (pi 1)))))
 (.ite (.pick (.nt (pc qp 0)) pT (.nt (pc vl 0)))
 (.ret vc)
 (.chk (aj o5 (pi 1))
 (.call ⟨[],[]⟩ [] 135 176 [(pc o2 0),(pc qp 1),(pc vl 1)]
 (.ret (.mk [(pc (.setc o4 0 (.r 135)) 0),(pc (.setc o4 0 (.r 135)) 1)]))))))))))
def anB:PT×List (Shp×PT):=(H8 b,[(.lp 1 [5,6,22,23,24,25,26] [5] [5,6] [5],rR b)])
def To:A1.map told=some (anB (bf A1)):=by kernel_rfl
def azz:tree (ae A1)=H8 Pq:=bA To
def vu:round 1 [5,6,22,23,24,25,26] [5] [5,6] [5] (Pq 0)=rR Pq:=aT To 0 λ_=>rfl
def JG:Option PC:=cF [6,7] [] Tryz.f174 174 [4,5]
def XG:PT:=
 (.ite (.pick (af r0 (pi 0)) pT (bP r0 (.llen r1)))
 (.ret MS)
 (.chk (aj r1 r0)
 (.ite (.nt (pc (.setc cU 0 (pn r1 r0)) 0))
 (.ret MS)
 (.call ⟨[],[(4,cU),(5,(.setc cU 0 (pn r1 r0)))]⟩ [] 27 181 [r0]
 (.iteS ⟨[],[]⟩ (ab (.tget gd 0) (pi 0)) [] [4]
 (.call ⟨[],[]⟩ [] 34 182 [(pc o5 1)]
 (.ret (.mk [(pc (.setc o4 0 (.mk [pT,UI])) 0),(pc (.setc o4 0 (.mk [pT,UI])) 1)])))
 (.next ⟨[],[]⟩)
 (.ite (aH (pc o5 1) (pi 0))
 (.ret (.mk [(pc (.setc o4 0 (.mk [pT,(pi 1)])) 0),(pc (.setc o4 0 (.mk [pT,(pi 1)])) 1)]))
 (.ret (.mk [(pc (.setc o4 0 (.mk [pT,(pi 0)])) 0),(pc (.setc o4 0 (.mk [pT,(pi 0)])) 1)]))))))))
def afp:JG.map told=some (XG,[]):=by kernel_rfl
def azw:tree (ae JG)=XG:=aO afp
def JC:Option PC:=cF [2] [] Tryz.f182 182 []
def Oe:PT:=
 (.ret (.mx (pi (-1099511627776)) (.mn lF r0)))
def afl:JC.map told=some (Oe,[]):=by kernel_rfl
def azs:tree (ae JC)=Oe:=aO afl
def JL:Option PC:=cF [] [] Tryz.f175 175 [3,4,6]
def XH:PT:=
 (.ite (.pick (.pick lG (ab oU r2) pF) pT (.pick (pc (.mk [r1]) 0) (ab (pc (.mk [r1]) 1) r2) pF))
 (.ret (.mk [(pc (.setc cU 0 (.mk [pT,r2])) 0),(pc (.setc cU 0 (.mk [pT,r2])) 1)]))
 (.ite (.pick lG (pc (.mk [r1]) 0) pF)
 (.ret (.mk [(pc (.setc cU 0 (.mk [pT,(be (pi 1) r2)])) 0),(pc (.setc cU 0 (.mk [pT,(be (pi 1) r2)])) 1)]))
 (.ret MS)))
def afv:JL.map told=some (XH,[]):=by kernel_rfl
def azC:tree (ae JL)=XH:=aO afv
def JM:Option PC:=cF [8,14,20,27,34,40] [] Tryz.f176 176 [6]
def vC:PT:=
 (.blockS ⟨[(7,r0)],[(6,cU)]⟩ 0 [8,9,14,15,20,21,27,28,34,35,40,41] [6]
 (.iteS ⟨[],[]⟩ (ab r7 (pi 7)) [14,15,20,21,27,28,34,35,40,41] [6]
 (.call ⟨[],[]⟩ [] 13 183 [(af r1 r2)]
 (.ret (.mk [(pc (.setc o6 0 dk) 0),(pc (.setc o6 0 dk) 1)])))
 (.iteS ⟨[],[]⟩ (ab r7 (pi 8)) [20,21,27,28,34,35,40,41] [6]
 (.call ⟨[],[]⟩ [] 19 183 [(ab r1 r2)]
 (.ret (.mk [(pc (.setc o6 0 iY) 0),(pc (.setc o6 0 iY) 1)])))
 (.iteS ⟨[],[]⟩ (ab r7 (pi 9)) [27,28,34,35,40,41] [6]
 (.call ⟨[],[]⟩ [] 25 182 [(bt r1 r2)]
 (.ret (.mk [(pc (.setc o6 0 (.mk [pT,eM])) 0),(pc (.setc o6 0 (.mk [pT,eM])) 1)])))
 (.iteS ⟨[],[]⟩ (ab r7 (pi 10)) [34,35,40,41] [6]
 (.call ⟨[],[]⟩ [] 32 182 [(be r1 r2)]
 (.ret (.mk [(pc (.setc o6 0 (.mk [pT,kV])) 0),(pc (.setc o6 0 (.mk [pT,kV])) 1)])))
 (.iteS ⟨[],[]⟩ (ab r7 (pi 11)) [40,41] [6]
 (.call ⟨[],[]⟩ [] 38 184 [r1,r2]
 (.ret (.mk [(pc (.setc o6 0 (.mk [pT,fi])) 0),(pc (.setc o6 0 (.mk [pT,fi])) 1)])))
 (.ite (ab r7 (pi 12))
 (.ret (.mk [(pc (.setc o6 0 (.mk [pT,(.mn r1 r2)])) 0),(pc (.setc o6 0 (.mk [pT,(.mn r1 r2)])) 1)]))
 (.next ⟨[],[]⟩))
 (.next ⟨[],[]⟩))
 (.next ⟨[],[]⟩))
 (.next ⟨[],[]⟩))
 (.next ⟨[],[]⟩))
 (.next ⟨[],[]⟩))
 (.ret (.mk [(pc (.setc o6 0 (.mk [pT,(.mx r1 r2)])) 0),(pc (.setc o6 0 (.mk [pT,(.mx r1 r2)])) 1)])))
def afw:JM.map told=some (vC,[]):=by kernel_rfl
def azD:tree (ae JM)=vC:=aO afw
def JN:Option PC:=cF [] [] Tryz.f183 183 [2]
def XI:PT:=
 (.ite r0
 (.ret Uu)
 (.ret Uv))
def afx:JN.map told=some (XI,[]):=by kernel_rfl
def azE:tree (ae JN)=XI:=aO afx
def JF:Option PC:=cF [4,5,6] [] Tryz.f184 184 []
def Of:PT:=
 (.ite (.pick (ab r0 (pi 0)) pT (ab r1 (pi 0)))
 (.ret (pi 0))
 (.chk (aH (.mx r1 (be (pi 0) r1)) (pi 0))
 (.ite (.cb .neq (af r0 (pi 0)) (af r1 (pi 0)))
 (.ret (.ai .mul .i64 (be (pi 0) (.pick MU lF (.mx r0 (be (pi 0) r0)))) (.pick MU (pi 1) (.mx r1 (be (pi 0) r1)))))
 (.ret (.ai .mul .i64 (.pick MU lF (.mx r0 (be (pi 0) r0))) (.pick MU (pi 1) (.mx r1 (be (pi 0) r1))))))))
def afo:JF.map told=some (Of,[]):=by kernel_rfl
def azv:tree (ae JF)=Of:=aO afo
def JW:Option PC:=cF [2] [] Tryz.f67 67 [1]
def Oh:PT:=
 (.ite (.pick (ab (pc (.mk [r0]) 4) (pi 0)) lG pF)
 (.ret oU)
 (.ret (pi (-1))))
def afG:JW.map told=some (Oh,[]):=by kernel_rfl
def azU:tree (ae JW)=Oh:=aO afG
def AU:Option PC:=cF [8,9] [] Tryz.f20 20 [3,6,7,4103,24583,10,59,82]
def Pk:Nat->PC:=bk AU
def asO:PC:=.block 0 [9,19,20,21,22,23,27] [7,24583,4103] (.loop [9] [7,24583,4103] (b 0))
def Hd (b:Nat->PC):PT:=
 (.ite (.pick (af r9 (.llen r8)) (ab (pc o7 2) (pi (-1))) pF)
 (.blockS ⟨[],[]⟩ 1 [10,30,31,32,33,34,35,36,37,38,39,40,41,47] [10,4103,24583,7]
 (.chk (aj r8 r9)
 (.chk (aj (pc o3 15) (pn r8 r9))
 (.iteS ⟨[],[(10,(.setc z9 0 (pn (pc o3 15) (pn r8 r9))))]⟩ (.pick (aH (pc o7 1) (pi (-1))) (aH (pc (.setc z9 0 (pn (pc o3 15) (pn r8 r9))) 2) (pc o7 1)) pF) [] [4103,24583,7]
 (.chk (aj r8 r9)
 (.next ⟨[],[(7,(.setc o7 2 (pn r8 r9)))]⟩))
 (.chk (aj r8 r9)
 (.chk (bl (.llen (.app (.o 4103) (.lst [(pn r8 r9)]))) cj)
 (.call ⟨[],[(7,(.setc (.setc o7 0 pN) 1 (pc bM 4))),(4103,(.app (.o 4103) (.lst [(pn r8 r9)])))]⟩ [] 69 52 [(pc (.setc (.setc o7 0 pN) 1 (pc bM 4)) 4),(pc bM 8)]
 (.call ⟨[],[(7,(.setc o7 4 tw))]⟩ [] 75 53 [(au 19 o3),(pc bM 6),r2]
 (.ite M3
 (.chk (aj r8 r9)
 (.chk (bl (.llen (.app (.o 24583) (.lst [(pn r8 r9)]))) cj)
 (.next ⟨[],[(24583,(.app (.o 24583) (.lst [(pn r8 r9)]))),(7,(.setc o7 5 pN))]⟩)))
 (.next ⟨[],[]⟩))))))
 (.next ⟨[],[]⟩))))
 (.next ⟨[(9,(bt r9 (pi 1)))],[]⟩))
 (.exit 0 ⟨[(19,r9),(20,r8),(21,(.llen r8)),(22,(af r9 (.llen r8))),(23,(af r9 (.llen r8))),(27,(.pick (af r9 (.llen r8)) (ab (pc o7 2) (pi (-1))) pF))],[]⟩))
def Xt:PT:=
 (.call ⟨[],[(24583,pL),(4103,pL),(7,(.setc xd 0 (.mk [pL,xe,(pi (-1)),pF,(pi 0),pL]))),(6,xd),(3,(.mk [r0]))]⟩ [] 18 22 [(au 19 (.mk [r0])),r1,r2]
 (.brk ⟨[(9,(pi 0)),(8,ju)],[]⟩
(asO b)
 (.ret (au 6 (.setc o6 0 (.mk [(.o 4103),(pc ML 1),(pc ML 2),(pc ML 3),(pc ML 4),(.o 24583)]))))))
def ant:PT×List (Shp×PT):=(Xt b,[(.lp 0 [9,19,20,21,22,23,27] [7,24583,4103] [9] [7,24583,4103],Hd b)])
def Th:AU.map told=some (ant (bf AU)):=by kernel_rfl
def aze:tree (ae AU)=Xt Pk:=bA Th
def Ve:round 0 [9,19,20,21,22,23,27] [7,24583,4103] [9] [7,24583,4103] (Pk 0)=Hd Pk:=aT Th 0 λ_=>rfl
def AV:Option PC:=cF [8] [] Tryz.f22 22 [3,6,7,9]
def Pl:Nat->PC:=bk AV
def asP:PC:=.block 0 [7,8,11,12,13,14,15] [7] (.loop [7,8] [7] (b 0))
def Np (b:Nat->PC):PT:=
 (.ite (af r8 nP)
 (.blockS ⟨[],[]⟩ 1 [7,9,18,19,20,21,22,23,24,25,26,31,32,37,38,44] [9,7]
 (.chk (aj (pc o3 15) r8)
 (.call ⟨[(38,(.pick (.pick (ab (pc (.setc z9 0 (pn (pc o3 15) r8)) 0) (pi 2)) (ab (pc (.setc z9 0 (pn (pc o3 15) r8)) 1) r1) pF) (bl (pc (.setc z9 0 (pn (pc o3 15) r8)) 6) r2) pF))],[]⟩ [(38,true)] 42 54 [(au 19 o3),r8,r2]
 (.ite (.pick fi (.nt oZ) pF)
 (.chk (bl (.llen (.app o7 (.lst [r8]))) cj)
 (.next ⟨[(7,pN)],[(7,(.app o7 (.lst [r8])))]⟩))
 (.next ⟨[],[]⟩))))
 (.next ⟨[(8,nQ)],[]⟩))
 (.exit 0 ⟨[(11,r8),(12,pN),(13,(pc o3 15)),(14,nP),(15,(af r8 nP))],[]⟩))
def Xu:PT:=
 (.brk ⟨[(8,(pi 0)),(7,pN)],[(7,(.lst [])),(3,(.mk [r0]))]⟩
(asP b)
 (.ret o7))
def anu:PT×List (Shp×PT):=(Xu b,[(.lp 0 [7,8,11,12,13,14,15] [7] [7,8] [7],Np b)])
def Ti:AV.map told=some (anu (bf AV)):=by kernel_rfl
def azf:tree (ae AV)=Xu Pl:=bA Ti
def ahM:round 0 [7,8,11,12,13,14,15] [7] [7,8] [7] (Pl 0)=Np Pl:=aT Ti 0 λ_=>rfl
def AW:Option PC:=cF [6,7] [] Tryz.f54 54 [3]
def Pm:Nat->PC:=bk AW
def asQ:PC:=.block 0 [6,7,17,18,19,20,21] [] (.loop [6,7] [] (b 0))
def He (b:Nat->PC):PT:=
 (.ite (af r7 rJ)
 (.chk (aj (pc o3 17) r7)
 (.chk (.nt (.an (.an (ab (pc jT 0) (pi 7)) pT) (.nt (aj (pc o3 17) r7))))
 (.chk (.nt (.an (.an (.pick (ab (pc jT 0) (pi 7)) (ab (pc jT 4) r1) pF) pT) (.nt (aj (pc o3 17) r7))))
 (.ite (.pick (.pick (ab (pc jT 0) (pi 7)) (ab (pc jT 4) r1) pF) (bl (pc jT 6) r2) pF)
 (.ret pT)
 (.next ⟨[(7,xb)],[]⟩)))))
 (.exit 0 ⟨[(17,r7),(18,pN),(19,(pc o3 17)),(20,rJ),(21,(af r7 rJ))],[]⟩))
def Oc:PT:=
 (.ite (.pick (af r1 (pi 0)) pT (bP r1 (.llen mj)))
 (.ret pF)
 (.brk ⟨[(7,(pi 0)),(6,pF)],[(3,(.mk [r0]))]⟩
(asQ b)
 (.ret pF)))
def anv:PT×List (Shp×PT):=(Oc b,[(.lp 0 [6,7,17,18,19,20,21] [] [6,7] [],He b)])
def Tj:AW.map told=some (anv (bf AW)):=by kernel_rfl
def azg:tree (ae AW)=Oc Pm:=bA Tj
def Vf:round 0 [6,7,17,18,19,20,21] [] [6,7] [] (Pm 0)=He Pm:=aT Tj 0 λ_=>rfl
def Jw:Option PC:=cF [4] [] Tryz.f52 52 []
def Xw:PT:=
 (.ite (.pick (aH (.ai .and .i64 r1 (pi 2)) (pi 0)) pT (aH r0 (pi 0)))
 (.ret (pi 1))
 (.ite (aH (.ai .and .i64 r1 (pi 4)) (pi 0))
 (.ret (pi 2))
 (.ret (pi 0))))
def aff:Jw.map told=some (Xw,[]):=by kernel_rfl
def azi:tree (ae Jw)=Xw:=aO aff
def AX:Option PC:=cF [6,7] [] Tryz.f53 53 [3,8]
def Pn:Nat->PC:=bk AX
def asR:PC:=.block 0 [6,7,9,10,11,12,13] [] (.loop [6,7] [] (b 0))
def Hf (b:Nat->PC):PT:=
 (.ite (af r7 rJ)
 (.chk (aj (pc o3 17) r7)
 (.ite (.pick (.pick (.pick (.pick (ab (pc (.setc z9 0 jT) 0) (pi 1)) pT (ab (pc (.setc z9 0 jT) 0) (pi 3))) pT (ab (pc (.setc z9 0 jT) 0) (pi 4))) (bl (pc (.setc z9 0 jT) 6) r2) pF) (af (pc (.setc z9 0 jT) 6) r1) pF)
 (.ret pT)
 (.next ⟨[(7,xb)],[]⟩)))
 (.exit 0 ⟨[(9,r7),(10,pN),(11,(pc o3 17)),(12,rJ),(13,(af r7 rJ))],[]⟩))
def Xv:PT:=
 (.brk ⟨[(7,(pi 0)),(6,pF)],[(3,(.mk [r0]))]⟩
(asR b)
 (.ret pF))
def anw:PT×List (Shp×PT):=(Xv b,[(.lp 0 [6,7,9,10,11,12,13] [] [6,7] [],Hf b)])
def Tk:AX.map told=some (anw (bf AX)):=by kernel_rfl
def azh:tree (ae AX)=Xv Pn:=bA Tk
def Vg:round 0 [6,7,9,10,11,12,13] [] [6,7] [] (Pn 0)=Hf Pn:=aT Tk 0 λ_=>rfl
def Bd:Option PC:=cF [4,5] [] Tryz.f23 23 []
def PF:Nat->PC:=bk Bd
def as9:PC:=.block 0 [4,5,6,7,8,9] [] (.loop [4,5] [] (b 0))
def Hs (b:Nat->PC):PT:=
 (.ite (af r5 (.llen r0))
 (.chk (aj r0 r5)
 (.ite (ab (pn r0 r5) r1)
 (.ret pT)
 (.next ⟨[(5,qo)],[]⟩)))
 (.exit 0 ⟨[(6,r5),(7,r0),(8,(.llen r0)),(9,(af r5 (.llen r0)))],[]⟩))
def X3:PT:=
 (.brk ⟨[(5,(pi 0)),(4,pF)],[]⟩
(as9 b)
 (.ret pF))
def anO:PT×List (Shp×PT):=(X3 b,[(.lp 0 [4,5,6,7,8,9] [] [4,5] [],Hs b)])
def TC:Bd.map told=some (anO (bf Bd)):=by kernel_rfl
def az1:tree (ae Bd)=X3 PF:=bA TC
def Vu:round 0 [4,5,6,7,8,9] [] [4,5] [] (PF 0)=Hs PF:=aT TC 0 λ_=>rfl
def AS:Option PC:=cF [4,5,6,7,8] [] Tryz.f12 12 [2,3]
def tX:Nat->PC:=bk AS
def asK:PC:=.block 0 [4,5,50,51,52,53,54] [] (.loop [4,5] [] (b 0))
def asL:PC:=.block 2 [4,6,68,69,70,71,72] [] (.loop [4,6] [] (b 1))
def asM:PC:=.block 4 [4,7,86,87,88,89,90] [] (.loop [4,7] [] (b 2))
def asN:PC:=.block 6 [4,8,104,105,106,107,108] [] (.loop [4,8] [] (b 3))
def Nk (b:Nat->PC):PT:=
 (.ite zM
 (.chk (aj (pc o2 15) r5)
 (.chk (aj (pc o3 15) r5)
 (.ite (.nt (.an (ab (pc rI 0) (pc vh 0)) (.an (ab (pc rI 1) (pc vh 1)) (.an (ab (pc rI 2) (pc vh 2)) (.an (ab (pc rI 3) (pc vh 3)) (.an (ab (pc rI 4) (pc vh 4)) (.an (ab (pc rI 5) (pc vh 5)) (.an (ab (pc rI 6) (pc vh 6)) (.an (ab (pc rI 7) (pc vh 7)) (.an (ab (pc rI 8) (pc vh 8)) pT))))))))))
 (.ret pF)
 (.next ⟨[(5,qo)],[]⟩))))
 (.exit 0 ⟨[(50,r5),(51,pN),(52,(pc o2 15)),(53,(.llen (pc o2 15))),(54,zM)],[]⟩))
def Nl (b:Nat->PC):PT:=
 (.ite (af r6 zE)
 (.chk (aj (pc o2 16) r6)
 (.chk (aj (pc o3 16) r6)
 (.ite (.nt (.an (ab (pc (pn (pc o2 16) r6) 0) (pc (pn (pc o3 16) r6) 0)) (.an (ab (pc (pn (pc o2 16) r6) 1) (pc (pn (pc o3 16) r6) 1)) pT)))
 (.ret pF)
 (.next ⟨[(6,(bt r6 (pi 1)))],[]⟩))))
 (.exit 2 ⟨[(68,r6),(69,pN),(70,(pc o2 16)),(71,zE),(72,(af r6 zE))],[]⟩))
def Nm (b:Nat->PC):PT:=
 (.ite (af r7 tq)
 (.chk (aj (pc o2 17) r7)
 (.chk (aj (pc o3 17) r7)
 (.ite (.nt (.an (ab (pc vi 0) (pc jT 0)) (.an (ab (pc vi 1) (pc jT 1)) (.an (ab (pc vi 2) (pc jT 2)) (.an (ab (pc vi 3) (pc jT 3)) (.an (ab (pc vi 4) (pc jT 4)) (.an (ab (pc vi 5) (pc jT 5)) (.an (ab (pc vi 6) (pc jT 6)) (.an (ab (pc vi 7) (pc jT 7)) (.an (ab (pc vi 8) (pc jT 8)) pT))))))))))
 (.ret pF)
 (.next ⟨[(7,xb)],[]⟩))))
 (.exit 4 ⟨[(86,r7),(87,pN),(88,(pc o2 17)),(89,tq),(90,(af r7 tq))],[]⟩))
def Nn (b:Nat->PC):PT:=
 (.ite (af r8 zD)
 (.chk (aj (pc o2 18) r8)
 (.chk (aj (pc o3 18) r8)
 (.ite (.nt (.an (ab (pc (pn (pc o2 18) r8) 0) (pc (pn (pc o3 18) r8) 0)) (.an (ab (pc (pn (pc o2 18) r8) 1) (pc (pn (pc o3 18) r8) 1)) (.an (ab (pc (pn (pc o2 18) r8) 2) (pc (pn (pc o3 18) r8) 2)) pT))))
 (.ret pF)
 (.next ⟨[(8,nQ)],[]⟩))))
 (.exit 6 ⟨[(104,r8),(105,pN),(106,(pc o2 18)),(107,zD),(108,(af r8 zD))],[]⟩))
def Xo:PT:=
 (.ite (.pick (.pick (.pick (.pick (.nt (.an (ab (pc mi 0) (pc kq 0)) (.an (ab (pc mi 1) (pc kq 1)) (.an (ab (pc mi 2) (pc kq 2)) (.an (ab (pc mi 3) (pc kq 3)) (.an (ab (pc mi 4) (pc kq 4)) (.an (.an (ab (pc mi 5) (pc kq 5)) (.an (ab (pc mi 6) (pc kq 6)) (.an (ab (pc mi 7) (pc kq 7)) pT))) (.an (ab (pc mi 8) (pc kq 8)) (.an (ab (pc mi 9) (pc kq 9)) (.an (ab (pc mi 10) (pc kq 10)) (.an (ab (pc mi 11) (pc kq 11)) (.an (ab (pc mi 12) (pc kq 12)) (.an (ab (pc mi 13) (pc kq 13)) (.an (ab (pc mi 14) (pc kq 14)) pT)))))))))))))) pT (aH (.llen mj) (.llen C1))) pT (aH (.llen (pc (.mk [r0]) 16)) (.llen (pc (.mk [r1]) 16)))) pT (aH (.llen C2) (.llen C0))) pT (aH (.llen vj) (.llen (pc (.mk [r1]) 18))))
 (.ret pF)
 (.brk ⟨[(5,(pi 0)),(4,pF)],[(3,(.mk [r1])),(2,(.mk [r0]))]⟩
(asK b)
 (.brk ⟨[(6,(pi 0))],[]⟩
(asL b)
 (.brk ⟨[(7,(pi 0))],[]⟩
(asM b)
 (.brk ⟨[(8,(pi 0))],[]⟩
(asN b)
 (.ret pT))))))
def anr:PT×List (Shp×PT):=(Xo b,[(.lp 0 [4,5,50,51,52,53,54] [] [4,5] [],Nk b),(.lp 2 [4,6,68,69,70,71,72] [] [4,6] [],Nl b),(.lp 4 [4,7,86,87,88,89,90] [] [4,7] [],Nm b),(.lp 6 [4,8,104,105,106,107,108] [] [4,8] [],Nn b)])
def CB:AS.map told=some (anr (bf AS)):=by kernel_rfl
def ay9:tree (ae AS)=Xo tX:=bA CB
def ahI:round 0 [4,5,50,51,52,53,54] [] [4,5] [] (tX 0)=Nk tX:=aT CB 0 λ_=>rfl
def ahJ:round 2 [4,6,68,69,70,71,72] [] [4,6] [] (tX 1)=Nl tX:=aT CB 1 λ_=>rfl
def ahK:round 4 [4,7,86,87,88,89,90] [] [4,7] [] (tX 2)=Nm tX:=aT CB 2 λ_=>rfl
def ahL:round 6 [4,8,104,105,106,107,108] [] [4,8] [] (tX 3)=Nn tX:=aT CB 3 λ_=>rfl
def IN:Option PC:=nA {ctx with fr:=[6],nh:=[]} Tryz.f114 ⟨[Y8,I,ns],.slice I,.dat⟩ [3,5,7,8,42,9]
def Wq:PT:=
 (.chk (aj (pc (.mk [r2]) 15) (pc (.mk [r2]) 19))
 (.ite agX
 (.ret pL)
 (.chk Un
 (.chk (ab (pi 5) (pi 5))
 (.chk (aj CY (pi 0))
 (.call ⟨[],[(9,(.setn CY (pi 0) 0 r1)),(8,(.setc kz 0 (au 15 (.mk [r2])))),(7,C5),(3,(.mk [r0]))]⟩ [] 50 127 [fN,(pc C5 7)]
 (.chk (aj o9 (pi 1))
 (.call ⟨[],[(9,(.setn o9 (pi 1) 0 m4))]⟩ [] 56 127 [(au 8 o3),(pc o8 10)]
 (.chk (aj o9 (pi 2))
 (.call ⟨[],[(9,(.setn o9 (pi 2) 0 rP))]⟩ [] 62 127 [(au 8 o3),(pc o8 9)]
 (.chk (aj o9 (pi 3))
 (.chk (aj (pc o3 3) (pc o7 2))
 (.call ⟨[],[(9,(.setn o9 (pi 3) 0 m6))]⟩ [] 73 127 [(au 8 o3),(pc (pn (pc o3 3) (pc o7 2)) 1)]
 (.chk (aj o9 (pi 4))
 (.call ⟨[],[(9,(.setn o9 (pi 4) 0 zU))]⟩ [] 76 18 [(.setn o9 (pi 4) 0 zU),(pi (-1))]
 (.ite xh
 (.ret pL)
 (.ret o9)))))))))))))))))
def aex:IN.map told=some (Wq,[]):=by kernel_rfl
def ax7:tree (ae IN)=Wq:=aO aex
def IP:Option PC:=nA {ctx with fr:=[6],nh:=[]} Tryz.f114 ⟨[Y8,I,ns],.nils .bool,.dat⟩ [3,5,7,8,42,9]
def N5:PT:=
 (.chk (aj (pc (.mk [r2]) 15) (pc (.mk [r2]) 19))
 (.ite agX
 (.ret pL)
 (.chk Un
 (.chk (ab (pi 5) (pi 5))
 (.chk (aj CY (pi 0))
 (.call ⟨[],[(9,(.setn CY (pi 0) 0 r1)),(8,(.setc kz 0 (au 15 (.mk [r2])))),(7,C5),(3,(.mk [r0]))]⟩ [] 50 127 [fN,(pc C5 7)]
 (.chk (aj o9 (pi 1))
 (.call ⟨[],[(9,(.setn o9 (pi 1) 0 m4))]⟩ [] 56 127 [(au 8 o3),(pc o8 10)]
 (.chk (aj o9 (pi 2))
 (.call ⟨[],[(9,(.setn o9 (pi 2) 0 rP))]⟩ [] 62 127 [(au 8 o3),(pc o8 9)]
 (.chk (aj o9 (pi 3))
 (.chk (aj (pc o3 3) (pc o7 2))
 (.call ⟨[],[(9,(.setn o9 (pi 3) 0 m6))]⟩ [] 73 127 [(au 8 o3),(pc (pn (pc o3 3) (pc o7 2)) 1)]
 (.chk (aj o9 (pi 4))
 (.call ⟨[],[]⟩ [] 76 18 [(.setn o9 (pi 4) 0 zU),(pi (-1))]
 (.ite xh
 (.ret pL)
 (.chk pF
 (.next ⟨[],[]⟩))))))))))))))))))
def aey:IP.map told=some (N5,[]):=by kernel_rfl
def ax8:tree (ae IP)=N5:=aO aey
def T4:List Nat:=[3,4,13,10,8,24,55,74,96,97,124,142,143,163,98,99,100,101,125,102,103,104,105,106,75,76,77,56,57,78,107,108,18,50,58,79,59,81,109,80,25,26,27,28,29,30,31,60,32,33,36,66,89,112,17,49,126,145,144,164,127,146,147,113,115,128,149,148,165,129,90,116,131,130,132,150,151,166,170,168,167,117,133,152,169,153,171,177,185,154,35,16,46,47,51,48,6,19,5,14,38,39,40,69,92,15,41,70,93,123,94,71,63,95,42,43,72,44,45,7,11,9,34,61,82,83,84,85,86,62,87,110,111,64,88,65,37,68,91,118,122,21,141,159,160,161,134,162,119,120,135,136,155,121,137,139,156,173,178,179,181,180,157,140,138,158,174,182,175,176,183,184,67,20,22,54,52,53,23,12]
def CV:List (Nat×PC):=[(3,(ae IW)),(4,(ae IY)),(13,(ae Er)),(10,(ae Az)),(8,(ae Ay)),(24,(ae yd)),(55,(ae Es)),(74,(ae Be)),(96,(ae Bi)),(97,(ae Bg)),(124,(ae J4)),(142,(ae Bh)),(143,(ae Kc)),(163,(ae Bw)),(98,(ae JY)),(99,(ae JZ)),(100,(ae Bf)),(101,(ae J3)),(125,(ae Bl)),(102,(ae J0)),(103,(ae J1)),(104,(ae Bj)),(105,(ae Bm)),(106,(ae Bk)),(75,(ae Ks)),(76,(ae Kt)),(77,(ae yf)),(56,(ae AE)),(57,(ae Jd)),(78,(ae Jc)),(107,(ae Jb)),(108,(ae Je)),(18,(ae Kb)),(50,(ae Bv)),(58,(ae AB)),(79,(ae Ja)),(59,(ae AD)),(81,(ae IS)),(109,(ae IT)),(80,(ae Au)),(25,(ae IZ)),(26,(ae I5)),(27,(ae I0)),(28,(ae I1)),(29,(ae I2)),(30,(ae I3)),(31,(ae J9)),(60,(ae Bs)),(32,(ae I4)),(33,(ae AA)),(36,(ae IJ)),(66,(ae II)),(89,(ae IL)),(112,(ae IM)),(17,(ae Bn)),(49,(ae J7)),(126,(ae Bp)),(145,(ae J5)),(144,(ae J8)),(164,(ae Br)),(127,(ae J2)),(146,(ae J6)),(147,(ae Bo)),(113,(ae I7)),(115,(ae Av)),(128,(ae IU)),(149,(ae IV)),(148,(ae Ka)),(165,(ae Bu)),(129,(ae Aw)),(90,(ae I6)),(116,(ae I8)),(131,(ae I9)),(130,(ae Bt)),(132,(ae Kd)),(150,(ae yg)),(151,(ae Bx)),(166,(ae Kj)),(170,(ae Ki)),(168,(ae Kf)),(167,(ae Km)),(117,(ae Ke)),(133,(ae By)),(152,(ae Kk)),(169,(ae Ko)),(153,(ae Kh)),(171,(ae Kg)),(177,(ae Kl)),(185,(ae IQ)),(154,(ae Bq)),(35,(ae IK)),(16,(ae Bz)),(46,(ae BA)),(47,(ae Kq)),(51,(ae BB)),(48,(ae Kr)),(6,(ae Ax)),(19,(ae Kp)),(5,(ae IX)),(14,(ae A8)),(38,(ae AG)),(39,(ae Jx)),(40,(ae A3)),(69,(ae JE)),(92,(ae ye)),(15,(ae Jg)),(41,(ae AM)),(70,(ae Jl)),(93,(ae AH)),(123,(ae Ji)),(94,(ae AF)),(71,(ae AI)),(63,(ae Jk)),(95,(ae AK)),(42,(ae AN)),(43,(ae AO)),(72,(ae AJ)),(44,(ae AQ)),(45,(ae AP)),(7,(ae Ba)),(11,(ae Bc)),(9,(ae Bb)),(34,(ae AR)),(61,(ae Jm)),(82,(ae Jo)),(83,(ae Jp)),(84,(ae Jf)),(85,(ae Jn)),(86,(ae AL)),(62,(ae AT)),(87,(ae Jr)),(110,(ae Ju)),(111,(ae Js)),(64,(ae Jt)),(88,(ae Jq)),(65,(ae Jv)),(37,(ae JX)),(68,(ae JU)),(91,(ae JT)),(118,(ae A9)),(122,(ae JV)),(21,(ae AY)),(141,(ae A0)),(159,(ae Jz)),(160,(ae JA)),(161,(ae Jy)),(134,(ae Jj)),(162,(ae AZ)),(119,(ae JP)),(120,(ae A6)),(135,(ae A7)),(136,(ae JS)),(155,(ae A5)),(121,(ae JO)),(137,(ae JR)),(139,(ae A4)),(156,(ae JB)),(173,(ae A2)),(178,(ae JI)),(179,(ae JK)),(181,(ae JH)),(180,(ae JJ)),(157,(ae JQ)),(140,(ae Jh)),(138,(ae JD)),(158,(ae A1)),(174,(ae JG)),(182,(ae JC)),(175,(ae JL)),(176,(ae JM)),(183,(ae JN)),(184,(ae JF)),(67,(ae JW)),(20,(ae AU)),(22,(ae AV)),(54,(ae AW)),(52,(ae Jw)),(53,(ae AX)),(23,(ae Bd)),(12,(ae AS))]
def tab:Nat->Option PC:=bS CV
def agv:CV.map (·.1)=T4:=by kernel_rfl
def avq:(CV.map (·.1)).Nodup:=by rw[agv];exact nL (by kernel_rfl)
def lA (k:Nat){f:Nat}{x:PC}(h:CV[k]?=some (f,x):=by kernel_rfl):tab f=some x:=adJ avq h
def akw:tab 13=some (ae Er):=lA 2 (by kernel_rfl)
def Z9:tab 24=some (ae yd):=lA 5 (by kernel_rfl)
def aad:tab 55=some (ae Es):=lA 6 (by kernel_rfl)
def aab:tab 77=some (ae yf):=lA 26 (by kernel_rfl)
def aac:tab 150=some (ae yg):=lA 75 (by kernel_rfl)
def aaa:tab 92=some (ae ye):=lA 104 (by kernel_rfl)
def caps:∀f cs,bS P5 f=some cs->(nI cs.args cs.res=none->bS xu f=some ⟨cs.args++cs.caps,cs.res,.dat⟩)/\∀ys,nI cs.args cs.res=some ys->fX T4 f=false/\H7 Tryz.prog f=true:=aaq (l:=P5) (sig:=xu) (P:=Tryz.prog) (pcs:=T4) (by kernel_rfl)
def clos:dJ ctx:=⟨(λf cs h=>(caps f cs h).1),λf s h=>aiP (l:=xu) (P:=Tryz.prog) (by kernel_rfl) f s h⟩
def its:∀f cs ys,ctx.cap f=some cs->nI cs.args cs.res=some ys->tab f=none/\∃fn,ctx.P.funcs[f]?=some fn/\fn.body.isSome=true/\(fn.name== "runtime.NumGoroutine")=false:=λf cs ys h hi=>⟨adA (l:=CV) (by rw[agv];exact((caps f cs h).2 ys hi).1),axY ((caps f cs h).2 ys hi).2⟩
def axO:∀f pc,tab f=some pc->∃fn s ids fr nh,ctx.P.funcs[f]?=some fn/\ctx.sig f=some s/\nA {ctx with fr:=fr,nh:=nh} fn s ids=some pc:=
 SI (R:=λf pc=>∃fn s ids fr nh,ctx.P.funcs[f]?=some fn/\ctx.sig f=some s/\nA {ctx with fr:=fr,nh:=nh} fn s ids=some pc) (l:=CV)
  (ay (az [5,7,8,12,14] [10,11,13,15] [] Tryz.func3 rfl (ax IW aeE))
  (ay (az [1,2,3,24579,5] [0,4,6,8,9,10,1000003] [] Tryz.func4 rfl (ax IY aeH))
  (ay (az [0,1,2,24578,3,12291,4,24580,28676,32772,5,65541,69637,73733,77829] [] [] Tryz.func13 rfl (ax Er aeF))
  (ay (az [5,7,8,12,15] [10,11,13] [] Tryz.func10 rfl (ax Az S5))
  (ay (az [3,4,5,8,28,10] [6,7] [] Tryz.func8 rfl (ax Ay S4))
  (ay (az [2,3,10] [4,5,6,7,8,11] [] Tryz.func24 rfl (ax yd Mk))
  (ay (az [2,3] [4,5,6,7,8,54,80,109,118,9,10] [] Tryz.func55 rfl (ax Es agb))
  (ay (az [1,9] [2,3,4,5,6,7,10,11,12] [] Tryz.func74 rfl (ax Be TD))
  (ay (az [1,2,3,4,6,16390,20486,24582,21,8,34,10,12298,16394,47] [] [] Tryz.func96 rfl (ax Bi Gs))
  (ay (az [] [6,7,8] [] Tryz.func97 rfl (ax Bg TG))
  (ay (az [] [4] [] Tryz.func124 rfl (ax J4 afO))
  (ay (az [] [2,3,4,5] [] Tryz.func142 rfl (ax Bh TH))
  (ay (az [] [4] [] Tryz.func143 rfl (ax Kc afW))
  (ay (az [] [4,5] [] Tryz.func163 rfl (ax Bw TP))
  (ay (az [] [2] [] Tryz.func98 rfl (ax JY afI))
  (ay (az [] [3] [] Tryz.func99 rfl (ax JZ afJ))
  (ay (az [2,3] [4,6] [] Tryz.func100 rfl (ax Bf TF))
  (ay (az [] [4] [] Tryz.func101 rfl (ax J3 afN))
  (ay (az [] [6,7,8] [] Tryz.func125 rfl (ax Bl TI))
  (ay (az [] [3] [] Tryz.func102 rfl (ax J0 afK))
  (ay (az [] [3] [] Tryz.func103 rfl (ax J1 afL))
  (ay (az [1,3,4,6,19,8,16392,36] [2] [] Tryz.func104 rfl (ax Bj Mr))
  (ay (az [1,4,6] [2,3] [] Tryz.func105 rfl (ax Bm Mt))
  (ay (az [1,4,6] [2] [] Tryz.func106 rfl (ax Bk Ms))
  (ay (az [] [4] [] Tryz.func75 rfl (ax Ks agc))
  (ay (az [1,3] [2,8,19,40] [] Tryz.func76 rfl (ax Kt agd))
  (ay (az [3,9] [6,7] [] Tryz.func77 rfl (ax yf TE))
  (ay (az [3,4,7,11] [6,8,9,76,92,98] [] Tryz.func56 rfl (ax AE S9))
  (ay (az [] [6] [] Tryz.func57 rfl (ax Jd aeW))
  (ay (az [3,4,7,8] [6,9,10,66,103,113,11,140,149] [] Tryz.func78 rfl (ax Jc aeV))
  (ay (az [3] [6,7] [] Tryz.func107 rfl (ax Jb aeU))
  (ay (az [3] [6] [] Tryz.func108 rfl (ax Je aeX))
  (ay (az [] [4] [] Tryz.func18 rfl (ax Kb afV))
  (ay (az [] [4,5] [] Tryz.func50 rfl (ax Bv TO))
  (ay (az [2,3,6] [4,5,7] [] Tryz.func58 rfl (ax AB S7))
  (ay (az [3,4,5] [6,7,8,9,65,80,100,111] [] Tryz.func79 rfl (ax Ja aeT))
  (ay (az [1,4,5] [2,3] [] Tryz.func59 rfl (ax AD S8))
  (ay (az [] [4,5,6] [] Tryz.func81 rfl (ax IS aeA))
  (ay (az [] [2] [] Tryz.func109 rfl (ax IT aeB))
  (ay (az [] [2,3,5] [] Tryz.func80 rfl (ax Au SW))
  (ay (az [2] [3] [] Tryz.func25 rfl (ax IZ aeI))
  (ay (az [2] [4] [] Tryz.func26 rfl (ax I5 aeO))
  (ay (az [] [2] [] Tryz.func27 rfl (ax I0 aeJ))
  (ay (az [] [2] [] Tryz.func28 rfl (ax I1 aeK))
  (ay (az [] [1] [] Tryz.func29 rfl (ax I2 aeL))
  (ay (az [] [2] [] Tryz.func30 rfl (ax I3 aeM))
  (ay (az [] [4] [] Tryz.func31 rfl (ax J9 afT))
  (ay (az [] [4,5] [] Tryz.func60 rfl (ax Bs TL))
  (ay (az [] [2] [] Tryz.func32 rfl (ax I4 aeN))
  (ay (az [2,3,7] [4,5] [] Tryz.func33 rfl (ax AA S6))
  (ay (az [5,8,77832,10] [] [] Tryz.func36 rfl (ax IJ aet))
  (ay (az [4,7,8,9] [10] [] Tryz.func66 rfl (ax II aes))
  (ay (az [4,7,8,10,16394] [9,11,12,13,14] [] Tryz.func89 rfl (ax IL aev))
  (ay (az [2,3,4] [5] [] Tryz.func112 rfl (ax IM aew))
  (ay (az [2,4,65540,69636,73732,77828,5,65541,69637,73733,77829,7,31,9,49,11,13] [1000004,1000005] [] Tryz.func17 rfl (ax Bn CD))
  (ay (az [] [4] [] Tryz.func49 rfl (ax J7 afR))
  (ay (az [2,3,5,6,8,10,90,139] [4,7,9,11,12,13,14,15,16] [] Tryz.func126 rfl (ax Bp Mu))
  (ay (az [2] [3] [] Tryz.func145 rfl (ax J5 afP))
  (ay (az [] [4] [] Tryz.func144 rfl (ax J8 afS))
  (ay (az [] [4,5] [] Tryz.func164 rfl (ax Br TK))
  (ay (az [2] [4] [] Tryz.func127 rfl (ax J2 afM))
  (ay (az [2] [] [] Tryz.func146 rfl (ax J6 afQ))
  (ay (az [3,6,8] [] [] Tryz.func147 rfl (ax Bo TJ))
  (ay (az [] [2,3,4,11] [] Tryz.func113 rfl (ax I7 aeQ))
  (ay (az [4,10,53] [8,9,11,12,13,14,55,70] [] Tryz.func115 rfl (ax Av SX))
  (ay (az [4,9] [8] [] Tryz.func128 rfl (ax IU aeC))
  (ay (az [] [3] [] Tryz.func149 rfl (ax IV aeD))
  (ay (az [] [4] [] Tryz.func148 rfl (ax Ka afU))
  (ay (az [] [4,5] [] Tryz.func165 rfl (ax Bu TN))
  (ay (az [4,11] [8,9] [] Tryz.func129 rfl (ax Aw SY))
  (ay (az [3,6,8,10] [7,9,11,12] [] Tryz.func90 rfl (ax I6 aeP))
  (ay (az [2,3,4,12292,9] [5,6,7,8,10,11] [] Tryz.func116 rfl (ax I8 aeR))
  (ay (az [2] [3] [] Tryz.func131 rfl (ax I9 aeS))
  (ay (az [] [4,5] [] Tryz.func130 rfl (ax Bt TM))
  (ay (az [1] [2,3] [] Tryz.func132 rfl (ax Kd afX))
  (ay (az [2,7,12295] [4,5] [] Tryz.func150 rfl (ax yg TR))
  (ay (az [1,4,6,12294,9] [2,3,5,7,8,38,47,10,11,12] [] Tryz.func151 rfl (ax Bx Mw))
  (ay (az [1] [2,3,12,20,4,5] [] Tryz.func166 rfl (ax Kj af3))
  (ay (az [] [2] [] Tryz.func170 rfl (ax Ki af2))
  (ay (az [] [2,3,4,11] [] Tryz.func168 rfl (ax Kf afZ))
  (ay (az [2] [4,8,13,17,21] [] Tryz.func167 rfl (ax Km af6))
  (ay (az [2,4,7] [5,6,8] [] Tryz.func117 rfl (ax Ke afY))
  (ay (az [2,3,4,6,33,7,8,10,12298,12] [5,15,21,9,11] [] Tryz.func133 rfl (ax By TQ))
  (ay (az [2,4] [5,6] [] Tryz.func152 rfl (ax Kk af4))
  (ay (az [2] [] [] Tryz.func169 rfl (ax Ko af7))
  (ay (az [4,5] [9,22,41,6,7,82,88,94] [] Tryz.func153 rfl (ax Kh af1))
  (ay (az [] [6,8,14,20,25] [] Tryz.func171 rfl (ax Kg af0))
  (ay (az [] [4,5,6,7] [] Tryz.func177 rfl (ax Kl af5))
  (ay (az [] [4,5,6,7,8,9,10,11,12,13] [] Tryz.func185 rfl (ax IQ aez))
  (ay (az [6] [2,3,5,8] [] Tryz.func154 rfl (ax Bq Mv))
  (ay (az [1] [2] [] Tryz.func35 rfl (ax IK aeu))
  (ay (az [3,6,7,4103,24583,8,9,11,47] [10] [] Tryz.func16 rfl (ax Bz TS))
  (ay (az [2,9] [4,5,6,7] [] Tryz.func46 rfl (ax BA TU))
  (ay (az [3,4,5] [6] [] Tryz.func47 rfl (ax Kq af9))
  (ay (az [2,5,7] [4] [] Tryz.func51 rfl (ax BB TW))
  (ay (az [] [4,5,13] [] Tryz.func48 rfl (ax Kr aga))
  (ay (az [5,7,8,10,65546,69642,73738,77834,13,65549,69645,73741,77837,14,16,85] [11,12,15,2000038,1000013] [] Tryz.func6 rfl (ax Ax SZ))
  (ay (az [3] [6] [] Tryz.func19 rfl (ax Kp af8))
  (ay (az [3,4,5] [6] [] Tryz.func5 rfl (ax IX aeG))
  (ay (az [2,3] [4,5] [] Tryz.func14 rfl (ax A8 Tw))
  (ay (az [1] [2,3,4] [] Tryz.func38 rfl (ax AG Ml))
  (ay (az [1] [2] [] Tryz.func39 rfl (ax Jx afg))
  (ay (az [1] [2,3] [] Tryz.func40 rfl (ax A3 Tr))
  (ay (az [1] [2] [] Tryz.func69 rfl (ax JE afn))
  (ay (az [3] [6,1,7] [] Tryz.func92 rfl (ax ye Tp))
  (ay (az [1] [2,3] [] Tryz.func15 rfl (ax Jg aeZ))
  (ay (az [1,5,44] [2,3,4,6,7] [] Tryz.func41 rfl (ax AM Mn))
  (ay (az [] [4] [] Tryz.func70 rfl (ax Jl ae4))
  (ay (az [] [2,3,4] [] Tryz.func93 rfl (ax AH Tb))
  (ay (az [] [2] [] Tryz.func123 rfl (ax Ji ae1))
  (ay (az [] [6,7] [] Tryz.func94 rfl (ax AF Ta))
  (ay (az [2,3] [4,5] [] Tryz.func71 rfl (ax AI Tc))
  (ay (az [] [6] [] Tryz.func63 rfl (ax Jk ae3))
  (ay (az [] [6,7] [] Tryz.func95 rfl (ax AK Td))
  (ay (az [1,4,44] [2,3,5,6] [] Tryz.func42 rfl (ax AN Mo))
  (ay (az [1,3,24] [2,4,5] [] Tryz.func43 rfl (ax AO Tf))
  (ay (az [1] [2,3,4] [] Tryz.func72 rfl (ax AJ Mm))
  (ay (az [1,4] [2,3,5] [] Tryz.func44 rfl (ax AQ Mq))
  (ay (az [1,4,6] [2,3,5] [] Tryz.func45 rfl (ax AP Mp))
  (ay (az [5,7,8,10,65546,69642,73738,77834,13,65549,69645,73741,77837,75] [11,12,14,15,2000037,1000013] [] Tryz.func7 rfl (ax Ba Tz))
  (ay (az [5,7,8,13] [10,11,12,14] [] Tryz.func11 rfl (ax Bc TB))
  (ay (az [3,4,5,11] [6,7,8,9,10] [] Tryz.func9 rfl (ax Bb TA))
  (ay (az [2,3] [4,5,6,7,8,9,10] [] Tryz.func34 rfl (ax AR CA))
  (ay (az [2,3] [4,5,6,7,8,9] [] Tryz.func61 rfl (ax Jm ae5))
  (ay (az [] [4] [] Tryz.func82 rfl (ax Jo ae7))
  (ay (az [] [4] [] Tryz.func83 rfl (ax Jp ae8))
  (ay (az [] [2] [] Tryz.func84 rfl (ax Jf aeY))
  (ay (az [1,3] [2] [] Tryz.func85 rfl (ax Jn ae6))
  (ay (az [3] [6,7,8] [] Tryz.func86 rfl (ax AL Te))
  (ay (az [3,4,7] [6,8] [] Tryz.func62 rfl (ax AT Tg))
  (ay (az [3,4,7] [6,8,21,71,101,9,10,146,179] [] Tryz.func87 rfl (ax Jr afa))
  (ay (az [2] [4,5] [] Tryz.func110 rfl (ax Ju afd))
  (ay (az [3] [6] [] Tryz.func111 rfl (ax Js afb))
  (ay (az [3,4,7] [6] [] Tryz.func64 rfl (ax Jt afc))
  (ay (az [3,4,5] [6,7,8,9,10,56,76,93,114,133,151] [] Tryz.func88 rfl (ax Jq ae9))
  (ay (az [2,5,6] [4] [] Tryz.func65 rfl (ax Jv afe))
  (ay (az [4,6,7] [8,9,10] [] Tryz.func37 rfl (ax JX afH))
  (ay (az [5,8,77832,10] [] [] Tryz.func68 rfl (ax JU afE))
  (ay (az [4,7,8,9,16393] [10,11,12] [] Tryz.func91 rfl (ax JT afD))
  (ay (az [3,5,7,8] [6,9] [] Tryz.func118 rfl (ax A9 Tx))
  (ay (az [2,3] [4] [] Tryz.func122 rfl (ax JV afF))
  (ay (az [2,4,65540,69636,73732,77828,46,52,7,65543,69639,73735,77831,81,115] [5,6,8,9,3000046,3000052,3000051,3000057,1000004,1000007] [] Tryz.func21 rfl (ax AY CC))
  (ay (az [2,3,5,6,7] [4,8,9,10,11] [] Tryz.func141 rfl (ax A0 Tn))
  (ay (az [2] [] [] Tryz.func159 rfl (ax Jz afi))
  (ay (az [2] [] [] Tryz.func160 rfl (ax JA afj))
  (ay (az [] [4] [] Tryz.func161 rfl (ax Jy afh))
  (ay (az [2] [4] [] Tryz.func134 rfl (ax Jj ae2))
  (ay (az [3,6] [7] [] Tryz.func162 rfl (ax AZ Tl))
  (ay (az [] [2] [] Tryz.func119 rfl (ax JP afz))
  (ay (az [4,10,11,78] [8,9,12,13,14] [] Tryz.func120 rfl (ax A6 Tu))
  (ay (az [2] [4,5] [] Tryz.func135 rfl (ax A7 Tv))
  (ay (az [4,10] [8,9] [] Tryz.func136 rfl (ax JS afC))
  (ay (az [2,4] [5] [] Tryz.func155 rfl (ax A5 Tt))
  (ay (az [3,6,9] [7,8] [] Tryz.func121 rfl (ax JO afy))
  (ay (az [2] [4,5,6,7,8,9] [] Tryz.func137 rfl (ax JR afB))
  (ay (az [2] [4,5] [] Tryz.func139 rfl (ax A4 Ts))
  (ay (az [1] [2,3] [] Tryz.func156 rfl (ax JB afk))
  (ay (az [1,4,33] [2,3,5,6,7,8,9,10] [] Tryz.func173 rfl (ax A2 Tq))
  (ay (az [] [2,4,8,10] [] Tryz.func178 rfl (ax JI afr))
  (ay (az [1] [2,3,4,5] [] Tryz.func179 rfl (ax JK afu))
  (ay (az [] [2,3] [] Tryz.func181 rfl (ax JH afq))
  (ay (az [] [4,5,7,13,26,44,56] [] Tryz.func180 rfl (ax JJ afs))
  (ay (az [] [2,3] [] Tryz.func157 rfl (ax JQ afA))
  (ay (az [] [2,4] [] Tryz.func140 rfl (ax Jh ae0))
  (ay (az [2,4] [5,6] [] Tryz.func138 rfl (ax JD afm))
  (ay (az [2,4,5,37] [9,15,6,41,55,64,73] [] Tryz.func158 rfl (ax A1 To))
  (ay (az [4,5] [6,7] [] Tryz.func174 rfl (ax JG afp))
  (ay (az [] [2] [] Tryz.func182 rfl (ax JC afl))
  (ay (az [3,4,6] [] [] Tryz.func175 rfl (ax JL afv))
  (ay (az [6] [8,14,20,27,34,40] [] Tryz.func176 rfl (ax JM afw))
  (ay (az [2] [] [] Tryz.func183 rfl (ax JN afx))
  (ay (az [] [4,5,6] [] Tryz.func184 rfl (ax JF afo))
  (ay (az [1] [2] [] Tryz.func67 rfl (ax JW afG))
  (ay (az [3,6,7,4103,24583,10,59,82] [8,9] [] Tryz.func20 rfl (ax AU Th))
  (ay (az [3,6,7,9] [8] [] Tryz.func22 rfl (ax AV Ti))
  (ay (az [3] [6,7] [] Tryz.func54 rfl (ax AW Tj))
  (ay (az [] [4] [] Tryz.func52 rfl (ax Jw aff))
  (ay (az [3,8] [6,7] [] Tryz.func53 rfl (ax AX Tk))
  (ay (az [] [4,5] [] Tryz.func23 rfl (ax Bd TC))
  (ay (az [2,3] [4,5,6,7,8] [] Tryz.func12 rfl (ax AS CB))
  trivial))))))))))))))))))))))))))))))))))))))))))))))))))))))))))))))))))))))))))))))))))))))))))))))))))))))))))))))))))))))))))))))))))))))))))))))))))))))))))))))))))))))))))))))))))))
end Rm
namespace Rm
open Go Go.Proofs Cx Go.RowKit Go.Lib
def arx:(Tryz.prog.info? 3).map (λi=>(i.zero,i.size,i.bytes))=some (some (.int .i64 0),1,8):=by kernel_rfl
set_option maxHeartbeats 2000000 in
set_option maxRecDepth 100000 in
def aoA (w:World):Calls Tryz.prog 172 #[.slice none 0 0,.int .i64 0] w λe w'=>e=.returned (.slice none 0 0)/\w'=w:=by
 go_enter Tryz.func172,Tryz.ntmps172
 go_wp2
 go_ret
 exact⟨rfl,rfl⟩
set_option maxHeartbeats 2000000 in
set_option maxRecDepth 100000 in
def aoz (n:Nat)(w:World)(h0:0<n)(h1:n<=4294967296):Calls Tryz.prog 172 #[.slice none 0 0,.int .i64 n] w λe w'=>
 ∃v',e=.returned v'/\w'.ownsRow w.heap.size 3 1 v' 0 []/\Below w.heap.size w w':=by
 obtain⟨i0,hi,Co,zg,hz2⟩:=info_parts arx;have hr:=run_append_nil_zeros w 62 3 62 3 i0 (.int .i64 0) .i64 .i64 Tryz.underlying62 Tryz.underlying3 hi Co n h0 (by rw[zg];decide) (by omega) (by rw[hz2];omega);have hn:¬((n:Int)<0):=by omega
 have nF:(n:Int)>0:=by omega
 have hw:i64.wrap (n:Int)=n:=by rw[IntKind.wrap_i64];omega
 have sW:i64.wrap 0=0:=by decide
 have fV:=grownCap_ge w n 0 3;have hle:=grownCap_le_maxLen w n 0 3 (by unfold maxLen;omega);have hs:(Builtin.zeroCells #[Value.int IntKind.i64 0] n++Builtin.zeroCells #[Value.int IntKind.i64 0] (grownCap w n 0 3-n)).size=grownCap w n 0 3*1:=by
  rw[Array.size_append,size_zeroCells,size_zeroCells];simp;omega
 go_enter Tryz.func172,Tryz.ntmps172
 go_wp2_with (at_builtin;refine wpList_append_run _ rfl _ _ 62 3 rfl _ _ rfl rfl _ _ hr ?qc)
 go_ret
 refine⟨_,rfl,?_,?_⟩
 .exact World.ownsRow.drew (World.ownsRow_made w _ _ (bB _) hle hs)
 .exact((Below.refl _ w).alloc (bB _) _).drew
def KM (ds:List D):Option D:=
 match ds with
 |[.list [],.v (.int .i64 n)]=>if 0<=n/\n<=4294967296 then some (.list []) else none
 |_=>none
def aoy (ds:List D)(d:D)(h:KM ds=some d):∃s,ctx.sig 172=some s/\Ot ctx 172 s ds d:=by
 refine⟨_,rfl,λ_=>?_,λshs obs hm=>by cases hm⟩;unfold KM at h;split at h
 case h_2=>cases h
 rename_i n;split at h
 case isFalse=>cases h
 rename_i hn;cases h;obtain⟨k,rfl⟩:=vI hn.1;intro V w args aC hC ha;obtain⟨a1,a2,a3⟩:=ha;have h0:=a3 0 _ rfl;have h1:=a3 1 _ rfl;obtain⟨u,v,rfl⟩:∃u v,args=#[u,v]:=by
  have:args.size=2:=by simpa using a1
  match args,this with
  |⟨[u,v]⟩,_=>exact⟨u,v,rfl⟩
 simp only[vJ,DV] at h0 h1;change Rep ctx.cap V (.nils .bool) u (.list []) at h0;change Rep ctx.cap V (.int .i64) v (.v (.int .i64 k)) at h1;have hu:u=.slice none 0 0:=by cases h0;rfl
 have hv:v=.int .i64 k:=by cases h1;rfl
 subst hu hv;by_cases hk:k=0
 .subst hk;refine(aoA w).mono λe w' hh=>?_;obtain⟨rfl,rfl⟩:=hh;refine⟨_,V,rfl,.refl V,aC,.refl _ _,λ_ _ _ h=>.inl h,λ_ _ h=>.inl h,?_⟩;exact⟨[],[],rfl,⟨by simp,.inl ⟨rfl,rfl⟩⟩,⟨λ_=>undef,λi x hx=>by simp at hx,λi j u hi=>by simp at hi⟩,λk hk=>by cases hk⟩
 .refine(aoz k w (by omega) (by omega)).mono λe w' hh=>?_;obtain⟨v',rfl,cH,hb⟩:=hh;refine⟨v',V,rfl,.refl V,aC.below hb,hb,λ_ _ _ h=>.inl h,λ_ _ h=>.inl h,?_⟩;refine⟨[],[],rfl,cH,⟨λ_=>undef,λi x hx=>by simp at hx,λi j u hi=>by simp at hi⟩,λk hk=>?_⟩;have bh:=(cH.lt k hk).1;refine⟨λo=>?_,?_⟩
  .cases hc:V.c k o with
   |none=>rfl
   |some u=>have:=World.block_lt_of_cell? w (a:=⟨k,o,none⟩) (aC.c _ _ _ hc);simp at this;omega
  .cases hc:V.m k with
   |none=>rfl
   |some u=>rcases aC.m _ _ hc with⟨arr,clock,x,g1,_⟩|⟨_,g1⟩<;>(have:=(gX.1 g1).1;omega)
def Aq (r:D)(city:Int):Int:=if 0<=city/\city<(r.c 1).l.length then(((r.c 1).l.getD city.toNat .none).c 1).i else-1
def T6 (ds:List D):D:=
 let r:=ds.getD 0 .none
 let ak:=(ds.getD 1 .none).i
 let c:=ds.getD 2 .none
 let s:=(c.c 15).l.getD (c.c 19).i.toNat .none
 let who:=(s.c 2).i
 if who<0\/(r.c 3).l.length<=who\/ak<0\/(r.c 4).l.length<=ak then .list [] else
 let out:=[ak,Aq r (s.c 7).i,Aq r (c.c 10).i,Aq r (c.c 9).i,Aq r (((r.c 3).l.getD who.toNat .none).c 1).i]
 if(-1)∈out then .list [] else ints out
def Qt (ds:List D):List D:=
 let f:=(ds.getD 0 .none).deref
 let day:=(ds.getD 1 .none).deref.i
 let part:=(ds.getD 2 .none).deref.i
 ((List.range (f.c 15).l.length).filter λ(i:Nat)=>decide ((((f.c 15).l.getD i .none).c 0).i=2)&&decide ((((f.c 15).l.getD i .none).c 1).i=part)&&decide ((((f.c 15).l.getD i .none).c 6).i<=day)&&
   !((f.c 17).l.any λa=>decide ((a.c 0).i=7)&&decide ((a.c 4).i=(i:Int))&&decide ((a.c 6).i<=day))).map λ(i:Nat)=>.tup [.int i,(f.c 15).l.getD i .none]
def aaZ:List (Nat×(aW->List D->Option D)):=[(172,λ_ ds=>KM ds),(114,Cw (ae IN) (ae IP) T6),(73,Ga (ae ub) 1000 2 Qt)]
def ext:Nat->Option (aW->List D->Option D):=bS aaZ
def axN:TabOK ctx tab ext:=by
 refine⟨clos,its,λf pc _ h=>axO f pc h,λf g hg Z hΦ gr ds d h=>?_⟩
 have:=SI (R:=λf (g:aW->List D->Option D)=>∀Z,dw ctx Z->gY ctx Z->∀ds d,g Z ds=some d->(∀s,ctx.sig f=some s->Ot ctx f s ds d)/\
  ∀cs ys,ctx.cap f=some cs->nI cs.args cs.res=some ys->∃xs,d=.list xs/\(∀x,x∈xs->∃ds',x=.tup ds'/\ds'.length=ys.length)/\nl ctx f cs.caps ys ds xs) (l:=aaZ)
  ⟨λZ hΦ gr ds d h=>⟨λs hs=>by obtain⟨s',h1,h2⟩:=aoy ds d h;rw[hs] at h1;cases h1;exact h2,λcs ys hc hi=>by cases hc⟩,
   λZ hΦ gr ds d h=>⟨λs hs=>by cases hs;exact⟨λ_=>aui clos hΦ gr Tryz.func114 (ax IN aex) (ax IP aey) h,λshs obs hm=>by cases hm⟩,λcs ys hc hi=>by cases hc⟩,
   λZ hΦ gr ds d h=>⟨λs hs=>(by cases hs),λcs ys hc hi=>by
    cases hc;cases hi;exact arA clos hΦ gr Tryz.func73 ak1 h rfl⟩,
   trivial⟩ f g hg
 exact this Z hΦ gr ds d h
abbrev T:cV:=eH tab ext
theorem zyw {ds:List D}{d:D}{t:PT}(k:Nat){f:Nat}{x:PC}(he:tree x=t)(h:aK (eH tab ext) t (lV ds) (λx=>x=.ret d))(hl:CV[k]?=some (f,x):=by kernel_rfl)(hx:ext f=none:=by rfl):aq (eH tab ext) f ds d:=.of_tree hx (lA k hl) he h
def aq.of_nsl {tab:Nat->Option PC}{ext:Nat->Option (aW->List D->Option D)}{f:Nat}{pa pb:PC}{spec:List D->D}{ds:List D}{ta tb:PT}(hx:ext f=some (Cw pa pb spec))(hta:tree pa=ta)(htb:tree pb=tb)
 (h:(∃xs,xs≠[]/\spec ds=.list xs/\aK (eH tab ext) ta (lV ds) (λx=>x=.ret (.list xs)))\/(spec ds=.list []/\aK (eH tab ext) tb (lV ds) (λx=>x=.ret (.list [])))):aq (eH tab ext) f ds (spec ds):=by
 refine aq.of_ext hx ?_;rcases h with⟨xs,h1,h2,h3⟩|⟨h2,h3⟩
 .obtain⟨x,rfl,n0,hn⟩:=Ol (c:=pa) (hta▸h3);refine⟨n0,λn hle=>?_⟩;unfold Cw;rw[if_pos (.inl ⟨n,xs,hn n hle,h1,h2⟩)]
 .obtain⟨x,rfl,n0,hn⟩:=Ol (c:=pb) (htb▸h3);refine⟨n0,λn hle=>?_⟩;unfold Cw;rw[if_pos (.inr ⟨n,hn n hle,h2⟩)]
end Rm
namespace Rm
open Go Go.Proofs Cx
def fu (n:Nat)(p:Nat->Bool):Bool:=(List.range n).all p
def Z5 {n:Nat}{p:Nat->Bool}(h:∀k,k<n->p k=true):fu n p=true:=bT.2 λk hk=>h k (cu.1 hk)
def akh {n k:Nat}{p:Nat->Bool}(hk:k<n)(h:p k=false):fu n p=false:=List.all_eq_false.2 ⟨k,cu.2 hk,by simp[h]⟩
def xX {n:Nat}{p:Nat->Bool}:fu n p=true↔∀k,k<n->p k=true:=⟨λh k hk=>bT.1 h k (cu.2 hk),Z5⟩
def da (n:Nat)(f:Nat->Int):Int:=(((List.range n).map f).find? λx=>x !=0).getD 0
def EW {n:Nat}{f:Nat->Int}(h:∀k,k<n->f k=0):da n f=0:=by
 unfold da;rw[xP.2]
 .rfl
 .intro x hx;obtain⟨k,hk,rfl⟩:=fq.1 hx;simp[h k (cu.1 hk)]
def EV {n k:Nat}{f:Nat->Int}(hk:k<n)(hj:∀j,j<k->f j=0)(h:f k≠0):da n f=f k:=by
 unfold da;have e:List.range n=List.range k++k::(List.range' (k+1) (n-k-1)):=by
  rw[OG,OG,<-It];have:=List.range'_append_1 (s:=0) (m:=k) (n:=n-k-1+1);rw[iL] at this;rw[this];congr 1;omega
 rw[e,sr,List.find?_append,xP.2,Option.none_or,gn,List.find?_cons_of_pos (by simpa using h)]
 .rfl
 .intro x hx;obtain⟨j,wx,rfl⟩:=fq.1 hx;simp[hj j (cu.1 wx)]
def QA {n:Nat}{f:Nat->Int}:da n f=0↔∀k,k<n->f k=0:=by
 refine⟨λh k=>?_,EW⟩
 induction k using Nat.strongRecOn with
 |ind k ih=>
  intro hk;refine sk λaF=>?_;rw[EV hk (λj hj=>ih j hj (by omega)) aF] at h;exact aF h
section
variable {T:cV} {id:Nat} {bO bN lr lo:List Nat} {a:PC} {O:Env} {Q:Out->Prop}
def gV (N:Nat)(p:Nat->Bool)(str gh:Nat->List D)(h0:lr.map O.r=str 0/\lo.map O.o=gh 0)
 (step:∀k,k<N->p k=true->aK T (round id bO bN lr lo a) (O.put lr (str k) lo (gh k)) (fO O id bO bN lr lo (λvr vo=>vr=str (k+1)/\vo=gh (k+1)) Q))
 (bad:∀k,k<N->p k=false->fu N p=false->aK T (round id bO bN lr lo a) (O.put lr (str k) lo (gh k)) (fO O id bO bN lr lo (λ_ _=>False) Q))
 (last:fu N p=true->aK T (round id bO bN lr lo a) (O.put lr (str N) lo (gh N)) (fO O id bO bN lr lo (λ_ _=>False) Q)):aN T (.block id bO bN (.loop lr lo a)) O Q:=
 .scan N (λk=>p k=true) str gh h0 (λk hk _ h=>step k hk h) (λk hk _ h=>bad k hk (by simpa using h) (akh hk (by simpa using h))) (λh=>last (Z5 h))
def nT (N:Nat)(f:Nat->Int)(str gh:Nat->List D)(h0:lr.map O.r=str 0/\lo.map O.o=gh 0)
 (step:∀k,k<N->f k=0->aK T (round id bO bN lr lo a) (O.put lr (str k) lo (gh k)) (fO O id bO bN lr lo (λvr vo=>vr=str (k+1)/\vo=gh (k+1)) Q))
 (bad:∀k,k<N->f k≠0->da N f=f k->aK T (round id bO bN lr lo a) (O.put lr (str k) lo (gh k)) (fO O id bO bN lr lo (λ_ _=>False) Q))
 (last:da N f=0->aK T (round id bO bN lr lo a) (O.put lr (str N) lo (gh N)) (fO O id bO bN lr lo (λ_ _=>False) Q)):aN T (.block id bO bN (.loop lr lo a)) O Q:=
 .scan N (λk=>f k=0) str gh h0 (λk hk _ h=>step k hk h) (λk hk hj h=>bad k hk h (EV hk hj h)) (λh=>last (EW h))
end
def aV {k n:Nat}(h:k<n)(hn:n<=4294967296):i64.wrap ((k:Int)+1)=(k:Int)+1:=bn (by omega)
def xH {k:Nat}(hn:k<=4294967296):i64.wrap ((k:Int)-1)=(k:Int)-1:=bn (by omega)
def aw (i n:Int):Bool:=decide (0<=i)&&decide (i<n)
def wi (n a b:Int):Bool:=decide (a<=n)&&decide (n<=b)
def gH (i n:Int):aq T 101 [.int i,.int n] (.bool (aw i n)):=by
 refine zyw 17 aAa ?_;simp[Yc,aw];by_cases h:0<=i<;>simp[h]
def rS (i n:Int):aq T 49 [.int i,.int n] (.bool (aw i n)):=by
 refine zyw 55 aAn ?_;simp[Yo,aw];by_cases h:0<=i<;>simp[h]
def bJ (n a b:Int):aq T 63 [.int n,.int a,.int b] (.bool (wi n a b)):=by
 refine zyw 112 ayU ?_;simp[Xb,wi];by_cases h:a<=n<;>simp[h]
def idx_eq {α:Type}[DecidableEq α]{l:List α}{x z:α}{k:Nat}(hk:k<l.length)(hj:∀j,j<k->l.getD j z≠x)(h:¬l.getD k z≠x):x∈l/\l.findIdx (λy=>decide (y=x))=k:=by
 have e:l[k]=x:=by simpa [hk] using h
 refine⟨e▸cG hk,(List.findIdx_eq hk).2 ⟨by simp[e],λj jh=>?_⟩⟩;have gO:j<l.length:=by omega
 simpa [gO] using hj j jh
def acY {α:Type}[DecidableEq α]{l:List α}{x z:α}(hj:∀j,j<l.length->l.getD j z≠x):¬x∈l:=λhm=>by
 obtain⟨j,gO,rfl⟩:=jV hm;have:=hj j gO;simp[gO] at this
def wM {α:Type}[DecidableEq α](l:List α)(x:α):Int:=if x∈l then(l.findIdx (λy=>decide (y=x)):Nat) else-1
def hasB {α:Type}[DecidableEq α](l:List α)(x:α):Bool:=l.any λy=>decide (y=x)
def QV {α:Type}[DecidableEq α]{l:List α}{x:α}:hasB l x=true↔x∈l:=by simp[hasB]
def abG {α:Type}[DecidableEq α]{l:List α}{x:α}:hasB l x=false↔¬x∈l:=by rw[<-QV];simp
def acX {α:Type}[DecidableEq α](l:List α)(x:α):decide (0<=wM l x)=hasB l x:=by
 unfold wM;by_cases h:x∈l
 .rw[QV.2 h];simp[h]
 .rw[abG.2 h];simp[h]
@[simp] def aEz (a b:ByteArray):BF .eql a b=decide (a=b):=by
  simp only[BF,ByteArray.toList_eq];by_cases h:a=b
  .subst h;simp
  .rw[decide_eq_false h,beq_eq_false_iff_ne];intro e;have:a.data=b.data:=by rw[<-vG];exact e
   exact h (by cases a;cases b;cases this;rfl)
@[simp] def aFt (O:Env)(x i:PE):PE.ev O (.sidx x i)=.v (.int .u8 ((PE.ev O x).s.data.getD (PE.ev O i).i.toNat 0).toNat):=zyz
@[simp] def aFx (O:Env)(x i:PE):PE.ev O (.sok x i)=.v (.bool (decide (0<=(PE.ev O i).i/\(PE.ev O i).i<(PE.ev O x).s.size))):=zyz
@[simp] def aHW (a:ByteArray):(str a).s=a:=zyz
def ajR (l:List Int)(x:Int)(hl:l.length<=4294967296):aq T 50 [ints l,.int x] (.int (wM l x)):=by
 refine zyw 33 aAy ?_;simp[Yz];refine .scan l.length (λk=>l.getD k 0≠x) (λk=>[.int 0,.int k]) (λ_=>[]) ?_ (λk hk hj ho=>?_) (λk hk hj ho=>?_) (λhj=>?_)
 .simp
 .have hw:=aV hk hl;simp[hk] at ho;have eT:¬x=l[k]:=λe=>ho e.symm;simp[VO,HK,hk,hw,ints,ho,eT]
 .obtain⟨hm,he⟩:=idx_eq hk hj ho;simp[hk] at ho;simp[VO,HK,hk,ints,ho,wM,hm,he]
 .have:=acY hj;simp[VO,HK,wM,this,ints]
def DR (l:List Int)(x:Int)(hl:l.length<=4294967296):aq T 18 [ints l,.int x] (.bool (hasB l x)):=by
 refine zyw 32 aAs ?_;simp[Yt];refine⟨_,ajR l x hl,?_⟩;have:=acX l x;simp at this ⊢;exact this
def ajS (l:List ByteArray)(x:ByteArray)(hl:l.length<=4294967296):aq T 163 [strs l,str x] (.int (wM l x)):=by
 refine zyw 13 aAz ?_;simp[YA];refine .scan l.length (λk=>l.getD k default≠x) (λk=>[.int 0,.int k]) (λ_=>[]) ?_ (λk hk hj ho=>?_) (λk hk hj ho=>?_) (λhj=>?_)
 .simp
 .have hw:=aV hk hl;simp[hk] at ho;have eT:¬x=l[k]:=λe=>ho e.symm;simp[VP,HL,hk,hw,strs,ho,eT]
 .obtain⟨hm,he⟩:=idx_eq hk hj ho;simp[hk] at ho;simp[VP,HL,hk,strs,ho,wM,hm,he]
 .have:=acY hj;simp[VP,HL,wM,this,strs]
def ajM (l:List ByteArray)(x:ByteArray)(hl:l.length<=4294967296):aq T 143 [strs l,str x] (.bool (hasB l x)):=by
 refine zyw 12 aAt ?_;simp[Yu];refine⟨_,ajS l x hl,?_⟩;have:=acX l x;simp at this ⊢;exact this
def pj (l:List Int)(a b:Int)(k:Nat):Bool:=wi (l.getD k 0) a b&&(k==0||decide (l.getD (k-1) 0<l.getD k 0))
def rising (l:List Int)(a b:Int):Bool:=fu l.length (pj l a b)
def HR (l:List Int)(a b:Int)(hl:l.length<=4294967296):aq T 125 [ints l,.int a,.int b] (.bool (rising l a b)):=by
 refine zyw 18 aAg ?_;simp[Yi];refine gV l.length (pj l a b) (λk=>[.bool false,.int k]) (λ_=>[]) ?_ (λk hk ho=>?_) (λk hk ho hb=>?_) (λhj=>?_)
 .simp
 .have hw:=aV hk hl;simp[pj,wi,hk] at ho;obtain⟨⟨h1,h2⟩,h3⟩:=ho;have cD:¬l[k]<a:=by omega
  have ic:¬b<l[k]:=by omega
  by_cases gP:0<k
  .have bq:k-1<l.length:=by omega
   have di:i64.wrap ((k:Int)-1)=((k-1:Nat):Int):=by rw[xH (by omega)];omega
   have eI:¬l[k]<=l[k-1]:=by
        rcases h3 with h3|h3
        .omega
        .simp[bq] at h3;omega
   simp[Dq,xn,hk,hw,di,ints,cD,ic,eI,gP,bq]
  .simp[Dq,xn,hk,hw,ints,cD,ic,gP]
 .have hf:rising l a b=false:=hb;simp[pj,wi,hk] at ho;by_cases h1:l[k]<a
  .simp[Dq,xn,hk,ints,h1,hf]
  by_cases h2:b<l[k]
  .simp[Dq,xn,hk,ints,h1,h2,hf]
  have h3:=ho (by omega) (by omega);have gP:0<k:=by omega
  have bq:k-1<l.length:=by omega
  have di:i64.wrap ((k:Int)-1)=((k-1:Nat):Int):=by rw[xH (by omega)];omega
  have eI:=h3.2;simp[bq] at eI;simp[Dq,xn,hk,di,ints,h1,h2,eI,gP,bq,hf]
 .have hf:rising l a b=true:=hj;simp[Dq,xn,hf]
def Gg (c:Int):Bool:=wi c 97 122||wi c 65 90
def zt (i:Nat)(c:Int):Bool:=Gg c||(i !=0&&(decide (c=95)||wi c 48 57))
def Ek (s:ByteArray)(k:Nat):Int:=((s.data.toList.getD k 0).toNat:Nat)
def jP (s:ByteArray):Bool:=decide (1<=s.size)&&decide (s.size<=20)&&fu s.size (λk=>zt k (Ek s k))
def ID {s:ByteArray}{k:Nat}(h:k<s.data.size):(s.data[k].toNat:Int)=Ek s k:=by
 unfold Ek;rw[aL,bL (by simpa using h)];rfl
def aiC {s:ByteArray}:s=⟨#[]⟩↔s.size=0:=by
 constructor
 .rintro rfl;rfl
 .intro h;cases s with|mk d=>congr;exact Oq h
def awT (s:ByteArray):aq T 142 [str s] (.bool (jP s)):=by
 refine zyw 11 aAb ?_;simp[Yd];by_cases h0:s=⟨#[]⟩
 .have hn:jP s=false:=by simp[jP,aiC.1 h0]
  rw[hn];simp[h0]
 by_cases h1:(20:Int)<s.size
 .have cD:¬s.size<=20:=by omega
  simp[h0,h1,jP,cD]
 have hz:1<=s.size:=by
  have:s.size≠0:=λe=>h0 (aiC.2 e);omega
 have cD:s.size<=20:=by omega
 simp[h0,h1];refine⟨by omega,gV s.size (λk=>zt k (Ek s k)) (λk=>[.bool false,.int k]) (λ_=>[]) ?_ (λk hk ho=>?_) (λk hk ho hb=>?_) (λhj=>?_)⟩
 .simp
 .have hw:=aV hk (by omega);have bh:k<s.data.size:=hk;have hg:=ID bh;simp[zt,Gg,wi] at ho;simp[Vy,Hw,hk,bh,hw,hg];omega
 .have bh:k<s.data.size:=hk;have hg:=ID bh;have hn:jP s=false:=by simp[jP,hb]
  simp[zt,Gg,wi] at ho;simp[Vy,Hw,hk,bh,hg,hn];omega
 .have hn:jP s=true:=by simp[jP,hj,hz,cD]
  have hd:s.data.size=s.size:=rfl;simp[Vy,Hw,hn,hd]
def ag8 (c:Int):aq T 123 [.v (.int .u8 c)] (.bool (Gg c)):=by
 refine zyw 109 ayN ?_;simp[W4,Gg,wi];by_cases h:97<=c<;>by_cases h2:c<=122<;>by_cases h3:65<=c<;>by_cases h4:c<=90<;>simp[h,h2,h3,h4]
def avH (s:ByteArray):aq T 93 [str s] (.bool (jP s)):=by
 refine zyw 108 ayO ?_;simp[W5];by_cases h0:(s.size:Int)<1
 .have hn:jP s=false:=by simp[jP];omega
  simp[h0,hn]
 by_cases h1:(20:Int)<s.size
 .have hn:jP s=false:=by simp[jP];omega
  simp[h0,h1,hn]
 rw[if_neg (by omega)];refine gV s.size (λk=>zt k (Ek s k)) (λk=>[.bool false,.int k]) (λ_=>[]) ?_ (λk hk ho=>?_) (λk hk ho hb=>?_) (λhj=>?_)
 .simp
 .have hw:=aV hk (by omega);have bh:k<s.data.size:=hk;have hg:=ID bh;simp[zt,wi] at ho;simp[U0,GZ,hk,bh,hw,hg];refine⟨_,ag8 _,?_⟩;simp[hw];intro g1 g2;exfalso;rcases ho with h|h
  .rw[h] at g1;cases g1
  .omega
 .have bh:k<s.data.size:=hk;have hg:=ID bh;have hn:jP s=false:=by simp[jP,hb]
  simp[zt,wi] at ho;simp[U0,GZ,hk,bh,hg,hn];refine⟨_,ag8 _,?_⟩;simp[ho.1];omega
 .have hn:jP s=true:=by simp[jP,hj];omega
  simp[U0,GZ,hn]
def avF (l:List ByteArray)(n:Nat)(x:ByteArray)(hn:n<=l.length)(hl:l.length<=4294967296):aq T 94 [strs l,.int n,str x] (.bool (hasB (l.take n) x)):=by
 refine zyw 110 ayJ ?_;simp[W0];refine .scan n (λk=>l.getD k default≠x) (λk=>[.bool false,.int k]) (λ_=>[]) ?_ (λk hk hj ho=>?_) (λk hk hj ho=>?_) (λhj=>?_)
 .simp
 .have bh:k<l.length:=by omega
  have hw:=aV bh hl;simp[bh] at ho;simp[UZ,GX,hk,bh,hw,strs,ho]
 .have bh:k<l.length:=by omega
  simp[bh] at ho;have hm:hasB (l.take n) x=true:=QV.2 (by rw[<-ho,OE];exact⟨k,by omega,rfl⟩);simp[UZ,GX,hk,bh,strs,ho,hm]
 .have hm:hasB (l.take n) x=false:=abG.2 (λh=>by
   rw[OE] at h;obtain⟨k,hk,e⟩:=h;have:=hj k (by omega);simp[show k<l.length by omega] at this;exact this e)
  simp[UZ,GX,hm]
def iW (l:List ByteArray)(i:Nat):Int:=if jP (l.getD i default)=false then 2 else if hasB (l.take i) (l.getD i default) then 5 else 0
def SR (l:List ByteArray)(i n:Nat)(h:i<n):iW (l.take n) i=iW l i:=by
 unfold iW;rw[aL,List.getElem?_take_of_lt h,List.take_take,qH (by omega),<-aL]
def GO (l:List ByteArray)(i:Nat)(hi:i<l.length)(hl:l.length<=4294967296):aq T 70 [strs l,.int i] (.int (iW l i)):=by
 refine zyw 107 ayX ?_;simp[Xe,hi];refine⟨_,by simpa [strs,hi] using avH l[i],?_⟩;unfold iW;rw[aL,bL hi,jc];cases h1:jP l[i]<;>simp[h1];refine⟨_,by simpa [strs,hi] using avF l i l[i] (by omega) hl,?_⟩;cases h2:hasB (l.take i) l[i]<;>simp[h2]
def ah3 (l:List ByteArray)(i:Nat)(hi:i<l.length)(hl:l.length<=4294967296):aq T 124 [strs l,.int i] (.int (iW l i)):=by
 refine zyw 10 aAc ?_;simp[Ye,hi];refine⟨_,by simpa [strs,hi] using awT l[i],?_⟩;unfold iW;rw[aL,bL hi,jc];cases h1:jP l[i]<;>simp[h1];refine⟨by omega,_,by simpa [strs,hi] using ajM (l.take i) l[i] (by rw[ed];omega),?_⟩;cases h2:hasB (l.take i) l[i]<;>simp[h2]
def ln (l:List ByteArray)(g:Nat->Bool)(i:Nat):Int:=if iW l i≠0 then iW l i else if g i then 0 else 1
def fa (l:List ByteArray)(Gm:Int)(g:Nat->Bool):Int:=if Gm<l.length then 6 else da l.length (ln l g)
def NG (l:List ByteArray)(Gm:Int)(f:Nat)(caps:List D)(g:Nat->Bool)(hg:∀i:Nat,i<l.length->aq T f (.int i::caps) (.bool (g i)))(hl:l.length<=4294967296):
 aq T 97 [strs l,.int Gm,.clo f caps] (.int (fa l Gm g)):=by
 refine zyw 9 az9 ?_;simp[Yb,fa];by_cases h0:Gm<l.length
 .simp[h0];intro h;omega
 simp[h0];refine nT l.length (ln l g) (λk=>[.int 0,.int k]) (λ_=>[]) ?_ (λk hk ho=>?_) (λk hk ho hb=>?_) (λhj=>?_)
 .simp
 .have hw:=aV hk hl;have h1:iW l k=0:=by
   refine sk λh=>?_;unfold ln at ho;rw[if_pos h] at ho;exact h ho
  have h2:g k=true:=by
   unfold ln at ho;rw[if_neg (by simpa using h1)] at ho;cases h:g k with
   |true=>rfl
   |false=>rw[h] at ho;simp at ho
  simp[Vx,Hv,hk,hw];refine⟨_,ah3 l k hk hl,?_⟩;simp[h1];refine⟨_,_,⟨rfl,rfl⟩,_,hg k hk,?_⟩;simp[h2,hw]
 .simp[Vx,Hv,hk,hb];refine⟨_,ah3 l k hk hl,?_⟩;unfold ln at ho ⊢;by_cases h1:iW l k=0
  .simp[h1] at ho ⊢;refine⟨_,_,⟨rfl,rfl⟩,_,hg k hk,?_⟩;simp[ho]
  .simp[h1]
 .simp[Vx,Hv,hj]
def Uz (l:List Int)(a b:Int)(hl:l.length<=4294967296):aq T 95 [ints l,.int a,.int b] (.bool (rising l a b)):=by
 refine zyw 113 ayS ?_;simp[W9];refine gV l.length (pj l a b) (λk=>[.bool false,.int k]) (λ_=>[]) ?_ (λk hk ho=>?_) (λk hk ho hb=>?_) (λhj=>?_)
 .simp
 .have hw:=aV hk hl;simp[pj,hk] at ho;simp[U4,G3,hk,hw,ints];refine⟨_,bJ _ _ _,?_⟩;by_cases gP:0<k
  .have bq:k-1<l.length:=by omega
   have di:i64.wrap ((k:Int)-1)=((k-1:Nat):Int):=by rw[xH (by omega)];omega
   have eI:¬l[k]<=l[k-1]:=by
        rcases ho.2 with h3|h3
        .omega
        .simp[bq] at h3;omega
   simp[ho.1,hk,hw,di,eI,gP,bq]
  .simp[ho.1,hk,hw,gP];omega
 .have hf:rising l a b=false:=hb;simp[pj,hk] at ho;simp[U4,G3,hk,ints,hf];refine⟨_,bJ _ _ _,?_⟩;cases h1:wi l[k] a b with
  |false=>simp
  |true=>
   have h3:=ho h1;have gP:0<k:=by omega
   have bq:k-1<l.length:=by omega
   have di:i64.wrap ((k:Int)-1)=((k-1:Nat):Int):=by rw[xH (by omega)];omega
   have eI:=h3.2;simp[bq] at eI;simp[hk,di,eI,gP,bq]
 .have hf:rising l a b=true:=hj;simp[U4,G3,hf]
def Wf (n:Int):n.tdiv 100=if 0<=n then n/100 else-((-n)/100):=by
 split
 .rename_i h;exact ZI h
 .rename_i h;have e:n.tdiv 100=-((-n).tdiv 100):=by rw[Int.neg_tdiv,Int.neg_neg]
  rw[e,ZI (by omega)]
def aiS (n:Int):n.tmod 100=n-100*n.tdiv 100:=Int.tmod_def n 100
def ajE {n:Int}(h:aQ n):i64.wrap (n.tdiv 100)=n.tdiv 100:=bn (by rw[Wf];unfold aQ at h;split<;>omega)
def nz (r:Realm)(c:City):Bool:=fu c.feasts.length (λk=>wi ((c.feasts.getD k 0).tmod 100) 1 31)&&(decide (c.feasts.length<=60)&&decide (c.shut.length<=200)&&aw c.order r.orders.length&&aw c.currency r.currencies.length)&&
 (rising c.rest 0 6&&rising c.feasts 101 1231&&rising c.shut 0 100000)
def awR (r:Realm)(c:City)(h1:c.rest.length<=4294967296)(h2:c.feasts.length<=4294967296)(h3:c.shut.length<=4294967296):aq T 100 [aX r,mB c] (.bool (nz r c)):=by
 refine zyw 16 az8 ?_;simp[Ya];refine gV c.feasts.length (λk=>wi ((c.feasts.getD k 0).tmod 100) 1 31) (λk=>[.bool false,.int k]) (λ_=>[]) ?_ (λk hk ho=>?_) (λk hk ho hb=>?_) (λhj=>?_)
 .simp
 .have hw:=aV hk h2;simp[wi,hk] at ho;have g1:¬(c.feasts[k].tmod 100<1):=by omega
  have g2:¬(31<c.feasts[k].tmod 100):=by omega
  simp[Vw,Hu,hk,hw,ints,g1,g2]
 .have hf:nz r c=false:=by simp only[nz,hb,sd]
  simp[wi,hk] at ho;simp[Vw,Hu,hk,ints,hf];by_cases g1:c.feasts[k].tmod 100<1
  .simp[g1]
  .have g2:=ho (by omega);simp[g1,g2]
 .simp[Vw,Hu];by_cases g1:(c.feasts.length:Int)<=60
  case neg=>
   have hf:nz r c=false:=by
        have dp:decide (c.feasts.length<=60)=false:=decide_eq_false (by omega);simp only[nz,dp,sd,xK]
   have dp:(60:Int)<c.feasts.length:=by omega
   simp[g1,dp,hf]
  by_cases g2:(c.shut.length:Int)<=200
  case neg=>
   have hf:nz r c=false:=by
        have dp:decide (c.shut.length<=200)=false:=decide_eq_false (by omega);simp only[nz,dp,sd,xK]
   have kc:(200:Int)<c.shut.length:=by omega
   simp[g1,g2,kc,hf]
  have dp:¬(60:Int)<c.feasts.length:=by omega
  have kc:¬(200:Int)<c.shut.length:=by omega
  have hf:nz r c=(aw c.order r.orders.length&&aw c.currency r.currencies.length&&(rising c.rest 0 6&&rising c.feasts 101 1231&&rising c.shut 0 100000)):=by
   have e1:decide (c.feasts.length<=60)=true:=decide_eq_true (by omega);have e2:decide (c.shut.length<=200)=true:=decide_eq_true (by omega);simp only[nz,hj,e1,e2,sf]
  rw[hf];simp[g1,g2,dp,kc];refine⟨_,gH _ _,?_⟩;simp;cases e1:aw c.order r.orders.length<;>simp;refine⟨_,gH _ _,?_⟩;simp;cases e2:aw c.currency r.currencies.length<;>simp;refine⟨_,HR _ _ _ h1,?_⟩;simp;cases e3:rising c.rest 0 6<;>simp;refine⟨_,HR _ _ _ h2,?_⟩;simp;cases e4:rising c.feasts 101 1231<;>simp;exact HR _ _ _ h3
def qN (r:Realm)(c:City):Bool:=(wi c.order 0 (r.orders.length-1)&&wi c.currency 0 (r.currencies.length-1)&&decide (c.feasts.length<=60)&&decide (c.shut.length<=200))&&
 fu c.feasts.length (λk=>wi ((c.feasts.getD k 0).tdiv 100) 1 12&&wi ((c.feasts.getD k 0).tmod 100) 1 31)&&(rising c.rest 0 6&&rising c.feasts 0 2000&&rising c.shut 0 100000)
def tM (n:Nat)(h:n<=4294967296):i64.wrap ((n:Int)-1)=(n:Int)-1:=bn (by omega)
def avI (r:Realm)(c:City)(h1:c.rest.length<=4294967296)(h2:c.feasts.length<=4294967296)(h3:c.shut.length<=4294967296)(h4:r.orders.length<=4294967296)(h5:r.currencies.length<=4294967296)(hi:∀y,y∈c.feasts->aQ y):
 aq T 71 [aX r,mB c] (.bool (qN r c)):=by
 refine zyw 111 ayQ ?_;simp[W7,tM _ h4,tM _ h5];refine⟨_,bJ _ _ _,?_⟩;cases e1:wi c.order 0 (r.orders.length-1)
 case false=>simp[qN,e1]
 simp;refine⟨_,bJ _ _ _,?_⟩;cases e2:wi c.currency 0 (r.currencies.length-1)
 case false=>simp[qN,e1,e2]
 by_cases g1:(c.feasts.length:Int)<=60
 case neg=>
  have hf:qN r c=false:=by
   have dp:decide (c.feasts.length<=60)=false:=decide_eq_false (by omega);simp only[qN,dp,sd,xK]
  have dp:(60:Int)<c.feasts.length:=by omega
  simp[dp,hf]
 by_cases g2:(c.shut.length:Int)<=200
 case neg=>
  have hf:qN r c=false:=by
   have dp:decide (c.shut.length<=200)=false:=decide_eq_false (by omega);simp only[qN,dp,sd,xK]
  have kc:(200:Int)<c.shut.length:=by omega
  simp[kc,hf]
 have dp:¬(60:Int)<c.feasts.length:=by omega
 have kc:¬(200:Int)<c.shut.length:=by omega
 have hf:qN r c=(fu c.feasts.length (λk=>wi ((c.feasts.getD k 0).tdiv 100) 1 12&&wi ((c.feasts.getD k 0).tmod 100) 1 31)&&(rising c.rest 0 6&&rising c.feasts 0 2000&&rising c.shut 0 100000)):=by
  have e3:decide (c.feasts.length<=60)=true:=decide_eq_true (by omega);have e4:decide (c.shut.length<=200)=true:=decide_eq_true (by omega);simp only[qN,e1,e2,e3,e4,sf]
 rw[hf];simp[dp,kc];refine gV c.feasts.length (λk=>wi ((c.feasts.getD k 0).tdiv 100) 1 12&&wi ((c.feasts.getD k 0).tmod 100) 1 31) (λk=>[.bool false,.int k]) (λ_=>[]) ?_ (λk hk ho=>?_) (λk hk ho hb=>?_) (λhj=>?_)
 .simp
 .have hw:=aV hk h2;have hI:=hi _ (cG hk);have hq:i64.wrap (c.feasts[k].tdiv 100)=c.feasts[k].tdiv 100:=ajE hI;simp[hk] at ho;simp[U1,G0,hk,ints,hq];refine⟨_,bJ _ _ _,?_⟩;simp[ho.1,hk];refine⟨_,bJ _ _ _,?_⟩;simp[ho.2,hk,hw]
 .have hI:=hi _ (cG hk);have hq:i64.wrap (c.feasts[k].tdiv 100)=c.feasts[k].tdiv 100:=ajE hI;simp[hk] at ho;simp only[aL] at hb;rw[hb];simp[U1,G0,hk,ints,hq];refine⟨_,bJ _ _ _,?_⟩;cases e3:wi (c.feasts[k].tdiv 100) 1 12 with
  |false=>simp
  |true=>
   have:=ho e3;simp[hk];refine⟨_,bJ _ _ _,?_⟩;simp[this]
 .simp only[aL] at hj;rw[hj];simp[U1,G0];refine⟨_,Uz _ _ _ h1,?_⟩;simp;cases e3:rising c.rest 0 6<;>simp;refine⟨_,Uz _ _ _ h2,?_⟩;simp;cases e4:rising c.feasts 0 2000<;>simp;exact Uz _ _ _ h3
def alc (r:Realm)(c:City):qN r c=nz r c:=by
 rw[sc];have bE:∀(i:Int) (n:Nat),(wi i 0 (n-1)=true)↔(aw i n=true):=by intro i n;simp[wi,aw];omega
 simp only[qN,nz,av,decide_eq_true_eq,bE,rising,xX,pj];constructor
 .rintro⟨⟨⟨⟨⟨a1,a2⟩,a3⟩,a4⟩,a5⟩,⟨a6,a7⟩,a8⟩;refine⟨⟨λk hk=>(a5 k hk).2,⟨⟨⟨a3,a4⟩,a1⟩,a2⟩⟩,⟨a6,λk hk=>?_⟩,a8⟩;have h1:=a5 k hk;have h2:=a7 k hk;simp[wi,aiS,Wf] at h1 h2 ⊢;split at h1<;>omega
 .rintro⟨⟨a5,⟨⟨⟨a3,a4⟩,a1⟩,a2⟩⟩,⟨a6,a7⟩,a8⟩;refine⟨⟨⟨⟨⟨a1,a2⟩,a3⟩,a4⟩,λk hk=>?_⟩,⟨a6,λk hk=>?_⟩,a8⟩
  .have h1:=a5 k hk;have h2:=a7 k hk;simp[wi,aiS,Wf] at h1 h2 ⊢;split at h1<;>(try split)<;>omega
  .have h2:=a7 k hk;simp[wi] at h2 ⊢;omega
def DF {α β:Type}(f:α->β){l:List α}{k:Nat}(h:k<l.length):(l.take (k+1)).map f=(l.take k).map f++[f l[k]]:=by
 rw[lR h,sr];rfl
def jO (i:Int)(n:Nat):aw i n=wi i 0 ((n:Int)-1):=by
 rw[sc];simp[wi,aw];omega
def xY (o:Order):List Int:=o.choices.map (·.ask)
def D5 (o:Order):List Int:=o.rules.map (·.ask)
def qh (o:Order):Bool:=fu o.choices.length (λk=>aw (o.choices.getD k default).by_ 5)&&(rising (xY o) 0 21&&rising (D5 o) 0 21)
def awV (o:Order)(h1:o.choices.length<=100000)(h2:o.rules.length<=100000):aq T 104 [iO o] (.bool (qh o)):=by
 refine zyw 21 aAe ?_;simp[Yg];refine gV o.choices.length (λk=>aw (o.choices.getD k default).by_ 5) (λk=>[.bool false,.none,.int k]) (λk=>[ints ((o.choices.take k).map (·.ask))]) ?_ (λk hk ho=>?_) (λk hk ho hb=>?_) (λhj=>?_)
 .simp[ints]
 .have hw:=aV hk (by omega);have hl:(o.choices.take k).length=k:=by rw[ed];omega
  simp[hk] at ho;rw[DF _ hk];simp[Vz,Hx,hk,hw,ints,hl];refine⟨by omega,_,gH _ _,?_⟩;simp[ho,hw]
 .have hf:qh o=false:=by simp only[qh,hb,sd]
  have hl:(o.choices.take k).length=k:=by rw[ed];omega
  simp[hk] at ho;simp[Vz,Hx,hk,ints,hl,hf];refine⟨by omega,_,gH _ _,?_⟩;simp[ho]
 .have hf:qh o=(rising (xY o) 0 21&&rising (D5 o) 0 21):=by simp only[qh,hj,sf]
  rw[hf];simp[Vz,Hx];refine aN.forRounds o.rules.length (λk=>[.none,.int k]) (λk=>[ints ((o.rules.take k).map (·.ask))]) ?_ (λk hk=>?_) ?_
  .simp[ints]
  .have hw:=aV hk (by omega);have hl:(o.rules.take k).length=k:=by rw[ed];omega
   rw[DF _ hk];simp[ahT,Ny,hk,hw,ints,hl];omega
  .simp[ahT,Ny];refine⟨_,HR (xY o) _ _ (by simp[xY];omega),?_⟩;simp;cases e1:rising (xY o) 0 21<;>simp;exact HR (D5 o) _ _ (by simp[D5];omega)
def zx (o:Order)(k:Nat):Bool:=wi (o.choices.getD k default).ask 0 21&&wi (o.choices.getD k default).by_ 0 4&&(k==0||decide ((o.choices.getD (k-1) default).ask<(o.choices.getD k default).ask))
def CT (o:Order)(k:Nat):Bool:=wi (o.rules.getD k default).ask 0 21&&(k==0||decide ((o.rules.getD (k-1) default).ask<(o.rules.getD k default).ask))
def au7 (o:Order):(fu o.choices.length (zx o)&&fu o.rules.length (CT o))=qh o:=by
 rw[sc];simp only[qh,av,rising,xX,xY,D5,fp];have g1:∀k,k<o.choices.length->(pj (o.choices.map (·.ask)) 0 21 k=true↔wi (o.choices.getD k default).ask 0 21=true/\(k=0\/(o.choices.getD (k-1) default).ask<(o.choices.getD k default).ask)):=by
  intro k hk;have bq:k-1<o.choices.length:=by omega
  simp[pj,hk,bq]
 have g2:∀k,k<o.rules.length->(pj (o.rules.map (·.ask)) 0 21 k=true↔wi (o.rules.getD k default).ask 0 21=true/\(k=0\/(o.rules.getD (k-1) default).ask<(o.rules.getD k default).ask)):=by
  intro k hk;have bq:k-1<o.rules.length:=by omega
  simp[pj,hk,bq]
 constructor
 .rintro⟨a,b⟩;refine⟨λk hk=>?_,λk hk=>(g1 k hk).2 ?_,λk hk=>(g2 k hk).2 ?_⟩
  .have:=a k hk;simp[zx,wi,aw] at this ⊢;omega
  .have:=a k hk;simp[zx] at this ⊢;exact⟨this.1.1,this.2⟩
  .have:=b k hk;simp[CT] at this ⊢;exact this
 .rintro⟨c,a,b⟩;refine⟨λk hk=>?_,λk hk=>?_⟩
  .have h1:=(g1 k hk).1 (a k hk);have h2:=c k hk;simp[zx,wi,aw] at h1 h2 ⊢;omega
  .have h1:=(g2 k hk).1 (b k hk);simp[CT] at h1 ⊢;exact h1
def avJ (o:Order)(h1:o.choices.length<=100000)(h2:o.rules.length<=100000):aq T 72 [iO o] (.bool (qh o)):=by
 rw[<-au7];refine zyw 116 ayR ?_;simp[W8];refine gV o.choices.length (zx o) (λk=>[.bool false,.int k]) (λ_=>[]) ?_ (λk hk ho=>?_) (λk hk ho hb=>?_) (λhj=>?_)
 .simp
 .have hw:=aV hk (by omega);simp[zx,hk] at ho;simp[U2,G1,hk];refine⟨_,bJ _ _ _,?_⟩;simp[ho.1.1,hk];refine⟨_,bJ _ _ _,?_⟩;by_cases gP:0<k
  .have bq:k-1<o.choices.length:=by omega
   have di:i64.wrap ((k:Int)-1)=((k-1:Nat):Int):=by rw[xH (by omega)];omega
   have h3:¬o.choices[k].ask<=o.choices[k-1].ask:=by
        rcases ho.2 with h3|h3
        .omega
        .simp[bq] at h3;omega
   simp[ho.1.2,hk,hw,di,h3,gP,bq]
  .simp[ho.1.2,hk,hw,gP];omega
 .rw[hb];simp[zx,hk] at ho;simp[U2,G1,hk];refine⟨_,bJ _ _ _,?_⟩;cases e1:wi o.choices[k].ask 0 21 with
  |false=>simp
  |true=>
   simp[hk];refine⟨_,bJ _ _ _,?_⟩;cases e2:wi o.choices[k].by_ 0 4 with
   |false=>simp
   |true=>
    have h3:=ho e1 e2;have gP:0<k:=by omega
    have bq:k-1<o.choices.length:=by omega
    have di:i64.wrap ((k:Int)-1)=((k-1:Nat):Int):=by rw[xH (by omega)];omega
    have eI:=h3.2;simp[bq] at eI;simp[hk,di,eI,gP,bq]
 .rw[hj];simp[U2,G1];refine gV o.rules.length (CT o) (λk=>[.bool false,.int k]) (λ_=>[]) ?_ (λk hk ho=>?_) (λk hk ho hb=>?_) (λhj=>?_)
  .simp
  .have hw:=aV hk (by omega);simp[CT,hk] at ho;simp[U3,G2,hk];refine⟨_,bJ _ _ _,?_⟩;by_cases gP:0<k
   .have bq:k-1<o.rules.length:=by omega
    have di:i64.wrap ((k:Int)-1)=((k-1:Nat):Int):=by rw[xH (by omega)];omega
    have h3:¬o.rules[k].ask<=o.rules[k-1].ask:=by
       rcases ho.2 with h3|h3
       .omega
       .simp[bq] at h3;omega
    simp[ho.1,hk,hw,di,h3,gP,bq]
   .simp[ho.1,hk,hw,gP];omega
  .rw[hb];simp[CT,hk] at ho;simp[U3,G2,hk];refine⟨_,bJ _ _ _,?_⟩;cases e1:wi o.rules[k].ask 0 21 with
   |false=>simp
   |true=>
    have h3:=ho e1;have gP:0<k:=by omega
    have bq:k-1<o.rules.length:=by omega
    have di:i64.wrap ((k:Int)-1)=((k-1:Nat):Int):=by rw[xH (by omega)];omega
    have eI:=h3.2;simp[bq] at eI;simp[hk,di,eI,gP,bq]
  .rw[hj];simp[U3,G2]
def fH (r:Realm):List ByteArray:=r.cities.map (·.name)
def fY (r:Realm):List ByteArray:=r.firms.map (·.name)
def fI (r:Realm):List ByteArray:=r.orders.map (·.name)
def awU (r:Realm)(h1:r.cities.length<=100000)(h2:r.firms.length<=100000)(h3:r.orders.length<=100000):aq T 96 [aX r] (.tup [strs (fH r),strs (fY r),strs (fI r)]):=by
 refine zyw 8 aAd ?_;simp[Yf];refine aN.forRounds r.cities.length (λk=>[.none,.int k]) (λk=>[strs ((r.cities.take k).map (·.name))]) ?_ (λk hk=>?_) ?_
 .simp[strs]
 .have hw:=aV hk (by omega);have hl:(r.cities.take k).length=k:=by rw[ed];omega
  rw[DF _ hk];simp[ahQ,Nv,hk,hw,strs,hl];omega
 .simp[ahQ,Nv];refine aN.forRounds r.firms.length (λk=>[.none,.int k]) (λk=>[strs ((r.firms.take k).map (·.name))]) ?_ (λk hk=>?_) ?_
  .simp[strs]
  .have hw:=aV hk (by omega);have hl:(r.firms.take k).length=k:=by rw[ed];omega
   rw[DF _ hk];simp[ahR,Nw,hk,hw,strs,hl];omega
  .simp[ahR,Nw];refine aN.forRounds r.orders.length (λk=>[.none,.int k]) (λk=>[strs ((r.orders.take k).map (·.name))]) ?_ (λk hk=>?_) ?_
   .simp[strs]
   .have hw:=aV hk (by omega);have hl:(r.orders.take k).length=k:=by rw[ed];omega
    rw[DF _ hk];simp[ahS,Nx,hk,hw,strs,hl];omega
   .simp[ahS,Nx,fH,fY,fI]
structure Small (r:Realm):Prop where
 cur:r.currencies.length<=1000
 cities:r.cities.length<=1000
 groups:r.groups.length<=1000
 firms:r.firms.length<=1000
 orders:r.orders.length<=1000
 us:r.usances.length<=1000
 rates:r.rates.length<=1000
 halts:r.halts.length<=1000
 city:∀c,c∈r.cities->c.rest.length<=1000/\c.feasts.length<=1000/\c.shut.length<=1000/\∀y,y∈c.feasts->aQ y
 order:∀o,o∈r.orders->o.choices.length<=1000/\o.rules.length<=1000
 rate:∀x,x∈r.rates->aQ x.num/\aQ x.den
def nj (r:Realm)(k j:Nat):Bool:=(r.usances.getD j default).fr !=(r.usances.getD k default).fr||(r.usances.getD j default).to !=(r.usances.getD k default).to
def Ae (r:Realm)(k:Nat):Int:=
 if(aw (r.usances.getD k default).fr r.cities.length&&aw (r.usances.getD k default).to r.cities.length&&wi (r.usances.getD k default).days 1 20000)=false then 1 else if fu k (nj r k) then 0 else 5
def xF (r:Realm):Int:=if 100<r.usances.length then 6 else da r.usances.length (Ae r)
def awX (r:Realm)(h:Small r):aq T 105 [aX r] (.int (xF r)):=by
 refine zyw 22 aAh ?_;have hu:=h.us;simp[Yj,xF];by_cases h0:100<r.usances.length
 .have fA:(100:Int)<r.usances.length:=by omega
  have yw:¬r.usances.length<=100:=by omega
  simp[h0,fA,yw]
 have fA:¬(100:Int)<r.usances.length:=by omega
 simp[h0,fA];refine nT r.usances.length (Ae r) (λk=>[.int 0,.int k]) (λ_=>[]) ?_ (λk hk ho=>?_) (λk hk ho hb=>?_) (λhj=>?_)
 .simp
 .have hw:=aV hk (by omega);have ha:aw r.usances[k].fr r.cities.length=true/\aw r.usances[k].to r.cities.length=true/\wi r.usances[k].days 1 20000=true/\fu k (nj r k)=true:=by
   unfold Ae at ho;simp only[aL,bL hk,jc] at ho;cases e1:aw r.usances[k].fr r.cities.length<;>cases e2:aw r.usances[k].to r.cities.length<;>cases e3:wi r.usances[k].days 1 20000<;>cases e4:fu k (nj r k)<;>simp[e1,e2,e3,e4] at ho ⊢
  obtain⟨a1,a2,a3,a4⟩:=ha;simp[wi] at a3;have a5:¬r.usances[k].days<1:=by omega
  have a6:¬20000<r.usances[k].days:=by omega
  simp[VC,HA,hk];refine⟨_,gH _ _,?_⟩;simp[a1];refine⟨_,gH _ _,?_⟩;simp[a2,a5,a6];refine⟨by omega,gV k (nj r k) (λj=>[.int 0,.int j]) (λ_=>[]) ?_ (λj hj fC=>?_) (λj hj fC cW=>?_) (λmH=>?_)⟩
  .simp
  .have zb:=aV hj (by omega);have bR:j<r.usances.length:=by omega
   have hm:j<min k r.usances.length:=by omega
   simp[nj,bR,hk] at fC;simp[Nz,Dr,hj,bR,hk,zb,hm];intro e e';rcases fC with h|h
   .exact absurd e h
   .exact absurd e' h
  .rw[a4] at cW;cases cW
  .simp[Nz,Dr,hw];omega
 .simp[VC,HA,hk,hb];refine⟨_,gH _ _,?_⟩;unfold Ae at ho ⊢;simp only[aL,bL hk,jc] at ho ⊢;cases e1:aw r.usances[k].fr r.cities.length
  .simp
  simp;refine⟨_,gH _ _,?_⟩;cases e2:aw r.usances[k].to r.cities.length
  .simp
  cases e3:wi r.usances[k].days 1 20000
  .simp[wi] at e3;by_cases g:r.usances[k].days<1
   .simp[g]
   .simp[g,e3 (by omega)]
  have Qj:=e3;simp[wi] at Qj;have a5:¬r.usances[k].days<1:=by omega
  have a6:¬20000<r.usances[k].days:=by omega
  simp[e1,e2,e3] at ho;simp[a5,a6];refine⟨by omega,gV k (nj r k) (λj=>[.int 0,.int j]) (λ_=>[]) ?_ (λj hj fC=>?_) (λj hj fC cW=>?_) (λmH=>?_)⟩
  .simp
  .have zb:=aV hj (by omega);have bR:j<r.usances.length:=by omega
   have hm:j<min k r.usances.length:=by omega
   simp[nj,bR,hk] at fC;simp[Nz,Dr,hj,bR,hk,zb,hm];intro e e';rcases fC with h|h
   .exact absurd e h
   .exact absurd e' h
  .have bR:j<r.usances.length:=by omega
   have hm:j<min k r.usances.length:=by omega
   simp[nj,bR,hk] at fC;simp[Nz,Dr,hj,bR,hk,ho,hm]
   first|exact fC|simp[fC]
  .rw[mH] at ho;cases ho
 .simp[VC,HA,hj]
def avP (r:Realm)(h:Small r):aq T 44 [aX r] (.int (xF r)):=by
 refine zyw 117 ay0 ?_;have hu:=h.us;have hc:=h.cities;simp[Xh,xF];by_cases h0:100<r.usances.length
 .have fA:(100:Int)<r.usances.length:=by omega
  have yw:¬r.usances.length<=100:=by omega
  simp[h0,fA,yw]
 have fA:¬(100:Int)<r.usances.length:=by omega
 simp[h0,fA];refine nT r.usances.length (Ae r) (λk=>[.int 0,.int k]) (λ_=>[]) ?_ (λk hk ho=>?_) (λk hk ho hb=>?_) (λhj=>?_)
 .simp
 .have hw:=aV hk (by omega);have ha:aw r.usances[k].fr r.cities.length=true/\aw r.usances[k].to r.cities.length=true/\wi r.usances[k].days 1 20000=true/\fu k (nj r k)=true:=by
   unfold Ae at ho;simp only[aL,bL hk,jc] at ho;cases e1:aw r.usances[k].fr r.cities.length<;>cases e2:aw r.usances[k].to r.cities.length<;>cases e3:wi r.usances[k].days 1 20000<;>cases e4:fu k (nj r k)<;>simp[e1,e2,e3,e4] at ho ⊢
  obtain⟨a1,a2,a3,a4⟩:=ha;rw[jO] at a1 a2;simp[Vd,Hc,hk,tM _ (show r.cities.length<=4294967296 by omega)];refine⟨_,bJ _ _ _,?_⟩;simp[a1,tM _ (show r.cities.length<=4294967296 by omega)];refine⟨_,bJ _ _ _,?_⟩;simp[a2];refine⟨_,bJ _ _ _,?_⟩;simp[a3];refine gV k (nj r k) (λj=>[.int 0,.int j]) (λ_=>[]) ?_ (λj hj fC=>?_) (λj hj fC cW=>?_) (λmH=>?_)
  .simp
  .have zb:=aV hj (by omega);have bR:j<r.usances.length:=by omega
   simp[nj,bR,hk] at fC;simp[Nf,Dk,hj,bR,hk,zb];intro e e';rcases fC with h|h
   .exact absurd e h
   .exact absurd e' h
  .rw[a4] at cW;cases cW
  .simp[Nf,Dk,hw]
 .simp[Vd,Hc,hk,hb,tM _ (show r.cities.length<=4294967296 by omega)];refine⟨_,bJ _ _ _,?_⟩;unfold Ae at ho ⊢;simp only[aL,bL hk,jc,jO] at ho ⊢;cases e1:wi r.usances[k].fr 0 ((r.cities.length:Int)-1)
  .simp
  simp[tM _ (show r.cities.length<=4294967296 by omega)];refine⟨_,bJ _ _ _,?_⟩;cases e2:wi r.usances[k].to 0 ((r.cities.length:Int)-1)
  .simp
  simp;refine⟨_,bJ _ _ _,?_⟩;cases e3:wi r.usances[k].days 1 20000
  .simp
  simp[e1,e2,e3] at ho;simp;refine gV k (nj r k) (λj=>[.int 0,.int j]) (λ_=>[]) ?_ (λj hj fC=>?_) (λj hj fC cW=>?_) (λmH=>?_)
  .simp
  .have zb:=aV hj (by omega);have bR:j<r.usances.length:=by omega
   simp[nj,bR,hk] at fC;simp[Nf,Dk,hj,bR,hk,zb];intro e e';rcases fC with h|h
   .exact absurd e h
   .exact absurd e' h
  .have bR:j<r.usances.length:=by omega
   simp[nj,bR,hk] at fC;simp[Nf,Dk,hj,bR,hk,ho]
   first|exact fC|simp[fC]
  .rw[mH] at ho;cases ho
 .simp[Vd,Hc,hj]
def zV (r:Realm)(k:Nat):Bool:=aw (r.rates.getD k default).fr r.currencies.length&&aw (r.rates.getD k default).to r.currencies.length&&((r.rates.getD k default).fr !=(r.rates.getD k default).to)&&
 wi (r.rates.getD k default).num 1 1073741824&&wi (r.rates.getD k default).den 1 1073741824&&wi (r.rates.getD k default).since 0 100000
def wg (r:Realm)(k:Nat):Bool:=aw (r.halts.getD k default).order r.orders.length&&wi (r.halts.getD k default).fr 0 (r.halts.getD k default).to&&decide ((r.halts.getD k default).to<=100000)
def qu (r:Realm):Int:=if 100<r.rates.length then 6 else if fu r.rates.length (zV r)=false then 1 else if 20<r.halts.length then 6 else if fu r.halts.length (wg r) then 0 else 1
def LV {n:Int}(h:aQ n)(m:Int)(hm:0<=m/\m<=4294967296):aw (i64.wrap (n-1)) m=wi n 1 m:=by
 unfold aQ at h;by_cases e:n=-9223372036854775808
 .subst e;have:i64.wrap (-9223372036854775808-1)=9223372036854775807:=by decide
  rw[this,sc];simp[aw,wi];omega
 .rw[bn (by omega),sc];simp[aw,wi];omega
def ac2 (n:Int):aw n 100001=wi n 0 100000:=by rw[sc];simp[aw,wi];omega
def awW (r:Realm)(h:Small r):aq T 106 [aX r] (.int (qu r)):=by
 refine zyw 23 aAf ?_;have hu:=h.rates;have hh:=h.halts;simp[Yh,qu];by_cases h0:100<r.rates.length
 .have fA:(100:Int)<r.rates.length:=by omega
  have yw:¬r.rates.length<=100:=by omega
  simp[h0,fA,yw]
 have fA:¬(100:Int)<r.rates.length:=by omega
 simp[h0,fA];have key:∀k (hk:k<r.rates.length),∀{O:Env} {Q:Out->Prop},True:=λ_ _ _ _=>trivial;refine gV r.rates.length (zV r) (λk=>[.int 0,.int k]) (λ_=>[]) ?_ (λk hk ho=>?_) (λk hk ho hb=>?_) (λhj=>?_)
 .simp
 .have hw:=aV hk (by omega);have hI:=h.rate _ (cG hk);simp[zV,hk] at ho;obtain⟨⟨⟨⟨⟨a1,a2⟩,a3⟩,a4⟩,a5⟩,a6⟩:=ho;simp[VA,Hy,hk];refine⟨_,gH _ _,?_⟩;simp[a1];refine⟨_,gH _ _,?_⟩;simp[a2,a3];refine⟨_,gH _ _,?_⟩;simp[LV hI.1,a4];refine⟨_,gH _ _,?_⟩;simp[LV hI.2,a5];refine⟨_,gH _ _,?_⟩;simp[ac2,a6,hw]
 .have hI:=h.rate _ (cG hk);rw[hb];simp[zV,hk] at ho;simp[VA,Hy,hk];refine⟨_,gH _ _,?_⟩;cases e1:aw r.rates[k].fr r.currencies.length
  .simp
  simp;refine⟨_,gH _ _,?_⟩;cases e2:aw r.rates[k].to r.currencies.length
  .simp
  by_cases e3:r.rates[k].fr=r.rates[k].to
  .simp[e3]
  simp[e3];refine⟨_,gH _ _,?_⟩;rw[LV hI.1 _ (by omega)];cases e4:wi r.rates[k].num 1 1073741824
  .simp
  simp;refine⟨_,gH _ _,?_⟩;rw[LV hI.2 _ (by omega)];cases e5:wi r.rates[k].den 1 1073741824
  .simp
  simp;refine⟨_,gH _ _,?_⟩;rw[ac2];simp[ho e1 e2 e3 e4 e5]
 .rw[hj];simp[VA,Hy];by_cases h1:20<r.halts.length
  .have cD:(20:Int)<r.halts.length:=by omega
   have QJ:¬r.halts.length<=20:=by omega
   simp[h1,cD,QJ]
  have cD:¬(20:Int)<r.halts.length:=by omega
  simp[h1,cD];refine gV r.halts.length (wg r) (λk=>[.int 0,.int k]) (λ_=>[]) ?_ (λk hk ho=>?_) (λk hk ho hb=>?_) (λhj=>?_)
  .simp
  .have hw:=aV hk (by omega);simp[wg,wi,hk] at ho;obtain⟨⟨a1,a2⟩,a3⟩:=ho;have b1:¬r.halts[k].fr<0:=by omega
   have b2:¬r.halts[k].to<r.halts[k].fr:=by omega
   have b3:¬100000<r.halts[k].to:=by omega
   simp[VB,Hz,hk];refine⟨_,gH _ _,?_⟩;simp[a1,b1,b2,b3,hw]
  .rw[hb];simp[wg,wi,hk] at ho;simp[VB,Hz,hk];refine⟨_,gH _ _,?_⟩;cases e1:aw r.halts[k].order r.orders.length
   .simp
   have:=ho e1;by_cases b1:r.halts[k].fr<0
   .simp[b1]
   by_cases b2:r.halts[k].to<r.halts[k].fr
   .simp[b1,b2]
   have b3:100000<r.halts[k].to:=this (by omega) (by omega);simp[b1,b2,b3]
  .rw[hj];simp[VB,Hz]
def avO (r:Realm)(h:Small r):aq T 45 [aX r] (.int (qu r)):=by
 refine zyw 118 ayZ ?_;have hu:=h.rates;have hh:=h.halts;have hc:=tM r.currencies.length (by have:=h.cur;omega);have LK:=tM r.orders.length (by have:=h.orders;omega);simp[Xg,qu];by_cases h0:100<r.rates.length
 .have fA:(100:Int)<r.rates.length:=by omega
  have yw:¬r.rates.length<=100:=by omega
  simp[h0,fA,yw]
 have fA:¬(100:Int)<r.rates.length:=by omega
 simp[h0,fA];refine gV r.rates.length (zV r) (λk=>[.int 0,.int k]) (λ_=>[]) ?_ (λk hk ho=>?_) (λk hk ho hb=>?_) (λhj=>?_)
 .simp
 .have hw:=aV hk (by omega);simp[zV,hk,jO] at ho;obtain⟨⟨⟨⟨⟨a1,a2⟩,a3⟩,a4⟩,a5⟩,a6⟩:=ho;simp[Vb,Ha,hk,hc];refine⟨_,bJ _ _ _,?_⟩;simp[a1,hc];refine⟨_,bJ _ _ _,?_⟩;simp[a2,a3];refine⟨_,bJ _ _ _,?_⟩;simp[a4];refine⟨_,bJ _ _ _,?_⟩;simp[a5];refine⟨_,bJ _ _ _,?_⟩;simp[a6,hw]
 .rw[hb];simp[zV,hk,jO] at ho;simp[Vb,Ha,hk,hc];refine⟨_,bJ _ _ _,?_⟩;cases e1:wi r.rates[k].fr 0 ((r.currencies.length:Int)-1)
  .simp
  simp[hc];refine⟨_,bJ _ _ _,?_⟩;cases e2:wi r.rates[k].to 0 ((r.currencies.length:Int)-1)
  .simp
  by_cases e3:r.rates[k].fr=r.rates[k].to
  .simp[e3]
  simp[e3];refine⟨_,bJ _ _ _,?_⟩;cases e4:wi r.rates[k].num 1 1073741824
  .simp
  simp;refine⟨_,bJ _ _ _,?_⟩;cases e5:wi r.rates[k].den 1 1073741824
  .simp
  simp;refine⟨_,bJ _ _ _,?_⟩;simp[ho e1 e2 e3 e4 e5]
 .rw[hj];simp[Vb,Ha];by_cases h1:20<r.halts.length
  .have cD:(20:Int)<r.halts.length:=by omega
   have QJ:¬r.halts.length<=20:=by omega
   simp[h1,cD,QJ]
  have cD:¬(20:Int)<r.halts.length:=by omega
  simp[h1,cD];refine gV r.halts.length (wg r) (λk=>[.int 0,.int k]) (λ_=>[]) ?_ (λk hk ho=>?_) (λk hk ho hb=>?_) (λhj=>?_)
  .simp
  .have hw:=aV hk (by omega);simp[wg,hk,jO] at ho;obtain⟨⟨a1,a2⟩,a3⟩:=ho;have b3:¬100000<r.halts[k].to:=by omega
   simp[Vc,Hb,hk,LK];refine⟨_,bJ _ _ _,?_⟩;simp[a1];refine⟨_,bJ _ _ _,?_⟩;simp[a2,b3,hw]
  .rw[hb];simp[wg,hk,jO] at ho;simp[Vc,Hb,hk,LK];refine⟨_,bJ _ _ _,?_⟩;cases e1:wi r.halts[k].order 0 ((r.orders.length:Int)-1)
   .simp
   simp;refine⟨_,bJ _ _ _,?_⟩;cases e2:wi r.halts[k].fr 0 r.halts[k].to
   .simp
   simp[ho e1 e2]
  .rw[hj];simp[Vc,Hb]
def fP:List Int->Int
 |[]=>0
 |x::l=>if x=0 then fP l else x
def NP:∀{l:List Int},fP l=0↔∀x,x∈l->x=0
 |[]=>by simp[fP]
 |x::l=>by
  simp only[fP,cQ,forall_eq_or_imp];by_cases h:x=0
  .simp[h,NP (l:=l)]
  .simp[h]
def qY (r:Realm)(i:Nat):Bool:=aw (r.firms.getD i default).city r.cities.length&&aw (r.firms.getD i default).group r.groups.length
def ot (r:Realm)(i:Nat):Bool:=nz r (r.cities.getD i default)
def oT (r:Realm)(i:Nat):Bool:=qh (r.orders.getD i default)
def yu (r:Realm)(i:Nat):Bool:=aw (r.groups.getD i default).grade 10
def v9 (r:Realm):Int:=if 20<r.groups.length then 6 else if fu r.groups.length (yu r) then 0 else 1
def eO (r:Realm):Int:=fP [fa r.currencies 8 (λ_=>true),fa (fH r) 40 (ot r),v9 r,fa (fY r) 200 (qY r),fa (fI r) 20 (oT r),xF r,qu r]
def ak3 (i:Int):aq T 98 [.int i] (.bool true):=by
 refine zyw 14 az2 ?_;simp[X5]
def ak4 (r:Realm)(h:Small r)(i:Nat)(hi:i<r.cities.length):aq T 99 [.int i,.ref (aX r)] (.bool (ot r i)):=by
 refine zyw 15 az3 ?_;obtain⟨h1,h2,h3,h4⟩:=h.city _ (cG hi);simp[X6,hi,ot];exact awR r r.cities[i] (by omega) (by omega) (by omega)
def ak5 (r:Realm)(i:Nat)(hi:i<r.firms.length):aq T 102 [.int i,.ref (aX r)] (.bool (qY r i)):=by
 refine zyw 19 az4 ?_;simp[X7,hi,qY];refine⟨_,gH _ _,?_⟩;simp[hi];cases e1:aw r.firms[i].city r.cities.length<;>simp;exact gH _ _
def ak6 (r:Realm)(h:Small r)(i:Nat)(hi:i<r.orders.length):aq T 103 [.int i,.ref (aX r)] (.bool (oT r i)):=by
 refine zyw 20 az5 ?_;obtain⟨h1,h2⟩:=h.order _ (cG hi);simp[X8,hi,oT];exact awV r.orders[i] (by omega) (by omega)
def ah2 (r:Realm)(h:Small r):aq T 74 [aX r] (.int (eO r)):=by
 refine zyw 7 az6 ?_;have g1:=h.cur;have g2:=h.cities;have g3:=h.firms;have g4:=h.orders;have g5:=h.groups;simp[X4];refine⟨_,awU r (by omega) (by omega) (by omega),?_⟩;simp;refine⟨_,NG r.currencies 8 98 [] (λ_=>true) (λi _=>ak3 _) (by omega),?_⟩;unfold eO;generalize e1:fa r.currencies 8 (λ_=>true)=x1;by_cases z1:x1=0
 case neg=>simp[z1,fP]
 simp[z1,fP];refine⟨_,NG (fH r) 40 99 [.ref (aX r)] (ot r) (λi hi=>ak4 r h i (by simpa [fH] using hi)) (by simp[fH];omega),?_⟩;generalize e2:fa (fH r) 40 (ot r)=x2;by_cases z2:x2=0
 case neg=>simp[z2]
 simp[z2];by_cases z3:20<r.groups.length
 .have Zu:(20:Int)<r.groups.length:=by omega
  simp[Zu,v9,z3]
 have Zu:¬(20:Int)<r.groups.length:=by omega
 simp[Zu,v9,z3];refine gV r.groups.length (yu r) (λk=>[.int 0,.int k]) (λ_=>[]) ?_ (λk hk ho=>?_) (λk hk ho hb=>?_) (λhj=>?_)
 .simp
 .have hw:=aV hk (by omega);simp[yu,hk] at ho;simp[Vv,Ht,hk];refine⟨_,gH _ _,?_⟩;simp[ho,hw]
 .simp[yu,hk] at ho;rw[hb];simp[Vv,Ht,hk];refine⟨_,gH _ _,?_⟩;simp[ho]
 .rw[hj];simp[Vv,Ht];refine⟨_,NG (fY r) 200 102 [.ref (aX r)] (qY r) (λi hi=>ak5 r i (by simpa [fY] using hi)) (by simp[fY];omega),?_⟩;generalize e4:fa (fY r) 200 (qY r)=x4;by_cases z4:x4=0
  case neg=>simp[z4]
  simp[z4];refine⟨_,NG (fI r) 20 103 [.ref (aX r)] (oT r) (λi hi=>ak6 r h i (by simpa [fI] using hi)) (by simp[fI];omega),?_⟩;generalize e5:fa (fI r) 20 (oT r)=x5;by_cases z5:x5=0
  case neg=>simp[z5]
  simp[z5];refine⟨_,awX r h,?_⟩;generalize e6:xF r=x6;by_cases z6:x6=0
  case neg=>simp[z6]
  simp[z6];have e7:(if qu r=0 then 0 else qu r)=qu r:=by split<;>simp_all
  rw[e7];exact awW r h
def amS (l:List ByteArray)(k:Nat):ln l (λ_=>true) k=iW l k:=by
 unfold ln;by_cases h:iW l k=0<;>simp[h]
def BP {l:List ByteArray}{g:Nat->Bool}{k:Nat}(h:ln l g k=0):iW l k=0/\g k=true:=by
 unfold ln at h;by_cases h1:iW l k=0
 .simp[h1] at h;exact⟨h1,h⟩
 .simp[h1] at h
def QB {l:List ByteArray}{g:Nat->Bool}{k:Nat}(h:ln l g k≠0):(iW l k≠0/\ln l g k=iW l k)\/(iW l k=0/\g k=false/\ln l g k=1):=by
 unfold ln at h ⊢;by_cases h1:iW l k=0
 .simp[h1] at h ⊢;simp[h]
 .simp[h1]
def avL (r:Realm)(h:Small r):aq T 41 [aX r] (.int (fP [fa r.currencies 8 (λ_=>true),fa (fH r) 40 (ot r)])):=by
 refine zyw 106 ayV ?_;have g1:=h.cur;have g2:=h.cities;have g4:=h.orders;simp[Xc];unfold fa;by_cases z1:(8:Int)<r.currencies.length
 .simp[z1,fP]
 simp[z1,fP];refine nT r.currencies.length (ln r.currencies (λ_=>true)) (λk=>[.int 0,.int k]) (λ_=>[]) ?_ (λk hk ho=>?_) (λk hk ho hb=>?_) (λhj=>?_)
 .simp
 .have hw:=aV hk (by omega);simp[U6,G5,hk];refine⟨_,GO _ k hk (by omega),?_⟩;simp[(BP ho).1,hw]
 .rw[hb];simp[U6,G5,hk,ho];rw[amS];exact GO _ k hk (by omega)
 .rw[hj];simp[U6,G5];have hlen:(fH r).length=r.cities.length:=by simp[fH]
  rw[hlen];by_cases z2:(40:Int)<r.cities.length
  .simp[z2]
  simp[z2];have key:∀k (hk:k<r.cities.length),((fH r).take k).length=k/\D.list (List.take k (List.map str (fH r))++[str r.cities[k].name])=strs ((fH r).take (k+1))/\
     aq T 70 [strs ((fH r).take (k+1)),.int k] (.int (iW (fH r) k))/\aq T 71 [aX r,mB r.cities[k]] (.bool (ot r k)):=by
   intro k hk;have bh:k<(fH r).length:=by omega
   have hg:(fH r)[k]=r.cities[k].name:=by simp[fH]
   have hs:(fH r).take (k+1)=(fH r).take k++[(fH r)[k]]:=lR bh;have hn:=GO ((fH r).take (k+1)) k (by rw[ed];omega) (by rw[ed];omega);rw[SR _ _ _ (by omega)] at hn;obtain⟨c1,c2,c3,c4⟩:=h.city _ (cG hk);have hc:=avI r r.cities[k] (by omega) (by omega) (by omega) (by omega) (by omega) c4;rw[alc] at hc;exact⟨by rw[ed];omega,by rw[hs,hg];simp[strs],hn,by simpa [ot,hk] using hc⟩
  refine nT r.cities.length (ln (fH r) (ot r)) (λk=>[.int 0,.none,.int k]) (λk=>[strs ((fH r).take k)]) ?_ (λk hk ho=>?_) (λk hk ho hb=>?_) (λhj=>?_)
  .simp[strs]
  .have hw:=aV hk (by omega);obtain⟨hl,fD,hn,hc⟩:=key k hk;obtain⟨o1,o2⟩:=BP ho;rw[o1] at hn;rw[o2] at hc;simp[U7,G6,hk,hl,fD,axJ];refine⟨by omega,_,hn,?_⟩;simp[hk];refine⟨_,hc,?_⟩;simp[hw]
  .rw[hb];obtain⟨hl,fD,hn,hc⟩:=key k hk;simp[U7,G6,hk,hl,fD,ho];refine⟨by omega,_,hn,?_⟩;rcases QB ho with⟨o1,o2⟩|⟨o1,o2,o3⟩
   .simp[o1,o2]
   .rw[o2] at hc;simp[o1,o3,hk];refine⟨_,hc,?_⟩;simp
  .rw[hj];simp[U7,G6]
def avM (r:Realm)(h:Small r):aq T 42 [aX r] (.int (fP [v9 r,fa (fY r) 200 (qY r)])):=by
 refine zyw 114 ayW ?_;have g1:=h.groups;have g2:=h.firms;have g3:=h.cities;have w3:=tM r.cities.length (by omega);have w1:=tM r.groups.length (by omega);simp[Xd];by_cases z1:20<r.groups.length
 .have Zt:(20:Int)<r.groups.length:=by omega
  simp[Zt,v9,z1,fP]
 have Zt:¬(20:Int)<r.groups.length:=by omega
 simp[Zt,v9,z1,fP];refine gV r.groups.length (yu r) (λk=>[.int 0,.int k]) (λ_=>[]) ?_ (λk hk ho=>?_) (λk hk ho hb=>?_) (λhj=>?_)
 .simp
 .have hw:=aV hk (by omega);simp[yu,hk] at ho;have e:wi r.groups[k].grade 0 9=aw r.groups[k].grade 10:=by rw[sc];simp[wi,aw];omega
  simp[U8,G7,hk];refine⟨_,bJ _ _ _,?_⟩;simp[e,ho,hw]
 .simp[yu,hk] at ho;have e:wi r.groups[k].grade 0 9=aw r.groups[k].grade 10:=by rw[sc];simp[wi,aw];omega
  rw[hb];simp[U8,G7,hk];refine⟨_,bJ _ _ _,?_⟩;simp[e,ho]
 .rw[hj];simp[U8,G7];unfold fa;have hlen:(fY r).length=r.firms.length:=by simp[fY]
  rw[hlen];by_cases z2:(200:Int)<r.firms.length
  .simp[z2]
  simp[z2];have key:∀k (hk:k<r.firms.length),((fY r).take k).length=k/\D.list (List.take k (List.map str (fY r))++[str r.firms[k].name])=strs ((fY r).take (k+1))/\
     aq T 70 [strs ((fY r).take (k+1)),.int k] (.int (iW (fY r) k))/\qY r k=(wi r.firms[k].city 0 ((r.cities.length:Int)-1)&&wi r.firms[k].group 0 ((r.groups.length:Int)-1)):=by
   intro k hk;have bh:k<(fY r).length:=by omega
   have hg:(fY r)[k]=r.firms[k].name:=by simp[fY]
   have hs:(fY r).take (k+1)=(fY r).take k++[(fY r)[k]]:=lR bh;have hn:=GO ((fY r).take (k+1)) k (by rw[ed];omega) (by rw[ed];omega);rw[SR _ _ _ (by omega)] at hn;exact⟨by rw[ed];omega,by rw[hs,hg];simp[strs],hn,by simp[qY,hk,jO]⟩
  refine nT r.firms.length (ln (fY r) (qY r)) (λk=>[.int 0,.none,.int k]) (λk=>[strs ((fY r).take k)]) ?_ (λk hk ho=>?_) (λk hk ho hb=>?_) (λhj=>?_)
  .simp[strs]
  .have hw:=aV hk (by omega);obtain⟨hl,fD,hn,hc⟩:=key k hk;obtain⟨o1,o2⟩:=BP ho;rw[o1] at hn;rw[o2] at hc;have mE:=Bool.and_eq_true_iff.1 hc.symm;simp[U9,G8,hk,hl,fD];refine⟨by omega,_,hn,?_⟩;simp[hk,w3];refine⟨_,bJ _ _ _,?_⟩;simp[mE.1,hk,w1];refine⟨_,bJ _ _ _,?_⟩;simp[mE.2,hw]
  .rw[hb];obtain⟨hl,fD,hn,hc⟩:=key k hk;simp[U9,G8,hk,hl,fD,ho];refine⟨by omega,_,hn,?_⟩;rcases QB ho with⟨o1,o2⟩|⟨o1,o2,o3⟩
   .simp[o1,o2]
   .rw[o2] at hc;simp[o1,o3,hk,w3];refine⟨_,bJ _ _ _,?_⟩;cases e1:wi r.firms[k].city 0 ((r.cities.length:Int)-1)
    .simp
    rw[e1,sf] at hc;simp[hk,w1];refine⟨_,bJ _ _ _,?_⟩;simp[<-hc]
  .rw[hj];simp[U9,G8]
def avN (r:Realm)(h:Small r):aq T 43 [aX r] (.int (fa (fI r) 20 (oT r))):=by
 refine zyw 115 ayY ?_;have g2:=h.orders;simp[Xf];unfold fa;have hlen:(fI r).length=r.orders.length:=by simp[fI]
 rw[hlen];by_cases z2:(20:Int)<r.orders.length
 .simp[z2]
 simp[z2];have key:∀k (hk:k<r.orders.length),((fI r).take k).length=k/\D.list (List.take k (List.map str (fI r))++[str r.orders[k].name])=strs ((fI r).take (k+1))/\
  aq T 70 [strs ((fI r).take (k+1)),.int k] (.int (iW (fI r) k))/\aq T 72 [iO r.orders[k]] (.bool (oT r k)):=by
  intro k hk;have bh:k<(fI r).length:=by omega
  have hg:(fI r)[k]=r.orders[k].name:=by simp[fI]
  have hs:(fI r).take (k+1)=(fI r).take k++[(fI r)[k]]:=lR bh;have hn:=GO ((fI r).take (k+1)) k (by rw[ed];omega) (by rw[ed];omega);rw[SR _ _ _ (by omega)] at hn;obtain⟨c1,c2⟩:=h.order _ (cG hk);exact⟨by rw[ed];omega,by rw[hs,hg];simp[strs],hn,by simpa [oT,hk] using avJ r.orders[k] (by omega) (by omega)⟩
 refine nT r.orders.length (ln (fI r) (oT r)) (λk=>[.int 0,.none,.int k]) (λk=>[strs ((fI r).take k)]) ?_ (λk hk ho=>?_) (λk hk ho hb=>?_) (λhj=>?_)
 .simp[strs]
 .have hw:=aV hk (by omega);obtain⟨hl,fD,hn,hc⟩:=key k hk;obtain⟨o1,o2⟩:=BP ho;rw[o1] at hn;rw[o2] at hc;simp[Va,G9,hk,hl,fD];refine⟨by omega,_,hn,?_⟩;simp[hk];refine⟨_,hc,?_⟩;simp[hw]
 .rw[hb];obtain⟨hl,fD,hn,hc⟩:=key k hk;simp[Va,G9,hk,hl,fD,ho];refine⟨by omega,_,hn,?_⟩;rcases QB ho with⟨o1,o2⟩|⟨o1,o2,o3⟩
  .simp[o1,o2]
  .rw[o2] at hc;simp[o1,o3,hk];refine⟨_,hc,?_⟩;simp
 .rw[hj];simp[Va,G9]
def ag6 (r:Realm)(h:Small r):aq T 15 [aX r] (.int (eO r)):=by
 refine zyw 105 ayK ?_
 have e:eO r=fP [fP [fa r.currencies 8 (λ_=>true),fa (fH r) 40 (ot r)],fP [v9 r,fa (fY r) 200 (qY r)],fa (fI r) 20 (oT r),xF r,qu r]:=by
  unfold eO;simp only[fP];split<;>(try split)<;>(try split)<;>(try split)<;>simp_all
 rw[e];simp[W2];refine⟨_,avL r h,?_⟩;have h1:=avM r h;generalize fP [fa r.currencies 8 (λ_=>true),fa (fH r) 40 (ot r)]=x1 at*;generalize fP [v9 r,fa (fY r) 200 (qY r)]=x2 at*;have h2:=avN r h;generalize fa (fI r) 20 (oT r)=x3 at*;have h3:=avP r h;generalize xF r=x4 at*;have h4:=avO r h;generalize qu r=x5 at*;by_cases z1:x1=0
 case neg=>simp[z1,fP]
 simp[z1,fP];refine⟨_,h1,?_⟩;by_cases z2:x2=0
 case neg=>simp[z2]
 simp[z2];refine⟨_,h2,?_⟩;by_cases z3:x3=0
 case neg=>simp[z3]
 simp[z3];refine⟨_,h3,?_⟩;by_cases z4:x4=0
 case neg=>simp[z4]
 simp[z4];have e7:(if x5=0 then 0 else x5)=x5:=by split<;>simp_all
 rw[e7];exact h4
def gI:Nat->Tm->Int->Int
 |0,_,_=>-1
 |L+1,t,n=>t.args.foldl (λm a=>if 0<=m then gI L a m else m) (n-1)
def size_le:∀(L:Nat) (t:Tm) (n:Int),0<=n->-1<=gI L t n/\gI L t n<=n
 |0,t,n,h=>by simp[gI];omega
 |L+1,t,n,h=>by
  have key:∀(l:List Tm) (m:Int),-1<=m->m<=n->-1<=l.foldl (λm a=>if 0<=m then gI L a m else m) m/\l.foldl (λm a=>if 0<=m then gI L a m else m) m<=n:=by
   intro l
   induction l with
   |nil=>intro m h1 h2;exact⟨h1,h2⟩
   |cons a l ih=>
    intro m h1 h2;simp only[Ak];split
    .rename_i hm;have:=size_le L a m hm;exact ih _ this.1 (by omega)
    .exact ih _ h1 h2
  exact key _ _ (by omega) (by omega)
def NV (L:Nat):∀(l:List Tm) (m:Int),m<0->l.foldl (λm a=>if 0<=m then gI L a m else m) m=m
 |[],m,h=>rfl
 |a::l,m,h=>by simp only[Ak];rw[if_neg (by omega)];exact NV L l m h
def aoh {α β:Type}(f:β->α->β)(b:β){l:List α}{k:Nat}(h:k<l.length):(l.take (k+1)).foldl f b=f ((l.take k).foldl f b) l[k]:=by
 rw[lR h,Iq];rfl
def aog {α β:Type}(f:β->α->β)(b:β)(l:List α)(k:Nat):l.foldl f b=(l.drop k).foldl f ((l.take k).foldl f b):=by
 rw[<-Iq,OI]
def _root_.Cx.Tm.OK.len {t:Tm}(h:t.OK):t.args.length<=9223372036854775807:=by cases h with|mk o n xs h1 h2 h3 h4=>exact h3
def _root_.Cx.Tm.OK.arg {t:Tm}(h:t.OK){a:Tm}(ha:a∈t.args):a.OK:=by cases h with|mk o n xs h1 h2 h3 h4=>exact h4 a ha
def UE:∀(L:Nat) (t:Tm) (n:Int),t.OK->0<=n->n<=1000->L<=1000->aq T 92 [dm t,.int n,.int L] (.int (gI L t n))
 |0,t,n,ht,h0,h1,hL=>by
  refine .of_tree rfl aaa aiU ?_;simp[Og,gI]
 |L+1,t,n,ht,h0,h1,hL=>by
  refine .of_tree rfl aaa aiU ?_;have sW:i64.wrap (n-1)=n-1:=bn (by omega);have hl:=ht.len;have mK:¬((L:Int)+1<1):=by omega
  simp[Og,sW,mK]
  let g:Nat->Int:=λk=>(t.args.take k).foldl (λm a=>if 0<=m then gI L a m else m) (n-1)
  have gb:∀k,-1<=g k/\g k<=1000:=by
   intro k;have:g k=gI (L+1) (.mk 0 0 (t.args.take k)) n:=rfl;have:=size_le (L+1) (.mk 0 0 (t.args.take k)) n h0;omega
  refine .scan t.args.length (λk=>0<=g k) (λk=>[.int (g k),.int k]) (λ_=>[]) ?_ (λk hk hj ho=>?_) (λk hk hj ho=>?_) (λhj=>?_)
  .simp[g,sW]
  .have hw:i64.wrap ((k:Int)+1)=(k:Int)+1:=bn (by omega);have zc:i64.wrap (L:Int)=(L:Int):=bn (by omega);have hg:g (k+1)=gI L t.args[k] (g k):=by
    show(t.args.take (k+1)).foldl _ _=_;rw[aoh _ _ hk];show(if 0<=g k then _ else _)=_;rw[if_pos ho]
   rw[hg];have fL:=UE L t.args[k] (g k) (ht.arg (cG hk)) ho (gb k).2 (by omega);generalize g k=m at*;simp[Vk,Hj,hk,ho,zc];refine⟨_,fL,?_⟩;simp[hw]
  .have hf:gI (L+1) t n=g k:=by
    show t.args.foldl _ _=_;rw[aog _ _ _ k];exact NV L _ _ (by show g k<0;omega)
   rw[hf];generalize g k=m at*;simp[Vk,Hj,hk,ho]
  .have hf:gI (L+1) t n=g t.args.length:=by
    show t.args.foldl _ _=(t.args.take t.args.length).foldl _ _;rw[DY]
   rw[hf];generalize g t.args.length=m at*;simp[Vk,Hj]
def ahk (t:Tm)(ht:t.OK):aq T 69 [dm t] (.bool (decide (0<=gI 20 t 100))):=by
 refine zyw 103 azu ?_;simp[XF];refine⟨_,UE 20 t 100 ht (by omega) (by omega) (by omega),?_⟩;simp
def sJ (o:Order):Bool:=(decide (o.rules.length<=60)&&decide (o.choices.length<=60))&&fu o.rules.length (λk=>decide (0<=gI 20 (o.rules.getD k default).term 100))
def ahp (o:Order)(ho:o.OK):aq T 40 [iO o] (.bool (sJ o)):=by
 refine zyw 102 azH ?_;simp[XL];by_cases h1:(o.rules.length:Int)<=60
 case neg=>
  have cD:(60:Int)<o.rules.length:=by omega
  have hf:sJ o=false:=by
   have:decide (o.rules.length<=60)=false:=decide_eq_false (by omega);simp only[sJ,this,sd]
  simp[cD,hf]
 by_cases h2:(o.choices.length:Int)<=60
 case neg=>
  have cD:(60:Int)<o.choices.length:=by omega
  have hf:sJ o=false:=by
   have:decide (o.choices.length<=60)=false:=decide_eq_false (by omega);simp only[sJ,this,sd,xK]
  simp[cD,hf]
 have cD:¬(60:Int)<o.rules.length:=by omega
 have ic:¬(60:Int)<o.choices.length:=by omega
 have hf:sJ o=fu o.rules.length (λk=>decide (0<=gI 20 (o.rules.getD k default).term 100)):=by
  have e1:decide (o.rules.length<=60)=true:=decide_eq_true (by omega);have e2:decide (o.choices.length<=60)=true:=decide_eq_true (by omega);simp only[sJ,e1,e2,sf]
 rw[hf];simp[cD,ic];have hO:=ho.2.2;refine gV o.rules.length (λk=>decide (0<=gI 20 (o.rules.getD k default).term 100)) (λk=>[.bool false,.int k]) (λ_=>[]) ?_ (λk hk ho=>?_) (λk hk ho hb=>?_) (λhj=>?_)
 .simp
 .have hw:=aV hk (by omega);simp[hk] at ho;simp[Vm,Hl,hk];refine⟨_,ahk _ (hO _ (cG hk)).2,?_⟩;simp[ho,hw]
 .simp only[aL] at hb;rw[hb];simp[hk] at ho;simp[Vm,Hl,hk];refine⟨_,ahk _ (hO _ (cG hk)).2,?_⟩;simp[ho]
 .simp only[aL] at hj;rw[hj];simp[Vm,Hl]
def ET (f:File):Bool:=decide ((f.signs.length:Int)<=50)&&decide ((f.alters.length:Int)<=10)&&decide ((f.acts.length:Int)<=110)&&decide ((f.facts.length:Int)<=220)
def awa (f:File):aq T 39 [aS f] (.bool (ET f)):=by
 refine zyw 101 azl ?_;simp[Xz,ET];by_cases h1:(f.signs.length:Int)<=50<;>by_cases h2:(f.alters.length:Int)<=10<;>by_cases h3:(f.acts.length:Int)<=110<;>by_cases h4:(f.facts.length:Int)<=220<;>
  simp[h1,h2,h3,h4]
def ER (r:Realm)(k:Nat):Bool:=decide (((r.cities.getD k default).feasts.length:Int)<=70)&&decide (((r.cities.getD k default).shut.length:Int)<=210)&&decide (((r.cities.getD k default).rest.length:Int)<=8)
def ES (r:Realm)(k:Nat):Bool:=decide (((r.orders.getD k default).choices.length:Int)<=40)&&decide (((r.orders.getD k default).rules.length:Int)<=40)
def KF (r:Realm):Bool:=decide ((r.currencies.length:Int)<50)&&decide ((r.cities.length:Int)<50)&&decide ((r.groups.length:Int)<50)&&decide ((r.firms.length:Int)<210)&&decide ((r.orders.length:Int)<50)&&decide ((r.usances.length:Int)<110)&&decide ((r.rates.length:Int)<110)&&decide ((r.halts.length:Int)<50)
def qX (r:Realm):Bool:=fu (min r.cities.length 50) (ER r)&&fu (min r.orders.length 50) (ES r)&&KF r
def avG (r:Realm)(hr:r.OK):aq T 38 [aX r] (.bool (qX r)):=by
 refine zyw 100 ayL ?_;simp[W3];refine gV (min r.cities.length 50) (ER r) (λk=>[.bool false,.int k]) (λ_=>[]) ?_ (λk hk ho=>?_) (λk hk ho hb=>?_) (λhj=>?_)
 .simp
 .have bq:k<r.cities.length:=by omega
  have cn:k<50:=by omega
  have hw:=aV cn (by omega);simp[ER,bq] at ho;obtain⟨⟨a1,a2⟩,a3⟩:=ho;have b1:¬(70:Int)<r.cities[k].feasts.length:=by omega
  have b2:¬(210:Int)<r.cities[k].shut.length:=by omega
  have b3:¬(8:Int)<r.cities[k].rest.length:=by omega
  simp[GY,zW,bq,cn,hw,b1,b2,b3];omega
 .have bq:k<r.cities.length:=by omega
  have cn:k<50:=by omega
  have hf:qX r=false:=by simp only[qX,hb,sd]
  rw[hf];simp[ER,bq] at ho;by_cases b1:(70:Int)<r.cities[k].feasts.length
  .simp[GY,zW,bq,cn,b1];omega
  by_cases b2:(210:Int)<r.cities[k].shut.length
  .simp[GY,zW,bq,cn,b1,b2];omega
  have b3:(8:Int)<r.cities[k].rest.length:=by have:=ho (by omega) (by omega);omega
  simp[GY,zW,bq,cn,b1,b2,b3];omega
 .have hn:¬((min r.cities.length 50:Nat):Int)<r.cities.length\/¬((min r.cities.length 50:Nat):Int)<50:=by omega
  simp[GY,zW];rw[if_neg (by omega)];refine gV (min r.orders.length 50) (ES r) (λk=>[.bool false,.int k]) (λ_=>[]) ?_ (λk hk ho=>?_) (λk hk ho hb=>?_) (λri=>?_)
  .simp
  .have bq:k<r.orders.length:=by omega
   have cn:k<50:=by omega
   have hw:=aV cn (by omega);simp[ES,bq] at ho;obtain⟨a1,a2⟩:=ho;have b1:¬(40:Int)<r.orders[k].choices.length:=by omega
   have b2:¬(40:Int)<r.orders[k].rules.length:=by omega
   simp[Nd,Dj,bq,cn,hw,b1,b2];omega
  .have bq:k<r.orders.length:=by omega
   have cn:k<50:=by omega
   have hf:qX r=false:=by simp only[qX,hb,sd,xK]
   rw[hf];simp[ES,bq] at ho;by_cases b1:(40:Int)<r.orders[k].choices.length
   .simp[Nd,Dj,bq,cn,b1];omega
   have b2:(40:Int)<r.orders[k].rules.length:=by have:=ho (by omega);omega
   simp[Nd,Dj,bq,cn,b1,b2];omega
  .have hf:qX r=KF r:=by simp only[qX,hj,ri,sf]
   rw[hf];simp[Nd,Dj];rw[if_neg (by omega)];unfold KF;by_cases c1:(r.currencies.length:Int)<50<;>simp[c1];by_cases c2:(r.cities.length:Int)<50<;>simp[c2];by_cases c3:(r.groups.length:Int)<50<;>simp[c3];by_cases c4:(r.firms.length:Int)<210<;>simp[c4];by_cases c5:(r.orders.length:Int)<50<;>simp[c5];by_cases c6:(r.usances.length:Int)<110<;>simp[c6];by_cases c7:(r.rates.length:Int)<110<;>simp[c7]
def Qy {r:Realm}(hr:r.OK)(h:qX r=true):Small r:=by
 simp only[qX,KF,av,decide_eq_true_eq,xX] at h;obtain⟨⟨h1,h2⟩,⟨⟨⟨⟨⟨⟨⟨c1,c2⟩,c3⟩,c4⟩,c5⟩,c6⟩,c7⟩,c8⟩⟩:=h;obtain⟨k1,⟨k2,k2'⟩,⟨k3,k3'⟩,⟨k4,k4'⟩,⟨k5,k5'⟩,⟨k6,k6'⟩,⟨k7,k7'⟩,⟨k8,k8'⟩⟩:=hr;refine⟨by omega,by omega,by omega,by omega,by omega,by omega,by omega,by omega,λc hc=>?_,λo ho=>?_,λx hx=>?_⟩
 .obtain⟨k,hk,rfl⟩:=jV hc;have:=h1 k (by omega);simp[ER,hk] at this;have:=k2' _ hc;exact⟨by omega,by omega,by omega,λy hy=>this.2.2.2.1.2 y hy⟩
 .obtain⟨k,hk,rfl⟩:=jV ho;have:=h2 k (by omega);simp[ES,hk] at this;omega
 .have:=k7' x hx;exact⟨this.2.2.1,this.2.2.2.1⟩
def uq (r:Realm)(f:File):Bool:=(qX r&&ET f)&&fu r.orders.length (λk=>sJ (r.orders.getD k default))
def awr (r:Realm)(f:File)(hr:r.OK):aq T 14 [aX r,aS f] (.bool (uq r f)):=by
 refine zyw 99 azT ?_;simp[XX];refine⟨_,avG r hr,?_⟩;cases e1:qX r
 .simp[uq,e1]
 simp;refine⟨_,awa f,?_⟩;cases e2:ET f
 .simp[uq,e1,e2]
 have hs:=Qy hr e1;have ho:=hs.orders;have hf:uq r f=fu r.orders.length (λk=>sJ (r.orders.getD k default)):=by simp only[uq,e1,e2,sf]
 rw[hf];simp;have hO:=hr.2.2.2.2.1.2;refine gV r.orders.length (λk=>sJ (r.orders.getD k default)) (λk=>[.bool false,.int k]) (λ_=>[]) ?_ (λk hk ho=>?_) (λk hk ho hb=>?_) (λhj=>?_)
 .simp
 .have hw:=aV hk (by omega);simp[hk] at ho;simp[Vq,Ho,hk];refine⟨_,ahp _ (hO _ (cG hk)),?_⟩;simp[ho,hw]
 .simp only[aL] at hb;rw[hb];simp[hk] at ho;simp[Vq,Ho,hk];refine⟨_,ahp _ (hO _ (cG hk)),?_⟩;simp[ho]
 .simp only[aL] at hj;rw[hj];simp[Vq,Ho]
def E6 (r:Realm)(f:File):Bool:=uq r f&&decide (eO r=0)
def mA (n:Int):Int:=min (max n (-1099511627776)) 1099511627776
def N2 (n:Int):aq T 170 [.int n] (.int (mA n)):=by
 refine zyw 78 aAG ?_;simp[YI,mA];by_cases h1:-1099511627776>n
 .have:¬(1099511627776:Int)< -1099511627776:=by omega
  simp[h1];omega
 .by_cases h2:(1099511627776:Int)<n
  .simp[h1,h2];omega
  .simp[h1,h2];omega
def kY (v:Int):Int×Bool:=if v<0\/19<v then(0,false) else if v<7 then(0,true) else(1,true)
def aiN (v:Int):aq T 168 [.int v] (.tup [.int (kY v).1,.bool (kY v).2]):=by
 refine zyw 79 aAC ?_;simp[YD,kY];by_cases h1:v<0
 .simp[h1]
 by_cases h2:19<v
 .simp[h1,h2]
 by_cases h3:v<7
 .simp[h1,h2,h3]
 .simp[h1,h2,h3]
def sZ (t:Tm):Int×Int:=
 if 0<t.args.length then(0,2) else if t.op=0 then(if mA t.n≠t.n then(0,3) else(0,0)) else if t.op=1 then(if t.n<0\/1<t.n then(0,3) else(1,0)) else if(kY t.n).2=false then(0,10) else((kY t.n).1,0)
def axT (t:Tm):aq T 166 [dm t] (.tup [.int (sZ t).1,.int (sZ t).2]):=by
 refine zyw 77 aAH ?_;simp[YJ,sZ];by_cases h0:0<t.args.length
 .have fA:(0:Int)<t.args.length:=by omega
  simp[h0,fA]
 simp[h0];by_cases h1:t.op=0
 .simp[h1];refine⟨_,N2 _,?_⟩;by_cases h2:mA t.n=t.n<;>simp[h2]
 by_cases h2:t.op=1
 .simp[h1,h2];by_cases h3:t.n<0<;>by_cases h4:1<t.n<;>simp[h3,h4]
 simp[h1,h2];refine⟨_,aiN _,?_⟩;cases h3:(kY t.n).2<;>simp[h3]
def dI (op:Int):List Int×Int:=
 if op=3 then([1],1) else if op=4\/op=5 then([1,1],1) else if op=6 then([1,-1,-1],-1) else if op=7 then([0,0],1) else if op=8 then([-1,-1],1) else([0,0],0)
def EN (s:List Int×Int):D:=.agg [ints s.1,.int s.2]
@[simp] def aDt (s:List Int×Int):(EN s).cells=[ints s.1,.int s.2]:=zyz
@[simp] def aDr (s:List Int×Int):(EN s).c 0=ints s.1:=zyz
@[simp] def aDs (s:List Int×Int):(EN s).c 1=.int s.2:=zyz
@[simp] def aG2 (s:List Int×Int):D.agg [ints s.1,.int s.2]=EN s:=zyz
@[simp] def aHN (x y:Int):vz (.int x) 0 (.int y)=.int y:=zyz
def axV (op:Int):aq T 167 [.int op] (EN (dI op)):=by
 refine zyw 80 aAL ?_;simp[YM,dI];by_cases h3:op=3
 .simp[h3];rfl
 by_cases h4:op=4
 .simp[h4];rfl
 by_cases h5:op=5
 .simp[h5];rfl
 by_cases h6:op=6
 .simp[h6];rfl
 by_cases h7:op=7
 .simp[h7];rfl
 by_cases h8:op=8
 .simp[h8];rfl
 simp[h3,h4,h5,h6,h7,h8];rfl
end Rm
