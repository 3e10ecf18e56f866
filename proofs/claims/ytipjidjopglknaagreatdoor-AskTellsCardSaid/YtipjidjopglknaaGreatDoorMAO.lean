/-
  Shared texts of this claim.
-/
import Derived.Test.YtipjidjopglknaaGreatDoorMAK
import Derived.KernelRfl
import Derived.Test.YtipjidjopglknaaGreatDoorMAL
import Derived.Test.YtipjidjopglknaaGreatDoorMAM
import Derived.Test.YtipjidjopglknaaGreatDoorMAN
import Derived.Test.YtipjidjopglknaaGreatDoorMAJ
import Derived.WalkKit
import Derived.WalkSpells
import Derived.Lib.SliceRun
import Derived.Lib.AppendZeros
import Derived.Shelf.Sort.Plain
import Derived.Ground.Names2Prog
import Derived.Shelf.Slices.CompactI
import Derived.Shelf.Slices.In.SortNone
import Derived.Test.YtipjidjopglknaaGreatDoorProg
import Derived.Below
import Derived.Lib.Walk
import Derived.Sort.OwnSortedInts
import Derived.Shelf.RegionOpenPlain
set_option linter.defProp false
set_option linter.unusedVariables false
set_option maxRecDepth 100000
noncomputable section
namespace Rm
open Go Go.Proofs Cx
def Bk:Option PC:=cF [2,3,5,6,7,8,9,10] [] Tryz.f157 157 [1,4,33]
def Qb:Nat->PC:=bn Bk
variable(b:Nat->PC)
def auL:PC:=.block 0 [2,3,4,5,12,13,14,15,16] [4] (.loop [2,3,4,5] [4] (b 0))
def H5 (b:Nat->PC):PT:=
 (.ite (aj r5 oG)
 (.blockS ⟨[],[]⟩ 1 [2,3,4,6,7,19,20,21,22,23,24,25,26,27,28,29,32,33,34] [4,33]
 (.chk (ao (pc o1 2) r5)
 (.call ⟨[],[]⟩ [] 25 157 [(pn (pc o1 2) r5)]
 (.ite (aR (.tget fp 1) (pi 0))
 (.ret (.tup [(pi 0),(.tget fp 1)]))
 (.chk (bB (.llen (.app o4 (.lst [(.tget fp 0)]))) cM)
 (.next ⟨[(4,pN)],[(4,(.app o4 (.lst [(.tget fp 0)])))]⟩)))))
 (.next ⟨[(5,nz)],[]⟩))
 (.exit 0 ⟨[(12,r5),(13,pN),(14,(pc o1 2)),(15,oG),(16,(aj r5 oG))],[]⟩))
def X6:PT:=
 (.brk ⟨[(5,(pi 0)),(4,pN),(3,(pi 0)),(2,(pi 0))],[(4,(.lst [])),(1,(.mk [r0]))]⟩
(auL b)
 (.ite (.pick (aj (pc o1 0) (pi 0)) pT (bY (pc o1 0) (pi 14)))
 (.ret (.tup [(pi 0),(pi 1)]))
 (.call ⟨[],[]⟩ [] 45 181 [(pc o1 0)]
 (.ite (.pick (aR (.llen o4) nC) pT (.pick (bq nC (pi 0)) (aR (pc o1 1) (pi 0)) pF))
 (.ret (.tup [(pi 0),(pi 2)]))
 (.iteS ⟨[],[]⟩ (peq nC (pi 0)) [2,3] []
 (.call ⟨[],[]⟩ [] 62 182 [NA]
 (.ret (.tup [(.tget qd 0),(.tget qd 1)])))
 (.next ⟨[],[]⟩)
 (.call ⟨[],[]⟩ [] 69 183 [(pc o1 0),o4]
 (.ite (.nt (.tget oI 1))
 (.ret (.tup [(pi 0),(pi 11)]))
 (.ret (.tup [(.tget oI 0),(pi 0)])))))))))
def apA:PT×List (Shp×PT):=(X6 b,[(.lp 0 [2,3,4,5,12,13,14,15,16] [4] [2,3,4,5] [4],H5 b)])
def T3:Bk.map told=some (apA (bx Bk)):=by kernel_rfl
def aA1:tree (ab Bk)=X6 Qb:=bJ T3
def VL:round 0 [2,3,4,5,12,13,14,15,16] [4] [2,3,4,5] [4] (Qb 0)=H5 Qb:=aZ T3 0 λ_=>rfl
def Ks:Option PC:=cF [2,4,8,10] [] Tryz.f181 181 []
def xI:PT:=
 (.ite (.pick (peq r0 (pi 0)) (peq r0 (pi 0)) (.pick (peq r0 (pi 1)) (peq r0 (pi 1)) (peq r0 (pi 2))))
 (.ret (pi 0))
 (.ite (peq r0 (pi 3))
 (.ret (pi 1))
 (.ite (peq r0 (pi 6))
 (.ret (pi 3))
 (.ret (pi 2)))))
def af2:Ks.map told=some (xI,[]):=by kernel_rfl
def aAT:tree (ab Ks)=xI:=aO af2
def Ku:Option PC:=cF [2,3,4,5] [] Tryz.f182 182 [1]
def xJ:PT:=
 (.ite (peq gK (pi 0))
 (.ite (.pick (aj ke (pi (-1099511627776))) pT (bq ke (pi 1099511627776)))
 (.ret (.tup [(pi 0),(pi 3)]))
 (.ret (.tup [(pi 0),(pi 0)])))
 (.ite (peq gK (pi 1))
 (.ite (.pick (aR ke (pi 0)) (aR ke (pi 1)) pF)
 (.ret (.tup [(pi 0),(pi 3)]))
 (.ret (.tup [(pi 1),(pi 0)])))
 (.call ⟨[],[]⟩ [] 31 184 [ke]
 (.ite (.nt (.tget mO 1))
 (.ret (.tup [(pi 0),(pi 10)]))
 (.ret (.tup [(.tget mO 0),(pi 0)]))))))
def af4:Ku.map told=some (xJ,[]):=by kernel_rfl
def aAW:tree (ab Ku)=xJ:=aO af4
def Kr:Option PC:=cF [2,3] [] Tryz.f184 184 []
def DY:PT:=
 (.ite (.pick zV pT (bY r0 (pi 20)))
 (.ret (.tup [(pi 0),pF]))
 (.ite (bB r0 (pi 6))
 (.ret (.tup [(pi 0),pT]))
 (.ret (.tup [(pi 1),pT]))))
def af1:Kr.map told=some (DY,[]):=by kernel_rfl
def aAS:tree (ab Kr)=DY:=aO af1
def Kt:Option PC:=cF [4,5,7,13,26,44,56] [] Tryz.f183 183 []
def vp:PT:=
 (.ite (peq r0 (pi 3))
 (.chk sY
 (.ret (.tup [(pi 1),Dj])))
 (.ite (.pick (peq r0 (pi 4)) (peq r0 (pi 4)) (peq r0 (pi 5)))
 (.chk sY
 (.chk (.nt (.an (.an Dj pT) (.nt rE)))
 (.ret (.tup [(pi 1),(.pick Dj (peq lh (pi 1)) pF)]))))
 (.ite (peq r0 (pi 6))
 (.chk rE
 (.chk sY
 (.chk (.nt (.an (.an Dj pT) (.nt rE)))
 (.chk (.nt (.an (.an Dj pT) (.nt (ao r1 (pi 2)))))
 (.ret (.tup [lh,(.pick Dj (peq lh (pn r1 (pi 2))) pF)]))))))
 (.ite (peq r0 (pi 7))
 (.chk sY
 (.chk (.nt (.an (.an (peq oE (pi 0)) pT) (.nt rE)))
 (.ret (.tup [(pi 1),(.pick (peq oE (pi 0)) (peq lh (pi 0)) pF)]))))
 (.ite (peq r0 (pi 8))
 (.chk sY
 (.chk rE
 (.ret (.tup [(pi 1),(peq oE lh)]))))
 (.chk sY
 (.chk (.nt (.an (.an (peq oE (pi 0)) pT) (.nt rE)))
 (.ret (.tup [(pi 0),(.pick (peq oE (pi 0)) (peq lh (pi 0)) pF)])))))))))
def af3:Kt.map told=some (vp,[]):=by kernel_rfl
def aAV:tree (ab Kt)=vp:=aO af3
def KC:Option PC:=cF [2,3] [] Tryz.f119 119 []
def Yc:PT:=
 (.call ⟨[],[]⟩ [] 5 35 [r0]
 (.ite (.nt r5)
 (.ret (.tup [(pi 0),pF]))
 (.call ⟨[],[]⟩ [] 8 79 [r0]
 (.ite r8
 (.ret (.tup [(pi 1),pT]))
 (.ret (.tup [(pi 0),pT]))))))
def agb:KC.map told=some (Yc,[]):=by kernel_rfl
def aA7:tree (ab KC)=Yc:=aO agb
def J7:Option PC:=cF [2,4] [] Tryz.f79 79 []
def OS:PT:=
 (.ite (.pick (peq r0 (pi 6)) (peq r0 (pi 6)) (.pick (peq r0 (pi 7)) (peq r0 (pi 7)) (.pick (peq r0 (pi 10)) (peq r0 (pi 10)) (.pick (peq r0 (pi 12)) (peq r0 (pi 12)) (.pick (peq r0 (pi 13)) (peq r0 (pi 13)) (.pick (peq r0 (pi 14)) (peq r0 (pi 14)) (.pick (peq r0 (pi 15)) (peq r0 (pi 15)) (.pick (peq r0 (pi 16)) (peq r0 (pi 16)) (.pick (peq r0 (pi 20)) (peq r0 (pi 20)) (peq r0 (pi 21)))))))))))
 (.ret pF)
 (.call ⟨[],[]⟩ [] 16 74 [r0,(pi 0),(pi 21)]
 (.ret fo)))
def afI:J7.map told=some (OS,[]):=by kernel_rfl
def aAh:tree (ab J7)=OS:=aO afI
def Km:Option PC:=cF [5,6] [] Tryz.f77 77 [2,4]
def XY:PT:=
 (.call ⟨[],[(4,cN),(2,(.mk [r0]))]⟩ [] 9 118 [z7]
 (.ite (aR (.tget r9 1) (pi 0))
 (.ret uV)
 (.call ⟨[],[]⟩ [] 17 120 [UP,r1]
 (.ret (.mk [(pc (.setc o4 0 iy) 0),(pc (.setc o4 0 iy) 1)])))))
def afX:Km.map told=some (XY,[]):=by kernel_rfl
def aAM:tree (ab Km)=XY:=aO afX
def Bi:Option PC:=cF [9,15,6,41,55,64,73] [] Tryz.f120 120 [2,4,5,37]
def P8:Nat->PC:=bn Bi
def auI:PC:=.block 1 [5,6,22,23,24,25,26] [5] (.loop [5,6] [5] (b 0))
def rK (b:Nat->PC):PT:=
 (.ite (aj r6 Dn)
 (.blockS ⟨[],[]⟩ 2 [5,30,31,32,33,34,35,36,37,38] [5,37]
 (.chk (ao (pc o2 2) r6)
 (.call ⟨[],[]⟩ [] 36 120 [(pn (pc o2 2) r6),r1]
 (.chk (bB (.llen (.app o5 (.lst [kH]))) cM)
 (.next ⟨[(5,pN)],[(5,(.app o5 (.lst [kH])))]⟩))))
 (.next ⟨[(6,zU)],[]⟩))
 (.exit 1 ⟨[(22,r6),(23,pN),(24,(pc o2 2)),(25,Dn),(26,(aj r6 Dn))],[]⟩))
def IW:PT:=
 (.blockS ⟨[(8,gK)],[(4,cN),(2,(.mk [r0]))]⟩ 0 [9,10,15,16] [4]
 (.iteS ⟨[],[]⟩ (.pick (peq r8 (pi 0)) (peq r8 (pi 0)) (peq r8 (pi 1))) [15,16] [4]
 (.ret (.mk [(pc (.setc o4 0 (.mk [pT,(pc o2 1)])) 0),(pc (.setc o4 0 (.mk [pT,(pc o2 1)])) 1)]))
 (.iteS ⟨[],[]⟩ (peq r8 (pi 2)) [] [4]
 (.call ⟨[],[]⟩ [] 20 158 [(pc o2 1),r1]
 (.ret (.mk [(pc (.setc o4 0 eT) 0),(pc (.setc o4 0 eT) 1)])))
 (.next ⟨[],[]⟩)
 (.next ⟨[],[]⟩))
 (.next ⟨[],[]⟩))
 (.brk ⟨[(6,(pi 0)),(5,pN)],[(5,(.lst []))]⟩
(auI b)
 (.blockS ⟨[(40,(pc o2 0))],[]⟩ 3 [41,42,55,56,64,65,73,74] [4]
 (.iteS ⟨[],[]⟩ (peq ma (pi 3)) [55,56,64,65,73,74] [4]
 (.chk (ao o5 (pi 0))
 (.ite (.nt (pc pZ 0))
 (.ret uV)
 (.ret (.mk [(pc (.setc o4 0 (.mk [pT,(bp (pi 1) (pc pZ 1))])) 0),(pc (.setc o4 0 (.mk [pT,(bp (pi 1) (pc pZ 1))])) 1)]))))
 (.iteS ⟨[],[]⟩ (peq ma (pi 4)) [64,65,73,74] [4]
 (.chk (ao o5 (pi 0))
 (.chk (ao o5 (pi 1))
 (.call ⟨[],[]⟩ [] 63 159 [(.sub pZ 0 2),(.sub uZ 0 2),(pi 0)]
 (.ret (.mk [(pc (.setc o4 0 Hu) 0),(pc (.setc o4 0 Hu) 1)])))))
 (.iteS ⟨[],[]⟩ (peq ma (pi 5)) [73,74] [4]
 (.chk (ao o5 (pi 0))
 (.chk (ao o5 (pi 1))
 (.call ⟨[],[]⟩ [] 72 159 [(.sub pZ 0 2),(.sub uZ 0 2),(pi 1)]
 (.ret (.mk [(pc (.setc o4 0 Hx) 0),(pc (.setc o4 0 Hx) 1)])))))
 (.ite (peq ma (pi 6))
 (.chk (ao o5 (pi 0))
 (.ite (pc pZ 0)
 (.chk (ao o5 (bp (pi 2) (pc pZ 1)))
 (.ret (.mk [(pc (.setc o4 0 (.sub (pn o5 (bp (pi 2) (pc pZ 1))) 0 2)) 0),(pc (.setc o4 0 (.sub (pn o5 (bp (pi 2) (pc pZ 1))) 0 2)) 1)])))
 (.chk (ao o5 (pi 1))
 (.chk (.nt (.an (.an (pc uZ 0) pT) (.nt (ao o5 (pi 2)))))
 (.chk (.nt (.an (.an UK pT) (.nt (ao o5 (pi 1)))))
 (.chk (.nt (.an (.an UK pT) (.nt (ao o5 (pi 2)))))
 (.ite (.pick UK (peq (pc uZ 1) (pc (pn o5 (pi 2)) 1)) pF)
 (.ret (.mk [(pc (.setc o4 0 (.sub uZ 0 2)) 0),(pc (.setc o4 0 (.sub uZ 0 2)) 1)]))
 (.ret uV))))))))
 (.next ⟨[],[]⟩))
 (.next ⟨[],[]⟩))
 (.next ⟨[],[]⟩))
 (.next ⟨[],[]⟩))
 (.chk (ao o5 (pi 0))
 (.chk (.nt (.an (.an (.nt (.nt (pc pZ 0))) pT) (.nt (ao o5 (pi 1)))))
 (.ite (.pick (.nt (pc pZ 0)) pT (.nt (pc uZ 0)))
 (.ret uV)
 (.chk (ao o5 (pi 1))
 (.call ⟨[],[]⟩ [] 135 160 [(pc o2 0),(pc pZ 1),(pc uZ 1)]
 (.ret (.mk [(pc (.setc o4 0 (.r 135)) 0),(pc (.setc o4 0 (.r 135)) 1)]))))))))))
def apx:PT×List (Shp×PT):=(IW b,[(.lp 1 [5,6,22,23,24,25,26] [5] [5,6] [5],rK b)])
def TY:Bi.map told=some (apx (bx Bi)):=by kernel_rfl
def aAU:tree (ab Bi)=IW P8:=bJ TY
def ve:round 1 [5,6,22,23,24,25,26] [5] [5,6] [5] (P8 0)=rK P8:=aZ TY 0 λ_=>rfl
def Kq:Option PC:=cF [6,7] [] Tryz.f158 158 [4,5]
def X2:PT:=
 (.ite (.pick zV pT (bY r0 (.llen r1)))
 (.ret Nt)
 (.chk (ao r1 r0)
 (.ite (.nt (pc (.setc cN 0 (pn r1 r0)) 0))
 (.ret Nt)
 (.call ⟨[],[(4,cN),(5,(.setc cN 0 (pn r1 r0)))]⟩ [] 27 184 [r0]
 (.iteS ⟨[],[]⟩ (peq (.tget fM 0) (pi 0)) [] [4]
 (.call ⟨[],[]⟩ [] 34 185 [(pc o5 1)]
 (.ret (.mk [(pc (.setc o4 0 (.mk [pT,Hs])) 0),(pc (.setc o4 0 (.mk [pT,Hs])) 1)])))
 (.next ⟨[],[]⟩)
 (.ite (aR (pc o5 1) (pi 0))
 (.ret (.mk [(pc (.setc o4 0 (.mk [pT,(pi 1)])) 0),(pc (.setc o4 0 (.mk [pT,(pi 1)])) 1)]))
 (.ret (.mk [(pc (.setc o4 0 (.mk [pT,(pi 0)])) 0),(pc (.setc o4 0 (.mk [pT,(pi 0)])) 1)]))))))))
def af0:Kq.map told=some (X2,[]):=by kernel_rfl
def aAR:tree (ab Kq)=X2:=aO af0
def Kl:Option PC:=cF [2] [] Tryz.f185 185 []
def OV:PT:=
 (.ret (.mx (pi (-1099511627776)) (.mn (pi 1099511627776) r0)))
def afW:Kl.map told=some (OV,[]):=by kernel_rfl
def aAL:tree (ab Kl)=OV:=aO afW
def Kv:Option PC:=cF [] [] Tryz.f159 159 [3,4,6]
def X3:PT:=
 (.ite (.pick (.pick gK (peq ke r2) pF) pT (.pick zR (peq Dk r2) pF))
 (.ret (.mk [(pc (.setc cN 0 (.mk [pT,r2])) 0),(pc (.setc cN 0 (.mk [pT,r2])) 1)]))
 (.ite (.pick gK zR pF)
 (.ret (.mk [(pc (.setc cN 0 (.mk [pT,(bp (pi 1) r2)])) 0),(pc (.setc cN 0 (.mk [pT,(bp (pi 1) r2)])) 1)]))
 (.ret Nt)))
def af5:Kv.map told=some (X3,[]):=by kernel_rfl
def aAX:tree (ab Kv)=X3:=aO af5
def Kw:Option PC:=cF [8,14,20,27,34,40] [] Tryz.f160 160 [6]
def vq:PT:=
 (.blockS ⟨[(7,r0)],[(6,cN)]⟩ 0 [8,9,14,15,20,21,27,28,34,35,40,41] [6]
 (.iteS ⟨[],[]⟩ (peq r7 (pi 7)) [14,15,20,21,27,28,34,35,40,41] [6]
 (.call ⟨[],[]⟩ [] 13 186 [(aj r1 r2)]
 (.ret (.mk [(pc (.setc o6 0 dP) 0),(pc (.setc o6 0 dP) 1)])))
 (.iteS ⟨[],[]⟩ (peq r7 (pi 8)) [20,21,27,28,34,35,40,41] [6]
 (.call ⟨[],[]⟩ [] 19 186 [(peq r1 r2)]
 (.ret (.mk [(pc (.setc o6 0 gV) 0),(pc (.setc o6 0 gV) 1)])))
 (.iteS ⟨[],[]⟩ (peq r7 (pi 9)) [27,28,34,35,40,41] [6]
 (.call ⟨[],[]⟩ [] 25 185 [(aL r1 r2)]
 (.ret (.mk [(pc (.setc o6 0 (.mk [pT,fp])) 0),(pc (.setc o6 0 (.mk [pT,fp])) 1)])))
 (.iteS ⟨[],[]⟩ (peq r7 (pi 10)) [34,35,40,41] [6]
 (.call ⟨[],[]⟩ [] 32 185 [(bp r1 r2)]
 (.ret (.mk [(pc (.setc o6 0 (.mk [pT,mP])) 0),(pc (.setc o6 0 (.mk [pT,mP])) 1)])))
 (.iteS ⟨[],[]⟩ (peq r7 (pi 11)) [40,41] [6]
 (.call ⟨[],[]⟩ [] 38 187 [r1,r2]
 (.ret (.mk [(pc (.setc o6 0 (.mk [pT,ju])) 0),(pc (.setc o6 0 (.mk [pT,ju])) 1)])))
 (.ite (peq r7 (pi 12))
 (.ret (.mk [(pc (.setc o6 0 (.mk [pT,(.mn r1 r2)])) 0),(pc (.setc o6 0 (.mk [pT,(.mn r1 r2)])) 1)]))
 (.next ⟨[],[]⟩))
 (.next ⟨[],[]⟩))
 (.next ⟨[],[]⟩))
 (.next ⟨[],[]⟩))
 (.next ⟨[],[]⟩))
 (.next ⟨[],[]⟩))
 (.ret (.mk [(pc (.setc o6 0 (.mk [pT,(.mx r1 r2)])) 0),(pc (.setc o6 0 (.mk [pT,(.mx r1 r2)])) 1)])))
def af6:Kw.map told=some (vq,[]):=by kernel_rfl
def aAY:tree (ab Kw)=vq:=aO af6
def Ky:Option PC:=cF [] [] Tryz.f186 186 [2]
def X5:PT:=
 (.ite r0
 (.ret Ns)
 (.ret UU))
def af7:Ky.map told=some (X5,[]):=by kernel_rfl
def aA0:tree (ab Ky)=X5:=aO af7
def Kp:Option PC:=cF [4,5,6] [] Tryz.f187 187 []
def OW:PT:=
 (.ite (.pick (peq r0 (pi 0)) pT (peq r1 (pi 0)))
 (.ret (pi 0))
 (.chk (aR (.mx r1 (bp (pi 0) r1)) (pi 0))
 (.ite (.cb .neq zV (aj r1 (pi 0)))
 (.ret (.ai .mul .i64 (bp (pi 0) (.pick Nr (pi 1099511627776) (.mx r0 (bp (pi 0) r0)))) (.pick Nr (pi 1) (.mx r1 (bp (pi 0) r1)))))
 (.ret (.ai .mul .i64 (.pick Nr (pi 1099511627776) (.mx r0 (bp (pi 0) r0))) (.pick Nr (pi 1) (.mx r1 (bp (pi 0) r1))))))))
def afZ:Kp.map told=some (OW,[]):=by kernel_rfl
def aAQ:tree (ab Kp)=OW:=aO afZ
def KG:Option PC:=cF [] [] Tryz.f11 11 [5,8,77832,10]
def Yj:PT:=
 (.call ⟨[],[(10,kf)]⟩ [] 18 9 [iU,r1,r2,ahr]
 (.ret (aq 5 (.setc cq 0 kg))))
def agf:KG.map told=some (Yj,[]):=by kernel_rfl
def aBe:tree (ab KG)=Yj:=aO agf
def KL:Option PC:=cF [2] [] Tryz.f14 14 [1]
def Yq:PT:=
 (.ite (.pick (aR uY (pi 0)) pT (.pick gK (peq ke (pi 0)) pF))
 (.ret (pi 0))
 (.ite gK
 (.ret (pi 1))
 (.ret (pi 2))))
def agl:KL.map told=some (Yq,[]):=by kernel_rfl
def aBn:tree (ab KL)=Yq:=aO agl
def KK:Option PC:=cF [2] [] Tryz.f16 16 [1]
def OY:PT:=
 (.ite (.pick (peq uY (pi 0)) gK pF)
 (.ret ke)
 (.ret (pi (-1))))
def agk:KK.map told=some (OY,[]):=by kernel_rfl
def aBj:tree (ab KK)=OY:=aO agk
def KJ:Option PC:=cF [8] [] Tryz.f21 21 [4,7,9]
def Yn:PT:=
 (.call ⟨[],[(7,(.mk [r3])),(4,(.mk [r0]))]⟩ [] 14 9 [iU,r1,r2,Hc]
 (.ite (peq (pc (.setc kf 0 dB) 2) (pi (-1)))
 (.ret pL)
 (.chk (ao (pc o4 4) (pc (.setc kf 0 dB) 2))
 (.call ⟨[(24,r2),(23,(pn (pc o4 4) (pc (.setc kf 0 dB) 2)))],[]⟩ [] 27 38 [(aq 8 o4),(aq 24 o7)]
 (.call ⟨[],[]⟩ [] 28 43 [kh,nA,fM]
 (.ret nB))))))
def agj:KJ.map told=some (Yn,[]):=by kernel_rfl
def aBi:tree (ab KJ)=Yn:=aO agj
def KA:Option PC:=cF [6] [] Tryz.f43 43 [3]
def X9:PT:=
 (.call ⟨[],[(3,(.mk [r0]))]⟩ [] 9 76 [(aq 4 (.mk [r0])),r1]
 (.ite (aR r9 (pi 0))
 (.ret pL)
 (.call ⟨[(12,(pc o3 3))],[]⟩ [] 15 78 [(aq 4 o3),r1]
 (.chk (ao bS fm)
 (.call ⟨[],[]⟩ [] 20 83 [(.sub (pn bS fm) 1 3),r2]
 (.ret eT))))))
def af9:KA.map told=some (X9,[]):=by kernel_rfl
def aA4:tree (ab KA)=X9:=aO af9
def Bg:Option PC:=cF [4,6,7,8,9] [] Tryz.f83 83 [2,5]
def P6:Nat->PC:=bn Bg
def auG:PC:=.block 0 [5,8,16,17,18,21] [5] (.loop [5,8] [5] (b 0))
def H2 (b:Nat->PC):PT:=
 (.ite (.pick (aj r8 (pi 20)) (peq r7 (pi 0)) pF)
 (.blockS ⟨[],[]⟩ 1 [5,9,24,25,26,27,28] [5]
 (.call ⟨[],[]⟩ [] 27 127 [UP,r1,r8]
 (.ite fM
 (.chk (bB (.llen (.app o5 (.lst [r8]))) cM)
 (.next ⟨[(5,pN)],[(5,(.app o5 (.lst [r8])))]⟩))
 (.next ⟨[],[]⟩)))
 (.next ⟨[(8,sX)],[]⟩))
 (.exit 0 ⟨[(16,r8),(17,(aj r8 (pi 20))),(18,(aj r8 (pi 20))),(21,(.pick (aj r8 (pi 20)) (peq r7 (pi 0)) pF))],[]⟩))
def X0:PT:=
 (.call ⟨[(5,pN)],[(5,(.lst [])),(2,(.mk [r0]))]⟩ [] 13 118 [z7]
 (.brk ⟨[(8,(pi 0)),(7,(.tget dP 1))],[]⟩
(auG b)
 (.ret o5)))
def apv:PT×List (Shp×PT):=(X0 b,[(.lp 0 [5,8,16,17,18,21] [5] [5,8] [5],H2 b)])
def TW:Bg.map told=some (apv (bx Bg)):=by kernel_rfl
def aAO:tree (ab Bg)=X0 P6:=bJ TW
def VI:round 0 [5,8,16,17,18,21] [5] [5,8] [5] (P6 0)=H2 P6:=aZ TW 0 λ_=>rfl
def Bj:Option PC:=cF [6,9,10] [] Tryz.f127 127 [3,7,8]
def P9:Nat->PC:=bn Bj
def auJ:PC:=.block 0 [6,9,44,45,46,47,48] [] (.loop [6,9] [] (b 0))
def H3 (b:Nat->PC):PT:=
 (.ite (aj r9 mK)
 (.blockS ⟨[],[]⟩ 1 [6,10,51,52,53,54,55,56,57,58,59] []
 (.chk (ao (pc o3 2) r9)
 (.call ⟨[],[]⟩ [] 58 127 [(pn (pc o3 2) r9),r1,r2]
 (.ite xq
 (.ret pT)
 (.next ⟨[],[]⟩))))
 (.next ⟨[(9,(aL r9 (pi 1)))],[]⟩))
 (.exit 0 ⟨[(44,r9),(45,pN),(46,(pc o3 2)),(47,mK),(48,(aj r9 mK))],[]⟩))
def X4:PT:=
 (.call ⟨[(6,pF)],[(3,(.mk [r0]))]⟩ [] 13 120 [z7,r1]
 (.ite (pc (.setc cN 0 dP) 0)
 (.ret pF)
 (.ite (peq (pc o3 0) (pi 2))
 (.ret (peq (pc o3 1) r2))
 (.iteS ⟨[],[]⟩ (peq (pc o3 0) (pi 6)) [6] []
 (.chk (ao (pc o3 2) (pi 0))
 (.call ⟨[],[]⟩ [] 31 120 [(pn (pc o3 2) (pi 0)),r1]
 (.iteS ⟨[],[(8,(.setc cN 0 mO))]⟩ (pc (.setc cN 0 mO) 0) [6] []
 (.chk (ao (pc o3 2) (bp (pi 2) (pc o8 1)))
 (.call ⟨[],[]⟩ [] 43 127 [(pn (pc o3 2) (bp (pi 2) (pc o8 1))),r1,r2]
 (.ret tc)))
 (.next ⟨[],[]⟩)
 (.next ⟨[],[]⟩))))
 (.next ⟨[],[]⟩)
 (.brk ⟨[(9,(pi 0))],[]⟩
(auJ b)
 (.ret pF))))))
def apy:PT×List (Shp×PT):=(X4 b,[(.lp 0 [6,9,44,45,46,47,48] [] [6,9] [],H3 b)])
def TZ:Bj.map told=some (apy (bx Bj)):=by kernel_rfl
def aAZ:tree (ab Bj)=X4 P9:=bJ TZ
def VJ:round 0 [6,9,44,45,46,47,48] [] [6,9] [] (P9 0)=H3 P9:=aZ TZ 0 λ_=>rfl
def KI:Option PC:=cF [8,10,11,12] [] Tryz.f23 23 [4,6,9]
def Ym:PT:=
 (.call ⟨[],[(6,(.mk [r2])),(4,(.mk [r0]))]⟩ [] 15 46 [(aq 19 (.mk [r2])),r3]
 (.ite (peq (.llen (pc (.setc zZ 0 fm) 15)) (pi 0))
 (.ret (pi (-1)))
 (.call ⟨[],[(9,(.setc zZ 0 fm))]⟩ [] 24 11 [(aq 8 o4),r1,(pi 6),(aq 19 o6),r3]
 (.call ⟨[],[]⟩ [] 25 16 [nA]
 (.call ⟨[(31,(aq 15 o6)),(29,(aq 8 o4)),(10,(.pick (peq fp (pi (-1))) (pi 0) fp))],[]⟩ [] 33 48 [(aq 19 o9)]
 (.call ⟨[],[]⟩ [] 35 47 [p6,mO,oH,bZ]
 (.ite (aR (.tget p8 1) (pi 0))
 (.ret (pi (-1)))
 (.ret (.tget p8 0)))))))))
def agi:KI.map told=some (Ym,[]):=by kernel_rfl
def aBh:tree (ab KI)=Ym:=aO agi
def Be:Option PC:=cF [2,3,4,5,6,7] [] Tryz.f48 48 [1]
def yi:Nat->PC:=bn Be
def auD:PC:=.block 0 [2,3,13,14,15,16,17] [] (.loop [2,3] [] (b 0))
def auE:PC:=.block 2 [4,5,6,33,34,35,36,37] [] (.loop [4,5,6] [] (b 1))
def auF:PC:=.block 4 [4,5,7,67,68,69,70,71] [] (.loop [4,5,7] [] (b 2))
def HZ (b:Nat->PC):PT:=
 (.ite (aj r3 Ac)
 (.chk (ao (pc o1 17) r3)
 (.ite (peq (pc (pn (pc o1 17) r3) 0) (pi 2))
 (.ret (pc (pn (pc o1 17) r3) 6))
 (.next ⟨[(3,u7)],[]⟩)))
 (.exit 0 ⟨[(13,r3),(14,pN),(15,(pc o1 17)),(16,Ac),(17,(aj r3 Ac))],[]⟩))
def Ai (b:Nat->PC):PT:=
 (.ite (aj r6 (.llen (pc o1 15)))
 (.chk (ao (pc o1 15) r6)
 (.chk (.nt (.an (.an (.nt (.nt r4)) (.an (peq (pc (pn (pc o1 15) r6) 0) (pi 1)) pT)) (.nt (ao (pc o1 15) r6))))
 (.ite (.pick (peq (pc (pn (pc o1 15) r6) 0) (pi 1)) (.pick (.nt r4) pT (aj (pc (pn (pc o1 15) r6) 6) r5)) pF)
 (.next ⟨[(4,pT),(5,(pc (pn (pc o1 15) r6) 6)),(6,zU)],[]⟩)
 (.next ⟨[(6,zU)],[]⟩))))
 (.exit 2 ⟨[(33,r6),(34,pN),(35,(pc o1 15)),(36,(.llen (pc o1 15))),(37,(aj r6 (.llen (pc o1 15))))],[]⟩))
def vd (b:Nat->PC):PT:=
 (.ite (aj r7 Ac)
 (.chk (ao (pc o1 17) r7)
 (.chk (.nt (.an (.an (.nt (.nt r4)) (.an (peq (pc (pn (pc o1 17) r7) 0) (pi 1)) pT)) (.nt (ao (pc o1 17) r7))))
 (.ite (.pick (peq (pc (pn (pc o1 17) r7) 0) (pi 1)) (.pick (.nt r4) pT (aj (pc (pn (pc o1 17) r7) 6) r5)) pF)
 (.next ⟨[(4,pT),(5,(pc (pn (pc o1 17) r7) 6)),(7,zT)],[]⟩)
 (.next ⟨[(7,zT)],[]⟩))))
 (.exit 4 ⟨[(67,r7),(68,pN),(69,(pc o1 17)),(70,Ac),(71,(aj r7 Ac))],[]⟩))
def OT:PT:=
 (.iteS ⟨[(2,(pi 0))],[(1,(.mk [r0]))]⟩ (peq xn (pi 0)) [2] []
 (.brk ⟨[(3,(pi 0))],[]⟩
(auD b)
 (.ret (pi (-1))))
 (.next ⟨[],[]⟩)
 (.brk ⟨[(6,(pi 0)),(5,(pi 0)),(4,pF)],[]⟩
(auE b)
 (.brk ⟨[(7,(pi 0))],[]⟩
(auF b)
 (.ite (.pick (aR (pc o1 5) (pi 1)) pT (.nt r4))
 (.ret (pi (-1)))
 (.ret r5)))))
def apt:PT×List (Shp×PT):=(OT b,[(.lp 0 [2,3,13,14,15,16,17] [] [2,3] [],HZ b),(.lp 2 [4,5,6,33,34,35,36,37] [] [4,5,6] [],Ai b),(.lp 4 [4,5,7,67,68,69,70,71] [] [4,5,7] [],vd b)])
def GX:Be.map told=some (apt (bx Be)):=by kernel_rfl
def aAE:tree (ab Be)=OT yi:=bJ GX
def VH:round 0 [2,3,13,14,15,16,17] [] [2,3] [] (yi 0)=HZ yi:=aZ GX 0 λ_=>rfl
def H0:round 2 [4,5,6,33,34,35,36,37] [] [4,5,6] [] (yi 1)=Ai yi:=aZ GX 1 λ_=>rfl
def Aj:round 4 [4,5,7,67,68,69,70,71] [] [4,5,7] [] (yi 2)=vd yi:=aZ GX 2 λ_=>rfl
def Kd:Option PC:=cF [8,9,11,12,13] [] Tryz.f47 47 [4,5,10]
def XN:PT:=
 (.call ⟨[],[(10,zW),(5,(.mk [r1])),(4,(.mk [r0]))]⟩ [] 17 32 [iU]
 (.call ⟨[(19,(aR iy (pi 0)))],[]⟩ [(19,false)] 23 91 [(aq 8 o4),(pc o5 9)]
 (.call ⟨[(26,(.pick gV pT (.nt kh)))],[]⟩ [(26,false)] 30 91 [(aq 8 o4),(pc o5 10)]
 (.call ⟨[(33,(.pick mN pT (.nt p7)))],[]⟩ [(33,false)] 36 92 [(pc o5 8)]
 (.ite (.pick oH pT (.nt kH))
 (.ret (.tup [(pi 0),(pi 1)]))
 (.call ⟨[(60,(aR r2 (pi (-1)))),(57,ahy)],[]⟩ [(60,true),(57,false)] 62 92 [r2]
 (.ite (.pick (.pick (.pick NL pT (.pick xr (.nt qd) pF)) pT (aj r3 (pi 0))) pT (bq r3 (pi 20000)))
 (.ret (.tup [(pi 0),(pi 1)]))
 (.call ⟨[],[]⟩ [] 75 93 [(.mk [(pc cq 0),(pc cq 1),(pc cq 2)])]
 (.ite (.pick vb (peq r2 (pi (-1))) pF)
 (.ret (.tup [(pi 0),(pi 4)]))
 (.iteS ⟨[],[]⟩ (peq (pc cq 0) (pi 4)) [8,9] []
 (.call ⟨[],[]⟩ [] 89 94 [(aq 8 o4),(pc o5 9),(pc o5 10)]
 (.ite (aR (.tget r89 1) (pi 0))
 (.ret (.tup [(pi 0),(pi 4)]))
 (.next ⟨[],[]⟩)))
 (.next ⟨[],[]⟩)
 (.call ⟨[],[]⟩ [] 97 95 [(aq 8 o4),(aq 15 o5),r2]
 (.ite (.pick (aj HC (pi 0)) pT (bq (aL HC r3) (pi 100000)))
 (.ret (.tup [(pi 0),(pi 3)]))
 (.call ⟨[],[]⟩ [] 112 96 [(aq 8 o4),(pc o5 10),(aL HC r3)]
 (.ret (.tup [(.tget Hq 0),(.tget Hq 1)])))))))))))))))
def afO:Kd.map told=some (XN,[]):=by kernel_rfl
def aAx:tree (ab Kd)=XN:=aO afO
def Kf:Option PC:=cF [4] [] Tryz.f91 91 [2]
def XP:PT:=
 (.ret (.pick (bY r1 (pi 0)) (aj r1 (.llen ke)) pF))
def afQ:Kf.map told=some (XP,[]):=by kernel_rfl
def aAz:tree (ab Kf)=XP:=aO afQ
def J3:Option PC:=cF [2] [] Tryz.f92 92 []
def Xs:PT:=
 (.ret (.pick (bY r0 (pi 0)) (bB r0 (pi 100000)) pF))
def afE:J3.map told=some (Xs,[]):=by kernel_rfl
def aAa:tree (ab J3)=Xs:=aO afE
def Ke:Option PC:=cF [2] [] Tryz.f93 93 [1]
def XO:PT:=
 (.ret (.pick (peq gK (pi 0)) pT (peq gK (pi 1))))
def afP:Ke.map told=some (XO,[]):=by kernel_rfl
def aAy:tree (ab Ke)=XO:=aO afP
def A5:Option PC:=cF [6,7,8] [] Tryz.f94 94 [3]
def P2:Nat->PC:=bn A5
def aul:PC:=.block 0 [6,7,8,9,10,11,12,13] [] (.loop [6,7,8] [] (b 0))
def HN (b:Nat->PC):PT:=
 (.ite (aj r8 (.llen (pc o3 5)))
 (.chk (ao (pc o3 5) r8)
 (.chk (.nt (.an (.an (peq (pc (pn (pc o3 5) r8) 0) r1) pT) (.nt (ao (pc o3 5) r8))))
 (.ite (.pick (peq (pc (pn (pc o3 5) r8) 0) r1) (peq (pc (pn (pc o3 5) r8) 1) r2) pF)
 (.ret (.tup [(pc (pn (pc o3 5) r8) 2),(pi 0)]))
 (.next ⟨[(8,sX)],[]⟩))))
 (.exit 0 ⟨[(9,r8),(10,pN),(11,(pc o3 5)),(12,(.llen (pc o3 5))),(13,(aj r8 (.llen (pc o3 5))))],[]⟩))
def XF:PT:=
 (.brk ⟨[(8,(pi 0)),(7,(pi 0)),(6,(pi 0))],[(3,(.mk [r0]))]⟩
(aul b)
 (.ret (.tup [(pi 0),(pi 4)])))
def apj:PT×List (Shp×PT):=(XF b,[(.lp 0 [6,7,8,9,10,11,12,13] [] [6,7,8] [],HN b)])
def TR:A5.map told=some (apj (bx A5)):=by kernel_rfl
def aAo:tree (ab A5)=XF P2:=bJ TR
def Vv:round 0 [6,7,8,9,10,11,12,13] [] [6,7,8] [] (P2 0)=HN P2:=aZ TR 0 λ_=>rfl
def Kc:Option PC:=cF [6,8,9] [] Tryz.f95 95 [3,4,7]
def vm:PT:=
 (.iteS ⟨[(8,(.pick (peq (pc zW 0) (pi 3)) (pc zW 1) (.pick (peq (pc zW 0) (pi 0)) r2 (pi 0)))),(9,(pi 0))],[(7,zW),(4,(.mk [r1])),(3,(.mk [r0]))]⟩ (peq (pc zW 0) (pi 4)) [8,9] []
 (.call ⟨[],[]⟩ [] 30 94 [(aq 8 o3),(pc o4 9),(pc o4 10)]
 (.next ⟨[(8,(aL (.tget p7 0) (pc o4 8))),(9,(.tget p7 1))],[]⟩))
 (.next ⟨[],[]⟩)
 (.iteS ⟨[],[]⟩ (.pick (peq (pc o7 0) (pi 1)) pT (peq (pc o7 0) (pi 2))) [6,8,9] []
 (.ite (.pick (aj (pc o7 1) (pi 0)) pT (bq (pc o7 1) (pi 20000)))
 (.ret (pi (-1)))
 (.iteS ⟨[(8,(.pick (peq (pc o7 0) (pi 1)) r2 (pc o4 8)))],[]⟩ (peq (pc o7 2) (pi 1)) [8,9] []
 (.call ⟨[],[]⟩ [] 66 141 [r8,(pc o7 1)]
 (.next ⟨[(9,(.tget Hw 1)),(8,(.tget Hw 0))],[]⟩))
 (.next ⟨[(8,(aL r8 (pc o7 1)))],[]⟩)
 (.next ⟨[],[]⟩)))
 (.next ⟨[],[]⟩)
 (.call ⟨[(75,(aR r9 (pi 0)))],[]⟩ [(75,false)] 77 92 [r8]
 (.ite (.pick vb pT (.nt Vf))
 (.ret (pi (-1)))
 (.ret r8)))))
def afN:Kc.map told=some (vm,[]):=by kernel_rfl
def aAw:tree (ab Kc)=vm:=aO afN
def J0:Option PC:=cF [4,5,6,7,8,9,10,11,12,13,14] [] Tryz.f141 141 []
def Xn:PT:=
 (.call ⟨[],[]⟩ [] 17 168 [r0]
 (.ite (.pick (.pick (aR (.tget iy 3) (pi 0)) pT (aj r1 (pi (-5000)))) pT (bq r1 (pi 5000)))
 (.ret (.tup [(pi 0),(pi 3)]))
 (.ite (aj Hd (pi 24000))
 (.ret (.tup [(pi 0),(pi 3)]))
 (.chk (aR (pi 12) (pi 0))
 (.call ⟨[(49,(.tget iy 2)),(48,(aL (.ai .rem .i64 Hd (pi 12)) (pi 1))),(47,(.ai .quo .i64 Hd (pi 12)))],[]⟩ [] 52 170 [(.ai .quo .i64 Hd (pi 12)),(aL (.ai .rem .i64 Hd (pi 12)) (pi 1))]
 (.call ⟨[],[]⟩ [] 54 169 [Vd,rG,(.mn td tg)]
 (.ret (.tup [(.tget rH 0),(.tget rH 1)]))))))))
def afB:J0.map told=some (Xn,[]):=by kernel_rfl
def az4:tree (ab J0)=Xn:=aO afB
def AV:Option PC:=cF [2,3,4,5,6,7,8] [] Tryz.f168 168 []
def El:Nat->PC:=bn AV
def at5:PC:=.block 0 [6,7,13,14,15,16] [] (.loop [6,7] [] (b 0))
def at6:PC:=.block 2 [7,8,23,24,25,26,27] [] (.loop [7,8] [] (b 1))
def NT (b:Nat->PC):PT:=
 (.call ⟨[(14,r6),(13,r7)],[]⟩ [] 15 206 [r6]
 (.ite (bY dP fm)
 (.blockS ⟨[],[]⟩ 1 [6,7,17,18,19,20,21,22] []
 (.call ⟨[(17,r7)],[]⟩ [] 19 206 [r6]
 (.next ⟨[(6,zU),(7,(bp iy gV))],[]⟩))
 (.next ⟨[],[]⟩))
 (.exit 0 ⟨[(16,(bY dP fm))],[]⟩)))
def NU (b:Nat->PC):PT:=
 (.call ⟨[(25,r8),(24,r6),(23,r7)],[]⟩ [] 26 170 [r6,r8]
 (.ite (bY kh mN)
 (.blockS ⟨[],[]⟩ 3 [7,8,28,29,30,31,32,33,34] []
 (.call ⟨[(28,r7)],[]⟩ [] 31 170 [r6,r8]
 (.next ⟨[(8,sX),(7,(bp nB mO))],[]⟩))
 (.next ⟨[],[]⟩))
 (.exit 2 ⟨[(27,(bY kh mN))],[]⟩)))
def Xo:PT:=
 (.call ⟨[],[]⟩ [] 10 92 [r0]
 (.ite (.nt bZ)
 (.ret (.tup [(pi 0),(pi 0),(pi 0),(pi 3)]))
 (.brk ⟨[(7,r0),(6,(pi 2000))],[]⟩
(at5 b)
 (.brk ⟨[(8,(pi 1))],[]⟩
(at6 b)
 (.ret (.tup [r6,r8,zT,(pi 0)]))))))
def ao9:PT×List (Shp×PT):=(Xo b,[(.lp 0 [6,7,13,14,15,16] [] [6,7] [],NT b),(.lp 2 [7,8,23,24,25,26,27] [] [7,8] [],NU b)])
def MU:AV.map told=some (ao9 (bx AV)):=by kernel_rfl
def az5:tree (ab AV)=Xo El:=bJ MU
def aij:round 0 [6,7,13,14,15,16] [] [6,7] [] (El 0)=NT El:=aZ MU 0 λ_=>rfl
def aik:round 2 [7,8,23,24,25,26,27] [] [7,8] [] (El 1)=NU El:=aZ MU 1 λ_=>rfl
def J4:Option PC:=cF [2] [] Tryz.f206 206 []
def Xt:PT:=
 (.call ⟨[],[]⟩ [] 4 207 [r0]
 (.ite r4
 (.ret (pi 366))
 (.ret (pi 365))))
def afF:J4.map told=some (Xt,[]):=by kernel_rfl
def aAb:tree (ab J4)=Xt:=aO afF
def J5:Option PC:=cF [2] [] Tryz.f207 207 []
def Xv:PT:=
 (.chk (aR (pi 4) (pi 0))
 (.chk (.nt (.an (.an UO pT) (.nt z8)))
 (.chk (.nt (.an (.an (.nt (aR (.ai .rem .i64 r0 (pi 100)) (pi 0))) (.an UO pT)) (.nt (aR (pi 400) (pi 0)))))
 (.ret (.pick UO (.pick (aR (.ai .rem .i64 r0 (pi 100)) (pi 0)) pT (peq (.ai .rem .i64 r0 (pi 400)) (pi 0))) pF)))))
def afG:J5.map told=some (Xv,[]):=by kernel_rfl
def aAd:tree (ab J5)=Xv:=aO afG
def J1:Option PC:=cF [4] [] Tryz.f170 170 []
def OR:PT:=
 (.call ⟨[(7,(peq r1 (pi 2)))],[]⟩ [(7,true)] 9 207 [r0]
 (.ite (.pick r7 r9 pF)
 (.ret (pi 29))
 (.ite (peq r1 (pi 2))
 (.ret (pi 28))
 (.ite (.pick (.pick (.pick (peq r1 (pi 4)) pT (peq r1 (pi 6))) pT (peq r1 (pi 9))) pT (peq r1 (pi 11)))
 (.ret (pi 30))
 (.ret (pi 31))))))
def afC:J1.map told=some (OR,[]):=by kernel_rfl
def az7:tree (ab J1)=OR:=aO afC
def AW:Option PC:=cF [6,7,8,9,10] [] Tryz.f169 169 []
def Em:Nat->PC:=bn AW
def at7:PC:=.block 0 [8,9,38,39,40] [] (.loop [8,9] [] (b 0))
def aua:PC:=.block 2 [8,10,47,48,49] [] (.loop [8,10] [] (b 1))
def NV (b:Nat->PC):PT:=
 (.ite (aj r9 r0)
 (.blockS ⟨[],[]⟩ 1 [8,43,44,45,46] []
 (.call ⟨[(43,r8)],[]⟩ [] 45 206 [r9]
 (.next ⟨[(8,(aL tc nC))],[]⟩))
 (.next ⟨[(9,(aL r9 (pi 1)))],[]⟩))
 (.exit 0 ⟨[(38,r9),(39,r0),(40,(aj r9 r0))],[]⟩))
def NW (b:Nat->PC):PT:=
 (.ite (aj bZ r1)
 (.blockS ⟨[],[]⟩ 3 [8,52,53,54,55,56] []
 (.call ⟨[(52,r8)],[]⟩ [] 55 170 [r0,bZ]
 (.next ⟨[(8,(aL tg va))],[]⟩))
 (.next ⟨[(10,(aL bZ (pi 1)))],[]⟩))
 (.exit 2 ⟨[(47,bZ),(48,r1),(49,(aj bZ r1))],[]⟩))
def Xp:PT:=
 (.call ⟨[(30,r2),(29,ahx)],[]⟩ [(29,false)] 33 170 [r0,r1]
 (.ite (.pick p6 pT (bq p7 oH))
 (.ret (.tup [(pi 0),(pi 3)]))
 (.brk ⟨[(9,(pi 2000)),(8,(bp r2 (pi 1)))],[]⟩
(at7 b)
 (.brk ⟨[(10,(pi 1))],[]⟩
(aua b)
 (.call ⟨[],[]⟩ [] 58 92 [r8]
 (.ite (.nt xq)
 (.ret (.tup [(pi 0),(pi 3)]))
 (.ret (.tup [r8,(pi 0)]))))))))
def apa:PT×List (Shp×PT):=(Xp b,[(.lp 0 [8,9,38,39,40] [] [8,9] [],NV b),(.lp 2 [8,10,47,48,49] [] [8,10] [],NW b)])
def MV:AW.map told=some (apa (bx AW)):=by kernel_rfl
def az6:tree (ab AW)=Xp Em:=bJ MV
def ail:round 0 [8,9,38,39,40] [] [8,9] [] (Em 0)=NV Em:=aZ MV 0 λ_=>rfl
def aim:round 2 [8,10,47,48,49] [] [8,10] [] (Em 1)=NW Em:=aZ MV 1 λ_=>rfl
def Bb:Option PC:=cF [6,7,8,9,10,11,12,2] [] Tryz.f96 96 [3]
def Eu:Nat->PC:=bn Bb
def auv:PC:=.block 2 [9,10,19,20,21,22,23] [] (.loop [9,10] [] (b 0))
def auw:PC:=.block 0 [2,6,7,16,17] [] (.loop [2,6,7] [] (b 1))
def DB (b:Nat->PC):PT:=
 (.ite (aj bZ (.llen (pc o3 7)))
 (.chk (ao (pc o3 7) bZ)
 (.chk (.nt (.an (.an (peq (pc Aa 0) r8) pT) (.nt (ao (pc o3 7) bZ))))
 (.chk (.nt (.an (.an (.pick (peq (pc Aa 0) r8) (bB (pc Aa 1) r2) pF) pT) (.nt (ao (pc o3 7) bZ))))
 (.ite (.pick (.pick (peq (pc Aa 0) r8) (bB (pc Aa 1) r2) pF) (bB r2 (pc Aa 2)) pF)
 (.next ⟨[(9,(.mx r9 (aL (pc Aa 2) (pi 1)))),(10,(aL bZ (pi 1)))],[]⟩)
 (.next ⟨[(10,(aL bZ (pi 1)))],[]⟩)))))
 (.exit 2 ⟨[(19,bZ),(20,pN),(21,(pc o3 7)),(22,(.llen (pc o3 7))),(23,(aj bZ (.llen (pc o3 7))))],[]⟩))
def N0:PT:=
 (.ite (bB r2 (pi 100000))
 (.blockS ⟨[(17,(bB r2 (pi 100000))),(16,r2)],[]⟩ 1 [2,6,7,9,10,18,19,20,21,22,23,63,64,65,80,81,82,84] []
 (.brk ⟨[(10,(pi 0)),(9,r2)],[]⟩
(auv b)
 (.iteS ⟨[],[]⟩ (peq r9 r2) [6,7,9] []
 (.chk (ao (pc o3 1) r1)
 (.call ⟨[],[]⟩ [] 73 142 [(pn (pc o3 1) r1),r2]
 (.ite (aR (.tget xt 1) (pi 0))
 (.ret (.tup [(pi 0),(.tget xt 1)]))
 (.next ⟨[(9,(.tget xt 0))],[]⟩))))
 (.next ⟨[],[]⟩)
 (.ite (peq r9 r2)
 (.ret (.tup [r2,(pi 0)]))
 (.next ⟨[(2,r9)],[]⟩))))
 (.next ⟨[],[]⟩))
 (.exit 0 ⟨[(16,r2),(17,(bB r2 (pi 100000)))],[]⟩))
def XQ:PT:=
 (.call ⟨[(7,(pi 0)),(6,(pi 0))],[(3,(.mk [r0]))]⟩ [] 15 41 [iU,r1]
 (.brk ⟨[(8,fm)],[]⟩
(auw b)
 (.ret (.tup [(pi 0),(pi 3)]))))
def apq:PT×List (Shp×PT):=(XQ b,[(.lp 2 [9,10,19,20,21,22,23] [] [9,10] [],DB b),(.lp 0 [2,6,7,16,17] [] [2,6,7] [],N0 b)])
def M2:Bb.map told=some (apq (bx Bb)):=by kernel_rfl
def aAA:tree (ab Bb)=XQ Eu:=bJ M2
def NZ:round 2 [9,10,19,20,21,22,23] [] [9,10] [] (Eu 0)=DB Eu:=aZ M2 0 λ_=>rfl
def ain:round 0 [2,6,7,16,17] [] [2,6,7] [] (Eu 1)=N0 Eu:=aZ M2 1 λ_=>rfl
def AX:Option PC:=cF [4,5,6,7,8] [] Tryz.f142 142 [2]
def PW:Nat->PC:=bn AX
def aub:PC:=.block 0 [4,5,6,12,13] [] (.loop [4,5,6] [] (b 0))
def HE (b:Nat->PC):PT:=
 (.ite (bB r6 (pi 400))
 (.blockS ⟨[],[]⟩ 1 [4,5,7,8,16,17,18,19,20,21,22,23,24] []
 (.call ⟨[],[]⟩ [] 21 171 [(aq 6 o2),(aL r1 r6)]
 (.ite (.tget jt 0)
 (.ret (.tup [(aL r1 r6),(pi 0)]))
 (.next ⟨[],[]⟩)))
 (.next ⟨[(6,zU)],[]⟩))
 (.exit 0 ⟨[(12,r6),(13,(bB r6 (pi 400)))],[]⟩))
def Xq:PT:=
 (.call ⟨[(5,(pi 0)),(4,(pi 0))],[(2,(.mk [r0]))]⟩ [] 10 92 [r1]
 (.ite (.nt bZ)
 (.ret (.tup [(pi 0),(pi 3)]))
 (.brk ⟨[(6,(pi 0))],[]⟩
(aub b)
 (.ret (.tup [(pi 0),(pi 3)])))))
def apb:PT×List (Shp×PT):=(Xq b,[(.lp 0 [4,5,6,12,13] [] [4,5,6] [],HE b)])
def TL:AX.map told=some (apb (bx AX)):=by kernel_rfl
def az8:tree (ab AX)=Xq PW:=bJ TL
def Vn:round 0 [4,5,6,12,13] [] [4,5,6] [] (PW 0)=HE PW:=aZ TL 0 λ_=>rfl
def J2:Option PC:=cF [4,5,6,7,8,9] [] Tryz.f171 171 [2]
def Xr:PT:=
 (.call ⟨[],[(2,(.mk [r0]))]⟩ [] 12 168 [r1]
 (.ite (aR (.tget bS 3) (pi 0))
 (.ret (.tup [pF,(.tget bS 3)]))
 (.chk (aR (pi 7) (pi 0))
 (.call ⟨[(8,(.tget bS 2)),(7,(.tget bS 1))],[]⟩ [] 25 208 [(pc o2 3),(.ai .rem .i64 (aL r1 (pi 5)) (pi 7))]
 (.call ⟨[(27,(.nt fp))],[]⟩ [(27,true)] 34 208 [(pc o2 4),(aL (.ai .mul .i64 (pi 100) r7) r8)]
 (.call ⟨[(37,(.pick fM (.nt Hs) pF))],[]⟩ [(37,true)] 41 208 [(pc o2 5),r1]
 (.ret (.tup [(.pick p9 (.nt s9) pF),(pi 0)]))))))))
def afD:J2.map told=some (Xr,[]):=by kernel_rfl
def az9:tree (ab J2)=Xr:=aO afD
def AY:Option PC:=cF [4,5] [] Tryz.f208 208 []
def PX:Nat->PC:=bn AY
def auc:PC:=.block 0 [4,5,6,7,8,9] [] (.loop [4,5] [] (b 0))
def HF (b:Nat->PC):PT:=
 (.ite (aj r5 (.llen r0))
 (.chk (ao r0 r5)
 (.ite (peq (pn r0 r5) r1)
 (.ret pT)
 (.next ⟨[(5,nz)],[]⟩)))
 (.exit 0 ⟨[(6,r5),(7,r0),(8,(.llen r0)),(9,(aj r5 (.llen r0)))],[]⟩))
def Xu:PT:=
 (.brk ⟨[(5,(pi 0)),(4,pF)],[]⟩
(auc b)
 (.ret pF))
def apc:PT×List (Shp×PT):=(Xu b,[(.lp 0 [4,5,6,7,8,9] [] [4,5] [],HF b)])
def TM:AY.map told=some (apc (bx AY)):=by kernel_rfl
def aAc:tree (ab AY)=Xu PX:=bJ TM
def Vo:round 0 [4,5,6,7,8,9] [] [4,5] [] (PX 0)=HF PX:=aZ TM 0 λ_=>rfl
def JG:Option PC:=gf {ctx with fr:=[6],nh:=[]} Tryz.f40 ⟨[Y8,I,jU],.slice I,.dat⟩ [3,5,7,8,42,9]
def WW:PT:=
 (.chk (ao (pc (.mk [r2]) 15) (pc (.mk [r2]) 19))
 (.ite ahv
 (.ret pL)
 (.chk UL
 (.chk (peq (pi 5) (pi 5))
 (.chk (ao Di (pi 0))
 (.call ⟨[],[(9,(.setn Di (pi 0) 0 r1)),(8,(.setc O7 0 (aq 15 (.mk [r2])))),(7,Dr),(3,(.mk [r0]))]⟩ [] 50 57 [iU,(pc Dr 7)]
 (.chk (ao o9 (pi 1))
 (.call ⟨[],[(9,(.setn o9 (pi 1) 0 nD))]⟩ [] 56 57 [(aq 8 o3),(pc o8 10)]
 (.chk (ao o9 (pi 2))
 (.call ⟨[],[(9,(.setn o9 (pi 2) 0 qa))]⟩ [] 62 57 [(aq 8 o3),(pc o8 9)]
 (.chk (ao o9 (pi 3))
 (.chk (ao (pc o3 3) (pc o7 2))
 (.call ⟨[],[(9,(.setn o9 (pi 3) 0 qd))]⟩ [] 73 57 [(aq 8 o3),(pc (pn (pc o3 3) (pc o7 2)) 1)]
 (.chk (ao o9 (pi 4))
 (.call ⟨[],[(9,(.setn o9 (pi 4) 0 xt))]⟩ [] 76 81 [(.setn o9 (pi 4) 0 xt),(pi (-1))]
 (.ite rI
 (.ret pL)
 (.ret o9)))))))))))))))))
def afc:JG.map told=some (WW,[]):=by kernel_rfl
def azD:tree (ab JG)=WW:=aO afc
def JH:Option PC:=gf {ctx with fr:=[6],nh:=[]} Tryz.f40 ⟨[Y8,I,jU],.nils .bool,.dat⟩ [3,5,7,8,42,9]
def OO:PT:=
 (.chk (ao (pc (.mk [r2]) 15) (pc (.mk [r2]) 19))
 (.ite ahv
 (.ret pL)
 (.chk UL
 (.chk (peq (pi 5) (pi 5))
 (.chk (ao Di (pi 0))
 (.call ⟨[],[(9,(.setn Di (pi 0) 0 r1)),(8,(.setc O7 0 (aq 15 (.mk [r2])))),(7,Dr),(3,(.mk [r0]))]⟩ [] 50 57 [iU,(pc Dr 7)]
 (.chk (ao o9 (pi 1))
 (.call ⟨[],[(9,(.setn o9 (pi 1) 0 nD))]⟩ [] 56 57 [(aq 8 o3),(pc o8 10)]
 (.chk (ao o9 (pi 2))
 (.call ⟨[],[(9,(.setn o9 (pi 2) 0 qa))]⟩ [] 62 57 [(aq 8 o3),(pc o8 9)]
 (.chk (ao o9 (pi 3))
 (.chk (ao (pc o3 3) (pc o7 2))
 (.call ⟨[],[(9,(.setn o9 (pi 3) 0 qd))]⟩ [] 73 57 [(aq 8 o3),(pc (pn (pc o3 3) (pc o7 2)) 1)]
 (.chk (ao o9 (pi 4))
 (.call ⟨[],[]⟩ [] 76 81 [(.setn o9 (pi 4) 0 xt),(pi (-1))]
 (.ite rI
 (.ret pL)
 (.chk pF
 (.next ⟨[],[]⟩))))))))))))))))))
def afd:JH.map told=some (OO,[]):=by kernel_rfl
def azE:tree (ab JH)=OO:=aO afd
def Ux:List Nat:=[3,6,28,30,29,8,33,39,24,49,26,56,55,104,57,105,58,59,69,81,124,70,111,151,150,173,112,34,71,114,113,115,152,153,174,175,72,12,13,15,20,42,17,18,22,10,45,90,44,84,128,129,163,199,200,215,130,131,132,164,133,134,135,136,137,85,86,87,88,138,165,166,201,203,216,202,99,89,139,140,167,205,7,31,61,62,63,107,146,32,64,108,147,172,148,109,74,149,65,66,110,67,68,9,19,38,46,80,121,122,123,41,106,35,36,73,75,117,37,76,78,118,157,181,182,184,183,119,79,77,120,158,185,159,160,186,187,11,14,16,21,43,83,127,23,48,47,91,92,93,94,95,141,168,206,207,170,169,96,142,171,208]
def De:List (Nat×PC):=[(3,(ab JP)),(6,(ab JU)),(28,(ab JT)),(30,(ab JS)),(29,(ab JQ)),(8,(ab Jy)),(33,(ab JE)),(39,(ab JF)),(24,(ab BC)),(49,(ab KV)),(26,(ab BF)),(56,(ab KT)),(55,(ab KW)),(104,(ab BG)),(57,(ab KQ)),(105,(ab KR)),(58,(ab KU)),(59,(ab BD)),(69,(ab JX)),(81,(ab KY)),(124,(ab BJ)),(70,(ab AT)),(111,(ab JN)),(151,(ab JO)),(150,(ab KX)),(173,(ab BI)),(112,(ab AU)),(34,(ab JV)),(71,(ab JY)),(114,(ab JZ)),(113,(ab BH)),(115,(ab K5)),(152,(ab yq)),(153,(ab BO)),(174,(ab K7)),(175,(ab K8)),(72,(ab K6)),(12,(ab Bs)),(13,(ab JD)),(15,(ab JB)),(20,(ab EK)),(42,(ab JW)),(17,(ab Bh)),(18,(ab JC)),(22,(ab JA)),(10,(ab Jz)),(45,(ab BE)),(90,(ab BL)),(44,(ab EP)),(84,(ab Bt)),(128,(ab Bx)),(129,(ab Bv)),(163,(ab KS)),(199,(ab Bw)),(200,(ab KZ)),(215,(ab BK)),(130,(ab KM)),(131,(ab KN)),(132,(ab Bu)),(164,(ab BA)),(133,(ab KO)),(134,(ab KP)),(135,(ab By)),(136,(ab BB)),(137,(ab Bz)),(85,(ab K1)),(86,(ab K4)),(87,(ab K0)),(88,(ab ES)),(138,(ab ER)),(165,(ab EM)),(166,(ab JM)),(201,(ab JI)),(203,(ab JK)),(216,(ab EO)),(202,(ab EN)),(99,(ab yn)),(89,(ab BM)),(139,(ab BN)),(140,(ab AS)),(167,(ab JJ)),(205,(ab JL)),(7,(ab JR)),(31,(ab Bq)),(61,(ab A0)),(62,(ab Kg)),(63,(ab Bl)),(107,(ab Ko)),(146,(ab ym)),(32,(ab J6)),(64,(ab A6)),(108,(ab Kb)),(147,(ab A1)),(172,(ab J8)),(148,(ab AZ)),(109,(ab A2)),(74,(ab Ka)),(149,(ab A4)),(65,(ab A7)),(66,(ab A8)),(110,(ab A3)),(67,(ab Ba)),(68,(ab A9)),(9,(ab KF)),(19,(ab Br)),(38,(ab KH)),(46,(ab Bc)),(80,(ab Bf)),(121,(ab Ki)),(122,(ab Kj)),(123,(ab Kh)),(41,(ab J9)),(106,(ab Bd)),(35,(ab KB)),(36,(ab Bo)),(73,(ab Bp)),(75,(ab KE)),(117,(ab Bn)),(37,(ab Kz)),(76,(ab KD)),(78,(ab Bm)),(118,(ab Kk)),(157,(ab Bk)),(181,(ab Ks)),(182,(ab Ku)),(184,(ab Kr)),(183,(ab Kt)),(119,(ab KC)),(79,(ab J7)),(77,(ab Km)),(120,(ab Bi)),(158,(ab Kq)),(185,(ab Kl)),(159,(ab Kv)),(160,(ab Kw)),(186,(ab Ky)),(187,(ab Kp)),(11,(ab KG)),(14,(ab KL)),(16,(ab KK)),(21,(ab KJ)),(43,(ab KA)),(83,(ab Bg)),(127,(ab Bj)),(23,(ab KI)),(48,(ab Be)),(47,(ab Kd)),(91,(ab Kf)),(92,(ab J3)),(93,(ab Ke)),(94,(ab A5)),(95,(ab Kc)),(141,(ab J0)),(168,(ab AV)),(206,(ab J4)),(207,(ab J5)),(170,(ab J1)),(169,(ab AW)),(96,(ab Bb)),(142,(ab AX)),(171,(ab J2)),(208,(ab AY))]
def tab:Nat->Option PC:=bk De
def ahc:De.map (·.1)=Ux:=by kernel_rfl
def awY:(De.map (·.1)).Nodup:=by rw[ahc];exact mH (by kernel_rfl)
def lA (k:Nat){f:Nat}{x:PC}(h:De[k]?=some (f,x):=by kernel_rfl):tab f=some x:=pP awY h
def aaG:tab 152=some (ab yq):=lA 32 (by kernel_rfl)
def aaD:tab 20=some (ab EK):=lA 40 (by kernel_rfl)
def PQ:tab 44=some (ab EP):=lA 48 (by kernel_rfl)
def yh:tab 88=some (ab ES):=lA 68 (by kernel_rfl)
def vR:tab 138=some (ab ER):=lA 69 (by kernel_rfl)
def Jr:tab 165=some (ab EM):=lA 70 (by kernel_rfl)
def PO:tab 216=some (ab EO):=lA 74 (by kernel_rfl)
def Ek:tab 202=some (ab EN):=lA 75 (by kernel_rfl)
def aaF:tab 99=some (ab yn):=lA 76 (by kernel_rfl)
def aaE:tab 146=some (ab ym):=lA 88 (by kernel_rfl)
def caps:∀f cs,bk EG f=some cs->(kF cs.args cs.res=none->bk fa f=some ⟨cs.args++cs.caps,cs.res,.dat⟩)/\∀ys,kF cs.args cs.res=some ys->fR Ux f=false/\DU Tryz.prog f=true:=QF (l:=EG) (sig:=fa) (P:=Tryz.prog) (pcs:=Ux) (by kernel_rfl)
def clos:dQ ctx:=⟨(λf cs h=>(caps f cs h).1),λf s h=>ajm (l:=fa) (P:=Tryz.prog) (by kernel_rfl) f s h⟩
def its:∀f cs ys,ctx.cap f=some cs->kF cs.args cs.res=some ys->tab f=none/\∃fn,ctx.P.funcs[f]?=some fn/\fn.body.isSome=true/\(fn.name== "runtime.NumGoroutine")=false:=λf cs ys h hi=>⟨To (l:=De) (by rw[ahc];exact((caps f cs h).2 ys hi).1),ajn ((caps f cs h).2 ys hi).2⟩
def aze:∀f pc,tab f=some pc->∃fn s ids fr nh,ctx.P.funcs[f]?=some fn/\ctx.sig f=some s/\gf {ctx with fr:=fr,nh:=nh} fn s ids=some pc:=
 GR (R:=λf pc=>∃fn s ids fr nh,ctx.P.funcs[f]?=some fn/\ctx.sig f=some s/\gf {ctx with fr:=fr,nh:=nh} fn s ids=some pc) (l:=De)
  (ax (az [5,8,12,13,14,15] [10,11,16] [] Tryz.func3 rfl (aw JP afp))
  (ax (az [1,2,3,4,5,6,73] [0,7,8,9] [] Tryz.func6 rfl (aw JU afv))
  (ax (az [0,24576,28672,32768,1,12289,2,3,12291,4] [5] [] Tryz.func28 rfl (aw JT afu))
  (ax (az [2,69634,73730,3,4] [] [] Tryz.func30 rfl (aw JS afs))
  (ax (az [1,2] [] [] Tryz.func29 rfl (aw JQ afq))
  (ax (az [4,7,8,9] [10] [] Tryz.func8 rfl (aw Jy ae3))
  (ax (az [4,7,8,10,16394] [9,11,12,13,14] [] Tryz.func33 rfl (aw JE afa))
  (ax (az [2,3,4] [5] [] Tryz.func39 rfl (aw JF afb))
  (ax (az [2,4,65540,69636,73732,77828,5,65541,69637,73733,77829,7,31,9,49,11,13] [1000004,1000005] [] Tryz.func24 rfl (aw BC CV))
  (ax (az [] [4] [] Tryz.func49 rfl (aw KV agv))
  (ax (az [2,3,5,6,8,10,90,139] [4,7,9,11,12,13,14,15,16] [] Tryz.func26 rfl (aw BF M7))
  (ax (az [2] [3] [] Tryz.func56 rfl (aw KT agt))
  (ax (az [] [4] [] Tryz.func55 rfl (aw KW agw))
  (ax (az [] [4,5] [] Tryz.func104 rfl (aw BG Uj))
  (ax (az [2] [4] [] Tryz.func57 rfl (aw KQ agq))
  (ax (az [] [4] [] Tryz.func105 rfl (aw KR agr))
  (ax (az [2] [] [] Tryz.func58 rfl (aw KU agu))
  (ax (az [3,6,8] [] [] Tryz.func59 rfl (aw BD Ui))
  (ax (az [] [2,3,4,11] [] Tryz.func69 rfl (aw JX afy))
  (ax (az [] [4] [] Tryz.func81 rfl (aw KY agy))
  (ax (az [] [4,5] [] Tryz.func124 rfl (aw BJ Um))
  (ax (az [4,10,53] [8,9,11,12,13,14,55,70] [] Tryz.func70 rfl (aw AT TJ))
  (ax (az [4,9] [8] [] Tryz.func111 rfl (aw JN afn))
  (ax (az [] [3] [] Tryz.func151 rfl (aw JO afo))
  (ax (az [] [4] [] Tryz.func150 rfl (aw KX agx))
  (ax (az [] [4,5] [] Tryz.func173 rfl (aw BI Ul))
  (ax (az [4,11] [8,9] [] Tryz.func112 rfl (aw AU TK))
  (ax (az [3,6,8,10] [7,9,11,12] [] Tryz.func34 rfl (aw JV afw))
  (ax (az [2,3,4,12292,9] [5,6,7,8,10,11] [] Tryz.func71 rfl (aw JY afz))
  (ax (az [2] [3] [] Tryz.func114 rfl (aw JZ afA))
  (ax (az [] [4,5] [] Tryz.func113 rfl (aw BH Uk))
  (ax (az [1] [2,3] [] Tryz.func115 rfl (aw K5 agI))
  (ax (az [2,7,12295] [4,5] [] Tryz.func152 rfl (aw yq Ur))
  (ax (az [1,4,6,12294,9] [2,3,5,7,8,38,47,10,11,12] [] Tryz.func153 rfl (aw BO Na))
  (ax (az [1] [2,3,12,20,4,5] [] Tryz.func174 rfl (aw K7 agO))
  (ax (az [2] [4,8,13,17,21] [] Tryz.func175 rfl (aw K8 agR))
  (ax (az [2,4,7] [5,6,8] [] Tryz.func72 rfl (aw K6 agJ))
  (ax (az [2,3] [4,5] [] Tryz.func12 rfl (aw Bs Ub))
  (ax (az [1] [2,3,7,12] [] Tryz.func13 rfl (aw JD ae9))
  (ax (az [1] [2] [] Tryz.func15 rfl (aw JB ae7))
  (ax (az [4,7,9] [8,10] [] Tryz.func20 rfl (aw EK ae6))
  (ax (az [3,7] [6,8] [] Tryz.func42 rfl (aw JW afx))
  (ax (az [] [4,5] [] Tryz.func17 rfl (aw Bh TX))
  (ax (az [3,5] [6,7] [] Tryz.func18 rfl (aw JC ae8))
  (ax (az [4,6] [8,9,10,11] [] Tryz.func22 rfl (aw JA ae5))
  (ax (az [5,8,77832,10] [] [] Tryz.func10 rfl (aw Jz ae4))
  (ax (az [1,3,6,8] [2,4] [] Tryz.func45 rfl (aw BE M6))
  (ax (az [] [2,3,4] [] Tryz.func90 rfl (aw BL Uo))
  (ax (az [4,5,10] [8,9,15,39,58,74,11,12] [] Tryz.func44 rfl (aw EP agA))
  (ax (az [1,9] [2,3,4,5,6,7,10,11,12] [] Tryz.func84 rfl (aw Bt Uc))
  (ax (az [1,2,3,4,6,16390,20486,24582,21,8,34,10,12298,16394,47] [] [] Tryz.func128 rfl (aw Bx GY))
  (ax (az [] [6,7,8] [] Tryz.func129 rfl (aw Bv Uf))
  (ax (az [] [4] [] Tryz.func163 rfl (aw KS ags))
  (ax (az [] [2,3,4,5] [] Tryz.func199 rfl (aw Bw Ug))
  (ax (az [] [4] [] Tryz.func200 rfl (aw KZ agz))
  (ax (az [] [4,5] [] Tryz.func215 rfl (aw BK Un))
  (ax (az [] [2] [] Tryz.func130 rfl (aw KM agm))
  (ax (az [] [3] [] Tryz.func131 rfl (aw KN agn))
  (ax (az [2,3] [4,6] [] Tryz.func132 rfl (aw Bu Ue))
  (ax (az [] [6,7,8] [] Tryz.func164 rfl (aw BA Uh))
  (ax (az [] [3] [] Tryz.func133 rfl (aw KO ago))
  (ax (az [] [3] [] Tryz.func134 rfl (aw KP agp))
  (ax (az [1,3,4,6,19,8,16392,36] [2] [] Tryz.func135 rfl (aw By M3))
  (ax (az [1,4,6] [2,3] [] Tryz.func136 rfl (aw BB M5))
  (ax (az [1,4,6] [2] [] Tryz.func137 rfl (aw Bz M4))
  (ax (az [2] [4] [] Tryz.func85 rfl (aw K1 agG))
  (ax (az [] [2] [] Tryz.func86 rfl (aw K4 agH))
  (ax (az [1] [2] [] Tryz.func87 rfl (aw K0 agC))
  (ax (az [3,4] [6,7,13,16,24,33,8,9] [] Tryz.func88 rfl (aw ES agF))
  (ax (az [3] [4,5] [] Tryz.func138 rfl (aw ER agD))
  (ax (az [] [4,5,6,7,8,9] [] Tryz.func165 rfl (aw EM aff))
  (ax (az [] [2] [] Tryz.func166 rfl (aw JM afm))
  (ax (az [] [2,3,4,5,6,7,8,9] [] Tryz.func201 rfl (aw JI afh))
  (ax (az [] [4] [] Tryz.func203 rfl (aw JK afj))
  (ax (az [] [6,0,1] [] Tryz.func216 rfl (aw EO afk))
  (ax (az [] [6,7,8] [] Tryz.func202 rfl (aw EN afg))
  (ax (az [3,9] [6,7] [] Tryz.func99 rfl (aw yn Ud))
  (ax (az [3] [6,7,8,2,9,10] [] Tryz.func89 rfl (aw BM Up))
  (ax (az [3,9] [6,7,2] [] Tryz.func139 rfl (aw BN M9))
  (ax (az [2,4,5] [6] [] Tryz.func140 rfl (aw AS TH))
  (ax (az [3,4,5] [6] [] Tryz.func167 rfl (aw JJ afi))
  (ax (az [2] [4,5,6,7] [] Tryz.func205 rfl (aw JL afl))
  (ax (az [2,3] [4] [] Tryz.func7 rfl (aw JR afr))
  (ax (az [2,3] [4,5] [] Tryz.func31 rfl (aw Bq T9))
  (ax (az [1] [2,3,4] [] Tryz.func61 rfl (aw A0 MW))
  (ax (az [1] [2] [] Tryz.func62 rfl (aw Kg afR))
  (ax (az [1] [2,3] [] Tryz.func63 rfl (aw Bl T4))
  (ax (az [1] [2] [] Tryz.func107 rfl (aw Ko afY))
  (ax (az [3] [6,1,7] [] Tryz.func146 rfl (aw ym T2))
  (ax (az [1] [2,3] [] Tryz.func32 rfl (aw J6 afH))
  (ax (az [1,5,44] [2,3,4,6,7] [] Tryz.func64 rfl (aw A6 MY))
  (ax (az [] [4] [] Tryz.func108 rfl (aw Kb afM))
  (ax (az [] [2,3,4] [] Tryz.func147 rfl (aw A1 TO))
  (ax (az [] [2] [] Tryz.func172 rfl (aw J8 afJ))
  (ax (az [] [6,7] [] Tryz.func148 rfl (aw AZ TN))
  (ax (az [2,3] [4,5] [] Tryz.func109 rfl (aw A2 TP))
  (ax (az [] [6] [] Tryz.func74 rfl (aw Ka afL))
  (ax (az [] [6,7] [] Tryz.func149 rfl (aw A4 TQ))
  (ax (az [1,4,44] [2,3,5,6] [] Tryz.func65 rfl (aw A7 MZ))
  (ax (az [1,3,24] [2,4,5] [] Tryz.func66 rfl (aw A8 TS))
  (ax (az [1] [2,3,4] [] Tryz.func110 rfl (aw A3 MX))
  (ax (az [1,4] [2,3,5] [] Tryz.func67 rfl (aw Ba M1))
  (ax (az [1,4,6] [2,3,5] [] Tryz.func68 rfl (aw A9 M0))
  (ax (az [4,7,8,9,16393] [10,11,12] [] Tryz.func9 rfl (aw KF age))
  (ax (az [3,5,7,8] [6,9] [] Tryz.func19 rfl (aw Br Ua))
  (ax (az [2,3] [4] [] Tryz.func38 rfl (aw KH agh))
  (ax (az [2,4,46,52,7,69639,77831,81,115] [5,6,8,9] [] Tryz.func46 rfl (aw Bc CU))
  (ax (az [2,3,5,6,7] [4,8,9,10,11] [] Tryz.func80 rfl (aw Bf TV))
  (ax (az [2] [] [] Tryz.func121 rfl (aw Ki afT))
  (ax (az [2] [] [] Tryz.func122 rfl (aw Kj afU))
  (ax (az [] [4] [] Tryz.func123 rfl (aw Kh afS))
  (ax (az [2] [4] [] Tryz.func41 rfl (aw J9 afK))
  (ax (az [3,6] [7] [] Tryz.func106 rfl (aw Bd TU))
  (ax (az [] [2] [] Tryz.func35 rfl (aw KB aga))
  (ax (az [4,10,11,78] [8,9,12,13,14] [] Tryz.func36 rfl (aw Bo T7))
  (ax (az [2] [4,5] [] Tryz.func73 rfl (aw Bp T8))
  (ax (az [4,10] [8,9] [] Tryz.func75 rfl (aw KE agd))
  (ax (az [2,4] [5] [] Tryz.func117 rfl (aw Bn T6))
  (ax (az [3,6,9] [7,8] [] Tryz.func37 rfl (aw Kz af8))
  (ax (az [2] [4,5,6,7,8,9] [] Tryz.func76 rfl (aw KD agc))
  (ax (az [2] [4,5] [] Tryz.func78 rfl (aw Bm T5))
  (ax (az [1] [2,3] [] Tryz.func118 rfl (aw Kk afV))
  (ax (az [1,4,33] [2,3,5,6,7,8,9,10] [] Tryz.func157 rfl (aw Bk T3))
  (ax (az [] [2,4,8,10] [] Tryz.func181 rfl (aw Ks af2))
  (ax (az [1] [2,3,4,5] [] Tryz.func182 rfl (aw Ku af4))
  (ax (az [] [2,3] [] Tryz.func184 rfl (aw Kr af1))
  (ax (az [] [4,5,7,13,26,44,56] [] Tryz.func183 rfl (aw Kt af3))
  (ax (az [] [2,3] [] Tryz.func119 rfl (aw KC agb))
  (ax (az [] [2,4] [] Tryz.func79 rfl (aw J7 afI))
  (ax (az [2,4] [5,6] [] Tryz.func77 rfl (aw Km afX))
  (ax (az [2,4,5,37] [9,15,6,41,55,64,73] [] Tryz.func120 rfl (aw Bi TY))
  (ax (az [4,5] [6,7] [] Tryz.func158 rfl (aw Kq af0))
  (ax (az [] [2] [] Tryz.func185 rfl (aw Kl afW))
  (ax (az [3,4,6] [] [] Tryz.func159 rfl (aw Kv af5))
  (ax (az [6] [8,14,20,27,34,40] [] Tryz.func160 rfl (aw Kw af6))
  (ax (az [2] [] [] Tryz.func186 rfl (aw Ky af7))
  (ax (az [] [4,5,6] [] Tryz.func187 rfl (aw Kp afZ))
  (ax (az [5,8,77832,10] [] [] Tryz.func11 rfl (aw KG agf))
  (ax (az [1] [2] [] Tryz.func14 rfl (aw KL agl))
  (ax (az [1] [2] [] Tryz.func16 rfl (aw KK agk))
  (ax (az [4,7,9] [8] [] Tryz.func21 rfl (aw KJ agj))
  (ax (az [3] [6] [] Tryz.func43 rfl (aw KA af9))
  (ax (az [2,5] [4,6,7,8,9] [] Tryz.func83 rfl (aw Bg TW))
  (ax (az [3,7,8] [6,9,10] [] Tryz.func127 rfl (aw Bj TZ))
  (ax (az [4,6,9] [8,10,11,12] [] Tryz.func23 rfl (aw KI agi))
  (ax (az [1] [2,3,4,5,6,7] [] Tryz.func48 rfl (aw Be GX))
  (ax (az [4,5,10] [8,9,11,12,13] [] Tryz.func47 rfl (aw Kd afO))
  (ax (az [2] [4] [] Tryz.func91 rfl (aw Kf afQ))
  (ax (az [] [2] [] Tryz.func92 rfl (aw J3 afE))
  (ax (az [1] [2] [] Tryz.func93 rfl (aw Ke afP))
  (ax (az [3] [6,7,8] [] Tryz.func94 rfl (aw A5 TR))
  (ax (az [3,4,7] [6,8,9] [] Tryz.func95 rfl (aw Kc afN))
  (ax (az [] [4,5,6,7,8,9,10,11,12,13,14] [] Tryz.func141 rfl (aw J0 afB))
  (ax (az [] [2,3,4,5,6,7,8] [] Tryz.func168 rfl (aw AV MU))
  (ax (az [] [2] [] Tryz.func206 rfl (aw J4 afF))
  (ax (az [] [2] [] Tryz.func207 rfl (aw J5 afG))
  (ax (az [] [4] [] Tryz.func170 rfl (aw J1 afC))
  (ax (az [] [6,7,8,9,10] [] Tryz.func169 rfl (aw AW MV))
  (ax (az [3] [6,7,8,9,10,11,12,2] [] Tryz.func96 rfl (aw Bb M2))
  (ax (az [2] [4,5,6,7,8] [] Tryz.func142 rfl (aw AX TL))
  (ax (az [2] [4,5,6,7,8,9] [] Tryz.func171 rfl (aw J2 afD))
  (ax (az [] [4,5] [] Tryz.func208 rfl (aw AY TM))
  trivial))))))))))))))))))))))))))))))))))))))))))))))))))))))))))))))))))))))))))))))))))))))))))))))))))))))))))))))))))))))))))))))))))))))))))))))))))))))))))))))))))
def G6:List (Nat×PC):=[(178,(ab EW)),(176,(ab ET)),(116,(ab yp)),(154,(ab EX)),(177,(ab EZ)),(155,(ab EV)),(179,(ab EU)),(209,(ab EY)),(217,(ab EL)),(156,(ab yo))]
def nI:Nat->Option PC:=bk G6
def ahb:G6.map (·.1)=[178,176,116,154,177,155,179,209,217,156]:=by kernel_rfl
def sU:(G6.map (·.1)).Nodup:=by rw[ahb];exact mH (by kernel_rfl)
def amh:nI 178=some (ab EW):=pP sU (k:=0) (by kernel_rfl)
def ame:nI 176=some (ab ET):=pP sU (k:=1) (by kernel_rfl)
def ami:nI 116=some (ab yp):=pP sU (k:=2) (by kernel_rfl)
def amj:nI 154=some (ab EX):=pP sU (k:=3) (by kernel_rfl)
def aml:nI 177=some (ab EZ):=pP sU (k:=4) (by kernel_rfl)
def amg:nI 155=some (ab EV):=pP sU (k:=5) (by kernel_rfl)
def amf:nI 179=some (ab EU):=pP sU (k:=6) (by kernel_rfl)
def amk:nI 209=some (ab EY):=pP sU (k:=7) (by kernel_rfl)
def amb:nI 217=some (ab EL):=pP sU (k:=8) (by kernel_rfl)
def amd:nI 156=some (ab yo):=pP sU (k:=9) (by kernel_rfl)
def aaT:∀f cs,bk EG f=some cs->(kF cs.args cs.res=none->bk fa f=some ⟨cs.args++cs.caps,cs.res,.dat⟩)/\∀ys,kF cs.args cs.res=some ys->fR [178,176,116,154,177,155,179,209,217,156] f=false/\DU Tryz.prog f=true:=QF (l:=EG) (sig:=fa) (P:=Tryz.prog) (pcs:=[178,176,116,154,177,155,179,209,217,156]) (by kernel_rfl)
def anh:dQ eD:=clos
def atI:∀f cs ys,eD.cap f=some cs->kF cs.args cs.res=some ys->nI f=none/\∃fn,eD.P.funcs[f]?=some fn/\fn.body.isSome=true/\(fn.name== "runtime.NumGoroutine")=false:=λf cs ys h hi=>⟨To (l:=G6) (by rw[ahb];exact((aaT f cs h).2 ys hi).1),ajn ((aaT f cs h).2 ys hi).2⟩
def azf:∀f pc,nI f=some pc->∃fn s ids fr nh,eD.P.funcs[f]?=some fn/\eD.sig f=some s/\gf {eD with fr:=fr,nh:=nh} fn s ids=some pc:=
 GR (R:=λf pc=>∃fn s ids fr nh,eD.P.funcs[f]?=some fn/\eD.sig f=some s/\gf {eD with fr:=fr,nh:=nh} fn s ids=some pc) (l:=G6)
  (ax ⟨Tryz.f178,(bk fa 178).getD default,[],[2],[],Tryz.func178,rfl,(aw EW agN)⟩
  (ax ⟨Tryz.f176,(bk fa 176).getD default,[],[2,3,4,11],[],Tryz.func176,rfl,(aw ET agK)⟩
  (ax ⟨Tryz.f116,(bk fa 116).getD default,[2,3,4,6,33,7,8,10,12298,12],[5,15,21,9,11],[],Tryz.func116,rfl,(aw yp Uq)⟩
  (ax ⟨Tryz.f154,(bk fa 154).getD default,[2,4],[5,6],[],Tryz.func154,rfl,(aw EX agP)⟩
  (ax ⟨Tryz.f177,(bk fa 177).getD default,[2],[],[],Tryz.func177,rfl,(aw EZ agS)⟩
  (ax ⟨Tryz.f155,(bk fa 155).getD default,[4,5],[9,22,41,6,7,82,88,94],[],Tryz.func155,rfl,(aw EV agM)⟩
  (ax ⟨Tryz.f179,(bk fa 179).getD default,[],[6,8,14,20,25],[],Tryz.func179,rfl,(aw EU agL)⟩
  (ax ⟨Tryz.f209,(bk fa 209).getD default,[],[4,5,6,7],[],Tryz.func209,rfl,(aw EY agQ)⟩
  (ax ⟨Tryz.f217,(bk fa 217).getD default,[],[4,5,6,7,8,9,10,11,12,13],[],Tryz.func217,rfl,(aw EL afe)⟩
  (ax ⟨Tryz.f156,(bk fa 156).getD default,[6],[2,3,5,8],[],Tryz.func156,rfl,(aw yo M8)⟩
  trivial))))))))))
end Rm
set_option linter.unusedSimpArgs false
namespace Rm
open Go Go.Proofs Cx Go.RowKit Go.Lib
def atz:(Tryz.prog.info? 3).map (λi=>(i.zero,i.size,i.bytes))=some (some (.int .i64 0),1,8):=by kernel_rfl
set_option maxHeartbeats 2000000 in
set_option maxRecDepth 100000 in
def aqn (w:World):Calls Tryz.prog 180 #[.slice none 0 0,.int .i64 0] w λe w'=>e=.returned (.slice none 0 0)/\w'=w:=by
 go_enter Tryz.func180,Tryz.ntmps180
 go_wp2
 go_ret
 exact⟨rfl,rfl⟩
set_option maxHeartbeats 2000000 in
set_option maxRecDepth 100000 in
def aqm (n:Nat)(w:World)(h0:0<n)(h1:n<=4294967296):Calls Tryz.prog 180 #[.slice none 0 0,.int .i64 n] w λe w'=>
 ∃v',e=.returned v'/\w'.ownsRow w.heap.size 3 1 v' 0 []/\Below w.heap.size w w':=by
 obtain⟨i0,hi,CG,uF,hz2⟩:=info_parts atz;have hr:=run_append_nil_zeros w 48 3 48 3 i0 (.int .i64 0) .i64 .i64 Tryz.underlying48 Tryz.underlying3 hi CG n h0 (by rw[uF];decide) (by omega) (by rw[hz2];omega);have hn:¬((n:Int)<0):=by omega
 have wD:(n:Int)>0:=by omega
 have hw:IntKind.i64.wrap (n:Int)=n:=by rw[IntKind.wrap_i64];omega
 have oq:IntKind.i64.wrap 0=0:=by decide
 have eQ:=grownCap_ge w n 0 3;have hle:=grownCap_le_maxLen w n 0 3 (by unfold maxLen;omega);have hs:(Builtin.zeroCells #[Value.int IntKind.i64 0] n++Builtin.zeroCells #[Value.int IntKind.i64 0] (grownCap w n 0 3-n)).size=grownCap w n 0 3*1:=by
  rw[Array.size_append,size_zeroCells,size_zeroCells];simp;omega
 go_enter Tryz.func180,Tryz.ntmps180
 go_wp2_with (at_builtin;refine wpList_append_run _ rfl _ _ 48 3 rfl _ _ rfl rfl _ _ hr ?qc)
 go_ret
 refine⟨_,rfl,?_,?_⟩
 .exact World.ownsRow.drew (World.ownsRow_made w _ _ (bj _) hle hs)
 .exact((Below.refl _ w).alloc (bj _) _).drew
def B8 (ds:List D):Option D:=
 match ds with
 |[.list [],.v (.int .i64 n)]=>if 0<=n/\n<=4294967296 then some (.list []) else none
 |_=>none
def abW (ds:List D)(d:D)(h:B8 ds=some d):∃s,eD.sig 180=some s/\AJ eD 180 s ds d:=by
 refine⟨_,rfl,λ_=>?_,λshs obs hm=>by cases hm⟩;unfold B8 at h;split at h
 case h_2=>cases h
 rename_i n;split at h
 case isFalse=>cases h
 rename_i hn;cases h;obtain⟨k,rfl⟩:=vD hn.1;intro V w args av hC ha;obtain⟨a1,a2,a3⟩:=ha;have h0:=a3 0 _ rfl;have h1:=a3 1 _ rfl;obtain⟨u,v,rfl⟩:∃u v,args=#[u,v]:=by
  have:args.size=2:=by simpa using a1
  match args,this with
  |⟨[u,v]⟩,_=>exact⟨u,v,rfl⟩
 simp only[qs,vF] at h0 h1;change Rep eD.cap V (.nils .bool) u (.list []) at h0;change Rep eD.cap V (.int .i64) v (.v (.int .i64 k)) at h1;have hu:u=.slice none 0 0:=by cases h0;rfl
 have hv:v=.int .i64 k:=by cases h1;rfl
 subst hu hv;by_cases hk:k=0
 .subst hk;refine(aqn w).mono λe w' hh=>?_;obtain⟨rfl,rfl⟩:=hh;refine⟨_,V,rfl,.refl V,av,.refl _ _,λ_ _ _ h=>.inl h,λ_ _ h=>.inl h,?_⟩;exact⟨[],[],rfl,⟨by simp,.inl ⟨rfl,rfl⟩⟩,⟨λ_=>undef,λi x hx=>by simp at hx,λi j u hi=>by simp at hi⟩,λk hk=>by cases hk⟩
 .refine(aqm k w (by omega) (by omega)).mono λe w' hh=>?_;obtain⟨v',rfl,cE,hb⟩:=hh;refine⟨v',V,rfl,.refl V,av.below hb,hb,λ_ _ _ h=>.inl h,λ_ _ h=>.inl h,?_⟩;refine⟨[],[],rfl,cE,⟨λ_=>undef,λi x hx=>by simp at hx,λi j u hi=>by simp at hi⟩,λk hk=>?_⟩;have br:=(cE.lt k hk).1;refine⟨λo=>?_,?_⟩
  .cases hc:V.c k o with
   |none=>rfl
   |some u=>have:=World.block_lt_of_cell? w (a:=⟨k,o,none⟩) (av.c _ _ _ hc);simp at this;omega
  .cases hc:V.m k with
   |none=>rfl
   |some u=>have:=(av.m _ _ hc).lt;omega
def ZY {f:Nat}{s:Sig}{ds:List D}{d:D}(h:gN eD f s ds d):gN ctx f s ds d:=λV w args av hC ha=>
 h V w args av ⟨λg x hx=>(by cases hx),λg x hx=>(by cases hx)⟩ ha
def aql (ds:List D)(d:D)(h:B8 ds=some d):∃s,ctx.sig 180=some s/\AJ ctx 180 s ds d:=by
 obtain⟨s,h1,h2⟩:=abW ds d h;refine⟨s,h1,λhm=>ZY (h2.1 hm),λshs obs hm=>?_⟩;cases h1;cases hm
def abz:List (Nat×(aQ->List D->Option D)):=[(180,λ_ ds=>B8 ds)]
def abx:Nat->Option (aQ->List D->Option D):=bk abz
def ajh:TabOK eD nI abx:=by
 refine⟨anh,atI,λf pc _ h=>azf f pc h,λf g hg Z hΦ eF ds d h=>?_⟩
 have:=GR (R:=λf (g:aQ->List D->Option D)=>∀Z,dt eD Z->gO eD Z->∀ds d,g Z ds=some d->(∀s,eD.sig f=some s->AJ eD f s ds d)/\
  ∀cs ys,eD.cap f=some cs->kF cs.args cs.res=some ys->∃xs,d=.list xs/\(∀x,x∈xs->∃ds',x=.tup ds'/\ds'.length=ys.length)/\me eD f cs.caps ys ds xs) (l:=abz)
  ⟨λZ hΦ eF ds d h=>⟨λs hs=>by obtain⟨s',h1,h2⟩:=abW ds d h;rw[hs] at h1;cases h1;exact h2,λcs ys hc hi=>by cases hc⟩,trivial⟩ f g hg
 exact this Z hΦ eF ds d h
abbrev T1:cT:=fP nI abx
open Classical in
def xN (f:Nat)(_:aQ)(ds:List D):Option D:=if h:∃d,ah T1 f ds d then some h.choose else none
def aCq {f:Nat}{Z:aQ}{ds:List D}{d:D}(h:ah T1 f ds d):xN f Z ds=some d:=by
 have h':∃d,ah T1 f ds d:=⟨d,h⟩
 unfold xN;rw[dif_pos h',ah.det h'.choose_spec h]
def ZH {f:Nat}{s:Sig}{Z:aQ}{ds:List D}{d:D}(hs:ctx.sig f=some s)(hm:pM s.mode=false)(h:xN f Z ds=some d):gN ctx f s ds d:=by
 unfold xN at h;split at h
 .rename_i h';cases h;exact ZY (ah.fnOK ajh hs h'.choose_spec hm)
 .cases h
end Rm
namespace Go.Proofs
open Go.Shelf
def Tryz.lays189_ren:Go.Shelf.Ren:=⟨λ|189=>125|125=>162|257=>161|128=>197|129=>198|294=>188|295=>189|296=>190|297=>191|298=>192|299=>193|216=>194|300=>195|301=>196|328=>210|329=>211|330=>212|331=>213|332=>214|215=>145|343=>218|n=>n,λ|28=>48|3=>3|46=>196|0=>0|51=>221|53=>223|4=>4|183=>216|182=>215|131=>126|5=>5|9=>9|218=>228|222=>232|228=>238|229=>239|n=>n,λ|n=>n⟩
def Tryz.lays189:Go.Proofs.Lays.n189 Tryz.prog Tryz.lays189_ren:={
 mixed:=by kernel_rfl
 f125:=Tryz.func162.trans (congrArg some (by kernel_rfl))
 f128:=Tryz.func197.trans (congrArg some (by kernel_rfl))
 f129:=Tryz.func198.trans (congrArg some (by kernel_rfl))
 f189:=Tryz.func125.trans (congrArg some (by kernel_rfl))
 f215:=Tryz.func145.trans (congrArg some (by kernel_rfl))
 f216:=Tryz.func194.trans (congrArg some (by kernel_rfl))
 f257:=Tryz.func161.trans (congrArg some (by kernel_rfl))
 f294:=Tryz.func188.trans (congrArg some (by kernel_rfl))
 f295:=Tryz.func189.trans (congrArg some (by kernel_rfl))
 f296:=Tryz.func190.trans (congrArg some (by kernel_rfl))
 f297:=Tryz.func191.trans (congrArg some (by kernel_rfl))
 f298:=Tryz.func192.trans (congrArg some (by kernel_rfl))
 f299:=Tryz.func193.trans (congrArg some (by kernel_rfl))
 f300:=Tryz.func195.trans (congrArg some (by kernel_rfl))
 f301:=Tryz.func196.trans (congrArg some (by kernel_rfl))
 f328:=Tryz.func210.trans (congrArg some (by kernel_rfl))
 f329:=Tryz.func211.trans (congrArg some (by kernel_rfl))
 f330:=Tryz.func212.trans (congrArg some (by kernel_rfl))
 f331:=Tryz.func213.trans (congrArg some (by kernel_rfl))
 f332:=Tryz.func214.trans (congrArg some (by kernel_rfl))
 f343:=Tryz.func218.trans (congrArg some (by kernel_rfl))
 t0:=Tryz.underlying0
 a0:=Tryz.isAgg0
 z0:=Tryz.sizeOf0
 v0:=Tryz.zeroValue0
 t3:=Tryz.underlying3
 a3:=Tryz.isAgg3
 z3:=Tryz.sizeOf3
 v3:=Tryz.zeroValue3
 t4:=Tryz.underlying4
 a4:=Tryz.isAgg4
 z4:=Tryz.sizeOf4
 v4:=Tryz.zeroValue4
 t5:=Tryz.underlying5
 a5:=Tryz.isAgg5
 z5:=Tryz.sizeOf5
 v5:=Tryz.zeroValue5
 t9:=Tryz.underlying9
 a9:=Tryz.isAgg9
 z9:=Tryz.sizeOf9
 v9:=Tryz.zeroValue9
 t28:=Tryz.underlying48
 a28:=Tryz.isAgg48
 z28:=Tryz.sizeOf48
 v28:=Tryz.zeroValue48
 t46:=Tryz.underlying196
 a46:=Tryz.isAgg196
 z46:=Tryz.sizeOf196
 v46:=Tryz.zeroValue196
 t51:=Tryz.underlying221
 a51:=Tryz.isAgg221
 z51:=Tryz.sizeOf221
 v51:=Tryz.zeroValue221
 t53:=Tryz.underlying223
 a53:=Tryz.isAgg223
 z53:=Tryz.sizeOf223
 v53:=Tryz.zeroValue223
 t131:=Tryz.underlying126
 a131:=Tryz.isAgg126
 z131:=Tryz.sizeOf126
 v131:=Tryz.zeroValue126
 t182:=Tryz.underlying215
 a182:=Tryz.isAgg215
 z182:=Tryz.sizeOf215
 v182:=Tryz.zeroValue215
 t183:=Tryz.underlying216
 a183:=Tryz.isAgg216
 z183:=Tryz.sizeOf216
 v183:=Tryz.zeroValue216
 t218:=Tryz.underlying228
 a218:=Tryz.isAgg228
 z218:=Tryz.sizeOf228
 v218:=Tryz.zeroValue228
 t222:=Tryz.underlying232
 a222:=Tryz.isAgg232
 z222:=Tryz.sizeOf232
 v222:=Tryz.zeroValue232
 t228:=Tryz.underlying238
 a228:=Tryz.isAgg238
 z228:=Tryz.sizeOf238
 v228:=Tryz.zeroValue238
 t229:=Tryz.underlying239
 a229:=Tryz.isAgg239
 z229:=Tryz.sizeOf239
 v229:=Tryz.zeroValue239}
open Go.Sort Go.RowKit in
def Tryz.slices_Sort_int (qC off cap:Nat)(zs:List Int)(w:World)(hH:Holds (Value.int .i64) w qC off zs.toArray)(LK:qC<w.heap.size)(aF:zs.length<4611686018427387904):
 Calls Tryz.prog 125 #[.slice (some ⟨qC,off,none⟩) zs.length cap] w λe w'=>
  e=.returned (.tuple #[])/\∃n os,w'=grow (putRow (Value.int .i64) (Sort.ahead w n) qC off (zs.mergeSort λx y=>decide (x<=y)).toArray) os:=Any.slices_Sort_int Tryz.lays189 qC off cap zs w hH LK aF
def Tryz.laysNm220_ren:Go.Shelf.Ren:=⟨λ|20=>126|n=>n,λ|22=>48|3=>3|4=>4|0=>0|n=>n,λ|n=>n⟩
def Tryz.laysNm220:Go.Proofs.Lays2.n20 Tryz.prog Tryz.laysNm220_ren:={
 mixed:=by kernel_rfl
 f20:=Tryz.func126.trans (congrArg some (by kernel_rfl))
 t0:=Tryz.underlying0
 a0:=Tryz.isAgg0
 z0:=Tryz.sizeOf0
 v0:=Tryz.zeroValue0
 t3:=Tryz.underlying3
 a3:=Tryz.isAgg3
 z3:=Tryz.sizeOf3
 v3:=Tryz.zeroValue3
 t4:=Tryz.underlying4
 a4:=Tryz.isAgg4
 z4:=Tryz.sizeOf4
 v4:=Tryz.zeroValue4
 t22:=Tryz.underlying48
 a22:=Tryz.isAgg48
 z22:=Tryz.sizeOf48
 v22:=Tryz.zeroValue48
 i3:=by kernel_rfl}
open Go.RowKit Go.Lib Go.Sort in
def Tryz.slices_Compact_int (qC off cap:Nat)(zs:List Int)(w:World)(hH:Holds (Value.int .i64) w qC off zs.toArray)(aF:zs.length<=9223372036854775807)(gj:zs.length<=cap):
 Calls Tryz.prog 126 #[.slice (some ⟨qC,off,none⟩) zs.length cap] w λe w'=>e=.returned (.slice (some ⟨qC,off,none⟩) (Lib.compact zs).length cap)/\∃q,w'=putRow (Value.int .i64) (Sort.ahead w q) qC off (Lib.compact zs++List.replicate (zs.length-(Lib.compact zs).length) 0).toArray:=Any.slices_Compact_int Tryz.laysNm220 qC off cap zs w hH aF gj
open Go.RowKit Go.Lib Go.Sort in
def Tryz.slices_Compact_int_empty (a:Option Addr)(cap:Nat)(w:World):
 Calls Tryz.prog 126 #[.slice a 0 cap] w λe w'=>e=.returned (.slice a 0 cap)/\w'=w:=Any.slices_Compact_int_empty Tryz.laysNm220 a cap w
open Go.RowKit Go.Sort in
def Tryz.slices_Sort_int_none (p:Option Addr)(cap:Nat)(w:World):
 Calls Tryz.prog 125 #[.slice p 0 cap] w λe w'=>e=.returned (.tuple #[])/\w'=w:=Any.slices_Sort_int_none Tryz.lays189 p cap w
end Go.Proofs
namespace Rm
open Go Cx
def zp (x:Int):List Int->List Int
 |[]=>[x]
 |y::l=>if x<=y then x::y::l else y::zp x l
def kE:List Int->List Int
 |[]=>[]
 |x::l=>zp x (kE l)
def Tb (x:Int):∀l,(zp x l).Perm (x::l)
 |[]=>.refl _
 |y::l=>by
  unfold zp;split
  .exact .refl _
  .exact((Tb x l).cons y).trans (.swap x y l)
def GH:∀l,(kE l).Perm l
 |[]=>.refl _
 |x::l=>(Tb x _).trans ((GH l).cons x)
def adS (x:Int):∀{l:List Int},l.Pairwise (·<=·)->(zp x l).Pairwise (·<=·)
 |[],_=>by simp[zp]
 |y::l,h=>by
  have h':=x9.1 h;unfold zp;split
  .rename_i ou;refine x9.2 ⟨λz hz=>?_,h⟩;rcases cU.1 hz with rfl|hz
   .exact ou
   .exact Int.le_trans ou (h'.1 z hz)
  .rename_i ou;refine x9.2 ⟨λz hz=>?_,adS x h'.2⟩;rcases cU.1 ((Tb x l).mem_iff.1 hz) with rfl|hz
   .omega
   .exact h'.1 z hz
def Mq:∀l,(kE l).Pairwise (·<=·)
 |[]=>.nil
 |x::l=>adS x (Mq l)
def atA (l:List Int):(l.mergeSort λx y=>decide (x<=y))=kE l:=by
 have h1:(l.mergeSort λx y=>decide (x<=y)).Pairwise (λx y=>decide (x<=y)=true):=List.pairwise_mergeSort (λa b c h1 h2=>by simp at*;omega) (λa b=>by simp;omega) l;refine List.Perm.eq_of_pairwise (le:=(·<=·)) (λa b _ _ h1 h2=>by omega) (h1.imp λh=>by simpa using h) (Mq l) ((List.mergeSort_perm l _).trans (GH l).symm)
def GG (l:List Int):(kE l).length=l.length:=(GH l).length_eq
def atC {l:List Int}{x:Int}:x∈kE l↔x∈l:=(GH l).mem_iff
def qI (l:List Int)(k:Nat):List Int:=((List.range k).filter λj=>decide (j=0\/l.getD j 0≠l.getD (j-1) 0)).map λj=>l.getD j 0
def gh (l:List Int):List Int:=qI l l.length
def anG (l:List Int)(k:Nat):qI l (k+1)=qI l k++if k=0\/l.getD k 0≠l.getD (k-1) 0 then[l.getD k 0] else[]:=by
 unfold qI;rw[Jh,D9,mi]
 congr 1
 have key:∀(p:Nat->Bool),List.filter p [k]=if p k then[k] else[]:=λp=>by
  cases h:p k<;>simp[List.filter,h]
 rw[key];by_cases h:k=0\/l.getD k 0≠l.getD (k-1) 0
 .rw[if_pos h,if_pos (decide_eq_true h)];rfl
 .rw[if_neg h,if_neg (by simpa using h)];rfl
def QT (l:List Int)(hs:l.Pairwise (·<=·)):∀k,k<=l.length->(∀x,x∈qI l k↔∃j,j<k/\l.getD j 0=x)/\(qI l k).Pairwise (·<·)
 |0,_=>by simp[qI]
 |k+1,hk=>by
  obtain⟨h1,h2⟩:=QT l hs k (by omega)
  have hle:∀i j,i<=j->j<l.length->l.getD i 0<=l.getD j 0:=λi j du hj=>by
   have hi:i<l.length:=by omega
   rw[aK,aK,bI hi,bI hj];by_cases e:i=j
   .subst e;exact Int.le_refl _
   .exact alu.1 hs i j hi hj (by omega)
  rw[anG];by_cases hc:k=0\/l.getD k 0≠l.getD (k-1) 0
  .rw[if_pos hc];refine⟨λx=>?_,aaf.2 ⟨h2,by simp,λa ha b hb=>?_⟩⟩
   .rw[dH,h1,qu];constructor
    .rintro(⟨j,hj,e⟩|e)
     .exact⟨j,by omega,e⟩
     .exact⟨k,by omega,e.symm⟩
    .rintro⟨j,hj,e⟩;by_cases wx:j=k
     .subst wx;exact .inr e.symm
     .exact .inl ⟨j,by omega,e⟩
   .rw[qu] at hb;subst hb;obtain⟨j,hj,rfl⟩:=(h1 a).1 ha;have a1:=hle j (k-1) (by omega) (by omega);have a2:=hle (k-1) k (by omega) (by omega);rcases hc with hc|hc<;>omega
  .rw[if_neg hc,km];refine⟨λx=>?_,h2⟩;rw[h1];constructor
   .rintro⟨j,hj,e⟩;exact⟨j,by omega,e⟩
   .rintro⟨j,hj,e⟩;by_cases wx:j=k
    .subst wx;exact⟨j-1,by omega,by rw[<-e];omega⟩
    .exact⟨j,by omega,e⟩
def anH {l:List Int}(hs:l.Pairwise (·<=·)){x:Int}:x∈gh l↔x∈l:=by
 rw[gh,(QT l hs l.length (bj _)).1,List.mem_iff_getElem];constructor
 .rintro⟨j,hj,e⟩;exact⟨j,hj,by rw[<-e,aK,bI hj];rfl⟩
 .rintro⟨j,hj,e⟩;exact⟨j,hj,by rw[<-e,aK,bI hj];rfl⟩
def anI {l:List Int}(hs:l.Pairwise (·<=·)):(gh l).Pairwise (·<·):=(QT l hs l.length (bj _)).2
def abd (l:List Int)(k:Nat):(qI l k).length<=k:=by
 unfold qI;rw[fw];exact ij (qt _ _) (by simp)
end Rm
namespace Rm
open Go Go.Proofs Cx Go.RowKit Go.Lib
def ans (l:List Int):Go.Lib.compact l=gh l:=by
 have e:∀j,l.toArray[j]! =l.getD j 0:=λj=>by simp[aK,getElem!_def];cases l[j]?<;>rfl
 unfold Go.Lib.compact Go.Lib.compactUpTo gh qI Go.Lib.keeps;simp only[e]
def oU (B:Nat)(w:World)(r:Value)(l:List Int):Prop:=
 (l=[]/\∃p,r=.slice p 0 0)\/∃g o c,r=.slice (some ⟨g,o,none⟩) l.length c/\l.length<=c/\c<=maxLen/\B<=g/\g<w.heap.size/\Go.Sort.Holds (Value.int .i64) w g o l.toArray/\mF w g iV
def ad0 {w:World}{g:Nat}(h:mF w g iV)(o:Nat)(d:Array Int)(n:Nat)(os:Array Obj)(hg:g<w.heap.size):mF (Go.Sort.grow (Go.Sort.putRow (Value.int .i64) (Go.Sort.ahead w n) g o d) os) g iV:=by
 have e:∀ob,w.heap[g]?=some ob->(Go.Sort.grow (Go.Sort.putRow (Value.int .i64) (Go.Sort.ahead w n) g o d) os).heap[g]?=some (Go.Sort.onCells (λc=>(Go.Sort.putCells (Value.int .i64) o d c)) ob):=λob cZ=>by
  rw[Go.Sort.heap_grow_old _ _ (by simp[Go.Sort.ahead];exact hg)];unfold Go.Sort.putRow Go.Sort.mapBlock;simp[Pa,Go.Sort.ahead,cZ]
 rcases h with⟨h0,arr,cl,h1,h2⟩|⟨h1,_⟩|⟨h1,cs,T,fz,h2⟩
 .exact .inl ⟨h0,arr,cl,e _ h1,h2⟩
 .exact absurd h1 vg
 .exact .inr (.inr ⟨rfl,_,_,_,e _ h2⟩)
def avw (w:World)(g:Nat)(f:Array Value->Array Value)(k:Nat)(h:k≠g):(Go.Sort.mapBlock w g f).heap[k]?=w.heap[k]?:=by
 unfold Go.Sort.mapBlock;simp[Pa,ya h]
def ahi {B:Nat}{w0 w:World}(h:Below B w0 w){g o:Nat}(hg:B<=g)(d:Array Int)(n:Nat)(os:Array Obj)(hs:B<=w.heap.size):Below B w0 (Go.Sort.grow (Go.Sort.putRow (Value.int .i64) (Go.Sort.ahead w n) g o d) os):=by
 refine h.trans ⟨rfl,rfl,rfl,by simp[Go.Sort.ahead],λk hk=>?_⟩;rw[Go.Sort.heap_grow_old _ _ (by simp[Go.Sort.ahead];omega)];exact avw _ _ _ _ (by omega)
set_option maxHeartbeats 2000000 in
def ax8 (x y z v:Value)(w:World)(k e:Int)(he:e≠0)(h1:x.oneCell'=true)(h2:y.oneCell'=true)(h3:z.oneCell'=true)
 (Ch:∀W,Below w.heap.size w W->Calls Tryz.prog 115 #[.agg #[x,y,z]] W λe' w'=>e'=.returned (.tuple #[.int .i64 k,.int .i64 e])/\Below W.heap.size W w'):
 Calls Tryz.prog 82 #[.agg #[x,y,z],v] w λe' w'=>e'=.returned (.slice none 0 0)/\Below w.heap.size w w':=by
 go_enter Tryz.func82,Tryz.ntmps82
 go_wp2_with (first
  |(go_at_call 115
    have uo:=(Below.refl w.heap.size w).alloc (bj _) (.cells #[x,y,z] 114 (0,0));refine(Ch _ uo).mono ?_;rintro e' W1 ⟨rfl,eP⟩;have cB:=uo.trans (eP.mono uo.size);clear uo eP))
 go_ret
 exact⟨rfl,cB⟩
def oU.below {B:Nat}{w w':World}{r:Value}{l:List Int}(h:oU B w r l)(hb:Below w.heap.size w w'):oU B w' r l:=
 h.imp id λ⟨g,o,c,a1,a2,a3,a4,a5,a6,a7⟩=>⟨g,o,c,a1,a2,a3,a4,tP a5 hb.size,λj hj=>by
  have:=a6 j hj;rw[hb.cell (by exact a5),hb.frozen (by exact a5)];exact this,a7.keep (hb.block g a5)⟩
def ay4 {B:Nat}{w:World}{r:Value}{l:List Int}(h:oU B w r l)(hB:B<=w.heap.size)(hl:l.length<=4294967296):
 Calls Tryz.prog 125 #[r] w λe w'=>e=.returned (.tuple #[])/\Below B w w'/\oU B w' r (kE l):=by
 rcases h with⟨rfl,p,rfl⟩|⟨g,o,c,rfl,h1,h2,h3,h4,h5,h6⟩
 .refine(Tryz.slices_Sort_int_none p 0 w).mono λe w' hh=>?_;obtain⟨rfl,rfl⟩:=hh;exact⟨rfl,.refl _ _,.inl ⟨rfl,p,rfl⟩⟩
 .refine(Tryz.slices_Sort_int g o c l w h5 h4 (by omega)).mono λe w' hh=>?_;obtain⟨rfl,n,os,rfl⟩:=hh;rw[atA];have aF:(kE l).toArray.size=l.toArray.size:=by simp[GG]
  refine⟨rfl,ahi (.refl _ _) h3 _ _ _ hB,.inr ⟨g,o,c,by rw[GG],by rw[GG];exact h1,h2,h3,by simp[Go.Sort.ahead];omega,?_,ad0 h6 _ _ _ _ h4⟩⟩;refine Go.Sort.holds_grow _ _ _ _ _ _ (by simp[Go.Sort.ahead];omega) ?_;exact Go.Sort.holds_putRow _ _ _ _ _ _ h5 aF
def ant {B:Nat}{w:World}{r:Value}{l:List Int}(h:oU B w r l)(hB:B<=w.heap.size)(hl:l.length<=4294967296):
 Calls Tryz.prog 126 #[r] w λe w'=>∃r',e=.returned r'/\Below B w w'/\oU B w' r' (gh l):=by
 rcases h with⟨rfl,p,rfl⟩|⟨g,o,c,rfl,h1,h2,h3,h4,h5,h6⟩
 .refine(Tryz.slices_Compact_int_empty p 0 w).mono λe w' hh=>?_;obtain⟨rfl,rfl⟩:=hh;exact⟨_,rfl,.refl _ _,.inl ⟨rfl,p,rfl⟩⟩
 .refine(Tryz.slices_Compact_int g o c l w h5 (by omega) h1).mono λe w' hh=>?_;rw[ans] at hh;obtain⟨rfl,q,rfl⟩:=hh;have hd:(gh l).length<=l.length:=abd l l.length;have hb:=ahi (w:=w) (o:=o) (.refl B w) h3 (gh l++List.replicate (l.length-(gh l).length) 0).toArray q #[] hB;rw[Go.Sort.grow_empty] at hb;have hh:=Go.Sort.holds_putRow (Value.int .i64) (Go.Sort.ahead w q) g o l.toArray (gh l++List.replicate (l.length-(gh l).length) 0).toArray h5 (by simp;omega);refine⟨_,rfl,hb,.inr ⟨g,o,c,rfl,by omega,h2,h3,by simp[Go.Sort.ahead];omega,λj hj=>?_,by have:=ad0 h6 o (gh l++List.replicate (l.length-(gh l).length) 0).toArray q #[] h4;rwa [Go.Sort.grow_empty] at this⟩⟩;have bf:j<(gh l).length:=by simpa using hj
  have:=hh j (by simp;omega);refine⟨this.1.trans ?_,this.2⟩;have e:(gh l++List.replicate (l.length-(gh l).length) 0).toArray[j]! =(gh l).toArray[j]!:=by
   simp[getElem!_def,kL bf]
  rw[e]
set_option maxHeartbeats 2000000 in
def aya (x y z:Value)(p:Option Addr)(vn vc:Nat)(w:World)(k:Int)(l:List Int)(h1:x.oneCell'=true)(h2:y.oneCell'=true)(h3:z.oneCell'=true)(hl:l.length<=4294967296)
 (Ch:∀W,Below w.heap.size w W->Calls Tryz.prog 115 #[.agg #[x,y,z]] W λe' w'=>e'=.returned (.tuple #[.int .i64 k,.int .i64 0])/\Below W.heap.size W w')
 (ar:∀W,Below w.heap.size w W->Calls Tryz.prog 116 #[.agg #[.slice p vn vc],.agg #[x,y,z]] W λe' w'=>∃b n r,e'=.returned (.tuple #[.agg #[.bool b,.int .i64 n],r])/\Below W.heap.size W w'/\oU W.heap.size w' r l):
 Calls Tryz.prog 82 #[.agg #[x,y,z],.slice p vn vc] w λe' w'=>∃r,e'=.returned r/\Below w.heap.size w w'/\oU w.heap.size w' r (gh (kE l)):=by
 go_enter Tryz.func82,Tryz.ntmps82
 go_wp2_with (first
  |(go_at_call 115
    have uo:=(Below.refl w.heap.size w).alloc (bj _) (.cells #[x,y,z] 114 (0,0));refine(Ch _ uo).mono ?_;rintro e' W1 ⟨rfl,eP⟩;have cB:=uo.trans (eP.mono uo.size);have qW:W1.heap[w.heap.size]?=some (.cells #[x,y,z] 114 (0,0)):=by
     rw[eP.block _ (by simp)];show(w.heap.push _)[w.heap.size]?=_;exact Array.getElem?_push_size
    have q0:W1.cell? ⟨w.heap.size,0,none⟩=some x:=by simp[World.cell?,qW]
    have q1:W1.cell? ⟨w.heap.size,1,none⟩=some y:=by simp[World.cell?,qW]
    have q2:W1.cell? ⟨w.heap.size,2,none⟩=some z:=by simp[World.cell?,qW]
    clear uo eP qW)
  |(go_at_call 116
    refine(ar _ cB).mono ?_;rintro e' W2 ⟨b,n,r,rfl,Ce,hr⟩;have yM:=cB.trans (Ce.mono cB.size);have wI:oU w.heap.size W2 r l:=hr.imp id λ⟨g,o,c,a1,a2,a3,a4,a5⟩=>⟨g,o,c,a1,a2,a3,ij cB.size a4,a5⟩
    have hc:=(Below.refl W2.heap.size W2).alloc (bj _) (.cells #[.bool b,.int .i64 n] 47 (0,0));have Ry:=yM.trans (hc.mono yM.size);have hr6:=wI.below hc;clear hr cB Ce q0 q1 q2 wI yM hc)
  |(go_at_call 125
    refine(ay4 hr6 Ry.size hl).mono ?_;rintro e' W3 ⟨rfl,hb6,hr7⟩;have Rz:=Ry.trans hb6;clear hr6 Ry hb6)
  |(go_at_call 126
    refine(ant hr7 Rz.size (by rw[GG];exact hl)).mono ?_;rintro e' W4 ⟨r',rfl,hb8,hr9⟩;have RA:=Rz.trans hb8;clear hr7 Rz hb8))
 go_ret
 exact⟨r',rfl,RA,hr9⟩
end Rm
namespace Rm
open Go Go.Proofs Cx Go.RowKit
abbrev Tz:Nat:=82
inductive NoI:Ty->Prop where
 |int (k:IntKind):NoI (.int k)
 |bool:NoI .bool
 |str:NoI .str
 |agg (ts:List Ty) (h:∀t,t∈ts->NoI t):NoI (.agg ts)
 |slice (e:Ty) (h:e≠.int .i64) (he:NoI e):NoI (.slice e)
 |trm:NoI .trm
def NoI.unf {e:Ty}(h:NoI e):NoI e.unf:=by
 cases h with
 |trm=>
  refine .agg _ λt ht=>?_;simp at ht;rcases ht with rfl|rfl
  .exact .int _
  .exact .slice _ (by intro h;cases h) .trm
 |int k=>exact .int k
 |bool=>exact .bool
 |str=>exact .str
 |agg ts h=>exact .agg ts h
 |slice e h he=>exact .slice e h he
open Classical in
def Im.un (V:Im):Im:=⟨V.c,λk=>if V.m k=some iV then none else V.m k⟩
def Rep.un {cap:Nat->Option CSig}{V:Im}{t:Ty}{v:Value}{d:D}(h:Rep cap V t v d):NoI t->Rep cap (Im.un V) t v d:=by
 induction h with
 |int k n h1 h2=>intro _;exact .int k n h1 h2
 |bool b=>intro _;exact .bool b
 |str s h=>intro _;exact .str s h
 |agg ts vs ds h1 h2 _ ho ih=>
  intro hn;cases hn with
  |agg _ hn=>exact .agg ts vs ds h1 h2 (λi t ht=>ih i t ht (hn t (ko ht))) ho
 |tup ts vs ds h1 h2 _ ih=>intro hn;cases hn
 |nil e=>intro _;exact .nil e
 |emp e a=>intro _;exact .emp e a
 |nils e=>intro hn;cases hn
 |nsl0 e=>intro hn;cases hn
 |nsl e k o n c xs _ hx ih=>intro hn;cases hn
 |slice e k o n c xs vs hn hc hm _ hv hz ih=>
  intro gE;cases gE with
  |slice _ aB he=>exact .slice e k o n c xs vs hn hc hm (λi x hx=>ih i x hx he.unf) hv λe'=>absurd e' aB
 |mapnil kt et=>intro hn;cases hn
 |map kt et r gZ es hm hl hx _ _ kD CH=>intro hn;cases hn
 |ref t k o v d _ hv ih=>intro hn;cases hn
 |fn f cs vs ds hc h1 h2 _ ih=>intro hn;cases hn
 |fnnil l r=>intro hn;cases hn
def Im.un_ok {V:Im}{w:World}(h:V.ok w):(Im.un V).ok w:=by
 refine⟨h.c,λk es e=>?_,h.f⟩;unfold Im.un at e;dsimp only at e;split at e
 .cases e
 .exact h.m k es e
def Im.un_row {V:Im}{k:Nat}:(Im.un V).m k≠some iV:=by
 unfold Im.un;dsimp only;split
 .intro h;cases h
 .assumption
def yb (Z:aQ)(ds:List D)(r:D):Prop:=
 ∃t c,ds=[t,c]/\∃k e:Int,Z 115 [t]=some (.tup [.int k,.int e])/\
  (e≠0/\r=.list []\/e=0/\∃x,∃l:List Int,ah T1 116 [.agg [c],t] (.tup [x,ints l])/\(l.length<=4294967296/\∀y,y∈l->-1000000<=y/\y<=1000000)/\r=ints (gh (kE l)))
def anJ {l:List Int}{y:Int}(h:y∈gh l):y∈l:=by
 unfold gh qI at h;obtain⟨j,hj,rfl⟩:=dW.1 h;have bf:j<l.length:=cw.1 (eO.1 hj).1;rw[aK,bI bf];exact bW bf
def atD {l m:List Int}(h:ints l=ints m):l=m:=by
 have h1:l.map D.int=m.map D.int:=by unfold ints at h;injection h
 have:∀{l m:List Int},l.map D.int=m.map D.int->l=m:=by
  intro l
  induction l with
  |nil=>intro m h;cases m<;>simp at h ⊢
  |cons a l ih=>
   intro m h;cases m with
   |nil=>simp at h
   |cons b m=>
    simp only[fO,Z4] at h;have e:a=b:=by
     have:=congrArg D.i h.1;simpa using this
    rw[e,ih h.2]
 exact this h1
def yb.uniq {Z:aQ}{ds:List D}{r r':D}(h:yb Z ds r)(h':yb Z ds r'):r=r':=by
 obtain⟨t,c,rfl,k,e,h1,h2⟩:=h;obtain⟨t',c',hd,k',e',cA,gi⟩:=h';simp only[Z4,and_true] at hd;obtain⟨rfl,rfl⟩:=hd;rw[h1] at cA;have he:e=e':=by
  have:=congrArg (λd=>((d.getD .none).tget 1).i) cA;simpa using this
 subst he;rcases h2 with⟨h2,rfl⟩|⟨h2,x,l,h3,h4,rfl⟩
 .rcases gi with⟨_,rfl⟩|⟨gi,_⟩
  .rfl
  .exact absurd gi h2
 .rcases gi with⟨gi,_⟩|⟨_,x',l',gQ,_,rfl⟩
  .exact absurd h2 gi
  .have:=ah.det h3 gQ;have e2:ints l=ints l':=by
        injection this with this
        simp only[Z4,and_true] at this;exact this.2
   rw[atD e2]
open Classical in
def Al (Z:aQ)(ds:List D):Option D:=if h:∃r,yb Z ds r then some h.choose else none
def ax6 {Z:aQ}{ds:List D}{r:D}(h:yb Z ds r):Al Z ds=some r:=by
 have h':∃r,yb Z ds r:=⟨r,h⟩
 unfold Al;rw[dif_pos h',h'.choose_spec.uniq h]
def ax7 {Z:aQ}{ds:List D}{r:D}(h:Al Z ds=some r):yb Z ds r:=by
 unfold Al at h;split at h
 .rename_i h';cases h;exact h'.choose_spec
 .cases h
def amY:NoI (.agg [.slice (.agg [.bool,.int .i64])]):=.agg _ λt ht=>by
 simp at ht;subst ht
 exact .slice _ (by intro h;cases h) (.agg _ λt ht=>by
  simp at ht;rcases ht with rfl|rfl
  .exact .bool
  .exact .int _)
def aCe:NoI (.agg [.int .i64,.int .i64,.slice .trm]):=NoI.unf .trm
def avV {cap:Nat->Option CSig}{V V':Im}{w w':World}{r:Value}{l:List Int}(av:V'.ok w')(hz:∀k,V.m k≠some iV)(hs:0<w.heap.size)
 (hm:∀k x,V'.m k=some x->V.m k=some x\/w.heap.size<=k) (h:Rep cap V' (.slice (.int .i64)) r (ints l)):oU w.heap.size w' r l:=by
 obtain⟨xs,hx,sC⟩:=h.slice_inv';have hx:xs=l.map D.int:=by
  have:D.list (l.map D.int)=D.list xs:=hx;injection this with this
  exact this.symm
 subst hx;rcases sC with⟨⟨p,rfl⟩,e⟩|⟨g,o,c,rfl,h1,h2,wR,vs,h3,h4⟩
 .exact .inl ⟨by simpa using e,p,rfl⟩
 .have hk:=wR rfl;have hg:w.heap.size<=g:=(hm g _ hk).resolve_left (hz g);rw[fw] at h1;refine .inr ⟨g,o,c,by rw[fw],h1,h2,hg,(av.m _ _ hk).lt,λj hj=>?_,av.m _ _ hk⟩;have bf:j<l.length:=by simpa using hj
  have hr:=h3 j (D.int l[j]) (by simp[bf]);have hv:vs j=.int .i64 l[j]:=by
   obtain⟨n,e1,e2,_⟩:=Rep.int_inv hr;have:l[j]=n:=by
        have:=congrArg D.i e2;simpa using this
   rw[e1,this]
  have hc:=h4 j 0 (.int .i64 l[j]) (by simpa using bf) (by rw[hv];rfl);have ho:o+j*(Ty.int .i64).size+0=o+j:=by simp[Ty.size]
  rw[ho] at hc;have e:l.toArray[j]! =l[j]:=by simp[getElem!_def,bf]
  exact⟨by rw[e];exact av.c _ _ _ hc,(av.f _ _ _ hc).resolve_left (by omega)⟩
def ax9 {Z:aQ}(hΦ:dt ctx Z){ds:List D}{d:D}(h:Al Z ds=some d):∃s,ctx.sig Tz=some s/\AJ ctx Tz s ds d:=by
 refine⟨_,rfl,λ_=>?_,λshs obs hm=>by cases hm⟩;obtain⟨t,c,rfl,k,e,h1,h2⟩:=ax7 h;intro V w args av hC ha;obtain⟨a1,a2,a3⟩:=ha;have g0:=a3 0 _ rfl;have g1:=a3 1 _ rfl;obtain⟨u,v,rfl⟩:∃u v,args=#[u,v]:=by
  have:args.size=2:=by simpa using a1
  match args,this with
  |⟨[u,v]⟩,_=>exact⟨u,v,rfl⟩
 simp only[qs,vF] at g0 g1;change Rep ctx.cap V (.agg [.int .i64,.int .i64,.slice .trm]) u t at g0;change Rep ctx.cap V (.slice (.agg [.bool,.int .i64])) v c at g1;obtain⟨us,ts,rfl,rfl,l1,l2,bX,de⟩:=g0.agg_inv;obtain⟨x,y,z,rfl⟩:∃x y z,us=[x,y,z]:=by
  match us,l1 with
  |[x,y,z],_=>exact⟨x,y,z,rfl⟩
 have o1:x.oneCell'=true:=((bX 0 _ rfl).oneCell (de 0 _ rfl)).2;have o2:y.oneCell'=true:=((bX 1 _ rfl).oneCell (de 1 _ rfl)).2;have o3:z.oneCell'=true:=((bX 2 _ rfl).oneCell (de 2 _ rfl)).2;have aq2:=(hΦ 115 _ _ h1 _ rfl).1 rfl
 have Ch:∀W,Below w.heap.size w W->Calls Tryz.prog 115 #[.agg #[x,y,z]] W λe' w'=>e'=.returned (.tuple #[.int .i64 k,.int .i64 e])/\Below W.heap.size W w':=λW hb=>by
  refine(aq2 V W #[.agg #[x,y,z]] (av.below hb) hC ⟨rfl,rfl,λi t hi=>?_⟩).mono λe' w' hh=>?_
  .match i,hi with
   |0,hi=>cases hi;exact g0
  .obtain⟨v',V',rfl,_,_,hB,_,_,ew⟩:=hh;have ew:Rep ctx.cap V' (.tup [.int .i64,.int .i64]) v' (.tup [.int k,.int e]):=ew;refine⟨?_,hB⟩;cases ew with
   |tup _ tG ds' q1 q2 q3=>
    match tG,q1 with
    |[p,q],_=>
     obtain⟨n1,e1,f1,_⟩:=Rep.int_inv (q3 0 _ rfl);obtain⟨n2,e2,f2,_⟩:=Rep.int_inv (q3 1 _ rfl);simp only[qs,vF] at e1 f1 e2 f2;have:k=n1:=by have:=congrArg D.i f1;simpa using this
     have:e=n2:=by have:=congrArg D.i f2;simpa using this
     subst e1 e2;simp_all
 rcases h2 with⟨he,rfl⟩|⟨rfl,cv,l,h3,hl,rfl⟩
 .refine(ax8 x y z v w k e he o1 o2 o3 Ch).mono λe' w' hh=>?_;obtain⟨rfl,hB⟩:=hh;exact⟨_,V,rfl,.refl V,av.below hB,hB,λ_ _ _ h=>.inl h,λ_ _ h=>.inl h,.nil _⟩
 .obtain⟨p,vn,vc,rfl⟩:∃p n c,v=.slice p n c:=by
   obtain⟨xs,_,sC⟩:=g1.slice_inv;rcases sC with⟨⟨p,rfl⟩,_⟩|⟨g,o,c,rfl,_⟩
   .exact⟨_,_,_,rfl⟩
   .exact⟨_,_,_,rfl⟩
  have asO:gN eD 116 _ _ _:=ah.fnOK ajh rfl h3 rfl;have Gt:0<w.heap.size:=by
   have:=hC.mg 0 _ rfl;have:=(av.m _ _ this).lt;omega
  have gm:Rep ctx.cap V (.agg [.slice (.agg [.bool,.int .i64])]) (.agg #[.slice p vn vc]) (.agg [c]):=by
   refine .agg [_] [.slice p vn vc] [c] rfl rfl (λi t hi=>?_) (λi t hi=>?_)
   .match i,hi with
    |0,hi=>cases hi;exact g1
   .match i,hi with
    |0,hi=>cases hi;rfl
  have ar:∀W,Below w.heap.size w W->Calls Tryz.prog 116 #[.agg #[.slice p vn vc],.agg #[x,y,z]] W λe' w'=>∃b n r,e'=.returned (.tuple #[.agg #[.bool b,.int .i64 n],r])/\Below W.heap.size W w'/\oU W.heap.size w' r l:=λW hb=>by
   refine(asO (Im.un V) W #[.agg #[.slice p vn vc],.agg #[x,y,z]] (Im.un_ok (av.below hb)) ⟨λg x hx=>(by cases hx),λg x hx=>(by cases hx)⟩ ⟨rfl,rfl,λi t hi=>?_⟩).mono λe' w' hh=>?_
   .match i,hi with
    |0,hi=>cases hi;exact Rep.un gm amY
    |1,hi=>cases hi;exact Rep.un g0 aCe
   .obtain⟨v',V',rfl,_,jL,hB,_,bP,ew⟩:=hh;have ew:Rep ctx.cap V' (.tup [.agg [.bool,.int .i64],.slice (.int .i64)]) v' (.tup [cv,ints l]):=ew;cases ew with
    |tup _ tG ds' q1 q2 q3=>
     match tG,q1 with
     |[p',q'],_=>
      have r1:=q3 0 _ rfl;have r2:=q3 1 _ rfl;simp only[qs,vF] at r1 r2;obtain⟨vs2,ds2,rfl,_,m1,m2,m3,_⟩:=r1.agg_inv
      match vs2,m1 with
      |[b',n'],_=>
       obtain⟨b,eb,_⟩:=Rep.bool_inv (m3 0 _ rfl);obtain⟨n,en,_⟩:=Rep.int_inv (m3 1 _ rfl);simp only[qs,vF] at eb en;subst eb en;exact⟨b,n,q',rfl,hB,avV jL (λk=>Im.un_row) (tP Gt hb.size) bP r2⟩
  refine(aya x y z p vn vc w k l o1 o2 o3 hl.1 Ch ar).mono λe' w' hh=>?_;obtain⟨r,rfl,hB,hr⟩:=hh;have bn:∀y,y∈gh (kE l)->-1000000<=y/\y<=1000000:=λy hy=>hl.2 y ((GH l).mem_iff.1 (anJ hy));generalize gh (kE l)=m at hr bn;rcases hr with⟨rfl,p',rfl⟩|⟨g,o,c',rfl,k1,k2,k3,k4,k5,k6⟩
  .refine⟨_,V,rfl,.refl V,av.below hB,hB,λ_ _ _ h=>.inl h,λ_ _ h=>.inl h,?_⟩;cases p' with
   |none=>exact .nil _
   |some p'=>exact .emp _ p'
  .have j5:∀q,V.c g q=none:=λq=>by
        cases hc:V.c g q with
        |none=>rfl
        |some u=>have:=World.block_lt_of_cell? w (a:=⟨g,q,none⟩) (av.c _ _ _ hc);simp at this;omega
   have hmg:V.m g=none:=by
        cases hc:V.m g with
        |none=>rfl
        |some u=>have:=(av.m _ _ hc).lt;omega
   have mq:∀j,j<m.length->w'.cell? ⟨g,o+j,none⟩=some (.int .i64 (m.getD j 0))/\w'.frozen? ⟨g,o+j,none⟩=false:=λj hj=>by
        have:=k5 j (by simpa using hj);have e:m.toArray[j]! =m.getD j 0:=by simp[getElem!_def,hj]
        rw[e] at this;exact this
   let τ:Im:=⟨λk q=>if k=g then(if o<=q/\q<o+m.length then some (.int .i64 (m.getD (q-o) 0)) else none) else V.c k q,λk=>if k=g then some iV else V.m k⟩
   have hle:V.le τ:=⟨λk q u hu=>by
    have aB:k≠g:=λe=>by subst e;rw[j5 q] at hu;cases hu
    simp[τ,aB,hu],λk u hu=>by
    have aB:k≠g:=λe=>by subst e;rw[hmg] at hu;cases hu
    simp[τ,aB,hu]⟩
   have dR:=av.below hB;refine⟨_,τ,rfl,hle,⟨λk q u hu=>?_,λk es hu=>?_,λk q n hu=>?_⟩,hB,λk q u hu=>?_,λk u hu=>?_,?_⟩
   .simp only[τ] at hu;split at hu
    .rename_i e;subst e;split at hu
     .rename_i hq;cases hu;have:=(mq (q-o) (by omega)).1
      rwa [show o+(q-o)=q by omega] at this
     .cases hu
    .exact dR.c k q u hu
   .simp only[τ] at hu;split at hu
    .rename_i e;subst e;cases hu;exact k6
    .exact dR.m k es hu
   .simp only[τ] at hu;split at hu
    .rename_i e;subst e;split at hu
     .rename_i hq;have:=(mq (q-o) (by omega)).2;rw[show o+(q-o)=q by omega] at this;exact .inr this
     .cases hu
    .exact dR.f k q n hu
   .simp only[τ] at hu;split at hu
    .rename_i e;subst e;exact .inr k3
    .exact .inl hu
   .simp only[τ] at hu;split at hu
    .rename_i e;subst e;exact .inr k3
    .exact .inl hu
   .show Rep ctx.cap τ (.slice (.int .i64)) _ (ints m);refine .slice (.int .i64) g o m.length c' (m.map D.int) (λi=>.int .i64 (m.getD i 0)) (by simp) k1 k2 (λi x hx=>?_) (λi j u hi hj=>?_) (λ_=>by simp[τ])
    .rw[cL,aD] at hx;obtain⟨y,hy,rfl⟩:=hx;have e:m.getD i 0=y:=by rw[aK,hy];rfl
     rw[e];have:=bn y (ko hy);exact .int .i64 y (by show(-9223372036854775808:Int)<=y;omega) (by show y<=(9223372036854775807:Int);omega)
    .have hj0:j=0:=by
         have:=(hZ.1 hj).1;simp[Value.cells] at this;omega
     subst hj0;simp[Value.cells] at hj;subst hj;have:o<=o+i*(Ty.int .i64).size+0/\o+i*(Ty.int .i64).size+0<o+m.length:=by simp[Ty.size];omega
     simp only[τ,if_true,this,and_self];simp[Ty.size,aK]
end Rm
