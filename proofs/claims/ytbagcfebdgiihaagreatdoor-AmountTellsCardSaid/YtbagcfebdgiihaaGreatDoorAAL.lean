import Derived.Test.YtbagcfebdgiihaaGreatDoorAAH
import Derived.KernelRfl
import Derived.Test.YtbagcfebdgiihaaGreatDoorAAI
import Derived.Test.YtbagcfebdgiihaaGreatDoorAAJ
import Derived.Test.YtbagcfebdgiihaaGreatDoorAAK
import Derived.WalkKit
import Derived.WalkSpells
import Derived.Lib.SliceRun
import Derived.Lib.AppendZeros
import Derived.Laws.Strings
set_option maxRecDepth 100000
noncomputable section
set_option linter.all false
namespace Rm
open Go Go.Proofs Cx
def BX:Option PC:=cF [7] [] Tryz.f207 207 [3,6]
def SF:Nat->PC:=aV BX
variable(b:Nat->PC)
def ayj:PC:=.block 0 [7,8,9,10,11,12] [6] (.loop [7] [6] (b 0))
def D7 (b:Nat->PC):PT:=
 (.ite (aj r7 (.llen (pc o3 18)))
 (.chk (ao (pc o3 18) r7)
 (.chk (.nt (.an (.an (ae (pc (pn (pc o3 18) r7) 0) r1) pT) (.nt (ao (pc o3 18) r7))))
 (.ite (.pick (ae (pc (pn (pc o3 18) r7) 0) r1) (ae (pc (pn (pc o3 18) r7) 1) r2) pF)
 (.ite (ae (pc (pn (pc o3 18) r7) 2) (pi 0))
 (.ret (.mk [(pc (.setc o6 0 (.mk [pT,(pi 0)])) 0),(pc (.setc o6 0 (.mk [pT,(pi 0)])) 1)]))
 (.ret (.mk [(pc (.setc o6 0 (.mk [pT,(pi 1)])) 0),(pc (.setc o6 0 (.mk [pT,(pi 1)])) 1)])))
 (.next ⟨[(7,td)],[]⟩))))
 (.exit 0 ⟨[(8,r7),(9,pN),(10,(pc o3 18)),(11,(.llen (pc o3 18))),(12,(aj r7 (.llen (pc o3 18))))],[]⟩))
def abT:PT:=
 (.brk ⟨[(7,(pi 0))],[(6,cN),(3,(.mk [r0]))]⟩
(ayj b)
 (.ret Pn))
def asS:PT×List (Shp×PT):=(abT b,[(.lp 0 [7,8,9,10,11,12] [6] [7] [6],D7 b)])
def WI:BX.map told=some (asS (aU BX)):=by kernel_rfl
def aFa:tree (ab BX)=abT SF:=bk WI
def P8:round 0 [7,8,9,10,11,12] [6] [7] [6] (SF 0)=D7 SF:=aQ WI 0 λ_=>rfl
def L1:Option PC:=cF [2] [] Tryz.f93 93 []
def ab7:PT:=
 (.ret (.pick vj (aj r0 (pi 22)) pF))
def akr:L1.map told=some (ab7,[]):=by kernel_rfl
def aFz:tree (ab L1)=ab7:=aD akr
def B5:Option PC:=cF [8,9,12,13,14] [] Tryz.f94 94 [4,10,11,78]
def SN:Nat->PC:=aV B5
def ayt:PC:=.block 0 [8,9,11,12,47,48,49,50,51] [10,11] (.loop [8,9,11,12] [10,11] (b 0))
def Zh (b:Nat->PC):PT:=
 (.ite (aY bK rB)
 (.blockS ⟨[],[]⟩ 1 [8,9,11,13,14,54,55,58,59,61,62,63,64,65,66,67,70,71,73,74,77,78,79,80,81,83,84,85,86,87,94,96,97,98,99,101,102,103] [78,11,10]
 (.chk (ao dK (aO (.llen dK) (pi 1)))
 (.call ⟨[],[]⟩ [] 64 151 [(ar 8 o4),(pn dK (aO (.llen dK) (pi 1))),r2,r3]
 (.chk (ao dK (aO (.llen dK) (pi 1)))
 (.ite (ae vg (pn dK (aO (.llen dK) (pi 1))))
 (.ret (.tup [dK,(pi 0)]))
 (.chk (aY (.llen HS) cJ)
 (.ite (.nt (.tget kX 1))
 (.ret (.tup [HS,(pi 0)]))
 (.chk (ao bP vg)
 (.chk (.nt (.an (.an (pn bP vg) pT) (.nt (ao (pc o4 4) vg))))
 (.ite (.pick (pn bP vg) (pc (pn (pc o4 4) vg) 1) pF)
 (.ret (.tup [HS,(pi 0)]))
 (.ite (pn bP vg)
 (.ret (.tup [HS,(pi 12)]))
 (.next ⟨[(11,pN)],[(10,(.setn bP vg 0 pT)),(11,HS)]⟩)))))))))))
 (.next ⟨[(12,(ay bK (pi 1)))],[]⟩))
 (.exit 0 ⟨[(47,bK),(48,pN),(49,(pc o4 4)),(50,rB),(51,(aY bK rB))],[]⟩))
def acd:PT:=
 (.call ⟨[(9,(pi 0)),(8,pL)],[(4,(.mk [r0]))]⟩ [] 17 149 [fU,r3]
 (.call ⟨[(19,(.nt dR))],[]⟩ [(19,false)] 25 150 [r1,(pi 0),(aO rB (pi 1))]
 (.call ⟨[(28,(.pick gK pT (.nt dZ)))],[]⟩ [(28,false)] 30 150 [r2,(pi 0),(pi 21)]
 (.ite (.pick mE pT (.nt jC))
 (.ret (.tup [pL,(pi 1)]))
 (.chk (ao r3 (pi 0))
 (.ite (aC (pn r3 (pi 0)) r1)
 (.ret (.tup [pL,(pi 1)]))
 (.chk (.an (aN rB (pi 0)) (aY rB cJ))
 (.chk (ae rB rB)
 (.chk (ao (.rep rB pF) r1)
 (.brk ⟨[(12,(pi 0)),(11,pN),(10,pN)],[(10,(.setn (.rep rB pF) r1 0 pT)),(11,(.lst [r1]))]⟩
(ayt b)
 (.ret (.tup [dK,(pi 12)]))))))))))))
def as1:PT×List (Shp×PT):=(acd b,[(.lp 0 [8,9,11,12,47,48,49,50,51] [10,11] [8,9,11,12] [10,11],Zh b)])
def WR:B5.map told=some (as1 (aU B5)):=by kernel_rfl
def aFE:tree (ab B5)=acd SN:=bk WR
def aBR:round 0 [8,9,11,12,47,48,49,50,51] [10,11] [8,9,11,12] [10,11] (SN 0)=Zh SN:=aQ WR 0 λ_=>rfl
def B6:Option PC:=cF [4,5] [] Tryz.f149 149 [2]
def SO:Nat->PC:=aV B6
def ayu:PC:=.block 0 [4,5,6,7,8,9] [] (.loop [4,5] [] (b 0))
def Qa (b:Nat->PC):PT:=
 (.ite (aj r5 (.llen r1))
 (.blockS ⟨[],[]⟩ 1 [4,12,13,14,15,16,17,18,19,20,21] []
 (.chk (ao r1 r5)
 (.call ⟨[],[]⟩ [] 20 150 [(pn r1 r5),(pi 0),(aO (.llen (pc o2 4)) (pi 1))]
 (.ite (.nt dt)
 (.ret pF)
 (.next ⟨[],[]⟩))))
 (.next ⟨[(5,px)],[]⟩))
 (.exit 0 ⟨[(6,r5),(7,r1),(8,(.llen r1)),(9,(aj r5 (.llen r1)))],[]⟩))
def acf:PT:=
 (.brk ⟨[(5,(pi 0)),(4,pF)],[(2,(.mk [r0]))]⟩
(ayu b)
 (.ret (ae (.llen r1) (pi 5))))
def as2:PT×List (Shp×PT):=(acf b,[(.lp 0 [4,5,6,7,8,9] [] [4,5] [],Qa b)])
def WS:B6.map told=some (as2 (aU B6)):=by kernel_rfl
def aFG:tree (ab B6)=acf SO:=bk WS
def amZ:round 0 [4,5,6,7,8,9] [] [4,5] [] (SO 0)=Qa SO:=aQ WS 0 λ_=>rfl
def L4:Option PC:=cF [8,9] [] Tryz.f151 151 [4,10]
def ace:PT:=
 (.call ⟨[],[(4,(.mk [r0]))]⟩ [] 13 149 [fU,r3]
 (.call ⟨[(15,(.nt cK))],[]⟩ [(15,false)] 21 150 [r1,(pi 0),(aO rB (pi 1))]
 (.call ⟨[(24,(.pick bZ pT (.nt fE)))],[]⟩ [(24,false)] 26 150 [r2,(pi 0),(pi 21)]
 (.ite (.pick mD pT (.nt lU))
 (.ret (.tup [(pi (-1)),pF]))
 (.chk (ao (pc o4 4) r1)
 (.call ⟨[],[]⟩ [] 35 200 [(pn (pc o4 4) r1),r2]
 (.ite (ae (pc (.setc vl 0 hH) 1) (pi 0))
 (.ret (.tup [r1,pF]))
 (.chk (ao r3 (pc (.setc vl 0 hH) 1))
 (.ret (.tup [(pn r3 (pc (.setc vl 0 hH) 1)),(pc (.setc vl 0 hH) 2)]))))))))))
def aku:L4.map told=some (ace,[]):=by kernel_rfl
def aFF:tree (ab L4)=ace:=aD aku
def B4:Option PC:=cF [5] [] Tryz.f200 200 [2,4]
def SM:Nat->PC:=aV B4
def ays:PC:=.block 0 [5,6,7,8,9,10] [4] (.loop [5] [4] (b 0))
def IT (b:Nat->PC):PT:=
 (.ite (aj r5 (.llen (pc o2 2)))
 (.chk (ao (pc o2 2) r5)
 (.ite (ae (pc (pn (pc o2 2) r5) 0) r1)
 (.ret (.mk [(pc (.setc o4 0 (pn (pc o2 2) r5)) 0),(pc (.setc o4 0 (pn (pc o2 2) r5)) 1),(pc (.setc o4 0 (pn (pc o2 2) r5)) 2)]))
 (.next ⟨[(5,px)],[]⟩)))
 (.exit 0 ⟨[(6,r5),(7,pN),(8,(pc o2 2)),(9,(.llen (pc o2 2))),(10,(aj r5 (.llen (pc o2 2))))],[]⟩))
def acb:PT:=
 (.brk ⟨[(5,(pi 0))],[(4,vl),(2,(.mk [r0]))]⟩
(ays b)
 (.ret (.mk [(pc (.setc o4 0 (.mk [r1,(pi 0),pF])) 0),(pc (.setc o4 0 (.mk [r1,(pi 0),pF])) 1),(pc (.setc o4 0 (.mk [r1,(pi 0),pF])) 2)])))
def as0:PT×List (Shp×PT):=(acb b,[(.lp 0 [5,6,7,8,9,10] [4] [5] [4],IT b)])
def WQ:B4.map told=some (as0 (aU B4)):=by kernel_rfl
def aFD:tree (ab B4)=acb SM:=bk WQ
def Zg:round 0 [5,6,7,8,9,10] [4] [5] [4] (SM 0)=IT SM:=aQ WQ 0 λ_=>rfl
def LZ:Option PC:=cF [7,8] [] Tryz.f95 95 [3,6,9]
def ab5:PT:=
 (.call ⟨[],[(6,cN),(3,(.mk [r0]))]⟩ [] 12 152 [(ar 4 (.mk [r0])),r1]
 (.ite (aC bK (pi 0))
 (.ret (.tup [Pn,bK]))
 (.call ⟨[(18,(pc o3 3))],[]⟩ [] 21 154 [(ar 4 o3),r1]
 (.chk (ao cR fE)
 (.call ⟨[],[]⟩ [] 26 153 [(.sub (pn cR fE) 1 3),r2]
 (.call ⟨[(29,(pc AD 0))],[(9,AD)]⟩ [(29,true)] 31 155 [r1]
 (.ret (.tup [(.mk [(pc (.setc o6 0 (.mk [(pc Ph 0),(pc Ph 1)])) 0),(pc (.setc o6 0 (.mk [(pc Ph 0),(pc Ph 1)])) 1)]),(pi 0)]))))))))
def akq:LZ.map told=some (ab5,[]):=by kernel_rfl
def aFx:tree (ab LZ)=ab5:=aD akq
def L3:Option PC:=cF [4,5,6,7,8,9] [] Tryz.f152 152 [2]
def aca:PT:=
 (.call ⟨[],[(2,(.mk [r0]))]⟩ [] 11 93 [r1]
 (.ite (.nt bJ)
 (.ret (pi 1))
 (.call ⟨[],[]⟩ [] 15 154 [(ar 4 o2),r1]
 (.ite (aj bZ (pi 0))
 (.ret (pi 4))
 (.chk (ao (pc o2 3) bZ)
 (.call ⟨[],[]⟩ [] 25 201 [(.sub (pn (pc o2 3) bZ) 1 3)]
 (.call ⟨[(7,(.tget dZ 1)),(6,(.tget dZ 0))],[]⟩ [] 30 202 [r1]
 (.ite (.pick (aC r7 (pi 0)) pT (aC r6 (.tget jC 0)))
 (.ret (pi 11))
 (.ret (pi 0))))))))))
def akt:L3.map told=some (aca,[]):=by kernel_rfl
def aFC:tree (ab L3)=aca:=aD akt
def B3:Option PC:=cF [4,5] [] Tryz.f154 154 [2]
def SL:Nat->PC:=aV B3
def ayr:PC:=.block 0 [4,5,6,7,8,9,10] [] (.loop [4,5] [] (b 0))
def IS (b:Nat->PC):PT:=
 (.ite (aj r5 (.llen (pc o2 3)))
 (.chk (ao (pc o2 3) r5)
 (.ite (ae (pc (pn (pc o2 3) r5) 0) r1)
 (.ret r5)
 (.next ⟨[(5,px)],[]⟩)))
 (.exit 0 ⟨[(6,r5),(7,pN),(8,(pc o2 3)),(9,(.llen (pc o2 3))),(10,(aj r5 (.llen (pc o2 3))))],[]⟩))
def ab8:PT:=
 (.brk ⟨[(5,(pi 0)),(4,(pi 0))],[(2,(.mk [r0]))]⟩
(ayr b)
 (.ret (pi (-1))))
def asZ:PT×List (Shp×PT):=(ab8 b,[(.lp 0 [4,5,6,7,8,9,10] [] [4,5] [],IS b)])
def WO:B3.map told=some (asZ (aU B3)):=by kernel_rfl
def aFA:tree (ab B3)=ab8 SL:=bk WO
def Zf:round 0 [4,5,6,7,8,9,10] [] [4,5] [] (SL 0)=IS SL:=aQ WO 0 λ_=>rfl
def LL:Option PC:=cF [2,3] [] Tryz.f201 201 [1]
def abY:PT:=
 (.call ⟨[],[(1,(.mk [r0]))]⟩ [] 5 159 [(.mk [fL,gJ,vq]),(pi 60),(pi 8)]
 (.ite (aj r5 (pi 0))
 (.ret (.tup [(pi 0),(pi 6)]))
 (.call ⟨[],[]⟩ [] 8 236 [Pf]
 (.ret (.tup [(.tget r8 0),(.tget r8 1)])))))
def akd:LL.map told=some (abY,[]):=by kernel_rfl
def aFi:tree (ab LL)=abY:=aD akd
def B1:Option PC:=cF [2,3,5,6,7,8,9,10] [] Tryz.f236 236 [1,4,33]
def SJ:Nat->PC:=aV B1
def ayp:PC:=.block 0 [2,3,4,5,12,13,14,15,16] [4] (.loop [2,3,4,5] [4] (b 0))
def IP (b:Nat->PC):PT:=
 (.ite (aj r5 pq)
 (.blockS ⟨[],[]⟩ 1 [2,3,4,6,7,19,20,21,22,23,24,25,26,27,28,29,32,33,34] [4,33]
 (.chk (ao (pc o1 2) r5)
 (.call ⟨[],[]⟩ [] 25 236 [(pn (pc o1 2) r5)]
 (.ite (aC (.tget dZ 1) (pi 0))
 (.ret (.tup [(pi 0),(.tget dZ 1)]))
 (.chk (aY (.llen (.app o4 (.lst [(.tget dZ 0)]))) cJ)
 (.next ⟨[(4,pN)],[(4,(.app o4 (.lst [(.tget dZ 0)])))]⟩)))))
 (.next ⟨[(5,px)],[]⟩))
 (.exit 0 ⟨[(12,r5),(13,pN),(14,(pc o1 2)),(15,pq),(16,(aj r5 pq))],[]⟩))
def ab4:PT:=
 (.brk ⟨[(5,(pi 0)),(4,pN),(3,(pi 0)),(2,(pi 0))],[(4,(.lst [])),(1,(.mk [r0]))]⟩
(ayp b)
 (.ite (.pick (aj (pc o1 0) (pi 0)) pT (aN (pc o1 0) (pi 14)))
 (.ret (.tup [(pi 0),(pi 1)]))
 (.call ⟨[],[]⟩ [] 45 261 [(pc o1 0)]
 (.ite (.pick (aC (.llen o4) mG) pT (.pick (aS mG (pi 0)) (aC (pc o1 1) (pi 0)) pF))
 (.ret (.tup [(pi 0),(pi 2)]))
 (.iteS ⟨[],[]⟩ (ae mG (pi 0)) [2,3] []
 (.call ⟨[],[]⟩ [] 62 262 [Pf]
 (.ret (.tup [(.tget jc 0),(.tget jc 1)])))
 (.next ⟨[],[]⟩)
 (.call ⟨[],[]⟩ [] 69 263 [(pc o1 0),o4]
 (.ite (.nt (.tget tw 1))
 (.ret (.tup [(pi 0),(pi 11)]))
 (.ret (.tup [(.tget tw 0),(pi 0)])))))))))
def asX:PT×List (Shp×PT):=(ab4 b,[(.lp 0 [2,3,4,5,12,13,14,15,16] [4] [2,3,4,5] [4],IP b)])
def WM:B1.map told=some (asX (aU B1)):=by kernel_rfl
def aFw:tree (ab B1)=ab4 SJ:=bk WM
def Zd:round 0 [2,3,4,5,12,13,14,15,16] [4] [2,3,4,5] [4] (SJ 0)=IP SJ:=aQ WM 0 λ_=>rfl
def LS:Option PC:=cF [2,4,8,10] [] Tryz.f261 261 []
def yo:PT:=
 (.ite (.pick (ae r0 (pi 0)) (ae r0 (pi 0)) (.pick (ae r0 (pi 1)) (ae r0 (pi 1)) (ae r0 (pi 2))))
 (.ret (pi 0))
 (.ite (ae r0 (pi 3))
 (.ret (pi 1))
 (.ite (ae r0 (pi 6))
 (.ret (pi 3))
 (.ret (pi 2)))))
def akk:LS.map told=some (yo,[]):=by kernel_rfl
def aFp:tree (ab LS)=yo:=aD akk
def LV:Option PC:=cF [2,3,4,5] [] Tryz.f262 262 [1]
def yp:PT:=
 (.ite (ae fL (pi 0))
 (.ite (.pick (aj gJ (pi (-1099511627776))) pT (aS gJ jb))
 (.ret (.tup [(pi 0),(pi 3)]))
 (.ret (.tup [(pi 0),(pi 0)])))
 (.ite (ae fL (pi 1))
 (.ite (.pick (aC gJ (pi 0)) (aC gJ (pi 1)) pF)
 (.ret (.tup [(pi 0),(pi 3)]))
 (.ret (.tup [(pi 1),(pi 0)])))
 (.call ⟨[],[]⟩ [] 31 264 [gJ]
 (.ite (.nt (.tget g9 1))
 (.ret (.tup [(pi 0),(pi 10)]))
 (.ret (.tup [(.tget g9 0),(pi 0)]))))))
def akm:LV.map told=some (yp,[]):=by kernel_rfl
def aFs:tree (ab LV)=yp:=aD akm
def LR:Option PC:=cF [2,3] [] Tryz.f264 264 []
def Ep:PT:=
 (.ite (.pick (aj r0 (pi 0)) pT (aN r0 (pi 20)))
 (.ret (.tup [(pi 0),pF]))
 (.ite (aY r0 (pi 6))
 (.ret (.tup [(pi 0),pT]))
 (.ret (.tup [(pi 1),pT]))))
def akj:LR.map told=some (Ep,[]):=by kernel_rfl
def aFo:tree (ab LR)=Ep:=aD akj
def LU:Option PC:=cF [4,5,7,13,26,44,56] [] Tryz.f263 263 []
def vI:PT:=
 (.ite (ae r0 (pi 3))
 (.chk tg
 (.ret (.tup [(pi 1),(ae jA (pi 1))])))
 (.ite (.pick (ae r0 (pi 4)) (ae r0 (pi 4)) (ae r0 (pi 5)))
 (.chk tg
 (.chk (.nt (.an (.an (ae jA (pi 1)) pT) (.nt rv)))
 (.ret (.tup [(pi 1),(.pick (ae jA (pi 1)) (ae kV (pi 1)) pF)]))))
 (.ite (ae r0 (pi 6))
 (.chk rv
 (.chk tg
 (.chk (.nt (.an (.an (ae jA (pi 1)) pT) (.nt rv)))
 (.chk (.nt (.an (.an (ae jA (pi 1)) pT) (.nt (ao r1 (pi 2)))))
 (.ret (.tup [kV,(.pick (ae jA (pi 1)) (ae kV (pn r1 (pi 2))) pF)]))))))
 (.ite (ae r0 (pi 7))
 (.chk tg
 (.chk (.nt (.an (.an (ae jA (pi 0)) pT) (.nt rv)))
 (.ret (.tup [(pi 1),(.pick (ae jA (pi 0)) (ae kV (pi 0)) pF)]))))
 (.ite (ae r0 (pi 8))
 (.chk tg
 (.chk rv
 (.ret (.tup [(pi 1),(ae jA kV)]))))
 (.chk tg
 (.chk (.nt (.an (.an (ae jA (pi 0)) pT) (.nt rv)))
 (.ret (.tup [(pi 0),(.pick (ae jA (pi 0)) (ae kV (pi 0)) pF)])))))))))
def akl:LU.map told=some (vI,[]):=by kernel_rfl
def aFr:tree (ab LU)=vI:=aD akl
def L2:Option PC:=cF [2,3] [] Tryz.f202 202 []
def ab9:PT:=
 (.call ⟨[],[]⟩ [] 5 93 [r0]
 (.ite (.nt r5)
 (.ret (.tup [(pi 0),pF]))
 (.call ⟨[],[]⟩ [] 8 155 [r0]
 (.ite r8
 (.ret (.tup [(pi 1),pT]))
 (.ret (.tup [(pi 0),pT]))))))
def aks:L2.map told=some (ab9,[]):=by kernel_rfl
def aFB:tree (ab L2)=ab9:=aD aks
def Lw:Option PC:=cF [2,4] [] Tryz.f155 155 []
def QY:PT:=
 (.ite (.pick (ae r0 (pi 6)) (ae r0 (pi 6)) (.pick (ae r0 (pi 7)) (ae r0 (pi 7)) (.pick (ae r0 (pi 10)) (ae r0 (pi 10)) (.pick (ae r0 (pi 12)) (ae r0 (pi 12)) (.pick (ae r0 (pi 13)) (ae r0 (pi 13)) (.pick (ae r0 (pi 14)) (ae r0 (pi 14)) (.pick (ae r0 (pi 15)) (ae r0 (pi 15)) (.pick (ae r0 (pi 16)) (ae r0 (pi 16)) (.pick (ae r0 (pi 20)) (ae r0 (pi 20)) (ae r0 (pi 21)))))))))))
 (.ret pF)
 (.call ⟨[],[]⟩ [] 16 150 [r0,(pi 0),(pi 21)]
 (.ret cq)))
def ajZ:Lw.map told=some (QY,[]):=by kernel_rfl
def aEM:tree (ab Lw)=QY:=aD ajZ
def LN:Option PC:=cF [5,6] [] Tryz.f153 153 [2,4]
def abZ:PT:=
 (.call ⟨[],[(4,cN),(2,(.mk [r0]))]⟩ [] 9 201 [(.mk [fL,gJ,vq])]
 (.ite (aC (.tget r9 1) (pi 0))
 (.ret vk)
 (.call ⟨[],[]⟩ [] 17 203 [(.mk [(pc o2 0),(pc o2 1),(pc o2 2)]),r1]
 (.ret (.mk [(pc (.setc o4 0 dR) 0),(pc (.setc o4 0 dR) 1)])))))
def akf:LN.map told=some (abZ,[]):=by kernel_rfl
def aFk:tree (ab LN)=abZ:=aD akf
def B0:Option PC:=cF [9,15,6,41,55,64,73] [] Tryz.f203 203 [2,4,5,37]
def SH:Nat->PC:=aV B0
def ayn:PC:=.block 1 [5,6,22,23,24,25,26] [5] (.loop [5,6] [5] (b 0))
def rI (b:Nat->PC):PT:=
 (.ite (aj r6 (.llen (pc o2 2)))
 (.blockS ⟨[],[]⟩ 2 [5,30,31,32,33,34,35,36,37,38] [5,37]
 (.chk (ao (pc o2 2) r6)
 (.call ⟨[],[]⟩ [] 36 203 [(pn (pc o2 2) r6),r1]
 (.chk (aY (.llen (.app o5 (.lst [fM]))) cJ)
 (.next ⟨[(5,pN)],[(5,(.app o5 (.lst [fM])))]⟩))))
 (.next ⟨[(6,xM)],[]⟩))
 (.exit 1 ⟨[(22,r6),(23,pN),(24,(pc o2 2)),(25,(.llen (pc o2 2))),(26,(aj r6 (.llen (pc o2 2))))],[]⟩))
def JD:PT:=
 (.blockS ⟨[(8,fL)],[(4,cN),(2,(.mk [r0]))]⟩ 0 [9,10,15,16] [4]
 (.iteS ⟨[],[]⟩ (.pick (ae r8 (pi 0)) (ae r8 (pi 0)) (ae r8 (pi 1))) [15,16] [4]
 (.ret (.mk [(pc (.setc o4 0 (.mk [pT,(pc o2 1)])) 0),(pc (.setc o4 0 (.mk [pT,(pc o2 1)])) 1)]))
 (.iteS ⟨[],[]⟩ (ae r8 (pi 2)) [] [4]
 (.call ⟨[],[]⟩ [] 20 237 [(pc o2 1),r1]
 (.ret (.mk [(pc (.setc o4 0 dt) 0),(pc (.setc o4 0 dt) 1)])))
 (.next ⟨[],[]⟩)
 (.next ⟨[],[]⟩))
 (.next ⟨[],[]⟩))
 (.brk ⟨[(6,(pi 0)),(5,pN)],[(5,(.lst []))]⟩
(ayn b)
 (.blockS ⟨[(40,(pc o2 0))],[]⟩ 3 [41,42,55,56,64,65,73,74] [4]
 (.iteS ⟨[],[]⟩ (ae nv (pi 3)) [55,56,64,65,73,74] [4]
 (.chk (ao o5 (pi 0))
 (.ite (.nt (pc ql 0))
 (.ret vk)
 (.ret (.mk [(pc (.setc o4 0 (.mk [pT,(aO (pi 1) (pc ql 1))])) 0),(pc (.setc o4 0 (.mk [pT,(aO (pi 1) (pc ql 1))])) 1)]))))
 (.iteS ⟨[],[]⟩ (ae nv (pi 4)) [64,65,73,74] [4]
 (.chk (ao o5 (pi 0))
 (.chk (ao o5 (pi 1))
 (.call ⟨[],[]⟩ [] 63 238 [(.sub ql 0 2),(.sub ry 0 2),(pi 0)]
 (.ret (.mk [(pc (.setc o4 0 DY) 0),(pc (.setc o4 0 DY) 1)])))))
 (.iteS ⟨[],[]⟩ (ae nv (pi 5)) [73,74] [4]
 (.chk (ao o5 (pi 0))
 (.chk (ao o5 (pi 1))
 (.call ⟨[],[]⟩ [] 72 238 [(.sub ql 0 2),(.sub ry 0 2),(pi 1)]
 (.ret (.mk [(pc (.setc o4 0 AI) 0),(pc (.setc o4 0 AI) 1)])))))
 (.ite (ae nv (pi 6))
 (.chk (ao o5 (pi 0))
 (.ite (pc ql 0)
 (.chk (ao o5 (aO (pi 2) (pc ql 1)))
 (.ret (.mk [(pc (.setc o4 0 (.sub (pn o5 (aO (pi 2) (pc ql 1))) 0 2)) 0),(pc (.setc o4 0 (.sub (pn o5 (aO (pi 2) (pc ql 1))) 0 2)) 1)])))
 (.chk (ao o5 (pi 1))
 (.chk (.nt (.an (.an (pc ry 0) pT) (.nt (ao o5 (pi 2)))))
 (.chk (.nt (.an (.an (.pick (pc ry 0) (pc (pn o5 (pi 2)) 0) pF) pT) (.nt (ao o5 (pi 1)))))
 (.chk (.nt (.an (.an (.pick (pc ry 0) (pc (pn o5 (pi 2)) 0) pF) pT) (.nt (ao o5 (pi 2)))))
 (.ite (.pick (.pick (pc ry 0) (pc (pn o5 (pi 2)) 0) pF) (ae (pc ry 1) (pc (pn o5 (pi 2)) 1)) pF)
 (.ret (.mk [(pc (.setc o4 0 (.sub ry 0 2)) 0),(pc (.setc o4 0 (.sub ry 0 2)) 1)]))
 (.ret vk))))))))
 (.next ⟨[],[]⟩))
 (.next ⟨[],[]⟩))
 (.next ⟨[],[]⟩))
 (.next ⟨[],[]⟩))
 (.chk (ao o5 (pi 0))
 (.chk (.nt (.an (.an (.nt (.nt (pc ql 0))) pT) (.nt (ao o5 (pi 1)))))
 (.ite (.pick (.nt (pc ql 0)) pT (.nt (pc ry 0)))
 (.ret vk)
 (.chk (ao o5 (pi 1))
 (.call ⟨[],[]⟩ [] 135 239 [(pc o2 0),(pc ql 1),(pc ry 1)]
 (.ret (.mk [(pc (.setc o4 0 (.r 135)) 0),(pc (.setc o4 0 (.r 135)) 1)]))))))))))
def asV:PT×List (Shp×PT):=(JD b,[(.lp 1 [5,6,22,23,24,25,26] [5] [5,6] [5],rI b)])
def WK:B0.map told=some (asV (aU B0)):=by kernel_rfl
def aFq:tree (ab B0)=JD SH:=bk WK
def vD:round 1 [5,6,22,23,24,25,26] [5] [5,6] [5] (SH 0)=rI SH:=aQ WK 0 λ_=>rfl
def LQ:Option PC:=cF [6,7] [] Tryz.f237 237 [4,5]
def ab1:PT:=
 (.ite (.pick (aj r0 (pi 0)) pT (aN r0 (.llen r1)))
 (.ret Pm)
 (.chk (ao r1 r0)
 (.ite (.nt (pc (.setc cN 0 (pn r1 r0)) 0))
 (.ret Pm)
 (.call ⟨[],[(4,cN),(5,(.setc cN 0 (pn r1 r0)))]⟩ [] 27 264 [r0]
 (.iteS ⟨[],[]⟩ (ae (.tget eP 0) (pi 0)) [] [4]
 (.call ⟨[],[]⟩ [] 34 265 [(pc o5 1)]
 (.ret (.mk [(pc (.setc o4 0 (.mk [pT,qs])) 0),(pc (.setc o4 0 (.mk [pT,qs])) 1)])))
 (.next ⟨[],[]⟩)
 (.ite (aC (pc o5 1) (pi 0))
 (.ret (.mk [(pc (.setc o4 0 (.mk [pT,(pi 1)])) 0),(pc (.setc o4 0 (.mk [pT,(pi 1)])) 1)]))
 (.ret (.mk [(pc (.setc o4 0 (.mk [pT,(pi 0)])) 0),(pc (.setc o4 0 (.mk [pT,(pi 0)])) 1)]))))))))
def aki:LQ.map told=some (ab1,[]):=by kernel_rfl
def aFn:tree (ab LQ)=ab1:=aD aki
def LM:Option PC:=cF [2] [] Tryz.f265 265 []
def Q4:PT:=
 (.ret (.mx (pi (-1099511627776)) (.mn jb r0)))
def ake:LM.map told=some (Q4,[]):=by kernel_rfl
def aFj:tree (ab LM)=Q4:=aD ake
def LW:Option PC:=cF [] [] Tryz.f238 238 [3,4,6]
def ab2:PT:=
 (.ite (.pick (.pick fL (ae gJ r2) pF) pT (.pick vh (ae xS r2) pF))
 (.ret (.mk [(pc (.setc cN 0 (.mk [pT,r2])) 0),(pc (.setc cN 0 (.mk [pT,r2])) 1)]))
 (.ite (.pick fL vh pF)
 (.ret (.mk [(pc (.setc cN 0 (.mk [pT,(aO (pi 1) r2)])) 0),(pc (.setc cN 0 (.mk [pT,(aO (pi 1) r2)])) 1)]))
 (.ret Pm)))
def akn:LW.map told=some (ab2,[]):=by kernel_rfl
def aFt:tree (ab LW)=ab2:=aD akn
def LX:Option PC:=cF [8,14,20,27,34,40] [] Tryz.f239 239 [6]
def vJ:PT:=
 (.blockS ⟨[(7,r0)],[(6,cN)]⟩ 0 [8,9,14,15,20,21,27,28,34,35,40,41] [6]
 (.iteS ⟨[],[]⟩ (ae r7 (pi 7)) [14,15,20,21,27,28,34,35,40,41] [6]
 (.call ⟨[],[]⟩ [] 13 266 [(aj r1 r2)]
 (.ret (.mk [(pc (.setc o6 0 cK) 0),(pc (.setc o6 0 cK) 1)])))
 (.iteS ⟨[],[]⟩ (ae r7 (pi 8)) [20,21,27,28,34,35,40,41] [6]
 (.call ⟨[],[]⟩ [] 19 266 [(ae r1 r2)]
 (.ret (.mk [(pc (.setc o6 0 gK) 0),(pc (.setc o6 0 gK) 1)])))
 (.iteS ⟨[],[]⟩ (ae r7 (pi 9)) [27,28,34,35,40,41] [6]
 (.call ⟨[],[]⟩ [] 25 265 [(ay r1 r2)]
 (.ret (.mk [(pc (.setc o6 0 (.mk [pT,dZ])) 0),(pc (.setc o6 0 (.mk [pT,dZ])) 1)])))
 (.iteS ⟨[],[]⟩ (ae r7 (pi 10)) [34,35,40,41] [6]
 (.call ⟨[],[]⟩ [] 32 265 [(aO r1 r2)]
 (.ret (.mk [(pc (.setc o6 0 (.mk [pT,ku])) 0),(pc (.setc o6 0 (.mk [pT,ku])) 1)])))
 (.iteS ⟨[],[]⟩ (ae r7 (pi 11)) [40,41] [6]
 (.call ⟨[],[]⟩ [] 38 267 [r1,r2]
 (.ret (.mk [(pc (.setc o6 0 (.mk [pT,jW])) 0),(pc (.setc o6 0 (.mk [pT,jW])) 1)])))
 (.ite (ae r7 (pi 12))
 (.ret (.mk [(pc (.setc o6 0 (.mk [pT,(.mn r1 r2)])) 0),(pc (.setc o6 0 (.mk [pT,(.mn r1 r2)])) 1)]))
 (.next ⟨[],[]⟩))
 (.next ⟨[],[]⟩))
 (.next ⟨[],[]⟩))
 (.next ⟨[],[]⟩))
 (.next ⟨[],[]⟩))
 (.next ⟨[],[]⟩))
 (.ret (.mk [(pc (.setc o6 0 (.mk [pT,(.mx r1 r2)])) 0),(pc (.setc o6 0 (.mk [pT,(.mx r1 r2)])) 1)])))
def ako:LX.map told=some (vJ,[]):=by kernel_rfl
def aFu:tree (ab LX)=vJ:=aD ako
def LY:Option PC:=cF [] [] Tryz.f266 266 [2]
def ab3:PT:=
 (.ite r0
 (.ret XZ)
 (.ret X0))
def akp:LY.map told=some (ab3,[]):=by kernel_rfl
def aFv:tree (ab LY)=ab3:=aD akp
def LP:Option PC:=cF [4,5,6] [] Tryz.f267 267 []
def Q5:PT:=
 (.ite (.pick (ae r0 (pi 0)) pT (ae r1 (pi 0)))
 (.ret (pi 0))
 (.chk (aC (.mx r1 (aO (pi 0) r1)) (pi 0))
 (.ite Pc
 (.ret (.ai .mul .i64 (aO (pi 0) (.pick Pp jb (.mx r0 (aO (pi 0) r0)))) (.pick Pp (pi 1) (.mx r1 (aO (pi 0) r1)))))
 (.ret (.ai .mul .i64 (.pick Pp jb (.mx r0 (aO (pi 0) r0))) (.pick Pp (pi 1) (.mx r1 (aO (pi 0) r1))))))))
def akh:LP.map told=some (Q5,[]):=by kernel_rfl
def aFm:tree (ab LP)=Q5:=aD akh
def Mc:Option PC:=cF [2] [] Tryz.f43 43 [1]
def acn:PT:=
 (.ite (.pick (aC xK (pi 0)) pT (.pick fL (ae gJ (pi 0)) pF))
 (.ret (pi 0))
 (.ite fL
 (.ret (pi 1))
 (.ret (pi 2))))
def akB:Mc.map told=some (acn,[]):=by kernel_rfl
def aFQ:tree (ab Mc)=acn:=aD akB
def Mf:Option PC:=cF [12] [] Tryz.f137 137 [6,9,13]
def acr:PT:=
 (.call ⟨[(16,r4),(15,r4),(14,(ar 19 (.mk [r3])))],[(6,(.mk [r0]))]⟩ [] 21 39 [fU,r1,(ar 19 (.mk [r3])),r5]
 (.call ⟨[],[]⟩ [] 28 41 [(ar 8 o6),r1,r2,(ar 24 (.setc HP 0 (.mk [cn,bZ,cq,(pi (-1)),fE,r5])))]
 (.call ⟨[],[]⟩ [] 29 43 [mE]
 (.ret lV))))
def akE:Mf.map told=some (acr,[]):=by kernel_rfl
def aFU:tree (ab Mf)=acr:=aD akE
def Ma:Option PC:=cF [8,10,11,12] [] Tryz.f39 39 [4,6,9]
def ack:PT:=
 (.call ⟨[],[(6,(.mk [r2])),(4,(.mk [r0]))]⟩ [] 15 37 [xI,r3]
 (.ite (ae (.llen (pc (.setc ja 0 bZ) 15)) (pi 0))
 (.ret (pi (-1)))
 (.call ⟨[],[(9,(.setc ja 0 bZ))]⟩ [] 24 89 [(ar 8 o4),r1,(pi 6),(ar 19 o6),r3]
 (.call ⟨[],[]⟩ [] 25 40 [mD]
 (.call ⟨[(31,(ar 15 o6)),(29,(ar 8 o4)),(10,(.pick (ae dZ (pi (-1))) (pi 0) dZ))],[]⟩ [] 33 91 [(ar 19 o9)]
 (.call ⟨[],[]⟩ [] 35 90 [lV,g9,py,aZ]
 (.ite (aC (.tget hH 1) (pi 0))
 (.ret (pi (-1)))
 (.ret (.tget hH 0)))))))))
def akz:Ma.map told=some (ack,[]):=by kernel_rfl
def aFM:tree (ab Ma)=ack:=aD akz
def Mb:Option PC:=cF [2] [] Tryz.f40 40 [1]
def Q7:PT:=
 (.ite (.pick (ae xK (pi 0)) fL pF)
 (.ret gJ)
 (.ret (pi (-1))))
def akA:Mb.map told=some (Q7,[]):=by kernel_rfl
def aFN:tree (ab Mb)=Q7:=aD akA
def BY:Option PC:=cF [2,3,4,5,6,7] [] Tryz.f91 91 [1]
def yX:Nat->PC:=aV BY
def ayk:PC:=.block 0 [2,3,13,14,15,16,17] [] (.loop [2,3] [] (b 0))
def ayl:PC:=.block 2 [4,5,6,33,34,35,36,37] [] (.loop [4,5,6] [] (b 1))
def aym:PC:=.block 4 [4,5,7,67,68,69,70,71] [] (.loop [4,5,7] [] (b 2))
def IL (b:Nat->PC):PT:=
 (.ite (aj r3 (.llen (pc o1 17)))
 (.chk (ao (pc o1 17) r3)
 (.ite (ae (pc (pn (pc o1 17) r3) 0) (pi 2))
 (.ret (pc (pn (pc o1 17) r3) 6))
 (.next ⟨[(3,vi)],[]⟩)))
 (.exit 0 ⟨[(13,r3),(14,pN),(15,(pc o1 17)),(16,(.llen (pc o1 17))),(17,(aj r3 (.llen (pc o1 17))))],[]⟩))
def AK (b:Nat->PC):PT:=
 (.ite (aj r6 (.llen (pc o1 15)))
 (.chk (ao (pc o1 15) r6)
 (.chk (.nt (.an (.an (.nt (.nt r4)) (.an (ae (pc (pn (pc o1 15) r6) 0) (pi 1)) pT)) (.nt (ao (pc o1 15) r6))))
 (.ite (.pick (ae (pc (pn (pc o1 15) r6) 0) (pi 1)) (.pick (.nt r4) pT (aj (pc (pn (pc o1 15) r6) 6) r5)) pF)
 (.next ⟨[(4,pT),(5,(pc (pn (pc o1 15) r6) 6)),(6,xM)],[]⟩)
 (.next ⟨[(6,xM)],[]⟩))))
 (.exit 2 ⟨[(33,r6),(34,pN),(35,(pc o1 15)),(36,(.llen (pc o1 15))),(37,(aj r6 (.llen (pc o1 15))))],[]⟩))
def vC (b:Nat->PC):PT:=
 (.ite (aj r7 (.llen (pc o1 17)))
 (.chk (ao (pc o1 17) r7)
 (.chk (.nt (.an (.an (.nt (.nt r4)) (.an (ae (pc (pn (pc o1 17) r7) 0) (pi 1)) pT)) (.nt (ao (pc o1 17) r7))))
 (.ite (.pick (ae (pc (pn (pc o1 17) r7) 0) (pi 1)) (.pick (.nt r4) pT (aj (pc (pn (pc o1 17) r7) 6) r5)) pF)
 (.next ⟨[(4,pT),(5,(pc (pn (pc o1 17) r7) 6)),(7,td)],[]⟩)
 (.next ⟨[(7,td)],[]⟩))))
 (.exit 4 ⟨[(67,r7),(68,pN),(69,(pc o1 17)),(70,(.llen (pc o1 17))),(71,(aj r7 (.llen (pc o1 17))))],[]⟩))
def Q0:PT:=
 (.iteS ⟨[(2,(pi 0))],[(1,(.mk [r0]))]⟩ (ae xJ (pi 0)) [2] []
 (.brk ⟨[(3,(pi 0))],[]⟩
(ayk b)
 (.ret (pi (-1))))
 (.next ⟨[],[]⟩)
 (.brk ⟨[(6,(pi 0)),(5,(pi 0)),(4,pF)],[]⟩
(ayl b)
 (.brk ⟨[(7,(pi 0))],[]⟩
(aym b)
 (.ite (.pick (aC (pc o1 5) (pi 1)) pT (.nt r4))
 (.ret (pi (-1)))
 (.ret r5)))))
def asT:PT×List (Shp×PT):=(Q0 b,[(.lp 0 [2,3,13,14,15,16,17] [] [2,3] [],IL b),(.lp 2 [4,5,6,33,34,35,36,37] [] [4,5,6] [],AK b),(.lp 4 [4,5,7,67,68,69,70,71] [] [4,5,7] [],vC b)])
def HB:BY.map told=some (asT (aU BY)):=by kernel_rfl
def aFc:tree (ab BY)=Q0 yX:=bk HB
def Zb:round 0 [2,3,13,14,15,16,17] [] [2,3] [] (yX 0)=IL yX:=aQ HB 0 λ_=>rfl
def IM:round 2 [4,5,6,33,34,35,36,37] [] [4,5,6] [] (yX 1)=AK yX:=aQ HB 1 λ_=>rfl
def AL:round 4 [4,5,7,67,68,69,70,71] [] [4,5,7] [] (yX 2)=vC yX:=aQ HB 2 λ_=>rfl
def LD:Option PC:=cF [8,9,11,12,13] [] Tryz.f90 90 [4,5,10]
def abM:PT:=
 (.call ⟨[],[(10,AF),(5,(.mk [r1])),(4,(.mk [r0]))]⟩ [] 17 141 [fU]
 (.call ⟨[(19,(aC dR (pi 0)))],[]⟩ [(19,false)] 23 142 [(ar 8 o4),(pc o5 9)]
 (.call ⟨[(26,(.pick gK pT (.nt fa)))],[]⟩ [(26,false)] 30 142 [(ar 8 o4),(pc o5 10)]
 (.call ⟨[(33,(.pick lU pT (.nt jC)))],[]⟩ [(33,false)] 36 143 [(pc o5 8)]
 (.ite (.pick py pT (.nt fM))
 (.ret (.tup [(pi 0),(pi 1)]))
 (.call ⟨[(60,(aC r2 (pi (-1)))),(57,alJ)],[]⟩ [(60,true),(57,false)] 62 143 [r2]
 (.ite (.pick (.pick (.pick vz pT (.pick rF (.nt jc) pF)) pT (aj r3 (pi 0))) pT (aS r3 (pi 20000)))
 (.ret (.tup [(pi 0),(pi 1)]))
 (.call ⟨[],[]⟩ [] 75 144 [(.mk [(pc bP 0),(pc bP 1),(pc bP 2)])]
 (.ite (.pick H6 (ae r2 (pi (-1))) pF)
 (.ret (.tup [(pi 0),(pi 4)]))
 (.iteS ⟨[],[]⟩ (ae (pc bP 0) (pi 4)) [8,9] []
 (.call ⟨[],[]⟩ [] 89 145 [(ar 8 o4),(pc o5 9),(pc o5 10)]
 (.ite (aC (.tget r89 1) (pi 0))
 (.ret (.tup [(pi 0),(pi 4)]))
 (.next ⟨[],[]⟩)))
 (.next ⟨[],[]⟩)
 (.call ⟨[],[]⟩ [] 97 146 [(ar 8 o4),(ar 15 o5),r2]
 (.ite (.pick (aj Yp (pi 0)) pT (aS (ay Yp r3) (pi 100000)))
 (.ret (.tup [(pi 0),(pi 3)]))
 (.call ⟨[],[]⟩ [] 112 147 [(ar 8 o4),(pc o5 10),(ay Yp r3)]
 (.ret (.tup [(.tget H4 0),(.tget H4 1)])))))))))))))))
def aj5:LD.map told=some (abM,[]):=by kernel_rfl
def aE2:tree (ab LD)=abM:=aD aj5
def Lv:Option PC:=cF [2,3] [] Tryz.f141 141 [1]
def abw:PT:=
 (.call ⟨[],[(1,(.mk [r0]))]⟩ [] 5 193 [fU]
 (.iteS ⟨[(3,r5)],[]⟩ (ae r5 (pi 0)) [3] []
 (.call ⟨[],[]⟩ [] 9 194 [(ar 8 o1)]
 (.next ⟨[(3,r9)],[]⟩))
 (.next ⟨[],[]⟩)
 (.iteS ⟨[],[]⟩ (ae r3 (pi 0)) [3] []
 (.call ⟨[],[]⟩ [] 13 195 [(ar 8 o1)]
 (.next ⟨[(3,cK)],[]⟩))
 (.next ⟨[],[]⟩)
 (.iteS ⟨[],[]⟩ (ae r3 (pi 0)) [3] []
 (.call ⟨[],[]⟩ [] 17 196 [(ar 8 o1)]
 (.next ⟨[(3,dR)],[]⟩))
 (.next ⟨[],[]⟩)
 (.iteS ⟨[],[]⟩ (ae r3 (pi 0)) [3] []
 (.call ⟨[],[]⟩ [] 21 197 [(ar 8 o1)]
 (.next ⟨[(3,fE)],[]⟩))
 (.next ⟨[],[]⟩)
 (.ret r3))))))
def ajY:Lv.map told=some (abw,[]):=by kernel_rfl
def aEK:tree (ab Lv)=abw:=aD ajY
def BO:Option PC:=cF [2,3,4,6,7] [] Tryz.f193 193 [1,5,44]
def Fb:Nat->PC:=aV BO
def ax2:PC:=.block 0 [2,3,12,13,14,15,16] [] (.loop [2,3] [] (b 0))
def ax3:PC:=.block 2 [2,5,6,30,31,32,33,34] [5] (.loop [2,5,6] [5] (b 1))
def Ix (b:Nat->PC):PT:=
 (.ite (aj r3 xL)
 (.blockS ⟨[],[]⟩ 1 [2,4,19,20,21,22,23,24] []
 (.call ⟨[],[]⟩ [] 22 229 [(pc o1 0),r3]
 (.ite (aC jB (pi 0))
 (.ret jB)
 (.next ⟨[],[]⟩)))
 (.next ⟨[(3,vi)],[]⟩))
 (.exit 0 ⟨[(12,r3),(13,pN),(14,(pc o1 0)),(15,xL),(16,(aj r3 xL))],[]⟩))
def Iy (b:Nat->PC):PT:=
 (.ite (aj r6 mB)
 (.blockS ⟨[],[]⟩ 3 [2,5,7,38,39,40,41,42,43,44,45,46,47,48,49,50,52,53,54,55,56,57,58,59] [44,5]
 (.chk (ao (pc o1 1) r6)
 (.chk (aY (.llen (.app o5 (.lst [(pc (pn (pc o1 1) r6) 0)]))) cJ)
 (.call ⟨[(5,pN)],[(5,(.app o5 (.lst [(pc (pn (pc o1 1) r6) 0)])))]⟩ [] 48 229 [(.app o5 (.lst [(pc (pn (pc o1 1) r6) 0)])),r6]
 (.ite (aC hZ (pi 0))
 (.ret hZ)
 (.chk (ao (pc o1 1) r6)
 (.call ⟨[],[]⟩ [] 58 230 [(ar 8 o1),(pn (pc o1 1) r6)]
 (.ite (.nt ny)
 (.ret (pi 1))
 (.next ⟨[],[]⟩))))))))
 (.next ⟨[(6,xM)],[]⟩))
 (.exit 2 ⟨[(30,r6),(31,pN),(32,(pc o1 1)),(33,mB),(34,(aj r6 mB))],[]⟩))
def abG:PT:=
 (.ite (aS (.llen fL) (pi 8))
 (.ret (pi 6))
 (.brk ⟨[(3,(pi 0)),(2,(pi 0))],[(1,(.mk [r0]))]⟩
(ax2 b)
 (.ite (aS mB (pi 40))
 (.ret (pi 6))
 (.brk ⟨[(6,(pi 0)),(5,pN)],[(5,pL)]⟩
(ax3 b)
 (.ret (pi 0))))))
def asJ:PT×List (Shp×PT):=(abG b,[(.lp 0 [2,3,12,13,14,15,16] [] [2,3] [],Ix b),(.lp 2 [2,5,6,30,31,32,33,34] [5] [2,5,6] [5],Iy b)])
def OH:BO.map told=some (asJ (aU BO)):=by kernel_rfl
def aEV:tree (ab BO)=abG Fb:=bk OH
def YO:round 0 [2,3,12,13,14,15,16] [] [2,3] [] (Fb 0)=Ix Fb:=aQ OH 0 λ_=>rfl
def YP:round 2 [2,5,6,30,31,32,33,34] [5] [2,5,6] [5] (Fb 1)=Iy Fb:=aQ OH 1 λ_=>rfl
def LA:Option PC:=cF [4] [] Tryz.f229 229 []
def abI:PT:=
 (.chk (ao r0 r1)
 (.call ⟨[],[]⟩ [] 9 255 [(pn r0 r1)]
 (.ite (.nt r9)
 (.ret (pi 2))
 (.chk (ao r0 r1)
 (.call ⟨[],[]⟩ [] 17 256 [r0,r1,(pn r0 r1)]
 (.ite dR
 (.ret (pi 5))
 (.ret (pi 0))))))))
def aj3:LA.map told=some (abI,[]):=by kernel_rfl
def aEX:tree (ab LA)=abI:=aD aj3
def BJ:Option PC:=cF [2,3,4] [] Tryz.f255 255 []
def Sw:Nat->PC:=aV BJ
def axW:PC:=.block 0 [2,3,13,14,15,16] [] (.loop [2,3] [] (b 0))
def Ir (b:Nat->PC):PT:=
 (.ite (aj r3 (.slen r0))
 (.blockS ⟨[],[]⟩ 1 [2,4,19,20,21,22,23,34,35,36,37,38,39,40,47] []
 (.chk (.sok r0 r3)
 (.chk (.nt (.an (.an (.nt (ae (.sidx r0 r3) (.con (.v (.int .u8 95))))) pT) (.nt (.sok r0 r3))))
 (.chk (.nt (.an (.an (aY (.con (.v (.int .u8 48))) (.sidx r0 r3)) (.an (.nt (ae (.sidx r0 r3) (.con (.v (.int .u8 95))))) pT)) (.nt (.sok r0 r3))))
 (.call ⟨[(4,(.pick (ae (.sidx r0 r3) (.con (.v (.int .u8 95)))) pT (.pick (aY (.con (.v (.int .u8 48))) (.sidx r0 r3)) (aY (.sidx r0 r3) (.con (.v (.int .u8 57)))) pF)))],[]⟩ [] 38 270 [(.sidx r0 r3)]
 (.ite (.pick (.nt jW) (.pick (ae r3 (pi 0)) pT (.nt r4)) pF)
 (.ret pF)
 (.next ⟨[],[]⟩))))))
 (.next ⟨[(3,vi)],[]⟩))
 (.exit 0 ⟨[(13,r3),(14,r0),(15,(.slen r0)),(16,(aj r3 (.slen r0)))],[]⟩))
def abz:PT:=
 (.ite (.pick (aj (.slen r0) (pi 1)) pT (aS (.slen r0) (pi 20)))
 (.ret pF)
 (.brk ⟨[(3,(pi 0)),(2,pF)],[]⟩
(axW b)
 (.ret pT)))
def asE:PT×List (Shp×PT):=(abz b,[(.lp 0 [2,3,13,14,15,16] [] [2,3] [],Ir b)])
def WA:BJ.map told=some (asE (aU BJ)):=by kernel_rfl
def aEO:tree (ab BJ)=abz Sw:=bk WA
def YI:round 0 [2,3,13,14,15,16] [] [2,3] [] (Sw 0)=Ir Sw:=aQ WA 0 λ_=>rfl
def Lx:Option PC:=cF [2] [] Tryz.f270 270 []
def aby:PT:=
 (.ret (.pick (.pick (aY (.con (.v (.int .u8 97))) r0) (aY r0 (.con (.v (.int .u8 122)))) pF) pT (.pick (aY (.con (.v (.int .u8 65))) r0) (aY r0 (.con (.v (.int .u8 90)))) pF)))
def aj0:Lx.map told=some (aby,[]):=by kernel_rfl
def aEN:tree (ab Lx)=aby:=aD aj0
def BH:Option PC:=cF [6,7] [] Tryz.f256 256 []
def Sv:Nat->PC:=aV BH
def axT:PC:=.block 0 [6,7,8,9,10,11,16] [] (.loop [6,7] [] (b 0))
def Ip (b:Nat->PC):PT:=
 (.ite (.pick (aj r7 r1) (aj r7 (.llen r0)) pF)
 (.chk (ao r0 r7)
 (.ite (.cs .eql (pn r0 r7) r2)
 (.ret pT)
 (.next ⟨[(7,td)],[]⟩)))
 (.exit 0 ⟨[(8,r7),(9,r1),(10,(aj r7 r1)),(11,(aj r7 r1)),(16,(.pick (aj r7 r1) (aj r7 (.llen r0)) pF))],[]⟩))
def abv:PT:=
 (.brk ⟨[(7,(pi 0)),(6,pF)],[]⟩
(axT b)
 (.ret pF))
def asC:PT×List (Shp×PT):=(abv b,[(.lp 0 [6,7,8,9,10,11,16] [] [6,7] [],Ip b)])
def Wz:BH.map told=some (asC (aU BH)):=by kernel_rfl
def aEJ:tree (ab BH)=abv Sv:=bk Wz
def YH:round 0 [6,7,8,9,10,11,16] [] [6,7] [] (Sv 0)=Ip Sv:=aQ Wz 0 λ_=>rfl
def BK:Option PC:=cF [4,5] [] Tryz.f230 230 [2,3]
def Sy:Nat->PC:=aV BK
def axX:PC:=.block 0 [4,5,36,37,38,39,40] [] (.loop [4,5] [] (b 0))
def Is (b:Nat->PC):PT:=
 (.ite (aj r5 (.llen (pc o3 4)))
 (.blockS ⟨[],[]⟩ 1 [4,43,44,45,46,47,48,49,50,51,60] []
 (.chk (ao (pc o3 4) r5)
 (.chk AA
 (.call ⟨[],[]⟩ [] 49 150 [(.ai .quo .i64 (pn (pc o3 4) r5) (pi 100)),(pi 1),(pi 12)]
 (.chk (.nt (.an (.an (.nt (.nt jD)) pT) (.nt (ao (pc o3 4) r5))))
 (.chk (.nt (.an (.an (.nt (.nt jD)) pT) (.nt AA)))
 (.call ⟨[(51,(.nt jD))],[]⟩ [(51,false)] 58 150 [(.ai .rem .i64 (pn (pc o3 4) r5) (pi 100)),(pi 1),(pi 31)]
 (.ite (.pick qt pT (.nt ny))
 (.ret pF)
 (.next ⟨[],[]⟩))))))))
 (.next ⟨[(5,px)],[]⟩))
 (.exit 0 ⟨[(36,r5),(37,pN),(38,(pc o3 4)),(39,(.llen (pc o3 4))),(40,(aj r5 (.llen (pc o3 4))))],[]⟩))
def abB:PT:=
 (.call ⟨[(4,pF)],[(3,(.mk [r1])),(2,(.mk [r0]))]⟩ [] 12 150 [xS,(pi 0),(aO (.llen xK) (pi 1))]
 (.call ⟨[(14,(.nt bK))],[]⟩ [(14,false)] 21 150 [(pc o3 2),(pi 0),(aO (.llen (pc o2 0)) (pi 1))]
 (.ite (.pick (.pick (.pick cn pT (.nt fE)) pT (aS (.llen (pc o3 4)) (pi 60))) pT (aS (.llen (pc o3 5)) (pi 200)))
 (.ret pF)
 (.brk ⟨[(5,(pi 0))],[]⟩
(axX b)
 (.call ⟨[],[]⟩ [] 63 257 [(pc o3 3),(pi 0),(pi 6)]
 (.call ⟨[(64,DY)],[]⟩ [(64,true)] 67 257 [(pc o3 4),(pi 0),(pi 2000)]
 (.call ⟨[(69,(.pick kX tu pF))],[]⟩ [(69,true)] 72 257 [(pc o3 5),(pi 0),(pi 100000)]
 (.ret (.pick tw AI pF)))))))))
def asF:PT×List (Shp×PT):=(abB b,[(.lp 0 [4,5,36,37,38,39,40] [] [4,5] [],Is b)])
def WB:BK.map told=some (asF (aU BK)):=by kernel_rfl
def aEQ:tree (ab BK)=abB Sy:=bk WB
def YJ:round 0 [4,5,36,37,38,39,40] [] [4,5] [] (Sy 0)=Is Sy:=aQ WB 0 λ_=>rfl
def BM:Option PC:=cF [6,7] [] Tryz.f257 257 []
def Sz:Nat->PC:=aV BM
def ax0:PC:=.block 0 [6,7,8,9,10,11] [] (.loop [6,7] [] (b 0))
def Iv (b:Nat->PC):PT:=
 (.ite (aj r7 (.llen r0))
 (.blockS ⟨[],[]⟩ 1 [6,14,15,16,17,18,19,20,21,22,23,24,35] []
 (.chk (ao r0 r7)
 (.call ⟨[],[]⟩ [] 20 150 [(pn r0 r7),r1,r2]
 (.ite (.nt dt)
 (.ret pF)
 (.chk (.nt (.an (.an (aS r7 (pi 0)) pT) (.nt (ao r0 (aO r7 (pi 1))))))
 (.chk (.nt (.an (.an (aS r7 (pi 0)) pT) (.nt (ao r0 r7))))
 (.ite (.pick (aS r7 (pi 0)) (aN (pn r0 (aO r7 (pi 1))) (pn r0 r7)) pF)
 (.ret pF)
 (.next ⟨[],[]⟩)))))))
 (.next ⟨[(7,td)],[]⟩))
 (.exit 0 ⟨[(8,r7),(9,r0),(10,(.llen r0)),(11,(aj r7 (.llen r0)))],[]⟩))
def abD:PT:=
 (.brk ⟨[(7,(pi 0)),(6,pF)],[]⟩
(ax0 b)
 (.ret pT))
def asH:PT×List (Shp×PT):=(abD b,[(.lp 0 [6,7,8,9,10,11] [] [6,7] [],Iv b)])
def WC:BM.map told=some (asH (aU BM)):=by kernel_rfl
def aES:tree (ab BM)=abD Sz:=bk WC
def YM:round 0 [6,7,8,9,10,11] [] [6,7] [] (Sz 0)=Iv Sz:=aQ WC 0 λ_=>rfl
def BP:Option PC:=cF [2,3,5,6] [] Tryz.f194 194 [1,4,44]
def Fc:Nat->PC:=aV BP
def ax4:PC:=.block 0 [2,3,11,12,13,14,15] [] (.loop [2,3] [] (b 0))
def ax5:PC:=.block 2 [2,4,5,30,31,32,33,34] [4] (.loop [2,4,5] [4] (b 1))
def Iz (b:Nat->PC):PT:=
 (.ite (aj r3 pq)
 (.blockS ⟨[],[]⟩ 1 [2,18,19,20,21,22,23,24,25] []
 (.chk (ao (pc o1 2) r3)
 (.call ⟨[],[]⟩ [] 24 150 [(pc (pn (pc o1 2) r3) 0),(pi 0),(pi 9)]
 (.ite (.nt mD)
 (.ret (pi 1))
 (.next ⟨[],[]⟩))))
 (.next ⟨[(3,vi)],[]⟩))
 (.exit 0 ⟨[(11,r3),(12,pN),(13,(pc o1 2)),(14,pq),(15,(aj r3 pq))],[]⟩))
def IA (b:Nat->PC):PT:=
 (.ite (aj r5 po)
 (.blockS ⟨[],[]⟩ 3 [2,4,6,38,39,40,41,42,43,44,45,46,47,48,49,50,52,53,54,55,56,57,58,59,60,61,62,63,64,77] [44,4]
 (.chk (ao (pc o1 3) r5)
 (.chk (aY (.llen (.app o4 (.lst [(pc (pn (pc o1 3) r5) 0)]))) cJ)
 (.call ⟨[(4,pN)],[(4,(.app o4 (.lst [(pc (pn (pc o1 3) r5) 0)])))]⟩ [] 48 229 [(.app o4 (.lst [(pc (pn (pc o1 3) r5) 0)])),r5]
 (.ite (aC hZ (pi 0))
 (.ret hZ)
 (.chk (ao (pc o1 3) r5)
 (.call ⟨[],[]⟩ [] 62 150 [(pc (pn (pc o1 3) r5) 1),(pi 0),(aO mB (pi 1))]
 (.chk (.nt (.an (.an (.nt (.nt jc)) pT) (.nt (ao (pc o1 3) r5))))
 (.call ⟨[(64,(.nt jc))],[]⟩ [(64,false)] 75 150 [(pc (pn (pc o1 3) r5) 2),(pi 0),(aO pq (pi 1))]
 (.ite (.pick kX pT (.nt H6))
 (.ret (pi 1))
 (.next ⟨[],[]⟩))))))))))
 (.next ⟨[(5,px)],[]⟩))
 (.exit 2 ⟨[(30,r5),(31,pN),(32,(pc o1 3)),(33,po),(34,(aj r5 po))],[]⟩))
def abH:PT:=
 (.ite (aS rz (pi 20))
 (.ret (pi 6))
 (.brk ⟨[(3,(pi 0)),(2,(pi 0))],[(1,(.mk [r0]))]⟩
(ax4 b)
 (.ite (aS po (pi 200))
 (.ret (pi 6))
 (.brk ⟨[(5,(pi 0)),(4,pN)],[(4,pL)]⟩
(ax5 b)
 (.ret (pi 0))))))
def asK:PT×List (Shp×PT):=(abH b,[(.lp 0 [2,3,11,12,13,14,15] [] [2,3] [],Iz b),(.lp 2 [2,4,5,30,31,32,33,34] [4] [2,4,5] [4],IA b)])
def OI:BP.map told=some (asK (aU BP)):=by kernel_rfl
def aEW:tree (ab BP)=abH Fc:=bk OI
def YQ:round 0 [2,3,11,12,13,14,15] [] [2,3] [] (Fc 0)=Iz Fc:=aQ OI 0 λ_=>rfl
def YR:round 2 [2,4,5,30,31,32,33,34] [4] [2,4,5] [4] (Fc 1)=IA Fc:=aQ OI 1 λ_=>rfl
def BQ:Option PC:=cF [2,4,5] [] Tryz.f195 195 [1,3,24]
def SB:Nat->PC:=aV BQ
def ax6:PC:=.block 0 [2,3,4,10,11,12,13,14] [3] (.loop [2,3,4] [3] (b 0))
def IB (b:Nat->PC):PT:=
 (.ite (aj r4 qp)
 (.blockS ⟨[],[]⟩ 1 [2,3,5,18,19,20,21,22,23,24,25,26,27,28,29,30,32,33,34,35,36,37,38] [24,3]
 (.chk (ao (pc o1 4) r4)
 (.chk (aY (.llen (.app o3 (.lst [(pc (pn (pc o1 4) r4) 0)]))) cJ)
 (.call ⟨[(3,pN)],[(3,(.app o3 (.lst [(pc (pn (pc o1 4) r4) 0)])))]⟩ [] 28 229 [(.app o3 (.lst [(pc (pn (pc o1 4) r4) 0)])),r4]
 (.ite (aC mE (pi 0))
 (.ret mE)
 (.chk (ao (pc o1 4) r4)
 (.call ⟨[],[]⟩ [] 37 231 [(pn (pc o1 4) r4)]
 (.ite (.nt kW)
 (.ret (pi 1))
 (.next ⟨[],[]⟩))))))))
 (.next ⟨[(4,(ay r4 (pi 1)))],[]⟩))
 (.exit 0 ⟨[(10,r4),(11,pN),(12,(pc o1 4)),(13,qp),(14,(aj r4 qp))],[]⟩))
def abJ:PT:=
 (.ite (aS (.llen xK) (pi 20))
 (.ret (pi 6))
 (.brk ⟨[(4,(pi 0)),(3,pN),(2,(pi 0))],[(3,pL),(1,(.mk [r0]))]⟩
(ax6 b)
 (.ret (pi 0))))
def asL:PT×List (Shp×PT):=(abJ b,[(.lp 0 [2,3,4,10,11,12,13,14] [3] [2,3,4] [3],IB b)])
def WE:BQ.map told=some (asL (aU BQ)):=by kernel_rfl
def aEY:tree (ab BQ)=abJ SB:=bk WE
def YS:round 0 [2,3,4,10,11,12,13,14] [3] [2,3,4] [3] (SB 0)=IB SB:=aQ WE 0 λ_=>rfl
def BL:Option PC:=cF [2,3,4] [] Tryz.f231 231 [1]
def Fa:Nat->PC:=aV BL
def axY:PC:=.block 0 [2,3,5,6,7,8,9] [] (.loop [2,3] [] (b 0))
def axZ:PC:=.block 2 [2,4,48,49,50,51,52] [] (.loop [2,4] [] (b 1))
def It (b:Nat->PC):PT:=
 (.ite (aj r3 pq)
 (.blockS ⟨[],[]⟩ 1 [2,12,13,14,15,16,17,18,19,20,29,30,31,32,47] []
 (.chk (ao (pc o1 2) r3)
 (.call ⟨[],[]⟩ [] 18 150 [(pc (pn (pc o1 2) r3) 0),(pi 0),(pi 21)]
 (.chk (.nt (.an (.an (.nt (.nt cR)) pT) (.nt (ao (pc o1 2) r3))))
 (.call ⟨[(20,(.nt cR))],[]⟩ [(20,false)] 27 150 [(pc (pn (pc o1 2) r3) 1),(pi 0),(pi 4)]
 (.ite (.pick dt pT (.nt eP))
 (.ret pF)
 (.chk (.nt (.an (.an (aS r3 (pi 0)) pT) (.nt (ao (pc o1 2) (aO r3 (pi 1))))))
 (.chk (.nt (.an (.an (aS r3 (pi 0)) pT) (.nt (ao (pc o1 2) r3))))
 (.ite (.pick (aS r3 (pi 0)) (aN (pc (pn (pc o1 2) (aO r3 (pi 1))) 0) (pc (pn (pc o1 2) r3) 0)) pF)
 (.ret pF)
 (.next ⟨[],[]⟩)))))))))
 (.next ⟨[(3,vi)],[]⟩))
 (.exit 0 ⟨[(5,r3),(6,pN),(7,(pc o1 2)),(8,pq),(9,(aj r3 pq))],[]⟩))
def Iu (b:Nat->PC):PT:=
 (.ite (aj r4 po)
 (.blockS ⟨[],[]⟩ 3 [2,55,56,57,58,59,60,61,62,63,64,65,80] []
 (.chk (ao (pc o1 3) r4)
 (.call ⟨[],[]⟩ [] 61 150 [(pc (pn (pc o1 3) r4) 0),(pi 0),(pi 21)]
 (.ite (.nt DX)
 (.ret pF)
 (.chk (.nt (.an (.an (aS r4 (pi 0)) pT) (.nt (ao (pc o1 3) (aO r4 (pi 1))))))
 (.chk (.nt (.an (.an (aS r4 (pi 0)) pT) (.nt (ao (pc o1 3) r4))))
 (.ite (.pick (aS r4 (pi 0)) (aN (pc (pn (pc o1 3) (aO r4 (pi 1))) 0) (pc (pn (pc o1 3) r4) 0)) pF)
 (.ret pF)
 (.next ⟨[],[]⟩)))))))
 (.next ⟨[(4,(ay r4 (pi 1)))],[]⟩))
 (.exit 2 ⟨[(48,r4),(49,pN),(50,(pc o1 3)),(51,po),(52,(aj r4 po))],[]⟩))
def abC:PT:=
 (.brk ⟨[(3,(pi 0)),(2,pF)],[(1,(.mk [r0]))]⟩
(axY b)
 (.brk ⟨[(4,(pi 0))],[]⟩
(axZ b)
 (.ret pT)))
def asG:PT×List (Shp×PT):=(abC b,[(.lp 0 [2,3,5,6,7,8,9] [] [2,3] [],It b),(.lp 2 [2,4,48,49,50,51,52] [] [2,4] [],Iu b)])
def OG:BL.map told=some (asG (aU BL)):=by kernel_rfl
def aER:tree (ab BL)=abC Fa:=bk OG
def YK:round 0 [2,3,5,6,7,8,9] [] [2,3] [] (Fa 0)=It Fa:=aQ OG 0 λ_=>rfl
def YL:round 2 [2,4,48,49,50,51,52] [] [2,4] [] (Fa 1)=Iu Fa:=aQ OG 1 λ_=>rfl
def BS:Option PC:=cF [2,3,5] [] Tryz.f196 196 [1,4]
def Ff:Nat->PC:=aV BS
def ax9:PC:=.block 2 [2,5,46,47,48] [] (.loop [2,5] [] (b 0))
def aya:PC:=.block 0 [2,3,10,11,12,13,14] [] (.loop [2,3] [] (b 1))
def D3 (b:Nat->PC):PT:=
 (.ite (aj r5 r3)
 (.chk (ao (pc o1 5) r5)
 (.chk (.nt (.an (.an (ae (pc (pn (pc o1 5) r5) 0) (pc o4 0)) pT) (.nt (ao (pc o1 5) r5))))
 (.ite (.pick (ae (pc (pn (pc o1 5) r5) 0) (pc o4 0)) (ae (pc (pn (pc o1 5) r5) 1) (pc o4 1)) pF)
 (.ret (pi 5))
 (.next ⟨[(5,px)],[]⟩))))
 (.exit 2 ⟨[(46,r5),(47,r3),(48,(aj r5 r3))],[]⟩))
def IE:PT:=
 (.ite (aj r3 (.llen (pc o1 5)))
 (.blockS ⟨[(14,(aj r3 (.llen (pc o1 5)))),(13,(.llen (pc o1 5))),(12,(pc o1 5)),(11,pN),(10,r3)],[]⟩ 1 [2,4,5,17,18,19,20,21,22,23,24,25,26,27,28,29,30,39,40,45,46,47,48] [4]
 (.chk (ao (pc o1 5) r3)
 (.call ⟨[],[(4,(.setc z3 0 (pn (pc o1 5) r3)))]⟩ [] 28 150 [(pc (.setc z3 0 (pn (pc o1 5) r3)) 0),(pi 0),(aO mB (pi 1))]
 (.call ⟨[(30,(.nt mE))],[]⟩ [(30,false)] 37 150 [(pc o4 1),(pi 0),(aO mB (pi 1))]
 (.call ⟨[(40,(.pick jC pT (.nt kW)))],[]⟩ [(40,false)] 43 150 [(pc o4 2),(pi 1),(pi 20000)]
 (.ite (.pick nv pT (.nt rC))
 (.ret (pi 1))
 (.brk ⟨[(5,(pi 0))],[]⟩
(ax9 b)
 (.next ⟨[],[]⟩)))))))
 (.next ⟨[(3,vi)],[]⟩))
 (.exit 0 ⟨[(10,r3),(11,pN),(12,(pc o1 5)),(13,(.llen (pc o1 5))),(14,(aj r3 (.llen (pc o1 5))))],[]⟩))
def abL:PT:=
 (.ite (aS (.llen xJ) (pi 100))
 (.ret (pi 6))
 (.brk ⟨[(3,(pi 0)),(2,(pi 0))],[(1,(.mk [r0]))]⟩
(aya b)
 (.ret (pi 0))))
def asN:PT×List (Shp×PT):=(abL b,[(.lp 2 [2,5,46,47,48] [] [2,5] [],D3 b),(.lp 0 [2,3,10,11,12,13,14] [] [2,3] [],IE b)])
def OL:BS.map told=some (asN (aU BS)):=by kernel_rfl
def aE0:tree (ab BS)=abL Ff:=bk OL
def P4:round 2 [2,5,46,47,48] [] [2,5] [] (Ff 0)=D3 Ff:=aQ OL 0 λ_=>rfl
def YV:round 0 [2,3,10,11,12,13,14] [] [2,3] [] (Ff 1)=IE Ff:=aQ OL 1 λ_=>rfl
def BR:Option PC:=cF [2,3,5] [] Tryz.f197 197 [1,4,6]
def Fe:Nat->PC:=aV BR
def ax7:PC:=.block 0 [2,3,11,12,13,14,15] [] (.loop [2,3] [] (b 0))
def ax8:PC:=.block 2 [2,5,68,69,70,71,72] [] (.loop [2,5] [] (b 1))
def IC (b:Nat->PC):PT:=
 (.ite (aj r3 (.llen (pc o1 6)))
 (.blockS ⟨[],[]⟩ 1 [2,4,18,19,20,21,22,23,24,25,26,27,28,29,30,31,40,41,47,48,49,50,51,52,57,58,63] [4]
 (.chk (ao (pc o1 6) r3)
 (.call ⟨[],[(4,(.setc z5 0 (pn (pc o1 6) r3)))]⟩ [] 29 150 [(pc (.setc z5 0 (pn (pc o1 6) r3)) 0),(pi 0),(aO xL (pi 1))]
 (.call ⟨[(31,(.nt lV))],[]⟩ [(31,false)] 38 150 [(pc o4 1),(pi 0),(aO xL (pi 1))]
 (.ite (.pick (.pick g9 pT (.nt jW)) pT (ae (pc o4 0) (pc o4 1)))
 (.ret (pi 1))
 (.call ⟨[],[]⟩ [] 50 150 [(pc o4 2),(pi 1),lT]
 (.call ⟨[(52,(.nt nw))],[]⟩ [(52,false)] 55 150 [(pc o4 3),(pi 1),lT]
 (.call ⟨[(58,(.pick vw pT (.nt tp)))],[]⟩ [(58,false)] 61 150 [(pc o4 4),(pi 0),(pi 100000)]
 (.ite (.pick ny pT (.nt DX))
 (.ret (pi 1))
 (.next ⟨[],[]⟩)))))))))
 (.next ⟨[(3,vi)],[]⟩))
 (.exit 0 ⟨[(11,r3),(12,pN),(13,(pc o1 6)),(14,(.llen (pc o1 6))),(15,(aj r3 (.llen (pc o1 6))))],[]⟩))
def ID (b:Nat->PC):PT:=
 (.ite (aj r5 (.llen (pc o1 7)))
 (.blockS ⟨[],[]⟩ 3 [2,6,75,76,77,78,79,80,81,82,83,84,85,86,87,88,95,96,100] [6]
 (.chk (ao (pc o1 7) r5)
 (.call ⟨[],[(6,(.setc z3 0 (pn (pc o1 7) r5)))]⟩ [] 86 150 [(pc (.setc z3 0 (pn (pc o1 7) r5)) 0),(pi 0),(aO qp (pi 1))]
 (.call ⟨[(88,(.nt Yn))],[]⟩ [(88,false)] 93 150 [(pc o6 1),(pi 0),(pc o6 2)]
 (.ite (.pick (.pick rH pT (.nt PF)) pT (aS (pc o6 2) (pi 100000)))
 (.ret (pi 1))
 (.next ⟨[],[]⟩)))))
 (.next ⟨[(5,px)],[]⟩))
 (.exit 2 ⟨[(68,r5),(69,pN),(70,(pc o1 7)),(71,(.llen (pc o1 7))),(72,(aj r5 (.llen (pc o1 7))))],[]⟩))
def abK:PT:=
 (.ite (aS (.llen (pc (.mk [r0]) 6)) (pi 100))
 (.ret (pi 6))
 (.brk ⟨[(3,(pi 0)),(2,(pi 0))],[(1,(.mk [r0]))]⟩
(ax7 b)
 (.ite (aS (.llen (pc o1 7)) (pi 20))
 (.ret (pi 6))
 (.brk ⟨[(5,(pi 0))],[]⟩
(ax8 b)
 (.ret (pi 0))))))
def asM:PT×List (Shp×PT):=(abK b,[(.lp 0 [2,3,11,12,13,14,15] [] [2,3] [],IC b),(.lp 2 [2,5,68,69,70,71,72] [] [2,5] [],ID b)])
def OJ:BR.map told=some (asM (aU BR)):=by kernel_rfl
def aEZ:tree (ab BR)=abK Fe:=bk OJ
def YT:round 0 [2,3,11,12,13,14,15] [] [2,3] [] (Fe 0)=IC Fe:=aQ OJ 0 λ_=>rfl
def YU:round 2 [2,5,68,69,70,71,72] [] [2,5] [] (Fe 1)=ID Fe:=aQ OJ 1 λ_=>rfl
def LG:Option PC:=cF [4] [] Tryz.f142 142 [2]
def abO:PT:=
 (.ret (.pick (aN r1 (pi 0)) (aj r1 (.llen gJ)) pF))
def aj7:LG.map told=some (abO,[]):=by kernel_rfl
def aE4:tree (ab LG)=abO:=aD aj7
def Lp:Option PC:=cF [2] [] Tryz.f143 143 []
def abm:PT:=
 (.ret (.pick vj (aY r0 (pi 100000)) pF))
def ajS:Lp.map told=some (abm,[]):=by kernel_rfl
def aEB:tree (ab Lp)=abm:=aD ajS
def LF:Option PC:=cF [2] [] Tryz.f144 144 [1]
def abN:PT:=
 (.ret (.pick (ae fL (pi 0)) pT (ae fL (pi 1))))
def aj6:LF.map told=some (abN,[]):=by kernel_rfl
def aE3:tree (ab LF)=abN:=aD aj6
def BN:Option PC:=cF [6,7,8] [] Tryz.f145 145 [3]
def SA:Nat->PC:=aV BN
def ax1:PC:=.block 0 [6,7,8,9,10,11,12,13] [] (.loop [6,7,8] [] (b 0))
def Iw (b:Nat->PC):PT:=
 (.ite (aj r8 (.llen (pc o3 5)))
 (.chk (ao (pc o3 5) r8)
 (.chk (.nt (.an (.an (ae (pc (pn (pc o3 5) r8) 0) r1) pT) (.nt (ao (pc o3 5) r8))))
 (.ite (.pick (ae (pc (pn (pc o3 5) r8) 0) r1) (ae (pc (pn (pc o3 5) r8) 1) r2) pF)
 (.ret (.tup [(pc (pn (pc o3 5) r8) 2),(pi 0)]))
 (.next ⟨[(8,pv)],[]⟩))))
 (.exit 0 ⟨[(9,r8),(10,pN),(11,(pc o3 5)),(12,(.llen (pc o3 5))),(13,(aj r8 (.llen (pc o3 5))))],[]⟩))
def abE:PT:=
 (.brk ⟨[(8,(pi 0)),(7,(pi 0)),(6,(pi 0))],[(3,(.mk [r0]))]⟩
(ax1 b)
 (.ret (.tup [(pi 0),(pi 4)])))
def asI:PT×List (Shp×PT):=(abE b,[(.lp 0 [6,7,8,9,10,11,12,13] [] [6,7,8] [],Iw b)])
def WD:BN.map told=some (asI (aU BN)):=by kernel_rfl
def aET:tree (ab BN)=abE SA:=bk WD
def YN:round 0 [6,7,8,9,10,11,12,13] [] [6,7,8] [] (SA 0)=Iw SA:=aQ WD 0 λ_=>rfl
def LB:Option PC:=cF [6,8,9] [] Tryz.f146 146 [3,4,7]
def vH:PT:=
 (.iteS ⟨[(8,(.pick (ae (pc AF 0) (pi 3)) (pc AF 1) (.pick (ae (pc AF 0) (pi 0)) r2 (pi 0)))),(9,(pi 0))],[(7,AF),(4,(.mk [r1])),(3,(.mk [r0]))]⟩ (ae (pc AF 0) (pi 4)) [8,9] []
 (.call ⟨[],[]⟩ [] 30 145 [(ar 8 o3),(pc o4 9),(pc o4 10)]
 (.next ⟨[(8,(ay (.tget jC 0) (pc o4 8))),(9,(.tget jC 1))],[]⟩))
 (.next ⟨[],[]⟩)
 (.iteS ⟨[],[]⟩ (.pick (ae (pc o7 0) (pi 1)) pT (ae (pc o7 0) (pi 2))) [6,8,9] []
 (.ite (.pick (aj (pc o7 1) (pi 0)) pT (aS (pc o7 1) (pi 20000)))
 (.ret (pi (-1)))
 (.iteS ⟨[(8,(.pick (ae (pc o7 0) (pi 1)) r2 (pc o4 8)))],[]⟩ (ae (pc o7 2) (pi 1)) [8,9] []
 (.call ⟨[],[]⟩ [] 66 198 [r8,(pc o7 1)]
 (.next ⟨[(9,(.tget PB 1)),(8,(.tget PB 0))],[]⟩))
 (.next ⟨[(8,(ay r8 (pc o7 1)))],[]⟩)
 (.next ⟨[],[]⟩)))
 (.next ⟨[],[]⟩)
 (.call ⟨[(75,(aC r9 (pi 0)))],[]⟩ [(75,false)] 77 143 [r8]
 (.ite (.pick H6 pT (.nt Ym))
 (.ret (pi (-1)))
 (.ret r8)))))
def aj4:LB.map told=some (vH,[]):=by kernel_rfl
def aE1:tree (ab LB)=vH:=aD aj4
def Lm:Option PC:=cF [4,5,6,7,8,9,10,11,12,13,14] [] Tryz.f198 198 []
def abh:PT:=
 (.call ⟨[],[]⟩ [] 17 232 [r0]
 (.ite (.pick (.pick (aC (.tget dR 3) (pi 0)) pT (aj r1 (pi (-5000)))) pT (aS r1 (pi 5000)))
 (.ret (.tup [(pi 0),(pi 3)]))
 (.ite (aj HT (pi 24000))
 (.ret (.tup [(pi 0),(pi 3)]))
 (.chk (aC (pi 12) (pi 0))
 (.call ⟨[(49,(.tget dR 2)),(48,(ay (.ai .rem .i64 HT (pi 12)) (pi 1))),(47,(.ai .quo .i64 HT (pi 12)))],[]⟩ [] 52 234 [(.ai .quo .i64 HT (pi 12)),(ay (.ai .rem .i64 HT (pi 12)) (pi 1))]
 (.call ⟨[],[]⟩ [] 54 233 [PA,hZ,(.mn jD vw)]
 (.ret (.tup [(.tget rE 0),(.tget rE 1)]))))))))
def ajP:Lm.map told=some (abh,[]):=by kernel_rfl
def aEv:tree (ab Lm)=abh:=aD ajP
def BC:Option PC:=cF [2,3,4,5,6,7,8] [] Tryz.f232 232 []
def E7:Nat->PC:=aV BC
def axM:PC:=.block 0 [6,7,13,14,15,16] [] (.loop [6,7] [] (b 0))
def axN:PC:=.block 2 [7,8,23,24,25,26,27] [] (.loop [7,8] [] (b 1))
def PY (b:Nat->PC):PT:=
 (.call ⟨[(14,r6),(13,r7)],[]⟩ [] 15 258 [r6]
 (.ite (aN cK bZ)
 (.blockS ⟨[],[]⟩ 1 [6,7,17,18,19,20,21,22] []
 (.call ⟨[(17,r7)],[]⟩ [] 19 258 [r6]
 (.next ⟨[(6,xM),(7,(aO dR gK))],[]⟩))
 (.next ⟨[],[]⟩))
 (.exit 0 ⟨[(16,(aN cK bZ))],[]⟩)))
def PZ (b:Nat->PC):PT:=
 (.call ⟨[(25,r8),(24,r6),(23,r7)],[]⟩ [] 26 234 [r6,r8]
 (.ite (aN fa lU)
 (.blockS ⟨[],[]⟩ 3 [7,8,28,29,30,31,32,33,34] []
 (.call ⟨[(28,r7)],[]⟩ [] 31 234 [r6,r8]
 (.next ⟨[(8,pv),(7,(aO mE g9))],[]⟩))
 (.next ⟨[],[]⟩))
 (.exit 2 ⟨[(27,(aN fa lU))],[]⟩)))
def abi:PT:=
 (.call ⟨[],[]⟩ [] 10 143 [r0]
 (.ite (.nt aZ)
 (.ret (.tup [(pi 0),(pi 0),(pi 0),(pi 3)]))
 (.brk ⟨[(7,r0),(6,(pi 2000))],[]⟩
(axM b)
 (.brk ⟨[(8,(pi 1))],[]⟩
(axN b)
 (.ret (.tup [r6,r8,td,(pi 0)]))))))
def asx:PT×List (Shp×PT):=(abi b,[(.lp 0 [6,7,13,14,15,16] [] [6,7] [],PY b),(.lp 2 [7,8,23,24,25,26,27] [] [7,8] [],PZ b)])
def OD:BC.map told=some (asx (aU BC)):=by kernel_rfl
def aEw:tree (ab BC)=abi E7:=bk OD
def amS:round 0 [6,7,13,14,15,16] [] [6,7] [] (E7 0)=PY E7:=aQ OD 0 λ_=>rfl
def amT:round 2 [7,8,23,24,25,26,27] [] [7,8] [] (E7 1)=PZ E7:=aQ OD 1 λ_=>rfl
def Lq:Option PC:=cF [2] [] Tryz.f258 258 []
def abn:PT:=
 (.call ⟨[],[]⟩ [] 4 259 [r0]
 (.ite r4
 (.ret (pi 366))
 (.ret (pi 365))))
def ajT:Lq.map told=some (abn,[]):=by kernel_rfl
def aEC:tree (ab Lq)=abn:=aD ajT
def Lr:Option PC:=cF [2] [] Tryz.f259 259 []
def abp:PT:=
 (.chk (aC (pi 4) (pi 0))
 (.chk (.nt (.an (.an (ae (.ai .rem .i64 r0 (pi 4)) (pi 0)) pT) (.nt AA)))
 (.chk (.nt (.an (.an (.nt (aC (.ai .rem .i64 r0 (pi 100)) (pi 0))) (.an (ae (.ai .rem .i64 r0 (pi 4)) (pi 0)) pT)) (.nt (aC (pi 400) (pi 0)))))
 (.ret (.pick (ae (.ai .rem .i64 r0 (pi 4)) (pi 0)) (.pick (aC (.ai .rem .i64 r0 (pi 100)) (pi 0)) pT (ae (.ai .rem .i64 r0 (pi 400)) (pi 0))) pF)))))
def ajU:Lr.map told=some (abp,[]):=by kernel_rfl
def aEE:tree (ab Lr)=abp:=aD ajU
def Ln:Option PC:=cF [4] [] Tryz.f234 234 []
def QX:PT:=
 (.call ⟨[(7,(ae r1 (pi 2)))],[]⟩ [(7,true)] 9 259 [r0]
 (.ite (.pick r7 r9 pF)
 (.ret (pi 29))
 (.ite (ae r1 (pi 2))
 (.ret (pi 28))
 (.ite (.pick (.pick (.pick (ae r1 (pi 4)) pT (ae r1 (pi 6))) pT (ae r1 (pi 9))) pT (ae r1 (pi 11)))
 (.ret (pi 30))
 (.ret (pi 31))))))
def ajQ:Ln.map told=some (QX,[]):=by kernel_rfl
def aEy:tree (ab Ln)=QX:=aD ajQ
def BD:Option PC:=cF [6,7,8,9,10] [] Tryz.f233 233 []
def E8:Nat->PC:=aV BD
def axO:PC:=.block 0 [8,9,38,39,40] [] (.loop [8,9] [] (b 0))
def axP:PC:=.block 2 [8,10,47,48,49] [] (.loop [8,10] [] (b 1))
def P0 (b:Nat->PC):PT:=
 (.ite (aj r9 r0)
 (.blockS ⟨[],[]⟩ 1 [8,43,44,45,46] []
 (.call ⟨[(43,r8)],[]⟩ [] 45 258 [r9]
 (.next ⟨[(8,(ay rC mG))],[]⟩))
 (.next ⟨[(9,(ay r9 (pi 1)))],[]⟩))
 (.exit 0 ⟨[(38,r9),(39,r0),(40,(aj r9 r0))],[]⟩))
def P1 (b:Nat->PC):PT:=
 (.ite (aj aZ r1)
 (.blockS ⟨[],[]⟩ 3 [8,52,53,54,55,56] []
 (.call ⟨[(52,r8)],[]⟩ [] 55 234 [r0,aZ]
 (.next ⟨[(8,(ay vw tp))],[]⟩))
 (.next ⟨[(10,(ay aZ (pi 1)))],[]⟩))
 (.exit 2 ⟨[(47,aZ),(48,r1),(49,(aj aZ r1))],[]⟩))
def abj:PT:=
 (.call ⟨[(30,r2),(29,al2)],[]⟩ [(29,false)] 33 234 [r0,r1]
 (.ite (.pick lV pT (aS jC py))
 (.ret (.tup [(pi 0),(pi 3)]))
 (.brk ⟨[(9,(pi 2000)),(8,(aO r2 (pi 1)))],[]⟩
(axO b)
 (.brk ⟨[(10,(pi 1))],[]⟩
(axP b)
 (.call ⟨[],[]⟩ [] 58 143 [r8]
 (.ite (.nt ny)
 (.ret (.tup [(pi 0),(pi 3)]))
 (.ret (.tup [r8,(pi 0)]))))))))
def asy:PT×List (Shp×PT):=(abj b,[(.lp 0 [8,9,38,39,40] [] [8,9] [],P0 b),(.lp 2 [8,10,47,48,49] [] [8,10] [],P1 b)])
def OE:BD.map told=some (asy (aU BD)):=by kernel_rfl
def aEx:tree (ab BD)=abj E8:=bk OE
def amU:round 0 [8,9,38,39,40] [] [8,9] [] (E8 0)=P0 E8:=aQ OE 0 λ_=>rfl
def amV:round 2 [8,10,47,48,49] [] [8,10] [] (E8 1)=P1 E8:=aQ OE 1 λ_=>rfl
def BT:Option PC:=cF [6,7,8,9,10,11,12,2] [] Tryz.f147 147 [3]
def Fg:Nat->PC:=aV BT
def ayb:PC:=.block 2 [9,10,19,20,21,22,23] [] (.loop [9,10] [] (b 0))
def ayc:PC:=.block 0 [2,6,7,16,17] [] (.loop [2,6,7] [] (b 1))
def D4 (b:Nat->PC):PT:=
 (.ite (aj aZ (.llen (pc o3 7)))
 (.chk (ao (pc o3 7) aZ)
 (.chk (.nt (.an (.an (ae (pc AB 0) r8) pT) (.nt (ao (pc o3 7) aZ))))
 (.chk (.nt (.an (.an (.pick (ae (pc AB 0) r8) (aY (pc AB 1) r2) pF) pT) (.nt (ao (pc o3 7) aZ))))
 (.ite (.pick (.pick (ae (pc AB 0) r8) (aY (pc AB 1) r2) pF) (aY r2 (pc AB 2)) pF)
 (.next ⟨[(9,(.mx r9 (ay (pc AB 2) (pi 1)))),(10,(ay aZ (pi 1)))],[]⟩)
 (.next ⟨[(10,(ay aZ (pi 1)))],[]⟩)))))
 (.exit 2 ⟨[(19,aZ),(20,pN),(21,(pc o3 7)),(22,(.llen (pc o3 7))),(23,(aj aZ (.llen (pc o3 7))))],[]⟩))
def P6:PT:=
 (.ite (aY r2 (pi 100000))
 (.blockS ⟨[(17,(aY r2 (pi 100000))),(16,r2)],[]⟩ 1 [2,6,7,9,10,18,19,20,21,22,23,63,64,65,80,81,82,84] []
 (.brk ⟨[(10,(pi 0)),(9,r2)],[]⟩
(ayb b)
 (.iteS ⟨[],[]⟩ (ae r9 r2) [6,7,9] []
 (.chk (ao (pc o3 1) r1)
 (.call ⟨[],[]⟩ [] 73 199 [(pn (pc o3 1) r1),r2]
 (.ite (aC (.tget rG 1) (pi 0))
 (.ret (.tup [(pi 0),(.tget rG 1)]))
 (.next ⟨[(9,(.tget rG 0))],[]⟩))))
 (.next ⟨[],[]⟩)
 (.ite (ae r9 r2)
 (.ret (.tup [r2,(pi 0)]))
 (.next ⟨[(2,r9)],[]⟩))))
 (.next ⟨[],[]⟩))
 (.exit 0 ⟨[(16,r2),(17,(aY r2 (pi 100000)))],[]⟩))
def abP:PT:=
 (.call ⟨[(7,(pi 0)),(6,(pi 0))],[(3,(.mk [r0]))]⟩ [] 15 148 [fU,r1]
 (.brk ⟨[(8,bZ)],[]⟩
(ayc b)
 (.ret (.tup [(pi 0),(pi 3)]))))
def asO:PT×List (Shp×PT):=(abP b,[(.lp 2 [9,10,19,20,21,22,23] [] [9,10] [],D4 b),(.lp 0 [2,6,7,16,17] [] [2,6,7] [],P6 b)])
def OM:BT.map told=some (asO (aU BT)):=by kernel_rfl
def aE5:tree (ab BT)=abP Fg:=bk OM
def P5:round 2 [9,10,19,20,21,22,23] [] [9,10] [] (Fg 0)=D4 Fg:=aQ OM 0 λ_=>rfl
def amX:round 0 [2,6,7,16,17] [] [2,6,7] [] (Fg 1)=P6 Fg:=aQ OM 1 λ_=>rfl
def BE:Option PC:=cF [4,5,6,7,8] [] Tryz.f199 199 [2]
def Sr:Nat->PC:=aV BE
def axQ:PC:=.block 0 [4,5,6,12,13] [] (.loop [4,5,6] [] (b 0))
def Il (b:Nat->PC):PT:=
 (.ite (aY r6 (pi 400))
 (.blockS ⟨[],[]⟩ 1 [4,5,7,8,16,17,18,19,20,21,22,23,24] []
 (.call ⟨[],[]⟩ [] 21 235 [(ar 6 o2),(ay r1 r6)]
 (.ite (.tget fE 0)
 (.ret (.tup [(ay r1 r6),(pi 0)]))
 (.next ⟨[],[]⟩)))
 (.next ⟨[(6,xM)],[]⟩))
 (.exit 0 ⟨[(12,r6),(13,(aY r6 (pi 400)))],[]⟩))
def abk:PT:=
 (.call ⟨[(5,(pi 0)),(4,(pi 0))],[(2,(.mk [r0]))]⟩ [] 10 143 [r1]
 (.ite (.nt aZ)
 (.ret (.tup [(pi 0),(pi 3)]))
 (.brk ⟨[(6,(pi 0))],[]⟩
(axQ b)
 (.ret (.tup [(pi 0),(pi 3)])))))
def asz:PT×List (Shp×PT):=(abk b,[(.lp 0 [4,5,6,12,13] [] [4,5,6] [],Il b)])
def Ww:BE.map told=some (asz (aU BE)):=by kernel_rfl
def aEz:tree (ab BE)=abk Sr:=bk Ww
def YE:round 0 [4,5,6,12,13] [] [4,5,6] [] (Sr 0)=Il Sr:=aQ Ww 0 λ_=>rfl
def Lo:Option PC:=cF [4,5,6,7,8,9] [] Tryz.f235 235 [2]
def abl:PT:=
 (.call ⟨[],[(2,(.mk [r0]))]⟩ [] 12 232 [r1]
 (.ite (aC (.tget bK 3) (pi 0))
 (.ret (.tup [pF,(.tget bK 3)]))
 (.chk (aC (pi 7) (pi 0))
 (.call ⟨[(8,(.tget bK 2)),(7,(.tget bK 1))],[]⟩ [] 25 260 [(pc o2 3),(.ai .rem .i64 (ay r1 (pi 5)) (pi 7))]
 (.call ⟨[(27,(.nt dZ))],[]⟩ [(27,true)] 34 260 [(pc o2 4),(ay (.ai .mul .i64 (pi 100) r7) r8)]
 (.call ⟨[(37,(.pick eP (.nt qs) pF))],[]⟩ [(37,true)] 41 260 [(pc o2 5),r1]
 (.ret (.tup [(.pick kW (.nt mF) pF),(pi 0)]))))))))
def ajR:Lo.map told=some (abl,[]):=by kernel_rfl
def aEA:tree (ab Lo)=abl:=aD ajR
def BF:Option PC:=cF [4,5] [] Tryz.f260 260 []
def Ss:Nat->PC:=aV BF
def axR:PC:=.block 0 [4,5,6,7,8,9] [] (.loop [4,5] [] (b 0))
def Io (b:Nat->PC):PT:=
 (.ite (aj r5 (.llen r0))
 (.chk (ao r0 r5)
 (.ite (ae (pn r0 r5) r1)
 (.ret pT)
 (.next ⟨[(5,px)],[]⟩)))
 (.exit 0 ⟨[(6,r5),(7,r0),(8,(.llen r0)),(9,(aj r5 (.llen r0)))],[]⟩))
def abo:PT:=
 (.brk ⟨[(5,(pi 0)),(4,pF)],[]⟩
(axR b)
 (.ret pF))
def asA:PT×List (Shp×PT):=(abo b,[(.lp 0 [4,5,6,7,8,9] [] [4,5] [],Io b)])
def Wx:BF.map told=some (asA (aU BF)):=by kernel_rfl
def aED:tree (ab BF)=abo Ss:=bk Wx
def YG:round 0 [4,5,6,7,8,9] [] [4,5] [] (Ss 0)=Io Ss:=aQ Wx 0 λ_=>rfl
def L6:Option PC:=cF [4] [] Tryz.f136 136 []
def JE:PT:=
 (.ite (.pick (ae r0 (pi 0)) pT (ae r1 (pi 0)))
 (.ret (pi 0))
 (.ite (.pick (ae r0 (pi 1)) (ae r1 (pi 1)) pF)
 (.ret (pi 1))
 (.ret (pi 2))))
def akv:L6.map told=some (JE,[]):=by kernel_rfl
def aFH:tree (ab L6)=JE:=aD akv
def BV:Option PC:=cF [6,7] [] Tryz.f138 138 [3]
def SD:Nat->PC:=aV BV
def aye:PC:=.block 0 [6,7,17,18,19,20,21] [] (.loop [6,7] [] (b 0))
def IG (b:Nat->PC):PT:=
 (.ite (aj r7 (.llen (pc o3 17)))
 (.chk (ao (pc o3 17) r7)
 (.chk (.nt (.an (.an (ae (pc (pn (pc o3 17) r7) 0) (pi 7)) pT) (.nt (ao (pc o3 17) r7))))
 (.chk (.nt (.an (.an (.pick (ae (pc (pn (pc o3 17) r7) 0) (pi 7)) (ae (pc (pn (pc o3 17) r7) 4) r1) pF) pT) (.nt (ao (pc o3 17) r7))))
 (.ite (.pick (.pick (ae (pc (pn (pc o3 17) r7) 0) (pi 7)) (ae (pc (pn (pc o3 17) r7) 4) r1) pF) (aY (pc (pn (pc o3 17) r7) 6) r2) pF)
 (.ret pT)
 (.next ⟨[(7,td)],[]⟩)))))
 (.exit 0 ⟨[(17,r7),(18,pN),(19,(pc o3 17)),(20,(.llen (pc o3 17))),(21,(aj r7 (.llen (pc o3 17))))],[]⟩))
def QZ:PT:=
 (.ite (.pick (aj r1 (pi 0)) pT (aN r1 (.llen pk)))
 (.ret pF)
 (.brk ⟨[(7,(pi 0)),(6,pF)],[(3,(.mk [r0]))]⟩
(aye b)
 (.ret pF)))
def asQ:PT×List (Shp×PT):=(QZ b,[(.lp 0 [6,7,17,18,19,20,21] [] [6,7] [],IG b)])
def WH:BV.map told=some (asQ (aU BV)):=by kernel_rfl
def aE8:tree (ab BV)=QZ SD:=bk WH
def YX:round 0 [6,7,17,18,19,20,21] [] [6,7] [] (SD 0)=IG SD:=aQ WH 0 λ_=>rfl
def BU:Option PC:=cF [4,5] [] Tryz.f139 139 [2]
def SC:Nat->PC:=aV BU
def ayd:PC:=.block 0 [4,5,10,11] [] (.loop [4,5] [] (b 0))
def IF (b:Nat->PC):PT:=
 (.ite (aN r5 (pi 0))
 (.chk (ao (pc o2 16) r5)
 (.ite (aY (pc (pn (pc o2 16) r5) 0) r1)
 (.ret (pc (pn (pc o2 16) r5) 1))
 (.next ⟨[(5,(aO r5 (pi 1)))],[]⟩)))
 (.exit 0 ⟨[(10,r5),(11,(aN r5 (pi 0)))],[]⟩))
def abR:PT:=
 (.brk ⟨[(5,(aO (.llen (pc (.mk [r0]) 16)) (pi 1))),(4,(pi 0))],[(2,(.mk [r0]))]⟩
(ayd b)
 (.ret (pc o2 3)))
def asP:PT×List (Shp×PT):=(abR b,[(.lp 0 [4,5,10,11] [] [4,5] [],IF b)])
def WG:BU.map told=some (asP (aU BU)):=by kernel_rfl
def aE7:tree (ab BU)=abR SC:=bk WG
def YW:round 0 [4,5,10,11] [] [4,5] [] (SC 0)=IF SC:=aQ WG 0 λ_=>rfl
def B9:Option PC:=cF [4,5] [] Tryz.f140 140 [2]
def SR:Nat->PC:=aV B9
def ayw:PC:=.block 0 [4,5,6,7,8,9,10] [] (.loop [4,5] [] (b 0))
def IW (b:Nat->PC):PT:=
 (.ite (aj r5 AE)
 (.chk (ao (pc o2 16) r5)
 (.ite (aS (pc (pn (pc o2 16) r5) 0) r1)
 (.ret pT)
 (.next ⟨[(5,px)],[]⟩)))
 (.exit 0 ⟨[(6,r5),(7,pN),(8,(pc o2 16)),(9,AE),(10,(aj r5 AE))],[]⟩))
def aco:PT:=
 (.brk ⟨[(5,(pi 0)),(4,pF)],[(2,(.mk [r0]))]⟩
(ayw b)
 (.ret pF))
def as5:PT×List (Shp×PT):=(aco b,[(.lp 0 [4,5,6,7,8,9,10] [] [4,5] [],IW b)])
def WV:B9.map told=some (as5 (aU B9)):=by kernel_rfl
def aFR:tree (ab B9)=aco SR:=bk WV
def Zk:round 0 [4,5,6,7,8,9,10] [] [4,5] [] (SR 0)=IW SR:=aQ WV 0 λ_=>rfl
def Ls:Option PC:=cF [10,11,12,13,14] [] Tryz.f42 42 []
def abr:PT:=
 (.call ⟨[],[]⟩ [] 16 97 [r0]
 (.call ⟨[(26,(.pick (.pick (.nt cq) pT (aj r1 (pi 0))) pT (aS r1 (pi 1000))))],[]⟩ [(26,false)] 28 98 [r2]
 (.call ⟨[(31,(.pick lU pT (.nt mE)))],[]⟩ [(31,false)] 33 98 [r3]
 (.ite (.pick (.pick (.pick g9 pT (.nt py)) pT (aj r3 r2)) pT (.pick (aC r4 (pi 360)) (aC r4 (pi 365)) pF))
 (.ret (.tup [(pi 0),(pi 1)]))
 (.chk (aC (.ai .mul .i64 (pi 1000) r4) (pi 0))
 (.ite (aS alX jb)
 (.ret (.tup [(pi 0),(pi 3)]))
 (.ret (.tup [alX,(pi 0)]))))))))
def ajV:Ls.map told=some (abr,[]):=by kernel_rfl
def aEG:tree (ab Ls)=abr:=aD ajV
def Lu:Option PC:=cF [2] [] Tryz.f97 97 []
def abu:PT:=
 (.ret (.pick vj (aY r0 jb) pF))
def ajX:Lu.map told=some (abu,[]):=by kernel_rfl
def aEI:tree (ab Lu)=abu:=aD ajX
def Lt:Option PC:=cF [2] [] Tryz.f98 98 []
def abt:PT:=
 (.ret (.pick vj (aY r0 (pi 100000)) pF))
def ajW:Lt.map told=some (abt,[]):=by kernel_rfl
def aEH:tree (ab Lt)=abt:=aD ajW
def Mg:Option PC:=cF [12,13,15,17] [] Tryz.f44 44 [6,7,14,16]
def acs:PT:=
 (.chk (ao (pc (.mk [r0]) 3) r2)
 (.chk (ao gJ (pc (pn (pc (.mk [r0]) 3) r2) 1))
 (.call ⟨[(13,HU)],[(7,(.mk [r1])),(6,(.mk [r0]))]⟩ [] 35 9 [fU,(pc (.mk [r1]) 4),HU,r4]
 (.call ⟨[(15,(.tget hH 1))],[(14,(.setc z2 0 (.tget hH 0)))]⟩ [] 44 9 [(ar 8 o6),cK,(pc o7 4),r5]
 (.ite (.pick (.pick (ae cK (pc o7 4)) pT (.nt bZ)) pT (.nt (.tget rD 1)))
 (.ret (pi 0))
 (.call ⟨[],[]⟩ [] 62 99 [r3,(.mk [(pc lO 0),(pc lO 1)]),(.mk [(pc (.setc z2 0 (.tget rD 0)) 0),(pc (.setc z2 0 (.tget rD 0)) 1)])]
 (.ret jc)))))))
def akF:Mg.map told=some (acs,[]):=by kernel_rfl
def aFV:tree (ab Mg)=acs:=aD akF
def Mh:Option PC:=cF [6,7,8,9,10] [] Tryz.f99 99 [4,5]
def acu:PT:=
 (.call ⟨[],[(5,(.mk [r2])),(4,(.mk [r1]))]⟩ [] 13 79 [vh]
 (.call ⟨[],[]⟩ [] 16 79 [(pc o5 0)]
 (.call ⟨[],[]⟩ [] 17 157 [cK,cq]
 (.call ⟨[(7,dR)],[]⟩ [] 20 79 [(pc o4 1)]
 (.call ⟨[],[]⟩ [] 23 79 [(pc o5 1)]
 (.call ⟨[],[]⟩ [] 24 157 [dt,fa]
 (.call ⟨[(8,mD)],[]⟩ [] 27 119 [r7,mD]
 (.ite (aN eP (pi 0))
 (.ret (pi 0))
 (.call ⟨[],[]⟩ [] 31 79 [r0]
 (.call ⟨[],[]⟩ [] 34 158 [r8,r7]
 (.call ⟨[],[]⟩ [] 35 157 [g9,qs]
 (.call ⟨[],[]⟩ [] 37 118 [hH,r8]
 (.chk (ao th (pi 0))
 (.chk (ao th (pi 1))
 (.chk (aN (.con (.v (.int .u64 30))) (pi 0))
 (.chk (ao th (pi 2))
 (.chk (aN (.con (.v (.int .u64 60))) (pi 0))
 (.ret (ay (ay (pn th (pi 0)) (.ai .shl .i64 (pn th (pi 1)) (.con (.v (.int .u64 30))))) (.ai .shl .i64 (pn th (pi 2)) (.con (.v (.int .u64 60)))))))))))))))))))))))
def akG:Mh.map told=some (acu,[]):=by kernel_rfl
def aFW:tree (ab Mh)=acu:=aD akG
def BB:Option PC:=cF [4,6,7,8] [] Tryz.f157 157 [5]
def E6:Nat->PC:=aV BB
def axK:PC:=.block 2 [7,8,14,15,16,17] [5] (.loop [7,8] [5] (b 0))
def axL:PC:=.block 0 [6,10,11] [5] (.loop [6] [5] (b 1))
def PW (b:Nat->PC):PT:=
 (.ite (aj (ay r6 r8) (pi 5))
 (.chk (ao o5 (ay r6 r8))
 (.chk (ao r0 r6)
 (.chk (ao r1 r8)
 (.chk (aC lT (pi 0))
 (.next ⟨[(7,(.ai .quo .i64 (ay (ay r7 (pn o5 (ay r6 r8))) (.ai .mul .i64 (pn r0 r6) (pn r1 r8))) lT)),(8,pv)],[(5,(.setn o5 (ay r6 r8) 0 (.ai .rem .i64 (ay (ay r7 (pn o5 (ay r6 r8))) (.ai .mul .i64 (pn r0 r6) (pn r1 r8))) lT)))]⟩)))))
 (.exit 2 ⟨[(14,r6),(15,r8),(16,(ay r6 r8)),(17,(aj (ay r6 r8) (pi 5)))],[]⟩))
def PX:PT:=
 (.ite (aj r6 (pi 5))
 (.blockS ⟨[(11,(aj r6 (pi 5))),(10,r6)],[]⟩ 1 [7,8,14,15,16,17] [5]
 (.brk ⟨[(8,(pi 0)),(7,(pi 0))],[]⟩
(axK b)
 (.next ⟨[],[]⟩))
 (.next ⟨[(6,xM)],[]⟩))
 (.exit 0 ⟨[(10,r6),(11,(aj r6 (pi 5)))],[]⟩))
def abf:PT:=
 (.chk vn
 (.chk vt
 (.brk ⟨[(6,(pi 0)),(5,pN)],[(5,pj)]⟩
(axL b)
 (.ret o5))))
def asw:PT×List (Shp×PT):=(abf b,[(.lp 2 [7,8,14,15,16,17] [5] [7,8] [5],PW b),(.lp 0 [6,10,11] [5] [6] [5],PX b)])
def OC:BB.map told=some (asw (aU BB)):=by kernel_rfl
def aEt:tree (ab BB)=abf E6:=bk OC
def amQ:round 2 [7,8,14,15,16,17] [5] [7,8] [5] (E6 0)=PW E6:=aQ OC 0 λ_=>rfl
def amR:round 0 [6,10,11] [5] [6] [5] (E6 1)=PX E6:=aQ OC 1 λ_=>rfl
def KI:Option PC:=mV {ctx with fr:=[6],nh:=[]} Tryz.f128 ⟨[Y8,I,mP],.slice I,.dat⟩ [3,5,7,8,42,9]
def aap:PT:=
 (.chk (ao (pc (.mk [r2]) 15) (pc (.mk [r2]) 19))
 (.ite alY
 (.ret pL)
 (.chk vn
 (.chk vt
 (.chk (ao pj (pi 0))
 (.call ⟨[],[(9,(.setn pj (pi 0) 0 r1)),(8,(.setc Ri 0 (ar 15 (.mk [r2])))),(7,DW),(3,(.mk [r0]))]⟩ [] 50 181 [fU,(pc DW 7)]
 (.chk (ao o9 (pi 1))
 (.call ⟨[],[(9,(.setn o9 (pi 1) 0 nw))]⟩ [] 56 181 [(ar 8 o3),(pc o8 10)]
 (.chk (ao o9 (pi 2))
 (.call ⟨[],[(9,(.setn o9 (pi 2) 0 tq))]⟩ [] 62 181 [(ar 8 o3),(pc o8 9)]
 (.chk (ao o9 (pi 3))
 (.chk (ao (pc o3 3) (pc o7 2))
 (.call ⟨[],[(9,(.setn o9 (pi 3) 0 jc))]⟩ [] 73 181 [(ar 8 o3),(pc (pn (pc o3 3) (pc o7 2)) 1)]
 (.chk (ao o9 (pi 4))
 (.call ⟨[],[(9,(.setn o9 (pi 4) 0 rG))]⟩ [] 76 185 [(.setn o9 (pi 4) 0 rG),(pi (-1))]
 (.ite vA
 (.ret pL)
 (.ret o9)))))))))))))))))
def aja:KI.map told=some (aap,[]):=by kernel_rfl
def aDz:tree (ab KI)=aap:=aD aja
def KJ:Option PC:=mV {ctx with fr:=[6],nh:=[]} Tryz.f128 ⟨[Y8,I,mP],.nils .bool,.dat⟩ [3,5,7,8,42,9]
def QS:PT:=
 (.chk (ao (pc (.mk [r2]) 15) (pc (.mk [r2]) 19))
 (.ite alY
 (.ret pL)
 (.chk vn
 (.chk vt
 (.chk (ao pj (pi 0))
 (.call ⟨[],[(9,(.setn pj (pi 0) 0 r1)),(8,(.setc Ri 0 (ar 15 (.mk [r2])))),(7,DW),(3,(.mk [r0]))]⟩ [] 50 181 [fU,(pc DW 7)]
 (.chk (ao o9 (pi 1))
 (.call ⟨[],[(9,(.setn o9 (pi 1) 0 nw))]⟩ [] 56 181 [(ar 8 o3),(pc o8 10)]
 (.chk (ao o9 (pi 2))
 (.call ⟨[],[(9,(.setn o9 (pi 2) 0 tq))]⟩ [] 62 181 [(ar 8 o3),(pc o8 9)]
 (.chk (ao o9 (pi 3))
 (.chk (ao (pc o3 3) (pc o7 2))
 (.call ⟨[],[(9,(.setn o9 (pi 3) 0 jc))]⟩ [] 73 181 [(ar 8 o3),(pc (pn (pc o3 3) (pc o7 2)) 1)]
 (.chk (ao o9 (pi 4))
 (.call ⟨[],[]⟩ [] 76 185 [(.setn o9 (pi 4) 0 rG),(pi (-1))]
 (.ite vA
 (.ret pL)
 (.chk pF
 (.next ⟨[],[]⟩))))))))))))))))))
def ajb:KJ.map told=some (QS,[]):=by kernel_rfl
def aDA:tree (ab KJ)=QS:=aD ajb
def XA:List Nat:=[3,6,23,8,25,26,75,76,77,24,10,29,80,30,73,81,33,84,126,184,218,217,246,181,57,219,220,127,185,221,129,186,223,222,247,187,85,130,189,188,190,224,225,248,252,250,249,131,191,226,251,227,253,269,134,228,35,31,32,83,125,82,14,52,53,102,160,161,208,54,55,56,103,58,59,60,61,62,120,121,122,123,180,214,215,241,243,268,242,106,124,182,183,216,245,74,113,176,115,114,116,177,34,86,132,133,135,192,175,36,87,7,13,19,50,51,101,159,15,16,63,104,105,64,65,107,162,163,66,108,67,110,164,109,9,27,28,79,78,117,178,119,118,179,158,11,37,38,88,89,41,92,96,156,204,205,206,148,150,207,93,94,149,151,200,95,152,154,201,236,261,262,264,263,202,155,153,203,237,265,238,239,266,267,43,137,39,40,91,90,141,193,229,255,270,256,230,257,194,195,231,196,197,142,143,144,145,146,198,232,258,259,234,233,147,199,235,260,136,138,139,140,42,97,98,44,99,157]
def DR:List (Nat×PC):=[(3,(ab K0)),(6,(ab K4)),(23,(ab K1)),(8,(ab Kw)),(25,(ab Bk)),(26,(ab FB)),(75,(ab Mj)),(76,(ab Cb)),(77,(ab Ml)),(24,(ab K5)),(10,(ab Bj)),(29,(ab Cl)),(80,(ab Mv)),(30,(ab KK)),(73,(ab KL)),(81,(ab KC)),(33,(ab KB)),(84,(ab KG)),(126,(ab KH)),(184,(ab Co)),(218,(ab Mt)),(217,(ab Mw)),(246,(ab Cq)),(181,(ab Mq)),(57,(ab Mr)),(219,(ab Mu)),(220,(ab Cm)),(127,(ab K9)),(185,(ab My)),(221,(ab Ct)),(129,(ab Bp)),(186,(ab KY)),(223,(ab KZ)),(222,(ab Mx)),(247,(ab Cs)),(187,(ab Bq)),(85,(ab K8)),(130,(ab La)),(189,(ab Lb)),(188,(ab Cr)),(190,(ab MD)),(224,(ab za)),(225,(ab Cz)),(248,(ab MJ)),(252,(ab MI)),(250,(ab MF)),(249,(ab MM)),(131,(ab ME)),(191,(ab CA)),(226,(ab MK)),(251,(ab MN)),(227,(ab MH)),(253,(ab MG)),(269,(ab ML)),(134,(ab KQ)),(228,(ab Cp)),(35,(ab KF)),(31,(ab KD)),(32,(ab KE)),(83,(ab Cn)),(125,(ab Cv)),(82,(ab FC)),(14,(ab Cc)),(52,(ab Cg)),(53,(ab Ce)),(102,(ab Ms)),(160,(ab Cf)),(161,(ab Mz)),(208,(ab Cu)),(54,(ab Mm)),(55,(ab Mn)),(56,(ab Cd)),(103,(ab Cj)),(58,(ab Mo)),(59,(ab Mp)),(60,(ab Ch)),(61,(ab Ck)),(62,(ab Ci)),(120,(ab MB)),(121,(ab MC)),(122,(ab MA)),(123,(ab FE)),(180,(ab FD)),(214,(ab Fv)),(215,(ab KV)),(241,(ab KR)),(243,(ab KT)),(268,(ab Fx)),(242,(ab Fw)),(106,(ab y9)),(124,(ab Cw)),(182,(ab Cy)),(183,(ab Bn)),(216,(ab KS)),(245,(ab KU)),(74,(ab KM)),(113,(ab MO)),(176,(ab CB)),(115,(ab KN)),(114,(ab Bl)),(116,(ab Bm)),(177,(ab Br)),(34,(ab Kz)),(86,(ab K6)),(132,(ab K7)),(133,(ab Fz)),(135,(ab y6)),(192,(ab KO)),(175,(ab KP)),(36,(ab Ky)),(87,(ab KA)),(7,(ab Fy)),(13,(ab B7)),(19,(ab BI)),(50,(ab LH)),(51,(ab B2)),(101,(ab LO)),(159,(ab y8)),(15,(ab FA)),(16,(ab y7)),(63,(ab FF)),(104,(ab MQ)),(105,(ab MR)),(64,(ab Bu)),(65,(ab Lg)),(107,(ab Lf)),(162,(ab Ld)),(163,(ab Lh)),(66,(ab Bs)),(108,(ab Lc)),(67,(ab Bt)),(110,(ab KW)),(164,(ab KX)),(109,(ab Bo)),(9,(ab Mi)),(27,(ab BG)),(28,(ab Lj)),(79,(ab By)),(78,(ab Li)),(117,(ab Bw)),(178,(ab Ll)),(119,(ab Bv)),(118,(ab Bz)),(179,(ab BA)),(158,(ab Bx)),(11,(ab Ca)),(37,(ab BW)),(38,(ab Md)),(88,(ab Me)),(89,(ab L8)),(41,(ab L7)),(92,(ab B8)),(96,(ab L9)),(156,(ab BZ)),(204,(ab LJ)),(205,(ab LK)),(206,(ab LI)),(148,(ab Ly)),(150,(ab Lz)),(207,(ab BX)),(93,(ab L1)),(94,(ab B5)),(149,(ab B6)),(151,(ab L4)),(200,(ab B4)),(95,(ab LZ)),(152,(ab L3)),(154,(ab B3)),(201,(ab LL)),(236,(ab B1)),(261,(ab LS)),(262,(ab LV)),(264,(ab LR)),(263,(ab LU)),(202,(ab L2)),(155,(ab Lw)),(153,(ab LN)),(203,(ab B0)),(237,(ab LQ)),(265,(ab LM)),(238,(ab LW)),(239,(ab LX)),(266,(ab LY)),(267,(ab LP)),(43,(ab Mc)),(137,(ab Mf)),(39,(ab Ma)),(40,(ab Mb)),(91,(ab BY)),(90,(ab LD)),(141,(ab Lv)),(193,(ab BO)),(229,(ab LA)),(255,(ab BJ)),(270,(ab Lx)),(256,(ab BH)),(230,(ab BK)),(257,(ab BM)),(194,(ab BP)),(195,(ab BQ)),(231,(ab BL)),(196,(ab BS)),(197,(ab BR)),(142,(ab LG)),(143,(ab Lp)),(144,(ab LF)),(145,(ab BN)),(146,(ab LB)),(198,(ab Lm)),(232,(ab BC)),(258,(ab Lq)),(259,(ab Lr)),(234,(ab Ln)),(233,(ab BD)),(147,(ab BT)),(199,(ab BE)),(235,(ab Lo)),(260,(ab BF)),(136,(ab L6)),(138,(ab BV)),(139,(ab BU)),(140,(ab B9)),(42,(ab Ls)),(97,(ab Lu)),(98,(ab Lt)),(44,(ab Mg)),(99,(ab Mh)),(157,(ab BB))]
def tab:Nat->Option PC:=bV DR
def alz:DR.map (·.1)=XA:=by kernel_rfl
def aAA:(DR.map (·.1)).Nodup:=by rw[alz];exact va (by kernel_rfl)
def lA (k:Nat){f:Nat}{x:PC}(h:DR[k]?=some (f,x):=by kernel_rfl):tab f=some x:=aie aAA h
def aeM:tab 26=some (ab FB):=lA 5 (by kernel_rfl)
def aeO:tab 224=some (ab za):=lA 41 (by kernel_rfl)
def R6:tab 82=some (ab FC):=lA 61 (by kernel_rfl)
def yV:tab 123=some (ab FE):=lA 81 (by kernel_rfl)
def we:tab 180=some (ab FD):=lA 82 (by kernel_rfl)
def Kd:tab 214=some (ab Fv):=lA 83 (by kernel_rfl)
def R5:tab 268=some (ab Fx):=lA 87 (by kernel_rfl)
def E4:tab 242=some (ab Fw):=lA 88 (by kernel_rfl)
def aeN:tab 106=some (ab y9):=lA 89 (by kernel_rfl)
def apM:tab 133=some (ab Fz):=lA 105 (by kernel_rfl)
def apK:tab 135=some (ab y6):=lA 106 (by kernel_rfl)
def apL:tab 7=some (ab Fy):=lA 111 (by kernel_rfl)
def aeL:tab 159=some (ab y8):=lA 117 (by kernel_rfl)
def apO:tab 15=some (ab FA):=lA 118 (by kernel_rfl)
def apN:tab 16=some (ab y7):=lA 119 (by kernel_rfl)
def apQ:tab 63=some (ab FF):=lA 120 (by kernel_rfl)
def caps:∀f cs,bV Tn f=some cs->(oT cs.args cs.res=none->bV yf f=some ⟨cs.args++cs.caps,cs.res,.dat⟩)/\∀ys,oT cs.args cs.res=some ys->gp XA f=false/\JA Tryz.prog f=true:=ae0 (l:=Tn) (sig:=yf) (P:=Tryz.prog) (pcs:=XA) (by kernel_rfl)
def clos:eB ctx:=⟨(λf cs h=>(caps f cs h).1),λf s h=>anL (l:=yf) (P:=Tryz.prog) (by kernel_rfl) f s h⟩
def its:∀f cs ys,ctx.cap f=some cs->oT cs.args cs.res=some ys->tab f=none/\∃fn,ctx.P.funcs[f]?=some fn/\fn.body.isSome=true/\(fn.name== "runtime.NumGoroutine")=false:=λf cs ys h hi=>⟨ah9 (l:=DR) (by rw[alz];exact((caps f cs h).2 ys hi).1),aDh ((caps f cs h).2 ys hi).2⟩
def aC6:∀f pc,tab f=some pc->∃fn s ids fr nh,ctx.P.funcs[f]?=some fn/\ctx.sig f=some s/\mV {ctx with fr:=fr,nh:=nh} fn s ids=some pc:=
 VY (R:=λf pc=>∃fn s ids fr nh,ctx.P.funcs[f]?=some fn/\ctx.sig f=some s/\mV {ctx with fr:=fr,nh:=nh} fn s ids=some pc) (l:=DR)
  (av (aw [7,9,16,18] [14,15,17,19] [] Tryz.func3 rfl (au K0 ajv))
  (av (aw [1,2,3] [0,4,6,7,8] [] Tryz.func6 rfl (au K4 ajy))
  (av (aw [4,5,6,20486,24582,28678,32774,7,65543,69639,73735,77831] [] [] Tryz.func23 rfl (au K1 ajw))
  (av (aw [4,8,14] [9,10,11,12,13,15] [] Tryz.func8 rfl (au Kw aiZ))
  (av (aw [11] [8,9,10] [] Tryz.func25 rfl (au Bk We))
  (av (aw [4] [5,6,7,8] [] Tryz.func26 rfl (au FB akI))
  (av (aw [] [2] [] Tryz.func75 rfl (au Mj akJ))
  (av (aw [] [4,0,1] [] Tryz.func76 rfl (au Cb WX))
  (av (aw [4,5,6] [7,8] [] Tryz.func77 rfl (au Ml akK))
  (av (aw [7,9,10] [8] [] Tryz.func24 rfl (au K5 ajz))
  (av (aw [5,7,10,11,12,14,17,20] [13,15,16,18] [] Tryz.func10 rfl (au Bj Wd))
  (av (aw [2,4,5,65541,69637,73733,77829,7,31,9,49,11,13] [] [] Tryz.func29 rfl (au Cl DN))
  (av (aw [] [4] [] Tryz.func80 rfl (au Mv akU))
  (av (aw [5,7,10,12] [11] [] Tryz.func30 rfl (au KK ajc))
  (av (aw [4,6,8,9] [] [] Tryz.func73 rfl (au KL ajd))
  (av (aw [5,8,77832,10] [] [] Tryz.func81 rfl (au KC ai4))
  (av (aw [4,7,8,9] [10] [] Tryz.func33 rfl (au KB ai3))
  (av (aw [4,7,8,10,16394] [9,11,12,13,14] [] Tryz.func84 rfl (au KG ai8))
  (av (aw [2,3,4] [5] [] Tryz.func126 rfl (au KH ai9))
  (av (aw [2,3,5,6,8,10,90,139] [4,7,9,11,12,13,14,15,16] [] Tryz.func184 rfl (au Co OR))
  (av (aw [2] [3] [] Tryz.func218 rfl (au Mt akS))
  (av (aw [] [4] [] Tryz.func217 rfl (au Mw akV))
  (av (aw [] [4,5] [] Tryz.func246 rfl (au Cq W6))
  (av (aw [2] [4] [] Tryz.func181 rfl (au Mq akP))
  (av (aw [] [4] [] Tryz.func57 rfl (au Mr akQ))
  (av (aw [2] [] [] Tryz.func219 rfl (au Mu akT))
  (av (aw [3,6,8] [] [] Tryz.func220 rfl (au Cm W5))
  (av (aw [] [2,3,4,11] [] Tryz.func127 rfl (au K9 ajE))
  (av (aw [] [4] [] Tryz.func185 rfl (au My akX))
  (av (aw [] [4,5] [] Tryz.func221 rfl (au Ct W9))
  (av (aw [4,10,53] [8,9,11,12,13,14,55,70] [] Tryz.func129 rfl (au Bp Wk))
  (av (aw [4,9] [8] [] Tryz.func186 rfl (au KY ajt))
  (av (aw [] [3] [] Tryz.func223 rfl (au KZ aju))
  (av (aw [] [4] [] Tryz.func222 rfl (au Mx akW))
  (av (aw [] [4,5] [] Tryz.func247 rfl (au Cs W8))
  (av (aw [4,11] [8,9] [] Tryz.func187 rfl (au Bq Wl))
  (av (aw [3,6,8,10] [7,9,11,12] [] Tryz.func85 rfl (au K8 ajD))
  (av (aw [2,3,4,12292,9] [5,6,7,8,10,11] [] Tryz.func130 rfl (au La ajF))
  (av (aw [2] [3] [] Tryz.func189 rfl (au Lb ajG))
  (av (aw [] [4,5] [] Tryz.func188 rfl (au Cr W7))
  (av (aw [1] [2,3] [] Tryz.func190 rfl (au MD ak5))
  (av (aw [2,7,12295] [4,5] [] Tryz.func224 rfl (au za Xe))
  (av (aw [1,4,6,12294,9] [2,3,5,7,8,38,47,10,11,12] [] Tryz.func225 rfl (au Cz OU))
  (av (aw [1] [2,3,12,20,4,5] [] Tryz.func248 rfl (au MJ alb))
  (av (aw [] [2] [] Tryz.func252 rfl (au MI ala))
  (av (aw [] [2,3,4,11] [] Tryz.func250 rfl (au MF ak7))
  (av (aw [2] [4,8,13,17,21] [] Tryz.func249 rfl (au MM ale))
  (av (aw [2,4,7] [5,6,8] [] Tryz.func131 rfl (au ME ak6))
  (av (aw [2,3,4,6,33,7,8,10,12298,12] [5,15,21,9,11] [] Tryz.func191 rfl (au CA Xd))
  (av (aw [2,4] [5,6] [] Tryz.func226 rfl (au MK alc))
  (av (aw [2] [] [] Tryz.func251 rfl (au MN alf))
  (av (aw [4,5] [9,22,41,6,7,82,88,94] [] Tryz.func227 rfl (au MH ak9))
  (av (aw [] [6,8,14,20,25] [] Tryz.func253 rfl (au MG ak8))
  (av (aw [] [4,5,6,7] [] Tryz.func269 rfl (au ML ald))
  (av (aw [] [4,5,6,7,8,9,10,11,12,13] [] Tryz.func134 rfl (au KQ aji))
  (av (aw [6] [2,3,5,8] [] Tryz.func228 rfl (au Cp OS))
  (av (aw [1] [2,3,7,12] [] Tryz.func35 rfl (au KF ai7))
  (av (aw [4,6] [8,9,10,11] [] Tryz.func31 rfl (au KD ai5))
  (av (aw [1] [2] [] Tryz.func32 rfl (au KE ai6))
  (av (aw [1,3,6,8] [2,4] [] Tryz.func83 rfl (au Cn OQ))
  (av (aw [] [2,3,4] [] Tryz.func125 rfl (au Cv Xb))
  (av (aw [4,5,10] [8,9,15,39,58,74,11,12] [] Tryz.func82 rfl (au FC akZ))
  (av (aw [1,9] [2,3,4,5,6,7,10,11,12] [] Tryz.func14 rfl (au Cc WY))
  (av (aw [1,2,3,4,6,16390,20486,24582,21,8,34,10,12298,16394,47] [] [] Tryz.func52 rfl (au Cg HC))
  (av (aw [] [6,7,8] [] Tryz.func53 rfl (au Ce W2))
  (av (aw [] [4] [] Tryz.func102 rfl (au Ms akR))
  (av (aw [] [2,3,4,5] [] Tryz.func160 rfl (au Cf W3))
  (av (aw [] [4] [] Tryz.func161 rfl (au Mz akY))
  (av (aw [] [4,5] [] Tryz.func208 rfl (au Cu Xa))
  (av (aw [] [2] [] Tryz.func54 rfl (au Mm akL))
  (av (aw [] [3] [] Tryz.func55 rfl (au Mn akM))
  (av (aw [2,3] [4,6] [] Tryz.func56 rfl (au Cd W0))
  (av (aw [] [6,7,8] [] Tryz.func103 rfl (au Cj W4))
  (av (aw [] [3] [] Tryz.func58 rfl (au Mo akN))
  (av (aw [] [3] [] Tryz.func59 rfl (au Mp akO))
  (av (aw [1,3,4,6,19,8,16392,36] [2] [] Tryz.func60 rfl (au Ch ON))
  (av (aw [1,4,6] [2,3] [] Tryz.func61 rfl (au Ck OP))
  (av (aw [1,4,6] [2] [] Tryz.func62 rfl (au Ci OO))
  (av (aw [2] [4] [] Tryz.func120 rfl (au MB ak3))
  (av (aw [] [2] [] Tryz.func121 rfl (au MC ak4))
  (av (aw [1] [2] [] Tryz.func122 rfl (au MA ak0))
  (av (aw [3,4] [6,7,13,16,24,33,8,9] [] Tryz.func123 rfl (au FE ak2))
  (av (aw [3] [4,5] [] Tryz.func180 rfl (au FD ak1))
  (av (aw [] [4,5,6,7,8,9] [] Tryz.func214 rfl (au Fv ajj))
  (av (aw [] [2] [] Tryz.func215 rfl (au KV ajq))
  (av (aw [] [2,3,4,5,6,7,8,9] [] Tryz.func241 rfl (au KR ajl))
  (av (aw [] [4] [] Tryz.func243 rfl (au KT ajn))
  (av (aw [] [6,0,1] [] Tryz.func268 rfl (au Fx ajo))
  (av (aw [] [6,7,8] [] Tryz.func242 rfl (au Fw ajk))
  (av (aw [3,9] [6,7] [] Tryz.func106 rfl (au y9 WZ))
  (av (aw [3] [6,7,8,2,9,10] [] Tryz.func124 rfl (au Cw Xc))
  (av (aw [3,9] [6,7,2] [] Tryz.func182 rfl (au Cy OT))
  (av (aw [2,4,5] [6] [] Tryz.func183 rfl (au Bn Wh))
  (av (aw [3,4,5] [6] [] Tryz.func216 rfl (au KS ajm))
  (av (aw [2] [4,5,6,7] [] Tryz.func245 rfl (au KU ajp))
  (av (aw [2,4,5,6,43] [] [] Tryz.func74 rfl (au KM aje))
  (av (aw [3] [6] [] Tryz.func113 rfl (au MO alg))
  (av (aw [2,5,7] [4] [] Tryz.func176 rfl (au CB Xf))
  (av (aw [3,7] [6] [] Tryz.func115 rfl (au KN ajf))
  (av (aw [] [2,3,5,12,15] [] Tryz.func114 rfl (au Bl Wf))
  (av (aw [2,9] [4,5,6,7,10,50,54] [] Tryz.func116 rfl (au Bm Wg))
  (av (aw [2,7] [4,5] [] Tryz.func177 rfl (au Br Wm))
  (av (aw [] [8,9,10] [] Tryz.func34 rfl (au Kz ai1))
  (av (aw [] [10,11,12,13,14] [] Tryz.func86 rfl (au K6 ajA))
  (av (aw [] [4] [] Tryz.func132 rfl (au K7 ajC))
  (av (aw [] [6,7,8,9,10,11,12] [] Tryz.func133 rfl (au Fz ajB))
  (av (aw [] [6,7,8,2,9,10,11,12,13,14,15,16,17,18] [] Tryz.func135 rfl (au y6 OA))
  (av (aw [] [2] [] Tryz.func192 rfl (au KO ajg))
  (av (aw [] [2,0] [] Tryz.func175 rfl (au KP ajh))
  (av (aw [6,7,14,16] [12,13,15,17] [] Tryz.func36 rfl (au Ky ai0))
  (av (aw [4,5] [6,7,8,9,10,11,12] [] Tryz.func87 rfl (au KA ai2))
  (av (aw [2,3] [4] [] Tryz.func7 rfl (au Fy ajx))
  (av (aw [2,3] [4,5] [] Tryz.func13 rfl (au B7 WT))
  (av (aw [1] [2,3,4] [] Tryz.func19 rfl (au BI OF))
  (av (aw [1] [2] [] Tryz.func50 rfl (au LH aj9))
  (av (aw [1] [2,3] [] Tryz.func51 rfl (au B2 WN))
  (av (aw [1] [2] [] Tryz.func101 rfl (au LO akg))
  (av (aw [3] [6,1,7] [] Tryz.func159 rfl (au y8 WL))
  (av (aw [1] [2] [] Tryz.func15 rfl (au FA aj8))
  (av (aw [2,3,10] [4,5,6,7,8,11] [] Tryz.func16 rfl (au y7 OB))
  (av (aw [2,3] [4,5,6,7,8,54,80,109,118,9,10] [] Tryz.func63 rfl (au FF alh))
  (av (aw [] [4] [] Tryz.func104 rfl (au MQ ali))
  (av (aw [1,3] [2,8,19,40] [] Tryz.func105 rfl (au MR alj))
  (av (aw [3,4,7,11] [6,8,9,76,92,98] [] Tryz.func64 rfl (au Bu Wp))
  (av (aw [] [6] [] Tryz.func65 rfl (au Lg ajK))
  (av (aw [3,4,7,8] [6,9,10,66,103,113,11,140,149] [] Tryz.func107 rfl (au Lf ajJ))
  (av (aw [3] [6,7] [] Tryz.func162 rfl (au Ld ajI))
  (av (aw [3] [6] [] Tryz.func163 rfl (au Lh ajL))
  (av (aw [2,3,6] [4,5,7] [] Tryz.func66 rfl (au Bs Wn))
  (av (aw [3,4,5] [6,7,8,9,65,80,100,111] [] Tryz.func108 rfl (au Lc ajH))
  (av (aw [1,4,5,52] [2,3] [] Tryz.func67 rfl (au Bt Wo))
  (av (aw [] [4,5,6] [] Tryz.func110 rfl (au KW ajr))
  (av (aw [] [2] [] Tryz.func164 rfl (au KX ajs))
  (av (aw [] [2,3,5] [] Tryz.func109 rfl (au Bo Wj))
  (av (aw [4,8,11,14] [9,10,12,13,15] [] Tryz.func9 rfl (au Mi akH))
  (av (aw [] [8,9,10] [] Tryz.func27 rfl (au BG Wy))
  (av (aw [4] [5] [] Tryz.func28 rfl (au Lj ajN))
  (av (aw [3] [2,4,5,0] [] Tryz.func79 rfl (au By Wt))
  (av (aw [6] [7,8,9,10,11,12,13] [] Tryz.func78 rfl (au Li ajM))
  (av (aw [] [4,5,6,0,1] [] Tryz.func117 rfl (au Bw Wr))
  (av (aw [] [2] [] Tryz.func178 rfl (au Ll ajO))
  (av (aw [] [4,5] [] Tryz.func119 rfl (au Bv Wq))
  (av (aw [6,7] [4,5,8] [] Tryz.func118 rfl (au Bz Wu))
  (av (aw [4,5] [6,7] [] Tryz.func179 rfl (au BA Wv))
  (av (aw [4,5] [6,7,8] [] Tryz.func158 rfl (au Bx Ws))
  (av (aw [5,7,10,11,12,16,17] [13,14,15,18,19,20,21,22] [] Tryz.func11 rfl (au Ca WW))
  (av (aw [2,4,46,52,7,69639,77831,81,115] [5,6,8,9] [] Tryz.func37 rfl (au BW DM))
  (av (aw [5,7,10,12] [11] [] Tryz.func38 rfl (au Md akC))
  (av (aw [5,7,10,11,12,13] [14,15] [] Tryz.func88 rfl (au Me akD))
  (av (aw [5,8,77832,10] [] [] Tryz.func89 rfl (au L8 akx))
  (av (aw [4,7,8,9,16393] [10,11,12] [] Tryz.func41 rfl (au L7 akw))
  (av (aw [3,5,7,8] [6,9] [] Tryz.func92 rfl (au B8 WU))
  (av (aw [2,3] [4] [] Tryz.func96 rfl (au L9 aky))
  (av (aw [2,3,5,6,7] [4,8,9,10,11] [] Tryz.func156 rfl (au BZ WJ))
  (av (aw [2] [] [] Tryz.func204 rfl (au LJ akb))
  (av (aw [2] [] [] Tryz.func205 rfl (au LK akc))
  (av (aw [] [4] [] Tryz.func206 rfl (au LI aka))
  (av (aw [2] [4] [] Tryz.func148 rfl (au Ly aj1))
  (av (aw [] [6] [] Tryz.func150 rfl (au Lz aj2))
  (av (aw [3,6] [7] [] Tryz.func207 rfl (au BX WI))
  (av (aw [] [2] [] Tryz.func93 rfl (au L1 akr))
  (av (aw [4,10,11,78] [8,9,12,13,14] [] Tryz.func94 rfl (au B5 WR))
  (av (aw [2] [4,5] [] Tryz.func149 rfl (au B6 WS))
  (av (aw [4,10] [8,9] [] Tryz.func151 rfl (au L4 aku))
  (av (aw [2,4] [5] [] Tryz.func200 rfl (au B4 WQ))
  (av (aw [3,6,9] [7,8] [] Tryz.func95 rfl (au LZ akq))
  (av (aw [2] [4,5,6,7,8,9] [] Tryz.func152 rfl (au L3 akt))
  (av (aw [2] [4,5] [] Tryz.func154 rfl (au B3 WO))
  (av (aw [1] [2,3] [] Tryz.func201 rfl (au LL akd))
  (av (aw [1,4,33] [2,3,5,6,7,8,9,10] [] Tryz.func236 rfl (au B1 WM))
  (av (aw [] [2,4,8,10] [] Tryz.func261 rfl (au LS akk))
  (av (aw [1] [2,3,4,5] [] Tryz.func262 rfl (au LV akm))
  (av (aw [] [2,3] [] Tryz.func264 rfl (au LR akj))
  (av (aw [] [4,5,7,13,26,44,56] [] Tryz.func263 rfl (au LU akl))
  (av (aw [] [2,3] [] Tryz.func202 rfl (au L2 aks))
  (av (aw [] [2,4] [] Tryz.func155 rfl (au Lw ajZ))
  (av (aw [2,4] [5,6] [] Tryz.func153 rfl (au LN akf))
  (av (aw [2,4,5,37] [9,15,6,41,55,64,73] [] Tryz.func203 rfl (au B0 WK))
  (av (aw [4,5] [6,7] [] Tryz.func237 rfl (au LQ aki))
  (av (aw [] [2] [] Tryz.func265 rfl (au LM ake))
  (av (aw [3,4,6] [] [] Tryz.func238 rfl (au LW akn))
  (av (aw [6] [8,14,20,27,34,40] [] Tryz.func239 rfl (au LX ako))
  (av (aw [2] [] [] Tryz.func266 rfl (au LY akp))
  (av (aw [] [4,5,6] [] Tryz.func267 rfl (au LP akh))
  (av (aw [1] [2] [] Tryz.func43 rfl (au Mc akB))
  (av (aw [6,9,13] [12] [] Tryz.func137 rfl (au Mf akE))
  (av (aw [4,6,9] [8,10,11,12] [] Tryz.func39 rfl (au Ma akz))
  (av (aw [1] [2] [] Tryz.func40 rfl (au Mb akA))
  (av (aw [1] [2,3,4,5,6,7] [] Tryz.func91 rfl (au BY HB))
  (av (aw [4,5,10] [8,9,11,12,13] [] Tryz.func90 rfl (au LD aj5))
  (av (aw [1] [2,3] [] Tryz.func141 rfl (au Lv ajY))
  (av (aw [1,5,44] [2,3,4,6,7] [] Tryz.func193 rfl (au BO OH))
  (av (aw [] [4] [] Tryz.func229 rfl (au LA aj3))
  (av (aw [] [2,3,4] [] Tryz.func255 rfl (au BJ WA))
  (av (aw [] [2] [] Tryz.func270 rfl (au Lx aj0))
  (av (aw [] [6,7] [] Tryz.func256 rfl (au BH Wz))
  (av (aw [2,3] [4,5] [] Tryz.func230 rfl (au BK WB))
  (av (aw [] [6,7] [] Tryz.func257 rfl (au BM WC))
  (av (aw [1,4,44] [2,3,5,6] [] Tryz.func194 rfl (au BP OI))
  (av (aw [1,3,24] [2,4,5] [] Tryz.func195 rfl (au BQ WE))
  (av (aw [1] [2,3,4] [] Tryz.func231 rfl (au BL OG))
  (av (aw [1,4] [2,3,5] [] Tryz.func196 rfl (au BS OL))
  (av (aw [1,4,6] [2,3,5] [] Tryz.func197 rfl (au BR OJ))
  (av (aw [2] [4] [] Tryz.func142 rfl (au LG aj7))
  (av (aw [] [2] [] Tryz.func143 rfl (au Lp ajS))
  (av (aw [1] [2] [] Tryz.func144 rfl (au LF aj6))
  (av (aw [3] [6,7,8] [] Tryz.func145 rfl (au BN WD))
  (av (aw [3,4,7] [6,8,9] [] Tryz.func146 rfl (au LB aj4))
  (av (aw [] [4,5,6,7,8,9,10,11,12,13,14] [] Tryz.func198 rfl (au Lm ajP))
  (av (aw [] [2,3,4,5,6,7,8] [] Tryz.func232 rfl (au BC OD))
  (av (aw [] [2] [] Tryz.func258 rfl (au Lq ajT))
  (av (aw [] [2] [] Tryz.func259 rfl (au Lr ajU))
  (av (aw [] [4] [] Tryz.func234 rfl (au Ln ajQ))
  (av (aw [] [6,7,8,9,10] [] Tryz.func233 rfl (au BD OE))
  (av (aw [3] [6,7,8,9,10,11,12,2] [] Tryz.func147 rfl (au BT OM))
  (av (aw [2] [4,5,6,7,8] [] Tryz.func199 rfl (au BE Ww))
  (av (aw [2] [4,5,6,7,8,9] [] Tryz.func235 rfl (au Lo ajR))
  (av (aw [] [4,5] [] Tryz.func260 rfl (au BF Wx))
  (av (aw [] [4] [] Tryz.func136 rfl (au L6 akv))
  (av (aw [3] [6,7] [] Tryz.func138 rfl (au BV WH))
  (av (aw [2] [4,5] [] Tryz.func139 rfl (au BU WG))
  (av (aw [2] [4,5] [] Tryz.func140 rfl (au B9 WV))
  (av (aw [] [10,11,12,13,14] [] Tryz.func42 rfl (au Ls ajV))
  (av (aw [] [2] [] Tryz.func97 rfl (au Lu ajX))
  (av (aw [] [2] [] Tryz.func98 rfl (au Lt ajW))
  (av (aw [6,7,14,16] [12,13,15,17] [] Tryz.func44 rfl (au Mg akF))
  (av (aw [4,5] [6,7,8,9,10] [] Tryz.func99 rfl (au Mh akG))
  (av (aw [5] [4,6,7,8] [] Tryz.func157 rfl (au BB OC))
  trivial))))))))))))))))))))))))))))))))))))))))))))))))))))))))))))))))))))))))))))))))))))))))))))))))))))))))))))))))))))))))))))))))))))))))))))))))))))))))))))))))))))))))))))))))))))))))))))))))))))))))))))))))))))))))))))))))))))
end Rm
namespace Rm
open Go Go.Proofs Cx Go.RowKit Go.Lib
def awS:(Tryz.prog.info? 3).map (λi=>(i.zero,i.size,i.bytes))=some (some (.int .i64 0),1,8):=by kernel_rfl
set_option maxHeartbeats 2000000 in
set_option maxRecDepth 100000 in
def atP (w:World):Calls Tryz.prog 254 #[.slice none 0 0,.int .i64 0] w λe w'=>e=.returned (.slice none 0 0)/\w'=w:=by
 go_enter Tryz.func254,Tryz.ntmps254
 go_wp2
 go_ret
 exact⟨rfl,rfl⟩
set_option maxHeartbeats 2000000 in
set_option maxRecDepth 100000 in
def atO (n:Nat)(w:World)(h0:0<n)(h1:n<=4294967296):Calls Tryz.prog 254 #[.slice none 0 0,.int .i64 n] w λe w'=>
 ∃v',e=.returned v'/\w'.ownsRow w.heap.size 3 1 v' 0 []/\Below w.heap.size w w':=by
 obtain⟨i0,hi,VJ,Ab,hz2⟩:=info_parts awS;have hr:=run_append_nil_zeros w 53 3 53 3 i0 (.int .i64 0) .i64 .i64 Tryz.underlying53 Tryz.underlying3 hi VJ n h0 (by rw[Ab];decide) (by omega) (by rw[hz2];omega);have hn:¬((n:Int)<0):=by omega
 have zK:(n:Int)>0:=by omega
 have hw:IntKind.i64.wrap (n:Int)=n:=by rw[IntKind.wrap_i64];omega
 have xj:IntKind.i64.wrap 0=0:=by decide
 have iS:=grownCap_ge w n 0 3;have hle:=grownCap_le_maxLen w n 0 3 (by unfold maxLen;omega);have hs:(Builtin.zeroCells #[Value.int IntKind.i64 0] n++Builtin.zeroCells #[Value.int IntKind.i64 0] (grownCap w n 0 3-n)).size=grownCap w n 0 3*1:=by
  rw[Array.size_append,size_zeroCells,size_zeroCells];simp;omega
 go_enter Tryz.func254,Tryz.ntmps254
 go_wp2_with (at_builtin;refine wpList_append_run _ rfl _ _ 53 3 rfl _ _ rfl rfl _ _ hr ?qc)
 go_ret
 refine⟨_,rfl,?_,?_⟩
 .exact World.ownsRow.drew (World.ownsRow_made w _ _ (bL _) hle hs)
 .exact((Below.refl _ w).alloc (bL _) _).drew
def M8 (ds:List D):Option D:=
 match ds with
 |[.list [],.v (.int .i64 n)]=>if 0<=n/\n<=4294967296 then some (.list []) else none
 |_=>none
def atN (ds:List D)(d:D)(h:M8 ds=some d):∃s,ctx.sig 254=some s/\Ro ctx 254 s ds d:=by
 refine⟨_,rfl,λ_=>?_,λaP dQ hm=>by cases hm⟩;unfold M8 at h;split at h
 case h_2=>cases h
 rename_i n;split at h
 case isFalse=>cases h
 rename_i hn;cases h;obtain⟨k,rfl⟩:=eC hn.1;intro H w args aE hC ha;obtain⟨a1,a2,a3⟩:=ha;have h0:=a3 0 _ rfl;have h1:=a3 1 _ rfl;obtain⟨u,v,rfl⟩:∃u v,args=#[u,v]:=by
  have:args.size=2:=by simpa using a1
  match args,this with
  |⟨[u,v]⟩,_=>exact⟨u,v,rfl⟩
 simp only[yM,JR] at h0 h1;change Rep ctx.cap H (.nils .bool) u (.list []) at h0;change Rep ctx.cap H (.int .i64) v (.v (.int .i64 k)) at h1;have hu:u=.slice none 0 0:=by cases h0;rfl
 have hv:v=.int .i64 k:=by cases h1;rfl
 subst hu hv;by_cases hk:k=0
 .subst hk;refine(atP w).mono λe w' hh=>?_;obtain⟨rfl,rfl⟩:=hh;refine⟨_,H,rfl,.refl H,aE,.refl _ _,λ_ _ _ h=>.inl h,λ_ _ h=>.inl h,?_⟩;exact⟨[],[],rfl,⟨by simp,.inl ⟨rfl,rfl⟩⟩,⟨λ_=>undef,λi x hx=>by simp at hx,λi j u hi=>by simp at hi⟩,λk hk=>by cases hk⟩
 .refine(atO k w (by omega) (by omega)).mono λe w' hh=>?_;obtain⟨v',rfl,dv,hb⟩:=hh;refine⟨v',H,rfl,.refl H,aE.below hb,hb,λ_ _ _ h=>.inl h,λ_ _ h=>.inl h,?_⟩;refine⟨[],[],rfl,dv,⟨λ_=>undef,λi x hx=>by simp at hx,λi j u hi=>by simp at hi⟩,λk hk=>?_⟩;have bu:=(dv.lt k hk).1;refine⟨λo=>?_,?_⟩
  .cases hc:H.c k o with
   |none=>rfl
   |some u=>have:=World.block_lt_of_cell? w (a:=⟨k,o,none⟩) (aE.c _ _ _ hc);simp at this;omega
  .cases hc:H.m k with
   |none=>rfl
   |some u=>rcases aE.m _ _ hc with⟨arr,clock,x,g1,_⟩|⟨_,g1⟩<;>(have:=(ij.1 g1).1;omega)
def bF (day:Int):Int×Int×Int:=
 let n:=day+730425
 let e:=n/146097
 let r:=n%146097
 let y:=(r-r/1460+r/36524-r/146096)/365
 let r:=r-(365*y+y/4-y/100)
 let m:=(5*r+2)/153
 let MW:=r-(153*m+2)/5+1
 let month:=if 12<m+3 then m+3-12 else m+3
 (if month<3 then y+400*e+1 else y+400*e,month,MW)
def np (rest feasts shut:List Int)(day:Int):Bool:=
 !rest.contains ((day+5)%7)&&(!feasts.contains (100*(bF day).2.1+(bF day).2.2)&& !shut.contains day)
def afj (rest feasts shut:List Int)(a b:Int):List Int:=((List.range (b-a+1).toNat).map λ(k:Nat)=>a+k).filter (np rest feasts shut)
def Ad (d:D):List Int:=d.l.map D.i
def afk (ds:List D):List D:=
 let c:=(ds.getD 2 .none).deref
 (afj (Ad (c.c 3)) (Ad (c.c 4)) (Ad (c.c 5)) (ds.getD 0 .none).deref.i (ds.getD 1 .none).deref.i).map λd=>.tup [.int d]
def Bi (r:D)(city:Int):Int:=if 0<=city/\city<(r.c 1).l.length then(((r.c 1).l.getD city.toNat .none).c 1).i else-1
def XC (ds:List D):D:=
 let r:=ds.getD 0 .none
 let forum:=(ds.getD 1 .none).i
 let c:=ds.getD 2 .none
 let s:=(c.c 15).l.getD (c.c 19).i.toNat .none
 let who:=(s.c 2).i
 if who<0\/(r.c 3).l.length<=who\/forum<0\/(r.c 4).l.length<=forum then .list [] else
 let out:=[forum,Bi r (s.c 7).i,Bi r (c.c 10).i,Bi r (c.c 9).i,Bi r (((r.c 3).l.getD who.toNat .none).c 1).i]
 if(-1)∈out then .list [] else ints out
def afJ:List (Nat×(bf->List D->Option D)):=[(254,λ_ ds=>M8 ds),(128,DH (ab KI) (ab KJ) XC),(244,Hh (ab uo) 1000 1 afk)]
def ext:Nat->Option (bf->List D->Option D):=bV afJ
def aC5:TabOK ctx tab ext:=by
 refine⟨clos,its,λf pc _ h=>aC6 f pc h,λf g hg V hΦ gC ds d h=>?_⟩
 have:=VY (R:=λf (g:bf->List D->Option D)=>∀V,dS ctx V->gP ctx V->∀ds d,g V ds=some d->(∀s,ctx.sig f=some s->Ro ctx f s ds d)/\
  ∀cs ys,ctx.cap f=some cs->oT cs.args cs.res=some ys->∃xs,d=.list xs/\(∀x,x∈xs->∃cO,x=.tup cO/\cO.length=ys.length)/\mN ctx f cs.caps ys ds xs) (l:=afJ)
  ⟨λV hΦ gC ds d h=>⟨λs hs=>by obtain⟨s',h1,h2⟩:=atN ds d h;rw[hs] at h1;cases h1;exact h2,λcs ys hc hi=>by cases hc⟩,
   λV hΦ gC ds d h=>⟨λs hs=>by cases hs;exact⟨λ_=>azN clos hΦ gC Tryz.func128 (au KI aja) (au KJ ajb) h,λaP dQ hm=>by cases hm⟩,λcs ys hc hi=>by cases hc⟩,
   λV hΦ gC ds d h=>⟨λs hs=>(by cases hs),λcs ys hc hi=>by
    cases hc;cases hi;exact awX clos hΦ gC Tryz.func244 aqc h rfl⟩,trivial⟩ f g hg
 exact this V hΦ gC ds d h
abbrev T:cS:=eE tab ext
theorem zyt {ds:List D}{d:D}{t:PT}(k:Nat){f:Nat}{x:PC}(he:tree x=t)(h:aL (eE tab ext) t (ou ds) (λx=>x=.ret d))(hl:DR[k]?=some (f,x):=by kernel_rfl)(hx:ext f=none:=by rfl):ah (eE tab ext) f ds d:=.of_tree hx (lA k hl) he h
def ah.of_nsl {tab:Nat->Option PC}{ext:Nat->Option (bf->List D->Option D)}{f:Nat}{pa pb:PC}{spec:List D->D}{ds:List D}{ta tb:PT}(hx:ext f=some (DH pa pb spec))(hta:tree pa=ta)(htb:tree pb=tb)
 (h:(∃xs,xs≠[]/\spec ds=.list xs/\aL (eE tab ext) ta (ou ds) (λx=>x=.ret (.list xs)))\/(spec ds=.list []/\aL (eE tab ext) tb (ou ds) (λx=>x=.ret (.list [])))):ah (eE tab ext) f ds (spec ds):=by
 refine ah.of_ext hx ?_;rcases h with⟨xs,h1,h2,h3⟩|⟨h2,h3⟩
 .obtain⟨x,rfl,n0,hn⟩:=Rb (c:=pa) (hta▸h3);refine⟨n0,λn hle=>?_⟩;unfold DH;rw[if_pos (.inl ⟨n,xs,hn n hle,h1,h2⟩)]
 .obtain⟨x,rfl,n0,hn⟩:=Rb (c:=pb) (htb▸h3);refine⟨n0,λn hle=>?_⟩;unfold DH;rw[if_pos (.inr ⟨n,hn n hle,h2⟩)]
end Rm
namespace Rm
open Go Go.Proofs Cx
def fl (n:Nat)(p:Nat->Bool):Bool:=(List.range n).all p
def aeE {n:Nat}{p:Nat->Bool}(h:∀k,k<n->p k=true):fl n p=true:=fe.2 λk hk=>h k (gR.1 hk)
def apq {n k:Nat}{p:Nat->Bool}(hk:k<n)(h:p k=false):fl n p=false:=List.all_eq_false.2 ⟨k,gR.2 hk,by simp[h]⟩
def v8 {n:Nat}{p:Nat->Bool}:fl n p=true↔∀k,k<n->p k=true:=⟨λh k hk=>fe.1 h k (gR.2 hk),aeE⟩
def gd (n:Nat)(f:Nat->Int):Int:=(((List.range n).map f).find? λx=>x !=0).getD 0
def TU {n:Nat}{f:Nat->Int}(h:∀k,k<n->f k=0):gd n f=0:=by
 unfold gd;rw[tV.2]
 .rfl
 .intro x hx;obtain⟨k,hk,rfl⟩:=fF.1 hx;simp[h k (gR.1 hk)]
def TS {n k:Nat}{f:Nat->Int}(hk:k<n)(hj:∀j,j<k->f j=0)(h:f k≠0):gd n f=f k:=by
 unfold gd;have e:List.range n=List.range k++k::(List.range' (k+1) (n-k-1)):=by
  rw[RA,RA,<-Rz];have:=List.range'_append_1 (s:=0) (m:=k) (n:=n-k-1+1);rw[jh] at this;rw[this];congr 1;omega
 rw[e,vP,List.find?_append,tV.2,Option.none_or,j6,List.find?_cons_of_pos (by simpa using h)]
 .rfl
 .intro x hx;obtain⟨j,wQ,rfl⟩:=fF.1 hx;simp[hj j (gR.1 wQ)]
def M4 {n:Nat}{f:Nat->Int}:gd n f=0↔∀k,k<n->f k=0:=by
 refine⟨λh k=>?_,TU⟩
 induction k using Nat.strongRecOn with
 |ind k ih=>
  intro hk;refine EA λaI=>?_;rw[TS hk (λj hj=>ih j hj (by omega)) aI] at h;exact aI h
section
variable {T:cS} {id:Nat} {bN bM lr lo:List Nat} {a:PC} {Z:Env} {Q:Out->Prop}
def gM (N:Nat)(p:Nat->Bool)(str fW:Nat->List D)(h0:lr.map Z.r=str 0/\lo.map Z.o=fW 0)
 (step:∀k,k<N->p k=true->aL T (round id bN bM lr lo a) (Z.put lr (str k) lo (fW k)) (fN Z id bN bM lr lo (λvr vo=>vr=str (k+1)/\vo=fW (k+1)) Q))
 (bad:∀k,k<N->p k=false->fl N p=false->aL T (round id bN bM lr lo a) (Z.put lr (str k) lo (fW k)) (fN Z id bN bM lr lo (λ_ _=>False) Q))
 (last:fl N p=true->aL T (round id bN bM lr lo a) (Z.put lr (str N) lo (fW N)) (fN Z id bN bM lr lo (λ_ _=>False) Q)):aG T (.block id bN bM (.loop lr lo a)) Z Q:=
 .scan N (λk=>p k=true) str fW h0 (λk hk _ h=>step k hk h) (λk hk _ h=>bad k hk (by simpa using h) (apq hk (by simpa using h))) (λh=>last (aeE h))
def pB (N:Nat)(f:Nat->Int)(str fW:Nat->List D)(h0:lr.map Z.r=str 0/\lo.map Z.o=fW 0)
 (step:∀k,k<N->f k=0->aL T (round id bN bM lr lo a) (Z.put lr (str k) lo (fW k)) (fN Z id bN bM lr lo (λvr vo=>vr=str (k+1)/\vo=fW (k+1)) Q))
 (bad:∀k,k<N->f k≠0->gd N f=f k->aL T (round id bN bM lr lo a) (Z.put lr (str k) lo (fW k)) (fN Z id bN bM lr lo (λ_ _=>False) Q))
 (last:gd N f=0->aL T (round id bN bM lr lo a) (Z.put lr (str N) lo (fW N)) (fN Z id bN bM lr lo (λ_ _=>False) Q)):aG T (.block id bN bM (.loop lr lo a)) Z Q:=
 .scan N (λk=>f k=0) str fW h0 (λk hk _ h=>step k hk h) (λk hk hj h=>bad k hk h (TS hk hj h)) (λh=>last (TU h))
end
def be {k n:Nat}(h:k<n)(hn:n<=4294967296):IntKind.i64.wrap ((k:Int)+1)=(k:Int)+1:=ax (by omega)
def yF {k:Nat}(hn:k<=4294967296):IntKind.i64.wrap ((k:Int)-1)=(k:Int)-1:=ax (by omega)
def aB (i n:Int):Bool:=decide (0<=i)&&decide (i<n)
def wi (n a b:Int):Bool:=decide (a<=n)&&decide (n<=b)
def gu (i n:Int):ah T 57 [.int i,.int n] (.bool (aB i n)):=by
 refine zyt 24 aGa ?_;simp[acI,aB];by_cases h:0<=i<;>simp[h]
def rK (i n:Int):ah T 80 [.int i,.int n] (.bool (aB i n)):=by
 refine zyt 12 aGo ?_;simp[acV,aB];by_cases h:0<=i<;>simp[h]
def cI (n a b:Int):ah T 150 [.int n,.int a,.int b] (.bool (wi n a b)):=by
 refine zyt 158 aEU ?_;simp[abF,wi];by_cases h:a<=n<;>simp[h]
def idx_eq {α:Type}[DecidableEq α]{l:List α}{x z:α}{k:Nat}(hk:k<l.length)(hj:∀j,j<k->l.getD j z≠x)(h:¬l.getD k z≠x):x∈l/\l.findIdx (λy=>decide (y=x))=k:=by
 have e:l[k]=x:=by simpa [hk] using h
 refine⟨e▸bR hk,(List.findIdx_eq hk).2 ⟨by simp[e],λj m5=>?_⟩⟩;have iT:j<l.length:=by omega
 simpa [iT] using hj j m5
def ahE {α:Type}[DecidableEq α]{l:List α}{x z:α}(hj:∀j,j<l.length->l.getD j z≠x):¬x∈l:=λhm=>by
 obtain⟨j,iT,rfl⟩:=gQ hm;have:=hj j iT;simp[iT] at this
def xm {α:Type}[DecidableEq α](l:List α)(x:α):Int:=if x∈l then(l.findIdx (λy=>decide (y=x)):Nat) else-1
def hasB {α:Type}[DecidableEq α](l:List α)(x:α):Bool:=l.any λy=>decide (y=x)
def Ul {α:Type}[DecidableEq α]{l:List α}{x:α}:hasB l x=true↔x∈l:=by simp[hasB]
def agk {α:Type}[DecidableEq α]{l:List α}{x:α}:hasB l x=false↔¬x∈l:=by rw[<-Ul];simp
def ahD {α:Type}[DecidableEq α](l:List α)(x:α):decide (0<=xm l x)=hasB l x:=by
 unfold xm;by_cases h:x∈l
 .rw[Ul.2 h];simp[h]
 .rw[agk.2 h];simp[h]
@[simp] def aK4 (a b:ByteArray):zc .eql a b=decide (a=b):=by
  simp only[zc,ByteArray.toList_eq];by_cases h:a=b
  .subst h;simp
  .rw[decide_eq_false h,beq_eq_false_iff_ne];intro e;have:a.data=b.data:=by rw[<-yI];exact e
   exact h (by cases a;cases b;cases this;rfl)
@[simp] def aLW (Z:Env)(x i:PE):PE.ev Z (.sidx x i)=.v (.int .u8 ((PE.ev Z x).s.data.getD (PE.ev Z i).i.toNat 0).toNat):=zyw
@[simp] def aL0 (Z:Env)(x i:PE):PE.ev Z (.sok x i)=.v (.bool (decide (0<=(PE.ev Z i).i/\(PE.ev Z i).i<(PE.ev Z x).s.size))):=zyw
@[simp] def aOP (a:ByteArray):(str a).s=a:=zyw
def aoS (l:List Int)(x:Int)(hl:l.length<=4294967296):ah T 221 [ints l,.int x] (.int (xm l x)):=by
 refine zyt 29 aGx ?_;simp[ac4];refine .scan l.length (λk=>l.getD k 0≠x) (λk=>[.int 0,.int k]) (λ_=>[]) ?_ (λk hk hj ho=>?_) (λk hk hj ho=>?_) (λhj=>?_)
 .simp
 .have hw:=be hk hl;simp[hk] at ho;have gj:¬x=l[k]:=λe=>ho e.symm;simp[ZE,Jf,hk,hw,ints,ho,gj]
 .obtain⟨hm,he⟩:=idx_eq hk hj ho;simp[hk] at ho;simp[ZE,Jf,hk,ints,ho,xm,hm,he]
 .have:=ahE hj;simp[ZE,Jf,xm,this,ints]
def yL (l:List Int)(x:Int)(hl:l.length<=4294967296):ah T 185 [ints l,.int x] (.bool (hasB l x)):=by
 refine zyt 28 aGs ?_;simp[acZ];refine⟨_,aoS l x hl,?_⟩;have:=ahD l x;simp at this ⊢;exact this
def aoT (l:List ByteArray)(x:ByteArray)(hl:l.length<=4294967296):ah T 208 [strs l,str x] (.int (xm l x)):=by
 refine zyt 68 aGy ?_;simp[ac5];refine .scan l.length (λk=>l.getD k default≠x) (λk=>[.int 0,.int k]) (λ_=>[]) ?_ (λk hk hj ho=>?_) (λk hk hj ho=>?_) (λhj=>?_)
 .simp
 .have hw:=be hk hl;simp[hk] at ho;have gj:¬x=l[k]:=λe=>ho e.symm;simp[ZF,Jg,hk,hw,strs,ho,gj]
 .obtain⟨hm,he⟩:=idx_eq hk hj ho;simp[hk] at ho;simp[ZF,Jg,hk,strs,ho,xm,hm,he]
 .have:=ahE hj;simp[ZF,Jg,xm,this,strs]
def aoK (l:List ByteArray)(x:ByteArray)(hl:l.length<=4294967296):ah T 161 [strs l,str x] (.bool (hasB l x)):=by
 refine zyt 67 aGt ?_;simp[ac0];refine⟨_,aoT l x hl,?_⟩;have:=ahD l x;simp at this ⊢;exact this
def pz (l:List Int)(a b:Int)(k:Nat):Bool:=wi (l.getD k 0) a b&&(k==0||decide (l.getD (k-1) 0<l.getD k 0))
def rising (l:List Int)(a b:Int):Bool:=fl l.length (pz l a b)
def Jn (l:List Int)(a b:Int)(hl:l.length<=4294967296):ah T 103 [ints l,.int a,.int b] (.bool (rising l a b)):=by
 refine zyt 72 aGg ?_;simp[acO];refine gM l.length (pz l a b) (λk=>[.bool false,.int k]) (λ_=>[]) ?_ (λk hk ho=>?_) (λk hk ho hb=>?_) (λhj=>?_)
 .simp
 .have hw:=be hk hl;simp[pz,wi,hk] at ho;obtain⟨⟨h1,h2⟩,h3⟩:=ho;have cu:¬l[k]<a:=by omega
  have gf:¬b<l[k]:=by omega
  by_cases gY:0<k
  .have bC:k-1<l.length:=by omega
   have cl:IntKind.i64.wrap ((k:Int)-1)=((k-1:Nat):Int):=by rw[yF (by omega)];omega
   have fI:¬l[k]<=l[k-1]:=by
        rcases h3 with h3|h3
        .omega
        .simp[bC] at h3;omega
   simp[D9,x9,hk,hw,cl,ints,cu,gf,fI,gY,bC]
  .simp[D9,x9,hk,hw,ints,cu,gf,gY]
 .have hf:rising l a b=false:=hb;simp[pz,wi,hk] at ho;by_cases h1:l[k]<a
  .simp[D9,x9,hk,ints,h1,hf]
  by_cases h2:b<l[k]
  .simp[D9,x9,hk,ints,h1,h2,hf]
  have h3:=ho (by omega) (by omega);have gY:0<k:=by omega
  have bC:k-1<l.length:=by omega
  have cl:IntKind.i64.wrap ((k:Int)-1)=((k-1:Nat):Int):=by rw[yF (by omega)];omega
  have fI:=h3.2;simp[bC] at fI;simp[D9,x9,hk,cl,ints,h1,h2,fI,gY,bC,hf]
 .have hf:rising l a b=true:=hj;simp[D9,x9,hf]
def Hm (c:Int):Bool:=wi c 97 122||wi c 65 90
def As (i:Nat)(c:Int):Bool:=Hm c||(i !=0&&(decide (c=95)||wi c 48 57))
def Fq (s:ByteArray)(k:Nat):Int:=((s.data.toList.getD k 0).toNat:Nat)
def jz (s:ByteArray):Bool:=decide (1<=s.size)&&decide (s.size<=20)&&fl s.size (λk=>As k (Fq s k))
def Ks {s:ByteArray}{k:Nat}(h:k<s.data.size):(s.data[k].toNat:Int)=Fq s k:=by
 unfold Fq;rw[bn,cd (by simpa using h)];rfl
def anA {s:ByteArray}:s=⟨#[]⟩↔s.size=0:=by
 constructor
 .rintro rfl;rfl
 .intro h;cases s with|mk d=>congr;exact Rk h
def aBX (s:ByteArray):ah T 160 [str s] (.bool (jz s)):=by
 refine zyt 66 aGb ?_;simp[acJ];by_cases h0:s=⟨#[]⟩
 .have hn:jz s=false:=by simp[jz,anA.1 h0]
  rw[hn];simp[h0]
 by_cases h1:(20:Int)<s.size
 .have cu:¬s.size<=20:=by omega
  simp[h0,h1,jz,cu]
 have hz:1<=s.size:=by
  have:s.size≠0:=λe=>h0 (anA.2 e);omega
 have cu:s.size<=20:=by omega
 simp[h0,h1];refine⟨by omega,gM s.size (λk=>As k (Fq s k)) (λk=>[.bool false,.int k]) (λ_=>[]) ?_ (λk hk ho=>?_) (λk hk ho hb=>?_) (λhj=>?_)⟩
 .simp
 .have hw:=be hk (by omega);have bu:k<s.data.size:=hk;have hg:=Ks bu;simp[As,Hm,wi] at ho;simp[Zo,I0,hk,bu,hw,hg];omega
 .have bu:k<s.data.size:=hk;have hg:=Ks bu;have hn:jz s=false:=by simp[jz,hb]
  simp[As,Hm,wi] at ho;simp[Zo,I0,hk,bu,hg,hn];omega
 .have hn:jz s=true:=by simp[jz,hj,hz,cu]
  have hd:s.data.size=s.size:=rfl;simp[Zo,I0,hn,hd]
def amc (c:Int):ah T 270 [.v (.int .u8 c)] (.bool (Hm c)):=by
 refine zyt 194 aEN ?_;simp[aby,Hm,wi];by_cases h:97<=c<;>by_cases h2:c<=122<;>by_cases h3:65<=c<;>by_cases h4:c<=90<;>simp[h,h2,h3,h4]
def aAZ (s:ByteArray):ah T 255 [str s] (.bool (jz s)):=by
 refine zyt 193 aEO ?_;simp[abz];by_cases h0:(s.size:Int)<1
 .have hn:jz s=false:=by simp[jz];omega
  simp[h0,hn]
 by_cases h1:(20:Int)<s.size
 .have hn:jz s=false:=by simp[jz];omega
  simp[h0,h1,hn]
 rw[if_neg (by omega)];refine gM s.size (λk=>As k (Fq s k)) (λk=>[.bool false,.int k]) (λ_=>[]) ?_ (λk hk ho=>?_) (λk hk ho hb=>?_) (λhj=>?_)
 .simp
 .have hw:=be hk (by omega);have bu:k<s.data.size:=hk;have hg:=Ks bu;simp[As,wi] at ho;simp[YI,Ir,hk,bu,hw,hg];refine⟨_,amc _,?_⟩;simp[hw];intro g1 g2;exfalso;rcases ho with h|h
  .rw[h] at g1;cases g1
  .omega
 .have bu:k<s.data.size:=hk;have hg:=Ks bu;have hn:jz s=false:=by simp[jz,hb]
  simp[As,wi] at ho;simp[YI,Ir,hk,bu,hg,hn];refine⟨_,amc _,?_⟩;simp[ho.1];omega
 .have hn:jz s=true:=by simp[jz,hj];omega
  simp[YI,Ir,hn]
end Rm
