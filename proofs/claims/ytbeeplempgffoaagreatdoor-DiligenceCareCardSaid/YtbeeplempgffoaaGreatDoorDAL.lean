/-
  Shared texts of this claim.
-/
import Derived.Test.YtbeeplempgffoaaGreatDoorDAH
import Derived.KernelRfl
import Derived.Test.YtbeeplempgffoaaGreatDoorDAI
import Derived.Test.YtbeeplempgffoaaGreatDoorDAJ
import Derived.Test.YtbeeplempgffoaaGreatDoorDAK
import Derived.WalkKit
import Derived.WalkSpells
import Derived.Lib.SliceRun
import Derived.Lib.AppendZeros
import Derived.Laws.Strings
set_option linter.unusedVariables false
set_option maxRecDepth 100000
noncomputable section
namespace Rm
open Go Go.Proofs Cx
def zG:Option PC:=cF [8,9,12,13,14] [] Tryz.f99 99 [4,10,11,78]
def OR:Nat→PC:=aZ zG
def asg (b:Nat→PC):PC:=.block 0 [8,9,11,12,47,48,49,50,51] [10,11] (.loop [8,9,11,12] [10,11] (b 0))
def Uq (b:Nat→PC):PT:=
 (.ite (aX bQ qh)
 (.blockS ⟨[],[]⟩ 1 [8,9,11,13,14,54,55,58,59,61,62,63,64,65,66,67,70,71,73,74,77,78,79,80,81,83,84,85,86,87,94,96,97,98,99,101,102,103] [78,11,10]
 (.chk (aq nz LY)
 (.call ⟨[],[]⟩ [] 64 140 [(ah 8 o4),(pn nz LY),r2,r3]
 (.chk (aq nz LY)
 (.ite (ae tF (pn nz LY))
 (.ret (.tup [nz,(pi 0)]))
 (.chk (aX (.llen Ff) cq)
 (.ite (.nt (.tget kG 1))
 (.ret (.tup [Ff,(pi 0)]))
 (.chk (aq bY tF)
 (.chk (.nt (.an (.an (pn bY tF) pT) (.nt (aq (pc o4 4) tF))))
 (.ite (.pick (pn bY tF) (pc (pn (pc o4 4) tF) 1) pF)
 (.ret (.tup [Ff,(pi 0)]))
 (.ite (pn bY tF)
 (.ret (.tup [Ff,(pi 12)]))
 (.next ⟨[(11,pN)],[(10,(.setn bY tF 0 pT)),(11,Ff)]⟩)))))))))))
 (.next ⟨[(12,(aH bQ (pi 1)))],[]⟩))
 (.exit 0 ⟨[(47,bQ),(48,pN),(49,(pc o4 4)),(50,qh),(51,(aX bQ qh))],[]⟩))
def WY (b:Nat→PC):PT:=
 (.call ⟨[(9,(pi 0)),(8,pL)],[(4,(.mk [r0]))]⟩ [] 17 139 [fw,r3]
 (.call ⟨[(19,(.nt fy))],[]⟩ [(19,false)] 25 107 [r1,(pi 0),(aS qh (pi 1))]
 (.call ⟨[(28,(.pick gY pT (.nt dV)))],[]⟩ [(28,false)] 30 107 [r2,(pi 0),(pi 21)]
 (.ite (.pick gK pT (.nt jG))
 (.ret (.tup [pL,(pi 1)]))
 (.chk (aq r3 (pi 0))
 (.ite (aC (pn r3 (pi 0)) r1)
 (.ret (.tup [pL,(pi 1)]))
 (.chk (.an (bD qh (pi 0)) (aX qh cq))
 (.chk (ae qh qh)
 (.chk (aq (.rep qh pF) r1)
 (.brk ⟨[(12,(pi 0)),(11,pN),(10,pN)],[(10,(.setn (.rep qh pF) r1 0 pT)),(11,(.lst [r1]))]⟩
(asg b)
 (.ret (.tup [nz,(pi 12)]))))))))))))
def anc (b:Nat→PC):PT×List (Shp×PT):=(WY b,[(.lp 0 [8,9,11,12,47,48,49,50,51] [10,11] [8,9,11,12] [10,11],Uq b)])
theorem Sc:zG.map told=some (anc (bl zG)):=by kernel_rfl
theorem ayS:tree (ab zG)=WY OR:=bE Sc
theorem avA:round 0 [8,9,11,12,47,48,49,50,51] [10,11] [8,9,11,12] [10,11] (OR 0)=Uq OR:=aT Sc 0 fun _=>rfl
def zH:Option PC:=cF [4,5] [] Tryz.f139 139 [2]
def OS:Nat→PC:=aZ zH
def ash (b:Nat→PC):PC:=.block 0 [4,5,6,7,8,9] [] (.loop [4,5] [] (b 0))
def MC (b:Nat→PC):PT:=
 (.ite (ao r5 (.llen r1))
 (.blockS ⟨[],[]⟩ 1 [4,12,13,14,15,16,17,18,19,20,21] []
 (.chk (aq r1 r5)
 (.call ⟨[],[]⟩ [] 20 107 [(pn r1 r5),(pi 0),(aS (.llen (pc o2 4)) (pi 1))]
 (.ite (.nt dU)
 (.ret pF)
 (.next ⟨[],[]⟩))))
 (.next ⟨[(5,oK)],[]⟩))
 (.exit 0 ⟨[(6,r5),(7,r1),(8,(.llen r1)),(9,(ao r5 (.llen r1)))],[]⟩))
def W0 (b:Nat→PC):PT:=
 (.brk ⟨[(5,(pi 0)),(4,pF)],[(2,(.mk [r0]))]⟩
(ash b)
 (.ret (ae (.llen r1) (pi 5))))
def ane (b:Nat→PC):PT×List (Shp×PT):=(W0 b,[(.lp 0 [4,5,6,7,8,9] [] [4,5] [],MC b)])
theorem Sd:zH.map told=some (ane (bl zH)):=by kernel_rfl
theorem ayU:tree (ab zH)=W0 OS:=bE Sd
theorem ahc:round 0 [4,5,6,7,8,9] [] [4,5] [] (OS 0)=MC OS:=aT Sd 0 fun _=>rfl
def IW:Option PC:=cF [8,9] [] Tryz.f140 140 [4,10]
def WZ:PT:=
 (.call ⟨[],[(4,(.mk [r0]))]⟩ [] 13 139 [fw,r3]
 (.call ⟨[(15,(.nt cO))],[]⟩ [(15,false)] 21 107 [r1,(pi 0),(aS qh (pi 1))]
 (.call ⟨[(24,(.pick df pT (.nt iP)))],[]⟩ [(24,false)] 26 107 [r2,(pi 0),(pi 21)]
 (.ite (.pick lh pT (.nt jE))
 (.ret (.tup [(pi (-1)),pF]))
 (.chk (aq (pc o4 4) r1)
 (.call ⟨[],[]⟩ [] 35 163 [(pn (pc o4 4) r1),r2]
 (.ite (ae (pc (.setc tE 0 nH) 1) (pi 0))
 (.ret (.tup [r1,pF]))
 (.chk (aq r3 (pc (.setc tE 0 nH) 1))
 (.ret (.tup [(pn r3 (pc (.setc tE 0 nH) 1)),(pc (.setc tE 0 nH) 2)]))))))))))
theorem ae1:IW.map told=some (WZ,[]):=by kernel_rfl
theorem ayT:tree (ab IW)=WZ:=aF ae1
def zF:Option PC:=cF [5] [] Tryz.f163 163 [2,4]
def OQ:Nat→PC:=aZ zF
def asf (b:Nat→PC):PC:=.block 0 [5,6,7,8,9,10] [4] (.loop [5] [4] (b 0))
def Gb (b:Nat→PC):PT:=
 (.ite (ao r5 BD)
 (.chk (aq (pc o2 2) r5)
 (.ite (ae (pc (pn (pc o2 2) r5) 0) r1)
 (.ret (.mk [(pc (.setc o4 0 (pn (pc o2 2) r5)) 0),(pc (.setc o4 0 (pn (pc o2 2) r5)) 1),(pc (.setc o4 0 (pn (pc o2 2) r5)) 2)]))
 (.next ⟨[(5,oK)],[]⟩)))
 (.exit 0 ⟨[(6,r5),(7,pN),(8,(pc o2 2)),(9,BD),(10,(ao r5 BD))],[]⟩))
def WX (b:Nat→PC):PT:=
 (.brk ⟨[(5,(pi 0))],[(4,tE),(2,(.mk [r0]))]⟩
(asf b)
 (.ret (.mk [(pc (.setc o4 0 (.mk [r1,(pi 0),pF])) 0),(pc (.setc o4 0 (.mk [r1,(pi 0),pF])) 1),(pc (.setc o4 0 (.mk [r1,(pi 0),pF])) 2)])))
def anb (b:Nat→PC):PT×List (Shp×PT):=(WX b,[(.lp 0 [5,6,7,8,9,10] [4] [5] [4],Gb b)])
theorem Sb:zF.map told=some (anb (bl zF)):=by kernel_rfl
theorem ayR:tree (ab zF)=WX OQ:=bE Sb
theorem Up:round 0 [5,6,7,8,9,10] [4] [5] [4] (OQ 0)=Gb OQ:=aT Sb 0 fun _=>rfl
def IS:Option PC:=cF [7,8] [] Tryz.f100 100 [3,6,9]
def WR:PT:=
 (.call ⟨[],[(6,cr),(3,(.mk [r0]))]⟩ [] 12 141 [(ah 4 (.mk [r0])),r1]
 (.ite (aC bQ (pi 0))
 (.ret (.tup [L5,bQ]))
 (.call ⟨[(18,(pc o3 3))],[]⟩ [] 21 143 [(ah 4 o3),r1]
 (.chk (aq fW iP)
 (.call ⟨[],[]⟩ [] 26 142 [(.sub (pn fW iP) 1 3),r2]
 (.call ⟨[(29,(pc xT 0))],[(9,xT)]⟩ [(29,true)] 31 144 [r1]
 (.ret (.tup [(.mk [(pc (.setc o6 0 (.mk [(pc LX 0),(pc LX 1)])) 0),(pc (.setc o6 0 (.mk [(pc LX 0),(pc LX 1)])) 1)]),(pi 0)]))))))))
theorem aeX:IS.map told=some (WR,[]):=by kernel_rfl
theorem ayL:tree (ab IS)=WR:=aF aeX
def IV:Option PC:=cF [4,5,6,7,8,9] [] Tryz.f141 141 [2]
def WW:PT:=
 (.call ⟨[],[(2,(.mk [r0]))]⟩ [] 11 98 [r1]
 (.ite (.nt bW)
 (.ret (pi 1))
 (.call ⟨[],[]⟩ [] 15 143 [(ah 4 o2),r1]
 (.ite (ao df (pi 0))
 (.ret (pi 4))
 (.chk (aq (pc o2 3) df)
 (.call ⟨[],[]⟩ [] 25 164 [(.sub (pn (pc o2 3) df) 1 3)]
 (.call ⟨[(7,(.tget dV 1)),(6,(.tget dV 0))],[]⟩ [] 30 165 [r1]
 (.ite (.pick (aC r7 (pi 0)) pT (aC r6 (.tget jG 0)))
 (.ret (pi 11))
 (.ret (pi 0))))))))))
theorem ae0:IV.map told=some (WW,[]):=by kernel_rfl
theorem ayQ:tree (ab IV)=WW:=aF ae0
def zE:Option PC:=cF [4,5] [] Tryz.f143 143 [2]
def OP:Nat→PC:=aZ zE
def ase (b:Nat→PC):PC:=.block 0 [4,5,6,7,8,9,10] [] (.loop [4,5] [] (b 0))
def Ga (b:Nat→PC):PT:=
 (.ite (ao r5 (.llen (pc o2 3)))
 (.chk (aq (pc o2 3) r5)
 (.ite (ae (pc (pn (pc o2 3) r5) 0) r1)
 (.ret r5)
 (.next ⟨[(5,oK)],[]⟩)))
 (.exit 0 ⟨[(6,r5),(7,pN),(8,(pc o2 3)),(9,(.llen (pc o2 3))),(10,(ao r5 (.llen (pc o2 3))))],[]⟩))
def WU (b:Nat→PC):PT:=
 (.brk ⟨[(5,(pi 0)),(4,(pi 0))],[(2,(.mk [r0]))]⟩
(ase b)
 (.ret (pi (-1))))
def ana (b:Nat→PC):PT×List (Shp×PT):=(WU b,[(.lp 0 [4,5,6,7,8,9,10] [] [4,5] [],Ga b)])
theorem Sa:zE.map told=some (ana (bl zE)):=by kernel_rfl
theorem ayO:tree (ab zE)=WU OP:=bE Sa
theorem Uo:round 0 [4,5,6,7,8,9,10] [] [4,5] [] (OP 0)=Ga OP:=aT Sa 0 fun _=>rfl
def IC:Option PC:=cF [2,3] [] Tryz.f164 164 [1]
def WJ:PT:=
 (.call ⟨[],[(1,(.mk [r0]))]⟩ [] 5 147 [Fe,(pi 60),(pi 8)]
 (.ite (ao r5 (pi 0))
 (.ret (.tup [(pi 0),(pi 6)]))
 (.call ⟨[],[]⟩ [] 8 190 [Mb]
 (.ret (.tup [(.tget r8 0),(.tget r8 1)])))))
theorem aeK:IC.map told=some (WJ,[]):=by kernel_rfl
theorem ayw:tree (ab IC)=WJ:=aF aeK
def zC:Option PC:=cF [2,3,5,6,7,8,9,10] [] Tryz.f190 190 [1,4,33]
def ON:Nat→PC:=aZ zC
def asc (b:Nat→PC):PC:=.block 0 [2,3,4,5,12,13,14,15,16] [4] (.loop [2,3,4,5] [4] (b 0))
def F8 (b:Nat→PC):PT:=
 (.ite (ao r5 nE)
 (.blockS ⟨[],[]⟩ 1 [2,3,4,6,7,19,20,21,22,23,24,25,26,27,28,29,32,33,34] [4,33]
 (.chk (aq (pc o1 2) r5)
 (.call ⟨[],[]⟩ [] 25 190 [(pn (pc o1 2) r5)]
 (.ite (aC (.tget dV 1) (pi 0))
 (.ret (.tup [(pi 0),(.tget dV 1)]))
 (.chk (aX (.llen (.app o4 (.lst [(.tget dV 0)]))) cq)
 (.next ⟨[(4,pN)],[(4,(.app o4 (.lst [(.tget dV 0)])))]⟩)))))
 (.next ⟨[(5,oK)],[]⟩))
 (.exit 0 ⟨[(12,r5),(13,pN),(14,(pc o1 2)),(15,nE),(16,(ao r5 nE))],[]⟩))
def WQ (b:Nat→PC):PT:=
 (.brk ⟨[(5,(pi 0)),(4,pN),(3,(pi 0)),(2,(pi 0))],[(4,(.lst [])),(1,(.mk [r0]))]⟩
(asc b)
 (.ite (.pick (ao (pc o1 0) (pi 0)) pT (bD (pc o1 0) (pi 14)))
 (.ret (.tup [(pi 0),(pi 1)]))
 (.call ⟨[],[]⟩ [] 45 209 [(pc o1 0)]
 (.ite (.pick (aC (.llen o4) ll) pT (.pick (aP ll (pi 0)) (aC (pc o1 1) (pi 0)) pF))
 (.ret (.tup [(pi 0),(pi 2)]))
 (.iteS ⟨[],[]⟩ (ae ll (pi 0)) [2,3] []
 (.call ⟨[],[]⟩ [] 62 210 [Mb]
 (.ret (.tup [(.tget kF 0),(.tget kF 1)])))
 (.next ⟨[],[]⟩)
 (.call ⟨[],[]⟩ [] 69 211 [(pc o1 0),o4]
 (.ite (.nt (.tget tL 1))
 (.ret (.tup [(pi 0),(pi 11)]))
 (.ret (.tup [(.tget tL 0),(pi 0)])))))))))
def am8 (b:Nat→PC):PT×List (Shp×PT):=(WQ b,[(.lp 0 [2,3,4,5,12,13,14,15,16] [4] [2,3,4,5] [4],F8 b)])
theorem R8:zC.map told=some (am8 (bl zC)):=by kernel_rfl
theorem ayK:tree (ab zC)=WQ ON:=bE R8
theorem Um:round 0 [2,3,4,5,12,13,14,15,16] [4] [2,3,4,5] [4] (ON 0)=F8 ON:=aT R8 0 fun _=>rfl
def IK:Option PC:=cF [2,4,8,10] [] Tryz.f209 209 []
def vK:PT:=
 (.ite (.pick (ae r0 (pi 0)) (ae r0 (pi 0)) (.pick (ae r0 (pi 1)) (ae r0 (pi 1)) (ae r0 (pi 2))))
 (.ret (pi 0))
 (.ite (ae r0 (pi 3))
 (.ret (pi 1))
 (.ite (ae r0 (pi 6))
 (.ret (pi 3))
 (.ret (pi 2)))))
theorem aeR:IK.map told=some (vK,[]):=by kernel_rfl
theorem ayD:tree (ab IK)=vK:=aF aeR
def IM:Option PC:=cF [2,3,4,5] [] Tryz.f210 210 [1]
def vL:PT:=
 (.ite (ae iO (pi 0))
 (.ite (.pick (ao jc (pi (-1099511627776))) pT (aP jc qg))
 (.ret (.tup [(pi 0),(pi 3)]))
 (.ret (.tup [(pi 0),(pi 0)])))
 (.ite (ae iO (pi 1))
 (.ite (.pick (aC jc (pi 0)) (aC jc (pi 1)) pF)
 (.ret (.tup [(pi 0),(pi 3)]))
 (.ret (.tup [(pi 1),(pi 0)])))
 (.call ⟨[],[]⟩ [] 31 212 [jc]
 (.ite (.nt (.tget lj 1))
 (.ret (.tup [(pi 0),(pi 10)]))
 (.ret (.tup [(.tget lj 0),(pi 0)]))))))
theorem aeT:IM.map told=some (vL,[]):=by kernel_rfl
theorem ayG:tree (ab IM)=vL:=aF aeT
def IJ:Option PC:=cF [2,3] [] Tryz.f212 212 []
def B9:PT:=
 (.ite (.pick ya pT (bD r0 (pi 20)))
 (.ret (.tup [(pi 0),pF]))
 (.ite (aX r0 (pi 6))
 (.ret (.tup [(pi 0),pT]))
 (.ret (.tup [(pi 1),pT]))))
theorem aeQ:IJ.map told=some (B9,[]):=by kernel_rfl
theorem ayC:tree (ab IJ)=B9:=aF aeQ
def IL:Option PC:=cF [4,5,7,13,26,44,56] [] Tryz.f211 211 []
def tW:PT:=
 (.ite (ae r0 (pi 3))
 (.chk rv
 (.ret (.tup [(pi 1),BB])))
 (.ite (.pick (ae r0 (pi 4)) (ae r0 (pi 4)) (ae r0 (pi 5)))
 (.chk rv
 (.chk (.nt (.an (.an BB pT) (.nt qj)))
 (.ret (.tup [(pi 1),(.pick BB (ae kD (pi 1)) pF)]))))
 (.ite (ae r0 (pi 6))
 (.chk qj
 (.chk rv
 (.chk (.nt (.an (.an BB pT) (.nt qj)))
 (.chk (.nt (.an (.an BB pT) (.nt (aq r1 (pi 2)))))
 (.ret (.tup [kD,(.pick BB (ae kD (pn r1 (pi 2))) pF)]))))))
 (.ite (ae r0 (pi 7))
 (.chk rv
 (.chk (.nt (.an (.an (ae nC (pi 0)) pT) (.nt qj)))
 (.ret (.tup [(pi 1),(.pick (ae nC (pi 0)) (ae kD (pi 0)) pF)]))))
 (.ite (ae r0 (pi 8))
 (.chk rv
 (.chk qj
 (.ret (.tup [(pi 1),(ae nC kD)]))))
 (.chk rv
 (.chk (.nt (.an (.an (ae nC (pi 0)) pT) (.nt qj)))
 (.ret (.tup [(pi 0),(.pick (ae nC (pi 0)) (ae kD (pi 0)) pF)])))))))))
theorem aeS:IL.map told=some (tW,[]):=by kernel_rfl
theorem ayF:tree (ab IL)=tW:=aF aeS
def IU:Option PC:=cF [2,3] [] Tryz.f165 165 []
def WV:PT:=
 (.call ⟨[],[]⟩ [] 5 98 [r0]
 (.ite (.nt r5)
 (.ret (.tup [(pi 0),pF]))
 (.call ⟨[],[]⟩ [] 8 144 [r0]
 (.ite r8
 (.ret (.tup [(pi 1),pT]))
 (.ret (.tup [(pi 0),pT]))))))
theorem aeZ:IU.map told=some (WV,[]):=by kernel_rfl
theorem ayP:tree (ab IU)=WV:=aF aeZ
def Ip:Option PC:=cF [2,4] [] Tryz.f144 144 []
def No:PT:=
 (.ite (.pick (ae r0 (pi 6)) (ae r0 (pi 6)) (.pick (ae r0 (pi 7)) (ae r0 (pi 7)) (.pick (ae r0 (pi 10)) (ae r0 (pi 10)) (.pick (ae r0 (pi 12)) (ae r0 (pi 12)) (.pick (ae r0 (pi 13)) (ae r0 (pi 13)) (.pick (ae r0 (pi 14)) (ae r0 (pi 14)) (.pick (ae r0 (pi 15)) (ae r0 (pi 15)) (.pick (ae r0 (pi 16)) (ae r0 (pi 16)) (.pick (ae r0 (pi 20)) (ae r0 (pi 20)) (ae r0 (pi 21)))))))))))
 (.ret pF)
 (.call ⟨[],[]⟩ [] 16 107 [r0,(pi 0),(pi 21)]
 (.ret dA)))
theorem aex:Ip.map told=some (No,[]):=by kernel_rfl
theorem ax3:tree (ab Ip)=No:=aF aex
def IE:Option PC:=cF [5,6] [] Tryz.f142 142 [2,4]
def WK:PT:=
 (.call ⟨[],[(4,cr),(2,(.mk [r0]))]⟩ [] 9 164 [Fe]
 (.ite (aC (.tget r9 1) (pi 0))
 (.ret tD)
 (.call ⟨[],[]⟩ [] 17 166 [(.mk [(pc o2 0),(pc o2 1),(pc o2 2)]),r1]
 (.ret (.mk [(pc (.setc o4 0 fy) 0),(pc (.setc o4 0 fy) 1)])))))
theorem aeM:IE.map told=some (WK,[]):=by kernel_rfl
theorem ayy:tree (ab IE)=WK:=aF aeM
def zB:Option PC:=cF [9,15,6,41,55,64,73] [] Tryz.f166 166 [2,4,5,37]
def OL:Nat→PC:=aZ zB
def asa (b:Nat→PC):PC:=.block 1 [5,6,22,23,24,25,26] [5] (.loop [5,6] [5] (b 0))
def qn (b:Nat→PC):PT:=
 (.ite (ao r6 BD)
 (.blockS ⟨[],[]⟩ 2 [5,30,31,32,33,34,35,36,37,38] [5,37]
 (.chk (aq (pc o2 2) r6)
 (.call ⟨[],[]⟩ [] 36 166 [(pn (pc o2 2) r6),r1]
 (.chk (aX (.llen (.app o5 (.lst [jH]))) cq)
 (.next ⟨[(5,pN)],[(5,(.app o5 (.lst [jH])))]⟩))))
 (.next ⟨[(6,x9)],[]⟩))
 (.exit 1 ⟨[(22,r6),(23,pN),(24,(pc o2 2)),(25,BD),(26,(ao r6 BD))],[]⟩))
def GZ (b:Nat→PC):PT:=
 (.blockS ⟨[(8,iO)],[(4,cr),(2,(.mk [r0]))]⟩ 0 [9,10,15,16] [4]
 (.iteS ⟨[],[]⟩ (.pick (ae r8 (pi 0)) (ae r8 (pi 0)) (ae r8 (pi 1))) [15,16] [4]
 (.ret (.mk [(pc (.setc o4 0 (.mk [pT,(pc o2 1)])) 0),(pc (.setc o4 0 (.mk [pT,(pc o2 1)])) 1)]))
 (.iteS ⟨[],[]⟩ (ae r8 (pi 2)) [] [4]
 (.call ⟨[],[]⟩ [] 20 191 [(pc o2 1),r1]
 (.ret (.mk [(pc (.setc o4 0 dU) 0),(pc (.setc o4 0 dU) 1)])))
 (.next ⟨[],[]⟩)
 (.next ⟨[],[]⟩))
 (.next ⟨[],[]⟩))
 (.brk ⟨[(6,(pi 0)),(5,pN)],[(5,(.lst []))]⟩
(asa b)
 (.blockS ⟨[(40,(pc o2 0))],[]⟩ 3 [41,42,55,56,64,65,73,74] [4]
 (.iteS ⟨[],[]⟩ (ae lS (pi 3)) [55,56,64,65,73,74] [4]
 (.chk (aq o5 (pi 0))
 (.ite (.nt (pc oL 0))
 (.ret tD)
 (.ret (.mk [(pc (.setc o4 0 (.mk [pT,(aS (pi 1) (pc oL 1))])) 0),(pc (.setc o4 0 (.mk [pT,(aS (pi 1) (pc oL 1))])) 1)]))))
 (.iteS ⟨[],[]⟩ (ae lS (pi 4)) [64,65,73,74] [4]
 (.chk (aq o5 (pi 0))
 (.chk (aq o5 (pi 1))
 (.call ⟨[],[]⟩ [] 63 192 [(.sub oL 0 2),(.sub tG 0 2),(pi 0)]
 (.ret (.mk [(pc (.setc o4 0 yi) 0),(pc (.setc o4 0 yi) 1)])))))
 (.iteS ⟨[],[]⟩ (ae lS (pi 5)) [73,74] [4]
 (.chk (aq o5 (pi 0))
 (.chk (aq o5 (pi 1))
 (.call ⟨[],[]⟩ [] 72 192 [(.sub oL 0 2),(.sub tG 0 2),(pi 1)]
 (.ret (.mk [(pc (.setc o4 0 yj) 0),(pc (.setc o4 0 yj) 1)])))))
 (.ite (ae lS (pi 6))
 (.chk (aq o5 (pi 0))
 (.ite (pc oL 0)
 (.chk (aq o5 (aS (pi 2) (pc oL 1)))
 (.ret (.mk [(pc (.setc o4 0 (.sub (pn o5 (aS (pi 2) (pc oL 1))) 0 2)) 0),(pc (.setc o4 0 (.sub (pn o5 (aS (pi 2) (pc oL 1))) 0 2)) 1)])))
 (.chk (aq o5 (pi 1))
 (.chk (.nt (.an (.an (pc tG 0) pT) (.nt (aq o5 (pi 2)))))
 (.chk (.nt (.an (.an Te pT) (.nt (aq o5 (pi 1)))))
 (.chk (.nt (.an (.an Te pT) (.nt (aq o5 (pi 2)))))
 (.ite (.pick Te (ae (pc tG 1) (pc (pn o5 (pi 2)) 1)) pF)
 (.ret (.mk [(pc (.setc o4 0 (.sub tG 0 2)) 0),(pc (.setc o4 0 (.sub tG 0 2)) 1)]))
 (.ret tD))))))))
 (.next ⟨[],[]⟩))
 (.next ⟨[],[]⟩))
 (.next ⟨[],[]⟩))
 (.next ⟨[],[]⟩))
 (.chk (aq o5 (pi 0))
 (.chk (.nt (.an (.an (.nt (.nt (pc oL 0))) pT) (.nt (aq o5 (pi 1)))))
 (.ite (.pick (.nt (pc oL 0)) pT (.nt (pc tG 0)))
 (.ret tD)
 (.chk (aq o5 (pi 1))
 (.call ⟨[],[]⟩ [] 135 193 [(pc o2 0),(pc oL 1),(pc tG 1)]
 (.ret (.mk [(pc (.setc o4 0 (.r 135)) 0),(pc (.setc o4 0 (.r 135)) 1)]))))))))))
def am6 (b:Nat→PC):PT×List (Shp×PT):=(GZ b,[(.lp 1 [5,6,22,23,24,25,26] [5] [5,6] [5],qn b)])
theorem R6:zB.map told=some (am6 (bl zB)):=by kernel_rfl
theorem ayE:tree (ab zB)=GZ OL:=bE R6
theorem tO:round 1 [5,6,22,23,24,25,26] [5] [5,6] [5] (OL 0)=qn OL:=aT R6 0 fun _=>rfl
def II:Option PC:=cF [6,7] [] Tryz.f191 191 [4,5]
def WM:PT:=
 (.ite (.pick ya pT (bD r0 (.llen r1)))
 (.ret Fj)
 (.chk (aq r1 r0)
 (.ite (.nt (pc (.setc cr 0 (pn r1 r0)) 0))
 (.ret Fj)
 (.call ⟨[],[(4,cr),(5,(.setc cr 0 (pn r1 r0)))]⟩ [] 27 212 [r0]
 (.iteS ⟨[],[]⟩ (ae (.tget eG 0) (pi 0)) [] [4]
 (.call ⟨[],[]⟩ [] 34 213 [(pc o5 1)]
 (.ret (.mk [(pc (.setc o4 0 (.mk [pT,Fw])) 0),(pc (.setc o4 0 (.mk [pT,Fw])) 1)])))
 (.next ⟨[],[]⟩)
 (.ite (aC (pc o5 1) (pi 0))
 (.ret (.mk [(pc (.setc o4 0 (.mk [pT,(pi 1)])) 0),(pc (.setc o4 0 (.mk [pT,(pi 1)])) 1)]))
 (.ret (.mk [(pc (.setc o4 0 (.mk [pT,(pi 0)])) 0),(pc (.setc o4 0 (.mk [pT,(pi 0)])) 1)]))))))))
theorem aeP:II.map told=some (WM,[]):=by kernel_rfl
theorem ayB:tree (ab II)=WM:=aF aeP
def ID:Option PC:=cF [2] [] Tryz.f213 213 []
def Nr:PT:=
 (.ret (.mx (pi (-1099511627776)) (.mn qg r0)))
theorem aeL:ID.map told=some (Nr,[]):=by kernel_rfl
theorem ayx:tree (ab ID)=Nr:=aF aeL
def IN:Option PC:=cF [] [] Tryz.f192 192 [3,4,6]
def WN:PT:=
 (.ite (.pick (.pick iO (ae jc r2) pF) pT (.pick xW (ae vl r2) pF))
 (.ret (.mk [(pc (.setc cr 0 (.mk [pT,r2])) 0),(pc (.setc cr 0 (.mk [pT,r2])) 1)]))
 (.ite (.pick iO xW pF)
 (.ret (.mk [(pc (.setc cr 0 (.mk [pT,(aS (pi 1) r2)])) 0),(pc (.setc cr 0 (.mk [pT,(aS (pi 1) r2)])) 1)]))
 (.ret Fj)))
theorem aeU:IN.map told=some (WN,[]):=by kernel_rfl
theorem ayH:tree (ab IN)=WN:=aF aeU
def IP:Option PC:=cF [8,14,20,27,34,40] [] Tryz.f193 193 [6]
def tX:PT:=
 (.blockS ⟨[(7,r0)],[(6,cr)]⟩ 0 [8,9,14,15,20,21,27,28,34,35,40,41] [6]
 (.iteS ⟨[],[]⟩ (ae r7 (pi 7)) [14,15,20,21,27,28,34,35,40,41] [6]
 (.call ⟨[],[]⟩ [] 13 214 [(ao r1 r2)]
 (.ret (.mk [(pc (.setc o6 0 cO) 0),(pc (.setc o6 0 cO) 1)])))
 (.iteS ⟨[],[]⟩ (ae r7 (pi 8)) [20,21,27,28,34,35,40,41] [6]
 (.call ⟨[],[]⟩ [] 19 214 [(ae r1 r2)]
 (.ret (.mk [(pc (.setc o6 0 gY) 0),(pc (.setc o6 0 gY) 1)])))
 (.iteS ⟨[],[]⟩ (ae r7 (pi 9)) [27,28,34,35,40,41] [6]
 (.call ⟨[],[]⟩ [] 25 213 [(aH r1 r2)]
 (.ret (.mk [(pc (.setc o6 0 (.mk [pT,dV])) 0),(pc (.setc o6 0 (.mk [pT,dV])) 1)])))
 (.iteS ⟨[],[]⟩ (ae r7 (pi 10)) [34,35,40,41] [6]
 (.call ⟨[],[]⟩ [] 32 213 [(aS r1 r2)]
 (.ret (.mk [(pc (.setc o6 0 (.mk [pT,kE])) 0),(pc (.setc o6 0 (.mk [pT,kE])) 1)])))
 (.iteS ⟨[],[]⟩ (ae r7 (pi 11)) [40,41] [6]
 (.call ⟨[],[]⟩ [] 38 215 [r1,r2]
 (.ret (.mk [(pc (.setc o6 0 (.mk [pT,jd])) 0),(pc (.setc o6 0 (.mk [pT,jd])) 1)])))
 (.ite (ae r7 (pi 12))
 (.ret (.mk [(pc (.setc o6 0 (.mk [pT,(.mn r1 r2)])) 0),(pc (.setc o6 0 (.mk [pT,(.mn r1 r2)])) 1)]))
 (.next ⟨[],[]⟩))
 (.next ⟨[],[]⟩))
 (.next ⟨[],[]⟩))
 (.next ⟨[],[]⟩))
 (.next ⟨[],[]⟩))
 (.next ⟨[],[]⟩))
 (.ret (.mk [(pc (.setc o6 0 (.mk [pT,(.mx r1 r2)])) 0),(pc (.setc o6 0 (.mk [pT,(.mx r1 r2)])) 1)])))
theorem aeV:IP.map told=some (tX,[]):=by kernel_rfl
theorem ayI:tree (ab IP)=tX:=aF aeV
def IQ:Option PC:=cF [] [] Tryz.f214 214 [2]
def WO:PT:=
 (.ite r0
 (.ret Tr)
 (.ret Ts))
theorem aeW:IQ.map told=some (WO,[]):=by kernel_rfl
theorem ayJ:tree (ab IQ)=WO:=aF aeW
def IG:Option PC:=cF [4,5,6] [] Tryz.f215 215 []
def Ns:PT:=
 (.ite (.pick (ae r0 (pi 0)) pT (ae r1 (pi 0)))
 (.ret (pi 0))
 (.chk (aC (.mx r1 (aS (pi 0) r1)) (pi 0))
 (.ite (.cb .neq ya (ao r1 (pi 0)))
 (.ret (.ai .mul .i64 (aS (pi 0) (.pick L4 qg (.mx r0 (aS (pi 0) r0)))) (.pick L4 (pi 1) (.mx r1 (aS (pi 0) r1)))))
 (.ret (.ai .mul .i64 (.pick L4 qg (.mx r0 (aS (pi 0) r0))) (.pick L4 (pi 1) (.mx r1 (aS (pi 0) r1))))))))
theorem aeO:IG.map told=some (Ns,[]):=by kernel_rfl
theorem ayA:tree (ab IG)=Ns:=aF aeO
def I3:Option PC:=cF [2] [] Tryz.f94 94 [1]
def Nu:PT:=
 (.ite (.pick (ae xX (pi 0)) iO pF)
 (.ret jc)
 (.ret (pi (-1))))
theorem ae6:I3.map told=some (Nu,[]):=by kernel_rfl
theorem ay0:tree (ab I3)=Nu:=aF ae6
def zz:Option PC:=cF [2,3,4,5,6,7] [] Tryz.f96 96 [1]
def wq:Nat→PC:=aZ zz
def ar7 (b:Nat→PC):PC:=.block 0 [2,3,13,14,15,16,17] [] (.loop [2,3] [] (b 0))
def ar8 (b:Nat→PC):PC:=.block 2 [4,5,6,33,34,35,36,37] [] (.loop [4,5,6] [] (b 1))
def ar9 (b:Nat→PC):PC:=.block 4 [4,5,7,67,68,69,70,71] [] (.loop [4,5,7] [] (b 2))
def F5 (b:Nat→PC):PT:=
 (.ite (ao r3 xU)
 (.chk (aq (pc o1 17) r3)
 (.ite (ae (pc (pn (pc o1 17) r3) 0) (pi 2))
 (.ret (pc (pn (pc o1 17) r3) 6))
 (.next ⟨[(3,tH)],[]⟩)))
 (.exit 0 ⟨[(13,r3),(14,pN),(15,(pc o1 17)),(16,xU),(17,(ao r3 xU))],[]⟩))
def yp (b:Nat→PC):PT:=
 (.ite (ao r6 (.llen (pc o1 15)))
 (.chk (aq (pc o1 15) r6)
 (.chk (.nt (.an (.an (.nt (.nt r4)) (.an (ae (pc (pn (pc o1 15) r6) 0) (pi 1)) pT)) (.nt (aq (pc o1 15) r6))))
 (.ite (.pick (ae (pc (pn (pc o1 15) r6) 0) (pi 1)) (.pick (.nt r4) pT (ao (pc (pn (pc o1 15) r6) 6) r5)) pF)
 (.next ⟨[(4,pT),(5,(pc (pn (pc o1 15) r6) 6)),(6,x9)],[]⟩)
 (.next ⟨[(6,x9)],[]⟩))))
 (.exit 2 ⟨[(33,r6),(34,pN),(35,(pc o1 15)),(36,(.llen (pc o1 15))),(37,(ao r6 (.llen (pc o1 15))))],[]⟩))
def tN (b:Nat→PC):PT:=
 (.ite (ao r7 xU)
 (.chk (aq (pc o1 17) r7)
 (.chk (.nt (.an (.an (.nt (.nt r4)) (.an (ae (pc (pn (pc o1 17) r7) 0) (pi 1)) pT)) (.nt (aq (pc o1 17) r7))))
 (.ite (.pick (ae (pc (pn (pc o1 17) r7) 0) (pi 1)) (.pick (.nt r4) pT (ao (pc (pn (pc o1 17) r7) 6) r5)) pF)
 (.next ⟨[(4,pT),(5,(pc (pn (pc o1 17) r7) 6)),(7,xZ)],[]⟩)
 (.next ⟨[(7,xZ)],[]⟩))))
 (.exit 4 ⟨[(67,r7),(68,pN),(69,(pc o1 17)),(70,xU),(71,(ao r7 xU))],[]⟩))
def Np (b:Nat→PC):PT:=
 (.iteS ⟨[(2,(pi 0))],[(1,(.mk [r0]))]⟩ (ae vm (pi 0)) [2] []
 (.brk ⟨[(3,(pi 0))],[]⟩
(ar7 b)
 (.ret (pi (-1))))
 (.next ⟨[],[]⟩)
 (.brk ⟨[(6,(pi 0)),(5,(pi 0)),(4,pF)],[]⟩
(ar8 b)
 (.brk ⟨[(7,(pi 0))],[]⟩
(ar9 b)
 (.ite (.pick (aC (pc o1 5) (pi 1)) pT (.nt r4))
 (.ret (pi (-1)))
 (.ret r5)))))
def am4 (b:Nat→PC):PT×List (Shp×PT):=(Np b,[(.lp 0 [2,3,13,14,15,16,17] [] [2,3] [],F5 b),(.lp 2 [4,5,6,33,34,35,36,37] [] [4,5,6] [],yp b),(.lp 4 [4,5,7,67,68,69,70,71] [] [4,5,7] [],tN b)])
theorem E0:zz.map told=some (am4 (bl zz)):=by kernel_rfl
theorem ayq:tree (ab zz)=Np wq:=bE E0
theorem Uk:round 0 [2,3,13,14,15,16,17] [] [2,3] [] (wq 0)=F5 wq:=aT E0 0 fun _=>rfl
theorem F6:round 2 [4,5,6,33,34,35,36,37] [] [4,5,6] [] (wq 1)=yp wq:=aT E0 1 fun _=>rfl
theorem yq:round 4 [4,5,7,67,68,69,70,71] [] [4,5,7] [] (wq 2)=tN wq:=aT E0 2 fun _=>rfl
def Iv:Option PC:=cF [8,9,11,12,13] [] Tryz.f95 95 [4,5,10]
def Wy:PT:=
 (.call ⟨[],[(10,yb),(5,(.mk [r1])),(4,(.mk [r0]))]⟩ [] 17 25 [fw]
 (.call ⟨[(19,(aC fy (pi 0)))],[]⟩ [(19,false)] 23 133 [(ah 8 o4),(pc o5 9)]
 (.call ⟨[(26,(.pick gY pT (.nt eF)))],[]⟩ [(26,false)] 30 133 [(ah 8 o4),(pc o5 10)]
 (.call ⟨[(33,(.pick jE pT (.nt jG)))],[]⟩ [(33,false)] 36 102 [(pc o5 8)]
 (.ite (.pick nG pT (.nt jH))
 (.ret (.tup [(pi 0),(pi 1)]))
 (.call ⟨[(60,(aC r2 (pi (-1)))),(57,agm)],[]⟩ [(60,true),(57,false)] 62 102 [r2]
 (.ite (.pick (.pick (.pick BL pT (.pick tK (.nt kF) pF)) pT (ao r3 (pi 0))) pT (aP r3 (pi 20000)))
 (.ret (.tup [(pi 0),(pi 1)]))
 (.call ⟨[],[]⟩ [] 75 134 [(.mk [(pc bY 0),(pc bY 1),(pc bY 2)])]
 (.ite (.pick Fz (ae r2 (pi (-1))) pF)
 (.ret (.tup [(pi 0),(pi 4)]))
 (.iteS ⟨[],[]⟩ (ae (pc bY 0) (pi 4)) [8,9] []
 (.call ⟨[],[]⟩ [] 89 135 [(ah 8 o4),(pc o5 9),(pc o5 10)]
 (.ite (aC (.tget r89 1) (pi 0))
 (.ret (.tup [(pi 0),(pi 4)]))
 (.next ⟨[],[]⟩)))
 (.next ⟨[],[]⟩)
 (.call ⟨[],[]⟩ [] 97 136 [(ah 8 o4),(ah 15 o5),r2]
 (.ite (.pick (ao TN (pi 0)) pT (aP (aH TN r3) (pi 100000)))
 (.ret (.tup [(pi 0),(pi 3)]))
 (.call ⟨[],[]⟩ [] 112 137 [(ah 8 o4),(pc o5 10),(aH TN r3)]
 (.ret (.tup [(.tget Fv 0),(.tget Fv 1)])))))))))))))))
theorem aeD:Iv.map told=some (Wy,[]):=by kernel_rfl
theorem ayj:tree (ab Iv)=Wy:=aF aeD
def Ix:Option PC:=cF [4] [] Tryz.f133 133 [2]
def WA:PT:=
 (.ret (.pick (bD r1 (pi 0)) (ao r1 (.llen jc)) pF))
theorem aeF:Ix.map told=some (WA,[]):=by kernel_rfl
theorem ayl:tree (ab Ix)=WA:=aF aeF
def Ij:Option PC:=cF [2] [] Tryz.f102 102 []
def Wd:PT:=
 (.ret (.pick (bD r0 (pi 0)) (aX r0 (pi 100000)) pF))
theorem aet:Ij.map told=some (Wd,[]):=by kernel_rfl
theorem axW:tree (ab Ij)=Wd:=aF aet
def Iw:Option PC:=cF [2] [] Tryz.f134 134 [1]
def Wz:PT:=
 (.ret (.pick (ae iO (pi 0)) pT (ae iO (pi 1))))
theorem aeE:Iw.map told=some (Wz,[]):=by kernel_rfl
theorem ayk:tree (ab Iw)=Wz:=aF aeE
def zo:Option PC:=cF [6,7,8] [] Tryz.f135 135 [3]
def OG:Nat→PC:=aZ zo
def arQ (b:Nat→PC):PC:=.block 0 [6,7,8,9,10,11,12,13] [] (.loop [6,7,8] [] (b 0))
def FT (b:Nat→PC):PT:=
 (.ite (ao r8 (.llen (pc o3 5)))
 (.chk (aq (pc o3 5) r8)
 (.chk (.nt (.an (.an (ae (pc (pn (pc o3 5) r8) 0) r1) pT) (.nt (aq (pc o3 5) r8))))
 (.ite (.pick (ae (pc (pn (pc o3 5) r8) 0) r1) (ae (pc (pn (pc o3 5) r8) 1) r2) pF)
 (.ret (.tup [(pc (pn (pc o3 5) r8) 2),(pi 0)]))
 (.next ⟨[(8,oJ)],[]⟩))))
 (.exit 0 ⟨[(9,r8),(10,pN),(11,(pc o3 5)),(12,(.llen (pc o3 5))),(13,(ao r8 (.llen (pc o3 5))))],[]⟩))
def Wq (b:Nat→PC):PT:=
 (.brk ⟨[(8,(pi 0)),(7,(pi 0)),(6,(pi 0))],[(3,(.mk [r0]))]⟩
(arQ b)
 (.ret (.tup [(pi 0),(pi 4)])))
def amV (b:Nat→PC):PT×List (Shp×PT):=(Wq b,[(.lp 0 [6,7,8,9,10,11,12,13] [] [6,7,8] [],FT b)])
theorem R2:zo.map told=some (amV (bl zo)):=by kernel_rfl
theorem aya:tree (ab zo)=Wq OG:=bE R2
theorem T8:round 0 [6,7,8,9,10,11,12,13] [] [6,7,8] [] (OG 0)=FT OG:=aT R2 0 fun _=>rfl
def Iu:Option PC:=cF [6,8,9] [] Tryz.f136 136 [3,4,7]
def tV:PT:=
 (.iteS ⟨[(8,(.pick (ae (pc yb 0) (pi 3)) (pc yb 1) (.pick (ae (pc yb 0) (pi 0)) r2 (pi 0)))),(9,(pi 0))],[(7,yb),(4,(.mk [r1])),(3,(.mk [r0]))]⟩ (ae (pc yb 0) (pi 4)) [8,9] []
 (.call ⟨[],[]⟩ [] 30 135 [(ah 8 o3),(pc o4 9),(pc o4 10)]
 (.next ⟨[(8,(aH (.tget jG 0) (pc o4 8))),(9,(.tget jG 1))],[]⟩))
 (.next ⟨[],[]⟩)
 (.iteS ⟨[],[]⟩ (.pick (ae (pc o7 0) (pi 1)) pT (ae (pc o7 0) (pi 2))) [6,8,9] []
 (.ite (.pick (ao (pc o7 1) (pi 0)) pT (aP (pc o7 1) (pi 20000)))
 (.ret (pi (-1)))
 (.iteS ⟨[(8,(.pick (ae (pc o7 0) (pi 1)) r2 (pc o4 8)))],[]⟩ (ae (pc o7 2) (pi 1)) [8,9] []
 (.call ⟨[],[]⟩ [] 66 162 [r8,(pc o7 1)]
 (.next ⟨[(9,(.tget Mf 1)),(8,(.tget Mf 0))],[]⟩))
 (.next ⟨[(8,(aH r8 (pc o7 1)))],[]⟩)
 (.next ⟨[],[]⟩)))
 (.next ⟨[],[]⟩)
 (.call ⟨[(75,(aC r9 (pi 0)))],[]⟩ [(75,false)] 77 102 [r8]
 (.ite (.pick Fz pT (.nt TJ))
 (.ret (pi (-1)))
 (.ret r8)))))
theorem aeC:Iu.map told=some (tV,[]):=by kernel_rfl
theorem ayi:tree (ab Iu)=tV:=aF aeC
def Ig:Option PC:=cF [4,5,6,7,8,9,10,11,12,13,14] [] Tryz.f162 162 []
def V7:PT:=
 (.call ⟨[],[]⟩ [] 17 171 [r0]
 (.ite (.pick (.pick (aC (.tget fy 3) (pi 0)) pT (ao r1 (pi (-5000)))) pT (aP r1 (pi 5000)))
 (.ret (.tup [(pi 0),(pi 3)]))
 (.ite (ao Fk (pi 24000))
 (.ret (.tup [(pi 0),(pi 3)]))
 (.chk (aC (pi 12) (pi 0))
 (.call ⟨[(49,(.tget fy 2)),(48,(aH (.ai .rem .i64 Fk (pi 12)) (pi 1))),(47,(.ai .quo .i64 Fk (pi 12)))],[]⟩ [] 52 189 [(.ai .quo .i64 Fk (pi 12)),(aH (.ai .rem .i64 Fk (pi 12)) (pi 1))]
 (.call ⟨[],[]⟩ [] 54 188 [BK,ln,(.mn mI tJ)]
 (.ret (.tup [(.tget ql 0),(.tget ql 1)]))))))))
theorem aeq:Ig.map told=some (V7,[]):=by kernel_rfl
theorem axP:tree (ab Ig)=V7:=aF aeq
def zd:Option PC:=cF [2,3,4,5,6,7,8] [] Tryz.f171 171 []
def CN:Nat→PC:=aZ zd
def arz (b:Nat→PC):PC:=.block 0 [6,7,13,14,15,16] [] (.loop [6,7] [] (b 0))
def arA (b:Nat→PC):PC:=.block 2 [7,8,23,24,25,26,27] [] (.loop [7,8] [] (b 1))
def Mr (b:Nat→PC):PT:=
 (.call ⟨[(14,r6),(13,r7)],[]⟩ [] 15 194 [r6]
 (.ite (bD cO df)
 (.blockS ⟨[],[]⟩ 1 [6,7,17,18,19,20,21,22] []
 (.call ⟨[(17,r7)],[]⟩ [] 19 194 [r6]
 (.next ⟨[(6,x9),(7,(aS fy gY))],[]⟩))
 (.next ⟨[],[]⟩))
 (.exit 0 ⟨[(16,(bD cO df))],[]⟩)))
def Ms (b:Nat→PC):PT:=
 (.call ⟨[(25,r8),(24,r6),(23,r7)],[]⟩ [] 26 189 [r6,r8]
 (.ite (bD eF jE)
 (.blockS ⟨[],[]⟩ 3 [7,8,28,29,30,31,32,33,34] []
 (.call ⟨[(28,r7)],[]⟩ [] 31 189 [r6,r8]
 (.next ⟨[(8,oJ),(7,(aS gK lj))],[]⟩))
 (.next ⟨[],[]⟩))
 (.exit 2 ⟨[(27,(bD eF jE))],[]⟩)))
def V8 (b:Nat→PC):PT:=
 (.call ⟨[],[]⟩ [] 10 102 [r0]
 (.ite (.nt bN)
 (.ret (.tup [(pi 0),(pi 0),(pi 0),(pi 3)]))
 (.brk ⟨[(7,r0),(6,(pi 2000))],[]⟩
(arz b)
 (.brk ⟨[(8,(pi 1))],[]⟩
(arA b)
 (.ret (.tup [r6,r8,xZ,(pi 0)]))))))
def amK (b:Nat→PC):PT×List (Shp×PT):=(V8 b,[(.lp 0 [6,7,13,14,15,16] [] [6,7] [],Mr b),(.lp 2 [7,8,23,24,25,26,27] [] [7,8] [],Ms b)])
theorem Ll:zd.map told=some (amK (bl zd)):=by kernel_rfl
theorem axQ:tree (ab zd)=V8 CN:=bE Ll
theorem ag6:round 0 [6,7,13,14,15,16] [] [6,7] [] (CN 0)=Mr CN:=aT Ll 0 fun _=>rfl
theorem ag7:round 2 [7,8,23,24,25,26,27] [] [7,8] [] (CN 1)=Ms CN:=aT Ll 1 fun _=>rfl
def Ik:Option PC:=cF [2] [] Tryz.f194 194 []
def We:PT:=
 (.call ⟨[],[]⟩ [] 4 208 [r0]
 (.ite r4
 (.ret (pi 366))
 (.ret (pi 365))))
theorem aeu:Ik.map told=some (We,[]):=by kernel_rfl
theorem axX:tree (ab Ik)=We:=aF aeu
def Il:Option PC:=cF [2] [] Tryz.f208 208 []
def Wg:PT:=
 (.chk (aC (pi 4) (pi 0))
 (.chk (.nt (.an (.an Tj pT) (.nt yf)))
 (.chk (.nt (.an (.an (.nt (aC (.ai .rem .i64 r0 (pi 100)) (pi 0))) (.an Tj pT)) (.nt (aC (pi 400) (pi 0)))))
 (.ret (.pick Tj (.pick (aC (.ai .rem .i64 r0 (pi 100)) (pi 0)) pT (ae (.ai .rem .i64 r0 (pi 400)) (pi 0))) pF)))))
theorem aev:Il.map told=some (Wg,[]):=by kernel_rfl
theorem axZ:tree (ab Il)=Wg:=aF aev
def Ih:Option PC:=cF [4] [] Tryz.f189 189 []
def Nn:PT:=
 (.call ⟨[(7,(ae r1 (pi 2)))],[]⟩ [(7,true)] 9 208 [r0]
 (.ite (.pick r7 r9 pF)
 (.ret (pi 29))
 (.ite (ae r1 (pi 2))
 (.ret (pi 28))
 (.ite (.pick (.pick (.pick (ae r1 (pi 4)) pT (ae r1 (pi 6))) pT (ae r1 (pi 9))) pT (ae r1 (pi 11)))
 (.ret (pi 30))
 (.ret (pi 31))))))
theorem aer:Ih.map told=some (Nn,[]):=by kernel_rfl
theorem axS:tree (ab Ih)=Nn:=aF aer
def ze:Option PC:=cF [6,7,8,9,10] [] Tryz.f188 188 []
def CO:Nat→PC:=aZ ze
def arB (b:Nat→PC):PC:=.block 0 [8,9,38,39,40] [] (.loop [8,9] [] (b 0))
def arC (b:Nat→PC):PC:=.block 2 [8,10,47,48,49] [] (.loop [8,10] [] (b 1))
def Mt (b:Nat→PC):PT:=
 (.ite (ao r9 r0)
 (.blockS ⟨[],[]⟩ 1 [8,43,44,45,46] []
 (.call ⟨[(43,r8)],[]⟩ [] 45 194 [r9]
 (.next ⟨[(8,(aH rz ll))],[]⟩))
 (.next ⟨[(9,BF)],[]⟩))
 (.exit 0 ⟨[(38,r9),(39,r0),(40,(ao r9 r0))],[]⟩))
def Mu (b:Nat→PC):PT:=
 (.ite (ao bN r1)
 (.blockS ⟨[],[]⟩ 3 [8,52,53,54,55,56] []
 (.call ⟨[(52,r8)],[]⟩ [] 55 189 [r0,bN]
 (.next ⟨[(8,(aH tJ vt))],[]⟩))
 (.next ⟨[(10,(aH bN (pi 1)))],[]⟩))
 (.exit 2 ⟨[(47,bN),(48,r1),(49,(ao bN r1))],[]⟩))
def V9 (b:Nat→PC):PT:=
 (.call ⟨[(30,r2),(29,agl)],[]⟩ [(29,false)] 33 189 [r0,r1]
 (.ite (.pick jF pT (aP jG nG))
 (.ret (.tup [(pi 0),(pi 3)]))
 (.brk ⟨[(9,(pi 2000)),(8,(aS r2 (pi 1)))],[]⟩
(arB b)
 (.brk ⟨[(10,(pi 1))],[]⟩
(arC b)
 (.call ⟨[],[]⟩ [] 58 102 [r8]
 (.ite (.nt BM)
 (.ret (.tup [(pi 0),(pi 3)]))
 (.ret (.tup [r8,(pi 0)]))))))))
def amL (b:Nat→PC):PT×List (Shp×PT):=(V9 b,[(.lp 0 [8,9,38,39,40] [] [8,9] [],Mt b),(.lp 2 [8,10,47,48,49] [] [8,10] [],Mu b)])
theorem Lm:ze.map told=some (amL (bl ze)):=by kernel_rfl
theorem axR:tree (ab ze)=V9 CO:=bE Lm
theorem ag8:round 0 [8,9,38,39,40] [] [8,9] [] (CO 0)=Mt CO:=aT Lm 0 fun _=>rfl
theorem ag9:round 2 [8,10,47,48,49] [] [8,10] [] (CO 1)=Mu CO:=aT Lm 1 fun _=>rfl
def zw:Option PC:=cF [6,7,8,9,10,11,12,2] [] Tryz.f137 137 [3]
def CV:Nat→PC:=aZ zw
def ar0 (b:Nat→PC):PC:=.block 2 [9,10,19,20,21,22,23] [] (.loop [9,10] [] (b 0))
def ar1 (b:Nat→PC):PC:=.block 0 [2,6,7,16,17] [] (.loop [2,6,7] [] (b 1))
def BP (b:Nat→PC):PT:=
 (.ite (ao bN (.llen (pc o3 7)))
 (.chk (aq (pc o3 7) bN)
 (.chk (.nt (.an (.an (ae (pc xS 0) r8) pT) (.nt (aq (pc o3 7) bN))))
 (.chk (.nt (.an (.an (.pick (ae (pc xS 0) r8) (aX (pc xS 1) r2) pF) pT) (.nt (aq (pc o3 7) bN))))
 (.ite (.pick (.pick (ae (pc xS 0) r8) (aX (pc xS 1) r2) pF) (aX r2 (pc xS 2)) pF)
 (.next ⟨[(9,(.mx r9 (aH (pc xS 2) (pi 1)))),(10,(aH bN (pi 1)))],[]⟩)
 (.next ⟨[(10,(aH bN (pi 1)))],[]⟩)))))
 (.exit 2 ⟨[(19,bN),(20,pN),(21,(pc o3 7)),(22,(.llen (pc o3 7))),(23,(ao bN (.llen (pc o3 7))))],[]⟩))
def My (b:Nat→PC):PT:=
 (.ite (aX r2 (pi 100000))
 (.blockS ⟨[(17,(aX r2 (pi 100000))),(16,r2)],[]⟩ 1 [2,6,7,9,10,18,19,20,21,22,23,63,64,65,80,81,82,84] []
 (.brk ⟨[(10,(pi 0)),(9,r2)],[]⟩
(ar0 b)
 (.iteS ⟨[],[]⟩ (ae r9 r2) [6,7,9] []
 (.chk (aq (pc o3 1) r1)
 (.call ⟨[],[]⟩ [] 73 103 [(pn (pc o3 1) r1),r2]
 (.ite (aC (.tget rC 1) (pi 0))
 (.ret (.tup [(pi 0),(.tget rC 1)]))
 (.next ⟨[(9,(.tget rC 0))],[]⟩))))
 (.next ⟨[],[]⟩)
 (.ite (ae r9 r2)
 (.ret (.tup [r2,(pi 0)]))
 (.next ⟨[(2,r9)],[]⟩))))
 (.next ⟨[],[]⟩))
 (.exit 0 ⟨[(16,r2),(17,(aX r2 (pi 100000)))],[]⟩))
def WB (b:Nat→PC):PT:=
 (.call ⟨[(7,(pi 0)),(6,(pi 0))],[(3,(.mk [r0]))]⟩ [] 15 138 [fw,r1]
 (.brk ⟨[(8,df)],[]⟩
(ar1 b)
 (.ret (.tup [(pi 0),(pi 3)]))))
def am1 (b:Nat→PC):PT×List (Shp×PT):=(WB b,[(.lp 2 [9,10,19,20,21,22,23] [] [9,10] [],BP b),(.lp 0 [2,6,7,16,17] [] [2,6,7] [],My b)])
theorem Lt:zw.map told=some (am1 (bl zw)):=by kernel_rfl
theorem aym:tree (ab zw)=WB CV:=bE Lt
theorem Mx:round 2 [9,10,19,20,21,22,23] [] [9,10] [] (CV 0)=BP CV:=aT Lt 0 fun _=>rfl
theorem aha:round 0 [2,6,7,16,17] [] [2,6,7] [] (CV 1)=My CV:=aT Lt 1 fun _=>rfl
def zf:Option PC:=cF [4,5,6,7,8] [] Tryz.f103 103 [2]
def Oz:Nat→PC:=aZ zf
def arD (b:Nat→PC):PC:=.block 0 [4,5,6,12,13] [] (.loop [4,5,6] [] (b 0))
def FH (b:Nat→PC):PT:=
 (.ite (aX r6 (pi 400))
 (.blockS ⟨[],[]⟩ 1 [4,5,7,8,16,17,18,19,20,21,22,23,24] []
 (.call ⟨[],[]⟩ [] 21 146 [(ah 6 o2),(aH r1 r6)]
 (.ite (.tget iP 0)
 (.ret (.tup [(aH r1 r6),(pi 0)]))
 (.next ⟨[],[]⟩)))
 (.next ⟨[(6,x9)],[]⟩))
 (.exit 0 ⟨[(12,r6),(13,(aX r6 (pi 400)))],[]⟩))
def Wa (b:Nat→PC):PT:=
 (.call ⟨[(5,(pi 0)),(4,(pi 0))],[(2,(.mk [r0]))]⟩ [] 10 102 [r1]
 (.ite (.nt bN)
 (.ret (.tup [(pi 0),(pi 3)]))
 (.brk ⟨[(6,(pi 0))],[]⟩
(arD b)
 (.ret (.tup [(pi 0),(pi 3)])))))
def amM (b:Nat→PC):PT×List (Shp×PT):=(Wa b,[(.lp 0 [4,5,6,12,13] [] [4,5,6] [],FH b)])
theorem RV:zf.map told=some (amM (bl zf)):=by kernel_rfl
theorem axT:tree (ab zf)=Wa Oz:=bE RV
theorem TX:round 0 [4,5,6,12,13] [] [4,5,6] [] (Oz 0)=FH Oz:=aT RV 0 fun _=>rfl
def Ii:Option PC:=cF [4,5,6,7,8,9] [] Tryz.f146 146 [2]
def Wb:PT:=
 (.call ⟨[],[(2,(.mk [r0]))]⟩ [] 12 171 [r1]
 (.ite (aC (.tget bQ 3) (pi 0))
 (.ret (.tup [pF,(.tget bQ 3)]))
 (.chk (aC (pi 7) (pi 0))
 (.call ⟨[(8,(.tget bQ 2)),(7,(.tget bQ 1))],[]⟩ [] 25 172 [(pc o2 3),(.ai .rem .i64 (aH r1 (pi 5)) (pi 7))]
 (.call ⟨[(27,(.nt dV))],[]⟩ [(27,true)] 34 172 [(pc o2 4),(aH (.ai .mul .i64 (pi 100) r7) r8)]
 (.call ⟨[(37,(.pick eG (.nt Fw) pF))],[]⟩ [(37,true)] 41 172 [(pc o2 5),r1]
 (.ret (.tup [(.pick lR (.nt mH) pF),(pi 0)]))))))))
theorem aes:Ii.map told=some (Wb,[]):=by kernel_rfl
theorem axU:tree (ab Ii)=Wb:=aF aes
def zh:Option PC:=cF [4,5] [] Tryz.f172 172 []
def OB:Nat→PC:=aZ zh
def arG (b:Nat→PC):PC:=.block 0 [4,5,6,7,8,9] [] (.loop [4,5] [] (b 0))
def FJ (b:Nat→PC):PT:=
 (.ite (ao r5 (.llen r0))
 (.chk (aq r0 r5)
 (.ite (ae (pn r0 r5) r1)
 (.ret pT)
 (.next ⟨[(5,oK)],[]⟩)))
 (.exit 0 ⟨[(6,r5),(7,r0),(8,(.llen r0)),(9,(ao r5 (.llen r0)))],[]⟩))
def Wf (b:Nat→PC):PT:=
 (.brk ⟨[(5,(pi 0)),(4,pF)],[]⟩
(arG b)
 (.ret pF))
def amO (b:Nat→PC):PT×List (Shp×PT):=(Wf b,[(.lp 0 [4,5,6,7,8,9] [] [4,5] [],FJ b)])
theorem RX:zh.map told=some (amO (bl zh)):=by kernel_rfl
theorem axY:tree (ab zh)=Wf OB:=bE RX
theorem TZ:round 0 [4,5,6,7,8,9] [] [4,5] [] (OB 0)=FJ OB:=aT RX 0 fun _=>rfl
def I5:Option PC:=cF [8,9,10] [] Tryz.f21 21 [4,5]
def G0:PT:=
 (.ite (aC (pc (.mk [r1]) 4) (pi 0))
 (.ret ye)
 (.ite (.nt xW)
 (.ret (pi (-2)))
 (.ite (ae r3 (pi (-1)))
 (.ite (aP (aH r2 vl) (pi 100000))
 (.ret ye)
 (.ret (aH r2 vl)))
 (.chk (aq jc r3)
 (.call ⟨[],[]⟩ [] 41 53 [(pn jc r3),r2,vl]
 (.ite (aC (.tget mH 1) (pi 0))
 (.ret ye)
 (.ret (.tget mH 0))))))))
theorem ae8:I5.map told=some (G0,[]):=by kernel_rfl
theorem ay4:tree (ab I5)=G0:=aF ae8
def zg:Option PC:=cF [6,7,8,9,10,11] [] Tryz.f53 53 [3]
def OA:Nat→PC:=aZ zg
def arE (b:Nat→PC):PC:=.block 0 [6,7,8,9,24,25,26] [] (.loop [6,7,8,9] [] (b 0))
def FI (b:Nat→PC):PT:=
 (.ite (ao r9 r2)
 (.blockS ⟨[],[]⟩ 1 [6,7,8,10,11,29,30,31,32,33,34,35,36,37,39] []
 (.call ⟨[],[]⟩ [] 33 103 [(ah 6 o3),oJ]
 (.ite (aC (.tget nG 1) (pi 0))
 (.ret (.tup [(pi 0),(.tget nG 1)]))
 (.next ⟨[(8,(.tget nG 0))],[]⟩)))
 (.next ⟨[(9,BF)],[]⟩))
 (.exit 0 ⟨[(24,r9),(25,r2),(26,(ao r9 r2))],[]⟩))
def Wc (b:Nat→PC):PT:=
 (.call ⟨[(7,(pi 0)),(6,(pi 0))],[(3,(.mk [r0]))]⟩ [] 13 102 [r1]
 (.ite (.pick (.pick (.nt cO) pT (ao r2 (pi 0))) pT (aP r2 (pi 20000)))
 (.ret (.tup [(pi 0),(pi 3)]))
 (.brk ⟨[(9,(pi 0)),(8,r1)],[]⟩
(arE b)
 (.ret (.tup [r8,(pi 0)])))))
def amN (b:Nat→PC):PT×List (Shp×PT):=(Wc b,[(.lp 0 [6,7,8,9,24,25,26] [] [6,7,8,9] [],FI b)])
theorem RW:zg.map told=some (amN (bl zg)):=by kernel_rfl
theorem axV:tree (ab zg)=Wc OA:=bE RW
theorem TY:round 0 [6,7,8,9,24,25,26] [] [6,7,8,9] [] (OA 0)=FI OA:=aT RW 0 fun _=>rfl
def HE:Option PC:=mZ {ctx with fr:=[6],nh:=[]} Tryz.f153 ⟨[Y8,I,l8],.slice I,.dat⟩ [3,5,7,8,42,9]
def Vo:PT:=
 (.chk (aq (pc (.mk [r2]) 15) (pc (.mk [r2]) 19))
 (.ite agj
 (.ret pL)
 (.chk Tf
 (.chk (ae (pi 5) (pi 5))
 (.chk (aq BA (pi 0))
 (.call ⟨[],[(9,(.setn BA (pi 0) 0 r1)),(8,(.setc dD 0 (ah 15 (.mk [r2])))),(7,BH),(3,(.mk [r0]))]⟩ [] 50 125 [fw,(pc BH 7)]
 (.chk (aq o9 (pi 1))
 (.call ⟨[],[(9,(.setn o9 (pi 1) 0 gZ))]⟩ [] 56 125 [(ah 8 o3),(pc o8 10)]
 (.chk (aq o9 (pi 2))
 (.call ⟨[],[(9,(.setn o9 (pi 2) 0 rA))]⟩ [] 62 125 [(ah 8 o3),(pc o8 9)]
 (.chk (aq o9 (pi 3))
 (.chk (aq (pc o3 3) (pc o7 2))
 (.call ⟨[],[(9,(.setn o9 (pi 3) 0 kF))]⟩ [] 73 125 [(ah 8 o3),(pc (pn (pc o3 3) (pc o7 2)) 1)]
 (.chk (aq o9 (pi 4))
 (.call ⟨[],[(9,(.setn o9 (pi 4) 0 rC))]⟩ [] 76 93 [(.setn o9 (pi 4) 0 rC),(pi (-1))]
 (.ite tM
 (.ret pL)
 (.ret o9)))))))))))))))))
theorem adM:HE.map told=some (Vo,[]):=by kernel_rfl
theorem awZ:tree (ab HE)=Vo:=aF adM
def HF:Option PC:=mZ {ctx with fr:=[6],nh:=[]} Tryz.f153 ⟨[Y8,I,l8],.nils .bool,.dat⟩ [3,5,7,8,42,9]
def Ni:PT:=
 (.chk (aq (pc (.mk [r2]) 15) (pc (.mk [r2]) 19))
 (.ite agj
 (.ret pL)
 (.chk Tf
 (.chk (ae (pi 5) (pi 5))
 (.chk (aq BA (pi 0))
 (.call ⟨[],[(9,(.setn BA (pi 0) 0 r1)),(8,(.setc dD 0 (ah 15 (.mk [r2])))),(7,BH),(3,(.mk [r0]))]⟩ [] 50 125 [fw,(pc BH 7)]
 (.chk (aq o9 (pi 1))
 (.call ⟨[],[(9,(.setn o9 (pi 1) 0 gZ))]⟩ [] 56 125 [(ah 8 o3),(pc o8 10)]
 (.chk (aq o9 (pi 2))
 (.call ⟨[],[(9,(.setn o9 (pi 2) 0 rA))]⟩ [] 62 125 [(ah 8 o3),(pc o8 9)]
 (.chk (aq o9 (pi 3))
 (.chk (aq (pc o3 3) (pc o7 2))
 (.call ⟨[],[(9,(.setn o9 (pi 3) 0 kF))]⟩ [] 73 125 [(ah 8 o3),(pc (pn (pc o3 3) (pc o7 2)) 1)]
 (.chk (aq o9 (pi 4))
 (.call ⟨[],[]⟩ [] 76 93 [(.setn o9 (pi 4) 0 rC),(pi (-1))]
 (.ite tM
 (.ret pL)
 (.chk pF
 (.next ⟨[],[]⟩))))))))))))))))))
theorem adN:HF.map told=some (Ni,[]):=by kernel_rfl
theorem aw0:tree (ab HF)=Ni:=aF adN
end Rm
namespace Rm
open Go Go.Proofs Cx
def SU:List Nat:=[4,14,31,32,18,43,33,72,16,35,73,111,151,174,196,195,216,125,118,197,198,152,93,132,154,175,200,199,217,176,112,155,178,177,179,201,202,218,222,220,219,156,180,203,221,204,223,225,226,205,34,37,80,36,74,113,114,157,181,182,206,115,116,117,158,119,120,121,122,123,75,76,77,78,124,159,160,183,185,207,184,83,79,126,127,161,187,44,89,90,88,91,49,46,92,131,47,50,22,45,48,19,15,24,55,56,57,104,147,25,58,105,148,173,149,106,107,150,59,60,108,61,62,17,38,81,82,39,40,84,128,129,41,85,42,87,130,86,20,51,28,67,52,97,101,145,167,168,169,138,170,98,99,139,140,163,100,141,143,164,190,209,210,212,211,165,144,142,166,191,213,192,193,214,215,94,96,95,133,102,134,135,136,162,171,194,208,189,188,137,103,146,172,21,53]
def Bw:List (Nat×PC):=[(4,(ab y9)),(14,(ab H4)),(31,(ab H3)),(32,(ab H5)),(18,(ab HR)),(43,(ab HT)),(33,(ab zT)),(72,(ab Jf)),(16,(ab Hz)),(35,(ab Hy)),(73,(ab Hx)),(111,(ab HC)),(151,(ab HD)),(174,(ab zW)),(196,(ab Jd)),(195,(ab Jg)),(216,(ab zY)),(125,(ab Ja)),(118,(ab Jb)),(197,(ab Je)),(198,(ab zU)),(152,(ab H7)),(93,(ab Ji)),(132,(ab z8)),(154,(ab y4)),(175,(ab HO)),(200,(ab HP)),(199,(ab Jh)),(217,(ab z7)),(176,(ab y5)),(112,(ab H6)),(155,(ab H8)),(178,(ab H9)),(177,(ab zZ)),(179,(ab Jn)),(201,(ab wD)),(202,(ab Ae)),(218,(ab Jt)),(222,(ab Js)),(220,(ab Jp)),(219,(ab Jw)),(156,(ab Jo)),(180,(ab Af)),(203,(ab Ju)),(221,(ab Jx)),(204,(ab Jr)),(223,(ab Jq)),(225,(ab Jv)),(226,(ab HG)),(205,(ab zX)),(34,(ab HA)),(37,(ab zV)),(80,(ab Ab)),(36,(ab Dc)),(74,(ab zK)),(113,(ab zO)),(114,(ab zM)),(157,(ab Jc)),(181,(ab zN)),(182,(ab Jj)),(206,(ab Aa)),(115,(ab I6)),(116,(ab I7)),(117,(ab zL)),(158,(ab zR)),(119,(ab I8)),(120,(ab I9)),(121,(ab zP)),(122,(ab zS)),(123,(ab zQ)),(75,(ab Jl)),(76,(ab Jm)),(77,(ab Jk)),(78,(ab Df)),(124,(ab De)),(159,(ab C8)),(160,(ab HL)),(183,(ab HH)),(185,(ab HJ)),(207,(ab Da)),(184,(ab C9)),(83,(ab wC)),(79,(ab Ac)),(126,(ab Ad)),(127,(ab yZ)),(161,(ab HI)),(187,(ab HK)),(44,(ab HY)),(89,(ab y6)),(90,(ab H0)),(88,(ab H2)),(91,(ab HZ)),(49,(ab HS)),(46,(ab HV)),(92,(ab HW)),(131,(ab y2)),(47,(ab y8)),(50,(ab HX)),(22,(ab HB)),(45,(ab HU)),(48,(ab y7)),(19,(ab HQ)),(15,(ab Db)),(24,(ab zI)),(55,(ab zj)),(56,(ab Iy)),(57,(ab zD)),(104,(ab IF)),(147,(ab wB)),(25,(ab Io)),(58,(ab zp)),(105,(ab It)),(148,(ab zk)),(173,(ab Iq)),(149,(ab zi)),(106,(ab zl)),(107,(ab Is)),(150,(ab zn)),(59,(ab zq)),(60,(ab zr)),(108,(ab zm)),(61,(ab zu)),(62,(ab zt)),(17,(ab wz)),(38,(ab Dg)),(81,(ab Jy)),(82,(ab Jz)),(39,(ab zc)),(40,(ab Ie)),(84,(ab Ic)),(128,(ab Ib)),(129,(ab If)),(41,(ab za)),(85,(ab Ia)),(42,(ab zb)),(87,(ab HM)),(130,(ab HN)),(86,(ab y3)),(20,(ab I4)),(51,(ab I0)),(28,(ab zx)),(67,(ab IY)),(52,(ab IX)),(97,(ab zJ)),(101,(ab IZ)),(145,(ab zA)),(167,(ab IA)),(168,(ab IB)),(169,(ab Iz)),(138,(ab Ir)),(170,(ab zy)),(98,(ab IT)),(99,(ab zG)),(139,(ab zH)),(140,(ab IW)),(163,(ab zF)),(100,(ab IS)),(141,(ab IV)),(143,(ab zE)),(164,(ab IC)),(190,(ab zC)),(209,(ab IK)),(210,(ab IM)),(212,(ab IJ)),(211,(ab IL)),(165,(ab IU)),(144,(ab Ip)),(142,(ab IE)),(166,(ab zB)),(191,(ab II)),(213,(ab ID)),(192,(ab IN)),(193,(ab IP)),(214,(ab IQ)),(215,(ab IG)),(94,(ab I3)),(96,(ab zz)),(95,(ab Iv)),(133,(ab Ix)),(102,(ab Ij)),(134,(ab Iw)),(135,(ab zo)),(136,(ab Iu)),(162,(ab Ig)),(171,(ab zd)),(194,(ab Ik)),(208,(ab Il)),(189,(ab Ih)),(188,(ab ze)),(137,(ab zw)),(103,(ab zf)),(146,(ab Ii)),(172,(ab zh)),(21,(ab I5)),(53,(ab zg))]
def tab:Nat→Option PC:=bS Bw
theorem afS:Bw.map (·.1)=SU:=by kernel_rfl
theorem aun:(Bw.map (·.1)).Nodup:=by rw[afS];exact tj (by kernel_rfl)
theorem lA (k:Nat){f:Nat}{x:PC}(h:Bw[k]?=some (f,x)):tab f=some x:=acT aun h
theorem Zo:tab 201=some (ab wD):=lA 35 (by kernel_rfl)
theorem Oi:tab 36=some (ab Dc):=lA 53 (by kernel_rfl)
theorem wk:tab 78=some (ab Df):=lA 73 (by kernel_rfl)
theorem qG:tab 124=some (ab De):=lA 74 (by kernel_rfl)
theorem CK:tab 159=some (ab C8):=lA 75 (by kernel_rfl)
theorem Og:tab 207=some (ab Da):=lA 79 (by kernel_rfl)
theorem sq:tab 184=some (ab C9):=lA 80 (by kernel_rfl)
theorem Zn:tab 83=some (ab wC):=lA 81 (by kernel_rfl)
theorem ajT:tab 15=some (ab Db):=lA 102 (by kernel_rfl)
theorem Zm:tab 147=some (ab wB):=lA 108 (by kernel_rfl)
theorem ajU:tab 17=some (ab wz):=lA 123 (by kernel_rfl)
theorem ajW:tab 38=some (ab Dg):=lA 124 (by kernel_rfl)
theorem caps:∀f cs,bS Pg f=some cs→(nu cs.args cs.res=none→bS vE f=some ⟨cs.args++cs.caps,cs.res,.dat⟩)∧∀ys,nu cs.args cs.res=some ys→fU SU f=false∧GV Tryz.prog f=true:=ZA (l:=Pg) (sig:=vE) (P:=Tryz.prog) (pcs:=SU) (by kernel_rfl)
theorem clos:eh ctx:=⟨(fun f cs h=>(caps f cs h).1),fun f s h=>ahV (l:=vE) (P:=Tryz.prog) (by kernel_rfl) f s h⟩
theorem its:∀f cs ys,ctx.cap f=some cs→nu cs.args cs.res=some ys→tab f=none∧∃fn,ctx.P.funcs[f]?=some fn∧fn.body.isSome=true∧(fn.name== "runtime.NumGoroutine")=false:=fun f cs ys h hi=>⟨acQ (l:=Bw) (by rw[afS];exact((caps f cs h).2 ys hi).1),awP ((caps f cs h).2 ys hi).2⟩
theorem awG:∀f pc,tab f=some pc→∃fn s ids fr nh,ctx.P.funcs[f]?=some fn∧ctx.sig f=some s∧mZ {ctx with fr:=fr,nh:=nh} fn s ids=some pc:=
 Rx (R:=fun f pc=>∃fn s ids fr nh,ctx.P.funcs[f]?=some fn∧ctx.sig f=some s∧mZ {ctx with fr:=fr,nh:=nh} fn s ids=some pc) (l:=Bw)
  (av (aw [6,8,16,17,73745,167,18,19,73747,20,21,22] [12,13,14,15,23,24,25] [] Tryz.func4 rfl (au y9 RR))
  (av (aw [1,2,3,4,5,6] [0,7,8] [] Tryz.func14 rfl (au H4 aef))
  (av (aw [0,24576,28672,32768,1,12289,2,12290,3,12291] [] [] Tryz.func31 rfl (au H3 aee))
  (av (aw [4,5,6,69638,73734,77830] [] [] Tryz.func32 rfl (au H5 aeg))
  (av (aw [5,7,10,11,12] [] [] Tryz.func18 rfl (au HR ad2))
  (av (aw [5,7,10] [] [] Tryz.func43 rfl (au HT ad4))
  (av (aw [2,4,5,65541,69637,73733,77829,7,31,9,49,11,13] [] [] Tryz.func33 rfl (au zT Bs))
  (av (aw [] [4] [] Tryz.func72 rfl (au Jf afi))
  (av (aw [4,6] [8,9,10,11] [] Tryz.func16 rfl (au Hz adH))
  (av (aw [5,8,77832,10] [] [] Tryz.func35 rfl (au Hy adG))
  (av (aw [4,7,8,9] [10] [] Tryz.func73 rfl (au Hx adF))
  (av (aw [4,7,8,10,16394] [9,11,12,13,14] [] Tryz.func111 rfl (au HC adK))
  (av (aw [2,3,4] [5] [] Tryz.func151 rfl (au HD adL))
  (av (aw [2,3,5,6,8,10,90,139] [4,7,9,11,12,13,14,15,16] [] Tryz.func174 rfl (au zW Ly))
  (av (aw [2] [3] [] Tryz.func196 rfl (au Jd afg))
  (av (aw [] [4] [] Tryz.func195 rfl (au Jg afj))
  (av (aw [] [4,5] [] Tryz.func216 rfl (au zY So))
  (av (aw [2] [4] [] Tryz.func125 rfl (au Ja afd))
  (av (aw [] [4] [] Tryz.func118 rfl (au Jb afe))
  (av (aw [2] [] [] Tryz.func197 rfl (au Je afh))
  (av (aw [3,6,8] [] [] Tryz.func198 rfl (au zU Sn))
  (av (aw [] [2,3,4,11] [] Tryz.func152 rfl (au H7 aei))
  (av (aw [] [4] [] Tryz.func93 rfl (au Ji afl))
  (av (aw [] [4,5] [] Tryz.func132 rfl (au z8 Sr))
  (av (aw [4,10,53] [8,9,11,12,13,14,55,70] [] Tryz.func154 rfl (au y4 RN))
  (av (aw [4,9] [8] [] Tryz.func175 rfl (au HO adZ))
  (av (aw [] [3] [] Tryz.func200 rfl (au HP ad0))
  (av (aw [] [4] [] Tryz.func199 rfl (au Jh afk))
  (av (aw [] [4,5] [] Tryz.func217 rfl (au z7 Sq))
  (av (aw [4,11] [8,9] [] Tryz.func176 rfl (au y5 RO))
  (av (aw [3,6,8,10] [7,9,11,12] [] Tryz.func112 rfl (au H6 aeh))
  (av (aw [2,3,4,12292,9] [5,6,7,8,10,11] [] Tryz.func155 rfl (au H8 aej))
  (av (aw [2] [3] [] Tryz.func178 rfl (au H9 aek))
  (av (aw [] [4,5] [] Tryz.func177 rfl (au zZ Sp))
  (av (aw [1] [2,3] [] Tryz.func179 rfl (au Jn aft))
  (av (aw [2,7,12295] [4,5] [] Tryz.func201 rfl (au wD Sy))
  (av (aw [1,4,6,12294,9] [2,3,5,7,8,38,47,10,11,12] [] Tryz.func202 rfl (au Ae LB))
  (av (aw [1] [2,3,12,20,4,5] [] Tryz.func218 rfl (au Jt afz))
  (av (aw [] [2] [] Tryz.func222 rfl (au Js afy))
  (av (aw [] [2,3,4,11] [] Tryz.func220 rfl (au Jp afv))
  (av (aw [2] [4,8,13,17,21] [] Tryz.func219 rfl (au Jw afC))
  (av (aw [2,4,7] [5,6,8] [] Tryz.func156 rfl (au Jo afu))
  (av (aw [2,3,4,6,33,7,8,10,12298,12] [5,15,21,9,11] [] Tryz.func180 rfl (au Af Sw))
  (av (aw [2,4] [5,6] [] Tryz.func203 rfl (au Ju afA))
  (av (aw [2] [] [] Tryz.func221 rfl (au Jx afD))
  (av (aw [4,5] [9,22,41,6,7,82,88,94] [] Tryz.func204 rfl (au Jr afx))
  (av (aw [] [6,8,14,20,25] [] Tryz.func223 rfl (au Jq afw))
  (av (aw [] [4,5,6,7] [] Tryz.func225 rfl (au Jv afB))
  (av (aw [] [4,5,6,7,8,9,10,11,12,13] [] Tryz.func226 rfl (au HG adO))
  (av (aw [6] [2,3,5,8] [] Tryz.func205 rfl (au zX Lz))
  (av (aw [1] [2] [] Tryz.func34 rfl (au HA adI))
  (av (aw [1,3,6,8] [2,4] [] Tryz.func37 rfl (au zV Lx))
  (av (aw [] [2,3,4] [] Tryz.func80 rfl (au Ab Su))
  (av (aw [4,5,10] [8,9,15,39,58,74,11,12] [] Tryz.func36 rfl (au Dc afn))
  (av (aw [1,9] [2,3,4,5,6,7,10,11,12] [] Tryz.func74 rfl (au zK Sg))
  (av (aw [1,2,3,4,6,16390,20486,24582,21,8,34,10,12298,16394,47] [] [] Tryz.func113 rfl (au zO E1))
  (av (aw [] [6,7,8] [] Tryz.func114 rfl (au zM Sk))
  (av (aw [] [4] [] Tryz.func157 rfl (au Jc aff))
  (av (aw [] [2,3,4,5] [] Tryz.func181 rfl (au zN Sl))
  (av (aw [] [4] [] Tryz.func182 rfl (au Jj afm))
  (av (aw [] [4,5] [] Tryz.func206 rfl (au Aa Ss))
  (av (aw [] [2] [] Tryz.func115 rfl (au I6 ae9))
  (av (aw [] [3] [] Tryz.func116 rfl (au I7 afa))
  (av (aw [2,3] [4,6] [] Tryz.func117 rfl (au zL Sj))
  (av (aw [] [6,7,8] [] Tryz.func158 rfl (au zR Sm))
  (av (aw [] [3] [] Tryz.func119 rfl (au I8 afb))
  (av (aw [] [3] [] Tryz.func120 rfl (au I9 afc))
  (av (aw [1,3,4,6,19,8,16392,36] [2] [] Tryz.func121 rfl (au zP Lu))
  (av (aw [1,4,6] [2,3] [] Tryz.func122 rfl (au zS Lw))
  (av (aw [1,4,6] [2] [] Tryz.func123 rfl (au zQ Lv))
  (av (aw [2] [4] [] Tryz.func75 rfl (au Jl afr))
  (av (aw [] [2] [] Tryz.func76 rfl (au Jm afs))
  (av (aw [1] [2] [] Tryz.func77 rfl (au Jk afo))
  (av (aw [3,4] [6,7,13,16,24,33,8,9] [] Tryz.func78 rfl (au Df afq))
  (av (aw [3] [4,5] [] Tryz.func124 rfl (au De afp))
  (av (aw [] [4,5,6,7,8,9] [] Tryz.func159 rfl (au C8 adP))
  (av (aw [] [2] [] Tryz.func160 rfl (au HL adW))
  (av (aw [] [2,3,4,5,6,7,8,9] [] Tryz.func183 rfl (au HH adR))
  (av (aw [] [4] [] Tryz.func185 rfl (au HJ adT))
  (av (aw [] [6,0,1] [] Tryz.func207 rfl (au Da adU))
  (av (aw [] [6,7,8] [] Tryz.func184 rfl (au C9 adQ))
  (av (aw [3,9] [6,7] [] Tryz.func83 rfl (au wC Si))
  (av (aw [3] [6,7,8,2,9,10] [] Tryz.func79 rfl (au Ac Sv))
  (av (aw [3,9] [6,7,2] [] Tryz.func126 rfl (au Ad LA))
  (av (aw [2,4,5] [6] [] Tryz.func127 rfl (au yZ RJ))
  (av (aw [3,4,5] [6] [] Tryz.func161 rfl (au HI adS))
  (av (aw [2] [4,5,6,7] [] Tryz.func187 rfl (au HK adV))
  (av (aw [1,52] [2,3,4,27,32] [] Tryz.func44 rfl (au HY ad9))
  (av (aw [3,8] [6] [] Tryz.func89 rfl (au y6 RP))
  (av (aw [1,2,3] [13,18,24] [] Tryz.func90 rfl (au H0 aeb))
  (av (aw [3,5] [6,7,11,20] [] Tryz.func88 rfl (au H2 aec))
  (av (aw [1] [2,3] [] Tryz.func91 rfl (au HZ aea))
  (av (aw [] [2,3,6] [] Tryz.func49 rfl (au HS ad3))
  (av (aw [2,4] [] [] Tryz.func46 rfl (au HV ad6))
  (av (aw [3,4,6] [7,8] [] Tryz.func92 rfl (au HW ad7))
  (av (aw [3] [6,7,8,9,1] [] Tryz.func131 rfl (au y2 RK))
  (av (aw [1,4,7] [2,3,5,8,63,66] [] Tryz.func47 rfl (au y8 RQ))
  (av (aw [1] [2,3] [] Tryz.func50 rfl (au HX ad8))
  (av (aw [1] [2,3,7,12] [] Tryz.func22 rfl (au HB adJ))
  (av (aw [2] [4,5] [] Tryz.func45 rfl (au HU ad5))
  (av (aw [1,4,5,7,9,12] [2,3,6,10] [] Tryz.func48 rfl (au y7 Li))
  (av (aw [4,6] [8] [] Tryz.func19 rfl (au HQ ad1))
  (av (aw [2,3] [4] [] Tryz.func15 rfl (au Db aed))
  (av (aw [2,3] [4,5] [] Tryz.func24 rfl (au zI Se))
  (av (aw [1] [2,3,4] [] Tryz.func55 rfl (au zj Ln))
  (av (aw [1] [2] [] Tryz.func56 rfl (au Iy aeG))
  (av (aw [1] [2,3] [] Tryz.func57 rfl (au zD R9))
  (av (aw [1] [2] [] Tryz.func104 rfl (au IF aeN))
  (av (aw [3] [6,1,7] [] Tryz.func147 rfl (au wB R7))
  (av (aw [1] [2,3] [] Tryz.func25 rfl (au Io aew))
  (av (aw [1,5,44] [2,3,4,6,7] [] Tryz.func58 rfl (au zp Lp))
  (av (aw [] [4] [] Tryz.func105 rfl (au It aeB))
  (av (aw [] [2,3,4] [] Tryz.func148 rfl (au zk RZ))
  (av (aw [] [2] [] Tryz.func173 rfl (au Iq aey))
  (av (aw [] [6,7] [] Tryz.func149 rfl (au zi RY))
  (av (aw [2,3] [4,5] [] Tryz.func106 rfl (au zl R0))
  (av (aw [] [6] [] Tryz.func107 rfl (au Is aeA))
  (av (aw [] [6,7] [] Tryz.func150 rfl (au zn R1))
  (av (aw [1,4,44] [2,3,5,6] [] Tryz.func59 rfl (au zq Lq))
  (av (aw [1,3,24] [2,4,5] [] Tryz.func60 rfl (au zr R3))
  (av (aw [1] [2,3,4] [] Tryz.func108 rfl (au zm Lo))
  (av (aw [1,4] [2,3,5] [] Tryz.func61 rfl (au zu Ls))
  (av (aw [1,4,6] [2,3,5] [] Tryz.func62 rfl (au zt Lr))
  (av (aw [2,3,10] [4,5,6,7,8,11] [] Tryz.func17 rfl (au wz Lj))
  (av (aw [2,3] [4,5,6,7,8,54,80,109,118,9,10] [] Tryz.func38 rfl (au Dg afE))
  (av (aw [] [4] [] Tryz.func81 rfl (au Jy afF))
  (av (aw [1,3] [2,8,19,40] [] Tryz.func82 rfl (au Jz afG))
  (av (aw [3,4,7,11] [6,8,9,76,92,98] [] Tryz.func39 rfl (au zc RU))
  (av (aw [] [6] [] Tryz.func40 rfl (au Ie aeo))
  (av (aw [3,4,7,8] [6,9,10,66,103,113,11,140,149] [] Tryz.func84 rfl (au Ic aen))
  (av (aw [3] [6,7] [] Tryz.func128 rfl (au Ib aem))
  (av (aw [3] [6] [] Tryz.func129 rfl (au If aep))
  (av (aw [2,3,6] [4,5,7] [] Tryz.func41 rfl (au za RS))
  (av (aw [3,4,5] [6,7,8,9,65,80,100,111] [] Tryz.func85 rfl (au Ia ael))
  (av (aw [1,4,5,52] [2,3] [] Tryz.func42 rfl (au zb RT))
  (av (aw [] [4,5,6] [] Tryz.func87 rfl (au HM adX))
  (av (aw [] [2] [] Tryz.func130 rfl (au HN adY))
  (av (aw [] [2,3,5] [] Tryz.func86 rfl (au y3 RM))
  (av (aw [6,9,12] [13] [] Tryz.func20 rfl (au I4 ae7))
  (av (aw [4,6,9] [8,10,11,12] [] Tryz.func51 rfl (au I0 ae5))
  (av (aw [2,4,46,52,7,69639,77831,81,115] [5,6,8,9] [] Tryz.func28 rfl (au zx Br))
  (av (aw [5,8,77832,10] [] [] Tryz.func67 rfl (au IY ae3))
  (av (aw [4,7,8,9,16393] [10,11,12] [] Tryz.func52 rfl (au IX ae2))
  (av (aw [3,5,7,8] [6,9] [] Tryz.func97 rfl (au zJ Sf))
  (av (aw [2,3] [4] [] Tryz.func101 rfl (au IZ ae4))
  (av (aw [2,3,5,6,7] [4,8,9,10,11] [] Tryz.func145 rfl (au zA R5))
  (av (aw [2] [] [] Tryz.func167 rfl (au IA aeI))
  (av (aw [2] [] [] Tryz.func168 rfl (au IB aeJ))
  (av (aw [] [4] [] Tryz.func169 rfl (au Iz aeH))
  (av (aw [2] [4] [] Tryz.func138 rfl (au Ir aez))
  (av (aw [3,6] [7] [] Tryz.func170 rfl (au zy R4))
  (av (aw [] [2] [] Tryz.func98 rfl (au IT aeY))
  (av (aw [4,10,11,78] [8,9,12,13,14] [] Tryz.func99 rfl (au zG Sc))
  (av (aw [2] [4,5] [] Tryz.func139 rfl (au zH Sd))
  (av (aw [4,10] [8,9] [] Tryz.func140 rfl (au IW ae1))
  (av (aw [2,4] [5] [] Tryz.func163 rfl (au zF Sb))
  (av (aw [3,6,9] [7,8] [] Tryz.func100 rfl (au IS aeX))
  (av (aw [2] [4,5,6,7,8,9] [] Tryz.func141 rfl (au IV ae0))
  (av (aw [2] [4,5] [] Tryz.func143 rfl (au zE Sa))
  (av (aw [1] [2,3] [] Tryz.func164 rfl (au IC aeK))
  (av (aw [1,4,33] [2,3,5,6,7,8,9,10] [] Tryz.func190 rfl (au zC R8))
  (av (aw [] [2,4,8,10] [] Tryz.func209 rfl (au IK aeR))
  (av (aw [1] [2,3,4,5] [] Tryz.func210 rfl (au IM aeT))
  (av (aw [] [2,3] [] Tryz.func212 rfl (au IJ aeQ))
  (av (aw [] [4,5,7,13,26,44,56] [] Tryz.func211 rfl (au IL aeS))
  (av (aw [] [2,3] [] Tryz.func165 rfl (au IU aeZ))
  (av (aw [] [2,4] [] Tryz.func144 rfl (au Ip aex))
  (av (aw [2,4] [5,6] [] Tryz.func142 rfl (au IE aeM))
  (av (aw [2,4,5,37] [9,15,6,41,55,64,73] [] Tryz.func166 rfl (au zB R6))
  (av (aw [4,5] [6,7] [] Tryz.func191 rfl (au II aeP))
  (av (aw [] [2] [] Tryz.func213 rfl (au ID aeL))
  (av (aw [3,4,6] [] [] Tryz.func192 rfl (au IN aeU))
  (av (aw [6] [8,14,20,27,34,40] [] Tryz.func193 rfl (au IP aeV))
  (av (aw [2] [] [] Tryz.func214 rfl (au IQ aeW))
  (av (aw [] [4,5,6] [] Tryz.func215 rfl (au IG aeO))
  (av (aw [1] [2] [] Tryz.func94 rfl (au I3 ae6))
  (av (aw [1] [2,3,4,5,6,7] [] Tryz.func96 rfl (au zz E0))
  (av (aw [4,5,10] [8,9,11,12,13] [] Tryz.func95 rfl (au Iv aeD))
  (av (aw [2] [4] [] Tryz.func133 rfl (au Ix aeF))
  (av (aw [] [2] [] Tryz.func102 rfl (au Ij aet))
  (av (aw [1] [2] [] Tryz.func134 rfl (au Iw aeE))
  (av (aw [3] [6,7,8] [] Tryz.func135 rfl (au zo R2))
  (av (aw [3,4,7] [6,8,9] [] Tryz.func136 rfl (au Iu aeC))
  (av (aw [] [4,5,6,7,8,9,10,11,12,13,14] [] Tryz.func162 rfl (au Ig aeq))
  (av (aw [] [2,3,4,5,6,7,8] [] Tryz.func171 rfl (au zd Ll))
  (av (aw [] [2] [] Tryz.func194 rfl (au Ik aeu))
  (av (aw [] [2] [] Tryz.func208 rfl (au Il aev))
  (av (aw [] [4] [] Tryz.func189 rfl (au Ih aer))
  (av (aw [] [6,7,8,9,10] [] Tryz.func188 rfl (au ze Lm))
  (av (aw [3] [6,7,8,9,10,11,12,2] [] Tryz.func137 rfl (au zw Lt))
  (av (aw [2] [4,5,6,7,8] [] Tryz.func103 rfl (au zf RV))
  (av (aw [2] [4,5,6,7,8,9] [] Tryz.func146 rfl (au Ii aes))
  (av (aw [] [4,5] [] Tryz.func172 rfl (au zh RX))
  (av (aw [4,5] [8,9,10] [] Tryz.func21 rfl (au I5 ae8))
  (av (aw [3] [6,7,8,9,10,11] [] Tryz.func53 rfl (au zg RW))
  trivial)))))))))))))))))))))))))))))))))))))))))))))))))))))))))))))))))))))))))))))))))))))))))))))))))))))))))))))))))))))))))))))))))))))))))))))))))))))))))))))))))))))))))))))))))))))))))))))))))))
end Rm
set_option linter.unusedSimpArgs false
namespace Rm
open Go Go.Proofs Cx Go.RowKit Go.Lib
theorem aqX:(Tryz.prog.info? 3).map (fun i=>(i.zero,i.size,i.bytes))=some (some (.int .i64 0),1,8):=by kernel_rfl
set_option maxHeartbeats 2000000 in
set_option maxRecDepth 100000 in
theorem anV (w:World):Calls Tryz.prog 224 #[.slice none 0 0,.int .i64 0] w fun e w'=>e=.returned (.slice none 0 0)∧w'=w:=by
 go_enter Tryz.func224,Tryz.ntmps224
 go_wp2
 go_ret
 exact⟨rfl,rfl⟩
set_option maxHeartbeats 2000000 in
set_option maxRecDepth 100000 in
theorem anU (n:Nat)(w:World)(h0:0<n)(h1:n≤4294967296):Calls Tryz.prog 224 #[.slice none 0 0,.int .i64 n] w fun e w'=>
 ∃v',e=.returned v'∧w'.ownsRow w.heap.size 3 1 v' 0 []∧Below w.heap.size w w':=by
 obtain⟨i0,hi,Rj,xx,hz2⟩:=info_parts aqX;have hr:=run_append_nil_zeros w 65 3 65 3 i0 (.int .i64 0) .i64 .i64 Tryz.underlying65 Tryz.underlying3 hi Rj n h0 (by rw[xx];decide) (by omega) (by rw[hz2];omega);have hn:¬((n:Int)<0):=by omega
 have xh:(n:Int)>0:=by omega
 have hw:IntKind.i64.wrap (n:Int)=n:=by rw[IntKind.wrap_i64];omega
 have Bb:IntKind.i64.wrap 0=0:=by decide
 have fG:=grownCap_ge w n 0 3;have hle:=grownCap_le_maxLen w n 0 3 (by unfold maxLen;omega);have hs:(Builtin.zeroCells #[Value.int IntKind.i64 0] n++Builtin.zeroCells #[Value.int IntKind.i64 0] (grownCap w n 0 3-n)).size=grownCap w n 0 3*1:=by
  rw[Array.size_append,size_zeroCells,size_zeroCells];simp;omega
 go_enter Tryz.func224,Tryz.ntmps224
 go_wp2_with (at_builtin;refine wpList_append_run _ rfl _ _ 65 3 rfl _ _ rfl rfl _ _ hr ?qc)
 go_ret
 refine⟨_,rfl,?_,?_⟩
 ·exact World.ownsRow.drew (World.ownsRow_made w _ _ (bK _) hle hs)
 ·exact((Below.refl _ w).alloc (bK _) _).drew
def JQ (ds:List D):Option D:=
 match ds with
 |[.list [],.v (.int .i64 n)]=>if 0≤n∧n≤4294967296 then some (.list []) else none
 |_=>none
theorem anT (ds:List D)(d:D)(h:JQ ds=some d):∃s,ctx.sig 224=some s∧NI ctx 224 s ds d:=by
 refine⟨_,rfl,fun _=>?_,fun aO ff hm=>by cases hm⟩;unfold JQ at h;split at h
 case h_2=>cases h
 rename_i n;split at h
 case isFalse=>cases h
 rename_i hn;cases h;obtain⟨k,rfl⟩:=qy hn.1;intro σ w args aB hC ha;obtain⟨a1,a2,a3⟩:=ha;have h0:=a3 0 _ rfl;have h1:=a3 1 _ rfl;obtain⟨u,v,rfl⟩:∃u v,args=#[u,v]:=by
  have:args.size=2:=by simpa using a1
  match args,this with
  |⟨[u,v]⟩,_=>exact⟨u,v,rfl⟩
 simp only[vW,Hb] at h0 h1;change Rep ctx.cap σ (.nils .bool) u (.list []) at h0;change Rep ctx.cap σ (.int .i64) v (.v (.int .i64 k)) at h1;have hu:u=.slice none 0 0:=by cases h0;rfl
 have hv:v=.int .i64 k:=by cases h1;rfl
 subst hu hv;by_cases hk:k=0
 ·subst hk;refine(anV w).mono fun e w' hh=>?_;obtain⟨rfl,rfl⟩:=hh;refine⟨_,σ,rfl,.refl σ,aB,.refl _ _,fun _ _ _ h=>.inl h,fun _ _ h=>.inl h,?_⟩;exact⟨[],[],rfl,⟨by simp,.inl ⟨rfl,rfl⟩⟩,⟨fun _=>undef,fun i x hx=>by simp at hx,fun i j u hi=>by simp at hi⟩,fun k hk=>by cases hk⟩
 ·refine(anU k w (by omega) (by omega)).mono fun e w' hh=>?_;obtain⟨v',rfl,dz,hb⟩:=hh;refine⟨v',σ,rfl,.refl σ,aB.below hb,hb,fun _ _ _ h=>.inl h,fun _ _ h=>.inl h,?_⟩;refine⟨[],[],rfl,dz,⟨fun _=>undef,fun i x hx=>by simp at hx,fun i j u hi=>by simp at hi⟩,fun k hk=>?_⟩;have bo:=(dz.lt k hk).1;refine⟨fun o=>?_,?_⟩
  ·cases hc:σ.c k o with
   |none=>rfl
   |some u=>have:=World.block_lt_of_cell? w (a:=⟨k,o,none⟩) (aB.c _ _ _ hc);simp at this;omega
  ·cases hc:σ.m k with
   |none=>rfl
   |some u=>rcases aB.m _ _ hc with⟨arr,clock,x,g1,_⟩|⟨_,g1⟩<;>(have:=(gO.1 g1).1;omega)
def bz (day:Int):Int×Int×Int:=
 let n:=day+730425
 let e:=n/146097
 let r:=n%146097
 let y:=(r-r/1460+r/36524-r/146096)/365
 let r:=r-(365*y+y/4-y/100)
 let m:=(5*r+2)/153
 let nX:=r-(153*m+2)/5+1
 let month:=if 12<m+3 then m+3-12 else m+3
 (if month<3 then y+400*e+1 else y+400*e,month,nX)
def jA (rest feasts shut:List Int)(day:Int):Bool:=
 !rest.contains ((day+5)%7)&&(!feasts.contains (100*(bz day).2.1+(bz day).2.2)&& !shut.contains day)
def ZT (rest feasts shut:List Int)(a b:Int):List Int:=((List.range (b-a+1).toNat).map fun(k:Nat)=>a+k).filter (jA rest feasts shut)
def xz (d:D):List Int:=d.l.map D.i
def ZU (ds:List D):List D:=
 let c:=(ds.getD 2 .none).deref
 (ZT (xz (c.c 3)) (xz (c.c 4)) (xz (c.c 5)) (ds.getD 0 .none).deref.i (ds.getD 1 .none).deref.i).map fun d=>.tup [.int d]
def yX (r:D)(city:Int):Int:=if 0≤city∧city<(r.c 1).l.length then(((r.c 1).l.getD city.toNat .none).c 1).i else-1
def SW (ds:List D):D:=
 let r:=ds.getD 0 .none
 let forum:=(ds.getD 1 .none).i
 let c:=ds.getD 2 .none
 let s:=(c.c 15).l.getD (c.c 19).i.toNat .none
 let who:=(s.c 2).i
 if who<0∨(r.c 3).l.length≤who∨forum<0∨(r.c 4).l.length≤forum then .list [] else
 let out:=[forum,yX r (s.c 7).i,yX r (c.c 10).i,yX r (c.c 9).i,yX r (((r.c 3).l.getD who.toNat .none).c 1).i]
 if(-1)∈out then .list [] else ints out
def aac:List (Nat×(aY→List D→Option D)):=[(224,fun _ ds=>JQ ds),(153,Bo (ab HE) (ab HF) SW),(186,EK (ab sw) 1000 1 ZU)]
def ext:Nat→Option (aY→List D→Option D):=bS aac
theorem awF:TabOK ctx tab ext:=by
 refine⟨clos,its,fun f pc _ h=>awG f pc h,fun f g hg Φ hΦ gh ds d h=>?_⟩
 have:=Rx (R:=fun f (g:aY→List D→Option D)=>∀Φ,dM ctx Φ→gx ctx Φ→∀ds d,g Φ ds=some d→(∀s,ctx.sig f=some s→NI ctx f s ds d)∧
  ∀cs ys,ctx.cap f=some cs→nu cs.args cs.res=some ys→∃xs,d=.list xs∧(∀x,x∈xs→∃cH,x=.tup cH∧cH.length=ys.length)∧l5 ctx f cs.caps ys ds xs) (l:=aac)
  ⟨fun Φ hΦ gh ds d h=>⟨fun s hs=>by obtain⟨s',h1,h2⟩:=anT ds d h;rw[hs] at h1;cases h1;exact h2,fun cs ys hc hi=>by cases hc⟩,
   fun Φ hΦ gh ds d h=>⟨fun s hs=>by cases hs;exact⟨fun _=>atz clos hΦ gh Tryz.func153 (au HE adM) (au HF adN) h,fun aO ff hm=>by cases hm⟩,fun cs ys hc hi=>by cases hc⟩,
   fun Φ hΦ gh ds d h=>⟨fun s hs=>(by cases hs),fun cs ys hc hi=>by
    cases hc;cases hi;exact aq0 clos hΦ gh Tryz.func186 akz h rfl⟩,trivial⟩ f g hg
 exact this Φ hΦ gh ds d h
abbrev T:cL:=dq tab ext
theorem ak.of_nsl {tab:Nat→Option PC}{ext:Nat→Option (aY→List D→Option D)}{f:Nat}{pa pb:PC}{spec:List D→D}{ds:List D}{ta tb:PT}(hx:ext f=some (Bo pa pb spec))(hta:tree pa=ta)(htb:tree pb=tb)
 (h:(∃xs,xs≠[]∧spec ds=.list xs∧aK (dq tab ext) ta (m3 ds) (fun x=>x=.ret (.list xs)))∨(spec ds=.list []∧aK (dq tab ext) tb (m3 ds) (fun x=>x=.ret (.list [])))):ak (dq tab ext) f ds (spec ds):=by
 refine ak.of_ext hx ?_;rcases h with⟨xs,h1,h2,h3⟩|⟨h2,h3⟩
 ·obtain⟨x,rfl,n0,hn⟩:=Nx (c:=pa) (hta▸h3);refine⟨n0,fun n hle=>?_⟩;unfold Bo;rw[if_pos (.inl ⟨n,xs,hn n hle,h1,h2⟩)]
 ·obtain⟨x,rfl,n0,hn⟩:=Nx (c:=pb) (htb▸h3);refine⟨n0,fun n hle=>?_⟩;unfold Bo;rw[if_pos (.inr ⟨n,hn n hle,h2⟩)]
end Rm
namespace Rm
open Go Go.Proofs Cx
def eV (n:Nat)(p:Nat→Bool):Bool:=(List.range n).all p
theorem Zd {n:Nat}{p:Nat→Bool}(h:∀k,k<n→p k=true):eV n p=true:=fl.2 fun k hk=>h k (gf.1 hk)
theorem ajD {n k:Nat}{p:Nat→Bool}(hk:k<n)(h:p k=false):eV n p=false:=List.all_eq_false.2 ⟨k,gf.2 hk,by simp[h]⟩
theorem we {n:Nat}{p:Nat→Bool}:eV n p=true↔∀k,k<n→p k=true:=⟨fun h k hk=>fl.1 h k (gf.2 hk),Zd⟩
def fP (n:Nat)(f:Nat→Int):Int:=(((List.range n).map f).find? fun x=>x !=0).getD 0
theorem PJ {n:Nat}{f:Nat→Int}(h:∀k,k<n→f k=0):fP n f=0:=by
 unfold fP;rw[nS.2]
 ·rfl
 ·intro x hx;obtain⟨k,hk,rfl⟩:=dH.1 hx;simp[h k (gf.1 hk)]
theorem PH {n k:Nat}{f:Nat→Int}(hk:k<n)(hj:∀j,j<k→f j=0)(h:f k≠0):fP n f=f k:=by
 unfold fP;have e:List.range n=List.range k++k::(List.range' (k+1) (n-k-1)):=by
  rw[N2,N2,←N1];have:=List.range'_append_1 (s:=0) (m:=k) (n:=n-k-1+1);rw[mU] at this;rw[this];congr 1;omega
 rw[e,pf,List.find?_append,nS.2,Option.none_or,jN,List.find?_cons_of_pos (by simpa using h)]
 ·rfl
 ·intro x hx;obtain⟨j,uG,rfl⟩:=dH.1 hx;simp[hj j (gf.1 uG)]
theorem JN {n:Nat}{f:Nat→Int}:fP n f=0↔∀k,k<n→f k=0:=by
 refine⟨fun h k=>?_,PJ⟩
 induction k using Nat.strongRecOn with
 |ind k ih=>
  intro hk;refine Cj fun aA=>?_;rw[PH hk (fun j hj=>ih j hj (by omega)) aA] at h;exact aA h
section
variable {T:cL} {id:Nat} {bM bL lr lo:List Nat} {a:PC} {ρ:Env} {Q:Out→Prop}
theorem gu (N:Nat)(p:Nat→Bool)(str fK:Nat→List D)(h0:lr.map ρ.r=str 0∧lo.map ρ.o=fK 0)
 (step:∀k,k<N→p k=true→aK T (round id bM bL lr lo a) (ρ.put lr (str k) lo (fK k)) (fA ρ id bM bL lr lo (fun vr vo=>vr=str (k+1)∧vo=fK (k+1)) Q))
 (bad:∀k,k<N→p k=false→eV N p=false→aK T (round id bM bL lr lo a) (ρ.put lr (str k) lo (fK k)) (fA ρ id bM bL lr lo (fun _ _=>False) Q))
 (last:eV N p=true→aK T (round id bM bL lr lo a) (ρ.put lr (str N) lo (fK N)) (fA ρ id bM bL lr lo (fun _ _=>False) Q)):aL T (.block id bM bL (.loop lr lo a)) ρ Q:=
 .scan N (fun k=>p k=true) str fK h0 (fun k hk _ h=>step k hk h) (fun k hk _ h=>bad k hk (by simpa using h) (ajD hk (by simpa using h))) (fun h=>last (Zd h))
theorem nL (N:Nat)(f:Nat→Int)(str fK:Nat→List D)(h0:lr.map ρ.r=str 0∧lo.map ρ.o=fK 0)
 (step:∀k,k<N→f k=0→aK T (round id bM bL lr lo a) (ρ.put lr (str k) lo (fK k)) (fA ρ id bM bL lr lo (fun vr vo=>vr=str (k+1)∧vo=fK (k+1)) Q))
 (bad:∀k,k<N→f k≠0→fP N f=f k→aK T (round id bM bL lr lo a) (ρ.put lr (str k) lo (fK k)) (fA ρ id bM bL lr lo (fun _ _=>False) Q))
 (last:fP N f=0→aK T (round id bM bL lr lo a) (ρ.put lr (str N) lo (fK N)) (fA ρ id bM bL lr lo (fun _ _=>False) Q)):aL T (.block id bM bL (.loop lr lo a)) ρ Q:=
 .scan N (fun k=>f k=0) str fK h0 (fun k hk _ h=>step k hk h) (fun k hk hj h=>bad k hk h (PH hk hj h)) (fun h=>last (PJ h))
end
theorem bk {k n:Nat}(h:k<n)(hn:n≤4294967296):IntKind.i64.wrap ((k:Int)+1)=(k:Int)+1:=aJ (by omega)
theorem vQ {k:Nat}(hn:k≤4294967296):IntKind.i64.wrap ((k:Int)-1)=(k:Int)-1:=aJ (by omega)
def ax (i n:Int):Bool:=decide (0≤i)&&decide (i<n)
def wi (n a b:Int):Bool:=decide (a≤n)&&decide (n≤b)
theorem fX (i n:Int):ak T 118 [.int i,.int n] (.bool (ax i n)):=by
 refine .of_tree rfl (lA 18 (by kernel_rfl)) azd ?_;simp[Xh,ax];by_cases h:0≤i<;>simp[h]
theorem qp (i n:Int):ak T 72 [.int i,.int n] (.bool (ax i n)):=by
 refine .of_tree rfl (lA 7 (by kernel_rfl)) azr ?_;simp[Xu,ax];by_cases h:0≤i<;>simp[h]
theorem cB (n a b:Int):ak T 107 [.int n,.int a,.int b] (.bool (wi n a b)):=by
 refine .of_tree rfl (lA 116 (by kernel_rfl)) ayb ?_;simp[Wr,wi];by_cases h:a≤n<;>simp[h]
theorem idx_eq {α:Type}[DecidableEq α]{l:List α}{x z:α}{k:Nat}(hk:k<l.length)(hj:∀j,j<k→l.getD j z≠x)(h:¬l.getD k z≠x):x∈l∧l.findIdx (fun y=>decide (y=x))=k:=by
 have e:l[k]=x:=by simpa [hk] using h
 refine⟨e▸cv hk,(List.findIdx_eq hk).2 ⟨by simp[e],fun j mw=>?_⟩⟩;have jW:j<l.length:=by omega
 simpa [jW] using hj j mw
theorem acr {α:Type}[DecidableEq α]{l:List α}{x z:α}(hj:∀j,j<l.length→l.getD j z≠x):¬x∈l:=fun hm=>by
 obtain⟨j,jW,rfl⟩:=gP hm;have:=hj j jW;simp[jW] at this
def uV {α:Type}[DecidableEq α](l:List α)(x:α):Int:=if x∈l then(l.findIdx (fun y=>decide (y=x)):Nat) else-1
def hasB {α:Type}[DecidableEq α](l:List α)(x:α):Bool:=l.any fun y=>decide (y=x)
theorem P6 {α:Type}[DecidableEq α]{l:List α}{x:α}:hasB l x=true↔x∈l:=by simp[hasB]
theorem aaY {α:Type}[DecidableEq α]{l:List α}{x:α}:hasB l x=false↔¬x∈l:=by rw[←P6];simp
theorem acq {α:Type}[DecidableEq α](l:List α)(x:α):decide (0≤uV l x)=hasB l x:=by
 unfold uV;by_cases h:x∈l
 ·rw[P6.2 h];simp[h]
 ·rw[aaY.2 h];simp[h]
@[simp] theorem aDZ (a b:ByteArray):wF .eql a b=decide (a=b):=by
  simp only[wF,ByteArray.toList_eq];by_cases h:a=b
  ·subst h;simp
  ·rw[decide_eq_false h,beq_eq_false_iff_ne];intro e;have:a.data=b.data:=by rw[←vS];exact e
   exact h (by cases a;cases b;cases this;rfl)
@[simp] theorem aEP (ρ:Env)(x i:PE):PE.ev ρ (.sidx x i)=.v (.int .u8 ((PE.ev ρ x).s.data.getD (PE.ev ρ i).i.toNat 0).toNat):=_root_.id rfl
@[simp] theorem aET (ρ:Env)(x i:PE):PE.ev ρ (.sok x i)=.v (.bool (decide (0≤(PE.ev ρ i).i∧(PE.ev ρ i).i<(PE.ev ρ x).s.size))):=_root_.id rfl
@[simp] theorem aHs (a:ByteArray):(str a).s=a:=_root_.id rfl
theorem ajg (l:List Int)(x:Int)(hl:l.length≤4294967296):ak T 132 [ints l,.int x] (.int (uV l x)):=by
 refine .of_tree rfl (lA 23 (by kernel_rfl)) azA ?_;simp[XD];refine .scan l.length (fun k=>l.getD k 0≠x) (fun k=>[.int 0,.int k]) (fun _=>[]) ?_ (fun k hk hj ho=>?_) (fun k hk hj ho=>?_) (fun hj=>?_)
 ·simp
 ·have hw:=bk hk hl;simp[hk] at ho;have jr:¬x=l[k]:=fun e=>ho e.symm;simp[UM,Gy,hk,hw,ints,ho,jr]
 ·obtain⟨hm,he⟩:=idx_eq hk hj ho;simp[hk] at ho;simp[UM,Gy,hk,ints,ho,uV,hm,he]
 ·have:=acr hj;simp[UM,Gy,uV,this,ints]
theorem rV (l:List Int)(x:Int)(hl:l.length≤4294967296):ak T 93 [ints l,.int x] (.bool (hasB l x)):=by
 refine .of_tree rfl (lA 22 (by kernel_rfl)) azv ?_;simp[Xy];refine⟨_,ajg l x hl,?_⟩;have:=acq l x;simp at this ⊢;exact this
theorem ajh (l:List ByteArray)(x:ByteArray)(hl:l.length≤4294967296):ak T 206 [strs l,str x] (.int (uV l x)):=by
 refine .of_tree rfl (lA 60 (by kernel_rfl)) azB ?_;simp[XE];refine .scan l.length (fun k=>l.getD k default≠x) (fun k=>[.int 0,.int k]) (fun _=>[]) ?_ (fun k hk hj ho=>?_) (fun k hk hj ho=>?_) (fun hj=>?_)
 ·simp
 ·have hw:=bk hk hl;simp[hk] at ho;have jr:¬x=l[k]:=fun e=>ho e.symm;simp[UN,Gz,hk,hw,strs,ho,jr]
 ·obtain⟨hm,he⟩:=idx_eq hk hj ho;simp[hk] at ho;simp[UN,Gz,hk,strs,ho,uV,hm,he]
 ·have:=acr hj;simp[UN,Gz,uV,this,strs]
theorem ai7 (l:List ByteArray)(x:ByteArray)(hl:l.length≤4294967296):ak T 182 [strs l,str x] (.bool (hasB l x)):=by
 refine .of_tree rfl (lA 59 (by kernel_rfl)) azw ?_;simp[Xz];refine⟨_,ajh l x hl,?_⟩;have:=acq l x;simp at this ⊢;exact this
def nI (l:List Int)(a b:Int)(k:Nat):Bool:=wi (l.getD k 0) a b&&(k==0||decide (l.getD (k-1) 0<l.getD k 0))
def rising (l:List Int)(a b:Int):Bool:=eV l.length (nI l a b)
theorem GF (l:List Int)(a b:Int)(hl:l.length≤4294967296):ak T 158 [ints l,.int a,.int b] (.bool (rising l a b)):=by
 refine .of_tree rfl (lA 64 (by kernel_rfl)) azj ?_;simp[Xn];refine gu l.length (nI l a b) (fun k=>[.bool false,.int k]) (fun _=>[]) ?_ (fun k hk ho=>?_) (fun k hk ho hb=>?_) (fun hj=>?_)
 ·simp
 ·have hw:=bk hk hl;simp[nI,wi,hk] at ho;obtain⟨⟨h1,h2⟩,h3⟩:=ho;have cu:¬l[k]<a:=by omega
  have jn:¬b<l[k]:=by omega
  by_cases gE:0<k
  ·have bI:k-1<l.length:=by omega
   have cd:IntKind.i64.wrap ((k:Int)-1)=((k-1:Nat):Int):=by rw[vQ (by omega)];omega
   have dO:¬l[k]≤l[k-1]:=by
        rcases h3 with h3|h3
        ·omega
        ·simp[bI] at h3;omega
   simp[BT,vy,hk,hw,cd,ints,cu,jn,dO,gE,bI]
  ·simp[BT,vy,hk,hw,ints,cu,jn,gE]
 ·have hf:rising l a b=false:=hb;simp[nI,wi,hk] at ho;by_cases h1:l[k]<a
  ·simp[BT,vy,hk,ints,h1,hf]
  by_cases h2:b<l[k]
  ·simp[BT,vy,hk,ints,h1,h2,hf]
  have h3:=ho (by omega) (by omega);have gE:0<k:=by omega
  have bI:k-1<l.length:=by omega
  have cd:IntKind.i64.wrap ((k:Int)-1)=((k-1:Nat):Int):=by rw[vQ (by omega)];omega
  have dO:=h3.2;simp[bI] at dO;simp[BT,vy,hk,cd,ints,h1,h2,dO,gE,bI,hf]
 ·have hf:rising l a b=true:=hj;simp[BT,vy,hf]
def EP (c:Int):Bool:=wi c 97 122||wi c 65 90
def xL (i:Nat)(c:Int):Bool:=EP c||(i !=0&&(decide (c=95)||wi c 48 57))
def C4 (s:ByteArray)(k:Nat):Int:=((s.data.toList.getD k 0).toNat:Nat)
def ja (s:ByteArray):Bool:=decide (1≤s.size)&&decide (s.size≤20)&&eV s.size (fun k=>xL k (C4 s k))
theorem Ht {s:ByteArray}{k:Nat}(h:k<s.data.size):(s.data[k].toNat:Int)=C4 s k:=by
 unfold C4;rw[bh,cl (by simpa using h)];rfl
theorem ahN {s:ByteArray}:s=⟨#[]⟩↔s.size=0:=by
 constructor
 ·rintro rfl;rfl
 ·intro h;cases s with|mk d=>congr;exact ND h
theorem avG (s:ByteArray):ak T 181 [str s] (.bool (ja s)):=by
 refine .of_tree rfl (lA 58 (by kernel_rfl)) aze ?_;simp[Xi];by_cases h0:s=⟨#[]⟩
 ·have hn:ja s=false:=by simp[ja,ahN.1 h0]
  rw[hn];simp[h0]
 by_cases h1:(20:Int)<s.size
 ·have cu:¬s.size≤20:=by omega
  simp[h0,h1,ja,cu]
 have hz:1≤s.size:=by
  have:s.size≠0:=fun e=>h0 (ahN.2 e);omega
 have cu:s.size≤20:=by omega
 simp[h0,h1];refine⟨by omega,gu s.size (fun k=>xL k (C4 s k)) (fun k=>[.bool false,.int k]) (fun _=>[]) ?_ (fun k hk ho=>?_) (fun k hk ho hb=>?_) (fun hj=>?_)⟩
 ·simp
 ·have hw:=bk hk (by omega);have bo:k<s.data.size:=hk;have hg:=Ht bo;simp[xL,EP,wi] at ho;simp[Uw,Gi,hk,bo,hw,hg];omega
 ·have bo:k<s.data.size:=hk;have hg:=Ht bo;have hn:ja s=false:=by simp[ja,hb]
  simp[xL,EP,wi] at ho;simp[Uw,Gi,hk,bo,hg,hn];omega
 ·have hn:ja s=true:=by simp[ja,hj,hz,cu]
  have hd:s.data.size=s.size:=rfl;simp[Uw,Gi,hn,hd]
theorem agy (c:Int):ak T 173 [.v (.int .u8 c)] (.bool (EP c)):=by
 refine .of_tree rfl (lA 113 (by kernel_rfl)) ax4 ?_;simp[Wk,EP,wi];by_cases h:97≤c<;>by_cases h2:c≤122<;>by_cases h3:65≤c<;>by_cases h4:c≤90<;>simp[h,h2,h3,h4]
theorem auI (s:ByteArray):ak T 148 [str s] (.bool (ja s)):=by
 refine .of_tree rfl (lA 112 (by kernel_rfl)) ax5 ?_;simp[Wl];by_cases h0:(s.size:Int)<1
 ·have hn:ja s=false:=by simp[ja];omega
  simp[h0,hn]
 by_cases h1:(20:Int)<s.size
 ·have hn:ja s=false:=by simp[ja];omega
  simp[h0,h1,hn]
 rw[if_neg (by omega)];refine gu s.size (fun k=>xL k (C4 s k)) (fun k=>[.bool false,.int k]) (fun _=>[]) ?_ (fun k hk ho=>?_) (fun k hk ho hb=>?_) (fun hj=>?_)
 ·simp
 ·have hw:=bk hk (by omega);have bo:k<s.data.size:=hk;have hg:=Ht bo;simp[xL,wi] at ho;simp[T3,FM,hk,bo,hw,hg];refine⟨_,agy _,?_⟩;simp[hw];intro g1 g2;exfalso;rcases ho with h|h
  ·rw[h] at g1;cases g1
  ·omega
 ·have bo:k<s.data.size:=hk;have hg:=Ht bo;have hn:ja s=false:=by simp[ja,hb]
  simp[xL,wi] at ho;simp[T3,FM,hk,bo,hg,hn];refine⟨_,agy _,?_⟩;simp[ho.1];omega
 ·have hn:ja s=true:=by simp[ja,hj];omega
  simp[T3,FM,hn]
end Rm
namespace Rm
open Go Go.Proofs Cx
theorem auG (l:List ByteArray)(n:Nat)(x:ByteArray)(hn:n≤l.length)(hl:l.length≤4294967296):ak T 149 [strs l,.int n,str x] (.bool (hasB (l.take n) x)):=by
 refine .of_tree rfl (lA 114 (by kernel_rfl)) ax0 ?_;simp[Wh];refine .scan n (fun k=>l.getD k default≠x) (fun k=>[.bool false,.int k]) (fun _=>[]) ?_ (fun k hk hj ho=>?_) (fun k hk hj ho=>?_) (fun hj=>?_)
 ·simp
 ·have bo:k<l.length:=by omega
  have hw:=bk bo hl;simp[bo] at ho;simp[T2,FK,hk,bo,hw,strs,ho]
 ·have bo:k<l.length:=by omega
  simp[bo] at ho;have hm:hasB (l.take n) x=true:=P6.2 (by rw[←ho,ajn];exact⟨k,by omega,rfl⟩);simp[T2,FK,hk,bo,strs,ho,hm]
 ·have hm:hasB (l.take n) x=false:=aaY.2 (fun h=>by
   rw[ajn] at h;obtain⟨k,hk,e⟩:=h;have:=hj k (by omega);simp[show k<l.length by omega] at this;exact this e)
  simp[T2,FK,hm]
def gW (l:List ByteArray)(i:Nat):Int:=if ja (l.getD i default)=false then 2 else if hasB (l.take i) (l.getD i default) then 5 else 0
theorem RD (l:List ByteArray)(i n:Nat)(h:i<n):gW (l.take n) i=gW l i:=by
 unfold gW;rw[bh,List.getElem?_take_of_lt h,List.take_take,pj (by omega),←bh]
theorem Ft (l:List ByteArray)(i:Nat)(hi:i<l.length)(hl:l.length≤4294967296):ak T 105 [strs l,.int i] (.int (gW l i)):=by
 refine .of_tree rfl (lA 111 (by kernel_rfl)) aye ?_;simp[Wu,hi];refine⟨_,by simpa [strs,hi] using auI l[i],?_⟩;unfold gW;rw[bh,cl hi,lx];cases h1:ja l[i]<;>simp[h1];refine⟨_,by simpa [strs,hi] using auG l i l[i] (by omega) hl,?_⟩;cases h2:hasB (l.take i) l[i]<;>simp[h2]
theorem ahm (l:List ByteArray)(i:Nat)(hi:i<l.length)(hl:l.length≤4294967296):ak T 157 [strs l,.int i] (.int (gW l i)):=by
 refine .of_tree rfl (lA 57 (by kernel_rfl)) azf ?_;simp[Xj,hi];refine⟨_,by simpa [strs,hi] using avG l[i],?_⟩;unfold gW;rw[bh,cl hi,lx];cases h1:ja l[i]<;>simp[h1];refine⟨by omega,_,by simpa [strs,hi] using ai7 (l.take i) l[i] (by rw[eH];omega),?_⟩;cases h2:hasB (l.take i) l[i]<;>simp[h2]
def kl (l:List ByteArray)(g:Nat→Bool)(i:Nat):Int:=if gW l i≠0 then gW l i else if g i then 0 else 1
def eM (l:List ByteArray)(EV:Int)(g:Nat→Bool):Int:=if EV<l.length then 6 else fP l.length (kl l g)
theorem MQ (l:List ByteArray)(EV:Int)(f:Nat)(caps:List D)(g:Nat→Bool)(hg:∀i:Nat,i<l.length→ak T f (.int i::caps) (.bool (g i)))(hl:l.length≤4294967296):
 ak T 114 [strs l,.int EV,.clo f caps] (.int (eM l EV g)):=by
 refine .of_tree rfl (lA 56 (by kernel_rfl)) azc ?_;simp[Xg,eM];by_cases h0:EV<l.length
 ·simp[h0];intro h;omega
 simp[h0];refine nL l.length (kl l g) (fun k=>[.int 0,.int k]) (fun _=>[]) ?_ (fun k hk ho=>?_) (fun k hk ho hb=>?_) (fun hj=>?_)
 ·simp
 ·have hw:=bk hk hl;have h1:gW l k=0:=by
   refine Cj fun h=>?_;unfold kl at ho;rw[if_pos h] at ho;exact h ho
  have h2:g k=true:=by
   unfold kl at ho;rw[if_neg (by simpa using h1)] at ho;cases h:g k with
   |true=>rfl
   |false=>rw[h] at ho;simp at ho
  simp[Uv,Gg,hk,hw];refine⟨_,ahm l k hk hl,?_⟩;simp[h1];refine⟨_,_,⟨rfl,rfl⟩,_,hg k hk,?_⟩;simp[h2,hw]
 ·simp[Uv,Gg,hk,hb];refine⟨_,ahm l k hk hl,?_⟩;unfold kl at ho ⊢;by_cases h1:gW l k=0
  ·simp[h1] at ho ⊢;refine⟨_,_,⟨rfl,rfl⟩,_,hg k hk,?_⟩;simp[ho]
  ·simp[h1]
 ·simp[Uv,Gg,hj]
theorem TB (l:List Int)(a b:Int)(hl:l.length≤4294967296):ak T 150 [ints l,.int a,.int b] (.bool (rising l a b)):=by
 refine .of_tree rfl (lA 117 (by kernel_rfl)) ax9 ?_;simp[Wp];refine gu l.length (nI l a b) (fun k=>[.bool false,.int k]) (fun _=>[]) ?_ (fun k hk ho=>?_) (fun k hk ho hb=>?_) (fun hj=>?_)
 ·simp
 ·have hw:=bk hk hl;simp[nI,hk] at ho;simp[T7,FQ,hk,hw,ints];refine⟨_,cB _ _ _,?_⟩;by_cases gE:0<k
  ·have bI:k-1<l.length:=by omega
   have cd:IntKind.i64.wrap ((k:Int)-1)=((k-1:Nat):Int):=by rw[vQ (by omega)];omega
   have dO:¬l[k]≤l[k-1]:=by
        rcases ho.2 with h3|h3
        ·omega
        ·simp[bI] at h3;omega
   simp[ho.1,hk,hw,cd,dO,gE,bI]
  ·simp[ho.1,hk,hw,gE];omega
 ·have hf:rising l a b=false:=hb;simp[nI,hk] at ho;simp[T7,FQ,hk,ints,hf];refine⟨_,cB _ _ _,?_⟩;cases h1:wi l[k] a b with
  |false=>simp
  |true=>
   have h3:=ho h1;have gE:0<k:=by omega
   have bI:k-1<l.length:=by omega
   have cd:IntKind.i64.wrap ((k:Int)-1)=((k-1:Nat):Int):=by rw[vQ (by omega)];omega
   have dO:=h3.2;simp[bI] at dO;simp[hk,cd,dO,gE,bI]
 ·have hf:rising l a b=true:=hj;simp[T7,FQ,hf]
theorem Va (n:Int):n.tdiv 100=if 0≤n then n/100 else-((-n)/100):=by
 split
 ·rename_i h;exact vU h
 ·rename_i h;have e:n.tdiv 100=-((-n).tdiv 100):=by rw[Int.neg_tdiv,Int.neg_neg]
  rw[e,vU (by omega)]
theorem ahX (n:Int):n.tmod 100=n-100*n.tdiv 100:=Int.tmod_def n 100
theorem aiX {n:Int}(h:aW n):IntKind.i64.wrap (n.tdiv 100)=n.tdiv 100:=aJ (by rw[Va];unfold aW at h;split<;>omega)
def mf (r:Realm)(c:City):Bool:=eV c.feasts.length (fun k=>wi ((c.feasts.getD k 0).tmod 100) 1 31)&&(decide (c.feasts.length≤60)&&decide (c.shut.length≤200)&&ax c.order r.orders.length&&ax c.currency r.currencies.length)&&
 (rising c.rest 0 6&&rising c.feasts 101 1231&&rising c.shut 0 100000)
theorem avE (r:Realm)(c:City)(h1:c.rest.length≤4294967296)(h2:c.feasts.length≤4294967296)(h3:c.shut.length≤4294967296):ak T 117 [aQ r,fm c] (.bool (mf r c)):=by
 refine .of_tree rfl (lA 63 (by kernel_rfl)) azb ?_;simp[Xf];refine gu c.feasts.length (fun k=>wi ((c.feasts.getD k 0).tmod 100) 1 31) (fun k=>[.bool false,.int k]) (fun _=>[]) ?_ (fun k hk ho=>?_) (fun k hk ho hb=>?_) (fun hj=>?_)
 ·simp
 ·have hw:=bk hk h2;simp[wi,hk] at ho;have g1:¬(c.feasts[k].tmod 100<1):=by omega
  have g2:¬(31<c.feasts[k].tmod 100):=by omega
  simp[Uu,Gf,hk,hw,ints,g1,g2]
 ·have hf:mf r c=false:=by simp only[mf,hb,rT]
  simp[wi,hk] at ho;simp[Uu,Gf,hk,ints,hf];by_cases g1:c.feasts[k].tmod 100<1
  ·simp[g1]
  ·have g2:=ho (by omega);simp[g1,g2]
 ·simp[Uu,Gf];by_cases g1:(c.feasts.length:Int)≤60
  case neg=>
   have hf:mf r c=false:=by
        have dI:decide (c.feasts.length≤60)=false:=decide_eq_false (by omega);simp only[mf,dI,rT,yI]
   have dI:(60:Int)<c.feasts.length:=by omega
   simp[g1,dI,hf]
  by_cases g2:(c.shut.length:Int)≤200
  case neg=>
   have hf:mf r c=false:=by
        have dI:decide (c.shut.length≤200)=false:=decide_eq_false (by omega);simp only[mf,dI,rT,yI]
   have kN:(200:Int)<c.shut.length:=by omega
   simp[g1,g2,kN,hf]
  have dI:¬(60:Int)<c.feasts.length:=by omega
  have kN:¬(200:Int)<c.shut.length:=by omega
  have hf:mf r c=(ax c.order r.orders.length&&ax c.currency r.currencies.length&&(rising c.rest 0 6&&rising c.feasts 101 1231&&rising c.shut 0 100000)):=by
   have e1:decide (c.feasts.length≤60)=true:=decide_eq_true (by omega);have e2:decide (c.shut.length≤200)=true:=decide_eq_true (by omega);simp only[mf,hj,e1,e2,yK]
  rw[hf];simp[g1,g2,dI,kN];refine⟨_,fX _ _,?_⟩;simp;cases e1:ax c.order r.orders.length<;>simp;refine⟨_,fX _ _,?_⟩;simp;cases e2:ax c.currency r.currencies.length<;>simp;refine⟨_,GF _ _ _ h1,?_⟩;simp;cases e3:rising c.rest 0 6<;>simp;refine⟨_,GF _ _ _ h2,?_⟩;simp;cases e4:rising c.feasts 101 1231<;>simp;exact GF _ _ _ h3
def py (r:Realm)(c:City):Bool:=(wi c.order 0 (r.orders.length-1)&&wi c.currency 0 (r.currencies.length-1)&&decide (c.feasts.length≤60)&&decide (c.shut.length≤200))&&
 eV c.feasts.length (fun k=>wi ((c.feasts.getD k 0).tdiv 100) 1 12&&wi ((c.feasts.getD k 0).tmod 100) 1 31)&&(rising c.rest 0 6&&rising c.feasts 0 2000&&rising c.shut 0 100000)
theorem rR (n:Nat)(h:n≤4294967296):IntKind.i64.wrap ((n:Int)-1)=(n:Int)-1:=aJ (by omega)
theorem auJ (r:Realm)(c:City)(h1:c.rest.length≤4294967296)(h2:c.feasts.length≤4294967296)(h3:c.shut.length≤4294967296)(h4:r.orders.length≤4294967296)(h5:r.currencies.length≤4294967296)(hi:∀y,y∈c.feasts→aW y):
 ak T 106 [aQ r,fm c] (.bool (py r c)):=by
 refine .of_tree rfl (lA 115 (by kernel_rfl)) ax7 ?_;simp[Wn,rR _ h4,rR _ h5];refine⟨_,cB _ _ _,?_⟩;cases e1:wi c.order 0 (r.orders.length-1)
 case false=>simp[py,e1]
 simp;refine⟨_,cB _ _ _,?_⟩;cases e2:wi c.currency 0 (r.currencies.length-1)
 case false=>simp[py,e1,e2]
 by_cases g1:(c.feasts.length:Int)≤60
 case neg=>
  have hf:py r c=false:=by
   have dI:decide (c.feasts.length≤60)=false:=decide_eq_false (by omega);simp only[py,dI,rT,yI]
  have dI:(60:Int)<c.feasts.length:=by omega
  simp[dI,hf]
 by_cases g2:(c.shut.length:Int)≤200
 case neg=>
  have hf:py r c=false:=by
   have dI:decide (c.shut.length≤200)=false:=decide_eq_false (by omega);simp only[py,dI,rT,yI]
  have kN:(200:Int)<c.shut.length:=by omega
  simp[kN,hf]
 have dI:¬(60:Int)<c.feasts.length:=by omega
 have kN:¬(200:Int)<c.shut.length:=by omega
 have hf:py r c=(eV c.feasts.length (fun k=>wi ((c.feasts.getD k 0).tdiv 100) 1 12&&wi ((c.feasts.getD k 0).tmod 100) 1 31)&&(rising c.rest 0 6&&rising c.feasts 0 2000&&rising c.shut 0 100000)):=by
  have e3:decide (c.feasts.length≤60)=true:=decide_eq_true (by omega);have e4:decide (c.shut.length≤200)=true:=decide_eq_true (by omega);simp only[py,e1,e2,e3,e4,yK]
 rw[hf];simp[dI,kN];refine gu c.feasts.length (fun k=>wi ((c.feasts.getD k 0).tdiv 100) 1 12&&wi ((c.feasts.getD k 0).tmod 100) 1 31) (fun k=>[.bool false,.int k]) (fun _=>[]) ?_ (fun k hk ho=>?_) (fun k hk ho hb=>?_) (fun hj=>?_)
 ·simp
 ·have hw:=bk hk h2;have hI:=hi _ (cv hk);have hq:IntKind.i64.wrap (c.feasts[k].tdiv 100)=c.feasts[k].tdiv 100:=aiX hI;simp[hk] at ho;simp[T4,FN,hk,ints,hq];refine⟨_,cB _ _ _,?_⟩;simp[ho.1,hk];refine⟨_,cB _ _ _,?_⟩;simp[ho.2,hk,hw]
 ·have hI:=hi _ (cv hk);have hq:IntKind.i64.wrap (c.feasts[k].tdiv 100)=c.feasts[k].tdiv 100:=aiX hI;simp[hk] at ho;simp only[bh] at hb;rw[hb];simp[T4,FN,hk,ints,hq];refine⟨_,cB _ _ _,?_⟩;cases e3:wi (c.feasts[k].tdiv 100) 1 12 with
  |false=>simp
  |true=>
   have:=ho e3;simp[hk];refine⟨_,cB _ _ _,?_⟩;simp[this]
 ·simp only[bh] at hj;rw[hj];simp[T4,FN];refine⟨_,TB _ _ _ h1,?_⟩;simp;cases e3:rising c.rest 0 6<;>simp;refine⟨_,TB _ _ _ h2,?_⟩;simp;cases e4:rising c.feasts 0 2000<;>simp;exact TB _ _ _ h3
theorem akJ (r:Realm)(c:City):py r c=mf r c:=by
 rw[qx];have bU:∀(i:Int) (n:Nat),(wi i 0 (n-1)=true)↔(ax i n=true):=by intro i n;simp[wi,ax];omega
 simp only[py,mf,az,decide_eq_true_eq,bU,rising,we,nI];constructor
 ·rintro⟨⟨⟨⟨⟨a1,a2⟩,a3⟩,a4⟩,a5⟩,⟨a6,a7⟩,a8⟩;refine⟨⟨fun k hk=>(a5 k hk).2,⟨⟨⟨a3,a4⟩,a1⟩,a2⟩⟩,⟨a6,fun k hk=>?_⟩,a8⟩;have h1:=a5 k hk;have h2:=a7 k hk;simp[wi,ahX,Va] at h1 h2 ⊢;split at h1<;>omega
 ·rintro⟨⟨a5,⟨⟨⟨a3,a4⟩,a1⟩,a2⟩⟩,⟨a6,a7⟩,a8⟩;refine⟨⟨⟨⟨⟨a1,a2⟩,a3⟩,a4⟩,fun k hk=>?_⟩,⟨a6,fun k hk=>?_⟩,a8⟩
  ·have h1:=a5 k hk;have h2:=a7 k hk;simp[wi,ahX,Va] at h1 h2 ⊢;split at h1<;>(try split)<;>omega
  ·have h2:=a7 k hk;simp[wi] at h2 ⊢;omega
end Rm
namespace Rm
open Go Go.Proofs Cx
theorem B7 {α β:Type}(f:α→β){l:List α}{k:Nat}(h:k<l.length):(l.take (k+1)).map f=(l.take k).map f++[f l[k]]:=by
 rw[jO h,pf];rfl
theorem nr (i:Int)(n:Nat):ax i n=wi i 0 ((n:Int)-1):=by
 rw[qx];simp[wi,ax];omega
def wg (o:Order):List Int:=o.choices.map (·.ask)
def CI (o:Order):List Int:=o.rules.map (·.ask)
def oC (o:Order):Bool:=eV o.choices.length (fun k=>ax (o.choices.getD k default).by_ 5)&&(rising (wg o) 0 21&&rising (CI o) 0 21)
theorem avI (o:Order)(h1:o.choices.length≤100000)(h2:o.rules.length≤100000):ak T 121 [gT o] (.bool (oC o)):=by
 refine .of_tree rfl (lA 67 (by kernel_rfl)) azh ?_;simp[Xl];refine gu o.choices.length (fun k=>ax (o.choices.getD k default).by_ 5) (fun k=>[.bool false,.none,.int k]) (fun k=>[ints ((o.choices.take k).map (·.ask))]) ?_ (fun k hk ho=>?_) (fun k hk ho hb=>?_) (fun hj=>?_)
 ·simp[ints]
 ·have hw:=bk hk (by omega);have hl:(o.choices.take k).length=k:=by rw[eH];omega
  simp[hk] at ho;rw[B7 _ hk];simp[Ux,Gj,hk,hw,ints,hl];refine⟨by omega,_,fX _ _,?_⟩;simp[ho,hw]
 ·have hf:oC o=false:=by simp only[oC,hb,rT]
  have hl:(o.choices.take k).length=k:=by rw[eH];omega
  simp[hk] at ho;simp[Ux,Gj,hk,ints,hl,hf];refine⟨by omega,_,fX _ _,?_⟩;simp[ho]
 ·have hf:oC o=(rising (wg o) 0 21&&rising (CI o) 0 21):=by simp only[oC,hj,yK]
  rw[hf];simp[Ux,Gj];refine aL.forRounds o.rules.length (fun k=>[.none,.int k]) (fun k=>[ints ((o.rules.take k).map (·.ask))]) ?_ (fun k hk=>?_) ?_
  ·simp[ints]
  ·have hw:=bk hk (by omega);have hl:(o.rules.take k).length=k:=by rw[eH];omega
   rw[B7 _ hk];simp[ahg,MG,hk,hw,ints,hl];omega
  ·simp[ahg,MG];refine⟨_,GF (wg o) _ _ (by simp[wg];omega),?_⟩;simp;cases e1:rising (wg o) 0 21<;>simp;exact GF (CI o) _ _ (by simp[CI];omega)
def xO (o:Order)(k:Nat):Bool:=wi (o.choices.getD k default).ask 0 21&&wi (o.choices.getD k default).by_ 0 4&&(k==0||decide ((o.choices.getD (k-1) default).ask<(o.choices.getD k default).ask))
def Bu (o:Order)(k:Nat):Bool:=wi (o.rules.getD k default).ask 0 21&&(k==0||decide ((o.rules.getD (k-1) default).ask<(o.rules.getD k default).ask))
theorem at5 (o:Order):(eV o.choices.length (xO o)&&eV o.rules.length (Bu o))=oC o:=by
 rw[qx];simp only[oC,az,rising,we,wg,CI,nU];have g1:∀k,k<o.choices.length→(nI (o.choices.map (·.ask)) 0 21 k=true↔wi (o.choices.getD k default).ask 0 21=true∧(k=0∨(o.choices.getD (k-1) default).ask<(o.choices.getD k default).ask)):=by
  intro k hk;have bI:k-1<o.choices.length:=by omega
  simp[nI,hk,bI]
 have g2:∀k,k<o.rules.length→(nI (o.rules.map (·.ask)) 0 21 k=true↔wi (o.rules.getD k default).ask 0 21=true∧(k=0∨(o.rules.getD (k-1) default).ask<(o.rules.getD k default).ask)):=by
  intro k hk;have bI:k-1<o.rules.length:=by omega
  simp[nI,hk,bI]
 constructor
 ·rintro⟨a,b⟩;refine⟨fun k hk=>?_,fun k hk=>(g1 k hk).2 ?_,fun k hk=>(g2 k hk).2 ?_⟩
  ·have:=a k hk;simp[xO,wi,ax] at this ⊢;omega
  ·have:=a k hk;simp[xO] at this ⊢;exact⟨this.1.1,this.2⟩
  ·have:=b k hk;simp[Bu] at this ⊢;exact this
 ·rintro⟨c,a,b⟩;refine⟨fun k hk=>?_,fun k hk=>?_⟩
  ·have h1:=(g1 k hk).1 (a k hk);have h2:=c k hk;simp[xO,wi,ax] at h1 h2 ⊢;omega
  ·have h1:=(g2 k hk).1 (b k hk);simp[Bu] at h1 ⊢;exact h1
theorem auK (o:Order)(h1:o.choices.length≤100000)(h2:o.rules.length≤100000):ak T 108 [gT o] (.bool (oC o)):=by
 rw[←at5];refine .of_tree rfl (lA 120 (by kernel_rfl)) ax8 ?_;simp[Wo];refine gu o.choices.length (xO o) (fun k=>[.bool false,.int k]) (fun _=>[]) ?_ (fun k hk ho=>?_) (fun k hk ho hb=>?_) (fun hj=>?_)
 ·simp
 ·have hw:=bk hk (by omega);simp[xO,hk] at ho;simp[T5,FO,hk];refine⟨_,cB _ _ _,?_⟩;simp[ho.1.1,hk];refine⟨_,cB _ _ _,?_⟩;by_cases gE:0<k
  ·have bI:k-1<o.choices.length:=by omega
   have cd:IntKind.i64.wrap ((k:Int)-1)=((k-1:Nat):Int):=by rw[vQ (by omega)];omega
   have h3:¬o.choices[k].ask≤o.choices[k-1].ask:=by
        rcases ho.2 with h3|h3
        ·omega
        ·simp[bI] at h3;omega
   simp[ho.1.2,hk,hw,cd,h3,gE,bI]
  ·simp[ho.1.2,hk,hw,gE];omega
 ·rw[hb];simp[xO,hk] at ho;simp[T5,FO,hk];refine⟨_,cB _ _ _,?_⟩;cases e1:wi o.choices[k].ask 0 21 with
  |false=>simp
  |true=>
   simp[hk];refine⟨_,cB _ _ _,?_⟩;cases e2:wi o.choices[k].by_ 0 4 with
   |false=>simp
   |true=>
    have h3:=ho e1 e2;have gE:0<k:=by omega
    have bI:k-1<o.choices.length:=by omega
    have cd:IntKind.i64.wrap ((k:Int)-1)=((k-1:Nat):Int):=by rw[vQ (by omega)];omega
    have dO:=h3.2;simp[bI] at dO;simp[hk,cd,dO,gE,bI]
 ·rw[hj];simp[T5,FO];refine gu o.rules.length (Bu o) (fun k=>[.bool false,.int k]) (fun _=>[]) ?_ (fun k hk ho=>?_) (fun k hk ho hb=>?_) (fun hj=>?_)
  ·simp
  ·have hw:=bk hk (by omega);simp[Bu,hk] at ho;simp[T6,FP,hk];refine⟨_,cB _ _ _,?_⟩;by_cases gE:0<k
   ·have bI:k-1<o.rules.length:=by omega
    have cd:IntKind.i64.wrap ((k:Int)-1)=((k-1:Nat):Int):=by rw[vQ (by omega)];omega
    have h3:¬o.rules[k].ask≤o.rules[k-1].ask:=by
       rcases ho.2 with h3|h3
       ·omega
       ·simp[bI] at h3;omega
    simp[ho.1,hk,hw,cd,h3,gE,bI]
   ·simp[ho.1,hk,hw,gE];omega
  ·rw[hb];simp[Bu,hk] at ho;simp[T6,FP,hk];refine⟨_,cB _ _ _,?_⟩;cases e1:wi o.rules[k].ask 0 21 with
   |false=>simp
   |true=>
    have h3:=ho e1;have gE:0<k:=by omega
    have bI:k-1<o.rules.length:=by omega
    have cd:IntKind.i64.wrap ((k:Int)-1)=((k-1:Nat):Int):=by rw[vQ (by omega)];omega
    have dO:=h3.2;simp[bI] at dO;simp[hk,cd,dO,gE,bI]
  ·rw[hj];simp[T6,FP]
def fc (r:Realm):List ByteArray:=r.cities.map (·.name)
def fJ (r:Realm):List ByteArray:=r.firms.map (·.name)
def fe (r:Realm):List ByteArray:=r.orders.map (·.name)
theorem avH (r:Realm)(h1:r.cities.length≤100000)(h2:r.firms.length≤100000)(h3:r.orders.length≤100000):ak T 113 [aQ r] (.tup [strs (fc r),strs (fJ r),strs (fe r)]):=by
 refine .of_tree rfl (lA 55 (by kernel_rfl)) azg ?_;simp[Xk];refine aL.forRounds r.cities.length (fun k=>[.none,.int k]) (fun k=>[strs ((r.cities.take k).map (·.name))]) ?_ (fun k hk=>?_) ?_
 ·simp[strs]
 ·have hw:=bk hk (by omega);have hl:(r.cities.take k).length=k:=by rw[eH];omega
  rw[B7 _ hk];simp[ahd,MD,hk,hw,strs,hl];omega
 ·simp[ahd,MD];refine aL.forRounds r.firms.length (fun k=>[.none,.int k]) (fun k=>[strs ((r.firms.take k).map (·.name))]) ?_ (fun k hk=>?_) ?_
  ·simp[strs]
  ·have hw:=bk hk (by omega);have hl:(r.firms.take k).length=k:=by rw[eH];omega
   rw[B7 _ hk];simp[ahe,ME,hk,hw,strs,hl];omega
  ·simp[ahe,ME];refine aL.forRounds r.orders.length (fun k=>[.none,.int k]) (fun k=>[strs ((r.orders.take k).map (·.name))]) ?_ (fun k hk=>?_) ?_
   ·simp[strs]
   ·have hw:=bk hk (by omega);have hl:(r.orders.take k).length=k:=by rw[eH];omega
    rw[B7 _ hk];simp[ahf,MF,hk,hw,strs,hl];omega
   ·simp[ahf,MF,fc,fJ,fe]
end Rm
namespace Rm
open Go Go.Proofs Cx
structure Small (r:Realm):Prop where
 cur:r.currencies.length≤1000
 cities:r.cities.length≤1000
 groups:r.groups.length≤1000
 firms:r.firms.length≤1000
 orders:r.orders.length≤1000
 us:r.usances.length≤1000
 rates:r.rates.length≤1000
 halts:r.halts.length≤1000
 city:∀c,c∈r.cities→c.rest.length≤1000∧c.feasts.length≤1000∧c.shut.length≤1000∧∀y,y∈c.feasts→aW y
 order:∀o,o∈r.orders→o.choices.length≤1000∧o.rules.length≤1000
 rate:∀x,x∈r.rates→aW x.num∧aW x.den
def lX (r:Realm)(k j:Nat):Bool:=(r.usances.getD j default).fr !=(r.usances.getD k default).fr||(r.usances.getD j default).to !=(r.usances.getD k default).to
def vO (r:Realm)(k:Nat):Int:=
 if(ax (r.usances.getD k default).fr r.cities.length&&ax (r.usances.getD k default).to r.cities.length&&wi (r.usances.getD k default).days 1 20000)=false then 1 else if eV k (lX r k) then 0 else 5
def rM (r:Realm):Int:=if 100<r.usances.length then 6 else fP r.usances.length (vO r)
theorem avK (r:Realm)(h:Small r):ak T 122 [aQ r] (.int (rM r)):=by
 refine .of_tree rfl (lA 68 (by kernel_rfl)) azk ?_;have hu:=h.us;simp[Xo,rM];by_cases h0:100<r.usances.length
 ·have dY:(100:Int)<r.usances.length:=by omega
  have wS:¬r.usances.length≤100:=by omega
  simp[h0,dY,wS]
 have dY:¬(100:Int)<r.usances.length:=by omega
 simp[h0,dY];refine nL r.usances.length (vO r) (fun k=>[.int 0,.int k]) (fun _=>[]) ?_ (fun k hk ho=>?_) (fun k hk ho hb=>?_) (fun hj=>?_)
 ·simp
 ·have hw:=bk hk (by omega);have ha:ax r.usances[k].fr r.cities.length=true∧ax r.usances[k].to r.cities.length=true∧wi r.usances[k].days 1 20000=true∧eV k (lX r k)=true:=by
   unfold vO at ho;simp only[bh,cl hk,lx] at ho;cases e1:ax r.usances[k].fr r.cities.length<;>cases e2:ax r.usances[k].to r.cities.length<;>cases e3:wi r.usances[k].days 1 20000<;>cases e4:eV k (lX r k)<;>simp[e1,e2,e3,e4] at ho ⊢
  obtain⟨a1,a2,a3,a4⟩:=ha;simp[wi] at a3;have a5:¬r.usances[k].days<1:=by omega
  have a6:¬20000<r.usances[k].days:=by omega
  simp[UA,Gm,hk];refine⟨_,fX _ _,?_⟩;simp[a1];refine⟨_,fX _ _,?_⟩;simp[a2,a5,a6];refine⟨by omega,gu k (lX r k) (fun j=>[.int 0,.int j]) (fun _=>[]) ?_ (fun j hj fH=>?_) (fun j hj fH ew=>?_) (fun qX=>?_)⟩
  ·simp
  ·have sV:=bk hj (by omega);have br:j<r.usances.length:=by omega
   have hm:j<min k r.usances.length:=by omega
   simp[lX,br,hk] at fH;simp[MH,BU,hj,br,hk,sV,hm];intro e e';rcases fH with h|h
   ·exact absurd e h
   ·exact absurd e' h
  ·rw[a4] at ew;cases ew
  ·simp[MH,BU,hw];omega
 ·simp[UA,Gm,hk,hb];refine⟨_,fX _ _,?_⟩;unfold vO at ho ⊢;simp only[bh,cl hk,lx] at ho ⊢;cases e1:ax r.usances[k].fr r.cities.length
  ·simp
  simp;refine⟨_,fX _ _,?_⟩;cases e2:ax r.usances[k].to r.cities.length
  ·simp
  cases e3:wi r.usances[k].days 1 20000
  ·simp[wi] at e3;by_cases g:r.usances[k].days<1
   ·simp[g]
   ·simp[g,e3 (by omega)]
  have Pt:=e3;simp[wi] at Pt;have a5:¬r.usances[k].days<1:=by omega
  have a6:¬20000<r.usances[k].days:=by omega
  simp[e1,e2,e3] at ho;simp[a5,a6];refine⟨by omega,gu k (lX r k) (fun j=>[.int 0,.int j]) (fun _=>[]) ?_ (fun j hj fH=>?_) (fun j hj fH ew=>?_) (fun qX=>?_)⟩
  ·simp
  ·have sV:=bk hj (by omega);have br:j<r.usances.length:=by omega
   have hm:j<min k r.usances.length:=by omega
   simp[lX,br,hk] at fH;simp[MH,BU,hj,br,hk,sV,hm];intro e e';rcases fH with h|h
   ·exact absurd e h
   ·exact absurd e' h
  ·have br:j<r.usances.length:=by omega
   have hm:j<min k r.usances.length:=by omega
   simp[lX,br,hk] at fH;simp[MH,BU,hj,br,hk,ho,hm]
   first|exact fH|simp[fH]
  ·rw[qX] at ho;cases ho
 ·simp[UA,Gm,hj]
theorem auP (r:Realm)(h:Small r):ak T 61 [aQ r] (.int (rM r)):=by
 refine .of_tree rfl (lA 121 (by kernel_rfl)) ayh ?_;have hu:=h.us;have hc:=h.cities;simp[Wx,rM];by_cases h0:100<r.usances.length
 ·have dY:(100:Int)<r.usances.length:=by omega
  have wS:¬r.usances.length≤100:=by omega
  simp[h0,dY,wS]
 have dY:¬(100:Int)<r.usances.length:=by omega
 simp[h0,dY];refine nL r.usances.length (vO r) (fun k=>[.int 0,.int k]) (fun _=>[]) ?_ (fun k hk ho=>?_) (fun k hk ho hb=>?_) (fun hj=>?_)
 ·simp
 ·have hw:=bk hk (by omega);have ha:ax r.usances[k].fr r.cities.length=true∧ax r.usances[k].to r.cities.length=true∧wi r.usances[k].days 1 20000=true∧eV k (lX r k)=true:=by
   unfold vO at ho;simp only[bh,cl hk,lx] at ho;cases e1:ax r.usances[k].fr r.cities.length<;>cases e2:ax r.usances[k].to r.cities.length<;>cases e3:wi r.usances[k].days 1 20000<;>cases e4:eV k (lX r k)<;>simp[e1,e2,e3,e4] at ho ⊢
  obtain⟨a1,a2,a3,a4⟩:=ha;rw[nr] at a1 a2;simp[Ug,F1,hk,rR _ (show r.cities.length≤4294967296 by omega)];refine⟨_,cB _ _ _,?_⟩;simp[a1,rR _ (show r.cities.length≤4294967296 by omega)];refine⟨_,cB _ _ _,?_⟩;simp[a2];refine⟨_,cB _ _ _,?_⟩;simp[a3];refine gu k (lX r k) (fun j=>[.int 0,.int j]) (fun _=>[]) ?_ (fun j hj fH=>?_) (fun j hj fH ew=>?_) (fun qX=>?_)
  ·simp
  ·have sV:=bk hj (by omega);have br:j<r.usances.length:=by omega
   simp[lX,br,hk] at fH;simp[Mw,BO,hj,br,hk,sV];intro e e';rcases fH with h|h
   ·exact absurd e h
   ·exact absurd e' h
  ·rw[a4] at ew;cases ew
  ·simp[Mw,BO,hw]
 ·simp[Ug,F1,hk,hb,rR _ (show r.cities.length≤4294967296 by omega)];refine⟨_,cB _ _ _,?_⟩;unfold vO at ho ⊢;simp only[bh,cl hk,lx,nr] at ho ⊢;cases e1:wi r.usances[k].fr 0 ((r.cities.length:Int)-1)
  ·simp
  simp[rR _ (show r.cities.length≤4294967296 by omega)];refine⟨_,cB _ _ _,?_⟩;cases e2:wi r.usances[k].to 0 ((r.cities.length:Int)-1)
  ·simp
  simp;refine⟨_,cB _ _ _,?_⟩;cases e3:wi r.usances[k].days 1 20000
  ·simp
  simp[e1,e2,e3] at ho;simp;refine gu k (lX r k) (fun j=>[.int 0,.int j]) (fun _=>[]) ?_ (fun j hj fH=>?_) (fun j hj fH ew=>?_) (fun qX=>?_)
  ·simp
  ·have sV:=bk hj (by omega);have br:j<r.usances.length:=by omega
   simp[lX,br,hk] at fH;simp[Mw,BO,hj,br,hk,sV];intro e e';rcases fH with h|h
   ·exact absurd e h
   ·exact absurd e' h
  ·have br:j<r.usances.length:=by omega
   simp[lX,br,hk] at fH;simp[Mw,BO,hj,br,hk,ho]
   first|exact fH|simp[fH]
  ·rw[qX] at ho;cases ho
 ·simp[Ug,F1,hj]
def yn (r:Realm)(k:Nat):Bool:=ax (r.rates.getD k default).fr r.currencies.length&&ax (r.rates.getD k default).to r.currencies.length&&((r.rates.getD k default).fr !=(r.rates.getD k default).to)&&
 wi (r.rates.getD k default).num 1 1073741824&&wi (r.rates.getD k default).den 1 1073741824&&wi (r.rates.getD k default).since 0 100000
def uz (r:Realm)(k:Nat):Bool:=ax (r.halts.getD k default).order r.orders.length&&wi (r.halts.getD k default).fr 0 (r.halts.getD k default).to&&decide ((r.halts.getD k default).to≤100000)
def oN (r:Realm):Int:=if 100<r.rates.length then 6 else if eV r.rates.length (yn r)=false then 1 else if 20<r.halts.length then 6 else if eV r.halts.length (uz r) then 0 else 1
theorem KN {n:Int}(h:aW n)(m:Int)(hm:0≤m∧m≤4294967296):ax (IntKind.i64.wrap (n-1)) m=wi n 1 m:=by
 unfold aW at h;by_cases e:n=-9223372036854775808
 ·subst e;have:IntKind.i64.wrap (-9223372036854775808-1)=9223372036854775807:=by decide
  rw[this,qx];simp[ax,wi];omega
 ·rw[aJ (by omega),qx];simp[ax,wi];omega
theorem acu (n:Int):ax n 100001=wi n 0 100000:=by rw[qx];simp[ax,wi];omega
theorem avJ (r:Realm)(h:Small r):ak T 123 [aQ r] (.int (oN r)):=by
 refine .of_tree rfl (lA 69 (by kernel_rfl)) azi ?_;have hu:=h.rates;have hh:=h.halts;simp[Xm,oN];by_cases h0:100<r.rates.length
 ·have dY:(100:Int)<r.rates.length:=by omega
  have wS:¬r.rates.length≤100:=by omega
  simp[h0,dY,wS]
 have dY:¬(100:Int)<r.rates.length:=by omega
 simp[h0,dY];have key:∀k (hk:k<r.rates.length),∀{ρ:Env} {Q:Out→Prop},True:=fun _ _ _ _=>trivial;refine gu r.rates.length (yn r) (fun k=>[.int 0,.int k]) (fun _=>[]) ?_ (fun k hk ho=>?_) (fun k hk ho hb=>?_) (fun hj=>?_)
 ·simp
 ·have hw:=bk hk (by omega);have hI:=h.rate _ (cv hk);simp[yn,hk] at ho;obtain⟨⟨⟨⟨⟨a1,a2⟩,a3⟩,a4⟩,a5⟩,a6⟩:=ho;simp[Uy,Gk,hk];refine⟨_,fX _ _,?_⟩;simp[a1];refine⟨_,fX _ _,?_⟩;simp[a2,a3];refine⟨_,fX _ _,?_⟩;simp[KN hI.1,a4];refine⟨_,fX _ _,?_⟩;simp[KN hI.2,a5];refine⟨_,fX _ _,?_⟩;simp[acu,a6,hw]
 ·have hI:=h.rate _ (cv hk);rw[hb];simp[yn,hk] at ho;simp[Uy,Gk,hk];refine⟨_,fX _ _,?_⟩;cases e1:ax r.rates[k].fr r.currencies.length
  ·simp
  simp;refine⟨_,fX _ _,?_⟩;cases e2:ax r.rates[k].to r.currencies.length
  ·simp
  by_cases e3:r.rates[k].fr=r.rates[k].to
  ·simp[e3]
  simp[e3];refine⟨_,fX _ _,?_⟩;rw[KN hI.1 _ (by omega)];cases e4:wi r.rates[k].num 1 1073741824
  ·simp
  simp;refine⟨_,fX _ _,?_⟩;rw[KN hI.2 _ (by omega)];cases e5:wi r.rates[k].den 1 1073741824
  ·simp
  simp;refine⟨_,fX _ _,?_⟩;rw[acu];simp[ho e1 e2 e3 e4 e5]
 ·rw[hj];simp[Uy,Gk];by_cases h1:20<r.halts.length
  ·have cu:(20:Int)<r.halts.length:=by omega
   have PU:¬r.halts.length≤20:=by omega
   simp[h1,cu,PU]
  have cu:¬(20:Int)<r.halts.length:=by omega
  simp[h1,cu];refine gu r.halts.length (uz r) (fun k=>[.int 0,.int k]) (fun _=>[]) ?_ (fun k hk ho=>?_) (fun k hk ho hb=>?_) (fun hj=>?_)
  ·simp
  ·have hw:=bk hk (by omega);simp[uz,wi,hk] at ho;obtain⟨⟨a1,a2⟩,a3⟩:=ho;have b1:¬r.halts[k].fr<0:=by omega
   have b2:¬r.halts[k].to<r.halts[k].fr:=by omega
   have b3:¬100000<r.halts[k].to:=by omega
   simp[Uz,Gl,hk];refine⟨_,fX _ _,?_⟩;simp[a1,b1,b2,b3,hw]
  ·rw[hb];simp[uz,wi,hk] at ho;simp[Uz,Gl,hk];refine⟨_,fX _ _,?_⟩;cases e1:ax r.halts[k].order r.orders.length
   ·simp
   have:=ho e1;by_cases b1:r.halts[k].fr<0
   ·simp[b1]
   by_cases b2:r.halts[k].to<r.halts[k].fr
   ·simp[b1,b2]
   have b3:100000<r.halts[k].to:=this (by omega) (by omega);simp[b1,b2,b3]
  ·rw[hj];simp[Uz,Gl]
theorem auO (r:Realm)(h:Small r):ak T 62 [aQ r] (.int (oN r)):=by
 refine .of_tree rfl (lA 122 (by kernel_rfl)) ayg ?_;have hu:=h.rates;have hh:=h.halts;have hc:=rR r.currencies.length (by have:=h.cur;omega);have hor:=rR r.orders.length (by have:=h.orders;omega);simp[Ww,oN];by_cases h0:100<r.rates.length
 ·have dY:(100:Int)<r.rates.length:=by omega
  have wS:¬r.rates.length≤100:=by omega
  simp[h0,dY,wS]
 have dY:¬(100:Int)<r.rates.length:=by omega
 simp[h0,dY];refine gu r.rates.length (yn r) (fun k=>[.int 0,.int k]) (fun _=>[]) ?_ (fun k hk ho=>?_) (fun k hk ho hb=>?_) (fun hj=>?_)
 ·simp
 ·have hw:=bk hk (by omega);simp[yn,hk,nr] at ho;obtain⟨⟨⟨⟨⟨a1,a2⟩,a3⟩,a4⟩,a5⟩,a6⟩:=ho;simp[Ue,FZ,hk,hc];refine⟨_,cB _ _ _,?_⟩;simp[a1,hc];refine⟨_,cB _ _ _,?_⟩;simp[a2,a3];refine⟨_,cB _ _ _,?_⟩;simp[a4];refine⟨_,cB _ _ _,?_⟩;simp[a5];refine⟨_,cB _ _ _,?_⟩;simp[a6,hw]
 ·rw[hb];simp[yn,hk,nr] at ho;simp[Ue,FZ,hk,hc];refine⟨_,cB _ _ _,?_⟩;cases e1:wi r.rates[k].fr 0 ((r.currencies.length:Int)-1)
  ·simp
  simp[hc];refine⟨_,cB _ _ _,?_⟩;cases e2:wi r.rates[k].to 0 ((r.currencies.length:Int)-1)
  ·simp
  by_cases e3:r.rates[k].fr=r.rates[k].to
  ·simp[e3]
  simp[e3];refine⟨_,cB _ _ _,?_⟩;cases e4:wi r.rates[k].num 1 1073741824
  ·simp
  simp;refine⟨_,cB _ _ _,?_⟩;cases e5:wi r.rates[k].den 1 1073741824
  ·simp
  simp;refine⟨_,cB _ _ _,?_⟩;simp[ho e1 e2 e3 e4 e5]
 ·rw[hj];simp[Ue,FZ];by_cases h1:20<r.halts.length
  ·have cu:(20:Int)<r.halts.length:=by omega
   have PU:¬r.halts.length≤20:=by omega
   simp[h1,cu,PU]
  have cu:¬(20:Int)<r.halts.length:=by omega
  simp[h1,cu];refine gu r.halts.length (uz r) (fun k=>[.int 0,.int k]) (fun _=>[]) ?_ (fun k hk ho=>?_) (fun k hk ho hb=>?_) (fun hj=>?_)
  ·simp
  ·have hw:=bk hk (by omega);simp[uz,hk,nr] at ho;obtain⟨⟨a1,a2⟩,a3⟩:=ho;have b3:¬100000<r.halts[k].to:=by omega
   simp[Uf,F0,hk,hor];refine⟨_,cB _ _ _,?_⟩;simp[a1];refine⟨_,cB _ _ _,?_⟩;simp[a2,b3,hw]
  ·rw[hb];simp[uz,hk,nr] at ho;simp[Uf,F0,hk,hor];refine⟨_,cB _ _ _,?_⟩;cases e1:wi r.halts[k].order 0 ((r.orders.length:Int)-1)
   ·simp
   simp;refine⟨_,cB _ _ _,?_⟩;cases e2:wi r.halts[k].fr 0 r.halts[k].to
   ·simp
   simp[ho e1 e2]
  ·rw[hj];simp[Uf,F0]
end Rm
