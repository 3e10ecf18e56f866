/-
  eJ functions of this T7, compiled (3).
-/
import Derived.Test.YtepfoekldooaeaaGreatDoorKAK
import Derived.KernelRfl
set_option linter.unusedVariables false
set_option maxRecDepth 100000
namespace Rm
open Go Go.Proofs Cx
noncomputable def zX:Option PC:=av {ctx with fr:=[6,8,9,76,92,98],nh:=[]} Tryz.f113 ((aa ab 113).getD default) [3,4,7,11]
noncomputable def JY:PC:=au zX
noncomputable def NF:Nat→PC:=bk zX
def ayg (b:Nat→PC):PC:=.block 0 [8,9,51,52] [] (.loop [8,9,51] [] (b 0))
def Me (b:Nat→PC):PT:=
 (.ite (aj kV fH)
 (.chk (ay kU kV)
 (.next ⟨[(8,(pc (.setc z9 0 (pn kU kV)) 6)),(9,(.pick r9 pT (.pick (.pick (ah (pc o7 0) (pi 1)) (ah (pc (.setc z9 0 (pn kU kV)) 0) (pi 1)) pF) (ah (pc (.setc z9 0 (pn kU kV)) 1) (pc o7 1)) pF))),(51,(aD kV (pi 1)))],[]⟩))
 (.exit 0 ⟨[(52,(aj kV fH))],[]⟩))
def Vk (b:Nat→PC):PT:=
 (.chk (ay (pc (.mk [r1]) 15) r2)
 (.call ⟨[],[(7,nu),(4,(.mk [r1])),(3,(.mk [r0]))]⟩ [] 23 114 [(pc nu 1),(pi 0),(bn (pc (.mk [r1]) 14) (pi 1))]
 (.ite (.nt eX)
 (.ret (pi 15))
 (.call ⟨[],[]⟩ [] 31 114 [(pc o7 2),(pi 0),LD]
 (.call ⟨[(33,(.nt mM))],[]⟩ [(33,false)] 40 114 [(pc o7 7),(pi 0),(bn (.llen (pc o3 1)) (pi 1))]
 (.ite (.pick tg pT (.nt nA))
 (.ret (pi 1))
 (.chk (.slok (pc o4 15) (pi 0) r2)
 (.brk ⟨[(51,(pi 0)),(50,(.llen (.slc (pc o4 15) (pi 0) r2))),(49,(.slc (pc o4 15) (pi 0) r2)),(9,pF),(8,(pc o4 8))],[]⟩
(ayg b)
 (.blockS ⟨[],[]⟩ 2 [6,76,77,78,79,80,81,82,91,92,93,94,95,96,97,98,99] []
 (.call ⟨[],[]⟩ [] 80 114 [(pc o7 6),r8,(pi 100000)]
 (.iteS ⟨[],[]⟩ (.pick (.nt vQ) pT (.pick (ah r2 (pi 0)) (aH (pc o7 6) r8) pF)) [6,92,93,94,95,96,97,98,99] []
 (.ret (pi 13))
 (.call ⟨[],[]⟩ [] 96 164 [(af 8 o3),(af 19 o4),r2]
 (.ite (.nt SP)
 (.ret (pi 14))
 (.ite r9
 (.ret (pi 5))
 (.next ⟨[],[]⟩))))
 (.next ⟨[],[]⟩)))
 (.ret (pi 0)))))))))))
def asK (b:Nat→PC):PT×List (Shp×PT):=(Vk b,[(.lp 0 [8,9,51,52] [] [8,9,51] [],Me b)])
theorem Rx:zX.map told=some (asK (ar zX)):=by kernel_rfl
theorem aER:tree JY=Vk NF:=aA Rx
theorem agP:round 0 [8,9,51,52] [] [8,9,51] [] (NF 0)=Me NF:=aZ Rx 0 fun _=>rfl
theorem anr:zX=some JY:=aw Rx
noncomputable def FV:Option PC:=av {ctx with fr:=[6],nh:=[]} Tryz.f114 ((aa ab 114).getD default) []
noncomputable def JX:PC:=au FV
def Vj:PT:=
 (.ret (.pick (aV r0 r1) (aW r0 r2) pF))
def asJ (b:Nat→PC):PT×List (Shp×PT):=(Vj,[])
theorem aez:FV.map told=some (asJ (ar FV)):=by kernel_rfl
theorem aEQ:tree JX=Vj:=aA aez
theorem anq:FV=some JX:=aw aez
noncomputable def FU:Option PC:=av {ctx with fr:=[6,9,10,66,103,113,11,140,149],nh:=[]} Tryz.f164 ((aa ab 164).getD default) [3,4,7,8]
noncomputable def JW:PC:=au FU
def Vi:PT:=
 (.chk (ay (pc (.mk [r1]) 15) r2)
 (.ite (.pick (.cb .neq (ah r2 (pi 0)) (ah (pc nu 0) (pi 0))) pT (.pick (aH (pc nu 0) (pi 2)) (aH (pc nu 4) (pi (-1))) pF))
 (.ret pF)
 (.ite (.pick (.pick (aH (pc nu 0) (pi 3)) (aH (pc nu 0) (pi 4)) pF) (aH (pc nu 3) (pi (-1))) pF)
 (.ret pF)
 (.call ⟨[(9,(.pick (ah (pc nu 5) (pi 0)) (ah (pc nu 8) (pi 0)) pF))],[(8,(.setc Ef 0 (af 15 (.mk [r1])))),(7,nu),(4,(.mk [r1])),(3,(.mk [r0]))]⟩ [] 58 114 [(pc nu 5),(pi 1),lN]
 (.blockS ⟨[(65,(pc o7 0)),(10,(.pick nC (ah (pc o7 8) (pi 0)) pF))],[]⟩ 0 [6,66,67,103,104,113,114,140,141,149,150] []
 (.iteS ⟨[],[]⟩ (ah vO (pi 0)) [6,103,104,113,114,140,141,149,150] []
 (.ret (.pick (.pick (.pick (.pick (.pick (ah (pc o7 2) (pc o8 0)) (ah (pc o7 5) (pi 0)) pF) (ah (.ai .or .i64 (pc o7 8) (pi 1)) (pi 1)) pF) (ah (pc o7 1) (pi 0)) pF) (ah (pc o7 6) (pc o8 8)) pF) (ah (pc o7 7) (pc o8 9)) pF))
 (.iteS ⟨[],[]⟩ (ah vO (pi 1)) [6,113,114,140,141,149,150] []
 (.ret (.pick (ah (pc o7 2) (pc o8 1)) cf pF))
 (.iteS ⟨[],[]⟩ (ah vO (pi 2)) [6,140,141,149,150] []
 (.call ⟨[(11,(pi 6))],[]⟩ [] 121 114 [(pc o7 4),(pi (-1)),LD]
 (.call ⟨[(127,(.pick aBL (ah (pc o7 5) (pi 0)) pF))],[]⟩ [(127,true)] 130 114 [(pc o7 8),(pi 0),(pi 7)]
 (.ret (.pick (.pick agA (.r 130) pF) (aH (.ai .and .i64 (pc o7 8) bp) bp) pF))))
 (.iteS ⟨[],[]⟩ (ah vO (pi 3)) [6,149,150] []
 (.call ⟨[(143,r9)],[]⟩ [(143,true)] 147 191 [(af 19 o4),r2,(.lst [(pi 0),(pi 1),(pi 2),(pi 4)])]
 (.ret (.pick (.r 143) (.r 147) pF)))
 (.iteS ⟨[],[]⟩ (ah vO (pi 4)) [6] []
 (.call ⟨[(159,(.pick cf (aH (pc o7 2) (pc o8 1)) pF))],[]⟩ [(159,true)] 163 191 [(af 19 o4),r2,(.lst [(pi 0),(pi 2)])]
 (.ret (.pick (.r 159) (.r 163) pF)))
 (.next ⟨[],[]⟩)
 (.next ⟨[],[]⟩))
 (.next ⟨[],[]⟩))
 (.next ⟨[],[]⟩))
 (.next ⟨[],[]⟩))
 (.next ⟨[],[]⟩))
 (.ret pF))))))
def asI (b:Nat→PC):PT×List (Shp×PT):=(Vi,[])
theorem aey:FU.map told=some (asI (ar FU)):=by kernel_rfl
theorem aEP:tree JW=Vi:=aA aey
theorem anp:FU=some JW:=aw aey
noncomputable def FT:Option PC:=av {ctx with fr:=[6,7],nh:=[]} Tryz.f191 ((aa ab 191).getD default) [3]
noncomputable def JU:PC:=au FT
def Vg:PT:=
 (.chk (ay nw r1)
 (.call ⟨[(7,(pc (pn nw r1) 3))],[(3,(.mk [r0]))]⟩ [] 17 114 [(pc (pn nw r1) 3),(pi 0),(bn r1 (pi 1))]
 (.chk (.nt (.an (.an dB pT) (.nt (ay (pc o3 15) r1))))
 (.call ⟨[(18,dB)],[]⟩ [(18,true)] 27 192 [(af 19 o3),r7,(pc (pn (pc o3 15) r1) 1)]
 (.chk (.nt (.an (.an (.pick cA dP pF) pT) (.nt (ay (pc o3 15) r7))))
 (.call ⟨[(29,(.pick cA dP pF))],[]⟩ [(29,true)] 37 45 [r2,(pc (pn (pc o3 15) r7) 0)]
 (.ret (.pick kr jn pF))))))))
def asG (b:Nat→PC):PT×List (Shp×PT):=(Vg,[])
theorem aex:FT.map told=some (asG (ar FT)):=by kernel_rfl
theorem aEN:tree JU=Vg:=aA aex
theorem ann:FT=some JU:=aw aex
noncomputable def FW:Option PC:=av {ctx with fr:=[6],nh:=[]} Tryz.f192 ((aa ab 192).getD default) [3]
noncomputable def JZ:PC:=au FW
def MX:PT:=
 (.chk (.nt (.an (.an (.nt (ah r1 (pi 0))) pT) (.nt (ay nw r1))))
 (.ret (.pick (ah r1 (pi 0)) pT (ah (pc (pn nw r1) 1) r2))))
def asL (b:Nat→PC):PT×List (Shp×PT):=(MX,[])
theorem aeA:FW.map told=some (asL (ar FW)):=by kernel_rfl
theorem aES:tree JZ=MX:=aA aeA
theorem ans:FW=some JZ:=aw aeA
noncomputable def zV:Option PC:=av {ctx with fr:=[4,5,7],nh:=[]} Tryz.f115 ((aa ab 115).getD default) [2,3,6]
noncomputable def JT:PC:=au zV
noncomputable def NC:Nat→PC:=bk zV
def aye (b:Nat→PC):PC:=.block 0 [4,11,12] [] (.loop [4,11] [] (b 0))
def Mc (b:Nat→PC):PT:=
 (.ite (aj bp cf)
 (.blockS ⟨[],[]⟩ 1 [4,5,6,7,13,14,15,16,17,18,19,20,21,22,23,24,25,26,27,28,29,30,31,32,37,38,39,40,41,42,43,44,45,46,47,48,58,59,69,70,71,72,73] [6]
 (.chk (ay r9 bp)
 (.call ⟨[(5,bp)],[(6,(.setc z9 0 (pn r9 bp)))]⟩ [] 22 114 [(pc (.setc z9 0 (pn r9 bp)) 3),(pi 0),(bn (pc o3 14) (pi 1))]
 (.ite (.nt kp)
 (.ret (pi 15))
 (.call ⟨[],[]⟩ [] 30 114 [(pc o6 7),(pi 0),(bn (.llen (pc o2 1)) (pi 1))]
 (.call ⟨[(32,(.nt fZ))],[]⟩ [(32,false)] 35 114 [(pc o6 0),(pi 0),(pi 9)]
 (.ite (.pick td pT (.nt mN))
 (.ret (pi 1))
 (.call ⟨[],[]⟩ [] 41 165 [(af 8 o2),(af 19 o3),(af 9 o6)]
 (.ite (.nt kT)
 (.ret (pi 14))
 (.ite (aH (pc o6 4) (pi (-1)))
 (.chk (ay (pc o3 15) (pc o6 4))
 (.ite (aO r5 (pi 0))
 (.chk (ay (pc o3 17) (bn r5 (pi 1)))
 (.call ⟨[],[]⟩ [] 72 114 [(pc o6 6),(.mx (.mx (pc o3 8) (pc (pn (pc o3 15) (pc o6 4)) 6)) (pc (pn (pc o3 17) (bn r5 (pi 1))) 6)),(pi 100000)]
 (.ite (.nt CY)
 (.ret (pi 13))
 (.next ⟨[],[]⟩))))
 (.call ⟨[],[]⟩ [] 72 114 [(pc o6 6),(.mx (pc o3 8) (pc (pn (pc o3 15) (pc o6 4)) 6)),(pi 100000)]
 (.ite (.nt CY)
 (.ret (pi 13))
 (.next ⟨[],[]⟩)))))
 (.ite (aO r5 (pi 0))
 (.chk (ay (pc o3 17) (bn r5 (pi 1)))
 (.call ⟨[],[]⟩ [] 72 114 [(pc o6 6),(.mx (pc o3 8) (pc (pn (pc o3 17) (bn r5 (pi 1))) 6)),(pi 100000)]
 (.ite (.nt CY)
 (.ret (pi 13))
 (.next ⟨[],[]⟩))))
 (.call ⟨[],[]⟩ [] 72 114 [(pc o6 6),(pc o3 8),(pi 100000)]
 (.ite (.nt CY)
 (.ret (pi 13))
 (.next ⟨[],[]⟩)))))))))))))
 (.next ⟨[(11,(aD bp (pi 1)))],[]⟩))
 (.exit 0 ⟨[(12,(aj bp cf))],[]⟩))
def Vf (b:Nat→PC):PT:=
 (.brk ⟨[(11,(pi 0)),(10,(.llen (pc (.mk [r1]) 17))),(9,(pc (.mk [r1]) 17)),(4,(pi 0))],[(3,(.mk [r1])),(2,(.mk [r0]))]⟩
(aye b)
 (.ret (pi 0)))
def asF (b:Nat→PC):PT×List (Shp×PT):=(Vf b,[(.lp 0 [4,11,12] [] [4,11] [],Mc b)])
theorem Rv:zV.map told=some (asF (ar zV)):=by kernel_rfl
theorem aEM:tree JT=Vf NC:=aA Rv
theorem agN:round 0 [4,11,12] [] [4,11] [] (NC 0)=Mc NC:=aZ Rv 0 fun _=>rfl
theorem anm:zV=some JT:=aw Rv
noncomputable def FQ:Option PC:=av {ctx with fr:=[6,7,8,9,65,80,100,111],nh:=[]} Tryz.f165 ((aa ab 165).getD default) [3,4,5]
noncomputable def JS:PC:=au FQ
def Ve:PT:=
 (.call ⟨[],[(5,(.mk [r2])),(4,(.mk [r1])),(3,(.mk [r0]))]⟩ [] 16 114 [(pc (.mk [r2]) 4),(pi 0),(bn (.llen (pc (.mk [r1]) 15)) (pi 1))]
 (.call ⟨[(17,ct)],[]⟩ [(17,true)] 23 192 [(af 19 o4),(pc o5 4),(pc o5 3)]
 (.chk (.nt (.an (.an (.pick dB eX pF) pT) (.nt (ay (pc o4 15) (pc o5 4)))))
 (.call ⟨[(8,(.pick (.pick dB eX pF) (ah (pc (pn (pc o4 15) (pc o5 4)) 2) (pc o5 1)) pF)),(7,(.pick dB eX pF))],[]⟩ [] 44 114 [(pc o5 2),(pi 0),LD]
 (.call ⟨[(9,th)],[]⟩ [] 51 114 [(pc o5 1),(pi 0),LD]
 (.ite (.pick (.nt kV) pT (.pick (aH (pc o5 0) (pi 4)) (aH (pc o5 8) (pi 0)) pF))
 (.ret pF)
 (.blockS ⟨[(64,(pc o5 0))],[]⟩ 0 [6,65,66,80,81,100,101,111,112] []
 (.iteS ⟨[],[]⟩ (.pick (ah kW (pi 0)) (ah kW (pi 0)) (.pick (ah kW (pi 1)) (ah kW (pi 1)) (ah kW (pi 2)))) [6,80,81,100,101,111,112] []
 (.ret (.pick (.pick r9 (ah (pc o5 4) (pi (-1))) pF) (ah (pc o5 5) (pi 0)) pF))
 (.iteS ⟨[],[]⟩ (.pick (ah kW (pi 3)) (ah kW (pi 3)) (.pick (ah kW (pi 5)) (ah kW (pi 5)) (ah kW (pi 4)))) [6,100,101,111,112] []
 (.call ⟨[(90,(.pick r9 (ah (pc o5 4) (pi (-1))) pF))],[]⟩ [(90,true)] 93 114 [(pc o5 5),(pi 0),lN]
 (.call ⟨[(95,(.pick SM L5 pF))],[]⟩ [(95,true)] 98 114 [(pc o5 8),(pi 0),(pi 1)]
 (.ret (.pick SO r98 pF))))
 (.iteS ⟨[],[]⟩ (ah kW (pi 6)) [6,111,112] []
 (.call ⟨[(106,(.pick r9 r8 pF))],[]⟩ [(106,true)] 109 114 [(pc o5 5),(pi 1),lN]
 (.ret (.pick SF aBJ pF)))
 (.ite (ah kW (pi 9))
 (.ret (.pick (.pick (ah (pc o5 2) (pi (-1))) r8 pF) (ah (pc o5 5) (pi 0)) pF))
 (.next ⟨[],[]⟩))
 (.next ⟨[],[]⟩))
 (.next ⟨[],[]⟩))
 (.next ⟨[],[]⟩))
 (.ret (.pick (.pick (ah (pc o5 2) (pi (-1))) r7 pF) (ah (pc o5 5) (pi 0)) pF)))))))))
def asE (b:Nat→PC):PT×List (Shp×PT):=(Ve,[])
theorem aew:FQ.map told=some (asE (ar FQ)):=by kernel_rfl
theorem aEL:tree JS=Ve:=aA aew
theorem anl:FQ=some JS:=aw aew
noncomputable def zW:Option PC:=av {ctx with fr:=[2,3],nh:=[]} Tryz.f116 ((aa ab 116).getD default) [1,4,5]
noncomputable def JV:PC:=au zW
noncomputable def ND:Nat→PC:=bk zW
def ayf (b:Nat→PC):PC:=.block 0 [2,9,10] [] (.loop [2,9] [] (b 0))
def Md (b:Nat→PC):PT:=
 (.ite (aj r9 r8)
 (.blockS ⟨[],[]⟩ 1 [2,3,4,11,12,13,14,15,16,17,18,27,28,33,34,35] [4]
 (.chk (ay r7 r9)
 (.call ⟨[(3,r9)],[(4,(.setc z3 0 (pn r7 r9)))]⟩ [] 16 114 [(pc (.setc z3 0 (pn r7 r9)) 0),(pi 0),(pi 4)]
 (.call ⟨[(18,(.nt ct))],[]⟩ [(18,false)] 25 114 [(pc o4 1),(pi 0),(bn (.llen (pc o1 15)) (pi 1))]
 (.call ⟨[(28,(.pick cA pT (.nt gU)))],[]⟩ [(28,false)] 31 114 [(pc o4 2),(pi 0),(pi 1)]
 (.ite (.pick fG pT (.nt mM))
 (.ret (pi 1))
 (.ite (ah r3 (pi 0))
 (.exit 1 ⟨[],[]⟩)
 (.chk (ay (pc o1 18) (bn r3 (pi 1)))
 (.call ⟨[],[(5,(.setc z3 0 (pn (pc o1 18) (bn r3 (pi 1)))))]⟩ [] 46 167 [(pc (.setc z3 0 (pn (pc o1 18) (bn r3 (pi 1)))) 1),(pc o4 1)]
 (.call ⟨[],[]⟩ [] 51 167 [(pc o5 0),(pc o4 0)]
 (.call ⟨[],[]⟩ [] 53 166 [(.lst [CX,kV])]
 (.ite (aV L2 (pi 0))
 (.ret (pi 5))
 (.next ⟨[],[]⟩))))))))))))
 (.next ⟨[(9,(aD r9 (pi 1)))],[]⟩))
 (.exit 0 ⟨[(10,(aj r9 r8))],[]⟩))
def Vh (b:Nat→PC):PT:=
 (.brk ⟨[(9,(pi 0)),(8,(.llen yq)),(7,yq),(2,(pi 0))],[(1,(.mk [r0]))]⟩
(ayf b)
 (.ret (pi 0)))
def asH (b:Nat→PC):PT×List (Shp×PT):=(Vh b,[(.lp 0 [2,9,10] [] [2,9] [],Md b)])
theorem Rw:zW.map told=some (asH (ar zW)):=by kernel_rfl
theorem aEO:tree JV=Vh ND:=aA Rw
theorem agO:round 0 [2,9,10] [] [2,9] [] (ND 0)=Md ND:=aZ Rw 0 fun _=>rfl
theorem ano:zW=some JV:=aw Rw
noncomputable def Fa:Option PC:=av {ctx with fr:=[4,5,6],nh:=[]} Tryz.f167 ((aa ab 167).getD default) []
noncomputable def Ji:PC:=au Fa
def UH:PT:=
 (.call ⟨[],[]⟩ [] 8 193 [r0]
 (.call ⟨[(5,r8)],[]⟩ [] 10 193 [r1]
 (.ite r5
 (.ite cf
 (.ret (pi 0))
 (.ret (pi (-1))))
 (.ite cf
 (.ret (pi 1))
 (.ite (aj r0 r1)
 (.ret (pi (-1)))
 (.ite (aO r0 r1)
 (.ret (pi 1))
 (.ret (pi 0))))))))
def arQ (b:Nat→PC):PT×List (Shp×PT):=(UH,[])
theorem ad5:Fa.map told=some (arQ (ar Fa)):=by kernel_rfl
theorem aDZ:tree Ji=UH:=aA ad5
theorem amy:Fa=some Ji:=aw ad5
noncomputable def Fb:Option PC:=av {ctx with fr:=[2],nh:=[]} Tryz.f193 ((aa ab 193).getD default) []
noncomputable def Jk:PC:=au Fb
def UJ:PT:=
 (.ret (aH r0 r0))
def arS (b:Nat→PC):PT×List (Shp×PT):=(UJ,[])
theorem ad6:Fb.map told=some (arS (ar Fb)):=by kernel_rfl
theorem aD1:tree Jk=UJ:=aA ad6
theorem amA:Fb=some Jk:=aw ad6
noncomputable def zM:Option PC:=av {ctx with fr:=[2,3,5],nh:=[]} Tryz.f166 ((aa ab 166).getD default) []
noncomputable def Jj:PC:=au zM
noncomputable def Nv:Nat→PC:=bk zM
def ax1 (b:Nat→PC):PC:=.block 0 [2,8,9] [] (.loop [2,8] [] (b 0))
def CZ (b:Nat→PC):PT:=
 (.ite (aj r8 r7)
 (.chk (ay r6 r8)
 (.ite (aH (pn r6 r8) r3)
 (.ret (pn r6 r8))
 (.next ⟨[(8,qm)],[]⟩)))
 (.exit 0 ⟨[(9,(aj r8 r7))],[]⟩))
def UI (b:Nat→PC):PT:=
 (.brk ⟨[(8,(pi 0)),(7,(.llen r0)),(6,r0),(3,(pi 0)),(2,(pi 0))],[]⟩
(ax1 b)
 (.ret r3))
def arR (b:Nat→PC):PT×List (Shp×PT):=(UI b,[(.lp 0 [2,8,9] [] [2,8] [],CZ b)])
theorem Ro:zM.map told=some (arR (ar zM)):=by kernel_rfl
theorem aD0:tree Jj=UI Nv:=aA Ro
theorem SR:round 0 [2,8,9] [] [2,8] [] (Nv 0)=CZ Nv:=aZ Ro 0 fun _=>rfl
theorem amz:zM=some Jj:=aw Ro
noncomputable def zT:Option PC:=av {ctx with fr:=[5],nh:=[]} Tryz.f28 ((aa ab 28).getD default) [2,4,6]
noncomputable def JG:PC:=au zT
noncomputable def NB:Nat→PC:=bk zT
def ax9 (b:Nat→PC):PC:=.block 0 [5,7,8,9,10] [2] (.loop [5] [2] (b 0))
def Mb (b:Nat→PC):PT:=
 (.ite (aj r5 (.llen r1))
 (.blockS ⟨[],[]⟩ 1 [6,13,14,15,16,17,18,19,20,24,25,29,30,37,38,42,43,47] [6,2]
 (.chk (ay r1 r5)
 (.iteS ⟨[],[(6,vK)]⟩ (.pick (.pick (.pick (.pick (.pick (aV (pc vK 0) (pi 0)) (aj (pc vK 0) (pi 5)) pF) (aV (pc vK 1) (pi 0)) pF) (aj (pc vK 1) (.llen (pc o2 15))) pF) (aV (pc vK 2) (pi 0)) pF) (aW (pc vK 2) (pi 1)) pF) [] [2]
 (.call ⟨[],[]⟩ [] 50 77 [(af 19 o2),(.mk [(pc o6 0),(pc o6 1),(pc o6 2)])]
 (.next ⟨[],[(2,(.setc o2 0 fH))]⟩))
 (.next ⟨[],[]⟩)
 (.next ⟨[],[]⟩)))
 (.next ⟨[(5,vE)],[]⟩))
 (.exit 0 ⟨[(7,r5),(8,r1),(9,(.llen r1)),(10,(aj r5 (.llen r1)))],[]⟩))
def U3 (b:Nat→PC):PT:=
 (.brk ⟨[(5,(pi 0))],[(4,fW),(2,(.mk [r0]))]⟩
(ax9 b)
 (.ret (af 19 (.setc o4 0 (af 19 o2)))))
def ase (b:Nat→PC):PT×List (Shp×PT):=(U3 b,[(.lp 0 [5,7,8,9,10] [2] [5] [2],Mb b)])
theorem Ru:zT.map told=some (ase (ar zT)):=by kernel_rfl
theorem aEn:tree JG=U3 NB:=aA Ru
theorem agM:round 0 [5,7,8,9,10] [2] [5] [2] (NB 0)=Mb NB:=aZ Ru 0 fun _=>rfl
theorem amW:zT=some JG:=aw Ru
noncomputable def Aj:Option PC:=av {ctx with fr:=[6,8],nh:=[]} Tryz.f77 ((aa ab 77).getD default) [2,77826,3,4,5,7,9]
noncomputable def Kh:PC:=au Aj
noncomputable def zu:Nat→PC:=bk Aj
def ayz (b:Nat→PC):PC:=.block 0 [5,6,18,19,20,21,22] [5] (.loop [5,6] [5] (b 0))
def ayA (b:Nat→PC):PC:=.block 2 [5,8,57,58,59,60,61] [5] (.loop [5,8] [5] (b 1))
def yE (b:Nat→PC):PT:=
 (.ite (aj r6 vA)
 (.chk (ay (pc o2 18) r6)
 (.ite (.pick (aj (pc rE 1) (pc o3 1)) pT (.pick (ah (pc rE 1) (pc o3 1)) (aj (pc rE 0) (pc o3 0)) pF))
 (.chk (aW (.llen (.app o5 (.lst [(.mk [(pc rE 0),(pc rE 1),(pc rE 2)])]))) cd)
 (.next ⟨[(5,pN),(6,(aD r6 (pi 1)))],[(5,(.app o5 (.lst [(.mk [(pc rE 0),(pc rE 1),(pc rE 2)])])))]⟩))
 (.next ⟨[(6,(aD r6 (pi 1)))],[]⟩)))
 (.exit 0 ⟨[(18,r6),(19,pN),(20,(pc o2 18)),(21,vA),(22,(aj r6 vA))],[]⟩))
def yF (b:Nat→PC):PT:=
 (.ite (aj r8 vA)
 (.chk (ay (pc o2 18) r8)
 (.ite (.pick (aO (pc rD 1) (pc o3 1)) pT (.pick (ah (pc rD 1) (pc o3 1)) (aO (pc rD 0) (pc o3 0)) pF))
 (.chk (aW (.llen (.app o5 (.lst [(.mk [(pc rD 0),(pc rD 1),(pc rD 2)])]))) cd)
 (.next ⟨[(5,pN),(8,qm)],[(5,(.app o5 (.lst [(.mk [(pc rD 0),(pc rD 1),(pc rD 2)])])))]⟩))
 (.next ⟨[(8,qm)],[]⟩)))
 (.exit 2 ⟨[(57,r8),(58,pN),(59,(pc o2 18)),(60,vA),(61,(aj r8 vA))],[]⟩))
def VC (b:Nat→PC):PT:=
 (.call ⟨[],[(4,fW),(3,(.mk [r1])),(2,(.mk [r0]))]⟩ [] 15 123 [(af 19 (.mk [r0])),rH,rF]
 (.ite (pc bM 0)
 (.ret (af 19 (.setc o4 0 (af 19 o2))))
 (.brk ⟨[(6,(pi 0)),(5,pN)],[(5,pL)]⟩
(ayz b)
 (.chk (aW (.llen (.app o5 (.lst [(.mk [(pc o3 0),(pc o3 1),(pc o3 2)])]))) cd)
 (.brk ⟨[(8,(pi 0)),(5,pN)],[(5,(.app o5 (.lst [(.mk [(pc o3 0),(pc o3 1),(pc o3 2)])])))]⟩
(ayA b)
 (.ret (af 19 (.setc o4 0 (.mk [(pc jm 0),(pc jm 1),(pc jm 2),(pc jm 3),(pc jm 4),(pc jm 5),(pc jm 6),(pc jm 7),(pc jm 8),(pc jm 9),(pc jm 10),(pc jm 11),(pc jm 12),(pc jm 13),(pc jm 14),(pc jm 15),(pc jm 16),(pc jm 17),o5])))))))))
def as4 (b:Nat→PC):PT×List (Shp×PT):=(VC b,[(.lp 0 [5,6,18,19,20,21,22] [5] [5,6] [5],yE b),(.lp 2 [5,8,57,58,59,60,61] [5] [5,8] [5],yF b)])
theorem IK:Aj.map told=some (as4 (ar Aj)):=by kernel_rfl
theorem aFb:tree Kh=VC zu:=aA IK
theorem Mi:round 0 [5,6,18,19,20,21,22] [5] [5,6] [5] (zu 0)=yE zu:=aZ IK 0 fun _=>rfl
theorem Mj:round 2 [5,8,57,58,59,60,61] [5] [5,8] [5] (zu 1)=yF zu:=aZ IK 1 fun _=>rfl
theorem anM:Aj=some Kh:=aw IK
noncomputable def Ai:Option PC:=av {ctx with fr:=[7],nh:=[]} Tryz.f123 ((aa ab 123).getD default) [3,6]
noncomputable def Kf:PC:=au Ai
noncomputable def NL:Nat→PC:=bk Ai
def ayy (b:Nat→PC):PC:=.block 0 [7,8,9,10,11,12] [6] (.loop [7] [6] (b 0))
def yD (b:Nat→PC):PT:=
 (.ite (aj r7 (.llen (pc o3 18)))
 (.chk (ay (pc o3 18) r7)
 (.chk (.nt (.an (.an (ah (pc (pn (pc o3 18) r7) 0) r1) pT) (.nt (ay (pc o3 18) r7))))
 (.ite (.pick (ah (pc (pn (pc o3 18) r7) 0) r1) (ah (pc (pn (pc o3 18) r7) 1) r2) pF)
 (.ite (ah (pc (pn (pc o3 18) r7) 2) (pi 0))
 (.ret (.mk [(pc (.setc o6 0 (.mk [pT,(pi 0)])) 0),(pc (.setc o6 0 (.mk [pT,(pi 0)])) 1)]))
 (.ret (.mk [(pc (.setc o6 0 (.mk [pT,(pi 1)])) 0),(pc (.setc o6 0 (.mk [pT,(pi 1)])) 1)])))
 (.next ⟨[(7,(aD r7 (pi 1)))],[]⟩))))
 (.exit 0 ⟨[(8,r7),(9,pN),(10,(pc o3 18)),(11,(.llen (pc o3 18))),(12,(aj r7 (.llen (pc o3 18))))],[]⟩))
def VA (b:Nat→PC):PT:=
 (.brk ⟨[(7,(pi 0))],[(6,cF),(3,(.mk [r0]))]⟩
(ayy b)
 (.ret SB))
def as2 (b:Nat→PC):PT×List (Shp×PT):=(VA b,[(.lp 0 [7,8,9,10,11,12] [6] [7] [6],yD b)])
theorem RD:Ai.map told=some (as2 (ar Ai)):=by kernel_rfl
theorem aE9:tree Kf=VA NL:=aA RD
theorem Mh:round 0 [7,8,9,10,11,12] [6] [7] [6] (NL 0)=yD NL:=aZ RD 0 fun _=>rfl
theorem anK:Ai=some Kf:=aw RD
noncomputable def Fy:Option PC:=av {ctx with fr:=[4],nh:=[]} Tryz.f29 ((aa ab 29).getD default) [2,3]
noncomputable def JL:PC:=au Fy
def U7:PT:=
 (.call ⟨[],[(3,(.mk [r1])),(2,(.mk [r0]))]⟩ [] 9 78 [ko,rH]
 (.call ⟨[(10,r9)],[]⟩ [(10,true)] 15 78 [(pc o2 1),(pc o3 1)]
 (.call ⟨[(17,(.pick cf bM pF))],[]⟩ [(17,true)] 22 78 [(pc o2 2),(pc o3 2)]
 (.call ⟨[(24,(.pick dB kp pF))],[]⟩ [(24,true)] 29 78 [(pc o2 3),(pc o3 3)]
 (.ret (.pick kq kr pF))))))
def asj (b:Nat→PC):PT×List (Shp×PT):=(U7,[])
theorem aeq:Fy.map told=some (asj (ar Fy)):=by kernel_rfl
theorem aEs:tree JL=U7:=aA aeq
theorem am1:Fy=some JL:=aw aeq
noncomputable def Fz:Option PC:=av {ctx with fr:=[4],nh:=[]} Tryz.f78 ((aa ab 78).getD default) []
noncomputable def JM:PC:=au Fz
def U8:PT:=
 (.ret (.pick (ah r0 (pi 2)) pT (ah r0 r1)))
def asl (b:Nat→PC):PT×List (Shp×PT):=(U8,[])
theorem aer:Fz.map told=some (asl (ar Fz)):=by kernel_rfl
theorem aEt:tree JM=U8:=aA aer
theorem am2:Fz=some JM:=aw aer
noncomputable def Ft:Option PC:=av {ctx with fr:=[10,11,13,14,15,17,18],nh:=[]} Tryz.f8 ((aa ab 8).getD default) [5,7,12,16]
noncomputable def JE:PC:=au Ft
def U1:PT:=
 (.call ⟨[],[(7,(.mk [r2])),(5,(.mk [r0]))]⟩ [] 19 25 []
 (.call ⟨[(11,gu)],[]⟩ [] 22 26 [(af 8 o5),(af 19 o7)]
 (.chk (.nt (.an (.an (.nt agk) pT) (.nt (ay (pc o7 15) r3))))
 (.ite (.pick agk pT (aO (pc (pn (pc o7 15) r3) 6) r4))
 (.ret bp)
 (.call ⟨[],[]⟩ [] 51 27 [(af 8 o5),r1,(af 19 o7),r3,r4]
 (.ite (.pick (.pick (.pick (.cb .neq (ah (pc oS 3) (pi 0)) (.pick (.pick (ah (pc oS 0) (pi 0)) pT (ah (pc oS 1) (pi 0))) pT (ah (pc oS 2) (pi 0)))) pT (.cb .neq (ah (pc oS 3) (pi 1)) (.pick (.pick (ah (pc oS 0) (pi 1)) (ah (pc oS 1) (pi 1)) pF) (ah (pc oS 2) (pi 1)) pF))) pT (aj (pc oS 3) (pi 0))) pT (aO (pc oS 3) (pi 2)))
 (.ret pF)
 (.call ⟨[],[(12,oS)]⟩ [] 104 32 [(af 8 o5),r1,(af 19 o7),r4]
 (.ite (ah LY (pi (-1)))
 (.ret (.pick (.pick bp (ah (pc da 1) (pi 2)) pF) (ah (pc da 2) (pi 2)) pF))
 (.call ⟨[],[(16,(.setc CP 0 (.mk [(af 19 o7),r3,r3,(pi (-1)),LY,r4])))]⟩ [] 127 34 [(af 8 o5),r1,(pi 8),(af 24 (.setc CP 0 (.mk [(af 19 o7),r3,r3,(pi (-1)),LY,r4])))]
 (.call ⟨[],[]⟩ [] 128 33 [agA]
 (.call ⟨[(17,aBM)],[]⟩ [] 132 34 [(af 8 o5),r1,(pi 11),(af 24 eF)]
 (.call ⟨[],[]⟩ [] 133 33 [(.r 132)]
 (.ret (.pick (.pick (.pick (.pick bp (.pick (aH dB (pi 0)) pT (ah (pc da 1) (pi 1))) pF) (.pick (aH (.r 133) (pi 0)) pT (ah (pc da 2) (pi 1))) pF) (.pick (aH dB (pi 2)) pT (aH (pc da 1) (pi 0))) pF) (.pick (aH (.r 133) (pi 2)) pT (aH (pc da 2) (pi 0))) pF))))))))))))))
def asc (b:Nat→PC):PT×List (Shp×PT):=(U1,[])
theorem ael:Ft.map told=some (asc (ar Ft)):=by kernel_rfl
theorem aEl:tree JE=U1:=aA ael
theorem amU:Ft=some JE:=aw ael
noncomputable def FC:Option PC:=av {ctx with fr:=[12,13,15],nh:=[]} Tryz.f10 ((aa ab 10).getD default) [6,8,14,77838,46,16,17]
noncomputable def afL:PC:=au FC
def aya (b:Nat→PC):PC:=.block 0 [15,26,27,28,29,30] [14,77838] (.loop [15] [14,77838] (b 0))
def aCd (b:Nat→PC):PT:=
 (.ite (aj bM (.llen (pc o8 18)))
 (.chk (aH (pi 64) (pi 0))
 (.chk (aV (.ai .rem .i64 bM (pi 64)) (pi 0))
 (.ite (ah (.ai .and .u64 (.ai .shr .u64 r5 (.ai .rem .i64 bM (pi 64))) CM) lM)
 (.chk (ay (pc o8 18) bM)
 (.chk (aW (.llen (.app (.o 77838) (.lst [(pn (pc o8 18) bM)]))) cd)
 (.next ⟨[(15,(aD bM (pi 1)))],[(14,(.setc bD 18 pN)),(77838,(.app (.o 77838) (.lst [(pn (pc o8 18) bM)])))]⟩)))
 (.next ⟨[(15,(aD bM (pi 1)))],[]⟩))))
 (.exit 0 ⟨[(26,bM),(27,pN),(28,(pc o8 18)),(29,(.llen (pc o8 18))),(30,(aj bM (.llen (pc o8 18))))],[]⟩))
def aEw (b:Nat→PC):PT:=
 (.call ⟨[],[(8,(.mk [r2])),(6,(.mk [r0]))]⟩ [] 18 37 []
 (.call ⟨[(13,cA)],[]⟩ [] 21 38 [(af 8 o6),(af 19 o8)]
 (.ite (.nt fY)
 (.ret bU)
 (.brk ⟨[(15,(pi 0))],[(77838,pL),(14,(.setc (.setc fW 0 (af 19 o8)) 18 pL))]⟩
(aya b)
 (.call ⟨[],[]⟩ [] 54 39 [(af 8 o6),r1,(.mk [(pc bD 0),(pc bD 1),(pc bD 2),(pc bD 3),(pc bD 4),(pc bD 5),(pc bD 6),(pc bD 7),(pc bD 8),(pc bD 9),(pc bD 10),(pc bD 11),(pc bD 12),(pc bD 13),(pc bD 14),(pc bD 15),(pc bD 16),(pc bD 17),(.o 77838)]),r3,r4]
 (.call ⟨[],[(16,(.setc z7 0 qo))]⟩ [] 60 39 [(af 8 o6),r1,(af 19 o8),r3,r4]
 (.ret (.pick (.pick (.pick (.pick (.pick (.pick (.pick (.pick bU (aW (pc eF 0) (pc vF 0)) pF) (aW (pc eF 1) (pc vF 1)) pF) (ah (pc eF 2) (pc vF 2)) pF) (aW (pc eF 3) (pc vF 3)) pF) (aW (pc eF 5) (pc vF 5)) pF) (ah (pc eF 4) (pi 0)) pF) (ah (pc vF 4) (pi 0)) pF) (ah (pc eF 6) (pc vF 6)) pF))))))))
def asp (b:Nat→PC):PT×List (Shp×PT):=(aEw b,[(.lp 0 [15,26,27,28,29,30] [14,77838] [15] [14,77838],aCd b)])
theorem az7:FC.map told=some (asp (ar FC)):=by kernel_rfl
theorem am5:FC=some afL:=aw az7
noncomputable def FG:Option PC:=av {ctx with fr:=[0,4,6,7,8],nh:=[]} Tryz.f37 ((aa ab 37).getD default) [1,2,3]
noncomputable def afP:PC:=au FG
def aEA:PT:=
 (.call ⟨[],[]⟩ [] 10 86 [(pi 20),(pi 25)]
 (.call ⟨[],[(2,(.setc fW 0 (.tget cf 1))),(1,(.setc yr 0 (.tget cf 0)))]⟩ [] 15 87 [(af 8 (.setc yr 0 (.tget cf 0))),(pi 1),(pi 0),(pi 50)]
 (.call ⟨[(4,(.tget bM 1))],[(3,(.setc z2 0 (.tget bM 0)))]⟩ [] 20 87 [(af 8 o1),(pi 0),(pi 0),(pi 50)]
 (.call ⟨[(6,(.tget cM 1))],[]⟩ [] 24 88 [(pi 20),(pi 25),(pi 100),(.mk [(pi 1000),(pi 0),(pi 0),(pi 0),(pi 0),(pi 1000),(pi 0)])]
 (.call ⟨[(25,kq)],[]⟩ [(25,true)] 27 88 [(pi 20),(pi 25),(pi 101),(.mk [(pi 1000),(pi 0),(pi 5),(pi 0),(pi 0),(pi 1005),(pi 0)])]
 (.call ⟨[(29,(.pick gU dP pF))],[]⟩ [(29,true)] 31 88 [(pi 20),(pi 25),(pi 106),(.mk [(pi 1000),(pi 1),(pi 5),(pi 0),(pi 0),(pi 1006),(pi 0)])]
 (.call ⟨[(7,(.pick kr mM pF))],[]⟩ [] 34 88 [(pi 20),(pi 25),(pi 130),(.mk [(pi 1000),(pi 5),(pi 5),(pi 0),(pi 0),(pi 1010),(pi 0)])]
 (.call ⟨[(35,SI)],[]⟩ [(35,true)] 37 88 [(pi 25),(pi 20),(pi 130),(.mk [(pi 1000),(pi 5),(pi 5),(pi 200),(pi 0),(pi 1210),(pi 0)])]
 (.call ⟨[(55,(.pick (.pick (.pick (.pick r7 (.pick mN jn pF) pF) r4 pF) (.nt r6) pF) (.an (ah (pc (.mk [(pc o3 0),(pc o3 1)]) 0) (pi 20)) (.an (ah (pc (.mk [(pc o3 0),(pc o3 1)]) 1) (pi 1)) pT)) pF))],[]⟩ [(55,true)] 58 39 [(af 8 o1),(pi 0),(af 19 o2),(pi 1),(pi 130)]
 (.ret (.pick qp (.an (ah (pc nC 0) (pi 0)) (.an (ah (pc nC 1) (pi 0)) (.an (ah (pc nC 2) (pi 0)) (.an (ah (pc nC 3) (pi 0)) (.an (ah (pc nC 4) (pi 0)) (.an (ah (pc nC 5) (pi 0)) (.an (ah (pc nC 6) (pi 0)) pT))))))) pF)))))))))))
def ast (b:Nat→PC):PT×List (Shp×PT):=(aEA,[])
theorem aAb:FG.map told=some (ast (ar FG)):=by kernel_rfl
theorem am9:FG=some afP:=aw aAb
noncomputable def FE:Option PC:=av {ctx with fr:=[],nh:=[]} Tryz.f86 ((aa ab 86).getD default) [4,5,6,20486,24582,28678,32774,7,65543,69639,73735,77831]
noncomputable def afN:PC:=au FE
def aEy:PT:=
 (.ret (.tup [(af 8 (.setc yr 0 (.mk [(pc LW 0),(pc LW 1),(pc LW 2),(pc LW 3),(.lst [(.mk [(.con (.v (.string ⟨#[103,101,110,101,118,97]⟩))),pF,pL,(.lst [(.mk [(pi 17),(.mk [(pi 1),(pi 1),pL])])])])]),pL,(.lst [(.mk [(pi 0),(pi 1),(pi 1),r0,(pi 0)]),(.mk [(pi 0),(pi 1),(pi 1),r1,(pi 120)])]),pL]))),(af 19 (.setc fW 0 (.mk [(pc kR 0),(pc kR 1),(pc kR 2),(pc kR 3),(pc kR 4),(pc kR 5),(pc kR 6),(pc kR 7),(pc kR 8),(pc kR 9),(pc kR 10),(pc kR 11),(pc kR 12),(pc kR 13),(pc kR 14),(.lst [(.mk [(pi 0),(pi 0),(pi 0),(pi (-1)),(pi (-1)),(pi 0),(pi 10),(pi 0),(pi 0)])]),pL,(.lst [(.mk [(pi 4),(pi 1),(pi 1),(pi 0),(pi (-1)),(pi 5),(pi 101),(pi 0),(pi 0)])]),pL])))]))
def asr (b:Nat→PC):PT×List (Shp×PT):=(aEy,[])
theorem az9:FE.map told=some (asr (ar FE)):=by kernel_rfl
theorem am7:FE=some afN:=aw az9
noncomputable def ED:Option PC:=av {ctx with fr:=[9,10,11,12,13,15],nh:=[]} Tryz.f87 ((aa ab 87).getD default) [4,8,14]
noncomputable def afv:PC:=au ED
def aDt:PT:=
 (.call ⟨[(11,(pi 0)),(10,(pi 0))],[(8,z2),(4,(.mk [r0]))]⟩ [] 21 139 [(pc (.mk [r0]) 6),r1,r2,r3]
 (.iteS ⟨[(12,fY)],[]⟩ (aV fY (pi 0)) [10,11] []
 (.chk (ay (pc o4 6) bI)
 (.next ⟨[(11,(pc (pn (pc o4 6) bI) 3)),(10,(pc (pn (pc o4 6) bI) 2))],[]⟩))
 (.call ⟨[],[]⟩ [] 41 139 [(pc o4 6),r2,r1,r3]
 (.ite (aV kT (pi 0))
 (.chk (ay (pc o4 6) kT)
 (.next ⟨[(10,(pc (pn (pc o4 6) kT) 3)),(11,(pc (pn (pc o4 6) kT) 2))],[]⟩))
 (.next ⟨[],[]⟩)))
 (.call ⟨[],[]⟩ [] 59 140 [cf,bp]
 (.ret (.tup [(.mk [(pc agi 0),(pc agi 1)]),(ah (.tget L3 1) (pi 0))])))))
def arc (b:Nat→PC):PT×List (Shp×PT):=(aDt,[])
theorem azR:ED.map told=some (arc (ar ED)):=by kernel_rfl
theorem alX:ED=some afv:=aw azR
noncomputable def EH:Option PC:=av {ctx with fr:=[8,9,10],nh:=[]} Tryz.f139 ((aa ab 139).getD default) [11]
noncomputable def afz:PC:=au EH
def axW (b:Nat→PC):PC:=.block 0 [9,14,15] [] (.loop [9,14] [] (b 0))
def aB6 (b:Nat→PC):PT:=
 (.ite mL
 (.chk (ay bI cj)
 (.chk (.nt (.an (.an (.nt (aj r9 (pi 0))) (.an ags pT)) (.nt (ay r0 r9))))
 (.next ⟨[(9,(.pick (.pick ags (.pick (aj r9 (pi 0)) pT (aO (pc (.setc z5 0 kS) 4) (pc (pn r0 r9) 4))) pF) cj r9)),(14,(aD cj (pi 1)))],[]⟩)))
 (.exit 0 ⟨[(15,mL)],[]⟩))
def aDx (b:Nat→PC):PT:=
 (.brk ⟨[(14,(pi 0)),(13,(.llen r0)),(12,r0),(9,(pi (-1)))],[]⟩
(axW b)
 (.ret r9))
def ari (b:Nat→PC):PT×List (Shp×PT):=(aDx b,[(.lp 0 [9,14,15] [] [9,14] [],aB6 b)])
theorem azV:EH.map told=some (ari (ar EH)):=by kernel_rfl
theorem al3:EH=some afz:=aw azV
noncomputable def F4:Option PC:=av {ctx with fr:=[5,6,7,8],nh:=[]} Tryz.f140 ((aa ab 140).getD default) [4]
noncomputable def afW:PC:=au F4
def aFf:PT:=
 (.ite (ah r1 (pi 0))
 (.ret (.tup [(.mk [(pc Ly 0),(pc Ly 1)]),(pi 1)]))
 (.call ⟨[],[(4,z2)]⟩ [] 13 181 [r0]
 (.call ⟨[],[]⟩ [] 15 181 [r1]
 (.call ⟨[(7,bM),(6,bU)],[]⟩ [] 18 182 [bU,bM]
 (.chk (aH cA (pi 0))
 (.call ⟨[],[]⟩ [] 32 183 [(.cb .neq (aj r0 (pi 0)) (aj r1 (pi 0))),(.mk [lM,(.ai .quo .u64 r6 cA)]),(.mk [lM,(.ai .quo .u64 r7 cA)])]
 (.ret (.tup [(.mk [(pc (.setc o4 0 (.tget td 0)) 0),(pc (.setc o4 0 (.tget td 0)) 1)]),(.tget td 1)]))))))))
def as9 (b:Nat→PC):PT×List (Shp×PT):=(aFf,[])
theorem aAi:F4.map told=some (as9 (ar F4)):=by kernel_rfl
theorem anR:F4=some afW:=aw aAi
noncomputable def F5:Option PC:=av {ctx with fr:=[2],nh:=[]} Tryz.f181 ((aa ab 181).getD default) []
noncomputable def afX:PC:=au F5
def aFg:PT:=
 (.ite (aj r0 (pi 0))
 (.ret (.ai .sub .u64 lM (.conv .u64 r0)))
 (.ret (.conv .u64 r0)))
def ata (b:Nat→PC):PT×List (Shp×PT):=(aFg,[])
theorem aAj:F5.map told=some (ata (ar F5)):=by kernel_rfl
theorem anS:F5=some afX:=aw aAj
noncomputable def F6:Option PC:=av {ctx with fr:=[4,0,1],nh:=[]} Tryz.f182 ((aa ab 182).getD default) []
noncomputable def afY:PC:=au F6
def ayE (b:Nat→PC):PC:=.block 0 [0,1,5,6] [] (.loop [0,1] [] (b 0))
def aCg (b:Nat→PC):PT:=
 (.ite (aH r1 lM)
 (.chk (aH r1 (pi 0))
 (.next ⟨[(0,r1),(1,(.ai .rem .u64 r0 r1))],[]⟩))
 (.exit 0 ⟨[(5,r1),(6,(aH r1 lM))],[]⟩))
def aFh (b:Nat→PC):PT:=
 (.brk ⟨[],[]⟩
(ayE b)
 (.ret r0))
def atb (b:Nat→PC):PT×List (Shp×PT):=(aFh b,[(.lp 0 [0,1,5,6] [] [0,1] [],aCg b)])
theorem aAk:F6.map told=some (atb (ar F6)):=by kernel_rfl
theorem anT:F6=some afY:=aw aAk
noncomputable def F7:Option PC:=av {ctx with fr:=[7,8],nh:=[]} Tryz.f183 ((aa ab 183).getD default) [4,5,6]
noncomputable def afZ:PC:=au F7
def aFi:PT:=
 (.ite (.pick (.pick (.pick (aO rH lM) pT (aO (pc (.mk [r2]) 0) lM)) pT (aO rF (.con (.v (.int .u64 1152921504606846976))))) pT (aO (pc (.mk [r2]) 1) (.con (.v (.int .u64 1152921504606846976)))))
 (.ret (.tup [(.mk [(pc Ly 0),(pc Ly 1)]),(pi 3)]))
 (.ret (.tup [(.mk [(pc agw 0),(pc agw 1)]),(pi 0)])))
def atc (b:Nat→PC):PT×List (Shp×PT):=(aFi,[])
theorem aAl:F7.map told=some (atc (ar F7)):=by kernel_rfl
theorem anU:F7=some afZ:=aw aAl
noncomputable def FH:Option PC:=av {ctx with fr:=[8],nh:=[]} Tryz.f88 ((aa ab 88).getD default) [7,9,10]
noncomputable def afQ:PC:=au FH
def aEB:PT:=
 (.call ⟨[],[(7,(.mk [r3]))]⟩ [] 14 86 [r0,r1]
 (.call ⟨[],[]⟩ [] 20 39 [(af 8 (.setc yr 0 (.tget cj 0))),(pi 0),(af 19 (.setc fW 0 (.tget cj 1))),(pi 0),r2]
 (.ret (.an (ah (pc cM 0) (pc (af 7 o7) 0)) (.an (ah (pc cM 1) (pc (af 7 o7) 1)) (.an (ah (pc cM 2) (pc (af 7 o7) 2)) (.an (ah (pc cM 3) (pc (af 7 o7) 3)) (.an (ah (pc cM 4) (pc (af 7 o7) 4)) (.an (ah (pc cM 5) (pc (af 7 o7) 5)) (.an (ah (pc cM 6) (pc (af 7 o7) 6)) pT))))))))))
def asu (b:Nat→PC):PT×List (Shp×PT):=(aEB,[])
theorem aAc:FH.map told=some (asu (ar FH)):=by kernel_rfl
theorem ana:FH=some afQ:=aw aAc
noncomputable def EC:Option PC:=av {ctx with fr:=[13,15,16,18],nh:=[]} Tryz.f39 ((aa ab 39).getD default) [5,7,10,11,12,14,17,20]
noncomputable def afu:PC:=au EC
def axV (b:Nat→PC):PC:=.block 0 [116,117] [14] (.loop [116] [14] (b 0))
def aB5 (b:Nat→PC):PT:=
 (.ite (aj vL agz)
 (.chk (ay LZ vL)
 (.next ⟨[(116,(aD vL (pi 1)))],[(14,(.pick (.pick (ah (pc (.setc z9 0 (pn LZ vL)) 0) (pi 4)) pT (ah (pc (.setc z9 0 (pn LZ vL)) 0) (pi 5))) (.setc bD 2 (.mn lN (aD (pc bD 2) (pc (.setc z9 0 (pn LZ vL)) 5)))) bD))]⟩))
 (.exit 0 ⟨[(117,(aj vL agz))],[]⟩))
def aDs (b:Nat→PC):PT:=
 (.call ⟨[],[(10,z7),(7,(.mk [r2])),(5,(.mk [r0]))]⟩ [] 23 20 [vz,r4]
 (.call ⟨[],[(11,(.setc fW 0 eX))]⟩ [] 30 40 [(af 8 o5),r1,(af 19 o7),r3,r4]
 (.ite (.pick (.pick (.nt (.tget fZ 1)) pT (aj r3 (pi 0))) pT (aV r3 (.llen (pc kO 15))))
 (.ret (af 7 (.setc bO 0 (.mk [(pi 0),(pi 0),(pi 0),(pi 0),(pi 0),(pi 0),(pi 0)]))))
 (.call ⟨[],[(14,(.setc z7 0 (.mk [(pc (.setc CS 0 (.tget fZ 0)) 5),(pi 0),(pi 0),(pi 0),(pi 0),(pi 0),(pc o7 4)])))]⟩ [] 57 32 [(af 8 o5),r1,(af 19 o7),r4]
 (.iteS ⟨[(16,(.mn r4 (pi 100000))),(15,rI)],[(17,(.setc CP 0 (.mk [(af 19 o7),r3,r3,(pi (-1)),rI,r4])))]⟩ (.pick (aH rI (pi (-1))) (aW rI (.mn r4 (pi 100000))) pF) [] [14]
 (.iteS ⟨[(18,(pc o7 12))],[]⟩ (ah (pc o7 12) (pi 0)) [18] []
 (.call ⟨[],[]⟩ [] 81 34 [(af 8 o5),r1,(pi 16),(af 24 o17)]
 (.call ⟨[],[]⟩ [] 82 56 [tq]
 (.next ⟨[(18,(.mn (pi 1000) (.mx (pi 0) jR)))],[]⟩)))
 (.next ⟨[],[]⟩)
 (.call ⟨[],[]⟩ [] 90 91 [(pc bD 0),cA,bM,ct]
 (.call ⟨[],[(14,(.setc bD 1 SM))]⟩ [] 95 34 [(af 8 o5),r1,(pi 17),(af 24 o17)]
 (.call ⟨[],[]⟩ [] 96 33 [SO]
 (.iteS ⟨[],[]⟩ (ah SP (pi 1)) [] [14]
 (.chk (ay (pc kO 15) r3)
 (.call ⟨[],[]⟩ [] 111 92 [(af 8 o5),(af 15 o7),(pc (pn (pc kO 15) r3) 2),(pc bD 0),bM,ct]
 (.next ⟨[],[(14,(.setc bD 3 aBK))]⟩)))
 (.next ⟨[],[]⟩)
 (.next ⟨[],[]⟩))))))
 (.next ⟨[],[]⟩)
 (.brk ⟨[(116,(pi 0)),(115,(.llen (pc kO 17))),(114,(pc kO 17))],[]⟩
(axV b)
 (.ret (af 7 (.setc bO 0 (af 7 (.setc bD 5 (.mn lN (aD (aD (aD (pc bD 0) (pc bD 1)) (pc bD 2)) (pc bD 3))))))))))))))
def arb (b:Nat→PC):PT×List (Shp×PT):=(aDs b,[(.lp 0 [116,117] [14] [116] [14],aB5 b)])
theorem azQ:EC.map told=some (arb (ar EC)):=by kernel_rfl
theorem alW:EC=some afu:=aw azQ
noncomputable def ES:Option PC:=av {ctx with fr:=[11],nh:=[]} Tryz.f40 ((aa ab 40).getD default) [5,7,10,12]
noncomputable def afA:PC:=au ES
def aDH:PT:=
 (.call ⟨[],[(10,CS)]⟩ [] 17 84 [fX,r1,vz,r4]
 (.ite (.pick (aj r3 (pi 0)) pT (aV r3 (.llen (pc (.setc Sr 0 dB) 25))))
 (.ret (.tup [(af 7 (.setc bO 0 (.mk [(pi 0),(pi 0),(pi 0),(pi 0),(pi 0),(pi 0),pF]))),pF]))
 (.call ⟨[],[]⟩ [] 31 85 [(af 31 (.setc Sr 0 dB)),r3]
 (.ret (.tup [(af 7 (.setc bO 0 mM)),pT])))))
def aru (b:Nat→PC):PT×List (Shp×PT):=(aDH,[])
theorem azW:ES.map told=some (aru (ar ES)):=by kernel_rfl
theorem amd:ES=some afA:=aw azW
noncomputable def EU:Option PC:=av {ctx with fr:=[],nh:=[]} Tryz.f84 ((aa ab 84).getD default) [4,6,8,9]
noncomputable def afC:PC:=au EU
def aDJ:PT:=
 (.call ⟨[],[(8,Sr),(4,(.mk [r0]))]⟩ [] 12 20 [vz,r3]
 (.call ⟨[(16,(af 19 (.setc fW 0 bI))),(15,r3),(14,r1),(13,(af 8 o4))],[(9,(.setc fW 0 bI))]⟩ [] 21 57 [(af 8 o4),r1,(pi 0),(af 19 (.setc fW 0 bI)),r3]
 (.call ⟨[],[]⟩ [] 22 33 [fY]
 (.call ⟨[],[]⟩ [] 27 32 [(af 8 o4),r1,(af 19 o9),r3]
 (.ret (af 31 (.setc o8 0 (.mk [bU,cj,bM,ct,kp,dP]))))))))
def arw (b:Nat→PC):PT×List (Shp×PT):=(aDJ,[])
theorem azY:EU.map told=some (arw (ar EU)):=by kernel_rfl
theorem amf:EU=some afC:=aw azY
noncomputable def EV:Option PC:=av {ctx with fr:=[],nh:=[]} Tryz.f85 ((aa ab 85).getD default) [2,4,5,6]
noncomputable def afD:PC:=au EV
def aDK:PT:=
 (.chk (ay (pc (.mk [r0]) 25) r1)
 (.call ⟨[],[(6,(.setc CS 0 (.mk [r1,(pc CU 0),(pc CU 2),(pi 0),(pi 0),(pi 0),(.pick (aH (pc CU 0) (pi 1)) (ah (.ai .and .i64 (pc CU 8) (pi 1)) (pi 0)) pF)]))),(5,CU),(4,CS),(2,(.mk [r0]))]⟩ [] 33 21 [Sq,r1,(pc (.mk [r0]) 9)]
 (.iteS ⟨[],[]⟩ (.nt tg) [] [6]
 (.call ⟨[(36,(pc o2 29))],[]⟩ [] 39 137 [(af 31 o2),(pi 1),r1]
 (.call ⟨[],[]⟩ [] 42 137 [(af 31 o2),(pi 2),r1]
 (.call ⟨[],[]⟩ [] 44 136 [(.lst [gJ,qn,L1])]
 (.next ⟨[],[(6,(.setc o6 3 th))]⟩))))
 (.next ⟨[],[]⟩)
 (.call ⟨[],[]⟩ [] 49 138 [(af 31 o2),r1]
 (.ret (af 7 (.setc o4 0 (af 7 (.pick (.pick (ah (pc o5 0) (pi 1)) pT (ah (pc o5 0) (pi 4))) (.setc Sl 5 (.mn (pc Sl 5) (pc o5 5))) Sl)))))))))
def arx (b:Nat→PC):PT×List (Shp×PT):=(aDK,[])
theorem azZ:EV.map told=some (arx (ar EV)):=by kernel_rfl
theorem amg:EV=some afD:=aw azZ
noncomputable def GG:Option PC:=av {ctx with fr:=[6],nh:=[]} Tryz.f21 ((aa ab 21).getD default) [3]
noncomputable def af0:PC:=au GG
def aGa:PT:=
 (.call ⟨[(16,(.pick (aV r1 (pi 0)) (aj r1 (.llen nw)) pF))],[]⟩ [(16,true)] 19 55 [(af 19 (.mk [r0])),r2]
 (.ret (.pick ct (.look gu r1 pF) pF)))
def aue (b:Nat→PC):PT×List (Shp×PT):=(aGa,[])
theorem aAm:GG.map told=some (aue (ar GG)):=by kernel_rfl
theorem aoQ:GG=some af0:=aw aAm
noncomputable def GH:Option PC:=av {ctx with fr:=[4],nh:=[]} Tryz.f55 ((aa ab 55).getD default) [2,5,7]
noncomputable def af1:PC:=au GH
def azf (b:Nat→PC):PC:=.block 0 [12,13] [5] (.loop [12] [5] (b 0))
def aCk (b:Nat→PC):PT:=
 (.ite (aj bI bp)
 (.chk (ay cf bI)
 (.ite (.pick (ah (pc (.setc z9 0 rB) 0) (pi 7)) (aW (pc (.setc z9 0 rB) 6) r1) pF)
 (.chk (aj (.mlen o5) cd)
 (.next ⟨[(12,(aD bI (pi 1)))],[(5,(.put o5 (pc (.setc z9 0 rB) 4) pT))]⟩))
 (.next ⟨[(12,(aD bI (pi 1)))],[]⟩)))
 (.exit 0 ⟨[(13,(aj bI bp))],[]⟩))
def aGb (b:Nat→PC):PT:=
 (.brk ⟨[(12,(pi 0)),(11,(.llen (pc (.mk [r0]) 17))),(10,(pc (.mk [r0]) 17)),(5,pN)],[(5,(.con (.map [])))]⟩
(azf b)
 (.ret o5))
def auf (b:Nat→PC):PT×List (Shp×PT):=(aGb b,[(.lp 0 [12,13] [5] [12] [5],aCk b)])
theorem aAn:GH.map told=some (auf (ar GH)):=by kernel_rfl
theorem aoR:GH=some af1:=aw aAn
noncomputable def EW:Option PC:=av {ctx with fr:=[6],nh:=[]} Tryz.f137 ((aa ab 137).getD default) [3,7]
noncomputable def afE:PC:=au EW
def aDL:PT:=
 (.call ⟨[],[]⟩ [] 23 34 [fX,(pc (.mk [r0]) 8),r1,(af 24 (.setc CP 0 (.mk [Sq,r2,r2,(pi (-1)),(pc (.mk [r0]) 30),(pc (.mk [r0]) 9)])))]
 (.call ⟨[],[]⟩ [] 24 33 [eX]
 (.ret kq)))
def ary (b:Nat→PC):PT×List (Shp×PT):=(aDL,[])
theorem az0:EW.map told=some (ary (ar EW)):=by kernel_rfl
theorem amh:EW=some afE:=aw az0
noncomputable def ET:Option PC:=av {ctx with fr:=[2,3,5,12,15],nh:=[]} Tryz.f136 ((aa ab 136).getD default) []
noncomputable def afB:PC:=au ET
def axX (b:Nat→PC):PC:=.block 0 [2,3,8,9] [] (.loop [2,3,8] [] (b 0))
def aB7 (b:Nat→PC):PT:=
 (.ite (aj r8 r7)
 (.chk (ay r6 r8)
 (.ite (ah (pn r6 r8) (pi 0))
 (.ret (pi 0))
 (.next ⟨[(3,(.pick (ah (pn r6 r8) (pi 2)) (pi 2) r3)),(8,qm)],[]⟩)))
 (.exit 0 ⟨[(9,(aj r8 r7))],[]⟩))
def aDI (b:Nat→PC):PT:=
 (.brk ⟨[(8,(pi 0)),(7,(.llen r0)),(6,r0),(3,(pi 1)),(2,(pi 0))],[]⟩
(axX b)
 (.ret r3))
def arv (b:Nat→PC):PT×List (Shp×PT):=(aDI b,[(.lp 0 [2,3,8,9] [] [2,3,8] [],aB7 b)])
theorem azX:ET.map told=some (arv (ar ET)):=by kernel_rfl
theorem ame:ET=some afB:=aw azX
noncomputable def EX:Option PC:=av {ctx with fr:=[4,5,6,7,10,50,54],nh:=[]} Tryz.f138 ((aa ab 138).getD default) [2,9]
noncomputable def afF:PC:=au EX
def axY (b:Nat→PC):PC:=.block 0 [7,23,24] [] (.loop [7,23] [] (b 0))
def aB8 (b:Nat→PC):PT:=
 (.ite (aj eX kp)
 (.chk (ay fY eX)
 (.next ⟨[(7,(.pick r7 pT (aO (pc (.setc z2 0 (pn fY eX)) 0) r1))),(23,(aD eX (pi 1)))],[]⟩))
 (.exit 0 ⟨[(24,(aj eX kp))],[]⟩))
def aDM (b:Nat→PC):PT:=
 (.call ⟨[(5,(pi 0))],[(2,(.mk [r0]))]⟩ [] 14 180 [Sq,r1]
 (.brk ⟨[(23,(pi 0)),(22,(.llen (pc o2 26))),(21,(pc o2 26)),(7,pF),(6,(.llen (pc o2 26))),(5,cj)],[]⟩
(axY b)
 (.ite (.nt r7)
 (.ret (.tup [(pi 0),r5]))
 (.chk (ay (pc o2 26) (bn r6 (pi 1)))
 (.call ⟨[(10,(pc (pn (pc o2 26) (bn r6 (pi 1))) 1))],[]⟩ [] 48 137 [(af 31 o2),(pi 4),r1]
 (.ite (ah ga (pi 1))
 (.ret (.tup [ga,cf]))
 (.ite (ah ga (pi 2))
 (.ret (.tup [ga,(.mn r5 cf)]))
 (.ret (.tup [ga,r5])))))))))
def arz (b:Nat→PC):PT×List (Shp×PT):=(aDM b,[(.lp 0 [7,23,24] [] [7,23] [],aB8 b)])
theorem az1:EX.map told=some (arz (ar EX)):=by kernel_rfl
theorem ami:EX=some afF:=aw az1
noncomputable def FP:Option PC:=av {ctx with fr:=[4,5],nh:=[]} Tryz.f180 ((aa ab 180).getD default) [2,7]
noncomputable def afU:PC:=au FP
def ayd (b:Nat→PC):PC:=.block 0 [5,14,15] [] (.loop [5,14] [] (b 0))
def aCf (b:Nat→PC):PT:=
 (.ite mL
 (.chk (ay bI cj)
 (.next ⟨[(5,(.pick (aW (pc (.setc z2 0 kS) 0) r1) (pc (.setc z2 0 kS) 1) r5)),(14,(aD cj (pi 1)))],[]⟩))
 (.exit 0 ⟨[(15,mL)],[]⟩))
def aEK (b:Nat→PC):PT:=
 (.brk ⟨[(14,(pi 0)),(13,(.llen (pc (.mk [r0]) 16))),(12,(pc (.mk [r0]) 16)),(5,(pc (.mk [r0]) 3))],[]⟩
(ayd b)
 (.ret r5))
def asD (b:Nat→PC):PT×List (Shp×PT):=(aEK b,[(.lp 0 [5,14,15] [] [5,14] [],aCf b)])
theorem aAg:FP.map told=some (asD (ar FP)):=by kernel_rfl
theorem ank:FP=some afU:=aw aAg
noncomputable def EF:Option PC:=av {ctx with fr:=[8,9,10],nh:=[]} Tryz.f91 ((aa ab 91).getD default) []
noncomputable def afx:PC:=au EF
def aDv:PT:=
 (.call ⟨[],[]⟩ [] 16 41 [r0,r1,r2,r3,(pi 360)]
 (.ite (ah (.tget ct 1) (pi 3))
 (.ret lN)
 (.ret (.tget ct 0))))
def arf (b:Nat→PC):PT×List (Shp×PT):=(aDv,[])
theorem azT:EF.map told=some (arf (ar EF)):=by kernel_rfl
theorem alZ:EF=some afx:=aw azT
noncomputable def FI:Option PC:=av {ctx with fr:=[10,11,12,13,14],nh:=[]} Tryz.f41 ((aa ab 41).getD default) []
noncomputable def afR:PC:=au FI
def aEC:PT:=
 (.call ⟨[],[]⟩ [] 16 93 [r0,lN]
 (.call ⟨[(18,(.nt ct))],[]⟩ [(18,false)] 20 93 [r1,(pi 1000)]
 (.call ⟨[(23,(.pick cA pT (.nt cM)))],[]⟩ [(23,false)] 25 93 [r2,(pi 100000)]
 (.call ⟨[(28,(.pick eX pT (.nt gU)))],[]⟩ [(28,false)] 30 93 [r3,(pi 100000)]
 (.ite (.pick (.pick (.pick fG pT (.nt fZ)) pT (aj r3 r2)) pT (.pick (aH r4 (pi 360)) (aH r4 (pi 365)) pF))
 (.ret (.tup [(pi 0),(pi 1)]))
 (.call ⟨[],[]⟩ [] 55 94 [r0,(.ai .mul .i64 r1 (bn r3 r2)),(.ai .mul .i64 (pi 1000) r4)]
 (.ite (.nt (.tget qp 2))
 (.ret (.tup [(pi 0),(pi 3)]))
 (.ret (.tup [(.tget qp 0),(pi 0)])))))))))
def asv (b:Nat→PC):PT×List (Shp×PT):=(aEC,[])
theorem aAd:FI.map told=some (asv (ar FI)):=by kernel_rfl
theorem anb:FI=some afR:=aw aAd
noncomputable def FK:Option PC:=av {ctx with fr:=[4],nh:=[]} Tryz.f93 ((aa ab 93).getD default) []
noncomputable def afT:PC:=au FK
def aEE:PT:=
 (.ret (.pick (aV r0 (pi 0)) (aW r0 r1) pF))
def asx (b:Nat→PC):PT×List (Shp×PT):=(aEE,[])
theorem aAf:FK.map told=some (asx (ar FK)):=by kernel_rfl
theorem ane:FK=some afT:=aw aAf
noncomputable def FJ:Option PC:=av {ctx with fr:=[6,7,8,9,10,11,12],nh:=[]} Tryz.f94 ((aa ab 94).getD default) []
noncomputable def afS:PC:=au FJ
def aED:PT:=
 (.call ⟨[],[]⟩ [] 18 153 [(.conv .u64 r0),(.conv .u64 r1)]
 (.ite (aV (.tget cA 0) (.conv .u64 r2))
 (.ret (.tup [(pi 0),(pi 0),pF]))
 (.call ⟨[],[]⟩ [] 30 154 [(.tget cA 0),(.tget cA 1),(.conv .u64 r2)]
 (.ite (aO (.tget fZ 0) (.con (.v (.int .u64 1099511627776))))
 (.ret (.tup [(pi 0),(pi 0),pF]))
 (.ret (.tup [(.conv .i64 (.tget fZ 0)),(.conv .i64 (.tget fZ 1)),pT]))))))
def asw (b:Nat→PC):PT×List (Shp×PT):=(aED,[])
theorem aAe:FJ.map told=some (asw (ar FJ)):=by kernel_rfl
theorem anc:FJ=some afS:=aw aAe
noncomputable def EY:Option PC:=av {ctx with fr:=[6,7,8,2,9,10,11,12,13,14,15,16,17,18],nh:=[]} Tryz.f154 ((aa ab 154).getD default) []
noncomputable def afG:PC:=au EY
def Ic (b:Nat→PC):PC:=.block 0 [15,16,67,68,69,78] [] (.loop [15,16] [] (b 0))
def Ie (b:Nat→PC):PC:=.block 2 [16,18,102,103,104,113] [] (.loop [16,18] [] (b 1))
def aB9 (b:Nat→PC):PT:=
 (.ite Sv
 (.ite (aV yn jO)
 (.exit 0 ⟨[(15,(.ai .sub .u64 bM CM)),(16,yn),(67,bM),(68,(aV bM jO)),(69,(aV bM jO)),(78,Sv)],[]⟩)
 (.next ⟨[(15,(.ai .sub .u64 bM CM)),(16,yn)],[]⟩))
 (.exit 0 ⟨[(67,bM),(68,(aV bM jO)),(69,(aV bM jO)),(78,Sv)],[]⟩))
def aCa (b:Nat→PC):PT:=
 (.ite Su
 (.ite (aV yn jO)
 (.exit 2 ⟨[(16,yn),(18,(.ai .sub .u64 cA CM)),(102,cA),(103,(aV cA jO)),(104,(aV cA jO)),(113,Su)],[]⟩)
 (.next ⟨[(16,yn),(18,(.ai .sub .u64 cA CM))],[]⟩))
 (.exit 2 ⟨[(102,cA),(103,(aV cA jO)),(104,(aV cA jO)),(113,Su)],[]⟩))
def aDN (b:Nat→PC):PT:=
 (.ite (ah r2 lM)
 (.chk pF
 (.chk (.nt pT)
 (.ite (aW r2 r0)
 (.chk pF
 (.chk (.nt pT)
 (.ite (ah r0 lM)
 (.chk (aH r2 (pi 0))
 (.ret (.tup [(.ai .quo .u64 r1 r2),(.ai .rem .u64 r1 r2)])))
 (.call ⟨[],[]⟩ [] 35 186 [r2]
 (.chk (aV oR (pi 0))
 (.chk yp
 (.chk LS
 (.chk (aH lK (pi 0))
 (.brk ⟨[(16,LQ),(15,(.ai .quo .u64 qk lK)),(14,LI),(13,LG),(11,qk),(10,LJ),(9,lK),(2,CT),(8,oR)],[]⟩
(Ic b)
 (.chk (aH r9 (pi 0))
 (.brk ⟨[(16,LR),(18,(.ai .quo .u64 qf r9)),(17,qf)],[]⟩
(Ie b)
 (.chk (aV r8 (pi 0))
 (.ret (.tup [LV,LN]))))))))))))))
 (.ite (ah r0 lM)
 (.chk (aH r2 (pi 0))
 (.ret (.tup [(.ai .quo .u64 r1 r2),(.ai .rem .u64 r1 r2)])))
 (.call ⟨[],[]⟩ [] 35 186 [r2]
 (.chk (aV oR (pi 0))
 (.chk yp
 (.chk LS
 (.chk (aH lK (pi 0))
 (.brk ⟨[(16,LQ),(15,(.ai .quo .u64 qk lK)),(14,LI),(13,LG),(11,qk),(10,LJ),(9,lK),(2,CT),(8,oR)],[]⟩
(Ic b)
 (.chk (aH r9 (pi 0))
 (.brk ⟨[(16,LR),(18,(.ai .quo .u64 qf r9)),(17,qf)],[]⟩
(Ie b)
 (.chk (aV r8 (pi 0))
 (.ret (.tup [LV,LN])))))))))))))))
 (.ite (aW r2 r0)
 (.chk pF
 (.chk (.nt pT)
 (.ite (ah r0 lM)
 (.chk (aH r2 (pi 0))
 (.ret (.tup [(.ai .quo .u64 r1 r2),(.ai .rem .u64 r1 r2)])))
 (.call ⟨[],[]⟩ [] 35 186 [r2]
 (.chk (aV oR (pi 0))
 (.chk yp
 (.chk LS
 (.chk (aH lK (pi 0))
 (.brk ⟨[(16,LQ),(15,(.ai .quo .u64 qk lK)),(14,LI),(13,LG),(11,qk),(10,LJ),(9,lK),(2,CT),(8,oR)],[]⟩
(Ic b)
 (.chk (aH r9 (pi 0))
 (.brk ⟨[(16,LR),(18,(.ai .quo .u64 qf r9)),(17,qf)],[]⟩
(Ie b)
 (.chk (aV r8 (pi 0))
 (.ret (.tup [LV,LN]))))))))))))))
 (.ite (ah r0 lM)
 (.chk (aH r2 (pi 0))
 (.ret (.tup [(.ai .quo .u64 r1 r2),(.ai .rem .u64 r1 r2)])))
 (.call ⟨[],[]⟩ [] 35 186 [r2]
 (.chk (aV oR (pi 0))
 (.chk yp
 (.chk LS
 (.chk (aH lK (pi 0))
 (.brk ⟨[(16,LQ),(15,(.ai .quo .u64 qk lK)),(14,LI),(13,LG),(11,qk),(10,LJ),(9,lK),(2,CT),(8,oR)],[]⟩
(Ic b)
 (.chk (aH r9 (pi 0))
 (.brk ⟨[(16,LR),(18,(.ai .quo .u64 qf r9)),(17,qf)],[]⟩
(Ie b)
 (.chk (aV r8 (pi 0))
 (.ret (.tup [LV,LN]))))))))))))))
def arA (b:Nat→PC):PT×List (Shp×PT):=(aDN b,[(.lp 0 [15,16,67,68,69,78] [] [15,16] [],aB9 b),(.lp 2 [16,18,102,103,104,113] [] [16,18] [],aCa b)])
theorem az2:EY.map told=some (arA (ar EY)):=by kernel_rfl
theorem amj:EY=some afG:=aw az2
noncomputable def EZ:Option PC:=av {ctx with fr:=[2],nh:=[]} Tryz.f186 ((aa ab 186).getD default) []
noncomputable def afH:PC:=au EZ
def aDO:PT:=
 (.call ⟨[],[]⟩ [] 4 210 [r0]
 (.ret (bn (pi 64) r4)))
def arB (b:Nat→PC):PT×List (Shp×PT):=(aDO,[])
theorem az3:EZ.map told=some (arB (ar EZ)):=by kernel_rfl
theorem amk:EZ=some afH:=aw az3
noncomputable def E0:Option PC:=av {ctx with fr:=[2,0],nh:=[]} Tryz.f210 ((aa ab 210).getD default) []
noncomputable def afI:PC:=au E0
def aDP:PT:=
 (.ite (aV r0 jO)
 (.chk yp
 (.ite (aV rC (.con (.v (.int .u64 65536))))
 (.chk (aV LO (pi 0))
 (.ite (aV CJ LF)
 (.chk (aV nv (pi 0))
 (.chk (.sok km (.conv .u8 (.ai .shr .u64 CJ nv)))
 (.ret (aD (aD (aD (pi 32) (pi 16)) (pi 8)) (.conv .i64 (.sidx km (.conv .u8 (.ai .shr .u64 CJ nv))))))))
 (.chk (.sok km (.conv .u8 CJ))
 (.ret (aD (aD (pi 32) (pi 16)) (.conv .i64 (.sidx km (.conv .u8 CJ))))))))
 (.ite (aV rC LF)
 (.chk (aV nv (pi 0))
 (.chk (.sok km (.conv .u8 (.ai .shr .u64 rC nv)))
 (.ret (aD (aD (pi 32) (pi 8)) (.conv .i64 (.sidx km (.conv .u8 (.ai .shr .u64 rC nv))))))))
 (.chk (.sok km (.conv .u8 rC))
 (.ret (aD (pi 32) (.conv .i64 (.sidx km (.conv .u8 rC)))))))))
 (.ite (aV r0 (.con (.v (.int .u64 65536))))
 (.chk (aV LO (pi 0))
 (.ite (aV CO LF)
 (.chk (aV nv (pi 0))
 (.chk (.sok km (.conv .u8 (.ai .shr .u64 CO nv)))
 (.ret (aD (aD (aD (pi 0) (pi 16)) (pi 8)) (.conv .i64 (.sidx km (.conv .u8 (.ai .shr .u64 CO nv))))))))
 (.chk (.sok km (.conv .u8 CO))
 (.ret (aD (aD (pi 0) (pi 16)) (.conv .i64 (.sidx km (.conv .u8 CO))))))))
 (.ite (aV r0 LF)
 (.chk (aV nv (pi 0))
 (.chk (.sok km (.conv .u8 (.ai .shr .u64 r0 nv)))
 (.ret (aD (aD (pi 0) (pi 8)) (.conv .i64 (.sidx km (.conv .u8 (.ai .shr .u64 r0 nv))))))))
 (.chk (.sok km (.conv .u8 r0))
 (.ret (aD (pi 0) (.conv .i64 (.sidx km (.conv .u8 r0)))))))))
def arC (b:Nat→PC):PT×List (Shp×PT):=(aDP,[])
theorem az4:E0.map told=some (arC (ar E0)):=by kernel_rfl
theorem aml:E0=some afI:=aw az4
noncomputable def EE:Option PC:=av {ctx with fr:=[12,13,15,17],nh:=[]} Tryz.f92 ((aa ab 92).getD default) [6,7,14,16]
noncomputable def afw:PC:=au EE
def aDu:PT:=
 (.chk (ay (pc (.mk [r0]) 3) r2)
 (.chk (ay mJ (pc (pn (pc (.mk [r0]) 3) r2) 1))
 (.ite (ah Sj (pc (.mk [r1]) 4))
 (.ret (pi 0))
 (.call ⟨[(13,Sj)],[(7,(.mk [r1])),(6,(.mk [r0]))]⟩ [] 39 87 [fX,(pc (.mk [r1]) 4),Sj,r4]
 (.call ⟨[(15,(.tget qn 1))],[(14,(.setc z2 0 (.tget qn 0)))]⟩ [] 48 87 [(af 8 o6),bU,(pc o7 4),r5]
 (.ite (.pick (.nt bM) pT (.nt (.tget ga 1)))
 (.ret (pi 0))
 (.call ⟨[],[]⟩ [] 60 152 [r3,(.mk [(pc bD 0),(pc bD 1)]),(.mk [(pc (.setc z2 0 (.tget ga 0)) 0),(pc (.setc z2 0 (.tget ga 0)) 1)])]
 (.ret vM))))))))
def ard (b:Nat→PC):PT×List (Shp×PT):=(aDu,[])
theorem azS:EE.map told=some (ard (ar EE)):=by kernel_rfl
theorem alY:EE=some afw:=aw azS
noncomputable def EG:Option PC:=av {ctx with fr:=[6,7,8,9,10,11,12],nh:=[]} Tryz.f152 ((aa ab 152).getD default) [4,5]
noncomputable def afy:PC:=au EG
def aDw:PT:=
 (.ite (aV (.ai .mul .u64 (.conv .u64 rH) (.conv .u64 (pc (.mk [r2]) 0))) SA)
 (.ret (pi 0))
 (.call ⟨[(8,SA)],[]⟩ [] 36 153 [(.conv .u64 r0),(.ai .sub .u64 SA (.ai .mul .u64 (.conv .u64 rH) (.conv .u64 (pc (.mk [r2]) 0))))]
 (.call ⟨[],[]⟩ [] 43 154 [(.tget gJ 0),(.tget gJ 1),r8]
 (.ret (.conv .i64 (.tget oU 0))))))
def arh (b:Nat→PC):PT×List (Shp×PT):=(aDw,[])
theorem azU:EG.map told=some (arh (ar EG)):=by kernel_rfl
theorem al0:EG=some afy:=aw azU
noncomputable def FF:Option PC:=av {ctx with fr:=[4],nh:=[]} Tryz.f38 ((aa ab 38).getD default) [2,3]
noncomputable def afO:PC:=au FF
def aEz:PT:=
 (.call ⟨[],[(3,(.mk [r1])),(2,(.mk [r0]))]⟩ [] 7 43 [fX,(af 19 (.mk [r1]))]
 (.call ⟨[(8,r7)],[]⟩ [(8,true)] 10 89 [(af 8 o2)]
 (.call ⟨[(13,(.pick r8 (ah cf (pi 0)) pF))],[]⟩ [(13,true)] 15 90 [(af 19 o3)]
 (.call ⟨[(17,(.pick bU bM pF))],[]⟩ [(17,true)] 20 58 [(af 8 o2),(af 19 o3)]
 (.ret (.pick dB (ah cM (pi 0)) pF))))))
def ass (b:Nat→PC):PT×List (Shp×PT):=(aEz,[])
theorem aAa:FF.map told=some (ass (ar FF)):=by kernel_rfl
theorem am8:FF=some afO:=aw aAa
noncomputable def F1:Option PC:=av {ctx with fr:=[2],nh:=[]} Tryz.f90 ((aa ab 90).getD default) [1]
noncomputable def afV:PC:=au F1
def aE8:PT:=
 (.ret (.pick (.pick (.pick (aW (.llen nw) (pi 42)) (aW (.llen (pc (.mk [r0]) 16)) (pi 6)) pF) (aW (.llen (pc (.mk [r0]) 17)) (pi 102)) pF) (aW (.llen yq) (pi 202)) pF))
def as1 (b:Nat→PC):PT×List (Shp×PT):=(aE8,[])
theorem aAh:F1.map told=some (as1 (ar F1)):=by kernel_rfl
theorem anJ:F1=some afV:=aw aAh
noncomputable def FD:Option PC:=av {ctx with fr:=[10,11,14,15,16,17,18],nh:=[]} Tryz.f11 ((aa ab 11).getD default) [5,7,12,13]
noncomputable def afM:PC:=au FD
def aEx:PT:=
 (.call ⟨[],[(7,(.mk [r2])),(5,(.mk [r0]))]⟩ [] 19 37 []
 (.call ⟨[(11,gu)],[]⟩ [] 22 38 [(af 8 o5),(af 19 o7)]
 (.ite (.nt kp)
 (.ret bp)
 (.call ⟨[],[]⟩ [] 30 39 [(af 8 o5),r1,(af 19 o7),r3,r4]
 (.call ⟨[],[(12,(.setc z7 0 fZ))]⟩ [] 37 40 [(af 8 o5),r1,(af 19 o7),r3,r4]
 (.ite (.nt (.tget jn 1))
 (.ret (.pick bp (.an (ah (pc (af 7 da) 0) (pi 0)) (.an (ah (pc (af 7 da) 1) (pi 0)) (.an (ah (pc (af 7 da) 2) (pi 0)) (.an (ah (pc (af 7 da) 3) (pi 0)) (.an (ah (pc (af 7 da) 4) (pi 0)) (.an (ah (pc (af 7 da) 5) (pi 0)) (.an (ah (pc (af 7 da) 6) (pi 0)) pT))))))) pF))
 (.call ⟨[],[(13,(.setc CS 0 (.tget jn 0)))]⟩ [] 52 32 [(af 8 o5),r1,(af 19 o7),r4]
 (.ite (.pick (.pick (.pick (.pick (.pick (aH (pc da 0) (pc vm 5)) pT (aH (pc da 5) (.mn lN (aD (aD (aD (pc da 0) (pc da 1)) (pc da 2)) (pc da 3))))) pT (aH (pc da 6) (pc o7 4))) pT (aj (pc da 1) (pi 0))) pT (aj (pc da 2) (pi 0))) pT (aj (pc da 3) (pi 0)))
 (.ret pF)
 (.ite (.pick (ah tn (pi (-1))) pT (aO tn (.mn r4 (pi 100000))))
 (.ret (.pick (.pick bp (ah (pc da 1) (pi 0)) pF) (ah (pc da 3) (pi 0)) pF))
 (.ite (ah (pc o7 12) (pi 0))
 (.ret bp)
 (.call ⟨[],[]⟩ [] 131 41 [(pc da 0),(pc o7 12),tn,(.mn r4 (pi 100000)),(pi 360)]
 (.ite (aH (.tget (.r 131) 1) (pi 0))
 (.ret (.pick (.pick bp (ah (.tget (.r 131) 1) (pi 3)) pF) (ah (pc da 1) lN) pF))
 (.ret (.pick bp (ah (pc da 1) (.tget (.r 131) 0)) pF))))))))))))))
def asq (b:Nat→PC):PT×List (Shp×PT):=(aEx,[])
theorem az8:FD.map told=some (asq (ar FD)):=by kernel_rfl
theorem am6:FD=some afM:=aw az8
noncomputable def FA:Option PC:=av {ctx with fr:=[12,13,18],nh:=[]} Tryz.f12 ((aa ab 12).getD default) [6,8,11,14,73742,26,31,15,16]
noncomputable def afJ:PC:=au FA
def aEu:PT:=
 (.call ⟨[],[(11,(.mk [r5])),(8,(.mk [r2])),(6,(.mk [r0]))]⟩ [] 19 37 []
 (.call ⟨[(13,gu)],[]⟩ [] 22 38 [(af 8 o6),(af 19 o8)]
 (.ite (.nt kp)
 (.ret bU)
 (.chk (aW (.llen (.app (.lst []) (pc o8 17))) cd)
 (.chk (aW (.llen SC) cd)
 (.call ⟨[],[(73742,SC),(14,iL)]⟩ [] 36 38 [(af 8 o6),(.mk [(pc iL 0),(pc iL 1),(pc iL 2),(pc iL 3),(pc iL 4),(pc iL 5),(pc iL 6),(pc iL 7),(pc iL 8),(pc iL 9),(pc iL 10),(pc iL 11),(pc iL 12),(pc iL 13),(pc iL 14),(pc iL 15),(pc iL 16),SC,(pc iL 18)])]
 (.ite (.pick (.nt gJ) pT (aO (pc kO 6) r4))
 (.ret bU)
 (.call ⟨[],[]⟩ [] 50 39 [(af 8 o6),r1,(af 19 o8),r3,r4]
 (.call ⟨[],[(15,(.setc z7 0 fH))]⟩ [] 56 39 [(af 8 o6),r1,(.mk [(pc bD 0),(pc bD 1),(pc bD 2),(pc bD 3),(pc bD 4),(pc bD 5),(pc bD 6),(pc bD 7),(pc bD 8),(pc bD 9),(pc bD 10),(pc bD 11),(pc bD 12),(pc bD 13),(pc bD 14),(pc bD 15),(pc bD 16),(.o 73742),(pc bD 18)]),r3,r4]
 (.call ⟨[],[(16,(.setc z7 0 oV))]⟩ [] 63 40 [(af 8 o6),r1,(af 19 o8),r3,r4]
 (.ite (.nt (.tget yx 1))
 (.ret (.pick (.pick bU (.an (ah (pc (af 7 mH) 0) (pi 0)) (.an (ah (pc (af 7 mH) 1) (pi 0)) (.an (ah (pc (af 7 mH) 2) (pi 0)) (.an (ah (pc (af 7 mH) 3) (pi 0)) (.an (ah (pc (af 7 mH) 4) (pi 0)) (.an (ah (pc (af 7 mH) 5) (pi 0)) (.an (ah (pc (af 7 mH) 6) (pi 0)) pT))))))) pF) (.an (ah (pc (af 7 eF) 0) (pi 0)) (.an (ah (pc (af 7 eF) 1) (pi 0)) (.an (ah (pc (af 7 eF) 2) (pi 0)) (.an (ah (pc (af 7 eF) 3) (pi 0)) (.an (ah (pc (af 7 eF) 4) (pi 0)) (.an (ah (pc (af 7 eF) 5) (pi 0)) (.an (ah (pc (af 7 eF) 6) (pi 0)) pT))))))) pF))
 (.ite (.pick (ah (pc kO 0) (pi 4)) pT (ah (pc kO 0) (pi 5)))
 (.ret (.pick (.pick (.pick (.pick bU (ah (pc eF 2) (.mn lN (aD (pc mH 2) (pc kO 5)))) pF) (ah (pc mH 0) (pc eF 0)) pF) (ah (pc mH 1) (pc eF 1)) pF) (ah (pc mH 3) (pc eF 3)) pF))
 (.ret (.pick bU (ah (pc eF 2) (pc mH 2)) pF))))))))))))))
def asn (b:Nat→PC):PT×List (Shp×PT):=(aEu,[])
theorem az5:FA.map told=some (asn (ar FA)):=by kernel_rfl
theorem am3:FA=some afJ:=aw az5
noncomputable def FB:Option PC:=av {ctx with fr:=[12,13],nh:=[]} Tryz.f13 ((aa ab 13).getD default) [6,8,14,15,16,17]
noncomputable def afK:PC:=au FB
def aEv:PT:=
 (.call ⟨[],[(8,(.mk [r2])),(6,(.mk [r0]))]⟩ [] 18 37 []
 (.call ⟨[(13,cA)],[]⟩ [] 21 38 [(af 8 o6),(af 19 o8)]
 (.ite (.pick (.pick (.pick (.pick (.nt fY) pT (aj r4 (pi 0))) pT (aO r4 (pi 200000))) pT (aj r5 (pi 0))) pT (aO r5 (pi 100000)))
 (.ret bU)
 (.call ⟨[],[]⟩ [] 42 20 [(af 19 o8),r4]
 (.call ⟨[],[(14,(.setc fW 0 L1))]⟩ [] 47 20 [(af 19 o8),(aD r4 r5)]
 (.ite (.pick (.pick (aH (.llen (pc bD 15)) (.llen (pc (.setc fW 0 tj) 15))) pT (aH (.llen (pc bD 17)) (.llen (pc (.setc fW 0 tj) 17)))) pT (aH (.llen (pc bD 16)) (.llen (pc (.setc fW 0 tj) 16))))
 (.ret bU)
 (.call ⟨[],[]⟩ [] 79 39 [(af 8 o6),r1,(af 19 o8),r3,r4]
 (.call ⟨[],[(16,(.setc z7 0 r79))]⟩ [] 87 39 [(af 8 o6),r1,(af 19 o8),r3,(aD r4 r5)]
 (.ret (.pick (.pick (.pick (.pick bU (ah (pc eF 0) (pc (.setc z7 0 yA) 0)) pF) (ah (pc eF 2) (pc (.setc z7 0 yA) 2)) pF) (aW (pc eF 1) (pc (.setc z7 0 yA) 1)) pF) (ah (pc eF 6) (pc (.setc z7 0 yA) 6)) pF))))))))))
def aso (b:Nat→PC):PT×List (Shp×PT):=(aEv,[])
theorem az6:FB.map told=some (aso (ar FB)):=by kernel_rfl
theorem am4:FB=some afK:=aw az6
noncomputable def EP:Option PC:=av {ctx with fr:=[6],nh:=[]} Tryz.f132 ⟨[Y8,I,pv],.slice I,.dat⟩ [3,5,7,8,42,9]
noncomputable def R4:PC:=au EP
def Uy:PT:=
 (.chk (ay (pc (.mk [r2]) 15) (pc (.mk [r2]) 19))
 (.ite agn
 (.ret pL)
 (.chk (.an (aV (pi 5) (pi 0)) (aW (pi 5) cd))
 (.chk (ah (pi 5) (pi 5))
 (.chk (ay (.rep (pi 5) (pi 0)) (pi 0))
 (.call ⟨[],[(9,(.setn (.rep (pi 5) (pi 0)) (pi 0) 0 r1)),(8,(.setc Ef 0 (af 15 (.mk [r2])))),(7,yu),(3,(.mk [r0]))]⟩ [] 50 170 [fX,(pc yu 7)]
 (.chk (ay o9 (pi 1))
 (.call ⟨[],[(9,(.setn o9 (pi 1) 0 fH))]⟩ [] 56 170 [(af 8 o3),(pc o8 10)]
 (.chk (ay o9 (pi 2))
 (.call ⟨[],[(9,(.setn o9 (pi 2) 0 oV))]⟩ [] 62 170 [(af 8 o3),(pc o8 9)]
 (.chk (ay o9 (pi 3))
 (.chk (ay (pc o3 3) (pc o7 2))
 (.call ⟨[],[(9,(.setn o9 (pi 3) 0 lO))]⟩ [] 73 170 [(af 8 o3),(pc (pn (pc o3 3) (pc o7 2)) 1)]
 (.chk (ay o9 (pi 4))
 (.call ⟨[],[(9,(.setn o9 (pi 4) 0 yy))]⟩ [] 76 45 [(.setn o9 (pi 4) 0 yy),(pi (-1))]
 (.ite qq
 (.ret pL)
 (.ret o9)))))))))))))))))
def ars (b:Nat→PC):PT×List (Shp×PT):=(Uy,[])
theorem adU:EP.map told=some (ars (ar EP)):=by kernel_rfl
theorem aDF:tree R4=Uy:=aA adU
theorem amb:EP=some R4:=aw adU
noncomputable def ER:Option PC:=av {ctx with fr:=[6],nh:=[]} Tryz.f132 ⟨[Y8,I,pv],.nils .bool,.dat⟩ [3,5,7,8,42,9]
noncomputable def R5:PC:=au ER
def MQ:PT:=
 (.chk (ay (pc (.mk [r2]) 15) (pc (.mk [r2]) 19))
 (.ite agn
 (.ret pL)
 (.chk (.an (aV (pi 5) (pi 0)) (aW (pi 5) cd))
 (.chk (ah (pi 5) (pi 5))
 (.chk (ay (.rep (pi 5) (pi 0)) (pi 0))
 (.call ⟨[],[(9,(.setn (.rep (pi 5) (pi 0)) (pi 0) 0 r1)),(8,(.setc Ef 0 (af 15 (.mk [r2])))),(7,yu),(3,(.mk [r0]))]⟩ [] 50 170 [fX,(pc yu 7)]
 (.chk (ay o9 (pi 1))
 (.call ⟨[],[(9,(.setn o9 (pi 1) 0 fH))]⟩ [] 56 170 [(af 8 o3),(pc o8 10)]
 (.chk (ay o9 (pi 2))
 (.call ⟨[],[(9,(.setn o9 (pi 2) 0 oV))]⟩ [] 62 170 [(af 8 o3),(pc o8 9)]
 (.chk (ay o9 (pi 3))
 (.chk (ay (pc o3 3) (pc o7 2))
 (.call ⟨[],[(9,(.setn o9 (pi 3) 0 lO))]⟩ [] 73 170 [(af 8 o3),(pc (pn (pc o3 3) (pc o7 2)) 1)]
 (.chk (ay o9 (pi 4))
 (.call ⟨[],[]⟩ [] 76 45 [(.setn o9 (pi 4) 0 yy),(pi (-1))]
 (.ite qq
 (.ret pL)
 (.chk pF
 (.next ⟨[],[]⟩))))))))))))))))))
def art (b:Nat→PC):PT×List (Shp×PT):=(MQ,[])
theorem adV:ER.map told=some (art (ar ER)):=by kernel_rfl
theorem aDG:tree R5=MQ:=aA adV
theorem amc:ER=some R5:=aw adV
end Rm
