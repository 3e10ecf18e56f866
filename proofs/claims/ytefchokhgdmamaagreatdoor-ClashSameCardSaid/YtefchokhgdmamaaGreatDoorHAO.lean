/-
  The functions of this seat, compiled (3).
-/
import Derived.Test.YtefchokhgdmamaaGreatDoorHAJ
import Derived.KernelRfl
set_option linter.unusedVariables false
set_option maxRecDepth 100000
noncomputable section
namespace Rm
open Go Go.Proofs Cx
def xq:Option PC:=cF [2,3,5] [] Tryz.f37 37 []
def J7:Nat→PC:=cd xq
def aid (b:Nat→PC):PC:=.block 0 [2,8,9] [] (.loop [2,8] [] (b 0))
def Du (b:Nat→PC):PT:=
 (.ite (ak r8 r7)
 (.chk (aB r6 r8)
 (.ite (bC (pn r6 r8) r3)
 (.ret (pn r6 r8))
 (.next ⟨[(8,ua)],[]⟩)))
 (.exit 0 ⟨[(9,(ak r8 r7))],[]⟩))
def Qb (b:Nat→PC):PT:=
 (.brk ⟨[(8,(pi 0)),(7,(.llen r0)),(6,r0),(3,(pi 0)),(2,(pi 0))],[]⟩
(aid b)
 (.ret r3))
def adR (b:Nat→PC):PT×List (Shp×PT):=(Qb b,[(.lp 0 [2,8,9] [] [2,8] [],Du b)])
theorem NK:xq.map told=some (adR (bT xq)):=by kernel_rfl
theorem amC:tree (ah xq)=Qb J7:=cT NK
theorem OW:round 0 [2,8,9] [] [2,8] [] (J7 0)=Du J7:=bN NK 0 fun _=>rfl
def xR:Option PC:=cF [4,5] [] Tryz.f34 34 []
def Kq:Nat→PC:=cd xR
def aiP (b:Nat→PC):PC:=.block 0 [4,8,9] [] (.loop [4,8] [] (b 0))
def DS (b:Nat→PC):PT:=
 (.ite (ak r8 r7)
 (.blockS ⟨[],[]⟩ 1 [4,5,10,11,12,13,14,15,16] []
 (.chk (aB r0 r8)
 (.callc ⟨[(5,r8)],[]⟩ [] 16 r1 [(pn r0 r8)]
 (.ite dE
 (.ret r5)
 (.next ⟨[],[]⟩))))
 (.next ⟨[(8,ua)],[]⟩))
 (.exit 0 ⟨[(9,(ak r8 r7))],[]⟩))
def Q8 (b:Nat→PC):PT:=
 (.brk ⟨[(8,(pi 0)),(7,(.llen r0)),(4,(pi 0))],[]⟩
(aiP b)
 (.ret (pi (-1))))
def aei (b:Nat→PC):PT×List (Shp×PT):=(Q8 b,[(.lp 0 [4,8,9] [] [4,8] [],DS b)])
theorem N2:xR.map told=some (aei (bT xR)):=by kernel_rfl
theorem anC:tree (ah xR)=Q8 Kq:=cT N2
theorem Po:round 0 [4,8,9] [] [4,8] [] (Kq 0)=DS Kq:=bN N2 0 fun _=>rfl
def E9:Option PC:=cF [4] [] Tryz.f32 32 [3]
def P6:PT:=
 (.ret (.pick (ar pk (.deref r1)) (ar tX (.deref r2)) pF))
theorem WZ:E9.map told=some (P6,[]):=by kernel_rfl
theorem amw:tree (ah E9)=P6:=bA WZ
def Fa:Option PC:=cF [4] [] Tryz.f36 36 [3]
def P7:PT:=
 (.call ⟨[],[(3,(.mk [r0]))]⟩ [] 8 38 [tX,(.deref r1)]
 (.call ⟨[],[]⟩ [] 12 38 [(pc o3 0),(.deref r2)]
 (.call ⟨[],[]⟩ [] 14 37 [(.lst [r8,cN])]
 (.ret (bY cG (pi 0))))))
theorem W0:Fa.map told=some (P7,[]):=by kernel_rfl
theorem amx:tree (ah Fa)=P7:=bA W0
def E5:Option PC:=lN {ctx with fr:=[6],nh:=[]} Tryz.f83 ⟨[Y8,I,jt],.slice I,.dat⟩ [3,5,7,8,42,9]
def P3:PT:=
 (.chk (aB (pc (.mk [r2]) 15) (pc (.mk [r2]) 19))
 (.ite Yi
 (.ret pL)
 (.chk (.an (dD (pi 5) (pi 0)) (cS (pi 5) dx))
 (.chk (ar (pi 5) (pi 5))
 (.chk (aB (.rep (pi 5) (pi 0)) (pi 0))
 (.call ⟨[],[(9,(.setn (.rep (pi 5) (pi 0)) (pi 0) 0 r1)),(8,(.setc Jw 0 (aI 15 (.mk [r2])))),(7,zG),(3,(.mk [r0]))]⟩ [] 50 106 [mX,(pc zG 7)]
 (.chk (aB o9 (pi 1))
 (.call ⟨[],[(9,(.setn o9 (pi 1) 0 ly))]⟩ [] 56 106 [(aI 8 o3),(pc o8 10)]
 (.chk (aB o9 (pi 2))
 (.call ⟨[],[(9,(.setn o9 (pi 2) 0 mh))]⟩ [] 62 106 [(aI 8 o3),(pc o8 9)]
 (.chk (aB o9 (pi 3))
 (.chk (aB (pc o3 3) (pc o7 2))
 (.call ⟨[],[(9,(.setn o9 (pi 3) 0 py))]⟩ [] 73 106 [(aI 8 o3),(pc (pn (pc o3 3) (pc o7 2)) 1)]
 (.chk (aB o9 (pi 4))
 (.call ⟨[],[(9,(.setn o9 (pi 4) 0 Dn))]⟩ [] 76 105 [(.setn o9 (pi 4) 0 Dn),(pi (-1))]
 (.ite ui
 (.ret pL)
 (.ret o9)))))))))))))))))
theorem WV:E5.map told=some (P3,[]):=by kernel_rfl
theorem ams:tree (ah E5)=P3:=bA WV
def E6:Option PC:=lN {ctx with fr:=[6],nh:=[]} Tryz.f83 ⟨[Y8,I,jt],.nils .bool,.dat⟩ [3,5,7,8,42,9]
def Jk:PT:=
 (.chk (aB (pc (.mk [r2]) 15) (pc (.mk [r2]) 19))
 (.ite Yi
 (.ret pL)
 (.chk (.an (dD (pi 5) (pi 0)) (cS (pi 5) dx))
 (.chk (ar (pi 5) (pi 5))
 (.chk (aB (.rep (pi 5) (pi 0)) (pi 0))
 (.call ⟨[],[(9,(.setn (.rep (pi 5) (pi 0)) (pi 0) 0 r1)),(8,(.setc Jw 0 (aI 15 (.mk [r2])))),(7,zG),(3,(.mk [r0]))]⟩ [] 50 106 [mX,(pc zG 7)]
 (.chk (aB o9 (pi 1))
 (.call ⟨[],[(9,(.setn o9 (pi 1) 0 ly))]⟩ [] 56 106 [(aI 8 o3),(pc o8 10)]
 (.chk (aB o9 (pi 2))
 (.call ⟨[],[(9,(.setn o9 (pi 2) 0 mh))]⟩ [] 62 106 [(aI 8 o3),(pc o8 9)]
 (.chk (aB o9 (pi 3))
 (.chk (aB (pc o3 3) (pc o7 2))
 (.call ⟨[],[(9,(.setn o9 (pi 3) 0 py))]⟩ [] 73 106 [(aI 8 o3),(pc (pn (pc o3 3) (pc o7 2)) 1)]
 (.chk (aB o9 (pi 4))
 (.call ⟨[],[]⟩ [] 76 105 [(.setn o9 (pi 4) 0 Dn),(pi (-1))]
 (.ite ui
 (.ret pL)
 (.chk pF
 (.next ⟨[],[]⟩))))))))))))))))))
theorem WW:E6.map told=some (Jk,[]):=by kernel_rfl
theorem amt:tree (ah E6)=Jk:=bA WW
end Rm
