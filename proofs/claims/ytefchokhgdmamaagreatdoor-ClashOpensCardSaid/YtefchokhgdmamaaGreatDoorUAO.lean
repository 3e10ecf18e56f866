/-
  The functions of this seat, compiled (3).
-/
import Derived.Test.YtefchokhgdmamaaGreatDoorUAJ
import Derived.KernelRfl
set_option linter.unusedVariables false
set_option maxRecDepth 100000
noncomputable section
namespace Rm
open Go Go.Proofs Cx
def Ge:Option PC:=mF {ctx with fr:=[6],nh:=[]} Tryz.f83 ⟨[Y8,I,gH],.nils .bool,.dat⟩ [3,5,7,8,42,9]
def Kz:PT:=
 (.chk (aB (pc (.mk [r2]) 15) (pc (.mk [r2]) 19))
 (.ite aaC
 (.ret pL)
 (.chk (.an (cY (pi 5) (pi 0)) (cV (pi 5) dx))
 (.chk (aq (pi 5) (pi 5))
 (.chk (aB (.rep (pi 5) (pi 0)) (pi 0))
 (.call ⟨[],[(9,(.setn (.rep (pi 5) (pi 0)) (pi 0) 0 r1)),(8,(.setc KM 0 (aI 15 (.mk [r2])))),(7,AD),(3,(.mk [r0]))]⟩ [] 50 106 [nO,(pc AD 7)]
 (.chk (aB o9 (pi 1))
 (.call ⟨[],[(9,(.setn o9 (pi 1) 0 m5))]⟩ [] 56 106 [(aI 8 o3),(pc o8 10)]
 (.chk (aB o9 (pi 2))
 (.call ⟨[],[(9,(.setn o9 (pi 2) 0 nP))]⟩ [] 62 106 [(aI 8 o3),(pc o8 9)]
 (.chk (aB o9 (pi 3))
 (.chk (aB (pc o3 3) (pc o7 2))
 (.call ⟨[],[(9,(.setn o9 (pi 3) 0 qx))]⟩ [] 73 106 [(aI 8 o3),(pc (pn (pc o3 3) (pc o7 2)) 1)]
 (.chk (aB o9 (pi 4))
 (.call ⟨[],[]⟩ [] 76 105 [(.setn o9 (pi 4) 0 Ek),(pi (-1))]
 (.ite vg
 (.ret pL)
 (.chk pF
 (.next ⟨[],[]⟩))))))))))))))))))
theorem Zi:Ge.map told=some (Kz,[]):=by kernel_rfl
theorem apu:tree (ah Ge)=Kz:=bE Zi
end Rm
