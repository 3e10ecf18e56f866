/-
  The functions of this seat, compiled (3).
-/
import Derived.Test.YtepfoekldooaeaaGreatDoorKAK
import Derived.KernelRfl
set_option linter.unusedVariables false
set_option maxRecDepth 100000
namespace Rm
open Go Go.Proofs Cx
noncomputable def Ax:Option PC:=aw {ctx with fr:=[2,3],nh:=[]} Tryz.f116 ((aa ae 116).getD default) [1,4,5]
noncomputable def JK:PC:=av Ax
noncomputable def Nr:Nat→PC:=bx Ax
def avR (b:Nat→PC):PC:=.block 0 [2,9,10] [] (.loop [2,9] [] (b 0))
def LO (b:Nat→PC):PT:=
 (.ite (aq r9 r8)
 (.blockS ⟨[],[]⟩ 1 [2,3,4,11,12,13,14,15,16,17,18,27,28,33,34,35] [4]
 (.chk (aD r7 r9)
 (.call ⟨[(3,r9)],[(4,(.setc z3 0 (pn r7 r9)))]⟩ [] 16 114 [(pc (.setc z3 0 (pn r7 r9)) 0),(pi 0),(pi 4)]
 (.call ⟨[(18,(.nt cQ))],[]⟩ [(18,false)] 25 114 [(pc o4 1),(pi 0),(bJ (.llen (pc o1 15)) (pi 1))]
 (.call ⟨[(28,(.pick cT pT (.nt iL)))],[]⟩ [(28,false)] 31 114 [(pc o4 2),(pi 0),(pi 1)]
 (.ite (.pick tR pT (.nt oX))
 (.ret (pi 1))
 (.ite (ah r3 (pi 0))
 (.exit 1 ⟨[],[]⟩)
 (.chk (aD (pc o1 18) (bJ r3 (pi 1)))
 (.call ⟨[],[(5,(.setc z3 0 (pn (pc o1 18) (bJ r3 (pi 1)))))]⟩ [] 46 167 [(pc (.setc z3 0 (pn (pc o1 18) (bJ r3 (pi 1)))) 1),(pc o4 1)]
 (.call ⟨[],[]⟩ [] 51 167 [(pc o5 0),(pc o4 0)]
 (.call ⟨[],[]⟩ [] 53 166 [(.lst [Dm,oY])]
 (.ite (aY r53 (pi 0))
 (.ret (pi 5))
 (.next ⟨[],[]⟩))))))))))))
 (.next ⟨[(9,(aH r9 (pi 1)))],[]⟩))
 (.exit 0 ⟨[(10,(aq r9 r8))],[]⟩))
def Uy (b:Nat→PC):PT:=
 (.brk ⟨[(9,(pi 0)),(8,(.llen y0)),(7,y0),(2,(pi 0))],[(1,(.mk [r0]))]⟩
(avR b)
 (.ret (pi 0)))
def aqj (b:Nat→PC):PT×List (Shp×PT):=(Uy b,[(.lp 0 [2,9,10] [] [2,9] [],LO b)])
theorem Rb:Ax.map told=some (aqj (au Ax)):=by kernel_rfl
theorem aAQ:tree JK=Uy Nr:=ay Rb
theorem afL:round 0 [2,9,10] [] [2,9] [] (Nr 0)=LO Nr:=bt Rb 0 fun _=>rfl
theorem alV:Ax=some JK:=ax Rb
noncomputable def Fu:Option PC:=aw {ctx with fr:=[4,5,6],nh:=[]} Tryz.f167 ((aa ae 167).getD default) []
noncomputable def Jj:PC:=av Fu
def T8:PT:=
 (.call ⟨[],[]⟩ [] 8 193 [r0]
 (.call ⟨[(5,r8)],[]⟩ [] 10 193 [r1]
 (.ite r5
 (.ite cP
 (.ret (pi 0))
 (.ret (pi (-1))))
 (.ite cP
 (.ret (pi 1))
 (.ite (aq r0 r1)
 (.ret (pi (-1)))
 (.ite (bj r0 r1)
 (.ret (pi 1))
 (.ret (pi 0))))))))
def apS (b:Nat→PC):PT×List (Shp×PT):=(T8,[])
theorem adx:Fu.map told=some (apS (au Fu)):=by kernel_rfl
theorem aAp:tree Jj=T8:=ay adx
theorem alu:Fu=some Jj:=ax adx
noncomputable def Fv:Option PC:=aw {ctx with fr:=[2],nh:=[]} Tryz.f193 ((aa ae 193).getD default) []
noncomputable def Jl:PC:=av Fv
def Ua:PT:=
 (.ret (aL r0 r0))
def apU (b:Nat→PC):PT×List (Shp×PT):=(Ua,[])
theorem ady:Fv.map told=some (apU (au Fv)):=by kernel_rfl
theorem aAr:tree Jl=Ua:=ay ady
theorem alw:Fv=some Jl:=ax ady
noncomputable def Aq:Option PC:=aw {ctx with fr:=[2,3,5],nh:=[]} Tryz.f166 ((aa ae 166).getD default) []
noncomputable def Jk:PC:=av Aq
noncomputable def Nl:Nat→PC:=bx Aq
def avJ (b:Nat→PC):PC:=.block 0 [2,8,9] [] (.loop [2,8] [] (b 0))
def Dv (b:Nat→PC):PT:=
 (.ite (aq r8 r7)
 (.chk (aD r6 r8)
 (.ite (aL (pn r6 r8) r3)
 (.ret (pn r6 r8))
 (.next ⟨[(8,tQ)],[]⟩)))
 (.exit 0 ⟨[(9,(aq r8 r7))],[]⟩))
def T9 (b:Nat→PC):PT:=
 (.brk ⟨[(8,(pi 0)),(7,(.llen r0)),(6,r0),(3,(pi 0)),(2,(pi 0))],[]⟩
(avJ b)
 (.ret r3))
def apT (b:Nat→PC):PT×List (Shp×PT):=(T9 b,[(.lp 0 [2,8,9] [] [2,8] [],Dv b)])
theorem Q5:Aq.map told=some (apT (au Aq)):=by kernel_rfl
theorem aAq:tree Jk=T9 Nl:=ay Q5
theorem So:round 0 [2,8,9] [] [2,8] [] (Nl 0)=Dv Nl:=bt Q5 0 fun _=>rfl
theorem alv:Aq=some Jk:=ax Q5
noncomputable def FA:Option PC:=aw {ctx with fr:=[10,11,14,15,16,17,18],nh:=[]} Tryz.f11 ((aa ae 11).getD default) [5,7,12,13]
noncomputable def Jt:PC:=av FA
def Uh:PT:=
 (.call ⟨[],[(7,(.mk [r2])),(5,(.mk [r0]))]⟩ [] 19 37 []
 (.call ⟨[(11,iK)],[]⟩ [] 22 38 [(ao 8 o5),(ao 19 o7)]
 (.ite (.nt y8)
 (.ret bp)
 (.call ⟨[],[]⟩ [] 30 39 [(ao 8 o5),r1,(ao 19 o7),r3,r4]
 (.call ⟨[],[(12,(.setc z7 0 mS))]⟩ [] 37 40 [(ao 8 o5),r1,(ao 19 o7),r3,r4]
 (.ite (.nt (.tget kQ 1))
 (.ret (.pick bp (.an (ah (pc (ao 7 gj) 0) (pi 0)) (.an (ah (pc (ao 7 gj) 1) (pi 0)) (.an (ah (pc (ao 7 gj) 2) (pi 0)) (.an (ah (pc (ao 7 gj) 3) (pi 0)) (.an (ah (pc (ao 7 gj) 4) (pi 0)) (.an (ah (pc (ao 7 gj) 5) (pi 0)) (.an (ah (pc (ao 7 gj) 6) (pi 0)) pT))))))) pF))
 (.call ⟨[],[(13,(.setc Df 0 (.tget kQ 0)))]⟩ [] 52 32 [(ao 8 o5),r1,(ao 19 o7),r4]
 (.ite (.pick (.pick (.pick (.pick (.pick (aL (pc gj 0) (pc Ir 5)) pT (aL (pc gj 5) (.mn lG (aH (aH (aH (pc gj 0) (pc gj 1)) (pc gj 2)) (pc gj 3))))) pT (aL (pc gj 6) (pc o7 4))) pT (aq (pc gj 1) (pi 0))) pT (aq (pc gj 2) (pi 0))) pT (aq (pc gj 3) (pi 0)))
 (.ret pF)
 (.ite (.pick (ah zb (pi (-1))) pT (bj zb (.mn r4 (pi 100000))))
 (.ret (.pick (.pick bp (ah (pc gj 1) (pi 0)) pF) (ah (pc gj 3) (pi 0)) pF))
 (.ite (ah (pc o7 12) (pi 0))
 (.ret bp)
 (.call ⟨[],[]⟩ [] 131 41 [(pc gj 0),(pc o7 12),zb,(.mn r4 (pi 100000)),(pi 360)]
 (.ite (aL (.tget (.r 131) 1) (pi 0))
 (.ret (.pick (.pick bp (ah (.tget (.r 131) 1) (pi 3)) pF) (ah (pc gj 1) lG) pF))
 (.ret (.pick bp (ah (pc gj 1) (.tget (.r 131) 0)) pF))))))))))))))
def ap2 (b:Nat→PC):PT×List (Shp×PT):=(Uh,[])
theorem adD:FA.map told=some (ap2 (au FA)):=by kernel_rfl
theorem aAz:tree Jt=Uh:=ay adD
theorem alE:FA=some Jt:=ax adD
noncomputable def Fy:Option PC:=aw {ctx with fr:=[12,13,18],nh:=[]} Tryz.f12 ((aa ae 12).getD default) [6,8,11,14,73742,26,31,15,16]
noncomputable def Jq:PC:=av Fy
def Ue:PT:=
 (.call ⟨[],[(11,(.mk [r5])),(8,(.mk [r2])),(6,(.mk [r0]))]⟩ [] 19 37 []
 (.call ⟨[(13,iK)],[]⟩ [] 22 38 [(ao 8 o6),(ao 19 o8)]
 (.ite (.nt y8)
 (.ret cB)
 (.chk (bz (.llen (.app (.lst []) (pc o8 17))) cO)
 (.chk (bz (.llen R3) cO)
 (.call ⟨[],[(73742,R3),(14,iJ)]⟩ [] 36 38 [(ao 8 o6),(.mk [(pc iJ 0),(pc iJ 1),(pc iJ 2),(pc iJ 3),(pc iJ 4),(pc iJ 5),(pc iJ 6),(pc iJ 7),(pc iJ 8),(pc iJ 9),(pc iJ 10),(pc iJ 11),(pc iJ 12),(pc iJ 13),(pc iJ 14),(pc iJ 15),(pc iJ 16),R3,(pc iJ 18)])]
 (.ite (.pick (.nt gW) pT (bj (pc qo 6) r4))
 (.ret cB)
 (.call ⟨[],[]⟩ [] 50 39 [(ao 8 o6),r1,(ao 19 o8),r3,r4]
 (.call ⟨[],[(15,(.setc z7 0 lJ))]⟩ [] 56 39 [(ao 8 o6),r1,(.mk [(pc bH 0),(pc bH 1),(pc bH 2),(pc bH 3),(pc bH 4),(pc bH 5),(pc bH 6),(pc bH 7),(pc bH 8),(pc bH 9),(pc bH 10),(pc bH 11),(pc bH 12),(pc bH 13),(pc bH 14),(pc bH 15),(pc bH 16),(.o 73742),(pc bH 18)]),r3,r4]
 (.call ⟨[],[(16,(.setc z7 0 oZ))]⟩ [] 63 40 [(ao 8 o6),r1,(ao 19 o8),r3,r4]
 (.ite (.nt (.tget LF 1))
 (.ret (.pick (.pick cB (.an (ah (pc (ao 7 nC) 0) (pi 0)) (.an (ah (pc (ao 7 nC) 1) (pi 0)) (.an (ah (pc (ao 7 nC) 2) (pi 0)) (.an (ah (pc (ao 7 nC) 3) (pi 0)) (.an (ah (pc (ao 7 nC) 4) (pi 0)) (.an (ah (pc (ao 7 nC) 5) (pi 0)) (.an (ah (pc (ao 7 nC) 6) (pi 0)) pT))))))) pF) (.an (ah (pc (ao 7 fS) 0) (pi 0)) (.an (ah (pc (ao 7 fS) 1) (pi 0)) (.an (ah (pc (ao 7 fS) 2) (pi 0)) (.an (ah (pc (ao 7 fS) 3) (pi 0)) (.an (ah (pc (ao 7 fS) 4) (pi 0)) (.an (ah (pc (ao 7 fS) 5) (pi 0)) (.an (ah (pc (ao 7 fS) 6) (pi 0)) pT))))))) pF))
 (.ite (.pick (ah (pc qo 0) (pi 4)) pT (ah (pc qo 0) (pi 5)))
 (.ret (.pick (.pick (.pick (.pick cB (ah (pc fS 2) (.mn lG (aH (pc nC 2) (pc qo 5)))) pF) (ah (pc nC 0) (pc fS 0)) pF) (ah (pc nC 1) (pc fS 1)) pF) (ah (pc nC 3) (pc fS 3)) pF))
 (.ret (.pick cB (ah (pc fS 2) (pc nC 2)) pF))))))))))))))
def apZ (b:Nat→PC):PT×List (Shp×PT):=(Ue,[])
theorem adB:Fy.map told=some (apZ (au Fy)):=by kernel_rfl
theorem aAw:tree Jq=Ue:=ay adB
theorem alB:Fy=some Jq:=ax adB
noncomputable def Fz:Option PC:=aw {ctx with fr:=[12,13],nh:=[]} Tryz.f13 ((aa ae 13).getD default) [6,8,14,15,16,17]
noncomputable def Jr:PC:=av Fz
def Uf:PT:=
 (.call ⟨[],[(8,(.mk [r2])),(6,(.mk [r0]))]⟩ [] 18 37 []
 (.call ⟨[(13,cT)],[]⟩ [] 21 38 [(ao 8 o6),(ao 19 o8)]
 (.ite (.pick (.pick (.pick (.pick (.nt jU) pT (aq r4 (pi 0))) pT (bj r4 (pi 200000))) pT (aq r5 (pi 0))) pT (bj r5 (pi 100000)))
 (.ret cB)
 (.call ⟨[],[]⟩ [] 42 20 [(ao 19 o8),r4]
 (.call ⟨[],[(14,(.setc jt 0 Sc))]⟩ [] 47 20 [(ao 19 o8),(aH r4 r5)]
 (.ite (.pick (.pick (aL (.llen (pc bH 15)) (.llen (pc (.setc jt 0 za) 15))) pT (aL (.llen (pc bH 17)) (.llen (pc (.setc jt 0 za) 17)))) pT (aL (.llen (pc bH 16)) (.llen (pc (.setc jt 0 za) 16))))
 (.ret cB)
 (.call ⟨[],[]⟩ [] 79 39 [(ao 8 o6),r1,(ao 19 o8),r3,r4]
 (.call ⟨[],[(16,(.setc z7 0 r79))]⟩ [] 87 39 [(ao 8 o6),r1,(ao 19 o8),r3,(aH r4 r5)]
 (.ret (.pick (.pick (.pick (.pick cB (ah (pc fS 0) (pc (.setc z7 0 ze) 0)) pF) (ah (pc fS 2) (pc (.setc z7 0 ze) 2)) pF) (bz (pc fS 1) (pc (.setc z7 0 ze) 1)) pF) (ah (pc fS 6) (pc (.setc z7 0 ze) 6)) pF))))))))))
def ap0 (b:Nat→PC):PT×List (Shp×PT):=(Uf,[])
theorem adC:Fz.map told=some (ap0 (au Fz)):=by kernel_rfl
theorem aAx:tree Jr=Uf:=ay adC
theorem alC:Fz=some Jr:=ax adC
noncomputable def Fa:Option PC:=aw {ctx with fr:=[6],nh:=[]} Tryz.f132 ⟨[Y8,I,pA],.slice I,.dat⟩ [3,5,7,8,42,9]
noncomputable def RF:PC:=av Fa
def TP:PT:=
 (.chk (aD (pc (.mk [r2]) 15) (pc (.mk [r2]) 19))
 (.ite ae5
 (.ret pL)
 (.chk (.an (aY (pi 5) (pi 0)) (bz (pi 5) cO))
 (.chk (ah (pi 5) (pi 5))
 (.chk (aD (.rep (pi 5) (pi 0)) (pi 0))
 (.call ⟨[],[(9,(.setn (.rep (pi 5) (pi 0)) (pi 0) 0 r1)),(8,(.setc MS 0 (ao 15 (.mk [r2])))),(7,y5),(3,(.mk [r0]))]⟩ [] 50 170 [ko,(pc y5 7)]
 (.chk (aD o9 (pi 1))
 (.call ⟨[],[(9,(.setn o9 (pi 1) 0 lJ))]⟩ [] 56 170 [(ao 8 o3),(pc o8 10)]
 (.chk (aD o9 (pi 2))
 (.call ⟨[],[(9,(.setn o9 (pi 2) 0 oZ))]⟩ [] 62 170 [(ao 8 o3),(pc o8 9)]
 (.chk (aD o9 (pi 3))
 (.chk (aD (pc o3 3) (pc o7 2))
 (.call ⟨[],[(9,(.setn o9 (pi 3) 0 pf))]⟩ [] 73 170 [(ao 8 o3),(pc (pn (pc o3 3) (pc o7 2)) 1)]
 (.chk (aD o9 (pi 4))
 (.call ⟨[],[(9,(.setn o9 (pi 4) 0 Dn))]⟩ [] 76 45 [(.setn o9 (pi 4) 0 Dn),(pi (-1))]
 (.ite rU
 (.ret pL)
 (.ret o9)))))))))))))))))
def apw (b:Nat→PC):PT×List (Shp×PT):=(TP,[])
theorem adg:Fa.map told=some (apw (au Fa)):=by kernel_rfl
theorem az6:tree RF=TP:=ay adg
theorem ak6:Fa=some RF:=ax adg
noncomputable def Fb:Option PC:=aw {ctx with fr:=[6],nh:=[]} Tryz.f132 ⟨[Y8,I,pA],.nils .bool,.dat⟩ [3,5,7,8,42,9]
noncomputable def RG:PC:=av Fb
def Mx:PT:=
 (.chk (aD (pc (.mk [r2]) 15) (pc (.mk [r2]) 19))
 (.ite ae5
 (.ret pL)
 (.chk (.an (aY (pi 5) (pi 0)) (bz (pi 5) cO))
 (.chk (ah (pi 5) (pi 5))
 (.chk (aD (.rep (pi 5) (pi 0)) (pi 0))
 (.call ⟨[],[(9,(.setn (.rep (pi 5) (pi 0)) (pi 0) 0 r1)),(8,(.setc MS 0 (ao 15 (.mk [r2])))),(7,y5),(3,(.mk [r0]))]⟩ [] 50 170 [ko,(pc y5 7)]
 (.chk (aD o9 (pi 1))
 (.call ⟨[],[(9,(.setn o9 (pi 1) 0 lJ))]⟩ [] 56 170 [(ao 8 o3),(pc o8 10)]
 (.chk (aD o9 (pi 2))
 (.call ⟨[],[(9,(.setn o9 (pi 2) 0 oZ))]⟩ [] 62 170 [(ao 8 o3),(pc o8 9)]
 (.chk (aD o9 (pi 3))
 (.chk (aD (pc o3 3) (pc o7 2))
 (.call ⟨[],[(9,(.setn o9 (pi 3) 0 pf))]⟩ [] 73 170 [(ao 8 o3),(pc (pn (pc o3 3) (pc o7 2)) 1)]
 (.chk (aD o9 (pi 4))
 (.call ⟨[],[]⟩ [] 76 45 [(.setn o9 (pi 4) 0 Dn),(pi (-1))]
 (.ite rU
 (.ret pL)
 (.chk pF
 (.next ⟨[],[]⟩))))))))))))))))))
def apx (b:Nat→PC):PT×List (Shp×PT):=(Mx,[])
theorem adh:Fb.map told=some (apx (au Fb)):=by kernel_rfl
theorem az7:tree RG=Mx:=ay adh
theorem ak7:Fb=some RG:=ax adh
end Rm
