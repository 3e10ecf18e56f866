/-
  The functions of this seat, compiled (3).
-/
import Derived.Test.YtodhjdbleiakeaaGreatDoorKAK
import Derived.KernelRfl
set_option linter.unusedVariables false
set_option maxRecDepth 100000
namespace Rm
open Go Go.Proofs Cx
noncomputable def Fm:Option PC:=az {ctx with fr:=[2],nh:=[]} Tryz.f179 ((ab af 179).getD default) [1]
noncomputable def JO:PC:=ay Fm
def Ux:PT:=
 (.ret (.pick (aq jS (pi 0)) pT (aq jS (pi 1))))
def apC (b:Nat→PC):PT×List (Shp×PT):=(Ux,[])
theorem acY:Fm.map told=some (apC (ax Fm)):=by kernel_rfl
theorem aAl:tree JO=Ux:=aC acY
theorem ak8:Fm=some JO:=aB acY
noncomputable def Fp:Option PC:=az {ctx with fr:=[6,7,13,16,24,33,8,9],nh:=[]} Tryz.f180 ((ab af 180).getD default) [3,4]
noncomputable def JQ:PC:=ay Fp
def mj:PT:=
 (.blockS ⟨[(12,(pc (.mk [r1]) 5))],[(4,(.mk [r1])),(3,(.mk [r0]))]⟩ 0 [6,7,13,14,16,17,24,25,33,34] []
 (.iteS ⟨[],[]⟩ (aq bM (pi 0)) [6,7,16,17,24,25,33,34] []
 (.ret (.tup [r2,(pi 0)]))
 (.iteS ⟨[],[]⟩ (aq bM (pi 1)) [6,7,24,25,33,34] []
 (.call ⟨[],[]⟩ [] 21 223 [r2,(.mk [(pc o4 5),(pc o4 6),(pc o4 7)])]
 (.ret (.tup [(.tget jU 0),(.tget jU 1)])))
 (.iteS ⟨[],[]⟩ (aq bM (pi 2)) [6,7,33,34] []
 (.call ⟨[],[]⟩ [] 30 223 [(pc o4 8),(.mk [(pc o4 5),(pc o4 6),(pc o4 7)])]
 (.ret (.tup [(.tget ma 0),(.tget ma 1)])))
 (.iteS ⟨[],[]⟩ (aq bM (pi 4)) [6,7] []
 (.call ⟨[],[]⟩ [] 41 185 [(ar 8 o3),(pc o4 9),(pc o4 10)]
 (.ret (.tup [(aN (pc o4 8) (.tget ot 0)),(.tget ot 1)])))
 (.next ⟨[],[]⟩)
 (.next ⟨[],[]⟩))
 (.next ⟨[],[]⟩))
 (.next ⟨[],[]⟩))
 (.next ⟨[],[]⟩))
 (.ret (.tup [(pc o4 6),(pi 0)])))
def apE (b:Nat→PC):PT×List (Shp×PT):=(mj,[])
theorem ac0:Fp.map told=some (apE (ax Fp)):=by kernel_rfl
theorem vq:tree JQ=mj:=aC ac0
theorem ala:Fp=some JQ:=aB ac0
noncomputable def Fo:Option PC:=az {ctx with fr:=[4,5],nh:=[]} Tryz.f223 ((ab af 223).getD default) [3]
noncomputable def JP:PC:=ay Fo
def yo:PT:=
 (.ite (.pick (aj (pc (.mk [r1]) 1) (pi 0)) pT (aV (pc (.mk [r1]) 1) (pi 20000)))
 (.ret (.tup [(pi 0),(pi 3)]))
 (.iteS ⟨[],[(3,(.mk [r1]))]⟩ (aq (pc (.mk [r1]) 2) (pi 1)) [4,5] []
 (.call ⟨[],[]⟩ [] 20 267 [r0,(pc o3 1)]
 (.ret (.tup [(.tget dL 0),(.tget dL 1)])))
 (.next ⟨[],[]⟩)
 (.ret (.tup [(aN r0 (pc o3 1)),(pi 0)]))))
def apD (b:Nat→PC):PT×List (Shp×PT):=(yo,[])
theorem acZ:Fo.map told=some (apD (ax Fo)):=by kernel_rfl
theorem Lz:tree JP=yo:=aC acZ
theorem ak9:Fo=some JP:=aB acZ
noncomputable def Ek:Option PC:=az {ctx with fr:=[4,5,6,7,8,9],nh:=[]} Tryz.f267 ((ab af 267).getD default) []
noncomputable def HW:PC:=ay Ek
def Lq:PT:=
 (.call ⟨[],[]⟩ [] 11 120 [r0]
 (.ite (.pick (.pick (.nt bI) pT (aj r1 (pi (-5000)))) pT (aV r1 (pi 5000)))
 (.ret (.tup [(pi 0),(pi 3)]))
 (.call ⟨[],[]⟩ [] 23 201 [r0]
 (.chk (aU (pi 12) (pi 0))
 (.call ⟨[(41,(.tget iU 2)),(40,(aN (.ai .rem .i64 Kp (pi 12)) (pi 1))),(39,(.ai .quo .i64 Kp (pi 12)))],[]⟩ [] 44 288 [(.ai .quo .i64 Kp (pi 12)),(aN (.ai .rem .i64 Kp (pi 12)) (pi 1))]
 (.call ⟨[],[]⟩ [] 46 287 [uY,oq,(.mn ot uZ)]
 (.ret (.tup [(.tget Cl 0),(.tget Cl 1)]))))))))
def anP (b:Nat→PC):PT×List (Shp×PT):=(Lq,[])
theorem abW:Ek.map told=some (anP (ax Ek)):=by kernel_rfl
theorem afn:tree HW=Lq:=aC abW
theorem ajm:Ek=some HW:=aB abW
noncomputable def Es:Option PC:=az {ctx with fr:=[2],nh:=[]} Tryz.f120 ((ab af 120).getD default) []
noncomputable def H6:PC:=ay Es
def SU:PT:=
 (.ret (.pick (br (pi 0) r0) (br r0 (pi 100000)) pF))
def anZ (b:Nat→PC):PT×List (Shp×PT):=(SU,[])
theorem ab3:Es.map told=some (anZ (ax Es)):=by kernel_rfl
theorem ayM:tree H6=SU:=aC ab3
theorem ajw:Es=some H6:=aB ab3
noncomputable def Em:Option PC:=az {ctx with fr:=[2,3,4,5,6,7,8,9],nh:=[]} Tryz.f201 ((ab af 201).getD default) []
noncomputable def H0:PC:=ay Em
def SP:PT:=
 (.chk (aU (pi 146097) (pi 0))
 (.chk (aU (pi 1460) (pi 0))
 (.chk (aU (pi 36524) (pi 0))
 (.chk (aU (pi 146096) (pi 0))
 (.chk (aU (pi 365) (pi 0))
 (.chk (aU (pi 4) (pi 0))
 (.chk xL
 (.chk (aU (pi 153) (pi 0))
 (.chk (aU (pi 5) (pi 0))
 (.ret (.tup [(.pick (aj adY (pi 3)) (aN ad1 (pi 1)) ad1),adY,(aN (bz (bz (.ai .rem .i64 (aN r0 (pi 730425)) (pi 146097)) (bz (aN (.ai .mul .i64 (pi 365) uR) (.ai .quo .i64 uR (pi 4))) (.ai .quo .i64 uR (pi 100)))) (.ai .quo .i64 (aN (.ai .mul .i64 (pi 153) Ks) (pi 2)) (pi 5))) (pi 1))])))))))))))
def anT (b:Nat→PC):PT×List (Shp×PT):=(SP,[])
theorem abY:Em.map told=some (anT (ax Em)):=by kernel_rfl
theorem ayH:tree H0=SP:=aC abY
theorem ajq:Em=some H0:=aB abY
noncomputable def Eo:Option PC:=az {ctx with fr:=[4],nh:=[]} Tryz.f288 ((ab af 288).getD default) []
noncomputable def H3:PC:=ay Eo
def Ls:PT:=
 (.ite (aq r1 (pi 12))
 (.ret (pi 31))
 (.call ⟨[],[]⟩ [] 10 299 [r0,(aN r1 (pi 1)),(pi 1)]
 (.call ⟨[],[]⟩ [] 13 299 [r0,r1,(pi 1)]
 (.ret (bz cE dz)))))
def anW (b:Nat→PC):PT×List (Shp×PT):=(Ls,[])
theorem ab0:Eo.map told=some (anW (ax Eo)):=by kernel_rfl
theorem ayK:tree H3=Ls:=aC ab0
theorem ajt:Eo=some H3:=aB ab0
noncomputable def Ep:Option PC:=az {ctx with fr:=[6,0,1],nh:=[]} Tryz.f299 ((ab af 299).getD default) []
noncomputable def H4:PC:=ay Ep
def Lt:PT:=
 (.chk (aU (pi 4) (pi 0))
 (.chk xL
 (.chk (aU (pi 400) (pi 0))
 (.chk (aU (pi 5) (pi 0))
 (.ret (bz (bz (aN (aN (aN (bz (aN (.ai .mul .i64 (pi 365) Kr) (.ai .quo .i64 Kr (pi 4))) (.ai .quo .i64 Kr (pi 100))) (.ai .quo .i64 Kr (pi 400))) (.ai .quo .i64 (aN (.ai .mul .i64 (pi 153) (bz (.pick (aj r1 (pi 3)) (aN r1 (pi 12)) r1) (pi 3))) (pi 2)) (pi 5))) r2) (pi 1)) (pi 730425)))))))
def anX (b:Nat→PC):PT×List (Shp×PT):=(Lt,[])
theorem ab1:Ep.map told=some (anX (ax Ep)):=by kernel_rfl
theorem afo:tree H4=Lt:=aC ab1
theorem aju:Ep=some H4:=aB ab1
noncomputable def El:Option PC:=az {ctx with fr:=[6,7,8],nh:=[]} Tryz.f287 ((ab af 287).getD default) []
noncomputable def HX:PC:=ay El
def yn:PT:=
 (.call ⟨[(28,r2),(27,(.pick (.pick (.pick (.pick (aj r0 (pi 2000)) pT (aV r0 (pi 2300))) pT (aj r1 (pi 1))) pT (aV r1 (pi 12))) pT (aj r2 (pi 1))))],[]⟩ [(27,false)] 31 288 [r0,r1]
 (.ite (.pick ed pT (aV gE oo))
 (.ret (.tup [(pi 0),(pi 3)]))
 (.call ⟨[],[]⟩ [] 37 299 [r0,r1,r2]
 (.call ⟨[(8,kX)],[]⟩ [] 39 120 [kX]
 (.ite (.nt uY)
 (.ret (.tup [(pi 0),(pi 3)]))
 (.ret (.tup [r8,(pi 0)])))))))
def anQ (b:Nat→PC):PT×List (Shp×PT):=(yn,[])
theorem abX:El.map told=some (anQ (ax El)):=by kernel_rfl
theorem Lr:tree HX=yn:=aC abX
theorem ajn:El=some HX:=aB abX
noncomputable def zF:Option PC:=az {ctx with fr:=[6,7],nh:=[]} Tryz.f185 ((ab af 185).getD default) [3,9]
noncomputable def Jk:PC:=ay zF
noncomputable def Mi:Nat→PC:=bn zF
def aul (b:Nat→PC):PC:=.block 0 [6,7,13,14] [] (.loop [6,7,13] [] (b 0))
def sy (b:Nat→PC):PT:=
 (.ite (aj dz bM)
 (.chk (au bI dz)
 (.ite (.pick (aq (pc (.setc z3 0 pG) 0) r1) (aq (pc (.setc z3 0 pG) 1) r2) pF)
 (.ret (.tup [(pc (.setc z3 0 pG) 2),(pi 0)]))
 (.next ⟨[(13,(aN dz (pi 1)))],[]⟩)))
 (.exit 0 ⟨[(14,(aj dz bM))],[]⟩))
def Ly (b:Nat→PC):PT:=
 (.brk ⟨[(13,(pi 0)),(12,(.llen uT)),(11,uT),(7,(pi 0)),(6,(pi 0))],[]⟩
(aul b)
 (.ret (.tup [(pi 0),(pi 4)])))
def ao7 (b:Nat→PC):PT×List (Shp×PT):=(Ly b,[(.lp 0 [6,7,13,14] [] [6,7,13] [],sy b)])
theorem Qi:zF.map told=some (ao7 (ax zF)):=by kernel_rfl
theorem afq:tree Jk=Ly Mi:=aC Qi
theorem xV:round 0 [6,7,13,14] [] [6,7,13] [] (Mi 0)=sy Mi:=be Qi 0 fun _=>rfl
theorem akE:zF=some Jk:=aB Qi
noncomputable def zZ:Option PC:=az {ctx with fr:=[6,7,8,2,9,10],nh:=[]} Tryz.f181 ((ab af 181).getD default) [3]
noncomputable def JT:PC:=ay zZ
noncomputable def Mu:Nat→PC:=bn zZ
def auO (b:Nat→PC):PC:=.block 0 [] [] (.loop [2,6,7] [] (b 0))
def R0 (b:Nat→PC):PT:=
 (.blockS ⟨[],[]⟩ 1 [2,6,7,9,10,14,15,16,17,18,19,20,21,22,23,24,25,26,27,28,29,30,31,32,34] []
 (.call ⟨[],[]⟩ [] 17 224 [(ar 8 o3),r8,r2]
 (.chk (au (pc o3 1) r1)
 (.call ⟨[(2,iT)],[]⟩ [] 25 225 [(pn (pc o3 1) r1),iT]
 (.ite (aU (.tget iV 1) (pi 0))
 (.ret (.tup [(pi 0),(pi 3)]))
 (.ite (aq (.tget iV 0) r2)
 (.ret (.tup [r2,(pi 0)]))
 (.next ⟨[(2,(.tget iV 0))],[]⟩))))))
 (.next ⟨[],[]⟩))
def UA (b:Nat→PC):PT:=
 (.call ⟨[(7,(pi 0)),(6,(pi 0))],[(3,(.mk [r0]))]⟩ [] 13 32 [hH,r1]
 (.brk ⟨[(8,dz)],[]⟩
(auO b)
 (.next ⟨[],[]⟩)))
def apH (b:Nat→PC):PT×List (Shp×PT):=(UA b,[(.lp 0 [] [] [2,6,7] [],R0 b)])
theorem Qu:zZ.map told=some (apH (ax zZ)):=by kernel_rfl
theorem aAo:tree JT=UA Mu:=aC Qu
theorem axm:round 0 [] [] [2,6,7] [] (Mu 0)=R0 Mu:=be Qu 0 fun _=>rfl
theorem ald:zZ=some JT:=aB Qu
noncomputable def z7:Option PC:=az {ctx with fr:=[6,7,2],nh:=[]} Tryz.f224 ((ab af 224).getD default) [3,9]
noncomputable def JU:PC:=ay z7
noncomputable def y4:Nat→PC:=bn z7
def auP (b:Nat→PC):PC:=.block 2 [2,7,14,15] [] (.loop [2,7,14] [] (b 0))
def auQ (b:Nat→PC):PC:=.block 0 [2,7,10] [] (.loop [2,7] [] (b 1))
def xY (b:Nat→PC):PT:=
 (.ite qP
 (.chk (au bM cL)
 (.next ⟨[(2,(.pick ad0 (aN (pc xI 2) (pi 1)) r2)),(7,(.pick ad0 pT r7)),(14,(aN cL (pi 1)))],[]⟩))
 (.exit 2 ⟨[(15,qP)],[]⟩))
def KW (b:Nat→PC):PT:=
 (.ite r7
 (.blockS ⟨[(10,r7)],[]⟩ 1 [2,7,11,12,13,14,15] []
 (.brk ⟨[(14,(pi 0)),(13,(.llen (pc o3 7))),(12,(pc o3 7)),(7,pF)],[]⟩
(auP b)
 (.next ⟨[],[]⟩))
 (.next ⟨[],[]⟩))
 (.exit 0 ⟨[(10,r7)],[]⟩))
def UB (b:Nat→PC):PT:=
 (.brk ⟨[(7,pT)],[(3,(.mk [r0]))]⟩
(auQ b)
 (.ret r2))
def apI (b:Nat→PC):PT×List (Shp×PT):=(UB b,[(.lp 2 [2,7,14,15] [] [2,7,14] [],xY b),(.lp 0 [2,7,10] [] [2,7] [],KW b)])
theorem HH:z7.map told=some (apI (ax z7)):=by kernel_rfl
theorem aAp:tree JU=UB y4:=aC HH
theorem KV:round 2 [2,7,14,15] [] [2,7,14] [] (y4 0)=xY y4:=be HH 0 fun _=>rfl
theorem aex:round 0 [2,7,10] [] [2,7] [] (y4 1)=KW y4:=be HH 1 fun _=>rfl
theorem ale:z7=some JU:=aB HH
noncomputable def zb:Option PC:=az {ctx with fr:=[6],nh:=[]} Tryz.f225 ((ab af 225).getD default) [2,4,5]
noncomputable def HY:PC:=ay zb
noncomputable def LX:Nat→PC:=bn zb
def am1 (b:Nat→PC):PC:=.each gm [16] [4,5] (some (.tup [(pc o4 0),(pc o5 0)])) (b 0)
def Re (b:Nat→PC):PT:=
 (.exit 1000000007 ⟨[],[(4,(.setc o4 0 dc)),(5,(.setc o5 0 (pi 0)))]⟩)
def SN (b:Nat→PC):PT:=
 (.call ⟨[],[(5,Ci),(4,Ci),(2,(.mk [r0]))]⟩ [] 8 120 [r1]
 (.ite (.nt r8)
 (.ret (.tup [(pc (.setc o4 0 (pi 0)) 0),(pc (.setc o5 0 (pi 3)) 0)]))
 (.call ⟨[],[]⟩ [] 15 268 [(ar 6 o2),r1,(.mn (aN r1 (pi 400)) (pi 100000))]
 (.blockS ⟨[],[]⟩ 0 [] [4,5]
 (.callc ⟨[],[]⟩ [] 18 fP []
 (.brk ⟨[],[]⟩
(am1 b)
 (.next ⟨[],[]⟩)))
 (.ret (.tup [(pc (.setc o4 0 (pi 0)) 0),(pc (.setc o5 0 (pi 3)) 0)]))))))
def anR (b:Nat→PC):PT×List (Shp×PT):=(SN b,[(.ea [4,5],Re b)])
theorem PY:zb.map told=some (anR (ax zb)):=by kernel_rfl
theorem ayF:tree HY=SN LX:=aC PY
theorem axh:oz [4,5] (LX 0)=Re LX:=SC PY 0 fun _=>rfl
theorem ajo:zb=some HY:=aB PY
noncomputable def En:Option PC:=az {ctx with fr:=[6],nh:=[]} Tryz.f268 ((ab af 268).getD default) [3,4,5]
noncomputable def H2:PC:=ay En
def SQ:PT:=
 (.ret (.clo 289 [(.ref (pc (.mk [r1]) 0)),(.ref (pc (.mk [r2]) 0)),(.ref (ar 6 (.mk [r0])))]))
def anU (b:Nat→PC):PT×List (Shp×PT):=(SQ,[])
theorem abZ:En.map told=some (anU (ax En)):=by kernel_rfl
theorem ayJ:tree H2=SQ:=aC abZ
theorem ajs:En=some H2:=aB abZ
noncomputable def vP:Option PC:=Ac {ctx with fr:=[5],nh:=[]} Tryz.f289 [(.ref I),(.ref I),(.ref Y0)] [I] 1000 [1000]
noncomputable def B6:PC:=ay vP
noncomputable def LZ:Nat→PC:=bn vP
def atE (b:Nat→PC):PC:=.block 0 [5,7,8,9] [1000] (.loop [5] [1000] (b 0))
def KD (b:Nat→PC):PT:=
 (.ite (br r5 (.deref r2))
 (.blockS ⟨[],[]⟩ 1 [12,13,14,15,20] [1000]
 (.call ⟨[],[]⟩ [] 14 121 [(.deref r3),r5]
 (.call ⟨[(15,cL)],[(1000,adX)]⟩ [(15,true)] 18 1000000009 [adX]
 (.ite (.pick fP (.nt gm) pF)
 (.ret (.o 1000))
 (.next ⟨[],[]⟩))))
 (.next ⟨[(5,uV)],[]⟩))
 (.exit 0 ⟨[(7,r5),(8,(.deref r2)),(9,(br r5 (.deref r2)))],[]⟩))
def SR (b:Nat→PC):PT:=
 (.brk ⟨[(5,(.deref r1))],[]⟩
(atE b)
 (.ret (.o 1000)))
def anV (b:Nat→PC):PT×List (Shp×PT):=(SR b,[(.lp 0 [5,7,8,9] [1000] [5] [1000],KD b)])
theorem P0:vP.map told=some (anV (ax vP)):=by kernel_rfl
theorem ayI:tree B6=SR LZ:=aC P0
theorem aej:round 0 [5,7,8,9] [1000] [5] [1000] (LZ 0)=KD LZ:=be P0 0 fun _=>rfl
theorem ajr:vP=some B6:=aB P0
theorem aly:∀yv,Ac {ctx with fr:=[5],nh:=[],yv:=yv} Tryz.f289 [(.ref I),(.ref I),(.ref Y0)] [I] 1000 [1000]=some B6:=fun yv=>(show _=vP by kernel_rfl).trans ajr
noncomputable def Er:Option PC:=az {ctx with fr:=[4,5,6,7],nh:=[]} Tryz.f121 ((ab af 121).getD default) [2]
noncomputable def H5:PC:=ay Er
def SS:PT:=
 (.call ⟨[],[(2,(.mk [r0]))]⟩ [] 10 201 [r1]
 (.chk (aU (pi 7) (pi 0))
 (.call ⟨[(7,(.tget cE 2)),(6,(.tget cE 1))],[]⟩ [] 19 94 [(pc o2 3),(.ai .rem .i64 (aN r1 (pi 5)) (pi 7))]
 (.call ⟨[(21,(.nt jx))],[]⟩ [(21,true)] 28 94 [(pc o2 4),(aN (.ai .mul .i64 (pi 100) r6) r7)]
 (.call ⟨[(31,(.pick jU (.nt gE) pF))],[]⟩ [(31,true)] 35 94 [(pc o2 5),r1]
 (.ret (.pick oo (.nt uX) pF)))))))
def anY (b:Nat→PC):PT×List (Shp×PT):=(SS,[])
theorem ab2:Er.map told=some (anY (ax Er)):=by kernel_rfl
theorem ayL:tree H5=SS:=aC ab2
theorem ajv:Er=some H5:=aB ab2
noncomputable def EF:Option PC:=az {ctx with fr:=[2,3,4,27,32],nh:=[]} Tryz.f101 ((ab af 101).getD default) [1]
noncomputable def Ir:PC:=ay EF
def Te:PT:=
 (.iteS ⟨[(3,(pc (.mk [r0]) 14))],[(1,(.mk [r0]))]⟩ (aq (pc (.mk [r0]) 14) (pi 0)) [2] []
 (.call ⟨[(12,(ar 31 o1))],[]⟩ [] 14 173 [(ar 31 o1),(pi 2),(pi 0)]
 (.call ⟨[],[]⟩ [] 16 174 [(ar 31 o1)]
 (.call ⟨[],[]⟩ [] 17 172 [bM,cL,dc]
 (.ret iT))))
 (.next ⟨[],[]⟩)
 (.iteS ⟨[(4,(pi 1))],[]⟩ (aq r3 (pi 1)) [4] []
 (.call ⟨[(20,(ar 31 o1))],[]⟩ [] 23 109 [(.mk [(pc o1 9),(pc o1 10),(pc o1 11),(pc o1 12),(pc o1 13),(pc o1 14),(pc o1 15),(pc o1 16),(pc o1 17),(pc o1 18),(pc o1 19),(pc o1 20),(pc o1 21),(pc o1 22),(pc o1 23),(pc o1 24),(pc o1 25),(pc o1 26),(pc o1 27)])]
 (.call ⟨[],[]⟩ [] 25 174 [(ar 31 o1)]
 (.call ⟨[],[]⟩ [] 26 172 [dL,iU,iV]
 (.next ⟨[(4,kl)],[]⟩))))
 (.next ⟨[],[]⟩)
 (.blockS ⟨[],[]⟩ 0 [2,27,28,29,30,32,33,34,35] []
 (.call ⟨[],[]⟩ [] 29 175 [(ar 31 o1)]
 (.iteS ⟨[],[]⟩ (aU km (pi (-1))) [2,32,33,34,35] []
 (.ret r4)
 (.iteS ⟨[],[]⟩ (aq (pc o1 30) (pi (-1))) [2] []
 (.call ⟨[],[]⟩ [] 38 106 [(.lst [r4,(pi 2)])]
 (.ret iW))
 (.next ⟨[],[]⟩)
 (.next ⟨[],[]⟩))
 (.next ⟨[],[]⟩)))
 (.call ⟨[(40,(ar 31 o1)),(39,r4)],[]⟩ [] 44 173 [(ar 31 o1),(pi 2),(pc o1 30)]
 (.call ⟨[(45,(ar 31 o1))],[]⟩ [] 47 103 [(ar 31 o1),(pi 10)]
 (.call ⟨[],[]⟩ [] 50 176 [m4,Cm,(pc o1 30)]
 (.call ⟨[],[]⟩ [] 51 172 [oq,uZ,fQ]
 (.call ⟨[],[]⟩ [] 53 106 [(.lst [uY,kY])]
 (.ret Co)))))))))
def aoh (b:Nat→PC):PT×List (Shp×PT):=(Te,[])
theorem ach:EF.map told=some (aoh (ax EF)):=by kernel_rfl
theorem ay4:tree Ir=Te:=aC ach
theorem ajO:EF=some Ir:=aB ach
noncomputable def zg:Option PC:=az {ctx with fr:=[6],nh:=[]} Tryz.f173 ((ab af 173).getD default) [3,8]
noncomputable def Ip:PC:=ay zg
noncomputable def L4:Nat→PC:=bn zg
def atJ (b:Nat→PC):PC:=.block 0 [6,13,14] [] (.loop [6,13] [] (b 0))
def Cw (b:Nat→PC):PT:=
 (.ite (aj dz bM)
 (.chk (au bI dz)
 (.ite (.pick (.pick (aq (pc (.setc z9 0 pG) 0) r1) (aq (pc (.setc z9 0 pG) 2) (pc o3 10)) pF) (cm (pc (.setc z9 0 pG) 6) r2) pF)
 (.ret (pc (.setc z9 0 pG) 6))
 (.next ⟨[(13,(aN dz (pi 1)))],[]⟩)))
 (.exit 0 ⟨[(14,(aj dz bM))],[]⟩))
def Tc (b:Nat→PC):PT:=
 (.brk ⟨[(13,(pi 0)),(12,(.llen (pc (.mk [r0]) 26))),(11,(pc (.mk [r0]) 26)),(6,(pi 0))],[(3,(.mk [r0]))]⟩
(atJ b)
 (.ret (pi (-1))))
def aof (b:Nat→PC):PT×List (Shp×PT):=(Tc b,[(.lp 0 [6,13,14] [] [6,13] [],Cw b)])
theorem P4:zg.map told=some (aof (ax zg)):=by kernel_rfl
theorem ay2:tree Ip=Tc L4:=aC P4
theorem Ri:round 0 [6,13,14] [] [6,13] [] (L4 0)=Cw L4:=be P4 0 fun _=>rfl
theorem ajM:zg=some Ip:=aB P4
noncomputable def EH:Option PC:=az {ctx with fr:=[13,18,24],nh:=[]} Tryz.f174 ((ab af 174).getD default) [1,2,3]
noncomputable def Iu:PC:=ay EH
def Th:PT:=
 (.call ⟨[],[(2,cR),(1,(.mk [r0]))]⟩ [] 12 50 [hH,(pc (.mk [r0]) 8),(pi 7),adI,(pc (.mk [r0]) 29)]
 (.ite (aU (pc (.setc mY 0 bM) 4) (pi 0))
 (.ret (.mk [(pc (.setc o2 0 xJ) 0),(pc (.setc o2 0 xJ) 1)]))
 (.ite (.nt (pc (.setc mY 0 bM) 0))
 (.ret (.mk [(pc (.setc o2 0 oe) 0),(pc (.setc o2 0 oe) 1)]))
 (.ite (aV Q4 (pi 100000))
 (.ret (.mk [(pc (.setc o2 0 xJ) 0),(pc (.setc o2 0 xJ) 1)]))
 (.ret (.mk [(pc (.setc o2 0 (.mk [pT,Q4])) 0),(pc (.setc o2 0 (.mk [pT,Q4])) 1)]))))))
def aok (b:Nat→PC):PT×List (Shp×PT):=(Th,[])
theorem acj:EH.map told=some (aok (ax EH)):=by kernel_rfl
theorem ay7:tree Iu=Th:=aC acj
theorem ajR:EH=some Iu:=aB acj
noncomputable def EI:Option PC:=az {ctx with fr:=[6,7,11,20],nh:=[]} Tryz.f172 ((ab af 172).getD default) [3,5]
noncomputable def Iv:PC:=ay EI
def Lu:PT:=
 (.ite (.nt (pc (.mk [r2]) 0))
 (.ret (pi 2))
 (.ite (.pick (aU r1 (pi (-1))) (br r1 (pc (.mk [r2]) 1)) pF)
 (.ret (pi 1))
 (.ite (.pick (aU r1 (pi (-1))) pT (aV (pc (.mk [r0]) 29) (pc (.mk [r2]) 1)))
 (.ret (pi 0))
 (.ret (pi 2)))))
def aol (b:Nat→PC):PT×List (Shp×PT):=(Lu,[])
theorem ack:EI.map told=some (aol (ax EI)):=by kernel_rfl
theorem ay8:tree Iv=Lu:=aC ack
theorem ajS:EI=some Iv:=aB ack
noncomputable def EG:Option PC:=az {ctx with fr:=[2,3],nh:=[]} Tryz.f175 ((ab af 175).getD default) [1]
noncomputable def It:PC:=ay EG
def Tg:PT:=
 (.call ⟨[],[(1,(.mk [r0]))]⟩ [] 5 173 [(ar 31 (.mk [r0])),(pi 1),(pi 0)]
 (.ite (aV r5 (pc o1 30))
 (.ret (pi (-1)))
 (.ret r5)))
def aoj (b:Nat→PC):PT×List (Shp×PT):=(Tg,[])
theorem aci:EG.map told=some (aoj (ax EG)):=by kernel_rfl
theorem ay6:tree It=Tg:=aC aci
theorem ajQ:EG=some It:=aB aci
noncomputable def Ez:Option PC:=az {ctx with fr:=[2,3,6],nh:=[]} Tryz.f106 ((ab af 106).getD default) []
noncomputable def Ih:PC:=ay Ez
def S7:PT:=
 (.blockS ⟨[],[]⟩ 0 [2,3,4,5,6,7,8] []
 (.call ⟨[],[]⟩ [] 5 94 [r0,(pi 0)]
 (.iteS ⟨[],[]⟩ r5 [2,6,7,8] []
 (.ret (pi 0))
 (.call ⟨[],[]⟩ [] 8 94 [r0,(pi 2)]
 (.ite r8
 (.ret (pi 2))
 (.next ⟨[],[]⟩)))
 (.next ⟨[],[]⟩)))
 (.ret (pi 1)))
def an9 (b:Nat→PC):PT×List (Shp×PT):=(S7,[])
theorem aca:Ez.map told=some (an9 (ax Ez)):=by kernel_rfl
theorem ayW:tree Ih=S7:=aC aca
theorem ajG:Ez=some Ih:=aB aca
noncomputable def EC:Option PC:=az {ctx with fr:=[],nh:=[]} Tryz.f103 ((ab af 103).getD default) [2,4]
noncomputable def Ik:PC:=ay EC
def Ta:PT:=
 (.call ⟨[],[(4,mY)]⟩ [] 21 28 [hH,(pc (.mk [r0]) 8),r1,(.mk [adI,(pc (.mk [r0]) 28),(pc (.mk [r0]) 28),(pi (-1)),(pc (.mk [r0]) 30),(pc (.mk [r0]) 29)])]
 (.ret (ar 5 (.setc o4 0 jU))))
def aoc (b:Nat→PC):PT×List (Shp×PT):=(Ta,[])
theorem ace:EC.map told=some (aoc (ax EC)):=by kernel_rfl
theorem ayZ:tree Ik=Ta:=aC ace
theorem ajJ:EC=some Ik:=aB ace
noncomputable def ED:Option PC:=az {ctx with fr:=[7,8],nh:=[]} Tryz.f176 ((ab af 176).getD default) [3,4,6]
noncomputable def Il:PC:=ay ED
def DD:PT:=
 (.ite (aU (pc (.mk [r1]) 4) (pi 0))
 (.ret (.mk [(pc (.setc cR 0 xJ) 0),(pc (.setc cR 0 xJ) 1)]))
 (.ite (.nt (pc (.mk [r1]) 0))
 (.ret (.mk [(pc (.setc cR 0 oe) 0),(pc (.setc cR 0 oe) 1)]))
 (.chk (au od (pc (.mk [r0]) 19))
 (.call ⟨[],[(6,cR)]⟩ [] 32 222 [(pn od (pc (.mk [r0]) 19)),r2,(pc (.mk [r1]) 1)]
 (.ret (.mk [(pc adW 0),(pc adW 1)]))))))
def aod (b:Nat→PC):PT×List (Shp×PT):=(DD,[])
theorem acf:ED.map told=some (aod (ax ED)):=by kernel_rfl
theorem ay0:tree Il=DD:=aC acf
theorem ajK:ED=some Il:=aB acf
noncomputable def zc:Option PC:=az {ctx with fr:=[6,7,8,9,1],nh:=[]} Tryz.f222 ((ab af 222).getD default) [3]
noncomputable def HZ:PC:=ay zc
noncomputable def LY:Nat→PC:=bn zc
def atD (b:Nat→PC):PC:=.block 0 [1,6,7,22,23] [] (.loop [1,6,7,22] [] (b 0))
def KC (b:Nat→PC):PT:=
 (.ite (aj qQ jU)
 (.blockS ⟨[],[]⟩ 1 [1,6,7,8,9,24,25,26,27,28,29,30,31,32,34] []
 (.call ⟨[],[]⟩ [] 28 225 [(ar 6 o3),(aN r1 (pi 1))]
 (.ite (aU (.tget gE 1) (pi 0))
 (.ret (.tup [(pi 0),(.tget gE 1)]))
 (.next ⟨[(1,(.tget gE 0))],[]⟩)))
 (.next ⟨[(22,(aN qQ (pi 1)))],[]⟩))
 (.exit 0 ⟨[(23,(aj qQ jU))],[]⟩))
def SO (b:Nat→PC):PT:=
 (.call ⟨[(7,(pi 0)),(6,(pi 0))],[(3,(.mk [r0]))]⟩ [] 11 120 [r1]
 (.ite (.pick (.pick (.nt bI) pT (aj r2 (pi 0))) pT (aV r2 (pi 20000)))
 (.ret (.tup [(pi 0),(pi 3)]))
 (.brk ⟨[(22,(pi 0)),(21,r2)],[]⟩
(atD b)
 (.ret (.tup [r1,(pi 0)])))))
def anS (b:Nat→PC):PT×List (Shp×PT):=(SO b,[(.lp 0 [1,6,7,22,23] [] [1,6,7,22] [],KC b)])
theorem PZ:zc.map told=some (anS (ax zc)):=by kernel_rfl
theorem ayG:tree HZ=SO LY:=aC PZ
theorem aei:round 0 [1,6,7,22,23] [] [1,6,7,22] [] (LY 0)=KC LY:=be PZ 0 fun _=>rfl
theorem ajp:zc=some HZ:=aB PZ
noncomputable def zi:Option PC:=az {ctx with fr:=[2,3,5,8,63,66],nh:=[]} Tryz.f104 ((ab af 104).getD default) [1,4,7]
noncomputable def Is:PC:=ay zi
noncomputable def L5:Nat→PC:=bn zi
def atM (b:Nat→PC):PC:=.block 0 [2,5,28,29] [] (.loop [2,5,28] [] (b 0))
def KG (b:Nat→PC):PT:=
 (.ite (aj gE ed)
 (.blockS ⟨[],[]⟩ 1 [2,5,7,30,31,32,33,34,35,43,44,49,50,56] [7]
 (.chk (au kl gE)
 (.ite (.pick (.pick (.pick (aU (pc Ch 0) (pi 4)) pT (aU (pc Ch 2) (pc o1 10))) pT (aj (pc Ch 6) r3)) pT (aV (pc Ch 6) (pc o4 1)))
 (.exit 1 ⟨[],[]⟩)
 (.iteS ⟨[(8,(pi 1))],[]⟩ (aq (pc Ch 8) (pi 1)) [8] []
 (.call ⟨[],[]⟩ [] 61 103 [(ar 31 o1),(pi 9)]
 (.call ⟨[],[]⟩ [] 62 46 [sv]
 (.next ⟨[(8,kp)],[]⟩)))
 (.next ⟨[],[]⟩)
 (.ite (aq r8 (pi 1))
 (.ret (pi 1))
 (.next ⟨[(5,(.pick (aq r8 (pi 2)) (pi 2) r5))],[]⟩)))))
 (.next ⟨[(28,(aN gE (pi 1)))],[]⟩))
 (.exit 0 ⟨[(29,(aj gE ed))],[]⟩))
def Tf (b:Nat→PC):PT:=
 (.call ⟨[(2,(pi 0))],[(1,(.mk [r0]))]⟩ [] 10 115 [(ar 31 (.mk [r0]))]
 (.call ⟨[(11,(ar 31 o1)),(3,cE)],[]⟩ [] 13 103 [(ar 31 o1),(pi 10)]
 (.call ⟨[],[]⟩ [] 15 176 [bI,dz,r3]
 (.ite (.nt (pc (.setc cR 0 fP) 0))
 (.ret (pi 2))
 (.brk ⟨[(28,(pi 0)),(27,(.llen (pc o1 26))),(26,(pc o1 26)),(5,(.pick (br (pc o1 29) (pc (.setc cR 0 fP) 1)) (pi 2) (pi 0)))],[(4,(.setc cR 0 fP))]⟩
(atM b)
 (.ret r5))))))
def aoi (b:Nat→PC):PT×List (Shp×PT):=(Tf b,[(.lp 0 [2,5,28,29] [] [2,5,28] [],KG b)])
theorem P5:zi.map told=some (aoi (ax zi)):=by kernel_rfl
theorem ay5:tree Is=Tf L5:=aC P5
theorem aem:round 0 [2,5,28,29] [] [2,5,28] [] (L5 0)=KG L5:=be P5 0 fun _=>rfl
theorem ajP:zi=some Is:=aB P5
noncomputable def EE:Option PC:=az {ctx with fr:=[2,3],nh:=[]} Tryz.f115 ((ab af 115).getD default) [1]
noncomputable def Io:PC:=ay EE
def Tb:PT:=
 (.call ⟨[],[(1,(.mk [r0]))]⟩ [] 5 175 [(ar 31 (.mk [r0]))]
 (.ite (aU r5 (pi (-1)))
 (.ret r5)
 (.ret (pc o1 30))))
def aoe (b:Nat→PC):PT×List (Shp×PT):=(Tb,[])
theorem acg:EE.map told=some (aoe (ax EE)):=by kernel_rfl
theorem ay1:tree Io=Tb:=aC acg
theorem ajL:EE=some Io:=aB acg
noncomputable def Ee:Option PC:=az {ctx with fr:=[2,3,7,12],nh:=[]} Tryz.f46 ((ab af 46).getD default) [1]
noncomputable def HS:PC:=ay Ee
def SI:PT:=
 (.ite (aU xN (pi 0))
 (.ret (pi 0))
 (.ite (.nt jS)
 (.ret (pi 2))
 (.ite (aU od (pi 0))
 (.ret (pi 1))
 (.ret (pi 0)))))
def anJ (b:Nat→PC):PT×List (Shp×PT):=(SI,[])
theorem abQ:Ee.map told=some (anJ (ax Ee)):=by kernel_rfl
theorem ayz:tree HS=SI:=aC abQ
theorem ajg:Ee=some HS:=aB abQ
noncomputable def EB:Option PC:=az {ctx with fr:=[4,5],nh:=[]} Tryz.f102 ((ab af 102).getD default) [2]
noncomputable def Ij:PC:=ay EB
def S9:PT:=
 (.call ⟨[],[]⟩ [] 7 46 [(ar 5 (.mk [r0]))]
 (.ite (.pick (aq r7 (pi 0)) pT (aq r1 (pi 1)))
 (.ret (pi 1))
 (.ite (aq r7 (pi 2))
 (.ret (pi 2))
 (.ret r1))))
def aob (b:Nat→PC):PT×List (Shp×PT):=(S9,[])
theorem acd:EB.map told=some (aob (ax EB)):=by kernel_rfl
theorem ayY:tree Ij=S9:=aC acd
theorem ajI:EB=some Ij:=aB acd
noncomputable def zh:Option PC:=az {ctx with fr:=[2,3,6,10],nh:=[]} Tryz.f105 ((ab af 105).getD default) [1,4,5,7,9,12]
noncomputable def Iq:PC:=ay zh
noncomputable def yQ:Nat→PC:=bn zh
def atK (b:Nat→PC):PC:=.block 2 [10,50,51] [] (.loop [10,50] [] (b 0))
def atL (b:Nat→PC):PC:=.block 0 [2,6,7,30,31] [7] (.loop [2,6,7,30] [7] (b 1))
def KE (b:Nat→PC):PT:=
 (.ite (aj fQ mc)
 (.blockS ⟨[],[]⟩ 3 [10,12,52,53,54,55,72] [12]
 (.chk (au o7 fQ)
 (.call ⟨[(63,(pc o9 6)),(61,(aq (pc (.setc z9 0 (.sub (pn o7 fQ) 0 9)) 2) (pc o9 1))),(55,cE)],[]⟩ [(61,true),(55,false)] 68 176 [(ar 31 o1),(ar 5 o4),(pc (.setc z9 0 (.sub (pn o7 fQ) 0 9)) 6)]
 (.next ⟨[(10,(.pick u7 pT (.pick sv (br xP (pc Ky 1)) pF)))],[]⟩)))
 (.next ⟨[(50,(aN fQ (pi 1)))],[]⟩))
 (.exit 2 ⟨[(51,(aj fQ mc))],[]⟩))
def KF (b:Nat→PC):PT:=
 (.ite (aj ma km)
 (.blockS ⟨[(31,(aj ma km))],[]⟩ 1 [2,6,7,9,32,33,34,35,36] [9,7]
 (.chk (au gE ma)
 (.ite (aU (pc Kk 0) (pi 5))
 (.exit 1 ⟨[],[]⟩)
 (.brk ⟨[(50,(pi 0)),(49,(.llen o7)),(10,(.pick (cm (pc Kk 6) r3) (br (pc Kk 6) (pc o5 1)) pF))],[(9,Kk)]⟩
(atK b)
 (.ite (.nt cE)
 (.exit 1 ⟨[],[]⟩)
 (.chk (au (pc o1 24) (pc o1 28))
 (.ite (aq (pc o9 2) (pc (pn (pc o1 24) (pc o1 28)) 2))
 (.ret (pi 1))
 (.chk (br (.llen (.app o7 (.lst [(ar 9 o9)]))) cn)
 (.call ⟨[(91,r6),(7,pN)],[(7,(.app o7 (.lst [(ar 9 o9)])))]⟩ [] 96 176 [(ar 31 o1),(ar 5 o4),(pc o9 6)]
 (.next ⟨[(6,(.mx r91 (pc r96 1)))],[]⟩)))))))))
 (.next ⟨[(30,(aN ma (pi 1)))],[]⟩))
 (.exit 0 ⟨[(31,(aj ma km))],[]⟩))
def Td (b:Nat→PC):PT:=
 (.call ⟨[(2,(pi 0))],[(1,(.mk [r0]))]⟩ [] 14 115 [(ar 31 (.mk [r0]))]
 (.call ⟨[(3,cL)],[]⟩ [] 16 103 [(ar 31 o1),(pi 12)]
 (.call ⟨[],[(4,(.setc mY 0 dc))]⟩ [] 20 176 [(ar 31 o1),(ar 5 (.setc mY 0 dc)),r3]
 (.ite (.nt (pc (.setc cR 0 dL) 0))
 (.ret (pi 2))
 (.brk ⟨[(30,(pi 0)),(29,(.llen (pc o1 26))),(28,(pc o1 26)),(7,pN),(6,(pc (.setc cR 0 dL) 1))],[(7,pL),(5,(.setc cR 0 dL))]⟩
(atL b)
 (.ite (aV (pc o1 29) r6)
 (.ret (pi 0))
 (.ret (pi 2))))))))
def aog (b:Nat→PC):PT×List (Shp×PT):=(Td b,[(.lp 2 [10,50,51] [] [10,50] [],KE b),(.lp 0 [2,6,7,30,31] [7] [2,6,7,30] [7],KF b)])
theorem Ht:zh.map told=some (aog (ax zh)):=by kernel_rfl
theorem ay3:tree Iq=Td yQ:=aC Ht
theorem aek:round 2 [10,50,51] [] [10,50] [] (yQ 0)=KE yQ:=be Ht 0 fun _=>rfl
theorem ael:round 0 [2,6,7,30,31] [7] [2,6,7,30] [7] (yQ 1)=KF yQ:=be Ht 1 fun _=>rfl
theorem ajN:zh=some Iq:=aB Ht
noncomputable def Ex:Option PC:=az {ctx with fr:=[8],nh:=[]} Tryz.f43 ((ab af 43).getD default) [4,6]
noncomputable def If:PC:=ay Ex
def S5:PT:=
 (.call ⟨[],[]⟩ [] 13 100 [hH,r1,(ar 19 (.mk [r2])),(pi 0),r3]
 (.call ⟨[],[]⟩ [] 14 115 [dz]
 (.ret cL)))
def an7 (b:Nat→PC):PT×List (Shp×PT):=(S5,[])
theorem ab8:Ex.map told=some (an7 (ax Ex)):=by kernel_rfl
theorem ayU:tree If=S5:=aC ab8
theorem ajE:Ex=some If:=aB ab8
noncomputable def EK:Option PC:=az {ctx with fr:=[4],nh:=[]} Tryz.f37 ((ab af 37).getD default) [2,3]
noncomputable def Ix:PC:=ay EK
def Tj:PT:=
 (.call ⟨[],[(3,(.mk [r1])),(2,(.mk [r0]))]⟩ [] 7 53 [hH,(ar 19 (.mk [r1]))]
 (.call ⟨[(8,r7)],[]⟩ [(8,true)] 10 62 [(ar 8 o2)]
 (.call ⟨[(13,(.pick r8 (aq cE (pi 0)) pF))],[]⟩ [(13,true)] 16 42 [(ar 8 o2),(ar 19 o3)]
 (.ret (.pick dz (aq dc (pi 0)) pF)))))
def aon (b:Nat→PC):PT×List (Shp×PT):=(Tj,[])
theorem acn:EK.map told=some (aon (ax EK)):=by kernel_rfl
theorem aza:tree Ix=Tj:=aC acn
theorem ajU:EK=some Ix:=aB acn
noncomputable def zD:Option PC:=az {ctx with fr:=[4,5],nh:=[]} Tryz.f53 ((ab af 53).getD default) [2,3]
noncomputable def Jd:PC:=ay zD
noncomputable def Mg:Nat→PC:=bn zD
def auj (b:Nat→PC):PC:=.block 0 [4,5,14,15,16,17,18] [] (.loop [4,5] [] (b 0))
def CU (b:Nat→PC):PT:=
 (.ite (aj r5 (.llen (pc o2 4)))
 (.blockS ⟨[],[]⟩ 1 [4,21,22,23,24,25,26,27] []
 (.chk (au (pc o2 4) r5)
 (.call ⟨[],[]⟩ [] 26 128 [(pn (pc o2 4) r5)]
 (.ite (.nt kl)
 (.ret pF)
 (.next ⟨[],[]⟩))))
 (.next ⟨[(5,uV)],[]⟩))
 (.exit 0 ⟨[(14,r5),(15,pN),(16,(pc o2 4)),(17,(.llen (pc o2 4))),(18,(aj r5 (.llen (pc o2 4))))],[]⟩))
def TW (b:Nat→PC):PT:=
 (.call ⟨[(4,pF)],[(3,(.mk [r1])),(2,(.mk [r0]))]⟩ [] 7 58 [hH]
 (.call ⟨[(9,(.nt r7))],[]⟩ [(9,false)] 11 127 [(ar 19 o3)]
 (.ite (.pick r9 pT (.nt bI))
 (.ret pF)
 (.brk ⟨[(5,(pi 0))],[]⟩
(auj b)
 (.ret pT)))))
def ao0 (b:Nat→PC):PT×List (Shp×PT):=(TW b,[(.lp 0 [4,5,14,15,16,17,18] [] [4,5] [],CU b)])
theorem Qg:zD.map told=some (ao0 (ax zD)):=by kernel_rfl
theorem azM:tree Jd=TW Mg:=aC Qg
theorem RE:round 0 [4,5,14,15,16,17,18] [] [4,5] [] (Mg 0)=CU Mg:=be Qg 0 fun _=>rfl
theorem akx:zD=some Jd:=aB Qg
noncomputable def zo:Option PC:=az {ctx with fr:=[2,3,4],nh:=[]} Tryz.f58 ((ab af 58).getD default) [1]
noncomputable def IV:PC:=ay zo
noncomputable def yS:Nat→PC:=bn zo
def atV (b:Nat→PC):PC:=.block 0 [2,3,5,6,7,8,9,10,13] [] (.loop [2,3] [] (b 0))
def atW (b:Nat→PC):PC:=.block 2 [2,4,44,45,46,47,48,49,52] [] (.loop [2,4] [] (b 1))
def vg (b:Nat→PC):PT:=
 (.ite (.pick (aj r3 kj) (aj r3 (pi 50)) pF)
 (.chk (au (pc o1 1) r3)
 (.chk (.nt (.an (.an (.nt (aV (.llen (pc (pn (pc o1 1) r3) 4)) (pi 70))) pT) (.nt (au (pc o1 1) r3))))
 (.chk (.nt (.an (.an (.nt adR) pT) (.nt (au (pc o1 1) r3))))
 (.ite (.pick adR pT (aV (.llen (pc (pn (pc o1 1) r3) 3)) (pi 8)))
 (.ret pF)
 (.next ⟨[(3,su)],[]⟩)))))
 (.exit 0 ⟨[(5,r3),(6,pN),(7,(pc o1 1)),(8,kj),(9,(aj r3 kj)),(10,(aj r3 kj)),(13,(.pick (aj r3 kj) (aj r3 (pi 50)) pF))],[]⟩))
def xS (b:Nat→PC):PT:=
 (.ite (.pick (aj r4 m3) (aj r4 (pi 50)) pF)
 (.chk (au (pc o1 4) r4)
 (.chk (.nt (.an (.an (.nt (aV (.llen (pc uS 2)) (pi 40))) pT) (.nt (au (pc o1 4) r4))))
 (.ite (.pick (aV (.llen (pc uS 2)) (pi 40)) pT (aV (.llen (pc uS 3)) (pi 40)))
 (.ret pF)
 (.next ⟨[(4,(aN r4 (pi 1)))],[]⟩))))
 (.exit 2 ⟨[(44,r4),(45,pN),(46,(pc o1 4)),(47,m3),(48,(aj r4 m3)),(49,(aj r4 m3)),(52,(.pick (aj r4 m3) (aj r4 (pi 50)) pF))],[]⟩))
def TE (b:Nat→PC):PT:=
 (.brk ⟨[(3,(pi 0)),(2,pF)],[(1,(.mk [r0]))]⟩
(atV b)
 (.brk ⟨[(4,(pi 0))],[]⟩
(atW b)
 (.ret (.pick (.pick (.pick (.pick (.pick (.pick (.pick (aj sr (pi 50)) (aj kj (pi 50)) pF) (aj pC (pi 50)) pF) (aj l9 (pi 210)) pF) (aj m3 (pi 50)) pF) (aj xO (pi 110)) pF) (aj (.llen (pc o1 6)) (pi 110)) pF) (aj uU (pi 50)) pF))))
def aoI (b:Nat→PC):PT×List (Shp×PT):=(TE b,[(.lp 0 [2,3,5,6,7,8,9,10,13] [] [2,3] [],vg b),(.lp 2 [2,4,44,45,46,47,48,49,52] [] [2,4] [],xS b)])
theorem Hv:zo.map told=some (aoI (ax zo)):=by kernel_rfl
theorem azv:tree IV=TE yS:=aC Hv
theorem CB:round 0 [2,3,5,6,7,8,9,10,13] [] [2,3] [] (yS 0)=vg yS:=be Hv 0 fun _=>rfl
theorem KK:round 2 [2,4,44,45,46,47,48,49,52] [] [2,4] [] (yS 1)=xS yS:=be Hv 1 fun _=>rfl
theorem akf:zo=some IV:=aB Hv
noncomputable def E4:Option PC:=az {ctx with fr:=[2],nh:=[]} Tryz.f127 ((ab af 127).getD default) [1]
noncomputable def I9:PC:=ay E4
def TS:PT:=
 (.ret (.pick (.pick (.pick (br (.llen pB) (pi 50)) (br (.llen (pc (.mk [r0]) 16)) (pi 10)) pF) (br (.llen (pc (.mk [r0]) 17)) (pi 110)) pF) (br (.llen (pc (.mk [r0]) 18)) (pi 220)) pF))
def aoW (b:Nat→PC):PT×List (Shp×PT):=(TS,[])
theorem acH:E4.map told=some (aoW (ax E4)):=by kernel_rfl
theorem azJ:tree I9=TS:=aC acH
theorem akt:E4=some I9:=aB acH
noncomputable def zC:Option PC:=az {ctx with fr:=[2,3],nh:=[]} Tryz.f128 ((ab af 128).getD default) [1]
noncomputable def Jc:PC:=ay zC
noncomputable def Mf:Nat→PC:=bn zC
def aui (b:Nat→PC):PC:=.block 0 [2,3,14,15,16,17,18] [] (.loop [2,3] [] (b 0))
def CT (b:Nat→PC):PT:=
 (.ite (aj r3 l9)
 (.blockS ⟨[],[]⟩ 1 [2,21,22,23,24,25,26,27,28] []
 (.chk (au (pc o1 3) r3)
 (.call ⟨[],[]⟩ [] 27 203 [(.sub (pn (pc o1 3) r3) 1 3)]
 (.ite (.nt ed)
 (.ret pF)
 (.next ⟨[],[]⟩))))
 (.next ⟨[(3,su)],[]⟩))
 (.exit 0 ⟨[(14,r3),(15,pN),(16,(pc o1 3)),(17,l9),(18,(aj r3 l9))],[]⟩))
def TV (b:Nat→PC):PT:=
 (.ite (.pick (aV (.llen (pc (.mk [r0]) 3)) (pi 60)) pT (aV oh (pi 60)))
 (.ret pF)
 (.brk ⟨[(3,(pi 0)),(2,pF)],[(1,(.mk [r0]))]⟩
(aui b)
 (.ret pT)))
def aoZ (b:Nat→PC):PT×List (Shp×PT):=(TV b,[(.lp 0 [2,3,14,15,16,17,18] [] [2,3] [],CT b)])
theorem Qf:zC.map told=some (aoZ (ax zC)):=by kernel_rfl
theorem azL:tree Jc=TV Mf:=aC Qf
theorem RD:round 0 [2,3,14,15,16,17,18] [] [2,3] [] (Mf 0)=CT Mf:=be Qf 0 fun _=>rfl
theorem akw:zC=some Jc:=aB Qf
noncomputable def E5:Option PC:=az {ctx with fr:=[2],nh:=[]} Tryz.f203 ((ab af 203).getD default) [1]
noncomputable def Ja:PC:=ay E5
def TU:PT:=
 (.call ⟨[],[]⟩ [] 4 243 [(.mk [jS,od,uQ]),(pi 100),(pi 20)]
 (.ret (cm r4 (pi 0))))
def aoX (b:Nat→PC):PT×List (Shp×PT):=(TU,[])
theorem acI:E5.map told=some (aoX (ax E5)):=by kernel_rfl
theorem azK:tree Ja=TU:=aC acI
theorem aku:E5=some Ja:=aB acI
noncomputable def zB:Option PC:=az {ctx with fr:=[6,1,7],nh:=[]} Tryz.f243 ((ab af 243).getD default) [3]
noncomputable def Jb:PC:=ay zB
noncomputable def Me:Nat→PC:=bn zB
def auh (b:Nat→PC):PC:=.block 0 [1,7,12,13,14,15,16,17,20] [] (.loop [1,7] [] (b 0))
def CS (b:Nat→PC):PT:=
 (.ite (.pick (aj r7 m0) (cm r1 (pi 0)) pF)
 (.blockS ⟨[],[]⟩ 1 [1,23,24,25,26,27,28,29,30,31] []
 (.chk (au (pc o3 2) r7)
 (.call ⟨[],[]⟩ [] 31 243 [(pn (pc o3 2) r7),r1,(bz r2 (pi 1))]
 (.next ⟨[(1,oo)],[]⟩)))
 (.next ⟨[(7,(aN r7 (pi 1)))],[]⟩))
 (.exit 0 ⟨[(12,r7),(13,pN),(14,(pc o3 2)),(15,m0),(16,(aj r7 m0)),(17,(aj r7 m0)),(20,(.pick (aj r7 m0) (cm r1 (pi 0)) pF))],[]⟩))
def Lx (b:Nat→PC):PT:=
 (.ite (aj r2 (pi 1))
 (.ret (pi (-1)))
 (.brk ⟨[(7,(pi 0)),(1,(bz r1 (pi 1)))],[(3,(.mk [r0]))]⟩
(auh b)
 (.ret r1)))
def aoY (b:Nat→PC):PT×List (Shp×PT):=(Lx b,[(.lp 0 [1,7,12,13,14,15,16,17,20] [] [1,7] [],CS b)])
theorem Qe:zB.map told=some (aoY (ax zB)):=by kernel_rfl
theorem afp:tree Jb=Lx Me:=aC Qe
theorem RC:round 0 [1,7,12,13,14,15,16,17,20] [] [1,7] [] (Me 0)=CS Me:=be Qe 0 fun _=>rfl
theorem akv:zB=some Jb:=aB Qe
noncomputable def E0:Option PC:=az {ctx with fr:=[2,3],nh:=[]} Tryz.f62 ((ab af 62).getD default) [1]
noncomputable def IU:PC:=ay E0
def TD:PT:=
 (.call ⟨[],[(1,(.mk [r0]))]⟩ [] 5 145 [hH]
 (.iteS ⟨[(3,r5)],[]⟩ (aq r5 (pi 0)) [3] []
 (.call ⟨[],[]⟩ [] 9 146 [(ar 8 o1)]
 (.next ⟨[(3,r9)],[]⟩))
 (.next ⟨[],[]⟩)
 (.iteS ⟨[],[]⟩ (aq r3 (pi 0)) [3] []
 (.call ⟨[],[]⟩ [] 13 147 [(ar 8 o1)]
 (.next ⟨[(3,dz)],[]⟩))
 (.next ⟨[],[]⟩)
 (.iteS ⟨[],[]⟩ (aq r3 (pi 0)) [3] []
 (.call ⟨[],[]⟩ [] 17 148 [(ar 8 o1)]
 (.next ⟨[(3,iT)],[]⟩))
 (.next ⟨[],[]⟩)
 (.iteS ⟨[],[]⟩ (aq r3 (pi 0)) [3] []
 (.call ⟨[],[]⟩ [] 21 149 [(ar 8 o1)]
 (.next ⟨[(3,jU)],[]⟩))
 (.next ⟨[],[]⟩)
 (.ret r3))))))
def aoH (b:Nat→PC):PT×List (Shp×PT):=(TD,[])
theorem acD:E0.map told=some (aoH (ax E0)):=by kernel_rfl
theorem azu:tree IU=TD:=aC acD
theorem ake:E0=some IU:=aB acD
noncomputable def zu:Option PC:=az {ctx with fr:=[2,3,4,6,7],nh:=[]} Tryz.f145 ((ab af 145).getD default) [1,5,44]
noncomputable def I2:PC:=ay zu
noncomputable def yU:Nat→PC:=bn zu
def at2 (b:Nat→PC):PC:=.block 0 [2,3,12,13,14,15,16] [] (.loop [2,3] [] (b 0))
def at3 (b:Nat→PC):PC:=.block 2 [2,5,6,30,31,32,33,34] [5] (.loop [2,5,6] [5] (b 1))
def CH (b:Nat→PC):PT:=
 (.ite (aj r3 sr)
 (.blockS ⟨[],[]⟩ 1 [2,4,19,20,21,22,23,24] []
 (.call ⟨[],[]⟩ [] 22 208 [(pc o1 0),r3]
 (.ite (aU qQ (pi 0))
 (.ret qQ)
 (.next ⟨[],[]⟩)))
 (.next ⟨[(3,su)],[]⟩))
 (.exit 0 ⟨[(12,r3),(13,pN),(14,(pc o1 0)),(15,sr),(16,(aj r3 sr))],[]⟩))
def CI (b:Nat→PC):PT:=
 (.ite (aj r6 kj)
 (.blockS ⟨[],[]⟩ 3 [2,5,7,38,39,40,41,42,43,44,45,46,47,48,49,50,52,53,54,55,56,57,58,59] [44,5]
 (.chk (au (pc o1 1) r6)
 (.chk (br (.llen Q5) cn)
 (.call ⟨[(5,pN)],[(5,Q5)]⟩ [] 48 208 [Q5,r6]
 (.ite (aU ko (pi 0))
 (.ret ko)
 (.chk (au (pc o1 1) r6)
 (.call ⟨[],[]⟩ [] 58 209 [(ar 8 o1),(pn (pc o1 1) r6)]
 (.ite (.nt Cq)
 (.ret (pi 1))
 (.next ⟨[],[]⟩))))))))
 (.next ⟨[(6,(aN r6 (pi 1)))],[]⟩))
 (.exit 2 ⟨[(30,r6),(31,pN),(32,(pc o1 1)),(33,kj),(34,(aj r6 kj))],[]⟩))
def TL (b:Nat→PC):PT:=
 (.ite (aV (.llen jS) (pi 8))
 (.ret (pi 6))
 (.brk ⟨[(3,(pi 0)),(2,(pi 0))],[(1,(.mk [r0]))]⟩
(at2 b)
 (.ite (aV kj (pi 40))
 (.ret (pi 6))
 (.brk ⟨[(6,(pi 0)),(5,pN)],[(5,pL)]⟩
(at3 b)
 (.ret (pi 0))))))
def aoP (b:Nat→PC):PT×List (Shp×PT):=(TL b,[(.lp 0 [2,3,12,13,14,15,16] [] [2,3] [],CH b),(.lp 2 [2,5,6,30,31,32,33,34] [5] [2,5,6] [5],CI b)])
theorem Hx:zu.map told=some (aoP (ax zu)):=by kernel_rfl
theorem azC:tree I2=TL yU:=aC Hx
theorem Rr:round 0 [2,3,12,13,14,15,16] [] [2,3] [] (yU 0)=CH yU:=be Hx 0 fun _=>rfl
theorem Rs:round 2 [2,5,6,30,31,32,33,34] [5] [2,5,6] [5] (yU 1)=CI yU:=be Hx 1 fun _=>rfl
theorem akm:zu=some I2:=aB Hx
noncomputable def E3:Option PC:=az {ctx with fr:=[4],nh:=[]} Tryz.f208 ((ab af 208).getD default) []
noncomputable def I4:PC:=ay E3
def TN:PT:=
 (.chk (au r0 r1)
 (.call ⟨[],[]⟩ [] 9 257 [(pn r0 r1)]
 (.ite (.nt r9)
 (.ret (pi 2))
 (.chk (au r0 r1)
 (.call ⟨[],[]⟩ [] 17 258 [r0,r1,(pn r0 r1)]
 (.ite iT
 (.ret (pi 5))
 (.ret (pi 0))))))))
def aoR (b:Nat→PC):PT×List (Shp×PT):=(TN,[])
theorem acG:E3.map told=some (aoR (ax E3)):=by kernel_rfl
theorem azE:tree I4=TN:=aC acG
theorem ako:E3=some I4:=aB acG
noncomputable def zp:Option PC:=az {ctx with fr:=[2,3,4],nh:=[]} Tryz.f257 ((ab af 257).getD default) []
noncomputable def IX:PC:=ay zp
noncomputable def Ma:Nat→PC:=bn zp
def atX (b:Nat→PC):PC:=.block 0 [2,3,13,14,15,16] [] (.loop [2,3] [] (b 0))
def CC (b:Nat→PC):PT:=
 (.ite (aj r3 (.slen r0))
 (.blockS ⟨[],[]⟩ 1 [2,4,19,20,21,22,23,34,35,36,37,38,39,40,47] []
 (.chk (.sok r0 r3)
 (.chk (.nt (.an (.an (.nt Q3) pT) (.nt (.sok r0 r3))))
 (.chk (.nt (.an (.an (br (.con (.v (.int .u8 48))) (.sidx r0 r3)) (.an (.nt Q3) pT)) (.nt (.sok r0 r3))))
 (.call ⟨[(4,(.pick Q3 pT (.pick (br (.con (.v (.int .u8 48))) (.sidx r0 r3)) (br (.sidx r0 r3) (.con (.v (.int .u8 57)))) pF)))],[]⟩ [] 38 285 [(.sidx r0 r3)]
 (.ite (.pick (.nt iW) (.pick (aq r3 (pi 0)) pT (.nt r4)) pF)
 (.ret pF)
 (.next ⟨[],[]⟩))))))
 (.next ⟨[(3,su)],[]⟩))
 (.exit 0 ⟨[(13,r3),(14,r0),(15,(.slen r0)),(16,(aj r3 (.slen r0)))],[]⟩))
def TG (b:Nat→PC):PT:=
 (.ite (.pick (aj (.slen r0) (pi 1)) pT (aV (.slen r0) (pi 20)))
 (.ret pF)
 (.brk ⟨[(3,(pi 0)),(2,pF)],[]⟩
(atX b)
 (.ret pT)))
def aoK (b:Nat→PC):PT×List (Shp×PT):=(TG b,[(.lp 0 [2,3,13,14,15,16] [] [2,3] [],CC b)])
theorem Qa:zp.map told=some (aoK (ax zp)):=by kernel_rfl
theorem azx:tree IX=TG Ma:=aC Qa
theorem Rm:round 0 [2,3,13,14,15,16] [] [2,3] [] (Ma 0)=CC Ma:=be Qa 0 fun _=>rfl
theorem akh:zp=some IX:=aB Qa
noncomputable def E1:Option PC:=az {ctx with fr:=[2],nh:=[]} Tryz.f285 ((ab af 285).getD default) []
noncomputable def IW:PC:=ay E1
def TF:PT:=
 (.ret (.pick (.pick (br (.con (.v (.int .u8 97))) r0) (br r0 (.con (.v (.int .u8 122)))) pF) pT (.pick (br (.con (.v (.int .u8 65))) r0) (br r0 (.con (.v (.int .u8 90)))) pF)))
def aoJ (b:Nat→PC):PT×List (Shp×PT):=(TF,[])
theorem acE:E1.map told=some (aoJ (ax E1)):=by kernel_rfl
theorem azw:tree IW=TF:=aC acE
theorem akg:E1=some IW:=aB acE
noncomputable def zn:Option PC:=az {ctx with fr:=[6,7],nh:=[]} Tryz.f258 ((ab af 258).getD default) []
noncomputable def IT:PC:=ay zn
noncomputable def L9:Nat→PC:=bn zn
def atU (b:Nat→PC):PC:=.block 0 [6,7,8,9,10,11,16] [] (.loop [6,7] [] (b 0))
def CA (b:Nat→PC):PT:=
 (.ite (.pick (aj r7 r1) (aj r7 (.llen r0)) pF)
 (.chk (au r0 r7)
 (.ite (.cs .eql (pn r0 r7) r2)
 (.ret pT)
 (.next ⟨[(7,(aN r7 (pi 1)))],[]⟩)))
 (.exit 0 ⟨[(8,r7),(9,r1),(10,(aj r7 r1)),(11,(aj r7 r1)),(16,(.pick (aj r7 r1) (aj r7 (.llen r0)) pF))],[]⟩))
def TC (b:Nat→PC):PT:=
 (.brk ⟨[(7,(pi 0)),(6,pF)],[]⟩
(atU b)
 (.ret pF))
def aoG (b:Nat→PC):PT×List (Shp×PT):=(TC b,[(.lp 0 [6,7,8,9,10,11,16] [] [6,7] [],CA b)])
theorem P9:zn.map told=some (aoG (ax zn)):=by kernel_rfl
theorem azt:tree IT=TC L9:=aC P9
theorem Rl:round 0 [6,7,8,9,10,11,16] [] [6,7] [] (L9 0)=CA L9:=be P9 0 fun _=>rfl
theorem akd:zn=some IT:=aB P9
noncomputable def zq:Option PC:=az {ctx with fr:=[4,5],nh:=[]} Tryz.f209 ((ab af 209).getD default) [2,3]
noncomputable def IY:PC:=ay zq
noncomputable def Mb:Nat→PC:=bn zq
def atY (b:Nat→PC):PC:=.block 0 [4,5,36,37,38,39,40] [] (.loop [4,5] [] (b 0))
def CD (b:Nat→PC):PT:=
 (.ite (aj r5 (.llen (pc o3 4)))
 (.blockS ⟨[],[]⟩ 1 [4,43,44,45,46,47,48,49,50,51,60] []
 (.chk (au (pc o3 4) r5)
 (.chk xL
 (.call ⟨[],[]⟩ [] 49 210 [(.ai .quo .i64 (pn (pc o3 4) r5) (pi 100)),(pi 1),(pi 12)]
 (.chk (.nt (.an (.an (.nt (.nt mc)) pT) (.nt (au (pc o3 4) r5))))
 (.chk (.nt (.an (.an (.nt (.nt mc)) pT) (.nt xL)))
 (.call ⟨[(51,(.nt mc))],[]⟩ [(51,false)] 58 210 [(.ai .rem .i64 (pn (pc o3 4) r5) (pi 100)),(pi 1),(pi 31)]
 (.ite (.pick kY pT (.nt Cq))
 (.ret pF)
 (.next ⟨[],[]⟩))))))))
 (.next ⟨[(5,uV)],[]⟩))
 (.exit 0 ⟨[(36,r5),(37,pN),(38,(pc o3 4)),(39,(.llen (pc o3 4))),(40,(aj r5 (.llen (pc o3 4))))],[]⟩))
def TH (b:Nat→PC):PT:=
 (.call ⟨[(4,pF)],[(3,(.mk [r1])),(2,(.mk [r0]))]⟩ [] 12 210 [(pc (.mk [r1]) 1),(pi 0),(bz (.llen xN) (pi 1))]
 (.call ⟨[(14,(.nt bM))],[]⟩ [(14,false)] 21 210 [(pc o3 2),(pi 0),(bz (.llen (pc o2 0)) (pi 1))]
 (.ite (.pick (.pick (.pick cL pT (.nt jU)) pT (aV (.llen (pc o3 4)) (pi 60))) pT (aV (.llen (pc o3 5)) (pi 200)))
 (.ret pF)
 (.brk ⟨[(5,(pi 0))],[]⟩
(atY b)
 (.call ⟨[],[]⟩ [] 63 259 [(pc o3 3),(pi 0),(pi 6)]
 (.call ⟨[(64,xP)],[]⟩ [(64,true)] 67 259 [(pc o3 4),(pi 0),(pi 2000)]
 (.call ⟨[(69,(.pick kZ sw pF))],[]⟩ [(69,true)] 72 259 [(pc o3 5),(pi 0),(pi 100000)]
 (.ret (.pick u9 Cs pF)))))))))
def aoL (b:Nat→PC):PT×List (Shp×PT):=(TH b,[(.lp 0 [4,5,36,37,38,39,40] [] [4,5] [],CD b)])
theorem Qb:zq.map told=some (aoL (ax zq)):=by kernel_rfl
theorem azy:tree IY=TH Mb:=aC Qb
theorem Rn:round 0 [4,5,36,37,38,39,40] [] [4,5] [] (Mb 0)=CD Mb:=be Qb 0 fun _=>rfl
theorem aki:zq=some IY:=aB Qb
end Rm
