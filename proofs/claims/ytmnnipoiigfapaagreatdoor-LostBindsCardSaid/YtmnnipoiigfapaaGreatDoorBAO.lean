/-
  Shared texts of this claim.
-/
import Derived.Test.YtmnnipoiigfapaaGreatDoorBAK
import Derived.KernelRfl
import Derived.Test.YtmnnipoiigfapaaGreatDoorBAL
import Derived.Test.YtmnnipoiigfapaaGreatDoorBAM
import Derived.Test.YtmnnipoiigfapaaGreatDoorBAN
import Derived.Test.YtmnnipoiigfapaaGreatDoorBAJ
import Derived.WalkKit
import Derived.WalkSpells
import Derived.Lib.SliceRun
import Derived.Lib.AppendZeros
import Derived.Laws.Strings
set_option linter.unusedVariables false
set_option maxRecDepth 100000
noncomputable section
namespace Rm
open Go Go.Proofs Cx
def C5:Option PC:=cF [8,9,15,39,58,74,11,12] [] Tryz.f93 93 [4,5,10]
def VF:PT:=
 (.blockS ⟨[],[(10,(.setc z3 0 (.mk [(pc (.mk [r1]) 5),(pc (.mk [r1]) 6),(pc (.mk [r1]) 7)]))),(5,(.mk [r1])),(4,(.mk [r0]))]⟩ 0 [8,9,15,16,17,18,19,25,26,32,33,38,39,40,41,42,43,47,48,52,53,57,58,59,60,61,65,66,69,70,73,74,75,76,77,80] []
 (.call ⟨[],[]⟩ [] 17 85 [(au 8 o4)]
 (.call ⟨[(19,(aO nJ (pi 0)))],[]⟩ [(19,false)] 23 120 [(au 8 o4),(pc o5 9)]
 (.call ⟨[(26,(.pick eB pT (.nt fV)))],[]⟩ [(26,false)] 30 120 [(au 8 o4),(pc o5 10)]
 (.call ⟨[(33,(.pick j9 pT (.nt nM)))],[]⟩ [(33,false)] 36 121 [(pc o5 8)]
 (.iteS ⟨[],[]⟩ (.pick ud pT (.nt iY)) [8,9,39,40,41,42,43,47,48,52,53,57,58,59,60,61,65,66,69,70,73,74,75,76,77,80] []
 (.ret (.tup [(pi 0),(pi 1)]))
 (.iteS ⟨[],[]⟩ (.pick (.pick (.pick (ah (pc bO 0) (pi 0)) pT (cS (pc bO 0) (pi 5))) pT (ah (pc bO 2) (pi 0))) pT (cS (pc bO 2) (pi 2))) [8,9,58,59,60,61,65,66,69,70,73,74,75,76,77,80] []
 (.ret (.tup [(pi 0),(pi 1)]))
 (.call ⟨[(61,(aO r2 (pi (-1))))],[]⟩ [(61,true)] 63 121 [r2]
 (.iteS ⟨[],[]⟩ (.pick (.pick (.pick mQ (.nt Fm) pF) pT (ah r3 (pi 0))) pT (aX r3 (pi 20000))) [8,9,74,75,76,77,80] []
 (.ret (.tup [(pi 0),(pi 1)]))
 (.call ⟨[],[]⟩ [] 76 122 [(.mk [(pc bO 0),(pc bO 1),(pc bO 2)])]
 (.ite (.pick ui (aj r2 (pi (-1))) pF)
 (.ret (.tup [(pi 0),(pi 4)]))
 (.next ⟨[],[]⟩)))
 (.next ⟨[],[]⟩)))
 (.next ⟨[],[]⟩))
 (.next ⟨[],[]⟩))))))
 (.call ⟨[],[]⟩ [] 85 123 [(au 8 o4),(au 15 o5),r2]
 (.ite (aO (.tget Fq 1) (pi 0))
 (.ret (.tup [(pi 0),(.tget Fq 1)]))
 (.call ⟨[(11,(.tget Fq 0))],[]⟩ [] 92 121 [(.tget Fq 0)]
 (.ite (.pick (.nt Se) pT (aX (aL bJ r3) (pi 100000)))
 (.ret (.tup [(pi 0),(pi 3)]))
 (.call ⟨[],[]⟩ [] 106 124 [(au 8 o4),(pc o5 10),(aL bJ r3)]
 (.ret (.tup [(.tget R3 0),(.tget R3 1)]))))))))
theorem acW:C5.map told=some (VF,[]):=by kernel_rfl
theorem avZ:tree (ab C5)=VF:=aV acW
def Is:Option PC:=cF [4] [] Tryz.f120 120 [2]
def VH:PT:=
 (.ret (.pick (cS r1 (pi 0)) (ah r1 (.llen uc)) pF))
theorem ac0:Is.map told=some (VH,[]):=by kernel_rfl
theorem av1:tree (ab Is)=VH:=aV ac0
def It:Option PC:=cF [2] [] Tryz.f121 121 []
def VI:PT:=
 (.ret (.pick (cS r0 (pi 0)) (bD r0 (pi 100000)) pF))
theorem ac1:It.map told=some (VI,[]):=by kernel_rfl
theorem av2:tree (ab It)=VI:=aV ac1
def Ir:Option PC:=cF [2] [] Tryz.f122 122 [1]
def VG:PT:=
 (.ret (.pick (aj ln (pi 0)) pT (aj ln (pi 1))))
theorem acX:Ir.map told=some (VG,[]):=by kernel_rfl
theorem av0:tree (ab Ir)=VG:=aV acX
def C7:Option PC:=cF [6,7,13,16,24,33,8,9] [] Tryz.f123 123 [3,4]
def yz:PT:=
 (.blockS ⟨[(12,(pc (.mk [r1]) 5))],[(4,(.mk [r1])),(3,(.mk [r0]))]⟩ 0 [6,7,13,14,16,17,24,25,33,34] []
 (.iteS ⟨[],[]⟩ (aj bH (pi 0)) [6,7,16,17,24,25,33,34] []
 (.ret (.tup [r2,(pi 0)]))
 (.iteS ⟨[],[]⟩ (aj bH (pi 1)) [6,7,24,25,33,34] []
 (.call ⟨[],[]⟩ [] 21 137 [r2,(.mk [(pc o4 5),(pc o4 6),(pc o4 7)])]
 (.ret (.tup [(.tget iX 0),(.tget iX 1)])))
 (.iteS ⟨[],[]⟩ (aj bH (pi 2)) [6,7,33,34] []
 (.call ⟨[],[]⟩ [] 30 137 [(pc o4 8),(.mk [(pc o4 5),(pc o4 6),(pc o4 7)])]
 (.ret (.tup [(.tget nM 0),(.tget nM 1)])))
 (.iteS ⟨[],[]⟩ (aj bH (pi 4)) [6,7] []
 (.call ⟨[],[]⟩ [] 41 88 [(au 8 o3),(pc o4 9),(pc o4 10)]
 (.ret (.tup [(aL (pc o4 8) (.tget oU 0)),(.tget oU 1)])))
 (.next ⟨[],[]⟩)
 (.next ⟨[],[]⟩))
 (.next ⟨[],[]⟩))
 (.next ⟨[],[]⟩))
 (.next ⟨[],[]⟩))
 (.ret (.tup [(pc o4 6),(pi 0)])))
theorem acZ:C7.map told=some (yz,[]):=by kernel_rfl
theorem GI:tree (ab C7)=yz:=aV acZ
def C6:Option PC:=cF [4,5] [] Tryz.f137 137 [3]
def Cf:PT:=
 (.ite (.pick (ah (pc (.mk [r1]) 1) (pi 0)) pT (aX (pc (.mk [r1]) 1) (pi 20000)))
 (.ret (.tup [(pi 0),(pi 3)]))
 (.iteS ⟨[],[(3,(.mk [r1]))]⟩ (aj (pc (.mk [r1]) 2) (pi 1)) [4,5] []
 (.call ⟨[],[]⟩ [] 20 153 [r0,(pc o3 1)]
 (.ret (.tup [(.tget cv 0),(.tget cv 1)])))
 (.next ⟨[],[]⟩)
 (.ret (.tup [(aL r0 (pc o3 1)),(pi 0)]))))
theorem acY:C6.map told=some (Cf,[]):=by kernel_rfl
theorem Mh:tree (ab C6)=Cf:=aV acY
def C1:Option PC:=cF [4,5,6,7,8,9] [] Tryz.f153 153 []
def Mb:PT:=
 (.call ⟨[],[]⟩ [] 11 154 [r0]
 (.ite (.pick (.pick (.nt bJ) pT (ah r1 (pi (-5000)))) pT (aX r1 (pi 5000)))
 (.ret (.tup [(pi 0),(pi 3)]))
 (.call ⟨[],[]⟩ [] 23 166 [r0]
 (.chk (aO (pi 12) (pi 0))
 (.call ⟨[(41,(.tget fV 2)),(40,(aL (.ai .rem .i64 KY (pi 12)) (pi 1))),(39,(.ai .quo .i64 KY (pi 12)))],[]⟩ [] 44 168 [(.ai .quo .i64 KY (pi 12)),(aL (.ai .rem .i64 KY (pi 12)) (pi 1))]
 (.call ⟨[],[]⟩ [] 46 167 [rY,qG,(.mn oU sc)]
 (.ret (.tup [(.tget BP 0),(.tget BP 1)]))))))))
theorem ab3:C1.map told=some (Mb,[]):=by kernel_rfl
theorem afL:tree (ab C1)=Mb:=aV ab3
def HF:Option PC:=cF [2] [] Tryz.f154 154 []
def Uc:PT:=
 (.ret (.pick (bD (pi 0) r0) (bD r0 (pi 100000)) pF))
theorem aca:HF.map told=some (Uc,[]):=by kernel_rfl
theorem aus:tree (ab HF)=Uc:=aV aca
def HB:Option PC:=cF [2,3,4,5,6,7,8,9] [] Tryz.f166 166 []
def T8:PT:=
 (.chk (aO (pi 146097) (pi 0))
 (.chk (aO (pi 1460) (pi 0))
 (.chk (aO (pi 36524) (pi 0))
 (.chk (aO (pi 146096) (pi 0))
 (.chk (aO (pi 365) (pi 0))
 (.chk (aO (pi 4) (pi 0))
 (.chk BN
 (.chk (aO (pi 153) (pi 0))
 (.chk (aO (pi 5) (pi 0))
 (.ret (.tup [(.pick (ah aee (pi 3)) (aL adL (pi 1)) adL),aee,(aL (bE (bE (.ai .rem .i64 (aL r0 (pi 730425)) (pi 146097)) (bE (aL (.ai .mul .i64 (pi 365) xY) (.ai .quo .i64 xY (pi 4))) (.ai .quo .i64 xY (pi 100)))) (.ai .quo .i64 (aL (.ai .mul .i64 (pi 153) K4) (pi 2)) (pi 5))) (pi 1))])))))))))))
theorem ab5:HB.map told=some (T8,[]):=by kernel_rfl
theorem aun:tree (ab HB)=T8:=aV ab5
def HD:Option PC:=cF [4] [] Tryz.f168 168 []
def Md:PT:=
 (.ite (aj r1 (pi 12))
 (.ret (pi 31))
 (.call ⟨[],[]⟩ [] 10 172 [r0,(aL r1 (pi 1)),(pi 1)]
 (.call ⟨[],[]⟩ [] 13 172 [r0,r1,(pi 1)]
 (.ret (bE cO cU)))))
theorem ab7:HD.map told=some (Md,[]):=by kernel_rfl
theorem auq:tree (ab HD)=Md:=aV ab7
def C3:Option PC:=cF [6,0,1] [] Tryz.f172 172 []
def Me:PT:=
 (.chk (aO (pi 4) (pi 0))
 (.chk BN
 (.chk (aO (pi 400) (pi 0))
 (.chk (aO (pi 5) (pi 0))
 (.ret (bE (bE (aL (aL (aL (bE (aL (.ai .mul .i64 (pi 365) K5) (.ai .quo .i64 K5 (pi 4))) (.ai .quo .i64 K5 (pi 100))) (.ai .quo .i64 K5 (pi 400))) (.ai .quo .i64 (aL (.ai .mul .i64 (pi 153) (bE (.pick (ah r1 (pi 3)) (aL r1 (pi 12)) r1) (pi 3))) (pi 2)) (pi 5))) r2) (pi 1)) (pi 730425)))))))
theorem ab8:C3.map told=some (Me,[]):=by kernel_rfl
theorem afM:tree (ab C3)=Me:=aV ab8
def C2:Option PC:=cF [6,7,8] [] Tryz.f167 167 []
def Ce:PT:=
 (.call ⟨[(28,r2),(27,(.pick (.pick (.pick (.pick (ah r0 (pi 2000)) pT (aX r0 (pi 2300))) pT (ah r1 (pi 1))) pT (aX r1 (pi 12))) pT (ah r2 (pi 1))))],[]⟩ [(27,false)] 31 168 [r0,r1]
 (.ite (.pick ei pT (aX qE qF))
 (.ret (.tup [(pi 0),(pi 3)]))
 (.call ⟨[],[]⟩ [] 37 172 [r0,r1,r2]
 (.call ⟨[(8,mO)],[]⟩ [] 39 154 [mO]
 (.ite (.nt rY)
 (.ret (.tup [(pi 0),(pi 3)]))
 (.ret (.tup [r8,(pi 0)])))))))
theorem ab4:C2.map told=some (Ce,[]):=by kernel_rfl
theorem Mc:tree (ab C2)=Ce:=aV ab4
def zT:Option PC:=cF [6,7,8,2,9,10] [] Tryz.f124 124 [3]
def NB:Nat→PC:=bn zT
def ap1 (b:Nat→PC):PC:=.block 0 [] [] (.loop [2,6,7] [] (b 0))
def Tf (b:Nat→PC):PT:=
 (.blockS ⟨[],[]⟩ 1 [2,6,7,9,10,14,15,16,17,18,19,20,21,22,23,24,25,26,27,28,29,30,31,32,34] []
 (.call ⟨[],[]⟩ [] 17 138 [(au 8 o3),r8,r2]
 (.chk (ar (pc o3 1) r1)
 (.call ⟨[(2,nJ)],[]⟩ [] 25 139 [(pn (pc o3 1) r1),nJ]
 (.ite (aO (.tget iv 1) (pi 0))
 (.ret (.tup [(pi 0),(pi 3)]))
 (.ite (aj (.tget iv 0) r2)
 (.ret (.tup [r2,(pi 0)]))
 (.next ⟨[(2,(.tget iv 0))],[]⟩))))))
 (.next ⟨[],[]⟩))
def VJ (b:Nat→PC):PT:=
 (.call ⟨[(7,(pi 0)),(6,(pi 0))],[(3,(.mk [r0]))]⟩ [] 13 128 [jA,r1]
 (.brk ⟨[(8,cU)],[]⟩
(ap1 b)
 (.next ⟨[],[]⟩)))
def akB (b:Nat→PC):PT×List (Shp×PT):=(VJ b,[(.lp 0 [] [] [2,6,7] [],Tf b)])
theorem Rm:zT.map told=some (akB (bj zT)):=by kernel_rfl
theorem av3:tree (ab zT)=VJ NB:=bB Rm
theorem asI:round 0 [] [] [2,6,7] [] (NB 0)=Tf NB:=be Rm 0 fun _=>rfl
def zU:Option PC:=cF [6,7,2] [] Tryz.f138 138 [3,9]
def CT:Nat→PC:=bn zU
def ap2 (b:Nat→PC):PC:=.block 2 [2,7,14,15] [] (.loop [2,7,14] [] (b 0))
def ap3 (b:Nat→PC):PC:=.block 0 [2,7,10] [] (.loop [2,7] [] (b 1))
def BY (b:Nat→PC):PT:=
 (.ite nI
 (.chk (ar bH cI)
 (.next ⟨[(2,(.pick adK (aL (pc BJ 2) (pi 1)) r2)),(7,(.pick adK pT r7)),(14,BE)],[]⟩))
 (.exit 2 ⟨[(15,nI)],[]⟩))
def LB (b:Nat→PC):PT:=
 (.ite r7
 (.blockS ⟨[(10,r7)],[]⟩ 1 [2,7,11,12,13,14,15] []
 (.brk ⟨[(14,(pi 0)),(13,(.llen (pc o3 7))),(12,(pc o3 7)),(7,pF)],[]⟩
(ap2 b)
 (.next ⟨[],[]⟩))
 (.next ⟨[],[]⟩))
 (.exit 0 ⟨[(10,r7)],[]⟩))
def VK (b:Nat→PC):PT:=
 (.brk ⟨[(7,pT)],[(3,(.mk [r0]))]⟩
(ap3 b)
 (.ret r2))
def akC (b:Nat→PC):PT×List (Shp×PT):=(VK b,[(.lp 2 [2,7,14,15] [] [2,7,14] [],BY b),(.lp 0 [2,7,10] [] [2,7] [],LB b)])
theorem KG:zU.map told=some (akC (bj zU)):=by kernel_rfl
theorem av4:tree (ab zU)=VK CT:=bB KG
theorem LA:round 2 [2,7,14,15] [] [2,7,14] [] (CT 0)=BY CT:=be KG 0 fun _=>rfl
theorem aeL:round 0 [2,7,10] [] [2,7] [] (CT 1)=LB CT:=be KG 1 fun _=>rfl
def y3:Option PC:=cF [6] [] Tryz.f139 139 [2,4,5]
def M0:Nat→PC:=bn y3
def ai0 (b:Nat→PC):PC:=.each fA [16] [4,5] (some (.tup [(pc o4 0),(pc o5 0)])) (b 0)
def Sl (b:Nat→PC):PT:=
 (.exit 1000000007 ⟨[],[(4,(.setc o4 0 dI)),(5,(.setc o5 0 (pi 0)))]⟩)
def T7 (b:Nat→PC):PT:=
 (.call ⟨[],[(5,BM),(4,BM),(2,(.mk [r0]))]⟩ [] 8 154 [r1]
 (.ite (.nt r8)
 (.ret (.tup [(pc (.setc o4 0 (pi 0)) 0),(pc (.setc o5 0 (pi 3)) 0)]))
 (.call ⟨[],[]⟩ [] 15 155 [(au 6 o2),r1,(.mn (aL r1 (pi 400)) (pi 100000))]
 (.blockS ⟨[],[]⟩ 0 [] [4,5]
 (.callc ⟨[],[]⟩ [] 18 jB []
 (.brk ⟨[],[]⟩
(ai0 b)
 (.next ⟨[],[]⟩)))
 (.ret (.tup [(pc (.setc o4 0 (pi 0)) 0),(pc (.setc o5 0 (pi 3)) 0)]))))))
def ajL (b:Nat→PC):PT×List (Shp×PT):=(T7 b,[(.ea [4,5],Sl b)])
theorem QK:y3.map told=some (ajL (bj y3)):=by kernel_rfl
theorem aum:tree (ab y3)=T7 M0:=bB QK
theorem asD:oX [4,5] (M0 0)=Sl M0:=L7 QK 0 fun _=>rfl
def HC:Option PC:=cF [6] [] Tryz.f155 155 [3,4,5]
def T9:PT:=
 (.ret (.clo 169 [(.ref (pc (.mk [r1]) 0)),(.ref (pc (.mk [r2]) 0)),(.ref (au 6 (.mk [r0])))]))
theorem ab6:HC.map told=some (T9,[]):=by kernel_rfl
theorem aup:tree (ab HC)=T9:=aV ab6
def sV:Option PC:=wC {ctx with fr:=[5],nh:=[]} Tryz.f169 [(.ref I),(.ref I),(.ref Y0)] [I] 1000 [1000]
def M1:Nat→PC:=bn sV
def aoT (b:Nat→PC):PC:=.block 0 [5,7,8,9] [1000] (.loop [5] [1000] (b 0))
def Lc (b:Nat→PC):PT:=
 (.ite (bD r5 (.deref r2))
 (.blockS ⟨[],[]⟩ 1 [12,13,14,15,20] [1000]
 (.call ⟨[],[]⟩ [] 14 170 [(.deref r3),r5]
 (.call ⟨[(15,cI)],[(1000,aed)]⟩ [(15,true)] 18 1000000009 [aed]
 (.ite (.pick jB (.nt fA) pF)
 (.ret (.o 1000))
 (.next ⟨[],[]⟩))))
 (.next ⟨[(5,yc)],[]⟩))
 (.exit 0 ⟨[(7,r5),(8,(.deref r2)),(9,(bD r5 (.deref r2)))],[]⟩))
def Ua (b:Nat→PC):PT:=
 (.brk ⟨[(5,(.deref r1))],[]⟩
(aoT b)
 (.ret (.o 1000)))
def ajM (b:Nat→PC):PT×List (Shp×PT):=(Ua b,[(.lp 0 [5,7,8,9] [1000] [5] [1000],Lc b)])
theorem QL:sV.map told=some (ajM (bj sV)):=by kernel_rfl
theorem auo:tree (ab sV)=Ua M1:=bB QL
theorem aes:round 0 [5,7,8,9] [1000] [5] [1000] (M1 0)=Lc M1:=be QL 0 fun _=>rfl
theorem ahA:∀yv,wC {ctx with fr:=[5],nh:=[],yv:=yv} Tryz.f169 [(.ref I),(.ref I),(.ref Y0)] [I] 1000 [1000]=some (ab sV):=fun yv=>(show _=sV by kernel_rfl).trans (ax sV QL)
def HE:Option PC:=cF [4,5,6,7] [] Tryz.f170 170 [2]
def Ub:PT:=
 (.call ⟨[],[(2,(.mk [r0]))]⟩ [] 10 166 [r1]
 (.chk (aO (pi 7) (pi 0))
 (.call ⟨[(7,(.tget cO 2)),(6,(.tget cO 1))],[]⟩ [] 19 23 [(pc o2 3),(.ai .rem .i64 (aL r1 (pi 5)) (pi 7))]
 (.call ⟨[(21,(.nt eB))],[]⟩ [(21,true)] 28 23 [(pc o2 4),(aL (.ai .mul .i64 (pi 100) r6) r7)]
 (.call ⟨[(31,(.pick iX (.nt qE) pF))],[]⟩ [(31,true)] 35 23 [(pc o2 5),r1]
 (.ret (.pick qF (.nt yg) pF)))))))
theorem ab9:HE.map told=some (Ub,[]):=by kernel_rfl
theorem aur:tree (ab HE)=Ub:=aV ab9
def Hy:Option PC:=cF [] [] Tryz.f47 47 [2,4,5,6]
def T3:PT:=
 (.chk (ar (pc (.mk [r0]) 25) r1)
 (.call ⟨[],[(6,(.setc adM 0 (.mk [r1,(pc Ff 0),(pc Ff 2),(pi 0),(pi 0),(pi 0),(.pick (aO (pc Ff 0) (pi 1)) (aj (.ai .and .i64 (pc Ff 8) (pi 1)) (pi 0)) pF)]))),(5,Ff),(4,adM),(2,(.mk [r0]))]⟩ [] 33 14 [RP,r1,(pc (.mk [r0]) 9)]
 (.iteS ⟨[],[]⟩ (.nt ud) [] [6]
 (.call ⟨[(36,(pc o2 29))],[]⟩ [] 39 75 [(au 31 o2),(pi 1),r1]
 (.call ⟨[],[]⟩ [] 42 75 [(au 31 o2),(pi 2),r1]
 (.call ⟨[],[]⟩ [] 44 74 [(.lst [iY,rY,rZ])]
 (.next ⟨[],[(6,(.setc o6 3 sc))]⟩))))
 (.next ⟨[],[]⟩)
 (.call ⟨[],[]⟩ [] 49 76 [(au 31 o2),r1]
 (.ret (au 7 (.setc o4 0 (au 7 (.pick (.pick (aj (pc o5 0) (pi 1)) pT (aj (pc o5 0) (pi 4))) (.setc R1 5 (.mn (pc R1 5) (pc o5 5))) R1)))))))))
theorem ab0:Hy.map told=some (T3,[]):=by kernel_rfl
theorem aui:tree (ab Hy)=T3:=aV ab0
def Hz:Option PC:=cF [6] [] Tryz.f75 75 [3,7]
def T4:PT:=
 (.call ⟨[],[]⟩ [] 23 65 [jA,(pc (.mk [r0]) 8),r1,(au 24 (.setc adW 0 (.mk [RP,r2,r2,(pi (-1)),(pc (.mk [r0]) 30),(pc (.mk [r0]) 9)])))]
 (.call ⟨[],[]⟩ [] 24 72 [fV]
 (.ret nK)))
theorem ab1:Hz.map told=some (T4,[]):=by kernel_rfl
theorem auj:tree (ab Hz)=T4:=aV ab1
def y1:Option PC:=cF [2,3,5,12,15] [] Tryz.f74 74 []
def MY:Nat→PC:=bn y1
def aoR (b:Nat→PC):PC:=.block 0 [2,3,8,9] [] (.loop [2,3,8] [] (b 0))
def Fs (b:Nat→PC):PT:=
 (.ite (ah r8 r7)
 (.chk (ar r6 r8)
 (.ite (aj (pn r6 r8) (pi 0))
 (.ret (pi 0))
 (.next ⟨[(3,(.pick (aj (pn r6 r8) (pi 2)) (pi 2) r3)),(8,rW)],[]⟩)))
 (.exit 0 ⟨[(9,(ah r8 r7))],[]⟩))
def TZ (b:Nat→PC):PT:=
 (.brk ⟨[(8,(pi 0)),(7,(.llen r0)),(6,r0),(3,(pi 1)),(2,(pi 0))],[]⟩
(aoR b)
 (.ret r3))
def ajJ (b:Nat→PC):PT×List (Shp×PT):=(TZ b,[(.lp 0 [2,3,8,9] [] [2,3,8] [],Fs b)])
theorem QI:y1.map told=some (ajJ (bj y1)):=by kernel_rfl
theorem aug:tree (ab y1)=TZ MY:=bB QI
theorem Sj:round 0 [2,3,8,9] [] [2,3,8] [] (MY 0)=Fs MY:=be QI 0 fun _=>rfl
def y2:Option PC:=cF [4,5,6,7,10,50,54] [] Tryz.f76 76 [2,9]
def MZ:Nat→PC:=bn y2
def aoS (b:Nat→PC):PC:=.block 0 [7,23,24] [] (.loop [7,23] [] (b 0))
def Ft (b:Nat→PC):PT:=
 (.ite (ah fV BO)
 (.chk (ar iX fV)
 (.next ⟨[(7,(.pick r7 pT (aX (pc (.setc z2 0 (pn iX fV)) 0) r1))),(23,(aL fV (pi 1)))],[]⟩))
 (.exit 0 ⟨[(24,(ah fV BO))],[]⟩))
def T5 (b:Nat→PC):PT:=
 (.call ⟨[(5,(pi 0))],[(2,(.mk [r0]))]⟩ [] 14 95 [RP,r1]
 (.brk ⟨[(23,(pi 0)),(22,(.llen (pc o2 26))),(21,(pc o2 26)),(7,pF),(6,(.llen (pc o2 26))),(5,cI)],[]⟩
(aoS b)
 (.ite (.nt r7)
 (.ret (.tup [(pi 0),r5]))
 (.chk (ar (pc o2 26) (bE r6 (pi 1)))
 (.call ⟨[(10,(pc (pn (pc o2 26) (bE r6 (pi 1))) 1))],[]⟩ [] 48 75 [(au 31 o2),(pi 4),r1]
 (.ite (aj jC (pi 1))
 (.ret (.tup [jC,cO]))
 (.ite (aj jC (pi 2))
 (.ret (.tup [jC,(.mn r5 cO)]))
 (.ret (.tup [jC,r5])))))))))
def ajK (b:Nat→PC):PT×List (Shp×PT):=(T5 b,[(.lp 0 [7,23,24] [] [7,23] [],Ft b)])
theorem QJ:y2.map told=some (ajK (bj y2)):=by kernel_rfl
theorem auk:tree (ab y2)=T5 MZ:=bB QJ
theorem Sk:round 0 [7,23,24] [] [7,23] [] (MZ 0)=Ft MZ:=be QJ 0 fun _=>rfl
def zc:Option PC:=cF [4,5] [] Tryz.f95 95 [2,7]
def Na:Nat→PC:=bn zc
def ao4 (b:Nat→PC):PC:=.block 0 [5,14,15] [] (.loop [5,14] [] (b 0))
def Lh (b:Nat→PC):PT:=
 (.ite nI
 (.chk (ar bH cI)
 (.next ⟨[(5,(.pick (bD (pc (.setc z2 0 (pn bH cI)) 0) r1) (pc (.setc z2 0 (pn bH cI)) 1) r5)),(14,BE)],[]⟩))
 (.exit 0 ⟨[(15,nI)],[]⟩))
def UC (b:Nat→PC):PT:=
 (.brk ⟨[(14,(pi 0)),(13,(.llen (pc (.mk [r0]) 16))),(12,(pc (.mk [r0]) 16)),(5,(pc (.mk [r0]) 3))],[]⟩
(ao4 b)
 (.ret r5))
def ajW (b:Nat→PC):PT×List (Shp×PT):=(UC b,[(.lp 0 [5,14,15] [] [5,14] [],Lh b)])
theorem QU:zc.map told=some (ajW (bj zc)):=by kernel_rfl
theorem auV:tree (ab zc)=UC Na:=bB QU
theorem aew:round 0 [5,14,15] [] [5,14] [] (Na 0)=Lh Na:=be QU 0 fun _=>rfl
def zr:Option PC:=cF [4,5,6,7,8] [] Tryz.f19 19 [2,3]
def sS:Nat→PC:=bn zr
def apq (b:Nat→PC):PC:=.block 0 [4,5,50,51,52,53,54] [] (.loop [4,5] [] (b 0))
def apr (b:Nat→PC):PC:=.block 2 [4,6,68,69,70,71,72] [] (.loop [4,6] [] (b 1))
def aps (b:Nat→PC):PC:=.block 4 [4,7,86,87,88,89,90] [] (.loop [4,7] [] (b 2))
def apt (b:Nat→PC):PC:=.block 6 [4,8,104,105,106,107,108] [] (.loop [4,8] [] (b 3))
def Lo (b:Nat→PC):PT:=
 (.ite (ah r5 (.llen (pc o2 15)))
 (.chk (ar (pc o2 15) r5)
 (.chk (ar (pc o3 15) r5)
 (.ite (.nt (.an (aj (pc ub 0) (pc tZ 0)) (.an (aj (pc ub 1) (pc tZ 1)) (.an (aj (pc ub 2) (pc tZ 2)) (.an (aj (pc ub 3) (pc tZ 3)) (.an (aj (pc ub 4) (pc tZ 4)) (.an (aj (pc ub 5) (pc tZ 5)) (.an (aj (pc ub 6) (pc tZ 6)) (.an (aj (pc ub 7) (pc tZ 7)) (.an (aj (pc ub 8) (pc tZ 8)) pT))))))))))
 (.ret pF)
 (.next ⟨[(5,yc)],[]⟩))))
 (.exit 0 ⟨[(50,r5),(51,pN),(52,(pc o2 15)),(53,(.llen (pc o2 15))),(54,(ah r5 (.llen (pc o2 15))))],[]⟩))
def Lp (b:Nat→PC):PT:=
 (.ite (ah r6 (.llen (pc o2 16)))
 (.chk (ar (pc o2 16) r6)
 (.chk (ar (pc o3 16) r6)
 (.ite (.nt (.an (aj (pc (pn (pc o2 16) r6) 0) (pc (pn (pc o3 16) r6) 0)) (.an (aj (pc (pn (pc o2 16) r6) 1) (pc (pn (pc o3 16) r6) 1)) pT)))
 (.ret pF)
 (.next ⟨[(6,(aL r6 (pi 1)))],[]⟩))))
 (.exit 2 ⟨[(68,r6),(69,pN),(70,(pc o2 16)),(71,(.llen (pc o2 16))),(72,(ah r6 (.llen (pc o2 16))))],[]⟩))
def Lq (b:Nat→PC):PT:=
 (.ite (ah r7 (.llen (pc o2 17)))
 (.chk (ar (pc o2 17) r7)
 (.chk (ar (pc o3 17) r7)
 (.ite (.nt (.an (aj (pc ua 0) (pc tY 0)) (.an (aj (pc ua 1) (pc tY 1)) (.an (aj (pc ua 2) (pc tY 2)) (.an (aj (pc ua 3) (pc tY 3)) (.an (aj (pc ua 4) (pc tY 4)) (.an (aj (pc ua 5) (pc tY 5)) (.an (aj (pc ua 6) (pc tY 6)) (.an (aj (pc ua 7) (pc tY 7)) (.an (aj (pc ua 8) (pc tY 8)) pT))))))))))
 (.ret pF)
 (.next ⟨[(7,(aL r7 (pi 1)))],[]⟩))))
 (.exit 4 ⟨[(86,r7),(87,pN),(88,(pc o2 17)),(89,(.llen (pc o2 17))),(90,(ah r7 (.llen (pc o2 17))))],[]⟩))
def Lr (b:Nat→PC):PT:=
 (.ite (ah r8 (.llen (pc o2 18)))
 (.chk (ar (pc o2 18) r8)
 (.chk (ar (pc o3 18) r8)
 (.ite (.nt (.an (aj (pc (pn (pc o2 18) r8) 0) (pc (pn (pc o3 18) r8) 0)) (.an (aj (pc (pn (pc o2 18) r8) 1) (pc (pn (pc o3 18) r8) 1)) (.an (aj (pc (pn (pc o2 18) r8) 2) (pc (pn (pc o3 18) r8) 2)) pT))))
 (.ret pF)
 (.next ⟨[(8,rW)],[]⟩))))
 (.exit 6 ⟨[(104,r8),(105,pN),(106,(pc o2 18)),(107,(.llen (pc o2 18))),(108,(ah r8 (.llen (pc o2 18))))],[]⟩))
def U0 (b:Nat→PC):PT:=
 (.ite (.pick (.pick (.pick (.pick (.nt (.an (aj (pc lj 0) (pc j8 0)) (.an (aj (pc lj 1) (pc j8 1)) (.an (aj (pc lj 2) (pc j8 2)) (.an (aj (pc lj 3) (pc j8 3)) (.an (aj (pc lj 4) (pc j8 4)) (.an (.an (aj (pc lj 5) (pc j8 5)) (.an (aj (pc lj 6) (pc j8 6)) (.an (aj (pc lj 7) (pc j8 7)) pT))) (.an (aj (pc lj 8) (pc j8 8)) (.an (aj (pc lj 9) (pc j8 9)) (.an (aj (pc lj 10) (pc j8 10)) (.an (aj (pc lj 11) (pc j8 11)) (.an (aj (pc lj 12) (pc j8 12)) (.an (aj (pc lj 13) (pc j8 13)) (.an (aj (pc lj 14) (pc j8 14)) pT)))))))))))))) pT (aO (.llen oR) (.llen (pc (.mk [r1]) 15)))) pT (aO (.llen (pc (.mk [r0]) 16)) (.llen (pc (.mk [r1]) 16)))) pT (aO (.llen BC) (.llen (pc (.mk [r1]) 17)))) pT (aO (.llen BB) (.llen (pc (.mk [r1]) 18))))
 (.ret pF)
 (.brk ⟨[(5,(pi 0)),(4,pF)],[(3,(.mk [r1])),(2,(.mk [r0]))]⟩
(apq b)
 (.brk ⟨[(6,(pi 0))],[]⟩
(apr b)
 (.brk ⟨[(7,(pi 0))],[]⟩
(aps b)
 (.brk ⟨[(8,(pi 0))],[]⟩
(apt b)
 (.ret pT))))))
def akb (b:Nat→PC):PT×List (Shp×PT):=(U0 b,[(.lp 0 [4,5,50,51,52,53,54] [] [4,5] [],Lo b),(.lp 2 [4,6,68,69,70,71,72] [] [4,6] [],Lp b),(.lp 4 [4,7,86,87,88,89,90] [] [4,7] [],Lq b),(.lp 6 [4,8,104,105,106,107,108] [] [4,8] [],Lr b)])
theorem Bd:zr.map told=some (akb (bj zr)):=by kernel_rfl
theorem avj:tree (ab zr)=U0 sS:=bB Bd
theorem aeA:round 0 [4,5,50,51,52,53,54] [] [4,5] [] (sS 0)=Lo sS:=be Bd 0 fun _=>rfl
theorem aeB:round 2 [4,6,68,69,70,71,72] [] [4,6] [] (sS 1)=Lp sS:=be Bd 1 fun _=>rfl
theorem aeC:round 4 [4,7,86,87,88,89,90] [] [4,7] [] (sS 2)=Lq sS:=be Bd 2 fun _=>rfl
theorem aeD:round 6 [4,8,104,105,106,107,108] [] [4,8] [] (sS 3)=Lr sS:=be Bd 3 fun _=>rfl
def Hv:Option PC:=mh {ctx with fr:=[6],nh:=[]} Tryz.f102 ⟨[Y8,I,q6],.slice I,.dat⟩ [3,5,7,8,42,9]
def TX:PT:=
 (.chk (ar (pc (.mk [r2]) 15) (pc (.mk [r2]) 19))
 (.ite ad0
 (.ret pL)
 (.chk (.an (cS (pi 5) (pi 0)) (bD (pi 5) cu))
 (.chk (aj (pi 5) (pi 5))
 (.chk (ar (.rep (pi 5) (pi 0)) (pi 0))
 (.call ⟨[],[(9,(.setn (.rep (pi 5) (pi 0)) (pi 0) 0 r1)),(8,(.setc GS 0 (au 15 (.mk [r2])))),(7,BH),(3,(.mk [r0]))]⟩ [] 50 128 [jA,(pc BH 7)]
 (.chk (ar o9 (pi 1))
 (.call ⟨[],[(9,(.setn o9 (pi 1) 0 mP))]⟩ [] 56 128 [(au 8 o3),(pc o8 10)]
 (.chk (ar o9 (pi 2))
 (.call ⟨[],[(9,(.setn o9 (pi 2) 0 sf))]⟩ [] 62 128 [(au 8 o3),(pc o8 9)]
 (.chk (ar o9 (pi 3))
 (.chk (ar (pc o3 3) (pc o7 2))
 (.call ⟨[],[(9,(.setn o9 (pi 3) 0 nO))]⟩ [] 73 128 [(au 8 o3),(pc (pn (pc o3 3) (pc o7 2)) 1)]
 (.chk (ar o9 (pi 4))
 (.call ⟨[],[(9,(.setn o9 (pi 4) 0 Fp))]⟩ [] 76 23 [(.setn o9 (pi 4) 0 Fp),(pi (-1))]
 (.ite ui
 (.ret pL)
 (.ret o9)))))))))))))))))
theorem abX:Hv.map told=some (TX,[]):=by kernel_rfl
theorem aud:tree (ab Hv)=TX:=aV abX
def Hw:Option PC:=mh {ctx with fr:=[6],nh:=[]} Tryz.f102 ⟨[Y8,I,q6],.nils .bool,.dat⟩ [3,5,7,8,42,9]
def Ma:PT:=
 (.chk (ar (pc (.mk [r2]) 15) (pc (.mk [r2]) 19))
 (.ite ad0
 (.ret pL)
 (.chk (.an (cS (pi 5) (pi 0)) (bD (pi 5) cu))
 (.chk (aj (pi 5) (pi 5))
 (.chk (ar (.rep (pi 5) (pi 0)) (pi 0))
 (.call ⟨[],[(9,(.setn (.rep (pi 5) (pi 0)) (pi 0) 0 r1)),(8,(.setc GS 0 (au 15 (.mk [r2])))),(7,BH),(3,(.mk [r0]))]⟩ [] 50 128 [jA,(pc BH 7)]
 (.chk (ar o9 (pi 1))
 (.call ⟨[],[(9,(.setn o9 (pi 1) 0 mP))]⟩ [] 56 128 [(au 8 o3),(pc o8 10)]
 (.chk (ar o9 (pi 2))
 (.call ⟨[],[(9,(.setn o9 (pi 2) 0 sf))]⟩ [] 62 128 [(au 8 o3),(pc o8 9)]
 (.chk (ar o9 (pi 3))
 (.chk (ar (pc o3 3) (pc o7 2))
 (.call ⟨[],[(9,(.setn o9 (pi 3) 0 nO))]⟩ [] 73 128 [(au 8 o3),(pc (pn (pc o3 3) (pc o7 2)) 1)]
 (.chk (ar o9 (pi 4))
 (.call ⟨[],[]⟩ [] 76 23 [(.setn o9 (pi 4) 0 Fp),(pi (-1))]
 (.ite ui
 (.ret pL)
 (.chk pF
 (.next ⟨[],[]⟩))))))))))))))))))
theorem abY:Hw.map told=some (Ma,[]):=by kernel_rfl
theorem aue:tree (ab Hw)=Ma:=aV abY
end Rm
namespace Rm
open Go Go.Proofs Cx
def Rz:List Nat:=[6,7,20,16,17,36,66,85,106,107,135,151,152,165,108,109,110,111,136,112,113,114,115,116,86,87,88,67,68,89,117,118,23,56,69,90,70,92,119,91,37,38,39,40,41,42,43,71,44,45,35,65,83,100,13,32,127,141,140,156,128,142,143,101,103,129,145,144,157,130,84,104,132,131,133,146,147,158,162,160,159,105,134,148,161,149,163,171,173,150,34,12,29,30,33,31,9,14,8,21,48,49,50,77,96,22,51,78,97,126,98,79,26,99,52,53,80,54,55,18,46,72,73,94,125,93,120,121,122,123,137,153,154,166,168,172,167,124,138,139,155,170,47,75,74,76,95,19]
def Bw:List (Nat×PC):=[(6,(ab y7)),(7,(ab HL)),(20,(ab C4)),(16,(ab za)),(17,(ab y9)),(36,(ab wz)),(66,(ab C8)),(85,(ab zw)),(106,(ab zB)),(107,(ab zz)),(135,(ab Ig)),(151,(ab zA)),(152,(ab Iq)),(165,(ab zR)),(108,(ab H9)),(109,(ab Ia)),(110,(ab zy)),(111,(ab If)),(136,(ab zE)),(112,(ab Ib)),(113,(ab Ic)),(114,(ab zC)),(115,(ab zG)),(116,(ab zD)),(86,(ab IJ)),(87,(ab IK)),(88,(ab zx)),(67,(ab zf)),(68,(ab H0)),(89,(ab HZ)),(117,(ab HY)),(118,(ab H2)),(23,(ab Ip)),(56,(ab zQ)),(69,(ab zd)),(90,(ab HX)),(70,(ab ze)),(92,(ab HG)),(119,(ab HH)),(91,(ab y4)),(37,(ab HM)),(38,(ab HS)),(39,(ab HN)),(40,(ab HO)),(41,(ab HP)),(42,(ab HQ)),(43,(ab Il)),(71,(ab zN)),(44,(ab HR)),(45,(ab zb)),(35,(ab Hp)),(65,(ab Ho)),(83,(ab Ht)),(100,(ab Hu)),(13,(ab zH)),(32,(ab Ij)),(127,(ab zK)),(141,(ab Ih)),(140,(ab Ik)),(156,(ab zM)),(128,(ab Ie)),(142,(ab Ii)),(143,(ab zI)),(101,(ab HU)),(103,(ab y5)),(129,(ab HI)),(145,(ab HJ)),(144,(ab Io)),(157,(ab zP)),(130,(ab y6)),(84,(ab HT)),(104,(ab HV)),(132,(ab HW)),(131,(ab zO)),(133,(ab Iu)),(146,(ab wB)),(147,(ab zV)),(158,(ab IA)),(162,(ab Iz)),(160,(ab Iw)),(159,(ab ID)),(105,(ab Iv)),(134,(ab zW)),(148,(ab IB)),(161,(ab IE)),(149,(ab Iy)),(163,(ab Ix)),(171,(ab IC)),(173,(ab HA)),(150,(ab zL)),(34,(ab Hr)),(12,(ab zX)),(29,(ab zY)),(30,(ab IG)),(33,(ab zZ)),(31,(ab II)),(9,(ab y8)),(14,(ab IF)),(8,(ab HK)),(21,(ab zu)),(48,(ab zh)),(49,(ab H7)),(50,(ab zt)),(77,(ab H8)),(96,(ab wA)),(22,(ab H3)),(51,(ab zm)),(78,(ab H6)),(97,(ab zi)),(126,(ab H4)),(98,(ab zg)),(79,(ab zj)),(26,(ab H5)),(99,(ab zl)),(52,(ab zn)),(53,(ab zo)),(80,(ab zk)),(54,(ab zq)),(55,(ab zp)),(18,(ab yZ)),(46,(ab Hx)),(72,(ab Hs)),(73,(ab Hq)),(94,(ab zJ)),(125,(ab zS)),(93,(ab C5)),(120,(ab Is)),(121,(ab It)),(122,(ab Ir)),(123,(ab C7)),(137,(ab C6)),(153,(ab C1)),(154,(ab HF)),(166,(ab HB)),(168,(ab HD)),(172,(ab C3)),(167,(ab C2)),(124,(ab zT)),(138,(ab zU)),(139,(ab y3)),(155,(ab HC)),(170,(ab HE)),(47,(ab Hy)),(75,(ab Hz)),(74,(ab y1)),(76,(ab y2)),(95,(ab zc)),(19,(ab zr))]
def tab:Nat→Option PC:=bI Bw
theorem adA:Bw.map (·.1)=Rz:=by kernel_rfl
theorem arR:(Bw.map (·.1)).Nodup:=by rw[adA];exact mI (by kernel_rfl)
theorem lA (k:Nat){f:Nat}{x:PC}(h:Bw[k]?=some (f,x)):tab f=some x:=aa6 arR h
theorem ag1:tab 20=some (ab C4):=lA 2 (by kernel_rfl)
theorem ag2:tab 36=some (ab wz):=lA 5 (by kernel_rfl)
theorem ag5:tab 66=some (ab C8):=lA 6 (by kernel_rfl)
theorem Xo:tab 146=some (ab wB):=lA 75 (by kernel_rfl)
theorem Xn:tab 96=some (ab wA):=lA 104 (by kernel_rfl)
theorem ag4:tab 93=some (ab C5):=lA 125 (by kernel_rfl)
theorem CF:tab 123=some (ab C7):=lA 129 (by kernel_rfl)
theorem Hg:tab 137=some (ab C6):=lA 130 (by kernel_rfl)
theorem Xl:tab 153=some (ab C1):=lA 131 (by kernel_rfl)
theorem Xm:tab 172=some (ab C3):=lA 135 (by kernel_rfl)
theorem Hf:tab 167=some (ab C2):=lA 136 (by kernel_rfl)
theorem caps:∀f cs,bI NM f=some cs→(mD cs.args cs.res=none→bI vN f=some ⟨cs.args++cs.caps,cs.res,.dat⟩)∧∀ys,mD cs.args cs.res=some ys→fq Rz f=false∧GH Tryz.prog f=true:=XC (l:=NM) (sig:=vN) (P:=Tryz.prog) (pcs:=Rz) (by kernel_rfl)
theorem clos:dp ctx:=⟨(fun f cs h=>(caps f cs h).1),fun f s h=>afG (l:=vN) (P:=Tryz.prog) (by kernel_rfl) f s h⟩
theorem its:∀f cs ys,ctx.cap f=some cs→mD cs.args cs.res=some ys→tab f=none∧∃fn,ctx.P.funcs[f]?=some fn∧fn.body.isSome=true∧(fn.name== "runtime.NumGoroutine")=false:=fun f cs ys h hi=>⟨aaX (l:=Bw) (by rw[adA];exact((caps f cs h).2 ys hi).1),at1 ((caps f cs h).2 ys hi).2⟩
theorem atN:∀f pc,tab f=some pc→∃fn s ids fr nh,ctx.P.funcs[f]?=some fn∧ctx.sig f=some s∧mh {ctx with fr:=fr,nh:=nh} fn s ids=some pc:=
 Qu (R:=fun f pc=>∃fn s ids fr nh,ctx.P.funcs[f]?=some fn∧ctx.sig f=some s∧mh {ctx with fr:=fr,nh:=nh} fn s ids=some pc) (l:=Bw)
  (az (aA [6,9,10,14,16,17,21,22] [12,13,15,18,19,20] [] Tryz.func6 rfl (ax y7 QP))
  (az (aA [1,2,3,24579,5] [0,4,6,8,9,10,1000003] [] Tryz.func7 rfl (ax HL aci))
  (az (aA [0,1,2,24578,3,12291,4,24580,28676,32772,5,65541,69637,73733,77829] [] [] Tryz.func20 rfl (ax C4 acg))
  (az (aA [5,7,8,12,15] [10,11,13] [] Tryz.func16 rfl (ax za QS))
  (az (aA [3,4,5,8,28,10] [6,7] [] Tryz.func17 rfl (ax y9 QR))
  (az (aA [2,3,10] [4,5,6,7,8,11] [] Tryz.func36 rfl (ax wz Ks))
  (az (aA [2,3] [4,5,6,7,8,54,80,109,118,9,10] [] Tryz.func66 rfl (ax C8 adi))
  (az (aA [1,9] [2,3,4,5,6,7,10,11,12] [] Tryz.func85 rfl (ax zw Q8))
  (az (aA [1,2,3,4,6,16390,20486,24582,21,8,34,10,12298,16394,47] [] [] Tryz.func106 rfl (ax zB E0))
  (az (aA [] [6,7,8] [] Tryz.func107 rfl (ax zz Rb))
  (az (aA [] [4] [] Tryz.func135 rfl (ax Ig acN))
  (az (aA [] [2,3,4,5] [] Tryz.func151 rfl (ax zA Rc))
  (az (aA [] [4] [] Tryz.func152 rfl (ax Iq acV))
  (az (aA [] [4,5] [] Tryz.func165 rfl (ax zR Rk))
  (az (aA [] [2] [] Tryz.func108 rfl (ax H9 acH))
  (az (aA [] [3] [] Tryz.func109 rfl (ax Ia acI))
  (az (aA [2,3] [4,6] [] Tryz.func110 rfl (ax zy Ra))
  (az (aA [] [4] [] Tryz.func111 rfl (ax If acM))
  (az (aA [] [6,7,8] [] Tryz.func136 rfl (ax zE Rd))
  (az (aA [] [3] [] Tryz.func112 rfl (ax Ib acJ))
  (az (aA [] [3] [] Tryz.func113 rfl (ax Ic acK))
  (az (aA [1,3,4,6,19,8,16392,36] [2] [] Tryz.func114 rfl (ax zC KA))
  (az (aA [1,4,6] [2,3] [] Tryz.func115 rfl (ax zG KC))
  (az (aA [1,4,6] [2] [] Tryz.func116 rfl (ax zD KB))
  (az (aA [] [4] [] Tryz.func86 rfl (ax IJ adj))
  (az (aA [1,3] [2,8,19,40] [] Tryz.func87 rfl (ax IK adk))
  (az (aA [3,9] [6,7] [] Tryz.func88 rfl (ax zx Q9))
  (az (aA [3,4,7,11] [6,8,9,76,92,98] [] Tryz.func67 rfl (ax zf QX))
  (az (aA [] [6] [] Tryz.func68 rfl (ax H0 acz))
  (az (aA [3,4,7,8] [6,9,10,66,103,113,11,140,149] [] Tryz.func89 rfl (ax HZ acy))
  (az (aA [3] [6,7] [] Tryz.func117 rfl (ax HY acx))
  (az (aA [3] [6] [] Tryz.func118 rfl (ax H2 acA))
  (az (aA [] [4] [] Tryz.func23 rfl (ax Ip acU))
  (az (aA [] [4,5] [] Tryz.func56 rfl (ax zQ Rj))
  (az (aA [2,3,6] [4,5,7] [] Tryz.func69 rfl (ax zd QV))
  (az (aA [3,4,5] [6,7,8,9,65,80,100,111] [] Tryz.func90 rfl (ax HX acw))
  (az (aA [1,4,5] [2,3] [] Tryz.func70 rfl (ax ze QW))
  (az (aA [] [4,5,6] [] Tryz.func92 rfl (ax HG acb))
  (az (aA [] [2] [] Tryz.func119 rfl (ax HH acd))
  (az (aA [] [2,3,5] [] Tryz.func91 rfl (ax y4 QM))
  (az (aA [2] [3] [] Tryz.func37 rfl (ax HM acj))
  (az (aA [2] [4] [] Tryz.func38 rfl (ax HS acq))
  (az (aA [] [2] [] Tryz.func39 rfl (ax HN ack))
  (az (aA [] [2] [] Tryz.func40 rfl (ax HO acm))
  (az (aA [] [1] [] Tryz.func41 rfl (ax HP acn))
  (az (aA [] [2] [] Tryz.func42 rfl (ax HQ aco))
  (az (aA [] [4] [] Tryz.func43 rfl (ax Il acS))
  (az (aA [] [4,5] [] Tryz.func71 rfl (ax zN Rg))
  (az (aA [] [2] [] Tryz.func44 rfl (ax HR acp))
  (az (aA [2,3,7] [4,5] [] Tryz.func45 rfl (ax zb QT))
  (az (aA [5,8,77832,10] [] [] Tryz.func35 rfl (ax Hp abR))
  (az (aA [4,7,8,9] [10] [] Tryz.func65 rfl (ax Ho abQ))
  (az (aA [4,7,8,10,16394] [9,11,12,13,14] [] Tryz.func83 rfl (ax Ht abV))
  (az (aA [2,3,4] [5] [] Tryz.func100 rfl (ax Hu abW))
  (az (aA [2,4,65540,69636,73732,77828,5,65541,69637,73733,77829,7,31,9,49,11,13] [1000004,1000005] [] Tryz.func13 rfl (ax zH Be))
  (az (aA [] [4] [] Tryz.func32 rfl (ax Ij acQ))
  (az (aA [2,3,5,6,8,10,90,139] [4,7,9,11,12,13,14,15,16] [] Tryz.func127 rfl (ax zK KE))
  (az (aA [2] [3] [] Tryz.func141 rfl (ax Ih acO))
  (az (aA [] [4] [] Tryz.func140 rfl (ax Ik acR))
  (az (aA [] [4,5] [] Tryz.func156 rfl (ax zM Rf))
  (az (aA [2] [4] [] Tryz.func128 rfl (ax Ie acL))
  (az (aA [2] [] [] Tryz.func142 rfl (ax Ii acP))
  (az (aA [3,6,8] [] [] Tryz.func143 rfl (ax zI Re))
  (az (aA [] [2,3,4,11] [] Tryz.func101 rfl (ax HU acs))
  (az (aA [4,10,53] [8,9,11,12,13,14,55,70] [] Tryz.func103 rfl (ax y5 QN))
  (az (aA [4,9] [8] [] Tryz.func129 rfl (ax HI ace))
  (az (aA [] [3] [] Tryz.func145 rfl (ax HJ acf))
  (az (aA [] [4] [] Tryz.func144 rfl (ax Io acT))
  (az (aA [] [4,5] [] Tryz.func157 rfl (ax zP Ri))
  (az (aA [4,11] [8,9] [] Tryz.func130 rfl (ax y6 QO))
  (az (aA [3,6,8,10] [7,9,11,12] [] Tryz.func84 rfl (ax HT acr))
  (az (aA [2,3,4,12292,9] [5,6,7,8,10,11] [] Tryz.func104 rfl (ax HV acu))
  (az (aA [2] [3] [] Tryz.func132 rfl (ax HW acv))
  (az (aA [] [4,5] [] Tryz.func131 rfl (ax zO Rh))
  (az (aA [1] [2,3] [] Tryz.func133 rfl (ax Iu ac2))
  (az (aA [2,7,12295] [4,5] [] Tryz.func146 rfl (ax wB Ro))
  (az (aA [1,4,6,12294,9] [2,3,5,7,8,38,47,10,11,12] [] Tryz.func147 rfl (ax zV KH))
  (az (aA [1] [2,3,12,20,4,5] [] Tryz.func158 rfl (ax IA ac8))
  (az (aA [] [2] [] Tryz.func162 rfl (ax Iz ac7))
  (az (aA [] [2,3,4,11] [] Tryz.func160 rfl (ax Iw ac4))
  (az (aA [2] [4,8,13,17,21] [] Tryz.func159 rfl (ax ID adb))
  (az (aA [2,4,7] [5,6,8] [] Tryz.func105 rfl (ax Iv ac3))
  (az (aA [2,3,4,6,33,7,8,10,12298,12] [5,15,21,9,11] [] Tryz.func134 rfl (ax zW Rn))
  (az (aA [2,4] [5,6] [] Tryz.func148 rfl (ax IB ac9))
  (az (aA [2] [] [] Tryz.func161 rfl (ax IE ade))
  (az (aA [4,5] [9,22,41,6,7,82,88,94] [] Tryz.func149 rfl (ax Iy ac6))
  (az (aA [] [6,8,14,20,25] [] Tryz.func163 rfl (ax Ix ac5))
  (az (aA [] [4,5,6,7] [] Tryz.func171 rfl (ax IC ada))
  (az (aA [] [4,5,6,7,8,9,10,11,12,13] [] Tryz.func173 rfl (ax HA ab2))
  (az (aA [6] [2,3,5,8] [] Tryz.func150 rfl (ax zL KF))
  (az (aA [1] [2] [] Tryz.func34 rfl (ax Hr abT))
  (az (aA [3,6,7,4103,24583,8,9,11,47] [10] [] Tryz.func12 rfl (ax zX Rp))
  (az (aA [2,9] [4,5,6,7] [] Tryz.func29 rfl (ax zY Rq))
  (az (aA [3,4,5] [6] [] Tryz.func30 rfl (ax IG adg))
  (az (aA [2,5,7] [4] [] Tryz.func33 rfl (ax zZ Rs))
  (az (aA [] [4,5,13] [] Tryz.func31 rfl (ax II adh))
  (az (aA [5,7,8,10,65546,69642,73738,77834,13,65549,69645,73741,77837,14,16,85] [11,12,15,2000038,1000013] [] Tryz.func9 rfl (ax y8 QQ))
  (az (aA [3] [6] [] Tryz.func14 rfl (ax IF adf))
  (az (aA [3,4,5] [6] [] Tryz.func8 rfl (ax HK ach))
  (az (aA [2,3] [4,5] [] Tryz.func21 rfl (ax zu Q7))
  (az (aA [1] [2,3,4] [] Tryz.func48 rfl (ax zh Kt))
  (az (aA [1] [2] [] Tryz.func49 rfl (ax H7 acF))
  (az (aA [1] [2,3] [] Tryz.func50 rfl (ax zt Q6))
  (az (aA [1] [2] [] Tryz.func77 rfl (ax H8 acG))
  (az (aA [3] [6,1,7] [] Tryz.func96 rfl (ax wA Q5))
  (az (aA [1] [2,3] [] Tryz.func22 rfl (ax H3 acB))
  (az (aA [1,5,44] [2,3,4,6,7] [] Tryz.func51 rfl (ax zm Kv))
  (az (aA [] [4] [] Tryz.func78 rfl (ax H6 acE))
  (az (aA [] [2,3,4] [] Tryz.func97 rfl (ax zi QZ))
  (az (aA [] [2] [] Tryz.func126 rfl (ax H4 acC))
  (az (aA [] [6,7] [] Tryz.func98 rfl (ax zg QY))
  (az (aA [2,3] [4,5] [] Tryz.func79 rfl (ax zj Q0))
  (az (aA [] [6] [] Tryz.func26 rfl (ax H5 acD))
  (az (aA [] [6,7] [] Tryz.func99 rfl (ax zl Q3))
  (az (aA [1,4,44] [2,3,5,6] [] Tryz.func52 rfl (ax zn Kw))
  (az (aA [1,3,24] [2,4,5] [] Tryz.func53 rfl (ax zo Q4))
  (az (aA [1] [2,3,4] [] Tryz.func80 rfl (ax zk Ku))
  (az (aA [1,4] [2,3,5] [] Tryz.func54 rfl (ax zq Kz))
  (az (aA [1,4,6] [2,3,5] [] Tryz.func55 rfl (ax zp Ky))
  (az (aA [4,6,9,10,28] [8,11] [] Tryz.func18 rfl (ax yZ QH))
  (az (aA [4,6,8,9] [] [] Tryz.func46 rfl (ax Hx abZ))
  (az (aA [1] [2,3,7,12] [] Tryz.func72 rfl (ax Hs abU))
  (az (aA [4,6] [8,9,10,11] [] Tryz.func73 rfl (ax Hq abS))
  (az (aA [1,3,6,8] [2,4] [] Tryz.func94 rfl (ax zJ KD))
  (az (aA [] [2,3,4] [] Tryz.func125 rfl (ax zS Rl))
  (az (aA [4,5,10] [8,9,15,39,58,74,11,12] [] Tryz.func93 rfl (ax C5 acW))
  (az (aA [2] [4] [] Tryz.func120 rfl (ax Is ac0))
  (az (aA [] [2] [] Tryz.func121 rfl (ax It ac1))
  (az (aA [1] [2] [] Tryz.func122 rfl (ax Ir acX))
  (az (aA [3,4] [6,7,13,16,24,33,8,9] [] Tryz.func123 rfl (ax C7 acZ))
  (az (aA [3] [4,5] [] Tryz.func137 rfl (ax C6 acY))
  (az (aA [] [4,5,6,7,8,9] [] Tryz.func153 rfl (ax C1 ab3))
  (az (aA [] [2] [] Tryz.func154 rfl (ax HF aca))
  (az (aA [] [2,3,4,5,6,7,8,9] [] Tryz.func166 rfl (ax HB ab5))
  (az (aA [] [4] [] Tryz.func168 rfl (ax HD ab7))
  (az (aA [] [6,0,1] [] Tryz.func172 rfl (ax C3 ab8))
  (az (aA [] [6,7,8] [] Tryz.func167 rfl (ax C2 ab4))
  (az (aA [3] [6,7,8,2,9,10] [] Tryz.func124 rfl (ax zT Rm))
  (az (aA [3,9] [6,7,2] [] Tryz.func138 rfl (ax zU KG))
  (az (aA [2,4,5] [6] [] Tryz.func139 rfl (ax y3 QK))
  (az (aA [3,4,5] [6] [] Tryz.func155 rfl (ax HC ab6))
  (az (aA [2] [4,5,6,7] [] Tryz.func170 rfl (ax HE ab9))
  (az (aA [2,4,5,6] [] [] Tryz.func47 rfl (ax Hy ab0))
  (az (aA [3,7] [6] [] Tryz.func75 rfl (ax Hz ab1))
  (az (aA [] [2,3,5,12,15] [] Tryz.func74 rfl (ax y1 QI))
  (az (aA [2,9] [4,5,6,7,10,50,54] [] Tryz.func76 rfl (ax y2 QJ))
  (az (aA [2,7] [4,5] [] Tryz.func95 rfl (ax zc QU))
  (az (aA [2,3] [4,5,6,7,8] [] Tryz.func19 rfl (ax zr Bd))
  trivial))))))))))))))))))))))))))))))))))))))))))))))))))))))))))))))))))))))))))))))))))))))))))))))))))))))))))))))))))))))))))))))))))))))))))))))))))))
end Rm
set_option linter.unusedSimpArgs false
namespace Rm
open Go Go.Proofs Cx Go.RowKit Go.Lib
theorem aoh:(Tryz.prog.info? 3).map (fun i=>(i.zero,i.size,i.bytes))=some (some (.int .i64 0),1,8):=by kernel_rfl
set_option maxHeartbeats 2000000 in
set_option maxRecDepth 100000 in
theorem ak3 (w:World):Calls Tryz.prog 164 #[.slice none 0 0,.int .i64 0] w fun e w'=>e=.returned (.slice none 0 0)∧w'=w:=by
 go_enter Tryz.func164,Tryz.ntmps164
 go_wp2
 go_ret
 exact⟨rfl,rfl⟩
set_option maxHeartbeats 2000000 in
set_option maxRecDepth 100000 in
theorem ak2 (n:Nat)(w:World)(h0:0<n)(h1:n≤4294967296):Calls Tryz.prog 164 #[.slice none 0 0,.int .i64 n] w fun e w'=>
 ∃v',e=.returned v'∧w'.ownsRow w.heap.size 3 1 v' 0 []∧Below w.heap.size w w':=by
 obtain⟨i0,hi,AZ,xy,hz2⟩:=info_parts aoh;have hr:=run_append_nil_zeros w 52 3 52 3 i0 (.int .i64 0) .i64 .i64 Tryz.underlying52 Tryz.underlying3 hi AZ n h0 (by rw[xy];decide) (by omega) (by rw[hz2];omega);have hn:¬((n:Int)<0):=by omega
 have mw:(n:Int)>0:=by omega
 have hw:IntKind.i64.wrap (n:Int)=n:=by rw[IntKind.wrap_i64];omega
 have rM:IntKind.i64.wrap 0=0:=by decide
 have fj:=grownCap_ge w n 0 3;have hle:=grownCap_le_maxLen w n 0 3 (by unfold maxLen;omega);have hs:(Builtin.zeroCells #[Value.int IntKind.i64 0] n++Builtin.zeroCells #[Value.int IntKind.i64 0] (grownCap w n 0 3-n)).size=grownCap w n 0 3*1:=by
  rw[Array.size_append,size_zeroCells,size_zeroCells];simp;omega
 go_enter Tryz.func164,Tryz.ntmps164
 go_wp2_with (at_builtin;refine wpList_append_run _ rfl _ _ 52 3 rfl _ _ rfl rfl _ _ hr ?qc)
 go_ret
 refine⟨_,rfl,?_,?_⟩
 ·exact World.ownsRow.drew (World.ownsRow_made w _ _ (bl _) hle hs)
 ·exact((Below.refl _ w).alloc (bl _) _).drew
def I5 (ds:List D):Option D:=
 match ds with
 |[.list [],.v (.int .i64 n)]=>if 0≤n∧n≤4294967296 then some (.list []) else none
 |_=>none
theorem ak1 (ds:List D)(d:D)(h:I5 ds=some d):∃s,ctx.sig 164=some s∧Mm ctx 164 s ds d:=by
 refine⟨_,rfl,fun _=>?_,fun shs obs hm=>by cases hm⟩;unfold I5 at h;split at h
 case h_2=>cases h
 rename_i n;split at h
 case isFalse=>cases h
 rename_i hn;cases h;obtain⟨k,rfl⟩:=uw hn.1;intro σ w args aD hC ha;obtain⟨a1,a2,a3⟩:=ha;have h0:=a3 0 _ rfl;have h1:=a3 1 _ rfl;obtain⟨u,v,rfl⟩:∃u v,args=#[u,v]:=by
  have:args.size=2:=by simpa using a1
  match args,this with
  |⟨[u,v]⟩,_=>exact⟨u,v,rfl⟩
 simp only[ux,Cs] at h0 h1;change Rep ctx.cap σ (.nils .bool) u (.list []) at h0;change Rep ctx.cap σ (.int .i64) v (.v (.int .i64 k)) at h1;have hu:u=.slice none 0 0:=by cases h0;rfl
 have hv:v=.int .i64 k:=by cases h1;rfl
 subst hu hv;by_cases hk:k=0
 ·subst hk;refine(ak3 w).mono fun e w' hh=>?_;obtain⟨rfl,rfl⟩:=hh;refine⟨_,σ,rfl,.refl σ,aD,.refl _ _,fun _ _ _ h=>.inl h,fun _ _ h=>.inl h,?_⟩;exact⟨[],[],rfl,⟨by simp,.inl ⟨rfl,rfl⟩⟩,⟨fun _=>undef,fun i x hx=>by simp at hx,fun i j u hi=>by simp at hi⟩,fun k hk=>by cases hk⟩
 ·refine(ak2 k w (by omega) (by omega)).mono fun e w' hh=>?_;obtain⟨v',rfl,cd,hb⟩:=hh;refine⟨v',σ,rfl,.refl σ,aD.below hb,hb,fun _ _ _ h=>.inl h,fun _ _ h=>.inl h,?_⟩;refine⟨[],[],rfl,cd,⟨fun _=>undef,fun i x hx=>by simp at hx,fun i j u hi=>by simp at hi⟩,fun k hk=>?_⟩;have bu:=(cd.lt k hk).1;refine⟨fun o=>?_,?_⟩
  ·cases hc:σ.c k o with
   |none=>rfl
   |some u=>have:=World.block_lt_of_cell? w (a:=⟨k,o,none⟩) (aD.c _ _ _ hc);simp at this;omega
  ·cases hc:σ.m k with
   |none=>rfl
   |some u=>rcases aD.m _ _ hc with⟨arr,clock,x,g1,_⟩|⟨_,g1⟩<;>(have:=(gp.1 g1).1;omega)
def fc (day:Int):Int×Int×Int:=
 let n:=day+730425
 let e:=n/146097
 let r:=n%146097
 let y:=(r-r/1460+r/36524-r/146096)/365
 let r:=r-(365*y+y/4-y/100)
 let m:=(5*r+2)/153
 let dom:=r-(153*m+2)/5+1
 let month:=if 12<m+3 then m+3-12 else m+3
 (if month<3 then y+400*e+1 else y+400*e,month,dom)
def xS (rest feasts shut:List Int)(day:Int):Bool:=
 !rest.contains ((day+5)%7)&&(!feasts.contains (100*(fc day).2.1+(fc day).2.2)&& !shut.contains day)
def XT (rest feasts shut:List Int)(a b:Int):List Int:=((List.range (b-a+1).toNat).map fun(k:Nat)=>a+k).filter (xS rest feasts shut)
def xA (d:D):List Int:=d.l.map D.i
def XU (ds:List D):List D:=
 let c:=(ds.getD 2 .none).deref
 (XT (xA (c.c 3)) (xA (c.c 4)) (xA (c.c 5)) (ds.getD 0 .none).deref.i (ds.getD 1 .none).deref.i).map fun d=>.tup [.int d]
def yX (r:D)(city:Int):Int:=if 0≤city∧city<(r.c 1).l.length then(((r.c 1).l.getD city.toNat .none).c 1).i else-1
def RD (ds:List D):D:=
 let r:=ds.getD 0 .none
 let forum:=(ds.getD 1 .none).i
 let c:=ds.getD 2 .none
 let s:=(c.c 15).l.getD (c.c 19).i.toNat .none
 let who:=(s.c 2).i
 if who<0∨(r.c 3).l.length≤who∨forum<0∨(r.c 4).l.length≤forum then .list [] else
 let out:=[forum,yX r (s.c 7).i,yX r (c.c 10).i,yX r (c.c 9).i,yX r (((r.c 3).l.getD who.toNat .none).c 1).i]
 if(-1)∈out then .list [] else ints out
def Oa (ds:List D):List D:=
 let f:=(ds.getD 0 .none).deref
 let day:=(ds.getD 1 .none).deref.i
 let part:=(ds.getD 2 .none).deref.i
 ((List.range (f.c 15).l.length).filter fun(i:Nat)=>decide ((((f.c 15).l.getD i .none).c 0).i=2)&&decide ((((f.c 15).l.getD i .none).c 1).i=part)&&decide ((((f.c 15).l.getD i .none).c 6).i≤day)&&
   !((f.c 17).l.any fun a=>decide ((a.c 0).i=7)&&decide ((a.c 4).i=(i:Int))&&decide ((a.c 6).i≤day))).map fun(i:Nat)=>.tup [.int i,(f.c 15).l.getD i .none]
def Yk:List (Nat×(aR→List D→Option D)):=[(164,fun _ ds=>I5 ds),(102,Bb (ab Hv) (ab Hw) RD),(169,A1 (ab sV) 1000 1 XU),(64,A1 (ab sW) 1000 2 Oa)]
def ext:Nat→Option (aR→List D→Option D):=bI Yk
theorem atM:TabOK ctx tab ext:=by
 refine⟨clos,its,fun f pc _ h=>atN f pc h,fun f g hg Φ hΦ eQ ds d h=>?_⟩
 have:=Qu (R:=fun f (g:aR→List D→Option D)=>∀Φ,dc ctx Φ→gq ctx Φ→∀ds d,g Φ ds=some d→(∀s,ctx.sig f=some s→Mm ctx f s ds d)∧
  ∀cs ys,ctx.cap f=some cs→mD cs.args cs.res=some ys→∃xs,d=.list xs∧(∀x,x∈xs→∃ds',x=.tup ds'∧ds'.length=ys.length)∧l9 ctx f cs.caps ys ds xs) (l:=Yk)
  ⟨fun Φ hΦ eQ ds d h=>⟨fun s hs=>by obtain⟨s',h1,h2⟩:=ak1 ds d h;rw[hs] at h1;cases h1;exact h2,fun cs ys hc hi=>by cases hc⟩,
   fun Φ hΦ eQ ds d h=>⟨fun s hs=>by cases hs;exact⟨fun _=>aqH clos hΦ eQ Tryz.func102 (ax Hv abX) (ax Hw abY) h,fun shs obs hm=>by cases hm⟩,fun cs ys hc hi=>by cases hc⟩,
   fun Φ hΦ eQ ds d h=>⟨fun s hs=>(by cases hs),fun cs ys hc hi=>by
    cases hc;cases hi;exact aaz clos hΦ eQ Tryz.func169 ahA h rfl⟩,
   fun Φ hΦ eQ ds d h=>⟨fun s hs=>(by cases hs),fun cs ys hc hi=>by
    cases hc;cases hi;exact aaz clos hΦ eQ Tryz.func64 ahB h rfl⟩,trivial⟩ f g hg
 exact this Φ hΦ eQ ds d h
abbrev T:cG:=dV tab ext
theorem ao.of_nsl {tab:Nat→Option PC}{ext:Nat→Option (aR→List D→Option D)}{f:Nat}{pa pb:PC}{spec:List D→D}{ds:List D}{ta tb:PT}(hx:ext f=some (Bb pa pb spec))(hta:tree pa=ta)(htb:tree pb=tb)
 (h:(∃xs,xs≠[]∧spec ds=.list xs∧aH (dV tab ext) ta (kS ds) (fun x=>x=.ret (.list xs)))∨(spec ds=.list []∧aH (dV tab ext) tb (kS ds) (fun x=>x=.ret (.list [])))):ao (dV tab ext) f ds (spec ds):=by
 refine ao.of_ext hx ?_;rcases h with⟨xs,h1,h2,h3⟩|⟨h2,h3⟩
 ·obtain⟨x,rfl,n0,hn⟩:=GK (c:=pa) (hta▸h3);refine⟨n0,fun n hle=>?_⟩;unfold Bb;rw[if_pos (.inl ⟨n,xs,hn n hle,h1,h2⟩)]
 ·obtain⟨x,rfl,n0,hn⟩:=GK (c:=pb) (htb▸h3);refine⟨n0,fun n hle=>?_⟩;unfold Bb;rw[if_pos (.inr ⟨n,hn n hle,h2⟩)]
end Rm
namespace Rm
open Go Go.Proofs Cx
def eE (n:Nat)(p:Nat→Bool):Bool:=(List.range n).all p
theorem Xd {n:Nat}{p:Nat→Bool}(h:∀k,k<n→p k=true):eE n p=true:=bK.2 fun k hk=>h k (bY.1 hk)
theorem agQ {n k:Nat}{p:Nat→Bool}(hk:k<n)(h:p k=false):eE n p=false:=List.all_eq_false.2 ⟨k,bY.2 hk,by simp[h]⟩
theorem yT {n:Nat}{p:Nat→Bool}:eE n p=true↔∀k,k<n→p k=true:=⟨fun h k hk=>bK.1 h k (bY.2 hk),Xd⟩
def fJ (n:Nat)(f:Nat→Int):Int:=(((List.range n).map f).find? fun x=>x !=0).getD 0
theorem Ok {n:Nat}{f:Nat→Int}(h:∀k,k<n→f k=0):fJ n f=0:=by
 unfold fJ;rw[v9.2]
 ·rfl
 ·intro x hx;obtain⟨k,hk,rfl⟩:=dJ.1 hx;simp[h k (bY.1 hk)]
theorem Oj {n k:Nat}{f:Nat→Int}(hk:k<n)(hj:∀j,j<k→f j=0)(h:f k≠0):fJ n f=f k:=by
 unfold fJ;have e:List.range n=List.range k++k::(List.range' (k+1) (n-k-1)):=by
  rw[Mx,Mx,←G4];have:=List.range'_append_1 (s:=0) (m:=k) (n:=n-k-1+1);rw[gI] at this;rw[this];congr 1;omega
 rw[e,lz,List.find?_append,v9.2,Option.none_or,gU,List.find?_cons_of_pos (by simpa using h)]
 ·rfl
 ·intro x hx;obtain⟨j,uZ,rfl⟩:=dJ.1 hx;simp[hj j (bY.1 uZ)]
theorem Yq {n:Nat}{f:Nat→Int}:fJ n f=0↔∀k,k<n→f k=0:=by
 refine⟨fun h k=>?_,Ok⟩
 induction k using Nat.strongRecOn with
 |ind k ih=>
  intro hk;refine v7 fun aE=>?_;rw[Oj hk (fun j hj=>ih j hj (by omega)) aE] at h;exact aE h
section
variable {T:cG} {id:Nat} {bA bz lr lo:List Nat} {a:PC} {ρ:Env} {Q:Out→Prop}
theorem gm (N:Nat)(p:Nat→Bool)(str fD:Nat→List D)(h0:lr.map ρ.r=str 0∧lo.map ρ.o=fD 0)
 (step:∀k,k<N→p k=true→aH T (round id bA bz lr lo a) (ρ.put lr (str k) lo (fD k)) (eW ρ id bA bz lr lo (fun vr vo=>vr=str (k+1)∧vo=fD (k+1)) Q))
 (bad:∀k,k<N→p k=false→eE N p=false→aH T (round id bA bz lr lo a) (ρ.put lr (str k) lo (fD k)) (eW ρ id bA bz lr lo (fun _ _=>False) Q))
 (last:eE N p=true→aH T (round id bA bz lr lo a) (ρ.put lr (str N) lo (fD N)) (eW ρ id bA bz lr lo (fun _ _=>False) Q)):aN T (.block id bA bz (.loop lr lo a)) ρ Q:=
 .scan N (fun k=>p k=true) str fD h0 (fun k hk _ h=>step k hk h) (fun k hk _ h=>bad k hk (by simpa using h) (agQ hk (by simpa using h))) (fun h=>last (Xd h))
theorem oZ (N:Nat)(f:Nat→Int)(str fD:Nat→List D)(h0:lr.map ρ.r=str 0∧lo.map ρ.o=fD 0)
 (step:∀k,k<N→f k=0→aH T (round id bA bz lr lo a) (ρ.put lr (str k) lo (fD k)) (eW ρ id bA bz lr lo (fun vr vo=>vr=str (k+1)∧vo=fD (k+1)) Q))
 (bad:∀k,k<N→f k≠0→fJ N f=f k→aH T (round id bA bz lr lo a) (ρ.put lr (str k) lo (fD k)) (eW ρ id bA bz lr lo (fun _ _=>False) Q))
 (last:fJ N f=0→aH T (round id bA bz lr lo a) (ρ.put lr (str N) lo (fD N)) (eW ρ id bA bz lr lo (fun _ _=>False) Q)):aN T (.block id bA bz (.loop lr lo a)) ρ Q:=
 .scan N (fun k=>f k=0) str fD h0 (fun k hk _ h=>step k hk h) (fun k hk hj h=>bad k hk h (Oj hk hj h)) (fun h=>last (Ok h))
end
theorem bk {k n:Nat}(h:k<n)(hn:n≤4294967296):IntKind.i64.wrap ((k:Int)+1)=(k:Int)+1:=bU (by omega)
theorem vY {k:Nat}(hn:k≤4294967296):IntKind.i64.wrap ((k:Int)-1)=(k:Int)-1:=bU (by omega)
def ay (i n:Int):Bool:=decide (0≤i)&&decide (i<n)
def wi (n a b:Int):Bool:=decide (a≤n)&&decide (n≤b)
theorem fW (i n:Int):ao T 111 [.int i,.int n] (.bool (ay i n)):=by
 refine .of_tree rfl (lA 17 (by kernel_rfl)) avx ?_;simp[Ve,ay];by_cases h:0≤i<;>simp[h]
theorem qI (i n:Int):ao T 32 [.int i,.int n] (.bool (ay i n)):=by
 refine .of_tree rfl (lA 55 (by kernel_rfl)) avL ?_;simp[Vr,ay];by_cases h:0≤i<;>simp[h]
theorem cT (n a b:Int):ao T 26 [.int n,.int a,.int b] (.bool (wi n a b)):=by
 refine .of_tree rfl (lA 112 (by kernel_rfl)) avc ?_;simp[US,wi];by_cases h:a≤n<;>simp[h]
theorem idx_eq {α:Type}[DecidableEq α]{l:List α}{x z:α}{k:Nat}(hk:k<l.length)(hj:∀j,j<k→l.getD j z≠x)(h:¬l.getD k z≠x):x∈l∧l.findIdx (fun y=>decide (y=x))=k:=by
 have e:l[k]=x:=by simpa [hk] using h
 refine⟨e▸dq hk,(List.findIdx_eq hk).2 ⟨by simp[e],fun j hH=>?_⟩⟩;have eR:j<l.length:=by omega
 simpa [eR] using hj j hH
theorem aam {α:Type}[DecidableEq α]{l:List α}{x z:α}(hj:∀j,j<l.length→l.getD j z≠x):¬x∈l:=fun hm=>by
 obtain⟨j,eR,rfl⟩:=kf hm;have:=hj j eR;simp[eR] at this
def vh {α:Type}[DecidableEq α](l:List α)(x:α):Int:=if x∈l then(l.findIdx (fun y=>decide (y=x)):Nat) else-1
def hasB {α:Type}[DecidableEq α](l:List α)(x:α):Bool:=l.any fun y=>decide (y=x)
theorem OL {α:Type}[DecidableEq α]{l:List α}{x:α}:hasB l x=true↔x∈l:=by simp[hasB]
theorem Zd {α:Type}[DecidableEq α]{l:List α}{x:α}:hasB l x=false↔¬x∈l:=by rw[←OL];simp
theorem aal {α:Type}[DecidableEq α](l:List α)(x:α):decide (0≤vh l x)=hasB l x:=by
 unfold vh;by_cases h:x∈l
 ·rw[OL.2 h];simp[h]
 ·rw[Zd.2 h];simp[h]
@[simp] theorem aAC (a b:ByteArray):Ab .eql a b=decide (a=b):=by
  simp only[Ab,ByteArray.toList_eq];by_cases h:a=b
  ·subst h;simp
  ·rw[decide_eq_false h,beq_eq_false_iff_ne];intro e;have:a.data=b.data:=by rw[←ur];exact e
   exact h (by cases a;cases b;cases this;rfl)
@[simp] theorem aBx (ρ:Env)(x i:PE):PE.ev ρ (.sidx x i)=.v (.int .u8 ((PE.ev ρ x).s.data.getD (PE.ev ρ i).i.toNat 0).toNat):=_root_.id rfl
@[simp] theorem aBB (ρ:Env)(x i:PE):PE.ev ρ (.sok x i)=.v (.bool (decide (0≤(PE.ev ρ i).i∧(PE.ev ρ i).i<(PE.ev ρ x).s.size))):=_root_.id rfl
@[simp] theorem aEk (a:ByteArray):(str a).s=a:=_root_.id rfl
theorem age (l:List Int)(x:Int)(hl:l.length≤4294967296):ao T 56 [ints l,.int x] (.int (vh l x)):=by
 refine .of_tree rfl (lA 33 (by kernel_rfl)) avW ?_;simp[VC];refine .scan l.length (fun k=>l.getD k 0≠x) (fun k=>[.int 0,.int k]) (fun _=>[]) ?_ (fun k hk hj ho=>?_) (fun k hk hj ho=>?_) (fun hj=>?_)
 ·simp
 ·have hw:=bk hk hl;simp[hk] at ho;have ed:¬x=l[k]:=fun e=>ho e.symm;simp[Td,Ge,hk,hw,ints,ho,ed]
 ·obtain⟨hm,he⟩:=idx_eq hk hj ho;simp[hk] at ho;simp[Td,Ge,hk,ints,ho,vh,hm,he]
 ·have:=aam hj;simp[Td,Ge,vh,this,ints]
theorem uu (l:List Int)(x:Int)(hl:l.length≤4294967296):ao T 23 [ints l,.int x] (.bool (hasB l x)):=by
 refine .of_tree rfl (lA 32 (by kernel_rfl)) avQ ?_;simp[Vw];refine⟨_,age l x hl,?_⟩;have:=aal l x;simp at this ⊢;exact this
theorem agf (l:List ByteArray)(x:ByteArray)(hl:l.length≤4294967296):ao T 165 [strs l,str x] (.int (vh l x)):=by
 refine .of_tree rfl (lA 13 (by kernel_rfl)) avX ?_;simp[VD];refine .scan l.length (fun k=>l.getD k default≠x) (fun k=>[.int 0,.int k]) (fun _=>[]) ?_ (fun k hk hj ho=>?_) (fun k hk hj ho=>?_) (fun hj=>?_)
 ·simp
 ·have hw:=bk hk hl;simp[hk] at ho;have ed:¬x=l[k]:=fun e=>ho e.symm;simp[Te,Gf,hk,hw,strs,ho,ed]
 ·obtain⟨hm,he⟩:=idx_eq hk hj ho;simp[hk] at ho;simp[Te,Gf,hk,strs,ho,vh,hm,he]
 ·have:=aam hj;simp[Te,Gf,vh,this,strs]
theorem af7 (l:List ByteArray)(x:ByteArray)(hl:l.length≤4294967296):ao T 152 [strs l,str x] (.bool (hasB l x)):=by
 refine .of_tree rfl (lA 12 (by kernel_rfl)) avR ?_;simp[Vx];refine⟨_,agf l x hl,?_⟩;have:=aal l x;simp at this ⊢;exact this
def oW (l:List Int)(a b:Int)(k:Nat):Bool:=wi (l.getD k 0) a b&&(k==0||decide (l.getD (k-1) 0<l.getD k 0))
def rising (l:List Int)(a b:Int):Bool:=eE l.length (oW l a b)
theorem Gm (l:List Int)(a b:Int)(hl:l.length≤4294967296):ao T 136 [ints l,.int a,.int b] (.bool (rising l a b)):=by
 refine .of_tree rfl (lA 18 (by kernel_rfl)) avD ?_;simp[Vk];refine gm l.length (oW l a b) (fun k=>[.bool false,.int k]) (fun _=>[]) ?_ (fun k hk ho=>?_) (fun k hk ho hb=>?_) (fun hj=>?_)
 ·simp
 ·have hw:=bk hk hl;simp[oW,wi,hk] at ho;obtain⟨⟨h1,h2⟩,h3⟩:=ho;have cH:¬l[k]<a:=by omega
  have gK:¬b<l[k]:=by omega
  by_cases hZ:0<k
  ·have bx:k-1<l.length:=by omega
   have dF:IntKind.i64.wrap ((k:Int)-1)=((k-1:Nat):Int):=by rw[vY (by omega)];omega
   have fh:¬l[k]≤l[k-1]:=by
        rcases h3 with h3|h3
        ·omega
        ·simp[bx] at h3;omega
   simp[BW,vF,hk,hw,dF,ints,cH,gK,fh,hZ,bx]
  ·simp[BW,vF,hk,hw,ints,cH,gK,hZ]
 ·have hf:rising l a b=false:=hb;simp[oW,wi,hk] at ho;by_cases h1:l[k]<a
  ·simp[BW,vF,hk,ints,h1,hf]
  by_cases h2:b<l[k]
  ·simp[BW,vF,hk,ints,h1,h2,hf]
  have h3:=ho (by omega) (by omega);have hZ:0<k:=by omega
  have bx:k-1<l.length:=by omega
  have dF:IntKind.i64.wrap ((k:Int)-1)=((k-1:Nat):Int):=by rw[vY (by omega)];omega
  have fh:=h3.2;simp[bx] at fh;simp[BW,vF,hk,dF,ints,h1,h2,fh,hZ,bx,hf]
 ·have hf:rising l a b=true:=hj;simp[BW,vF,hf]
def ES (c:Int):Bool:=wi c 97 122||wi c 65 90
def xP (i:Nat)(c:Int):Bool:=ES c||(i !=0&&(decide (c=95)||wi c 48 57))
def CV (s:ByteArray)(k:Nat):Int:=((s.data.toList.getD k 0).toNat:Nat)
def iU (s:ByteArray):Bool:=decide (1≤s.size)&&decide (s.size≤20)&&eE s.size (fun k=>xP k (CV s k))
theorem Hl {s:ByteArray}{k:Nat}(h:k<s.data.size):(s.data[k].toNat:Int)=CV s k:=by
 unfold CV;rw[aJ,bF (by simpa using h)];rfl
theorem afq {s:ByteArray}:s=⟨#[]⟩↔s.size=0:=by
 constructor
 ·rintro rfl;rfl
 ·intro h;cases s with|mk d=>congr;exact Ml h
theorem asM (s:ByteArray):ao T 151 [str s] (.bool (iU s)):=by
 refine .of_tree rfl (lA 11 (by kernel_rfl)) avy ?_;simp[Vf];by_cases h0:s=⟨#[]⟩
 ·have hn:iU s=false:=by simp[iU,afq.1 h0]
  rw[hn];simp[h0]
 by_cases h1:(20:Int)<s.size
 ·have cH:¬s.size≤20:=by omega
  simp[h0,h1,iU,cH]
 have hz:1≤s.size:=by
  have:s.size≠0:=fun e=>h0 (afq.2 e);omega
 have cH:s.size≤20:=by omega
 simp[h0,h1];refine⟨by omega,gm s.size (fun k=>xP k (CV s k)) (fun k=>[.bool false,.int k]) (fun _=>[]) ?_ (fun k hk ho=>?_) (fun k hk ho hb=>?_) (fun hj=>?_)⟩
 ·simp
 ·have hw:=bk hk (by omega);have bu:k<s.data.size:=hk;have hg:=Hl bu;simp[xP,ES,wi] at ho;simp[SR,FY,hk,bu,hw,hg];omega
 ·have bu:k<s.data.size:=hk;have hg:=Hl bu;have hn:iU s=false:=by simp[iU,hb]
  simp[xP,ES,wi] at ho;simp[SR,FY,hk,bu,hg,hn];omega
 ·have hn:iU s=true:=by simp[iU,hj,hz,cH]
  have hd:s.data.size=s.size:=rfl;simp[SR,FY,hn,hd]
theorem aeg (c:Int):ao T 126 [.v (.int .u8 c)] (.bool (ES c)):=by
 refine .of_tree rfl (lA 109 (by kernel_rfl)) au7 ?_;simp[UN,ES,wi];by_cases h:97≤c<;>by_cases h2:c≤122<;>by_cases h3:65≤c<;>by_cases h4:c≤90<;>simp[h,h2,h3,h4]
theorem ar8 (s:ByteArray):ao T 97 [str s] (.bool (iU s)):=by
 refine .of_tree rfl (lA 108 (by kernel_rfl)) au8 ?_;simp[UO];by_cases h0:(s.size:Int)<1
 ·have hn:iU s=false:=by simp[iU];omega
  simp[h0,hn]
 by_cases h1:(20:Int)<s.size
 ·have hn:iU s=false:=by simp[iU];omega
  simp[h0,h1,hn]
 rw[if_neg (by omega)];refine gm s.size (fun k=>xP k (CV s k)) (fun k=>[.bool false,.int k]) (fun _=>[]) ?_ (fun k hk ho=>?_) (fun k hk ho hb=>?_) (fun hj=>?_)
 ·simp
 ·have hw:=bk hk (by omega);have bu:k<s.data.size:=hk;have hg:=Hl bu;simp[xP,wi] at ho;simp[Sv,FC,hk,bu,hw,hg];refine⟨_,aeg _,?_⟩;simp[hw];intro g1 g2;exfalso;rcases ho with h|h
  ·rw[h] at g1;cases g1
  ·omega
 ·have bu:k<s.data.size:=hk;have hg:=Hl bu;have hn:iU s=false:=by simp[iU,hb]
  simp[xP,wi] at ho;simp[Sv,FC,hk,bu,hg,hn];refine⟨_,aeg _,?_⟩;simp[ho.1];omega
 ·have hn:iU s=true:=by simp[iU,hj];omega
  simp[Sv,FC,hn]
end Rm
namespace Rm
open Go Go.Proofs Cx
theorem ar5 (l:List ByteArray)(n:Nat)(x:ByteArray)(hn:n≤l.length)(hl:l.length≤4294967296):ao T 98 [strs l,.int n,str x] (.bool (hasB (l.take n) x)):=by
 refine .of_tree rfl (lA 110 (by kernel_rfl)) au4 ?_;simp[UK];refine .scan n (fun k=>l.getD k default≠x) (fun k=>[.bool false,.int k]) (fun _=>[]) ?_ (fun k hk hj ho=>?_) (fun k hk hj ho=>?_) (fun hj=>?_)
 ·simp
 ·have bu:k<l.length:=by omega
  have hw:=bk bu hl;simp[bu] at ho;simp[Su,FA,hk,bu,hw,strs,ho]
 ·have bu:k<l.length:=by omega
  simp[bu] at ho;have hm:hasB (l.take n) x=true:=OL.2 (by rw[←ho,WW];exact⟨k,by omega,rfl⟩);simp[Su,FA,hk,bu,strs,ho,hm]
 ·have hm:hasB (l.take n) x=false:=Zd.2 (fun h=>by
   rw[WW] at h;obtain⟨k,hk,e⟩:=h;have:=hj k (by omega);simp[show k<l.length by omega] at this;exact this e)
  simp[Su,FA,hm]
def gO (l:List ByteArray)(i:Nat):Int:=if iU (l.getD i default)=false then 2 else if hasB (l.take i) (l.getD i default) then 5 else 0
theorem QC (l:List ByteArray)(i n:Nat)(h:i<n):gO (l.take n) i=gO l i:=by
 unfold gO;rw[aJ,List.getElem?_take_of_lt h,List.take_take,pA (by omega),←aJ]
theorem Fk (l:List ByteArray)(i:Nat)(hi:i<l.length)(hl:l.length≤4294967296):ao T 78 [strs l,.int i] (.int (gO l i)):=by
 refine .of_tree rfl (lA 107 (by kernel_rfl)) avf ?_;simp[UW,hi];refine⟨_,by simpa [strs,hi] using ar8 l[i],?_⟩;unfold gO;rw[aJ,bF hi,jK];cases h1:iU l[i]<;>simp[h1];refine⟨_,by simpa [strs,hi] using ar5 l i l[i] (by omega) hl,?_⟩;cases h2:hasB (l.take i) l[i]<;>simp[h2]
theorem aeT (l:List ByteArray)(i:Nat)(hi:i<l.length)(hl:l.length≤4294967296):ao T 135 [strs l,.int i] (.int (gO l i)):=by
 refine .of_tree rfl (lA 10 (by kernel_rfl)) avz ?_;simp[Vg,hi];refine⟨_,by simpa [strs,hi] using asM l[i],?_⟩;unfold gO;rw[aJ,bF hi,jK];cases h1:iU l[i]<;>simp[h1];refine⟨by omega,_,by simpa [strs,hi] using af7 (l.take i) l[i] (by rw[dU];omega),?_⟩;cases h2:hasB (l.take i) l[i]<;>simp[h2]
def kr (l:List ByteArray)(g:Nat→Bool)(i:Nat):Int:=if gO l i≠0 then gO l i else if g i then 0 else 1
def eP (l:List ByteArray)(EW:Int)(g:Nat→Bool):Int:=if EW<l.length then 6 else fJ l.length (kr l g)
theorem LH (l:List ByteArray)(EW:Int)(f:Nat)(caps:List D)(g:Nat→Bool)(hg:∀i:Nat,i<l.length→ao T f (.int i::caps) (.bool (g i)))(hl:l.length≤4294967296):
 ao T 107 [strs l,.int EW,.clo f caps] (.int (eP l EW g)):=by
 refine .of_tree rfl (lA 9 (by kernel_rfl)) avw ?_;simp[Vd,eP];by_cases h0:EW<l.length
 ·simp[h0];intro h;omega
 simp[h0];refine oZ l.length (kr l g) (fun k=>[.int 0,.int k]) (fun _=>[]) ?_ (fun k hk ho=>?_) (fun k hk ho hb=>?_) (fun hj=>?_)
 ·simp
 ·have hw:=bk hk hl;have h1:gO l k=0:=by
   refine v7 fun h=>?_;unfold kr at ho;rw[if_pos h] at ho;exact h ho
  have h2:g k=true:=by
   unfold kr at ho;rw[if_neg (by simpa using h1)] at ho;cases h:g k with
   |true=>rfl
   |false=>rw[h] at ho;simp at ho
  simp[SQ,FX,hk,hw];refine⟨_,aeT l k hk hl,?_⟩;simp[h1];refine⟨_,_,⟨rfl,rfl⟩,_,hg k hk,?_⟩;simp[h2,hw]
 ·simp[SQ,FX,hk,hb];refine⟨_,aeT l k hk hl,?_⟩;unfold kr at ho ⊢;by_cases h1:gO l k=0
  ·simp[h1] at ho ⊢;refine⟨_,_,⟨rfl,rfl⟩,_,hg k hk,?_⟩;simp[ho]
  ·simp[h1]
 ·simp[SQ,FX,hj]
theorem R2 (l:List Int)(a b:Int)(hl:l.length≤4294967296):ao T 99 [ints l,.int a,.int b] (.bool (rising l a b)):=by
 refine .of_tree rfl (lA 113 (by kernel_rfl)) avb ?_;simp[UR];refine gm l.length (oW l a b) (fun k=>[.bool false,.int k]) (fun _=>[]) ?_ (fun k hk ho=>?_) (fun k hk ho hb=>?_) (fun hj=>?_)
 ·simp
 ·have hw:=bk hk hl;simp[oW,hk] at ho;simp[SA,FG,hk,hw,ints];refine⟨_,cT _ _ _,?_⟩;by_cases hZ:0<k
  ·have bx:k-1<l.length:=by omega
   have dF:IntKind.i64.wrap ((k:Int)-1)=((k-1:Nat):Int):=by rw[vY (by omega)];omega
   have fh:¬l[k]≤l[k-1]:=by
        rcases ho.2 with h3|h3
        ·omega
        ·simp[bx] at h3;omega
   simp[ho.1,hk,hw,dF,fh,hZ,bx]
  ·simp[ho.1,hk,hw,hZ];omega
 ·have hf:rising l a b=false:=hb;simp[oW,hk] at ho;simp[SA,FG,hk,ints,hf];refine⟨_,cT _ _ _,?_⟩;cases h1:wi l[k] a b with
  |false=>simp
  |true=>
   have h3:=ho h1;have hZ:0<k:=by omega
   have bx:k-1<l.length:=by omega
   have dF:IntKind.i64.wrap ((k:Int)-1)=((k-1:Nat):Int):=by rw[vY (by omega)];omega
   have fh:=h3.2;simp[bx] at fh;simp[hk,dF,fh,hZ,bx]
 ·have hf:rising l a b=true:=hj;simp[SA,FG,hf]
theorem TK (n:Int):n.tdiv 100=if 0≤n then n/100 else-((-n)/100):=by
 split
 ·rename_i h;exact WJ h
 ·rename_i h;have e:n.tdiv 100=-((-n).tdiv 100):=by rw[Int.neg_tdiv,Int.neg_neg]
  rw[e,WJ (by omega)]
theorem afK (n:Int):n.tmod 100=n-100*n.tdiv 100:=Int.tmod_def n 100
theorem afY {n:Int}(h:aQ n):IntKind.i64.wrap (n.tdiv 100)=n.tdiv 100:=bU (by rw[TK];unfold aQ at h;split<;>omega)
def oe (r:Realm)(c:City):Bool:=eE c.feasts.length (fun k=>wi ((c.feasts.getD k 0).tmod 100) 1 31)&&(decide (c.feasts.length≤60)&&decide (c.shut.length≤200)&&ay c.order r.orders.length&&ay c.currency r.currencies.length)&&
 (rising c.rest 0 6&&rising c.feasts 101 1231&&rising c.shut 0 100000)
theorem asK (r:Realm)(c:City)(h1:c.rest.length≤4294967296)(h2:c.feasts.length≤4294967296)(h3:c.shut.length≤4294967296):ao T 110 [aW r,gw c] (.bool (oe r c)):=by
 refine .of_tree rfl (lA 16 (by kernel_rfl)) avv ?_;simp[Vc];refine gm c.feasts.length (fun k=>wi ((c.feasts.getD k 0).tmod 100) 1 31) (fun k=>[.bool false,.int k]) (fun _=>[]) ?_ (fun k hk ho=>?_) (fun k hk ho hb=>?_) (fun hj=>?_)
 ·simp
 ·have hw:=bk hk h2;simp[wi,hk] at ho;have g1:¬(c.feasts[k].tmod 100<1):=by omega
  have g2:¬(31<c.feasts[k].tmod 100):=by omega
  simp[SP,FW,hk,hw,ints,g1,g2]
 ·have hf:oe r c=false:=by simp only[oe,hb,sF]
  simp[wi,hk] at ho;simp[SP,FW,hk,ints,hf];by_cases g1:c.feasts[k].tmod 100<1
  ·simp[g1]
  ·have g2:=ho (by omega);simp[g1,g2]
 ·simp[SP,FW];by_cases g1:(c.feasts.length:Int)≤60
  case neg=>
   have hf:oe r c=false:=by
        have fg:decide (c.feasts.length≤60)=false:=decide_eq_false (by omega);simp only[oe,fg,sF,yH]
   have fg:(60:Int)<c.feasts.length:=by omega
   simp[g1,fg,hf]
  by_cases g2:(c.shut.length:Int)≤200
  case neg=>
   have hf:oe r c=false:=by
        have fg:decide (c.shut.length≤200)=false:=decide_eq_false (by omega);simp only[oe,fg,sF,yH]
   have ot:(200:Int)<c.shut.length:=by omega
   simp[g1,g2,ot,hf]
  have fg:¬(60:Int)<c.feasts.length:=by omega
  have ot:¬(200:Int)<c.shut.length:=by omega
  have hf:oe r c=(ay c.order r.orders.length&&ay c.currency r.currencies.length&&(rising c.rest 0 6&&rising c.feasts 101 1231&&rising c.shut 0 100000)):=by
   have e1:decide (c.feasts.length≤60)=true:=decide_eq_true (by omega);have e2:decide (c.shut.length≤200)=true:=decide_eq_true (by omega);simp only[oe,hj,e1,e2,qU]
  rw[hf];simp[g1,g2,fg,ot];refine⟨_,fW _ _,?_⟩;simp;cases e1:ay c.order r.orders.length<;>simp;refine⟨_,fW _ _,?_⟩;simp;cases e2:ay c.currency r.currencies.length<;>simp;refine⟨_,Gm _ _ _ h1,?_⟩;simp;cases e3:rising c.rest 0 6<;>simp;refine⟨_,Gm _ _ _ h2,?_⟩;simp;cases e4:rising c.feasts 101 1231<;>simp;exact Gm _ _ _ h3
def pR (r:Realm)(c:City):Bool:=(wi c.order 0 (r.orders.length-1)&&wi c.currency 0 (r.currencies.length-1)&&decide (c.feasts.length≤60)&&decide (c.shut.length≤200))&&
 eE c.feasts.length (fun k=>wi ((c.feasts.getD k 0).tdiv 100) 1 12&&wi ((c.feasts.getD k 0).tmod 100) 1 31)&&(rising c.rest 0 6&&rising c.feasts 0 2000&&rising c.shut 0 100000)
theorem sC (n:Nat)(h:n≤4294967296):IntKind.i64.wrap ((n:Int)-1)=(n:Int)-1:=bU (by omega)
theorem ar9 (r:Realm)(c:City)(h1:c.rest.length≤4294967296)(h2:c.feasts.length≤4294967296)(h3:c.shut.length≤4294967296)(h4:r.orders.length≤4294967296)(h5:r.currencies.length≤4294967296)(hi:∀y,y∈c.feasts→aQ y):
 ao T 79 [aW r,gw c] (.bool (pR r c)):=by
 refine .of_tree rfl (lA 111 (by kernel_rfl)) au9 ?_;simp[UP,sC _ h4,sC _ h5];refine⟨_,cT _ _ _,?_⟩;cases e1:wi c.order 0 (r.orders.length-1)
 case false=>simp[pR,e1]
 simp;refine⟨_,cT _ _ _,?_⟩;cases e2:wi c.currency 0 (r.currencies.length-1)
 case false=>simp[pR,e1,e2]
 by_cases g1:(c.feasts.length:Int)≤60
 case neg=>
  have hf:pR r c=false:=by
   have fg:decide (c.feasts.length≤60)=false:=decide_eq_false (by omega);simp only[pR,fg,sF,yH]
  have fg:(60:Int)<c.feasts.length:=by omega
  simp[fg,hf]
 by_cases g2:(c.shut.length:Int)≤200
 case neg=>
  have hf:pR r c=false:=by
   have fg:decide (c.shut.length≤200)=false:=decide_eq_false (by omega);simp only[pR,fg,sF,yH]
  have ot:(200:Int)<c.shut.length:=by omega
  simp[ot,hf]
 have fg:¬(60:Int)<c.feasts.length:=by omega
 have ot:¬(200:Int)<c.shut.length:=by omega
 have hf:pR r c=(eE c.feasts.length (fun k=>wi ((c.feasts.getD k 0).tdiv 100) 1 12&&wi ((c.feasts.getD k 0).tmod 100) 1 31)&&(rising c.rest 0 6&&rising c.feasts 0 2000&&rising c.shut 0 100000)):=by
  have e3:decide (c.feasts.length≤60)=true:=decide_eq_true (by omega);have e4:decide (c.shut.length≤200)=true:=decide_eq_true (by omega);simp only[pR,e1,e2,e3,e4,qU]
 rw[hf];simp[fg,ot];refine gm c.feasts.length (fun k=>wi ((c.feasts.getD k 0).tdiv 100) 1 12&&wi ((c.feasts.getD k 0).tmod 100) 1 31) (fun k=>[.bool false,.int k]) (fun _=>[]) ?_ (fun k hk ho=>?_) (fun k hk ho hb=>?_) (fun hj=>?_)
 ·simp
 ·have hw:=bk hk h2;have hI:=hi _ (dq hk);have hq:IntKind.i64.wrap (c.feasts[k].tdiv 100)=c.feasts[k].tdiv 100:=afY hI;simp[hk] at ho;simp[Sw,FD,hk,ints,hq];refine⟨_,cT _ _ _,?_⟩;simp[ho.1,hk];refine⟨_,cT _ _ _,?_⟩;simp[ho.2,hk,hw]
 ·have hI:=hi _ (dq hk);have hq:IntKind.i64.wrap (c.feasts[k].tdiv 100)=c.feasts[k].tdiv 100:=afY hI;simp[hk] at ho;simp only[aJ] at hb;rw[hb];simp[Sw,FD,hk,ints,hq];refine⟨_,cT _ _ _,?_⟩;cases e3:wi (c.feasts[k].tdiv 100) 1 12 with
  |false=>simp
  |true=>
   have:=ho e3;simp[hk];refine⟨_,cT _ _ _,?_⟩;simp[this]
 ·simp only[aJ] at hj;rw[hj];simp[Sw,FD];refine⟨_,R2 _ _ _ h1,?_⟩;simp;cases e3:rising c.rest 0 6<;>simp;refine⟨_,R2 _ _ _ h2,?_⟩;simp;cases e4:rising c.feasts 0 2000<;>simp;exact R2 _ _ _ h3
theorem ahO (r:Realm)(c:City):pR r c=oe r c:=by
 rw[sE];have bC:∀(i:Int) (n:Nat),(wi i 0 (n-1)=true)↔(ay i n=true):=by intro i n;simp[wi,ay];omega
 simp only[pR,oe,aq,decide_eq_true_eq,bC,rising,yT,oW];constructor
 ·rintro⟨⟨⟨⟨⟨a1,a2⟩,a3⟩,a4⟩,a5⟩,⟨a6,a7⟩,a8⟩;refine⟨⟨fun k hk=>(a5 k hk).2,⟨⟨⟨a3,a4⟩,a1⟩,a2⟩⟩,⟨a6,fun k hk=>?_⟩,a8⟩;have h1:=a5 k hk;have h2:=a7 k hk;simp[wi,afK,TK] at h1 h2 ⊢;split at h1<;>omega
 ·rintro⟨⟨a5,⟨⟨⟨a3,a4⟩,a1⟩,a2⟩⟩,⟨a6,a7⟩,a8⟩;refine⟨⟨⟨⟨⟨a1,a2⟩,a3⟩,a4⟩,fun k hk=>?_⟩,⟨a6,fun k hk=>?_⟩,a8⟩
  ·have h1:=a5 k hk;have h2:=a7 k hk;simp[wi,afK,TK] at h1 h2 ⊢;split at h1<;>(try split)<;>omega
  ·have h2:=a7 k hk;simp[wi] at h2 ⊢;omega
end Rm
namespace Rm
open Go Go.Proofs Cx
theorem Cb {α β:Type}(f:α→β){l:List α}{k:Nat}(h:k<l.length):(l.take (k+1)).map f=(l.take k).map f++[f l[k]]:=by
 rw[ki h,lz];rfl
theorem nA (i:Int)(n:Nat):ay i n=wi i 0 ((n:Int)-1):=by
 rw[sE];simp[wi,ay];omega
def yW (o:Order):List Int:=o.choices.map (·.ask)
def CD (o:Order):List Int:=o.rules.map (·.ask)
def qz (o:Order):Bool:=eE o.choices.length (fun k=>ay (o.choices.getD k default).by_ 5)&&(rising (yW o) 0 21&&rising (CD o) 0 21)
theorem asO (o:Order)(h1:o.choices.length≤100000)(h2:o.rules.length≤100000):ao T 114 [jN o] (.bool (qz o)):=by
 refine .of_tree rfl (lA 21 (by kernel_rfl)) avB ?_;simp[Vi];refine gm o.choices.length (fun k=>ay (o.choices.getD k default).by_ 5) (fun k=>[.bool false,.none,.int k]) (fun k=>[ints ((o.choices.take k).map (·.ask))]) ?_ (fun k hk ho=>?_) (fun k hk ho hb=>?_) (fun hj=>?_)
 ·simp[ints]
 ·have hw:=bk hk (by omega);have hl:(o.choices.take k).length=k:=by rw[dU];omega
  simp[hk] at ho;rw[Cb _ hk];simp[SS,FZ,hk,hw,ints,hl];refine⟨by omega,_,fW _ _,?_⟩;simp[ho,hw]
 ·have hf:qz o=false:=by simp only[qz,hb,sF]
  have hl:(o.choices.take k).length=k:=by rw[dU];omega
  simp[hk] at ho;simp[SS,FZ,hk,ints,hl,hf];refine⟨by omega,_,fW _ _,?_⟩;simp[ho]
 ·have hf:qz o=(rising (yW o) 0 21&&rising (CD o) 0 21):=by simp only[qz,hj,qU]
  rw[hf];simp[SS,FZ];refine aN.forRounds o.rules.length (fun k=>[.none,.int k]) (fun k=>[ints ((o.rules.take k).map (·.ask))]) ?_ (fun k hk=>?_) ?_
  ·simp[ints]
  ·have hw:=bk hk (by omega);have hl:(o.rules.take k).length=k:=by rw[dU];omega
   rw[Cb _ hk];simp[aeH,Lv,hk,hw,ints,hl];omega
  ·simp[aeH,Lv];refine⟨_,Gm (yW o) _ _ (by simp[yW];omega),?_⟩;simp;cases e1:rising (yW o) 0 21<;>simp;exact Gm (CD o) _ _ (by simp[CD];omega)
def xT (o:Order)(k:Nat):Bool:=wi (o.choices.getD k default).ask 0 21&&wi (o.choices.getD k default).by_ 0 4&&(k==0||decide ((o.choices.getD (k-1) default).ask<(o.choices.getD k default).ask))
def Bu (o:Order)(k:Nat):Bool:=wi (o.rules.getD k default).ask 0 21&&(k==0||decide ((o.rules.getD (k-1) default).ask<(o.rules.getD k default).ask))
theorem arx (o:Order):(eE o.choices.length (xT o)&&eE o.rules.length (Bu o))=qz o:=by
 rw[sE];simp only[qz,aq,rising,yT,yW,CD,fG];have g1:∀k,k<o.choices.length→(oW (o.choices.map (·.ask)) 0 21 k=true↔wi (o.choices.getD k default).ask 0 21=true∧(k=0∨(o.choices.getD (k-1) default).ask<(o.choices.getD k default).ask)):=by
  intro k hk;have bx:k-1<o.choices.length:=by omega
  simp[oW,hk,bx]
 have g2:∀k,k<o.rules.length→(oW (o.rules.map (·.ask)) 0 21 k=true↔wi (o.rules.getD k default).ask 0 21=true∧(k=0∨(o.rules.getD (k-1) default).ask<(o.rules.getD k default).ask)):=by
  intro k hk;have bx:k-1<o.rules.length:=by omega
  simp[oW,hk,bx]
 constructor
 ·rintro⟨a,b⟩;refine⟨fun k hk=>?_,fun k hk=>(g1 k hk).2 ?_,fun k hk=>(g2 k hk).2 ?_⟩
  ·have:=a k hk;simp[xT,wi,ay] at this ⊢;omega
  ·have:=a k hk;simp[xT] at this ⊢;exact⟨this.1.1,this.2⟩
  ·have:=b k hk;simp[Bu] at this ⊢;exact this
 ·rintro⟨c,a,b⟩;refine⟨fun k hk=>?_,fun k hk=>?_⟩
  ·have h1:=(g1 k hk).1 (a k hk);have h2:=c k hk;simp[xT,wi,ay] at h1 h2 ⊢;omega
  ·have h1:=(g2 k hk).1 (b k hk);simp[Bu] at h1 ⊢;exact h1
theorem asa (o:Order)(h1:o.choices.length≤100000)(h2:o.rules.length≤100000):ao T 80 [jN o] (.bool (qz o)):=by
 rw[←arx];refine .of_tree rfl (lA 116 (by kernel_rfl)) ava ?_;simp[UQ];refine gm o.choices.length (xT o) (fun k=>[.bool false,.int k]) (fun _=>[]) ?_ (fun k hk ho=>?_) (fun k hk ho hb=>?_) (fun hj=>?_)
 ·simp
 ·have hw:=bk hk (by omega);simp[xT,hk] at ho;simp[Sy,FE,hk];refine⟨_,cT _ _ _,?_⟩;simp[ho.1.1,hk];refine⟨_,cT _ _ _,?_⟩;by_cases hZ:0<k
  ·have bx:k-1<o.choices.length:=by omega
   have dF:IntKind.i64.wrap ((k:Int)-1)=((k-1:Nat):Int):=by rw[vY (by omega)];omega
   have h3:¬o.choices[k].ask≤o.choices[k-1].ask:=by
        rcases ho.2 with h3|h3
        ·omega
        ·simp[bx] at h3;omega
   simp[ho.1.2,hk,hw,dF,h3,hZ,bx]
  ·simp[ho.1.2,hk,hw,hZ];omega
 ·rw[hb];simp[xT,hk] at ho;simp[Sy,FE,hk];refine⟨_,cT _ _ _,?_⟩;cases e1:wi o.choices[k].ask 0 21 with
  |false=>simp
  |true=>
   simp[hk];refine⟨_,cT _ _ _,?_⟩;cases e2:wi o.choices[k].by_ 0 4 with
   |false=>simp
   |true=>
    have h3:=ho e1 e2;have hZ:0<k:=by omega
    have bx:k-1<o.choices.length:=by omega
    have dF:IntKind.i64.wrap ((k:Int)-1)=((k-1:Nat):Int):=by rw[vY (by omega)];omega
    have fh:=h3.2;simp[bx] at fh;simp[hk,dF,fh,hZ,bx]
 ·rw[hj];simp[Sy,FE];refine gm o.rules.length (Bu o) (fun k=>[.bool false,.int k]) (fun _=>[]) ?_ (fun k hk ho=>?_) (fun k hk ho hb=>?_) (fun hj=>?_)
  ·simp
  ·have hw:=bk hk (by omega);simp[Bu,hk] at ho;simp[Sz,FF,hk];refine⟨_,cT _ _ _,?_⟩;by_cases hZ:0<k
   ·have bx:k-1<o.rules.length:=by omega
    have dF:IntKind.i64.wrap ((k:Int)-1)=((k-1:Nat):Int):=by rw[vY (by omega)];omega
    have h3:¬o.rules[k].ask≤o.rules[k-1].ask:=by
       rcases ho.2 with h3|h3
       ·omega
       ·simp[bx] at h3;omega
    simp[ho.1,hk,hw,dF,h3,hZ,bx]
   ·simp[ho.1,hk,hw,hZ];omega
  ·rw[hb];simp[Bu,hk] at ho;simp[Sz,FF,hk];refine⟨_,cT _ _ _,?_⟩;cases e1:wi o.rules[k].ask 0 21 with
   |false=>simp
   |true=>
    have h3:=ho e1;have hZ:0<k:=by omega
    have bx:k-1<o.rules.length:=by omega
    have dF:IntKind.i64.wrap ((k:Int)-1)=((k-1:Nat):Int):=by rw[vY (by omega)];omega
    have fh:=h3.2;simp[bx] at fh;simp[hk,dF,fh,hZ,bx]
  ·rw[hj];simp[Sz,FF]
def fu (r:Realm):List ByteArray:=r.cities.map (·.name)
def fw (r:Realm):List ByteArray:=r.firms.map (·.name)
def eM (r:Realm):List ByteArray:=r.orders.map (·.name)
theorem asN (r:Realm)(h1:r.cities.length≤100000)(h2:r.firms.length≤100000)(h3:r.orders.length≤100000):ao T 106 [aW r] (.tup [strs (fu r),strs (fw r),strs (eM r)]):=by
 refine .of_tree rfl (lA 8 (by kernel_rfl)) avA ?_;simp[Vh];refine aN.forRounds r.cities.length (fun k=>[.none,.int k]) (fun k=>[strs ((r.cities.take k).map (·.name))]) ?_ (fun k hk=>?_) ?_
 ·simp[strs]
 ·have hw:=bk hk (by omega);have hl:(r.cities.take k).length=k:=by rw[dU];omega
  rw[Cb _ hk];simp[aeE,Ls,hk,hw,strs,hl];omega
 ·simp[aeE,Ls];refine aN.forRounds r.firms.length (fun k=>[.none,.int k]) (fun k=>[strs ((r.firms.take k).map (·.name))]) ?_ (fun k hk=>?_) ?_
  ·simp[strs]
  ·have hw:=bk hk (by omega);have hl:(r.firms.take k).length=k:=by rw[dU];omega
   rw[Cb _ hk];simp[aeF,Lt,hk,hw,strs,hl];omega
  ·simp[aeF,Lt];refine aN.forRounds r.orders.length (fun k=>[.none,.int k]) (fun k=>[strs ((r.orders.take k).map (·.name))]) ?_ (fun k hk=>?_) ?_
   ·simp[strs]
   ·have hw:=bk hk (by omega);have hl:(r.orders.take k).length=k:=by rw[dU];omega
    rw[Cb _ hk];simp[aeG,Lu,hk,hw,strs,hl];omega
   ·simp[aeG,Lu,fu,fw,eM]
end Rm
namespace Rm
open Go Go.Proofs Cx
structure Small (r:Realm):Prop where
 cur:r.currencies.length≤1000
 cities:r.cities.length≤1000
 groups:r.groups.length≤1000
 firms:r.firms.length≤1000
 orders:r.orders.length≤1000
 us:r.usances.length≤1000
 rates:r.rates.length≤1000
 halts:r.halts.length≤1000
 city:∀c,c∈r.cities→c.rest.length≤1000∧c.feasts.length≤1000∧c.shut.length≤1000∧∀y,y∈c.feasts→aQ y
 order:∀o,o∈r.orders→o.choices.length≤1000∧o.rules.length≤1000
 rate:∀x,x∈r.rates→aQ x.num∧aQ x.den
def l7 (r:Realm)(k j:Nat):Bool:=(r.usances.getD j default).fr !=(r.usances.getD k default).fr||(r.usances.getD j default).to !=(r.usances.getD k default).to
def yC (r:Realm)(k:Nat):Int:=
 if(ay (r.usances.getD k default).fr r.cities.length&&ay (r.usances.getD k default).to r.cities.length&&wi (r.usances.getD k default).days 1 20000)=false then 1 else if eE k (l7 r k) then 0 else 5
def vV (r:Realm):Int:=if 100<r.usances.length then 6 else fJ r.usances.length (yC r)
theorem asQ (r:Realm)(h:Small r):ao T 115 [aW r] (.int (vV r)):=by
 refine .of_tree rfl (lA 22 (by kernel_rfl)) avE ?_;have hu:=h.us;simp[Vl,vV];by_cases h0:100<r.usances.length
 ·have ga:(100:Int)<r.usances.length:=by omega
  have wO:¬r.usances.length≤100:=by omega
  simp[h0,ga,wO]
 have ga:¬(100:Int)<r.usances.length:=by omega
 simp[h0,ga];refine oZ r.usances.length (yC r) (fun k=>[.int 0,.int k]) (fun _=>[]) ?_ (fun k hk ho=>?_) (fun k hk ho hb=>?_) (fun hj=>?_)
 ·simp
 ·have hw:=bk hk (by omega);have ha:ay r.usances[k].fr r.cities.length=true∧ay r.usances[k].to r.cities.length=true∧wi r.usances[k].days 1 20000=true∧eE k (l7 r k)=true:=by
   unfold yC at ho;simp only[aJ,bF hk,jK] at ho;cases e1:ay r.usances[k].fr r.cities.length<;>cases e2:ay r.usances[k].to r.cities.length<;>cases e3:wi r.usances[k].days 1 20000<;>cases e4:eE k (l7 r k)<;>simp[e1,e2,e3,e4] at ho ⊢
  obtain⟨a1,a2,a3,a4⟩:=ha;simp[wi] at a3;have a5:¬r.usances[k].days<1:=by omega
  have a6:¬20000<r.usances[k].days:=by omega
  simp[SW,F2,hk];refine⟨_,fW _ _,?_⟩;simp[a1];refine⟨_,fW _ _,?_⟩;simp[a2,a5,a6];refine⟨by omega,gm k (l7 r k) (fun j=>[.int 0,.int j]) (fun _=>[]) ?_ (fun j hj eG=>?_) (fun j hj eG de=>?_) (fun rD=>?_)⟩
  ·simp
  ·have xu:=bk hj (by omega);have cm:j<r.usances.length:=by omega
   have hm:j<min k r.usances.length:=by omega
   simp[l7,cm,hk] at eG;simp[Lw,BX,hj,cm,hk,xu,hm];intro e e';rcases eG with h|h
   ·exact absurd e h
   ·exact absurd e' h
  ·rw[a4] at de;cases de
  ·simp[Lw,BX,hw];omega
 ·simp[SW,F2,hk,hb];refine⟨_,fW _ _,?_⟩;unfold yC at ho ⊢;simp only[aJ,bF hk,jK] at ho ⊢;cases e1:ay r.usances[k].fr r.cities.length
  ·simp
  simp;refine⟨_,fW _ _,?_⟩;cases e2:ay r.usances[k].to r.cities.length
  ·simp
  cases e3:wi r.usances[k].days 1 20000
  ·simp[wi] at e3;by_cases g:r.usances[k].days<1
   ·simp[g]
   ·simp[g,e3 (by omega)]
  have N1:=e3;simp[wi] at N1;have a5:¬r.usances[k].days<1:=by omega
  have a6:¬20000<r.usances[k].days:=by omega
  simp[e1,e2,e3] at ho;simp[a5,a6];refine⟨by omega,gm k (l7 r k) (fun j=>[.int 0,.int j]) (fun _=>[]) ?_ (fun j hj eG=>?_) (fun j hj eG de=>?_) (fun rD=>?_)⟩
  ·simp
  ·have xu:=bk hj (by omega);have cm:j<r.usances.length:=by omega
   have hm:j<min k r.usances.length:=by omega
   simp[l7,cm,hk] at eG;simp[Lw,BX,hj,cm,hk,xu,hm];intro e e';rcases eG with h|h
   ·exact absurd e h
   ·exact absurd e' h
  ·have cm:j<r.usances.length:=by omega
   have hm:j<min k r.usances.length:=by omega
   simp[l7,cm,hk] at eG;simp[Lw,BX,hj,cm,hk,ho,hm]
   first|exact eG|simp[eG]
  ·rw[rD] at ho;cases ho
 ·simp[SW,F2,hj]
theorem asf (r:Realm)(h:Small r):ao T 54 [aW r] (.int (vV r)):=by
 refine .of_tree rfl (lA 117 (by kernel_rfl)) avi ?_;have hu:=h.us;have hc:=h.cities;simp[UZ,vV];by_cases h0:100<r.usances.length
 ·have ga:(100:Int)<r.usances.length:=by omega
  have wO:¬r.usances.length≤100:=by omega
  simp[h0,ga,wO]
 have ga:¬(100:Int)<r.usances.length:=by omega
 simp[h0,ga];refine oZ r.usances.length (yC r) (fun k=>[.int 0,.int k]) (fun _=>[]) ?_ (fun k hk ho=>?_) (fun k hk ho hb=>?_) (fun hj=>?_)
 ·simp
 ·have hw:=bk hk (by omega);have ha:ay r.usances[k].fr r.cities.length=true∧ay r.usances[k].to r.cities.length=true∧wi r.usances[k].days 1 20000=true∧eE k (l7 r k)=true:=by
   unfold yC at ho;simp only[aJ,bF hk,jK] at ho;cases e1:ay r.usances[k].fr r.cities.length<;>cases e2:ay r.usances[k].to r.cities.length<;>cases e3:wi r.usances[k].days 1 20000<;>cases e4:eE k (l7 r k)<;>simp[e1,e2,e3,e4] at ho ⊢
  obtain⟨a1,a2,a3,a4⟩:=ha;rw[nA] at a1 a2;simp[SJ,FO,hk,sC _ (show r.cities.length≤4294967296 by omega)];refine⟨_,cT _ _ _,?_⟩;simp[a1,sC _ (show r.cities.length≤4294967296 by omega)];refine⟨_,cT _ _ _,?_⟩;simp[a2];refine⟨_,cT _ _ _,?_⟩;simp[a3];refine gm k (l7 r k) (fun j=>[.int 0,.int j]) (fun _=>[]) ?_ (fun j hj eG=>?_) (fun j hj eG de=>?_) (fun rD=>?_)
  ·simp
  ·have xu:=bk hj (by omega);have cm:j<r.usances.length:=by omega
   simp[l7,cm,hk] at eG;simp[Ln,BV,hj,cm,hk,xu];intro e e';rcases eG with h|h
   ·exact absurd e h
   ·exact absurd e' h
  ·rw[a4] at de;cases de
  ·simp[Ln,BV,hw]
 ·simp[SJ,FO,hk,hb,sC _ (show r.cities.length≤4294967296 by omega)];refine⟨_,cT _ _ _,?_⟩;unfold yC at ho ⊢;simp only[aJ,bF hk,jK,nA] at ho ⊢;cases e1:wi r.usances[k].fr 0 ((r.cities.length:Int)-1)
  ·simp
  simp[sC _ (show r.cities.length≤4294967296 by omega)];refine⟨_,cT _ _ _,?_⟩;cases e2:wi r.usances[k].to 0 ((r.cities.length:Int)-1)
  ·simp
  simp;refine⟨_,cT _ _ _,?_⟩;cases e3:wi r.usances[k].days 1 20000
  ·simp
  simp[e1,e2,e3] at ho;simp;refine gm k (l7 r k) (fun j=>[.int 0,.int j]) (fun _=>[]) ?_ (fun j hj eG=>?_) (fun j hj eG de=>?_) (fun rD=>?_)
  ·simp
  ·have xu:=bk hj (by omega);have cm:j<r.usances.length:=by omega
   simp[l7,cm,hk] at eG;simp[Ln,BV,hj,cm,hk,xu];intro e e';rcases eG with h|h
   ·exact absurd e h
   ·exact absurd e' h
  ·have cm:j<r.usances.length:=by omega
   simp[l7,cm,hk] at eG;simp[Ln,BV,hj,cm,hk,ho]
   first|exact eG|simp[eG]
  ·rw[rD] at ho;cases ho
 ·simp[SJ,FO,hj]
def yk (r:Realm)(k:Nat):Bool:=ay (r.rates.getD k default).fr r.currencies.length&&ay (r.rates.getD k default).to r.currencies.length&&((r.rates.getD k default).fr !=(r.rates.getD k default).to)&&
 wi (r.rates.getD k default).num 1 1073741824&&wi (r.rates.getD k default).den 1 1073741824&&wi (r.rates.getD k default).since 0 100000
def uQ (r:Realm)(k:Nat):Bool:=ay (r.halts.getD k default).order r.orders.length&&wi (r.halts.getD k default).fr 0 (r.halts.getD k default).to&&decide ((r.halts.getD k default).to≤100000)
def oV (r:Realm):Int:=if 100<r.rates.length then 6 else if eE r.rates.length (yk r)=false then 1 else if 20<r.halts.length then 6 else if eE r.halts.length (uQ r) then 0 else 1
theorem J3 {n:Int}(h:aQ n)(m:Int)(hm:0≤m∧m≤4294967296):ay (IntKind.i64.wrap (n-1)) m=wi n 1 m:=by
 unfold aQ at h;by_cases e:n=-9223372036854775808
 ·subst e;have:IntKind.i64.wrap (-9223372036854775808-1)=9223372036854775807:=by decide
  rw[this,sE];simp[ay,wi];omega
 ·rw[bU (by omega),sE];simp[ay,wi];omega
theorem aaq (n:Int):ay n 100001=wi n 0 100000:=by rw[sE];simp[ay,wi];omega
theorem asP (r:Realm)(h:Small r):ao T 116 [aW r] (.int (oV r)):=by
 refine .of_tree rfl (lA 23 (by kernel_rfl)) avC ?_;have hu:=h.rates;have hh:=h.halts;simp[Vj,oV];by_cases h0:100<r.rates.length
 ·have ga:(100:Int)<r.rates.length:=by omega
  have wO:¬r.rates.length≤100:=by omega
  simp[h0,ga,wO]
 have ga:¬(100:Int)<r.rates.length:=by omega
 simp[h0,ga];have key:∀k (hk:k<r.rates.length),∀{ρ:Env} {Q:Out→Prop},True:=fun _ _ _ _=>trivial;refine gm r.rates.length (yk r) (fun k=>[.int 0,.int k]) (fun _=>[]) ?_ (fun k hk ho=>?_) (fun k hk ho hb=>?_) (fun hj=>?_)
 ·simp
 ·have hw:=bk hk (by omega);have hI:=h.rate _ (dq hk);simp[yk,hk] at ho;obtain⟨⟨⟨⟨⟨a1,a2⟩,a3⟩,a4⟩,a5⟩,a6⟩:=ho;simp[SU,F0,hk];refine⟨_,fW _ _,?_⟩;simp[a1];refine⟨_,fW _ _,?_⟩;simp[a2,a3];refine⟨_,fW _ _,?_⟩;simp[J3 hI.1,a4];refine⟨_,fW _ _,?_⟩;simp[J3 hI.2,a5];refine⟨_,fW _ _,?_⟩;simp[aaq,a6,hw]
 ·have hI:=h.rate _ (dq hk);rw[hb];simp[yk,hk] at ho;simp[SU,F0,hk];refine⟨_,fW _ _,?_⟩;cases e1:ay r.rates[k].fr r.currencies.length
  ·simp
  simp;refine⟨_,fW _ _,?_⟩;cases e2:ay r.rates[k].to r.currencies.length
  ·simp
  by_cases e3:r.rates[k].fr=r.rates[k].to
  ·simp[e3]
  simp[e3];refine⟨_,fW _ _,?_⟩;rw[J3 hI.1 _ (by omega)];cases e4:wi r.rates[k].num 1 1073741824
  ·simp
  simp;refine⟨_,fW _ _,?_⟩;rw[J3 hI.2 _ (by omega)];cases e5:wi r.rates[k].den 1 1073741824
  ·simp
  simp;refine⟨_,fW _ _,?_⟩;rw[aaq];simp[ho e1 e2 e3 e4 e5]
 ·rw[hj];simp[SU,F0];by_cases h1:20<r.halts.length
  ·have cH:(20:Int)<r.halts.length:=by omega
   have Ov:¬r.halts.length≤20:=by omega
   simp[h1,cH,Ov]
  have cH:¬(20:Int)<r.halts.length:=by omega
  simp[h1,cH];refine gm r.halts.length (uQ r) (fun k=>[.int 0,.int k]) (fun _=>[]) ?_ (fun k hk ho=>?_) (fun k hk ho hb=>?_) (fun hj=>?_)
  ·simp
  ·have hw:=bk hk (by omega);simp[uQ,wi,hk] at ho;obtain⟨⟨a1,a2⟩,a3⟩:=ho;have b1:¬r.halts[k].fr<0:=by omega
   have b2:¬r.halts[k].to<r.halts[k].fr:=by omega
   have b3:¬100000<r.halts[k].to:=by omega
   simp[SV,F1,hk];refine⟨_,fW _ _,?_⟩;simp[a1,b1,b2,b3,hw]
  ·rw[hb];simp[uQ,wi,hk] at ho;simp[SV,F1,hk];refine⟨_,fW _ _,?_⟩;cases e1:ay r.halts[k].order r.orders.length
   ·simp
   have:=ho e1;by_cases b1:r.halts[k].fr<0
   ·simp[b1]
   by_cases b2:r.halts[k].to<r.halts[k].fr
   ·simp[b1,b2]
   have b3:100000<r.halts[k].to:=this (by omega) (by omega);simp[b1,b2,b3]
  ·rw[hj];simp[SV,F1]
theorem ase (r:Realm)(h:Small r):ao T 55 [aW r] (.int (oV r)):=by
 refine .of_tree rfl (lA 118 (by kernel_rfl)) avh ?_;have hu:=h.rates;have hh:=h.halts;have hc:=sC r.currencies.length (by have:=h.cur;omega);have JQ:=sC r.orders.length (by have:=h.orders;omega);simp[UY,oV];by_cases h0:100<r.rates.length
 ·have ga:(100:Int)<r.rates.length:=by omega
  have wO:¬r.rates.length≤100:=by omega
  simp[h0,ga,wO]
 have ga:¬(100:Int)<r.rates.length:=by omega
 simp[h0,ga];refine gm r.rates.length (yk r) (fun k=>[.int 0,.int k]) (fun _=>[]) ?_ (fun k hk ho=>?_) (fun k hk ho hb=>?_) (fun hj=>?_)
 ·simp
 ·have hw:=bk hk (by omega);simp[yk,hk,nA] at ho;obtain⟨⟨⟨⟨⟨a1,a2⟩,a3⟩,a4⟩,a5⟩,a6⟩:=ho;simp[SH,FM,hk,hc];refine⟨_,cT _ _ _,?_⟩;simp[a1,hc];refine⟨_,cT _ _ _,?_⟩;simp[a2,a3];refine⟨_,cT _ _ _,?_⟩;simp[a4];refine⟨_,cT _ _ _,?_⟩;simp[a5];refine⟨_,cT _ _ _,?_⟩;simp[a6,hw]
 ·rw[hb];simp[yk,hk,nA] at ho;simp[SH,FM,hk,hc];refine⟨_,cT _ _ _,?_⟩;cases e1:wi r.rates[k].fr 0 ((r.currencies.length:Int)-1)
  ·simp
  simp[hc];refine⟨_,cT _ _ _,?_⟩;cases e2:wi r.rates[k].to 0 ((r.currencies.length:Int)-1)
  ·simp
  by_cases e3:r.rates[k].fr=r.rates[k].to
  ·simp[e3]
  simp[e3];refine⟨_,cT _ _ _,?_⟩;cases e4:wi r.rates[k].num 1 1073741824
  ·simp
  simp;refine⟨_,cT _ _ _,?_⟩;cases e5:wi r.rates[k].den 1 1073741824
  ·simp
  simp;refine⟨_,cT _ _ _,?_⟩;simp[ho e1 e2 e3 e4 e5]
 ·rw[hj];simp[SH,FM];by_cases h1:20<r.halts.length
  ·have cH:(20:Int)<r.halts.length:=by omega
   have Ov:¬r.halts.length≤20:=by omega
   simp[h1,cH,Ov]
  have cH:¬(20:Int)<r.halts.length:=by omega
  simp[h1,cH];refine gm r.halts.length (uQ r) (fun k=>[.int 0,.int k]) (fun _=>[]) ?_ (fun k hk ho=>?_) (fun k hk ho hb=>?_) (fun hj=>?_)
  ·simp
  ·have hw:=bk hk (by omega);simp[uQ,hk,nA] at ho;obtain⟨⟨a1,a2⟩,a3⟩:=ho;have b3:¬100000<r.halts[k].to:=by omega
   simp[SI,FN,hk,JQ];refine⟨_,cT _ _ _,?_⟩;simp[a1];refine⟨_,cT _ _ _,?_⟩;simp[a2,b3,hw]
  ·rw[hb];simp[uQ,hk,nA] at ho;simp[SI,FN,hk,JQ];refine⟨_,cT _ _ _,?_⟩;cases e1:wi r.halts[k].order 0 ((r.orders.length:Int)-1)
   ·simp
   simp;refine⟨_,cT _ _ _,?_⟩;cases e2:wi r.halts[k].fr 0 r.halts[k].to
   ·simp
   simp[ho e1 e2]
  ·rw[hj];simp[SI,FN]
end Rm
namespace Rm
open Go Go.Proofs Cx
def eX:List Int→Int
 |[]=>0
 |x::l=>if x=0 then eX l else x
theorem Tz:∀{l:List Int},eX l=0↔∀x,x∈l→x=0
 |[]=>by simp[eX]
 |x::l=>by
  simp only[eX,cC,forall_eq_or_imp];by_cases h:x=0
  ·simp[h,Tz (l:=l)]
  ·simp[h]
def qa (r:Realm)(i:Nat):Bool:=ay (r.firms.getD i default).city r.cities.length&&ay (r.firms.getD i default).group r.groups.length
def pQ (r:Realm)(i:Nat):Bool:=oe r (r.cities.getD i default)
def nG (r:Realm)(i:Nat):Bool:=qz (r.orders.getD i default)
def wN (r:Realm)(i:Nat):Bool:=ay (r.groups.getD i default).grade 10
def uO (r:Realm):Int:=if 20<r.groups.length then 6 else if eE r.groups.length (wN r) then 0 else 1
def lE (r:Realm):Int:=eX [eP r.currencies 8 (fun _=>true),eP (fu r) 40 (pQ r),uO r,eP (fw r) 200 (qa r),eP (eM r) 20 (nG r),vV r,oV r]
theorem ahE (i:Int):ao T 108 [.int i] (.bool true):=by
 refine .of_tree rfl (lA 14 (by kernel_rfl)) avo ?_;simp[U6]
theorem ahF (r:Realm)(h:Small r)(i:Nat)(hi:i<r.cities.length):ao T 109 [.int i,.ref (aW r)] (.bool (pQ r i)):=by
 refine .of_tree rfl (lA 15 (by kernel_rfl)) avp ?_;obtain⟨h1,h2,h3,h4⟩:=h.city _ (dq hi);simp[U7,hi,pQ];exact asK r r.cities[i] (by omega) (by omega) (by omega)
theorem ahG (r:Realm)(i:Nat)(hi:i<r.firms.length):ao T 112 [.int i,.ref (aW r)] (.bool (qa r i)):=by
 refine .of_tree rfl (lA 19 (by kernel_rfl)) avq ?_;simp[U8,hi,qa];refine⟨_,fW _ _,?_⟩;simp[hi];cases e1:ay r.firms[i].city r.cities.length<;>simp;exact fW _ _
theorem ahH (r:Realm)(h:Small r)(i:Nat)(hi:i<r.orders.length):ao T 113 [.int i,.ref (aW r)] (.bool (nG r i)):=by
 refine .of_tree rfl (lA 20 (by kernel_rfl)) avr ?_;obtain⟨h1,h2⟩:=h.order _ (dq hi);simp[U9,hi,nG];exact asO r.orders[i] (by omega) (by omega)
theorem aeS (r:Realm)(h:Small r):ao T 85 [aW r] (.int (lE r)):=by
 refine .of_tree rfl (lA 7 (by kernel_rfl)) avs ?_;have g1:=h.cur;have g2:=h.cities;have g3:=h.firms;have g4:=h.orders;have g5:=h.groups;simp[U5];refine⟨_,asN r (by omega) (by omega) (by omega),?_⟩;simp;refine⟨_,LH r.currencies 8 108 [] (fun _=>true) (fun i _=>ahE _) (by omega),?_⟩;unfold lE;generalize e1:eP r.currencies 8 (fun _=>true)=x1;by_cases z1:x1=0
 case neg=>simp[z1,eX]
 simp[z1,eX];refine⟨_,LH (fu r) 40 109 [.ref (aW r)] (pQ r) (fun i hi=>ahF r h i (by simpa [fu] using hi)) (by simp[fu];omega),?_⟩;generalize e2:eP (fu r) 40 (pQ r)=x2;by_cases z2:x2=0
 case neg=>simp[z2]
 simp[z2];by_cases z3:20<r.groups.length
 ·have Wt:(20:Int)<r.groups.length:=by omega
  simp[Wt,uO,z3]
 have Wt:¬(20:Int)<r.groups.length:=by omega
 simp[Wt,uO,z3];refine gm r.groups.length (wN r) (fun k=>[.int 0,.int k]) (fun _=>[]) ?_ (fun k hk ho=>?_) (fun k hk ho hb=>?_) (fun hj=>?_)
 ·simp
 ·have hw:=bk hk (by omega);simp[wN,hk] at ho;simp[SN,FU,hk];refine⟨_,fW _ _,?_⟩;simp[ho,hw]
 ·simp[wN,hk] at ho;rw[hb];simp[SN,FU,hk];refine⟨_,fW _ _,?_⟩;simp[ho]
 ·rw[hj];simp[SN,FU];refine⟨_,LH (fw r) 200 112 [.ref (aW r)] (qa r) (fun i hi=>ahG r i (by simpa [fw] using hi)) (by simp[fw];omega),?_⟩;generalize e4:eP (fw r) 200 (qa r)=x4;by_cases z4:x4=0
  case neg=>simp[z4]
  simp[z4];refine⟨_,LH (eM r) 20 113 [.ref (aW r)] (nG r) (fun i hi=>ahH r h i (by simpa [eM] using hi)) (by simp[eM];omega),?_⟩;generalize e5:eP (eM r) 20 (nG r)=x5;by_cases z5:x5=0
  case neg=>simp[z5]
  simp[z5];refine⟨_,asQ r h,?_⟩;generalize e6:vV r=x6;by_cases z6:x6=0
  case neg=>simp[z6]
  simp[z6];have e7:(if oV r=0 then 0 else oV r)=oV r:=by split<;>simp_all
  rw[e7];exact asP r h
theorem ajA (l:List ByteArray)(k:Nat):kr l (fun _=>true) k=gO l k:=by
 unfold kr;by_cases h:gO l k=0<;>simp[h]
theorem DB {l:List ByteArray}{g:Nat→Bool}{k:Nat}(h:kr l g k=0):gO l k=0∧g k=true:=by
 unfold kr at h;by_cases h1:gO l k=0
 ·simp[h1] at h;exact⟨h1,h⟩
 ·simp[h1] at h
theorem Ol {l:List ByteArray}{g:Nat→Bool}{k:Nat}(h:kr l g k≠0):(gO l k≠0∧kr l g k=gO l k)∨(gO l k=0∧g k=false∧kr l g k=1):=by
 unfold kr at h ⊢;by_cases h1:gO l k=0
 ·simp[h1] at h ⊢;simp[h]
 ·simp[h1]
theorem asb (r:Realm)(h:Small r):ao T 51 [aW r] (.int (eX [eP r.currencies 8 (fun _=>true),eP (fu r) 40 (pQ r)])):=by
 refine .of_tree rfl (lA 106 (by kernel_rfl)) avd ?_;have g1:=h.cur;have g2:=h.cities;have g4:=h.orders;simp[UT];unfold eP;by_cases z1:(8:Int)<r.currencies.length
 ·simp[z1,eX]
 simp[z1,eX];refine oZ r.currencies.length (kr r.currencies (fun _=>true)) (fun k=>[.int 0,.int k]) (fun _=>[]) ?_ (fun k hk ho=>?_) (fun k hk ho hb=>?_) (fun hj=>?_)
 ·simp
 ·have hw:=bk hk (by omega);simp[SB,FH,hk];refine⟨_,Fk _ k hk (by omega),?_⟩;simp[(DB ho).1,hw]
 ·rw[hb];simp[SB,FH,hk,ho];rw[ajA];exact Fk _ k hk (by omega)
 ·rw[hj];simp[SB,FH];have hlen:(fu r).length=r.cities.length:=by simp[fu]
  rw[hlen];by_cases z2:(40:Int)<r.cities.length
  ·simp[z2]
  simp[z2];have key:∀k (hk:k<r.cities.length),((fu r).take k).length=k∧D.list (List.take k (List.map str (fu r))++[str r.cities[k].name])=strs ((fu r).take (k+1))∧
     ao T 78 [strs ((fu r).take (k+1)),.int k] (.int (gO (fu r) k))∧ao T 79 [aW r,gw r.cities[k]] (.bool (pQ r k)):=by
   intro k hk;have bu:k<(fu r).length:=by omega
   have hg:(fu r)[k]=r.cities[k].name:=by simp[fu]
   have hs:(fu r).take (k+1)=(fu r).take k++[(fu r)[k]]:=ki bu;have hn:=Fk ((fu r).take (k+1)) k (by rw[dU];omega) (by rw[dU];omega);rw[QC _ _ _ (by omega)] at hn;obtain⟨c1,c2,c3,c4⟩:=h.city _ (dq hk);have hc:=ar9 r r.cities[k] (by omega) (by omega) (by omega) (by omega) (by omega) c4;rw[ahO] at hc;exact⟨by rw[dU];omega,by rw[hs,hg];simp[strs],hn,by simpa [pQ,hk] using hc⟩
  refine oZ r.cities.length (kr (fu r) (pQ r)) (fun k=>[.int 0,.none,.int k]) (fun k=>[strs ((fu r).take k)]) ?_ (fun k hk ho=>?_) (fun k hk ho hb=>?_) (fun hj=>?_)
  ·simp[strs]
  ·have hw:=bk hk (by omega);obtain⟨hl,eH,hn,hc⟩:=key k hk;obtain⟨o1,o2⟩:=DB ho;rw[o1] at hn;rw[o2] at hc;simp[SC,FI,hk,hl,eH,atG];refine⟨by omega,_,hn,?_⟩;simp[hk];refine⟨_,hc,?_⟩;simp[hw]
  ·rw[hb];obtain⟨hl,eH,hn,hc⟩:=key k hk;simp[SC,FI,hk,hl,eH,ho];refine⟨by omega,_,hn,?_⟩;rcases Ol ho with⟨o1,o2⟩|⟨o1,o2,o3⟩
   ·simp[o1,o2]
   ·rw[o2] at hc;simp[o1,o3,hk];refine⟨_,hc,?_⟩;simp
  ·rw[hj];simp[SC,FI]
theorem asc (r:Realm)(h:Small r):ao T 52 [aW r] (.int (eX [uO r,eP (fw r) 200 (qa r)])):=by
 refine .of_tree rfl (lA 114 (by kernel_rfl)) ave ?_;have g1:=h.groups;have g2:=h.firms;have g3:=h.cities;have w3:=sC r.cities.length (by omega);have w1:=sC r.groups.length (by omega);simp[UU];by_cases z1:20<r.groups.length
 ·have Ws:(20:Int)<r.groups.length:=by omega
  simp[Ws,uO,z1,eX]
 have Ws:¬(20:Int)<r.groups.length:=by omega
 simp[Ws,uO,z1,eX];refine gm r.groups.length (wN r) (fun k=>[.int 0,.int k]) (fun _=>[]) ?_ (fun k hk ho=>?_) (fun k hk ho hb=>?_) (fun hj=>?_)
 ·simp
 ·have hw:=bk hk (by omega);simp[wN,hk] at ho;have e:wi r.groups[k].grade 0 9=ay r.groups[k].grade 10:=by rw[sE];simp[wi,ay];omega
  simp[SD,FJ,hk];refine⟨_,cT _ _ _,?_⟩;simp[e,ho,hw]
 ·simp[wN,hk] at ho;have e:wi r.groups[k].grade 0 9=ay r.groups[k].grade 10:=by rw[sE];simp[wi,ay];omega
  rw[hb];simp[SD,FJ,hk];refine⟨_,cT _ _ _,?_⟩;simp[e,ho]
 ·rw[hj];simp[SD,FJ];unfold eP;have hlen:(fw r).length=r.firms.length:=by simp[fw]
  rw[hlen];by_cases z2:(200:Int)<r.firms.length
  ·simp[z2]
  simp[z2];have key:∀k (hk:k<r.firms.length),((fw r).take k).length=k∧D.list (List.take k (List.map str (fw r))++[str r.firms[k].name])=strs ((fw r).take (k+1))∧
     ao T 78 [strs ((fw r).take (k+1)),.int k] (.int (gO (fw r) k))∧qa r k=(wi r.firms[k].city 0 ((r.cities.length:Int)-1)&&wi r.firms[k].group 0 ((r.groups.length:Int)-1)):=by
   intro k hk;have bu:k<(fw r).length:=by omega
   have hg:(fw r)[k]=r.firms[k].name:=by simp[fw]
   have hs:(fw r).take (k+1)=(fw r).take k++[(fw r)[k]]:=ki bu;have hn:=Fk ((fw r).take (k+1)) k (by rw[dU];omega) (by rw[dU];omega);rw[QC _ _ _ (by omega)] at hn;exact⟨by rw[dU];omega,by rw[hs,hg];simp[strs],hn,by simp[qa,hk,nA]⟩
  refine oZ r.firms.length (kr (fw r) (qa r)) (fun k=>[.int 0,.none,.int k]) (fun k=>[strs ((fw r).take k)]) ?_ (fun k hk ho=>?_) (fun k hk ho hb=>?_) (fun hj=>?_)
  ·simp[strs]
  ·have hw:=bk hk (by omega);obtain⟨hl,eH,hn,hc⟩:=key k hk;obtain⟨o1,o2⟩:=DB ho;rw[o1] at hn;rw[o2] at hc;have uT:=Bool.and_eq_true_iff.1 hc.symm;simp[SF,FK,hk,hl,eH];refine⟨by omega,_,hn,?_⟩;simp[hk,w3];refine⟨_,cT _ _ _,?_⟩;simp[uT.1,hk,w1];refine⟨_,cT _ _ _,?_⟩;simp[uT.2,hw]
  ·rw[hb];obtain⟨hl,eH,hn,hc⟩:=key k hk;simp[SF,FK,hk,hl,eH,ho];refine⟨by omega,_,hn,?_⟩;rcases Ol ho with⟨o1,o2⟩|⟨o1,o2,o3⟩
   ·simp[o1,o2]
   ·rw[o2] at hc;simp[o1,o3,hk,w3];refine⟨_,cT _ _ _,?_⟩;cases e1:wi r.firms[k].city 0 ((r.cities.length:Int)-1)
    ·simp
    rw[e1,qU] at hc;simp[hk,w1];refine⟨_,cT _ _ _,?_⟩;simp[←hc]
  ·rw[hj];simp[SF,FK]
theorem asd (r:Realm)(h:Small r):ao T 53 [aW r] (.int (eP (eM r) 20 (nG r))):=by
 refine .of_tree rfl (lA 115 (by kernel_rfl)) avg ?_;have g2:=h.orders;simp[UX];unfold eP;have hlen:(eM r).length=r.orders.length:=by simp[eM]
 rw[hlen];by_cases z2:(20:Int)<r.orders.length
 ·simp[z2]
 simp[z2];have key:∀k (hk:k<r.orders.length),((eM r).take k).length=k∧D.list (List.take k (List.map str (eM r))++[str r.orders[k].name])=strs ((eM r).take (k+1))∧
  ao T 78 [strs ((eM r).take (k+1)),.int k] (.int (gO (eM r) k))∧ao T 80 [jN r.orders[k]] (.bool (nG r k)):=by
  intro k hk;have bu:k<(eM r).length:=by omega
  have hg:(eM r)[k]=r.orders[k].name:=by simp[eM]
  have hs:(eM r).take (k+1)=(eM r).take k++[(eM r)[k]]:=ki bu;have hn:=Fk ((eM r).take (k+1)) k (by rw[dU];omega) (by rw[dU];omega);rw[QC _ _ _ (by omega)] at hn;obtain⟨c1,c2⟩:=h.order _ (dq hk);exact⟨by rw[dU];omega,by rw[hs,hg];simp[strs],hn,by simpa [nG,hk] using asa r.orders[k] (by omega) (by omega)⟩
 refine oZ r.orders.length (kr (eM r) (nG r)) (fun k=>[.int 0,.none,.int k]) (fun k=>[strs ((eM r).take k)]) ?_ (fun k hk ho=>?_) (fun k hk ho hb=>?_) (fun hj=>?_)
 ·simp[strs]
 ·have hw:=bk hk (by omega);obtain⟨hl,eH,hn,hc⟩:=key k hk;obtain⟨o1,o2⟩:=DB ho;rw[o1] at hn;rw[o2] at hc;simp[SG,FL,hk,hl,eH];refine⟨by omega,_,hn,?_⟩;simp[hk];refine⟨_,hc,?_⟩;simp[hw]
 ·rw[hb];obtain⟨hl,eH,hn,hc⟩:=key k hk;simp[SG,FL,hk,hl,eH,ho];refine⟨by omega,_,hn,?_⟩;rcases Ol ho with⟨o1,o2⟩|⟨o1,o2,o3⟩
  ·simp[o1,o2]
  ·rw[o2] at hc;simp[o1,o3,hk];refine⟨_,hc,?_⟩;simp
 ·rw[hj];simp[SG,FL]
theorem ar6 (r:Realm)(h:Small r):ao T 22 [aW r] (.int (lE r)):=by
 refine .of_tree rfl (lA 105 (by kernel_rfl)) au5 ?_
 have e:lE r=eX [eX [eP r.currencies 8 (fun _=>true),eP (fu r) 40 (pQ r)],eX [uO r,eP (fw r) 200 (qa r)],eP (eM r) 20 (nG r),vV r,oV r]:=by
  unfold lE;simp only[eX];split<;>(try split)<;>(try split)<;>(try split)<;>simp_all
 rw[e];simp[UL];refine⟨_,asb r h,?_⟩;have h1:=asc r h;generalize eX [eP r.currencies 8 (fun _=>true),eP (fu r) 40 (pQ r)]=x1 at*;generalize eX [uO r,eP (fw r) 200 (qa r)]=x2 at*;have h2:=asd r h;generalize eP (eM r) 20 (nG r)=x3 at*;have h3:=asf r h;generalize vV r=x4 at*;have h4:=ase r h;generalize oV r=x5 at*;by_cases z1:x1=0
 case neg=>simp[z1,eX]
 simp[z1,eX];refine⟨_,h1,?_⟩;by_cases z2:x2=0
 case neg=>simp[z2]
 simp[z2];refine⟨_,h2,?_⟩;by_cases z3:x3=0
 case neg=>simp[z3]
 simp[z3];refine⟨_,h3,?_⟩;by_cases z4:x4=0
 case neg=>simp[z4]
 simp[z4];have e7:(if x5=0 then 0 else x5)=x5:=by split<;>simp_all
 rw[e7];exact h4
end Rm
namespace Rm
open Go Go.Proofs Cx
def ka:Nat→Tm→Int→Int
 |0,_,_=>-1
 |L+1,t,n=>t.args.foldl (fun m a=>if 0≤m then ka L a m else m) (n-1)
theorem size_le:∀(L:Nat) (t:Tm) (n:Int),0≤n→-1≤ka L t n∧ka L t n≤n
 |0,t,n,h=>by simp[ka];omega
 |L+1,t,n,h=>by
  have key:∀(l:List Tm) (m:Int),-1≤m→m≤n→-1≤l.foldl (fun m a=>if 0≤m then ka L a m else m) m∧l.foldl (fun m a=>if 0≤m then ka L a m else m) m≤n:=by
   intro l
   induction l with
   |nil=>intro m h1 h2;exact⟨h1,h2⟩
   |cons a l ih=>
    intro m h1 h2;simp only[Ms];split
    ·rename_i hm;have:=size_le L a m hm;exact ih _ this.1 (by omega)
    ·exact ih _ h1 h2
  exact key _ _ (by omega) (by omega)
theorem afp (L:Nat):∀(l:List Tm) (m:Int),m<0→l.foldl (fun m a=>if 0≤m then ka L a m else m) m=m
 |[],m,h=>rfl
 |a::l,m,h=>by simp only[Ms];rw[if_neg (by omega)];exact afp L l m h
theorem akL {α β:Type}(f:β→α→β)(b:β){l:List α}{k:Nat}(h:k<l.length):(l.take (k+1)).foldl f b=f ((l.take k).foldl f b) l[k]:=by
 rw[ki h,yN];rfl
theorem akK {α β:Type}(f:β→α→β)(b:β)(l:List α)(k:Nat):l.foldl f b=(l.drop k).foldl f ((l.take k).foldl f b):=by
 rw[←yN,My]
theorem _root_.Cx.Tm.OK.len {t:Tm}(h:t.OK):t.args.length≤9223372036854775807:=by cases h with|mk o n xs h1 h2 h3 h4=>exact h3
theorem _root_.Cx.Tm.OK.arg {t:Tm}(h:t.OK){a:Tm}(ha:a∈t.args):a.OK:=by cases h with|mk o n xs h1 h2 h3 h4=>exact h4 a ha
theorem aej:∀(L:Nat) (t:Tm) (n:Int),t.OK→0≤n→n≤1000→L≤1000→ao T 96 [dL t,.int n,.int L] (.int (ka L t n))
 |0,t,n,ht,h0,h1,hL=>by
  refine .of_tree rfl Xn afN ?_;simp[Mg,ka]
 |L+1,t,n,ht,h0,h1,hL=>by
  refine .of_tree rfl Xn afN ?_;have rM:IntKind.i64.wrap (n-1)=n-1:=bU (by omega);have hl:=ht.len;have lK:¬((L:Int)+1<1):=by omega
  simp[Mg,rM,lK]
  let g:Nat→Int:=fun k=>(t.args.take k).foldl (fun m a=>if 0≤m then ka L a m else m) (n-1)
  have gb:∀k,-1≤g k∧g k≤1000:=by
   intro k;have:g k=ka (L+1) (.mk 0 0 (t.args.take k)) n:=rfl;have:=size_le (L+1) (.mk 0 0 (t.args.take k)) n h0;omega
  refine .scan t.args.length (fun k=>0≤g k) (fun k=>[.int (g k),.int k]) (fun _=>[]) ?_ (fun k hk hj ho=>?_) (fun k hk hj ho=>?_) (fun hj=>?_)
  ·simp[g,rM]
  ·have hw:IntKind.i64.wrap ((k:Int)+1)=(k:Int)+1:=bU (by omega);have J1:IntKind.i64.wrap (L:Int)=(L:Int):=bU (by omega);have hg:g (k+1)=ka L t.args[k] (g k):=by
    show(t.args.take (k+1)).foldl _ _=_;rw[akL _ _ hk];show(if 0≤g k then _ else _)=_;rw[if_pos ho]
   rw[hg];have iT:=aej L t.args[k] (g k) (ht.arg (dq hk)) ho (gb k).2 (by omega);generalize g k=m at*;simp[SK,FP,hk,ho,J1];refine⟨_,iT,?_⟩;simp[hw]
  ·have hf:ka (L+1) t n=g k:=by
    show t.args.foldl _ _=_;rw[akK _ _ _ k];exact afp L _ _ (by show g k<0;omega)
   rw[hf];generalize g k=m at*;simp[SK,FP,hk,ho]
  ·have hf:ka (L+1) t n=g t.args.length:=by
    show t.args.foldl _ _=(t.args.take t.args.length).foldl _ _;rw[Mz]
   rw[hf];generalize g t.args.length=m at*;simp[SK,FP]
theorem aei (t:Tm)(ht:t.OK):ao T 77 [dL t] (.bool (decide (0≤ka 20 t 100))):=by
 refine .of_tree rfl (lA 103 (by kernel_rfl)) avl ?_;simp[U2];refine⟨_,aej 20 t 100 ht (by omega) (by omega) (by omega),?_⟩;simp
def rp (o:Order):Bool:=(decide (o.rules.length≤60)&&decide (o.choices.length≤60))&&eE o.rules.length (fun k=>decide (0≤ka 20 (o.rules.getD k default).term 100))
theorem aek (o:Order)(ho:o.OK):ao T 50 [jN o] (.bool (rp o)):=by
 refine .of_tree rfl (lA 102 (by kernel_rfl)) avm ?_;simp[U3];by_cases h1:(o.rules.length:Int)≤60
 case neg=>
  have cH:(60:Int)<o.rules.length:=by omega
  have hf:rp o=false:=by
   have:decide (o.rules.length≤60)=false:=decide_eq_false (by omega);simp only[rp,this,sF]
  simp[cH,hf]
 by_cases h2:(o.choices.length:Int)≤60
 case neg=>
  have cH:(60:Int)<o.choices.length:=by omega
  have hf:rp o=false:=by
   have:decide (o.choices.length≤60)=false:=decide_eq_false (by omega);simp only[rp,this,sF,yH]
  simp[cH,hf]
 have cH:¬(60:Int)<o.rules.length:=by omega
 have gK:¬(60:Int)<o.choices.length:=by omega
 have hf:rp o=eE o.rules.length (fun k=>decide (0≤ka 20 (o.rules.getD k default).term 100)):=by
  have e1:decide (o.rules.length≤60)=true:=decide_eq_true (by omega);have e2:decide (o.choices.length≤60)=true:=decide_eq_true (by omega);simp only[rp,e1,e2,qU]
 rw[hf];simp[cH,gK];have hO:=ho.2.2;refine gm o.rules.length (fun k=>decide (0≤ka 20 (o.rules.getD k default).term 100)) (fun k=>[.bool false,.int k]) (fun _=>[]) ?_ (fun k hk ho=>?_) (fun k hk ho hb=>?_) (fun hj=>?_)
 ·simp
 ·have hw:=bk hk (by omega);simp[hk] at ho;simp[SL,FQ,hk];refine⟨_,aei _ (hO _ (dq hk)).2,?_⟩;simp[ho,hw]
 ·simp only[aJ] at hb;rw[hb];simp[hk] at ho;simp[SL,FQ,hk];refine⟨_,aei _ (hO _ (dq hk)).2,?_⟩;simp[ho]
 ·simp only[aJ] at hj;rw[hj];simp[SL,FQ]
def Dx (f:File):Bool:=decide ((f.signs.length:Int)≤50)&&decide ((f.alters.length:Int)≤10)&&decide ((f.acts.length:Int)≤110)&&decide ((f.facts.length:Int)≤220)
theorem asn (f:File):ao T 49 [aZ f] (.bool (Dx f)):=by
 refine .of_tree rfl (lA 101 (by kernel_rfl)) avk ?_;simp[U1,Dx];by_cases h1:(f.signs.length:Int)≤50<;>by_cases h2:(f.alters.length:Int)≤10<;>by_cases h3:(f.acts.length:Int)≤110<;>by_cases h4:(f.facts.length:Int)≤220<;>
  simp[h1,h2,h3,h4]
end Rm
namespace Rm
open Go Go.Proofs Cx
def Dv (r:Realm)(k:Nat):Bool:=decide (((r.cities.getD k default).feasts.length:Int)≤70)&&decide (((r.cities.getD k default).shut.length:Int)≤210)&&decide (((r.cities.getD k default).rest.length:Int)≤8)
def Dw (r:Realm)(k:Nat):Bool:=decide (((r.orders.getD k default).choices.length:Int)≤40)&&decide (((r.orders.getD k default).rules.length:Int)≤40)
def IX (r:Realm):Bool:=decide ((r.currencies.length:Int)<50)&&decide ((r.cities.length:Int)<50)&&decide ((r.groups.length:Int)<50)&&decide ((r.firms.length:Int)<210)&&decide ((r.orders.length:Int)<50)&&decide ((r.usances.length:Int)<110)&&decide ((r.rates.length:Int)<110)&&decide ((r.halts.length:Int)<50)
def p9 (r:Realm):Bool:=eE (min r.cities.length 50) (Dv r)&&eE (min r.orders.length 50) (Dw r)&&IX r
theorem ar7 (r:Realm)(hr:r.OK):ao T 48 [aW r] (.bool (p9 r)):=by
 refine .of_tree rfl (lA 100 (by kernel_rfl)) au6 ?_;simp[UM];refine gm (min r.cities.length 50) (Dv r) (fun k=>[.bool false,.int k]) (fun _=>[]) ?_ (fun k hk ho=>?_) (fun k hk ho hb=>?_) (fun hj=>?_)
 ·simp
 ·have bx:k<r.cities.length:=by omega
  have ct:k<50:=by omega
  have hw:=bk ct (by omega);simp[Dv,bx] at ho;obtain⟨⟨a1,a2⟩,a3⟩:=ho;have b1:¬(70:Int)<r.cities[k].feasts.length:=by omega
  have b2:¬(210:Int)<r.cities[k].shut.length:=by omega
  have b3:¬(8:Int)<r.cities[k].rest.length:=by omega
  simp[FB,ym,bx,ct,hw,b1,b2,b3];omega
 ·have bx:k<r.cities.length:=by omega
  have ct:k<50:=by omega
  have hf:p9 r=false:=by simp only[p9,hb,sF]
  rw[hf];simp[Dv,bx] at ho;by_cases b1:(70:Int)<r.cities[k].feasts.length
  ·simp[FB,ym,bx,ct,b1];omega
  by_cases b2:(210:Int)<r.cities[k].shut.length
  ·simp[FB,ym,bx,ct,b1,b2];omega
  have b3:(8:Int)<r.cities[k].rest.length:=by have:=ho (by omega) (by omega);omega
  simp[FB,ym,bx,ct,b1,b2,b3];omega
 ·have hn:¬((min r.cities.length 50:Nat):Int)<r.cities.length∨¬((min r.cities.length 50:Nat):Int)<50:=by omega
  simp[FB,ym];rw[if_neg (by omega)];refine gm (min r.orders.length 50) (Dw r) (fun k=>[.bool false,.int k]) (fun _=>[]) ?_ (fun k hk ho=>?_) (fun k hk ho hb=>?_) (fun w6=>?_)
  ·simp
  ·have bx:k<r.orders.length:=by omega
   have ct:k<50:=by omega
   have hw:=bk ct (by omega);simp[Dw,bx] at ho;obtain⟨a1,a2⟩:=ho;have b1:¬(40:Int)<r.orders[k].choices.length:=by omega
   have b2:¬(40:Int)<r.orders[k].rules.length:=by omega
   simp[Lm,BU,bx,ct,hw,b1,b2];omega
  ·have bx:k<r.orders.length:=by omega
   have ct:k<50:=by omega
   have hf:p9 r=false:=by simp only[p9,hb,sF,yH]
   rw[hf];simp[Dw,bx] at ho;by_cases b1:(40:Int)<r.orders[k].choices.length
   ·simp[Lm,BU,bx,ct,b1];omega
   have b2:(40:Int)<r.orders[k].rules.length:=by have:=ho (by omega);omega
   simp[Lm,BU,bx,ct,b1,b2];omega
  ·have hf:p9 r=IX r:=by simp only[p9,hj,w6,qU]
   rw[hf];simp[Lm,BU];rw[if_neg (by omega)];unfold IX;by_cases c1:(r.currencies.length:Int)<50<;>simp[c1];by_cases c2:(r.cities.length:Int)<50<;>simp[c2];by_cases c3:(r.groups.length:Int)<50<;>simp[c3];by_cases c4:(r.firms.length:Int)<210<;>simp[c4];by_cases c5:(r.orders.length:Int)<50<;>simp[c5];by_cases c6:(r.usances.length:Int)<110<;>simp[c6];by_cases c7:(r.rates.length:Int)<110<;>simp[c7]
theorem Of {r:Realm}(hr:r.OK)(h:p9 r=true):Small r:=by
 simp only[p9,IX,aq,decide_eq_true_eq,yT] at h;obtain⟨⟨h1,h2⟩,⟨⟨⟨⟨⟨⟨⟨c1,c2⟩,c3⟩,c4⟩,c5⟩,c6⟩,c7⟩,c8⟩⟩:=h;obtain⟨k1,⟨k2,k2'⟩,⟨k3,k3'⟩,⟨k4,k4'⟩,⟨k5,k5'⟩,⟨k6,k6'⟩,⟨k7,k7'⟩,⟨k8,k8'⟩⟩:=hr;refine⟨by omega,by omega,by omega,by omega,by omega,by omega,by omega,by omega,fun c hc=>?_,fun o ho=>?_,fun x hx=>?_⟩
 ·obtain⟨k,hk,rfl⟩:=kf hc;have:=h1 k (by omega);simp[Dv,hk] at this;have:=k2' _ hc;exact⟨by omega,by omega,by omega,fun y hy=>this.2.2.2.1.2 y hy⟩
 ·obtain⟨k,hk,rfl⟩:=kf ho;have:=h2 k (by omega);simp[Dw,hk] at this;omega
 ·have:=k7' x hx;exact⟨this.2.2.1,this.2.2.2.1⟩
def tj (r:Realm)(f:File):Bool:=(p9 r&&Dx f)&&eE r.orders.length (fun k=>rp (r.orders.getD k default))
theorem aso (r:Realm)(f:File)(hr:r.OK):ao T 21 [aW r,aZ f] (.bool (tj r f)):=by
 refine .of_tree rfl (lA 99 (by kernel_rfl)) avn ?_;simp[U4];refine⟨_,ar7 r hr,?_⟩;cases e1:p9 r
 ·simp[tj,e1]
 simp;refine⟨_,asn f,?_⟩;cases e2:Dx f
 ·simp[tj,e1,e2]
 have hs:=Of hr e1;have ho:=hs.orders;have hf:tj r f=eE r.orders.length (fun k=>rp (r.orders.getD k default)):=by simp only[tj,e1,e2,qU]
 rw[hf];simp;have hO:=hr.2.2.2.2.1.2;refine gm r.orders.length (fun k=>rp (r.orders.getD k default)) (fun k=>[.bool false,.int k]) (fun _=>[]) ?_ (fun k hk ho=>?_) (fun k hk ho hb=>?_) (fun hj=>?_)
 ·simp
 ·have hw:=bk hk (by omega);simp[hk] at ho;simp[SM,FT,hk];refine⟨_,aek _ (hO _ (dq hk)),?_⟩;simp[ho,hw]
 ·simp only[aJ] at hb;rw[hb];simp[hk] at ho;simp[SM,FT,hk];refine⟨_,aek _ (hO _ (dq hk)),?_⟩;simp[ho]
 ·simp only[aJ] at hj;rw[hj];simp[SM,FT]
def I4 (r:Realm)(f:File):Bool:=tj r f&&decide (lE r=0)
def pW (n:Int):Int:=min (max n (-1099511627776)) 1099511627776
theorem L6 (n:Int):ao T 162 [.int n] (.int (pW n)):=by
 refine .of_tree rfl (lA 78 (by kernel_rfl)) awb ?_;simp[VR,pW];by_cases h1:-1099511627776>n
 ·have:¬(1099511627776:Int)< -1099511627776:=by omega
  simp[h1];omega
 ·by_cases h2:(1099511627776:Int)<n
  ·simp[h1,h2];omega
  ·simp[h1,h2];omega
def mW (v:Int):Int×Bool:=if v<0∨19<v then(0,false) else if v<7 then(0,true) else(1,true)
theorem afE (v:Int):ao T 160 [.int v] (.tup [.int (mW v).1,.bool (mW v).2]):=by
 refine .of_tree rfl (lA 79 (by kernel_rfl)) av7 ?_;simp[VN,mW];by_cases h1:v<0
 ·simp[h1]
 by_cases h2:19<v
 ·simp[h1,h2]
 by_cases h3:v<7
 ·simp[h1,h2,h3]
 ·simp[h1,h2,h3]
def ER (t:Tm):Int×Int:=
 if 0<t.args.length then(0,2) else if t.op=0 then(if pW t.n≠t.n then(0,3) else(0,0)) else if t.op=1 then(if t.n<0∨1<t.n then(0,3) else(1,0)) else if(mW t.n).2=false then(0,10) else((mW t.n).1,0)
theorem atV (t:Tm):ao T 158 [dL t] (.tup [.int (ER t).1,.int (ER t).2]):=by
 refine .of_tree rfl (lA 77 (by kernel_rfl)) awc ?_;simp[VS,ER];by_cases h0:0<t.args.length
 ·have ga:(0:Int)<t.args.length:=by omega
  simp[h0,ga]
 simp[h0];by_cases h1:t.op=0
 ·simp[h1];refine⟨_,L6 _,?_⟩;by_cases h2:pW t.n=t.n<;>simp[h2]
 by_cases h2:t.op=1
 ·simp[h1,h2];by_cases h3:t.n<0<;>by_cases h4:1<t.n<;>simp[h3,h4]
 simp[h1,h2];refine⟨_,afE _,?_⟩;cases h3:(mW t.n).2<;>simp[h3]
def eY (op:Int):List Int×Int:=
 if op=3 then([1],1) else if op=4∨op=5 then([1,1],1) else if op=6 then([1,-1,-1],-1) else if op=7 then([0,0],1) else if op=8 then([-1,-1],1) else([0,0],0)
def Dt (s:List Int×Int):D:=.agg [ints s.1,.int s.2]
@[simp] theorem ay4 (s:List Int×Int):(Dt s).cells=[ints s.1,.int s.2]:=_root_.id rfl
@[simp] theorem ay2 (s:List Int×Int):(Dt s).c 0=ints s.1:=_root_.id rfl
@[simp] theorem ay3 (s:List Int×Int):(Dt s).c 1=.int s.2:=_root_.id rfl
@[simp] theorem aC9 (s:List Int×Int):D.agg [ints s.1,.int s.2]=Dt s:=_root_.id rfl
@[simp] theorem aEa (x y:Int):vP (.int x) 0 (.int y)=.int y:=_root_.id rfl
theorem atX (op:Int):ao T 159 [.int op] (Dt (eY op)):=by
 refine .of_tree rfl (lA 80 (by kernel_rfl)) awg ?_;simp[VV,eY];by_cases h3:op=3
 ·simp[h3];rfl
 by_cases h4:op=4
 ·simp[h4];rfl
 by_cases h5:op=5
 ·simp[h5];rfl
 by_cases h6:op=6
 ·simp[h6];rfl
 by_cases h7:op=7
 ·simp[h7];rfl
 by_cases h8:op=8
 ·simp[h8];rfl
 simp[h3,h4,h5,h6,h7,h8];rfl
end Rm
