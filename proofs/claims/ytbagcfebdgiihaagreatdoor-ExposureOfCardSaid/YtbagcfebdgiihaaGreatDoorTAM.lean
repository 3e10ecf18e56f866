/-
  The functions of this seat, compiled (3).
-/
import Derived.Test.YtbagcfebdgiihaaGreatDoorTAJ
import Derived.KernelRfl
set_option linter.unusedVariables false
set_option maxRecDepth 100000
noncomputable section
namespace Rm
open Go Go.Proofs Cx
def xo:Option PC:=cF [6,7,2] [] Tryz.f182 182 [3,9]
def Aa:Nat→PC:=br xo
def alw (b:Nat→PC):PC:=.block 2 [2,7,14,15] [] (.loop [2,7,14] [] (b 0))
def alx (b:Nat→PC):PC:=.block 0 [2,7,10] [] (.loop [2,7] [] (b 1))
def y8 (b:Nat→PC):PT:=
 (.ite nF
 (.chk (ao bS bD)
 (.next ⟨[(2,(.pick ZF (aG (pc yT 2) (pi 1)) r2)),(7,(.pick ZF pT r7)),(14,vq)],[]⟩))
 (.exit 2 ⟨[(15,nF)],[]⟩))
def IB (b:Nat→PC):PT:=
 (.ite r7
 (.blockS ⟨[(10,r7)],[]⟩ 1 [2,7,11,12,13,14,15] []
 (.brk ⟨[(14,(pi 0)),(13,(.llen (pc o3 7))),(12,(pc o3 7)),(7,pF)],[]⟩
(alw b)
 (.next ⟨[],[]⟩))
 (.next ⟨[],[]⟩))
 (.exit 0 ⟨[(10,r7)],[]⟩))
def RS (b:Nat→PC):PT:=
 (.brk ⟨[(7,pT)],[(3,(.mk [r0]))]⟩
(alx b)
 (.ret r2))
def agi (b:Nat→PC):PT×List (Shp×PT):=(RS b,[(.lp 2 [2,7,14,15] [] [2,7,14] [],y8 b),(.lp 0 [2,7,10] [] [2,7] [],IB b)])
theorem Hw:xo.map told=some (agi (bk xo)):=by kernel_rfl
theorem aq7:tree (ae xo)=RS Aa:=bN Hw
theorem IA:round 2 [2,7,14,15] [] [2,7,14] [] (Aa 0)=y8 Aa:=be Hw 0 fun _=>rfl
theorem aas:round 0 [2,7,10] [] [2,7] [] (Aa 1)=IB Aa:=be Hw 1 fun _=>rfl
def wE:Option PC:=cF [6] [] Tryz.f183 183 [2,4,5]
def JP:Nat→PC:=br wE
def aeF (b:Nat→PC):PC:=.each dD [16] [4,5] (some (.tup [(pc o4 0),(pc o5 0)])) (b 0)
def Pa (b:Nat→PC):PT:=
 (.exit 1000000007 ⟨[],[(4,(.setc o4 0 bx)),(5,(.setc o5 0 (pi 0)))]⟩)
def Qy (b:Nat→PC):PT:=
 (.call ⟨[],[(5,CD),(4,CD),(2,(.mk [r0]))]⟩ [] 8 215 [r1]
 (.ite (.nt r8)
 (.ret (.tup [(pc (.setc o4 0 (pi 0)) 0),(pc (.setc o5 0 (pi 3)) 0)]))
 (.call ⟨[],[]⟩ [] 15 216 [(aC 6 o2),r1,(.mn (aG r1 (pi 400)) (pi 100000))]
 (.blockS ⟨[],[]⟩ 0 [] [4,5]
 (.callc ⟨[],[]⟩ [] 18 bG []
 (.brk ⟨[],[]⟩
(aeF b)
 (.next ⟨[],[]⟩)))
 (.ret (.tup [(pc (.setc o4 0 (pi 0)) 0),(pc (.setc o5 0 (pi 3)) 0)]))))))
def afv (b:Nat→PC):PT×List (Shp×PT):=(Qy b,[(.ea [4,5],Pa b)])
theorem NB:wE.map told=some (afv (bk wE)):=by kernel_rfl
theorem apG:tree (ae wE)=Qy JP:=bN NB
theorem anQ:nN [4,5] (JP 0)=Pa JP:=Qi NB 0 fun _=>rfl
def EC:Option PC:=cF [6] [] Tryz.f216 216 [3,4,5]
def QA:PT:=
 (.ret (.clo 244 [(.ref (pc (.mk [r1]) 0)),(.ref (pc (.mk [r2]) 0)),(.ref (aC 6 (.mk [r0])))]))
theorem XW:EC.map told=some (QA,[]):=by kernel_rfl
theorem apJ:tree (ae EC)=QA:=ba XW
def pZ:Option PC:=Aq {ctx with fr:=[5],nh:=[]} Tryz.f244 [(.ref I),(.ref I),(.ref Y0)] [I] 1000 [1000]
def JQ:Nat→PC:=br pZ
def akn (b:Nat→PC):PC:=.block 0 [5,7,8,9] [1000] (.loop [5] [1000] (b 0))
def H7 (b:Nat→PC):PT:=
 (.ite (bB r5 (.deref r2))
 (.blockS ⟨[],[]⟩ 1 [12,13,14,15,20] [1000]
 (.call ⟨[],[]⟩ [] 14 245 [(.deref r3),r5]
 (.call ⟨[(15,bD)],[(1000,ZC)]⟩ [(15,true)] 18 1000000009 [ZC]
 (.ite (.pick bG (.nt dD) pF)
 (.ret (.o 1000))
 (.next ⟨[],[]⟩))))
 (.next ⟨[(5,(aG r5 (pi 1)))],[]⟩))
 (.exit 0 ⟨[(7,r5),(8,(.deref r2)),(9,(bB r5 (.deref r2)))],[]⟩))
def QB (b:Nat→PC):PT:=
 (.brk ⟨[(5,(.deref r1))],[]⟩
(akn b)
 (.ret (.o 1000)))
def afw (b:Nat→PC):PT×List (Shp×PT):=(QB b,[(.lp 0 [5,7,8,9] [1000] [5] [1000],H7 b)])
theorem NC:pZ.map told=some (afw (bk pZ)):=by kernel_rfl
theorem apI:tree (ae pZ)=QB JQ:=bN NC
theorem Z4:round 0 [5,7,8,9] [1000] [5] [1000] (JQ 0)=H7 JQ:=be NC 0 fun _=>rfl
theorem adg:∀yv,Aq {ctx with fr:=[5],nh:=[],yv:=yv} Tryz.f244 [(.ref I),(.ref I),(.ref Y0)] [I] 1000 [1000]=some (ae pZ):=fun yv=>(show _=pZ by kernel_rfl).trans (av pZ NC)
def EE:Option PC:=cF [4,5,6,7] [] Tryz.f245 245 [2]
def QC:PT:=
 (.call ⟨[],[(2,(.mk [r0]))]⟩ [] 10 241 [r1]
 (.chk (aO (pi 7) (pi 0))
 (.call ⟨[(7,(.tget bC 2)),(6,(.tget bC 1))],[]⟩ [] 19 185 [(pc o2 3),(.ai .rem .i64 (aG r1 (pi 5)) (pi 7))]
 (.call ⟨[(21,(.nt dK))],[]⟩ [(21,true)] 28 185 [(pc o2 4),(aG (.ai .mul .i64 (pi 100) r6) r7)]
 (.call ⟨[(31,(.pick fi (.nt nH) pF))],[]⟩ [(31,true)] 35 185 [(pc o2 5),r1]
 (.ret (.pick jJ (.nt vu) pF)))))))
theorem XZ:EE.map told=some (QC,[]):=by kernel_rfl
theorem apL:tree (ae EE)=QC:=ba XZ
def Ey:Option PC:=cF [] [] Tryz.f74 74 [2,4,5,6,43]
def Qu:PT:=
 (.chk (ao (pc (.mk [r0]) 25) r1)
 (.call ⟨[],[(6,(.setc ZH 0 (.mk [r1,(pc Cz 0),(pc Cz 2),(pi 0),(pi 0),(pi 0),(.pick (aO (pc Cz 0) (pi 1)) (peq (.ai .and .i64 (pc Cz 8) (pi 1)) (pi 0)) pF)]))),(5,Cz),(4,ZH),(2,(.mk [r0]))]⟩ [] 33 113 [OT,r1,(pc (.mk [r0]) 9)]
 (.iteS ⟨[],[]⟩ (.nt pj) [] [6]
 (.call ⟨[(36,(pc o2 29))],[]⟩ [] 39 115 [(aC 31 o2),(pi 1),r1]
 (.call ⟨[],[]⟩ [] 42 115 [(aC 31 o2),(pi 2),r1]
 (.call ⟨[],[]⟩ [] 44 114 [(.lst [iK,qX,O0])]
 (.next ⟨[],[(6,(.setc o6 3 vw))]⟩))))
 (.next ⟨[],[]⟩)
 (.call ⟨[],[]⟩ [] 49 116 [(aC 31 o2),r1]
 (.ret (aC 7 (.setc o4 0 (aC 7 (.pick (.pick (peq (pc o5 0) (pi 1)) pT (peq (pc o5 0) (pi 4))) (.setc OS 5 (.mn (pc OS 5) (pc o5 5))) OS)))))))))
theorem XQ:Ey.map told=some (Qu,[]):=by kernel_rfl
theorem apC:tree (ae Ey)=Qu:=ba XQ
def Fs:Option PC:=cF [6] [] Tryz.f113 113 [3]
def R5:PT:=
 (.call ⟨[(16,(.pick (bZ r1 (pi 0)) (ah r1 (.llen mq)) pF))],[]⟩ [(16,true)] 19 176 [(aC 19 (.mk [r0])),r2]
 (.ret (.pick bx (.look dK r1 pF) pF)))
theorem YT:Fs.map told=some (R5,[]):=by kernel_rfl
theorem aro:tree (ae Fs)=R5:=ba YT
def xr:Option PC:=cF [4] [] Tryz.f176 176 [2,5,7]
def Kl:Nat→PC:=br xr
def alC (b:Nat→PC):PC:=.block 0 [12,13] [5] (.loop [12] [5] (b 0))
def Dk (b:Nat→PC):PT:=
 (.ite nG
 (.chk (ao bC bS)
 (.ite (.pick (peq (pc (.setc z9 0 qU) 0) (pi 7)) (bB (pc (.setc z9 0 qU) 6) r1) pF)
 (.chk (ah (.mlen o5) cl)
 (.next ⟨[(12,yX)],[(5,(.put o5 (pc (.setc z9 0 qU) 4) pT))]⟩))
 (.next ⟨[(12,yX)],[]⟩)))
 (.exit 0 ⟨[(13,nG)],[]⟩))
def R6 (b:Nat→PC):PT:=
 (.brk ⟨[(12,(pi 0)),(11,(.llen (pc (.mk [r0]) 17))),(10,(pc (.mk [r0]) 17)),(5,pN)],[(5,(.con (.map [])))]⟩
(alC b)
 (.ret o5))
def agm (b:Nat→PC):PT×List (Shp×PT):=(R6 b,[(.lp 0 [12,13] [5] [12] [5],Dk b)])
theorem N6:xr.map told=some (agm (bk xr)):=by kernel_rfl
theorem arp:tree (ae xr)=R6 Kl:=bN N6
theorem PQ:round 0 [12,13] [5] [12] [5] (Kl 0)=Dk Kl:=be N6 0 fun _=>rfl
def Ez:Option PC:=cF [6] [] Tryz.f115 115 [3,7]
def Qv:PT:=
 (.call ⟨[],[]⟩ [] 23 33 [kI,(pc (.mk [r0]) 8),r1,(aC 24 (.setc Zs 0 (.mk [OT,r2,r2,(pi (-1)),(pc (.mk [r0]) 30),(pc (.mk [r0]) 9)])))]
 (.call ⟨[],[]⟩ [] 24 35 [dE]
 (.ret ja)))
theorem XR:Ez.map told=some (Qv,[]):=by kernel_rfl
theorem apD:tree (ae Ez)=Qv:=ba XR
def wC:Option PC:=cF [2,3,5,12,15] [] Tryz.f114 114 []
def JN:Nat→PC:=br wC
def akl (b:Nat→PC):PC:=.block 0 [2,3,8,9] [] (.loop [2,3,8] [] (b 0))
def CI (b:Nat→PC):PT:=
 (.ite (ah r8 r7)
 (.chk (ao r6 r8)
 (.ite (peq (pn r6 r8) (pi 0))
 (.ret (pi 0))
 (.next ⟨[(3,(.pick (peq (pn r6 r8) (pi 2)) (pi 2) r3)),(8,nD)],[]⟩)))
 (.exit 0 ⟨[(9,(ah r8 r7))],[]⟩))
def Qs (b:Nat→PC):PT:=
 (.brk ⟨[(8,(pi 0)),(7,(.llen r0)),(6,r0),(3,(pi 1)),(2,(pi 0))],[]⟩
(akl b)
 (.ret r3))
def aft (b:Nat→PC):PT×List (Shp×PT):=(Qs b,[(.lp 0 [2,3,8,9] [] [2,3,8] [],CI b)])
theorem Nz:wC.map told=some (aft (bk wC)):=by kernel_rfl
theorem apA:tree (ae wC)=Qs JN:=bN Nz
theorem O8:round 0 [2,3,8,9] [] [2,3,8] [] (JN 0)=CI JN:=be Nz 0 fun _=>rfl
def wD:Option PC:=cF [4,5,6,7,10,50,54] [] Tryz.f116 116 [2,9]
def JO:Nat→PC:=br wD
def akm (b:Nat→PC):PC:=.block 0 [7,23,24] [] (.loop [7,23] [] (b 0))
def CJ (b:Nat→PC):PT:=
 (.ite (ah dE qV)
 (.chk (ao fi dE)
 (.next ⟨[(7,(.pick r7 pT (bj (pc (.setc z2 0 (pn fi dE)) 0) r1))),(23,(aG dE (pi 1)))],[]⟩))
 (.exit 0 ⟨[(24,(ah dE qV))],[]⟩))
def Qw (b:Nat→PC):PT:=
 (.call ⟨[(5,(pi 0))],[(2,(.mk [r0]))]⟩ [] 14 177 [OT,r1]
 (.brk ⟨[(23,(pi 0)),(22,(.llen (pc o2 26))),(21,(pc o2 26)),(7,pF),(6,(.llen (pc o2 26))),(5,bD)],[]⟩
(akm b)
 (.ite (.nt r7)
 (.ret (.tup [(pi 0),r5]))
 (.chk (ao (pc o2 26) (bH r6 (pi 1)))
 (.call ⟨[(10,(pc (pn (pc o2 26) (bH r6 (pi 1))) 1))],[]⟩ [] 48 115 [(aC 31 o2),(pi 4),r1]
 (.ite (peq ka (pi 1))
 (.ret (.tup [ka,bC]))
 (.ite (peq ka (pi 2))
 (.ret (.tup [ka,(.mn r5 bC)]))
 (.ret (.tup [ka,r5])))))))))
def afu (b:Nat→PC):PT×List (Shp×PT):=(Qw b,[(.lp 0 [7,23,24] [] [7,23] [],CJ b)])
theorem NA:wD.map told=some (afu (bk wD)):=by kernel_rfl
theorem apE:tree (ae wD)=Qw JO:=bN NA
theorem O9:round 0 [7,23,24] [] [7,23] [] (JO 0)=CJ JO:=be NA 0 fun _=>rfl
def wM:Option PC:=cF [4,5] [] Tryz.f177 177 [2,7]
def JX:Nat→PC:=br wM
def akP (b:Nat→PC):PC:=.block 0 [5,14,15] [] (.loop [5,14] [] (b 0))
def Ik (b:Nat→PC):PT:=
 (.ite nF
 (.chk (ao bS bD)
 (.next ⟨[(5,(.pick (bB (pc (.setc z2 0 (pn bS bD)) 0) r1) (pc (.setc z2 0 (pn bS bD)) 1) r5)),(14,vq)],[]⟩))
 (.exit 0 ⟨[(15,nF)],[]⟩))
def QW (b:Nat→PC):PT:=
 (.brk ⟨[(14,(pi 0)),(13,(.llen (pc (.mk [r0]) 16))),(12,(pc (.mk [r0]) 16)),(5,(pc (.mk [r0]) 3))],[]⟩
(akP b)
 (.ret r5))
def afL (b:Nat→PC):PT×List (Shp×PT):=(QW b,[(.lp 0 [5,14,15] [] [5,14] [],Ik b)])
theorem NI:wM.map told=some (afL (bk wM)):=by kernel_rfl
theorem aqc:tree (ae wM)=QW JX:=bN NI
theorem aag:round 0 [5,14,15] [] [5,14] [] (JX 0)=Ik JX:=be NI 0 fun _=>rfl
def wJ:Option PC:=cF [8,9,10,11,12,14,15,16,17,18,19,20,21,22,23] [] Tryz.f5 5 [4,13,94]
def jS:Nat→PC:=br wJ
def akG (b:Nat→PC):PC:=.block 0 [8,10,39,40,41,42] [] (.loop [8,10] [] (b 0))
def akH (b:Nat→PC):PC:=.block 2 [13,14,85,86,87,88,89] [13] (.loop [13,14] [13] (b 1))
def akI (b:Nat→PC):PC:=.block 10 [18,21,134,135,136,137] [] (.loop [18,21] [] (b 2))
def akJ (b:Nat→PC):PC:=.block 8 [18,20,128,129,130,131] [] (.loop [18,20] [] (b 3))
def akK (b:Nat→PC):PC:=.block 12 [22,23,176,177,178,179,180,181,182,183] [] (.loop [22,23] [] (b 4))
def akL (b:Nat→PC):PC:=.block 6 [8,17,118,119,120,121,122] [] (.loop [8,17] [] (b 5))
def akM (b:Nat→PC):PC:=.block 4 [8,12,15,96,97,98,99] [] (.loop [8,12,15] [] (b 6))
def CO (b:Nat→PC):PT:=
 (.ite (ah bC (.llen r2))
 (.blockS ⟨[],[]⟩ 1 [8,45,46,47,48,49,50,51,52,59,60,68] []
 (.chk (ao r2 bC)
 (.call ⟨[],[]⟩ [] 50 13 [(aC 8 o4),(pn r2 bC)]
 (.chk (.nt (.an (.an (.nt (.nt kc)) pT) (.nt (ao r2 bC))))
 (.call ⟨[(52,(.nt kc))],[]⟩ [(52,false)] 57 15 [(pn r2 bC)]
 (.chk (.nt (.an (.an (.nt (.pick nI pT (.nt y0))) pT) (.nt (ao r2 bC))))
 (.call ⟨[(60,(.pick nI pT (.nt y0)))],[]⟩ [(60,false)] 66 16 [(aC 8 o4),(pn r2 bC)]
 (.ite (.pick vx pT (aO O2 (pi 0)))
 (.ret r9)
 (.next ⟨[],[]⟩))))))))
 (.next ⟨[(10,(aG bC (pi 1)))],[]⟩))
 (.exit 0 ⟨[(39,bC),(40,r2),(41,(.llen r2)),(42,(ah bC (.llen r2)))],[]⟩))
def Ie (b:Nat→PC):PT:=
 (.ite (ah bD sE)
 (.chk (bB (.llen (.app yF (.lst [bD]))) cl)
 (.next ⟨[(13,pN),(14,vq)],[(13,(.app yF (.lst [bD])))]⟩))
 (.exit 2 ⟨[(85,bD),(86,pN),(87,(pc o4 2)),(88,sE),(89,(ah bD sE))],[]⟩))
def If (b:Nat→PC):PT:=
 (.ite (ah fi (.llen dK))
 (.chk (.nt (.an (.an (.nt dD) pT) (.nt (ao bx bQ))))
 (.chk (.nt (.an (.an (peq (pc (pn bx bQ) 3) (pi 1)) (.an (.nt dD) pT)) (.nt (ao bx bQ))))
 (.chk (.nt (.an (.an (peq (pc (pn bx bQ) 3) (pi 1)) (.an (.nt dD) pT)) (.nt (ao dK fi))))
 (.chk (.nt (.an (.an ON (.an (.nt dD) pT)) (.nt (ao bx bQ))))
 (.chk (.nt (.an (.an (.nt (peq (pc (pn bx bQ) 1) (pi 1))) (.an ON (.an (.nt dD) pT))) (.nt (ao bx bQ))))
 (.next ⟨[(18,(.pick dD pT (.pick ON (.pick (peq (pc (pn bx bQ) 1) (pi 1)) pT (pc (pn bx bQ) 6)) pF))),(21,(aG fi (pi 1)))],[]⟩))))))
 (.exit 10 ⟨[(134,fi),(135,dK),(136,(.llen dK)),(137,(ah fi (.llen dK)))],[]⟩))
def Ig (b:Nat→PC):PT:=
 (.ite (ah bQ (.llen bx))
 (.blockS ⟨[(131,(ah bQ (.llen bx))),(130,(.llen bx)),(129,bx),(128,bQ)],[]⟩ 9 [18,21,134,135,136,137] []
 (.brk ⟨[(21,(pi 0))],[]⟩
(akI b)
 (.next ⟨[],[]⟩))
 (.next ⟨[(20,(aG bQ (pi 1)))],[]⟩))
 (.exit 8 ⟨[(128,bQ),(129,bx),(130,(.llen bx)),(131,(ah bQ (.llen bx)))],[]⟩))
def Ih (b:Nat→PC):PT:=
 (.chk (ao bz bG)
 (.ite (ah dE (.llen vn))
 (.chk (.nt (.an (.an (.nt qV) pT) (.nt (ao bz bG))))
 (.chk (.nt (.an (.an (.nt qV) pT) (.nt (ao vn dE))))
 (.next ⟨[(22,(.pick qV pT (peq (pn vn dE) dk))),(23,(aG dE (pi 1)))],[]⟩)))
 (.exit 12 ⟨[(176,dE),(177,bz),(178,bG),(179,(.ref (pn bz bG))),(180,(.ref vn)),(181,vn),(182,(.llen vn)),(183,(ah dE (.llen vn)))],[]⟩)))
def Ii (b:Nat→PC):PT:=
 (.ite (ah dk sE)
 (.blockS ⟨[(122,(ah dk sE)),(121,sE),(120,(pc o4 2)),(119,pN),(118,dk)],[]⟩ 7 [8,18,19,20,22,23,125,126,127,128,129,130,131,176,177,178,179,180,181,182,183,199,200,201] []
 (.call ⟨[(18,pF)],[]⟩ [] 127 22 [(aC 8 o4),dk]
 (.brk ⟨[(20,(pi 0)),(19,ZQ)],[]⟩
(akJ b)
 (.brk ⟨[(23,(pi 0)),(22,pF)],[]⟩
(akK b)
 (.ite (.cb .neq qV dD)
 (.ret pF)
 (.next ⟨[],[]⟩)))))
 (.next ⟨[(17,(aG dk (pi 1)))],[]⟩))
 (.exit 6 ⟨[(118,dk),(119,pN),(120,(pc o4 2)),(121,sE),(122,(ah dk sE))],[]⟩))
def Ij (b:Nat→PC):PT:=
 (.ite (ah bG (.llen r2))
 (.blockS ⟨[(99,(ah bG (.llen r2))),(98,(.llen r2)),(97,r2),(96,bG)],[]⟩ 5 [8,12,16,17,102,103,104,105,106,107,108,109,110,111,112,113,114,115,116,117,118,119,120,121,122,202,203,204,205,206,207,208,209,210,211,212,213] []
 (.chk (ao r2 bG)
 (.call ⟨[(12,(aG bS (pc (.sub (pn r2 bG) 0 15) 3)))],[]⟩ [] 117 21 [(aC 8 o4),r1,(pn r2 bG),r3]
 (.brk ⟨[(17,(pi 0)),(16,anC)],[]⟩
(akL b)
 (.chk (ao bz bG)
 (.chk (ao r2 bG)
 (.ite (aO (pc (pn bz bG) 0) (pc (.sub (pn r2 bG) 0 15) 3))
 (.ret pF)
 (.next ⟨[],[]⟩)))))))
 (.next ⟨[(15,(aG bG (pi 1)))],[]⟩))
 (.exit 4 ⟨[(96,bG),(97,r2),(98,(.llen r2)),(99,(ah bG (.llen r2)))],[]⟩))
def QQ (b:Nat→PC):PT:=
 (.call ⟨[(8,pF)],[(4,(.mk [r0]))]⟩ [] 24 12 []
 (.call ⟨[(9,ja)],[]⟩ [] 26 19 [(aC 8 o4)]
 (.call ⟨[(28,(.nt gT))],[]⟩ [(28,false)] 30 14 [(aC 8 o4)]
 (.ite (.pick (.pick nH pT (aO qW (pi 0))) pT (bj (.llen r2) (pi 4)))
 (.ret r9)
 (.brk ⟨[(10,(pi 0))],[]⟩
(akG b)
 (.call ⟨[],[]⟩ [] 74 17 [(aC 8 o4),r1,r2,r3]
 (.call ⟨[(80,(aO (.llen y2) (.llen r2))),(11,y2)],[]⟩ [(80,false)] 82 20 [y2]
 (.ite (.pick q5 pT (.nt jb))
 (.ret pF)
 (.brk ⟨[(14,(pi 0)),(13,pN),(12,(pi 0))],[(13,pL)]⟩
(akH b)
 (.brk ⟨[(15,(pi 0))],[]⟩
(akM b)
 (.call ⟨[(215,r9)],[]⟩ [(215,true)] 218 18 [bz,yF]
 (.ret (.pick (.r 215) (peq (.r 218) bS) pF)))))))))))))
def afJ (b:Nat→PC):PT×List (Shp×PT):=(QQ b,[(.lp 0 [8,10,39,40,41,42] [] [8,10] [],CO b),(.lp 2 [13,14,85,86,87,88,89] [13] [13,14] [13],Ie b),(.lp 10 [18,21,134,135,136,137] [] [18,21] [],If b),(.lp 8 [18,20,128,129,130,131] [] [18,20] [],Ig b),(.lp 12 [22,23,176,177,178,179,180,181,182,183] [] [22,23] [],Ih b),(.lp 6 [8,17,118,119,120,121,122] [] [8,17] [],Ii b),(.lp 4 [8,12,15,96,97,98,99] [] [8,12,15] [],Ij b)])
theorem qL:wJ.map told=some (afJ (bk wJ)):=by kernel_rfl
theorem ap4:tree (ae wJ)=QQ jS:=bN qL
theorem Pf:round 0 [8,10,39,40,41,42] [] [8,10] [] (jS 0)=CO jS:=be qL 0 fun _=>rfl
theorem aaa:round 2 [13,14,85,86,87,88,89] [13] [13,14] [13] (jS 1)=Ie jS:=be qL 1 fun _=>rfl
theorem aab:round 10 [18,21,134,135,136,137] [] [18,21] [] (jS 2)=If jS:=be qL 2 fun _=>rfl
theorem aac:round 8 [18,20,128,129,130,131] [] [18,20] [] (jS 3)=Ig jS:=be qL 3 fun _=>rfl
theorem aad:round 12 [22,23,176,177,178,179,180,181,182,183] [] [22,23] [] (jS 4)=Ih jS:=be qL 4 fun _=>rfl
theorem aae:round 6 [8,17,118,119,120,121,122] [] [8,17] [] (jS 5)=Ii jS:=be qL 5 fun _=>rfl
theorem aaf:round 4 [8,12,15,96,97,98,99] [] [8,12,15] [] (jS 6)=Ij jS:=be qL 6 fun _=>rfl
def wU:Option PC:=cF [4,6] [] Tryz.f22 22 [2,5,7]
def J5:Nat→PC:=br wU
def ak0 (b:Nat→PC):PC:=.block 0 [5,11,12] [5] (.loop [5,11] [5] (b 0))
def Ir (b:Nat→PC):PT:=
 (.ite sH
 (.chk (ao r9 bz)
 (.ite (peq (pc (.setc OQ 0 (pn r9 bz)) 2) r1)
 (.chk (bB (.llen (.app o5 (.lst [bz]))) cl)
 (.next ⟨[(5,pN),(11,yY)],[(5,(.app o5 (.lst [bz])))]⟩))
 (.next ⟨[(11,yY)],[]⟩)))
 (.exit 0 ⟨[(12,sH)],[]⟩))
def Ri (b:Nat→PC):PT:=
 (.brk ⟨[(11,(pi 0)),(10,(.llen (pc (.mk [r0]) 3))),(9,(pc (.mk [r0]) 3)),(5,pN)],[(5,pL)]⟩
(ak0 b)
 (.ret o5))
def afV (b:Nat→PC):PT×List (Shp×PT):=(Ri b,[(.lp 0 [5,11,12] [5] [5,11] [5],Ir b)])
theorem NQ:wU.map told=some (afV (bk wU)):=by kernel_rfl
theorem aqx:tree (ae wU)=Ri J5:=bN NQ
theorem aak:round 0 [5,11,12] [5] [5,11] [5] (J5 0)=Ir J5:=be NQ 0 fun _=>rfl
def Ev:Option PC:=kl {ctx with fr:=[6],nh:=[]} Tryz.f128 ⟨[Y8,I,oa],.slice I,.dat⟩ [3,5,7,8,42,9]
def Qq:PT:=
 (.chk (ao (pc (.mk [r2]) 15) (pc (.mk [r2]) 19))
 (.ite Zu
 (.ret pL)
 (.chk (.an (bZ (pi 5) (pi 0)) (bB (pi 5) cl))
 (.chk (peq (pi 5) (pi 5))
 (.chk (ao (.rep (pi 5) (pi 0)) (pi 0))
 (.call ⟨[],[(9,(.setn (.rep (pi 5) (pi 0)) (pi 0) 0 r1)),(8,(.setc Jn 0 (aC 15 (.mk [r2])))),(7,yQ),(3,(.mk [r0]))]⟩ [] 50 181 [kI,(pc yQ 7)]
 (.chk (ao o9 (pi 1))
 (.call ⟨[],[(9,(.setn o9 (pi 1) 0 kc))]⟩ [] 56 181 [(aC 8 o3),(pc o8 10)]
 (.chk (ao o9 (pi 2))
 (.call ⟨[],[(9,(.setn o9 (pi 2) 0 nJ))]⟩ [] 62 181 [(aC 8 o3),(pc o8 9)]
 (.chk (ao o9 (pi 3))
 (.chk (ao (pc o3 3) (pc o7 2))
 (.call ⟨[],[(9,(.setn o9 (pi 3) 0 mz))]⟩ [] 73 181 [(aC 8 o3),(pc (pn (pc o3 3) (pc o7 2)) 1)]
 (.chk (ao o9 (pi 4))
 (.call ⟨[],[(9,(.setn o9 (pi 4) 0 CG))]⟩ [] 76 185 [(.setn o9 (pi 4) 0 CG),(pi (-1))]
 (.ite qZ
 (.ret pL)
 (.ret o9)))))))))))))))))
theorem XN:Ev.map told=some (Qq,[]):=by kernel_rfl
theorem apx:tree (ae Ev)=Qq:=ba XN
def Ew:Option PC:=kl {ctx with fr:=[6],nh:=[]} Tryz.f128 ⟨[Y8,I,oa],.nils .bool,.dat⟩ [3,5,7,8,42,9]
def I7:PT:=
 (.chk (ao (pc (.mk [r2]) 15) (pc (.mk [r2]) 19))
 (.ite Zu
 (.ret pL)
 (.chk (.an (bZ (pi 5) (pi 0)) (bB (pi 5) cl))
 (.chk (peq (pi 5) (pi 5))
 (.chk (ao (.rep (pi 5) (pi 0)) (pi 0))
 (.call ⟨[],[(9,(.setn (.rep (pi 5) (pi 0)) (pi 0) 0 r1)),(8,(.setc Jn 0 (aC 15 (.mk [r2])))),(7,yQ),(3,(.mk [r0]))]⟩ [] 50 181 [kI,(pc yQ 7)]
 (.chk (ao o9 (pi 1))
 (.call ⟨[],[(9,(.setn o9 (pi 1) 0 kc))]⟩ [] 56 181 [(aC 8 o3),(pc o8 10)]
 (.chk (ao o9 (pi 2))
 (.call ⟨[],[(9,(.setn o9 (pi 2) 0 nJ))]⟩ [] 62 181 [(aC 8 o3),(pc o8 9)]
 (.chk (ao o9 (pi 3))
 (.chk (ao (pc o3 3) (pc o7 2))
 (.call ⟨[],[(9,(.setn o9 (pi 3) 0 mz))]⟩ [] 73 181 [(aC 8 o3),(pc (pn (pc o3 3) (pc o7 2)) 1)]
 (.chk (ao o9 (pi 4))
 (.call ⟨[],[]⟩ [] 76 185 [(.setn o9 (pi 4) 0 CG),(pi (-1))]
 (.ite qZ
 (.ret pL)
 (.chk pF
 (.next ⟨[],[]⟩))))))))))))))))))
theorem XO:Ew.map told=some (I7,[]):=by kernel_rfl
theorem apy:tree (ae Ew)=I7:=ba XO
end Rm
