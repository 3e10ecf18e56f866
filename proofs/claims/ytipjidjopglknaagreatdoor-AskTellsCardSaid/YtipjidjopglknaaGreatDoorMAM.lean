/-
  The functions of this seat, compiled (2).
-/
import Derived.Test.YtipjidjopglknaaGreatDoorMAK
import Derived.KernelRfl
set_option linter.defProp false
set_option linter.unusedVariables false
set_option maxRecDepth 100000
noncomputable section
namespace Rm
open Go Go.Proofs Cx
def ET:Option PC:=gf {eD with fr:=[2,3,4,11],nh:=[]} Tryz.f176 ((bk fa 176).getD default) []
def Zh:PT:=
 (.ite (.pick zV pT (bq r0 (pi 19)))
 (.ret (.tup [(pi 0),pF]))
 (.ite (aj r0 (pi 7))
 (.ret (.tup [(pi 0),pT]))
 (.ret (.tup [(pi 1),pT]))))
def agK:ET.map told=some (Zh,[]):=by kernel_rfl
def aB3:tree (ab ET)=Zh:=aO agK
def K8:Option PC:=cF [4,8,13,17,21] [] Tryz.f175 175 [2]
def Zp:PT:=
 (.ite (peq r0 (pi 3))
 (.ret (.mk [(pc (.setc mJ 0 (.mk [(.lst [(pi 1)]),(pi 1)])) 0),(pc (.setc mJ 0 (.mk [(.lst [(pi 1)]),(pi 1)])) 1)]))
 (.ite (.pick (peq r0 (pi 4)) (peq r0 (pi 4)) (peq r0 (pi 5)))
 (.ret (.mk [(pc (.setc mJ 0 (.mk [(.lst [(pi 1),(pi 1)]),(pi 1)])) 0),(pc (.setc mJ 0 (.mk [(.lst [(pi 1),(pi 1)]),(pi 1)])) 1)]))
 (.ite (peq r0 (pi 6))
 (.ret (.mk [(pc ahp 0),(pc ahp 1)]))
 (.ite (peq r0 (pi 7))
 (.ret (.mk [(pc (.setc mJ 0 (.mk [(.lst [(pi 0),(pi 0)]),(pi 1)])) 0),(pc (.setc mJ 0 (.mk [(.lst [(pi 0),(pi 0)]),(pi 1)])) 1)]))
 (.ite (peq r0 (pi 8))
 (.ret (.mk [(pc (.setc mJ 0 (.mk [(.lst [(pi (-1)),(pi (-1))]),(pi 1)])) 0),(pc (.setc mJ 0 (.mk [(.lst [(pi (-1)),(pi (-1))]),(pi 1)])) 1)]))
 (.ret (.mk [(pc (.setc mJ 0 (.mk [(.lst [(pi 0),(pi 0)]),(pi 0)])) 0),(pc (.setc mJ 0 (.mk [(.lst [(pi 0),(pi 0)]),(pi 0)])) 1)])))))))
def agR:K8.map told=some (Zp,[]):=by kernel_rfl
def aCc:tree (ab K8)=Zp:=aO agR
def K6:Option PC:=cF [5,6,8] [] Tryz.f72 72 [2,4,7]
def Zg:PT:=
 (.call ⟨[],[(4,cN),(2,(.mk [r0]))]⟩ [] 11 115 [z7]
 (.ite (aR (.tget bV 1) (pi 0))
 (.ret uV)
 (.call ⟨[],[]⟩ [] 21 116 [(.mk [r1]),UP]
 (.ret (.mk [(pc ahI 0),(pc ahI 1)])))))
def agJ:K6.map told=some (Zg,[]):=by kernel_rfl
def aB2:tree (ab K6)=Zg:=aO agJ
def yp:Option PC:=gf {eD with fr:=[5,15,21,9,11],nh:=[]} Tryz.f116 ((bk fa 116).getD default) [2,3,4,6,33,7,8,10,12298,12]
def Qy:Nat->PC:=bn yp
variable(b:Nat->PC)
def avr:PC:=.block 1 [45,46] [7,8] (.loop [45] [7,8] (b 0))
def Iz (b:Nat->PC):PT:=
 (.ite (aj nC Ad)
 (.blockS ⟨[],[]⟩ 2 [9,10,47,48,49,50,51,52,53,54,55,56,57,58,59,60,61] [10,12298,8,7]
 (.chk (ao tc nC)
 (.call ⟨[(54,nC),(52,nC)],[]⟩ [] 57 116 [(.mk [(pc o2 0)]),(.mk [(pc (.setc lf 0 (pn tc nC)) 0),(pc (.setc lf 0 (pn tc nC)) 1),(pc (.setc lf 0 (pn tc nC)) 2)])]
 (.chk (ao o7 tg)
 (.chk (ao o8 rH)
 (.next ⟨[],[(8,(.setn o8 rH 0 (.tget NL 1))),(7,(.setn o7 tg 0 (.tget NL 0)))]⟩)))))
 (.next ⟨[(45,(aL nC (pi 1)))],[]⟩))
 (.exit 1 ⟨[(46,(aj nC Ad))],[]⟩))
def IY:PT:=
 (.blockS ⟨[(14,zR)],[(4,cN),(3,(.mk [r1])),(2,(.mk [r0]))]⟩ 0 [5,15,16,21,22] [4]
 (.iteS ⟨[],[]⟩ (.pick (peq dB (pi 0)) (peq dB (pi 0)) (peq dB (pi 1))) [5,21,22] [4]
 (.ret (.tup [(.mk [(pc (.setc o4 0 (.mk [pT,(pc o3 1)])) 0),(pc (.setc o4 0 (.mk [pT,(pc o3 1)])) 1)]),pL]))
 (.iteS ⟨[],[]⟩ (peq dB (pi 2)) [5] [4]
 (.call ⟨[],[]⟩ [] 26 154 [(.mk [(pc o2 0)]),(pc o3 1)]
 (.ite (pc Ab 0)
 (.ret (.tup [(.mk [(pc (.setc o4 0 (.mk [(pc Ab 0),(pc Ab 1)])) 0),(pc (.setc o4 0 (.mk [(pc Ab 0),(pc Ab 1)])) 1)]),pL]))
 (.ret (.tup [uV,(.lst [(pc o3 1)])]))))
 (.next ⟨[],[]⟩)
 (.next ⟨[],[]⟩))
 (.next ⟨[],[]⟩))
 (.chk (.an (bY mK (pi 0)) (bB mK cM))
 (.chk (peq mK mK)
 (.brk ⟨[(45,(pi 0)),(44,mK),(43,(pc o3 2)),(8,pN),(7,pN)],[(8,(.rep mK pL)),(7,(.rep mK cN))]⟩
(avr b)
 (.chk (.nt (.an (.an (peq (pc o3 0) (pi 6)) pT) (.nt (ao o7 (pi 0)))))
 (.ite (.pick (peq (pc o3 0) (pi 6)) (pc (pn o7 (pi 0)) 0) pF)
 (.chk (ao o7 (pi 0))
 (.chk (ao o7 He)
 (.chk (ao o8 He)
 (.ret (.tup [(.mk [(pc (.setc o4 0 (.sub (pn o7 He) 0 2)) 0),(pc (.setc o4 0 (.sub (pn o7 He) 0 2)) 1)]),(pn o8 He)])))))
 (.call ⟨[],[]⟩ [] 88 155 [(pc o3 0),o7]
 (.ite (pc (.setc cN 0 NN) 0)
 (.ret (.tup [(.mk [(pc aho 0),(pc aho 1)]),pL]))
 (.call ⟨[(92,(.mk [pF,(pi 0)]))],[]⟩ [] 94 156 [o8]
 (.ret (.tup [(.mk [(pc (.setc o4 0 Af) 0),(pc (.setc o4 0 Af) 1)]),r94])))))))))))
def ap7:PT×List (Shp×PT):=(IY b,[(.lp 1 [45,46] [7,8] [45] [7,8],Iz b)])
def Uq:yp.map told=some (ap7 (bx yp)):=by kernel_rfl
def aB9:tree (ab yp)=IY Qy:=bJ Uq
def Wf:round 1 [45,46] [7,8] [45] [7,8] (Qy 0)=Iz Qy:=aZ Uq 0 λ_=>rfl
def EX:Option PC:=gf {eD with fr:=[5,6],nh:=[]} Tryz.f154 ((bk fa 154).getD default) [2,4]
def Zn:PT:=
 (.chk (.nt (.an (.an (.nt (bY r1 (.llen gK))) pT) (.nt (ao gK r1))))
 (.ite (.pick (bY r1 (.llen gK)) pT (.nt (pc (pn gK r1) 0)))
 (.ret Nt)
 (.call ⟨[],[(4,cN),(2,(.mk [r0]))]⟩ [] 24 176 [r1]
 (.iteS ⟨[],[]⟩ (peq (.tget nA 0) (pi 1)) [] [4]
 (.chk (ao (pc o2 0) r1)
 (.call ⟨[],[]⟩ [] 36 177 [(aR (pc (pn (pc o2 0) r1) 1) (pi 0))]
 (.ret (.mk [(pc (.setc o4 0 kH) 0),(pc (.setc o4 0 kH) 1)]))))
 (.next ⟨[],[]⟩)
 (.chk (ao (pc o2 0) r1)
 (.call ⟨[],[]⟩ [] 43 178 [(pc (pn (pc o2 0) r1) 1)]
 (.ret (.mk [(pc (.setc o4 0 (.mk [pT,tc])) 0),(pc (.setc o4 0 (.mk [pT,tc])) 1)]))))))))
def agP:EX.map told=some (Zn,[]):=by kernel_rfl
def aCa:tree (ab EX)=Zn:=aO agP
def EZ:Option PC:=gf {eD with fr:=[],nh:=[]} Tryz.f177 ((bk fa 177).getD default) [2]
def Zq:PT:=
 (.ite r0
 (.ret Ns)
 (.ret UU))
def agS:EZ.map told=some (Zq,[]):=by kernel_rfl
def aCd:tree (ab EZ)=Zq:=aO agS
def EV:Option PC:=gf {eD with fr:=[9,22,41,6,7,82,88,94],nh:=[]} Tryz.f155 ((bk fa 155).getD default) [4,5]
def Zk:PT:=
 (.blockS ⟨[(8,r0)],[(4,cN)]⟩ 0 [9,10,22,23] [4]
 (.iteS ⟨[],[]⟩ (peq r8 (pi 3)) [22,23] [4]
 (.chk sY
 (.iteS ⟨[],[]⟩ (pc oE 0) [] [4]
 (.chk sY
 (.call ⟨[],[]⟩ [] 20 177 [(peq (pc oE 1) (pi 0))]
 (.ret (.mk [(pc (.setc o4 0 eT) 0),(pc (.setc o4 0 eT) 1)]))))
 (.next ⟨[],[]⟩)
 (.ret uV)))
 (.iteS ⟨[],[]⟩ (.pick (peq r8 (pi 4)) (peq r8 (pi 4)) (peq r8 (pi 5))) [] [4]
 (.call ⟨[],[]⟩ [] 27 177 [(peq r0 (pi 5))]
 (.chk sY
 (.chk (.nt (.an (.an (.nt ahn) pT) (.nt rE)))
 (.ite (.pick ahn pT (.an (.cb .eql (pc lh 0) (pc Dq 0)) (.an (peq (pc lh 1) (pc Dq 1)) pT)))
 (.ret (.mk [(pc (.setc o4 0 Dq) 0),(pc (.setc o4 0 Dq) 1)]))
 (.next ⟨[],[]⟩)))))
 (.ite (peq r8 (pi 6))
 (.chk rE
 (.chk (.nt (.an (.an (pc lh 0) pT) (.nt rE)))
 (.chk (.nt (.an (.an (pc lh 0) pT) (.nt (ao r1 (pi 2)))))
 (.ite (.pick (pc lh 0) (.an (.cb .eql (pc lh 0) (pc (pn r1 (pi 2)) 0)) (.an (peq (pc lh 1) (pc (pn r1 (pi 2)) 1)) pT)) pF)
 (.ret (.mk [(pc (.setc o4 0 lh) 0),(pc (.setc o4 0 lh) 1)]))
 (.ret uV)))))
 (.next ⟨[],[]⟩))
 (.next ⟨[],[]⟩))
 (.next ⟨[],[]⟩))
 (.chk sY
 (.chk (.nt (.an (.an (.nt (.nt (pc oE 0))) pT) (.nt rE)))
 (.ite (.pick (.nt (pc oE 0)) pT (.nt (pc lh 0)))
 (.ret uV)
 (.chk rE
 (.blockS ⟨[(81,r0),(7,(pc lh 1)),(6,(pc oE 1))],[]⟩ 1 [82,83,88,89,94,95] [4]
 (.iteS ⟨[],[]⟩ (.pick (peq rJ (pi 4)) (peq rJ (pi 4)) (peq rJ (pi 5))) [88,89,94,95] [4]
 (.call ⟨[],[]⟩ [] 87 177 [(peq r0 (pi 4))]
 (.ret (.mk [(pc (.setc o4 0 r87) 0),(pc (.setc o4 0 r87) 1)])))
 (.iteS ⟨[],[]⟩ (peq rJ (pi 7)) [94,95] [4]
 (.call ⟨[],[]⟩ [] 93 177 [(aj r6 r7)]
 (.ret (.mk [(pc (.setc o4 0 HB) 0),(pc (.setc o4 0 HB) 1)])))
 (.iteS ⟨[],[]⟩ (peq rJ (pi 8)) [] [4]
 (.call ⟨[],[]⟩ [] 99 177 [(peq r6 r7)]
 (.ret (.mk [(pc (.setc o4 0 NQ) 0),(pc (.setc o4 0 NQ) 1)])))
 (.next ⟨[],[]⟩)
 (.next ⟨[],[]⟩))
 (.next ⟨[],[]⟩))
 (.next ⟨[],[]⟩))
 (.call ⟨[],[]⟩ [] 103 179 [r0,r6,r7]
 (.ret (.mk [(pc (.setc o4 0 (.mk [pT,ND])) 0),(pc (.setc o4 0 (.mk [pT,ND])) 1)])))))))))
def agM:EV.map told=some (Zk,[]):=by kernel_rfl
def aB6:tree (ab EV)=Zk:=aO agM
def EU:Option PC:=gf {eD with fr:=[6,8,14,20,25],nh:=[]} Tryz.f179 ((bk fa 179).getD default) []
def Zi:PT:=
 (.blockS ⟨[(7,r0)],[]⟩ 0 [6,8,9,14,15,20,21,25,26] []
 (.iteS ⟨[],[]⟩ (peq r7 (pi 9)) [6,14,15,20,21,25,26] []
 (.call ⟨[],[]⟩ [] 13 178 [(aL r1 r2)]
 (.ret dP))
 (.iteS ⟨[],[]⟩ (peq r7 (pi 10)) [6,20,21,25,26] []
 (.call ⟨[],[]⟩ [] 19 178 [(bp r1 r2)]
 (.ret gV))
 (.iteS ⟨[],[]⟩ (peq r7 (pi 11)) [6,25,26] []
 (.call ⟨[],[]⟩ [] 24 209 [r1,r2]
 (.ret nA))
 (.ite (peq r7 (pi 12))
 (.ret (.mn r1 r2))
 (.next ⟨[],[]⟩))
 (.next ⟨[],[]⟩))
 (.next ⟨[],[]⟩))
 (.next ⟨[],[]⟩))
 (.ret (.mx r1 r2)))
def agL:EU.map told=some (Zi,[]):=by kernel_rfl
def aB4:tree (ab EU)=Zi:=aO agL
def EY:Option PC:=gf {eD with fr:=[4,5,6,7],nh:=[]} Tryz.f209 ((bk fa 209).getD default) []
def Zo:PT:=
 (.call ⟨[],[]⟩ [] 19 217 [(.conv .u64 (.mx r0 (bp (pi 0) r0))),(.conv .u64 (.mx r1 (bp (pi 0) r1)))]
 (.ite (.cb .neq zV (aj r1 (pi 0)))
 (.ret (bp (pi 0) ahu))
 (.ret ahu)))
def agQ:EY.map told=some (Zo,[]):=by kernel_rfl
def aCb:tree (ab EY)=Zo:=aO agQ
def EL:Option PC:=gf {eD with fr:=[4,5,6,7,8,9,10,11,12,13],nh:=[]} Tryz.f217 ((bk fa 217).getD default) []
def WX:PT:=
 (.chk (bY Du (pi 0))
 (.ret (.tup [(.ai .add .u64 (.ai .add .u64 (.ai .mul .u64 (.ai .shr .u64 r0 Du) (.ai .shr .u64 r1 Du)) (.ai .shr .u64 ahs Du)) (.ai .shr .u64 (.ai .add .u64 (.ai .and .u64 ahs (.con (.v (.int .u64 4294967295)))) (.ai .mul .u64 (.ai .and .u64 r0 (.con (.v (.int .u64 4294967295)))) (.ai .shr .u64 r1 Du))) Du)),(.ai .mul .u64 r0 r1)])))
def afe:EL.map told=some (WX,[]):=by kernel_rfl
def azF:tree (ab EL)=WX:=aO afe
def yo:Option PC:=gf {eD with fr:=[2,3,5,8],nh:=[]} Tryz.f156 ((bk fa 156).getD default) [6]
def EA:Nat->PC:=bn yo
def avf:PC:=.block 0 [3,11,12] [] (.loop [3,11] [] (b 0))
def avg:PC:=.block 2 [6,27,28] [6] (.loop [6,27] [6] (b 1))
def Od (b:Nat->PC):PT:=
 (.ite (aj bV bZ)
 (.chk (ao r9 bV)
 (.ite (aj (aL r3 (.llen (pn r9 bV))) (pi 0))
 (.chk (.nt pT)
 (.chk (.nt pT)
 (.next ⟨[(3,(aL r3 (.llen (pn r9 bV)))),(11,(aL bV (pi 1)))],[]⟩)))
 (.next ⟨[(3,(aL r3 (.llen (pn r9 bV)))),(11,(aL bV (pi 1)))],[]⟩)))
 (.exit 0 ⟨[(12,(aj bV bZ))],[]⟩))
def Oe (b:Nat->PC):PT:=
 (.ite (aj fM mN)
 (.chk (ao fp fM)
 (.chk (bB (.llen (.app o6 (pn fp fM))) cM)
 (.next ⟨[(6,pN),(27,(aL fM (pi 1)))],[(6,(.app o6 (pn fp fM)))]⟩)))
 (.exit 2 ⟨[(28,(aj fM mN))],[]⟩))
def YO:PT:=
 (.brk ⟨[(11,(pi 0)),(10,(.llen r0)),(9,r0),(3,(pi 0))],[]⟩
(avf b)
 (.call ⟨[],[]⟩ [] 24 180 [pL,r3]
 (.brk ⟨[(27,(pi 0)),(26,(.llen r0)),(25,r0),(6,pN)],[(6,nA)]⟩
(avg b)
 (.ret o6))))
def apX:PT×List (Shp×PT):=(YO b,[(.lp 0 [3,11,12] [] [3,11] [],Od b),(.lp 2 [6,27,28] [6] [6,27] [6],Oe b)])
def M8:yo.map told=some (apX (bx yo)):=by kernel_rfl
def aBL:tree (ab yo)=YO EA:=bJ M8
def aiw:round 0 [3,11,12] [] [3,11] [] (EA 0)=Od EA:=aZ M8 0 λ_=>rfl
def aix:round 2 [6,27,28] [6] [6,27] [6] (EA 1)=Oe EA:=aZ M8 1 λ_=>rfl
def Bs:Option PC:=cF [4,5] [] Tryz.f12 12 [2,3]
def Qj:Nat->PC:=bn Bs
def auS:PC:=.block 0 [4,5,34,35,36,37,38] [] (.loop [4,5] [] (b 0))
def N6 (b:Nat->PC):PT:=
 (.ite (aj r5 Dm)
 (.chk (ao (pc o2 3) r5)
 (.chk (ao (pc o3 3) r5)
 (.ite (aR (pn (pc o2 3) r5) (pn (pc o3 3) r5))
 (.ret pF)
 (.next ⟨[(5,nz)],[]⟩))))
 (.exit 0 ⟨[(34,r5),(35,pN),(36,(pc o2 3)),(37,Dm),(38,(aj r5 Dm))],[]⟩))
def Yp:PT:=
 (.ite (.pick (.pick (.pick (.nt (.an (.cb .eql (pc (.mk [gK,ke]) 0) (pc (.mk [zR,Dk]) 0)) (.an (peq (pc (.mk [gK,ke]) 1) (pc (.mk [zR,Dk]) 1)) pT))) pT (aR Ds (pc (.mk [r1]) 2))) pT (aR uY (pc (.mk [r1]) 4))) pT (aR (.llen (pc (.mk [r0]) 3)) (.llen (pc (.mk [r1]) 3))))
 (.ret pF)
 (.brk ⟨[(5,(pi 0)),(4,pF)],[(3,(.mk [r1])),(2,(.mk [r0]))]⟩
(auS b)
 (.ret pT)))
def apI:PT×List (Shp×PT):=(Yp b,[(.lp 0 [4,5,34,35,36,37,38] [] [4,5] [],N6 b)])
def Ub:Bs.map told=some (apI (bx Bs)):=by kernel_rfl
def aBm:tree (ab Bs)=Yp Qj:=bJ Ub
def air:round 0 [4,5,34,35,36,37,38] [] [4,5] [] (Qj 0)=N6 Qj:=aZ Ub 0 λ_=>rfl
def JD:Option PC:=cF [2,3,7,12] [] Tryz.f13 13 [1]
def WT:PT:=
 (.ite (aR uY (pi 0))
 (.ret (pi 0))
 (.ite (.nt gK)
 (.ret (pi 2))
 (.ite (aR ke (pi 0))
 (.ret (pi 1))
 (.ret (pi 0)))))
def ae9:JD.map told=some (WT,[]):=by kernel_rfl
def azA:tree (ab JD)=WT:=aO ae9
def JB:Option PC:=cF [2] [] Tryz.f15 15 [1]
def WR:PT:=
 (.ite (.pick (aR uY (pi 0)) pT (.nt gK))
 (.ret (pi (-1)))
 (.ret ke))
def ae7:JB.map told=some (WR,[]):=by kernel_rfl
def azy:tree (ab JB)=WR:=aO ae7
def EK:Option PC:=cF [8,10] [] Tryz.f20 20 [4,7,9]
def ON:PT:=
 (.call ⟨[],[(4,(.mk [r0]))]⟩ [] 16 33 [iU,r1,r2,Hc]
 (.ite (peq (pc Hf 2) (pi (-1)))
 (.ret pL)
 (.chk (ao (pc o4 4) (pc Hf 2))
 (.call ⟨[],[]⟩ [] 30 42 [(pn (pc o4 4) (pc Hf 2)),r2,(.tget fo 1)]
 (.ret p7)))))
def ae6:EK.map told=some (ON,[]):=by kernel_rfl
def ajq:tree (ab EK)=ON:=aO ae6
def JW:Option PC:=cF [6,8] [] Tryz.f42 42 [3,7]
def Xj:PT:=
 (.call ⟨[],[]⟩ [] 12 71 [(aq 4 (.mk [r0])),r1]
 (.ite (aR (.tget bS 1) (pi 0))
 (.ret pL)
 (.call ⟨[],[]⟩ [] 19 82 [(.mk [(pc (.setc lf 0 (.tget bS 0)) 0),(pc (.setc lf 0 (.tget bS 0)) 1),(pc (.setc lf 0 (.tget bS 0)) 2)]),r2]
 (.ret gV))))
def afx:JW.map told=some (Xj,[]):=by kernel_rfl
def az0:tree (ab JW)=Xj:=aO afx
def Bh:Option PC:=cF [4,5] [] Tryz.f17 17 []
def P7:Nat->PC:=bn Bh
def auH:PC:=.block 0 [4,5,11,12,13,14] [] (.loop [4,5] [] (b 0))
def N4 (b:Nat->PC):PT:=
 (.ite (aj r5 (.llen r0))
 (.chk (ao r0 r5)
 (.chk (ao r1 r5)
 (.ite (aR (pn r0 r5) (pn r1 r5))
 (.ret pF)
 (.next ⟨[(5,nz)],[]⟩))))
 (.exit 0 ⟨[(11,r5),(12,r0),(13,(.llen r0)),(14,(aj r5 (.llen r0)))],[]⟩))
def X1:PT:=
 (.ite (aR (.llen r0) (.llen r1))
 (.ret pF)
 (.brk ⟨[(5,(pi 0)),(4,pF)],[]⟩
(auH b)
 (.ret pT)))
def apw:PT×List (Shp×PT):=(X1 b,[(.lp 0 [4,5,11,12,13,14] [] [4,5] [],N4 b)])
def TX:Bh.map told=some (apw (bx Bh)):=by kernel_rfl
def aAP:tree (ab Bh)=X1 P7:=bJ TX
def aip:round 0 [4,5,11,12,13,14] [] [4,5] [] (P7 0)=N4 P7:=aZ TX 0 λ_=>rfl
def JC:Option PC:=cF [6,7] [] Tryz.f18 18 [3,5]
def WS:PT:=
 (.call ⟨[],[(5,(.mk [r2])),(3,(.mk [r0]))]⟩ [] 11 39 [iU,(aq 24 (.mk [r2]))]
 (.ite (peq (.llen (.tget bV 1)) (pi 0))
 (.ret pL)
 (.call ⟨[],[]⟩ [] 20 40 [(aq 8 o3),r1,(aq 24 (.setc o5 0 (.tget bV 0)))]
 (.ret eT))))
def ae8:JC.map told=some (WS,[]):=by kernel_rfl
def azz:tree (ab JC)=WS:=aO ae8
def JA:Option PC:=cF [8,9,10,11] [] Tryz.f22 22 [4,6]
def WQ:PT:=
 (.call ⟨[],[(6,(.mk [r2])),(4,(.mk [r0]))]⟩ [] 14 24 [(aq 19 (.mk [r2])),r3]
 (.ite (peq (.llen (pc (.setc o6 0 dB) 15)) (pi 0))
 (.ret (pi (-1)))
 (.call ⟨[],[(6,(.setc o6 0 dB))]⟩ [] 23 10 [(aq 8 o4),r1,(pi 6),(aq 19 (.setc o6 0 dB)),r3]
 (.call ⟨[],[]⟩ [] 24 15 [kh]
 (.call ⟨[(29,(aq 15 o6)),(27,(aq 8 o4)),(9,(.mx nA (pi 0)))],[]⟩ [] 31 45 [(aq 19 o6)]
 (.call ⟨[],[]⟩ [] 33 44 [fM,p6,mO,r9]
 (.ite (aR (.tget oH 1) (pi 0))
 (.ret (pi (-1)))
 (.ret (.tget oH 0)))))))))
def ae5:JA.map told=some (WQ,[]):=by kernel_rfl
def azx:tree (ab JA)=WQ:=aO ae5
def Jz:Option PC:=cF [] [] Tryz.f10 10 [5,8,77832,10]
def WO:PT:=
 (.call ⟨[],[(10,kf)]⟩ [] 18 8 [iU,r1,r2,ahr]
 (.ret (aq 5 (.setc cq 0 kg))))
def ae4:Jz.map told=some (WO,[]):=by kernel_rfl
def azw:tree (ab Jz)=WO:=aO ae4
def BE:Option PC:=cF [2,4] [] Tryz.f45 45 [1,3,6,8]
def Ey:Nat->PC:=bn BE
def avd:PC:=.block 0 [3,16,17] [3] (.loop [3,16] [3] (b 0))
def ave:PC:=.block 2 [2,3,36,37] [3] (.loop [2,3,36] [3] (b 1))
def Ir (b:Nat->PC):PT:=
 (.ite (aj fo fm)
 (.chk (ao dB fo)
 (.ite (.pick (peq r4 (pi 1)) (peq (pc (.setc z9 0 sW) 0) (pi 1)) pF)
 (.chk (bB (.llen (.app o3 (.lst [(pc (.setc z9 0 sW) 6)]))) cM)
 (.next ⟨[(3,pN),(16,(aL fo (pi 1)))],[(3,(.app o3 (.lst [(pc (.setc z9 0 sW) 6)])))]⟩))
 (.next ⟨[(16,(aL fo (pi 1)))],[]⟩)))
 (.exit 0 ⟨[(17,(aj fo fm))],[]⟩))
def Ak (b:Nat->PC):PT:=
 (.ite (aj kH p8)
 (.chk (ao Hs kH)
 (.ite (.pick (peq r4 (pi 0)) (peq (pc Hk 0) (pi 2)) pF)
 (.ret (pc Hk 6))
 (.ite (.pick (peq r4 (pi 1)) (peq (pc Hk 0) (pi 1)) pF)
 (.chk (bB (.llen (.app o3 (.lst [(pc Hk 6)]))) cM)
 (.next ⟨[(3,pN),(36,(aL kH (pi 1)))],[(3,(.app o3 (.lst [(pc Hk 6)])))]⟩))
 (.next ⟨[(36,(aL kH (pi 1)))],[]⟩))))
 (.exit 2 ⟨[(37,(aj kH p8))],[]⟩))
def YK:PT:=
 (.brk ⟨[(16,(pi 0)),(15,(.llen (pc (.mk [r0]) 15))),(14,(pc (.mk [r0]) 15)),(4,xn),(3,pN),(2,(pi 0))],[(3,pL),(1,(.mk [r0]))]⟩
(avd b)
 (.brk ⟨[(36,(pi 0)),(35,Ac),(34,(pc o1 17))],[]⟩
(ave b)
 (.ite (peq (.llen o3) (pi 0))
 (.ret (pi (-1)))
 (.call ⟨[],[]⟩ [] 66 90 [o3]
 (.ret Hw)))))
def apV:PT×List (Shp×PT):=(YK b,[(.lp 0 [3,16,17] [3] [3,16] [3],Ir b),(.lp 2 [2,3,36,37] [3] [2,3,36] [3],Ak b)])
def M6:BE.map told=some (apV (bx BE)):=by kernel_rfl
def aBG:tree (ab BE)=YK Ey:=bJ M6
def V5:round 0 [3,16,17] [3] [3,16] [3] (Ey 0)=Ir Ey:=aZ M6 0 λ_=>rfl
def Is:round 2 [2,3,36,37] [3] [2,3,36] [3] (Ey 1)=Ak Ey:=aZ M6 1 λ_=>rfl
def BL:Option PC:=cF [2,3,4] [] Tryz.f90 90 []
def Qw:Nat->PC:=bn BL
def aer:PC:=.block 0 [3,4,12,13,14,15] [] (.loop [3,4] [] (b 0))
def Of (b:Nat->PC):PT:=
 (.ite (aj r4 (.llen r0))
 (.chk (ao r0 r4)
 (.next ⟨[(3,(.mn r3 (pn r0 r4))),(4,(aL r4 (pi 1)))],[]⟩))
 (.exit 0 ⟨[(12,r4),(13,r0),(14,(.llen r0)),(15,(aj r4 (.llen r0)))],[]⟩))
def YY:PT:=
 (.ite (aj (.llen r0) (pi 1))
 (.chk (.nt pT)
 (.chk (.nt pT)
 (.chk (ao r0 (pi 0))
 (.brk ⟨[(4,(pi 1)),(3,(pn r0 (pi 0)))],[]⟩
(aer b)
 (.ret r3)))))
 (.chk (ao r0 (pi 0))
 (.brk ⟨[(4,(pi 1)),(3,(pn r0 (pi 0)))],[]⟩
(aer b)
 (.ret r3))))
def ap3:PT×List (Shp×PT):=(YY b,[(.lp 0 [3,4,12,13,14,15] [] [3,4] [],Of b)])
def Uo:BL.map told=some (ap3 (bx BL)):=by kernel_rfl
def aBV:tree (ab BL)=YY Qw:=bJ Uo
def aiy:round 0 [3,4,12,13,14,15] [] [3,4] [] (Qw 0)=Of Qw:=aZ Uo 0 λ_=>rfl
def EP:Option PC:=cF [8,9,15,39,58,74,11,12] [] Tryz.f44 44 [4,5,10]
def IX:PT:=
 (.blockS ⟨[],[(10,zW),(5,(.mk [r1])),(4,(.mk [r0]))]⟩ 0 [8,9,15,16,17,18,19,25,26,32,33,38,39,40,41,42,43,47,48,52,53,57,58,59,60,61,65,66,69,70,73,74,75,76,77,80] []
 (.call ⟨[],[]⟩ [] 17 84 [(aq 8 o4)]
 (.call ⟨[(19,(aR iy (pi 0)))],[]⟩ [(19,false)] 23 85 [(aq 8 o4),(pc o5 9)]
 (.call ⟨[(26,(.pick gV pT (.nt kh)))],[]⟩ [(26,false)] 30 85 [(aq 8 o4),(pc o5 10)]
 (.call ⟨[(33,(.pick mN pT (.nt p7)))],[]⟩ [(33,false)] 36 86 [(pc o5 8)]
 (.iteS ⟨[],[]⟩ (.pick oH pT (.nt kH)) [8,9,39,40,41,42,43,47,48,52,53,57,58,59,60,61,65,66,69,70,73,74,75,76,77,80] []
 (.ret (.tup [(pi 0),(pi 1)]))
 (.iteS ⟨[],[]⟩ ahy [8,9,58,59,60,61,65,66,69,70,73,74,75,76,77,80] []
 (.ret (.tup [(pi 0),(pi 1)]))
 (.call ⟨[(61,(aR r2 (pi (-1))))],[]⟩ [(61,true)] 63 86 [r2]
 (.iteS ⟨[],[]⟩ (.pick (.pick (.pick Dv (.nt Hu) pF) pT (aj r3 (pi 0))) pT (bq r3 (pi 20000))) [8,9,74,75,76,77,80] []
 (.ret (.tup [(pi 0),(pi 1)]))
 (.call ⟨[],[]⟩ [] 76 87 [(.mk [(pc cq 0),(pc cq 1),(pc cq 2)])]
 (.ite (.pick rI (peq r2 (pi (-1))) pF)
 (.ret (.tup [(pi 0),(pi 4)]))
 (.next ⟨[],[]⟩)))
 (.next ⟨[],[]⟩)))
 (.next ⟨[],[]⟩))
 (.next ⟨[],[]⟩))))))
 (.call ⟨[],[]⟩ [] 85 88 [(aq 8 o4),(aq 15 o5),r2]
 (.ite (aR (.tget Hz 1) (pi 0))
 (.ret (.tup [(pi 0),(.tget Hz 1)]))
 (.call ⟨[(11,(.tget Hz 0))],[]⟩ [] 92 86 [(.tget Hz 0)]
 (.ite (.pick (.nt Af) pT (bq (aL bV r3) (pi 100000)))
 (.ret (.tup [(pi 0),(pi 3)]))
 (.call ⟨[],[]⟩ [] 106 89 [(aq 8 o4),(pc o5 10),(aL bV r3)]
 (.ret (.tup [(.tget ahR 0),(.tget ahR 1)]))))))))
def agA:EP.map told=some (IX,[]):=by kernel_rfl
def YZ:tree (ab EP)=IX:=aO agA
def Bt:Option PC:=cF [2,3,4,5,6,7,10,11,12] [] Tryz.f84 84 [1,9]
def Qk:Nat->PC:=bn Bt
def auT:PC:=.block 0 [2,38,39] [] (.loop [2,38] [] (b 0))
def Ib (b:Nat->PC):PT:=
 (.ite (aj ju p9)
 (.blockS ⟨[],[]⟩ 1 [2,9,40,41,42,43,44,45] [9]
 (.chk (ao kH ju)
 (.call ⟨[],[]⟩ [] 44 105 [(pc (.setc Hb 0 (pn kH ju)) 0),(pi 10)]
 (.ite (.nt Ad)
 (.ret (pi 1))
 (.next ⟨[],[]⟩))))
 (.next ⟨[(38,(aL ju (pi 1)))],[]⟩))
 (.exit 0 ⟨[(39,(aj ju p9))],[]⟩))
def Yr:PT:=
 (.call ⟨[(2,(pi 0))],[(1,(.mk [r0]))]⟩ [] 15 128 [iU]
 (.call ⟨[(5,(.tget fm 2)),(4,(.tget fm 1)),(3,(.tget fm 0))],[]⟩ [] 21 129 [(pc o1 0),(pi 8),(.con (.clo 130 []))]
 (.ite (aR jt (pi 0))
 (.ret jt)
 (.call ⟨[],[(1,(aq 8 o1))]⟩ [] 27 129 [r3,(pi 40),(.clo 131 [(.ref (aq 8 o1))])]
 (.ite (aR fM (pi 0))
 (.ret fM)
 (.ite (bq oG (pi 20))
 (.ret (pi 6))
 (.brk ⟨[(38,(pi 0)),(37,oG),(36,(pc o1 2))],[]⟩
(auT b)
 (.call ⟨[],[]⟩ [] 49 129 [r4,(pi 200),(.clo 133 [(.ref o1)])]
 (.ite (aR td (pi 0))
 (.ret td)
 (.call ⟨[],[]⟩ [] 55 129 [r5,(pi 20),(.clo 134 [(.ref o1)])]
 (.ite (aR va (pi 0))
 (.ret va)
 (.call ⟨[],[]⟩ [] 60 136 [(.sub o1 0 8)]
 (.ite (aR xr (pi 0))
 (.ret xr)
 (.call ⟨[],[]⟩ [] 65 137 [(.sub o1 0 8)]
 (.ret Hv)))))))))))))))
def apJ:PT×List (Shp×PT):=(Yr b,[(.lp 0 [2,38,39] [] [2,38] [],Ib b)])
def Uc:Bt.map told=some (apJ (bx Bt)):=by kernel_rfl
def aBs:tree (ab Bt)=Yr Qk:=bJ Uc
def VS:round 0 [2,38,39] [] [2,38] [] (Qk 0)=Ib Qk:=aZ Uc 0 λ_=>rfl
def Bx:Option PC:=cF [] [] Tryz.f128 128 [1,2,3,4,6,16390,20486,24582,21,8,34,10,12298,16394,47]
def yj:Nat->PC:=bn Bx
def auY:PC:=.block 0 [2,14,15] [2] (.loop [2,14] [2] (b 0))
def auZ:PC:=.block 2 [3,27,28] [3] (.loop [3,27] [3] (b 1))
def au0:PC:=.block 4 [4,40,41] [4] (.loop [4,40] [4] (b 2))
def N7 (b:Nat->PC):PT:=
 (.ite uU
 (.chk (ao bS dB)
 (.chk (bB (.llen ahw) cM)
 (.next ⟨[(2,pN),(14,(aL dB (pi 1)))],[(2,ahw)]⟩)))
 (.exit 0 ⟨[(15,uU)],[]⟩))
def N8 (b:Nat->PC):PT:=
 (.ite (aj fM mN)
 (.chk (ao fp fM)
 (.chk (bB (.llen ahD) cM)
 (.next ⟨[(3,pN),(27,(aL fM (pi 1)))],[(3,ahD)]⟩)))
 (.exit 2 ⟨[(28,(aj fM mN))],[]⟩))
def N9 (b:Nat->PC):PT:=
 (.ite (aj ma Ht)
 (.chk (ao ju ma)
 (.chk (bB (.llen ahz) cM)
 (.next ⟨[(4,pN),(40,(aL ma (pi 1)))],[(4,ahz)]⟩)))
 (.exit 4 ⟨[(41,(aj ma Ht))],[]⟩))
def YC:PT:=
 (.brk ⟨[(14,(pi 0)),(13,(.llen ke)),(12,ke),(4,pN),(3,pN),(2,pN)],[(4,pL),(3,pL),(2,pL),(1,(.mk [r0]))]⟩
(auY b)
 (.brk ⟨[(27,(pi 0)),(26,oF),(25,(pc o1 3))],[]⟩
(auZ b)
 (.brk ⟨[(40,(pi 0)),(39,pY),(38,(pc o1 4))],[]⟩
(au0 b)
 (.ret (.tup [o2,o3,o4])))))
def apO:PT×List (Shp×PT):=(YC b,[(.lp 0 [2,14,15] [2] [2,14] [2],N7 b),(.lp 2 [3,27,28] [3] [3,27] [3],N8 b),(.lp 4 [4,40,41] [4] [4,40] [4],N9 b)])
def GY:Bx.map told=some (apO (bx Bx)):=by kernel_rfl
def aBz:tree (ab Bx)=YC yj:=bJ GY
def ais:round 0 [2,14,15] [2] [2,14] [2] (yj 0)=N7 yj:=aZ GY 0 λ_=>rfl
def ait:round 2 [3,27,28] [3] [3,27] [3] (yj 1)=N8 yj:=aZ GY 1 λ_=>rfl
def aiu:round 4 [4,40,41] [4] [4,40] [4] (yj 2)=N9 yj:=aZ GY 2 λ_=>rfl
def Bv:Option PC:=cF [6,7,8] [] Tryz.f129 129 []
def Qn:Nat->PC:=bn Bv
def auW:PC:=.block 0 [6,15,16] [] (.loop [6,15] [] (b 0))
def Ie (b:Nat->PC):PT:=
 (.ite (aj fm dB)
 (.blockS ⟨[],[]⟩ 1 [6,7,8,17,18,19,20,21,22,24,25,26,27] []
 (.call ⟨[(7,fm)],[]⟩ [] 20 163 [r0,fm]
 (.ite (aR eT (pi 0))
 (.ret eT)
 (.callc ⟨[],[]⟩ [] 26 r2 [r7]
 (.ite (.nt mN)
 (.ret (pi 1))
 (.next ⟨[],[]⟩)))))
 (.next ⟨[(15,(aL fm (pi 1)))],[]⟩))
 (.exit 0 ⟨[(16,(aj fm dB))],[]⟩))
def Yy:PT:=
 (.ite (bq (.llen r0) r1)
 (.ret (pi 6))
 (.brk ⟨[(15,(pi 0)),(14,(.llen r0)),(6,(pi 0))],[]⟩
(auW b)
 (.ret (pi 0))))
def apM:PT×List (Shp×PT):=(Yy b,[(.lp 0 [6,15,16] [] [6,15] [],Ie b)])
def Uf:Bv.map told=some (apM (bx Bv)):=by kernel_rfl
def aBv:tree (ab Bv)=Yy Qn:=bJ Uf
def VU:round 0 [6,15,16] [] [6,15] [] (Qn 0)=Ie Qn:=aZ Uf 0 λ_=>rfl
def KS:Option PC:=cF [4] [] Tryz.f163 163 []
def YB:PT:=
 (.chk (ao r0 r1)
 (.call ⟨[],[]⟩ [] 9 199 [(pn r0 r1)]
 (.ite (.nt r9)
 (.ret (pi 2))
 (.chk (.slok r0 (pi 0) r1)
 (.chk (ao r0 r1)
 (.call ⟨[],[]⟩ [] 18 200 [(.slc r0 (pi 0) r1),(pn r0 r1)]
 (.ite kg
 (.ret (pi 5))
 (.ret (pi 0)))))))))
def ags:KS.map told=some (YB,[]):=by kernel_rfl
def aBy:tree (ab KS)=YB:=aO ags
def Bw:Option PC:=cF [2,3,4,5] [] Tryz.f199 199 []
def Qo:Nat->PC:=bn Bw
def auX:PC:=.block 0 [2,16,17] [] (.loop [2,16] [] (b 0))
def If (b:Nat->PC):PT:=
 (.ite (aj fo fm)
 (.chk (ao dB fo)
 (.ite (.pick (.nt (.pick (.pick (bY sW (.con (.v (.int .u8 97)))) (bB sW (.con (.v (.int .u8 122)))) pF) pT (.pick (bY sW (.con (.v (.int .u8 65)))) (bB sW (.con (.v (.int .u8 90)))) pF))) (.pick (peq fo (pi 0)) pT (.pick (aR sW (.con (.v (.int .u8 95)))) (.pick (aj sW (.con (.v (.int .u8 48)))) pT (bq sW (.con (.v (.int .u8 57))))) pF)) pF)
 (.ret pF)
 (.next ⟨[(16,(aL fo (pi 1)))],[]⟩)))
 (.exit 0 ⟨[(17,(aj fo fm))],[]⟩))
def YA:PT:=
 (.ite (.pick (.cs .eql r0 (.con (.v (.string ⟨#[]⟩)))) pT (bq (.slen r0) (pi 20)))
 (.ret pF)
 (.chk (bB (.slen r0) cM)
 (.brk ⟨[(16,(pi 0)),(15,(.llen (.bytes r0))),(14,(.bytes r0)),(2,pF)],[]⟩
(auX b)
 (.ret pT))))
def apN:PT×List (Shp×PT):=(YA b,[(.lp 0 [2,16,17] [] [2,16] [],If b)])
def Ug:Bw.map told=some (apN (bx Bw)):=by kernel_rfl
def aBx:tree (ab Bw)=YA Qo:=bJ Ug
def VV:round 0 [2,16,17] [] [2,16] [] (Qo 0)=If Qo:=aZ Ug 0 λ_=>rfl
def KZ:Option PC:=cF [4] [] Tryz.f200 200 []
def YS:PT:=
 (.call ⟨[],[]⟩ [] 7 215 [r0,r1]
 (.ret (bY r7 (pi 0))))
def agz:KZ.map told=some (YS,[]):=by kernel_rfl
def aBP:tree (ab KZ)=YS:=aO agz
def BK:Option PC:=cF [4,5] [] Tryz.f215 215 []
def Qv:Nat->PC:=bn BK
def avl:PC:=.block 0 [4,8,9] [] (.loop [4,8] [] (b 0))
def Ix (b:Nat->PC):PT:=
 (.ite (aj r8 r7)
 (.chk (ao r0 r8)
 (.ite (.cs .eql r1 (pn r0 r8))
 (.ret r8)
 (.next ⟨[(8,sX)],[]⟩)))
 (.exit 0 ⟨[(9,(aj r8 r7))],[]⟩))
def YX:PT:=
 (.brk ⟨[(8,(pi 0)),(7,(.llen r0)),(4,(pi 0))],[]⟩
(avl b)
 (.ret (pi (-1))))
def ap2:PT×List (Shp×PT):=(YX b,[(.lp 0 [4,8,9] [] [4,8] [],Ix b)])
def Un:BK.map told=some (ap2 (bx BK)):=by kernel_rfl
def aBU:tree (ab BK)=YX Qv:=bJ Un
def Wc:round 0 [4,8,9] [] [4,8] [] (Qv 0)=Ix Qv:=aZ Un 0 λ_=>rfl
def KM:Option PC:=cF [2] [] Tryz.f130 130 []
def Ys:PT:=
 (.ret pT)
def agm:KM.map told=some (Ys,[]):=by kernel_rfl
def aBo:tree (ab KM)=Ys:=aO agm
def KN:Option PC:=cF [3] [] Tryz.f131 131 []
def Yt:PT:=
 (.chk (ao (pc (.deref r1) 1) r0)
 (.call ⟨[],[]⟩ [] 10 132 [(.deref r1),(pn (pc (.deref r1) 1) r0)]
 (.ret bZ)))
def agn:KN.map told=some (Yt,[]):=by kernel_rfl
def aBp:tree (ab KN)=Yt:=aO agn
def Bu:Option PC:=cF [4,6] [] Tryz.f132 132 [2,3]
def Qm:Nat->PC:=bn Bu
def auV:PC:=.block 0 [4,10,11] [] (.loop [4,10] [] (b 0))
def Ic (b:Nat->PC):PT:=
 (.ite (aj bZ r9)
 (.chk (ao r8 bZ)
 (.chk z8
 (.chk (.nt (.an (.an (.nt (aj UQ (pi 1))) pT) (.nt z8)))
 (.ite (.pick (aj UQ (pi 1)) pT (bq UQ (pi 31)))
 (.ret pF)
 (.next ⟨[(10,(aL bZ (pi 1)))],[]⟩)))))
 (.exit 0 ⟨[(11,(aj bZ r9))],[]⟩))
def Yx:PT:=
 (.brk ⟨[(10,(pi 0)),(9,(.llen (pc (.mk [r1]) 4))),(8,(pc (.mk [r1]) 4)),(4,pF)],[(3,(.mk [r1])),(2,(.mk [r0]))]⟩
(auV b)
 (.call ⟨[(33,(.pick (bq Dl (pi 60)) pT (bq (.llen (pc o3 5)) (pi 200))))],[]⟩ [(33,false)] 39 105 [(pc o3 1),(.llen (pc o2 4))]
 (.call ⟨[(42,(.pick oH pT (.nt Ht)))],[]⟩ [(42,false)] 48 105 [(pc o3 2),(.llen (pc o2 0))]
 (.ite (.pick r42 pT (.nt rG))
 (.ret pF)
 (.call ⟨[],[]⟩ [] 53 164 [(pc o3 3),(pi 0),(pi 6)]
 (.call ⟨[(54,r53)],[]⟩ [(54,true)] 57 164 [(pc o3 4),(pi 101),(pi 1231)]
 (.call ⟨[(59,(.pick rH NL pF))],[]⟩ [(59,true)] 62 164 [(pc o3 5),(pi 0),(pi 100000)]
 (.ret (.pick Ve qd pF)))))))))
def apL:PT×List (Shp×PT):=(Yx b,[(.lp 0 [4,10,11] [] [4,10] [],Ic b)])
def Ue:Bu.map told=some (apL (bx Bu)):=by kernel_rfl
def aBu:tree (ab Bu)=Yx Qm:=bJ Ue
def VT:round 0 [4,10,11] [] [4,10] [] (Qm 0)=Ic Qm:=aZ Ue 0 λ_=>rfl
def BA:Option PC:=cF [6,7,8] [] Tryz.f164 164 []
def Qp:Nat->PC:=bn BA
def au5:PC:=.block 0 [6,11,12] [] (.loop [6,11] [] (b 0))
def xw (b:Nat->PC):PT:=
 (.ite (aj bV bZ)
 (.chk (ao r9 bV)
 (.chk (.nt (.an (.an (bq bV (pi 0)) (.an (.nt (.pick (aj (pn r9 bV) r1) pT (bq (pn r9 bV) r2))) pT)) (.nt (ao r0 (bp bV (pi 1))))))
 (.ite (.pick (.pick (aj (pn r9 bV) r1) pT (bq (pn r9 bV) r2)) pT (.pick (bq bV (pi 0)) (bB (pn r9 bV) (pn r0 (bp bV (pi 1)))) pF))
 (.ret pF)
 (.next ⟨[(11,(aL bV (pi 1)))],[]⟩))))
 (.exit 0 ⟨[(12,(aj bV bZ))],[]⟩))
def YG:PT:=
 (.brk ⟨[(11,(pi 0)),(10,(.llen r0)),(9,r0),(6,pF)],[]⟩
(au5 b)
 (.ret pT))
def apR:PT×List (Shp×PT):=(YG b,[(.lp 0 [6,11,12] [] [6,11] [],xw b)])
def Uh:BA.map told=some (apR (bx BA)):=by kernel_rfl
def aBC:tree (ab BA)=YG Qp:=bJ Uh
def DF:round 0 [6,11,12] [] [6,11] [] (Qp 0)=xw Qp:=aZ Uh 0 λ_=>rfl
def KO:Option PC:=cF [3] [] Tryz.f133 133 []
def Yu:PT:=
 (.chk (ao (pc (.deref r1) 3) r0)
 (.call ⟨[],[]⟩ [] 13 105 [(pc (pn (pc (.deref r1) 3) r0) 1),(.llen (pc (.deref r1) 1))]
 (.chk (.nt (.an (.an dP pT) (.nt (ao (pc (.deref r1) 3) r0))))
 (.call ⟨[(14,dP)],[]⟩ [(14,true)] 24 105 [(pc (pn (pc (.deref r1) 3) r0) 2),(.llen (pc (.deref r1) 2))]
 (.ret (.pick dB nA pF))))))
def ago:KO.map told=some (Yu,[]):=by kernel_rfl
def aBq:tree (ab KO)=Yu:=aO ago
def KP:Option PC:=cF [3] [] Tryz.f134 134 []
def Yv:PT:=
 (.chk (ao (pc (.deref r1) 4) r0)
 (.call ⟨[],[]⟩ [] 9 135 [(pn (pc (.deref r1) 4) r0)]
 (.ret r9)))
def agp:KP.map told=some (Yv,[]):=by kernel_rfl
def aBr:tree (ab KP)=Yv:=aO agp
def By:Option PC:=cF [2] [] Tryz.f135 135 [1,3,4,6,19,8,16392,36]
def Ev:Nat->PC:=bn By
def au1:PC:=.block 0 [2,3,12,13] [3] (.loop [2,3,12] [3] (b 0))
def au2:PC:=.block 2 [4,29,30] [4] (.loop [4,29] [4] (b 1))
def Ig (b:Nat->PC):PT:=
 (.ite (aj bS bV)
 (.blockS ⟨[],[]⟩ 1 [2,3,6,14,15,17,18,19,20,21,22,23,24] [6,19,3]
 (.chk (ao bZ bS)
 (.chk (bB (.llen (.app o3 (.lst [(pc (.setc uW 0 (pn bZ bS)) 0)]))) cM)
 (.call ⟨[(3,pN)],[(3,(.app o3 (.lst [(pc (.setc uW 0 (pn bZ bS)) 0)])))]⟩ [] 23 105 [(pc (.setc uW 0 (pn bZ bS)) 1),(pi 5)]
 (.ite (.nt kh)
 (.ret pF)
 (.next ⟨[],[]⟩)))))
 (.next ⟨[(12,(aL bS (pi 1)))],[]⟩))
 (.exit 0 ⟨[(13,(aj bS bV))],[]⟩))
def Oa (b:Nat->PC):PT:=
 (.ite (aj p6 nB)
 (.chk (ao fM p6)
 (.chk (bB (.llen ahE) cM)
 (.next ⟨[(4,pN),(29,(aL p6 (pi 1)))],[(4,ahE)]⟩)))
 (.exit 2 ⟨[(30,(aj p6 nB))],[]⟩))
def YD:PT:=
 (.brk ⟨[(12,(pi 0)),(11,rF),(10,Ds),(4,pN),(3,pN),(2,pF)],[(4,pL),(3,pL),(1,(.mk [r0]))]⟩
(au1 b)
 (.brk ⟨[(29,(pi 0)),(28,oF),(27,(pc o1 3))],[]⟩
(au2 b)
 (.call ⟨[],[]⟩ [] 40 164 [o3,(pi 0),(pi 21)]
 (.call ⟨[(41,ma)],[]⟩ [(41,true)] 43 164 [o4,(pi 0),(pi 21)]
 (.ret (.pick s9 tc pF))))))
def apP:PT×List (Shp×PT):=(YD b,[(.lp 0 [2,3,12,13] [3] [2,3,12] [3],Ig b),(.lp 2 [4,29,30] [4] [4,29] [4],Oa b)])
def M3:By.map told=some (apP (bx By)):=by kernel_rfl
def aBA:tree (ab By)=YD Ev:=bJ M3
def VW:round 0 [2,3,12,13] [3] [2,3,12] [3] (Ev 0)=Ig Ev:=aZ M3 0 λ_=>rfl
def aiv:round 2 [4,29,30] [4] [4,29] [4] (Ev 1)=Oa Ev:=aZ M3 1 λ_=>rfl
def BB:Option PC:=cF [2,3] [] Tryz.f136 136 [1,4,6]
def Ex:Nat->PC:=bn BB
def au6:PC:=.block 2 [2,50,51] [] (.loop [2,50] [] (b 0))
def au7:PC:=.block 0 [2,14,15] [] (.loop [2,14] [] (b 1))
def DG (b:Nat->PC):PT:=
 (.ite (aj nD td)
 (.chk (ao rG nD)
 (.ite (.pick (peq (pc (.setc z3 0 (pn rG nD)) 0) (pc o4 0)) (peq (pc (.setc z3 0 (pn rG nD)) 1) (pc o4 1)) pF)
 (.ret (pi 5))
 (.next ⟨[(50,(aL nD (pi 1)))],[]⟩)))
 (.exit 2 ⟨[(51,(aj nD td))],[]⟩))
def Ij:PT:=
 (.ite uU
 (.blockS ⟨[(15,uU)],[]⟩ 1 [2,3,4,16,17,18,19,20,21,22,23,24,25,26,34,35,39,40,44,45,46,47,48,49,50,51] [4]
 (.chk (ao bS dB)
 (.call ⟨[(3,dB)],[(4,Dt)]⟩ [] 24 105 [(pc Dt 0),mL]
 (.call ⟨[(26,(.nt nA))],[]⟩ [(26,false)] 32 105 [(pc o4 1),mL]
 (.ite (.pick (.pick (.pick mN pT (.nt mP)) pT (aj (pc o4 2) (pi 1))) pT (bq (pc o4 2) (pi 20000)))
 (.ret (pi 1))
 (.chk (.slok (pc o1 5) (pi 0) r3)
 (.brk ⟨[(50,(pi 0)),(49,(.llen (.slc (pc o1 5) (pi 0) r3))),(48,(.slc (pc o1 5) (pi 0) r3))],[]⟩
(au6 b)
 (.next ⟨[],[]⟩)))))))
 (.next ⟨[(14,(aL dB (pi 1)))],[]⟩))
 (.exit 0 ⟨[(15,uU)],[]⟩))
def YH:PT:=
 (.ite (bq (.llen xn) (pi 100))
 (.ret (pi 6))
 (.brk ⟨[(14,(pi 0)),(13,(.llen xn)),(12,xn),(2,(pi 0))],[(1,(.mk [r0]))]⟩
(au7 b)
 (.ret (pi 0))))
def apS:PT×List (Shp×PT):=(YH b,[(.lp 2 [2,50,51] [] [2,50] [],DG b),(.lp 0 [2,14,15] [] [2,14] [],Ij b)])
def M5:BB.map told=some (apS (bx BB)):=by kernel_rfl
def aBD:tree (ab BB)=YH Ex:=bJ M5
def Oc:round 2 [2,50,51] [] [2,50] [] (Ex 0)=DG Ex:=aZ M5 0 λ_=>rfl
def VZ:round 0 [2,14,15] [] [2,14] [] (Ex 1)=Ij Ex:=aZ M5 1 λ_=>rfl
def Bz:Option PC:=cF [2] [] Tryz.f137 137 [1,4,6]
def Ew:Nat->PC:=bn Bz
def au3:PC:=.block 0 [2,14,15] [] (.loop [2,14] [] (b 0))
def au4:PC:=.block 2 [2,69,70] [] (.loop [2,69] [] (b 1))
def Ih (b:Nat->PC):PT:=
 (.ite uU
 (.blockS ⟨[],[]⟩ 1 [2,4,16,17,18,19,20,21,22,23,24,25,33,34,40,41,47,48,54,55,60] [4]
 (.chk (ao bS dB)
 (.call ⟨[],[(4,(.setc z5 0 (pn bS dB)))]⟩ [] 23 105 [(pc (.setc z5 0 (pn bS dB)) 0),xo]
 (.call ⟨[(25,(.nt kh))],[]⟩ [(25,false)] 31 105 [(pc o4 1),xo]
 (.call ⟨[(41,(.pick (.pick fp pT (.nt mO)) pT (peq (pc o4 0) (pc o4 1))))],[]⟩ [(41,false)] 45 105 [(bp (pc o4 2) (pi 1)),(pi 1073741824)]
 (.call ⟨[(48,(.pick s9 pT (.nt nC)))],[]⟩ [(48,false)] 52 105 [(bp (pc o4 3) (pi 1)),(pi 1073741824)]
 (.call ⟨[(55,(.pick rG pT (.nt tg)))],[]⟩ [(55,false)] 58 105 [(pc o4 4),(pi 100001)]
 (.ite (.pick va pT (.nt xq))
 (.ret (pi 1))
 (.next ⟨[],[]⟩))))))))
 (.next ⟨[(14,(aL dB (pi 1)))],[]⟩))
 (.exit 0 ⟨[(15,uU)],[]⟩))
def Ii (b:Nat->PC):PT:=
 (.ite (aj oI NM)
 (.blockS ⟨[],[]⟩ 3 [2,6,71,72,73,74,75,76,77,78,79,80,84,85,91,92,96] [6]
 (.chk (ao qe oI)
 (.call ⟨[],[(6,(.setc z3 0 (pn qe oI)))]⟩ [] 78 105 [(pc (.setc z3 0 (pn qe oI)) 0),pY]
 (.ite (.pick (.pick (.pick (.nt Vg) pT (aj (pc o6 1) (pi 0))) pT (bq (pc o6 1) (pc o6 2))) pT (bq (pc o6 2) (pi 100000)))
 (.ret (pi 1))
 (.next ⟨[],[]⟩))))
 (.next ⟨[(69,(aL oI (pi 1)))],[]⟩))
 (.exit 2 ⟨[(70,(aj oI NM))],[]⟩))
def YE:PT:=
 (.ite (bq (.llen (pc (.mk [r0]) 6)) (pi 100))
 (.ret (pi 6))
 (.brk ⟨[(14,(pi 0)),(13,(.llen (pc (.mk [r0]) 6))),(12,(pc (.mk [r0]) 6)),(2,(pi 0))],[(1,(.mk [r0]))]⟩
(au3 b)
 (.ite (bq zS (pi 20))
 (.ret (pi 6))
 (.brk ⟨[(69,(pi 0)),(68,zS),(67,(pc o1 7))],[]⟩
(au4 b)
 (.ret (pi 0))))))
def apQ:PT×List (Shp×PT):=(YE b,[(.lp 0 [2,14,15] [] [2,14] [],Ih b),(.lp 2 [2,69,70] [] [2,69] [],Ii b)])
def M4:Bz.map told=some (apQ (bx Bz)):=by kernel_rfl
def aBB:tree (ab Bz)=YE Ew:=bJ M4
def VX:round 0 [2,14,15] [] [2,14] [] (Ew 0)=Ih Ew:=aZ M4 0 λ_=>rfl
def VY:round 2 [2,69,70] [] [2,69] [] (Ew 1)=Ii Ew:=aZ M4 1 λ_=>rfl
def K1:Option PC:=cF [4] [] Tryz.f85 85 [2]
def Zb:PT:=
 (.ret (.pick (bY r1 (pi 0)) (aj r1 (.llen ke)) pF))
def agG:K1.map told=some (Zb,[]):=by kernel_rfl
def aBX:tree (ab K1)=Zb:=aO agG
def K4:Option PC:=cF [2] [] Tryz.f86 86 []
def Zc:PT:=
 (.ret (.pick (bY r0 (pi 0)) (bB r0 (pi 100000)) pF))
def agH:K4.map told=some (Zc,[]):=by kernel_rfl
def aBY:tree (ab K4)=Zc:=aO agH
def K0:Option PC:=cF [2] [] Tryz.f87 87 [1]
def Za:PT:=
 (.ret (.pick (peq gK (pi 0)) pT (peq gK (pi 1))))
def agC:K0.map told=some (Za,[]):=by kernel_rfl
def aBW:tree (ab K0)=Za:=aO agC
def ES:Option PC:=cF [6,7,13,16,24,33,8,9] [] Tryz.f88 88 [3,4]
def oP:PT:=
 (.blockS ⟨[(12,(pc (.mk [r1]) 5))],[(4,(.mk [r1])),(3,(.mk [r0]))]⟩ 0 [6,7,13,14,16,17,24,25,33,34] []
 (.iteS ⟨[],[]⟩ (peq bS (pi 0)) [6,7,16,17,24,25,33,34] []
 (.ret (.tup [r2,(pi 0)]))
 (.iteS ⟨[],[]⟩ (peq bS (pi 1)) [6,7,24,25,33,34] []
 (.call ⟨[],[]⟩ [] 21 138 [r2,(.mk [(pc o4 5),(pc o4 6),(pc o4 7)])]
 (.ret (.tup [(.tget jt 0),(.tget jt 1)])))
 (.iteS ⟨[],[]⟩ (peq bS (pi 2)) [6,7,33,34] []
 (.call ⟨[],[]⟩ [] 30 138 [(pc o4 8),(.mk [(pc o4 5),(pc o4 6),(pc o4 7)])]
 (.ret (.tup [(.tget p7 0),(.tget p7 1)])))
 (.iteS ⟨[],[]⟩ (peq bS (pi 4)) [6,7] []
 (.call ⟨[],[]⟩ [] 41 99 [(aq 8 o3),(pc o4 9),(pc o4 10)]
 (.ret (.tup [(aL (pc o4 8) (.tget s9 0)),(.tget s9 1)])))
 (.next ⟨[],[]⟩)
 (.next ⟨[],[]⟩))
 (.next ⟨[],[]⟩))
 (.next ⟨[],[]⟩))
 (.next ⟨[],[]⟩))
 (.ret (.tup [(pc o4 6),(pi 0)])))
def agF:ES.map told=some (oP,[]):=by kernel_rfl
def Av:tree (ab ES)=oP:=aO agF
def ER:Option PC:=cF [4,5] [] Tryz.f138 138 [3]
def tC:PT:=
 (.ite (.pick (aj Dk (pi 0)) pT (bq Dk (pi 20000)))
 (.ret (.tup [(pi 0),(pi 3)]))
 (.iteS ⟨[],[(3,(.mk [r1]))]⟩ (peq (pc (.mk [r1]) 2) (pi 1)) [4,5] []
 (.call ⟨[],[]⟩ [] 20 165 [r0,(pc o3 1)]
 (.ret (.tup [(.tget eT 0),(.tget eT 1)])))
 (.next ⟨[],[]⟩)
 (.ret (.tup [(aL r0 (pc o3 1)),(pi 0)]))))
def agD:ER.map told=some (tC,[]):=by kernel_rfl
def xL:tree (ab ER)=tC:=aO agD
def EM:Option PC:=cF [4,5,6,7,8,9] [] Tryz.f165 165 []
def DW:PT:=
 (.call ⟨[],[]⟩ [] 11 166 [r0]
 (.ite (.pick (.pick (.nt bV) pT (aj r1 (pi (-5000)))) pT (bq r1 (pi 5000)))
 (.ret (.tup [(pi 0),(pi 3)]))
 (.call ⟨[],[]⟩ [] 23 201 [r0]
 (.chk (aR (pi 12) (pi 0))
 (.call ⟨[(41,(.tget kh 2)),(40,(aL (.ai .rem .i64 Nv (pi 12)) (pi 1))),(39,(.ai .quo .i64 Nv (pi 12)))],[]⟩ [] 44 203 [(.ai .quo .i64 Nv (pi 12)),(aL (.ai .rem .i64 Nv (pi 12)) (pi 1))]
 (.call ⟨[],[]⟩ [] 46 202 [Ht,ma,(.mn s9 Ad)]
 (.ret (.tup [(.tget NJ 0),(.tget NJ 1)]))))))))
def aff:EM.map told=some (DW,[]):=by kernel_rfl
def OP:tree (ab EM)=DW:=aO aff
def JM:Option PC:=cF [2] [] Tryz.f166 166 []
def W8:PT:=
 (.ret (.pick (bB (pi 0) r0) (bB r0 (pi 100000)) pF))
def afm:JM.map told=some (W8,[]):=by kernel_rfl
def azM:tree (ab JM)=W8:=aO afm
def JI:Option PC:=cF [2,3,4,5,6,7,8,9] [] Tryz.f201 201 []
def WZ:PT:=
 (.chk (aR (pi 146097) (pi 0))
 (.chk (aR (pi 1460) (pi 0))
 (.chk (aR (pi 36524) (pi 0))
 (.chk (aR (pi 146096) (pi 0))
 (.chk (aR (pi 365) (pi 0))
 (.chk (aR (pi 4) (pi 0))
 (.chk z8
 (.chk (aR (pi 153) (pi 0))
 (.chk (aR (pi 5) (pi 0))
 (.ret (.tup [(.pick (aj ahH (pi 3)) (aL ahm (pi 1)) ahm),ahH,(aL (bp (bp (.ai .rem .i64 (aL r0 (pi 730425)) (pi 146097)) (bp (aL (.ai .mul .i64 (pi 365) zX) (.ai .quo .i64 zX (pi 4))) (.ai .quo .i64 zX (pi 100)))) (.ai .quo .i64 (aL (.ai .mul .i64 (pi 153) Ny) (pi 2)) (pi 5))) (pi 1))])))))))))))
def afh:JI.map told=some (WZ,[]):=by kernel_rfl
def azH:tree (ab JI)=WZ:=aO afh
def JK:Option PC:=cF [4] [] Tryz.f203 203 []
def OQ:PT:=
 (.ite (peq r1 (pi 12))
 (.ret (pi 31))
 (.call ⟨[],[]⟩ [] 10 216 [r0,(aL r1 (pi 1)),(pi 1)]
 (.call ⟨[],[]⟩ [] 13 216 [r0,r1,(pi 1)]
 (.ret (bp bZ dP)))))
def afj:JK.map told=some (OQ,[]):=by kernel_rfl
def azK:tree (ab JK)=OQ:=aO afj
def EO:Option PC:=cF [6,0,1] [] Tryz.f216 216 []
def DX:PT:=
 (.chk (aR (pi 4) (pi 0))
 (.chk z8
 (.chk (aR (pi 400) (pi 0))
 (.chk (aR (pi 5) (pi 0))
 (.ret (bp (bp (aL (aL (aL (bp (aL (.ai .mul .i64 (pi 365) Nx) (.ai .quo .i64 Nx (pi 4))) (.ai .quo .i64 Nx (pi 100))) (.ai .quo .i64 Nx (pi 400))) (.ai .quo .i64 (aL (.ai .mul .i64 (pi 153) (bp (.pick (aj r1 (pi 3)) (aL r1 (pi 12)) r1) (pi 3))) (pi 2)) (pi 5))) r2) (pi 1)) (pi 730425)))))))
def afk:EO.map told=some (DX,[]):=by kernel_rfl
def W6:tree (ab EO)=DX:=aO afk
end Rm
