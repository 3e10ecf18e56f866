import Derived.Test.YtnkkihnmnfihnaaGreatDoorMAK
import Derived.KernelRfl
set_option maxRecDepth 100000
noncomputable section
set_option linter.all false
namespace Rm
open Go Go.Proofs Cx
def Bp:Option PC:=cF [4,7,9,11,12,13,14,15,16] [] Tryz.f126 126 [2,3,5,6,8,10,90,139]
def Eh:Nat->PC:=bk Bp
variable(b:Nat->PC)
def atM:PC:=.meach 90 [94,95,11,12] [0,1,0,1] [10] (b 0)
def atN:PC:=.meach 139 [143,144,15,16] [0,1,0,1] [10] (b 1)
def VI (b:Nat->PC):PT:=
 (.chk (aj bM bK)
 (.next ⟨[],[(10,(.setn bM bK 0 (.mk [pT,bG])))]⟩))
def VJ (b:Nat->PC):PT:=
 (.blockS ⟨[],[]⟩ 3 [145,146,147,148,149] [10]
 (.call ⟨[(146,fh)],[]⟩ [] 148 146 [dH]
 (.chk (aj bM (.r 146))
 (.next ⟨[],[(10,(.setn bM (.r 146) 0 (.r 148)))]⟩)))
 (.next ⟨[],[]⟩))
def xD:PT:=
 (.call ⟨[(7,(.mx (pc (.mk [r1]) 20) (pi 0)))],[(6,(.setc kz 0 kq)),(5,xf),(3,(.mk [r1])),(2,(.mk [r0]))]⟩ [] 30 49 [(pc (.mk [r1]) 19),(.llen (pc xf 15))]
 (.call ⟨[(48,GH),(44,(.pick (.pick (.nt m0) pT (af (pc o3 20) (pi (-1)))) pT (bP r7 (.llen (pc o5 15)))))],[]⟩ [(48,true),(44,false)] 51 49 [(pc o3 22),(pi 100001)]
 (.ite (.pick zQ pT (.pick nS (.nt m5) pF))
 (.ret pL)
 (.chk (aj (pc o5 15) (pc o3 19))
 (.call ⟨[],[(8,(.setc z9 0 (pn (pc o5 15) (pc o3 19))))]⟩ [] 63 49 [(pc (.setc z9 0 (pn (pc o5 15) (pc o3 19))) 6),(pi 100001)]
 (.ite (.nt zS)
 (.ret pL)
 (.chk (.an (bP (pi 20) (pi 0)) (bl (pi 20) cj))
 (.chk (ab (pi 20) (pi 20))
 (.chk (af (.mlen (.con (.map []))) cj)
 (.chk (af (.mlen (.put (.con (.map [])) (pi 0) (pc o6 3))) cj)
 (.chk (af (.mlen (.put (.put (.con (.map [])) (pi 0) (pc o6 3)) (pi 1) (pc o6 14))) cj)
 (.chk (af (.mlen Uq) cj)
 (.chk (af (.mlen (.put Uq (pi 3) (pc o6 12))) cj)
 (.chk (af (.mlen Uf) cj)
 (.chk (af (.mlen (.put Uf (pi 5) (pc o3 21))) cj)
 (.blockS ⟨[(10,pN),(9,(.pick GH (be (pc o8 6) (pc o3 22)) (pi 0)))],[(90,(.tup [(.lst []),(.put (.put Uf (pi 5) (pc o3 21)) (pi 6) (.pick GH (be (pc o8 6) (pc o3 22)) (pi 0)))])),(10,(.rep (pi 20) cU))]⟩ 0 [] [10]
 (.brk ⟨[],[]⟩
(atM b)
 (.exit 0 ⟨[],[]⟩))
 (.call ⟨[],[(3,(au 24 o3))]⟩ [] 104 144 [(pc o5 16),(.clo 145 [(.ref (au 24 o3))])]
 (.call ⟨[(13,avQ)],[]⟩ [] 108 127 [(au 8 o2),(pc o6 9)]
 (.call ⟨[],[]⟩ [] 112 127 [(au 8 o2),(pc o6 10)]
 (.chk (af (.mlen (.con (.map []))) cj)
 (.chk (af (.mlen Ux) cj)
 (.chk (af (.mlen (.put Ux (pi 8) (ab (pc o6 2) (pi (-1))))) cj)
 (.chk (af (.mlen (.put (.put Ux (pi 8) (ab (pc o6 2) (pi (-1)))) (pi 9) (aH (.ai .and .i64 (pc o6 13) (pi 4)) (pi 0)))) cj)
 (.chk (af (.mlen MX) cj)
 (.chk (af (.mlen (.put MX (pi 11) (aH GP UA))) cj)
 (.chk (af (.mlen (.put (.put MX (pi 11) (aH GP UA)) (pi 12) dk)) cj)
 (.chk (af (.mlen ag5) cj)
 (.blockS ⟨[],[(139,(.tup [(.lst []),(.put ag5 (pi 14) (aR r9 (pi 0)))]))]⟩ 2 [] [10]
 (.brk ⟨[],[]⟩
(atN b)
 (.exit 2 ⟨[],[]⟩))
 (.call ⟨[],[]⟩ [] 154 147 [(au 19 o5),(pi 0),(pc o3 19)]
 (.chk (aj bM (pi 15))
 (.call ⟨[],[(10,(.setn bM (pi 15) 0 (.r 154)))]⟩ [] 160 147 [(au 19 o5),(pi 1),(pc o3 19)]
 (.chk (aj bM (pi 16))
 (.call ⟨[],[(10,(.setn bM (pi 16) 0 (.r 160)))]⟩ [] 166 147 [(au 19 o5),(pi 2),(pc o3 19)]
 (.chk (aj bM (pi 17))
 (.call ⟨[],[(10,(.setn bM (pi 17) 0 (.r 166)))]⟩ [] 171 147 [(au 19 o5),(pi 3),r7]
 (.chk (aj bM (pi 18))
 (.call ⟨[],[(10,(.setn bM (pi 18) 0 (.r 171)))]⟩ [] 176 147 [(au 19 o5),(pi 4),r7]
 (.chk (aj bM (pi 19))
 (.ret (.setn bM (pi 19) 0 (.r 176)))))))))))))))))))))))))))))))))))))))))
def an1:PT×List (Shp×PT):=(xD b,[(.ea [10],VI b),(.ea [10],VJ b)])
def Mu:Bp.map told=some (an1 (bf Bp)):=by kernel_rfl
def aAl:tree (ae Bp)=xD Eh:=bA Mu
def awO:rV [10] (Eh 0)=VI Eh:=Wk Mu 0 λ_=>rfl
def awP:rV [10] (Eh 1)=VJ Eh:=Wk Mu 1 λ_=>rfl
def J5:Option PC:=cF [3] [] Tryz.f145 145 [2]
def Ym:PT:=
 (.ret (bl lG (pc (.deref r1) 19)))
def afP:J5.map told=some (Ym,[]):=by kernel_rfl
def aAk:tree (ae J5)=Ym:=aO afP
def J8:Option PC:=cF [4] [] Tryz.f144 144 []
def Yq:PT:=
 (.call ⟨[],[]⟩ [] 7 164 [r0,r1]
 (.ret (bP r7 (pi 0))))
def afS:J8.map told=some (Yq,[]):=by kernel_rfl
def aAp:tree (ae J8)=Yq:=aO afS
def Br:Option PC:=cF [4,5] [] Tryz.f164 164 []
def PO:Nat->PC:=bk Br
def atw:PC:=.block 0 [4,8,9] [] (.loop [4,8] [] (b 0))
def HG (b:Nat->PC):PT:=
 (.ite (af r8 r7)
 (.blockS ⟨[],[]⟩ 1 [4,5,10,11,12,13,14,15,16] []
 (.chk (aj r0 r8)
 (.callc ⟨[(5,r8)],[]⟩ [] 16 r1 [(pn r0 r8)]
 (.ite dH
 (.ret r5)
 (.next ⟨[],[]⟩))))
 (.next ⟨[(8,nQ)],[]⟩))
 (.exit 0 ⟨[(9,(af r8 r7))],[]⟩))
def Yv:PT:=
 (.brk ⟨[(8,(pi 0)),(7,(.llen r0)),(4,(pi 0))],[]⟩
(atw b)
 (.ret (pi (-1))))
def an3:PT×List (Shp×PT):=(Yv b,[(.lp 0 [4,8,9] [] [4,8] [],HG b)])
def TK:Br.map told=some (an3 (bf Br)):=by kernel_rfl
def aAu:tree (ae Br)=Yv PO:=bA TK
def VK:round 0 [4,8,9] [] [4,8] [] (PO 0)=HG PO:=aT TK 0 λ_=>rfl
def J2:Option PC:=cF [4] [] Tryz.f127 127 [2]
def X9:PT:=
 (.call ⟨[],[(2,(.mk [r0]))]⟩ [] 9 101 [r1,(.llen oU)]
 (.ite (.nt r9)
 (.ret (pi (-1)))
 (.chk (aj (pc o2 1) r1)
 (.ret (pc (pn (pc o2 1) r1) 1)))))
def afM:J2.map told=some (X9,[]):=by kernel_rfl
def az7:tree (ae J2)=X9:=aO afM
def J6:Option PC:=cF [] [] Tryz.f146 146 [2]
def Yn:PT:=
 (.ite r0
 (.ret Uu)
 (.ret Uv))
def afQ:J6.map told=some (Yn,[]):=by kernel_rfl
def aAm:tree (ae J6)=Yn:=aO afQ
def Bo:Option PC:=cF [] [] Tryz.f147 147 [3,6,8]
def PN:Nat->PC:=bk Bo
def att:PC:=.block 0 [12,13] [6] (.loop [12] [6] (b 0))
def HF (b:Nat->PC):PT:=
 (.ite (af bG bK)
 (.blockS ⟨[],[]⟩ 1 [8,14,15,16,17,18,19,20,25] [8,6]
 (.chk (aj bI bG)
 (.iteS ⟨[],[(8,(.setc z3 0 (pn bI bG)))]⟩ (.pick (ab (pc (.setc z3 0 (pn bI bG)) 0) r1) (ab (pc (.setc z3 0 (pn bI bG)) 1) r2) pF) [] [6]
 (.call ⟨[],[]⟩ [] 29 146 [(aH (pc o8 2) (pi 0))]
 (.ret (.mk [(pc (.setc o6 0 lI) 0),(pc (.setc o6 0 lI) 1)])))
 (.next ⟨[],[]⟩)
 (.next ⟨[],[]⟩)))
 (.next ⟨[(12,(bt bG (pi 1)))],[]⟩))
 (.exit 0 ⟨[(13,(af bG bK))],[]⟩))
def Yl:PT:=
 (.brk ⟨[(12,(pi 0)),(11,(.llen vj)),(10,vj)],[(6,cU)]⟩
(att b)
 (.ret MT))
def an0:PT×List (Shp×PT):=(Yl b,[(.lp 0 [12,13] [6] [12] [6],HF b)])
def TJ:Bo.map told=some (an0 (bf Bo)):=by kernel_rfl
def aAj:tree (ae Bo)=Yl PN:=bA TJ
def VH:round 0 [12,13] [6] [12] [6] (PN 0)=HF PN:=aT TJ 0 λ_=>rfl
def I7:Option PC:=cF [2,3,4,11] [] Tryz.f113 113 []
def WO:PT:=
 (.blockS ⟨[],[]⟩ 0 [2,3,4,5,6,7,10,11,12,13,14] []
 (.iteS ⟨[],[]⟩ (.pick (af r0 (pi 0)) pT (bP r0 (pi 22))) [2,3,11,12,13,14] []
 (.ret (.tup [(pi 0),pF]))
 (.call ⟨[],[]⟩ [] 14 18 [(.lst [(pc tp 0),(pc tp 1),(pc tp 2),(pc tp 3),(pc tp 4),(pc tp 5),(pc tp 6),(pc tp 7),(pc tp 8),(pc tp 9)]),r0]
 (.ite bU
 (.ret (.tup [(pi 0),pT]))
 (.next ⟨[],[]⟩)))
 (.next ⟨[],[]⟩))
 (.ret (.tup [(pi 1),pT])))
def aeQ:I7.map told=some (WO,[]):=by kernel_rfl
def ayx:tree (ae I7)=WO:=aO aeQ
def Av:Option PC:=cF [8,9,11,12,13,14,55,70] [] Tryz.f115 115 [4,10,53]
def O4:Nat->PC:=bk Av
def asb:PC:=.block 0 [] [] (.loop [8,9,10] [10] (b 0))
def UU (b:Nat->PC):PT:=
 (.blockS ⟨[],[]⟩ 1 [8,9,10,11,12,13,14,32,33,35,36,37,38,39,40,41,42,43,44,45,46,49,50,52,53,54,55,56,57,58,68,70,71] [53,10]
 (.chk (aj bM (be (.llen bM) (pi 1)))
 (.call ⟨[(11,(pn bM (be (.llen bM) (pi 1))))],[]⟩ [] 41 129 [(au 8 o4),(pn bM (be (.llen bM) (pi 1))),r2,r3]
 (.ite (ab (.tget vp 0) bK)
 (.ret (.tup [bM,(pi 0)]))
 (.call ⟨[(13,(.tget vp 1)),(12,(.tget vp 0))],[]⟩ [] 50 18 [bM,(.tget vp 0)]
 (.chk (bl (.llen (.app bM (.lst [bG]))) cj)
 (.chk (.nt (.an (.an m4 (.an (.nt (.nt dk)) pT)) (.nt (aj (pc o4 4) bG))))
 (.ite (.pick (.nt dk) pT (.pick m4 (pc (pn (pc o4 4) bG) 1) pF))
 (.ret (.tup [(.app bM (.lst [bG])),(pi 0)]))
 (.ite m4
 (.ret (.tup [(.app bM (.lst [bG])),(pi 12)]))
 (.next ⟨[(10,pN)],[(10,(.app bM (.lst [bG])))]⟩)))))))))
 (.next ⟨[],[]⟩))
def Wv:PT:=
 (.call ⟨[(9,(pi 0)),(8,pL)],[(4,(.mk [r0]))]⟩ [] 19 128 [fN,r1,r2,r3]
 (.chk (.nt (.an (.an (.nt (.nt iY)) pT) (.nt (aj r3 (pi 0)))))
 (.ite (.pick (.nt iY) pT (aH (pn r3 (pi 0)) r1))
 (.ret (.tup [pL,(pi 1)]))
 (.brk ⟨[(10,pN)],[(10,(.lst [r1]))]⟩
(asb b)
 (.next ⟨[],[]⟩)))))
def am3:PT×List (Shp×PT):=(Wv b,[(.lp 0 [] [] [8,9,10] [10],UU b)])
def SX:Av.map told=some (am3 (bf Av)):=by kernel_rfl
def ayd:tree (ae Av)=Wv O4:=bA SX
def awL:round 0 [] [] [8,9,10] [10] (O4 0)=UU O4:=aT SX 0 λ_=>rfl
def IU:Option PC:=cF [8] [] Tryz.f128 128 [4,9]
def xA:PT:=
 (.ite (.pick (.pick (.pick (.pick (af r1 (pi 0)) pT (bP r1 (pc (.setc (.con (.agg [(.int 0)])) 0 (.llen (pc (.mk [r0]) 4))) 0))) pT (af r2 (pi 0))) pT (bP r2 (pi 22))) pT (aH (.llen r3) (pi 5)))
 (.ret pF)
 (.call ⟨[],[]⟩ [] 35 148 [r3,(.clo 149 [(.ref (pc (.setc (.con (.agg [(.int 0)])) 0 (.llen (pc (.mk [r0]) 4))) 0))])]
 (.ret (.nt tu))))
def aeC:IU.map told=some (xA,[]):=by kernel_rfl
def ayg:tree (ae IU)=xA:=aO aeC
def IV:Option PC:=cF [3] [] Tryz.f149 149 []
def Wx:PT:=
 (.ret (.pick (af r0 (pi 0)) pT (bP r0 (.deref r1))))
def aeD:IV.map told=some (Wx,[]):=by kernel_rfl
def ayf:tree (ae IV)=Wx:=aO aeD
def Ka:Option PC:=cF [4] [] Tryz.f148 148 []
def Ys:PT:=
 (.call ⟨[],[]⟩ [] 7 165 [r0,r1]
 (.ret (bP r7 (pi 0))))
def afU:Ka.map told=some (Ys,[]):=by kernel_rfl
def aAr:tree (ae Ka)=Ys:=aO afU
def Bu:Option PC:=cF [4,5] [] Tryz.f165 165 []
def PS:Nat->PC:=bk Bu
def atz:PC:=.block 0 [4,8,9] [] (.loop [4,8] [] (b 0))
def HJ (b:Nat->PC):PT:=
 (.ite (af r8 r7)
 (.blockS ⟨[],[]⟩ 1 [4,5,10,11,12,13,14,15,16] []
 (.chk (aj r0 r8)
 (.callc ⟨[(5,r8)],[]⟩ [] 16 r1 [(pn r0 r8)]
 (.ite dH
 (.ret r5)
 (.next ⟨[],[]⟩))))
 (.next ⟨[(8,nQ)],[]⟩))
 (.exit 0 ⟨[(9,(af r8 r7))],[]⟩))
def Yy:PT:=
 (.brk ⟨[(8,(pi 0)),(7,(.llen r0)),(4,(pi 0))],[]⟩
(atz b)
 (.ret (pi (-1))))
def an6:PT×List (Shp×PT):=(Yy b,[(.lp 0 [4,8,9] [] [4,8] [],HJ b)])
def TN:Bu.map told=some (an6 (bf Bu)):=by kernel_rfl
def aAx:tree (ae Bu)=Yy PS:=bA TN
def VN:round 0 [4,8,9] [] [4,8] [] (PS 0)=HJ PS:=aT TN 0 λ_=>rfl
def Aw:Option PC:=cF [8,9] [] Tryz.f129 129 [4,11]
def O5:Nat->PC:=bk Aw
def asc:PC:=.block 0 [8,9,25,26] [] (.loop [8,9,25] [] (b 0))
def GU (b:Nat->PC):PT:=
 (.ite (af eM oY)
 (.chk (aj mZ eM)
 (.ite (.pick (ab (pc GG 0) r2) (aH (pc GG 1) (pi 0)) pF)
 (.chk (aj r3 (pc GG 1))
 (.ret (.tup [(pn r3 (pc GG 1)),(pc GG 2)])))
 (.next ⟨[(25,(bt eM (pi 1)))],[]⟩)))
 (.exit 0 ⟨[(26,(af eM oY))],[]⟩))
def Ww:PT:=
 (.call ⟨[(9,pF),(8,(pi 0))],[(4,(.mk [r0]))]⟩ [] 16 128 [fN,r1,r2,r3]
 (.ite (.nt dH)
 (.ret (.tup [(pi (-1)),pF]))
 (.chk (aj (pc o4 4) r1)
 (.brk ⟨[(25,(pi 0)),(24,(.llen (pc (pn (pc o4 4) r1) 2))),(23,(pc (pn (pc o4 4) r1) 2))],[]⟩
(asc b)
 (.ret (.tup [r1,pF]))))))
def am4:PT×List (Shp×PT):=(Ww b,[(.lp 0 [8,9,25,26] [] [8,9,25] [],GU b)])
def SY:Aw.map told=some (am4 (bf Aw)):=by kernel_rfl
def aye:tree (ae Aw)=Ww O5:=bA SY
def UW:round 0 [8,9,25,26] [] [8,9,25] [] (O5 0)=GU O5:=aT SY 0 λ_=>rfl
def I6:Option PC:=cF [7,9,11,12] [] Tryz.f90 90 [3,6,8,10]
def WN:PT:=
 (.call ⟨[],[(6,cU)]⟩ [] 16 116 [(au 4 (.mk [r0])),r1]
 (.ite (aH (.tget dH 1) (pi 0))
 (.ret (.tup [MT,(.tget dH 1)]))
 (.call ⟨[],[]⟩ [] 25 117 [(.mk [(pc (.setc nO 0 (.tget dH 0)) 0),(pc (.setc nO 0 (.tget dH 0)) 1),(pc (.setc nO 0 (.tget dH 0)) 2)]),r2]
 (.call ⟨[],[(10,(.setc cU 0 eM))]⟩ [] 28 113 [r1]
 (.ret (.tup [(.mk [(pc (.setc o6 0 (.mk [(pc MR 0),(pc MR 1)])) 0),(pc (.setc o6 0 (.mk [(pc MR 0),(pc MR 1)])) 1)]),(pi 0)]))))))
def aeP:I6.map told=some (WN,[]):=by kernel_rfl
def ayw:tree (ae I6)=WN:=aO aeP
def I8:Option PC:=cF [5,6,7,8,10,11] [] Tryz.f116 116 [2,3,4,12292,9]
def WQ:PT:=
 (.call ⟨[],[(4,nO),(3,(.mk [r1])),(2,(.mk [r0]))]⟩ [] 14 113 [(pc (.mk [r1]) 0)]
 (.ite (.nt (.tget bU 1))
 (.ret (.tup [Ut,(pi 1)]))
 (.call ⟨[(6,(.tget bU 0))],[]⟩ [] 23 130 [(pc o2 3),(.clo 131 [(.ref (pc o3 0))])]
 (.ite (af mZ (pi 0))
 (.ret (.tup [Ut,(pi 4)]))
 (.chk (aj (pc o2 3) mZ)
 (.call ⟨[],[(9,MY)]⟩ [] 35 132 [(.mk [(pc MY 0),(pc MY 1),(pc MY 2)])]
 (.ite (.pick (aH (.tget tu 1) (pi 0)) pT (aH (.tget tu 0) r6))
 (.ret (.tup [Ut,(pi 11)]))
 (.ret (.tup [(.mk [(pc Ui 0),(pc Ui 1),(pc Ui 2)]),(pi 0)])))))))))
def aeR:I8.map told=some (WQ,[]):=by kernel_rfl
def ayz:tree (ae I8)=WQ:=aO aeR
def I9:Option PC:=cF [3] [] Tryz.f131 131 [2]
def WR:PT:=
 (.ret (ab lG (.deref r1)))
def aeS:I9.map told=some (WR,[]):=by kernel_rfl
def ayy:tree (ae I9)=WR:=aO aeS
def Bt:Option PC:=cF [4,5] [] Tryz.f130 130 []
def PR:Nat->PC:=bk Bt
def aty:PC:=.block 0 [4,8,9] [] (.loop [4,8] [] (b 0))
def HI (b:Nat->PC):PT:=
 (.ite (af r8 r7)
 (.blockS ⟨[],[]⟩ 1 [4,5,10,11,12,13,14,15,16] []
 (.chk (aj r0 r8)
 (.callc ⟨[(5,r8)],[]⟩ [] 16 r1 [(pn r0 r8)]
 (.ite dH
 (.ret r5)
 (.next ⟨[],[]⟩))))
 (.next ⟨[(8,nQ)],[]⟩))
 (.exit 0 ⟨[(9,(af r8 r7))],[]⟩))
def Yx:PT:=
 (.brk ⟨[(8,(pi 0)),(7,(.llen r0)),(4,(pi 0))],[]⟩
(aty b)
 (.ret (pi (-1))))
def an5:PT×List (Shp×PT):=(Yx b,[(.lp 0 [4,8,9] [] [4,8] [],HI b)])
def TM:Bt.map told=some (an5 (bf Bt)):=by kernel_rfl
def aAw:tree (ae Bt)=Yx PR:=bA TM
def VM:round 0 [4,8,9] [] [4,8] [] (PR 0)=HI PR:=aT TM 0 λ_=>rfl
def Kd:Option PC:=cF [2,3] [] Tryz.f132 132 [1]
def YB:PT:=
 (.call ⟨[],[(1,(.mk [r0]))]⟩ [] 5 150 [GJ,(pi 1)]
 (.ite (aR r5 (pi 60))
 (.ret (.tup [(pi 0),(pi 6)]))
 (.call ⟨[],[]⟩ [] 8 151 [MN]
 (.ret (.tup [(.tget r8 0),(.tget r8 1)])))))
def afX:Kd.map told=some (YB,[]):=by kernel_rfl
def aAA:tree (ae Kd)=YB:=aO afX
def yg:Option PC:=cF [4,5] [] Tryz.f150 150 [2,7,12295]
def PX:Nat->PC:=bk yg
def atH:PC:=.block 0 [5,13,14] [] (.loop [5,13] [] (b 0))
def HO (b:Nat->PC):PT:=
 (.ite (af dk bG)
 (.blockS ⟨[(14,(af dk bG))],[]⟩ 1 [5,7,15,16,17,18,19,20,21,22,23,24] [7,12295]
 (.chk (aj bK dk)
 (.call ⟨[(17,r5)],[]⟩ [] 21 150 [(.mk [(pc (.setc nO 0 (pn bK dk)) 0),(pc (.setc nO 0 (pn bK dk)) 1),(pc (.setc nO 0 (pn bK dk)) 2)]),(bt r1 (pi 1))]
 (.ite (aR (bt kT mY) (pi 60))
 (.exit 0 ⟨[(5,(bt kT mY))],[]⟩)
 (.next ⟨[(5,(bt kT mY))],[]⟩))))
 (.next ⟨[(13,(bt dk (pi 1)))],[]⟩))
 (.exit 0 ⟨[(14,(af dk bG))],[]⟩))
def Oj:PT:=
 (.ite (aR r1 (pi 8))
 (.ret (pi 61))
 (.brk ⟨[(13,(pi 0)),(12,rH),(11,xe),(5,(pi 1))],[]⟩
(atH b)
 (.ret r5)))
def aob:PT×List (Shp×PT):=(Oj b,[(.lp 0 [5,13,14] [] [5,13] [],HO b)])
def TR:yg.map told=some (aob (bf yg)):=by kernel_rfl
def aiW:tree (ae yg)=Oj PX:=bA TR
def VS:round 0 [5,13,14] [] [5,13] [] (PX 0)=HO PX:=aT TR 0 λ_=>rfl
def Bx:Option PC:=cF [2,3,5,7,8,38,47,10,11,12] [] Tryz.f151 151 [1,4,6,12294,9]
def Ej:Nat->PC:=bk Bx
def atD:PC:=.block 0 [2,3,20,21] [4] (.loop [2,3,20] [4] (b 0))
def atE:PC:=.block 3 [2,3,10,82,83] [] (.loop [2,3,10,82] [] (b 1))
def HM (b:Nat->PC):PT:=
 (.ite (af eD iY)
 (.blockS ⟨[],[]⟩ 1 [2,3,5,6,7,8,22,23,24,25,26,27,28,29,30,31,33,34,35,36] [6,12294,4]
 (.chk (aj ju eD)
 (.call ⟨[(5,eD)],[]⟩ [] 27 151 [(.mk [(pc (.setc nO 0 (pn ju eD)) 0),(pc (.setc nO 0 (pn ju eD)) 1),(pc (.setc nO 0 (pn ju eD)) 2)])]
 (.ite (aH (.tget gd 1) (pi 0))
 (.ret (.tup [(pi 0),(.tget gd 1)]))
 (.chk (aj o4 r5)
 (.next ⟨[],[(4,(.setn o4 r5 0 (.tget gd 0)))]⟩)))))
 (.next ⟨[(20,(bt eD (pi 1)))],[]⟩))
 (.exit 0 ⟨[(21,(af eD iY))],[]⟩))
def xo (b:Nat->PC):PT:=
 (.ite (af mm xj)
 (.chk (aj tz mm)
 (.ite (.pick (ab (pn tz mm) (pi (-1))) (ab bI (pi (-1))) pF)
 (.chk (aj o4 mm)
 (.ite (aH (pn o4 mm) (.pick (ab (pn tz mm) (pi (-1))) (pn o4 mm) (pn tz mm)))
 (.ret (.tup [(pi 0),(pi 11)]))
 (.next ⟨[(10,(pn o4 mm)),(82,(bt mm (pi 1)))],[]⟩)))
 (.chk (aj o4 mm)
 (.ite (aH (pn o4 mm) (.pick (ab (pn tz mm) (pi (-1))) bI (pn tz mm)))
 (.ret (.tup [(pi 0),(pi 11)]))
 (.next ⟨[(82,(bt mm (pi 1)))],[]⟩)))))
 (.exit 3 ⟨[(83,(af mm xj))],[]⟩))
def YG:PT:=
 (.chk (.an (bP rH (pi 0)) (bl rH cj))
 (.chk (ab rH rH)
 (.brk ⟨[(20,(pi 0)),(19,rH),(18,xe),(4,pN),(3,(pi 0)),(2,(pi 0))],[(4,(.rep rH (pi 0))),(1,(.mk [r0]))]⟩
(atD b)
 (.blockS ⟨[],[]⟩ 2 [2,3,38,39,40,41,42,46,47,48,49,50,51,55,56,60] []
 (.iteS ⟨[],[]⟩ (.pick (af (pc o1 0) (pi 0)) pT (aR (pc o1 0) (pi 13))) [2,3,47,48,49,50,51,55,56,60] []
 (.ret (.tup [(pi 0),(pi 1)]))
 (.iteS ⟨[],[]⟩ (.pick (.pick (ab (pc o1 0) (pi 0)) pT (ab (pc o1 0) (pi 1))) pT (ab (pc o1 0) (pi 2))) [2,3] []
 (.call ⟨[],[]⟩ [] 62 166 [MN]
 (.ret (.tup [(.tget m6 0),(.tget m6 1)])))
 (.next ⟨[],[]⟩)
 (.next ⟨[],[]⟩))
 (.next ⟨[],[]⟩))
 (.call ⟨[],[]⟩ [] 67 167 [(pc o1 0)]
 (.ite (.pick (aH (.llen o4) (.llen (pc (.setc mh 0 qt) 0))) pT (aH (pc o1 1) (pi 0)))
 (.ret (.tup [(pi 0),(pi 2)]))
 (.brk ⟨[(82,(pi 0)),(81,(.llen (pc (.setc mh 0 qt) 0))),(80,(pc (.setc mh 0 qt) 0)),(10,(pi (-1)))],[(9,(.setc mh 0 qt))]⟩
(atE b)
 (.ite (ab (pc o9 1) (pi (-1)))
 (.ret (.tup [bI,(pi 0)]))
 (.ret (.tup [(pc o9 1),(pi 0)]))))))))))
def an9:PT×List (Shp×PT):=(YG b,[(.lp 0 [2,3,20,21] [4] [2,3,20] [4],HM b),(.lp 3 [2,3,10,82,83] [] [2,3,10,82] [],xo b)])
def Mw:Bx.map told=some (an9 (bf Bx)):=by kernel_rfl
def aAE:tree (ae Bx)=YG Ej:=bA Mw
def VQ:round 0 [2,3,20,21] [4] [2,3,20] [4] (Ej 0)=HM Ej:=aT Mw 0 λ_=>rfl
def Ds:round 3 [2,3,10,82,83] [] [2,3,10,82] [] (Ej 1)=xo Ej:=aT Mw 1 λ_=>rfl
def Kj:Option PC:=cF [2,3,12,20,4,5] [] Tryz.f166 166 [1]
def YJ:PT:=
 (.ite (aR rH (pi 0))
 (.ret (.tup [(pi 0),(pi 2)]))
 (.blockS ⟨[(11,lG)],[(1,(.mk [r0]))]⟩ 0 [2,3,12,13,20,21] []
 (.iteS ⟨[],[]⟩ (ab bK (pi 0)) [2,3,20,21] []
 (.call ⟨[],[]⟩ [] 16 170 [(pc o1 1)]
 (.ite (aH dH (pc o1 1))
 (.ret (.tup [(pi 0),(pi 3)]))
 (.ret (.tup [(pi 0),(pi 0)]))))
 (.ite (ab bK (pi 1))
 (.ite (.pick (af (pc o1 1) (pi 0)) pT (aR (pc o1 1) (pi 1)))
 (.ret (.tup [(pi 0),(pi 3)]))
 (.ret (.tup [(pi 1),(pi 0)])))
 (.next ⟨[],[]⟩))
 (.next ⟨[],[]⟩))
 (.call ⟨[],[]⟩ [] 33 168 [(pc o1 1)]
 (.ite (.nt (.tget vn 1))
 (.ret (.tup [(pi 0),(pi 10)]))
 (.ret (.tup [(.tget vn 0),(pi 0)]))))))
def af3:Kj.map told=some (YJ,[]):=by kernel_rfl
def aAH:tree (ae Kj)=YJ:=aO af3
def Ki:Option PC:=cF [2] [] Tryz.f170 170 []
def YI:PT:=
 (.ret (.mn (.mx r0 (pi (-1099511627776))) lF))
def af2:Ki.map told=some (YI,[]):=by kernel_rfl
def aAG:tree (ae Ki)=YI:=aO af2
def Kf:Option PC:=cF [2,3,4,11] [] Tryz.f168 168 []
def YD:PT:=
 (.ite (.pick (af r0 (pi 0)) pT (aR r0 (pi 19)))
 (.ret (.tup [(pi 0),pF]))
 (.ite (af r0 (pi 7))
 (.ret (.tup [(pi 0),pT]))
 (.ret (.tup [(pi 1),pT]))))
def afZ:Kf.map told=some (YD,[]):=by kernel_rfl
def aAC:tree (ae Kf)=YD:=aO afZ
def Km:Option PC:=cF [4,8,13,17,21] [] Tryz.f167 167 [2]
def YM:PT:=
 (.ite (ab r0 (pi 3))
 (.ret (.mk [(pc (.setc mh 0 (.mk [(.lst [(pi 1)]),(pi 1)])) 0),(pc (.setc mh 0 (.mk [(.lst [(pi 1)]),(pi 1)])) 1)]))
 (.ite (.pick (ab r0 (pi 4)) (ab r0 (pi 4)) (ab r0 (pi 5)))
 (.ret (.mk [(pc (.setc mh 0 (.mk [(.lst [(pi 1),(pi 1)]),(pi 1)])) 0),(pc (.setc mh 0 (.mk [(.lst [(pi 1),(pi 1)]),(pi 1)])) 1)]))
 (.ite (ab r0 (pi 6))
 (.ret (.mk [(pc (.setc mh 0 (.mk [(.lst [(pi 1),(pi (-1)),(pi (-1))]),(pi (-1))])) 0),(pc (.setc mh 0 (.mk [(.lst [(pi 1),(pi (-1)),(pi (-1))]),(pi (-1))])) 1)]))
 (.ite (ab r0 (pi 7))
 (.ret (.mk [(pc (.setc mh 0 (.mk [(.lst [(pi 0),(pi 0)]),(pi 1)])) 0),(pc (.setc mh 0 (.mk [(.lst [(pi 0),(pi 0)]),(pi 1)])) 1)]))
 (.ite (ab r0 (pi 8))
 (.ret (.mk [(pc (.setc mh 0 (.mk [(.lst [(pi (-1)),(pi (-1))]),(pi 1)])) 0),(pc (.setc mh 0 (.mk [(.lst [(pi (-1)),(pi (-1))]),(pi 1)])) 1)]))
 (.ret (.mk [(pc (.setc mh 0 (.mk [(.lst [(pi 0),(pi 0)]),(pi 0)])) 0),(pc (.setc mh 0 (.mk [(.lst [(pi 0),(pi 0)]),(pi 0)])) 1)])))))))
def af6:Km.map told=some (YM,[]):=by kernel_rfl
def aAL:tree (ae Km)=YM:=aO af6
def Ke:Option PC:=cF [5,6,8] [] Tryz.f117 117 [2,4,7]
def YC:PT:=
 (.call ⟨[],[(4,cU),(2,(.mk [r0]))]⟩ [] 11 132 [GJ]
 (.ite (aH (.tget bK 1) (pi 0))
 (.ret vc)
 (.call ⟨[],[]⟩ [] 21 133 [(.mk [r1]),(.mk [(pc o2 0),(pc o2 1),(pc o2 2)])]
 (.ret (.mk [(pc agN 0),(pc agN 1)])))))
def afY:Ke.map told=some (YC,[]):=by kernel_rfl
def aAB:tree (ae Ke)=YC:=aO afY
def By:Option PC:=cF [5,15,21,9,11] [] Tryz.f133 133 [2,3,4,6,33,7,8,10,12298,12]
def PW:Nat->PC:=bk By
def atG:PC:=.block 1 [45,46] [7,8] (.loop [45] [7,8] (b 0))
def HN (b:Nat->PC):PT:=
 (.ite (af pf zQ)
 (.blockS ⟨[],[]⟩ 2 [9,10,47,48,49,50,51,52,53,54,55,56,57,58,59,60,61] [10,12298,8,7]
 (.chk (aj vq pf)
 (.call ⟨[(54,pf),(52,pf)],[]⟩ [] 57 133 [(.mk [(pc o2 0)]),(.mk [(pc (.setc nO 0 (pn vq pf)) 0),(pc (.setc nO 0 (pn vq pf)) 1),(pc (.setc nO 0 (pn vq pf)) 2)])]
 (.chk (aj o7 Da)
 (.chk (aj o8 rO)
 (.next ⟨[],[(8,(.setn o8 rO 0 (.tget Db 1))),(7,(.setn o7 Da 0 (.tget Db 0)))]⟩)))))
 (.next ⟨[(45,(bt pf (pi 1)))],[]⟩))
 (.exit 1 ⟨[(46,(af pf zQ))],[]⟩))
def H9:PT:=
 (.blockS ⟨[(14,(pc (.mk [r1]) 0))],[(4,cU),(3,(.mk [r1])),(2,(.mk [r0]))]⟩ 0 [5,15,16,21,22] [4]
 (.iteS ⟨[],[]⟩ (.pick (ab bU (pi 0)) (ab bU (pi 0)) (ab bU (pi 1))) [5,21,22] [4]
 (.ret (.tup [(.mk [(pc (.setc o4 0 (.mk [pT,(pc o3 1)])) 0),(pc (.setc o4 0 (.mk [pT,(pc o3 1)])) 1)]),pL]))
 (.iteS ⟨[],[]⟩ (ab bU (pi 2)) [5] [4]
 (.call ⟨[],[]⟩ [] 26 152 [(.mk [(pc o2 0)]),(pc o3 1)]
 (.ite (pc zC 0)
 (.ret (.tup [(.mk [(pc (.setc o4 0 (.mk [(pc zC 0),(pc zC 1)])) 0),(pc (.setc o4 0 (.mk [(pc zC 0),(pc zC 1)])) 1)]),pL]))
 (.ret (.tup [vc,(.lst [(pc o3 1)])]))))
 (.next ⟨[],[]⟩)
 (.next ⟨[],[]⟩))
 (.next ⟨[],[]⟩))
 (.chk (.an (bP qm (pi 0)) (bl qm cj))
 (.chk (ab qm qm)
 (.brk ⟨[(45,(pi 0)),(44,qm),(43,(pc o3 2)),(8,pN),(7,pN)],[(8,(.rep qm pL)),(7,(.rep qm cU))]⟩
(atG b)
 (.chk (.nt (.an (.an (ab (pc o3 0) (pi 6)) pT) (.nt (aj o7 (pi 0)))))
 (.ite (.pick (ab (pc o3 0) (pi 6)) (pc (pn o7 (pi 0)) 0) pF)
 (.chk (aj o7 (pi 0))
 (.chk (aj o7 GN)
 (.chk (aj o8 GN)
 (.ret (.tup [(.mk [(pc (.setc o4 0 (.sub (pn o7 GN) 0 2)) 0),(pc (.setc o4 0 (.sub (pn o7 GN) 0 2)) 1)]),(pn o8 GN)])))))
 (.call ⟨[],[]⟩ [] 88 153 [(pc o3 0),o7]
 (.ite (pc (.setc cU 0 De) 0)
 (.ret (.tup [(.mk [(pc (.setc o4 0 (.mk [(pc (.setc cU 0 De) 0),(pc (.setc cU 0 De) 1)])) 0),(pc (.setc o4 0 (.mk [(pc (.setc cU 0 De) 0),(pc (.setc cU 0 De) 1)])) 1)]),pL]))
 (.call ⟨[(92,(.mk [pF,(pi 0)]))],[]⟩ [] 94 154 [o8]
 (.ret (.tup [(.mk [(pc (.setc o4 0 r92) 0),(pc (.setc o4 0 r92) 1)]),r94])))))))))))
def aoa:PT×List (Shp×PT):=(H9 b,[(.lp 1 [45,46] [7,8] [45] [7,8],HN b)])
def TQ:By.map told=some (aoa (bf By)):=by kernel_rfl
def aAI:tree (ae By)=H9 PW:=bA TQ
def VR:round 1 [45,46] [7,8] [45] [7,8] (PW 0)=HN PW:=aT TQ 0 λ_=>rfl
def Kk:Option PC:=cF [5,6] [] Tryz.f152 152 [2,4]
def YK:PT:=
 (.chk (.nt (.an (.an (.nt (bP r1 (.llen lG))) pT) (.nt (aj lG r1))))
 (.ite (.pick (bP r1 (.llen lG)) pT (.nt (pc (pn lG r1) 0)))
 (.ret MS)
 (.call ⟨[],[(4,cU),(2,(.mk [r0]))]⟩ [] 24 168 [r1]
 (.iteS ⟨[],[]⟩ (ab (.tget oY 0) (pi 1)) [] [4]
 (.chk (aj (pc o2 0) r1)
 (.call ⟨[],[]⟩ [] 36 169 [(aH (pc (pn (pc o2 0) r1) 1) (pi 0))]
 (.ret (.mk [(pc (.setc o4 0 nR) 0),(pc (.setc o4 0 nR) 1)]))))
 (.next ⟨[],[]⟩)
 (.chk (aj (pc o2 0) r1)
 (.call ⟨[],[]⟩ [] 43 170 [(pc (pn (pc o2 0) r1) 1)]
 (.ret (.mk [(pc (.setc o4 0 (.mk [pT,vq])) 0),(pc (.setc o4 0 (.mk [pT,vq])) 1)]))))))))
def af4:Kk.map told=some (YK,[]):=by kernel_rfl
def aAJ:tree (ae Kk)=YK:=aO af4
def Ko:Option PC:=cF [] [] Tryz.f169 169 [2]
def YN:PT:=
 (.ite r0
 (.ret Uu)
 (.ret Uv))
def af7:Ko.map told=some (YN,[]):=by kernel_rfl
def aAM:tree (ae Ko)=YN:=aO af7
def Kh:Option PC:=cF [9,22,41,6,7,82,88,94] [] Tryz.f153 153 [4,5]
def YH:PT:=
 (.blockS ⟨[(8,r0)],[(4,cU)]⟩ 0 [9,10,22,23] [4]
 (.iteS ⟨[],[]⟩ (ab r8 (pi 3)) [22,23] [4]
 (.chk tn
 (.iteS ⟨[],[]⟩ (pc oV 0) [] [4]
 (.chk tn
 (.call ⟨[],[]⟩ [] 20 169 [(ab (pc oV 1) (pi 0))]
 (.ret (.mk [(pc (.setc o4 0 eD) 0),(pc (.setc o4 0 eD) 1)]))))
 (.next ⟨[],[]⟩)
 (.ret vc)))
 (.iteS ⟨[],[]⟩ (.pick (ab r8 (pi 4)) (ab r8 (pi 4)) (ab r8 (pi 5))) [] [4]
 (.call ⟨[],[]⟩ [] 27 169 [(ab r0 (pi 5))]
 (.chk tn
 (.chk (.nt (.an (.an (.nt agO) pT) (.nt rL)))
 (.ite (.pick agO pT (.an (.cb .eql (pc lH 0) (pc C4 0)) (.an (ab (pc lH 1) (pc C4 1)) pT)))
 (.ret (.mk [(pc (.setc o4 0 C4) 0),(pc (.setc o4 0 C4) 1)]))
 (.next ⟨[],[]⟩)))))
 (.ite (ab r8 (pi 6))
 (.chk rL
 (.chk (.nt (.an (.an (pc lH 0) pT) (.nt rL)))
 (.chk (.nt (.an (.an (pc lH 0) pT) (.nt (aj r1 (pi 2)))))
 (.ite (.pick (pc lH 0) (.an (.cb .eql (pc lH 0) (pc (pn r1 (pi 2)) 0)) (.an (ab (pc lH 1) (pc (pn r1 (pi 2)) 1)) pT)) pF)
 (.ret (.mk [(pc (.setc o4 0 lH) 0),(pc (.setc o4 0 lH) 1)]))
 (.ret vc)))))
 (.next ⟨[],[]⟩))
 (.next ⟨[],[]⟩))
 (.next ⟨[],[]⟩))
 (.chk tn
 (.chk (.nt (.an (.an (.nt (.nt (pc oV 0))) pT) (.nt rL)))
 (.ite (.pick (.nt (pc oV 0)) pT (.nt (pc lH 0)))
 (.ret vc)
 (.chk rL
 (.blockS ⟨[(81,r0),(7,(pc lH 1)),(6,(pc oV 1))],[]⟩ 1 [82,83,88,89,94,95] [4]
 (.iteS ⟨[],[]⟩ (.pick (ab xj (pi 4)) (ab xj (pi 4)) (ab xj (pi 5))) [88,89,94,95] [4]
 (.call ⟨[],[]⟩ [] 87 169 [(ab r0 (pi 4))]
 (.ret (.mk [(pc (.setc o4 0 M4) 0),(pc (.setc o4 0 M4) 1)])))
 (.iteS ⟨[],[]⟩ (ab xj (pi 7)) [94,95] [4]
 (.call ⟨[],[]⟩ [] 93 169 [(af r6 r7)]
 (.ret (.mk [(pc (.setc o4 0 M5) 0),(pc (.setc o4 0 M5) 1)])))
 (.iteS ⟨[],[]⟩ (ab xj (pi 8)) [] [4]
 (.call ⟨[],[]⟩ [] 99 169 [(ab r6 r7)]
 (.ret (.mk [(pc (.setc o4 0 M6) 0),(pc (.setc o4 0 M6) 1)])))
 (.next ⟨[],[]⟩)
 (.next ⟨[],[]⟩))
 (.next ⟨[],[]⟩))
 (.next ⟨[],[]⟩))
 (.call ⟨[],[]⟩ [] 103 171 [r0,r6,r7]
 (.ret (.mk [(pc (.setc o4 0 (.mk [pT,ag9])) 0),(pc (.setc o4 0 (.mk [pT,ag9])) 1)])))))))))
def af1:Kh.map told=some (YH,[]):=by kernel_rfl
def aAF:tree (ae Kh)=YH:=aO af1
def Kg:Option PC:=cF [6,8,14,20,25] [] Tryz.f171 171 []
def YE:PT:=
 (.blockS ⟨[(7,r0)],[]⟩ 0 [6,8,9,14,15,20,21,25,26] []
 (.iteS ⟨[],[]⟩ (ab r7 (pi 9)) [6,14,15,20,21,25,26] []
 (.call ⟨[],[]⟩ [] 13 170 [(bt r1 r2)]
 (.ret dk))
 (.iteS ⟨[],[]⟩ (ab r7 (pi 10)) [6,20,21,25,26] []
 (.call ⟨[],[]⟩ [] 19 170 [(be r1 r2)]
 (.ret iY))
 (.iteS ⟨[],[]⟩ (ab r7 (pi 11)) [6,25,26] []
 (.call ⟨[],[]⟩ [] 24 177 [r1,r2]
 (.ret oY))
 (.ite (ab r7 (pi 12))
 (.ret (.mn r1 r2))
 (.next ⟨[],[]⟩))
 (.next ⟨[],[]⟩))
 (.next ⟨[],[]⟩))
 (.next ⟨[],[]⟩))
 (.ret (.mx r1 r2)))
def af0:Kg.map told=some (YE,[]):=by kernel_rfl
def aAD:tree (ae Kg)=YE:=aO af0
def Kl:Option PC:=cF [4,5,6,7] [] Tryz.f177 177 []
def YL:PT:=
 (.call ⟨[],[]⟩ [] 19 185 [(.conv .u64 (.mx r0 (be (pi 0) r0))),(.conv .u64 (.mx r1 (be (pi 0) r1)))]
 (.ite (.cb .neq (af r0 (pi 0)) (af r1 (pi 0)))
 (.ret (be (pi 0) agW))
 (.ret agW)))
def af5:Kl.map told=some (YL,[]):=by kernel_rfl
def aAK:tree (ae Kl)=YL:=aO af5
def IQ:Option PC:=cF [4,5,6,7,8,9,10,11,12,13] [] Tryz.f185 185 []
def Wr:PT:=
 (.chk (bP C8 (pi 0))
 (.ret (.tup [(.ai .add .u64 (.ai .add .u64 (.ai .mul .u64 (.ai .shr .u64 r0 C8) (.ai .shr .u64 r1 C8)) (.ai .shr .u64 agT C8)) (.ai .shr .u64 (.ai .add .u64 (.ai .and .u64 agT (.con (.v (.int .u64 4294967295)))) (.ai .mul .u64 (.ai .and .u64 r0 (.con (.v (.int .u64 4294967295)))) (.ai .shr .u64 r1 C8))) C8)),(.ai .mul .u64 r0 r1)])))
def aez:IQ.map told=some (Wr,[]):=by kernel_rfl
def ax9:tree (ae IQ)=Wr:=aO aez
def Bq:Option PC:=cF [2,3,5,8] [] Tryz.f154 154 [6]
def Ei:Nat->PC:=bk Bq
def atu:PC:=.block 0 [3,11,12] [] (.loop [3,11] [] (b 0))
def atv:PC:=.block 2 [6,27,28] [6] (.loop [6,27] [6] (b 1))
def NA (b:Nat->PC):PT:=
 (.ite (af bK bI)
 (.chk (aj r9 bK)
 (.ite (af (bt r3 (.llen (pn r9 bK))) (pi 0))
 (.chk (.nt pT)
 (.chk (.nt pT)
 (.next ⟨[(3,(bt r3 (.llen (pn r9 bK)))),(11,(bt bK (pi 1)))],[]⟩)))
 (.next ⟨[(3,(bt r3 (.llen (pn r9 bK)))),(11,(bt bK (pi 1)))],[]⟩)))
 (.exit 0 ⟨[(12,(af bK bI))],[]⟩))
def NB (b:Nat->PC):PT:=
 (.ite (af gd kU)
 (.chk (aj eM gd)
 (.chk (bl (.llen (.app o6 (pn eM gd))) cj)
 (.next ⟨[(6,pN),(27,(bt gd (pi 1)))],[(6,(.app o6 (pn eM gd)))]⟩)))
 (.exit 2 ⟨[(28,(af gd kU))],[]⟩))
def Yp:PT:=
 (.brk ⟨[(11,(pi 0)),(10,(.llen r0)),(9,r0),(3,(pi 0))],[]⟩
(atu b)
 (.call ⟨[],[]⟩ [] 24 172 [pL,r3]
 (.brk ⟨[(27,(pi 0)),(26,(.llen r0)),(25,r0),(6,pN)],[(6,oY)]⟩
(atv b)
 (.ret o6))))
def an2:PT×List (Shp×PT):=(Yp b,[(.lp 0 [3,11,12] [] [3,11] [],NA b),(.lp 2 [6,27,28] [6] [6,27] [6],NB b)])
def Mv:Bq.map told=some (an2 (bf Bq)):=by kernel_rfl
def aAo:tree (ae Bq)=Yp Ei:=bA Mv
def ahU:round 0 [3,11,12] [] [3,11] [] (Ei 0)=NA Ei:=aT Mv 0 λ_=>rfl
def ahV:round 2 [6,27,28] [6] [6,27] [6] (Ei 1)=NB Ei:=aT Mv 1 λ_=>rfl
def IK:Option PC:=cF [2] [] Tryz.f35 35 [1]
def Wn:PT:=
 (.ite (.pick (aH (pc (.mk [r0]) 4) (pi 0)) pT (.nt lG))
 (.ret (pi (-1)))
 (.ret oU))
def aeu:IK.map told=some (Wn,[]):=by kernel_rfl
def ax4:tree (ae IK)=Wn:=aO aeu
def Bz:Option PC:=cF [10] [] Tryz.f16 16 [3,6,7,4103,24583,8,9,11,47]
def IA:Nat->PC:=bk Bz
def aaN:PC:=.each UL [30,31] [11,4103,24583,7] none (b 0)
def VT (b:Nat->PC):PT:=
 (.blockS ⟨[(11,pN),(10,m0)],[(11,(.setc z9 0 rM)),(11,z9)]⟩ 1 [32,33,34,35,41,44,46,47,48,49,50,51,52,53,54,55,56,57,58,59,60,61,62,63,64,69] [47,4103,24583,7]
 (.ite Ug
 (.exit 0 ⟨[(43,pN),(42,bI),(41,Ug),(40,(aH (pc gD 2) (pc o7 1))),(39,(pc o7 1)),(38,pN),(37,(pc gD 2)),(36,pN),(35,(.nt (pc o7 3))),(34,(.nt (pc o7 3))),(33,(pc o7 3)),(32,pN)],[(7,(.setc o7 2 bI))]⟩)
 (.chk (bl (.llen (.app (.o 4103) (.lst [bI]))) cj)
 (.call ⟨[(58,(pc gD 8)),(57,pN),(56,(pc (.setc o7 0 pN) 4)),(55,pN),(54,(ab (pc gD 4) (pi (-1)))),(53,(pc gD 4)),(52,pN),(51,(pc gD 4)),(50,pN),(49,pN),(48,pN),(47,pN),(46,bI),(45,pN),(44,pN),(41,Ug),(40,(aH (pc gD 2) (pc o7 1))),(39,(pc o7 1)),(38,pN),(37,(pc gD 2)),(36,pN),(35,(.nt (pc o7 3))),(34,(.nt (pc o7 3))),(33,(pc o7 3)),(32,pN)],[(7,(.setc o7 0 pN)),(4103,(.app (.o 4103) (.lst [bI]))),(47,(.lst [bI])),(7,o7)]⟩ [] 59 48 [(pc (.setc o7 0 pN) 4),(pc gD 8)]
 (.ite (.pick (pc o9 0) GI pF)
 (.chk (bl (.llen (.app (.o 24583) (.lst [bI]))) cj)
 (.next ⟨[(69,(.pick (pc o9 0) GI pF)),(68,GI),(67,(pc o8 0)),(66,(pc gD 6)),(65,pN),(64,(pc o9 0)),(63,(pc o9 0)),(62,pN),(61,pN),(60,pN)],[(24583,(.app (.o 24583) (.lst [bI]))),(7,(.setc (.setc C7 4 rQ) 5 pN)),(7,(.setc C7 4 rQ)),(7,C7),(7,(.setc o7 1 m5))]⟩))
 (.next ⟨[(69,(.pick (pc o9 0) GI pF)),(68,GI),(67,(pc o8 0)),(66,(pc gD 6)),(65,pN),(64,(pc o9 0)),(63,(pc o9 0)),(62,pN),(61,pN),(60,pN)],[(24583,(.o 24583)),(7,(.setc C7 4 rQ)),(7,(.setc C7 4 rQ)),(7,C7),(7,(.setc o7 1 m5))]⟩)))))
 (.next ⟨[],[(11,gD),(4103,(.o 4103)),(24583,(.o 24583)),(7,o7)]⟩))
def YO:PT:=
 (.call ⟨[],[(24583,pL),(4103,pL),(7,(.setc xd 0 (.mk [pL,xe,(pi (-1)),(ab xe (pi (-1))),(pi 0),pL]))),(6,xd),(3,(.mk [r0]))]⟩ [] 23 46 [(au 19 (.mk [r0])),r2]
 (.call ⟨[],[(9,(.setc (.con (.agg [(.bool false)])) 0 (.tget mZ 1))),(8,(.setc (.con (.agg [(.int 0)])) 0 (.tget mZ 0)))]⟩ [] 29 47 [(au 19 o3),r1,r2]
 (.blockS ⟨[],[]⟩ 0 [] [4103,24583,7]
 (.callc ⟨[],[]⟩ [] 77 lI []
 (.brk ⟨[],[]⟩
(aaN b)
 (.next ⟨[],[]⟩)))
 (.ret (au 6 (.setc o6 0 (.mk [(.o 4103),(pc o7 1),(pc o7 2),(pc o7 3),(pc o7 4),(.o 24583)])))))))
def aoc:PT×List (Shp×PT):=(YO b,[(.ea [11,4103,24583,7],VT b)])
def TS:Bz.map told=some (aoc (bf Bz)):=by kernel_rfl
def aAN:tree (ae Bz)=YO IA:=bA TS
def awQ:rV [11,4103,24583,7] (IA 0)=VT IA:=Wk TS 0 λ_=>rfl
def BA:Option PC:=cF [4,5,6,7] [] Tryz.f46 46 [2,9]
def PY:Nat->PC:=bk BA
def atI:PC:=.block 0 [6,7,13,14] [] (.loop [6,7,13] [] (b 0))
def NC (b:Nat->PC):PT:=
 (.ite (af dk bG)
 (.chk (aj bK dk)
 (.ite (.pick (.pick (.pick (aH (pc zO 0) (pi 1)) (aH (pc zO 0) (pi 3)) pF) (aH (pc zO 0) (pi 4)) pF) pT (aR (pc zO 6) r1))
 (.next ⟨[(13,(bt dk (pi 1)))],[]⟩)
 (.next ⟨[(6,(.pick (.pick (.nt r7) pT (af (pc zO 6) r6)) (pc zO 6) r6)),(7,(.pick (.pick (.nt r7) pT (af (pc zO 6) r6)) pT r7)),(13,(bt dk (pi 1)))],[]⟩)))
 (.exit 0 ⟨[(14,(af dk bG))],[]⟩))
def YQ:PT:=
 (.brk ⟨[(13,(pi 0)),(12,(.llen C2)),(11,C2),(7,pF),(6,(pi 0))],[]⟩
(atI b)
 (.ret (.tup [r6,r7])))
def aod:PT×List (Shp×PT):=(YQ b,[(.lp 0 [6,7,13,14] [] [6,7,13] [],NC b)])
def TU:BA.map told=some (aod (bf BA)):=by kernel_rfl
def aAP:tree (ae BA)=YQ PY:=bA TU
def ahW:round 0 [6,7,13,14] [] [6,7,13] [] (PY 0)=NC PY:=aT TU 0 λ_=>rfl
def Kq:Option PC:=cF [6] [] Tryz.f47 47 [3,4,5]
def YR:PT:=
 (.ret (.clo 73 [(.ref (au 19 (.mk [r0]))),(.ref (pc (.mk [r2]) 0)),(.ref (pc (.mk [r1]) 0))]))
def af9:Kq.map told=some (YR,[]):=by kernel_rfl
def aAR:tree (ae Kq)=YR:=aO af9
def ub:Option PC:=Ev {ctx with fr:=[5,6],nh:=[]} Tryz.f73 [(.ref bX),(.ref I),(.ref I)] [I,Y9] 1000 [1000,7]
def PZ:Nat->PC:=bk ub
def atJ:PC:=.block 0 [14,15] [1000] (.loop [14] [1000] (b 0))
def ND (b:Nat->PC):PT:=
 (.ite vd
 (.blockS ⟨[],[]⟩ 1 [6,7,16,17,18,19,20,21,22,27,28,33,34,39,40,46] [7,1000]
 (.chk (aj bG bU)
 (.call ⟨[(40,agQ)],[(1000,ag1)]⟩ [(40,true)] 44 1000000009 [ag1]
 (.ite (.pick m3 (.nt zQ) pF)
 (.ret (.o 1000))
 (.next ⟨[],[]⟩))))
 (.next ⟨[(14,(bt bU (pi 1)))],[]⟩))
 (.exit 0 ⟨[(15,vd)],[]⟩))
def YS:PT:=
 (.call ⟨[],[]⟩ [] 10 51 [(.deref r1),(.deref r2)]
 (.brk ⟨[(14,(pi 0)),(13,(.llen (pc (.deref r1) 15))),(12,(pc (.deref r1) 15)),(5,bI)],[]⟩
(atJ b)
 (.ret (.o 1000))))
def aoe:PT×List (Shp×PT):=(YS b,[(.lp 0 [14,15] [1000] [14] [1000],ND b)])
def TV:ub.map told=some (aoe (bf ub)):=by kernel_rfl
def aAQ:tree (ae ub)=YS PZ:=bA TV
def ahX:round 0 [14,15] [1000] [14] [1000] (PZ 0)=ND PZ:=aT TV 0 λ_=>rfl
def ak1:∀yv,Ev {ctx with fr:=[5,6],nh:=[],yv:=yv} Tryz.f73 [(.ref bX),(.ref I),(.ref I)] [I,Y9] 1000 [1000,7]=some (ae ub):=λyv=>(show _=ub by kernel_rfl).trans (ax ub TV)
def BB:Option PC:=cF [4] [] Tryz.f51 51 [2,5,7]
def P0:Nat->PC:=bk BB
def atK:PC:=.block 0 [12,13] [5] (.loop [12] [5] (b 0))
def HP (b:Nat->PC):PT:=
 (.ite (af bG bK)
 (.chk (aj bI bG)
 (.ite (.pick (ab (pc (.setc z9 0 (pn bI bG)) 0) (pi 7)) (bl (pc (.setc z9 0 (pn bI bG)) 6) r1) pF)
 (.chk (af (.mlen o5) cj)
 (.next ⟨[(12,(bt bG (pi 1)))],[(5,(.put o5 (pc (.setc z9 0 (pn bI bG)) 4) pT))]⟩))
 (.next ⟨[(12,(bt bG (pi 1)))],[]⟩)))
 (.exit 0 ⟨[(13,(af bG bK))],[]⟩))
def YU:PT:=
 (.brk ⟨[(12,(pi 0)),(11,(.llen C2)),(10,C2),(5,pN)],[(5,(.con (.map [])))]⟩
(atK b)
 (.ret o5))
def aof:PT×List (Shp×PT):=(YU b,[(.lp 0 [12,13] [5] [12] [5],HP b)])
def TW:BB.map told=some (aof (bf BB)):=by kernel_rfl
def aAT:tree (ae BB)=YU P0:=bA TW
def VU:round 0 [12,13] [5] [12] [5] (P0 0)=HP P0:=aT TW 0 λ_=>rfl
def Kr:Option PC:=cF [4,5,13] [] Tryz.f48 48 []
def YT:PT:=
 (.ite (.pick (aH (.ai .and .i64 r1 (pi 2)) (pi 0)) pT (aH r0 (pi 0)))
 (.ret (pi 1))
 (.ite (aH (.ai .and .i64 r1 (pi 4)) (pi 0))
 (.ret (pi 2))
 (.ret (pi 0))))
def aga:Kr.map told=some (YT,[]):=by kernel_rfl
def aAS:tree (ae Kr)=YT:=aO aga
def Ax:Option PC:=cF [11,12,15,2000038,1000013] [] Tryz.f6 6 [5,7,8,10,65546,69642,73738,77834,13,65549,69645,73741,77837,14,16,85]
def O6:Nat->PC:=bk Ax
def asd:PC:=.block 0 [14,42,43] [14] (.loop [14,42] [14] (b 0))
def M8 (b:Nat->PC):PT:=
 (.ite (af oZ vp)
 (.blockS ⟨[],[]⟩ 1 [14,15,16,44,45,46,47,48,49,50,56,57,62,63,69] [16,14]
 (.chk (aj (.o 65549) oZ)
 (.call ⟨[(57,(.pick (ab (pc (.setc z9 0 (.sub (pn (.o 65549) oZ) 0 9)) 0) (pi 2)) (ab (pc (.setc z9 0 (.sub (pn (.o 65549) oZ) 0 9)) 1) (pc o8 1)) pF)),(15,oZ)],[]⟩ [(57,true)] 60 18 [bG,oZ]
 (.call ⟨[(63,(.pick Db (.nt qs) pF))],[]⟩ [(63,true)] 67 19 [(.mk [(pc gT 0),(pc gT 1),(pc gT 2),(pc gT 3),(pc gT 4),(pc gT 5),(pc gT 6),(pc gT 7),(pc gT 8),(pc gT 9),(pc gT 10),(pc gT 11),(pc gT 12),(pc gT 13),(pc gT 14),(.o 65549),(.o 69645),(.o 73741),(.o 77837)]),fh,r4]
 (.ite (.pick zS (.nt qt) pF)
 (.chk (aj (pc o5 3) (pc o8 2))
 (.chk (bl (.llen ag4) cj)
 (.next ⟨[(14,pN)],[(14,ag4)]⟩)))
 (.next ⟨[],[]⟩)))))
 (.next ⟨[(42,(bt oZ (pi 1)))],[]⟩))
 (.exit 0 ⟨[(43,(af oZ vp))],[]⟩))
def WB:PT:=
 (.call ⟨[(19,(aR r4 (pi 100000)))],[(10,mf),(8,(.mk [r3])),(7,(.mk [r2])),(5,(.mk [r0]))]⟩ [(19,false)] 25 10 [fN,r1,(au 19 (.mk [r2])),(au 6 (.mk [r3])),r4]
 (.ite (.pick iY pT (aH eM (pi 1)))
 (.ret (.tup [MV,(pi 7)]))
 (.call ⟨[],[]⟩ [] 34 16 [(au 19 o7),(pc o8 1),(pc o8 3)]
 (.call ⟨[(12,(pc UI 0))],[]⟩ [] 38 17 [(au 19 o7),r4]
 (.brk ⟨[(42,(pi 0)),(41,(.llen (pc fi 15))),(14,pN)],[(14,pL),(77837,(pc fi 18)),(73741,(pc fi 17)),(69645,(pc fi 16)),(65549,(pc fi 15)),(13,(.setc mf 0 fi))]⟩
(asd b)
 (.chk (bl (.llen (.app (.o 73741) Gr)) cj)
 (.ite (aR (.llen (.app (.o 73741) Gr)) (pi 100))
 (.ret (.tup [MV,(pi 6)]))
 (.ret (.tup [(.mk [(pc mR 0),(pc mR 1),(pc mR 2),(pc mR 3),(pc mR 4),(pc mR 5),(pc mR 6),(pc mR 7),(pc mR 8),(pc mR 9),(pc mR 10),(pc mR 11),(pc mR 12),(pc mR 13),(pc mR 14),(.o 65549),(.o 69645),(.app (.o 73741) Gr),(.o 77837)]),(pi 0)])))))))))
def am5:PT×List (Shp×PT):=(WB b,[(.lp 0 [14,42,43] [14] [14,42] [14],M8 b)])
def SZ:Ax.map told=some (am5 (bf Ax)):=by kernel_rfl
def ayl:tree (ae Ax)=WB O6:=bA SZ
def ahz:round 0 [14,42,43] [14] [14,42] [14] (O6 0)=M8 O6:=aT SZ 0 λ_=>rfl
def Kp:Option PC:=cF [6] [] Tryz.f19 19 [3]
def YP:PT:=
 (.call ⟨[(16,(.pick (bP r1 (pi 0)) (af r1 (.llen mj)) pF))],[]⟩ [(16,true)] 19 51 [(au 19 (.mk [r0])),r2]
 (.ret (.pick dH (.look iY r1 pF) pF)))
def af8:Kp.map told=some (YP,[]):=by kernel_rfl
def aAO:tree (ae Kp)=YP:=aO af8
def IX:Option PC:=cF [6] [] Tryz.f5 5 [3,4,5]
def Wz:PT:=
 (.call ⟨[],[(5,(.mk [r2])),(3,(.mk [r0]))]⟩ [] 9 14 [fN,(au 19 (.mk [r1]))]
 (.call ⟨[(10,r9)],[]⟩ [(10,true)] 12 15 [(au 8 o3)]
 (.ret (.pick (.pick bI (ab bG (pi 0)) pF) (bl (.llen (pc o5 5)) (pi 30)) pF))))
def aeG:IX.map told=some (Wz,[]):=by kernel_rfl
def ayj:tree (ae IX)=Wz:=aO aeG
def A8:Option PC:=cF [4,5] [] Tryz.f14 14 [2,3]
def Py:Nat->PC:=bk A8
def as5:PC:=.block 0 [4,5,14,15,16,17,18] [] (.loop [4,5] [] (b 0))
def Ho (b:Nat->PC):PT:=
 (.ite (af r5 (.llen (pc o2 4)))
 (.blockS ⟨[],[]⟩ 1 [4,21,22,23,24,25,26,27] []
 (.chk (aj (pc o2 4) r5)
 (.call ⟨[],[]⟩ [] 26 40 [(pn (pc o2 4) r5)]
 (.ite (.nt kU)
 (.ret pF)
 (.next ⟨[],[]⟩))))
 (.next ⟨[(5,qo)],[]⟩))
 (.exit 0 ⟨[(14,r5),(15,pN),(16,(pc o2 4)),(17,(.llen (pc o2 4))),(18,(af r5 (.llen (pc o2 4))))],[]⟩))
def XX:PT:=
 (.call ⟨[(4,pF)],[(3,(.mk [r1])),(2,(.mk [r0]))]⟩ [] 7 38 [fN]
 (.call ⟨[(9,(.nt r7))],[]⟩ [(9,false)] 11 39 [(au 19 o3)]
 (.ite (.pick r9 pT (.nt bK))
 (.ret pF)
 (.brk ⟨[(5,(pi 0))],[]⟩
(as5 b)
 (.ret pT)))))
def anJ:PT×List (Shp×PT):=(XX b,[(.lp 0 [4,5,14,15,16,17,18] [] [4,5] [],Ho b)])
def Tw:A8.map told=some (anJ (bf A8)):=by kernel_rfl
def azT:tree (ae A8)=XX Py:=bA Tw
def Vq:round 0 [4,5,14,15,16,17,18] [] [4,5] [] (Py 0)=Ho Py:=aT Tw 0 λ_=>rfl
def AG:Option PC:=cF [2,3,4] [] Tryz.f38 38 [1]
def D7:Nat->PC:=bk AG
def asp:PC:=.block 0 [2,3,5,6,7,8,9,10,13] [] (.loop [2,3] [] (b 0))
def asq:PC:=.block 2 [2,4,44,45,46,47,48,49,52] [] (.loop [2,4] [] (b 1))
def zW (b:Nat->PC):PT:=
 (.ite (.pick (af r3 mU) (af r3 (pi 50)) pF)
 (.chk (aj (pc o1 1) r3)
 (.chk (.nt (.an (.an (.nt (aR (.llen (pc (pn (pc o1 1) r3) 4)) (pi 70))) pT) (.nt (aj (pc o1 1) r3))))
 (.chk (.nt (.an (.an (.nt agH) pT) (.nt (aj (pc o1 1) r3))))
 (.ite (.pick agH pT (aR (.llen (pc (pn (pc o1 1) r3) 3)) (pi 8)))
 (.ret pF)
 (.next ⟨[(3,xc)],[]⟩)))))
 (.exit 0 ⟨[(5,r3),(6,pN),(7,(pc o1 1)),(8,mU),(9,(af r3 mU)),(10,(af r3 mU)),(13,(.pick (af r3 mU) (af r3 (pi 50)) pF))],[]⟩))
def Dj (b:Nat->PC):PT:=
 (.ite (.pick (af r4 qn) (af r4 (pi 50)) pF)
 (.chk (aj (pc o1 4) r4)
 (.chk (.nt (.an (.an (.nt (aR (.llen (pc zG 2)) (pi 40))) pT) (.nt (aj (pc o1 4) r4))))
 (.ite (.pick (aR (.llen (pc zG 2)) (pi 40)) pT (aR (.llen (pc zG 3)) (pi 40)))
 (.ret pF)
 (.next ⟨[(4,(bt r4 (pi 1)))],[]⟩))))
 (.exit 2 ⟨[(44,r4),(45,pN),(46,(pc o1 4)),(47,qn),(48,(af r4 qn)),(49,(af r4 qn)),(52,(.pick (af r4 qn) (af r4 (pi 50)) pF))],[]⟩))
def W3:PT:=
 (.brk ⟨[(3,(pi 0)),(2,pF)],[(1,(.mk [r0]))]⟩
(asp b)
 (.brk ⟨[(4,(pi 0))],[]⟩
(asq b)
 (.ret (.pick (.pick (.pick (.pick (.pick (.pick (.pick (af w9 (pi 50)) (af mU (pi 50)) pF) (af oX (pi 50)) pF) (af oW (pi 210)) pF) (af qn (pi 50)) pF) (af (.llen (pc o1 5)) (pi 110)) pF) (af (.llen (pc o1 6)) (pi 110)) pF) (af zI (pi 50)) pF))))
def anf:PT×List (Shp×PT):=(W3 b,[(.lp 0 [2,3,5,6,7,8,9,10,13] [] [2,3] [],zW b),(.lp 2 [2,4,44,45,46,47,48,49,52] [] [2,4] [],Dj b)])
def Ml:AG.map told=some (anf (bf AG)):=by kernel_rfl
def ayL:tree (ae AG)=W3 D7:=bA Ml
def GY:round 0 [2,3,5,6,7,8,9,10,13] [] [2,3] [] (D7 0)=zW D7:=aT Ml 0 λ_=>rfl
def Nd:round 2 [2,4,44,45,46,47,48,49,52] [] [2,4] [] (D7 1)=Dj D7:=aT Ml 1 λ_=>rfl
def Jx:Option PC:=cF [2] [] Tryz.f39 39 [1]
def Xz:PT:=
 (.ret (.pick (.pick (.pick (bl (.llen mj) (pi 50)) (bl (.llen (pc (.mk [r0]) 16)) (pi 10)) pF) (bl (.llen C2) (pi 110)) pF) (bl (.llen vj) (pi 220)) pF))
def afg:Jx.map told=some (Xz,[]):=by kernel_rfl
def azl:tree (ae Jx)=Xz:=aO afg
def A3:Option PC:=cF [2,3] [] Tryz.f40 40 [1]
def Pt:Nat->PC:=bk A3
def as0:PC:=.block 0 [2,3,14,15,16,17,18] [] (.loop [2,3] [] (b 0))
def Hl (b:Nat->PC):PT:=
 (.ite (af r3 oW)
 (.blockS ⟨[],[]⟩ 1 [2,21,22,23,24,25,26,27,28] []
 (.chk (aj (pc o1 3) r3)
 (.call ⟨[],[]⟩ [] 27 69 [(.sub (pn (pc o1 3) r3) 1 3)]
 (.ite (.nt gd)
 (.ret pF)
 (.next ⟨[],[]⟩))))
 (.next ⟨[(3,xc)],[]⟩))
 (.exit 0 ⟨[(14,r3),(15,pN),(16,(pc o1 3)),(17,oW),(18,(af r3 oW))],[]⟩))
def XL:PT:=
 (.ite (.pick (aR (.llen (pc (.mk [r0]) 3)) (pi 60)) pT (aR rH (pi 60)))
 (.ret pF)
 (.brk ⟨[(3,(pi 0)),(2,pF)],[(1,(.mk [r0]))]⟩
(as0 b)
 (.ret pT)))
def anE:PT×List (Shp×PT):=(XL b,[(.lp 0 [2,3,14,15,16,17,18] [] [2,3] [],Hl b)])
def Tr:A3.map told=some (anE (bf A3)):=by kernel_rfl
def azH:tree (ae A3)=XL Pt:=bA Tr
def Vm:round 0 [2,3,14,15,16,17,18] [] [2,3] [] (Pt 0)=Hl Pt:=aT Tr 0 λ_=>rfl
def JE:Option PC:=cF [2] [] Tryz.f69 69 [1]
def XF:PT:=
 (.call ⟨[],[]⟩ [] 4 92 [GJ,(pi 100),(pi 20)]
 (.ret (bP r4 (pi 0))))
def afn:JE.map told=some (XF,[]):=by kernel_rfl
def azu:tree (ae JE)=XF:=aO afn
def ye:Option PC:=cF [6,1,7] [] Tryz.f92 92 [3]
def Pr:Nat->PC:=bk ye
def asY:PC:=.block 0 [1,7,12,13,14,15,16,17,20] [] (.loop [1,7] [] (b 0))
def Hj (b:Nat->PC):PT:=
 (.ite (.pick (af r7 qm) (bP r1 (pi 0)) pF)
 (.blockS ⟨[],[]⟩ 1 [1,23,24,25,26,27,28,29,30,31] []
 (.chk (aj (pc o3 2) r7)
 (.call ⟨[],[]⟩ [] 31 92 [(pn (pc o3 2) r7),r1,zJ]
 (.next ⟨[(1,rM)],[]⟩)))
 (.next ⟨[(7,xb)],[]⟩))
 (.exit 0 ⟨[(12,r7),(13,pN),(14,(pc o3 2)),(15,qm),(16,(af r7 qm)),(17,(af r7 qm)),(20,(.pick (af r7 qm) (bP r1 (pi 0)) pF))],[]⟩))
def Og:PT:=
 (.ite (af r2 (pi 1))
 (.ret (pi (-1)))
 (.brk ⟨[(7,(pi 0)),(1,(be r1 (pi 1)))],[(3,(.mk [r0]))]⟩
(asY b)
 (.ret r1)))
def anC:PT×List (Shp×PT):=(Og b,[(.lp 0 [1,7,12,13,14,15,16,17,20] [] [1,7] [],Hj b)])
def Tp:ye.map told=some (anC (bf ye)):=by kernel_rfl
def aiU:tree (ae ye)=Og Pr:=bA Tp
def Vk:round 0 [1,7,12,13,14,15,16,17,20] [] [1,7] [] (Pr 0)=Hj Pr:=aT Tp 0 λ_=>rfl
def Jg:Option PC:=cF [2,3] [] Tryz.f15 15 [1]
def W2:PT:=
 (.call ⟨[],[(1,(.mk [r0]))]⟩ [] 5 41 [fN]
 (.iteS ⟨[(3,r5)],[]⟩ vb [3] []
 (.call ⟨[],[]⟩ [] 9 42 [(au 8 o1)]
 (.next ⟨[(3,r9)],[]⟩))
 (.next ⟨[],[]⟩)
 (.iteS ⟨[],[]⟩ (ab r3 (pi 0)) [3] []
 (.call ⟨[],[]⟩ [] 13 43 [(au 8 o1)]
 (.next ⟨[(3,dk)],[]⟩))
 (.next ⟨[],[]⟩)
 (.iteS ⟨[],[]⟩ (ab r3 (pi 0)) [3] []
 (.call ⟨[],[]⟩ [] 17 44 [(au 8 o1)]
 (.next ⟨[(3,kT)],[]⟩))
 (.next ⟨[],[]⟩)
 (.iteS ⟨[],[]⟩ (ab r3 (pi 0)) [3] []
 (.call ⟨[],[]⟩ [] 21 45 [(au 8 o1)]
 (.next ⟨[(3,mY)],[]⟩))
 (.next ⟨[],[]⟩)
 (.ret r3))))))
def aeZ:Jg.map told=some (W2,[]):=by kernel_rfl
def ayK:tree (ae Jg)=W2:=aO aeZ
def AM:Option PC:=cF [2,3,4,6,7] [] Tryz.f41 41 [1,5,44]
def D9:Nat->PC:=bk AM
def asx:PC:=.block 0 [2,3,12,13,14,15,16] [] (.loop [2,3] [] (b 0))
def asy:PC:=.block 2 [2,5,6,30,31,32,33,34] [5] (.loop [2,5,6] [5] (b 1))
def G5 (b:Nat->PC):PT:=
 (.ite (af r3 w9)
 (.blockS ⟨[],[]⟩ 1 [2,4,19,20,21,22,23,24] []
 (.call ⟨[],[]⟩ [] 22 70 [(pc o1 0),r3]
 (.ite (aH UH (pi 0))
 (.ret UH)
 (.next ⟨[],[]⟩)))
 (.next ⟨[(3,xc)],[]⟩))
 (.exit 0 ⟨[(12,r3),(13,pN),(14,(pc o1 0)),(15,w9),(16,(af r3 w9))],[]⟩))
def G6 (b:Nat->PC):PT:=
 (.ite (af r6 mU)
 (.blockS ⟨[],[]⟩ 3 [2,5,7,38,39,40,41,42,43,44,45,46,47,48,49,50,52,53,54,55,56,57,58,59] [44,5]
 (.chk (aj (pc o1 1) r6)
 (.chk (bl (.llen Uo) cj)
 (.call ⟨[(5,pN)],[(5,Uo)]⟩ [] 48 70 [Uo,r6]
 (.ite (aH nS (pi 0))
 (.ret nS)
 (.chk (aj (pc o1 1) r6)
 (.call ⟨[],[]⟩ [] 58 71 [(au 8 o1),(pn (pc o1 1) r6)]
 (.ite (.nt GR)
 (.ret (pi 1))
 (.next ⟨[],[]⟩))))))))
 (.next ⟨[(6,(bt r6 (pi 1)))],[]⟩))
 (.exit 2 ⟨[(30,r6),(31,pN),(32,(pc o1 1)),(33,mU),(34,(af r6 mU))],[]⟩))
def Xc:PT:=
 (.ite (aR (.llen lG) (pi 8))
 (.ret (pi 6))
 (.brk ⟨[(3,(pi 0)),(2,(pi 0))],[(1,(.mk [r0]))]⟩
(asx b)
 (.ite (aR mU (pi 40))
 (.ret (pi 6))
 (.brk ⟨[(6,(pi 0)),(5,pN)],[(5,pL)]⟩
(asy b)
 (.ret (pi 0))))))
def anl:PT×List (Shp×PT):=(Xc b,[(.lp 0 [2,3,12,13,14,15,16] [] [2,3] [],G5 b),(.lp 2 [2,5,6,30,31,32,33,34] [5] [2,5,6] [5],G6 b)])
def Mn:AM.map told=some (anl (bf AM)):=by kernel_rfl
def ayV:tree (ae AM)=Xc D9:=bA Mn
def U6:round 0 [2,3,12,13,14,15,16] [] [2,3] [] (D9 0)=G5 D9:=aT Mn 0 λ_=>rfl
def U7:round 2 [2,5,6,30,31,32,33,34] [5] [2,5,6] [5] (D9 1)=G6 D9:=aT Mn 1 λ_=>rfl
def Jl:Option PC:=cF [4] [] Tryz.f70 70 []
def Xe:PT:=
 (.chk (aj r0 r1)
 (.call ⟨[],[]⟩ [] 9 93 [(pn r0 r1)]
 (.ite (.nt r9)
 (.ret (pi 2))
 (.chk (aj r0 r1)
 (.call ⟨[],[]⟩ [] 17 94 [r0,r1,(pn r0 r1)]
 (.ite kT
 (.ret (pi 5))
 (.ret (pi 0))))))))
def ae4:Jl.map told=some (Xe,[]):=by kernel_rfl
def ayX:tree (ae Jl)=Xe:=aO ae4
def AH:Option PC:=cF [2,3,4] [] Tryz.f93 93 []
def Pe:Nat->PC:=bk AH
def asr:PC:=.block 0 [2,3,13,14,15,16] [] (.loop [2,3] [] (b 0))
def GZ (b:Nat->PC):PT:=
 (.ite (af r3 (.slen r0))
 (.blockS ⟨[],[]⟩ 1 [2,4,19,20,21,22,23,34,35,36,37,38,39,40,47] []
 (.chk (.sok r0 r3)
 (.chk (.nt (.an (.an (.nt Uk) pT) (.nt (.sok r0 r3))))
 (.chk (.nt (.an (.an (bl (.con (.v (.int .u8 48))) (.sidx r0 r3)) (.an (.nt Uk) pT)) (.nt (.sok r0 r3))))
 (.call ⟨[(4,(.pick Uk pT (.pick (bl (.con (.v (.int .u8 48))) (.sidx r0 r3)) (bl (.sidx r0 r3) (.con (.v (.int .u8 57)))) pF)))],[]⟩ [] 38 123 [(.sidx r0 r3)]
 (.ite (.pick (.nt fi) (.pick (ab r3 (pi 0)) pT (.nt r4)) pF)
 (.ret pF)
 (.next ⟨[],[]⟩))))))
 (.next ⟨[(3,xc)],[]⟩))
 (.exit 0 ⟨[(13,r3),(14,r0),(15,(.slen r0)),(16,(af r3 (.slen r0)))],[]⟩))
def W5:PT:=
 (.ite (.pick (af (.slen r0) (pi 1)) pT (aR (.slen r0) (pi 20)))
 (.ret pF)
 (.brk ⟨[(3,(pi 0)),(2,pF)],[]⟩
(asr b)
 (.ret pT)))
def ang:PT×List (Shp×PT):=(W5 b,[(.lp 0 [2,3,13,14,15,16] [] [2,3] [],GZ b)])
def Tb:AH.map told=some (ang (bf AH)):=by kernel_rfl
def ayO:tree (ae AH)=W5 Pe:=bA Tb
def U0:round 0 [2,3,13,14,15,16] [] [2,3] [] (Pe 0)=GZ Pe:=aT Tb 0 λ_=>rfl
def Ji:Option PC:=cF [2] [] Tryz.f123 123 []
def W4:PT:=
 (.ret (.pick (.pick (bl (.con (.v (.int .u8 97))) r0) (bl r0 (.con (.v (.int .u8 122)))) pF) pT (.pick (bl (.con (.v (.int .u8 65))) r0) (bl r0 (.con (.v (.int .u8 90)))) pF)))
def ae1:Ji.map told=some (W4,[]):=by kernel_rfl
def ayN:tree (ae Ji)=W4:=aO ae1
def AF:Option PC:=cF [6,7] [] Tryz.f94 94 []
def Pd:Nat->PC:=bk AF
def aso:PC:=.block 0 [6,7,8,9,10,11,16] [] (.loop [6,7] [] (b 0))
def GX (b:Nat->PC):PT:=
 (.ite (.pick (af r7 r1) (af r7 (.llen r0)) pF)
 (.chk (aj r0 r7)
 (.ite (.cs .eql (pn r0 r7) r2)
 (.ret pT)
 (.next ⟨[(7,xb)],[]⟩)))
 (.exit 0 ⟨[(8,r7),(9,r1),(10,(af r7 r1)),(11,(af r7 r1)),(16,(.pick (af r7 r1) (af r7 (.llen r0)) pF))],[]⟩))
def W0:PT:=
 (.brk ⟨[(7,(pi 0)),(6,pF)],[]⟩
(aso b)
 (.ret pF))
def ane:PT×List (Shp×PT):=(W0 b,[(.lp 0 [6,7,8,9,10,11,16] [] [6,7] [],GX b)])
def Ta:AF.map told=some (ane (bf AF)):=by kernel_rfl
def ayJ:tree (ae AF)=W0 Pd:=bA Ta
def UZ:round 0 [6,7,8,9,10,11,16] [] [6,7] [] (Pd 0)=GX Pd:=aT Ta 0 λ_=>rfl
def AI:Option PC:=cF [4,5] [] Tryz.f71 71 [2,3]
def Pf:Nat->PC:=bk AI
def ass:PC:=.block 0 [4,5,36,37,38,39,40] [] (.loop [4,5] [] (b 0))
def G0 (b:Nat->PC):PT:=
 (.ite (af r5 (.llen (pc o3 4)))
 (.blockS ⟨[],[]⟩ 1 [4,43,44,45,46,47,48,49,50,51,60] []
 (.chk (aj (pc o3 4) r5)
 (.chk (aH (pi 100) (pi 0))
 (.call ⟨[],[]⟩ [] 49 63 [(.ai .quo .i64 (pn (pc o3 4) r5) (pi 100)),(pi 1),(pi 12)]
 (.chk (.nt (.an (.an (.nt (.nt rN)) pT) (.nt (aj (pc o3 4) r5))))
 (.chk (.nt (.an (.an (.nt (.nt rN)) pT) (.nt (aH (pi 100) (pi 0)))))
 (.call ⟨[(51,(.nt rN))],[]⟩ [(51,false)] 58 63 [(.ai .rem .i64 (pn (pc o3 4) r5) (pi 100)),(pi 1),(pi 31)]
 (.ite (.pick m5 pT (.nt GR))
 (.ret pF)
 (.next ⟨[],[]⟩))))))))
 (.next ⟨[(5,qo)],[]⟩))
 (.exit 0 ⟨[(36,r5),(37,pN),(38,(pc o3 4)),(39,(.llen (pc o3 4))),(40,(af r5 (.llen (pc o3 4))))],[]⟩))
def W7:PT:=
 (.call ⟨[(4,pF)],[(3,(.mk [r1])),(2,(.mk [r0]))]⟩ [] 12 63 [(pc (.mk [r1]) 1),(pi 0),(be (.llen (pc (.mk [r0]) 4)) (pi 1))]
 (.call ⟨[(14,(.nt bG))],[]⟩ [(14,false)] 21 63 [(pc o3 2),(pi 0),(be (.llen (pc o2 0)) (pi 1))]
 (.ite (.pick (.pick (.pick bU pT (.nt mY)) pT (aR (.llen (pc o3 4)) (pi 60))) pT (aR (.llen (pc o3 5)) (pi 200)))
 (.ret pF)
 (.brk ⟨[(5,(pi 0))],[]⟩
(ass b)
 (.call ⟨[],[]⟩ [] 63 95 [(pc o3 3),(pi 0),(pi 6)]
 (.call ⟨[(64,zS)],[]⟩ [(64,true)] 67 95 [(pc o3 4),(pi 0),(pi 2000)]
 (.call ⟨[(69,(.pick kW qt pF))],[]⟩ [(69,true)] 72 95 [(pc o3 5),(pi 0),(pi 100000)]
 (.ret (.pick tw zT pF)))))))))
def anh:PT×List (Shp×PT):=(W7 b,[(.lp 0 [4,5,36,37,38,39,40] [] [4,5] [],G0 b)])
def Tc:AI.map told=some (anh (bf AI)):=by kernel_rfl
def ayQ:tree (ae AI)=W7 Pf:=bA Tc
def U1:round 0 [4,5,36,37,38,39,40] [] [4,5] [] (Pf 0)=G0 Pf:=aT Tc 0 λ_=>rfl
def Jk:Option PC:=cF [6] [] Tryz.f63 63 []
def Xb:PT:=
 (.ret (.pick (bl r1 r0) (bl r0 r2) pF))
def ae3:Jk.map told=some (Xb,[]):=by kernel_rfl
def ayU:tree (ae Jk)=Xb:=aO ae3
def AK:Option PC:=cF [6,7] [] Tryz.f95 95 []
def Pg:Nat->PC:=bk AK
def asv:PC:=.block 0 [6,7,8,9,10,11] [] (.loop [6,7] [] (b 0))
def G3 (b:Nat->PC):PT:=
 (.ite (af r7 (.llen r0))
 (.blockS ⟨[],[]⟩ 1 [6,14,15,16,17,18,19,20,21,22,23,24,35] []
 (.chk (aj r0 r7)
 (.call ⟨[],[]⟩ [] 20 63 [(pn r0 r7),r1,r2]
 (.ite (.nt eD)
 (.ret pF)
 (.chk (.nt (.an (.an (aR r7 (pi 0)) pT) (.nt (aj r0 (be r7 (pi 1))))))
 (.chk (.nt (.an (.an (aR r7 (pi 0)) pT) (.nt (aj r0 r7))))
 (.ite (.pick (aR r7 (pi 0)) (bP (pn r0 (be r7 (pi 1))) (pn r0 r7)) pF)
 (.ret pF)
 (.next ⟨[],[]⟩)))))))
 (.next ⟨[(7,xb)],[]⟩))
 (.exit 0 ⟨[(8,r7),(9,r0),(10,(.llen r0)),(11,(af r7 (.llen r0)))],[]⟩))
def W9:PT:=
 (.brk ⟨[(7,(pi 0)),(6,pF)],[]⟩
(asv b)
 (.ret pT))
def anj:PT×List (Shp×PT):=(W9 b,[(.lp 0 [6,7,8,9,10,11] [] [6,7] [],G3 b)])
def Td:AK.map told=some (anj (bf AK)):=by kernel_rfl
def ayS:tree (ae AK)=W9 Pg:=bA Td
def U4:round 0 [6,7,8,9,10,11] [] [6,7] [] (Pg 0)=G3 Pg:=aT Td 0 λ_=>rfl
end Rm
