import Derived.Test.YtnkkihnmnfihnaaGreatDoorMAK
import Derived.KernelRfl
set_option maxRecDepth 100000
noncomputable section
set_option linter.all false
namespace Rm
open Go Go.Proofs Cx
def IW:Option PC:=cF [10,11,13,15] [] Tryz.f3 3 [5,7,8,12,14]
def Wy:PT:=
 (.call ⟨[],[(8,(.mk [r3])),(7,(.mk [r2])),(5,(.mk [r0]))]⟩ [] 16 4 []
 (.call ⟨[(11,dH)],[]⟩ [] 20 5 [(au 8 o5),(au 19 o7),(au 6 o8)]
 (.ite (.nt eD)
 (.ret bK)
 (.call ⟨[],[]⟩ [] 29 6 [(au 8 o5),r1,(au 19 o7),(au 6 o8),r4]
 (.call ⟨[(13,(.tget lI 1))],[(12,(.setc mf 0 (.tget lI 0)))]⟩ [] 38 7 [(au 8 o5),r1,(au 19 o7),(au 6 o8),r4]
 (.call ⟨[(42,bK),(15,(.tget fi 1))],[(14,(.setc mf 0 (.tget fi 0)))]⟩ [(42,true)] 46 8 [(au 8 o5),(au 19 o7),(au 6 o8)]
 (.call ⟨[],[]⟩ [(42,true)] 50 9 [(au 8 o5),(au 19 o7),(au 6 o8)]
 (.call ⟨[(53,(.pick oZ (ab GQ m4) pF))],[]⟩ [(53,true)] 59 10 [(au 8 o5),r1,(au 19 o7),(au 6 o8),r4]
 (.call ⟨[],[]⟩ [(53,true)] 65 11 [(au 8 o5),r1,(au 19 o7),(au 6 o8),r4]
 (.call ⟨[(68,(.pick M2 (ab rQ vt) pF))],[]⟩ [(68,true)] 71 12 [(au 19 o12),(au 19 Gr)]
 (.ret (.pick (.pick Dc r71 pF) (ab dk fh) pF))))))))))))
def aeE:IW.map told=some (Wy,[]):=by kernel_rfl
def ayh:tree (ae IW)=Wy:=aO aeE
def IY:Option PC:=cF [0,4,6,8,9,10,1000003] [] Tryz.f4 4 [1,2,3,24579,5]
def WA:PT:=
 (.call ⟨[],[]⟩ [] 12 13 []
 (.call ⟨[],[(3,agM),(2,(.setc mf 0 (.tget bG 1))),(1,(.setc Us 0 (.tget bG 0))),(24579,pL)]⟩ [] 19 10 [(au 8 (.setc Us 0 (.tget bG 0))),(pi 0),(au 19 (.setc mf 0 (.tget bG 1))),(au 6 agM),(pi 41)]
 (.call ⟨[(21,(ab iY (pi 2)))],[]⟩ [(21,true)] 25 10 [(au 8 o1),(pi 0),(au 19 o2),(au 6 o3),(pi 42)]
 (.call ⟨[(28,(.pick mY (ab eM (pi 2)) pF))],[]⟩ [(28,true)] 32 10 [(au 8 o1),(pi 0),(au 19 o2),(au 6 o3),(pi 43)]
 (.call ⟨[(4,(.pick qq (ab kV (pi 1)) pF))],[]⟩ [] 39 6 [(au 8 o1),(pi 0),(au 19 o2),(au 6 o3),(pi 43)]
 (.call ⟨[(6,(.tget zP 1))],[(5,(.setc mf 0 (.tget zP 0)))]⟩ [] 46 6 [(au 8 o1),(pi 0),(au 19 o2),(au 6 o3),(pi 42)]
 (.call ⟨[(8,(.tget GQ 1))],[(24579,(.lst [(.mk [(pi 1),(pi 42),pT])])),(3,(.setc o3 5 pN))]⟩ [] 55 10 [(au 8 o1),(pi 0),(au 19 o2),(.mk [(pc (.setc o3 5 pN) 0),(pc (.setc o3 5 pN) 1),(pc (.setc o3 5 pN) 2),(pc (.setc o3 5 pN) 3),(pc (.setc o3 5 pN) 4),(.lst [(.mk [(pi 1),(pi 42),pT])])]),(pi 41)]
 (.call ⟨[(57,(ab zR (pi 2)))],[]⟩ [(57,true)] 61 10 [(au 8 o1),(pi 0),(au 19 o2),MW,(pi 42)]
 (.call ⟨[(64,(.pick Db (ab pg (pi 0)) pF))],[]⟩ [(64,true)] 68 10 [(au 8 o1),(pi 0),(au 19 o2),MW,(pi 43)]
 (.chk (aj (.o 24579) (pi 0))
 (.call ⟨[(9,(.pick kW (ab Dc (pi 0)) pF))],[(24579,(.setn (.o 24579) (pi 0) 1 (pi 43)))]⟩ [] 78 10 [(au 8 o1),(pi 0),(au 19 o2),(.mk [(pc o3 0),(pc o3 1),(pc o3 2),(pc o3 3),(pc o3 4),(.setn (.o 24579) (pi 0) 1 (pi 43))]),(pi 42)]
 (.call ⟨[(80,(ab UM (pi 2)))],[]⟩ [(80,true)] 84 10 [(au 8 o1),(pi 0),(au 19 o2),MW,(pi 43)]
 (.call ⟨[(87,(.pick tz (ab UN (pi 1)) pF))],[]⟩ [(87,true)] 91 8 [(au 8 o1),(au 19 o2),MW]
 (.chk (aj (.o 24579) (pi 0))
 (.ite (.pick (.pick (.pick (aH r6 (pi 0)) pT (aH r8 (pi 7))) pT (aH (.llen (pc o5 17)) (pi 1))) pT (aH (.llen (pc o5 15)) (pi 2)))
 (.ret pF)
 (.chk (.nt (.an (.an (.pick (.pick r4 r9 pF) (.pick M4 (ab Df (pi 0)) pF) pF) pT) (.nt (aj (pc o5 17) (pi 0)))))
 (.call ⟨[(131,(.pick (.pick (.pick r4 r9 pF) (.pick M4 (ab Df (pi 0)) pF) pF) (.an (ab (pc vf 0) (pi 7)) (.an (ab (pc vf 1) (pi 2)) (.an (ab (pc vf 2) (pi (-1))) (.an (ab (pc vf 3) (pi 0)) (.an (ab (pc vf 4) (pi 1)) (.an (ab (pc vf 5) (pi 0)) (.an (ab (pc vf 6) (pi 43)) (.an (ab (pc vf 7) (pi 0)) (.an (ab (pc vf 8) (pi 0)) pT))))))))) pF))],[]⟩ [(131,true)] 135 8 [(au 8 o1),(au 19 o2),(.mk [(pc o3 0),(pc o3 1),(pc o3 2),(pc o3 3),(pc o3 4),(.setn (.o 24579) (pi 0) 1 (pi 11))])]
 (.ret (.pick (.r 131) (ab (.r 135) (pi 13)) pF)))))))))))))))))))
def aeH:IY.map told=some (WA,[]):=by kernel_rfl
def ayk:tree (ae IY)=WA:=aO aeH
def Er:Option PC:=cF [] [] Tryz.f13 13 [0,1,2,24578,3,12291,4,24580,28676,32772,5,65541,69637,73733,77829]
def ayi:PT:=
 (.chk (bl (.llen agV) cj)
 (.chk (bl (.llen agL) cj)
 (.ret (.tup [(au 8 (.setc Us 0 (.mk [(pc GM 0),(pc GM 1),(pc GM 2),(pc GM 3),(pc GM 4),pL,pL,pL]))),(au 19 (.setc mf 0 (.mk [(pc mS 0),(pc mS 1),(pc mS 2),(pc mS 3),(pc mS 4),(pc mS 5),(pc mS 6),(pc mS 7),(pc mS 8),(pc mS 9),(pc mS 10),(pc mS 11),(pc mS 12),(pc mS 13),(pc mS 14),agL,pL,pL,pL]))),(.mk [(pc GL 0),(pc GL 1),(pc GL 2),(pc GL 3),(pc GL 4),pL])]))))
def aeF:Er.map told=some (ayi,[]):=by kernel_rfl
def Az:Option PC:=cF [10,11,13] [] Tryz.f10 10 [5,7,8,12,15]
def O8:Nat->PC:=bk Az
variable(b:Nat->PC)
def asf:PC:=.block 0 [10,61,62] [] (.loop [10,61] [] (b 0))
def GW (b:Nat->PC):PT:=
 (.ite (af pg qs)
 (.chk (aj rQ pg)
 (.ite (.pick (.pick (pc (.setc mX 0 (pn rQ pg)) 2) (bl (pc (.setc mX 0 (pn rQ pg)) 1) dk) pF) (bl (pc (.setc mX 0 (pn rQ pg)) 1) r4) pF)
 (.ret (pi 0))
 (.next ⟨[(61,(bt pg (pi 1)))],[]⟩)))
 (.exit 0 ⟨[(62,(af pg qs))],[]⟩))
def WK:PT:=
 (.call ⟨[(10,(pi 0))],[(8,(.mk [r3])),(7,(.mk [r2])),(5,(.mk [r0]))]⟩ [] 19 8 [fN,(au 19 (.mk [r2])),(au 6 (.mk [r3]))]
 (.ite (.pick (aH iY (pi 0)) pT (af r4 (pc o8 3)))
 (.ret (pi 0))
 (.call ⟨[],[]⟩ [] 32 36 [(au 8 o5),r1,(pi 20),(au 19 o7),(pc o8 3)]
 (.call ⟨[],[]⟩ [] 33 35 [kV]
 (.call ⟨[(11,vn)],[]⟩ [] 39 16 [(au 19 o7),(pc o8 1),(pc o8 3)]
 (.ite (.pick (.pick (ab bK (pi (-1))) pT (aH (pc (.setc xd 0 zP) 1) (pc o8 2))) pT (aH (pc (.setc xd 0 zP) 2) (pi (-1))))
 (.ret (pi 0))
 (.brk ⟨[(61,(pi 0)),(60,(.llen (pc o8 5))),(59,(pc o8 5)),(13,(bt (pc o8 4) bK))],[]⟩
(asf b)
 (.ite (aR r4 dk)
 (.ret (pi 1))
 (.ret (pi 2))))))))))
def am7:PT×List (Shp×PT):=(WK b,[(.lp 0 [10,61,62] [] [10,61] [],GW b)])
def S5:Az.map told=some (am7 (bf Az)):=by kernel_rfl
def ayt:tree (ae Az)=WK O8:=bA S5
def UY:round 0 [10,61,62] [] [10,61] [] (O8 0)=GW O8:=aT S5 0 λ_=>rfl
def Ay:Option PC:=cF [6,7] [] Tryz.f8 8 [3,4,5,8,28,10]
def O7:Nat->PC:=bk Ay
def ase:PC:=.block 0 [6,30,31] [] (.loop [6,30] [] (b 0))
def GV (b:Nat->PC):PT:=
 (.ite (af m0 lI)
 (.blockS ⟨[],[]⟩ 1 [6,10,32,33,34,35,36] [10]
 (.chk (aj SV m0)
 (.callc ⟨[],[(10,(.setc (.con (.agg [(.v .nilFunc),(.int 0)])) 0 (.sub (pn SV m0) 0 2)))]⟩ [] 36 (pc (.setc (.con (.agg [(.v .nilFunc),(.int 0)])) 0 (.sub (pn SV m0) 0 2)) 0) []
 (.ite nR
 (.ret (pc bM 1))
 (.next ⟨[],[]⟩))))
 (.next ⟨[(30,(bt m0 (pi 1)))],[]⟩))
 (.exit 0 ⟨[(31,(af m0 lI))],[]⟩))
def WC:PT:=
 (.call ⟨[(6,(pi 0))],[(5,(.mk [r2])),(4,(.mk [r1])),(3,(.mk [r0]))]⟩ [] 13 24 [fN,(au 19 (.mk [r1]))]
 (.ite (aH dk (pi 0))
 (.ret dk)
 (.brk ⟨[(30,(pi 0)),(29,(.llen agR))],[(28,agR)]⟩
(ase b)
 (.ret (pi 0)))))
def am6:PT×List (Shp×PT):=(WC b,[(.lp 0 [6,30,31] [] [6,30] [],GV b)])
def S4:Ay.map told=some (am6 (bf Ay)):=by kernel_rfl
def ays:tree (ae Ay)=WC O7:=bA S4
def UX:round 0 [6,30,31] [] [6,30] [] (O7 0)=GV O7:=aT S4 0 λ_=>rfl
def yd:Option PC:=cF [4,5,6,7,8,11] [] Tryz.f24 24 [2,3,10]
def D6:Nat->PC:=bk yd
def ash:PC:=.block 0 [4,48,49] [] (.loop [4,48] [] (b 0))
def asi:PC:=.block 2 [4,8,62,63] [] (.loop [4,8,62] [] (b 1))
def xk (b:Nat->PC):PT:=
 (.ite (af nS M1)
 (.blockS ⟨[],[]⟩ 1 [4,6,7,50,51,52,53,54,55,56] []
 (.call ⟨[],[]⟩ [] 54 56 [(au 8 o2),(au 19 o3),nS]
 (.ite (aH rO (pi 0))
 (.ret rO)
 (.next ⟨[],[]⟩)))
 (.next ⟨[(48,(bt nS (pi 1)))],[]⟩))
 (.exit 0 ⟨[(49,(af nS M1))],[]⟩))
def xl (b:Nat->PC):PT:=
 (.ite (af m6 pg)
 (.blockS ⟨[],[]⟩ 3 [4,8,10,64,65,66,67,68,69,70,71,72,73,74,75,76,77,78,79,80] [10]
 (.chk (aj qs m6)
 (.call ⟨[],[(10,(.setc z2 0 (pn qs m6)))]⟩ [] 73 57 [(pc (.setc z2 0 (pn qs m6)) 0),nQ,nP]
 (.ite (.nt zU)
 (.ret (pi 1))
 (.call ⟨[],[]⟩ [] 77 57 [(pc bM 1),(pi 1),lF]
 (.ite (.nt UL)
 (.ret (pi 3))
 (.next ⟨[(8,(pc bM 0))],[]⟩))))))
 (.next ⟨[(62,(bt m6 (pi 1)))],[]⟩))
 (.exit 2 ⟨[(63,(af m6 pg))],[]⟩))
def N6:PT:=
 (.ite agU
 (.ret (pi 6))
 (.call ⟨[(4,(pi 0))],[(3,(.mk [r1])),(2,(.mk [r0]))]⟩ [] 37 55 [fN,kq]
 (.ite (aH iw (pi 0))
 (.ret iw)
 (.ite (ab nP (pi 0))
 (.ret (pi 14))
 (.brk ⟨[(48,(pi 0)),(47,nP)],[]⟩
(ash b)
 (.brk ⟨[(62,(pi 0)),(61,C3),(60,(pc o3 16)),(8,(pi 0))],[]⟩
(asi b)
 (.call ⟨[],[]⟩ [] 84 58 [(au 8 o2),(au 19 o3)]
 (.ite (aH UN (pi 0))
 (.ret UN)
 (.call ⟨[],[]⟩ [] 89 59 [(au 19 o3)]
 (.ret r89))))))))))
def am9:PT×List (Shp×PT):=(N6 b,[(.lp 0 [4,48,49] [] [4,48] [],xk b),(.lp 2 [4,8,62,63] [] [4,8,62] [],xl b)])
def Mk:yd.map told=some (am9 (bf yd)):=by kernel_rfl
def aiT:tree (ae yd)=N6 D6:=bA Mk
def Dh:round 0 [4,48,49] [] [4,48] [] (D6 0)=xk D6:=aT Mk 0 λ_=>rfl
def Di:round 2 [4,8,62,63] [] [4,8,62] [] (D6 1)=xl D6:=aT Mk 1 λ_=>rfl
def Es:Option PC:=cF [4,5,6,7,8,54,80,109,118,9,10] [] Tryz.f55 55 [2,3]
def Ok:PT:=
 (.call ⟨[],[(3,(.mk [r1])),(2,(.mk [r0]))]⟩ [] 12 74 [fN]
 (.ite (aH bG (pi 0))
 (.ret bG)
 (.call ⟨[(7,(.llen (pc o2 1))),(6,zH)],[]⟩ [] 25 75 [(pc o3 0),zH]
 (.call ⟨[(26,eM)],[]⟩ [(26,true)] 30 75 [(pc o3 1),r6]
 (.call ⟨[(36,(ab (pc o3 2) (pi (-1)))),(32,(.pick kU m0 pF))],[]⟩ [(36,false),(32,true)] 40 75 [(pc o3 2),r6]
 (.call ⟨[(47,(ab (pc o3 11) (pi (-1)))),(43,(.pick kV (.pick nR pT m3) pF))],[]⟩ [(47,false),(43,true)] 51 75 [(pc o3 11),r6]
 (.blockS ⟨[(8,(.pick vq (.pick M1 pT m5) pF))],[]⟩ 0 [4,54,55,56,57,65,66,72,73,79,80,81,82,83,84,88,89,93,94,98,99,103,104,108,109,110,111,112,113,117,118,119,120,121,122,126,127,137,138,142] []
 (.call ⟨[(57,(.nt r8))],[]⟩ [(57,false)] 63 75 [(pc o3 4),(.llen (pc o2 0))]
 (.call ⟨[(66,(.pick Db pT (.nt zS)))],[]⟩ [(66,false)] 70 75 [(pc o3 9),r7]
 (.call ⟨[(73,(.pick r66 pT (.nt UJ)))],[]⟩ [(73,false)] 77 75 [(pc o3 10),r7]
 (.iteS ⟨[],[]⟩ (.pick zU pT (.nt UL)) [4,80,81,82,83,84,88,89,93,94,98,99,103,104,108,109,110,111,112,113,117,118,119,120,121,122,126,127,137,138,142] []
 (.ret (pi 1))
 (.iteS ⟨[],[]⟩ (.pick (.pick (.pick (.pick (.pick (af (pc o3 3) (pi 1)) pT (aR (pc o3 3) lF)) pT (af (pc o3 8) (pi 0))) pT (aR (pc o3 8) (pi 100000))) pT (af (pc o3 12) (pi 0))) pT (aR (pc o3 12) (pi 1000))) [4,109,110,111,112,113,117,118,119,120,121,122,126,127,137,138,142] []
 (.ret (pi 3))
 (.iteS ⟨[],[]⟩ (.pick (af (pc o3 14) (pi 1)) pT (aR (pc o3 14) (pi 4))) [4,118,119,120,121,122,126,127,137,138,142] []
 (.ret (pi 15))
 (.call ⟨[(138,(.pick (.pick (af (pc o3 13) (pi 0)) pT (aR (pc o3 13) (pi 7))) pT (.pick (aH (.ai .and .i64 (pc o3 13) (pi 4)) (pi 0)) (ab (pc o3 2) (pi (-1))) pF)))],[]⟩ [(138,false)] 140 76 [(au 15 o3)]
 (.ite (.pick (.r 138) pT (.nt (.r 140)))
 (.ret (pi 2))
 (.next ⟨[],[]⟩)))
 (.next ⟨[],[]⟩))
 (.next ⟨[],[]⟩))
 (.next ⟨[],[]⟩)))))
 (.iteS ⟨[],[]⟩ (ab (pc o3 5) (pi 4)) [4] []
 (.call ⟨[],[]⟩ [] 153 77 [(au 8 o2),(pc o3 9),(pc o3 10)]
 (.ret (.tget (.r 153) 1)))
 (.next ⟨[],[]⟩)
 (.ret (pi 0))))))))))
def agb:Es.map told=some (Ok,[]):=by kernel_rfl
def aiX:tree (ae Es)=Ok:=aO agb
def Be:Option PC:=cF [2,3,4,5,6,7,10,11,12] [] Tryz.f74 74 [1,9]
def PG:Nat->PC:=bk Be
def ata:PC:=.block 0 [2,38,39] [] (.loop [2,38] [] (b 0))
def Ht (b:Nat->PC):PT:=
 (.ite (af fi iw)
 (.blockS ⟨[],[]⟩ 1 [2,9,40,41,42,43,44,45] [9]
 (.chk (aj nR fi)
 (.call ⟨[],[]⟩ [] 44 101 [(pc (.setc (.con (.agg [(.int 0)])) 0 (pn nR fi)) 0),(pi 10)]
 (.ite (.nt zQ)
 (.ret (pi 1))
 (.next ⟨[],[]⟩))))
 (.next ⟨[(38,(bt fi (pi 1)))],[]⟩))
 (.exit 0 ⟨[(39,(af fi iw))],[]⟩))
def X4:PT:=
 (.call ⟨[(2,(pi 0))],[(1,(.mk [r0]))]⟩ [] 15 96 [fN]
 (.call ⟨[(5,(.tget fh 2)),(4,(.tget fh 1)),(3,(.tget fh 0))],[]⟩ [] 21 97 [(pc o1 0),(pi 8),(.con (.clo 98 []))]
 (.ite (aH mY (pi 0))
 (.ret mY)
 (.call ⟨[],[(1,(au 8 o1))]⟩ [] 27 97 [r3,(pi 40),(.clo 99 [(.ref (au 8 o1))])]
 (.ite (aH gd (pi 0))
 (.ret gd)
 (.ite (aR oX (pi 20))
 (.ret (pi 6))
 (.brk ⟨[(38,(pi 0)),(37,oX),(36,(pc o1 2))],[]⟩
(ata b)
 (.call ⟨[],[]⟩ [] 49 97 [r4,(pi 200),(.clo 102 [(.ref o1)])]
 (.ite (aH rN (pi 0))
 (.ret rN)
 (.call ⟨[],[]⟩ [] 55 97 [r5,(pi 20),(.clo 103 [(.ref o1)])]
 (.ite (aH zR (pi 0))
 (.ret zR)
 (.call ⟨[],[]⟩ [] 60 105 [(.sub o1 0 8)]
 (.ite (aH qs (pi 0))
 (.ret qs)
 (.call ⟨[],[]⟩ [] 65 106 [(.sub o1 0 8)]
 (.ret vt)))))))))))))))
def anP:PT×List (Shp×PT):=(X4 b,[(.lp 0 [2,38,39] [] [2,38] [],Ht b)])
def TD:Be.map told=some (anP (bf Be)):=by kernel_rfl
def az6:tree (ae Be)=X4 PG:=bA TD
def Vv:round 0 [2,38,39] [] [2,38] [] (PG 0)=Ht PG:=aT TD 0 λ_=>rfl
def Bi:Option PC:=cF [] [] Tryz.f96 96 [1,2,3,4,6,16390,20486,24582,21,8,34,10,12298,16394,47]
def yb:Nat->PC:=bk Bi
def atf:PC:=.block 0 [2,14,15] [2] (.loop [2,14] [2] (b 0))
def atg:PC:=.block 2 [3,27,28] [3] (.loop [3,27] [3] (b 1))
def ath:PC:=.block 4 [4,40,41] [4] (.loop [4,40] [4] (b 2))
def Nv (b:Nat->PC):PT:=
 (.ite vd
 (.chk (aj bG bU)
 (.chk (bl (.llen agY) cj)
 (.next ⟨[(2,pN),(14,(bt bU (pi 1)))],[(2,agY)]⟩)))
 (.exit 0 ⟨[(15,vd)],[]⟩))
def Nw (b:Nat->PC):PT:=
 (.ite (af gd kU)
 (.chk (aj eM gd)
 (.chk (bl (.llen agI) cj)
 (.next ⟨[(3,pN),(27,(bt gd (pi 1)))],[(3,agI)]⟩)))
 (.exit 2 ⟨[(28,(af gd kU))],[]⟩))
def Nx (b:Nat->PC):PT:=
 (.ite (af m3 zP)
 (.chk (aj fi m3)
 (.chk (bl (.llen ag3) cj)
 (.next ⟨[(4,pN),(40,(bt m3 (pi 1)))],[(4,ag3)]⟩)))
 (.exit 4 ⟨[(41,(af m3 zP))],[]⟩))
def Yf:PT:=
 (.brk ⟨[(14,(pi 0)),(13,(.llen oU)),(12,oU),(4,pN),(3,pN),(2,pN)],[(4,pL),(3,pL),(2,pL),(1,(.mk [r0]))]⟩
(atf b)
 (.brk ⟨[(27,(pi 0)),(26,oW),(25,(pc o1 3))],[]⟩
(atg b)
 (.brk ⟨[(40,(pi 0)),(39,qn),(38,(pc o1 4))],[]⟩
(ath b)
 (.ret (.tup [o2,o3,o4])))))
def anU:PT×List (Shp×PT):=(Yf b,[(.lp 0 [2,14,15] [2] [2,14] [2],Nv b),(.lp 2 [3,27,28] [3] [3,27] [3],Nw b),(.lp 4 [4,40,41] [4] [4,40] [4],Nx b)])
def Gs:Bi.map told=some (anU (bf Bi)):=by kernel_rfl
def aAd:tree (ae Bi)=Yf yb:=bA Gs
def ahQ:round 0 [2,14,15] [2] [2,14] [2] (yb 0)=Nv yb:=aT Gs 0 λ_=>rfl
def ahR:round 2 [3,27,28] [3] [3,27] [3] (yb 1)=Nw yb:=aT Gs 1 λ_=>rfl
def ahS:round 4 [4,40,41] [4] [4,40] [4] (yb 2)=Nx yb:=aT Gs 2 λ_=>rfl
def Bg:Option PC:=cF [6,7,8] [] Tryz.f97 97 []
def PK:Nat->PC:=bk Bg
def atd:PC:=.block 0 [6,15,16] [] (.loop [6,15] [] (b 0))
def Hv (b:Nat->PC):PT:=
 (.ite (af fh bU)
 (.blockS ⟨[],[]⟩ 1 [6,7,8,17,18,19,20,21,22,24,25,26,27] []
 (.call ⟨[(7,fh)],[]⟩ [] 20 124 [r0,fh]
 (.ite (aH eD (pi 0))
 (.ret eD)
 (.callc ⟨[],[]⟩ [] 26 r2 [r7]
 (.ite (.nt kU)
 (.ret (pi 1))
 (.next ⟨[],[]⟩)))))
 (.next ⟨[(15,(bt fh (pi 1)))],[]⟩))
 (.exit 0 ⟨[(16,(af fh bU))],[]⟩))
def Yb:PT:=
 (.ite (aR (.llen r0) r1)
 (.ret (pi 6))
 (.brk ⟨[(15,(pi 0)),(14,(.llen r0)),(6,(pi 0))],[]⟩
(atd b)
 (.ret (pi 0))))
def anS:PT×List (Shp×PT):=(Yb b,[(.lp 0 [6,15,16] [] [6,15] [],Hv b)])
def TG:Bg.map told=some (anS (bf Bg)):=by kernel_rfl
def az9:tree (ae Bg)=Yb PK:=bA TG
def Vx:round 0 [6,15,16] [] [6,15] [] (PK 0)=Hv PK:=aT TG 0 λ_=>rfl
def J4:Option PC:=cF [4] [] Tryz.f124 124 []
def Ye:PT:=
 (.chk (aj r0 r1)
 (.call ⟨[],[]⟩ [] 9 142 [(pn r0 r1)]
 (.ite (.nt r9)
 (.ret (pi 2))
 (.chk (.slok r0 (pi 0) r1)
 (.chk (aj r0 r1)
 (.call ⟨[],[]⟩ [] 18 143 [(.slc r0 (pi 0) r1),(pn r0 r1)]
 (.ite ju
 (.ret (pi 5))
 (.ret (pi 0)))))))))
def afO:J4.map told=some (Ye,[]):=by kernel_rfl
def aAc:tree (ae J4)=Ye:=aO afO
def Bh:Option PC:=cF [2,3,4,5] [] Tryz.f142 142 []
def PL:Nat->PC:=bk Bh
def ate:PC:=.block 0 [2,16,17] [] (.loop [2,16] [] (b 0))
def Hw (b:Nat->PC):PT:=
 (.ite (af dH fh)
 (.chk (aj bU dH)
 (.ite (.pick (.nt (.pick (.pick (bP (pn bU dH) (.con (.v (.int .u8 97)))) (bl (pn bU dH) (.con (.v (.int .u8 122)))) pF) pT (.pick (bP (pn bU dH) (.con (.v (.int .u8 65)))) (bl (pn bU dH) (.con (.v (.int .u8 90)))) pF))) (.pick (ab dH (pi 0)) pT (.pick (aH (pn bU dH) (.con (.v (.int .u8 95)))) (.pick (af (pn bU dH) (.con (.v (.int .u8 48)))) pT (aR (pn bU dH) (.con (.v (.int .u8 57))))) pF)) pF)
 (.ret pF)
 (.next ⟨[(16,(bt dH (pi 1)))],[]⟩)))
 (.exit 0 ⟨[(17,(af dH fh))],[]⟩))
def Yd:PT:=
 (.ite (.pick (.cs .eql r0 (.con (.v (.string ⟨#[]⟩)))) pT (aR (.slen r0) (pi 20)))
 (.ret pF)
 (.chk (bl (.slen r0) cj)
 (.brk ⟨[(16,(pi 0)),(15,(.llen (.bytes r0))),(14,(.bytes r0)),(2,pF)],[]⟩
(ate b)
 (.ret pT))))
def anT:PT×List (Shp×PT):=(Yd b,[(.lp 0 [2,16,17] [] [2,16] [],Hw b)])
def TH:Bh.map told=some (anT (bf Bh)):=by kernel_rfl
def aAb:tree (ae Bh)=Yd PL:=bA TH
def Vy:round 0 [2,16,17] [] [2,16] [] (PL 0)=Hw PL:=aT TH 0 λ_=>rfl
def Kc:Option PC:=cF [4] [] Tryz.f143 143 []
def Yu:PT:=
 (.call ⟨[],[]⟩ [] 7 163 [r0,r1]
 (.ret (bP r7 (pi 0))))
def afW:Kc.map told=some (Yu,[]):=by kernel_rfl
def aAt:tree (ae Kc)=Yu:=aO afW
def Bw:Option PC:=cF [4,5] [] Tryz.f163 163 []
def PV:Nat->PC:=bk Bw
def atC:PC:=.block 0 [4,8,9] [] (.loop [4,8] [] (b 0))
def HL (b:Nat->PC):PT:=
 (.ite (af r8 r7)
 (.chk (aj r0 r8)
 (.ite (.cs .eql r1 (pn r0 r8))
 (.ret r8)
 (.next ⟨[(8,nQ)],[]⟩)))
 (.exit 0 ⟨[(9,(af r8 r7))],[]⟩))
def YA:PT:=
 (.brk ⟨[(8,(pi 0)),(7,(.llen r0)),(4,(pi 0))],[]⟩
(atC b)
 (.ret (pi (-1))))
def an8:PT×List (Shp×PT):=(YA b,[(.lp 0 [4,8,9] [] [4,8] [],HL b)])
def TP:Bw.map told=some (an8 (bf Bw)):=by kernel_rfl
def aAz:tree (ae Bw)=YA PV:=bA TP
def VP:round 0 [4,8,9] [] [4,8] [] (PV 0)=HL PV:=aT TP 0 λ_=>rfl
def JY:Option PC:=cF [2] [] Tryz.f98 98 []
def X5:PT:=
 (.ret pT)
def afI:JY.map told=some (X5,[]):=by kernel_rfl
def az2:tree (ae JY)=X5:=aO afI
def JZ:Option PC:=cF [3] [] Tryz.f99 99 []
def X6:PT:=
 (.chk (aj (pc (.deref r1) 1) r0)
 (.call ⟨[],[]⟩ [] 10 100 [(.deref r1),(pn (pc (.deref r1) 1) r0)]
 (.ret bI)))
def afJ:JZ.map told=some (X6,[]):=by kernel_rfl
def az3:tree (ae JZ)=X6:=aO afJ
def Bf:Option PC:=cF [4,6] [] Tryz.f100 100 [2,3]
def PJ:Nat->PC:=bk Bf
def atc:PC:=.block 0 [4,10,11] [] (.loop [4,10] [] (b 0))
def Hu (b:Nat->PC):PT:=
 (.ite (af bI r9)
 (.chk (aj r8 bI)
 (.chk (aH (pi 100) (pi 0))
 (.chk (.nt (.an (.an (.nt (af (.ai .rem .i64 (pn r8 bI) (pi 100)) (pi 1))) pT) (.nt (aH (pi 100) (pi 0)))))
 (.ite (.pick (af (.ai .rem .i64 (pn r8 bI) (pi 100)) (pi 1)) pT (aR (.ai .rem .i64 (pn r8 bI) (pi 100)) (pi 31)))
 (.ret pF)
 (.next ⟨[(10,(bt bI (pi 1)))],[]⟩)))))
 (.exit 0 ⟨[(11,(af bI r9))],[]⟩))
def Ya:PT:=
 (.brk ⟨[(10,(pi 0)),(9,(.llen (pc (.mk [r1]) 4))),(8,(pc (.mk [r1]) 4)),(4,pF)],[(3,(.mk [r1])),(2,(.mk [r0]))]⟩
(atc b)
 (.call ⟨[(33,(.pick (aR (.llen (pc o3 4)) (pi 60)) pT (aR (.llen (pc o3 5)) (pi 200))))],[]⟩ [(33,false)] 39 101 [(pc o3 1),(.llen (pc o2 4))]
 (.call ⟨[(42,(.pick vn pT (.nt zP)))],[]⟩ [(42,false)] 48 101 [(pc o3 2),(.llen (pc o2 0))]
 (.ite (.pick oZ pT (.nt nS))
 (.ret pF)
 (.call ⟨[],[]⟩ [] 53 125 [(pc o3 3),(pi 0),(pi 6)]
 (.call ⟨[(54,M2)],[]⟩ [(54,true)] 57 125 [(pc o3 4),(pi 101),(pi 1231)]
 (.call ⟨[(59,(.pick rO Db pF))],[]⟩ [(59,true)] 62 125 [(pc o3 5),(pi 0),(pi 100000)]
 (.ret (.pick rQ m6 pF)))))))))
def anR:PT×List (Shp×PT):=(Ya b,[(.lp 0 [4,10,11] [] [4,10] [],Hu b)])
def TF:Bf.map told=some (anR (bf Bf)):=by kernel_rfl
def az8:tree (ae Bf)=Ya PJ:=bA TF
def Vw:round 0 [4,10,11] [] [4,10] [] (PJ 0)=Hu PJ:=aT TF 0 λ_=>rfl
def J3:Option PC:=cF [4] [] Tryz.f101 101 []
def Yc:PT:=
 (.ret MM)
def afN:J3.map told=some (Yc,[]):=by kernel_rfl
def aAa:tree (ae J3)=Yc:=aO afN
def Bl:Option PC:=cF [6,7,8] [] Tryz.f125 125 []
def PM:Nat->PC:=bk Bl
def atm:PC:=.block 0 [6,11,12] [] (.loop [6,11] [] (b 0))
def xn (b:Nat->PC):PT:=
 (.ite (af bK bI)
 (.chk (aj r9 bK)
 (.chk (.nt (.an (.an (aR bK (pi 0)) (.an (.nt (.pick (af (pn r9 bK) r1) pT (aR (pn r9 bK) r2))) pT)) (.nt (aj r0 (be bK (pi 1))))))
 (.ite (.pick (.pick (af (pn r9 bK) r1) pT (aR (pn r9 bK) r2)) pT (.pick (aR bK (pi 0)) (bl (pn r9 bK) (pn r0 (be bK (pi 1)))) pF))
 (.ret pF)
 (.next ⟨[(11,(bt bK (pi 1)))],[]⟩))))
 (.exit 0 ⟨[(12,(af bK bI))],[]⟩))
def Yi:PT:=
 (.brk ⟨[(11,(pi 0)),(10,(.llen r0)),(9,r0),(6,pF)],[]⟩
(atm b)
 (.ret pT))
def anX:PT×List (Shp×PT):=(Yi b,[(.lp 0 [6,11,12] [] [6,11] [],xn b)])
def TI:Bl.map told=some (anX (bf Bl)):=by kernel_rfl
def aAg:tree (ae Bl)=Yi PM:=bA TI
def Dq:round 0 [6,11,12] [] [6,11] [] (PM 0)=xn PM:=aT TI 0 λ_=>rfl
def J0:Option PC:=cF [3] [] Tryz.f102 102 []
def X7:PT:=
 (.chk (aj (pc (.deref r1) 3) r0)
 (.call ⟨[],[]⟩ [] 13 101 [(pc (pn (pc (.deref r1) 3) r0) 1),(.llen (pc (.deref r1) 1))]
 (.chk (.nt (.an (.an dk pT) (.nt (aj (pc (.deref r1) 3) r0))))
 (.call ⟨[(14,dk)],[]⟩ [(14,true)] 24 101 [(pc (pn (pc (.deref r1) 3) r0) 2),(.llen (pc (.deref r1) 2))]
 (.ret (.pick bU oY pF))))))
def afK:J0.map told=some (X7,[]):=by kernel_rfl
def az4:tree (ae J0)=X7:=aO afK
def J1:Option PC:=cF [3] [] Tryz.f103 103 []
def X8:PT:=
 (.chk (aj (pc (.deref r1) 4) r0)
 (.call ⟨[],[]⟩ [] 9 104 [(pn (pc (.deref r1) 4) r0)]
 (.ret r9)))
def afL:J1.map told=some (X8,[]):=by kernel_rfl
def az5:tree (ae J1)=X8:=aO afL
def Bj:Option PC:=cF [2] [] Tryz.f104 104 [1,3,4,6,19,8,16392,36]
def Ee:Nat->PC:=bk Bj
def ati:PC:=.block 0 [2,3,12,13] [3] (.loop [2,3,12] [3] (b 0))
def atj:PC:=.block 2 [4,29,30] [4] (.loop [4,29] [4] (b 1))
def Hx (b:Nat->PC):PT:=
 (.ite (af bG bK)
 (.blockS ⟨[],[]⟩ 1 [2,3,6,14,15,17,18,19,20,21,22,23,24] [6,19,3]
 (.chk (aj bI bG)
 (.chk (bl (.llen (.app o3 (.lst [(pc (.setc mX 0 (pn bI bG)) 0)]))) cj)
 (.call ⟨[(3,pN)],[(3,(.app o3 (.lst [(pc (.setc mX 0 (pn bI bG)) 0)])))]⟩ [] 23 101 [(pc (.setc mX 0 (pn bI bG)) 1),(pi 5)]
 (.ite (.nt mZ)
 (.ret pF)
 (.next ⟨[],[]⟩)))))
 (.next ⟨[(12,(bt bG (pi 1)))],[]⟩))
 (.exit 0 ⟨[(13,(af bG bK))],[]⟩))
def Ny (b:Nat->PC):PT:=
 (.ite (af lI qq)
 (.chk (aj gd lI)
 (.chk (bl (.llen agJ) cj)
 (.next ⟨[(4,pN),(29,(bt lI (pi 1)))],[(4,agJ)]⟩)))
 (.exit 2 ⟨[(30,(af lI qq))],[]⟩))
def Yg:PT:=
 (.brk ⟨[(12,(pi 0)),(11,rH),(10,xe),(4,pN),(3,pN),(2,pF)],[(4,pL),(3,pL),(1,(.mk [r0]))]⟩
(ati b)
 (.brk ⟨[(29,(pi 0)),(28,oW),(27,(pc o1 3))],[]⟩
(atj b)
 (.call ⟨[],[]⟩ [] 40 125 [o3,(pi 0),(pi 21)]
 (.call ⟨[(41,m3)],[]⟩ [(41,true)] 43 125 [o4,(pi 0),(pi 21)]
 (.ret (.pick vp vq pF))))))
def anV:PT×List (Shp×PT):=(Yg b,[(.lp 0 [2,3,12,13] [3] [2,3,12] [3],Hx b),(.lp 2 [4,29,30] [4] [4,29] [4],Ny b)])
def Mr:Bj.map told=some (anV (bf Bj)):=by kernel_rfl
def aAe:tree (ae Bj)=Yg Ee:=bA Mr
def Vz:round 0 [2,3,12,13] [3] [2,3,12] [3] (Ee 0)=Hx Ee:=aT Mr 0 λ_=>rfl
def ahT:round 2 [4,29,30] [4] [4,29] [4] (Ee 1)=Ny Ee:=aT Mr 1 λ_=>rfl
def Bm:Option PC:=cF [2,3] [] Tryz.f105 105 [1,4,6]
def Eg:Nat->PC:=bk Bm
def atn:PC:=.block 2 [2,50,51] [] (.loop [2,50] [] (b 0))
def ato:PC:=.block 0 [2,14,15] [] (.loop [2,14] [] (b 1))
def Dr (b:Nat->PC):PT:=
 (.ite (af m4 rN)
 (.chk (aj nS m4)
 (.ite (.pick (ab (pc (.setc z3 0 (pn nS m4)) 0) (pc o4 0)) (ab (pc (.setc z3 0 (pn nS m4)) 1) (pc o4 1)) pF)
 (.ret (pi 5))
 (.next ⟨[(50,(bt m4 (pi 1)))],[]⟩)))
 (.exit 2 ⟨[(51,(af m4 rN))],[]⟩))
def HA:PT:=
 (.ite vd
 (.blockS ⟨[(15,vd)],[]⟩ 1 [2,3,4,16,17,18,19,20,21,22,23,24,25,26,34,35,39,40,44,45,46,47,48,49,50,51] [4]
 (.chk (aj bG bU)
 (.call ⟨[(3,bU)],[(4,(.setc z3 0 (pn bG bU)))]⟩ [] 24 101 [(pc (.setc z3 0 (pn bG bU)) 0),mU]
 (.call ⟨[(26,(.nt oY))],[]⟩ [(26,false)] 32 101 [(pc o4 1),mU]
 (.ite (.pick (.pick (.pick kU pT (.nt kV)) pT (af (pc o4 2) (pi 1))) pT (aR (pc o4 2) (pi 20000)))
 (.ret (pi 1))
 (.chk (.slok (pc o1 5) (pi 0) r3)
 (.brk ⟨[(50,(pi 0)),(49,(.llen (.slc (pc o1 5) (pi 0) r3))),(48,(.slc (pc o1 5) (pi 0) r3))],[]⟩
(atn b)
 (.next ⟨[],[]⟩)))))))
 (.next ⟨[(14,(bt bU (pi 1)))],[]⟩))
 (.exit 0 ⟨[(15,vd)],[]⟩))
def Yj:PT:=
 (.ite (aR (.llen (pc (.mk [r0]) 5)) (pi 100))
 (.ret (pi 6))
 (.brk ⟨[(14,(pi 0)),(13,(.llen (pc (.mk [r0]) 5))),(12,(pc (.mk [r0]) 5)),(2,(pi 0))],[(1,(.mk [r0]))]⟩
(ato b)
 (.ret (pi 0))))
def anY:PT×List (Shp×PT):=(Yj b,[(.lp 2 [2,50,51] [] [2,50] [],Dr b),(.lp 0 [2,14,15] [] [2,14] [],HA b)])
def Mt:Bm.map told=some (anY (bf Bm)):=by kernel_rfl
def aAh:tree (ae Bm)=Yj Eg:=bA Mt
def Nz:round 2 [2,50,51] [] [2,50] [] (Eg 0)=Dr Eg:=aT Mt 0 λ_=>rfl
def VC:round 0 [2,14,15] [] [2,14] [] (Eg 1)=HA Eg:=aT Mt 1 λ_=>rfl
def Bk:Option PC:=cF [2] [] Tryz.f106 106 [1,4,6]
def Ef:Nat->PC:=bk Bk
def atk:PC:=.block 0 [2,14,15] [] (.loop [2,14] [] (b 0))
def atl:PC:=.block 2 [2,69,70] [] (.loop [2,69] [] (b 1))
def Hy (b:Nat->PC):PT:=
 (.ite vd
 (.blockS ⟨[],[]⟩ 1 [2,4,16,17,18,19,20,21,22,23,24,25,33,34,40,41,47,48,54,55,60] [4]
 (.chk (aj bG bU)
 (.call ⟨[],[(4,(.setc z5 0 (pn bG bU)))]⟩ [] 23 101 [(pc (.setc z5 0 (pn bG bU)) 0),w9]
 (.call ⟨[(25,(.nt mZ))],[]⟩ [(25,false)] 31 101 [(pc o4 1),w9]
 (.call ⟨[(41,(.pick (.pick eM pT (.nt rM)) pT (ab (pc o4 0) (pc o4 1))))],[]⟩ [(41,false)] 45 101 [(be (pc o4 2) (pi 1)),(pi 1073741824)]
 (.call ⟨[(48,(.pick vp pT (.nt pf)))],[]⟩ [(48,false)] 52 101 [(be (pc o4 3) (pi 1)),(pi 1073741824)]
 (.call ⟨[(55,(.pick nS pT (.nt Da)))],[]⟩ [(55,false)] 58 101 [(pc o4 4),(pi 100001)]
 (.ite (.pick zR pT (.nt GR))
 (.ret (pi 1))
 (.next ⟨[],[]⟩))))))))
 (.next ⟨[(14,(bt bU (pi 1)))],[]⟩))
 (.exit 0 ⟨[(15,vd)],[]⟩))
def Hz (b:Nat->PC):PT:=
 (.ite (af tw Dc)
 (.blockS ⟨[],[]⟩ 3 [2,6,71,72,73,74,75,76,77,78,79,80,84,85,91,92,96] [6]
 (.chk (aj qt tw)
 (.call ⟨[],[(6,(.setc z3 0 (pn qt tw)))]⟩ [] 78 101 [(pc (.setc z3 0 (pn qt tw)) 0),qn]
 (.ite (.pick (.pick (.pick (.nt UM) pT (af (pc o6 1) (pi 0))) pT (aR (pc o6 1) (pc o6 2))) pT (aR (pc o6 2) (pi 100000)))
 (.ret (pi 1))
 (.next ⟨[],[]⟩))))
 (.next ⟨[(69,(bt tw (pi 1)))],[]⟩))
 (.exit 2 ⟨[(70,(af tw Dc))],[]⟩))
def Yh:PT:=
 (.ite (aR (.llen (pc (.mk [r0]) 6)) (pi 100))
 (.ret (pi 6))
 (.brk ⟨[(14,(pi 0)),(13,(.llen (pc (.mk [r0]) 6))),(12,(pc (.mk [r0]) 6)),(2,(pi 0))],[(1,(.mk [r0]))]⟩
(atk b)
 (.ite (aR zI (pi 20))
 (.ret (pi 6))
 (.brk ⟨[(69,(pi 0)),(68,zI),(67,(pc o1 7))],[]⟩
(atl b)
 (.ret (pi 0))))))
def anW:PT×List (Shp×PT):=(Yh b,[(.lp 0 [2,14,15] [] [2,14] [],Hy b),(.lp 2 [2,69,70] [] [2,69] [],Hz b)])
def Ms:Bk.map told=some (anW (bf Bk)):=by kernel_rfl
def aAf:tree (ae Bk)=Yh Ef:=bA Ms
def VA:round 0 [2,14,15] [] [2,14] [] (Ef 0)=Hy Ef:=aT Ms 0 λ_=>rfl
def VB:round 2 [2,69,70] [] [2,69] [] (Ef 1)=Hz Ef:=aT Ms 1 λ_=>rfl
def Ks:Option PC:=cF [4] [] Tryz.f75 75 []
def YV:PT:=
 (.ret MM)
def agc:Ks.map told=some (YV,[]):=by kernel_rfl
def aAU:tree (ae Ks)=YV:=aO agc
def Kt:Option PC:=cF [2,8,19,40] [] Tryz.f76 76 [1,3]
def YW:PT:=
 (.ite (.pick (ab (pc ga 0) (pi 0)) (ab (pc ga 0) (pi 0)) (ab (pc ga 0) (pi 4)))
 (.ret (.pick (ab (pc ga 1) (pi 0)) (ab (pc ga 2) (pi 0)) pF))
 (.ite (.pick (ab (pc ga 0) (pi 1)) (ab (pc ga 0) (pi 1)) (ab (pc ga 0) (pi 2)))
 (.ret agZ)
 (.ite (ab (pc ga 0) (pi 3))
 (.ret (.pick (.pick (bP (pc ga 1) (pc (.mk [r0]) 8)) (bl (pc ga 1) (pi 100000)) pF) (ab (pc ga 2) (pi 0)) pF))
 (.ret pF))))
def agd:Kt.map told=some (YW,[]):=by kernel_rfl
def aAV:tree (ae Kt)=YW:=aO agd
def yf:Option PC:=cF [6,7] [] Tryz.f77 77 [3,9]
def PH:Nat->PC:=bk yf
def atb:PC:=.block 0 [6,7,13,14] [] (.loop [6,7,13] [] (b 0))
def xm (b:Nat->PC):PT:=
 (.ite (af dk bG)
 (.chk (aj bK dk)
 (.ite (.pick (ab (pc (.setc z3 0 (pn bK dk)) 0) r1) (ab (pc (.setc z3 0 (pn bK dk)) 1) r2) pF)
 (.ret (.tup [(pc (.setc z3 0 (pn bK dk)) 2),(pi 0)]))
 (.next ⟨[(13,(bt dk (pi 1)))],[]⟩)))
 (.exit 0 ⟨[(14,(af dk bG))],[]⟩))
def Oi:PT:=
 (.brk ⟨[(13,(pi 0)),(12,(.llen (pc (.mk [r0]) 5))),(11,(pc (.mk [r0]) 5)),(7,(pi 0)),(6,(pi 0))],[]⟩
(atb b)
 (.ret (.tup [(pi 0),(pi 4)])))
def anQ:PT×List (Shp×PT):=(Oi b,[(.lp 0 [6,7,13,14] [] [6,7,13] [],xm b)])
def TE:yf.map told=some (anQ (bf yf)):=by kernel_rfl
def aiV:tree (ae yf)=Oi PH:=bA TE
def Dp:round 0 [6,7,13,14] [] [6,7,13] [] (PH 0)=xm PH:=aT TE 0 λ_=>rfl
def AE:Option PC:=cF [6,8,9,76,92,98] [] Tryz.f56 56 [3,4,7,11]
def Pc:Nat->PC:=bk AE
def asn:PC:=.block 0 [8,9,51,52] [] (.loop [8,9,51] [] (b 0))
def Nc (b:Nat->PC):PT:=
 (.ite (af m5 m4)
 (.chk (aj rN m5)
 (.next ⟨[(8,(pc (.setc z9 0 (pn rN m5)) 6)),(9,(.pick r9 pT (.pick (.pick (ab (pc o7 0) (pi 1)) (ab (pc (.setc z9 0 (pn rN m5)) 0) (pi 1)) pF) (ab (pc (.setc z9 0 (pn rN m5)) 1) (pc o7 1)) pF))),(51,(bt m5 (pi 1)))],[]⟩))
 (.exit 0 ⟨[(52,(af m5 m4))],[]⟩))
def WY:PT:=
 (.chk (aj C1 r2)
 (.call ⟨[],[(7,mg),(4,(.mk [r1])),(3,(.mk [r0]))]⟩ [] 23 57 [(pc mg 1),(pi 0),(be (pc (.mk [r1]) 14) (pi 1))]
 (.ite (.nt mZ)
 (.ret (pi 15))
 (.call ⟨[],[]⟩ [] 31 57 [(pc o7 2),(pi 0),zL]
 (.call ⟨[(33,(.nt rM))],[]⟩ [(33,false)] 40 57 [(pc o7 7),(pi 0),(be (.llen (pc o3 1)) (pi 1))]
 (.ite (.pick vn pT (.nt m3))
 (.ret (pi 1))
 (.chk (.slok (pc o4 15) (pi 0) r2)
 (.brk ⟨[(51,(pi 0)),(50,(.llen (.slc (pc o4 15) (pi 0) r2))),(49,(.slc (pc o4 15) (pi 0) r2)),(9,pF),(8,(pc o4 8))],[]⟩
(asn b)
 (.blockS ⟨[],[]⟩ 2 [6,76,77,78,79,80,81,82,91,92,93,94,95,96,97,98,99] []
 (.call ⟨[],[]⟩ [] 80 57 [(pc o7 6),r8,(pi 100000)]
 (.iteS ⟨[],[]⟩ (.pick (.nt tz) pT (.pick (ab r2 (pi 0)) (aH (pc o7 6) r8) pF)) [6,92,93,94,95,96,97,98,99] []
 (.ret (pi 13))
 (.call ⟨[],[]⟩ [] 96 78 [(au 8 o3),(au 19 o4),r2]
 (.ite (.nt UP)
 (.ret (pi 14))
 (.ite r9
 (.ret (pi 5))
 (.next ⟨[],[]⟩))))
 (.next ⟨[],[]⟩)))
 (.ret (pi 0)))))))))))
def anc:PT×List (Shp×PT):=(WY b,[(.lp 0 [8,9,51,52] [] [8,9,51] [],Nc b)])
def S9:AE.map told=some (anc (bf AE)):=by kernel_rfl
def ayG:tree (ae AE)=WY Pc:=bA S9
def ahD:round 0 [8,9,51,52] [] [8,9,51] [] (Pc 0)=Nc Pc:=aT S9 0 λ_=>rfl
def Jd:Option PC:=cF [6] [] Tryz.f57 57 []
def WX:PT:=
 (.ret (.pick (bP r0 r1) (bl r0 r2) pF))
def aeW:Jd.map told=some (WX,[]):=by kernel_rfl
def ayF:tree (ae Jd)=WX:=aO aeW
def Jc:Option PC:=cF [6,9,10,66,103,113,11,140,149] [] Tryz.f78 78 [3,4,7,8]
def WW:PT:=
 (.chk (aj C1 r2)
 (.ite (.pick (.cb .neq (ab r2 (pi 0)) (ab (pc mg 0) (pi 0))) pT (.pick (aH (pc mg 0) (pi 2)) (aH (pc mg 4) (pi (-1))) pF))
 (.ret pF)
 (.ite (.pick (.pick (aH (pc mg 0) (pi 3)) (aH (pc mg 0) (pi 4)) pF) (aH (pc mg 3) (pi (-1))) pF)
 (.ret pF)
 (.call ⟨[(9,(.pick (ab (pc mg 5) (pi 0)) (ab (pc mg 8) (pi 0)) pF))],[(8,(.setc kz 0 kq)),(7,mg),(4,(.mk [r1])),(3,(.mk [r0]))]⟩ [] 58 57 [(pc mg 5),(pi 1),lF]
 (.blockS ⟨[(65,(pc o7 0)),(10,(.pick GR (ab (pc o7 8) (pi 0)) pF))],[]⟩ 0 [6,66,67,103,104,113,114,140,141,149,150] []
 (.iteS ⟨[],[]⟩ (ab vt (pi 0)) [6,103,104,113,114,140,141,149,150] []
 (.ret (.pick (.pick (.pick (.pick (.pick (ab (pc o7 2) (pc o8 0)) (ab (pc o7 5) (pi 0)) pF) (ab (.ai .or .i64 (pc o7 8) (pi 1)) (pi 1)) pF) (ab (pc o7 1) (pi 0)) pF) (ab (pc o7 6) (pc o8 8)) pF) (ab (pc o7 7) (pc o8 9)) pF))
 (.iteS ⟨[],[]⟩ (ab vt (pi 1)) [6,113,114,140,141,149,150] []
 (.ret (.pick (ab (pc o7 2) (pc o8 1)) bI pF))
 (.iteS ⟨[],[]⟩ (ab vt (pi 2)) [6,140,141,149,150] []
 (.call ⟨[(11,(pi 6))],[]⟩ [] 121 57 [(pc o7 4),(pi (-1)),zL]
 (.call ⟨[(127,(.pick ahd (ab (pc o7 5) (pi 0)) pF))],[]⟩ [(127,true)] 130 57 [(pc o7 8),(pi 0),(pi 7)]
 (.ret (.pick (.pick MZ (.r 130) pF) (aH (.ai .and .i64 (pc o7 8) bK) bK) pF))))
 (.iteS ⟨[],[]⟩ (ab vt (pi 3)) [6,149,150] []
 (.call ⟨[(143,r9)],[]⟩ [(143,true)] 147 107 [(au 19 o4),r2,(.lst [(pi 0),(pi 1),(pi 2),(pi 4)])]
 (.ret (.pick (.r 143) (.r 147) pF)))
 (.iteS ⟨[],[]⟩ (ab vt (pi 4)) [6] []
 (.call ⟨[(159,(.pick bI (aH (pc o7 2) (pc o8 1)) pF))],[]⟩ [(159,true)] 163 107 [(au 19 o4),r2,(.lst [(pi 0),(pi 2)])]
 (.ret (.pick (.r 159) (.r 163) pF)))
 (.next ⟨[],[]⟩)
 (.next ⟨[],[]⟩))
 (.next ⟨[],[]⟩))
 (.next ⟨[],[]⟩))
 (.next ⟨[],[]⟩))
 (.next ⟨[],[]⟩))
 (.ret pF))))))
def aeV:Jc.map told=some (WW,[]):=by kernel_rfl
def ayE:tree (ae Jc)=WW:=aO aeV
def Jb:Option PC:=cF [6,7] [] Tryz.f107 107 [3]
def WU:PT:=
 (.chk (aj mj r1)
 (.call ⟨[(7,(pc (pn mj r1) 3))],[(3,(.mk [r0]))]⟩ [] 17 57 [(pc (pn mj r1) 3),(pi 0),(be r1 (pi 1))]
 (.chk (.nt (.an (.an kT pT) (.nt (aj (pc o3 15) r1))))
 (.call ⟨[(18,kT)],[]⟩ [(18,true)] 27 108 [(au 19 o3),r7,(pc (pn (pc o3 15) r1) 1)]
 (.chk (.nt (.an (.an (.pick ju gd pF) pT) (.nt (aj (pc o3 15) r7))))
 (.call ⟨[(29,(.pick ju gd pF))],[]⟩ [(29,true)] 37 18 [r2,(pc (pn (pc o3 15) r7) 0)]
 (.ret (.pick lI iw pF))))))))
def aeU:Jb.map told=some (WU,[]):=by kernel_rfl
def ayC:tree (ae Jb)=WU:=aO aeU
def Je:Option PC:=cF [6] [] Tryz.f108 108 [3]
def N7:PT:=
 (.chk (.nt (.an (.an (.nt (ab r1 (pi 0))) pT) (.nt (aj mj r1))))
 (.ret (.pick (ab r1 (pi 0)) pT (ab (pc (pn mj r1) 1) r2))))
def aeX:Je.map told=some (N7,[]):=by kernel_rfl
def ayH:tree (ae Je)=N7:=aO aeX
def Kb:Option PC:=cF [4] [] Tryz.f18 18 []
def Yt:PT:=
 (.call ⟨[],[]⟩ [] 7 50 [r0,r1]
 (.ret (bP r7 (pi 0))))
def afV:Kb.map told=some (Yt,[]):=by kernel_rfl
def aAs:tree (ae Kb)=Yt:=aO afV
def Bv:Option PC:=cF [4,5] [] Tryz.f50 50 []
def PU:Nat->PC:=bk Bv
def atA:PC:=.block 0 [4,8,9] [] (.loop [4,8] [] (b 0))
def HK (b:Nat->PC):PT:=
 (.ite (af r8 r7)
 (.chk (aj r0 r8)
 (.ite (ab r1 (pn r0 r8))
 (.ret r8)
 (.next ⟨[(8,nQ)],[]⟩)))
 (.exit 0 ⟨[(9,(af r8 r7))],[]⟩))
def Yz:PT:=
 (.brk ⟨[(8,(pi 0)),(7,(.llen r0)),(4,(pi 0))],[]⟩
(atA b)
 (.ret (pi (-1))))
def an7:PT×List (Shp×PT):=(Yz b,[(.lp 0 [4,8,9] [] [4,8] [],HK b)])
def TO:Bv.map told=some (an7 (bf Bv)):=by kernel_rfl
def aAy:tree (ae Bv)=Yz PU:=bA TO
def VO:round 0 [4,8,9] [] [4,8] [] (PU 0)=HK PU:=aT TO 0 λ_=>rfl
def AB:Option PC:=cF [4,5,7] [] Tryz.f58 58 [2,3,6]
def Pa:Nat->PC:=bk AB
def asj:PC:=.block 0 [4,11,12] [] (.loop [4,11] [] (b 0))
def Na (b:Nat->PC):PT:=
 (.ite (af bK bI)
 (.blockS ⟨[],[]⟩ 1 [4,5,6,7,13,14,15,16,17,18,19,20,21,22,23,24,25,26,27,28,29,30,31,32,37,38,39,40,41,42,43,44,45,46,47,48,58,59,69,70,71,72,73] [6]
 (.chk (aj r9 bK)
 (.call ⟨[(5,bK)],[(6,(.setc z9 0 (pn r9 bK)))]⟩ [] 22 57 [(pc (.setc z9 0 (pn r9 bK)) 3),(pi 0),(be (pc o3 14) (pi 1))]
 (.ite (.nt UH)
 (.ret (pi 15))
 (.call ⟨[],[]⟩ [] 30 57 [(pc o6 7),(pi 0),(be (.llen (pc o2 1)) (pi 1))]
 (.call ⟨[(32,(.nt m0))],[]⟩ [(32,false)] 35 57 [(pc o6 0),(pi 0),(pi 9)]
 (.ite (.pick kV pT (.nt tu))
 (.ret (pi 1))
 (.call ⟨[],[]⟩ [] 41 79 [(au 8 o2),(au 19 o3),(au 9 o6)]
 (.ite (.nt vp)
 (.ret (pi 14))
 (.ite (aH (pc o6 4) (pi (-1)))
 (.chk (aj (pc o3 15) (pc o6 4))
 (.ite (aR r5 (pi 0))
 (.chk (aj (pc o3 17) (be r5 (pi 1)))
 (.call ⟨[],[]⟩ [] 72 57 [(pc o6 6),(.mx (.mx (pc o3 8) (pc (pn (pc o3 15) (pc o6 4)) 6)) (pc (pn (pc o3 17) (be r5 (pi 1))) 6)),(pi 100000)]
 (.ite (.nt zT)
 (.ret (pi 13))
 (.next ⟨[],[]⟩))))
 (.call ⟨[],[]⟩ [] 72 57 [(pc o6 6),(.mx (pc o3 8) (pc (pn (pc o3 15) (pc o6 4)) 6)),(pi 100000)]
 (.ite (.nt zT)
 (.ret (pi 13))
 (.next ⟨[],[]⟩)))))
 (.ite (aR r5 (pi 0))
 (.chk (aj (pc o3 17) (be r5 (pi 1)))
 (.call ⟨[],[]⟩ [] 72 57 [(pc o6 6),(.mx (pc o3 8) (pc (pn (pc o3 17) (be r5 (pi 1))) 6)),(pi 100000)]
 (.ite (.nt zT)
 (.ret (pi 13))
 (.next ⟨[],[]⟩))))
 (.call ⟨[],[]⟩ [] 72 57 [(pc o6 6),(pc o3 8),(pi 100000)]
 (.ite (.nt zT)
 (.ret (pi 13))
 (.next ⟨[],[]⟩)))))))))))))
 (.next ⟨[(11,(bt bK (pi 1)))],[]⟩))
 (.exit 0 ⟨[(12,(af bK bI))],[]⟩))
def WT:PT:=
 (.brk ⟨[(11,(pi 0)),(10,(.llen C0)),(9,C0),(4,(pi 0))],[(3,(.mk [r1])),(2,(.mk [r0]))]⟩
(asj b)
 (.ret (pi 0)))
def ana:PT×List (Shp×PT):=(WT b,[(.lp 0 [4,11,12] [] [4,11] [],Na b)])
def S7:AB.map told=some (ana (bf AB)):=by kernel_rfl
def ayB:tree (ae AB)=WT Pa:=bA S7
def ahB:round 0 [4,11,12] [] [4,11] [] (Pa 0)=Na Pa:=aT S7 0 λ_=>rfl
def Ja:Option PC:=cF [6,7,8,9,65,80,100,111] [] Tryz.f79 79 [3,4,5]
def WS:PT:=
 (.call ⟨[],[(5,(.mk [r2])),(4,(.mk [r1])),(3,(.mk [r0]))]⟩ [] 16 57 [(pc (.mk [r2]) 4),(pi 0),(be (.llen C1) (pi 1))]
 (.call ⟨[(17,dH)],[]⟩ [(17,true)] 23 108 [(au 19 o4),(pc o5 4),(pc o5 3)]
 (.chk (.nt (.an (.an (.pick kT mZ pF) pT) (.nt (aj (pc o4 15) (pc o5 4)))))
 (.call ⟨[(8,(.pick (.pick kT mZ pF) Uj pF)),(7,(.pick kT mZ pF))],[]⟩ [] 44 57 [(pc o5 2),(pi 0),zL]
 (.call ⟨[(9,zQ)],[]⟩ [] 51 57 [(pc o5 1),(pi 0),zL]
 (.ite (.pick (.nt m5) pT (.pick (aH (pc o5 0) (pi 4)) (aH (pc o5 8) (pi 0)) pF))
 (.ret pF)
 (.blockS ⟨[(64,(pc o5 0))],[]⟩ 0 [6,65,66,80,81,100,101,111,112] []
 (.iteS ⟨[],[]⟩ (.pick (ab kW (pi 0)) (ab kW (pi 0)) (.pick (ab kW (pi 1)) (ab kW (pi 1)) (ab kW (pi 2)))) [6,80,81,100,101,111,112] []
 (.ret (.pick (.pick r9 (ab (pc o5 4) (pi (-1))) pF) vg pF))
 (.iteS ⟨[],[]⟩ (.pick (ab kW (pi 3)) (ab kW (pi 3)) (.pick (ab kW (pi 5)) (ab kW (pi 5)) (ab kW (pi 4)))) [6,100,101,111,112] []
 (.call ⟨[(90,(.pick r9 (ab (pc o5 4) (pi (-1))) pF))],[]⟩ [(90,true)] 93 57 [(pc o5 5),(pi 0),lF]
 (.call ⟨[(95,(.pick r90 M5 pF))],[]⟩ [(95,true)] 98 57 [(pc o5 8),(pi 0),(pi 1)]
 (.ret (.pick r95 r98 pF))))
 (.iteS ⟨[],[]⟩ (ab kW (pi 6)) [6,111,112] []
 (.call ⟨[(106,(.pick r9 r8 pF))],[]⟩ [(106,true)] 109 57 [(pc o5 5),(pi 1),lF]
 (.ret (.pick avR avS pF)))
 (.ite (ab kW (pi 9))
 (.ret (.pick (.pick zN r8 pF) vg pF))
 (.next ⟨[],[]⟩))
 (.next ⟨[],[]⟩))
 (.next ⟨[],[]⟩))
 (.next ⟨[],[]⟩))
 (.ret (.pick (.pick zN r7 pF) vg pF)))))))))
def aeT:Ja.map told=some (WS,[]):=by kernel_rfl
def ayA:tree (ae Ja)=WS:=aO aeT
def AD:Option PC:=cF [2,3] [] Tryz.f59 59 [1,4,5]
def Pb:Nat->PC:=bk AD
def asl:PC:=.block 0 [2,9,10] [] (.loop [2,9] [] (b 0))
def Nb (b:Nat->PC):PT:=
 (.ite (af r9 r8)
 (.blockS ⟨[],[]⟩ 1 [2,3,4,11,12,13,14,15,16,17,18,27,28,33,34,35] [4]
 (.chk (aj r7 r9)
 (.call ⟨[(3,r9)],[(4,(.setc z3 0 (pn r7 r9)))]⟩ [] 16 57 [(pc (.setc z3 0 (pn r7 r9)) 0),(pi 0),(pi 4)]
 (.call ⟨[(18,(.nt dH))],[]⟩ [(18,false)] 25 57 [(pc o4 1),(pi 0),(be (.llen (pc o1 15)) (pi 1))]
 (.call ⟨[(28,(.pick ju pT (.nt eM)))],[]⟩ [(28,false)] 31 57 [(pc o4 2),(pi 0),(pi 1)]
 (.ite (.pick qq pT (.nt rM))
 (.ret (pi 1))
 (.ite (ab r3 (pi 0))
 (.exit 1 ⟨[],[]⟩)
 (.chk (aj (pc o1 18) (be r3 (pi 1)))
 (.call ⟨[],[(5,(.setc z3 0 (pn (pc o1 18) (be r3 (pi 1)))))]⟩ [] 46 81 [(pc (.setc z3 0 (pn (pc o1 18) (be r3 (pi 1)))) 1),(pc o4 1)]
 (.call ⟨[],[]⟩ [] 51 81 [(pc o5 0),(pc o4 0)]
 (.call ⟨[],[]⟩ [] 53 80 [(.lst [GQ,m5])]
 (.ite (bP M2 (pi 0))
 (.ret (pi 5))
 (.next ⟨[],[]⟩))))))))))))
 (.next ⟨[(9,(bt r9 (pi 1)))],[]⟩))
 (.exit 0 ⟨[(10,(af r9 r8))],[]⟩))
def WV:PT:=
 (.brk ⟨[(9,(pi 0)),(8,(.llen vj)),(7,vj),(2,(pi 0))],[(1,(.mk [r0]))]⟩
(asl b)
 (.ret (pi 0)))
def anb:PT×List (Shp×PT):=(WV b,[(.lp 0 [2,9,10] [] [2,9] [],Nb b)])
def S8:AD.map told=some (anb (bf AD)):=by kernel_rfl
def ayD:tree (ae AD)=WV Pb:=bA S8
def ahC:round 0 [2,9,10] [] [2,9] [] (Pb 0)=Nb Pb:=aT S8 0 λ_=>rfl
def IS:Option PC:=cF [4,5,6] [] Tryz.f81 81 []
def Ws:PT:=
 (.call ⟨[],[]⟩ [] 8 109 [r0]
 (.call ⟨[(5,r8)],[]⟩ [] 10 109 [r1]
 (.ite r5
 (.ite bI
 (.ret (pi 0))
 (.ret (pi (-1))))
 (.ite bI
 (.ret (pi 1))
 (.ite (af r0 r1)
 (.ret (pi (-1)))
 (.ite (aR r0 r1)
 (.ret (pi 1))
 (.ret (pi 0))))))))
def aeA:IS.map told=some (Ws,[]):=by kernel_rfl
def aya:tree (ae IS)=Ws:=aO aeA
def IT:Option PC:=cF [2] [] Tryz.f109 109 []
def Wu:PT:=
 (.ret (aH r0 r0))
def aeB:IT.map told=some (Wu,[]):=by kernel_rfl
def ayc:tree (ae IT)=Wu:=aO aeB
def Au:Option PC:=cF [2,3,5] [] Tryz.f80 80 []
def O3:Nat->PC:=bk Au
def asa:PC:=.block 0 [2,8,9] [] (.loop [2,8] [] (b 0))
def GS (b:Nat->PC):PT:=
 (.ite (af r8 r7)
 (.chk (aj r6 r8)
 (.ite (aH (pn r6 r8) r3)
 (.ret (pn r6 r8))
 (.next ⟨[(8,nQ)],[]⟩)))
 (.exit 0 ⟨[(9,(af r8 r7))],[]⟩))
def Wt:PT:=
 (.brk ⟨[(8,(pi 0)),(7,(.llen r0)),(6,r0),(3,(pi 0)),(2,(pi 0))],[]⟩
(asa b)
 (.ret r3))
def am2:PT×List (Shp×PT):=(Wt b,[(.lp 0 [2,8,9] [] [2,8] [],GS b)])
def SW:Au.map told=some (am2 (bf Au)):=by kernel_rfl
def ayb:tree (ae Au)=Wt O3:=bA SW
def UT:round 0 [2,8,9] [] [2,8] [] (O3 0)=GS O3:=aT SW 0 λ_=>rfl
def IZ:Option PC:=cF [3] [] Tryz.f25 25 [2]
def WD:PT:=
 (.call ⟨[],[]⟩ [] 7 26 [(.deref r1),lG]
 (.ret (.nt r7)))
def aeI:IZ.map told=some (WD,[]):=by kernel_rfl
def aym:tree (ae IZ)=WD:=aO aeI
def I5:Option PC:=cF [4] [] Tryz.f26 26 [2]
def WM:PT:=
 (.ret (.pick (bP r1 (pi 0)) (af r1 (.llen (pc (.mk [r0]) 3))) pF))
def aeO:I5.map told=some (WM,[]):=by kernel_rfl
def ayv:tree (ae I5)=WM:=aO aeO
def I0:Option PC:=cF [2] [] Tryz.f27 27 []
def WE:PT:=
 (.ret (.pick (af (pc (.deref r0) 1) (pi 0)) pT (bP (pc (.deref r0) 1) (pc (.sub (.deref r1) 0 15) 14))))
def aeJ:I0.map told=some (WE,[]):=by kernel_rfl
def ayn:tree (ae I0)=WE:=aO aeJ
def I1:Option PC:=cF [2] [] Tryz.f28 28 []
def WG:PT:=
 (.call ⟨[],[]⟩ [] 6 26 [(.deref r0),(pc (.deref r1) 2)]
 (.ret (.nt r6)))
def aeK:I1.map told=some (WG,[]):=by kernel_rfl
def ayo:tree (ae I1)=WG:=aO aeK
def I2:Option PC:=cF [1] [] Tryz.f29 29 []
def WH:PT:=
 (.ret (aR (.llen (pc (.deref r0) 5)) (pi 20)))
def aeL:I2.map told=some (WH,[]):=by kernel_rfl
def ayp:tree (ae I2)=WH:=aO aeL
def I3:Option PC:=cF [2] [] Tryz.f30 30 []
def WI:PT:=
 (.call ⟨[],[]⟩ [] 6 31 [(pc (.deref r0) 5),(.deref r1)]
 (.ret r6))
def aeM:I3.map told=some (WI,[]):=by kernel_rfl
def ayq:tree (ae I3)=WI:=aO aeM
def J9:Option PC:=cF [4] [] Tryz.f31 31 []
def Yr:PT:=
 (.call ⟨[],[]⟩ [] 7 60 [r0,r1]
 (.ret (bP r7 (pi 0))))
def afT:J9.map told=some (Yr,[]):=by kernel_rfl
def aAq:tree (ae J9)=Yr:=aO afT
def Bs:Option PC:=cF [4,5] [] Tryz.f60 60 []
def PQ:Nat->PC:=bk Bs
def atx:PC:=.block 0 [4,8,9] [] (.loop [4,8] [] (b 0))
def HH (b:Nat->PC):PT:=
 (.ite (af r8 r7)
 (.blockS ⟨[],[]⟩ 1 [4,5,10,11,12,13,14,15,16] []
 (.chk (aj r0 r8)
 (.callc ⟨[(5,r8)],[]⟩ [] 16 r1 [(pn r0 r8)]
 (.ite dH
 (.ret r5)
 (.next ⟨[],[]⟩))))
 (.next ⟨[(8,nQ)],[]⟩))
 (.exit 0 ⟨[(9,(af r8 r7))],[]⟩))
def Yw:PT:=
 (.brk ⟨[(8,(pi 0)),(7,(.llen r0)),(4,(pi 0))],[]⟩
(atx b)
 (.ret (pi (-1))))
def an4:PT×List (Shp×PT):=(Yw b,[(.lp 0 [4,8,9] [] [4,8] [],HH b)])
def TL:Bs.map told=some (an4 (bf Bs)):=by kernel_rfl
def aAv:tree (ae Bs)=Yw PQ:=bA TL
def VL:round 0 [4,8,9] [] [4,8] [] (PQ 0)=HH PQ:=aT TL 0 λ_=>rfl
def I4:Option PC:=cF [2] [] Tryz.f32 32 []
def WJ:PT:=
 (.call ⟨[],[]⟩ [] 5 33 [(.deref r0),(.deref r1)]
 (.ret (.nt r5)))
def aeN:I4.map told=some (WJ,[]):=by kernel_rfl
def ayr:tree (ae I4)=WJ:=aO aeN
def AA:Option PC:=cF [4,5] [] Tryz.f33 33 [2,3,7]
def O9:Nat->PC:=bk AA
def asg:PC:=.block 0 [4,5,26,27] [] (.loop [4,5,26] [] (b 0))
def M9 (b:Nat->PC):PT:=
 (.ite (af kU eM)
 (.chk (aj oY kU)
 (.ite (af (pc (.setc mX 0 (pn oY kU)) 1) r5)
 (.ret pF)
 (.next ⟨[(5,(pc (.setc mX 0 (pn oY kU)) 1)),(26,(bt kU (pi 1)))],[]⟩)))
 (.exit 0 ⟨[(27,(af kU eM))],[]⟩))
def WL:PT:=
 (.ite (.pick (af (pc (.mk [r1]) 3) (pc (.mk [r0]) 8)) pT (af (pc (.mk [r1]) 4) (pc (.mk [r1]) 3)))
 (.ret pF)
 (.brk ⟨[(26,(pi 0)),(25,(.llen (pc (.mk [r1]) 5))),(24,(pc (.mk [r1]) 5)),(4,pF),(5,(pc (.mk [r1]) 4))],[]⟩
(asg b)
 (.ret (bl r5 (pi 100000)))))
def am8:PT×List (Shp×PT):=(WL b,[(.lp 0 [4,5,26,27] [] [4,5,26] [],M9 b)])
def S6:AA.map told=some (am8 (bf AA)):=by kernel_rfl
def ayu:tree (ae AA)=WL O9:=bA S6
def ahA:round 0 [4,5,26,27] [] [4,5,26] [] (O9 0)=M9 O9:=aT S6 0 λ_=>rfl
def IJ:Option PC:=cF [] [] Tryz.f36 36 [5,8,77832,10]
def Wm:PT:=
 (.call ⟨[],[(10,ve)]⟩ [] 18 66 [fN,r1,r2,agS]
 (.ret (au 5 (.setc bM 0 ju))))
def aet:IJ.map told=some (Wm,[]):=by kernel_rfl
def ax3:tree (ae IJ)=Wm:=aO aet
def II:Option PC:=cF [10] [] Tryz.f66 66 [4,7,8,9]
def Wl:PT:=
 (.call ⟨[],[(8,ve),(4,(.mk [r0]))]⟩ [] 16 89 [fN,r1,r2,(au 24 (.mk [r3]))]
 (.iteS ⟨[(10,(.tget dH 1))],[(9,(.setc ve 0 (.tget dH 0)))]⟩ (aH (pc (.setc ve 0 (.tget dH 0)) 2) (pi (-1))) [] [9]
 (.chk (aj (pc o4 4) (pc o9 2))
 (.call ⟨[],[]⟩ [] 31 90 [(pn (pc o4 4) (pc o9 2)),r2,bI]
 (.next ⟨[],[(9,(.setc (.setc o9 0 (.tget rM 0)) 4 (.tget rM 1)))]⟩)))
 (.next ⟨[],[]⟩)
 (.ret (au 5 (.setc o8 0 (au 5 o9))))))
def aes:II.map told=some (Wl,[]):=by kernel_rfl
def ax2:tree (ae II)=Wl:=aO aes
def IL:Option PC:=cF [9,11,12,13,14] [] Tryz.f89 89 [4,7,8,10,16394]
def Wo:PT:=
 (.call ⟨[],[(16394,pL),(10,(.setc ve 0 (.mk [cU,(pi (-1)),pL,(pi 1)]))),(8,ve),(7,(.mk [r3])),(4,(.mk [r0]))]⟩ [] 19 112 [fN,(au 24 (.mk [r3]))]
 (.ite (ab (.llen (.tget iY 1)) (pi 0))
 (.ret (.tup [Uw,pL]))
 (.call ⟨[(11,(.tget iY 1))],[(7,(.setc o7 0 (.tget iY 0)))]⟩ [] 28 113 [r2]
 (.ite (.nt (.tget qq 1))
 (.ret (.tup [Uw,pL]))
 (.call ⟨[],[]⟩ [] 37 114 [(au 8 o4),r1,(au 24 o7)]
 (.ite (ab (.llen iw) (pi 0))
 (.ret (.tup [Uw,pL]))
 (.call ⟨[],[]⟩ [] 46 115 [(au 8 o4),r1,r2,iw]
 (.ite (ab (pc zK 4) (pi 0))
 (.chk (aj (pc zK 3) (be (.llen (pc zK 3)) (pi 1)))
 (.ret (.tup [(au 5 (.setc o8 0 (au 5 (.setc zK 2 (pn (pc zK 3) (be (.llen (pc zK 3)) (pi 1))))))),bK])))
 (.ret (.tup [(au 5 (.setc o8 0 (au 5 zK))),bK]))))))))))
def aev:IL.map told=some (Wo,[]):=by kernel_rfl
def ax5:tree (ae IL)=Wo:=aO aev
def IM:Option PC:=cF [5] [] Tryz.f112 112 [2,3,4]
def Wp:PT:=
 (.call ⟨[],[(4,(.con (.agg [(.int 0),(.int 0),(.int 0),(.int 0),(.int 0),(.int 0),(.int 0),(.int 0),(.int 0),(.int 0),(.int 0),(.int 0),(.int 0),(.int 0),(.int 0),(.list []),(.list []),(.list []),(.list []),(.int 0),(.int 0),(.int 0),(.int 0),(.int 0)]))),(3,(.mk [r1])),(2,(.mk [r0]))]⟩ [] 10 17 [(au 19 (.mk [r1])),(pc (.mk [r1]) 23)]
 (.call ⟨[(12,(au 24 (.setc o3 0 bI)))],[]⟩ [] 15 126 [(au 8 o2),(au 24 (.setc o3 0 bI))]
 (.ret (.tup [(au 24 (.setc o4 0 bG)),fh]))))
def aew:IM.map told=some (Wp,[]):=by kernel_rfl
def ax6:tree (ae IM)=Wp:=aO aew
def Bn:Option PC:=cF [1000004,1000005] [] Tryz.f17 17 [2,4,65540,69636,73732,77828,5,65541,69637,73733,77829,7,31,9,49,11,13]
def tZ:Nat->PC:=bk Bn
def atp:PC:=.block 0 [20,21] [65541,5] (.loop [20] [65541,5] (b 0))
def atq:PC:=.block 2 [38,39] [73733,5] (.loop [38] [73733,5] (b 1))
def atr:PC:=.block 4 [56,57] [5,69637] (.loop [56] [5,69637] (b 2))
def ats:PC:=.block 6 [76,77] [5,77829] (.loop [76] [5,77829] (b 3))
def HB (b:Nat->PC):PT:=
 (.ite (af eD iY)
 (.chk (aj ju eD)
 (.ite (aR (pc (.setc z9 0 (pn ju eD)) 6) r1)
 (.exit 0 ⟨[(21,(af eD iY))],[]⟩)
 (.chk (bl (.llen (.app (.o 65541) (.lst [(au 9 (.setc z9 0 (pn ju eD)))]))) cj)
 (.next ⟨[(20,(bt eD (pi 1)))],[(65541,(.app (.o 65541) (.lst [(au 9 (.setc z9 0 (pn ju eD)))]))),(5,(.setc o5 15 pN))]⟩))))
 (.exit 0 ⟨[(21,(af eD iY))],[]⟩))
def HC (b:Nat->PC):PT:=
 (.ite (af fi iw)
 (.chk (aj nR fi)
 (.ite (aR (pc (.setc z9 0 (pn nR fi)) 6) r1)
 (.exit 2 ⟨[(39,(af fi iw))],[]⟩)
 (.chk (bl (.llen (.app (.o 73733) (.lst [(au 9 (.setc z9 0 (pn nR fi)))]))) cj)
 (.next ⟨[(38,(bt fi (pi 1)))],[(73733,(.app (.o 73733) (.lst [(au 9 (.setc z9 0 (pn nR fi)))]))),(5,(.setc o5 17 pN))]⟩))))
 (.exit 2 ⟨[(39,(af fi iw))],[]⟩))
def HD (b:Nat->PC):PT:=
 (.ite (af rP zR)
 (.chk (aj rO rP)
 (.ite (bl (pc (.setc z2 0 (pn rO rP)) 0) (.llen (.o 65541)))
 (.chk (bl (.llen agK) cj)
 (.next ⟨[(56,(bt rP (pi 1)))],[(5,(.setc o5 16 pN)),(69637,agK)]⟩))
 (.next ⟨[(56,(bt rP (pi 1)))],[]⟩)))
 (.exit 4 ⟨[(57,(af rP zR))],[]⟩))
def HE (b:Nat->PC):PT:=
 (.ite (af xh M3)
 (.blockS ⟨[],[]⟩ 7 [13,78,79,80,81,82,83,84,85] [13,77829,5]
 (.chk (aj UK xh)
 (.call ⟨[],[(13,(.setc z3 0 (pn UK xh)))]⟩ [] 85 49 [(pc (.setc z3 0 (pn UK xh)) 1),(.llen (.o 65541))]
 (.ite r85
 (.chk (bl (.llen (.app (.o 77829) (.lst [(.mk [(pc gT 0),(pc gT 1),(pc gT 2)])]))) cj)
 (.next ⟨[],[(77829,(.app (.o 77829) (.lst [(.mk [(pc gT 0),(pc gT 1),(pc gT 2)])]))),(5,(.setc o5 18 pN))]⟩))
 (.next ⟨[],[]⟩))))
 (.next ⟨[(76,(bt xh (pi 1)))],[]⟩))
 (.exit 6 ⟨[(77,(af xh M3))],[]⟩))
def Yk:PT:=
 (.brk ⟨[(20,(pi 0)),(19,(.llen mj)),(18,mj)],[(77829,pL),(73733,pL),(69637,pL),(65541,pL),(5,(.setc mf 0 (.mk [mi,pL,pL,pL,pL]))),(4,mf),(2,(.mk [r0]))]⟩
(atp b)
 (.brk ⟨[(38,(pi 0)),(37,tq),(36,(pc o2 17))],[]⟩
(atq b)
 (.brk ⟨[(56,(pi 0)),(55,zE),(54,(pc o2 16))],[]⟩
(atr b)
 (.brk ⟨[(76,(pi 0)),(75,zD),(74,(pc o2 18))],[]⟩
(ats b)
 (.ret (.mk [(pc mW 0),(pc mW 1),(pc mW 2),(pc mW 3),(pc mW 4),(pc mW 5),(pc mW 6),(pc mW 7),(pc mW 8),(pc mW 9),(pc mW 10),(pc mW 11),(pc mW 12),(pc mW 13),(pc mW 14),(.o 65541),(.o 69637),(.o 73733),(.o 77829)]))))))
def anZ:PT×List (Shp×PT):=(Yk b,[(.lp 0 [20,21] [65541,5] [20] [65541,5],HB b),(.lp 2 [38,39] [73733,5] [38] [73733,5],HC b),(.lp 4 [56,57] [5,69637] [56] [5,69637],HD b),(.lp 6 [76,77] [5,77829] [76] [5,77829],HE b)])
def CD:Bn.map told=some (anZ (bf Bn)):=by kernel_rfl
def aAi:tree (ae Bn)=Yk tZ:=bA CD
def VD:round 0 [20,21] [65541,5] [20] [65541,5] (tZ 0)=HB tZ:=aT CD 0 λ_=>rfl
def VE:round 2 [38,39] [73733,5] [38] [73733,5] (tZ 1)=HC tZ:=aT CD 1 λ_=>rfl
def VF:round 4 [56,57] [5,69637] [56] [5,69637] (tZ 2)=HD tZ:=aT CD 2 λ_=>rfl
def VG:round 6 [76,77] [5,77829] [76] [5,77829] (tZ 3)=HE tZ:=aT CD 3 λ_=>rfl
def J7:Option PC:=cF [4] [] Tryz.f49 49 []
def Yo:PT:=
 (.ret MM)
def afR:J7.map told=some (Yo,[]):=by kernel_rfl
def aAn:tree (ae J7)=Yo:=aO afR
end Rm
