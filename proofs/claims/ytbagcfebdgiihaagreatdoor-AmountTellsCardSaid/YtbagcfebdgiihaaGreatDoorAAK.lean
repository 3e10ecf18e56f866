import Derived.Test.YtbagcfebdgiihaaGreatDoorAAH
import Derived.KernelRfl
set_option maxRecDepth 100000
noncomputable section
set_option linter.all false
namespace Rm
open Go Go.Proofs Cx
def KP:Option PC:=cF [2,0] [] Tryz.f175 175 []
def aax:PT:=
 (.ite (aN r0 kT)
 (.chk (aN lR (pi 0))
 (.ite (aN vp (.con (.v (.int .u64 65536))))
 (.chk (aN xR (pi 0))
 (.ite (aN HO (.con (.v (.int .u64 256))))
 (.chk (aN qn (pi 0))
 (.chk (.sok kU (.conv .u8 (.ai .shr .u64 HO qn)))
 (.ret (ay (ay (ay (pi 32) (pi 16)) (pi 8)) (.conv .i64 (.sidx kU (.conv .u8 (.ai .shr .u64 HO qn))))))))
 (.chk (.sok kU (.conv .u8 HO))
 (.ret (ay (ay (pi 32) (pi 16)) (.conv .i64 (.sidx kU (.conv .u8 HO))))))))
 (.ite (aN vp (.con (.v (.int .u64 256))))
 (.chk (aN qn (pi 0))
 (.chk (.sok kU (.conv .u8 (.ai .shr .u64 vp qn)))
 (.ret (ay (ay (pi 32) (pi 8)) (.conv .i64 (.sidx kU (.conv .u8 (.ai .shr .u64 vp qn))))))))
 (.chk (.sok kU (.conv .u8 vp))
 (.ret (ay (pi 32) (.conv .i64 (.sidx kU (.conv .u8 vp)))))))))
 (.ite (aN r0 (.con (.v (.int .u64 65536))))
 (.chk (aN xR (pi 0))
 (.ite (aN (.ai .shr .u64 r0 xR) (.con (.v (.int .u64 256))))
 (.chk (aN qn (pi 0))
 (.chk (.sok kU (.conv .u8 (.ai .shr .u64 (.ai .shr .u64 r0 xR) qn)))
 (.ret (ay (ay (ay (pi 0) (pi 16)) (pi 8)) (.conv .i64 (.sidx kU (.conv .u8 (.ai .shr .u64 (.ai .shr .u64 r0 xR) qn))))))))
 (.chk (.sok kU (.conv .u8 (.ai .shr .u64 r0 xR)))
 (.ret (ay (ay (pi 0) (pi 16)) (.conv .i64 (.sidx kU (.conv .u8 (.ai .shr .u64 r0 xR)))))))))
 (.ite (aN r0 (.con (.v (.int .u64 256))))
 (.chk (aN qn (pi 0))
 (.chk (.sok kU (.conv .u8 (.ai .shr .u64 r0 qn)))
 (.ret (ay (ay (pi 0) (pi 8)) (.conv .i64 (.sidx kU (.conv .u8 (.ai .shr .u64 r0 qn))))))))
 (.chk (.sok kU (.conv .u8 r0))
 (.ret (ay (pi 0) (.conv .i64 (.sidx kU (.conv .u8 r0)))))))))
def ajh:KP.map told=some (aax,[]):=by kernel_rfl
def aDJ:tree (ab KP)=aax:=aD ajh
def Ky:Option PC:=cF [12,13,15,17] [] Tryz.f36 36 [6,7,14,16]
def aae:PT:=
 (.chk (ao (pc (.mk [r0]) 3) r2)
 (.chk (ao gJ (pc (pn (pc (.mk [r0]) 3) r2) 1))
 (.ite (ae HU (pc (.mk [r1]) 4))
 (.ret (pi 0))
 (.call ⟨[(13,HU)],[(7,(.mk [r1])),(6,(.mk [r0]))]⟩ [] 39 8 [fU,(pc (.mk [r1]) 4),HU,r4]
 (.call ⟨[(15,(.tget tn 1))],[(14,HR)]⟩ [] 48 8 [(ar 8 o6),cK,(pc o7 4),r5]
 (.ite (.pick (.nt bZ) pT (.nt (.tget hZ 1)))
 (.ret (pi 0))
 (.call ⟨[],[]⟩ [] 60 87 [r3,(.mk [(pc lO 0),(pc lO 1)]),(.mk [(pc (.setc z2 0 (.tget hZ 0)) 0),(pc (.setc z2 0 (.tget hZ 0)) 1)])]
 (.ret rF))))))))
def ai0:Ky.map told=some (aae,[]):=by kernel_rfl
def aDo:tree (ab Ky)=aae:=aD ai0
def KA:Option PC:=cF [6,7,8,9,10,11,12] [] Tryz.f87 87 [4,5]
def aag:PT:=
 (.ite (aN (.ai .mul .u64 (.conv .u64 vh) (.conv .u64 (pc (.mk [r2]) 0))) XM)
 (.ret (pi 0))
 (.call ⟨[(8,XM)],[]⟩ [] 36 134 [(.conv .u64 r0),(.ai .sub .u64 XM (.ai .mul .u64 (.conv .u64 vh) (.conv .u64 (pc (.mk [r2]) 0))))]
 (.call ⟨[],[]⟩ [] 43 135 [(.tget fM 0),(.tget fM 1),r8]
 (.ret (.conv .i64 (.tget rC 0))))))
def ai2:KA.map told=some (aag,[]):=by kernel_rfl
def aDq:tree (ab KA)=aag:=aD ai2
def Fy:Option PC:=cF [4] [] Tryz.f7 7 [2,3]
def aaO:PT:=
 (.call ⟨[],[(3,(.mk [r1])),(2,(.mk [r0]))]⟩ [] 7 13 [fU,(ar 19 (.mk [r1]))]
 (.call ⟨[(8,r7)],[]⟩ [(8,true)] 10 14 [(ar 8 o2)]
 (.call ⟨[(13,(.pick r8 (ae aZ (pi 0)) pF))],[]⟩ [(13,true)] 15 15 [(ar 19 o3)]
 (.call ⟨[(17,(.pick cK bZ pF))],[]⟩ [(17,true)] 20 16 [(ar 8 o2),(ar 19 o3)]
 (.ret (.pick dR (ae dt (pi 0)) pF))))))
def ajx:Fy.map told=some (aaO,[]):=by kernel_rfl
def aD1:tree (ab Fy)=aaO:=aD ajx
def B7:Option PC:=cF [4,5] [] Tryz.f13 13 [2,3]
def SP:Nat->PC:=aV B7
variable(b:Nat->PC)
def ayv:PC:=.block 0 [4,5,14,15,16,17,18] [] (.loop [4,5] [] (b 0))
def IU (b:Nat->PC):PT:=
 (.ite (aj r5 (.llen (pc o2 4)))
 (.blockS ⟨[],[]⟩ 1 [4,21,22,23,24,25,26,27] []
 (.chk (ao (pc o2 4) r5)
 (.call ⟨[],[]⟩ [] 26 51 [(pn (pc o2 4) r5)]
 (.ite (.nt lU)
 (.ret pF)
 (.next ⟨[],[]⟩))))
 (.next ⟨[(5,px)],[]⟩))
 (.exit 0 ⟨[(14,r5),(15,pN),(16,(pc o2 4)),(17,(.llen (pc o2 4))),(18,(aj r5 (.llen (pc o2 4))))],[]⟩))
def acj:PT:=
 (.call ⟨[(4,pF)],[(3,(.mk [r1])),(2,(.mk [r0]))]⟩ [] 7 19 [fU]
 (.call ⟨[(9,(.nt r7))],[]⟩ [(9,false)] 11 50 [(ar 19 o3)]
 (.ite (.pick r9 pT (.nt bJ))
 (.ret pF)
 (.brk ⟨[(5,(pi 0))],[]⟩
(ayv b)
 (.ret pT)))))
def as3:PT×List (Shp×PT):=(acj b,[(.lp 0 [4,5,14,15,16,17,18] [] [4,5] [],IU b)])
def WT:B7.map told=some (as3 (aU B7)):=by kernel_rfl
def aFL:tree (ab B7)=acj SP:=bk WT
def Zi:round 0 [4,5,14,15,16,17,18] [] [4,5] [] (SP 0)=IU SP:=aQ WT 0 λ_=>rfl
def BI:Option PC:=cF [2,3,4] [] Tryz.f19 19 [1]
def E9:Nat->PC:=aV BI
def axU:PC:=.block 0 [2,3,5,6,7,8,9,10,13] [] (.loop [2,3] [] (b 0))
def axV:PC:=.block 2 [2,4,44,45,46,47,48,49,52] [] (.loop [2,4] [] (b 1))
def AJ (b:Nat->PC):PT:=
 (.ite (.pick (aj r3 mB) (aj r3 (pi 50)) pF)
 (.chk (ao (pc o1 1) r3)
 (.chk (.nt (.an (.an (.nt (aS (.llen (pc (pn (pc o1 1) r3) 4)) (pi 70))) pT) (.nt (ao (pc o1 1) r3))))
 (.chk (.nt (.an (.an (.nt alP) pT) (.nt (ao (pc o1 1) r3))))
 (.ite (.pick alP pT (aS (.llen (pc (pn (pc o1 1) r3) 3)) (pi 8)))
 (.ret pF)
 (.next ⟨[(3,vi)],[]⟩)))))
 (.exit 0 ⟨[(5,r3),(6,pN),(7,(pc o1 1)),(8,mB),(9,(aj r3 mB)),(10,(aj r3 mB)),(13,(.pick (aj r3 mB) (aj r3 (pi 50)) pF))],[]⟩))
def D2 (b:Nat->PC):PT:=
 (.ite (.pick (aj r4 qp) (aj r4 (pi 50)) pF)
 (.chk (ao (pc o1 4) r4)
 (.chk (.nt (.an (.an (.nt (aS (.llen (pc (pn (pc o1 4) r4) 2)) (pi 40))) pT) (.nt (ao (pc o1 4) r4))))
 (.ite (.pick (aS (.llen (pc (pn (pc o1 4) r4) 2)) (pi 40)) pT (aS (.llen (pc (pn (pc o1 4) r4) 3)) (pi 40)))
 (.ret pF)
 (.next ⟨[(4,(ay r4 (pi 1)))],[]⟩))))
 (.exit 2 ⟨[(44,r4),(45,pN),(46,(pc o1 4)),(47,qp),(48,(aj r4 qp)),(49,(aj r4 qp)),(52,(.pick (aj r4 qp) (aj r4 (pi 50)) pF))],[]⟩))
def abx:PT:=
 (.brk ⟨[(3,(pi 0)),(2,pF)],[(1,(.mk [r0]))]⟩
(axU b)
 (.brk ⟨[(4,(pi 0))],[]⟩
(axV b)
 (.ret (.pick (.pick (.pick (.pick (.pick (.pick (.pick (aj xL (pi 50)) (aj mB (pi 50)) pF) (aj pq (pi 50)) pF) (aj po (pi 210)) pF) (aj qp (pi 50)) pF) (aj (.llen (pc o1 5)) (pi 110)) pF) (aj (.llen (pc o1 6)) (pi 110)) pF) (aj (.llen (pc o1 7)) (pi 50)) pF))))
def asD:PT×List (Shp×PT):=(abx b,[(.lp 0 [2,3,5,6,7,8,9,10,13] [] [2,3] [],AJ b),(.lp 2 [2,4,44,45,46,47,48,49,52] [] [2,4] [],D2 b)])
def OF:BI.map told=some (asD (aU BI)):=by kernel_rfl
def aEL:tree (ab BI)=abx E9:=bk OF
def Iq:round 0 [2,3,5,6,7,8,9,10,13] [] [2,3] [] (E9 0)=AJ E9:=aQ OF 0 λ_=>rfl
def P3:round 2 [2,4,44,45,46,47,48,49,52] [] [2,4] [] (E9 1)=D2 E9:=aQ OF 1 λ_=>rfl
def LH:Option PC:=cF [2] [] Tryz.f50 50 [1]
def abU:PT:=
 (.ret (.pick (.pick (.pick (aY (.llen pk) (pi 50)) (aY (.llen (pc (.mk [r0]) 16)) (pi 10)) pF) (aY (.llen (pc (.mk [r0]) 17)) (pi 110)) pF) (aY (.llen (pc (.mk [r0]) 18)) (pi 220)) pF))
def aj9:LH.map told=some (abU,[]):=by kernel_rfl
def aFb:tree (ab LH)=abU:=aD aj9
def B2:Option PC:=cF [2,3] [] Tryz.f51 51 [1]
def SK:Nat->PC:=aV B2
def ayq:PC:=.block 0 [2,3,14,15,16,17,18] [] (.loop [2,3] [] (b 0))
def IQ (b:Nat->PC):PT:=
 (.ite (aj r3 po)
 (.blockS ⟨[],[]⟩ 1 [2,21,22,23,24,25,26,27,28] []
 (.chk (ao (pc o1 3) r3)
 (.call ⟨[],[]⟩ [] 27 101 [(.sub (pn (pc o1 3) r3) 1 3)]
 (.ite (.nt eP)
 (.ret pF)
 (.next ⟨[],[]⟩))))
 (.next ⟨[(3,vi)],[]⟩))
 (.exit 0 ⟨[(14,r3),(15,pN),(16,(pc o1 3)),(17,po),(18,(aj r3 po))],[]⟩))
def ab6:PT:=
 (.ite (.pick (aS (.llen (pc (.mk [r0]) 3)) (pi 60)) pT (aS rz (pi 60)))
 (.ret pF)
 (.brk ⟨[(3,(pi 0)),(2,pF)],[(1,(.mk [r0]))]⟩
(ayq b)
 (.ret pT)))
def asY:PT×List (Shp×PT):=(ab6 b,[(.lp 0 [2,3,14,15,16,17,18] [] [2,3] [],IQ b)])
def WN:B2.map told=some (asY (aU B2)):=by kernel_rfl
def aFy:tree (ab B2)=ab6 SK:=bk WN
def Ze:round 0 [2,3,14,15,16,17,18] [] [2,3] [] (SK 0)=IQ SK:=aQ WN 0 λ_=>rfl
def LO:Option PC:=cF [2] [] Tryz.f101 101 [1]
def ab0:PT:=
 (.call ⟨[],[]⟩ [] 4 159 [(.mk [fL,gJ,vq]),(pi 100),(pi 20)]
 (.ret (aN r4 (pi 0))))
def akg:LO.map told=some (ab0,[]):=by kernel_rfl
def aFl:tree (ab LO)=ab0:=aD akg
def y8:Option PC:=cF [6,1,7] [] Tryz.f159 159 [3]
def SI:Nat->PC:=aV y8
def ayo:PC:=.block 0 [1,7,12,13,14,15,16,17,20] [] (.loop [1,7] [] (b 0))
def IN (b:Nat->PC):PT:=
 (.ite (.pick (aj r7 qo) (aN r1 (pi 0)) pF)
 (.blockS ⟨[],[]⟩ 1 [1,23,24,25,26,27,28,29,30,31] []
 (.chk (ao (pc o3 2) r7)
 (.call ⟨[],[]⟩ [] 31 159 [(pn (pc o3 2) r7),r1,(aO r2 (pi 1))]
 (.next ⟨[(1,g9)],[]⟩)))
 (.next ⟨[(7,td)],[]⟩))
 (.exit 0 ⟨[(12,r7),(13,pN),(14,(pc o3 2)),(15,qo),(16,(aj r7 qo)),(17,(aj r7 qo)),(20,(.pick (aj r7 qo) (aN r1 (pi 0)) pF))],[]⟩))
def Q6:PT:=
 (.ite (aj r2 (pi 1))
 (.ret (pi (-1)))
 (.brk ⟨[(7,(pi 0)),(1,(aO r1 (pi 1)))],[(3,(.mk [r0]))]⟩
(ayo b)
 (.ret r1)))
def asW:PT×List (Shp×PT):=(Q6 b,[(.lp 0 [1,7,12,13,14,15,16,17,20] [] [1,7] [],IN b)])
def WL:y8.map told=some (asW (aU y8)):=by kernel_rfl
def anO:tree (ab y8)=Q6 SI:=bk WL
def Zc:round 0 [1,7,12,13,14,15,16,17,20] [] [1,7] [] (SI 0)=IN SI:=aQ WL 0 λ_=>rfl
def FA:Option PC:=cF [2] [] Tryz.f15 15 [1]
def abQ:PT:=
 (.ret (.pick (.pick (.pick (aY (.llen pk) (pi 42)) (aY (.llen (pc (.mk [r0]) 16)) (pi 6)) pF) (aY (.llen (pc (.mk [r0]) 17)) (pi 102)) pF) (aY (.llen (pc (.mk [r0]) 18)) (pi 202)) pF))
def aj8:FA.map told=some (abQ,[]):=by kernel_rfl
def aE6:tree (ab FA)=abQ:=aD aj8
def y7:Option PC:=cF [4,5,6,7,8,11] [] Tryz.f16 16 [2,3,10]
def E5:Nat->PC:=aV y7
def axy:PC:=.block 0 [4,48,49] [] (.loop [4,48] [] (b 0))
def axz:PC:=.block 2 [4,8,62,63] [] (.loop [4,8,62] [] (b 1))
def Ih (b:Nat->PC):PT:=
 (.ite (aj hZ PA)
 (.blockS ⟨[],[]⟩ 1 [4,6,7,50,51,52,53,54,55,56] []
 (.call ⟨[],[]⟩ [] 54 64 [(ar 8 o2),(ar 19 o3),hZ]
 (.ite (aC rE (pi 0))
 (.ret rE)
 (.next ⟨[],[]⟩)))
 (.next ⟨[(48,(ay hZ (pi 1)))],[]⟩))
 (.exit 0 ⟨[(49,(aj hZ PA))],[]⟩))
def Ii (b:Nat->PC):PT:=
 (.ite (aj jc DX)
 (.blockS ⟨[],[]⟩ 3 [4,8,10,64,65,66,67,68,69,70,71,72,73,74,75,76,77,78,79,80] [10]
 (.chk (ao rF jc)
 (.call ⟨[],[(10,(.setc z2 0 (pn rF jc)))]⟩ [] 73 65 [(pc (.setc z2 0 (pn rF jc)) 0),pv,(.llen (pc o3 15))]
 (.ite (.nt rG)
 (.ret (pi 1))
 (.call ⟨[],[]⟩ [] 77 65 [(pc bP 1),(pi 1),jb]
 (.ite (.nt Ym)
 (.ret (pi 3))
 (.next ⟨[(8,(pc bP 0))],[]⟩))))))
 (.next ⟨[(62,(ay jc (pi 1)))],[]⟩))
 (.exit 2 ⟨[(63,(aj jc DX))],[]⟩))
def aaY:PT:=
 (.ite (.pick (.pick (.pick (aS (.llen (pc (.mk [r1]) 15)) (pi 40)) pT (aS (.llen (pc (.mk [r1]) 16)) (pi 4))) pT (aS (.llen (pc (.mk [r1]) 17)) (pi 100))) pT (aS (.llen (pc (.mk [r1]) 18)) (pi 200)))
 (.ret (pi 6))
 (.call ⟨[(4,(pi 0))],[(3,(.mk [r1])),(2,(.mk [r0]))]⟩ [] 37 63 [fU,(ar 15 (.mk [r1]))]
 (.ite (aC kW (pi 0))
 (.ret kW)
 (.ite (ae (.llen (pc o3 15)) (pi 0))
 (.ret (pi 14))
 (.brk ⟨[(48,(pi 0)),(47,(.llen (pc o3 15)))],[]⟩
(axy b)
 (.brk ⟨[(62,(pi 0)),(61,(.llen (pc o3 16))),(60,(pc o3 16)),(8,(pi 0))],[]⟩
(axz b)
 (.call ⟨[],[]⟩ [] 84 66 [(ar 8 o2),(ar 19 o3)]
 (.ite (aC r84 (pi 0))
 (.ret r84)
 (.call ⟨[],[]⟩ [] 89 67 [(ar 19 o3)]
 (.ret r89))))))))))
def asj:PT×List (Shp×PT):=(aaY b,[(.lp 0 [4,48,49] [] [4,48] [],Ih b),(.lp 2 [4,8,62,63] [] [4,8,62] [],Ii b)])
def OB:y7.map told=some (asj (aU y7)):=by kernel_rfl
def aEb:tree (ab y7)=aaY E5:=bk OB
def YA:round 0 [4,48,49] [] [4,48] [] (E5 0)=Ih E5:=aQ OB 0 λ_=>rfl
def YB:round 2 [4,8,62,63] [] [4,8,62] [] (E5 1)=Ii E5:=aQ OB 1 λ_=>rfl
def FF:Option PC:=cF [4,5,6,7,8,54,80,109,118,9,10] [] Tryz.f63 63 [2,3]
def adt:PT:=
 (.call ⟨[],[(3,(.mk [r1])),(2,(.mk [r0]))]⟩ [] 12 14 [fU]
 (.ite (aC bK (pi 0))
 (.ret bK)
 (.call ⟨[(7,(.llen (pc o2 1))),(6,(.llen (pc o2 3)))],[]⟩ [] 25 104 [(pc o3 0),(.llen (pc o2 3))]
 (.call ⟨[(26,dZ)],[]⟩ [(26,true)] 30 104 [(pc o3 1),r6]
 (.call ⟨[(36,(ae (pc o3 2) (pi (-1)))),(32,(.pick lU jC pF))],[]⟩ [(36,false),(32,true)] 40 104 [(pc o3 2),r6]
 (.call ⟨[(47,(ae (pc o3 11) (pi (-1)))),(43,(.pick ku (.pick fM pT nv) pF))],[]⟩ [(47,false),(43,true)] 51 104 [(pc o3 11),r6]
 (.blockS ⟨[(8,(.pick rC (.pick PA pT qt) pF))],[]⟩ 0 [4,54,55,56,57,65,66,72,73,79,80,81,82,83,84,88,89,93,94,98,99,103,104,108,109,110,111,112,113,117,118,119,120,121,122,126,127,137,138,142] []
 (.call ⟨[(57,(.nt r8))],[]⟩ [(57,false)] 63 104 [(pc o3 4),(.llen (pc o2 0))]
 (.call ⟨[(66,(.pick vz pT (.nt DY)))],[]⟩ [(66,false)] 70 104 [(pc o3 9),r7]
 (.call ⟨[(73,(.pick PB pT (.nt r70)))],[]⟩ [(73,false)] 77 104 [(pc o3 10),r7]
 (.iteS ⟨[],[]⟩ (.pick rG pT (.nt Ym)) [4,80,81,82,83,84,88,89,93,94,98,99,103,104,108,109,110,111,112,113,117,118,119,120,121,122,126,127,137,138,142] []
 (.ret (pi 1))
 (.iteS ⟨[],[]⟩ (.pick (.pick (.pick (.pick (.pick (aj (pc o3 3) (pi 1)) pT (aS (pc o3 3) jb)) pT (aj (pc o3 8) (pi 0))) pT (aS (pc o3 8) (pi 100000))) pT (aj (pc o3 12) (pi 0))) pT (aS (pc o3 12) (pi 1000))) [4,109,110,111,112,113,117,118,119,120,121,122,126,127,137,138,142] []
 (.ret (pi 3))
 (.iteS ⟨[],[]⟩ (.pick (aj (pc o3 14) (pi 1)) pT (aS (pc o3 14) (pi 4))) [4,118,119,120,121,122,126,127,137,138,142] []
 (.ret (pi 15))
 (.call ⟨[(138,(.pick (.pick (aj (pc o3 13) (pi 0)) pT (aS (pc o3 13) (pi 7))) pT (.pick (aC (.ai .and .i64 (pc o3 13) (pi 4)) (pi 0)) (ae (pc o3 2) (pi (-1))) pF)))],[]⟩ [(138,false)] 140 105 [(ar 15 o3)]
 (.ite (.pick (.r 138) pT (.nt (.r 140)))
 (.ret (pi 2))
 (.next ⟨[],[]⟩)))
 (.next ⟨[],[]⟩))
 (.next ⟨[],[]⟩))
 (.next ⟨[],[]⟩)))))
 (.iteS ⟨[],[]⟩ (ae (pc o3 5) (pi 4)) [4] []
 (.call ⟨[],[]⟩ [] 153 106 [(ar 8 o2),(pc o3 9),(pc o3 10)]
 (.ret (.tget (.r 153) 1)))
 (.next ⟨[],[]⟩)
 (.ret (pi 0))))))))))
def alh:FF.map told=some (adt,[]):=by kernel_rfl
def aGU:tree (ab FF)=adt:=aD alh
def MQ:Option PC:=cF [4] [] Tryz.f104 104 []
def adu:PT:=
 (.ret (.pick vj (aj r0 r1) pF))
def ali:MQ.map told=some (adu,[]):=by kernel_rfl
def aGV:tree (ab MQ)=adu:=aD ali
def MR:Option PC:=cF [2,8,19,40] [] Tryz.f105 105 [1,3]
def adv:PT:=
 (.ite (.pick (ae (pc lQ 0) (pi 0)) (ae (pc lQ 0) (pi 0)) (ae (pc lQ 0) (pi 4)))
 (.ret (.pick (ae (pc lQ 1) (pi 0)) (ae (pc lQ 2) (pi 0)) pF))
 (.ite (.pick (ae (pc lQ 0) (pi 1)) (ae (pc lQ 0) (pi 1)) (ae (pc lQ 0) (pi 2)))
 (.ret (.pick (.pick (aN (pc lQ 1) (pi 1)) (aY (pc lQ 1) (pi 400)) pF) (.pick (ae (pc lQ 2) (pi 0)) pT (ae (pc lQ 2) (pi 1))) pF))
 (.ite (ae (pc lQ 0) (pi 3))
 (.ret (.pick (.pick (aN (pc lQ 1) (pc (.mk [r0]) 8)) (aY (pc lQ 1) (pi 100000)) pF) (ae (pc lQ 2) (pi 0)) pF))
 (.ret pF))))
def alj:MR.map told=some (adv,[]):=by kernel_rfl
def aGW:tree (ab MR)=adv:=aD alj
def Bu:Option PC:=cF [6,8,9,76,92,98] [] Tryz.f64 64 [3,4,7,11]
def Sk:Nat->PC:=aV Bu
def axD:PC:=.block 0 [8,9,51,52] [] (.loop [8,9,51] [] (b 0))
def PQ (b:Nat->PC):PT:=
 (.ite (aj qt nw)
 (.chk (ao jD qt)
 (.next ⟨[(8,(pc (.setc z9 0 (pn jD qt)) 6)),(9,(.pick r9 pT (.pick (.pick (ae (pc o7 0) (pi 1)) (ae (pc (.setc z9 0 (pn jD qt)) 0) (pi 1)) pF) (ae (pc (.setc z9 0 (pn jD qt)) 1) (pc o7 1)) pF))),(51,(ay qt (pi 1)))],[]⟩))
 (.exit 0 ⟨[(52,(aj qt nw))],[]⟩))
def aa6:PT:=
 (.chk (ao (pc (.mk [r1]) 15) r2)
 (.call ⟨[],[(7,qm),(4,(.mk [r1])),(3,(.mk [r0]))]⟩ [] 23 65 [(pc qm 1),(pi 0),(aO (pc (.mk [r1]) 14) (pi 1))]
 (.ite (.nt fa)
 (.ret (pi 15))
 (.call ⟨[],[]⟩ [] 31 65 [(pc o7 2),(pi 0),(aO (.llen (pc o3 3)) (pi 1))]
 (.call ⟨[(33,(.nt g9))],[]⟩ [(33,false)] 40 65 [(pc o7 7),(pi 0),(aO (.llen (pc o3 1)) (pi 1))]
 (.ite (.pick py pT (.nt nv))
 (.ret (pi 1))
 (.chk (.slok (pc o4 15) (pi 0) r2)
 (.brk ⟨[(51,(pi 0)),(50,(.llen (.slc (pc o4 15) (pi 0) r2))),(49,(.slc (pc o4 15) (pi 0) r2)),(9,pF),(8,(pc o4 8))],[]⟩
(axD b)
 (.blockS ⟨[],[]⟩ 2 [6,76,77,78,79,80,81,82,91,92,93,94,95,96,97,98,99] []
 (.call ⟨[],[]⟩ [] 80 65 [(pc o7 6),r8,(pi 100000)]
 (.iteS ⟨[],[]⟩ (.pick (.nt tz) pT (.pick (ae r2 (pi 0)) (aC (pc o7 6) r8) pF)) [6,92,93,94,95,96,97,98,99] []
 (.ret (pi 13))
 (.call ⟨[],[]⟩ [] 96 107 [(ar 8 o3),(ar 19 o4),r2]
 (.ite (.nt PG)
 (.ret (pi 14))
 (.ite r9
 (.ret (pi 5))
 (.next ⟨[],[]⟩))))
 (.next ⟨[],[]⟩)))
 (.ret (pi 0)))))))))))
def asp:PT×List (Shp×PT):=(aa6 b,[(.lp 0 [8,9,51,52] [] [8,9,51] [],PQ b)])
def Wp:Bu.map told=some (asp (aU Bu)):=by kernel_rfl
def aEj:tree (ab Bu)=aa6 Sk:=bk Wp
def amN:round 0 [8,9,51,52] [] [8,9,51] [] (Sk 0)=PQ Sk:=aQ Wp 0 λ_=>rfl
def Lg:Option PC:=cF [6] [] Tryz.f65 65 []
def aa5:PT:=
 (.ret (.pick (aN r0 r1) (aY r0 r2) pF))
def ajK:Lg.map told=some (aa5,[]):=by kernel_rfl
def aEi:tree (ab Lg)=aa5:=aD ajK
def Lf:Option PC:=cF [6,9,10,66,103,113,11,140,149] [] Tryz.f107 107 [3,4,7,8]
def aa4:PT:=
 (.chk (ao (pc (.mk [r1]) 15) r2)
 (.ite (.pick (.cb .neq (ae r2 (pi 0)) (ae (pc qm 0) (pi 0))) pT (.pick (aC (pc qm 0) (pi 2)) (aC (pc qm 4) (pi (-1))) pF))
 (.ret pF)
 (.ite (.pick (.pick (aC (pc qm 0) (pi 3)) (aC (pc qm 0) (pi 4)) pF) (aC (pc qm 3) (pi (-1))) pF)
 (.ret pF)
 (.call ⟨[(9,(.pick (ae (pc qm 5) (pi 0)) (ae (pc qm 8) (pi 0)) pF))],[(8,(.setc Ri 0 (ar 15 (.mk [r1])))),(7,qm),(4,(.mk [r1])),(3,(.mk [r0]))]⟩ [] 58 65 [(pc qm 5),(pi 1),jb]
 (.blockS ⟨[(65,(pc o7 0)),(10,(.pick ny (ae (pc o7 8) (pi 0)) pF))],[]⟩ 0 [6,66,67,103,104,113,114,140,141,149,150] []
 (.iteS ⟨[],[]⟩ (ae lW (pi 0)) [6,103,104,113,114,140,141,149,150] []
 (.ret (.pick (.pick (.pick (.pick (.pick (ae (pc o7 2) (pc o8 0)) (ae (pc o7 5) (pi 0)) pF) (ae (.ai .or .i64 (pc o7 8) (pi 1)) (pi 1)) pF) (ae (pc o7 1) (pi 0)) pF) (ae (pc o7 6) (pc o8 8)) pF) (ae (pc o7 7) (pc o8 9)) pF))
 (.iteS ⟨[],[]⟩ (ae lW (pi 1)) [6,113,114,140,141,149,150] []
 (.ret (.pick (ae (pc o7 2) (pc o8 1)) aZ pF))
 (.iteS ⟨[],[]⟩ (ae lW (pi 2)) [6,140,141,149,150] []
 (.call ⟨[(11,(pi 6))],[]⟩ [] 121 65 [(pc o7 4),(pi (-1)),(aO (.llen (pc o3 3)) (pi 1))]
 (.call ⟨[(127,(.pick aBd (ae (pc o7 5) (pi 0)) pF))],[]⟩ [(127,true)] 130 65 [(pc o7 8),(pi 0),(pi 7)]
 (.ret (.pick (.pick Yb (.r 130) pF) (aC (.ai .and .i64 (pc o7 8) bJ) bJ) pF))))
 (.iteS ⟨[],[]⟩ (ae lW (pi 3)) [6,149,150] []
 (.call ⟨[(143,r9)],[]⟩ [(143,true)] 147 162 [(ar 19 o4),r2,(.lst [(pi 0),(pi 1),(pi 2),(pi 4)])]
 (.ret (.pick (.r 143) (.r 147) pF)))
 (.iteS ⟨[],[]⟩ (ae lW (pi 4)) [6] []
 (.call ⟨[(159,(.pick aZ (aC (pc o7 2) (pc o8 1)) pF))],[]⟩ [(159,true)] 163 162 [(ar 19 o4),r2,(.lst [(pi 0),(pi 2)])]
 (.ret (.pick (.r 159) (.r 163) pF)))
 (.next ⟨[],[]⟩)
 (.next ⟨[],[]⟩))
 (.next ⟨[],[]⟩))
 (.next ⟨[],[]⟩))
 (.next ⟨[],[]⟩))
 (.next ⟨[],[]⟩))
 (.ret pF))))))
def ajJ:Lf.map told=some (aa4,[]):=by kernel_rfl
def aEh:tree (ab Lf)=aa4:=aD ajJ
def Ld:Option PC:=cF [6,7] [] Tryz.f162 162 [3]
def aa2:PT:=
 (.chk (ao pk r1)
 (.call ⟨[(7,(pc (pn pk r1) 3))],[(3,(.mk [r0]))]⟩ [] 17 65 [(pc (pn pk r1) 3),(pi 0),(aO r1 (pi 1))]
 (.chk (.nt (.an (.an dR pT) (.nt (ao (pc o3 15) r1))))
 (.call ⟨[(18,dR)],[]⟩ [(18,true)] 27 163 [(ar 19 o3),r7,(pc (pn (pc o3 15) r1) 1)]
 (.chk (.nt (.an (.an (.pick cR eP pF) pT) (.nt (ao (pc o3 15) r7))))
 (.call ⟨[(29,(.pick cR eP pF))],[]⟩ [(29,true)] 37 185 [r2,(pc (pn (pc o3 15) r7) 0)]
 (.ret (.pick lV kW pF))))))))
def ajI:Ld.map told=some (aa2,[]):=by kernel_rfl
def aEf:tree (ab Ld)=aa2:=aD ajI
def Lh:Option PC:=cF [6] [] Tryz.f163 163 [3]
def QW:PT:=
 (.chk (.nt (.an (.an (.nt (ae r1 (pi 0))) pT) (.nt (ao pk r1))))
 (.ret (.pick (ae r1 (pi 0)) pT (ae (pc (pn pk r1) 1) r2))))
def ajL:Lh.map told=some (QW,[]):=by kernel_rfl
def aEk:tree (ab Lh)=QW:=aD ajL
def Bs:Option PC:=cF [4,5,7] [] Tryz.f66 66 [2,3,6]
def Si:Nat->PC:=aV Bs
def axB:PC:=.block 0 [4,11,12] [] (.loop [4,11] [] (b 0))
def PN (b:Nat->PC):PT:=
 (.ite (aj bJ aZ)
 (.blockS ⟨[],[]⟩ 1 [4,5,6,7,13,14,15,16,17,18,19,20,21,22,23,24,25,26,27,28,29,30,31,32,37,38,39,40,41,42,43,44,45,46,47,48,58,59,69,70,71,72,73] [6]
 (.chk (ao r9 bJ)
 (.call ⟨[(5,bJ)],[(6,(.setc z9 0 (pn r9 bJ)))]⟩ [] 22 65 [(pc (.setc z9 0 (pn r9 bJ)) 3),(pi 0),(aO (pc o3 14) (pi 1))]
 (.ite (.nt jB)
 (.ret (pi 15))
 (.call ⟨[],[]⟩ [] 30 65 [(pc o6 7),(pi 0),(aO (.llen (pc o2 1)) (pi 1))]
 (.call ⟨[(32,(.nt jC))],[]⟩ [(32,false)] 35 65 [(pc o6 0),(pi 0),(pi 9)]
 (.ite (.pick ku pT (.nt hH))
 (.ret (pi 1))
 (.call ⟨[],[]⟩ [] 41 108 [(ar 8 o2),(ar 19 o3),(ar 9 o6)]
 (.ite (.nt mF)
 (.ret (pi 14))
 (.ite (aC (pc o6 4) (pi (-1)))
 (.chk (ao (pc o3 15) (pc o6 4))
 (.ite (aS r5 (pi 0))
 (.chk (ao (pc o3 17) (aO r5 (pi 1)))
 (.call ⟨[],[]⟩ [] 72 65 [(pc o6 6),(.mx (.mx (pc o3 8) (pc (pn (pc o3 15) (pc o6 4)) 6)) (pc (pn (pc o3 17) (aO r5 (pi 1))) 6)),(pi 100000)]
 (.ite (.nt AI)
 (.ret (pi 13))
 (.next ⟨[],[]⟩))))
 (.call ⟨[],[]⟩ [] 72 65 [(pc o6 6),(.mx (pc o3 8) (pc (pn (pc o3 15) (pc o6 4)) 6)),(pi 100000)]
 (.ite (.nt AI)
 (.ret (pi 13))
 (.next ⟨[],[]⟩)))))
 (.ite (aS r5 (pi 0))
 (.chk (ao (pc o3 17) (aO r5 (pi 1)))
 (.call ⟨[],[]⟩ [] 72 65 [(pc o6 6),(.mx (pc o3 8) (pc (pn (pc o3 17) (aO r5 (pi 1))) 6)),(pi 100000)]
 (.ite (.nt AI)
 (.ret (pi 13))
 (.next ⟨[],[]⟩))))
 (.call ⟨[],[]⟩ [] 72 65 [(pc o6 6),(pc o3 8),(pi 100000)]
 (.ite (.nt AI)
 (.ret (pi 13))
 (.next ⟨[],[]⟩)))))))))))))
 (.next ⟨[(11,(ay bJ (pi 1)))],[]⟩))
 (.exit 0 ⟨[(12,(aj bJ aZ))],[]⟩))
def aa1:PT:=
 (.brk ⟨[(11,(pi 0)),(10,(.llen (pc (.mk [r1]) 17))),(9,(pc (.mk [r1]) 17)),(4,(pi 0))],[(3,(.mk [r1])),(2,(.mk [r0]))]⟩
(axB b)
 (.ret (pi 0)))
def asn:PT×List (Shp×PT):=(aa1 b,[(.lp 0 [4,11,12] [] [4,11] [],PN b)])
def Wn:Bs.map told=some (asn (aU Bs)):=by kernel_rfl
def aEe:tree (ab Bs)=aa1 Si:=bk Wn
def amL:round 0 [4,11,12] [] [4,11] [] (Si 0)=PN Si:=aQ Wn 0 λ_=>rfl
def Lc:Option PC:=cF [6,7,8,9,65,80,100,111] [] Tryz.f108 108 [3,4,5]
def aa0:PT:=
 (.call ⟨[],[(5,(.mk [r2])),(4,(.mk [r1])),(3,(.mk [r0]))]⟩ [] 16 65 [(pc (.mk [r2]) 4),(pi 0),(aO (.llen (pc (.mk [r1]) 15)) (pi 1))]
 (.call ⟨[(17,cq)],[]⟩ [(17,true)] 23 163 [(ar 19 o4),(pc o5 4),(pc o5 3)]
 (.chk (.nt (.an (.an (.pick dR fa pF) pT) (.nt (ao (pc o4 15) (pc o5 4)))))
 (.call ⟨[(8,(.pick (.pick dR fa pF) (ae (pc (pn (pc o4 15) (pc o5 4)) 2) (pc o5 1)) pF)),(7,(.pick dR fa pF))],[]⟩ [] 44 65 [(pc o5 2),(pi 0),(aO (.llen (pc o3 3)) (pi 1))]
 (.call ⟨[(9,rD)],[]⟩ [] 51 65 [(pc o5 1),(pi 0),(aO (.llen (pc o3 3)) (pi 1))]
 (.ite (.pick (.nt qt) pT (.pick (aC (pc o5 0) (pi 4)) (aC (pc o5 8) (pi 0)) pF))
 (.ret pF)
 (.blockS ⟨[(64,(pc o5 0))],[]⟩ 0 [6,65,66,80,81,100,101,111,112] []
 (.iteS ⟨[],[]⟩ (.pick (ae kX (pi 0)) (ae kX (pi 0)) (.pick (ae kX (pi 1)) (ae kX (pi 1)) (ae kX (pi 2)))) [6,80,81,100,101,111,112] []
 (.ret (.pick (.pick r9 (ae (pc o5 4) (pi (-1))) pF) (ae (pc o5 5) (pi 0)) pF))
 (.iteS ⟨[],[]⟩ (.pick (ae kX (pi 3)) (ae kX (pi 3)) (.pick (ae kX (pi 5)) (ae kX (pi 5)) (ae kX (pi 4)))) [6,100,101,111,112] []
 (.call ⟨[(90,(.pick r9 (ae (pc o5 4) (pi (-1))) pF))],[]⟩ [(90,true)] 93 65 [(pc o5 5),(pi 0),jb]
 (.call ⟨[(95,(.pick H8 PF pF))],[]⟩ [(95,true)] 98 65 [(pc o5 8),(pi 0),(pi 1)]
 (.ret (.pick r95 r98 pF))))
 (.iteS ⟨[],[]⟩ (ae kX (pi 6)) [6,111,112] []
 (.call ⟨[(106,(.pick r9 r8 pF))],[]⟩ [(106,true)] 109 65 [(pc o5 5),(pi 1),jb]
 (.ret (.pick X9 aA7 pF)))
 (.ite (ae kX (pi 9))
 (.ret (.pick (.pick (ae (pc o5 2) (pi (-1))) r8 pF) (ae (pc o5 5) (pi 0)) pF))
 (.next ⟨[],[]⟩))
 (.next ⟨[],[]⟩))
 (.next ⟨[],[]⟩))
 (.next ⟨[],[]⟩))
 (.ret (.pick (.pick (ae (pc o5 2) (pi (-1))) r7 pF) (ae (pc o5 5) (pi 0)) pF)))))))))
def ajH:Lc.map told=some (aa0,[]):=by kernel_rfl
def aEd:tree (ab Lc)=aa0:=aD ajH
def Bt:Option PC:=cF [2,3] [] Tryz.f67 67 [1,4,5,52]
def Sj:Nat->PC:=aV Bt
def axC:PC:=.block 0 [2,9,10] [] (.loop [2,9] [] (b 0))
def PO (b:Nat->PC):PT:=
 (.ite (aj r9 r8)
 (.blockS ⟨[],[]⟩ 1 [2,3,4,11,12,13,14,15,16,17,18,27,28,33,34,35] [4]
 (.chk (ao r7 r9)
 (.call ⟨[(3,r9)],[(4,(.setc z3 0 (pn r7 r9)))]⟩ [] 16 65 [(pc (.setc z3 0 (pn r7 r9)) 0),(pi 0),(pi 4)]
 (.call ⟨[(18,(.nt cq))],[]⟩ [(18,false)] 25 65 [(pc o4 1),(pi 0),(aO (.llen (pc o1 15)) (pi 1))]
 (.call ⟨[(28,(.pick cR pT (.nt dZ)))],[]⟩ [(28,false)] 31 65 [(pc o4 2),(pi 0),(pi 1)]
 (.ite (.pick mE pT (.nt g9))
 (.ret (pi 1))
 (.ite (ae r3 (pi 0))
 (.exit 1 ⟨[],[]⟩)
 (.chk (ao (pc o1 18) (aO r3 (pi 1)))
 (.call ⟨[],[(5,(.setc z3 0 (pn (pc o1 18) (aO r3 (pi 1)))))]⟩ [] 46 110 [(pc (.setc z3 0 (pn (pc o1 18) (aO r3 (pi 1)))) 1),(pc o4 1)]
 (.call ⟨[],[]⟩ [] 51 110 [(pc o5 0),(pc o4 0)]
 (.call ⟨[],[]⟩ [] 53 109 [(.lst [xX,qt])]
 (.ite (aN Yk (pi 0))
 (.ret (pi 5))
 (.next ⟨[],[]⟩))))))))))))
 (.next ⟨[(9,(ay r9 (pi 1)))],[]⟩))
 (.exit 0 ⟨[(10,(aj r9 r8))],[]⟩))
def aa3:PT:=
 (.brk ⟨[(9,(pi 0)),(8,(.llen (pc (.mk [r0]) 18))),(7,(pc (.mk [r0]) 18)),(2,(pi 0))],[(1,(.mk [r0]))]⟩
(axC b)
 (.ret (pi 0)))
def aso:PT×List (Shp×PT):=(aa3 b,[(.lp 0 [2,9,10] [] [2,9] [],PO b)])
def Wo:Bt.map told=some (aso (aU Bt)):=by kernel_rfl
def aEg:tree (ab Bt)=aa3 Sj:=bk Wo
def amM:round 0 [2,9,10] [] [2,9] [] (Sj 0)=PO Sj:=aQ Wo 0 λ_=>rfl
def KW:Option PC:=cF [4,5,6] [] Tryz.f110 110 []
def aaG:PT:=
 (.call ⟨[],[]⟩ [] 8 164 [r0]
 (.call ⟨[(5,r8)],[]⟩ [] 10 164 [r1]
 (.ite r5
 (.ite aZ
 (.ret (pi 0))
 (.ret (pi (-1))))
 (.ite aZ
 (.ret (pi 1))
 (.ite (aj r0 r1)
 (.ret (pi (-1)))
 (.ite (aS r0 r1)
 (.ret (pi 1))
 (.ret (pi 0))))))))
def ajr:KW.map told=some (aaG,[]):=by kernel_rfl
def aDS:tree (ab KW)=aaG:=aD ajr
def KX:Option PC:=cF [2] [] Tryz.f164 164 []
def aaI:PT:=
 (.ret (aC r0 r0))
def ajs:KX.map told=some (aaI,[]):=by kernel_rfl
def aDU:tree (ab KX)=aaI:=aD ajs
def Bo:Option PC:=cF [2,3,5] [] Tryz.f109 109 []
def Sd:Nat->PC:=aV Bo
def axv:PC:=.block 0 [2,8,9] [] (.loop [2,8] [] (b 0))
def If (b:Nat->PC):PT:=
 (.ite (aj r8 r7)
 (.chk (ao r6 r8)
 (.ite (aC (pn r6 r8) r3)
 (.ret (pn r6 r8))
 (.next ⟨[(8,pv)],[]⟩)))
 (.exit 0 ⟨[(9,(aj r8 r7))],[]⟩))
def aaH:PT:=
 (.brk ⟨[(8,(pi 0)),(7,(.llen r0)),(6,r0),(3,(pi 0)),(2,(pi 0))],[]⟩
(axv b)
 (.ret r3))
def asg:PT×List (Shp×PT):=(aaH b,[(.lp 0 [2,8,9] [] [2,8] [],If b)])
def Wj:Bo.map told=some (asg (aU Bo)):=by kernel_rfl
def aDT:tree (ab Bo)=aaH Sd:=bk Wj
def Yx:round 0 [2,8,9] [] [2,8] [] (Sd 0)=If Sd:=aQ Wj 0 λ_=>rfl
def Mi:Option PC:=cF [9,10,12,13,15] [] Tryz.f9 9 [4,8,11,14]
def acw:PT:=
 (.call ⟨[],[(8,z2),(4,(.mk [r0]))]⟩ [] 21 27 [(pc (.mk [r0]) 6),r1,r2,r3]
 (.iteS ⟨[(10,fE)],[]⟩ (aN fE (pi 0)) [9] [8]
 (.chk (ao (pc o4 6) aZ)
 (.call ⟨[],[]⟩ [] 37 28 [(pc (pn (pc o4 6) aZ) 2),(pc (pn (pc o4 6) aZ) 3)]
 (.ret (.tup [(.mk [(pc (.setc o8 0 (.mk [(pc (.setc z2 0 th) 0),(pc (.setc z2 0 th) 1)])) 0),(pc (.setc o8 0 (.mk [(pc (.setc z2 0 th) 0),(pc (.setc z2 0 th) 1)])) 1)]),pT]))))
 (.next ⟨[],[]⟩)
 (.call ⟨[],[]⟩ [] 46 27 [(pc o4 6),r2,r1,r3]
 (.iteS ⟨[(13,xX)],[]⟩ (aN xX (pi 0)) [9] [8]
 (.chk (ao (pc o4 6) cK)
 (.call ⟨[],[]⟩ [] 62 28 [(pc (pn (pc o4 6) cK) 3),(pc (pn (pc o4 6) cK) 2)]
 (.ret (.tup [(.mk [(pc (.setc o8 0 (.mk [(pc (.setc z2 0 (.tget jc 0)) 0),(pc (.setc z2 0 (.tget jc 0)) 1)])) 0),(pc (.setc o8 0 (.mk [(pc (.setc z2 0 (.tget jc 0)) 0),(pc (.setc z2 0 (.tget jc 0)) 1)])) 1)]),pT]))))
 (.next ⟨[],[]⟩)
 (.ret (.tup [(.mk [(pc (.setc o8 0 (.mk [(pi 0),(pi 0)])) 0),(pc (.setc o8 0 (.mk [(pi 0),(pi 0)])) 1)]),pF]))))))
def akH:Mi.map told=some (acw,[]):=by kernel_rfl
def aFY:tree (ab Mi)=acw:=aD akH
def BG:Option PC:=cF [8,9,10] [] Tryz.f27 27 []
def Su:Nat->PC:=aV BG
def axS:PC:=.block 0 [9,10,11,12,13,14] [] (.loop [9,10] [] (b 0))
def P2 (b:Nat->PC):PT:=
 (.ite (aj aZ (.llen r0))
 (.chk (ao r0 aZ)
 (.chk (.nt (.an (.an (.nt (aC (pc (pn r0 aZ) 0) r1)) pT) (.nt (ao r0 aZ))))
 (.chk (.nt (.an (.an (.nt (.pick (aC (pc (pn r0 aZ) 0) r1) pT (aC (pc (pn r0 aZ) 1) r2))) pT) (.nt (ao r0 aZ))))
 (.ite (.pick (.pick (aC (pc (pn r0 aZ) 0) r1) pT (aC (pc (pn r0 aZ) 1) r2)) pT (aS (pc (pn r0 aZ) 4) r3))
 (.next ⟨[(10,(ay aZ (pi 1)))],[]⟩)
 (.chk (.nt (.an (.an (.nt (aj r9 (pi 0))) pT) (.nt (ao r0 aZ))))
 (.chk (.nt (.an (.an (.nt (aj r9 (pi 0))) pT) (.nt (ao r0 r9))))
 (.next ⟨[(9,(.pick (.pick (aj r9 (pi 0)) pT (aS (pc (pn r0 aZ) 4) (pc (pn r0 r9) 4))) aZ r9)),(10,(ay aZ (pi 1)))],[]⟩)))))))
 (.exit 0 ⟨[(11,aZ),(12,r0),(13,(.llen r0)),(14,(aj aZ (.llen r0)))],[]⟩))
def abq:PT:=
 (.brk ⟨[(10,(pi 0)),(9,(pi (-1)))],[]⟩
(axS b)
 (.ret r9))
def asB:PT×List (Shp×PT):=(abq b,[(.lp 0 [9,10,11,12,13,14] [] [9,10] [],P2 b)])
def Wy:BG.map told=some (asB (aU BG)):=by kernel_rfl
def aEF:tree (ab BG)=abq Su:=bk Wy
def amW:round 0 [9,10,11,12,13,14] [] [9,10] [] (Su 0)=P2 Su:=aQ Wy 0 λ_=>rfl
def Lj:Option PC:=cF [5] [] Tryz.f28 28 [4]
def aba:PT:=
 (.ite (ae r1 (pi 0))
 (.ret (.tup [XY,(pi 1)]))
 (.call ⟨[(17,(.pick (aC r0 (pi 0)) Pc pF))],[(4,z2)]⟩ [] 19 79 [r0]
 (.call ⟨[],[]⟩ [] 21 79 [r1]
 (.call ⟨[],[]⟩ [] 22 78 [dR,gK,fE]
 (.ret (.tup [(.mk [(pc (.setc o4 0 (.tget jB 0)) 0),(pc (.setc o4 0 (.tget jB 0)) 1)]),(.tget jB 1)]))))))
def ajN:Lj.map told=some (aba,[]):=by kernel_rfl
def aEo:tree (ab Lj)=aba:=aD ajN
def By:Option PC:=cF [2,4,5,0] [] Tryz.f79 79 [3]
def So:Nat->PC:=aV By
def axH:PC:=.block 0 [0,4,7,8] [3] (.loop [0,4] [3] (b 0))
def D1 (b:Nat->PC):PT:=
 (.ite (aj r4 (pi 3))
 (.chk (aC lT (pi 0))
 (.chk (ao o3 r4)
 (.next ⟨[(0,(.ai .quo .i64 r0 lT)),(4,(ay r4 (pi 1)))],[(3,(.setn o3 r4 0 (.pick (aj (.ai .rem .i64 r0 lT) (pi 0)) (aO (pi 0) (.ai .rem .i64 r0 lT)) (.ai .rem .i64 r0 lT))))]⟩)))
 (.exit 0 ⟨[(7,r4),(8,(aj r4 (pi 3)))],[]⟩))
def abc:PT:=
 (.chk vn
 (.chk vt
 (.brk ⟨[(4,(pi 0)),(3,pN)],[(3,pj)]⟩
(axH b)
 (.ret o3))))
def ast:PT×List (Shp×PT):=(abc b,[(.lp 0 [0,4,7,8] [3] [0,4] [3],D1 b)])
def Wt:By.map told=some (ast (aU By)):=by kernel_rfl
def aEq:tree (ab By)=abc So:=bk Wt
def PU:round 0 [0,4,7,8] [3] [0,4] [3] (So 0)=D1 So:=aQ Wt 0 λ_=>rfl
def Li:Option PC:=cF [7,8,9,10,11,12,13] [] Tryz.f78 78 [6]
def aa9:PT:=
 (.call ⟨[],[(6,z2)]⟩ [] 16 117 [r1,r2]
 (.call ⟨[(8,cq)],[]⟩ [] 20 118 [r1,cq]
 (.call ⟨[(9,(.tget dt 0))],[]⟩ [] 26 118 [r2,r8]
 (.call ⟨[(29,r9),(11,(.tget lU 0))],[]⟩ [] 30 79 [(pi 1152921504606846976)]
 (.call ⟨[],[]⟩ [] 31 119 [lV,jC]
 (.call ⟨[(34,bJ),(33,(aS g9 (pi 0)))],[]⟩ [(33,false)] 35 79 [(pi 1152921504606846976)]
 (.call ⟨[],[]⟩ [(33,false)] 36 119 [qs,hH]
 (.ite (.pick py pT (aS fM (pi 0)))
 (.ret (.tup [(.mk [(pc (.setc o6 0 (.mk [(pi 0),(pi 0)])) 0),(pc (.setc o6 0 (.mk [(pi 0),(pi 0)])) 1)]),(pi 3)]))
 (.chk (ao r9 (pi 0))
 (.chk (ao r9 (pi 1))
 (.chk (ao r9 (pi 2))
 (.chk (ao bJ (pi 0))
 (.chk (ao bJ (pi 1))
 (.chk (ao bJ (pi 2))
 (.ret (.tup [(.mk [(pc alV 0),(pc alV 1)]),(pi 0)]))))))))))))))))
def ajM:Li.map told=some (aa9,[]):=by kernel_rfl
def aEn:tree (ab Li)=aa9:=aD ajM
def Bw:Option PC:=cF [4,5,6,0,1] [] Tryz.f117 117 []
def Sm:Nat->PC:=aV Bw
def axF:PC:=.block 0 [0,1,7,8,9] [] (.loop [0,1] [] (b 0))
def PS (b:Nat->PC):PT:=
 (.call ⟨[(7,r1)],[]⟩ [] 8 178 [r1]
 (.ite (.nt r8)
 (.blockS ⟨[],[]⟩ 1 [0,1,5,6,10,11,12,13,14,15,16,17] []
 (.call ⟨[],[]⟩ [] 13 118 [r0,r1]
 (.next ⟨[(1,(.tget cK 1)),(0,r1)],[]⟩))
 (.next ⟨[],[]⟩))
 (.exit 0 ⟨[(9,(.nt r8))],[]⟩)))
def aa8:PT:=
 (.brk ⟨[],[]⟩
(axF b)
 (.ret r0))
def asr:PT×List (Shp×PT):=(aa8 b,[(.lp 0 [0,1,7,8,9] [] [0,1] [],PS b)])
def Wr:Bw.map told=some (asr (aU Bw)):=by kernel_rfl
def aEm:tree (ab Bw)=aa8 Sm:=bk Wr
def amO:round 0 [0,1,7,8,9] [] [0,1] [] (Sm 0)=PS Sm:=aQ Wr 0 λ_=>rfl
def Ll:Option PC:=cF [2] [] Tryz.f178 178 []
def abg:PT:=
 (.chk vn
 (.chk vt
 (.call ⟨[],[]⟩ [] 5 119 [r0,pj]
 (.ret (ae r5 (pi 0))))))
def ajO:Ll.map told=some (abg,[]):=by kernel_rfl
def aEu:tree (ab Ll)=abg:=aD ajO
def Bv:Option PC:=cF [4,5] [] Tryz.f119 119 []
def Sl:Nat->PC:=aV Bv
def axE:PC:=.block 0 [4,5,6,7] [] (.loop [4,5] [] (b 0))
def D0 (b:Nat->PC):PT:=
 (.ite (aN r5 (pi 0))
 (.chk (ao r0 r5)
 (.chk (ao r1 r5)
 (.ite (aj (pn r0 r5) (pn r1 r5))
 (.ret (pi (-1)))
 (.ite (aS (pn r0 r5) (pn r1 r5))
 (.ret (pi 1))
 (.next ⟨[(5,(aO r5 (pi 1)))],[]⟩)))))
 (.exit 0 ⟨[(6,r5),(7,(aN r5 (pi 0)))],[]⟩))
def aa7:PT:=
 (.brk ⟨[(5,(pi 4)),(4,(pi 0))],[]⟩
(axE b)
 (.ret (pi 0)))
def asq:PT×List (Shp×PT):=(aa7 b,[(.lp 0 [4,5,6,7] [] [4,5] [],D0 b)])
def Wq:Bv.map told=some (asq (aU Bv)):=by kernel_rfl
def aEl:tree (ab Bv)=aa7 Sl:=bk Wq
def PR:round 0 [4,5,6,7] [] [4,5] [] (Sl 0)=D0 Sl:=aQ Wq 0 λ_=>rfl
def Bz:Option PC:=cF [4,5,8] [] Tryz.f118 118 [6,7]
def Sp:Nat->PC:=aV Bz
def axI:PC:=.block 0 [7,8,11,12] [7,6] (.loop [7,8] [7,6] (b 0))
def PV (b:Nat->PC):PT:=
 (.ite (aN r8 (pi 0))
 (.blockS ⟨[],[]⟩ 1 [7,21,22,23,24,25,26,27,28,29,30,31,34,35,36] [6,7]
 (.call ⟨[],[]⟩ [] 17 179 [o7,o7]
 (.chk (ao dR (pi 0))
 (.chk (aC (pi 30) (pi 0))
 (.chk (ao r0 (.ai .quo .i64 r8 (pi 30)))
 (.chk (aN (.ai .rem .i64 r8 (pi 30)) (pi 0))
 (.chk (aC (pi 2) (pi 0))
 (.call ⟨[(7,pN)],[(7,al0)]⟩ [] 35 119 [al0,r1]
 (.iteS ⟨[],[]⟩ (aN hH (pi 0)) [7] [6,7]
 (.call ⟨[],[]⟩ [] 39 158 [o7,r1]
 (.chk (aC (pi 30) (pi 0))
 (.chk (ao o6 (.ai .quo .i64 r8 (pi 30)))
 (.chk (aN (.ai .rem .i64 r8 (pi 30)) (pi 0))
 (.next ⟨[(7,pN)],[(6,(.setn o6 (.ai .quo .i64 r8 (pi 30)) 0 (ay (pn o6 (.ai .quo .i64 r8 (pi 30))) (.ai .shl .i64 (pi 1) (.ai .rem .i64 r8 (pi 30)))))),(7,tn)]⟩)))))
 (.next ⟨[],[]⟩)
 (.next ⟨[],[]⟩)))))))))
 (.next ⟨[(8,(aO r8 (pi 1)))],[]⟩))
 (.exit 0 ⟨[(11,r8),(12,(aN r8 (pi 0)))],[]⟩))
def abd:PT:=
 (.chk vn
 (.chk vt
 (.brk ⟨[(8,(pi 149)),(7,pN),(6,pN)],[(7,pj),(6,pj)]⟩
(axI b)
 (.ret (.tup [o6,o7])))))
def asu:PT×List (Shp×PT):=(abd b,[(.lp 0 [7,8,11,12] [7,6] [7,8] [7,6],PV b)])
def Wu:Bz.map told=some (asu (aU Bz)):=by kernel_rfl
def aEr:tree (ab Bz)=abd Sp:=bk Wu
def amP:round 0 [7,8,11,12] [7,6] [7,8] [7,6] (Sp 0)=PV Sp:=aQ Wu 0 λ_=>rfl
def BA:Option PC:=cF [6,7] [] Tryz.f179 179 [4,5]
def Sq:Nat->PC:=aV BA
def axJ:PC:=.block 0 [6,7,9,10] [5] (.loop [6,7] [5] (b 0))
def Ik (b:Nat->PC):PT:=
 (.ite (aj r7 (pi 5))
 (.chk (ao r0 r7)
 (.chk (ao r1 r7)
 (.chk (aC lT (pi 0))
 (.chk (ao o5 r7)
 (.next ⟨[(6,(.ai .quo .i64 (ay (ay r6 (pn r0 r7)) (pn r1 r7)) lT)),(7,td)],[(5,(.setn o5 r7 0 (.ai .rem .i64 (ay (ay r6 (pn r0 r7)) (pn r1 r7)) lT)))]⟩)))))
 (.exit 0 ⟨[(9,r7),(10,(aj r7 (pi 5)))],[]⟩))
def abe:PT:=
 (.chk vn
 (.chk vt
 (.brk ⟨[(7,(pi 0)),(6,(pi 0)),(5,pN)],[(5,pj)]⟩
(axJ b)
 (.ret o5))))
def asv:PT×List (Shp×PT):=(abe b,[(.lp 0 [6,7,9,10] [5] [6,7] [5],Ik b)])
def Wv:BA.map told=some (asv (aU BA)):=by kernel_rfl
def aEs:tree (ab BA)=abe Sq:=bk Wv
def YD:round 0 [6,7,9,10] [5] [6,7] [5] (Sq 0)=Ik Sq:=aQ Wv 0 λ_=>rfl
def Bx:Option PC:=cF [6,7,8] [] Tryz.f158 158 [4,5]
def Sn:Nat->PC:=aV Bx
def axG:PC:=.block 0 [6,7,10,11] [5] (.loop [6,7] [5] (b 0))
def Ij (b:Nat->PC):PT:=
 (.ite (aj r7 (pi 5))
 (.chk (ao r0 r7)
 (.chk (ao r1 r7)
 (.chk (ao o5 r7)
 (.next ⟨[(6,(.pick (aj Pe (pi 0)) (pi 1) (pi 0))),(7,td)],[(5,(.setn o5 r7 0 (.pick (aj Pe (pi 0)) (ay Pe lT) Pe)))]⟩))))
 (.exit 0 ⟨[(10,r7),(11,(aj r7 (pi 5)))],[]⟩))
def abb:PT:=
 (.chk vn
 (.chk vt
 (.brk ⟨[(7,(pi 0)),(6,(pi 0)),(5,pN)],[(5,pj)]⟩
(axG b)
 (.ret o5))))
def ass:PT×List (Shp×PT):=(abb b,[(.lp 0 [6,7,10,11] [5] [6,7] [5],Ij b)])
def Ws:Bx.map told=some (ass (aU Bx)):=by kernel_rfl
def aEp:tree (ab Bx)=abb Sn:=bk Ws
def YC:round 0 [6,7,10,11] [5] [6,7] [5] (Sn 0)=Ij Sn:=aQ Ws 0 λ_=>rfl
def Ca:Option PC:=cF [13,14,15,18,19,20,21,22] [] Tryz.f11 11 [5,7,10,11,12,16,17]
def Kp:Nat->PC:=aV Ca
def aij:PC:=.block 0 [22,122,123,124,125,126] [17] (.loop [22] [17] (b 0))
def Qb (b:Nat->PC):PT:=
 (.ite (aj jB (.llen (pc dK 17)))
 (.chk (ao (pc dK 17) jB)
 (.chk (.nt (.an (.an (.nt (ae (pc (pn (pc dK 17) jB) 0) (pi 4))) pT) (.nt (ao (pc dK 17) jB))))
 (.ite (.pick (ae (pc (pn (pc dK 17) jB) 0) (pi 4)) pT (ae (pc (pn (pc dK 17) jB) 0) (pi 5)))
 (.next ⟨[(22,(ay jB (pi 1)))],[(17,(.setc rp 2 (ay (pc rp 2) (pc (pn (pc dK 17) jB) 5))))]⟩)
 (.next ⟨[(22,(ay jB (pi 1)))],[]⟩))))
 (.exit 0 ⟨[(122,jB),(123,pN),(124,(pc dK 17)),(125,(.llen (pc dK 17))),(126,(aj jB (.llen (pc dK 17))))],[]⟩))
def acv:PT:=
 (.call ⟨[],[(10,z7),(7,(.mk [r2])),(5,(.mk [r0]))]⟩ [] 25 37 [xI,r4]
 (.ite (.pick (aj r3 (pi 0)) pT (aN r3 (.llen (pc (.setc ja 0 dZ) 15))))
 (.ret (ar 7 (.setc bP 0 (.mk [(pi 0),(pi 0),(pi 0),(pi 0),(pi 0),(pi 0),(pi 0)]))))
 (.call ⟨[],[(11,(.setc ja 0 dZ))]⟩ [] 42 38 [(ar 8 o5),r1,(ar 19 o7),r3,r4]
 (.call ⟨[],[(12,(.setc xO 0 (.tget Yj 0)))]⟩ [] 49 39 [(ar 8 o5),r1,(ar 19 o7),r4]
 (.iteS ⟨[(18,(.pick (aC jD (pi (-1))) (aY jD (.mn r4 (pi 100000))) pF)),(15,(.mn r4 (pi 100000))),(14,jD)],[(17,(.setc z7 0 (.mk [(pc Oz 5),(pi 0),(pi 0),(pi 0),(pi 0),(pi 0),(pc o7 4)]))),(16,(.setc HP 0 (.mk [(ar 19 o7),r3,r3,(pi (-1)),jD,r4])))]⟩ (.pick (aC jD (pi (-1))) (aY jD (.mn r4 (pi 100000))) pF) [] [17]
 (.iteS ⟨[(19,(pc o7 12))],[]⟩ (ae (pc o7 12) (pi 0)) [19] []
 (.call ⟨[],[]⟩ [] 80 41 [(ar 8 o5),r1,(pi 16),(ar 24 DJ)]
 (.call ⟨[],[]⟩ [] 81 40 [tz]
 (.next ⟨[(19,vB)],[]⟩)))
 (.next ⟨[],[]⟩)
 (.call ⟨[],[]⟩ [] 90 42 [(pc rp 0),(.mn (.mx gK (pi 0)) (pi 1000)),cn,bZ,(pi 360)]
 (.next ⟨[],[(17,(.pick (ae (.tget H8 1) (pi 3)) (.setc (.setc rp 1 (.tget H8 0)) 1 jb) (.setc rp 1 (.tget H8 0))))]⟩)))
 (.next ⟨[],[]⟩)
 (.call ⟨[(99,cR)],[]⟩ [(99,true)] 103 41 [(ar 8 o5),r1,(pi 17),(ar 24 DJ)]
 (.call ⟨[],[]⟩ [(99,true)] 104 43 [X8]
 (.iteS ⟨[],[]⟩ (.pick Yq (ae ame (pi 1)) pF) [] [17]
 (.chk (ao (pc dK 15) r3)
 (.call ⟨[],[]⟩ [] 120 44 [(ar 8 o5),(ar 15 o7),(pc (pn (pc dK 15) r3) 2),(pc rp 0),cn,bZ]
 (.next ⟨[],[(17,(.setc rp 3 Ya))]⟩)))
 (.next ⟨[],[]⟩)
 (.brk ⟨[(22,(pi 0))],[]⟩
(aij b)
 (.ret (ar 7 (.setc bP 0 (ar 7 (.setc HX 5 (.mn (ay (ay (ay (pc HX 0) (pc HX 1)) (pc HX 2)) (pc HX 3)) jb)))))))))))))))
def as6:PT×List (Shp×PT):=(acv b,[(.lp 0 [22,122,123,124,125,126] [17] [22] [17],Qb b)])
def WW:Ca.map told=some (as6 (aU Ca)):=by kernel_rfl
def aFX:tree (ab Ca)=acv Kp:=bk WW
def am0:round 0 [22,122,123,124,125,126] [17] [22] [17] (Kp 0)=Qb Kp:=aQ WW 0 λ_=>rfl
def BW:Option PC:=cF [5,6,8,9] [] Tryz.f37 37 [2,4,46,52,7,69639,77831,81,115]
def uj:Nat->PC:=aV BW
def ayf:PC:=.block 0 [5,10,11,12,13,14,15,24] [] (.loop [5] [] (b 0))
def ayg:PC:=.block 2 [6,27,28,29,30,31,32,41] [] (.loop [6] [] (b 1))
def ayh:PC:=.block 4 [8,59,60,61,62,63] [7,69639] (.loop [8] [7,69639] (b 2))
def ayi:PC:=.block 6 [9,84,85,86,87,88] [7,77831] (.loop [9] [7,77831] (b 3))
def II (b:Nat->PC):PT:=
 (.chk (.nt (.an (.an HN pT) (.nt (ao (pc o2 15) r5))))
 (.ite (.pick HN (aY (pc (pn (pc o2 15) r5) 6) r1) pF)
 (.next ⟨[(5,px)],[]⟩)
 (.exit 0 ⟨[(10,r5),(11,pN),(12,(pc o2 15)),(13,(.llen (pc o2 15))),(14,HN),(15,HN),(24,(.pick HN (aY (pc (pn (pc o2 15) r5) 6) r1) pF))],[]⟩)))
def IJ (b:Nat->PC):PT:=
 (.chk (.nt (.an (.an HM pT) (.nt (ao (pc o2 17) r6))))
 (.ite (.pick HM (aY (pc (pn (pc o2 17) r6) 6) r1) pF)
 (.next ⟨[(6,xM)],[]⟩)
 (.exit 2 ⟨[(27,r6),(28,pN),(29,(pc o2 17)),(30,(.llen (pc o2 17))),(31,HM),(32,HM),(41,(.pick HM (aY (pc (pn (pc o2 17) r6) 6) r1) pF))],[]⟩)))
def IK (b:Nat->PC):PT:=
 (.ite (aj r8 AE)
 (.chk (ao (pc o2 16) r8)
 (.ite (aY (pc (pn (pc o2 16) r8) 0) r5)
 (.chk (aY (.llen (.app (.o 69639) (.lst [(pn (pc o2 16) r8)]))) cJ)
 (.next ⟨[(8,pv)],[(7,(.setc o7 16 pN)),(69639,(.app (.o 69639) (.lst [(pn (pc o2 16) r8)])))]⟩))
 (.next ⟨[(8,pv)],[]⟩)))
 (.exit 4 ⟨[(59,r8),(60,pN),(61,(pc o2 16)),(62,AE),(63,(aj r8 AE))],[]⟩))
def D6 (b:Nat->PC):PT:=
 (.ite (aj r9 (.llen (pc o2 18)))
 (.chk (ao (pc o2 18) r9)
 (.chk (.nt (.an (.an (aN (pc (pn (pc o2 18) r9) 1) (pi 0)) pT) (.nt (ao (pc o2 18) r9))))
 (.ite (.pick (aN (pc (pn (pc o2 18) r9) 1) (pi 0)) (aj (pc (pn (pc o2 18) r9) 1) r5) pF)
 (.chk (aY (.llen (.app (.o 77831) (.lst [(pn (pc o2 18) r9)]))) cJ)
 (.next ⟨[(9,(ay r9 (pi 1)))],[(7,(.setc o7 18 pN)),(77831,(.app (.o 77831) (.lst [(pn (pc o2 18) r9)])))]⟩))
 (.next ⟨[(9,(ay r9 (pi 1)))],[]⟩))))
 (.exit 6 ⟨[(84,r9),(85,pN),(86,(pc o2 18)),(87,(.llen (pc o2 18))),(88,(aj r9 (.llen (pc o2 18))))],[]⟩))
def abS:PT:=
 (.brk ⟨[(5,(pi 0))],[(4,ja),(2,(.mk [r0]))]⟩
(ayf b)
 (.brk ⟨[(6,(pi 0))],[]⟩
(ayg b)
 (.chk (.slok (pc o2 15) (pi 0) r5)
 (.chk (aY (.llen (.app (.lst []) (.slc (pc o2 15) (pi 0) r5))) cJ)
 (.chk (.slok (pc o2 17) (pi 0) r6)
 (.chk (aY (.llen (.app (.lst []) (.slc (pc o2 17) (pi 0) r6))) cJ)
 (.brk ⟨[(8,(pi 0))],[(77831,pL),(69639,pL),(7,(.setc ja 0 (.mk [(ar 15 o2),(.app (.lst []) (.slc (pc o2 15) (pi 0) r5)),pL,(.app (.lst []) (.slc (pc o2 17) (pi 0) r6)),pL])))]⟩
(ayh b)
 (.brk ⟨[(9,(pi 0))],[]⟩
(ayi b)
 (.ret (ar 19 (.setc o4 0 (.mk [(pc o7 0),(pc o7 1),(pc o7 2),(pc o7 3),(pc o7 4),(pc o7 5),(pc o7 6),(pc o7 7),(pc o7 8),(pc o7 9),(pc o7 10),(pc o7 11),(pc o7 12),(pc o7 13),(pc o7 14),(pc o7 15),(.o 69639),(pc o7 17),(.o 77831)]))))))))))))
def asR:PT×List (Shp×PT):=(abS b,[(.lp 0 [5,10,11,12,13,14,15,24] [] [5] [],II b),(.lp 2 [6,27,28,29,30,31,32,41] [] [6] [],IJ b),(.lp 4 [8,59,60,61,62,63] [7,69639] [8] [7,69639],IK b),(.lp 6 [9,84,85,86,87,88] [7,77831] [9] [7,77831],D6 b)])
def DM:BW.map told=some (asR (aU BW)):=by kernel_rfl
def aE9:tree (ab BW)=abS uj:=bk DM
def YY:round 0 [5,10,11,12,13,14,15,24] [] [5] [] (uj 0)=II uj:=aQ DM 0 λ_=>rfl
def YZ:round 2 [6,27,28,29,30,31,32,41] [] [6] [] (uj 1)=IJ uj:=aQ DM 1 λ_=>rfl
def Za:round 4 [8,59,60,61,62,63] [7,69639] [8] [7,69639] (uj 2)=IK uj:=aQ DM 2 λ_=>rfl
def P7:round 6 [9,84,85,86,87,88] [7,77831] [9] [7,77831] (uj 3)=D6 uj:=aQ DM 3 λ_=>rfl
def Md:Option PC:=cF [11] [] Tryz.f38 38 [5,7,10,12]
def acp:PT:=
 (.call ⟨[],[(10,xO),(7,(.mk [r2])),(5,(.mk [r0]))]⟩ [] 15 37 [xI,r4]
 (.ite (.pick (aj r3 (pi 0)) pT (aN r3 (.llen (pc (.setc ja 0 bZ) 15))))
 (.ret (.tup [(ar 7 (.setc bP 0 (.mk [(pi 0),(pi 0),(pi 0),(pi 0),(pi 0),(pi 0),pF]))),pF]))
 (.call ⟨[],[]⟩ [] 31 88 [(ar 8 o5),r1,(ar 19 o7),r3,r4]
 (.ret (.tup [(ar 7 (.setc bP 0 g9)),pT])))))
def akC:Md.map told=some (acp,[]):=by kernel_rfl
def aFS:tree (ab Md)=acp:=aD akC
def Me:Option PC:=cF [14,15] [] Tryz.f88 88 [5,7,10,11,12,13]
def acq:PT:=
 (.call ⟨[],[(10,xO),(7,(.mk [r2])),(5,(.mk [r0]))]⟩ [] 18 37 [xI,r4]
 (.chk (ao (pc (.setc ja 0 cR) 15) r3)
 (.call ⟨[],[(13,(.setc (.setc xO 0 (.mk [r3,(pc HV 0),(pc HV 2),(pi 0),(pi 0),(pi 0),pF])) 6 (.pick (aC (pc HV 0) (pi 1)) (ae (.ai .and .i64 (pc HV 8) (pi 1)) (pi 0)) pF))),(12,HV),(11,(.setc ja 0 cR))]⟩ [] 44 89 [(ar 8 o5),r1,(pi 0),(ar 19 o7),r4]
 (.call ⟨[],[]⟩ [] 45 43 [rD]
 (.call ⟨[(46,mG)],[]⟩ [] 52 137 [(ar 8 o5),r1,(pi 1),(ar 19 o7),r3,r4]
 (.call ⟨[],[]⟩ [] 58 137 [(ar 8 o5),r1,(pi 2),(ar 19 o7),r3,r4]
 (.call ⟨[],[]⟩ [] 59 136 [vw,ny]
 (.call ⟨[],[]⟩ [] 60 136 [xX,nz]
 (.call ⟨[],[(13,(.setc kp 3 rF))]⟩ [] 65 138 [(ar 19 dK),r3,r4]
 (.call ⟨[],[(13,(.pick lW (.setc kp 3 (pi 0)) kp))]⟩ [] 69 139 [(ar 19 dK),r3]
 (.call ⟨[],[(13,(.setc kp 5 tw))]⟩ [] 73 140 [(ar 19 dK),r3]
 (.iteS ⟨[],[]⟩ rG [] [13]
 (.chk (ao (pc dK 16) (aO (.llen (pc dK 16)) (pi 1)))
 (.call ⟨[(15,(pc (pn (pc dK 16) (aO (.llen (pc dK 16)) (pi 1))) 1))],[]⟩ [] 88 137 [(ar 8 o5),r1,(pi 4),(ar 19 o7),r3,r4]
 (.next ⟨[],[(13,(.pick (.pick (ae (pc (.setc kp 4 rH) 4) (pi 1)) pT (.pick (ae (pc (.setc kp 4 rH) 4) (pi 2)) (aj bZ (pc (.setc kp 4 rH) 5)) pF)) (.setc (.setc kp 4 rH) 5 bZ) (.setc kp 4 rH)))]⟩)))
 (.next ⟨[],[]⟩)
 (.ret (ar 7 (.setc bP 0 (ar 7 (.pick (.pick (ae (pc Oz 0) (pi 1)) pT (ae (pc Oz 0) (pi 4))) (.setc kp 5 (.mn (pc kp 5) (pc Oz 5))) kp)))))))))))))))))
def akD:Me.map told=some (acq,[]):=by kernel_rfl
def aFT:tree (ab Me)=acq:=aD akD
def L8:Option PC:=cF [] [] Tryz.f89 89 [5,8,77832,10]
def ach:PT:=
 (.call ⟨[],[(10,vm)]⟩ [] 18 41 [fU,r1,r2,alW]
 (.ret (ar 5 (.setc bP 0 cR))))
def akx:L8.map told=some (ach,[]):=by kernel_rfl
def aFJ:tree (ab L8)=ach:=aD akx
def L7:Option PC:=cF [10,11,12] [] Tryz.f41 41 [4,7,8,9,16393]
def acg:PT:=
 (.call ⟨[],[(16393,pL),(9,(.setc vm 0 (.mk [cN,(pi (-1)),pL,(pi 1)]))),(8,vm),(7,(.mk [r3])),(4,(.mk [r0]))]⟩ [] 17 92 [fU,r1,(ar 24 (.mk [r3]))]
 (.call ⟨[(21,(ae (.llen dR) (pi 0))),(10,dR)],[]⟩ [(21,false)] 23 93 [r2]
 (.ite (.pick fE pT (.nt fa))
 (.ret (ar 5 (.setc o8 0 (.mk [(pc o9 0),(pc o9 1),(pc o9 2),(.o 16393),(pc o9 4)]))))
 (.call ⟨[],[]⟩ [] 32 94 [(ar 8 o4),r1,r2,aZ]
 (.ite (.pick (aC (.tget ku 1) (pi 0)) pT (ae (.llen (.tget ku 0)) (pi 0)))
 (.ret (ar 5 (.setc o8 0 (ar 5 (.setc (.setc o9 3 (.tget ku 0)) 4 (.tget ku 1))))))
 (.chk (ao (.tget ku 0) (aO (.llen (.tget ku 0)) (pi 1)))
 (.chk (ao (pc o4 4) (pc XU 2))
 (.call ⟨[(61,r2),(60,(pn (pc o4 4) (pc XU 2)))],[(9,XU)]⟩ [] 64 96 [(ar 8 o4),(ar 24 o7)]
 (.call ⟨[],[]⟩ [] 65 95 [rF,DX,kX]
 (.ret (ar 5 (.setc o8 0 (ar 5 (.setc (.setc o9 0 (.tget lW 0)) 4 (.tget lW 1)))))))))))))))
def akw:L7.map told=some (acg,[]):=by kernel_rfl
def aFI:tree (ab L7)=acg:=aD akw
def B8:Option PC:=cF [6,9] [] Tryz.f92 92 [3,5,7,8]
def SQ:Nat->PC:=aV B8
def aii:PC:=.block 0 [6,9,81,82,83,84] [] (.loop [6,9] [] (b 0))
def IV (b:Nat->PC):PT:=
 (.ite (aj r9 (.llen o8))
 (.chk (ao o8 r9)
 (.ite (aj (pn o8 r9) (pi 0))
 (.ret pL)
 (.next ⟨[(9,(ay r9 (pi 1)))],[]⟩)))
 (.exit 0 ⟨[(81,r9),(82,r8),(83,(.llen o8)),(84,(aj r9 (.llen o8)))],[]⟩))
def acm:PT:=
 (.call ⟨[(6,pL)],[(5,(.mk [r2])),(3,(.mk [r0]))]⟩ [] 12 96 [fU,(ar 24 (.mk [r2]))]
 (.ite (.pick (.pick (ae (.llen bK) (pi 0)) pT (aj r1 (pi 0))) pT (aN r1 (.llen (pc o3 4))))
 (.ret pL)
 (.chk (ao (pc o5 15) (pc o5 19))
 (.ite (.pick (aj (pc Pd 2) (pi 0)) pT (aN (pc Pd 2) (.llen (pc o3 3))))
 (.ret pL)
 (.chk vn
 (.chk vt
 (.chk (ao pj (pi 0))
 (.call ⟨[(8,pN)],[(8,(.setn pj (pi 0) 0 r1)),(7,Pd)]⟩ [] 52 148 [(ar 8 o3),(pc Pd 7)]
 (.chk (ao o8 (pi 1))
 (.call ⟨[],[(8,(.setn o8 (pi 1) 0 vw))]⟩ [] 60 148 [(ar 8 o3),(pc o5 10)]
 (.chk (ao o8 (pi 2))
 (.call ⟨[],[(8,(.setn o8 (pi 2) 0 rF))]⟩ [] 68 148 [(ar 8 o3),(pc o5 9)]
 (.chk (ao o8 (pi 3))
 (.chk (ao (pc o3 3) (pc o7 2))
 (.call ⟨[],[(8,(.setn o8 (pi 3) 0 PD))]⟩ [] 79 148 [(ar 8 o3),(pc (pn (pc o3 3) (pc o7 2)) 1)]
 (.chk (ao o8 (pi 4))
 (.brk ⟨[(9,(pi 0))],[(8,(.setn o8 (pi 4) 0 r79))]⟩
(aii b)
 (.ret o8))))))))))))))))))
def as4:PT×List (Shp×PT):=(acm b,[(.lp 0 [6,9,81,82,83,84] [] [6,9] [],IV b)])
def WU:B8.map told=some (as4 (aU B8)):=by kernel_rfl
def aFP:tree (ab B8)=acm SQ:=bk WU
def Zj:round 0 [6,9,81,82,83,84] [] [6,9] [] (SQ 0)=IV SQ:=aQ WU 0 λ_=>rfl
def L9:Option PC:=cF [4] [] Tryz.f96 96 [2,3]
def aci:PT:=
 (.call ⟨[],[(3,(.mk [r1])),(2,(.mk [r0]))]⟩ [] 9 37 [(ar 19 (.mk [r1])),(pc (.mk [r1]) 23)]
 (.call ⟨[],[]⟩ [] 13 156 [(ar 8 o2),(ar 24 (.setc o3 0 r9))]
 (.ret cK)))
def aky:L9.map told=some (aci,[]):=by kernel_rfl
def aFK:tree (ab L9)=aci:=aD aky
def BZ:Option PC:=cF [4,8,9,10,11] [] Tryz.f156 156 [2,3,5,6,7]
def SG:Nat->PC:=aV BZ
def aih:PC:=.block 0 [9,10,157,158,159,160,161] [] (.loop [9,10] [] (b 0))
def P9 (b:Nat->PC):PT:=
 (.ite (aj aZ (.llen (pc o5 16)))
 (.chk (.nt (.an (.an (.nt r9) pT) (.nt (ao (pc o5 16) aZ))))
 (.next ⟨[(9,(.pick r9 pT (aY (pc (pn (pc o5 16) aZ) 0) (pc o3 19)))),(10,(ay aZ (pi 1)))],[]⟩))
 (.exit 0 ⟨[(157,aZ),(158,pN),(159,(pc o5 16)),(160,(.llen (pc o5 16))),(161,(aj aZ (.llen (pc o5 16))))],[]⟩))
def abV:PT:=
 (.ite (.pick (.pick (.pick (.pick (.pick (aj (pc (.mk [r1]) 19) (pi 0)) pT (aN (pc (.mk [r1]) 19) (.llen (pc xQ 15)))) pT (aj (pc (.mk [r1]) 20) (pi (-1)))) pT (aN (pc (.mk [r1]) 20) (.llen (pc xQ 15)))) pT (aj (pc (.mk [r1]) 22) (pi (-1)))) pT (aS (pc (.mk [r1]) 22) (pi 100000)))
 (.ret pL)
 (.chk (ao (pc xQ 15) (pc (.mk [r1]) 19))
 (.ite (.pick (aj (pc XO 6) (pi 0)) pT (aS (pc XO 6) (pi 100000)))
 (.ret pL)
 (.chk (.an (aN (pi 20) (pi 0)) (aY (pi 20) cJ))
 (.chk (ae (pi 20) (pi 20))
 (.call ⟨[],[(7,(.rep (pi 20) cN)),(6,XO),(5,xQ),(3,(.mk [r1])),(2,(.mk [r0]))]⟩ [] 67 204 [(pc xQ 3)]
 (.chk (ao o7 (pi 0))
 (.call ⟨[],[(7,(.setn o7 (pi 0) 0 tu))]⟩ [] 73 204 [(pc o5 14)]
 (.chk (ao o7 (pi 1))
 (.call ⟨[],[(7,(.setn o7 (pi 1) 0 rG))]⟩ [] 80 204 [(pc o5 5)]
 (.chk (ao o7 (pi 2))
 (.call ⟨[],[(7,(.setn o7 (pi 2) 0 tz))]⟩ [] 86 204 [(pc o5 12)]
 (.chk (ao o7 (pi 3))
 (.call ⟨[],[(7,(.setn o7 (pi 3) 0 Yn))]⟩ [] 91 204 [(pc o6 0)]
 (.chk (ao o7 (pi 4))
 (.call ⟨[],[(7,(.setn o7 (pi 4) 0 r91))]⟩ [] 96 204 [(pc o3 21)]
 (.chk (ao o7 (pi 5))
 (.call ⟨[(8,(.pick HQ (aO (pc o6 6) (pc o3 22)) (pi 0)))],[(7,(.setn o7 (pi 5) 0 PG))]⟩ [] 108 204 [(.pick HQ (aO (pc o6 6) (pc o3 22)) (pi 0))]
 (.chk (ao o7 (pi 6))
 (.call ⟨[],[(7,(.setn o7 (pi 6) 0 H3))]⟩ [] 113 205 [(aS r8 (pi 0))]
 (.chk (ao o7 (pi 14))
 (.call ⟨[],[(7,(.setn o7 (pi 14) 0 amf))]⟩ [] 119 206 [(pc o5 13),(pi 1)]
 (.call ⟨[],[]⟩ [] 120 205 [amh]
 (.chk (ao o7 (pi 7))
 (.call ⟨[],[(7,(.setn o7 (pi 7) 0 Ya))]⟩ [] 126 206 [(pc o5 13),(pi 2)]
 (.call ⟨[],[]⟩ [] 127 205 [amj]
 (.chk (ao o7 (pi 10))
 (.call ⟨[],[(7,(.setn o7 (pi 10) 0 Yb))]⟩ [] 133 206 [(pc o5 13),(pi 4)]
 (.call ⟨[],[]⟩ [] 134 205 [(.r 133)]
 (.chk (ao o7 (pi 9))
 (.call ⟨[],[(7,(.setn o7 (pi 9) 0 (.r 134)))]⟩ [] 141 205 [(ae (pc o5 2) (pi (-1)))]
 (.chk (ao o7 (pi 8))
 (.call ⟨[],[(7,(.setn o7 (pi 8) 0 (.r 141)))]⟩ [] 148 148 [(ar 8 o2),(pc o5 9)]
 (.call ⟨[],[]⟩ [] 153 148 [(ar 8 o2),(pc o5 10)]
 (.call ⟨[],[]⟩ [] 155 205 [(aC (.r 148) (.r 153))]
 (.chk (ao o7 (pi 11))
 (.brk ⟨[(10,(pi 0)),(9,pF)],[(7,(.setn o7 (pi 11) 0 (.r 155)))]⟩
(aih b)
 (.call ⟨[],[]⟩ [] 178 205 [r9]
 (.chk (ao o7 (pi 12))
 (.call ⟨[],[(7,(.setn o7 (pi 12) 0 (.r 178)))]⟩ [] 183 206 [(pc o6 8),(pi 1)]
 (.call ⟨[],[]⟩ [] 184 205 [(.r 183)]
 (.chk (ao o7 (pi 13))
 (.call ⟨[(11,(.mx (pc o3 20) (pi 0)))],[(7,(.setn o7 (pi 13) 0 (.r 184)))]⟩ [] 193 207 [(ar 19 o5),(pi 0),(pc o3 19)]
 (.chk (ao o7 (pi 15))
 (.call ⟨[],[(7,(.setn o7 (pi 15) 0 (.r 193)))]⟩ [] 199 207 [(ar 19 o5),(pi 1),(pc o3 19)]
 (.chk (ao o7 (pi 16))
 (.call ⟨[],[(7,(.setn o7 (pi 16) 0 (.r 199)))]⟩ [] 205 207 [(ar 19 o5),(pi 2),(pc o3 19)]
 (.chk (ao o7 (pi 17))
 (.call ⟨[],[(7,(.setn o7 (pi 17) 0 (.r 205)))]⟩ [] 210 207 [(ar 19 o5),(pi 3),bJ]
 (.chk (ao o7 (pi 18))
 (.call ⟨[],[(7,(.setn o7 (pi 18) 0 (.r 210)))]⟩ [] 215 207 [(ar 19 o5),(pi 4),bJ]
 (.chk (ao o7 (pi 19))
 (.ret (.setn o7 (pi 19) 0 (.r 215)))))))))))))))))))))))))))))))))))))))))))))))))))))))
def asU:PT×List (Shp×PT):=(abV b,[(.lp 0 [9,10,157,158,159,160,161] [] [9,10] [],P9 b)])
def WJ:BZ.map told=some (asU (aU BZ)):=by kernel_rfl
def aFe:tree (ab BZ)=abV SG:=bk WJ
def amY:round 0 [9,10,157,158,159,160,161] [] [9,10] [] (SG 0)=P9 SG:=aQ WJ 0 λ_=>rfl
def LJ:Option PC:=cF [] [] Tryz.f204 204 [2]
def abX:PT:=
 (.ret (.mk [(pc (.setc cN 0 (.mk [pT,r0])) 0),(pc (.setc cN 0 (.mk [pT,r0])) 1)]))
def akb:LJ.map told=some (abX,[]):=by kernel_rfl
def aFg:tree (ab LJ)=abX:=aD akb
def LK:Option PC:=cF [] [] Tryz.f205 205 [2]
def Q3:PT:=
 (.iteS ⟨[],[(2,cN)]⟩ r0 [] [2]
 (.call ⟨[],[]⟩ [] 4 204 [(pi 1)]
 (.ret (.mk [(pc (.setc o2 0 r4) 0),(pc (.setc o2 0 r4) 1)])))
 (.next ⟨[],[]⟩)
 (.call ⟨[],[]⟩ [] 5 204 [(pi 0)]
 (.ret (.mk [(pc (.setc o2 0 r5) 0),(pc (.setc o2 0 r5) 1)]))))
def akc:LK.map told=some (Q3,[]):=by kernel_rfl
def aFh:tree (ab LK)=Q3:=aD akc
def LI:Option PC:=cF [4] [] Tryz.f206 206 []
def abW:PT:=
 (.ret (ae (.ai .and .i64 r0 r1) r1))
def aka:LI.map told=some (abW,[]):=by kernel_rfl
def aFf:tree (ab LI)=abW:=aD aka
def Ly:Option PC:=cF [4] [] Tryz.f148 148 [2]
def abA:PT:=
 (.call ⟨[],[(2,(.mk [r0]))]⟩ [] 10 150 [r1,(pi 0),(aO (.llen gJ) (pi 1))]
 (.ite aZ
 (.chk (ao (pc o2 1) r1)
 (.ret (pc (pn (pc o2 1) r1) 1)))
 (.ret (pi (-1)))))
def aj1:Ly.map told=some (abA,[]):=by kernel_rfl
def aEP:tree (ab Ly)=abA:=aD aj1
def Lz:Option PC:=cF [6] [] Tryz.f150 150 []
def abF:PT:=
 (.ret (.pick (aY r1 r0) (aY r0 r2) pF))
def aj2:Lz.map told=some (abF,[]):=by kernel_rfl
def aEU:tree (ab Lz)=abF:=aD aj2
end Rm
