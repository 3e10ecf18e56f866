/-
  The functions of this seat, compiled (2).
-/
import Derived.Test.YtkhkejmimnklfaaGreatDoorKAK
import Derived.KernelRfl
set_option linter.unusedVariables false
set_option maxRecDepth 100000
namespace Rm
open Go Go.Proofs Cx
noncomputable def zR:Option PC:=ay {ctx with fr:=[2,3,4,5],nh:=[]} Tryz.f227 ((ab af 227).getD default) []
noncomputable def Jd:PC:=ax zR
noncomputable def My:Nat→PC:=bt zR
def atI (b:Nat→PC):PC:=.block 0 [2,16,17] [] (.loop [2,16] [] (b 0))
def CT (b:Nat→PC):PT:=
 (.ite (aq cE cJ)
 (.chk (az cU cE)
 (.ite (.pick (.nt (.pick (.pick (aV pA (.con (.v (.int .u8 97)))) (bL pA (.con (.v (.int .u8 122)))) pF) pT (.pick (aV pA (.con (.v (.int .u8 65)))) (bL pA (.con (.v (.int .u8 90)))) pF))) (.pick (ao cE (pi 0)) pT (.pick (aO pA (.con (.v (.int .u8 95)))) (.pick (aq pA (.con (.v (.int .u8 48)))) pT (bh pA (.con (.v (.int .u8 57))))) pF)) pF)
 (.ret pF)
 (.next ⟨[(16,(aJ cE (pi 1)))],[]⟩)))
 (.exit 0 ⟨[(17,(aq cE cJ))],[]⟩))
def TP (b:Nat→PC):PT:=
 (.ite (.pick (.cs .eql r0 (.con (.v (.string ⟨#[]⟩)))) pT (bh (.slen r0) (pi 20)))
 (.ret pF)
 (.chk (bL (.slen r0) cT)
 (.brk ⟨[(16,(pi 0)),(15,(.llen (.bytes r0))),(14,(.bytes r0)),(2,pF)],[]⟩
(atI b)
 (.ret pT))))
def aoC (b:Nat→PC):PT×List (Shp×PT):=(TP b,[(.lp 0 [2,16,17] [] [2,16] [],CT b)])
theorem Qk:zR.map told=some (aoC (aw zR)):=by kernel_rfl
theorem ayW:tree Jd=TP My:=aB Qk
theorem RC:round 0 [2,16,17] [] [2,16] [] (My 0)=CT My:=bq Qk 0 fun _=>rfl
theorem akf:zR=some Jd:=aA Qk
noncomputable def Fj:Option PC:=ay {ctx with fr:=[4],nh:=[]} Tryz.f228 ((ab af 228).getD default) []
noncomputable def Jv:PC:=ax Fj
def T9:PT:=
 (.call ⟨[],[]⟩ [] 7 257 [r0,r1]
 (.ret (aV r7 (pi 0))))
def aoU (b:Nat→PC):PT×List (Shp×PT):=(T9,[])
theorem acI:Fj.map told=some (aoU (aw Fj)):=by kernel_rfl
theorem aze:tree Jv=T9:=aB acI
theorem akx:Fj=some Jv:=aA acI
noncomputable def Af:Option PC:=ay {ctx with fr:=[4,5],nh:=[]} Tryz.f257 ((ab af 257).getD default) []
noncomputable def JA:PC:=ax Af
noncomputable def MF:Nat→PC:=bt Af
def aua (b:Nat→PC):PC:=.block 0 [4,8,9] [] (.loop [4,8] [] (b 0))
def C9 (b:Nat→PC):PT:=
 (.ite (aq r8 r7)
 (.chk (az r0 r8)
 (.ite (.cs .eql r1 (pn r0 r8))
 (.ret r8)
 (.next ⟨[(8,sE)],[]⟩)))
 (.exit 0 ⟨[(9,(aq r8 r7))],[]⟩))
def Ue (b:Nat→PC):PT:=
 (.brk ⟨[(8,(pi 0)),(7,(.llen r0)),(4,(pi 0))],[]⟩
(aua b)
 (.ret (pi (-1))))
def aoZ (b:Nat→PC):PT×List (Shp×PT):=(Ue b,[(.lp 0 [4,8,9] [] [4,8] [],C9 b)])
theorem Qr:Af.map told=some (aoZ (aw Af)):=by kernel_rfl
theorem azj:tree JA=Ue MF:=aB Qr
theorem RT:round 0 [4,8,9] [] [4,8] [] (MF 0)=C9 MF:=bq Qr 0 fun _=>rfl
theorem akC:Af=some JA:=aA Qr
noncomputable def E5:Option PC:=ay {ctx with fr:=[2],nh:=[]} Tryz.f118 ((ab af 118).getD default) []
noncomputable def I4:PC:=ax E5
def TH:PT:=
 (.ret pT)
def aot (b:Nat→PC):PT×List (Shp×PT):=(TH,[])
theorem acv:E5.map told=some (aot (aw E5)):=by kernel_rfl
theorem ayN:tree I4=TH:=aB acv
theorem aj5:E5=some I4:=aA acv
noncomputable def E6:Option PC:=ay {ctx with fr:=[3],nh:=[]} Tryz.f119 ((ab af 119).getD default) []
noncomputable def I5:PC:=ax E6
def TI:PT:=
 (.chk (az (pc (.deref r1) 1) r0)
 (.call ⟨[],[]⟩ [] 10 120 [(.deref r1),(pn (pc (.deref r1) 1) r0)]
 (.ret cD)))
def aou (b:Nat→PC):PT×List (Shp×PT):=(TI,[])
theorem acw:E6.map told=some (aou (aw E6)):=by kernel_rfl
theorem ayO:tree I5=TI:=aB acw
theorem aj6:E6=some I5:=aA acw
noncomputable def zP:Option PC:=ay {ctx with fr:=[4,6],nh:=[]} Tryz.f120 ((ab af 120).getD default) [2,3]
noncomputable def Ja:PC:=ax zP
noncomputable def Mw:Nat→PC:=bt zP
def atG (b:Nat→PC):PC:=.block 0 [4,10,11] [] (.loop [4,10] [] (b 0))
def CR (b:Nat→PC):PT:=
 (.ite (aq cD r9)
 (.chk (az r8 cD)
 (.chk (aO (pi 100) (pi 0))
 (.chk (.nt (.an (.an (.nt (aq QS (pi 1))) pT) (.nt (aO (pi 100) (pi 0)))))
 (.ite (.pick (aq QS (pi 1)) pT (bh QS (pi 31)))
 (.ret pF)
 (.next ⟨[(10,(aJ cD (pi 1)))],[]⟩)))))
 (.exit 0 ⟨[(11,(aq cD r9))],[]⟩))
def TM (b:Nat→PC):PT:=
 (.brk ⟨[(10,(pi 0)),(9,(.llen (pc (.mk [r1]) 4))),(8,(pc (.mk [r1]) 4)),(4,pF)],[(3,(.mk [r1])),(2,(.mk [r0]))]⟩
(atG b)
 (.call ⟨[(33,(.pick (bh (.llen (pc o3 4)) (pi 60)) pT (bh (.llen (pc o3 5)) (pi 200))))],[]⟩ [(33,false)] 39 82 [(pc o3 1),(.llen (pc o2 4))]
 (.call ⟨[(42,(.pick sG pT (.nt sH)))],[]⟩ [(42,false)] 48 82 [(pc o3 2),(.llen (pc o2 0))]
 (.ite (.pick r42 pT (.nt ir))
 (.ret pF)
 (.call ⟨[],[]⟩ [] 53 182 [(pc o3 3),(pi 0),(pi 6)]
 (.call ⟨[(54,r53)],[]⟩ [(54,true)] 57 182 [(pc o3 4),(pi 101),(pi 1231)]
 (.call ⟨[(59,(.pick qK sJ pF))],[]⟩ [(59,true)] 62 182 [(pc o3 5),(pi 0),(pi 100000)]
 (.ret (.pick KF od pF)))))))))
def aoz (b:Nat→PC):PT×List (Shp×PT):=(TM b,[(.lp 0 [4,10,11] [] [4,10] [],CR b)])
theorem Qi:zP.map told=some (aoz (aw zP)):=by kernel_rfl
theorem ayT:tree Ja=TM Mw:=aB Qi
theorem RA:round 0 [4,10,11] [] [4,10] [] (Mw 0)=CR Mw:=bq Qi 0 fun _=>rfl
theorem akc:zP=some Ja:=aA Qi
noncomputable def zV:Option PC:=ay {ctx with fr:=[6,7,8],nh:=[]} Tryz.f182 ((ab af 182).getD default) []
noncomputable def Ji:PC:=ax zV
noncomputable def Mz:Nat→PC:=bt zV
def atQ (b:Nat→PC):PC:=.block 0 [6,11,12] [] (.loop [6,11] [] (b 0))
def sN (b:Nat→PC):PT:=
 (.ite (aq br cD)
 (.chk (az r9 br)
 (.chk (.nt (.an (.an (bh br (pi 0)) (.an (.nt (.pick (aq (pn r9 br) r1) pT (bh (pn r9 br) r2))) pT)) (.nt (az r0 (bG br (pi 1))))))
 (.ite (.pick (.pick (aq (pn r9 br) r1) pT (bh (pn r9 br) r2)) pT (.pick (bh br (pi 0)) (bL (pn r9 br) (pn r0 (bG br (pi 1)))) pF))
 (.ret pF)
 (.next ⟨[(11,(aJ br (pi 1)))],[]⟩))))
 (.exit 0 ⟨[(12,(aq br cD))],[]⟩))
def TV (b:Nat→PC):PT:=
 (.brk ⟨[(11,(pi 0)),(10,(.llen r0)),(9,r0),(6,pF)],[]⟩
(atQ b)
 (.ret pT))
def aoH (b:Nat→PC):PT×List (Shp×PT):=(TV b,[(.lp 0 [6,11,12] [] [6,11] [],sN b)])
theorem Ql:zV.map told=some (aoH (aw zV)):=by kernel_rfl
theorem ay1:tree Ji=TV Mz:=aB Ql
theorem yy:round 0 [6,11,12] [] [6,11] [] (Mz 0)=sN Mz:=bq Ql 0 fun _=>rfl
theorem akk:zV=some Ji:=aA Ql
noncomputable def E7:Option PC:=ay {ctx with fr:=[3],nh:=[]} Tryz.f121 ((ab af 121).getD default) []
noncomputable def I6:PC:=ax E7
def TJ:PT:=
 (.chk (az (pc (.deref r1) 3) r0)
 (.call ⟨[],[]⟩ [] 13 82 [(pc (pn (pc (.deref r1) 3) r0) 1),(.llen (pc (.deref r1) 1))]
 (.chk (.nt (.an (.an db pT) (.nt (az (pc (.deref r1) 3) r0))))
 (.call ⟨[(14,db)],[]⟩ [(14,true)] 24 82 [(pc (pn (pc (.deref r1) 3) r0) 2),(.llen (pc (.deref r1) 2))]
 (.ret (.pick cU pD pF))))))
def aov (b:Nat→PC):PT×List (Shp×PT):=(TJ,[])
theorem acx:E7.map told=some (aov (aw E7)):=by kernel_rfl
theorem ayP:tree I6=TJ:=aB acx
theorem aj7:E7=some I6:=aA acx
noncomputable def E8:Option PC:=ay {ctx with fr:=[3],nh:=[]} Tryz.f122 ((ab af 122).getD default) []
noncomputable def I7:PC:=ax E8
def TK:PT:=
 (.chk (az (pc (.deref r1) 4) r0)
 (.call ⟨[],[]⟩ [] 9 123 [(pn (pc (.deref r1) 4) r0)]
 (.ret r9)))
def aow (b:Nat→PC):PT×List (Shp×PT):=(TK,[])
theorem acy:E8.map told=some (aow (aw E8)):=by kernel_rfl
theorem ayQ:tree I7=TK:=aB acy
theorem aj8:E8=some I7:=aA acy
noncomputable def zT:Option PC:=ay {ctx with fr:=[2],nh:=[]} Tryz.f123 ((ab af 123).getD default) [1,3,4,6,19,8,16392,36]
noncomputable def Jg:PC:=ax zT
noncomputable def zg:Nat→PC:=bt zT
def atM (b:Nat→PC):PC:=.block 0 [2,3,12,13] [3] (.loop [2,3,12] [3] (b 0))
def atN (b:Nat→PC):PC:=.block 2 [4,29,30] [4] (.loop [4,29] [4] (b 1))
def CU (b:Nat→PC):PT:=
 (.ite (aq bV br)
 (.blockS ⟨[],[]⟩ 1 [2,3,6,14,15,17,18,19,20,21,22,23,24] [6,19,3]
 (.chk (az cD bV)
 (.chk (bL (.llen (.app o3 (.lst [(pc (.setc Ko 0 qF) 0)]))) cT)
 (.call ⟨[(3,pN)],[(3,(.app o3 (.lst [(pc (.setc Ko 0 qF) 0)])))]⟩ [] 23 82 [(pc (.setc Ko 0 qF) 1),(pi 5)]
 (.ite (.nt ff)
 (.ret pF)
 (.next ⟨[],[]⟩)))))
 (.next ⟨[(12,(aJ bV (pi 1)))],[]⟩))
 (.exit 0 ⟨[(13,(aq bV br))],[]⟩))
def KT (b:Nat→PC):PT:=
 (.ite (aq pE qH)
 (.chk (az ec pE)
 (.chk (bL (.llen adQ) cT)
 (.next ⟨[(4,pN),(29,(aJ pE (pi 1)))],[(4,adQ)]⟩)))
 (.exit 2 ⟨[(30,(aq pE qH))],[]⟩))
def TS (b:Nat→PC):PT:=
 (.brk ⟨[(12,(pi 0)),(11,pz),(10,vt),(4,pN),(3,pN),(2,pF)],[(4,pL),(3,pL),(1,(.mk [r0]))]⟩
(atM b)
 (.brk ⟨[(29,(pi 0)),(28,yi),(27,(pc o1 3))],[]⟩
(atN b)
 (.call ⟨[],[]⟩ [] 40 182 [o3,(pi 0),(pi 21)]
 (.call ⟨[(41,qI)],[]⟩ [(41,true)] 43 182 [o4,(pi 0),(pi 21)]
 (.ret (.pick kE qJ pF))))))
def aoF (b:Nat→PC):PT×List (Shp×PT):=(TS b,[(.lp 0 [2,3,12,13] [3] [2,3,12] [3],CU b),(.lp 2 [4,29,30] [4] [4,29] [4],KT b)])
theorem Hx:zT.map told=some (aoF (aw zT)):=by kernel_rfl
theorem ayZ:tree Jg=TS zg:=aB Hx
theorem RD:round 0 [2,3,12,13] [3] [2,3,12] [3] (zg 0)=CU zg:=bq Hx 0 fun _=>rfl
theorem aep:round 2 [4,29,30] [4] [4,29] [4] (zg 1)=KT zg:=bq Hx 1 fun _=>rfl
theorem aki:zT=some Jg:=aA Hx
noncomputable def zW:Option PC:=ay {ctx with fr:=[2,3],nh:=[]} Tryz.f124 ((ab af 124).getD default) [1,4,6]
noncomputable def Jj:PC:=ax zW
noncomputable def zi:Nat→PC:=bt zW
def atT (b:Nat→PC):PC:=.block 2 [2,50,51] [] (.loop [2,50] [] (b 0))
def atU (b:Nat→PC):PC:=.block 0 [2,14,15] [] (.loop [2,14] [] (b 1))
def yz (b:Nat→PC):PT:=
 (.ite (aq lW pH)
 (.chk (az ir lW)
 (.ite (.pick (ao (pc (.setc z3 0 (pn ir lW)) 0) (pc o4 0)) (ao (pc (.setc z3 0 (pn ir lW)) 1) (pc o4 1)) pF)
 (.ret (pi 5))
 (.next ⟨[(50,(aJ lW (pi 1)))],[]⟩)))
 (.exit 2 ⟨[(51,(aq lW pH))],[]⟩))
def CX (b:Nat→PC):PT:=
 (.ite lU
 (.blockS ⟨[(15,lU)],[]⟩ 1 [2,3,4,16,17,18,19,20,21,22,23,24,25,26,34,35,39,40,44,45,46,47,48,49,50,51] [4]
 (.chk (az bV cU)
 (.call ⟨[(3,cU)],[(4,(.setc z3 0 jX))]⟩ [] 24 82 [(pc (.setc z3 0 jX) 0),sD]
 (.call ⟨[(26,(.nt pD))],[]⟩ [(26,false)] 32 82 [(pc o4 1),sD]
 (.ite (.pick (.pick (.pick mS pT (.nt yo)) pT (aq (pc o4 2) (pi 1))) pT (bh (pc o4 2) (pi 20000)))
 (.ret (pi 1))
 (.chk (.slok (pc o1 5) (pi 0) r3)
 (.brk ⟨[(50,(pi 0)),(49,(.llen (.slc (pc o1 5) (pi 0) r3))),(48,(.slc (pc o1 5) (pi 0) r3))],[]⟩
(atT b)
 (.next ⟨[],[]⟩)))))))
 (.next ⟨[(14,yh)],[]⟩))
 (.exit 0 ⟨[(15,lU)],[]⟩))
def TW (b:Nat→PC):PT:=
 (.ite (bh (.llen yg) (pi 100))
 (.ret (pi 6))
 (.brk ⟨[(14,(pi 0)),(13,(.llen yg)),(12,yg),(2,(pi 0))],[(1,(.mk [r0]))]⟩
(atU b)
 (.ret (pi 0))))
def aoI (b:Nat→PC):PT×List (Shp×PT):=(TW b,[(.lp 2 [2,50,51] [] [2,50] [],yz b),(.lp 0 [2,14,15] [] [2,14] [],CX b)])
theorem Hz:zW.map told=some (aoI (aw zW)):=by kernel_rfl
theorem ay2:tree Jj=TW zi:=aB Hz
theorem KU:round 2 [2,50,51] [] [2,50] [] (zi 0)=yz zi:=bq Hz 0 fun _=>rfl
theorem RG:round 0 [2,14,15] [] [2,14] [] (zi 1)=CX zi:=bq Hz 1 fun _=>rfl
theorem akl:zW=some Jj:=aA Hz
noncomputable def zU:Option PC:=ay {ctx with fr:=[2],nh:=[]} Tryz.f125 ((ab af 125).getD default) [1,4,6]
noncomputable def Jh:PC:=ax zU
noncomputable def zh:Nat→PC:=bt zU
def atO (b:Nat→PC):PC:=.block 0 [2,14,15] [] (.loop [2,14] [] (b 0))
def atP (b:Nat→PC):PC:=.block 2 [2,69,70] [] (.loop [2,69] [] (b 1))
def CV (b:Nat→PC):PT:=
 (.ite lU
 (.blockS ⟨[],[]⟩ 1 [2,4,16,17,18,19,20,21,22,23,24,25,33,34,40,41,47,48,54,55,60] [4]
 (.chk (az bV cU)
 (.call ⟨[],[(4,(.setc z5 0 jX))]⟩ [] 23 82 [(pc (.setc z5 0 jX) 0),(.llen (pc o1 0))]
 (.call ⟨[(25,(.nt ff))],[]⟩ [(25,false)] 31 82 [(pc o4 1),(.llen (pc o1 0))]
 (.call ⟨[(41,(.pick (.pick gM pT (.nt oa)) pT (ao (pc o4 0) (pc o4 1))))],[]⟩ [(41,false)] 45 82 [(bG (pc o4 2) (pi 1)),(pi 1073741824)]
 (.call ⟨[(48,(.pick kE pT (.nt pG)))],[]⟩ [(48,false)] 52 82 [(bG (pc o4 3) (pi 1)),(pi 1073741824)]
 (.call ⟨[(55,(.pick ir pT (.nt Re)))],[]⟩ [(55,false)] 58 82 [(pc o4 4),(pi 100001)]
 (.ite (.pick sI pT (.nt qL))
 (.ret (pi 1))
 (.next ⟨[],[]⟩))))))))
 (.next ⟨[(14,yh)],[]⟩))
 (.exit 0 ⟨[(15,lU)],[]⟩))
def CW (b:Nat→PC):PT:=
 (.ite (aq yr r68)
 (.blockS ⟨[],[]⟩ 3 [2,6,71,72,73,74,75,76,77,78,79,80,84,85,91,92,96] [6]
 (.chk (az vy yr)
 (.call ⟨[],[(6,(.setc z3 0 (pn vy yr)))]⟩ [] 78 82 [(pc (.setc z3 0 (pn vy yr)) 0),sC]
 (.ite (.pick (.pick (.pick (.nt r78) pT (aq (pc o6 1) (pi 0))) pT (bh (pc o6 1) (pc o6 2))) pT (bh (pc o6 2) (pi 100000)))
 (.ret (pi 1))
 (.next ⟨[],[]⟩))))
 (.next ⟨[(69,(aJ yr (pi 1)))],[]⟩))
 (.exit 2 ⟨[(70,(aq yr r68))],[]⟩))
def TU (b:Nat→PC):PT:=
 (.ite (bh (.llen (pc (.mk [r0]) 6)) (pi 100))
 (.ret (pi 6))
 (.brk ⟨[(14,(pi 0)),(13,(.llen (pc (.mk [r0]) 6))),(12,(pc (.mk [r0]) 6)),(2,(pi 0))],[(1,(.mk [r0]))]⟩
(atO b)
 (.ite (bh (.llen (pc o1 7)) (pi 20))
 (.ret (pi 6))
 (.brk ⟨[(69,(pi 0)),(68,(.llen (pc o1 7))),(67,(pc o1 7))],[]⟩
(atP b)
 (.ret (pi 0))))))
def aoG (b:Nat→PC):PT×List (Shp×PT):=(TU b,[(.lp 0 [2,14,15] [] [2,14] [],CV b),(.lp 2 [2,69,70] [] [2,69] [],CW b)])
theorem Hy:zU.map told=some (aoG (aw zU)):=by kernel_rfl
theorem ay0:tree Jh=TU zh:=aB Hy
theorem RE:round 0 [2,14,15] [] [2,14] [] (zh 0)=CV zh:=bq Hy 0 fun _=>rfl
theorem RF:round 2 [2,69,70] [] [2,69] [] (zh 1)=CW zh:=bq Hy 1 fun _=>rfl
theorem akj:zU=some Jh:=aA Hy
noncomputable def Fp:Option PC:=ay {ctx with fr:=[4],nh:=[]} Tryz.f149 ((ab af 149).getD default) [2]
noncomputable def JG:PC:=ax Fp
def Ui:PT:=
 (.ret (.pick (aV r1 (pi 0)) (aq r1 (.llen nX)) pF))
def ao5 (b:Nat→PC):PT×List (Shp×PT):=(Ui,[])
theorem acN:Fp.map told=some (ao5 (aw Fp)):=by kernel_rfl
theorem azm:tree JG=Ui:=aB acN
theorem akI:Fp=some JG:=aA acN
noncomputable def Fq:Option PC:=ay {ctx with fr:=[2],nh:=[]} Tryz.f150 ((ab af 150).getD default) []
noncomputable def JH:PC:=ax Fq
def Uj:PT:=
 (.ret (.pick (aV r0 (pi 0)) (bL r0 (pi 100000)) pF))
def ao6 (b:Nat→PC):PT×List (Shp×PT):=(Uj,[])
theorem acO:Fq.map told=some (ao6 (aw Fq)):=by kernel_rfl
theorem azn:tree JH=Uj:=aB acO
theorem akJ:Fq=some JH:=aA acO
noncomputable def Fl:Option PC:=ay {ctx with fr:=[2],nh:=[]} Tryz.f151 ((ab af 151).getD default) [1]
noncomputable def JD:PC:=ax Fl
def Uh:PT:=
 (.ret (.pick (ao kD (pi 0)) pT (ao kD (pi 1))))
def ao2 (b:Nat→PC):PT×List (Shp×PT):=(Uh,[])
theorem acK:Fl.map told=some (ao2 (aw Fl)):=by kernel_rfl
theorem azl:tree JD=Uh:=aB acK
theorem akF:Fl=some JD:=aA acK
noncomputable def Fo:Option PC:=ay {ctx with fr:=[6,7,13,16,24,33,8,9],nh:=[]} Tryz.f152 ((ab af 152).getD default) [3,4]
noncomputable def JF:PC:=ax Fo
def l6:PT:=
 (.blockS ⟨[(12,(pc (.mk [r1]) 5))],[(4,(.mk [r1])),(3,(.mk [r0]))]⟩ 0 [6,7,13,14,16,17,24,25,33,34] []
 (.iteS ⟨[],[]⟩ (ao bV (pi 0)) [6,7,16,17,24,25,33,34] []
 (.ret (.tup [r2,(pi 0)]))
 (.iteS ⟨[],[]⟩ (ao bV (pi 1)) [6,7,24,25,33,34] []
 (.call ⟨[],[]⟩ [] 21 197 [r2,(.mk [(pc o4 5),(pc o4 6),(pc o4 7)])]
 (.ret (.tup [(.tget jY 0),(.tget jY 1)])))
 (.iteS ⟨[],[]⟩ (ao bV (pi 2)) [6,7,33,34] []
 (.call ⟨[],[]⟩ [] 30 197 [(pc o4 8),(.mk [(pc o4 5),(pc o4 6),(pc o4 7)])]
 (.ret (.tup [(.tget mT 0),(.tget mT 1)])))
 (.iteS ⟨[],[]⟩ (ao bV (pi 4)) [6,7] []
 (.call ⟨[],[]⟩ [] 41 132 [(av 8 o3),(pc o4 9),(pc o4 10)]
 (.ret (.tup [(aJ (pc o4 8) (.tget kE 0)),(.tget kE 1)])))
 (.next ⟨[],[]⟩)
 (.next ⟨[],[]⟩))
 (.next ⟨[],[]⟩))
 (.next ⟨[],[]⟩))
 (.next ⟨[],[]⟩))
 (.ret (.tup [(pc o4 6),(pi 0)])))
def ao4 (b:Nat→PC):PT×List (Shp×PT):=(l6,[])
theorem acM:Fo.map told=some (ao4 (aw Fo)):=by kernel_rfl
theorem vO:tree JF=l6:=aB acM
theorem akH:Fo=some JF:=aA acM
noncomputable def Fm:Option PC:=ay {ctx with fr:=[4,5],nh:=[]} Tryz.f197 ((ab af 197).getD default) [3]
noncomputable def JE:PC:=ax Fm
def yO:PT:=
 (.ite (.pick (aq (pc (.mk [r1]) 1) (pi 0)) pT (bh (pc (.mk [r1]) 1) (pi 20000)))
 (.ret (.tup [(pi 0),(pi 3)]))
 (.iteS ⟨[],[(3,(.mk [r1]))]⟩ (ao (pc (.mk [r1]) 2) (pi 1)) [4,5] []
 (.call ⟨[],[]⟩ [] 20 242 [r0,(pc o3 1)]
 (.ret (.tup [(.tget dp 0),(.tget dp 1)])))
 (.next ⟨[],[]⟩)
 (.ret (.tup [(aJ r0 (pc o3 1)),(pi 0)]))))
def ao3 (b:Nat→PC):PT×List (Shp×PT):=(yO,[])
theorem acL:Fm.map told=some (ao3 (aw Fm)):=by kernel_rfl
theorem LF:tree JE=yO:=aB acL
theorem akG:Fm=some JE:=aA acL
noncomputable def Ev:Option PC:=ay {ctx with fr:=[4,5,6,7,8,9],nh:=[]} Tryz.f242 ((ab af 242).getD default) []
noncomputable def Ia:PC:=ax Ev
def Lv:PT:=
 (.call ⟨[],[]⟩ [] 11 111 [r0]
 (.ite (.pick (.pick (.nt br) pT (aq r1 (pi (-5000)))) pT (bh r1 (pi 5000)))
 (.ret (.tup [(pi 0),(pi 3)]))
 (.call ⟨[],[]⟩ [] 23 179 [r0]
 (.chk (aO (pi 12) (pi 0))
 (.call ⟨[(41,(.tget ff 2)),(40,(aJ (.ai .rem .i64 Kt (pi 12)) (pi 1))),(39,(.ai .quo .i64 Kt (pi 12)))],[]⟩ [] 44 263 [(.ai .quo .i64 Kt (pi 12)),(aJ (.ai .rem .i64 Kt (pi 12)) (pi 1))]
 (.call ⟨[],[]⟩ [] 46 262 [sH,qI,(.mn kE vx)]
 (.ret (.tup [(.tget CB 0),(.tget CB 1)]))))))))
def anE (b:Nat→PC):PT×List (Shp×PT):=(Lv,[])
theorem abT:Ev.map told=some (anE (aw Ev)):=by kernel_rfl
theorem afe:tree Ia=Lv:=aB abT
theorem ajh:Ev=some Ia:=aA abT
noncomputable def EC:Option PC:=ay {ctx with fr:=[2],nh:=[]} Tryz.f111 ((ab af 111).getD default) []
noncomputable def Ij:PC:=ax EC
def SZ:PT:=
 (.ret (.pick (bL (pi 0) r0) (bL r0 (pi 100000)) pF))
def anN (b:Nat→PC):PT×List (Shp×PT):=(SZ,[])
theorem ab0:EC.map told=some (anN (aw EC)):=by kernel_rfl
theorem aya:tree Ij=SZ:=aB ab0
theorem ajq:EC=some Ij:=aA ab0
noncomputable def Ex:Option PC:=ay {ctx with fr:=[2,3,4,5,6,7,8,9],nh:=[]} Tryz.f179 ((ab af 179).getD default) []
noncomputable def Ie:PC:=ax Ex
def SV:PT:=
 (.chk (aO (pi 146097) (pi 0))
 (.chk (aO (pi 1460) (pi 0))
 (.chk (aO (pi 36524) (pi 0))
 (.chk (aO (pi 146096) (pi 0))
 (.chk (aO (pi 365) (pi 0))
 (.chk (aO (pi 4) (pi 0))
 (.chk (aO (pi 100) (pi 0))
 (.chk (aO (pi 153) (pi 0))
 (.chk (aO (pi 5) (pi 0))
 (.ret (.tup [(.pick (aq adT (pi 3)) (aJ adw (pi 1)) adw),adT,(aJ (bG (bG (.ai .rem .i64 (aJ r0 (pi 730425)) (pi 146097)) (bG (aJ (.ai .mul .i64 (pi 365) vm) (.ai .quo .i64 vm (pi 4))) (.ai .quo .i64 vm (pi 100)))) (.ai .quo .i64 (aJ (.ai .mul .i64 (pi 153) Kd) (pi 2)) (pi 5))) (pi 1))])))))))))))
def anH (b:Nat→PC):PT×List (Shp×PT):=(SV,[])
theorem abV:Ex.map told=some (anH (aw Ex)):=by kernel_rfl
theorem ax5:tree Ie=SV:=aB abV
theorem ajk:Ex=some Ie:=aA abV
noncomputable def Ez:Option PC:=ay {ctx with fr:=[4],nh:=[]} Tryz.f263 ((ab af 263).getD default) []
noncomputable def Ig:PC:=ax Ez
def Lx:PT:=
 (.ite (ao r1 (pi 12))
 (.ret (pi 31))
 (.call ⟨[],[]⟩ [] 10 283 [r0,(aJ r1 (pi 1)),(pi 1)]
 (.call ⟨[],[]⟩ [] 13 283 [r0,r1,(pi 1)]
 (.ret (bG cD db)))))
def anK (b:Nat→PC):PT×List (Shp×PT):=(Lx,[])
theorem abX:Ez.map told=some (anK (aw Ez)):=by kernel_rfl
theorem ax8:tree Ig=Lx:=aB abX
theorem ajn:Ez=some Ig:=aA abX
noncomputable def EA:Option PC:=ay {ctx with fr:=[6,0,1],nh:=[]} Tryz.f283 ((ab af 283).getD default) []
noncomputable def Ih:PC:=ax EA
def Ly:PT:=
 (.chk (aO (pi 4) (pi 0))
 (.chk (aO (pi 100) (pi 0))
 (.chk (aO (pi 400) (pi 0))
 (.chk (aO (pi 5) (pi 0))
 (.ret (bG (bG (aJ (aJ (aJ (bG (aJ (.ai .mul .i64 (pi 365) KA) (.ai .quo .i64 KA (pi 4))) (.ai .quo .i64 KA (pi 100))) (.ai .quo .i64 KA (pi 400))) (.ai .quo .i64 (aJ (.ai .mul .i64 (pi 153) (bG (.pick (aq r1 (pi 3)) (aJ r1 (pi 12)) r1) (pi 3))) (pi 2)) (pi 5))) r2) (pi 1)) (pi 730425)))))))
def anL (b:Nat→PC):PT×List (Shp×PT):=(Ly,[])
theorem abY:EA.map told=some (anL (aw EA)):=by kernel_rfl
theorem aff:tree Ih=Ly:=aB abY
theorem ajo:EA=some Ih:=aA abY
noncomputable def Ew:Option PC:=ay {ctx with fr:=[6,7,8],nh:=[]} Tryz.f262 ((ab af 262).getD default) []
noncomputable def Ib:PC:=ax Ew
def yN:PT:=
 (.call ⟨[(28,r2),(27,(.pick (.pick (.pick (.pick (aq r0 (pi 2000)) pT (bh r0 (pi 2300))) pT (aq r1 (pi 1))) pT (bh r1 (pi 12))) pT (aq r2 (pi 1))))],[]⟩ [(27,false)] 31 263 [r0,r1]
 (.ite (.pick ec pT (bh qH oa))
 (.ret (.tup [(pi 0),(pi 3)]))
 (.call ⟨[],[]⟩ [] 37 283 [r0,r1,r2]
 (.call ⟨[(8,lV)],[]⟩ [] 39 111 [lV]
 (.ite (.nt sH)
 (.ret (.tup [(pi 0),(pi 3)]))
 (.ret (.tup [r8,(pi 0)])))))))
def anF (b:Nat→PC):PT×List (Shp×PT):=(yN,[])
theorem abU:Ew.map told=some (anF (aw Ew)):=by kernel_rfl
theorem Lw:tree Ib=yN:=aB abU
theorem aji:Ew=some Ib:=aA abU
noncomputable def zO:Option PC:=ay {ctx with fr:=[6,7],nh:=[]} Tryz.f132 ((ab af 132).getD default) [3,9]
noncomputable def I9:PC:=ax zO
noncomputable def Mv:Nat→PC:=bt zO
def atE (b:Nat→PC):PC:=.block 0 [6,7,13,14] [] (.loop [6,7,13] [] (b 0))
def sM (b:Nat→PC):PT:=
 (.ite (aq db bV)
 (.chk (az br db)
 (.ite (.pick (ao (pc (.setc z3 0 (pn br db)) 0) r1) (ao (pc (.setc z3 0 (pn br db)) 1) r2) pF)
 (.ret (.tup [(pc (.setc z3 0 (pn br db)) 2),(pi 0)]))
 (.next ⟨[(13,(aJ db (pi 1)))],[]⟩)))
 (.exit 0 ⟨[(14,(aq db bV))],[]⟩))
def LD (b:Nat→PC):PT:=
 (.brk ⟨[(13,(pi 0)),(12,(.llen yg)),(11,yg),(7,(pi 0)),(6,(pi 0))],[]⟩
(atE b)
 (.ret (.tup [(pi 0),(pi 4)])))
def aoy (b:Nat→PC):PT×List (Shp×PT):=(LD b,[(.lp 0 [6,7,13,14] [] [6,7,13] [],sM b)])
theorem Qh:zO.map told=some (aoy (aw zO)):=by kernel_rfl
theorem afi:tree I9=LD Mv:=aB Qh
theorem yx:round 0 [6,7,13,14] [] [6,7,13] [] (Mv 0)=sM Mv:=bq Qh 0 fun _=>rfl
theorem akb:zO=some I9:=aA Qh
noncomputable def Ah:Option PC:=ay {ctx with fr:=[6,7,8,2,9,10],nh:=[]} Tryz.f153 ((ab af 153).getD default) [3]
noncomputable def JI:PC:=ax Ah
noncomputable def MH:Nat→PC:=bt Ah
def aub (b:Nat→PC):PC:=.block 0 [] [] (.loop [2,6,7] [] (b 0))
def RU (b:Nat→PC):PT:=
 (.blockS ⟨[],[]⟩ 1 [2,6,7,9,10,14,15,16,17,18,19,20,21,22,23,24,25,26,27,28,29,30,31,32,34] []
 (.call ⟨[],[]⟩ [] 17 198 [(av 8 o3),r8,r2]
 (.chk (az (pc o3 1) r1)
 (.call ⟨[(2,jE)],[]⟩ [] 25 199 [(pn (pc o3 1) r1),jE]
 (.ite (aO (.tget gM 1) (pi 0))
 (.ret (.tup [(pi 0),(pi 3)]))
 (.ite (ao (.tget gM 0) r2)
 (.ret (.tup [r2,(pi 0)]))
 (.next ⟨[(2,(.tget gM 0))],[]⟩))))))
 (.next ⟨[],[]⟩))
def Uk (b:Nat→PC):PT:=
 (.call ⟨[(7,(pi 0)),(6,(pi 0))],[(3,(.mk [r0]))]⟩ [] 13 28 [jD,r1]
 (.brk ⟨[(8,db)],[]⟩
(aub b)
 (.next ⟨[],[]⟩)))
def ao7 (b:Nat→PC):PT×List (Shp×PT):=(Uk b,[(.lp 0 [] [] [2,6,7] [],RU b)])
theorem Qt:Ah.map told=some (ao7 (aw Ah)):=by kernel_rfl
theorem azo:tree JI=Uk MH:=aB Qt
theorem awu:round 0 [] [] [2,6,7] [] (MH 0)=RU MH:=bq Qt 0 fun _=>rfl
theorem akK:Ah=some JI:=aA Qt
noncomputable def Ai:Option PC:=ay {ctx with fr:=[6,7,2],nh:=[]} Tryz.f198 ((ab af 198).getD default) [3,9]
noncomputable def JJ:PC:=ax Ai
noncomputable def zm:Nat→PC:=bt Ai
def auc (b:Nat→PC):PC:=.block 2 [2,7,14,15] [] (.loop [2,7,14] [] (b 0))
def aud (b:Nat→PC):PC:=.block 0 [2,7,10] [] (.loop [2,7] [] (b 1))
def yA (b:Nat→PC):PT:=
 (.ite lU
 (.chk (az bV cU)
 (.next ⟨[(2,(.pick adL (aJ (pc (.setc z3 0 jX) 2) (pi 1)) r2)),(7,(.pick adL pT r7)),(14,yh)],[]⟩))
 (.exit 2 ⟨[(15,lU)],[]⟩))
def KZ (b:Nat→PC):PT:=
 (.ite r7
 (.blockS ⟨[(10,r7)],[]⟩ 1 [2,7,11,12,13,14,15] []
 (.brk ⟨[(14,(pi 0)),(13,(.llen (pc o3 7))),(12,(pc o3 7)),(7,pF)],[]⟩
(auc b)
 (.next ⟨[],[]⟩))
 (.next ⟨[],[]⟩))
 (.exit 0 ⟨[(10,r7)],[]⟩))
def Ul (b:Nat→PC):PT:=
 (.brk ⟨[(7,pT)],[(3,(.mk [r0]))]⟩
(aud b)
 (.ret r2))
def ao8 (b:Nat→PC):PT×List (Shp×PT):=(Ul b,[(.lp 2 [2,7,14,15] [] [2,7,14] [],yA b),(.lp 0 [2,7,10] [] [2,7] [],KZ b)])
theorem HD:Ai.map told=some (ao8 (aw Ai)):=by kernel_rfl
theorem azp:tree JJ=Ul zm:=aB HD
theorem KY:round 2 [2,7,14,15] [] [2,7,14] [] (zm 0)=yA zm:=bq HD 0 fun _=>rfl
theorem aet:round 0 [2,7,10] [] [2,7] [] (zm 1)=KZ zm:=bq HD 1 fun _=>rfl
theorem akL:Ai=some JJ:=aA HD
noncomputable def zz:Option PC:=ay {ctx with fr:=[6],nh:=[]} Tryz.f199 ((ab af 199).getD default) [2,4,5]
noncomputable def Ic:PC:=ax zz
noncomputable def Mh:Nat→PC:=bt zz
def ams (b:Nat→PC):PC:=.each cV [16] [4,5] (some (.tup [(pc o4 0),(pc o5 0)])) (b 0)
def Rq (b:Nat→PC):PT:=
 (.exit 1000000007 ⟨[],[(4,(.setc o4 0 cE)),(5,(.setc o5 0 (pi 0)))]⟩)
def SU (b:Nat→PC):PT:=
 (.call ⟨[],[(5,Cs),(4,Cs),(2,(.mk [r0]))]⟩ [] 8 111 [r1]
 (.ite (.nt r8)
 (.ret (.tup [(pc (.setc o4 0 (pi 0)) 0),(pc (.setc o5 0 (pi 3)) 0)]))
 (.call ⟨[],[]⟩ [] 15 243 [(av 6 o2),r1,(.mn (aJ r1 (pi 400)) (pi 100000))]
 (.blockS ⟨[],[]⟩ 0 [] [4,5]
 (.callc ⟨[],[]⟩ [] 18 cJ []
 (.brk ⟨[],[]⟩
(ams b)
 (.next ⟨[],[]⟩)))
 (.ret (.tup [(pc (.setc o4 0 (pi 0)) 0),(pc (.setc o5 0 (pi 3)) 0)]))))))
def anG (b:Nat→PC):PT×List (Shp×PT):=(SU b,[(.ea [4,5],Rq b)])
theorem P3:zz.map told=some (anG (aw zz)):=by kernel_rfl
theorem ax4:tree Ic=SU Mh:=aB P3
theorem awp:om [4,5] (Mh 0)=Rq Mh:=Ss P3 0 fun _=>rfl
theorem ajj:zz=some Ic:=aA P3
noncomputable def Ey:Option PC:=ay {ctx with fr:=[6],nh:=[]} Tryz.f243 ((ab af 243).getD default) [3,4,5]
noncomputable def If:PC:=ax Ey
def SW:PT:=
 (.ret (.clo 264 [(.ref (pc (.mk [r1]) 0)),(.ref (pc (.mk [r2]) 0)),(.ref (av 6 (.mk [r0])))]))
def anI (b:Nat→PC):PT×List (Shp×PT):=(SW,[])
theorem abW:Ey.map told=some (anI (aw Ey)):=by kernel_rfl
theorem ax7:tree If=SW:=aB abW
theorem ajm:Ey=some If:=aA abW
noncomputable def v8:Option PC:=An {ctx with fr:=[5],nh:=[]} Tryz.f264 [(.ref I),(.ref I),(.ref Y0)] [I] 1000 [1000]
noncomputable def Co:PC:=ax v8
noncomputable def Mi:Nat→PC:=bt v8
def atm (b:Nat→PC):PC:=.block 0 [5,7,8,9] [1000] (.loop [5] [1000] (b 0))
def KJ (b:Nat→PC):PT:=
 (.ite (bL r5 (.deref r2))
 (.blockS ⟨[],[]⟩ 1 [12,13,14,15,20] [1000]
 (.call ⟨[],[]⟩ [] 14 112 [(.deref r3),r5]
 (.call ⟨[(15,cU)],[(1000,adU)]⟩ [(15,true)] 18 1000000009 [adU]
 (.ite (.pick cJ (.nt cV) pF)
 (.ret (.o 1000))
 (.next ⟨[],[]⟩))))
 (.next ⟨[(5,(aJ r5 (pi 1)))],[]⟩))
 (.exit 0 ⟨[(7,r5),(8,(.deref r2)),(9,(bL r5 (.deref r2)))],[]⟩))
def SX (b:Nat→PC):PT:=
 (.brk ⟨[(5,(.deref r1))],[]⟩
(atm b)
 (.ret (.o 1000)))
def anJ (b:Nat→PC):PT×List (Shp×PT):=(SX b,[(.lp 0 [5,7,8,9] [1000] [5] [1000],KJ b)])
theorem P4:v8.map told=some (anJ (aw v8)):=by kernel_rfl
theorem ax6:tree Co=SX Mi:=aB P4
theorem aeg:round 0 [5,7,8,9] [1000] [5] [1000] (Mi 0)=KJ Mi:=bq P4 0 fun _=>rfl
theorem ajl:v8=some Co:=aA P4
theorem ak5:∀yv,An {ctx with fr:=[5],nh:=[],yv:=yv} Tryz.f264 [(.ref I),(.ref I),(.ref Y0)] [I] 1000 [1000]=some Co:=fun yv=>(show _=v8 by kernel_rfl).trans ajl
noncomputable def EB:Option PC:=ay {ctx with fr:=[4,5,6,7],nh:=[]} Tryz.f112 ((ab af 112).getD default) [2]
noncomputable def Ii:PC:=ax EB
def SY:PT:=
 (.call ⟨[],[(2,(.mk [r0]))]⟩ [] 10 179 [r1]
 (.chk (aO (pi 7) (pi 0))
 (.call ⟨[(7,(.tget cD 2)),(6,(.tget cD 1))],[]⟩ [] 19 85 [(pc o2 3),(.ai .rem .i64 (aJ r1 (pi 5)) (pi 7))]
 (.call ⟨[(21,(.nt iY))],[]⟩ [(21,true)] 28 85 [(pc o2 4),(aJ (.ai .mul .i64 (pi 100) r6) r7)]
 (.call ⟨[(31,(.pick jY (.nt qH) pF))],[]⟩ [(31,true)] 35 85 [(pc o2 5),r1]
 (.ret (.pick oa (.nt mU) pF)))))))
def anM (b:Nat→PC):PT×List (Shp×PT):=(SY,[])
theorem abZ:EB.map told=some (anM (aw EB)):=by kernel_rfl
theorem ax9:tree Ii=SY:=aB abZ
theorem ajp:EB=some Ii:=aA abZ
noncomputable def Ep:Option PC:=ay {ctx with fr:=[],nh:=[]} Tryz.f175 ((ab af 175).getD default) [2,4,5,6]
noncomputable def H3:PC:=ax Ep
def SN:PT:=
 (.chk (az (pc (.mk [r0]) 25) r1)
 (.call ⟨[],[(6,(.setc Ks 0 (.mk [r1,(pc Cw 0),(pc Cw 2),(pi 0),(pi 0),(pi 0),(.pick (aO (pc Cw 0) (pi 1)) (ao (.ai .and .i64 (pc Cw 8) (pi 1)) (pi 0)) pF)]))),(5,Cw),(4,Ks),(2,(.mk [r0]))]⟩ [] 33 218 [QT,r1,(pc (.mk [r0]) 9)]
 (.iteS ⟨[],[]⟩ (.nt sG) [] [6]
 (.call ⟨[(36,(pc o2 29))],[]⟩ [] 39 220 [(av 31 o2),(pi 1),r1]
 (.call ⟨[],[]⟩ [] 42 220 [(av 31 o2),(pi 2),r1]
 (.call ⟨[],[]⟩ [] 44 219 [(.lst [gN,sH,r42])]
 (.next ⟨[],[(6,(.setc o6 3 vx))]⟩))))
 (.next ⟨[],[]⟩)
 (.call ⟨[],[]⟩ [] 49 221 [(av 31 o2),r1]
 (.ret (av 7 (.setc o4 0 (av 7 (.pick (.pick (ao (pc o5 0) (pi 1)) pT (ao (pc o5 0) (pi 4))) (.setc Q8 5 (.mn (pc Q8 5) (pc o5 5))) Q8)))))))))
def anw (b:Nat→PC):PT×List (Shp×PT):=(SN,[])
theorem abO:Ep.map told=some (anw (aw Ep)):=by kernel_rfl
theorem axX:tree H3=SN:=aB abO
theorem aja:Ep=some H3:=aA abO
noncomputable def FD:Option PC:=ay {ctx with fr:=[6],nh:=[]} Tryz.f218 ((ab af 218).getD default) [3]
noncomputable def JY:PC:=ax FD
def Uy:PT:=
 (.call ⟨[(16,(.pick (aV r1 (pi 0)) (aq r1 (.llen mQ)) pF))],[]⟩ [(16,true)] 19 254 [(av 19 (.mk [r0])),r2]
 (.ret (.pick cE (.look iY r1 pF) pF)))
def apn (b:Nat→PC):PT×List (Shp×PT):=(Uy,[])
theorem ac0:FD.map told=some (apn (aw FD)):=by kernel_rfl
theorem azD:tree JY=Uy:=aB ac0
theorem ak0:FD=some JY:=aA ac0
noncomputable def Am:Option PC:=ay {ctx with fr:=[4],nh:=[]} Tryz.f254 ((ab af 254).getD default) [2,5,7]
noncomputable def JZ:PC:=ax Am
noncomputable def MK:Nat→PC:=bt Am
def aui (b:Nat→PC):PC:=.block 0 [12,13] [5] (.loop [12] [5] (b 0))
def De (b:Nat→PC):PT:=
 (.ite (aq bV br)
 (.chk (az cD bV)
 (.ite (.pick (ao (pc (.setc z9 0 qF) 0) (pi 7)) (bL (pc (.setc z9 0 qF) 6) r1) pF)
 (.chk (aq (.mlen o5) cT)
 (.next ⟨[(12,(aJ bV (pi 1)))],[(5,(.put o5 (pc (.setc z9 0 qF) 4) pT))]⟩))
 (.next ⟨[(12,(aJ bV (pi 1)))],[]⟩)))
 (.exit 0 ⟨[(13,(aq bV br))],[]⟩))
def Uz (b:Nat→PC):PT:=
 (.brk ⟨[(12,(pi 0)),(11,(.llen (pc (.mk [r0]) 17))),(10,(pc (.mk [r0]) 17)),(5,pN)],[(5,(.con (.map [])))]⟩
(aui b)
 (.ret o5))
def apo (b:Nat→PC):PT×List (Shp×PT):=(Uz b,[(.lp 0 [12,13] [5] [12] [5],De b)])
theorem Qw:Am.map told=some (apo (aw Am)):=by kernel_rfl
theorem azE:tree JZ=Uz MK:=aB Qw
theorem RY:round 0 [12,13] [5] [12] [5] (MK 0)=De MK:=bq Qw 0 fun _=>rfl
theorem ak1:Am=some JZ:=aA Qw
noncomputable def Er:Option PC:=ay {ctx with fr:=[6],nh:=[]} Tryz.f220 ((ab af 220).getD default) [3,7]
noncomputable def H4:PC:=ax Er
def SO:PT:=
 (.call ⟨[],[]⟩ [] 23 24 [jD,(pc (.mk [r0]) 8),r1,(av 24 (.setc QV 0 (.mk [QT,r2,r2,(pi (-1)),(pc (.mk [r0]) 30),(pc (.mk [r0]) 9)])))]
 (.call ⟨[],[]⟩ [] 24 39 [ff]
 (.ret pD)))
def anx (b:Nat→PC):PT×List (Shp×PT):=(SO,[])
theorem abP:Er.map told=some (anx (aw Er)):=by kernel_rfl
theorem axY:tree H4=SO:=aB abP
theorem ajb:Er=some H4:=aA abP
noncomputable def zw:Option PC:=ay {ctx with fr:=[2,3,5,12,15],nh:=[]} Tryz.f219 ((ab af 219).getD default) []
noncomputable def H0:PC:=ax zw
noncomputable def Mf:Nat→PC:=bt zw
def atk (b:Nat→PC):PC:=.block 0 [2,3,8,9] [] (.loop [2,3,8] [] (b 0))
def CE (b:Nat→PC):PT:=
 (.ite (aq r8 r7)
 (.chk (az r6 r8)
 (.ite (ao (pn r6 r8) (pi 0))
 (.ret (pi 0))
 (.next ⟨[(3,(.pick (ao (pn r6 r8) (pi 2)) (pi 2) r3)),(8,sE)],[]⟩)))
 (.exit 0 ⟨[(9,(aq r8 r7))],[]⟩))
def SL (b:Nat→PC):PT:=
 (.brk ⟨[(8,(pi 0)),(7,(.llen r0)),(6,r0),(3,(pi 1)),(2,(pi 0))],[]⟩
(atk b)
 (.ret r3))
def anu (b:Nat→PC):PT×List (Shp×PT):=(SL b,[(.lp 0 [2,3,8,9] [] [2,3,8] [],CE b)])
theorem P1:zw.map told=some (anu (aw zw)):=by kernel_rfl
theorem axV:tree H0=SL Mf:=aB P1
theorem Rm:round 0 [2,3,8,9] [] [2,3,8] [] (Mf 0)=CE Mf:=bq P1 0 fun _=>rfl
theorem ai8:zw=some H0:=aA P1
noncomputable def zx:Option PC:=ay {ctx with fr:=[4,5,6,7,10,50,54],nh:=[]} Tryz.f221 ((ab af 221).getD default) [2,9]
noncomputable def H5:PC:=ax zx
noncomputable def Mg:Nat→PC:=bt zx
def atl (b:Nat→PC):PC:=.block 0 [7,23,24] [] (.loop [7,23] [] (b 0))
def CF (b:Nat→PC):PT:=
 (.ite (aq ff KE)
 (.chk (az jY ff)
 (.next ⟨[(7,(.pick r7 pT (bh (pc (.setc z2 0 (pn jY ff)) 0) r1))),(23,(aJ ff (pi 1)))],[]⟩))
 (.exit 0 ⟨[(24,(aq ff KE))],[]⟩))
def SP (b:Nat→PC):PT:=
 (.call ⟨[(5,(pi 0))],[(2,(.mk [r0]))]⟩ [] 14 255 [QT,r1]
 (.brk ⟨[(23,(pi 0)),(22,(.llen (pc o2 26))),(21,(pc o2 26)),(7,pF),(6,(.llen (pc o2 26))),(5,cU)],[]⟩
(atl b)
 (.ite (.nt r7)
 (.ret (.tup [(pi 0),r5]))
 (.chk (az (pc o2 26) (bG r6 (pi 1)))
 (.call ⟨[(10,(pc (pn (pc o2 26) (bG r6 (pi 1))) 1))],[]⟩ [] 48 220 [(av 31 o2),(pi 4),r1]
 (.ite (ao ir (pi 1))
 (.ret (.tup [ir,cD]))
 (.ite (ao ir (pi 2))
 (.ret (.tup [ir,(.mn r5 cD)]))
 (.ret (.tup [ir,r5])))))))))
def anz (b:Nat→PC):PT×List (Shp×PT):=(SP b,[(.lp 0 [7,23,24] [] [7,23] [],CF b)])
theorem P2:zx.map told=some (anz (aw zx)):=by kernel_rfl
theorem axZ:tree H5=SP Mg:=aB P2
theorem Rn:round 0 [7,23,24] [] [7,23] [] (Mg 0)=CF Mg:=bq P2 0 fun _=>rfl
theorem ajc:zx=some H5:=aA P2
noncomputable def zE:Option PC:=ay {ctx with fr:=[4,5],nh:=[]} Tryz.f255 ((ab af 255).getD default) [2,7]
noncomputable def IG:PC:=ax zE
noncomputable def Mm:Nat→PC:=bt zE
def ats (b:Nat→PC):PC:=.block 0 [5,14,15] [] (.loop [5,14] [] (b 0))
def KK (b:Nat→PC):PT:=
 (.ite lU
 (.chk (az bV cU)
 (.next ⟨[(5,(.pick (bL (pc (.setc z2 0 jX) 0) r1) (pc (.setc z2 0 jX) 1) r5)),(14,yh)],[]⟩))
 (.exit 0 ⟨[(15,lU)],[]⟩))
def To (b:Nat→PC):PT:=
 (.brk ⟨[(14,(pi 0)),(13,(.llen (pc (.mk [r0]) 16))),(12,(pc (.mk [r0]) 16)),(5,(pc (.mk [r0]) 3))],[]⟩
(ats b)
 (.ret r5))
def an8 (b:Nat→PC):PT×List (Shp×PT):=(To b,[(.lp 0 [5,14,15] [] [5,14] [],KK b)])
theorem P8:zE.map told=some (an8 (aw zE)):=by kernel_rfl
theorem ayv:tree IG=To Mm:=aB P8
theorem aeh:round 0 [5,14,15] [] [5,14] [] (Mm 0)=KK Mm:=bq P8 0 fun _=>rfl
theorem ajL:zE=some IG:=aA P8
noncomputable def Ec:Option PC:=ay {ctx with fr:=[8,9,10],nh:=[]} Tryz.f108 ((ab af 108).getD default) []
noncomputable def HP:PC:=ax Ec
def Sy:PT:=
 (.call ⟨[],[]⟩ [] 16 176 [r0,r1,r2,r3,(pi 360)]
 (.ite (ao (.tget cE 1) (pi 3))
 (.ret nY)
 (.ret (.tget cE 0))))
def anh (b:Nat→PC):PT×List (Shp×PT):=(Sy,[])
theorem abB:Ec.map told=some (anh (aw Ec)):=by kernel_rfl
theorem axI:tree HP=Sy:=aB abB
theorem aiV:Ec=some HP:=aA abB
noncomputable def EM:Option PC:=ay {ctx with fr:=[10,11,12,13,14],nh:=[]} Tryz.f176 ((ab af 176).getD default) []
noncomputable def Iy:PC:=ax EM
def Tf:PT:=
 (.call ⟨[],[]⟩ [] 16 222 [r0,nY]
 (.call ⟨[(18,(.nt cE))],[]⟩ [(18,false)] 20 222 [r1,(pi 1000)]
 (.call ⟨[(23,(.pick cV pT (.nt dp)))],[]⟩ [(23,false)] 25 222 [r2,(pi 100000)]
 (.call ⟨[(28,(.pick ff pT (.nt gM)))],[]⟩ [(28,false)] 30 222 [r3,(pi 100000)]
 (.ite (.pick (.pick (.pick qH pT (.nt mT)) pT (aq r3 r2)) pT (.pick (aO r4 (pi 360)) (aO r4 (pi 365)) pF))
 (.ret (.tup [(pi 0),(pi 1)]))
 (.call ⟨[],[]⟩ [] 55 223 [r0,(.ai .mul .i64 r1 (bG r3 r2)),(.ai .mul .i64 (pi 1000) r4)]
 (.ite (.nt (.tget sI 2))
 (.ret (.tup [(pi 0),(pi 3)]))
 (.ret (.tup [(.tget sI 0),(pi 0)])))))))))
def an0 (b:Nat→PC):PT×List (Shp×PT):=(Tf,[])
theorem aca:EM.map told=some (an0 (aw EM)):=by kernel_rfl
theorem ayn:tree Iy=Tf:=aB aca
theorem ajD:EM=some Iy:=aA aca
noncomputable def EO:Option PC:=ay {ctx with fr:=[4],nh:=[]} Tryz.f222 ((ab af 222).getD default) []
noncomputable def IA:PC:=ax EO
def Th:PT:=
 (.ret (.pick (aV r0 (pi 0)) (bL r0 r1) pF))
def an2 (b:Nat→PC):PT×List (Shp×PT):=(Th,[])
theorem acd:EO.map told=some (an2 (aw EO)):=by kernel_rfl
theorem ayp:tree IA=Th:=aB acd
theorem ajF:EO=some IA:=aA acd
noncomputable def EN:Option PC:=ay {ctx with fr:=[6,7,8,9,10,11,12],nh:=[]} Tryz.f223 ((ab af 223).getD default) []
noncomputable def Iz:PC:=ax EN
def Tg:PT:=
 (.call ⟨[],[]⟩ [] 18 224 [(.conv .u64 r0),(.conv .u64 r1)]
 (.ite (aV (.tget cV 0) (.conv .u64 r2))
 (.ret (.tup [(pi 0),(pi 0),pF]))
 (.call ⟨[],[]⟩ [] 30 225 [(.tget cV 0),(.tget cV 1),(.conv .u64 r2)]
 (.ite (bh (.tget mT 0) (.con (.v (.int .u64 1099511627776))))
 (.ret (.tup [(pi 0),(pi 0),pF]))
 (.ret (.tup [(.conv .i64 (.tget mT 0)),(.conv .i64 (.tget mT 1)),pT]))))))
def an1 (b:Nat→PC):PT×List (Shp×PT):=(Tg,[])
theorem acb:EN.map told=some (an1 (aw EN)):=by kernel_rfl
theorem ayo:tree Iz=Tg:=aB acb
theorem ajE:EN=some Iz:=aA acb
noncomputable def zy:Option PC:=ay {ctx with fr:=[6,7,8,2,9,10,11,12,13,14,15,16,17,18],nh:=[]} Tryz.f225 ((ab af 225).getD default) []
noncomputable def H6:PC:=ax zy
noncomputable def tJ:Nat→PC:=bt zy
def B4 (b:Nat→PC):PC:=.block 0 [15,16,67,68,69,78] [] (.loop [15,16] [] (b 0))
def B5 (b:Nat→PC):PC:=.block 2 [16,18,102,103,104,113] [] (.loop [16,18] [] (b 1))
def CG (b:Nat→PC):PT:=
 (.ite QY
 (.ite (aV yn iW)
 (.exit 0 ⟨[(15,(.ai .sub .u64 cJ Kj)),(16,yn),(67,cJ),(68,(aV cJ iW)),(69,(aV cJ iW)),(78,QY)],[]⟩)
 (.next ⟨[(15,(.ai .sub .u64 cJ Kj)),(16,yn)],[]⟩))
 (.exit 0 ⟨[(67,cJ),(68,(aV cJ iW)),(69,(aV cJ iW)),(78,QY)],[]⟩))
def CH (b:Nat→PC):PT:=
 (.ite QX
 (.ite (aV yn iW)
 (.exit 2 ⟨[(16,yn),(18,(.ai .sub .u64 cV Kj)),(102,cV),(103,(aV cV iW)),(104,(aV cV iW)),(113,QX)],[]⟩)
 (.next ⟨[(16,yn),(18,(.ai .sub .u64 cV Kj))],[]⟩))
 (.exit 2 ⟨[(102,cV),(103,(aV cV iW)),(104,(aV cV iW)),(113,QX)],[]⟩))
def Lu (b:Nat→PC):PT:=
 (.ite (ao r2 lT)
 (.chk pF
 (.chk (.nt pT)
 (.ite (bL r2 r0)
 (.chk pF
 (.chk (.nt pT)
 (.ite (ao r0 lT)
 (.chk (aO r2 (pi 0))
 (.ret (.tup [(.ai .quo .u64 r1 r2),(.ai .rem .u64 r1 r2)])))
 (.call ⟨[],[]⟩ [] 35 256 [r2]
 (.chk (aV nV (pi 0))
 (.chk ye
 (.chk Kw
 (.chk (aO nU (pi 0))
 (.brk ⟨[(16,Ku),(15,Ki),(14,Kg),(13,Kf),(11,vu),(10,Kh),(9,nU),(2,Cv),(8,nV)],[]⟩
(B4 b)
 (.chk (aO r9 (pi 0))
 (.brk ⟨[(16,Kv),(18,(.ai .quo .u64 pC r9)),(17,pC)],[]⟩
(B5 b)
 (.chk (aV r8 (pi 0))
 (.ret (.tup [Kz,Kq]))))))))))))))
 (.ite (ao r0 lT)
 (.chk (aO r2 (pi 0))
 (.ret (.tup [(.ai .quo .u64 r1 r2),(.ai .rem .u64 r1 r2)])))
 (.call ⟨[],[]⟩ [] 35 256 [r2]
 (.chk (aV nV (pi 0))
 (.chk ye
 (.chk Kw
 (.chk (aO nU (pi 0))
 (.brk ⟨[(16,Ku),(15,Ki),(14,Kg),(13,Kf),(11,vu),(10,Kh),(9,nU),(2,Cv),(8,nV)],[]⟩
(B4 b)
 (.chk (aO r9 (pi 0))
 (.brk ⟨[(16,Kv),(18,(.ai .quo .u64 pC r9)),(17,pC)],[]⟩
(B5 b)
 (.chk (aV r8 (pi 0))
 (.ret (.tup [Kz,Kq])))))))))))))))
 (.ite (bL r2 r0)
 (.chk pF
 (.chk (.nt pT)
 (.ite (ao r0 lT)
 (.chk (aO r2 (pi 0))
 (.ret (.tup [(.ai .quo .u64 r1 r2),(.ai .rem .u64 r1 r2)])))
 (.call ⟨[],[]⟩ [] 35 256 [r2]
 (.chk (aV nV (pi 0))
 (.chk ye
 (.chk Kw
 (.chk (aO nU (pi 0))
 (.brk ⟨[(16,Ku),(15,Ki),(14,Kg),(13,Kf),(11,vu),(10,Kh),(9,nU),(2,Cv),(8,nV)],[]⟩
(B4 b)
 (.chk (aO r9 (pi 0))
 (.brk ⟨[(16,Kv),(18,(.ai .quo .u64 pC r9)),(17,pC)],[]⟩
(B5 b)
 (.chk (aV r8 (pi 0))
 (.ret (.tup [Kz,Kq]))))))))))))))
 (.ite (ao r0 lT)
 (.chk (aO r2 (pi 0))
 (.ret (.tup [(.ai .quo .u64 r1 r2),(.ai .rem .u64 r1 r2)])))
 (.call ⟨[],[]⟩ [] 35 256 [r2]
 (.chk (aV nV (pi 0))
 (.chk ye
 (.chk Kw
 (.chk (aO nU (pi 0))
 (.brk ⟨[(16,Ku),(15,Ki),(14,Kg),(13,Kf),(11,vu),(10,Kh),(9,nU),(2,Cv),(8,nV)],[]⟩
(B4 b)
 (.chk (aO r9 (pi 0))
 (.brk ⟨[(16,Kv),(18,(.ai .quo .u64 pC r9)),(17,pC)],[]⟩
(B5 b)
 (.chk (aV r8 (pi 0))
 (.ret (.tup [Kz,Kq]))))))))))))))
def anA (b:Nat→PC):PT×List (Shp×PT):=(Lu b,[(.lp 0 [15,16,67,68,69,78] [] [15,16] [],CG b),(.lp 2 [16,18,102,103,104,113] [] [16,18] [],CH b)])
theorem Hu:zy.map told=some (anA (aw zy)):=by kernel_rfl
theorem ax0:tree H6=Lu tJ:=aB Hu
theorem Ro:round 0 [15,16,67,68,69,78] [] [15,16] [] (tJ 0)=CG tJ:=bq Hu 0 fun _=>rfl
theorem Rp:round 2 [16,18,102,103,104,113] [] [16,18] [] (tJ 1)=CH tJ:=bq Hu 1 fun _=>rfl
theorem ajd:zy=some H6:=aA Hu
noncomputable def Es:Option PC:=ay {ctx with fr:=[2],nh:=[]} Tryz.f256 ((ab af 256).getD default) []
noncomputable def H7:PC:=ax Es
def SQ:PT:=
 (.call ⟨[],[]⟩ [] 4 272 [r0]
 (.ret (bG (pi 64) r4)))
def anB (b:Nat→PC):PT×List (Shp×PT):=(SQ,[])
theorem abQ:Es.map told=some (anB (aw Es)):=by kernel_rfl
theorem ax1:tree H7=SQ:=aB abQ
theorem aje:Es=some H7:=aA abQ
noncomputable def Et:Option PC:=ay {ctx with fr:=[2,0],nh:=[]} Tryz.f272 ((ab af 272).getD default) []
noncomputable def H8:PC:=ax Et
def SR:PT:=
 (.ite (aV r0 iW)
 (.chk ye
 (.ite (aV qG (.con (.v (.int .u64 65536))))
 (.chk (aV Kr (pi 0))
 (.ite (aV CA Ke)
 (.chk (aV mP (pi 0))
 (.chk (.sok iX (.conv .u8 (.ai .shr .u64 CA mP)))
 (.ret (aJ (aJ (aJ (pi 32) (pi 16)) (pi 8)) (.conv .i64 (.sidx iX (.conv .u8 (.ai .shr .u64 CA mP))))))))
 (.chk (.sok iX (.conv .u8 CA))
 (.ret (aJ (aJ (pi 32) (pi 16)) (.conv .i64 (.sidx iX (.conv .u8 CA))))))))
 (.ite (aV qG Ke)
 (.chk (aV mP (pi 0))
 (.chk (.sok iX (.conv .u8 (.ai .shr .u64 qG mP)))
 (.ret (aJ (aJ (pi 32) (pi 8)) (.conv .i64 (.sidx iX (.conv .u8 (.ai .shr .u64 qG mP))))))))
 (.chk (.sok iX (.conv .u8 qG))
 (.ret (aJ (pi 32) (.conv .i64 (.sidx iX (.conv .u8 qG)))))))))
 (.ite (aV r0 (.con (.v (.int .u64 65536))))
 (.chk (aV Kr (pi 0))
 (.ite (aV Ct Ke)
 (.chk (aV mP (pi 0))
 (.chk (.sok iX (.conv .u8 (.ai .shr .u64 Ct mP)))
 (.ret (aJ (aJ (aJ (pi 0) (pi 16)) (pi 8)) (.conv .i64 (.sidx iX (.conv .u8 (.ai .shr .u64 Ct mP))))))))
 (.chk (.sok iX (.conv .u8 Ct))
 (.ret (aJ (aJ (pi 0) (pi 16)) (.conv .i64 (.sidx iX (.conv .u8 Ct))))))))
 (.ite (aV r0 Ke)
 (.chk (aV mP (pi 0))
 (.chk (.sok iX (.conv .u8 (.ai .shr .u64 r0 mP)))
 (.ret (aJ (aJ (pi 0) (pi 8)) (.conv .i64 (.sidx iX (.conv .u8 (.ai .shr .u64 r0 mP))))))))
 (.chk (.sok iX (.conv .u8 r0))
 (.ret (aJ (pi 0) (.conv .i64 (.sidx iX (.conv .u8 r0)))))))))
def anC (b:Nat→PC):PT×List (Shp×PT):=(SR,[])
theorem abR:Et.map told=some (anC (aw Et)):=by kernel_rfl
theorem ax2:tree H8=SR:=aB abR
theorem ajf:Et=some H8:=aA abR
noncomputable def Eb:Option PC:=ay {ctx with fr:=[12,13,15,17],nh:=[]} Tryz.f109 ((ab af 109).getD default) [6,7,14,16]
noncomputable def HO:PC:=ax Eb
def Sw:PT:=
 (.chk (az (pc (.mk [r0]) 3) r2)
 (.chk (az nX (pc (pn (pc (.mk [r0]) 3) r2) 1))
 (.ite (ao Q6 (pc (.mk [r1]) 4))
 (.ret (pi 0))
 (.call ⟨[(13,Q6)],[(7,(.mk [r1])),(6,(.mk [r0]))]⟩ [] 39 105 [jD,(pc (.mk [r1]) 4),Q6,r4]
 (.call ⟨[(15,(.tget sH 1))],[(14,(.setc z2 0 (.tget sH 0)))]⟩ [] 48 105 [(av 8 o6),db,(pc o7 4),r5]
 (.ite (.pick (.nt cJ) pT (.nt (.tget ir 1)))
 (.ret (pi 0))
 (.call ⟨[],[]⟩ [] 60 177 [r3,(.mk [(pc iU 0),(pc iU 1)]),(.mk [(pc (.setc z2 0 (.tget ir 0)) 0),(pc (.setc z2 0 (.tget ir 0)) 1)])]
 (.ret yp))))))))
def ang (b:Nat→PC):PT×List (Shp×PT):=(Sw,[])
theorem abA:Eb.map told=some (ang (aw Eb)):=by kernel_rfl
theorem axH:tree HO=Sw:=aB abA
theorem aiU:Eb=some HO:=aA abA
noncomputable def Ed:Option PC:=ay {ctx with fr:=[6,7,8,9,10,11,12],nh:=[]} Tryz.f177 ((ab af 177).getD default) [4,5]
noncomputable def HQ:PC:=ax Ed
def Sz:PT:=
 (.ite (aV adx Q4)
 (.ret (pi 0))
 (.call ⟨[(8,Q4)],[]⟩ [] 36 224 [(.conv .u64 r0),(.ai .sub .u64 Q4 adx)]
 (.call ⟨[],[]⟩ [] 43 225 [(.tget gN 0),(.tget gN 1),r8]
 (.ret (.conv .i64 (.tget qJ 0))))))
def ani (b:Nat→PC):PT×List (Shp×PT):=(Sz,[])
theorem abC:Ed.map told=some (ani (aw Ed)):=by kernel_rfl
theorem axJ:tree HQ=Sz:=aB abC
theorem aiW:Ed=some HQ:=aA abC
noncomputable def EJ:Option PC:=ay {ctx with fr:=[4],nh:=[]} Tryz.f41 ((ab af 41).getD default) [2,3]
noncomputable def Iv:PC:=ax EJ
def Tc:PT:=
 (.call ⟨[],[(3,(.mk [r1])),(2,(.mk [r0]))]⟩ [] 7 50 [jD,(av 19 (.mk [r1]))]
 (.call ⟨[(8,r7)],[]⟩ [(8,true)] 10 51 [(av 8 o2)]
 (.call ⟨[(13,(.pick r8 (ao cD (pi 0)) pF))],[]⟩ [(13,true)] 15 52 [(av 19 o3)]
 (.call ⟨[(17,(.pick db cJ pF))],[]⟩ [(17,true)] 20 21 [(av 8 o2),(av 19 o3)]
 (.ret (.pick jE (ao dp (pi 0)) pF))))))
def anX (b:Nat→PC):PT×List (Shp×PT):=(Tc,[])
theorem ab7:EJ.map told=some (anX (aw EJ)):=by kernel_rfl
theorem ayk:tree Iv=Tc:=aB ab7
theorem ajA:EJ=some Iv:=aA ab7
noncomputable def zL:Option PC:=ay {ctx with fr:=[4,5],nh:=[]} Tryz.f50 ((ab af 50).getD default) [2,3]
noncomputable def IY:PC:=ax zL
noncomputable def Ms:Nat→PC:=bt zL
def atA (b:Nat→PC):PC:=.block 0 [4,5,14,15,16,17,18] [] (.loop [4,5] [] (b 0))
def CP (b:Nat→PC):PT:=
 (.ite (aq r5 (.llen (pc o2 4)))
 (.blockS ⟨[],[]⟩ 1 [4,21,22,23,24,25,26,27] []
 (.chk (az (pc o2 4) r5)
 (.call ⟨[],[]⟩ [] 26 115 [(pn (pc o2 4) r5)]
 (.ite (.nt mS)
 (.ret pF)
 (.next ⟨[],[]⟩))))
 (.next ⟨[(5,(aJ r5 (pi 1)))],[]⟩))
 (.exit 0 ⟨[(14,r5),(15,pN),(16,(pc o2 4)),(17,(.llen (pc o2 4))),(18,(aq r5 (.llen (pc o2 4))))],[]⟩))
def TC (b:Nat→PC):PT:=
 (.call ⟨[(4,pF)],[(3,(.mk [r1])),(2,(.mk [r0]))]⟩ [] 7 113 [jD]
 (.call ⟨[(9,(.nt r7))],[]⟩ [(9,false)] 11 114 [(av 19 o3)]
 (.ite (.pick r9 pT (.nt br))
 (.ret pF)
 (.brk ⟨[(5,(pi 0))],[]⟩
(atA b)
 (.ret pT)))))
def aon (b:Nat→PC):PT×List (Shp×PT):=(TC b,[(.lp 0 [4,5,14,15,16,17,18] [] [4,5] [],CP b)])
theorem Qe:zL.map told=some (aon (aw zL)):=by kernel_rfl
theorem ayJ:tree IY=TC Ms:=aB Qe
theorem Ry:round 0 [4,5,14,15,16,17,18] [] [4,5] [] (Ms 0)=CP Ms:=bq Qe 0 fun _=>rfl
theorem aj0:zL=some IY:=aA Qe
noncomputable def zI:Option PC:=ay {ctx with fr:=[2,3,4],nh:=[]} Tryz.f113 ((ab af 113).getD default) [1]
noncomputable def IS:PC:=ax zI
noncomputable def zf:Nat→PC:=bt zI
def atw (b:Nat→PC):PC:=.block 0 [2,3,5,6,7,8,9,10,13] [] (.loop [2,3] [] (b 0))
def atx (b:Nat→PC):PC:=.block 2 [2,4,44,45,46,47,48,49,52] [] (.loop [2,4] [] (b 1))
def vB (b:Nat→PC):PT:=
 (.ite (.pick (aq r3 sD) (aq r3 (pi 50)) pF)
 (.chk (az (pc o1 1) r3)
 (.chk (.nt (.an (.an (.nt (bh (.llen (pc (pn (pc o1 1) r3) 4)) (pi 70))) pT) (.nt (az (pc o1 1) r3))))
 (.chk (.nt (.an (.an (.nt adO) pT) (.nt (az (pc o1 1) r3))))
 (.ite (.pick adO pT (bh (.llen (pc (pn (pc o1 1) r3) 3)) (pi 8)))
 (.ret pF)
 (.next ⟨[(3,(aJ r3 (pi 1)))],[]⟩)))))
 (.exit 0 ⟨[(5,r3),(6,pN),(7,(pc o1 1)),(8,sD),(9,(aq r3 sD)),(10,(aq r3 sD)),(13,(.pick (aq r3 sD) (aq r3 (pi 50)) pF))],[]⟩))
def yw (b:Nat→PC):PT:=
 (.ite (.pick (aq r4 sC) (aq r4 (pi 50)) pF)
 (.chk (az (pc o1 4) r4)
 (.chk (.nt (.an (.an (.nt (bh (.llen (pc (pn (pc o1 4) r4) 2)) (pi 40))) pT) (.nt (az (pc o1 4) r4))))
 (.ite (.pick (bh (.llen (pc (pn (pc o1 4) r4) 2)) (pi 40)) pT (bh (.llen (pc (pn (pc o1 4) r4) 3)) (pi 40)))
 (.ret pF)
 (.next ⟨[(4,(aJ r4 (pi 1)))],[]⟩))))
 (.exit 2 ⟨[(44,r4),(45,pN),(46,(pc o1 4)),(47,sC),(48,(aq r4 sC)),(49,(aq r4 sC)),(52,(.pick (aq r4 sC) (aq r4 (pi 50)) pF))],[]⟩))
def Tw (b:Nat→PC):PT:=
 (.brk ⟨[(3,(pi 0)),(2,pF)],[(1,(.mk [r0]))]⟩
(atw b)
 (.brk ⟨[(4,(pi 0))],[]⟩
(atx b)
 (.ret (.pick (.pick (.pick (.pick (.pick (.pick (.pick (aq (.llen (pc o1 0)) (pi 50)) (aq sD (pi 50)) pF) (aq (.llen (pc o1 2)) (pi 50)) pF) (aq yi (pi 210)) pF) (aq sC (pi 50)) pF) (aq (.llen (pc o1 5)) (pi 110)) pF) (aq (.llen (pc o1 6)) (pi 110)) pF) (aq (.llen (pc o1 7)) (pi 50)) pF))))
def aoh (b:Nat→PC):PT×List (Shp×PT):=(Tw b,[(.lp 0 [2,3,5,6,7,8,9,10,13] [] [2,3] [],vB b),(.lp 2 [2,4,44,45,46,47,48,49,52] [] [2,4] [],yw b)])
theorem Hw:zI.map told=some (aoh (aw zI)):=by kernel_rfl
theorem ayE:tree IS=Tw zf:=aB Hw
theorem CM:round 0 [2,3,5,6,7,8,9,10,13] [] [2,3] [] (zf 0)=vB zf:=bq Hw 0 fun _=>rfl
theorem KO:round 2 [2,4,44,45,46,47,48,49,52] [] [2,4] [] (zf 1)=yw zf:=bq Hw 1 fun _=>rfl
theorem ajU:zI=some IS:=aA Hw
noncomputable def E0:Option PC:=ay {ctx with fr:=[2],nh:=[]} Tryz.f114 ((ab af 114).getD default) [1]
noncomputable def IU:PC:=ax E0
def Tz:PT:=
 (.ret (.pick (.pick (.pick (bL (.llen mQ) (pi 50)) (bL (.llen (pc (.mk [r0]) 16)) (pi 10)) pF) (bL (.llen (pc (.mk [r0]) 17)) (pi 110)) pF) (bL (.llen yf) (pi 220)) pF))
def aoj (b:Nat→PC):PT×List (Shp×PT):=(Tz,[])
theorem acp:E0.map told=some (aoj (aw E0)):=by kernel_rfl
theorem ayG:tree IU=Tz:=aB acp
theorem ajW:E0=some IU:=aA acp
noncomputable def zK:Option PC:=ay {ctx with fr:=[2,3],nh:=[]} Tryz.f115 ((ab af 115).getD default) [1]
noncomputable def IX:PC:=ax zK
noncomputable def Mr:Nat→PC:=bt zK
def atz (b:Nat→PC):PC:=.block 0 [2,3,14,15,16,17,18] [] (.loop [2,3] [] (b 0))
def CO (b:Nat→PC):PT:=
 (.ite (aq r3 yi)
 (.blockS ⟨[],[]⟩ 1 [2,21,22,23,24,25,26,27,28] []
 (.chk (az (pc o1 3) r3)
 (.call ⟨[],[]⟩ [] 27 180 [(.sub (pn (pc o1 3) r3) 1 3)]
 (.ite (.nt ec)
 (.ret pF)
 (.next ⟨[],[]⟩))))
 (.next ⟨[(3,(aJ r3 (pi 1)))],[]⟩))
 (.exit 0 ⟨[(14,r3),(15,pN),(16,(pc o1 3)),(17,yi),(18,(aq r3 yi))],[]⟩))
def TB (b:Nat→PC):PT:=
 (.ite (.pick (bh (.llen (pc (.mk [r0]) 3)) (pi 60)) pT (bh pz (pi 60)))
 (.ret pF)
 (.brk ⟨[(3,(pi 0)),(2,pF)],[(1,(.mk [r0]))]⟩
(atz b)
 (.ret pT)))
def aom (b:Nat→PC):PT×List (Shp×PT):=(TB b,[(.lp 0 [2,3,14,15,16,17,18] [] [2,3] [],CO b)])
theorem Qd:zK.map told=some (aom (aw zK)):=by kernel_rfl
theorem ayI:tree IX=TB Mr:=aB Qd
theorem Rx:round 0 [2,3,14,15,16,17,18] [] [2,3] [] (Mr 0)=CO Mr:=bq Qd 0 fun _=>rfl
theorem ajZ:zK=some IX:=aA Qd
noncomputable def E1:Option PC:=ay {ctx with fr:=[2],nh:=[]} Tryz.f180 ((ab af 180).getD default) [1]
noncomputable def IV:PC:=ax E1
def TA:PT:=
 (.call ⟨[],[]⟩ [] 4 226 [(.mk [kD,nX,vt]),(pi 100),(pi 20)]
 (.ret (aV r4 (pi 0))))
def aok (b:Nat→PC):PT×List (Shp×PT):=(TA,[])
theorem acq:E1.map told=some (aok (aw E1)):=by kernel_rfl
theorem ayH:tree IV=TA:=aB acq
theorem ajX:E1=some IV:=aA acq
noncomputable def zJ:Option PC:=ay {ctx with fr:=[6,1,7],nh:=[]} Tryz.f226 ((ab af 226).getD default) [3]
noncomputable def IW:PC:=ax zJ
noncomputable def Mq:Nat→PC:=bt zJ
def aty (b:Nat→PC):PC:=.block 0 [1,7,12,13,14,15,16,17,20] [] (.loop [1,7] [] (b 0))
def CN (b:Nat→PC):PT:=
 (.ite (.pick (aq r7 mR) (aV r1 (pi 0)) pF)
 (.blockS ⟨[],[]⟩ 1 [1,23,24,25,26,27,28,29,30,31] []
 (.chk (az (pc o3 2) r7)
 (.call ⟨[],[]⟩ [] 31 226 [(pn (pc o3 2) r7),r1,(bG r2 (pi 1))]
 (.next ⟨[(1,oa)],[]⟩)))
 (.next ⟨[(7,(aJ r7 (pi 1)))],[]⟩))
 (.exit 0 ⟨[(12,r7),(13,pN),(14,(pc o3 2)),(15,mR),(16,(aq r7 mR)),(17,(aq r7 mR)),(20,(.pick (aq r7 mR) (aV r1 (pi 0)) pF))],[]⟩))
def LA (b:Nat→PC):PT:=
 (.ite (aq r2 (pi 1))
 (.ret (pi (-1)))
 (.brk ⟨[(7,(pi 0)),(1,(bG r1 (pi 1)))],[(3,(.mk [r0]))]⟩
(aty b)
 (.ret r1)))
def aol (b:Nat→PC):PT×List (Shp×PT):=(LA b,[(.lp 0 [1,7,12,13,14,15,16,17,20] [] [1,7] [],CN b)])
theorem Qc:zJ.map told=some (aol (aw zJ)):=by kernel_rfl
theorem afg:tree IW=LA Mq:=aB Qc
theorem Rw:round 0 [1,7,12,13,14,15,16,17,20] [] [1,7] [] (Mq 0)=CN Mq:=bq Qc 0 fun _=>rfl
theorem ajY:zJ=some IW:=aA Qc
noncomputable def EZ:Option PC:=ay {ctx with fr:=[2],nh:=[]} Tryz.f52 ((ab af 52).getD default) [1]
noncomputable def IT:PC:=ax EZ
def Tx:PT:=
 (.ret (.pick (.pick (.pick (bL (.llen mQ) (pi 42)) (bL (.llen (pc (.mk [r0]) 16)) (pi 6)) pF) (bL (.llen (pc (.mk [r0]) 17)) (pi 102)) pF) (bL (.llen yf) (pi 202)) pF))
def aoi (b:Nat→PC):PT×List (Shp×PT):=(Tx,[])
theorem aco:EZ.map told=some (aoi (aw EZ)):=by kernel_rfl
theorem ayF:tree IT=Tx:=aB aco
theorem ajV:EZ=some IT:=aA aco
noncomputable def zD:Option PC:=ay {ctx with fr:=[4,5,6,7,8,11],nh:=[]} Tryz.f21 ((ab af 21).getD default) [2,3,10]
noncomputable def IF:PC:=ax zD
noncomputable def ze:Nat→PC:=bt zD
def atq (b:Nat→PC):PC:=.block 0 [4,48,49] [] (.loop [4,48] [] (b 0))
def atr (b:Nat→PC):PC:=.block 2 [4,8,62,63] [] (.loop [4,8,62] [] (b 1))
def CK (b:Nat→PC):PT:=
 (.ite (aq ir Rd)
 (.blockS ⟨[],[]⟩ 1 [4,6,7,50,51,52,53,54,55,56] []
 (.call ⟨[],[]⟩ [] 54 65 [(av 8 o2),(av 19 o3),ir]
 (.ite (aO qK (pi 0))
 (.ret qK)
 (.next ⟨[],[]⟩)))
 (.next ⟨[(48,(aJ ir (pi 1)))],[]⟩))
 (.exit 0 ⟨[(49,(aq ir Rd))],[]⟩))
def CL (b:Nat→PC):PT:=
 (.ite (aq od Rf)
 (.blockS ⟨[],[]⟩ 3 [4,8,10,64,65,66,67,68,69,70,71,72,73,74,75,76,77,78,79,80] [10]
 (.chk (az yp od)
 (.call ⟨[],[(10,(.setc z2 0 (pn yp od)))]⟩ [] 73 66 [(pc (.setc z2 0 (pn yp od)) 0),sE,(.llen (pc o3 15))]
 (.ite (.nt CC)
 (.ret (pi 1))
 (.call ⟨[],[]⟩ [] 77 66 [(pc bK 1),(pi 1),nY]
 (.ite (.nt r77)
 (.ret (pi 3))
 (.next ⟨[(8,(pc bK 0))],[]⟩))))))
 (.next ⟨[(62,(aJ od (pi 1)))],[]⟩))
 (.exit 2 ⟨[(63,(aq od Rf))],[]⟩))
def Tn (b:Nat→PC):PT:=
 (.ite (.pick (.pick (.pick (bh (.llen (pc (.mk [r1]) 15)) (pi 40)) pT (bh (.llen (pc (.mk [r1]) 16)) (pi 4))) pT (bh (.llen (pc (.mk [r1]) 17)) (pi 100))) pT (bh (.llen (pc (.mk [r1]) 18)) (pi 200)))
 (.ret (pi 6))
 (.call ⟨[(4,(pi 0))],[(3,(.mk [r1])),(2,(.mk [r0]))]⟩ [] 37 64 [jD,(av 15 (.mk [r1]))]
 (.ite (aO lV (pi 0))
 (.ret lV)
 (.ite (ao (.llen (pc o3 15)) (pi 0))
 (.ret (pi 14))
 (.brk ⟨[(48,(pi 0)),(47,(.llen (pc o3 15)))],[]⟩
(atq b)
 (.brk ⟨[(62,(pi 0)),(61,(.llen (pc o3 16))),(60,(pc o3 16)),(8,(pi 0))],[]⟩
(atr b)
 (.call ⟨[],[]⟩ [] 84 67 [(av 8 o2),(av 19 o3)]
 (.ite (aO r84 (pi 0))
 (.ret r84)
 (.call ⟨[],[]⟩ [] 89 68 [(av 19 o3)]
 (.ret r89))))))))))
def an7 (b:Nat→PC):PT×List (Shp×PT):=(Tn b,[(.lp 0 [4,48,49] [] [4,48] [],CK b),(.lp 2 [4,8,62,63] [] [4,8,62] [],CL b)])
theorem Hv:zD.map told=some (an7 (aw zD)):=by kernel_rfl
theorem ayu:tree IF=Tn ze:=aB Hv
theorem Ru:round 0 [4,48,49] [] [4,48] [] (ze 0)=CK ze:=bq Hv 0 fun _=>rfl
theorem Rv:round 2 [4,8,62,63] [] [4,8,62] [] (ze 1)=CL ze:=bq Hv 1 fun _=>rfl
theorem ajK:zD=some IF:=aA Hv
noncomputable def FE:Option PC:=ay {ctx with fr:=[4,5,6,7,8,54,80,109,118,9,10],nh:=[]} Tryz.f64 ((ab af 64).getD default) [2,3]
noncomputable def J0:PC:=ax FE
def UA:PT:=
 (.call ⟨[],[(3,(.mk [r1])),(2,(.mk [r0]))]⟩ [] 12 51 [jD]
 (.ite (aO bV (pi 0))
 (.ret bV)
 (.call ⟨[(7,(.llen (pc o2 1))),(6,(.llen (pc o2 3)))],[]⟩ [] 25 130 [(pc o3 0),(.llen (pc o2 3))]
 (.call ⟨[(26,gM)],[]⟩ [(26,true)] 30 130 [(pc o3 1),r6]
 (.call ⟨[(36,(ao (pc o3 2) (pi (-1)))),(32,(.pick mS mT pF))],[]⟩ [(36,false),(32,true)] 40 130 [(pc o3 2),r6]
 (.call ⟨[(47,(ao (pc o3 11) (pi (-1)))),(43,(.pick yo (.pick gN pT qI) pF))],[]⟩ [(47,false),(43,true)] 51 130 [(pc o3 11),r6]
 (.blockS ⟨[(8,(.pick qJ (.pick Rd pT oc) pF))],[]⟩ 0 [4,54,55,56,57,65,66,72,73,79,80,81,82,83,84,88,89,93,94,98,99,103,104,108,109,110,111,112,113,117,118,119,120,121,122,126,127,137,138,142] []
 (.call ⟨[(57,(.nt r8))],[]⟩ [(57,false)] 63 130 [(pc o3 4),(.llen (pc o2 0))]
 (.call ⟨[(66,(.pick sJ pT (.nt Rg)))],[]⟩ [(66,false)] 70 130 [(pc o3 9),r7]
 (.call ⟨[(73,(.pick r66 pT (.nt r70)))],[]⟩ [(73,false)] 77 130 [(pc o3 10),r7]
 (.iteS ⟨[],[]⟩ (.pick CC pT (.nt r77)) [4,80,81,82,83,84,88,89,93,94,98,99,103,104,108,109,110,111,112,113,117,118,119,120,121,122,126,127,137,138,142] []
 (.ret (pi 1))
 (.iteS ⟨[],[]⟩ (.pick (.pick (.pick (.pick (.pick (aq (pc o3 3) (pi 1)) pT (bh (pc o3 3) nY)) pT (aq (pc o3 8) (pi 0))) pT (bh (pc o3 8) (pi 100000))) pT (aq (pc o3 12) (pi 0))) pT (bh (pc o3 12) (pi 1000))) [4,109,110,111,112,113,117,118,119,120,121,122,126,127,137,138,142] []
 (.ret (pi 3))
 (.iteS ⟨[],[]⟩ (.pick (aq (pc o3 14) (pi 1)) pT (bh (pc o3 14) (pi 4))) [4,118,119,120,121,122,126,127,137,138,142] []
 (.ret (pi 15))
 (.call ⟨[(138,(.pick (.pick (aq (pc o3 13) (pi 0)) pT (bh (pc o3 13) (pi 7))) pT (.pick (aO (.ai .and .i64 (pc o3 13) (pi 4)) (pi 0)) (ao (pc o3 2) (pi (-1))) pF)))],[]⟩ [(138,false)] 140 131 [(av 15 o3)]
 (.ite (.pick (.r 138) pT (.nt (.r 140)))
 (.ret (pi 2))
 (.next ⟨[],[]⟩)))
 (.next ⟨[],[]⟩))
 (.next ⟨[],[]⟩))
 (.next ⟨[],[]⟩)))))
 (.iteS ⟨[],[]⟩ (ao (pc o3 5) (pi 4)) [4] []
 (.call ⟨[],[]⟩ [] 153 132 [(av 8 o2),(pc o3 9),(pc o3 10)]
 (.ret (.tget (.r 153) 1)))
 (.next ⟨[],[]⟩)
 (.ret (pi 0))))))))))
def apq (b:Nat→PC):PT×List (Shp×PT):=(UA,[])
theorem ac1:FE.map told=some (apq (aw FE)):=by kernel_rfl
theorem azF:tree J0=UA:=aB ac1
theorem ak2:FE=some J0:=aA ac1
noncomputable def FF:Option PC:=ay {ctx with fr:=[4],nh:=[]} Tryz.f130 ((ab af 130).getD default) []
noncomputable def J1:PC:=ax FF
def UB:PT:=
 (.ret QR)
def apr (b:Nat→PC):PT×List (Shp×PT):=(UB,[])
theorem ac2:FF.map told=some (apr (aw FF)):=by kernel_rfl
theorem azG:tree J1=UB:=aB ac2
theorem ak3:FF=some J1:=aA ac2
noncomputable def FG:Option PC:=ay {ctx with fr:=[2,8,19,40],nh:=[]} Tryz.f131 ((ab af 131).getD default) [1,3]
noncomputable def J2:PC:=ax FG
def UC:PT:=
 (.ite (.pick (ao (pc jC 0) (pi 0)) (ao (pc jC 0) (pi 0)) (ao (pc jC 0) (pi 4)))
 (.ret (.pick (ao (pc jC 1) (pi 0)) (ao (pc jC 2) (pi 0)) pF))
 (.ite (.pick (ao (pc jC 0) (pi 1)) (ao (pc jC 0) (pi 1)) (ao (pc jC 0) (pi 2)))
 (.ret (.pick (.pick (aV (pc jC 1) (pi 1)) (bL (pc jC 1) (pi 400)) pF) (.pick (ao (pc jC 2) (pi 0)) pT (ao (pc jC 2) (pi 1))) pF))
 (.ite (ao (pc jC 0) (pi 3))
 (.ret (.pick (.pick (aV (pc jC 1) (pc (.mk [r0]) 8)) (bL (pc jC 1) (pi 100000)) pF) (ao (pc jC 2) (pi 0)) pF))
 (.ret pF))))
def aps (b:Nat→PC):PT×List (Shp×PT):=(UC,[])
theorem ac3:FG.map told=some (aps (aw FG)):=by kernel_rfl
theorem azH:tree J2=UC:=aB ac3
theorem ak4:FG=some J2:=aA ac3
noncomputable def zH:Option PC:=ay {ctx with fr:=[6,8,9,76,92,98],nh:=[]} Tryz.f65 ((ab af 65).getD default) [3,4,7,11]
noncomputable def IP:PC:=ax zH
noncomputable def Mp:Nat→PC:=bt zH
def atv (b:Nat→PC):PC:=.block 0 [8,9,51,52] [] (.loop [8,9,51] [] (b 0))
def KN (b:Nat→PC):PT:=
 (.ite (aq oc lW)
 (.chk (az pH oc)
 (.next ⟨[(8,(pc (.setc z9 0 (pn pH oc)) 6)),(9,(.pick r9 pT (.pick (.pick (ao (pc o7 0) (pi 1)) (ao (pc (.setc z9 0 (pn pH oc)) 0) (pi 1)) pF) (ao (pc (.setc z9 0 (pn pH oc)) 1) (pc o7 1)) pF))),(51,(aJ oc (pi 1)))],[]⟩))
 (.exit 0 ⟨[(52,(aq oc lW))],[]⟩))
def Tv (b:Nat→PC):PT:=
 (.chk (az (pc (.mk [r1]) 15) r2)
 (.call ⟨[],[(7,mO),(4,(.mk [r1])),(3,(.mk [r0]))]⟩ [] 23 66 [(pc mO 1),(pi 0),(bG (pc (.mk [r1]) 14) (pi 1))]
 (.ite (.nt ff)
 (.ret (pi 15))
 (.call ⟨[],[]⟩ [] 31 66 [(pc o7 2),(pi 0),Kc]
 (.call ⟨[(33,(.nt oa))],[]⟩ [(33,false)] 40 66 [(pc o7 7),(pi 0),(bG (.llen (pc o3 1)) (pi 1))]
 (.ite (.pick sG pT (.nt qI))
 (.ret (pi 1))
 (.chk (.slok (pc o4 15) (pi 0) r2)
 (.brk ⟨[(51,(pi 0)),(50,(.llen (.slc (pc o4 15) (pi 0) r2))),(49,(.slc (pc o4 15) (pi 0) r2)),(9,pF),(8,(pc o4 8))],[]⟩
(atv b)
 (.blockS ⟨[],[]⟩ 2 [6,76,77,78,79,80,81,82,91,92,93,94,95,96,97,98,99] []
 (.call ⟨[],[]⟩ [] 80 66 [(pc o7 6),r8,(pi 100000)]
 (.iteS ⟨[],[]⟩ (.pick (.nt vz) pT (.pick (ao r2 (pi 0)) (aO (pc o7 6) r8) pF)) [6,92,93,94,95,96,97,98,99] []
 (.ret (pi 13))
 (.call ⟨[],[]⟩ [] 96 133 [(av 8 o3),(av 19 o4),r2]
 (.ite (.nt yt)
 (.ret (pi 14))
 (.ite r9
 (.ret (pi 5))
 (.next ⟨[],[]⟩))))
 (.next ⟨[],[]⟩)))
 (.ret (pi 0)))))))))))
def aof (b:Nat→PC):PT×List (Shp×PT):=(Tv b,[(.lp 0 [8,9,51,52] [] [8,9,51] [],KN b)])
theorem Qb:zH.map told=some (aof (aw zH)):=by kernel_rfl
theorem ayC:tree IP=Tv Mp:=aB Qb
theorem aek:round 0 [8,9,51,52] [] [8,9,51] [] (Mp 0)=KN Mp:=bq Qb 0 fun _=>rfl
theorem ajS:zH=some IP:=aA Qb
noncomputable def EX:Option PC:=ay {ctx with fr:=[6],nh:=[]} Tryz.f66 ((ab af 66).getD default) []
noncomputable def IN:PC:=ax EX
def Tu:PT:=
 (.ret (.pick (aV r0 r1) (bL r0 r2) pF))
def aoe (b:Nat→PC):PT×List (Shp×PT):=(Tu,[])
theorem acm:EX.map told=some (aoe (aw EX)):=by kernel_rfl
theorem ayB:tree IN=Tu:=aB acm
theorem ajR:EX=some IN:=aA acm
noncomputable def EW:Option PC:=ay {ctx with fr:=[6,9,10,66,103,113,11,140,149],nh:=[]} Tryz.f133 ((ab af 133).getD default) [3,4,7,8]
noncomputable def IM:PC:=ax EW
def Tt:PT:=
 (.chk (az (pc (.mk [r1]) 15) r2)
 (.ite (.pick (.cb .neq (ao r2 (pi 0)) (ao (pc mO 0) (pi 0))) pT (.pick (aO (pc mO 0) (pi 2)) (aO (pc mO 4) (pi (-1))) pF))
 (.ret pF)
 (.ite (.pick (.pick (aO (pc mO 0) (pi 3)) (aO (pc mO 0) (pi 4)) pF) (aO (pc mO 3) (pi (-1))) pF)
 (.ret pF)
 (.call ⟨[(9,(.pick (ao (pc mO 5) (pi 0)) (ao (pc mO 8) (pi 0)) pF))],[(8,(.setc LP 0 (av 15 (.mk [r1])))),(7,mO),(4,(.mk [r1])),(3,(.mk [r0]))]⟩ [] 58 66 [(pc mO 5),(pi 1),nY]
 (.blockS ⟨[(65,(pc o7 0)),(10,(.pick qL (ao (pc o7 8) (pi 0)) pF))],[]⟩ 0 [6,66,67,103,104,113,114,140,141,149,150] []
 (.iteS ⟨[],[]⟩ (ao yq (pi 0)) [6,103,104,113,114,140,141,149,150] []
 (.ret (.pick (.pick (.pick (.pick (.pick (ao (pc o7 2) (pc o8 0)) (ao (pc o7 5) (pi 0)) pF) (ao (.ai .or .i64 (pc o7 8) (pi 1)) (pi 1)) pF) (ao (pc o7 1) (pi 0)) pF) (ao (pc o7 6) (pc o8 8)) pF) (ao (pc o7 7) (pc o8 9)) pF))
 (.iteS ⟨[],[]⟩ (ao yq (pi 1)) [6,113,114,140,141,149,150] []
 (.ret (.pick (ao (pc o7 2) (pc o8 1)) cD pF))
 (.iteS ⟨[],[]⟩ (ao yq (pi 2)) [6,140,141,149,150] []
 (.call ⟨[(11,(pi 6))],[]⟩ [] 121 66 [(pc o7 4),(pi (-1)),Kc]
 (.call ⟨[(127,(.pick awb (ao (pc o7 5) (pi 0)) pF))],[]⟩ [(127,true)] 130 66 [(pc o7 8),(pi 0),(pi 7)]
 (.ret (.pick (.pick awc (.r 130) pF) (aO (.ai .and .i64 (pc o7 8) br) br) pF))))
 (.iteS ⟨[],[]⟩ (ao yq (pi 3)) [6,149,150] []
 (.call ⟨[(143,r9)],[]⟩ [(143,true)] 147 184 [(av 19 o4),r2,(.lst [(pi 0),(pi 1),(pi 2),(pi 4)])]
 (.ret (.pick (.r 143) (.r 147) pF)))
 (.iteS ⟨[],[]⟩ (ao yq (pi 4)) [6] []
 (.call ⟨[(159,(.pick cD (aO (pc o7 2) (pc o8 1)) pF))],[]⟩ [(159,true)] 163 184 [(av 19 o4),r2,(.lst [(pi 0),(pi 2)])]
 (.ret (.pick (.r 159) (.r 163) pF)))
 (.next ⟨[],[]⟩)
 (.next ⟨[],[]⟩))
 (.next ⟨[],[]⟩))
 (.next ⟨[],[]⟩))
 (.next ⟨[],[]⟩))
 (.next ⟨[],[]⟩))
 (.ret pF))))))
def aod (b:Nat→PC):PT×List (Shp×PT):=(Tt,[])
theorem ack:EW.map told=some (aod (aw EW)):=by kernel_rfl
theorem ayA:tree IM=Tt:=aB ack
theorem ajQ:EW=some IM:=aA ack
noncomputable def EV:Option PC:=ay {ctx with fr:=[6,7],nh:=[]} Tryz.f184 ((ab af 184).getD default) [3]
noncomputable def IK:PC:=ax EV
def Tr:PT:=
 (.chk (az mQ r1)
 (.call ⟨[(7,(pc (pn mQ r1) 3))],[(3,(.mk [r0]))]⟩ [] 17 66 [(pc (pn mQ r1) 3),(pi 0),(bG r1 (pi 1))]
 (.chk (.nt (.an (.an jE pT) (.nt (az (pc o3 15) r1))))
 (.call ⟨[(18,jE)],[]⟩ [(18,true)] 27 185 [(av 19 o3),r7,(pc (pn (pc o3 15) r1) 1)]
 (.chk (.nt (.an (.an (.pick cV ec pF) pT) (.nt (az (pc o3 15) r7))))
 (.call ⟨[(29,(.pick cV ec pF))],[]⟩ [(29,true)] 37 85 [r2,(pc (pn (pc o3 15) r7) 0)]
 (.ret (.pick pE lV pF))))))))
def aob (b:Nat→PC):PT×List (Shp×PT):=(Tr,[])
theorem acj:EV.map told=some (aob (aw EV)):=by kernel_rfl
theorem ayy:tree IK=Tr:=aB acj
theorem ajO:EV=some IK:=aA acj
noncomputable def EY:Option PC:=ay {ctx with fr:=[6],nh:=[]} Tryz.f185 ((ab af 185).getD default) [3]
noncomputable def IQ:PC:=ax EY
def Lz:PT:=
 (.chk (.nt (.an (.an (.nt (ao r1 (pi 0))) pT) (.nt (az mQ r1))))
 (.ret (.pick (ao r1 (pi 0)) pT (ao (pc (pn mQ r1) 1) r2))))
def aog (b:Nat→PC):PT×List (Shp×PT):=(Lz,[])
theorem acn:EY.map told=some (aog (aw EY)):=by kernel_rfl
theorem ayD:tree IQ=Lz:=aB acn
theorem ajT:EY=some IQ:=aA acn
noncomputable def zF:Option PC:=ay {ctx with fr:=[4,5,7],nh:=[]} Tryz.f67 ((ab af 67).getD default) [2,3,6]
noncomputable def IJ:PC:=ax zF
noncomputable def Mn:Nat→PC:=bt zF
def att (b:Nat→PC):PC:=.block 0 [4,11,12] [] (.loop [4,11] [] (b 0))
def KL (b:Nat→PC):PT:=
 (.ite (aq br cD)
 (.blockS ⟨[],[]⟩ 1 [4,5,6,7,13,14,15,16,17,18,19,20,21,22,23,24,25,26,27,28,29,30,31,32,37,38,39,40,41,42,43,44,45,46,47,48,58,59,69,70,71,72,73] [6]
 (.chk (az r9 br)
 (.call ⟨[(5,br)],[(6,(.setc z9 0 (pn r9 br)))]⟩ [] 22 66 [(pc (.setc z9 0 (pn r9 br)) 3),(pi 0),(bG (pc o3 14) (pi 1))]
 (.ite (.nt KE)
 (.ret (pi 15))
 (.call ⟨[],[]⟩ [] 30 66 [(pc o6 7),(pi 0),(bG (.llen (pc o2 1)) (pi 1))]
 (.call ⟨[(32,(.nt mT))],[]⟩ [(32,false)] 35 66 [(pc o6 0),(pi 0),(pi 9)]
 (.ite (.pick yo pT (.nt mU))
 (.ret (pi 1))
 (.call ⟨[],[]⟩ [] 41 134 [(av 8 o2),(av 19 o3),(av 9 o6)]
 (.ite (.nt kE)
 (.ret (pi 14))
 (.ite (aO (pc o6 4) (pi (-1)))
 (.chk (az (pc o3 15) (pc o6 4))
 (.ite (bh r5 (pi 0))
 (.chk (az (pc o3 17) (bG r5 (pi 1)))
 (.call ⟨[],[]⟩ [] 72 66 [(pc o6 6),(.mx (.mx (pc o3 8) (pc (pn (pc o3 15) (pc o6 4)) 6)) (pc (pn (pc o3 17) (bG r5 (pi 1))) 6)),(pi 100000)]
 (.ite (.nt KG)
 (.ret (pi 13))
 (.next ⟨[],[]⟩))))
 (.call ⟨[],[]⟩ [] 72 66 [(pc o6 6),(.mx (pc o3 8) (pc (pn (pc o3 15) (pc o6 4)) 6)),(pi 100000)]
 (.ite (.nt KG)
 (.ret (pi 13))
 (.next ⟨[],[]⟩)))))
 (.ite (bh r5 (pi 0))
 (.chk (az (pc o3 17) (bG r5 (pi 1)))
 (.call ⟨[],[]⟩ [] 72 66 [(pc o6 6),(.mx (pc o3 8) (pc (pn (pc o3 17) (bG r5 (pi 1))) 6)),(pi 100000)]
 (.ite (.nt KG)
 (.ret (pi 13))
 (.next ⟨[],[]⟩))))
 (.call ⟨[],[]⟩ [] 72 66 [(pc o6 6),(pc o3 8),(pi 100000)]
 (.ite (.nt KG)
 (.ret (pi 13))
 (.next ⟨[],[]⟩)))))))))))))
 (.next ⟨[(11,(aJ br (pi 1)))],[]⟩))
 (.exit 0 ⟨[(12,(aq br cD))],[]⟩))
def Tq (b:Nat→PC):PT:=
 (.brk ⟨[(11,(pi 0)),(10,(.llen (pc (.mk [r1]) 17))),(9,(pc (.mk [r1]) 17)),(4,(pi 0))],[(3,(.mk [r1])),(2,(.mk [r0]))]⟩
(att b)
 (.ret (pi 0)))
def aoa (b:Nat→PC):PT×List (Shp×PT):=(Tq b,[(.lp 0 [4,11,12] [] [4,11] [],KL b)])
theorem P9:zF.map told=some (aoa (aw zF)):=by kernel_rfl
theorem ayx:tree IJ=Tq Mn:=aB P9
theorem aei:round 0 [4,11,12] [] [4,11] [] (Mn 0)=KL Mn:=bq P9 0 fun _=>rfl
theorem ajN:zF=some IJ:=aA P9
end Rm
