/-
  The table of this seat's functions.
-/
import Derived.Test.YtepfoekldooaeaaDoorKAK
import Derived.Test.YtepfoekldooaeaaDoorKAL
set_option linter.unusedVariables false
set_option maxRecDepth 100000
namespace Rm
open Go Go.Proofs Cx
def Kd:List Nat:=[3,4,12,13,17,41,39,58,75,76,91,101,40,14,15,16,5,18,19,20,42,59,6,21,22,43,60,61,77,23,24,25,26,44,27,28,29,30,31,7,8,32,45,46,47,33,34,48,62,63,67,83,35,49,36,51,64,50,9,11,37,52,65,78,66,80,79,92,68,81,82,53,55,69,85,84,93,70,38,56,72,71,73,86,87,94,98,96,95,57,74,88,97,89,99,102,90,10]
noncomputable def yT:List (Nat×PC):=[(3,Dk),(4,Ks),(12,Kt),(13,Km),(17,Kl),(41,Kp),(39,Kr),(58,Kq),(75,Da),(76,Kg),(91,Kh),(101,Ki),(40,Ko),(14,Kj),(15,Ku),(16,Kk),(5,DF),(18,Dz),(19,DB),(20,DE),(42,DC),(59,DD),(6,DG),(21,DS),(22,DO),(43,DR),(60,DQ),(61,D7),(77,Ec),(23,DH),(24,DI),(25,DN),(26,DP),(44,DV),(27,DJ),(28,DK),(29,DT),(30,DW),(31,DU),(7,DA),(8,Dq),(32,Es),(45,Et),(46,Eu),(47,DM),(33,Dx),(34,Dw),(48,Dv),(62,Dt),(63,Dy),(67,D6),(83,Eb),(35,Ds),(49,Dr),(36,Du),(51,Db),(64,De),(50,Dc),(9,Dj),(11,C6),(37,C8),(52,C9),(65,DX),(78,D2),(66,DZ),(80,D0),(79,D4),(92,D8),(68,DL),(81,D1),(82,DY),(53,Dm),(55,Df),(69,Dh),(85,Di),(84,D5),(93,Ea),(70,Dg),(38,Dl),(56,Dn),(72,Dp),(71,D9),(73,Ed),(86,En),(87,Eh),(94,Ek),(98,Ej),(96,Ef),(95,Ep),(57,Ee),(74,El),(88,Em),(97,Er),(89,Ei),(99,Eg),(102,Eo),(90,D3),(10,C7)]
noncomputable def tab:Nat→Option PC:=ab yT
theorem UE:yT.map (·.1)=Kd:=by kernel_rfl
theorem aH:(yT.map (·.1)).Nodup:=by rw[UE];exact j6 (by kernel_rfl)
theorem XC:tab Sc=some Dk:=aF aH (k:=0) (by kernel_rfl)
theorem XD:tab Jx=some Ks:=aF aH (k:=1) (by kernel_rfl)
theorem XE:tab Sd=some Kt:=aF aH (k:=2) (by kernel_rfl)
theorem Xw:tab R6=some Km:=aF aH (k:=3) (by kernel_rfl)
theorem Xv:tab R5=some Kl:=aF aH (k:=4) (by kernel_rfl)
theorem Xz:tab R9=some Kp:=aF aH (k:=5) (by kernel_rfl)
theorem XB:tab Sb=some Kr:=aF aH (k:=6) (by kernel_rfl)
theorem XA:tab Sa=some Kq:=aF aH (k:=7) (by kernel_rfl)
theorem NX:tab Jv=some Da:=aF aH (k:=8) (by kernel_rfl)
theorem Xj:tab RU=some Kg:=aF aH (k:=9) (by kernel_rfl)
theorem Xk:tab RV=some Kh:=aF aH (k:=10) (by kernel_rfl)
theorem Xl:tab RW=some Ki:=aF aH (k:=11) (by kernel_rfl)
theorem Xx:tab R7=some Ko:=aF aH (k:=12) (by kernel_rfl)
theorem Xt:tab R3=some Kj:=aF aH (k:=13) (by kernel_rfl)
theorem XS:tab Sq=some Ku:=aF aH (k:=14) (by kernel_rfl)
theorem Xu:tab R4=some Kk:=aF aH (k:=15) (by kernel_rfl)
theorem XY:tab Sy=some DF:=aF aH (k:=16) (by kernel_rfl)
theorem XT:tab Sr=some Dz:=aF aH (k:=17) (by kernel_rfl)
theorem XV:tab Ss=some DB:=aF aH (k:=18) (by kernel_rfl)
theorem XX:tab Sw=some DE:=aF aH (k:=19) (by kernel_rfl)
theorem XW:tab Su=some DC:=aF aH (k:=20) (by kernel_rfl)
theorem NY:tab Sv=some DD:=aF aH (k:=21) (by kernel_rfl)
theorem XZ:tab Sz=some DG:=aF aH (k:=22) (by kernel_rfl)
theorem Yb:tab SI=some DS:=aF aH (k:=23) (by kernel_rfl)
theorem X7:tab SD=some DO:=aF aH (k:=24) (by kernel_rfl)
theorem Ya:tab SH=some DR:=aF aH (k:=25) (by kernel_rfl)
theorem X9:tab SG=some DQ:=aF aH (k:=26) (by kernel_rfl)
theorem Yq:tab SY=some D7:=aF aH (k:=27) (by kernel_rfl)
theorem Yv:tab S7=some Ec:=aF aH (k:=28) (by kernel_rfl)
theorem X0:tab JA=some DH:=aF aH (k:=29) (by kernel_rfl)
theorem X1:tab JB=some DI:=aF aH (k:=30) (by kernel_rfl)
theorem X6:tab SC=some DN:=aF aH (k:=31) (by kernel_rfl)
theorem X8:tab SF=some DP:=aF aH (k:=32) (by kernel_rfl)
theorem Ye:tab SL=some DV:=aF aH (k:=33) (by kernel_rfl)
theorem X2:tab JC=some DJ:=aF aH (k:=34) (by kernel_rfl)
theorem X3:tab JD=some DK:=aF aH (k:=35) (by kernel_rfl)
theorem Yc:tab SJ=some DT:=aF aH (k:=36) (by kernel_rfl)
theorem Yf:tab SM=some DW:=aF aH (k:=37) (by kernel_rfl)
theorem Yd:tab SK=some DU:=aF aH (k:=38) (by kernel_rfl)
theorem XU:tab Jz=some DA:=aF aH (k:=39) (by kernel_rfl)
theorem XJ:tab Si=some Dq:=aF aH (k:=40) (by kernel_rfl)
theorem YJ:tab Tl=some Es:=aF aH (k:=41) (by kernel_rfl)
theorem YK:tab Tn=some Et:=aF aH (k:=42) (by kernel_rfl)
theorem YL:tab To=some Eu:=aF aH (k:=43) (by kernel_rfl)
theorem X5:tab SB=some DM:=aF aH (k:=44) (by kernel_rfl)
theorem XQ:tab So=some Dx:=aF aH (k:=45) (by kernel_rfl)
theorem XP:tab yK=some Dw:=aF aH (k:=46) (by kernel_rfl)
theorem XO:tab Sn=some Dv:=aF aH (k:=47) (by kernel_rfl)
theorem XM:tab Sl=some Dt:=aF aH (k:=48) (by kernel_rfl)
theorem XR:tab Sp=some Dy:=aF aH (k:=49) (by kernel_rfl)
theorem Yp:tab SX=some D6:=aF aH (k:=50) (by kernel_rfl)
theorem Yu:tab S6=some Eb:=aF aH (k:=51) (by kernel_rfl)
theorem XL:tab Sk=some Ds:=aF aH (k:=52) (by kernel_rfl)
theorem XK:tab Sj=some Dr:=aF aH (k:=53) (by kernel_rfl)
theorem XN:tab Sm=some Du:=aF aH (k:=54) (by kernel_rfl)
theorem Xm:tab RX=some Db:=aF aH (k:=55) (by kernel_rfl)
theorem Xo:tab RZ=some De:=aF aH (k:=56) (by kernel_rfl)
theorem Xn:tab RY=some Dc:=aF aH (k:=57) (by kernel_rfl)
theorem Xy:tab R8=some Dj:=aF aH (k:=58) (by kernel_rfl)
theorem Xf:tab RQ=some C6:=aF aH (k:=59) (by kernel_rfl)
theorem Xh:tab RS=some C8:=aF aH (k:=60) (by kernel_rfl)
theorem Xi:tab RT=some C9:=aF aH (k:=61) (by kernel_rfl)
theorem Yg:tab SN=some DX:=aF aH (k:=62) (by kernel_rfl)
theorem Yl:tab SS=some D2:=aF aH (k:=63) (by kernel_rfl)
theorem Yi:tab SP=some DZ:=aF aH (k:=64) (by kernel_rfl)
theorem Yj:tab SQ=some D0:=aF aH (k:=65) (by kernel_rfl)
theorem Yn:tab SV=some D4:=aF aH (k:=66) (by kernel_rfl)
theorem Yr:tab SZ=some D8:=aF aH (k:=67) (by kernel_rfl)
theorem X4:tab SA=some DL:=aF aH (k:=68) (by kernel_rfl)
theorem Yk:tab SR=some D1:=aF aH (k:=69) (by kernel_rfl)
theorem Yh:tab SO=some DY:=aF aH (k:=70) (by kernel_rfl)
theorem XG:tab Sf=some Dm:=aF aH (k:=71) (by kernel_rfl)
theorem Xp:tab R0=some Df:=aF aH (k:=72) (by kernel_rfl)
theorem Xr:tab R2=some Dh:=aF aH (k:=73) (by kernel_rfl)
theorem Xs:tab Jw=some Di:=aF aH (k:=74) (by kernel_rfl)
theorem Yo:tab SW=some D5:=aF aH (k:=75) (by kernel_rfl)
theorem Yt:tab S5=some Ea:=aF aH (k:=76) (by kernel_rfl)
theorem Xq:tab R1=some Dg:=aF aH (k:=77) (by kernel_rfl)
theorem XF:tab Se=some Dl:=aF aH (k:=78) (by kernel_rfl)
theorem XH:tab Sg=some Dn:=aF aH (k:=79) (by kernel_rfl)
theorem XI:tab Jy=some Dp:=aF aH (k:=80) (by kernel_rfl)
theorem Ys:tab S4=some D9:=aF aH (k:=81) (by kernel_rfl)
theorem Yw:tab S8=some Ed:=aF aH (k:=82) (by kernel_rfl)
theorem NZ:tab Th=some En:=aF aH (k:=83) (by kernel_rfl)
theorem YA:tab Tc=some Eh:=aF aH (k:=84) (by kernel_rfl)
theorem YD:tab Tf=some Ek:=aF aH (k:=85) (by kernel_rfl)
theorem YC:tab Te=some Ej:=aF aH (k:=86) (by kernel_rfl)
theorem Yy:tab Ta=some Ef:=aF aH (k:=87) (by kernel_rfl)
theorem YH:tab Tj=some Ep:=aF aH (k:=88) (by kernel_rfl)
theorem Yx:tab S9=some Ee:=aF aH (k:=89) (by kernel_rfl)
theorem YE:tab JE=some El:=aF aH (k:=90) (by kernel_rfl)
theorem YF:tab Tg=some Em:=aF aH (k:=91) (by kernel_rfl)
theorem YI:tab Tk=some Er:=aF aH (k:=92) (by kernel_rfl)
theorem YB:tab Td=some Ei:=aF aH (k:=93) (by kernel_rfl)
theorem Yz:tab Tb=some Eg:=aF aH (k:=94) (by kernel_rfl)
theorem YG:tab Ti=some Eo:=aF aH (k:=95) (by kernel_rfl)
theorem Ym:tab SU=some D3:=aF aH (k:=96) (by kernel_rfl)
theorem Xg:tab RR=some C7:=aF aH (k:=97) (by kernel_rfl)
theorem caps:∀f cs,ab Gy f=some cs→(jt cs.args cs.res=none→ab ah f=some ⟨cs.args++cs.caps,cs.res,.dat⟩)∧∀ys,jt cs.args cs.res=some ys→dH Kd f=false∧zY Tryd.prog f=true:=Oe (l:=Gy) (sig:=ah) (P:=Tryd.prog) (pcs:=Kd) (by kernel_rfl)
theorem clos:dg ctx:=⟨(fun f cs h=>(caps f cs h).1),fun f s h=>Wf (l:=ah) (P:=Tryd.prog) (by kernel_rfl) f s h⟩
theorem its:∀f cs ys,ctx.cap f=some cs→jt cs.args cs.res=some ys→tab f=none∧∃fn,ctx.P.funcs[f]?=some fn∧fn.body.isSome=true∧(fn.name== "runtime.NumGoroutine")=false:=fun f cs ys h hi=>⟨Rl (l:=yT) (by rw[UE];exact((caps f cs h).2 ys hi).1),anm ((caps f cs h).2 ys hi).2⟩
theorem anb:∀f pc,tab f=some pc→∃fn s ids fr nh,ctx.P.funcs[f]?=some fn∧ctx.sig f=some s∧aB {ctx with fr:=fr,nh:=nh} fn s ids=some pc:=
 yH (R:=fun f pc=>∃fn s ids fr nh,ctx.P.funcs[f]?=some fn∧ctx.sig f=some s∧aB {ctx with fr:=fr,nh:=nh} fn s ids=some pc) (l:=yT)
  (aG ⟨Tryd.f3,(ab ah 3).getD default,[4,6,7,15],[8,9,10,11,12,13,14,16,17,18],[],Tryd.func3,rfl,ZR⟩
  (aG ⟨Tryd.f4,(ab ah 4).getD default,[],[0,1,2,3,4,5,6,7],[],Tryd.func4,rfl,OA⟩
  (aG ⟨Tryd.f12,(ab ah 12).getD default,[9,26],[8,10,11,12,13],[],Tryd.func12,rfl,OB⟩
  (aG ⟨Tryd.f13,(ab ah 13).getD default,[5,8,4104,31,10,4106,12,14,16],[6,7,9,11,13,15,17],[],Tryd.func13,rfl,Ow⟩
  (aG ⟨Tryd.f17,(ab ah 17).getD default,[8,11,13,14],[6,10],[],Tryd.func17,rfl,Ou⟩
  (aG ⟨Tryd.f41,(ab ah 41).getD default,[],[6],[],Tryd.func41,rfl,Ox⟩
  (aG ⟨Tryd.f39,(ab ah 39).getD default,[900,901,902,903,904,13,16],[10,11,12,14,15,17],[],Tryd.func39,rfl,Oz⟩
  (aG ⟨Tryd.f58,(ab ah 58).getD default,[],[6,7,8,9,10],[],Tryd.func58,rfl,Oy⟩
  (aG ⟨Tryd.f75,(ab ah 75).getD default,[],[4,5,6,7,8,9,10,11,12,13],[],Tryd.func75,rfl,Oo⟩
  (aG ⟨Tryd.f76,(ab ah 76).getD default,[],[6,7,8,2,9,10,11,12,13,14,15,16,17,18],[],Tryd.func76,rfl,Ol⟩
  (aG ⟨Tryd.f91,(ab ah 91).getD default,[],[2],[],Tryd.func91,rfl,Om⟩
  (aG ⟨Tryd.f101,(ab ah 101).getD default,[],[2,0],[],Tryd.func101,rfl,On⟩
  (aG ⟨Tryd.f40,(ab ah 40).getD default,[900,901,902,903,904],[],[],Tryd.func40,rfl,Ov⟩
  (aG ⟨Tryd.f14,(ab ah 14).getD default,[7,9,11],[6,8],[],Tryd.func14,rfl,Oq⟩
  (aG ⟨Tryd.f15,(ab ah 15).getD default,[],[4,5],[],Tryd.func15,rfl,OC⟩
  (aG ⟨Tryd.f16,(ab ah 16).getD default,[9],[6,7],[],Tryd.func16,rfl,Ot⟩
  (aG ⟨Tryd.f5,(ab ah 5).getD default,[2,3],[4,5],[],Tryd.func5,rfl,aab⟩
  (aG ⟨Tryd.f18,(ab ah 18).getD default,[1],[2,3,4],[],Tryd.func18,rfl,Z5⟩
  (aG ⟨Tryd.f19,(ab ah 19).getD default,[1],[2],[],Tryd.func19,rfl,Z7⟩
  (aG ⟨Tryd.f20,(ab ah 20).getD default,[1],[2,3],[],Tryd.func20,rfl,aaa⟩
  (aG ⟨Tryd.f42,(ab ah 42).getD default,[1],[2],[],Tryd.func42,rfl,Z8⟩
  (aG ⟨Tryd.f59,(ab ah 59).getD default,[3],[6,1,7],[],Tryd.func59,rfl,Z9⟩
  (aG ⟨Tryd.f6,(ab ah 6).getD default,[1,9],[2,3,4,5,6,7,10,11,12],[],Tryd.func6,rfl,aag⟩
  (aG ⟨Tryd.f21,(ab ah 21).getD default,[1,2,3,4,6,16390,20486,24582,21,8,34,10,12298,16394,47],[],[],Tryd.func21,rfl,aao⟩
  (aG ⟨Tryd.f22,(ab ah 22).getD default,[],[6,7,8],[],Tryd.func22,rfl,aak⟩
  (aG ⟨Tryd.f43,(ab ah 43).getD default,[],[4],[],Tryd.func43,rfl,aan⟩
  (aG ⟨Tryd.f60,(ab ah 60).getD default,[],[2,3,4,5],[],Tryd.func60,rfl,aam⟩
  (aG ⟨Tryd.f61,(ab ah 61).getD default,[],[4],[],Tryd.func61,rfl,aaD⟩
  (aG ⟨Tryd.f77,(ab ah 77).getD default,[],[4,5],[],Tryd.func77,rfl,aaI⟩
  (aG ⟨Tryd.f23,(ab ah 23).getD default,[],[2],[],Tryd.func23,rfl,aac⟩
  (aG ⟨Tryd.f24,(ab ah 24).getD default,[],[3],[],Tryd.func24,rfl,aad⟩
  (aG ⟨Tryd.f25,(ab ah 25).getD default,[2,3],[4,6],[],Tryd.func25,rfl,aaj⟩
  (aG ⟨Tryd.f26,(ab ah 26).getD default,[],[4],[],Tryd.func26,rfl,aal⟩
  (aG ⟨Tryd.f44,(ab ah 44).getD default,[],[6,7,8],[],Tryd.func44,rfl,aar⟩
  (aG ⟨Tryd.f27,(ab ah 27).getD default,[],[3],[],Tryd.func27,rfl,aae⟩
  (aG ⟨Tryd.f28,(ab ah 28).getD default,[],[3],[],Tryd.func28,rfl,aaf⟩
  (aG ⟨Tryd.f29,(ab ah 29).getD default,[1,3,4,6,19,8,16392,36],[2],[],Tryd.func29,rfl,aap⟩
  (aG ⟨Tryd.f30,(ab ah 30).getD default,[1,4,6],[2,3],[],Tryd.func30,rfl,aas⟩
  (aG ⟨Tryd.f31,(ab ah 31).getD default,[1,4,6],[2],[],Tryd.func31,rfl,aaq⟩
  (aG ⟨Tryd.f7,(ab ah 7).getD default,[1],[2],[],Tryd.func7,rfl,Z6⟩
  (aG ⟨Tryd.f8,(ab ah 8).getD default,[2,3,10],[4,5,6,7,8,11],[],Tryd.func8,rfl,ZW⟩
  (aG ⟨Tryd.f32,(ab ah 32).getD default,[2,3],[4,5,6,7,8,54,80,109,118,9,10],[],Tryd.func32,rfl,aaX⟩
  (aG ⟨Tryd.f45,(ab ah 45).getD default,[],[4],[],Tryd.func45,rfl,aaY⟩
  (aG ⟨Tryd.f46,(ab ah 46).getD default,[1,3],[2,8,19,40],[],Tryd.func46,rfl,aaZ⟩
  (aG ⟨Tryd.f47,(ab ah 47).getD default,[3,9],[6,7],[],Tryd.func47,rfl,aai⟩
  (aG ⟨Tryd.f33,(ab ah 33).getD default,[3,4,7,11],[6,8,9,76,92,98],[],Tryd.func33,rfl,Z3⟩
  (aG ⟨Tryd.f34,(ab ah 34).getD default,[],[6],[],Tryd.func34,rfl,Z2⟩
  (aG ⟨Tryd.f48,(ab ah 48).getD default,[3,4,7,8],[6,9,10,66,103,113,11,140,149],[],Tryd.func48,rfl,Z1⟩
  (aG ⟨Tryd.f62,(ab ah 62).getD default,[3],[6,7],[],Tryd.func62,rfl,ZZ⟩
  (aG ⟨Tryd.f63,(ab ah 63).getD default,[3],[6],[],Tryd.func63,rfl,Z4⟩
  (aG ⟨Tryd.f67,(ab ah 67).getD default,[],[4],[],Tryd.func67,rfl,aaC⟩
  (aG ⟨Tryd.f83,(ab ah 83).getD default,[],[4,5],[],Tryd.func83,rfl,aaH⟩
  (aG ⟨Tryd.f35,(ab ah 35).getD default,[2,3,6],[4,5,7],[],Tryd.func35,rfl,ZY⟩
  (aG ⟨Tryd.f49,(ab ah 49).getD default,[3,4,5],[6,7,8,9,65,80,100,111],[],Tryd.func49,rfl,ZX⟩
  (aG ⟨Tryd.f36,(ab ah 36).getD default,[1,4,5],[2,3],[],Tryd.func36,rfl,Z0⟩
  (aG ⟨Tryd.f51,(ab ah 51).getD default,[],[4,5,6],[],Tryd.func51,rfl,ZJ⟩
  (aG ⟨Tryd.f64,(ab ah 64).getD default,[],[2],[],Tryd.func64,rfl,ZL⟩
  (aG ⟨Tryd.f50,(ab ah 50).getD default,[],[2,3,5],[],Tryd.func50,rfl,ZK⟩
  (aG ⟨Tryd.f9,(ab ah 9).getD default,[4,6,7,8,11],[9,10,12],[],Tryd.func9,rfl,ZQ⟩
  (aG ⟨Tryd.f11,(ab ah 11).getD default,[4,7,8,9],[10],[],Tryd.func11,rfl,ZD⟩
  (aG ⟨Tryd.f37,(ab ah 37).getD default,[4,7,8,10,16394],[9,11,12,13,14],[],Tryd.func37,rfl,ZF⟩
  (aG ⟨Tryd.f52,(ab ah 52).getD default,[2,3,4],[5],[],Tryd.func52,rfl,ZG⟩
  (aG ⟨Tryd.f65,(ab ah 65).getD default,[2,4,5,65541,69637,73733,77829,7,31,9,49,11,13],[],[],Tryd.func65,rfl,aat⟩
  (aG ⟨Tryd.f78,(ab ah 78).getD default,[],[4],[],Tryd.func78,rfl,aay⟩
  (aG ⟨Tryd.f66,(ab ah 66).getD default,[2,3,5,6,8,10,90,139],[4,7,9,11,12,13,14,15,16],[],Tryd.func66,rfl,aaw⟩
  (aG ⟨Tryd.f80,(ab ah 80).getD default,[2],[3],[],Tryd.func80,rfl,aav⟩
  (aG ⟨Tryd.f79,(ab ah 79).getD default,[],[4],[],Tryd.func79,rfl,aaA⟩
  (aG ⟨Tryd.f92,(ab ah 92).getD default,[],[4,5],[],Tryd.func92,rfl,aaE⟩
  (aG ⟨Tryd.f68,(ab ah 68).getD default,[2],[4],[],Tryd.func68,rfl,aah⟩
  (aG ⟨Tryd.f81,(ab ah 81).getD default,[2],[],[],Tryd.func81,rfl,aax⟩
  (aG ⟨Tryd.f82,(ab ah 82).getD default,[3,6,8],[],[],Tryd.func82,rfl,aau⟩
  (aG ⟨Tryd.f53,(ab ah 53).getD default,[],[2,3,4,11],[],Tryd.func53,rfl,ZT⟩
  (aG ⟨Tryd.f55,(ab ah 55).getD default,[4,10,53],[8,9,11,12,13,14,55,70],[],Tryd.func55,rfl,ZM⟩
  (aG ⟨Tryd.f69,(ab ah 69).getD default,[4,9],[8],[],Tryd.func69,rfl,ZP⟩
  (aG ⟨Tryd.f85,(ab ah 85).getD default,[],[3],[],Tryd.func85,rfl,ZO⟩
  (aG ⟨Tryd.f84,(ab ah 84).getD default,[],[4],[],Tryd.func84,rfl,aaB⟩
  (aG ⟨Tryd.f93,(ab ah 93).getD default,[],[4,5],[],Tryd.func93,rfl,aaG⟩
  (aG ⟨Tryd.f70,(ab ah 70).getD default,[4,11],[8,9],[],Tryd.func70,rfl,ZN⟩
  (aG ⟨Tryd.f38,(ab ah 38).getD default,[3,6,8,10],[7,9,11,12],[],Tryd.func38,rfl,ZS⟩
  (aG ⟨Tryd.f56,(ab ah 56).getD default,[2,3,4,12292,9],[5,6,7,8,10,11],[],Tryd.func56,rfl,ZV⟩
  (aG ⟨Tryd.f72,(ab ah 72).getD default,[2],[3],[],Tryd.func72,rfl,ZU⟩
  (aG ⟨Tryd.f71,(ab ah 71).getD default,[],[4,5],[],Tryd.func71,rfl,aaF⟩
  (aG ⟨Tryd.f73,(ab ah 73).getD default,[1],[2,3],[],Tryd.func73,rfl,aaJ⟩
  (aG ⟨Tryd.f86,(ab ah 86).getD default,[2,7,12295],[4,5],[],Tryd.func86,rfl,aaT⟩
  (aG ⟨Tryd.f87,(ab ah 87).getD default,[1,4,6,12294,9],[2,3,5,7,8,38,47,10,11,12],[],Tryd.func87,rfl,aaN⟩
  (aG ⟨Tryd.f94,(ab ah 94).getD default,[1],[2,3,12,20,4,5],[],Tryd.func94,rfl,aaQ⟩
  (aG ⟨Tryd.f98,(ab ah 98).getD default,[],[2],[],Tryd.func98,rfl,aaP⟩
  (aG ⟨Tryd.f96,(ab ah 96).getD default,[],[2,3,4,11],[],Tryd.func96,rfl,aaL⟩
  (aG ⟨Tryd.f95,(ab ah 95).getD default,[2],[4,8,13,17,21],[],Tryd.func95,rfl,aaV⟩
  (aG ⟨Tryd.f57,(ab ah 57).getD default,[2,4,7],[5,6,8],[],Tryd.func57,rfl,aaK⟩
  (aG ⟨Tryd.f74,(ab ah 74).getD default,[2,3,4,6,33,7,8,10,12298,12],[5,15,21,9,11],[],Tryd.func74,rfl,aaR⟩
  (aG ⟨Tryd.f88,(ab ah 88).getD default,[2,4],[5,6],[],Tryd.func88,rfl,aaS⟩
  (aG ⟨Tryd.f97,(ab ah 97).getD default,[2],[],[],Tryd.func97,rfl,aaW⟩
  (aG ⟨Tryd.f89,(ab ah 89).getD default,[4,5],[9,22,41,6,7,82,88,94],[],Tryd.func89,rfl,aaO⟩
  (aG ⟨Tryd.f99,(ab ah 99).getD default,[],[6,8,14,20,25],[],Tryd.func99,rfl,aaM⟩
  (aG ⟨Tryd.f102,(ab ah 102).getD default,[],[4,5,6,7],[],Tryd.func102,rfl,aaU⟩
  (aG ⟨Tryd.f90,(ab ah 90).getD default,[6],[2,3,5,8],[],Tryd.func90,rfl,aaz⟩
  (aG ⟨Tryd.f10,(ab ah 10).getD default,[1],[2],[],Tryd.func10,rfl,ZE⟩
  trivial))))))))))))))))))))))))))))))))))))))))))))))))))))))))))))))))))))))))))))))))))))))))))))))))))
end Rm
