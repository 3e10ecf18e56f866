/-
  Shared texts of this claim.
-/
import Derived.Test.YtkhkejmimnklfaaGreatDoorKAL
import Derived.Test.YtkhkejmimnklfaaGreatDoorKAM
import Derived.Test.YtkhkejmimnklfaaGreatDoorKAN
import Derived.Test.YtkhkejmimnklfaaGreatDoorKAK
import Derived.Test.YtkhkejmimnklfaaGreatDoorKAJ
import Derived.WalkKit
import Derived.WalkSpells
import Derived.Lib.SliceRun
import Derived.Lib.AppendZeros
import Derived.Laws.Strings
import Derived.Lib.Mul64
set_option linter.unusedVariables false
set_option maxRecDepth 100000
namespace Rm
open Go Go.Proofs Cx
def QD:List Nat:=[9,40,104,105,172,173,215,216,217,106,42,26,77,107,174,46,24,74,75,27,79,78,141,28,82,80,81,88,85,144,29,83,143,142,191,84,31,86,146,145,147,192,193,235,239,237,236,87,148,194,238,195,240,261,224,196,39,34,44,92,154,91,51,116,117,181,227,228,257,118,119,120,182,121,122,123,124,125,149,150,151,152,197,242,111,179,263,283,262,132,153,198,199,243,112,175,218,254,220,219,221,255,108,176,222,223,225,256,272,109,177,41,50,113,114,115,180,226,52,21,64,130,131,65,66,133,184,185,67,134,68,62,127,61]
noncomputable def Cn:List (Nat×PC):=[(9,It),(40,Iw),(104,Iu),(105,HN),(172,HR),(173,IZ),(215,I0),(216,I1),(217,I2),(106,Ix),(42,HM),(26,Jk),(77,Jq),(107,HZ),(174,H2),(46,HT),(24,HS),(74,HX),(75,HY),(27,Jn),(79,Jo),(78,Js),(141,Jw),(28,I8),(82,Jc),(80,Jp),(81,Jl),(88,IC),(85,Ju),(144,Jz),(29,Ip),(83,Ir),(143,Is),(142,Jt),(191,Jy),(84,Iq),(31,IB),(86,ID),(146,IE),(145,Jx),(147,JK),(192,JU),(193,JO),(235,JR),(239,JQ),(237,JM),(236,JW),(87,JL),(148,JS),(194,JT),(238,JX),(195,JP),(240,JN),(261,JV),(224,H9),(196,Jr),(39,HW),(34,HU),(44,HV),(92,Jm),(154,JB),(91,JC),(51,I3),(116,Jf),(117,Jb),(181,Je),(227,Jd),(228,Jv),(257,JA),(118,I4),(119,I5),(120,Ja),(182,Ji),(121,I6),(122,I7),(123,Jg),(124,Jj),(125,Jh),(149,JG),(150,JH),(151,JD),(152,JF),(197,JE),(242,Ia),(111,Ij),(179,Ie),(263,Ig),(283,Ih),(262,Ib),(132,I9),(153,JI),(198,JJ),(199,Ic),(243,If),(112,Ii),(175,H3),(218,JY),(254,JZ),(220,H4),(219,H0),(221,H5),(255,IG),(108,HP),(176,Iy),(222,IA),(223,Iz),(225,H6),(256,H7),(272,H8),(109,HO),(177,HQ),(41,Iv),(50,IY),(113,IS),(114,IU),(115,IX),(180,IV),(226,IW),(52,IT),(21,IF),(64,J0),(130,J1),(131,J2),(65,IP),(66,IN),(133,IM),(184,IK),(185,IQ),(67,IJ),(134,II),(68,IL),(62,Ik),(127,Io),(61,Il)]
noncomputable def tab:Nat→Option PC:=ab Cn
theorem adm:Cn.map (·.1)=QD:=by kernel_rfl
theorem aF:(Cn.map (·.1)).Nodup:=by rw[adm];exact lS (by kernel_rfl)
theorem agZ:tab Z4=some It:=aD aF (k:=0) (by kernel_rfl)
theorem ag2:tab Z7=some Iw:=aD aF (k:=1) (by kernel_rfl)
theorem ag0:tab Z5=some Iu:=aD aF (k:=2) (by kernel_rfl)
theorem agq:tab Zv=some HN:=aD aF (k:=3) (by kernel_rfl)
theorem agu:tab Zz=some HR:=aD aF (k:=4) (by kernel_rfl)
theorem Vq:tab PM=some IZ:=aD aF (k:=5) (by kernel_rfl)
theorem ahr:tab aau=some I0:=aD aF (k:=6) (by kernel_rfl)
theorem ahs:tab aav=some I1:=aD aF (k:=7) (by kernel_rfl)
theorem aht:tab aaw=some I2:=aD aF (k:=8) (by kernel_rfl)
theorem ag3:tab Z8=some Ix:=aD aF (k:=9) (by kernel_rfl)
theorem agp:tab PD=some HM:=aD aF (k:=10) (by kernel_rfl)
theorem ahK:tab aaJ=some Jk:=aD aF (k:=11) (by kernel_rfl)
theorem ahQ:tab aaP=some Jq:=aD aF (k:=12) (by kernel_rfl)
theorem agC:tab ZG=some HZ:=aD aF (k:=13) (by kernel_rfl)
theorem agE:tab ZH=some H2:=aD aF (k:=14) (by kernel_rfl)
theorem agw:tab ZA=some HT:=aD aF (k:=15) (by kernel_rfl)
theorem agv:tab PF=some HS:=aD aF (k:=16) (by kernel_rfl)
theorem agA:tab ZE=some HX:=aD aF (k:=17) (by kernel_rfl)
theorem agB:tab ZF=some HY:=aD aF (k:=18) (by kernel_rfl)
theorem ahN:tab aaM=some Jn:=aD aF (k:=19) (by kernel_rfl)
theorem ahO:tab aaN=some Jo:=aD aF (k:=20) (by kernel_rfl)
theorem ahS:tab aaR=some Js:=aD aF (k:=21) (by kernel_rfl)
theorem ahW:tab aaV=some Jw:=aD aF (k:=22) (by kernel_rfl)
theorem ahz:tab aay=some I8:=aD aF (k:=23) (by kernel_rfl)
theorem ahC:tab aaB=some Jc:=aD aF (k:=24) (by kernel_rfl)
theorem ahP:tab aaO=some Jp:=aD aF (k:=25) (by kernel_rfl)
theorem ahL:tab aaK=some Jl:=aD aF (k:=26) (by kernel_rfl)
theorem ag8:tab aad=some IC:=aD aF (k:=27) (by kernel_rfl)
theorem ahU:tab aaT=some Ju:=aD aF (k:=28) (by kernel_rfl)
theorem ahZ:tab aaY=some Jz:=aD aF (k:=29) (by kernel_rfl)
theorem agV:tab Z1=some Ip:=aD aF (k:=30) (by kernel_rfl)
theorem agX:tab Z3=some Ir:=aD aF (k:=31) (by kernel_rfl)
theorem agY:tab PJ=some Is:=aD aF (k:=32) (by kernel_rfl)
theorem ahT:tab aaS=some Jt:=aD aF (k:=33) (by kernel_rfl)
theorem ahY:tab aaX=some Jy:=aD aF (k:=34) (by kernel_rfl)
theorem agW:tab Z2=some Iq:=aD aF (k:=35) (by kernel_rfl)
theorem ag7:tab aac=some IB:=aD aF (k:=36) (by kernel_rfl)
theorem ag9:tab aae=some ID:=aD aF (k:=37) (by kernel_rfl)
theorem aha:tab PK=some IE:=aD aF (k:=38) (by kernel_rfl)
theorem ahX:tab aaW=some Jx:=aD aF (k:=39) (by kernel_rfl)
theorem ah7:tab aa4=some JK:=aD aF (k:=40) (by kernel_rfl)
theorem Vs:tab abd=some JU:=aD aF (k:=41) (by kernel_rfl)
theorem aib:tab aa8=some JO:=aD aF (k:=42) (by kernel_rfl)
theorem aie:tab abb=some JR:=aD aF (k:=43) (by kernel_rfl)
theorem aid:tab aba=some JQ:=aD aF (k:=44) (by kernel_rfl)
theorem ah9:tab aa6=some JM:=aD aF (k:=45) (by kernel_rfl)
theorem aij:tab abf=some JW:=aD aF (k:=46) (by kernel_rfl)
theorem ah8:tab aa5=some JL:=aD aF (k:=47) (by kernel_rfl)
theorem aif:tab PU=some JS:=aD aF (k:=48) (by kernel_rfl)
theorem aih:tab abc=some JT:=aD aF (k:=49) (by kernel_rfl)
theorem aik:tab abg=some JX:=aD aF (k:=50) (by kernel_rfl)
theorem aic:tab aa9=some JP:=aD aF (k:=51) (by kernel_rfl)
theorem aia:tab aa7=some JN:=aD aF (k:=52) (by kernel_rfl)
theorem aii:tab abe=some JV:=aD aF (k:=53) (by kernel_rfl)
theorem agL:tab ZO=some H9:=aD aF (k:=54) (by kernel_rfl)
theorem ahR:tab aaQ=some Jr:=aD aF (k:=55) (by kernel_rfl)
theorem agz:tab ZD=some HW:=aD aF (k:=56) (by kernel_rfl)
theorem agx:tab ZB=some HU:=aD aF (k:=57) (by kernel_rfl)
theorem agy:tab ZC=some HV:=aD aF (k:=58) (by kernel_rfl)
theorem ahM:tab aaL=some Jm:=aD aF (k:=59) (by kernel_rfl)
theorem ah1:tab aa0=some JB:=aD aF (k:=60) (by kernel_rfl)
theorem Mc:tab Cb=some JC:=aD aF (k:=61) (by kernel_rfl)
theorem ahu:tab aax=some I3:=aD aF (k:=62) (by kernel_rfl)
theorem ahF:tab aaE=some Jf:=aD aF (k:=63) (by kernel_rfl)
theorem ahB:tab aaA=some Jb:=aD aF (k:=64) (by kernel_rfl)
theorem ahE:tab aaD=some Je:=aD aF (k:=65) (by kernel_rfl)
theorem ahD:tab aaC=some Jd:=aD aF (k:=66) (by kernel_rfl)
theorem ahV:tab aaU=some Jv:=aD aF (k:=67) (by kernel_rfl)
theorem ah0:tab aaZ=some JA:=aD aF (k:=68) (by kernel_rfl)
theorem ahv:tab PN=some I4:=aD aF (k:=69) (by kernel_rfl)
theorem ahw:tab PO=some I5:=aD aF (k:=70) (by kernel_rfl)
theorem ahA:tab aaz=some Ja:=aD aF (k:=71) (by kernel_rfl)
theorem ahI:tab aaH=some Ji:=aD aF (k:=72) (by kernel_rfl)
theorem ahx:tab PQ=some I6:=aD aF (k:=73) (by kernel_rfl)
theorem ahy:tab PR=some I7:=aD aF (k:=74) (by kernel_rfl)
theorem ahG:tab aaF=some Jg:=aD aF (k:=75) (by kernel_rfl)
theorem ahJ:tab aaI=some Jj:=aD aF (k:=76) (by kernel_rfl)
theorem ahH:tab aaG=some Jh:=aD aF (k:=77) (by kernel_rfl)
theorem ah3:tab aa2=some JG:=aD aF (k:=78) (by kernel_rfl)
theorem ah4:tab Hn=some JH:=aD aF (k:=79) (by kernel_rfl)
theorem ah2:tab aa1=some JD:=aD aF (k:=80) (by kernel_rfl)
theorem tI:tab xG=some JF:=aD aF (k:=81) (by kernel_rfl)
theorem D2:tab PS=some JE:=aD aF (k:=82) (by kernel_rfl)
theorem Vn:tab ZP=some Ia:=aD aF (k:=83) (by kernel_rfl)
theorem agR:tab ZX=some Ij:=aD aF (k:=84) (by kernel_rfl)
theorem agN:tab ZS=some Ie:=aD aF (k:=85) (by kernel_rfl)
theorem agP:tab ZV=some Ig:=aD aF (k:=86) (by kernel_rfl)
theorem Vo:tab PH=some Ih:=aD aF (k:=87) (by kernel_rfl)
theorem D1:tab ZQ=some Ib:=aD aF (k:=88) (by kernel_rfl)
theorem Vr:tab Hm=some I9:=aD aF (k:=89) (by kernel_rfl)
theorem ah5:tab Ho=some JI:=aD aF (k:=90) (by kernel_rfl)
theorem ah6:tab aa3=some JJ:=aD aF (k:=91) (by kernel_rfl)
theorem agM:tab ZR=some Ic:=aD aF (k:=92) (by kernel_rfl)
theorem agO:tab ZT=some If:=aD aF (k:=93) (by kernel_rfl)
theorem agQ:tab ZW=some Ii:=aD aF (k:=94) (by kernel_rfl)
theorem agF:tab ZI=some H3:=aD aF (k:=95) (by kernel_rfl)
theorem ail:tab abh=some JY:=aD aF (k:=96) (by kernel_rfl)
theorem aim:tab abi=some JZ:=aD aF (k:=97) (by kernel_rfl)
theorem agG:tab ZJ=some H4:=aD aF (k:=98) (by kernel_rfl)
theorem agD:tab PG=some H0:=aD aF (k:=99) (by kernel_rfl)
theorem agH:tab ZK=some H5:=aD aF (k:=100) (by kernel_rfl)
theorem ahc:tab aag=some IG:=aD aF (k:=101) (by kernel_rfl)
theorem ags:tab Zx=some HP:=aD aF (k:=102) (by kernel_rfl)
theorem ag4:tab Z9=some Iy:=aD aF (k:=103) (by kernel_rfl)
theorem ag6:tab aab=some IA:=aD aF (k:=104) (by kernel_rfl)
theorem ag5:tab aaa=some Iz:=aD aF (k:=105) (by kernel_rfl)
theorem agI:tab ZL=some H6:=aD aF (k:=106) (by kernel_rfl)
theorem agJ:tab ZM=some H7:=aD aF (k:=107) (by kernel_rfl)
theorem agK:tab ZN=some H8:=aD aF (k:=108) (by kernel_rfl)
theorem agr:tab Zw=some HO:=aD aF (k:=109) (by kernel_rfl)
theorem agt:tab Zy=some HQ:=aD aF (k:=110) (by kernel_rfl)
theorem ag1:tab Z6=some Iv:=aD aF (k:=111) (by kernel_rfl)
theorem ahq:tab aat=some IY:=aD aF (k:=112) (by kernel_rfl)
theorem ahl:tab aao=some IS:=aD aF (k:=113) (by kernel_rfl)
theorem ahn:tab aap=some IU:=aD aF (k:=114) (by kernel_rfl)
theorem ahp:tab aas=some IX:=aD aF (k:=115) (by kernel_rfl)
theorem aho:tab aaq=some IV:=aD aF (k:=116) (by kernel_rfl)
theorem Vp:tab aar=some IW:=aD aF (k:=117) (by kernel_rfl)
theorem ahm:tab PL=some IT:=aD aF (k:=118) (by kernel_rfl)
theorem ahb:tab aaf=some IF:=aD aF (k:=119) (by kernel_rfl)
theorem ain:tab abj=some J0:=aD aF (k:=120) (by kernel_rfl)
theorem aio:tab abk=some J1:=aD aF (k:=121) (by kernel_rfl)
theorem aip:tab abl=some J2:=aD aF (k:=122) (by kernel_rfl)
theorem ahj:tab aam=some IP:=aD aF (k:=123) (by kernel_rfl)
theorem ahi:tab Ca=some IN:=aD aF (k:=124) (by kernel_rfl)
theorem ahh:tab aal=some IM:=aD aF (k:=125) (by kernel_rfl)
theorem ahf:tab aaj=some IK:=aD aF (k:=126) (by kernel_rfl)
theorem ahk:tab aan=some IQ:=aD aF (k:=127) (by kernel_rfl)
theorem ahe:tab aai=some IJ:=aD aF (k:=128) (by kernel_rfl)
theorem ahd:tab aah=some II:=aD aF (k:=129) (by kernel_rfl)
theorem ahg:tab aak=some IL:=aD aF (k:=130) (by kernel_rfl)
theorem agS:tab ZY=some Ik:=aD aF (k:=131) (by kernel_rfl)
theorem agU:tab Z0=some Io:=aD aF (k:=132) (by kernel_rfl)
theorem agT:tab ZZ=some Il:=aD aF (k:=133) (by kernel_rfl)
theorem caps:∀f cs,ab MT f=some cs→(ku cs.args cs.res=none→ab af f=some ⟨cs.args++cs.caps,cs.res,.dat⟩)∧∀ys,ku cs.args cs.res=some ys→eE QD f=false∧DA Tryz.prog f=true:=VI (l:=MT) (sig:=af) (P:=Tryz.prog) (pcs:=QD) (by kernel_rfl)
theorem clos:dq ctx:=⟨(fun f cs h=>(caps f cs h).1),fun f s h=>afc (l:=af) (P:=Tryz.prog) (by kernel_rfl) f s h⟩
theorem its:∀f cs ys,ctx.cap f=some cs→ku cs.args cs.res=some ys→tab f=none∧∃fn,ctx.P.funcs[f]?=some fn∧fn.body.isSome=true∧(fn.name== "runtime.NumGoroutine")=false:=fun f cs ys h hi=>⟨YN (l:=Cn) (by rw[adm];exact((caps f cs h).2 ys hi).1),axB ((caps f cs h).2 ys hi).2⟩
theorem axp:∀f pc,tab f=some pc→∃fn s ids fr nh,ctx.P.funcs[f]?=some fn∧ctx.sig f=some s∧ay {ctx with fr:=fr,nh:=nh} fn s ids=some pc:=
 Pt (R:=fun f pc=>∃fn s ids fr nh,ctx.P.funcs[f]?=some fn∧ctx.sig f=some s∧ay {ctx with fr:=fr,nh:=nh} fn s ids=some pc) (l:=Cn)
  (aE ⟨Tryz.f9,(ab af 9).getD default,[6,8,14,15,28687,16],[12,13],[],Tryz.func9,rfl,ajy⟩
  (aE ⟨Tryz.f40,(ab af 40).getD default,[1,2,3],[0,4,6,7,8],[],Tryz.func40,rfl,ajB⟩
  (aE ⟨Tryz.f104,(ab af 104).getD default,[4,5,6,20486,24582,28678,32774,7,65543,69639,73735,77831],[],[],Tryz.func104,rfl,ajz⟩
  (aE ⟨Tryz.f105,(ab af 105).getD default,[4,8,14],[9,10,11,12,13,15],[],Tryz.func105,rfl,aiT⟩
  (aE ⟨Tryz.f172,(ab af 172).getD default,[11],[8,9,10],[],Tryz.func172,rfl,aiX⟩
  (aE ⟨Tryz.f173,(ab af 173).getD default,[4],[5,6,7,8],[],Tryz.func173,rfl,aj1⟩
  (aE ⟨Tryz.f215,(ab af 215).getD default,[],[2],[],Tryz.func215,rfl,aj2⟩
  (aE ⟨Tryz.f216,(ab af 216).getD default,[],[4,0,1],[],Tryz.func216,rfl,aj3⟩
  (aE ⟨Tryz.f217,(ab af 217).getD default,[4,5,6],[7,8],[],Tryz.func217,rfl,aj4⟩
  (aE ⟨Tryz.f106,(ab af 106).getD default,[7,9,10],[8],[],Tryz.func106,rfl,ajC⟩
  (aE ⟨Tryz.f42,(ab af 42).getD default,[5,7,10,11,12,14,17,20],[13,15,16,18],[],Tryz.func42,rfl,aiS⟩
  (aE ⟨Tryz.f26,(ab af 26).getD default,[2,4,5,65541,69637,73733,77829,7,31,9,49,11,13],[],[],Tryz.func26,rfl,akm⟩
  (aE ⟨Tryz.f77,(ab af 77).getD default,[],[4],[],Tryz.func77,rfl,aks⟩
  (aE ⟨Tryz.f107,(ab af 107).getD default,[5,7,10,12],[11],[],Tryz.func107,rfl,ai7⟩
  (aE ⟨Tryz.f174,(ab af 174).getD default,[4,6,8,9],[],[],Tryz.func174,rfl,ai9⟩
  (aE ⟨Tryz.f46,(ab af 46).getD default,[5,8,77832,10],[],[],Tryz.func46,rfl,aiZ⟩
  (aE ⟨Tryz.f24,(ab af 24).getD default,[4,7,8,9],[10],[],Tryz.func24,rfl,aiY⟩
  (aE ⟨Tryz.f74,(ab af 74).getD default,[4,7,8,10,16394],[9,11,12,13,14],[],Tryz.func74,rfl,ai3⟩
  (aE ⟨Tryz.f75,(ab af 75).getD default,[2,3,4],[5],[],Tryz.func75,rfl,ai4⟩
  (aE ⟨Tryz.f27,(ab af 27).getD default,[2,3,5,6,8,10,90,139],[4,7,9,11,12,13,14,15,16],[],Tryz.func27,rfl,akq⟩
  (aE ⟨Tryz.f79,(ab af 79).getD default,[2],[3],[],Tryz.func79,rfl,akp⟩
  (aE ⟨Tryz.f78,(ab af 78).getD default,[],[4],[],Tryz.func78,rfl,aku⟩
  (aE ⟨Tryz.f141,(ab af 141).getD default,[],[4,5],[],Tryz.func141,rfl,aky⟩
  (aE ⟨Tryz.f28,(ab af 28).getD default,[2],[4],[],Tryz.func28,rfl,aka⟩
  (aE ⟨Tryz.f82,(ab af 82).getD default,[],[4],[],Tryz.func82,rfl,ake⟩
  (aE ⟨Tryz.f80,(ab af 80).getD default,[2],[],[],Tryz.func80,rfl,akr⟩
  (aE ⟨Tryz.f81,(ab af 81).getD default,[3,6,8],[],[],Tryz.func81,rfl,akn⟩
  (aE ⟨Tryz.f88,(ab af 88).getD default,[],[2,3,4,11],[],Tryz.func88,rfl,ajH⟩
  (aE ⟨Tryz.f85,(ab af 85).getD default,[],[4],[],Tryz.func85,rfl,akw⟩
  (aE ⟨Tryz.f144,(ab af 144).getD default,[],[4,5],[],Tryz.func144,rfl,akB⟩
  (aE ⟨Tryz.f29,(ab af 29).getD default,[4,10,53],[8,9,11,12,13,14,55,70],[],Tryz.func29,rfl,aju⟩
  (aE ⟨Tryz.f83,(ab af 83).getD default,[4,9],[8],[],Tryz.func83,rfl,ajx⟩
  (aE ⟨Tryz.f143,(ab af 143).getD default,[],[3],[],Tryz.func143,rfl,ajw⟩
  (aE ⟨Tryz.f142,(ab af 142).getD default,[],[4],[],Tryz.func142,rfl,akv⟩
  (aE ⟨Tryz.f191,(ab af 191).getD default,[],[4,5],[],Tryz.func191,rfl,akA⟩
  (aE ⟨Tryz.f84,(ab af 84).getD default,[4,11],[8,9],[],Tryz.func84,rfl,ajv⟩
  (aE ⟨Tryz.f31,(ab af 31).getD default,[3,6,8,10],[7,9,11,12],[],Tryz.func31,rfl,ajG⟩
  (aE ⟨Tryz.f86,(ab af 86).getD default,[2,3,4,12292,9],[5,6,7,8,10,11],[],Tryz.func86,rfl,ajJ⟩
  (aE ⟨Tryz.f146,(ab af 146).getD default,[2],[3],[],Tryz.func146,rfl,ajI⟩
  (aE ⟨Tryz.f145,(ab af 145).getD default,[],[4,5],[],Tryz.func145,rfl,akz⟩
  (aE ⟨Tryz.f147,(ab af 147).getD default,[1],[2,3],[],Tryz.func147,rfl,akM⟩
  (aE ⟨Tryz.f192,(ab af 192).getD default,[2,7,12295],[4,5],[],Tryz.func192,rfl,akW⟩
  (aE ⟨Tryz.f193,(ab af 193).getD default,[1,4,6,12294,9],[2,3,5,7,8,38,47,10,11,12],[],Tryz.func193,rfl,akQ⟩
  (aE ⟨Tryz.f235,(ab af 235).getD default,[1],[2,3,12,20,4,5],[],Tryz.func235,rfl,akT⟩
  (aE ⟨Tryz.f239,(ab af 239).getD default,[],[2],[],Tryz.func239,rfl,akS⟩
  (aE ⟨Tryz.f237,(ab af 237).getD default,[],[2,3,4,11],[],Tryz.func237,rfl,akO⟩
  (aE ⟨Tryz.f236,(ab af 236).getD default,[2],[4,8,13,17,21],[],Tryz.func236,rfl,akY⟩
  (aE ⟨Tryz.f87,(ab af 87).getD default,[2,4,7],[5,6,8],[],Tryz.func87,rfl,akN⟩
  (aE ⟨Tryz.f148,(ab af 148).getD default,[2,3,4,6,33,7,8,10,12298,12],[5,15,21,9,11],[],Tryz.func148,rfl,akU⟩
  (aE ⟨Tryz.f194,(ab af 194).getD default,[2,4],[5,6],[],Tryz.func194,rfl,akV⟩
  (aE ⟨Tryz.f238,(ab af 238).getD default,[2],[],[],Tryz.func238,rfl,akZ⟩
  (aE ⟨Tryz.f195,(ab af 195).getD default,[4,5],[9,22,41,6,7,82,88,94],[],Tryz.func195,rfl,akR⟩
  (aE ⟨Tryz.f240,(ab af 240).getD default,[],[6,8,14,20,25],[],Tryz.func240,rfl,akP⟩
  (aE ⟨Tryz.f261,(ab af 261).getD default,[],[4,5,6,7],[],Tryz.func261,rfl,akX⟩
  (aE ⟨Tryz.f224,(ab af 224).getD default,[],[4,5,6,7,8,9,10,11,12,13],[],Tryz.func224,rfl,ajg⟩
  (aE ⟨Tryz.f196,(ab af 196).getD default,[6],[2,3,5,8],[],Tryz.func196,rfl,akt⟩
  (aE ⟨Tryz.f39,(ab af 39).getD default,[1],[2,3,7,12],[],Tryz.func39,rfl,ai2⟩
  (aE ⟨Tryz.f34,(ab af 34).getD default,[4,6],[8,9,10,11],[],Tryz.func34,rfl,ai0⟩
  (aE ⟨Tryz.f44,(ab af 44).getD default,[1],[2],[],Tryz.func44,rfl,ai1⟩
  (aE ⟨Tryz.f92,(ab af 92).getD default,[1,3,6,8],[2,4],[],Tryz.func92,rfl,ako⟩
  (aE ⟨Tryz.f154,(ab af 154).getD default,[],[2,3,4],[],Tryz.func154,rfl,akD⟩
  (aE ⟨Tryz.f91,(ab af 91).getD default,[4,5,10],[8,9,15,39,58,74,11,12],[],Tryz.func91,rfl,akE⟩
  (aE ⟨Tryz.f51,(ab af 51).getD default,[1,9],[2,3,4,5,6,7,10,11,12],[],Tryz.func51,rfl,aj9⟩
  (aE ⟨Tryz.f116,(ab af 116).getD default,[1,2,3,4,6,16390,20486,24582,21,8,34,10,12298,16394,47],[],[],Tryz.func116,rfl,akh⟩
  (aE ⟨Tryz.f117,(ab af 117).getD default,[],[6,7,8],[],Tryz.func117,rfl,akd⟩
  (aE ⟨Tryz.f181,(ab af 181).getD default,[],[4],[],Tryz.func181,rfl,akg⟩
  (aE ⟨Tryz.f227,(ab af 227).getD default,[],[2,3,4,5],[],Tryz.func227,rfl,akf⟩
  (aE ⟨Tryz.f228,(ab af 228).getD default,[],[4],[],Tryz.func228,rfl,akx⟩
  (aE ⟨Tryz.f257,(ab af 257).getD default,[],[4,5],[],Tryz.func257,rfl,akC⟩
  (aE ⟨Tryz.f118,(ab af 118).getD default,[],[2],[],Tryz.func118,rfl,aj5⟩
  (aE ⟨Tryz.f119,(ab af 119).getD default,[],[3],[],Tryz.func119,rfl,aj6⟩
  (aE ⟨Tryz.f120,(ab af 120).getD default,[2,3],[4,6],[],Tryz.func120,rfl,akc⟩
  (aE ⟨Tryz.f182,(ab af 182).getD default,[],[6,7,8],[],Tryz.func182,rfl,akk⟩
  (aE ⟨Tryz.f121,(ab af 121).getD default,[],[3],[],Tryz.func121,rfl,aj7⟩
  (aE ⟨Tryz.f122,(ab af 122).getD default,[],[3],[],Tryz.func122,rfl,aj8⟩
  (aE ⟨Tryz.f123,(ab af 123).getD default,[1,3,4,6,19,8,16392,36],[2],[],Tryz.func123,rfl,aki⟩
  (aE ⟨Tryz.f124,(ab af 124).getD default,[1,4,6],[2,3],[],Tryz.func124,rfl,akl⟩
  (aE ⟨Tryz.f125,(ab af 125).getD default,[1,4,6],[2],[],Tryz.func125,rfl,akj⟩
  (aE ⟨Tryz.f149,(ab af 149).getD default,[2],[4],[],Tryz.func149,rfl,akI⟩
  (aE ⟨Tryz.f150,(ab af 150).getD default,[],[2],[],Tryz.func150,rfl,akJ⟩
  (aE ⟨Tryz.f151,(ab af 151).getD default,[1],[2],[],Tryz.func151,rfl,akF⟩
  (aE ⟨Tryz.f152,(ab af 152).getD default,[3,4],[6,7,13,16,24,33,8,9],[],Tryz.func152,rfl,akH⟩
  (aE ⟨Tryz.f197,(ab af 197).getD default,[3],[4,5],[],Tryz.func197,rfl,akG⟩
  (aE ⟨Tryz.f242,(ab af 242).getD default,[],[4,5,6,7,8,9],[],Tryz.func242,rfl,ajh⟩
  (aE ⟨Tryz.f111,(ab af 111).getD default,[],[2],[],Tryz.func111,rfl,ajq⟩
  (aE ⟨Tryz.f179,(ab af 179).getD default,[],[2,3,4,5,6,7,8,9],[],Tryz.func179,rfl,ajk⟩
  (aE ⟨Tryz.f263,(ab af 263).getD default,[],[4],[],Tryz.func263,rfl,ajn⟩
  (aE ⟨Tryz.f283,(ab af 283).getD default,[],[6,0,1],[],Tryz.func283,rfl,ajo⟩
  (aE ⟨Tryz.f262,(ab af 262).getD default,[],[6,7,8],[],Tryz.func262,rfl,aji⟩
  (aE ⟨Tryz.f132,(ab af 132).getD default,[3,9],[6,7],[],Tryz.func132,rfl,akb⟩
  (aE ⟨Tryz.f153,(ab af 153).getD default,[3],[6,7,8,2,9,10],[],Tryz.func153,rfl,akK⟩
  (aE ⟨Tryz.f198,(ab af 198).getD default,[3,9],[6,7,2],[],Tryz.func198,rfl,akL⟩
  (aE ⟨Tryz.f199,(ab af 199).getD default,[2,4,5],[6],[],Tryz.func199,rfl,ajj⟩
  (aE ⟨Tryz.f243,(ab af 243).getD default,[3,4,5],[6],[],Tryz.func243,rfl,ajm⟩
  (aE ⟨Tryz.f112,(ab af 112).getD default,[2],[4,5,6,7],[],Tryz.func112,rfl,ajp⟩
  (aE ⟨Tryz.f175,(ab af 175).getD default,[2,4,5,6],[],[],Tryz.func175,rfl,aja⟩
  (aE ⟨Tryz.f218,(ab af 218).getD default,[3],[6],[],Tryz.func218,rfl,ak0⟩
  (aE ⟨Tryz.f254,(ab af 254).getD default,[2,5,7],[4],[],Tryz.func254,rfl,ak1⟩
  (aE ⟨Tryz.f220,(ab af 220).getD default,[3,7],[6],[],Tryz.func220,rfl,ajb⟩
  (aE ⟨Tryz.f219,(ab af 219).getD default,[],[2,3,5,12,15],[],Tryz.func219,rfl,ai8⟩
  (aE ⟨Tryz.f221,(ab af 221).getD default,[2,9],[4,5,6,7,10,50,54],[],Tryz.func221,rfl,ajc⟩
  (aE ⟨Tryz.f255,(ab af 255).getD default,[2,7],[4,5],[],Tryz.func255,rfl,ajL⟩
  (aE ⟨Tryz.f108,(ab af 108).getD default,[],[8,9,10],[],Tryz.func108,rfl,aiV⟩
  (aE ⟨Tryz.f176,(ab af 176).getD default,[],[10,11,12,13,14],[],Tryz.func176,rfl,ajD⟩
  (aE ⟨Tryz.f222,(ab af 222).getD default,[],[4],[],Tryz.func222,rfl,ajF⟩
  (aE ⟨Tryz.f223,(ab af 223).getD default,[],[6,7,8,9,10,11,12],[],Tryz.func223,rfl,ajE⟩
  (aE ⟨Tryz.f225,(ab af 225).getD default,[],[6,7,8,2,9,10,11,12,13,14,15,16,17,18],[],Tryz.func225,rfl,ajd⟩
  (aE ⟨Tryz.f256,(ab af 256).getD default,[],[2],[],Tryz.func256,rfl,aje⟩
  (aE ⟨Tryz.f272,(ab af 272).getD default,[],[2,0],[],Tryz.func272,rfl,ajf⟩
  (aE ⟨Tryz.f109,(ab af 109).getD default,[6,7,14,16],[12,13,15,17],[],Tryz.func109,rfl,aiU⟩
  (aE ⟨Tryz.f177,(ab af 177).getD default,[4,5],[6,7,8,9,10,11,12],[],Tryz.func177,rfl,aiW⟩
  (aE ⟨Tryz.f41,(ab af 41).getD default,[2,3],[4],[],Tryz.func41,rfl,ajA⟩
  (aE ⟨Tryz.f50,(ab af 50).getD default,[2,3],[4,5],[],Tryz.func50,rfl,aj0⟩
  (aE ⟨Tryz.f113,(ab af 113).getD default,[1],[2,3,4],[],Tryz.func113,rfl,ajU⟩
  (aE ⟨Tryz.f114,(ab af 114).getD default,[1],[2],[],Tryz.func114,rfl,ajW⟩
  (aE ⟨Tryz.f115,(ab af 115).getD default,[1],[2,3],[],Tryz.func115,rfl,ajZ⟩
  (aE ⟨Tryz.f180,(ab af 180).getD default,[1],[2],[],Tryz.func180,rfl,ajX⟩
  (aE ⟨Tryz.f226,(ab af 226).getD default,[3],[6,1,7],[],Tryz.func226,rfl,ajY⟩
  (aE ⟨Tryz.f52,(ab af 52).getD default,[1],[2],[],Tryz.func52,rfl,ajV⟩
  (aE ⟨Tryz.f21,(ab af 21).getD default,[2,3,10],[4,5,6,7,8,11],[],Tryz.func21,rfl,ajK⟩
  (aE ⟨Tryz.f64,(ab af 64).getD default,[2,3],[4,5,6,7,8,54,80,109,118,9,10],[],Tryz.func64,rfl,ak2⟩
  (aE ⟨Tryz.f130,(ab af 130).getD default,[],[4],[],Tryz.func130,rfl,ak3⟩
  (aE ⟨Tryz.f131,(ab af 131).getD default,[1,3],[2,8,19,40],[],Tryz.func131,rfl,ak4⟩
  (aE ⟨Tryz.f65,(ab af 65).getD default,[3,4,7,11],[6,8,9,76,92,98],[],Tryz.func65,rfl,ajS⟩
  (aE ⟨Tryz.f66,(ab af 66).getD default,[],[6],[],Tryz.func66,rfl,ajR⟩
  (aE ⟨Tryz.f133,(ab af 133).getD default,[3,4,7,8],[6,9,10,66,103,113,11,140,149],[],Tryz.func133,rfl,ajQ⟩
  (aE ⟨Tryz.f184,(ab af 184).getD default,[3],[6,7],[],Tryz.func184,rfl,ajO⟩
  (aE ⟨Tryz.f185,(ab af 185).getD default,[3],[6],[],Tryz.func185,rfl,ajT⟩
  (aE ⟨Tryz.f67,(ab af 67).getD default,[2,3,6],[4,5,7],[],Tryz.func67,rfl,ajN⟩
  (aE ⟨Tryz.f134,(ab af 134).getD default,[3,4,5],[6,7,8,9,65,80,100,111],[],Tryz.func134,rfl,ajM⟩
  (aE ⟨Tryz.f68,(ab af 68).getD default,[1,4,5],[2,3],[],Tryz.func68,rfl,ajP⟩
  (aE ⟨Tryz.f62,(ab af 62).getD default,[],[4,5,6],[],Tryz.func62,rfl,ajr⟩
  (aE ⟨Tryz.f127,(ab af 127).getD default,[],[2],[],Tryz.func127,rfl,ajt⟩
  (aE ⟨Tryz.f61,(ab af 61).getD default,[],[2,3,5],[],Tryz.func61,rfl,ajs⟩
  trivial))))))))))))))))))))))))))))))))))))))))))))))))))))))))))))))))))))))))))))))))))))))))))))))))))))))))))))))))))))))))))))))))))))))
end Rm
set_option linter.unusedSimpArgs false
namespace Rm
open Go Go.Proofs Cx Go.RowKit Go.Lib
theorem asS:(Tryz.prog.info? 3).map (fun i=>(i.zero,i.size,i.bytes))=some (some (.int .i64 0),1,8):=by kernel_rfl
set_option maxHeartbeats 2000000 in
set_option maxRecDepth 100000 in
theorem apM (w:World):Calls Tryz.prog 241 #[.slice none 0 0,.int .i64 0] w fun e w'=>e=.returned (.slice none 0 0)∧w'=w:=by
 go_enter Tryz.func241,Tryz.ntmps241
 go_wp2
 go_ret
 exact⟨rfl,rfl⟩
set_option maxHeartbeats 2000000 in
set_option maxRecDepth 100000 in
theorem apL (n:Nat)(w:World)(h0:0<n)(h1:n≤4294967296):Calls Tryz.prog 241 #[.slice none 0 0,.int .i64 n] w fun e w'=>
 ∃v',e=.returned v'∧w'.ownsRow w.heap.size 3 1 v' 0 []∧Below w.heap.size w w':=by
 obtain⟨i0,hi,xo,uQ,hz2⟩:=info_parts asS;have hr:=run_append_nil_zeros w 47 3 47 3 i0 (.int .i64 0) .i64 .i64 Tryz.underlying47 Tryz.underlying3 hi xo n h0 (by rw[uQ];decide) (by omega) (by rw[hz2];omega);have hn:¬((n:Int)<0):=by omega
 have nD:(n:Int)>0:=by omega
 have hw:IntKind.i64.wrap (n:Int)=n:=by rw[IntKind.wrap_i64];omega
 have pg:IntKind.i64.wrap 0=0:=by decide
 have fE:=grownCap_ge w n 0 3;have hle:=grownCap_le_maxLen w n 0 3 (by unfold maxLen;omega);have hs:(Builtin.zeroCells #[Value.int IntKind.i64 0] n++Builtin.zeroCells #[Value.int IntKind.i64 0] (grownCap w n 0 3-n)).size=grownCap w n 0 3*1:=by
  rw[Array.size_append,size_zeroCells,size_zeroCells];simp;omega
 go_enter Tryz.func241,Tryz.ntmps241
 go_wp2_with (at_builtin;refine wpList_append_run _ rfl _ _ 47 3 rfl _ _ rfl rfl _ _ hr ?qc)
 go_ret
 refine⟨_,rfl,?_,?_⟩
 ·exact World.ownsRow.drew (World.ownsRow_made w _ _ (Nat.le_refl _) hle hs)
 ·exact((Below.refl _ w).alloc (Nat.le_refl _) _).drew
def F2 (ds:List D):Option D:=
 match ds with
 |[.list [],.v (.int .i64 n)]=>if 0≤n∧n≤4294967296 then some (.list []) else none
 |_=>none
theorem apK (ds:List D)(d:D)(h:F2 ds=some d):∃s,ctx.sig 241=some s∧LS ctx 241 s ds d:=by
 refine⟨_,rfl,fun _=>?_,fun shs obs hm=>by cases hm⟩;unfold F2 at h;split at h
 case h_2=>cases h
 rename_i n;split at h
 case isFalse=>cases h
 rename_i hn;cases h;obtain⟨k,rfl⟩:=Int.eq_ofNat_of_zero_le hn.1;intro σ w args au hC ha;obtain⟨a1,a2,a3⟩:=ha;have h0:=a3 0 _ rfl;have h1:=a3 1 _ rfl;obtain⟨u,v,rfl⟩:∃u v,args=#[u,v]:=by
  have:args.size=2:=by simpa using a1
  match args,this with
  |⟨[u,v]⟩,_=>exact⟨u,v,rfl⟩
 simp only[List.getD_cons_zero,List.getD_cons_succ] at h0 h1;change Rep ctx.cap σ (.nils .bool) u (.list []) at h0;change Rep ctx.cap σ (.int .i64) v (.v (.int .i64 k)) at h1;have hu:u=.slice none 0 0:=by cases h0;rfl
 have hv:v=.int .i64 k:=by cases h1;rfl
 subst hu hv;by_cases hk:k=0
 ·subst hk;refine(apM w).mono fun e w' hh=>?_;obtain⟨rfl,rfl⟩:=hh;refine⟨_,σ,rfl,.refl σ,au,.refl _ _,fun _ _ _ h=>.inl h,fun _ _ h=>.inl h,?_⟩;exact⟨[],[],rfl,⟨by simp,.inl ⟨rfl,rfl⟩⟩,⟨fun _=>undef,fun i x hx=>by simp at hx,fun i j u hi=>by simp at hi⟩,fun k hk=>by cases hk⟩
 ·refine(apL k w (by omega) (by omega)).mono fun e w' hh=>?_;obtain⟨v',rfl,bE,hb⟩:=hh;refine⟨v',σ,rfl,.refl σ,au.below hb,hb,fun _ _ _ h=>.inl h,fun _ _ h=>.inl h,?_⟩;refine⟨[],[],rfl,bE,⟨fun _=>undef,fun i x hx=>by simp at hx,fun i j u hi=>by simp at hi⟩,fun k hk=>?_⟩;have bN:=(bE.lt k hk).1;refine⟨fun o=>?_,?_⟩
  ·cases hc:σ.c k o with
   |none=>rfl
   |some u=>have:=World.block_lt_of_cell? w (a:=⟨k,o,none⟩) (au.c _ _ _ hc);simp at this;omega
  ·cases hc:σ.m k with
   |none=>rfl
   |some u=>rcases au.m _ _ hc with⟨arr,clock,x,g1,_⟩|⟨_,g1⟩<;>(have:=(Array.getElem?_eq_some_iff.1 g1).1;omega)
def eu (day:Int):Int×Int×Int:=
 let n:=day+730425
 let e:=n/146097
 let r:=n%146097
 let y:=(r-r/1460+r/36524-r/146096)/365
 let r:=r-(365*y+y/4-y/100)
 let m:=(5*r+2)/153
 let dom:=r-(153*m+2)/5+1
 let month:=if 12<m+3 then m+3-12 else m+3
 (if month<3 then y+400*e+1 else y+400*e,month,dom)
def vi (rest feasts shut:List Int)(day:Int):Bool:=
 !rest.contains ((day+5)%7)&&(!feasts.contains (100*(eu day).2.1+(eu day).2.2)&& !shut.contains day)
def VZ (rest feasts shut:List Int)(a b:Int):List Int:=((List.range (b-a+1).toNat).map fun(k:Nat)=>a+k).filter (vi rest feasts shut)
def uT (d:D):List Int:=d.l.map D.i
def V0 (ds:List D):List D:=
 let c:=(ds.getD 2 .none).deref
 (VZ (uT (c.c 3)) (uT (c.c 4)) (uT (c.c 5)) (ds.getD 0 .none).deref.i (ds.getD 1 .none).deref.i).map fun d=>.tup [.int d]
def v3 (r:D)(city:Int):Int:=if 0≤city∧city<(r.c 1).l.length then(((r.c 1).l.getD city.toNat .none).c 1).i else-1
def QI (ds:List D):D:=
 let r:=ds.getD 0 .none
 let forum:=(ds.getD 1 .none).i
 let c:=ds.getD 2 .none
 let s:=(c.c 15).l.getD (c.c 19).i.toNat .none
 let who:=(s.c 2).i
 if who<0∨(r.c 3).l.length≤who∨forum<0∨(r.c 4).l.length≤forum then .list [] else
 let out:=[forum,v3 r (s.c 7).i,v3 r (c.c 10).i,v3 r (c.c 9).i,v3 r (((r.c 3).l.getD who.toNat .none).c 1).i]
 if(-1)∈out then .list [] else ints out
noncomputable def Wq:List (Nat×(aR→List D→Option D)):=[(241,fun _ ds=>F2 ds),(76,xI QE QF QI),(264,BX Co 1000 1 V0)]
noncomputable def ext:Nat→Option (aR→List D→Option D):=ab Wq
theorem axo:TabOK ctx tab ext:=by
 refine⟨clos,its,fun f pc _ h=>axp f pc h,fun f g hg Φ hΦ eM ds d h=>?_⟩
 have:=Pt (R:=fun f (g:aR→List D→Option D)=>∀Φ,cQ ctx Φ→fj ctx Φ→∀ds d,g Φ ds=some d→(∀s,ctx.sig f=some s→LS ctx f s ds d)∧
  ∀cs ys,ctx.cap f=some cs→ku cs.args cs.res=some ys→∃xs,d=.list xs∧(∀x,x∈xs→∃ds',x=.tup ds'∧ds'.length=ys.length)∧j7 ctx f cs.caps ys ds xs) (l:=Wq)
  ⟨fun Φ hΦ eM ds d h=>⟨fun s hs=>by obtain⟨s',h1,h2⟩:=apK ds d h;rw[hs] at h1;cases h1;exact h2,fun cs ys hc hi=>by cases hc⟩,
   fun Φ hΦ eM ds d h=>⟨fun s hs=>by cases hs;exact⟨fun _=>auP clos hΦ eM Tryz.func76 ai5 ai6 h,fun shs obs hm=>by cases hm⟩,fun cs ys hc hi=>by cases hc⟩,
   fun Φ hΦ eM ds d h=>⟨fun s hs=>(by cases hs),fun cs ys hc hi=>by
    cases hc;cases hi;exact asX clos hΦ eM Tryz.func264 ak5 h rfl⟩,trivial⟩ f g hg
 exact this Φ hΦ eM ds d h
noncomputable abbrev T:cd:=dA tab ext
theorem ak.of_nsl {tab:Nat→Option PC}{ext:Nat→Option (aR→List D→Option D)}{f:Nat}{pa pb:PC}{spec:List D→D}{ds:List D}{ta tb:PT}(hx:ext f=some (xI pa pb spec))(hta:tree pa=ta)(htb:tree pb=tb)
 (h:(∃xs,xs≠[]∧spec ds=.list xs∧aH (dA tab ext) ta (jM ds) (fun x=>x=.ret (.list xs)))∨(spec ds=.list []∧aH (dA tab ext) tb (jM ds) (fun x=>x=.ret (.list [])))):ak (dA tab ext) f ds (spec ds):=by
 refine ak.of_ext hx ?_;rcases h with⟨xs,h1,h2,h3⟩|⟨h2,h3⟩
 ·obtain⟨x,rfl,n0,hn⟩:=LH (c:=pa) (hta▸h3);refine⟨n0,fun n hle=>?_⟩;unfold xI;rw[if_pos (.inl ⟨n,xs,hn n hle,h1,h2⟩)]
 ·obtain⟨x,rfl,n0,hn⟩:=LH (c:=pb) (htb▸h3);refine⟨n0,fun n hle=>?_⟩;unfold xI;rw[if_pos (.inr ⟨n,hn n hle,h2⟩)]
end Rm
namespace Rm
open Go Go.Proofs Cx
def eK (n:Nat)(p:Nat→Bool):Bool:=(List.range n).all p
theorem L9 {n:Nat}{p:Nat→Bool}(h:∀k,k<n→p k=true):eK n p=true:=List.all_eq_true.2 fun k hk=>h k (List.mem_range.1 hk)
theorem af6 {n k:Nat}{p:Nat→Bool}(hk:k<n)(h:p k=false):eK n p=false:=List.all_eq_false.2 ⟨k,List.mem_range.2 hk,by simp[h]⟩
theorem vX {n:Nat}{p:Nat→Bool}:eK n p=true↔∀k,k<n→p k=true:=⟨fun h k hk=>List.all_eq_true.1 h k (List.mem_range.2 hk),L9⟩
def eL (n:Nat)(f:Nat→Int):Int:=(((List.range n).map f).find? fun x=>x !=0).getD 0
theorem Nq {n:Nat}{f:Nat→Int}(h:∀k,k<n→f k=0):eL n f=0:=by
 unfold eL;rw[List.find?_eq_none.2]
 ·rfl
 ·intro x hx;obtain⟨k,hk,rfl⟩:=List.mem_map.1 hx;simp[h k (List.mem_range.1 hk)]
theorem No {n k:Nat}{f:Nat→Int}(hk:k<n)(hj:∀j,j<k→f j=0)(h:f k≠0):eL n f=f k:=by
 unfold eL;have e:List.range n=List.range k++k::(List.range' (k+1) (n-k-1)):=by
  rw[List.range_eq_range',List.range_eq_range',←List.range'_succ];have:=List.range'_append_1 (s:=0) (m:=k) (n:=n-k-1+1);rw[Nat.zero_add] at this;rw[this];congr 1;omega
 rw[e,List.map_append,List.find?_append,List.find?_eq_none.2,Option.none_or,List.map_cons,List.find?_cons_of_pos (by simpa using h)]
 ·rfl
 ·intro x hx;obtain⟨j,rF,rfl⟩:=List.mem_map.1 hx;simp[hj j (List.mem_range.1 rF)]
theorem Np {n:Nat}{f:Nat→Int}:eL n f=0↔∀k,k<n→f k=0:=by
 refine⟨fun h k=>?_,Nq⟩
 induction k using Nat.strongRecOn with
 |ind k ih=>
  intro hk;refine Classical.byContradiction fun aC=>?_;rw[No hk (fun j hj=>ih j hj (by omega)) aC] at h;exact aC h
section
variable {T:cd} {id:Nat} {bk bj lr lo:List Nat} {a:PC} {ρ:Env} {Q:Out→Prop}
theorem kG (N:Nat)(p:Nat→Bool)(str eH:Nat→List D)(h0:lr.map ρ.r=str 0∧lo.map ρ.o=eH 0)
 (step:∀k,k<N→p k=true→aH T (round id bk bj lr lo a) (ρ.put lr (str k) lo (eH k)) (ed ρ id bk bj lr lo (fun vr vo=>vr=str (k+1)∧vo=eH (k+1)) Q))
 (bad:∀k,k<N→p k=false→eK N p=false→aH T (round id bk bj lr lo a) (ρ.put lr (str k) lo (eH k)) (ed ρ id bk bj lr lo (fun _ _=>False) Q))
 (last:eK N p=true→aH T (round id bk bj lr lo a) (ρ.put lr (str N) lo (eH N)) (ed ρ id bk bj lr lo (fun _ _=>False) Q)):aL T (.block id bk bj (.loop lr lo a)) ρ Q:=
 .scan N (fun k=>p k=true) str eH h0 (fun k hk _ h=>step k hk h) (fun k hk _ h=>bad k hk (by simpa using h) (af6 hk (by simpa using h))) (fun h=>last (L9 h))
theorem vG (N:Nat)(f:Nat→Int)(str eH:Nat→List D)(h0:lr.map ρ.r=str 0∧lo.map ρ.o=eH 0)
 (step:∀k,k<N→f k=0→aH T (round id bk bj lr lo a) (ρ.put lr (str k) lo (eH k)) (ed ρ id bk bj lr lo (fun vr vo=>vr=str (k+1)∧vo=eH (k+1)) Q))
 (bad:∀k,k<N→f k≠0→eL N f=f k→aH T (round id bk bj lr lo a) (ρ.put lr (str k) lo (eH k)) (ed ρ id bk bj lr lo (fun _ _=>False) Q))
 (last:eL N f=0→aH T (round id bk bj lr lo a) (ρ.put lr (str N) lo (eH N)) (ed ρ id bk bj lr lo (fun _ _=>False) Q)):aL T (.block id bk bj (.loop lr lo a)) ρ Q:=
 .scan N (fun k=>f k=0) str eH h0 (fun k hk _ h=>step k hk h) (fun k hk hj h=>bad k hk h (No hk hj h)) (fun h=>last (Nq h))
end
theorem bF {k n:Nat}(h:k<n)(hn:n≤4294967296):IntKind.i64.wrap ((k:Int)+1)=(k:Int)+1:=aU (by omega)
theorem afu {k:Nat}(hn:k≤4294967296):IntKind.i64.wrap ((k:Int)-1)=(k:Int)-1:=aU (by omega)
def aG (i n:Int):Bool:=decide (0≤i)&&decide (i<n)
def wi (n a b:Int):Bool:=decide (a≤n)&&decide (n≤b)
theorem eX (i n:Int):ak T aaB [.int i,.int n] (.bool (aG i n)):=by
 refine .of_tree rfl ahC ayV ?_;simp[TO,aG];by_cases h:0≤i<;>simp[h]
theorem og (i n:Int):ak T aaP [.int i,.int n] (.bool (aG i n)):=by
 refine .of_tree rfl ahQ ay9 ?_;simp[T4,aG];by_cases h:0≤i<;>simp[h]
theorem idx_eq {α:Type}[DecidableEq α]{l:List α}{x z:α}{k:Nat}(hk:k<l.length)(hj:∀j,j<k→l.getD j z≠x)(h:¬l.getD k z≠x):x∈l∧l.findIdx (fun y=>decide (y=x))=k:=by
 have e:l[k]=x:=by simpa [hk] using h
 refine⟨e▸List.getElem_mem hk,(List.findIdx_eq hk).2 ⟨by simp[e],fun j rE=>?_⟩⟩;have dW:j<l.length:=by omega
 simpa [dW] using hj j rE
theorem Yj {α:Type}[DecidableEq α]{l:List α}{x z:α}(hj:∀j,j<l.length→l.getD j z≠x):¬x∈l:=fun hm=>by
 obtain⟨j,dW,rfl⟩:=List.getElem_of_mem hm;have:=hj j dW;simp[dW] at this
def rR {α:Type}[DecidableEq α](l:List α)(x:α):Int:=if x∈l then(l.findIdx (fun y=>decide (y=x)):Nat) else-1
def hasB {α:Type}[DecidableEq α](l:List α)(x:α):Bool:=l.any fun y=>decide (y=x)
theorem W6 {α:Type}[DecidableEq α]{l:List α}{x:α}:hasB l x=true↔x∈l:=by simp[hasB]
theorem aqj {α:Type}[DecidableEq α]{l:List α}{x:α}:hasB l x=false↔¬x∈l:=by rw[←W6];simp
theorem Yi {α:Type}[DecidableEq α](l:List α)(x:α):decide (0≤rR l x)=hasB l x:=by
 unfold rR;by_cases h:x∈l
 ·rw[W6.2 h];simp[h]
 ·rw[aqj.2 h];simp[h]
@[simp] theorem aDG (a b:ByteArray):tO .eql a b=decide (a=b):=by
  simp only[tO,ByteArray.toList_eq];by_cases h:a=b
  ·subst h;simp
  ·rw[decide_eq_false h,beq_eq_false_iff_ne];intro e;have:a.data=b.data:=by rw[←Array.toList_inj];exact e
   exact h (by cases a;cases b;cases this;rfl)
@[simp] theorem aEy (ρ:Env)(x i:PE):PE.ev ρ (.sidx x i)=.v (.int .u8 ((PE.ev ρ x).s.data.getD (PE.ev ρ i).i.toNat 0).toNat):=_root_.id rfl
@[simp] theorem aEC (ρ:Env)(x i:PE):PE.ev ρ (.sok x i)=.v (.bool (decide (0≤(PE.ev ρ i).i∧(PE.ev ρ i).i<(PE.ev ρ x).s.size))):=_root_.id rfl
@[simp] theorem aHt (a:ByteArray):(str a).s=a:=_root_.id rfl
theorem afL (l:List Int)(x:Int)(hl:l.length≤4294967296):ak T aaY [ints l,.int x] (.int (rR l x)):=by
 refine .of_tree rfl ahZ azi ?_;simp[Ud];refine .scan l.length (fun k=>l.getD k 0≠x) (fun k=>[.int 0,.int k]) (fun _=>[]) ?_ (fun k hk hj ho=>?_) (fun k hk hj ho=>?_) (fun hj=>?_)
 ·simp
 ·have hw:=bF hk hl;simp[hk] at ho;have dB:¬x=l[k]:=fun e=>ho e.symm;simp[RS,C8,hk,hw,ints,ho,dB]
 ·obtain⟨hm,he⟩:=idx_eq hk hj ho;simp[hk] at ho;simp[RS,C8,hk,ints,ho,rR,hm,he]
 ·have:=Yj hj;simp[RS,C8,rR,this,ints]
theorem tC (l:List Int)(x:Int)(hl:l.length≤4294967296):ak T aaT [ints l,.int x] (.bool (hasB l x)):=by
 refine .of_tree rfl ahU azd ?_;simp[T8];refine⟨_,afL l x hl,?_⟩;have:=Yi l x;simp at this ⊢;exact this
theorem afM (l:List ByteArray)(x:ByteArray)(hl:l.length≤4294967296):ak T aaZ [strs l,str x] (.int (rR l x)):=by
 refine .of_tree rfl ah0 azj ?_;simp[Ue];refine .scan l.length (fun k=>l.getD k default≠x) (fun k=>[.int 0,.int k]) (fun _=>[]) ?_ (fun k hk hj ho=>?_) (fun k hk hj ho=>?_) (fun hj=>?_)
 ·simp
 ·have hw:=bF hk hl;simp[hk] at ho;have dB:¬x=l[k]:=fun e=>ho e.symm;simp[RT,C9,hk,hw,strs,ho,dB]
 ·obtain⟨hm,he⟩:=idx_eq hk hj ho;simp[hk] at ho;simp[RT,C9,hk,strs,ho,rR,hm,he]
 ·have:=Yj hj;simp[RT,C9,rR,this,strs]
theorem afE (l:List ByteArray)(x:ByteArray)(hl:l.length≤4294967296):ak T aaU [strs l,str x] (.bool (hasB l x)):=by
 refine .of_tree rfl ahV aze ?_;simp[T9];refine⟨_,afM l x hl,?_⟩;have:=Yi l x;simp at this ⊢;exact this
def K8 (l:List Int)(a b:Int)(k:Nat):Bool:=wi (l.getD k 0) a b&&(k==0||decide (l.getD (k-1) 0<l.getD k 0))
def rising (l:List Int)(a b:Int):Bool:=eK l.length (K8 l a b)
theorem Dh (l:List Int)(a b:Int)(hl:l.length≤4294967296):ak T aaH [ints l,.int a,.int b] (.bool (rising l a b)):=by
 refine .of_tree rfl ahI ay1 ?_;simp[TV];refine kG l.length (K8 l a b) (fun k=>[.bool false,.int k]) (fun _=>[]) ?_ (fun k hk ho=>?_) (fun k hk ho hb=>?_) (fun hj=>?_)
 ·simp
 ·have hw:=bF hk hl;simp[K8,wi,hk] at ho;obtain⟨⟨h1,h2⟩,h3⟩:=ho;have cq:¬l[k]<a:=by omega
  have fR:¬b<l[k]:=by omega
  by_cases wX:0<k
  ·have cr:k-1<l.length:=by omega
   have dY:IntKind.i64.wrap ((k:Int)-1)=((k-1:Nat):Int):=by rw[afu (by omega)];omega
   have jO:¬l[k]≤l[k-1]:=by
        rcases h3 with h3|h3
        ·omega
        ·simp[cr] at h3;omega
   simp[yy,sN,hk,hw,dY,ints,cq,fR,jO,wX,cr]
  ·simp[yy,sN,hk,hw,ints,cq,fR,wX]
 ·have hf:rising l a b=false:=hb;simp[K8,wi,hk] at ho;by_cases h1:l[k]<a
  ·simp[yy,sN,hk,ints,h1,hf]
  by_cases h2:b<l[k]
  ·simp[yy,sN,hk,ints,h1,h2,hf]
  have h3:=ho (by omega) (by omega);have wX:0<k:=by omega
  have cr:k-1<l.length:=by omega
  have dY:IntKind.i64.wrap ((k:Int)-1)=((k-1:Nat):Int):=by rw[afu (by omega)];omega
  have jO:=h3.2;simp[cr] at jO;simp[yy,sN,hk,dY,ints,h1,h2,jO,wX,cr,hf]
 ·have hf:rising l a b=true:=hj;simp[yy,sN,hf]
def Pk (c:Int):Bool:=wi c 97 122||wi c 65 90
def HF (i:Nat)(c:Int):Bool:=Pk c||(i !=0&&(decide (c=95)||wi c 48 57))
def D7 (s:ByteArray)(k:Nat):Int:=((s.data.toList.getD k 0).toNat:Nat)
def po (s:ByteArray):Bool:=decide (1≤s.size)&&decide (s.size≤20)&&eK s.size (fun k=>HF k (D7 s k))
theorem VD {s:ByteArray}{k:Nat}(h:k<s.data.size):(s.data[k].toNat:Int)=D7 s k:=by
 unfold D7;rw[List.getD_eq_getElem?_getD,List.getElem?_eq_getElem (by simpa using h)];rfl
theorem ae1 {s:ByteArray}:s=⟨#[]⟩↔s.size=0:=by
 constructor
 ·rintro rfl;rfl
 ·intro h;cases s with|mk d=>congr;exact Array.eq_empty_of_size_eq_zero h
theorem awx (s:ByteArray):ak T aaC [str s] (.bool (po s)):=by
 refine .of_tree rfl ahD ayW ?_;simp[TP];by_cases h0:s=⟨#[]⟩
 ·have hn:po s=false:=by simp[po,ae1.1 h0]
  rw[hn];simp[h0]
 by_cases h1:(20:Int)<s.size
 ·have cq:¬s.size≤20:=by omega
  simp[h0,h1,po,cq]
 have hz:1≤s.size:=by
  have:s.size≠0:=fun e=>h0 (ae1.2 e);omega
 have cq:s.size≤20:=by omega
 simp[h0,h1];refine⟨by omega,kG s.size (fun k=>HF k (D7 s k)) (fun k=>[.bool false,.int k]) (fun _=>[]) ?_ (fun k hk ho=>?_) (fun k hk ho hb=>?_) (fun hj=>?_)⟩
 ·simp
 ·have hw:=bF hk (by omega);have bN:k<s.data.size:=hk;have hg:=VD bN;simp[HF,Pk,wi] at ho;simp[RC,CT,hk,bN,hw,hg];omega
 ·have bN:k<s.data.size:=hk;have hg:=VD bN;have hn:po s=false:=by simp[po,hb]
  simp[HF,Pk,wi] at ho;simp[RC,CT,hk,bN,hg,hn];omega
 ·have hn:po s=true:=by simp[po,hj,hz,cq]
  have hd:s.data.size=s.size:=rfl;simp[RC,CT,hn,hd]
end Rm
namespace Rm
open Go Go.Proofs Cx
def sm (l:List ByteArray)(i:Nat):Int:=if po (l.getD i default)=false then 2 else if hasB (l.take i) (l.getD i default) then 5 else 0
theorem aex (l:List ByteArray)(i:Nat)(hi:i<l.length)(hl:l.length≤4294967296):ak T aaD [strs l,.int i] (.int (sm l i)):=by
 refine .of_tree rfl ahE ayX ?_;simp[TQ,hi];refine⟨_,by simpa [strs,hi] using awx l[i],?_⟩;unfold sm;rw[List.getD_eq_getElem?_getD,List.getElem?_eq_getElem hi,Option.getD_some];cases h1:po l[i]<;>simp[h1];refine⟨by omega,_,by simpa [strs,hi] using afE (l.take i) l[i] (by rw[List.length_take];omega),?_⟩;cases h2:hasB (l.take i) l[i]<;>simp[h2]
def tW (l:List ByteArray)(g:Nat→Bool)(i:Nat):Int:=if sm l i≠0 then sm l i else if g i then 0 else 1
def gT (l:List ByteArray)(B8:Int)(g:Nat→Bool):Int:=if B8<l.length then 6 else eL l.length (tW l g)
theorem K0 (l:List ByteArray)(B8:Int)(f:Nat)(caps:List D)(g:Nat→Bool)(hg:∀i:Nat,i<l.length→ak T f (.int i::caps) (.bool (g i)))(hl:l.length≤4294967296):
 ak T aaA [strs l,.int B8,.clo f caps] (.int (gT l B8 g)):=by
 refine .of_tree rfl ahB ayU ?_;simp[TN,gT];by_cases h0:B8<l.length
 ·simp[h0];intro h;omega
 simp[h0];refine vG l.length (tW l g) (fun k=>[.int 0,.int k]) (fun _=>[]) ?_ (fun k hk ho=>?_) (fun k hk ho hb=>?_) (fun hj=>?_)
 ·simp
 ·have hw:=bF hk hl;have h1:sm l k=0:=by
   refine Classical.byContradiction fun h=>?_;unfold tW at ho;rw[if_pos h] at ho;exact h ho
  have h2:g k=true:=by
   unfold tW at ho;rw[if_neg (by simpa using h1)] at ho;cases h:g k with
   |true=>rfl
   |false=>rw[h] at ho;simp at ho
  simp[RB,CS,hk,hw];refine⟨_,aex l k hk hl,?_⟩;simp[h1];refine⟨_,_,⟨rfl,rfl⟩,_,hg k hk,?_⟩;simp[h2,hw]
 ·simp[RB,CS,hk,hb];refine⟨_,aex l k hk hl,?_⟩;unfold tW at ho ⊢;by_cases h1:sm l k=0
  ·simp[h1] at ho ⊢;refine⟨_,_,⟨rfl,rfl⟩,_,hg k hk,?_⟩;simp[ho]
  ·simp[h1]
 ·simp[RB,CS,hj]
def oE (r:Realm)(c:City):Bool:=eK c.feasts.length (fun k=>wi ((c.feasts.getD k 0).tmod 100) 1 31)&&(decide (c.feasts.length≤60)&&decide (c.shut.length≤200)&&aG c.order r.orders.length&&aG c.currency r.currencies.length)&&
 (rising c.rest 0 6&&rising c.feasts 101 1231&&rising c.shut 0 100000)
theorem awv (r:Realm)(c:City)(h1:c.rest.length≤4294967296)(h2:c.feasts.length≤4294967296)(h3:c.shut.length≤4294967296):ak T aaz [aX r,fO c] (.bool (oE r c)):=by
 refine .of_tree rfl ahA ayT ?_;simp[TM];refine kG c.feasts.length (fun k=>wi ((c.feasts.getD k 0).tmod 100) 1 31) (fun k=>[.bool false,.int k]) (fun _=>[]) ?_ (fun k hk ho=>?_) (fun k hk ho hb=>?_) (fun hj=>?_)
 ·simp
 ·have hw:=bF hk h2;simp[wi,hk] at ho;have g1:¬(c.feasts[k].tmod 100<1):=by omega
  have g2:¬(31<c.feasts[k].tmod 100):=by omega
  simp[RA,CR,hk,hw,ints,g1,g2]
 ·have hf:oE r c=false:=by simp only[oE,hb,Bool.false_and]
  simp[wi,hk] at ho;simp[RA,CR,hk,ints,hf];by_cases g1:c.feasts[k].tmod 100<1
  ·simp[g1]
  ·have g2:=ho (by omega);simp[g1,g2]
 ·simp[RA,CR];by_cases g1:(c.feasts.length:Int)≤60
  case neg=>
   have hf:oE r c=false:=by
        have gU:decide (c.feasts.length≤60)=false:=decide_eq_false (by omega);simp only[oE,gU,Bool.false_and,Bool.and_false]
   have gU:(60:Int)<c.feasts.length:=by omega
   simp[g1,gU,hf]
  by_cases g2:(c.shut.length:Int)≤200
  case neg=>
   have hf:oE r c=false:=by
        have gU:decide (c.shut.length≤200)=false:=decide_eq_false (by omega);simp only[oE,gU,Bool.false_and,Bool.and_false]
   have rv:(200:Int)<c.shut.length:=by omega
   simp[g1,g2,rv,hf]
  have gU:¬(60:Int)<c.feasts.length:=by omega
  have rv:¬(200:Int)<c.shut.length:=by omega
  have hf:oE r c=(aG c.order r.orders.length&&aG c.currency r.currencies.length&&(rising c.rest 0 6&&rising c.feasts 101 1231&&rising c.shut 0 100000)):=by
   have e1:decide (c.feasts.length≤60)=true:=decide_eq_true (by omega);have e2:decide (c.shut.length≤200)=true:=decide_eq_true (by omega);simp only[oE,hj,e1,e2,Bool.true_and]
  rw[hf];simp[g1,g2,gU,rv];refine⟨_,eX _ _,?_⟩;simp;cases e1:aG c.order r.orders.length<;>simp;refine⟨_,eX _ _,?_⟩;simp;cases e2:aG c.currency r.currencies.length<;>simp;refine⟨_,Dh _ _ _ h1,?_⟩;simp;cases e3:rising c.rest 0 6<;>simp;refine⟨_,Dh _ _ _ h2,?_⟩;simp;cases e4:rising c.feasts 101 1231<;>simp;exact Dh _ _ _ h3
end Rm
namespace Rm
open Go Go.Proofs Cx
theorem yL {α β:Type}(f:α→β){l:List α}{k:Nat}(h:k<l.length):(l.take (k+1)).map f=(l.take k).map f++[f l[k]]:=by
 rw[List.take_succ_eq_append_getElem h,List.map_append];rfl
theorem xp (i:Int)(n:Nat):aG i n=wi i 0 ((n:Int)-1):=by
 rw[Bool.eq_iff_iff];simp[wi,aG];omega
def zc (o:Order):List Int:=o.choices.map (·.ask)
def DY (o:Order):List Int:=o.rules.map (·.ask)
def sv (o:Order):Bool:=eK o.choices.length (fun k=>aG (o.choices.getD k default).by_ 5)&&(rising (zc o) 0 21&&rising (DY o) 0 21)
theorem awz (o:Order)(h1:o.choices.length≤100000)(h2:o.rules.length≤100000):ak T aaF [jd o] (.bool (sv o)):=by
 refine .of_tree rfl ahG ayZ ?_;simp[TS];refine kG o.choices.length (fun k=>aG (o.choices.getD k default).by_ 5) (fun k=>[.bool false,.none,.int k]) (fun k=>[ints ((o.choices.take k).map (·.ask))]) ?_ (fun k hk ho=>?_) (fun k hk ho hb=>?_) (fun hj=>?_)
 ·simp[ints]
 ·have hw:=bF hk (by omega);have hl:(o.choices.take k).length=k:=by rw[List.length_take];omega
  simp[hk] at ho;rw[yL _ hk];simp[RD,CU,hk,hw,ints,hl];refine⟨by omega,_,eX _ _,?_⟩;simp[ho,hw]
 ·have hf:sv o=false:=by simp only[sv,hb,Bool.false_and]
  have hl:(o.choices.take k).length=k:=by rw[List.length_take];omega
  simp[hk] at ho;simp[RD,CU,hk,ints,hl,hf];refine⟨by omega,_,eX _ _,?_⟩;simp[ho]
 ·have hf:sv o=(rising (zc o) 0 21&&rising (DY o) 0 21):=by simp only[sv,hj,Bool.true_and]
  rw[hf];simp[RD,CU];refine aL.forRounds o.rules.length (fun k=>[.none,.int k]) (fun k=>[ints ((o.rules.take k).map (·.ask))]) ?_ (fun k hk=>?_) ?_
  ·simp[ints]
  ·have hw:=bF hk (by omega);have hl:(o.rules.take k).length=k:=by rw[List.length_take];omega
   rw[yL _ hk];simp[aep,KT,hk,hw,ints,hl];omega
  ·simp[aep,KT];refine⟨_,Dh (zc o) _ _ (by simp[zc];omega),?_⟩;simp;cases e1:rising (zc o) 0 21<;>simp;exact Dh (DY o) _ _ (by simp[DY];omega)
def sn (r:Realm):List ByteArray:=r.cities.map (·.name)
def pq (r:Realm):List ByteArray:=r.firms.map (·.name)
def pv (r:Realm):List ByteArray:=r.orders.map (·.name)
theorem awy (r:Realm)(h1:r.cities.length≤100000)(h2:r.firms.length≤100000)(h3:r.orders.length≤100000):ak T aaE [aX r] (.tup [strs (sn r),strs (pq r),strs (pv r)]):=by
 refine .of_tree rfl ahF ayY ?_;simp[TR];refine aL.forRounds r.cities.length (fun k=>[.none,.int k]) (fun k=>[strs ((r.cities.take k).map (·.name))]) ?_ (fun k hk=>?_) ?_
 ·simp[strs]
 ·have hw:=bF hk (by omega);have hl:(r.cities.take k).length=k:=by rw[List.length_take];omega
  rw[yL _ hk];simp[aem,KQ,hk,hw,strs,hl];omega
 ·simp[aem,KQ];refine aL.forRounds r.firms.length (fun k=>[.none,.int k]) (fun k=>[strs ((r.firms.take k).map (·.name))]) ?_ (fun k hk=>?_) ?_
  ·simp[strs]
  ·have hw:=bF hk (by omega);have hl:(r.firms.take k).length=k:=by rw[List.length_take];omega
   rw[yL _ hk];simp[aen,KR,hk,hw,strs,hl];omega
  ·simp[aen,KR];refine aL.forRounds r.orders.length (fun k=>[.none,.int k]) (fun k=>[strs ((r.orders.take k).map (·.name))]) ?_ (fun k hk=>?_) ?_
   ·simp[strs]
   ·have hw:=bF hk (by omega);have hl:(r.orders.take k).length=k:=by rw[List.length_take];omega
    rw[yL _ hk];simp[aeo,KS,hk,hw,strs,hl];omega
   ·simp[aeo,KS,sn,pq,pv]
end Rm
namespace Rm
open Go Go.Proofs Cx
structure Small (r:Realm):Prop where
 cur:r.currencies.length≤1000
 cities:r.cities.length≤1000
 groups:r.groups.length≤1000
 firms:r.firms.length≤1000
 orders:r.orders.length≤1000
 us:r.usances.length≤1000
 rates:r.rates.length≤1000
 halts:r.halts.length≤1000
 city:∀c,c∈r.cities→c.rest.length≤1000∧c.feasts.length≤1000∧c.shut.length≤1000∧∀y,y∈c.feasts→aS y
 order:∀o,o∈r.orders→o.choices.length≤1000∧o.rules.length≤1000
 rate:∀x,x∈r.rates→aS x.num∧aS x.den
def th (r:Realm)(k j:Nat):Bool:=(r.usances.getD j default).fr !=(r.usances.getD k default).fr||(r.usances.getD j default).to !=(r.usances.getD k default).to
def LK (r:Realm)(k:Nat):Int:=
 if(aG (r.usances.getD k default).fr r.cities.length&&aG (r.usances.getD k default).to r.cities.length&&wi (r.usances.getD k default).days 1 20000)=false then 1 else if eK k (th r k) then 0 else 5
def DH (r:Realm):Int:=if 100<r.usances.length then 6 else eL r.usances.length (LK r)
theorem awB (r:Realm)(h:Small r):ak T aaI [aX r] (.int (DH r)):=by
 refine .of_tree rfl ahJ ay2 ?_;have hu:=h.us;simp[TW,DH];by_cases h0:100<r.usances.length
 ·have jf:(100:Int)<r.usances.length:=by omega
  have Ny:¬r.usances.length≤100:=by omega
  simp[h0,jf,Ny]
 have jf:¬(100:Int)<r.usances.length:=by omega
 simp[h0,jf];refine vG r.usances.length (LK r) (fun k=>[.int 0,.int k]) (fun _=>[]) ?_ (fun k hk ho=>?_) (fun k hk ho hb=>?_) (fun hj=>?_)
 ·simp
 ·have hw:=bF hk (by omega);have ha:aG r.usances[k].fr r.cities.length=true∧aG r.usances[k].to r.cities.length=true∧wi r.usances[k].days 1 20000=true∧eK k (th r k)=true:=by
   unfold LK at ho;simp only[List.getD_eq_getElem?_getD,List.getElem?_eq_getElem hk,Option.getD_some] at ho;cases e1:aG r.usances[k].fr r.cities.length<;>cases e2:aG r.usances[k].to r.cities.length<;>cases e3:wi r.usances[k].days 1 20000<;>cases e4:eK k (th r k)<;>simp[e1,e2,e3,e4] at ho ⊢
  obtain⟨a1,a2,a3,a4⟩:=ha;simp[wi] at a3;have a5:¬r.usances[k].days<1:=by omega
  have a6:¬20000<r.usances[k].days:=by omega
  simp[RG,CX,hk];refine⟨_,eX _ _,?_⟩;simp[a1];refine⟨_,eX _ _,?_⟩;simp[a2,a5,a6];refine⟨by omega,kG k (th r k) (fun j=>[.int 0,.int j]) (fun _=>[]) ?_ (fun j hj iK=>?_) (fun j hj iK dK=>?_) (fun uw=>?_)⟩
  ·simp
  ·have O2:=bF hj (by omega);have cg:j<r.usances.length:=by omega
   have hm:j<min k r.usances.length:=by omega
   simp[th,cg,hk] at iK;simp[KU,yz,hj,cg,hk,O2,hm];intro e e';rcases iK with h|h
   ·exact absurd e h
   ·exact absurd e' h
  ·rw[a4] at dK;cases dK
  ·simp[KU,yz,hw];omega
 ·simp[RG,CX,hk,hb];refine⟨_,eX _ _,?_⟩;unfold LK at ho ⊢;simp only[List.getD_eq_getElem?_getD,List.getElem?_eq_getElem hk,Option.getD_some] at ho ⊢;cases e1:aG r.usances[k].fr r.cities.length
  ·simp
  simp;refine⟨_,eX _ _,?_⟩;cases e2:aG r.usances[k].to r.cities.length
  ·simp
  cases e3:wi r.usances[k].days 1 20000
  ·simp[wi] at e3;by_cases g:r.usances[k].days<1
   ·simp[g]
   ·simp[g,e3 (by omega)]
  have M7:=e3;simp[wi] at M7;have a5:¬r.usances[k].days<1:=by omega
  have a6:¬20000<r.usances[k].days:=by omega
  simp[e1,e2,e3] at ho;simp[a5,a6];refine⟨by omega,kG k (th r k) (fun j=>[.int 0,.int j]) (fun _=>[]) ?_ (fun j hj iK=>?_) (fun j hj iK dK=>?_) (fun uw=>?_)⟩
  ·simp
  ·have O2:=bF hj (by omega);have cg:j<r.usances.length:=by omega
   have hm:j<min k r.usances.length:=by omega
   simp[th,cg,hk] at iK;simp[KU,yz,hj,cg,hk,O2,hm];intro e e';rcases iK with h|h
   ·exact absurd e h
   ·exact absurd e' h
  ·have cg:j<r.usances.length:=by omega
   have hm:j<min k r.usances.length:=by omega
   simp[th,cg,hk] at iK;simp[KU,yz,hj,cg,hk,ho,hm]
   first|exact iK|simp[iK]
  ·rw[uw] at ho;cases ho
 ·simp[RG,CX,hj]
def sL (r:Realm)(k:Nat):Bool:=aG (r.rates.getD k default).fr r.currencies.length&&aG (r.rates.getD k default).to r.currencies.length&&((r.rates.getD k default).fr !=(r.rates.getD k default).to)&&
 wi (r.rates.getD k default).num 1 1073741824&&wi (r.rates.getD k default).den 1 1073741824&&wi (r.rates.getD k default).since 0 100000
def wO (r:Realm)(k:Nat):Bool:=aG (r.halts.getD k default).order r.orders.length&&wi (r.halts.getD k default).fr 0 (r.halts.getD k default).to&&decide ((r.halts.getD k default).to≤100000)
def kF (r:Realm):Int:=if 100<r.rates.length then 6 else if eK r.rates.length (sL r)=false then 1 else if 20<r.halts.length then 6 else if eK r.halts.length (wO r) then 0 else 1
theorem G5 {n:Int}(h:aS n)(m:Int)(hm:0≤m∧m≤4294967296):aG (IntKind.i64.wrap (n-1)) m=wi n 1 m:=by
 unfold aS at h;by_cases e:n=-9223372036854775808
 ·subst e;have:IntKind.i64.wrap (-9223372036854775808-1)=9223372036854775807:=by decide
  rw[this,Bool.eq_iff_iff];simp[aG,wi];omega
 ·rw[aU (by omega),Bool.eq_iff_iff];simp[aG,wi];omega
theorem Ym (n:Int):aG n 100001=wi n 0 100000:=by rw[Bool.eq_iff_iff];simp[aG,wi];omega
theorem awA (r:Realm)(h:Small r):ak T aaG [aX r] (.int (kF r)):=by
 refine .of_tree rfl ahH ay0 ?_;have hu:=h.rates;have hh:=h.halts;simp[TU,kF];by_cases h0:100<r.rates.length
 ·have jf:(100:Int)<r.rates.length:=by omega
  have Ny:¬r.rates.length≤100:=by omega
  simp[h0,jf,Ny]
 have jf:¬(100:Int)<r.rates.length:=by omega
 simp[h0,jf];have key:∀k (hk:k<r.rates.length),∀{ρ:Env} {Q:Out→Prop},True:=fun _ _ _ _=>trivial;refine kG r.rates.length (sL r) (fun k=>[.int 0,.int k]) (fun _=>[]) ?_ (fun k hk ho=>?_) (fun k hk ho hb=>?_) (fun hj=>?_)
 ·simp
 ·have hw:=bF hk (by omega);have hI:=h.rate _ (List.getElem_mem hk);simp[sL,hk] at ho;obtain⟨⟨⟨⟨⟨a1,a2⟩,a3⟩,a4⟩,a5⟩,a6⟩:=ho;simp[RE,CV,hk];refine⟨_,eX _ _,?_⟩;simp[a1];refine⟨_,eX _ _,?_⟩;simp[a2,a3];refine⟨_,eX _ _,?_⟩;simp[G5 hI.1,a4];refine⟨_,eX _ _,?_⟩;simp[G5 hI.2,a5];refine⟨_,eX _ _,?_⟩;simp[Ym,a6,hw]
 ·have hI:=h.rate _ (List.getElem_mem hk);rw[hb];simp[sL,hk] at ho;simp[RE,CV,hk];refine⟨_,eX _ _,?_⟩;cases e1:aG r.rates[k].fr r.currencies.length
  ·simp
  simp;refine⟨_,eX _ _,?_⟩;cases e2:aG r.rates[k].to r.currencies.length
  ·simp
  by_cases e3:r.rates[k].fr=r.rates[k].to
  ·simp[e3]
  simp[e3];refine⟨_,eX _ _,?_⟩;rw[G5 hI.1 _ (by omega)];cases e4:wi r.rates[k].num 1 1073741824
  ·simp
  simp;refine⟨_,eX _ _,?_⟩;rw[G5 hI.2 _ (by omega)];cases e5:wi r.rates[k].den 1 1073741824
  ·simp
  simp;refine⟨_,eX _ _,?_⟩;rw[Ym];simp[ho e1 e2 e3 e4 e5]
 ·rw[hj];simp[RE,CV];by_cases h1:20<r.halts.length
  ·have cq:(20:Int)<r.halts.length:=by omega
   have apP:¬r.halts.length≤20:=by omega
   simp[h1,cq,apP]
  have cq:¬(20:Int)<r.halts.length:=by omega
  simp[h1,cq];refine kG r.halts.length (wO r) (fun k=>[.int 0,.int k]) (fun _=>[]) ?_ (fun k hk ho=>?_) (fun k hk ho hb=>?_) (fun hj=>?_)
  ·simp
  ·have hw:=bF hk (by omega);simp[wO,wi,hk] at ho;obtain⟨⟨a1,a2⟩,a3⟩:=ho;have b1:¬r.halts[k].fr<0:=by omega
   have b2:¬r.halts[k].to<r.halts[k].fr:=by omega
   have b3:¬100000<r.halts[k].to:=by omega
   simp[RF,CW,hk];refine⟨_,eX _ _,?_⟩;simp[a1,b1,b2,b3,hw]
  ·rw[hb];simp[wO,wi,hk] at ho;simp[RF,CW,hk];refine⟨_,eX _ _,?_⟩;cases e1:aG r.halts[k].order r.orders.length
   ·simp
   have:=ho e1;by_cases b1:r.halts[k].fr<0
   ·simp[b1]
   by_cases b2:r.halts[k].to<r.halts[k].fr
   ·simp[b1,b2]
   have b3:100000<r.halts[k].to:=this (by omega) (by omega);simp[b1,b2,b3]
  ·rw[hj];simp[RF,CW]
end Rm
namespace Rm
open Go Go.Proofs Cx
def kH:List Int→Int
 |[]=>0
 |x::l=>if x=0 then kH l else x
theorem vH:∀{l:List Int},kH l=0↔∀x,x∈l→x=0
 |[]=>by simp[kH]
 |x::l=>by
  simp only[kH,List.mem_cons,forall_eq_or_imp];by_cases h:x=0
  ·simp[h,vH (l:=l)]
  ·simp[h]
def rp (r:Realm)(i:Nat):Bool:=aG (r.firms.getD i default).city r.cities.length&&aG (r.firms.getD i default).group r.groups.length
def v9 (r:Realm)(i:Nat):Bool:=oE r (r.cities.getD i default)
def su (r:Realm)(i:Nat):Bool:=sv (r.orders.getD i default)
def F0 (r:Realm)(i:Nat):Bool:=aG (r.groups.getD i default).grade 10
def F1 (r:Realm):Int:=if 20<r.groups.length then 6 else if eK r.groups.length (F0 r) then 0 else 1
def cG (r:Realm):Int:=kH [gT r.currencies 8 (fun _=>true),gT (sn r) 40 (v9 r),F1 r,gT (pq r) 200 (rp r),gT (pv r) 20 (su r),DH r,kF r]
theorem ak6 (i:Int):ak T PN [.int i] (.bool true):=by
 refine .of_tree rfl ahv ayN ?_;simp[TH]
theorem ak7 (r:Realm)(h:Small r)(i:Nat)(hi:i<r.cities.length):ak T PO [.int i,.ref (aX r)] (.bool (v9 r i)):=by
 refine .of_tree rfl ahw ayO ?_;obtain⟨h1,h2,h3,h4⟩:=h.city _ (List.getElem_mem hi);simp[TI,hi,v9];exact awv r r.cities[i] (by omega) (by omega) (by omega)
theorem ak8 (r:Realm)(i:Nat)(hi:i<r.firms.length):ak T PQ [.int i,.ref (aX r)] (.bool (rp r i)):=by
 refine .of_tree rfl ahx ayP ?_;simp[TJ,hi,rp];refine⟨_,eX _ _,?_⟩;simp[hi];cases e1:aG r.firms[i].city r.cities.length<;>simp;exact eX _ _
theorem ak9 (r:Realm)(h:Small r)(i:Nat)(hi:i<r.orders.length):ak T PR [.int i,.ref (aX r)] (.bool (su r i)):=by
 refine .of_tree rfl ahy ayQ ?_;obtain⟨h1,h2⟩:=h.order _ (List.getElem_mem hi);simp[TK,hi,su];exact awz r.orders[i] (by omega) (by omega)
theorem Dg (r:Realm)(h:Small r):ak T aax [aX r] (.int (cG r)):=by
 refine .of_tree rfl ahu ayR ?_;have g1:=h.cur;have g2:=h.cities;have g3:=h.firms;have g4:=h.orders;have g5:=h.groups;simp[TG];refine⟨_,awy r (by omega) (by omega) (by omega),?_⟩;simp;refine⟨_,K0 r.currencies 8 PN [] (fun _=>true) (fun i _=>ak6 _) (by omega),?_⟩;unfold cG;generalize e1:gT r.currencies 8 (fun _=>true)=x1;by_cases z1:x1=0
 case neg=>simp[z1,kH]
 simp[z1,kH];refine⟨_,K0 (sn r) 40 PO [.ref (aX r)] (v9 r) (fun i hi=>ak7 r h i (by simpa [sn] using hi)) (by simp[sn];omega),?_⟩;generalize e2:gT (sn r) 40 (v9 r)=x2;by_cases z2:x2=0
 case neg=>simp[z2]
 simp[z2];by_cases z3:20<r.groups.length
 ·have UX:(20:Int)<r.groups.length:=by omega
  simp[UX,F1,z3]
 have UX:¬(20:Int)<r.groups.length:=by omega
 simp[UX,F1,z3];refine kG r.groups.length (F0 r) (fun k=>[.int 0,.int k]) (fun _=>[]) ?_ (fun k hk ho=>?_) (fun k hk ho hb=>?_) (fun hj=>?_)
 ·simp
 ·have hw:=bF hk (by omega);simp[F0,hk] at ho;simp[Rz,CQ,hk];refine⟨_,eX _ _,?_⟩;simp[ho,hw]
 ·simp[F0,hk] at ho;rw[hb];simp[Rz,CQ,hk];refine⟨_,eX _ _,?_⟩;simp[ho]
 ·rw[hj];simp[Rz,CQ];refine⟨_,K0 (pq r) 200 PQ [.ref (aX r)] (rp r) (fun i hi=>ak8 r i (by simpa [pq] using hi)) (by simp[pq];omega),?_⟩;generalize e4:gT (pq r) 200 (rp r)=x4;by_cases z4:x4=0
  case neg=>simp[z4]
  simp[z4];refine⟨_,K0 (pv r) 20 PR [.ref (aX r)] (su r) (fun i hi=>ak9 r h i (by simpa [pv] using hi)) (by simp[pv];omega),?_⟩;generalize e5:gT (pv r) 20 (su r)=x5;by_cases z5:x5=0
  case neg=>simp[z5]
  simp[z5];refine⟨_,awB r h,?_⟩;generalize e6:DH r=x6;by_cases z6:x6=0
  case neg=>simp[z6]
  simp[z6];have e7:(if kF r=0 then 0 else kF r)=kF r:=by split<;>simp_all
  rw[e7];exact awA r h
theorem Wy {l:List ByteArray}{g:Nat→Bool}{k:Nat}(h:tW l g k=0):sm l k=0∧g k=true:=by
 unfold tW at h;by_cases h1:sm l k=0
 ·simp[h1] at h;exact⟨h1,h⟩
 ·simp[h1] at h
end Rm
namespace Rm
open Go Go.Proofs Cx
def iu:Nat→Tm→Int→Int
 |0,_,_=>-1
 |L+1,t,n=>t.args.foldl (fun m a=>if 0≤m then iu L a m else m) (n-1)
theorem size_le:∀(L:Nat) (t:Tm) (n:Int),0≤n→-1≤iu L t n∧iu L t n≤n
 |0,t,n,h=>by simp[iu];omega
 |L+1,t,n,h=>by
  have key:∀(l:List Tm) (m:Int),-1≤m→m≤n→-1≤l.foldl (fun m a=>if 0≤m then iu L a m else m) m∧l.foldl (fun m a=>if 0≤m then iu L a m else m) m≤n:=by
   intro l
   induction l with
   |nil=>intro m h1 h2;exact⟨h1,h2⟩
   |cons a l ih=>
    intro m h1 h2;simp only[List.foldl_cons];split
    ·rename_i hm;have:=size_le L a m hm;exact ih _ this.1 (by omega)
    ·exact ih _ h1 h2
  exact key _ _ (by omega) (by omega)
theorem ae0 (L:Nat):∀(l:List Tm) (m:Int),m<0→l.foldl (fun m a=>if 0≤m then iu L a m else m) m=m
 |[],m,h=>rfl
 |a::l,m,h=>by simp only[List.foldl_cons];rw[if_neg (by omega)];exact ae0 L l m h
theorem apu {α β:Type}(f:β→α→β)(b:β){l:List α}{k:Nat}(h:k<l.length):(l.take (k+1)).foldl f b=f ((l.take k).foldl f b) l[k]:=by
 rw[List.take_succ_eq_append_getElem h,List.foldl_append];rfl
theorem apt {α β:Type}(f:β→α→β)(b:β)(l:List α)(k:Nat):l.foldl f b=(l.drop k).foldl f ((l.take k).foldl f b):=by
 rw[←List.foldl_append,List.take_append_drop]
theorem _root_.Cx.Tm.OK.len {t:Tm}(h:t.OK):t.args.length≤9223372036854775807:=by cases h with|mk o n xs h1 h2 h3 h4=>exact h3
theorem _root_.Cx.Tm.OK.arg {t:Tm}(h:t.OK){a:Tm}(ha:a∈t.args):a.OK:=by cases h with|mk o n xs h1 h2 h3 h4=>exact h4 a ha
theorem adZ:∀(L:Nat) (t:Tm) (n:Int),t.OK→0≤n→n≤1000→L≤1000→ak T aar [du t,.int n,.int L] (.int (iu L t n))
 |0,t,n,ht,h0,h1,hL=>by
  refine .of_tree rfl Vp afg ?_;simp[LA,iu]
 |L+1,t,n,ht,h0,h1,hL=>by
  refine .of_tree rfl Vp afg ?_;have pg:IntKind.i64.wrap (n-1)=n-1:=aU (by omega);have hl:=ht.len;have iJ:¬((L:Int)+1<1):=by omega
  simp[LA,pg,iJ]
  let g:Nat→Int:=fun k=>(t.args.take k).foldl (fun m a=>if 0≤m then iu L a m else m) (n-1)
  have gb:∀k,-1≤g k∧g k≤1000:=by
   intro k;have:g k=iu (L+1) (.mk 0 0 (t.args.take k)) n:=rfl;have:=size_le (L+1) (.mk 0 0 (t.args.take k)) n h0;omega
  refine .scan t.args.length (fun k=>0≤g k) (fun k=>[.int (g k),.int k]) (fun _=>[]) ?_ (fun k hk hj ho=>?_) (fun k hk hj ho=>?_) (fun hj=>?_)
  ·simp[g,pg]
  ·have hw:IntKind.i64.wrap ((k:Int)+1)=(k:Int)+1:=aU (by omega);have G1:IntKind.i64.wrap (L:Int)=(L:Int):=aU (by omega);have hg:g (k+1)=iu L t.args[k] (g k):=by
    show(t.args.take (k+1)).foldl _ _=_;rw[apu _ _ hk];show(if 0≤g k then _ else _)=_;rw[if_pos ho]
   rw[hg];have gl:=adZ L t.args[k] (g k) (ht.arg (List.getElem_mem hk)) ho (gb k).2 (by omega);generalize g k=m at*;simp[Rw,CN,hk,ho,G1];refine⟨_,gl,?_⟩;simp[hw]
  ·have hf:iu (L+1) t n=g k:=by
    show t.args.foldl _ _=_;rw[apt _ _ _ k];exact ae0 L _ _ (by show g k<0;omega)
   rw[hf];generalize g k=m at*;simp[Rw,CN,hk,ho]
  ·have hf:iu (L+1) t n=g t.args.length:=by
    show t.args.foldl _ _=(t.args.take t.args.length).foldl _ _;rw[List.take_length]
   rw[hf];generalize g t.args.length=m at*;simp[Rw,CN]
theorem adY (t:Tm)(ht:t.OK):ak T aaq [du t] (.bool (decide (0≤iu 20 t 100))):=by
 refine .of_tree rfl aho ayH ?_;simp[TA];refine⟨_,adZ 20 t 100 ht (by omega) (by omega) (by omega),?_⟩;simp
def oL (o:Order):Bool:=(decide (o.rules.length≤60)&&decide (o.choices.length≤60))&&eK o.rules.length (fun k=>decide (0≤iu 20 (o.rules.getD k default).term 100))
theorem ad0 (o:Order)(ho:o.OK):ak T aas [jd o] (.bool (oL o)):=by
 refine .of_tree rfl ahp ayI ?_;simp[TB];by_cases h1:(o.rules.length:Int)≤60
 case neg=>
  have cq:(60:Int)<o.rules.length:=by omega
  have hf:oL o=false:=by
   have:decide (o.rules.length≤60)=false:=decide_eq_false (by omega);simp only[oL,this,Bool.false_and]
  simp[cq,hf]
 by_cases h2:(o.choices.length:Int)≤60
 case neg=>
  have cq:(60:Int)<o.choices.length:=by omega
  have hf:oL o=false:=by
   have:decide (o.choices.length≤60)=false:=decide_eq_false (by omega);simp only[oL,this,Bool.false_and,Bool.and_false]
  simp[cq,hf]
 have cq:¬(60:Int)<o.rules.length:=by omega
 have fR:¬(60:Int)<o.choices.length:=by omega
 have hf:oL o=eK o.rules.length (fun k=>decide (0≤iu 20 (o.rules.getD k default).term 100)):=by
  have e1:decide (o.rules.length≤60)=true:=decide_eq_true (by omega);have e2:decide (o.choices.length≤60)=true:=decide_eq_true (by omega);simp only[oL,e1,e2,Bool.true_and]
 rw[hf];simp[cq,fR];have hO:=ho.2.2;refine kG o.rules.length (fun k=>decide (0≤iu 20 (o.rules.getD k default).term 100)) (fun k=>[.bool false,.int k]) (fun _=>[]) ?_ (fun k hk ho=>?_) (fun k hk ho hb=>?_) (fun hj=>?_)
 ·simp
 ·have hw:=bF hk (by omega);simp[hk] at ho;simp[Rx,CO,hk];refine⟨_,adY _ (hO _ (List.getElem_mem hk)).2,?_⟩;simp[ho,hw]
 ·simp only[List.getD_eq_getElem?_getD] at hb;rw[hb];simp[hk] at ho;simp[Rx,CO,hk];refine⟨_,adY _ (hO _ (List.getElem_mem hk)).2,?_⟩;simp[ho]
 ·simp only[List.getD_eq_getElem?_getD] at hj;rw[hj];simp[Rx,CO]
def AJ (f:File):Bool:=decide ((f.signs.length:Int)≤50)&&decide ((f.alters.length:Int)≤10)&&decide ((f.acts.length:Int)≤110)&&decide ((f.facts.length:Int)≤220)
theorem awd (f:File):ak T aap [bU f] (.bool (AJ f)):=by
 refine .of_tree rfl ahn ayG ?_;simp[Tz,AJ];by_cases h1:(f.signs.length:Int)≤50<;>by_cases h2:(f.alters.length:Int)≤10<;>by_cases h3:(f.acts.length:Int)≤110<;>by_cases h4:(f.facts.length:Int)≤220<;>
  simp[h1,h2,h3,h4]
end Rm
namespace Rm
open Go Go.Proofs Cx
def AH (r:Realm)(k:Nat):Bool:=decide (((r.cities.getD k default).feasts.length:Int)≤70)&&decide (((r.cities.getD k default).shut.length:Int)≤210)&&decide (((r.cities.getD k default).rest.length:Int)≤8)
def AI (r:Realm)(k:Nat):Bool:=decide (((r.orders.getD k default).choices.length:Int)≤40)&&decide (((r.orders.getD k default).rules.length:Int)≤40)
def FT (r:Realm):Bool:=decide ((r.currencies.length:Int)<50)&&decide ((r.cities.length:Int)<50)&&decide ((r.groups.length:Int)<50)&&decide ((r.firms.length:Int)<210)&&decide ((r.orders.length:Int)<50)&&decide ((r.usances.length:Int)<110)&&decide ((r.rates.length:Int)<110)&&decide ((r.halts.length:Int)<50)
def nw (r:Realm):Bool:=eK (min r.cities.length 50) (AH r)&&eK (min r.orders.length 50) (AI r)&&FT r
theorem av7 (r:Realm)(hr:r.OK):ak T aao [aX r] (.bool (nw r)):=by
 refine .of_tree rfl ahl ayE ?_;simp[Tw];refine kG (min r.cities.length 50) (AH r) (fun k=>[.bool false,.int k]) (fun _=>[]) ?_ (fun k hk ho=>?_) (fun k hk ho hb=>?_) (fun hj=>?_)
 ·simp
 ·have cr:k<r.cities.length:=by omega
  have cl:k<50:=by omega
  have hw:=bF cl (by omega);simp[AH,cr] at ho;obtain⟨⟨a1,a2⟩,a3⟩:=ho;have b1:¬(70:Int)<r.cities[k].feasts.length:=by omega
  have b2:¬(210:Int)<r.cities[k].shut.length:=by omega
  have b3:¬(8:Int)<r.cities[k].rest.length:=by omega
  simp[CM,vB,cr,cl,hw,b1,b2,b3];omega
 ·have cr:k<r.cities.length:=by omega
  have cl:k<50:=by omega
  have hf:nw r=false:=by simp only[nw,hb,Bool.false_and]
  rw[hf];simp[AH,cr] at ho;by_cases b1:(70:Int)<r.cities[k].feasts.length
  ·simp[CM,vB,cr,cl,b1];omega
  by_cases b2:(210:Int)<r.cities[k].shut.length
  ·simp[CM,vB,cr,cl,b1,b2];omega
  have b3:(8:Int)<r.cities[k].rest.length:=by have:=ho (by omega) (by omega);omega
  simp[CM,vB,cr,cl,b1,b2,b3];omega
 ·have hn:¬((min r.cities.length 50:Nat):Int)<r.cities.length∨¬((min r.cities.length 50:Nat):Int)<50:=by omega
  simp[CM,vB];rw[if_neg (by omega)];refine kG (min r.orders.length 50) (AI r) (fun k=>[.bool false,.int k]) (fun _=>[]) ?_ (fun k hk ho=>?_) (fun k hk ho hb=>?_) (fun Bk=>?_)
  ·simp
  ·have cr:k<r.orders.length:=by omega
   have cl:k<50:=by omega
   have hw:=bF cl (by omega);simp[AI,cr] at ho;obtain⟨a1,a2⟩:=ho;have b1:¬(40:Int)<r.orders[k].choices.length:=by omega
   have b2:¬(40:Int)<r.orders[k].rules.length:=by omega
   simp[KO,yw,cr,cl,hw,b1,b2];omega
  ·have cr:k<r.orders.length:=by omega
   have cl:k<50:=by omega
   have hf:nw r=false:=by simp only[nw,hb,Bool.false_and,Bool.and_false]
   rw[hf];simp[AI,cr] at ho;by_cases b1:(40:Int)<r.orders[k].choices.length
   ·simp[KO,yw,cr,cl,b1];omega
   have b2:(40:Int)<r.orders[k].rules.length:=by have:=ho (by omega);omega
   simp[KO,yw,cr,cl,b1,b2];omega
  ·have hf:nw r=FT r:=by simp only[nw,hj,Bk,Bool.true_and]
   rw[hf];simp[KO,yw];rw[if_neg (by omega)];unfold FT;by_cases c1:(r.currencies.length:Int)<50<;>simp[c1];by_cases c2:(r.cities.length:Int)<50<;>simp[c2];by_cases c3:(r.groups.length:Int)<50<;>simp[c3];by_cases c4:(r.firms.length:Int)<210<;>simp[c4];by_cases c5:(r.orders.length:Int)<50<;>simp[c5];by_cases c6:(r.usances.length:Int)<110<;>simp[c6];by_cases c7:(r.rates.length:Int)<110<;>simp[c7]
theorem Nl {r:Realm}(hr:r.OK)(h:nw r=true):Small r:=by
 simp only[nw,FT,Bool.and_eq_true,decide_eq_true_eq,vX] at h;obtain⟨⟨h1,h2⟩,⟨⟨⟨⟨⟨⟨⟨c1,c2⟩,c3⟩,c4⟩,c5⟩,c6⟩,c7⟩,c8⟩⟩:=h;obtain⟨k1,⟨k2,k2'⟩,⟨k3,k3'⟩,⟨k4,k4'⟩,⟨k5,k5'⟩,⟨k6,k6'⟩,⟨k7,k7'⟩,⟨k8,k8'⟩⟩:=hr;refine⟨by omega,by omega,by omega,by omega,by omega,by omega,by omega,by omega,fun c hc=>?_,fun o ho=>?_,fun x hx=>?_⟩
 ·obtain⟨k,hk,rfl⟩:=List.getElem_of_mem hc;have:=h1 k (by omega);simp[AH,hk] at this;have:=k2' _ hc;exact⟨by omega,by omega,by omega,fun y hy=>this.2.2.2.1.2 y hy⟩
 ·obtain⟨k,hk,rfl⟩:=List.getElem_of_mem ho;have:=h2 k (by omega);simp[AI,hk] at this;omega
 ·have:=k7' x hx;exact⟨this.2.2.1,this.2.2.2.1⟩
def oK (r:Realm)(f:File):Bool:=(nw r&&AJ f)&&eK r.orders.length (fun k=>oL (r.orders.getD k default))
theorem awe (r:Realm)(f:File)(hr:r.OK):ak T aat [aX r,bU f] (.bool (oK r f)):=by
 refine .of_tree rfl ahq ayJ ?_;simp[TC];refine⟨_,av7 r hr,?_⟩;cases e1:nw r
 ·simp[oK,e1]
 simp;refine⟨_,awd f,?_⟩;cases e2:AJ f
 ·simp[oK,e1,e2]
 have hs:=Nl hr e1;have ho:=hs.orders;have hf:oK r f=eK r.orders.length (fun k=>oL (r.orders.getD k default)):=by simp only[oK,e1,e2,Bool.true_and]
 rw[hf];simp;have hO:=hr.2.2.2.2.1.2;refine kG r.orders.length (fun k=>oL (r.orders.getD k default)) (fun k=>[.bool false,.int k]) (fun _=>[]) ?_ (fun k hk ho=>?_) (fun k hk ho hb=>?_) (fun hj=>?_)
 ·simp
 ·have hw:=bF hk (by omega);simp[hk] at ho;simp[Ry,CP,hk];refine⟨_,ad0 _ (hO _ (List.getElem_mem hk)),?_⟩;simp[ho,hw]
 ·simp only[List.getD_eq_getElem?_getD] at hb;rw[hb];simp[hk] at ho;simp[Ry,CP,hk];refine⟨_,ad0 _ (hO _ (List.getElem_mem hk)),?_⟩;simp[ho]
 ·simp only[List.getD_eq_getElem?_getD] at hj;rw[hj];simp[Ry,CP]
def wK (r:Realm)(f:File):Bool:=oK r f&&decide (cG r=0)
def np (n:Int):Int:=min (max n (-1099511627776)) 1099511627776
theorem Lq (n:Int):ak T aba [.int n] (.int (np n)):=by
 refine .of_tree rfl aid azw ?_;simp[Us,np];by_cases h1:-1099511627776>n
 ·have:¬(1099511627776:Int)< -1099511627776:=by omega
  simp[h1];omega
 ·by_cases h2:(1099511627776:Int)<n
  ·simp[h1,h2];omega
  ·simp[h1,h2];omega
def kM (v:Int):Int×Bool:=if v<0∨19<v then(0,false) else if v<7 then(0,true) else(1,true)
theorem afa (v:Int):ak T aa6 [.int v] (.tup [.int (kM v).1,.bool (kM v).2]):=by
 refine .of_tree rfl ah9 azs ?_;simp[Uo,kM];by_cases h1:v<0
 ·simp[h1]
 by_cases h2:19<v
 ·simp[h1,h2]
 by_cases h3:v<7
 ·simp[h1,h2,h3]
 ·simp[h1,h2,h3]
def B1 (t:Tm):Int×Int:=
 if 0<t.args.length then(0,2) else if t.op=0 then(if np t.n≠t.n then(0,3) else(0,0)) else if t.op=1 then(if t.n<0∨1<t.n then(0,3) else(1,0)) else if(kM t.n).2=false then(0,10) else((kM t.n).1,0)
theorem axu (t:Tm):ak T abb [du t] (.tup [.int (B1 t).1,.int (B1 t).2]):=by
 refine .of_tree rfl aie azx ?_;simp[Ut,B1];by_cases h0:0<t.args.length
 ·have jf:(0:Int)<t.args.length:=by omega
  simp[h0,jf]
 simp[h0];by_cases h1:t.op=0
 ·simp[h1];refine⟨_,Lq _,?_⟩;by_cases h2:np t.n=t.n<;>simp[h2]
 by_cases h2:t.op=1
 ·simp[h1,h2];by_cases h3:t.n<0<;>by_cases h4:1<t.n<;>simp[h3,h4]
 simp[h1,h2];refine⟨_,afa _,?_⟩;cases h3:(kM t.n).2<;>simp[h3]
def eg (op:Int):List Int×Int:=
 if op=3 then([1],1) else if op=4∨op=5 then([1,1],1) else if op=6 then([1,-1,-1],-1) else if op=7 then([0,0],1) else if op=8 then([-1,-1],1) else([0,0],0)
def AE (s:List Int×Int):D:=.agg [ints s.1,.int s.2]
@[simp] theorem aB8 (s:List Int×Int):(AE s).cells=[ints s.1,.int s.2]:=_root_.id rfl
@[simp] theorem aB6 (s:List Int×Int):(AE s).c 0=ints s.1:=_root_.id rfl
@[simp] theorem aB7 (s:List Int×Int):(AE s).c 1=.int s.2:=_root_.id rfl
@[simp] theorem aGp (s:List Int×Int):D.agg [ints s.1,.int s.2]=AE s:=_root_.id rfl
@[simp] theorem aHj (x y:Int):sY (.int x) 0 (.int y)=.int y:=_root_.id rfl
theorem axw (op:Int):ak T abf [.int op] (AE (eg op)):=by
 refine .of_tree rfl aij azB ?_;simp[Uw,eg];by_cases h3:op=3
 ·simp[h3];rfl
 by_cases h4:op=4
 ·simp[h4];rfl
 by_cases h5:op=5
 ·simp[h5];rfl
 by_cases h6:op=6
 ·simp[h6];rfl
 by_cases h7:op=7
 ·simp[h7];rfl
 by_cases h8:op=8
 ·simp[h8];rfl
 simp[h3,h4,h5,h6,h7,h8];rfl
end Rm
namespace Rm
open Go Go.Proofs Cx
def eU (f:Tm→Int):List Tm→Int→Int
 |[],n=>n
 |a::l,n=>if 60<n+f a then n+f a else eU f l (n+f a)
def cv:Nat→Tm→Int
 |0,_=>61
 |L+1,t=>eU (cv L) t.args 1
def dx (f:Tm→Int)(l:List Tm):Int:=(l.map f).sum
theorem Hk {f:Tm→Int}{l:List Tm}{k:Nat}(h:k<l.length):dx f (l.take (k+1))=dx f (l.take k)+f l[k]:=by
 unfold dx;rw[yL f h,List.sum_append];simp
theorem Zi {f:Tm→Int}:∀{l:List Tm} {n:Int} {k:Nat},(hk:k<l.length)→(∀j,j<k→n+dx f (l.take (j+1))≤60)→60<n+dx f (l.take (k+1))→eU f l n=n+dx f (l.take (k+1))
 |a::l,n,0,hk,_,h=>by
  simp[dx] at h ⊢;unfold eU;rw[if_pos (by omega)]
 |a::l,n,k+1,hk,hj,h=>by
  have h0:=hj 0 (by omega);simp[dx] at h0;unfold eU;rw[if_neg (by omega)];have e:∀j,n+dx f ((a::l).take (j+1+1))=n+f a+dx f (l.take (j+1)):=by intro j;simp[dx];omega
  rw[Zi (l:=l) (k:=k) (by simpa using hk) (fun j Gy=>by have:=hj (j+1) (by omega);rw[e] at this;exact this) (by rw[←e];exact h),e]
theorem Zk {f:Tm→Int}:∀{l:List Tm} {n:Int},(∀j,j<l.length→n+dx f (l.take (j+1))≤60)→eU f l n=n+dx f l
 |[],n,_=>by simp[eU,dx]
 |a::l,n,hj=>by
  have h0:=hj 0 (by simp);simp[dx] at h0;unfold eU;rw[if_neg (by omega)];have e:∀j,n+dx f ((a::l).take (j+1+1))=n+f a+dx f (l.take (j+1)):=by intro j;simp[dx];omega
  rw[Zk (l:=l) (fun j dW=>by have:=hj (j+1) (by simpa using dW);rw[e] at this;exact this)];simp[dx];omega
theorem Zj {f:Tm→Int}(hf:∀a,1≤f a):∀{l:List Tm} {n:Int},n≤eU f l n
 |[],n=>by simp[eU]
 |a::l,n=>by
  unfold eU;have:=hf a;split
  ·omega
  ·have:=Zj hf (l:=l) (n:=n+f a);omega
theorem vd:∀(L:Nat) (t:Tm),1≤cv L t
 |0,t=>by simp[cv]
 |L+1,t=>Zj (vd L)
theorem Zl {f:Tm→Int}{B:Int}(hf:∀a,f a≤B)(hB:0≤B):∀{l:List Tm} {n:Int},n≤60→eU f l n≤60+B
 |[],n,h=>by simp[eU];omega
 |a::l,n,h=>by
  unfold eU;have:=hf a;split
  ·omega
  ·exact Zl hf hB (by omega)
theorem Zn:∀(L:Nat) (t:Tm),cv L t≤61+60*L
 |0,t=>by simp[cv]
 |L+1,t=>by
  have:=Zl (f:=cv L) (fun a=>Zn L a) (by omega) (l:=t.args) (n:=1) (by omega);show eU _ _ _≤_;omega
theorem Zm {f:Tm→Int}(hf:∀a,1≤f a):∀{l:List Tm} {n:Int},eU f l n≤60→(n:Int)+l.length≤60∧∀a,a∈l→f a≤60-n
 |[],n,h=>by simp[eU] at h ⊢;exact h
 |a::l,n,h=>by
  unfold eU at h;have:=hf a;split at h
  ·omega
  ·obtain⟨h1,h2⟩:=Zm hf h;refine⟨by simp;omega,fun b hb=>?_⟩;rcases List.mem_cons.1 hb with rfl|hb
   ·omega
   ·have:=h2 b hb;omega
theorem Px {L:Nat}{t:Tm}(h:cv (L+1) t≤60):t.args.length≤59∧∀a,a∈t.args→cv L a≤60:=by
 obtain⟨h1,h2⟩:=Zm (vd L) h;exact⟨by omega,fun a ha=>by have:=h2 a ha;omega⟩
theorem Sp:∀(L:Nat) (t:Tm) (lv:Int),t.OK→L≤8→lv=9-(L:Int)→ak T abd [du t,.int lv] (.int (cv L t))
 |0,t,lv,ht,hL,N7=>by
  refine .of_tree rfl Vs afj ?_;subst N7;simp[LG,cv]
 |L+1,t,lv,ht,hL,N7=>by
  refine .of_tree rfl Vs afj ?_;have hl:=ht.len;have h8:¬(8<lv):=by omega
  have G1:IntKind.i64.wrap (lv+1)=lv+1:=aU (by omega);simp[LG,h8];refine .scan t.args.length (fun k=>1+dx (cv L) (t.args.take (k+1))≤60) (fun k=>[.int (1+dx (cv L) (t.args.take k)),.int k]) (fun _=>[]) ?_ (fun k hk hj ho=>?_) (fun k hk hj ho=>?_) (fun hj=>?_)
  ·simp[dx]
  all_goals try rw[Hk hk] at ho
  ·have hw:IntKind.i64.wrap ((k:Int)+1)=(k:Int)+1:=aU (by omega);have gl:=Sp L t.args[k] (lv+1) (ht.arg (List.getElem_mem hk)) (by omega) (by omega);rw[Hk hk];have hs:0≤dx (cv L) (t.args.take k):=by
    unfold dx;have:∀(l:List Tm),0≤(l.map (cv L)).sum:=by
     intro l
     induction l with
     |nil=>simp
     |cons a l ih=>have:=vd L a;simp;omega
    exact this _
   have gX:=vd L t.args[k];generalize dx (cv L) (t.args.take k)=m at*;generalize cv L t.args[k]=v at*;have qs:IntKind.i64.wrap (1+m+v)=1+m+v:=aU (by omega);have dB:¬60<1+m+v:=by omega
   simp[RX,Dc,hk,G1];refine⟨_,gl,?_⟩;simp[qs,dB,hw];omega
  ·have gl:=Sp L t.args[k] (lv+1) (ht.arg (List.getElem_mem hk)) (by omega) (by omega);have hf:cv (L+1) t=1+dx (cv L) (t.args.take (k+1)):=Zi hk hj (by rw[Hk hk];omega);rw[hf,Hk hk];have hs:0≤dx (cv L) (t.args.take k)∧1+dx (cv L) (t.args.take k)≤60:=by
    constructor
    ·unfold dx;have:∀(l:List Tm),0≤(l.map (cv L)).sum:=by
       intro l
       induction l with
       |nil=>simp
       |cons a l ih=>have:=vd L a;simp;omega
     exact this _
    ·cases k with
     |zero=>simp[dx]
     |succ k=>exact hj k (by omega)
   have gX:=vd L t.args[k];have dK:=Zn L t.args[k];generalize dx (cv L) (t.args.take k)=m at*;generalize cv L t.args[k]=v at*;have qs:IntKind.i64.wrap (1+m+v)=1+m+v:=aU (by omega);have dB:60<1+m+v:=by omega
   simp[RX,Dc,hk,G1];refine⟨_,gl,?_⟩;simp[qs,dB];omega
  ·have hf:cv (L+1) t=1+dx (cv L) t.args:=Zk hj;rw[hf];simp[RX,Dc]
def lO (ws ts:List Int):Nat→Int
 |0=>-1
 |k+1=>if ws.getD k 0=-1∧lO ws ts k=-1 then ts.getD k 0 else lO ws ts k
def mG (ws ts:List Int)(k:Nat):Bool:=if ws.getD k 0=-1 then decide (lO ws ts k=-1)||decide (ts.getD k 0=lO ws ts k) else decide (ts.getD k 0=ws.getD k 0)
def vf (t:Tm)(ks:List Int):Int×Int:=
 if t.op<0∨13<t.op then(0,1) else if t.op=0∨t.op=1∨t.op=2 then B1 t else
 if ks.length≠(eg t.op).1.length∨t.n≠0 then(0,2) else
 if eK (eg t.op).1.length (mG (eg t.op).1 ks)=false then(0,11) else if(eg t.op).2=-1 then(lO (eg t.op).1 ks (eg t.op).1.length,0) else((eg t.op).2,0)
def bY:Nat→Tm→Int×Int
 |0,_=>(0,0)
 |L+1,t=>if eL t.args.length (fun k=>(bY L (t.args.getD k default)).2)≠0 then(0,eL t.args.length (fun k=>(bY L (t.args.getD k default)).2)) else vf t (t.args.map fun a=>(bY L a).1)
theorem MX (L:Nat)(t:Tm):bY (L+1) t=if eL t.args.length (fun k=>(bY L (t.args.getD k default)).2)≠0 then(0,eL t.args.length (fun k=>(bY L (t.args.getD k default)).2)) else vf t (t.args.map fun a=>(bY L a).1):=rfl
theorem Sf {α:Type}(A:List α)(z:α){k n:Nat}(hA:A.length=n)(hk:k<n):(A.take k++List.replicate (n-k) z).set k A[k]=A.take (k+1)++List.replicate (n-(k+1)) z:=by
 have h1:(A.take k).length=k:=by rw[List.length_take];omega
 rw[List.set_append_right _ _ (by omega),h1,Nat.sub_self];have:n-k=(n-(k+1))+1:=by omega
 rw[this,List.replicate_succ,List.set_cons_zero,List.take_succ_eq_append_getElem (by omega),List.append_assoc];rfl
theorem aw8 (op:Int):(eg op).1.length≤3:=by
 unfold eg;repeat' split
 all_goals simp
theorem So:∀(L:Nat) (t:Tm),t.OK→cv L t≤60→ak T aa8 [du t] (.tup [.int (bY L t).1,.int (bY L t).2])
 |0,t,ht,hm=>by simp[cv] at hm
 |L+1,t,ht,hm=>by
  refine .of_tree rfl aib azu ?_;obtain⟨hl,hp⟩:=Px hm;simp[Uq];refine⟨by omega,?_⟩;refine vG t.args.length (fun k=>(bY L (t.args.getD k default)).2) (fun k=>[.int 0,.int 0,.int k]) (fun k=>[ints ((t.args.map fun a=>(bY L a).1).take k++List.replicate (t.args.length-k) 0)]) ?_ (fun k hk ho=>?_) (fun k hk ho hb=>?_) (fun hj=>?_)
  ·simp[ints]
  ·have hw:=bF hk (by omega);have cI:=List.getElem_mem hk;have gl:=So L t.args[k] (ht.arg cI) (hp _ cI);have hs:=Sf (t.args.map fun a=>(bY L a).1) 0 (n:=t.args.length) (by simp) hk;rw[←hs];have hlen:((t.args.map fun a=>(bY L a).1).take k++List.replicate (t.args.length-k) (0:Int)).length=t.args.length:=by simp;omega
   have hgk:(t.args.map fun a=>(bY L a).1)[k]'(by simpa using hk)=(bY L t.args[k]).1:=by simp
   rw[hgk];generalize (t.args.map fun a=>(bY L a).1).take k++List.replicate (t.args.length-k) (0:Int)=A at*;simp[hk] at ho;rw[ho] at gl;generalize (bY L t.args[k]).1=kd at*;simp[RV,Da,hk];refine⟨_,gl,?_⟩;simp[hlen,hk,hw,ints]
  ·have cI:=List.getElem_mem hk;have gl:=So L t.args[k] (ht.arg cI) (hp _ cI);have hf:bY (L+1) t=(0,(bY L (t.args.getD k default)).2):=by
    rw[MX,hb,if_pos ho]
   rw[hf];simp[hk] at ho ⊢;simp[RV,Da,hk];refine⟨_,gl,?_⟩;simp[ho]
  ·have hf:bY (L+1) t=vf t (t.args.map fun a=>(bY L a).1):=by
    rw[MX,hj];simp
   rw[hf]
   have e0:(t.args.map fun a=>(bY L a).1).take t.args.length++List.replicate (t.args.length-t.args.length) 0=t.args.map fun a=>(bY L a).1:=by
    rw[Nat.sub_self,List.take_of_length_le (by simp)];simp
   rw[e0];have Xz:(t.args.map fun a=>(bY L a).1).length=t.args.length:=by simp
   generalize (t.args.map fun a=>(bY L a).1)=ks at*;simp[RV,Da];unfold vf;by_cases h1:t.op<0
   ·simp[h1]
   by_cases h2:13<t.op
   ·simp[h1,h2]
   simp[h1,h2];by_cases h3:t.op=0∨t.op=1∨t.op=2
   ·have jO:(t.op=0∨t.op=1)∨t.op=2:=by omega
    simp[h3,jO];refine⟨_,axu t,?_⟩;simp
   have jO:¬((t.op=0∨t.op=1)∨t.op=2):=by omega
   simp[h3,jO];refine⟨_,axw _,?_⟩;have hsl:=aw8 t.op;generalize eg t.op=sh at*;simp;by_cases h4:ks.length=sh.1.length
   case neg=>
    have ly:¬((ks.length:Int)=sh.1.length):=by omega
    have F8:¬t.args.length=sh.1.length:=by omega
    simp[h4,ly,F8]
   have ly:(ks.length:Int)=sh.1.length:=by omega
   have F8:t.args.length=sh.1.length:=by omega
   by_cases h5:t.n=0
   case neg=>simp[h4,ly,F8,h5]
   simp[h4,ly,F8,h5];refine kG sh.1.length (mG sh.1 ks) (fun k=>[.int 0,.int 0,.int (lO sh.1 ks k),.int k]) (fun _=>[]) ?_ (fun k hk ho=>?_) (fun k hk ho hb=>?_) (fun hj=>?_)
   ·simp[lO]
   ·have hw:=bF hk (by omega);have cl:k<ks.length:=by omega
    simp only[lO];unfold mG at ho;simp only[List.getD_eq_getElem?_getD,List.getElem?_eq_getElem hk,List.getElem?_eq_getElem cl,Option.getD_some] at ho ⊢;generalize lO sh.1 ks k=c at*;by_cases a1:sh.1[k]=-1
    ·by_cases a2:c=-1
     ·simp[yB,sO,hk,cl,hw,ints,a1,a2]
     ·simp[a1,a2] at ho;simp[yB,sO,hk,cl,hw,ints,a1,a2,ho]
    ·simp[a1] at ho;simp[yB,sO,hk,cl,hw,ints,a1,ho]
   ·rw[hb];have cl:k<ks.length:=by omega
    unfold mG at ho;simp only[List.getD_eq_getElem?_getD,List.getElem?_eq_getElem hk,List.getElem?_eq_getElem cl,Option.getD_some] at ho;generalize lO sh.1 ks k=c at*;by_cases a1:sh.1[k]=-1
    ·by_cases a2:c=-1
     ·simp[a1,a2] at ho
     ·simp[a1,a2] at ho;simp[yB,sO,hk,cl,ints,a1,a2,ho]
    ·simp[a1] at ho;simp[yB,sO,hk,cl,ints,a1,ho]
   ·rw[hj];simp[yB,sO];by_cases a1:sh.2=-1<;>simp[a1]
def mc (t:Tm):Int×Int:=if 60<cv 8 t then(0,6) else bY 8 t
theorem ae9 (t:Tm)(ht:t.OK):ak T aa4 [du t] (.tup [.int (mc t).1,.int (mc t).2]):=by
 refine .of_tree rfl ah7 azq ?_;simp[Um,mc];refine⟨_,Sp 8 t 1 ht (by omega) (by omega),?_⟩;by_cases h:60<cv 8 t
 ·simp[h]
 simp[h];refine⟨_,So 8 t ht (by omega),?_⟩;simp
end Rm
namespace Rm
open Go Go.Proofs Cx
abbrev u (n:Nat):D:=.v (.int .u64 n)
theorem LN (n:Int):IntKind.u64.wrap n=n%18446744073709551616:=rfl
theorem gQ {n:Int}(h:0≤n∧n<18446744073709551616):IntKind.u64.wrap n=n:=by
 rw[LN];omega
theorem dI {n:Nat}(h:n<18446744073709551616):IntKind.u64.wrap (n:Int)=n:=gQ (by omega)
theorem Lg (a s:Nat)(h:s≤64):bJ .shr .u64 a s=((a/2^s:Nat):Int):=by
 show Int.fdiv (a:Int) (2^(min (s:Int).toNat 64))=_;have:min (s:Int).toNat 64=s:=by simp;omega
 rw[this,Int.fdiv_eq_ediv_of_nonneg _ (Int.le_of_lt (Int.pow_pos (by decide)))];rw[Int.natCast_ediv,Int.natCast_pow];rfl
theorem Si (a s:Nat)(h:s≤64):bJ .shl .u64 a s=((a*2^s%18446744073709551616:Nat):Int):=by
 show IntKind.u64.wrap ((a:Int)*(2^(min (s:Int).toNat 64)))=_;have:min (s:Int).toNat 64=s:=by simp;omega
 rw[this,LN,Int.natCast_emod,Int.natCast_mul,Int.natCast_pow];rfl
theorem za (a:Nat)(h:a<18446744073709551616):bJ .and .u64 a 4294967295=((a%4294967296:Nat):Int):=by
 show IntKind.u64.wrap ((BitVec.ofInt 64 (a:Int)&&& BitVec.ofInt 64 4294967295).toNat:Nat)=_;have e:(BitVec.ofInt 64 (a:Int)&&& BitVec.ofInt 64 4294967295).toNat=a%4294967296:=by
  rw[BitVec.toNat_and];have e1:(BitVec.ofInt 64 (a:Int)).toNat=a:=by simp[BitVec.ofInt,BitVec.toNat_ofNat];omega
  have e2:(BitVec.ofInt 64 4294967295).toNat=2^32-1:=by decide
  rw[e1,e2,Nat.and_two_pow_sub_one_eq_mod]
 rw[e,dI (by omega)]
@[simp] theorem dH (a:Nat):bJ .shr .u64 a 32=((a/4294967296:Nat):Int):=Lg a 32 (by decide)
@[simp] theorem aG4 (a:Nat):bJ .shr .u64 a 16=((a/65536:Nat):Int):=Lg a 16 (by decide)
@[simp] theorem aG5 (a:Nat):bJ .shr .u64 a 8=((a/256:Nat):Int):=Lg a 8 (by decide)
set_option maxHeartbeats 2000000 in
theorem PB (a b:Nat)(ha:a<18446744073709551616)(hb:b<18446744073709551616):ak T ZO [u a,u b] (.tup [u (a*b/18446744073709551616),u (a*b%18446744073709551616)]):=by
 refine .of_tree rfl agL ax3 ?_;obtain⟨h1,h2,h3,h4⟩:=Go.Lib.mul64_hi a b ha hb;have elo:IntKind.u64.wrap ((a:Int)*(b:Int))=((a*b%18446744073709551616:Nat):Int):=by rw[LN,Int.natCast_emod,Int.natCast_mul];rfl
 have Nb:bJ .shr .u64 (a:Int) 32=((a/4294967296:Nat):Int):=dH a;have ea0:bJ .and .u64 (a:Int) 4294967295=((a%4294967296:Nat):Int):=za a ha;have Nc:bJ .shr .u64 (b:Int) 32=((b/4294967296:Nat):Int):=dH b;have eb0:bJ .and .u64 (b:Int) 4294967295=((b%4294967296:Nat):Int):=za b hb;have aFv:=Go.Lib.half_mul_le (a:=a/4294967296) (b:=b/4294967296) (by omega) (by omega);have aFu:=Go.Lib.half_mul_le (a:=a/4294967296) (b:=b%4294967296) (by omega) (by omega);have aFt:=Go.Lib.half_mul_le (a:=a%4294967296) (b:=b/4294967296) (by omega) (by omega);have aFs:=Go.Lib.half_mul_le (a:=a%4294967296) (b:=b%4294967296) (by omega) (by omega);have uu:a*b/18446744073709551616<18446744073709551616:=by
  have:a*b<18446744073709551616*18446744073709551616:=Nat.mul_lt_mul'' ha hb;exact Nat.div_lt_of_lt_mul this
 simp only[SS];generalize a/4294967296=a1 at*;generalize a%4294967296=a0 at*;generalize b/4294967296=b1 at*;generalize b%4294967296=b0 at*;have p11:IntKind.u64.wrap ((a1:Int)*(b1:Int))=((a1*b1:Nat):Int):=by rw[←Int.natCast_mul];exact dI (by omega)
 have p10:IntKind.u64.wrap ((a1:Int)*(b0:Int))=((a1*b0:Nat):Int):=by rw[←Int.natCast_mul];exact dI (by omega)
 have p01:IntKind.u64.wrap ((a0:Int)*(b1:Int))=((a0*b1:Nat):Int):=by rw[←Int.natCast_mul];exact dI (by omega)
 have p00:IntKind.u64.wrap ((a0:Int)*(b0:Int))=((a0*b0:Nat):Int):=by rw[←Int.natCast_mul];exact dI (by omega)
 rw[←h4] at uu ⊢;generalize a1*b1=P at*;generalize a1*b0=Q at*;generalize a0*b1=R at*;generalize a0*b0=S at*;have s1:bJ .shr .u64 (S:Int) 32=((S/4294967296:Nat):Int):=dH S;have s2:IntKind.u64.wrap ((Q:Int)+((S/4294967296:Nat):Int))=((Q+S/4294967296:Nat):Int):=by rw[gQ (by omega)];omega
 generalize S/4294967296=S1 at*;generalize hT:Q+S1=TT at*;have s3:bJ .shr .u64 (TT:Int) 32=((TT/4294967296:Nat):Int):=dH TT;have s4:bJ .and .u64 (TT:Int) 4294967295=((TT%4294967296:Nat):Int):=za TT (by omega);have s5:IntKind.u64.wrap (((TT%4294967296:Nat):Int)+(R:Int))=((TT%4294967296+R:Nat):Int):=by rw[gQ (by omega)];omega
 generalize hU:TT%4294967296+R=U at*;have s6:bJ .shr .u64 (U:Int) 32=((U/4294967296:Nat):Int):=dH U;have s7:IntKind.u64.wrap ((P:Int)+((TT/4294967296:Nat):Int))=((P+TT/4294967296:Nat):Int):=by rw[gQ (by omega)];omega
 have s8:IntKind.u64.wrap (((P+TT/4294967296:Nat):Int)+((U/4294967296:Nat):Int))=((P+TT/4294967296+U/4294967296:Nat):Int):=by rw[gQ (by omega)];omega
 simp[-dH,-Int.natCast_add,-Int.natCast_mul,-Int.natCast_ediv,-Int.natCast_emod,elo,Nb,ea0,Nc,eb0,p11,p10,p01,p00,s1,s2,s3,s4,s5,s6,s7,s8]
def qD (m:Nat):Int:=if m<1099511627776 then m else 1099511627776
def yb (a b:Int):Int:=if(decide (a<0)!=decide (b<0))=true then-qD (a.natAbs*b.natAbs) else qD (a.natAbs*b.natAbs)
theorem adq (m:Nat):0≤qD m∧qD m≤1099511627776:=by unfold qD;split<;>omega
set_option maxHeartbeats 1000000 in
theorem axv (a b:Int)(ha:-1099511627776≤a∧a≤1099511627776)(hb:-1099511627776≤b∧b≤1099511627776):ak T abe [.int a,.int b] (.int (yb a b)):=by
 refine .of_tree rfl aii azA ?_;have wa:IntKind.u64.wrap (a.natAbs:Int)=a.natAbs:=dI (by omega);have wb:IntKind.u64.wrap (b.natAbs:Int)=b.natAbs:=dI (by omega);have w0a:IntKind.i64.wrap (0-a)=-a:=by rw[aU (by omega)];omega
 have w0b:IntKind.i64.wrap (0-b)=-b:=by rw[aU (by omega)];omega
 have az1:IntKind.i64.wrap (-a)=-a:=aU (by omega);have az2:IntKind.i64.wrap (-b)=-b:=aU (by omega);have ea:(if a< -a then D.int (-a) else D.int a)=D.int a.natAbs:=by split<;>congr 1<;>omega
 have eb:(if b< -b then D.int (-b) else D.int b)=D.int b.natAbs:=by split<;>congr 1<;>omega
 have ea':(if a< -a then-a else a)=(a.natAbs:Int):=by split<;>omega
 have eb':(if b< -b then-b else b)=(b.natAbs:Int):=by split<;>omega
 simp[Uv,az1,az2,ea,eb,ea',eb'];rw[wa,wb];refine⟨_,PB a.natAbs b.natAbs (by omega) (by omega),?_⟩;unfold yb;generalize a.natAbs*b.natAbs=m;have hs:(decide (a<0)!=decide (b<0))=false↔(a<0↔b<0):=by
  by_cases h1:a<0<;>by_cases h2:b<0<;>simp[h1,h2]
 have key:((if((m/18446744073709551616:Nat):Int)=0∧((m%18446744073709551616:Nat):Int)<1099511627776 then IntKind.i64.wrap ((m%18446744073709551616:Nat):Int) else 1099511627776):Int)=qD m:=by
  unfold qD;by_cases hm:m<1099511627776
  ·have h1:m/18446744073709551616=0:=by omega
   have h2:m%18446744073709551616=m:=by omega
   rw[h1,h2,if_pos ⟨rfl,by omega⟩,if_pos hm,aU (by omega)]
  ·rw[if_neg hm,if_neg];rintro⟨h1,h2⟩;omega
 have eN:=adq m;have as3:(if((m/18446744073709551616:Nat):Int)=0∧((m%18446744073709551616:Nat):Int)<1099511627776 then D.int (IntKind.i64.wrap ((m%18446744073709551616:Nat):Int)) else D.int 1099511627776)=D.int (qD m):=by
  rw[←key];split<;>rfl
 show(if a<0↔b<0 then(if((m/18446744073709551616:Nat):Int)=0∧((m%18446744073709551616:Nat):Int)<1099511627776 then D.int (IntKind.i64.wrap ((m%18446744073709551616:Nat):Int)) else D.int 1099511627776)=_ else
  IntKind.i64.wrap (-(if((m/18446744073709551616:Nat):Int)=0∧((m%18446744073709551616:Nat):Int)<1099511627776 then IntKind.i64.wrap ((m%18446744073709551616:Nat):Int) else 1099511627776))=_)
 rw[as3,key];generalize qD m=n at*;split
 ·rename_i h;rw[hs.2 h];simp
 ·rename_i h;have:(decide (a<0)!=decide (b<0))=true:=by
   cases e:(decide (a<0)!=decide (b<0)) with
   |true=>rfl
   |false=>exact absurd (hs.1 e) h
  rw[this,aU (by omega)];simp
def vZ (op a b:Int):Int:=if op=9 then np (a+b) else if op=10 then np (a-b) else if op=11 then yb a b else if op=12 then min a b else max a b
theorem axs (op a b:Int)(ha:-1099511627776≤a∧a≤1099511627776)(hb:-1099511627776≤b∧b≤1099511627776):ak T aa7 [.int op,.int a,.int b] (.int (vZ op a b)):=by
 refine .of_tree rfl aia azt ?_;have w1:IntKind.i64.wrap (a+b)=a+b:=aU (by omega);have w2:IntKind.i64.wrap (a-b)=a-b:=aU (by omega);simp[Up,vZ,w1,w2];by_cases h1:op=9
 ·simp[h1];exact Lq _
 by_cases h2:op=10
 ·simp[h1,h2];exact Lq _
 by_cases h3:op=11
 ·simp[h1,h2,h3];exact axv a b ha hb
 by_cases h4:op=12
 ·simp[h1,h2,h3,h4];by_cases h5:b<a<;>simp[h5]<;>omega
 simp[h1,h2,h3,h4];by_cases h5:b>a<;>simp[h5]<;>omega
def fK (b:Bool):Cell:=if b then⟨true,1⟩ else⟨true,0⟩
theorem s9 (b:Bool):ak T abg [.bool b] (cC (fK b)):=by
 refine .of_tree rfl aik azC ?_;cases b<;>simp[Ux,fK]<;>rfl
def dS:Cell:=⟨false,0⟩
@[simp] theorem aGu:D.agg [.bool false,.int 0]=cC dS:=_root_.id rfl
@[simp] theorem aGv:dS.known=false:=rfl
@[simp] theorem aGw:dS.n=0:=rfl
def cellAt (cs:List Cell)(v:Int):Cell:=cs.getD v.toNat default
def j3 (cs:List Cell)(v:Int):Cell:=if cs.length≤v.toNat∨(cellAt cs v).known=false then dS else if(kM v).1=1 then fK (decide ((cellAt cs v).n≠0)) else⟨true,np (cellAt cs v).n⟩
abbrev Ng (cs:List Cell):D:=.agg [cells cs]
theorem axx (cs:List Cell)(v:Int)(hv:0≤v):ak T abc [Ng cs,.int v] (cC (j3 cs v)):=by
 refine .of_tree rfl aih azz ?_;obtain⟨k,rfl⟩:=Int.eq_ofNat_of_zero_le hv;simp[Uu,j3,cellAt];by_cases h1:cs.length≤k
 ·simp[h1]
 have cq:k<cs.length:=by omega
 simp[h1,cq];cases h2:cs[k].known
 ·simp[h2]
 simp[h2];refine⟨_,afa _,?_⟩;by_cases h3:(kM k).1=1
 ·simp[h3,cq];refine⟨_,s9 _,?_⟩;simp;rfl
 ·simp[h3,cq];refine⟨_,Lq _,?_⟩;simp;rfl
@[simp] theorem aFP (a b:Int):(a==b)=decide (a=b):=_root_.id rfl
@[simp] theorem aFQ (a b:Int):(a !=b)= !decide (a=b):=_root_.id rfl
def ba (l:List Cell)(k:Nat):Cell:=l.getD k default
def fN (op:Int)(l:List Cell):Cell:=
 if op=3 then(if(ba l 0).known=true then fK (decide ((ba l 0).n=0)) else dS)
 else if(op=4∨op=5)∧(ba l 0=fK (decide (op=5))∨ba l 1=fK (decide (op=5))) then fK (decide (op=5))
 else if op=6 then(if(ba l 1).known=true∧ba l 1=ba l 2 then ba l 1 else dS)
 else if(ba l 0).known=false∨(ba l 1).known=false then dS
 else if op=4∨op=5 then fK (decide (op=4))
 else if op=7 then fK (decide ((ba l 0).n<(ba l 1).n)) else if op=8 then fK (decide ((ba l 0).n=(ba l 1).n)) else⟨true,vZ op (ba l 0).n (ba l 1).n⟩
theorem aiO (a b:Cell):a=b↔a.known=b.known∧a.n=b.n:=by cases a;cases b;simp
theorem axt (op:Int)(l:List Cell)(h1:1≤l.length)(h2:op≠3→2≤l.length)(h3:op=6→3≤l.length)
 (hb:9≤op→(-1099511627776≤(ba l 0).n∧(ba l 0).n≤1099511627776)∧(-1099511627776≤(ba l 1).n∧(ba l 1).n≤1099511627776)) (h9:op<3∨8<op→9≤op):
 ak T aa9 [.int op,cells l] (cC (fN op l)):=by
 refine .of_tree rfl aic azv ?_;have g0:0<l.length:=by omega
 have tY:l[0]=ba l 0:=by simp[ba,g0]
 simp[Ur];unfold fN;by_cases o3:op=3
 ·simp[o3,g0,tY];cases e:(ba l 0).known
  ·simp
  ·simp[g0];refine⟨_,s9 _,?_⟩;simp
 have g1:1<l.length:=by have:=h2 o3;omega
 have AU:l[1]=ba l 1:=by simp[ba,g1]
 have gU:(1:Int)<l.length:=by omega
 simp[o3];have fin:∀a b:Cell,(a=b)=(a.known=b.known∧a.n=b.n):=fun a b=>propext (aiO a b);rcases Classical.em (op=4) with o4|o4
 ·subst o4;simp;refine⟨_,s9 _,?_⟩;simp[g0,g1,gU,tY,AU,fin];split
  ·rfl
  ·split
   ·rfl
   ·refine⟨_,s9 _,?_⟩;simp
 rcases Classical.em (op=5) with o5|o5
 ·subst o5;simp;refine⟨_,s9 _,?_⟩;simp[g0,g1,gU,tY,AU,fin];split
  ·rfl
  ·split
   ·rfl
   ·refine⟨_,s9 _,?_⟩;simp
 rcases Classical.em (op=6) with o6|o6
 ·subst o6;have g2:2<l.length:=by have:=h3 rfl;omega
  have gg2:l[2]=ba l 2:=by simp[ba,g2]
  have rv:(2:Int)<l.length:=by omega
  simp[g1,g2,gU,rv,AU,gg2,fin];cases e1:(ba l 1).known
  ·simp
  by_cases e2:(ba l 1).known=(ba l 2).known∧(ba l 1).n=(ba l 2).n
  ·rw[e1] at e2;simp[e1,e2]
  ·rw[e1] at e2;have q9:¬((ba l 2).known=true∧(ba l 1).n=(ba l 2).n):=fun h=>e2 ⟨h.1.symm,h.2⟩;simp only[e1,true_and,if_true]
   first|(rw[if_neg q9,if_neg q9])|(simp[q9])
 simp[o4,o5,o6,g0,g1,gU,tY,AU];cases e1:(ba l 0).known
 ·simp
 cases e2:(ba l 1).known
 ·simp
 simp[g1,gU,AU];rcases Classical.em (op=7) with o7|o7
 ·subst o7;simp;refine⟨_,s9 _,?_⟩;simp
 rcases Classical.em (op=8) with o8|o8
 ·subst o8;simp;refine⟨_,s9 _,?_⟩;simp
 simp[o7,o8];obtain⟨b1,b2⟩:=hb (h9 (by omega));refine⟨_,axs op _ _ b1 b2,?_⟩;simp;rfl
end Rm
namespace Rm
open Go Go.Proofs Cx
theorem avx (a b s:Nat)(h:a<18446744073709551616)(hb:b<2^s)(ha:a%2^s=0)(hs:s≤64):bJ .or .u64 a b=((a+b:Nat):Int):=by
 show IntKind.u64.wrap ((BitVec.ofInt 64 (a:Int)|||BitVec.ofInt 64 (b:Int)).toNat:Nat)=_;have eN:b<18446744073709551616:=Nat.lt_of_lt_of_le hb (by have:=Nat.pow_le_pow_right (n:=2) (by decide) hs;simpa using this);have e1:∀n:Nat,n<18446744073709551616→(BitVec.ofInt 64 (n:Int)).toNat=n:=fun n hn=>by simp[BitVec.ofInt,BitVec.toNat_ofNat];omega
 have e:(BitVec.ofInt 64 (a:Int)|||BitVec.ofInt 64 (b:Int)).toNat=a+b:=by
  rw[BitVec.toNat_or,e1 a h,e1 b eN];have e3:a=2^s*(a/2^s):=by have:=Nat.div_add_mod a (2^s);omega
  rw[e3];exact(Nat.two_pow_add_eq_or_of_lt hb (a/2^s)).symm
 have ah:a+b<18446744073709551616:=by rw[←e];exact BitVec.isLt _
 rw[e,dI ah]
def bl (x L:Nat):Prop:=(L=0→x=0)∧(0<L→2^(L-1)≤x)∧x<2^L∧L≤64
def G8:ByteArray:=⟨#[0,1,2,2,3,3,3,3,4,4,4,4,4,4,4,4,5,5,5,5,5,5,5,5,5,5,5,5,5,5,5,5,6,6,6,6,6,6,6,6,6,6,6,6,6,6,6,6,6,6,6,6,6,6,6,6,6,6,6,6,6,6,6,6,7,7,7,7,7,7,7,7,7,7,7,7,7,7,7,7,7,7,7,7,7,7,7,7,7,7,7,7,7,7,7,7,7,7,7,7,7,7,7,7,7,7,7,7,7,7,7,7,7,7,7,7,7,7,7,7,7,7,7,7,7,7,7,7,8,8,8,8,8,8,8,8,8,8,8,8,8,8,8,8,8,8,8,8,8,8,8,8,8,8,8,8,8,8,8,8,8,8,8,8,8,8,8,8,8,8,8,8,8,8,8,8,8,8,8,8,8,8,8,8,8,8,8,8,8,8,8,8,8,8,8,8,8,8,8,8,8,8,8,8,8,8,8,8,8,8,8,8,8,8,8,8,8,8,8,8,8,8,8,8,8,8,8,8,8,8,8,8,8,8,8,8,8,8,8,8,8,8,8,8,8,8,8,8,8,8,8,8,8,8,8,8]⟩
def bS (y:Nat):Nat:=(G8.data.getD y 0).toNat
theorem ata:(List.range 256).all (fun y=>(bS y==0&&y==0||Nat.ble (2^(bS y-1)) y&&Nat.blt 0 (bS y))&&Nat.blt y (2^bS y)&&Nat.ble (bS y) 8)=true:=by kernel_rfl
theorem mH {y:Nat}(h:y<256):((bS y=0∧y=0)∨(2^(bS y-1)≤y∧0<bS y))∧y<2^bS y∧bS y≤8:=by
 have:=List.all_eq_true.1 ata y (List.mem_range.2 h);simp only[Bool.and_eq_true,Bool.or_eq_true,beq_iff_eq,Nat.ble_eq,Nat.blt_eq] at this;exact⟨this.1.1,this.1.2,this.2⟩
theorem Vw {y:Nat}(h:y<256):bl y (bS y):=by
 obtain⟨h1,h2,h3⟩:=mH h;refine⟨fun h0=>?_,fun h0=>?_,h2,by omega⟩
 ·rcases h1 with h1|h1
  ·exact h1.2
  ·omega
 ·rcases h1 with h1|h1
  ·omega
  ·exact h1.1
theorem MM {x s L:Nat}(hx:2^s≤x)(h:bl (x/2^s) L)(hs:L+s≤64):bl x (L+s):=by
 have hp:0<2^s:=Nat.two_pow_pos s;have hL:0<L:=by
  rcases Nat.eq_zero_or_pos L with h0|h0
  ·have:=h.1 h0;have:=Nat.div_pos hx hp;omega
  ·exact h0
 refine⟨fun h0=>by omega,fun _=>?_,?_,hs⟩
 ·have h1:=h.2.1 hL;have e:L+s-1=(L-1)+s:=by omega
  rw[e,Nat.pow_add];exact(Nat.le_div_iff_mul_le hp).1 h1
 ·rw[Nat.pow_add];exact(Nat.div_lt_iff_lt_mul hp).1 h.2.2.1
@[simp] theorem tA {n:Nat}(h:n<256):IntKind.u8.wrap (n:Int)=n:=by
  show(n:Int)%256=n;omega
theorem as9:(⟨#[0,1,2,2,3,3,3,3,4,4,4,4,4,4,4,4,5,5,5,5,5,5,5,5,5,5,5,5,5,5,5,5,6,6,6,6,6,6,6,6,6,6,6,6,6,6,6,6,6,6,6,6,6,6,6,6,6,6,6,6,6,6,6,6,7,7,7,7,7,7,7,7,7,7,7,7,7,7,7,7,7,7,7,7,7,7,7,7,7,7,7,7,7,7,7,7,7,7,7,7,7,7,7,7,7,7,7,7,7,7,7,7,7,7,7,7,7,7,7,7,7,7,7,7,7,7,7,7,8,8,8,8,8,8,8,8,8,8,8,8,8,8,8,8,8,8,8,8,8,8,8,8,8,8,8,8,8,8,8,8,8,8,8,8,8,8,8,8,8,8,8,8,8,8,8,8,8,8,8,8,8,8,8,8,8,8,8,8,8,8,8,8,8,8,8,8,8,8,8,8,8,8,8,8,8,8,8,8,8,8,8,8,8,8,8,8,8,8,8,8,8,8,8,8,8,8,8,8,8,8,8,8,8,8,8,8,8,8,8,8,8,8,8,8,8,8,8,8,8,8,8,8,8,8,8,8]⟩:ByteArray)=G8:=rfl
theorem sc:G8.size=256:=by kernel_rfl
theorem sd (y:Nat):(G8.data[y]?.getD 0).toNat=bS y:=by simp[bS]
def l8 (x:Nat):Nat:=if 256≤x then bS (x/256)+8 else bS x
def xu (x:Nat):Nat:=if 65536≤x then l8 (x/65536)+16 else l8 x
def rY (x:Nat):Nat:=if 4294967296≤x then xu (x/4294967296)+32 else xu x
theorem YD {x:Nat}(h:x<65536):bl x (l8 x):=by
 unfold l8;split
 ·rename_i h1;exact MM (s:=8) h1 (Vw (by omega)) (by have:=(mH (y:=x/256) (by omega)).2.2;omega)
 ·exact Vw (by omega)
theorem YE {x:Nat}(h:x<65536):l8 x≤16:=by
 unfold l8;split
 ·have:=(mH (y:=x/256) (by omega)).2.2;omega
 ·have:=(mH (y:=x) (by omega)).2.2;omega
theorem YB {x:Nat}(h:x<4294967296):bl x (xu x)∧xu x≤32:=by
 unfold xu;split
 ·rename_i h1;have:=YE (x:=x/65536) (by omega);exact⟨MM (s:=16) h1 (YD (by omega)) (by omega),by omega⟩
 ·have:=YE (x:=x) (by omega);exact⟨YD (by omega),by omega⟩
theorem YC {x:Nat}(h:x<18446744073709551616):bl x (rY x):=by
 unfold rY;split
 ·rename_i h1;have:=YB (x:=x/4294967296) (by omega);exact MM (s:=32) h1 this.1 (by omega)
 ·exact(YB (by omega)).1
set_option maxRecDepth 10000 in
set_option maxHeartbeats 1000000 in
theorem as8 (x:Nat)(h:x<18446744073709551616):ak T ZN [u x] (.int (rY x:Nat)):=by
 refine .of_tree rfl agK ax2 ?_;unfold rY xu l8;simp only[SR, iX, as9];have w8:IntKind.i64.wrap 8=8:=aU (by omega);have tl:IntKind.i64.wrap 16=16:=aU (by omega);have tn:IntKind.i64.wrap 24=24:=aU (by omega);have tp:IntKind.i64.wrap 32=32:=aU (by omega);have tq:IntKind.i64.wrap 40=40:=aU (by omega);have tu:IntKind.i64.wrap 48=48:=aU (by omega);have tw:IntKind.i64.wrap 56=56:=aU (by omega);by_cases h1:4294967296≤x
 ·have g1:(4294967296:Int)≤x:=by omega
  generalize gm:x/4294967296=x1 at*;by_cases h2:65536≤x1
  ·have g2:(65536:Int)≤(x1:Nat):=by omega
   generalize mD:x1/65536=x2 at*;by_cases h3:256≤x2
   ·have g3:(256:Int)≤(x2:Nat):=by omega
    have hY:x2/256<256:=by omega
    have hl:=(mH hY).2.2;have k1:IntKind.u8.wrap ((x2/256:Nat):Int)=((x2/256:Nat):Int):=tA hY;have k2:IntKind.i64.wrap ((bS (x2/256):Nat):Int)=bS (x2/256):=aU (by omega);have k3:IntKind.i64.wrap (56+(bS (x2/256):Int))=56+(bS (x2/256):Int):=aU (by omega);simp[h1,h2,h3,g1,g2,g3,k1,sc,sd,k2,k3,w8,tl,tn,tp,tq,tu,tw,gm,mD,-Int.natCast_ediv];omega
   ·have g3:¬(256:Int)≤(x2:Nat):=by omega
    have hY:x2<256:=by omega
    have hl:=(mH hY).2.2;have k1:IntKind.u8.wrap ((x2:Nat):Int)=((x2:Nat):Int):=tA hY;have k2:IntKind.i64.wrap ((bS (x2):Nat):Int)=bS (x2):=aU (by omega);have k3:IntKind.i64.wrap (48+(bS (x2):Int))=48+(bS (x2):Int):=aU (by omega);simp[h1,h2,h3,g1,g2,g3,k1,sc,sd,k2,k3,w8,tl,tn,tp,tq,tu,tw,gm,mD,-Int.natCast_ediv];omega
  ·have g2:¬(65536:Int)≤(x1:Nat):=by omega
   by_cases h3:256≤x1
   ·have g3:(256:Int)≤(x1:Nat):=by omega
    have hY:x1/256<256:=by omega
    have hl:=(mH hY).2.2;have k1:IntKind.u8.wrap ((x1/256:Nat):Int)=((x1/256:Nat):Int):=tA hY;have k2:IntKind.i64.wrap ((bS (x1/256):Nat):Int)=bS (x1/256):=aU (by omega);have k3:IntKind.i64.wrap (40+(bS (x1/256):Int))=40+(bS (x1/256):Int):=aU (by omega);simp[h1,h2,h3,g1,g2,g3,k1,sc,sd,k2,k3,w8,tl,tn,tp,tq,tu,tw,gm,-Int.natCast_ediv];omega
   ·have g3:¬(256:Int)≤(x1:Nat):=by omega
    have hY:x1<256:=by omega
    have hl:=(mH hY).2.2;have k1:IntKind.u8.wrap ((x1:Nat):Int)=((x1:Nat):Int):=tA hY;have k2:IntKind.i64.wrap ((bS (x1):Nat):Int)=bS (x1):=aU (by omega);have k3:IntKind.i64.wrap (32+(bS (x1):Int))=32+(bS (x1):Int):=aU (by omega);simp[h1,h2,h3,g1,g2,g3,k1,sc,sd,k2,k3,w8,tl,tn,tp,tq,tu,tw,gm,-Int.natCast_ediv];omega
 ·have g1:¬(4294967296:Int)≤x:=by omega
  by_cases h2:65536≤x
  ·have g2:(65536:Int)≤(x:Nat):=by omega
   generalize mD:x/65536=x2 at*;by_cases h3:256≤x2
   ·have g3:(256:Int)≤(x2:Nat):=by omega
    have hY:x2/256<256:=by omega
    have hl:=(mH hY).2.2;have k1:IntKind.u8.wrap ((x2/256:Nat):Int)=((x2/256:Nat):Int):=tA hY;have k2:IntKind.i64.wrap ((bS (x2/256):Nat):Int)=bS (x2/256):=aU (by omega);have k3:IntKind.i64.wrap (24+(bS (x2/256):Int))=24+(bS (x2/256):Int):=aU (by omega);simp[h1,h2,h3,g1,g2,g3,k1,sc,sd,k2,k3,w8,tl,tn,tp,tq,tu,tw,mD,-Int.natCast_ediv];omega
   ·have g3:¬(256:Int)≤(x2:Nat):=by omega
    have hY:x2<256:=by omega
    have hl:=(mH hY).2.2;have k1:IntKind.u8.wrap ((x2:Nat):Int)=((x2:Nat):Int):=tA hY;have k2:IntKind.i64.wrap ((bS (x2):Nat):Int)=bS (x2):=aU (by omega);have k3:IntKind.i64.wrap (16+(bS (x2):Int))=16+(bS (x2):Int):=aU (by omega);simp[h1,h2,h3,g1,g2,g3,k1,sc,sd,k2,k3,w8,tl,tn,tp,tq,tu,tw,mD,-Int.natCast_ediv];omega
  ·have g2:¬(65536:Int)≤(x:Nat):=by omega
   by_cases h3:256≤x
   ·have g3:(256:Int)≤(x:Nat):=by omega
    have hY:x/256<256:=by omega
    have hl:=(mH hY).2.2;have k1:IntKind.u8.wrap ((x/256:Nat):Int)=((x/256:Nat):Int):=tA hY;have k2:IntKind.i64.wrap ((bS (x/256):Nat):Int)=bS (x/256):=aU (by omega);have k3:IntKind.i64.wrap (8+(bS (x/256):Int))=8+(bS (x/256):Int):=aU (by omega);simp[h1,h2,h3,g1,g2,g3,k1,sc,sd,k2,k3,w8,tl,tn,tp,tq,tu,tw,-Int.natCast_ediv];omega
   ·have g3:¬(256:Int)≤(x:Nat):=by omega
    have hY:x<256:=by omega
    have hl:=(mH hY).2.2;have k1:IntKind.u8.wrap ((x:Nat):Int)=((x:Nat):Int):=tA hY;have k2:IntKind.i64.wrap ((bS (x):Nat):Int)=bS (x):=aU (by omega);have k3:IntKind.i64.wrap (0+(bS (x):Int))=0+(bS (x):Int):=aU (by omega);simp[h1,h2,h3,g1,g2,g3,k1,sc,sd,k2,k3,w8,tl,tn,tp,tq,tu,tw,-Int.natCast_ediv];omega
end Rm
