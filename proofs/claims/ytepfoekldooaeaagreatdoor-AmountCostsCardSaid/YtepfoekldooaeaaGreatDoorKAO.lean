/-
  Shared texts of this claim.
-/
import Derived.Test.YtepfoekldooaeaaGreatDoorKAL
import Derived.Test.YtepfoekldooaeaaGreatDoorKAM
import Derived.Test.YtepfoekldooaeaaGreatDoorKAN
import Derived.Test.YtepfoekldooaeaaGreatDoorKAK
import Derived.Test.YtepfoekldooaeaaGreatDoorKAJ
import Derived.WalkKit
import Derived.WalkSpells
import Derived.Lib.SliceRun
import Derived.Lib.AppendZeros
import Derived.Laws.Strings
import Derived.Lib.Mul64
set_option linter.unusedVariables false
set_option maxRecDepth 100000
namespace Rm
open Go Go.Proofs Cx
def RE:List Nat:=[10,37,86,87,139,140,181,182,183,88,39,20,54,40,84,57,34,82,130,173,198,197,217,170,146,199,200,131,45,103,133,174,202,201,218,175,83,134,177,176,178,203,204,219,223,221,220,135,179,205,222,206,224,228,153,207,33,32,56,81,129,80,89,141,142,184,208,209,226,143,144,145,185,147,148,149,150,151,124,125,126,127,169,195,194,212,214,227,213,163,128,171,172,196,216,85,21,55,137,136,138,180,91,41,93,94,154,186,210,92,152,38,43,95,96,97,155,187,90,58,112,161,162,113,114,164,191,192,115,165,116,167,193,166,11,12,13]
noncomputable def C6:List (Nat×PC):=[(10,Js),(37,Jw),(86,Ju),(87,IM),(139,IS),(140,JW),(181,JX),(182,JY),(183,JZ),(88,Jx),(39,IL),(20,Kh),(54,Ko),(40,I0),(84,I2),(57,IU),(34,IT),(82,IY),(130,IZ),(173,Kk),(198,Kl),(197,Kq),(217,Ku),(170,J5),(146,J9),(199,Km),(200,Ki),(131,JC),(45,Ks),(103,Ky),(133,Jm),(174,Jo),(202,Jp),(201,Kr),(218,Kw),(175,Jn),(83,JB),(134,JD),(177,JE),(176,Kv),(178,KJ),(203,KT),(204,KN),(219,KQ),(223,KP),(221,KL),(220,KV),(135,KK),(179,KR),(205,KS),(222,KW),(206,KO),(224,KM),(228,KU),(153,I9),(207,Kp),(33,IX),(32,IV),(56,IW),(81,Kj),(129,KA),(80,KB),(89,J0),(141,Kc),(142,J8),(184,Kb),(208,Ka),(209,Kt),(226,Kz),(143,J1),(144,J2),(145,J7),(185,Kf),(147,J3),(148,J4),(149,Kd),(150,Kg),(151,Ke),(124,KF),(125,KG),(126,KC),(127,KE),(169,KD),(195,Ja),(194,Ji),(212,Jd),(214,Jf),(227,Jg),(213,Jb),(163,J6),(128,KH),(171,KI),(172,Jc),(196,Je),(216,Jh),(85,I3),(21,KX),(55,KY),(137,I4),(136,I1),(138,I5),(180,JG),(91,IP),(41,Jy),(93,JA),(94,Jz),(154,I6),(186,I7),(210,I8),(92,IN),(152,IQ),(38,Jv),(43,JV),(95,JP),(96,JR),(97,JU),(155,JS),(187,JT),(90,JQ),(58,JF),(112,KZ),(161,K0),(162,K1),(113,JN),(114,JM),(164,JL),(191,JJ),(192,JO),(115,JI),(165,JH),(116,JK),(167,Jj),(193,Jl),(166,Jk),(11,Jt),(12,Jq),(13,Jr)]
noncomputable def tab:Nat→Option PC:=aa C6
theorem aeP:C6.map (·.1)=RE:=by kernel_rfl
theorem aC:(C6.map (·.1)).Nodup:=by rw[aeP];exact mQ (by kernel_rfl)
theorem ai1:tab abq=some Js:=aA aC (k:=0) (by kernel_rfl)
theorem ai5:tab abv=some Jw:=aA aC (k:=1) (by kernel_rfl)
theorem ai3:tab abt=some Ju:=aA aC (k:=2) (by kernel_rfl)
theorem aip:tab aaP=some IM:=aA aC (k:=3) (by kernel_rfl)
theorem ait:tab aaT=some IS:=aA aC (k:=4) (by kernel_rfl)
theorem Wy:tab QM=some JW:=aA aC (k:=5) (by kernel_rfl)
theorem aju:tab abS=some JX:=aA aC (k:=6) (by kernel_rfl)
theorem ajv:tab abT=some JY:=aA aC (k:=7) (by kernel_rfl)
theorem ajw:tab abU=some JZ:=aA aC (k:=8) (by kernel_rfl)
theorem ai6:tab abw=some Jx:=aA aC (k:=9) (by kernel_rfl)
theorem aio:tab aaO=some IL:=aA aC (k:=10) (by kernel_rfl)
theorem ajO:tab ab7=some Kh:=aA aC (k:=11) (by kernel_rfl)
theorem ajU:tab ace=some Ko:=aA aC (k:=12) (by kernel_rfl)
theorem aiB:tab aa0=some I0:=aA aC (k:=13) (by kernel_rfl)
theorem aiD:tab aa1=some I2:=aA aC (k:=14) (by kernel_rfl)
theorem aiv:tab aaU=some IU:=aA aC (k:=15) (by kernel_rfl)
theorem aiu:tab QG=some IT:=aA aC (k:=16) (by kernel_rfl)
theorem aiz:tab aaY=some IY:=aA aC (k:=17) (by kernel_rfl)
theorem aiA:tab aaZ=some IZ:=aA aC (k:=18) (by kernel_rfl)
theorem ajR:tab aca=some Kk:=aA aC (k:=19) (by kernel_rfl)
theorem ajS:tab acb=some Kl:=aA aC (k:=20) (by kernel_rfl)
theorem ajW:tab acg=some Kq:=aA aC (k:=21) (by kernel_rfl)
theorem aj0:tab ack=some Ku:=aA aC (k:=22) (by kernel_rfl)
theorem ajC:tab abW=some J5:=aA aC (k:=23) (by kernel_rfl)
theorem ajG:tab abZ=some J9:=aA aC (k:=24) (by kernel_rfl)
theorem ajT:tab acd=some Km:=aA aC (k:=25) (by kernel_rfl)
theorem ajP:tab ab8=some Ki:=aA aC (k:=26) (by kernel_rfl)
theorem ajb:tab abB=some JC:=aA aC (k:=27) (by kernel_rfl)
theorem ajY:tab aci=some Ks:=aA aC (k:=28) (by kernel_rfl)
theorem aj3:tab aco=some Ky:=aA aC (k:=29) (by kernel_rfl)
theorem aiU:tab abl=some Jm:=aA aC (k:=30) (by kernel_rfl)
theorem aiW:tab abn=some Jo:=aA aC (k:=31) (by kernel_rfl)
theorem aiX:tab QJ=some Jp:=aA aC (k:=32) (by kernel_rfl)
theorem ajX:tab ach=some Kr:=aA aC (k:=33) (by kernel_rfl)
theorem aj2:tab acn=some Kw:=aA aC (k:=34) (by kernel_rfl)
theorem aiV:tab abm=some Jn:=aA aC (k:=35) (by kernel_rfl)
theorem aja:tab abA=some JB:=aA aC (k:=36) (by kernel_rfl)
theorem ajc:tab abC=some JD:=aA aC (k:=37) (by kernel_rfl)
theorem ajd:tab QK=some JE:=aA aC (k:=38) (by kernel_rfl)
theorem aj1:tab acm=some Kv:=aA aC (k:=39) (by kernel_rfl)
theorem akb:tab acw=some KJ:=aA aC (k:=40) (by kernel_rfl)
theorem Wz:tab acF=some KT:=aA aC (k:=41) (by kernel_rfl)
theorem akf:tab acA=some KN:=aA aC (k:=42) (by kernel_rfl)
theorem aki:tab acD=some KQ:=aA aC (k:=43) (by kernel_rfl)
theorem akh:tab acC=some KP:=aA aC (k:=44) (by kernel_rfl)
theorem akd:tab acy=some KL:=aA aC (k:=45) (by kernel_rfl)
theorem akm:tab acH=some KV:=aA aC (k:=46) (by kernel_rfl)
theorem akc:tab acx=some KK:=aA aC (k:=47) (by kernel_rfl)
theorem akj:tab QT=some KR:=aA aC (k:=48) (by kernel_rfl)
theorem akk:tab acE=some KS:=aA aC (k:=49) (by kernel_rfl)
theorem akn:tab acI=some KW:=aA aC (k:=50) (by kernel_rfl)
theorem akg:tab acB=some KO:=aA aC (k:=51) (by kernel_rfl)
theorem ake:tab acz=some KM:=aA aC (k:=52) (by kernel_rfl)
theorem akl:tab acG=some KU:=aA aC (k:=53) (by kernel_rfl)
theorem aiK:tab aa8=some I9:=aA aC (k:=54) (by kernel_rfl)
theorem ajV:tab acf=some Kp:=aA aC (k:=55) (by kernel_rfl)
theorem aiy:tab aaX=some IX:=aA aC (k:=56) (by kernel_rfl)
theorem aiw:tab aaV=some IV:=aA aC (k:=57) (by kernel_rfl)
theorem aix:tab aaW=some IW:=aA aC (k:=58) (by kernel_rfl)
theorem ajQ:tab ab9=some Kj:=aA aC (k:=59) (by kernel_rfl)
theorem aj5:tab acq=some KA:=aA aC (k:=60) (by kernel_rfl)
theorem Nd:tab CU=some KB:=aA aC (k:=61) (by kernel_rfl)
theorem ajx:tab abV=some J0:=aA aC (k:=62) (by kernel_rfl)
theorem ajJ:tab ab2=some Kc:=aA aC (k:=63) (by kernel_rfl)
theorem ajF:tab abY=some J8:=aA aC (k:=64) (by kernel_rfl)
theorem ajI:tab ab1=some Kb:=aA aC (k:=65) (by kernel_rfl)
theorem ajH:tab ab0=some Ka:=aA aC (k:=66) (by kernel_rfl)
theorem ajZ:tab acj=some Kt:=aA aC (k:=67) (by kernel_rfl)
theorem aj4:tab acp=some Kz:=aA aC (k:=68) (by kernel_rfl)
theorem ajy:tab QN=some J1:=aA aC (k:=69) (by kernel_rfl)
theorem ajz:tab QO=some J2:=aA aC (k:=70) (by kernel_rfl)
theorem ajE:tab abX=some J7:=aA aC (k:=71) (by kernel_rfl)
theorem ajM:tab ab5=some Kf:=aA aC (k:=72) (by kernel_rfl)
theorem ajA:tab QP=some J3:=aA aC (k:=73) (by kernel_rfl)
theorem ajB:tab QR=some J4:=aA aC (k:=74) (by kernel_rfl)
theorem ajK:tab ab3=some Kd:=aA aC (k:=75) (by kernel_rfl)
theorem ajN:tab ab6=some Kg:=aA aC (k:=76) (by kernel_rfl)
theorem ajL:tab ab4=some Ke:=aA aC (k:=77) (by kernel_rfl)
theorem aj7:tab acu=some KF:=aA aC (k:=78) (by kernel_rfl)
theorem aj8:tab Ij=some KG:=aA aC (k:=79) (by kernel_rfl)
theorem aj6:tab acr=some KC:=aA aC (k:=80) (by kernel_rfl)
theorem xh:tab CV=some KE:=aA aC (k:=81) (by kernel_rfl)
theorem ER:tab acs=some KD:=aA aC (k:=82) (by kernel_rfl)
theorem Wv:tab aa9=some Ja:=aA aC (k:=83) (by kernel_rfl)
theorem aiQ:tab abh=some Ji:=aA aC (k:=84) (by kernel_rfl)
theorem aiM:tab abc=some Jd:=aA aC (k:=85) (by kernel_rfl)
theorem aiO:tab abf=some Jf:=aA aC (k:=86) (by kernel_rfl)
theorem Ww:tab QI=some Jg:=aA aC (k:=87) (by kernel_rfl)
theorem EP:tab aba=some Jb:=aA aC (k:=88) (by kernel_rfl)
theorem ajD:tab QS=some J6:=aA aC (k:=89) (by kernel_rfl)
theorem aj9:tab Ik=some KH:=aA aC (k:=90) (by kernel_rfl)
theorem aka:tab acv=some KI:=aA aC (k:=91) (by kernel_rfl)
theorem aiL:tab abb=some Jc:=aA aC (k:=92) (by kernel_rfl)
theorem aiN:tab abd=some Je:=aA aC (k:=93) (by kernel_rfl)
theorem aiP:tab abg=some Jh:=aA aC (k:=94) (by kernel_rfl)
theorem aiE:tab aa2=some I3:=aA aC (k:=95) (by kernel_rfl)
theorem ako:tab acJ=some KX:=aA aC (k:=96) (by kernel_rfl)
theorem akp:tab acK=some KY:=aA aC (k:=97) (by kernel_rfl)
theorem aiF:tab aa3=some I4:=aA aC (k:=98) (by kernel_rfl)
theorem aiC:tab QH=some I1:=aA aC (k:=99) (by kernel_rfl)
theorem aiG:tab aa4=some I5:=aA aC (k:=100) (by kernel_rfl)
theorem ajf:tab abE=some JG:=aA aC (k:=101) (by kernel_rfl)
theorem air:tab aaR=some IP:=aA aC (k:=102) (by kernel_rfl)
theorem ai7:tab abx=some Jy:=aA aC (k:=103) (by kernel_rfl)
theorem ai9:tab abz=some JA:=aA aC (k:=104) (by kernel_rfl)
theorem ai8:tab aby=some Jz:=aA aC (k:=105) (by kernel_rfl)
theorem aiH:tab aa5=some I6:=aA aC (k:=106) (by kernel_rfl)
theorem aiI:tab aa6=some I7:=aA aC (k:=107) (by kernel_rfl)
theorem aiJ:tab aa7=some I8:=aA aC (k:=108) (by kernel_rfl)
theorem aiq:tab aaQ=some IN:=aA aC (k:=109) (by kernel_rfl)
theorem ais:tab aaS=some IQ:=aA aC (k:=110) (by kernel_rfl)
theorem ai4:tab abu=some Jv:=aA aC (k:=111) (by kernel_rfl)
theorem ajt:tab abR=some JV:=aA aC (k:=112) (by kernel_rfl)
theorem ajo:tab abM=some JP:=aA aC (k:=113) (by kernel_rfl)
theorem ajq:tab abN=some JR:=aA aC (k:=114) (by kernel_rfl)
theorem ajs:tab abQ=some JU:=aA aC (k:=115) (by kernel_rfl)
theorem ajr:tab abO=some JS:=aA aC (k:=116) (by kernel_rfl)
theorem Wx:tab abP=some JT:=aA aC (k:=117) (by kernel_rfl)
theorem ajp:tab QL=some JQ:=aA aC (k:=118) (by kernel_rfl)
theorem aje:tab abD=some JF:=aA aC (k:=119) (by kernel_rfl)
theorem akq:tab acL=some KZ:=aA aC (k:=120) (by kernel_rfl)
theorem akr:tab acM=some K0:=aA aC (k:=121) (by kernel_rfl)
theorem aks:tab acN=some K1:=aA aC (k:=122) (by kernel_rfl)
theorem ajm:tab abK=some JN:=aA aC (k:=123) (by kernel_rfl)
theorem ajl:tab CT=some JM:=aA aC (k:=124) (by kernel_rfl)
theorem ajk:tab abJ=some JL:=aA aC (k:=125) (by kernel_rfl)
theorem aji:tab abH=some JJ:=aA aC (k:=126) (by kernel_rfl)
theorem ajn:tab abL=some JO:=aA aC (k:=127) (by kernel_rfl)
theorem ajh:tab abG=some JI:=aA aC (k:=128) (by kernel_rfl)
theorem ajg:tab abF=some JH:=aA aC (k:=129) (by kernel_rfl)
theorem ajj:tab abI=some JK:=aA aC (k:=130) (by kernel_rfl)
theorem aiR:tab abi=some Jj:=aA aC (k:=131) (by kernel_rfl)
theorem aiT:tab abk=some Jl:=aA aC (k:=132) (by kernel_rfl)
theorem aiS:tab abj=some Jk:=aA aC (k:=133) (by kernel_rfl)
theorem ai2:tab abr=some Jt:=aA aC (k:=134) (by kernel_rfl)
theorem aiZ:tab abo=some Jq:=aA aC (k:=135) (by kernel_rfl)
theorem ai0:tab abp=some Jr:=aA aC (k:=136) (by kernel_rfl)
theorem caps:∀f cs,aa NX f=some cs→(lz cs.args cs.res=none→aa ae f=some ⟨cs.args++cs.caps,cs.res,.dat⟩)∧∀ys,lz cs.args cs.res=some ys→eU RE f=false∧Eo Tryz.prog f=true:=WS (l:=NX) (sig:=ae) (P:=Tryz.prog) (pcs:=RE) (by kernel_rfl)
theorem clos:dz ctx:=⟨(fun f cs h=>(caps f cs h).1),fun f s h=>agF (l:=ae) (P:=Tryz.prog) (by kernel_rfl) f s h⟩
theorem its:∀f cs ys,ctx.cap f=some cs→lz cs.args cs.res=some ys→tab f=none∧∃fn,ctx.P.funcs[f]?=some fn∧fn.body.isSome=true∧(fn.name== "runtime.NumGoroutine")=false:=fun f cs ys h hi=>⟨aaf (l:=C6) (by rw[aeP];exact((caps f cs h).2 ys hi).1),azP ((caps f cs h).2 ys hi).2⟩
theorem azD:∀f pc,tab f=some pc→∃fn s ids fr nh,ctx.P.funcs[f]?=some fn∧ctx.sig f=some s∧aw {ctx with fr:=fr,nh:=nh} fn s ids=some pc:=
 Qz (R:=fun f pc=>∃fn s ids fr nh,ctx.P.funcs[f]?=some fn∧ctx.sig f=some s∧aw {ctx with fr:=fr,nh:=nh} fn s ids=some pc) (l:=C6)
  (aB ⟨Tryz.f10,(aa ae 10).getD default,[6,8,14,77838,46,16,17],[12,13,15],[],Tryz.func10,rfl,alD⟩
  (aB ⟨Tryz.f37,(aa ae 37).getD default,[1,2,3],[0,4,6,7,8],[],Tryz.func37,rfl,alH⟩
  (aB ⟨Tryz.f86,(aa ae 86).getD default,[4,5,6,20486,24582,28678,32774,7,65543,69639,73735,77831],[],[],Tryz.func86,rfl,alF⟩
  (aB ⟨Tryz.f87,(aa ae 87).getD default,[4,8,14],[9,10,11,12,13,15],[],Tryz.func87,rfl,akU⟩
  (aB ⟨Tryz.f139,(aa ae 139).getD default,[11],[8,9,10],[],Tryz.func139,rfl,akY⟩
  (aB ⟨Tryz.f140,(aa ae 140).getD default,[4],[5,6,7,8],[],Tryz.func140,rfl,al9⟩
  (aB ⟨Tryz.f181,(aa ae 181).getD default,[],[2],[],Tryz.func181,rfl,ama⟩
  (aB ⟨Tryz.f182,(aa ae 182).getD default,[],[4,0,1],[],Tryz.func182,rfl,amb⟩
  (aB ⟨Tryz.f183,(aa ae 183).getD default,[4,5,6],[7,8],[],Tryz.func183,rfl,amc⟩
  (aB ⟨Tryz.f88,(aa ae 88).getD default,[7,9,10],[8],[],Tryz.func88,rfl,alI⟩
  (aB ⟨Tryz.f39,(aa ae 39).getD default,[5,7,10,11,12,14,17,20],[13,15,16,18],[],Tryz.func39,rfl,akT⟩
  (aB ⟨Tryz.f20,(aa ae 20).getD default,[2,4,5,65541,69637,73733,77829,7,31,9,49,11,13],[],[],Tryz.func20,rfl,amu⟩
  (aB ⟨Tryz.f54,(aa ae 54).getD default,[],[4],[],Tryz.func54,rfl,amA⟩
  (aB ⟨Tryz.f40,(aa ae 40).getD default,[5,7,10,12],[11],[],Tryz.func40,rfl,ak8⟩
  (aB ⟨Tryz.f84,(aa ae 84).getD default,[4,6,8,9],[],[],Tryz.func84,rfl,ala⟩
  (aB ⟨Tryz.f57,(aa ae 57).getD default,[5,8,77832,10],[],[],Tryz.func57,rfl,ak0⟩
  (aB ⟨Tryz.f34,(aa ae 34).getD default,[4,7,8,9],[10],[],Tryz.func34,rfl,akZ⟩
  (aB ⟨Tryz.f82,(aa ae 82).getD default,[4,7,8,10,16394],[9,11,12,13,14],[],Tryz.func82,rfl,ak4⟩
  (aB ⟨Tryz.f130,(aa ae 130).getD default,[2,3,4],[5],[],Tryz.func130,rfl,ak5⟩
  (aB ⟨Tryz.f173,(aa ae 173).getD default,[2,3,5,6,8,10,90,139],[4,7,9,11,12,13,14,15,16],[],Tryz.func173,rfl,amy⟩
  (aB ⟨Tryz.f198,(aa ae 198).getD default,[2],[3],[],Tryz.func198,rfl,amx⟩
  (aB ⟨Tryz.f197,(aa ae 197).getD default,[],[4],[],Tryz.func197,rfl,amC⟩
  (aB ⟨Tryz.f217,(aa ae 217).getD default,[],[4,5],[],Tryz.func217,rfl,amG⟩
  (aB ⟨Tryz.f170,(aa ae 170).getD default,[2],[4],[],Tryz.func170,rfl,ami⟩
  (aB ⟨Tryz.f146,(aa ae 146).getD default,[],[4],[],Tryz.func146,rfl,amm⟩
  (aB ⟨Tryz.f199,(aa ae 199).getD default,[2],[],[],Tryz.func199,rfl,amz⟩
  (aB ⟨Tryz.f200,(aa ae 200).getD default,[3,6,8],[],[],Tryz.func200,rfl,amv⟩
  (aB ⟨Tryz.f131,(aa ae 131).getD default,[],[2,3,4,11],[],Tryz.func131,rfl,alN⟩
  (aB ⟨Tryz.f45,(aa ae 45).getD default,[],[4],[],Tryz.func45,rfl,amE⟩
  (aB ⟨Tryz.f103,(aa ae 103).getD default,[],[4,5],[],Tryz.func103,rfl,amJ⟩
  (aB ⟨Tryz.f133,(aa ae 133).getD default,[4,10,53],[8,9,11,12,13,14,55,70],[],Tryz.func133,rfl,alx⟩
  (aB ⟨Tryz.f174,(aa ae 174).getD default,[4,9],[8],[],Tryz.func174,rfl,alA⟩
  (aB ⟨Tryz.f202,(aa ae 202).getD default,[],[3],[],Tryz.func202,rfl,alz⟩
  (aB ⟨Tryz.f201,(aa ae 201).getD default,[],[4],[],Tryz.func201,rfl,amD⟩
  (aB ⟨Tryz.f218,(aa ae 218).getD default,[],[4,5],[],Tryz.func218,rfl,amI⟩
  (aB ⟨Tryz.f175,(aa ae 175).getD default,[4,11],[8,9],[],Tryz.func175,rfl,aly⟩
  (aB ⟨Tryz.f83,(aa ae 83).getD default,[3,6,8,10],[7,9,11,12],[],Tryz.func83,rfl,alM⟩
  (aB ⟨Tryz.f134,(aa ae 134).getD default,[2,3,4,12292,9],[5,6,7,8,10,11],[],Tryz.func134,rfl,alP⟩
  (aB ⟨Tryz.f177,(aa ae 177).getD default,[2],[3],[],Tryz.func177,rfl,alO⟩
  (aB ⟨Tryz.f176,(aa ae 176).getD default,[],[4,5],[],Tryz.func176,rfl,amH⟩
  (aB ⟨Tryz.f178,(aa ae 178).getD default,[1],[2,3],[],Tryz.func178,rfl,amU⟩
  (aB ⟨Tryz.f203,(aa ae 203).getD default,[2,7,12295],[4,5],[],Tryz.func203,rfl,am4⟩
  (aB ⟨Tryz.f204,(aa ae 204).getD default,[1,4,6,12294,9],[2,3,5,7,8,38,47,10,11,12],[],Tryz.func204,rfl,amY⟩
  (aB ⟨Tryz.f219,(aa ae 219).getD default,[1],[2,3,12,20,4,5],[],Tryz.func219,rfl,am1⟩
  (aB ⟨Tryz.f223,(aa ae 223).getD default,[],[2],[],Tryz.func223,rfl,am0⟩
  (aB ⟨Tryz.f221,(aa ae 221).getD default,[],[2,3,4,11],[],Tryz.func221,rfl,amW⟩
  (aB ⟨Tryz.f220,(aa ae 220).getD default,[2],[4,8,13,17,21],[],Tryz.func220,rfl,am6⟩
  (aB ⟨Tryz.f135,(aa ae 135).getD default,[2,4,7],[5,6,8],[],Tryz.func135,rfl,amV⟩
  (aB ⟨Tryz.f179,(aa ae 179).getD default,[2,3,4,6,33,7,8,10,12298,12],[5,15,21,9,11],[],Tryz.func179,rfl,am2⟩
  (aB ⟨Tryz.f205,(aa ae 205).getD default,[2,4],[5,6],[],Tryz.func205,rfl,am3⟩
  (aB ⟨Tryz.f222,(aa ae 222).getD default,[2],[],[],Tryz.func222,rfl,am7⟩
  (aB ⟨Tryz.f206,(aa ae 206).getD default,[4,5],[9,22,41,6,7,82,88,94],[],Tryz.func206,rfl,amZ⟩
  (aB ⟨Tryz.f224,(aa ae 224).getD default,[],[6,8,14,20,25],[],Tryz.func224,rfl,amX⟩
  (aB ⟨Tryz.f228,(aa ae 228).getD default,[],[4,5,6,7],[],Tryz.func228,rfl,am5⟩
  (aB ⟨Tryz.f153,(aa ae 153).getD default,[],[4,5,6,7,8,9,10,11,12,13],[],Tryz.func153,rfl,alh⟩
  (aB ⟨Tryz.f207,(aa ae 207).getD default,[6],[2,3,5,8],[],Tryz.func207,rfl,amB⟩
  (aB ⟨Tryz.f33,(aa ae 33).getD default,[1],[2,3,7,12],[],Tryz.func33,rfl,ak3⟩
  (aB ⟨Tryz.f32,(aa ae 32).getD default,[4,6],[8,9,10,11],[],Tryz.func32,rfl,ak1⟩
  (aB ⟨Tryz.f56,(aa ae 56).getD default,[1],[2],[],Tryz.func56,rfl,ak2⟩
  (aB ⟨Tryz.f81,(aa ae 81).getD default,[1,3,6,8],[2,4],[],Tryz.func81,rfl,amw⟩
  (aB ⟨Tryz.f129,(aa ae 129).getD default,[],[2,3,4],[],Tryz.func129,rfl,amL⟩
  (aB ⟨Tryz.f80,(aa ae 80).getD default,[4,5,10],[8,9,15,39,58,74,11,12],[],Tryz.func80,rfl,amM⟩
  (aB ⟨Tryz.f89,(aa ae 89).getD default,[1,9],[2,3,4,5,6,7,10,11,12],[],Tryz.func89,rfl,amh⟩
  (aB ⟨Tryz.f141,(aa ae 141).getD default,[1,2,3,4,6,16390,20486,24582,21,8,34,10,12298,16394,47],[],[],Tryz.func141,rfl,amp⟩
  (aB ⟨Tryz.f142,(aa ae 142).getD default,[],[6,7,8],[],Tryz.func142,rfl,aml⟩
  (aB ⟨Tryz.f184,(aa ae 184).getD default,[],[4],[],Tryz.func184,rfl,amo⟩
  (aB ⟨Tryz.f208,(aa ae 208).getD default,[],[2,3,4,5],[],Tryz.func208,rfl,amn⟩
  (aB ⟨Tryz.f209,(aa ae 209).getD default,[],[4],[],Tryz.func209,rfl,amF⟩
  (aB ⟨Tryz.f226,(aa ae 226).getD default,[],[4,5],[],Tryz.func226,rfl,amK⟩
  (aB ⟨Tryz.f143,(aa ae 143).getD default,[],[2],[],Tryz.func143,rfl,amd⟩
  (aB ⟨Tryz.f144,(aa ae 144).getD default,[],[3],[],Tryz.func144,rfl,ame⟩
  (aB ⟨Tryz.f145,(aa ae 145).getD default,[2,3],[4,6],[],Tryz.func145,rfl,amk⟩
  (aB ⟨Tryz.f185,(aa ae 185).getD default,[],[6,7,8],[],Tryz.func185,rfl,ams⟩
  (aB ⟨Tryz.f147,(aa ae 147).getD default,[],[3],[],Tryz.func147,rfl,amf⟩
  (aB ⟨Tryz.f148,(aa ae 148).getD default,[],[3],[],Tryz.func148,rfl,amg⟩
  (aB ⟨Tryz.f149,(aa ae 149).getD default,[1,3,4,6,19,8,16392,36],[2],[],Tryz.func149,rfl,amq⟩
  (aB ⟨Tryz.f150,(aa ae 150).getD default,[1,4,6],[2,3],[],Tryz.func150,rfl,amt⟩
  (aB ⟨Tryz.f151,(aa ae 151).getD default,[1,4,6],[2],[],Tryz.func151,rfl,amr⟩
  (aB ⟨Tryz.f124,(aa ae 124).getD default,[2],[4],[],Tryz.func124,rfl,amQ⟩
  (aB ⟨Tryz.f125,(aa ae 125).getD default,[],[2],[],Tryz.func125,rfl,amR⟩
  (aB ⟨Tryz.f126,(aa ae 126).getD default,[1],[2],[],Tryz.func126,rfl,amN⟩
  (aB ⟨Tryz.f127,(aa ae 127).getD default,[3,4],[6,7,13,16,24,33,8,9],[],Tryz.func127,rfl,amP⟩
  (aB ⟨Tryz.f169,(aa ae 169).getD default,[3],[4,5],[],Tryz.func169,rfl,amO⟩
  (aB ⟨Tryz.f195,(aa ae 195).getD default,[],[4,5,6,7,8,9],[],Tryz.func195,rfl,ali⟩
  (aB ⟨Tryz.f194,(aa ae 194).getD default,[],[2],[],Tryz.func194,rfl,als⟩
  (aB ⟨Tryz.f212,(aa ae 212).getD default,[],[2,3,4,5,6,7,8,9],[],Tryz.func212,rfl,alm⟩
  (aB ⟨Tryz.f214,(aa ae 214).getD default,[],[4],[],Tryz.func214,rfl,alp⟩
  (aB ⟨Tryz.f227,(aa ae 227).getD default,[],[6,0,1],[],Tryz.func227,rfl,alq⟩
  (aB ⟨Tryz.f213,(aa ae 213).getD default,[],[6,7,8],[],Tryz.func213,rfl,alj⟩
  (aB ⟨Tryz.f163,(aa ae 163).getD default,[3,9],[6,7],[],Tryz.func163,rfl,amj⟩
  (aB ⟨Tryz.f128,(aa ae 128).getD default,[3],[6,7,8,2,9,10],[],Tryz.func128,rfl,amS⟩
  (aB ⟨Tryz.f171,(aa ae 171).getD default,[3,9],[6,7,2],[],Tryz.func171,rfl,amT⟩
  (aB ⟨Tryz.f172,(aa ae 172).getD default,[2,4,5],[6],[],Tryz.func172,rfl,alk⟩
  (aB ⟨Tryz.f196,(aa ae 196).getD default,[3,4,5],[6],[],Tryz.func196,rfl,alo⟩
  (aB ⟨Tryz.f216,(aa ae 216).getD default,[2],[4,5,6,7],[],Tryz.func216,rfl,alr⟩
  (aB ⟨Tryz.f85,(aa ae 85).getD default,[2,4,5,6],[],[],Tryz.func85,rfl,alb⟩
  (aB ⟨Tryz.f21,(aa ae 21).getD default,[3],[6],[],Tryz.func21,rfl,am8⟩
  (aB ⟨Tryz.f55,(aa ae 55).getD default,[2,5,7],[4],[],Tryz.func55,rfl,am9⟩
  (aB ⟨Tryz.f137,(aa ae 137).getD default,[3,7],[6],[],Tryz.func137,rfl,alc⟩
  (aB ⟨Tryz.f136,(aa ae 136).getD default,[],[2,3,5,12,15],[],Tryz.func136,rfl,ak9⟩
  (aB ⟨Tryz.f138,(aa ae 138).getD default,[2,9],[4,5,6,7,10,50,54],[],Tryz.func138,rfl,ald⟩
  (aB ⟨Tryz.f180,(aa ae 180).getD default,[2,7],[4,5],[],Tryz.func180,rfl,alR⟩
  (aB ⟨Tryz.f91,(aa ae 91).getD default,[],[8,9,10],[],Tryz.func91,rfl,akW⟩
  (aB ⟨Tryz.f41,(aa ae 41).getD default,[],[10,11,12,13,14],[],Tryz.func41,rfl,alJ⟩
  (aB ⟨Tryz.f93,(aa ae 93).getD default,[],[4],[],Tryz.func93,rfl,alL⟩
  (aB ⟨Tryz.f94,(aa ae 94).getD default,[],[6,7,8,9,10,11,12],[],Tryz.func94,rfl,alK⟩
  (aB ⟨Tryz.f154,(aa ae 154).getD default,[],[6,7,8,2,9,10,11,12,13,14,15,16,17,18],[],Tryz.func154,rfl,ale⟩
  (aB ⟨Tryz.f186,(aa ae 186).getD default,[],[2],[],Tryz.func186,rfl,alf⟩
  (aB ⟨Tryz.f210,(aa ae 210).getD default,[],[2,0],[],Tryz.func210,rfl,alg⟩
  (aB ⟨Tryz.f92,(aa ae 92).getD default,[6,7,14,16],[12,13,15,17],[],Tryz.func92,rfl,akV⟩
  (aB ⟨Tryz.f152,(aa ae 152).getD default,[4,5],[6,7,8,9,10,11,12],[],Tryz.func152,rfl,akX⟩
  (aB ⟨Tryz.f38,(aa ae 38).getD default,[2,3],[4],[],Tryz.func38,rfl,alG⟩
  (aB ⟨Tryz.f43,(aa ae 43).getD default,[2,3],[4,5],[],Tryz.func43,rfl,al8⟩
  (aB ⟨Tryz.f95,(aa ae 95).getD default,[1],[2,3,4],[],Tryz.func95,rfl,al0⟩
  (aB ⟨Tryz.f96,(aa ae 96).getD default,[1],[2],[],Tryz.func96,rfl,al4⟩
  (aB ⟨Tryz.f97,(aa ae 97).getD default,[1],[2,3],[],Tryz.func97,rfl,al7⟩
  (aB ⟨Tryz.f155,(aa ae 155).getD default,[1],[2],[],Tryz.func155,rfl,al5⟩
  (aB ⟨Tryz.f187,(aa ae 187).getD default,[3],[6,1,7],[],Tryz.func187,rfl,al6⟩
  (aB ⟨Tryz.f90,(aa ae 90).getD default,[1],[2],[],Tryz.func90,rfl,al3⟩
  (aB ⟨Tryz.f58,(aa ae 58).getD default,[2,3,10],[4,5,6,7,8,11],[],Tryz.func58,rfl,alQ⟩
  (aB ⟨Tryz.f112,(aa ae 112).getD default,[2,3],[4,5,6,7,8,54,80,109,118,9,10],[],Tryz.func112,rfl,ana⟩
  (aB ⟨Tryz.f161,(aa ae 161).getD default,[],[4],[],Tryz.func161,rfl,anb⟩
  (aB ⟨Tryz.f162,(aa ae 162).getD default,[1,3],[2,8,19,40],[],Tryz.func162,rfl,anc⟩
  (aB ⟨Tryz.f113,(aa ae 113).getD default,[3,4,7,11],[6,8,9,76,92,98],[],Tryz.func113,rfl,alY⟩
  (aB ⟨Tryz.f114,(aa ae 114).getD default,[],[6],[],Tryz.func114,rfl,alX⟩
  (aB ⟨Tryz.f164,(aa ae 164).getD default,[3,4,7,8],[6,9,10,66,103,113,11,140,149],[],Tryz.func164,rfl,alW⟩
  (aB ⟨Tryz.f191,(aa ae 191).getD default,[3],[6,7],[],Tryz.func191,rfl,alU⟩
  (aB ⟨Tryz.f192,(aa ae 192).getD default,[3],[6],[],Tryz.func192,rfl,alZ⟩
  (aB ⟨Tryz.f115,(aa ae 115).getD default,[2,3,6],[4,5,7],[],Tryz.func115,rfl,alT⟩
  (aB ⟨Tryz.f165,(aa ae 165).getD default,[3,4,5],[6,7,8,9,65,80,100,111],[],Tryz.func165,rfl,alS⟩
  (aB ⟨Tryz.f116,(aa ae 116).getD default,[1,4,5],[2,3],[],Tryz.func116,rfl,alV⟩
  (aB ⟨Tryz.f167,(aa ae 167).getD default,[],[4,5,6],[],Tryz.func167,rfl,alu⟩
  (aB ⟨Tryz.f193,(aa ae 193).getD default,[],[2],[],Tryz.func193,rfl,alw⟩
  (aB ⟨Tryz.f166,(aa ae 166).getD default,[],[2,3,5],[],Tryz.func166,rfl,alv⟩
  (aB ⟨Tryz.f11,(aa ae 11).getD default,[5,7,12,13],[10,11,14,15,16,17,18],[],Tryz.func11,rfl,alE⟩
  (aB ⟨Tryz.f12,(aa ae 12).getD default,[6,8,11,14,73742,26,31,15,16],[12,13,18],[],Tryz.func12,rfl,alB⟩
  (aB ⟨Tryz.f13,(aa ae 13).getD default,[6,8,14,15,16,17],[12,13],[],Tryz.func13,rfl,alC⟩
  trivial)))))))))))))))))))))))))))))))))))))))))))))))))))))))))))))))))))))))))))))))))))))))))))))))))))))))))))))))))))))))))))))))))))))))))
end Rm
set_option linter.unusedSimpArgs false
namespace Rm
open Go Go.Proofs Cx Go.RowKit Go.Lib
theorem ave:(Tryz.prog.info? 3).map (fun i=>(i.zero,i.size,i.bytes))=some (some (.int .i64 0),1,8):=by kernel_rfl
set_option maxHeartbeats 2000000 in
set_option maxRecDepth 100000 in
theorem arW (w:World):Calls Tryz.prog 225 #[.slice none 0 0,.int .i64 0] w fun e w'=>e=.returned (.slice none 0 0)∧w'=w:=by
 go_enter Tryz.func225,Tryz.ntmps225
 go_wp2
 go_ret
 exact⟨rfl,rfl⟩
set_option maxHeartbeats 2000000 in
set_option maxRecDepth 100000 in
theorem arV (n:Nat)(w:World)(h0:0<n)(h1:n≤4294967296):Calls Tryz.prog 225 #[.slice none 0 0,.int .i64 n] w fun e w'=>
 ∃v',e=.returned v'∧w'.ownsRow w.heap.size 3 1 v' 0 []∧Below w.heap.size w w':=by
 obtain⟨i0,hi,yi,vG,hz2⟩:=info_parts ave;have hr:=run_append_nil_zeros w 52 3 52 3 i0 (.int .i64 0) .i64 .i64 Tryz.underlying52 Tryz.underlying3 hi yi n h0 (by rw[vG];decide) (by omega) (by rw[hz2];omega);have hn:¬((n:Int)<0):=by omega
 have mC:(n:Int)>0:=by omega
 have hw:IntKind.i64.wrap (n:Int)=n:=by rw[IntKind.wrap_i64];omega
 have qa:IntKind.i64.wrap 0=0:=by decide
 have gd:=grownCap_ge w n 0 3;have hle:=grownCap_le_maxLen w n 0 3 (by unfold maxLen;omega);have hs:(Builtin.zeroCells #[Value.int IntKind.i64 0] n++Builtin.zeroCells #[Value.int IntKind.i64 0] (grownCap w n 0 3-n)).size=grownCap w n 0 3*1:=by
  rw[Array.size_append,size_zeroCells,size_zeroCells];simp;omega
 go_enter Tryz.func225,Tryz.ntmps225
 go_wp2_with (at_builtin;refine wpList_append_run _ rfl _ _ 52 3 rfl _ _ rfl rfl _ _ hr ?qc)
 go_ret
 refine⟨_,rfl,?_,?_⟩
 ·exact World.ownsRow.drew (World.ownsRow_made w _ _ (Nat.le_refl _) hle hs)
 ·exact((Below.refl _ w).alloc (Nat.le_refl _) _).drew
def GY (ds:List D):Option D:=
 match ds with
 |[.list [],.v (.int .i64 n)]=>if 0≤n∧n≤4294967296 then some (.list []) else none
 |_=>none
theorem arU (ds:List D)(d:D)(h:GY ds=some d):∃s,ctx.sig 225=some s∧MW ctx 225 s ds d:=by
 refine⟨_,rfl,fun _=>?_,fun shs obs hm=>by cases hm⟩;unfold GY at h;split at h
 case h_2=>cases h
 rename_i n;split at h
 case isFalse=>cases h
 rename_i hn;cases h;obtain⟨k,rfl⟩:=Int.eq_ofNat_of_zero_le hn.1;intro σ w args az hC ha;obtain⟨a1,a2,a3⟩:=ha;have h0:=a3 0 _ rfl;have h1:=a3 1 _ rfl;obtain⟨u,v,rfl⟩:∃u v,args=#[u,v]:=by
  have:args.size=2:=by simpa using a1
  match args,this with
  |⟨[u,v]⟩,_=>exact⟨u,v,rfl⟩
 simp only[List.getD_cons_zero,List.getD_cons_succ] at h0 h1;change Rep ctx.cap σ (.nils .bool) u (.list []) at h0;change Rep ctx.cap σ (.int .i64) v (.v (.int .i64 k)) at h1;have hu:u=.slice none 0 0:=by cases h0;rfl
 have hv:v=.int .i64 k:=by cases h1;rfl
 subst hu hv;by_cases hk:k=0
 ·subst hk;refine(arW w).mono fun e w' hh=>?_;obtain⟨rfl,rfl⟩:=hh;refine⟨_,σ,rfl,.refl σ,az,.refl _ _,fun _ _ _ h=>.inl h,fun _ _ h=>.inl h,?_⟩;exact⟨[],[],rfl,⟨by simp,.inl ⟨rfl,rfl⟩⟩,⟨fun _=>undef,fun i x hx=>by simp at hx,fun i j u hi=>by simp at hi⟩,fun k hk=>by cases hk⟩
 ·refine(arV k w (by omega) (by omega)).mono fun e w' hh=>?_;obtain⟨v',rfl,bM,hb⟩:=hh;refine⟨v',σ,rfl,.refl σ,az.below hb,hb,fun _ _ _ h=>.inl h,fun _ _ h=>.inl h,?_⟩;refine⟨[],[],rfl,bM,⟨fun _=>undef,fun i x hx=>by simp at hx,fun i j u hi=>by simp at hi⟩,fun k hk=>?_⟩;have bU:=(bM.lt k hk).1;refine⟨fun o=>?_,?_⟩
  ·cases hc:σ.c k o with
   |none=>rfl
   |some u=>have:=World.block_lt_of_cell? w (a:=⟨k,o,none⟩) (az.c _ _ _ hc);simp at this;omega
  ·cases hc:σ.m k with
   |none=>rfl
   |some u=>rcases az.m _ _ hc with⟨arr,clock,x,g1,_⟩|⟨_,g1⟩<;>(have:=(Array.getElem?_eq_some_iff.1 g1).1;omega)
def eM (day:Int):Int×Int×Int:=
 let n:=day+730425
 let e:=n/146097
 let r:=n%146097
 let y:=(r-r/1460+r/36524-r/146096)/365
 let r:=r-(365*y+y/4-y/100)
 let m:=(5*r+2)/153
 let dom:=r-(153*m+2)/5+1
 let month:=if 12<m+3 then m+3-12 else m+3
 (if month<3 then y+400*e+1 else y+400*e,month,dom)
def v9 (rest feasts shut:List Int)(day:Int):Bool:=
 !rest.contains ((day+5)%7)&&(!feasts.contains (100*(eM day).2.1+(eM day).2.2)&& !shut.contains day)
def Xd (rest feasts shut:List Int)(a b:Int):List Int:=((List.range (b-a+1).toNat).map fun(k:Nat)=>a+k).filter (v9 rest feasts shut)
def vJ (d:D):List Int:=d.l.map D.i
def Xe (ds:List D):List D:=
 let c:=(ds.getD 2 .none).deref
 (Xd (vJ (c.c 3)) (vJ (c.c 4)) (vJ (c.c 5)) (ds.getD 0 .none).deref.i (ds.getD 1 .none).deref.i).map fun d=>.tup [.int d]
def xg (r:D)(city:Int):Int:=if 0≤city∧city<(r.c 1).l.length then(((r.c 1).l.getD city.toNat .none).c 1).i else-1
def RJ (ds:List D):D:=
 let r:=ds.getD 0 .none
 let forum:=(ds.getD 1 .none).i
 let c:=ds.getD 2 .none
 let s:=(c.c 15).l.getD (c.c 19).i.toNat .none
 let who:=(s.c 2).i
 if who<0∨(r.c 3).l.length≤who∨forum<0∨(r.c 4).l.length≤forum then .list [] else
 let out:=[forum,xg r (s.c 7).i,xg r (c.c 10).i,xg r (c.c 9).i,xg r (((r.c 3).l.getD who.toNat .none).c 1).i]
 if(-1)∈out then .list [] else ints out
noncomputable def XD:List (Nat×(aS→List D→Option D)):=[(225,fun _ ds=>GY ds),(132,yB RF RG RJ),(215,CF C7 1000 1 Xe)]
noncomputable def ext:Nat→Option (aS→List D→Option D):=aa XD
theorem Mr:TabOK ctx tab ext:=by
 refine⟨clos,its,fun f pc _ h=>azD f pc h,fun f g hg Φ hΦ fe ds d h=>?_⟩
 have:=Qz (R:=fun f (g:aS→List D→Option D)=>∀Φ,cY ctx Φ→fJ ctx Φ→∀ds d,g Φ ds=some d→(∀s,ctx.sig f=some s→MW ctx f s ds d)∧
  ∀cs ys,ctx.cap f=some cs→lz cs.args cs.res=some ys→∃xs,d=.list xs∧(∀x,x∈xs→∃ds',x=.tup ds'∧ds'.length=ys.length)∧kX ctx f cs.caps ys ds xs) (l:=XD)
  ⟨fun Φ hΦ fe ds d h=>⟨fun s hs=>by obtain⟨s',h1,h2⟩:=arU ds d h;rw[hs] at h1;cases h1;exact h2,fun cs ys hc hi=>by cases hc⟩,
   fun Φ hΦ fe ds d h=>⟨fun s hs=>by cases hs;exact⟨fun _=>aw4 clos hΦ fe Tryz.func132 ak6 ak7 h,fun shs obs hm=>by cases hm⟩,fun cs ys hc hi=>by cases hc⟩,
   fun Φ hΦ fe ds d h=>⟨fun s hs=>(by cases hs),fun cs ys hc hi=>by
    cases hc;cases hi;exact avi clos hΦ fe Tryz.func215 ane h rfl⟩,trivial⟩ f g hg
 exact this Φ hΦ fe ds d h
noncomputable abbrev T:cu:=dK tab ext
theorem aj.of_nsl {tab:Nat→Option PC}{ext:Nat→Option (aS→List D→Option D)}{f:Nat}{pa pb:PC}{spec:List D→D}{ds:List D}{ta tb:PT}(hx:ext f=some (yB pa pb spec))(hta:tree pa=ta)(htb:tree pb=tb)
 (h:(∃xs,xs≠[]∧spec ds=.list xs∧aI (dK tab ext) ta (kC ds) (fun x=>x=.ret (.list xs)))∨(spec ds=.list []∧aI (dK tab ext) tb (kC ds) (fun x=>x=.ret (.list [])))):aj (dK tab ext) f ds (spec ds):=by
 refine aj.of_ext hx ?_;rcases h with⟨xs,h1,h2,h3⟩|⟨h2,h3⟩
 ·obtain⟨x,rfl,n0,hn⟩:=MI (c:=pa) (hta▸h3);refine⟨n0,fun n hle=>?_⟩;unfold yB;rw[if_pos (.inl ⟨n,xs,hn n hle,h1,h2⟩)]
 ·obtain⟨x,rfl,n0,hn⟩:=MI (c:=pb) (htb▸h3);refine⟨n0,fun n hle=>?_⟩;unfold yB;rw[if_pos (.inr ⟨n,hn n hle,h2⟩)]
end Rm
namespace Rm
open Go Go.Proofs Cx
def ga (n:Nat)(p:Nat→Bool):Bool:=(List.range n).all p
theorem Wj {n:Nat}{p:Nat→Bool}(h:∀k,k<n→p k=true):ga n p=true:=List.all_eq_true.2 fun k hk=>h k (List.mem_range.1 hk)
theorem ahB {n k:Nat}{p:Nat→Bool}(hk:k<n)(h:p k=false):ga n p=false:=List.all_eq_false.2 ⟨k,List.mem_range.2 hk,by simp[h]⟩
theorem zS {n:Nat}{p:Nat→Bool}:ga n p=true↔∀k,k<n→p k=true:=⟨fun h k hk=>List.all_eq_true.1 h k (List.mem_range.2 hk),Wj⟩
def fc (n:Nat)(f:Nat→Int):Int:=(((List.range n).map f).find? fun x=>x !=0).getD 0
theorem Ow {n:Nat}{f:Nat→Int}(h:∀k,k<n→f k=0):fc n f=0:=by
 unfold fc;rw[List.find?_eq_none.2]
 ·rfl
 ·intro x hx;obtain⟨k,hk,rfl⟩:=List.mem_map.1 hx;simp[h k (List.mem_range.1 hk)]
theorem Ou {n k:Nat}{f:Nat→Int}(hk:k<n)(hj:∀j,j<k→f j=0)(h:f k≠0):fc n f=f k:=by
 unfold fc;have e:List.range n=List.range k++k::(List.range' (k+1) (n-k-1)):=by
  rw[List.range_eq_range',List.range_eq_range',←List.range'_succ];have:=List.range'_append_1 (s:=0) (m:=k) (n:=n-k-1+1);rw[Nat.zero_add] at this;rw[this];congr 1;omega
 rw[e,List.map_append,List.find?_append,List.find?_eq_none.2,Option.none_or,List.map_cons,List.find?_cons_of_pos (by simpa using h)]
 ·rfl
 ·intro x hx;obtain⟨j,sT,rfl⟩:=List.mem_map.1 hx;simp[hj j (List.mem_range.1 sT)]
theorem Ov {n:Nat}{f:Nat→Int}:fc n f=0↔∀k,k<n→f k=0:=by
 refine⟨fun h k=>?_,Ow⟩
 induction k using Nat.strongRecOn with
 |ind k ih=>
  intro hk;refine Classical.byContradiction fun aE=>?_;rw[Ou hk (fun j hj=>ih j hj (by omega)) aE] at h;exact aE h
section
variable {T:cu} {id:Nat} {bo bn lr lo:List Nat} {a:PC} {ρ:Env} {Q:Out→Prop}
theorem lK (N:Nat)(p:Nat→Bool)(str eX:Nat→List D)(h0:lr.map ρ.r=str 0∧lo.map ρ.o=eX 0)
 (step:∀k,k<N→p k=true→aI T (round id bo bn lr lo a) (ρ.put lr (str k) lo (eX k)) (eH ρ id bo bn lr lo (fun vr vo=>vr=str (k+1)∧vo=eX (k+1)) Q))
 (bad:∀k,k<N→p k=false→ga N p=false→aI T (round id bo bn lr lo a) (ρ.put lr (str k) lo (eX k)) (eH ρ id bo bn lr lo (fun _ _=>False) Q))
 (last:ga N p=true→aI T (round id bo bn lr lo a) (ρ.put lr (str N) lo (eX N)) (eH ρ id bo bn lr lo (fun _ _=>False) Q)):aO T (.block id bo bn (.loop lr lo a)) ρ Q:=
 .scan N (fun k=>p k=true) str eX h0 (fun k hk _ h=>step k hk h) (fun k hk _ h=>bad k hk (by simpa using h) (ahB hk (by simpa using h))) (fun h=>last (Wj h))
theorem wP (N:Nat)(f:Nat→Int)(str eX:Nat→List D)(h0:lr.map ρ.r=str 0∧lo.map ρ.o=eX 0)
 (step:∀k,k<N→f k=0→aI T (round id bo bn lr lo a) (ρ.put lr (str k) lo (eX k)) (eH ρ id bo bn lr lo (fun vr vo=>vr=str (k+1)∧vo=eX (k+1)) Q))
 (bad:∀k,k<N→f k≠0→fc N f=f k→aI T (round id bo bn lr lo a) (ρ.put lr (str k) lo (eX k)) (eH ρ id bo bn lr lo (fun _ _=>False) Q))
 (last:fc N f=0→aI T (round id bo bn lr lo a) (ρ.put lr (str N) lo (eX N)) (eH ρ id bo bn lr lo (fun _ _=>False) Q)):aO T (.block id bo bn (.loop lr lo a)) ρ Q:=
 .scan N (fun k=>f k=0) str eX h0 (fun k hk _ h=>step k hk h) (fun k hk hj h=>bad k hk h (Ou hk hj h)) (fun h=>last (Ow h))
end
theorem bI {k n:Nat}(h:k<n)(hn:n≤4294967296):IntKind.i64.wrap ((k:Int)+1)=(k:Int)+1:=aW (by omega)
theorem agW {k:Nat}(hn:k≤4294967296):IntKind.i64.wrap ((k:Int)-1)=(k:Int)-1:=aW (by omega)
def aF (i n:Int):Bool:=decide (0≤i)&&decide (i<n)
def wi (n a b:Int):Bool:=decide (a≤n)&&decide (n≤b)
theorem fq (i n:Int):aj T abZ [.int i,.int n] (.bool (aF i n)):=by
 refine .of_tree rfl ajG aBd ?_;simp[UU,aF];by_cases h:0≤i<;>simp[h]
theorem pj (i n:Int):aj T ace [.int i,.int n] (.bool (aF i n)):=by
 refine .of_tree rfl ajU aBr ?_;simp[U8,aF];by_cases h:0≤i<;>simp[h]
theorem idx_eq {α:Type}[DecidableEq α]{l:List α}{x z:α}{k:Nat}(hk:k<l.length)(hj:∀j,j<k→l.getD j z≠x)(h:¬l.getD k z≠x):x∈l∧l.findIdx (fun y=>decide (y=x))=k:=by
 have e:l[k]=x:=by simpa [hk] using h
 refine⟨e▸List.getElem_mem hk,(List.findIdx_eq hk).2 ⟨by simp[e],fun j sS=>?_⟩⟩;have eD:j<l.length:=by omega
 simpa [eD] using hj j sS
theorem ZH {α:Type}[DecidableEq α]{l:List α}{x z:α}(hj:∀j,j<l.length→l.getD j z≠x):¬x∈l:=fun hm=>by
 obtain⟨j,eD,rfl⟩:=List.getElem_of_mem hm;have:=hj j eD;simp[eD] at this
def tj {α:Type}[DecidableEq α](l:List α)(x:α):Int:=if x∈l then(l.findIdx (fun y=>decide (y=x)):Nat) else-1
def hasB {α:Type}[DecidableEq α](l:List α)(x:α):Bool:=l.any fun y=>decide (y=x)
theorem Yi {α:Type}[DecidableEq α]{l:List α}{x:α}:hasB l x=true↔x∈l:=by simp[hasB]
theorem asx {α:Type}[DecidableEq α]{l:List α}{x:α}:hasB l x=false↔¬x∈l:=by rw[←Yi];simp
theorem ZG {α:Type}[DecidableEq α](l:List α)(x:α):decide (0≤tj l x)=hasB l x:=by
 unfold tj;by_cases h:x∈l
 ·rw[Yi.2 h];simp[h]
 ·rw[asx.2 h];simp[h]
@[simp] theorem aF2 (a b:ByteArray):uN .eql a b=decide (a=b):=by
  simp only[uN,ByteArray.toList_eq];by_cases h:a=b
  ·subst h;simp
  ·rw[decide_eq_false h,beq_eq_false_iff_ne];intro e;have:a.data=b.data:=by rw[←Array.toList_inj];exact e
   exact h (by cases a;cases b;cases this;rfl)
@[simp] theorem aGU (ρ:Env)(x i:PE):PE.ev ρ (.sidx x i)=.v (.int .u8 ((PE.ev ρ x).s.data.getD (PE.ev ρ i).i.toNat 0).toNat):=_root_.id rfl
@[simp] theorem aGY (ρ:Env)(x i:PE):PE.ev ρ (.sok x i)=.v (.bool (decide (0≤(PE.ev ρ i).i∧(PE.ev ρ i).i<(PE.ev ρ x).s.size))):=_root_.id rfl
@[simp] theorem aJT (a:ByteArray):(str a).s=a:=_root_.id rfl
theorem ahf (l:List Int)(x:Int)(hl:l.length≤4294967296):aj T aco [ints l,.int x] (.int (tj l x)):=by
 refine .of_tree rfl aj3 aBA ?_;simp[Vh];refine .scan l.length (fun k=>l.getD k 0≠x) (fun k=>[.int 0,.int k]) (fun _=>[]) ?_ (fun k hk hj ho=>?_) (fun k hk hj ho=>?_) (fun hj=>?_)
 ·simp
 ·have hw:=bI hk hl;simp[hk] at ho;have dL:¬x=l[k]:=fun e=>ho e.symm;simp[SU,DW,hk,hw,ints,ho,dL]
 ·obtain⟨hm,he⟩:=idx_eq hk hj ho;simp[hk] at ho;simp[SU,DW,hk,ints,ho,tj,hm,he]
 ·have:=ZH hj;simp[SU,DW,tj,this,ints]
theorem uE (l:List Int)(x:Int)(hl:l.length≤4294967296):aj T aci [ints l,.int x] (.bool (hasB l x)):=by
 refine .of_tree rfl ajY aBv ?_;simp[Vc];refine⟨_,ahf l x hl,?_⟩;have:=ZG l x;simp at this ⊢;exact this
theorem ahg (l:List ByteArray)(x:ByteArray)(hl:l.length≤4294967296):aj T acp [strs l,str x] (.int (tj l x)):=by
 refine .of_tree rfl aj4 aBB ?_;simp[Vi];refine .scan l.length (fun k=>l.getD k default≠x) (fun k=>[.int 0,.int k]) (fun _=>[]) ?_ (fun k hk hj ho=>?_) (fun k hk hj ho=>?_) (fun hj=>?_)
 ·simp
 ·have hw:=bI hk hl;simp[hk] at ho;have dL:¬x=l[k]:=fun e=>ho e.symm;simp[SV,DX,hk,hw,strs,ho,dL]
 ·obtain⟨hm,he⟩:=idx_eq hk hj ho;simp[hk] at ho;simp[SV,DX,hk,strs,ho,tj,hm,he]
 ·have:=ZH hj;simp[SV,DX,tj,this,strs]
theorem ag9 (l:List ByteArray)(x:ByteArray)(hl:l.length≤4294967296):aj T acj [strs l,str x] (.bool (hasB l x)):=by
 refine .of_tree rfl ajZ aBw ?_;simp[Vd];refine⟨_,ahg l x hl,?_⟩;have:=ZG l x;simp at this ⊢;exact this
def Ma (l:List Int)(a b:Int)(k:Nat):Bool:=wi (l.getD k 0) a b&&(k==0||decide (l.getD (k-1) 0<l.getD k 0))
def rising (l:List Int)(a b:Int):Bool:=ga l.length (Ma l a b)
theorem D4 (l:List Int)(a b:Int)(hl:l.length≤4294967296):aj T ab5 [ints l,.int a,.int b] (.bool (rising l a b)):=by
 refine .of_tree rfl ajM aBj ?_;simp[U1];refine lK l.length (Ma l a b) (fun k=>[.bool false,.int k]) (fun _=>[]) ?_ (fun k hk ho=>?_) (fun k hk ho hb=>?_) (fun hj=>?_)
 ·simp
 ·have hw:=bI hk hl;simp[Ma,wi,hk] at ho;obtain⟨⟨h1,h2⟩,h3⟩:=ho;have cJ:¬l[k]<a:=by omega
  have hZ:¬b<l[k]:=by omega
  by_cases xN:0<k
  ·have cD:k-1<l.length:=by omega
   have fl:IntKind.i64.wrap ((k:Int)-1)=((k-1:Nat):Int):=by rw[agW (by omega)];omega
   have kE:¬l[k]≤l[k-1]:=by
        rcases h3 with h3|h3
        ·omega
        ·simp[cD] at h3;omega
   simp[zg,tX,hk,hw,fl,ints,cJ,hZ,kE,xN,cD]
  ·simp[zg,tX,hk,hw,ints,cJ,hZ,xN]
 ·have hf:rising l a b=false:=hb;simp[Ma,wi,hk] at ho;by_cases h1:l[k]<a
  ·simp[zg,tX,hk,ints,h1,hf]
  by_cases h2:b<l[k]
  ·simp[zg,tX,hk,ints,h1,h2,hf]
  have h3:=ho (by omega) (by omega);have xN:0<k:=by omega
  have cD:k-1<l.length:=by omega
  have fl:IntKind.i64.wrap ((k:Int)-1)=((k-1:Nat):Int):=by rw[agW (by omega)];omega
  have kE:=h3.2;simp[cD] at kE;simp[zg,tX,hk,fl,ints,h1,h2,kE,xN,cD,hf]
 ·have hf:rising l a b=true:=hj;simp[zg,tX,hf]
def Qq (c:Int):Bool:=wi c 97 122||wi c 65 90
def IE (i:Nat)(c:Int):Bool:=Qq c||(i !=0&&(decide (c=95)||wi c 48 57))
def EW (s:ByteArray)(k:Nat):Int:=((s.data.toList.getD k 0).toNat:Nat)
def qm (s:ByteArray):Bool:=decide (1≤s.size)&&decide (s.size≤20)&&ga s.size (fun k=>IE k (EW s k))
theorem WM {s:ByteArray}{k:Nat}(h:k<s.data.size):(s.data[k].toNat:Int)=EW s k:=by
 unfold EW;rw[List.getD_eq_getElem?_getD,List.getElem?_eq_getElem (by simpa using h)];rfl
theorem agv {s:ByteArray}:s=⟨#[]⟩↔s.size=0:=by
 constructor
 ·rintro rfl;rfl
 ·intro h;cases s with|mk d=>congr;exact Array.eq_empty_of_size_eq_zero h
theorem ayL (s:ByteArray):aj T ab0 [str s] (.bool (qm s)):=by
 refine .of_tree rfl ajH aBe ?_;simp[UW];by_cases h0:s=⟨#[]⟩
 ·have hn:qm s=false:=by simp[qm,agv.1 h0]
  rw[hn];simp[h0]
 by_cases h1:(20:Int)<s.size
 ·have cJ:¬s.size≤20:=by omega
  simp[h0,h1,qm,cJ]
 have hz:1≤s.size:=by
  have:s.size≠0:=fun e=>h0 (agv.2 e);omega
 have cJ:s.size≤20:=by omega
 simp[h0,h1];refine⟨by omega,lK s.size (fun k=>IE k (EW s k)) (fun k=>[.bool false,.int k]) (fun _=>[]) ?_ (fun k hk ho=>?_) (fun k hk ho hb=>?_) (fun hj=>?_)⟩
 ·simp
 ·have hw:=bI hk (by omega);have bU:k<s.data.size:=hk;have hg:=WM bU;simp[IE,Qq,wi] at ho;simp[SC,DH,hk,bU,hw,hg];omega
 ·have bU:k<s.data.size:=hk;have hg:=WM bU;have hn:qm s=false:=by simp[qm,hb]
  simp[IE,Qq,wi] at ho;simp[SC,DH,hk,bU,hg,hn];omega
 ·have hn:qm s=true:=by simp[qm,hj,hz,cJ]
  have hd:s.data.size=s.size:=rfl;simp[SC,DH,hn,hd]
end Rm
namespace Rm
open Go Go.Proofs Cx
def tG (l:List ByteArray)(i:Nat):Int:=if qm (l.getD i default)=false then 2 else if hasB (l.take i) (l.getD i default) then 5 else 0
theorem afZ (l:List ByteArray)(i:Nat)(hi:i<l.length)(hl:l.length≤4294967296):aj T ab1 [strs l,.int i] (.int (tG l i)):=by
 refine .of_tree rfl ajI aBf ?_;simp[UX,hi];refine⟨_,by simpa [strs,hi] using ayL l[i],?_⟩;unfold tG;rw[List.getD_eq_getElem?_getD,List.getElem?_eq_getElem hi,Option.getD_some];cases h1:qm l[i]<;>simp[h1];refine⟨by omega,_,by simpa [strs,hi] using ag9 (l.take i) l[i] (by rw[List.length_take];omega),?_⟩;cases h2:hasB (l.take i) l[i]<;>simp[h2]
def uU (l:List ByteArray)(g:Nat→Bool)(i:Nat):Int:=if tG l i≠0 then tG l i else if g i then 0 else 1
def lg (l:List ByteArray)(CR:Int)(g:Nat→Bool):Int:=if CR<l.length then 6 else fc l.length (uU l g)
theorem L4 (l:List ByteArray)(CR:Int)(f:Nat)(caps:List D)(g:Nat→Bool)(hg:∀i:Nat,i<l.length→aj T f (.int i::caps) (.bool (g i)))(hl:l.length≤4294967296):
 aj T abY [strs l,.int CR,.clo f caps] (.int (lg l CR g)):=by
 refine .of_tree rfl ajF aBc ?_;simp[UT,lg];by_cases h0:CR<l.length
 ·simp[h0];intro h;omega
 simp[h0];refine wP l.length (uU l g) (fun k=>[.int 0,.int k]) (fun _=>[]) ?_ (fun k hk ho=>?_) (fun k hk ho hb=>?_) (fun hj=>?_)
 ·simp
 ·have hw:=bI hk hl;have h1:tG l k=0:=by
   refine Classical.byContradiction fun h=>?_;unfold uU at ho;rw[if_pos h] at ho;exact h ho
  have h2:g k=true:=by
   unfold uU at ho;rw[if_neg (by simpa using h1)] at ho;cases h:g k with
   |true=>rfl
   |false=>rw[h] at ho;simp at ho
  simp[SB,DG,hk,hw];refine⟨_,afZ l k hk hl,?_⟩;simp[h1];refine⟨_,_,⟨rfl,rfl⟩,_,hg k hk,?_⟩;simp[h2,hw]
 ·simp[SB,DG,hk,hb];refine⟨_,afZ l k hk hl,?_⟩;unfold uU at ho ⊢;by_cases h1:tG l k=0
  ·simp[h1] at ho ⊢;refine⟨_,_,⟨rfl,rfl⟩,_,hg k hk,?_⟩;simp[ho]
  ·simp[h1]
 ·simp[SB,DG,hj]
def pE (r:Realm)(c:City):Bool:=ga c.feasts.length (fun k=>wi ((c.feasts.getD k 0).tmod 100) 1 31)&&(decide (c.feasts.length≤60)&&decide (c.shut.length≤200)&&aF c.order r.orders.length&&aF c.currency r.currencies.length)&&
 (rising c.rest 0 6&&rising c.feasts 101 1231&&rising c.shut 0 100000)
theorem ayK (r:Realm)(c:City)(h1:c.rest.length≤4294967296)(h2:c.feasts.length≤4294967296)(h3:c.shut.length≤4294967296):aj T abX [aZ r,gq c] (.bool (pE r c)):=by
 refine .of_tree rfl ajE aBb ?_;simp[US];refine lK c.feasts.length (fun k=>wi ((c.feasts.getD k 0).tmod 100) 1 31) (fun k=>[.bool false,.int k]) (fun _=>[]) ?_ (fun k hk ho=>?_) (fun k hk ho hb=>?_) (fun hj=>?_)
 ·simp
 ·have hw:=bI hk h2;simp[wi,hk] at ho;have g1:¬(c.feasts[k].tmod 100<1):=by omega
  have g2:¬(31<c.feasts[k].tmod 100):=by omega
  simp[SA,DF,hk,hw,ints,g1,g2]
 ·have hf:pE r c=false:=by simp only[pE,hb,Bool.false_and]
  simp[wi,hk] at ho;simp[SA,DF,hk,ints,hf];by_cases g1:c.feasts[k].tmod 100<1
  ·simp[g1]
  ·have g2:=ho (by omega);simp[g1,g2]
 ·simp[SA,DF];by_cases g1:(c.feasts.length:Int)≤60
  case neg=>
   have hf:pE r c=false:=by
        have iZ:decide (c.feasts.length≤60)=false:=decide_eq_false (by omega);simp only[pE,iZ,Bool.false_and,Bool.and_false]
   have iZ:(60:Int)<c.feasts.length:=by omega
   simp[g1,iZ,hf]
  by_cases g2:(c.shut.length:Int)≤200
  case neg=>
   have hf:pE r c=false:=by
        have iZ:decide (c.shut.length≤200)=false:=decide_eq_false (by omega);simp only[pE,iZ,Bool.false_and,Bool.and_false]
   have sI:(200:Int)<c.shut.length:=by omega
   simp[g1,g2,sI,hf]
  have iZ:¬(60:Int)<c.feasts.length:=by omega
  have sI:¬(200:Int)<c.shut.length:=by omega
  have hf:pE r c=(aF c.order r.orders.length&&aF c.currency r.currencies.length&&(rising c.rest 0 6&&rising c.feasts 101 1231&&rising c.shut 0 100000)):=by
   have e1:decide (c.feasts.length≤60)=true:=decide_eq_true (by omega);have e2:decide (c.shut.length≤200)=true:=decide_eq_true (by omega);simp only[pE,hj,e1,e2,Bool.true_and]
  rw[hf];simp[g1,g2,iZ,sI];refine⟨_,fq _ _,?_⟩;simp;cases e1:aF c.order r.orders.length<;>simp;refine⟨_,fq _ _,?_⟩;simp;cases e2:aF c.currency r.currencies.length<;>simp;refine⟨_,D4 _ _ _ h1,?_⟩;simp;cases e3:rising c.rest 0 6<;>simp;refine⟨_,D4 _ _ _ h2,?_⟩;simp;cases e4:rising c.feasts 101 1231<;>simp;exact D4 _ _ _ h3
end Rm
namespace Rm
open Go Go.Proofs Cx
theorem zt {α β:Type}(f:α→β){l:List α}{k:Nat}(h:k<l.length):(l.take (k+1)).map f=(l.take k).map f++[f l[k]]:=by
 rw[List.take_succ_eq_append_getElem h,List.map_append];rfl
theorem yj (i:Int)(n:Nat):aF i n=wi i 0 ((n:Int)-1):=by
 rw[Bool.eq_iff_iff];simp[wi,aF];omega
def zV (o:Order):List Int:=o.choices.map (·.ask)
def EK (o:Order):List Int:=o.rules.map (·.ask)
def tK (o:Order):Bool:=ga o.choices.length (fun k=>aF (o.choices.getD k default).by_ 5)&&(rising (zV o) 0 21&&rising (EK o) 0 21)
theorem ayN (o:Order)(h1:o.choices.length≤100000)(h2:o.rules.length≤100000):aj T ab3 [jZ o] (.bool (tK o)):=by
 refine .of_tree rfl ajK aBh ?_;simp[UZ];refine lK o.choices.length (fun k=>aF (o.choices.getD k default).by_ 5) (fun k=>[.bool false,.none,.int k]) (fun k=>[ints ((o.choices.take k).map (·.ask))]) ?_ (fun k hk ho=>?_) (fun k hk ho hb=>?_) (fun hj=>?_)
 ·simp[ints]
 ·have hw:=bI hk (by omega);have hl:(o.choices.take k).length=k:=by rw[List.length_take];omega
  simp[hk] at ho;rw[zt _ hk];simp[SD,DI,hk,hw,ints,hl];refine⟨by omega,_,fq _ _,?_⟩;simp[ho,hw]
 ·have hf:tK o=false:=by simp only[tK,hb,Bool.false_and]
  have hl:(o.choices.take k).length=k:=by rw[List.length_take];omega
  simp[hk] at ho;simp[SD,DI,hk,ints,hl,hf];refine⟨by omega,_,fq _ _,?_⟩;simp[ho]
 ·have hf:tK o=(rising (zV o) 0 21&&rising (EK o) 0 21):=by simp only[tK,hj,Bool.true_and]
  rw[hf];simp[SD,DI];refine aO.forRounds o.rules.length (fun k=>[.none,.int k]) (fun k=>[ints ((o.rules.take k).map (·.ask))]) ?_ (fun k hk=>?_) ?_
  ·simp[ints]
  ·have hw:=bI hk (by omega);have hl:(o.rules.take k).length=k:=by rw[List.length_take];omega
   rw[zt _ hk];simp[afR,LW,hk,hw,ints,hl];omega
  ·simp[afR,LW];refine⟨_,D4 (zV o) _ _ (by simp[zV];omega),?_⟩;simp;cases e1:rising (zV o) 0 21<;>simp;exact D4 (EK o) _ _ (by simp[EK];omega)
def vX (r:Realm):List ByteArray:=r.cities.map (·.name)
def rG (r:Realm):List ByteArray:=r.firms.map (·.name)
def rH (r:Realm):List ByteArray:=r.orders.map (·.name)
theorem ayM (r:Realm)(h1:r.cities.length≤100000)(h2:r.firms.length≤100000)(h3:r.orders.length≤100000):aj T ab2 [aZ r] (.tup [strs (vX r),strs (rG r),strs (rH r)]):=by
 refine .of_tree rfl ajJ aBg ?_;simp[UY];refine aO.forRounds r.cities.length (fun k=>[.none,.int k]) (fun k=>[strs ((r.cities.take k).map (·.name))]) ?_ (fun k hk=>?_) ?_
 ·simp[strs]
 ·have hw:=bI hk (by omega);have hl:(r.cities.take k).length=k:=by rw[List.length_take];omega
  rw[zt _ hk];simp[afO,LS,hk,hw,strs,hl];omega
 ·simp[afO,LS];refine aO.forRounds r.firms.length (fun k=>[.none,.int k]) (fun k=>[strs ((r.firms.take k).map (·.name))]) ?_ (fun k hk=>?_) ?_
  ·simp[strs]
  ·have hw:=bI hk (by omega);have hl:(r.firms.take k).length=k:=by rw[List.length_take];omega
   rw[zt _ hk];simp[afP,LU,hk,hw,strs,hl];omega
  ·simp[afP,LU];refine aO.forRounds r.orders.length (fun k=>[.none,.int k]) (fun k=>[strs ((r.orders.take k).map (·.name))]) ?_ (fun k hk=>?_) ?_
   ·simp[strs]
   ·have hw:=bI hk (by omega);have hl:(r.orders.take k).length=k:=by rw[List.length_take];omega
    rw[zt _ hk];simp[afQ,LV,hk,hw,strs,hl];omega
   ·simp[afQ,LV,vX,rG,rH]
end Rm
namespace Rm
open Go Go.Proofs Cx
structure Small (r:Realm):Prop where
 cur:r.currencies.length≤1000
 cities:r.cities.length≤1000
 groups:r.groups.length≤1000
 firms:r.firms.length≤1000
 orders:r.orders.length≤1000
 us:r.usances.length≤1000
 rates:r.rates.length≤1000
 halts:r.halts.length≤1000
 city:∀c,c∈r.cities→c.rest.length≤1000∧c.feasts.length≤1000∧c.shut.length≤1000∧∀y,y∈c.feasts→aT y
 order:∀o,o∈r.orders→o.choices.length≤1000∧o.rules.length≤1000
 rate:∀x,x∈r.rates→aT x.num∧aT x.den
def ur (r:Realm)(k j:Nat):Bool:=(r.usances.getD j default).fr !=(r.usances.getD k default).fr||(r.usances.getD j default).to !=(r.usances.getD k default).to
def ML (r:Realm)(k:Nat):Int:=
 if(aF (r.usances.getD k default).fr r.cities.length&&aF (r.usances.getD k default).to r.cities.length&&wi (r.usances.getD k default).days 1 20000)=false then 1 else if ga k (ur r k) then 0 else 5
def MM (r:Realm):Int:=if 100<r.usances.length then 6 else fc r.usances.length (ML r)
theorem ayP (r:Realm)(h:Small r):aj T ab6 [aZ r] (.int (MM r)):=by
 refine .of_tree rfl ajN aBk ?_;have hu:=h.us;simp[U2,MM];by_cases h0:100<r.usances.length
 ·have j2:(100:Int)<r.usances.length:=by omega
  have OF:¬r.usances.length≤100:=by omega
  simp[h0,j2,OF]
 have j2:¬(100:Int)<r.usances.length:=by omega
 simp[h0,j2];refine wP r.usances.length (ML r) (fun k=>[.int 0,.int k]) (fun _=>[]) ?_ (fun k hk ho=>?_) (fun k hk ho hb=>?_) (fun hj=>?_)
 ·simp
 ·have hw:=bI hk (by omega);have ha:aF r.usances[k].fr r.cities.length=true∧aF r.usances[k].to r.cities.length=true∧wi r.usances[k].days 1 20000=true∧ga k (ur r k)=true:=by
   unfold ML at ho;simp only[List.getD_eq_getElem?_getD,List.getElem?_eq_getElem hk,Option.getD_some] at ho;cases e1:aF r.usances[k].fr r.cities.length<;>cases e2:aF r.usances[k].to r.cities.length<;>cases e3:wi r.usances[k].days 1 20000<;>cases e4:ga k (ur r k)<;>simp[e1,e2,e3,e4] at ho ⊢
  obtain⟨a1,a2,a3,a4⟩:=ha;simp[wi] at a3;have a5:¬r.usances[k].days<1:=by omega
  have a6:¬20000<r.usances[k].days:=by omega
  simp[SH,DL,hk];refine⟨_,fq _ _,?_⟩;simp[a1];refine⟨_,fq _ _,?_⟩;simp[a2,a5,a6];refine⟨by omega,lK k (ur r k) (fun j=>[.int 0,.int j]) (fun _=>[]) ?_ (fun j hj jK=>?_) (fun j hj jK dX=>?_) (fun vi=>?_)⟩
  ·simp
  ·have Qb:=bI hj (by omega);have cN:j<r.usances.length:=by omega
   have hm:j<min k r.usances.length:=by omega
   simp[ur,cN,hk] at jK;simp[LX,zh,hj,cN,hk,Qb,hm];intro e e';rcases jK with h|h
   ·exact absurd e h
   ·exact absurd e' h
  ·rw[a4] at dX;cases dX
  ·simp[LX,zh,hw];omega
 ·simp[SH,DL,hk,hb];refine⟨_,fq _ _,?_⟩;unfold ML at ho ⊢;simp only[List.getD_eq_getElem?_getD,List.getElem?_eq_getElem hk,Option.getD_some] at ho ⊢;cases e1:aF r.usances[k].fr r.cities.length
  ·simp
  simp;refine⟨_,fq _ _,?_⟩;cases e2:aF r.usances[k].to r.cities.length
  ·simp
  cases e3:wi r.usances[k].days 1 20000
  ·simp[wi] at e3;by_cases g:r.usances[k].days<1
   ·simp[g]
   ·simp[g,e3 (by omega)]
  have Oa:=e3;simp[wi] at Oa;have a5:¬r.usances[k].days<1:=by omega
  have a6:¬20000<r.usances[k].days:=by omega
  simp[e1,e2,e3] at ho;simp[a5,a6];refine⟨by omega,lK k (ur r k) (fun j=>[.int 0,.int j]) (fun _=>[]) ?_ (fun j hj jK=>?_) (fun j hj jK dX=>?_) (fun vi=>?_)⟩
  ·simp
  ·have Qb:=bI hj (by omega);have cN:j<r.usances.length:=by omega
   have hm:j<min k r.usances.length:=by omega
   simp[ur,cN,hk] at jK;simp[LX,zh,hj,cN,hk,Qb,hm];intro e e';rcases jK with h|h
   ·exact absurd e h
   ·exact absurd e' h
  ·have cN:j<r.usances.length:=by omega
   have hm:j<min k r.usances.length:=by omega
   simp[ur,cN,hk] at jK;simp[LX,zh,hj,cN,hk,ho,hm]
   first|exact jK|simp[jK]
  ·rw[vi] at ho;cases ho
 ·simp[SH,DL,hj]
def Dq (r:Realm)(k:Nat):Bool:=aF (r.rates.getD k default).fr r.currencies.length&&aF (r.rates.getD k default).to r.currencies.length&&((r.rates.getD k default).fr !=(r.rates.getD k default).to)&&
 wi (r.rates.getD k default).num 1 1073741824&&wi (r.rates.getD k default).den 1 1073741824&&wi (r.rates.getD k default).since 0 100000
def BP (r:Realm)(k:Nat):Bool:=aF (r.halts.getD k default).order r.orders.length&&wi (r.halts.getD k default).fr 0 (r.halts.getD k default).to&&decide ((r.halts.getD k default).to≤100000)
def qC (r:Realm):Int:=if 100<r.rates.length then 6 else if ga r.rates.length (Dq r)=false then 1 else if 20<r.halts.length then 6 else if ga r.halts.length (BP r) then 0 else 1
theorem HX {n:Int}(h:aT n)(m:Int)(hm:0≤m∧m≤4294967296):aF (IntKind.i64.wrap (n-1)) m=wi n 1 m:=by
 unfold aT at h;by_cases e:n=-9223372036854775808
 ·subst e;have:IntKind.i64.wrap (-9223372036854775808-1)=9223372036854775807:=by decide
  rw[this,Bool.eq_iff_iff];simp[aF,wi];omega
 ·rw[aW (by omega),Bool.eq_iff_iff];simp[aF,wi];omega
theorem ZK (n:Int):aF n 100001=wi n 0 100000:=by rw[Bool.eq_iff_iff];simp[aF,wi];omega
theorem ayO (r:Realm)(h:Small r):aj T ab4 [aZ r] (.int (qC r)):=by
 refine .of_tree rfl ajL aBi ?_;have hu:=h.rates;have hh:=h.halts;simp[U0,qC];by_cases h0:100<r.rates.length
 ·have j2:(100:Int)<r.rates.length:=by omega
  have OF:¬r.rates.length≤100:=by omega
  simp[h0,j2,OF]
 have j2:¬(100:Int)<r.rates.length:=by omega
 simp[h0,j2];have key:∀k (hk:k<r.rates.length),∀{ρ:Env} {Q:Out→Prop},True:=fun _ _ _ _=>trivial;refine lK r.rates.length (Dq r) (fun k=>[.int 0,.int k]) (fun _=>[]) ?_ (fun k hk ho=>?_) (fun k hk ho hb=>?_) (fun hj=>?_)
 ·simp
 ·have hw:=bI hk (by omega);have hI:=h.rate _ (List.getElem_mem hk);simp[Dq,hk] at ho;obtain⟨⟨⟨⟨⟨a1,a2⟩,a3⟩,a4⟩,a5⟩,a6⟩:=ho;simp[SF,DJ,hk];refine⟨_,fq _ _,?_⟩;simp[a1];refine⟨_,fq _ _,?_⟩;simp[a2,a3];refine⟨_,fq _ _,?_⟩;simp[HX hI.1,a4];refine⟨_,fq _ _,?_⟩;simp[HX hI.2,a5];refine⟨_,fq _ _,?_⟩;simp[ZK,a6,hw]
 ·have hI:=h.rate _ (List.getElem_mem hk);rw[hb];simp[Dq,hk] at ho;simp[SF,DJ,hk];refine⟨_,fq _ _,?_⟩;cases e1:aF r.rates[k].fr r.currencies.length
  ·simp
  simp;refine⟨_,fq _ _,?_⟩;cases e2:aF r.rates[k].to r.currencies.length
  ·simp
  by_cases e3:r.rates[k].fr=r.rates[k].to
  ·simp[e3]
  simp[e3];refine⟨_,fq _ _,?_⟩;rw[HX hI.1 _ (by omega)];cases e4:wi r.rates[k].num 1 1073741824
  ·simp
  simp;refine⟨_,fq _ _,?_⟩;rw[HX hI.2 _ (by omega)];cases e5:wi r.rates[k].den 1 1073741824
  ·simp
  simp;refine⟨_,fq _ _,?_⟩;rw[ZK];simp[ho e1 e2 e3 e4 e5]
 ·rw[hj];simp[SF,DJ];by_cases h1:20<r.halts.length
  ·have cJ:(20:Int)<r.halts.length:=by omega
   have arZ:¬r.halts.length≤20:=by omega
   simp[h1,cJ,arZ]
  have cJ:¬(20:Int)<r.halts.length:=by omega
  simp[h1,cJ];refine lK r.halts.length (BP r) (fun k=>[.int 0,.int k]) (fun _=>[]) ?_ (fun k hk ho=>?_) (fun k hk ho hb=>?_) (fun hj=>?_)
  ·simp
  ·have hw:=bI hk (by omega);simp[BP,wi,hk] at ho;obtain⟨⟨a1,a2⟩,a3⟩:=ho;have b1:¬r.halts[k].fr<0:=by omega
   have b2:¬r.halts[k].to<r.halts[k].fr:=by omega
   have b3:¬100000<r.halts[k].to:=by omega
   simp[SG,DK,hk];refine⟨_,fq _ _,?_⟩;simp[a1,b1,b2,b3,hw]
  ·rw[hb];simp[BP,wi,hk] at ho;simp[SG,DK,hk];refine⟨_,fq _ _,?_⟩;cases e1:aF r.halts[k].order r.orders.length
   ·simp
   have:=ho e1;by_cases b1:r.halts[k].fr<0
   ·simp[b1]
   by_cases b2:r.halts[k].to<r.halts[k].fr
   ·simp[b1,b2]
   have b3:100000<r.halts[k].to:=this (by omega) (by omega);simp[b1,b2,b3]
  ·rw[hj];simp[SG,DK]
end Rm
namespace Rm
open Go Go.Proofs Cx
def mU:List Int→Int
 |[]=>0
 |x::l=>if x=0 then mU l else x
theorem Mf:∀{l:List Int},mU l=0↔∀x,x∈l→x=0
 |[]=>by simp[mU]
 |x::l=>by
  simp only[mU,List.mem_cons,forall_eq_or_imp];by_cases h:x=0
  ·simp[h,Mf (l:=l)]
  ·simp[h]
def uT (r:Realm)(i:Nat):Bool:=aF (r.firms.getD i default).city r.cities.length&&aF (r.firms.getD i default).group r.groups.length
def A6 (r:Realm)(i:Nat):Bool:=pE r (r.cities.getD i default)
def we (r:Realm)(i:Nat):Bool:=tK (r.orders.getD i default)
def GX (r:Realm)(i:Nat):Bool:=aF (r.groups.getD i default).grade 10
def OD (r:Realm):Int:=if 20<r.groups.length then 6 else if ga r.groups.length (GX r) then 0 else 1
def eB (r:Realm):Int:=mU [lg r.currencies 8 (fun _=>true),lg (vX r) 40 (A6 r),OD r,lg (rG r) 200 (uT r),lg (rH r) 20 (we r),MM r,qC r]
theorem anf (i:Int):aj T QN [.int i] (.bool true):=by
 refine .of_tree rfl ajy aA4 ?_;simp[UM]
theorem ang (r:Realm)(h:Small r)(i:Nat)(hi:i<r.cities.length):aj T QO [.int i,.ref (aZ r)] (.bool (A6 r i)):=by
 refine .of_tree rfl ajz aA5 ?_;obtain⟨h1,h2,h3,h4⟩:=h.city _ (List.getElem_mem hi);simp[UN,hi,A6];exact ayK r r.cities[i] (by omega) (by omega) (by omega)
theorem anh (r:Realm)(i:Nat)(hi:i<r.firms.length):aj T QP [.int i,.ref (aZ r)] (.bool (uT r i)):=by
 refine .of_tree rfl ajA aA6 ?_;simp[UO,hi,uT];refine⟨_,fq _ _,?_⟩;simp[hi];cases e1:aF r.firms[i].city r.cities.length<;>simp;exact fq _ _
theorem ani (r:Realm)(h:Small r)(i:Nat)(hi:i<r.orders.length):aj T QR [.int i,.ref (aZ r)] (.bool (we r i)):=by
 refine .of_tree rfl ajB aA7 ?_;obtain⟨h1,h2⟩:=h.order _ (List.getElem_mem hi);simp[UP,hi,we];exact ayN r.orders[i] (by omega) (by omega)
theorem D3 (r:Realm)(h:Small r):aj T abV [aZ r] (.int (eB r)):=by
 refine .of_tree rfl ajx aA8 ?_;have g1:=h.cur;have g2:=h.cities;have g3:=h.firms;have g4:=h.orders;have g5:=h.groups;simp[UL];refine⟨_,ayM r (by omega) (by omega) (by omega),?_⟩;simp;refine⟨_,L4 r.currencies 8 QN [] (fun _=>true) (fun i _=>anf _) (by omega),?_⟩;unfold eB;generalize e1:lg r.currencies 8 (fun _=>true)=x1;by_cases z1:x1=0
 case neg=>simp[z1,mU]
 simp[z1,mU];refine⟨_,L4 (vX r) 40 QO [.ref (aZ r)] (A6 r) (fun i hi=>ang r h i (by simpa [vX] using hi)) (by simp[vX];omega),?_⟩;generalize e2:lg (vX r) 40 (A6 r)=x2;by_cases z2:x2=0
 case neg=>simp[z2]
 simp[z2];by_cases z3:20<r.groups.length
 ·have VZ:(20:Int)<r.groups.length:=by omega
  simp[VZ,OD,z3]
 have VZ:¬(20:Int)<r.groups.length:=by omega
 simp[VZ,OD,z3];refine lK r.groups.length (GX r) (fun k=>[.int 0,.int k]) (fun _=>[]) ?_ (fun k hk ho=>?_) (fun k hk ho hb=>?_) (fun hj=>?_)
 ·simp
 ·have hw:=bI hk (by omega);simp[GX,hk] at ho;simp[Sy,DD,hk];refine⟨_,fq _ _,?_⟩;simp[ho,hw]
 ·simp[GX,hk] at ho;rw[hb];simp[Sy,DD,hk];refine⟨_,fq _ _,?_⟩;simp[ho]
 ·rw[hj];simp[Sy,DD];refine⟨_,L4 (rG r) 200 QP [.ref (aZ r)] (uT r) (fun i hi=>anh r i (by simpa [rG] using hi)) (by simp[rG];omega),?_⟩;generalize e4:lg (rG r) 200 (uT r)=x4;by_cases z4:x4=0
  case neg=>simp[z4]
  simp[z4];refine⟨_,L4 (rH r) 20 QR [.ref (aZ r)] (we r) (fun i hi=>ani r h i (by simpa [rH] using hi)) (by simp[rH];omega),?_⟩;generalize e5:lg (rH r) 20 (we r)=x5;by_cases z5:x5=0
  case neg=>simp[z5]
  simp[z5];refine⟨_,ayP r h,?_⟩;generalize e6:MM r=x6;by_cases z6:x6=0
  case neg=>simp[z6]
  simp[z6];have e7:(if qC r=0 then 0 else qC r)=qC r:=by split<;>simp_all
  rw[e7];exact ayO r h
theorem XM {l:List ByteArray}{g:Nat→Bool}{k:Nat}(h:uU l g k=0):tG l k=0∧g k=true:=by
 unfold uU at h;by_cases h1:tG l k=0
 ·simp[h1] at h;exact⟨h1,h⟩
 ·simp[h1] at h
end Rm
namespace Rm
open Go Go.Proofs Cx
def jx:Nat→Tm→Int→Int
 |0,_,_=>-1
 |L+1,t,n=>t.args.foldl (fun m a=>if 0≤m then jx L a m else m) (n-1)
theorem size_le:∀(L:Nat) (t:Tm) (n:Int),0≤n→-1≤jx L t n∧jx L t n≤n
 |0,t,n,h=>by simp[jx];omega
 |L+1,t,n,h=>by
  have key:∀(l:List Tm) (m:Int),-1≤m→m≤n→-1≤l.foldl (fun m a=>if 0≤m then jx L a m else m) m∧l.foldl (fun m a=>if 0≤m then jx L a m else m) m≤n:=by
   intro l
   induction l with
   |nil=>intro m h1 h2;exact⟨h1,h2⟩
   |cons a l ih=>
    intro m h1 h2;simp only[List.foldl_cons];split
    ·rename_i hm;have:=size_le L a m hm;exact ih _ this.1 (by omega)
    ·exact ih _ h1 h2
  exact key _ _ (by omega) (by omega)
theorem agu (L:Nat):∀(l:List Tm) (m:Int),m<0→l.foldl (fun m a=>if 0≤m then jx L a m else m) m=m
 |[],m,h=>rfl
 |a::l,m,h=>by simp only[List.foldl_cons];rw[if_neg (by omega)];exact agu L l m h
theorem arE {α β:Type}(f:β→α→β)(b:β){l:List α}{k:Nat}(h:k<l.length):(l.take (k+1)).foldl f b=f ((l.take k).foldl f b) l[k]:=by
 rw[List.take_succ_eq_append_getElem h,List.foldl_append];rfl
theorem arD {α β:Type}(f:β→α→β)(b:β)(l:List α)(k:Nat):l.foldl f b=(l.drop k).foldl f ((l.take k).foldl f b):=by
 rw[←List.foldl_append,List.take_append_drop]
theorem _root_.Cx.Tm.OK.len {t:Tm}(h:t.OK):t.args.length≤9223372036854775807:=by cases h with|mk o n xs h1 h2 h3 h4=>exact h3
theorem _root_.Cx.Tm.OK.arg {t:Tm}(h:t.OK){a:Tm}(ha:a∈t.args):a.OK:=by cases h with|mk o n xs h1 h2 h3 h4=>exact h4 a ha
theorem afq:∀(L:Nat) (t:Tm) (n:Int),t.OK→0≤n→n≤1000→L≤1000→aj T abP [dB t,.int n,.int L] (.int (jx L t n))
 |0,t,n,ht,h0,h1,hL=>by
  refine .of_tree rfl Wx agJ ?_;simp[ME,jx]
 |L+1,t,n,ht,h0,h1,hL=>by
  refine .of_tree rfl Wx agJ ?_;have qa:IntKind.i64.wrap (n-1)=n-1:=aW (by omega);have hl:=ht.len;have ic:¬((L:Int)+1<1):=by omega
  simp[ME,qa,ic]
  let g:Nat→Int:=fun k=>(t.args.take k).foldl (fun m a=>if 0≤m then jx L a m else m) (n-1)
  have gb:∀k,-1≤g k∧g k≤1000:=by
   intro k;have:g k=jx (L+1) (.mk 0 0 (t.args.take k)) n:=rfl;have:=size_le (L+1) (.mk 0 0 (t.args.take k)) n h0;omega
  refine .scan t.args.length (fun k=>0≤g k) (fun k=>[.int (g k),.int k]) (fun _=>[]) ?_ (fun k hk hj ho=>?_) (fun k hk hj ho=>?_) (fun hj=>?_)
  ·simp[g,qa]
  ·have hw:IntKind.i64.wrap ((k:Int)+1)=(k:Int)+1:=aW (by omega);have HT:IntKind.i64.wrap (L:Int)=(L:Int):=aW (by omega);have hg:g (k+1)=jx L t.args[k] (g k):=by
    show(t.args.take (k+1)).foldl _ _=_;rw[arE _ _ hk];show(if 0≤g k then _ else _)=_;rw[if_pos ho]
   rw[hg];have gT:=afq L t.args[k] (g k) (ht.arg (List.getElem_mem hk)) ho (gb k).2 (by omega);generalize g k=m at*;simp[Su,DA,hk,ho,HT];refine⟨_,gT,?_⟩;simp[hw]
  ·have hf:jx (L+1) t n=g k:=by
    show t.args.foldl _ _=_;rw[arD _ _ _ k];exact agu L _ _ (by show g k<0;omega)
   rw[hf];generalize g k=m at*;simp[Su,DA,hk,ho]
  ·have hf:jx (L+1) t n=g t.args.length:=by
    show t.args.foldl _ _=(t.args.take t.args.length).foldl _ _;rw[List.take_length]
   rw[hf];generalize g t.args.length=m at*;simp[Su,DA]
theorem afp (t:Tm)(ht:t.OK):aj T abO [dB t] (.bool (decide (0≤jx 20 t 100))):=by
 refine .of_tree rfl ajr aAY ?_;simp[UF];refine⟨_,afq 20 t 100 ht (by omega) (by omega) (by omega),?_⟩;simp
def pP (o:Order):Bool:=(decide (o.rules.length≤60)&&decide (o.choices.length≤60))&&ga o.rules.length (fun k=>decide (0≤jx 20 (o.rules.getD k default).term 100))
theorem afr (o:Order)(ho:o.OK):aj T abQ [jZ o] (.bool (pP o)):=by
 refine .of_tree rfl ajs aAZ ?_;simp[UG];by_cases h1:(o.rules.length:Int)≤60
 case neg=>
  have cJ:(60:Int)<o.rules.length:=by omega
  have hf:pP o=false:=by
   have:decide (o.rules.length≤60)=false:=decide_eq_false (by omega);simp only[pP,this,Bool.false_and]
  simp[cJ,hf]
 by_cases h2:(o.choices.length:Int)≤60
 case neg=>
  have cJ:(60:Int)<o.choices.length:=by omega
  have hf:pP o=false:=by
   have:decide (o.choices.length≤60)=false:=decide_eq_false (by omega);simp only[pP,this,Bool.false_and,Bool.and_false]
  simp[cJ,hf]
 have cJ:¬(60:Int)<o.rules.length:=by omega
 have hZ:¬(60:Int)<o.choices.length:=by omega
 have hf:pP o=ga o.rules.length (fun k=>decide (0≤jx 20 (o.rules.getD k default).term 100)):=by
  have e1:decide (o.rules.length≤60)=true:=decide_eq_true (by omega);have e2:decide (o.choices.length≤60)=true:=decide_eq_true (by omega);simp only[pP,e1,e2,Bool.true_and]
 rw[hf];simp[cJ,hZ];have hO:=ho.2.2;refine lK o.rules.length (fun k=>decide (0≤jx 20 (o.rules.getD k default).term 100)) (fun k=>[.bool false,.int k]) (fun _=>[]) ?_ (fun k hk ho=>?_) (fun k hk ho hb=>?_) (fun hj=>?_)
 ·simp
 ·have hw:=bI hk (by omega);simp[hk] at ho;simp[Sv,DB,hk];refine⟨_,afp _ (hO _ (List.getElem_mem hk)).2,?_⟩;simp[ho,hw]
 ·simp only[List.getD_eq_getElem?_getD] at hb;rw[hb];simp[hk] at ho;simp[Sv,DB,hk];refine⟨_,afp _ (hO _ (List.getElem_mem hk)).2,?_⟩;simp[ho]
 ·simp only[List.getD_eq_getElem?_getD] at hj;rw[hj];simp[Sv,DB]
def xx (f:File):Bool:=decide ((f.signs.length:Int)≤50)&&decide ((f.alters.length:Int)≤10)&&decide ((f.acts.length:Int)≤110)&&decide ((f.facts.length:Int)≤220)
theorem ayq (f:File):aj T abN [bT f] (.bool (xx f)):=by
 refine .of_tree rfl ajq aAX ?_;simp[UE,xx];by_cases h1:(f.signs.length:Int)≤50<;>by_cases h2:(f.alters.length:Int)≤10<;>by_cases h3:(f.acts.length:Int)≤110<;>by_cases h4:(f.facts.length:Int)≤220<;>
  simp[h1,h2,h3,h4]
end Rm
namespace Rm
open Go Go.Proofs Cx
def Bp (r:Realm)(k:Nat):Bool:=decide (((r.cities.getD k default).feasts.length:Int)≤70)&&decide (((r.cities.getD k default).shut.length:Int)≤210)&&decide (((r.cities.getD k default).rest.length:Int)≤8)
def Bq (r:Realm)(k:Nat):Bool:=decide (((r.orders.getD k default).choices.length:Int)≤40)&&decide (((r.orders.getD k default).rules.length:Int)≤40)
def GO (r:Realm):Bool:=decide ((r.currencies.length:Int)<50)&&decide ((r.cities.length:Int)<50)&&decide ((r.groups.length:Int)<50)&&decide ((r.firms.length:Int)<210)&&decide ((r.orders.length:Int)<50)&&decide ((r.usances.length:Int)<110)&&decide ((r.rates.length:Int)<110)&&decide ((r.halts.length:Int)<50)
def oo (r:Realm):Bool:=ga (min r.cities.length 50) (Bp r)&&ga (min r.orders.length 50) (Bq r)&&GO r
theorem ayk (r:Realm)(hr:r.OK):aj T abM [aZ r] (.bool (oo r)):=by
 refine .of_tree rfl ajo aAV ?_;simp[UC];refine lK (min r.cities.length 50) (Bp r) (fun k=>[.bool false,.int k]) (fun _=>[]) ?_ (fun k hk ho=>?_) (fun k hk ho hb=>?_) (fun hj=>?_)
 ·simp
 ·have cD:k<r.cities.length:=by omega
  have ct:k<50:=by omega
  have hw:=bI ct (by omega);simp[Bp,cD] at ho;obtain⟨⟨a1,a2⟩,a3⟩:=ho;have b1:¬(70:Int)<r.cities[k].feasts.length:=by omega
  have b2:¬(210:Int)<r.cities[k].shut.length:=by omega
  have b3:¬(8:Int)<r.cities[k].rest.length:=by omega
  simp[Dz,wK,cD,ct,hw,b1,b2,b3];omega
 ·have cD:k<r.cities.length:=by omega
  have ct:k<50:=by omega
  have hf:oo r=false:=by simp only[oo,hb,Bool.false_and]
  rw[hf];simp[Bp,cD] at ho;by_cases b1:(70:Int)<r.cities[k].feasts.length
  ·simp[Dz,wK,cD,ct,b1];omega
  by_cases b2:(210:Int)<r.cities[k].shut.length
  ·simp[Dz,wK,cD,ct,b1,b2];omega
  have b3:(8:Int)<r.cities[k].rest.length:=by have:=ho (by omega) (by omega);omega
  simp[Dz,wK,cD,ct,b1,b2,b3];omega
 ·have hn:¬((min r.cities.length 50:Nat):Int)<r.cities.length∨¬((min r.cities.length 50:Nat):Int)<50:=by omega
  simp[Dz,wK];rw[if_neg (by omega)];refine lK (min r.orders.length 50) (Bq r) (fun k=>[.bool false,.int k]) (fun _=>[]) ?_ (fun k hk ho=>?_) (fun k hk ho hb=>?_) (fun B4=>?_)
  ·simp
  ·have cD:k<r.orders.length:=by omega
   have ct:k<50:=by omega
   have hw:=bI ct (by omega);simp[Bq,cD] at ho;obtain⟨a1,a2⟩:=ho;have b1:¬(40:Int)<r.orders[k].choices.length:=by omega
   have b2:¬(40:Int)<r.orders[k].rules.length:=by omega
   simp[LQ,zf,cD,ct,hw,b1,b2];omega
  ·have cD:k<r.orders.length:=by omega
   have ct:k<50:=by omega
   have hf:oo r=false:=by simp only[oo,hb,Bool.false_and,Bool.and_false]
   rw[hf];simp[Bq,cD] at ho;by_cases b1:(40:Int)<r.orders[k].choices.length
   ·simp[LQ,zf,cD,ct,b1];omega
   have b2:(40:Int)<r.orders[k].rules.length:=by have:=ho (by omega);omega
   simp[LQ,zf,cD,ct,b1,b2];omega
  ·have hf:oo r=GO r:=by simp only[oo,hj,B4,Bool.true_and]
   rw[hf];simp[LQ,zf];rw[if_neg (by omega)];unfold GO;by_cases c1:(r.currencies.length:Int)<50<;>simp[c1];by_cases c2:(r.cities.length:Int)<50<;>simp[c2];by_cases c3:(r.groups.length:Int)<50<;>simp[c3];by_cases c4:(r.firms.length:Int)<210<;>simp[c4];by_cases c5:(r.orders.length:Int)<50<;>simp[c5];by_cases c6:(r.usances.length:Int)<110<;>simp[c6];by_cases c7:(r.rates.length:Int)<110<;>simp[c7]
theorem Oo {r:Realm}(hr:r.OK)(h:oo r=true):Small r:=by
 simp only[oo,GO,Bool.and_eq_true,decide_eq_true_eq,zS] at h;obtain⟨⟨h1,h2⟩,⟨⟨⟨⟨⟨⟨⟨c1,c2⟩,c3⟩,c4⟩,c5⟩,c6⟩,c7⟩,c8⟩⟩:=h;obtain⟨k1,⟨k2,k2'⟩,⟨k3,k3'⟩,⟨k4,k4'⟩,⟨k5,k5'⟩,⟨k6,k6'⟩,⟨k7,k7'⟩,⟨k8,k8'⟩⟩:=hr;refine⟨by omega,by omega,by omega,by omega,by omega,by omega,by omega,by omega,fun c hc=>?_,fun o ho=>?_,fun x hx=>?_⟩
 ·obtain⟨k,hk,rfl⟩:=List.getElem_of_mem hc;have:=h1 k (by omega);simp[Bp,hk] at this;have:=k2' _ hc;exact⟨by omega,by omega,by omega,fun y hy=>this.2.2.2.1.2 y hy⟩
 ·obtain⟨k,hk,rfl⟩:=List.getElem_of_mem ho;have:=h2 k (by omega);simp[Bq,hk] at this;omega
 ·have:=k7' x hx;exact⟨this.2.2.1,this.2.2.2.1⟩
def om (r:Realm)(f:File):Bool:=(oo r&&xx f)&&ga r.orders.length (fun k=>pP (r.orders.getD k default))
theorem ayr (r:Realm)(f:File)(hr:r.OK):aj T abR [aZ r,bT f] (.bool (om r f)):=by
 refine .of_tree rfl ajt aA0 ?_;simp[UH];refine⟨_,ayk r hr,?_⟩;cases e1:oo r
 ·simp[om,e1]
 simp;refine⟨_,ayq f,?_⟩;cases e2:xx f
 ·simp[om,e1,e2]
 have hs:=Oo hr e1;have ho:=hs.orders;have hf:om r f=ga r.orders.length (fun k=>pP (r.orders.getD k default)):=by simp only[om,e1,e2,Bool.true_and]
 rw[hf];simp;have hO:=hr.2.2.2.2.1.2;refine lK r.orders.length (fun k=>pP (r.orders.getD k default)) (fun k=>[.bool false,.int k]) (fun _=>[]) ?_ (fun k hk ho=>?_) (fun k hk ho hb=>?_) (fun hj=>?_)
 ·simp
 ·have hw:=bI hk (by omega);simp[hk] at ho;simp[Sw,DC,hk];refine⟨_,afr _ (hO _ (List.getElem_mem hk)),?_⟩;simp[ho,hw]
 ·simp only[List.getD_eq_getElem?_getD] at hb;rw[hb];simp[hk] at ho;simp[Sw,DC,hk];refine⟨_,afr _ (hO _ (List.getElem_mem hk)),?_⟩;simp[ho]
 ·simp only[List.getD_eq_getElem?_getD] at hj;rw[hj];simp[Sw,DC]
def ot (r:Realm)(f:File):Bool:=om r f&&decide (eB r=0)
def oc (n:Int):Int:=min (max n (-1099511627776)) 1099511627776
theorem Mu (n:Int):aj T acC [.int n] (.int (oc n)):=by
 refine .of_tree rfl akh aBO ?_;simp[Vw,oc];by_cases h1:-1099511627776>n
 ·have:¬(1099511627776:Int)< -1099511627776:=by omega
  simp[h1];omega
 ·by_cases h2:(1099511627776:Int)<n
  ·simp[h1,h2];omega
  ·simp[h1,h2];omega
def lR (v:Int):Int×Bool:=if v<0∨19<v then(0,false) else if v<7 then(0,true) else(1,true)
theorem agD (v:Int):aj T acy [.int v] (.tup [.int (lR v).1,.bool (lR v).2]):=by
 refine .of_tree rfl akd aBK ?_;simp[Vs,lR];by_cases h1:v<0
 ·simp[h1]
 by_cases h2:19<v
 ·simp[h1,h2]
 by_cases h3:v<7
 ·simp[h1,h2,h3]
 ·simp[h1,h2,h3]
def CJ (t:Tm):Int×Int:=
 if 0<t.args.length then(0,2) else if t.op=0 then(if oc t.n≠t.n then(0,3) else(0,0)) else if t.op=1 then(if t.n<0∨1<t.n then(0,3) else(1,0)) else if(lR t.n).2=false then(0,10) else((lR t.n).1,0)
theorem azI (t:Tm):aj T acD [dB t] (.tup [.int (CJ t).1,.int (CJ t).2]):=by
 refine .of_tree rfl aki aBP ?_;simp[Vx,CJ];by_cases h0:0<t.args.length
 ·have j2:(0:Int)<t.args.length:=by omega
  simp[h0,j2]
 simp[h0];by_cases h1:t.op=0
 ·simp[h1];refine⟨_,Mu _,?_⟩;by_cases h2:oc t.n=t.n<;>simp[h2]
 by_cases h2:t.op=1
 ·simp[h1,h2];by_cases h3:t.n<0<;>by_cases h4:1<t.n<;>simp[h3,h4]
 simp[h1,h2];refine⟨_,agD _,?_⟩;cases h3:(lR t.n).2<;>simp[h3]
def eI (op:Int):List Int×Int:=
 if op=3 then([1],1) else if op=4∨op=5 then([1,1],1) else if op=6 then([1,-1,-1],-1) else if op=7 then([0,0],1) else if op=8 then([-1,-1],1) else([0,0],0)
def Bm (s:List Int×Int):D:=.agg [ints s.1,.int s.2]
@[simp] theorem aEs (s:List Int×Int):(Bm s).cells=[ints s.1,.int s.2]:=_root_.id rfl
@[simp] theorem aEq (s:List Int×Int):(Bm s).c 0=ints s.1:=_root_.id rfl
@[simp] theorem aEr (s:List Int×Int):(Bm s).c 1=.int s.2:=_root_.id rfl
@[simp] theorem aIH (s:List Int×Int):D.agg [ints s.1,.int s.2]=Bm s:=_root_.id rfl
@[simp] theorem aJJ (x y:Int):uh (.int x) 0 (.int y)=.int y:=_root_.id rfl
theorem azK (op:Int):aj T acH [.int op] (Bm (eI op)):=by
 refine .of_tree rfl akm aBT ?_;simp[VA,eI];by_cases h3:op=3
 ·simp[h3];rfl
 by_cases h4:op=4
 ·simp[h4];rfl
 by_cases h5:op=5
 ·simp[h5];rfl
 by_cases h6:op=6
 ·simp[h6];rfl
 by_cases h7:op=7
 ·simp[h7];rfl
 by_cases h8:op=8
 ·simp[h8];rfl
 simp[h3,h4,h5,h6,h7,h8];rfl
end Rm
namespace Rm
open Go Go.Proofs Cx
def fm (f:Tm→Int):List Tm→Int→Int
 |[],n=>n
 |a::l,n=>if 60<n+f a then n+f a else fm f l (n+f a)
def cG:Nat→Tm→Int
 |0,_=>61
 |L+1,t=>fm (cG L) t.args 1
def dD (f:Tm→Int)(l:List Tm):Int:=(l.map f).sum
theorem Ih {f:Tm→Int}{l:List Tm}{k:Nat}(h:k<l.length):dD f (l.take (k+1))=dD f (l.take k)+f l[k]:=by
 unfold dD;rw[zt f h,List.sum_append];simp
theorem aaB {f:Tm→Int}:∀{l:List Tm} {n:Int} {k:Nat},(hk:k<l.length)→(∀j,j<k→n+dD f (l.take (j+1))≤60)→60<n+dD f (l.take (k+1))→fm f l n=n+dD f (l.take (k+1))
 |a::l,n,0,hk,_,h=>by
  simp[dD] at h ⊢;unfold fm;rw[if_pos (by omega)]
 |a::l,n,k+1,hk,hj,h=>by
  have h0:=hj 0 (by omega);simp[dD] at h0;unfold fm;rw[if_neg (by omega)];have e:∀j,n+dD f ((a::l).take (j+1+1))=n+f a+dD f (l.take (j+1)):=by intro j;simp[dD];omega
  rw[aaB (l:=l) (k:=k) (by simpa using hk) (fun j Ht=>by have:=hj (j+1) (by omega);rw[e] at this;exact this) (by rw[←e];exact h),e]
theorem aaD {f:Tm→Int}:∀{l:List Tm} {n:Int},(∀j,j<l.length→n+dD f (l.take (j+1))≤60)→fm f l n=n+dD f l
 |[],n,_=>by simp[fm,dD]
 |a::l,n,hj=>by
  have h0:=hj 0 (by simp);simp[dD] at h0;unfold fm;rw[if_neg (by omega)];have e:∀j,n+dD f ((a::l).take (j+1+1))=n+f a+dD f (l.take (j+1)):=by intro j;simp[dD];omega
  rw[aaD (l:=l) (fun j eD=>by have:=hj (j+1) (by simpa using eD);rw[e] at this;exact this)];simp[dD];omega
theorem aaC {f:Tm→Int}(hf:∀a,1≤f a):∀{l:List Tm} {n:Int},n≤fm f l n
 |[],n=>by simp[fm]
 |a::l,n=>by
  unfold fm;have:=hf a;split
  ·omega
  ·have:=aaC hf (l:=l) (n:=n+f a);omega
theorem vV:∀(L:Nat) (t:Tm),1≤cG L t
 |0,t=>by simp[cG]
 |L+1,t=>aaC (vV L)
theorem aaE {f:Tm→Int}{B:Int}(hf:∀a,f a≤B)(hB:0≤B):∀{l:List Tm} {n:Int},n≤60→fm f l n≤60+B
 |[],n,h=>by simp[fm];omega
 |a::l,n,h=>by
  unfold fm;have:=hf a;split
  ·omega
  ·exact aaE hf hB (by omega)
theorem aaG:∀(L:Nat) (t:Tm),cG L t≤61+60*L
 |0,t=>by simp[cG]
 |L+1,t=>by
  have:=aaE (f:=cG L) (fun a=>aaG L a) (by omega) (l:=t.args) (n:=1) (by omega);show fm _ _ _≤_;omega
theorem aaF {f:Tm→Int}(hf:∀a,1≤f a):∀{l:List Tm} {n:Int},fm f l n≤60→(n:Int)+l.length≤60∧∀a,a∈l→f a≤60-n
 |[],n,h=>by simp[fm] at h ⊢;exact h
 |a::l,n,h=>by
  unfold fm at h;have:=hf a;split at h
  ·omega
  ·obtain⟨h1,h2⟩:=aaF hf h;refine⟨by simp;omega,fun b hb=>?_⟩;rcases List.mem_cons.1 hb with rfl|hb
   ·omega
   ·have:=h2 b hb;omega
theorem QC {L:Nat}{t:Tm}(h:cG (L+1) t≤60):t.args.length≤59∧∀a,a∈t.args→cG L a≤60:=by
 obtain⟨h1,h2⟩:=aaF (vV L) h;exact⟨by omega,fun a ha=>by have:=h2 a ha;omega⟩
theorem Tx:∀(L:Nat) (t:Tm) (lv:Int),t.OK→L≤8→lv=9-(L:Int)→aj T acF [dB t,.int lv] (.int (cG L t))
 |0,t,lv,ht,hL,Ph=>by
  refine .of_tree rfl Wz agL ?_;subst Ph;simp[MH,cG]
 |L+1,t,lv,ht,hL,Ph=>by
  refine .of_tree rfl Wz agL ?_;have hl:=ht.len;have h8:¬(8<lv):=by omega
  have HT:IntKind.i64.wrap (lv+1)=lv+1:=aW (by omega);simp[MH,h8];refine .scan t.args.length (fun k=>1+dD (cG L) (t.args.take (k+1))≤60) (fun k=>[.int (1+dD (cG L) (t.args.take k)),.int k]) (fun _=>[]) ?_ (fun k hk hj ho=>?_) (fun k hk hj ho=>?_) (fun hj=>?_)
  ·simp[dD]
  all_goals try rw[Ih hk] at ho
  ·have hw:IntKind.i64.wrap ((k:Int)+1)=(k:Int)+1:=aW (by omega);have gT:=Tx L t.args[k] (lv+1) (ht.arg (List.getElem_mem hk)) (by omega) (by omega);rw[Ih hk];have hs:0≤dD (cG L) (t.args.take k):=by
    unfold dD;have:∀(l:List Tm),0≤(l.map (cG L)).sum:=by
     intro l
     induction l with
     |nil=>simp
     |cons a l ih=>have:=vV L a;simp;omega
    exact this _
   have je:=vV L t.args[k];generalize dD (cG L) (t.args.take k)=m at*;generalize cG L t.args[k]=v at*;have rA:IntKind.i64.wrap (1+m+v)=1+m+v:=aW (by omega);have dL:¬60<1+m+v:=by omega
   simp[SZ,D0,hk,HT];refine⟨_,gT,?_⟩;simp[rA,dL,hw];omega
  ·have gT:=Tx L t.args[k] (lv+1) (ht.arg (List.getElem_mem hk)) (by omega) (by omega);have hf:cG (L+1) t=1+dD (cG L) (t.args.take (k+1)):=aaB hk hj (by rw[Ih hk];omega);rw[hf,Ih hk];have hs:0≤dD (cG L) (t.args.take k)∧1+dD (cG L) (t.args.take k)≤60:=by
    constructor
    ·unfold dD;have:∀(l:List Tm),0≤(l.map (cG L)).sum:=by
       intro l
       induction l with
       |nil=>simp
       |cons a l ih=>have:=vV L a;simp;omega
     exact this _
    ·cases k with
     |zero=>simp[dD]
     |succ k=>exact hj k (by omega)
   have je:=vV L t.args[k];have dX:=aaG L t.args[k];generalize dD (cG L) (t.args.take k)=m at*;generalize cG L t.args[k]=v at*;have rA:IntKind.i64.wrap (1+m+v)=1+m+v:=aW (by omega);have dL:60<1+m+v:=by omega
   simp[SZ,D0,hk,HT];refine⟨_,gT,?_⟩;simp[rA,dL];omega
  ·have hf:cG (L+1) t=1+dD (cG L) t.args:=aaD hj;rw[hf];simp[SZ,D0]
def mM (ws ts:List Int):Nat→Int
 |0=>-1
 |k+1=>if ws.getD k 0=-1∧mM ws ts k=-1 then ts.getD k 0 else mM ws ts k
def ny (ws ts:List Int)(k:Nat):Bool:=if ws.getD k 0=-1 then decide (mM ws ts k=-1)||decide (ts.getD k 0=mM ws ts k) else decide (ts.getD k 0=ws.getD k 0)
def vY (t:Tm)(ks:List Int):Int×Int:=
 if t.op<0∨13<t.op then(0,1) else if t.op=0∨t.op=1∨t.op=2 then CJ t else
 if ks.length≠(eI t.op).1.length∨t.n≠0 then(0,2) else
 if ga (eI t.op).1.length (ny (eI t.op).1 ks)=false then(0,11) else if(eI t.op).2=-1 then(mM (eI t.op).1 ks (eI t.op).1.length,0) else((eI t.op).2,0)
def bP:Nat→Tm→Int×Int
 |0,_=>(0,0)
 |L+1,t=>if fc t.args.length (fun k=>(bP L (t.args.getD k default)).2)≠0 then(0,fc t.args.length (fun k=>(bP L (t.args.getD k default)).2)) else vY t (t.args.map fun a=>(bP L a).1)
theorem N1 (L:Nat)(t:Tm):bP (L+1) t=if fc t.args.length (fun k=>(bP L (t.args.getD k default)).2)≠0 then(0,fc t.args.length (fun k=>(bP L (t.args.getD k default)).2)) else vY t (t.args.map fun a=>(bP L a).1):=rfl
theorem Tn {α:Type}(A:List α)(z:α){k n:Nat}(hA:A.length=n)(hk:k<n):(A.take k++List.replicate (n-k) z).set k A[k]=A.take (k+1)++List.replicate (n-(k+1)) z:=by
 have h1:(A.take k).length=k:=by rw[List.length_take];omega
 rw[List.set_append_right _ _ (by omega),h1,Nat.sub_self];have:n-k=(n-(k+1))+1:=by omega
 rw[this,List.replicate_succ,List.set_cons_zero,List.take_succ_eq_append_getElem (by omega),List.append_assoc];rfl
theorem azn (op:Int):(eI op).1.length≤3:=by
 unfold eI;repeat' split
 all_goals simp
theorem Tw:∀(L:Nat) (t:Tm),t.OK→cG L t≤60→aj T acA [dB t] (.tup [.int (bP L t).1,.int (bP L t).2])
 |0,t,ht,hm=>by simp[cG] at hm
 |L+1,t,ht,hm=>by
  refine .of_tree rfl akf aBM ?_;obtain⟨hl,hp⟩:=QC hm;simp[Vu];refine⟨by omega,?_⟩;refine wP t.args.length (fun k=>(bP L (t.args.getD k default)).2) (fun k=>[.int 0,.int 0,.int k]) (fun k=>[ints ((t.args.map fun a=>(bP L a).1).take k++List.replicate (t.args.length-k) 0)]) ?_ (fun k hk ho=>?_) (fun k hk ho hb=>?_) (fun hj=>?_)
  ·simp[ints]
  ·have hw:=bI hk (by omega);have cS:=List.getElem_mem hk;have gT:=Tw L t.args[k] (ht.arg cS) (hp _ cS);have hs:=Tn (t.args.map fun a=>(bP L a).1) 0 (n:=t.args.length) (by simp) hk;rw[←hs];have hlen:((t.args.map fun a=>(bP L a).1).take k++List.replicate (t.args.length-k) (0:Int)).length=t.args.length:=by simp;omega
   have hgk:(t.args.map fun a=>(bP L a).1)[k]'(by simpa using hk)=(bP L t.args[k]).1:=by simp
   rw[hgk];generalize (t.args.map fun a=>(bP L a).1).take k++List.replicate (t.args.length-k) (0:Int)=A at*;simp[hk] at ho;rw[ho] at gT;generalize (bP L t.args[k]).1=kd at*;simp[SX,DY,hk];refine⟨_,gT,?_⟩;simp[hlen,hk,hw,ints]
  ·have cS:=List.getElem_mem hk;have gT:=Tw L t.args[k] (ht.arg cS) (hp _ cS);have hf:bP (L+1) t=(0,(bP L (t.args.getD k default)).2):=by
    rw[N1,hb,if_pos ho]
   rw[hf];simp[hk] at ho ⊢;simp[SX,DY,hk];refine⟨_,gT,?_⟩;simp[ho]
  ·have hf:bP (L+1) t=vY t (t.args.map fun a=>(bP L a).1):=by
    rw[N1,hj];simp
   rw[hf]
   have e0:(t.args.map fun a=>(bP L a).1).take t.args.length++List.replicate (t.args.length-t.args.length) 0=t.args.map fun a=>(bP L a).1:=by
    rw[Nat.sub_self,List.take_of_length_le (by simp)];simp
   rw[e0];have YN:(t.args.map fun a=>(bP L a).1).length=t.args.length:=by simp
   generalize (t.args.map fun a=>(bP L a).1)=ks at*;simp[SX,DY];unfold vY;by_cases h1:t.op<0
   ·simp[h1]
   by_cases h2:13<t.op
   ·simp[h1,h2]
   simp[h1,h2];by_cases h3:t.op=0∨t.op=1∨t.op=2
   ·have kE:(t.op=0∨t.op=1)∨t.op=2:=by omega
    simp[h3,kE];refine⟨_,azI t,?_⟩;simp
   have kE:¬((t.op=0∨t.op=1)∨t.op=2):=by omega
   simp[h3,kE];refine⟨_,azK _,?_⟩;have hsl:=azn t.op;generalize eI t.op=sh at*;simp;by_cases h4:ks.length=sh.1.length
   case neg=>
    have ox:¬((ks.length:Int)=sh.1.length):=by omega
    have G5:¬t.args.length=sh.1.length:=by omega
    simp[h4,ox,G5]
   have ox:(ks.length:Int)=sh.1.length:=by omega
   have G5:t.args.length=sh.1.length:=by omega
   by_cases h5:t.n=0
   case neg=>simp[h4,ox,G5,h5]
   simp[h4,ox,G5,h5];refine lK sh.1.length (ny sh.1 ks) (fun k=>[.int 0,.int 0,.int (mM sh.1 ks k),.int k]) (fun _=>[]) ?_ (fun k hk ho=>?_) (fun k hk ho hb=>?_) (fun hj=>?_)
   ·simp[mM]
   ·have hw:=bI hk (by omega);have ct:k<ks.length:=by omega
    simp only[mM];unfold ny at ho;simp only[List.getD_eq_getElem?_getD,List.getElem?_eq_getElem hk,List.getElem?_eq_getElem ct,Option.getD_some] at ho ⊢;generalize mM sh.1 ks k=c at*;by_cases a1:sh.1[k]=-1
    ·by_cases a2:c=-1
     ·simp[zj,tY,hk,ct,hw,ints,a1,a2]
     ·simp[a1,a2] at ho;simp[zj,tY,hk,ct,hw,ints,a1,a2,ho]
    ·simp[a1] at ho;simp[zj,tY,hk,ct,hw,ints,a1,ho]
   ·rw[hb];have ct:k<ks.length:=by omega
    unfold ny at ho;simp only[List.getD_eq_getElem?_getD,List.getElem?_eq_getElem hk,List.getElem?_eq_getElem ct,Option.getD_some] at ho;generalize mM sh.1 ks k=c at*;by_cases a1:sh.1[k]=-1
    ·by_cases a2:c=-1
     ·simp[a1,a2] at ho
     ·simp[a1,a2] at ho;simp[zj,tY,hk,ct,ints,a1,a2,ho]
    ·simp[a1] at ho;simp[zj,tY,hk,ct,ints,a1,ho]
   ·rw[hj];simp[zj,tY];by_cases a1:sh.2=-1<;>simp[a1]
def lX (t:Tm):Int×Int:=if 60<cG 8 t then(0,6) else bP 8 t
theorem agC (t:Tm)(ht:t.OK):aj T acw [dB t] (.tup [.int (lX t).1,.int (lX t).2]):=by
 refine .of_tree rfl akb aBI ?_;simp[Vq,lX];refine⟨_,Tx 8 t 1 ht (by omega) (by omega),?_⟩;by_cases h:60<cG 8 t
 ·simp[h]
 simp[h];refine⟨_,Tw 8 t ht (by omega),?_⟩;simp
end Rm
namespace Rm
open Go Go.Proofs Cx
abbrev u (n:Nat):D:=.v (.int .u64 n)
theorem MQ (n:Int):IntKind.u64.wrap n=n%18446744073709551616:=rfl
theorem iS {n:Int}(h:0≤n∧n<18446744073709551616):IntKind.u64.wrap n=n:=by
 rw[MQ];omega
theorem dT {n:Nat}(h:n<18446744073709551616):IntKind.u64.wrap (n:Int)=n:=iS (by omega)
theorem Mj (a s:Nat)(h:s≤64):bD .shr .u64 a s=((a/2^s:Nat):Int):=by
 show Int.fdiv (a:Int) (2^(min (s:Int).toNat 64))=_;have:min (s:Int).toNat 64=s:=by simp;omega
 rw[this,Int.fdiv_eq_ediv_of_nonneg _ (Int.le_of_lt (Int.pow_pos (by decide)))];rw[Int.natCast_ediv,Int.natCast_pow];rfl
theorem Tp (a s:Nat)(h:s≤64):bD .shl .u64 a s=((a*2^s%18446744073709551616:Nat):Int):=by
 show IntKind.u64.wrap ((a:Int)*(2^(min (s:Int).toNat 64)))=_;have:min (s:Int).toNat 64=s:=by simp;omega
 rw[this,MQ,Int.natCast_emod,Int.natCast_mul,Int.natCast_pow];rfl
theorem zT (a:Nat)(h:a<18446744073709551616):bD .and .u64 a 4294967295=((a%4294967296:Nat):Int):=by
 show IntKind.u64.wrap ((BitVec.ofInt 64 (a:Int)&&& BitVec.ofInt 64 4294967295).toNat:Nat)=_;have e:(BitVec.ofInt 64 (a:Int)&&& BitVec.ofInt 64 4294967295).toNat=a%4294967296:=by
  rw[BitVec.toNat_and];have e1:(BitVec.ofInt 64 (a:Int)).toNat=a:=by simp[BitVec.ofInt,BitVec.toNat_ofNat];omega
  have e2:(BitVec.ofInt 64 4294967295).toNat=2^32-1:=by decide
  rw[e1,e2,Nat.and_two_pow_sub_one_eq_mod]
 rw[e,dT (by omega)]
@[simp] theorem dS (a:Nat):bD .shr .u64 a 32=((a/4294967296:Nat):Int):=Mj a 32 (by decide)
@[simp] theorem aJu (a:Nat):bD .shr .u64 a 16=((a/65536:Nat):Int):=Mj a 16 (by decide)
@[simp] theorem aJv (a:Nat):bD .shr .u64 a 8=((a/256:Nat):Int):=Mj a 8 (by decide)
set_option maxHeartbeats 2000000 in
theorem QF (a b:Nat)(ha:a<18446744073709551616)(hb:b<18446744073709551616):aj T aa8 [u a,u b] (.tup [u (a*b/18446744073709551616),u (a*b%18446744073709551616)]):=by
 refine .of_tree rfl aiK aAh ?_;obtain⟨h1,h2,h3,h4⟩:=Go.Lib.mul64_hi a b ha hb;have elo:IntKind.u64.wrap ((a:Int)*(b:Int))=((a*b%18446744073709551616:Nat):Int):=by rw[MQ,Int.natCast_emod,Int.natCast_mul];rfl
 have Of:bD .shr .u64 (a:Int) 32=((a/4294967296:Nat):Int):=dS a;have ea0:bD .and .u64 (a:Int) 4294967295=((a%4294967296:Nat):Int):=zT a ha;have Og:bD .shr .u64 (b:Int) 32=((b/4294967296:Nat):Int):=dS b;have eb0:bD .and .u64 (b:Int) 4294967295=((b%4294967296:Nat):Int):=zT b hb;have aHN:=Go.Lib.half_mul_le (a:=a/4294967296) (b:=b/4294967296) (by omega) (by omega);have aHM:=Go.Lib.half_mul_le (a:=a/4294967296) (b:=b%4294967296) (by omega) (by omega);have aHL:=Go.Lib.half_mul_le (a:=a%4294967296) (b:=b/4294967296) (by omega) (by omega);have aHK:=Go.Lib.half_mul_le (a:=a%4294967296) (b:=b%4294967296) (by omega) (by omega);have vg:a*b/18446744073709551616<18446744073709551616:=by
  have:a*b<18446744073709551616*18446744073709551616:=Nat.mul_lt_mul'' ha hb;exact Nat.div_lt_of_lt_mul this
 simp only[TZ];generalize a/4294967296=a1 at*;generalize a%4294967296=a0 at*;generalize b/4294967296=b1 at*;generalize b%4294967296=b0 at*;have p11:IntKind.u64.wrap ((a1:Int)*(b1:Int))=((a1*b1:Nat):Int):=by rw[←Int.natCast_mul];exact dT (by omega)
 have p10:IntKind.u64.wrap ((a1:Int)*(b0:Int))=((a1*b0:Nat):Int):=by rw[←Int.natCast_mul];exact dT (by omega)
 have p01:IntKind.u64.wrap ((a0:Int)*(b1:Int))=((a0*b1:Nat):Int):=by rw[←Int.natCast_mul];exact dT (by omega)
 have p00:IntKind.u64.wrap ((a0:Int)*(b0:Int))=((a0*b0:Nat):Int):=by rw[←Int.natCast_mul];exact dT (by omega)
 rw[←h4] at vg ⊢;generalize a1*b1=P at*;generalize a1*b0=Q at*;generalize a0*b1=R at*;generalize a0*b0=S at*;have s1:bD .shr .u64 (S:Int) 32=((S/4294967296:Nat):Int):=dS S;have s2:IntKind.u64.wrap ((Q:Int)+((S/4294967296:Nat):Int))=((Q+S/4294967296:Nat):Int):=by rw[iS (by omega)];omega
 generalize S/4294967296=S1 at*;generalize hT:Q+S1=TT at*;have s3:bD .shr .u64 (TT:Int) 32=((TT/4294967296:Nat):Int):=dS TT;have s4:bD .and .u64 (TT:Int) 4294967295=((TT%4294967296:Nat):Int):=zT TT (by omega);have s5:IntKind.u64.wrap (((TT%4294967296:Nat):Int)+(R:Int))=((TT%4294967296+R:Nat):Int):=by rw[iS (by omega)];omega
 generalize hU:TT%4294967296+R=U at*;have s6:bD .shr .u64 (U:Int) 32=((U/4294967296:Nat):Int):=dS U;have s7:IntKind.u64.wrap ((P:Int)+((TT/4294967296:Nat):Int))=((P+TT/4294967296:Nat):Int):=by rw[iS (by omega)];omega
 have s8:IntKind.u64.wrap (((P+TT/4294967296:Nat):Int)+((U/4294967296:Nat):Int))=((P+TT/4294967296+U/4294967296:Nat):Int):=by rw[iS (by omega)];omega
 simp[-dS,-Int.natCast_add,-Int.natCast_mul,-Int.natCast_ediv,-Int.natCast_emod,elo,Of,ea0,Og,eb0,p11,p10,p01,p00,s1,s2,s3,s4,s5,s6,s7,s8]
def rN (m:Nat):Int:=if m<1099511627776 then m else 1099511627776
def yW (a b:Int):Int:=if(decide (a<0)!=decide (b<0))=true then-rN (a.natAbs*b.natAbs) else rN (a.natAbs*b.natAbs)
theorem aeT (m:Nat):0≤rN m∧rN m≤1099511627776:=by unfold rN;split<;>omega
set_option maxHeartbeats 1000000 in
theorem azJ (a b:Int)(ha:-1099511627776≤a∧a≤1099511627776)(hb:-1099511627776≤b∧b≤1099511627776):aj T acG [.int a,.int b] (.int (yW a b)):=by
 refine .of_tree rfl akl aBS ?_;have wa:IntKind.u64.wrap (a.natAbs:Int)=a.natAbs:=dT (by omega);have wb:IntKind.u64.wrap (b.natAbs:Int)=b.natAbs:=dT (by omega);have w0a:IntKind.i64.wrap (0-a)=-a:=by rw[aW (by omega)];omega
 have w0b:IntKind.i64.wrap (0-b)=-b:=by rw[aW (by omega)];omega
 have aCl:IntKind.i64.wrap (-a)=-a:=aW (by omega);have aCm:IntKind.i64.wrap (-b)=-b:=aW (by omega);have ea:(if a< -a then D.int (-a) else D.int a)=D.int a.natAbs:=by split<;>congr 1<;>omega
 have eb:(if b< -b then D.int (-b) else D.int b)=D.int b.natAbs:=by split<;>congr 1<;>omega
 have ea':(if a< -a then-a else a)=(a.natAbs:Int):=by split<;>omega
 have eb':(if b< -b then-b else b)=(b.natAbs:Int):=by split<;>omega
 simp[Vz,aCl,aCm,ea,eb,ea',eb'];rw[wa,wb];refine⟨_,QF a.natAbs b.natAbs (by omega) (by omega),?_⟩;unfold yW;generalize a.natAbs*b.natAbs=m;have hs:(decide (a<0)!=decide (b<0))=false↔(a<0↔b<0):=by
  by_cases h1:a<0<;>by_cases h2:b<0<;>simp[h1,h2]
 have key:((if((m/18446744073709551616:Nat):Int)=0∧((m%18446744073709551616:Nat):Int)<1099511627776 then IntKind.i64.wrap ((m%18446744073709551616:Nat):Int) else 1099511627776):Int)=rN m:=by
  unfold rN;by_cases hm:m<1099511627776
  ·have h1:m/18446744073709551616=0:=by omega
   have h2:m%18446744073709551616=m:=by omega
   rw[h1,h2,if_pos ⟨rfl,by omega⟩,if_pos hm,aW (by omega)]
  ·rw[if_neg hm,if_neg];rintro⟨h1,h2⟩;omega
 have eO:=aeT m;have avo:(if((m/18446744073709551616:Nat):Int)=0∧((m%18446744073709551616:Nat):Int)<1099511627776 then D.int (IntKind.i64.wrap ((m%18446744073709551616:Nat):Int)) else D.int 1099511627776)=D.int (rN m):=by
  rw[←key];split<;>rfl
 show(if a<0↔b<0 then(if((m/18446744073709551616:Nat):Int)=0∧((m%18446744073709551616:Nat):Int)<1099511627776 then D.int (IntKind.i64.wrap ((m%18446744073709551616:Nat):Int)) else D.int 1099511627776)=_ else
  IntKind.i64.wrap (-(if((m/18446744073709551616:Nat):Int)=0∧((m%18446744073709551616:Nat):Int)<1099511627776 then IntKind.i64.wrap ((m%18446744073709551616:Nat):Int) else 1099511627776))=_)
 rw[avo,key];generalize rN m=n at*;split
 ·rename_i h;rw[hs.2 h];simp
 ·rename_i h;have:(decide (a<0)!=decide (b<0))=true:=by
   cases e:(decide (a<0)!=decide (b<0)) with
   |true=>rfl
   |false=>exact absurd (hs.1 e) h
  rw[this,aW (by omega)];simp
def xf (op a b:Int):Int:=if op=9 then oc (a+b) else if op=10 then oc (a-b) else if op=11 then yW a b else if op=12 then min a b else max a b
theorem azG (op a b:Int)(ha:-1099511627776≤a∧a≤1099511627776)(hb:-1099511627776≤b∧b≤1099511627776):aj T acz [.int op,.int a,.int b] (.int (xf op a b)):=by
 refine .of_tree rfl ake aBL ?_;have w1:IntKind.i64.wrap (a+b)=a+b:=aW (by omega);have w2:IntKind.i64.wrap (a-b)=a-b:=aW (by omega);simp[Vt,xf,w1,w2];by_cases h1:op=9
 ·simp[h1];exact Mu _
 by_cases h2:op=10
 ·simp[h1,h2];exact Mu _
 by_cases h3:op=11
 ·simp[h1,h2,h3];exact azJ a b ha hb
 by_cases h4:op=12
 ·simp[h1,h2,h3,h4];by_cases h5:b<a<;>simp[h5]<;>omega
 simp[h1,h2,h3,h4];by_cases h5:b>a<;>simp[h5]<;>omega
def dU (b:Bool):Cell:=if b then⟨true,1⟩ else⟨true,0⟩
theorem uj (b:Bool):aj T acI [.bool b] (cM (dU b)):=by
 refine .of_tree rfl akn aBU ?_;cases b<;>simp[VB,dU]<;>rfl
def dI:Cell:=⟨false,0⟩
@[simp] theorem aIM:D.agg [.bool false,.int 0]=cM dI:=_root_.id rfl
@[simp] theorem aIN:dI.known=false:=rfl
@[simp] theorem aIO:dI.n=0:=rfl
def cellAt (cs:List Cell)(v:Int):Cell:=cs.getD v.toNat default
def jz (cs:List Cell)(v:Int):Cell:=if cs.length≤v.toNat∨(cellAt cs v).known=false then dI else if(lR v).1=1 then dU (decide ((cellAt cs v).n≠0)) else⟨true,oc (cellAt cs v).n⟩
abbrev Oi (cs:List Cell):D:=.agg [cells cs]
theorem azL (cs:List Cell)(v:Int)(hv:0≤v):aj T acE [Oi cs,.int v] (cM (jz cs v)):=by
 refine .of_tree rfl akk aBR ?_;obtain⟨k,rfl⟩:=Int.eq_ofNat_of_zero_le hv;simp[Vy,jz,cellAt];by_cases h1:cs.length≤k
 ·simp[h1]
 have cJ:k<cs.length:=by omega
 simp[h1,cJ];cases h2:cs[k].known
 ·simp[h2]
 simp[h2];refine⟨_,agD _,?_⟩;by_cases h3:(lR k).1=1
 ·simp[h3,cJ];refine⟨_,uj _,?_⟩;simp;rfl
 ·simp[h3,cJ];refine⟨_,Mu _,?_⟩;simp;rfl
@[simp] theorem aH7 (a b:Int):(a==b)=decide (a=b):=_root_.id rfl
@[simp] theorem aH8 (a b:Int):(a !=b)= !decide (a=b):=_root_.id rfl
def aN (l:List Cell)(k:Nat):Cell:=l.getD k default
def fa (op:Int)(l:List Cell):Cell:=
 if op=3 then(if(aN l 0).known=true then dU (decide ((aN l 0).n=0)) else dI)
 else if(op=4∨op=5)∧(aN l 0=dU (decide (op=5))∨aN l 1=dU (decide (op=5))) then dU (decide (op=5))
 else if op=6 then(if(aN l 1).known=true∧aN l 1=aN l 2 then aN l 1 else dI)
 else if(aN l 0).known=false∨(aN l 1).known=false then dI
 else if op=4∨op=5 then dU (decide (op=4))
 else if op=7 then dU (decide ((aN l 0).n<(aN l 1).n)) else if op=8 then dU (decide ((aN l 0).n=(aN l 1).n)) else⟨true,xf op (aN l 0).n (aN l 1).n⟩
theorem akP (a b:Cell):a=b↔a.known=b.known∧a.n=b.n:=by cases a;cases b;simp
theorem azH (op:Int)(l:List Cell)(h1:1≤l.length)(h2:op≠3→2≤l.length)(h3:op=6→3≤l.length)
 (hb:9≤op→(-1099511627776≤(aN l 0).n∧(aN l 0).n≤1099511627776)∧(-1099511627776≤(aN l 1).n∧(aN l 1).n≤1099511627776)) (h9:op<3∨8<op→9≤op):
 aj T acB [.int op,cells l] (cM (fa op l)):=by
 refine .of_tree rfl akg aBN ?_;have g0:0<l.length:=by omega
 have uW:l[0]=aN l 0:=by simp[aN,g0]
 simp[Vv];unfold fa;by_cases o3:op=3
 ·simp[o3,g0,uW];cases e:(aN l 0).known
  ·simp
  ·simp[g0];refine⟨_,uj _,?_⟩;simp
 have g1:1<l.length:=by have:=h2 o3;omega
 have BE:l[1]=aN l 1:=by simp[aN,g1]
 have iZ:(1:Int)<l.length:=by omega
 simp[o3];have fin:∀a b:Cell,(a=b)=(a.known=b.known∧a.n=b.n):=fun a b=>propext (akP a b);rcases Classical.em (op=4) with o4|o4
 ·subst o4;simp;refine⟨_,uj _,?_⟩;simp[g0,g1,iZ,uW,BE,fin];split
  ·rfl
  ·split
   ·rfl
   ·refine⟨_,uj _,?_⟩;simp
 rcases Classical.em (op=5) with o5|o5
 ·subst o5;simp;refine⟨_,uj _,?_⟩;simp[g0,g1,iZ,uW,BE,fin];split
  ·rfl
  ·split
   ·rfl
   ·refine⟨_,uj _,?_⟩;simp
 rcases Classical.em (op=6) with o6|o6
 ·subst o6;have g2:2<l.length:=by have:=h3 rfl;omega
  have gg2:l[2]=aN l 2:=by simp[aN,g2]
  have sI:(2:Int)<l.length:=by omega
  simp[g1,g2,iZ,sI,BE,gg2,fin];cases e1:(aN l 1).known
  ·simp
  by_cases e2:(aN l 1).known=(aN l 2).known∧(aN l 1).n=(aN l 2).n
  ·rw[e1] at e2;simp[e1,e2]
  ·rw[e1] at e2;have su:¬((aN l 2).known=true∧(aN l 1).n=(aN l 2).n):=fun h=>e2 ⟨h.1.symm,h.2⟩;simp only[e1,true_and,if_true]
   first|(rw[if_neg su,if_neg su])|(simp[su])
 simp[o4,o5,o6,g0,g1,iZ,uW,BE];cases e1:(aN l 0).known
 ·simp
 cases e2:(aN l 1).known
 ·simp
 simp[g1,iZ,BE];rcases Classical.em (op=7) with o7|o7
 ·subst o7;simp;refine⟨_,uj _,?_⟩;simp
 rcases Classical.em (op=8) with o8|o8
 ·subst o8;simp;refine⟨_,uj _,?_⟩;simp
 simp[o7,o8];obtain⟨b1,b2⟩:=hb (h9 (by omega));refine⟨_,azG op _ _ b1 b2,?_⟩;simp;rfl
end Rm
namespace Rm
open Go Go.Proofs Cx
theorem axN (a b s:Nat)(h:a<18446744073709551616)(hb:b<2^s)(ha:a%2^s=0)(hs:s≤64):bD .or .u64 a b=((a+b:Nat):Int):=by
 show IntKind.u64.wrap ((BitVec.ofInt 64 (a:Int)|||BitVec.ofInt 64 (b:Int)).toNat:Nat)=_;have eO:b<18446744073709551616:=Nat.lt_of_lt_of_le hb (by have:=Nat.pow_le_pow_right (n:=2) (by decide) hs;simpa using this);have e1:∀n:Nat,n<18446744073709551616→(BitVec.ofInt 64 (n:Int)).toNat=n:=fun n hn=>by simp[BitVec.ofInt,BitVec.toNat_ofNat];omega
 have e:(BitVec.ofInt 64 (a:Int)|||BitVec.ofInt 64 (b:Int)).toNat=a+b:=by
  rw[BitVec.toNat_or,e1 a h,e1 b eO];have e3:a=2^s*(a/2^s):=by have:=Nat.div_add_mod a (2^s);omega
  rw[e3];exact(Nat.two_pow_add_eq_or_of_lt hb (a/2^s)).symm
 have af:a+b<18446744073709551616:=by rw[←e];exact BitVec.isLt _
 rw[e,dT af]
def bl (x L:Nat):Prop:=(L=0→x=0)∧(0<L→2^(L-1)≤x)∧x<2^L∧L≤64
def H3:ByteArray:=⟨#[0,1,2,2,3,3,3,3,4,4,4,4,4,4,4,4,5,5,5,5,5,5,5,5,5,5,5,5,5,5,5,5,6,6,6,6,6,6,6,6,6,6,6,6,6,6,6,6,6,6,6,6,6,6,6,6,6,6,6,6,6,6,6,6,7,7,7,7,7,7,7,7,7,7,7,7,7,7,7,7,7,7,7,7,7,7,7,7,7,7,7,7,7,7,7,7,7,7,7,7,7,7,7,7,7,7,7,7,7,7,7,7,7,7,7,7,7,7,7,7,7,7,7,7,7,7,7,7,8,8,8,8,8,8,8,8,8,8,8,8,8,8,8,8,8,8,8,8,8,8,8,8,8,8,8,8,8,8,8,8,8,8,8,8,8,8,8,8,8,8,8,8,8,8,8,8,8,8,8,8,8,8,8,8,8,8,8,8,8,8,8,8,8,8,8,8,8,8,8,8,8,8,8,8,8,8,8,8,8,8,8,8,8,8,8,8,8,8,8,8,8,8,8,8,8,8,8,8,8,8,8,8,8,8,8,8,8,8,8,8,8,8,8,8,8,8,8,8,8,8,8,8,8,8,8,8]⟩
def cj (y:Nat):Nat:=(H3.data.getD y 0).toNat
theorem avu:(List.range 256).all (fun y=>(cj y==0&&y==0||Nat.ble (2^(cj y-1)) y&&Nat.blt 0 (cj y))&&Nat.blt y (2^cj y)&&Nat.ble (cj y) 8)=true:=by kernel_rfl
theorem nA {y:Nat}(h:y<256):((cj y=0∧y=0)∨(2^(cj y-1)≤y∧0<cj y))∧y<2^cj y∧cj y≤8:=by
 have:=List.all_eq_true.1 avu y (List.mem_range.2 h);simp only[Bool.and_eq_true,Bool.or_eq_true,beq_iff_eq,Nat.ble_eq,Nat.blt_eq] at this;exact⟨this.1.1,this.1.2,this.2⟩
theorem WE {y:Nat}(h:y<256):bl y (cj y):=by
 obtain⟨h1,h2,h3⟩:=nA h;refine⟨fun h0=>?_,fun h0=>?_,h2,by omega⟩
 ·rcases h1 with h1|h1
  ·exact h1.2
  ·omega
 ·rcases h1 with h1|h1
  ·omega
  ·exact h1.1
theorem NR {x s L:Nat}(hx:2^s≤x)(h:bl (x/2^s) L)(hs:L+s≤64):bl x (L+s):=by
 have hp:0<2^s:=Nat.two_pow_pos s;have hL:0<L:=by
  rcases Nat.eq_zero_or_pos L with h0|h0
  ·have:=h.1 h0;have:=Nat.div_pos hx hp;omega
  ·exact h0
 refine⟨fun h0=>by omega,fun _=>?_,?_,hs⟩
 ·have h1:=h.2.1 hL;have e:L+s-1=(L-1)+s:=by omega
  rw[e,Nat.pow_add];exact(Nat.le_div_iff_mul_le hp).1 h1
 ·rw[Nat.pow_add];exact(Nat.div_lt_iff_lt_mul hp).1 h.2.2.1
@[simp] theorem uC {n:Nat}(h:n<256):IntKind.u8.wrap (n:Int)=n:=by
  show(n:Int)%256=n;omega
theorem avt:(⟨#[0,1,2,2,3,3,3,3,4,4,4,4,4,4,4,4,5,5,5,5,5,5,5,5,5,5,5,5,5,5,5,5,6,6,6,6,6,6,6,6,6,6,6,6,6,6,6,6,6,6,6,6,6,6,6,6,6,6,6,6,6,6,6,6,7,7,7,7,7,7,7,7,7,7,7,7,7,7,7,7,7,7,7,7,7,7,7,7,7,7,7,7,7,7,7,7,7,7,7,7,7,7,7,7,7,7,7,7,7,7,7,7,7,7,7,7,7,7,7,7,7,7,7,7,7,7,7,7,8,8,8,8,8,8,8,8,8,8,8,8,8,8,8,8,8,8,8,8,8,8,8,8,8,8,8,8,8,8,8,8,8,8,8,8,8,8,8,8,8,8,8,8,8,8,8,8,8,8,8,8,8,8,8,8,8,8,8,8,8,8,8,8,8,8,8,8,8,8,8,8,8,8,8,8,8,8,8,8,8,8,8,8,8,8,8,8,8,8,8,8,8,8,8,8,8,8,8,8,8,8,8,8,8,8,8,8,8,8,8,8,8,8,8,8,8,8,8,8,8,8,8,8,8,8,8,8]⟩:ByteArray)=H3:=rfl
theorem tB:H3.size=256:=by kernel_rfl
theorem tC (y:Nat):(H3.data[y]?.getD 0).toNat=cj y:=by simp[cj]
def l8 (x:Nat):Nat:=if 256≤x then cj (x/256)+8 else cj x
def yo (x:Nat):Nat:=if 65536≤x then l8 (x/65536)+16 else l8 x
def tz (x:Nat):Nat:=if 4294967296≤x then yo (x/4294967296)+32 else yo x
theorem Z4 {x:Nat}(h:x<65536):bl x (l8 x):=by
 unfold l8;split
 ·rename_i h1;exact NR (s:=8) h1 (WE (by omega)) (by have:=(nA (y:=x/256) (by omega)).2.2;omega)
 ·exact WE (by omega)
theorem Z5 {x:Nat}(h:x<65536):l8 x≤16:=by
 unfold l8;split
 ·have:=(nA (y:=x/256) (by omega)).2.2;omega
 ·have:=(nA (y:=x) (by omega)).2.2;omega
theorem Z2 {x:Nat}(h:x<4294967296):bl x (yo x)∧yo x≤32:=by
 unfold yo;split
 ·rename_i h1;have:=Z5 (x:=x/65536) (by omega);exact⟨NR (s:=16) h1 (Z4 (by omega)) (by omega),by omega⟩
 ·have:=Z5 (x:=x) (by omega);exact⟨Z4 (by omega),by omega⟩
theorem Z3 {x:Nat}(h:x<18446744073709551616):bl x (tz x):=by
 unfold tz;split
 ·rename_i h1;have:=Z2 (x:=x/4294967296) (by omega);exact NR (s:=32) h1 this.1 (by omega)
 ·exact(Z2 (by omega)).1
set_option maxRecDepth 10000 in
set_option maxHeartbeats 1000000 in
theorem avs (x:Nat)(h:x<18446744073709551616):aj T aa7 [u x] (.int (tz x:Nat)):=by
 refine .of_tree rfl aiJ aAg ?_;unfold tz yo l8;simp only[TY,km,avt];have w8:IntKind.i64.wrap 8=8:=aW (by omega);have uv:IntKind.i64.wrap 16=16:=aW (by omega);have uw:IntKind.i64.wrap 24=24:=aW (by omega);have ux:IntKind.i64.wrap 32=32:=aW (by omega);have uy:IntKind.i64.wrap 40=40:=aW (by omega);have uz:IntKind.i64.wrap 48=48:=aW (by omega);have uA:IntKind.i64.wrap 56=56:=aW (by omega);by_cases h1:4294967296≤x
 ·have g1:(4294967296:Int)≤x:=by omega
  generalize jn:x/4294967296=x1 at*;by_cases h2:65536≤x1
  ·have g2:(65536:Int)≤(x1:Nat):=by omega
   generalize qd:x1/65536=x2 at*;by_cases h3:256≤x2
   ·have g3:(256:Int)≤(x2:Nat):=by omega
    have hY:x2/256<256:=by omega
    have hl:=(nA hY).2.2;have k1:IntKind.u8.wrap ((x2/256:Nat):Int)=((x2/256:Nat):Int):=uC hY;have k2:IntKind.i64.wrap ((cj (x2/256):Nat):Int)=cj (x2/256):=aW (by omega);have k3:IntKind.i64.wrap (56+(cj (x2/256):Int))=56+(cj (x2/256):Int):=aW (by omega);simp[h1,h2,h3,g1,g2,g3,k1,tB,tC,k2,k3,w8,uv,uw,ux,uy,uz,uA,jn,qd,-Int.natCast_ediv];omega
   ·have g3:¬(256:Int)≤(x2:Nat):=by omega
    have hY:x2<256:=by omega
    have hl:=(nA hY).2.2;have k1:IntKind.u8.wrap ((x2:Nat):Int)=((x2:Nat):Int):=uC hY;have k2:IntKind.i64.wrap ((cj (x2):Nat):Int)=cj (x2):=aW (by omega);have k3:IntKind.i64.wrap (48+(cj (x2):Int))=48+(cj (x2):Int):=aW (by omega);simp[h1,h2,h3,g1,g2,g3,k1,tB,tC,k2,k3,w8,uv,uw,ux,uy,uz,uA,jn,qd,-Int.natCast_ediv];omega
  ·have g2:¬(65536:Int)≤(x1:Nat):=by omega
   by_cases h3:256≤x1
   ·have g3:(256:Int)≤(x1:Nat):=by omega
    have hY:x1/256<256:=by omega
    have hl:=(nA hY).2.2;have k1:IntKind.u8.wrap ((x1/256:Nat):Int)=((x1/256:Nat):Int):=uC hY;have k2:IntKind.i64.wrap ((cj (x1/256):Nat):Int)=cj (x1/256):=aW (by omega);have k3:IntKind.i64.wrap (40+(cj (x1/256):Int))=40+(cj (x1/256):Int):=aW (by omega);simp[h1,h2,h3,g1,g2,g3,k1,tB,tC,k2,k3,w8,uv,uw,ux,uy,uz,uA,jn,-Int.natCast_ediv];omega
   ·have g3:¬(256:Int)≤(x1:Nat):=by omega
    have hY:x1<256:=by omega
    have hl:=(nA hY).2.2;have k1:IntKind.u8.wrap ((x1:Nat):Int)=((x1:Nat):Int):=uC hY;have k2:IntKind.i64.wrap ((cj (x1):Nat):Int)=cj (x1):=aW (by omega);have k3:IntKind.i64.wrap (32+(cj (x1):Int))=32+(cj (x1):Int):=aW (by omega);simp[h1,h2,h3,g1,g2,g3,k1,tB,tC,k2,k3,w8,uv,uw,ux,uy,uz,uA,jn,-Int.natCast_ediv];omega
 ·have g1:¬(4294967296:Int)≤x:=by omega
  by_cases h2:65536≤x
  ·have g2:(65536:Int)≤(x:Nat):=by omega
   generalize qd:x/65536=x2 at*;by_cases h3:256≤x2
   ·have g3:(256:Int)≤(x2:Nat):=by omega
    have hY:x2/256<256:=by omega
    have hl:=(nA hY).2.2;have k1:IntKind.u8.wrap ((x2/256:Nat):Int)=((x2/256:Nat):Int):=uC hY;have k2:IntKind.i64.wrap ((cj (x2/256):Nat):Int)=cj (x2/256):=aW (by omega);have k3:IntKind.i64.wrap (24+(cj (x2/256):Int))=24+(cj (x2/256):Int):=aW (by omega);simp[h1,h2,h3,g1,g2,g3,k1,tB,tC,k2,k3,w8,uv,uw,ux,uy,uz,uA,qd,-Int.natCast_ediv];omega
   ·have g3:¬(256:Int)≤(x2:Nat):=by omega
    have hY:x2<256:=by omega
    have hl:=(nA hY).2.2;have k1:IntKind.u8.wrap ((x2:Nat):Int)=((x2:Nat):Int):=uC hY;have k2:IntKind.i64.wrap ((cj (x2):Nat):Int)=cj (x2):=aW (by omega);have k3:IntKind.i64.wrap (16+(cj (x2):Int))=16+(cj (x2):Int):=aW (by omega);simp[h1,h2,h3,g1,g2,g3,k1,tB,tC,k2,k3,w8,uv,uw,ux,uy,uz,uA,qd,-Int.natCast_ediv];omega
  ·have g2:¬(65536:Int)≤(x:Nat):=by omega
   by_cases h3:256≤x
   ·have g3:(256:Int)≤(x:Nat):=by omega
    have hY:x/256<256:=by omega
    have hl:=(nA hY).2.2;have k1:IntKind.u8.wrap ((x/256:Nat):Int)=((x/256:Nat):Int):=uC hY;have k2:IntKind.i64.wrap ((cj (x/256):Nat):Int)=cj (x/256):=aW (by omega);have k3:IntKind.i64.wrap (8+(cj (x/256):Int))=8+(cj (x/256):Int):=aW (by omega);simp[h1,h2,h3,g1,g2,g3,k1,tB,tC,k2,k3,w8,uv,uw,ux,uy,uz,uA,-Int.natCast_ediv];omega
   ·have g3:¬(256:Int)≤(x:Nat):=by omega
    have hY:x<256:=by omega
    have hl:=(nA hY).2.2;have k1:IntKind.u8.wrap ((x:Nat):Int)=((x:Nat):Int):=uC hY;have k2:IntKind.i64.wrap ((cj (x):Nat):Int)=cj (x):=aW (by omega);have k3:IntKind.i64.wrap (0+(cj (x):Int))=0+(cj (x):Int):=aW (by omega);simp[h1,h2,h3,g1,g2,g3,k1,tB,tC,k2,k3,w8,uv,uw,ux,uy,uz,uA,-Int.natCast_ediv];omega
end Rm
