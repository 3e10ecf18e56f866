/-
  Shared texts of this claim.
-/
import Derived.Test.YtepfoekldooaeaaGreatDoorKAL
import Derived.Test.YtepfoekldooaeaaGreatDoorKAM
import Derived.Test.YtepfoekldooaeaaGreatDoorKAN
import Derived.Test.YtepfoekldooaeaaGreatDoorKAK
import Derived.Test.YtepfoekldooaeaaGreatDoorKAJ
import Derived.WalkKit
import Derived.WalkSpells
import Derived.Lib.SliceRun
import Derived.Lib.AppendZeros
import Derived.Laws.Strings
set_option linter.unusedVariables false
set_option maxRecDepth 100000
namespace Rm
open Go Go.Proofs Cx
def R3:List Nat:=[6,25,68,69,27,70,20,54,32,57,34,82,130,173,198,197,217,170,146,199,200,131,45,103,133,174,202,201,218,175,83,134,177,176,178,203,204,219,223,221,220,135,179,205,222,206,224,228,153,207,56,81,129,80,89,141,142,184,208,209,226,143,144,145,185,147,148,149,150,151,124,125,126,127,169,195,194,212,214,227,213,163,128,171,172,196,216,71,119,120,118,121,76,73,122,168,74,79,33,72,75,30,26,43,95,96,97,155,187,44,98,156,188,211,189,157,48,190,99,100,158,101,102,58,112,161,162,113,114,164,191,192,115,165,116,167,193,166,28,77,123,29,78,8,10,37,86,87,139,140,181,182,183,88,39,40,84,85,21,55,137,136,138,180,91,41,93,94,154,186,210,92,152,38,90,11,12,13]
noncomputable def CE:List (Nat×PC):=[(6,JF),(25,JJ),(68,JI),(69,JK),(27,Jq),(70,Js),(20,KF),(54,KL),(32,I2),(57,I1),(34,I0),(82,I5),(130,I6),(173,KI),(198,KJ),(197,KN),(217,KR),(170,Ks),(146,Kw),(199,KK),(200,KG),(131,JO),(45,KP),(103,KU),(133,Jl),(174,Jn),(202,Jo),(201,KO),(218,KT),(175,Jm),(83,JN),(134,JP),(177,JQ),(176,KS),(178,K7),(203,Li),(204,Lb),(219,Lf),(223,Ld),(221,K9),(220,Ll),(135,K8),(179,Lg),(205,Lh),(222,Lm),(206,Lc),(224,La),(228,Lj),(153,I7),(207,KM),(56,I3),(81,KH),(129,KW),(80,KX),(89,Km),(141,KA),(142,Kv),(184,Kz),(208,Ky),(209,KQ),(226,KV),(143,Ko),(144,Kp),(145,Ku),(185,KD),(147,Kq),(148,Kr),(149,KB),(150,KE),(151,KC),(124,K1),(125,K4),(126,KY),(127,K0),(169,KZ),(195,I8),(194,Jh),(212,Jc),(214,Je),(227,Jf),(213,I9),(163,Kt),(128,K5),(171,K6),(172,Ja),(196,Jd),(216,Jg),(71,Jz),(119,Jx),(120,JC),(118,JD),(121,JB),(76,Jr),(73,Ju),(122,Jv),(168,Jb),(74,JA),(79,Jw),(33,I4),(72,Jt),(75,Jy),(30,Jp),(26,JH),(43,Kl),(95,J2),(96,Kg),(97,Kk),(155,Ki),(187,Kj),(44,J1),(98,J9),(156,Kb),(188,J4),(211,J3),(189,J0),(157,J5),(48,J8),(190,J7),(99,Ka),(100,Kc),(158,J6),(101,Ke),(102,Kd),(58,JR),(112,Ln),(161,Lo),(162,Lp),(113,JY),(114,JX),(164,JW),(191,JU),(192,JZ),(115,JT),(165,JS),(116,JV),(167,Ji),(193,Jk),(166,Jj),(28,JG),(77,Kh),(123,Kf),(29,JL),(78,JM),(8,JE),(10,afL),(37,afP),(86,afN),(87,afv),(139,afz),(140,afW),(181,afX),(182,afY),(183,afZ),(88,afQ),(39,afu),(40,afA),(84,afC),(85,afD),(21,af0),(55,af1),(137,afE),(136,afB),(138,afF),(180,afU),(91,afx),(41,afR),(93,afT),(94,afS),(154,afG),(186,afH),(210,afI),(92,afw),(152,afy),(38,afO),(90,afV),(11,afM),(12,afJ),(13,afK)]
noncomputable def tab:Nat→Option PC:=aa CE
theorem afs:CE.map (·.1)=R3:=by kernel_rfl
theorem aC:(CE.map (·.1)).Nodup:=by rw[afs];exact mG (by kernel_rfl)
theorem ajQ:tab ab7=some JF:=aB aC (k:=0) (by kernel_rfl)
theorem ajU:tab acb=some JJ:=aB aC (k:=1) (by kernel_rfl)
theorem ajT:tab aca=some JI:=aB aC (k:=2) (by kernel_rfl)
theorem ajV:tab acd=some JK:=aB aC (k:=3) (by kernel_rfl)
theorem ajB:tab abZ=some Jq:=aB aC (k:=4) (by kernel_rfl)
theorem ajD:tab ab0=some Js:=aB aC (k:=5) (by kernel_rfl)
theorem akN:tab acX=some KF:=aB aC (k:=6) (by kernel_rfl)
theorem akT:tab ac3=some KL:=aB aC (k:=7) (by kernel_rfl)
theorem ajg:tab abC=some I2:=aB aC (k:=8) (by kernel_rfl)
theorem ajf:tab abB=some I1:=aB aC (k:=9) (by kernel_rfl)
theorem aje:tab abA=some I0:=aB aC (k:=10) (by kernel_rfl)
theorem ajj:tab abF=some I5:=aB aC (k:=11) (by kernel_rfl)
theorem ajk:tab abG=some I6:=aB aC (k:=12) (by kernel_rfl)
theorem akQ:tab ac0=some KI:=aB aC (k:=13) (by kernel_rfl)
theorem akR:tab ac1=some KJ:=aB aC (k:=14) (by kernel_rfl)
theorem akW:tab ac5=some KN:=aB aC (k:=15) (by kernel_rfl)
theorem ak0:tab ac9=some KR:=aB aC (k:=16) (by kernel_rfl)
theorem akB:tab acM=some Ks:=aB aC (k:=17) (by kernel_rfl)
theorem akF:tab acP=some Kw:=aB aC (k:=18) (by kernel_rfl)
theorem akS:tab ac2=some KK:=aB aC (k:=19) (by kernel_rfl)
theorem akO:tab acY=some KG:=aB aC (k:=20) (by kernel_rfl)
theorem ajZ:tab acg=some JO:=aB aC (k:=21) (by kernel_rfl)
theorem akY:tab ac7=some KP:=aB aC (k:=22) (by kernel_rfl)
theorem ak3:tab ade=some KU:=aB aC (k:=23) (by kernel_rfl)
theorem ajw:tab abV=some Jl:=aB aC (k:=24) (by kernel_rfl)
theorem ajy:tab abX=some Jn:=aB aC (k:=25) (by kernel_rfl)
theorem ajz:tab QU=some Jo:=aB aC (k:=26) (by kernel_rfl)
theorem akX:tab ac6=some KO:=aB aC (k:=27) (by kernel_rfl)
theorem ak2:tab adb=some KT:=aB aC (k:=28) (by kernel_rfl)
theorem ajx:tab abW=some Jm:=aB aC (k:=29) (by kernel_rfl)
theorem ajY:tab acf=some JN:=aB aC (k:=30) (by kernel_rfl)
theorem aj0:tab ach=some JP:=aB aC (k:=31) (by kernel_rfl)
theorem aj1:tab Q3=some JQ:=aB aC (k:=32) (by kernel_rfl)
theorem ak1:tab ada=some KS:=aB aC (k:=33) (by kernel_rfl)
theorem alb:tab adl=some K7:=aB aC (k:=34) (by kernel_rfl)
theorem Xu:tab adu=some Li:=aB aC (k:=35) (by kernel_rfl)
theorem alf:tab adp=some Lb:=aB aC (k:=36) (by kernel_rfl)
theorem ali:tab ads=some Lf:=aB aC (k:=37) (by kernel_rfl)
theorem alh:tab adr=some Ld:=aB aC (k:=38) (by kernel_rfl)
theorem ald:tab adn=some K9:=aB aC (k:=39) (by kernel_rfl)
theorem aln:tab adw=some Ll:=aB aC (k:=40) (by kernel_rfl)
theorem alc:tab adm=some K8:=aB aC (k:=41) (by kernel_rfl)
theorem alj:tab Rd=some Lg:=aB aC (k:=42) (by kernel_rfl)
theorem alk:tab adt=some Lh:=aB aC (k:=43) (by kernel_rfl)
theorem alo:tab adx=some Lm:=aB aC (k:=44) (by kernel_rfl)
theorem alg:tab adq=some Lc:=aB aC (k:=45) (by kernel_rfl)
theorem ale:tab ado=some La:=aB aC (k:=46) (by kernel_rfl)
theorem alm:tab adv=some Lj:=aB aC (k:=47) (by kernel_rfl)
theorem ajl:tab abH=some I7:=aB aC (k:=48) (by kernel_rfl)
theorem akV:tab ac4=some KM:=aB aC (k:=49) (by kernel_rfl)
theorem ajh:tab abD=some I3:=aB aC (k:=50) (by kernel_rfl)
theorem akP:tab acZ=some KH:=aB aC (k:=51) (by kernel_rfl)
theorem ak5:tab adg=some KW:=aB aC (k:=52) (by kernel_rfl)
theorem Xt:tab Ir=some KX:=aB aC (k:=53) (by kernel_rfl)
theorem akw:tab acL=some Km:=aB aC (k:=54) (by kernel_rfl)
theorem akI:tab acS=some KA:=aB aC (k:=55) (by kernel_rfl)
theorem akE:tab acO=some Kv:=aB aC (k:=56) (by kernel_rfl)
theorem akH:tab acR=some Kz:=aB aC (k:=57) (by kernel_rfl)
theorem akG:tab acQ=some Ky:=aB aC (k:=58) (by kernel_rfl)
theorem akZ:tab ac8=some KQ:=aB aC (k:=59) (by kernel_rfl)
theorem ak4:tab adf=some KV:=aB aC (k:=60) (by kernel_rfl)
theorem akx:tab Q6=some Ko:=aB aC (k:=61) (by kernel_rfl)
theorem aky:tab Q7=some Kp:=aB aC (k:=62) (by kernel_rfl)
theorem akD:tab acN=some Ku:=aB aC (k:=63) (by kernel_rfl)
theorem akL:tab acV=some KD:=aB aC (k:=64) (by kernel_rfl)
theorem akz:tab Q8=some Kq:=aB aC (k:=65) (by kernel_rfl)
theorem akA:tab Q9=some Kr:=aB aC (k:=66) (by kernel_rfl)
theorem akJ:tab acT=some KB:=aB aC (k:=67) (by kernel_rfl)
theorem akM:tab acW=some KE:=aB aC (k:=68) (by kernel_rfl)
theorem akK:tab acU=some KC:=aB aC (k:=69) (by kernel_rfl)
theorem ak7:tab adj=some K1:=aB aC (k:=70) (by kernel_rfl)
theorem ak8:tab Rb=some K4:=aB aC (k:=71) (by kernel_rfl)
theorem ak6:tab adh=some KY:=aB aC (k:=72) (by kernel_rfl)
theorem wH:tab Is=some K0:=aB aC (k:=73) (by kernel_rfl)
theorem Ev:tab adi=some KZ:=aB aC (k:=74) (by kernel_rfl)
theorem Xq:tab abI=some I8:=aB aC (k:=75) (by kernel_rfl)
theorem ajs:tab abR=some Jh:=aB aC (k:=76) (by kernel_rfl)
theorem ajo:tab abM=some Jc:=aB aC (k:=77) (by kernel_rfl)
theorem ajq:tab abP=some Je:=aB aC (k:=78) (by kernel_rfl)
theorem Xr:tab QT=some Jf:=aB aC (k:=79) (by kernel_rfl)
theorem Eu:tab abJ=some I9:=aB aC (k:=80) (by kernel_rfl)
theorem akC:tab Ra=some Kt:=aB aC (k:=81) (by kernel_rfl)
theorem ak9:tab Rc=some K5:=aB aC (k:=82) (by kernel_rfl)
theorem ala:tab adk=some K6:=aB aC (k:=83) (by kernel_rfl)
theorem ajm:tab abK=some Ja:=aB aC (k:=84) (by kernel_rfl)
theorem ajp:tab abN=some Jd:=aB aC (k:=85) (by kernel_rfl)
theorem ajr:tab abQ=some Jg:=aB aC (k:=86) (by kernel_rfl)
theorem ajK:tab ab4=some Jz:=aB aC (k:=87) (by kernel_rfl)
theorem ajI:tab QW=some Jx:=aB aC (k:=88) (by kernel_rfl)
theorem ajN:tab QY=some JC:=aB aC (k:=89) (by kernel_rfl)
theorem ajO:tab QZ=some JD:=aB aC (k:=90) (by kernel_rfl)
theorem ajM:tab QX=some JB:=aB aC (k:=91) (by kernel_rfl)
theorem ajC:tab Ip=some Jr:=aB aC (k:=92) (by kernel_rfl)
theorem ajF:tab QV=some Ju:=aB aC (k:=93) (by kernel_rfl)
theorem ajG:tab Iq=some Jv:=aB aC (k:=94) (by kernel_rfl)
theorem ajn:tab abL=some Jb:=aB aC (k:=95) (by kernel_rfl)
theorem ajL:tab ab5=some JA:=aB aC (k:=96) (by kernel_rfl)
theorem ajH:tab ab2=some Jw:=aB aC (k:=97) (by kernel_rfl)
theorem aji:tab abE=some I4:=aB aC (k:=98) (by kernel_rfl)
theorem ajE:tab ab1=some Jt:=aB aC (k:=99) (by kernel_rfl)
theorem ajJ:tab ab3=some Jy:=aB aC (k:=100) (by kernel_rfl)
theorem ajA:tab abY=some Jp:=aB aC (k:=101) (by kernel_rfl)
theorem ajS:tab ab9=some JH:=aB aC (k:=102) (by kernel_rfl)
theorem akv:tab acK=some Kl:=aB aC (k:=103) (by kernel_rfl)
theorem akd:tab acu=some J2:=aB aC (k:=104) (by kernel_rfl)
theorem akr:tab acF=some Kg:=aB aC (k:=105) (by kernel_rfl)
theorem aku:tab acJ=some Kk:=aB aC (k:=106) (by kernel_rfl)
theorem akt:tab acH=some Ki:=aB aC (k:=107) (by kernel_rfl)
theorem Xs:tab acI=some Kj:=aB aC (k:=108) (by kernel_rfl)
theorem akc:tab acs=some J1:=aB aC (k:=109) (by kernel_rfl)
theorem akk:tab acz=some J9:=aB aC (k:=110) (by kernel_rfl)
theorem akm:tab Cu=some Kb:=aB aC (k:=111) (by kernel_rfl)
theorem akf:tab acw=some J4:=aB aC (k:=112) (by kernel_rfl)
theorem ake:tab acv=some J3:=aB aC (k:=113) (by kernel_rfl)
theorem akb:tab acr=some J0:=aB aC (k:=114) (by kernel_rfl)
theorem akg:tab Q4=some J5:=aB aC (k:=115) (by kernel_rfl)
theorem akj:tab acy=some J8:=aB aC (k:=116) (by kernel_rfl)
theorem aki:tab acx=some J7:=aB aC (k:=117) (by kernel_rfl)
theorem akl:tab acA=some Ka:=aB aC (k:=118) (by kernel_rfl)
theorem akn:tab acB=some Kc:=aB aC (k:=119) (by kernel_rfl)
theorem akh:tab Q5=some J6:=aB aC (k:=120) (by kernel_rfl)
theorem akp:tab acD=some Ke:=aB aC (k:=121) (by kernel_rfl)
theorem ako:tab acC=some Kd:=aB aC (k:=122) (by kernel_rfl)
theorem aj2:tab aci=some JR:=aB aC (k:=123) (by kernel_rfl)
theorem alp:tab ady=some Ln:=aB aC (k:=124) (by kernel_rfl)
theorem alq:tab adz=some Lo:=aB aC (k:=125) (by kernel_rfl)
theorem alr:tab adA=some Lp:=aB aC (k:=126) (by kernel_rfl)
theorem aj9:tab acp=some JY:=aB aC (k:=127) (by kernel_rfl)
theorem aj8:tab Ct=some JX:=aB aC (k:=128) (by kernel_rfl)
theorem aj7:tab aco=some JW:=aB aC (k:=129) (by kernel_rfl)
theorem aj5:tab acm=some JU:=aB aC (k:=130) (by kernel_rfl)
theorem aka:tab acq=some JZ:=aB aC (k:=131) (by kernel_rfl)
theorem aj4:tab ack=some JT:=aB aC (k:=132) (by kernel_rfl)
theorem aj3:tab acj=some JS:=aB aC (k:=133) (by kernel_rfl)
theorem aj6:tab acn=some JV:=aB aC (k:=134) (by kernel_rfl)
theorem ajt:tab abS=some Ji:=aB aC (k:=135) (by kernel_rfl)
theorem ajv:tab abU=some Jk:=aB aC (k:=136) (by kernel_rfl)
theorem aju:tab abT=some Jj:=aB aC (k:=137) (by kernel_rfl)
theorem ajR:tab ab8=some JG:=aB aC (k:=138) (by kernel_rfl)
theorem aks:tab acG=some Kh:=aB aC (k:=139) (by kernel_rfl)
theorem akq:tab acE=some Kf:=aB aC (k:=140) (by kernel_rfl)
theorem ajW:tab ace=some JL:=aB aC (k:=141) (by kernel_rfl)
theorem ajX:tab Q0=some JM:=aB aC (k:=142) (by kernel_rfl)
theorem ajP:tab ab6=some JE:=aB aC (k:=143) (by kernel_rfl)
theorem caps:∀f cs,aa Oc f=some cs→(lF cs.args cs.res=none→aa ab f=some ⟨cs.args++cs.caps,cs.res,.dat⟩)∧∀ys,lF cs.args cs.res=some ys→eT R3 f=false∧D4 Tryz.prog f=true:=XL (l:=Oc) (sig:=ab) (P:=Tryz.prog) (pcs:=R3) (by kernel_rfl)
theorem clos:dt ctx:=⟨(fun f cs h=>(caps f cs h).1),fun f s h=>ahS (l:=ab) (P:=Tryz.prog) (by kernel_rfl) f s h⟩
theorem its:∀f cs ys,ctx.cap f=some cs→lF cs.args cs.res=some ys→tab f=none∧∃fn,ctx.P.funcs[f]?=some fn∧fn.body.isSome=true∧(fn.name== "runtime.NumGoroutine")=false:=fun f cs ys h hi=>⟨aa2 (l:=CE) (by rw[afs];exact((caps f cs h).2 ys hi).1),aDp ((caps f cs h).2 ys hi).2⟩
theorem aDe:∀f pc,tab f=some pc→∃fn s ids fr nh,ctx.P.funcs[f]?=some fn∧ctx.sig f=some s∧av {ctx with fr:=fr,nh:=nh} fn s ids=some pc:=
 QM (R:=fun f pc=>∃fn s ids fr nh,ctx.P.funcs[f]?=some fn∧ctx.sig f=some s∧av {ctx with fr:=fr,nh:=nh} fn s ids=some pc) (l:=CE)
  (ax ⟨Tryz.f6,(aa ab 6).getD default,[6,8,14,15,16,18],[12,13,17],[],Tryz.func6,rfl,amV⟩
  (ax ⟨Tryz.f25,(aa ab 25).getD default,[1,2,3,4,5,6],[0,7,8],[],Tryz.func25,rfl,amZ⟩
  (ax ⟨Tryz.f68,(aa ab 68).getD default,[0,24576,28672,32768,1,12289,2,12290,3,12291],[],[],Tryz.func68,rfl,amY⟩
  (ax ⟨Tryz.f69,(aa ab 69).getD default,[4,5,6,69638,73734,77830],[],[],Tryz.func69,rfl,am0⟩
  (ax ⟨Tryz.f27,(aa ab 27).getD default,[5,7,10,11,12],[],[],Tryz.func27,rfl,amG⟩
  (ax ⟨Tryz.f70,(aa ab 70).getD default,[5,7,10],[],[],Tryz.func70,rfl,amI⟩
  (ax ⟨Tryz.f20,(aa ab 20).getD default,[2,4,5,65541,69637,73733,77829,7,31,9,49,11,13],[],[],Tryz.func20,rfl,aoc⟩
  (ax ⟨Tryz.f54,(aa ab 54).getD default,[],[4],[],Tryz.func54,rfl,aoi⟩
  (ax ⟨Tryz.f32,(aa ab 32).getD default,[4,6],[8,9,10,11],[],Tryz.func32,rfl,al6⟩
  (ax ⟨Tryz.f57,(aa ab 57).getD default,[5,8,77832,10],[],[],Tryz.func57,rfl,al5⟩
  (ax ⟨Tryz.f34,(aa ab 34).getD default,[4,7,8,9],[10],[],Tryz.func34,rfl,al4⟩
  (ax ⟨Tryz.f82,(aa ab 82).getD default,[4,7,8,10,16394],[9,11,12,13,14],[],Tryz.func82,rfl,al9⟩
  (ax ⟨Tryz.f130,(aa ab 130).getD default,[2,3,4],[5],[],Tryz.func130,rfl,ama⟩
  (ax ⟨Tryz.f173,(aa ab 173).getD default,[2,3,5,6,8,10,90,139],[4,7,9,11,12,13,14,15,16],[],Tryz.func173,rfl,aog⟩
  (ax ⟨Tryz.f198,(aa ab 198).getD default,[2],[3],[],Tryz.func198,rfl,aof⟩
  (ax ⟨Tryz.f197,(aa ab 197).getD default,[],[4],[],Tryz.func197,rfl,aok⟩
  (ax ⟨Tryz.f217,(aa ab 217).getD default,[],[4,5],[],Tryz.func217,rfl,aoo⟩
  (ax ⟨Tryz.f170,(aa ab 170).getD default,[2],[4],[],Tryz.func170,rfl,an0⟩
  (ax ⟨Tryz.f146,(aa ab 146).getD default,[],[4],[],Tryz.func146,rfl,an4⟩
  (ax ⟨Tryz.f199,(aa ab 199).getD default,[2],[],[],Tryz.func199,rfl,aoh⟩
  (ax ⟨Tryz.f200,(aa ab 200).getD default,[3,6,8],[],[],Tryz.func200,rfl,aod⟩
  (ax ⟨Tryz.f131,(aa ab 131).getD default,[],[2,3,4,11],[],Tryz.func131,rfl,ang⟩
  (ax ⟨Tryz.f45,(aa ab 45).getD default,[],[4],[],Tryz.func45,rfl,aom⟩
  (ax ⟨Tryz.f103,(aa ab 103).getD default,[],[4,5],[],Tryz.func103,rfl,aor⟩
  (ax ⟨Tryz.f133,(aa ab 133).getD default,[4,10,53],[8,9,11,12,13,14,55,70],[],Tryz.func133,rfl,amB⟩
  (ax ⟨Tryz.f174,(aa ab 174).getD default,[4,9],[8],[],Tryz.func174,rfl,amE⟩
  (ax ⟨Tryz.f202,(aa ab 202).getD default,[],[3],[],Tryz.func202,rfl,amD⟩
  (ax ⟨Tryz.f201,(aa ab 201).getD default,[],[4],[],Tryz.func201,rfl,aol⟩
  (ax ⟨Tryz.f218,(aa ab 218).getD default,[],[4,5],[],Tryz.func218,rfl,aoq⟩
  (ax ⟨Tryz.f175,(aa ab 175).getD default,[4,11],[8,9],[],Tryz.func175,rfl,amC⟩
  (ax ⟨Tryz.f83,(aa ab 83).getD default,[3,6,8,10],[7,9,11,12],[],Tryz.func83,rfl,anf⟩
  (ax ⟨Tryz.f134,(aa ab 134).getD default,[2,3,4,12292,9],[5,6,7,8,10,11],[],Tryz.func134,rfl,ani⟩
  (ax ⟨Tryz.f177,(aa ab 177).getD default,[2],[3],[],Tryz.func177,rfl,anh⟩
  (ax ⟨Tryz.f176,(aa ab 176).getD default,[],[4,5],[],Tryz.func176,rfl,aop⟩
  (ax ⟨Tryz.f178,(aa ab 178).getD default,[1],[2,3],[],Tryz.func178,rfl,aoC⟩
  (ax ⟨Tryz.f203,(aa ab 203).getD default,[2,7,12295],[4,5],[],Tryz.func203,rfl,aoM⟩
  (ax ⟨Tryz.f204,(aa ab 204).getD default,[1,4,6,12294,9],[2,3,5,7,8,38,47,10,11,12],[],Tryz.func204,rfl,aoG⟩
  (ax ⟨Tryz.f219,(aa ab 219).getD default,[1],[2,3,12,20,4,5],[],Tryz.func219,rfl,aoJ⟩
  (ax ⟨Tryz.f223,(aa ab 223).getD default,[],[2],[],Tryz.func223,rfl,aoI⟩
  (ax ⟨Tryz.f221,(aa ab 221).getD default,[],[2,3,4,11],[],Tryz.func221,rfl,aoE⟩
  (ax ⟨Tryz.f220,(aa ab 220).getD default,[2],[4,8,13,17,21],[],Tryz.func220,rfl,aoO⟩
  (ax ⟨Tryz.f135,(aa ab 135).getD default,[2,4,7],[5,6,8],[],Tryz.func135,rfl,aoD⟩
  (ax ⟨Tryz.f179,(aa ab 179).getD default,[2,3,4,6,33,7,8,10,12298,12],[5,15,21,9,11],[],Tryz.func179,rfl,aoK⟩
  (ax ⟨Tryz.f205,(aa ab 205).getD default,[2,4],[5,6],[],Tryz.func205,rfl,aoL⟩
  (ax ⟨Tryz.f222,(aa ab 222).getD default,[2],[],[],Tryz.func222,rfl,aoP⟩
  (ax ⟨Tryz.f206,(aa ab 206).getD default,[4,5],[9,22,41,6,7,82,88,94],[],Tryz.func206,rfl,aoH⟩
  (ax ⟨Tryz.f224,(aa ab 224).getD default,[],[6,8,14,20,25],[],Tryz.func224,rfl,aoF⟩
  (ax ⟨Tryz.f228,(aa ab 228).getD default,[],[4,5,6,7],[],Tryz.func228,rfl,aoN⟩
  (ax ⟨Tryz.f153,(aa ab 153).getD default,[],[4,5,6,7,8,9,10,11,12,13],[],Tryz.func153,rfl,amm⟩
  (ax ⟨Tryz.f207,(aa ab 207).getD default,[6],[2,3,5,8],[],Tryz.func207,rfl,aoj⟩
  (ax ⟨Tryz.f56,(aa ab 56).getD default,[1],[2],[],Tryz.func56,rfl,al7⟩
  (ax ⟨Tryz.f81,(aa ab 81).getD default,[1,3,6,8],[2,4],[],Tryz.func81,rfl,aoe⟩
  (ax ⟨Tryz.f129,(aa ab 129).getD default,[],[2,3,4],[],Tryz.func129,rfl,aot⟩
  (ax ⟨Tryz.f80,(aa ab 80).getD default,[4,5,10],[8,9,15,39,58,74,11,12],[],Tryz.func80,rfl,aou⟩
  (ax ⟨Tryz.f89,(aa ab 89).getD default,[1,9],[2,3,4,5,6,7,10,11,12],[],Tryz.func89,rfl,anZ⟩
  (ax ⟨Tryz.f141,(aa ab 141).getD default,[1,2,3,4,6,16390,20486,24582,21,8,34,10,12298,16394,47],[],[],Tryz.func141,rfl,an7⟩
  (ax ⟨Tryz.f142,(aa ab 142).getD default,[],[6,7,8],[],Tryz.func142,rfl,an3⟩
  (ax ⟨Tryz.f184,(aa ab 184).getD default,[],[4],[],Tryz.func184,rfl,an6⟩
  (ax ⟨Tryz.f208,(aa ab 208).getD default,[],[2,3,4,5],[],Tryz.func208,rfl,an5⟩
  (ax ⟨Tryz.f209,(aa ab 209).getD default,[],[4],[],Tryz.func209,rfl,aon⟩
  (ax ⟨Tryz.f226,(aa ab 226).getD default,[],[4,5],[],Tryz.func226,rfl,aos⟩
  (ax ⟨Tryz.f143,(aa ab 143).getD default,[],[2],[],Tryz.func143,rfl,anV⟩
  (ax ⟨Tryz.f144,(aa ab 144).getD default,[],[3],[],Tryz.func144,rfl,anW⟩
  (ax ⟨Tryz.f145,(aa ab 145).getD default,[2,3],[4,6],[],Tryz.func145,rfl,an2⟩
  (ax ⟨Tryz.f185,(aa ab 185).getD default,[],[6,7,8],[],Tryz.func185,rfl,aoa⟩
  (ax ⟨Tryz.f147,(aa ab 147).getD default,[],[3],[],Tryz.func147,rfl,anX⟩
  (ax ⟨Tryz.f148,(aa ab 148).getD default,[],[3],[],Tryz.func148,rfl,anY⟩
  (ax ⟨Tryz.f149,(aa ab 149).getD default,[1,3,4,6,19,8,16392,36],[2],[],Tryz.func149,rfl,an8⟩
  (ax ⟨Tryz.f150,(aa ab 150).getD default,[1,4,6],[2,3],[],Tryz.func150,rfl,aob⟩
  (ax ⟨Tryz.f151,(aa ab 151).getD default,[1,4,6],[2],[],Tryz.func151,rfl,an9⟩
  (ax ⟨Tryz.f124,(aa ab 124).getD default,[2],[4],[],Tryz.func124,rfl,aoy⟩
  (ax ⟨Tryz.f125,(aa ab 125).getD default,[],[2],[],Tryz.func125,rfl,aoz⟩
  (ax ⟨Tryz.f126,(aa ab 126).getD default,[1],[2],[],Tryz.func126,rfl,aov⟩
  (ax ⟨Tryz.f127,(aa ab 127).getD default,[3,4],[6,7,13,16,24,33,8,9],[],Tryz.func127,rfl,aox⟩
  (ax ⟨Tryz.f169,(aa ab 169).getD default,[3],[4,5],[],Tryz.func169,rfl,aow⟩
  (ax ⟨Tryz.f195,(aa ab 195).getD default,[],[4,5,6,7,8,9],[],Tryz.func195,rfl,amn⟩
  (ax ⟨Tryz.f194,(aa ab 194).getD default,[],[2],[],Tryz.func194,rfl,amx⟩
  (ax ⟨Tryz.f212,(aa ab 212).getD default,[],[2,3,4,5,6,7,8,9],[],Tryz.func212,rfl,amr⟩
  (ax ⟨Tryz.f214,(aa ab 214).getD default,[],[4],[],Tryz.func214,rfl,amu⟩
  (ax ⟨Tryz.f227,(aa ab 227).getD default,[],[6,0,1],[],Tryz.func227,rfl,amv⟩
  (ax ⟨Tryz.f213,(aa ab 213).getD default,[],[6,7,8],[],Tryz.func213,rfl,amo⟩
  (ax ⟨Tryz.f163,(aa ab 163).getD default,[3,9],[6,7],[],Tryz.func163,rfl,an1⟩
  (ax ⟨Tryz.f128,(aa ab 128).getD default,[3],[6,7,8,2,9,10],[],Tryz.func128,rfl,aoA⟩
  (ax ⟨Tryz.f171,(aa ab 171).getD default,[3,9],[6,7,2],[],Tryz.func171,rfl,aoB⟩
  (ax ⟨Tryz.f172,(aa ab 172).getD default,[2,4,5],[6],[],Tryz.func172,rfl,amp⟩
  (ax ⟨Tryz.f196,(aa ab 196).getD default,[3,4,5],[6],[],Tryz.func196,rfl,amt⟩
  (ax ⟨Tryz.f216,(aa ab 216).getD default,[2],[4,5,6,7],[],Tryz.func216,rfl,amw⟩
  (ax ⟨Tryz.f71,(aa ab 71).getD default,[1],[2,3,4,27,32],[],Tryz.func71,rfl,amP⟩
  (ax ⟨Tryz.f119,(aa ab 119).getD default,[3,8],[6],[],Tryz.func119,rfl,amN⟩
  (ax ⟨Tryz.f120,(aa ab 120).getD default,[1,2,3],[13,18,24],[],Tryz.func120,rfl,amS⟩
  (ax ⟨Tryz.f118,(aa ab 118).getD default,[3,5],[6,7,11,20],[],Tryz.func118,rfl,amT⟩
  (ax ⟨Tryz.f121,(aa ab 121).getD default,[1],[2,3],[],Tryz.func121,rfl,amR⟩
  (ax ⟨Tryz.f76,(aa ab 76).getD default,[],[2,3,6],[],Tryz.func76,rfl,amH⟩
  (ax ⟨Tryz.f73,(aa ab 73).getD default,[2,4],[],[],Tryz.func73,rfl,amK⟩
  (ax ⟨Tryz.f122,(aa ab 122).getD default,[3,4,6],[7,8],[],Tryz.func122,rfl,amL⟩
  (ax ⟨Tryz.f168,(aa ab 168).getD default,[3],[6,7,8,9,1],[],Tryz.func168,rfl,amq⟩
  (ax ⟨Tryz.f74,(aa ab 74).getD default,[1,4,7],[2,3,5,8,63,66],[],Tryz.func74,rfl,amQ⟩
  (ax ⟨Tryz.f79,(aa ab 79).getD default,[1],[2,3],[],Tryz.func79,rfl,amM⟩
  (ax ⟨Tryz.f33,(aa ab 33).getD default,[1],[2,3,7,12],[],Tryz.func33,rfl,al8⟩
  (ax ⟨Tryz.f72,(aa ab 72).getD default,[2],[4,5],[],Tryz.func72,rfl,amJ⟩
  (ax ⟨Tryz.f75,(aa ab 75).getD default,[1,4,5,7,9,12],[2,3,6,10],[],Tryz.func75,rfl,amO⟩
  (ax ⟨Tryz.f30,(aa ab 30).getD default,[4,6],[8],[],Tryz.func30,rfl,amF⟩
  (ax ⟨Tryz.f26,(aa ab 26).getD default,[2,3],[4],[],Tryz.func26,rfl,amX⟩
  (ax ⟨Tryz.f43,(aa ab 43).getD default,[2,3],[4,5],[],Tryz.func43,rfl,anQ⟩
  (ax ⟨Tryz.f95,(aa ab 95).getD default,[1],[2,3,4],[],Tryz.func95,rfl,anv⟩
  (ax ⟨Tryz.f96,(aa ab 96).getD default,[1],[2],[],Tryz.func96,rfl,anL⟩
  (ax ⟨Tryz.f97,(aa ab 97).getD default,[1],[2,3],[],Tryz.func97,rfl,anP⟩
  (ax ⟨Tryz.f155,(aa ab 155).getD default,[1],[2],[],Tryz.func155,rfl,anN⟩
  (ax ⟨Tryz.f187,(aa ab 187).getD default,[3],[6,1,7],[],Tryz.func187,rfl,anO⟩
  (ax ⟨Tryz.f44,(aa ab 44).getD default,[1],[2,3],[],Tryz.func44,rfl,anu⟩
  (ax ⟨Tryz.f98,(aa ab 98).getD default,[1,5,44],[2,3,4,6,7],[],Tryz.func98,rfl,anD⟩
  (ax ⟨Tryz.f156,(aa ab 156).getD default,[],[4],[],Tryz.func156,rfl,anF⟩
  (ax ⟨Tryz.f188,(aa ab 188).getD default,[],[2,3,4],[],Tryz.func188,rfl,anx⟩
  (ax ⟨Tryz.f211,(aa ab 211).getD default,[],[2],[],Tryz.func211,rfl,anw⟩
  (ax ⟨Tryz.f189,(aa ab 189).getD default,[],[6,7],[],Tryz.func189,rfl,ant⟩
  (ax ⟨Tryz.f157,(aa ab 157).getD default,[2,3],[4,5],[],Tryz.func157,rfl,anz⟩
  (ax ⟨Tryz.f48,(aa ab 48).getD default,[],[6],[],Tryz.func48,rfl,anC⟩
  (ax ⟨Tryz.f190,(aa ab 190).getD default,[],[6,7],[],Tryz.func190,rfl,anB⟩
  (ax ⟨Tryz.f99,(aa ab 99).getD default,[1,4,44],[2,3,5,6],[],Tryz.func99,rfl,anE⟩
  (ax ⟨Tryz.f100,(aa ab 100).getD default,[1,3,24],[2,4,5],[],Tryz.func100,rfl,anG⟩
  (ax ⟨Tryz.f158,(aa ab 158).getD default,[1],[2,3,4],[],Tryz.func158,rfl,anA⟩
  (ax ⟨Tryz.f101,(aa ab 101).getD default,[1,4],[2,3,5],[],Tryz.func101,rfl,anI⟩
  (ax ⟨Tryz.f102,(aa ab 102).getD default,[1,4,6],[2,3,5],[],Tryz.func102,rfl,anH⟩
  (ax ⟨Tryz.f58,(aa ab 58).getD default,[2,3,10],[4,5,6,7,8,11],[],Tryz.func58,rfl,anj⟩
  (ax ⟨Tryz.f112,(aa ab 112).getD default,[2,3],[4,5,6,7,8,54,80,109,118,9,10],[],Tryz.func112,rfl,aoS⟩
  (ax ⟨Tryz.f161,(aa ab 161).getD default,[],[4],[],Tryz.func161,rfl,aoT⟩
  (ax ⟨Tryz.f162,(aa ab 162).getD default,[1,3],[2,8,19,40],[],Tryz.func162,rfl,aoU⟩
  (ax ⟨Tryz.f113,(aa ab 113).getD default,[3,4,7,11],[6,8,9,76,92,98],[],Tryz.func113,rfl,anr⟩
  (ax ⟨Tryz.f114,(aa ab 114).getD default,[],[6],[],Tryz.func114,rfl,anq⟩
  (ax ⟨Tryz.f164,(aa ab 164).getD default,[3,4,7,8],[6,9,10,66,103,113,11,140,149],[],Tryz.func164,rfl,anp⟩
  (ax ⟨Tryz.f191,(aa ab 191).getD default,[3],[6,7],[],Tryz.func191,rfl,ann⟩
  (ax ⟨Tryz.f192,(aa ab 192).getD default,[3],[6],[],Tryz.func192,rfl,ans⟩
  (ax ⟨Tryz.f115,(aa ab 115).getD default,[2,3,6],[4,5,7],[],Tryz.func115,rfl,anm⟩
  (ax ⟨Tryz.f165,(aa ab 165).getD default,[3,4,5],[6,7,8,9,65,80,100,111],[],Tryz.func165,rfl,anl⟩
  (ax ⟨Tryz.f116,(aa ab 116).getD default,[1,4,5],[2,3],[],Tryz.func116,rfl,ano⟩
  (ax ⟨Tryz.f167,(aa ab 167).getD default,[],[4,5,6],[],Tryz.func167,rfl,amy⟩
  (ax ⟨Tryz.f193,(aa ab 193).getD default,[],[2],[],Tryz.func193,rfl,amA⟩
  (ax ⟨Tryz.f166,(aa ab 166).getD default,[],[2,3,5],[],Tryz.func166,rfl,amz⟩
  (ax ⟨Tryz.f28,(aa ab 28).getD default,[2,4,6],[5],[],Tryz.func28,rfl,amW⟩
  (ax ⟨Tryz.f77,(aa ab 77).getD default,[2,77826,3,4,5,7,9],[6,8],[],Tryz.func77,rfl,anM⟩
  (ax ⟨Tryz.f123,(aa ab 123).getD default,[3,6],[7],[],Tryz.func123,rfl,anK⟩
  (ax ⟨Tryz.f29,(aa ab 29).getD default,[2,3],[4],[],Tryz.func29,rfl,am1⟩
  (ax ⟨Tryz.f78,(aa ab 78).getD default,[],[4],[],Tryz.func78,rfl,am2⟩
  (ax ⟨Tryz.f8,(aa ab 8).getD default,[5,7,12,16],[10,11,13,14,15,17,18],[],Tryz.func8,rfl,amU⟩
  (ax ⟨Tryz.f10,(aa ab 10).getD default,[6,8,14,77838,46,16,17],[12,13,15],[],Tryz.func10,rfl,am5⟩
  (ax ⟨Tryz.f37,(aa ab 37).getD default,[1,2,3],[0,4,6,7,8],[],Tryz.func37,rfl,am9⟩
  (ax ⟨Tryz.f86,(aa ab 86).getD default,[4,5,6,20486,24582,28678,32774,7,65543,69639,73735,77831],[],[],Tryz.func86,rfl,am7⟩
  (ax ⟨Tryz.f87,(aa ab 87).getD default,[4,8,14],[9,10,11,12,13,15],[],Tryz.func87,rfl,alX⟩
  (ax ⟨Tryz.f139,(aa ab 139).getD default,[11],[8,9,10],[],Tryz.func139,rfl,al3⟩
  (ax ⟨Tryz.f140,(aa ab 140).getD default,[4],[5,6,7,8],[],Tryz.func140,rfl,anR⟩
  (ax ⟨Tryz.f181,(aa ab 181).getD default,[],[2],[],Tryz.func181,rfl,anS⟩
  (ax ⟨Tryz.f182,(aa ab 182).getD default,[],[4,0,1],[],Tryz.func182,rfl,anT⟩
  (ax ⟨Tryz.f183,(aa ab 183).getD default,[4,5,6],[7,8],[],Tryz.func183,rfl,anU⟩
  (ax ⟨Tryz.f88,(aa ab 88).getD default,[7,9,10],[8],[],Tryz.func88,rfl,ana⟩
  (ax ⟨Tryz.f39,(aa ab 39).getD default,[5,7,10,11,12,14,17,20],[13,15,16,18],[],Tryz.func39,rfl,alW⟩
  (ax ⟨Tryz.f40,(aa ab 40).getD default,[5,7,10,12],[11],[],Tryz.func40,rfl,amd⟩
  (ax ⟨Tryz.f84,(aa ab 84).getD default,[4,6,8,9],[],[],Tryz.func84,rfl,amf⟩
  (ax ⟨Tryz.f85,(aa ab 85).getD default,[2,4,5,6],[],[],Tryz.func85,rfl,amg⟩
  (ax ⟨Tryz.f21,(aa ab 21).getD default,[3],[6],[],Tryz.func21,rfl,aoQ⟩
  (ax ⟨Tryz.f55,(aa ab 55).getD default,[2,5,7],[4],[],Tryz.func55,rfl,aoR⟩
  (ax ⟨Tryz.f137,(aa ab 137).getD default,[3,7],[6],[],Tryz.func137,rfl,amh⟩
  (ax ⟨Tryz.f136,(aa ab 136).getD default,[],[2,3,5,12,15],[],Tryz.func136,rfl,ame⟩
  (ax ⟨Tryz.f138,(aa ab 138).getD default,[2,9],[4,5,6,7,10,50,54],[],Tryz.func138,rfl,ami⟩
  (ax ⟨Tryz.f180,(aa ab 180).getD default,[2,7],[4,5],[],Tryz.func180,rfl,ank⟩
  (ax ⟨Tryz.f91,(aa ab 91).getD default,[],[8,9,10],[],Tryz.func91,rfl,alZ⟩
  (ax ⟨Tryz.f41,(aa ab 41).getD default,[],[10,11,12,13,14],[],Tryz.func41,rfl,anb⟩
  (ax ⟨Tryz.f93,(aa ab 93).getD default,[],[4],[],Tryz.func93,rfl,ane⟩
  (ax ⟨Tryz.f94,(aa ab 94).getD default,[],[6,7,8,9,10,11,12],[],Tryz.func94,rfl,anc⟩
  (ax ⟨Tryz.f154,(aa ab 154).getD default,[],[6,7,8,2,9,10,11,12,13,14,15,16,17,18],[],Tryz.func154,rfl,amj⟩
  (ax ⟨Tryz.f186,(aa ab 186).getD default,[],[2],[],Tryz.func186,rfl,amk⟩
  (ax ⟨Tryz.f210,(aa ab 210).getD default,[],[2,0],[],Tryz.func210,rfl,aml⟩
  (ax ⟨Tryz.f92,(aa ab 92).getD default,[6,7,14,16],[12,13,15,17],[],Tryz.func92,rfl,alY⟩
  (ax ⟨Tryz.f152,(aa ab 152).getD default,[4,5],[6,7,8,9,10,11,12],[],Tryz.func152,rfl,al0⟩
  (ax ⟨Tryz.f38,(aa ab 38).getD default,[2,3],[4],[],Tryz.func38,rfl,am8⟩
  (ax ⟨Tryz.f90,(aa ab 90).getD default,[1],[2],[],Tryz.func90,rfl,anJ⟩
  (ax ⟨Tryz.f11,(aa ab 11).getD default,[5,7,12,13],[10,11,14,15,16,17,18],[],Tryz.func11,rfl,am6⟩
  (ax ⟨Tryz.f12,(aa ab 12).getD default,[6,8,11,14,73742,26,31,15,16],[12,13,18],[],Tryz.func12,rfl,am3⟩
  (ax ⟨Tryz.f13,(aa ab 13).getD default,[6,8,14,15,16,17],[12,13],[],Tryz.func13,rfl,am4⟩
  trivial))))))))))))))))))))))))))))))))))))))))))))))))))))))))))))))))))))))))))))))))))))))))))))))))))))))))))))))))))))))))))))))))))))))))))))))))))))))))))))))))))))))))))))))))))
end Rm
set_option linter.unusedSimpArgs false
namespace Rm
open Go Go.Proofs Cx Go.RowKit Go.Lib
theorem axA:(Tryz.prog.info? 3).map (fun i=>(i.zero,i.size,i.bytes))=some (some (.int .i64 0),1,8):=by kernel_rfl
set_option maxHeartbeats 2000000 in
set_option maxRecDepth 100000 in
theorem auE (w:World):Calls Tryz.prog 225 #[.slice none 0 0,.int .i64 0] w fun e w'=>e=.returned (.slice none 0 0)∧w'=w:=by
 go_enter Tryz.func225,Tryz.ntmps225
 go_wp2
 go_ret
 exact⟨rfl,rfl⟩
set_option maxHeartbeats 2000000 in
set_option maxRecDepth 100000 in
theorem auD (n:Nat)(w:World)(h0:0<n)(h1:n≤4294967296):Calls Tryz.prog 225 #[.slice none 0 0,.int .i64 n] w fun e w'=>
 ∃v',e=.returned v'∧w'.ownsRow w.heap.size 3 1 v' 0 []∧Below w.heap.size w w':=by
 obtain⟨i0,hi,xB,uZ,hz2⟩:=info_parts axA;have hr:=run_append_nil_zeros w 52 3 52 3 i0 (.int .i64 0) .i64 .i64 Tryz.underlying52 Tryz.underlying3 hi xB n h0 (by rw[uZ];decide) (by omega) (by rw[hz2];omega);have hn:¬((n:Int)<0):=by omega
 have oz:(n:Int)>0:=by omega
 have hw:IntKind.i64.wrap (n:Int)=n:=by rw[IntKind.wrap_i64];omega
 have p5:IntKind.i64.wrap 0=0:=by decide
 have gn:=grownCap_ge w n 0 3;have hle:=grownCap_le_maxLen w n 0 3 (by unfold maxLen;omega);have hs:(Builtin.zeroCells #[Value.int IntKind.i64 0] n++Builtin.zeroCells #[Value.int IntKind.i64 0] (grownCap w n 0 3-n)).size=grownCap w n 0 3*1:=by
  rw[Array.size_append,size_zeroCells,size_zeroCells];simp;omega
 go_enter Tryz.func225,Tryz.ntmps225
 go_wp2_with (at_builtin;refine wpList_append_run _ rfl _ _ 52 3 rfl _ _ rfl rfl _ _ hr ?qc)
 go_ret
 refine⟨_,rfl,?_,?_⟩
 ·exact World.ownsRow.drew (World.ownsRow_made w _ _ (Nat.le_refl _) hle hs)
 ·exact((Below.refl _ w).alloc (Nat.le_refl _) _).drew
def G6 (ds:List D):Option D:=
 match ds with
 |[.list [],.v (.int .i64 n)]=>if 0≤n∧n≤4294967296 then some (.list []) else none
 |_=>none
theorem auC (ds:List D)(d:D)(h:G6 ds=some d):∃s,ctx.sig 225=some s∧Na ctx 225 s ds d:=by
 refine⟨_,rfl,fun _=>?_,fun shs obs hm=>by cases hm⟩;unfold G6 at h;split at h
 case h_2=>cases h
 rename_i n;split at h
 case isFalse=>cases h
 rename_i hn;cases h;obtain⟨k,rfl⟩:=Int.eq_ofNat_of_zero_le hn.1;intro σ w args aE hC ha;obtain⟨a1,a2,a3⟩:=ha;have h0:=a3 0 _ rfl;have h1:=a3 1 _ rfl;obtain⟨u,v,rfl⟩:∃u v,args=#[u,v]:=by
  have:args.size=2:=by simpa using a1
  match args,this with
  |⟨[u,v]⟩,_=>exact⟨u,v,rfl⟩
 simp only[List.getD_cons_zero,List.getD_cons_succ] at h0 h1;change Rep ctx.cap σ (.nils .bool) u (.list []) at h0;change Rep ctx.cap σ (.int .i64) v (.v (.int .i64 k)) at h1;have hu:u=.slice none 0 0:=by cases h0;rfl
 have hv:v=.int .i64 k:=by cases h1;rfl
 subst hu hv;by_cases hk:k=0
 ·subst hk;refine(auE w).mono fun e w' hh=>?_;obtain⟨rfl,rfl⟩:=hh;refine⟨_,σ,rfl,.refl σ,aE,.refl _ _,fun _ _ _ h=>.inl h,fun _ _ h=>.inl h,?_⟩;exact⟨[],[],rfl,⟨by simp,.inl ⟨rfl,rfl⟩⟩,⟨fun _=>undef,fun i x hx=>by simp at hx,fun i j u hi=>by simp at hi⟩,fun k hk=>by cases hk⟩
 ·refine(auD k w (by omega) (by omega)).mono fun e w' hh=>?_;obtain⟨v',rfl,bS,hb⟩:=hh;refine⟨v',σ,rfl,.refl σ,aE.below hb,hb,fun _ _ _ h=>.inl h,fun _ _ h=>.inl h,?_⟩;refine⟨[],[],rfl,bS,⟨fun _=>undef,fun i x hx=>by simp at hx,fun i j u hi=>by simp at hi⟩,fun k hk=>?_⟩;have bo:=(bS.lt k hk).1;refine⟨fun o=>?_,?_⟩
  ·cases hc:σ.c k o with
   |none=>rfl
   |some u=>have:=World.block_lt_of_cell? w (a:=⟨k,o,none⟩) (aE.c _ _ _ hc);simp at this;omega
  ·cases hc:σ.m k with
   |none=>rfl
   |some u=>rcases aE.m _ _ hc with⟨arr,clock,x,g1,_⟩|⟨_,g1⟩<;>(have:=(Array.getElem?_eq_some_iff.1 g1).1;omega)
def eM (day:Int):Int×Int×Int:=
 let n:=day+730425
 let e:=n/146097
 let r:=n%146097
 let y:=(r-r/1460+r/36524-r/146096)/365
 let r:=r-(365*y+y/4-y/100)
 let m:=(5*r+2)/153
 let dom:=r-(153*m+2)/5+1
 let month:=if 12<m+3 then m+3-12 else m+3
 (if month<3 then y+400*e+1 else y+400*e,month,dom)
def vt (rest feasts shut:List Int)(day:Int):Bool:=
 !rest.contains ((day+5)%7)&&(!feasts.contains (100*(eM day).2.1+(eM day).2.2)&& !shut.contains day)
def X8 (rest feasts shut:List Int)(a b:Int):List Int:=((List.range (b-a+1).toNat).map fun(k:Nat)=>a+k).filter (vt rest feasts shut)
def u9 (d:D):List Int:=d.l.map D.i
def X9 (ds:List D):List D:=
 let c:=(ds.getD 2 .none).deref
 (X8 (u9 (c.c 3)) (u9 (c.c 4)) (u9 (c.c 5)) (ds.getD 0 .none).deref.i (ds.getD 1 .none).deref.i).map fun d=>.tup [.int d]
def wG (r:D)(city:Int):Int:=if 0≤city∧city<(r.c 1).l.length then(((r.c 1).l.getD city.toNat .none).c 1).i else-1
def R8 (ds:List D):D:=
 let r:=ds.getD 0 .none
 let forum:=(ds.getD 1 .none).i
 let c:=ds.getD 2 .none
 let s:=(c.c 15).l.getD (c.c 19).i.toNat .none
 let who:=(s.c 2).i
 if who<0∨(r.c 3).l.length≤who∨forum<0∨(r.c 4).l.length≤forum then .list [] else
 let out:=[forum,wG r (s.c 7).i,wG r (c.c 10).i,wG r (c.c 9).i,wG r (((r.c 3).l.getD who.toNat .none).c 1).i]
 if(-1)∈out then .list [] else ints out
noncomputable def Yt:List (Nat×(aU→List D→Option D)):=[(225,fun _ ds=>G6 ds),(132,xN R4 R5 R8),(215,Ck CF 1000 1 X9)]
noncomputable def ext:Nat→Option (aU→List D→Option D):=aa Yt
theorem ahK:TabOK ctx tab ext:=by
 refine⟨clos,its,fun f pc _ h=>aDe f pc h,fun f g hg Φ hΦ fg ds d h=>?_⟩
 have:=QM (R:=fun f (g:aU→List D→Option D)=>∀Φ,cW ctx Φ→fM ctx Φ→∀ds d,g Φ ds=some d→(∀s,ctx.sig f=some s→Na ctx f s ds d)∧
  ∀cs ys,ctx.cap f=some cs→lF cs.args cs.res=some ys→∃xs,d=.list xs∧(∀x,x∈xs→∃ds',x=.tup ds'∧ds'.length=ys.length)∧ld ctx f cs.caps ys ds xs) (l:=Yt)
  ⟨fun Φ hΦ fg ds d h=>⟨fun s hs=>by obtain⟨s',h1,h2⟩:=auC ds d h;rw[hs] at h1;cases h1;exact h2,fun cs ys hc hi=>by cases hc⟩,
   fun Φ hΦ fg ds d h=>⟨fun s hs=>by cases hs;exact⟨fun _=>azM clos hΦ fg Tryz.func132 amb amc h,fun shs obs hm=>by cases hm⟩,fun cs ys hc hi=>by cases hc⟩,
   fun Φ hΦ fg ds d h=>⟨fun s hs=>(by cases hs),fun cs ys hc hi=>by
    cases hc;cases hi;exact axE clos hΦ fg Tryz.func215 aoV h rfl⟩,trivial⟩ f g hg
 exact this Φ hΦ fg ds d h
noncomputable abbrev T:cu:=cR tab ext
theorem ao.of_nsl {tab:Nat→Option PC}{ext:Nat→Option (aU→List D→Option D)}{f:Nat}{pa pb:PC}{spec:List D→D}{ds:List D}{ta tb:PT}(hx:ext f=some (xN pa pb spec))(hta:tree pa=ta)(htb:tree pb=tb)
 (h:(∃xs,xs≠[]∧spec ds=.list xs∧aI (cR tab ext) ta (kH ds) (fun x=>x=.ret (.list xs)))∨(spec ds=.list []∧aI (cR tab ext) tb (kH ds) (fun x=>x=.ret (.list [])))):ao (cR tab ext) f ds (spec ds):=by
 refine ao.of_ext hx ?_;rcases h with⟨xs,h1,h2,h3⟩|⟨h2,h3⟩
 ·obtain⟨x,rfl,n0,hn⟩:=M2 (c:=pa) (hta▸h3);refine⟨n0,fun n hle=>?_⟩;unfold xN;rw[if_pos (.inl ⟨n,xs,hn n hle,h1,h2⟩)]
 ·obtain⟨x,rfl,n0,hn⟩:=M2 (c:=pb) (htb▸h3);refine⟨n0,fun n hle=>?_⟩;unfold xN;rw[if_pos (.inr ⟨n,hn n hle,h2⟩)]
end Rm
namespace Rm
open Go Go.Proofs Cx
def dU (n:Nat)(p:Nat→Bool):Bool:=(List.range n).all p
theorem Xj {n:Nat}{p:Nat→Bool}(h:∀k,k<n→p k=true):dU n p=true:=List.all_eq_true.2 fun k hk=>h k (List.mem_range.1 hk)
theorem aiV {n k:Nat}{p:Nat→Bool}(hk:k<n)(h:p k=false):dU n p=false:=List.all_eq_false.2 ⟨k,List.mem_range.2 hk,by simp[h]⟩
theorem wA {n:Nat}{p:Nat→Bool}:dU n p=true↔∀k,k<n→p k=true:=⟨fun h k hk=>List.all_eq_true.1 h k (List.mem_range.2 hk),Xj⟩
def ff (n:Nat)(f:Nat→Int):Int:=(((List.range n).map f).find? fun x=>x !=0).getD 0
theorem OJ {n:Nat}{f:Nat→Int}(h:∀k,k<n→f k=0):ff n f=0:=by
 unfold ff;rw[List.find?_eq_none.2]
 ·rfl
 ·intro x hx;obtain⟨k,hk,rfl⟩:=List.mem_map.1 hx;simp[h k (List.mem_range.1 hk)]
theorem OI {n k:Nat}{f:Nat→Int}(hk:k<n)(hj:∀j,j<k→f j=0)(h:f k≠0):ff n f=f k:=by
 unfold ff;have e:List.range n=List.range k++k::(List.range' (k+1) (n-k-1)):=by
  rw[List.range_eq_range',List.range_eq_range',←List.range'_succ];have:=List.range'_append_1 (s:=0) (m:=k) (n:=n-k-1+1);rw[Nat.zero_add] at this;rw[this];congr 1;omega
 rw[e,List.map_append,List.find?_append,List.find?_eq_none.2,Option.none_or,List.map_cons,List.find?_cons_of_pos (by simpa using h)]
 ·rfl
 ·intro x hx;obtain⟨j,sB,rfl⟩:=List.mem_map.1 hx;simp[hj j (List.mem_range.1 sB)]
theorem YB {n:Nat}{f:Nat→Int}:ff n f=0↔∀k,k<n→f k=0:=by
 refine⟨fun h k=>?_,OJ⟩
 induction k using Nat.strongRecOn with
 |ind k ih=>
  intro hk;refine Classical.byContradiction fun aG=>?_;rw[OI hk (fun j hj=>ih j hj (by omega)) aG] at h;exact aG h
section
variable {T:cu} {id:Nat} {bu bt lr lo:List Nat} {a:PC} {ρ:Env} {Q:Out→Prop}
theorem fJ (N:Nat)(p:Nat→Bool)(str fa:Nat→List D)(h0:lr.map ρ.r=str 0∧lo.map ρ.o=fa 0)
 (step:∀k,k<N→p k=true→aI T (round id bu bt lr lo a) (ρ.put lr (str k) lo (fa k)) (eG ρ id bu bt lr lo (fun vr vo=>vr=str (k+1)∧vo=fa (k+1)) Q))
 (bad:∀k,k<N→p k=false→dU N p=false→aI T (round id bu bt lr lo a) (ρ.put lr (str k) lo (fa k)) (eG ρ id bu bt lr lo (fun _ _=>False) Q))
 (last:dU N p=true→aI T (round id bu bt lr lo a) (ρ.put lr (str N) lo (fa N)) (eG ρ id bu bt lr lo (fun _ _=>False) Q)):aP T (.block id bu bt (.loop lr lo a)) ρ Q:=
 .scan N (fun k=>p k=true) str fa h0 (fun k hk _ h=>step k hk h) (fun k hk _ h=>bad k hk (by simpa using h) (aiV hk (by simpa using h))) (fun h=>last (Xj h))
theorem nH (N:Nat)(f:Nat→Int)(str fa:Nat→List D)(h0:lr.map ρ.r=str 0∧lo.map ρ.o=fa 0)
 (step:∀k,k<N→f k=0→aI T (round id bu bt lr lo a) (ρ.put lr (str k) lo (fa k)) (eG ρ id bu bt lr lo (fun vr vo=>vr=str (k+1)∧vo=fa (k+1)) Q))
 (bad:∀k,k<N→f k≠0→ff N f=f k→aI T (round id bu bt lr lo a) (ρ.put lr (str k) lo (fa k)) (eG ρ id bu bt lr lo (fun _ _=>False) Q))
 (last:ff N f=0→aI T (round id bu bt lr lo a) (ρ.put lr (str N) lo (fa N)) (eG ρ id bu bt lr lo (fun _ _=>False) Q)):aP T (.block id bu bt (.loop lr lo a)) ρ Q:=
 .scan N (fun k=>f k=0) str fa h0 (fun k hk _ h=>step k hk h) (fun k hk hj h=>bad k hk h (OI hk hj h)) (fun h=>last (OJ h))
end
theorem bj {k n:Nat}(h:k<n)(hn:n≤4294967296):IntKind.i64.wrap ((k:Int)+1)=(k:Int)+1:=bN (by omega)
theorem tQ {k:Nat}(hn:k≤4294967296):IntKind.i64.wrap ((k:Int)-1)=(k:Int)-1:=bN (by omega)
def aF (i n:Int):Bool:=decide (0≤i)&&decide (i<n)
def wi (n a b:Int):Bool:=decide (a≤n)&&decide (n≤b)
theorem fu (i n:Int):ao T acP [.int i,.int n] (.bool (aF i n)):=by
 refine .of_tree rfl akF aFs ?_;simp[VP,aF];by_cases h:0≤i<;>simp[h]
theorem oX (i n:Int):ao T ac3 [.int i,.int n] (.bool (aF i n)):=by
 refine .of_tree rfl akT aFG ?_;simp[V2,aF];by_cases h:0≤i<;>simp[h]
theorem cJ (n a b:Int):ao T acy [.int n,.int a,.int b] (.bool (wi n a b)):=by
 refine .of_tree rfl akj aE1 ?_;simp[Vt,wi];by_cases h:a≤n<;>simp[h]
theorem idx_eq {α:Type}[DecidableEq α]{l:List α}{x z:α}{k:Nat}(hk:k<l.length)(hj:∀j,j<k→l.getD j z≠x)(h:¬l.getD k z≠x):x∈l∧l.findIdx (fun y=>decide (y=x))=k:=by
 have e:l[k]=x:=by simpa [hk] using h
 refine⟨e▸List.getElem_mem hk,(List.findIdx_eq hk).2 ⟨by simp[e],fun j sA=>?_⟩⟩;have fC:j<l.length:=by omega
 simpa [fC] using hj j sA
theorem aaz {α:Type}[DecidableEq α]{l:List α}{x z:α}(hj:∀j,j<l.length→l.getD j z≠x):¬x∈l:=fun hm=>by
 obtain⟨j,fC,rfl⟩:=List.getElem_of_mem hm;have:=hj j fC;simp[fC] at this
def sN {α:Type}[DecidableEq α](l:List α)(x:α):Int:=if x∈l then(l.findIdx (fun y=>decide (y=x)):Nat) else-1
def hasB {α:Type}[DecidableEq α](l:List α)(x:α):Bool:=l.any fun y=>decide (y=x)
theorem Bu {α:Type}[DecidableEq α]{l:List α}{x:α}:hasB l x=true↔x∈l:=by simp[hasB]
theorem Zm {α:Type}[DecidableEq α]{l:List α}{x:α}:hasB l x=false↔¬x∈l:=by rw[←Bu];simp
theorem aay {α:Type}[DecidableEq α](l:List α)(x:α):decide (0≤sN l x)=hasB l x:=by
 unfold sN;by_cases h:x∈l
 ·rw[Bu.2 h];simp[h]
 ·rw[Zm.2 h];simp[h]
@[simp] theorem aKx (a b:ByteArray):uc .eql a b=decide (a=b):=by
  simp only[uc,ByteArray.toList_eq];by_cases h:a=b
  ·subst h;simp
  ·rw[decide_eq_false h,beq_eq_false_iff_ne];intro e;have:a.data=b.data:=by rw[←Array.toList_inj];exact e
   exact h (by cases a;cases b;cases this;rfl)
@[simp] theorem aLu (ρ:Env)(x i:PE):PE.ev ρ (.sidx x i)=.v (.int .u8 ((PE.ev ρ x).s.data.getD (PE.ev ρ i).i.toNat 0).toNat):=_root_.id rfl
@[simp] theorem aLy (ρ:Env)(x i:PE):PE.ev ρ (.sok x i)=.v (.bool (decide (0≤(PE.ev ρ i).i∧(PE.ev ρ i).i<(PE.ev ρ x).s.size))):=_root_.id rfl
@[simp] theorem aOv (a:ByteArray):(str a).s=a:=_root_.id rfl
theorem aiw (l:List Int)(x:Int)(hl:l.length≤4294967296):ao T ade [ints l,.int x] (.int (sN l x)):=by
 refine .of_tree rfl ak3 aFP ?_;simp[Wb];refine .scan l.length (fun k=>l.getD k 0≠x) (fun k=>[.int 0,.int k]) (fun _=>[]) ?_ (fun k hk hj ho=>?_) (fun k hk hj ho=>?_) (fun hj=>?_)
 ·simp
 ·have hw:=bj hk hl;simp[hk] at ho;have dJ:¬x=l[k]:=fun e=>ho e.symm;simp[TG,DI,hk,hw,ints,ho,dJ]
 ·obtain⟨hm,he⟩:=idx_eq hk hj ho;simp[hk] at ho;simp[TG,DI,hk,ints,ho,sN,hm,he]
 ·have:=aaz hj;simp[TG,DI,sN,this,ints]
theorem qD (l:List Int)(x:Int)(hl:l.length≤4294967296):ao T ac7 [ints l,.int x] (.bool (hasB l x)):=by
 refine .of_tree rfl akY aFK ?_;simp[V6];refine⟨_,aiw l x hl,?_⟩;have:=aay l x;simp at this ⊢;exact this
theorem aix (l:List ByteArray)(x:ByteArray)(hl:l.length≤4294967296):ao T adf [strs l,str x] (.int (sN l x)):=by
 refine .of_tree rfl ak4 aFQ ?_;simp[Wc];refine .scan l.length (fun k=>l.getD k default≠x) (fun k=>[.int 0,.int k]) (fun _=>[]) ?_ (fun k hk hj ho=>?_) (fun k hk hj ho=>?_) (fun hj=>?_)
 ·simp
 ·have hw:=bj hk hl;simp[hk] at ho;have dJ:¬x=l[k]:=fun e=>ho e.symm;simp[TH,DJ,hk,hw,strs,ho,dJ]
 ·obtain⟨hm,he⟩:=idx_eq hk hj ho;simp[hk] at ho;simp[TH,DJ,hk,strs,ho,sN,hm,he]
 ·have:=aaz hj;simp[TH,DJ,sN,this,strs]
theorem ain (l:List ByteArray)(x:ByteArray)(hl:l.length≤4294967296):ao T ac8 [strs l,str x] (.bool (hasB l x)):=by
 refine .of_tree rfl akZ aFL ?_;simp[V7];refine⟨_,aix l x hl,?_⟩;have:=aay l x;simp at this ⊢;exact this
def nF (l:List Int)(a b:Int)(k:Nat):Bool:=wi (l.getD k 0) a b&&(k==0||decide (l.getD (k-1) 0<l.getD k 0))
def rising (l:List Int)(a b:Int):Bool:=dU l.length (nF l a b)
theorem DO (l:List Int)(a b:Int)(hl:l.length≤4294967296):ao T acV [ints l,.int a,.int b] (.bool (rising l a b)):=by
 refine .of_tree rfl akL aFy ?_;simp[VV];refine fJ l.length (nF l a b) (fun k=>[.bool false,.int k]) (fun _=>[]) ?_ (fun k hk ho=>?_) (fun k hk ho hb=>?_) (fun hj=>?_)
 ·simp
 ·have hw:=bj hk hl;simp[nF,wi,hk] at ho;obtain⟨⟨h1,h2⟩,h3⟩:=ho;have cD:¬l[k]<a:=by omega
  have kJ:¬b<l[k]:=by omega
  by_cases gB:0<k
  ·have bx:k-1<l.length:=by omega
   have cX:IntKind.i64.wrap ((k:Int)-1)=((k-1:Nat):Int):=by rw[tQ (by omega)];omega
   have eO:¬l[k]≤l[k-1]:=by
        rcases h3 with h3|h3
        ·omega
        ·simp[bx] at h3;omega
   simp[yG,tu,hk,hw,cX,ints,cD,kJ,eO,gB,bx]
  ·simp[yG,tu,hk,hw,ints,cD,kJ,gB]
 ·have hf:rising l a b=false:=hb;simp[nF,wi,hk] at ho;by_cases h1:l[k]<a
  ·simp[yG,tu,hk,ints,h1,hf]
  by_cases h2:b<l[k]
  ·simp[yG,tu,hk,ints,h1,h2,hf]
  have h3:=ho (by omega) (by omega);have gB:0<k:=by omega
  have bx:k-1<l.length:=by omega
  have cX:IntKind.i64.wrap ((k:Int)-1)=((k-1:Nat):Int):=by rw[tQ (by omega)];omega
  have eO:=h3.2;simp[bx] at eO;simp[yG,tu,hk,cX,ints,h1,h2,eO,gB,bx,hf]
 ·have hf:rising l a b=true:=hj;simp[yG,tu,hf]
def Cp (c:Int):Bool:=wi c 97 122||wi c 65 90
def vn (i:Nat)(c:Int):Bool:=Cp c||(i !=0&&(decide (c=95)||wi c 48 57))
def zE (s:ByteArray)(k:Nat):Int:=((s.data.toList.getD k 0).toNat:Nat)
def gS (s:ByteArray):Bool:=decide (1≤s.size)&&decide (s.size≤20)&&dU s.size (fun k=>vn k (zE s k))
theorem Ez {s:ByteArray}{k:Nat}(h:k<s.data.size):(s.data[k].toNat:Int)=zE s k:=by
 unfold zE;rw[List.getD_eq_getElem?_getD,List.getElem?_eq_getElem (by simpa using h)];rfl
theorem ahE {s:ByteArray}:s=⟨#[]⟩↔s.size=0:=by
 constructor
 ·rintro rfl;rfl
 ·intro h;cases s with|mk d=>congr;exact Array.eq_empty_of_size_eq_zero h
theorem aCm (s:ByteArray):ao T acQ [str s] (.bool (gS s)):=by
 refine .of_tree rfl akG aFt ?_;simp[VQ];by_cases h0:s=⟨#[]⟩
 ·have hn:gS s=false:=by simp[gS,ahE.1 h0]
  rw[hn];simp[h0]
 by_cases h1:(20:Int)<s.size
 ·have cD:¬s.size≤20:=by omega
  simp[h0,h1,gS,cD]
 have hz:1≤s.size:=by
  have:s.size≠0:=fun e=>h0 (ahE.2 e);omega
 have cD:s.size≤20:=by omega
 simp[h0,h1];refine⟨by omega,fJ s.size (fun k=>vn k (zE s k)) (fun k=>[.bool false,.int k]) (fun _=>[]) ?_ (fun k hk ho=>?_) (fun k hk ho hb=>?_) (fun hj=>?_)⟩
 ·simp
 ·have hw:=bj hk (by omega);have bo:k<s.data.size:=hk;have hg:=Ez bo;simp[vn,Cp,wi] at ho;simp[Tp,Dt,hk,bo,hw,hg];omega
 ·have bo:k<s.data.size:=hk;have hg:=Ez bo;have hn:gS s=false:=by simp[gS,hb]
  simp[vn,Cp,wi] at ho;simp[Tp,Dt,hk,bo,hg,hn];omega
 ·have hn:gS s=true:=by simp[gS,hj,hz,cD]
  have hd:s.data.size=s.size:=rfl;simp[Tp,Dt,hn,hd]
theorem agx (c:Int):ao T acv [.v (.int .u8 c)] (.bool (Cp c)):=by
 refine .of_tree rfl ake aEW ?_;simp[Vo,Cp,wi];by_cases h:97≤c<;>by_cases h2:c≤122<;>by_cases h3:65≤c<;>by_cases h4:c≤90<;>simp[h,h2,h3,h4]
theorem aBB (s:ByteArray):ao T acw [str s] (.bool (gS s)):=by
 refine .of_tree rfl akf aEX ?_;simp[Vp];by_cases h0:(s.size:Int)<1
 ·have hn:gS s=false:=by simp[gS];omega
  simp[h0,hn]
 by_cases h1:(20:Int)<s.size
 ·have hn:gS s=false:=by simp[gS];omega
  simp[h0,h1,hn]
 rw[if_neg (by omega)];refine fJ s.size (fun k=>vn k (zE s k)) (fun k=>[.bool false,.int k]) (fun _=>[]) ?_ (fun k hk ho=>?_) (fun k hk ho hb=>?_) (fun hj=>?_)
 ·simp
 ·have hw:=bj hk (by omega);have bo:k<s.data.size:=hk;have hg:=Ez bo;simp[vn,wi] at ho;simp[S4,C7,hk,bo,hw,hg];refine⟨_,agx _,?_⟩;simp[hw];intro g1 g2;exfalso;rcases ho with h|h
  ·rw[h] at g1;cases g1
  ·omega
 ·have bo:k<s.data.size:=hk;have hg:=Ez bo;have hn:gS s=false:=by simp[gS,hb]
  simp[vn,wi] at ho;simp[S4,C7,hk,bo,hg,hn];refine⟨_,agx _,?_⟩;simp[ho.1];omega
 ·have hn:gS s=true:=by simp[gS,hj];omega
  simp[S4,C7,hn]
end Rm
namespace Rm
open Go Go.Proofs Cx
theorem aBy (l:List ByteArray)(n:Nat)(x:ByteArray)(hn:n≤l.length)(hl:l.length≤4294967296):ao T acr [strs l,.int n,str x] (.bool (hasB (l.take n) x)):=by
 refine .of_tree rfl akb aET ?_;simp[Vl];refine .scan n (fun k=>l.getD k default≠x) (fun k=>[.bool false,.int k]) (fun _=>[]) ?_ (fun k hk hj ho=>?_) (fun k hk hj ho=>?_) (fun hj=>?_)
 ·simp
 ·have bo:k<l.length:=by omega
  have hw:=bj bo hl;simp[bo] at ho;simp[SZ,C5,hk,bo,hw,strs,ho]
 ·have bo:k<l.length:=by omega
  simp[bo] at ho;have hm:hasB (l.take n) x=true:=Bu.2 (by rw[←ho,List.mem_take_iff_getElem];exact⟨k,by omega,rfl⟩);simp[SZ,C5,hk,bo,strs,ho,hm]
 ·have hm:hasB (l.take n) x=false:=Zm.2 (fun h=>by
   rw[List.mem_take_iff_getElem] at h;obtain⟨k,hk,e⟩:=h;have:=hj k (by omega);simp[show k<l.length by omega] at this;exact this e)
  simp[SZ,C5,hm]
def gr (l:List ByteArray)(i:Nat):Int:=if gS (l.getD i default)=false then 2 else if hasB (l.take i) (l.getD i default) then 5 else 0
theorem Re (l:List ByteArray)(i n:Nat)(h:i<n):gr (l.take n) i=gr l i:=by
 unfold gr;rw[List.getD_eq_getElem?_getD,List.getElem?_take_of_lt h,List.take_take,Nat.min_eq_left (by omega),←List.getD_eq_getElem?_getD]
theorem CW (l:List ByteArray)(i:Nat)(hi:i<l.length)(hl:l.length≤4294967296):ao T Cu [strs l,.int i] (.int (gr l i)):=by
 refine .of_tree rfl akm aE4 ?_;simp[Vw,hi];refine⟨_,by simpa [strs,hi] using aBB l[i],?_⟩;unfold gr;rw[List.getD_eq_getElem?_getD,List.getElem?_eq_getElem hi,Option.getD_some];cases h1:gS l[i]<;>simp[h1];refine⟨_,by simpa [strs,hi] using aBy l i l[i] (by omega) hl,?_⟩;cases h2:hasB (l.take i) l[i]<;>simp[h2]
theorem ag2 (l:List ByteArray)(i:Nat)(hi:i<l.length)(hl:l.length≤4294967296):ao T acR [strs l,.int i] (.int (gr l i)):=by
 refine .of_tree rfl akH aFu ?_;simp[VR,hi];refine⟨_,by simpa [strs,hi] using aCm l[i],?_⟩;unfold gr;rw[List.getD_eq_getElem?_getD,List.getElem?_eq_getElem hi,Option.getD_some];cases h1:gS l[i]<;>simp[h1];refine⟨by omega,_,by simpa [strs,hi] using ain (l.take i) l[i] (by rw[List.length_take];omega),?_⟩;cases h2:hasB (l.take i) l[i]<;>simp[h2]
def jz (l:List ByteArray)(g:Nat→Bool)(i:Nat):Int:=if gr l i≠0 then gr l i else if g i then 0 else 1
def eB (l:List ByteArray)(xL:Int)(g:Nat→Bool):Int:=if xL<l.length then 6 else ff l.length (jz l g)
theorem Mu (l:List ByteArray)(xL:Int)(f:Nat)(caps:List D)(g:Nat→Bool)(hg:∀i:Nat,i<l.length→ao T f (.int i::caps) (.bool (g i)))(hl:l.length≤4294967296):
 ao T acO [strs l,.int xL,.clo f caps] (.int (eB l xL g)):=by
 refine .of_tree rfl akE aFr ?_;simp[VO,eB];by_cases h0:xL<l.length
 ·simp[h0];intro h;omega
 simp[h0];refine nH l.length (jz l g) (fun k=>[.int 0,.int k]) (fun _=>[]) ?_ (fun k hk ho=>?_) (fun k hk ho hb=>?_) (fun hj=>?_)
 ·simp
 ·have hw:=bj hk hl;have h1:gr l k=0:=by
   refine Classical.byContradiction fun h=>?_;unfold jz at ho;rw[if_pos h] at ho;exact h ho
  have h2:g k=true:=by
   unfold jz at ho;rw[if_neg (by simpa using h1)] at ho;cases h:g k with
   |true=>rfl
   |false=>rw[h] at ho;simp at ho
  simp[To,Ds,hk,hw];refine⟨_,ag2 l k hk hl,?_⟩;simp[h1];refine⟨_,_,⟨rfl,rfl⟩,_,hg k hk,?_⟩;simp[h2,hw]
 ·simp[To,Ds,hk,hb];refine⟨_,ag2 l k hk hl,?_⟩;unfold jz at ho ⊢;by_cases h1:gr l k=0
  ·simp[h1] at ho ⊢;refine⟨_,_,⟨rfl,rfl⟩,_,hg k hk,?_⟩;simp[ho]
  ·simp[h1]
 ·simp[To,Ds,hj]
theorem SD (l:List Int)(a b:Int)(hl:l.length≤4294967296):ao T acx [ints l,.int a,.int b] (.bool (rising l a b)):=by
 refine .of_tree rfl aki aE0 ?_;simp[Vs];refine fJ l.length (nF l a b) (fun k=>[.bool false,.int k]) (fun _=>[]) ?_ (fun k hk ho=>?_) (fun k hk ho hb=>?_) (fun hj=>?_)
 ·simp
 ·have hw:=bj hk hl;simp[nF,hk] at ho;simp[S8,Db,hk,hw,ints];refine⟨_,cJ _ _ _,?_⟩;by_cases gB:0<k
  ·have bx:k-1<l.length:=by omega
   have cX:IntKind.i64.wrap ((k:Int)-1)=((k-1:Nat):Int):=by rw[tQ (by omega)];omega
   have eO:¬l[k]≤l[k-1]:=by
        rcases ho.2 with h3|h3
        ·omega
        ·simp[bx] at h3;omega
   simp[ho.1,hk,hw,cX,eO,gB,bx]
  ·simp[ho.1,hk,hw,gB];omega
 ·have hf:rising l a b=false:=hb;simp[nF,hk] at ho;simp[S8,Db,hk,ints,hf];refine⟨_,cJ _ _ _,?_⟩;cases h1:wi l[k] a b with
  |false=>simp
  |true=>
   have h3:=ho h1;have gB:0<k:=by omega
   have bx:k-1<l.length:=by omega
   have cX:IntKind.i64.wrap ((k:Int)-1)=((k-1:Nat):Int):=by rw[tQ (by omega)];omega
   have eO:=h3.2;simp[bx] at eO;simp[hk,cX,eO,gB,bx]
 ·have hf:rising l a b=true:=hj;simp[S8,Db,hf]
theorem Uj (n:Int):n.tdiv 100=if 0≤n then n/100 else-((-n)/100):=by
 split
 ·rename_i h;exact Int.tdiv_eq_ediv_of_nonneg h
 ·rename_i h;have e:n.tdiv 100=-((-n).tdiv 100):=by rw[Int.neg_tdiv,Int.neg_neg]
  rw[e,Int.tdiv_eq_ediv_of_nonneg (by omega)]
theorem ahV (n:Int):n.tmod 100=n-100*n.tdiv 100:=Int.tmod_def n 100
theorem aid {n:Int}(h:aX n):IntKind.i64.wrap (n.tdiv 100)=n.tdiv 100:=bN (by rw[Uj];unfold aX at h;split<;>omega)
def mT (r:Realm)(c:City):Bool:=dU c.feasts.length (fun k=>wi ((c.feasts.getD k 0).tmod 100) 1 31)&&(decide (c.feasts.length≤60)&&decide (c.shut.length≤200)&&aF c.order r.orders.length&&aF c.currency r.currencies.length)&&
 (rising c.rest 0 6&&rising c.feasts 101 1231&&rising c.shut 0 100000)
theorem aCl (r:Realm)(c:City)(h1:c.rest.length≤4294967296)(h2:c.feasts.length≤4294967296)(h3:c.shut.length≤4294967296):ao T acN [bf r,fy c] (.bool (mT r c)):=by
 refine .of_tree rfl akD aFq ?_;simp[VN];refine fJ c.feasts.length (fun k=>wi ((c.feasts.getD k 0).tmod 100) 1 31) (fun k=>[.bool false,.int k]) (fun _=>[]) ?_ (fun k hk ho=>?_) (fun k hk ho hb=>?_) (fun hj=>?_)
 ·simp
 ·have hw:=bj hk h2;simp[wi,hk] at ho;have g1:¬(c.feasts[k].tmod 100<1):=by omega
  have g2:¬(31<c.feasts[k].tmod 100):=by omega
  simp[Tn,Dr,hk,hw,ints,g1,g2]
 ·have hf:mT r c=false:=by simp only[mT,hb,Bool.false_and]
  simp[wi,hk] at ho;simp[Tn,Dr,hk,ints,hf];by_cases g1:c.feasts[k].tmod 100<1
  ·simp[g1]
  ·have g2:=ho (by omega);simp[g1,g2]
 ·simp[Tn,Dr];by_cases g1:(c.feasts.length:Int)≤60
  case neg=>
   have hf:mT r c=false:=by
        have eN:decide (c.feasts.length≤60)=false:=decide_eq_false (by omega);simp only[mT,eN,Bool.false_and,Bool.and_false]
   have eN:(60:Int)<c.feasts.length:=by omega
   simp[g1,eN,hf]
  by_cases g2:(c.shut.length:Int)≤200
  case neg=>
   have hf:mT r c=false:=by
        have eN:decide (c.shut.length≤200)=false:=decide_eq_false (by omega);simp only[mT,eN,Bool.false_and,Bool.and_false]
   have mX:(200:Int)<c.shut.length:=by omega
   simp[g1,g2,mX,hf]
  have eN:¬(60:Int)<c.feasts.length:=by omega
  have mX:¬(200:Int)<c.shut.length:=by omega
  have hf:mT r c=(aF c.order r.orders.length&&aF c.currency r.currencies.length&&(rising c.rest 0 6&&rising c.feasts 101 1231&&rising c.shut 0 100000)):=by
   have e1:decide (c.feasts.length≤60)=true:=decide_eq_true (by omega);have e2:decide (c.shut.length≤200)=true:=decide_eq_true (by omega);simp only[mT,hj,e1,e2,Bool.true_and]
  rw[hf];simp[g1,g2,eN,mX];refine⟨_,fu _ _,?_⟩;simp;cases e1:aF c.order r.orders.length<;>simp;refine⟨_,fu _ _,?_⟩;simp;cases e2:aF c.currency r.currencies.length<;>simp;refine⟨_,DO _ _ _ h1,?_⟩;simp;cases e3:rising c.rest 0 6<;>simp;refine⟨_,DO _ _ _ h2,?_⟩;simp;cases e4:rising c.feasts 101 1231<;>simp;exact DO _ _ _ h3
def nS (r:Realm)(c:City):Bool:=(wi c.order 0 (r.orders.length-1)&&wi c.currency 0 (r.currencies.length-1)&&decide (c.feasts.length≤60)&&decide (c.shut.length≤200))&&
 dU c.feasts.length (fun k=>wi ((c.feasts.getD k 0).tdiv 100) 1 12&&wi ((c.feasts.getD k 0).tmod 100) 1 31)&&(rising c.rest 0 6&&rising c.feasts 0 2000&&rising c.shut 0 100000)
theorem qB (n:Nat)(h:n≤4294967296):IntKind.i64.wrap ((n:Int)-1)=(n:Int)-1:=bN (by omega)
theorem aBC (r:Realm)(c:City)(h1:c.rest.length≤4294967296)(h2:c.feasts.length≤4294967296)(h3:c.shut.length≤4294967296)(h4:r.orders.length≤4294967296)(h5:r.currencies.length≤4294967296)(hi:∀y,y∈c.feasts→aX y):
 ao T Q4 [bf r,fy c] (.bool (nS r c)):=by
 refine .of_tree rfl akg aEY ?_;simp[Vq,qB _ h4,qB _ h5];refine⟨_,cJ _ _ _,?_⟩;cases e1:wi c.order 0 (r.orders.length-1)
 case false=>simp[nS,e1]
 simp;refine⟨_,cJ _ _ _,?_⟩;cases e2:wi c.currency 0 (r.currencies.length-1)
 case false=>simp[nS,e1,e2]
 by_cases g1:(c.feasts.length:Int)≤60
 case neg=>
  have hf:nS r c=false:=by
   have eN:decide (c.feasts.length≤60)=false:=decide_eq_false (by omega);simp only[nS,eN,Bool.false_and,Bool.and_false]
  have eN:(60:Int)<c.feasts.length:=by omega
  simp[eN,hf]
 by_cases g2:(c.shut.length:Int)≤200
 case neg=>
  have hf:nS r c=false:=by
   have eN:decide (c.shut.length≤200)=false:=decide_eq_false (by omega);simp only[nS,eN,Bool.false_and,Bool.and_false]
  have mX:(200:Int)<c.shut.length:=by omega
  simp[mX,hf]
 have eN:¬(60:Int)<c.feasts.length:=by omega
 have mX:¬(200:Int)<c.shut.length:=by omega
 have hf:nS r c=(dU c.feasts.length (fun k=>wi ((c.feasts.getD k 0).tdiv 100) 1 12&&wi ((c.feasts.getD k 0).tmod 100) 1 31)&&(rising c.rest 0 6&&rising c.feasts 0 2000&&rising c.shut 0 100000)):=by
  have e3:decide (c.feasts.length≤60)=true:=decide_eq_true (by omega);have e4:decide (c.shut.length≤200)=true:=decide_eq_true (by omega);simp only[nS,e1,e2,e3,e4,Bool.true_and]
 rw[hf];simp[eN,mX];refine fJ c.feasts.length (fun k=>wi ((c.feasts.getD k 0).tdiv 100) 1 12&&wi ((c.feasts.getD k 0).tmod 100) 1 31) (fun k=>[.bool false,.int k]) (fun _=>[]) ?_ (fun k hk ho=>?_) (fun k hk ho hb=>?_) (fun hj=>?_)
 ·simp
 ·have hw:=bj hk h2;have hI:=hi _ (List.getElem_mem hk);have hq:IntKind.i64.wrap (c.feasts[k].tdiv 100)=c.feasts[k].tdiv 100:=aid hI;simp[hk] at ho;simp[S5,C8,hk,ints,hq];refine⟨_,cJ _ _ _,?_⟩;simp[ho.1,hk];refine⟨_,cJ _ _ _,?_⟩;simp[ho.2,hk,hw]
 ·have hI:=hi _ (List.getElem_mem hk);have hq:IntKind.i64.wrap (c.feasts[k].tdiv 100)=c.feasts[k].tdiv 100:=aid hI;simp[hk] at ho;simp only[List.getD_eq_getElem?_getD] at hb;rw[hb];simp[S5,C8,hk,ints,hq];refine⟨_,cJ _ _ _,?_⟩;cases e3:wi (c.feasts[k].tdiv 100) 1 12 with
  |false=>simp
  |true=>
   have:=ho e3;simp[hk];refine⟨_,cJ _ _ _,?_⟩;simp[this]
 ·simp only[List.getD_eq_getElem?_getD] at hj;rw[hj];simp[S5,C8];refine⟨_,SD _ _ _ h1,?_⟩;simp;cases e3:rising c.rest 0 6<;>simp;refine⟨_,SD _ _ _ h2,?_⟩;simp;cases e4:rising c.feasts 0 2000<;>simp;exact SD _ _ _ h3
theorem ao6 (r:Realm)(c:City):nS r c=mT r c:=by
 rw[Bool.eq_iff_iff];have bE:∀(i:Int) (n:Nat),(wi i 0 (n-1)=true)↔(aF i n=true):=by intro i n;simp[wi,aF];omega
 simp only[nS,mT,Bool.and_eq_true,decide_eq_true_eq,bE,rising,wA,nF];constructor
 ·rintro⟨⟨⟨⟨⟨a1,a2⟩,a3⟩,a4⟩,a5⟩,⟨a6,a7⟩,a8⟩;refine⟨⟨fun k hk=>(a5 k hk).2,⟨⟨⟨a3,a4⟩,a1⟩,a2⟩⟩,⟨a6,fun k hk=>?_⟩,a8⟩;have h1:=a5 k hk;have h2:=a7 k hk;simp[wi,ahV,Uj] at h1 h2 ⊢;split at h1<;>omega
 ·rintro⟨⟨a5,⟨⟨⟨a3,a4⟩,a1⟩,a2⟩⟩,⟨a6,a7⟩,a8⟩;refine⟨⟨⟨⟨⟨a1,a2⟩,a3⟩,a4⟩,fun k hk=>?_⟩,⟨a6,fun k hk=>?_⟩,a8⟩
  ·have h1:=a5 k hk;have h2:=a7 k hk;simp[wi,ahV,Uj] at h1 h2 ⊢;split at h1<;>(try split)<;>omega
  ·have h2:=a7 k hk;simp[wi] at h2 ⊢;omega
end Rm
namespace Rm
open Go Go.Proofs Cx
theorem yT {α β:Type}(f:α→β){l:List α}{k:Nat}(h:k<l.length):(l.take (k+1)).map f=(l.take k).map f++[f l[k]]:=by
 rw[List.take_succ_eq_append_getElem h,List.map_append];rfl
theorem my (i:Int)(n:Nat):aF i n=wi i 0 ((n:Int)-1):=by
 rw[Bool.eq_iff_iff];simp[wi,aF];omega
def wE (o:Order):List Int:=o.choices.map (·.ask)
def zj (o:Order):List Int:=o.rules.map (·.ask)
def oN (o:Order):Bool:=dU o.choices.length (fun k=>aF (o.choices.getD k default).by_ 5)&&(rising (wE o) 0 21&&rising (zj o) 0 21)
theorem aCo (o:Order)(h1:o.choices.length≤100000)(h2:o.rules.length≤100000):ao T acT [iY o] (.bool (oN o)):=by
 refine .of_tree rfl akJ aFw ?_;simp[VT];refine fJ o.choices.length (fun k=>aF (o.choices.getD k default).by_ 5) (fun k=>[.bool false,.none,.int k]) (fun k=>[ints ((o.choices.take k).map (·.ask))]) ?_ (fun k hk ho=>?_) (fun k hk ho hb=>?_) (fun hj=>?_)
 ·simp[ints]
 ·have hw:=bj hk (by omega);have hl:(o.choices.take k).length=k:=by rw[List.length_take];omega
  simp[hk] at ho;rw[yT _ hk];simp[Tq,Du,hk,hw,ints,hl];refine⟨by omega,_,fu _ _,?_⟩;simp[ho,hw]
 ·have hf:oN o=false:=by simp only[oN,hb,Bool.false_and]
  have hl:(o.choices.take k).length=k:=by rw[List.length_take];omega
  simp[hk] at ho;simp[Tq,Du,hk,ints,hl,hf];refine⟨by omega,_,fu _ _,?_⟩;simp[ho]
 ·have hf:oN o=(rising (wE o) 0 21&&rising (zj o) 0 21):=by simp only[oN,hj,Bool.true_and]
  rw[hf];simp[Tq,Du];refine aP.forRounds o.rules.length (fun k=>[.none,.int k]) (fun k=>[ints ((o.rules.take k).map (·.ask))]) ?_ (fun k hk=>?_) ?_
  ·simp[ints]
  ·have hw:=bj hk (by omega);have hl:(o.rules.take k).length=k:=by rw[List.length_take];omega
   rw[yT _ hk];simp[agT,Mn,hk,hw,ints,hl];omega
  ·simp[agT,Mn];refine⟨_,DO (wE o) _ _ (by simp[wE];omega),?_⟩;simp;cases e1:rising (wE o) 0 21<;>simp;exact DO (zj o) _ _ (by simp[zj];omega)
def vu (o:Order)(k:Nat):Bool:=wi (o.choices.getD k default).ask 0 21&&wi (o.choices.getD k default).by_ 0 4&&(k==0||decide ((o.choices.getD (k-1) default).ask<(o.choices.getD k default).ask))
def ye (o:Order)(k:Nat):Bool:=wi (o.rules.getD k default).ask 0 21&&(k==0||decide ((o.rules.getD (k-1) default).ask<(o.rules.getD k default).ask))
theorem aA0 (o:Order):(dU o.choices.length (vu o)&&dU o.rules.length (ye o))=oN o:=by
 rw[Bool.eq_iff_iff];simp only[oN,Bool.and_eq_true,rising,wA,wE,zj,List.length_map];have g1:∀k,k<o.choices.length→(nF (o.choices.map (·.ask)) 0 21 k=true↔wi (o.choices.getD k default).ask 0 21=true∧(k=0∨(o.choices.getD (k-1) default).ask<(o.choices.getD k default).ask)):=by
  intro k hk;have bx:k-1<o.choices.length:=by omega
  simp[nF,hk,bx]
 have g2:∀k,k<o.rules.length→(nF (o.rules.map (·.ask)) 0 21 k=true↔wi (o.rules.getD k default).ask 0 21=true∧(k=0∨(o.rules.getD (k-1) default).ask<(o.rules.getD k default).ask)):=by
  intro k hk;have bx:k-1<o.rules.length:=by omega
  simp[nF,hk,bx]
 constructor
 ·rintro⟨a,b⟩;refine⟨fun k hk=>?_,fun k hk=>(g1 k hk).2 ?_,fun k hk=>(g2 k hk).2 ?_⟩
  ·have:=a k hk;simp[vu,wi,aF] at this ⊢;omega
  ·have:=a k hk;simp[vu] at this ⊢;exact⟨this.1.1,this.2⟩
  ·have:=b k hk;simp[ye] at this ⊢;exact this
 ·rintro⟨c,a,b⟩;refine⟨fun k hk=>?_,fun k hk=>?_⟩
  ·have h1:=(g1 k hk).1 (a k hk);have h2:=c k hk;simp[vu,wi,aF] at h1 h2 ⊢;omega
  ·have h1:=(g2 k hk).1 (b k hk);simp[ye] at h1 ⊢;exact h1
theorem aBD (o:Order)(h1:o.choices.length≤100000)(h2:o.rules.length≤100000):ao T Q5 [iY o] (.bool (oN o)):=by
 rw[←aA0];refine .of_tree rfl akh aEZ ?_;simp[Vr];refine fJ o.choices.length (vu o) (fun k=>[.bool false,.int k]) (fun _=>[]) ?_ (fun k hk ho=>?_) (fun k hk ho hb=>?_) (fun hj=>?_)
 ·simp
 ·have hw:=bj hk (by omega);simp[vu,hk] at ho;simp[S6,C9,hk];refine⟨_,cJ _ _ _,?_⟩;simp[ho.1.1,hk];refine⟨_,cJ _ _ _,?_⟩;by_cases gB:0<k
  ·have bx:k-1<o.choices.length:=by omega
   have cX:IntKind.i64.wrap ((k:Int)-1)=((k-1:Nat):Int):=by rw[tQ (by omega)];omega
   have h3:¬o.choices[k].ask≤o.choices[k-1].ask:=by
        rcases ho.2 with h3|h3
        ·omega
        ·simp[bx] at h3;omega
   simp[ho.1.2,hk,hw,cX,h3,gB,bx]
  ·simp[ho.1.2,hk,hw,gB];omega
 ·rw[hb];simp[vu,hk] at ho;simp[S6,C9,hk];refine⟨_,cJ _ _ _,?_⟩;cases e1:wi o.choices[k].ask 0 21 with
  |false=>simp
  |true=>
   simp[hk];refine⟨_,cJ _ _ _,?_⟩;cases e2:wi o.choices[k].by_ 0 4 with
   |false=>simp
   |true=>
    have h3:=ho e1 e2;have gB:0<k:=by omega
    have bx:k-1<o.choices.length:=by omega
    have cX:IntKind.i64.wrap ((k:Int)-1)=((k-1:Nat):Int):=by rw[tQ (by omega)];omega
    have eO:=h3.2;simp[bx] at eO;simp[hk,cX,eO,gB,bx]
 ·rw[hj];simp[S6,C9];refine fJ o.rules.length (ye o) (fun k=>[.bool false,.int k]) (fun _=>[]) ?_ (fun k hk ho=>?_) (fun k hk ho hb=>?_) (fun hj=>?_)
  ·simp
  ·have hw:=bj hk (by omega);simp[ye,hk] at ho;simp[S7,Da,hk];refine⟨_,cJ _ _ _,?_⟩;by_cases gB:0<k
   ·have bx:k-1<o.rules.length:=by omega
    have cX:IntKind.i64.wrap ((k:Int)-1)=((k-1:Nat):Int):=by rw[tQ (by omega)];omega
    have h3:¬o.rules[k].ask≤o.rules[k-1].ask:=by
       rcases ho.2 with h3|h3
       ·omega
       ·simp[bx] at h3;omega
    simp[ho.1,hk,hw,cX,h3,gB,bx]
   ·simp[ho.1,hk,hw,gB];omega
  ·rw[hb];simp[ye,hk] at ho;simp[S7,Da,hk];refine⟨_,cJ _ _ _,?_⟩;cases e1:wi o.rules[k].ask 0 21 with
   |false=>simp
   |true=>
    have h3:=ho e1;have gB:0<k:=by omega
    have bx:k-1<o.rules.length:=by omega
    have cX:IntKind.i64.wrap ((k:Int)-1)=((k-1:Nat):Int):=by rw[tQ (by omega)];omega
    have eO:=h3.2;simp[bx] at eO;simp[hk,cX,eO,gB,bx]
  ·rw[hj];simp[S7,Da]
def eU (r:Realm):List ByteArray:=r.cities.map (·.name)
def eV (r:Realm):List ByteArray:=r.firms.map (·.name)
def ei (r:Realm):List ByteArray:=r.orders.map (·.name)
theorem aCn (r:Realm)(h1:r.cities.length≤100000)(h2:r.firms.length≤100000)(h3:r.orders.length≤100000):ao T acS [bf r] (.tup [strs (eU r),strs (eV r),strs (ei r)]):=by
 refine .of_tree rfl akI aFv ?_;simp[VS];refine aP.forRounds r.cities.length (fun k=>[.none,.int k]) (fun k=>[strs ((r.cities.take k).map (·.name))]) ?_ (fun k hk=>?_) ?_
 ·simp[strs]
 ·have hw:=bj hk (by omega);have hl:(r.cities.take k).length=k:=by rw[List.length_take];omega
  rw[yT _ hk];simp[agQ,Mk,hk,hw,strs,hl];omega
 ·simp[agQ,Mk];refine aP.forRounds r.firms.length (fun k=>[.none,.int k]) (fun k=>[strs ((r.firms.take k).map (·.name))]) ?_ (fun k hk=>?_) ?_
  ·simp[strs]
  ·have hw:=bj hk (by omega);have hl:(r.firms.take k).length=k:=by rw[List.length_take];omega
   rw[yT _ hk];simp[agR,Ml,hk,hw,strs,hl];omega
  ·simp[agR,Ml];refine aP.forRounds r.orders.length (fun k=>[.none,.int k]) (fun k=>[strs ((r.orders.take k).map (·.name))]) ?_ (fun k hk=>?_) ?_
   ·simp[strs]
   ·have hw:=bj hk (by omega);have hl:(r.orders.take k).length=k:=by rw[List.length_take];omega
    rw[yT _ hk];simp[agS,Mm,hk,hw,strs,hl];omega
   ·simp[agS,Mm,eU,eV,ei]
end Rm
namespace Rm
open Go Go.Proofs Cx
structure Small (r:Realm):Prop where
 cur:r.currencies.length≤1000
 cities:r.cities.length≤1000
 groups:r.groups.length≤1000
 firms:r.firms.length≤1000
 orders:r.orders.length≤1000
 us:r.usances.length≤1000
 rates:r.rates.length≤1000
 halts:r.halts.length≤1000
 city:∀c,c∈r.cities→c.rest.length≤1000∧c.feasts.length≤1000∧c.shut.length≤1000∧∀y,y∈c.feasts→aX y
 order:∀o,o∈r.orders→o.choices.length≤1000∧o.rules.length≤1000
 rate:∀x,x∈r.rates→aX x.num∧aX x.den
def kY (r:Realm)(k j:Nat):Bool:=(r.usances.getD j default).fr !=(r.usances.getD k default).fr||(r.usances.getD j default).to !=(r.usances.getD k default).to
def wg (r:Realm)(k:Nat):Int:=
 if(aF (r.usances.getD k default).fr r.cities.length&&aF (r.usances.getD k default).to r.cities.length&&wi (r.usances.getD k default).days 1 20000)=false then 1 else if dU k (kY r k) then 0 else 5
def tO (r:Realm):Int:=if 100<r.usances.length then 6 else ff r.usances.length (wg r)
theorem aCq (r:Realm)(h:Small r):ao T acW [bf r] (.int (tO r)):=by
 refine .of_tree rfl akM aFz ?_;have hu:=h.us;simp[VW,tO];by_cases h0:100<r.usances.length
 ·have eC:(100:Int)<r.usances.length:=by omega
  have ur:¬r.usances.length≤100:=by omega
  simp[h0,eC,ur]
 have eC:¬(100:Int)<r.usances.length:=by omega
 simp[h0,eC];refine nH r.usances.length (wg r) (fun k=>[.int 0,.int k]) (fun _=>[]) ?_ (fun k hk ho=>?_) (fun k hk ho hb=>?_) (fun hj=>?_)
 ·simp
 ·have hw:=bj hk (by omega);have ha:aF r.usances[k].fr r.cities.length=true∧aF r.usances[k].to r.cities.length=true∧wi r.usances[k].days 1 20000=true∧dU k (kY r k)=true:=by
   unfold wg at ho;simp only[List.getD_eq_getElem?_getD,List.getElem?_eq_getElem hk,Option.getD_some] at ho;cases e1:aF r.usances[k].fr r.cities.length<;>cases e2:aF r.usances[k].to r.cities.length<;>cases e3:wi r.usances[k].days 1 20000<;>cases e4:dU k (kY r k)<;>simp[e1,e2,e3,e4] at ho ⊢
  obtain⟨a1,a2,a3,a4⟩:=ha;simp[wi] at a3;have a5:¬r.usances[k].days<1:=by omega
  have a6:¬20000<r.usances[k].days:=by omega
  simp[Tt,Dx,hk];refine⟨_,fu _ _,?_⟩;simp[a1];refine⟨_,fu _ _,?_⟩;simp[a2,a5,a6];refine⟨by omega,fJ k (kY r k) (fun j=>[.int 0,.int j]) (fun _=>[]) ?_ (fun j hj dW=>?_) (fun j hj dW dh=>?_) (fun pQ=>?_)⟩
  ·simp
  ·have q8:=bj hj (by omega);have bF:j<r.usances.length:=by omega
   have hm:j<min k r.usances.length:=by omega
   simp[kY,bF,hk] at dW;simp[Mo,yH,hj,bF,hk,q8,hm];intro e e';rcases dW with h|h
   ·exact absurd e h
   ·exact absurd e' h
  ·rw[a4] at dh;cases dh
  ·simp[Mo,yH,hw];omega
 ·simp[Tt,Dx,hk,hb];refine⟨_,fu _ _,?_⟩;unfold wg at ho ⊢;simp only[List.getD_eq_getElem?_getD,List.getElem?_eq_getElem hk,Option.getD_some] at ho ⊢;cases e1:aF r.usances[k].fr r.cities.length
  ·simp
  simp;refine⟨_,fu _ _,?_⟩;cases e2:aF r.usances[k].to r.cities.length
  ·simp
  cases e3:wi r.usances[k].days 1 20000
  ·simp[wi] at e3;by_cases g:r.usances[k].days<1
   ·simp[g]
   ·simp[g,e3 (by omega)]
  have Oo:=e3;simp[wi] at Oo;have a5:¬r.usances[k].days<1:=by omega
  have a6:¬20000<r.usances[k].days:=by omega
  simp[e1,e2,e3] at ho;simp[a5,a6];refine⟨by omega,fJ k (kY r k) (fun j=>[.int 0,.int j]) (fun _=>[]) ?_ (fun j hj dW=>?_) (fun j hj dW dh=>?_) (fun pQ=>?_)⟩
  ·simp
  ·have q8:=bj hj (by omega);have bF:j<r.usances.length:=by omega
   have hm:j<min k r.usances.length:=by omega
   simp[kY,bF,hk] at dW;simp[Mo,yH,hj,bF,hk,q8,hm];intro e e';rcases dW with h|h
   ·exact absurd e h
   ·exact absurd e' h
  ·have bF:j<r.usances.length:=by omega
   have hm:j<min k r.usances.length:=by omega
   simp[kY,bF,hk] at dW;simp[Mo,yH,hj,bF,hk,ho,hm]
   first|exact dW|simp[dW]
  ·rw[pQ] at ho;cases ho
 ·simp[Tt,Dx,hj]
theorem aBI (r:Realm)(h:Small r):ao T acD [bf r] (.int (tO r)):=by
 refine .of_tree rfl akp aE7 ?_;have hu:=h.us;have hc:=h.cities;simp[Vz,tO];by_cases h0:100<r.usances.length
 ·have eC:(100:Int)<r.usances.length:=by omega
  have ur:¬r.usances.length≤100:=by omega
  simp[h0,eC,ur]
 have eC:¬(100:Int)<r.usances.length:=by omega
 simp[h0,eC];refine nH r.usances.length (wg r) (fun k=>[.int 0,.int k]) (fun _=>[]) ?_ (fun k hk ho=>?_) (fun k hk ho hb=>?_) (fun hj=>?_)
 ·simp
 ·have hw:=bj hk (by omega);have ha:aF r.usances[k].fr r.cities.length=true∧aF r.usances[k].to r.cities.length=true∧wi r.usances[k].days 1 20000=true∧dU k (kY r k)=true:=by
   unfold wg at ho;simp only[List.getD_eq_getElem?_getD,List.getElem?_eq_getElem hk,Option.getD_some] at ho;cases e1:aF r.usances[k].fr r.cities.length<;>cases e2:aF r.usances[k].to r.cities.length<;>cases e3:wi r.usances[k].days 1 20000<;>cases e4:dU k (kY r k)<;>simp[e1,e2,e3,e4] at ho ⊢
  obtain⟨a1,a2,a3,a4⟩:=ha;rw[my] at a1 a2;simp[Tg,Dk,hk,qB _ (show r.cities.length≤4294967296 by omega)];refine⟨_,cJ _ _ _,?_⟩;simp[a1,qB _ (show r.cities.length≤4294967296 by omega)];refine⟨_,cJ _ _ _,?_⟩;simp[a2];refine⟨_,cJ _ _ _,?_⟩;simp[a3];refine fJ k (kY r k) (fun j=>[.int 0,.int j]) (fun _=>[]) ?_ (fun j hj dW=>?_) (fun j hj dW dh=>?_) (fun pQ=>?_)
  ·simp
  ·have q8:=bj hj (by omega);have bF:j<r.usances.length:=by omega
   simp[kY,bF,hk] at dW;simp[Mg,yC,hj,bF,hk,q8];intro e e';rcases dW with h|h
   ·exact absurd e h
   ·exact absurd e' h
  ·rw[a4] at dh;cases dh
  ·simp[Mg,yC,hw]
 ·simp[Tg,Dk,hk,hb,qB _ (show r.cities.length≤4294967296 by omega)];refine⟨_,cJ _ _ _,?_⟩;unfold wg at ho ⊢;simp only[List.getD_eq_getElem?_getD,List.getElem?_eq_getElem hk,Option.getD_some,my] at ho ⊢;cases e1:wi r.usances[k].fr 0 ((r.cities.length:Int)-1)
  ·simp
  simp[qB _ (show r.cities.length≤4294967296 by omega)];refine⟨_,cJ _ _ _,?_⟩;cases e2:wi r.usances[k].to 0 ((r.cities.length:Int)-1)
  ·simp
  simp;refine⟨_,cJ _ _ _,?_⟩;cases e3:wi r.usances[k].days 1 20000
  ·simp
  simp[e1,e2,e3] at ho;simp;refine fJ k (kY r k) (fun j=>[.int 0,.int j]) (fun _=>[]) ?_ (fun j hj dW=>?_) (fun j hj dW dh=>?_) (fun pQ=>?_)
  ·simp
  ·have q8:=bj hj (by omega);have bF:j<r.usances.length:=by omega
   simp[kY,bF,hk] at dW;simp[Mg,yC,hj,bF,hk,q8];intro e e';rcases dW with h|h
   ·exact absurd e h
   ·exact absurd e' h
  ·have bF:j<r.usances.length:=by omega
   simp[kY,bF,hk] at dW;simp[Mg,yC,hj,bF,hk,ho]
   first|exact dW|simp[dW]
  ·rw[pQ] at ho;cases ho
 ·simp[Tg,Dk,hj]
def vT (r:Realm)(k:Nat):Bool:=aF (r.rates.getD k default).fr r.currencies.length&&aF (r.rates.getD k default).to r.currencies.length&&((r.rates.getD k default).fr !=(r.rates.getD k default).to)&&
 wi (r.rates.getD k default).num 1 1073741824&&wi (r.rates.getD k default).den 1 1073741824&&wi (r.rates.getD k default).since 0 100000
def sq (r:Realm)(k:Nat):Bool:=aF (r.halts.getD k default).order r.orders.length&&wi (r.halts.getD k default).fr 0 (r.halts.getD k default).to&&decide ((r.halts.getD k default).to≤100000)
def nE (r:Realm):Int:=if 100<r.rates.length then 6 else if dU r.rates.length (vT r)=false then 1 else if 20<r.halts.length then 6 else if dU r.halts.length (sq r) then 0 else 1
theorem H2 {n:Int}(h:aX n)(m:Int)(hm:0≤m∧m≤4294967296):aF (IntKind.i64.wrap (n-1)) m=wi n 1 m:=by
 unfold aX at h;by_cases e:n=-9223372036854775808
 ·subst e;have:IntKind.i64.wrap (-9223372036854775808-1)=9223372036854775807:=by decide
  rw[this,Bool.eq_iff_iff];simp[aF,wi];omega
 ·rw[bN (by omega),Bool.eq_iff_iff];simp[aF,wi];omega
theorem aaC (n:Int):aF n 100001=wi n 0 100000:=by rw[Bool.eq_iff_iff];simp[aF,wi];omega
theorem aCp (r:Realm)(h:Small r):ao T acU [bf r] (.int (nE r)):=by
 refine .of_tree rfl akK aFx ?_;have hu:=h.rates;have hh:=h.halts;simp[VU,nE];by_cases h0:100<r.rates.length
 ·have eC:(100:Int)<r.rates.length:=by omega
  have ur:¬r.rates.length≤100:=by omega
  simp[h0,eC,ur]
 have eC:¬(100:Int)<r.rates.length:=by omega
 simp[h0,eC];have key:∀k (hk:k<r.rates.length),∀{ρ:Env} {Q:Out→Prop},True:=fun _ _ _ _=>trivial;refine fJ r.rates.length (vT r) (fun k=>[.int 0,.int k]) (fun _=>[]) ?_ (fun k hk ho=>?_) (fun k hk ho hb=>?_) (fun hj=>?_)
 ·simp
 ·have hw:=bj hk (by omega);have hI:=h.rate _ (List.getElem_mem hk);simp[vT,hk] at ho;obtain⟨⟨⟨⟨⟨a1,a2⟩,a3⟩,a4⟩,a5⟩,a6⟩:=ho;simp[Tr,Dv,hk];refine⟨_,fu _ _,?_⟩;simp[a1];refine⟨_,fu _ _,?_⟩;simp[a2,a3];refine⟨_,fu _ _,?_⟩;simp[H2 hI.1,a4];refine⟨_,fu _ _,?_⟩;simp[H2 hI.2,a5];refine⟨_,fu _ _,?_⟩;simp[aaC,a6,hw]
 ·have hI:=h.rate _ (List.getElem_mem hk);rw[hb];simp[vT,hk] at ho;simp[Tr,Dv,hk];refine⟨_,fu _ _,?_⟩;cases e1:aF r.rates[k].fr r.currencies.length
  ·simp
  simp;refine⟨_,fu _ _,?_⟩;cases e2:aF r.rates[k].to r.currencies.length
  ·simp
  by_cases e3:r.rates[k].fr=r.rates[k].to
  ·simp[e3]
  simp[e3];refine⟨_,fu _ _,?_⟩;rw[H2 hI.1 _ (by omega)];cases e4:wi r.rates[k].num 1 1073741824
  ·simp
  simp;refine⟨_,fu _ _,?_⟩;rw[H2 hI.2 _ (by omega)];cases e5:wi r.rates[k].den 1 1073741824
  ·simp
  simp;refine⟨_,fu _ _,?_⟩;rw[aaC];simp[ho e1 e2 e3 e4 e5]
 ·rw[hj];simp[Tr,Dv];by_cases h1:20<r.halts.length
  ·have cD:(20:Int)<r.halts.length:=by omega
   have OT:¬r.halts.length≤20:=by omega
   simp[h1,cD,OT]
  have cD:¬(20:Int)<r.halts.length:=by omega
  simp[h1,cD];refine fJ r.halts.length (sq r) (fun k=>[.int 0,.int k]) (fun _=>[]) ?_ (fun k hk ho=>?_) (fun k hk ho hb=>?_) (fun hj=>?_)
  ·simp
  ·have hw:=bj hk (by omega);simp[sq,wi,hk] at ho;obtain⟨⟨a1,a2⟩,a3⟩:=ho;have b1:¬r.halts[k].fr<0:=by omega
   have b2:¬r.halts[k].to<r.halts[k].fr:=by omega
   have b3:¬100000<r.halts[k].to:=by omega
   simp[Ts,Dw,hk];refine⟨_,fu _ _,?_⟩;simp[a1,b1,b2,b3,hw]
  ·rw[hb];simp[sq,wi,hk] at ho;simp[Ts,Dw,hk];refine⟨_,fu _ _,?_⟩;cases e1:aF r.halts[k].order r.orders.length
   ·simp
   have:=ho e1;by_cases b1:r.halts[k].fr<0
   ·simp[b1]
   by_cases b2:r.halts[k].to<r.halts[k].fr
   ·simp[b1,b2]
   have b3:100000<r.halts[k].to:=this (by omega) (by omega);simp[b1,b2,b3]
  ·rw[hj];simp[Ts,Dw]
theorem aBH (r:Realm)(h:Small r):ao T acC [bf r] (.int (nE r)):=by
 refine .of_tree rfl ako aE6 ?_;have hu:=h.rates;have hh:=h.halts;have hc:=qB r.currencies.length (by have:=h.cur;omega);have HN:=qB r.orders.length (by have:=h.orders;omega);simp[Vy,nE];by_cases h0:100<r.rates.length
 ·have eC:(100:Int)<r.rates.length:=by omega
  have ur:¬r.rates.length≤100:=by omega
  simp[h0,eC,ur]
 have eC:¬(100:Int)<r.rates.length:=by omega
 simp[h0,eC];refine fJ r.rates.length (vT r) (fun k=>[.int 0,.int k]) (fun _=>[]) ?_ (fun k hk ho=>?_) (fun k hk ho hb=>?_) (fun hj=>?_)
 ·simp
 ·have hw:=bj hk (by omega);simp[vT,hk,my] at ho;obtain⟨⟨⟨⟨⟨a1,a2⟩,a3⟩,a4⟩,a5⟩,a6⟩:=ho;simp[Te,Di,hk,hc];refine⟨_,cJ _ _ _,?_⟩;simp[a1,hc];refine⟨_,cJ _ _ _,?_⟩;simp[a2,a3];refine⟨_,cJ _ _ _,?_⟩;simp[a4];refine⟨_,cJ _ _ _,?_⟩;simp[a5];refine⟨_,cJ _ _ _,?_⟩;simp[a6,hw]
 ·rw[hb];simp[vT,hk,my] at ho;simp[Te,Di,hk,hc];refine⟨_,cJ _ _ _,?_⟩;cases e1:wi r.rates[k].fr 0 ((r.currencies.length:Int)-1)
  ·simp
  simp[hc];refine⟨_,cJ _ _ _,?_⟩;cases e2:wi r.rates[k].to 0 ((r.currencies.length:Int)-1)
  ·simp
  by_cases e3:r.rates[k].fr=r.rates[k].to
  ·simp[e3]
  simp[e3];refine⟨_,cJ _ _ _,?_⟩;cases e4:wi r.rates[k].num 1 1073741824
  ·simp
  simp;refine⟨_,cJ _ _ _,?_⟩;cases e5:wi r.rates[k].den 1 1073741824
  ·simp
  simp;refine⟨_,cJ _ _ _,?_⟩;simp[ho e1 e2 e3 e4 e5]
 ·rw[hj];simp[Te,Di];by_cases h1:20<r.halts.length
  ·have cD:(20:Int)<r.halts.length:=by omega
   have OT:¬r.halts.length≤20:=by omega
   simp[h1,cD,OT]
  have cD:¬(20:Int)<r.halts.length:=by omega
  simp[h1,cD];refine fJ r.halts.length (sq r) (fun k=>[.int 0,.int k]) (fun _=>[]) ?_ (fun k hk ho=>?_) (fun k hk ho hb=>?_) (fun hj=>?_)
  ·simp
  ·have hw:=bj hk (by omega);simp[sq,hk,my] at ho;obtain⟨⟨a1,a2⟩,a3⟩:=ho;have b3:¬100000<r.halts[k].to:=by omega
   simp[Tf,Dj,hk,HN];refine⟨_,cJ _ _ _,?_⟩;simp[a1];refine⟨_,cJ _ _ _,?_⟩;simp[a2,b3,hw]
  ·rw[hb];simp[sq,hk,my] at ho;simp[Tf,Dj,hk,HN];refine⟨_,cJ _ _ _,?_⟩;cases e1:wi r.halts[k].order 0 ((r.orders.length:Int)-1)
   ·simp
   simp;refine⟨_,cJ _ _ _,?_⟩;cases e2:wi r.halts[k].fr 0 r.halts[k].to
   ·simp
   simp[ho e1 e2]
  ·rw[hj];simp[Tf,Dj]
end Rm
namespace Rm
open Go Go.Proofs Cx
def eH:List Int→Int
 |[]=>0
 |x::l=>if x=0 then eH l else x
theorem Ub:∀{l:List Int},eH l=0↔∀x,x∈l→x=0
 |[]=>by simp[eH]
 |x::l=>by
  simp only[eH,List.mem_cons,forall_eq_or_imp];by_cases h:x=0
  ·simp[h,Ub (l:=l)]
  ·simp[h]
def oe (r:Realm)(i:Nat):Bool:=aF (r.firms.getD i default).city r.cities.length&&aF (r.firms.getD i default).group r.groups.length
def nR (r:Realm)(i:Nat):Bool:=mT r (r.cities.getD i default)
def mI (r:Realm)(i:Nat):Bool:=oN (r.orders.getD i default)
def uq (r:Realm)(i:Nat):Bool:=aF (r.groups.getD i default).grade 10
def sm (r:Realm):Int:=if 20<r.groups.length then 6 else if dU r.groups.length (uq r) then 0 else 1
def jv (r:Realm):Int:=eH [eB r.currencies 8 (fun _=>true),eB (eU r) 40 (nR r),sm r,eB (eV r) 200 (oe r),eB (ei r) 20 (mI r),tO r,nE r]
theorem aoX (i:Int):ao T Q6 [.int i] (.bool true):=by
 refine .of_tree rfl akx aFj ?_;simp[VH]
theorem aoY (r:Realm)(h:Small r)(i:Nat)(hi:i<r.cities.length):ao T Q7 [.int i,.ref (bf r)] (.bool (nR r i)):=by
 refine .of_tree rfl aky aFk ?_;obtain⟨h1,h2,h3,h4⟩:=h.city _ (List.getElem_mem hi);simp[VI,hi,nR];exact aCl r r.cities[i] (by omega) (by omega) (by omega)
theorem aoZ (r:Realm)(i:Nat)(hi:i<r.firms.length):ao T Q8 [.int i,.ref (bf r)] (.bool (oe r i)):=by
 refine .of_tree rfl akz aFl ?_;simp[VJ,hi,oe];refine⟨_,fu _ _,?_⟩;simp[hi];cases e1:aF r.firms[i].city r.cities.length<;>simp;exact fu _ _
theorem ao0 (r:Realm)(h:Small r)(i:Nat)(hi:i<r.orders.length):ao T Q9 [.int i,.ref (bf r)] (.bool (mI r i)):=by
 refine .of_tree rfl akA aFm ?_;obtain⟨h1,h2⟩:=h.order _ (List.getElem_mem hi);simp[VK,hi,mI];exact aCo r.orders[i] (by omega) (by omega)
theorem TO (r:Realm)(h:Small r):ao T acL [bf r] (.int (jv r)):=by
 refine .of_tree rfl akw aFn ?_;have g1:=h.cur;have g2:=h.cities;have g3:=h.firms;have g4:=h.orders;have g5:=h.groups;simp[VG];refine⟨_,aCn r (by omega) (by omega) (by omega),?_⟩;simp;refine⟨_,Mu r.currencies 8 Q6 [] (fun _=>true) (fun i _=>aoX _) (by omega),?_⟩;unfold jv;generalize e1:eB r.currencies 8 (fun _=>true)=x1;by_cases z1:x1=0
 case neg=>simp[z1,eH]
 simp[z1,eH];refine⟨_,Mu (eU r) 40 Q7 [.ref (bf r)] (nR r) (fun i hi=>aoY r h i (by simpa [eU] using hi)) (by simp[eU];omega),?_⟩;generalize e2:eB (eU r) 40 (nR r)=x2;by_cases z2:x2=0
 case neg=>simp[z2]
 simp[z2];by_cases z3:20<r.groups.length
 ·have WV:(20:Int)<r.groups.length:=by omega
  simp[WV,sm,z3]
 have WV:¬(20:Int)<r.groups.length:=by omega
 simp[WV,sm,z3];refine fJ r.groups.length (uq r) (fun k=>[.int 0,.int k]) (fun _=>[]) ?_ (fun k hk ho=>?_) (fun k hk ho hb=>?_) (fun hj=>?_)
 ·simp
 ·have hw:=bj hk (by omega);simp[uq,hk] at ho;simp[Tk,Dp,hk];refine⟨_,fu _ _,?_⟩;simp[ho,hw]
 ·simp[uq,hk] at ho;rw[hb];simp[Tk,Dp,hk];refine⟨_,fu _ _,?_⟩;simp[ho]
 ·rw[hj];simp[Tk,Dp];refine⟨_,Mu (eV r) 200 Q8 [.ref (bf r)] (oe r) (fun i hi=>aoZ r i (by simpa [eV] using hi)) (by simp[eV];omega),?_⟩;generalize e4:eB (eV r) 200 (oe r)=x4;by_cases z4:x4=0
  case neg=>simp[z4]
  simp[z4];refine⟨_,Mu (ei r) 20 Q9 [.ref (bf r)] (mI r) (fun i hi=>ao0 r h i (by simpa [ei] using hi)) (by simp[ei];omega),?_⟩;generalize e5:eB (ei r) 20 (mI r)=x5;by_cases z5:x5=0
  case neg=>simp[z5]
  simp[z5];refine⟨_,aCq r h,?_⟩;generalize e6:tO r=x6;by_cases z6:x6=0
  case neg=>simp[z6]
  simp[z6];have e7:(if nE r=0 then 0 else nE r)=nE r:=by split<;>simp_all
  rw[e7];exact aCp r h
theorem aq3 (l:List ByteArray)(k:Nat):jz l (fun _=>true) k=gr l k:=by
 unfold jz;by_cases h:gr l k=0<;>simp[h]
theorem Bc {l:List ByteArray}{g:Nat→Bool}{k:Nat}(h:jz l g k=0):gr l k=0∧g k=true:=by
 unfold jz at h;by_cases h1:gr l k=0
 ·simp[h1] at h;exact⟨h1,h⟩
 ·simp[h1] at h
theorem OM {l:List ByteArray}{g:Nat→Bool}{k:Nat}(h:jz l g k≠0):(gr l k≠0∧jz l g k=gr l k)∨(gr l k=0∧g k=false∧jz l g k=1):=by
 unfold jz at h ⊢;by_cases h1:gr l k=0
 ·simp[h1] at h ⊢;simp[h]
 ·simp[h1]
theorem aBE (r:Realm)(h:Small r):ao T acz [bf r] (.int (eH [eB r.currencies 8 (fun _=>true),eB (eU r) 40 (nR r)])):=by
 refine .of_tree rfl akk aE2 ?_;have g1:=h.cur;have g2:=h.cities;have g4:=h.orders;simp[Vu];unfold eB;by_cases z1:(8:Int)<r.currencies.length
 ·simp[z1,eH]
 simp[z1,eH];refine nH r.currencies.length (jz r.currencies (fun _=>true)) (fun k=>[.int 0,.int k]) (fun _=>[]) ?_ (fun k hk ho=>?_) (fun k hk ho hb=>?_) (fun hj=>?_)
 ·simp
 ·have hw:=bj hk (by omega);simp[S9,Dc,hk];refine⟨_,CW _ k hk (by omega),?_⟩;simp[(Bc ho).1,hw]
 ·rw[hb];simp[S9,Dc,hk,ho];rw[aq3];exact CW _ k hk (by omega)
 ·rw[hj];simp[S9,Dc];have hlen:(eU r).length=r.cities.length:=by simp[eU]
  rw[hlen];by_cases z2:(40:Int)<r.cities.length
  ·simp[z2]
  simp[z2];have key:∀k (hk:k<r.cities.length),((eU r).take k).length=k∧D.list (List.take k (List.map str (eU r))++[str r.cities[k].name])=strs ((eU r).take (k+1))∧
     ao T Cu [strs ((eU r).take (k+1)),.int k] (.int (gr (eU r) k))∧ao T Q4 [bf r,fy r.cities[k]] (.bool (nR r k)):=by
   intro k hk;have bo:k<(eU r).length:=by omega
   have hg:(eU r)[k]=r.cities[k].name:=by simp[eU]
   have hs:(eU r).take (k+1)=(eU r).take k++[(eU r)[k]]:=List.take_succ_eq_append_getElem bo;have hn:=CW ((eU r).take (k+1)) k (by rw[List.length_take];omega) (by rw[List.length_take];omega);rw[Re _ _ _ (by omega)] at hn;obtain⟨c1,c2,c3,c4⟩:=h.city _ (List.getElem_mem hk);have hc:=aBC r r.cities[k] (by omega) (by omega) (by omega) (by omega) (by omega) c4;rw[ao6] at hc;exact⟨by rw[List.length_take];omega,by rw[hs,hg];simp[strs],hn,by simpa [nR,hk] using hc⟩
  refine nH r.cities.length (jz (eU r) (nR r)) (fun k=>[.int 0,.none,.int k]) (fun k=>[strs ((eU r).take k)]) ?_ (fun k hk ho=>?_) (fun k hk ho hb=>?_) (fun hj=>?_)
  ·simp[strs]
  ·have hw:=bj hk (by omega);obtain⟨hl,dY,hn,hc⟩:=key k hk;obtain⟨o1,o2⟩:=Bc ho;rw[o1] at hn;rw[o2] at hc;simp[Ta,De,hk,hl,dY,aDb];refine⟨by omega,_,hn,?_⟩;simp[hk];refine⟨_,hc,?_⟩;simp[hw]
  ·rw[hb];obtain⟨hl,dY,hn,hc⟩:=key k hk;simp[Ta,De,hk,hl,dY,ho];refine⟨by omega,_,hn,?_⟩;rcases OM ho with⟨o1,o2⟩|⟨o1,o2,o3⟩
   ·simp[o1,o2]
   ·rw[o2] at hc;simp[o1,o3,hk];refine⟨_,hc,?_⟩;simp
  ·rw[hj];simp[Ta,De]
theorem aBF (r:Realm)(h:Small r):ao T acA [bf r] (.int (eH [sm r,eB (eV r) 200 (oe r)])):=by
 refine .of_tree rfl akl aE3 ?_;have g1:=h.groups;have g2:=h.firms;have g3:=h.cities;have w3:=qB r.cities.length (by omega);have w1:=qB r.groups.length (by omega);simp[Vv];by_cases z1:20<r.groups.length
 ·have WU:(20:Int)<r.groups.length:=by omega
  simp[WU,sm,z1,eH]
 have WU:¬(20:Int)<r.groups.length:=by omega
 simp[WU,sm,z1,eH];refine fJ r.groups.length (uq r) (fun k=>[.int 0,.int k]) (fun _=>[]) ?_ (fun k hk ho=>?_) (fun k hk ho hb=>?_) (fun hj=>?_)
 ·simp
 ·have hw:=bj hk (by omega);simp[uq,hk] at ho;have e:wi r.groups[k].grade 0 9=aF r.groups[k].grade 10:=by rw[Bool.eq_iff_iff];simp[wi,aF];omega
  simp[Tb,Df,hk];refine⟨_,cJ _ _ _,?_⟩;simp[e,ho,hw]
 ·simp[uq,hk] at ho;have e:wi r.groups[k].grade 0 9=aF r.groups[k].grade 10:=by rw[Bool.eq_iff_iff];simp[wi,aF];omega
  rw[hb];simp[Tb,Df,hk];refine⟨_,cJ _ _ _,?_⟩;simp[e,ho]
 ·rw[hj];simp[Tb,Df];unfold eB;have hlen:(eV r).length=r.firms.length:=by simp[eV]
  rw[hlen];by_cases z2:(200:Int)<r.firms.length
  ·simp[z2]
  simp[z2];have key:∀k (hk:k<r.firms.length),((eV r).take k).length=k∧D.list (List.take k (List.map str (eV r))++[str r.firms[k].name])=strs ((eV r).take (k+1))∧
     ao T Cu [strs ((eV r).take (k+1)),.int k] (.int (gr (eV r) k))∧oe r k=(wi r.firms[k].city 0 ((r.cities.length:Int)-1)&&wi r.firms[k].group 0 ((r.groups.length:Int)-1)):=by
   intro k hk;have bo:k<(eV r).length:=by omega
   have hg:(eV r)[k]=r.firms[k].name:=by simp[eV]
   have hs:(eV r).take (k+1)=(eV r).take k++[(eV r)[k]]:=List.take_succ_eq_append_getElem bo;have hn:=CW ((eV r).take (k+1)) k (by rw[List.length_take];omega) (by rw[List.length_take];omega);rw[Re _ _ _ (by omega)] at hn;exact⟨by rw[List.length_take];omega,by rw[hs,hg];simp[strs],hn,by simp[oe,hk,my]⟩
  refine nH r.firms.length (jz (eV r) (oe r)) (fun k=>[.int 0,.none,.int k]) (fun k=>[strs ((eV r).take k)]) ?_ (fun k hk ho=>?_) (fun k hk ho hb=>?_) (fun hj=>?_)
  ·simp[strs]
  ·have hw:=bj hk (by omega);obtain⟨hl,dY,hn,hc⟩:=key k hk;obtain⟨o1,o2⟩:=Bc ho;rw[o1] at hn;rw[o2] at hc;have Zr:=Bool.and_eq_true_iff.1 hc.symm;simp[Tc,Dg,hk,hl,dY];refine⟨by omega,_,hn,?_⟩;simp[hk,w3];refine⟨_,cJ _ _ _,?_⟩;simp[Zr.1,hk,w1];refine⟨_,cJ _ _ _,?_⟩;simp[Zr.2,hw]
  ·rw[hb];obtain⟨hl,dY,hn,hc⟩:=key k hk;simp[Tc,Dg,hk,hl,dY,ho];refine⟨by omega,_,hn,?_⟩;rcases OM ho with⟨o1,o2⟩|⟨o1,o2,o3⟩
   ·simp[o1,o2]
   ·rw[o2] at hc;simp[o1,o3,hk,w3];refine⟨_,cJ _ _ _,?_⟩;cases e1:wi r.firms[k].city 0 ((r.cities.length:Int)-1)
    ·simp
    rw[e1,Bool.true_and] at hc;simp[hk,w1];refine⟨_,cJ _ _ _,?_⟩;simp[←hc]
  ·rw[hj];simp[Tc,Dg]
theorem aBG (r:Realm)(h:Small r):ao T acB [bf r] (.int (eB (ei r) 20 (mI r))):=by
 refine .of_tree rfl akn aE5 ?_;have g2:=h.orders;simp[Vx];unfold eB;have hlen:(ei r).length=r.orders.length:=by simp[ei]
 rw[hlen];by_cases z2:(20:Int)<r.orders.length
 ·simp[z2]
 simp[z2];have key:∀k (hk:k<r.orders.length),((ei r).take k).length=k∧D.list (List.take k (List.map str (ei r))++[str r.orders[k].name])=strs ((ei r).take (k+1))∧
  ao T Cu [strs ((ei r).take (k+1)),.int k] (.int (gr (ei r) k))∧ao T Q5 [iY r.orders[k]] (.bool (mI r k)):=by
  intro k hk;have bo:k<(ei r).length:=by omega
  have hg:(ei r)[k]=r.orders[k].name:=by simp[ei]
  have hs:(ei r).take (k+1)=(ei r).take k++[(ei r)[k]]:=List.take_succ_eq_append_getElem bo;have hn:=CW ((ei r).take (k+1)) k (by rw[List.length_take];omega) (by rw[List.length_take];omega);rw[Re _ _ _ (by omega)] at hn;obtain⟨c1,c2⟩:=h.order _ (List.getElem_mem hk);exact⟨by rw[List.length_take];omega,by rw[hs,hg];simp[strs],hn,by simpa [mI,hk] using aBD r.orders[k] (by omega) (by omega)⟩
 refine nH r.orders.length (jz (ei r) (mI r)) (fun k=>[.int 0,.none,.int k]) (fun k=>[strs ((ei r).take k)]) ?_ (fun k hk ho=>?_) (fun k hk ho hb=>?_) (fun hj=>?_)
 ·simp[strs]
 ·have hw:=bj hk (by omega);obtain⟨hl,dY,hn,hc⟩:=key k hk;obtain⟨o1,o2⟩:=Bc ho;rw[o1] at hn;rw[o2] at hc;simp[Td,Dh,hk,hl,dY];refine⟨by omega,_,hn,?_⟩;simp[hk];refine⟨_,hc,?_⟩;simp[hw]
 ·rw[hb];obtain⟨hl,dY,hn,hc⟩:=key k hk;simp[Td,Dh,hk,hl,dY,ho];refine⟨by omega,_,hn,?_⟩;rcases OM ho with⟨o1,o2⟩|⟨o1,o2,o3⟩
  ·simp[o1,o2]
  ·rw[o2] at hc;simp[o1,o3,hk];refine⟨_,hc,?_⟩;simp
 ·rw[hj];simp[Td,Dh]
theorem aBz (r:Realm)(h:Small r):ao T acs [bf r] (.int (jv r)):=by
 refine .of_tree rfl akc aEU ?_
 have e:jv r=eH [eH [eB r.currencies 8 (fun _=>true),eB (eU r) 40 (nR r)],eH [sm r,eB (eV r) 200 (oe r)],eB (ei r) 20 (mI r),tO r,nE r]:=by
  unfold jv;simp only[eH];split<;>(try split)<;>(try split)<;>(try split)<;>simp_all
 rw[e];simp[Vm];refine⟨_,aBE r h,?_⟩;have h1:=aBF r h;generalize eH [eB r.currencies 8 (fun _=>true),eB (eU r) 40 (nR r)]=x1 at*;generalize eH [sm r,eB (eV r) 200 (oe r)]=x2 at*;have h2:=aBG r h;generalize eB (ei r) 20 (mI r)=x3 at*;have h3:=aBI r h;generalize tO r=x4 at*;have h4:=aBH r h;generalize nE r=x5 at*;by_cases z1:x1=0
 case neg=>simp[z1,eH]
 simp[z1,eH];refine⟨_,h1,?_⟩;by_cases z2:x2=0
 case neg=>simp[z2]
 simp[z2];refine⟨_,h2,?_⟩;by_cases z3:x3=0
 case neg=>simp[z3]
 simp[z3];refine⟨_,h3,?_⟩;by_cases z4:x4=0
 case neg=>simp[z4]
 simp[z4];have e7:(if x5=0 then 0 else x5)=x5:=by split<;>simp_all
 rw[e7];exact h4
end Rm
namespace Rm
open Go Go.Proofs Cx
def jq:Nat→Tm→Int→Int
 |0,_,_=>-1
 |L+1,t,n=>t.args.foldl (fun m a=>if 0≤m then jq L a m else m) (n-1)
theorem size_le:∀(L:Nat) (t:Tm) (n:Int),0≤n→-1≤jq L t n∧jq L t n≤n
 |0,t,n,h=>by simp[jq];omega
 |L+1,t,n,h=>by
  have key:∀(l:List Tm) (m:Int),-1≤m→m≤n→-1≤l.foldl (fun m a=>if 0≤m then jq L a m else m) m∧l.foldl (fun m a=>if 0≤m then jq L a m else m) m≤n:=by
   intro l
   induction l with
   |nil=>intro m h1 h2;exact⟨h1,h2⟩
   |cons a l ih=>
    intro m h1 h2;simp only[List.foldl_cons];split
    ·rename_i hm;have:=size_le L a m hm;exact ih _ this.1 (by omega)
    ·exact ih _ h1 h2
  exact key _ _ (by omega) (by omega)
theorem ahD (L:Nat):∀(l:List Tm) (m:Int),m<0→l.foldl (fun m a=>if 0≤m then jq L a m else m) m=m
 |[],m,h=>rfl
 |a::l,m,h=>by simp only[List.foldl_cons];rw[if_neg (by omega)];exact ahD L l m h
theorem auk {α β:Type}(f:β→α→β)(b:β){l:List α}{k:Nat}(h:k<l.length):(l.take (k+1)).foldl f b=f ((l.take k).foldl f b) l[k]:=by
 rw[List.take_succ_eq_append_getElem h,List.foldl_append];rfl
theorem auj {α β:Type}(f:β→α→β)(b:β)(l:List α)(k:Nat):l.foldl f b=(l.drop k).foldl f ((l.take k).foldl f b):=by
 rw[←List.foldl_append,List.take_append_drop]
theorem _root_.Cx.Tm.OK.len {t:Tm}(h:t.OK):t.args.length≤9223372036854775807:=by cases h with|mk o n xs h1 h2 h3 h4=>exact h3
theorem _root_.Cx.Tm.OK.arg {t:Tm}(h:t.OK){a:Tm}(ha:a∈t.args):a.OK:=by cases h with|mk o n xs h1 h2 h3 h4=>exact h4 a ha
theorem agC:∀(L:Nat) (t:Tm) (n:Int),t.OK→0≤n→n≤1000→L≤1000→ao T acI [dx t,.int n,.int L] (.int (jq L t n))
 |0,t,n,ht,h0,h1,hL=>by
  refine .of_tree rfl Xs ahY ?_;simp[MY,jq]
 |L+1,t,n,ht,h0,h1,hL=>by
  refine .of_tree rfl Xs ahY ?_;have p5:IntKind.i64.wrap (n-1)=n-1:=bN (by omega);have hl:=ht.len;have kL:¬((L:Int)+1<1):=by omega
  simp[MY,p5,kL]
  let g:Nat→Int:=fun k=>(t.args.take k).foldl (fun m a=>if 0≤m then jq L a m else m) (n-1)
  have gb:∀k,-1≤g k∧g k≤1000:=by
   intro k;have:g k=jq (L+1) (.mk 0 0 (t.args.take k)) n:=rfl;have:=size_le (L+1) (.mk 0 0 (t.args.take k)) n h0;omega
  refine .scan t.args.length (fun k=>0≤g k) (fun k=>[.int (g k),.int k]) (fun _=>[]) ?_ (fun k hk hj ho=>?_) (fun k hk hj ho=>?_) (fun hj=>?_)
  ·simp[g,p5]
  ·have hw:IntKind.i64.wrap ((k:Int)+1)=(k:Int)+1:=bN (by omega);have HZ:IntKind.i64.wrap (L:Int)=(L:Int):=bN (by omega);have hg:g (k+1)=jq L t.args[k] (g k):=by
    show(t.args.take (k+1)).foldl _ _=_;rw[auk _ _ hk];show(if 0≤g k then _ else _)=_;rw[if_pos ho]
   rw[hg];have gR:=agC L t.args[k] (g k) (ht.arg (List.getElem_mem hk)) ho (gb k).2 (by omega);generalize g k=m at*;simp[Th,Dl,hk,ho,HZ];refine⟨_,gR,?_⟩;simp[hw]
  ·have hf:jq (L+1) t n=g k:=by
    show t.args.foldl _ _=_;rw[auj _ _ _ k];exact ahD L _ _ (by show g k<0;omega)
   rw[hf];generalize g k=m at*;simp[Th,Dl,hk,ho]
  ·have hf:jq (L+1) t n=g t.args.length:=by
    show t.args.foldl _ _=(t.args.take t.args.length).foldl _ _;rw[List.take_length]
   rw[hf];generalize g t.args.length=m at*;simp[Th,Dl]
theorem agB (t:Tm)(ht:t.OK):ao T acH [dx t] (.bool (decide (0≤jq 20 t 100))):=by
 refine .of_tree rfl akt aFc ?_;simp[VD];refine⟨_,agC 20 t 100 ht (by omega) (by omega) (by omega),?_⟩;simp
def pG (o:Order):Bool:=(decide (o.rules.length≤60)&&decide (o.choices.length≤60))&&dU o.rules.length (fun k=>decide (0≤jq 20 (o.rules.getD k default).term 100))
theorem agD (o:Order)(ho:o.OK):ao T acJ [iY o] (.bool (pG o)):=by
 refine .of_tree rfl aku aFd ?_;simp[VE];by_cases h1:(o.rules.length:Int)≤60
 case neg=>
  have cD:(60:Int)<o.rules.length:=by omega
  have hf:pG o=false:=by
   have:decide (o.rules.length≤60)=false:=decide_eq_false (by omega);simp only[pG,this,Bool.false_and]
  simp[cD,hf]
 by_cases h2:(o.choices.length:Int)≤60
 case neg=>
  have cD:(60:Int)<o.choices.length:=by omega
  have hf:pG o=false:=by
   have:decide (o.choices.length≤60)=false:=decide_eq_false (by omega);simp only[pG,this,Bool.false_and,Bool.and_false]
  simp[cD,hf]
 have cD:¬(60:Int)<o.rules.length:=by omega
 have kJ:¬(60:Int)<o.choices.length:=by omega
 have hf:pG o=dU o.rules.length (fun k=>decide (0≤jq 20 (o.rules.getD k default).term 100)):=by
  have e1:decide (o.rules.length≤60)=true:=decide_eq_true (by omega);have e2:decide (o.choices.length≤60)=true:=decide_eq_true (by omega);simp only[pG,e1,e2,Bool.true_and]
 rw[hf];simp[cD,kJ];have hO:=ho.2.2;refine fJ o.rules.length (fun k=>decide (0≤jq 20 (o.rules.getD k default).term 100)) (fun k=>[.bool false,.int k]) (fun _=>[]) ?_ (fun k hk ho=>?_) (fun k hk ho hb=>?_) (fun hj=>?_)
 ·simp
 ·have hw:=bj hk (by omega);simp[hk] at ho;simp[Ti,Dm,hk];refine⟨_,agB _ (hO _ (List.getElem_mem hk)).2,?_⟩;simp[ho,hw]
 ·simp only[List.getD_eq_getElem?_getD] at hb;rw[hb];simp[hk] at ho;simp[Ti,Dm,hk];refine⟨_,agB _ (hO _ (List.getElem_mem hk)).2,?_⟩;simp[ho]
 ·simp only[List.getD_eq_getElem?_getD] at hj;rw[hj];simp[Ti,Dm]
def wT (f:File):Bool:=decide ((f.signs.length:Int)≤50)&&decide ((f.alters.length:Int)≤10)&&decide ((f.acts.length:Int)≤110)&&decide ((f.facts.length:Int)≤220)
theorem aBO (f:File):ao T acF [cm f] (.bool (wT f)):=by
 refine .of_tree rfl akr aFa ?_;simp[VB,wT];by_cases h1:(f.signs.length:Int)≤50<;>by_cases h2:(f.alters.length:Int)≤10<;>by_cases h3:(f.acts.length:Int)≤110<;>by_cases h4:(f.facts.length:Int)≤220<;>
  simp[h1,h2,h3,h4]
end Rm
namespace Rm
open Go Go.Proofs Cx
def A7 (r:Realm)(k:Nat):Bool:=decide (((r.cities.getD k default).feasts.length:Int)≤70)&&decide (((r.cities.getD k default).shut.length:Int)≤210)&&decide (((r.cities.getD k default).rest.length:Int)≤8)
def A8 (r:Realm)(k:Nat):Bool:=decide (((r.orders.getD k default).choices.length:Int)≤40)&&decide (((r.orders.getD k default).rules.length:Int)≤40)
def GZ (r:Realm):Bool:=decide ((r.currencies.length:Int)<50)&&decide ((r.cities.length:Int)<50)&&decide ((r.groups.length:Int)<50)&&decide ((r.firms.length:Int)<210)&&decide ((r.orders.length:Int)<50)&&decide ((r.usances.length:Int)<110)&&decide ((r.rates.length:Int)<110)&&decide ((r.halts.length:Int)<50)
def od (r:Realm):Bool:=dU (min r.cities.length 50) (A7 r)&&dU (min r.orders.length 50) (A8 r)&&GZ r
theorem aBA (r:Realm)(hr:r.OK):ao T acu [bf r] (.bool (od r)):=by
 refine .of_tree rfl akd aEV ?_;simp[Vn];refine fJ (min r.cities.length 50) (A7 r) (fun k=>[.bool false,.int k]) (fun _=>[]) ?_ (fun k hk ho=>?_) (fun k hk ho hb=>?_) (fun hj=>?_)
 ·simp
 ·have bx:k<r.cities.length:=by omega
  have cn:k<50:=by omega
  have hw:=bj cn (by omega);simp[A7,bx] at ho;obtain⟨⟨a1,a2⟩,a3⟩:=ho;have b1:¬(70:Int)<r.cities[k].feasts.length:=by omega
  have b2:¬(210:Int)<r.cities[k].shut.length:=by omega
  have b3:¬(8:Int)<r.cities[k].rest.length:=by omega
  simp[C6,vU,bx,cn,hw,b1,b2,b3];omega
 ·have bx:k<r.cities.length:=by omega
  have cn:k<50:=by omega
  have hf:od r=false:=by simp only[od,hb,Bool.false_and]
  rw[hf];simp[A7,bx] at ho;by_cases b1:(70:Int)<r.cities[k].feasts.length
  ·simp[C6,vU,bx,cn,b1];omega
  by_cases b2:(210:Int)<r.cities[k].shut.length
  ·simp[C6,vU,bx,cn,b1,b2];omega
  have b3:(8:Int)<r.cities[k].rest.length:=by have:=ho (by omega) (by omega);omega
  simp[C6,vU,bx,cn,b1,b2,b3];omega
 ·have hn:¬((min r.cities.length 50:Nat):Int)<r.cities.length∨¬((min r.cities.length 50:Nat):Int)<50:=by omega
  simp[C6,vU];rw[if_neg (by omega)];refine fJ (min r.orders.length 50) (A8 r) (fun k=>[.bool false,.int k]) (fun _=>[]) ?_ (fun k hk ho=>?_) (fun k hk ho hb=>?_) (fun BJ=>?_)
  ·simp
  ·have bx:k<r.orders.length:=by omega
   have cn:k<50:=by omega
   have hw:=bj cn (by omega);simp[A8,bx] at ho;obtain⟨a1,a2⟩:=ho;have b1:¬(40:Int)<r.orders[k].choices.length:=by omega
   have b2:¬(40:Int)<r.orders[k].rules.length:=by omega
   simp[Mf,yB,bx,cn,hw,b1,b2];omega
  ·have bx:k<r.orders.length:=by omega
   have cn:k<50:=by omega
   have hf:od r=false:=by simp only[od,hb,Bool.false_and,Bool.and_false]
   rw[hf];simp[A8,bx] at ho;by_cases b1:(40:Int)<r.orders[k].choices.length
   ·simp[Mf,yB,bx,cn,b1];omega
   have b2:(40:Int)<r.orders[k].rules.length:=by have:=ho (by omega);omega
   simp[Mf,yB,bx,cn,b1,b2];omega
  ·have hf:od r=GZ r:=by simp only[od,hj,BJ,Bool.true_and]
   rw[hf];simp[Mf,yB];rw[if_neg (by omega)];unfold GZ;by_cases c1:(r.currencies.length:Int)<50<;>simp[c1];by_cases c2:(r.cities.length:Int)<50<;>simp[c2];by_cases c3:(r.groups.length:Int)<50<;>simp[c3];by_cases c4:(r.firms.length:Int)<210<;>simp[c4];by_cases c5:(r.orders.length:Int)<50<;>simp[c5];by_cases c6:(r.usances.length:Int)<110<;>simp[c6];by_cases c7:(r.rates.length:Int)<110<;>simp[c7]
theorem OE {r:Realm}(hr:r.OK)(h:od r=true):Small r:=by
 simp only[od,GZ,Bool.and_eq_true,decide_eq_true_eq,wA] at h;obtain⟨⟨h1,h2⟩,⟨⟨⟨⟨⟨⟨⟨c1,c2⟩,c3⟩,c4⟩,c5⟩,c6⟩,c7⟩,c8⟩⟩:=h;obtain⟨k1,⟨k2,k2'⟩,⟨k3,k3'⟩,⟨k4,k4'⟩,⟨k5,k5'⟩,⟨k6,k6'⟩,⟨k7,k7'⟩,⟨k8,k8'⟩⟩:=hr;refine⟨by omega,by omega,by omega,by omega,by omega,by omega,by omega,by omega,fun c hc=>?_,fun o ho=>?_,fun x hx=>?_⟩
 ·obtain⟨k,hk,rfl⟩:=List.getElem_of_mem hc;have:=h1 k (by omega);simp[A7,hk] at this;have:=k2' _ hc;exact⟨by omega,by omega,by omega,fun y hy=>this.2.2.2.1.2 y hy⟩
 ·obtain⟨k,hk,rfl⟩:=List.getElem_of_mem ho;have:=h2 k (by omega);simp[A8,hk] at this;omega
 ·have:=k7' x hx;exact⟨this.2.2.1,this.2.2.2.1⟩
def oc (r:Realm)(f:File):Bool:=(od r&&wT f)&&dU r.orders.length (fun k=>pG (r.orders.getD k default))
theorem aBP (r:Realm)(f:File)(hr:r.OK):ao T acK [bf r,cm f] (.bool (oc r f)):=by
 refine .of_tree rfl akv aFe ?_;simp[VF];refine⟨_,aBA r hr,?_⟩;cases e1:od r
 ·simp[oc,e1]
 simp;refine⟨_,aBO f,?_⟩;cases e2:wT f
 ·simp[oc,e1,e2]
 have hs:=OE hr e1;have ho:=hs.orders;have hf:oc r f=dU r.orders.length (fun k=>pG (r.orders.getD k default)):=by simp only[oc,e1,e2,Bool.true_and]
 rw[hf];simp;have hO:=hr.2.2.2.2.1.2;refine fJ r.orders.length (fun k=>pG (r.orders.getD k default)) (fun k=>[.bool false,.int k]) (fun _=>[]) ?_ (fun k hk ho=>?_) (fun k hk ho hb=>?_) (fun hj=>?_)
 ·simp
 ·have hw:=bj hk (by omega);simp[hk] at ho;simp[Tj,Dn,hk];refine⟨_,agD _ (hO _ (List.getElem_mem hk)),?_⟩;simp[ho,hw]
 ·simp only[List.getD_eq_getElem?_getD] at hb;rw[hb];simp[hk] at ho;simp[Tj,Dn,hk];refine⟨_,agD _ (hO _ (List.getElem_mem hk)),?_⟩;simp[ho]
 ·simp only[List.getD_eq_getElem?_getD] at hj;rw[hj];simp[Tj,Dn]
def uo (r:Realm)(f:File):Bool:=oc r f&&decide (jv r=0)
def nV (n:Int):Int:=min (max n (-1099511627776)) 1099511627776
theorem MM (n:Int):ao T adr [.int n] (.int (nV n)):=by
 refine .of_tree rfl alh aF3 ?_;simp[Wp,nV];by_cases h1:-1099511627776>n
 ·have:¬(1099511627776:Int)< -1099511627776:=by omega
  simp[h1];omega
 ·by_cases h2:(1099511627776:Int)<n
  ·simp[h1,h2];omega
  ·simp[h1,h2];omega
def lW (v:Int):Int×Bool:=if v<0∨19<v then(0,false) else if v<7 then(0,true) else(1,true)
theorem ahO (v:Int):ao T adn [.int v] (.tup [.int (lW v).1,.bool (lW v).2]):=by
 refine .of_tree rfl ald aFZ ?_;simp[Wl,lW];by_cases h1:v<0
 ·simp[h1]
 by_cases h2:19<v
 ·simp[h1,h2]
 by_cases h3:v<7
 ·simp[h1,h2,h3]
 ·simp[h1,h2,h3]
def Co (t:Tm):Int×Int:=
 if 0<t.args.length then(0,2) else if t.op=0 then(if nV t.n≠t.n then(0,3) else(0,0)) else if t.op=1 then(if t.n<0∨1<t.n then(0,3) else(1,0)) else if(lW t.n).2=false then(0,10) else((lW t.n).1,0)
theorem aDj (t:Tm):ao T ads [dx t] (.tup [.int (Co t).1,.int (Co t).2]):=by
 refine .of_tree rfl ali aF4 ?_;simp[Wq,Co];by_cases h0:0<t.args.length
 ·have eC:(0:Int)<t.args.length:=by omega
  simp[h0,eC]
 simp[h0];by_cases h1:t.op=0
 ·simp[h1];refine⟨_,MM _,?_⟩;by_cases h2:nV t.n=t.n<;>simp[h2]
 by_cases h2:t.op=1
 ·simp[h1,h2];by_cases h3:t.n<0<;>by_cases h4:1<t.n<;>simp[h3,h4]
 simp[h1,h2];refine⟨_,ahO _,?_⟩;cases h3:(lW t.n).2<;>simp[h3]
def eI (op:Int):List Int×Int:=
 if op=3 then([1],1) else if op=4∨op=5 then([1,1],1) else if op=6 then([1,-1,-1],-1) else if op=7 then([0,0],1) else if op=8 then([-1,-1],1) else([0,0],0)
def A3 (s:List Int×Int):D:=.agg [ints s.1,.int s.2]
@[simp] theorem aJg (s:List Int×Int):(A3 s).cells=[ints s.1,.int s.2]:=_root_.id rfl
@[simp] theorem aJe (s:List Int×Int):(A3 s).c 0=ints s.1:=_root_.id rfl
@[simp] theorem aJf (s:List Int×Int):(A3 s).c 1=.int s.2:=_root_.id rfl
@[simp] theorem aNg (s:List Int×Int):D.agg [ints s.1,.int s.2]=A3 s:=_root_.id rfl
@[simp] theorem aOl (x y:Int):tH (.int x) 0 (.int y)=.int y:=_root_.id rfl
theorem aDl (op:Int):ao T adw [.int op] (A3 (eI op)):=by
 refine .of_tree rfl aln aF8 ?_;simp[Wt,eI];by_cases h3:op=3
 ·simp[h3];rfl
 by_cases h4:op=4
 ·simp[h4];rfl
 by_cases h5:op=5
 ·simp[h5];rfl
 by_cases h6:op=6
 ·simp[h6];rfl
 by_cases h7:op=7
 ·simp[h7];rfl
 by_cases h8:op=8
 ·simp[h8];rfl
 simp[h3,h4,h5,h6,h7,h8];rfl
end Rm
