/-
  Shared texts of this claim.
-/
import Derived.Test.YtehiffddpebpkaaGreatDoorKAL
import Derived.Test.YtehiffddpebpkaaGreatDoorKAM
import Derived.Test.YtehiffddpebpkaaGreatDoorKAK
import Derived.Test.YtehiffddpebpkaaGreatDoorKAJ
import Derived.WalkKit
import Derived.WalkSpells
import Derived.Lib.SliceRun
import Derived.Lib.AppendZeros
import Derived.Laws.Strings
set_option linter.unusedVariables false
set_option maxRecDepth 100000
namespace Rm
open Go Go.Proofs Cx
def pcN:List Nat:=[4,15,58,122,17,61,26,72,38,36,95,100,52,110,109,183,53,113,111,112,119,116,186,54,114,185,184,220,115,55,117,188,187,189,221,222,245,249,247,246,118,190,223,248,224,250,278,285,225,41,50,43,106,178,105,75,145,146,200,230,231,253,147,148,149,201,150,151,152,153,154,173,174,175,176,215,239,120,191,273,284,272,161,177,216,217,240,121,62,131,196,132,65,133,197,20,19,22,16,59,123,124,125,192,226,60,126,193,227,252,228,194,68,229,127,128,195,129,130,5,24,66,138,139,140,141,142,67,143,198,199,69,144,70,25,71,6]
noncomputable def pcL:List (Nat×PC):=[(4,vU),(15,qK),(58,lD),(122,jZ),(17,mu),(61,q6),(26,qF),(72,ix),(38,tQ),(36,wz),(95,tH),(100,Bg),(52,ly),(110,iT),(109,bo),(183,bL),(53,iu),(113,tO),(111,j8),(112,mE),(119,nQ),(116,cV),(186,eF),(54,jU),(114,iS),(185,fm),(184,bC),(220,cA),(115,gw),(55,jV),(117,oo),(188,kg),(187,bY),(189,oa),(221,ke),(222,ou),(245,rl),(249,tZ),(247,jW),(246,jN),(118,qG),(190,eD),(223,dy),(248,uj),(224,kf),(250,fc),(278,j9),(285,nZ),(225,dW),(41,w7),(50,j5),(43,nW),(106,ma),(178,gk),(105,rh),(75,lP),(145,lC),(146,ox),(200,mi),(230,j1),(231,bK),(253,cM),(147,iN),(148,ij),(149,nV),(201,j6),(150,iw),(151,iy),(152,l8),(153,iK),(154,nM),(173,jT),(174,mG),(175,jQ),(176,od),(215,mc),(239,dq),(120,gn),(191,gA),(273,eZ),(284,fB),(272,kh),(161,jO),(177,kc),(216,nS),(217,ia),(240,iM),(121,ib),(62,eB),(131,jR),(196,j7),(132,gq),(65,qD),(133,gr),(197,lj),(20,j3),(19,uc),(22,tw),(16,xC),(59,xu),(123,xn),(124,wO),(125,xy),(192,xq),(226,tN),(60,qE),(126,nG),(193,qN),(227,tF),(252,nO),(228,og),(194,iI),(68,nJ),(229,oe),(127,qO),(128,oh),(195,gp),(129,mq),(130,nN),(5,vE),(24,q5),(66,qC),(138,AX),(139,ue),(140,q8),(141,rk),(142,om),(67,rj),(143,tz),(198,re),(199,AW),(69,tL),(144,qU),(70,qJ),(25,KJ),(71,KO),(6,fa)]
noncomputable def tab:Nat→Option PC:=aa pcL
theorem abJ:pcL.map (·.1)=pcN:=by kernel_rfl
theorem af:(pcL.map (·.1)).Nodup:=by rw[abJ];exact aZ (by kernel_rfl)
theorem UC:tab Kv=some qK:=ak af (k:=1) (by kernel_rfl)
theorem Qe:tab CM=some lD:=ak af (k:=2) (by kernel_rfl)
theorem Ml:tab yW=some jZ:=ak af (k:=3) (by kernel_rfl)
theorem N9:tab Cr=some mu:=ak af (k:=4) (by kernel_rfl)
theorem UQ:tab JS=some q6:=ak af (k:=5) (by kernel_rfl)
theorem T4:tab Ka=some qF:=ak af (k:=6) (by kernel_rfl)
theorem HN:tab xM=some ix:=ak af (k:=7) (by kernel_rfl)
theorem W8:tab PB=some tQ:=ak af (k:=8) (by kernel_rfl)
theorem Yt:tab Tg=some wz:=ak af (k:=9) (by kernel_rfl)
theorem Wi:tab N5=some tH:=ak af (k:=10) (by kernel_rfl)
theorem Z4:tab VX=some Bg:=ak af (k:=11) (by kernel_rfl)
theorem Ou:tab CQ=some ly:=ak af (k:=12) (by kernel_rfl)
theorem JH:tab xR=some iT:=ak af (k:=13) (by kernel_rfl)
theorem pk:tab gx=some bo:=ak af (k:=14) (by kernel_rfl)
theorem tj:tab jI=some bL:=ak af (k:=15) (by kernel_rfl)
theorem Jh:tab xG=some iu:=ak af (k:=16) (by kernel_rfl)
theorem W4:tab NZ=some tO:=ak af (k:=17) (by kernel_rfl)
theorem LV:tab zY=some j8:=ak af (k:=18) (by kernel_rfl)
theorem NW:tab B3=some mE:=ak af (k:=19) (by kernel_rfl)
theorem QO:tab EO=some nQ:=ak af (k:=20) (by kernel_rfl)
theorem wJ:tab mY=some cV:=ak af (k:=21) (by kernel_rfl)
theorem BI:tab sn=some eF:=ak af (k:=22) (by kernel_rfl)
theorem LZ:tab zO=some jU:=ak af (k:=23) (by kernel_rfl)
theorem Hi:tab xT=some iS:=ak af (k:=24) (by kernel_rfl)
theorem Du:tab l7=some fm:=ak af (k:=25) (by kernel_rfl)
theorem rY:tab iZ=some bC:=ak af (k:=26) (by kernel_rfl)
theorem vu:tab mK=some cA:=ak af (k:=27) (by kernel_rfl)
theorem GG:tab vI=some gw:=ak af (k:=28) (by kernel_rfl)
theorem LO:tab y5=some jV:=ak af (k:=29) (by kernel_rfl)
theorem Ra:tab FI=some oo:=ak af (k:=30) (by kernel_rfl)
theorem Lw:tab sJ=some kg:=ak af (k:=31) (by kernel_rfl)
theorem vn:tab kZ=some bY:=ak af (k:=32) (by kernel_rfl)
theorem Rs:tab G6=some oa:=ak af (k:=33) (by kernel_rfl)
theorem xZ:tab AF=some ke:=ak af (k:=34) (by kernel_rfl)
theorem QR:tab FU=some ou:=ak af (k:=35) (by kernel_rfl)
theorem TS:tab KI=some rl:=ak af (k:=36) (by kernel_rfl)
theorem U7:tab Qm=some tZ:=ak af (k:=37) (by kernel_rfl)
theorem Lx:tab zG=some jW:=ak af (k:=38) (by kernel_rfl)
theorem K9:tab AB=some jN:=ak af (k:=39) (by kernel_rfl)
theorem Uv:tab KW=some qG:=ak af (k:=40) (by kernel_rfl)
theorem Bq:tab kJ=some eD:=ak af (k:=41) (by kernel_rfl)
theorem yt:tab oC=some dy:=ak af (k:=42) (by kernel_rfl)
theorem WA:tab Qj=some uj:=ak af (k:=43) (by kernel_rfl)
theorem Mn:tab zU=some kf:=ak af (k:=44) (by kernel_rfl)
theorem D5:tab tP=some fc:=ak af (k:=45) (by kernel_rfl)
theorem Lv:tab zk=some j9:=ak af (k:=46) (by kernel_rfl)
theorem Rj:tab GL=some nZ:=ak af (k:=47) (by kernel_rfl)
theorem yX:tab qv=some dW:=ak af (k:=48) (by kernel_rfl)
theorem Yd:tab SL=some w7:=ak af (k:=49) (by kernel_rfl)
theorem Mv:tab zN=some j5:=ak af (k:=50) (by kernel_rfl)
theorem QX:tab GN=some nW:=ak af (k:=51) (by kernel_rfl)
theorem PY:tab B8=some ma:=ak af (k:=52) (by kernel_rfl)
theorem Gd:tab wg=some gk:=ak af (k:=53) (by kernel_rfl)
theorem EU:tab tE=some rh:=ak af (k:=54) (by kernel_rfl)
theorem Pj:tab CE=some lP:=ak af (k:=55) (by kernel_rfl)
theorem O1:tab Cv=some lC:=ak af (k:=56) (by kernel_rfl)
theorem Rb:tab GJ=some ox:=ak af (k:=57) (by kernel_rfl)
theorem On:tab CN=some mi:=ak af (k:=58) (by kernel_rfl)
theorem LM:tab zJ=some j1:=ak af (k:=59) (by kernel_rfl)
theorem sY:tab jv=some bK:=ak af (k:=60) (by kernel_rfl)
theorem xt:tab m0=some cM:=ak af (k:=61) (by kernel_rfl)
theorem Ig:tab qh=some iN:=ak af (k:=62) (by kernel_rfl)
theorem It:tab oO=some ij:=ak af (k:=63) (by kernel_rfl)
theorem RG:tab GC=some nV:=ak af (k:=64) (by kernel_rfl)
theorem L0:tab Ak=some j6:=ak af (k:=65) (by kernel_rfl)
theorem HJ:tab pZ=some iw:=ak af (k:=66) (by kernel_rfl)
theorem Jo:tab pO=some iy:=ak af (k:=67) (by kernel_rfl)
theorem Qs:tab B5=some l8:=ak af (k:=68) (by kernel_rfl)
theorem HB:tab x9=some iK:=ak af (k:=69) (by kernel_rfl)
theorem Qw:tab GP=some nM:=ak af (k:=70) (by kernel_rfl)
theorem Mb:tab sH=some jT:=ak af (k:=71) (by kernel_rfl)
theorem PK:tab jD=some mG:=ak af (k:=72) (by kernel_rfl)
theorem Lp:tab sK=some jQ:=ak af (k:=73) (by kernel_rfl)
theorem fX:tab qP=some od:=ak af (k:=74) (by kernel_rfl)
theorem mm:tab Cp=some mc:=ak af (k:=75) (by kernel_rfl)
theorem mU:tab oK=some dq:=ak af (k:=76) (by kernel_rfl)
theorem F9:tab vK=some gn:=ak af (k:=77) (by kernel_rfl)
theorem EM:tab vW=some gA:=ak af (k:=78) (by kernel_rfl)
theorem DA:tab tn=some eZ:=ak af (k:=79) (by kernel_rfl)
theorem rE:tab ll=some fB:=ak af (k:=80) (by kernel_rfl)
theorem jP:tab zq=some kh:=ak af (k:=81) (by kernel_rfl)
theorem MF:tab zm=some jO:=ak af (k:=82) (by kernel_rfl)
theorem Mw:tab sD=some kc:=ak af (k:=83) (by kernel_rfl)
theorem Q7:tab Fi=some nS:=ak af (k:=84) (by kernel_rfl)
theorem Ju:tab yp=some ia:=ak af (k:=85) (by kernel_rfl)
theorem HS:tab yg=some iM:=ak af (k:=86) (by kernel_rfl)
theorem IJ:tab xS=some ib:=ak af (k:=87) (by kernel_rfl)
theorem BR:tab rQ=some eB:=ak af (k:=88) (by kernel_rfl)
theorem Mp:tab zP=some jR:=ak af (k:=89) (by kernel_rfl)
theorem K6:tab Al=some j7:=ak af (k:=90) (by kernel_rfl)
theorem EF:tab vJ=some gq:=ak af (k:=91) (by kernel_rfl)
theorem Uj:tab Ay=some qD:=ak af (k:=92) (by kernel_rfl)
theorem GH:tab vD=some gr:=ak af (k:=93) (by kernel_rfl)
theorem Pn:tab B4=some lj:=ak af (k:=94) (by kernel_rfl)
theorem Ld:tab mH=some j3:=ak af (k:=95) (by kernel_rfl)
theorem Vt:tab PV=some uc:=ak af (k:=96) (by kernel_rfl)
theorem Wn:tab Qr=some tw:=ak af (k:=97) (by kernel_rfl)
theorem Yu:tab SB=some xC:=ak af (k:=98) (by kernel_rfl)
theorem YC:tab SI=some xu:=ak af (k:=99) (by kernel_rfl)
theorem YA:tab Sb=some xn:=ak af (k:=100) (by kernel_rfl)
theorem XD:tab R7=some wO:=ak af (k:=101) (by kernel_rfl)
theorem Yb:tab Sq=some xy:=ak af (k:=102) (by kernel_rfl)
theorem Ym:tab Te=some xq:=ak af (k:=103) (by kernel_rfl)
theorem KZ:tab Qo=some tN:=ak af (k:=104) (by kernel_rfl)
theorem Us:tab Km=some qE:=ak af (k:=105) (by kernel_rfl)
theorem RF:tab GO=some nG:=ak af (k:=106) (by kernel_rfl)
theorem Tx:tab oz=some qN:=ak af (k:=107) (by kernel_rfl)
theorem Xs:tab N1=some tF:=ak af (k:=108) (by kernel_rfl)
theorem RL:tab Fc=some nO:=ak af (k:=109) (by kernel_rfl)
theorem Rz:tab ES=some og:=ak af (k:=110) (by kernel_rfl)
theorem HL:tab oS=some iI:=ak af (k:=111) (by kernel_rfl)
theorem Rc:tab wY=some nJ:=ak af (k:=112) (by kernel_rfl)
theorem Rw:tab Fb=some oe:=ak af (k:=113) (by kernel_rfl)
theorem TA:tab KC=some qO:=ak af (k:=114) (by kernel_rfl)
theorem R0:tab EG=some oh:=ak af (k:=115) (by kernel_rfl)
theorem FD:tab nl=some gp:=ak af (k:=116) (by kernel_rfl)
theorem O7:tab Ch=some mq:=ak af (k:=117) (by kernel_rfl)
theorem Rl:tab GV=some nN:=ak af (k:=118) (by kernel_rfl)
theorem Up:tab KQ=some q5:=ak af (k:=120) (by kernel_rfl)
theorem TJ:tab KH=some qC:=ak af (k:=121) (by kernel_rfl)
theorem Z1:tab WS=some AX:=ak af (k:=122) (by kernel_rfl)
theorem KL:tab P0=some ue:=ak af (k:=123) (by kernel_rfl)
theorem Uz:tab KA=some q8:=ak af (k:=124) (by kernel_rfl)
theorem Um:tab KY=some rk:=ak af (k:=125) (by kernel_rfl)
theorem Rx:tab F8=some om:=ak af (k:=126) (by kernel_rfl)
theorem TR:tab KD=some rj:=ak af (k:=127) (by kernel_rfl)
theorem Wm:tab Nu=some tz:=ak af (k:=128) (by kernel_rfl)
theorem Ub:tab Kw=some re:=ak af (k:=129) (by kernel_rfl)
theorem aay:tab V5=some AW:=ak af (k:=130) (by kernel_rfl)
theorem V1:tab Nf=some tL:=ak af (k:=131) (by kernel_rfl)
theorem Tz:tab Kl=some qU:=ak af (k:=132) (by kernel_rfl)
theorem TE:tab KG=some qJ:=ak af (k:=133) (by kernel_rfl)
theorem D9:tab tX=some fa:=ak af (k:=136) (by kernel_rfl)
theorem caps:∀f cs,aa afo f=some cs→(G8 cs.args cs.res=none→aa aq f=some ⟨cs.args++cs.caps,cs.res,.dat⟩)∧∀ys,G8 cs.args cs.res=some ys→oB pcN f=false∧Qa Tryz.prog f=true:=VZ (l:=afo) (sig:=aq) (P:=Tryz.prog) (pcs:=pcN) (by kernel_rfl)
theorem clos:ClosOK ctx:=⟨(fun f cs h=>(caps f cs h).1),fun f s h=>Sz (l:=aq) (P:=Tryz.prog) (by kernel_rfl) f s h⟩
theorem its:∀f cs ys,ctx.cap f=some cs→G8 cs.args cs.res=some ys→tab f=none∧∃fn,ctx.P.funcs[f]?=some fn∧fn.body.isSome=true∧(fn.name== "runtime.NumGoroutine")=false:=fun f cs ys h hi=>⟨Pb (l:=pcL) (by rw[abJ];exact((caps f cs h).2 ys hi).1),aa0 ((caps f cs h).2 ys hi).2⟩
theorem akf:∀f pc,tab f=some pc→∃fn s ids fr nh,ctx.P.funcs[f]?=some fn∧ctx.sig f=some s∧av {ctx with fr:=fr,nh:=nh} fn s ids=some pc:=
 NP (R:=fun f pc=>∃fn s ids fr nh,ctx.P.funcs[f]?=some fn∧ctx.sig f=some s∧av {ctx with fr:=fr,nh:=nh} fn s ids=some pc) (l:=pcL)
  (ab ⟨Tryz.f4,(aa aq 4).getD default,[6,8,14,77838,53,78,17,19],[12,13,15,16,18,20],[],Tryz.func4,rfl,BQ⟩
  (ab ⟨Tryz.f15,(aa aq 15).getD default,[1,2,4],[0,3,5,7],[],Tryz.func15,rfl,LJ⟩
  (ab ⟨Tryz.f58,(aa aq 58).getD default,[0,1,2,12290,16386,16,3,24579,28675,32771,4,65540,69636,73732,77828],[],[],Tryz.func58,rfl,G5⟩
  (ab ⟨Tryz.f122,(aa aq 122).getD default,[2,12290],[],[],Tryz.func122,rfl,C3⟩
  (ab ⟨Tryz.f17,(aa aq 17).getD default,[5,7,10,12],[11],[],Tryz.func17,rfl,He⟩
  (ab ⟨Tryz.f61,(aa aq 61).getD default,[4,6,8,9],[],[],Tryz.func61,rfl,L6⟩
  (ab ⟨Tryz.f26,(aa aq 26).getD default,[2,4,5,65541,69637,73733,77829,7,31,9,49,11,13],[],[],Tryz.func26,rfl,LS⟩
  (ab ⟨Tryz.f72,(aa aq 72).getD default,[],[4],[],Tryz.func72,rfl,BC⟩
  (ab ⟨Tryz.f38,(aa aq 38).getD default,[5,8,77832,10],[],[],Tryz.func38,rfl,NT⟩
  (ab ⟨Tryz.f36,(aa aq 36).getD default,[4,7,8,9],[10],[],Tryz.func36,rfl,RI⟩
  (ab ⟨Tryz.f95,(aa aq 95).getD default,[4,7,8,10,16394],[9,11,12,13,14],[],Tryz.func95,rfl,PO⟩
  (ab ⟨Tryz.f100,(aa aq 100).getD default,[2,3,4],[5],[],Tryz.func100,rfl,Uw⟩
  (ab ⟨Tryz.f52,(aa aq 52).getD default,[2,3,5,6,8,10,90,139],[4,7,9,11,12,13,14,15,16],[],Tryz.func52,rfl,Gj⟩
  (ab ⟨Tryz.f110,(aa aq 110).getD default,[2],[3],[],Tryz.func110,rfl,By⟩
  (ab ⟨Tryz.f109,(aa aq 109).getD default,[],[4],[],Tryz.func109,rfl,mN⟩
  (ab ⟨Tryz.f183,(aa aq 183).getD default,[],[4,5],[],Tryz.func183,rfl,pA⟩
  (ab ⟨Tryz.f53,(aa aq 53).getD default,[2],[4],[],Tryz.func53,rfl,Bz⟩
  (ab ⟨Tryz.f113,(aa aq 113).getD default,[],[4],[],Tryz.func113,rfl,NB⟩
  (ab ⟨Tryz.f111,(aa aq 111).getD default,[2],[],[],Tryz.func111,rfl,CY⟩
  (ab ⟨Tryz.f112,(aa aq 112).getD default,[3,6,8],[],[],Tryz.func112,rfl,Gv⟩
  (ab ⟨Tryz.f119,(aa aq 119).getD default,[],[2,3,4,11],[],Tryz.func119,rfl,IU⟩
  (ab ⟨Tryz.f116,(aa aq 116).getD default,[],[4],[],Tryz.func116,rfl,s9⟩
  (ab ⟨Tryz.f186,(aa aq 186).getD default,[],[4,5],[],Tryz.func186,rfl,xg⟩
  (ab ⟨Tryz.f54,(aa aq 54).getD default,[4,10,53],[8,9,11,12,13,14,55,70],[],Tryz.func54,rfl,DS⟩
  (ab ⟨Tryz.f114,(aa aq 114).getD default,[4,9],[8],[],Tryz.func114,rfl,BV⟩
  (ab ⟨Tryz.f185,(aa aq 185).getD default,[],[3],[],Tryz.func185,rfl,yw⟩
  (ab ⟨Tryz.f184,(aa aq 184).getD default,[],[4],[],Tryz.func184,rfl,oE⟩
  (ab ⟨Tryz.f220,(aa aq 220).getD default,[],[4,5],[],Tryz.func220,rfl,rX⟩
  (ab ⟨Tryz.f115,(aa aq 115).getD default,[4,11],[8,9],[],Tryz.func115,rfl,z7⟩
  (ab ⟨Tryz.f55,(aa aq 55).getD default,[3,6,8,10],[7,9,11,12],[],Tryz.func55,rfl,CU⟩
  (ab ⟨Tryz.f117,(aa aq 117).getD default,[2,3,4,12292,9],[5,6,7,8,10,11],[],Tryz.func117,rfl,Iq⟩
  (ab ⟨Tryz.f188,(aa aq 188).getD default,[2],[3],[],Tryz.func188,rfl,CT⟩
  (ab ⟨Tryz.f187,(aa aq 187).getD default,[],[4,5],[],Tryz.func187,rfl,ri⟩
  (ab ⟨Tryz.f189,(aa aq 189).getD default,[1],[2,3],[],Tryz.func189,rfl,Hy⟩
  (ab ⟨Tryz.f221,(aa aq 221).getD default,[2,7,12295],[4,5],[],Tryz.func221,rfl,DT⟩
  (ab ⟨Tryz.f222,(aa aq 222).getD default,[1,4,6,12294,9],[2,3,5,7,8,38,47,10,11,12],[],Tryz.func222,rfl,Hj⟩
  (ab ⟨Tryz.f245,(aa aq 245).getD default,[1],[2,3,12,20,4,5],[],Tryz.func245,rfl,MB⟩
  (ab ⟨Tryz.f249,(aa aq 249).getD default,[],[2],[],Tryz.func249,rfl,OZ⟩
  (ab ⟨Tryz.f247,(aa aq 247).getD default,[],[2,3,4,11],[],Tryz.func247,rfl,DX⟩
  (ab ⟨Tryz.f246,(aa aq 246).getD default,[2],[4,8,13,17,21],[],Tryz.func246,rfl,Dw⟩
  (ab ⟨Tryz.f118,(aa aq 118).getD default,[2,4,7],[5,6,8],[],Tryz.func118,rfl,LR⟩
  (ab ⟨Tryz.f190,(aa aq 190).getD default,[2,3,4,6,33,7,8,10,12298,12],[5,15,21,9,11],[],Tryz.func190,rfl,xr⟩
  (ab ⟨Tryz.f223,(aa aq 223).getD default,[2,4],[5,6],[],Tryz.func223,rfl,vf⟩
  (ab ⟨Tryz.f248,(aa aq 248).getD default,[2],[],[],Tryz.func248,rfl,Qu⟩
  (ab ⟨Tryz.f224,(aa aq 224).getD default,[4,5],[9,22,41,6,7,82,88,94],[],Tryz.func224,rfl,CV⟩
  (ab ⟨Tryz.f250,(aa aq 250).getD default,[],[6,8,14,20,25],[],Tryz.func250,rfl,yA⟩
  (ab ⟨Tryz.f278,(aa aq 278).getD default,[],[4,5,6,7],[],Tryz.func278,rfl,DW⟩
  (ab ⟨Tryz.f285,(aa aq 285).getD default,[],[4,5,6,7,8,9,10,11,12,13],[],Tryz.func285,rfl,Jf⟩
  (ab ⟨Tryz.f225,(aa aq 225).getD default,[6],[2,3,5,8],[],Tryz.func225,rfl,vP⟩
  (ab ⟨Tryz.f41,(aa aq 41).getD default,[1],[2,3,7,12],[],Tryz.func41,rfl,R1⟩
  (ab ⟨Tryz.f50,(aa aq 50).getD default,[4,6],[8,9,10,11],[],Tryz.func50,rfl,CR⟩
  (ab ⟨Tryz.f43,(aa aq 43).getD default,[1],[2],[],Tryz.func43,rfl,IE⟩
  (ab ⟨Tryz.f106,(aa aq 106).getD default,[1,3,6,8],[2,4],[],Tryz.func106,rfl,FW⟩
  (ab ⟨Tryz.f178,(aa aq 178).getD default,[],[2,3,4],[],Tryz.func178,rfl,AG⟩
  (ab ⟨Tryz.f105,(aa aq 105).getD default,[4,5,10],[8,9,15,39,58,74,11,12],[],Tryz.func105,rfl,Lm⟩
  (ab ⟨Tryz.f75,(aa aq 75).getD default,[1,9],[2,3,4,5,6,7,10,11,12],[],Tryz.func75,rfl,Gf⟩
  (ab ⟨Tryz.f145,(aa aq 145).getD default,[1,2,3,4,6,16390,20486,24582,21,8,34,10,12298,16394,47],[],[],Tryz.func145,rfl,Fy⟩
  (ab ⟨Tryz.f146,(aa aq 146).getD default,[],[6,7,8],[],Tryz.func146,rfl,Hn⟩
  (ab ⟨Tryz.f200,(aa aq 200).getD default,[],[4],[],Tryz.func200,rfl,Fo⟩
  (ab ⟨Tryz.f230,(aa aq 230).getD default,[],[2,3,4,5],[],Tryz.func230,rfl,C7⟩
  (ab ⟨Tryz.f231,(aa aq 231).getD default,[],[4],[],Tryz.func231,rfl,pS⟩
  (ab ⟨Tryz.f253,(aa aq 253).getD default,[],[4,5],[],Tryz.func253,rfl,sW⟩
  (ab ⟨Tryz.f147,(aa aq 147).getD default,[],[2],[],Tryz.func147,rfl,Bm⟩
  (ab ⟨Tryz.f148,(aa aq 148).getD default,[],[3],[],Tryz.func148,rfl,BG⟩
  (ab ⟨Tryz.f149,(aa aq 149).getD default,[2,3],[4,6],[],Tryz.func149,rfl,JJ⟩
  (ab ⟨Tryz.f201,(aa aq 201).getD default,[],[6,7,8],[],Tryz.func201,rfl,Dh⟩
  (ab ⟨Tryz.f150,(aa aq 150).getD default,[],[3],[],Tryz.func150,rfl,Bo⟩
  (ab ⟨Tryz.f151,(aa aq 151).getD default,[],[3],[],Tryz.func151,rfl,BH⟩
  (ab ⟨Tryz.f152,(aa aq 152).getD default,[1,3,4,6,19,8,16392,36],[2],[],Tryz.func152,rfl,Fx⟩
  (ab ⟨Tryz.f153,(aa aq 153).getD default,[1,4,6],[2,3],[],Tryz.func153,rfl,Br⟩
  (ab ⟨Tryz.f154,(aa aq 154).getD default,[1,4,6],[2],[],Tryz.func154,rfl,Je⟩
  (ab ⟨Tryz.f173,(aa aq 173).getD default,[2],[4],[],Tryz.func173,rfl,Dq⟩
  (ab ⟨Tryz.f174,(aa aq 174).getD default,[],[2],[],Tryz.func174,rfl,ER⟩
  (ab ⟨Tryz.f175,(aa aq 175).getD default,[1],[2],[],Tryz.func175,rfl,DZ⟩
  (ab ⟨Tryz.f176,(aa aq 176).getD default,[3,4],[6,7,13,16,24,33,8,9],[],Tryz.func176,rfl,Ie⟩
  (ab ⟨Tryz.f215,(aa aq 215).getD default,[3],[4,5],[],Tryz.func215,rfl,EZ⟩
  (ab ⟨Tryz.f239,(aa aq 239).getD default,[],[4,5,6,7,8,9],[],Tryz.func239,rfl,uM⟩
  (ab ⟨Tryz.f120,(aa aq 120).getD default,[],[2],[],Tryz.func120,rfl,y6⟩
  (ab ⟨Tryz.f191,(aa aq 191).getD default,[],[2,3,4,5,6,7,8,9],[],Tryz.func191,rfl,Aw⟩
  (ab ⟨Tryz.f273,(aa aq 273).getD default,[],[4],[],Tryz.func273,rfl,yB⟩
  (ab ⟨Tryz.f284,(aa aq 284).getD default,[],[6,0,1],[],Tryz.func284,rfl,yx⟩
  (ab ⟨Tryz.f272,(aa aq 272).getD default,[],[6,7,8],[],Tryz.func272,rfl,Df⟩
  (ab ⟨Tryz.f161,(aa aq 161).getD default,[3,9],[6,7],[],Tryz.func161,rfl,DD⟩
  (ab ⟨Tryz.f177,(aa aq 177).getD default,[3],[6,7,8,2,9,10],[],Tryz.func177,rfl,Eu⟩
  (ab ⟨Tryz.f216,(aa aq 216).getD default,[3,9],[6,7,2],[],Tryz.func216,rfl,Ih⟩
  (ab ⟨Tryz.f217,(aa aq 217).getD default,[2,4,5],[6],[],Tryz.func217,rfl,BE⟩
  (ab ⟨Tryz.f240,(aa aq 240).getD default,[3,4,5],[6],[],Tryz.func240,rfl,BM⟩
  (ab ⟨Tryz.f121,(aa aq 121).getD default,[2],[4,5,6,7],[],Tryz.func121,rfl,BS⟩
  (ab ⟨Tryz.f62,(aa aq 62).getD default,[2,4,5,6],[],[],Tryz.func62,rfl,wF⟩
  (ab ⟨Tryz.f131,(aa aq 131).getD default,[3],[6],[],Tryz.func131,rfl,DE⟩
  (ab ⟨Tryz.f196,(aa aq 196).getD default,[2,5,7],[4],[],Tryz.func196,rfl,ED⟩
  (ab ⟨Tryz.f132,(aa aq 132).getD default,[3,7],[6],[],Tryz.func132,rfl,y3⟩
  (ab ⟨Tryz.f65,(aa aq 65).getD default,[],[2,3,5,12,15],[],Tryz.func65,rfl,LY⟩
  (ab ⟨Tryz.f133,(aa aq 133).getD default,[2,9],[4,5,6,7,10,50,54],[],Tryz.func133,rfl,zZ⟩
  (ab ⟨Tryz.f197,(aa aq 197).getD default,[2,7],[4,5],[],Tryz.func197,rfl,Fw⟩
  (ab ⟨Tryz.f20,(aa aq 20).getD default,[4,6,9,10,28],[8,11],[],Tryz.func20,rfl,Ee⟩
  (ab ⟨Tryz.f19,(aa aq 19).getD default,[],[4,5],[],Tryz.func19,rfl,N4⟩
  (ab ⟨Tryz.f22,(aa aq 22).getD default,[],[4],[],Tryz.func22,rfl,OV⟩
  (ab ⟨Tryz.f16,(aa aq 16).getD default,[2,3],[4],[],Tryz.func16,rfl,Rd⟩
  (ab ⟨Tryz.f59,(aa aq 59).getD default,[2,3],[4,5],[],Tryz.func59,rfl,Rq⟩
  (ab ⟨Tryz.f123,(aa aq 123).getD default,[1],[2,3,4],[],Tryz.func123,rfl,Q4⟩
  (ab ⟨Tryz.f124,(aa aq 124).getD default,[1],[2],[],Tryz.func124,rfl,QY⟩
  (ab ⟨Tryz.f125,(aa aq 125).getD default,[1],[2,3],[],Tryz.func125,rfl,RU⟩
  (ab ⟨Tryz.f192,(aa aq 192).getD default,[1],[2],[],Tryz.func192,rfl,RJ⟩
  (ab ⟨Tryz.f226,(aa aq 226).getD default,[3],[6,1,7],[],Tryz.func226,rfl,Ph⟩
  (ab ⟨Tryz.f60,(aa aq 60).getD default,[1],[2,3],[],Tryz.func60,rfl,Li⟩
  (ab ⟨Tryz.f126,(aa aq 126).getD default,[1,5,44],[2,3,4,6,7],[],Tryz.func126,rfl,Ib⟩
  (ab ⟨Tryz.f193,(aa aq 193).getD default,[],[4],[],Tryz.func193,rfl,Lj⟩
  (ab ⟨Tryz.f227,(aa aq 227).getD default,[],[2,3,4],[],Tryz.func227,rfl,N0⟩
  (ab ⟨Tryz.f252,(aa aq 252).getD default,[],[2],[],Tryz.func252,rfl,H2⟩
  (ab ⟨Tryz.f228,(aa aq 228).getD default,[],[6,7],[],Tryz.func228,rfl,Ht⟩
  (ab ⟨Tryz.f194,(aa aq 194).getD default,[2,3],[4,5],[],Tryz.func194,rfl,BX⟩
  (ab ⟨Tryz.f68,(aa aq 68).getD default,[],[6],[],Tryz.func68,rfl,HC⟩
  (ab ⟨Tryz.f229,(aa aq 229).getD default,[],[6,7],[],Tryz.func229,rfl,Ij⟩
  (ab ⟨Tryz.f127,(aa aq 127).getD default,[1,4,44],[2,3,5,6],[],Tryz.func127,rfl,Mg⟩
  (ab ⟨Tryz.f128,(aa aq 128).getD default,[1,3,24],[2,4,5],[],Tryz.func128,rfl,HI⟩
  (ab ⟨Tryz.f195,(aa aq 195).getD default,[1],[2,3,4],[],Tryz.func195,rfl,zh⟩
  (ab ⟨Tryz.f129,(aa aq 129).getD default,[1,4],[2,3,5],[],Tryz.func129,rfl,GA⟩
  (ab ⟨Tryz.f130,(aa aq 130).getD default,[1,4,6],[2,3,5],[],Tryz.func130,rfl,IC⟩
  (ab ⟨Tryz.f5,(aa aq 5).getD default,[5,7,12],[10,11,13,14,15,16],[],Tryz.func5,rfl,BB⟩
  (ab ⟨Tryz.f24,(aa aq 24).getD default,[2,3],[4,5,6,7,8,9,10],[],Tryz.func24,rfl,Mo⟩
  (ab ⟨Tryz.f66,(aa aq 66).getD default,[2,3],[4,5,6,7,8,9],[],Tryz.func66,rfl,K1⟩
  (ab ⟨Tryz.f138,(aa aq 138).getD default,[],[4],[],Tryz.func138,rfl,UJ⟩
  (ab ⟨Tryz.f139,(aa aq 139).getD default,[],[4],[],Tryz.func139,rfl,M8⟩
  (ab ⟨Tryz.f140,(aa aq 140).getD default,[],[2],[],Tryz.func140,rfl,LI⟩
  (ab ⟨Tryz.f141,(aa aq 141).getD default,[1,3],[2],[],Tryz.func141,rfl,Ma⟩
  (ab ⟨Tryz.f142,(aa aq 142).getD default,[3],[6,7,8],[],Tryz.func142,rfl,JL⟩
  (ab ⟨Tryz.f67,(aa aq 67).getD default,[3,4,7],[6,8],[],Tryz.func67,rfl,LA⟩
  (ab ⟨Tryz.f143,(aa aq 143).getD default,[3,4,7],[6,8,21,71,101,9,10,146,179],[],Tryz.func143,rfl,NS⟩
  (ab ⟨Tryz.f198,(aa aq 198).getD default,[2],[4,5],[],Tryz.func198,rfl,MK⟩
  (ab ⟨Tryz.f199,(aa aq 199).getD default,[3],[6],[],Tryz.func199,rfl,T5⟩
  (ab ⟨Tryz.f69,(aa aq 69).getD default,[3,4,7],[6],[],Tryz.func69,rfl,P6⟩
  (ab ⟨Tryz.f144,(aa aq 144).getD default,[3,4,5],[6,7,8,9,10,56,76,93,114,133,151],[],Tryz.func144,rfl,Lu⟩
  (ab ⟨Tryz.f70,(aa aq 70).getD default,[2,5,6],[4],[],Tryz.func70,rfl,Mq⟩
  (ab ⟨Tryz.f25,(aa aq 25).getD default,[2,77826,3,4,5,7,9],[6,8],[],Tryz.func25,rfl,Ol⟩
  (ab ⟨Tryz.f71,(aa aq 71).getD default,[3,6],[7],[],Tryz.func71,rfl,Ns⟩
  (ab ⟨Tryz.f6,(aa aq 6).getD default,[6,8,14,16,73744,21],[12,13,15,17,18,19,20],[],Tryz.func6,rfl,yu⟩
  trivial)))))))))))))))))))))))))))))))))))))))))))))))))))))))))))))))))))))))))))))))))))))))))))))))))))))))))))))))))))))))))))))))))))))))))
end Rm
set_option linter.unusedSimpArgs false
namespace Rm
open Go Go.Proofs Cx Go.RowKit Go.Lib
theorem ahD:(Tryz.prog.info? 3).map (fun i=>(i.zero,i.size,i.bytes))=some (some (.int .i64 0),1,8):=by kernel_rfl
set_option maxHeartbeats 2000000 in
set_option maxRecDepth 100000 in
theorem aaT (w:World):Calls Tryz.prog 251 #[.slice none 0 0,.int .i64 0] w fun e w'=>e=.returned (.slice none 0 0)∧w'=w:=by
 go_enter Tryz.func251,Tryz.ntmps251
 go_wp2
 go_ret
 exact⟨rfl,rfl⟩
set_option maxHeartbeats 2000000 in
set_option maxRecDepth 100000 in
theorem acX (n:Nat)(w:World)(h0:0<n)(h1:n≤4294967296):Calls Tryz.prog 251 #[.slice none 0 0,.int .i64 n] w fun e w'=>
 ∃v',e=.returned v'∧w'.ownsRow w.heap.size 3 1 v' 0 []∧Below w.heap.size w w':=by
 obtain⟨i0,hi,hz0,hz1,hz2⟩:=info_parts ahD
 have hr:=run_append_nil_zeros w 68 3 68 3 i0 (.int .i64 0) .i64 .i64 Tryz.underlying68 Tryz.underlying3 hi hz0 n h0 (by rw[hz1];decide) (by omega) (by rw[hz2];omega)
 have hn:¬((n:Int)<0):=by omega
 have hn2:(n:Int)>0:=by omega
 have hw:IntKind.i64.wrap (n:Int)=n:=by rw[IntKind.wrap_i64];omega
 have hw0:IntKind.i64.wrap 0=0:=by decide
 have hge:=grownCap_ge w n 0 3
 have hle:=grownCap_le_maxLen w n 0 3 (by unfold maxLen;omega)
 have hs:(Builtin.zeroCells #[Value.int IntKind.i64 0] n++Builtin.zeroCells #[Value.int IntKind.i64 0] (grownCap w n 0 3-n)).size=grownCap w n 0 3*1:=by
  rw[Array.size_append,size_zeroCells,size_zeroCells];simp;omega
 go_enter Tryz.func251,Tryz.ntmps251
 go_wp2_with (at_builtin;refine wpList_append_run _ rfl _ _ 68 3 rfl _ _ rfl rfl _ _ hr ?qc)
 go_ret
 refine⟨_,rfl,?_,?_⟩
 ·exact World.ownsRow.drew (World.ownsRow_made w _ _ (Nat.le_refl _) hle hs)
 ·exact((Below.refl _ w).alloc (Nat.le_refl _) _).drew
def ZC (ds:List D):Option D:=
 match ds with
 |[.list [],.v (.int .i64 n)]=>if 0≤n∧n≤4294967296 then some (.list []) else none
 |_=>none
theorem adx (ds:List D)(d:D)(h:ZC ds=some d):∃s,ctx.sig 251=some s∧abC ctx 251 s ds d:=by
 refine⟨_,rfl,fun _=>?_,fun shs obs hm=>by cases hm⟩
 unfold ZC at h
 split at h
 case h_2=>cases h
 rename_i n
 split at h
 case isFalse=>cases h
 rename_i hn
 cases h
 obtain⟨k,rfl⟩:=Int.eq_ofNat_of_zero_le hn.1
 intro σ w args hok hC ha
 obtain⟨a1,a2,a3⟩:=ha
 have h0:=a3 0 _ rfl
 have h1:=a3 1 _ rfl
 obtain⟨u,v,rfl⟩:∃u v,args=#[u,v]:=by
  have:args.size=2:=by simpa using a1
  match args,this with
  |⟨[u,v]⟩,_=>exact⟨u,v,rfl⟩
 simp only[List.getD_cons_zero,List.getD_cons_succ] at h0 h1
 change Rep ctx.cap σ (.nils .bool) u (.list []) at h0
 change Rep ctx.cap σ (.int .i64) v (.v (.int .i64 k)) at h1
 have hu:u=.slice none 0 0:=by cases h0;rfl
 have hv:v=.int .i64 k:=by cases h1;rfl
 subst hu hv
 by_cases hk:k=0
 ·subst hk
  refine(aaT w).mono fun e w' hh=>?_
  obtain⟨rfl,rfl⟩:=hh
  refine⟨_,σ,rfl,.refl σ,hok,.refl _ _,fun _ _ _ h=>.inl h,fun _ _ h=>.inl h,?_⟩
  exact⟨[],[],rfl,⟨by simp,.inl ⟨rfl,rfl⟩⟩,⟨fun _=>undef,fun i x hx=>by simp at hx,fun i j u hi=>by simp at hi⟩,fun k hk=>by cases hk⟩
 ·refine(acX k w (by omega) (by omega)).mono fun e w' hh=>?_
  obtain⟨v',rfl,hown,hb⟩:=hh
  refine⟨v',σ,rfl,.refl σ,hok.below hb,hb,fun _ _ _ h=>.inl h,fun _ _ h=>.inl h,?_⟩
  refine⟨[],[],rfl,hown,⟨fun _=>undef,fun i x hx=>by simp at hx,fun i j u hi=>by simp at hi⟩,fun k hk=>?_⟩
  have hk':=(hown.lt k hk).1
  refine⟨fun o=>?_,?_⟩
  ·cases hc:σ.c k o with
   |none=>rfl
   |some u=>have:=World.block_lt_of_cell? w (a:=⟨k,o,none⟩) (hok.c _ _ _ hc);simp at this;omega
  ·cases hc:σ.m k with
   |none=>rfl
   |some u=>rcases hok.m _ _ hc with⟨arr,clock,x,g1,_⟩|⟨_,g1⟩<;>(have:=(Array.getElem?_eq_some_iff.1 g1).1;omega)
def oA (day:Int):Int×Int×Int:=
 let n:=day+730425
 let e:=n/146097
 let r:=n%146097
 let y:=(r-r/1460+r/36524-r/146096)/365
 let r:=r-(365*y+y/4-y/100)
 let m:=(5*r+2)/153
 let dom:=r-(153*m+2)/5+1
 let month:=if 12<m+3 then m+3-12 else m+3
 (if month<3 then y+400*e+1 else y+400*e,month,dom)
def NM (rest feasts shut:List Int)(day:Int):Bool:=
 !rest.contains ((day+5)%7)&&(!feasts.contains (100*(oA day).2.1+(oA day).2.2)&& !shut.contains day)
def aer (rest feasts shut:List Int)(a b:Int):List Int:=((List.range (b-a+1).toNat).map fun(k:Nat)=>a+k).filter (NM rest feasts shut)
def D6 (d:D):List Int:=d.l.map D.i
def aew (ds:List D):List D:=
 let c:=(ds.getD 2 .none).deref
 (aer (D6 (c.c 3)) (D6 (c.c 4)) (D6 (c.c 5)) (ds.getD 0 .none).deref.i (ds.getD 1 .none).deref.i).map fun d=>.tup [.int d]
def atS (r:D)(city:Int):Int:=if 0≤city∧city<(r.c 1).l.length then(((r.c 1).l.getD city.toNat .none).c 1).i else-1
def T7 (ds:List D):D:=
 let r:=ds.getD 0 .none
 let forum:=(ds.getD 1 .none).i
 let c:=ds.getD 2 .none
 let s:=(c.c 15).l.getD (c.c 19).i.toNat .none
 let who:=(s.c 2).i
 if who<0∨(r.c 3).l.length≤who∨forum<0∨(r.c 4).l.length≤forum then .list [] else
 let out:=[forum,atS r (s.c 7).i,atS r (c.c 10).i,atS r (c.c 9).i,atS r (((r.c 3).l.getD who.toNat .none).c 1).i]
 if(-1)∈out then .list [] else ints out
noncomputable def aih:List (Nat×(aK→List D→Option D)):=[(251,fun _ ds=>ZC ds),(101,aaW p7 qd T7),(274,itG di 1000 1 aew)]
noncomputable def ext:Nat→Option (aK→List D→Option D):=aa aih
theorem agM:TabOK ctx tab ext:=by
 refine⟨clos,its,fun f pc _ h=>akf f pc h,fun f g hg Φ hΦ hIt ds d h=>?_⟩
 have:=NP (R:=fun f (g:aK→List D→Option D)=>∀Φ,FunsOK ctx Φ→ItsOK ctx Φ→∀ds d,g Φ ds=some d→(∀s,ctx.sig f=some s→abC ctx f s ds d)∧
  ∀cs ys,ctx.cap f=some cs→G8 cs.args cs.res=some ys→∃xs,d=.list xs∧(∀x,x∈xs→∃ds',x=.tup ds'∧ds'.length=ys.length)∧ItOK ctx f cs.caps ys ds xs) (l:=aih)
  ⟨fun Φ hΦ hIt ds d h=>⟨fun s hs=>by obtain⟨s',h1,h2⟩:=adx ds d h;rw[hs] at h1;cases h1;exact h2,fun cs ys hc hi=>by cases hc⟩,
   fun Φ hΦ hIt ds d h=>⟨fun s hs=>by cases hs;exact⟨fun _=>adH clos hΦ hIt Tryz.func101 Ek DN h,fun shs obs hm=>by cases hm⟩,fun cs ys hc hi=>by cases hc⟩,
   fun Φ hΦ hIt ds d h=>⟨fun s hs=>(by cases hs),fun cs ys hc hi=>by
    cases hc
    cases hi
    exact afu clos hΦ hIt Tryz.func274 Bj h rfl⟩,trivial⟩ f g hg
 exact this Φ hΦ hIt ds d h
noncomputable abbrev T:bn:=Tab tab ext
theorem Runs.of_nsl {tab:Nat→Option PC}{ext:Nat→Option (aK→List D→Option D)}{f:Nat}{pa pb:PC}{spec:List D→D}{ds:List D}{ta tb:PT}(hx:ext f=some (aaW pa pb spec))(hta:tree pa=ta)(htb:tree pb=tb)
 (h:(∃xs,xs≠[]∧spec ds=.list xs∧aD (Tab tab ext) ta (DK ds) (fun x=>x=.ret (.list xs)))∨(spec ds=.list []∧aD (Tab tab ext) tb (DK ds) (fun x=>x=.ret (.list [])))):Runs (Tab tab ext) f ds (spec ds):=by
 refine Runs.of_ext hx ?_
 rcases h with⟨xs,h1,h2,h3⟩|⟨h2,h3⟩
 ·obtain⟨x,rfl,n0,hn⟩:=MT (c:=pa) (hta▸h3)
  refine⟨n0,fun n hle=>?_⟩
  unfold aaW
  rw[if_pos (.inl ⟨n,xs,hn n hle,h1,h2⟩)]
 ·obtain⟨x,rfl,n0,hn⟩:=MT (c:=pb) (htb▸h3)
  refine⟨n0,fun n hle=>?_⟩
  unfold aaW
  rw[if_pos (.inr ⟨n,hn n hle,h2⟩)]
end Rm
namespace Rm
open Go Go.Proofs Cx
def mD (n:Nat)(p:Nat→Bool):Bool:=(List.range n).all p
theorem Bf {n:Nat}{p:Nat→Bool}(h:∀k,k<n→p k=true):mD n p=true:=List.all_eq_true.2 fun k hk=>h k (List.mem_range.1 hk)
theorem Oz {n k:Nat}{p:Nat→Bool}(hk:k<n)(h:p k=false):mD n p=false:=List.all_eq_false.2 ⟨k,List.mem_range.2 hk,by simp[h]⟩
theorem allB_iff {n:Nat}{p:Nat→Bool}:mD n p=true↔∀k,k<n→p k=true:=⟨fun h k hk=>List.all_eq_true.1 h k (List.mem_range.2 hk),Bf⟩
def kH (n:Nat)(f:Nat→Int):Int:=(((List.range n).map f).find? fun x=>x !=0).getD 0
theorem J1 {n:Nat}{f:Nat→Int}(h:∀k,k<n→f k=0):kH n f=0:=by
 unfold kH
 rw[List.find?_eq_none.2]
 ·rfl
 ·intro x hx
  obtain⟨k,hk,rfl⟩:=List.mem_map.1 hx
  simp[h k (List.mem_range.1 hk)]
theorem SP {n k:Nat}{f:Nat→Int}(hk:k<n)(hj:∀j,j<k→f j=0)(h:f k≠0):kH n f=f k:=by
 unfold kH
 have e:List.range n=List.range k++k::(List.range' (k+1) (n-k-1)):=by
  rw[List.range_eq_range',List.range_eq_range',←List.range'_succ];have:=List.range'_append_1 (s:=0) (m:=k) (n:=n-k-1+1);rw[Nat.zero_add] at this;rw[this];congr 1;omega
 rw[e,List.map_append,List.find?_append,List.find?_eq_none.2,Option.none_or,List.map_cons,List.find?_cons_of_pos (by simpa using h)]
 ·rfl
 ·intro x hx
  obtain⟨j,hjm,rfl⟩:=List.mem_map.1 hx
  simp[hj j (List.mem_range.1 hjm)]
theorem firstE_iff {n:Nat}{f:Nat→Int}:kH n f=0↔∀k,k<n→f k=0:=by
 refine⟨fun h k=>?_,J1⟩
 induction k using Nat.strongRecOn with
 |ind k ih=>
  intro hk
  refine Classical.byContradiction fun hne=>?_
  rw[SP hk (fun j hj=>ih j hj (by omega)) hne] at h
  exact hne h
section
variable {T:bn} {id:Nat} {lrb lob lr lo:List Nat} {a:PC} {ρ:Env} {Q:Out→Prop}
theorem gl (N:Nat)(p:Nat→Bool)(str sto:Nat→List D)(h0:lr.map ρ.r=str 0∧lo.map ρ.o=sto 0)
 (step:∀k,k<N→p k=true→aD T (round id lrb lob lr lo a) (ρ.put lr (str k) lo (sto k)) (bW ρ id lrb lob lr lo (fun vr vo=>vr=str (k+1)∧vo=sto (k+1)) Q))
 (bad:∀k,k<N→p k=false→mD N p=false→aD T (round id lrb lob lr lo a) (ρ.put lr (str k) lo (sto k)) (bW ρ id lrb lob lr lo (fun _ _=>False) Q))
 (last:mD N p=true→aD T (round id lrb lob lr lo a) (ρ.put lr (str N) lo (sto N)) (bW ρ id lrb lob lr lo (fun _ _=>False) Q)):EvP T (.block id lrb lob (.loop lr lo a)) ρ Q:=
 .scan N (fun k=>p k=true) str sto h0 (fun k hk _ h=>step k hk h) (fun k hk _ h=>bad k hk (by simpa using h) (Oz hk (by simpa using h))) (fun h=>last (Bf h))
theorem Kj (N:Nat)(f:Nat→Int)(str sto:Nat→List D)(h0:lr.map ρ.r=str 0∧lo.map ρ.o=sto 0)
 (step:∀k,k<N→f k=0→aD T (round id lrb lob lr lo a) (ρ.put lr (str k) lo (sto k)) (bW ρ id lrb lob lr lo (fun vr vo=>vr=str (k+1)∧vo=sto (k+1)) Q))
 (bad:∀k,k<N→f k≠0→kH N f=f k→aD T (round id lrb lob lr lo a) (ρ.put lr (str k) lo (sto k)) (bW ρ id lrb lob lr lo (fun _ _=>False) Q))
 (last:kH N f=0→aD T (round id lrb lob lr lo a) (ρ.put lr (str N) lo (sto N)) (bW ρ id lrb lob lr lo (fun _ _=>False) Q)):EvP T (.block id lrb lob (.loop lr lo a)) ρ Q:=
 .scan N (fun k=>f k=0) str sto h0 (fun k hk _ h=>step k hk h) (fun k hk hj h=>bad k hk h (SP hk hj h)) (fun h=>last (J1 h))
end
theorem ar {k n:Nat}(h:k<n)(hn:n≤4294967296):IntKind.i64.wrap ((k:Int)+1)=(k:Int)+1:=ay (by omega)
theorem iV {k:Nat}(hn:k≤4294967296):IntKind.i64.wrap ((k:Int)-1)=(k:Int)-1:=ay (by omega)
def inB (i n:Int):Bool:=decide (0≤i)&&decide (i<n)
def wi (n a b:Int):Bool:=decide (a≤n)&&decide (n≤b)
theorem aB (i n:Int):Runs T NZ [.int i,.int n] (.bool (inB i n)):=by
 refine .of_tree rfl W4 Of ?_
 simp[zW,inB]
 by_cases h:0≤i<;>simp[h]
theorem aI (i n:Int):Runs T xM [.int i,.int n] (.bool (inB i n)):=by
 refine .of_tree rfl HN Bx ?_
 simp[nk,inB]
 by_cases h:0≤i<;>simp[h]
theorem ae (n a b:Int):Runs T wY [.int n,.int a,.int b] (.bool (wi n a b)):=by
 refine .of_tree rfl Rc HY ?_
 simp[uB,wi]
 by_cases h:a≤n<;>simp[h]
theorem idx_eq {α:Type}[DecidableEq α]{l:List α}{x z:α}{k:Nat}(hk:k<l.length)(hj:∀j,j<k→l.getD j z≠x)(h:¬l.getD k z≠x):x∈l∧l.findIdx (fun y=>decide (y=x))=k:=by
 have e:l[k]=x:=by simpa [hk] using h
 refine⟨e▸List.getElem_mem hk,(List.findIdx_eq hk).2 ⟨by simp[e],fun j hji=>?_⟩⟩
 have hjl:j<l.length:=by omega
 simpa [hjl] using hj j hji
theorem Vx {α:Type}[DecidableEq α]{l:List α}{x z:α}(hj:∀j,j<l.length→l.getD j z≠x):¬x∈l:=fun hm=>by
 obtain⟨j,hjl,rfl⟩:=List.getElem_of_mem hm
 have:=hj j hjl
 simp[hjl] at this
def VE {α:Type}[DecidableEq α](l:List α)(x:α):Int:=if x∈l then(l.findIdx (fun y=>decide (y=x)):Nat) else-1
def hasB {α:Type}[DecidableEq α](l:List α)(x:α):Bool:=l.any fun y=>decide (y=x)
theorem hasB_iff {α:Type}[DecidableEq α]{l:List α}{x:α}:hasB l x=true↔x∈l:=by simp[hasB]
theorem hasB_not {α:Type}[DecidableEq α]{l:List α}{x:α}:hasB l x=false↔¬x∈l:=by rw[←hasB_iff];simp
theorem ZG {α:Type}[DecidableEq α](l:List α)(x:α):decide (0≤VE l x)=hasB l x:=by
 unfold VE;by_cases h:x∈l
 ·rw[hasB_iff.2 h];simp[h]
 ·rw[hasB_not.2 h];simp[h]
@[simp] theorem aiX (a b:ByteArray):cmS .eql a b=decide (a=b):=by
  simp only[cmS,ByteArray.toList_eq]
  by_cases h:a=b
  ·subst h;simp
  ·rw[decide_eq_false h,beq_eq_false_iff_ne]
   intro e
   have:a.data=b.data:=by rw[←Array.toList_inj];exact e
   exact h (by cases a;cases b;cases this;rfl)
@[simp] theorem ahb (ρ:Env)(x i:PE):PE.ev ρ (.sidx x i)=.v (.int .u8 ((PE.ev ρ x).s.data.getD (PE.ev ρ i).i.toNat 0).toNat):=_root_.id rfl
@[simp] theorem ain (ρ:Env)(x i:PE):PE.ev ρ (.sok x i)=.v (.bool (decide (0≤(PE.ev ρ i).i∧(PE.ev ρ i).i<(PE.ev ρ x).s.size))):=_root_.id rfl
@[simp] theorem ak9 (a:ByteArray):(str a).s=a:=_root_.id rfl
theorem Nw (l:List Int)(x:Int)(hl:l.length≤4294967296):Runs T sn [ints l,.int x] (.int (VE l x)):=by
 refine .of_tree rfl BI xo ?_
 simp[jf]
 refine .scan l.length (fun k=>l.getD k 0≠x) (fun k=>[.int 0,.int k]) (fun _=>[]) ?_ (fun k hk hj ho=>?_) (fun k hk hj ho=>?_) (fun hj=>?_)
 ·simp
 ·have hw:=ar hk hl
  simp[hk] at ho
  have ho':¬x=l[k]:=fun e=>ho e.symm
  simp[dX,bM,hk,hw,ints,ho,ho']
 ·obtain⟨hm,he⟩:=idx_eq hk hj ho
  simp[hk] at ho
  simp[dX,bM,hk,ints,ho,VE,hm,he]
 ·have:=Vx hj
  simp[dX,bM,VE,this,ints]
theorem cu (l:List Int)(x:Int)(hl:l.length≤4294967296):Runs T mY [ints l,.int x] (.bool (hasB l x)):=by
 refine .of_tree rfl wJ th ?_
 simp[fo]
 refine⟨_,Nw l x hl,?_⟩
 have:=ZG l x
 simp at this ⊢
 exact this
theorem FL (l:List ByteArray)(x:ByteArray)(hl:l.length≤4294967296):Runs T m0 [strs l,str x] (.int (VE l x)):=by
 refine .of_tree rfl xt tg ?_
 simp[fh]
 refine .scan l.length (fun k=>l.getD k default≠x) (fun k=>[.int 0,.int k]) (fun _=>[]) ?_ (fun k hk hj ho=>?_) (fun k hk hj ho=>?_) (fun hj=>?_)
 ·simp
 ·have hw:=ar hk hl
  simp[hk] at ho
  have ho':¬x=l[k]:=fun e=>ho e.symm
  simp[cO,bm,hk,hw,strs,ho,ho']
 ·obtain⟨hm,he⟩:=idx_eq hk hj ho
  simp[hk] at ho
  simp[cO,bm,hk,strs,ho,VE,hm,he]
 ·have:=Vx hj
  simp[cO,bm,VE,this,strs]
theorem zj (l:List ByteArray)(x:ByteArray)(hl:l.length≤4294967296):Runs T jv [strs l,str x] (.bool (hasB l x)):=by
 refine .of_tree rfl sY qn ?_
 simp[dC]
 refine⟨_,FL l x hl,?_⟩
 have:=ZG l x
 simp at this ⊢
 exact this
def xQ (l:List Int)(a b:Int)(k:Nat):Bool:=wi (l.getD k 0) a b&&(k==0||decide (l.getD (k-1) 0<l.getD k 0))
def rising (l:List Int)(a b:Int):Bool:=mD l.length (xQ l a b)
theorem dN (l:List Int)(a b:Int)(hl:l.length≤4294967296):Runs T Ak [ints l,.int a,.int b] (.bool (rising l a b)):=by
 refine .of_tree rfl L0 C9 ?_
 simp[qg]
 refine gl l.length (xQ l a b) (fun k=>[.bool false,.int k]) (fun _=>[]) ?_ (fun k hk ho=>?_) (fun k hk ho hb=>?_) (fun hj=>?_)
 ·simp
 ·have hw:=ar hk hl
  simp[xQ,wi,hk] at ho
  obtain⟨⟨h1,h2⟩,h3⟩:=ho
  have h1':¬l[k]<a:=by omega
  have h2':¬b<l[k]:=by omega
  by_cases hk0:0<k
  ·have hk1:k-1<l.length:=by omega
   have hw2:IntKind.i64.wrap ((k:Int)-1)=((k-1:Nat):Int):=by rw[iV (by omega)];omega
   have h3':¬l[k]≤l[k-1]:=by
        rcases h3 with h3|h3
        ·omega
        ·simp[hk1] at h3;omega
   simp[bt,bh,hk,hw,hw2,ints,h1',h2',h3',hk0,hk1]
  ·simp[bt,bh,hk,hw,ints,h1',h2',hk0]
 ·have hf:rising l a b=false:=hb
  simp[xQ,wi,hk] at ho
  by_cases h1:l[k]<a
  ·simp[bt,bh,hk,ints,h1,hf]
  by_cases h2:b<l[k]
  ·simp[bt,bh,hk,ints,h1,h2,hf]
  have h3:=ho (by omega) (by omega)
  have hk0:0<k:=by omega
  have hk1:k-1<l.length:=by omega
  have hw2:IntKind.i64.wrap ((k:Int)-1)=((k-1:Nat):Int):=by rw[iV (by omega)];omega
  have h3':=h3.2
  simp[hk1] at h3'
  simp[bt,bh,hk,hw2,ints,h1,h2,h3',hk0,hk1,hf]
 ·have hf:rising l a b=true:=hj
  simp[bt,bh,hf]
def GU (c:Int):Bool:=wi c 97 122||wi c 65 90
def okc (i:Nat)(c:Int):Bool:=GU c||(i !=0&&(decide (c=95)||wi c 48 57))
def WM (s:ByteArray)(k:Nat):Int:=((s.data.toList.getD k 0).toNat:Nat)
def kU (s:ByteArray):Bool:=decide (1≤s.size)&&decide (s.size≤20)&&mD s.size (fun k=>okc k (WM s k))
theorem Bb {s:ByteArray}{k:Nat}(h:k<s.data.size):(s.data[k].toNat:Int)=WM s k:=by
 unfold WM
 rw[List.getD_eq_getElem?_getD,List.getElem?_eq_getElem (by simpa using h)];rfl
theorem size_zero {s:ByteArray}:s=⟨#[]⟩↔s.size=0:=by
 constructor
 ·rintro rfl;rfl
 ·intro h;cases s with|mk d=>congr;exact Array.eq_empty_of_size_eq_zero h
theorem FJ (s:ByteArray):Runs T zJ [str s] (.bool (kU s)):=by
 refine .of_tree rfl LM Eb ?_
 simp[pQ]
 by_cases h0:s=⟨#[]⟩
 ·have hn:kU s=false:=by simp[kU,size_zero.1 h0]
  rw[hn];simp[h0]
 by_cases h1:(20:Int)<s.size
 ·have h1':¬s.size≤20:=by omega
  simp[h0,h1,kU,h1']
 have hz:1≤s.size:=by
  have:s.size≠0:=fun e=>h0 (size_zero.2 e)
  omega
 have h1':s.size≤20:=by omega
 simp[h0,h1]
 refine⟨by omega,gl s.size (fun k=>okc k (WM s k)) (fun k=>[.bool false,.int k]) (fun _=>[]) ?_ (fun k hk ho=>?_) (fun k hk ho hb=>?_) (fun hj=>?_)⟩
 ·simp
 ·have hw:=ar hk (by omega)
  have hk':k<s.data.size:=hk
  have hg:=Bb hk'
  simp[okc,GU,wi] at ho
  simp[gN,dR,hk,hk',hw,hg]
  omega
 ·have hk':k<s.data.size:=hk
  have hg:=Bb hk'
  have hn:kU s=false:=by simp[kU,hb]
  simp[okc,GU,wi] at ho
  simp[gN,dR,hk,hk',hg,hn]
  omega
 ·have hn:kU s=true:=by simp[kU,hj,hz,h1']
  have hd:s.data.size=s.size:=rfl
  simp[gN,dR,hn,hd]
theorem xL (c:Int):Runs T Fc [.v (.int .u8 c)] (.bool (GU c)):=by
 refine .of_tree rfl RL IQ ?_
 simp[uC,GU,wi]
 by_cases h:97≤c<;>by_cases h2:c≤122<;>by_cases h3:65≤c<;>by_cases h4:c≤90<;>simp[h,h2,h3,h4]
theorem Rk (s:ByteArray):Runs T N1 [str s] (.bool (kU s)):=by
 refine .of_tree rfl Xs ON ?_
 simp[zi]
 by_cases h0:(s.size:Int)<1
 ·have hn:kU s=false:=by simp[kU];omega
  simp[h0,hn]
 by_cases h1:(20:Int)<s.size
 ·have hn:kU s=false:=by simp[kU];omega
  simp[h0,h1,hn]
 rw[if_neg (by omega)]
 refine gl s.size (fun k=>okc k (WM s k)) (fun k=>[.bool false,.int k]) (fun _=>[]) ?_ (fun k hk ho=>?_) (fun k hk ho hb=>?_) (fun hj=>?_)
 ·simp
 ·have hw:=ar hk (by omega)
  have hk':k<s.data.size:=hk
  have hg:=Bb hk'
  simp[okc,wi] at ho
  simp[np,jK,hk,hk',hw,hg]
  refine⟨_,xL _,?_⟩
  simp[hw]
  intro g1 g2
  exfalso
  rcases ho with h|h
  ·rw[h] at g1;cases g1
  ·omega
 ·have hk':k<s.data.size:=hk
  have hg:=Bb hk'
  have hn:kU s=false:=by simp[kU,hb]
  simp[okc,wi] at ho
  simp[np,jK,hk,hk',hg,hn]
  refine⟨_,xL _,?_⟩
  simp[ho.1]
  omega
 ·have hn:kU s=true:=by simp[kU,hj];omega
  simp[np,jK,hn]
end Rm
namespace Rm
open Go Go.Proofs Cx
theorem Ms (l:List ByteArray)(n:Nat)(x:ByteArray)(hn:n≤l.length)(hl:l.length≤4294967296):Runs T ES [strs l,.int n,str x] (.bool (hasB (l.take n) x)):=by
 refine .of_tree rfl Rz IG ?_
 simp[uR]
 refine .scan n (fun k=>l.getD k default≠x) (fun k=>[.bool false,.int k]) (fun _=>[]) ?_ (fun k hk hj ho=>?_) (fun k hk hj ho=>?_) (fun hj=>?_)
 ·simp
 ·have hk':k<l.length:=by omega
  have hw:=ar hk' hl
  simp[hk'] at ho
  simp[kM,fQ,hk,hk',hw,strs,ho]
 ·have hk':k<l.length:=by omega
  simp[hk'] at ho
  have hm:hasB (l.take n) x=true:=hasB_iff.2 (by rw[←ho,List.mem_take_iff_getElem];exact⟨k,by omega,rfl⟩)
  simp[kM,fQ,hk,hk',strs,ho,hm]
 ·have hm:hasB (l.take n) x=false:=hasB_not.2 (fun h=>by
   rw[List.mem_take_iff_getElem] at h
   obtain⟨k,hk,e⟩:=h
   have:=hj k (by omega)
   simp[show k<l.length by omega] at this
   exact this e)
  simp[kM,fQ,hm]
def dD (l:List ByteArray)(i:Nat):Int:=if kU (l.getD i default)=false then 2 else if hasB (l.take i) (l.getD i default) then 5 else 0
theorem zB (l:List ByteArray)(i n:Nat)(h:i<n):dD (l.take n) i=dD l i:=by
 unfold dD
 rw[List.getD_eq_getElem?_getD,List.getElem?_take_of_lt h,List.take_take,Nat.min_eq_left (by omega),←List.getD_eq_getElem?_getD]
theorem gZ (l:List ByteArray)(i:Nat)(hi:i<l.length)(hl:l.length≤4294967296):Runs T oz [strs l,.int i] (.int (dD l i)):=by
 refine .of_tree rfl Tx Lf ?_
 simp[wX,hi]
 refine⟨_,by simpa [strs,hi] using Rk l[i],?_⟩
 unfold dD
 rw[List.getD_eq_getElem?_getD,List.getElem?_eq_getElem hi,Option.getD_some]
 cases h1:kU l[i]<;>simp[h1]
 refine⟨_,by simpa [strs,hi] using Ms l i l[i] (by omega) hl,?_⟩
 cases h2:hasB (l.take i) l[i]<;>simp[h2]
theorem v9 (l:List ByteArray)(i:Nat)(hi:i<l.length)(hl:l.length≤4294967296):Runs T CN [strs l,.int i] (.int (dD l i)):=by
 refine .of_tree rfl On Gp ?_
 simp[sP,hi]
 refine⟨_,by simpa [strs,hi] using FJ l[i],?_⟩
 unfold dD
 rw[List.getD_eq_getElem?_getD,List.getElem?_eq_getElem hi,Option.getD_some]
 cases h1:kU l[i]<;>simp[h1]
 refine⟨by omega,_,by simpa [strs,hi] using zj (l.take i) l[i] (by rw[List.length_take];omega),?_⟩
 cases h2:hasB (l.take i) l[i]<;>simp[h2]
def AA (l:List ByteArray)(g:Nat→Bool)(i:Nat):Int:=if dD l i≠0 then dD l i else if g i then 0 else 1
def eR (l:List ByteArray)(most:Int)(g:Nat→Bool):Int:=if most<l.length then 6 else kH l.length (AA l g)
theorem ka (l:List ByteArray)(most:Int)(f:Nat)(caps:List D)(g:Nat→Bool)(hg:∀i:Nat,i<l.length→Runs T f (.int i::caps) (.bool (g i)))(hl:l.length≤4294967296):
 Runs T GJ [strs l,.int most,.clo f caps] (.int (eR l most g)):=by
 refine .of_tree rfl Rb IP ?_
 simp[uW,eR]
 by_cases h0:most<l.length
 ·simp[h0];intro h;omega
 simp[h0]
 refine Kj l.length (AA l g) (fun k=>[.int 0,.int k]) (fun _=>[]) ?_ (fun k hk ho=>?_) (fun k hk ho hb=>?_) (fun hj=>?_)
 ·simp
 ·have hw:=ar hk hl
  have h1:dD l k=0:=by
   refine Classical.byContradiction fun h=>?_
   unfold AA at ho;rw[if_pos h] at ho;exact h ho
  have h2:g k=true:=by
   unfold AA at ho;rw[if_neg (by simpa using h1)] at ho
   cases h:g k with
   |true=>rfl
   |false=>rw[h] at ho;simp at ho
  simp[kD,fG,hk,hw]
  refine⟨_,v9 l k hk hl,?_⟩
  simp[h1]
  refine⟨_,_,⟨rfl,rfl⟩,_,hg k hk,?_⟩
  simp[h2,hw]
 ·simp[kD,fG,hk,hb]
  refine⟨_,v9 l k hk hl,?_⟩
  unfold AA at ho ⊢
  by_cases h1:dD l k=0
  ·simp[h1] at ho ⊢
   refine⟨_,_,⟨rfl,rfl⟩,_,hg k hk,?_⟩
   simp[ho]
  ·simp[h1]
 ·simp[kD,fG,hj]
theorem pR (l:List Int)(a b:Int)(hl:l.length≤4294967296):Runs T Fb [ints l,.int a,.int b] (.bool (rising l a b)):=by
 refine .of_tree rfl Rw Iu ?_
 simp[uP]
 refine gl l.length (xQ l a b) (fun k=>[.bool false,.int k]) (fun _=>[]) ?_ (fun k hk ho=>?_) (fun k hk ho hb=>?_) (fun hj=>?_)
 ·simp
 ·have hw:=ar hk hl
  simp[xQ,hk] at ho
  simp[kB,fJ,hk,hw,ints]
  refine⟨_,ae _ _ _,?_⟩
  by_cases hk0:0<k
  ·have hk1:k-1<l.length:=by omega
   have hw2:IntKind.i64.wrap ((k:Int)-1)=((k-1:Nat):Int):=by rw[iV (by omega)];omega
   have h3':¬l[k]≤l[k-1]:=by
        rcases ho.2 with h3|h3
        ·omega
        ·simp[hk1] at h3;omega
   simp[ho.1,hk,hw,hw2,h3',hk0,hk1]
  ·simp[ho.1,hk,hw,hk0];omega
 ·have hf:rising l a b=false:=hb
  simp[xQ,hk] at ho
  simp[kB,fJ,hk,ints,hf]
  refine⟨_,ae _ _ _,?_⟩
  cases h1:wi l[k] a b with
  |false=>simp
  |true=>
   have h3:=ho h1
   have hk0:0<k:=by omega
   have hk1:k-1<l.length:=by omega
   have hw2:IntKind.i64.wrap ((k:Int)-1)=((k-1:Nat):Int):=by rw[iV (by omega)];omega
   have h3':=h3.2
   simp[hk1] at h3'
   simp[hk,hw2,h3',hk0,hk1]
 ·have hf:rising l a b=true:=hj
  simp[kB,fJ,hf]
theorem Ya (n:Int):n.tdiv 100=if 0≤n then n/100 else-((-n)/100):=by
 split
 ·rename_i h;exact Int.tdiv_eq_ediv_of_nonneg h
 ·rename_i h
  have e:n.tdiv 100=-((-n).tdiv 100):=by rw[Int.neg_tdiv,Int.neg_neg]
  rw[e,Int.tdiv_eq_ediv_of_nonneg (by omega)]
theorem abi (n:Int):n.tmod 100=n-100*n.tdiv 100:=Int.tmod_def n 100
theorem aej {n:Int}(h:I64 n):IntKind.i64.wrap (n.tdiv 100)=n.tdiv 100:=ay (by rw[Ya];unfold I64 at h;split<;>omega)
def yd (r:Realm)(c:City):Bool:=mD c.feasts.length (fun k=>wi ((c.feasts.getD k 0).tmod 100) 1 31)&&(decide (c.feasts.length≤60)&&decide (c.shut.length≤200)&&inB c.order r.orders.length&&inB c.currency r.currencies.length)&&
 (rising c.rest 0 6&&rising c.feasts 101 1231&&rising c.shut 0 100000)
theorem Lh (r:Realm)(c:City)(h1:c.rest.length≤4294967296)(h2:c.feasts.length≤4294967296)(h3:c.shut.length≤4294967296):Runs T GC [au r,bD c] (.bool (yd r c)):=by
 refine .of_tree rfl RG JA ?_
 simp[uY]
 refine gl c.feasts.length (fun k=>wi ((c.feasts.getD k 0).tmod 100) 1 31) (fun k=>[.bool false,.int k]) (fun _=>[]) ?_ (fun k hk ho=>?_) (fun k hk ho hb=>?_) (fun hj=>?_)
 ·simp
 ·have hw:=ar hk h2
  simp[wi,hk] at ho
  have g1:¬(c.feasts[k].tmod 100<1):=by omega
  have g2:¬(31<c.feasts[k].tmod 100):=by omega
  simp[kj,fW,hk,hw,ints,g1,g2]
 ·have hf:yd r c=false:=by simp only[yd,hb,Bool.false_and]
  simp[wi,hk] at ho
  simp[kj,fW,hk,ints,hf]
  by_cases g1:c.feasts[k].tmod 100<1
  ·simp[g1]
  ·have g2:=ho (by omega)
   simp[g1,g2]
 ·simp[kj,fW]
  by_cases g1:(c.feasts.length:Int)≤60
  case neg=>
   have hf:yd r c=false:=by
        have g1':decide (c.feasts.length≤60)=false:=decide_eq_false (by omega)
        simp only[yd,g1',Bool.false_and,Bool.and_false]
   have g1':(60:Int)<c.feasts.length:=by omega
   simp[g1,g1',hf]
  by_cases g2:(c.shut.length:Int)≤200
  case neg=>
   have hf:yd r c=false:=by
        have g1':decide (c.shut.length≤200)=false:=decide_eq_false (by omega)
        simp only[yd,g1',Bool.false_and,Bool.and_false]
   have g2':(200:Int)<c.shut.length:=by omega
   simp[g1,g2,g2',hf]
  have g1':¬(60:Int)<c.feasts.length:=by omega
  have g2':¬(200:Int)<c.shut.length:=by omega
  have hf:yd r c=(inB c.order r.orders.length&&inB c.currency r.currencies.length&&(rising c.rest 0 6&&rising c.feasts 101 1231&&rising c.shut 0 100000)):=by
   have e1:decide (c.feasts.length≤60)=true:=decide_eq_true (by omega)
   have e2:decide (c.shut.length≤200)=true:=decide_eq_true (by omega)
   simp only[yd,hj,e1,e2,Bool.true_and]
  rw[hf]
  simp[g1,g2,g1',g2']
  refine⟨_,aB _ _,?_⟩
  simp
  cases e1:inB c.order r.orders.length<;>simp
  refine⟨_,aB _ _,?_⟩
  simp
  cases e2:inB c.currency r.currencies.length<;>simp
  refine⟨_,dN _ _ _ h1,?_⟩
  simp
  cases e3:rising c.rest 0 6<;>simp
  refine⟨_,dN _ _ _ h2,?_⟩
  simp
  cases e4:rising c.feasts 101 1231<;>simp
  exact dN _ _ _ h3
def zV (r:Realm)(c:City):Bool:=(wi c.order 0 (r.orders.length-1)&&wi c.currency 0 (r.currencies.length-1)&&decide (c.feasts.length≤60)&&decide (c.shut.length≤200))&&
 mD c.feasts.length (fun k=>wi ((c.feasts.getD k 0).tdiv 100) 1 12&&wi ((c.feasts.getD k 0).tmod 100) 1 31)&&(rising c.rest 0 6&&rising c.feasts 0 2000&&rising c.shut 0 100000)
theorem Ck (n:Nat)(h:n≤4294967296):IntKind.i64.wrap ((n:Int)-1)=(n:Int)-1:=ay (by omega)
theorem Dj (r:Realm)(c:City)(h1:c.rest.length≤4294967296)(h2:c.feasts.length≤4294967296)(h3:c.shut.length≤4294967296)(h4:r.orders.length≤4294967296)(h5:r.currencies.length≤4294967296)(hi:∀y,y∈c.feasts→I64 y):
 Runs T oS [au r,bD c] (.bool (zV r c)):=by
 refine .of_tree rfl HL BT ?_
 simp[nF,Ck _ h4,Ck _ h5]
 refine⟨_,ae _ _ _,?_⟩
 cases e1:wi c.order 0 (r.orders.length-1)
 case false=>simp[zV,e1]
 simp
 refine⟨_,ae _ _ _,?_⟩
 cases e2:wi c.currency 0 (r.currencies.length-1)
 case false=>simp[zV,e1,e2]
 by_cases g1:(c.feasts.length:Int)≤60
 case neg=>
  have hf:zV r c=false:=by
   have g1':decide (c.feasts.length≤60)=false:=decide_eq_false (by omega)
   simp only[zV,g1',Bool.false_and,Bool.and_false]
  have g1':(60:Int)<c.feasts.length:=by omega
  simp[g1',hf]
 by_cases g2:(c.shut.length:Int)≤200
 case neg=>
  have hf:zV r c=false:=by
   have g1':decide (c.shut.length≤200)=false:=decide_eq_false (by omega)
   simp only[zV,g1',Bool.false_and,Bool.and_false]
  have g2':(200:Int)<c.shut.length:=by omega
  simp[g2',hf]
 have g1':¬(60:Int)<c.feasts.length:=by omega
 have g2':¬(200:Int)<c.shut.length:=by omega
 have hf:zV r c=(mD c.feasts.length (fun k=>wi ((c.feasts.getD k 0).tdiv 100) 1 12&&wi ((c.feasts.getD k 0).tmod 100) 1 31)&&(rising c.rest 0 6&&rising c.feasts 0 2000&&rising c.shut 0 100000)):=by
  have e3:decide (c.feasts.length≤60)=true:=decide_eq_true (by omega)
  have e4:decide (c.shut.length≤200)=true:=decide_eq_true (by omega)
  simp only[zV,e1,e2,e3,e4,Bool.true_and]
 rw[hf]
 simp[g1',g2']
 refine gl c.feasts.length (fun k=>wi ((c.feasts.getD k 0).tdiv 100) 1 12&&wi ((c.feasts.getD k 0).tmod 100) 1 31) (fun k=>[.bool false,.int k]) (fun _=>[]) ?_ (fun k hk ho=>?_) (fun k hk ho hb=>?_) (fun hj=>?_)
 ·simp
 ·have hw:=ar hk h2
  have hI:=hi _ (List.getElem_mem hk)
  have hq:IntKind.i64.wrap (c.feasts[k].tdiv 100)=c.feasts[k].tdiv 100:=aej hI
  simp[hk] at ho
  simp[gh,dp,hk,ints,hq]
  refine⟨_,ae _ _ _,?_⟩
  simp[ho.1,hk]
  refine⟨_,ae _ _ _,?_⟩
  simp[ho.2,hk,hw]
 ·have hI:=hi _ (List.getElem_mem hk)
  have hq:IntKind.i64.wrap (c.feasts[k].tdiv 100)=c.feasts[k].tdiv 100:=aej hI
  simp[hk] at ho
  simp only[List.getD_eq_getElem?_getD] at hb
  rw[hb]
  simp[gh,dp,hk,ints,hq]
  refine⟨_,ae _ _ _,?_⟩
  cases e3:wi (c.feasts[k].tdiv 100) 1 12 with
  |false=>simp
  |true=>
   have:=ho e3
   simp[hk]
   refine⟨_,ae _ _ _,?_⟩
   simp[this]
 ·simp only[List.getD_eq_getElem?_getD] at hj
  rw[hj]
  simp[gh,dp]
  refine⟨_,pR _ _ _ h1,?_⟩
  simp
  cases e3:rising c.rest 0 6<;>simp
  refine⟨_,pR _ _ _ h2,?_⟩
  simp
  cases e4:rising c.feasts 0 2000<;>simp
  exact pR _ _ _ h3
theorem adA (r:Realm)(c:City):zV r c=yd r c:=by
 rw[Bool.eq_iff_iff]
 have hin:∀(i:Int) (n:Nat),(wi i 0 (n-1)=true)↔(inB i n=true):=by intro i n;simp[wi,inB];omega
 simp only[zV,yd,Bool.and_eq_true,decide_eq_true_eq,hin,rising,allB_iff,xQ]
 constructor
 ·rintro⟨⟨⟨⟨⟨a1,a2⟩,a3⟩,a4⟩,a5⟩,⟨a6,a7⟩,a8⟩
  refine⟨⟨fun k hk=>(a5 k hk).2,⟨⟨⟨a3,a4⟩,a1⟩,a2⟩⟩,⟨a6,fun k hk=>?_⟩,a8⟩
  have h1:=a5 k hk
  have h2:=a7 k hk
  simp[wi,abi,Ya] at h1 h2 ⊢
  split at h1<;>omega
 ·rintro⟨⟨a5,⟨⟨⟨a3,a4⟩,a1⟩,a2⟩⟩,⟨a6,a7⟩,a8⟩
  refine⟨⟨⟨⟨⟨a1,a2⟩,a3⟩,a4⟩,fun k hk=>?_⟩,⟨a6,fun k hk=>?_⟩,a8⟩
  ·have h1:=a5 k hk
   have h2:=a7 k hk
   simp[wi,abi,Ya] at h1 h2 ⊢
   split at h1<;>(try split)<;>omega
  ·have h2:=a7 k hk
   simp[wi] at h2 ⊢
   omega
end Rm
namespace Rm
open Go Go.Proofs Cx
theorem vA {α β:Type}(f:α→β){l:List α}{k:Nat}(h:k<l.length):(l.take (k+1)).map f=(l.take k).map f++[f l[k]]:=by
 rw[List.take_succ_eq_append_getElem h,List.map_append];rfl
theorem J9 (i:Int)(n:Nat):inB i n=wi i 0 ((n:Int)-1):=by
 rw[Bool.eq_iff_iff];simp[wi,inB];omega
def aa7 (o:Order):List Int:=o.choices.map (·.ask)
def ac5 (o:Order):List Int:=o.rules.map (·.ask)
def sk (o:Order):Bool:=mD o.choices.length (fun k=>inB (o.choices.getD k default).by_ 5)&&(rising (aa7 o) 0 21&&rising (ac5 o) 0 21)
theorem Jy (o:Order)(h1:o.choices.length≤100000)(h2:o.rules.length≤100000):Runs T B5 [bP o] (.bool (sk o)):=by
 refine .of_tree rfl Qs G1 ?_
 simp[rP]
 refine gl o.choices.length (fun k=>inB (o.choices.getD k default).by_ 5) (fun k=>[.bool false,.none,.int k]) (fun k=>[ints ((o.choices.take k).map (·.ask))]) ?_ (fun k hk ho=>?_) (fun k hk ho hb=>?_) (fun hj=>?_)
 ·simp[ints]
 ·have hw:=ar hk (by omega)
  have hl:(o.choices.take k).length=k:=by rw[List.length_take];omega
  simp[hk] at ho
  rw[vA _ hk]
  simp[jm,eM,hk,hw,ints,hl]
  refine⟨by omega,_,aB _ _,?_⟩
  simp[ho,hw]
 ·have hf:sk o=false:=by simp only[sk,hb,Bool.false_and]
  have hl:(o.choices.take k).length=k:=by rw[List.length_take];omega
  simp[hk] at ho
  simp[jm,eM,hk,ints,hl,hf]
  refine⟨by omega,_,aB _ _,?_⟩
  simp[ho]
 ·have hf:sk o=(rising (aa7 o) 0 21&&rising (ac5 o) 0 21):=by simp only[sk,hj,Bool.true_and]
  rw[hf]
  simp[jm,eM]
  refine EvP.forRounds o.rules.length (fun k=>[.none,.int k]) (fun k=>[ints ((o.rules.take k).map (·.ask))]) ?_ (fun k hk=>?_) ?_
  ·simp[ints]
  ·have hw:=ar hk (by omega)
   have hl:(o.rules.take k).length=k:=by rw[List.length_take];omega
   rw[vA _ hk]
   simp[qy,iL,hk,hw,ints,hl]
   omega
  ·simp[qy,iL]
   refine⟨_,dN (aa7 o) _ _ (by simp[aa7];omega),?_⟩
   simp
   cases e1:rising (aa7 o) 0 21<;>simp
   exact dN (ac5 o) _ _ (by simp[ac5];omega)
def wq (o:Order)(k:Nat):Bool:=wi (o.choices.getD k default).ask 0 21&&wi (o.choices.getD k default).by_ 0 4&&(k==0||decide ((o.choices.getD (k-1) default).ask<(o.choices.getD k default).ask))
def AP (o:Order)(k:Nat):Bool:=wi (o.rules.getD k default).ask 0 21&&(k==0||decide ((o.rules.getD (k-1) default).ask<(o.rules.getD k default).ask))
theorem acp (o:Order):(mD o.choices.length (wq o)&&mD o.rules.length (AP o))=sk o:=by
 rw[Bool.eq_iff_iff]
 simp only[sk,Bool.and_eq_true,rising,allB_iff,aa7,ac5,List.length_map]
 have g1:∀k,k<o.choices.length→(xQ (o.choices.map (·.ask)) 0 21 k=true↔wi (o.choices.getD k default).ask 0 21=true∧(k=0∨(o.choices.getD (k-1) default).ask<(o.choices.getD k default).ask)):=by
  intro k hk
  have hk1:k-1<o.choices.length:=by omega
  simp[xQ,hk,hk1]
 have g2:∀k,k<o.rules.length→(xQ (o.rules.map (·.ask)) 0 21 k=true↔wi (o.rules.getD k default).ask 0 21=true∧(k=0∨(o.rules.getD (k-1) default).ask<(o.rules.getD k default).ask)):=by
  intro k hk
  have hk1:k-1<o.rules.length:=by omega
  simp[xQ,hk,hk1]
 constructor
 ·rintro⟨a,b⟩
  refine⟨fun k hk=>?_,fun k hk=>(g1 k hk).2 ?_,fun k hk=>(g2 k hk).2 ?_⟩
  ·have:=a k hk
   simp[wq,wi,inB] at this ⊢;omega
  ·have:=a k hk
   simp[wq] at this ⊢
   exact⟨this.1.1,this.2⟩
  ·have:=b k hk
   simp[AP] at this ⊢
   exact this
 ·rintro⟨c,a,b⟩
  refine⟨fun k hk=>?_,fun k hk=>?_⟩
  ·have h1:=(g1 k hk).1 (a k hk)
   have h2:=c k hk
   simp[wq,wi,inB] at h1 h2 ⊢;omega
  ·have h1:=(g2 k hk).1 (b k hk)
   simp[AP] at h1 ⊢
   exact h1
theorem BO (o:Order)(h1:o.choices.length≤100000)(h2:o.rules.length≤100000):Runs T nl [bP o] (.bool (sk o)):=by
 rw[←acp]
 refine .of_tree rfl FD Aq ?_
 simp[mF]
 refine gl o.choices.length (wq o) (fun k=>[.bool false,.int k]) (fun _=>[]) ?_ (fun k hk ho=>?_) (fun k hk ho hb=>?_) (fun hj=>?_)
 ·simp
 ·have hw:=ar hk (by omega)
  simp[wq,hk] at ho
  simp[ff,cE,hk]
  refine⟨_,ae _ _ _,?_⟩
  simp[ho.1.1,hk]
  refine⟨_,ae _ _ _,?_⟩
  by_cases hk0:0<k
  ·have hk1:k-1<o.choices.length:=by omega
   have hw2:IntKind.i64.wrap ((k:Int)-1)=((k-1:Nat):Int):=by rw[iV (by omega)];omega
   have h3:¬o.choices[k].ask≤o.choices[k-1].ask:=by
        rcases ho.2 with h3|h3
        ·omega
        ·simp[hk1] at h3;omega
   simp[ho.1.2,hk,hw,hw2,h3,hk0,hk1]
  ·simp[ho.1.2,hk,hw,hk0];omega
 ·rw[hb]
  simp[wq,hk] at ho
  simp[ff,cE,hk]
  refine⟨_,ae _ _ _,?_⟩
  cases e1:wi o.choices[k].ask 0 21 with
  |false=>simp
  |true=>
   simp[hk]
   refine⟨_,ae _ _ _,?_⟩
   cases e2:wi o.choices[k].by_ 0 4 with
   |false=>simp
   |true=>
    have h3:=ho e1 e2
    have hk0:0<k:=by omega
    have hk1:k-1<o.choices.length:=by omega
    have hw2:IntKind.i64.wrap ((k:Int)-1)=((k-1:Nat):Int):=by rw[iV (by omega)];omega
    have h3':=h3.2
    simp[hk1] at h3'
    simp[hk,hw2,h3',hk0,hk1]
 ·rw[hj]
  simp[ff,cE]
  refine gl o.rules.length (AP o) (fun k=>[.bool false,.int k]) (fun _=>[]) ?_ (fun k hk ho=>?_) (fun k hk ho hb=>?_) (fun hj=>?_)
  ·simp
  ·have hw:=ar hk (by omega)
   simp[AP,hk] at ho
   simp[fu,cD,hk]
   refine⟨_,ae _ _ _,?_⟩
   by_cases hk0:0<k
   ·have hk1:k-1<o.rules.length:=by omega
    have hw2:IntKind.i64.wrap ((k:Int)-1)=((k-1:Nat):Int):=by rw[iV (by omega)];omega
    have h3:¬o.rules[k].ask≤o.rules[k-1].ask:=by
       rcases ho.2 with h3|h3
       ·omega
       ·simp[hk1] at h3;omega
    simp[ho.1,hk,hw,hw2,h3,hk0,hk1]
   ·simp[ho.1,hk,hw,hk0];omega
  ·rw[hb]
   simp[AP,hk] at ho
   simp[fu,cD,hk]
   refine⟨_,ae _ _ _,?_⟩
   cases e1:wi o.rules[k].ask 0 21 with
   |false=>simp
   |true=>
    have h3:=ho e1
    have hk0:0<k:=by omega
    have hk1:k-1<o.rules.length:=by omega
    have hw2:IntKind.i64.wrap ((k:Int)-1)=((k-1:Nat):Int):=by rw[iV (by omega)];omega
    have h3':=h3.2
    simp[hk1] at h3'
    simp[hk,hw2,h3',hk0,hk1]
  ·rw[hj]
   simp[fu,cD]
def cd (r:Realm):List ByteArray:=r.cities.map (·.name)
def cf (r:Realm):List ByteArray:=r.firms.map (·.name)
def bJ (r:Realm):List ByteArray:=r.orders.map (·.name)
theorem Jv (r:Realm)(h1:r.cities.length≤100000)(h2:r.firms.length≤100000)(h3:r.orders.length≤100000):Runs T Cv [au r] (.tup [strs (cd r),strs (cf r),strs (bJ r)]):=by
 refine .of_tree rfl O1 GK ?_
 simp[rN]
 refine EvP.forRounds r.cities.length (fun k=>[.none,.int k]) (fun k=>[strs ((r.cities.take k).map (·.name))]) ?_ (fun k hk=>?_) ?_
 ·simp[strs]
 ·have hw:=ar hk (by omega)
  have hl:(r.cities.take k).length=k:=by rw[List.length_take];omega
  rw[vA _ hk]
  simp[qB,iJ,hk,hw,strs,hl]
  omega
 ·simp[qB,iJ]
  refine EvP.forRounds r.firms.length (fun k=>[.none,.int k]) (fun k=>[strs ((r.firms.take k).map (·.name))]) ?_ (fun k hk=>?_) ?_
  ·simp[strs]
  ·have hw:=ar hk (by omega)
   have hl:(r.firms.take k).length=k:=by rw[List.length_take];omega
   rw[vA _ hk]
   simp[qz,il,hk,hw,strs,hl]
   omega
  ·simp[qz,il]
   refine EvP.forRounds r.orders.length (fun k=>[.none,.int k]) (fun k=>[strs ((r.orders.take k).map (·.name))]) ?_ (fun k hk=>?_) ?_
   ·simp[strs]
   ·have hw:=ar hk (by omega)
    have hl:(r.orders.take k).length=k:=by rw[List.length_take];omega
    rw[vA _ hk]
    simp[qu,iv,hk,hw,strs,hl]
    omega
   ·simp[qu,iv,cd,cf,bJ]
end Rm
namespace Rm
open Go Go.Proofs Cx
structure Small (r:Realm):Prop where
 cur:r.currencies.length≤1000
 cities:r.cities.length≤1000
 groups:r.groups.length≤1000
 firms:r.firms.length≤1000
 orders:r.orders.length≤1000
 us:r.usances.length≤1000
 rates:r.rates.length≤1000
 halts:r.halts.length≤1000
 city:∀c,c∈r.cities→c.rest.length≤1000∧c.feasts.length≤1000∧c.shut.length≤1000∧∀y,y∈c.feasts→I64 y
 order:∀o,o∈r.orders→o.choices.length≤1000∧o.rules.length≤1000
 rate:∀x,x∈r.rates→I64 x.num∧I64 x.den
def usD (r:Realm)(k j:Nat):Bool:=(r.usances.getD j default).fr !=(r.usances.getD k default).fr||(r.usances.getD j default).to !=(r.usances.getD k default).to
def usE (r:Realm)(k:Nat):Int:=
 if(inB (r.usances.getD k default).fr r.cities.length&&inB (r.usances.getD k default).to r.cities.length&&wi (r.usances.getD k default).days 1 20000)=false then 1 else if mD k (usD r k) then 0 else 5
def oD (r:Realm):Int:=if 100<r.usances.length then 6 else kH r.usances.length (usE r)
theorem Dk (r:Realm)(h:Small r):Runs T x9 [au r] (.int (oD r)):=by
 refine .of_tree rfl HB BP ?_
 have hu:=h.us
 simp[nB,oD]
 by_cases h0:100<r.usances.length
 ·have h0':(100:Int)<r.usances.length:=by omega
  have h0'':¬r.usances.length≤100:=by omega
  simp[h0,h0',h0'']
 have h0':¬(100:Int)<r.usances.length:=by omega
 simp[h0,h0']
 refine Kj r.usances.length (usE r) (fun k=>[.int 0,.int k]) (fun _=>[]) ?_ (fun k hk ho=>?_) (fun k hk ho hb=>?_) (fun hj=>?_)
 ·simp
 ·have hw:=ar hk (by omega)
  have ha:inB r.usances[k].fr r.cities.length=true∧inB r.usances[k].to r.cities.length=true∧wi r.usances[k].days 1 20000=true∧mD k (usD r k)=true:=by
   unfold usE at ho
   simp only[List.getD_eq_getElem?_getD,List.getElem?_eq_getElem hk,Option.getD_some] at ho
   cases e1:inB r.usances[k].fr r.cities.length<;>cases e2:inB r.usances[k].to r.cities.length<;>cases e3:wi r.usances[k].days 1 20000<;>cases e4:mD k (usD r k)<;>simp[e1,e2,e3,e4] at ho ⊢
  obtain⟨a1,a2,a3,a4⟩:=ha
  simp[wi] at a3
  have a5:¬r.usances[k].days<1:=by omega
  have a6:¬20000<r.usances[k].days:=by omega
  simp[gg,dk,hk]
  refine⟨_,aB _ _,?_⟩
  simp[a1]
  refine⟨_,aB _ _,?_⟩
  simp[a2,a5,a6]
  refine⟨by omega,gl k (usD r k) (fun j=>[.int 0,.int j]) (fun _=>[]) ?_ (fun j hj ho2=>?_) (fun j hj ho2 hb2=>?_) (fun hjj=>?_)⟩
  ·simp
  ·have hwj:=ar hj (by omega)
   have hj':j<r.usances.length:=by omega
   have hm:j<min k r.usances.length:=by omega
   simp[usD,hj',hk] at ho2
   simp[dx,bS,hj,hj',hk,hwj,hm]
   intro e e';rcases ho2 with h|h
   ·exact absurd e h
   ·exact absurd e' h
  ·rw[a4] at hb2;cases hb2
  ·simp[dx,bS,hw]
   omega
 ·simp[gg,dk,hk,hb]
  refine⟨_,aB _ _,?_⟩
  unfold usE at ho ⊢
  simp only[List.getD_eq_getElem?_getD,List.getElem?_eq_getElem hk,Option.getD_some] at ho ⊢
  cases e1:inB r.usances[k].fr r.cities.length
  ·simp
  simp
  refine⟨_,aB _ _,?_⟩
  cases e2:inB r.usances[k].to r.cities.length
  ·simp
  cases e3:wi r.usances[k].days 1 20000
  ·simp[wi] at e3
   by_cases g:r.usances[k].days<1
   ·simp[g]
   ·simp[g,e3 (by omega)]
  have e3':=e3
  simp[wi] at e3'
  have a5:¬r.usances[k].days<1:=by omega
  have a6:¬20000<r.usances[k].days:=by omega
  simp[e1,e2,e3] at ho
  simp[a5,a6]
  refine⟨by omega,gl k (usD r k) (fun j=>[.int 0,.int j]) (fun _=>[]) ?_ (fun j hj ho2=>?_) (fun j hj ho2 hb2=>?_) (fun hjj=>?_)⟩
  ·simp
  ·have hwj:=ar hj (by omega)
   have hj':j<r.usances.length:=by omega
   have hm:j<min k r.usances.length:=by omega
   simp[usD,hj',hk] at ho2
   simp[dx,bS,hj,hj',hk,hwj,hm]
   intro e e';rcases ho2 with h|h
   ·exact absurd e h
   ·exact absurd e' h
  ·have hj':j<r.usances.length:=by omega
   have hm:j<min k r.usances.length:=by omega
   simp[usD,hj',hk] at ho2
   simp[dx,bS,hj,hj',hk,ho,hm]
   first|exact ho2|simp[ho2]
  ·rw[hjj] at ho;cases ho
 ·simp[gg,dk,hj]
theorem Jr (r:Realm)(h:Small r):Runs T Ch [au r] (.int (oD r)):=by
 refine .of_tree rfl O7 Ff ?_
 have hu:=h.us
 have hc:=h.cities
 simp[rG,oD]
 by_cases h0:100<r.usances.length
 ·have h0':(100:Int)<r.usances.length:=by omega
  have h0'':¬r.usances.length≤100:=by omega
  simp[h0,h0',h0'']
 have h0':¬(100:Int)<r.usances.length:=by omega
 simp[h0,h0']
 refine Kj r.usances.length (usE r) (fun k=>[.int 0,.int k]) (fun _=>[]) ?_ (fun k hk ho=>?_) (fun k hk ho hb=>?_) (fun hj=>?_)
 ·simp
 ·have hw:=ar hk (by omega)
  have ha:inB r.usances[k].fr r.cities.length=true∧inB r.usances[k].to r.cities.length=true∧wi r.usances[k].days 1 20000=true∧mD k (usD r k)=true:=by
   unfold usE at ho
   simp only[List.getD_eq_getElem?_getD,List.getElem?_eq_getElem hk,Option.getD_some] at ho
   cases e1:inB r.usances[k].fr r.cities.length<;>cases e2:inB r.usances[k].to r.cities.length<;>cases e3:wi r.usances[k].days 1 20000<;>cases e4:mD k (usD r k)<;>simp[e1,e2,e3,e4] at ho ⊢
  obtain⟨a1,a2,a3,a4⟩:=ha
  rw[J9] at a1 a2
  simp[je,eT,hk,Ck _ (show r.cities.length≤4294967296 by omega)]
  refine⟨_,ae _ _ _,?_⟩
  simp[a1,Ck _ (show r.cities.length≤4294967296 by omega)]
  refine⟨_,ae _ _ _,?_⟩
  simp[a2]
  refine⟨_,ae _ _ _,?_⟩
  simp[a3]
  refine gl k (usD r k) (fun j=>[.int 0,.int j]) (fun _=>[]) ?_ (fun j hj ho2=>?_) (fun j hj ho2 hb2=>?_) (fun hjj=>?_)
  ·simp
  ·have hwj:=ar hj (by omega)
   have hj':j<r.usances.length:=by omega
   simp[usD,hj',hk] at ho2
   simp[eG,dg,hj,hj',hk,hwj]
   intro e e';rcases ho2 with h|h
   ·exact absurd e h
   ·exact absurd e' h
  ·rw[a4] at hb2;cases hb2
  ·simp[eG,dg,hw]
 ·simp[je,eT,hk,hb,Ck _ (show r.cities.length≤4294967296 by omega)]
  refine⟨_,ae _ _ _,?_⟩
  unfold usE at ho ⊢
  simp only[List.getD_eq_getElem?_getD,List.getElem?_eq_getElem hk,Option.getD_some,J9] at ho ⊢
  cases e1:wi r.usances[k].fr 0 ((r.cities.length:Int)-1)
  ·simp
  simp[Ck _ (show r.cities.length≤4294967296 by omega)]
  refine⟨_,ae _ _ _,?_⟩
  cases e2:wi r.usances[k].to 0 ((r.cities.length:Int)-1)
  ·simp
  simp
  refine⟨_,ae _ _ _,?_⟩
  cases e3:wi r.usances[k].days 1 20000
  ·simp
  simp[e1,e2,e3] at ho
  simp
  refine gl k (usD r k) (fun j=>[.int 0,.int j]) (fun _=>[]) ?_ (fun j hj ho2=>?_) (fun j hj ho2 hb2=>?_) (fun hjj=>?_)
  ·simp
  ·have hwj:=ar hj (by omega)
   have hj':j<r.usances.length:=by omega
   simp[usD,hj',hk] at ho2
   simp[eG,dg,hj,hj',hk,hwj]
   intro e e';rcases ho2 with h|h
   ·exact absurd e h
   ·exact absurd e' h
  ·have hj':j<r.usances.length:=by omega
   simp[usD,hj',hk] at ho2
   simp[eG,dg,hj,hj',hk,ho]
   first|exact ho2|simp[ho2]
  ·rw[hjj] at ho;cases ho
 ·simp[je,eT,hj]
def Pg (r:Realm)(k:Nat):Bool:=inB (r.rates.getD k default).fr r.currencies.length&&inB (r.rates.getD k default).to r.currencies.length&&((r.rates.getD k default).fr !=(r.rates.getD k default).to)&&
 wi (r.rates.getD k default).num 1 1073741824&&wi (r.rates.getD k default).den 1 1073741824&&wi (r.rates.getD k default).since 0 100000
def KN (r:Realm)(k:Nat):Bool:=inB (r.halts.getD k default).order r.orders.length&&wi (r.halts.getD k default).fr 0 (r.halts.getD k default).to&&decide ((r.halts.getD k default).to≤100000)
def ph (r:Realm):Int:=if 100<r.rates.length then 6 else if mD r.rates.length (Pg r)=false then 1 else if 20<r.halts.length then 6 else if mD r.halts.length (KN r) then 0 else 1
theorem MZ {n:Int}(h:I64 n)(m:Int)(hm:0≤m∧m≤4294967296):inB (IntKind.i64.wrap (n-1)) m=wi n 1 m:=by
 unfold I64 at h
 by_cases e:n=-9223372036854775808
 ·subst e
  have:IntKind.i64.wrap (-9223372036854775808-1)=9223372036854775807:=by decide
  rw[this,Bool.eq_iff_iff];simp[inB,wi];omega
 ·rw[ay (by omega),Bool.eq_iff_iff];simp[inB,wi];omega
theorem abl (n:Int):inB n 100001=wi n 0 100000:=by rw[Bool.eq_iff_iff];simp[inB,wi];omega
theorem Lb (r:Realm)(h:Small r):Runs T GP [au r] (.int (ph r)):=by
 refine .of_tree rfl Qw IS ?_
 have hu:=h.rates
 have hh:=h.halts
 simp[uX,ph]
 by_cases h0:100<r.rates.length
 ·have h0':(100:Int)<r.rates.length:=by omega
  have h0'':¬r.rates.length≤100:=by omega
  simp[h0,h0',h0'']
 have h0':¬(100:Int)<r.rates.length:=by omega
 simp[h0,h0']
 have key:∀k (hk:k<r.rates.length),∀{ρ:Env} {Q:Out→Prop},True:=fun _ _ _ _=>trivial
 refine gl r.rates.length (Pg r) (fun k=>[.int 0,.int k]) (fun _=>[]) ?_ (fun k hk ho=>?_) (fun k hk ho hb=>?_) (fun hj=>?_)
 ·simp
 ·have hw:=ar hk (by omega)
  have hI:=h.rate _ (List.getElem_mem hk)
  simp[Pg,hk] at ho
  obtain⟨⟨⟨⟨⟨a1,a2⟩,a3⟩,a4⟩,a5⟩,a6⟩:=ho
  simp[ku,fH,hk]
  refine⟨_,aB _ _,?_⟩
  simp[a1]
  refine⟨_,aB _ _,?_⟩
  simp[a2,a3]
  refine⟨_,aB _ _,?_⟩
  simp[MZ hI.1,a4]
  refine⟨_,aB _ _,?_⟩
  simp[MZ hI.2,a5]
  refine⟨_,aB _ _,?_⟩
  simp[abl,a6,hw]
 ·have hI:=h.rate _ (List.getElem_mem hk)
  rw[hb]
  simp[Pg,hk] at ho
  simp[ku,fH,hk]
  refine⟨_,aB _ _,?_⟩
  cases e1:inB r.rates[k].fr r.currencies.length
  ·simp
  simp
  refine⟨_,aB _ _,?_⟩
  cases e2:inB r.rates[k].to r.currencies.length
  ·simp
  by_cases e3:r.rates[k].fr=r.rates[k].to
  ·simp[e3]
  simp[e3]
  refine⟨_,aB _ _,?_⟩
  rw[MZ hI.1 _ (by omega)]
  cases e4:wi r.rates[k].num 1 1073741824
  ·simp
  simp
  refine⟨_,aB _ _,?_⟩
  rw[MZ hI.2 _ (by omega)]
  cases e5:wi r.rates[k].den 1 1073741824
  ·simp
  simp
  refine⟨_,aB _ _,?_⟩
  rw[abl]
  simp[ho e1 e2 e3 e4 e5]
 ·rw[hj]
  simp[ku,fH]
  by_cases h1:20<r.halts.length
  ·have h1':(20:Int)<r.halts.length:=by omega
   have h1'':¬r.halts.length≤20:=by omega
   simp[h1,h1',h1'']
  have h1':¬(20:Int)<r.halts.length:=by omega
  simp[h1,h1']
  refine gl r.halts.length (KN r) (fun k=>[.int 0,.int k]) (fun _=>[]) ?_ (fun k hk ho=>?_) (fun k hk ho hb=>?_) (fun hj=>?_)
  ·simp
  ·have hw:=ar hk (by omega)
   simp[KN,wi,hk] at ho
   obtain⟨⟨a1,a2⟩,a3⟩:=ho
   have b1:¬r.halts[k].fr<0:=by omega
   have b2:¬r.halts[k].to<r.halts[k].fr:=by omega
   have b3:¬100000<r.halts[k].to:=by omega
   simp[kz,fR,hk]
   refine⟨_,aB _ _,?_⟩
   simp[a1,b1,b2,b3,hw]
  ·rw[hb]
   simp[KN,wi,hk] at ho
   simp[kz,fR,hk]
   refine⟨_,aB _ _,?_⟩
   cases e1:inB r.halts[k].order r.orders.length
   ·simp
   have:=ho e1
   by_cases b1:r.halts[k].fr<0
   ·simp[b1]
   by_cases b2:r.halts[k].to<r.halts[k].fr
   ·simp[b1,b2]
   have b3:100000<r.halts[k].to:=this (by omega) (by omega)
   simp[b1,b2,b3]
  ·rw[hj]
   simp[kz,fR]
theorem Mj (r:Realm)(h:Small r):Runs T GV [au r] (.int (ph r)):=by
 refine .of_tree rfl Rl Hv ?_
 have hu:=h.rates
 have hh:=h.halts
 have hc:=Ck r.currencies.length (by have:=h.cur;omega)
 have hor:=Ck r.orders.length (by have:=h.orders;omega)
 simp[uE,ph]
 by_cases h0:100<r.rates.length
 ·have h0':(100:Int)<r.rates.length:=by omega
  have h0'':¬r.rates.length≤100:=by omega
  simp[h0,h0',h0'']
 have h0':¬(100:Int)<r.rates.length:=by omega
 simp[h0,h0']
 refine gl r.rates.length (Pg r) (fun k=>[.int 0,.int k]) (fun _=>[]) ?_ (fun k hk ho=>?_) (fun k hk ho hb=>?_) (fun hj=>?_)
 ·simp
 ·have hw:=ar hk (by omega)
  simp[Pg,hk,J9] at ho
  obtain⟨⟨⟨⟨⟨a1,a2⟩,a3⟩,a4⟩,a5⟩,a6⟩:=ho
  simp[kK,fS,hk,hc]
  refine⟨_,ae _ _ _,?_⟩
  simp[a1,hc]
  refine⟨_,ae _ _ _,?_⟩
  simp[a2,a3]
  refine⟨_,ae _ _ _,?_⟩
  simp[a4]
  refine⟨_,ae _ _ _,?_⟩
  simp[a5]
  refine⟨_,ae _ _ _,?_⟩
  simp[a6,hw]
 ·rw[hb]
  simp[Pg,hk,J9] at ho
  simp[kK,fS,hk,hc]
  refine⟨_,ae _ _ _,?_⟩
  cases e1:wi r.rates[k].fr 0 ((r.currencies.length:Int)-1)
  ·simp
  simp[hc]
  refine⟨_,ae _ _ _,?_⟩
  cases e2:wi r.rates[k].to 0 ((r.currencies.length:Int)-1)
  ·simp
  by_cases e3:r.rates[k].fr=r.rates[k].to
  ·simp[e3]
  simp[e3]
  refine⟨_,ae _ _ _,?_⟩
  cases e4:wi r.rates[k].num 1 1073741824
  ·simp
  simp
  refine⟨_,ae _ _ _,?_⟩
  cases e5:wi r.rates[k].den 1 1073741824
  ·simp
  simp
  refine⟨_,ae _ _ _,?_⟩
  simp[ho e1 e2 e3 e4 e5]
 ·rw[hj]
  simp[kK,fS]
  by_cases h1:20<r.halts.length
  ·have h1':(20:Int)<r.halts.length:=by omega
   have h1'':¬r.halts.length≤20:=by omega
   simp[h1,h1',h1'']
  have h1':¬(20:Int)<r.halts.length:=by omega
  simp[h1,h1']
  refine gl r.halts.length (KN r) (fun k=>[.int 0,.int k]) (fun _=>[]) ?_ (fun k hk ho=>?_) (fun k hk ho hb=>?_) (fun hj=>?_)
  ·simp
  ·have hw:=ar hk (by omega)
   simp[KN,hk,J9] at ho
   obtain⟨⟨a1,a2⟩,a3⟩:=ho
   have b3:¬100000<r.halts[k].to:=by omega
   simp[kG,fP,hk,hor]
   refine⟨_,ae _ _ _,?_⟩
   simp[a1]
   refine⟨_,ae _ _ _,?_⟩
   simp[a2,b3,hw]
  ·rw[hb]
   simp[KN,hk,J9] at ho
   simp[kG,fP,hk,hor]
   refine⟨_,ae _ _ _,?_⟩
   cases e1:wi r.halts[k].order 0 ((r.orders.length:Int)-1)
   ·simp
   simp
   refine⟨_,ae _ _ _,?_⟩
   cases e2:wi r.halts[k].fr 0 r.halts[k].to
   ·simp
   simp[ho e1 e2]
  ·rw[hj]
   simp[kG,fP]
end Rm
namespace Rm
open Go Go.Proofs Cx
def nu:List Int→Int
 |[]=>0
 |x::l=>if x=0 then nu l else x
theorem Hk:∀{l:List Int},nu l=0↔∀x,x∈l→x=0
 |[]=>by simp[nu]
 |x::l=>by
  simp only[nu,List.mem_cons,forall_eq_or_imp]
  by_cases h:x=0
  ·simp[h,Hk (l:=l)]
  ·simp[h]
def Ae (r:Realm)(i:Nat):Bool:=inB (r.firms.getD i default).city r.cities.length&&inB (r.firms.getD i default).group r.groups.length
def AJ (r:Realm)(i:Nat):Bool:=yd r (r.cities.getD i default)
def nA (r:Realm)(i:Nat):Bool:=sk (r.orders.getD i default)
def DY (r:Realm)(i:Nat):Bool:=inB (r.groups.getD i default).grade 10
def tU (r:Realm):Int:=if 20<r.groups.length then 6 else if mD r.groups.length (DY r) then 0 else 1
def lu (r:Realm):Int:=nu [eR r.currencies 8 (fun _=>true),eR (cd r) 40 (AJ r),tU r,eR (cf r) 200 (Ae r),eR (bJ r) 20 (nA r),oD r,ph r]
theorem Vj (i:Int):Runs T qh [.int i] (.bool true):=by
 refine .of_tree rfl Ig BD ?_
 simp[m9]
theorem U4 (r:Realm)(h:Small r)(i:Nat)(hi:i<r.cities.length):Runs T oO [.int i,.ref (au r)] (.bool (AJ r i)):=by
 refine .of_tree rfl It BW ?_
 obtain⟨h1,h2,h3,h4⟩:=h.city _ (List.getElem_mem hi)
 simp[nj,hi,AJ]
 exact Lh r r.cities[i] (by omega) (by omega) (by omega)
theorem Xe (r:Realm)(i:Nat)(hi:i<r.firms.length):Runs T pZ [.int i,.ref (au r)] (.bool (Ae r i)):=by
 refine .of_tree rfl HJ Bi ?_
 simp[ni,hi,Ae]
 refine⟨_,aB _ _,?_⟩
 simp[hi]
 cases e1:inB r.firms[i].city r.cities.length<;>simp
 exact aB _ _
theorem Wt (r:Realm)(h:Small r)(i:Nat)(hi:i<r.orders.length):Runs T pO [.int i,.ref (au r)] (.bool (nA r i)):=by
 refine .of_tree rfl Jo Bp ?_
 obtain⟨h1,h2⟩:=h.order _ (List.getElem_mem hi)
 simp[nz,hi,nA]
 exact Jy r.orders[i] (by omega) (by omega)
theorem v8 (r:Realm)(h:Small r):Runs T CE [au r] (.int (lu r)):=by
 refine .of_tree rfl Pj Gz ?_
 have g1:=h.cur
 have g2:=h.cities
 have g3:=h.firms
 have g4:=h.orders
 have g5:=h.groups
 simp[rZ]
 refine⟨_,Jv r (by omega) (by omega) (by omega),?_⟩
 simp
 refine⟨_,ka r.currencies 8 qh [] (fun _=>true) (fun i _=>Vj _) (by omega),?_⟩
 unfold lu
 generalize e1:eR r.currencies 8 (fun _=>true)=x1
 by_cases z1:x1=0
 case neg=>simp[z1,nu]
 simp[z1,nu]
 refine⟨_,ka (cd r) 40 oO [.ref (au r)] (AJ r) (fun i hi=>U4 r h i (by simpa [cd] using hi)) (by simp[cd];omega),?_⟩
 generalize e2:eR (cd r) 40 (AJ r)=x2
 by_cases z2:x2=0
 case neg=>simp[z2]
 simp[z2]
 by_cases z3:20<r.groups.length
 ·have z3':(20:Int)<r.groups.length:=by omega
  simp[z3',tU,z3]
 have z3':¬(20:Int)<r.groups.length:=by omega
 simp[z3',tU,z3]
 refine gl r.groups.length (DY r) (fun k=>[.int 0,.int k]) (fun _=>[]) ?_ (fun k hk ho=>?_) (fun k hk ho hb=>?_) (fun hj=>?_)
 ·simp
 ·have hw:=ar hk (by omega)
  simp[DY,hk] at ho
  simp[ja,eO,hk]
  refine⟨_,aB _ _,?_⟩
  simp[ho,hw]
 ·simp[DY,hk] at ho
  rw[hb]
  simp[ja,eO,hk]
  refine⟨_,aB _ _,?_⟩
  simp[ho]
 ·rw[hj]
  simp[ja,eO]
  refine⟨_,ka (cf r) 200 pZ [.ref (au r)] (Ae r) (fun i hi=>Xe r i (by simpa [cf] using hi)) (by simp[cf];omega),?_⟩
  generalize e4:eR (cf r) 200 (Ae r)=x4
  by_cases z4:x4=0
  case neg=>simp[z4]
  simp[z4]
  refine⟨_,ka (bJ r) 20 pO [.ref (au r)] (nA r) (fun i hi=>Wt r h i (by simpa [bJ] using hi)) (by simp[bJ];omega),?_⟩
  generalize e5:eR (bJ r) 20 (nA r)=x5
  by_cases z5:x5=0
  case neg=>simp[z5]
  simp[z5]
  refine⟨_,Dk r h,?_⟩
  generalize e6:oD r=x6
  by_cases z6:x6=0
  case neg=>simp[z6]
  simp[z6]
  have e7:(if ph r=0 then 0 else ph r)=ph r:=by split<;>simp_all
  rw[e7]
  exact Lb r h
theorem aba (l:List ByteArray)(k:Nat):AA l (fun _=>true) k=dD l k:=by
 unfold AA;by_cases h:dD l k=0<;>simp[h]
theorem EW {l:List ByteArray}{g:Nat→Bool}{k:Nat}(h:AA l g k=0):dD l k=0∧g k=true:=by
 unfold AA at h
 by_cases h1:dD l k=0
 ·simp[h1] at h;exact⟨h1,h⟩
 ·simp[h1] at h
theorem Nv {l:List ByteArray}{g:Nat→Bool}{k:Nat}(h:AA l g k≠0):(dD l k≠0∧AA l g k=dD l k)∨(dD l k=0∧g k=false∧AA l g k=1):=by
 unfold AA at h ⊢
 by_cases h1:dD l k=0
 ·simp[h1] at h ⊢;simp[h]
 ·simp[h1]
theorem MH (r:Realm)(h:Small r):Runs T GO [au r] (.int (nu [eR r.currencies 8 (fun _=>true),eR (cd r) 40 (AJ r)])):=by
 refine .of_tree rfl RF Jz ?_
 have g1:=h.cur
 have g2:=h.cities
 have g4:=h.orders
 simp[uH]
 unfold eR
 by_cases z1:(8:Int)<r.currencies.length
 ·simp[z1,nu]
 simp[z1,nu]
 refine Kj r.currencies.length (AA r.currencies (fun _=>true)) (fun k=>[.int 0,.int k]) (fun _=>[]) ?_ (fun k hk ho=>?_) (fun k hk ho hb=>?_) (fun hj=>?_)
 ·simp
 ·have hw:=ar hk (by omega)
  simp[ky,fO,hk]
  refine⟨_,gZ _ k hk (by omega),?_⟩
  simp[(EW ho).1,hw]
 ·rw[hb]
  simp[ky,fO,hk,ho]
  rw[aba]
  exact gZ _ k hk (by omega)
 ·rw[hj]
  simp[ky,fO]
  have hlen:(cd r).length=r.cities.length:=by simp[cd]
  rw[hlen]
  by_cases z2:(40:Int)<r.cities.length
  ·simp[z2]
  simp[z2]
  have key:∀k (hk:k<r.cities.length),((cd r).take k).length=k∧D.list (List.take k (List.map str (cd r))++[str r.cities[k].name])=strs ((cd r).take (k+1))∧
     Runs T oz [strs ((cd r).take (k+1)),.int k] (.int (dD (cd r) k))∧Runs T oS [au r,bD r.cities[k]] (.bool (AJ r k)):=by
   intro k hk
   have hk':k<(cd r).length:=by omega
   have hg:(cd r)[k]=r.cities[k].name:=by simp[cd]
   have hs:(cd r).take (k+1)=(cd r).take k++[(cd r)[k]]:=List.take_succ_eq_append_getElem hk'
   have hn:=gZ ((cd r).take (k+1)) k (by rw[List.length_take];omega) (by rw[List.length_take];omega)
   rw[zB _ _ _ (by omega)] at hn
   obtain⟨c1,c2,c3,c4⟩:=h.city _ (List.getElem_mem hk)
   have hc:=Dj r r.cities[k] (by omega) (by omega) (by omega) (by omega) (by omega) c4
   rw[adA] at hc
   exact⟨by rw[List.length_take];omega,by rw[hs,hg];simp[strs],hn,by simpa [AJ,hk] using hc⟩
  refine Kj r.cities.length (AA (cd r) (AJ r)) (fun k=>[.int 0,.none,.int k]) (fun k=>[strs ((cd r).take k)]) ?_ (fun k hk ho=>?_) (fun k hk ho hb=>?_) (fun hj=>?_)
  ·simp[strs]
  ·have hw:=ar hk (by omega)
   obtain⟨hl,hs',hn,hc⟩:=key k hk
   obtain⟨o1,o2⟩:=EW ho
   rw[o1] at hn
   rw[o2] at hc
   simp[kE,fU,hk,hl,hs',afv]
   refine⟨by omega,_,hn,?_⟩
   simp[hk]
   refine⟨_,hc,?_⟩
   simp[hw]
  ·rw[hb]
   obtain⟨hl,hs',hn,hc⟩:=key k hk
   simp[kE,fU,hk,hl,hs',ho]
   refine⟨by omega,_,hn,?_⟩
   rcases Nv ho with⟨o1,o2⟩|⟨o1,o2,o3⟩
   ·simp[o1,o2]
   ·rw[o2] at hc
    simp[o1,o3,hk]
    refine⟨_,hc,?_⟩
    simp
  ·rw[hj]
   simp[kE,fU]
theorem O4 (r:Realm)(h:Small r):Runs T KC [au r] (.int (nu [tU r,eR (cf r) 200 (Ae r)])):=by
 refine .of_tree rfl TA K5 ?_
 have g1:=h.groups
 have g2:=h.firms
 have g3:=h.cities
 have w3:=Ck r.cities.length (by omega)
 have w1:=Ck r.groups.length (by omega)
 simp[xc]
 by_cases z1:20<r.groups.length
 ·have z1':(20:Int)<r.groups.length:=by omega
  simp[z1',tU,z1,nu]
 have z1':¬(20:Int)<r.groups.length:=by omega
 simp[z1',tU,z1,nu]
 refine gl r.groups.length (DY r) (fun k=>[.int 0,.int k]) (fun _=>[]) ?_ (fun k hk ho=>?_) (fun k hk ho hb=>?_) (fun hj=>?_)
 ·simp
 ·have hw:=ar hk (by omega)
  simp[DY,hk] at ho
  have e:wi r.groups[k].grade 0 9=inB r.groups[k].grade 10:=by rw[Bool.eq_iff_iff];simp[wi,inB];omega
  simp[mz,gT,hk]
  refine⟨_,ae _ _ _,?_⟩
  simp[e,ho,hw]
 ·simp[DY,hk] at ho
  have e:wi r.groups[k].grade 0 9=inB r.groups[k].grade 10:=by rw[Bool.eq_iff_iff];simp[wi,inB];omega
  rw[hb]
  simp[mz,gT,hk]
  refine⟨_,ae _ _ _,?_⟩
  simp[e,ho]
 ·rw[hj]
  simp[mz,gT]
  unfold eR
  have hlen:(cf r).length=r.firms.length:=by simp[cf]
  rw[hlen]
  by_cases z2:(200:Int)<r.firms.length
  ·simp[z2]
  simp[z2]
  have key:∀k (hk:k<r.firms.length),((cf r).take k).length=k∧D.list (List.take k (List.map str (cf r))++[str r.firms[k].name])=strs ((cf r).take (k+1))∧
     Runs T oz [strs ((cf r).take (k+1)),.int k] (.int (dD (cf r) k))∧Ae r k=(wi r.firms[k].city 0 ((r.cities.length:Int)-1)&&wi r.firms[k].group 0 ((r.groups.length:Int)-1)):=by
   intro k hk
   have hk':k<(cf r).length:=by omega
   have hg:(cf r)[k]=r.firms[k].name:=by simp[cf]
   have hs:(cf r).take (k+1)=(cf r).take k++[(cf r)[k]]:=List.take_succ_eq_append_getElem hk'
   have hn:=gZ ((cf r).take (k+1)) k (by rw[List.length_take];omega) (by rw[List.length_take];omega)
   rw[zB _ _ _ (by omega)] at hn
   exact⟨by rw[List.length_take];omega,by rw[hs,hg];simp[strs],hn,by simp[Ae,hk,J9]⟩
  refine Kj r.firms.length (AA (cf r) (Ae r)) (fun k=>[.int 0,.none,.int k]) (fun k=>[strs ((cf r).take k)]) ?_ (fun k hk ho=>?_) (fun k hk ho hb=>?_) (fun hj=>?_)
  ·simp[strs]
  ·have hw:=ar hk (by omega)
   obtain⟨hl,hs',hn,hc⟩:=key k hk
   obtain⟨o1,o2⟩:=EW ho
   rw[o1] at hn
   rw[o2] at hc
   have hc':=Bool.and_eq_true_iff.1 hc.symm
   simp[lX,gK,hk,hl,hs']
   refine⟨by omega,_,hn,?_⟩
   simp[hk,w3]
   refine⟨_,ae _ _ _,?_⟩
   simp[hc'.1,hk,w1]
   refine⟨_,ae _ _ _,?_⟩
   simp[hc'.2,hw]
  ·rw[hb]
   obtain⟨hl,hs',hn,hc⟩:=key k hk
   simp[lX,gK,hk,hl,hs',ho]
   refine⟨by omega,_,hn,?_⟩
   rcases Nv ho with⟨o1,o2⟩|⟨o1,o2,o3⟩
   ·simp[o1,o2]
   ·rw[o2] at hc
    simp[o1,o3,hk,w3]
    refine⟨_,ae _ _ _,?_⟩
    cases e1:wi r.firms[k].city 0 ((r.cities.length:Int)-1)
    ·simp
    rw[e1,Bool.true_and] at hc
    simp[hk,w1]
    refine⟨_,ae _ _ _,?_⟩
    simp[←hc]
  ·rw[hj]
   simp[lX,gK]
theorem Mf (r:Realm)(h:Small r):Runs T EG [au r] (.int (eR (bJ r) 20 (nA r))):=by
 refine .of_tree rfl R0 Jn ?_
 have g2:=h.orders
 simp[uq]
 unfold eR
 have hlen:(bJ r).length=r.orders.length:=by simp[bJ]
 rw[hlen]
 by_cases z2:(20:Int)<r.orders.length
 ·simp[z2]
 simp[z2]
 have key:∀k (hk:k<r.orders.length),((bJ r).take k).length=k∧D.list (List.take k (List.map str (bJ r))++[str r.orders[k].name])=strs ((bJ r).take (k+1))∧
  Runs T oz [strs ((bJ r).take (k+1)),.int k] (.int (dD (bJ r) k))∧Runs T nl [bP r.orders[k]] (.bool (nA r k)):=by
  intro k hk
  have hk':k<(bJ r).length:=by omega
  have hg:(bJ r)[k]=r.orders[k].name:=by simp[bJ]
  have hs:(bJ r).take (k+1)=(bJ r).take k++[(bJ r)[k]]:=List.take_succ_eq_append_getElem hk'
  have hn:=gZ ((bJ r).take (k+1)) k (by rw[List.length_take];omega) (by rw[List.length_take];omega)
  rw[zB _ _ _ (by omega)] at hn
  obtain⟨c1,c2⟩:=h.order _ (List.getElem_mem hk)
  exact⟨by rw[List.length_take];omega,by rw[hs,hg];simp[strs],hn,by simpa [nA,hk] using BO r.orders[k] (by omega) (by omega)⟩
 refine Kj r.orders.length (AA (bJ r) (nA r)) (fun k=>[.int 0,.none,.int k]) (fun k=>[strs ((bJ r).take k)]) ?_ (fun k hk ho=>?_) (fun k hk ho hb=>?_) (fun hj=>?_)
 ·simp[strs]
 ·have hw:=ar hk (by omega)
  obtain⟨hl,hs',hn,hc⟩:=key k hk
  obtain⟨o1,o2⟩:=EW ho
  rw[o1] at hn
  rw[o2] at hc
  simp[kL,fN,hk,hl,hs']
  refine⟨by omega,_,hn,?_⟩
  simp[hk]
  refine⟨_,hc,?_⟩
  simp[hw]
 ·rw[hb]
  obtain⟨hl,hs',hn,hc⟩:=key k hk
  simp[kL,fN,hk,hl,hs',ho]
  refine⟨by omega,_,hn,?_⟩
  rcases Nv ho with⟨o1,o2⟩|⟨o1,o2,o3⟩
  ·simp[o1,o2]
  ·rw[o2] at hc
   simp[o1,o3,hk]
   refine⟨_,hc,?_⟩
   simp
 ·rw[hj]
  simp[kL,fN]
theorem zA (r:Realm)(h:Small r):Runs T Km [au r] (.int (lu r)):=by
 refine .of_tree rfl Us L2 ?_
 have e:lu r=nu [nu [eR r.currencies 8 (fun _=>true),eR (cd r) 40 (AJ r)],nu [tU r,eR (cf r) 200 (Ae r)],eR (bJ r) 20 (nA r),oD r,ph r]:=by
  unfold lu
  simp only[nu]
  split<;>(try split)<;>(try split)<;>(try split)<;>simp_all
 rw[e]
 simp[wL]
 refine⟨_,MH r h,?_⟩
 have h1:=O4 r h
 generalize nu [eR r.currencies 8 (fun _=>true),eR (cd r) 40 (AJ r)]=x1 at*
 generalize nu [tU r,eR (cf r) 200 (Ae r)]=x2 at*
 have h2:=Mf r h
 generalize eR (bJ r) 20 (nA r)=x3 at*
 have h3:=Jr r h
 generalize oD r=x4 at*
 have h4:=Mj r h
 generalize ph r=x5 at*
 by_cases z1:x1=0
 case neg=>simp[z1,nu]
 simp[z1,nu]
 refine⟨_,h1,?_⟩
 by_cases z2:x2=0
 case neg=>simp[z2]
 simp[z2]
 refine⟨_,h2,?_⟩
 by_cases z3:x3=0
 case neg=>simp[z3]
 simp[z3]
 refine⟨_,h3,?_⟩
 by_cases z4:x4=0
 case neg=>simp[z4]
 simp[z4]
 have e7:(if x5=0 then 0 else x5)=x5:=by split<;>simp_all
 rw[e7]
 exact h4
end Rm
namespace Rm
open Go Go.Proofs Cx
def mR:Nat→Tm→Int→Int
 |0,_,_=>-1
 |L+1,t,n=>t.args.foldl (fun m a=>if 0≤m then mR L a m else m) (n-1)
theorem size_le:∀(L:Nat) (t:Tm) (n:Int),0≤n→-1≤mR L t n∧mR L t n≤n
 |0,t,n,h=>by simp[mR];omega
 |L+1,t,n,h=>by
  have key:∀(l:List Tm) (m:Int),-1≤m→m≤n→-1≤l.foldl (fun m a=>if 0≤m then mR L a m else m) m∧l.foldl (fun m a=>if 0≤m then mR L a m else m) m≤n:=by
   intro l
   induction l with
   |nil=>intro m h1 h2;exact⟨h1,h2⟩
   |cons a l ih=>
    intro m h1 h2
    simp only[List.foldl_cons]
    split
    ·rename_i hm
     have:=size_le L a m hm
     exact ih _ this.1 (by omega)
    ·exact ih _ h1 h2
  exact key _ _ (by omega) (by omega)
theorem VD (L:Nat):∀(l:List Tm) (m:Int),m<0→l.foldl (fun m a=>if 0≤m then mR L a m else m) m=m
 |[],m,h=>rfl
 |a::l,m,h=>by simp only[List.foldl_cons];rw[if_neg (by omega)];exact VD L l m h
theorem Xv {α β:Type}(f:β→α→β)(b:β){l:List α}{k:Nat}(h:k<l.length):(l.take (k+1)).foldl f b=f ((l.take k).foldl f b) l[k]:=by
 rw[List.take_succ_eq_append_getElem h,List.foldl_append];rfl
theorem aaR {α β:Type}(f:β→α→β)(b:β)(l:List α)(k:Nat):l.foldl f b=(l.drop k).foldl f ((l.take k).foldl f b):=by
 rw[←List.foldl_append,List.take_append_drop]
theorem _root_.Cx.Tm.OK.len {t:Tm}(h:t.OK):t.args.length≤9223372036854775807:=by cases h with|mk o n xs h1 h2 h3 h4=>exact h3
theorem _root_.Cx.Tm.OK.arg {t:Tm}(h:t.OK){a:Tm}(ha:a∈t.args):a.OK:=by cases h with|mk o n xs h1 h2 h3 h4=>exact h4 a ha
theorem Cf:∀(L:Nat) (t:Tm) (n:Int),t.OK→0≤n→n≤1000→L≤1000→Runs T Qo [jd t,.int n,.int L] (.int (mR L t n))
 |0,t,n,ht,h0,h1,hL=>by
  refine .of_tree rfl KZ AI ?_
  simp[tY,mR]
 |L+1,t,n,ht,h0,h1,hL=>by
  refine .of_tree rfl KZ AI ?_
  have hw0:IntKind.i64.wrap (n-1)=n-1:=ay (by omega)
  have hl:=ht.len
  have hn1:¬((L:Int)+1<1):=by omega
  simp[tY,hw0,hn1]
  let g:Nat→Int:=fun k=>(t.args.take k).foldl (fun m a=>if 0≤m then mR L a m else m) (n-1)
  have gb:∀k,-1≤g k∧g k≤1000:=by
   intro k
   have:g k=mR (L+1) (.mk 0 0 (t.args.take k)) n:=rfl
   have:=size_le (L+1) (.mk 0 0 (t.args.take k)) n h0
   omega
  refine .scan t.args.length (fun k=>0≤g k) (fun k=>[.int (g k),.int k]) (fun _=>[]) ?_ (fun k hk hj ho=>?_) (fun k hk hj ho=>?_) (fun hj=>?_)
  ·simp[g,hw0]
  ·have hw:IntKind.i64.wrap ((k:Int)+1)=(k:Int)+1:=ay (by omega)
   have hwl:IntKind.i64.wrap (L:Int)=(L:Int):=ay (by omega)
   have hg:g (k+1)=mR L t.args[k] (g k):=by
    show(t.args.take (k+1)).foldl _ _=_
    rw[Xv _ _ hk]
    show(if 0≤g k then _ else _)=_
    rw[if_pos ho]
   rw[hg]
   have hrec:=Cf L t.args[k] (g k) (ht.arg (List.getElem_mem hk)) ho (gb k).2 (by omega)
   generalize g k=m at*
   simp[nq,jB,hk,ho,hwl]
   refine⟨_,hrec,?_⟩
   simp[hw]
  ·have hf:mR (L+1) t n=g k:=by
    show t.args.foldl _ _=_
    rw[aaR _ _ _ k]
    exact VD L _ _ (by show g k<0;omega)
   rw[hf]
   generalize g k=m at*
   simp[nq,jB,hk,ho]
  ·have hf:mR (L+1) t n=g t.args.length:=by
    show t.args.foldl _ _=(t.args.take t.args.length).foldl _ _
    rw[List.take_length]
   rw[hf]
   generalize g t.args.length=m at*
   simp[nq,jB]
theorem EH (t:Tm)(ht:t.OK):Runs T Te [jd t] (.bool (decide (0≤mR 20 t 100))):=by
 refine .of_tree rfl Ym RQ ?_
 simp[D2]
 refine⟨_,Cf 20 t 100 ht (by omega) (by omega) (by omega),?_⟩
 simp
def QG (o:Order):Bool:=(decide (o.rules.length≤60)&&decide (o.choices.length≤60))&&mD o.rules.length (fun k=>decide (0≤mR 20 (o.rules.getD k default).term 100))
theorem G9 (o:Order)(ho:o.OK):Runs T Sq [bP o] (.bool (QG o)):=by
 refine .of_tree rfl Yb QM ?_
 simp[CZ]
 by_cases h1:(o.rules.length:Int)≤60
 case neg=>
  have h1':(60:Int)<o.rules.length:=by omega
  have hf:QG o=false:=by
   have:decide (o.rules.length≤60)=false:=decide_eq_false (by omega)
   simp only[QG,this,Bool.false_and]
  simp[h1',hf]
 by_cases h2:(o.choices.length:Int)≤60
 case neg=>
  have h1':(60:Int)<o.choices.length:=by omega
  have hf:QG o=false:=by
   have:decide (o.choices.length≤60)=false:=decide_eq_false (by omega)
   simp only[QG,this,Bool.false_and,Bool.and_false]
  simp[h1',hf]
 have h1':¬(60:Int)<o.rules.length:=by omega
 have h2':¬(60:Int)<o.choices.length:=by omega
 have hf:QG o=mD o.rules.length (fun k=>decide (0≤mR 20 (o.rules.getD k default).term 100)):=by
  have e1:decide (o.rules.length≤60)=true:=decide_eq_true (by omega)
  have e2:decide (o.choices.length≤60)=true:=decide_eq_true (by omega)
  simp only[QG,e1,e2,Bool.true_and]
 rw[hf]
 simp[h1',h2']
 have hO:=ho.2.2
 refine gl o.rules.length (fun k=>decide (0≤mR 20 (o.rules.getD k default).term 100)) (fun k=>[.bool false,.int k]) (fun _=>[]) ?_ (fun k hk ho=>?_) (fun k hk ho hb=>?_) (fun hj=>?_)
 ·simp
 ·have hw:=ar hk (by omega)
  simp[hk] at ho
  simp[p9,mw,hk]
  refine⟨_,EH _ (hO _ (List.getElem_mem hk)).2,?_⟩
  simp[ho,hw]
 ·simp only[List.getD_eq_getElem?_getD] at hb
  rw[hb]
  simp[hk] at ho
  simp[p9,mw,hk]
  refine⟨_,EH _ (hO _ (List.getElem_mem hk)).2,?_⟩
  simp[ho]
 ·simp only[List.getD_eq_getElem?_getD] at hj
  rw[hj]
  simp[p9,mw]
def aae (f:File):Bool:=decide ((f.signs.length:Int)≤50)&&decide ((f.alters.length:Int)≤10)&&decide ((f.acts.length:Int)≤110)&&decide ((f.facts.length:Int)≤220)
theorem TO (f:File):Runs T R7 [aE f] (.bool (aae f)):=by
 refine .of_tree rfl XD Qy ?_
 simp[Dn,aae]
 by_cases h1:(f.signs.length:Int)≤50<;>by_cases h2:(f.alters.length:Int)≤10<;>by_cases h3:(f.acts.length:Int)≤110<;>by_cases h4:(f.facts.length:Int)≤220<;>
  simp[h1,h2,h3,h4]
end Rm
namespace Rm
open Go Go.Proofs Cx
def ac2 (r:Realm)(k:Nat):Bool:=decide (((r.cities.getD k default).feasts.length:Int)≤70)&&decide (((r.cities.getD k default).shut.length:Int)≤210)&&decide (((r.cities.getD k default).rest.length:Int)≤8)
def aby (r:Realm)(k:Nat):Bool:=decide (((r.orders.getD k default).choices.length:Int)≤40)&&decide (((r.orders.getD k default).rules.length:Int)≤40)
def adP (r:Realm):Bool:=decide ((r.currencies.length:Int)<50)&&decide ((r.cities.length:Int)<50)&&decide ((r.groups.length:Int)<50)&&decide ((r.firms.length:Int)<210)&&decide ((r.orders.length:Int)<50)&&decide ((r.usances.length:Int)<110)&&decide ((r.rates.length:Int)<110)&&decide ((r.halts.length:Int)<50)
def OR (r:Realm):Bool:=mD (min r.cities.length 50) (ac2 r)&&mD (min r.orders.length 50) (aby r)&&adP r
theorem Ui (r:Realm)(hr:r.OK):Runs T Sb [au r] (.bool (OR r)):=by
 refine .of_tree rfl YA QF ?_
 simp[Es]
 refine gl (min r.cities.length 50) (ac2 r) (fun k=>[.bool false,.int k]) (fun _=>[]) ?_ (fun k hk ho=>?_) (fun k hk ho hb=>?_) (fun hj=>?_)
 ·simp
 ·have hk1:k<r.cities.length:=by omega
  have hk2:k<50:=by omega
  have hw:=ar hk2 (by omega)
  simp[ac2,hk1] at ho
  obtain⟨⟨a1,a2⟩,a3⟩:=ho
  have b1:¬(70:Int)<r.cities[k].feasts.length:=by omega
  have b2:¬(210:Int)<r.cities[k].shut.length:=by omega
  have b3:¬(8:Int)<r.cities[k].rest.length:=by omega
  simp[fK,eY,hk1,hk2,hw,b1,b2,b3]
  omega
 ·have hk1:k<r.cities.length:=by omega
  have hk2:k<50:=by omega
  have hf:OR r=false:=by simp only[OR,hb,Bool.false_and]
  rw[hf]
  simp[ac2,hk1] at ho
  by_cases b1:(70:Int)<r.cities[k].feasts.length
  ·simp[fK,eY,hk1,hk2,b1];omega
  by_cases b2:(210:Int)<r.cities[k].shut.length
  ·simp[fK,eY,hk1,hk2,b1,b2];omega
  have b3:(8:Int)<r.cities[k].rest.length:=by have:=ho (by omega) (by omega);omega
  simp[fK,eY,hk1,hk2,b1,b2,b3];omega
 ·have hn:¬((min r.cities.length 50:Nat):Int)<r.cities.length∨¬((min r.cities.length 50:Nat):Int)<50:=by omega
  simp[fK,eY]
  rw[if_neg (by omega)]
  refine gl (min r.orders.length 50) (aby r) (fun k=>[.bool false,.int k]) (fun _=>[]) ?_ (fun k hk ho=>?_) (fun k hk ho hb=>?_) (fun hj2=>?_)
  ·simp
  ·have hk1:k<r.orders.length:=by omega
   have hk2:k<50:=by omega
   have hw:=ar hk2 (by omega)
   simp[aby,hk1] at ho
   obtain⟨a1,a2⟩:=ho
   have b1:¬(40:Int)<r.orders[k].choices.length:=by omega
   have b2:¬(40:Int)<r.orders[k].rules.length:=by omega
   simp[j4,iz,hk1,hk2,hw,b1,b2]
   omega
  ·have hk1:k<r.orders.length:=by omega
   have hk2:k<50:=by omega
   have hf:OR r=false:=by simp only[OR,hb,Bool.false_and,Bool.and_false]
   rw[hf]
   simp[aby,hk1] at ho
   by_cases b1:(40:Int)<r.orders[k].choices.length
   ·simp[j4,iz,hk1,hk2,b1];omega
   have b2:(40:Int)<r.orders[k].rules.length:=by have:=ho (by omega);omega
   simp[j4,iz,hk1,hk2,b1,b2];omega
  ·have hf:OR r=adP r:=by simp only[OR,hj,hj2,Bool.true_and]
   rw[hf]
   simp[j4,iz]
   rw[if_neg (by omega)]
   unfold adP
   by_cases c1:(r.currencies.length:Int)<50<;>simp[c1]
   by_cases c2:(r.cities.length:Int)<50<;>simp[c2]
   by_cases c3:(r.groups.length:Int)<50<;>simp[c3]
   by_cases c4:(r.firms.length:Int)<210<;>simp[c4]
   by_cases c5:(r.orders.length:Int)<50<;>simp[c5]
   by_cases c6:(r.usances.length:Int)<110<;>simp[c6]
   by_cases c7:(r.rates.length:Int)<110<;>simp[c7]
theorem H3 {r:Realm}(hr:r.OK)(h:OR r=true):Small r:=by
 simp only[OR,adP,Bool.and_eq_true,decide_eq_true_eq,allB_iff] at h
 obtain⟨⟨h1,h2⟩,⟨⟨⟨⟨⟨⟨⟨c1,c2⟩,c3⟩,c4⟩,c5⟩,c6⟩,c7⟩,c8⟩⟩:=h
 obtain⟨k1,⟨k2,k2'⟩,⟨k3,k3'⟩,⟨k4,k4'⟩,⟨k5,k5'⟩,⟨k6,k6'⟩,⟨k7,k7'⟩,⟨k8,k8'⟩⟩:=hr
 refine⟨by omega,by omega,by omega,by omega,by omega,by omega,by omega,by omega,fun c hc=>?_,fun o ho=>?_,fun x hx=>?_⟩
 ·obtain⟨k,hk,rfl⟩:=List.getElem_of_mem hc
  have:=h1 k (by omega)
  simp[ac2,hk] at this
  have:=k2' _ hc
  exact⟨by omega,by omega,by omega,fun y hy=>this.2.2.2.1.2 y hy⟩
 ·obtain⟨k,hk,rfl⟩:=List.getElem_of_mem ho
  have:=h2 k (by omega)
  simp[aby,hk] at this
  omega
 ·have:=k7' x hx
  exact⟨this.2.2.1,this.2.2.2.1⟩
def Ci (r:Realm)(f:File):Bool:=(OR r&&aae f)&&mD r.orders.length (fun k=>QG (r.orders.getD k default))
theorem Tp (r:Realm)(f:File)(hr:r.OK):Runs T SI [au r,aE f] (.bool (Ci r f)):=by
 refine .of_tree rfl YC Q3 ?_
 simp[CX]
 refine⟨_,Ui r hr,?_⟩
 cases e1:OR r
 ·simp[Ci,e1]
 simp
 refine⟨_,TO f,?_⟩
 cases e2:aae f
 ·simp[Ci,e1,e2]
 have hs:=H3 hr e1
 have ho:=hs.orders
 have hf:Ci r f=mD r.orders.length (fun k=>QG (r.orders.getD k default)):=by simp only[Ci,e1,e2,Bool.true_and]
 rw[hf]
 simp
 have hO:=hr.2.2.2.2.1.2
 refine gl r.orders.length (fun k=>QG (r.orders.getD k default)) (fun k=>[.bool false,.int k]) (fun _=>[]) ?_ (fun k hk ho=>?_) (fun k hk ho hb=>?_) (fun hj=>?_)
 ·simp
 ·have hw:=ar hk (by omega)
  simp[hk] at ho
  simp[oR,ml,hk]
  refine⟨_,G9 _ (hO _ (List.getElem_mem hk)),?_⟩
  simp[ho,hw]
 ·simp only[List.getD_eq_getElem?_getD] at hb
  rw[hb]
  simp[hk] at ho
  simp[oR,ml,hk]
  refine⟨_,G9 _ (hO _ (List.getElem_mem hk)),?_⟩
  simp[ho]
 ·simp only[List.getD_eq_getElem?_getD] at hj
  rw[hj]
  simp[oR,ml]
def P7 (r:Realm)(f:File):Bool:=Ci r f&&decide (lu r=0)
theorem US (r:Realm)(f:File)(hr:r.OK):Runs T SB [au r,aE f] (.bool (P7 r f)):=by
 refine .of_tree rfl Yu Rf ?_
 simp[EC,P7]
 refine⟨_,Tp r f hr,?_⟩
 cases e1:Ci r f
 ·simp
 have hs:Small r:=H3 hr (by simp only[Ci,Bool.and_eq_true] at e1;exact e1.1.1)
 simp
 refine⟨_,zA r hs,?_⟩
 simp
 rfl
def Oe (n:Int):Int:=min (max n (-1099511627776)) 1099511627776
theorem nH (n:Int):Runs T Qm [.int n] (.int (Oe n)):=by
 refine .of_tree rfl U7 Pc ?_
 simp[zQ,Oe]
 by_cases h1:-1099511627776>n
 ·have:¬(1099511627776:Int)< -1099511627776:=by omega
  simp[h1];omega
 ·by_cases h2:(1099511627776:Int)<n
  ·simp[h1,h2];omega
  ·simp[h1,h2];omega
def Gn (v:Int):Int×Bool:=if v<0∨19<v then(0,false) else if v<7 then(0,true) else(1,true)
theorem uh (v:Int):Runs T zG [.int v] (.tup [.int (Gn v).1,.bool (Gn v).2]):=by
 refine .of_tree rfl Lx Er ?_
 simp[pG,Gn]
 by_cases h1:v<0
 ·simp[h1]
 by_cases h2:19<v
 ·simp[h1,h2]
 by_cases h3:v<7
 ·simp[h1,h2,h3]
 ·simp[h1,h2,h3]
def V6 (t:Tm):Int×Int:=
 if 0<t.args.length then(0,2) else if t.op=0 then(if Oe t.n≠t.n then(0,3) else(0,0)) else if t.op=1 then(if t.n<0∨1<t.n then(0,3) else(1,0)) else if(Gn t.n).2=false then(0,10) else((Gn t.n).1,0)
theorem Qk (t:Tm):Runs T KI [jd t] (.tup [.int (V6 t).1,.int (V6 t).2]):=by
 refine .of_tree rfl TS Lt ?_
 simp[xe,V6]
 by_cases h0:0<t.args.length
 ·have h0':(0:Int)<t.args.length:=by omega
  simp[h0,h0']
 simp[h0]
 by_cases h1:t.op=0
 ·simp[h1]
  refine⟨_,nH _,?_⟩
  by_cases h2:Oe t.n=t.n<;>simp[h2]
 by_cases h2:t.op=1
 ·simp[h1,h2]
  by_cases h3:t.n<0<;>by_cases h4:1<t.n<;>simp[h3,h4]
 simp[h1,h2]
 refine⟨_,uh _,?_⟩
 cases h3:(Gn t.n).2<;>simp[h3]
def bT (op:Int):List Int×Int:=
 if op=3 then([1],1) else if op=4∨op=5 then([1,1],1) else if op=6 then([1,-1,-1],-1) else if op=7 then([0,0],1) else if op=8 then([-1,-1],1) else([0,0],0)
def AH (s:List Int×Int):D:=.agg [ints s.1,.int s.2]
@[simp] theorem aem (s:List Int×Int):(AH s).cells=[ints s.1,.int s.2]:=_root_.id rfl
@[simp] theorem ahu (s:List Int×Int):(AH s).c 0=ints s.1:=_root_.id rfl
@[simp] theorem agG (s:List Int×Int):(AH s).c 1=.int s.2:=_root_.id rfl
@[simp] theorem ag3 (s:List Int×Int):D.agg [ints s.1,.int s.2]=AH s:=_root_.id rfl
@[simp] theorem aeo (x y:Int):tl (.int x) 0 (.int y)=.int y:=_root_.id rfl
theorem Gt (op:Int):Runs T AB [.int op] (AH (bT op)):=by
 refine .of_tree rfl K9 C5 ?_
 simp[py,bT]
 by_cases h3:op=3
 ·simp[h3];rfl
 by_cases h4:op=4
 ·simp[h4];rfl
 by_cases h5:op=5
 ·simp[h5];rfl
 by_cases h6:op=6
 ·simp[h6];rfl
 by_cases h7:op=7
 ·simp[h7];rfl
 by_cases h8:op=8
 ·simp[h8];rfl
 simp[h3,h4,h5,h6,h7,h8];rfl
end Rm
