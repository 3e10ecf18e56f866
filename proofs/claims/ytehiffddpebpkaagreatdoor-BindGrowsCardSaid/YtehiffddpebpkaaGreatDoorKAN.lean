/-
  Shared texts of this claim.
-/
import Derived.Test.YtehiffddpebpkaaGreatDoorKAL
import Derived.Test.YtehiffddpebpkaaGreatDoorKAM
import Derived.Test.YtehiffddpebpkaaGreatDoorKAK
import Derived.Test.YtehiffddpebpkaaGreatDoorKAJ
import Derived.WalkKit
import Derived.WalkSpells
import Derived.Lib.SliceRun
import Derived.Lib.AppendZeros
import Derived.Laws.Strings
set_option linter.unusedVariables false
set_option maxRecDepth 100000
namespace Rm
open Go Go.Proofs Cx
def pcN:List Nat:=[4,15,58,122,17,61,26,72,38,36,95,100,52,110,109,183,53,113,111,112,119,116,186,54,114,185,184,220,115,55,117,188,187,189,221,222,245,249,247,246,118,190,223,248,224,250,278,285,225,41,50,43,106,178,105,75,145,146,200,230,231,253,147,148,149,201,150,151,152,153,154,173,174,175,176,215,239,120,191,273,284,272,161,177,216,217,240,121,62,131,196,132,65,133,197,20,19,22,16,59,123,124,125,192,226,60,126,193,227,252,228,194,68,229,127,128,195,129,130,5,24,66,138,139,140,141,142,67,143,198,199,69,144,70,25,71,6]
noncomputable def pcL:List (Nat×PC):=[(4,wh),(15,rf),(58,lE),(122,j9),(17,mC),(61,rI),(26,rK),(72,jc),(38,ud),(36,wV),(95,tP),(100,By),(52,lG),(110,iw),(109,br),(183,bP),(53,iS),(113,tG),(111,kj),(112,mu),(119,oJ),(116,cP),(186,eB),(54,j5),(114,iO),(185,fm),(184,bG),(220,cv),(115,gn),(55,kc),(117,oL),(188,ka),(187,cd),(189,nX),(221,j6),(222,oD),(245,qY),(249,ui),(247,ke),(246,j7),(118,rj),(190,eC),(223,dt),(248,uo),(224,ky),(250,fA),(278,kB),(285,oO),(225,dS),(41,wN),(50,kq),(43,oh),(106,mK),(178,gA),(105,rh),(75,mT),(145,mP),(146,oI),(200,mE),(230,km),(231,bO),(253,cN),(147,iI),(148,iX),(149,oN),(201,kf),(150,iP),(151,iZ),(152,mh),(153,je),(154,od),(173,kp),(174,mG),(175,ku),(176,nW),(215,mN),(239,dv),(120,gr),(191,gm),(273,fy),(284,fo),(272,kl),(161,jZ),(177,kz),(216,oa),(217,iy),(240,iM),(121,iW),(62,ej),(131,j3),(196,j0),(132,gl),(65,rC),(133,gx),(197,lZ),(20,kh),(19,tR),(22,tU),(16,wJ),(59,wX),(123,wG),(124,w8),(125,xq),(192,xj),(226,uy),(60,rJ),(126,oM),(193,rE),(227,uw),(252,oy),(228,nY),(194,iV),(68,oe),(229,oF),(127,ri),(128,ou),(195,gC),(129,ly),(130,oH),(5,iv),(24,rF),(66,q9),(138,Bd),(139,tI),(140,rv),(141,q6),(142,oz),(67,rk),(143,tV),(198,re),(199,Bv),(69,uz),(144,q5),(70,rD),(25,ux),(71,uF),(6,rO)]
noncomputable def tab:Nat→Option PC:=aa pcL
theorem aco:pcL.map (·.1)=pcN:=by kernel_rfl
theorem ae:(pcL.map (·.1)).Nodup:=by rw[aco];exact be (by kernel_rfl)
theorem UU:tab Ka=some rf:=ak ae (k:=1) (by kernel_rfl)
theorem OU:tab CC=some lE:=ak ae (k:=2) (by kernel_rfl)
theorem Mz:tab A1=some j9:=ak ae (k:=3) (by kernel_rfl)
theorem QG:tab CT=some mC:=ak ae (k:=4) (by kernel_rfl)
theorem Ub:tab J8=some rI:=ak ae (k:=5) (by kernel_rfl)
theorem Vh:tab KO=some rK:=ak ae (k:=6) (by kernel_rfl)
theorem H8:tab xY=some jc:=ak ae (k:=7) (by kernel_rfl)
theorem V0:tab Nt=some ud:=ak ae (k:=8) (by kernel_rfl)
theorem X7:tab Tv=some wV:=ak ae (k:=9) (by kernel_rfl)
theorem Wl:tab Qe=some tP:=ak ae (k:=10) (by kernel_rfl)
theorem aa7:tab Ww=some By:=ak ae (k:=11) (by kernel_rfl)
theorem Qf:tab Cl=some lG:=ak ae (k:=12) (by kernel_rfl)
theorem Ja:tab yh=some iw:=ak ae (k:=13) (by kernel_rfl)
theorem pk:tab gq=some br:=ak ae (k:=14) (by kernel_rfl)
theorem tu:tab jE=some bP:=ak ae (k:=15) (by kernel_rfl)
theorem JF:tab yo=some iS:=ak ae (k:=16) (by kernel_rfl)
theorem Wj:tab OS=some tG:=ak ae (k:=17) (by kernel_rfl)
theorem Lp:tab AT=some kj:=ak ae (k:=18) (by kernel_rfl)
theorem P2:tab Cr=some mu:=ak ae (k:=19) (by kernel_rfl)
theorem R9:tab Hv=some oJ:=ak ae (k:=20) (by kernel_rfl)
theorem wW:tab nf=some cP:=ak ae (k:=21) (by kernel_rfl)
theorem Cj:tab sl=some eB:=ak ae (k:=22) (by kernel_rfl)
theorem L4:tab zp=some j5:=ak ae (k:=23) (by kernel_rfl)
theorem IU:tab yw=some iO:=ak ae (k:=24) (by kernel_rfl)
theorem DR:tab lT=some fm:=ak ae (k:=25) (by kernel_rfl)
theorem rW:tab jh=some bG:=ak ae (k:=26) (by kernel_rfl)
theorem wA:tab lY=some cv:=ak ae (k:=27) (by kernel_rfl)
theorem Gl:tab wy=some gn:=ak ae (k:=28) (by kernel_rfl)
theorem M7:tab Ac=some kc:=ak ae (k:=29) (by kernel_rfl)
theorem Sq:tab FX=some oL:=ak ae (k:=30) (by kernel_rfl)
theorem Mr:tab rZ=some ka:=ak ae (k:=31) (by kernel_rfl)
theorem vI:tab lu=some cd:=ak ae (k:=32) (by kernel_rfl)
theorem RD:tab G5=some nX:=ak ae (k:=33) (by kernel_rfl)
theorem xZ:tab Az=some j6:=ak ae (k:=34) (by kernel_rfl)
theorem Rz:tab Fa=some oD:=ak ae (k:=35) (by kernel_rfl)
theorem Uv:tab Kw=some qY:=ak ae (k:=36) (by kernel_rfl)
theorem Wy:tab Oe=some ui:=ak ae (k:=37) (by kernel_rfl)
theorem MD:tab AK=some ke:=ak ae (k:=38) (by kernel_rfl)
theorem M0:tab A2=some j7:=ak ae (k:=39) (by kernel_rfl)
theorem Uq:tab KK=some rj:=ak ae (k:=40) (by kernel_rfl)
theorem BL:tab kL=some eC:=ak ae (k:=41) (by kernel_rfl)
theorem yV:tab ph=some dt:=ak ae (k:=42) (by kernel_rfl)
theorem Wv:tab OM=some uo:=ak ae (k:=43) (by kernel_rfl)
theorem MM:tab zI=some ky:=ak ae (k:=44) (by kernel_rfl)
theorem DG:tab tX=some fA:=ak ae (k:=45) (by kernel_rfl)
theorem MG:tab AR=some kB:=ak ae (k:=46) (by kernel_rfl)
theorem R6:tab Ge=some oO:=ak ae (k:=47) (by kernel_rfl)
theorem As:tab qM=some dS:=ak ae (k:=48) (by kernel_rfl)
theorem YE:tab TJ=some wN:=ak ae (k:=49) (by kernel_rfl)
theorem MR:tab z7=some kq:=ak ae (k:=50) (by kernel_rfl)
theorem Sk:tab GP=some oh:=ak ae (k:=51) (by kernel_rfl)
theorem PU:tab Ct=some mK:=ak ae (k:=52) (by kernel_rfl)
theorem Gi:tab wc=some gA:=ak ae (k:=53) (by kernel_rfl)
theorem FC:tab tM=some rh:=ak ae (k:=54) (by kernel_rfl)
theorem Pu:tab C9=some mT:=ak ae (k:=55) (by kernel_rfl)
theorem OW:tab C5=some mP:=ak ae (k:=56) (by kernel_rfl)
theorem R3:tab GV=some oI:=ak ae (k:=57) (by kernel_rfl)
theorem O3:tab CO=some mE:=ak ae (k:=58) (by kernel_rfl)
theorem L7:tab Ax=some km:=ak ae (k:=59) (by kernel_rfl)
theorem tA:tab jD=some bO:=ak ae (k:=60) (by kernel_rfl)
theorem xg:tab ni=some cN:=ak ae (k:=61) (by kernel_rfl)
theorem Jp:tab qx=some iI:=ak ae (k:=62) (by kernel_rfl)
theorem Ih:tab qg=some iX:=ak ae (k:=63) (by kernel_rfl)
theorem RV:tab Hm=some oN:=ak ae (k:=64) (by kernel_rfl)
theorem MQ:tab y9=some kf:=ak ae (k:=65) (by kernel_rfl)
theorem Ib:tab pJ=some iP:=ak ae (k:=66) (by kernel_rfl)
theorem H7:tab pE=some iZ:=ak ae (k:=67) (by kernel_rfl)
theorem Od:tab C3=some mh:=ak ae (k:=68) (by kernel_rfl)
theorem HZ:tab yt=some je:=ak ae (k:=69) (by kernel_rfl)
theorem R1:tab F9=some od:=ak ae (k:=70) (by kernel_rfl)
theorem MY:tab rS=some kp:=ak ae (k:=71) (by kernel_rfl)
theorem N9:tab jK=some mG:=ak ae (k:=72) (by kernel_rfl)
theorem MF:tab sM=some ku:=ak ae (k:=73) (by kernel_rfl)
theorem fU:tab rq=some nW:=ak ae (k:=74) (by kernel_rfl)
theorem mq:tab CR=some mN:=ak ae (k:=75) (by kernel_rfl)
theorem m9:tab pg=some dv:=ak ae (k:=76) (by kernel_rfl)
theorem GH:tab v5=some gr:=ak ae (k:=77) (by kernel_rfl)
theorem GR:tab wF=some gm:=ak ae (k:=78) (by kernel_rfl)
theorem Eh:tab tL=some fy:=ak ae (k:=79) (by kernel_rfl)
theorem sf:tab mL=some fo:=ak ae (k:=80) (by kernel_rfl)
theorem j1:tab zz=some kl:=ak ae (k:=81) (by kernel_rfl)
theorem MH:tab zR=some jZ:=ak ae (k:=82) (by kernel_rfl)
theorem Ly:tab sq=some kz:=ak ae (k:=83) (by kernel_rfl)
theorem Q3:tab HA=some oa:=ak ae (k:=84) (by kernel_rfl)
theorem HY:tab yC=some iy:=ak ae (k:=85) (by kernel_rfl)
theorem JM:tab yi=some iM:=ak ae (k:=86) (by kernel_rfl)
theorem I3:tab yf=some iW:=ak ae (k:=87) (by kernel_rfl)
theorem Cf:tab rT=some ej:=ak ae (k:=88) (by kernel_rfl)
theorem Lt:tab Ap=some j3:=ak ae (k:=89) (by kernel_rfl)
theorem LW:tab AV=some j0:=ak ae (k:=90) (by kernel_rfl)
theorem G8:tab vX=some gl:=ak ae (k:=91) (by kernel_rfl)
theorem Vm:tab y3=some rC:=ak ae (k:=92) (by kernel_rfl)
theorem Gf:tab vM=some gx:=ak ae (k:=93) (by kernel_rfl)
theorem Pc:tab Cp=some lZ:=ak ae (k:=94) (by kernel_rfl)
theorem LJ:tab AD=some kh:=ak ae (k:=95) (by kernel_rfl)
theorem XC:tab Pw=some tR:=ak ae (k:=96) (by kernel_rfl)
theorem Wq:tab QQ=some tU:=ak ae (k:=97) (by kernel_rfl)
theorem Yn:tab SB=some wJ:=ak ae (k:=98) (by kernel_rfl)
theorem YC:tab Tp=some wX:=ak ae (k:=99) (by kernel_rfl)
theorem Zd:tab SX=some wG:=ak ae (k:=100) (by kernel_rfl)
theorem YU:tab TA=some w8:=ak ae (k:=101) (by kernel_rfl)
theorem Yt:tab TC=some xq:=ak ae (k:=102) (by kernel_rfl)
theorem XT:tab TF=some xj:=ak ae (k:=103) (by kernel_rfl)
theorem Ke:tab O0=some uy:=ak ae (k:=104) (by kernel_rfl)
theorem UX:tab Kr=some rJ:=ak ae (k:=105) (by kernel_rfl)
theorem Rf:tab Gj=some oM:=ak ae (k:=106) (by kernel_rfl)
theorem UR:tab oQ=some rE:=ak ae (k:=107) (by kernel_rfl)
theorem WX:tab Qn=some uw:=ak ae (k:=108) (by kernel_rfl)
theorem Rw:tab Hl=some oy:=ak ae (k:=109) (by kernel_rfl)
theorem RP:tab Fo=some nY:=ak ae (k:=110) (by kernel_rfl)
theorem HR:tab px=some iV:=ak ae (k:=111) (by kernel_rfl)
theorem Rj:tab wP=some oe:=ak ae (k:=112) (by kernel_rfl)
theorem Sf:tab Fs=some oF:=ak ae (k:=113) (by kernel_rfl)
theorem UP:tab Kl=some ri:=ak ae (k:=114) (by kernel_rfl)
theorem RX:tab FE=some ou:=ak ae (k:=115) (by kernel_rfl)
theorem GN:tab nL=some gC:=ak ae (k:=116) (by kernel_rfl)
theorem QX:tab Db=some ly:=ak ae (k:=117) (by kernel_rfl)
theorem RY:tab Fh=some oH:=ak ae (k:=118) (by kernel_rfl)
theorem HJ:tab yg=some iv:=ak ae (k:=119) (by kernel_rfl)
theorem Ua:tab KY=some rF:=ak ae (k:=120) (by kernel_rfl)
theorem T8:tab KM=some q9:=ak ae (k:=121) (by kernel_rfl)
theorem abG:tab WJ=some Bd:=ak ae (k:=122) (by kernel_rfl)
theorem Ku:tab Pk=some tI:=ak ae (k:=123) (by kernel_rfl)
theorem Vp:tab K0=some rv:=ak ae (k:=124) (by kernel_rfl)
theorem U3:tab K6=some q6:=ak ae (k:=125) (by kernel_rfl)
theorem Sl:tab E0=some oz:=ak ae (k:=126) (by kernel_rfl)
theorem UB:tab J7=some rk:=ak ae (k:=127) (by kernel_rfl)
theorem Xm:tab P8=some tV:=ak ae (k:=128) (by kernel_rfl)
theorem U1:tab KS=some re:=ak ae (k:=129) (by kernel_rfl)
theorem aal:tab VD=some Bv:=ak ae (k:=130) (by kernel_rfl)
theorem WI:tab PR=some uz:=ak ae (k:=131) (by kernel_rfl)
theorem TY:tab Kp=some q5:=ak ae (k:=132) (by kernel_rfl)
theorem TZ:tab K7=some rD:=ak ae (k:=133) (by kernel_rfl)
theorem W9:tab OQ=some ux:=ak ae (k:=134) (by kernel_rfl)
theorem W3:tab O1=some uF:=ak ae (k:=135) (by kernel_rfl)
theorem caps:∀f cs,aa afF f=some cs→(GO cs.args cs.res=none→aa aq f=some ⟨cs.args++cs.caps,cs.res,.dat⟩)∧∀ys,GO cs.args cs.res=some ys→oR pcN f=false∧N4 Tryz.prog f=true:=VM (l:=afF) (sig:=aq) (P:=Tryz.prog) (pcs:=pcN) (by kernel_rfl)
theorem clos:ClosOK ctx:=⟨(fun f cs h=>(caps f cs h).1),fun f s h=>Sw (l:=aq) (P:=Tryz.prog) (by kernel_rfl) f s h⟩
theorem its:∀f cs ys,ctx.cap f=some cs→GO cs.args cs.res=some ys→tab f=none∧∃fn,ctx.P.funcs[f]?=some fn∧fn.body.isSome=true∧(fn.name== "runtime.NumGoroutine")=false:=fun f cs ys h hi=>⟨Pz (l:=pcL) (by rw[aco];exact((caps f cs h).2 ys hi).1),aaD ((caps f cs h).2 ys hi).2⟩
theorem alr:∀f pc,tab f=some pc→∃fn s ids fr nh,ctx.P.funcs[f]?=some fn∧ctx.sig f=some s∧av {ctx with fr:=fr,nh:=nh} fn s ids=some pc:=
 PQ (R:=fun f pc=>∃fn s ids fr nh,ctx.P.funcs[f]?=some fn∧ctx.sig f=some s∧av {ctx with fr:=fr,nh:=nh} fn s ids=some pc) (l:=pcL)
  (ab ⟨Tryz.f4,(aa aq 4).getD default,[6,8,14,77838,53,78,17,19],[12,13,15,16,18,20],[],Tryz.func4,rfl,BJ⟩
  (ab ⟨Tryz.f15,(aa aq 15).getD default,[1,2,4],[0,3,5,7],[],Tryz.func15,rfl,Lw⟩
  (ab ⟨Tryz.f58,(aa aq 58).getD default,[0,1,2,12290,16386,16,3,24579,28675,32771,4,65540,69636,73732,77828],[],[],Tryz.func58,rfl,GK⟩
  (ab ⟨Tryz.f122,(aa aq 122).getD default,[2,12290],[],[],Tryz.func122,rfl,Ez⟩
  (ab ⟨Tryz.f17,(aa aq 17).getD default,[5,7,10,12],[11],[],Tryz.func17,rfl,F4⟩
  (ab ⟨Tryz.f61,(aa aq 61).getD default,[4,6,8,9],[],[],Tryz.func61,rfl,L1⟩
  (ab ⟨Tryz.f26,(aa aq 26).getD default,[2,4,5,65541,69637,73733,77829,7,31,9,49,11,13],[],[],Tryz.func26,rfl,L9⟩
  (ab ⟨Tryz.f72,(aa aq 72).getD default,[],[4],[],Tryz.func72,rfl,BD⟩
  (ab ⟨Tryz.f38,(aa aq 38).getD default,[5,8,77832,10],[],[],Tryz.func38,rfl,OX⟩
  (ab ⟨Tryz.f36,(aa aq 36).getD default,[4,7,8,9],[10],[],Tryz.func36,rfl,RO⟩
  (ab ⟨Tryz.f95,(aa aq 95).getD default,[4,7,8,10,16394],[9,11,12,13,14],[],Tryz.func95,rfl,QY⟩
  (ab ⟨Tryz.f100,(aa aq 100).getD default,[2,3,4],[5],[],Tryz.func100,rfl,U5⟩
  (ab ⟨Tryz.f52,(aa aq 52).getD default,[2,3,5,6,8,10,90,139],[4,7,9,11,12,13,14,15,16],[],Tryz.func52,rfl,Fl⟩
  (ab ⟨Tryz.f110,(aa aq 110).getD default,[2],[3],[],Tryz.func110,rfl,BH⟩
  (ab ⟨Tryz.f109,(aa aq 109).getD default,[],[4],[],Tryz.func109,rfl,mW⟩
  (ab ⟨Tryz.f183,(aa aq 183).getD default,[],[4,5],[],Tryz.func183,rfl,qk⟩
  (ab ⟨Tryz.f53,(aa aq 53).getD default,[2],[4],[],Tryz.func53,rfl,B6⟩
  (ab ⟨Tryz.f113,(aa aq 113).getD default,[],[4],[],Tryz.func113,rfl,QP⟩
  (ab ⟨Tryz.f111,(aa aq 111).getD default,[2],[],[],Tryz.func111,rfl,D2⟩
  (ab ⟨Tryz.f112,(aa aq 112).getD default,[3,6,8],[],[],Tryz.func112,rfl,E6⟩
  (ab ⟨Tryz.f119,(aa aq 119).getD default,[],[2,3,4,11],[],Tryz.func119,rfl,JL⟩
  (ab ⟨Tryz.f116,(aa aq 116).getD default,[],[4],[],Tryz.func116,rfl,tD⟩
  (ab ⟨Tryz.f186,(aa aq 186).getD default,[],[4,5],[],Tryz.func186,rfl,xE⟩
  (ab ⟨Tryz.f54,(aa aq 54).getD default,[4,10,53],[8,9,11,12,13,14,55,70],[],Tryz.func54,rfl,Ek⟩
  (ab ⟨Tryz.f114,(aa aq 114).getD default,[4,9],[8],[],Tryz.func114,rfl,BW⟩
  (ab ⟨Tryz.f185,(aa aq 185).getD default,[],[3],[],Tryz.func185,rfl,yT⟩
  (ab ⟨Tryz.f184,(aa aq 184).getD default,[],[4],[],Tryz.func184,rfl,pj⟩
  (ab ⟨Tryz.f220,(aa aq 220).getD default,[],[4,5],[],Tryz.func220,rfl,se⟩
  (ab ⟨Tryz.f115,(aa aq 115).getD default,[4,11],[8,9],[],Tryz.func115,rfl,zY⟩
  (ab ⟨Tryz.f55,(aa aq 55).getD default,[3,6,8,10],[7,9,11,12],[],Tryz.func55,rfl,DV⟩
  (ab ⟨Tryz.f117,(aa aq 117).getD default,[2,3,4,12292,9],[5,6,7,8,10,11],[],Tryz.func117,rfl,JI⟩
  (ab ⟨Tryz.f188,(aa aq 188).getD default,[2],[3],[],Tryz.func188,rfl,Em⟩
  (ab ⟨Tryz.f187,(aa aq 187).getD default,[],[4,5],[],Tryz.func187,rfl,rG⟩
  (ab ⟨Tryz.f189,(aa aq 189).getD default,[1],[2,3],[],Tryz.func189,rfl,Jw⟩
  (ab ⟨Tryz.f221,(aa aq 221).getD default,[2,7,12295],[4,5],[],Tryz.func221,rfl,Dz⟩
  (ab ⟨Tryz.f222,(aa aq 222).getD default,[1,4,6,12294,9],[2,3,5,7,8,38,47,10,11,12],[],Tryz.func222,rfl,JU⟩
  (ab ⟨Tryz.f245,(aa aq 245).getD default,[1],[2,3,12,20,4,5],[],Tryz.func245,rfl,LL⟩
  (ab ⟨Tryz.f249,(aa aq 249).getD default,[],[2],[],Tryz.func249,rfl,NG⟩
  (ab ⟨Tryz.f247,(aa aq 247).getD default,[],[2,3,4,11],[],Tryz.func247,rfl,DL⟩
  (ab ⟨Tryz.f246,(aa aq 246).getD default,[2],[4,8,13,17,21],[],Tryz.func246,rfl,Dy⟩
  (ab ⟨Tryz.f118,(aa aq 118).getD default,[2,4,7],[5,6,8],[],Tryz.func118,rfl,MT⟩
  (ab ⟨Tryz.f190,(aa aq 190).getD default,[2,3,4,6,33,7,8,10,12298,12],[5,15,21,9,11],[],Tryz.func190,rfl,xL⟩
  (ab ⟨Tryz.f223,(aa aq 223).getD default,[2,4],[5,6],[],Tryz.func223,rfl,u7⟩
  (ab ⟨Tryz.f248,(aa aq 248).getD default,[2],[],[],Tryz.func248,rfl,P7⟩
  (ab ⟨Tryz.f224,(aa aq 224).getD default,[4,5],[9,22,41,6,7,82,88,94],[],Tryz.func224,rfl,EG⟩
  (ab ⟨Tryz.f250,(aa aq 250).getD default,[],[6,8,14,20,25],[],Tryz.func250,rfl,yM⟩
  (ab ⟨Tryz.f278,(aa aq 278).getD default,[],[4,5,6,7],[],Tryz.func278,rfl,DA⟩
  (ab ⟨Tryz.f285,(aa aq 285).getD default,[],[4,5,6,7,8,9,10,11,12,13],[],Tryz.func285,rfl,Jx⟩
  (ab ⟨Tryz.f225,(aa aq 225).getD default,[6],[2,3,5,8],[],Tryz.func225,rfl,vR⟩
  (ab ⟨Tryz.f41,(aa aq 41).getD default,[1],[2,3,7,12],[],Tryz.func41,rfl,Q4⟩
  (ab ⟨Tryz.f50,(aa aq 50).getD default,[4,6],[8,9,10,11],[],Tryz.func50,rfl,Es⟩
  (ab ⟨Tryz.f43,(aa aq 43).getD default,[1],[2],[],Tryz.func43,rfl,IV⟩
  (ab ⟨Tryz.f106,(aa aq 106).getD default,[1,3,6,8],[2,4],[],Tryz.func106,rfl,F5⟩
  (ab ⟨Tryz.f178,(aa aq 178).getD default,[],[2,3,4],[],Tryz.func178,rfl,Ah⟩
  (ab ⟨Tryz.f105,(aa aq 105).getD default,[4,5,10],[8,9,15,39,58,74,11,12],[],Tryz.func105,rfl,L5⟩
  (ab ⟨Tryz.f75,(aa aq 75).getD default,[1,9],[2,3,4,5,6,7,10,11,12],[],Tryz.func75,rfl,FM⟩
  (ab ⟨Tryz.f145,(aa aq 145).getD default,[1,2,3,4,6,16390,20486,24582,21,8,34,10,12298,16394,47],[],[],Tryz.func145,rfl,FJ⟩
  (ab ⟨Tryz.f146,(aa aq 146).getD default,[],[6,7,8],[],Tryz.func146,rfl,Ir⟩
  (ab ⟨Tryz.f200,(aa aq 200).getD default,[],[4],[],Tryz.func200,rfl,FG⟩
  (ab ⟨Tryz.f230,(aa aq 230).getD default,[],[2,3,4,5],[],Tryz.func230,rfl,EK⟩
  (ab ⟨Tryz.f231,(aa aq 231).getD default,[],[4],[],Tryz.func231,rfl,pZ⟩
  (ab ⟨Tryz.f253,(aa aq 253).getD default,[],[4,5],[],Tryz.func253,rfl,tC⟩
  (ab ⟨Tryz.f147,(aa aq 147).getD default,[],[2],[],Tryz.func147,rfl,BQ⟩
  (ab ⟨Tryz.f148,(aa aq 148).getD default,[],[3],[],Tryz.func148,rfl,BZ⟩
  (ab ⟨Tryz.f149,(aa aq 149).getD default,[2,3],[4,6],[],Tryz.func149,rfl,Iz⟩
  (ab ⟨Tryz.f201,(aa aq 201).getD default,[],[6,7,8],[],Tryz.func201,rfl,Ee⟩
  (ab ⟨Tryz.f150,(aa aq 150).getD default,[],[3],[],Tryz.func150,rfl,BY⟩
  (ab ⟨Tryz.f151,(aa aq 151).getD default,[],[3],[],Tryz.func151,rfl,BO⟩
  (ab ⟨Tryz.f152,(aa aq 152).getD default,[1,3,4,6,19,8,16392,36],[2],[],Tryz.func152,rfl,FW⟩
  (ab ⟨Tryz.f153,(aa aq 153).getD default,[1,4,6],[2,3],[],Tryz.func153,rfl,B5⟩
  (ab ⟨Tryz.f154,(aa aq 154).getD default,[1,4,6],[2],[],Tryz.func154,rfl,Jc⟩
  (ab ⟨Tryz.f173,(aa aq 173).getD default,[2],[4],[],Tryz.func173,rfl,EH⟩
  (ab ⟨Tryz.f174,(aa aq 174).getD default,[],[2],[],Tryz.func174,rfl,Gm⟩
  (ab ⟨Tryz.f175,(aa aq 175).getD default,[1],[2],[],Tryz.func175,rfl,EB⟩
  (ab ⟨Tryz.f176,(aa aq 176).getD default,[3,4],[6,7,13,16,24,33,8,9],[],Tryz.func176,rfl,JE⟩
  (ab ⟨Tryz.f215,(aa aq 215).getD default,[3],[4,5],[],Tryz.func215,rfl,FO⟩
  (ab ⟨Tryz.f239,(aa aq 239).getD default,[],[4,5,6,7,8,9],[],Tryz.func239,rfl,uW⟩
  (ab ⟨Tryz.f120,(aa aq 120).getD default,[],[2],[],Tryz.func120,rfl,zj⟩
  (ab ⟨Tryz.f191,(aa aq 191).getD default,[],[2,3,4,5,6,7,8,9],[],Tryz.func191,rfl,A3⟩
  (ab ⟨Tryz.f273,(aa aq 273).getD default,[],[4],[],Tryz.func273,rfl,yS⟩
  (ab ⟨Tryz.f284,(aa aq 284).getD default,[],[6,0,1],[],Tryz.func284,rfl,yY⟩
  (ab ⟨Tryz.f272,(aa aq 272).getD default,[],[6,7,8],[],Tryz.func272,rfl,EY⟩
  (ab ⟨Tryz.f161,(aa aq 161).getD default,[3,9],[6,7],[],Tryz.func161,rfl,D9⟩
  (ab ⟨Tryz.f177,(aa aq 177).getD default,[3],[6,7,8,2,9,10],[],Tryz.func177,rfl,EP⟩
  (ab ⟨Tryz.f216,(aa aq 216).getD default,[3,9],[6,7,2],[],Tryz.func216,rfl,Jd⟩
  (ab ⟨Tryz.f217,(aa aq 217).getD default,[2,4,5],[6],[],Tryz.func217,rfl,B7⟩
  (ab ⟨Tryz.f240,(aa aq 240).getD default,[3,4,5],[6],[],Tryz.func240,rfl,BG⟩
  (ab ⟨Tryz.f121,(aa aq 121).getD default,[2],[4,5,6,7],[],Tryz.func121,rfl,BF⟩
  (ab ⟨Tryz.f62,(aa aq 62).getD default,[2,4,5,6],[],[],Tryz.func62,rfl,w7⟩
  (ab ⟨Tryz.f131,(aa aq 131).getD default,[3],[6],[],Tryz.func131,rfl,ED⟩
  (ab ⟨Tryz.f196,(aa aq 196).getD default,[2,5,7],[4],[],Tryz.func196,rfl,Dx⟩
  (ab ⟨Tryz.f132,(aa aq 132).getD default,[3,7],[6],[],Tryz.func132,rfl,zD⟩
  (ab ⟨Tryz.f65,(aa aq 65).getD default,[],[2,3,5,12,15],[],Tryz.func65,rfl,LA⟩
  (ab ⟨Tryz.f133,(aa aq 133).getD default,[2,9],[4,5,6,7,10,50,54],[],Tryz.func133,rfl,zB⟩
  (ab ⟨Tryz.f197,(aa aq 197).getD default,[2,7],[4,5],[],Tryz.func197,rfl,Hi⟩
  (ab ⟨Tryz.f20,(aa aq 20).getD default,[4,6,9,10,28],[8,11],[],Tryz.func20,rfl,DO⟩
  (ab ⟨Tryz.f19,(aa aq 19).getD default,[],[4,5],[],Tryz.func19,rfl,Of⟩
  (ab ⟨Tryz.f22,(aa aq 22).getD default,[],[4],[],Tryz.func22,rfl,Nv⟩
  (ab ⟨Tryz.f16,(aa aq 16).getD default,[2,3],[4],[],Tryz.func16,rfl,Q8⟩
  (ab ⟨Tryz.f59,(aa aq 59).getD default,[2,3],[4,5],[],Tryz.func59,rfl,RH⟩
  (ab ⟨Tryz.f123,(aa aq 123).getD default,[1],[2,3,4],[],Tryz.func123,rfl,RR⟩
  (ab ⟨Tryz.f124,(aa aq 124).getD default,[1],[2],[],Tryz.func124,rfl,Rt⟩
  (ab ⟨Tryz.f125,(aa aq 125).getD default,[1],[2,3],[],Tryz.func125,rfl,RZ⟩
  (ab ⟨Tryz.f192,(aa aq 192).getD default,[1],[2],[],Tryz.func192,rfl,RG⟩
  (ab ⟨Tryz.f226,(aa aq 226).getD default,[3],[6,1,7],[],Tryz.func226,rfl,Qc⟩
  (ab ⟨Tryz.f60,(aa aq 60).getD default,[1],[2,3],[],Tryz.func60,rfl,MW⟩
  (ab ⟨Tryz.f126,(aa aq 126).getD default,[1,5,44],[2,3,4,6,7],[],Tryz.func126,rfl,Jy⟩
  (ab ⟨Tryz.f193,(aa aq 193).getD default,[],[4],[],Tryz.func193,rfl,Lu⟩
  (ab ⟨Tryz.f227,(aa aq 227).getD default,[],[2,3,4],[],Tryz.func227,rfl,NV⟩
  (ab ⟨Tryz.f252,(aa aq 252).getD default,[],[2],[],Tryz.func252,rfl,JH⟩
  (ab ⟨Tryz.f228,(aa aq 228).getD default,[],[6,7],[],Tryz.func228,rfl,Iv⟩
  (ab ⟨Tryz.f194,(aa aq 194).getD default,[2,3],[4,5],[],Tryz.func194,rfl,B9⟩
  (ab ⟨Tryz.f68,(aa aq 68).getD default,[],[6],[],Tryz.func68,rfl,Iy⟩
  (ab ⟨Tryz.f229,(aa aq 229).getD default,[],[6,7],[],Tryz.func229,rfl,Io⟩
  (ab ⟨Tryz.f127,(aa aq 127).getD default,[1,4,44],[2,3,5,6],[],Tryz.func127,rfl,Lv⟩
  (ab ⟨Tryz.f128,(aa aq 128).getD default,[1,3,24],[2,4,5],[],Tryz.func128,rfl,Jf⟩
  (ab ⟨Tryz.f195,(aa aq 195).getD default,[1],[2,3,4],[],Tryz.func195,rfl,zO⟩
  (ab ⟨Tryz.f129,(aa aq 129).getD default,[1,4],[2,3,5],[],Tryz.func129,rfl,Gy⟩
  (ab ⟨Tryz.f130,(aa aq 130).getD default,[1,4,6],[2,3,5],[],Tryz.func130,rfl,Ia⟩
  (ab ⟨Tryz.f5,(aa aq 5).getD default,[5,7,12],[10,11,13,14,15,16],[],Tryz.func5,rfl,BK⟩
  (ab ⟨Tryz.f24,(aa aq 24).getD default,[2,3],[4,5,6,7,8,9,10],[],Tryz.func24,rfl,LK⟩
  (ab ⟨Tryz.f66,(aa aq 66).getD default,[2,3],[4,5,6,7,8,9],[],Tryz.func66,rfl,Mj⟩
  (ab ⟨Tryz.f138,(aa aq 138).getD default,[],[4],[],Tryz.func138,rfl,Va⟩
  (ab ⟨Tryz.f139,(aa aq 139).getD default,[],[4],[],Tryz.func139,rfl,OZ⟩
  (ab ⟨Tryz.f140,(aa aq 140).getD default,[],[2],[],Tryz.func140,rfl,Ml⟩
  (ab ⟨Tryz.f141,(aa aq 141).getD default,[1,3],[2],[],Tryz.func141,rfl,Ll⟩
  (ab ⟨Tryz.f142,(aa aq 142).getD default,[3],[6,7,8],[],Tryz.func142,rfl,JS⟩
  (ab ⟨Tryz.f67,(aa aq 67).getD default,[3,4,7],[6,8],[],Tryz.func67,rfl,MS⟩
  (ab ⟨Tryz.f143,(aa aq 143).getD default,[3,4,7],[6,8,21,71,101,9,10,146,179],[],Tryz.func143,rfl,Qb⟩
  (ab ⟨Tryz.f198,(aa aq 198).getD default,[2],[4,5],[],Tryz.func198,rfl,LY⟩
  (ab ⟨Tryz.f199,(aa aq 199).getD default,[3],[6],[],Tryz.func199,rfl,UE⟩
  (ab ⟨Tryz.f69,(aa aq 69).getD default,[3,4,7],[6],[],Tryz.func69,rfl,NL⟩
  (ab ⟨Tryz.f144,(aa aq 144).getD default,[3,4,5],[6,7,8,9,10,56,76,93,114,133,151],[],Tryz.func144,rfl,Md⟩
  (ab ⟨Tryz.f70,(aa aq 70).getD default,[2,5,6],[4],[],Tryz.func70,rfl,LZ⟩
  (ab ⟨Tryz.f25,(aa aq 25).getD default,[2,77826,3,4,5,7,9],[6,8],[],Tryz.func25,rfl,N8⟩
  (ab ⟨Tryz.f71,(aa aq 71).getD default,[3,6],[7],[],Tryz.func71,rfl,Qq⟩
  (ab ⟨Tryz.f6,(aa aq 6).getD default,[6,8,14,16,73744,21],[12,13,15,17,18,19,20],[],Tryz.func6,rfl,y2⟩
  trivial)))))))))))))))))))))))))))))))))))))))))))))))))))))))))))))))))))))))))))))))))))))))))))))))))))))))))))))))))))))))))))))))))))))))))
end Rm
set_option linter.unusedSimpArgs false
namespace Rm
open Go Go.Proofs Cx Go.RowKit Go.Lib
theorem ah8:(Tryz.prog.info? 3).map (fun i=>(i.zero,i.size,i.bytes))=some (some (.int .i64 0),1,8):=by kernel_rfl
set_option maxHeartbeats 2000000 in
set_option maxRecDepth 100000 in
theorem aau (w:World):Calls Tryz.prog 251 #[.slice none 0 0,.int .i64 0] w fun e w'=>e=.returned (.slice none 0 0)∧w'=w:=by
 go_enter Tryz.func251,Tryz.ntmps251
 go_wp2
 go_ret
 exact⟨rfl,rfl⟩
set_option maxHeartbeats 2000000 in
set_option maxRecDepth 100000 in
theorem ado (n:Nat)(w:World)(h0:0<n)(h1:n≤4294967296):Calls Tryz.prog 251 #[.slice none 0 0,.int .i64 n] w fun e w'=>
 ∃v',e=.returned v'∧w'.ownsRow w.heap.size 3 1 v' 0 []∧Below w.heap.size w w':=by
 obtain⟨i0,hi,hz0,hz1,hz2⟩:=info_parts ah8
 have hr:=run_append_nil_zeros w 68 3 68 3 i0 (.int .i64 0) .i64 .i64 Tryz.underlying68 Tryz.underlying3 hi hz0 n h0 (by rw[hz1];decide) (by omega) (by rw[hz2];omega)
 have hn:¬((n:Int)<0):=by omega
 have hn2:(n:Int)>0:=by omega
 have hw:IntKind.i64.wrap (n:Int)=n:=by rw[IntKind.wrap_i64];omega
 have hw0:IntKind.i64.wrap 0=0:=by decide
 have hge:=grownCap_ge w n 0 3
 have hle:=grownCap_le_maxLen w n 0 3 (by unfold maxLen;omega)
 have hs:(Builtin.zeroCells #[Value.int IntKind.i64 0] n++Builtin.zeroCells #[Value.int IntKind.i64 0] (grownCap w n 0 3-n)).size=grownCap w n 0 3*1:=by
  rw[Array.size_append,size_zeroCells,size_zeroCells];simp;omega
 go_enter Tryz.func251,Tryz.ntmps251
 go_wp2_with (at_builtin;refine wpList_append_run _ rfl _ _ 68 3 rfl _ _ rfl rfl _ _ hr ?qc)
 go_ret
 refine⟨_,rfl,?_,?_⟩
 ·exact World.ownsRow.drew (World.ownsRow_made w _ _ (Nat.le_refl _) hle hs)
 ·exact((Below.refl _ w).alloc (Nat.le_refl _) _).drew
def ZL (ds:List D):Option D:=
 match ds with
 |[.list [],.v (.int .i64 n)]=>if 0≤n∧n≤4294967296 then some (.list []) else none
 |_=>none
theorem ad1 (ds:List D)(d:D)(h:ZL ds=some d):∃s,ctx.sig 251=some s∧abR ctx 251 s ds d:=by
 refine⟨_,rfl,fun _=>?_,fun shs obs hm=>by cases hm⟩
 unfold ZL at h
 split at h
 case h_2=>cases h
 rename_i n
 split at h
 case isFalse=>cases h
 rename_i hn
 cases h
 obtain⟨k,rfl⟩:=Int.eq_ofNat_of_zero_le hn.1
 intro σ w args hok hC ha
 obtain⟨a1,a2,a3⟩:=ha
 have h0:=a3 0 _ rfl
 have h1:=a3 1 _ rfl
 obtain⟨u,v,rfl⟩:∃u v,args=#[u,v]:=by
  have:args.size=2:=by simpa using a1
  match args,this with
  |⟨[u,v]⟩,_=>exact⟨u,v,rfl⟩
 simp only[List.getD_cons_zero,List.getD_cons_succ] at h0 h1
 change Rep ctx.cap σ (.nils .bool) u (.list []) at h0
 change Rep ctx.cap σ (.int .i64) v (.v (.int .i64 k)) at h1
 have hu:u=.slice none 0 0:=by cases h0;rfl
 have hv:v=.int .i64 k:=by cases h1;rfl
 subst hu hv
 by_cases hk:k=0
 ·subst hk
  refine(aau w).mono fun e w' hh=>?_
  obtain⟨rfl,rfl⟩:=hh
  refine⟨_,σ,rfl,.refl σ,hok,.refl _ _,fun _ _ _ h=>.inl h,fun _ _ h=>.inl h,?_⟩
  exact⟨[],[],rfl,⟨by simp,.inl ⟨rfl,rfl⟩⟩,⟨fun _=>undef,fun i x hx=>by simp at hx,fun i j u hi=>by simp at hi⟩,fun k hk=>by cases hk⟩
 ·refine(ado k w (by omega) (by omega)).mono fun e w' hh=>?_
  obtain⟨v',rfl,hown,hb⟩:=hh
  refine⟨v',σ,rfl,.refl σ,hok.below hb,hb,fun _ _ _ h=>.inl h,fun _ _ h=>.inl h,?_⟩
  refine⟨[],[],rfl,hown,⟨fun _=>undef,fun i x hx=>by simp at hx,fun i j u hi=>by simp at hi⟩,fun k hk=>?_⟩
  have hk':=(hown.lt k hk).1
  refine⟨fun o=>?_,?_⟩
  ·cases hc:σ.c k o with
   |none=>rfl
   |some u=>have:=World.block_lt_of_cell? w (a:=⟨k,o,none⟩) (hok.c _ _ _ hc);simp at this;omega
  ·cases hc:σ.m k with
   |none=>rfl
   |some u=>rcases hok.m _ _ hc with⟨arr,clock,x,g1,_⟩|⟨_,g1⟩<;>(have:=(Array.getElem?_eq_some_iff.1 g1).1;omega)
def oY (day:Int):Int×Int×Int:=
 let n:=day+730425
 let e:=n/146097
 let r:=n%146097
 let y:=(r-r/1460+r/36524-r/146096)/365
 let r:=r-(365*y+y/4-y/100)
 let m:=(5*r+2)/153
 let dom:=r-(153*m+2)/5+1
 let month:=if 12<m+3 then m+3-12 else m+3
 (if month<3 then y+400*e+1 else y+400*e,month,dom)
def Oc (rest feasts shut:List Int)(day:Int):Bool:=
 !rest.contains ((day+5)%7)&&(!feasts.contains (100*(oY day).2.1+(oY day).2.2)&& !shut.contains day)
def ae6 (rest feasts shut:List Int)(a b:Int):List Int:=((List.range (b-a+1).toNat).map fun(k:Nat)=>a+k).filter (Oc rest feasts shut)
def DH (d:D):List Int:=d.l.map D.i
def aeJ (ds:List D):List D:=
 let c:=(ds.getD 2 .none).deref
 (ae6 (DH (c.c 3)) (DH (c.c 4)) (DH (c.c 5)) (ds.getD 0 .none).deref.i (ds.getD 1 .none).deref.i).map fun d=>.tup [.int d]
def atS (r:D)(city:Int):Int:=if 0≤city∧city<(r.c 1).l.length then(((r.c 1).l.getD city.toNat .none).c 1).i else-1
def TV (ds:List D):D:=
 let r:=ds.getD 0 .none
 let forum:=(ds.getD 1 .none).i
 let c:=ds.getD 2 .none
 let s:=(c.c 15).l.getD (c.c 19).i.toNat .none
 let who:=(s.c 2).i
 if who<0∨(r.c 3).l.length≤who∨forum<0∨(r.c 4).l.length≤forum then .list [] else
 let out:=[forum,atS r (s.c 7).i,atS r (c.c 10).i,atS r (c.c 9).i,atS r (((r.c 3).l.getD who.toNat .none).c 1).i]
 if(-1)∈out then .list [] else ints out
noncomputable def aho:List (Nat×(aO→List D→Option D)):=[(251,fun _ ds=>ZL ds),(101,aaW qf qw TV),(274,itG dj 1000 1 aeJ)]
noncomputable def ext:Nat→Option (aO→List D→Option D):=aa aho
theorem aiq:TabOK ctx tab ext:=by
 refine⟨clos,its,fun f pc _ h=>alr f pc h,fun f g hg Φ hΦ hIt ds d h=>?_⟩
 have:=PQ (R:=fun f (g:aO→List D→Option D)=>∀Φ,FunsOK ctx Φ→ItsOK ctx Φ→∀ds d,g Φ ds=some d→(∀s,ctx.sig f=some s→abR ctx f s ds d)∧
  ∀cs ys,ctx.cap f=some cs→GO cs.args cs.res=some ys→∃xs,d=.list xs∧(∀x,x∈xs→∃ds',x=.tup ds'∧ds'.length=ys.length)∧ItOK ctx f cs.caps ys ds xs) (l:=aho)
  ⟨fun Φ hΦ hIt ds d h=>⟨fun s hs=>by obtain⟨s',h1,h2⟩:=ad1 ds d h;rw[hs] at h1;cases h1;exact h2,fun cs ys hc hi=>by cases hc⟩,
   fun Φ hΦ hIt ds d h=>⟨fun s hs=>by cases hs;exact⟨fun _=>ad6 clos hΦ hIt Tryz.func101 Ea Ds h,fun shs obs hm=>by cases hm⟩,fun cs ys hc hi=>by cases hc⟩,
   fun Φ hΦ hIt ds d h=>⟨fun s hs=>(by cases hs),fun cs ys hc hi=>by
    cases hc
    cases hi
    exact aga clos hΦ hIt Tryz.func274 BR h rfl⟩,trivial⟩ f g hg
 exact this Φ hΦ hIt ds d h
noncomputable abbrev T:bn:=Tab tab ext
theorem Runs.of_nsl {tab:Nat→Option PC}{ext:Nat→Option (aO→List D→Option D)}{f:Nat}{pa pb:PC}{spec:List D→D}{ds:List D}{ta tb:PT}(hx:ext f=some (aaW pa pb spec))(hta:tree pa=ta)(htb:tree pb=tb)
 (h:(∃xs,xs≠[]∧spec ds=.list xs∧aE (Tab tab ext) ta (Ep ds) (fun x=>x=.ret (.list xs)))∨(spec ds=.list []∧aE (Tab tab ext) tb (Ep ds) (fun x=>x=.ret (.list [])))):Runs (Tab tab ext) f ds (spec ds):=by
 refine Runs.of_ext hx ?_
 rcases h with⟨xs,h1,h2,h3⟩|⟨h2,h3⟩
 ·obtain⟨x,rfl,n0,hn⟩:=Nh (c:=pa) (hta▸h3)
  refine⟨n0,fun n hle=>?_⟩
  unfold aaW
  rw[if_pos (.inl ⟨n,xs,hn n hle,h1,h2⟩)]
 ·obtain⟨x,rfl,n0,hn⟩:=Nh (c:=pb) (htb▸h3)
  refine⟨n0,fun n hle=>?_⟩
  unfold aaW
  rw[if_pos (.inr ⟨n,hn n hle,h2⟩)]
end Rm
namespace Rm
open Go Go.Proofs Cx
def mg (n:Nat)(p:Nat→Bool):Bool:=(List.range n).all p
theorem Bg {n:Nat}{p:Nat→Bool}(h:∀k,k<n→p k=true):mg n p=true:=List.all_eq_true.2 fun k hk=>h k (List.mem_range.1 hk)
theorem QA {n k:Nat}{p:Nat→Bool}(hk:k<n)(h:p k=false):mg n p=false:=List.all_eq_false.2 ⟨k,List.mem_range.2 hk,by simp[h]⟩
theorem allB_iff {n:Nat}{p:Nat→Bool}:mg n p=true↔∀k,k<n→p k=true:=⟨fun h k hk=>List.all_eq_true.1 h k (List.mem_range.2 hk),Bg⟩
def kD (n:Nat)(f:Nat→Int):Int:=(((List.range n).map f).find? fun x=>x !=0).getD 0
theorem K4 {n:Nat}{f:Nat→Int}(h:∀k,k<n→f k=0):kD n f=0:=by
 unfold kD
 rw[List.find?_eq_none.2]
 ·rfl
 ·intro x hx
  obtain⟨k,hk,rfl⟩:=List.mem_map.1 hx
  simp[h k (List.mem_range.1 hk)]
theorem TE {n k:Nat}{f:Nat→Int}(hk:k<n)(hj:∀j,j<k→f j=0)(h:f k≠0):kD n f=f k:=by
 unfold kD
 have e:List.range n=List.range k++k::(List.range' (k+1) (n-k-1)):=by
  rw[List.range_eq_range',List.range_eq_range',←List.range'_succ];have:=List.range'_append_1 (s:=0) (m:=k) (n:=n-k-1+1);rw[Nat.zero_add] at this;rw[this];congr 1;omega
 rw[e,List.map_append,List.find?_append,List.find?_eq_none.2,Option.none_or,List.map_cons,List.find?_cons_of_pos (by simpa using h)]
 ·rfl
 ·intro x hx
  obtain⟨j,hjm,rfl⟩:=List.mem_map.1 hx
  simp[hj j (List.mem_range.1 hjm)]
theorem firstE_iff {n:Nat}{f:Nat→Int}:kD n f=0↔∀k,k<n→f k=0:=by
 refine⟨fun h k=>?_,K4⟩
 induction k using Nat.strongRecOn with
 |ind k ih=>
  intro hk
  refine Classical.byContradiction fun hne=>?_
  rw[TE hk (fun j hj=>ih j hj (by omega)) hne] at h
  exact hne h
section
variable {T:bn} {id:Nat} {lrb lob lr lo:List Nat} {a:PC} {ρ:Env} {Q:Out→Prop}
theorem gz (N:Nat)(p:Nat→Bool)(str sto:Nat→List D)(h0:lr.map ρ.r=str 0∧lo.map ρ.o=sto 0)
 (step:∀k,k<N→p k=true→aE T (round id lrb lob lr lo a) (ρ.put lr (str k) lo (sto k)) (bY ρ id lrb lob lr lo (fun vr vo=>vr=str (k+1)∧vo=sto (k+1)) Q))
 (bad:∀k,k<N→p k=false→mg N p=false→aE T (round id lrb lob lr lo a) (ρ.put lr (str k) lo (sto k)) (bY ρ id lrb lob lr lo (fun _ _=>False) Q))
 (last:mg N p=true→aE T (round id lrb lob lr lo a) (ρ.put lr (str N) lo (sto N)) (bY ρ id lrb lob lr lo (fun _ _=>False) Q)):EvP T (.block id lrb lob (.loop lr lo a)) ρ Q:=
 .scan N (fun k=>p k=true) str sto h0 (fun k hk _ h=>step k hk h) (fun k hk _ h=>bad k hk (by simpa using h) (QA hk (by simpa using h))) (fun h=>last (Bg h))
theorem Kv (N:Nat)(f:Nat→Int)(str sto:Nat→List D)(h0:lr.map ρ.r=str 0∧lo.map ρ.o=sto 0)
 (step:∀k,k<N→f k=0→aE T (round id lrb lob lr lo a) (ρ.put lr (str k) lo (sto k)) (bY ρ id lrb lob lr lo (fun vr vo=>vr=str (k+1)∧vo=sto (k+1)) Q))
 (bad:∀k,k<N→f k≠0→kD N f=f k→aE T (round id lrb lob lr lo a) (ρ.put lr (str k) lo (sto k)) (bY ρ id lrb lob lr lo (fun _ _=>False) Q))
 (last:kD N f=0→aE T (round id lrb lob lr lo a) (ρ.put lr (str N) lo (sto N)) (bY ρ id lrb lob lr lo (fun _ _=>False) Q)):EvP T (.block id lrb lob (.loop lr lo a)) ρ Q:=
 .scan N (fun k=>f k=0) str sto h0 (fun k hk _ h=>step k hk h) (fun k hk hj h=>bad k hk h (TE hk hj h)) (fun h=>last (K4 h))
end
theorem ar {k n:Nat}(h:k<n)(hn:n≤4294967296):IntKind.i64.wrap ((k:Int)+1)=(k:Int)+1:=az (by omega)
theorem ia {k:Nat}(hn:k≤4294967296):IntKind.i64.wrap ((k:Int)-1)=(k:Int)-1:=az (by omega)
def inB (i n:Int):Bool:=decide (0≤i)&&decide (i<n)
def wi (n a b:Int):Bool:=decide (a≤n)&&decide (n≤b)
theorem aB (i n:Int):Runs T OS [.int i,.int n] (.bool (inB i n)):=by
 refine .of_tree rfl Wj PW ?_
 simp[zg,inB]
 by_cases h:0≤i<;>simp[h]
theorem aL (i n:Int):Runs T xY [.int i,.int n] (.bool (inB i n)):=by
 refine .of_tree rfl H8 B1 ?_
 simp[nr,inB]
 by_cases h:0≤i<;>simp[h]
theorem af (n a b:Int):Runs T wP [.int n,.int a,.int b] (.bool (wi n a b)):=by
 refine .of_tree rfl Rj H3 ?_
 simp[uN,wi]
 by_cases h:a≤n<;>simp[h]
theorem idx_eq {α:Type}[DecidableEq α]{l:List α}{x z:α}{k:Nat}(hk:k<l.length)(hj:∀j,j<k→l.getD j z≠x)(h:¬l.getD k z≠x):x∈l∧l.findIdx (fun y=>decide (y=x))=k:=by
 have e:l[k]=x:=by simpa [hk] using h
 refine⟨e▸List.getElem_mem hk,(List.findIdx_eq hk).2 ⟨by simp[e],fun j hji=>?_⟩⟩
 have hjl:j<l.length:=by omega
 simpa [hjl] using hj j hji
theorem XK {α:Type}[DecidableEq α]{l:List α}{x z:α}(hj:∀j,j<l.length→l.getD j z≠x):¬x∈l:=fun hm=>by
 obtain⟨j,hjl,rfl⟩:=List.getElem_of_mem hm
 have:=hj j hjl
 simp[hjl] at this
def Xh {α:Type}[DecidableEq α](l:List α)(x:α):Int:=if x∈l then(l.findIdx (fun y=>decide (y=x)):Nat) else-1
def hasB {α:Type}[DecidableEq α](l:List α)(x:α):Bool:=l.any fun y=>decide (y=x)
theorem hasB_iff {α:Type}[DecidableEq α]{l:List α}{x:α}:hasB l x=true↔x∈l:=by simp[hasB]
theorem hasB_not {α:Type}[DecidableEq α]{l:List α}{x:α}:hasB l x=false↔¬x∈l:=by rw[←hasB_iff];simp
theorem ZI {α:Type}[DecidableEq α](l:List α)(x:α):decide (0≤Xh l x)=hasB l x:=by
 unfold Xh;by_cases h:x∈l
 ·rw[hasB_iff.2 h];simp[h]
 ·rw[hasB_not.2 h];simp[h]
@[simp] theorem ajf (a b:ByteArray):cmS .eql a b=decide (a=b):=by
  simp only[cmS,ByteArray.toList_eq]
  by_cases h:a=b
  ·subst h;simp
  ·rw[decide_eq_false h,beq_eq_false_iff_ne]
   intro e
   have:a.data=b.data:=by rw[←Array.toList_inj];exact e
   exact h (by cases a;cases b;cases this;rfl)
@[simp] theorem aix (ρ:Env)(x i:PE):PE.ev ρ (.sidx x i)=.v (.int .u8 ((PE.ev ρ x).s.data.getD (PE.ev ρ i).i.toNat 0).toNat):=_root_.id rfl
@[simp] theorem akA (ρ:Env)(x i:PE):PE.ev ρ (.sok x i)=.v (.bool (decide (0≤(PE.ev ρ i).i∧(PE.ev ρ i).i<(PE.ev ρ x).s.size))):=_root_.id rfl
@[simp] theorem alQ (a:ByteArray):(str a).s=a:=_root_.id rfl
theorem OF (l:List Int)(x:Int)(hl:l.length≤4294967296):Runs T sl [ints l,.int x] (.int (Xh l x)):=by
 refine .of_tree rfl Cj w9 ?_
 simp[jx]
 refine .scan l.length (fun k=>l.getD k 0≠x) (fun k=>[.int 0,.int k]) (fun _=>[]) ?_ (fun k hk hj ho=>?_) (fun k hk hj ho=>?_) (fun hj=>?_)
 ·simp
 ·have hw:=ar hk hl
  simp[hk] at ho
  have ho':¬x=l[k]:=fun e=>ho e.symm
  simp[dV,bS,hk,hw,ints,ho,ho']
 ·obtain⟨hm,he⟩:=idx_eq hk hj ho
  simp[hk] at ho
  simp[dV,bS,hk,ints,ho,Xh,hm,he]
 ·have:=XK hj
  simp[dV,bS,Xh,this,ints]
theorem cA (l:List Int)(x:Int)(hl:l.length≤4294967296):Runs T nf [ints l,.int x] (.bool (hasB l x)):=by
 refine .of_tree rfl wW tw ?_
 simp[fb]
 refine⟨_,OF l x hl,?_⟩
 have:=ZI l x
 simp at this ⊢
 exact this
theorem Gv (l:List ByteArray)(x:ByteArray)(hl:l.length≤4294967296):Runs T ni [strs l,str x] (.int (Xh l x)):=by
 refine .of_tree rfl xg tt ?_
 simp[fi]
 refine .scan l.length (fun k=>l.getD k default≠x) (fun k=>[.int 0,.int k]) (fun _=>[]) ?_ (fun k hk hj ho=>?_) (fun k hk hj ho=>?_) (fun hj=>?_)
 ·simp
 ·have hw:=ar hk hl
  simp[hk] at ho
  have ho':¬x=l[k]:=fun e=>ho e.symm
  simp[cQ,bp,hk,hw,strs,ho,ho']
 ·obtain⟨hm,he⟩:=idx_eq hk hj ho
  simp[hk] at ho
  simp[cQ,bp,hk,strs,ho,Xh,hm,he]
 ·have:=XK hj
  simp[cQ,bp,Xh,this,strs]
theorem Ab (l:List ByteArray)(x:ByteArray)(hl:l.length≤4294967296):Runs T jD [strs l,str x] (.bool (hasB l x)):=by
 refine .of_tree rfl tA pC ?_
 simp[dz]
 refine⟨_,Gv l x hl,?_⟩
 have:=ZI l x
 simp at this ⊢
 exact this
def yL (l:List Int)(a b:Int)(k:Nat):Bool:=wi (l.getD k 0) a b&&(k==0||decide (l.getD (k-1) 0<l.getD k 0))
def rising (l:List Int)(a b:Int):Bool:=mg l.length (yL l a b)
theorem dL (l:List Int)(a b:Int)(hl:l.length≤4294967296):Runs T y9 [ints l,.int a,.int b] (.bool (rising l a b)):=by
 refine .of_tree rfl MQ DY ?_
 simp[po]
 refine gz l.length (yL l a b) (fun k=>[.bool false,.int k]) (fun _=>[]) ?_ (fun k hk ho=>?_) (fun k hk ho hb=>?_) (fun hj=>?_)
 ·simp
 ·have hw:=ar hk hl
  simp[yL,wi,hk] at ho
  obtain⟨⟨h1,h2⟩,h3⟩:=ho
  have h1':¬l[k]<a:=by omega
  have h2':¬b<l[k]:=by omega
  by_cases hk0:0<k
  ·have hk1:k-1<l.length:=by omega
   have hw2:IntKind.i64.wrap ((k:Int)-1)=((k-1:Nat):Int):=by rw[ia (by omega)];omega
   have h3':¬l[k]≤l[k-1]:=by
        rcases h3 with h3|h3
        ·omega
        ·simp[hk1] at h3;omega
   simp[bB,bl,hk,hw,hw2,ints,h1',h2',h3',hk0,hk1]
  ·simp[bB,bl,hk,hw,ints,h1',h2',hk0]
 ·have hf:rising l a b=false:=hb
  simp[yL,wi,hk] at ho
  by_cases h1:l[k]<a
  ·simp[bB,bl,hk,ints,h1,hf]
  by_cases h2:b<l[k]
  ·simp[bB,bl,hk,ints,h1,h2,hf]
  have h3:=ho (by omega) (by omega)
  have hk0:0<k:=by omega
  have hk1:k-1<l.length:=by omega
  have hw2:IntKind.i64.wrap ((k:Int)-1)=((k-1:Nat):Int):=by rw[ia (by omega)];omega
  have h3':=h3.2
  simp[hk1] at h3'
  simp[bB,bl,hk,hw2,ints,h1,h2,h3',hk0,hk1,hf]
 ·have hf:rising l a b=true:=hj
  simp[bB,bl,hf]
def Ho (c:Int):Bool:=wi c 97 122||wi c 65 90
def okc (i:Nat)(c:Int):Bool:=Ho c||(i !=0&&(decide (c=95)||wi c 48 57))
def WS (s:ByteArray)(k:Nat):Int:=((s.data.toList.getD k 0).toNat:Nat)
def ll (s:ByteArray):Bool:=decide (1≤s.size)&&decide (s.size≤20)&&mg s.size (fun k=>okc k (WS s k))
theorem Bq {s:ByteArray}{k:Nat}(h:k<s.data.size):(s.data[k].toNat:Int)=WS s k:=by
 unfold WS
 rw[List.getD_eq_getElem?_getD,List.getElem?_eq_getElem (by simpa using h)];rfl
theorem size_zero {s:ByteArray}:s=⟨#[]⟩↔s.size=0:=by
 constructor
 ·rintro rfl;rfl
 ·intro h;cases s with|mk d=>congr;exact Array.eq_empty_of_size_eq_zero h
theorem Hq (s:ByteArray):Runs T Ax [str s] (.bool (ll s)):=by
 refine .of_tree rfl L7 Ej ?_
 simp[qo]
 by_cases h0:s=⟨#[]⟩
 ·have hn:ll s=false:=by simp[ll,size_zero.1 h0]
  rw[hn];simp[h0]
 by_cases h1:(20:Int)<s.size
 ·have h1':¬s.size≤20:=by omega
  simp[h0,h1,ll,h1']
 have hz:1≤s.size:=by
  have:s.size≠0:=fun e=>h0 (size_zero.2 e)
  omega
 have h1':s.size≤20:=by omega
 simp[h0,h1]
 refine⟨by omega,gz s.size (fun k=>okc k (WS s k)) (fun k=>[.bool false,.int k]) (fun _=>[]) ?_ (fun k hk ho=>?_) (fun k hk ho hb=>?_) (fun hj=>?_)⟩
 ·simp
 ·have hw:=ar hk (by omega)
  have hk':k<s.data.size:=hk
  have hg:=Bq hk'
  simp[okc,Ho,wi] at ho
  simp[hH,dN,hk,hk',hw,hg]
  omega
 ·have hk':k<s.data.size:=hk
  have hg:=Bq hk'
  have hn:ll s=false:=by simp[ll,hb]
  simp[okc,Ho,wi] at ho
  simp[hH,dN,hk,hk',hg,hn]
  omega
 ·have hn:ll s=true:=by simp[ll,hj,hz,h1']
  have hd:s.data.size=s.size:=rfl
  simp[hH,dN,hn,hd]
theorem yn (c:Int):Runs T Hl [.v (.int .u8 c)] (.bool (Ho c)):=by
 refine .of_tree rfl Rw JW ?_
 simp[vb,Ho,wi]
 by_cases h:97≤c<;>by_cases h2:c≤122<;>by_cases h3:65≤c<;>by_cases h4:c≤90<;>simp[h,h2,h3,h4]
theorem Ry (s:ByteArray):Runs T Qn [str s] (.bool (ll s)):=by
 refine .of_tree rfl WX Pn ?_
 simp[zy]
 by_cases h0:(s.size:Int)<1
 ·have hn:ll s=false:=by simp[ll];omega
  simp[h0,hn]
 by_cases h1:(20:Int)<s.size
 ·have hn:ll s=false:=by simp[ll];omega
  simp[h0,h1,hn]
 rw[if_neg (by omega)]
 refine gz s.size (fun k=>okc k (WS s k)) (fun k=>[.bool false,.int k]) (fun _=>[]) ?_ (fun k hk ho=>?_) (fun k hk ho hb=>?_) (fun hj=>?_)
 ·simp
 ·have hw:=ar hk (by omega)
  have hk':k<s.data.size:=hk
  have hg:=Bq hk'
  simp[okc,wi] at ho
  simp[nK,jO,hk,hk',hw,hg]
  refine⟨_,yn _,?_⟩
  simp[hw]
  intro g1 g2
  exfalso
  rcases ho with h|h
  ·rw[h] at g1;cases g1
  ·omega
 ·have hk':k<s.data.size:=hk
  have hg:=Bq hk'
  have hn:ll s=false:=by simp[ll,hb]
  simp[okc,wi] at ho
  simp[nK,jO,hk,hk',hg,hn]
  refine⟨_,yn _,?_⟩
  simp[ho.1]
  omega
 ·have hn:ll s=true:=by simp[ll,hj];omega
  simp[nK,jO,hn]
end Rm
namespace Rm
open Go Go.Proofs Cx
theorem MX (l:List ByteArray)(n:Nat)(x:ByteArray)(hn:n≤l.length)(hl:l.length≤4294967296):Runs T Fo [strs l,.int n,str x] (.bool (hasB (l.take n) x)):=by
 refine .of_tree rfl RP IA ?_
 simp[vm]
 refine .scan n (fun k=>l.getD k default≠x) (fun k=>[.bool false,.int k]) (fun _=>[]) ?_ (fun k hk hj ho=>?_) (fun k hk hj ho=>?_) (fun hj=>?_)
 ·simp
 ·have hk':k<l.length:=by omega
  have hw:=ar hk' hl
  simp[hk'] at ho
  simp[kP,fL,hk,hk',hw,strs,ho]
 ·have hk':k<l.length:=by omega
  simp[hk'] at ho
  have hm:hasB (l.take n) x=true:=hasB_iff.2 (by rw[←ho,List.mem_take_iff_getElem];exact⟨k,by omega,rfl⟩)
  simp[kP,fL,hk,hk',strs,ho,hm]
 ·have hm:hasB (l.take n) x=false:=hasB_not.2 (fun h=>by
   rw[List.mem_take_iff_getElem] at h
   obtain⟨k,hk,e⟩:=h
   have:=hj k (by omega)
   simp[show k<l.length by omega] at this
   exact this e)
  simp[kP,fL,hm]
def dB (l:List ByteArray)(i:Nat):Int:=if ll (l.getD i default)=false then 2 else if hasB (l.take i) (l.getD i default) then 5 else 0
theorem Ag (l:List ByteArray)(i n:Nat)(h:i<n):dB (l.take n) i=dB l i:=by
 unfold dB
 rw[List.getD_eq_getElem?_getD,List.getElem?_take_of_lt h,List.take_take,Nat.min_eq_left (by omega),←List.getD_eq_getElem?_getD]
theorem gJ (l:List ByteArray)(i:Nat)(hi:i<l.length)(hl:l.length≤4294967296):Runs T oQ [strs l,.int i] (.int (dB l i)):=by
 refine .of_tree rfl UR Lx ?_
 simp[xV,hi]
 refine⟨_,by simpa [strs,hi] using Ry l[i],?_⟩
 unfold dB
 rw[List.getD_eq_getElem?_getD,List.getElem?_eq_getElem hi,Option.getD_some]
 cases h1:ll l[i]<;>simp[h1]
 refine⟨_,by simpa [strs,hi] using MX l i l[i] (by omega) hl,?_⟩
 cases h2:hasB (l.take i) l[i]<;>simp[h2]
theorem vT (l:List ByteArray)(i:Nat)(hi:i<l.length)(hl:l.length≤4294967296):Runs T CO [strs l,.int i] (.int (dB l i)):=by
 refine .of_tree rfl O3 Fg ?_
 simp[tj,hi]
 refine⟨_,by simpa [strs,hi] using Hq l[i],?_⟩
 unfold dB
 rw[List.getD_eq_getElem?_getD,List.getElem?_eq_getElem hi,Option.getD_some]
 cases h1:ll l[i]<;>simp[h1]
 refine⟨by omega,_,by simpa [strs,hi] using Ab (l.take i) l[i] (by rw[List.length_take];omega),?_⟩
 cases h2:hasB (l.take i) l[i]<;>simp[h2]
def y6 (l:List ByteArray)(g:Nat→Bool)(i:Nat):Int:=if dB l i≠0 then dB l i else if g i then 0 else 1
def eG (l:List ByteArray)(most:Int)(g:Nat→Bool):Int:=if most<l.length then 6 else kD l.length (y6 l g)
theorem ki (l:List ByteArray)(most:Int)(f:Nat)(caps:List D)(g:Nat→Bool)(hg:∀i:Nat,i<l.length→Runs T f (.int i::caps) (.bool (g i)))(hl:l.length≤4294967296):
 Runs T GV [strs l,.int most,.clo f caps] (.int (eG l most g)):=by
 refine .of_tree rfl R3 J0 ?_
 simp[vu,eG]
 by_cases h0:most<l.length
 ·simp[h0];intro h;omega
 simp[h0]
 refine Kv l.length (y6 l g) (fun k=>[.int 0,.int k]) (fun _=>[]) ?_ (fun k hk ho=>?_) (fun k hk ho hb=>?_) (fun hj=>?_)
 ·simp
 ·have hw:=ar hk hl
  have h1:dB l k=0:=by
   refine Classical.byContradiction fun h=>?_
   unfold y6 at ho;rw[if_pos h] at ho;exact h ho
  have h2:g k=true:=by
   unfold y6 at ho;rw[if_neg (by simpa using h1)] at ho
   cases h:g k with
   |true=>rfl
   |false=>rw[h] at ho;simp at ho
  simp[kS,fG,hk,hw]
  refine⟨_,vT l k hk hl,?_⟩
  simp[h1]
  refine⟨_,_,⟨rfl,rfl⟩,_,hg k hk,?_⟩
  simp[h2,hw]
 ·simp[kS,fG,hk,hb]
  refine⟨_,vT l k hk hl,?_⟩
  unfold y6 at ho ⊢
  by_cases h1:dB l k=0
  ·simp[h1] at ho ⊢
   refine⟨_,_,⟨rfl,rfl⟩,_,hg k hk,?_⟩
   simp[ho]
  ·simp[h1]
 ·simp[kS,fG,hj]
theorem qp (l:List Int)(a b:Int)(hl:l.length≤4294967296):Runs T Fs [ints l,.int a,.int b] (.bool (rising l a b)):=by
 refine .of_tree rfl Sf JX ?_
 simp[vx]
 refine gz l.length (yL l a b) (fun k=>[.bool false,.int k]) (fun _=>[]) ?_ (fun k hk ho=>?_) (fun k hk ho hb=>?_) (fun hj=>?_)
 ·simp
 ·have hw:=ar hk hl
  simp[yL,hk] at ho
  simp[kU,fK,hk,hw,ints]
  refine⟨_,af _ _ _,?_⟩
  by_cases hk0:0<k
  ·have hk1:k-1<l.length:=by omega
   have hw2:IntKind.i64.wrap ((k:Int)-1)=((k-1:Nat):Int):=by rw[ia (by omega)];omega
   have h3':¬l[k]≤l[k-1]:=by
        rcases ho.2 with h3|h3
        ·omega
        ·simp[hk1] at h3;omega
   simp[ho.1,hk,hw,hw2,h3',hk0,hk1]
  ·simp[ho.1,hk,hw,hk0];omega
 ·have hf:rising l a b=false:=hb
  simp[yL,hk] at ho
  simp[kU,fK,hk,ints,hf]
  refine⟨_,af _ _ _,?_⟩
  cases h1:wi l[k] a b with
  |false=>simp
  |true=>
   have h3:=ho h1
   have hk0:0<k:=by omega
   have hk1:k-1<l.length:=by omega
   have hw2:IntKind.i64.wrap ((k:Int)-1)=((k-1:Nat):Int):=by rw[ia (by omega)];omega
   have h3':=h3.2
   simp[hk1] at h3'
   simp[hk,hw2,h3',hk0,hk1]
 ·have hf:rising l a b=true:=hj
  simp[kU,fK,hf]
theorem ZB (n:Int):n.tdiv 100=if 0≤n then n/100 else-((-n)/100):=by
 split
 ·rename_i h;exact Int.tdiv_eq_ediv_of_nonneg h
 ·rename_i h
  have e:n.tdiv 100=-((-n).tdiv 100):=by rw[Int.neg_tdiv,Int.neg_neg]
  rw[e,Int.tdiv_eq_ediv_of_nonneg (by omega)]
theorem adE (n:Int):n.tmod 100=n-100*n.tdiv 100:=Int.tmod_def n 100
theorem aeE {n:Int}(h:I64 n):IntKind.i64.wrap (n.tdiv 100)=n.tdiv 100:=az (by rw[ZB];unfold I64 at h;split<;>omega)
def yp (r:Realm)(c:City):Bool:=mg c.feasts.length (fun k=>wi ((c.feasts.getD k 0).tmod 100) 1 31)&&(decide (c.feasts.length≤60)&&decide (c.shut.length≤200)&&inB c.order r.orders.length&&inB c.currency r.currencies.length)&&
 (rising c.rest 0 6&&rising c.feasts 101 1231&&rising c.shut 0 100000)
theorem Mn (r:Realm)(c:City)(h1:c.rest.length≤4294967296)(h2:c.feasts.length≤4294967296)(h3:c.shut.length≤4294967296):Runs T Hm [au r,bI c] (.bool (yp r c)):=by
 refine .of_tree rfl RV Ie ?_
 simp[vl]
 refine gz c.feasts.length (fun k=>wi ((c.feasts.getD k 0).tmod 100) 1 31) (fun k=>[.bool false,.int k]) (fun _=>[]) ?_ (fun k hk ho=>?_) (fun k hk ho hb=>?_) (fun hj=>?_)
 ·simp
 ·have hw:=ar hk h2
  simp[wi,hk] at ho
  have g1:¬(c.feasts[k].tmod 100<1):=by omega
  have g2:¬(31<c.feasts[k].tmod 100):=by omega
  simp[kY,fR,hk,hw,ints,g1,g2]
 ·have hf:yp r c=false:=by simp only[yp,hb,Bool.false_and]
  simp[wi,hk] at ho
  simp[kY,fR,hk,ints,hf]
  by_cases g1:c.feasts[k].tmod 100<1
  ·simp[g1]
  ·have g2:=ho (by omega)
   simp[g1,g2]
 ·simp[kY,fR]
  by_cases g1:(c.feasts.length:Int)≤60
  case neg=>
   have hf:yp r c=false:=by
        have g1':decide (c.feasts.length≤60)=false:=decide_eq_false (by omega)
        simp only[yp,g1',Bool.false_and,Bool.and_false]
   have g1':(60:Int)<c.feasts.length:=by omega
   simp[g1,g1',hf]
  by_cases g2:(c.shut.length:Int)≤200
  case neg=>
   have hf:yp r c=false:=by
        have g1':decide (c.shut.length≤200)=false:=decide_eq_false (by omega)
        simp only[yp,g1',Bool.false_and,Bool.and_false]
   have g2':(200:Int)<c.shut.length:=by omega
   simp[g1,g2,g2',hf]
  have g1':¬(60:Int)<c.feasts.length:=by omega
  have g2':¬(200:Int)<c.shut.length:=by omega
  have hf:yp r c=(inB c.order r.orders.length&&inB c.currency r.currencies.length&&(rising c.rest 0 6&&rising c.feasts 101 1231&&rising c.shut 0 100000)):=by
   have e1:decide (c.feasts.length≤60)=true:=decide_eq_true (by omega)
   have e2:decide (c.shut.length≤200)=true:=decide_eq_true (by omega)
   simp only[yp,hj,e1,e2,Bool.true_and]
  rw[hf]
  simp[g1,g2,g1',g2']
  refine⟨_,aB _ _,?_⟩
  simp
  cases e1:inB c.order r.orders.length<;>simp
  refine⟨_,aB _ _,?_⟩
  simp
  cases e2:inB c.currency r.currencies.length<;>simp
  refine⟨_,dL _ _ _ h1,?_⟩
  simp
  cases e3:rising c.rest 0 6<;>simp
  refine⟨_,dL _ _ _ h2,?_⟩
  simp
  cases e4:rising c.feasts 101 1231<;>simp
  exact dL _ _ _ h3
def At (r:Realm)(c:City):Bool:=(wi c.order 0 (r.orders.length-1)&&wi c.currency 0 (r.currencies.length-1)&&decide (c.feasts.length≤60)&&decide (c.shut.length≤200))&&
 mg c.feasts.length (fun k=>wi ((c.feasts.getD k 0).tdiv 100) 1 12&&wi ((c.feasts.getD k 0).tmod 100) 1 31)&&(rising c.rest 0 6&&rising c.feasts 0 2000&&rising c.shut 0 100000)
theorem CY (n:Nat)(h:n≤4294967296):IntKind.i64.wrap ((n:Int)-1)=(n:Int)-1:=az (by omega)
theorem EA (r:Realm)(c:City)(h1:c.rest.length≤4294967296)(h2:c.feasts.length≤4294967296)(h3:c.shut.length≤4294967296)(h4:r.orders.length≤4294967296)(h5:r.currencies.length≤4294967296)(hi:∀y,y∈c.feasts→I64 y):
 Runs T px [au r,bI c] (.bool (At r c)):=by
 refine .of_tree rfl HR Ce ?_
 simp[nv,CY _ h4,CY _ h5]
 refine⟨_,af _ _ _,?_⟩
 cases e1:wi c.order 0 (r.orders.length-1)
 case false=>simp[At,e1]
 simp
 refine⟨_,af _ _ _,?_⟩
 cases e2:wi c.currency 0 (r.currencies.length-1)
 case false=>simp[At,e1,e2]
 by_cases g1:(c.feasts.length:Int)≤60
 case neg=>
  have hf:At r c=false:=by
   have g1':decide (c.feasts.length≤60)=false:=decide_eq_false (by omega)
   simp only[At,g1',Bool.false_and,Bool.and_false]
  have g1':(60:Int)<c.feasts.length:=by omega
  simp[g1',hf]
 by_cases g2:(c.shut.length:Int)≤200
 case neg=>
  have hf:At r c=false:=by
   have g1':decide (c.shut.length≤200)=false:=decide_eq_false (by omega)
   simp only[At,g1',Bool.false_and,Bool.and_false]
  have g2':(200:Int)<c.shut.length:=by omega
  simp[g2',hf]
 have g1':¬(60:Int)<c.feasts.length:=by omega
 have g2':¬(200:Int)<c.shut.length:=by omega
 have hf:At r c=(mg c.feasts.length (fun k=>wi ((c.feasts.getD k 0).tdiv 100) 1 12&&wi ((c.feasts.getD k 0).tmod 100) 1 31)&&(rising c.rest 0 6&&rising c.feasts 0 2000&&rising c.shut 0 100000)):=by
  have e3:decide (c.feasts.length≤60)=true:=decide_eq_true (by omega)
  have e4:decide (c.shut.length≤200)=true:=decide_eq_true (by omega)
  simp only[At,e1,e2,e3,e4,Bool.true_and]
 rw[hf]
 simp[g1',g2']
 refine gz c.feasts.length (fun k=>wi ((c.feasts.getD k 0).tdiv 100) 1 12&&wi ((c.feasts.getD k 0).tmod 100) 1 31) (fun k=>[.bool false,.int k]) (fun _=>[]) ?_ (fun k hk ho=>?_) (fun k hk ho hb=>?_) (fun hj=>?_)
 ·simp
 ·have hw:=ar hk h2
  have hI:=hi _ (List.getElem_mem hk)
  have hq:IntKind.i64.wrap (c.feasts[k].tdiv 100)=c.feasts[k].tdiv 100:=aeE hI
  simp[hk] at ho
  simp[gd,dk,hk,ints,hq]
  refine⟨_,af _ _ _,?_⟩
  simp[ho.1,hk]
  refine⟨_,af _ _ _,?_⟩
  simp[ho.2,hk,hw]
 ·have hI:=hi _ (List.getElem_mem hk)
  have hq:IntKind.i64.wrap (c.feasts[k].tdiv 100)=c.feasts[k].tdiv 100:=aeE hI
  simp[hk] at ho
  simp only[List.getD_eq_getElem?_getD] at hb
  rw[hb]
  simp[gd,dk,hk,ints,hq]
  refine⟨_,af _ _ _,?_⟩
  cases e3:wi (c.feasts[k].tdiv 100) 1 12 with
  |false=>simp
  |true=>
   have:=ho e3
   simp[hk]
   refine⟨_,af _ _ _,?_⟩
   simp[this]
 ·simp only[List.getD_eq_getElem?_getD] at hj
  rw[hj]
  simp[gd,dk]
  refine⟨_,qp _ _ _ h1,?_⟩
  simp
  cases e3:rising c.rest 0 6<;>simp
  refine⟨_,qp _ _ _ h2,?_⟩
  simp
  cases e4:rising c.feasts 0 2000<;>simp
  exact qp _ _ _ h3
theorem aeb (r:Realm)(c:City):At r c=yp r c:=by
 rw[Bool.eq_iff_iff]
 have hin:∀(i:Int) (n:Nat),(wi i 0 (n-1)=true)↔(inB i n=true):=by intro i n;simp[wi,inB];omega
 simp only[At,yp,Bool.and_eq_true,decide_eq_true_eq,hin,rising,allB_iff,yL]
 constructor
 ·rintro⟨⟨⟨⟨⟨a1,a2⟩,a3⟩,a4⟩,a5⟩,⟨a6,a7⟩,a8⟩
  refine⟨⟨fun k hk=>(a5 k hk).2,⟨⟨⟨a3,a4⟩,a1⟩,a2⟩⟩,⟨a6,fun k hk=>?_⟩,a8⟩
  have h1:=a5 k hk
  have h2:=a7 k hk
  simp[wi,adE,ZB] at h1 h2 ⊢
  split at h1<;>omega
 ·rintro⟨⟨a5,⟨⟨⟨a3,a4⟩,a1⟩,a2⟩⟩,⟨a6,a7⟩,a8⟩
  refine⟨⟨⟨⟨⟨a1,a2⟩,a3⟩,a4⟩,fun k hk=>?_⟩,⟨a6,fun k hk=>?_⟩,a8⟩
  ·have h1:=a5 k hk
   have h2:=a7 k hk
   simp[wi,adE,ZB] at h1 h2 ⊢
   split at h1<;>(try split)<;>omega
  ·have h2:=a7 k hk
   simp[wi] at h2 ⊢
   omega
end Rm
namespace Rm
open Go Go.Proofs Cx
theorem wC {α β:Type}(f:α→β){l:List α}{k:Nat}(h:k<l.length):(l.take (k+1)).map f=(l.take k).map f++[f l[k]]:=by
 rw[List.take_succ_eq_append_getElem h,List.map_append];rfl
theorem KB (i:Int)(n:Nat):inB i n=wi i 0 ((n:Int)-1):=by
 rw[Bool.eq_iff_iff];simp[wi,inB];omega
def abv (o:Order):List Int:=o.choices.map (·.ask)
def acF (o:Order):List Int:=o.rules.map (·.ask)
def tc (o:Order):Bool:=mg o.choices.length (fun k=>inB (o.choices.getD k default).by_ 5)&&(rising (abv o) 0 21&&rising (acF o) 0 21)
theorem Jv (o:Order)(h1:o.choices.length≤100000)(h2:o.rules.length≤100000):Runs T C3 [bQ o] (.bool (tc o)):=by
 refine .of_tree rfl Od GB ?_
 simp[sH]
 refine gz o.choices.length (fun k=>inB (o.choices.getD k default).by_ 5) (fun k=>[.bool false,.none,.int k]) (fun k=>[ints ((o.choices.take k).map (·.ask))]) ?_ (fun k hk ho=>?_) (fun k hk ho hb=>?_) (fun hj=>?_)
 ·simp[ints]
 ·have hw:=ar hk (by omega)
  have hl:(o.choices.take k).length=k:=by rw[List.length_take];omega
  simp[hk] at ho
  rw[wC _ hk]
  simp[jr,eQ,hk,hw,ints,hl]
  refine⟨by omega,_,aB _ _,?_⟩
  simp[ho,hw]
 ·have hf:tc o=false:=by simp only[tc,hb,Bool.false_and]
  have hl:(o.choices.take k).length=k:=by rw[List.length_take];omega
  simp[hk] at ho
  simp[jr,eQ,hk,ints,hl,hf]
  refine⟨by omega,_,aB _ _,?_⟩
  simp[ho]
 ·have hf:tc o=(rising (abv o) 0 21&&rising (acF o) 0 21):=by simp only[tc,hj,Bool.true_and]
  rw[hf]
  simp[jr,eQ]
  refine EvP.forRounds o.rules.length (fun k=>[.none,.int k]) (fun k=>[ints ((o.rules.take k).map (·.ask))]) ?_ (fun k hk=>?_) ?_
  ·simp[ints]
  ·have hw:=ar hk (by omega)
   have hl:(o.rules.take k).length=k:=by rw[List.length_take];omega
   rw[wC _ hk]
   simp[qG,iJ,hk,hw,ints,hl]
   omega
  ·simp[qG,iJ]
   refine⟨_,dL (abv o) _ _ (by simp[abv];omega),?_⟩
   simp
   cases e1:rising (abv o) 0 21<;>simp
   exact dL (acF o) _ _ (by simp[acF];omega)
def wZ (o:Order)(k:Nat):Bool:=wi (o.choices.getD k default).ask 0 21&&wi (o.choices.getD k default).by_ 0 4&&(k==0||decide ((o.choices.getD (k-1) default).ask<(o.choices.getD k default).ask))
def Bp (o:Order)(k:Nat):Bool:=wi (o.rules.getD k default).ask 0 21&&(k==0||decide ((o.rules.getD (k-1) default).ask<(o.rules.getD k default).ask))
theorem abY (o:Order):(mg o.choices.length (wZ o)&&mg o.rules.length (Bp o))=tc o:=by
 rw[Bool.eq_iff_iff]
 simp only[tc,Bool.and_eq_true,rising,allB_iff,abv,acF,List.length_map]
 have g1:∀k,k<o.choices.length→(yL (o.choices.map (·.ask)) 0 21 k=true↔wi (o.choices.getD k default).ask 0 21=true∧(k=0∨(o.choices.getD (k-1) default).ask<(o.choices.getD k default).ask)):=by
  intro k hk
  have hk1:k-1<o.choices.length:=by omega
  simp[yL,hk,hk1]
 have g2:∀k,k<o.rules.length→(yL (o.rules.map (·.ask)) 0 21 k=true↔wi (o.rules.getD k default).ask 0 21=true∧(k=0∨(o.rules.getD (k-1) default).ask<(o.rules.getD k default).ask)):=by
  intro k hk
  have hk1:k-1<o.rules.length:=by omega
  simp[yL,hk,hk1]
 constructor
 ·rintro⟨a,b⟩
  refine⟨fun k hk=>?_,fun k hk=>(g1 k hk).2 ?_,fun k hk=>(g2 k hk).2 ?_⟩
  ·have:=a k hk
   simp[wZ,wi,inB] at this ⊢;omega
  ·have:=a k hk
   simp[wZ] at this ⊢
   exact⟨this.1.1,this.2⟩
  ·have:=b k hk
   simp[Bp] at this ⊢
   exact this
 ·rintro⟨c,a,b⟩
  refine⟨fun k hk=>?_,fun k hk=>?_⟩
  ·have h1:=(g1 k hk).1 (a k hk)
   have h2:=c k hk
   simp[wZ,wi,inB] at h1 h2 ⊢;omega
  ·have h1:=(g2 k hk).1 (b k hk)
   simp[Bp] at h1 ⊢
   exact h1
theorem BI (o:Order)(h1:o.choices.length≤100000)(h2:o.rules.length≤100000):Runs T nL [bQ o] (.bool (tc o)):=by
 rw[←abY]
 refine .of_tree rfl GN An ?_
 simp[mc]
 refine gz o.choices.length (wZ o) (fun k=>[.bool false,.int k]) (fun _=>[]) ?_ (fun k hk ho=>?_) (fun k hk ho hb=>?_) (fun hj=>?_)
 ·simp
 ·have hw:=ar hk (by omega)
  simp[wZ,hk] at ho
  simp[eV,cH,hk]
  refine⟨_,af _ _ _,?_⟩
  simp[ho.1.1,hk]
  refine⟨_,af _ _ _,?_⟩
  by_cases hk0:0<k
  ·have hk1:k-1<o.choices.length:=by omega
   have hw2:IntKind.i64.wrap ((k:Int)-1)=((k-1:Nat):Int):=by rw[ia (by omega)];omega
   have h3:¬o.choices[k].ask≤o.choices[k-1].ask:=by
        rcases ho.2 with h3|h3
        ·omega
        ·simp[hk1] at h3;omega
   simp[ho.1.2,hk,hw,hw2,h3,hk0,hk1]
  ·simp[ho.1.2,hk,hw,hk0];omega
 ·rw[hb]
  simp[wZ,hk] at ho
  simp[eV,cH,hk]
  refine⟨_,af _ _ _,?_⟩
  cases e1:wi o.choices[k].ask 0 21 with
  |false=>simp
  |true=>
   simp[hk]
   refine⟨_,af _ _ _,?_⟩
   cases e2:wi o.choices[k].by_ 0 4 with
   |false=>simp
   |true=>
    have h3:=ho e1 e2
    have hk0:0<k:=by omega
    have hk1:k-1<o.choices.length:=by omega
    have hw2:IntKind.i64.wrap ((k:Int)-1)=((k-1:Nat):Int):=by rw[ia (by omega)];omega
    have h3':=h3.2
    simp[hk1] at h3'
    simp[hk,hw2,h3',hk0,hk1]
 ·rw[hj]
  simp[eV,cH]
  refine gz o.rules.length (Bp o) (fun k=>[.bool false,.int k]) (fun _=>[]) ?_ (fun k hk ho=>?_) (fun k hk ho hb=>?_) (fun hj=>?_)
  ·simp
  ·have hw:=ar hk (by omega)
   simp[Bp,hk] at ho
   simp[ff,cG,hk]
   refine⟨_,af _ _ _,?_⟩
   by_cases hk0:0<k
   ·have hk1:k-1<o.rules.length:=by omega
    have hw2:IntKind.i64.wrap ((k:Int)-1)=((k-1:Nat):Int):=by rw[ia (by omega)];omega
    have h3:¬o.rules[k].ask≤o.rules[k-1].ask:=by
       rcases ho.2 with h3|h3
       ·omega
       ·simp[hk1] at h3;omega
    simp[ho.1,hk,hw,hw2,h3,hk0,hk1]
   ·simp[ho.1,hk,hw,hk0];omega
  ·rw[hb]
   simp[Bp,hk] at ho
   simp[ff,cG,hk]
   refine⟨_,af _ _ _,?_⟩
   cases e1:wi o.rules[k].ask 0 21 with
   |false=>simp
   |true=>
    have h3:=ho e1
    have hk0:0<k:=by omega
    have hk1:k-1<o.rules.length:=by omega
    have hw2:IntKind.i64.wrap ((k:Int)-1)=((k-1:Nat):Int):=by rw[ia (by omega)];omega
    have h3':=h3.2
    simp[hk1] at h3'
    simp[hk,hw2,h3',hk0,hk1]
  ·rw[hj]
   simp[ff,cG]
def cq (r:Realm):List ByteArray:=r.cities.map (·.name)
def cg (r:Realm):List ByteArray:=r.firms.map (·.name)
def bN (r:Realm):List ByteArray:=r.orders.map (·.name)
theorem HI (r:Realm)(h1:r.cities.length≤100000)(h2:r.firms.length≤100000)(h3:r.orders.length≤100000):Runs T C5 [au r] (.tup [strs (cq r),strs (cg r),strs (bN r)]):=by
 refine .of_tree rfl OW Ha ?_
 simp[sE]
 refine EvP.forRounds r.cities.length (fun k=>[.none,.int k]) (fun k=>[strs ((r.cities.take k).map (·.name))]) ?_ (fun k hk=>?_) ?_
 ·simp[strs]
 ·have hw:=ar hk (by omega)
  have hl:(r.cities.take k).length=k:=by rw[List.length_take];omega
  rw[wC _ hk]
  simp[qU,iK,hk,hw,strs,hl]
  omega
 ·simp[qU,iK]
  refine EvP.forRounds r.firms.length (fun k=>[.none,.int k]) (fun k=>[strs ((r.firms.take k).map (·.name))]) ?_ (fun k hk=>?_) ?_
  ·simp[strs]
  ·have hw:=ar hk (by omega)
   have hl:(r.firms.take k).length=k:=by rw[List.length_take];omega
   rw[wC _ hk]
   simp[qQ,iT,hk,hw,strs,hl]
   omega
  ·simp[qQ,iT]
   refine EvP.forRounds r.orders.length (fun k=>[.none,.int k]) (fun k=>[strs ((r.orders.take k).map (·.name))]) ?_ (fun k hk=>?_) ?_
   ·simp[strs]
   ·have hw:=ar hk (by omega)
    have hl:(r.orders.take k).length=k:=by rw[List.length_take];omega
    rw[wC _ hk]
    simp[qL,iz,hk,hw,strs,hl]
    omega
   ·simp[qL,iz,cq,cg,bN]
end Rm
namespace Rm
open Go Go.Proofs Cx
structure Small (r:Realm):Prop where
 cur:r.currencies.length≤1000
 cities:r.cities.length≤1000
 groups:r.groups.length≤1000
 firms:r.firms.length≤1000
 orders:r.orders.length≤1000
 us:r.usances.length≤1000
 rates:r.rates.length≤1000
 halts:r.halts.length≤1000
 city:∀c,c∈r.cities→c.rest.length≤1000∧c.feasts.length≤1000∧c.shut.length≤1000∧∀y,y∈c.feasts→I64 y
 order:∀o,o∈r.orders→o.choices.length≤1000∧o.rules.length≤1000
 rate:∀x,x∈r.rates→I64 x.num∧I64 x.den
def usD (r:Realm)(k j:Nat):Bool:=(r.usances.getD j default).fr !=(r.usances.getD k default).fr||(r.usances.getD j default).to !=(r.usances.getD k default).to
def usE (r:Realm)(k:Nat):Int:=
 if(inB (r.usances.getD k default).fr r.cities.length&&inB (r.usances.getD k default).to r.cities.length&&wi (r.usances.getD k default).days 1 20000)=false then 1 else if mg k (usD r k) then 0 else 5
def oU (r:Realm):Int:=if 100<r.usances.length then 6 else kD r.usances.length (usE r)
theorem EE (r:Realm)(h:Small r):Runs T yt [au r] (.int (oU r)):=by
 refine .of_tree rfl HZ Ca ?_
 have hu:=h.us
 simp[nA,oU]
 by_cases h0:100<r.usances.length
 ·have h0':(100:Int)<r.usances.length:=by omega
  have h0'':¬r.usances.length≤100:=by omega
  simp[h0,h0',h0'']
 have h0':¬(100:Int)<r.usances.length:=by omega
 simp[h0,h0']
 refine Kv r.usances.length (usE r) (fun k=>[.int 0,.int k]) (fun _=>[]) ?_ (fun k hk ho=>?_) (fun k hk ho hb=>?_) (fun hj=>?_)
 ·simp
 ·have hw:=ar hk (by omega)
  have ha:inB r.usances[k].fr r.cities.length=true∧inB r.usances[k].to r.cities.length=true∧wi r.usances[k].days 1 20000=true∧mg k (usD r k)=true:=by
   unfold usE at ho
   simp only[List.getD_eq_getElem?_getD,List.getElem?_eq_getElem hk,Option.getD_some] at ho
   cases e1:inB r.usances[k].fr r.cities.length<;>cases e2:inB r.usances[k].to r.cities.length<;>cases e3:wi r.usances[k].days 1 20000<;>cases e4:mg k (usD r k)<;>simp[e1,e2,e3,e4] at ho ⊢
  obtain⟨a1,a2,a3,a4⟩:=ha
  simp[wi] at a3
  have a5:¬r.usances[k].days<1:=by omega
  have a6:¬20000<r.usances[k].days:=by omega
  simp[gi,dp,hk]
  refine⟨_,aB _ _,?_⟩
  simp[a1]
  refine⟨_,aB _ _,?_⟩
  simp[a2,a5,a6]
  refine⟨by omega,gz k (usD r k) (fun j=>[.int 0,.int j]) (fun _=>[]) ?_ (fun j hj ho2=>?_) (fun j hj ho2 hb2=>?_) (fun hjj=>?_)⟩
  ·simp
  ·have hwj:=ar hj (by omega)
   have hj':j<r.usances.length:=by omega
   have hm:j<min k r.usances.length:=by omega
   simp[usD,hj',hk] at ho2
   simp[du,bT,hj,hj',hk,hwj,hm]
   intro e e';rcases ho2 with h|h
   ·exact absurd e h
   ·exact absurd e' h
  ·rw[a4] at hb2;cases hb2
  ·simp[du,bT,hw]
   omega
 ·simp[gi,dp,hk,hb]
  refine⟨_,aB _ _,?_⟩
  unfold usE at ho ⊢
  simp only[List.getD_eq_getElem?_getD,List.getElem?_eq_getElem hk,Option.getD_some] at ho ⊢
  cases e1:inB r.usances[k].fr r.cities.length
  ·simp
  simp
  refine⟨_,aB _ _,?_⟩
  cases e2:inB r.usances[k].to r.cities.length
  ·simp
  cases e3:wi r.usances[k].days 1 20000
  ·simp[wi] at e3
   by_cases g:r.usances[k].days<1
   ·simp[g]
   ·simp[g,e3 (by omega)]
  have e3':=e3
  simp[wi] at e3'
  have a5:¬r.usances[k].days<1:=by omega
  have a6:¬20000<r.usances[k].days:=by omega
  simp[e1,e2,e3] at ho
  simp[a5,a6]
  refine⟨by omega,gz k (usD r k) (fun j=>[.int 0,.int j]) (fun _=>[]) ?_ (fun j hj ho2=>?_) (fun j hj ho2 hb2=>?_) (fun hjj=>?_)⟩
  ·simp
  ·have hwj:=ar hj (by omega)
   have hj':j<r.usances.length:=by omega
   have hm:j<min k r.usances.length:=by omega
   simp[usD,hj',hk] at ho2
   simp[du,bT,hj,hj',hk,hwj,hm]
   intro e e';rcases ho2 with h|h
   ·exact absurd e h
   ·exact absurd e' h
  ·have hj':j<r.usances.length:=by omega
   have hm:j<min k r.usances.length:=by omega
   simp[usD,hj',hk] at ho2
   simp[du,bT,hj,hj',hk,ho,hm]
   first|exact ho2|simp[ho2]
  ·rw[hjj] at ho;cases ho
 ·simp[gi,dp,hj]
theorem JO (r:Realm)(h:Small r):Runs T Db [au r] (.int (oU r)):=by
 refine .of_tree rfl QX Ht ?_
 have hu:=h.us
 have hc:=h.cities
 simp[sQ,oU]
 by_cases h0:100<r.usances.length
 ·have h0':(100:Int)<r.usances.length:=by omega
  have h0'':¬r.usances.length≤100:=by omega
  simp[h0,h0',h0'']
 have h0':¬(100:Int)<r.usances.length:=by omega
 simp[h0,h0']
 refine Kv r.usances.length (usE r) (fun k=>[.int 0,.int k]) (fun _=>[]) ?_ (fun k hk ho=>?_) (fun k hk ho hb=>?_) (fun hj=>?_)
 ·simp
 ·have hw:=ar hk (by omega)
  have ha:inB r.usances[k].fr r.cities.length=true∧inB r.usances[k].to r.cities.length=true∧wi r.usances[k].days 1 20000=true∧mg k (usD r k)=true:=by
   unfold usE at ho
   simp only[List.getD_eq_getElem?_getD,List.getElem?_eq_getElem hk,Option.getD_some] at ho
   cases e1:inB r.usances[k].fr r.cities.length<;>cases e2:inB r.usances[k].to r.cities.length<;>cases e3:wi r.usances[k].days 1 20000<;>cases e4:mg k (usD r k)<;>simp[e1,e2,e3,e4] at ho ⊢
  obtain⟨a1,a2,a3,a4⟩:=ha
  rw[KB] at a1 a2
  simp[jm,eJ,hk,CY _ (show r.cities.length≤4294967296 by omega)]
  refine⟨_,af _ _ _,?_⟩
  simp[a1,CY _ (show r.cities.length≤4294967296 by omega)]
  refine⟨_,af _ _ _,?_⟩
  simp[a2]
  refine⟨_,af _ _ _,?_⟩
  simp[a3]
  refine gz k (usD r k) (fun j=>[.int 0,.int j]) (fun _=>[]) ?_ (fun j hj ho2=>?_) (fun j hj ho2 hb2=>?_) (fun hjj=>?_)
  ·simp
  ·have hwj:=ar hj (by omega)
   have hj':j<r.usances.length:=by omega
   simp[usD,hj',hk] at ho2
   simp[ew,dg,hj,hj',hk,hwj]
   intro e e';rcases ho2 with h|h
   ·exact absurd e h
   ·exact absurd e' h
  ·rw[a4] at hb2;cases hb2
  ·simp[ew,dg,hw]
 ·simp[jm,eJ,hk,hb,CY _ (show r.cities.length≤4294967296 by omega)]
  refine⟨_,af _ _ _,?_⟩
  unfold usE at ho ⊢
  simp only[List.getD_eq_getElem?_getD,List.getElem?_eq_getElem hk,Option.getD_some,KB] at ho ⊢
  cases e1:wi r.usances[k].fr 0 ((r.cities.length:Int)-1)
  ·simp
  simp[CY _ (show r.cities.length≤4294967296 by omega)]
  refine⟨_,af _ _ _,?_⟩
  cases e2:wi r.usances[k].to 0 ((r.cities.length:Int)-1)
  ·simp
  simp
  refine⟨_,af _ _ _,?_⟩
  cases e3:wi r.usances[k].days 1 20000
  ·simp
  simp[e1,e2,e3] at ho
  simp
  refine gz k (usD r k) (fun j=>[.int 0,.int j]) (fun _=>[]) ?_ (fun j hj ho2=>?_) (fun j hj ho2 hb2=>?_) (fun hjj=>?_)
  ·simp
  ·have hwj:=ar hj (by omega)
   have hj':j<r.usances.length:=by omega
   simp[usD,hj',hk] at ho2
   simp[ew,dg,hj,hj',hk,hwj]
   intro e e';rcases ho2 with h|h
   ·exact absurd e h
   ·exact absurd e' h
  ·have hj':j<r.usances.length:=by omega
   simp[usD,hj',hk] at ho2
   simp[ew,dg,hj,hj',hk,ho]
   first|exact ho2|simp[ho2]
  ·rw[hjj] at ho;cases ho
 ·simp[jm,eJ,hj]
def NQ (r:Realm)(k:Nat):Bool:=inB (r.rates.getD k default).fr r.currencies.length&&inB (r.rates.getD k default).to r.currencies.length&&((r.rates.getD k default).fr !=(r.rates.getD k default).to)&&
 wi (r.rates.getD k default).num 1 1073741824&&wi (r.rates.getD k default).den 1 1073741824&&wi (r.rates.getD k default).since 0 100000
def Km (r:Realm)(k:Nat):Bool:=inB (r.halts.getD k default).order r.orders.length&&wi (r.halts.getD k default).fr 0 (r.halts.getD k default).to&&decide ((r.halts.getD k default).to≤100000)
def qB (r:Realm):Int:=if 100<r.rates.length then 6 else if mg r.rates.length (NQ r)=false then 1 else if 20<r.halts.length then 6 else if mg r.halts.length (Km r) then 0 else 1
theorem Nl {n:Int}(h:I64 n)(m:Int)(hm:0≤m∧m≤4294967296):inB (IntKind.i64.wrap (n-1)) m=wi n 1 m:=by
 unfold I64 at h
 by_cases e:n=-9223372036854775808
 ·subst e
  have:IntKind.i64.wrap (-9223372036854775808-1)=9223372036854775807:=by decide
  rw[this,Bool.eq_iff_iff];simp[inB,wi];omega
 ·rw[az (by omega),Bool.eq_iff_iff];simp[inB,wi];omega
theorem acG (n:Int):inB n 100001=wi n 0 100000:=by rw[Bool.eq_iff_iff];simp[inB,wi];omega
theorem Mu (r:Realm)(h:Small r):Runs T F9 [au r] (.int (qB r)):=by
 refine .of_tree rfl R1 I5 ?_
 have hu:=h.rates
 have hh:=h.halts
 simp[uS,qB]
 by_cases h0:100<r.rates.length
 ·have h0':(100:Int)<r.rates.length:=by omega
  have h0'':¬r.rates.length≤100:=by omega
  simp[h0,h0',h0'']
 have h0':¬(100:Int)<r.rates.length:=by omega
 simp[h0,h0']
 have key:∀k (hk:k<r.rates.length),∀{ρ:Env} {Q:Out→Prop},True:=fun _ _ _ _=>trivial
 refine gz r.rates.length (NQ r) (fun k=>[.int 0,.int k]) (fun _=>[]) ?_ (fun k hk ho=>?_) (fun k hk ho hb=>?_) (fun hj=>?_)
 ·simp
 ·have hw:=ar hk (by omega)
  have hI:=h.rate _ (List.getElem_mem hk)
  simp[NQ,hk] at ho
  obtain⟨⟨⟨⟨⟨a1,a2⟩,a3⟩,a4⟩,a5⟩,a6⟩:=ho
  simp[kX,fF,hk]
  refine⟨_,aB _ _,?_⟩
  simp[a1]
  refine⟨_,aB _ _,?_⟩
  simp[a2,a3]
  refine⟨_,aB _ _,?_⟩
  simp[Nl hI.1,a4]
  refine⟨_,aB _ _,?_⟩
  simp[Nl hI.2,a5]
  refine⟨_,aB _ _,?_⟩
  simp[acG,a6,hw]
 ·have hI:=h.rate _ (List.getElem_mem hk)
  rw[hb]
  simp[NQ,hk] at ho
  simp[kX,fF,hk]
  refine⟨_,aB _ _,?_⟩
  cases e1:inB r.rates[k].fr r.currencies.length
  ·simp
  simp
  refine⟨_,aB _ _,?_⟩
  cases e2:inB r.rates[k].to r.currencies.length
  ·simp
  by_cases e3:r.rates[k].fr=r.rates[k].to
  ·simp[e3]
  simp[e3]
  refine⟨_,aB _ _,?_⟩
  rw[Nl hI.1 _ (by omega)]
  cases e4:wi r.rates[k].num 1 1073741824
  ·simp
  simp
  refine⟨_,aB _ _,?_⟩
  rw[Nl hI.2 _ (by omega)]
  cases e5:wi r.rates[k].den 1 1073741824
  ·simp
  simp
  refine⟨_,aB _ _,?_⟩
  rw[acG]
  simp[ho e1 e2 e3 e4 e5]
 ·rw[hj]
  simp[kX,fF]
  by_cases h1:20<r.halts.length
  ·have h1':(20:Int)<r.halts.length:=by omega
   have h1'':¬r.halts.length≤20:=by omega
   simp[h1,h1',h1'']
  have h1':¬(20:Int)<r.halts.length:=by omega
  simp[h1,h1']
  refine gz r.halts.length (Km r) (fun k=>[.int 0,.int k]) (fun _=>[]) ?_ (fun k hk ho=>?_) (fun k hk ho hb=>?_) (fun hj=>?_)
  ·simp
  ·have hw:=ar hk (by omega)
   simp[Km,wi,hk] at ho
   obtain⟨⟨a1,a2⟩,a3⟩:=ho
   have b1:¬r.halts[k].fr<0:=by omega
   have b2:¬r.halts[k].to<r.halts[k].fr:=by omega
   have b3:¬100000<r.halts[k].to:=by omega
   simp[kJ,fD,hk]
   refine⟨_,aB _ _,?_⟩
   simp[a1,b1,b2,b3,hw]
  ·rw[hb]
   simp[Km,wi,hk] at ho
   simp[kJ,fD,hk]
   refine⟨_,aB _ _,?_⟩
   cases e1:inB r.halts[k].order r.orders.length
   ·simp
   have:=ho e1
   by_cases b1:r.halts[k].fr<0
   ·simp[b1]
   by_cases b2:r.halts[k].to<r.halts[k].fr
   ·simp[b1,b2]
   have b3:100000<r.halts[k].to:=this (by omega) (by omega)
   simp[b1,b2,b3]
  ·rw[hj]
   simp[kJ,fD]
theorem M3 (r:Realm)(h:Small r):Runs T Fh [au r] (.int (qB r)):=by
 refine .of_tree rfl RY I9 ?_
 have hu:=h.rates
 have hh:=h.halts
 have hc:=CY r.currencies.length (by have:=h.cur;omega)
 have hor:=CY r.orders.length (by have:=h.orders;omega)
 simp[vp,qB]
 by_cases h0:100<r.rates.length
 ·have h0':(100:Int)<r.rates.length:=by omega
  have h0'':¬r.rates.length≤100:=by omega
  simp[h0,h0',h0'']
 have h0':¬(100:Int)<r.rates.length:=by omega
 simp[h0,h0']
 refine gz r.rates.length (NQ r) (fun k=>[.int 0,.int k]) (fun _=>[]) ?_ (fun k hk ho=>?_) (fun k hk ho hb=>?_) (fun hj=>?_)
 ·simp
 ·have hw:=ar hk (by omega)
  simp[NQ,hk,KB] at ho
  obtain⟨⟨⟨⟨⟨a1,a2⟩,a3⟩,a4⟩,a5⟩,a6⟩:=ho
  simp[kF,fN,hk,hc]
  refine⟨_,af _ _ _,?_⟩
  simp[a1,hc]
  refine⟨_,af _ _ _,?_⟩
  simp[a2,a3]
  refine⟨_,af _ _ _,?_⟩
  simp[a4]
  refine⟨_,af _ _ _,?_⟩
  simp[a5]
  refine⟨_,af _ _ _,?_⟩
  simp[a6,hw]
 ·rw[hb]
  simp[NQ,hk,KB] at ho
  simp[kF,fN,hk,hc]
  refine⟨_,af _ _ _,?_⟩
  cases e1:wi r.rates[k].fr 0 ((r.currencies.length:Int)-1)
  ·simp
  simp[hc]
  refine⟨_,af _ _ _,?_⟩
  cases e2:wi r.rates[k].to 0 ((r.currencies.length:Int)-1)
  ·simp
  by_cases e3:r.rates[k].fr=r.rates[k].to
  ·simp[e3]
  simp[e3]
  refine⟨_,af _ _ _,?_⟩
  cases e4:wi r.rates[k].num 1 1073741824
  ·simp
  simp
  refine⟨_,af _ _ _,?_⟩
  cases e5:wi r.rates[k].den 1 1073741824
  ·simp
  simp
  refine⟨_,af _ _ _,?_⟩
  simp[ho e1 e2 e3 e4 e5]
 ·rw[hj]
  simp[kF,fN]
  by_cases h1:20<r.halts.length
  ·have h1':(20:Int)<r.halts.length:=by omega
   have h1'':¬r.halts.length≤20:=by omega
   simp[h1,h1',h1'']
  have h1':¬(20:Int)<r.halts.length:=by omega
  simp[h1,h1']
  refine gz r.halts.length (Km r) (fun k=>[.int 0,.int k]) (fun _=>[]) ?_ (fun k hk ho=>?_) (fun k hk ho hb=>?_) (fun hj=>?_)
  ·simp
  ·have hw:=ar hk (by omega)
   simp[Km,hk,KB] at ho
   obtain⟨⟨a1,a2⟩,a3⟩:=ho
   have b3:¬100000<r.halts[k].to:=by omega
   simp[kH,fE,hk,hor]
   refine⟨_,af _ _ _,?_⟩
   simp[a1]
   refine⟨_,af _ _ _,?_⟩
   simp[a2,b3,hw]
  ·rw[hb]
   simp[Km,hk,KB] at ho
   simp[kH,fE,hk,hor]
   refine⟨_,af _ _ _,?_⟩
   cases e1:wi r.halts[k].order 0 ((r.orders.length:Int)-1)
   ·simp
   simp
   refine⟨_,af _ _ _,?_⟩
   cases e2:wi r.halts[k].fr 0 r.halts[k].to
   ·simp
   simp[ho e1 e2]
  ·rw[hj]
   simp[kH,fE]
end Rm
namespace Rm
open Go Go.Proofs Cx
def ny:List Int→Int
 |[]=>0
 |x::l=>if x=0 then ny l else x
theorem Je:∀{l:List Int},ny l=0↔∀x,x∈l→x=0
 |[]=>by simp[ny]
 |x::l=>by
  simp only[ny,List.mem_cons,forall_eq_or_imp]
  by_cases h:x=0
  ·simp[h,Je (l:=l)]
  ·simp[h]
def AX (r:Realm)(i:Nat):Bool:=inB (r.firms.getD i default).city r.cities.length&&inB (r.firms.getD i default).group r.groups.length
def Av (r:Realm)(i:Nat):Bool:=yp r (r.cities.getD i default)
def nG (r:Realm)(i:Nat):Bool:=tc (r.orders.getD i default)
def Et (r:Realm)(i:Nat):Bool:=inB (r.groups.getD i default).grade 10
def tT (r:Realm):Int:=if 20<r.groups.length then 6 else if mg r.groups.length (Et r) then 0 else 1
def mM (r:Realm):Int:=ny [eG r.currencies 8 (fun _=>true),eG (cq r) 40 (Av r),tT r,eG (cg r) 200 (AX r),eG (bN r) 20 (nG r),oU r,qB r]
theorem V5 (i:Int):Runs T qx [.int i] (.bool true):=by
 refine .of_tree rfl Jp BE ?_
 simp[nV]
theorem Vv (r:Realm)(h:Small r)(i:Nat)(hi:i<r.cities.length):Runs T qg [.int i,.ref (au r)] (.bool (Av r i)):=by
 refine .of_tree rfl Ih BB ?_
 obtain⟨h1,h2,h3,h4⟩:=h.city _ (List.getElem_mem hi)
 simp[nN,hi,Av]
 exact Mn r r.cities[i] (by omega) (by omega) (by omega)
theorem WA (r:Realm)(i:Nat)(hi:i<r.firms.length):Runs T pJ [.int i,.ref (au r)] (.bool (AX r i)):=by
 refine .of_tree rfl Ib Ch ?_
 simp[nu,hi,AX]
 refine⟨_,aB _ _,?_⟩
 simp[hi]
 cases e1:inB r.firms[i].city r.cities.length<;>simp
 exact aB _ _
theorem Wh (r:Realm)(h:Small r)(i:Nat)(hi:i<r.orders.length):Runs T pE [.int i,.ref (au r)] (.bool (nG r i)):=by
 refine .of_tree rfl H7 Ck ?_
 obtain⟨h1,h2⟩:=h.order _ (List.getElem_mem hi)
 simp[nO,hi,nG]
 exact Jv r.orders[i] (by omega) (by omega)
theorem wB (r:Realm)(h:Small r):Runs T C9 [au r] (.int (mM r)):=by
 refine .of_tree rfl Pu F7 ?_
 have g1:=h.cur
 have g2:=h.cities
 have g3:=h.firms
 have g4:=h.orders
 have g5:=h.groups
 simp[sc]
 refine⟨_,HI r (by omega) (by omega) (by omega),?_⟩
 simp
 refine⟨_,ki r.currencies 8 qx [] (fun _=>true) (fun i _=>V5 _) (by omega),?_⟩
 unfold mM
 generalize e1:eG r.currencies 8 (fun _=>true)=x1
 by_cases z1:x1=0
 case neg=>simp[z1,ny]
 simp[z1,ny]
 refine⟨_,ki (cq r) 40 qg [.ref (au r)] (Av r) (fun i hi=>Vv r h i (by simpa [cq] using hi)) (by simp[cq];omega),?_⟩
 generalize e2:eG (cq r) 40 (Av r)=x2
 by_cases z2:x2=0
 case neg=>simp[z2]
 simp[z2]
 by_cases z3:20<r.groups.length
 ·have z3':(20:Int)<r.groups.length:=by omega
  simp[z3',tT,z3]
 have z3':¬(20:Int)<r.groups.length:=by omega
 simp[z3',tT,z3]
 refine gz r.groups.length (Et r) (fun k=>[.int 0,.int k]) (fun _=>[]) ?_ (fun k hk ho=>?_) (fun k hk ho hb=>?_) (fun hj=>?_)
 ·simp
 ·have hw:=ar hk (by omega)
  simp[Et,hk] at ho
  simp[jA,eD,hk]
  refine⟨_,aB _ _,?_⟩
  simp[ho,hw]
 ·simp[Et,hk] at ho
  rw[hb]
  simp[jA,eD,hk]
  refine⟨_,aB _ _,?_⟩
  simp[ho]
 ·rw[hj]
  simp[jA,eD]
  refine⟨_,ki (cg r) 200 pJ [.ref (au r)] (AX r) (fun i hi=>WA r i (by simpa [cg] using hi)) (by simp[cg];omega),?_⟩
  generalize e4:eG (cg r) 200 (AX r)=x4
  by_cases z4:x4=0
  case neg=>simp[z4]
  simp[z4]
  refine⟨_,ki (bN r) 20 pE [.ref (au r)] (nG r) (fun i hi=>Wh r h i (by simpa [bN] using hi)) (by simp[bN];omega),?_⟩
  generalize e5:eG (bN r) 20 (nG r)=x5
  by_cases z5:x5=0
  case neg=>simp[z5]
  simp[z5]
  refine⟨_,EE r h,?_⟩
  generalize e6:oU r=x6
  by_cases z6:x6=0
  case neg=>simp[z6]
  simp[z6]
  have e7:(if qB r=0 then 0 else qB r)=qB r:=by split<;>simp_all
  rw[e7]
  exact Mu r h
theorem abL (l:List ByteArray)(k:Nat):y6 l (fun _=>true) k=dB l k:=by
 unfold y6;by_cases h:dB l k=0<;>simp[h]
theorem FI {l:List ByteArray}{g:Nat→Bool}{k:Nat}(h:y6 l g k=0):dB l k=0∧g k=true:=by
 unfold y6 at h
 by_cases h1:dB l k=0
 ·simp[h1] at h;exact⟨h1,h⟩
 ·simp[h1] at h
theorem Ot {l:List ByteArray}{g:Nat→Bool}{k:Nat}(h:y6 l g k≠0):(dB l k≠0∧y6 l g k=dB l k)∨(dB l k=0∧g k=false∧y6 l g k=1):=by
 unfold y6 at h ⊢
 by_cases h1:dB l k=0
 ·simp[h1] at h ⊢;simp[h]
 ·simp[h1]
theorem MU (r:Realm)(h:Small r):Runs T Gj [au r] (.int (ny [eG r.currencies 8 (fun _=>true),eG (cq r) 40 (Av r)])):=by
 refine .of_tree rfl Rf Iq ?_
 have g1:=h.cur
 have g2:=h.cities
 have g4:=h.orders
 simp[vj]
 unfold eG
 by_cases z1:(8:Int)<r.currencies.length
 ·simp[z1,ny]
 simp[z1,ny]
 refine Kv r.currencies.length (y6 r.currencies (fun _=>true)) (fun k=>[.int 0,.int k]) (fun _=>[]) ?_ (fun k hk ho=>?_) (fun k hk ho hb=>?_) (fun hj=>?_)
 ·simp
 ·have hw:=ar hk (by omega)
  simp[kV,fH,hk]
  refine⟨_,gJ _ k hk (by omega),?_⟩
  simp[(FI ho).1,hw]
 ·rw[hb]
  simp[kV,fH,hk,ho]
  rw[abL]
  exact gJ _ k hk (by omega)
 ·rw[hj]
  simp[kV,fH]
  have hlen:(cq r).length=r.cities.length:=by simp[cq]
  rw[hlen]
  by_cases z2:(40:Int)<r.cities.length
  ·simp[z2]
  simp[z2]
  have key:∀k (hk:k<r.cities.length),((cq r).take k).length=k∧D.list (List.take k (List.map str (cq r))++[str r.cities[k].name])=strs ((cq r).take (k+1))∧
     Runs T oQ [strs ((cq r).take (k+1)),.int k] (.int (dB (cq r) k))∧Runs T px [au r,bI r.cities[k]] (.bool (Av r k)):=by
   intro k hk
   have hk':k<(cq r).length:=by omega
   have hg:(cq r)[k]=r.cities[k].name:=by simp[cq]
   have hs:(cq r).take (k+1)=(cq r).take k++[(cq r)[k]]:=List.take_succ_eq_append_getElem hk'
   have hn:=gJ ((cq r).take (k+1)) k (by rw[List.length_take];omega) (by rw[List.length_take];omega)
   rw[Ag _ _ _ (by omega)] at hn
   obtain⟨c1,c2,c3,c4⟩:=h.city _ (List.getElem_mem hk)
   have hc:=EA r r.cities[k] (by omega) (by omega) (by omega) (by omega) (by omega) c4
   rw[aeb] at hc
   exact⟨by rw[List.length_take];omega,by rw[hs,hg];simp[strs],hn,by simpa [Av,hk] using hc⟩
  refine Kv r.cities.length (y6 (cq r) (Av r)) (fun k=>[.int 0,.none,.int k]) (fun k=>[strs ((cq r).take k)]) ?_ (fun k hk ho=>?_) (fun k hk ho hb=>?_) (fun hj=>?_)
  ·simp[strs]
  ·have hw:=ar hk (by omega)
   obtain⟨hl,hs',hn,hc⟩:=key k hk
   obtain⟨o1,o2⟩:=FI ho
   rw[o1] at hn
   rw[o2] at hc
   simp[kI,fO,hk,hl,hs',agm]
   refine⟨by omega,_,hn,?_⟩
   simp[hk]
   refine⟨_,hc,?_⟩
   simp[hw]
  ·rw[hb]
   obtain⟨hl,hs',hn,hc⟩:=key k hk
   simp[kI,fO,hk,hl,hs',ho]
   refine⟨by omega,_,hn,?_⟩
   rcases Ot ho with⟨o1,o2⟩|⟨o1,o2,o3⟩
   ·simp[o1,o2]
   ·rw[o2] at hc
    simp[o1,o3,hk]
    refine⟨_,hc,?_⟩
    simp
  ·rw[hj]
   simp[kI,fO]
theorem QM (r:Realm)(h:Small r):Runs T Kl [au r] (.int (ny [tT r,eG (cg r) 200 (AX r)])):=by
 refine .of_tree rfl UP ME ?_
 have g1:=h.groups
 have g2:=h.firms
 have g3:=h.cities
 have w3:=CY r.cities.length (by omega)
 have w1:=CY r.groups.length (by omega)
 simp[xu]
 by_cases z1:20<r.groups.length
 ·have z1':(20:Int)<r.groups.length:=by omega
  simp[z1',tT,z1,ny]
 have z1':¬(20:Int)<r.groups.length:=by omega
 simp[z1',tT,z1,ny]
 refine gz r.groups.length (Et r) (fun k=>[.int 0,.int k]) (fun _=>[]) ?_ (fun k hk ho=>?_) (fun k hk ho hb=>?_) (fun hj=>?_)
 ·simp
 ·have hw:=ar hk (by omega)
  simp[Et,hk] at ho
  have e:wi r.groups[k].grade 0 9=inB r.groups[k].grade 10:=by rw[Bool.eq_iff_iff];simp[wi,inB];omega
  simp[lO,gI,hk]
  refine⟨_,af _ _ _,?_⟩
  simp[e,ho,hw]
 ·simp[Et,hk] at ho
  have e:wi r.groups[k].grade 0 9=inB r.groups[k].grade 10:=by rw[Bool.eq_iff_iff];simp[wi,inB];omega
  rw[hb]
  simp[lO,gI,hk]
  refine⟨_,af _ _ _,?_⟩
  simp[e,ho]
 ·rw[hj]
  simp[lO,gI]
  unfold eG
  have hlen:(cg r).length=r.firms.length:=by simp[cg]
  rw[hlen]
  by_cases z2:(200:Int)<r.firms.length
  ·simp[z2]
  simp[z2]
  have key:∀k (hk:k<r.firms.length),((cg r).take k).length=k∧D.list (List.take k (List.map str (cg r))++[str r.firms[k].name])=strs ((cg r).take (k+1))∧
     Runs T oQ [strs ((cg r).take (k+1)),.int k] (.int (dB (cg r) k))∧AX r k=(wi r.firms[k].city 0 ((r.cities.length:Int)-1)&&wi r.firms[k].group 0 ((r.groups.length:Int)-1)):=by
   intro k hk
   have hk':k<(cg r).length:=by omega
   have hg:(cg r)[k]=r.firms[k].name:=by simp[cg]
   have hs:(cg r).take (k+1)=(cg r).take k++[(cg r)[k]]:=List.take_succ_eq_append_getElem hk'
   have hn:=gJ ((cg r).take (k+1)) k (by rw[List.length_take];omega) (by rw[List.length_take];omega)
   rw[Ag _ _ _ (by omega)] at hn
   exact⟨by rw[List.length_take];omega,by rw[hs,hg];simp[strs],hn,by simp[AX,hk,KB]⟩
  refine Kv r.firms.length (y6 (cg r) (AX r)) (fun k=>[.int 0,.none,.int k]) (fun k=>[strs ((cg r).take k)]) ?_ (fun k hk ho=>?_) (fun k hk ho hb=>?_) (fun hj=>?_)
  ·simp[strs]
  ·have hw:=ar hk (by omega)
   obtain⟨hl,hs',hn,hc⟩:=key k hk
   obtain⟨o1,o2⟩:=FI ho
   rw[o1] at hn
   rw[o2] at hc
   have hc':=Bool.and_eq_true_iff.1 hc.symm
   simp[ml,gY,hk,hl,hs']
   refine⟨by omega,_,hn,?_⟩
   simp[hk,w3]
   refine⟨_,af _ _ _,?_⟩
   simp[hc'.1,hk,w1]
   refine⟨_,af _ _ _,?_⟩
   simp[hc'.2,hw]
  ·rw[hb]
   obtain⟨hl,hs',hn,hc⟩:=key k hk
   simp[ml,gY,hk,hl,hs',ho]
   refine⟨by omega,_,hn,?_⟩
   rcases Ot ho with⟨o1,o2⟩|⟨o1,o2,o3⟩
   ·simp[o1,o2]
   ·rw[o2] at hc
    simp[o1,o3,hk,w3]
    refine⟨_,af _ _ _,?_⟩
    cases e1:wi r.firms[k].city 0 ((r.cities.length:Int)-1)
    ·simp
    rw[e1,Bool.true_and] at hc
    simp[hk,w1]
    refine⟨_,af _ _ _,?_⟩
    simp[←hc]
  ·rw[hj]
   simp[ml,gY]
theorem M5 (r:Realm)(h:Small r):Runs T FE [au r] (.int (eG (bN r) 20 (nG r))):=by
 refine .of_tree rfl RX I1 ?_
 have g2:=h.orders
 simp[uO]
 unfold eG
 have hlen:(bN r).length=r.orders.length:=by simp[bN]
 rw[hlen]
 by_cases z2:(20:Int)<r.orders.length
 ·simp[z2]
 simp[z2]
 have key:∀k (hk:k<r.orders.length),((bN r).take k).length=k∧D.list (List.take k (List.map str (bN r))++[str r.orders[k].name])=strs ((bN r).take (k+1))∧
  Runs T oQ [strs ((bN r).take (k+1)),.int k] (.int (dB (bN r) k))∧Runs T nL [bQ r.orders[k]] (.bool (nG r k)):=by
  intro k hk
  have hk':k<(bN r).length:=by omega
  have hg:(bN r)[k]=r.orders[k].name:=by simp[bN]
  have hs:(bN r).take (k+1)=(bN r).take k++[(bN r)[k]]:=List.take_succ_eq_append_getElem hk'
  have hn:=gJ ((bN r).take (k+1)) k (by rw[List.length_take];omega) (by rw[List.length_take];omega)
  rw[Ag _ _ _ (by omega)] at hn
  obtain⟨c1,c2⟩:=h.order _ (List.getElem_mem hk)
  exact⟨by rw[List.length_take];omega,by rw[hs,hg];simp[strs],hn,by simpa [nG,hk] using BI r.orders[k] (by omega) (by omega)⟩
 refine Kv r.orders.length (y6 (bN r) (nG r)) (fun k=>[.int 0,.none,.int k]) (fun k=>[strs ((bN r).take k)]) ?_ (fun k hk ho=>?_) (fun k hk ho hb=>?_) (fun hj=>?_)
 ·simp[strs]
 ·have hw:=ar hk (by omega)
  obtain⟨hl,hs',hn,hc⟩:=key k hk
  obtain⟨o1,o2⟩:=FI ho
  rw[o1] at hn
  rw[o2] at hc
  simp[kT,fS,hk,hl,hs']
  refine⟨by omega,_,hn,?_⟩
  simp[hk]
  refine⟨_,hc,?_⟩
  simp[hw]
 ·rw[hb]
  obtain⟨hl,hs',hn,hc⟩:=key k hk
  simp[kT,fS,hk,hl,hs',ho]
  refine⟨by omega,_,hn,?_⟩
  rcases Ot ho with⟨o1,o2⟩|⟨o1,o2,o3⟩
  ·simp[o1,o2]
  ·rw[o2] at hc
   simp[o1,o3,hk]
   refine⟨_,hc,?_⟩
   simp
 ·rw[hj]
  simp[kT,fS]
theorem z8 (r:Realm)(h:Small r):Runs T Kr [au r] (.int (mM r)):=by
 refine .of_tree rfl UX LG ?_
 have e:mM r=ny [ny [eG r.currencies 8 (fun _=>true),eG (cq r) 40 (Av r)],ny [tT r,eG (cg r) 200 (AX r)],eG (bN r) 20 (nG r),oU r,qB r]:=by
  unfold mM
  simp only[ny]
  split<;>(try split)<;>(try split)<;>(try split)<;>simp_all
 rw[e]
 simp[xP]
 refine⟨_,MU r h,?_⟩
 have h1:=QM r h
 generalize ny [eG r.currencies 8 (fun _=>true),eG (cq r) 40 (Av r)]=x1 at*
 generalize ny [tT r,eG (cg r) 200 (AX r)]=x2 at*
 have h2:=M5 r h
 generalize eG (bN r) 20 (nG r)=x3 at*
 have h3:=JO r h
 generalize oU r=x4 at*
 have h4:=M3 r h
 generalize qB r=x5 at*
 by_cases z1:x1=0
 case neg=>simp[z1,ny]
 simp[z1,ny]
 refine⟨_,h1,?_⟩
 by_cases z2:x2=0
 case neg=>simp[z2]
 simp[z2]
 refine⟨_,h2,?_⟩
 by_cases z3:x3=0
 case neg=>simp[z3]
 simp[z3]
 refine⟨_,h3,?_⟩
 by_cases z4:x4=0
 case neg=>simp[z4]
 simp[z4]
 have e7:(if x5=0 then 0 else x5)=x5:=by split<;>simp_all
 rw[e7]
 exact h4
end Rm
namespace Rm
open Go Go.Proofs Cx
def mY:Nat→Tm→Int→Int
 |0,_,_=>-1
 |L+1,t,n=>t.args.foldl (fun m a=>if 0≤m then mY L a m else m) (n-1)
theorem size_le:∀(L:Nat) (t:Tm) (n:Int),0≤n→-1≤mY L t n∧mY L t n≤n
 |0,t,n,h=>by simp[mY];omega
 |L+1,t,n,h=>by
  have key:∀(l:List Tm) (m:Int),-1≤m→m≤n→-1≤l.foldl (fun m a=>if 0≤m then mY L a m else m) m∧l.foldl (fun m a=>if 0≤m then mY L a m else m) m≤n:=by
   intro l
   induction l with
   |nil=>intro m h1 h2;exact⟨h1,h2⟩
   |cons a l ih=>
    intro m h1 h2
    simp only[List.foldl_cons]
    split
    ·rename_i hm
     have:=size_le L a m hm
     exact ih _ this.1 (by omega)
    ·exact ih _ h1 h2
  exact key _ _ (by omega) (by omega)
theorem Xk (L:Nat):∀(l:List Tm) (m:Int),m<0→l.foldl (fun m a=>if 0≤m then mY L a m else m) m=m
 |[],m,h=>rfl
 |a::l,m,h=>by simp only[List.foldl_cons];rw[if_neg (by omega)];exact Xk L l m h
theorem YM {α β:Type}(f:β→α→β)(b:β){l:List α}{k:Nat}(h:k<l.length):(l.take (k+1)).foldl f b=f ((l.take k).foldl f b) l[k]:=by
 rw[List.take_succ_eq_append_getElem h,List.foldl_append];rfl
theorem aaO {α β:Type}(f:β→α→β)(b:β)(l:List α)(k:Nat):l.foldl f b=(l.drop k).foldl f ((l.take k).foldl f b):=by
 rw[←List.foldl_append,List.take_append_drop]
theorem _root_.Cx.Tm.OK.len {t:Tm}(h:t.OK):t.args.length≤9223372036854775807:=by cases h with|mk o n xs h1 h2 h3 h4=>exact h3
theorem _root_.Cx.Tm.OK.arg {t:Tm}(h:t.OK){a:Tm}(ha:a∈t.args):a.OK:=by cases h with|mk o n xs h1 h2 h3 h4=>exact h4 a ha
theorem Dc:∀(L:Nat) (t:Tm) (n:Int),t.OK→0≤n→n≤1000→L≤1000→Runs T O0 [jz t,.int n,.int L] (.int (mY L t n))
 |0,t,n,ht,h0,h1,hL=>by
  refine .of_tree rfl Ke Al ?_
  simp[tZ,mY]
 |L+1,t,n,ht,h0,h1,hL=>by
  refine .of_tree rfl Ke Al ?_
  have hw0:IntKind.i64.wrap (n-1)=n-1:=az (by omega)
  have hl:=ht.len
  have hn1:¬((L:Int)+1<1):=by omega
  simp[tZ,hw0,hn1]
  let g:Nat→Int:=fun k=>(t.args.take k).foldl (fun m a=>if 0≤m then mY L a m else m) (n-1)
  have gb:∀k,-1≤g k∧g k≤1000:=by
   intro k
   have:g k=mY (L+1) (.mk 0 0 (t.args.take k)) n:=rfl
   have:=size_le (L+1) (.mk 0 0 (t.args.take k)) n h0
   omega
  refine .scan t.args.length (fun k=>0≤g k) (fun k=>[.int (g k),.int k]) (fun _=>[]) ?_ (fun k hk hj ho=>?_) (fun k hk hj ho=>?_) (fun hj=>?_)
  ·simp[g,hw0]
  ·have hw:IntKind.i64.wrap ((k:Int)+1)=(k:Int)+1:=az (by omega)
   have hwl:IntKind.i64.wrap (L:Int)=(L:Int):=az (by omega)
   have hg:g (k+1)=mY L t.args[k] (g k):=by
    show(t.args.take (k+1)).foldl _ _=_
    rw[YM _ _ hk]
    show(if 0≤g k then _ else _)=_
    rw[if_pos ho]
   rw[hg]
   have hrec:=Dc L t.args[k] (g k) (ht.arg (List.getElem_mem hk)) ho (gb k).2 (by omega)
   generalize g k=m at*
   simp[nl,jL,hk,ho,hwl]
   refine⟨_,hrec,?_⟩
   simp[hw]
  ·have hf:mY (L+1) t n=g k:=by
    show t.args.foldl _ _=_
    rw[aaO _ _ _ k]
    exact Xk L _ _ (by show g k<0;omega)
   rw[hf]
   generalize g k=m at*
   simp[nl,jL,hk,ho]
  ·have hf:mY (L+1) t n=g t.args.length:=by
    show t.args.foldl _ _=(t.args.take t.args.length).foldl _ _
    rw[List.take_length]
   rw[hf]
   generalize g t.args.length=m at*
   simp[nl,jL]
theorem G4 (t:Tm)(ht:t.OK):Runs T TF [jz t] (.bool (decide (0≤mY 20 t 100))):=by
 refine .of_tree rfl XT Rq ?_
 simp[Dh]
 refine⟨_,Dc 20 t 100 ht (by omega) (by omega) (by omega),?_⟩
 simp
def R4 (o:Order):Bool:=(decide (o.rules.length≤60)&&decide (o.choices.length≤60))&&mg o.rules.length (fun k=>decide (0≤mY 20 (o.rules.getD k default).term 100))
theorem Fc (o:Order)(ho:o.OK):Runs T TC [bQ o] (.bool (R4 o)):=by
 refine .of_tree rfl Yt Sv ?_
 simp[EC]
 by_cases h1:(o.rules.length:Int)≤60
 case neg=>
  have h1':(60:Int)<o.rules.length:=by omega
  have hf:R4 o=false:=by
   have:decide (o.rules.length≤60)=false:=decide_eq_false (by omega)
   simp only[R4,this,Bool.false_and]
  simp[h1',hf]
 by_cases h2:(o.choices.length:Int)≤60
 case neg=>
  have h1':(60:Int)<o.choices.length:=by omega
  have hf:R4 o=false:=by
   have:decide (o.choices.length≤60)=false:=decide_eq_false (by omega)
   simp only[R4,this,Bool.false_and,Bool.and_false]
  simp[h1',hf]
 have h1':¬(60:Int)<o.rules.length:=by omega
 have h2':¬(60:Int)<o.choices.length:=by omega
 have hf:R4 o=mg o.rules.length (fun k=>decide (0≤mY 20 (o.rules.getD k default).term 100)):=by
  have e1:decide (o.rules.length≤60)=true:=decide_eq_true (by omega)
  have e2:decide (o.choices.length≤60)=true:=decide_eq_true (by omega)
  simp only[R4,e1,e2,Bool.true_and]
 rw[hf]
 simp[h1',h2']
 have hO:=ho.2.2
 refine gz o.rules.length (fun k=>decide (0≤mY 20 (o.rules.getD k default).term 100)) (fun k=>[.bool false,.int k]) (fun _=>[]) ?_ (fun k hk ho=>?_) (fun k hk ho hb=>?_) (fun hj=>?_)
 ·simp
 ·have hw:=ar hk (by omega)
  simp[hk] at ho
  simp[p8,l5,hk]
  refine⟨_,G4 _ (hO _ (List.getElem_mem hk)).2,?_⟩
  simp[ho,hw]
 ·simp only[List.getD_eq_getElem?_getD] at hb
  rw[hb]
  simp[hk] at ho
  simp[p8,l5,hk]
  refine⟨_,G4 _ (hO _ (List.getElem_mem hk)).2,?_⟩
  simp[ho]
 ·simp only[List.getD_eq_getElem?_getD] at hj
  rw[hj]
  simp[p8,l5]
def aaK (f:File):Bool:=decide ((f.signs.length:Int)≤50)&&decide ((f.alters.length:Int)≤10)&&decide ((f.acts.length:Int)≤110)&&decide ((f.facts.length:Int)≤220)
theorem U8 (f:File):Runs T TA [aD f] (.bool (aaK f)):=by
 refine .of_tree rfl YU RA ?_
 simp[EL,aaK]
 by_cases h1:(f.signs.length:Int)≤50<;>by_cases h2:(f.alters.length:Int)≤10<;>by_cases h3:(f.acts.length:Int)≤110<;>by_cases h4:(f.facts.length:Int)≤220<;>
  simp[h1,h2,h3,h4]
end Rm
namespace Rm
open Go Go.Proofs Cx
def ac4 (r:Realm)(k:Nat):Bool:=decide (((r.cities.getD k default).feasts.length:Int)≤70)&&decide (((r.cities.getD k default).shut.length:Int)≤210)&&decide (((r.cities.getD k default).rest.length:Int)≤8)
def acI (r:Realm)(k:Nat):Bool:=decide (((r.orders.getD k default).choices.length:Int)≤40)&&decide (((r.orders.getD k default).rules.length:Int)≤40)
def aeB (r:Realm):Bool:=decide ((r.currencies.length:Int)<50)&&decide ((r.cities.length:Int)<50)&&decide ((r.groups.length:Int)<50)&&decide ((r.firms.length:Int)<210)&&decide ((r.orders.length:Int)<50)&&decide ((r.usances.length:Int)<110)&&decide ((r.rates.length:Int)<110)&&decide ((r.halts.length:Int)<50)
def O8 (r:Realm):Bool:=mg (min r.cities.length 50) (ac4 r)&&mg (min r.orders.length 50) (acI r)&&aeB r
theorem UA (r:Realm)(hr:r.OK):Runs T SX [au r] (.bool (O8 r)):=by
 refine .of_tree rfl Zd RK ?_
 simp[DF]
 refine gz (min r.cities.length 50) (ac4 r) (fun k=>[.bool false,.int k]) (fun _=>[]) ?_ (fun k hk ho=>?_) (fun k hk ho hb=>?_) (fun hj=>?_)
 ·simp
 ·have hk1:k<r.cities.length:=by omega
  have hk2:k<50:=by omega
  have hw:=ar hk2 (by omega)
  simp[ac4,hk1] at ho
  obtain⟨⟨a1,a2⟩,a3⟩:=ho
  have b1:¬(70:Int)<r.cities[k].feasts.length:=by omega
  have b2:¬(210:Int)<r.cities[k].shut.length:=by omega
  have b3:¬(8:Int)<r.cities[k].rest.length:=by omega
  simp[fT,eW,hk1,hk2,hw,b1,b2,b3]
  omega
 ·have hk1:k<r.cities.length:=by omega
  have hk2:k<50:=by omega
  have hf:O8 r=false:=by simp only[O8,hb,Bool.false_and]
  rw[hf]
  simp[ac4,hk1] at ho
  by_cases b1:(70:Int)<r.cities[k].feasts.length
  ·simp[fT,eW,hk1,hk2,b1];omega
  by_cases b2:(210:Int)<r.cities[k].shut.length
  ·simp[fT,eW,hk1,hk2,b1,b2];omega
  have b3:(8:Int)<r.cities[k].rest.length:=by have:=ho (by omega) (by omega);omega
  simp[fT,eW,hk1,hk2,b1,b2,b3];omega
 ·have hn:¬((min r.cities.length 50:Nat):Int)<r.cities.length∨¬((min r.cities.length 50:Nat):Int)<50:=by omega
  simp[fT,eW]
  rw[if_neg (by omega)]
  refine gz (min r.orders.length 50) (acI r) (fun k=>[.bool false,.int k]) (fun _=>[]) ?_ (fun k hk ho=>?_) (fun k hk ho hb=>?_) (fun hj2=>?_)
  ·simp
  ·have hk1:k<r.orders.length:=by omega
   have hk2:k<50:=by omega
   have hw:=ar hk2 (by omega)
   simp[acI,hk1] at ho
   obtain⟨a1,a2⟩:=ho
   have b1:¬(40:Int)<r.orders[k].choices.length:=by omega
   have b2:¬(40:Int)<r.orders[k].rules.length:=by omega
   simp[j4,jd,hk1,hk2,hw,b1,b2]
   omega
  ·have hk1:k<r.orders.length:=by omega
   have hk2:k<50:=by omega
   have hf:O8 r=false:=by simp only[O8,hb,Bool.false_and,Bool.and_false]
   rw[hf]
   simp[acI,hk1] at ho
   by_cases b1:(40:Int)<r.orders[k].choices.length
   ·simp[j4,jd,hk1,hk2,b1];omega
   have b2:(40:Int)<r.orders[k].rules.length:=by have:=ho (by omega);omega
   simp[j4,jd,hk1,hk2,b1,b2];omega
  ·have hf:O8 r=aeB r:=by simp only[O8,hj,hj2,Bool.true_and]
   rw[hf]
   simp[j4,jd]
   rw[if_neg (by omega)]
   unfold aeB
   by_cases c1:(r.currencies.length:Int)<50<;>simp[c1]
   by_cases c2:(r.cities.length:Int)<50<;>simp[c2]
   by_cases c3:(r.groups.length:Int)<50<;>simp[c3]
   by_cases c4:(r.firms.length:Int)<210<;>simp[c4]
   by_cases c5:(r.orders.length:Int)<50<;>simp[c5]
   by_cases c6:(r.usances.length:Int)<110<;>simp[c6]
   by_cases c7:(r.rates.length:Int)<110<;>simp[c7]
theorem It {r:Realm}(hr:r.OK)(h:O8 r=true):Small r:=by
 simp only[O8,aeB,Bool.and_eq_true,decide_eq_true_eq,allB_iff] at h
 obtain⟨⟨h1,h2⟩,⟨⟨⟨⟨⟨⟨⟨c1,c2⟩,c3⟩,c4⟩,c5⟩,c6⟩,c7⟩,c8⟩⟩:=h
 obtain⟨k1,⟨k2,k2'⟩,⟨k3,k3'⟩,⟨k4,k4'⟩,⟨k5,k5'⟩,⟨k6,k6'⟩,⟨k7,k7'⟩,⟨k8,k8'⟩⟩:=hr
 refine⟨by omega,by omega,by omega,by omega,by omega,by omega,by omega,by omega,fun c hc=>?_,fun o ho=>?_,fun x hx=>?_⟩
 ·obtain⟨k,hk,rfl⟩:=List.getElem_of_mem hc
  have:=h1 k (by omega)
  simp[ac4,hk] at this
  have:=k2' _ hc
  exact⟨by omega,by omega,by omega,fun y hy=>this.2.2.2.1.2 y hy⟩
 ·obtain⟨k,hk,rfl⟩:=List.getElem_of_mem ho
  have:=h2 k (by omega)
  simp[acI,hk] at this
  omega
 ·have:=k7' x hx
  exact⟨this.2.2.1,this.2.2.2.1⟩
def CN (r:Realm)(f:File):Bool:=(O8 r&&aaK f)&&mg r.orders.length (fun k=>R4 (r.orders.getD k default))
theorem U0 (r:Realm)(f:File)(hr:r.OK):Runs T Tp [au r,aD f] (.bool (CN r f)):=by
 refine .of_tree rfl YC Rx ?_
 simp[DQ]
 refine⟨_,UA r hr,?_⟩
 cases e1:O8 r
 ·simp[CN,e1]
 simp
 refine⟨_,U8 f,?_⟩
 cases e2:aaK f
 ·simp[CN,e1,e2]
 have hs:=It hr e1
 have ho:=hs.orders
 have hf:CN r f=mg r.orders.length (fun k=>R4 (r.orders.getD k default)):=by simp only[CN,e1,e2,Bool.true_and]
 rw[hf]
 simp
 have hO:=hr.2.2.2.2.1.2
 refine gz r.orders.length (fun k=>R4 (r.orders.getD k default)) (fun k=>[.bool false,.int k]) (fun _=>[]) ?_ (fun k hk ho=>?_) (fun k hk ho hb=>?_) (fun hj=>?_)
 ·simp
 ·have hw:=ar hk (by omega)
  simp[hk] at ho
  simp[pW,mS,hk]
  refine⟨_,Fc _ (hO _ (List.getElem_mem hk)),?_⟩
  simp[ho,hw]
 ·simp only[List.getD_eq_getElem?_getD] at hb
  rw[hb]
  simp[hk] at ho
  simp[pW,mS,hk]
  refine⟨_,Fc _ (hO _ (List.getElem_mem hk)),?_⟩
  simp[ho]
 ·simp only[List.getD_eq_getElem?_getD] at hj
  rw[hj]
  simp[pW,mS]
def QE (r:Realm)(f:File):Bool:=CN r f&&decide (mM r=0)
theorem UT (r:Realm)(f:File)(hr:r.OK):Runs T SB [au r,aD f] (.bool (QE r f)):=by
 refine .of_tree rfl Yn RI ?_
 simp[Dg,QE]
 refine⟨_,U0 r f hr,?_⟩
 cases e1:CN r f
 ·simp
 have hs:Small r:=It hr (by simp only[CN,Bool.and_eq_true] at e1;exact e1.1.1)
 simp
 refine⟨_,z8 r hs,?_⟩
 simp
 rfl
def Nn (n:Int):Int:=min (max n (-1099511627776)) 1099511627776
theorem og (n:Int):Runs T Oe [.int n] (.int (Nn n)):=by
 refine .of_tree rfl Wy Pt ?_
 simp[zt,Nn]
 by_cases h1:-1099511627776>n
 ·have:¬(1099511627776:Int)< -1099511627776:=by omega
  simp[h1];omega
 ·by_cases h2:(1099511627776:Int)<n
  ·simp[h1,h2];omega
  ·simp[h1,h2];omega
def Hn (v:Int):Int×Bool:=if v<0∨19<v then(0,false) else if v<7 then(0,true) else(1,true)
theorem uc (v:Int):Runs T AK [.int v] (.tup [.int (Hn v).1,.bool (Hn v).2]):=by
 refine .of_tree rfl MD Eg ?_
 simp[pP,Hn]
 by_cases h1:v<0
 ·simp[h1]
 by_cases h2:19<v
 ·simp[h1,h2]
 by_cases h3:v<7
 ·simp[h1,h2,h3]
 ·simp[h1,h2,h3]
def Xy (t:Tm):Int×Int:=
 if 0<t.args.length then(0,2) else if t.op=0 then(if Nn t.n≠t.n then(0,3) else(0,0)) else if t.op=1 then(if t.n<0∨1<t.n then(0,3) else(1,0)) else if(Hn t.n).2=false then(0,10) else((Hn t.n).1,0)
theorem N6 (t:Tm):Runs T Kw [jz t] (.tup [.int (Xy t).1,.int (Xy t).2]):=by
 refine .of_tree rfl Uv Ls ?_
 simp[xb,Xy]
 by_cases h0:0<t.args.length
 ·have h0':(0:Int)<t.args.length:=by omega
  simp[h0,h0']
 simp[h0]
 by_cases h1:t.op=0
 ·simp[h1]
  refine⟨_,og _,?_⟩
  by_cases h2:Nn t.n=t.n<;>simp[h2]
 by_cases h2:t.op=1
 ·simp[h1,h2]
  by_cases h3:t.n<0<;>by_cases h4:1<t.n<;>simp[h3,h4]
 simp[h1,h2]
 refine⟨_,uc _,?_⟩
 cases h3:(Hn t.n).2<;>simp[h3]
def bU (op:Int):List Int×Int:=
 if op=3 then([1],1) else if op=4∨op=5 then([1,1],1) else if op=6 then([1,-1,-1],-1) else if op=7 then([0,0],1) else if op=8 then([-1,-1],1) else([0,0],0)
def zf (s:List Int×Int):D:=.agg [ints s.1,.int s.2]
@[simp] theorem afv (s:List Int×Int):(zf s).cells=[ints s.1,.int s.2]:=_root_.id rfl
@[simp] theorem ahV (s:List Int×Int):(zf s).c 0=ints s.1:=_root_.id rfl
@[simp] theorem aiI (s:List Int×Int):(zf s).c 1=.int s.2:=_root_.id rfl
@[simp] theorem ahK (s:List Int×Int):D.agg [ints s.1,.int s.2]=zf s:=_root_.id rfl
@[simp] theorem aeV (x y:Int):tS (.int x) 0 (.int y)=.int y:=_root_.id rfl
theorem GL (op:Int):Runs T A2 [.int op] (zf (bU op)):=by
 refine .of_tree rfl M0 Ey ?_
 simp[qd,bU]
 by_cases h3:op=3
 ·simp[h3];rfl
 by_cases h4:op=4
 ·simp[h4];rfl
 by_cases h5:op=5
 ·simp[h5];rfl
 by_cases h6:op=6
 ·simp[h6];rfl
 by_cases h7:op=7
 ·simp[h7];rfl
 by_cases h8:op=8
 ·simp[h8];rfl
 simp[h3,h4,h5,h6,h7,h8];rfl
end Rm
