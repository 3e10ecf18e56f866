/-
  Shared texts of this claim.
-/
import Derived.Test.YtehiffddpebpkaaGreatDoorKAL
import Derived.Test.YtehiffddpebpkaaGreatDoorKAM
import Derived.Test.YtehiffddpebpkaaGreatDoorKAK
import Derived.Test.YtehiffddpebpkaaGreatDoorKAJ
import Derived.WalkKit
import Derived.WalkSpells
import Derived.Lib.SliceRun
import Derived.Lib.AppendZeros
import Derived.Laws.Strings
set_option linter.unusedVariables false
set_option maxRecDepth 100000
namespace Rm
open Go Go.Proofs Cx
def pcN:List Nat:=[4,15,58,122,17,61,26,72,38,36,95,100,52,110,109,183,53,113,111,112,119,116,186,54,114,185,184,220,115,55,117,188,187,189,221,222,245,249,247,246,118,190,223,248,224,250,278,285,225,41,50,43,106,178,105,75,145,146,200,230,231,253,147,148,149,201,150,151,152,153,154,173,174,175,176,215,239,120,191,273,284,272,161,177,216,217,240,121,62,131,196,132,65,133,197,20,19,22,16,59,123,124,125,192,226,60,126,193,227,252,228,194,68,229,127,128,195,129,130,5,24,66,138,139,140,141,142,67,143,198,199,69,144,70,25,71,6]
noncomputable def pcL:List (Nat×PC):=[(4,gQ),(15,qn),(58,lL),(122,jW),(17,ll),(61,pW),(26,p9),(72,ij),(38,sE),(36,vd),(95,sR),(100,ze),(52,lP),(110,gY),(109,bn),(183,bI),(53,gT),(113,rZ),(111,jM),(112,la),(119,m8),(116,cO),(186,dX),(54,jQ),(114,gV),(185,fa),(184,bB),(220,cn),(115,fT),(55,jC),(117,nv),(188,jH),(187,bV),(189,nr),(221,jL),(222,ng),(245,qj),(249,sk),(247,jZ),(246,jV),(118,qg),(190,ec),(223,di),(248,se),(224,j0),(250,eI),(278,jK),(285,m9),(225,dG),(41,vG),(50,jA),(43,nj),(106,kM),(178,gd),(105,pU),(75,kO),(145,lG),(146,m5),(200,kQ),(230,jP),(231,bJ),(253,cI),(147,hZ),(148,iu),(149,nf),(201,jD),(150,il),(151,ir),(152,lX),(153,gM),(154,mY),(173,jB),(174,lW),(175,jE),(176,nu),(215,lM),(239,dh),(120,fW),(191,fY),(273,eO),(284,eX),(272,jR),(161,jI),(177,jU),(216,nq),(217,gO),(240,gZ),(121,ib),(62,dW),(131,jF),(196,jJ),(132,ga),(65,qe),(133,fQ),(197,kZ),(20,jT),(19,sA),(22,sC),(16,uT),(59,uY),(123,vK),(124,vx),(125,vz),(192,vb),(226,sJ),(60,qf),(126,m3),(193,qo),(227,rX),(252,nz),(228,nA),(194,hH),(68,na),(229,ni),(127,pS),(128,nw),(195,fV),(129,kR),(130,nC),(5,uj),(24,Ek),(66,EW),(138,Pq),(139,Ib),(140,EL),(141,Ds),(142,AQ),(67,EC),(143,HE),(198,Em),(199,Pp),(69,If),(144,E5),(70,Et),(25,H8),(71,Hx),(6,qv)]
noncomputable def tab:Nat→Option PC:=aa pcL
theorem XU:pcL.map (·.1)=pcN:=by kernel_rfl
theorem ae:(pcL.map (·.1)).Nodup:=by rw[XU];exact aV (by kernel_rfl)
theorem FQ:tab wF=some gQ:=aj ae (k:=0) (by kernel_rfl)
theorem QC:tab HV=some qn:=aj ae (k:=1) (by kernel_rfl)
theorem KR:tab AJ=some lL:=aj ae (k:=2) (by kernel_rfl)
theorem JU:tab yR=some jW:=aj ae (k:=3) (by kernel_rfl)
theorem Ns:tab A4=some ll:=aj ae (k:=4) (by kernel_rfl)
theorem Rs:tab HS=some pW:=aj ae (k:=5) (by kernel_rfl)
theorem Ql:tab HD=some p9:=aj ae (k:=6) (by kernel_rfl)
theorem FF:tab vX=some ij:=aj ae (k:=7) (by kernel_rfl)
theorem SB:tab Ng=some sE:=aj ae (k:=8) (by kernel_rfl)
theorem Vu:tab Qd=some vd:=aj ae (k:=9) (by kernel_rfl)
theorem TE:tab Mi=some sR:=aj ae (k:=10) (by kernel_rfl)
theorem Ww:tab Ua=some ze:=aj ae (k:=11) (by kernel_rfl)
theorem LV:tab A6=some lP:=aj ae (k:=12) (by kernel_rfl)
theorem Ha:tab wO=some gY:=aj ae (k:=13) (by kernel_rfl)
theorem nS:tab fZ=some bn:=aj ae (k:=14) (by kernel_rfl)
theorem rU:tab jh=some bI:=aj ae (k:=15) (by kernel_rfl)
theorem F3:tab v5=some gT:=aj ae (k:=16) (by kernel_rfl)
theorem SR:tab My=some rZ:=aj ae (k:=17) (by kernel_rfl)
theorem II:tab yp=some jM:=aj ae (k:=18) (by kernel_rfl)
theorem NB:tab AI=some la:=aj ae (k:=19) (by kernel_rfl)
theorem N1:tab DJ=some m8:=aj ae (k:=20) (by kernel_rfl)
theorem vR:tab mi=some cO:=aj ae (k:=21) (by kernel_rfl)
theorem zQ:tab rh=some dX:=aj ae (k:=22) (by kernel_rfl)
theorem I8:tab xP=some jQ:=aj ae (k:=23) (by kernel_rfl)
theorem FL:tab wA=some gV:=aj ae (k:=24) (by kernel_rfl)
theorem CH:tab kV=some fa:=aj ae (k:=25) (by kernel_rfl)
theorem qP:tab ix=some bB:=aj ae (k:=26) (by kernel_rfl)
theorem uf:tab lh=some cn:=aj ae (k:=27) (by kernel_rfl)
theorem C0:tab ug=some fT:=aj ae (k:=28) (by kernel_rfl)
theorem Jn:tab yd=some jC:=aj ae (k:=29) (by kernel_rfl)
theorem Oa:tab DH=some nv:=aj ae (k:=30) (by kernel_rfl)
theorem IJ:tab rz=some jH:=aj ae (k:=31) (by kernel_rfl)
theorem tj:tab kA=some bV:=aj ae (k:=32) (by kernel_rfl)
theorem OE:tab DC=some nr:=aj ae (k:=33) (by kernel_rfl)
theorem wu:tab yw=some jL:=aj ae (k:=34) (by kernel_rfl)
theorem O6:tab D1=some ng:=aj ae (k:=35) (by kernel_rfl)
theorem Qm:tab HF=some qj:=aj ae (k:=36) (by kernel_rfl)
theorem TW:tab Nh=some sk:=aj ae (k:=37) (by kernel_rfl)
theorem JR:tab y4=some jZ:=aj ae (k:=38) (by kernel_rfl)
theorem Is:tab xW=some jV:=aj ae (k:=39) (by kernel_rfl)
theorem QG:tab Hu=some qg:=aj ae (k:=40) (by kernel_rfl)
theorem zH:tab kq=some ec:=aj ae (k:=41) (by kernel_rfl)
theorem w7:tab nK=some di:=aj ae (k:=42) (by kernel_rfl)
theorem R8:tab MD=some se:=aj ae (k:=43) (by kernel_rfl)
theorem JA:tab yL=some j0:=aj ae (k:=44) (by kernel_rfl)
theorem BC:tab sT=some eI:=aj ae (k:=45) (by kernel_rfl)
theorem Jr:tab xU=some jK:=aj ae (k:=46) (by kernel_rfl)
theorem OP:tab Df=some m9:=aj ae (k:=47) (by kernel_rfl)
theorem yS:tab pQ=some dG:=aj ae (k:=48) (by kernel_rfl)
theorem UB:tab P4=some vG:=aj ae (k:=49) (by kernel_rfl)
theorem Jj:tab yN=some jA:=aj ae (k:=50) (by kernel_rfl)
theorem O0:tab EB=some nj:=aj ae (k:=51) (by kernel_rfl)
theorem Lt:tab AP=some kM:=aj ae (k:=52) (by kernel_rfl)
theorem DY:tab uz=some gd:=aj ae (k:=53) (by kernel_rfl)
theorem CU:tab sI=some pU:=aj ae (k:=54) (by kernel_rfl)
theorem Lf:tab AO=some kO:=aj ae (k:=55) (by kernel_rfl)
theorem Mu:tab AN=some lG:=aj ae (k:=56) (by kernel_rfl)
theorem Oi:tab EM=some m5:=aj ae (k:=57) (by kernel_rfl)
theorem M0:tab Av=some kQ:=aj ae (k:=58) (by kernel_rfl)
theorem Iy:tab x9=some jP:=aj ae (k:=59) (by kernel_rfl)
theorem rS:tab jc=some bJ:=aj ae (k:=60) (by kernel_rfl)
theorem vc:tab mg=some cI:=aj ae (k:=61) (by kernel_rfl)
theorem GV:tab oq=some hZ:=aj ae (k:=62) (by kernel_rfl)
theorem G0:tab oG=some iu:=aj ae (k:=63) (by kernel_rfl)
theorem NP:tab C5=some nf:=aj ae (k:=64) (by kernel_rfl)
theorem Jy:tab xN=some jD:=aj ae (k:=65) (by kernel_rfl)
theorem GQ:tab oH=some il:=aj ae (k:=66) (by kernel_rfl)
theorem Gi:tab nU=some ir:=aj ae (k:=67) (by kernel_rfl)
theorem M4:tab AD=some lX:=aj ae (k:=68) (by kernel_rfl)
theorem Hq:tab wc=some gM:=aj ae (k:=69) (by kernel_rfl)
theorem NS:tab Eh=some mY:=aj ae (k:=70) (by kernel_rfl)
theorem IF:tab q9=some jB:=aj ae (k:=71) (by kernel_rfl)
theorem Nx:tab ju=some lW:=aj ae (k:=72) (by kernel_rfl)
theorem IK:tab rp=some jE:=aj ae (k:=73) (by kernel_rfl)
theorem fH:tab qq=some nu:=aj ae (k:=74) (by kernel_rfl)
theorem lD:tab AX=some lM:=aj ae (k:=75) (by kernel_rfl)
theorem l9:tab nJ=some dh:=aj ae (k:=76) (by kernel_rfl)
theorem C2:tab uS=some fW:=aj ae (k:=77) (by kernel_rfl)
theorem DF:tab ux=some fY:=aj ae (k:=78) (by kernel_rfl)
theorem BF:tab sQ=some eO:=aj ae (k:=79) (by kernel_rfl)
theorem qM:tab k9=some eX:=aj ae (k:=80) (by kernel_rfl)
theorem jY:tab yb=some jR:=aj ae (k:=81) (by kernel_rfl)
theorem JP:tab yf=some jI:=aj ae (k:=82) (by kernel_rfl)
theorem JK:tab rj=some jU:=aj ae (k:=83) (by kernel_rfl)
theorem Oo:tab Eb=some nq:=aj ae (k:=84) (by kernel_rfl)
theorem Fp:tab wk=some gO:=aj ae (k:=85) (by kernel_rfl)
theorem GZ:tab wg=some gZ:=aj ae (k:=86) (by kernel_rfl)
theorem Gv:tab wI=some ib:=aj ae (k:=87) (by kernel_rfl)
theorem Ag:tab qW=some dW:=aj ae (k:=88) (by kernel_rfl)
theorem JC:tab xr=some jF:=aj ae (k:=89) (by kernel_rfl)
theorem J1:tab yD=some jJ:=aj ae (k:=90) (by kernel_rfl)
theorem DV:tab uv=some ga:=aj ae (k:=91) (by kernel_rfl)
theorem RF:tab yT=some qe:=aj ae (k:=92) (by kernel_rfl)
theorem EA:tab uD=some fQ:=aj ae (k:=93) (by kernel_rfl)
theorem Mt:tab AY=some kZ:=aj ae (k:=94) (by kernel_rfl)
theorem Jw:tab xT=some jT:=aj ae (k:=95) (by kernel_rfl)
theorem Ta:tab LZ=some sA:=aj ae (k:=96) (by kernel_rfl)
theorem SI:tab Kq=some sC:=aj ae (k:=97) (by kernel_rfl)
theorem Us:tab PL=some uT:=aj ae (k:=98) (by kernel_rfl)
theorem UG:tab Qa=some uY:=aj ae (k:=99) (by kernel_rfl)
theorem U5:tab Qg=some vK:=aj ae (k:=100) (by kernel_rfl)
theorem Vj:tab P0=some vx:=aj ae (k:=101) (by kernel_rfl)
theorem VG:tab Pl=some vz:=aj ae (k:=102) (by kernel_rfl)
theorem VI:tab PA=some vb:=aj ae (k:=103) (by kernel_rfl)
theorem Ie:tab Nl=some sJ:=aj ae (k:=104) (by kernel_rfl)
theorem RL:tab HC=some qf:=aj ae (k:=105) (by kernel_rfl)
theorem NN:tab ES=some m3:=aj ae (k:=106) (by kernel_rfl)
theorem QF:tab nG=some qo:=aj ae (k:=107) (by kernel_rfl)
theorem S4:tab K1=some rX:=aj ae (k:=108) (by kernel_rfl)
theorem Pb:tab EY=some nz:=aj ae (k:=109) (by kernel_rfl)
theorem NU:tab Du=some nA:=aj ae (k:=110) (by kernel_rfl)
theorem Hb:tab ou=some hH:=aj ae (k:=111) (by kernel_rfl)
theorem OM:tab CS=some na:=aj ae (k:=112) (by kernel_rfl)
theorem Ov:tab D7=some ni:=aj ae (k:=113) (by kernel_rfl)
theorem RI:tab Ic=some pS:=aj ae (k:=114) (by kernel_rfl)
theorem Pg:tab EH=some nw:=aj ae (k:=115) (by kernel_rfl)
theorem Ey:tab mW=some fV:=aj ae (k:=116) (by kernel_rfl)
theorem Kt:tab AU=some kR:=aj ae (k:=117) (by kernel_rfl)
theorem OC:tab E2=some nC:=aj ae (k:=118) (by kernel_rfl)
theorem caps:∀f cs,aa aa9 f=some cs→(D4 cs.args cs.res=none→aa aq f=some ⟨cs.args++cs.caps,cs.res,.dat⟩)∧∀ys,D4 cs.args cs.res=some ys→nM pcN f=false∧Mn Tryz.prog f=true:=Sv (l:=aa9) (sig:=aq) (P:=Tryz.prog) (pcs:=pcN) (by kernel_rfl)
theorem clos:ClosOK ctx:=⟨(fun f cs h=>(caps f cs h).1),fun f s h=>Pv (l:=aq) (P:=Tryz.prog) (by kernel_rfl) f s h⟩
theorem its:∀f cs ys,ctx.cap f=some cs→D4 cs.args cs.res=some ys→tab f=none∧∃fn,ctx.P.funcs[f]?=some fn∧fn.body.isSome=true∧(fn.name== "runtime.NumGoroutine")=false:=fun f cs ys h hi=>⟨Ml (l:=pcL) (by rw[XU];exact((caps f cs h).2 ys hi).1),XS ((caps f cs h).2 ys hi).2⟩
theorem af5:∀f pc,tab f=some pc→∃fn s ids fr nh,ctx.P.funcs[f]?=some fn∧ctx.sig f=some s∧av {ctx with fr:=fr,nh:=nh} fn s ids=some pc:=
 Ll (R:=fun f pc=>∃fn s ids fr nh,ctx.P.funcs[f]?=some fn∧ctx.sig f=some s∧av {ctx with fr:=fr,nh:=nh} fn s ids=some pc) (l:=pcL)
  (ab ⟨Tryz.f4,(aa aq 4).getD default,[6,8,14,77838,53,78,17,19],[12,13,15,16,18,20],[],Tryz.func4,rfl,zJ⟩
  (ab ⟨Tryz.f15,(aa aq 15).getD default,[1,2,4],[0,3,5,7],[],Tryz.func15,rfl,Jm⟩
  (ab ⟨Tryz.f58,(aa aq 58).getD default,[0,1,2,12290,16386,16,3,24579,28675,32771,4,65540,69636,73732,77828],[],[],Tryz.func58,rfl,EU⟩
  (ab ⟨Tryz.f122,(aa aq 122).getD default,[2,12290],[],[],Tryz.func122,rfl,BZ⟩
  (ab ⟨Tryz.f17,(aa aq 17).getD default,[5,7,10,12],[11],[],Tryz.func17,rfl,Dx⟩
  (ab ⟨Tryz.f61,(aa aq 61).getD default,[4,6,8,9],[],[],Tryz.func61,rfl,JN⟩
  (ab ⟨Tryz.f26,(aa aq 26).getD default,[2,4,5,65541,69637,73733,77829,7,31,9,49,11,13],[],[],Tryz.func26,rfl,J3⟩
  (ab ⟨Tryz.f72,(aa aq 72).getD default,[],[4],[],Tryz.func72,rfl,zY⟩
  (ab ⟨Tryz.f38,(aa aq 38).getD default,[5,8,77832,10],[],[],Tryz.func38,rfl,Mr⟩
  (ab ⟨Tryz.f36,(aa aq 36).getD default,[4,7,8,9],[10],[],Tryz.func36,rfl,Ol⟩
  (ab ⟨Tryz.f95,(aa aq 95).getD default,[4,7,8,10,16394],[9,11,12,13,14],[],Tryz.func95,rfl,Ks⟩
  (ab ⟨Tryz.f100,(aa aq 100).getD default,[2,3,4],[5],[],Tryz.func100,rfl,RQ⟩
  (ab ⟨Tryz.f52,(aa aq 52).getD default,[2,3,5,6,8,10,90,139],[4,7,9,11,12,13,14,15,16],[],Tryz.func52,rfl,Ei⟩
  (ab ⟨Tryz.f110,(aa aq 110).getD default,[2],[3],[],Tryz.func110,rfl,z8⟩
  (ab ⟨Tryz.f109,(aa aq 109).getD default,[],[4],[],Tryz.func109,rfl,l7⟩
  (ab ⟨Tryz.f183,(aa aq 183).getD default,[],[4,5],[],Tryz.func183,rfl,pg⟩
  (ab ⟨Tryz.f53,(aa aq 53).getD default,[2],[4],[],Tryz.func53,rfl,zX⟩
  (ab ⟨Tryz.f113,(aa aq 113).getD default,[],[4],[],Tryz.func113,rfl,L1⟩
  (ab ⟨Tryz.f111,(aa aq 111).getD default,[2],[],[],Tryz.func111,rfl,Be⟩
  (ab ⟨Tryz.f112,(aa aq 112).getD default,[3,6,8],[],[],Tryz.func112,rfl,Dy⟩
  (ab ⟨Tryz.f119,(aa aq 119).getD default,[],[2,3,4,11],[],Tryz.func119,rfl,Fb⟩
  (ab ⟨Tryz.f116,(aa aq 116).getD default,[],[4],[],Tryz.func116,rfl,rR⟩
  (ab ⟨Tryz.f186,(aa aq 186).getD default,[],[4,5],[],Tryz.func186,rfl,vC⟩
  (ab ⟨Tryz.f54,(aa aq 54).getD default,[4,10,53],[8,9,11,12,13,14,55,70],[],Tryz.func54,rfl,Bi⟩
  (ab ⟨Tryz.f114,(aa aq 114).getD default,[4,9],[8],[],Tryz.func114,rfl,zM⟩
  (ab ⟨Tryz.f185,(aa aq 185).getD default,[],[3],[],Tryz.func185,rfl,wU⟩
  (ab ⟨Tryz.f184,(aa aq 184).getD default,[],[4],[],Tryz.func184,rfl,nI⟩
  (ab ⟨Tryz.f220,(aa aq 220).getD default,[],[4,5],[],Tryz.func220,rfl,qJ⟩
  (ab ⟨Tryz.f115,(aa aq 115).getD default,[4,11],[8,9],[],Tryz.func115,rfl,xB⟩
  (ab ⟨Tryz.f55,(aa aq 55).getD default,[3,6,8,10],[7,9,11,12],[],Tryz.func55,rfl,Bm⟩
  (ab ⟨Tryz.f117,(aa aq 117).getD default,[2,3,4,12292,9],[5,6,7,8,10,11],[],Tryz.func117,rfl,Fj⟩
  (ab ⟨Tryz.f188,(aa aq 188).getD default,[2],[3],[],Tryz.func188,rfl,Cz⟩
  (ab ⟨Tryz.f187,(aa aq 187).getD default,[],[4,5],[],Tryz.func187,rfl,p7⟩
  (ab ⟨Tryz.f189,(aa aq 189).getD default,[1],[2,3],[],Tryz.func189,rfl,Fq⟩
  (ab ⟨Tryz.f221,(aa aq 221).getD default,[2,7,12295],[4,5],[],Tryz.func221,rfl,By⟩
  (ab ⟨Tryz.f222,(aa aq 222).getD default,[1,4,6,12294,9],[2,3,5,7,8,38,47,10,11,12],[],Tryz.func222,rfl,Fs⟩
  (ab ⟨Tryz.f245,(aa aq 245).getD default,[1],[2,3,12,20,4,5],[],Tryz.func245,rfl,Jh⟩
  (ab ⟨Tryz.f249,(aa aq 249).getD default,[],[2],[],Tryz.func249,rfl,Mg⟩
  (ab ⟨Tryz.f247,(aa aq 247).getD default,[],[2,3,4,11],[],Tryz.func247,rfl,B2⟩
  (ab ⟨Tryz.f246,(aa aq 246).getD default,[2],[4,8,13,17,21],[],Tryz.func246,rfl,A8⟩
  (ab ⟨Tryz.f118,(aa aq 118).getD default,[2,4,7],[5,6,8],[],Tryz.func118,rfl,IP⟩
  (ab ⟨Tryz.f190,(aa aq 190).getD default,[2,3,4,6,33,7,8,10,12298,12],[5,15,21,9,11],[],Tryz.func190,rfl,vn⟩
  (ab ⟨Tryz.f223,(aa aq 223).getD default,[2,4],[5,6],[],Tryz.func223,rfl,tN⟩
  (ab ⟨Tryz.f248,(aa aq 248).getD default,[2],[],[],Tryz.func248,rfl,Mf⟩
  (ab ⟨Tryz.f224,(aa aq 224).getD default,[4,5],[9,22,41,6,7,82,88,94],[],Tryz.func224,rfl,Bw⟩
  (ab ⟨Tryz.f250,(aa aq 250).getD default,[],[6,8,14,20,25],[],Tryz.func250,rfl,xb⟩
  (ab ⟨Tryz.f278,(aa aq 278).getD default,[],[4,5,6,7],[],Tryz.func278,rfl,Cn⟩
  (ab ⟨Tryz.f285,(aa aq 285).getD default,[],[4,5,6,7,8,9,10,11,12,13],[],Tryz.func285,rfl,F7⟩
  (ab ⟨Tryz.f225,(aa aq 225).getD default,[6],[2,3,5,8],[],Tryz.func225,rfl,uO⟩
  (ab ⟨Tryz.f41,(aa aq 41).getD default,[1],[2,3,7,12],[],Tryz.func41,rfl,OT⟩
  (ab ⟨Tryz.f50,(aa aq 50).getD default,[4,6],[8,9,10,11],[],Tryz.func50,rfl,CG⟩
  (ab ⟨Tryz.f43,(aa aq 43).getD default,[1],[2],[],Tryz.func43,rfl,Hi⟩
  (ab ⟨Tryz.f106,(aa aq 106).getD default,[1,3,6,8],[2,4],[],Tryz.func106,rfl,EO⟩
  (ab ⟨Tryz.f178,(aa aq 178).getD default,[],[2,3,4],[],Tryz.func178,rfl,xG⟩
  (ab ⟨Tryz.f105,(aa aq 105).getD default,[4,5,10],[8,9,15,39,58,74,11,12],[],Tryz.func105,rfl,IA⟩
  (ab ⟨Tryz.f75,(aa aq 75).getD default,[1,9],[2,3,4,5,6,7,10,11,12],[],Tryz.func75,rfl,CN⟩
  (ab ⟨Tryz.f145,(aa aq 145).getD default,[1,2,3,4,6,16390,20486,24582,21,8,34,10,12298,16394,47],[],[],Tryz.func145,rfl,Dz⟩
  (ab ⟨Tryz.f146,(aa aq 146).getD default,[],[6,7,8],[],Tryz.func146,rfl,Gx⟩
  (ab ⟨Tryz.f200,(aa aq 200).getD default,[],[4],[],Tryz.func200,rfl,Eo⟩
  (ab ⟨Tryz.f230,(aa aq 230).getD default,[],[2,3,4,5],[],Tryz.func230,rfl,Cq⟩
  (ab ⟨Tryz.f231,(aa aq 231).getD default,[],[4],[],Tryz.func231,rfl,pw⟩
  (ab ⟨Tryz.f253,(aa aq 253).getD default,[],[4,5],[],Tryz.func253,rfl,rN⟩
  (ab ⟨Tryz.f147,(aa aq 147).getD default,[],[2],[],Tryz.func147,rfl,Ak⟩
  (ab ⟨Tryz.f148,(aa aq 148).getD default,[],[3],[],Tryz.func148,rfl,z7⟩
  (ab ⟨Tryz.f149,(aa aq 149).getD default,[2,3],[4,6],[],Tryz.func149,rfl,FN⟩
  (ab ⟨Tryz.f201,(aa aq 201).getD default,[],[6,7,8],[],Tryz.func201,rfl,Cy⟩
  (ab ⟨Tryz.f150,(aa aq 150).getD default,[],[3],[],Tryz.func150,rfl,zS⟩
  (ab ⟨Tryz.f151,(aa aq 151).getD default,[],[3],[],Tryz.func151,rfl,Ab⟩
  (ab ⟨Tryz.f152,(aa aq 152).getD default,[1,3,4,6,19,8,16392,36],[2],[],Tryz.func152,rfl,DQ⟩
  (ab ⟨Tryz.f153,(aa aq 153).getD default,[1,4,6],[2,3],[],Tryz.func153,rfl,Aj⟩
  (ab ⟨Tryz.f154,(aa aq 154).getD default,[1,4,6],[2],[],Tryz.func154,rfl,Fh⟩
  (ab ⟨Tryz.f173,(aa aq 173).getD default,[2],[4],[],Tryz.func173,rfl,BK⟩
  (ab ⟨Tryz.f174,(aa aq 174).getD default,[],[2],[],Tryz.func174,rfl,DP⟩
  (ab ⟨Tryz.f175,(aa aq 175).getD default,[1],[2],[],Tryz.func175,rfl,B7⟩
  (ab ⟨Tryz.f176,(aa aq 176).getD default,[3,4],[6,7,13,16,24,33,8,9],[],Tryz.func176,rfl,Fx⟩
  (ab ⟨Tryz.f215,(aa aq 215).getD default,[3],[4,5],[],Tryz.func215,rfl,Dt⟩
  (ab ⟨Tryz.f239,(aa aq 239).getD default,[],[4,5,6,7,8,9],[],Tryz.func239,rfl,tp⟩
  (ab ⟨Tryz.f120,(aa aq 120).getD default,[],[2],[],Tryz.func120,rfl,xS⟩
  (ab ⟨Tryz.f191,(aa aq 191).getD default,[],[2,3,4,5,6,7,8,9],[],Tryz.func191,rfl,y3⟩
  (ab ⟨Tryz.f273,(aa aq 273).getD default,[],[4],[],Tryz.func273,rfl,wW⟩
  (ab ⟨Tryz.f284,(aa aq 284).getD default,[],[6,0,1],[],Tryz.func284,rfl,wV⟩
  (ab ⟨Tryz.f272,(aa aq 272).getD default,[],[6,7,8],[],Tryz.func272,rfl,Bk⟩
  (ab ⟨Tryz.f161,(aa aq 161).getD default,[3,9],[6,7],[],Tryz.func161,rfl,BG⟩
  (ab ⟨Tryz.f177,(aa aq 177).getD default,[3],[6,7,8,2,9,10],[],Tryz.func177,rfl,Cr⟩
  (ab ⟨Tryz.f216,(aa aq 216).getD default,[3,9],[6,7,2],[],Tryz.func216,rfl,Gf⟩
  (ab ⟨Tryz.f217,(aa aq 217).getD default,[2,4,5],[6],[],Tryz.func217,rfl,zG⟩
  (ab ⟨Tryz.f240,(aa aq 240).getD default,[3,4,5],[6],[],Tryz.func240,rfl,zW⟩
  (ab ⟨Tryz.f121,(aa aq 121).getD default,[2],[4,5,6,7],[],Tryz.func121,rfl,Ap⟩
  (ab ⟨Tryz.f62,(aa aq 62).getD default,[2,4,5,6],[],[],Tryz.func62,rfl,vh⟩
  (ab ⟨Tryz.f131,(aa aq 131).getD default,[3],[6],[],Tryz.func131,rfl,Bx⟩
  (ab ⟨Tryz.f196,(aa aq 196).getD default,[2,5,7],[4],[],Tryz.func196,rfl,Cp⟩
  (ab ⟨Tryz.f132,(aa aq 132).getD default,[3,7],[6],[],Tryz.func132,rfl,yt⟩
  (ab ⟨Tryz.f65,(aa aq 65).getD default,[],[2,3,5,12,15],[],Tryz.func65,rfl,J0⟩
  (ab ⟨Tryz.f133,(aa aq 133).getD default,[2,9],[4,5,6,7,10,50,54],[],Tryz.func133,rfl,yq⟩
  (ab ⟨Tryz.f197,(aa aq 197).getD default,[2,7],[4,5],[],Tryz.func197,rfl,EG⟩
  (ab ⟨Tryz.f20,(aa aq 20).getD default,[4,6,9,10,28],[8,11],[],Tryz.func20,rfl,Cu⟩
  (ab ⟨Tryz.f19,(aa aq 19).getD default,[],[4,5],[],Tryz.func19,rfl,KF⟩
  (ab ⟨Tryz.f22,(aa aq 22).getD default,[],[4],[],Tryz.func22,rfl,K7⟩
  (ab ⟨Tryz.f16,(aa aq 16).getD default,[2,3],[4],[],Tryz.func16,rfl,OJ⟩
  (ab ⟨Tryz.f59,(aa aq 59).getD default,[2,3],[4,5],[],Tryz.func59,rfl,OB⟩
  (ab ⟨Tryz.f123,(aa aq 123).getD default,[1],[2,3,4],[],Tryz.func123,rfl,Of⟩
  (ab ⟨Tryz.f124,(aa aq 124).getD default,[1],[2],[],Tryz.func124,rfl,NK⟩
  (ab ⟨Tryz.f125,(aa aq 125).getD default,[1],[2,3],[],Tryz.func125,rfl,NL⟩
  (ab ⟨Tryz.f192,(aa aq 192).getD default,[1],[2],[],Tryz.func192,rfl,N5⟩
  (ab ⟨Tryz.f226,(aa aq 226).getD default,[3],[6,1,7],[],Tryz.func226,rfl,M5⟩
  (ab ⟨Tryz.f60,(aa aq 60).getD default,[1],[2,3],[],Tryz.func60,rfl,I4⟩
  (ab ⟨Tryz.f126,(aa aq 126).getD default,[1,5,44],[2,3,4,6,7],[],Tryz.func126,rfl,FE⟩
  (ab ⟨Tryz.f193,(aa aq 193).getD default,[],[4],[],Tryz.func193,rfl,Jt⟩
  (ab ⟨Tryz.f227,(aa aq 227).getD default,[],[2,3,4],[],Tryz.func227,rfl,Nd⟩
  (ab ⟨Tryz.f252,(aa aq 252).getD default,[],[2],[],Tryz.func252,rfl,GG⟩
  (ab ⟨Tryz.f228,(aa aq 228).getD default,[],[6,7],[],Tryz.func228,rfl,G2⟩
  (ab ⟨Tryz.f194,(aa aq 194).getD default,[2,3],[4,5],[],Tryz.func194,rfl,At⟩
  (ab ⟨Tryz.f68,(aa aq 68).getD default,[],[6],[],Tryz.func68,rfl,Fu⟩
  (ab ⟨Tryz.f229,(aa aq 229).getD default,[],[6,7],[],Tryz.func229,rfl,Fe⟩
  (ab ⟨Tryz.f127,(aa aq 127).getD default,[1,4,44],[2,3,5,6],[],Tryz.func127,rfl,IY⟩
  (ab ⟨Tryz.f128,(aa aq 128).getD default,[1,3,24],[2,4,5],[],Tryz.func128,rfl,Gl⟩
  (ab ⟨Tryz.f195,(aa aq 195).getD default,[1],[2,3,4],[],Tryz.func195,rfl,xQ⟩
  (ab ⟨Tryz.f129,(aa aq 129).getD default,[1,4],[2,3,5],[],Tryz.func129,rfl,Dk⟩
  (ab ⟨Tryz.f130,(aa aq 130).getD default,[1,4,6],[2,3,5],[],Tryz.func130,rfl,FU⟩
  (ab ⟨Tryz.f5,(aa aq 5).getD default,[5,7,12],[10,11,13,14,15,16],[],Tryz.func5,rfl,Ac⟩
  (ab ⟨Tryz.f24,(aa aq 24).getD default,[2,3],[4,5,6,7,8,9,10],[],Tryz.func24,rfl,JW⟩
  (ab ⟨Tryz.f66,(aa aq 66).getD default,[2,3],[4,5,6,7,8,9],[],Tryz.func66,rfl,JT⟩
  (ab ⟨Tryz.f138,(aa aq 138).getD default,[],[4],[],Tryz.func138,rfl,Rn⟩
  (ab ⟨Tryz.f139,(aa aq 139).getD default,[],[4],[],Tryz.func139,rfl,Mp⟩
  (ab ⟨Tryz.f140,(aa aq 140).getD default,[],[2],[],Tryz.func140,rfl,J4⟩
  (ab ⟨Tryz.f141,(aa aq 141).getD default,[1,3],[2],[],Tryz.func141,rfl,IM⟩
  (ab ⟨Tryz.f142,(aa aq 142).getD default,[3],[6,7,8],[],Tryz.func142,rfl,G8⟩
  (ab ⟨Tryz.f67,(aa aq 67).getD default,[3,4,7],[6,8],[],Tryz.func67,rfl,ID⟩
  (ab ⟨Tryz.f143,(aa aq 143).getD default,[3,4,7],[6,8,21,71,101,9,10,146,179],[],Tryz.func143,rfl,Mj⟩
  (ab ⟨Tryz.f198,(aa aq 198).getD default,[2],[4,5],[],Tryz.func198,rfl,I6⟩
  (ab ⟨Tryz.f199,(aa aq 199).getD default,[3],[6],[],Tryz.func199,rfl,Q4⟩
  (ab ⟨Tryz.f69,(aa aq 69).getD default,[3,4,7],[6],[],Tryz.func69,rfl,KZ⟩
  (ab ⟨Tryz.f144,(aa aq 144).getD default,[3,4,5],[6,7,8,9,10,56,76,93,114,133,151],[],Tryz.func144,rfl,Jf⟩
  (ab ⟨Tryz.f70,(aa aq 70).getD default,[2,5,6],[4],[],Tryz.func70,rfl,Js⟩
  (ab ⟨Tryz.f25,(aa aq 25).getD default,[2,77826,3,4,5,7,9],[6,8],[],Tryz.func25,rfl,L5⟩
  (ab ⟨Tryz.f71,(aa aq 71).getD default,[3,6],[7],[],Tryz.func71,rfl,MM⟩
  (ab ⟨Tryz.f6,(aa aq 6).getD default,[6,8,14,16,73744,21],[12,13,15,17,18,19,20],[],Tryz.func6,rfl,w6⟩
  trivial)))))))))))))))))))))))))))))))))))))))))))))))))))))))))))))))))))))))))))))))))))))))))))))))))))))))))))))))))))))))))))))))))))))))))
end Rm
set_option linter.unusedSimpArgs false
set_option linter.unusedVariables false
namespace Rm
open Go Go.Proofs Cx Go.RowKit Go.Lib
theorem ade:(Tryz.prog.info? 3).map (fun i=>(i.zero,i.size,i.bytes))=some (some (.int .i64 0),1,8):=by kernel_rfl
set_option maxHeartbeats 2000000 in
set_option maxRecDepth 100000 in
theorem Xi (w:World):Calls Tryz.prog 251 #[.slice none 0 0,.int .i64 0] w fun e w'=>e=.returned (.slice none 0 0)∧w'=w:=by
 go_enter Tryz.func251,Tryz.ntmps251
 go_wp2
 go_ret
 exact⟨rfl,rfl⟩
set_option maxHeartbeats 2000000 in
set_option maxRecDepth 100000 in
theorem YS (n:Nat) (w:World) (h0:0<n) (h1:n≤4294967296):Calls Tryz.prog 251 #[.slice none 0 0,.int .i64 n] w fun e w'=>
 ∃v',e=.returned v'∧w'.ownsRow w.heap.size 3 1 v' 0 []∧Below w.heap.size w w':=by
 obtain⟨i0,hi,hz0,hz1,hz2⟩:=info_parts ade
 have hr:=run_append_nil_zeros w 68 3 68 3 i0 (.int .i64 0) .i64 .i64 Tryz.underlying68 Tryz.underlying3 hi hz0 n h0 (by rw[hz1];decide) (by omega) (by rw[hz2];omega)
 have hn:¬((n:Int)<0):=by omega
 have hn2:(n:Int)>0:=by omega
 have hw:IntKind.i64.wrap (n:Int)=n:=by rw[IntKind.wrap_i64];omega
 have hw0:IntKind.i64.wrap 0=0:=by decide
 have hge:=grownCap_ge w n 0 3
 have hle:=grownCap_le_maxLen w n 0 3 (by unfold maxLen;omega)
 have hs:(Builtin.zeroCells #[Value.int IntKind.i64 0] n++Builtin.zeroCells #[Value.int IntKind.i64 0] (grownCap w n 0 3-n)).size=grownCap w n 0 3*1:=by
  rw[Array.size_append,size_zeroCells,size_zeroCells];simp;omega
 go_enter Tryz.func251,Tryz.ntmps251
 go_wp2_with (at_builtin;refine wpList_append_run _ rfl _ _ 68 3 rfl _ _ rfl rfl _ _ hr ?qc)
 go_ret
 refine⟨_,rfl,?_,?_⟩
 ·exact World.ownsRow.drew (World.ownsRow_made w _ _ (Nat.le_refl _) hle hs)
 ·exact((Below.refl _ w).alloc (Nat.le_refl _) _).drew
def Wm (ds:List D):Option D:=
 match ds with
 |[.list [],.v (.int .i64 n)]=>if 0≤n∧n≤4294967296 then some (.list []) else none
 |_=>none
theorem Z4 (ds:List D) (d:D) (h:Wm ds=some d):∃s,ctx.sig 251=some s∧Zr ctx 251 s ds d:=by
 refine⟨_,rfl,fun _=>?_,fun shs obs hm=>by cases hm⟩
 unfold Wm at h
 split at h
 case h_2=>cases h
 rename_i n
 split at h
 case isFalse=>cases h
 rename_i hn
 cases h
 obtain⟨k,rfl⟩:=Int.eq_ofNat_of_zero_le hn.1
 intro σ w args hok hC ha
 obtain⟨a1,a2,a3⟩:=ha
 have h0:=a3 0 _ rfl
 have h1:=a3 1 _ rfl
 obtain⟨u,v,rfl⟩:∃u v,args=#[u,v]:=by
  have:args.size=2:=by simpa using a1
  match args,this with
  |⟨[u,v]⟩,_=>exact⟨u,v,rfl⟩
 simp only[List.getD_cons_zero,List.getD_cons_succ] at h0 h1
 change Rep ctx.cap σ (.nils .bool) u (.list []) at h0
 change Rep ctx.cap σ (.int .i64) v (.v (.int .i64 k)) at h1
 have hu:u=.slice none 0 0:=by cases h0;rfl
 have hv:v=.int .i64 k:=by cases h1;rfl
 subst hu hv
 by_cases hk:k=0
 ·subst hk
  refine(Xi w).mono fun e w' hh=>?_
  obtain⟨rfl,rfl⟩:=hh
  refine⟨_,σ,rfl,.refl σ,hok,.refl _ _,fun _ _ _ h=>.inl h,fun _ _ h=>.inl h,?_⟩
  exact⟨[],[],rfl,⟨by simp,.inl ⟨rfl,rfl⟩⟩,⟨fun _=>undef,fun i x hx=>by simp at hx,fun i j u hi=>by simp at hi⟩,fun k hk=>by cases hk⟩
 ·refine(YS k w (by omega) (by omega)).mono fun e w' hh=>?_
  obtain⟨v',rfl,hown,hb⟩:=hh
  refine⟨v',σ,rfl,.refl σ,hok.below hb,hb,fun _ _ _ h=>.inl h,fun _ _ h=>.inl h,?_⟩
  refine⟨[],[],rfl,hown,⟨fun _=>undef,fun i x hx=>by simp at hx,fun i j u hi=>by simp at hi⟩,fun k hk=>?_⟩
  have hk':=(hown.lt k hk).1
  refine⟨fun o=>?_,?_⟩
  ·cases hc:σ.c k o with
   |none=>rfl
   |some u=>have:=World.block_lt_of_cell? w (a:=⟨k,o,none⟩) (hok.c _ _ _ hc);simp at this;omega
  ·cases hc:σ.m k with
   |none=>rfl
   |some u=>rcases hok.m _ _ hc with⟨arr,clock,x,g1,_⟩|⟨_,g1⟩<;>(have:=(Array.getElem?_eq_some_iff.1 g1).1;omega)
def nP (day:Int):Int×Int×Int:=
 let n:=day+730425
 let e:=n/146097
 let r:=n%146097
 let y:=(r-r/1460+r/36524-r/146096)/365
 let r:=r-(365*y+y/4-y/100)
 let m:=(5*r+2)/153
 let dom:=r-(153*m+2)/5+1
 let month:=if 12<m+3 then m+3-12 else m+3
 (if month<3 then y+400*e+1 else y+400*e,month,dom)
def Ni (rest feasts shut:List Int) (day:Int):Bool:=
 !rest.contains ((day+5)%7)&&(!feasts.contains (100*(nP day).2.1+(nP day).2.2)&& !shut.contains day)
def aaG (rest feasts shut:List Int) (a b:Int):List Int:=((List.range (b-a+1).toNat).map fun(k:Nat)=>a+k).filter (Ni rest feasts shut)
def Bh (d:D):List Int:=d.l.map D.i
def aav (ds:List D):List D:=
 let c:=(ds.getD 2 .none).deref
 (aaG (Bh (c.c 3)) (Bh (c.c 4)) (Bh (c.c 5)) (ds.getD 0 .none).deref.i (ds.getD 1 .none).deref.i).map fun d=>.tup [.int d]
def atS (r:D) (city:Int):Int:=if 0≤city∧city<(r.c 1).l.length then(((r.c 1).l.getD city.toNat .none).c 1).i else-1
def Rc (ds:List D):D:=
 let r:=ds.getD 0 .none
 let forum:=(ds.getD 1 .none).i
 let c:=ds.getD 2 .none
 let s:=(c.c 15).l.getD (c.c 19).i.toNat .none
 let who:=(s.c 2).i
 if who<0∨(r.c 3).l.length≤who∨forum<0∨(r.c 4).l.length≤forum then .list [] else
 let out:=[forum,atS r (s.c 7).i,atS r (c.c 10).i,atS r (c.c 9).i,atS r (((r.c 3).l.getD who.toNat .none).c 1).i]
 if(-1)∈out then .list [] else ints out
noncomputable def ada:List (Nat×(aK→List D→Option D)):=[(251,fun _ ds=>Wm ds),(101,WD py pz Rc),(274,itG da 1000 1 aav)]
noncomputable def ext:Nat→Option (aK→List D→Option D):=aa ada
theorem adx:TabOK ctx tab ext:=by
 refine⟨clos,its,fun f pc _ h=>af5 f pc h,fun f g hg Φ hΦ hIt ds d h=>?_⟩
 have:=Ll (R:=fun f (g:aK→List D→Option D)=>∀Φ,FunsOK ctx Φ→ItsOK ctx Φ→∀ds d,g Φ ds=some d→(∀s,ctx.sig f=some s→Zr ctx f s ds d)∧
  ∀cs ys,ctx.cap f=some cs→D4 cs.args cs.res=some ys→∃xs,d=.list xs∧(∀x,x∈xs→∃ds',x=.tup ds'∧ds'.length=ys.length)∧ItOK ctx f cs.caps ys ds xs) (l:=ada)
  ⟨fun Φ hΦ hIt ds d h=>⟨fun s hs=>by obtain⟨s',h1,h2⟩:=Z4 ds d h;rw[hs] at h1;cases h1;exact h2,fun cs ys hc hi=>by cases hc⟩,
   fun Φ hΦ hIt ds d h=>⟨fun s hs=>by cases hs;exact⟨fun _=>Z0 clos hΦ hIt Tryz.func101 BJ BY h,fun shs obs hm=>by cases hm⟩,fun cs ys hc hi=>by cases hc⟩,
   fun Φ hΦ hIt ds d h=>⟨fun s hs=>(by cases hs),fun cs ys hc hi=>by
    cases hc
    cases hi
    exact abB clos hΦ hIt Tryz.func274 Au h rfl⟩,trivial⟩ f g hg
 exact this Φ hΦ hIt ds d h
noncomputable abbrev T:bh:=Tab tab ext
theorem Runs.of_nsl {tab:Nat→Option PC} {ext:Nat→Option (aK→List D→Option D)} {f:Nat} {pa pb:PC} {spec:List D→D} {ds:List D} {ta tb:PT} (hx:ext f=some (WD pa pb spec)) (hta:tree pa=ta) (htb:tree pb=tb)
 (h:(∃xs,xs≠[]∧spec ds=.list xs∧aF (Tab tab ext) ta (Bc ds) (fun x=>x=.ret (.list xs)))∨(spec ds=.list []∧aF (Tab tab ext) tb (Bc ds) (fun x=>x=.ret (.list [])))):Runs (Tab tab ext) f ds (spec ds):=by
 refine Runs.of_ext hx ?_
 rcases h with⟨xs,h1,h2,h3⟩|⟨h2,h3⟩
 ·obtain⟨x,rfl,n0,hn⟩:=Kg (c:=pa) (hta▸h3)
  refine⟨n0,fun n hle=>?_⟩
  unfold WD
  rw[if_pos (.inl ⟨n,xs,hn n hle,h1,h2⟩)]
 ·obtain⟨x,rfl,n0,hn⟩:=Kg (c:=pb) (htb▸h3)
  refine⟨n0,fun n hle=>?_⟩
  unfold WD
  rw[if_pos (.inr ⟨n,hn n hle,h2⟩)]
end Rm
set_option linter.unusedSimpArgs false
set_option linter.unusedVariables false
namespace Rm
open Go Go.Proofs Cx
def lQ (n:Nat) (p:Nat→Bool):Bool:=(List.range n).all p
theorem zn {n:Nat} {p:Nat→Bool} (h:∀k,k<n→p k=true):lQ n p=true:=List.all_eq_true.2 fun k hk=>h k (List.mem_range.1 hk)
theorem Ms {n k:Nat} {p:Nat→Bool} (hk:k<n) (h:p k=false):lQ n p=false:=List.all_eq_false.2 ⟨k,List.mem_range.2 hk,by simp[h]⟩
theorem allB_iff {n:Nat} {p:Nat→Bool}:lQ n p=true↔∀k,k<n→p k=true:=⟨fun h k hk=>List.all_eq_true.1 h k (List.mem_range.2 hk),zn⟩
def ki (n:Nat) (f:Nat→Int):Int:=(((List.range n).map f).find? fun x=>x !=0).getD 0
theorem HU {n:Nat} {f:Nat→Int} (h:∀k,k<n→f k=0):ki n f=0:=by
 unfold ki
 rw[List.find?_eq_none.2]
 ·rfl
 ·intro x hx
  obtain⟨k,hk,rfl⟩:=List.mem_map.1 hx
  simp[h k (List.mem_range.1 hk)]
theorem Qi {n k:Nat} {f:Nat→Int} (hk:k<n) (hj:∀j,j<k→f j=0) (h:f k≠0):ki n f=f k:=by
 unfold ki
 have e:List.range n=List.range k++k::(List.range' (k+1) (n-k-1)):=by
  rw[List.range_eq_range',List.range_eq_range',←List.range'_succ];have:=List.range'_append_1 (s:=0) (m:=k) (n:=n-k-1+1);rw[Nat.zero_add] at this;rw[this];congr 1;omega
 rw[e,List.map_append,List.find?_append,List.find?_eq_none.2,Option.none_or,List.map_cons,List.find?_cons_of_pos (by simpa using h)]
 ·rfl
 ·intro x hx
  obtain⟨j,hjm,rfl⟩:=List.mem_map.1 hx
  simp[hj j (List.mem_range.1 hjm)]
theorem firstE_iff {n:Nat} {f:Nat→Int}:ki n f=0↔∀k,k<n→f k=0:=by
 refine⟨fun h k=>?_,HU⟩
 induction k using Nat.strongRecOn with
 |ind k ih=>
  intro hk
  refine Classical.byContradiction fun hne=>?_
  rw[Qi hk (fun j hj=>ih j hj (by omega)) hne] at h
  exact hne h
section
variable {T:bh} {id:Nat} {lrb lob lr lo:List Nat} {a:PC} {ρ:Env} {Q:Out→Prop}
theorem fS (N:Nat) (p:Nat→Bool) (str sto:Nat→List D) (h0:lr.map ρ.r=str 0∧lo.map ρ.o=sto 0)
 (step:∀k,k<N→p k=true→aF T (round id lrb lob lr lo a) (ρ.put lr (str k) lo (sto k)) (bS ρ id lrb lob lr lo (fun vr vo=>vr=str (k+1)∧vo=sto (k+1)) Q))
 (bad:∀k,k<N→p k=false→lQ N p=false→aF T (round id lrb lob lr lo a) (ρ.put lr (str k) lo (sto k)) (bS ρ id lrb lob lr lo (fun _ _=>False) Q))
 (last:lQ N p=true→aF T (round id lrb lob lr lo a) (ρ.put lr (str N) lo (sto N)) (bS ρ id lrb lob lr lo (fun _ _=>False) Q)):EvP T (.block id lrb lob (.loop lr lo a)) ρ Q:=
 .scan N (fun k=>p k=true) str sto h0 (fun k hk _ h=>step k hk h) (fun k hk _ h=>bad k hk (by simpa using h) (Ms hk (by simpa using h))) (fun h=>last (zn h))
theorem Hz (N:Nat) (f:Nat→Int) (str sto:Nat→List D) (h0:lr.map ρ.r=str 0∧lo.map ρ.o=sto 0)
 (step:∀k,k<N→f k=0→aF T (round id lrb lob lr lo a) (ρ.put lr (str k) lo (sto k)) (bS ρ id lrb lob lr lo (fun vr vo=>vr=str (k+1)∧vo=sto (k+1)) Q))
 (bad:∀k,k<N→f k≠0→ki N f=f k→aF T (round id lrb lob lr lo a) (ρ.put lr (str k) lo (sto k)) (bS ρ id lrb lob lr lo (fun _ _=>False) Q))
 (last:ki N f=0→aF T (round id lrb lob lr lo a) (ρ.put lr (str N) lo (sto N)) (bS ρ id lrb lob lr lo (fun _ _=>False) Q)):EvP T (.block id lrb lob (.loop lr lo a)) ρ Q:=
 .scan N (fun k=>f k=0) str sto h0 (fun k hk _ h=>step k hk h) (fun k hk hj h=>bad k hk h (Qi hk hj h)) (fun h=>last (HU h))
end
theorem au {k n:Nat} (h:k<n) (hn:n≤4294967296):IntKind.i64.wrap ((k:Int)+1)=(k:Int)+1:=aD (by omega)
theorem kr {k:Nat} (hn:k≤4294967296):IntKind.i64.wrap ((k:Int)-1)=(k:Int)-1:=aD (by omega)
def inB (i n:Int):Bool:=decide (0≤i)&&decide (i<n)
def wi (n a b:Int):Bool:=decide (a≤n)&&decide (n≤b)
theorem aC (i n:Int):Runs T My [.int i,.int n] (.bool (inB i n)):=by
 refine .of_tree rfl SR KM ?_
 simp[xL,inB]
 by_cases h:0≤i<;>simp[h]
theorem aI (i n:Int):Runs T vX [.int i,.int n] (.bool (inB i n)):=by
 refine .of_tree rfl FF zO ?_
 simp[mK,inB]
 by_cases h:0≤i<;>simp[h]
theorem ar (n a b:Int):Runs T CS [.int n,.int a,.int b] (.bool (wi n a b)):=by
 refine .of_tree rfl OM Hf ?_
 simp[tW,wi]
 by_cases h:a≤n<;>simp[h]
theorem idx_eq {α:Type} [DecidableEq α] {l:List α} {x z:α} {k:Nat} (hk:k<l.length) (hj:∀j,j<k→l.getD j z≠x) (h:¬l.getD k z≠x):x∈l∧l.findIdx (fun y=>decide (y=x))=k:=by
 have e:l[k]=x:=by simpa [hk] using h
 refine⟨e▸List.getElem_mem hk,(List.findIdx_eq hk).2 ⟨by simp[e],fun j hji=>?_⟩⟩
 have hjl:j<l.length:=by omega
 simpa [hjl] using hj j hji
theorem SH {α:Type} [DecidableEq α] {l:List α} {x z:α} (hj:∀j,j<l.length→l.getD j z≠x):¬x∈l:=fun hm=>by
 obtain⟨j,hjl,rfl⟩:=List.getElem_of_mem hm
 have:=hj j hjl
 simp[hjl] at this
def TG {α:Type} [DecidableEq α] (l:List α) (x:α):Int:=if x∈l then(l.findIdx (fun y=>decide (y=x)):Nat) else-1
def hasB {α:Type} [DecidableEq α] (l:List α) (x:α):Bool:=l.any fun y=>decide (y=x)
theorem hasB_iff {α:Type} [DecidableEq α] {l:List α} {x:α}:hasB l x=true↔x∈l:=by simp[hasB]
theorem hasB_not {α:Type} [DecidableEq α] {l:List α} {x:α}:hasB l x=false↔¬x∈l:=by rw[←hasB_iff];simp
theorem V5 {α:Type} [DecidableEq α] (l:List α) (x:α):decide (0≤TG l x)=hasB l x:=by
 unfold TG;by_cases h:x∈l
 ·rw[hasB_iff.2 h];simp[h]
 ·rw[hasB_not.2 h];simp[h]
@[simp] theorem afd (a b:ByteArray):cmS .eql a b=decide (a=b):=by
  simp only[cmS,ByteArray.toList_eq]
  by_cases h:a=b
  ·subst h;simp
  ·rw[decide_eq_false h,beq_eq_false_iff_ne]
   intro e
   have:a.data=b.data:=by rw[←Array.toList_inj];exact e
   exact h (by cases a;cases b;cases this;rfl)
@[simp] theorem adI (ρ:Env) (x i:PE):PE.ev ρ (.sidx x i)=.v (.int .u8 ((PE.ev ρ x).s.data.getD (PE.ev ρ i).i.toNat 0).toNat):=_root_.id rfl
@[simp] theorem afp (ρ:Env) (x i:PE):PE.ev ρ (.sok x i)=.v (.bool (decide (0≤(PE.ev ρ i).i∧(PE.ev ρ i).i<(PE.ev ρ x).s.size))):=_root_.id rfl
@[simp] theorem agC (a:ByteArray):(str a).s=a:=_root_.id rfl
theorem LI (l:List Int) (x:Int) (hl:l.length≤4294967296):Runs T rh [ints l,.int x] (.int (TG l x)):=by
 refine .of_tree rfl zQ vN ?_
 simp[iS]
 refine .scan l.length (fun k=>l.getD k 0≠x) (fun k=>[.int 0,.int k]) (fun _=>[]) ?_ (fun k hk hj ho=>?_) (fun k hk hj ho=>?_) (fun hj=>?_)
 ·simp
 ·have hw:=au hk hl
  simp[hk] at ho
  have ho':¬x=l[k]:=fun e=>ho e.symm
  simp[dQ,bL,hk,hw,ints,ho,ho']
 ·obtain⟨hm,he⟩:=idx_eq hk hj ho
  simp[hk] at ho
  simp[dQ,bL,hk,ints,ho,TG,hm,he]
 ·have:=SH hj
  simp[dQ,bL,TG,this,ints]
theorem cq (l:List Int) (x:Int) (hl:l.length≤4294967296):Runs T mi [ints l,.int x] (.bool (hasB l x)):=by
 refine .of_tree rfl vR rM ?_
 simp[eN]
 refine⟨_,LI l x hl,?_⟩
 have:=V5 l x
 simp at this ⊢
 exact this
theorem CQ (l:List ByteArray) (x:ByteArray) (hl:l.length≤4294967296):Runs T mg [strs l,str x] (.int (TG l x)):=by
 refine .of_tree rfl vc rT ?_
 simp[fe]
 refine .scan l.length (fun k=>l.getD k default≠x) (fun k=>[.int 0,.int k]) (fun _=>[]) ?_ (fun k hk hj ho=>?_) (fun k hk hj ho=>?_) (fun hj=>?_)
 ·simp
 ·have hw:=au hk hl
  simp[hk] at ho
  have ho':¬x=l[k]:=fun e=>ho e.symm
  simp[cF,bl,hk,hw,strs,ho,ho']
 ·obtain⟨hm,he⟩:=idx_eq hk hj ho
  simp[hk] at ho
  simp[cF,bl,hk,strs,ho,TG,hm,he]
 ·have:=SH hj
  simp[cF,bl,TG,this,strs]
theorem yi (l:List ByteArray) (x:ByteArray) (hl:l.length≤4294967296):Runs T jc [strs l,str x] (.bool (hasB l x)):=by
 refine .of_tree rfl rS oF ?_
 simp[dv]
 refine⟨_,CQ l x hl,?_⟩
 have:=V5 l x
 simp at this ⊢
 exact this
def wh (l:List Int) (a b:Int) (k:Nat):Bool:=wi (l.getD k 0) a b&&(k==0||decide (l.getD (k-1) 0<l.getD k 0))
def rising (l:List Int) (a b:Int):Bool:=lQ l.length (wh l a b)
theorem dC (l:List Int) (a b:Int) (hl:l.length≤4294967296):Runs T xN [ints l,.int a,.int b] (.bool (rising l a b)):=by
 refine .of_tree rfl Jy BI ?_
 simp[oL]
 refine fS l.length (wh l a b) (fun k=>[.bool false,.int k]) (fun _=>[]) ?_ (fun k hk ho=>?_) (fun k hk ho hb=>?_) (fun hj=>?_)
 ·simp
 ·have hw:=au hk hl
  simp[wh,wi,hk] at ho
  obtain⟨⟨h1,h2⟩,h3⟩:=ho
  have h1':¬l[k]<a:=by omega
  have h2':¬b<l[k]:=by omega
  by_cases hk0:0<k
  ·have hk1:k-1<l.length:=by omega
   have hw2:IntKind.i64.wrap ((k:Int)-1)=((k-1:Nat):Int):=by rw[kr (by omega)];omega
   have h3':¬l[k]≤l[k-1]:=by
        rcases h3 with h3|h3
        ·omega
        ·simp[hk1] at h3;omega
   simp[bt,bf,hk,hw,hw2,ints,h1',h2',h3',hk0,hk1]
  ·simp[bt,bf,hk,hw,ints,h1',h2',hk0]
 ·have hf:rising l a b=false:=hb
  simp[wh,wi,hk] at ho
  by_cases h1:l[k]<a
  ·simp[bt,bf,hk,ints,h1,hf]
  by_cases h2:b<l[k]
  ·simp[bt,bf,hk,ints,h1,h2,hf]
  have h3:=ho (by omega) (by omega)
  have hk0:0<k:=by omega
  have hk1:k-1<l.length:=by omega
  have hw2:IntKind.i64.wrap ((k:Int)-1)=((k-1:Nat):Int):=by rw[kr (by omega)];omega
  have h3':=h3.2
  simp[hk1] at h3'
  simp[bt,bf,hk,hw2,ints,h1,h2,h3',hk0,hk1,hf]
 ·have hf:rising l a b=true:=hj
  simp[bt,bf,hf]
def DS (c:Int):Bool:=wi c 97 122||wi c 65 90
def okc (i:Nat) (c:Int):Bool:=DS c||(i !=0&&(decide (c=95)||wi c 48 57))
def TM (s:ByteArray) (k:Nat):Int:=((s.data.toList.getD k 0).toNat:Nat)
def ky (s:ByteArray):Bool:=decide (1≤s.size)&&decide (s.size≤20)&&lQ s.size (fun k=>okc k (TM s k))
theorem zt {s:ByteArray} {k:Nat} (h:k<s.data.size):(s.data[k].toNat:Int)=TM s k:=by
 unfold TM
 rw[List.getD_eq_getElem?_getD,List.getElem?_eq_getElem (by simpa using h)];rfl
theorem size_zero {s:ByteArray}:s=⟨#[]⟩↔s.size=0:=by
 constructor
 ·rintro rfl;rfl
 ·intro h;cases s with|mk d=>congr;exact Array.eq_empty_of_size_eq_zero h
theorem C8 (s:ByteArray):Runs T x9 [str s] (.bool (ky s)):=by
 refine .of_tree rfl Iy Bg ?_
 simp[nW]
 by_cases h0:s=⟨#[]⟩
 ·have hn:ky s=false:=by simp[ky,size_zero.1 h0]
  rw[hn];simp[h0]
 by_cases h1:(20:Int)<s.size
 ·have h1':¬s.size≤20:=by omega
  simp[h0,h1,ky,h1']
 have hz:1≤s.size:=by
  have:s.size≠0:=fun e=>h0 (size_zero.2 e)
  omega
 have h1':s.size≤20:=by omega
 simp[h0,h1]
 refine⟨by omega,fS s.size (fun k=>okc k (TM s k)) (fun k=>[.bool false,.int k]) (fun _=>[]) ?_ (fun k hk ho=>?_) (fun k hk ho hb=>?_) (fun hj=>?_)⟩
 ·simp
 ·have hw:=au hk (by omega)
  have hk':k<s.data.size:=hk
  have hg:=zt hk'
  simp[okc,DS,wi] at ho
  simp[gr,dA,hk,hk',hw,hg]
  omega
 ·have hk':k<s.data.size:=hk
  have hg:=zt hk'
  have hn:ky s=false:=by simp[ky,hb]
  simp[okc,DS,wi] at ho
  simp[gr,dA,hk,hk',hg,hn]
  omega
 ·have hn:ky s=true:=by simp[ky,hj,hz,h1']
  have hd:s.data.size=s.size:=rfl
  simp[gr,dA,hn,hd]
theorem wP (c:Int):Runs T EY [.v (.int .u8 c)] (.bool (DS c)):=by
 refine .of_tree rfl Pb GK ?_
 simp[sU,DS,wi]
 by_cases h:97≤c<;>by_cases h2:c≤122<;>by_cases h3:65≤c<;>by_cases h4:c≤90<;>simp[h,h2,h3,h4]
theorem N8 (s:ByteArray):Runs T K1 [str s] (.bool (ky s)):=by
 refine .of_tree rfl S4 Mc ?_
 simp[yW]
 by_cases h0:(s.size:Int)<1
 ·have hn:ky s=false:=by simp[ky];omega
  simp[h0,hn]
 by_cases h1:(20:Int)<s.size
 ·have hn:ky s=false:=by simp[ky];omega
  simp[h0,h1,hn]
 rw[if_neg (by omega)]
 refine fS s.size (fun k=>okc k (TM s k)) (fun k=>[.bool false,.int k]) (fun _=>[]) ?_ (fun k hk ho=>?_) (fun k hk ho hb=>?_) (fun hj=>?_)
 ·simp
 ·have hw:=au hk (by omega)
  have hk':k<s.data.size:=hk
  have hg:=zt hk'
  simp[okc,wi] at ho
  simp[mX,jo,hk,hk',hw,hg]
  refine⟨_,wP _,?_⟩
  simp[hw]
  intro g1 g2
  exfalso
  rcases ho with h|h
  ·rw[h] at g1;cases g1
  ·omega
 ·have hk':k<s.data.size:=hk
  have hg:=zt hk'
  have hn:ky s=false:=by simp[ky,hb]
  simp[okc,wi] at ho
  simp[mX,jo,hk,hk',hg,hn]
  refine⟨_,wP _,?_⟩
  simp[ho.1]
  omega
 ·have hn:ky s=true:=by simp[ky,hj];omega
  simp[mX,jo,hn]
end Rm
set_option linter.unusedSimpArgs false
set_option linter.unusedVariables false
namespace Rm
open Go Go.Proofs Cx
theorem I5 (l:List ByteArray) (n:Nat) (x:ByteArray) (hn:n≤l.length) (hl:l.length≤4294967296):Runs T Du [strs l,.int n,str x] (.bool (hasB (l.take n) x)):=by
 refine .of_tree rfl NU Gy ?_
 simp[tS]
 refine .scan n (fun k=>l.getD k default≠x) (fun k=>[.bool false,.int k]) (fun _=>[]) ?_ (fun k hk hj ho=>?_) (fun k hk hj ho=>?_) (fun hj=>?_)
 ·simp
 ·have hk':k<l.length:=by omega
  have hw:=au hk' hl
  simp[hk'] at ho
  simp[km,fj,hk,hk',hw,strs,ho]
 ·have hk':k<l.length:=by omega
  simp[hk'] at ho
  have hm:hasB (l.take n) x=true:=hasB_iff.2 (by rw[←ho,List.mem_take_iff_getElem];exact⟨k,by omega,rfl⟩)
  simp[km,fj,hk,hk',strs,ho,hm]
 ·have hm:hasB (l.take n) x=false:=hasB_not.2 (fun h=>by
   rw[List.mem_take_iff_getElem] at h
   obtain⟨k,hk,e⟩:=h
   have:=hj k (by omega)
   simp[show k<l.length by omega] at this
   exact this e)
  simp[km,fj,hm]
def dw (l:List ByteArray) (i:Nat):Int:=if ky (l.getD i default)=false then 2 else if hasB (l.take i) (l.getD i default) then 5 else 0
theorem ye (l:List ByteArray) (i n:Nat) (h:i<n):dw (l.take n) i=dw l i:=by
 unfold dw
 rw[List.getD_eq_getElem?_getD,List.getElem?_take_of_lt h,List.take_take,Nat.min_eq_left (by omega),←List.getD_eq_getElem?_getD]
theorem gA (l:List ByteArray) (i:Nat) (hi:i<l.length) (hl:l.length≤4294967296):Runs T nG [strs l,.int i] (.int (dw l i)):=by
 refine .of_tree rfl QF Io ?_
 simp[vA,hi]
 refine⟨_,by simpa [strs,hi] using N8 l[i],?_⟩
 unfold dw
 rw[List.getD_eq_getElem?_getD,List.getElem?_eq_getElem hi,Option.getD_some]
 cases h1:ky l[i]<;>simp[h1]
 refine⟨_,by simpa [strs,hi] using I5 l i l[i] (by omega) hl,?_⟩
 cases h2:hasB (l.take i) l[i]<;>simp[h2]
theorem uu (l:List ByteArray) (i:Nat) (hi:i<l.length) (hl:l.length≤4294967296):Runs T Av [strs l,.int i] (.int (dw l i)):=by
 refine .of_tree rfl M0 DK ?_
 simp[rE,hi]
 refine⟨_,by simpa [strs,hi] using C8 l[i],?_⟩
 unfold dw
 rw[List.getD_eq_getElem?_getD,List.getElem?_eq_getElem hi,Option.getD_some]
 cases h1:ky l[i]<;>simp[h1]
 refine⟨by omega,_,by simpa [strs,hi] using yi (l.take i) l[i] (by rw[List.length_take];omega),?_⟩
 cases h2:hasB (l.take i) l[i]<;>simp[h2]
def yh (l:List ByteArray) (g:Nat→Bool) (i:Nat):Int:=if dw l i≠0 then dw l i else if g i then 0 else 1
def eF (l:List ByteArray) (most:Int) (g:Nat→Bool):Int:=if most<l.length then 6 else ki l.length (yh l g)
theorem jS (l:List ByteArray) (most:Int) (f:Nat) (caps:List D) (g:Nat→Bool) (hg:∀i:Nat,i<l.length→Runs T f (.int i::caps) (.bool (g i))) (hl:l.length≤4294967296):
 Runs T EM [strs l,.int most,.clo f caps] (.int (eF l most g)):=by
 refine .of_tree rfl Oi Hh ?_
 simp[tK,eF]
 by_cases h0:most<l.length
 ·simp[h0];intro h;omega
 simp[h0]
 refine Hz l.length (yh l g) (fun k=>[.int 0,.int k]) (fun _=>[]) ?_ (fun k hk ho=>?_) (fun k hk ho hb=>?_) (fun hj=>?_)
 ·simp
 ·have hw:=au hk hl
  have h1:dw l k=0:=by
   refine Classical.byContradiction fun h=>?_
   unfold yh at ho;rw[if_pos h] at ho;exact h ho
  have h2:g k=true:=by
   unfold yh at ho;rw[if_neg (by simpa using h1)] at ho
   cases h:g k with
   |true=>rfl
   |false=>rw[h] at ho;simp at ho
  simp[j2,fD,hk,hw]
  refine⟨_,uu l k hk hl,?_⟩
  simp[h1]
  refine⟨_,_,⟨rfl,rfl⟩,_,hg k hk,?_⟩
  simp[h2,hw]
 ·simp[j2,fD,hk,hb]
  refine⟨_,uu l k hk hl,?_⟩
  unfold yh at ho ⊢
  by_cases h1:dw l k=0
  ·simp[h1] at ho ⊢
   refine⟨_,_,⟨rfl,rfl⟩,_,hg k hk,?_⟩
   simp[ho]
  ·simp[h1]
 ·simp[j2,fD,hj]
theorem pv (l:List Int) (a b:Int) (hl:l.length≤4294967296):Runs T D7 [ints l,.int a,.int b] (.bool (rising l a b)):=by
 refine .of_tree rfl Ov GF ?_
 simp[tG]
 refine fS l.length (wh l a b) (fun k=>[.bool false,.int k]) (fun _=>[]) ?_ (fun k hk ho=>?_) (fun k hk ho hb=>?_) (fun hj=>?_)
 ·simp
 ·have hw:=au hk hl
  simp[wh,hk] at ho
  simp[kf,fl,hk,hw,ints]
  refine⟨_,ar _ _ _,?_⟩
  by_cases hk0:0<k
  ·have hk1:k-1<l.length:=by omega
   have hw2:IntKind.i64.wrap ((k:Int)-1)=((k-1:Nat):Int):=by rw[kr (by omega)];omega
   have h3':¬l[k]≤l[k-1]:=by
        rcases ho.2 with h3|h3
        ·omega
        ·simp[hk1] at h3;omega
   simp[ho.1,hk,hw,hw2,h3',hk0,hk1]
  ·simp[ho.1,hk,hw,hk0];omega
 ·have hf:rising l a b=false:=hb
  simp[wh,hk] at ho
  simp[kf,fl,hk,ints,hf]
  refine⟨_,ar _ _ _,?_⟩
  cases h1:wi l[k] a b with
  |false=>simp
  |true=>
   have h3:=ho h1
   have hk0:0<k:=by omega
   have hk1:k-1<l.length:=by omega
   have hw2:IntKind.i64.wrap ((k:Int)-1)=((k-1:Nat):Int):=by rw[kr (by omega)];omega
   have h3':=h3.2
   simp[hk1] at h3'
   simp[hk,hw2,h3',hk0,hk1]
 ·have hf:rising l a b=true:=hj
  simp[kf,fl,hf]
theorem U6 (n:Int):n.tdiv 100=if 0≤n then n/100 else-((-n)/100):=by
 split
 ·rename_i h;exact Int.tdiv_eq_ediv_of_nonneg h
 ·rename_i h
  have e:n.tdiv 100=-((-n).tdiv 100):=by rw[Int.neg_tdiv,Int.neg_neg]
  rw[e,Int.tdiv_eq_ediv_of_nonneg (by omega)]
theorem Yq (n:Int):n.tmod 100=n-100*n.tdiv 100:=Int.tmod_def n 100
theorem aak {n:Int} (h:I64 n):IntKind.i64.wrap (n.tdiv 100)=n.tdiv 100:=aD (by rw[U6];unfold I64 at h;split<;>omega)
def wM (r:Realm) (c:City):Bool:=lQ c.feasts.length (fun k=>wi ((c.feasts.getD k 0).tmod 100) 1 31)&&(decide (c.feasts.length≤60)&&decide (c.shut.length≤200)&&inB c.order r.orders.length&&inB c.currency r.currencies.length)&&
 (rising c.rest 0 6&&rising c.feasts 101 1231&&rising c.shut 0 100000)
theorem JO (r:Realm) (c:City) (h1:c.rest.length≤4294967296) (h2:c.feasts.length≤4294967296) (h3:c.shut.length≤4294967296):Runs T C5 [aw r,bD c] (.bool (wM r c)):=by
 refine .of_tree rfl NP GW ?_
 simp[td]
 refine fS c.feasts.length (fun k=>wi ((c.feasts.getD k 0).tmod 100) 1 31) (fun k=>[.bool false,.int k]) (fun _=>[]) ?_ (fun k hk ho=>?_) (fun k hk ho hb=>?_) (fun hj=>?_)
 ·simp
 ·have hw:=au hk h2
  simp[wi,hk] at ho
  have g1:¬(c.feasts[k].tmod 100<1):=by omega
  have g2:¬(31<c.feasts[k].tmod 100):=by omega
  simp[kj,fy,hk,hw,ints,g1,g2]
 ·have hf:wM r c=false:=by simp only[wM,hb,Bool.false_and]
  simp[wi,hk] at ho
  simp[kj,fy,hk,ints,hf]
  by_cases g1:c.feasts[k].tmod 100<1
  ·simp[g1]
  ·have g2:=ho (by omega)
   simp[g1,g2]
 ·simp[kj,fy]
  by_cases g1:(c.feasts.length:Int)≤60
  case neg=>
   have hf:wM r c=false:=by
        have g1':decide (c.feasts.length≤60)=false:=decide_eq_false (by omega)
        simp only[wM,g1',Bool.false_and,Bool.and_false]
   have g1':(60:Int)<c.feasts.length:=by omega
   simp[g1,g1',hf]
  by_cases g2:(c.shut.length:Int)≤200
  case neg=>
   have hf:wM r c=false:=by
        have g1':decide (c.shut.length≤200)=false:=decide_eq_false (by omega)
        simp only[wM,g1',Bool.false_and,Bool.and_false]
   have g2':(200:Int)<c.shut.length:=by omega
   simp[g1,g2,g2',hf]
  have g1':¬(60:Int)<c.feasts.length:=by omega
  have g2':¬(200:Int)<c.shut.length:=by omega
  have hf:wM r c=(inB c.order r.orders.length&&inB c.currency r.currencies.length&&(rising c.rest 0 6&&rising c.feasts 101 1231&&rising c.shut 0 100000)):=by
   have e1:decide (c.feasts.length≤60)=true:=decide_eq_true (by omega)
   have e2:decide (c.shut.length≤200)=true:=decide_eq_true (by omega)
   simp only[wM,hj,e1,e2,Bool.true_and]
  rw[hf]
  simp[g1,g2,g1',g2']
  refine⟨_,aC _ _,?_⟩
  simp
  cases e1:inB c.order r.orders.length<;>simp
  refine⟨_,aC _ _,?_⟩
  simp
  cases e2:inB c.currency r.currencies.length<;>simp
  refine⟨_,dC _ _ _ h1,?_⟩
  simp
  cases e3:rising c.rest 0 6<;>simp
  refine⟨_,dC _ _ _ h2,?_⟩
  simp
  cases e4:rising c.feasts 101 1231<;>simp
  exact dC _ _ _ h3
def xl (r:Realm) (c:City):Bool:=(wi c.order 0 (r.orders.length-1)&&wi c.currency 0 (r.currencies.length-1)&&decide (c.feasts.length≤60)&&decide (c.shut.length≤200))&&
 lQ c.feasts.length (fun k=>wi ((c.feasts.getD k 0).tdiv 100) 1 12&&wi ((c.feasts.getD k 0).tmod 100) 1 31)&&(rising c.rest 0 6&&rising c.feasts 0 2000&&rising c.shut 0 100000)
theorem Ax (n:Nat) (h:n≤4294967296):IntKind.i64.wrap ((n:Int)-1)=(n:Int)-1:=aD (by omega)
theorem Bt (r:Realm) (c:City) (h1:c.rest.length≤4294967296) (h2:c.feasts.length≤4294967296) (h3:c.shut.length≤4294967296) (h4:r.orders.length≤4294967296) (h5:r.currencies.length≤4294967296) (hi:∀y,y∈c.feasts→I64 y):
 Runs T ou [aw r,bD c] (.bool (xl r c)):=by
 refine .of_tree rfl Hb Ad ?_
 simp[mD,Ax _ h4,Ax _ h5]
 refine⟨_,ar _ _ _,?_⟩
 cases e1:wi c.order 0 (r.orders.length-1)
 case false=>simp[xl,e1]
 simp
 refine⟨_,ar _ _ _,?_⟩
 cases e2:wi c.currency 0 (r.currencies.length-1)
 case false=>simp[xl,e1,e2]
 by_cases g1:(c.feasts.length:Int)≤60
 case neg=>
  have hf:xl r c=false:=by
   have g1':decide (c.feasts.length≤60)=false:=decide_eq_false (by omega)
   simp only[xl,g1',Bool.false_and,Bool.and_false]
  have g1':(60:Int)<c.feasts.length:=by omega
  simp[g1',hf]
 by_cases g2:(c.shut.length:Int)≤200
 case neg=>
  have hf:xl r c=false:=by
   have g1':decide (c.shut.length≤200)=false:=decide_eq_false (by omega)
   simp only[xl,g1',Bool.false_and,Bool.and_false]
  have g2':(200:Int)<c.shut.length:=by omega
  simp[g2',hf]
 have g1':¬(60:Int)<c.feasts.length:=by omega
 have g2':¬(200:Int)<c.shut.length:=by omega
 have hf:xl r c=(lQ c.feasts.length (fun k=>wi ((c.feasts.getD k 0).tdiv 100) 1 12&&wi ((c.feasts.getD k 0).tmod 100) 1 31)&&(rising c.rest 0 6&&rising c.feasts 0 2000&&rising c.shut 0 100000)):=by
  have e3:decide (c.feasts.length≤60)=true:=decide_eq_true (by omega)
  have e4:decide (c.shut.length≤200)=true:=decide_eq_true (by omega)
  simp only[xl,e1,e2,e3,e4,Bool.true_and]
 rw[hf]
 simp[g1',g2']
 refine fS c.feasts.length (fun k=>wi ((c.feasts.getD k 0).tdiv 100) 1 12&&wi ((c.feasts.getD k 0).tmod 100) 1 31) (fun k=>[.bool false,.int k]) (fun _=>[]) ?_ (fun k hk ho=>?_) (fun k hk ho hb=>?_) (fun hj=>?_)
 ·simp
 ·have hw:=au hk h2
  have hI:=hi _ (List.getElem_mem hk)
  have hq:IntKind.i64.wrap (c.feasts[k].tdiv 100)=c.feasts[k].tdiv 100:=aak hI
  simp[hk] at ho
  simp[fN,de,hk,ints,hq]
  refine⟨_,ar _ _ _,?_⟩
  simp[ho.1,hk]
  refine⟨_,ar _ _ _,?_⟩
  simp[ho.2,hk,hw]
 ·have hI:=hi _ (List.getElem_mem hk)
  have hq:IntKind.i64.wrap (c.feasts[k].tdiv 100)=c.feasts[k].tdiv 100:=aak hI
  simp[hk] at ho
  simp only[List.getD_eq_getElem?_getD] at hb
  rw[hb]
  simp[fN,de,hk,ints,hq]
  refine⟨_,ar _ _ _,?_⟩
  cases e3:wi (c.feasts[k].tdiv 100) 1 12 with
  |false=>simp
  |true=>
   have:=ho e3
   simp[hk]
   refine⟨_,ar _ _ _,?_⟩
   simp[this]
 ·simp only[List.getD_eq_getElem?_getD] at hj
  rw[hj]
  simp[fN,de]
  refine⟨_,pv _ _ _ h1,?_⟩
  simp
  cases e3:rising c.rest 0 6<;>simp
  refine⟨_,pv _ _ _ h2,?_⟩
  simp
  cases e4:rising c.feasts 0 2000<;>simp
  exact pv _ _ _ h3
theorem ZQ (r:Realm) (c:City):xl r c=wM r c:=by
 rw[Bool.eq_iff_iff]
 have hin:∀(i:Int) (n:Nat),(wi i 0 (n-1)=true)↔(inB i n=true):=by intro i n;simp[wi,inB];omega
 simp only[xl,wM,Bool.and_eq_true,decide_eq_true_eq,hin,rising,allB_iff,wh]
 constructor
 ·rintro⟨⟨⟨⟨⟨a1,a2⟩,a3⟩,a4⟩,a5⟩,⟨a6,a7⟩,a8⟩
  refine⟨⟨fun k hk=>(a5 k hk).2,⟨⟨⟨a3,a4⟩,a1⟩,a2⟩⟩,⟨a6,fun k hk=>?_⟩,a8⟩
  have h1:=a5 k hk
  have h2:=a7 k hk
  simp[wi,Yq,U6] at h1 h2 ⊢
  split at h1<;>omega
 ·rintro⟨⟨a5,⟨⟨⟨a3,a4⟩,a1⟩,a2⟩⟩,⟨a6,a7⟩,a8⟩
  refine⟨⟨⟨⟨⟨a1,a2⟩,a3⟩,a4⟩,fun k hk=>?_⟩,⟨a6,fun k hk=>?_⟩,a8⟩
  ·have h1:=a5 k hk
   have h2:=a7 k hk
   simp[wi,Yq,U6] at h1 h2 ⊢
   split at h1<;>(try split)<;>omega
  ·have h2:=a7 k hk
   simp[wi] at h2 ⊢
   omega
end Rm
set_option linter.unusedSimpArgs false
set_option linter.unusedVariables false
namespace Rm
open Go Go.Proofs Cx
theorem uC {α β:Type} (f:α→β) {l:List α} {k:Nat} (h:k<l.length):(l.take (k+1)).map f=(l.take k).map f++[f l[k]]:=by
 rw[List.take_succ_eq_append_getElem h,List.map_append];rfl
theorem K5 (i:Int) (n:Nat):inB i n=wi i 0 ((n:Int)-1):=by
 rw[Bool.eq_iff_iff];simp[wi,inB];omega
def WZ (o:Order):List Int:=o.choices.map (·.ask)
def Yo (o:Order):List Int:=o.rules.map (·.ask)
def qK (o:Order):Bool:=lQ o.choices.length (fun k=>inB (o.choices.getD k default).by_ 5)&&(rising (WZ o) 0 21&&rising (Yo o) 0 21)
theorem F6 (o:Order) (h1:o.choices.length≤100000) (h2:o.rules.length≤100000):Runs T AD [bM o] (.bool (qK o)):=by
 refine .of_tree rfl M4 D9 ?_
 simp[q5]
 refine fS o.choices.length (fun k=>inB (o.choices.getD k default).by_ 5) (fun k=>[.bool false,.none,.int k]) (fun k=>[ints ((o.choices.take k).map (·.ask))]) ?_ (fun k hk ho=>?_) (fun k hk ho hb=>?_) (fun hj=>?_)
 ·simp[ints]
 ·have hw:=au hk (by omega)
  have hl:(o.choices.take k).length=k:=by rw[List.length_take];omega
  simp[hk] at ho
  rw[uC _ hk]
  simp[iP,eu,hk,hw,ints,hl]
  refine⟨by omega,_,aC _ _,?_⟩
  simp[ho,hw]
 ·have hf:qK o=false:=by simp only[qK,hb,Bool.false_and]
  have hl:(o.choices.take k).length=k:=by rw[List.length_take];omega
  simp[hk] at ho
  simp[iP,eu,hk,ints,hl,hf]
  refine⟨by omega,_,aC _ _,?_⟩
  simp[ho]
 ·have hf:qK o=(rising (WZ o) 0 21&&rising (Yo o) 0 21):=by simp only[qK,hj,Bool.true_and]
  rw[hf]
  simp[iP,eu]
  refine EvP.forRounds o.rules.length (fun k=>[.none,.int k]) (fun k=>[ints ((o.rules.take k).map (·.ask))]) ?_ (fun k hk=>?_) ?_
  ·simp[ints]
  ·have hw:=au hk (by omega)
   have hl:(o.rules.take k).length=k:=by rw[List.length_take];omega
   rw[uC _ hk]
   simp[pI,hG,hk,hw,ints,hl]
   omega
  ·simp[pI,hG]
   refine⟨_,dC (WZ o) _ _ (by simp[WZ];omega),?_⟩
   simp
   cases e1:rising (WZ o) 0 21<;>simp
   exact dC (Yo o) _ _ (by simp[Yo];omega)
def vy (o:Order) (k:Nat):Bool:=wi (o.choices.getD k default).ask 0 21&&wi (o.choices.getD k default).by_ 0 4&&(k==0||decide ((o.choices.getD (k-1) default).ask<(o.choices.getD k default).ask))
def zf (o:Order) (k:Nat):Bool:=wi (o.rules.getD k default).ask 0 21&&(k==0||decide ((o.rules.getD (k-1) default).ask<(o.rules.getD k default).ask))
theorem Yx (o:Order):(lQ o.choices.length (vy o)&&lQ o.rules.length (zf o))=qK o:=by
 rw[Bool.eq_iff_iff]
 simp only[qK,Bool.and_eq_true,rising,allB_iff,WZ,Yo,List.length_map]
 have g1:∀k,k<o.choices.length→(wh (o.choices.map (·.ask)) 0 21 k=true↔wi (o.choices.getD k default).ask 0 21=true∧(k=0∨(o.choices.getD (k-1) default).ask<(o.choices.getD k default).ask)):=by
  intro k hk
  have hk1:k-1<o.choices.length:=by omega
  simp[wh,hk,hk1]
 have g2:∀k,k<o.rules.length→(wh (o.rules.map (·.ask)) 0 21 k=true↔wi (o.rules.getD k default).ask 0 21=true∧(k=0∨(o.rules.getD (k-1) default).ask<(o.rules.getD k default).ask)):=by
  intro k hk
  have hk1:k-1<o.rules.length:=by omega
  simp[wh,hk,hk1]
 constructor
 ·rintro⟨a,b⟩
  refine⟨fun k hk=>?_,fun k hk=>(g1 k hk).2 ?_,fun k hk=>(g2 k hk).2 ?_⟩
  ·have:=a k hk
   simp[vy,wi,inB] at this ⊢;omega
  ·have:=a k hk
   simp[vy] at this ⊢
   exact⟨this.1.1,this.2⟩
  ·have:=b k hk
   simp[zf] at this ⊢
   exact this
 ·rintro⟨c,a,b⟩
  refine⟨fun k hk=>?_,fun k hk=>?_⟩
  ·have h1:=(g1 k hk).1 (a k hk)
   have h2:=c k hk
   simp[vy,wi,inB] at h1 h2 ⊢;omega
  ·have h1:=(g2 k hk).1 (b k hk)
   simp[zf] at h1 ⊢
   exact h1
theorem zT (o:Order) (h1:o.choices.length≤100000) (h2:o.rules.length≤100000):Runs T mW [bM o] (.bool (qK o)):=by
 rw[←Yx]
 refine .of_tree rfl Ey xK ?_
 simp[lE]
 refine fS o.choices.length (vy o) (fun k=>[.bool false,.int k]) (fun _=>[]) ?_ (fun k hk ho=>?_) (fun k hk ho hb=>?_) (fun hj=>?_)
 ·simp
 ·have hw:=au hk (by omega)
  simp[vy,hk] at ho
  simp[eU,cA,hk]
  refine⟨_,ar _ _ _,?_⟩
  simp[ho.1.1,hk]
  refine⟨_,ar _ _ _,?_⟩
  by_cases hk0:0<k
  ·have hk1:k-1<o.choices.length:=by omega
   have hw2:IntKind.i64.wrap ((k:Int)-1)=((k-1:Nat):Int):=by rw[kr (by omega)];omega
   have h3:¬o.choices[k].ask≤o.choices[k-1].ask:=by
        rcases ho.2 with h3|h3
        ·omega
        ·simp[hk1] at h3;omega
   simp[ho.1.2,hk,hw,hw2,h3,hk0,hk1]
  ·simp[ho.1.2,hk,hw,hk0];omega
 ·rw[hb]
  simp[vy,hk] at ho
  simp[eU,cA,hk]
  refine⟨_,ar _ _ _,?_⟩
  cases e1:wi o.choices[k].ask 0 21 with
  |false=>simp
  |true=>
   simp[hk]
   refine⟨_,ar _ _ _,?_⟩
   cases e2:wi o.choices[k].by_ 0 4 with
   |false=>simp
   |true=>
    have h3:=ho e1 e2
    have hk0:0<k:=by omega
    have hk1:k-1<o.choices.length:=by omega
    have hw2:IntKind.i64.wrap ((k:Int)-1)=((k-1:Nat):Int):=by rw[kr (by omega)];omega
    have h3':=h3.2
    simp[hk1] at h3'
    simp[hk,hw2,h3',hk0,hk1]
 ·rw[hj]
  simp[eU,cA]
  refine fS o.rules.length (zf o) (fun k=>[.bool false,.int k]) (fun _=>[]) ?_ (fun k hk ho=>?_) (fun k hk ho hb=>?_) (fun hj=>?_)
  ·simp
  ·have hw:=au hk (by omega)
   simp[zf,hk] at ho
   simp[eR,cD,hk]
   refine⟨_,ar _ _ _,?_⟩
   by_cases hk0:0<k
   ·have hk1:k-1<o.rules.length:=by omega
    have hw2:IntKind.i64.wrap ((k:Int)-1)=((k-1:Nat):Int):=by rw[kr (by omega)];omega
    have h3:¬o.rules[k].ask≤o.rules[k-1].ask:=by
       rcases ho.2 with h3|h3
       ·omega
       ·simp[hk1] at h3;omega
    simp[ho.1,hk,hw,hw2,h3,hk0,hk1]
   ·simp[ho.1,hk,hw,hk0];omega
  ·rw[hb]
   simp[zf,hk] at ho
   simp[eR,cD,hk]
   refine⟨_,ar _ _ _,?_⟩
   cases e1:wi o.rules[k].ask 0 21 with
   |false=>simp
   |true=>
    have h3:=ho e1
    have hk0:0<k:=by omega
    have hk1:k-1<o.rules.length:=by omega
    have hw2:IntKind.i64.wrap ((k:Int)-1)=((k-1:Nat):Int):=by rw[kr (by omega)];omega
    have h3':=h3.2
    simp[hk1] at h3'
    simp[hk,hw2,h3',hk0,hk1]
  ·rw[hj]
   simp[eR,cD]
def cf (r:Realm):List ByteArray:=r.cities.map (·.name)
def cd (r:Realm):List ByteArray:=r.firms.map (·.name)
def bH (r:Realm):List ByteArray:=r.orders.map (·.name)
theorem G3 (r:Realm) (h1:r.cities.length≤100000) (h2:r.firms.length≤100000) (h3:r.orders.length≤100000):Runs T AN [aw r] (.tup [strs (cf r),strs (cd r),strs (bH r)]):=by
 refine .of_tree rfl Mu Eg ?_
 simp[qy]
 refine EvP.forRounds r.cities.length (fun k=>[.none,.int k]) (fun k=>[strs ((r.cities.take k).map (·.name))]) ?_ (fun k hk=>?_) ?_
 ·simp[strs]
 ·have hw:=au hk (by omega)
  have hl:(r.cities.take k).length=k:=by rw[List.length_take];omega
  rw[uC _ hk]
  simp[pG,gX,hk,hw,strs,hl]
  omega
 ·simp[pG,gX]
  refine EvP.forRounds r.firms.length (fun k=>[.none,.int k]) (fun k=>[strs ((r.firms.take k).map (·.name))]) ?_ (fun k hk=>?_) ?_
  ·simp[strs]
  ·have hw:=au hk (by omega)
   have hl:(r.firms.take k).length=k:=by rw[List.length_take];omega
   rw[uC _ hk]
   simp[pO,gW,hk,hw,strs,hl]
   omega
  ·simp[pO,gW]
   refine EvP.forRounds r.orders.length (fun k=>[.none,.int k]) (fun k=>[strs ((r.orders.take k).map (·.name))]) ?_ (fun k hk=>?_) ?_
   ·simp[strs]
   ·have hw:=au hk (by omega)
    have hl:(r.orders.take k).length=k:=by rw[List.length_take];omega
    rw[uC _ hk]
    simp[pK,gU,hk,hw,strs,hl]
    omega
   ·simp[pK,gU,cf,cd,bH]
end Rm
set_option linter.unusedSimpArgs false
set_option linter.unusedVariables false
namespace Rm
open Go Go.Proofs Cx
structure Small (r:Realm):Prop where
 cur:r.currencies.length≤1000
 cities:r.cities.length≤1000
 groups:r.groups.length≤1000
 firms:r.firms.length≤1000
 orders:r.orders.length≤1000
 us:r.usances.length≤1000
 rates:r.rates.length≤1000
 halts:r.halts.length≤1000
 city:∀c,c∈r.cities→c.rest.length≤1000∧c.feasts.length≤1000∧c.shut.length≤1000∧∀y,y∈c.feasts→I64 y
 order:∀o,o∈r.orders→o.choices.length≤1000∧o.rules.length≤1000
 rate:∀x,x∈r.rates→I64 x.num∧I64 x.den
def usD (r:Realm) (k j:Nat):Bool:=(r.usances.getD j default).fr !=(r.usances.getD k default).fr||(r.usances.getD j default).to !=(r.usances.getD k default).to
def usE (r:Realm) (k:Nat):Int:=
 if(inB (r.usances.getD k default).fr r.cities.length&&inB (r.usances.getD k default).to r.cities.length&&wi (r.usances.getD k default).days 1 20000)=false then 1 else if lQ k (usD r k) then 0 else 5
def nH (r:Realm):Int:=if 100<r.usances.length then 6 else ki r.usances.length (usE r)
theorem Bd (r:Realm) (h:Small r):Runs T wc [aw r] (.int (nH r)):=by
 refine .of_tree rfl Hq zP ?_
 have hu:=h.us
 simp[my,nH]
 by_cases h0:100<r.usances.length
 ·have h0':(100:Int)<r.usances.length:=by omega
  have h0'':¬r.usances.length≤100:=by omega
  simp[h0,h0',h0'']
 have h0':¬(100:Int)<r.usances.length:=by omega
 simp[h0,h0']
 refine Hz r.usances.length (usE r) (fun k=>[.int 0,.int k]) (fun _=>[]) ?_ (fun k hk ho=>?_) (fun k hk ho hb=>?_) (fun hj=>?_)
 ·simp
 ·have hw:=au hk (by omega)
  have ha:inB r.usances[k].fr r.cities.length=true∧inB r.usances[k].to r.cities.length=true∧wi r.usances[k].days 1 20000=true∧lQ k (usD r k)=true:=by
   unfold usE at ho
   simp only[List.getD_eq_getElem?_getD,List.getElem?_eq_getElem hk,Option.getD_some] at ho
   cases e1:inB r.usances[k].fr r.cities.length<;>cases e2:inB r.usances[k].to r.cities.length<;>cases e3:wi r.usances[k].days 1 20000<;>cases e4:lQ k (usD r k)<;>simp[e1,e2,e3,e4] at ho ⊢
  obtain⟨a1,a2,a3,a4⟩:=ha
  simp[wi] at a3
  have a5:¬r.usances[k].days<1:=by omega
  have a6:¬20000<r.usances[k].days:=by omega
  simp[fM,dg,hk]
  refine⟨_,aC _ _,?_⟩
  simp[a1]
  refine⟨_,aC _ _,?_⟩
  simp[a2,a5,a6]
  refine⟨by omega,fS k (usD r k) (fun j=>[.int 0,.int j]) (fun _=>[]) ?_ (fun j hj ho2=>?_) (fun j hj ho2 hb2=>?_) (fun hjj=>?_)⟩
  ·simp
  ·have hwj:=au hj (by omega)
   have hj':j<r.usances.length:=by omega
   have hm:j<min k r.usances.length:=by omega
   simp[usD,hj',hk] at ho2
   simp[dk,bN,hj,hj',hk,hwj,hm]
   intro e e';rcases ho2 with h|h
   ·exact absurd e h
   ·exact absurd e' h
  ·rw[a4] at hb2;cases hb2
  ·simp[dk,bN,hw]
   omega
 ·simp[fM,dg,hk,hb]
  refine⟨_,aC _ _,?_⟩
  unfold usE at ho ⊢
  simp only[List.getD_eq_getElem?_getD,List.getElem?_eq_getElem hk,Option.getD_some] at ho ⊢
  cases e1:inB r.usances[k].fr r.cities.length
  ·simp
  simp
  refine⟨_,aC _ _,?_⟩
  cases e2:inB r.usances[k].to r.cities.length
  ·simp
  cases e3:wi r.usances[k].days 1 20000
  ·simp[wi] at e3
   by_cases g:r.usances[k].days<1
   ·simp[g]
   ·simp[g,e3 (by omega)]
  have e3':=e3
  simp[wi] at e3'
  have a5:¬r.usances[k].days<1:=by omega
  have a6:¬20000<r.usances[k].days:=by omega
  simp[e1,e2,e3] at ho
  simp[a5,a6]
  refine⟨by omega,fS k (usD r k) (fun j=>[.int 0,.int j]) (fun _=>[]) ?_ (fun j hj ho2=>?_) (fun j hj ho2 hb2=>?_) (fun hjj=>?_)⟩
  ·simp
  ·have hwj:=au hj (by omega)
   have hj':j<r.usances.length:=by omega
   have hm:j<min k r.usances.length:=by omega
   simp[usD,hj',hk] at ho2
   simp[dk,bN,hj,hj',hk,hwj,hm]
   intro e e';rcases ho2 with h|h
   ·exact absurd e h
   ·exact absurd e' h
  ·have hj':j<r.usances.length:=by omega
   have hm:j<min k r.usances.length:=by omega
   simp[usD,hj',hk] at ho2
   simp[dk,bN,hj,hj',hk,ho,hm]
   first|exact ho2|simp[ho2]
  ·rw[hjj] at ho;cases ho
 ·simp[fM,dg,hj]
theorem Hj (r:Realm) (h:Small r):Runs T AU [aw r] (.int (nH r)):=by
 refine .of_tree rfl Kt DE ?_
 have hu:=h.us
 have hc:=h.cities
 simp[rH,nH]
 by_cases h0:100<r.usances.length
 ·have h0':(100:Int)<r.usances.length:=by omega
  have h0'':¬r.usances.length≤100:=by omega
  simp[h0,h0',h0'']
 have h0':¬(100:Int)<r.usances.length:=by omega
 simp[h0,h0']
 refine Hz r.usances.length (usE r) (fun k=>[.int 0,.int k]) (fun _=>[]) ?_ (fun k hk ho=>?_) (fun k hk ho hb=>?_) (fun hj=>?_)
 ·simp
 ·have hw:=au hk (by omega)
  have ha:inB r.usances[k].fr r.cities.length=true∧inB r.usances[k].to r.cities.length=true∧wi r.usances[k].days 1 20000=true∧lQ k (usD r k)=true:=by
   unfold usE at ho
   simp only[List.getD_eq_getElem?_getD,List.getElem?_eq_getElem hk,Option.getD_some] at ho
   cases e1:inB r.usances[k].fr r.cities.length<;>cases e2:inB r.usances[k].to r.cities.length<;>cases e3:wi r.usances[k].days 1 20000<;>cases e4:lQ k (usD r k)<;>simp[e1,e2,e3,e4] at ho ⊢
  obtain⟨a1,a2,a3,a4⟩:=ha
  rw[K5] at a1 a2
  simp[iU,eC,hk,Ax _ (show r.cities.length≤4294967296 by omega)]
  refine⟨_,ar _ _ _,?_⟩
  simp[a1,Ax _ (show r.cities.length≤4294967296 by omega)]
  refine⟨_,ar _ _ _,?_⟩
  simp[a2]
  refine⟨_,ar _ _ _,?_⟩
  simp[a3]
  refine fS k (usD r k) (fun j=>[.int 0,.int j]) (fun _=>[]) ?_ (fun j hj ho2=>?_) (fun j hj ho2 hb2=>?_) (fun hjj=>?_)
  ·simp
  ·have hwj:=au hj (by omega)
   have hj':j<r.usances.length:=by omega
   simp[usD,hj',hk] at ho2
   simp[dV,cW,hj,hj',hk,hwj]
   intro e e';rcases ho2 with h|h
   ·exact absurd e h
   ·exact absurd e' h
  ·rw[a4] at hb2;cases hb2
  ·simp[dV,cW,hw]
 ·simp[iU,eC,hk,hb,Ax _ (show r.cities.length≤4294967296 by omega)]
  refine⟨_,ar _ _ _,?_⟩
  unfold usE at ho ⊢
  simp only[List.getD_eq_getElem?_getD,List.getElem?_eq_getElem hk,Option.getD_some,K5] at ho ⊢
  cases e1:wi r.usances[k].fr 0 ((r.cities.length:Int)-1)
  ·simp
  simp[Ax _ (show r.cities.length≤4294967296 by omega)]
  refine⟨_,ar _ _ _,?_⟩
  cases e2:wi r.usances[k].to 0 ((r.cities.length:Int)-1)
  ·simp
  simp
  refine⟨_,ar _ _ _,?_⟩
  cases e3:wi r.usances[k].days 1 20000
  ·simp
  simp[e1,e2,e3] at ho
  simp
  refine fS k (usD r k) (fun j=>[.int 0,.int j]) (fun _=>[]) ?_ (fun j hj ho2=>?_) (fun j hj ho2 hb2=>?_) (fun hjj=>?_)
  ·simp
  ·have hwj:=au hj (by omega)
   have hj':j<r.usances.length:=by omega
   simp[usD,hj',hk] at ho2
   simp[dV,cW,hj,hj',hk,hwj]
   intro e e';rcases ho2 with h|h
   ·exact absurd e h
   ·exact absurd e' h
  ·have hj':j<r.usances.length:=by omega
   simp[usD,hj',hk] at ho2
   simp[dV,cW,hj,hj',hk,ho]
   first|exact ho2|simp[ho2]
  ·rw[hjj] at ho;cases ho
 ·simp[iU,eC,hj]
def Kj (r:Realm) (k:Nat):Bool:=inB (r.rates.getD k default).fr r.currencies.length&&inB (r.rates.getD k default).to r.currencies.length&&((r.rates.getD k default).fr !=(r.rates.getD k default).to)&&
 wi (r.rates.getD k default).num 1 1073741824&&wi (r.rates.getD k default).den 1 1073741824&&wi (r.rates.getD k default).since 0 100000
def Hr (r:Realm) (k:Nat):Bool:=inB (r.halts.getD k default).order r.orders.length&&wi (r.halts.getD k default).fr 0 (r.halts.getD k default).to&&decide ((r.halts.getD k default).to≤100000)
def oz (r:Realm):Int:=if 100<r.rates.length then 6 else if lQ r.rates.length (Kj r)=false then 1 else if 20<r.halts.length then 6 else if lQ r.halts.length (Hr r) then 0 else 1
theorem J8 {n:Int} (h:I64 n) (m:Int) (hm:0≤m∧m≤4294967296):inB (IntKind.i64.wrap (n-1)) m=wi n 1 m:=by
 unfold I64 at h
 by_cases e:n=-9223372036854775808
 ·subst e
  have:IntKind.i64.wrap (-9223372036854775808-1)=9223372036854775807:=by decide
  rw[this,Bool.eq_iff_iff];simp[inB,wi];omega
 ·rw[aD (by omega),Bool.eq_iff_iff];simp[inB,wi];omega
theorem X9 (n:Int):inB n 100001=wi n 0 100000:=by rw[Bool.eq_iff_iff];simp[inB,wi];omega
theorem JX (r:Realm) (h:Small r):Runs T Eh [aw r] (.int (oz r)):=by
 refine .of_tree rfl NS FD ?_
 have hu:=h.rates
 have hh:=h.halts
 simp[tB,oz]
 by_cases h0:100<r.rates.length
 ·have h0':(100:Int)<r.rates.length:=by omega
  have h0'':¬r.rates.length≤100:=by omega
  simp[h0,h0',h0'']
 have h0':¬(100:Int)<r.rates.length:=by omega
 simp[h0,h0']
 have key:∀k (hk:k<r.rates.length),∀{ρ:Env} {Q:Out→Prop},True:=fun _ _ _ _=>trivial
 refine fS r.rates.length (Kj r) (fun k=>[.int 0,.int k]) (fun _=>[]) ?_ (fun k hk ho=>?_) (fun k hk ho hb=>?_) (fun hj=>?_)
 ·simp
 ·have hw:=au hk (by omega)
  have hI:=h.rate _ (List.getElem_mem hk)
  simp[Kj,hk] at ho
  obtain⟨⟨⟨⟨⟨a1,a2⟩,a3⟩,a4⟩,a5⟩,a6⟩:=ho
  simp[j8,fC,hk]
  refine⟨_,aC _ _,?_⟩
  simp[a1]
  refine⟨_,aC _ _,?_⟩
  simp[a2,a3]
  refine⟨_,aC _ _,?_⟩
  simp[J8 hI.1,a4]
  refine⟨_,aC _ _,?_⟩
  simp[J8 hI.2,a5]
  refine⟨_,aC _ _,?_⟩
  simp[X9,a6,hw]
 ·have hI:=h.rate _ (List.getElem_mem hk)
  rw[hb]
  simp[Kj,hk] at ho
  simp[j8,fC,hk]
  refine⟨_,aC _ _,?_⟩
  cases e1:inB r.rates[k].fr r.currencies.length
  ·simp
  simp
  refine⟨_,aC _ _,?_⟩
  cases e2:inB r.rates[k].to r.currencies.length
  ·simp
  by_cases e3:r.rates[k].fr=r.rates[k].to
  ·simp[e3]
  simp[e3]
  refine⟨_,aC _ _,?_⟩
  rw[J8 hI.1 _ (by omega)]
  cases e4:wi r.rates[k].num 1 1073741824
  ·simp
  simp
  refine⟨_,aC _ _,?_⟩
  rw[J8 hI.2 _ (by omega)]
  cases e5:wi r.rates[k].den 1 1073741824
  ·simp
  simp
  refine⟨_,aC _ _,?_⟩
  rw[X9]
  simp[ho e1 e2 e3 e4 e5]
 ·rw[hj]
  simp[j8,fC]
  by_cases h1:20<r.halts.length
  ·have h1':(20:Int)<r.halts.length:=by omega
   have h1'':¬r.halts.length≤20:=by omega
   simp[h1,h1',h1'']
  have h1':¬(20:Int)<r.halts.length:=by omega
  simp[h1,h1']
  refine fS r.halts.length (Hr r) (fun k=>[.int 0,.int k]) (fun _=>[]) ?_ (fun k hk ho=>?_) (fun k hk ho hb=>?_) (fun hj=>?_)
  ·simp
  ·have hw:=au hk (by omega)
   simp[Hr,wi,hk] at ho
   obtain⟨⟨a1,a2⟩,a3⟩:=ho
   have b1:¬r.halts[k].fr<0:=by omega
   have b2:¬r.halts[k].to<r.halts[k].fr:=by omega
   have b3:¬100000<r.halts[k].to:=by omega
   simp[j1,fw,hk]
   refine⟨_,aC _ _,?_⟩
   simp[a1,b1,b2,b3,hw]
  ·rw[hb]
   simp[Hr,wi,hk] at ho
   simp[j1,fw,hk]
   refine⟨_,aC _ _,?_⟩
   cases e1:inB r.halts[k].order r.orders.length
   ·simp
   have:=ho e1
   by_cases b1:r.halts[k].fr<0
   ·simp[b1]
   by_cases b2:r.halts[k].to<r.halts[k].fr
   ·simp[b1,b2]
   have b3:100000<r.halts[k].to:=this (by omega) (by omega)
   simp[b1,b2,b3]
  ·rw[hj]
   simp[j1,fw]
theorem JL (r:Realm) (h:Small r):Runs T E2 [aw r] (.int (oz r)):=by
 refine .of_tree rfl OC Hc ?_
 have hu:=h.rates
 have hh:=h.halts
 have hc:=Ax r.currencies.length (by have:=h.cur;omega)
 have hor:=Ax r.orders.length (by have:=h.orders;omega)
 simp[tI,oz]
 by_cases h0:100<r.rates.length
 ·have h0':(100:Int)<r.rates.length:=by omega
  have h0'':¬r.rates.length≤100:=by omega
  simp[h0,h0',h0'']
 have h0':¬(100:Int)<r.rates.length:=by omega
 simp[h0,h0']
 refine fS r.rates.length (Kj r) (fun k=>[.int 0,.int k]) (fun _=>[]) ?_ (fun k hk ho=>?_) (fun k hk ho hb=>?_) (fun hj=>?_)
 ·simp
 ·have hw:=au hk (by omega)
  simp[Kj,hk,K5] at ho
  obtain⟨⟨⟨⟨⟨a1,a2⟩,a3⟩,a4⟩,a5⟩,a6⟩:=ho
  simp[j5,fF,hk,hc]
  refine⟨_,ar _ _ _,?_⟩
  simp[a1,hc]
  refine⟨_,ar _ _ _,?_⟩
  simp[a2,a3]
  refine⟨_,ar _ _ _,?_⟩
  simp[a4]
  refine⟨_,ar _ _ _,?_⟩
  simp[a5]
  refine⟨_,ar _ _ _,?_⟩
  simp[a6,hw]
 ·rw[hb]
  simp[Kj,hk,K5] at ho
  simp[j5,fF,hk,hc]
  refine⟨_,ar _ _ _,?_⟩
  cases e1:wi r.rates[k].fr 0 ((r.currencies.length:Int)-1)
  ·simp
  simp[hc]
  refine⟨_,ar _ _ _,?_⟩
  cases e2:wi r.rates[k].to 0 ((r.currencies.length:Int)-1)
  ·simp
  by_cases e3:r.rates[k].fr=r.rates[k].to
  ·simp[e3]
  simp[e3]
  refine⟨_,ar _ _ _,?_⟩
  cases e4:wi r.rates[k].num 1 1073741824
  ·simp
  simp
  refine⟨_,ar _ _ _,?_⟩
  cases e5:wi r.rates[k].den 1 1073741824
  ·simp
  simp
  refine⟨_,ar _ _ _,?_⟩
  simp[ho e1 e2 e3 e4 e5]
 ·rw[hj]
  simp[j5,fF]
  by_cases h1:20<r.halts.length
  ·have h1':(20:Int)<r.halts.length:=by omega
   have h1'':¬r.halts.length≤20:=by omega
   simp[h1,h1',h1'']
  have h1':¬(20:Int)<r.halts.length:=by omega
  simp[h1,h1']
  refine fS r.halts.length (Hr r) (fun k=>[.int 0,.int k]) (fun _=>[]) ?_ (fun k hk ho=>?_) (fun k hk ho hb=>?_) (fun hj=>?_)
  ·simp
  ·have hw:=au hk (by omega)
   simp[Hr,hk,K5] at ho
   obtain⟨⟨a1,a2⟩,a3⟩:=ho
   have b3:¬100000<r.halts[k].to:=by omega
   simp[j3,fq,hk,hor]
   refine⟨_,ar _ _ _,?_⟩
   simp[a1]
   refine⟨_,ar _ _ _,?_⟩
   simp[a2,b3,hw]
  ·rw[hb]
   simp[Hr,hk,K5] at ho
   simp[j3,fq,hk,hor]
   refine⟨_,ar _ _ _,?_⟩
   cases e1:wi r.halts[k].order 0 ((r.orders.length:Int)-1)
   ·simp
   simp
   refine⟨_,ar _ _ _,?_⟩
   cases e2:wi r.halts[k].fr 0 r.halts[k].to
   ·simp
   simp[ho e1 e2]
  ·rw[hj]
   simp[j3,fq]
end Rm
set_option linter.unusedSimpArgs false
set_option linter.unusedVariables false
namespace Rm
open Go Go.Proofs Cx
def mF:List Int→Int
 |[]=>0
 |x::l=>if x=0 then mF l else x
theorem Gj:∀{l:List Int},mF l=0↔∀x,x∈l→x=0
 |[]=>by simp[mF]
 |x::l=>by
  simp only[mF,List.mem_cons,forall_eq_or_imp]
  by_cases h:x=0
  ·simp[h,Gj (l:=l)]
  ·simp[h]
def xw (r:Realm) (i:Nat):Bool:=inB (r.firms.getD i default).city r.cities.length&&inB (r.firms.getD i default).group r.groups.length
def xu (r:Realm) (i:Nat):Bool:=wM r (r.cities.getD i default)
def mA (r:Realm) (i:Nat):Bool:=qK (r.orders.getD i default)
def Cf (r:Realm) (i:Nat):Bool:=inB (r.groups.getD i default).grade 10
def sv (r:Realm):Int:=if 20<r.groups.length then 6 else if lQ r.groups.length (Cf r) then 0 else 1
def mS (r:Realm):Int:=mF [eF r.currencies 8 (fun _=>true),eF (cf r) 40 (xu r),sv r,eF (cd r) 200 (xw r),eF (bH r) 20 (mA r),nH r,oz r]
theorem T9 (i:Int):Runs T oq [.int i] (.bool true):=by
 refine .of_tree rfl GV zI ?_
 simp[mM]
theorem Ss (r:Realm) (h:Small r) (i:Nat) (hi:i<r.cities.length):Runs T oG [.int i,.ref (aw r)] (.bool (xu r i)):=by
 refine .of_tree rfl G0 As ?_
 obtain⟨h1,h2,h3,h4⟩:=h.city _ (List.getElem_mem hi)
 simp[mz,hi,xu]
 exact JO r r.cities[i] (by omega) (by omega) (by omega)
theorem T3 (r:Realm) (i:Nat) (hi:i<r.firms.length):Runs T oH [.int i,.ref (aw r)] (.bool (xw r i)):=by
 refine .of_tree rfl GQ zZ ?_
 simp[mB,hi,xw]
 refine⟨_,aC _ _,?_⟩
 simp[hi]
 cases e1:inB r.firms[i].city r.cities.length<;>simp
 exact aC _ _
theorem R4 (r:Realm) (h:Small r) (i:Nat) (hi:i<r.orders.length):Runs T nU [.int i,.ref (aw r)] (.bool (mA r i)):=by
 refine .of_tree rfl Gi zU ?_
 obtain⟨h1,h2⟩:=h.order _ (List.getElem_mem hi)
 simp[mw,hi,mA]
 exact F6 r.orders[i] (by omega) (by omega)
theorem uw (r:Realm) (h:Small r):Runs T AO [aw r] (.int (mS r)):=by
 refine .of_tree rfl Lf CR ?_
 have g1:=h.cur
 have g2:=h.cities
 have g3:=h.firms
 have g4:=h.orders
 have g5:=h.groups
 simp[rl]
 refine⟨_,G3 r (by omega) (by omega) (by omega),?_⟩
 simp
 refine⟨_,jS r.currencies 8 oq [] (fun _=>true) (fun i _=>T9 _) (by omega),?_⟩
 unfold mS
 generalize e1:eF r.currencies 8 (fun _=>true)=x1
 by_cases z1:x1=0
 case neg=>simp[z1,mF]
 simp[z1,mF]
 refine⟨_,jS (cf r) 40 oG [.ref (aw r)] (xu r) (fun i hi=>Ss r h i (by simpa [cf] using hi)) (by simp[cf];omega),?_⟩
 generalize e2:eF (cf r) 40 (xu r)=x2
 by_cases z2:x2=0
 case neg=>simp[z2]
 simp[z2]
 by_cases z3:20<r.groups.length
 ·have z3':(20:Int)<r.groups.length:=by omega
  simp[z3',sv,z3]
 have z3':¬(20:Int)<r.groups.length:=by omega
 simp[z3',sv,z3]
 refine fS r.groups.length (Cf r) (fun k=>[.int 0,.int k]) (fun _=>[]) ?_ (fun k hk ho=>?_) (fun k hk ho hb=>?_) (fun hj=>?_)
 ·simp
 ·have hw:=au hk (by omega)
  simp[Cf,hk] at ho
  simp[iO,eD,hk]
  refine⟨_,aC _ _,?_⟩
  simp[ho,hw]
 ·simp[Cf,hk] at ho
  rw[hb]
  simp[iO,eD,hk]
  refine⟨_,aC _ _,?_⟩
  simp[ho]
 ·rw[hj]
  simp[iO,eD]
  refine⟨_,jS (cd r) 200 oH [.ref (aw r)] (xw r) (fun i hi=>T3 r i (by simpa [cd] using hi)) (by simp[cd];omega),?_⟩
  generalize e4:eF (cd r) 200 (xw r)=x4
  by_cases z4:x4=0
  case neg=>simp[z4]
  simp[z4]
  refine⟨_,jS (bH r) 20 nU [.ref (aw r)] (mA r) (fun i hi=>R4 r h i (by simpa [bH] using hi)) (by simp[bH];omega),?_⟩
  generalize e5:eF (bH r) 20 (mA r)=x5
  by_cases z5:x5=0
  case neg=>simp[z5]
  simp[z5]
  refine⟨_,Bd r h,?_⟩
  generalize e6:nH r=x6
  by_cases z6:x6=0
  case neg=>simp[z6]
  simp[z6]
  have e7:(if oz r=0 then 0 else oz r)=oz r:=by split<;>simp_all
  rw[e7]
  exact JX r h
theorem WQ (l:List ByteArray) (k:Nat):yh l (fun _=>true) k=dw l k:=by
 unfold yh;by_cases h:dw l k=0<;>simp[h]
theorem Ea {l:List ByteArray} {g:Nat→Bool} {k:Nat} (h:yh l g k=0):dw l k=0∧g k=true:=by
 unfold yh at h
 by_cases h1:dw l k=0
 ·simp[h1] at h;exact⟨h1,h⟩
 ·simp[h1] at h
theorem Lv {l:List ByteArray} {g:Nat→Bool} {k:Nat} (h:yh l g k≠0):(dw l k≠0∧yh l g k=dw l k)∨(dw l k=0∧g k=false∧yh l g k=1):=by
 unfold yh at h ⊢
 by_cases h1:dw l k=0
 ·simp[h1] at h ⊢;simp[h]
 ·simp[h1]
theorem Ju (r:Realm) (h:Small r):Runs T ES [aw r] (.int (mF [eF r.currencies 8 (fun _=>true),eF (cf r) 40 (xu r)])):=by
 refine .of_tree rfl NN F4 ?_
 have g1:=h.cur
 have g2:=h.cities
 have g4:=h.orders
 simp[tE]
 unfold eF
 by_cases z1:(8:Int)<r.currencies.length
 ·simp[z1,mF]
 simp[z1,mF]
 refine Hz r.currencies.length (yh r.currencies (fun _=>true)) (fun k=>[.int 0,.int k]) (fun _=>[]) ?_ (fun k hk ho=>?_) (fun k hk ho hb=>?_) (fun hj=>?_)
 ·simp
 ·have hw:=au hk (by omega)
  simp[j7,fE,hk]
  refine⟨_,gA _ k hk (by omega),?_⟩
  simp[(Ea ho).1,hw]
 ·rw[hb]
  simp[j7,fE,hk,ho]
  rw[WQ]
  exact gA _ k hk (by omega)
 ·rw[hj]
  simp[j7,fE]
  have hlen:(cf r).length=r.cities.length:=by simp[cf]
  rw[hlen]
  by_cases z2:(40:Int)<r.cities.length
  ·simp[z2]
  simp[z2]
  have key:∀k (hk:k<r.cities.length),((cf r).take k).length=k∧D.list (List.take k (List.map str (cf r))++[str r.cities[k].name])=strs ((cf r).take (k+1))∧
     Runs T nG [strs ((cf r).take (k+1)),.int k] (.int (dw (cf r) k))∧Runs T ou [aw r,bD r.cities[k]] (.bool (xu r k)):=by
   intro k hk
   have hk':k<(cf r).length:=by omega
   have hg:(cf r)[k]=r.cities[k].name:=by simp[cf]
   have hs:(cf r).take (k+1)=(cf r).take k++[(cf r)[k]]:=List.take_succ_eq_append_getElem hk'
   have hn:=gA ((cf r).take (k+1)) k (by rw[List.length_take];omega) (by rw[List.length_take];omega)
   rw[ye _ _ _ (by omega)] at hn
   obtain⟨c1,c2,c3,c4⟩:=h.city _ (List.getElem_mem hk)
   have hc:=Bt r r.cities[k] (by omega) (by omega) (by omega) (by omega) (by omega) c4
   rw[ZQ] at hc
   exact⟨by rw[List.length_take];omega,by rw[hs,hg];simp[strs],hn,by simpa [xu,hk] using hc⟩
  refine Hz r.cities.length (yh (cf r) (xu r)) (fun k=>[.int 0,.none,.int k]) (fun k=>[strs ((cf r).take k)]) ?_ (fun k hk ho=>?_) (fun k hk ho hb=>?_) (fun hj=>?_)
  ·simp[strs]
  ·have hw:=au hk (by omega)
   obtain⟨hl,hs',hn,hc⟩:=key k hk
   obtain⟨o1,o2⟩:=Ea ho
   rw[o1] at hn
   rw[o2] at hc
   simp[kh,fm,hk,hl,hs',aa7]
   refine⟨by omega,_,hn,?_⟩
   simp[hk]
   refine⟨_,hc,?_⟩
   simp[hw]
  ·rw[hb]
   obtain⟨hl,hs',hn,hc⟩:=key k hk
   simp[kh,fm,hk,hl,hs',ho]
   refine⟨by omega,_,hn,?_⟩
   rcases Lv ho with⟨o1,o2⟩|⟨o1,o2,o3⟩
   ·simp[o1,o2]
   ·rw[o2] at hc
    simp[o1,o3,hk]
    refine⟨_,hc,?_⟩
    simp
  ·rw[hj]
   simp[kh,fm]
theorem Lu (r:Realm) (h:Small r):Runs T Ic [aw r] (.int (mF [sv r,eF (cd r) 200 (xw r)])):=by
 refine .of_tree rfl RI Ix ?_
 have g1:=h.groups
 have g2:=h.firms
 have g3:=h.cities
 have w3:=Ax r.cities.length (by omega)
 have w1:=Ax r.groups.length (by omega)
 simp[vi]
 by_cases z1:20<r.groups.length
 ·have z1':(20:Int)<r.groups.length:=by omega
  simp[z1',sv,z1,mF]
 have z1':¬(20:Int)<r.groups.length:=by omega
 simp[z1',sv,z1,mF]
 refine fS r.groups.length (Cf r) (fun k=>[.int 0,.int k]) (fun _=>[]) ?_ (fun k hk ho=>?_) (fun k hk ho hb=>?_) (fun hj=>?_)
 ·simp
 ·have hw:=au hk (by omega)
  simp[Cf,hk] at ho
  have e:wi r.groups[k].grade 0 9=inB r.groups[k].grade 10:=by rw[Bool.eq_iff_iff];simp[wi,inB];omega
  simp[ly,gD,hk]
  refine⟨_,ar _ _ _,?_⟩
  simp[e,ho,hw]
 ·simp[Cf,hk] at ho
  have e:wi r.groups[k].grade 0 9=inB r.groups[k].grade 10:=by rw[Bool.eq_iff_iff];simp[wi,inB];omega
  rw[hb]
  simp[ly,gD,hk]
  refine⟨_,ar _ _ _,?_⟩
  simp[e,ho]
 ·rw[hj]
  simp[ly,gD]
  unfold eF
  have hlen:(cd r).length=r.firms.length:=by simp[cd]
  rw[hlen]
  by_cases z2:(200:Int)<r.firms.length
  ·simp[z2]
  simp[z2]
  have key:∀k (hk:k<r.firms.length),((cd r).take k).length=k∧D.list (List.take k (List.map str (cd r))++[str r.firms[k].name])=strs ((cd r).take (k+1))∧
     Runs T nG [strs ((cd r).take (k+1)),.int k] (.int (dw (cd r) k))∧xw r k=(wi r.firms[k].city 0 ((r.cities.length:Int)-1)&&wi r.firms[k].group 0 ((r.groups.length:Int)-1)):=by
   intro k hk
   have hk':k<(cd r).length:=by omega
   have hg:(cd r)[k]=r.firms[k].name:=by simp[cd]
   have hs:(cd r).take (k+1)=(cd r).take k++[(cd r)[k]]:=List.take_succ_eq_append_getElem hk'
   have hn:=gA ((cd r).take (k+1)) k (by rw[List.length_take];omega) (by rw[List.length_take];omega)
   rw[ye _ _ _ (by omega)] at hn
   exact⟨by rw[List.length_take];omega,by rw[hs,hg];simp[strs],hn,by simp[xw,hk,K5]⟩
  refine Hz r.firms.length (yh (cd r) (xw r)) (fun k=>[.int 0,.none,.int k]) (fun k=>[strs ((cd r).take k)]) ?_ (fun k hk ho=>?_) (fun k hk ho hb=>?_) (fun hj=>?_)
  ·simp[strs]
  ·have hw:=au hk (by omega)
   obtain⟨hl,hs',hn,hc⟩:=key k hk
   obtain⟨o1,o2⟩:=Ea ho
   rw[o1] at hn
   rw[o2] at hc
   have hc':=Bool.and_eq_true_iff.1 hc.symm
   simp[l0,gB,hk,hl,hs']
   refine⟨by omega,_,hn,?_⟩
   simp[hk,w3]
   refine⟨_,ar _ _ _,?_⟩
   simp[hc'.1,hk,w1]
   refine⟨_,ar _ _ _,?_⟩
   simp[hc'.2,hw]
  ·rw[hb]
   obtain⟨hl,hs',hn,hc⟩:=key k hk
   simp[l0,gB,hk,hl,hs',ho]
   refine⟨by omega,_,hn,?_⟩
   rcases Lv ho with⟨o1,o2⟩|⟨o1,o2,o3⟩
   ·simp[o1,o2]
   ·rw[o2] at hc
    simp[o1,o3,hk,w3]
    refine⟨_,ar _ _ _,?_⟩
    cases e1:wi r.firms[k].city 0 ((r.cities.length:Int)-1)
    ·simp
    rw[e1,Bool.true_and] at hc
    simp[hk,w1]
    refine⟨_,ar _ _ _,?_⟩
    simp[←hc]
  ·rw[hj]
   simp[l0,gB]
theorem Ja (r:Realm) (h:Small r):Runs T EH [aw r] (.int (eF (bH r) 20 (mA r))):=by
 refine .of_tree rfl Pg Gu ?_
 have g2:=h.orders
 simp[tc]
 unfold eF
 have hlen:(bH r).length=r.orders.length:=by simp[bH]
 rw[hlen]
 by_cases z2:(20:Int)<r.orders.length
 ·simp[z2]
 simp[z2]
 have key:∀k (hk:k<r.orders.length),((bH r).take k).length=k∧D.list (List.take k (List.map str (bH r))++[str r.orders[k].name])=strs ((bH r).take (k+1))∧
  Runs T nG [strs ((bH r).take (k+1)),.int k] (.int (dw (bH r) k))∧Runs T mW [bM r.orders[k]] (.bool (mA r k)):=by
  intro k hk
  have hk':k<(bH r).length:=by omega
  have hg:(bH r)[k]=r.orders[k].name:=by simp[bH]
  have hs:(bH r).take (k+1)=(bH r).take k++[(bH r)[k]]:=List.take_succ_eq_append_getElem hk'
  have hn:=gA ((bH r).take (k+1)) k (by rw[List.length_take];omega) (by rw[List.length_take];omega)
  rw[ye _ _ _ (by omega)] at hn
  obtain⟨c1,c2⟩:=h.order _ (List.getElem_mem hk)
  exact⟨by rw[List.length_take];omega,by rw[hs,hg];simp[strs],hn,by simpa [mA,hk] using zT r.orders[k] (by omega) (by omega)⟩
 refine Hz r.orders.length (yh (bH r) (mA r)) (fun k=>[.int 0,.none,.int k]) (fun k=>[strs ((bH r).take k)]) ?_ (fun k hk ho=>?_) (fun k hk ho hb=>?_) (fun hj=>?_)
 ·simp[strs]
 ·have hw:=au hk (by omega)
  obtain⟨hl,hs',hn,hc⟩:=key k hk
  obtain⟨o1,o2⟩:=Ea ho
  rw[o1] at hn
  rw[o2] at hc
  simp[j4,fo,hk,hl,hs']
  refine⟨by omega,_,hn,?_⟩
  simp[hk]
  refine⟨_,hc,?_⟩
  simp[hw]
 ·rw[hb]
  obtain⟨hl,hs',hn,hc⟩:=key k hk
  simp[j4,fo,hk,hl,hs',ho]
  refine⟨by omega,_,hn,?_⟩
  rcases Lv ho with⟨o1,o2⟩|⟨o1,o2,o3⟩
  ·simp[o1,o2]
  ·rw[o2] at hc
   simp[o1,o3,hk]
   refine⟨_,hc,?_⟩
   simp
 ·rw[hj]
  simp[j4,fo]
theorem LS (r:Realm) (h:Small r):Runs T HC [aw r] (.int (mS r)):=by
 refine .of_tree rfl RL JQ ?_
 have e:mS r=mF [mF [eF r.currencies 8 (fun _=>true),eF (cf r) 40 (xu r)],mF [sv r,eF (cd r) 200 (xw r)],eF (bH r) 20 (mA r),nH r,oz r]:=by
  unfold mS
  simp only[mF]
  split<;>(try split)<;>(try split)<;>(try split)<;>simp_all
 rw[e]
 simp[vJ]
 refine⟨_,Ju r h,?_⟩
 have h1:=Lu r h
 generalize mF [eF r.currencies 8 (fun _=>true),eF (cf r) 40 (xu r)]=x1 at*
 generalize mF [sv r,eF (cd r) 200 (xw r)]=x2 at*
 have h2:=Ja r h
 generalize eF (bH r) 20 (mA r)=x3 at*
 have h3:=Hj r h
 generalize nH r=x4 at*
 have h4:=JL r h
 generalize oz r=x5 at*
 by_cases z1:x1=0
 case neg=>simp[z1,mF]
 simp[z1,mF]
 refine⟨_,h1,?_⟩
 by_cases z2:x2=0
 case neg=>simp[z2]
 simp[z2]
 refine⟨_,h2,?_⟩
 by_cases z3:x3=0
 case neg=>simp[z3]
 simp[z3]
 refine⟨_,h3,?_⟩
 by_cases z4:x4=0
 case neg=>simp[z4]
 simp[z4]
 have e7:(if x5=0 then 0 else x5)=x5:=by split<;>simp_all
 rw[e7]
 exact h4
end Rm
set_option linter.unusedSimpArgs false
set_option linter.unusedVariables false
namespace Rm
open Go Go.Proofs Cx
def ma:Nat→Tm→Int→Int
 |0,_,_=>-1
 |L+1,t,n=>t.args.foldl (fun m a=>if 0≤m then ma L a m else m) (n-1)
theorem size_le:∀(L:Nat) (t:Tm) (n:Int),0≤n→-1≤ma L t n∧ma L t n≤n
 |0,t,n,h=>by simp[ma];omega
 |L+1,t,n,h=>by
  have key:∀(l:List Tm) (m:Int),-1≤m→m≤n→-1≤l.foldl (fun m a=>if 0≤m then ma L a m else m) m∧l.foldl (fun m a=>if 0≤m then ma L a m else m) m≤n:=by
   intro l
   induction l with
   |nil=>intro m h1 h2;exact⟨h1,h2⟩
   |cons a l ih=>
    intro m h1 h2
    simp only[List.foldl_cons]
    split
    ·rename_i hm
     have:=size_le L a m hm
     exact ih _ this.1 (by omega)
    ·exact ih _ h1 h2
  exact key _ _ (by omega) (by omega)
theorem SD (L:Nat):∀(l:List Tm) (m:Int),m<0→l.foldl (fun m a=>if 0≤m then ma L a m else m) m=m
 |[],m,h=>rfl
 |a::l,m,h=>by simp only[List.foldl_cons];rw[if_neg (by omega)];exact SD L l m h
theorem VV {α β:Type} (f:β→α→β) (b:β) {l:List α} {k:Nat} (h:k<l.length):(l.take (k+1)).foldl f b=f ((l.take k).foldl f b) l[k]:=by
 rw[List.take_succ_eq_append_getElem h,List.foldl_append];rfl
theorem W3 {α β:Type} (f:β→α→β) (b:β) (l:List α) (k:Nat):l.foldl f b=(l.drop k).foldl f ((l.take k).foldl f b):=by
 rw[←List.foldl_append,List.take_append_drop]
theorem _root_.Cx.Tm.OK.len {t:Tm} (h:t.OK):t.args.length≤9223372036854775807:=by cases h with|mk o n xs h1 h2 h3 h4=>exact h3
theorem _root_.Cx.Tm.OK.arg {t:Tm} (h:t.OK) {a:Tm} (ha:a∈t.args):a.OK:=by cases h with|mk o n xs h1 h2 h3 h4=>exact h4 a ha
theorem A3:∀(L:Nat) (t:Tm) (n:Int),t.OK→0≤n→n≤1000→L≤1000→Runs T Nl [iM t,.int n,.int L] (.int (ma L t n))
 |0,t,n,ht,h0,h1,hL=>by
  refine .of_tree rfl Ie yE ?_
  simp[sP,ma]
 |L+1,t,n,ht,h0,h1,hL=>by
  refine .of_tree rfl Ie yE ?_
  have hw0:IntKind.i64.wrap (n-1)=n-1:=aD (by omega)
  have hl:=ht.len
  have hn1:¬((L:Int)+1<1):=by omega
  simp[sP,hw0,hn1]
  let g:Nat→Int:=fun k=>(t.args.take k).foldl (fun m a=>if 0≤m then ma L a m else m) (n-1)
  have gb:∀k,-1≤g k∧g k≤1000:=by
   intro k
   have:g k=ma (L+1) (.mk 0 0 (t.args.take k)) n:=rfl
   have:=size_le (L+1) (.mk 0 0 (t.args.take k)) n h0
   omega
  refine .scan t.args.length (fun k=>0≤g k) (fun k=>[.int (g k),.int k]) (fun _=>[]) ?_ (fun k hk hj ho=>?_) (fun k hk hj ho=>?_) (fun hj=>?_)
  ·simp[g,hw0]
  ·have hw:IntKind.i64.wrap ((k:Int)+1)=(k:Int)+1:=aD (by omega)
   have hwl:IntKind.i64.wrap (L:Int)=(L:Int):=aD (by omega)
   have hg:g (k+1)=ma L t.args[k] (g k):=by
    show(t.args.take (k+1)).foldl _ _=_
    rw[VV _ _ hk]
    show(if 0≤g k then _ else _)=_
    rw[if_pos ho]
   rw[hg]
   have hrec:=A3 L t.args[k] (g k) (ht.arg (List.getElem_mem hk)) ho (gb k).2 (by omega)
   generalize g k=m at*
   simp[mH,jb,hk,ho,hwl]
   refine⟨_,hrec,?_⟩
   simp[hw]
  ·have hf:ma (L+1) t n=g k:=by
    show t.args.foldl _ _=_
    rw[W3 _ _ _ k]
    exact SD L _ _ (by show g k<0;omega)
   rw[hf]
   generalize g k=m at*
   simp[mH,jb,hk,ho]
  ·have hf:ma (L+1) t n=g t.args.length:=by
    show t.args.foldl _ _=(t.args.take t.args.length).foldl _ _
    rw[List.take_length]
   rw[hf]
   generalize g t.args.length=m at*
   simp[mH,jb]
theorem D8 (t:Tm) (ht:t.OK):Runs T PA [iM t] (.bool (decide (0≤ma 20 t 100))):=by
 refine .of_tree rfl VI OD ?_
 simp[BM]
 refine⟨_,A3 20 t 100 ht (by omega) (by omega) (by omega),?_⟩
 simp
def Ox (o:Order):Bool:=(decide (o.rules.length≤60)&&decide (o.choices.length≤60))&&lQ o.rules.length (fun k=>decide (0≤ma 20 (o.rules.getD k default).term 100))
theorem Ef (o:Order) (ho:o.OK):Runs T Pl [bM o] (.bool (Ox o)):=by
 refine .of_tree rfl VG O3 ?_
 simp[BA]
 by_cases h1:(o.rules.length:Int)≤60
 case neg=>
  have h1':(60:Int)<o.rules.length:=by omega
  have hf:Ox o=false:=by
   have:decide (o.rules.length≤60)=false:=decide_eq_false (by omega)
   simp only[Ox,this,Bool.false_and]
  simp[h1',hf]
 by_cases h2:(o.choices.length:Int)≤60
 case neg=>
  have h1':(60:Int)<o.choices.length:=by omega
  have hf:Ox o=false:=by
   have:decide (o.choices.length≤60)=false:=decide_eq_false (by omega)
   simp only[Ox,this,Bool.false_and,Bool.and_false]
  simp[h1',hf]
 have h1':¬(60:Int)<o.rules.length:=by omega
 have h2':¬(60:Int)<o.choices.length:=by omega
 have hf:Ox o=lQ o.rules.length (fun k=>decide (0≤ma 20 (o.rules.getD k default).term 100)):=by
  have e1:decide (o.rules.length≤60)=true:=decide_eq_true (by omega)
  have e2:decide (o.choices.length≤60)=true:=decide_eq_true (by omega)
  simp only[Ox,e1,e2,Bool.true_and]
 rw[hf]
 simp[h1',h2']
 have hO:=ho.2.2
 refine fS o.rules.length (fun k=>decide (0≤ma 20 (o.rules.getD k default).term 100)) (fun k=>[.bool false,.int k]) (fun _=>[]) ?_ (fun k hk ho=>?_) (fun k hk ho hb=>?_) (fun hj=>?_)
 ·simp
 ·have hw:=au hk (by omega)
  simp[hk] at ho
  simp[oW,lI,hk]
  refine⟨_,D8 _ (hO _ (List.getElem_mem hk)).2,?_⟩
  simp[ho,hw]
 ·simp only[List.getD_eq_getElem?_getD] at hb
  rw[hb]
  simp[hk] at ho
  simp[oW,lI,hk]
  refine⟨_,D8 _ (hO _ (List.getElem_mem hk)).2,?_⟩
  simp[ho]
 ·simp only[List.getD_eq_getElem?_getD] at hj
  rw[hj]
  simp[oW,lI]
def WK (f:File):Bool:=decide ((f.signs.length:Int)≤50)&&decide ((f.alters.length:Int)≤10)&&decide ((f.acts.length:Int)≤110)&&decide ((f.facts.length:Int)≤220)
theorem QW (f:File):Runs T P0 [aQ f] (.bool (WK f)):=by
 refine .of_tree rfl Vj OG ?_
 simp[B5,WK]
 by_cases h1:(f.signs.length:Int)≤50<;>by_cases h2:(f.alters.length:Int)≤10<;>by_cases h3:(f.acts.length:Int)≤110<;>by_cases h4:(f.facts.length:Int)≤220<;>
  simp[h1,h2,h3,h4]
end Rm
set_option linter.unusedSimpArgs false
set_option linter.unusedVariables false
namespace Rm
open Go Go.Proofs Cx
def YE (r:Realm) (k:Nat):Bool:=decide (((r.cities.getD k default).feasts.length:Int)≤70)&&decide (((r.cities.getD k default).shut.length:Int)≤210)&&decide (((r.cities.getD k default).rest.length:Int)≤8)
def YF (r:Realm) (k:Nat):Bool:=decide (((r.orders.getD k default).choices.length:Int)≤40)&&decide (((r.orders.getD k default).rules.length:Int)≤40)
def ZU (r:Realm):Bool:=decide ((r.currencies.length:Int)<50)&&decide ((r.cities.length:Int)<50)&&decide ((r.groups.length:Int)<50)&&decide ((r.firms.length:Int)<210)&&decide ((r.orders.length:Int)<50)&&decide ((r.usances.length:Int)<110)&&decide ((r.rates.length:Int)<110)&&decide ((r.halts.length:Int)<50)
def Lo (r:Realm):Bool:=lQ (min r.cities.length 50) (YE r)&&lQ (min r.orders.length 50) (YF r)&&ZU r
theorem Rr (r:Realm) (hr:r.OK):Runs T Qg [aw r] (.bool (Lo r)):=by
 refine .of_tree rfl U5 N3 ?_
 simp[BO]
 refine fS (min r.cities.length 50) (YE r) (fun k=>[.bool false,.int k]) (fun _=>[]) ?_ (fun k hk ho=>?_) (fun k hk ho hb=>?_) (fun hj=>?_)
 ·simp
 ·have hk1:k<r.cities.length:=by omega
  have hk2:k<50:=by omega
  have hw:=au hk2 (by omega)
  simp[YE,hk1] at ho
  obtain⟨⟨a1,a2⟩,a3⟩:=ho
  have b1:¬(70:Int)<r.cities[k].feasts.length:=by omega
  have b2:¬(210:Int)<r.cities[k].shut.length:=by omega
  have b3:¬(8:Int)<r.cities[k].rest.length:=by omega
  simp[fA,ff,hk1,hk2,hw,b1,b2,b3]
  omega
 ·have hk1:k<r.cities.length:=by omega
  have hk2:k<50:=by omega
  have hf:Lo r=false:=by simp only[Lo,hb,Bool.false_and]
  rw[hf]
  simp[YE,hk1] at ho
  by_cases b1:(70:Int)<r.cities[k].feasts.length
  ·simp[fA,ff,hk1,hk2,b1];omega
  by_cases b2:(210:Int)<r.cities[k].shut.length
  ·simp[fA,ff,hk1,hk2,b1,b2];omega
  have b3:(8:Int)<r.cities[k].rest.length:=by have:=ho (by omega) (by omega);omega
  simp[fA,ff,hk1,hk2,b1,b2,b3];omega
 ·have hn:¬((min r.cities.length 50:Nat):Int)<r.cities.length∨¬((min r.cities.length 50:Nat):Int)<50:=by omega
  simp[fA,ff]
  rw[if_neg (by omega)]
  refine fS (min r.orders.length 50) (YF r) (fun k=>[.bool false,.int k]) (fun _=>[]) ?_ (fun k hk ho=>?_) (fun k hk ho hb=>?_) (fun hj2=>?_)
  ·simp
  ·have hk1:k<r.orders.length:=by omega
   have hk2:k<50:=by omega
   have hw:=au hk2 (by omega)
   simp[YF,hk1] at ho
   obtain⟨a1,a2⟩:=ho
   have b1:¬(40:Int)<r.orders[k].choices.length:=by omega
   have b2:¬(40:Int)<r.orders[k].rules.length:=by omega
   simp[jy,gS,hk1,hk2,hw,b1,b2]
   omega
  ·have hk1:k<r.orders.length:=by omega
   have hk2:k<50:=by omega
   have hf:Lo r=false:=by simp only[Lo,hb,Bool.false_and,Bool.and_false]
   rw[hf]
   simp[YF,hk1] at ho
   by_cases b1:(40:Int)<r.orders[k].choices.length
   ·simp[jy,gS,hk1,hk2,b1];omega
   have b2:(40:Int)<r.orders[k].rules.length:=by have:=ho (by omega);omega
   simp[jy,gS,hk1,hk2,b1,b2];omega
  ·have hf:Lo r=ZU r:=by simp only[Lo,hj,hj2,Bool.true_and]
   rw[hf]
   simp[jy,gS]
   rw[if_neg (by omega)]
   unfold ZU
   by_cases c1:(r.currencies.length:Int)<50<;>simp[c1]
   by_cases c2:(r.cities.length:Int)<50<;>simp[c2]
   by_cases c3:(r.groups.length:Int)<50<;>simp[c3]
   by_cases c4:(r.firms.length:Int)<210<;>simp[c4]
   by_cases c5:(r.orders.length:Int)<50<;>simp[c5]
   by_cases c6:(r.usances.length:Int)<110<;>simp[c6]
   by_cases c7:(r.rates.length:Int)<110<;>simp[c7]
theorem GB {r:Realm} (hr:r.OK) (h:Lo r=true):Small r:=by
 simp only[Lo,ZU,Bool.and_eq_true,decide_eq_true_eq,allB_iff] at h
 obtain⟨⟨h1,h2⟩,⟨⟨⟨⟨⟨⟨⟨c1,c2⟩,c3⟩,c4⟩,c5⟩,c6⟩,c7⟩,c8⟩⟩:=h
 obtain⟨k1,⟨k2,k2'⟩,⟨k3,k3'⟩,⟨k4,k4'⟩,⟨k5,k5'⟩,⟨k6,k6'⟩,⟨k7,k7'⟩,⟨k8,k8'⟩⟩:=hr
 refine⟨by omega,by omega,by omega,by omega,by omega,by omega,by omega,by omega,fun c hc=>?_,fun o ho=>?_,fun x hx=>?_⟩
 ·obtain⟨k,hk,rfl⟩:=List.getElem_of_mem hc
  have:=h1 k (by omega)
  simp[YE,hk] at this
  have:=k2' _ hc
  exact⟨by omega,by omega,by omega,fun y hy=>this.2.2.2.1.2 y hy⟩
 ·obtain⟨k,hk,rfl⟩:=List.getElem_of_mem ho
  have:=h2 k (by omega)
  simp[YF,hk] at this
  omega
 ·have:=k7' x hx
  exact⟨this.2.2.1,this.2.2.2.1⟩
def AR (r:Realm) (f:File):Bool:=(Lo r&&WK f)&&lQ r.orders.length (fun k=>Ox (r.orders.getD k default))
theorem Rk (r:Realm) (f:File) (hr:r.OK):Runs T Qa [aw r,aQ f] (.bool (AR r f)):=by
 refine .of_tree rfl UG O1 ?_
 simp[Cd]
 refine⟨_,Rr r hr,?_⟩
 cases e1:Lo r
 ·simp[AR,e1]
 simp
 refine⟨_,QW f,?_⟩
 cases e2:WK f
 ·simp[AR,e1,e2]
 have hs:=GB hr e1
 have ho:=hs.orders
 have hf:AR r f=lQ r.orders.length (fun k=>Ox (r.orders.getD k default)):=by simp only[AR,e1,e2,Bool.true_and]
 rw[hf]
 simp
 have hO:=hr.2.2.2.2.1.2
 refine fS r.orders.length (fun k=>Ox (r.orders.getD k default)) (fun k=>[.bool false,.int k]) (fun _=>[]) ?_ (fun k hk ho=>?_) (fun k hk ho hb=>?_) (fun hj=>?_)
 ·simp
 ·have hw:=au hk (by omega)
  simp[hk] at ho
  simp[pA,lZ,hk]
  refine⟨_,Ef _ (hO _ (List.getElem_mem hk)),?_⟩
  simp[ho,hw]
 ·simp only[List.getD_eq_getElem?_getD] at hb
  rw[hb]
  simp[hk] at ho
  simp[pA,lZ,hk]
  refine⟨_,Ef _ (hO _ (List.getElem_mem hk)),?_⟩
  simp[ho]
 ·simp only[List.getD_eq_getElem?_getD] at hj
  rw[hj]
  simp[pA,lZ]
def MH (r:Realm) (f:File):Bool:=AR r f&&decide (mS r=0)
theorem QZ (r:Realm) (f:File) (hr:r.OK):Runs T PL [aw r,aQ f] (.bool (MH r f)):=by
 refine .of_tree rfl Us O5 ?_
 simp[Bb,MH]
 refine⟨_,Rk r f hr,?_⟩
 cases e1:AR r f
 ·simp
 have hs:Small r:=GB hr (by simp only[AR,Bool.and_eq_true] at e1;exact e1.1.1)
 simp
 refine⟨_,LS r hs,?_⟩
 simp
 rfl
def Kp (n:Int):Int:=min (max n (-1099511627776)) 1099511627776
theorem mZ (n:Int):Runs T Nh [.int n] (.int (Kp n)):=by
 refine .of_tree rfl TW MS ?_
 simp[xj,Kp]
 by_cases h1:-1099511627776>n
 ·have:¬(1099511627776:Int)< -1099511627776:=by omega
  simp[h1];omega
 ·by_cases h2:(1099511627776:Int)<n
  ·simp[h1,h2];omega
  ·simp[h1,h2];omega
def DO (v:Int):Int×Bool:=if v<0∨19<v then(0,false) else if v<7 then(0,true) else(1,true)
theorem sq (v:Int):Runs T y4 [.int v] (.tup [.int (DO v).1,.bool (DO v).2]):=by
 refine .of_tree rfl JR Co ?_
 simp[oh,DO]
 by_cases h1:v<0
 ·simp[h1]
 by_cases h2:19<v
 ·simp[h1,h2]
 by_cases h3:v<7
 ·simp[h1,h2,h3]
 ·simp[h1,h2,h3]
def TB (t:Tm):Int×Int:=
 if 0<t.args.length then(0,2) else if t.op=0 then(if Kp t.n≠t.n then(0,3) else(0,0)) else if t.op=1 then(if t.n<0∨1<t.n then(0,3) else(1,0)) else if(DO t.n).2=false then(0,10) else((DO t.n).1,0)
theorem M1 (t:Tm):Runs T HF [iM t] (.tup [.int (TB t).1,.int (TB t).2]):=by
 refine .of_tree rfl Qm IX ?_
 simp[uW,TB]
 by_cases h0:0<t.args.length
 ·have h0':(0:Int)<t.args.length:=by omega
  simp[h0,h0']
 simp[h0]
 by_cases h1:t.op=0
 ·simp[h1]
  refine⟨_,mZ _,?_⟩
  by_cases h2:Kp t.n=t.n<;>simp[h2]
 by_cases h2:t.op=1
 ·simp[h1,h2]
  by_cases h3:t.n<0<;>by_cases h4:1<t.n<;>simp[h3,h4]
 simp[h1,h2]
 refine⟨_,sq _,?_⟩
 cases h3:(DO t.n).2<;>simp[h3]
def bR (op:Int):List Int×Int:=
 if op=3 then([1],1) else if op=4∨op=5 then([1,1],1) else if op=6 then([1,-1,-1],-1) else if op=7 then([0,0],1) else if op=8 then([-1,-1],1) else([0,0],0)
def yB (s:List Int×Int):D:=.agg [ints s.1,.int s.2]
@[simp] theorem aax (s:List Int×Int):(yB s).cells=[ints s.1,.int s.2]:=_root_.id rfl
@[simp] theorem adQ (s:List Int×Int):(yB s).c 0=ints s.1:=_root_.id rfl
@[simp] theorem adZ (s:List Int×Int):(yB s).c 1=.int s.2:=_root_.id rfl
@[simp] theorem adh (s:List Int×Int):D.agg [ints s.1,.int s.2]=yB s:=_root_.id rfl
@[simp] theorem aai (x y:Int):rY (.int x) 0 (.int y)=.int y:=_root_.id rfl
theorem ER (op:Int):Runs T xW [.int op] (yB (bR op)):=by
 refine .of_tree rfl Is A9 ?_
 simp[oU,bR]
 by_cases h3:op=3
 ·simp[h3];rfl
 by_cases h4:op=4
 ·simp[h4];rfl
 by_cases h5:op=5
 ·simp[h5];rfl
 by_cases h6:op=6
 ·simp[h6];rfl
 by_cases h7:op=7
 ·simp[h7];rfl
 by_cases h8:op=8
 ·simp[h8];rfl
 simp[h3,h4,h5,h6,h7,h8];rfl
end Rm
set_option linter.unusedSimpArgs false
set_option linter.unusedVariables false
namespace Rm
open Go Go.Proofs Cx
def fp (f:Tm→Int):List Tm→Int→Int
 |[],n=>n
 |a::l,n=>if 60<n+f a then n+f a else fp f l (n+f a)
def bA:Nat→Tm→Int
 |0,_=>61
 |L+1,t=>fp (bA L) t.args 1
def iX (f:Tm→Int) (l:List Tm):Int:=(l.map f).sum
theorem zm {f:Tm→Int} {l:List Tm} {k:Nat} (h:k<l.length):iX f (l.take (k+1))=iX f (l.take k)+f l[k]:=by
 unfold iX;rw[uC f h,List.sum_append];simp
theorem Qh {f:Tm→Int}:∀{l:List Tm} {n:Int} {k:Nat},(hk:k<l.length)→(∀j,j<k→n+iX f (l.take (j+1))≤60)→60<n+iX f (l.take (k+1))→fp f l n=n+iX f (l.take (k+1))
 |a::l,n,0,hk,_,h=>by
  simp[iX] at h ⊢
  unfold fp;rw[if_pos (by omega)]
 |a::l,n,k+1,hk,hj,h=>by
  have h0:=hj 0 (by omega)
  simp[iX] at h0
  unfold fp;rw[if_neg (by omega)]
  have e:∀j,n+iX f ((a::l).take (j+1+1))=n+f a+iX f (l.take (j+1)):=by intro j;simp[iX];omega
  rw[Qh (l:=l) (k:=k) (by simpa using hk) (fun j hjk=>by have:=hj (j+1) (by omega);rw[e] at this;exact this) (by rw[←e];exact h),e]
theorem Nr {f:Tm→Int}:∀{l:List Tm} {n:Int},(∀j,j<l.length→n+iX f (l.take (j+1))≤60)→fp f l n=n+iX f l
 |[],n,_=>by simp[fp,iX]
 |a::l,n,hj=>by
  have h0:=hj 0 (by simp)
  simp[iX] at h0
  unfold fp;rw[if_neg (by omega)]
  have e:∀j,n+iX f ((a::l).take (j+1+1))=n+f a+iX f (l.take (j+1)):=by intro j;simp[iX];omega
  rw[Nr (l:=l) (fun j hjl=>by have:=hj (j+1) (by simpa using hjl);rw[e] at this;exact this)]
  simp[iX];omega
theorem TJ {f:Tm→Int} (hf:∀a,1≤f a):∀{l:List Tm} {n:Int},n≤fp f l n
 |[],n=>by simp[fp]
 |a::l,n=>by
  unfold fp
  have:=hf a
  split
  ·omega
  ·have:=TJ hf (l:=l) (n:=n+f a);omega
theorem rA:∀(L:Nat) (t:Tm),1≤bA L t
 |0,t=>by simp[bA]
 |L+1,t=>TJ (rA L)
theorem Ui {f:Tm→Int} {B:Int} (hf:∀a,f a≤B) (hB:0≤B):∀{l:List Tm} {n:Int},n≤60→fp f l n≤60+B
 |[],n,h=>by simp[fp];omega
 |a::l,n,h=>by
  unfold fp
  have:=hf a
  split
  ·omega
  ·exact Ui hf hB (by omega)
theorem TS:∀(L:Nat) (t:Tm),bA L t≤61+60*L
 |0,t=>by simp[bA]
 |L+1,t=>by
  have:=Ui (f:=bA L) (fun a=>TS L a) (by omega) (l:=t.args) (n:=1) (by omega)
  show fp _ _ _≤_
  omega
theorem Hs {f:Tm→Int} (hf:∀a,1≤f a):∀{l:List Tm} {n:Int},fp f l n≤60→(n:Int)+l.length≤60∧∀a,a∈l→f a≤60-n
 |[],n,h=>by simp[fp] at h ⊢;exact h
 |a::l,n,h=>by
  unfold fp at h
  have:=hf a
  split at h
  ·omega
  ·obtain⟨h1,h2⟩:=Hs hf h
   refine⟨by simp;omega,fun b hb=>?_⟩
   rcases List.mem_cons.1 hb with rfl|hb
   ·omega
   ·have:=h2 b hb;omega
theorem CJ {L:Nat} {t:Tm} (h:bA (L+1) t≤60):t.args.length≤59∧∀a,a∈t.args→bA L a≤60:=by
 obtain⟨h1,h2⟩:=Hs (rA L) h
 exact⟨by omega,fun a ha=>by have:=h2 a ha;omega⟩
theorem lg:∀(L:Nat) (t:Tm) (lv:Int),t.OK→L≤8→lv=9-(L:Int)→Runs T yw [iM t,.int lv] (.int (bA L t))
 |0,t,lv,ht,hL,hlv=>by
  refine .of_tree rfl wu qD ?_
  subst hlv
  simp[jG,bA]
 |L+1,t,lv,ht,hL,hlv=>by
  refine .of_tree rfl wu qD ?_
  have hl:=ht.len
  have h8:¬(8<lv):=by omega
  have hwl:IntKind.i64.wrap (lv+1)=lv+1:=aD (by omega)
  simp[jG,h8]
  refine .scan t.args.length (fun k=>1+iX (bA L) (t.args.take (k+1))≤60) (fun k=>[.int (1+iX (bA L) (t.args.take k)),.int k]) (fun _=>[]) ?_ (fun k hk hj ho=>?_) (fun k hk hj ho=>?_) (fun hj=>?_)
  ·simp[iX]
  all_goals try rw[zm hk] at ho
  ·have hw:IntKind.i64.wrap ((k:Int)+1)=(k:Int)+1:=aD (by omega)
   have hrec:=lg L t.args[k] (lv+1) (ht.arg (List.getElem_mem hk)) (by omega) (by omega)
   rw[zm hk]
   have hs:0≤iX (bA L) (t.args.take k):=by
    unfold iX
    have:∀(l:List Tm),0≤(l.map (bA L)).sum:=by
     intro l
     induction l with
     |nil=>simp
     |cons a l ih=>have:=rA L a;simp;omega
    exact this _
   have hb1:=rA L t.args[k]
   generalize iX (bA L) (t.args.take k)=m at*
   generalize bA L t.args[k]=v at*
   have hwm:IntKind.i64.wrap (1+m+v)=1+m+v:=aD (by omega)
   have ho':¬60<1+m+v:=by omega
   simp[gl,dB,hk,hwl]
   refine⟨_,hrec,?_⟩
   simp[hwm,ho',hw]
   omega
  ·have hrec:=lg L t.args[k] (lv+1) (ht.arg (List.getElem_mem hk)) (by omega) (by omega)
   have hf:bA (L+1) t=1+iX (bA L) (t.args.take (k+1)):=Qh hk hj (by rw[zm hk];omega)
   rw[hf,zm hk]
   have hs:0≤iX (bA L) (t.args.take k)∧1+iX (bA L) (t.args.take k)≤60:=by
    constructor
    ·unfold iX
     have:∀(l:List Tm),0≤(l.map (bA L)).sum:=by
       intro l
       induction l with
       |nil=>simp
       |cons a l ih=>have:=rA L a;simp;omega
     exact this _
    ·cases k with
     |zero=>simp[iX]
     |succ k=>exact hj k (by omega)
   have hb1:=rA L t.args[k]
   have hb2:=TS L t.args[k]
   generalize iX (bA L) (t.args.take k)=m at*
   generalize bA L t.args[k]=v at*
   have hwm:IntKind.i64.wrap (1+m+v)=1+m+v:=aD (by omega)
   have ho':60<1+m+v:=by omega
   simp[gl,dB,hk,hwl]
   refine⟨_,hrec,?_⟩
   simp[hwm,ho']
   omega
  ·have hf:bA (L+1) t=1+iX (bA L) t.args:=Nr hj
   rw[hf]
   simp[gl,dB]
def kAt (ws ts:List Int):Nat→Int
 |0=>-1
 |k+1=>if ws.getD k 0=-1∧kAt ws ts k=-1 then ts.getD k 0 else kAt ws ts k
def kOK (ws ts:List Int) (k:Nat):Bool:=if ws.getD k 0=-1 then decide (kAt ws ts k=-1)||decide (ts.getD k 0=kAt ws ts k) else decide (ts.getD k 0=ws.getD k 0)
def NI (t:Tm) (ks:List Int):Int×Int:=
 if t.op<0∨13<t.op then(0,1) else if t.op=0∨t.op=1∨t.op=2 then TB t else
 if ks.length≠(bR t.op).1.length∨t.n≠0 then(0,2) else
 if lQ (bR t.op).1.length (kOK (bR t.op).1 ks)=false then(0,11) else if(bR t.op).2=-1 then(kAt (bR t.op).1 ks (bR t.op).1.length,0) else((bR t.op).2,0)
def aL:Nat→Tm→Int×Int
 |0,_=>(0,0)
 |L+1,t=>if ki t.args.length (fun k=>(aL L (t.args.getD k default)).2)≠0 then(0,ki t.args.length (fun k=>(aL L (t.args.getD k default)).2)) else NI t (t.args.map fun a=>(aL L a).1)
theorem yM (L:Nat) (t:Tm):aL (L+1) t=if ki t.args.length (fun k=>(aL L (t.args.getD k default)).2)≠0 then(0,ki t.args.length (fun k=>(aL L (t.args.getD k default)).2)) else NI t (t.args.map fun a=>(aL L a).1):=rfl
theorem Ch {α:Type} (A:List α) (z:α) {k n:Nat} (hA:A.length=n) (hk:k<n):(A.take k++List.replicate (n-k) z).set k A[k]=A.take (k+1)++List.replicate (n-(k+1)) z:=by
 have h1:(A.take k).length=k:=by rw[List.length_take];omega
 rw[List.set_append_right _ _ (by omega),h1,Nat.sub_self]
 have:n-k=(n-(k+1))+1:=by omega
 rw[this,List.replicate_succ,List.set_cons_zero,List.take_succ_eq_append_getElem (by omega),List.append_assoc];rfl
theorem WB (op:Int):(bR op).1.length≤3:=by
 unfold bR;repeat' split
 all_goals simp
theorem oB:∀(L:Nat) (t:Tm),t.OK→bA L t≤60→Runs T D1 [iM t] (.tup [.int (aL L t).1,.int (aL L t).2])
 |0,t,ht,hm=>by simp[bA] at hm
 |L+1,t,ht,hm=>by
  refine .of_tree rfl O6 Fa ?_
  obtain⟨hl,hp⟩:=CJ hm
  simp[tz]
  refine⟨by omega,?_⟩
  refine Hz t.args.length (fun k=>(aL L (t.args.getD k default)).2) (fun k=>[.int 0,.int 0,.int k]) (fun k=>[ints ((t.args.map fun a=>(aL L a).1).take k++List.replicate (t.args.length-k) 0)]) ?_ (fun k hk ho=>?_) (fun k hk ho hb=>?_) (fun hj=>?_)
  ·simp[ints]
  ·have hw:=au hk (by omega)
   have hmem:=List.getElem_mem hk
   have hrec:=oB L t.args[k] (ht.arg hmem) (hp _ hmem)
   have hs:=Ch (t.args.map fun a=>(aL L a).1) 0 (n:=t.args.length) (by simp) hk
   rw[←hs]
   have hlen:((t.args.map fun a=>(aL L a).1).take k++List.replicate (t.args.length-k) (0:Int)).length=t.args.length:=by simp;omega
   have hgk:(t.args.map fun a=>(aL L a).1)[k]'(by simpa using hk)=(aL L t.args[k]).1:=by simp
   rw[hgk]
   generalize (t.args.map fun a=>(aL L a).1).take k++List.replicate (t.args.length-k) (0:Int)=A at*
   simp[hk] at ho
   rw[ho] at hrec
   generalize (aL L t.args[k]).1=kd at*
   simp[j6,fu,hk]
   refine⟨_,hrec,?_⟩
   simp[hlen,hk,hw,ints]
  ·have hmem:=List.getElem_mem hk
   have hrec:=oB L t.args[k] (ht.arg hmem) (hp _ hmem)
   have hf:aL (L+1) t=(0,(aL L (t.args.getD k default)).2):=by
    rw[yM,hb,if_pos ho]
   rw[hf]
   simp[hk] at ho ⊢
   simp[j6,fu,hk]
   refine⟨_,hrec,?_⟩
   simp[ho]
  ·have hf:aL (L+1) t=NI t (t.args.map fun a=>(aL L a).1):=by
    rw[yM,hj];simp
   rw[hf]
   have e0:(t.args.map fun a=>(aL L a).1).take t.args.length++List.replicate (t.args.length-t.args.length) 0=t.args.map fun a=>(aL L a).1:=by
    rw[Nat.sub_self,List.take_of_length_le (by simp)];simp
   rw[e0]
   have hkl:(t.args.map fun a=>(aL L a).1).length=t.args.length:=by simp
   generalize (t.args.map fun a=>(aL L a).1)=ks at*
   simp[j6,fu]
   unfold NI
   by_cases h1:t.op<0
   ·simp[h1]
   by_cases h2:13<t.op
   ·simp[h1,h2]
   simp[h1,h2]
   by_cases h3:t.op=0∨t.op=1∨t.op=2
   ·have h3':(t.op=0∨t.op=1)∨t.op=2:=by omega
    simp[h3,h3']
    refine⟨_,M1 t,?_⟩
    simp
   have h3':¬((t.op=0∨t.op=1)∨t.op=2):=by omega
   simp[h3,h3']
   refine⟨_,ER _,?_⟩
   have hsl:=WB t.op
   generalize bR t.op=sh at*
   simp
   by_cases h4:ks.length=sh.1.length
   case neg=>
    have h4':¬((ks.length:Int)=sh.1.length):=by omega
    have h4'':¬t.args.length=sh.1.length:=by omega
    simp[h4,h4',h4'']
   have h4':(ks.length:Int)=sh.1.length:=by omega
   have h4'':t.args.length=sh.1.length:=by omega
   by_cases h5:t.n=0
   case neg=>simp[h4,h4',h4'',h5]
   simp[h4,h4',h4'',h5]
   refine fS sh.1.length (kOK sh.1 ks) (fun k=>[.int 0,.int 0,.int (kAt sh.1 ks k),.int k]) (fun _=>[]) ?_ (fun k hk ho=>?_) (fun k hk ho hb=>?_) (fun hj=>?_)
   ·simp[kAt]
   ·have hw:=au hk (by omega)
    have hk2:k<ks.length:=by omega
    simp only[kAt]
    unfold kOK at ho
    simp only[List.getD_eq_getElem?_getD,List.getElem?_eq_getElem hk,List.getElem?_eq_getElem hk2,Option.getD_some] at ho ⊢
    generalize kAt sh.1 ks k=c at*
    by_cases a1:sh.1[k]=-1
    ·by_cases a2:c=-1
     ·simp[bT,bG,hk,hk2,hw,ints,a1,a2]
     ·simp[a1,a2] at ho
      simp[bT,bG,hk,hk2,hw,ints,a1,a2,ho]
    ·simp[a1] at ho
     simp[bT,bG,hk,hk2,hw,ints,a1,ho]
   ·rw[hb]
    have hk2:k<ks.length:=by omega
    unfold kOK at ho
    simp only[List.getD_eq_getElem?_getD,List.getElem?_eq_getElem hk,List.getElem?_eq_getElem hk2,Option.getD_some] at ho
    generalize kAt sh.1 ks k=c at*
    by_cases a1:sh.1[k]=-1
    ·by_cases a2:c=-1
     ·simp[a1,a2] at ho
     ·simp[a1,a2] at ho
      simp[bT,bG,hk,hk2,ints,a1,a2,ho]
    ·simp[a1] at ho
     simp[bT,bG,hk,hk2,ints,a1,ho]
   ·rw[hj]
    simp[bT,bG]
    by_cases a1:sh.2=-1<;>simp[a1]
def nT (t:Tm):Int×Int:=if 60<bA 8 t then(0,6) else aL 8 t
theorem we (t:Tm) (ht:t.OK):Runs T DC [iM t] (.tup [.int (nT t).1,.int (nT t).2]):=by
 refine .of_tree rfl OE Fz ?_
 simp[tM,nT]
 refine⟨_,lg 8 t 1 ht (by omega) (by omega),?_⟩
 by_cases h:60<bA 8 t
 ·simp[h]
 simp[h]
 refine⟨_,oB 8 t ht (by omega),?_⟩
 simp
end Rm
