/-
  Shared texts of this claim.
-/
import Derived.Test.YtbeeplempgffoaaGreatDoorQAN
set_option linter.unusedSimpArgs false
set_option linter.unusedVariables false
noncomputable section
namespace Rm
open Go Go.Proofs Cx
theorem Xo (R:Int)(hR:0≤R∧R<146097):(0≤(R-R/1460+R/36524-R/146096)/365∧(R-R/1460+R/36524-R/146096)/365≤399)∧
 0≤R-(365*((R-R/1460+R/36524-R/146096)/365)+(R-R/1460+R/36524-R/146096)/365/4-(R-R/1460+R/36524-R/146096)/365/100)∧
 R-(365*((R-R/1460+R/36524-R/146096)/365)+(R-R/1460+R/36524-R/146096)/365/4-(R-R/1460+R/36524-R/146096)/365/100)≤365:=by
 by_cases h4:R=146096
 ·subst h4;decide
 have hc:R/146096=0:=by omega
 have hb:R/36524=0∨R/36524=1∨R/36524=2∨R/36524=3:=by omega
 obtain⟨b,N3⟩:∃b,b=R/36524:=⟨_,rfl⟩
 obtain⟨u,hu⟩:∃u,u=(R-36524*b)/1461:=⟨_,rfl⟩
 obtain⟨w,hw⟩:∃w,w=R-36524*b-1461*u:=⟨_,rfl⟩
 have dT:0≤b∧b≤3:=by omega
 have cM:0≤w∧w≤1460:=by omega
 have hu2:0≤u∧u≤24:=by omega
 have m6:R=36524*b+1461*u+w:=by omega
 rw[hc,←N3];obtain⟨a,ha⟩:∃a,a=R/1460:=⟨_,rfl⟩
 rw[←ha];have key:∀k:Int,0≤k→k≤3→365*k≤w→(k<3→w<365*k+365)→(R-a+b-0)/365=100*b+4*u+k:=by
  intro k k0 k3 h1 h2;by_cases hk:k=3
  ·subst hk;have:a=25*b+u∨a=25*b+u+1:=by omega
   rcases this with e|e
   ·by_cases hw3:w=1460
    ·omega
    ·omega
   ·omega
  ·have:=h2 (by omega);have e:a=25*b+u:=by omega
   omega
 have hk:∃k:Int,0≤k∧k≤3∧365*k≤w∧(k<3→w<365*k+365):=by
  by_cases h1:w<365
  ·exact⟨0,by omega⟩
  by_cases h2:w<730
  ·exact⟨1,by omega⟩
  by_cases h3:w<1095
  ·exact⟨2,by omega⟩
  ·exact⟨3,by omega⟩
 obtain⟨k,k0,k3,h1,h2⟩:=hk;rw[key k k0 k3 h1 h2];have e1:(100*b+4*u+k)/4=25*b+u:=by omega
 have e2:(100*b+4*u+k)/100=b:=by omega
 rw[e1,e2];refine⟨by omega,by omega,?_⟩;by_cases pQ:k=3
 ·subst pQ;omega
 ·have:=h2 (by omega);omega
theorem B3 (n:Int)(h:0≤n∧n≤100400):(1≤(bu n).2.1∧(bu n).2.1≤12)∧(1≤(bu n).2.2∧(bu n).2.2≤31)∧(1000≤(bu n).1∧(bu n).1≤3000)∧bQ (bu n).1 (bu n).2.1 (bu n).2.2=n:=by
 unfold bu;simp only[];obtain⟨R,m6⟩:∃R,R=(n+730425)%146097:=⟨_,rfl⟩
 obtain⟨E,Cw⟩:∃E,E=(n+730425)/146097:=⟨_,rfl⟩
 have hn:n=146097*E+R-730425:=by omega
 have hE:E=4∨E=5:=by omega
 have hR:0≤R∧R<146097:=by omega
 rw[←m6,←Cw];clear m6 Cw;obtain⟨⟨y0,y1⟩,d0,d1⟩:=Xo R hR;generalize (R-R/1460+R/36524-R/146096)/365=Y at*;obtain⟨D,hD⟩:∃D,D=R-(365*Y+Y/4-Y/100):=⟨_,rfl⟩
 rw[←hD] at d0 d1 ⊢;obtain⟨M,hM⟩:∃M,M=(5*D+2)/153:=⟨_,rfl⟩
 rw[←hM];have hM2:0≤M∧M≤11:=by omega
 have Of:1≤D-(153*M+2)/5+1∧D-(153*M+2)/5+1≤31:=by omega
 have q4:(Y+400*E)/4=Y/4+100*E:=by omega
 have adi:(Y+400*E)/100=Y/100+4*E:=by omega
 have adj:(Y+400*E)/400=E:=by omega
 by_cases ln:12<M+3
 ·rw[if_pos ln];have h3:M+3-12<3:=by omega
  rw[if_pos h3];refine⟨by omega,Of,by omega,?_⟩;unfold bQ;rw[if_pos h3];have e:Y+400*E+1-1=Y+400*E:=by omega
  have e2:M+3-12+9=M:=by omega
  rw[e,e2,q4,adi,adj];omega
 ·rw[if_neg ln];have h3:¬M+3<3:=by omega
  rw[if_neg h3];refine⟨by omega,Of,by omega,?_⟩;unfold bQ;rw[if_neg h3];have e2:M+3-3=M:=by omega
  rw[e2,q4,adi,adj];omega
end Rm
namespace Rm
open Go Go.Proofs Cx
def rH (y:Int):Bool:=decide (y%4=0)&&(!decide (y%100=0)||decide (y%400=0))
theorem Dt (y:Int):rH y=true↔y%4=0∧(y%100≠0∨y%400=0):=by
 simp[rH]
def dN (y m:Int):Int:=if m=2 then(if rH y=true then 29 else 28) else if m=4∨m=6∨m=9∨m=11 then 30 else 31
def jR (y:Int):Int:=if rH y=true then 366 else 365
theorem Du (y m:Int):28≤dN y m∧dN y m≤31:=by
 unfold dN
 repeat' split
 all_goals omega
theorem aht (R:Int)(hR:0≤R∧R<146097):R-(365*((R-R/1460+R/36524-R/146096)/365)+(R-R/1460+R/36524-R/146096)/365/4-(R-R/1460+R/36524-R/146096)/365/100)≤364∨
 (((R-R/1460+R/36524-R/146096)/365+1)%4=0∧(((R-R/1460+R/36524-R/146096)/365+1)%100≠0∨((R-R/1460+R/36524-R/146096)/365+1)%400=0)):=by
 by_cases h4:R=146096
 ·subst h4;decide
 have hc:R/146096=0:=by omega
 have hb:R/36524=0∨R/36524=1∨R/36524=2∨R/36524=3:=by omega
 obtain⟨b,N3⟩:∃b,b=R/36524:=⟨_,rfl⟩
 obtain⟨u,hu⟩:∃u,u=(R-36524*b)/1461:=⟨_,rfl⟩
 obtain⟨w,hw⟩:∃w,w=R-36524*b-1461*u:=⟨_,rfl⟩
 have dT:0≤b∧b≤3:=by omega
 have cM:0≤w∧w≤1460:=by omega
 have hu2:0≤u∧u≤24:=by omega
 have m6:R=36524*b+1461*u+w:=by omega
 rw[hc,←N3];obtain⟨a,ha⟩:∃a,a=R/1460:=⟨_,rfl⟩
 rw[←ha];have key:∀k:Int,0≤k→k≤3→365*k≤w→(k<3→w<365*k+365)→(R-a+b-0)/365=100*b+4*u+k:=by
  intro k k0 k3 h1 h2;by_cases hk:k=3
  ·subst hk;have:a=25*b+u∨a=25*b+u+1:=by omega
   rcases this with e|e
   ·by_cases hw3:w=1460
    ·omega
    ·omega
   ·omega
  ·have:=h2 (by omega);have e:a=25*b+u:=by omega
   omega
 have hk:∃k:Int,0≤k∧k≤3∧365*k≤w∧(k<3→w<365*k+365):=by
  by_cases h1:w<365
  ·exact⟨0,by omega⟩
  by_cases h2:w<730
  ·exact⟨1,by omega⟩
  by_cases h3:w<1095
  ·exact⟨2,by omega⟩
  ·exact⟨3,by omega⟩
 obtain⟨k,k0,k3,h1,h2⟩:=hk;rw[key k k0 k3 h1 h2];have e1:(100*b+4*u+k)/4=25*b+u:=by omega
 have e2:(100*b+4*u+k)/100=b:=by omega
 rw[e1,e2];by_cases pQ:k=3
 ·subst pQ;by_cases aBy:u=24
  ·left;omega
  ·right;omega
 ·have:=h2 (by omega);left;omega
theorem Xm (n:Int)(h:0≤n∧n≤100400):(bu n).2.2≤dN (bu n).1 (bu n).2.1:=by
 unfold bu;simp only[];obtain⟨R,m6⟩:∃R,R=(n+730425)%146097:=⟨_,rfl⟩
 obtain⟨E,Cw⟩:∃E,E=(n+730425)/146097:=⟨_,rfl⟩
 have hR:0≤R∧R<146097:=by omega
 rw[←m6,←Cw];clear m6 Cw;obtain⟨⟨y0,y1⟩,d0,d1⟩:=Xo R hR;have ib:=aht R hR;generalize (R-R/1460+R/36524-R/146096)/365=Y at*;obtain⟨D,hD⟩:∃D,D=R-(365*Y+Y/4-Y/100):=⟨_,rfl⟩
 rw[←hD] at d0 d1 ib ⊢;obtain⟨M,hM⟩:∃M,M=(5*D+2)/153:=⟨_,rfl⟩
 rw[←hM];have hM2:0≤M∧M≤11:=by omega
 by_cases ln:12<M+3
 ·rw[if_pos ln,if_pos (by omega)];have hm:M=10∨M=11:=by omega
  rcases hm with hm|hm
  ·subst hm;unfold dN;rw[if_neg (by omega),if_neg (by omega)];omega
  ·subst hm;unfold dN;rw[if_pos (by omega)];split
   ·omega
   ·rename_i hl;have fV:¬rH (Y+400*E+1)=true:=hl;rw[Dt] at fV;omega
 ·rw[if_neg ln,if_neg (by omega)];unfold dN;rw[if_neg (by omega)];split<;>omega
theorem Jy (y:Int)(hy:1≤y):bQ (y+1) 1 1=bQ y 1 1+jR y:=by
 unfold bQ jR;rw[if_pos (by omega),if_pos (by omega)];have e:y+1-1=y:=by omega
 rw[e];split
 ·rename_i h;rw[Dt] at h;omega
 ·rename_i h;rw[Dt] at h;omega
theorem Jx (y m:Int)(hm:1≤m∧m≤11)(hy:1≤y):bQ y (m+1) 1=bQ y m 1+dN y m:=by
 unfold bQ dN;by_cases h1:m=1
 ·subst h1;simp;omega
 by_cases h2:m=2
 ·subst h2;rw[if_neg (by omega),if_pos (by omega),if_pos rfl];split
  ·rename_i h;rw[Dt] at h;omega
  ·rename_i h;rw[Dt] at h;omega
 ·rw[if_neg (by omega),if_neg (by omega),if_neg h2];have:m=3∨m=4∨m=5∨m=6∨m=7∨m=8∨m=9∨m=10∨m=11:=by omega
  rcases this with h|h|h|h|h|h|h|h|h<;>subst h<;>simp<;>omega
theorem PK (y:Int)(hy:1≤y):bQ (y+1) 1 1=bQ y 12 1+31:=by
 unfold bQ;rw[if_pos (by omega),if_neg (by omega)];have e:y+1-1=y:=by omega
 rw[e];omega
theorem rM (a b:Int)(h:a≤b):bQ a 1 1≤bQ b 1 1:=by
 unfold bQ;rw[if_pos (by omega),if_pos (by omega)];omega
theorem PJ (y m d:Int):bQ y m d=bQ y m 1+d-1:=by
 unfold bQ;split<;>omega
theorem tV (y:Int)(hy:1≤y)(a b:Int)(ha:1≤a)(hb:b≤12)(h:a≤b):bQ y a 1≤bQ y b 1:=by
 rw[tW y a 1 (by omega),tW y b 1 (by omega)];have:=aaW (12*y+a-3) (by omega) (b-a).toNat;have e:((b-a).toNat:Int)=b-a:=by omega
 rw[e] at this;have e2:12*y+a-3+(b-a)=12*y+b-3:=by omega
 rw[e2] at this;omega
theorem Nq (n:Int)(h:0≤n∧n≤100000):2000≤(bu n).1∧(bu n).1≤2300∧bQ (bu n).1 1 1≤n∧n<bQ ((bu n).1+1) 1 1:=by
 obtain⟨hm,hd,hy,hn⟩:=B3 n (by omega);have hl:=Xm n (by omega);generalize (bu n).1=y at*;generalize (bu n).2.1=m at*;generalize (bu n).2.2=d at*;have e:=PJ y m d;have h1:=tV y (by omega) 1 m (by omega) (by omega) (by omega);have h2:=tV y (by omega) m 12 (by omega) (by omega) (by omega);have h3:=PK y (by omega);have h5:n<bQ (y+1) 1 1:=by
  by_cases ln:m=12
  ·subst ln;omega
  ·have h4:=Jx y m (by omega) (by omega);have h6:=tV y (by omega) (m+1) 12 (by omega) (by omega) (by omega);omega
 refine⟨?_,?_,by omega,h5⟩
 ·refine Bf fun hc=>?_;have:=rM (y+1) 2000 (by omega);have e0:bQ 2000 1 1=0:=by decide
  omega
 ·refine Bf fun hc=>?_;have:=rM 2301 y (by omega);have e0:bQ 2301 1 1=109938:=by decide
  omega
end Rm
namespace Rm
open Go Go.Proofs Cx
theorem nB (n:Int):aj T 102 [.int n] (.bool (bx n)):=by
 refine .of_tree rfl (lA 163 (by kernel_rfl)) atV ?_;simp[T8];by_cases h1:0≤n<;>by_cases h2:n≤100000<;>simp[h1,h2,bx]
theorem Ru (y:Int)(hy:0≤y):aj T 208 [.int y] (.bool (rH y)):=by
 refine .of_tree rfl (lA 170 (by kernel_rfl)) atY ?_;have t4:y.tmod 4=y%4:=sE hy;have t100:y.tmod 100=y%100:=sE hy;have asR:y.tmod 400=y%400:=sE hy;unfold rH;by_cases h1:y%4=0<;>by_cases h2:y%100=0<;>by_cases h3:y%400=0<;>simp[Ub,t4,t100,asR,h1,h2,h3]
theorem Rs (y:Int)(hy:0≤y):aj T 194 [.int y] (.int (jR y)):=by
 refine .of_tree rfl (lA 169 (by kernel_rfl)) atW ?_;simp[T9];refine⟨_,Ru y hy,?_⟩;unfold jR;cases h:rH y<;>simp[h]
theorem D3 (y m:Int)(hy:0≤y):aj T 189 [.int y,.int m] (.int (dN y m)):=by
 refine .of_tree rfl (lA 171 (by kernel_rfl)) atQ ?_;unfold dN;by_cases h2:m=2
 ·simp[Lo,h2];refine⟨_,Ru y hy,?_⟩;cases h:rH y<;>simp[h]
 ·simp[Lo,h2];have hr:=Ru y hy;by_cases h4:m=4∨m=6∨m=9∨m=11
  ·have m5:((m=4∨m=6)∨m=9)∨m=11:=by omega
   simp[m5]
   first|omega|(refine⟨⟨_,hr⟩,?_⟩;omega)
  ·have m5:¬(((m=4∨m=6)∨m=9)∨m=11):=by omega
   simp[m5]
   first|omega|(refine⟨⟨_,hr⟩,?_⟩;omega)
theorem adJ (n:Int):aj T 171 [.int n] (if bx n=true then .tup [.int (bu n).1,.int (bu n).2.1,.int (bu n).2.2,.int 0] else .tup [.int 0,.int 0,.int 0,.int 3]):=by
 refine .of_tree rfl (lA 168 (by kernel_rfl)) atO ?_;simp[T4];refine⟨_,nB n,?_⟩;cases hd:bx n
 ·simp
 have hn:0≤n∧n≤100000:=by simpa [bx] using hd
 obtain⟨hm,tg,hy,CV⟩:=B3 n (by omega);have hl:=Xm n (by omega);obtain⟨y0,y1,yl,yu⟩:=Nq n hn;generalize (bu n).1=y at*;generalize (bu n).2.1=m at*;generalize (bu n).2.2=d at*;have he:=PJ y m d;have hY:=Jy y (by omega);simp;refine aH.forRounds (y-2000).toNat (fun k=>[.int (2000+(k:Int)),.int (n-bQ (2000+(k:Int)) 1 1)]) (fun _=>[]) ?_ (fun k hk=>?_) ?_
 ·have:bQ 2000 1 1=0:=by decide
  simp[this]
 ·have h1:=Jy (2000+(k:Int)) (by omega);have h2:=rM (2000+(k:Int)+1) y (by omega);have h3:=rM 2000 (2000+(k:Int)) (by omega);have h4:bQ 2000 1 1=0:=by decide
  have Jb:365≤jR (2000+(k:Int))∧jR (2000+(k:Int))≤366:=by unfold jR;split<;>omega
  have hr:=Rs (2000+(k:Int)) (by omega);have e:(2000+((k+1:Nat):Int))=2000+(k:Int)+1:=by omega
  have hw:IntKind.i64.wrap (2000+(k:Int)+1)=2000+(k:Int)+1:=aN (by omega);have cM:IntKind.i64.wrap (n-bQ (2000+(k:Int)) 1 1-jR (2000+(k:Int)))=n-bQ (2000+(k:Int)+1) 1 1:=by rw[aN (by omega)];omega
  rw[e];have gH:jR (2000+(k:Int))≤n-bQ (2000+(k:Int)) 1 1:=by omega
  generalize 2000+(k:Int)=Y at*;simp[aek,Ks];refine⟨_,hr,?_⟩;simp[gH];refine⟨_,hr,?_⟩;simp[hw,cM]
 ·have e:(2000+(((y-2000).toNat:Nat):Int))=y:=by omega
  have hr:=Rs y (by omega);have aq:¬jR y≤n-bQ y 1 1:=by omega
  rw[e];simp[aek,Ks];refine⟨_,hr,?_⟩;simp[aq];refine⟨by omega,?_⟩;refine aH.forRounds (m-1).toNat (fun k=>[.int (n-bQ y (k+1) 1),.int ((k:Int)+1)]) (fun _=>[]) ?_ (fun k hk=>?_) ?_
  ·simp
  ·have h1:=Jx y ((k:Int)+1) (by omega) (by omega);have h2:=tV y (by omega) ((k:Int)+1+1) m (by omega) (by omega) (by omega);have h3:=tV y (by omega) 1 ((k:Int)+1) (by omega) (by omega) (by omega);have h4:=Du y ((k:Int)+1);have h5:=rM 2000 y (by omega);have h6:bQ 2000 1 1=0:=by decide
   have hr:=D3 y ((k:Int)+1) (by omega);have e:(((k+1:Nat):Int)+1)=(k:Int)+1+1:=by omega
   have hw:IntKind.i64.wrap ((k:Int)+1+1)=(k:Int)+1+1:=aN (by omega);have cM:IntKind.i64.wrap (n-bQ y ((k:Int)+1) 1-dN y ((k:Int)+1))=n-bQ y ((k:Int)+1+1) 1:=by rw[aN (by omega)];omega
   have gH:dN y ((k:Int)+1)≤n-bQ y ((k:Int)+1) 1:=by omega
   rw[e];generalize (k:Int)+1=M at*;simp[ael,Kt];refine⟨_,hr,?_⟩;simp[gH];refine⟨_,hr,?_⟩;simp[hw,cM]
  ·have e:((((m-1).toNat:Nat):Int)+1)=m:=by omega
   have hr:=D3 y m (by omega);have aq:¬dN y m≤n-bQ y m 1:=by omega
   have hw:IntKind.i64.wrap (n-bQ y m 1+1)=d:=by rw[aN (by omega)];omega
   rw[e];simp[ael,Kt];refine⟨_,hr,?_⟩;simp[aq,hw]
   try omega
theorem Rt (l:List Int)(n:Int)(hl:l.length≤4294967296):aj T 172 [ints l,.int n] (.bool (l.contains n)):=by
 refine .of_tree rfl (lA 176 (by kernel_rfl)) atX ?_;simp[Ua];refine .scan l.length (fun k=>l.getD k 0≠n) (fun k=>[.bool false,.int k]) (fun _=>[]) ?_ (fun k hk hj ho=>?_) (fun k hk hj ho=>?_) (fun hj=>?_)
 ·simp
 ·have hw:=ba hk hl;simp[hk] at ho;simp[RR,Eh,hk,hw,ho,ints]
 ·simp[hk] at ho;have:n∈l:=by rw[←ho];exact cq hk
  simp[RR,Eh,hk,ho,ints,this]
 ·have:¬n∈l:=by
   intro h;obtain⟨k,hk,h⟩:=jt h;exact hj k hk (by simp[hk,h])
  simp[RR,Eh,ints,this]
end Rm
namespace Rm
open Go Go.Proofs Cx
def oa (y m d:Int):Bool:=decide (2000≤y∧y≤2300∧1≤m∧m≤12∧1≤d∧d≤dN y m)
def pC (y m d:Int):Int×Int:=if oa y m d=true∧bx (bQ y m d)=true then(bQ y m d,0) else(0,3)
theorem aqJ (y m d:Int)(hy:0≤y):aj T 188 [.int y,.int m,.int d] (.tup [.int (pC y m d).1,.int (pC y m d).2]):=by
 have hl:=D3 y m hy;refine .of_tree rfl (lA 172 (by kernel_rfl)) atP ?_;unfold pC;simp[T5];by_cases h0:2000≤y∧y≤2300∧1≤m∧m≤12∧1≤d
 ·obtain⟨a1,a2,a3,a4,a5⟩:=h0;have b1:¬y<2000:=by omega
  have b2:¬2300<y:=by omega
  have b3:¬m<1:=by omega
  have b4:¬12<m:=by omega
  have b5:¬d<1:=by omega
  have Zd:=Du y m;by_cases h6:d≤dN y m
  ·have rk:oa y m d=true:=by simp[oa];omega
   have b6:¬dN y m<d:=by omega
   rw[rk];simp[b1,b2,b3,b4,b5];rw[if_pos ⟨⟨⟨⟨a1,a2⟩,a3⟩,a4⟩,a5⟩];refine⟨_,hl,?_⟩;have tI:IntKind.i64.wrap (d-1)=d-1:=aN (by omega);have akt:bQ 2000 1 1=0:=by decide
   have tJ:=rM 2000 y (by omega);have hyu:=rM y 2300 (by omega);have aBC:bQ 2300 1 1=109573:=by decide
   simp[b6,tI];refine aH.forRounds (y-2000).toNat (fun k=>[.int (d-1+bQ (2000+(k:Int)) 1 1),.int (2000+(k:Int))]) (fun _=>[]) ?_ (fun k hk=>?_) ?_
   ·simp[akt,tI]
   ·have h1:=Jy (2000+(k:Int)) (by omega);have h2:=rM (2000+(k:Int)+1) y (by omega);have h3:=rM 2000 (2000+(k:Int)) (by omega);have Jb:365≤jR (2000+(k:Int))∧jR (2000+(k:Int))≤366:=by unfold jR;split<;>omega
    have hr:=Rs (2000+(k:Int)) (by omega);have e:(2000+((k+1:Nat):Int))=2000+(k:Int)+1:=by omega
    have hw:IntKind.i64.wrap (2000+(k:Int)+1)=2000+(k:Int)+1:=aN (by omega);have cM:IntKind.i64.wrap (d-1+bQ (2000+(k:Int)) 1 1+jR (2000+(k:Int)))=d-1+bQ (2000+(k:Int)+1) 1 1:=by rw[aN (by omega)];omega
    have aq:2000+(k:Int)<y:=by omega
    rw[e];generalize 2000+(k:Int)=Y at*;simp[aem,Ku,aq];refine⟨_,hr,?_⟩;simp[hw,cM]
   ·have e:(2000+(((y-2000).toNat:Nat):Int))=y:=by omega
    rw[e];simp[aem,Ku];refine aH.forRounds (m-1).toNat (fun k=>[.int (d-1+bQ y ((k:Int)+1) 1),.int ((k:Int)+1)]) (fun _=>[]) ?_ (fun k hk=>?_) ?_
    ·simp
    ·have h1:=Jx y ((k:Int)+1) (by omega) (by omega);have h2:=tV y (by omega) ((k:Int)+1+1) m (by omega) (by omega) (by omega);have h3:=tV y (by omega) 1 ((k:Int)+1) (by omega) (by omega) (by omega);have gr:=tV y (by omega) ((k:Int)+1) 12 (by omega) (by omega) (by omega);have aA0:=PK y (by omega);have aA1:=Jy y (by omega);have Jb:365≤jR y∧jR y≤366:=by unfold jR;split<;>omega
     have h4:=Du y ((k:Int)+1);have hr:=D3 y ((k:Int)+1) (by omega);have e:(((k+1:Nat):Int)+1)=(k:Int)+1+1:=by omega
     have hw:IntKind.i64.wrap ((k:Int)+1+1)=(k:Int)+1+1:=aN (by omega);have cM:IntKind.i64.wrap (d-1+bQ y ((k:Int)+1) 1+dN y ((k:Int)+1))=d-1+bQ y ((k:Int)+1+1) 1:=by rw[aN (by omega)];omega
     have aq:(k:Int)+1<m:=by omega
     rw[e];generalize (k:Int)+1=M at*;simp[aen,Kv,aq];refine⟨_,hr,?_⟩;simp[hw,cM]
    ·have e:((((m-1).toNat:Nat):Int)+1)=m:=by omega
     have en:d-1+bQ y m 1=bQ y m d:=by have:=PJ y m d;omega
     rw[e,en];simp[aen,Kv];refine⟨_,nB _,?_⟩;cases hv:bx (bQ y m d)<;>simp[hv]
  ·have rk:oa y m d=false:=by simp[oa];omega
   have b6:dN y m<d:=by omega
   rw[rk];simp[b1,b2,b3,b4,b5];rw[if_pos ⟨⟨⟨⟨a1,a2⟩,a3⟩,a4⟩,a5⟩];refine⟨_,hl,?_⟩;simp[b6];intro h;omega
 ·have rk:oa y m d=false:=by simp[oa];omega
  have zw:(((y<2000∨2300<y)∨m<1)∨12<m)∨d<1:=by omega
  rw[rk];simp[zw];intro _ _ _ _ _;exact⟨_,hl⟩
def sM (n k:Int):Int×Int:=
 if 12*(bu n).1+(bu n).2.1-1+k<24000 then(0,3)
 else pC ((12*(bu n).1+(bu n).2.1-1+k)/12) ((12*(bu n).1+(bu n).2.1-1+k)%12+1) (min (bu n).2.2 (dN ((12*(bu n).1+(bu n).2.1-1+k)/12) ((12*(bu n).1+(bu n).2.1-1+k)%12+1)))
theorem aqI (n k:Int):aj T 162 [.int n,.int k] (if bx n=false∨k< -5000∨5000<k then .tup [.int 0,.int 3] else .tup [.int (sM n k).1,.int (sM n k).2]):=by
 have hD:=adJ n;refine .of_tree rfl (lA 167 (by kernel_rfl)) atN ?_;simp[T3];refine⟨_,hD,?_⟩;cases hd:bx n
 ·simp
 by_cases hk:k< -5000∨5000<k
 ·simp[hk];intro h1 h2;omega
 have hn:0≤n∧n≤100000:=by simpa [bx] using hd
 obtain⟨hm,tg,hy,CV⟩:=B3 n (by omega);obtain⟨y0,y1,yl,yu⟩:=Nq n hn;unfold sM;generalize (bu n).1=y at*;generalize (bu n).2.1=m at*;generalize (bu n).2.2=d at*;obtain⟨A,hA⟩:∃A,A=12*y+m-1+k:=⟨_,rfl⟩
 have wA:IntKind.i64.wrap (IntKind.i64.wrap (IntKind.i64.wrap (IntKind.i64.wrap (12*y)+m)-1)+k)=A:=by
  rw[aN (n:=12*y) (by omega),aN (n:=12*y+m) (by omega),aN (n:=12*y+m-1) (by omega),aN (by omega)];exact hA.symm
 rw[←hA];simp[hk,wA];by_cases Yg:A<24000
 ·simp[Yg]
 have wY:IntKind.i64.wrap (A.tdiv 12)=A/12:=by rw[xB (by omega)];exact aN (by omega)
 have wM:IntKind.i64.wrap (A.tmod 12+1)=A%12+1:=by rw[sE (by omega)];exact aN (by omega)
 simp[Yg,wY,wM];refine⟨_,D3 _ _ (by omega),?_⟩;have j4:(if dN (A/12) (A%12+1)<d then D.int (dN (A/12) (A%12+1)) else D.int d)=D.int (min d (dN (A/12) (A%12+1))):=by
  split
  ·rw[Bi (by omega)]
  ·rw[Bh (by omega)]
 simp
 try rw[j4]
 refine⟨_,aqJ _ _ _ (by omega),?_⟩;simp
end Rm
namespace Rm
open Go Go.Proofs Cx
theorem adK (c:City)(hc:uy c)(n:Int)(hn:0≤n∧n≤100400):aj T 146 [fm c,.int n] (if bx n=true then .tup [.bool (lF c.rest c.feasts c.shut n),.int 0] else .tup [.bool false,.int 3]):=by
 have hD:=adJ n;refine .of_tree rfl (lA 175 (by kernel_rfl)) atU ?_;simp[T7];refine⟨_,hD,?_⟩;cases hd:bx n
 ·simp
 obtain⟨hm,tg,hy,CV⟩:=B3 n hn;obtain⟨h1,h2,h3⟩:=hc;unfold lF;generalize (bu n).1=y at*;generalize (bu n).2.1=m at*;generalize (bu n).2.2=d at*;have w1:IntKind.i64.wrap (n+5)=n+5:=aN (by omega);have w2:(n+5).tmod 7=(n+5)%7:=sE (by omega);have w3:IntKind.i64.wrap (100*m)=100*m:=aN (by omega);have w4:IntKind.i64.wrap (100*m+d)=100*m+d:=aN (by omega);have r1:=Rt c.rest ((n+5)%7) (by omega);have r2:=Rt c.feasts (100*m+d) (by omega);have r3:=Rt c.shut n (by omega);simp[w1,w2,w3,w4];refine⟨_,r1,?_⟩;by_cases e1:(n+5)%7∈c.rest
 ·simp[e1]
  try exact⟨⟨_,r2⟩,⟨_,r3⟩⟩
 simp[e1];refine⟨_,r2,?_⟩;by_cases e2:100*m+d∈c.feasts
 ·simp[e2]
  try exact⟨_,r3⟩
 simp[e2];refine⟨_,r3,?_⟩;by_cases e3:n∈c.shut<;>simp[e3]
theorem apK (c:City)(d:Int)(k:Nat)(hd:bx d=true)(hk:k≤400)(h1:d+k≤100000)(h2:lF c.rest c.feasts c.shut (d+k)=true)(h3:∀j:Nat,j<k→lF c.rest c.feasts c.shut (d+j)=false):cK c d=(d+k,0):=by
 have eJ:0≤d∧d≤100000:=by simpa [bx] using hd
 unfold cK;rw[if_neg (by rw[hd];decide)];obtain⟨N,hN⟩:∃N,N=(jB d-d+1).toNat:=⟨_,rfl⟩
 have hkN:k<N:=by
  unfold jB at hN;split at hN<;>omega
 rw[←hN];have:(dA c d N).head?=some (d+k):=by
  unfold dA;rw[List.head?_filter,List.find?_map]
  rw[show(List.range N).find? ((lF c.rest c.feasts c.shut)∘fun(i:Nat)=>d+i)=some k from by
   rw[List.find?_range_eq_some];refine⟨h2,by simpa using hkN,fun j hj=>?_⟩;simp[h3 j hj]]
  rfl
 cases hk:dA c d N with
 |nil=>rw[hk] at this;cases this
 |cons x l=>
  rw[hk] at this;injection this with this
  simp[this]
theorem apM (c:City)(d:Int)(hd:bx d=true)(h3:∀j:Nat,j≤400→d+j≤100000→lF c.rest c.feasts c.shut (d+j)=false):cK c d=(0,3):=by
 have eJ:0≤d∧d≤100000:=by simpa [bx] using hd
 unfold cK;rw[if_neg (by rw[hd];decide)];have:dA c d (jB d-d+1).toNat=[]:=by
  unfold dA;rw[List.filter_eq_nil_iff];intro x hx;obtain⟨j,hj,rfl⟩:=eR.1 hx;have bm:=gm.1 hj;have:j≤400∧d+j≤100000:=by unfold jB at bm;split at bm<;>omega
  rw[h3 j this.1 this.2];decide
 rw[this]
theorem aqK (c:City)(hc:uy c)(d:Int):aj T 103 [fm c,.int d] (.tup [.int (cK c d).1,.int (cK c d).2]):=by
 refine .of_tree rfl (lA 174 (by kernel_rfl)) atT ?_;simp[T6];refine⟨_,nB d,?_⟩;cases hd:bx d
 ·simp[cK,hd]
 have eJ:0≤d∧d≤100000:=by simpa [bx] using hd
 simp;refine aH.scan 401 (fun k=>(bx (d+k)&&lF c.rest c.feasts c.shut (d+k))=false) (fun k=>[.int 0,.int 0,.int k]) (fun _=>[]) ?_ (fun k hk hj ho=>?_) (fun k hk hj ho=>?_) (fun hj=>?_)
 ·simp
 ·have hw:=ba (k:=k) (n:=401) hk (by omega);have cM:IntKind.i64.wrap (d+k)=d+k:=aN (by omega);have hr:=adK c hc (d+k) (by omega);have hle:(k:Int)≤400:=by omega
  simp[RQ,Eg,hle,cM];refine⟨_,hr,?_⟩;cases e1:bx (d+k)
  ·simp[hw]
  ·rw[e1] at ho;simp at ho;simp[ho,hw]
 ·have cM:IntKind.i64.wrap (d+k)=d+k:=aN (by omega);have hr:=adK c hc (d+k) (by omega);have hle:(k:Int)≤400:=by omega
  simp at ho
  have hx:=apK c d k hd (by omega) (by have:=ho.1;simp[bx] at this;omega) ho.2 (fun j bm=>by
   have h1:=hj j bm;have h2:bx (d+j)=true:=by have:=ho.1;simp[bx] at this ⊢;omega
   rw[h2] at h1;simpa using h1)
  rw[hx];simp[RQ,Eg,hle,cM];refine⟨_,hr,?_⟩;simp[ho.1,ho.2]
 ·have hx:=apM c d hd (fun j bm aAY=>by
   have h1:=hj j (by omega);have h2:bx (d+j)=true:=by simp[bx];omega
   rw[h2] at h1;simpa using h1)
  rw[hx];simp[RQ,Eg]
end Rm
namespace Rm
open Go Go.Proofs Cx
def mS (r:Realm)(o z:Int):Prop:=∃h,h∈r.halts∧(h.order=o∧h.fr≤z)∧z≤h.to
theorem Te (r:Realm)(o d:Int):∀k,k≤r.halts.length→∀z,d≤z→z<fa r o d k→mS r o z
 |0,_,z,h1,h2=>by simp[fa] at h2;omega
 |k+1,hk,z,h1,h2=>by
  rw[La r o d (by omega)] at h2;unfold ux at h2;split at h2
  ·rename_i hc;by_cases h3:z<fa r o d k
   ·exact Te r o d k (by omega) z h1 h3
   ·exact⟨_,cq (show k<r.halts.length by omega),⟨hc.1.1,by omega⟩,by omega⟩
  ·exact Te r o d k (by omega) z h1 h2
theorem ae0 {r:Realm}(o d:Int):∀k,k≤r.halts.length→d≤fa r o d k∧∀h,h∈r.halts.take k→(h.order=o∧h.fr≤d)∧d≤h.to→d<fa r o d k
 |0,_=>⟨by simp[fa],fun h hh=>by simp at hh⟩
 |k+1,hk=>by
  obtain⟨h1,h2⟩:=ae0 (r:=r) o d k (by omega);rw[La r o d (by omega)];have gH:fa r o d k≤ux o (fa r o d k) r.halts[k]:=by
   unfold ux;split<;>omega
  refine⟨by omega,fun h hh hc=>?_⟩;rw[gU (by omega),dp] at hh;rcases hh with hh|hh
  ·have:=h2 h hh hc;omega
  ·have zG:h=r.halts[k]:=by simpa using hh
   rw[zG] at hc;by_cases he:fa r o d k=d
   ·rw[he];unfold ux;rw[if_pos hc];omega
   ·omega
theorem asC {r:Realm}{o x:Int}(h:fa r o x r.halts.length=x):¬mS r o x:=by
 rintro⟨b,hb,hc⟩;have:=(ae0 (r:=r) o x r.halts.length (bJ _)).2 b (by rw[xH];exact hb) hc;omega
theorem ae1 {r:Realm}(hh:jr r)(o:Int):∀(n:Nat) (d:Int),d≤100001→(100002-d).toNat≤n→¬mS r o (qt r o n d)∧∀z,d≤z→z<qt r o n d→mS r o z
 |0,d,hd,hn=>by omega
 |n+1,d,hd,hn=>by
  obtain⟨h1,h2⟩:=K9 hh o d hd r.halts.length (bJ _);unfold qt;by_cases he:fa r o d r.halts.length=d
  ·rw[if_pos he];exact⟨asC he,fun z h1 h2=>by omega⟩
  ·rw[if_neg he];obtain⟨g1,g2⟩:=ae1 hh o n (fa r o d r.halts.length) h2 (by omega);refine⟨g1,fun z z1 z2=>?_⟩;by_cases hz:z<fa r o d r.halts.length
   ·exact Te r o d _ (bJ _) z z1 hz
   ·exact g2 z (by omega) z2
theorem Fp {r:Realm}(hh:jr r)(o d:Int)(hd:d≤100001):(d≤dy r o d∧dy r o d≤100001)∧¬mS r o (dy r o d)∧∀z,d≤z→z<dy r o d→mS r o z:=
 ⟨Tf hh o _ d hd,ae1 hh o _ d hd (bJ _)⟩
theorem asD {r:Realm}(hh:jr r)(o d e:Int)(hd:d≤100001)(he:e≤100001)(IE:d≤e)(h:∀z,d≤z→z<e→mS r o z):dy r o d=dy r o e:=by
 obtain⟨⟨a1,a2⟩,a3,a4⟩:=Fp hh o d hd;obtain⟨⟨b1,b2⟩,b3,b4⟩:=Fp hh o e he;rcases Int.lt_trichotomy (dy r o d) (dy r o e) with aq|heq|CN
 ·by_cases h1:dy r o d<e
  ·exact absurd (h _ a1 h1) a3
  ·exact absurd (b4 _ (by omega) aq) a3
 ·exact heq
 ·exact absurd (a4 _ (by omega) CN) b3
theorem asE {r:Realm}(hh:jr r)(o d:Int)(hd:d≤100001)(h:¬mS r o d):dy r o d=d:=by
 obtain⟨⟨a1,a2⟩,a3,a4⟩:=Fp hh o d hd;by_cases he:dy r o d=d
 ·exact he
 ·exact absurd (a4 d (by omega) (by omega)) h
theorem apL (c:City)(d:Int):(cK c d).2=0∨cK c d=(0,3):=by
 unfold cK;split
 ·exact .inr rfl
 ·split
  ·exact .inr rfl
  ·exact .inl rfl
theorem S9 {r:Realm}(hh:jr r)(c:City)(o:Int):∀(n m:Nat) (d:Int),d≤100001→(100002-d).toNat≤n→(100002-d).toNat≤m→nN r c o n d=nN r c o m d
 |0,_,d,hd,hn,_=>by omega
 |n+1,0,d,hd,_,hm=>by omega
 |n+1,m+1,d,hd,hn,hm=>by
  obtain⟨⟨a1,a2⟩,_⟩:=Fp hh o d hd;rw[xk,xk];by_cases h1:(cK c (dy r o d)).2=0
  ·have hx:=Jt h1;have n1:¬((cK c (dy r o d)).2≠0):=fun e=>e h1;rw[if_neg n1,if_neg n1];by_cases h2:(cK c (dy r o d)).1=dy r o d
   ·rw[if_pos h2,if_pos h2]
   ·rw[if_neg h2,if_neg h2];exact S9 hh c o n m _ (by omega) (by omega) (by omega)
  ·have n1:(cK c (dy r o d)).2≠0:=h1;rw[if_pos n1,if_pos n1]
def nM (r:Realm)(c:City)(o d:Int):Int×Int:=nN r c o (100002-d).toNat d
theorem asu {r:Realm}(hh:jr r)(c:City)(o d e:Int)(hd:d≤100001)(he:e≤100001)(IE:d≤e)(h:∀z,d≤z→z<e→mS r o z):nM r c o d=nM r c o e:=by
 unfold nM;rw[S9 hh c o (100002-e).toNat (100002-d).toNat e he (by omega) (by omega)];obtain⟨n,hn⟩:∃n,(100002-d).toNat=n+1:=⟨(100002-d).toNat-1,by omega⟩
 rw[hn,xk,xk,asD hh o d e hd he IE h]
theorem asv {r:Realm}(hh:jr r)(c:City)(o d:Int)(hd:d≤100001)(h:¬mS r o d):
 nM r c o d=if(cK c d).2≠0 then(0,3) else if(cK c d).1=d then(d,0) else nM r c o (cK c d).1:=by
 have e:nM r c o d=nN r c o (100002-d).toNat d:=rfl;obtain⟨n,hn⟩:∃n,(100002-d).toNat=n+1:=⟨(100002-d).toNat-1,by omega⟩
 rw[e,hn,xk,asE hh o d hd h];by_cases h1:(cK c d).2=0
 ·have hx:=Jt h1;have n1:¬((cK c d).2≠0):=fun e=>e h1;rw[if_neg n1,if_neg n1];by_cases h2:(cK c d).1=d
  ·rw[if_pos h2,if_pos h2]
  ·rw[if_neg h2,if_neg h2];exact S9 hh c o _ _ _ (by omega) (by omega) (by omega)
 ·have n1:(cK c d).2≠0:=h1;rw[if_pos n1,if_pos n1]
theorem ast {r:Realm}(hh:jr r)(c:City)(o d:Int)(hd:d≤100001)(h:100000<d):nM r c o d=(0,3):=by
 obtain⟨⟨a1,a2⟩,_⟩:=Fp hh o d hd;have e:nM r c o d=nN r c o (100002-d).toNat d:=rfl;obtain⟨n,hn⟩:∃n,(100002-d).toNat=n+1:=⟨(100002-d).toNat-1,by omega⟩
 rw[e,hn,xk];have:cK c (dy r o d)=(0,3):=by
  unfold cK;rw[if_pos];simp[bx];omega
 rw[this];rfl
def Jg (o d:Int)(nx:Int)(h:Halt):Int:=if(h.order=o∧h.fr≤d)∧d≤h.to then max nx (h.to+1) else nx
def j8 (r:Realm)(o d:Int)(k:Nat):Int:=(r.halts.take k).foldl (Jg o d) d
theorem aad (r:Realm)(o d:Int){k:Nat}(hk:k<r.halts.length):j8 r o d (k+1)=Jg o d (j8 r o d k) r.halts[k]:=by
 unfold j8;rw[gU hk,uR];rfl
theorem Jf {r:Realm}(hh:jr r)(o d:Int)(hd:d≤100001):∀k,k≤r.halts.length→(d≤j8 r o d k∧j8 r o d k≤100001)∧(∀z,d≤z→z<j8 r o d k→mS r o z)∧∀h,h∈r.halts.take k→(h.order=o∧h.fr≤d)∧d≤h.to→d<j8 r o d k
 |0,_=>⟨⟨by simp[j8],by simpa [j8] using hd⟩,fun z h1 h2=>by simp[j8] at h2;omega,fun h hm=>by simp at hm⟩
 |k+1,hk=>by
  obtain⟨⟨h1,h2⟩,h3,h4⟩:=Jf hh o d hd k (by omega);have hm:=cq (show k<r.halts.length by omega);have pW:=hh.2 _ hm;rw[aad r o d (by omega)];unfold Jg;by_cases hc:(r.halts[k].order=o∧r.halts[k].fr≤d)∧d≤r.halts[k].to
  ·rw[if_pos hc];refine⟨by omega,fun z z1 z2=>?_,fun h cA ls=>by omega⟩;by_cases hz:z<j8 r o d k
   ·exact h3 z z1 hz
   ·exact⟨_,hm,⟨hc.1.1,by omega⟩,by omega⟩
  ·rw[if_neg hc];refine⟨⟨h1,h2⟩,h3,fun h cA ls=>?_⟩;rw[gU (by omega),dp] at cA;rcases cA with cA|cA
   ·exact h4 h cA ls
   ·have zG:h=r.halts[k]:=by simpa using cA
    rw[zG] at ls;exact absurd ls hc
theorem anx {r:Realm}(hh:jr r)(o d:Int)(hd:d≤100001)(h:j8 r o d r.halts.length=d):¬mS r o d:=by
 rintro⟨b,hb,hc⟩;have:=(Jf hh o d hd r.halts.length (bJ _)).2.2 b (by rw[xH];exact hb) hc;omega
theorem aqZ (r:Realm)(hh:jr r)(city d:Int)(hc:0≤city∧city<r.cities.length)(hs:∀c,c∈r.cities→uy c)(fe:r.cities.length≤100000)(h0:0≤d)(hd:d≤100001):aj T 137 [aL r,.int city,.int d] (.tup [.int (qq r city d).1,.int (qq r city d).2]):=by
 refine .of_tree rfl (lA 173 (by kernel_rfl)) aun ?_;simp[Uw];refine⟨_,Ki r city fe,?_⟩;have bD:city.toNat<r.cities.length:=by omega
 have Oa:r.cities.getD city.toNat default=r.cities[city.toNat]:=by simp[bD]
 have OZ:=hs _ (cq bD);have hF:qq r city d=nM r r.cities[city.toNat] (cC r city) d:=by unfold qq nM;rw[Oa]
 rw[hF];generalize cC r city=o at*;refine aH.forLoop (α:=Int) (fun s vr vo=>vr=[.int s,.int 0,.int 0]∧vo=[]∧0≤s∧s≤100001∧nM r r.cities[city.toNat] o s=nM r r.cities[city.toNat] o d) (fun s=>(100002-s).toNat) d ?_ ?_
 ·simp;omega
 ·rintro e vr vo ⟨rfl,rfl,h1,h2,h3⟩;by_cases he:e≤100000
  case neg=>
   have hx:=ast hh r.cities[city.toNat] o e h2 (by omega);rw[h3] at hx;rw[hx];simp[aeo,KA,he]
  rw[←h3];simp[aeo,KA,he];refine aH.forRounds r.halts.length (fun k=>[.int (j8 r o e k),.int k]) (fun _=>[]) ?_ (fun k hk=>?_) ?_
  ·simp[j8]
  ·have hw:=ba hk (by have:=hh.1;omega);have de:=(Jf hh o e h2 k (by omega)).1;have pW:=hh.2 _ (cq hk);rw[aad r o e hk];unfold Jg;generalize j8 r o e k=x at*;by_cases hc:(r.halts[k].order=o∧r.halts[k].fr≤e)∧e≤r.halts[k].to
   ·have cM:IntKind.i64.wrap (r.halts[k].to+1)=r.halts[k].to+1:=aN (by omega);simp[Kz,AO,hk,hw,hc,cM];split
    ·rw[Ww (by omega)]
    ·rw[LR (by omega)]
   ·simp[Kz,AO,hk,hw,hc]
  ·have hJ:=Jf hh o e h2 r.halts.length (bJ _);have eT:=anx hh o e h2;generalize j8 r o e r.halts.length=x at*;by_cases hx:x=e
   ·subst hx;have eT:=eT rfl;rw[asv hh r.cities[city.toNat] o x h2 eT];have zN:=aqK r.cities[city.toNat] OZ x;have ml:=Jt (c:=r.cities[city.toNat]) (d:=x);have Zp:=apL r.cities[city.toNat] x;generalize cK r.cities[city.toNat] x=N at*;obtain⟨y,er⟩:=N;simp only at zN ml Zp;simp[Kz,AO,bD,hc];refine⟨_,zN,?_⟩;by_cases CI:er=0
    ·obtain⟨g1,g2,g3⟩:=ml CI;by_cases hy:y=x
     ·simp[CI,hy]
     ·simp[CI,hy];have hyx:bx x=true:=g1;simp[bx] at hyx;exact⟨y,by omega,rfl,by omega,by omega,rfl⟩
    ·have:er=3:=by
      rcases Zp with h|h
      ·exact absurd h CI
      ·injection h
     simp[CI]
     try omega
   ·have aq:e<x:=by omega
    have hG:=asu hh r.cities[city.toNat] o e x h2 hJ.1.2 hJ.1.1 hJ.2.1;simp[Kz,AO,hx];exact⟨x,by omega,rfl,by omega,by omega,hG.symm⟩
end Rm
namespace Rm
open Go Go.Proofs Cx
theorem length_eq (y m:Int)(hy:1≤y∧y≤9000)(hm:1≤m∧m≤12):rI y m=dN y m:=by
 rw[apw y m hy hm];by_cases h:m=12
 ·subst h;have h1:=PK y (by omega);rw[tW _ _ _ (by omega),tW _ _ _ (by omega)] at h1;have e:12*(y+1)+1-3=12*y+12-3+1:=by omega
  rw[e] at h1;have:dN y 12=31:=by unfold dN;simp
  omega
 ·have h1:=Jx y m (by omega) (by omega);rw[tW _ _ _ (by omega),tW _ _ _ (by omega)] at h1;have e:12*y+(m+1)-3=12*y+m-3+1:=by omega
  rw[e] at h1;omega
theorem af4 (y m d:Int)(hy:1≤y∧y≤9000)(hm:1≤m∧m≤12)(hd:1≤d∧d≤dN y m):aj T 184 [.int y,.int m,.int d] (.tup [.int (pC y m d).1,.int (pC y m d).2]):=by
 have hle:=length_eq y m hy hm;have Zd:=Du y m;have CV:wB y m d=bQ y m d:=PL y m d (by omega) hm (by omega);refine .of_tree rfl Bz Fw ?_;unfold pC;by_cases h0:2000≤y∧y≤2300
 ·have rk:oa y m d=true:=by simp[oa];omega
  rw[rk];simp[uD];rw[if_pos ⟨⟨⟨⟨h0.1,h0.2⟩,hm.1⟩,hm.2⟩,hd.1⟩];refine⟨_,Ag y m,?_⟩;rw[hle];have h2:¬dN y m<d:=by omega
  have gF:d≤dN y m:=hd.2;simp[h0,hm,hd,gF];rw[if_neg (by omega)];refine⟨_,An _ _ _,_,uL _,?_⟩;rw[CV];cases hv:bx (bQ y m d)<;>simp[hv]
 ·have rk:oa y m d=false:=by simp[oa];omega
  rw[rk];simp[uD];rw[if_neg (by omega)];intro a1 a2 a3 a4 a5;exact absurd ⟨a1,a2⟩ h0
def lD (d n:Int):Int×Int:=if 5000<n then(0,3) else sM d n
theorem afX (d n:Int)(hd:0≤d∧d≤100000)(hn:0≤n):aj T 159 [.int d,.int n] (.tup [.int (lD d n).1,.int (lD d n).2]):=by
 unfold lD;by_cases h5:5000<n
 ·rw[if_pos h5];refine .of_tree rfl F0 Lm ?_;simp[A4,h5];exact⟨_,uL d⟩
 rw[if_neg h5];obtain⟨hm,Of,hy,CV⟩:=B3 d (by omega);obtain⟨y0,y1,yl,yu⟩:=Nq d hd;have akX:=Nr d (by omega);unfold sM;generalize (bu d).1=y at*;generalize (bu d).2.1=m at*;generalize (bu d).2.2=H7 at*;obtain⟨A,hA⟩:∃A,A=12*y+m-1+n:=⟨_,rfl⟩
 have wA:IntKind.i64.wrap (IntKind.i64.wrap (IntKind.i64.wrap (IntKind.i64.wrap (12*y)+m)-1)+n)=A:=by
  rw[aN (n:=12*y) (by omega),aN (n:=12*y+m) (by omega),aN (n:=12*y+m-1) (by omega),aN (by omega)];exact hA.symm
 have wY:IntKind.i64.wrap (A.tdiv 12)=A/12:=by rw[xB (by omega)];exact aN (by omega)
 have wM:IntKind.i64.wrap (A.tmod 12+1)=A%12+1:=by rw[sE (by omega)];exact aN (by omega)
 rw[←hA,if_neg (by omega)];have hle:=length_eq (A/12) (A%12+1) (by omega) (by omega);have Zd:=Du (A/12) (A%12+1);have n1:¬n< -5000:=by omega
 have hv:bx d=true:=by simp[bx];omega
 have cT:=uL d;rw[hv] at cT;have hD:=af4 (A/12) (A%12+1) (min H7 (dN (A/12) (A%12+1))) (by omega) (by omega) (by omega);refine .of_tree rfl F0 Lm ?_;simp[A4,n1,h5];refine⟨_,cT,?_⟩;simp;refine⟨_,akX,?_⟩;simp[wA,wY,wM];refine⟨_,Ag _ _,?_⟩;rw[hle];by_cases hl:dN (A/12) (A%12+1)<H7
 ·rw[Bi (by omega)] at hD ⊢;simp[hl];exact⟨_,hD,rfl,rfl⟩
 ·rw[Bh (by omega)] at hD ⊢;simp[hl];exact⟨_,hD,rfl,rfl⟩
theorem WO (d:Int)(t:Tenor)(hd:0≤d∧d≤100000):sO d t=if t.n<0∨20000<t.n then(0,3) else if t.unit=1 then lD d t.n else(d+t.n,0):=by
 obtain⟨G,hG⟩:∃G,G=if t.n<0∨20000<t.n then(0,3) else if t.unit=1 then lD d t.n else(d+t.n,0):=⟨_,rfl⟩
 rw[←hG];have h:aj T 124 [.int d,jA t] (.tup [.int G.1,.int G.2]):=by
  by_cases h0:t.n<0
  ·rw[if_pos (.inl h0)] at hG;rw[hG];refine .of_tree rfl sR uI ?_;simp[qw,h0]
  by_cases h1:20000<t.n
  ·rw[if_pos (.inr h1)] at hG;rw[hG];refine .of_tree rfl sR uI ?_;simp[qw,h0,h1]
  rw[if_neg (by omega)] at hG;by_cases h2:t.unit=1
  ·rw[if_pos h2] at hG;rw[hG];refine .of_tree rfl sR uI ?_;simp[qw,h0,h1,h2];refine⟨_,afX d t.n hd (by omega),?_⟩;simp
  ·rw[if_neg h2] at hG;rw[hG];have hw:IntKind.i64.wrap (d+t.n)=d+t.n:=aN (by omega);refine .of_tree rfl sR uI ?_;simp[qw,h0,h1,h2,hw]
 have h2:=(Mi d t).det h;simp at h2;exact Prod.ext h2.1 h2.2
end Rm
namespace Rm
open Go Go.Proofs Cx
theorem adO (r:Realm)(fr to:Int)(hl:r.usances.length≤100000):aj T 135 [aL r,.int fr,.int to] (.tup [.int (kU r.usances fr to).1,.int (kU r.usances fr to).2]):=by
 refine .of_tree rfl (lA 165 (by kernel_rfl)) aub ?_;simp[Ul];unfold kU;refine aH.scan r.usances.length (fun k=>sB fr to (r.usances.getD k default)=false) (fun k=>[.int 0,.int 0,.int k]) (fun _=>[]) ?_ (fun k hk hj az=>?_) (fun k hk hj az=>?_) (fun hj=>?_)
 ·simp
 ·have hw:=ba hk (by omega);have hn:¬(r.usances[k].fr=fr∧r.usances[k].to=to):=by simpa [sB,hk] using az
  simp[RY,Ep,hk,hw,hn]
 ·have dK:=ot hk (by simpa [hk] using az) (fun j bm=>by have:=hj j bm;simpa [show j<r.usances.length by omega] using this);have hc:r.usances[k].fr=fr∧r.usances[k].to=to:=by simpa [sB,hk] using az
  rw[dK];simp[RY,Ep,hk,hc]
 ·have dK:=pI (l:=r.usances) (p:=sB fr to) (fun j bm=>by have:=hj j bm;simpa [bm] using this);rw[dK];simp[RY,Ep]
theorem adT (r:Realm)(n:Int):aj T 133 [aL r,.int n] (.bool (aF n r.cities.length)):=by
 refine .of_tree rfl (lA 162 (by kernel_rfl)) aum ?_;by_cases h1:0≤n<;>by_cases h2:n<r.cities.length<;>simp[Uv,h1,h2,aF]
theorem aqY (t:Tenor):aj T 134 [jA t] (.bool (su t)):=by
 refine .of_tree rfl (lA 164 (by kernel_rfl)) aul ?_;by_cases h1:t.kind=0<;>by_cases h2:t.kind=1<;>simp[Uu,h1,h2,su]
def lf (x:Int×Int):Int:=if x.2≠0∨bx x.1=false then-1 else x.1
theorem aqW (r:Realm)(b:Bill)(seen:Int)(hl:r.usances.length≤100000)(hk:0≤b.tenor.kind∧b.tenor.kind<5)(hu:b.tenor.unit=0∨b.tenor.unit=1)(hd:0≤b.day∧b.day≤100000)(hs:b.tenor.kind=1→0≤seen∧seen≤100000):
 aj T 136 [aL r,dr b,.int seen] (.int (lf (jy r.usances b seen))):=by
 refine .of_tree rfl (lA 166 (by kernel_rfl)) auj ?_;have fin:∀n:Int,lf (n,0)=if bx n=true then n else-1:=by
  intro n;unfold lf;cases bx n<;>simp
 unfold jy;by_cases h0:b.tenor.kind=0
 ·rw[if_pos h0,fin];simp[sw,h0];refine⟨_,nB _,?_⟩;cases hv:bx seen<;>simp[hv]
 rw[if_neg h0];by_cases h3:b.tenor.kind=3
 ·rw[if_neg (by omega),if_neg (by omega),if_neg (by omega),fin];simp[sw,h3];refine⟨_,nB _,?_⟩;cases hv:bx b.tenor.n<;>simp[hv]
 by_cases h4:b.tenor.kind=4
 ·rw[if_neg (by omega),if_neg (by omega),if_pos h4];have De:=adO r b.city b.pay hl;generalize kU r.usances b.city b.pay=U at*;obtain⟨n,e⟩:=U;have ku:b.day+n=n+b.day:=by omega
  simp only[] at*;rw[ku];simp[sw,h4];refine⟨_,De,?_⟩;simp;by_cases he:e=0
  ·subst he;rw[fin];simp;refine⟨_,nB _,?_⟩;cases hv:bx (IntKind.i64.wrap (n+b.day))<;>simp[hv]
  ·have:lf (IntKind.i64.wrap (n+b.day),e)=-1:=by unfold lf;rw[if_pos (.inl he)]
   rw[this];simp[he]
   try exact⟨_,nB _⟩
 have main:∀x:Int,(0≤x∧x≤100000)→x=(if b.tenor.kind=1 then seen else b.day)→(b.tenor.kind=1∨b.tenor.kind=2)→aE T sw (l8 [aL r,dr b,.int seen]) (fun y=>y=.ret (.int (lf (sO x b.tenor)))):=by
  intro x hx ZW alF;rw[WO x b.tenor hx];have Ot:(b.tenor.kind=1∨b.tenor.kind=2)=True:=eq_true alF;by_cases hn:b.tenor.n<0∨20000<b.tenor.n
  ·rw[if_pos hn];simp[sw,h0,h3,h4,Ot,hn];rfl
  rw[if_neg hn];have tD:(if b.tenor.kind=1 then D.int seen else D.int b.day)=D.int x:=by rw[ZW];split<;>rfl
  by_cases h2:b.tenor.unit=1
  ·rw[if_pos h2];have hA:=aqI x b.tenor.n;have Oc:bx x=true:=by simp[bx];omega
   rw[Oc] at hA;have j4:(if 5000<b.tenor.n then D.tup [.int 0,.int 3] else .tup [.int (sM x b.tenor.n).1,.int (sM x b.tenor.n).2])=.tup [.int (lD x b.tenor.n).1,.int (lD x b.tenor.n).2]:=by
        unfold lD;split<;>rfl
   have hA':aj T 162 [.int x,.int b.tenor.n] (.tup [.int (lD x b.tenor.n).1,.int (lD x b.tenor.n).2]):=by
        rw[←j4];by_cases h5:5000<b.tenor.n
        ·rw[if_pos (.inr (.inr h5))] at hA;rw[if_pos h5];exact hA
        ·rw[if_neg (by simp;omega)] at hA;rw[if_neg h5];exact hA
   simp[sw,h0,h3,h4,Ot,hn,h2,tD];refine⟨_,hA',?_⟩;generalize lD x b.tenor.n=M at*;obtain⟨n,e⟩:=M;simp;by_cases he:e=0
   ·subst he;rw[fin];simp;refine⟨_,nB _,?_⟩;cases hv:bx n<;>simp[hv]
   ·have:lf (n,e)=-1:=by unfold lf;rw[if_pos (.inl he)]
    rw[this];simp[he]
    try exact⟨_,nB _⟩
  ·rw[if_neg h2,fin];have hw:IntKind.i64.wrap (x+b.tenor.n)=x+b.tenor.n:=aN (by omega);simp[sw,h0,h3,h4,Ot,hn,h2,←ZW,hw];refine⟨_,nB _,?_⟩;cases hv:bx (x+b.tenor.n)<;>simp[hv]
 by_cases h1:b.tenor.kind=1
 ·rw[if_pos h1];exact main seen (hs h1) (by rw[if_pos h1]) (.inl h1)
 ·rw[if_neg h1,if_pos (by omega)];exact main b.day hd (by rw[if_neg h1]) (.inr (by omega))
theorem ahH (y m d:Int):(pC y m d).2=0∨(pC y m d).2=3:=by
 unfold pC;split<;>simp
theorem apv (d n:Int):(lD d n).2=0∨(lD d n).2=3:=by
 unfold lD;split
 ·simp
 ·unfold sM;split
  ·simp
  ·exact ahH _ _ _
theorem awh (l:List Usance)(a b:Int):(kU l a b).2=0∨(kU l a b).2=4:=by
 unfold kU;split<;>simp
theorem agN (l:List Usance)(b:Bill)(seen:Int)(hd:0≤b.day∧b.day≤100000)(hs:b.tenor.kind=1→0≤seen∧seen≤100000)(h4:b.tenor.kind≠4):(jy l b seen).2=0∨(jy l b seen).2=3:=by
 have af:∀x,(0≤x∧x≤100000)→(sO x b.tenor).2=0∨(sO x b.tenor).2=3:=by
  intro x hx;rw[WO x _ hx];split
  ·simp
  split
  ·exact apv _ _
  ·simp
 unfold jy;split
 ·simp
 split
 ·rename_i h;exact af _ (hs h)
 split
 ·exact af _ hd
 simp
theorem aqX (r:Realm)(hr:RightD r)(fe:r.cities.length≤100000)(b:Bill)(seen bA:Int):aj T 95 [aL r,dr b,.int seen,.int bA] (.tup [.int (qY r b seen bA).1,.int (qY r b seen bA).2]):=by
 have I8:D.agg [D.int b.tenor.kind,D.int b.tenor.n,D.int b.tenor.unit]=jA b.tenor:=rfl;have gG:=adL r hr.small;have De:=adO r b.city b.pay (by have:=hr.small.us;omega);obtain⟨G,hG⟩:∃G,G=qY r b seen bA:=⟨_,rfl⟩
 rw[←hG];unfold qY at hG;refine .of_tree rfl (lA 161 (by kernel_rfl)) auk ?_;simp[Ut];refine⟨_,gG,?_⟩;by_cases h0:dJ r=0
 case neg=>simp[h0] at hG ⊢;simp[hG]
 simp[h0] at hG ⊢;refine⟨_,adT r b.city,?_⟩;cases h1:aF b.city r.cities.length
 ·simp[h1] at hG ⊢;simp[hG]
 simp[h1] at hG ⊢;refine⟨_,adT r b.pay,?_⟩;cases h2:aF b.pay r.cities.length
 ·simp[h2] at hG ⊢;simp[hG]
 simp[h2] at hG ⊢;refine⟨_,nB b.day,?_⟩;cases h3:bx b.day
 ·simp[h3] at hG ⊢;simp[hG]
 simp[h3] at hG ⊢;have hp:0≤b.pay∧b.pay<r.cities.length:=by simpa [aF] using h2
 have bf:0≤b.day∧b.day≤100000:=by simpa [bx] using h3
 by_cases h4:((b.tenor.kind<0∨5≤b.tenor.kind)∨b.tenor.unit<0)∨2≤b.tenor.unit
 ·rw[if_pos h4] at hG;rw[if_neg (by omega)];rw[if_pos (by omega)];simp[hG]
 rw[if_neg h4] at hG;have fin:G=(if su b.tenor=true∧seen=-1 then(0,4) else Af r b.pay bA (jy r.usances b seen))→0≤bA→bA≤20000→(seen=-1∨(0≤seen∧seen≤100000))→
  ∃d,aj T 134 [jA b.tenor] d∧
     if d.b=true∧seen=-1 then 0=G.1∧4=G.2
     else
      if b.tenor.kind=4 then
       ∃d,aj T 135 [aL r,D.int b.city,D.int b.pay] d∧
            if(d.tget 1).i=0 then
             ∃d,aj T 136 [aL r,dr b,D.int seen] d∧
               if d.i<0∨100000<IntKind.i64.wrap (d.i+bA) then 0=G.1∧3=G.2
               else ∃nZ,aj T 137 [aL r,D.int b.pay,D.int (IntKind.i64.wrap (d.i+bA))] nZ∧nZ.tget 0=D.int G.1∧nZ.tget 1=D.int G.2
            else 0=G.1∧4=G.2
      else
       ∃d,aj T 136 [aL r,dr b,D.int seen] d∧
            if d.i<0∨100000<IntKind.i64.wrap (d.i+bA) then 0=G.1∧3=G.2
            else ∃nZ,aj T 137 [aL r,D.int b.pay,D.int (IntKind.i64.wrap (d.i+bA))] nZ∧nZ.tget 0=D.int G.1∧nZ.tget 1=D.int G.2:=by
  intro hG g0 g1 amF;refine⟨_,aqY b.tenor,?_⟩;by_cases vR:su b.tenor=true∧seen=-1
  ·rw[if_pos vR] at hG;simp[vR,hG]
  rw[if_neg vR] at hG;simp only[Xy];rw[if_neg vR];have bE:b.tenor.kind=1→0≤seen∧seen≤100000:=by
   intro h;rcases amF with h'|h'
   ·exact absurd ⟨by simp[su,h],h'⟩ vR
   ·exact h'
  have hB:=aqW r b seen (by have:=hr.small.us;omega) (by omega) (by omega) bf bE;have tail:((jy r.usances b seen).2=0∨(jy r.usances b seen).2=3)→∃d,aj T 136 [aL r,dr b,D.int seen] d∧
              if d.i<0∨100000<IntKind.i64.wrap (d.i+bA) then 0=G.1∧3=G.2
              else ∃nZ,aj T 137 [aL r,D.int b.pay,D.int (IntKind.i64.wrap (d.i+bA))] nZ∧nZ.tget 0=D.int G.1∧nZ.tget 1=D.int G.2:=by
   intro alb;refine⟨_,hB,?_⟩;unfold Af at hG;generalize jy r.usances b seen=B at*;obtain⟨n,e⟩:=B;simp only at hG alb;by_cases he:e=0
   ·subst he;cases hv:bx n
    ·have:lf (n,0)=-1:=by unfold lf;rw[if_pos (.inr hv)]
     rw[if_neg (by simp),if_pos (.inl hv)] at hG;simp[this,hG]
    ·have hn:0≤n∧n≤100000:=by simpa [bx] using hv
     have hw:IntKind.i64.wrap (n+bA)=n+bA:=aN (by omega);have:lf (n,0)=n:=by unfold lf;rw[if_neg (by simp[hv])]
     rw[if_neg (by simp),hw] at hG;rw[this];simp only[Xz,hw];by_cases hle:100000<n+bA
     ·rw[if_pos (.inr hle)] at hG;rw[if_pos (.inr hle)];simp[hG]
     ·rw[if_neg (by simp[hv];omega)] at hG;rw[if_neg (by omega)];refine⟨_,aqZ r hr.halts b.pay (n+bA) hp hr.cities fe (by omega) (by omega),?_⟩;simp[hG]
   ·have:lf (n,e)=-1:=by unfold lf;rw[if_pos (.inl he)]
    have h3:e=3:=by omega
    subst h3;rw[if_pos he] at hG;simp[this,hG]
  by_cases k4:b.tenor.kind=4
  ·rw[if_pos k4];refine⟨_,De,?_⟩;have N2:(jy r.usances b seen).2=(kU r.usances b.city b.pay).2:=by
        unfold jy;rw[if_neg (by omega),if_neg (by omega),if_neg (by omega),if_pos k4]
   by_cases he:(kU r.usances b.city b.pay).2=0
   ·simp[he];exact tail (.inl (by rw[N2,he]))
   ·have h4:(kU r.usances b.city b.pay).2=4:=by
      rcases awh r.usances b.city b.pay with h|h
      ·exact absurd h he
      ·exact h
    unfold Af at hG;rw[if_pos (by rw[N2];exact he),N2,h4] at hG;simp[h4,hG]
  ·rw[if_neg k4];exact tail (agN _ _ _ bf bE k4)
 by_cases hs:seen=-1
 ·rw[if_neg (by simp[hs])];by_cases h5:bA<0∨20000<bA
  ·rw[if_pos (by rcases h5 with h|h;exact .inl (.inr h);exact .inr h)] at hG;rw[if_pos (by omega)];simp[hG]
  ·rw[if_neg (by rintro((h|h)|h);exact h.1 hs;exact h5 (.inl h);exact h5 (.inr h))] at hG;rw[if_neg (by omega)];exact fin hG (by omega) (by omega) (.inl hs)
 ·rw[if_pos ⟨hs,by omega⟩];refine⟨_,nB seen,?_⟩;simp only[Xy];by_cases h5:(¬seen=-1∧bx seen=false∨bA<0)∨20000<bA
  ·rw[if_pos h5] at hG;rw[if_pos (by rcases h5 with(h|h)|h<;>simp[h])];simp[hG]
  ·rw[if_neg h5] at hG;rw[if_neg (by rintro((((h|h)|h)|h));exact h4 h;exact h5 (.inl (.inl h));exact h5 (.inl (.inr h));exact h5 (.inr h))];have hv:0≤seen∧seen≤100000:=by
     cases e:bx seen
     ·exact absurd (.inl (.inl ⟨hs,e⟩)) h5
     ·simpa [bx] using e
   exact fin hG (by omega) (by omega) (.inr hv)
end Rm
namespace Rm
open Go Go.Proofs Cx
def minD:List Int→Int
 |[]=>0
 |x::l=>l.foldl min x
theorem aaV (l:List Int)(x:Int):minD (l++[x])=if l=[] then x else min (minD l) x:=by
 cases l with
 |nil=>rfl
 |cons y l=>
  rw[if_neg (by simp)];show(l++[x]).foldl min y=_;rw[uR];rfl
theorem apt {l:List Int}(h:l≠[]):ns l=minD l:=by
 cases l with
 |nil=>exact absurd rfl h
 |cons x l=>rfl
def kP (f:File)(n:Nat):List Int:=((f.signs.take n).filter (fun s=>decide (s.kind=1))).map (·.day)
def ko (f:File)(n:Nat):List Int:=((f.acts.take n).filter (fun s=>decide (s.kind=1))).map (·.day)
theorem asq (f:File):lK f=if f.bill.tenor.kind=0 then(match f.acts.find? (fun a=>decide (a.kind=2)) with|some a=>a.day|none=>-1) else if f.bill.tenor.kind=1∧kP f f.signs.length++ko f f.acts.length≠[] then minD (kP f f.signs.length++ko f f.acts.length) else-1:=by
 unfold lK;by_cases h0:f.bill.tenor.kind=0
 ·rw[if_pos h0]
  have e:ss f=fun a=>decide (a.kind=2):=by
   funext a;simp[ss,h0]
  rw[e];have hn:¬f.bill.tenor.kind=1:=by omega
  have e2:iS f f.signs.length++gS f f.acts.length=[]:=by simp[iS,gS,hn]
  rw[e2];rfl
 ·rw[if_neg h0];have e:f.acts.find? (ss f)=none:=by
   rw[sG];intro a _;simp[ss,h0]
  rw[e];simp only;by_cases h1:f.bill.tenor.kind=1
  ·have e2:iS f f.signs.length++gS f f.acts.length=kP f f.signs.length++ko f f.acts.length:=by simp only[iS,gS,if_pos h1,kP,ko]
   rw[e2];by_cases h2:kP f f.signs.length++ko f f.acts.length=[]
   ·rw[if_neg (by simp[h2]),h2];rfl
   ·rw[if_pos ⟨h1,h2⟩];exact apt h2
  ·have e2:iS f f.signs.length++gS f f.acts.length=[]:=by simp[iS,gS,h1]
   rw[if_neg (fun h=>h1 h.1),e2];rfl
theorem aq4 (f:File)(h1:f.signs.length≤100000)(h2:f.acts.length≤100000):aj T 96 [cd f] (.int (lK f)):=by
 refine .of_tree rfl (lA 160 (by kernel_rfl)) aut ?_;rw[asq];by_cases h0:f.bill.tenor.kind=0
 ·rw[if_pos h0];simp[Lr,h0];refine aH.scan f.acts.length (fun k=>¬(f.acts.getD k default).kind=2) (fun k=>[.int 0,.int k]) (fun _=>[]) ?_ (fun k hk hj az=>?_) (fun k hk hj az=>?_) (fun hj=>?_)
  ·simp
  ·have hw:=ba hk (by omega);have hn:¬f.acts[k].kind=2:=by simpa [hk] using az
   simp[Sc,EE,hk,hw,hn]
  ·have dK:=ot (p:=fun a:Act=>decide (a.kind=2)) hk (by simpa [hk] using az) (fun j bm=>by have:=hj j bm;simpa [show j<f.acts.length by omega] using this);have hc:f.acts[k].kind=2:=by simpa [hk] using az
   rw[dK];simp[Sc,EE,hk,hc]
  ·have dK:=pI (l:=f.acts) (p:=fun a:Act=>decide (a.kind=2)) (fun j bm=>by have:=hj j bm;simpa [bm] using this);rw[dK];simp[Sc,EE]
 rw[if_neg h0];obtain⟨G,hG⟩:∃G,G=if f.bill.tenor.kind=1∧kP f f.signs.length++ko f f.acts.length≠[] then minD (kP f f.signs.length++ko f f.acts.length) else-1:=⟨_,rfl⟩
 rw[←hG];simp[Lr,h0];refine aH.forRounds f.signs.length (fun k=>[.bool (!(kP f k).isEmpty),.int (minD (kP f k)),.int k]) (fun _=>[]) ?_ (fun k hk=>?_) ?_
 ·simp[kP,minD]
 ·have hw:=ba hk (by omega);have hs:kP f (k+1)=kP f k++if f.signs[k].kind=1 then[f.signs[k].day] else[]:=by
   unfold kP;simp only[uz _ _ hk,px]
   congr 1
   by_cases h':f.signs[k].kind=1<;>simp[h']
  rw[hs];generalize kP f k=A at*;by_cases hc:f.signs[k].kind=1
  ·rw[if_pos hc,aaV];cases A with
   |nil=>simp[EF,xc,hk,hw,hc]
   |cons x A=>
    have j4:(if f.signs[k].day<minD (x::A) then f.signs[k].day else minD (x::A))=min (minD (x::A)) f.signs[k].day:=by
      split<;>omega
    generalize minD (x::A)=m at*;by_cases hl:f.signs[k].day<m
    ·rw[if_pos hl] at j4;simp[EF,xc,hk,hw,hc,hl,←j4]
    ·rw[if_neg hl] at j4;simp[EF,xc,hk,hw,hc,hl,←j4]
  ·rw[if_neg hc,qG];simp[EF,xc,hk,hw,hc]
 ·generalize kP f f.signs.length=S at*;simp[EF,xc];refine aH.forRounds f.acts.length (fun k=>[.bool (!(S++ko f k).isEmpty),.int (minD (S++ko f k)),.int k]) (fun _=>[]) ?_ (fun k hk=>?_) ?_
  ·simp[ko]
  ·have hw:=ba hk (by omega);have hs:ko f (k+1)=ko f k++if f.acts[k].kind=1 then[f.acts[k].day] else[]:=by
        unfold ko;simp only[uz _ _ hk,px]
        congr 1
        by_cases h':f.acts[k].kind=1<;>simp[h']
   rw[hs,←nS];generalize S++ko f k=A at*;by_cases hc:f.acts[k].kind=1
   ·rw[if_pos hc,aaV];cases A with
    |nil=>simp[xd,sf,hk,hw,hc]
    |cons x A=>
     have j4:(if f.acts[k].day<minD (x::A) then f.acts[k].day else minD (x::A))=min (minD (x::A)) f.acts[k].day:=by
       split<;>omega
     generalize minD (x::A)=m at*;by_cases hl:f.acts[k].day<m
     ·rw[if_pos hl] at j4;simp[xd,sf,hk,hw,hc,hl,←j4]
     ·rw[if_neg hl] at j4;simp[xd,sf,hk,hw,hc,hl,←j4]
   ·rw[if_neg hc,qG];simp[xd,sf,hk,hw,hc]
  ·generalize S++ko f f.acts.length=A at*;by_cases h3:f.bill.tenor.kind=1
   ·cases A with
    |nil=>
     rw[if_neg (by simp)] at hG;simp[xd,sf,h3,hG]
    |cons x A=>
     rw[if_pos ⟨h3,by simp⟩] at hG;simp[xd,sf,h3,hG]
   ·rw[if_neg (fun h=>h3 h.1)] at hG;simp[xd,sf,h3,hG]
end Rm
namespace Rm
open Go Go.Proofs Cx
theorem anG {r:Realm}{a q:Int}{l:List Int}(h:(cN r a q l).1≠[]):ix r a q l=true∧l.getD 0 0=a:=by
 unfold cN at h;split at h
 ·assumption
 ·exact absurd rfl h
theorem ad6 (r:Realm)(hr:Right r)(hc:dJ r=0)(fe:r.cities.length≤100000)(forum q:Int)(c:Case)(hf:FewS c.file):aj T 52 [aL r,.int forum,.int q,ei c] (jz (jX r forum q c)):=by
 have hP:=arp r hc fe forum c hf;have hQ:=Rz q;refine .of_tree rfl (lA 123 (by kernel_rfl)) au0 ?_;simp[UW];refine⟨_,hP,?_⟩;by_cases hp:dE r forum c=[]
 ·rw[aac (.inl hp),hp];simp
  try rfl
 have eu:¬((dE r forum c).length:Int)=0:=by
  have:=xD.mpr hp;omega
 by_cases hq:q<0∨22≤q
 ·rw[aac (.inr hq)];have:¬(0≤q∧q<22):=by omega
  simp[hp,eu];refine⟨_,hQ,?_⟩;simp[this]
  try rfl
 have hj:=anw hr hc hp hq;have ZD:0≤q∧q<22:=by omega
 obtain⟨IG,rn⟩:=anG hj.path;have hL:=arj r hr.by_ (apZ hc) hr.len forum q (dE r forum c) IG ZD rn;have hC:=ad8 r fe c hf;have hlen:=aai r forum q (dE r forum c);have Ow:=Ji hr (a:=forum) (q:=q) (l:=dE r forum c) (by have:=(zi IG).2.1;omega);have hol:=hr.len;rw[hj.ask];have Zx:=hj.path;simp[hp,eu];refine⟨_,hQ,?_⟩;simp[ZD];refine⟨_,hL,?_⟩;generalize cN r forum q (dE r forum c)=L at*;obtain⟨path,err⟩:=L;simp only at*;have zR:=xD.mpr Zx;have zP:¬(path.length:Int)=0:=by omega
 by_cases he:err=0
 ·obtain⟨h1,h2⟩:=Ow he;have vY:IntKind.i64.wrap ((path.length:Int)-1)=(path.length:Int)-1:=aN (by omega);have vK:((path.length:Int)-1).toNat=path.length-1:=by omega
  have aq:path.length-1<path.length:=by omega
  have ib:cg path=path[path.length-1]:=by simp[cg,aq]
  have h3:(cg path).toNat<r.orders.length:=by omega
  have h4:gw r (cg path)=r.orders[(cg path).toNat]:=by simp[gw,h3]
  obtain⟨az,hrl⟩:=hr.ok _ (cq h3);simp[he,Zx,vY,vK,aq,←ib,h2,h3,h4];refine⟨by omega,_,hC,_,ard _ q _ az (by omega),?_⟩;simp
  try rfl
 ·simp[he]
  try rfl
theorem ad7 (r:Realm)(hr:Right r)(hc:dJ r=0)(fe:r.cities.length≤100000)(forum q:Int)(f:File)(day:Int)(hf:FewS f):aj T 67 [aL r,.int forum,.int q,cd f,.int day] (jz (eG r forum q f day)):=by
 refine .of_tree rfl (lA 122 (by kernel_rfl)) au1 ?_;simp[UX];refine⟨jz (eG r forum q f day),ad6 r hr hc fe forum q ⟨{f with facts:=[]},0,-1,-1,-1,day⟩ ⟨hf.1,hf.2,hf.3,by simp⟩,?_⟩;simp
 try rfl
theorem WX {r:Realm}{forum q:Int}{c d:Case}(h:bM c=bM d):jX r forum q c=jX r forum q d:=by
 have e:eh r forum q c=eh r forum q d:=by unfold eh;rw[h]
 unfold jX;rw[e]
theorem W4 (r:Realm)(forum q:Int)(f:File)(day:Int):eG r forum q (bq f day) day=eG r forum q f day:=by
 unfold eG;refine WX ?_;unfold bM;simp only[agI,Mn _ (LQ day)]
theorem apS (r:Realm)(forum:Int)(f:File)(day:Int):-1≤iO (eG r forum 6 f day):=by
 unfold iO;split
 ·omega
 rename_i h;have hk:(eG r forum 6 f day).cell.known=true:=by
  cases e:(eG r forum 6 f day).cell.known
  ·exact absurd (.inr e) h
  ·rfl
 unfold eG jX at hk ⊢;split
 ·rename_i h1;rw[if_pos h1] at hk;unfold eh at hk;split at hk
  ·cases hk
  split at hk
  ·cases hk
  split at hk
  ·cases hk
  ·cases hk
 ·rename_i h1;rw[if_neg h1] at hk;simp only at hk ⊢;unfold lX at hk ⊢;split
  ·rename_i h2;rw[if_pos h2] at hk;cases hk
  ·rename_i h2;rw[if_neg h2] at hk;have ht:(eD 6).1=0:=rfl;split
   ·simp only;omega
   ·rename_i h3;have:(om (eh r forum 6 ⟨{f with facts:=[]},0,-1,-1,-1,day⟩).2 (findF (gw r (eh r forum 6 ⟨{f with facts:=[]},0,-1,-1,-1,day⟩).1.order) 6).1).known=false:=by
     cases e:(om (eh r forum 6 ⟨{f with facts:=[]},0,-1,-1,-1,day⟩).2 (findF (gw r (eh r forum 6 ⟨{f with facts:=[]},0,-1,-1,-1,day⟩).1.order) 6).1).known
     ·rfl
     ·exact absurd ⟨ht,e⟩ h3
    rw[if_neg h3] at hk;simp only at hk;rw[this] at hk;cases hk
theorem arn (r:Realm)(hr:Right r)(hd:RightD r)(hc:dJ r=0)(fe:r.cities.length≤100000)(forum:Int)(f:File)(day:Int)(hf:FewS f):aj T 51 [aL r,.int forum,cd f,.int day] (.int (kG r forum f day)):=by
 refine .of_tree rfl (lA 158 (by kernel_rfl)) au4 ?_;simp[U0];refine⟨_,D7 f day (by have:=hf.signs;omega) (by have:=hf.acts;omega) (by have:=hf.alters;omega) (by have:=hf.facts;omega),?_⟩;have hg:=hf.at_ day;have hB:=ad7 r hr hc fe forum 6 f day hf;have oF:=apS r forum f day;unfold kG;rw[W4];generalize eG r forum 6 f day=B at*;generalize bq f day=g at*;simp;by_cases h0:g.signs=[]
 ·simp[h0]
 simp[h0];refine⟨_,hB,_,aro B,_,aq4 g (by have:=hg.signs;omega) (by have:=hg.acts;omega),?_⟩;have hm:(if iO B=-1 then D.int 0 else D.int (iO B))=D.int (max (iO B) 0):=by
  split
  ·rename_i h;rw[h];rfl
  ·rw[LR (by omega)]
 have th:=aqX r hd fe f.bill (lK g) (max (iO B) 0);rw[←ahP hd] at th;simp
 try rw[hm]
 refine⟨_,th,?_⟩;by_cases he:(pD r f.bill (lK g) (max (iO B) 0)).2=0<;>simp[he]
end Rm
namespace Rm
open Go Go.Proofs Cx
def TR:PT:=
 (.call ⟨[],[(16386,pL),(12290,pL),(2,(.setc (.con (.agg [(.v (.string ⟨#[]⟩)),(.bool false),(.list []),(.list [])])) 0 (.mk [(.con (.v (.string ⟨#[103,101,110,101,118,97]⟩))),pF,pL,pL]))),(1,(.con (.agg [(.int 0),(.int 0),(.int 0),(.int 0),(.int 0),(.int 0),(.int 0),(.int 0),(.int 0),(.int 0),(.int 0),(.int 0),(.int 0),(.int 0),(.int 0),(.list []),(.list []),(.list []),(.list [])]))),(0,(.con (.agg [(.list []),(.list []),(.list []),(.list []),(.list []),(.list []),(.list []),(.list [])])))]⟩ [] 8 54 [(pi 7)]
 (.call ⟨[(9,(.mk [(pi 0),r8]))],[]⟩ [] 10 54 [(pi 16)]
 (.call ⟨[(11,(.mk [(pi 1),bY]))],[]⟩ [] 12 54 [(pi 15)]
 (.call ⟨[(13,(.mk [(pi 2),bR]))],[]⟩ [] 14 54 [(pi 14)]
 (.chk (aX (.llen (.app (.o 16386) (.lst [r9,bK,cU,(.mk [(pi 4),ct])]))) (pi 4294967296))
 (.chk (aX (.llen (.app pL (.lst [(.mk [(pi 0),(pi 0),(pi 0),(pi (-1)),(pi (-1)),(pi 0),(pi 2),(pi 0),(pi 0)])]))) (pi 4294967296))
 (.chk (aX (.llen (.app (.app pL (.lst [(.mk [(pi 0),(pi 0),(pi 0),(pi (-1)),(pi (-1)),(pi 0),(pi 2),(pi 0),(pi 0)])])) (.lst [(.mk [(pi 1),(pi 0),(pi 1),(pi (-1)),(pi (-1)),(pi 400),(pi 3),(pi 0),(pi 0)])]))) (pi 4294967296))
 (.chk (aX (.llen (.app (.app (.app pL (.lst [(.mk [(pi 0),(pi 0),(pi 0),(pi (-1)),(pi (-1)),(pi 0),(pi 2),(pi 0),(pi 0)])])) (.lst [(.mk [(pi 1),(pi 0),(pi 1),(pi (-1)),(pi (-1)),(pi 400),(pi 3),(pi 0),(pi 0)])])) (.lst [(.mk [(pi 2),(pi 0),(pi 0),(pi (-1)),(pi 1),(pi 0),(pi 4),(pi 0),(pi 0)])]))) (pi 4294967296))
 (.ret (.tup [(ar 8 (.setc o0 0 (.mk [(pc (.setc (.con (.agg [(.list []),(.list []),(.list []),(.list []),(.list []),(.list []),(.list []),(.list [])])) 0 (.mk [(.lst [(.con (.v (.string ⟨#[102,114,97,110,99]⟩)))]),(.lst [(.mk [(.con (.v (.string ⟨#[76,121,111,110]⟩))),(pi 0),(pi 0),pL,pL,pL])]),(.lst [(.mk [(pi 0)])]),(.lst [(.mk [(.con (.v (.string ⟨#[66,111,100,109,101,114]⟩))),(pi 0),(pi 0)]),(.mk [(.con (.v (.string ⟨#[72,111,112,101]⟩))),(pi 0),(pi 0)])]),(.lst [(.mk [(pc (.setc o2 3 pN) 0),(pc (.setc o2 3 pN) 1),(.o 12290),(.app (.o 16386) (.lst [r9,bK,cU,(.mk [(pi 4),ct])]))])]),pL,pL,pL])) 0),(pc (.setc (.con (.agg [(.list []),(.list []),(.list []),(.list []),(.list []),(.list []),(.list []),(.list [])])) 0 (.mk [(.lst [(.con (.v (.string ⟨#[102,114,97,110,99]⟩)))]),(.lst [(.mk [(.con (.v (.string ⟨#[76,121,111,110]⟩))),(pi 0),(pi 0),pL,pL,pL])]),(.lst [(.mk [(pi 0)])]),(.lst [(.mk [(.con (.v (.string ⟨#[66,111,100,109,101,114]⟩))),(pi 0),(pi 0)]),(.mk [(.con (.v (.string ⟨#[72,111,112,101]⟩))),(pi 0),(pi 0)])]),(.lst [(.mk [(pc (.setc o2 3 pN) 0),(pc (.setc o2 3 pN) 1),(.o 12290),(.app (.o 16386) (.lst [r9,bK,cU,(.mk [(pi 4),ct])]))])]),pL,pL,pL])) 1),(pc (.setc (.con (.agg [(.list []),(.list []),(.list []),(.list []),(.list []),(.list []),(.list []),(.list [])])) 0 (.mk [(.lst [(.con (.v (.string ⟨#[102,114,97,110,99]⟩)))]),(.lst [(.mk [(.con (.v (.string ⟨#[76,121,111,110]⟩))),(pi 0),(pi 0),pL,pL,pL])]),(.lst [(.mk [(pi 0)])]),(.lst [(.mk [(.con (.v (.string ⟨#[66,111,100,109,101,114]⟩))),(pi 0),(pi 0)]),(.mk [(.con (.v (.string ⟨#[72,111,112,101]⟩))),(pi 0),(pi 0)])]),(.lst [(.mk [(pc (.setc o2 3 pN) 0),(pc (.setc o2 3 pN) 1),(.o 12290),(.app (.o 16386) (.lst [r9,bK,cU,(.mk [(pi 4),ct])]))])]),pL,pL,pL])) 2),(pc (.setc (.con (.agg [(.list []),(.list []),(.list []),(.list []),(.list []),(.list []),(.list []),(.list [])])) 0 (.mk [(.lst [(.con (.v (.string ⟨#[102,114,97,110,99]⟩)))]),(.lst [(.mk [(.con (.v (.string ⟨#[76,121,111,110]⟩))),(pi 0),(pi 0),pL,pL,pL])]),(.lst [(.mk [(pi 0)])]),(.lst [(.mk [(.con (.v (.string ⟨#[66,111,100,109,101,114]⟩))),(pi 0),(pi 0)]),(.mk [(.con (.v (.string ⟨#[72,111,112,101]⟩))),(pi 0),(pi 0)])]),(.lst [(.mk [(pc (.setc o2 3 pN) 0),(pc (.setc o2 3 pN) 1),(.o 12290),(.app (.o 16386) (.lst [r9,bK,cU,(.mk [(pi 4),ct])]))])]),pL,pL,pL])) 3),(pc (.setc (.con (.agg [(.list []),(.list []),(.list []),(.list []),(.list []),(.list []),(.list []),(.list [])])) 0 (.mk [(.lst [(.con (.v (.string ⟨#[102,114,97,110,99]⟩)))]),(.lst [(.mk [(.con (.v (.string ⟨#[76,121,111,110]⟩))),(pi 0),(pi 0),pL,pL,pL])]),(.lst [(.mk [(pi 0)])]),(.lst [(.mk [(.con (.v (.string ⟨#[66,111,100,109,101,114]⟩))),(pi 0),(pi 0)]),(.mk [(.con (.v (.string ⟨#[72,111,112,101]⟩))),(pi 0),(pi 0)])]),(.lst [(.mk [(pc (.setc o2 3 pN) 0),(pc (.setc o2 3 pN) 1),(.o 12290),(.app (.o 16386) (.lst [r9,bK,cU,(.mk [(pi 4),ct])]))])]),pL,pL,pL])) 4),pL,pL,pL]))),(ar 19 (.setc o1 0 (.mk [(pc (.setc (.setc (.setc (.setc (.setc (.setc (.con (.agg [(.int 0),(.int 0),(.int 0),(.int 0),(.int 0),(.int 0),(.int 0),(.int 0),(.int 0),(.int 0),(.int 0),(.int 0),(.int 0),(.int 0),(.int 0),(.list []),(.list []),(.list []),(.list [])])) 0 (.mk [(.mk [(pi 0),(pi 1),(pi 0),(pi 500),(pi 0),(.mk [(pi 3),(pi 10),(pi 0)]),(pi 2),(pi 0),(pi 0),(pi (-1)),(pi 0),(pi 1),(pi 1)]),pL,pL,pL,pL])) 15 pN) 15 pN) 15 pN) 16 pN) 18 pN) 0),(pc (.setc (.setc (.setc (.setc (.setc (.setc (.con (.agg [(.int 0),(.int 0),(.int 0),(.int 0),(.int 0),(.int 0),(.int 0),(.int 0),(.int 0),(.int 0),(.int 0),(.int 0),(.int 0),(.int 0),(.int 0),(.list []),(.list []),(.list []),(.list [])])) 0 (.mk [(.mk [(pi 0),(pi 1),(pi 0),(pi 500),(pi 0),(.mk [(pi 3),(pi 10),(pi 0)]),(pi 2),(pi 0),(pi 0),(pi (-1)),(pi 0),(pi 1),(pi 1)]),pL,pL,pL,pL])) 15 pN) 15 pN) 15 pN) 16 pN) 18 pN) 1),(pc (.setc (.setc (.setc (.setc (.setc (.setc (.con (.agg [(.int 0),(.int 0),(.int 0),(.int 0),(.int 0),(.int 0),(.int 0),(.int 0),(.int 0),(.int 0),(.int 0),(.int 0),(.int 0),(.int 0),(.int 0),(.list []),(.list []),(.list []),(.list [])])) 0 (.mk [(.mk [(pi 0),(pi 1),(pi 0),(pi 500),(pi 0),(.mk [(pi 3),(pi 10),(pi 0)]),(pi 2),(pi 0),(pi 0),(pi (-1)),(pi 0),(pi 1),(pi 1)]),pL,pL,pL,pL])) 15 pN) 15 pN) 15 pN) 16 pN) 18 pN) 2),(pc (.setc (.setc (.setc (.setc (.setc (.setc (.con (.agg [(.int 0),(.int 0),(.int 0),(.int 0),(.int 0),(.int 0),(.int 0),(.int 0),(.int 0),(.int 0),(.int 0),(.int 0),(.int 0),(.int 0),(.int 0),(.list []),(.list []),(.list []),(.list [])])) 0 (.mk [(.mk [(pi 0),(pi 1),(pi 0),(pi 500),(pi 0),(.mk [(pi 3),(pi 10),(pi 0)]),(pi 2),(pi 0),(pi 0),(pi (-1)),(pi 0),(pi 1),(pi 1)]),pL,pL,pL,pL])) 15 pN) 15 pN) 15 pN) 16 pN) 18 pN) 3),(pc (.setc (.setc (.setc (.setc (.setc (.setc (.con (.agg [(.int 0),(.int 0),(.int 0),(.int 0),(.int 0),(.int 0),(.int 0),(.int 0),(.int 0),(.int 0),(.int 0),(.int 0),(.int 0),(.int 0),(.int 0),(.list []),(.list []),(.list []),(.list [])])) 0 (.mk [(.mk [(pi 0),(pi 1),(pi 0),(pi 500),(pi 0),(.mk [(pi 3),(pi 10),(pi 0)]),(pi 2),(pi 0),(pi 0),(pi (-1)),(pi 0),(pi 1),(pi 1)]),pL,pL,pL,pL])) 15 pN) 15 pN) 15 pN) 16 pN) 18 pN) 4),(pc (.setc (.setc (.setc (.setc (.setc (.setc (.con (.agg [(.int 0),(.int 0),(.int 0),(.int 0),(.int 0),(.int 0),(.int 0),(.int 0),(.int 0),(.int 0),(.int 0),(.int 0),(.int 0),(.int 0),(.int 0),(.list []),(.list []),(.list []),(.list [])])) 0 (.mk [(.mk [(pi 0),(pi 1),(pi 0),(pi 500),(pi 0),(.mk [(pi 3),(pi 10),(pi 0)]),(pi 2),(pi 0),(pi 0),(pi (-1)),(pi 0),(pi 1),(pi 1)]),pL,pL,pL,pL])) 15 pN) 15 pN) 15 pN) 16 pN) 18 pN) 5),(pc (.setc (.setc (.setc (.setc (.setc (.setc (.con (.agg [(.int 0),(.int 0),(.int 0),(.int 0),(.int 0),(.int 0),(.int 0),(.int 0),(.int 0),(.int 0),(.int 0),(.int 0),(.int 0),(.int 0),(.int 0),(.list []),(.list []),(.list []),(.list [])])) 0 (.mk [(.mk [(pi 0),(pi 1),(pi 0),(pi 500),(pi 0),(.mk [(pi 3),(pi 10),(pi 0)]),(pi 2),(pi 0),(pi 0),(pi (-1)),(pi 0),(pi 1),(pi 1)]),pL,pL,pL,pL])) 15 pN) 15 pN) 15 pN) 16 pN) 18 pN) 6),(pc (.setc (.setc (.setc (.setc (.setc (.setc (.con (.agg [(.int 0),(.int 0),(.int 0),(.int 0),(.int 0),(.int 0),(.int 0),(.int 0),(.int 0),(.int 0),(.int 0),(.int 0),(.int 0),(.int 0),(.int 0),(.list []),(.list []),(.list []),(.list [])])) 0 (.mk [(.mk [(pi 0),(pi 1),(pi 0),(pi 500),(pi 0),(.mk [(pi 3),(pi 10),(pi 0)]),(pi 2),(pi 0),(pi 0),(pi (-1)),(pi 0),(pi 1),(pi 1)]),pL,pL,pL,pL])) 15 pN) 15 pN) 15 pN) 16 pN) 18 pN) 7),(pc (.setc (.setc (.setc (.setc (.setc (.setc (.con (.agg [(.int 0),(.int 0),(.int 0),(.int 0),(.int 0),(.int 0),(.int 0),(.int 0),(.int 0),(.int 0),(.int 0),(.int 0),(.int 0),(.int 0),(.int 0),(.list []),(.list []),(.list []),(.list [])])) 0 (.mk [(.mk [(pi 0),(pi 1),(pi 0),(pi 500),(pi 0),(.mk [(pi 3),(pi 10),(pi 0)]),(pi 2),(pi 0),(pi 0),(pi (-1)),(pi 0),(pi 1),(pi 1)]),pL,pL,pL,pL])) 15 pN) 15 pN) 15 pN) 16 pN) 18 pN) 8),(pc (.setc (.setc (.setc (.setc (.setc (.setc (.con (.agg [(.int 0),(.int 0),(.int 0),(.int 0),(.int 0),(.int 0),(.int 0),(.int 0),(.int 0),(.int 0),(.int 0),(.int 0),(.int 0),(.int 0),(.int 0),(.list []),(.list []),(.list []),(.list [])])) 0 (.mk [(.mk [(pi 0),(pi 1),(pi 0),(pi 500),(pi 0),(.mk [(pi 3),(pi 10),(pi 0)]),(pi 2),(pi 0),(pi 0),(pi (-1)),(pi 0),(pi 1),(pi 1)]),pL,pL,pL,pL])) 15 pN) 15 pN) 15 pN) 16 pN) 18 pN) 9),(pc (.setc (.setc (.setc (.setc (.setc (.setc (.con (.agg [(.int 0),(.int 0),(.int 0),(.int 0),(.int 0),(.int 0),(.int 0),(.int 0),(.int 0),(.int 0),(.int 0),(.int 0),(.int 0),(.int 0),(.int 0),(.list []),(.list []),(.list []),(.list [])])) 0 (.mk [(.mk [(pi 0),(pi 1),(pi 0),(pi 500),(pi 0),(.mk [(pi 3),(pi 10),(pi 0)]),(pi 2),(pi 0),(pi 0),(pi (-1)),(pi 0),(pi 1),(pi 1)]),pL,pL,pL,pL])) 15 pN) 15 pN) 15 pN) 16 pN) 18 pN) 10),(pc (.setc (.setc (.setc (.setc (.setc (.setc (.con (.agg [(.int 0),(.int 0),(.int 0),(.int 0),(.int 0),(.int 0),(.int 0),(.int 0),(.int 0),(.int 0),(.int 0),(.int 0),(.int 0),(.int 0),(.int 0),(.list []),(.list []),(.list []),(.list [])])) 0 (.mk [(.mk [(pi 0),(pi 1),(pi 0),(pi 500),(pi 0),(.mk [(pi 3),(pi 10),(pi 0)]),(pi 2),(pi 0),(pi 0),(pi (-1)),(pi 0),(pi 1),(pi 1)]),pL,pL,pL,pL])) 15 pN) 15 pN) 15 pN) 16 pN) 18 pN) 11),(pc (.setc (.setc (.setc (.setc (.setc (.setc (.con (.agg [(.int 0),(.int 0),(.int 0),(.int 0),(.int 0),(.int 0),(.int 0),(.int 0),(.int 0),(.int 0),(.int 0),(.int 0),(.int 0),(.int 0),(.int 0),(.list []),(.list []),(.list []),(.list [])])) 0 (.mk [(.mk [(pi 0),(pi 1),(pi 0),(pi 500),(pi 0),(.mk [(pi 3),(pi 10),(pi 0)]),(pi 2),(pi 0),(pi 0),(pi (-1)),(pi 0),(pi 1),(pi 1)]),pL,pL,pL,pL])) 15 pN) 15 pN) 15 pN) 16 pN) 18 pN) 12),(pc (.setc (.setc (.setc (.setc (.setc (.setc (.con (.agg [(.int 0),(.int 0),(.int 0),(.int 0),(.int 0),(.int 0),(.int 0),(.int 0),(.int 0),(.int 0),(.int 0),(.int 0),(.int 0),(.int 0),(.int 0),(.list []),(.list []),(.list []),(.list [])])) 0 (.mk [(.mk [(pi 0),(pi 1),(pi 0),(pi 500),(pi 0),(.mk [(pi 3),(pi 10),(pi 0)]),(pi 2),(pi 0),(pi 0),(pi (-1)),(pi 0),(pi 1),(pi 1)]),pL,pL,pL,pL])) 15 pN) 15 pN) 15 pN) 16 pN) 18 pN) 13),(pc (.setc (.setc (.setc (.setc (.setc (.setc (.con (.agg [(.int 0),(.int 0),(.int 0),(.int 0),(.int 0),(.int 0),(.int 0),(.int 0),(.int 0),(.int 0),(.int 0),(.int 0),(.int 0),(.int 0),(.int 0),(.list []),(.list []),(.list []),(.list [])])) 0 (.mk [(.mk [(pi 0),(pi 1),(pi 0),(pi 500),(pi 0),(.mk [(pi 3),(pi 10),(pi 0)]),(pi 2),(pi 0),(pi 0),(pi (-1)),(pi 0),(pi 1),(pi 1)]),pL,pL,pL,pL])) 15 pN) 15 pN) 15 pN) 16 pN) 18 pN) 14),(.app (.app (.app pL (.lst [(.mk [(pi 0),(pi 0),(pi 0),(pi (-1)),(pi (-1)),(pi 0),(pi 2),(pi 0),(pi 0)])])) (.lst [(.mk [(pi 1),(pi 0),(pi 1),(pi (-1)),(pi (-1)),(pi 400),(pi 3),(pi 0),(pi 0)])])) (.lst [(.mk [(pi 2),(pi 0),(pi 0),(pi (-1)),(pi 1),(pi 0),(pi 4),(pi 0),(pi 0)])])),(.lst [(.mk [(pi 2),(pi 900)])]),pL,(.lst [(.mk [(pi 0),(pi 0),(pi 1)]),(.mk [(pi 1),(pi 0),(pi 1)]),(.mk [(pi 0),(pi 1),(pi 1)]),(.mk [(pi 1),(pi 2),(pi 1)])])])))]))))))))))
def aja (b:Nat→PC):PT×List (Shp×PT):=(TR,[])
theorem apW:xS.map told=some (aja (aV xS)):=by kernel_rfl
theorem atD:tree (ab xS)=TR:=bz apW
theorem LD (v:Int):aj T 54 [.int v] (cR ⟨2,v,[]⟩):=by
 refine .of_tree rfl (lA 3 (by kernel_rfl)) atH ?_;simp[TV];rfl
def Cl (v:Int):Tm:=⟨2,v,[]⟩
def sX:Order:=⟨⟨#[103,101,110,101,118,97]⟩,false,[],[⟨0,Cl 7⟩,⟨1,Cl 16⟩,⟨2,Cl 15⟩,⟨4,Cl 14⟩]⟩
def dB:Realm:=⟨[⟨#[102,114,97,110,99]⟩],[⟨⟨#[76,121,111,110]⟩,0,0,[],[],[]⟩],[⟨0⟩],[⟨⟨#[66,111,100,109,101,114]⟩,0,0⟩,⟨⟨#[72,111,112,101]⟩,0,0⟩],[sX],[],[],[]⟩
def oo:Bill:=⟨0,1,0,500,0,⟨3,10,0⟩,2,0,0,-1,0,1,1⟩
def g9:File:=⟨oo,[⟨0,0,0,-1,-1,0,2,0,0⟩,⟨1,0,1,-1,-1,400,3,0,0⟩,⟨2,0,0,-1,1,0,4,0,0⟩],[⟨2,900⟩],[],[⟨0,0,1⟩,⟨1,0,1⟩,⟨0,1,1⟩,⟨1,2,1⟩]⟩
theorem aiP:aj T 23 [] (.tup [aL dB,cd g9]):=by
 refine .of_tree rfl (lA 2 (by kernel_rfl)) atD ?_;simp[TR];refine⟨_,LD 7,_,LD 16,_,LD 15,_,LD 14,?_⟩;simp;exact⟨by kernel_rfl,by kernel_rfl⟩
theorem XT:Small dB:=by
 refine⟨by decide,by decide,by decide,by decide,by decide,by decide,by decide,by decide,?_,?_,?_⟩
 ·intro c hc;obtain rfl:c=⟨⟨#[76,121,111,110]⟩,0,0,[],[],[]⟩:=by simpa [dB] using hc
  simp
 ·intro o ho;obtain rfl:o=sX:=by simpa [dB] using ho
  simp[sX]
 ·intro x hx;simp[dB] at hx
theorem vp:RightD dB:=⟨XT,by decide,fun h hh=>by simp[dB] at hh⟩
theorem XQ:pD dB oo (-1) 0=(10,0):=by
 have gG:=SS dB XT;have h0:dJ dB=0:=by kernel_rfl
 rw[h0] at gG;have tE:=Ta dB vp.halts 0 10 (by decide) vp.cities (by decide) (by decide);have C8:qq dB 0 10=(10,0):=by kernel_rfl
 rw[C8] at tE;have h:aj T 36 [aL dB,dr oo,.int (-1),.int 0] (.tup [.int 10,.int 0]):=by
  have hb:aj T 78 [aL dB,dr oo,.int (-1)] (.tup [.int 10,.int 0]):=by
   refine .of_tree rfl uZ xn ?_;simp[mQ,oo]
  have tl:aj T 75 [aL dB,.int 0] (.bool true):=Dp dB 0;have IJ:aj T 76 [.int 2] (.bool true):=tN 2;have hi3:aj T 76 [.int 10] (.bool true):=tN 10;have hi4:aj T 77 [jA oo.tenor] (.bool false):=Bp oo.tenor;refine .of_tree rfl Mp VG ?_;simp[Fz];refine⟨_,gG,?_⟩;simp;refine⟨_,tl,?_⟩;simp;refine⟨_,tl,?_⟩;simp;refine⟨_,IJ,?_⟩;simp;refine⟨by simp[oo],_,hi4,?_⟩;simp;refine⟨_,hb,?_⟩;simp;refine⟨_,hi3,?_⟩;have am6:IntKind.i64.wrap 10=10:=aN (by omega);simp[am6];refine⟨_,tE,?_⟩;simp
 have h2:=h.det (LL dB vp oo (-1) 0);simp at h2;exact Prod.ext h2.1.symm h2.2.symm
theorem XS:kG dB 0 (bq g9 5) 5=10:=by
 have h1:(bq (bq g9 5) 5).signs≠[]:=by decide
 have h2:lK (bq (bq g9 5) 5)=-1:=by kernel_rfl
 have h3:max (iO (eG dB 0 6 (bq (bq g9 5) 5) 5)) 0=0:=by kernel_rfl
 unfold kG;rw[if_neg h1,h2,h3,show(bq g9 5).bill=oo from rfl,XQ];simp
theorem XR:kG dB 0 (bq g9 2) 2=10:=by
 have h1:(bq (bq g9 2) 2).signs≠[]:=by decide
 have h2:lK (bq (bq g9 2) 2)=-1:=by kernel_rfl
 have h3:max (iO (eG dB 0 6 (bq (bq g9 2) 2) 2)) 0=0:=by kernel_rfl
 unfold kG;rw[if_neg h1,h2,h3,show(bq g9 2).bill=oo from rfl,XQ];simp
def zg:List Effect:=[⟨0,0,0,1,0,500,true⟩,⟨1,1,1,2,0,400,false⟩,⟨2,2,0,2,0,900,true⟩]
theorem aiO:l7 dB 0 g9 5=zg:=by
 unfold l7 fZ;rw[XS];kernel_rfl
theorem aiN:l7 dB 0 g9 2=zg.take 1:=by
 unfold l7 fZ;rw[XR];kernel_rfl
theorem aiM:oc dB 0 g9 2 5=(⟨2,2,0,2,0,900,true⟩,true):=by
 unfold oc fZ;rw[XS];kernel_rfl
theorem aiL:oc dB 0 g9 1 2=(noE,false):=by
 unfold oc fZ;rw[XR];kernel_rfl
def uv (a b:List Effect):Bool:=decide (a.length=b.length)&&eg a.length (fun k=>decide (a.getD k default=b.getD k default))
theorem aeO (a:List Effect):uv a a=true:=by
 unfold uv;rw[FW fun k _=>by simp];simp
theorem aix (a b:Effect):a=b↔a.sign=b.sign∧a.kind=b.kind∧a.firm=b.firm∧a.binds=b.binds∧a.text=b.text∧a.sum=b.sum∧a.recourse=b.recourse:=by cases a;cases b;simp
theorem RB (a b:List Effect)(ha:a.length≤100000):aj T 9 [od a,od b] (.bool (uv a b)):=by
 refine .of_tree rfl (lA 96 (by kernel_rfl)) avd ?_;simp[U7];by_cases hl:a.length=b.length
 case neg=>
  have:¬(a.length:Int)=b.length:=by omega
  simp[this,uv,hl]
 have fV:(a.length:Int)=b.length:=by omega
 simp[fV];refine aH.scan a.length (fun k=>a.getD k default=b.getD k default) (fun k=>[.bool false,.int k]) (fun _=>[]) ?_ (fun k hk hj az=>?_) (fun k hk hj az=>?_) (fun hj=>?_)
 ·simp
 ·have hw:=ba hk (by omega);have zJ:k<b.length:=by omega
  have hx:a[k]=b[k]:=by simpa [hk,zJ] using az
  simp[Sn,EO,hk,zJ,hw,hx]
 ·have zJ:k<b.length:=by omega
  have hx:¬a[k]=b[k]:=by simpa [hk,zJ] using az
  have hs:uv a b=false:=by
   unfold uv;rw[WR hk (by simpa [hk,zJ] using hx)];simp
  rw[hs];rw[aix] at hx;simp[Sn,EO,hk,zJ];simp only[←Classical.not_and_iff_not_or_not];exact hx
 ·have hs:uv a b=true:=by
   unfold uv;rw[FW fun k hk=>by simpa using hj k hk];simp[hl]
  rw[hs];simp[Sn,EO]
theorem aiK {v:Int}(h:bk v):(Cl v).OK:=.mk 2 v [] (by unfold bk;omega) h (by decide) (fun _ h=>by cases h)
theorem Ic:Right dB:=by
 refine⟨?_,by decide,?_⟩
 ·intro o ho;obtain rfl:o=sX:=by simpa [dB] using ho
  exact⟨by decide,fun ch h=>by simp[sX] at h⟩
 ·intro o ho;obtain rfl:o=sX:=by simpa [dB] using ho
  refine⟨⟨⟨by decide,fun ch h=>by simp[sX] at h⟩,by decide,?_⟩,by decide⟩;intro x hx;simp[sX] at hx;rcases hx with rfl|rfl|rfl|rfl
  all_goals exact⟨by unfold bk;decide,aiK (by unfold bk;omega)⟩
theorem asG:aj T 5 [] (.bool true):=by
 have hf:FewS g9:=⟨by decide,by decide,by decide,by decide⟩
 have e1:=LM dB Ic vp 0 g9 2 5 hf;have e2:=LM dB Ic vp 0 g9 1 2 hf;have e3:=LN dB Ic vp 0 g9 5 hf;have e4:=LN dB Ic vp 0 g9 2 hf;rw[aiM] at e1;rw[aiL] at e2;rw[aiO] at e3;rw[aiN] at e4;have s1:=RB zg zg (by decide);have s2:=RB (zg.take 1) (zg.take 1) (by decide);rw[aeO] at s1 s2;have a1:=FE 1 2;have a2:=FE 2 0;have a3:=FE 1 1;refine .of_tree rfl (lA 1 (by kernel_rfl)) atG ?_;simp[TU];refine⟨_,aiP,?_⟩;simp;refine⟨_,e1,_,e2,_,e3,_,s1,?_⟩;simp;refine⟨_,e4,_,s2,?_⟩;simp[kE] at a1 a2 a3;have aW:gX 7 (D.agg [D.int 2,D.int 2,D.int 0,D.int 2,D.int 0,D.int 900,D.bool true])=jc ⟨2,2,0,2,0,900,true⟩:=rfl;simp[aW];refine⟨_,a1,?_⟩;simp;refine⟨_,a2,?_⟩;simp;refine⟨_,a3,?_⟩;simp
theorem anE (r:Realm)(f:File)(hr:r.OK):aj T 6 [aL r,cd f] (.bool (zm r f)):=by
 refine .of_tree rfl (lA 98 (by kernel_rfl)) atE ?_;simp[TS,zm];refine⟨_,arl r f hr,?_⟩;cases e1:re r f
 ·simp
 have hs:Small r:=NH hr (by simp only[re,ay] at e1;exact e1.1.1);simp;refine⟨_,adL r hs,?_⟩;simp
 try rfl
end Rm
namespace Rm
open Go Go.Proofs Cx
def sP (a b:Int):Int:=if a=0∨b=0 then 0 else if a=1∧b=1 then 1 else 2
theorem RA (a b:Int):aj T 13 [.int a,.int b] (.int (sP a b)):=by
 refine .of_tree rfl (lA 177 (by kernel_rfl)) auZ ?_;unfold sP;by_cases h1:a=0∨b=0
 ·simp[Fy,h1]
 by_cases h2:a=1∧b=1
 ·simp[Fy,h1,h2]
 ·simp[Fy,h1,h2]
  try omega
def mX (n:Int):Prop:=n=0∨n=1∨n=2
theorem LA (s:Said):mX (kS s):=by
 unfold kS mX
 repeat' split
 all_goals simp
theorem ant {a b:Int}(ha:mX a)(hb:mX b):kE [a,b] 1=sP a b:=by
 rcases ha with rfl|rfl|rfl<;>rcases hb with rfl|rfl|rfl<;>rfl
theorem anu {a b c:Int}(ha:mX a)(hb:mX b)(hc:mX c):kE [a,b,c] 1=sP a (sP b c):=by
 rcases ha with rfl|rfl|rfl<;>rcases hb with rfl|rfl|rfl<;>rcases hc with rfl|rfl|rfl<;>rfl
theorem ad9 (s:Said):aj T 66 [jz s] (.int (kS s)):=by
 refine .of_tree rfl (lA 156 (by kernel_rfl)) au8 ?_;unfold kS;by_cases h1:s.err=0<;>cases h2:s.cell.known<;>by_cases h3:s.cell.n=0<;>simp[U2,h1,h2,h3]
def mO (r:Realm)(forum q:Int)(f:File)(sign day:Int):Int:=kS (jX r forum q ⟨f,sign,sign,-1,kG r forum f day,day⟩)
theorem RC (r:Realm)(hr:Right r)(hd:RightD r)(hc:dJ r=0)(fe:r.cities.length≤100000)(forum q:Int)(f:File)(sign day:Int)(hf:FewS f):
 aj T 68 [aL r,.int forum,.int q,cd f,.int sign,.int day] (.int (mO r forum q f sign day)):=by
 refine .of_tree rfl (lA 157 (by kernel_rfl)) ave ?_;simp[U8];refine⟨_,arn r hr hd hc fe forum f day hf,_,ad6 r hr hc fe forum q ⟨f,sign,sign,-1,kG r forum f day,day⟩ hf,?_⟩;exact ad9 _
theorem S5 (r:Realm)(forum q:Int)(f:File)(sign day:Int):jP (fZ r forum f day) q sign=mO r forum q f sign day:=by
 unfold mO;have e:kG r forum (bq f day) day=kG r forum f day:=by
  unfold kG;rw[Mn _ (LQ day)];rfl
 show kS (jX r forum q ⟨bq f day,sign,sign,-1,kG r forum (bq f day) day,day⟩)=_;rw[e];refine congrArg kS (WX ?_);unfold bM;simp only[Mn _ (LQ day)]
theorem arq (f:File)(sign:Int)(hl:f.alters.length≤100000):aj T 71 [cd f,.int sign] (.bool (ld f sign f.alters.length)):=by
 refine .of_tree rfl (lA 180 (by kernel_rfl)) au9 ?_;simp[U3];have hg:ld f sign f.alters.length=f.alters.any fun a=>decide (sign<a.at_):=by unfold ld;rw[xH]
 rw[hg];refine .scan f.alters.length (fun k=>¬sign<(f.alters.getD k default).at_) (fun k=>[.bool false,.int k]) (fun _=>[]) ?_ (fun k hk hj ho=>?_) (fun k hk hj ho=>?_) (fun hj=>?_)
 ·simp
 ·have hw:=ba hk (by omega);have hn:¬sign<f.alters[k].at_:=by simpa [hk] using ho
  simp[Sm,EN,hk,hw,hn]
 ·have hn:sign<f.alters[k].at_:=by simpa [hk] using ho
  have:(f.alters.any fun a=>decide (sign<a.at_))=true:=by
   rw[xC];exact⟨f.alters[k],cq hk,by simpa using hn⟩
  rw[this];simp[Sm,EN,hk,hn]
 ·have:(f.alters.any fun a=>decide (sign<a.at_))=false:=by
   rw[LU];intro a ha;obtain⟨k,hk,rfl⟩:=jt ha;have:=hj k hk;simp[hk] at this;simp;omega
  rw[this];simp[Sm,EN]
theorem asQ (b:Int)(sign:Int)(l:List Alter):l.foldl (fun s a=>if a.at_≤sign then a.sum else s) b=match l.reverse.find? (fun a=>decide (a.at_≤sign)) with|some a=>a.sum|none=>b:=by
 rw[←List.foldr_reverse]
 induction l.reverse with
 |nil=>rfl
 |cons a m ih=>
  rw[List.foldr_cons,FH];by_cases h:a.at_≤sign
  ·simp[h]
  ·simp[h];exact ih
theorem aq0 (f:File)(sign:Int)(hl:f.alters.length≤100000):aj T 70 [cd f,.int sign] (.int (kR f sign f.alters.length)):=by
 have hs:kR f sign f.alters.length=match f.alters.reverse.find? (fun a=>decide (a.at_≤sign)) with|some a=>a.sum|none=>f.bill.sum:=by
  unfold kR;rw[xH];exact asQ _ _ _
 have tI:IntKind.i64.wrap ((f.alters.length:Int)-1)=(f.alters.length:Int)-1:=aN (by omega);obtain⟨G,hG⟩:∃G,G=kR f sign f.alters.length:=⟨_,rfl⟩
 rw[←hG] at hs ⊢;refine .of_tree rfl (lA 179 (by kernel_rfl)) auo ?_;simp[Ux];refine .scan f.alters.length (fun k=>¬(f.alters.reverse.getD k default).at_≤sign) (fun k=>[.int 0,.int ((f.alters.length:Int)-1-k)]) (fun _=>[]) ?_ (fun k hk hj ho=>?_) (fun k hk hj ho=>?_) (fun hj=>?_)
 ·simp[tI]
 ·have Zc:k<f.alters.reverse.length:=by simpa using hk
  have e:f.alters.reverse.getD k default=f.alters[f.alters.length-1-k]:=by simp[hk]
  rw[e] at ho;have hn:((f.alters.length:Int)-1-k).toNat=f.alters.length-1-k:=by omega
  have hw:IntKind.i64.wrap ((f.alters.length:Int)-1-k-1)=(f.alters.length:Int)-1-k-1:=aN (by omega);have h0:(0:Int)≤(f.alters.length:Int)-1-k:=by omega
  have h1:(f.alters.length:Int)-1-k<f.alters.length:=by omega
  have h2:f.alters.length-1-k<f.alters.length:=by omega
  have e3:(f.alters.length:Int)-1-k-1=(f.alters.length:Int)-1-((k:Int)+1):=by omega
  generalize (f.alters.length:Int)-1-k=z at*;simp[R7,Ez,h0,h1,h2,hn,ho];rw[hw,e3]
 ·have Zc:k<f.alters.reverse.length:=by simpa using hk
  have e:f.alters.reverse.getD k default=f.alters[f.alters.length-1-k]:=by simp[hk]
  have dK:=ot (l:=f.alters.reverse) (p:=fun a:Alter=>decide (a.at_≤sign)) Zc (by simpa [hk] using ho) (fun j bm=>by have:=hj j bm;simpa [show j<f.alters.length by omega] using this);rw[dK] at hs;rw[e] at ho;have fp:f.alters[f.alters.length-1-k].at_≤sign:=by omega
  have dV:G=f.alters[f.alters.length-1-k].sum:=by rw[hs];simp
  have hn:((f.alters.length:Int)-1-k).toNat=f.alters.length-1-k:=by omega
  have h0:(0:Int)≤(f.alters.length:Int)-1-k:=by omega
  have h1:(f.alters.length:Int)-1-k<f.alters.length:=by omega
  have h2:f.alters.length-1-k<f.alters.length:=by omega
  generalize (f.alters.length:Int)-1-k=z at*;simp[R7,Ez,h0,h1,h2,hn,fp,dV]
 ·have dK:=pI (l:=f.alters.reverse) (p:=fun a:Alter=>decide (a.at_≤sign)) (fun j bm=>by have:=hj j (by simpa using bm);simpa [show j<f.alters.length by simpa using bm] using this);rw[dK] at hs;have h0:¬(f.alters.length:Int)≤(f.alters.length:Int)-1:=by omega
  simp[R7,Ez,h0,hs]
def ph (sign day:Int)(a:Act):Bool:=(decide (a.kind=7)&&decide (a.at_=sign))&&decide (a.day≤day)
theorem aag {a b:Int}{d:D}(h:dg (.int a) d=true):dg (.int b) d=decide (b=a):=by
 unfold dg at h ⊢;change ji [.v (.int .i64 a)] d.cells=true at h;change ji [.v (.int .i64 b)] d.cells=_;generalize d.cells=l at*
 match l,h with
 |[x],h=>
  cases x with
  |v w=>
   cases w with
   |int k n=>
    simp[ji,mD] at h ⊢;rw[h]
   |_=>simp[ji,mD] at h
  |_=>simp[ji,mD] at h
 |x::y::r,h=>simp[ji] at h
theorem Pn (a b:Int):dg (.int b) (.int a)=decide (b=a):=by
 have h:dg (.int a) (.int a)=true:=by
  show ji [.v (.int .i64 a)] [.v (.int .i64 a)]=true;simp[ji,mD]
 exact aag h
theorem aar (s t:Int)(v:D):∀es:List (D×D),dO (.int s) (dG (.int t) v es)=if s=t then some v else dO (.int s) es
 |[]=>by
  unfold dG dO;rw[Pn];by_cases h:s=t
  ·simp[h]
  ·simp[h];rfl
 |e::es=>by
  have ih:=aar s t v es;unfold dG;by_cases hc:dg (.int t) e.1=true
  ·rw[if_pos hc];have h1:=aag (b:=s) hc;by_cases h:s=t
   ·rw[if_pos h];unfold dO;rw[Pn];simp[h]
   ·rw[if_neg h];unfold dO;rw[Pn,h1];simp[h]
  ·rw[if_neg hc];by_cases h:s=t
   ·subst h;rw[if_pos rfl] at ih ⊢;unfold dO;rw[if_neg hc];exact ih
   ·rw[if_neg h] at ih ⊢;unfold dO;rw[ih]
theorem ae4 (s day:Int):∀(l:List Act) (es:List (D×D)),((dO (.int s) (ir day l es)).getD (.bool false)).b=(l.any (ph s day)||((dO (.int s) es).getD (.bool false)).b)
 |[],es=>by simp[ir]
 |a::l,es=>by
  have ih:=ae4 s day l (if a.kind=7∧a.day≤day then dG (.int a.at_) (.bool true) es else es);have e:ir day (a::l) es=ir day l (if a.kind=7∧a.day≤day then dG (.int a.at_) (.bool true) es else es):=rfl;rw[e,ih,List.any_cons];by_cases h:a.kind=7∧a.day≤day
  ·rw[if_pos h,aar];by_cases h2:s=a.at_
   ·rw[if_pos h2];simp[ph,h,h2]
   ·have gF:¬a.at_=s:=fun e=>h2 e.symm;rw[if_neg h2];simp[ph,h,gF]
  ·rw[if_neg h];have:ph s day a=false:=by
        unfold ph;by_cases h3:a.kind=7
        ·have:¬a.day≤day:=fun x=>h ⟨h3,x⟩;simp[this]
        ·simp[h3]
   rw[this];simp
theorem asN (f:File)(sign day:Int):pj f sign day=(aF sign f.signs.length&&f.acts.any (ph sign day)):=by
 unfold pj;rw[ae4];simp[dO]
theorem aq1 (f:File)(sign day:Int)(hl:f.acts.length≤100000):aj T 69 [cd f,.int sign,.int day] (.bool (pj f sign day)):=by
 refine .of_tree rfl (lA 178 (by kernel_rfl)) aup ?_;rw[asN];by_cases h1:sign<0∨(f.signs.length:Int)≤sign
 ·have:aF sign f.signs.length=false:=by simp[aF];omega
  rw[this];simp[Lq,h1]
 have h2:aF sign f.signs.length=true:=by simp[aF];omega
 rw[h2,uO];obtain⟨G,hG⟩:∃G,G=f.acts.any (ph sign day):=⟨_,rfl⟩
 rw[←hG];simp[Lq,h1];refine .scan f.acts.length (fun k=>ph sign day (f.acts.getD k default)=false) (fun k=>[.bool false,.int k]) (fun _=>[]) ?_ (fun k hk hj ho=>?_) (fun k hk hj ho=>?_) (fun hj=>?_)
 ·simp
 ·have hw:=ba hk (by omega);have hn:¬((f.acts[k].kind=7∧f.acts[k].at_=sign)∧f.acts[k].day≤day):=by
   rintro⟨⟨a,b⟩,c⟩;simp[hk,ph,a,b] at ho;omega
  simp[R8,EA,hk,hw,hn]
 ·have fp:f.acts[k].kind=7∧f.acts[k].at_=sign∧f.acts[k].day≤day:=by
   simp[hk,ph] at ho
   first|exact ho|exact⟨ho.1.1,ho.1.2,ho.2⟩
  have hn:(f.acts[k].kind=7∧f.acts[k].at_=sign)∧f.acts[k].day≤day:=⟨⟨fp.1,fp.2.1⟩,fp.2.2⟩
  have:G=true:=by
   rw[hG,xC];exact⟨f.acts[k],cq hk,by simp[ph,hn]⟩
  rw[this];simp[R8,EA,hk,hn]
 ·have:G=false:=by
   rw[hG,LU];intro a ha;obtain⟨k,hk,rfl⟩:=jt ha;have:=hj k hk;have e:f.acts.getD k default=f.acts[k]:=by simp[hk]
   rw[e] at this;simp[this]
  rw[this];simp[R8,EA]
@[simp] theorem aCY (a0 a1 a2 a3 a4 a5 a6 x:D):cV [a0,a1,a2,a3,a4,a5,a6] 6 [x]=[a0,a1,a2,a3,a4,a5,x]:=_root_.id rfl
@[simp] theorem aCT (a0 a1 a2 a3 a4 a5 a6 a7 a8 a9 gV iY gW iZ ja jU jV jW km b0 b1 b2 b3 b4 b5 b6 b7 b8 b9 F1 F2 F3 F4 F5 F6 F7 F8 F9:D):cV [a0,a1,a2,a3,a4,a5,a6,a7,a8,a9,gV,iY,gW,iZ,ja,jU,jV,jW,km] 0 [b0,b1,b2,b3,b4,b5,b6,b7,b8,b9,F1,F2,F3,F4,F5,F6,F7,F8,F9]=[b0,b1,b2,b3,b4,b5,b6,b7,b8,b9,F1,F2,F3,F4,F5,F6,F7,F8,F9]:=_root_.id rfl
theorem JU (r:Realm)(forum:Int)(f:File)(day:Int):(fZ r forum f day).file=bq f day:=rfl
theorem aea (r:Realm)(hr:Right r)(hd:RightD r)(hc:dJ r=0)(fe:r.cities.length≤100000)(forum:Int)(f:File)(sign day:Int)(hf:FewS f)(h0:0≤sign)(h1:sign<(bq f day).signs.length):
 aj T 29 [aL r,.int forum,cd f,.int sign,.int day] (jc (mZ (fZ r forum f day) sign)):=by
 have hg:=hf.at_ day;have hA:=D7 f day (by have:=hf.signs;omega) (by have:=hf.acts;omega) (by have:=hf.alters;omega) (by have:=hf.facts;omega);have hB:=ad7 r hr hc fe forum 0 f day hf;have hT:=ad9 (eG r forum 0 f day);have zp:=RC r hr hd hc fe forum 1 f sign day hf;have pJ:=RC r hr hd hc fe forum 2 f sign day hf;have hS4:=RC r hr hd hc fe forum 4 f sign day hf;have da:=aq1 (bq f day) sign day (by have:=hg.acts;omega);have hsm:=aq0 (bq f day) sign (by have:=hg.alters;omega);have lq:=arq (bq f day) sign (by have:=hg.alters;omega);have t0:=LA (eG r forum 0 f day);have t1:mX (mO r forum 1 f sign day):=LA _;have t2:mX (mO r forum 2 f sign day):=LA _;have t4:mX (mO r forum 4 f sign day):=LA _;have e1:=S5 r forum 1 f sign day;have e2:=S5 r forum 2 f sign day;have e4:=S5 r forum 4 f sign day;have ef:(fZ r forum f day).form=kS (eG r forum 0 f day):=by
  show kS (eG r forum 0 (bq f day) day)=_;rw[W4]
 have aiw:(fZ r forum f day).day=day:=rfl;obtain⟨k,rfl⟩:=mT h0;have hk:k<(bq f day).signs.length:=by omega
 have gK:(bq f day).signs.getD (k:Int).toNat default=(bq f day).signs[k]:=by simp[hk]
 have n1:=RA (mO r forum 1 f k day) (mO r forum 2 f k day);have n2:=RA (kS (eG r forum 0 f day)) (sP (mO r forum 1 f k day) (mO r forum 2 f k day));have j3:=anu t0 t1 t2;unfold mZ uC;rw[JU,gK,aiw,ef,e1,e2,e4,j3];generalize kS (eG r forum 0 f day)=b0 at*;generalize mO r forum 1 f k day=s1 at*;generalize mO r forum 2 f k day=s2 at*;generalize mO r forum 4 f k day=s4 at*;generalize fZ r forum f day=v at*;generalize sP s1 s2=gW at*;generalize sP b0 gW=a at*;generalize eG r forum 0 f day=B at*;generalize bq f day=g at*;refine .of_tree rfl (lA 121 (by kernel_rfl)) avc ?_;simp[U6];refine⟨_,hA,?_⟩;simp[hk];refine⟨_,hB,_,hT,_,zp,_,pJ,_,n1,_,n2,_,da,_,hsm,_,lq,?_⟩;obtain⟨rc,C4⟩:∃rc,rc=(!decide (g.signs[k].kind=1)&&decide (cW BinOp.and IntKind.i64 g.signs[k].flags 1=0)):=⟨_,rfl⟩
 have Oo:(if g.signs[k].kind=1 then D.bool false else D.bool (decide (cW BinOp.and IntKind.i64 g.signs[k].flags 1=0)))=D.bool rc:=by
  rw[C4];by_cases h:g.signs[k].kind=1<;>simp[h]
 rw[Oo];generalize kR g k g.alters.length=sm at*;have rA:∀a b:Int,(if b<a then D.int b else D.int a)=D.int (min a b):=by
  intro a b;split
  ·rw[Bi (by omega)]
  ·rw[Bh (by omega)]
 cases hb:ld g k g.alters.length
 ·cases hc:pj g k day<;>by_cases bE:g.signs[k].kind=1∨g.signs[k].kind=4<;>simp[bE,rA]
  all_goals (rw[←C4];rfl)
 ·have zR:0<g.alters.length:=by
   rcases Nat.eq_zero_or_pos g.alters.length with e|e
   ·simp[ld,agj.mp e] at hb
   ·exact e
  have hga:=hg.alters;have hw:IntKind.i64.wrap ((g.alters.length:Int)-1)=(g.alters.length:Int)-1:=aN (by omega);have hn:((g.alters.length:Int)-1).toNat=g.alters.length-1:=by omega
  have aq:g.alters.length-1<g.alters.length:=by omega
  have oC:Ae g=g.alters[g.alters.length-1].sum:=by simp[Ae,aq]
  simp[hw,hn,aq];refine⟨by omega,_,hS4,?_⟩;rw[oC];generalize g.alters[g.alters.length-1].sum=la at*;have hlm:min sm la=if la<sm then la else sm:=by split<;>omega
  rcases t4 with h4|h4|h4<;>subst h4
  ·cases hc:pj g k day<;>by_cases bE:g.signs[k].kind=1∨g.signs[k].kind=4<;>simp[bE,rA]
   all_goals (rw[←C4];rfl)
  ·cases hc:pj g k day<;>by_cases bE:g.signs[k].kind=1∨g.signs[k].kind=4<;>simp[bE,rA]
   all_goals (rw[←C4];rfl)
  ·cases hc:pj g k day<;>by_cases bE:g.signs[k].kind=1∨g.signs[k].kind=4<;>by_cases hl:la<sm<;>simp[bE,rA,hl,hlm]
   all_goals (rw[←C4];rfl)
theorem ars (r:Realm)(hr:Right r)(hd:RightD r)(hc:dJ r=0)(fe:r.cities.length≤100000)(forum:Int)(f:File)(sign day:Int)(hf:FewS f):
 aj T 8 [aL r,.int forum,cd f,.int sign,.int day] (.tup [jc (oc r forum f sign day).1,.bool (oc r forum f sign day).2]):=by
 have hg:=hf.at_ day;have hA:=D7 f day (by have:=hf.signs;omega) (by have:=hf.acts;omega) (by have:=hf.alters;omega) (by have:=hf.facts;omega);have hO:=aea r hr hd hc fe forum f sign day hf;unfold oc;rw[JU];refine .of_tree rfl (lA 119 (by kernel_rfl)) ava ?_;simp[U4];refine⟨_,hA,?_⟩;generalize fZ r forum f day=v at*;generalize bq f day=g at*;by_cases h:sign<0∨(g.signs.length:Int)≤sign
 ·simp[h];rfl
 ·simp[h];refine⟨_,hO (by omega) (by omega),?_⟩;simp
theorem art (r:Realm)(hr:Right r)(hd:RightD r)(hc:dJ r=0)(fe:r.cities.length≤100000)(forum:Int)(f:File)(day:Int)(hf:FewS f):
 aj T 11 [aL r,.int forum,cd f,.int day] (od (l7 r forum f day)):=by
 have hg:=hf.at_ day;have hA:=D7 f day (by have:=hf.signs;omega) (by have:=hf.acts;omega) (by have:=hf.alters;omega) (by have:=hf.facts;omega);have hO:=fun sign=>aea r hr hd hc fe forum f sign day hf;unfold l7;rw[JU];refine .of_tree rfl (lA 181 (by kernel_rfl)) avb ?_;simp[U5];refine⟨_,hA,?_⟩;have hl:=hg.signs;generalize fZ r forum f day=v at*;generalize bq f day=g at*;refine aH.forRounds g.signs.length (fun k=>[.none,.int k]) (fun k=>[od ((List.range k).map fun(k:Nat)=>mZ v k)]) ?_ (fun k hk=>?_) ?_
 ·simp[od]
 ·have hw:=ba hk (by omega);have he:=hO k (by omega) (by omega);rw[L2,px];have mi:((List.range k).map fun(k:Nat)=>mZ v k).length=k:=by simp
  generalize ((List.range k).map fun(k:Nat)=>mZ v k)=A at*;simp[aer,KF,hk,hw];exact⟨_,he,by omega,by simp[od]⟩
 ·simp[aer,KF]
end Rm
namespace Rm
open Go Go.Proofs Cx
theorem afZ (r:Realm)(hr:r.OK)(forum:Int)(f:File)(h64:f.OK)(sign day:Int)(x:Nat)(hx:x≤255)(y:Nat)(hy:y≤255):aj T 3 [aL r,.int forum,cd f,.int sign,.int day,.v (.int .u8 x),.v (.int .u8 y)] (.bool true):=by
 refine .of_tree rfl (lA 0 (by kernel_rfl)) atC ?_;simp[TQ];refine⟨_,asG,_,anE r f hr,?_⟩;cases hg:zm r f
 ·simp[hg]
 have G:=akl hr hg;have gG:dJ r=0:=by simp[zm] at hg;exact hg.2
 have fe:r.cities.length≤100000:=by have:=G.rightD.small.cities;omega
 have e1:=LM r G.right G.rightD forum f sign day G.few;have e2:=ars r G.right G.rightD gG fe forum f sign day G.few;have e3:=LN r G.right G.rightD forum f day G.few;have e4:=art r G.right G.rightD gG fe forum f day G.few;have hlen:(l7 r forum f day).length≤100000:=by
  unfold l7;have:=(G.few.at_ day).signs;rw[JU];simp;omega
 have s1:=RB (l7 r forum f day) (l7 r forum f day) hlen;rw[aeO] at s1;generalize oc r forum f sign day=E at*;generalize l7 r forum f day=L at*;simp[hg];refine⟨_,e1,_,e2,?_⟩;simp;refine⟨_,e3,_,e4,_,s1,?_⟩;simp;have h3:∀n:Nat,n≤255→mX ((IntKind.i64.wrap n).tmod 3):=by
  intro n hn;have hw:IntKind.i64.wrap (n:Int)=n:=aN (by omega);rw[hw,sE (by omega)];unfold mX;omega
 have ha:=FE ((IntKind.i64.wrap x).tmod 3) ((IntKind.i64.wrap y).tmod 3);rw[ant (h3 x hx) (h3 y hy)] at ha;exact⟨_,ha,_,RA _ _,rfl⟩
end Rm
