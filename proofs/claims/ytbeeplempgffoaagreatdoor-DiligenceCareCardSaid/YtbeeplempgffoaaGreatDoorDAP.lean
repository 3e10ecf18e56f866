/-
  Shared texts of this claim.
-/
import Derived.Test.YtbeeplempgffoaaGreatDoorDAO
import Derived.Test.YtbeeplempgffoaaGreatDoorDAN
set_option linter.unusedSimpArgs false
set_option linter.unusedVariables false
noncomputable section
namespace Rm
open Go Go.Proofs Cx
theorem nF (n:Int):ak T 102 [.int n] (.bool (aU n)):=by
 refine .of_tree rfl (lA 179 (by kernel_rfl)) axW ?_;simp[Wd];by_cases h1:0≤n<;>by_cases h2:n≤100000<;>simp[h1,h2,aU]
theorem TA (y:Int)(hy:0≤y):ak T 208 [.int y] (.bool (td y)):=by
 refine .of_tree rfl (lA 186 (by kernel_rfl)) axZ ?_;have t4:y.tmod 4=y%4:=ub hy;have t100:y.tmod 100=y%100:=ub hy;have awD:y.tmod 400=y%400:=ub hy;unfold td;by_cases h1:y%4=0<;>by_cases h2:y%100=0<;>by_cases h3:y%400=0<;>simp[Wg,t4,t100,awD,h1,h2,h3]
theorem Tx (y:Int)(hy:0≤y):ak T 194 [.int y] (.int (kI y)):=by
 refine .of_tree rfl (lA 185 (by kernel_rfl)) axX ?_;simp[We];refine⟨_,TA y hy,?_⟩;unfold kI;cases h:td y<;>simp[h]
theorem Fs (y m:Int)(hy:0≤y):ak T 189 [.int y,.int m] (.int (ef y m)):=by
 refine .of_tree rfl (lA 187 (by kernel_rfl)) axS ?_;unfold ef;by_cases h2:m=2
 ·simp[Nn,h2];refine⟨_,TA y hy,?_⟩;cases h:td y<;>simp[h]
 ·simp[Nn,h2];have hr:=TA y hy;by_cases h4:m=4∨m=6∨m=9∨m=11
  ·have km:((m=4∨m=6)∨m=9)∨m=11:=by omega
   simp[km]
   first|omega|(refine⟨⟨_,hr⟩,?_⟩;omega)
  ·have km:¬(((m=4∨m=6)∨m=9)∨m=11):=by omega
   simp[km]
   first|omega|(refine⟨⟨_,hr⟩,?_⟩;omega)
theorem agu (n:Int):ak T 171 [.int n] (if aU n=true then .tup [.int (bz n).1,.int (bz n).2.1,.int (bz n).2.2,.int 0] else .tup [.int 0,.int 0,.int 0,.int 3]):=by
 refine .of_tree rfl (lA 184 (by kernel_rfl)) axQ ?_;simp[V8];refine⟨_,nF n,?_⟩;cases hd:aU n
 ·simp
 have hn:0≤n∧n≤100000:=by simpa [aU] using hd
 obtain⟨hm,uD,hy,xj⟩:=Ag n (by omega);have hl:=ZI n (by omega);obtain⟨y0,y1,yl,yu⟩:=Pm n hn;generalize (bz n).1=y at*;generalize (bz n).2.1=m at*;generalize (bz n).2.2=d at*;have he:=RG y m d;have hY:=Lg y (by omega);simp;refine aL.forRounds (y-2000).toNat (fun k=>[.int (2000+(k:Int)),.int (n-bV (2000+(k:Int)) 1 1)]) (fun _=>[]) ?_ (fun k hk=>?_) ?_
 ·have:bV 2000 1 1=0:=by decide
  simp[this]
 ·have h1:=Lg (2000+(k:Int)) (by omega);have h2:=tq (2000+(k:Int)+1) y (by omega);have h3:=tq 2000 (2000+(k:Int)) (by omega);have h4:bV 2000 1 1=0:=by decide
  have KM:365≤kI (2000+(k:Int))∧kI (2000+(k:Int))≤366:=by unfold kI;split<;>omega
  have hr:=Tx (2000+(k:Int)) (by omega);have e:(2000+((k+1:Nat):Int))=2000+(k:Int)+1:=by omega
  have hw:IntKind.i64.wrap (2000+(k:Int)+1)=2000+(k:Int)+1:=aJ (by omega);have cd:IntKind.i64.wrap (n-bV (2000+(k:Int)) 1 1-kI (2000+(k:Int)))=n-bV (2000+(k:Int)+1) 1 1:=by rw[aJ (by omega)];omega
  rw[e];have fG:kI (2000+(k:Int))≤n-bV (2000+(k:Int)) 1 1:=by omega
  generalize 2000+(k:Int)=Y at*;simp[ag6,Mr];refine⟨_,hr,?_⟩;simp[fG];refine⟨_,hr,?_⟩;simp[hw,cd]
 ·have e:(2000+(((y-2000).toNat:Nat):Int))=y:=by omega
  have hr:=Tx y (by omega);have ar:¬kI y≤n-bV y 1 1:=by omega
  rw[e];simp[ag6,Mr];refine⟨_,hr,?_⟩;simp[ar];refine⟨by omega,?_⟩;refine aL.forRounds (m-1).toNat (fun k=>[.int (n-bV y (k+1) 1),.int ((k:Int)+1)]) (fun _=>[]) ?_ (fun k hk=>?_) ?_
  ·simp
  ·have h1:=Lf y ((k:Int)+1) (by omega) (by omega);have h2:=vf y (by omega) ((k:Int)+1+1) m (by omega) (by omega) (by omega);have h3:=vf y (by omega) 1 ((k:Int)+1) (by omega) (by omega) (by omega);have h4:=EO y ((k:Int)+1);have h5:=tq 2000 y (by omega);have h6:bV 2000 1 1=0:=by decide
   have hr:=Fs y ((k:Int)+1) (by omega);have e:(((k+1:Nat):Int)+1)=(k:Int)+1+1:=by omega
   have hw:IntKind.i64.wrap ((k:Int)+1+1)=(k:Int)+1+1:=aJ (by omega);have cd:IntKind.i64.wrap (n-bV y ((k:Int)+1) 1-ef y ((k:Int)+1))=n-bV y ((k:Int)+1+1) 1:=by rw[aJ (by omega)];omega
   have fG:ef y ((k:Int)+1)≤n-bV y ((k:Int)+1) 1:=by omega
   rw[e];generalize (k:Int)+1=M at*;simp[ag7,Ms];refine⟨_,hr,?_⟩;simp[fG];refine⟨_,hr,?_⟩;simp[hw,cd]
  ·have e:((((m-1).toNat:Nat):Int)+1)=m:=by omega
   have hr:=Fs y m (by omega);have ar:¬ef y m≤n-bV y m 1:=by omega
   have hw:IntKind.i64.wrap (n-bV y m 1+1)=d:=by rw[aJ (by omega)];omega
   rw[e];simp[ag7,Ms];refine⟨_,hr,?_⟩;simp[ar,hw]
   try omega
theorem Tz (l:List Int)(n:Int)(hl:l.length≤4294967296):ak T 172 [ints l,.int n] (.bool (l.contains n)):=by
 refine .of_tree rfl (lA 192 (by kernel_rfl)) axY ?_;simp[Wf];refine .scan l.length (fun k=>l.getD k 0≠n) (fun k=>[.bool false,.int k]) (fun _=>[]) ?_ (fun k hk hj ho=>?_) (fun k hk hj ho=>?_) (fun hj=>?_)
 ·simp
 ·have hw:=bk hk hl;simp[hk] at ho;simp[TZ,FJ,hk,hw,ho,ints]
 ·simp[hk] at ho;have:n∈l:=by rw[←ho];exact cv hk
  simp[TZ,FJ,hk,ho,ints,this]
 ·have:¬n∈l:=by
   intro h;obtain⟨k,hk,h⟩:=gP h;exact hj k hk (by simp[hk,h])
  simp[TZ,FJ,ints,this]
end Rm
namespace Rm
open Go Go.Proofs Cx
def pA (y m d:Int):Bool:=decide (2000≤y∧y≤2300∧1≤m∧m≤12∧1≤d∧d≤ef y m)
def qJ (y m d:Int):Int×Int:=if pA y m d=true∧aU (bV y m d)=true then(bV y m d,0) else(0,3)
theorem auE (y m d:Int)(hy:0≤y):ak T 188 [.int y,.int m,.int d] (.tup [.int (qJ y m d).1,.int (qJ y m d).2]):=by
 have hl:=Fs y m hy;refine .of_tree rfl (lA 188 (by kernel_rfl)) axR ?_;unfold qJ;simp[V9];by_cases h0:2000≤y∧y≤2300∧1≤m∧m≤12∧1≤d
 ·obtain⟨a1,a2,a3,a4,a5⟩:=h0;have b1:¬y<2000:=by omega
  have b2:¬2300<y:=by omega
  have b3:¬m<1:=by omega
  have b4:¬12<m:=by omega
  have b5:¬d<1:=by omega
  have hlb:=EO y m;by_cases h6:d≤ef y m
  ·have qT:pA y m d=true:=by simp[pA];omega
   have b6:¬ef y m<d:=by omega
   rw[qT];simp[b1,b2,b3,b4,b5];rw[if_pos ⟨⟨⟨⟨a1,a2⟩,a3⟩,a4⟩,a5⟩];refine⟨_,hl,?_⟩;have Bb:IntKind.i64.wrap (d-1)=d-1:=aJ (by omega);have anZ:bV 2000 1 1=0:=by decide
   have uU:=tq 2000 y (by omega);have hyu:=tq y 2300 (by omega);have aFR:bV 2300 1 1=109573:=by decide
   simp[b6,Bb];refine aL.forRounds (y-2000).toNat (fun k=>[.int (d-1+bV (2000+(k:Int)) 1 1),.int (2000+(k:Int))]) (fun _=>[]) ?_ (fun k hk=>?_) ?_
   ·simp[anZ,Bb]
   ·have h1:=Lg (2000+(k:Int)) (by omega);have h2:=tq (2000+(k:Int)+1) y (by omega);have h3:=tq 2000 (2000+(k:Int)) (by omega);have KM:365≤kI (2000+(k:Int))∧kI (2000+(k:Int))≤366:=by unfold kI;split<;>omega
    have hr:=Tx (2000+(k:Int)) (by omega);have e:(2000+((k+1:Nat):Int))=2000+(k:Int)+1:=by omega
    have hw:IntKind.i64.wrap (2000+(k:Int)+1)=2000+(k:Int)+1:=aJ (by omega);have cd:IntKind.i64.wrap (d-1+bV (2000+(k:Int)) 1 1+kI (2000+(k:Int)))=d-1+bV (2000+(k:Int)+1) 1 1:=by rw[aJ (by omega)];omega
    have ar:2000+(k:Int)<y:=by omega
    rw[e];generalize 2000+(k:Int)=Y at*;simp[ag8,Mt,ar];refine⟨_,hr,?_⟩;simp[hw,cd]
   ·have e:(2000+(((y-2000).toNat:Nat):Int))=y:=by omega
    rw[e];simp[ag8,Mt];refine aL.forRounds (m-1).toNat (fun k=>[.int (d-1+bV y ((k:Int)+1) 1),.int ((k:Int)+1)]) (fun _=>[]) ?_ (fun k hk=>?_) ?_
    ·simp
    ·have h1:=Lf y ((k:Int)+1) (by omega) (by omega);have h2:=vf y (by omega) ((k:Int)+1+1) m (by omega) (by omega) (by omega);have h3:=vf y (by omega) 1 ((k:Int)+1) (by omega) (by omega) (by omega);have dO:=vf y (by omega) ((k:Int)+1) 12 (by omega) (by omega) (by omega);have aFf:=RH y (by omega);have aFg:=Lg y (by omega);have KM:365≤kI y∧kI y≤366:=by unfold kI;split<;>omega
     have h4:=EO y ((k:Int)+1);have hr:=Fs y ((k:Int)+1) (by omega);have e:(((k+1:Nat):Int)+1)=(k:Int)+1+1:=by omega
     have hw:IntKind.i64.wrap ((k:Int)+1+1)=(k:Int)+1+1:=aJ (by omega);have cd:IntKind.i64.wrap (d-1+bV y ((k:Int)+1) 1+ef y ((k:Int)+1))=d-1+bV y ((k:Int)+1+1) 1:=by rw[aJ (by omega)];omega
     have ar:(k:Int)+1<m:=by omega
     rw[e];generalize (k:Int)+1=M at*;simp[ag9,Mu,ar];refine⟨_,hr,?_⟩;simp[hw,cd]
    ·have e:((((m-1).toNat:Nat):Int)+1)=m:=by omega
     have en:d-1+bV y m 1=bV y m d:=by have:=RG y m d;omega
     rw[e,en];simp[ag9,Mu];refine⟨_,nF _,?_⟩;cases hv:aU (bV y m d)<;>simp[hv]
  ·have qT:pA y m d=false:=by simp[pA];omega
   have b6:ef y m<d:=by omega
   rw[qT];simp[b1,b2,b3,b4,b5];rw[if_pos ⟨⟨⟨⟨a1,a2⟩,a3⟩,a4⟩,a5⟩];refine⟨_,hl,?_⟩;simp[b6];intro h;omega
 ·have qT:pA y m d=false:=by simp[pA];omega
  have AE:(((y<2000∨2300<y)∨m<1)∨12<m)∨d<1:=by omega
  rw[qT];simp[AE];intro _ _ _ _ _;exact⟨_,hl⟩
def uh (n k:Int):Int×Int:=
 if 12*(bz n).1+(bz n).2.1-1+k<24000 then(0,3)
 else qJ ((12*(bz n).1+(bz n).2.1-1+k)/12) ((12*(bz n).1+(bz n).2.1-1+k)%12+1) (min (bz n).2.2 (ef ((12*(bz n).1+(bz n).2.1-1+k)/12) ((12*(bz n).1+(bz n).2.1-1+k)%12+1)))
theorem auD (n k:Int):ak T 162 [.int n,.int k] (if aU n=false∨k< -5000∨5000<k then .tup [.int 0,.int 3] else .tup [.int (uh n k).1,.int (uh n k).2]):=by
 have hD:=agu n;refine .of_tree rfl (lA 183 (by kernel_rfl)) axP ?_;simp[V7];refine⟨_,hD,?_⟩;cases hd:aU n
 ·simp
 by_cases hk:k< -5000∨5000<k
 ·simp[hk];intro h1 h2;omega
 have hn:0≤n∧n≤100000:=by simpa [aU] using hd
 obtain⟨hm,uD,hy,xj⟩:=Ag n (by omega);obtain⟨y0,y1,yl,yu⟩:=Pm n hn;unfold uh;generalize (bz n).1=y at*;generalize (bz n).2.1=m at*;generalize (bz n).2.2=d at*;obtain⟨A,hA⟩:∃A,A=12*y+m-1+k:=⟨_,rfl⟩
 have wA:IntKind.i64.wrap (IntKind.i64.wrap (IntKind.i64.wrap (IntKind.i64.wrap (12*y)+m)-1)+k)=A:=by
  rw[aJ (n:=12*y) (by omega),aJ (n:=12*y+m) (by omega),aJ (n:=12*y+m-1) (by omega),aJ (by omega)];exact hA.symm
 rw[←hA];simp[hk,wA];by_cases h24:A<24000
 ·simp[h24]
 have wY:IntKind.i64.wrap (A.tdiv 12)=A/12:=by rw[vU (by omega)];exact aJ (by omega)
 have wM:IntKind.i64.wrap (A.tmod 12+1)=A%12+1:=by rw[ub (by omega)];exact aJ (by omega)
 simp[h24,wY,wM];refine⟨_,Fs _ _ (by omega),?_⟩;have kT:(if ef (A/12) (A%12+1)<d then D.int (ef (A/12) (A%12+1)) else D.int d)=D.int (min d (ef (A/12) (A%12+1))):=by
  split
  ·rw[NN (by omega)]
  ·rw[NM (by omega)]
 simp
 try rw[kT]
 refine⟨_,auE _ _ _ (by omega),?_⟩;simp
end Rm
namespace Rm
open Go Go.Proofs Cx
theorem agv (c:City)(hc:nM c)(n:Int)(hn:0≤n∧n≤100400):ak T 146 [fm c,.int n] (if aU n=true then .tup [.bool (jA c.rest c.feasts c.shut n),.int 0] else .tup [.bool false,.int 3]):=by
 have hD:=agu n;refine .of_tree rfl (lA 191 (by kernel_rfl)) axU ?_;simp[Wb];refine⟨_,hD,?_⟩;cases hd:aU n
 ·simp
 obtain⟨hm,uD,hy,xj⟩:=Ag n hn;obtain⟨h1,h2,h3⟩:=hc;unfold jA;generalize (bz n).1=y at*;generalize (bz n).2.1=m at*;generalize (bz n).2.2=d at*;have w1:IntKind.i64.wrap (n+5)=n+5:=aJ (by omega);have w2:(n+5).tmod 7=(n+5)%7:=ub (by omega);have w3:IntKind.i64.wrap (100*m)=100*m:=aJ (by omega);have w4:IntKind.i64.wrap (100*m+d)=100*m+d:=aJ (by omega);have r1:=Tz c.rest ((n+5)%7) (by omega);have r2:=Tz c.feasts (100*m+d) (by omega);have r3:=Tz c.shut n (by omega);simp[w1,w2,w3,w4];refine⟨_,r1,?_⟩;by_cases e1:(n+5)%7∈c.rest
 ·simp[e1]
  try exact⟨⟨_,r2⟩,⟨_,r3⟩⟩
 simp[e1];refine⟨_,r2,?_⟩;by_cases e2:100*m+d∈c.feasts
 ·simp[e2]
  try exact⟨_,r3⟩
 simp[e2];refine⟨_,r3,?_⟩;by_cases e3:n∈c.shut<;>simp[e3]
theorem atp (c:City)(d:Int)(k:Nat)(hd:aU d=true)(hk:k≤400)(h1:d+k≤100000)(h2:jA c.rest c.feasts c.shut (d+k)=true)(h3:∀j:Nat,j<k→jA c.rest c.feasts c.shut (d+j)=false):bP c d=(d+k,0):=by
 have dP:0≤d∧d≤100000:=by simpa [aU] using hd
 unfold bP;rw[if_neg (by rw[hd];decide)];obtain⟨N,hN⟩:∃N,N=(jl d-d+1).toNat:=⟨_,rfl⟩
 have hkN:k<N:=by
  unfold jl at hN;split at hN<;>omega
 rw[←hN];have:(dw c d N).head?=some (d+k):=by
  unfold dw;rw[List.head?_filter,List.find?_map]
  rw[show(List.range N).find? ((jA c.rest c.feasts c.shut)∘fun(i:Nat)=>d+i)=some k from by
   rw[List.find?_range_eq_some];refine⟨h2,by simpa using hkN,fun j hj=>?_⟩;simp[h3 j hj]]
  rfl
 cases hk:dw c d N with
 |nil=>rw[hk] at this;cases this
 |cons x l=>
  rw[hk] at this;injection this with this
  simp[this]
theorem atr (c:City)(d:Int)(hd:aU d=true)(h3:∀j:Nat,j≤400→d+j≤100000→jA c.rest c.feasts c.shut (d+j)=false):bP c d=(0,3):=by
 have dP:0≤d∧d≤100000:=by simpa [aU] using hd
 unfold bP;rw[if_neg (by rw[hd];decide)];have:dw c d (jl d-d+1).toNat=[]:=by
  unfold dw;rw[List.filter_eq_nil_iff];intro x hx;obtain⟨j,hj,rfl⟩:=dH.1 hx;have br:=gf.1 hj;have:j≤400∧d+j≤100000:=by unfold jl at br;split at br<;>omega
  rw[h3 j this.1 this.2];decide
 rw[this]
theorem Tw (c:City)(hc:nM c)(d:Int):ak T 103 [fm c,.int d] (.tup [.int (bP c d).1,.int (bP c d).2]):=by
 refine .of_tree rfl (lA 190 (by kernel_rfl)) axT ?_;simp[Wa];refine⟨_,nF d,?_⟩;cases hd:aU d
 ·simp[bP,hd]
 have dP:0≤d∧d≤100000:=by simpa [aU] using hd
 simp;refine aL.scan 401 (fun k=>(aU (d+k)&&jA c.rest c.feasts c.shut (d+k))=false) (fun k=>[.int 0,.int 0,.int k]) (fun _=>[]) ?_ (fun k hk hj ho=>?_) (fun k hk hj ho=>?_) (fun hj=>?_)
 ·simp
 ·have hw:=bk (k:=k) (n:=401) hk (by omega);have cd:IntKind.i64.wrap (d+k)=d+k:=aJ (by omega);have hr:=agv c hc (d+k) (by omega);have hle:(k:Int)≤400:=by omega
  simp[TX,FH,hle,cd];refine⟨_,hr,?_⟩;cases e1:aU (d+k)
  ·simp[hw]
  ·rw[e1] at ho;simp at ho;simp[ho,hw]
 ·have cd:IntKind.i64.wrap (d+k)=d+k:=aJ (by omega);have hr:=agv c hc (d+k) (by omega);have hle:(k:Int)≤400:=by omega
  simp at ho
  have hx:=atp c d k hd (by omega) (by have:=ho.1;simp[aU] at this;omega) ho.2 (fun j br=>by
   have h1:=hj j br;have h2:aU (d+j)=true:=by have:=ho.1;simp[aU] at this ⊢;omega
   rw[h2] at h1;simpa using h1)
  rw[hx];simp[TX,FH,hle,cd];refine⟨_,hr,?_⟩;simp[ho.1,ho.2]
 ·have hx:=atr c d hd (fun j br aFd=>by
   have h1:=hj j (by omega);have h2:aU (d+j)=true:=by simp[aU];omega
   rw[h2] at h1;simpa using h1)
  rw[hx];simp[TX,FH]
def gI (c:City):Nat→Int→Int
 |0,d=>d
 |k+1,d=>(bP c (gI c k d+1)).1
theorem SY (c:City)(d:Int)(n:Nat):∀k,k≤n→(∀j,j<k→(bP c (gI c j d+1)).2=0)→nB c n d=nB c (n-k) (gI c k d)
 |0,_,_=>rfl
 |k+1,hk,h=>by
  rw[SY c d n k (by omega) (fun j hj=>h j (by omega))];have e:n-k=(n-(k+1))+1:=by omega
  rw[e];show(if _ then _ else _)=_;rw[if_neg (by have:=h k (by omega);simpa using this)];rfl
theorem auF (c:City)(hc:nM c)(d n:Int):ak T 53 [fm c,.int d,.int n] (.tup [.int (lO c d n).1,.int (lO c d n).2]):=by
 refine .of_tree rfl (lA 194 (by kernel_rfl)) axV ?_;unfold lO;simp[Wc];refine⟨_,nF d,?_⟩;cases hd:aU d
 ·simp
 by_cases h1:n<0∨20000<n
 ·simp[h1]
  try (intro _ _;omega)
 simp[h1];have dP:0≤d∧d≤100000:=by simpa [aU] using hd
 have AP:∀k,(∀j,j<k→(bP c (gI c j d+1)).2=0)→0≤gI c k d∧gI c k d≤100000:=by
  intro k h;cases k with
  |zero=>exact dP
  |succ k=>
   have hx:=th (h k (by omega));have e:gI c (k+1) d=(bP c (gI c k d+1)).1:=rfl;rw[e];have h2:=hx.1;simp[aU] at h2;exact⟨by omega,hx.2.2⟩
 refine aL.scan n.toNat (fun k=>(bP c (gI c k d+1)).2=0) (fun k=>[.int 0,.int 0,.int (gI c k d),.int k]) (fun _=>[]) ?_ (fun k hk hj ho=>?_) (fun k hk hj ho=>?_) (fun hj=>?_)
 ·simp[gI]
 ·have hw:=bk (k:=k) (n:=n.toNat) hk (by omega);have hb:=AP k hj;have cd:IntKind.i64.wrap (gI c k d+1)=gI c k d+1:=aJ (by omega);have hr:=Tw c hc (gI c k d+1);have ar:(k:Int)<n:=by omega
  have e:gI c (k+1) d=(bP c (gI c k d+1)).1:=rfl;rw[e];generalize gI c k d=a at*;simp[TY,FI,ar,cd];refine⟨_,hr,?_⟩;simp[ho,hw]
 ·have hb:=AP k hj;have cd:IntKind.i64.wrap (gI c k d+1)=gI c k d+1:=aJ (by omega);have hr:=Tw c hc (gI c k d+1);have ar:(k:Int)<n:=by omega
  have e:=SY c d n.toNat k (by omega) hj;have e2:n.toNat-k=(n.toNat-k-1)+1:=by omega
  rw[e2] at e;have e3:nB c (n.toNat-k-1+1) (gI c k d)=(0,(bP c (gI c k d+1)).2):=by
   show(if _ then _ else _)=_;rw[if_pos (by simpa using ho)]
  rw[e,e3];generalize gI c k d=a at*;simp[TY,FI,ar,cd];refine⟨_,hr,?_⟩;simp[ho]
 ·have e:=SY c d n.toNat n.toNat (by omega) hj;rw[Hg] at e;have ar:¬max n 0<n:=by omega
  rw[e];simp[TY,FI,ar,nB]
end Rm
namespace Rm
open Go Go.Proofs Cx
def nR (r:Realm)(o z:Int):Prop:=∃h,h∈r.halts∧(h.order=o∧h.fr≤z)∧z≤h.to
theorem U8 (r:Realm)(o d:Int):∀k,k≤r.halts.length→∀z,d≤z→z<fD r o d k→nR r o z
 |0,_,z,h1,h2=>by simp[fD] at h2;omega
 |k+1,hk,z,h1,h2=>by
  rw[M7 r o d (by omega)] at h2;unfold vF at h2;split at h2
  ·rename_i hc;by_cases h3:z<fD r o d k
   ·exact U8 r o d k (by omega) z h1 h3
   ·exact⟨_,cv (show k<r.halts.length by omega),⟨hc.1.1,by omega⟩,by omega⟩
  ·exact U8 r o d k (by omega) z h1 h2
theorem ahO {r:Realm}(o d:Int):∀k,k≤r.halts.length→d≤fD r o d k∧∀h,h∈r.halts.take k→(h.order=o∧h.fr≤d)∧d≤h.to→d<fD r o d k
 |0,_=>⟨by simp[fD],fun h hh=>by simp at hh⟩
 |k+1,hk=>by
  obtain⟨h1,h2⟩:=ahO (r:=r) o d k (by omega);rw[M7 r o d (by omega)];have fG:fD r o d k≤vF o (fD r o d k) r.halts[k]:=by
   unfold vF;split<;>omega
  refine⟨by omega,fun h hh hc=>?_⟩;rw[jO (by omega),da] at hh;rcases hh with hh|hh
  ·have:=h2 h hh hc;omega
  ·have AO:h=r.halts[k]:=by simpa using hh
   rw[AO] at hc;by_cases he:fD r o d k=d
   ·rw[he];unfold vF;rw[if_pos hc];omega
   ·omega
theorem awu {r:Realm}{o x:Int}(h:fD r o x r.halts.length=x):¬nR r o x:=by
 rintro⟨b,hb,hc⟩;have:=(ahO (r:=r) o x r.halts.length (bK _)).2 b (by rw[qB];exact hb) hc;omega
theorem ahP {r:Realm}(hh:jf r)(o:Int):∀(n:Nat) (d:Int),d≤100001→(100002-d).toNat≤n→¬nR r o (rF r o n d)∧∀z,d≤z→z<rF r o n d→nR r o z
 |0,d,hd,hn=>by omega
 |n+1,d,hd,hn=>by
  obtain⟨h1,h2⟩:=M6 hh o d hd r.halts.length (bK _);unfold rF;by_cases he:fD r o d r.halts.length=d
  ·rw[if_pos he];exact⟨awu he,fun z h1 h2=>by omega⟩
  ·rw[if_neg he];obtain⟨g1,g2⟩:=ahP hh o n (fD r o d r.halts.length) h2 (by omega);refine⟨g1,fun z z1 z2=>?_⟩;by_cases hz:z<fD r o d r.halts.length
   ·exact U8 r o d _ (bK _) z z1 hz
   ·exact g2 z (by omega) z2
theorem GP {r:Realm}(hh:jf r)(o d:Int)(hd:d≤100001):(d≤dg r o d∧dg r o d≤100001)∧¬nR r o (dg r o d)∧∀z,d≤z→z<dg r o d→nR r o z:=
 ⟨GO hh o _ d hd,ahP hh o _ d hd (bK _)⟩
theorem awv {r:Realm}(hh:jf r)(o d e:Int)(hd:d≤100001)(he:e≤100001)(Kd:d≤e)(h:∀z,d≤z→z<e→nR r o z):dg r o d=dg r o e:=by
 obtain⟨⟨a1,a2⟩,a3,a4⟩:=GP hh o d hd;obtain⟨⟨b1,b2⟩,b3,b4⟩:=GP hh o e he;rcases Int.lt_trichotomy (dg r o d) (dg r o e) with ar|heq|D6
 ·by_cases h1:dg r o d<e
  ·exact absurd (h _ a1 h1) a3
  ·exact absurd (b4 _ (by omega) ar) a3
 ·exact heq
 ·exact absurd (a4 _ (by omega) D6) b3
theorem aww {r:Realm}(hh:jf r)(o d:Int)(hd:d≤100001)(h:¬nR r o d):dg r o d=d:=by
 obtain⟨⟨a1,a2⟩,a3,a4⟩:=GP hh o d hd;by_cases he:dg r o d=d
 ·exact he
 ·exact absurd (a4 d (by omega) (by omega)) h
theorem atq (c:City)(d:Int):(bP c d).2=0∨bP c d=(0,3):=by
 unfold bP;split
 ·exact .inr rfl
 ·split
  ·exact .inr rfl
  ·exact .inl rfl
theorem U3 {r:Realm}(hh:jf r)(c:City)(o:Int):∀(n m:Nat) (d:Int),d≤100001→(100002-d).toNat≤n→(100002-d).toNat≤m→j5 r c o n d=j5 r c o m d
 |0,_,d,hd,hn,_=>by omega
 |n+1,0,d,hd,_,hm=>by omega
 |n+1,m+1,d,hd,hn,hm=>by
  obtain⟨⟨a1,a2⟩,_⟩:=GP hh o d hd;rw[tR,tR];by_cases h1:(bP c (dg r o d)).2=0
  ·have hx:=th h1;have n1:¬((bP c (dg r o d)).2≠0):=fun e=>e h1;rw[if_neg n1,if_neg n1];by_cases h2:(bP c (dg r o d)).1=dg r o d
   ·rw[if_pos h2,if_pos h2]
   ·rw[if_neg h2,if_neg h2];exact U3 hh c o n m _ (by omega) (by omega) (by omega)
  ·have n1:(bP c (dg r o d)).2≠0:=h1;rw[if_pos n1,if_pos n1]
def oP (r:Realm)(c:City)(o d:Int):Int×Int:=j5 r c o (100002-d).toNat d
theorem awk {r:Realm}(hh:jf r)(c:City)(o d e:Int)(hd:d≤100001)(he:e≤100001)(Kd:d≤e)(h:∀z,d≤z→z<e→nR r o z):oP r c o d=oP r c o e:=by
 unfold oP;rw[U3 hh c o (100002-e).toNat (100002-d).toNat e he (by omega) (by omega)];obtain⟨n,hn⟩:∃n,(100002-d).toNat=n+1:=⟨(100002-d).toNat-1,by omega⟩
 rw[hn,tR,tR,awv hh o d e hd he Kd h]
theorem awl {r:Realm}(hh:jf r)(c:City)(o d:Int)(hd:d≤100001)(h:¬nR r o d):
 oP r c o d=if(bP c d).2≠0 then(0,3) else if(bP c d).1=d then(d,0) else oP r c o (bP c d).1:=by
 have e:oP r c o d=j5 r c o (100002-d).toNat d:=rfl;obtain⟨n,hn⟩:∃n,(100002-d).toNat=n+1:=⟨(100002-d).toNat-1,by omega⟩
 rw[e,hn,tR,aww hh o d hd h];by_cases h1:(bP c d).2=0
 ·have hx:=th h1;have n1:¬((bP c d).2≠0):=fun e=>e h1;rw[if_neg n1,if_neg n1];by_cases h2:(bP c d).1=d
  ·rw[if_pos h2,if_pos h2]
  ·rw[if_neg h2,if_neg h2];exact U3 hh c o _ _ _ (by omega) (by omega) (by omega)
 ·have n1:(bP c d).2≠0:=h1;rw[if_pos n1,if_pos n1]
theorem awj {r:Realm}(hh:jf r)(c:City)(o d:Int)(hd:d≤100001)(h:100000<d):oP r c o d=(0,3):=by
 obtain⟨⟨a1,a2⟩,_⟩:=GP hh o d hd;have e:oP r c o d=j5 r c o (100002-d).toNat d:=rfl;obtain⟨n,hn⟩:∃n,(100002-d).toNat=n+1:=⟨(100002-d).toNat-1,by omega⟩
 rw[e,hn,tR];have:bP c (dg r o d)=(0,3):=by
  unfold bP;rw[if_pos];simp[aU];omega
 rw[this];rfl
def KR (o d:Int)(nx:Int)(h:Halt):Int:=if(h.order=o∧h.fr≤d)∧d≤h.to then max nx (h.to+1) else nx
def kX (r:Realm)(o d:Int)(k:Nat):Int:=(r.halts.take k).foldl (KR o d) d
theorem acF (r:Realm)(o d:Int){k:Nat}(hk:k<r.halts.length):kX r o d (k+1)=KR o d (kX r o d k) r.halts[k]:=by
 unfold kX;rw[jO hk,Cp];rfl
theorem KQ {r:Realm}(hh:jf r)(o d:Int)(hd:d≤100001):∀k,k≤r.halts.length→(d≤kX r o d k∧kX r o d k≤100001)∧(∀z,d≤z→z<kX r o d k→nR r o z)∧∀h,h∈r.halts.take k→(h.order=o∧h.fr≤d)∧d≤h.to→d<kX r o d k
 |0,_=>⟨⟨by simp[kX],by simpa [kX] using hd⟩,fun z h1 h2=>by simp[kX] at h2;omega,fun h hm=>by simp at hm⟩
 |k+1,hk=>by
  obtain⟨⟨h1,h2⟩,h3,h4⟩:=KQ hh o d hd k (by omega);have hm:=cv (show k<r.halts.length by omega);have mz:=hh.2 _ hm;rw[acF r o d (by omega)];unfold KR;by_cases hc:(r.halts[k].order=o∧r.halts[k].fr≤d)∧d≤r.halts[k].to
  ·rw[if_pos hc];refine⟨by omega,fun z z1 z2=>?_,fun h cI mm=>by omega⟩;by_cases hz:z<kX r o d k
   ·exact h3 z z1 hz
   ·exact⟨_,hm,⟨hc.1.1,by omega⟩,by omega⟩
  ·rw[if_neg hc];refine⟨⟨h1,h2⟩,h3,fun h cI mm=>?_⟩;rw[jO (by omega),da] at cI;rcases cI with cI|cI
   ·exact h4 h cI mm
   ·have AO:h=r.halts[k]:=by simpa using cI
    rw[AO] at mm;exact absurd mm hc
theorem aq2 {r:Realm}(hh:jf r)(o d:Int)(hd:d≤100001)(h:kX r o d r.halts.length=d):¬nR r o d:=by
 rintro⟨b,hb,hc⟩;have:=(KQ hh o d hd r.halts.length (bK _)).2.2 b (by rw[qB];exact hb) hc;omega
theorem auV (r:Realm)(hh:jf r)(city d:Int)(hc:0≤city∧city<r.cities.length)(hs:∀c,c∈r.cities→nM c)(kS:r.cities.length≤100000)(h0:0≤d)(hd:d≤100001):ak T 137 [aQ r,.int city,.int d] (.tup [.int (g9 r city d).1,.int (g9 r city d).2]):=by
 refine .of_tree rfl (lA 189 (by kernel_rfl)) aym ?_;simp[WB];refine⟨_,Mc r city kS,?_⟩;have bA:city.toNat<r.cities.length:=by omega
 have DX:r.cities.getD city.toNat default=r.cities[city.toNat]:=by simp[bA]
 have Et:=hs _ (cv bA);have hF:g9 r city d=oP r r.cities[city.toNat] (cD r city) d:=by unfold g9 oP;rw[DX]
 rw[hF];generalize cD r city=o at*;refine aL.forLoop (α:=Int) (fun s vr vo=>vr=[.int s,.int 0,.int 0]∧vo=[]∧0≤s∧s≤100001∧oP r r.cities[city.toNat] o s=oP r r.cities[city.toNat] o d) (fun s=>(100002-s).toNat) d ?_ ?_
 ·simp;omega
 ·rintro e vr vo ⟨rfl,rfl,h1,h2,h3⟩;by_cases he:e≤100000
  case neg=>
   have hx:=awj hh r.cities[city.toNat] o e h2 (by omega);rw[h3] at hx;rw[hx];simp[aha,My,he]
  rw[←h3];simp[aha,My,he];refine aL.forRounds r.halts.length (fun k=>[.int (kX r o e k),.int k]) (fun _=>[]) ?_ (fun k hk=>?_) ?_
  ·simp[kX]
  ·have hw:=bk hk (by have:=hh.1;omega);have cY:=(KQ hh o e h2 k (by omega)).1;have mz:=hh.2 _ (cv hk);rw[acF r o e hk];unfold KR;generalize kX r o e k=x at*;by_cases hc:(r.halts[k].order=o∧r.halts[k].fr≤e)∧e≤r.halts[k].to
   ·have cd:IntKind.i64.wrap (r.halts[k].to+1)=r.halts[k].to+1:=aJ (by omega);simp[Mx,BP,hk,hw,hc,cd];split
    ·rw[YE (by omega)]
    ·rw[NL (by omega)]
   ·simp[Mx,BP,hk,hw,hc]
  ·have hJ:=KQ hh o e h2 r.halts.length (bK _);have eA:=aq2 hh o e h2;generalize kX r o e r.halts.length=x at*;by_cases hx:x=e
   ·subst hx;have eA:=eA rfl;rw[awl hh r.cities[city.toNat] o x h2 eA];have AV:=Tw r.cities[city.toNat] Et x;have ko:=th (c:=r.cities[city.toNat]) (d:=x);have abO:=atq r.cities[city.toNat] x;generalize bP r.cities[city.toNat] x=N at*;obtain⟨y,er⟩:=N;simp only at AV ko abO;simp[Mx,BP,bA,hc];refine⟨_,AV,?_⟩;by_cases D0:er=0
    ·obtain⟨g1,g2,g3⟩:=ko D0;by_cases hy:y=x
     ·simp[D0,hy]
     ·simp[D0,hy];have hyx:aU x=true:=g1;simp[aU] at hyx;exact⟨y,by omega,rfl,by omega,by omega,rfl⟩
    ·have:er=3:=by
      rcases abO with h|h
      ·exact absurd h D0
      ·injection h
     simp[D0]
     try omega
   ·have ar:e<x:=by omega
    have hG:=awk hh r.cities[city.toNat] o e x h2 hJ.1.2 hJ.1.1 hJ.2.1;simp[Mx,BP,hx];exact⟨x,by omega,rfl,by omega,by omega,hG.symm⟩
end Rm
namespace Rm
open Go Go.Proofs Cx
theorem length_eq (y m:Int)(hy:1≤y∧y≤9000)(hm:1≤m∧m≤12):kY y m=ef y m:=by
 rw[ads y m hy hm];by_cases h:m=12
 ·subst h;have h1:=RH y (by omega);rw[qa _ _ _ (by omega),qa _ _ _ (by omega)] at h1;have e:12*(y+1)+1-3=12*y+12-3+1:=by omega
  rw[e] at h1;have:ef y 12=31:=by unfold ef;simp
  omega
 ·have h1:=Lf y m (by omega) (by omega);rw[qa _ _ _ (by omega),qa _ _ _ (by omega)] at h1;have e:12*y+(m+1)-3=12*y+m-3+1:=by omega
  rw[e] at h1;omega
theorem ai9 (y m d:Int)(hy:1≤y∧y≤9000)(hm:1≤m∧m≤12)(hd:1≤d∧d≤ef y m):ak T 184 [.int y,.int m,.int d] (.tup [.int (qJ y m d).1,.int (qJ y m d).2]):=by
 have hle:=length_eq y m hy hm;have hlb:=EO y m;have xj:tu y m d=bV y m d:=EY y m d (by omega) hm (by omega);refine .of_tree rfl sq tU ?_;unfold qJ;by_cases h0:2000≤y∧y≤2300
 ·have qT:pA y m d=true:=by simp[pA];omega
  rw[qT];simp[oQ];rw[if_pos ⟨⟨⟨⟨h0.1,h0.2⟩,hm.1⟩,hm.2⟩,hd.1⟩];refine⟨_,ri y m,?_⟩;rw[hle];have h2:¬ef y m<d:=by omega
  have jn:d≤ef y m:=hd.2;simp[h0,hm,hd,jn];rw[if_neg (by omega)];refine⟨_,vg _ _ _,_,oT _,?_⟩;rw[xj];cases hv:aU (bV y m d)<;>simp[hv]
 ·have qT:pA y m d=false:=by simp[pA];omega
  rw[qT];simp[oQ];rw[if_neg (by omega)];intro a1 a2 a3 a4 a5;exact absurd ⟨a1,a2⟩ h0
def mD (d n:Int):Int×Int:=if 5000<n then(0,3) else uh d n
theorem ai3 (d n:Int)(hd:0≤d∧d≤100000)(hn:0≤n):ak T 159 [.int d,.int n] (.tup [.int (mD d n).1,.int (mD d n).2]):=by
 unfold mD;by_cases h5:5000<n
 ·rw[if_pos h5];refine .of_tree rfl CK GX ?_;simp[yB,h5];exact⟨_,oT d⟩
 rw[if_neg h5];obtain⟨hm,Ke,hy,xj⟩:=Ag d (by omega);obtain⟨y0,y1,yl,yu⟩:=Pm d hd;have Qf:=JB d (by omega);unfold uh;generalize (bz d).1=y at*;generalize (bz d).2.1=m at*;generalize (bz d).2.2=nX at*;obtain⟨A,hA⟩:∃A,A=12*y+m-1+n:=⟨_,rfl⟩
 have wA:IntKind.i64.wrap (IntKind.i64.wrap (IntKind.i64.wrap (IntKind.i64.wrap (12*y)+m)-1)+n)=A:=by
  rw[aJ (n:=12*y) (by omega),aJ (n:=12*y+m) (by omega),aJ (n:=12*y+m-1) (by omega),aJ (by omega)];exact hA.symm
 have wY:IntKind.i64.wrap (A.tdiv 12)=A/12:=by rw[vU (by omega)];exact aJ (by omega)
 have wM:IntKind.i64.wrap (A.tmod 12+1)=A%12+1:=by rw[ub (by omega)];exact aJ (by omega)
 rw[←hA,if_neg (by omega)];have hle:=length_eq (A/12) (A%12+1) (by omega) (by omega);have hlb:=EO (A/12) (A%12+1);have n1:¬n< -5000:=by omega
 have hv:aU d=true:=by simp[aU];omega
 have cS:=oT d;rw[hv] at cS;have hD:=ai9 (A/12) (A%12+1) (min nX (ef (A/12) (A%12+1))) (by omega) (by omega) (by omega);refine .of_tree rfl CK GX ?_;simp[yB,n1,h5];refine⟨_,cS,?_⟩;simp;refine⟨_,Qf,?_⟩;simp[wA,wY,wM];refine⟨_,ri _ _,?_⟩;rw[hle];by_cases hl:ef (A/12) (A%12+1)<nX
 ·rw[NN (by omega)] at hD ⊢;simp[hl];exact⟨_,hD,rfl,rfl⟩
 ·rw[NM (by omega)] at hD ⊢;simp[hl];exact⟨_,hD,rfl,rfl⟩
theorem Zb (d:Int)(t:Tenor)(hd:0≤d∧d≤100000):qF d t=if t.n<0∨20000<t.n then(0,3) else if t.unit=1 then mD d t.n else(d+t.n,0):=by
 obtain⟨G,hG⟩:∃G,G=if t.n<0∨20000<t.n then(0,3) else if t.unit=1 then mD d t.n else(d+t.n,0):=⟨_,rfl⟩
 rw[←hG];have h:ak T 124 [.int d,jS t] (.tup [.int G.1,.int G.2]):=by
  by_cases h0:t.n<0
  ·rw[if_pos (.inl h0)] at hG;rw[hG];refine .of_tree rfl qG rJ ?_;simp[oR,h0]
  by_cases h1:20000<t.n
  ·rw[if_pos (.inr h1)] at hG;rw[hG];refine .of_tree rfl qG rJ ?_;simp[oR,h0,h1]
  rw[if_neg (by omega)] at hG;by_cases h2:t.unit=1
  ·rw[if_pos h2] at hG;rw[hG];refine .of_tree rfl qG rJ ?_;simp[oR,h0,h1,h2];refine⟨_,ai3 d t.n hd (by omega),?_⟩;simp
  ·rw[if_neg h2] at hG;rw[hG];have hw:IntKind.i64.wrap (d+t.n)=d+t.n:=aJ (by omega);refine .of_tree rfl qG rJ ?_;simp[oR,h0,h1,h2,hw]
 have h2:=(Hj d t).det h;simp at h2;exact Prod.ext h2.1 h2.2
end Rm
namespace Rm
open Go Go.Proofs Cx
theorem agz (r:Realm)(fr to:Int)(hl:r.usances.length≤100000):ak T 135 [aQ r,.int fr,.int to] (.tup [.int (je r.usances fr to).1,.int (je r.usances fr to).2]):=by
 refine .of_tree rfl (lA 181 (by kernel_rfl)) aya ?_;simp[Wq];unfold je;refine aL.scan r.usances.length (fun k=>rL fr to (r.usances.getD k default)=false) (fun k=>[.int 0,.int 0,.int k]) (fun _=>[]) ?_ (fun k hk hj aB=>?_) (fun k hk hj aB=>?_) (fun hj=>?_)
 ·simp
 ·have hw:=bk hk (by omega);have hn:¬(r.usances[k].fr=fr∧r.usances[k].to=to):=by simpa [rL,hk] using aB
  simp[T8,FT,hk,hw,hn]
 ·have dE:=pH hk (by simpa [hk] using aB) (fun j br=>by have:=hj j br;simpa [show j<r.usances.length by omega] using this);have hc:r.usances[k].fr=fr∧r.usances[k].to=to:=by simpa [rL,hk] using aB
  rw[dE];simp[T8,FT,hk,hc]
 ·have dE:=qO (l:=r.usances) (p:=rL fr to) (fun j br=>by have:=hj j br;simpa [br] using this);rw[dE];simp[T8,FT]
theorem agD (r:Realm)(n:Int):ak T 133 [aQ r,.int n] (.bool (ax n r.cities.length)):=by
 refine .of_tree rfl (lA 178 (by kernel_rfl)) ayl ?_;by_cases h1:0≤n<;>by_cases h2:n<r.cities.length<;>simp[WA,h1,h2,ax]
theorem auU (t:Tenor):ak T 134 [jS t] (.bool (lV t)):=by
 refine .of_tree rfl (lA 180 (by kernel_rfl)) ayk ?_;by_cases h1:t.kind=0<;>by_cases h2:t.kind=1<;>simp[Wz,h1,h2,lV]
def mc (x:Int×Int):Int:=if x.2≠0∨aU x.1=false then-1 else x.1
theorem auS (r:Realm)(b:Bill)(seen:Int)(hl:r.usances.length≤100000)(hk:0≤b.tenor.kind∧b.tenor.kind<5)(hu:b.tenor.unit=0∨b.tenor.unit=1)(hd:0≤b.day∧b.day≤100000)(hs:b.tenor.kind=1→0≤seen∧seen≤100000):
 ak T 136 [aQ r,db b,.int seen] (.int (mc (gz r.usances b seen))):=by
 refine .of_tree rfl (lA 182 (by kernel_rfl)) ayi ?_;have fin:∀n:Int,mc (n,0)=if aU n=true then n else-1:=by
  intro n;unfold mc;cases aU n<;>simp
 unfold gz;by_cases h0:b.tenor.kind=0
 ·rw[if_pos h0,fin];simp[tV,h0];refine⟨_,nF _,?_⟩;cases hv:aU seen<;>simp[hv]
 rw[if_neg h0];by_cases h3:b.tenor.kind=3
 ·rw[if_neg (by omega),if_neg (by omega),if_neg (by omega),fin];simp[tV,h3];refine⟨_,nF _,?_⟩;cases hv:aU b.tenor.n<;>simp[hv]
 by_cases h4:b.tenor.kind=4
 ·rw[if_neg (by omega),if_neg (by omega),if_pos h4];have Ez:=agz r b.city b.pay hl;generalize je r.usances b.city b.pay=U at*;obtain⟨n,e⟩:=U;have lF:b.day+n=n+b.day:=by omega
  simp only[] at*;rw[lF];simp[tV,h4];refine⟨_,Ez,?_⟩;simp;by_cases he:e=0
  ·subst he;rw[fin];simp;refine⟨_,nF _,?_⟩;cases hv:aU (IntKind.i64.wrap (n+b.day))<;>simp[hv]
  ·have:mc (IntKind.i64.wrap (n+b.day),e)=-1:=by unfold mc;rw[if_pos (.inl he)]
   rw[this];simp[he]
   try exact⟨_,nF _⟩
 have main:∀x:Int,(0≤x∧x≤100000)→x=(if b.tenor.kind=1 then seen else b.day)→(b.tenor.kind=1∨b.tenor.kind=2)→aK T tV (m3 [aQ r,db b,.int seen]) (fun y=>y=.ret (.int (mc (qF x b.tenor)))):=by
  intro x hx hxe apf;rw[Zb x b.tenor hx];have Qs:(b.tenor.kind=1∨b.tenor.kind=2)=True:=eq_true apf;by_cases hn:b.tenor.n<0∨20000<b.tenor.n
  ·rw[if_pos hn];simp[tV,h0,h3,h4,Qs,hn];rfl
  rw[if_neg hn];have uQ:(if b.tenor.kind=1 then D.int seen else D.int b.day)=D.int x:=by rw[hxe];split<;>rfl
  by_cases h2:b.tenor.unit=1
  ·rw[if_pos h2];have hA:=auD x b.tenor.n;have Qg:aU x=true:=by simp[aU];omega
   rw[Qg] at hA;have kT:(if 5000<b.tenor.n then D.tup [.int 0,.int 3] else .tup [.int (uh x b.tenor.n).1,.int (uh x b.tenor.n).2])=.tup [.int (mD x b.tenor.n).1,.int (mD x b.tenor.n).2]:=by
        unfold mD;split<;>rfl
   have hA':ak T 162 [.int x,.int b.tenor.n] (.tup [.int (mD x b.tenor.n).1,.int (mD x b.tenor.n).2]):=by
        rw[←kT];by_cases h5:5000<b.tenor.n
        ·rw[if_pos (.inr (.inr h5))] at hA;rw[if_pos h5];exact hA
        ·rw[if_neg (by simp;omega)] at hA;rw[if_neg h5];exact hA
   simp[tV,h0,h3,h4,Qs,hn,h2,uQ];refine⟨_,hA',?_⟩;generalize mD x b.tenor.n=M at*;obtain⟨n,e⟩:=M;simp;by_cases he:e=0
   ·subst he;rw[fin];simp;refine⟨_,nF _,?_⟩;cases hv:aU n<;>simp[hv]
   ·have:mc (n,e)=-1:=by unfold mc;rw[if_pos (.inl he)]
    rw[this];simp[he]
    try exact⟨_,nF _⟩
  ·rw[if_neg h2,fin];have hw:IntKind.i64.wrap (x+b.tenor.n)=x+b.tenor.n:=aJ (by omega);simp[tV,h0,h3,h4,Qs,hn,h2,←hxe,hw];refine⟨_,nF _,?_⟩;cases hv:aU (x+b.tenor.n)<;>simp[hv]
 by_cases h1:b.tenor.kind=1
 ·rw[if_pos h1];exact main seen (hs h1) (by rw[if_pos h1]) (.inl h1)
 ·rw[if_neg h1,if_pos (by omega)];exact main b.day hd (by rw[if_neg h1]) (.inr (by omega))
theorem ak2 (y m d:Int):(qJ y m d).2=0∨(qJ y m d).2=3:=by
 unfold qJ;split<;>simp
theorem atb (d n:Int):(mD d n).2=0∨(mD d n).2=3:=by
 unfold mD;split
 ·simp
 ·unfold uh;split
  ·simp
  ·exact ak2 _ _ _
theorem az9 (l:List Usance)(a b:Int):(je l a b).2=0∨(je l a b).2=4:=by
 unfold je;split<;>simp
theorem aj9 (l:List Usance)(b:Bill)(seen:Int)(hd:0≤b.day∧b.day≤100000)(hs:b.tenor.kind=1→0≤seen∧seen≤100000)(h4:b.tenor.kind≠4):(gz l b seen).2=0∨(gz l b seen).2=3:=by
 have af:∀x,(0≤x∧x≤100000)→(qF x b.tenor).2=0∨(qF x b.tenor).2=3:=by
  intro x hx;rw[Zb x _ hx];split
  ·simp
  split
  ·exact atb _ _
  ·simp
 unfold gz;split
 ·simp
 split
 ·rename_i h;exact af _ (hs h)
 split
 ·exact af _ hd
 simp
theorem auT (r:Realm)(hr:RightD r)(kS:r.cities.length≤100000)(b:Bill)(seen bF:Int):ak T 95 [aQ r,db b,.int seen,.int bF] (.tup [.int (ki r b seen bF).1,.int (ki r b seen bF).2]):=by
 have KI:D.agg [D.int b.tenor.kind,D.int b.tenor.n,D.int b.tenor.unit]=jS b.tenor:=rfl;have gU:=agw r hr.small;have Ez:=agz r b.city b.pay (by have:=hr.small.us;omega);obtain⟨G,hG⟩:∃G,G=ki r b seen bF:=⟨_,rfl⟩
 rw[←hG];unfold ki at hG;refine .of_tree rfl (lA 177 (by kernel_rfl)) ayj ?_;simp[Wy];refine⟨_,gU,?_⟩;by_cases h0:dv r=0
 case neg=>simp[h0] at hG ⊢;simp[hG]
 simp[h0] at hG ⊢;refine⟨_,agD r b.city,?_⟩;cases h1:ax b.city r.cities.length
 ·simp[h1] at hG ⊢;simp[hG]
 simp[h1] at hG ⊢;refine⟨_,agD r b.pay,?_⟩;cases h2:ax b.pay r.cities.length
 ·simp[h2] at hG ⊢;simp[hG]
 simp[h2] at hG ⊢;refine⟨_,nF b.day,?_⟩;cases h3:aU b.day
 ·simp[h3] at hG ⊢;simp[hG]
 simp[h3] at hG ⊢;have hp:0≤b.pay∧b.pay<r.cities.length:=by simpa [ax] using h2
 have aZ:0≤b.day∧b.day≤100000:=by simpa [aU] using h3
 by_cases h4:((b.tenor.kind<0∨5≤b.tenor.kind)∨b.tenor.unit<0)∨2≤b.tenor.unit
 ·rw[if_pos h4] at hG;rw[if_neg (by omega)];rw[if_pos (by omega)];simp[hG]
 rw[if_neg h4] at hG;have fin:G=(if lV b.tenor=true∧seen=-1 then(0,4) else u7 r b.pay bF (gz r.usances b seen))→0≤bF→bF≤20000→(seen=-1∨(0≤seen∧seen≤100000))→
  ∃d,ak T 134 [jS b.tenor] d∧
     if d.b=true∧seen=-1 then 0=G.1∧4=G.2
     else
      if b.tenor.kind=4 then
       ∃d,ak T 135 [aQ r,D.int b.city,D.int b.pay] d∧
            if(d.tget 1).i=0 then
             ∃d,ak T 136 [aQ r,db b,D.int seen] d∧
               if d.i<0∨100000<IntKind.i64.wrap (d.i+bF) then 0=G.1∧3=G.2
               else ∃mh,ak T 137 [aQ r,D.int b.pay,D.int (IntKind.i64.wrap (d.i+bF))] mh∧mh.tget 0=D.int G.1∧mh.tget 1=D.int G.2
            else 0=G.1∧4=G.2
      else
       ∃d,ak T 136 [aQ r,db b,D.int seen] d∧
            if d.i<0∨100000<IntKind.i64.wrap (d.i+bF) then 0=G.1∧3=G.2
            else ∃mh,ak T 137 [aQ r,D.int b.pay,D.int (IntKind.i64.wrap (d.i+bF))] mh∧mh.tget 0=D.int G.1∧mh.tget 1=D.int G.2:=by
  intro hG g0 g1 A4;refine⟨_,auU b.tenor,?_⟩;by_cases ou:lV b.tenor=true∧seen=-1
  ·rw[if_pos ou] at hG;simp[ou,hG]
  rw[if_neg ou] at hG;simp only[Pq];rw[if_neg ou];have bI:b.tenor.kind=1→0≤seen∧seen≤100000:=by
   intro h;rcases A4 with h'|h'
   ·exact absurd ⟨by simp[lV,h],h'⟩ ou
   ·exact h'
  have hB:=auS r b seen (by have:=hr.small.us;omega) (by omega) (by omega) aZ bI;have tail:((gz r.usances b seen).2=0∨(gz r.usances b seen).2=3)→∃d,ak T 136 [aQ r,db b,D.int seen] d∧
              if d.i<0∨100000<IntKind.i64.wrap (d.i+bF) then 0=G.1∧3=G.2
              else ∃mh,ak T 137 [aQ r,D.int b.pay,D.int (IntKind.i64.wrap (d.i+bF))] mh∧mh.tget 0=D.int G.1∧mh.tget 1=D.int G.2:=by
   intro aoQ;refine⟨_,hB,?_⟩;unfold u7 at hG;generalize gz r.usances b seen=B at*;obtain⟨n,e⟩:=B;simp only at hG aoQ;by_cases he:e=0
   ·subst he;cases hv:aU n
    ·have:mc (n,0)=-1:=by unfold mc;rw[if_pos (.inr hv)]
     rw[if_neg (by simp),if_pos (.inl hv)] at hG;simp[this,hG]
    ·have hn:0≤n∧n≤100000:=by simpa [aU] using hv
     have hw:IntKind.i64.wrap (n+bF)=n+bF:=aJ (by omega);have:mc (n,0)=n:=by unfold mc;rw[if_neg (by simp[hv])]
     rw[if_neg (by simp),hw] at hG;rw[this];simp only[Dm,hw];by_cases hle:100000<n+bF
     ·rw[if_pos (.inr hle)] at hG;rw[if_pos (.inr hle)];simp[hG]
     ·rw[if_neg (by simp[hv];omega)] at hG;rw[if_neg (by omega)];refine⟨_,auV r hr.halts b.pay (n+bF) hp hr.cities kS (by omega) (by omega),?_⟩;simp[hG]
   ·have:mc (n,e)=-1:=by unfold mc;rw[if_pos (.inl he)]
    have h3:e=3:=by omega
    subst h3;rw[if_pos he] at hG;simp[this,hG]
  by_cases k4:b.tenor.kind=4
  ·rw[if_pos k4];refine⟨_,Ez,?_⟩;have P7:(gz r.usances b seen).2=(je r.usances b.city b.pay).2:=by
        unfold gz;rw[if_neg (by omega),if_neg (by omega),if_neg (by omega),if_pos k4]
   by_cases he:(je r.usances b.city b.pay).2=0
   ·simp[he];exact tail (.inl (by rw[P7,he]))
   ·have h4:(je r.usances b.city b.pay).2=4:=by
      rcases az9 r.usances b.city b.pay with h|h
      ·exact absurd h he
      ·exact h
    unfold u7 at hG;rw[if_pos (by rw[P7];exact he),P7,h4] at hG;simp[h4,hG]
  ·rw[if_neg k4];exact tail (aj9 _ _ _ aZ bI k4)
 by_cases hs:seen=-1
 ·rw[if_neg (by simp[hs])];by_cases h5:bF<0∨20000<bF
  ·rw[if_pos (by rcases h5 with h|h;exact .inl (.inr h);exact .inr h)] at hG;rw[if_pos (by omega)];simp[hG]
  ·rw[if_neg (by rintro((h|h)|h);exact h.1 hs;exact h5 (.inl h);exact h5 (.inr h))] at hG;rw[if_neg (by omega)];exact fin hG (by omega) (by omega) (.inl hs)
 ·rw[if_pos ⟨hs,by omega⟩];refine⟨_,nF seen,?_⟩;simp only[Pq];by_cases h5:(¬seen=-1∧aU seen=false∨bF<0)∨20000<bF
  ·rw[if_pos h5] at hG;rw[if_pos (by rcases h5 with(h|h)|h<;>simp[h])];simp[hG]
  ·rw[if_neg h5] at hG;rw[if_neg (by rintro((((h|h)|h)|h));exact h4 h;exact h5 (.inl (.inl h));exact h5 (.inl (.inr h));exact h5 (.inr h))];have hv:0≤seen∧seen≤100000:=by
     cases e:aU seen
     ·exact absurd (.inl (.inl ⟨hs,e⟩)) h5
     ·simpa [aU] using e
   exact fin hG (by omega) (by omega) (.inr hv)
end Rm
namespace Rm
open Go Go.Proofs Cx
def minD:List Int→Int
 |[]=>0
 |x::l=>l.foldl min x
theorem adp (l:List Int)(x:Int):minD (l++[x])=if l=[] then x else min (minD l) x:=by
 cases l with
 |nil=>rfl
 |cons y l=>
  rw[if_neg (by simp)];show(l++[x]).foldl min y=_;rw[Cp];rfl
theorem as9 {l:List Int}(h:l≠[]):eQ l=minD l:=by
 cases l with
 |nil=>exact absurd rfl h
 |cons x l=>rfl
def lU (f:File)(n:Nat):List Int:=((f.signs.take n).filter (fun s=>decide (s.kind=1))).map (·.day)
def lz (f:File)(n:Nat):List Int:=((f.acts.take n).filter (fun s=>decide (s.kind=1))).map (·.day)
theorem awe (f:File):fi f=if f.bill.tenor.kind=0 then(match f.acts.find? (fun a=>decide (a.kind=2)) with|some a=>a.day|none=>-1) else if f.bill.tenor.kind=1∧lU f f.signs.length++lz f f.acts.length≠[] then minD (lU f f.signs.length++lz f f.acts.length) else-1:=by
 unfold fi;by_cases h0:f.bill.tenor.kind=0
 ·rw[if_pos h0]
  have e:jI f=fun a=>decide (a.kind=2):=by
   funext a;simp[jI,h0]
  rw[e];have hn:¬f.bill.tenor.kind=1:=by omega
  have e2:fB f f.signs.length++eT f f.acts.length=[]:=by simp[fB,eT,hn]
  rw[e2];rfl
 ·rw[if_neg h0];have e:f.acts.find? (jI f)=none:=by
   rw[nS];intro a _;simp[jI,h0]
  rw[e];simp only;by_cases h1:f.bill.tenor.kind=1
  ·have e2:fB f f.signs.length++eT f f.acts.length=lU f f.signs.length++lz f f.acts.length:=by simp only[fB,eT,if_pos h1,lU,lz]
   rw[e2];by_cases h2:lU f f.signs.length++lz f f.acts.length=[]
   ·rw[if_neg (by simp[h2]),h2];rfl
   ·rw[if_pos ⟨h1,h2⟩];exact as9 h2
  ·have e2:fB f f.signs.length++eT f f.acts.length=[]:=by simp[fB,eT,h1]
   rw[if_neg (fun h=>h1 h.1),e2];rfl
theorem auZ (f:File)(h1:f.signs.length≤100000)(h2:f.acts.length≤100000):ak T 96 [bT f] (.int (fi f)):=by
 refine .of_tree rfl (lA 176 (by kernel_rfl)) ayq ?_;rw[awe];by_cases h0:f.bill.tenor.kind=0
 ·rw[if_pos h0];simp[Np,h0];refine aL.scan f.acts.length (fun k=>¬(f.acts.getD k default).kind=2) (fun k=>[.int 0,.int k]) (fun _=>[]) ?_ (fun k hk hj aB=>?_) (fun k hk hj aB=>?_) (fun hj=>?_)
  ·simp
  ·have hw:=bk hk (by omega);have hn:¬f.acts[k].kind=2:=by simpa [hk] using aB
   simp[Uk,F5,hk,hw,hn]
  ·have dE:=pH (p:=fun a:Act=>decide (a.kind=2)) hk (by simpa [hk] using aB) (fun j br=>by have:=hj j br;simpa [show j<f.acts.length by omega] using this);have hc:f.acts[k].kind=2:=by simpa [hk] using aB
   rw[dE];simp[Uk,F5,hk,hc]
  ·have dE:=qO (l:=f.acts) (p:=fun a:Act=>decide (a.kind=2)) (fun j br=>by have:=hj j br;simpa [br] using this);rw[dE];simp[Uk,F5]
 rw[if_neg h0];obtain⟨G,hG⟩:∃G,G=if f.bill.tenor.kind=1∧lU f f.signs.length++lz f f.acts.length≠[] then minD (lU f f.signs.length++lz f f.acts.length) else-1:=⟨_,rfl⟩
 rw[←hG];simp[Np,h0];refine aL.forRounds f.signs.length (fun k=>[.bool (!(lU f k).isEmpty),.int (minD (lU f k)),.int k]) (fun _=>[]) ?_ (fun k hk=>?_) ?_
 ·simp[lU,minD]
 ·have hw:=bk hk (by omega);have hs:lU f (k+1)=lU f k++if f.signs[k].kind=1 then[f.signs[k].day] else[]:=by
   unfold lU;simp only[vG _ _ hk,pf]
   congr 1
   by_cases h':f.signs[k].kind=1<;>simp[h']
  rw[hs];generalize lU f k=A at*;by_cases hc:f.signs[k].kind=1
  ·rw[if_pos hc,adp];cases A with
   |nil=>simp[F6,yp,hk,hw,hc]
   |cons x A=>
    have kT:(if f.signs[k].day<minD (x::A) then f.signs[k].day else minD (x::A))=min (minD (x::A)) f.signs[k].day:=by
      split<;>omega
    generalize minD (x::A)=m at*;by_cases hl:f.signs[k].day<m
    ·rw[if_pos hl] at kT;simp[F6,yp,hk,hw,hc,hl,←kT]
    ·rw[if_neg hl] at kT;simp[F6,yp,hk,hw,hc,hl,←kT]
  ·rw[if_neg hc,rW];simp[F6,yp,hk,hw,hc]
 ·generalize lU f f.signs.length=S at*;simp[F6,yp];refine aL.forRounds f.acts.length (fun k=>[.bool (!(S++lz f k).isEmpty),.int (minD (S++lz f k)),.int k]) (fun _=>[]) ?_ (fun k hk=>?_) ?_
  ·simp[lz]
  ·have hw:=bk hk (by omega);have hs:lz f (k+1)=lz f k++if f.acts[k].kind=1 then[f.acts[k].day] else[]:=by
        unfold lz;simp only[vG _ _ hk,pf]
        congr 1
        by_cases h':f.acts[k].kind=1<;>simp[h']
   rw[hs,←oY];generalize S++lz f k=A at*;by_cases hc:f.acts[k].kind=1
   ·rw[if_pos hc,adp];cases A with
    |nil=>simp[yq,tN,hk,hw,hc]
    |cons x A=>
     have kT:(if f.acts[k].day<minD (x::A) then f.acts[k].day else minD (x::A))=min (minD (x::A)) f.acts[k].day:=by
       split<;>omega
     generalize minD (x::A)=m at*;by_cases hl:f.acts[k].day<m
     ·rw[if_pos hl] at kT;simp[yq,tN,hk,hw,hc,hl,←kT]
     ·rw[if_neg hl] at kT;simp[yq,tN,hk,hw,hc,hl,←kT]
   ·rw[if_neg hc,rW];simp[yq,tN,hk,hw,hc]
  ·generalize S++lz f f.acts.length=A at*;by_cases h3:f.bill.tenor.kind=1
   ·cases A with
    |nil=>
     rw[if_neg (by simp)] at hG;simp[yq,tN,h3,hG]
    |cons x A=>
     rw[if_pos ⟨h3,by simp⟩] at hG;simp[yq,tN,h3,hG]
   ·rw[if_neg (fun h=>h3 h.1)] at hG;simp[yq,tN,h3,hG]
end Rm
namespace Rm
open Go Go.Proofs Cx
theorem aq9 {r:Realm}{a q:Int}{l:List Int}(h:(cU r a q l).1≠[]):jm r a q l=true∧l.getD 0 0=a:=by
 unfold cU at h;split at h
 ·assumption
 ·exact absurd rfl h
theorem agQ (r:Realm)(hr:Right r)(hc:dv r=0)(kS:r.cities.length≤100000)(forum q:Int)(c:Case)(hf:FewS c.file):ak T 52 [aQ r,.int forum,.int q,eL c] (iv (gR r forum q c)):=by
 have hP:=avi r hc kS forum c hf;have hQ:=TH q;refine .of_tree rfl (lA 142 (by kernel_rfl)) ayV ?_;simp[W2];refine⟨_,hP,?_⟩;by_cases hp:dS r forum c=[]
 ·rw[acE (.inl hp),hp];simp
  try rfl
 have eO:¬((dS r forum c).length:Int)=0:=by
  have:=vX.mpr hp;omega
 by_cases hq:q<0∨22≤q
 ·rw[acE (.inr hq)];have:¬(0≤q∧q<22):=by omega
  simp[hp,eO];refine⟨_,hQ,?_⟩;simp[this]
  try rfl
 have hj:=aq1 hr hc hp hq;have hqq:0≤q∧q<22:=by omega
 obtain⟨Kg,sL⟩:=aq9 hj.path;have hL:=avc r hr.by_ (atI hc) hr.len forum q (dS r forum c) Kg hqq sL;have hC:=agR r kS c hf;have hlen:=acJ r forum q (dS r forum c);have Qu:=KT hr (a:=forum) (q:=q) (l:=dS r forum c) (by have:=(Ar Kg).2.1;omega);have hol:=hr.len;rw[hj.ask];have abX:=hj.path;simp[hp,eO];refine⟨_,hQ,?_⟩;simp[hqq];refine⟨_,hL,?_⟩;generalize cU r forum q (dS r forum c)=L at*;obtain⟨path,err⟩:=L;simp only at*;have AZ:=vX.mpr abX;have AX:¬(path.length:Int)=0:=by omega
 by_cases he:err=0
 ·obtain⟨h1,h2⟩:=Qu he;have sX:IntKind.i64.wrap ((path.length:Int)-1)=(path.length:Int)-1:=aJ (by omega);have xe:((path.length:Int)-1).toNat=path.length-1:=by omega
  have ar:path.length-1<path.length:=by omega
  have gF:ct path=path[path.length-1]:=by simp[ct,ar]
  have h3:(ct path).toNat<r.orders.length:=by omega
  have h4:gX r (ct path)=r.orders[(ct path).toNat]:=by simp[gX,h3]
  obtain⟨aB,hrl⟩:=hr.ok _ (cv h3);simp[he,abX,sX,xe,ar,←gF,h2,h3,h4];refine⟨by omega,_,hC,_,au8 _ q _ aB (by omega),?_⟩;simp
  try rfl
 ·simp[he]
  try rfl
theorem ave (r:Realm)(hr:Right r)(hc:dv r=0)(kS:r.cities.length≤100000)(forum q:Int)(f:File)(day:Int)(hf:FewS f):ak T 67 [aQ r,.int forum,.int q,bT f,.int day] (iv (eK r forum q f day)):=by
 refine .of_tree rfl (lA 141 (by kernel_rfl)) ayW ?_;simp[W3];refine⟨iv (eK r forum q f day),agQ r hr hc kS forum q ⟨{f with facts:=[]},0,-1,-1,-1,day⟩ ⟨hf.1,hf.2,hf.3,by simp⟩,?_⟩;simp
 try rfl
theorem Zk {r:Realm}{forum q:Int}{c d:Case}(h:aI c=aI d):gR r forum q c=gR r forum q d:=by
 have e:dN r forum q c=dN r forum q d:=by unfold dN;rw[h]
 unfold gR;rw[e]
theorem akc (r:Realm)(forum q:Int)(f:File)(day:Int):eK r forum q (aE f day) day=eK r forum q f day:=by
 unfold eK;refine Zk ?_;unfold aI;simp only[Of,Hq _ (yN day)]
theorem atA (r:Realm)(forum:Int)(f:File)(day:Int):-1≤jb (eK r forum 6 f day):=by
 unfold jb;split
 ·omega
 rename_i h;have hk:(eK r forum 6 f day).cell.known=true:=by
  cases e:(eK r forum 6 f day).cell.known
  ·exact absurd (.inr e) h
  ·rfl
 unfold eK gR at hk ⊢;split
 ·rename_i h1;rw[if_pos h1] at hk;unfold dN at hk;split at hk
  ·cases hk
  split at hk
  ·cases hk
  split at hk
  ·cases hk
  ·cases hk
 ·rename_i h1;rw[if_neg h1] at hk;simp only at hk ⊢;unfold kh at hk ⊢;split
  ·rename_i h2;rw[if_pos h2] at hk;cases hk
  ·rename_i h2;rw[if_neg h2] at hk;have ht:(dW 6).1=0:=rfl;split
   ·simp only;omega
   ·rename_i h3;have:(pE (dN r forum 6 ⟨{f with facts:=[]},0,-1,-1,-1,day⟩).2 (findF (gX r (dN r forum 6 ⟨{f with facts:=[]},0,-1,-1,-1,day⟩).1.order) 6).1).known=false:=by
     cases e:(pE (dN r forum 6 ⟨{f with facts:=[]},0,-1,-1,-1,day⟩).2 (findF (gX r (dN r forum 6 ⟨{f with facts:=[]},0,-1,-1,-1,day⟩).1.order) 6).1).known
     ·rfl
     ·exact absurd ⟨ht,e⟩ h3
    rw[if_neg h3] at hk;simp only at hk;rw[this] at hk;cases hk
theorem avg (r:Realm)(hr:Right r)(hd:RightD r)(hc:dv r=0)(kS:r.cities.length≤100000)(forum:Int)(f:File)(day:Int)(hf:FewS f):ak T 51 [aQ r,.int forum,bT f,.int day] (.int (eg r forum f day)):=by
 refine .of_tree rfl (lA 139 (by kernel_rfl)) ayZ ?_;simp[W6];refine⟨_,agG f day (by have:=hf.signs;omega) (by have:=hf.acts;omega) (by have:=hf.alters;omega) (by have:=hf.facts;omega),?_⟩;have hg:=hf.at_ day;have hB:=ave r hr hc kS forum 6 f day hf;have pW:=atA r forum f day;unfold eg;rw[akc];generalize eK r forum 6 f day=B at*;generalize aE f day=g at*;simp;by_cases h0:g.signs=[]
 ·simp[h0]
 simp[h0];refine⟨_,hB,_,avh B,_,auZ g (by have:=hg.signs;omega) (by have:=hg.acts;omega),?_⟩;have hm:(if jb B=-1 then D.int 0 else D.int (jb B))=D.int (max (jb B) 0):=by
  split
  ·rename_i h;rw[h];rfl
  ·rw[NL (by omega)]
 have mq:=auT r hd kS f.bill (fi g) (max (jb B) 0);rw[←Dp hd] at mq;simp
 try rw[hm]
 refine⟨_,mq,?_⟩;by_cases he:(pB r f.bill (fi g) (max (jb B) 0)).2=0<;>simp[he]
end Rm
namespace Rm
open Go Go.Proofs Cx
def wh (r:Realm)(forum q:Int)(f:File)(sign day:Int):Said:=gR r forum q ⟨f,sign,sign,-1,eg r forum f day,day⟩
theorem avj (r:Realm)(hr:Right r)(hd:RightD r)(hc:dv r=0)(kS:r.cities.length≤100000)(forum q:Int)(f:File)(sign day:Int)(hf:FewS f):
 ak T 20 [aQ r,.int forum,.int q,bT f,.int sign,.int day] (iv (wh r forum q f sign day)):=by
 refine .of_tree rfl (lA 138 (by kernel_rfl)) ay3 ?_;simp[W8];refine⟨_,avg r hr hd hc kS forum f day hf,_,agQ r hr hc kS forum q ⟨f,sign,sign,-1,eg r forum f day,day⟩ hf,?_⟩;simp
 try rfl
def lW (c:City)(s:Said)(fr:Int):Int:=if s.err≠0 then never else if s.cell.known=false then-2 else if(lO c fr s.cell.n).2≠0 then never else(lO c fr s.cell.n).1
theorem avk (r:Realm)(hs:∀c,c∈r.cities→nM c)(s:Said)(fr city:Int)(hc:0≤city∧city<r.cities.length):ak T 21 [aQ r,iv s,.int fr,.int city] (.int (lW (r.cities.getD city.toNat default) s fr)):=by
 have bA:city.toNat<r.cities.length:=by omega
 have Et:=hs _ (cv bA);have DX:r.cities.getD city.toNat default=r.cities[city.toNat]:=by simp[bA]
 have hcn:¬city=-1:=by omega
 rw[DX];refine .of_tree rfl (lA 193 (by kernel_rfl)) ay4 ?_;unfold lW;by_cases h1:s.err=0
 ·cases h2:s.cell.known
  ·simp[G0,h1,h2]
  ·simp[G0,h1,h2,hcn,hc,bA];refine⟨_,auF _ Et fr s.cell.n,?_⟩;by_cases h3:(lO r.cities[city.toNat] fr s.cell.n).2=0
   ·simp[h3]
   ·simp[h3];rfl
 ·simp[G0,h1];rfl
end Rm
namespace Rm
open Go Go.Proofs Cx
theorem ats {c:City}{x:Int}(h:(bP c x).2=0):jA c.rest c.feasts c.shut (bP c x).1=true:=by
 unfold bP at h ⊢;cases hd:aU x
 ·simp[hd] at h
 ·simp only[hd] at h ⊢;cases hk:dw c x (jl x-x+1).toNat with
  |nil=>rw[hk] at h;simp at h
  |cons y l=>
   have hm:y∈dw c x (jl x-x+1).toNat:=by rw[hk];simp
   unfold dw at hm;exact(ei.1 hm).2
theorem awo {r:Realm}(hh:jf r)(city:Int){d:Int}(h0:0≤d)(hd:d≤100001)(h:(g9 r city d).2=0):
 d≤(g9 r city d).1∧jA (r.cities.getD city.toNat default).rest (r.cities.getD city.toNat default).feasts (r.cities.getD city.toNat default).shut (g9 r city d).1=true:=by
 revert h
 unfold g9;generalize r.cities.getD city.toNat default=c;generalize cD r city=o;have key:∀(n:Nat) (d:Int),0≤d→d≤100001→(100002-d).toNat≤n→(j5 r c o n d).2=0→d≤(j5 r c o n d).1∧jA c.rest c.feasts c.shut (j5 r c o n d).1=true:=by
  intro n
  induction n with
  |zero=>intro d h0 h1 h2;omega
  |succ n ih=>
   intro e h1 h2 h3;have A7:=GO hh o (100002-e).toNat e h2;rw[tR];change e≤dg r o e∧dg r o e≤100001 at A7;generalize dg r o e=x at*;have ko:=th (c:=c) (d:=x);by_cases he:(bP c x).2=0
   ·obtain⟨g1,g2,g3⟩:=ko he;have ho:=ats he;rw[if_neg (by simp[he])];by_cases hy:(bP c x).1=x
    ·rw[if_pos hy];rw[hy] at ho;exact fun _=>⟨A7.1,ho⟩
    ·rw[if_neg hy];intro h;have:=ih _ (by omega) (by omega) (by omega) h;exact⟨by omega,this.2⟩
   ·rw[if_pos he];intro h;cases h
 exact key _ d h0 hd (bK _)
theorem Zc {d:Int}{t:Tenor}(hd:0≤d∧d≤100000)(hn:1≤t.n∧t.n≤400)(h:(qF d t).2=0):d≤(qF d t).1:=by
 have hi:=Hj d t;have h0:¬t.n<0:=by omega
 have h1:¬20000<t.n:=by omega
 by_cases h2:t.unit=1
 ·obtain⟨x,e,hr,_⟩:=Yw d t.n;have hx:ak T 124 [.int d,jS t] (.tup [.int x,.int e]):=by
   refine .of_tree rfl qG rJ ?_;simp[oR,h0,h1,h2];refine⟨_,hr,?_⟩;simp
  have h3:=hi.det hx;simp at h3;rw[h3.2] at h;rw[h3.1];exact atc d t.n x e hd (by omega) hr h
 ·have hx:ak T 124 [.int d,jS t] (.tup [.int (IntKind.i64.wrap (d+t.n)),.int 0]):=by
   refine .of_tree rfl qG rJ ?_;simp[oR,h0,h1,h2]
  have h3:=hi.det hx;simp at h3;rw[h3.1,aJ (by omega)];omega
theorem az8 {r:Realm}(hc:dv r=0){fr to:Int}(h:(je r.usances fr to).2=0):1≤(je r.usances fr to).1∧(je r.usances fr to).1≤20000:=by
 unfold je at h ⊢;cases hf:r.usances.find? (rL fr to) with
 |none=>rw[hf] at h;cases h
 |some u=>
  have hm:=pg hf;obtain⟨k,hk,rfl⟩:=gP hm;unfold dv at hc;rw[GN] at hc;have h1:=hc (rM r) (by simp);unfold rM at h1;split at h1
  ·cases h1
  have h2:=As h1 k hk;have hg:r.usances.getD k default=r.usances[k]:=by simp[hk]
  unfold vO at h2;rw[hg] at h2;split at h2
  ·cases h2
  rename_i h3;simp[wi] at h3;show 1≤r.usances[k].days∧r.usances[k].days≤20000;omega
theorem PaperOK.sign_ge {r:Realm}{f:File}(h:PaperOK r f):∀s,s∈f.signs→f.bill.day≤s.day∧s.day≤100000:=by
 have key:∀i (hi:i<f.signs.length),f.bill.day≤f.signs[i].day:=by
  intro i
  induction i with
  |zero=>
   intro hi;have:=(h.sign 0 hi).day.1;simpa [jT] using this
  |succ i ih=>
   intro hi;have h1:=(h.sign (i+1) hi).day.1;have h2:=ih (by omega);have e:jT f (i+1)=f.signs[i].day:=by simp[jT,show i<f.signs.length by omega]
   omega
 intro s hs;obtain⟨i,hi,rfl⟩:=gP hs;exact⟨key i hi,(h.sign i hi).day.2⟩
theorem PaperOK.act_ge {r:Realm}{f:File}(h:PaperOK r f):∀a,a∈f.acts→f.bill.day≤a.day∧a.day≤100000:=by
 intro s hs;obtain⟨i,hi,rfl⟩:=gP hs;have h1:=(h.act i hi).day;have h2:=(Rp f i f.acts[i]).1;exact⟨by omega,h1.2⟩
theorem awh {r:Realm}{f:File}(h:PaperOK r f)(x:Int)(hn:fi (aE f x)≠-1):f.bill.day≤fi (aE f x):=by
 unfold fi at hn ⊢;cases hf:(aE f x).acts.find? (jI (aE f x)) with
 |some a=>exact(h.act_ge a (Hp (pg hf)).2).1
 |none=>
  rw[hf] at hn;simp only at hn ⊢;generalize hl:fB (aE f x) (aE f x).signs.length++eT (aE f x) (aE f x).acts.length=l at*;by_cases aA:l=[]
  ·subst aA;exact absurd rfl hn
  have key:∀v,v∈l→f.bill.day≤v:=by
   intro v hv;rw[←hl] at hv;rcases da.1 hv with hm|hm
   ·unfold fB at hm;split at hm
    ·obtain⟨s,hs,e⟩:=dH.1 hm;rw[qB] at hs;have:=(h.sign_ge s (Oh (ei.1 hs).1).2).1;rw[←e];exact this
    ·cases hm
   ·unfold eT at hm;split at hm
    ·obtain⟨s,hs,e⟩:=dH.1 hm;rw[qB] at hs;have:=(h.act_ge s (Hp (ei.1 hs).1).2).1;rw[←e];exact this
    ·cases hm
  exact key _ (K4 l aA)
theorem as1 {r:Realm}(hr:RightD r){f:File}(h:PaperOK r f)(forum day:Int)(hm:eg r forum f day≠-1):
 f.bill.day≤eg r forum f day∧f.bill.day≤day∧jA (r.cities.getD f.bill.pay.toNat default).rest (r.cities.getD f.bill.pay.toNat default).feasts (r.cities.getD f.bill.pay.toNat default).shut (eg r forum f day)=true:=by
 unfold eg at hm ⊢;by_cases aA:(aE f day).signs=[]
 ·rw[if_pos aA] at hm;exact absurd rfl hm
 have AH:f.bill.day≤day:=by
  obtain⟨s,hs⟩:=List.exists_mem_of_ne_nil _ aA;have h1:=Oh hs;have h2:=h.sign_ge s h1.2;omega
 rw[if_neg aA,Dp hr] at hm;rw[if_neg aA,Dp hr];have gn:=awh h day;generalize fi (aE f day)=sn at*;generalize max (jb (eK r forum 6 (aE f day) day)) 0=g at*;by_cases he:(ki r f.bill sn g).2=0
 case neg=>rw[if_pos he] at hm;exact absurd rfl hm
 rw[if_neg (by simp[he])];clear hm
 suffices hs:f.bill.day≤(ki r f.bill sn g).1∧jA (r.cities.getD f.bill.pay.toNat default).rest (r.cities.getD f.bill.pay.toNat default).feasts (r.cities.getD f.bill.pay.toNat default).shut (ki r f.bill sn g).1=true from⟨hs.1,AH,hs.2⟩
 unfold ki at he ⊢;split at he
 ·cases he
 rename_i c1;rw[if_neg c1];split at he
 ·cases he
 rename_i c2;rw[if_neg c2];split at he
 ·cases he
 rename_i c3;rw[if_neg c3];split at he
 ·cases he
 rename_i c4;rw[if_neg c4];have aZ:=h.day;have D4:=h.bill.form.2;have hB:(gz r.usances f.bill sn).2=0→f.bill.day≤(gz r.usances f.bill sn).1∨aU (gz r.usances f.bill sn).1=false:=by
  have gU:dv r=0:=h.bill.realm;have w8:sn≠-1→0≤sn∧sn≤100000:=by
   intro hx;have:¬aU sn=false:=fun e=>c3 (.inl (.inl ⟨hx,e⟩));simpa [aU] using this
  unfold GS at D4;unfold gz;intro hb;by_cases k0:f.bill.tenor.kind=0
  ·rw[if_pos k0];have:sn≠-1:=fun e=>c4 ⟨by simp[lV,k0],e⟩;exact .inl (gn this)
  rw[if_neg k0] at hb ⊢;by_cases k1:f.bill.tenor.kind=1
  ·rw[if_pos k1] at hb ⊢;have hx:sn≠-1:=fun e=>c4 ⟨by simp[lV,k1],e⟩;have pV:1≤f.bill.tenor.n∧f.bill.tenor.n≤400:=by simp[k1] at D4;omega
   have h1:=Zc (w8 hx) pV hb;have h2:=gn hx;exact .inl (by omega)
  rw[if_neg k1] at hb ⊢;by_cases k2:f.bill.tenor.kind=2
  ·rw[if_pos k2] at hb ⊢;have pV:1≤f.bill.tenor.n∧f.bill.tenor.n≤400:=by simp[k2] at D4;omega
   exact .inl (Zc aZ pV hb)
  rw[if_neg k2] at hb ⊢;by_cases k4:f.bill.tenor.kind=4
  ·rw[if_pos k4] at hb ⊢;have hu:=az8 gU hb;left;show f.bill.day≤IntKind.i64.wrap (f.bill.day+(je r.usances f.bill.city f.bill.pay).1);rw[aJ (by omega)];omega
  rw[if_neg k4];left;by_cases k3:f.bill.tenor.kind=3
  ·simp[k3] at D4;show f.bill.day≤f.bill.tenor.n;omega
  ·simp[k0,k1,k2,k3,k4] at D4
 generalize gz r.usances f.bill sn=B at*;unfold u7 at he ⊢;split at he
 ·rename_i hb;exact absurd he hb
 rename_i c5;rw[if_neg c5];split at he
 ·cases he
 rename_i c6;rw[if_neg c6];have uA:¬aU B.1=false:=fun e=>c6 (.inl e);have hd:0≤B.1∧B.1≤100000:=by simpa [aU] using uA
 have hw:IntKind.i64.wrap (B.1+g)=B.1+g:=aJ (by omega);rw[hw] at he c6 ⊢;have dt:=awo hr.halts f.bill.pay (by omega) (by omega) he;rcases hB (by omega) with e|e
 ·exact⟨by omega,dt.2⟩
 ·exact absurd e uA
end Rm
namespace Rm
open Go Go.Proofs Cx
def kL (f:File)(who to due:Int):List Act:=[⟨2,who,f.bill.drawee,0,-1,0,due,f.bill.pay,0⟩,⟨4,who,f.bill.drawee,0,-1,0,due,f.bill.pay,0⟩,⟨5,who,to,0,-1,0,due,f.bill.pay,0⟩]
def fM (f:File)(who to due:Int):File:={f with acts:=f.acts++kL f who to due}
theorem ake {r:Realm}{f:File}(h:PaperOK r f):0≤f.bill.drawee∧f.bill.drawee<r.firms.length:=by
 have:=h.bill.who;simp[vP,ax] at this;omega
theorem aku {r:Realm}{f:File}(h:PaperOK r f){who to due:Int}(hl:f.acts.length≤97)(hw:0≤who∧who<r.firms.length)(ht:0≤to∧to<r.firms.length)(hd:f.bill.day≤due∧due≤100000)(ha:∀a,a∈f.acts→a.day≤due):
 PaperOK r (fM f who to due):=by
 have hdr:=ake h;have El:=Zr h;have sT:=h.bill.parts;refine⟨?_,h.bill,h.ne,?_,?_,?_,?_⟩
 ·have:=h.full;simp[fM,kL];omega
 ·exact h.signs
 ·exact h.alters
 ·rw[JN];intro k hk;have bo:k<f.acts.length+3:=by simpa [fM,kL] using hk
  by_cases ar:k<f.acts.length
  ·have h1:=As h.acts k ar;have e:(fM f who to due).acts.getD k default=f.acts.getD k default:=by
     simp only[fM,bh,nT ar]
   have e2:k≠0→(fM f who to due).acts.getD (k-1) default=f.acts.getD (k-1) default:=fun _=>by
     simp only[fM,bh,nT (show k-1<f.acts.length by omega)]
   have e3:p8 (fM f who to due) k (f.acts.getD k default)=p8 f k (f.acts.getD k default):=by
     unfold p8;by_cases h0:k=0
     ·simp only[if_pos h0];rfl
     ·simp only[if_neg h0,e2 h0];rfl
   unfold pq at h1 ⊢;simp only[e,e3];exact h1
  ·obtain⟨j,rfl⟩:∃j,k=f.acts.length+j:=⟨k-f.acts.length,by omega⟩
   have e:(fM f who to due).acts.getD (f.acts.length+j) default=(kL f who to due).getD j default:=by
     simp only[fM,bh,oZ (show f.acts.length≤f.acts.length+j by omega)]
     congr 2
     omega
   have cJ:∀i,i<f.acts.length+3→((fM f who to due).acts.getD i default).day≤due:=by
     intro i hi;have eN:i<(fM f who to due).acts.length:=by simpa [fM,kL] using hi
     have hm:(fM f who to due).acts.getD i default∈(fM f who to due).acts:=by
      simp[eN]
     rcases da.1 hm with hm|hm
     ·exact ha _ hm
     ·simp only[kL,cW,NZ,or_false] at hm;rcases hm with hm|hm|hm<;>rw[hm]<;>exact yN _
   have hj:j=0∨j=1∨j=2:=by omega
   have aoi:∃kd t,(kL f who to due).getD j default=⟨kd,who,t,0,-1,0,due,f.bill.pay,0⟩∧(kd=2∨kd=4∨kd=5)∧ax t r.firms.length=true:=by
     have i1:ax f.bill.drawee r.firms.length=true:=by simp[ax];omega
     have i2:ax to r.firms.length=true:=by simp[ax];omega
     rcases hj with rfl|rfl|rfl
     ·exact⟨2,_,rfl,.inl rfl,i1⟩
     ·exact⟨4,_,rfl,.inr (.inl rfl),i1⟩
     ·exact⟨5,_,rfl,.inr (.inr rfl),i2⟩
   obtain⟨kd,t,ea,Km,bU⟩:=aoi;have hle:p8 (fM f who to due) (f.acts.length+j) ⟨kd,who,t,0,-1,0,due,f.bill.pay,0⟩≤due:=by
     unfold p8;have aZ:(fM f who to due).bill.day=f.bill.day:=rfl;simp only[if_true,aZ];split
     ·exact hd.1
     ·have:=cJ (f.acts.length+j-1) (by omega);omega
   have hiw:ax who r.firms.length=true:=by simp[ax];omega
   have hB:qE r (fM f who to due) ⟨kd,who,t,0,-1,0,due,f.bill.pay,0⟩=true:=by
     unfold qE;simp only[hiw,bU];rw[if_neg (by simp)];unfold CF;rcases Km with rfl|rfl|rfl<;>simp[wi]
   unfold pq;simp only[e,ea];have hpp:(fM f who to due).bill.parts=f.bill.parts:=rfl;rw[if_neg (by rw[hpp];simp[wi];omega),if_neg (by rw[El];rcases Km with rfl|rfl|rfl<;>simp[wi]),hB];simp[wi];omega
 ·exact h.facts
theorem ac9 {r:Realm}(forum:Int)(f:File)(l:List Act)(day:Int)(h0:f.bill.tenor.kind≠0)(h1:f.bill.tenor.kind≠1):eg r forum {f with acts:=l} day=eg r forum f day:=by
 unfold eg;rw[M1 (f:=aE {f with acts:=l} day) h0 h1,M1 (f:=aE f day) h0 h1];rfl
end Rm
namespace Rm
open Go Go.Proofs Cx
theorem S4 (b:Bill)(fr last w:Int){a:Act}(m:List Act)(hk:a.kind=4)(ht:a.to=b.drawee)(hf:a.form=0)(h1:fr≤a.day)(h2:a.day≤last):∀(l:List Act) (sv:Int),tA b fr last w (l++a::m) sv=1
 |[],sv=>by
  have hc:¬(a.kind≠4∨a.to≠b.drawee∨a.day<fr∨last<a.day):=by simp[hk,ht];omega
  rw[rZ,tA,if_neg hc];simp[hf]
 |x::l,sv=>by
  rw[Cm,tA];by_cases c1:x.kind≠4∨x.to≠b.drawee∨x.day<fr∨last<x.day
  ·rw[if_pos c1];exact S4 b fr last w m hk ht hf h1 h2 l sv
  rw[if_neg c1];by_cases c2:(if x.form=1 then w else 1)=1
  ·rw[if_pos c2]
  ·rw[if_neg c2];exact S4 b fr last w m hk ht hf h1 h2 l _
theorem Ld (dd:Int→Int)(fr tl who:Int){a:Act}(m:List Act)(hk:a.kind=5)(ht:a.to=who)(h1:fr≤a.day)(h2:a.day≤tl):∀(l fQ:List Act) (last:Int),(oB dd fr tl who (l++a::m) fQ last).1=true
 |[],fQ,last=>by
  have hb:Bn dd fr tl fQ a=true:=by simp[Bn,h1,h2]
  rw[rZ,oB,if_neg (by simp[hk]),hb,if_neg (by simp),if_pos ht]
 |x::l,fQ,last=>by
  rw[Cm,oB];split
  ·exact Ld dd fr tl who m hk ht h1 h2 l fQ last
  split
  ·exact Ld dd fr tl who m hk ht h1 h2 l fQ last
  split
  ·rfl
  ·exact Ld dd fr tl who m hk ht h1 h2 l _ _
structure Done (v:DView) (due:Int):Prop where
 due_:v.due=due
 pos:0≤due∧due≤100000
 kind:v.file.bill.tenor.kind≠0∧v.file.bill.tenor.kind≠1
 sign:0≤v.sign∧v.sign<v.file.signs.length
 no:∀a,a∈v.file.acts→a.kind≠1∧a.day≤due
theorem ams {b:Bill}{l:List Act}{kind fr:Int}(h:∀a,a∈l→a.kind≠kind):m4 b l kind fr=-1:=by
 have:l.find? (qP b kind fr)=none:=by
  rw[nS];intro a ha;simp[qP,h a ha]
 unfold m4;rw[this];rfl
theorem Done.refused {v:DView}{due:Int}(h:Done v due):v.refused=-1:=by
 have hp:=h.pos;unfold DView.refused BY;rw[ams fun a ha=>(h.no a ha).1];split<;>rfl
theorem Done.dishon {v:DView}{due:Int}(h:Done v due):v.dishon=due:=by
 have e:v.dishon=if v.refused≠-1 then v.refused else v.due:=rfl;rw[e,h.refused,if_neg (by decide),h.due_]
theorem Done.presented {v:DView}{due:Int}(h:Done v due):v.presented=nW [1,rI v.day (m4 v.file.bill v.file.acts 2 due) (dh v.city (v.asked 10) due)]:=by
 have hp:=h.pos;have hs:v.seen_=1:=by unfold DView.seen_;rw[if_neg h.kind.2]
 unfold DView.presented;rw[if_neg h.kind.1,h.refused,if_neg (by decide),h.due_,if_neg (by omega),hs]
theorem ajH {x:Int}(h:x≠0):nW [1,x]≠0:=by
 unfold nW;have:hasB [1,x] 0=false:=by simp[hasB];omega
 rw[this];simp;split<;>simp
theorem ajI {x y z:Int}(hx:x≠0)(hy:y≠0)(hz:z≠0):nW [x,y,z]≠0:=by
 unfold nW;have:hasB [x,y,z] 0=false:=by simp[hasB];omega
 rw[this];simp;split<;>simp
theorem Ny {s:Said}{a:Int}(h:a≠0):j6 s a≠0:=by
 unfold j6;split
 ·simp
 split
 ·simp
 ·exact h
structure Careful (v:DView) (due:Int):Prop extends Done v due where
 shown:∃a,a∈v.file.acts∧a.kind=2∧a.to=v.file.bill.drawee∧a.day=due
 prot:∃l a m,v.file.acts=l++a::m∧a.kind=4∧a.to=v.file.bill.drawee∧a.form=0∧a.day=due
 note:∃l a m,v.file.acts=l++a::m∧a.kind=5∧a.to=v.who∧a.day=due
theorem Careful.first {v:DView}{due:Int}(h:Careful v due):m4 v.file.bill v.file.acts 2 due=due:=by
 obtain⟨a,ha,hk,ht,hd⟩:=h.shown;cases e:v.file.acts.find? (qP v.file.bill 2 due) with
 |none=>
  rw[nS] at e;exact absurd (by simp[qP,hk,ht,hd]) (e a ha)
 |some x=>
  have h1:=Cn e;have h2:=(h.no x (pg e)).2;simp[qP] at h1;unfold m4;rw[e];simp;omega
theorem Careful.kept {v:DView}{due:Int}(h:Careful v due):v.kept.shown≠0∧v.kept.protest≠0∧v.kept.notice≠0∧v.kept.all_≠0:=by
 have hp:=h.pos;have uL:due≤never:=by unfold never;omega
 have h1:v.presented≠0:=by
  rw[h.presented,h.first];refine ajH ?_;unfold rI;cases e:(dh v.city (v.asked 10) due).1
  ·simp
  ·have:=JF _ _ _ e uL;rw[if_neg (by simp),if_pos ⟨by omega,this⟩];simp
 have h2:v.protested≠0:=by
  unfold DView.protested;rw[h.dishon];cases e:(dh v.city (v.asked 10) due).1
  ·simp
  ·have:=JF _ _ _ e uL;obtain⟨l,a,m,hl,hk,ht,hf,hd⟩:=h.prot;rw[if_neg (by simp),hl,S4 _ _ _ _ m hk ht hf (by omega) (by omega)];simp
 have h3:v.notified≠0:=by
  unfold DView.notified;rw[h.dishon];cases e:(dh v.city (v.asked 12) due).1
  ·simp
  ·have:=JF _ _ _ e uL;obtain⟨l,a,m,hl,hk,ht,hd⟩:=h.note;rw[if_neg (by simp),hl,if_pos (Ld _ _ _ _ m hk ht (by omega) (by omega) l [] _)];simp
 have hs:=h.sign;have e:v.kept=⟨v.presented,j6 (v.asked 8) v.protested,j6 (v.asked 11) v.notified,nW [v.presented,j6 (v.asked 8) v.protested,j6 (v.asked 11) v.notified]⟩:=by
  unfold DView.kept;rw[if_neg (by omega),h.due_];simp only[if_pos (show due≠-1 by omega)]
 rw[e];exact⟨h1,Ny h2,Ny h3,ajI h1 (Ny h2) (Ny h3)⟩
theorem Nf (c:City)(s:Said)(fr:Int)(h0:0≤fr)(hf:fr≤never):(0≤lW c s fr∧lW c s fr<100000)↔((dh c s fr).1=true∧(dh c s fr).2<100000):=by
 have fG:=JF c s fr;unfold lW;unfold dh at fG ⊢;by_cases h1:s.err=0
 ·have n1:¬(s.err≠0):=fun e=>e h1;rw[if_neg n1] at fG;rw[if_neg n1,if_neg n1];by_cases h2:s.cell.known=false
  ·rw[if_pos h2,if_pos h2];simp
  ·rw[if_neg h2] at fG;rw[if_neg h2,if_neg h2];have h3:=fG rfl hf;simp only at h3 ⊢;constructor
   ·exact fun h=>⟨trivial,h.2⟩
   ·exact fun h=>⟨by omega,h.2⟩
 ·have n1:s.err≠0:=h1;rw[if_pos n1,if_pos n1];simp[never]
theorem aqR {v:DView}{due:Int}(h:Done v due)(ha:v.file.acts=[])(hd:v.day=100000):
 (v.kept.shown=if 0≤lW v.city (v.asked 10) due∧lW v.city (v.asked 10) due<100000 then 0 else 2)∧
 ((0≤lW v.city (v.asked 10) due∧lW v.city (v.asked 10) due<100000)→rK (v.asked 8)=1→v.kept.protest=0)∧
 ((0≤lW v.city (v.asked 12) due∧lW v.city (v.asked 12) due<100000)→rK (v.asked 11)=1→v.kept.notice=0):=by
 have hp:=h.pos;have uL:due≤never:=by unfold never;omega
 have hs:=h.sign;have e:v.kept=⟨v.presented,j6 (v.asked 8) v.protested,j6 (v.asked 11) v.notified,nW [v.presented,j6 (v.asked 8) v.protested,j6 (v.asked 11) v.notified]⟩:=by
  unfold DView.kept;rw[if_neg (by omega),h.due_];simp only[if_pos (show due≠-1 by omega)]
 rw[e];refine⟨?_,fun h1 h2=>?_,fun h1 h2=>?_⟩
 ·show v.presented=_;rw[h.presented,ha,hd];have hf:m4 v.file.bill [] 2 due=-1:=rfl;rw[hf];by_cases hc:0≤lW v.city (v.asked 10) due∧lW v.city (v.asked 10) due<100000
  ·rw[if_pos hc];obtain⟨c1,c2⟩:=(Nf _ _ _ hp.1 uL).1 hc;unfold rI;rw[if_neg (by rw[c1];decide),if_neg (by simp),if_pos (.inr c2)];rfl
  ·rw[if_neg hc];have hn:¬((dh v.city (v.asked 10) due).1=true∧(dh v.city (v.asked 10) due).2<100000):=fun x=>hc ((Nf _ _ _ hp.1 uL).2 x);unfold rI;cases c1:(dh v.city (v.asked 10) due).1
   ·rfl
   ·rw[if_neg (by simp),if_neg (by simp),if_neg (by rintro(x|x);exact x rfl;exact hn ⟨c1,x⟩)];rfl
 ·obtain⟨c1,c2⟩:=(Nf _ _ _ hp.1 uL).1 h1;show j6 (v.asked 8) v.protested=0;have lL:v.protested=0:=by
   unfold DView.protested;rw[h.dishon,c1,if_neg (by simp),ha,hd];show(if _ then(2:Int) else 0)=0;rw[if_neg (by omega)]
  unfold j6;rw[lL,h2];rfl
 ·obtain⟨c1,c2⟩:=(Nf _ _ _ hp.1 uL).1 h1;show j6 (v.asked 11) v.notified=0;have lL:v.notified=0:=by
   unfold DView.notified;rw[h.dishon,c1,if_neg (by simp),ha,hd];show(if false=true then(1:Int) else if(dh v.city (v.asked 12) due).2<100000 then 0 else 2)=0;rw[if_neg (by simp),if_pos c2]
  unfold j6;rw[lL,h2];rfl
end Rm
namespace Rm
open Go Go.Proofs Cx
def Yg (b:Nat→PC):PT:=
 (.call ⟨[(287,(.pick (ao lh (pi 0)) pT (bD lh (pi 100000)))),(280,cO)],[]⟩ [(287,false),(280,true)] 289 22 [(ah 5 o22)] (.ret (.pick (.r 280) (.pick (.pick (.r 287) pT (aC (.r 289) (pi 1))) pT (ae (pc vi 2) (pi 0))) pF)))
def aid (b:Nat→PC):PT:=
 (.call ⟨[(259,(aC (pc vi 0) (pi 0))),(255,(.pick (bD eF (pi 0)) (ao eF (pi 100000)) pF)),(25,(.pick (bD eF (pi 0)) (ao eF (pi 100000)) pF)),(24,(.r 247))],[]⟩ [(259,false),(255,true)] 261 22 [(ah 5 o21)] (.ite (.pick (.pick (.r 255) (.pick (.r 259) pT (.pick (ae (.r 261) (pi 1)) (aC (pc vi 1) (pi 0)) pF)) pF) pT (.pick (.nt dV) (aC (pc vi 0) (pi 2)) pF)) (.ret pF) (Yg b)))
def aie (b:Nat→PC):PT:=
 (.call ⟨[],[]⟩ [] 247 21 [(.r 238),(.r 243),bH,(pc Lh 10)] (aid b))
def aif (b:Nat→PC):PT:=
 (.call ⟨[(238,(ah 8 o6)),(23,(.r 237))],[]⟩ [] 243 20 [(ah 8 o6),r1,(pi 12),(.mk [(pc ba 0),(pc ba 1),(pc ba 2),(pc ba 3),(pc ba 4),(pc ba 5),(pc ba 6),(pc ba 7),(pc ba 8),(pc ba 9),(pc ba 10),(pc ba 11),(pc ba 12),(pc ba 13),(pc ba 14),(pc ba 15),(pc ba 16),(.o 73747),(pc ba 18)]),r3,(pi 100000)] (aie b))
def aih (b:Nat→PC):PT:=
 (.call ⟨[],[]⟩ [] 237 21 [(.r 228),(.r 233),bH,(pc Lh 10)] (aif b))
def aii (b:Nat→PC):PT:=
 (.call ⟨[(228,(ah 8 o6))],[(22,(.setc (.con (.agg [(.bool false),(.int 0),(.int 0),(.list []),(.int 0)])) 0 (.r 227)))]⟩ [] 233 20 [(ah 8 o6),r1,(pi 10),(.mk [(pc ba 0),(pc ba 1),(pc ba 2),(pc ba 3),(pc ba 4),(pc ba 5),(pc ba 6),(pc ba 7),(pc ba 8),(pc ba 9),(pc ba 10),(pc ba 11),(pc ba 12),(pc ba 13),(pc ba 14),(pc ba 15),(pc ba 16),(.o 73747),(pc ba 18)]),r3,(pi 100000)] (aih b))
def aij (b:Nat→PC):PT:=
 (.call ⟨[],[(21,(.setc (.con (.agg [(.bool false),(.int 0),(.int 0),(.list []),(.int 0)])) 0 (.r 222)))]⟩ [] 227 20 [(ah 8 o6),r1,(pi 11),(.mk [(pc ba 0),(pc ba 1),(pc ba 2),(pc ba 3),(pc ba 4),(pc ba 5),(pc ba 6),(pc ba 7),(pc ba 8),(pc ba 9),(pc ba 10),(pc ba 11),(pc ba 12),(pc ba 13),(pc ba 14),(pc ba 15),(pc ba 16),(.o 73747),(pc ba 18)]),r3,(pi 100000)] (aii b))
def aik (b:Nat→PC):PT:=
 (.call ⟨[],[(20,(.setc z4 0 (.r 217)))]⟩ [] 222 20 [(ah 8 o6),r1,(pi 8),(.mk [(pc ba 0),(pc ba 1),(pc ba 2),(pc ba 3),(pc ba 4),(pc ba 5),(pc ba 6),(pc ba 7),(pc ba 8),(pc ba 9),(pc ba 10),(pc ba 11),(pc ba 12),(pc ba 13),(pc ba 14),(pc ba 15),(pc ba 16),(.o 73747),(pc ba 18)]),r3,(pi 100000)] (aij b))
def ail (b:Nat→PC):PT:=
 (.call ⟨[],[(73747,pL),(19,(.setc (.setc (.con (.agg [(.int 0),(.int 0),(.int 0),(.int 0),(.int 0),(.int 0),(.int 0),(.int 0),(.int 0),(.int 0),(.int 0),(.int 0),(.int 0),(.int 0),(.int 0),(.list []),(.list []),(.list []),(.list [])])) 0 (ah 19 o8)) 17 pL))]⟩ [] 217 18 [(ah 8 o6),r1,(.mk [(pc (.setc (.setc (.con (.agg [(.int 0),(.int 0),(.int 0),(.int 0),(.int 0),(.int 0),(.int 0),(.int 0),(.int 0),(.int 0),(.int 0),(.int 0),(.int 0),(.int 0),(.int 0),(.list []),(.list []),(.list []),(.list [])])) 0 (ah 19 o8)) 17 pL) 0),(pc (.setc (.setc (.con (.agg [(.int 0),(.int 0),(.int 0),(.int 0),(.int 0),(.int 0),(.int 0),(.int 0),(.int 0),(.int 0),(.int 0),(.int 0),(.int 0),(.int 0),(.int 0),(.list []),(.list []),(.list []),(.list [])])) 0 (ah 19 o8)) 17 pL) 1),(pc (.setc (.setc (.con (.agg [(.int 0),(.int 0),(.int 0),(.int 0),(.int 0),(.int 0),(.int 0),(.int 0),(.int 0),(.int 0),(.int 0),(.int 0),(.int 0),(.int 0),(.int 0),(.list []),(.list []),(.list []),(.list [])])) 0 (ah 19 o8)) 17 pL) 2),(pc (.setc (.setc (.con (.agg [(.int 0),(.int 0),(.int 0),(.int 0),(.int 0),(.int 0),(.int 0),(.int 0),(.int 0),(.int 0),(.int 0),(.int 0),(.int 0),(.int 0),(.int 0),(.list []),(.list []),(.list []),(.list [])])) 0 (ah 19 o8)) 17 pL) 3),(pc (.setc (.setc (.con (.agg [(.int 0),(.int 0),(.int 0),(.int 0),(.int 0),(.int 0),(.int 0),(.int 0),(.int 0),(.int 0),(.int 0),(.int 0),(.int 0),(.int 0),(.int 0),(.list []),(.list []),(.list []),(.list [])])) 0 (ah 19 o8)) 17 pL) 4),(pc (.setc (.setc (.con (.agg [(.int 0),(.int 0),(.int 0),(.int 0),(.int 0),(.int 0),(.int 0),(.int 0),(.int 0),(.int 0),(.int 0),(.int 0),(.int 0),(.int 0),(.int 0),(.list []),(.list []),(.list []),(.list [])])) 0 (ah 19 o8)) 17 pL) 5),(pc (.setc (.setc (.con (.agg [(.int 0),(.int 0),(.int 0),(.int 0),(.int 0),(.int 0),(.int 0),(.int 0),(.int 0),(.int 0),(.int 0),(.int 0),(.int 0),(.int 0),(.int 0),(.list []),(.list []),(.list []),(.list [])])) 0 (ah 19 o8)) 17 pL) 6),(pc (.setc (.setc (.con (.agg [(.int 0),(.int 0),(.int 0),(.int 0),(.int 0),(.int 0),(.int 0),(.int 0),(.int 0),(.int 0),(.int 0),(.int 0),(.int 0),(.int 0),(.int 0),(.list []),(.list []),(.list []),(.list [])])) 0 (ah 19 o8)) 17 pL) 7),(pc (.setc (.setc (.con (.agg [(.int 0),(.int 0),(.int 0),(.int 0),(.int 0),(.int 0),(.int 0),(.int 0),(.int 0),(.int 0),(.int 0),(.int 0),(.int 0),(.int 0),(.int 0),(.list []),(.list []),(.list []),(.list [])])) 0 (ah 19 o8)) 17 pL) 8),(pc (.setc (.setc (.con (.agg [(.int 0),(.int 0),(.int 0),(.int 0),(.int 0),(.int 0),(.int 0),(.int 0),(.int 0),(.int 0),(.int 0),(.int 0),(.int 0),(.int 0),(.int 0),(.list []),(.list []),(.list []),(.list [])])) 0 (ah 19 o8)) 17 pL) 9),(pc (.setc (.setc (.con (.agg [(.int 0),(.int 0),(.int 0),(.int 0),(.int 0),(.int 0),(.int 0),(.int 0),(.int 0),(.int 0),(.int 0),(.int 0),(.int 0),(.int 0),(.int 0),(.list []),(.list []),(.list []),(.list [])])) 0 (ah 19 o8)) 17 pL) 10),(pc (.setc (.setc (.con (.agg [(.int 0),(.int 0),(.int 0),(.int 0),(.int 0),(.int 0),(.int 0),(.int 0),(.int 0),(.int 0),(.int 0),(.int 0),(.int 0),(.int 0),(.int 0),(.list []),(.list []),(.list []),(.list [])])) 0 (ah 19 o8)) 17 pL) 11),(pc (.setc (.setc (.con (.agg [(.int 0),(.int 0),(.int 0),(.int 0),(.int 0),(.int 0),(.int 0),(.int 0),(.int 0),(.int 0),(.int 0),(.int 0),(.int 0),(.int 0),(.int 0),(.list []),(.list []),(.list []),(.list [])])) 0 (ah 19 o8)) 17 pL) 12),(pc (.setc (.setc (.con (.agg [(.int 0),(.int 0),(.int 0),(.int 0),(.int 0),(.int 0),(.int 0),(.int 0),(.int 0),(.int 0),(.int 0),(.int 0),(.int 0),(.int 0),(.int 0),(.list []),(.list []),(.list []),(.list [])])) 0 (ah 19 o8)) 17 pL) 13),(pc (.setc (.setc (.con (.agg [(.int 0),(.int 0),(.int 0),(.int 0),(.int 0),(.int 0),(.int 0),(.int 0),(.int 0),(.int 0),(.int 0),(.int 0),(.int 0),(.int 0),(.int 0),(.list []),(.list []),(.list []),(.list [])])) 0 (ah 19 o8)) 17 pL) 14),(pc (.setc (.setc (.con (.agg [(.int 0),(.int 0),(.int 0),(.int 0),(.int 0),(.int 0),(.int 0),(.int 0),(.int 0),(.int 0),(.int 0),(.int 0),(.int 0),(.int 0),(.int 0),(.list []),(.list []),(.list []),(.list [])])) 0 (ah 19 o8)) 17 pL) 15),(pc (.setc (.setc (.con (.agg [(.int 0),(.int 0),(.int 0),(.int 0),(.int 0),(.int 0),(.int 0),(.int 0),(.int 0),(.int 0),(.int 0),(.int 0),(.int 0),(.int 0),(.int 0),(.list []),(.list []),(.list []),(.list [])])) 0 (ah 19 o8)) 17 pL) 16),pL,(pc (.setc (.setc (.con (.agg [(.int 0),(.int 0),(.int 0),(.int 0),(.int 0),(.int 0),(.int 0),(.int 0),(.int 0),(.int 0),(.int 0),(.int 0),(.int 0),(.int 0),(.int 0),(.list []),(.list []),(.list []),(.list [])])) 0 (ah 19 o8)) 17 pL) 18)]),r3,(pi 100000)] (aik b))
def ah7 (b:Nat→PC):PT:=
 (.call ⟨[(200,(.pick (.pick (.pick (ae (pc (.setc z4 0 (.r 181)) 0) (pi 0)) pT (ae (pc (.setc z4 0 (.r 181)) 1) (pi 0))) pT (ae (pc (.setc z4 0 (.r 181)) 2) (pi 0))) pT (ae (pc (.setc z4 0 (.r 181)) 3) (pi 0))))],[]⟩ [(200,false)] 207 19 [(ah 8 o6),r1,(.mk [(pc cj 0),(pc cj 1),(pc cj 2),(pc cj 3),(pc cj 4),(pc cj 5),(pc cj 6),(pc cj 7),(pc cj 8),(pc cj 9),(pc cj 10),(pc cj 11),(pc cj 12),(pc cj 13),(pc cj 14),(pc cj 15),(pc cj 16),(.o 73745),(pc cj 18)]),(.mx bH r5)] (.ite (.pick (.r 200) pT (aC (.r 207) bH)) (.ret pF) (ail b)))
def ah8 (b:Nat→PC):PT:=
 (.call ⟨[],[]⟩ [] 181 18 [(ah 8 o6),r1,(.mk [(pc cj 0),(pc cj 1),(pc cj 2),(pc cj 3),(pc cj 4),(pc cj 5),(pc cj 6),(pc cj 7),(pc cj 8),(pc cj 9),(pc cj 10),(pc cj 11),(pc cj 12),(pc cj 13),(pc cj 14),(pc cj 15),(pc cj 16),(.o 73745),(pc cj 18)]),r3,(.mx bH r5)] (ah7 b))
def ah9 (b:Nat→PC):PT:=
 (.call ⟨[],[(17,(.setc (.setc (.setc (.setc (.setc (.con (.agg [(.int 0),(.int 0),(.int 0),(.int 0),(.int 0),(.int 0),(.int 0),(.int 0),(.int 0),(.int 0),(.int 0),(.int 0),(.int 0),(.int 0),(.int 0),(.list []),(.list []),(.list []),(.list [])])) 0 (ah 19 o8)) 17 pN) 17 pN) 17 pN) 17 pN)),(73745,(.app (.app (.app (.app (.lst []) (pc o8 17)) (.lst [(.mk [(pi 2),r4,(pc (.setc dD 0 (ah 15 o8)) 1),(pi 0),(pi (-1)),(pi 0),bH,(pc (.setc dD 0 (ah 15 o8)) 10),(pi 0)])])) (.lst [(.mk [(pi 4),r4,(pc (.setc dD 0 (ah 15 o8)) 1),(pi 0),(pi (-1)),(pi 0),bH,(pc (.setc dD 0 (ah 15 o8)) 10),(pi 0)])])) (.lst [(.mk [(pi 5),r4,(pc (pn (pc o8 15) r3) 2),(pi 0),(pi (-1)),(pi 0),bH,(pc (.setc dD 0 (ah 15 o8)) 10),(pi 0)])]))),(16,(.setc dD 0 (ah 15 o8)))]⟩ [] 172 17 [(ah 8 o6),(.mk [(pc (.setc (.setc (.setc (.setc (.setc (.con (.agg [(.int 0),(.int 0),(.int 0),(.int 0),(.int 0),(.int 0),(.int 0),(.int 0),(.int 0),(.int 0),(.int 0),(.int 0),(.int 0),(.int 0),(.int 0),(.list []),(.list []),(.list []),(.list [])])) 0 (ah 19 o8)) 17 pN) 17 pN) 17 pN) 17 pN) 0),(pc (.setc (.setc (.setc (.setc (.setc (.con (.agg [(.int 0),(.int 0),(.int 0),(.int 0),(.int 0),(.int 0),(.int 0),(.int 0),(.int 0),(.int 0),(.int 0),(.int 0),(.int 0),(.int 0),(.int 0),(.list []),(.list []),(.list []),(.list [])])) 0 (ah 19 o8)) 17 pN) 17 pN) 17 pN) 17 pN) 1),(pc (.setc (.setc (.setc (.setc (.setc (.con (.agg [(.int 0),(.int 0),(.int 0),(.int 0),(.int 0),(.int 0),(.int 0),(.int 0),(.int 0),(.int 0),(.int 0),(.int 0),(.int 0),(.int 0),(.int 0),(.list []),(.list []),(.list []),(.list [])])) 0 (ah 19 o8)) 17 pN) 17 pN) 17 pN) 17 pN) 2),(pc (.setc (.setc (.setc (.setc (.setc (.con (.agg [(.int 0),(.int 0),(.int 0),(.int 0),(.int 0),(.int 0),(.int 0),(.int 0),(.int 0),(.int 0),(.int 0),(.int 0),(.int 0),(.int 0),(.int 0),(.list []),(.list []),(.list []),(.list [])])) 0 (ah 19 o8)) 17 pN) 17 pN) 17 pN) 17 pN) 3),(pc (.setc (.setc (.setc (.setc (.setc (.con (.agg [(.int 0),(.int 0),(.int 0),(.int 0),(.int 0),(.int 0),(.int 0),(.int 0),(.int 0),(.int 0),(.int 0),(.int 0),(.int 0),(.int 0),(.int 0),(.list []),(.list []),(.list []),(.list [])])) 0 (ah 19 o8)) 17 pN) 17 pN) 17 pN) 17 pN) 4),(pc (.setc (.setc (.setc (.setc (.setc (.con (.agg [(.int 0),(.int 0),(.int 0),(.int 0),(.int 0),(.int 0),(.int 0),(.int 0),(.int 0),(.int 0),(.int 0),(.int 0),(.int 0),(.int 0),(.int 0),(.list []),(.list []),(.list []),(.list [])])) 0 (ah 19 o8)) 17 pN) 17 pN) 17 pN) 17 pN) 5),(pc (.setc (.setc (.setc (.setc (.setc (.con (.agg [(.int 0),(.int 0),(.int 0),(.int 0),(.int 0),(.int 0),(.int 0),(.int 0),(.int 0),(.int 0),(.int 0),(.int 0),(.int 0),(.int 0),(.int 0),(.list []),(.list []),(.list []),(.list [])])) 0 (ah 19 o8)) 17 pN) 17 pN) 17 pN) 17 pN) 6),(pc (.setc (.setc (.setc (.setc (.setc (.con (.agg [(.int 0),(.int 0),(.int 0),(.int 0),(.int 0),(.int 0),(.int 0),(.int 0),(.int 0),(.int 0),(.int 0),(.int 0),(.int 0),(.int 0),(.int 0),(.list []),(.list []),(.list []),(.list [])])) 0 (ah 19 o8)) 17 pN) 17 pN) 17 pN) 17 pN) 7),(pc (.setc (.setc (.setc (.setc (.setc (.con (.agg [(.int 0),(.int 0),(.int 0),(.int 0),(.int 0),(.int 0),(.int 0),(.int 0),(.int 0),(.int 0),(.int 0),(.int 0),(.int 0),(.int 0),(.int 0),(.list []),(.list []),(.list []),(.list [])])) 0 (ah 19 o8)) 17 pN) 17 pN) 17 pN) 17 pN) 8),(pc (.setc (.setc (.setc (.setc (.setc (.con (.agg [(.int 0),(.int 0),(.int 0),(.int 0),(.int 0),(.int 0),(.int 0),(.int 0),(.int 0),(.int 0),(.int 0),(.int 0),(.int 0),(.int 0),(.int 0),(.list []),(.list []),(.list []),(.list [])])) 0 (ah 19 o8)) 17 pN) 17 pN) 17 pN) 17 pN) 9),(pc (.setc (.setc (.setc (.setc (.setc (.con (.agg [(.int 0),(.int 0),(.int 0),(.int 0),(.int 0),(.int 0),(.int 0),(.int 0),(.int 0),(.int 0),(.int 0),(.int 0),(.int 0),(.int 0),(.int 0),(.list []),(.list []),(.list []),(.list [])])) 0 (ah 19 o8)) 17 pN) 17 pN) 17 pN) 17 pN) 10),(pc (.setc (.setc (.setc (.setc (.setc (.con (.agg [(.int 0),(.int 0),(.int 0),(.int 0),(.int 0),(.int 0),(.int 0),(.int 0),(.int 0),(.int 0),(.int 0),(.int 0),(.int 0),(.int 0),(.int 0),(.list []),(.list []),(.list []),(.list [])])) 0 (ah 19 o8)) 17 pN) 17 pN) 17 pN) 17 pN) 11),(pc (.setc (.setc (.setc (.setc (.setc (.con (.agg [(.int 0),(.int 0),(.int 0),(.int 0),(.int 0),(.int 0),(.int 0),(.int 0),(.int 0),(.int 0),(.int 0),(.int 0),(.int 0),(.int 0),(.int 0),(.list []),(.list []),(.list []),(.list [])])) 0 (ah 19 o8)) 17 pN) 17 pN) 17 pN) 17 pN) 12),(pc (.setc (.setc (.setc (.setc (.setc (.con (.agg [(.int 0),(.int 0),(.int 0),(.int 0),(.int 0),(.int 0),(.int 0),(.int 0),(.int 0),(.int 0),(.int 0),(.int 0),(.int 0),(.int 0),(.int 0),(.list []),(.list []),(.list []),(.list [])])) 0 (ah 19 o8)) 17 pN) 17 pN) 17 pN) 17 pN) 13),(pc (.setc (.setc (.setc (.setc (.setc (.con (.agg [(.int 0),(.int 0),(.int 0),(.int 0),(.int 0),(.int 0),(.int 0),(.int 0),(.int 0),(.int 0),(.int 0),(.int 0),(.int 0),(.int 0),(.int 0),(.list []),(.list []),(.list []),(.list [])])) 0 (ah 19 o8)) 17 pN) 17 pN) 17 pN) 17 pN) 14),(pc (.setc (.setc (.setc (.setc (.setc (.con (.agg [(.int 0),(.int 0),(.int 0),(.int 0),(.int 0),(.int 0),(.int 0),(.int 0),(.int 0),(.int 0),(.int 0),(.int 0),(.int 0),(.int 0),(.int 0),(.list []),(.list []),(.list []),(.list [])])) 0 (ah 19 o8)) 17 pN) 17 pN) 17 pN) 17 pN) 15),(pc (.setc (.setc (.setc (.setc (.setc (.con (.agg [(.int 0),(.int 0),(.int 0),(.int 0),(.int 0),(.int 0),(.int 0),(.int 0),(.int 0),(.int 0),(.int 0),(.int 0),(.int 0),(.int 0),(.int 0),(.list []),(.list []),(.list []),(.list [])])) 0 (ah 19 o8)) 17 pN) 17 pN) 17 pN) 17 pN) 16),(.app (.app (.app (.app (.lst []) (pc o8 17)) (.lst [(.mk [(pi 2),r4,(pc (.setc dD 0 (ah 15 o8)) 1),(pi 0),(pi (-1)),(pi 0),bH,(pc (.setc dD 0 (ah 15 o8)) 10),(pi 0)])])) (.lst [(.mk [(pi 4),r4,(pc (.setc dD 0 (ah 15 o8)) 1),(pi 0),(pi (-1)),(pi 0),bH,(pc (.setc dD 0 (ah 15 o8)) 10),(pi 0)])])) (.lst [(.mk [(pi 5),r4,(pc (pn (pc o8 15) r3) 2),(pi 0),(pi (-1)),(pi 0),bH,(pc (.setc dD 0 (ah 15 o8)) 10),(pi 0)])])),(pc (.setc (.setc (.setc (.setc (.setc (.con (.agg [(.int 0),(.int 0),(.int 0),(.int 0),(.int 0),(.int 0),(.int 0),(.int 0),(.int 0),(.int 0),(.int 0),(.int 0),(.int 0),(.int 0),(.int 0),(.list []),(.list []),(.list []),(.list [])])) 0 (ah 19 o8)) 17 pN) 17 pN) 17 pN) 17 pN) 18)])] (.ite (aC (.r 172) (pi 0)) (.ret pF) (ah8 b)))
def aia (b:Nat→PC):PT:=
 (.call ⟨[],[]⟩ [] 80 16 [(ah 8 o6),r1,(ah 19 o8),(pc o8 8)] (.brk ⟨[(15,(pi 0)),(14,qm)],[]⟩ (acV b) (.chk (.nt (.an (.an (.nt (ae bH (pi (-1)))) pT) (.nt (aq (pc o8 15) (aS (.llen (pc o8 15)) (pi 1)))))) (.ite (.pick (ae bH (pi (-1))) pT (aP (pc (pn (pc o8 15) (aS (.llen (pc o8 15)) (pi 1))) 6) bH)) (.ret cO) (.chk (aX (.llen (.app (.lst []) (pc o8 17))) (pi 4294967296)) (.chk (aX (.llen (.app (.app (.lst []) (pc o8 17)) (.lst [(.mk [(pi 2),r4,(pc (.setc dD 0 (ah 15 o8)) 1),(pi 0),(pi (-1)),(pi 0),bH,(pc (.setc dD 0 (ah 15 o8)) 10),(pi 0)])]))) (pi 4294967296)) (.chk (aX (.llen (.app (.app (.app (.lst []) (pc o8 17)) (.lst [(.mk [(pi 2),r4,(pc (.setc dD 0 (ah 15 o8)) 1),(pi 0),(pi (-1)),(pi 0),bH,(pc (.setc dD 0 (ah 15 o8)) 10),(pi 0)])])) (.lst [(.mk [(pi 4),r4,(pc (.setc dD 0 (ah 15 o8)) 1),(pi 0),(pi (-1)),(pi 0),bH,(pc (.setc dD 0 (ah 15 o8)) 10),(pi 0)])]))) (pi 4294967296)) (.chk (aq (pc o8 15) r3) (.chk (aX (.llen (.app (.app (.app (.app (.lst []) (pc o8 17)) (.lst [(.mk [(pi 2),r4,(pc (.setc dD 0 (ah 15 o8)) 1),(pi 0),(pi (-1)),(pi 0),bH,(pc (.setc dD 0 (ah 15 o8)) 10),(pi 0)])])) (.lst [(.mk [(pi 4),r4,(pc (.setc dD 0 (ah 15 o8)) 1),(pi 0),(pi (-1)),(pi 0),bH,(pc (.setc dD 0 (ah 15 o8)) 10),(pi 0)])])) (.lst [(.mk [(pi 5),r4,(pc (pn (pc o8 15) r3) 2),(pi 0),(pi (-1)),(pi 0),bH,(pc (.setc dD 0 (ah 15 o8)) 10),(pi 0)])]))) (pi 4294967296)) (ah9 b))))))))))
def aib (b:Nat→PC):PT:=
 (.call ⟨[(13,jE)],[]⟩ [] 29 15 [(ah 8 o6),(ah 19 o8)] (.ite (.pick (.pick (.pick (.pick (.pick (.pick (.pick (.nt jF) pT (aP (.llen (pc o8 17)) (pi 97))) pT (ao r3 (pi 0))) pT (bD r3 (.llen (pc o8 15)))) pT (ae (pc o8 5) (pi 0))) pT (ae (pc o8 5) (pi 1))) pT (ao r4 (pi 0))) pT (bD r4 (.llen (pc o6 3)))) (.ret cO) (aia b)))
def aic (b:Nat→PC):PT:=
 (.call ⟨[(12,pF)],[(8,(.mk [r2])),(6,(.mk [r0]))]⟩ [] 26 14 [] (aib b))
theorem axw (b:Nat→PC):VR b=aic b:=rfl
@[simp] theorem aHd (a0 a1 a2 a3 a4 a5 a6 a7 a8 a9 gy ib ic ij il jj jk jP jQ x:D):dm [a0,a1,a2,a3,a4,a5,a6,a7,a8,a9,gy,ib,ic,ij,il,jj,jk,jP,jQ] 17 [x]=[a0,a1,a2,a3,a4,a5,a6,a7,a8,a9,gy,ib,ic,ij,il,jj,jk,x,jQ]:=_root_.id rfl
theorem akt {f:File}(h:FewS f){who to due:Int}(hl:f.acts.length≤97):FewS (fM f who to due):=⟨h.signs,h.alters,by simp[fM,kL];omega,h.facts⟩
theorem aks {f:File}(h:f.OK){who to due:Int}(hw:aW who)(ht:aW to)(hd:aW due)(hl:f.acts.length≤97):(fM f who to due).OK:=by
 obtain⟨h1,h2,h3,h4,h5⟩:=h;refine⟨h1,h2,h3,⟨by simp[fM,kL,maxLen];omega,fun a ha=>?_⟩,h5⟩;have hb:=h1;unfold Bill.OK at hb;rcases da.1 ha with ha|ha
 ·exact h4.2 a ha
 ·simp only[kL,cW,NZ,or_false] at ha;have k0:aW 0:=by unfold aW;omega
  have k1:aW (-1):=by unfold aW;omega
  have k2:aW 2:=by unfold aW;omega
  have k4:aW 4:=by unfold aW;omega
  have k5:aW 5:=by unfold aW;omega
  rcases ha with ha|ha|ha<;>rw[ha]<;>unfold Act.OK<;>simp[k0,k1,k2,k4,k5,hw,ht,hd,hb]
theorem ajb (r:Realm)(hr:r.OK)(forum:Int)(f:File)(Ax:f.OK)(sign who day:Int):ak T 4 [aQ r,.int forum,bT f,.int sign,.int who,.int day] (.bool true):=by
 refine .of_tree rfl (lA 0 (by kernel_rfl)) axx ?_;rw[axw];simp[aic];obtain⟨d,hd,b,rfl,hb⟩:=akh r hr f Ax;refine⟨_,av7,?_⟩;simp[aib];refine⟨_,hd,?_⟩;cases b
 ·simp
 obtain⟨hg,hP⟩:=hb rfl;have G:=anQ hr hg;have gU:dv r=0:=by simp[Av] at hg;exact hg.2
 have hSt:=hP.sorted;simp;intro c1 c2 c3 c4 c5 c6 c7;obtain⟨i,rfl⟩:=qy (show 0≤sign by omega);have gV:i<f.signs.length:=by omega
 simp[aia];refine⟨_,YR r G.right G.rightD forum f f.bill.day G.few,?_⟩;obtain⟨due,mq⟩:∃due,due=eg r forum f f.bill.day:=⟨_,rfl⟩
 have kq:=as3 G.rightD forum f f.bill.day;rw[←mq] at kq ⊢;refine aL.scan f.acts.length (fun k=>¬((f.acts.getD k default).kind=1∨due<(f.acts.getD k default).day)) (fun k=>[.bool false,.int k]) (fun _=>[]) ?_ (fun k hk hj aB=>?_) (fun k hk hj aB=>?_) (fun hj=>?_)
 ·simp
 ·have hw:=bk hk (by omega);simp[hk] at aB;have QJ:¬due<f.acts[k].day:=by omega
  simp[TU,FE,hk,hw,aB.1,QJ]
 ·simp[hk] at aB;simp[TU,FE,hk];by_cases e:f.acts[k].kind=1
  ·exact .inl e
  ·exact .inr (aB e)
 ·have A8:0<f.signs.length:=by omega
  have uE:=G.few.signs;have sX:IntKind.i64.wrap ((f.signs.length:Int)-1)=(f.signs.length:Int)-1:=aJ (by omega);have hwn:((f.signs.length:Int)-1).toNat=f.signs.length-1:=by omega
  have ar:f.signs.length-1<f.signs.length:=by omega
  simp[TU,FE,sX,hwn,ar];refine⟨by omega,fun bB dy=>⟨by omega,by omega,by omega,gV,by omega,?_⟩⟩;have w9:0≤due∧due≤100000:=by omega
  have aaS:∀a,a∈f.acts→a.kind≠1∧a.day≤due:=by
   intro a ha;obtain⟨k,hk,rfl⟩:=gP ha;have h1:=hj k hk;simp[hk] at h1;exact⟨h1.1,by omega⟩
  have aqi:∀s,s∈f.signs→s.day≤due:=by
   intro s hs;obtain⟨k,hk,rfl⟩:=gP hs;by_cases e:k=f.signs.length-1
   ·subst e;exact dy
   ·exact NK (YQ.1 hSt.signs k (f.signs.length-1) hk ar (by omega)) dy
  have ou:=hP.sign i gV;have aow:=as1 G.rightD hP forum f.bill.day (by rw[←mq];exact bB);have El:=Zr hP;have aZ:=akd hP;obtain⟨M,hM⟩:∃M,M=(if due<day then day else due):=⟨_,rfl⟩
  have hMd:due≤M:=by rw[hM];split<;>omega
  have hMe:(if due<day then D.int day else D.int due)=D.int M:=by rw[hM];split<;>rfl
  have hbM:f.bill.day≤due:=by
   rw[mq];exact aow.1
  have aoD:=aku hP (who:=who) (to:=f.signs[i].who) (due:=due) (by omega) ⟨c6,c7⟩ ou.who ⟨hbM,w9.2⟩ (fun a ha=>(aaS a ha).2);have Qd:=akt G.few (who:=who) (to:=f.signs[i].who) (due:=due) (by omega);have aoz:=aks Ax (who:=who) (to:=f.signs[i].who) (due:=due) (by unfold aW;have:=G.rightD.small.firms;omega) (by unfold aW;have:=G.rightD.small.firms;have:=ou.who;omega) (by unfold aW;omega) (by omega);obtain⟨dc,hdc,e,rfl,DW⟩:=afO r G.rightD.small (fM f who f.signs[i].who due) aoz;have he0:=DW.2 aoD;subst he0;obtain⟨g,fF⟩:∃g,g=fM f who f.signs[i].who due:=⟨_,rfl⟩
  have hE:D.agg [D.int f.bill.drawer,D.int f.bill.drawee,D.int f.bill.payee,D.int f.bill.sum,D.int f.bill.currency,D.int f.bill.tenor.kind,D.int f.bill.tenor.n,D.int f.bill.tenor.unit,D.int f.bill.day,D.int f.bill.city,D.int f.bill.pay,D.int f.bill.need,D.int f.bill.rate,D.int f.bill.flags,D.int f.bill.parts,signs f.signs,alters f.alters,D.list (List.map iW f.acts++[D.agg [D.int 2,D.int who,D.int f.bill.drawee,D.int 0,D.int (-1),D.int 0,D.int due,D.int f.bill.pay,D.int 0],D.agg [D.int 4,D.int who,D.int f.bill.drawee,D.int 0,D.int (-1),D.int 0,D.int due,D.int f.bill.pay,D.int 0],D.agg [D.int 5,D.int who,D.int f.signs[i].who,D.int 0,D.int (-1),D.int 0,D.int due,D.int f.bill.pay,D.int 0]]),facts f.facts]=bT g:=by
   have:D.list (List.map iW f.acts++[D.agg [D.int 2,D.int who,D.int f.bill.drawee,D.int 0,D.int (-1),D.int 0,D.int due,D.int f.bill.pay,D.int 0],D.agg [D.int 4,D.int who,D.int f.bill.drawee,D.int 0,D.int (-1),D.int 0,D.int due,D.int f.bill.pay,D.int 0],D.agg [D.int 5,D.int who,D.int f.signs[i].who,D.int 0,D.int (-1),D.int 0,D.int due,D.int f.bill.pay,D.int 0]])=acts (f.acts++kL f who f.signs[i].who due):=by
        unfold acts;rw[pf];rfl
   rw[this,fF];rfl
  rw[←fF] at Qd hdc;have hup:∀d,due≤d→iQ d f.signs=f.signs:=fun d hd=>ah3 fun s hs=>by have:=aqi s hs;simp;omega
  have abG:∀d,due≤d→eg r forum f d=due:=fun d hd=>by rw[mq];exact as2 G.rightD forum hSt (by omega) (by rw[←mq];exact bB)
  have hI0:Done (gJ r forum {f with acts:=[]} i 100000) due∧(gJ r forum {f with acts:=[]} i 100000).file.acts=[]:=by
   have hsn:(gJ r forum {f with acts:=[]} i 100000).file.signs=f.signs:=hup 100000 w9.2;refine⟨⟨?_,w9,⟨c4,c5⟩,⟨by show(0:Int)≤i;omega,by rw[hsn];show(i:Int)<_;omega⟩,fun a ha=>by cases ha⟩,rfl⟩;show eg r forum {f with acts:=[]} 100000=due;rw[ac9 forum f [] 100000 c4 c5];exact abG 100000 w9.2
  have hga:∀a,a∈g.acts→a.kind≠1∧a.day≤due:=by
   intro a ha;rw[fF] at ha;rcases da.1 ha with ha|ha
   ·exact aaS a ha
   ·simp only[kL,cW,NZ,or_false] at ha;rcases ha with ha|ha|ha<;>rw[ha]<;>simp
  have KK:(aE g M).acts=g.acts:=ah3 fun a ha=>by have:=(hga a ha).2;simp;omega
  have iZ:(aE g M).signs=f.signs:=by rw[fF];exact hup M hMd
  have hvb:(aE g M).bill=f.bill:=by rw[fF];rfl
  have aaz:∀s:Nat,s<f.signs.length→Done (gJ r forum g s M) due:=by
   intro s hs;refine⟨?_,w9,?_,⟨by show(0:Int)≤s;omega,?_⟩,fun a ha=>hga a (by rw[←KK];exact ha)⟩
   ·show eg r forum g M=due;rw[fF];exact(ac9 forum f _ M c4 c5).trans (abG M hMd)
   ·show(aE g M).bill.tenor.kind≠0∧(aE g M).bill.tenor.kind≠1;rw[hvb];exact⟨c4,c5⟩
   ·show(s:Int)<((aE g M).signs.length:Int);rw[iZ];omega
  have hCf:Careful (gJ r forum g i M) due:=by
   have Qq:(gJ r forum g i M).file.acts=f.acts++kL f who f.signs[i].who due:=by
        show(aE g M).acts=_;rw[KK,fF];rfl
   have sI:(gJ r forum g i M).file.bill=f.bill:=hvb;have xr:(gJ r forum g i M).who=f.signs[i].who:=by
        show(cZ (aE g M) i).who=_;unfold cZ;rw[iZ];simp[gV]
   refine⟨aaz i gV,?_,?_,?_⟩
   ·rw[Qq,sI];exact⟨⟨2,who,f.bill.drawee,0,-1,0,due,f.bill.pay,0⟩,by simp[kL],rfl,rfl,rfl⟩
   ·rw[Qq,sI];exact⟨f.acts++[⟨2,who,f.bill.drawee,0,-1,0,due,f.bill.pay,0⟩],⟨4,who,f.bill.drawee,0,-1,0,due,f.bill.pay,0⟩,[⟨5,who,f.signs[i].who,0,-1,0,due,f.bill.pay,0⟩],by simp[kL],rfl,rfl,rfl,rfl⟩
   ·rw[Qq,xr];exact⟨f.acts++[⟨2,who,f.bill.drawee,0,-1,0,due,f.bill.pay,0⟩,⟨4,who,f.bill.drawee,0,-1,0,due,f.bill.pay,0⟩],⟨5,who,f.signs[i].who,0,-1,0,due,f.bill.pay,0⟩,[],by simp[kL],rfl,rfl,rfl⟩
  have hKc:(jw r forum g i M).shown≠0∧(jw r forum g i M).protest≠0∧(jw r forum g i M).notice≠0∧(jw r forum g i M).all_≠0∧JG r forum g M=due:=by
   obtain⟨q1,q2,q3,q4⟩:=hCf.kept;exact⟨q1,q2,q3,q4,(aaz 0 A8).dishon⟩
  have hK1:=NO r G.right G.rightD forum g i M Qd (by rw[fF];exact El) (by rw[fF];exact aZ);have hDi:=YD r G.right G.rightD forum g M Qd;obtain⟨k1,k2,k3,k4,k5⟩:=hKc;simp[ah9,gV];rw[hE];refine⟨_,hdc,?_⟩;simp[ah8,gV,hMe,hE];refine⟨_,hK1,?_⟩;generalize jw r forum g i M=K at*;simp[ah7,gV,hMe,hE,k1,k2,k3,k4];refine⟨_,hDi,k5,?_⟩;obtain⟨h,hh⟩:∃h,h={f with acts:=[]}:=⟨_,rfl⟩
  rw[←hh] at hI0;have hF:D.agg [D.int f.bill.drawer,D.int f.bill.drawee,D.int f.bill.payee,D.int f.bill.sum,D.int f.bill.currency,D.int f.bill.tenor.kind,D.int f.bill.tenor.n,D.int f.bill.tenor.unit,D.int f.bill.day,D.int f.bill.city,D.int f.bill.pay,D.int f.bill.need,D.int f.bill.rate,D.int f.bill.flags,D.int f.bill.parts,signs f.signs,alters f.alters,D.list [],facts f.facts]=bT h:=by rw[hh];rfl
  have ml:D.agg [D.int h.bill.drawer,D.int h.bill.drawee,D.int h.bill.payee,D.int h.bill.sum,D.int h.bill.currency,D.int h.bill.tenor.kind,D.int h.bill.tenor.n,D.int h.bill.tenor.unit,D.int h.bill.day,D.int h.bill.city,D.int h.bill.pay,D.int h.bill.need,D.int h.bill.rate,D.int h.bill.flags,D.int h.bill.parts,signs h.signs,alters h.alters,D.list [],facts h.facts]=bT h:=by rw[hh];rfl
  have hhf:FewS h:=by rw[hh];exact⟨G.few.signs,G.few.alters,by simp,G.few.facts⟩
  have hK2:=NO r G.right G.rightD forum h i 100000 hhf (by rw[hh];exact El) (by rw[hh];exact aZ);have kS:r.cities.length≤100000:=by have:=G.rightD.small.cities;omega
  have J0:=fun q=>avj r G.right G.rightD gU kS forum q h i 100000 hhf;have hpb:0≤f.bill.pay∧f.bill.pay<r.cities.length:=by simpa [ax] using El
  have hTe:=fun s=>avk r G.rightD.cities s due f.bill.pay hpb;obtain⟨I1,I2⟩:=hI0;obtain⟨i1,i2,i3⟩:=aqR I1 I2 rfl;have Kb:(gJ r forum h i 100000).city=r.cities.getD f.bill.pay.toNat default:=by
   rw[hh];rfl
  have aaZ:∀q,(gJ r forum h i 100000).asked q=wh r forum q h i 100000:=by
   intro q;show gR r forum q ⟨aE h 100000,i,i,-1,eg r forum h 100000,100000⟩=_;unfold wh;refine Zk ?_;unfold aI;simp only[Hq _ (yN 100000)]
  have Km:(gJ r forum h i 100000).kept=jw r forum h i 100000:=rfl;rw[Kb,Km] at i1 i2 i3;clear Kb;generalize r.cities.getD f.bill.pay.toNat default=c at*;rw[aaZ] at i1 i2 i3;rw[aaZ] at i2 i3;simp[ail,gV,hF,ml];refine⟨_,hK2,?_⟩;generalize jw r forum h i 100000=K2 at*;simp[aik,gV,hF,ml];refine⟨_,J0 8,?_⟩;simp[aij,gV,hF,ml];refine⟨_,J0 11,?_⟩;simp[aii,gV,hF,ml];refine⟨_,J0 10,?_⟩;simp[aih,gV,hF,ml];refine⟨_,hTe _,?_⟩;simp[aif,gV,hF,ml];refine⟨_,J0 12,?_⟩;simp[aie,gV,hF,ml];refine⟨_,hTe _,?_⟩;have hT8:=Hn (wh r forum 8 h i 100000);have aaP:=Hn (wh r forum 11 h i 100000);generalize lW c (wh r forum 10 h i 100000) due=t1 at*;generalize lW c (wh r forum 12 h i 100000) due=t2 at*;simp[aid,gV,hF,ml];by_cases ht:0≤t1∧t1<100000
  ·rw[if_pos ht] at i1;rw[if_pos ⟨i1,ht⟩];refine⟨_,hT8,⟨fun _ _=>⟨i1,fun e=>i2 ht (by simpa using e)⟩,fun e=>by omega⟩,?_⟩;simp[Yg,gV,hF,ml,ht];by_cases h2:0≤t2∧t2<100000
   ·rw[if_pos h2];exact⟨_,aaP,fun _ _ e=>i3 h2 (by simpa using e)⟩
   ·rw[if_neg h2];exact fun a b=>absurd ⟨a,b⟩ h2
  ·rw[if_neg ht] at i1;rw[if_neg (fun e=>ht e.2)];refine⟨⟨fun a b=>absurd ⟨a,b⟩ ht,fun _=>i1⟩,?_⟩;simp[Yg,gV,hF,ml,ht];by_cases h2:0≤t2∧t2<100000
   ·rw[if_pos h2];exact⟨_,aaP,fun _ _ e=>i3 h2 (by simpa using e)⟩
   ·rw[if_neg h2];exact fun a b=>absurd ⟨a,b⟩ h2
end Rm
