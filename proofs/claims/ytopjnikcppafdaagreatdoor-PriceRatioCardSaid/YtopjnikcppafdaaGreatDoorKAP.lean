/-
  Shared texts of this claim.
-/
import Derived.Test.YtopjnikcppafdaaGreatDoorKAO
import Derived.Test.YtopjnikcppafdaaGreatDoorKAJ
import Derived.Test.YtopjnikcppafdaaGreatDoorKAI
import Derived.Test.YtopjnikcppafdaaGreatDoorKAN
set_option linter.unusedSimpArgs false
set_option linter.unusedVariables false
noncomputable section
namespace Rm
open Go Go.Proofs Cx
theorem abY (R Y:Int)(hR:0≤R∧R<146097)(h1:365*Y≤R-R/1460+R/36524-R/146096)(h2:R-R/1460+R/36524-R/146096<365*Y+365):0≤R-(365*Y+Y/4-Y/100)∧R-(365*Y+Y/4-Y/100)≤500:=by
 have k0:R/36524≤R/1460:=by omega
 have k1:Y/4≤R/1460:=by omega
 have hY:0≤Y:=by omega
 have hc:R/36524=0∨R/36524=1∨R/36524=2∨R/36524=3∨R/36524=4:=by omega
 have k2:25*(R/36524)≤R/1460:=by omega
 refine⟨?_,?_⟩
 ·rcases Int.lt_or_le Y (100*(R/36524)) with hy|hy
  ·have k3:Y/4≤25*(R/36524)-1:=by omega
   have k4:R/36524-1≤Y/100:=by omega
   omega
  ·have k3:R/36524≤Y/100:=by omega
   omega
 ·omega
theorem abZ (n:Int)(h:0≤n∧n≤100400):aj T 203 [.int n] (.tup [.int (fA n).1,.int (fA n).2.1,.int (fA n).2.2]):=by
 refine .of_tree rfl (lA 89 (by kernel_rfl)) azp ?_;have w:∀x:Int,-1000000000≤x→x≤1000000000→IntKind.i64.wrap x=x:=fun x a b=>aN (by omega);have t:∀x y:Int,0≤x→x.tdiv y=x/y:=fun x y hx=>xt hx;have u:∀x y:Int,0≤x→x.tmod y=x%y:=fun x y hx=>IV hx;simp[XN];unfold fA;simp only[];rw[w (n+730425) (by omega) (by omega),u (n+730425) 146097 (by omega),t (n+730425) 146097 (by omega)];have hR:0≤(n+730425)%146097∧(n+730425)%146097<146097:=by omega
 have hE:0≤(n+730425)/146097∧(n+730425)/146097<100:=by omega
 generalize (n+730425)%146097=R at*;generalize (n+730425)/146097=e at*;rw[t R 1460 (by omega),t R 36524 (by omega),t R 146096 (by omega),w (R/1460) (by omega) (by omega),w (R-R/1460) (by omega) (by omega),w (R/36524) (by omega) (by omega),w (R-R/1460+R/36524) (by omega) (by omega),w (R/146096) (by omega) (by omega),w (R-R/1460+R/36524-R/146096) (by omega) (by omega),t (R-R/1460+R/36524-R/146096) 365 (by omega)];have hY:0≤(R-R/1460+R/36524-R/146096)/365∧(R-R/1460+R/36524-R/146096)/365<400:=by omega
 have hD:0≤R-(365*((R-R/1460+R/36524-R/146096)/365)+(R-R/1460+R/36524-R/146096)/365/4-(R-R/1460+R/36524-R/146096)/365/100)∧R-(365*((R-R/1460+R/36524-R/146096)/365)+(R-R/1460+R/36524-R/146096)/365/4-(R-R/1460+R/36524-R/146096)/365/100)≤500:=by
  exact abY R _ hR (by omega) (by omega)
 generalize (R-R/1460+R/36524-R/146096)/365=Y at*;rw[w Y (by omega) (by omega),w (365*Y) (by omega) (by omega),t Y 4 (by omega),t Y 100 (by omega),w (Y/4) (by omega) (by omega),w (Y/100) (by omega) (by omega),w (365*Y+Y/4) (by omega) (by omega),w (365*Y+Y/4-Y/100) (by omega) (by omega),w (R-(365*Y+Y/4-Y/100)) (by omega) (by omega)];generalize R-(365*Y+Y/4-Y/100)=D at*;rw[w (5*D) (by omega) (by omega),w (5*D+2) (by omega) (by omega),t (5*D+2) 153 (by omega)];have hM:0≤(5*D+2)/153∧(5*D+2)/153≤20:=by omega
 generalize (5*D+2)/153=M at*;rw[w M (by omega) (by omega),w (M+3) (by omega) (by omega),w (M+3-12) (by omega) (by omega),w e (by omega) (by omega),w (400*e) (by omega) (by omega),w (Y+400*e) (by omega) (by omega),w (Y+400*e+1) (by omega) (by omega)];rw[w (153*M) (by omega) (by omega),w (153*M+2) (by omega) (by omega),t (153*M+2) 5 (by omega),w ((153*M+2)/5) (by omega) (by omega),w (D-(153*M+2)/5) (by omega) (by omega),w (D-(153*M+2)/5+1) (by omega) (by omega)];refine⟨?_,?_,rfl⟩
 ·generalize (if 12<M+3 then M+3-12 else M+3)=m;split<;>rfl
 ·split<;>rfl
theorem akJ (d n:Int):∃x e:Int,aj T 183 [.int d,.int n] (.tup [.int x,.int e])∧(e=0→0≤x∧x≤100000):=by
 by_cases h0:iN d=true∧-5000≤n∧n≤5000
 ·have hd:0≤d∧d≤100400:=by have:=h0.1;simp[iN] at this;omega
  obtain⟨A,hA⟩:∃A,A=IntKind.i64.wrap (IntKind.i64.wrap (IntKind.i64.wrap (IntKind.i64.wrap (12*(fA d).1)+(fA d).2.1)-1)+n):=⟨_,rfl⟩
  obtain⟨Y,hY⟩:∃Y,Y=IntKind.i64.wrap (A.tdiv 12):=⟨_,rfl⟩
  obtain⟨M,hM⟩:∃M,M=IntKind.i64.wrap (A.tmod 12+1):=⟨_,rfl⟩
  obtain⟨x,e,hD,hb⟩:=akR Y M (if CB Y M<(fA d).2.2 then CB Y M else(fA d).2.2);refine⟨x,e,.of_tree rfl abx akd ?_,hb⟩;have n1:¬n< -5000:=by omega
  have n2:¬5000<n:=by omega
  simp[O7,n1,n2];refine⟨_,IF d,?_⟩;simp[h0.1];refine⟨_,abZ d hd,?_⟩;simp[←hA,←hY,←hM];refine⟨_,Ms Y M,?_⟩;by_cases hl:CB Y M<(fA d).2.2
  ·simp only[if_pos hl] at hD;simp[hl];refine⟨_,hD,?_⟩;simp
  ·simp only[if_neg hl] at hD;simp[hl];refine⟨_,hD,?_⟩;simp
 ·refine⟨0,3,.of_tree rfl abx akd ?_,by simp⟩;simp[O7];refine⟨_,IF d,?_⟩;simp;intro a b c;exact absurd ⟨a,b,c⟩ h0
end Rm
namespace Rm
open Go Go.Proofs Cx
theorem R6 (l:List Int)(x:Int):hasB l x=l.contains x:=by
 rw[tF];simp[hasB]
def Ir (c:City):Prop:=c.rest.length≤100000∧c.feasts.length≤100000∧c.shut.length≤100000
theorem amL (n:Int)(h:0≤n∧n≤100400):(0≤(fA n).2.1∧(fA n).2.1≤30)∧-1000≤(fA n).2.2∧(fA n).2.2≤1000:=by
 unfold fA;simp only[];have hR:0≤(n+730425)%146097∧(n+730425)%146097<146097:=by omega
 generalize (n+730425)%146097=R at*;have hD:=abY R ((R-R/1460+R/36524-R/146096)/365) hR (by omega) (by omega);generalize (R-R/1460+R/36524-R/146096)/365=Y at*;generalize R-(365*Y+Y/4-Y/100)=D at*;have hM:0≤(5*D+2)/153∧(5*D+2)/153≤20:=by omega
 generalize (5*D+2)/153=M at*;refine⟨?_,by omega,by omega⟩;split<;>omega
theorem awa (c:City)(hc:Ir c)(n:Int)(h:0≤n∧n≤100400):aj T 207 [gL c,.int n] (.bool (zp c.rest c.feasts c.shut n)):=by
 refine .of_tree rfl (lA 98 (by kernel_rfl)) azt ?_;simp[XQ];refine⟨_,abZ n h,?_⟩;have w5:IntKind.i64.wrap (n+5)=n+5:=aN (by omega);have m7:(n+5).tmod 7=(n+5)%7:=IV (by omega);obtain⟨h1,h2,h3⟩:=hc;simp[w5,m7];refine⟨_,xo c.rest ((n+5)%7) (by omega),?_⟩;unfold zp;rw[←R6];cases hr:hasB c.rest ((n+5)%7)
 ·obtain⟨jF,dG⟩:=amL n h;have wm:IntKind.i64.wrap (100*(fA n).2.1)=100*(fA n).2.1:=aN (by omega);have wd:IntKind.i64.wrap (100*(fA n).2.1+(fA n).2.2)=100*(fA n).2.1+(fA n).2.2:=aN (by omega);simp[hr,wm,wd];refine⟨_,xo c.feasts _ (by omega),?_⟩;have e1:=R6 c.feasts (100*(fA n).2.1+(fA n).2.2);have e2:=R6 c.shut n;simp at e1 e2;cases hf:hasB c.feasts (100*(fA n).2.1+(fA n).2.2)
  ·simp[hf,←e1,←e2];exact⟨_,xo c.shut n (by omega),rfl⟩
  ·simp[hf,←e1]
 ·simp[hr]
end Rm
namespace Rm
open Go Go.Proofs Cx
def fh (c:City)(a:Int)(k:Nat):List Int:=((List.range k).map fun(i:Nat)=>a+i).filter (zp c.rest c.feasts c.shut)
theorem ab8 (c:City)(a:Int)(k:Nat):fh c a (k+1)=fh c a k++if zp c.rest c.feasts c.shut (a+k) then[a+k] else[]:=by
 unfold fh;rw[PK,np,IX]
 congr 1
 cases h:zp c.rest c.feasts c.shut (a+k)<;>simp[h]
theorem ane (c:City)(a:Int){k n:Nat}(h:k≤n):∃r,fh c a n=fh c a k++r:=by
 induction n with
 |zero=>obtain rfl:k=0:=by omega
        exact⟨[],by simp⟩
 |succ n ih=>
  by_cases e:k=n+1
  ·subst e;exact⟨[],by simp⟩
  ·obtain⟨r,hr⟩:=ih (by omega);exact⟨r++_,by rw[ab8,hr,rS]⟩
def sl (d:Int):D:=.tup [.int d]
theorem anf (c:City)(a b:Int):aca [.ref (.int a),.ref (.int b),.ref (gL c)]=(fh c a (b-a+1).toNat).map sl:=by
 have hi:∀l:List Int,y3 (ints l)=l:=fun l=>by
  show(l.map D.int).map D.i=l;rw[nq];exact xz l
 show(ab9 (y3 (ints c.rest)) (y3 (ints c.feasts)) (y3 (ints c.shut)) a b).map _=_;rw[hi,hi,hi];rfl
theorem anb (c:City)(hc:Ir c)(a b:Int)(ha:0≤a)(hb:b≤100400)(qN:a≤100400):aj T 206 [.ref (.int a),.ref (.int b),.ref (gL c)] (.list ((fh c a (b-a+1).toNat).map sl)):=by
 have vO:=anf c a b;rw[←vO];obtain⟨N,hN⟩:∃N,N=(b-a+1).toNat:=⟨_,rfl⟩
 refine aj.of_it (pc:=(ab ub)) (J:=1000) (k:=1) rfl (fun x hx=>?_) (fun m hm=>?_)
 ·rw[vO] at hx;obtain⟨i,_,rfl⟩:=cu.1 hx;exact⟨_,rfl,rfl⟩
 ·rw[vO] at hm ⊢;rw[←hN] at hm ⊢;refine Pj ?_;rw[azq];simp[XP];refine aK.forLoop (α:=Nat) (fun k vr vo=>k≤N∧vr=[.int (a+k)]∧vo=[.list ((fh c a k).map sl)]∧(fh c a k).length≤m) (fun k=>N-k) 0 ?_ ?_
  ·simp[aor,fh]
  ·rintro k vr vo ⟨hk,rfl,rfl,nT⟩;by_cases af:k<N
   ·have hle:a+(k:Int)≤b:=by omega
    have iV:IntKind.i64.wrap (a+(k:Int)+1)=a+((k+1:Nat):Int):=by rw[aN (by omega)];omega
    have eE:=(awa c hc (a+k) (by omega))
    have Cp:=ab8 c a k;obtain⟨r,hr⟩:=ane c a (k:=k+1) (n:=N) af;simp[aja,NY,hle];refine⟨_,eE.yld (by decide),?_⟩;cases hi:zp c.rest c.feasts c.shut (a+k)
    ·simp[hi] at Cp ⊢;exact⟨k+1,by omega,by omega,iV,by rw[Cp],by rw[Cp];exact nT⟩
    ·simp[hi] at Cp ⊢;have hlen:(fh c a (k+1)).length=(fh c a k).length+1:=by rw[Cp];simp
     have yV:(fh c a k).map sl++[D.tup [D.int (a+k)]]=(fh c a (k+1)).map sl:=by rw[Cp,np];rfl
     have F6:(fh c a (k+1)).map sl=((fh c a N).map sl).take ((fh c a k).length+1):=by
      rw[hr,np,List.take_append_of_le_length (by simp[hlen]),xE (by simp[hlen])]
     have aZ:(fh c a k).length<((fh c a N).map sl).length:=by rw[hr];simp[hlen];omega
     rw[yV];refine⟨_,aj.answer F6 aZ nT,?_⟩;by_cases yI:(fh c a k).length<m
     ·simp[yI];exact⟨k+1,by omega,by omega,iV,rfl,by omega⟩
     ·obtain rfl:(fh c a k).length=m:=by omega
      simp;rw[F6]
   ·obtain rfl:k=N:=by omega
    have hle:¬a+(k:Int)≤b:=by omega
    simp[aja,NY,hle];rw[xE (by simp;omega)]
end Rm
namespace Rm
open Go Go.Proofs Cx
theorem ang (c:City)(a b:Int):aj T 185 [gL c,.int a,.int b] (.clo 206 [.ref (.int a),.ref (.int b),.ref (gL c)]):=by
 refine .of_tree rfl (lA 97 (by kernel_rfl)) azr ?_;simp[XO]
def nP (d:Int):Int:=if 100000<d+400 then 100000 else d+400
def ke (c:City)(d:Int):Int×Int:=
 if iN d=false then(0,3) else match fh c d (nP d-d+1).toNat with|[]=>(0,3)|x::_=>(x,0)
theorem anc {c:City}{a:Int}{k:Nat}{x:Int}(h:x∈fh c a k):a≤x∧x<a+k:=by
 unfold fh at h;obtain⟨h1,_⟩:=eu.mp h;obtain⟨i,hi,rfl⟩:=cu.mp h1;have:=fY.mp hi;omega
theorem avE {c:City}{d:Int}(h:(ke c d).2=0):iN d=true∧d≤(ke c d).1∧(ke c d).1≤100000:=by
 unfold ke at h ⊢;cases hd:iN d
 ·simp[hd] at h
 ·simp only[hd] at h ⊢;cases hk:fh c d (nP d-d+1).toNat with
  |nil=>rw[hk] at h;simp at h
  |cons x l=>
   have hm:x∈fh c d (nP d-d+1).toNat:=by rw[hk];simp
   have:=anc hm;have he:nP d≤100000:=by unfold nP;split<;>omega
   simp[iN] at hd;simp;unfold nP at*;omega
theorem ale (c:City)(hc:Ir c)(d:Int):aj T 149 [gL c,.int d] (.tup [.int (ke c d).1,.int (ke c d).2]):=by
 refine .of_tree rfl (lA 96 (by kernel_rfl)) azo ?_;simp[XM];refine⟨_,IF d,?_⟩;cases hd:iN d
 ·simp[ke,hd]
 have gQ:0≤d∧d≤100000:=by simpa [iN] using hd
 have hw:IntKind.i64.wrap (d+400)=d+400:=aN (by omega);have he:nP d≤100000:=by unfold nP;split<;>omega
 simp[hd,hw];have hE:(if 100000<d+400 then D.int 100000 else D.int (d+400))=D.int (nP d):=by unfold nP;split<;>rfl
 rw[hE];refine⟨_,ang c d (nP d),_,_,rfl,_,anb c hc d (nP d) gQ.1 (by omega) (by omega),?_⟩;cases hk:fh c d (nP d-d+1).toNat with
 |nil=>
  have hn:ke c d=(0,3):=by unfold ke;simp[hd,hk]
  rw[hn];refine aK.eachR [] (by simp) (fun _ vo=>vo=[.agg [.int 0],.agg [.int 0]]) ?_ (fun k x vo hx hi=>by simp at hx) (fun vo hi=>?_)
  ·simp
  ·subst hi;simp
 |cons x l=>
  have hn:ke c d=(x,0):=by unfold ke;simp[hd,hk]
  rw[hn];refine aK.eachR ((x::l).map sl) (by simp) (fun k vo=>k=0∧vo=[.agg [.int 0],.agg [.int 0]]) ?_ (fun k y vo hx hi=>?_) (fun vo hi=>?_)
  ·simp
  ·obtain⟨rfl,rfl⟩:=hi;simp at hx;subst hx;simp[axx,V4,sl];rfl
  ·exact absurd hi.1 (by simp)
end Rm
namespace Rm
open Go Go.Proofs Cx
def OJ (o:Int)(d:Int)(h:Halt):Int:=if(h.order=o∧h.fr≤d)∧d≤h.to then h.to+1 else d
def nf (r:Realm)(o d:Int)(k:Nat):Int:=(r.halts.take k).foldl (OJ o) d
theorem ajW (r:Realm)(o d:Int){k:Nat}(hk:k<r.halts.length):nf r o d (k+1)=OJ o (nf r o d k) r.halts[k]:=by
 unfold nf;rw[il hk,rT];rfl
def Aj (r:Realm):Prop:=r.halts.length≤100000∧∀h,h∈r.halts→0≤h.fr∧h.to≤100000
theorem Xi {r:Realm}(hh:Aj r)(o d:Int)(hd:d≤100001):∀k,k≤r.halts.length→d≤nf r o d k∧nf r o d k≤100001
 |0,_=>⟨by simp[nf],by simpa [nf] using hd⟩
 |k+1,hk=>by
  obtain⟨h1,h2⟩:=Xi hh o d hd k (by omega);rw[ajW r o d (by omega)];have:=hh.2 _ (bW (show k<r.halts.length by omega));unfold OJ;split<;>omega
def zS (r:Realm)(o:Int):Nat→Int→Int
 |0,d=>d
 |n+1,d=>if nf r o d r.halts.length=d then d else zS r o n (nf r o d r.halts.length)
def lJ (r:Realm)(o d:Int):Int:=zS r o (100002-d).toNat d
theorem ajX {r:Realm}(hh:Aj r)(o:Int):∀(n:Nat) (d:Int),d≤100001→d≤zS r o n d∧zS r o n d≤100001
 |0,d,hd=>⟨Am _,hd⟩
 |n+1,d,hd=>by
  obtain⟨h1,h2⟩:=Xi hh o d hd r.halts.length (bn _);unfold zS;split
  ·omega
  ·have:=ajX hh o n _ h2;omega
theorem ays (r:Realm)(hh:Aj r)(o d:Int)(h0:0≤d)(hd:d≤100001):aj T 148 [aT r,.int o,.int d] (.int (lJ r o d)):=by
 refine .of_tree rfl (lA 95 (by kernel_rfl)) aBm ?_;simp[ZM];refine aK.forLoop (α:=Int×Bool×Nat) (fun s vr vo=>vr=[.int s.1,.bool s.2.1]∧vo=[]∧d≤s.1∧s.1≤100001∧(s.2.1=true→(100002-s.1).toNat≤s.2.2)∧(s.2.1=true→zS r o s.2.2 s.1=lJ r o d)∧(s.2.1=false→s.1=lJ r o d)) (fun s=>2*(100001-s.1).toNat+(if s.2.1 then 1 else 0)) (d,true,(100002-d).toNat) ?_ ?_
 ·simp;exact⟨by omega,rfl⟩
 ·rintro⟨e,ch,n⟩ vr vo ⟨rfl,rfl,h1,h2,h3,h4,h5⟩;simp only at*;cases ch
  ·simp[aju,Oo];exact h5 rfl
  ·have h3:=h3 rfl;have h4:=h4 rfl;obtain⟨n,rfl⟩:∃m,n=m+1:=⟨n-1,by omega⟩
   have cf:=Xi hh o e h2;simp[aju,Oo];refine aK.forRounds r.halts.length (fun k=>[.int (nf r o e k),.bool (decide (e<nf r o e k)),.int k]) (fun _=>[]) ?_ (fun k hk=>?_) ?_
   ·simp[nf]
   ·have hw:=bu hk (by have:=hh.1;omega);have cB:=cf k (by omega);have yU:=hh.2 _ (bW hk);rw[ajW r o e hk];unfold OJ;generalize nf r o e k=x at*;by_cases hc:(r.halts[k].order=o∧r.halts[k].fr≤x)∧x≤r.halts[k].to
    ·have cQ:IntKind.i64.wrap (r.halts[k].to+1)=r.halts[k].to+1:=aN (by omega);simp[On,Dk,hk,hw,hc,cQ];omega
    ·simp[On,Dk,hk,hw,hc]
   ·have hE:=cf r.halts.length (bn _);unfold zS at h4;generalize nf r o e r.halts.length=x at*;by_cases hx:x=e
    ·rw[if_pos hx] at h4;subst hx;simp[On,Dk];exact⟨x,by omega,rfl,h1,h2,h4⟩
    ·rw[if_neg hx] at h4;have af:e<x:=by omega
     simp[On,Dk,af];exact⟨x,by omega,rfl,by omega,by omega,n,by omega,h4⟩
def zQ (r:Realm)(c:City)(o:Int):Nat→Int→Int×Int
 |0,d=>(d,0)
 |n+1,d=>
  if(ke c (lJ r o d)).2≠0 then(0,3)
  else if(ke c (lJ r o d)).1=lJ r o d then(lJ r o d,0)
  else zQ r c o n (ke c (lJ r o d)).1
theorem aym (r:Realm)(c:City)(o:Int)(n:Nat)(d:Int):zQ r c o (n+1) d=
 if(ke c (lJ r o d)).2≠0 then(0,3)
 else if(ke c (lJ r o d)).1=lJ r o d then(lJ r o d,0)
 else zQ r c o n (ke c (lJ r o d)).1:=rfl
def rH (r:Realm)(city d:Int):Int×Int:=zQ r (r.cities.getD city.toNat default) (gX r city) (100002-d).toNat d
theorem ajT (r:Realm)(hh:Aj r)(city d:Int)(hc:0≤city∧city<r.cities.length)(hs:∀c,c∈r.cities→Ir c)(h0:0≤d)(hd:d≤100001):aj T 108 [aT r,.int city,.int d] (.tup [.int (rH r city d).1,.int (rH r city d).2]):=by
 refine .of_tree rfl (lA 94 (by kernel_rfl)) aBl ?_;simp[ZL];refine⟨_,rD r city,?_⟩;have aZ:city.toNat<r.cities.length:=by omega
 have hcg:r.cities.getD city.toNat default=r.cities[city.toNat]:=by simp[aZ]
 have hsc:=hs _ (bW aZ);have hF:rH r city d=zQ r r.cities[city.toNat] (gX r city) (100002-d).toNat d:=by unfold rH;rw[hcg]
 rw[hF];refine aK.forLoop (α:=Int×Nat) (fun s vr vo=>(∃a b,vr=[.int s.1,a,b])∧vo=[]∧0≤s.1∧s.1≤100001∧(100002-s.1).toNat≤s.2∧zQ r r.cities[city.toNat] (gX r city) s.2 s.1=zQ r r.cities[city.toNat] (gX r city) (100002-d).toNat d) (fun s=>s.2) (d,(100002-d).toNat) ?_ ?_
 ·simp;omega
 ·rintro⟨e,n⟩ vr vo ⟨⟨a,b,rfl⟩,rfl,h1,h2,h3,h4⟩;simp only at*;obtain⟨n,rfl⟩:∃m,n=m+1:=⟨n-1,by omega⟩
  rw[←h4];have Mc:=ajX hh (gX r city) (100002-e).toNat e h2;have hsr:=ays r hh (gX r city) e h1 h2;rw[aym];change e≤lJ r (gX r city) e∧lJ r (gX r city) e≤100001 at Mc;generalize lJ r (gX r city) e=x at*;have SU:=ale r.cities[city.toNat] hsc x;have sH:=avE (c:=r.cities[city.toNat]) (d:=x);generalize ke r.cities[city.toNat] x=N at*;obtain⟨y,er⟩:=N;simp only at SU sH;simp[axC,WR];refine⟨_,hsr,?_⟩;simp[aZ,hc];refine⟨_,SU,?_⟩;by_cases he:er=0
  ·obtain⟨g1,g2,g3⟩:=sH he;by_cases hy:y=x
   ·simp[he,hy]
   ·simp[he,hy];exact⟨y,n,by omega,rfl,by omega,by omega,by omega,rfl⟩
  ·simp[he]
end Rm
namespace Rm
open Go Go.Proofs Cx
structure RightD (r:Realm):Prop where
 small:Small r
 halts:Aj r
theorem RightD.cities {r:Realm}(h:RightD r)(c:City)(hc:c∈r.cities):Ir c:=by
 obtain⟨h1,h2,h3,_⟩:=h.small.city c hc;exact⟨by omega,by omega,by omega⟩
theorem abn (d:Int)(t:Tenor):∃n e:Int,aj T 146 [.int d,uh t] (.tup [.int n,.int e]):=by
 by_cases h0:t.n<0
 ·refine⟨0,3,.of_tree rfl Ji Pg ?_⟩;simp[DC,h0]
 by_cases h1:20000<t.n
 ·refine⟨0,3,.of_tree rfl Ji Pg ?_⟩;simp[DC,h0,h1]
 by_cases h2:t.unit=1
 ·obtain⟨n,e,h,_⟩:=akJ d t.n;refine⟨n,e,.of_tree rfl Ji Pg ?_⟩;simp[DC,h0,h1,h2];refine⟨_,h,?_⟩;simp
 ·refine⟨IntKind.i64.wrap (d+t.n),0,.of_tree rfl Ji Pg ?_⟩;simp[DC,h0,h1,h2]
theorem al4 (r:Realm)(hr:RightD r)(b:Bill)(seen:Int):∃n e:Int,aj T 107 [aT r,eA b,.int seen] (.tup [.int n,.int e]):=by
 have htn:D.agg [D.int b.tenor.kind,D.int b.tenor.n,D.int b.tenor.unit]=uh b.tenor:=rfl;by_cases h0:b.tenor.kind=0
 ·refine⟨seen,0,.of_tree rfl AB DD ?_⟩;simp[w6,h0]
 by_cases h1:b.tenor.kind=1
 ·obtain⟨n,e,h⟩:=abn seen b.tenor;refine⟨n,e,.of_tree rfl AB DD ?_⟩;have cJ:(b.tenor.kind=1)=True:=eq_true h1;simp[w6,h0,cJ];refine⟨_,h,?_⟩;simp
 by_cases h2:b.tenor.kind=2
 ·obtain⟨n,e,h⟩:=abn b.day b.tenor;refine⟨n,e,.of_tree rfl AB DD ?_⟩;have iP:(b.tenor.kind=2)=True:=eq_true h2;simp[w6,h0,h1,iP];refine⟨_,h,?_⟩;simp
 by_cases h4:b.tenor.kind=4
 ·obtain⟨n,e,h,_⟩:=alp r b.city b.pay (by have:=hr.small.us;omega);refine⟨IntKind.i64.wrap (b.day+n),e,.of_tree rfl AB DD ?_⟩;have qM:(b.tenor.kind=4)=True:=eq_true h4;simp[w6,h0,h1,h2,qM];refine⟨_,h,?_⟩;simp
 ·refine⟨b.tenor.n,0,.of_tree rfl AB DD ?_⟩;simp[w6,h0,h1,h2,h4]
theorem aj.ex_of_tree {tab:Nat→Option PC}{ext:Nat→Option (aW→List D→Option D)}{f:Nat}{pc:PC}{t:PT}{ds:List D}{P:D→Prop}(hx:ext f=none)(ht:tab f=some pc)(he:tree pc=t)
 (h:aH (eL tab ext) t (oV ds) (fun x=>∃d,x=.ret d∧P d)):∃d,aj (eL tab ext) f ds d∧P d:=by
 subst he;obtain⟨x,⟨d,rfl,hd⟩,n0,hn⟩:=akk (Nj ⟨fun _ _ _ h=>(by obtain⟨_,h,_⟩:=h;cases h),fun _ _ _ _ _ _ h=>(by obtain⟨_,h,_⟩:=h;cases h),fun _ h=>h⟩ h);exact⟨d,.of_pc hx ht ⟨.ret d,rfl,n0,hn⟩,hd⟩
def I7 (d:D):Prop:=∃n e:Int,d=.tup [.int n,.int e]
@[simp] theorem aEw (n e:Int):I7 (.tup [.int n,.int e])=True:=eq_true ⟨n,e,rfl⟩
theorem Ag (r:Realm)(hr:RightD r)(b:Bill)(seen ji:Int):∃d,aj T 65 [aT r,eA b,.int seen,.int ji] d∧I7 d:=by
 have htn:D.agg [D.int b.tenor.kind,D.int b.tenor.n,D.int b.tenor.unit]=uh b.tenor:=rfl;have lb:=WY r hr.small;refine aj.ex_of_tree rfl abB akh ?_;simp[Pf];refine⟨_,lb,?_⟩;by_cases h0:jf r=0
 case neg=>simp[h0]
 simp[h0];refine⟨_,Ml r b.city,?_⟩;cases h1:aE b.city r.cities.length
 ·simp[h1]
 simp[h1];refine⟨_,Ml r b.pay,?_⟩;cases h2:aE b.pay r.cities.length
 ·simp[h2]
 simp[h2];refine⟨_,Gk b.day,?_⟩;cases h3:iN b.day
 ·simp[h3]
 simp[h3];intro _ _ _ _;have hp:0≤b.pay∧b.pay<r.cities.length:=by simpa [aE] using h2
 have fin:0≤ji→ji≤20000→∃d,aj T 107 [aT r,eA b,D.int seen] d∧
  if(d.tget 1).i=0 then ∃d1,aj T 105 [d.tget 0] d1∧(d1.b=true→IntKind.i64.wrap ((d.tget 0).i+ji)≤100000→
        ∃d2,aj T 108 [aT r,D.int b.pay,D.int (IntKind.i64.wrap ((d.tget 0).i+ji))] d2∧I7 (D.tup [d2.tget 0,d2.tget 1]))
  else I7 (D.tup [D.int 0,d.tget 1]):=by
  intro Cb jo;obtain⟨n,e,h⟩:=al4 r hr b seen;refine⟨_,h,?_⟩;by_cases he:e=0
  ·simp[he];refine⟨_,Gk n,?_⟩;cases hd:iN n
   ·simp[hd]
   have gQ:0≤n∧n≤100000:=by simpa [iN] using hd
   have hw:IntKind.i64.wrap (n+ji)=n+ji:=aN (by omega);simp[hd,hw];intro hle;refine⟨_,ajT r hr.halts b.pay (n+ji) hp hr.cities (by omega) (by omega),?_⟩;simp
  ·simp[he]
 by_cases hs:seen=-1
 ·simp[hs] at fin ⊢;intro Cb jo;refine⟨_,P0 b.tenor,?_⟩;simp;intro _;exact fin Cb jo
 ·simp[hs] at fin ⊢;refine⟨_,Gk seen,?_⟩;cases hk:iN seen
  ·simp[hk]
  simp[hk];intro Cb jo;exact⟨⟨_,P0 b.tenor⟩,fin Cb jo⟩
def sd (r:Realm)(b:Bill)(seen ji:Int):Int×Int:=
 open Classical in if h:RightD r then((Ag r h b seen ji).choose_spec.2.choose,(Ag r h b seen ji).choose_spec.2.choose_spec.choose) else(0,0)
theorem aaM (r:Realm)(hr:RightD r)(b:Bill)(seen ji:Int):aj T 65 [aT r,eA b,.int seen,.int ji] (.tup [.int (sd r b seen ji).1,.int (sd r b seen ji).2]):=by
 have h:=(Ag r hr b seen ji).choose_spec.2.choose_spec.choose_spec;have h1:=(Ag r hr b seen ji).choose_spec.1;rw[h] at h1;have e:sd r b seen ji=((Ag r hr b seen ji).choose_spec.2.choose,(Ag r hr b seen ji).choose_spec.2.choose_spec.choose):=by unfold sd;rw[dif_pos hr]
 rw[e];exact h1
def lz (r:Realm)(forum:Int)(f:File)(day:Int):Int:=
 if(cH f day).signs=[] then-1
 else if(sd r f.bill (tp (cH f day)) (max (rh (nv r forum 6 (cH f day) day)) 0)).2≠0 then-1
 else(sd r f.bill (tp (cH f day)) (max (rh (nv r forum 6 (cH f day) day)) 0)).1
@[simp] theorem aIE (x:File)(a0 a1 a2 a3 a4 a5 a6 a7 a8 a9 qm qn a12 qo qp tS tT a17 tV:D):(dK [a0,a1,a2,a3,a4,a5,a6,a7,a8,a9,qm,qn,a12,qo,qp,tS,tT,a17,tV] 0 [.int x.bill.drawer,.int x.bill.drawee,.int x.bill.payee,.int x.bill.sum,.int x.bill.currency,.int x.bill.tenor.kind,.int x.bill.tenor.n,.int x.bill.tenor.unit,.int x.bill.day,.int x.bill.city,.int x.bill.pay,.int x.bill.need,.int x.bill.rate,.int x.bill.flags,.int x.bill.parts,signs x.signs,alters x.alters,acts x.acts,facts x.facts])[15]?.getD D.none=signs x.signs:=_root_.id rfl
theorem aa6 (r:Realm)(hr:Right r)(hd:RightD r)(forum:Int)(f:File)(day:Int)(hf:FewS f):aj T 30 [aT r,.int forum,cg f,.int day] (.int (lz r forum f day)):=by
 refine .of_tree rfl (lA 61 (by kernel_rfl)) ay6 ?_;simp[Xw];refine⟨_,WZ f day (by have:=hf.signs;omega) (by have:=hf.acts;omega) (by have:=hf.alters;omega) (by have:=hf.facts;omega),?_⟩;have hg:=hf.at_ day;have hb:(cH f day).bill=f.bill:=rfl;unfold lz;generalize cH f day=g at*;simp;by_cases h0:g.signs=[]
 ·simp[h0]
 simp[h0];refine⟨_,abu r hr forum 6 g day hg,_,alJ _,_,axL g (by have:=hg.signs;omega) (by have:=hg.acts;omega),?_⟩;have hm:(if(D.int (rh (nv r forum 6 g day))).i<0 then D.int 0 else D.int (rh (nv r forum 6 g day)))=D.int (max (rh (nv r forum 6 g day)) 0):=by
  simp only[anr];split
  ·rw[Int.max_eq_right (by omega)]
  ·rw[Int.max_eq_left (by omega)]
 rw[hm,hb];refine⟨_,aaM r hd f.bill _ _,?_⟩;by_cases he:(sd r f.bill (tp g) (max (rh (nv r forum 6 g day)) 0)).2=0<;>simp[he]
end Rm
namespace Rm
open Go Go.Proofs Cx
theorem avn (y:Nat)(h:y<18446744073709551616):aj T 150 [u y] (.int ((64-wh y:Nat):Int)):=by
 refine .of_tree rfl (lA 114 (by kernel_rfl)) azk ?_;have hb:=(afg h).2.2.2;have hw:IntKind.i64.wrap (64-(wh y:Nat))=((64-wh y:Nat):Int):=by rw[aN (by omega)];omega
 simp[XI];refine⟨_,atP y h,?_⟩;simp[hw]
set_option maxHeartbeats 4000000 in
theorem K4 (hi lo y:Nat)(hy:0<y)(vD:hi<y)(mH:lo<18446744073709551616)(uJ:y<18446744073709551616):
 aj T 110 [u hi,u lo,u y] (.tup [u ((hi*18446744073709551616+lo)/y),u ((hi*18446744073709551616+lo)%y)]):=by
 refine .of_tree rfl (lA 113 (by kernel_rfl)) azj ?_;have c1:¬y=0:=by omega
 have c2:¬y≤hi:=by omega
 by_cases c3:hi=0
 ·subst c3;have hq:IntKind.u64.wrap ((lo:Int)/(y:Int))=((lo/y:Nat):Int):=by
   rw[←Int.natCast_ediv];exact fu (xH (jX ..) mH)
  have hr:((lo:Int).tmod (y:Int))=((lo%y:Nat):Int):=(Int.ofNat_tmod lo y).symm;simp[O6,c1,c2,hq,hr,-Int.natCast_emod]
 ·have hb:=afg uJ;obtain⟨L,hL⟩:∃L,L=wh y:=⟨_,rfl⟩
  have vH:=avn y uJ;rw[←hL] at hb vH;have Lt:0<L:=by
   rcases DT L with h|h
   ·have:=hb.1 h;omega
   ·exact h
  have hLs:=hb.2.2.2;obtain⟨s,hs⟩:∃s,s=64-L:=⟨_,rfl⟩
  obtain⟨s',dZ⟩:∃s',s'=L:=⟨_,rfl⟩
  rw[←hs] at vH;have F1:2^s'*2^s=18446744073709551616:=by rw[←PU,show s'+s=64 by omega]
  have aes:2^(L-1)*2^s=9223372036854775808:=by rw[←PU,show L-1+s=63 by omega]
  have aL:y*2^s<18446744073709551616:=by rw[←F1];exact Nat.mul_lt_mul_of_pos_right (by rw[dZ];exact hb.2.2.1) (xK s)
  have gq:9223372036854775808≤y*2^s:=by rw[←aes];exact ff _ (hb.2.1 Lt)
  have ws:IntKind.u64.wrap (s:Int)=s:=fu (by omega);have nA:bX .shl .u64 (y:Int) (s:Int)=((y*2^s:Nat):Int):=by rw[Xe y s (by omega),DW aL]
  have ad3:lo/2^s'<2^s:=by rw[xG (xK s'),xI,F1];exact mH
  have vK:0<2^s:=xK s;have art:hi*2^s+2^s≤y*2^s:=by rw[←Nat.succ_mul];exact ff _ vD
  have nD:bX .shl .u64 (hi:Int) (s:Int)=((hi*2^s:Nat):Int):=by rw[Xe hi s (by omega),DW (by omega)]
  have nE:IntKind.u64.wrap (64-(s:Int))=s':=by rw[km (by omega)];omega
  have nF:bX .shr .u64 (lo:Int) (s':Int)=((lo/2^s':Nat):Int):=Iq lo s' (by omega);have nG:bX .or .u64 ((hi*2^s:Nat):Int) ((lo/2^s':Nat):Int)=((hi*2^s+lo/2^s':Nat):Int):=awd _ _ s (by omega) ad3 (Nat.mul_mod_left ..) (by omega);have nH:bX .shl .u64 (lo:Int) (s:Int)=((lo*2^s%18446744073709551616:Nat):Int):=Xe lo s (by omega);have law:((hi*2^s+lo/2^s')*18446744073709551616+lo*2^s%18446744073709551616)/(y*2^s)=(hi*18446744073709551616+lo)/y:=by
   have h1:lo*2^s/18446744073709551616=lo/2^s':=by rw[←F1];exact abc _ _ (xK s)
   have h2:=As (lo*2^s) 18446744073709551616;rw[h1] at h2;have h3:(hi*2^s+lo/2^s')*18446744073709551616+lo*2^s%18446744073709551616=(hi*18446744073709551616+lo)*2^s:=by
        rw[gI,gI,xJ hi];omega
   rw[h3];exact abc _ _ (xK s)
  have afk:((hi*2^s+lo/2^s')*18446744073709551616+lo*2^s%18446744073709551616)%(y*2^s)/2^s=(hi*18446744073709551616+lo)%y:=by
   have h1:lo*2^s/18446744073709551616=lo/2^s':=by rw[←F1];exact abc _ _ (xK s)
   have h2:=As (lo*2^s) 18446744073709551616;rw[h1] at h2;have h3:(hi*2^s+lo/2^s')*18446744073709551616+lo*2^s%18446744073709551616=(hi*18446744073709551616+lo)*2^s:=by
        rw[gI,gI,xJ hi];omega
   rw[h3,Nat.mul_mod_mul_right];exact Nat.mul_div_cancel _ (xK s)
  have hu:hi*2^s+lo/2^s'<y*2^s:=by omega
  have lW:lo*2^s%18446744073709551616<18446744073709551616:=nr _ (by decide);clear hb F1 aes ad3 art hL;rw[←law,←afk];clear law afk;generalize y*2^s=v at*;generalize hi*2^s+lo/2^s'=u32 at*;generalize lo*2^s%18446744073709551616=un at*;have nB:bX .shr .u64 (v:Int) 32=((v/4294967296:Nat):Int):=dE v;have nC:bX .and .u64 (v:Int) 4294967295=((v%4294967296:Nat):Int):=D3 v aL;have nI:bX .shr .u64 (un:Int) 32=((un/4294967296:Nat):Int):=dE un;have nJ:bX .and .u64 (un:Int) 4294967295=((un%4294967296:Nat):Int):=D3 un lW;have hv:v=v/4294967296*4294967296+v%4294967296:=by omega
  have hn:un=un/4294967296*4294967296+un%4294967296:=by omega
  have aeF:2147483648≤v/4294967296:=by omega
  have aeG:v/4294967296<4294967296:=by omega
  have eT:v%4294967296<4294967296:=by omega
  have kC:un/4294967296<4294967296:=by omega
  have SM:un%4294967296<4294967296:=by omega
  generalize v/4294967296=v1 at*;generalize v%4294967296=v0 at*;generalize un/4294967296=n1 at*;generalize un%4294967296=n0 at*;have gd:¬v1=0:=by omega
  have nK:IntKind.u64.wrap ((u32:Int)/(v1:Int))=((u32/v1:Nat):Int):=by
   rw[←Int.natCast_ediv];exact fu (xH (jX ..) (by omega))
  have L7:u32/v1*v1+u32%v1=u32:=DS u32 v1;have nL:IntKind.u64.wrap (((u32/v1:Nat):Int)*(v1:Int))=((u32/v1*v1:Nat):Int):=by
   rw[←Int.natCast_mul];exact fu (by omega)
  have nM:IntKind.u64.wrap ((u32:Int)-((u32/v1*v1:Nat):Int))=((u32%v1:Nat):Int):=by
   rw[km (by omega)];omega
  simp[O6,c1,c2,c3,-dE,-Int.natCast_add,-Int.natCast_mul,-Int.natCast_ediv,-Int.natCast_emod];refine⟨_,vH,?_⟩;simp[-dE,-Int.natCast_add,-Int.natCast_mul,-Int.natCast_ediv,-Int.natCast_emod,ws,nA,nB,nC,nD,nE,nF,nG,nH,nI,nJ,gd,nK,nL,nM];refine atX _ (u32/v1) (u32%v1) v1 v0 u32 n1 eT aeF aeG kC (by omega) rfl rfl (by simp[-dE,-Int.natCast_add,-Int.natCast_mul,-Int.natCast_ediv,-Int.natCast_emod,ws,nA,nB,nC,nD,nE,nF,nG,nH,nI,nJ,gd,nK,nL,nM]) (by simp[-dE,-Int.natCast_add,-Int.natCast_mul,-Int.natCast_ediv,-Int.natCast_emod,ws,nA,nB,nC,nD,nE,nF,nG,nH,nI,nJ,gd,nK,nL,nM]) (by simp[-dE,-Int.natCast_add,-Int.natCast_mul,-Int.natCast_ediv,-Int.natCast_emod,ws,nA,nB,nC,nD,nE,nF,nG,nH,nI,nJ,gd,nK,nL,nM]) (by simp[-dE,-Int.natCast_add,-Int.natCast_mul,-Int.natCast_ediv,-Int.natCast_emod,ws,nA,nB,nC,nD,nE,nF,nG,nH,nI,nJ,gd,nK,nL,nM]) (by simp[-dE,-Int.natCast_add,-Int.natCast_mul,-Int.natCast_ediv,-Int.natCast_emod,ws,nA,nB,nC,nD,nE,nF,nG,nH,nI,nJ,gd,nK,nL,nM]) _ _ fun ρ hq hk=>?_;have k2:ρ.r 2=u v:=by rw[hk 2 (by simp)];simp[-dE,-Int.natCast_add,-Int.natCast_mul,-Int.natCast_ediv,-Int.natCast_emod,ws,nA,nB,nC,nD,nE,nF,nG,nH,nI,nJ,gd,nK,nL,nM]
  have k8:ρ.r 8=u s:=by rw[hk 8 (by simp)];simp[-dE,-Int.natCast_add,-Int.natCast_mul,-Int.natCast_ediv,-Int.natCast_emod,ws,nA,nB,nC,nD,nE,nF,nG,nH,nI,nJ,gd,nK,nL,nM]
  have k9:ρ.r 9=u v1:=by rw[hk 9 (by simp)];simp[-dE,-Int.natCast_add,-Int.natCast_mul,-Int.natCast_ediv,-Int.natCast_emod,ws,nA,nB,nC,nD,nE,nF,nG,nH,nI,nJ,gd,nK,nL,nM]
  have sS:ρ.r 10=u v0:=by rw[hk 10 (by simp)];simp[-dE,-Int.natCast_add,-Int.natCast_mul,-Int.natCast_ediv,-Int.natCast_emod,ws,nA,nB,nC,nD,nE,nF,nG,nH,nI,nJ,gd,nK,nL,nM]
  have q8:ρ.r 11=u u32:=by rw[hk 11 (by simp)];simp[-dE,-Int.natCast_add,-Int.natCast_mul,-Int.natCast_ediv,-Int.natCast_emod,ws,nA,nB,nC,nD,nE,nF,nG,nH,nI,nJ,gd,nK,nL,nM]
  have q9:ρ.r 13=u n1:=by rw[hk 13 (by simp)];simp[-dE,-Int.natCast_add,-Int.natCast_mul,-Int.natCast_ediv,-Int.natCast_emod,ws,nA,nB,nC,nD,nE,nF,nG,nH,nI,nJ,gd,nK,nL,nM]
  have sT:ρ.r 14=u n0:=by rw[hk 14 (by simp)];simp[-dE,-Int.natCast_add,-Int.natCast_mul,-Int.natCast_ediv,-Int.natCast_emod,ws,nA,nB,nC,nD,nE,nF,nG,nH,nI,nJ,gd,nK,nL,nM]
  clear hk;rw[←hv] at hq;obtain⟨q1,yL⟩:∃q1,q1=(u32*4294967296+n1)/v:=⟨_,rfl⟩
  obtain⟨R,hR⟩:∃R,R=(u32*4294967296+n1)%v:=⟨_,rfl⟩
  rw[←yL] at hq;have F9:0<v:=by omega
  have aG6:R<v:=by rw[hR];exact nr _ F9
  have hqR:q1*v+R=u32*4294967296+n1:=by rw[yL,hR];exact DS _ v
  have aHE:q1<4294967296:=by rw[yL,xG F9];omega
  have qE:IntKind.u64.wrap (IntKind.u64.wrap (IntKind.u64.wrap ((u32:Int)*4294967296)+(n1:Int))-IntKind.u64.wrap ((q1:Int)*(v:Int)))=(R:Int):=by
   have h1:(q1:Int)*(v:Int)+(R:Int)=(u32:Int)*4294967296+n1:=by rw[←Int.natCast_mul];omega
   simp only[xl];generalize (q1:Int)*(v:Int)=M at*;omega
  have qF:IntKind.u64.wrap ((R:Int)/(v1:Int))=((R/v1:Nat):Int):=by
   rw[←Int.natCast_ediv];exact fu (xH (jX ..) (by omega))
  have aHI:R/v1*v1+R%v1=R:=DS R v1;have qC:IntKind.u64.wrap (((R/v1:Nat):Int)*(v1:Int))=((R/v1*v1:Nat):Int):=by
   rw[←Int.natCast_mul];exact fu (by omega)
  have qD:IntKind.u64.wrap ((R:Int)-((R/v1*v1:Nat):Int))=((R%v1:Nat):Int):=by
   rw[km (by omega)];omega
  simp[-dE,-Int.natCast_add,-Int.natCast_mul,-Int.natCast_ediv,-Int.natCast_emod,k2,k9,q8,q9,hq,gd,qE,qF,qC,qD];refine atY _ (R/v1) (R%v1) v1 v0 R n0 eT aeF aeG SM (by omega) rfl rfl (by simp[-dE,-Int.natCast_add,-Int.natCast_mul,-Int.natCast_ediv,-Int.natCast_emod,k2,k8,k9,sS,q8,q9,sT,hq,gd,qE,qF,qC,qD]) (by simp[-dE,-Int.natCast_add,-Int.natCast_mul,-Int.natCast_ediv,-Int.natCast_emod,k2,k8,k9,sS,q8,q9,sT,hq,gd,qE,qF,qC,qD]) (by simp[-dE,-Int.natCast_add,-Int.natCast_mul,-Int.natCast_ediv,-Int.natCast_emod,k2,k8,k9,sS,q8,q9,sT,hq,gd,qE,qF,qC,qD]) (by simp[-dE,-Int.natCast_add,-Int.natCast_mul,-Int.natCast_ediv,-Int.natCast_emod,k2,k8,k9,sS,q8,q9,sT,hq,gd,qE,qF,qC,qD]) (by simp[-dE,-Int.natCast_add,-Int.natCast_mul,-Int.natCast_ediv,-Int.natCast_emod,k2,k8,k9,sS,q8,q9,sT,hq,gd,qE,qF,qC,qD]) _ _ fun σ fO hk=>?_;have j15:σ.r 15=u q1:=by rw[hk 15 (by simp)];simp[-dE,-Int.natCast_add,-Int.natCast_mul,-Int.natCast_ediv,-Int.natCast_emod,k2,k8,k9,sS,q8,q9,sT,hq,gd,qE,qF,qC,qD]
  have j8:σ.r 8=u s:=by rw[hk 8 (by simp)];simp[-dE,-Int.natCast_add,-Int.natCast_mul,-Int.natCast_ediv,-Int.natCast_emod,k2,k8,k9,sS,q8,q9,sT,hq,gd,qE,qF,qC,qD]
  have j17:σ.r 17=u R:=by rw[hk 17 (by simp)];simp[-dE,-Int.natCast_add,-Int.natCast_mul,-Int.natCast_ediv,-Int.natCast_emod,k2,k8,k9,sS,q8,q9,sT,hq,gd,qE,qF,qC,qD]
  have j14:σ.r 14=u n0:=by rw[hk 14 (by simp)];simp[-dE,-Int.natCast_add,-Int.natCast_mul,-Int.natCast_ediv,-Int.natCast_emod,k2,k8,k9,sS,q8,q9,sT,hq,gd,qE,qF,qC,qD]
  have j2:σ.r 2=u v:=by rw[hk 2 (by simp)];simp[-dE,-Int.natCast_add,-Int.natCast_mul,-Int.natCast_ediv,-Int.natCast_emod,k2,k8,k9,sS,q8,q9,sT,hq,gd,qE,qF,qC,qD]
  rw[←hv] at fO;clear hk;obtain⟨q0,sK⟩:∃q0,q0=(R*4294967296+n0)/v:=⟨_,rfl⟩
  rw[←sK] at fO;have aHD:q0<4294967296:=by rw[sK,xG F9];omega
  have w1:IntKind.u64.wrap (IntKind.u64.wrap ((q1:Int)*4294967296)+(q0:Int))=((q1*4294967296+q0:Nat):Int):=by
   rw[km (n:=(q1:Int)*4294967296) (by omega),km (by omega)];omega
  have fin:(u32*18446744073709551616+un)/v=q1*4294967296+q0:=by
   have h1:u32*18446744073709551616+un=R*4294967296+n0+v*(q1*4294967296):=by
        have:v*(q1*4294967296)=(q1*v)*4294967296:=by rw[←tM,xI v q1]
        omega
   rw[h1,Nat.add_mul_div_left _ _ F9,←sK];omega
  obtain⟨R2,R0⟩:∃R2,R2=(R*4294967296+n0)%v:=⟨_,rfl⟩
  have aHG:q0*v+R2=R*4294967296+n0:=by rw[sK,R0];exact DS _ v
  have aG5:R2<v:=by rw[R0];exact nr _ F9
  have aoB:(u32*18446744073709551616+un)%v=R2:=by
   have h1:u32*18446744073709551616+un=R*4294967296+n0+v*(q1*4294967296):=by
        have:v*(q1*4294967296)=(q1*v)*4294967296:=by rw[←tM,xI v q1]
        omega
   rw[h1,Nat.add_mul_mod_self_left,←R0]
  have w2:IntKind.u64.wrap (IntKind.u64.wrap (IntKind.u64.wrap ((R:Int)*4294967296)+(n0:Int))-IntKind.u64.wrap ((q0:Int)*(v:Int)))=(R2:Int):=by
   have h1:(q0:Int)*(v:Int)+(R2:Int)=(R:Int)*4294967296+n0:=by rw[←Int.natCast_mul];omega
   simp only[xl];generalize (q0:Int)*(v:Int)=M at*;omega
  have w3:bX .shr .u64 (R2:Int) (s:Int)=((R2/2^s:Nat):Int):=Iq R2 s (by omega);rw[fin,aoB];simp[j8,j15,j17,j14,j2,fO,w1,w2,w3,-Int.natCast_add,-Int.natCast_mul,-Int.natCast_ediv,-dE]
end Rm
namespace Rm
open Go Go.Proofs Cx
structure View where
 realm:Realm
 forum:Int
 day:Int
 file:File
 form:Int
 due:Int
 deriving Inhabited
def dF (x:View):D:=.agg [strs x.realm.currencies,oT x.realm.cities,groups x.realm.groups,firms x.realm.firms,orders x.realm.orders,usances x.realm.usances,rates x.realm.rates,halts x.realm.halts,.int x.forum,.int x.day,.int x.file.bill.drawer,.int x.file.bill.drawee,.int x.file.bill.payee,.int x.file.bill.sum,.int x.file.bill.currency,.int x.file.bill.tenor.kind,.int x.file.bill.tenor.n,.int x.file.bill.tenor.unit,.int x.file.bill.day,.int x.file.bill.city,.int x.file.bill.pay,.int x.file.bill.need,.int x.file.bill.rate,.int x.file.bill.flags,.int x.file.bill.parts,signs x.file.signs,alters x.file.alters,acts x.file.acts,facts x.file.facts,.int x.form,.int x.due]
@[simp] theorem aEY (x:View):(dF x).cells=[strs x.realm.currencies,oT x.realm.cities,groups x.realm.groups,firms x.realm.firms,orders x.realm.orders,usances x.realm.usances,rates x.realm.rates,halts x.realm.halts,.int x.forum,.int x.day,.int x.file.bill.drawer,.int x.file.bill.drawee,.int x.file.bill.payee,.int x.file.bill.sum,.int x.file.bill.currency,.int x.file.bill.tenor.kind,.int x.file.bill.tenor.n,.int x.file.bill.tenor.unit,.int x.file.bill.day,.int x.file.bill.city,.int x.file.bill.pay,.int x.file.bill.need,.int x.file.bill.rate,.int x.file.bill.flags,.int x.file.bill.parts,signs x.file.signs,alters x.file.alters,acts x.file.acts,facts x.file.facts,.int x.form,.int x.due]:=_root_.id rfl
@[simp] theorem aIw (x:View):D.agg [strs x.realm.currencies,oT x.realm.cities,groups x.realm.groups,firms x.realm.firms,orders x.realm.orders,usances x.realm.usances,rates x.realm.rates,halts x.realm.halts,.int x.forum,.int x.day,.int x.file.bill.drawer,.int x.file.bill.drawee,.int x.file.bill.payee,.int x.file.bill.sum,.int x.file.bill.currency,.int x.file.bill.tenor.kind,.int x.file.bill.tenor.n,.int x.file.bill.tenor.unit,.int x.file.bill.day,.int x.file.bill.city,.int x.file.bill.pay,.int x.file.bill.need,.int x.file.bill.rate,.int x.file.bill.flags,.int x.file.bill.parts,signs x.file.signs,alters x.file.alters,acts x.file.acts,facts x.file.facts,.int x.form,.int x.due]=dF x:=_root_.id rfl
@[simp] theorem aFe (x:View):jZ 31 (dF x)=dF x:=_root_.id rfl
@[simp] theorem aIG (x:View)(a0 a1 a2 a3 a4 a5 a6 a7 a8 a9 qm qn a12 qo qp tS tT a17 tV P3 a20 a21 a22 a23 a24 a25 a26 a27 a28 a29 a30:D):D.agg (dK [a0,a1,a2,a3,a4,a5,a6,a7,a8,a9,qm,qn,a12,qo,qp,tS,tT,a17,tV,P3,a20,a21,a22,a23,a24,a25,a26,a27,a28,a29,a30] 0 [strs x.realm.currencies,oT x.realm.cities,groups x.realm.groups,firms x.realm.firms,orders x.realm.orders,usances x.realm.usances,rates x.realm.rates,halts x.realm.halts,.int x.forum,.int x.day,.int x.file.bill.drawer,.int x.file.bill.drawee,.int x.file.bill.payee,.int x.file.bill.sum,.int x.file.bill.currency,.int x.file.bill.tenor.kind,.int x.file.bill.tenor.n,.int x.file.bill.tenor.unit,.int x.file.bill.day,.int x.file.bill.city,.int x.file.bill.pay,.int x.file.bill.need,.int x.file.bill.rate,.int x.file.bill.flags,.int x.file.bill.parts,signs x.file.signs,alters x.file.alters,acts x.file.acts,facts x.file.facts,.int x.form,.int x.due])=dF x:=_root_.id rfl
@[simp] theorem aEW (x:View):(dF x).c 8=.int x.forum:=_root_.id rfl
@[simp] theorem aEX (x:View):(dF x).c 9=.int x.day:=_root_.id rfl
@[simp] theorem aEB (x:View):(dF x).c 10=.int x.file.bill.drawer:=_root_.id rfl
@[simp] theorem aEC (x:View):(dF x).c 11=.int x.file.bill.drawee:=_root_.id rfl
@[simp] theorem aED (x:View):(dF x).c 12=.int x.file.bill.payee:=_root_.id rfl
@[simp] theorem aEE (x:View):(dF x).c 13=.int x.file.bill.sum:=_root_.id rfl
@[simp] theorem aEF (x:View):(dF x).c 14=.int x.file.bill.currency:=_root_.id rfl
@[simp] theorem aEG (x:View):(dF x).c 15=.int x.file.bill.tenor.kind:=_root_.id rfl
@[simp] theorem aEH (x:View):(dF x).c 16=.int x.file.bill.tenor.n:=_root_.id rfl
@[simp] theorem aEI (x:View):(dF x).c 17=.int x.file.bill.tenor.unit:=_root_.id rfl
@[simp] theorem aEJ (x:View):(dF x).c 18=.int x.file.bill.day:=_root_.id rfl
@[simp] theorem aEK (x:View):(dF x).c 19=.int x.file.bill.city:=_root_.id rfl
@[simp] theorem aEL (x:View):(dF x).c 20=.int x.file.bill.pay:=_root_.id rfl
@[simp] theorem aEM (x:View):(dF x).c 21=.int x.file.bill.need:=_root_.id rfl
@[simp] theorem aEN (x:View):(dF x).c 22=.int x.file.bill.rate:=_root_.id rfl
@[simp] theorem aEO (x:View):(dF x).c 23=.int x.file.bill.flags:=_root_.id rfl
@[simp] theorem aEP (x:View):(dF x).c 24=.int x.file.bill.parts:=_root_.id rfl
@[simp] theorem aEQ (x:View):(dF x).c 25=signs x.file.signs:=_root_.id rfl
@[simp] theorem aER (x:View):(dF x).c 26=alters x.file.alters:=_root_.id rfl
@[simp] theorem aES (x:View):(dF x).c 27=acts x.file.acts:=_root_.id rfl
@[simp] theorem aET (x:View):(dF x).c 28=facts x.file.facts:=_root_.id rfl
@[simp] theorem aEU (x:View):(dF x).c 29=.int x.form:=_root_.id rfl
@[simp] theorem aEV (x:View):(dF x).c 30=.int x.due:=_root_.id rfl
@[simp] theorem aE5 (x:View):jZ 8 (dF x)=aT x.realm:=_root_.id rfl
def q7:List Int→Int→Int
 |[],o=>o
 |x::l,o=>if x=0 then 0 else q7 l (if x=2 then 2 else o)
theorem atG {l:List Int}{o:Int}(hn:∀x,x∈l→¬x=0)(h2:o=1∨o=2):q7 l o=if o=2∨2∈l then 2 else 1:=by
 induction l generalizing o with
 |nil=>rcases h2 with h|h<;>simp[q7,h]
 |cons x l ih=>
  have hx:=hn x (by simp);unfold q7;rw[if_neg hx];by_cases e:x=2
  ·rw[if_pos e,ih (fun y hy=>hn y (by simp[hy])) (.inr rfl)];simp[e]
  ·rw[if_neg e,ih (fun y hy=>hn y (by simp[hy])) h2];simp[xM e]
theorem afc:∀{l:List Int} {o:Int} {k:Nat} (hk:k<l.length),(∀j (hj:j<k),¬l[j]'(by omega)=0)→l[k]=0→q7 l o=0
 |[],o,k,hk,_,_=>by simp at hk
 |x::l,o,0,hk,hj,h=>by
  unfold q7;rw[if_pos (by simpa using h)]
 |x::l,o,k+1,hk,hj,h=>by
  unfold q7;rw[if_neg (by have:=hj 0 (by omega);simpa using this)];exact afc (k:=k) (by simpa using hk) (fun j mE=>by have:=hj (j+1) (by omega);simpa using this) (by simpa using h)
def CG (l:List Int)(k:Nat):Int:=if 2∈l.take k then 2 else 1
theorem atH (l:List Int)(hl:l.length≤100000):aj T 80 [ints l] (.int (q7 l 1)):=by
 refine .of_tree rfl (lA 103 (by kernel_rfl)) aze ?_;simp[XD];refine aK.scan l.length (fun k=>l.getD k 0≠0) (fun k=>[.int 0,.int (CG l k),.int k]) (fun _=>[]) ?_ (fun k hk hj ax=>?_) (fun k hk hj ax=>?_) (fun hj=>?_)
 ·simp[CG]
 ·have hw:=bu hk (by omega);have hx:¬l[k]=0:=by simpa [hk] using ax
  have hm:CG l (k+1)=if l[k]=2 then 2 else CG l k:=by
   unfold CG;rw[il hk];simp only[dN,xB];by_cases e:l[k]=2
   ·simp[e]
   ·simp[e,xM e]
  rw[hm];simp[V0,Hc,hk,hw,hx];by_cases e:l[k]=2<;>simp[e]
 ·have hx:l[k]=0:=by simpa [hk] using ax
  simp[V0,Hc,hk,hx];rw[afc hk (fun j mE=>by simpa [show j<l.length by omega] using hj j mE) hx]
 ·simp[V0,Hc];rw[atG (fun x hx=>by obtain⟨j,gS,rfl⟩:=fX hx;simpa [gS] using hj j gS) (.inl rfl)];simp[CG]
def lI (v:View)(q sign:Int):Int:=IC (D5 v.realm v.forum q ⟨v.file,sign,sign,-1,v.due,v.day⟩)
theorem Xb (v:View)(hr:Right v.realm)(hf:FewS v.file)(q sign:Int):aj T 81 [dF v,.int q,.int sign] (.int (lI v q sign)):=by
 refine .of_tree rfl (lA 102 (by kernel_rfl)) azh ?_;simp[XG];refine⟨qK (D5 v.realm v.forum q ⟨v.file,sign,sign,-1,v.due,v.day⟩),abt v.realm hr v.forum q ⟨v.file,sign,sign,-1,v.due,v.day⟩ hf,abv _⟩
def qt (f:File)(sign:Int)(n:Nat):Bool:=(f.alters.take n).any fun a=>decide (sign<a.at_)
def y7 (f:File):Int:=(f.alters.getD (f.alters.length-1) default).sum
def tz (v:View)(sign:Int):Int×Int:=
 if qt v.file sign v.file.alters.length=false then(0,oD v.file sign v.file.alters.length)
 else if lI v 4 sign=1 then(1,y7 v.file)
 else if lI v 4 sign=2 then(2,min (oD v.file sign v.file.alters.length) (y7 v.file))
 else(lI v 4 sign,oD v.file sign v.file.alters.length)
theorem ayX (v:View)(hr:Right v.realm)(hf:FewS v.file)(sign:Int):aj T 82 [dF v,.int sign] (.tup [.int (tz v sign).1,.int (tz v sign).2]):=by
 refine .of_tree rfl (lA 104 (by kernel_rfl)) azi ?_;simp[XH];have yt:=hf.alters;refine⟨_,aws v.file sign (by omega),?_⟩;refine aK.forRounds v.file.alters.length (fun k=>[.bool (qt v.file sign k),.int k]) (fun _=>[]) ?_ (fun k hk=>?_) ?_
 ·simp[qt]
 ·have hw:=bu hk (by omega);have hs:qt v.file sign (k+1)=(qt v.file sign k||decide (sign<v.file.alters[k].at_)):=by
   unfold qt;rw[il hk,List.any_append];simp
  rw[hs];cases qt v.file sign k<;>simp[V1,Hd,hk,hw]
 ·unfold tz;cases ha:qt v.file sign v.file.alters.length
  ·simp[V1,Hd,ha]
  simp[V1,Hd,ha];have FZ:0<v.file.alters.length:=by
   rcases DT v.file.alters.length with e|e
   ·simp[qt,ve.mp e] at ha
   ·exact e
  have hw:IntKind.i64.wrap ((v.file.alters.length:Int)-1)=(v.file.alters.length:Int)-1:=aN (by omega);have hn:((v.file.alters.length:Int)-1).toNat=v.file.alters.length-1:=by omega
  have af:v.file.alters.length-1<v.file.alters.length:=by omega
  have yE:y7 v.file=v.file.alters[v.file.alters.length-1].sum:=by simp[y7,af]
  simp[hw,hn,af];refine⟨by omega,_,Xb v hr hf 4 sign,?_⟩;rw[yE];by_cases h1:lI v 4 sign=1
  ·simp[h1]
  by_cases h2:lI v 4 sign=2
  ·simp[h1,h2];split
   ·rw[Int.min_eq_right (by omega)]
   ·rw[Int.min_eq_left (by omega)]
  ·simp[h1,h2]
@[simp] theorem aJa (a0 a1 a2 a3 a4 a5 a6 x:D):dK [a0,a1,a2,a3,a4,a5,a6] 3 [x]=[a0,a1,a2,x,a4,a5,a6]:=_root_.id rfl
@[simp] theorem aJb (a0 a1 a2 a3 a4 a5 a6 x:D):dK [a0,a1,a2,a3,a4,a5,a6] 4 [x]=[a0,a1,a2,a3,x,a5,a6]:=_root_.id rfl
@[simp] theorem aJc (a0 a1 a2 a3 a4 a5 a6 x:D):dK [a0,a1,a2,a3,a4,a5,a6] 5 [x]=[a0,a1,a2,a3,a4,x,a6]:=_root_.id rfl
def qG (v:View)(sign:Int):Effect:=
 let s:=v.file.signs.getD sign.toNat default
 ⟨sign,s.kind,s.who,if OR v.file sign v.day=true then 0 else q7 [v.form,lI v 1 sign,lI v 2 sign] 1,(tz v sign).1,
    if s.kind=1∨s.kind=4 then min (tz v sign).2 s.sum else(tz v sign).2,decide (s.kind≠1)&&decide (bX .and .i64 s.flags 1=0)⟩
theorem aoj (v:View)(hr:Right v.realm)(hf:FewS v.file)(sign:Int)(h0:0≤sign)(h1:sign<v.file.signs.length):aj T 39 [dF v,.int sign] (gM (qG v sign)):=by
 refine .of_tree rfl (lA 99 (by kernel_rfl)) azg ?_;obtain⟨k,rfl⟩:=lO h0;have hk:k<v.file.signs.length:=by omega
 have df:=ay0 v.file k v.day (by have:=hf.acts;omega);have Tv:=ayX v hr hf k;have sO:v.file.signs.getD (k:Int).toNat default=v.file.signs[k]:=by simp[hk]
 have L9:=Xb v hr hf 1 k;have dT:=Xb v hr hf 2 k;have hj:aj T 80 [.list [.int v.form,.int (lI v 1 k),.int (lI v 2 k)]] (.int (q7 [v.form,lI v 1 k,lI v 2 k] 1)):=atH [v.form,lI v 1 k,lI v 2 k] (by simp);have hif:(if v.file.signs[k].kind=1 then D.bool false else D.bool (decide (bX BinOp.and IntKind.i64 v.file.signs[k].flags 1=0)))=D.bool (decide (v.file.signs[k].kind≠1)&&decide (bX BinOp.and IntKind.i64 v.file.signs[k].flags 1=0)):=by
  by_cases h:v.file.signs[k].kind=1<;>simp[h]
 unfold qG;rw[sO];generalize lI v 1 k=s1 at*;generalize lI v 2 k=s2 at*;generalize q7 [v.form,s1,s2] 1=jj at*;generalize tz v k=tx at*;obtain⟨t1,t2⟩:=tx;simp only at Tv;simp[XF,hk,hif];refine⟨_,df,?_⟩;have yH:∀a b:Int,(if b<a then D.int b else D.int a)=D.int (min a b):=by
  intro a b;split
  ·rw[Int.min_eq_right (by omega)]
  ·rw[Int.min_eq_left (by omega)]
 cases Mc:OR v.file k v.day
 ·simp[Mc];refine⟨_,L9,_,dT,_,hj,_,Tv,?_⟩;by_cases h1:v.file.signs[k].kind=1∨v.file.signs[k].kind=4
  ·simp[h1,yH];rfl
  ·simp[h1,yH];rfl
 ·simp[Mc];refine⟨_,Tv,?_⟩;by_cases h1:v.file.signs[k].kind=1∨v.file.signs[k].kind=4
  ·simp[h1,yH];rfl
  ·simp[h1,yH];rfl
def uN (r:Realm)(forum:Int)(f:File)(day:Int):View:=⟨r,forum,day,cH f day,IC (nv r forum 0 (cH f day) day),lz r forum (cH f day) day⟩
theorem awb (r:Realm)(hr:Right r)(hd:RightD r)(forum:Int)(f:File)(day:Int)(hf:FewS f):aj T 38 [aT r,.int forum,cg f,.int day] (dF (uN r forum f day)):=by
 refine .of_tree rfl (lA 16 (by kernel_rfl)) azf ?_;simp[XE];have hg:=hf.at_ day;refine⟨_,WZ f day (by have:=hf.signs;omega) (by have:=hf.acts;omega) (by have:=hf.alters;omega) (by have:=hf.facts;omega),?_⟩;simp;refine⟨_,abu r hr forum 0 _ day hg,_,abv _,_,aa6 r hr hd forum _ day hg,?_⟩;simp;rfl
def sf (r:Realm)(forum:Int)(f:File)(day:Int):List Effect:=(List.range (uN r forum f day).file.signs.length).map fun(k:Nat)=>qG (uN r forum f day) k
theorem aaN (r:Realm)(hr:Right r)(hd:RightD r)(forum:Int)(f:File)(day:Int)(hf:FewS f):aj T 10 [aT r,.int forum,cg f,.int day] (nO (sf r forum f day)):=by
 refine .of_tree rfl (lA 15 (by kernel_rfl)) azd ?_;simp[XC];refine⟨_,awb r hr hd forum f day hf,?_⟩;have hg:FewS (uN r forum f day).file:=hf.at_ day;have nZ:(uN r forum f day).realm=r:=rfl;unfold sf;generalize uN r forum f day=v at*;have hl:=hg.signs;refine aK.forRounds v.file.signs.length (fun k=>[.none,.int k]) (fun k=>[nO ((List.range k).map fun(k:Nat)=>qG v k)]) ?_ (fun k hk=>?_) ?_
 ·simp[nO]
 ·have hw:=bu hk (by omega);have he:=aoj v (nZ▸hr) hg k (by omega) (by omega);rw[PK,np];have SB:((List.range k).map fun(k:Nat)=>qG v k).length=k:=by simp
  generalize ((List.range k).map fun(k:Nat)=>qG v k)=A at*;simp[ai9,NX,hk,hw];exact⟨_,he,by omega,by simp[nO]⟩
 ·simp[ai9,NX]
end Rm
namespace Rm
open Go Go.Proofs Cx
theorem RD {n:Nat}{f:Nat→Int}(h:fM n f=0)(k:Nat)(hk:k<n):f k=0:=RF.1 h k hk
theorem amE {r:Realm}(h:jf r=0)(k:Nat)(hk:k<r.orders.length):rj r.orders[k]=true:=by
 unfold jf at h;rw[OE] at h;have h1:=h (eM (eZ r) 20 (ot r)) (by simp);unfold eM at h1;split at h1
 ·cases h1
 have h2:=RD h1 k (by simpa [eZ] using hk);have h3:=(BO h2).2;unfold ot at h3;simpa [hk] using h3
theorem ap0 {r:Realm}(hs:Small r)(h:jf r=0):DM r:=by
 intro o ho;obtain⟨k,hk,rfl⟩:=fX ho;have h1:=amE h k hk;obtain⟨hc,_⟩:=hs.order _ ho;refine⟨by omega,fun ch kB=>?_⟩;unfold rj at h1;simp only[aw] at h1;obtain⟨j,hj,rfl⟩:=fX kB;have h2:=xP.1 h1.1 j hj;simpa [aE,hj] using h2
theorem ap1 {r:Realm}(hs:Small r)(h:jf r=0):Aj r:=by
 refine⟨by have:=hs.halts;omega,fun x hx=>?_⟩;obtain⟨k,hk,rfl⟩:=fX hx;unfold jf at h;rw[OE] at h;have h1:=h (pZ r) (by simp);unfold pZ at h1;split at h1
 ·cases h1
 split at h1
 ·cases h1
 split at h1
 ·cases h1
 split at h1
 ·rename_i aO;have h2:=xP.1 aO k hk;simp[vA,wi,aE,hk] at h2;omega
 ·cases h1
structure Good (r:Realm) (f:File):Prop where
 right:Right r
 rightD:RightD r
 few:FewS f
theorem ap2 {r:Realm}{f:File}(hr:r.OK)(h:Fe r f=true):Good r f:=by
 unfold Fe uk at h;simp only[aw,decide_eq_true_eq] at h;obtain⟨⟨⟨h1,h2⟩,h3⟩,h4⟩:=h;have hs:=Rz hr h1;refine⟨⟨ap0 hs h4,by have:=hs.orders;omega,fun o ho=>?_⟩,⟨hs,ap1 hs h4⟩,?_⟩
 ·have:=hs.order o ho;refine⟨?_,by omega⟩;exact hr.2.2.2.2.1.2 o ho
 ·simp[E2] at h2;exact⟨by omega,by omega,by omega,by omega⟩
end Rm
namespace Rm
open Go Go.Proofs Cx
end Rm
namespace Rm
open Go Go.Proofs Cx
end Rm
namespace Rm
open Go Go.Proofs Cx
end Rm
namespace Rm
open Go Go.Proofs Cx
end Rm
namespace Rm
open Go Cx
end Rm
namespace Rm
open Go Go.Proofs Cx
end Rm
namespace Rm
open Go Go.Proofs Cx
structure SumsOK (f:File):Prop where
 bill:1≤f.bill.sum∧f.bill.sum≤1099511627776
 rate:0≤f.bill.rate∧f.bill.rate≤1000
 alters:∀a,a∈f.alters→1≤a.sum∧a.sum≤1099511627776
 signs:∀s,s∈f.signs→s.kind=1∨s.kind=4→1≤s.sum∧s.sum≤1099511627776
theorem SumsOK.at_ {f:File}(h:SumsOK f)(day:Int):SumsOK (cH f day):=
 ⟨h.bill,h.rate,fun a ha=>h.alters a ((eu.1 ha).1),fun s hs=>h.signs s ((aa5 _).subset hs)⟩
theorem ayI {f:File}(h:SumsOK f)(sign:Int)(n:Nat):1≤oD f sign n∧oD f sign n≤1099511627776:=by
 unfold oD
 have key:∀(l:List Alter) (s:Int),(∀a,a∈l→a∈f.alters)→1≤s∧s≤1099511627776→1≤l.foldl (fun s a=>if a.at_≤sign then a.sum else s) s∧l.foldl (fun s a=>if a.at_≤sign then a.sum else s) s≤1099511627776:=by
  intro l
  induction l with
  |nil=>exact fun s _ hs=>hs
  |cons a l ih=>
   intro s hl hs;rw[xw];refine ih _ (fun b hb=>hl b (by simp[hb])) ?_;split
   ·exact h.alters a (hl a (by simp))
   ·exact hs
 exact key _ _ (fun a ha=>PF ha) h.bill
theorem atM {f:File}{sign:Int}(h:SumsOK f)(ay:qt f sign f.alters.length=true):1≤y7 f∧y7 f≤1099511627776:=by
 unfold y7;have FZ:0<f.alters.length:=by
  rcases DT f.alters.length with e|e
  ·simp[qt,ve.mp e] at ay
  ·exact e
 have af:f.alters.length-1<f.alters.length:=by omega
 have e:f.alters.getD (f.alters.length-1) default=f.alters[f.alters.length-1]:=by simp[af]
 rw[e];exact h.alters _ (bW af)
theorem ayW {v:View}(h:SumsOK v.file)(sign:Int):1≤(tz v sign).2∧(tz v sign).2≤1099511627776:=by
 have h1:=ayI h sign v.file.alters.length;unfold tz;split
 ·exact h1
 rename_i ha;have h2:=atM (sign:=sign) h (by simpa using ha);split
 ·exact h2
 split
 ·simp only;omega
 ·exact h1
theorem aoi {v:View}(h:SumsOK v.file)(sign:Int)(h0:0≤sign)(h1:sign<v.file.signs.length):1≤(qG v sign).sum∧(qG v sign).sum≤1099511627776:=by
 have ht:=ayW h sign;have af:sign.toNat<v.file.signs.length:=by omega
 have e:v.file.signs.getD sign.toNat default=v.file.signs[sign.toNat]:=by simp[af]
 unfold qG;simp only[e];split
 ·rename_i hk;have:=h.signs _ (bW af) hk;omega
 ·exact ht
end Rm
namespace Rm
open Go Go.Proofs Cx
end Rm
namespace Rm
open Go Go.Proofs Cx
theorem aao (n m:Int):aj T 67 [.int n,.int m] (.bool (wi n 0 m)):=by
 refine .of_tree rfl (lA 111 (by kernel_rfl)) azK ?_;simp[X6];by_cases h:0≤n<;>simp[wi,h]
theorem BT (a b:Nat)(ha:a<18446744073709551616)(hb:b<18446744073709551616):aj T 41 [u a,u b] (u (Nat.gcd a b)):=by
 refine .of_tree rfl (lA 157 (by kernel_rfl)) aAD ?_;simp[YU];generalize hg:Nat.gcd a b=g;refine aK.forLoop (α:=Nat×Nat) (fun s vr vo=>(s.1<18446744073709551616∧s.2<18446744073709551616∧Nat.gcd s.1 s.2=g)∧vr=[u s.1,u s.2]∧vo=[]) (fun s=>s.2) (a,b) ?_ ?_
 ·simp;exact⟨ha,hb,hg⟩
 rintro⟨x,y⟩ vr vo ⟨⟨hx,hy,vV⟩,rfl,rfl⟩;simp only at hx hy vV ⊢;by_cases hy0:y=0
 ·subst hy0;simp at vV;simp[ajm,Od,vV]
 ·have af:x%y<y:=nr _ (by omega);have hw:IntKind.u64.wrap (((x%y:Nat)):Int)=((x%y:Nat):Int):=fu (by omega);simp[ajm,Od,hy0];refine⟨y,x%y,af,⟨hy,by omega,?_⟩,rfl,?_⟩
  ·rw[←vV,Nat.gcd_comm x y,Nat.gcd_rec y x,Nat.gcd_comm]
  ·rw[IV (by omega)];exact(Int.natCast_emod x y).symm
end Rm
namespace Rm
open Go Cx
structure Ratio where
 num:Int
 den:Int
 deriving DecidableEq,Inhabited
structure Quote where
 perMille:Int
 fails:List Ratio
 deriving DecidableEq,Inhabited
def Ratio.right (p:Ratio):Prop:=1≤p.den∧p.den≤1073741824∧0≤p.num∧p.num≤p.den
def ia (n:Int)(p:Ratio):Int:=(n*p.num+p.den-1)/p.den
theorem OQ {n:Int}{p:Ratio}(hp:p.right)(h:0≤n):0≤ia n p:=by
 unfold ia;have h1:0≤n*p.num:=xr h hp.2.2.1;exact aaO (by have:=hp.1;omega) (by have:=hp.1;omega)
theorem Xk {n:Int}{p:Ratio}(hp:p.right)(h:0≤n):ia n p≤n:=by
 unfold ia;have h1:n*p.num≤n*p.den:=IU hp.2.2.2 h;have h2:n*p.num+p.den-1<(n+1)*p.den:=by rw[Al];omega
 have h3:=Int.ediv_lt_of_lt_mul (by have:=hp.1;omega:0<p.den) h2;omega
def pB (p:Ratio):Nat→Int→Int
 |0,n=>n
 |k+1,n=>pB p k (ia n p)
theorem ae9 {p:Ratio}(hp:p.right):∀(k:Nat) {n:Int},0≤n→0≤pB p k n
 |0,_,h=>h
 |k+1,_,h=>ae9 hp k (OQ hp h)
theorem ae8 {p:Ratio}(hp:p.right):∀(k:Nat) {n:Int},0≤n→pB p k n≤n
 |0,_,h=>Am _
 |k+1,_,h=>Pw (ae8 hp k (OQ hp h)) (Xk hp h)
def kr (ps:List Ratio)(cS:Nat→Nat):Nat→Int
 |0=>1000000000
 |g+1=>pB (ps.getD g default) (cS g) (kr ps cS g)
def jY (ps:List Ratio):Prop:=ps.length=10∧∀p,p∈ps→p.right
theorem jY.at {ps:List Ratio}(h:jY ps){g:Nat}(hg:g<10):(ps.getD g default).right:=by
 have:g<ps.length:=by rw[h.1];exact hg
 rw[aI,aX this];exact h.2 _ (bW this)
theorem Q9 {ps:List Ratio}(h:jY ps)(cS:Nat→Nat):∀g,g≤10→0≤kr ps cS g
 |0,_=>by simp[kr]
 |g+1,hg=>ae9 (h.at (by omega)) _ (Q9 h cS g (by omega))
theorem abS {ps:List Ratio}(h:jY ps)(cS:Nat→Nat):∀g,g≤10→kr ps cS g≤1000000000
 |0,_=>Am _
 |g+1,hg=>Pw (ae8 (h.at (by omega)) _ (Q9 h cS g (by omega))) (abS h cS g (by omega))
theorem abT (ps:List Ratio){a:Nat→Nat}(h:∀g,a g=0):∀g,kr ps a g=1000000000
 |0=>rfl
 |g+1=>by rw[kr,h g,pB,abT ps h g]
def dz (gs:List Int)(g:Nat):Nat:=(gs.filter fun x=>decide (x=(g:Int))).length
theorem acO (ps:List Ratio):∀(k a:Nat) (gs:List Int) (n:Int),a+k=10→gs.Pairwise (·≤·)→(∀x,x∈gs→(a:Int)≤x∧x<10)→
 gs.foldl (fun n x=>ia n (ps.getD x.toNat default)) n=(List.range k).foldl (fun n i=>pB (ps.getD (a+i) default) (dz gs (a+i)) n) n
 |0,a,gs,n,hk,hs,hx=>by
  cases gs with
  |nil=>rfl
  |cons x gs=>have:=hx x (by simp);omega
 |k+1,a,gs,n,hk,hs,hx=>by
  have key:∀(gs:List Int) (n:Int),gs.Pairwise (·≤·)→(∀x,x∈gs→(a:Int)≤x∧x<10)→gs.foldl (fun n x=>ia n (ps.getD x.toNat default)) n=(gs.filter fun x=>decide (x≠(a:Int))).foldl (fun n x=>ia n (ps.getD x.toNat default)) (pB (ps.getD a default) (dz gs a) n):=by
   intro gs
   induction gs with
   |nil=>intro n _ _;rfl
   |cons x gs ih=>
    intro n hs hx;obtain⟨h1,h2⟩:=xD.1 hs;by_cases e:x=(a:Int)
    ·subst e;rw[xw,ih _ h2 (fun y hy=>hx y (by simp[hy]))];have e1:dz ((a:Int)::gs) a=dz gs a+1:=by simp[dz]
     rw[e1,pB];simp
    ·have aO:∀y,y∈x::gs→y≠(a:Int):=fun y hy e'=>by
       subst e';rcases cC.1 hy with h|h
       ·exact e h.symm
       ·have:=h1 _ h;have:=(hx x (by simp)).1;omega
     have e1:dz (x::gs) a=0:=by
       unfold dz;rw[ve,List.filter_eq_nil_iff];intro y hy;simpa using aO y hy
     have e2:(x::gs).filter (fun x=>decide (x≠(a:Int)))=x::gs:=by
       rw[List.filter_eq_self];intro y hy;simpa using aO y hy
     rw[e1,e2];rfl
  rw[key gs n hs hx,acO ps k (a+1) _ _ (by omega) (hs.sublist List.filter_sublist) (fun x dh=>by
   obtain⟨h1,h2⟩:=eu.1 dh;have h3:=hx x h1;have h4:x≠(a:Int):=by simpa using h2
   omega)]
  rw[List.range_succ_eq_map,xw,aaX]
  have ec:∀i:Nat,dz (gs.filter fun x=>decide (x≠(a:Int))) (a+1+i)=dz gs (a+1+i):=by
   intro i;unfold dz;rw[List.filter_filter]
   congr 1
   apply List.filter_congr;intro x _;by_cases e:x=((a+1+i:Nat):Int)
   ·subst e;simp;omega
   ·rw[decide_eq_false e,rR]
  simp only[ec,mq]
  congr 1
  funext n i;rw[show a+1+i=a+i.succ by omega]
theorem apS (ps:List Ratio){gs:List Int}(hs:gs.Pairwise (·≤·))(hx:∀x,x∈gs→0≤x∧x<10):
 gs.foldl (fun n x=>ia n (ps.getD x.toNat default)) 1000000000=kr ps (dz gs) 10:=by
 rw[acO ps 10 0 gs _ rfl hs (fun x h=>by have:=hx x h;omega)]
 have:∀k,(List.range k).foldl (fun n i=>pB (ps.getD (0+i) default) (dz gs (0+i)) n) 1000000000=kr ps (dz gs) k:=by
  intro k
  induction k with
  |zero=>rfl
  |succ k ih=>rw[PK,rT,ih];simp[kr]
 exact this 10
def fW (f:Nat→Int):Nat→Int
 |0=>0
 |n+1=>fW f n+f (n+1)
theorem OV {f:Nat→Int}{p:Int}:∀(k a:Nat),(∀s,a<s→s≤a+k→f s=p)→fW f (a+k)=fW f a+(k:Int)*p
 |0,a,_=>by simp
 |k+1,a,h=>by
  show fW f (a+k)+f (a+k+1)=_;rw[OV k a fun s h1 h2=>h s h1 (by omega),h (a+k+1) (by omega) (by omega)];rw[Int.natCast_add,Al];simp;omega
theorem Xm {f g:Nat→Int}:∀n,(∀s,0<s→s≤n→f s≤g s)→fW f n≤fW g n
 |0,_=>Am _
 |n+1,h=>by
  have h1:=Xm n fun s h1 h2=>h s h1 (by omega);have h2:=h (n+1) (by omega) (by omega);show fW f n+f (n+1)≤fW g n+g (n+1);omega
theorem Iw {f:Nat→Int}{m:Nat}(h:∀s,m<s→f s=0){n:Nat}(hn:m≤n):fW f n=fW f m:=by
 have:=OV (f:=f) (p:=0) (n-m) m fun s h1 h2=>h s h1;rw[show m+(n-m)=n by omega] at this;simpa using this
end Rm
namespace Rm
open Go Cx
abbrev WS:Type:=Int×Int×Int
def wW (pay:Nat→Int)(w:WS)(s:Int):WS:=
 if s≤w.2.2 then w else
    (w.1+(s-w.2.2)/1000000000*pay s.toNat+((s-w.2.2)%1000000000*pay s.toNat+w.2.1)/1000000000,((s-w.2.2)%1000000000*pay s.toNat+w.2.1)%1000000000,s)
def iv (pay:Nat→Int)(L:List Int):WS:=L.foldl (wW pay) (0,0,0)
structure InvW (pay:Nat→Int) (w:WS):Prop where
 sum:1000000000*w.1+w.2.1=fW pay w.2.2.toNat
 r0:0≤w.2.1
 r1:w.2.1<1000000000
 b0:0≤w.2.2
theorem InvW.start (pay:Nat→Int):InvW pay (0,0,0):=⟨by simp[fW],by simp,by simp,by simp⟩
theorem InvW.step {pay:Nat→Int}(hp:∀s,0≤pay s){w:WS}(h:InvW pay w){x:Int}(hc:∀s:Nat,w.2.2<s→(s:Int)≤x→pay s=pay x.toNat):InvW pay (wW pay w x):=by
 unfold wW;by_cases hx:x≤w.2.2
 ·rw[if_pos hx];exact h
 rw[if_neg hx];obtain⟨h1,h2,h3,h4⟩:=h;obtain⟨whole,rest,below⟩:=w;simp only at*;have hk:below.toNat+(x-below).toNat=x.toNat:=by omega
 have hs:=OV (f:=pay) (p:=pay x.toNat) (x-below).toNat below.toNat fun s k1 k2=>hc s (by omega) (by omega);rw[hk] at hs;have e1:(((x-below).toNat:Nat):Int)=x-below:=by omega
 rw[e1] at hs;have hm:=Int.mul_ediv_add_emod ((x-below)%1000000000*pay x.toNat+rest) 1000000000;have hw:=Int.mul_ediv_add_emod (x-below) 1000000000;have hmul:(x-below)*pay x.toNat=1000000000*((x-below)/1000000000*pay x.toNat)+(x-below)%1000000000*pay x.toNat:=by
  rw[←qj,←Al,hw]
 have p0:=hp x.toNat;refine⟨?_,?_,?_,?_⟩
 ·show 1000000000*(whole+(x-below)/1000000000*pay x.toNat+((x-below)%1000000000*pay x.toNat+rest)/1000000000)+((x-below)%1000000000*pay x.toNat+rest)%1000000000=fW pay x.toNat;rw[hs,←h1,hmul];generalize (x-below)/1000000000*pay x.toNat=A at*;generalize (x-below)%1000000000*pay x.toNat=B at*;omega
 ·exact Int.emod_nonneg _ (by omega)
 ·exact Int.emod_lt_of_pos _ (by omega)
 ·show 0≤x;omega
def Pv (pay:Nat→Int)(L:List Int):Prop:=∀s x:Nat,s≤x→(∀y,y∈L→y<(s:Int)∨(x:Int)≤y)→pay s=pay x
theorem RL {pay:Nat→Int}(hp:∀s,0≤pay s){L:List Int}(hg:Pv pay L)(hs:L.Pairwise (·≤·))(h0:∀x,x∈L→0≤x):∀k,k≤L.length→
 InvW pay (iv pay (L.take k))∧(∀j (hj:j<L.length),j<k→L[j]≤(iv pay (L.take k)).2.2)∧((iv pay (L.take k)).2.2=0∨(iv pay (L.take k)).2.2∈L)
 |0,_=>⟨.start pay,fun j _ h=>absurd h (Nat.not_lt_zero _),.inl rfl⟩
 |k+1,hk=>by
  obtain⟨h1,h2,h3⟩:=RL hp hg hs h0 k (by omega);have af:k<L.length:=by omega
  have e:iv pay (L.take (k+1))=wW pay (iv pay (L.take k)) L[k]:=by
   unfold iv;rw[il af,rT];rfl
  rw[e];generalize iv pay (L.take k)=w at*;have hx0:=h0 _ (bW af);refine⟨h1.step hp fun s k1 k2=>?_,fun j hj mE=>?_,?_⟩
  ·refine hg s _ (by omega) fun y hy=>?_;obtain⟨j,hj,rfl⟩:=fX hy;by_cases mE:j<k
   ·have:=h2 j hj mE;omega
   ·have:L[k]≤L[j]:=by
     by_cases e:j=k
     ·subst e;exact Am _
     ·exact PG.1 hs k j af hj (by omega)
    omega
  ·unfold wW;by_cases hx:L[k]≤w.2.2
   ·rw[if_pos hx];by_cases e:j=k
    ·subst e;exact hx
    ·exact h2 j hj (by omega)
   ·rw[if_neg hx];show L[j]≤L[k];by_cases e:j=k
    ·subst e;exact Am _
    ·exact PG.1 hs j k hj af (by omega)
  ·unfold wW;by_cases hx:L[k]≤w.2.2
   ·rw[if_pos hx];exact h3
   ·rw[if_neg hx];exact .inr (bW af)
theorem apR {pay:Nat→Int}(hp:∀s,0≤pay s){L:List Int}(hg:Pv pay L)(hs:L.Pairwise (·≤·))(h0:∀x,x∈L→0≤x){m:Nat}(hm:∀x,x∈L→x≤(m:Int))(hz:∀s:Nat,(∀y,y∈L→y<(s:Int))→pay s=0):
 (iv pay L).1=fW pay m/1000000000:=by
 obtain⟨h1,h2,h3⟩:=RL hp hg hs h0 L.length (bn _);rw[DR] at h1 h2 h3;generalize iv pay L=w at*;have hb:w.2.2.toNat≤m:=by
  rcases h3 with e|e
  ·rw[e];exact kU _
  ·have:=hm _ e;omega
 have aez:fW pay m=fW pay w.2.2.toNat:=Iw (fun s dZ=>hz s fun y hy=>by
  obtain⟨j,hj,rfl⟩:=fX hy;have:=h2 j hj hj;have:=h1.b0;omega) hb
 rw[aez,←h1.sum];have:=h1.r0;have:=h1.r1;omega
def jK (e:Effect):Bool:=decide (e.binds=1)&&(decide (e.kind=1)||e.recourse)
def ym (r:Realm)(e:Effect):Int:=(r.firms.getD e.firm.toNat default).group
def cj (r:Realm)(g:Int):Int:=(r.groups.getD g.toNat default).grade
def eQ (r:Realm)(l:List Effect)(s:Int):List Int:=j0 (lu ((l.filter fun e=>decide (s≤e.sum)).map (ym r)))
theorem vy {r:Realm}{l:List Effect}{s g:Int}:g∈eQ r l s↔∃e,e∈l∧s≤e.sum∧ym r e=g:=by
 unfold eQ;rw[anj (Mj _),atx];simp only[cu,eu,decide_eq_true_eq,and_assoc]
theorem BV (r:Realm)(l:List Effect)(s:Int):(eQ r l s).Pairwise (·<·):=ank (Mj _)
def kX (r:Realm)(gs:List Int)(ps:List Ratio):Int:=kr ps (dz (gs.map (cj r))) 10
def dx (r:Realm)(l:List Effect)(ps:List Ratio)(s:Nat):Int:=1000000000-kX r (eQ r l s) ps
theorem Gg:∀{a b:List Int},a.Pairwise (·<·)→b.Pairwise (·<·)→(∀x,x∈a→x∈b)→a.Sublist b
 |[],b,_,_,_=>List.nil_sublist b
 |x::a,[],_,_,h=>by have:=h x (by simp);cases this
 |x::a,y::b,ha,hb,h=>by
  obtain⟨a1,a2⟩:=xD.1 ha;obtain⟨b1,b2⟩:=xD.1 hb;by_cases e:x=y
  ·subst e;refine List.Sublist.cons_cons _ (Gg a2 b2 fun z hz=>?_);rcases cC.1 (h z (by simp[hz])) with e|e
   ·have:=a1 z hz;omega
   ·exact e
  ·refine .cons _ (Gg ha b2 fun z hz=>?_);rcases cC.1 (h z hz) with e'|e'
   ·subst e';rcases cC.1 hz with e2|e2
    ·exact absurd e2.symm e
    ·have h1:=a1 _ e2;rcases cC.1 (h x (by simp)) with e3|e3
     ·exact absurd e3 e
     ·have:=b1 _ e3;omega
   ·exact e'
theorem TL {a b:List Int}(ha:a.Pairwise (·<·))(hb:b.Pairwise (·<·))(h:∀x,x∈a↔x∈b):a=b:=
 (Gg ha hb fun x hx=>(h x).1 hx).eq_of_length (Nat.le_antisymm (Gg ha hb fun x hx=>(h x).1 hx).length_le (Gg hb ha fun x hx=>(h x).2 hx).length_le)
theorem aFH {a b:List Int}(h:a.Sublist b)(f:Int→Int)(g:Nat):dz (a.map f) g≤dz (b.map f) g:=((h.map f).filter _).length_le
theorem uO {r:Realm}{ps:List Ratio}(hq:jY ps)(l:List Effect)(s:Nat):0≤dx r l ps s∧dx r l ps s≤1000000000:=by
 unfold dx kX;have h1:=Q9 hq (dz ((eQ r l s).map (cj r))) 10 (bn _);have h2:=abS hq (dz ((eQ r l s).map (cj r))) 10 (bn _);omega
theorem Vo {r:Realm}{ps:List Ratio}{l:List Effect}{s:Nat}(h:∀e,e∈l→e.sum<(s:Int)):dx r l ps s=0:=by
 have e1:eQ r l s=[]:=by
  rw[aaV];intro g hg;obtain⟨e,he,h1,_⟩:=vy.1 hg;have:=h e he;omega
 unfold dx kX;rw[e1,abT ps (a:=dz (([]:List Int).map (cj r))) (fun g=>rfl)];rfl
theorem aic (r:Realm)(l:List Effect)(ps:List Ratio):Pv (dx r l ps) (l.map (·.sum)):=by
 intro s x vP h;have e1:eQ r l s=eQ r l x:=by
  refine TL (BV _ _ _) (BV _ _ _) fun g=>?_;rw[vy,vy];refine exists_congr fun e=>and_congr_right fun he=>and_congr_left fun _=>?_;have:=h e.sum (Ar he);omega
 unfold dx;rw[e1]
theorem ap5 {r:Realm}{l l':List Effect}(h:∀e,e∈l↔e∈l')(s:Int):eQ r l s=eQ r l' s:=
 TL (BV _ _ _) (BV _ _ _) fun g=>by
  rw[vy,vy];exact exists_congr fun e=>and_congr_left fun _=>h e
def jU (r:Realm)(l:List Effect)(ps:List Ratio):Int:=fW (dx r l ps) 1099511627776/1000000000
theorem aku {r:Realm}{l l':List Effect}{ps:List Ratio}(hq:jY ps)(hp:∀e,e∈l'↔e∈l)(hs:l'.Pairwise (fun a b=>a.sum≤b.sum))(h0:∀e,e∈l→0≤e.sum∧e.sum≤1099511627776):
 (iv (dx r l ps) (l'.map (·.sum))).1=jU r l ps:=by
 have hm:∀y,y∈l'.map (·.sum)→∃e,e∈l∧e.sum=y:=fun y hy=>by
  obtain⟨e,he,rfl⟩:=cu.1 hy;exact⟨e,(hp e).1 he,rfl⟩
 refine apR (fun s=>(uO hq l s).1) (fun s x vP h=>?_) (I0.2 hs) (fun x hx=>?_) (fun x hx=>?_) (fun s h=>?_)
 ·refine aic r l ps s x vP fun y hy=>?_;obtain⟨e,he,rfl⟩:=cu.1 hy;exact h _ (Ar ((hp e).2 he))
 ·obtain⟨e,he,rfl⟩:=hm x hx;exact(h0 e he).1
 ·obtain⟨e,he,rfl⟩:=hm x hx;exact(h0 e he).2
 ·exact Vo fun e he=>h _ (Ar ((hp e).2 he))
theorem OW {f:Nat→Int}{c:Int}:∀n,(∀s,0<s→s≤n→f s≤c)→fW f n≤(n:Int)*c
 |0,_=>by simp[fW]
 |n+1,h=>by
  have h1:=OW n fun s h1 h2=>h s h1 (by omega);have h2:=h (n+1) (by omega) (by omega);show fW f n+f (n+1)≤_;rw[Int.natCast_add,Al];simp;omega
theorem akw {r:Realm}{l:List Effect}{ps:List Ratio}(hq:jY ps):0≤jU r l ps:=by
 unfold jU;refine aaO ?_ (by omega);have h1:=Xm (f:=fun _=>0) (g:=dx r l ps) 1099511627776 fun s _ _=>(uO hq l s).1;have h2:=Iw (f:=fun _=>(0:Int)) (m:=0) (fun _ _=>rfl) (kU 1099511627776);have h3:fW (fun _=>(0:Int)) 0=0:=rfl;rw[h2,h3] at h1;exact h1
theorem aB4 {r:Realm}{l:List Effect}{ps:List Ratio}(hq:jY ps){m:Nat}(hm:∀e,e∈l→e.sum≤(m:Int))(h1:m≤1099511627776):jU r l ps≤m:=by
 unfold jU;rw[Iw (f:=dx r l ps) (m:=m) (fun s hs=>Vo fun e he=>by have:=hm e he;omega) h1];have:=OW (f:=dx r l ps) (c:=1000000000) m fun s _ _=>(uO hq l s).2;omega
end Rm
namespace Rm
open Go Cx
def pG (w x:Int):Int:=(w*x+359999)/360000
def oU (w pm d:Int):Int×Int:=
 if wi w 0 1099511627776=true∧wi pm 0 1000=true∧wi d 0 20000=true then(if pG w (pm*d)≤w then(pG w (pm*d),0) else(0,3)) else(0,1)
def CJ (w x:Int):Int:=if pG w x≤w then w-pG w x else 0
theorem avO {w x:Int}(hw:0≤w)(hx:0≤x):0≤pG w x:=by
 unfold pG;have:=xr hw hx;omega
theorem avD {w x:Int}(hw:0≤w)(hx:0≤x):0≤CJ w x∧CJ w x≤w:=by
 have:=avO hw hx;unfold CJ;split<;>omega
theorem ant {w pm d:Int}(hw:0≤w∧w≤1099511627776)(hp:0≤pm∧pm≤1000)(hd:0≤d∧d≤20000):(if(oU w pm d).2≠0 then 0 else w-(oU w pm d).1)=CJ w (pm*d):=by
 have e:oU w pm d=if pG w (pm*d)≤w then(pG w (pm*d),0) else(0,3):=by
  unfold oU;rw[if_pos ⟨by simp[wi];omega,by simp[wi];omega,by simp[wi];omega⟩]
 rw[e];unfold CJ;split<;>simp
def ail (w pm due day:Int):Int×Int:=
 if due=-1 then(0,4) else if day<due∧20000<due-day then(0,3) else(CJ w (pm*max (due-day) 0),0)
end Rm
namespace Rm
open Go Cx
theorem amT {a b:List Int}(h:a.Perm b)(g:Nat):dz a g=dz b g:=(h.filter _).length_eq
end Rm
namespace Rm
open Go Go.Proofs Cx
theorem aci {r:Realm}{b:Bill}(hr:RightD r)(hc:jf r=0)(Se:aE b.city r.cities.length=true)(eF:aE b.pay r.cities.length=true)(hd:iN b.day=true)(hk:b.tenor.kind=3)(hu:b.tenor.unit=0)
 (hn:iN b.tenor.n=true) {g:Int} (hg:0≤g∧g≤20000) (hs:b.tenor.n+g≤100000):sd r b (-1) g=rH r b.pay (b.tenor.n+g):=by
 have lb:=WY r hr.small;rw[hc] at lb;have ll:0≤b.tenor.n∧b.tenor.n≤100000:=by simpa [iN] using hn
 have yQ:=ajT r hr.halts b.pay (b.tenor.n+g) (by simpa [aE] using eF) hr.cities (by omega) (by omega);have hb:aj T 107 [aT r,eA b,.int (-1)] (.tup [.int b.tenor.n,.int 0]):=by
  refine .of_tree rfl AB DD ?_;simp[w6,hk]
 have h:aj T 65 [aT r,eA b,.int (-1),.int g] (.tup [.int (rH r b.pay (b.tenor.n+g)).1,.int (rH r b.pay (b.tenor.n+g)).2]):=by
  have uC:=Ml r b.city;have adR:=Ml r b.pay;have yD:=Gk b.day;have hi3:=Gk b.tenor.n;have hi4:=P0 b.tenor;rw[Se] at uC;rw[eF] at adR;rw[hd] at yD;rw[hn] at hi3;rw[show OH b.tenor=false from by simp[OH,hk]] at hi4;have hw:IntKind.i64.wrap (b.tenor.n+g)=b.tenor.n+g:=aN (by omega);have jo:¬g<0:=by omega
  have gR:¬20000<g:=by omega
  have dT:¬100000<b.tenor.n+g:=by omega
  refine .of_tree rfl abB akh ?_;simp[Pf];refine⟨_,lb,?_⟩;simp;refine⟨_,uC,?_⟩;simp;refine⟨_,adR,?_⟩;simp;refine⟨_,yD,?_⟩;simp[hk,hu,jo,gR];refine⟨_,hi4,?_⟩;simp;refine⟨_,hb,?_⟩;simp;refine⟨_,hi3,?_⟩;simp[hw,dT];refine⟨_,yQ,?_⟩;simp
 have h2:=h.det (aaM r hr b (-1) g);simp at h2;exact Prod.ext h2.1.symm h2.2.symm
end Rm
namespace Rm
open Go Go.Proofs Cx
theorem axg (l:List Int)(hl:l.length≤4000000):aj T 22 [ints l,ints l] (.bool true):=by
 refine .of_tree rfl (lA 117 (by kernel_rfl)) aAs ?_;simp[YK];refine aK.forRounds l.length (fun k=>[.bool false,.int k]) (fun _=>[]) ?_ (fun k hk=>?_) ?_
 ·simp
 ·have hw:=bu hk (by omega);simp[ajl,Oc,hk,hw]
 ·simp[ajl,Oc]
theorem Mg {n:Int}(h:-100000≤n∧n≤100000):aY n:=by unfold aY;omega
end Rm
namespace Rm
open Go Go.Proofs Cx
end Rm
namespace Rm
open Go Go.Proofs Cx
def gN (x:Ratio):D:=.agg [.int x.num,.int x.den]
@[simp] theorem aDX (x:Ratio):(gN x).cells=[.int x.num,.int x.den]:=_root_.id rfl
@[simp] theorem aIo (x:Ratio):D.agg [.int x.num,.int x.den]=gN x:=_root_.id rfl
@[simp] theorem aDV (x:Ratio):(gN x).c 0=.int x.num:=_root_.id rfl
@[simp] theorem aDW (x:Ratio):(gN x).c 1=.int x.den:=_root_.id rfl
def uW (l:List Ratio):D:=.list (l.map gN)
@[simp] theorem aIR (l:List Ratio):(uW l).l=l.map gN:=_root_.id rfl
@[simp] theorem aIQ (l:List Ratio):(uW l).cells=[uW l]:=_root_.id rfl
def kY (x:Quote):D:=.agg [.int x.perMille,uW x.fails]
@[simp] theorem aDO (x:Quote):(kY x).cells=[.int x.perMille,uW x.fails]:=_root_.id rfl
@[simp] theorem aIm (x:Quote):D.agg [.int x.perMille,uW x.fails]=kY x:=_root_.id rfl
@[simp] theorem aDM (x:Quote):(kY x).c 0=.int x.perMille:=_root_.id rfl
@[simp] theorem aDN (x:Quote):(kY x).c 1=uW x.fails:=_root_.id rfl
abbrev akm:Ty:=.agg [.int .i64,.int .i64]
abbrev aBH:Ty:=.agg [.int .i64,.slice akm]
def Ratio.OK (x:Ratio):Prop:=aY x.num∧aY x.den
def Quote.OK (x:Quote):Prop:=aY x.perMille∧x.fails.length≤maxLen∧∀p,p∈x.fails→p.OK
theorem axv {d:D}(h:DTy akm d):∃x:Ratio,d=gN x∧x.OK:=by
 obtain⟨ds,rfl,hs⟩:=h.agg_inv;obtain⟨d0,ds,rfl,h0,hs⟩:=hs.cons_inv;obtain⟨d1,ds,rfl,h1,hs⟩:=hs.cons_inv;obtain rfl:=hs.nil_inv;obtain⟨n0,rfl,b0⟩:=h0.i64_inv;obtain⟨n1,rfl,b1⟩:=h1.i64_inv;exact⟨⟨n0,n1⟩,rfl,⟨b0,b1⟩⟩
theorem awY {d:D}(h:DTy aBH d):∃x:Quote,d=kY x∧x.OK:=by
 obtain⟨ds,rfl,hs⟩:=h.agg_inv;obtain⟨d0,ds,rfl,h0,hs⟩:=hs.cons_inv;obtain⟨d1,ds,rfl,h1,hs⟩:=hs.cons_inv;obtain rfl:=hs.nil_inv;obtain⟨n0,rfl,b0⟩:=h0.i64_inv;obtain⟨xs,rfl,hm,hx⟩:=h1.slice_inv;obtain⟨l,rfl,hl⟩:=ka (enc:=gN) (P:=Ratio.OK) fun x hh=>axv (hx x hh);exact⟨⟨n0,l⟩,rfl,⟨b0,by simpa using hm,hl⟩⟩
def oP (p:Ratio):Bool:=decide (p.den<1)||decide (1073741824<p.den)||decide (p.num<0)||decide (p.den<p.num)
def kP (q:Quote):Int:=if q.perMille<0∨1000<q.perMille∨q.fails.length≠10∨q.fails.any oP=true then 1 else 0
theorem G2 {q:Quote}(h:kP q=0):0≤q.perMille∧q.perMille≤1000∧jY q.fails:=by
 unfold kP at h;split at h
 ·cases h
 rename_i h1;have h2:q.fails.any oP=false:=by
  cases e:q.fails.any oP with
  |false=>rfl
  |true=>exact absurd (.inr (.inr (.inr e))) h1
 refine⟨by omega,by omega,?_,fun p hp=>?_⟩
 ·exact DN fun e=>h1 (.inr (.inr (.inl e)))
 ·have:=List.any_eq_false.1 h2 p hp;simp[oP] at this;unfold Ratio.right;omega
theorem akU (l:List Ratio)(f:Nat)(caps:List D)(g:Nat→Bool)(hg:∀k (hk:k<l.length),aj T f (gN l[k]::caps) (.bool (g k)))(hl:l.length≤4294967296):
 aj T 88 [uW l,.clo f caps] (.int (mP l.length g)):=by
 refine .of_tree rfl (lA 8 (by kernel_rfl)) aBc ?_;simp[ZC];refine .scan l.length (fun k=>g k=false) (fun k=>[.int 0,.int k]) (fun _=>[]) ?_ (fun k hk hj ho=>?_) (fun k hk hj ho=>?_) (fun hj=>?_)
 ·simp
 ·have hw:=bu hk hl;simp[WL,H0,hk,hw];refine⟨_,_,⟨rfl,rfl⟩,_,hg k hk,?_⟩;simp[ho,hw]
 ·have he:=Mo hk (by simpa using ho) hj;simp[WL,H0,hk,he];refine⟨_,_,⟨rfl,rfl⟩,_,hg k hk,?_⟩;simp[ho]
 ·have he:=Mn hj;simp[WL,H0,he]
theorem akO (l:List Ratio)(f:Nat)(caps:List D)(g:Nat→Bool)(hg:∀k (hk:k<l.length),aj T f (gN l[k]::caps) (.bool (g k)))(hl:l.length≤4294967296):
 aj T 48 [uW l,.clo f caps] (.bool ((List.range l.length).any g)):=by
 refine .of_tree rfl (lA 7 (by kernel_rfl)) aA7 ?_;simp[Zx];refine⟨_,akU l f caps g hg hl,?_⟩;have:=TR l.length g;simp[←this]
theorem akL (p:Ratio):aj T 47 [gN p] (.bool (oP p)):=by
 refine .of_tree rfl (lA 6 (by kernel_rfl)) az0 ?_;simp[Yl,oP];by_cases h1:p.den<1<;>by_cases h2:1073741824<p.den<;>by_cases h3:p.num<0<;>by_cases h4:p.den<p.num<;>simp[h1,h2,h3,h4]
theorem Ps (q:Quote)(hl:q.fails.length≤4294967296):aj T 21 [kY q] (.int (kP q)):=by
 refine .of_tree rfl (lA 5 (by kernel_rfl)) az1 ?_
 have h:=akO q.fails 47 [] (fun k=>oP (q.fails.getD k default)) (fun k hk=>by
  have e:q.fails.getD k default=q.fails[k]:=by simp[hk]
  rw[e];exact akL _) hl
 have e:(List.range q.fails.length).any (fun k=>oP (q.fails.getD k default))=q.fails.any oP:=by
  rw[tF,xu,xu];constructor
  ·rintro⟨k,hk,hb⟩;have bp:=fY.1 hk;exact⟨q.fails[k],bW bp,by simpa [bp] using hb⟩
  ·rintro⟨p,hp,hb⟩;obtain⟨k,hk,rfl⟩:=fX hp;exact⟨k,fY.2 hk,by simpa [hk] using hb⟩
 rw[e] at h;by_cases p1:0≤q.perMille
 case neg=>
  have n1:q.perMille<0:=by omega
  have e1:kP q=1:=by unfold kP;rw[if_pos (.inl n1)]
  rw[e1];simp[DB,p1,n1]
 have n1:¬q.perMille<0:=by omega
 by_cases p2:q.perMille≤1000
 case neg=>
  have n2:1000<q.perMille:=by omega
  have e1:kP q=1:=by unfold kP;rw[if_pos (.inr (.inl n2))]
  rw[e1];simp[DB,p1,n1,p2,n2]
 have n2:¬1000<q.perMille:=by omega
 by_cases p3:q.fails.length=10
 case neg=>
  have n3:¬(q.fails.length:Int)=10:=by omega
  have e1:kP q=1:=by unfold kP;rw[if_pos (.inr (.inr (.inl p3)))]
  rw[e1];simp[DB,p1,n1,p2,n2,p3,n3]
 have n3:(q.fails.length:Int)=10:=by omega
 have e1:kP q=if q.fails.any oP=true then 1 else 0:=by
  unfold kP;by_cases hb:q.fails.any oP=true
  ·rw[if_pos hb,if_pos (.inr (.inr (.inr hb)))]
  ·rw[if_neg hb,if_neg (by rintro(h|h|h|h);exact n1 h;exact n2 h;exact h p3;exact hb h)]
 rw[e1];clear e e1;generalize q.fails.any oP=b at h ⊢;simp[DB,p1,n1,p2,n2,p3,n3];refine⟨_,h,?_⟩;cases b<;>simp
end Rm
namespace Rm
open Go Go.Proofs Cx
theorem awy (a b c:Nat)(ha:a<9223372036854775808)(hb:b<9223372036854775808)(hc:0<c)(yw:c<9223372036854775808):
 aj T 68 [.int a,.int b,.int c] (if 1099511627776<a*b/c then .tup [.int 0,.int 0,.bool false] else .tup [.int ((a*b/c:Nat):Int),.int ((a*b%c:Nat):Int),.bool true]):=by
 refine .of_tree rfl (lA 112 (by kernel_rfl)) azJ ?_;have wa:IntKind.u64.wrap (a:Int)=a:=fu (by omega);have wb:IntKind.u64.wrap (b:Int)=b:=fu (by omega);have wc:IntKind.u64.wrap (c:Int)=c:=fu (by omega);simp[X5,wa,wb,wc,-Int.natCast_ediv,-Int.natCast_emod,-Int.natCast_mul];refine⟨_,Uc a b (by omega) (by omega),?_⟩;have B7:=As (a*b) 18446744073709551616;have mH:a*b%18446744073709551616<18446744073709551616:=nr _ (by decide);generalize vD:a*b/18446744073709551616=hi at*;generalize aHq:a*b%18446744073709551616=lo at*;by_cases h1:c≤hi
 ·have cJ:(c:Int)≤(hi:Int):=by omega
  have adu:18446744073709551616≤a*b/c:=by
   rw[PQ hc];have:=I5 18446744073709551616 h1;omega
  have dG:1099511627776<a*b/c:=by omega
  simp[h1,dG]
 ·have cJ:¬(c:Int)≤(hi:Int):=by omega
  have hd:=K4 hi lo c hc (by omega) mH (by omega);have e:hi*18446744073709551616+lo=a*b:=by omega
  rw[e] at hd;have gm:a*b%c<c:=nr _ hc;simp[h1,-Int.natCast_ediv,-Int.natCast_emod,-Int.natCast_mul];refine⟨_,hd,?_⟩;generalize a*b/c=q at*;generalize a*b%c=r at*;by_cases h2:1099511627776<q
  ·have iP:(1099511627776:Int)<(q:Int):=by omega
   simp[h2,iP]
  ·have iP:¬(1099511627776:Int)<(q:Int):=by omega
   have hw:IntKind.i64.wrap (q:Int)=q:=aN (by omega);have cQ:IntKind.i64.wrap (r:Int)=r:=aN (by omega);simp[h2,iP,hw,cQ]
theorem amo (n:Nat):((n:Int)+359999)/360000=((n/360000:Nat):Int)+if 0<n%360000 then 1 else 0:=by
 split<;>omega
theorem akS (w pm d:Int):aj T 31 [.int w,.int pm,.int d] (.tup [.int (oU w pm d).1,.int (oU w pm d).2]):=by
 refine .of_tree rfl (lA 110 (by kernel_rfl)) azI ?_;simp[X4];refine⟨_,aao _ _,?_⟩;cases h1:wi w 0 1099511627776
 ·simp[oU,h1]
 simp;refine⟨_,aao _ _,?_⟩;cases h2:wi pm 0 1000
 ·simp[oU,h1,h2]
 simp;refine⟨_,aao _ _,?_⟩;cases h3:wi d 0 20000
 ·simp[oU,h1,h2,h3]
 simp[wi] at h1 h2 h3;obtain⟨a,rfl⟩:=lO h1.1;obtain⟨b,rfl⟩:=lO h2.1;obtain⟨c,rfl⟩:=lO h3.1;have R9:b*c≤20000000:=dO (rV (show b≤1000 by omega) (show c≤20000 by omega)) (by decide);have hw:IntKind.i64.wrap ((b:Int)*(c:Int))=((b*c:Nat):Int):=by rw[←Int.natCast_mul];exact aN (by omega)
 have hp:=awy a (b*c) 360000 (by omega) (by omega) (by decide) (by decide);have hdF:oU a b c=if pG a ((b*c:Nat):Int)≤(a:Int) then(pG a ((b*c:Nat):Int),0) else(0,3):=by
  unfold oU;rw[if_pos ⟨by simp[wi];omega,by simp[wi];omega,by simp[wi];omega⟩,Int.natCast_mul]
 have iS:pG a ((b*c:Nat):Int)=((a*(b*c)/360000:Nat):Int)+if 0<a*(b*c)%360000 then 1 else 0:=by
  unfold pG;rw[←Int.natCast_mul,amo]
 rw[hdF,iS];generalize a*(b*c)/360000=q at*;generalize a*(b*c)%360000=r at*;simp[hw];refine⟨_,hp,?_⟩;by_cases hq:1099511627776<q
 ·have:¬((q:Int)+(if 0<r then 1 else 0)≤(a:Int)):=by split<;>omega
  rw[if_pos hq];simp[this]
 ·rw[if_neg hq];by_cases hr:0<r
  ·have nZ:(0:Int)<(r:Int):=by omega
   have cQ:IntKind.i64.wrap ((q:Int)+1)=(q:Int)+1:=aN (by omega);by_cases hle:(q:Int)+1≤(a:Int)
   ·have ph:¬((a:Int)<(q:Int)+1):=by omega
    simp[hr,nZ,cQ,hle,ph]
   ·have ph:(a:Int)<(q:Int)+1:=by omega
    simp[hr,nZ,cQ,hle,ph]
  ·have nZ:¬(0:Int)<(r:Int):=by omega
   by_cases hle:(q:Int)≤(a:Int)
   ·have ph:¬((a:Int)<(q:Int)):=by omega
    have jq:¬(a<q):=by omega
    simp[hr,nZ,hle,ph,jq]
    try omega
   ·have ph:(a:Int)<(q:Int):=by omega
    have jq:a<q:=by omega
    simp[hr,nZ,hle,ph,jq]
    try omega
def eX (r:Realm)(forum:Int)(f:File)(day:Int):List Effect:=(sf r forum f day).filter jK
theorem ann (l:List Effect)(h:l.length≤4294967296):aj T 69 [nO l,.clo 70 []] (nO (l.filter jK)):=by
 refine .of_ext (g:=fun _ ds=>K1 ds) rfl ⟨0,fun _ _=>?_⟩;show(if 70=70∧(l.map gM).length≤4294967296 then some (D.list ((l.map gM).filter gW)) else none)=_;rw[if_pos ⟨rfl,by simpa using h⟩,List.filter_map];rfl
theorem Ru (r:Realm)(forum:Int)(f:File)(day:Int):(sf r forum f day).length≤f.signs.length:=by
 unfold sf;rw[dM,aa1];exact(aa5 _).length_le
theorem afq (r:Realm)(hr:Right r)(hd:RightD r)(forum:Int)(f:File)(day:Int)(hf:FewS f):aj T 33 [aT r,.int forum,cg f,.int day] (nO (eX r forum f day)):=by
 refine .of_tree rfl (lA 14 (by kernel_rfl)) aAa ?_;simp[Yr];have hl:=Ru r forum f day;have:=hf.signs;refine⟨_,aaN r hr hd forum f day hf,?_⟩;exact ann _ (by omega)
theorem Mm (r:Realm)(forum:Int):aj T 32 [aT r,.int forum] (.bool (decide (0≤forum∧forum<r.orders.length))):=by
 refine .of_tree rfl (lA 13 (by kernel_rfl)) az8 ?_;simp[Yq];by_cases h:0≤forum<;>simp[h]
end Rm
namespace Rm
open Go Go.Proofs Cx
theorem TO (l:List Int):(l.map D.int).map D.i=l:=by rw[nq];exact xz _
theorem ayx (l:List Int)(h:l.length≤4294967296):aj T 76 [.none,ints l] (.tup [.tup [],ints (lu l)]):=by
 refine .of_ext (g:=fun _ ds=>Is ds) rfl ⟨0,fun _ _=>?_⟩;show(if(l.map D.int).length≤4294967296 then some (D.tup [.tup [],ints (lu ((l.map D.int).map D.i))]) else none)=_;rw[TO,if_pos (by simpa using h)]
theorem am3 (l:List Int)(h:l.length≤4294967296):aj T 77 [ints l] (ints (j0 l)):=by
 refine .of_ext (g:=fun _ ds=>K0 ds) rfl ⟨0,fun _ _=>?_⟩;show(if(l.map D.int).length≤4294967296 then some (ints (j0 ((l.map D.int).map D.i))) else none)=_;rw[TO,if_pos (by simpa using h)]
theorem amM (l:List Int)(h:l.length≤4294967296):aj T 73 [ints l] (ints l):=by
 refine .of_ext (g:=fun _ ds=>KW ds) rfl ⟨0,fun _ _=>?_⟩;show(if(l.map D.int).length≤4294967296 then some (D.list (l.map D.int)) else none)=_;rw[if_pos (by simpa using h)];rfl
def IQ (r:Realm)(l:List Effect):Prop:=∀e,e∈l→0≤e.firm∧e.firm<r.firms.length
def su (r:Realm)(l:List Effect)(s:Int):List Int:=(l.filter fun e=>decide (s≤e.sum)).map (ym r)
theorem aqb (r:Realm)(l:List Effect)(e:Effect)(s:Int):su r (l++[e]) s=su r l s++if s≤e.sum then[ym r e] else[]:=by
 unfold su;rw[IX,np]
 congr 1
 by_cases h:s≤e.sum<;>simp[List.filter,h]
theorem acZ (r:Realm)(l:List Effect)(s:Int):(su r l s).length≤l.length:=by
 unfold su;rw[dM];exact oM _ _
theorem acX (r:Realm)(l:List Effect)(s:Int)(hf:IQ r l)(hl:l.length≤1000):aj T 37 [aT r,nO l,.int s] (ints (eQ r l s)):=by
 refine .of_tree rfl (lA 108 (by kernel_rfl)) az7 ?_;simp[Yp];refine aK.forRounds l.length (fun k=>[.none,.int k]) (fun k=>[ints (su r (l.take k) s)]) ?_ (fun k hk=>?_) ?_
 ·simp[su,ints]
 ·have hw:=bu hk (by omega);obtain⟨f1,f2⟩:=hf _ (bW hk);rw[il hk,aqb];have yC:=acZ r (l.take k) s;rw[ej] at yC;generalize su r (l.take k) s=G at*;simp[ajk,N8,hk,hw];generalize l[k]=e at*;have af:e.firm.toNat<r.firms.length:=by omega
  have hg:ym r e=r.firms[e.firm.toNat].group:=by unfold ym;simp[af]
  by_cases h:s≤e.sum
  ·simp[h,hg,f1,f2,af];exact⟨by omega,by simp[ints]⟩
  ·simp[h]
 ·rw[DR];have yC:=acZ r l s;have hG:eQ r l s=j0 (lu (su r l s)):=rfl;rw[hG];generalize su r l s=G at*;have hs:=ayx G (by omega);have hc:=am3 (lu G) (by rw[Mi];omega);simp[ajk,N8];refine⟨_,hs,?_⟩;simp;exact hc
def Ai (r:Realm)(gs:List Int):Prop:=∀g,g∈gs→0≤g∧g<r.groups.length
def xq (r:Realm):Prop:=∀g,g∈r.groups→0≤g.grade∧g.grade<10
theorem xq.at {r:Realm}(h:xq r){g:Int}(h0:0≤g)(h1:g<r.groups.length):0≤cj r g∧cj r g<10:=by
 have af:g.toNat<r.groups.length:=by omega
 unfold cj;rw[aI,aX af];exact h _ (bW af)
theorem RS (r:Realm)(g:Int)(h0:0≤g)(h1:g<r.groups.length):dQ (aT r) (.int g)=cj r g:=by
 have af:g.toNat<r.groups.length:=by omega
 unfold dQ cj;show((((groups r.groups).l.getD g.toNat .none).c 0).i:Int)=_;rw[show(groups r.groups).l=r.groups.map qI from rfl,aI,ct,aX af,aI,aX af];rfl
def qu (r:Realm)(gs:List Int):List Int:=(gE (dQ (aT r)) (gs.map D.int)).map D.i
theorem QW (r:Realm)(gs:List Int):(qu r gs).Perm gs:=by
 have:=(rK (dQ (aT r)) (gs.map D.int)).map D.i
 rwa [TO] at this
theorem ama (r:Realm)(gs:List Int):D.list (gE (dQ (aT r)) (gs.map D.int))=ints (qu r gs):=by
 unfold qu ints;rw[nq]
 congr 1
 conv=>lhs;rw[←xz (gE (dQ (aT r)) (gs.map D.int))]
 refine tL fun x hx=>?_;obtain⟨g,_,rfl⟩:=cu.1 ((rK _ _).mem_iff.1 hx);rfl
theorem amb (r:Realm){gs:List Int}(h:Ai r gs):((qu r gs).map (cj r)).Pairwise (·≤·):=by
 unfold qu;rw[nq,I0];refine(ajZ (dQ (aT r)) (gs.map D.int)).imp_of_mem fun {a b} ha hb qN=>?_;obtain⟨x,hx,rfl⟩:=cu.1 ((rK _ _).mem_iff.1 ha);obtain⟨y,hy,rfl⟩:=cu.1 ((rK _ _).mem_iff.1 hb);rw[RS r x (h x hx).1 (h x hx).2,RS r y (h y hy).1 (h y hy).2] at qN;exact qN
theorem ayw (r:Realm)(gs:List Int)(hg:Ai r gs)(hr:xq r)(hl:gs.length≤4294967296):aj T 74 [.none,.clo 75 [.ref (aT r)],ints gs] (.tup [.tup [],ints (qu r gs)]):=by
 have aO:(gs.map D.int).all (zl (aT r))=true:=by
  rw[da];intro x hx;obtain⟨g,uB,rfl⟩:=cu.1 hx;obtain⟨h0,h1⟩:=hg g uB;have h2:=hr.at h0 h1;have e:((aT r).c 2).l.length=r.groups.length:=by show(r.groups.map qI).length=_;simp
  simp only[zl,aw,decide_eq_true_eq,RS r g h0 h1,e];have e2:(D.int g).i=g:=rfl;rw[e2];exact⟨⟨h0,by omega⟩,by omega⟩
 refine .of_ext (g:=fun _ ds=>ON ds) rfl ⟨0,fun _ _=>?_⟩;show(if 75=75∧(gs.map D.int).length≤4294967296∧(gs.map D.int).all (zl (aT r))=true then some (D.tup [.tup [],.list (gE (dQ (aT r)) (gs.map D.int))]) else none)=_;rw[if_pos ⟨rfl,by simpa using hl,aO⟩,ama]
theorem amx (r:Realm)(gs:List Int)(ps:List Ratio):kr ps (dz ((qu r gs).map (cj r))) 10=kX r gs ps:=by
 unfold kX;have e:dz ((qu r gs).map (cj r))=dz (gs.map (cj r)):=by
  funext g;exact amT ((QW r gs).map _) g
 rw[e]
theorem acP {ps:List Ratio}(hq:jY ps):∀(l:List Int),(∀x,x∈l→0≤x∧x<10)→∀n:Int,0≤n∧n≤1000000000→0≤l.foldl (fun n x=>ia n (ps.getD x.toNat default)) n∧l.foldl (fun n x=>ia n (ps.getD x.toNat default)) n≤1000000000
 |[],_,n,h=>h
 |x::l,hx,n,h=>by
  have hp:=hq.at (g:=x.toNat) (by have:=hx x (by simp);omega);exact acP hq l (fun y hy=>hx y (by simp[hy])) _ ⟨OQ hp h.1,Pw (Xk hp h.1) h.2⟩
theorem abV (r:Realm)(gs:List Int)(q:Quote)(hg:Ai r gs)(hr:xq r)(hq:jY q.fails)(hl:gs.length≤1000000):aj T 36 [aT r,ints gs,kY q] (.int (kX r gs q.fails)):=by
 refine .of_tree rfl (lA 9 (by kernel_rfl)) az6 ?_;simp[Yo];refine⟨_,amM gs (by omega),?_⟩;refine⟨_,ayw r gs hg hr (by omega),?_⟩;have Fq:(qu r gs).length=gs.length:=(QW r gs).length_eq;have B3:Ai r (qu r gs):=fun g h=>hg g ((QW r gs).mem_iff.1 h)
 have j4:=apS q.fails (amb r hg) (fun x hx=>by
  obtain⟨g,uB,rfl⟩:=cu.1 hx;exact hr.at (B3 g uB).1 (B3 g uB).2)
 rw[amx,aaX] at j4;rw[←j4];generalize qu r gs=L at*
 have yO:∀k,0≤(L.take k).foldl (fun n g=>ia n (q.fails.getD (cj r g).toNat default)) 1000000000∧(L.take k).foldl (fun n g=>ia n (q.fails.getD (cj r g).toNat default)) 1000000000≤1000000000:=fun k=>by
  have:=acP hq ((L.take k).map (cj r)) (fun x hx=>by
   obtain⟨g,uB,rfl⟩:=cu.1 hx;exact hr.at (B3 g (PF uB)).1 (B3 g (PF uB)).2) 1000000000 (by omega)
  rw[aaX] at this;exact this
 simp;refine aK.forRounds L.length (fun k=>[.int ((L.take k).foldl (fun n g=>ia n (q.fails.getD (cj r g).toNat default)) 1000000000),.int k]) (fun _=>[]) ?_ (fun k hk=>?_) ?_
 ·simp
 ·have hw:=bu hk (by omega);obtain⟨g0,g1⟩:=B3 _ (bW hk);have pg:=hr.at g0 g1;have hn:=yO k;rw[il hk,rT];simp only[xw,List.foldl_nil];generalize (L.take k).foldl (fun n g=>ia n (q.fails.getD (cj r g).toNat default)) 1000000000=n at*;simp[ajj,N7,hk,hw];generalize L[k]=g at*;have af:g.toNat<r.groups.length:=by omega
  have Sq:cj r g=r.groups[g.toNat].grade:=by unfold cj;simp[af]
  have arN:q.fails.length=10:=hq.1;have FJ:(cj r g).toNat<q.fails.length:=by omega
  have hp:=hq.at (g:=(cj r g).toNat) (by omega);have ln:q.fails.getD (cj r g).toNat default=q.fails[(cj r g).toNat]:=by simp[FJ]
  rw[ln] at hp;have fN:(((Option.map qI r.groups[g.toNat]?).getD D.none).c 0).i=cj r g:=by rw[Sq];simp[af]
  rw[fN];simp only[aX FJ,kW,kV];generalize q.fails[(cj r g).toNat]=p at*;obtain⟨p1,p2,p3,p4⟩:=hp;have m1:n*p.num≤1000000000*1073741824:=aaP (by omega) (by omega) (by omega) (by omega);have m0:0≤n*p.num:=xr hn.1 p3;have hs:=OQ ⟨p1,p2,p3,p4⟩ hn.1;have dT:=Xk ⟨p1,p2,p3,p4⟩ hn.1;refine⟨⟨g0,g1⟩,⟨pg.1,by omega⟩,?_,?_⟩
  ·simp;omega
  ·simp;rw[aN (n:=n*p.num) (by omega),aN (n:=n*p.num+p.den) (by omega),aN (n:=n*p.num+p.den-1) (by omega),xt (by omega)];exact aN (by unfold ia at hs dT;omega)
 ·simp[ajj,N7]
end Rm
namespace Rm
open Go Go.Proofs Cx
def Rt (d:D):Effect:=⟨(d.c 0).i,(d.c 1).i,(d.c 2).i,(d.c 3).i,(d.c 4).i,(d.c 5).i,(d.c 6).b⟩
def oQ (l:List Effect):List Effect:=(gE gF (l.map gM)).map Rt
theorem amc (l:List Effect):D.list (gE gF (l.map gM))=nO (oQ l):=by
 unfold oQ nO;rw[nq]
 congr 1
 conv=>lhs;rw[←xz (gE gF (l.map gM))]
 refine tL fun x hx=>?_;obtain⟨g,_,rfl⟩:=cu.1 ((rK _ _).mem_iff.1 hx);rfl
theorem amd (l:List Effect):(oQ l).Perm l:=by
 have:=(rK gF (l.map gM)).map Rt;rw[nq] at this;have e:l.map (Rt∘gM)=l:=xz _
 rwa [e] at this
theorem abL (l:List Effect):(oQ l).Pairwise fun a b=>a.sum≤b.sum:=by
 unfold oQ;rw[I0];refine(ajZ gF (l.map gM)).imp_of_mem fun {a b} ha hb qN=>?_;exact qN
def abg (l:List Effect):Prop:=∀e,e∈l→0≤e.sum∧e.sum≤1099511627776
theorem ayu (l:List Effect)(hs:abg l)(hl:l.length≤4294967296):aj T 34 [.none,.clo 35 [],nO l] (.tup [.tup [],nO (oQ l)]):=by
 have aO:(l.map gM).all CN=true:=by
  rw[da];intro x hx;obtain⟨e,he,rfl⟩:=cu.1 hx;have:=hs e he;simp only[CN,aw,decide_eq_true_eq];exact this
 refine .of_ext (g:=fun _ ds=>OM ds) rfl ⟨0,fun _ _=>?_⟩;show(if 35=35∧(l.map gM).length≤4294967296∧(l.map gM).all CN=true then some (D.tup [.tup [],.list (gE gF (l.map gM))]) else none)=_;rw[if_pos ⟨rfl,by simpa using hl,aO⟩,amc]
def IP (r:Realm):Prop:=∀f,f∈r.firms→0≤f.group∧f.group<r.groups.length
theorem acW {r:Realm}(Sl:IP r){l:List Effect}(hf:IQ r l)(s:Int):Ai r (eQ r l s):=by
 intro g hg;obtain⟨e,he,_,rfl⟩:=vy.1 hg;obtain⟨h0,h1⟩:=hf e he;have af:e.firm.toNat<r.firms.length:=by omega
 unfold ym;rw[aI,aX af];exact Sl _ (bW af)
theorem ap4 (r:Realm)(l:List Effect)(s:Int):(eQ r l s).length≤l.length:=by
 unfold eQ;refine dO (acb _ _) ?_;rw[Mi,dM];exact oM _ _
structure PayOK (r:Realm) (l:List Effect):Prop where
 firms:IQ r l
 sums:abg l
 fg:IP r
 gr:xq r
 len:l.length≤1000
theorem akv {r:Realm}{l:List Effect}{ps:List Ratio}(hq:jY ps):jU r l ps≤1099511627776:=by
 unfold jU;have:=OW (f:=dx r l ps) (c:=1000000000) 1099511627776 fun s _ _=>(uO hq l s).2;generalize fW (dx r l ps) 1099511627776=S at*;omega
def sR (r:Realm)(forum:Int):Prop:=0≤forum∧forum<r.orders.length
instance (r:Realm) (forum:Int):Decidable (sR r forum):=by unfold sR;exact inferInstance
def lM (r:Realm)(forum:Int)(f:File)(day:Int)(q:Quote):Int×Int:=
 if kP q≠0∨¬sR r forum then(0,1) else(jU r (eX r forum f day) q.fails,0)
theorem P2 (r:Realm)(hr:Right r)(hd:RightD r)(forum:Int)(f:File)(day:Int)(hf:FewS f)(q:Quote)(uG:q.fails.length≤4294967296)(hp:PayOK r (eX r forum f day)):
 aj T 9 [aT r,.int forum,cg f,.int day,kY q] (.tup [.int (lM r forum f day q).1,.int (lM r forum f day q).2]):=by
 refine .of_tree rfl (lA 12 (by kernel_rfl)) az4 ?_;simp[Yn];refine⟨_,Ps q uG,?_⟩;by_cases hq:kP q=0
 case neg=>
  simp[hq,lM]
  try exact⟨_,Mm r forum⟩
 simp[hq];refine⟨_,Mm r forum,?_⟩;by_cases ho:0≤forum∧forum<r.orders.length
 case neg=>
  have:¬sR r forum:=ho;simp[hq,ho,lM,this]
 have gU:sR r forum:=ho;obtain⟨_,_,hQ⟩:=G2 hq;simp[ho];refine⟨_,afq r hr hd forum f day hf,?_⟩;have hwE:lM r forum f day q=(jU r (eX r forum f day) q.fails,0):=by
  unfold lM;rw[if_neg (by simp[hq,gU])]
 rw[hwE];generalize eX r forum f day=l at*;simp;refine⟨_,ayu l hp.sums (by have:=hp.len;omega),?_⟩;have yK:=amd l;have j4:=aku (r:=r) (l:=l) (l':=oQ l) hQ (fun e=>yK.mem_iff) (abL l) hp.sums
 have hinv:=fun k hk=>RL (pay:=dx r l q.fails) (fun s=>(uO hQ l s).1) (L:=(oQ l).map (·.sum)) (fun s x vP h=>aic r l q.fails s x vP fun y hy=>by
  obtain⟨e,he,rfl⟩:=cu.1 hy
  exact h _ (Ar (yK.mem_iff.2 he))) (I0.2 (abL l)) (fun x hx=>by
   obtain⟨e,he,rfl⟩:=cu.1 hx;exact(hp.sums e (yK.mem_iff.1 he)).1) k hk
 have hlen:(oQ l).length=l.length:=yK.length_eq;have dc:∀e,e∈oQ l↔e∈l:=fun e=>yK.mem_iff;have hfo:IQ r (oQ l):=fun e he=>hp.firms e ((dc e).1 he);rw[←j4];generalize oQ l=L at*;have aqn:L.length≤1000:=by have:=hp.len;omega
 refine aK.forRounds L.length (fun k=>[.int (iv (dx r l q.fails) ((L.take k).map (·.sum))).1,.int (iv (dx r l q.fails) ((L.take k).map (·.sum))).2.1,.int (iv (dx r l q.fails) ((L.take k).map (·.sum))).2.2,.int k]) (fun _=>[]) ?_ (fun k hk=>?_) ?_
 ·simp[iv]
 ·have hw:=bu hk (by omega);obtain⟨i1,i2,i3⟩:=hinv k (by simp;omega);rw[←List.map_take] at i1 i2 i3;have aez:=hp.sums _ ((dc _).1 (bW hk));rw[il hk,np];have yS:iv (dx r l q.fails) ((L.take k).map (·.sum)++[L[k]].map (·.sum))=wW (dx r l q.fails) (iv (dx r l q.fails) ((L.take k).map (·.sum))) L[k].sum:=by
   unfold iv;rw[rT];rfl
  rw[yS];have yJ:=uO (r:=r) hQ l L[k].sum.toNat;have Fp:(iv (dx r l q.fails) ((L.take k).map (·.sum))).2.2≤1099511627776:=by
   rcases i3 with e|e
   ·rw[e];omega
   ·obtain⟨x,hx,e2⟩:=cu.1 e;have:=(hp.sums x ((dc x).1 hx)).2;omega
  have Md:=OW (f:=dx r l q.fails) (c:=1000000000) (iv (dx r l q.fails) ((L.take k).map (·.sum))).2.2.toNat fun s _ _=>(uO hQ l s).2;rw[←i1.sum] at Md;have r0:=i1.r0;have r1:=i1.r1;have b0:=i1.b0;generalize iv (dx r l q.fails) ((L.take k).map (·.sum))=w at*;obtain⟨whole,rest,below⟩:=w;simp only at*;have pg:=acX r L L[k].sum hfo aqn;have yC:=ap4 r L L[k].sum;have kB:=abV r (eQ r L L[k].sum) q (acW hp.fg hfo _) hp.gr hQ (by omega);rw[ap5 dc] at pg kB;simp[aji,N6,hk,hw];generalize L[k]=e at*;have hsn:((e.sum.toNat:Nat):Int)=e.sum:=by omega
  have ln:dx r l q.fails e.sum.toNat=1000000000-kX r (eQ r l e.sum) q.fails:=by unfold dx;rw[hsn]
  rw[ln] at yJ;unfold wW;by_cases hle:e.sum≤below
  ·simp[hle]
  ·rw[if_neg hle,ln];simp[hle];refine⟨_,pg,?_⟩;refine⟨_,kB,?_⟩;generalize kX r (eQ r l e.sum) q.fails=ch at*;have wch:(D.int ch).i=ch:=rfl;rw[wch];generalize hpp:1000000000-ch=p at*;have wp:IntKind.i64.wrap p=p:=aN (by omega);have ww:IntKind.i64.wrap (e.sum-below)=e.sum-below:=aN (by omega);generalize hW:e.sum-below=W at*;have hW0:0<W∧W≤1099511627776:=by omega
   rw[wp,ww,xt (by omega),IV (by omega)];have q1:0≤W/1000000000∧W/1000000000≤1100:=by omega
   have m1:0≤W%1000000000∧W%1000000000<1000000000:=by omega
   generalize W/1000000000=A at*;generalize W%1000000000=B at*;have a1:0≤A*p:=xr q1.1 yJ.1;have a2:A*p≤1100*1000000000:=aaP q1.2 yJ.2 yJ.1 (by omega);have b1:0≤B*p:=xr m1.1 yJ.1;have b2:B*p≤1000000000*1000000000:=aaP (by omega) yJ.2 yJ.1 (by omega);have hwb:whole≤1099511627776:=by omega
   have yX:0≤whole:=by
        have h1:=Xm (f:=fun _=>0) (g:=dx r l q.fails) below.toNat fun s _ _=>(uO hQ l s).1;have h2:=Iw (f:=fun _=>(0:Int)) (m:=0) (fun _ _=>rfl) (kU below.toNat);have h3:fW (fun _=>(0:Int)) 0=0:=rfl;rw[h2,h3] at h1;have h4:=i1.sum;have h1:0≤fW (dx r l q.fails) below.toNat:=h1;simp only at h4;omega
   rw[aN (n:=A) (by omega)];generalize A*p=X at*;generalize B*p=Y at*;rw[aN (n:=X) (by omega),aN (n:=Y) (by omega),aN (n:=Y+rest) (by omega),xt (by omega),IV (by omega),aN (n:=whole+X) (by omega),aN (n:=(Y+rest)/1000000000) (by omega),aN (by omega)];exact⟨rfl,rfl⟩
 ·simp[aji,N6]
def rl (r:Realm)(forum:Int)(f:File)(day:Int)(q:Quote):Int×Int:=
 if(lM r forum f day q).2≠0 then(0,(lM r forum f day q).2) else ail (lM r forum f day q).1 q.perMille (lz r forum f day) day
theorem akt (r:Realm)(forum:Int)(f:File)(day:Int)(q:Quote):lM r forum f day q=(0,1)∨(kP q=0∧sR r forum∧lM r forum f day q=(jU r (eX r forum f day) q.fails,0)):=by
 unfold lM;by_cases h:kP q≠0∨¬sR r forum
 ·exact .inl (if_pos h)
 ·refine .inr ⟨DN fun e=>h (.inl e),DN fun e=>h (.inr e),if_neg h⟩
theorem ali (r:Realm)(hr:Right r)(hd:RightD r)(forum:Int)(f:File)(day:Int)(hf:FewS f)(q:Quote)(uG:q.fails.length≤4294967296)(hp:PayOK r (eX r forum f day))(yx:aY day)(hm:lz r forum f day=-1∨(0≤lz r forum f day∧lz r forum f day≤100000∧0≤day)):
 aj T 8 [aT r,.int forum,cg f,.int day,kY q] (.tup [.int (rl r forum f day q).1,.int (rl r forum f day q).2]):=by
 refine .of_tree rfl (lA 109 (by kernel_rfl)) az2 ?_;simp[Ym];refine⟨_,P2 r hr hd forum f day hf q uG hp,?_⟩;rcases akt r forum f day q with e|⟨hq,ho,e⟩
 ·unfold rl;rw[e];simp
 obtain⟨p0,p1,hQ⟩:=G2 hq;unfold rl;rw[e];have yX:=akw (r:=r) (l:=eX r forum f day) hQ;have iV:=akv (r:=r) (l:=eX r forum f day) hQ;generalize jU r (eX r forum f day) q.fails=w at*;simp;refine⟨_,aa6 r hr hd forum f day hf,?_⟩;generalize lz r forum f day=due at*;unfold ail;by_cases h1:due=-1
 ·simp[h1]
 obtain⟨m0,m1,m2⟩:=hm.resolve_left h1;have ws:IntKind.i64.wrap (due-day)=due-day:=aN (by unfold aY at yx;omega);rw[if_neg h1];by_cases h2:day<due∧20000<due-day
 ·rw[if_pos h2];simp[h1,h2,ws]
 rw[if_neg h2];have iP:¬(day<due∧20000<due-day):=h2;simp[h1,iP,ws];have hmx:(if due-day<0 then D.int 0 else D.int (due-day))=D.int (max (due-day) 0):=by
  split
  ·rw[show max (due-day) 0=0 by omega]
  ·rw[show max (due-day) 0=due-day by omega]
 have hD:=akS w q.perMille (max (due-day) 0);have hn:=ant (w:=w) (pm:=q.perMille) (d:=max (due-day) 0) ⟨yX,iV⟩ ⟨p0,p1⟩ (by omega);have hnr:=avD (w:=w) (x:=q.perMille*max (due-day) 0) yX (xr p0 (by omega));rw[←hn] at hnr ⊢;generalize oU w q.perMille (max (due-day) 0)=dd at*;rw[hmx];refine⟨_,hD,?_⟩;obtain⟨d1,d2⟩:=dd;by_cases dR:d2=0
 ·simp[dR] at hnr ⊢;exact aN (by omega)
 ·simp[dR]
end Rm
namespace Rm
open Go Go.Proofs Cx
def aj1 (a b:Int):Prop:=a=2∨a=b
end Rm
namespace Rm
open Go Go.Proofs Cx
@[simp] theorem aIA:D.none.b=false:=_root_.id rfl
theorem fb (n a b:Int):aj T 59 [.int n,.int a,.int b] (.bool (wi n a b)):=by
 refine .of_tree rfl (lA 144 (by kernel_rfl)) azW ?_;simp[Yi];by_cases h:a≤n<;>simp[wi,h]
theorem oG (n m:Int):aj T 95 [.int n,.int m] (.bool (aE n m)):=by
 refine .of_tree rfl (lA 141 (by kernel_rfl)) aBD ?_;simp[Z2];by_cases h:0≤n<;>simp[aE,h]
def O1 (b:Bill):Bool:=
 if b.tenor.kind=0∨b.tenor.kind=4 then decide (b.tenor.n=0)&&decide (b.tenor.unit=0)
 else if b.tenor.kind=1∨b.tenor.kind=2 then(decide (1≤b.tenor.n)&&decide (b.tenor.n≤400))&&(decide (b.tenor.unit=0)||decide (b.tenor.unit=1))
 else if b.tenor.kind=3 then(decide (b.day≤b.tenor.n)&&decide (b.tenor.n≤100000))&&decide (b.tenor.unit=0)
 else false
theorem aB2 (b:Bill):aj T 96 [eA b] (.bool (O1 b)):=by
 refine .of_tree rfl (lA 142 (by kernel_rfl)) aBE ?_;unfold O1;simp[Z3];by_cases h0:b.tenor.kind=0
 ·by_cases h1:b.tenor.n=0<;>simp[h0,h1]
 by_cases h4:b.tenor.kind=4
 ·by_cases h1:b.tenor.n=0<;>simp[h4,h1]
 simp[h0,h4];by_cases k1:b.tenor.kind=1
 ·by_cases h1:1≤b.tenor.n<;>by_cases h2:b.tenor.n≤400<;>by_cases h3:b.tenor.unit=0<;>simp[k1,h1,h2,h3]
 by_cases k2:b.tenor.kind=2
 ·by_cases h1:1≤b.tenor.n<;>by_cases h2:b.tenor.n≤400<;>by_cases h3:b.tenor.unit=0<;>simp[k2,h1,h2,h3]
 simp[k1,k2];by_cases k3:b.tenor.kind=3
 ·by_cases h1:b.day≤b.tenor.n<;>by_cases h2:b.tenor.n≤100000<;>simp[k3,h1,h2]
 simp[k3]
def uM (n m:Int):Bool:=decide (n=-1)||aE n m
def zY (r:Realm)(b:Bill):Bool:=((aE b.drawer r.firms.length&&aE b.drawee r.firms.length)&&uM b.payee r.firms.length)&&uM b.need r.firms.length
def xj (r:Realm)(b:Bill):Bool:=(aE b.currency r.currencies.length&&aE b.city r.cities.length)&&aE b.pay r.cities.length
def Df (b:Bill):Prop:=((((1≤b.sum∧b.sum≤1099511627776)∧0≤b.day)∧b.day≤100000)∧0≤b.rate)∧b.rate≤1000
def RM (b:Bill):Prop:=((0≤b.flags∧b.flags≤7)∧(bX .and .i64 b.flags 4=0∨¬b.payee=-1))∧O1 b=true
structure BillOK (r:Realm) (b:Bill):Prop where
 realm:jf r=0
 who:zY r b=true
 where_:xj r b=true
 range:Df b
 parts:1≤b.parts∧b.parts≤4
 form:RM b
 usance:b.tenor.kind=4→∃u,u∈r.usances∧u.fr=b.city∧u.to=b.pay
def qh (P:Prop)(d:D):Prop:=∃e:Int,d=.int e∧(e=0↔P)
theorem qh.no {P:Prop}{e:Int}(h:¬P)(he:e≠0):qh P (.int e):=⟨e,rfl,fun x=>absurd x he,fun x=>absurd x h⟩
theorem qh.ok {P:Prop}(h:P):qh P (.int 0):=⟨0,rfl,fun _=>h,fun _=>rfl⟩
theorem aB1 (r:Realm)(hs:Small r)(b:Bill):∃d,aj T 57 [aT r,eA b] d∧qh (BillOK r b) d:=by
 refine aj.ex_of_tree rfl alP aBC ?_;simp[Z1];refine⟨_,WY r hs,?_⟩;by_cases h0:jf r=0
 case neg=>
  simp[h0];exact .no (fun h=>h0 h.realm) h0
 simp[h0];refine⟨_,oG _ _,?_⟩;cases h1:aE b.drawer r.firms.length
 ·simp;exact .no (fun h=>by simpa [zY,h1] using h.who) (by decide)
 simp;refine⟨_,oG _ _,?_⟩;cases h2:aE b.drawee r.firms.length
 ·simp;exact .no (fun h=>by simpa [zY,h2] using h.who) (by decide)
 by_cases h3:uM b.payee r.firms.length=true
 case neg=>
  have fC:¬b.payee=-1∧aE b.payee r.firms.length=false:=by simpa [uM] using h3
  simp[fC.1];refine⟨_,oG _ _,?_⟩;simp[fC.2];exact .no (fun h=>h3 (by have:=h.who;simp[zY] at this;exact this.1.2)) (by decide)
 by_cases h4:uM b.need r.firms.length=true
 case neg=>
  have qM:¬b.need=-1∧aE b.need r.firms.length=false:=by simpa [uM] using h4
  have gl:qh (BillOK r b) (.int 1):=.no (fun h=>h4 (by have:=h.who;simp[zY] at this;exact this.2)) (by decide);by_cases hp:b.payee=-1
  ·simp[hp,qM.1];refine⟨_,oG _ _,?_⟩;simp[qM.2];exact gl
  ·have fC:aE b.payee r.firms.length=true:=by simpa [uM,hp] using h3
   simp[hp];refine⟨_,oG _ _,?_⟩;simp[fC,qM.1];refine⟨_,oG _ _,?_⟩;simp[qM.2];exact gl
 have Me:zY r b=true:=by simp[zY,h1,h2,h3,h4]
 have hp:b.payee=-1∨(¬b.payee=-1∧aE b.payee r.firms.length=true):=by
  by_cases e:b.payee=-1
  ·exact .inl e
  ·exact .inr ⟨e,by simpa [uM,e] using h3⟩
 have hn:b.need=-1∨(¬b.need=-1∧aE b.need r.firms.length=true):=by
  by_cases e:b.need=-1
  ·exact .inl e
  ·exact .inr ⟨e,by simpa [uM,e] using h4⟩
 have bad:¬xj r b=true→qh (BillOK r b) (.int 1):=fun h=>.no (fun k=>h k.where_) (by decide);have fin:∀u:Int,(u=0↔∃u,u∈r.usances∧u.fr=b.city∧u.to=b.pay)→Df b→(1≤b.parts∧b.parts≤4)→RM b→xj r b=true→qh (BillOK r b) (if b.tenor.kind=4 then .int u else .int 0):=by
  intro u hu h6 h7 h8 h9;by_cases e:b.tenor.kind=4
  ·rw[if_pos e];exact⟨u,rfl,fun h=>⟨h0,Me,h9,h6,h7,h8,fun _=>hu.1 h⟩,fun h=>hu.2 (h.usance e)⟩
  ·rw[if_neg e];exact .ok ⟨h0,Me,h9,h6,h7,h8,fun h=>absurd h e⟩
 obtain⟨un,ue,hu1,_,hu2⟩:=abi r b.city b.pay (by have:=hs.us;omega);rcases hp with hp|⟨hp,fl⟩<;>rcases hn with hn|⟨hn,qV⟩
 case' inl.inl=>simp[hp,hn]
 case' inl.inr=>simp[hp,hn];refine⟨_,oG _ _,?_⟩;simp[qV]
 case' inr.inl=>simp[hp,hn];refine⟨_,oG _ _,?_⟩;simp[fl]
 case' inr.inr=>simp[hp,hn];refine⟨_,oG _ _,?_⟩;simp[fl];refine⟨_,oG _ _,?_⟩;simp[qV]
 all_goals
  refine⟨_,oG _ _,?_⟩;cases h5:aE b.currency r.currencies.length
  ·simp;exact bad (by simp[xj,h5])
  simp;refine⟨_,oG _ _,?_⟩;cases h6:aE b.city r.cities.length
  ·simp;exact bad (by simp[xj,h6])
  simp;refine⟨_,oG _ _,?_⟩;cases h7:aE b.pay r.cities.length
  ·simp;exact bad (by simp[xj,h7])
  have Gb:xj r b=true:=by simp[xj,h5,h6,h7]
  simp;by_cases h8:Df b
  case neg=>
   have RW:((((b.sum<1∨1099511627776<b.sum)∨b.day<0)∨100000<b.day)∨b.rate<0)∨1000<b.rate:=by unfold Df at h8;omega
   rw[if_pos RW];exact .no (fun k=>h8 k.range) (by decide)
  have RW:¬(((((b.sum<1∨1099511627776<b.sum)∨b.day<0)∨100000<b.day)∨b.rate<0)∨1000<b.rate):=by unfold Df at h8;omega
  rw[if_neg RW];by_cases h9:1≤b.parts∧b.parts≤4
  case neg=>
   rw[if_pos (by omega)];exact .no (fun k=>h9 k.parts) (by decide)
  rw[if_neg (by omega)];have P8:¬RM b→qh (BillOK r b) (.int 2):=fun h=>.no (fun k=>h k.form) (by decide);by_cases g1:0≤b.flags∧b.flags≤7
  case neg=>
   have fB:b.flags<0∨7<b.flags:=by omega
   simp[g1,fB];exact P8 (fun h=>g1 h.1.1)
  have fB:¬(b.flags<0∨7<b.flags):=by omega
  by_cases g2:bX .and .i64 b.flags 4=0∨¬b.payee=-1
  case neg=>
   have oX:¬bX .and .i64 b.flags 4=0∧b.payee=-1:=by simpa using g2
   first
        |exact absurd oX.2 hp
        |(simp[g1,fB,oX]
          exact P8 (fun h=>g2 h.1.2))
  have g3:(b.payee=-1→bX .and .i64 b.flags 4=0):=fun e=>g2.resolve_right (fun h=>h e);simp[g1,fB,hp,g3];refine⟨_,aB2 b,?_⟩;cases jk:O1 b
  ·simp;exact P8 (fun h=>by have:=h.2;rw[jk] at this;cases this)
  have hf:=fin ue hu2 h8 h9 ⟨⟨g1,g2⟩,jk⟩ Gb;simp;by_cases e:b.tenor.kind=4
  ·simp[e] at hf ⊢;exact⟨_,hu1,hf⟩
  ·simp[e] at hf ⊢;exact hf
end Rm
