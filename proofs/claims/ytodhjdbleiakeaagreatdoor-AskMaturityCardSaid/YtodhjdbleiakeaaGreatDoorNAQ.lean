/-
  Shared texts of this claim.
-/
import Derived.Test.YtodhjdbleiakeaaGreatDoorNAP
set_option linter.unusedSimpArgs false
set_option linter.unusedVariables false
namespace Rm
open Go Go.Proofs Cx
structure Right (r:Realm):Prop where
 by_:Al r
 len:r.orders.length≤100000
 ok:∀o,o∈r.orders→o.OK∧o.rules.length≤100000
structure FewS (f:File):Prop where
 signs:f.signs.length≤1000
 alters:f.alters.length≤1000
 acts:f.acts.length≤1000
 facts:f.facts.length≤1000
theorem ahP {α:Type}(p:α→Bool)(l:List α):(l.takeWhile p).length≤l.length:=by
 obtain⟨m,h1,h2,_⟩:=MR p l;rw[h2,ei];omega
theorem FewS.at_ {f:File}(h:FewS f)(day:Int):FewS (aX f day):=
 ⟨j5 (ahP _ _) h.1,j5 (uN _ _) h.2,j5 (ahP _ _) h.3,j5 (uN _ _) h.4⟩
def be (c:Case):Case:={c with file:=aX c.file c.day}
@[simp] theorem aG0 (x:File)(a0 a1 a2 a3 a4 a5 a6 a7 a8 a9 nf ng ni nj nk pY pZ p5 rh:D)(s h d u y:Int):j6 24 (D.agg (eh [a0,a1,a2,a3,a4,a5,a6,a7,a8,a9,nf,ng,ni,nj,nk,pY,pZ,p5,rh,.int s,.int h,.int d,.int u,.int y] 0 [.int x.bill.drawer,.int x.bill.drawee,.int x.bill.payee,.int x.bill.sum,.int x.bill.currency,.int x.bill.tenor.kind,.int x.bill.tenor.n,.int x.bill.tenor.unit,.int x.bill.day,.int x.bill.city,.int x.bill.pay,.int x.bill.need,.int x.bill.rate,.int x.bill.flags,.int x.bill.parts,signs x.signs,alters x.alters,acts x.acts,facts x.facts]))=ew ⟨x,s,h,d,u,y⟩:=_root_.id rfl
theorem XV (r:Realm)(c:Case)(hf:FewS c.file):ak T acH [bl r,ew c] (.tup [ew (be c),cells (fT r (be c))]):=by
 refine .of_tree rfl ajH aBY ?_;simp[UT];have h1:=hf.1;have h2:=hf.2;have h3:=hf.3;have h4:=hf.4;refine⟨_,ag3 c.file c.day (by omega) (by omega) (by omega) (by omega),?_⟩;have HX:=hf.at_ c.day;have h5:=HX.4;have h6:=HX.2;simp;exact⟨aAR r (be c) (by show(aX c.file c.day).facts.length≤_;omega) (by show(aX c.file c.day).alters.length≤_;omega),(congrArg (j6 24) (azG (be c) _ _ _ _ _ _ _ _ _ _ _ _ _ _ _ _ _ _ _ _ _ _ _ _)).trans (aji (be c))⟩
theorem ait {r:Realm}{c:Case}(h:fT r c≠[]):0≤c.sign∧c.sign<c.file.signs.length:=by
 unfold fT at h;split at h
 ·rename_i hh;have h1:=hh.1;unfold oC at h1;simp[aA] at h1;omega
 ·exact absurd rfl h
theorem abR (r:Realm)(oR:Al r)(q:Int)(l:List Int)(hl:l.length≤100000)(yc:∀b:Int,0≤b→b<r.orders.length→lF r b q l=true):∀(n:Nat) (p:List Int),p≠[]→(∀x,x∈p→0≤x∧x<(r.orders.length:Int))→
 (ky r q l n p).1≠[]∧∀x,x∈(ky r q l n p).1→0≤x∧x<(r.orders.length:Int)
 |0,p,aB,hp=>⟨aB,hp⟩
 |n+1,p,aB,hp=>by
  have ah:p.length-1<p.length:=by have:=FL.mpr aB;omega
  have kp:dg p=p[p.length-1]:=by simp[dg,ah]
  have vy:=hp _ (di ah);rw[←kp] at vy;obtain⟨_,ht⟩:=Xm r oR (dg p) q l hl (yc _ vy.1 vy.2)
  have aZ:∀x,x∈p++[(fK r (dg p) q l).1]→0≤x∧x<(r.orders.length:Int):=fun x hx=>by
   rcases cY.mp hx with h|h
   ·exact hp x h
   ·simp at h;subst h;exact ht
  rw[QH];split
  ·exact⟨aB,hp⟩
  split
  ·exact⟨by simp,aZ⟩
  split
  ·exact⟨by simp,aZ⟩
  ·exact abR r oR q l hl yc n _ (by simp) aZ
theorem abP {r:Realm}(hr:Right r){a q:Int}{l:List Int}(hl:l.length≤100000)(h:(il r a q l).2=0):(il r a q l).1≠[]∧0≤dg (il r a q l).1∧dg (il r a q l).1<r.orders.length:=by
 unfold il at h ⊢;split at h
 ·rename_i hh;rw[if_pos hh];obtain⟨ha,hl5,hx,yc⟩:=OG hh.1;obtain⟨h1,h2⟩:=abR r hr.by_ q l hl yc r.orders.length [a] (by simp) (fun x hx=>by simp at hx;subst hx;exact ha);refine⟨h1,?_⟩;have ah:(ky r q l r.orders.length [a]).1.length-1<(ky r q l r.orders.length [a]).1.length:=by have:=FL.mpr h1;omega
  have kp:dg (ky r q l r.orders.length [a]).1=(ky r q l r.orders.length [a]).1[(ky r q l r.orders.length [a]).1.length-1]:=by simp[dg,ah]
  rw[kp];exact h2 _ (di ah)
 ·cases h
theorem abS (r:Realm)(q:Int)(l:List Int):∀(n:Nat) (p:List Int),(ky r q l n p).1.length≤p.length+n
 |0,p=>by simp[ky]
 |n+1,p=>by
  rw[QH];split
  ·simp
  split
  ·simp
  split
  ·simp
  ·have:=abS r q l n (p++[(fK r (dg p) q l).1]);simp at this;omega
theorem abQ (r:Realm)(a q:Int)(l:List Int):(il r a q l).1.length≤1+r.orders.length:=by
 unfold il;split
 ·exact abS r q l _ [a]
 ·simp
@[simp] theorem aKM (a b c d e x:D):eh [a,b,c,d,e] 2 [x]=[a,b,x,d,e]:=_root_.id rfl
@[simp] theorem aKN (a b c d e x:D):eh [a,b,c,d,e] 3 [x]=[a,b,c,x,e]:=_root_.id rfl
@[simp] theorem aKO (a b c d e x:D):eh [a,b,c,d,e] 4 [x]=[a,b,c,d,x]:=_root_.id rfl
def yS:Said:=⟨dK,-1,[],1⟩
def gF (r:Realm)(au q:Int)(c:Case):Said×List Cell:=
 if fT r (be c)=[] then(yS,[]) else if(pJ q).2=false then(yS,[]) else if gf r au (be c)=[] then(yS,[]) else
    (⟨dK,if(il r au q (gf r au (be c))).2=0 then dg (il r au q (gf r au (be c))).1 else-1,(il r au q (gf r au (be c))).1,(il r au q (gf r au (be c))).2⟩,fT r (be c))
theorem af1 (r:Realm)(au:Int)(c:Case):(gf r au c).length≤5:=by
 unfold gf;split
 ·simp
 split<;>simp[jX]
theorem XU (r:Realm)(hr:Right r)(au q:Int)(c:Case)(hf:FewS c.file):ak T acG [bl r,.int au,.int q,ew c] (.tup [jI (gF r au q c).1,cells (gF r au q c).2]):=by
 refine .of_tree rfl ajG aBX ?_;simp[US];refine⟨_,XV r c hf,?_⟩;by_cases hv:fT r (be c)=[]
 ·simp[hv,gF];exact⟨rfl,rfl⟩
 simp[hv,gF];refine⟨_,Sv q,?_⟩;cases hq:(pJ q).2
 ·simp[hq];exact⟨rfl,rfl⟩
 simp[hq];refine⟨_,af2 r au (be c) (ait hv),?_⟩;by_cases hp:gf r au (be c)=[]
 ·simp[hp];exact⟨rfl,rfl⟩
 have dZ:=af1 r au (be c);have aB:ints (gf r au (be c))≠.list []:=fun e=>hp (by simpa [ints] using e);simp[hp];generalize gf r au (be c)=l at*;refine⟨_,aiS r hr.by_ hr.len au q l (by omega),?_⟩;have hlen:=abQ r au q l;have C0:=abP hr (a:=au) (q:=q) (l:=l) (by omega);have PU:=hr.len;generalize il r au q l=L at*;obtain⟨path,err⟩:=L;simp only at*;by_cases he:err=0
 ·obtain⟨h1,h2⟩:=C0 he;have P1:=FL.mpr h1;have Qu:IntKind.i64.wrap ((path.length:Int)-1)=(path.length:Int)-1:=bF (by omega);have Pv:((path.length:Int)-1).toNat=path.length-1:=by omega
  have ah:path.length-1<path.length:=by omega
  have kp:dg path=path[path.length-1]:=by simp[dg,ah]
  simp[he,Qu,Pv,ah,←kp];exact⟨by omega,rfl⟩
 ·simp[he];rfl
def j7 (r:Realm)(au q:Int)(c:Case):Said:=
 if(gF r au q c).1.order=-1 then(gF r au q c).1
 else⟨(xq (nO r (gF r au q c).1.order) q (gF r au q c).2).1,(gF r au q c).1.order,(gF r au q c).1.path,(xq (nO r (gF r au q c).1.order) q (gF r au q c).2).2⟩
theorem ajn {r:Realm}(hr:Right r)(au q:Int)(c:Case):(gF r au q c).1.order=-1∨(0≤(gF r au q c).1.order∧(gF r au q c).1.order<r.orders.length):=by
 unfold gF;split
 ·exact .inl rfl
 split
 ·exact .inl rfl
 split
 ·exact .inl rfl
 ·have dZ:=af1 r au (be c);have C0:=abP hr (a:=au) (q:=q) (l:=gf r au (be c)) (by omega);show(if _ then _ else _)=_∨_;split
  ·rename_i h;exact .inr (C0 h).2
  ·exact .inl rfl
theorem XS (r:Realm)(hr:Right r)(au q:Int)(c:Case)(hf:FewS c.file):ak T acz [bl r,.int au,.int q,ew c] (jI (j7 r au q c)):=by
 refine .of_tree rfl ajz aBQ ?_;simp[UL];refine⟨_,XU r hr au q c hf,?_⟩;have ho:=ajn hr au q c;unfold j7;generalize gF r au q c=S at*;obtain⟨s,cs⟩:=S;simp only at*;by_cases h:s.order=-1
 ·obtain⟨⟨kn,n⟩,o,pth,e⟩:=s;simp only at h;subst h;simp;rfl
 ·have h1:0≤s.order∧s.order<r.orders.length:=by omega
  have h2:s.order.toNat<r.orders.length:=by omega
  have h3:nO r s.order=r.orders[s.order.toNat]:=by simp[nO,h2]
  obtain⟨aE,hlen⟩:=hr.ok _ (di h2);simp[h,h1,h2,h3];refine⟨_,azB _ q cs aE (by omega),?_⟩;simp;rfl
def gG (r:Realm)(au q:Int)(f:File)(day:Int):Said:=j7 r au q ⟨{f with facts:=[]},0,-1,-1,-1,day⟩
theorem Nm (r:Realm)(hr:Right r)(au q:Int)(f:File)(day:Int)(hf:FewS f):ak T acA [bl r,.int au,.int q,cZ f,.int day] (jI (gG r au q f day)):=by
 refine .of_tree rfl ajA aBR ?_;simp[UM];refine⟨jI (gG r au q f day),XS r hr au q ⟨{f with facts:=[]},0,-1,-1,-1,day⟩ ⟨hf.1,hf.2,hf.3,by simp⟩,?_⟩;simp
 try rfl
def WI (s:Said):Int:=if s.err≠0 then 0 else if s.cell.known=false then 2 else if s.cell.n≠0 then 1 else 0
theorem Nn (s:Said):ak T acF [jI s] (.int (WI s)):=by
 refine .of_tree rfl ajF aBW ?_;unfold WI;by_cases h1:s.err=0<;>cases h2:s.cell.known<;>by_cases h3:s.cell.n=0<;>simp[UR,h1,h2,h3]
def nM (s:Said):Int:=if s.err≠0∨s.cell.known=false then-1 else s.cell.n
theorem XT (s:Said):ak T acD [jI s] (.int (nM s)):=by
 refine .of_tree rfl ajD aBU ?_;unfold nM;by_cases h1:s.err=0<;>cases h2:s.cell.known<;>simp[UP,h1,h2]
end Rm
namespace Rm
open Go Go.Proofs Cx
end Rm
namespace Rm
open Go Go.Proofs Cx
theorem yJ (r:Realm)(c:Int):ak T ad4 [bl r,.int c] (.bool (aA c r.cities.length)):=by
 refine .of_tree rfl ala aDE ?_;by_cases h1:0≤c<;>by_cases h2:c<r.cities.length<;>simp[Wo,h1,h2,aA]
def cI (n:Int):Bool:=decide (0≤n)&&decide (n≤100000)
theorem tJ (n:Int):ak T IW [.int n] (.bool (cI n)):=by
 refine .of_tree rfl alb aDF ?_;by_cases h1:0≤n<;>by_cases h2:n≤100000<;>simp[Wp,h1,h2,cI]
theorem sw (n:Int):ak T acS [.int n] (.bool (cI n)):=by
 refine .of_tree rfl ajR aCc ?_;by_cases h1:0≤n<;>by_cases h2:n≤100000<;>simp[U5,h1,h2,cI]
def qP (t:Tenor):Bool:=decide (t.kind=0)||decide (t.kind=1)
theorem Av (t:Tenor):ak T ad3 [lE t] (.bool (qP t)):=by
 refine .of_tree rfl ak9 aDD ?_;by_cases h1:t.kind=0<;>simp[Wn,h1,qP]
theorem aei (y m d:Int):∃n:Int,ak T IT [.int y,.int m,.int d] (.int n):=by
 by_cases h:m<3
 ·refine⟨?w,?h⟩
  case h=>
   refine ak.of_tree (d:=.int ?w) rfl Np U3 ?_;simp[z7,h];exact rfl
 ·refine⟨?v,?g⟩
  case g=>
   refine ak.of_tree (d:=.int ?v) rfl Np U3 ?_;simp[z7,h];exact rfl
noncomputable def tS (y m d:Int):Int:=(aei y m d).choose
theorem v9 (y m d:Int):ak T IT [.int y,.int m,.int d] (.int (tS y m d)):=(aei y m d).choose_spec
noncomputable def kW (y m:Int):Int:=if m=12 then 31 else IntKind.i64.wrap (tS y (IntKind.i64.wrap (m+1)) 1-tS y m 1)
theorem tN (y m:Int):ak T acQ [.int y,.int m] (.int (kW y m)):=by
 refine .of_tree rfl ajP aCa ?_;unfold kW;by_cases h:m=12
 ·simp[MK,h]
 ·simp[MK,h];refine⟨_,v9 _ _ _,_,v9 _ _ _,?_⟩;simp
theorem aiJ (y m d:Int):∃n e:Int,ak T DI [.int y,.int m,.int d] (.tup [.int n,.int e])∧(e=0→0≤n∧n≤100000):=by
 by_cases h0:(((2000≤y∧y≤2300)∧1≤m)∧m≤12)∧1≤d
 ·by_cases h2:d≤kW y m
  ·cases h1:cI (tS y m d)
   ·refine⟨0,3,.of_tree rfl sO ux ?_,by simp⟩;simp[qV];rw[if_pos h0];refine⟨_,tN y m,?_⟩;simp[h0,h2];refine⟨_,v9 _ _ _,_,sw _,?_⟩;simp[h1]
   ·refine⟨tS y m d,0,.of_tree rfl sO ux ?_,fun _=>by simpa [cI] using h1⟩;simp[qV];rw[if_pos h0];exact⟨_,tN y m,⟨h0,h2⟩,_,v9 _ _ _,_,sw _,h1,rfl⟩
  ·refine⟨0,3,.of_tree rfl sO ux ?_,by simp⟩;simp[qV];rw[if_pos h0];refine⟨_,tN y m,?_⟩;simp[h0,h2]
 ·refine⟨0,3,.of_tree rfl sO ux ?_,by simp⟩;simp[qV];rw[if_neg h0];intro a1 a2 a3 a4 a5;exact absurd ⟨⟨⟨⟨a1,a2⟩,a3⟩,a4⟩,a5⟩ h0
theorem XG (r:Realm)(fr to:Int)(hl:r.usances.length≤100000):∃n e:Int,ak T IV [bl r,.int fr,.int to] (.tup [.int n,.int e])∧(e=0→∃u,u∈r.usances∧n=u.days)∧(e=0↔∃u,u∈r.usances∧u.fr=fr∧u.to=to):=by
 let p:Usance→Bool:=fun u=>decide (u.fr=fr)&&decide (u.to=to)
 refine⟨match r.usances.find? p with|some u=>u.days|none=>0,match r.usances.find? p with|some u=>0|none=>4,?_,?_⟩
 ·refine .of_tree rfl X3 ahL ?_;simp[MN];refine aY.scan r.usances.length (fun k=>p (r.usances.getD k default)=false) (fun k=>[.int 0,.int 0,.int k]) (fun _=>[]) ?_ (fun k hk hj aE=>?_) (fun k hk hj aE=>?_) (fun hj=>?_)
  ·simp
  ·have hw:=bE hk (by omega);have hn:¬(r.usances[k].fr=fr∧r.usances[k].to=to):=by simpa [p,hk] using aE
   simp[zI,uf,hk,hw,hn]
  ·have ki:=xP hk (by simpa [hk] using aE) (fun j bS=>by have:=hj j bS;simpa [show j<r.usances.length by omega] using this);have hc:r.usances[k].fr=fr∧r.usances[k].to=to:=by simpa [p,hk] using aE
   rw[ki];simp[zI,uf,hk,hc]
  ·have ki:=Ck (l:=r.usances) (p:=p) (fun j bS=>by have:=hj j bS;simpa [bS] using this);rw[ki];simp[zI,uf]
 ·cases h:r.usances.find? p with
  |none=>
   refine⟨fun h=>(by cases h),fun h=>(by cases h),fun⟨u,hu,h1,h2⟩=>?_⟩;have:=uK.1 h u hu;simp[p,h1,h2] at this
  |some u=>
   have h2:u.fr=fr∧u.to=to:=by simpa [p] using FI h
   exact⟨fun _=>⟨u,pU h,rfl⟩,fun _=>⟨u,pU h,h2⟩,fun _=>rfl⟩
theorem ai4 (r:Realm)(fr to:Int)(hl:r.usances.length≤100000):∃n e:Int,ak T IV [bl r,.int fr,.int to] (.tup [.int n,.int e])∧(e=0→∃u,u∈r.usances∧n=u.days):=by
 obtain⟨n,e,h1,h2,_⟩:=XG r fr to hl;exact⟨n,e,h1,h2⟩
end Rm
namespace Rm
open Go Go.Proofs Cx
theorem Zc (R Y:Int)(hR:0≤R∧R<146097)(h1:365*Y≤R-R/1460+R/36524-R/146096)(h2:R-R/1460+R/36524-R/146096<365*Y+365):0≤R-(365*Y+Y/4-Y/100)∧R-(365*Y+Y/4-Y/100)≤500:=by
 have k0:R/36524≤R/1460:=by omega
 have k1:Y/4≤R/1460:=by omega
 have hY:0≤Y:=by omega
 have hc:R/36524=0∨R/36524=1∨R/36524=2∨R/36524=3∨R/36524=4:=by omega
 have k2:25*(R/36524)≤R/1460:=by omega
 refine⟨?_,?_⟩
 ·rcases Int.lt_or_le Y (100*(R/36524)) with hy|hy
  ·have k3:Y/4≤25*(R/36524)-1:=by omega
   have k4:R/36524-1≤Y/100:=by omega
   omega
  ·have k3:R/36524≤Y/100:=by omega
   omega
 ·omega
theorem Og (n:Int)(h:0≤n∧n≤100400):ak T acN [.int n] (.tup [.int (cO n).1,.int (cO n).2.1,.int (cO n).2.2]):=by
 refine .of_tree rfl ajN aB7 ?_;have w:∀x:Int,-1000000000≤x→x≤1000000000→IntKind.i64.wrap x=x:=fun x a b=>bF (by omega);have t:∀x y:Int,0≤x→x.tdiv y=x/y:=fun x y hx=>FF hx;have u:∀x y:Int,0≤x→x.tmod y=x%y:=fun x y hx=>Xk hx;simp[U0];unfold cO;simp only[];rw[w (n+730425) (by omega) (by omega),u (n+730425) 146097 (by omega),t (n+730425) 146097 (by omega)];have hR:0≤(n+730425)%146097∧(n+730425)%146097<146097:=by omega
 have hE:0≤(n+730425)/146097∧(n+730425)/146097<100:=by omega
 generalize (n+730425)%146097=R at*;generalize (n+730425)/146097=e at*;rw[t R 1460 (by omega),t R 36524 (by omega),t R 146096 (by omega),w (R/1460) (by omega) (by omega),w (R-R/1460) (by omega) (by omega),w (R/36524) (by omega) (by omega),w (R-R/1460+R/36524) (by omega) (by omega),w (R/146096) (by omega) (by omega),w (R-R/1460+R/36524-R/146096) (by omega) (by omega),t (R-R/1460+R/36524-R/146096) 365 (by omega)];have hY:0≤(R-R/1460+R/36524-R/146096)/365∧(R-R/1460+R/36524-R/146096)/365<400:=by omega
 have hD:0≤R-(365*((R-R/1460+R/36524-R/146096)/365)+(R-R/1460+R/36524-R/146096)/365/4-(R-R/1460+R/36524-R/146096)/365/100)∧R-(365*((R-R/1460+R/36524-R/146096)/365)+(R-R/1460+R/36524-R/146096)/365/4-(R-R/1460+R/36524-R/146096)/365/100)≤500:=by
  exact Zc R _ hR (by omega) (by omega)
 generalize (R-R/1460+R/36524-R/146096)/365=Y at*;rw[w Y (by omega) (by omega),w (365*Y) (by omega) (by omega),t Y 4 (by omega),t Y 100 (by omega),w (Y/4) (by omega) (by omega),w (Y/100) (by omega) (by omega),w (365*Y+Y/4) (by omega) (by omega),w (365*Y+Y/4-Y/100) (by omega) (by omega),w (R-(365*Y+Y/4-Y/100)) (by omega) (by omega)];generalize R-(365*Y+Y/4-Y/100)=D at*;rw[w (5*D) (by omega) (by omega),w (5*D+2) (by omega) (by omega),t (5*D+2) 153 (by omega)];have hM:0≤(5*D+2)/153∧(5*D+2)/153≤20:=by omega
 generalize (5*D+2)/153=M at*;rw[w M (by omega) (by omega),w (M+3) (by omega) (by omega),w (M+3-12) (by omega) (by omega),w e (by omega) (by omega),w (400*e) (by omega) (by omega),w (Y+400*e) (by omega) (by omega),w (Y+400*e+1) (by omega) (by omega)];rw[w (153*M) (by omega) (by omega),w (153*M+2) (by omega) (by omega),t (153*M+2) 5 (by omega),w ((153*M+2)/5) (by omega) (by omega),w (D-(153*M+2)/5) (by omega) (by omega),w (D-(153*M+2)/5+1) (by omega) (by omega)];refine⟨?_,?_,rfl⟩
 ·generalize (if 12<M+3 then M+3-12 else M+3)=m;split<;>rfl
 ·split<;>rfl
theorem Xb (d n:Int):∃x e:Int,ak T IS [.int d,.int n] (.tup [.int x,.int e])∧(e=0→0≤x∧x≤100000):=by
 by_cases h0:cI d=true∧-5000≤n∧n≤5000
 ·have hd:0≤d∧d≤100400:=by have:=h0.1;simp[cI] at this;omega
  obtain⟨A,hA⟩:∃A,A=IntKind.i64.wrap (IntKind.i64.wrap (IntKind.i64.wrap (IntKind.i64.wrap (12*(cO d).1)+(cO d).2.1)-1)+n):=⟨_,rfl⟩
  obtain⟨Y,hY⟩:∃Y,Y=IntKind.i64.wrap (A.tdiv 12):=⟨_,rfl⟩
  obtain⟨M,hM⟩:∃M,M=IntKind.i64.wrap (A.tmod 12+1):=⟨_,rfl⟩
  obtain⟨x,e,hD,hb⟩:=aiJ Y M (if kW Y M<(cO d).2.2 then kW Y M else(cO d).2.2);refine⟨x,e,.of_tree rfl No UX ?_,hb⟩;have n1:¬n< -5000:=by omega
  have n2:¬5000<n:=by omega
  simp[Fq,n1,n2];refine⟨_,sw d,?_⟩;simp[h0.1];refine⟨_,Og d hd,?_⟩;simp[←hA,←hY,←hM];refine⟨_,tN Y M,?_⟩;by_cases hl:kW Y M<(cO d).2.2
  ·simp only[if_pos hl] at hD;simp[hl];refine⟨_,hD,?_⟩;simp
  ·simp only[if_neg hl] at hD;simp[hl];refine⟨_,hD,?_⟩;simp
 ·refine⟨0,3,.of_tree rfl No UX ?_,by simp⟩;simp[Fq];refine⟨_,sw d,?_⟩;simp;intro a b c;exact absurd ⟨a,b,c⟩ h0
end Rm
namespace Rm
open Go Go.Proofs Cx
theorem O3 (l:List Int)(x:Int):hasB l x=l.contains x:=by
 rw[q6];simp[hasB]
def zV (c:City):Prop:=c.rest.length≤100000∧c.feasts.length≤100000∧c.shut.length≤100000
theorem aoi (n:Int)(h:0≤n∧n≤100400):(0≤(cO n).2.1∧(cO n).2.1≤30)∧-1000≤(cO n).2.2∧(cO n).2.2≤1000:=by
 unfold cO;simp only[];have hR:0≤(n+730425)%146097∧(n+730425)%146097<146097:=by omega
 generalize (n+730425)%146097=R at*;have hD:=Zc R ((R-R/1460+R/36524-R/146096)/365) hR (by omega) (by omega);generalize (R-R/1460+R/36524-R/146096)/365=Y at*;generalize R-(365*Y+Y/4-Y/100)=D at*;have hM:0≤(5*D+2)/153∧(5*D+2)/153≤20:=by omega
 generalize (5*D+2)/153=M at*;refine⟨?_,by omega,by omega⟩;split<;>omega
theorem afN (c:City)(hc:zV c)(n:Int)(h:0≤n∧n≤100400):ak T acR [fF c,.int n] (.bool (mQ c.rest c.feasts c.shut n)):=by
 refine .of_tree rfl ajQ aCb ?_;simp[U4];refine⟨_,Og n h,?_⟩;have w5:IntKind.i64.wrap (n+5)=n+5:=bF (by omega);have m7:(n+5).tmod 7=(n+5)%7:=Xk (by omega);obtain⟨h1,h2,h3⟩:=hc;simp[w5,m7];refine⟨_,uH c.rest ((n+5)%7) (by omega),?_⟩;unfold mQ;rw[←O3];cases hr:hasB c.rest ((n+5)%7)
 ·obtain⟨jk,dm⟩:=aoi n h;have wm:IntKind.i64.wrap (100*(cO n).2.1)=100*(cO n).2.1:=bF (by omega);have wd:IntKind.i64.wrap (100*(cO n).2.1+(cO n).2.2)=100*(cO n).2.1+(cO n).2.2:=bF (by omega);simp[hr,wm,wd];refine⟨_,uH c.feasts _ (by omega),?_⟩;have e1:=O3 c.feasts (100*(cO n).2.1+(cO n).2.2);have e2:=O3 c.shut n;simp at e1 e2;cases hf:hasB c.feasts (100*(cO n).2.1+(cO n).2.2)
  ·simp[hf,←e1,←e2];exact⟨_,uH c.shut n (by omega),rfl⟩
  ·simp[hf,←e1]
 ·simp[hr]
end Rm
namespace Rm
open Go Go.Proofs Cx
def dP (c:City)(a:Int)(k:Nat):List Int:=((List.range k).map fun(i:Nat)=>a+i).filter (mQ c.rest c.feasts c.shut)
theorem Zh (c:City)(a:Int)(k:Nat):dP c a (k+1)=dP c a k++if mQ c.rest c.feasts c.shut (a+k) then[a+k] else[]:=by
 unfold dP;rw[List.range_succ,me,Ap]
 congr 1
 cases h:mQ c.rest c.feasts c.shut (a+k)<;>simp[h]
theorem aoB (c:City)(a:Int){k n:Nat}(h:k≤n):∃r,dP c a n=dP c a k++r:=by
 induction n with
 |zero=>obtain rfl:k=0:=by omega
        exact⟨[],by simp⟩
 |succ n ih=>
  by_cases e:k=n+1
  ·subst e;exact⟨[],by simp⟩
  ·obtain⟨r,hr⟩:=ih (by omega);exact⟨r++_,by rw[Zh,hr,pQ]⟩
def qf (d:Int):D:=.tup [.int d]
theorem aoC (c:City)(a b:Int):Zj [.ref (.int a),.ref (.int b),.ref (fF c)]=(dP c a (b-a+1).toNat).map qf:=by
 have hi:∀l:List Int,vS (ints l)=l:=fun l=>by
  show(l.map D.int).map D.i=l;rw[FM];exact List.map_id l
 show(Zi (vS (ints c.rest)) (vS (ints c.feasts)) (vS (ints c.shut)) a b).map _=_;rw[hi,hi,hi];rfl
theorem aoz (c:City)(hc:zV c)(a b:Int)(ha:0≤a)(hb:b≤100400)(yb:a≤100400):ak T acP [.ref (.int a),.ref (.int b),.ref (fF c)] (.list ((dP c a (b-a+1).toNat).map qf)):=by
 have tE:=aoC c a b;rw[←tE];obtain⟨N,hN⟩:∃N,N=(b-a+1).toNat:=⟨_,rfl⟩
 refine ak.of_it (pc:=DX) (J:=1000) (k:=1) rfl (fun x hx=>?_) (fun m hm=>?_)
 ·rw[tE] at hx;obtain⟨i,_,rfl⟩:=dx.1 hx;exact⟨_,rfl,rfl⟩
 ·rw[tE] at hm ⊢;rw[←hN] at hm ⊢;refine MQ ?_;rw[aB8];simp[U2];refine aY.forLoop (α:=Nat) (fun k vr vo=>k≤N∧vr=[.int (a+k)]∧vo=[.list ((dP c a k).map qf)]∧(dP c a k).length≤m) (fun k=>N-k) 0 ?_ ?_
  ·simp[apB,dP]
  ·rintro k vr vo ⟨hk,rfl,rfl,mw⟩;by_cases ah:k<N
   ·have hle:a+(k:Int)≤b:=by omega
    have iT:IntKind.i64.wrap (a+(k:Int)+1)=a+((k+1:Nat):Int):=by rw[bF (by omega)];omega
    have bP:=(afN c hc (a+k) (by omega))
    have yB:=Zh c a k;obtain⟨r,hr⟩:=aoB c a (k:=k+1) (n:=N) ah;simp[agL,L1,hle];refine⟨_,bP.yld (by decide),?_⟩;cases hi:mQ c.rest c.feasts c.shut (a+k)
    ·simp[hi] at yB ⊢;exact⟨k+1,by omega,by omega,iT,by rw[yB],by rw[yB];exact mw⟩
    ·simp[hi] at yB ⊢;have hlen:(dP c a (k+1)).length=(dP c a k).length+1:=by rw[yB];simp
     have rN:(dP c a k).map qf++[D.tup [D.int (a+k)]]=(dP c a (k+1)).map qf:=by rw[yB,me];rfl
     have Dn:(dP c a (k+1)).map qf=((dP c a N).map qf).take ((dP c a k).length+1):=by
      rw[hr,me,List.take_append_of_le_length (by simp[hlen]),As (by simp[hlen])]
     have bn:(dP c a k).length<((dP c a N).map qf).length:=by rw[hr];simp[hlen];omega
     rw[rN];refine⟨_,ak.answer Dn bn mw,?_⟩;by_cases vD:(dP c a k).length<m
     ·simp[vD];exact⟨k+1,by omega,by omega,iT,rfl,by omega⟩
     ·obtain rfl:(dP c a k).length=m:=by omega
      simp;rw[Dn]
   ·obtain rfl:k=N:=by omega
    have hle:¬a+(k:Int)≤b:=by omega
    simp[agL,L1,hle];rw[As (by simp;omega)]
end Rm
namespace Rm
open Go Go.Proofs Cx
theorem aoD (c:City)(a b:Int):ak T acO [fF c,.int a,.int b] (.clo acP [.ref (.int a),.ref (.int b),.ref (fF c)]):=by
 refine .of_tree rfl ajO aB9 ?_;simp[U1]
def kQ (d:Int):Int:=if 100000<d+400 then 100000 else d+400
def fy (c:City)(d:Int):Int×Int:=
 if cI d=false then(0,3) else match dP c d (kQ d-d+1).toNat with|[]=>(0,3)|x::_=>(x,0)
theorem aoA {c:City}{a:Int}{k:Nat}{x:Int}(h:x∈dP c a k):a≤x∧x<a+k:=by
 unfold dP at h;obtain⟨h1,_⟩:=cQ.mp h;obtain⟨i,hi,rfl⟩:=dx.mp h1;have:=cd.mp hi;omega
theorem RO {c:City}{d:Int}(h:(fy c d).2=0):cI d=true∧d≤(fy c d).1∧(fy c d).1≤100000:=by
 unfold fy at h ⊢;cases hd:cI d
 ·simp[hd] at h
 ·simp only[hd] at h ⊢;cases hk:dP c d (kQ d-d+1).toNat with
  |nil=>rw[hk] at h;simp at h
  |cons x l=>
   have hm:x∈dP c d (kQ d-d+1).toNat:=by rw[hk];simp
   have:=aoA hm;have he:kQ d≤100000:=by unfold kQ;split<;>omega
   simp[cI] at hd;simp;unfold kQ at*;omega
theorem aiY (c:City)(hc:zV c)(d:Int):ak T acL [fF c,.int d] (.tup [.int (fy c d).1,.int (fy c d).2]):=by
 refine .of_tree rfl ajL aB5 ?_;simp[UY];refine⟨_,sw d,?_⟩;cases hd:cI d
 ·simp[fy,hd]
 have eU:0≤d∧d≤100000:=by simpa [cI] using hd
 have hw:IntKind.i64.wrap (d+400)=d+400:=bF (by omega);have he:kQ d≤100000:=by unfold kQ;split<;>omega
 simp[hd,hw];have hE:(if 100000<d+400 then D.int 100000 else D.int (d+400))=D.int (kQ d):=by unfold kQ;split<;>rfl
 rw[hE];refine⟨_,aoD c d (kQ d),_,_,rfl,_,aoz c hc d (kQ d) eU.1 (by omega) (by omega),?_⟩;cases hk:dP c d (kQ d-d+1).toNat with
 |nil=>
  have hn:fy c d=(0,3):=by unfold fy;simp[hd,hk]
  rw[hn];refine aY.eachR [] (by simp) (fun _ vo=>vo=[.agg [.int 0],.agg [.int 0]]) ?_ (fun k x vo hx hi=>by simp at hx) (fun vo hi=>?_)
  ·simp
  ·subst hi;simp
 |cons x l=>
  have hn:fy c d=(x,0):=by unfold fy;simp[hd,hk]
  rw[hn];refine aY.eachR ((x::l).map qf) (by simp) (fun k vo=>k=0∧vo=[.agg [.int 0],.agg [.int 0]]) ?_ (fun k y vo hx hi=>?_) (fun vo hi=>?_)
  ·simp
  ·obtain⟨rfl,rfl⟩:=hi;simp at hx;subst hx;simp[aAy,Tt,qf];rfl
  ·exact absurd hi.1 (by simp)
end Rm
namespace Rm
open Go Go.Proofs Cx
def MA (o:Int)(d:Int)(h:Halt):Int:=if(h.order=o∧h.fr≤d)∧d≤h.to then h.to+1 else d
def lZ (r:Realm)(o d:Int)(k:Nat):Int:=(r.halts.take k).foldl (MA o) d
theorem ahz (r:Realm)(o d:Int){k:Nat}(hk:k<r.halts.length):lZ r o d (k+1)=MA o (lZ r o d k) r.halts[k]:=by
 unfold lZ;rw[m9 hk,M2];rfl
def sE (r:Realm):Prop:=r.halts.length≤100000∧∀h,h∈r.halts→0≤h.fr∧h.to≤100000
theorem UD {r:Realm}(hh:sE r)(o d:Int)(hd:d≤100001):∀k,k≤r.halts.length→d≤lZ r o d k∧lZ r o d k≤100001
 |0,_=>⟨by simp[lZ],by simpa [lZ] using hd⟩
 |k+1,hk=>by
  obtain⟨h1,h2⟩:=UD hh o d hd k (by omega);rw[ahz r o d (by omega)];have:=hh.2 _ (di (show k<r.halts.length by omega));unfold MA;split<;>omega
def wT (r:Realm)(o:Int):Nat→Int→Int
 |0,d=>d
 |n+1,d=>if lZ r o d r.halts.length=d then d else wT r o n (lZ r o d r.halts.length)
def gx (r:Realm)(o d:Int):Int:=wT r o (100002-d).toNat d
theorem Mz {r:Realm}(hh:sE r)(o:Int):∀(n:Nat) (d:Int),d≤100001→d≤wT r o n d∧wT r o n d≤100001
 |0,d,hd=>⟨Int.le_refl _,hd⟩
 |n+1,d,hd=>by
  obtain⟨h1,h2⟩:=UD hh o d hd r.halts.length (bk _);unfold wT;split
  ·omega
  ·have:=Mz hh o n _ h2;omega
theorem aBw (r:Realm)(hh:sE r)(o d:Int)(h0:0≤d)(hd:d≤100001):ak T ad5 [bl r,.int o,.int d] (.int (gx r o d)):=by
 refine .of_tree rfl ald aDH ?_;simp[Wr];refine aY.forLoop (α:=Int×Bool×Nat) (fun s vr vo=>vr=[.int s.1,.bool s.2.1]∧vo=[]∧d≤s.1∧s.1≤100001∧(s.2.1=true→(100002-s.1).toNat≤s.2.2)∧(s.2.1=true→wT r o s.2.2 s.1=gx r o d)∧(s.2.1=false→s.1=gx r o d)) (fun s=>2*(100001-s.1).toNat+(if s.2.1 then 1 else 0)) (d,true,(100002-d).toNat) ?_ ?_
 ·simp;exact⟨by omega,rfl⟩
 ·rintro⟨e,ch,n⟩ vr vo ⟨rfl,rfl,h1,h2,h3,h4,h5⟩;simp only at*;cases ch
  ·simp[agY,Mi];exact h5 rfl
  ·have h3:=h3 rfl;have h4:=h4 rfl;obtain⟨n,rfl⟩:∃m,n=m+1:=⟨n-1,by omega⟩
   have bJ:=UD hh o e h2;simp[agY,Mi];refine aY.forRounds r.halts.length (fun k=>[.int (lZ r o e k),.bool (decide (e<lZ r o e k)),.int k]) (fun _=>[]) ?_ (fun k hk=>?_) ?_
   ·simp[lZ]
   ·have hw:=bE hk (by have:=hh.1;omega);have cD:=bJ k (by omega);have vK:=hh.2 _ (di hk);rw[ahz r o e hk];unfold MA;generalize lZ r o e k=x at*;by_cases hc:(r.halts[k].order=o∧r.halts[k].fr≤x)∧x≤r.halts[k].to
    ·have dt:IntKind.i64.wrap (r.halts[k].to+1)=r.halts[k].to+1:=bF (by omega);simp[Mh,zL,hk,hw,hc,dt];omega
    ·simp[Mh,zL,hk,hw,hc]
   ·have hE:=bJ r.halts.length (bk _);unfold wT at h4;generalize lZ r o e r.halts.length=x at*;by_cases hx:x=e
    ·rw[if_pos hx] at h4;subst hx;simp[Mh,zL];exact⟨x,by omega,rfl,h1,h2,h4⟩
    ·rw[if_neg hx] at h4;have ah:e<x:=by omega
     simp[Mh,zL,ah];exact⟨x,by omega,rfl,by omega,by omega,n,by omega,h4⟩
def mX (r:Realm)(c:City)(o:Int):Nat→Int→Int×Int
 |0,d=>(d,0)
 |n+1,d=>
  if(fy c (gx r o d)).2≠0 then(0,3)
  else if(fy c (gx r o d)).1=gx r o d then(gx r o d,0)
  else mX r c o n (fy c (gx r o d)).1
theorem Ux (r:Realm)(c:City)(o:Int)(n:Nat)(d:Int):mX r c o (n+1) d=
 if(fy c (gx r o d)).2≠0 then(0,3)
 else if(fy c (gx r o d)).1=gx r o d then(gx r o d,0)
 else mX r c o n (fy c (gx r o d)).1:=rfl
def gV (r:Realm)(city d:Int):Int×Int:=mX r (r.cities.getD city.toNat default) (fB r city) (100002-d).toNat d
theorem Uy (r:Realm)(hh:sE r)(city d:Int)(hc:0≤city∧city<r.cities.length)(hs:∀c,c∈r.cities→zV c)(h0:0≤d)(hd:d≤100001):ak T IX [bl r,.int city,.int d] (.tup [.int (gV r city d).1,.int (gV r city d).2]):=by
 refine .of_tree rfl alc aDG ?_;simp[Wq];refine⟨_,pB r city,?_⟩;have bn:city.toNat<r.cities.length:=by omega
 have Pb:r.cities.getD city.toNat default=r.cities[city.toNat]:=by simp[bn]
 have hsc:=hs _ (di bn);have hF:gV r city d=mX r r.cities[city.toNat] (fB r city) (100002-d).toNat d:=by unfold gV;rw[Pb]
 rw[hF];refine aY.forLoop (α:=Int×Nat) (fun s vr vo=>(∃a b,vr=[.int s.1,a,b])∧vo=[]∧0≤s.1∧s.1≤100001∧(100002-s.1).toNat≤s.2∧mX r r.cities[city.toNat] (fB r city) s.2 s.1=mX r r.cities[city.toNat] (fB r city) (100002-d).toNat d) (fun s=>s.2) (d,(100002-d).toNat) ?_ ?_
 ·simp;omega
 ·rintro⟨e,n⟩ vr vo ⟨⟨a,b,rfl⟩,rfl,h1,h2,h3,h4⟩;simp only at*;obtain⟨n,rfl⟩:∃m,n=m+1:=⟨n-1,by omega⟩
  rw[←h4];have yA:=Mz hh (fB r city) (100002-e).toNat e h2;have hsr:=aBw r hh (fB r city) e h1 h2;rw[Ux];change e≤gx r (fB r city) e∧gx r (fB r city) e≤100001 at yA;generalize gx r (fB r city) e=x at*;have PM:=aiY r.cities[city.toNat] hsc x;have lK:=RO (c:=r.cities[city.toNat]) (d:=x);generalize fy r.cities[city.toNat] x=N at*;obtain⟨y,er⟩:=N;simp only at PM lK;simp[aAI,Uf];refine⟨_,hsr,?_⟩;simp[bn,hc];refine⟨_,PM,?_⟩;by_cases he:er=0
  ·obtain⟨g1,g2,g3⟩:=lK he;by_cases hy:y=x
   ·simp[he,hy]
   ·simp[he,hy];exact⟨y,n,by omega,rfl,by omega,by omega,by omega,rfl⟩
  ·simp[he]
end Rm
namespace Rm
open Go Go.Proofs Cx
structure RightD (r:Realm):Prop where
 small:Small r
 halts:sE r
theorem RightD.cities {r:Realm}(h:RightD r)(c:City)(hc:c∈r.cities):zV c:=by
 obtain⟨h1,h2,h3,_⟩:=h.small.city c hc;exact⟨by omega,by omega,by omega⟩
theorem Ax (d:Int)(t:Tenor):∃n e:Int,ak T DM [.int d,lE t] (.tup [.int n,.int e]):=by
 by_cases h0:t.n<0
 ·refine⟨0,3,.of_tree rfl xw z8 ?_⟩;simp[uA,h0]
 by_cases h1:20000<t.n
 ·refine⟨0,3,.of_tree rfl xw z8 ?_⟩;simp[uA,h0,h1]
 by_cases h2:t.unit=1
 ·obtain⟨n,e,h,_⟩:=Xb d t.n;refine⟨n,e,.of_tree rfl xw z8 ?_⟩;simp[uA,h0,h1,h2];refine⟨_,h,?_⟩;simp
 ·refine⟨IntKind.i64.wrap (d+t.n),0,.of_tree rfl xw z8 ?_⟩;simp[uA,h0,h1,h2]
theorem alC (r:Realm)(hr:RightD r)(b:Bill)(seen:Int):∃n e:Int,ak T yR [bl r,dz b,.int seen] (.tup [.int n,.int e]):=by
 have Ql:D.agg [D.int b.tenor.kind,D.int b.tenor.n,D.int b.tenor.unit]=lE b.tenor:=rfl;by_cases h0:b.tenor.kind=0
 ·refine⟨seen,0,.of_tree rfl uU wU ?_⟩;simp[m0,h0]
 by_cases h1:b.tenor.kind=1
 ·obtain⟨n,e,h⟩:=Ax seen b.tenor;refine⟨n,e,.of_tree rfl uU wU ?_⟩;have cA:(b.tenor.kind=1)=True:=eq_true h1;simp[m0,h0,cA];refine⟨_,h,?_⟩;simp
 by_cases h2:b.tenor.kind=2
 ·obtain⟨n,e,h⟩:=Ax b.day b.tenor;refine⟨n,e,.of_tree rfl uU wU ?_⟩;have jL:(b.tenor.kind=2)=True:=eq_true h2;simp[m0,h0,h1,jL];refine⟨_,h,?_⟩;simp
 by_cases h4:b.tenor.kind=4
 ·obtain⟨n,e,h,_⟩:=ai4 r b.city b.pay (by have:=hr.small.us;omega);refine⟨IntKind.i64.wrap (b.day+n),e,.of_tree rfl uU wU ?_⟩;have mu:(b.tenor.kind=4)=True:=eq_true h4;simp[m0,h0,h1,h2,mu];refine⟨_,h,?_⟩;simp
 ·refine⟨b.tenor.n,0,.of_tree rfl uU wU ?_⟩;simp[m0,h0,h1,h2,h4]
theorem ak.ex_of_tree {tab:Nat→Option PC}{ext:Nat→Option (aT→List D→Option D)}{f:Nat}{pc:PC}{t:PT}{ds:List D}{P:D→Prop}(hx:ext f=none)(ht:tab f=some pc)(he:tree pc=t)
 (h:aO (cH tab ext) t (j9 ds) (fun x=>∃d,x=.ret d∧P d)):∃d,ak (cH tab ext) f ds d∧P d:=by
 subst he;obtain⟨x,⟨d,rfl,hd⟩,n0,hn⟩:=ahO (LB ⟨fun _ _ _ h=>(by obtain⟨_,h,_⟩:=h;cases h),fun _ _ _ _ _ _ h=>(by obtain⟨_,h,_⟩:=h;cases h),fun _ h=>h⟩ h);exact⟨d,.of_pc hx ht ⟨.ret d,rfl,n0,hn⟩,hd⟩
def FQ (d:D):Prop:=∃n e:Int,d=.tup [.int n,.int e]
@[simp] theorem aGH (n e:Int):FQ (.tup [.int n,.int e])=True:=eq_true ⟨n,e,rfl⟩
theorem xd (r:Realm)(hr:RightD r)(b:Bill)(seen bW:Int):∃d,ak T DL [bl r,dz b,.int seen,.int bW] d∧FQ d:=by
 have Ql:D.agg [D.int b.tenor.kind,D.int b.tenor.n,D.int b.tenor.unit]=lE b.tenor:=rfl;have jm:=Mk r hr.small;refine ak.ex_of_tree rfl Nr Wm ?_;simp[Fs];refine⟨_,jm,?_⟩;by_cases h0:hH r=0
 case neg=>simp[h0]
 simp[h0];refine⟨_,yJ r b.city,?_⟩;cases h1:aA b.city r.cities.length
 ·simp[h1]
 simp[h1];refine⟨_,yJ r b.pay,?_⟩;cases h2:aA b.pay r.cities.length
 ·simp[h2]
 simp[h2];refine⟨_,tJ b.day,?_⟩;cases h3:cI b.day
 ·simp[h3]
 simp[h3];intro _ _ _ _;have hp:0≤b.pay∧b.pay<r.cities.length:=by simpa [aA] using h2
 have fin:0≤bW→bW≤20000→∃d,ak T yR [bl r,dz b,D.int seen] d∧
  if(d.tget 1).i=0 then ∃d1,ak T IW [d.tget 0] d1∧(d1.b=true→IntKind.i64.wrap ((d.tget 0).i+bW)≤100000→
        ∃d2,ak T IX [bl r,D.int b.pay,D.int (IntKind.i64.wrap ((d.tget 0).i+bW))] d2∧FQ (D.tup [d2.tget 0,d2.tget 1]))
  else FQ (D.tup [D.int 0,d.tget 1]):=by
  intro vw kS;obtain⟨n,e,h⟩:=alC r hr b seen;refine⟨_,h,?_⟩;by_cases he:e=0
  ·simp[he];refine⟨_,tJ n,?_⟩;cases hd:cI n
   ·simp[hd]
   have eU:0≤n∧n≤100000:=by simpa [cI] using hd
   have hw:IntKind.i64.wrap (n+bW)=n+bW:=bF (by omega);simp[hd,hw];intro hle;refine⟨_,Uy r hr.halts b.pay (n+bW) hp hr.cities (by omega) (by omega),?_⟩;simp
  ·simp[he]
 by_cases hs:seen=-1
 ·simp[hs] at fin ⊢;intro vw kS;refine⟨_,Av b.tenor,?_⟩;simp;intro _;exact fin vw kS
 ·simp[hs] at fin ⊢;refine⟨_,tJ seen,?_⟩;cases hk:cI seen
  ·simp[hk]
  simp[hk];intro vw kS;exact⟨⟨_,Av b.tenor⟩,fin vw kS⟩
noncomputable def qa (r:Realm)(b:Bill)(seen bW:Int):Int×Int:=
 open Classical in if h:RightD r then((xd r h b seen bW).choose_spec.2.choose,(xd r h b seen bW).choose_spec.2.choose_spec.choose) else(0,0)
theorem MZ (r:Realm)(hr:RightD r)(b:Bill)(seen bW:Int):ak T DL [bl r,dz b,.int seen,.int bW] (.tup [.int (qa r b seen bW).1,.int (qa r b seen bW).2]):=by
 have h:=(xd r hr b seen bW).choose_spec.2.choose_spec.choose_spec;have h1:=(xd r hr b seen bW).choose_spec.1;rw[h] at h1;have e:qa r b seen bW=((xd r hr b seen bW).choose_spec.2.choose,(xd r hr b seen bW).choose_spec.2.choose_spec.choose):=by unfold qa;rw[dif_pos hr]
 rw[e];exact h1
noncomputable def fL (r:Realm)(au:Int)(f:File)(day:Int):Int:=
 if(aX f day).signs=[] then-1
 else if(qa r f.bill (gi (aX f day)) (max (nM (gG r au 6 (aX f day) day)) 0)).2≠0 then-1
 else(qa r f.bill (gi (aX f day)) (max (nM (gG r au 6 (aX f day) day)) 0)).1
@[simp] theorem aKe (x:File)(a0 a1 a2 a3 a4 a5 a6 a7 a8 a9 nf ng ni nj nk pY pZ p5 rh:D):(eh [a0,a1,a2,a3,a4,a5,a6,a7,a8,a9,nf,ng,ni,nj,nk,pY,pZ,p5,rh] 0 [.int x.bill.drawer,.int x.bill.drawee,.int x.bill.payee,.int x.bill.sum,.int x.bill.currency,.int x.bill.tenor.kind,.int x.bill.tenor.n,.int x.bill.tenor.unit,.int x.bill.day,.int x.bill.city,.int x.bill.pay,.int x.bill.need,.int x.bill.rate,.int x.bill.flags,.int x.bill.parts,signs x.signs,alters x.alters,acts x.acts,facts x.facts])[15]?.getD D.none=signs x.signs:=_root_.id rfl
theorem M9 (r:Realm)(hr:Right r)(hd:RightD r)(au:Int)(f:File)(day:Int)(hf:FewS f):ak T acB [bl r,.int au,cZ f,.int day] (.int (fL r au f day)):=by
 refine .of_tree rfl ajB aBS ?_;simp[UN];refine⟨_,ag3 f day (by have:=hf.signs;omega) (by have:=hf.acts;omega) (by have:=hf.alters;omega) (by have:=hf.facts;omega),?_⟩;have hg:=hf.at_ day;have hb:(aX f day).bill=f.bill:=rfl;unfold fL;generalize aX f day=g at*;simp;by_cases h0:g.signs=[]
 ·simp[h0]
 simp[h0];refine⟨_,Nm r hr au 6 g day hg,_,XT _,_,aAQ g (by have:=hg.signs;omega) (by have:=hg.acts;omega),?_⟩;have hm:(if(D.int (nM (gG r au 6 g day))).i<0 then D.int 0 else D.int (nM (gG r au 6 g day)))=D.int (max (nM (gG r au 6 g day)) 0):=by
  simp only[aoG];split
  ·rw[Int.max_eq_right (by omega)]
  ·rw[Int.max_eq_left (by omega)]
 rw[hm,hb];refine⟨_,MZ r hd f.bill _ _,?_⟩;by_cases he:(qa r f.bill (gi g) (max (nM (gG r au 6 g day)) 0)).2=0<;>simp[he]
end Rm
namespace Rm
open Go Go.Proofs Cx
def Aa (fr to:Int)(u:Usance):Bool:=decide (u.fr=fr)&&decide (u.to=to)
def qX (l:List Usance)(fr to:Int):Int×Int:=match l.find? (Aa fr to) with|some u=>(u.days,0)|none=>(0,4)
theorem ai3 (r:Realm)(fr to:Int)(hl:r.usances.length≤100000):ak T IV [bl r,.int fr,.int to] (.tup [.int (qX r.usances fr to).1,.int (qX r.usances fr to).2]):=by
 refine .of_tree rfl X3 ahL ?_;simp[MN];unfold qX;refine aY.scan r.usances.length (fun k=>Aa fr to (r.usances.getD k default)=false) (fun k=>[.int 0,.int 0,.int k]) (fun _=>[]) ?_ (fun k hk hj aE=>?_) (fun k hk hj aE=>?_) (fun hj=>?_)
 ·simp
 ·have hw:=bE hk (by omega);have hn:¬(r.usances[k].fr=fr∧r.usances[k].to=to):=by simpa [Aa,hk] using aE
  simp[zI,uf,hk,hw,hn]
 ·have ki:=xP hk (by simpa [hk] using aE) (fun j bS=>by have:=hj j bS;simpa [show j<r.usances.length by omega] using this);have hc:r.usances[k].fr=fr∧r.usances[k].to=to:=by simpa [Aa,hk] using aE
  rw[ki];simp[zI,uf,hk,hc]
 ·have ki:=Ck (l:=r.usances) (p:=Aa fr to) (fun j bS=>by have:=hj j bS;simpa [bS] using this);rw[ki];simp[zI,uf]
noncomputable def xm (d:Int)(t:Tenor):Int×Int:=((Ax d t).choose,(Ax d t).choose_spec.choose)
theorem Nj (d:Int)(t:Tenor):ak T DM [.int d,lE t] (.tup [.int (xm d t).1,.int (xm d t).2]):=(Ax d t).choose_spec.choose_spec
noncomputable def nm (l:List Usance)(b:Bill)(seen:Int):Int×Int:=
 if b.tenor.kind=0 then(seen,0) else if b.tenor.kind=1 then xm seen b.tenor else if b.tenor.kind=2 then xm b.day b.tenor
 else if b.tenor.kind=4 then(IntKind.i64.wrap (b.day+(qX l b.city b.pay).1),(qX l b.city b.pay).2) else(b.tenor.n,0)
theorem alB (r:Realm)(hr:RightD r)(b:Bill)(seen:Int):ak T yR [bl r,dz b,.int seen] (.tup [.int (nm r.usances b seen).1,.int (nm r.usances b seen).2]):=by
 have Ql:D.agg [D.int b.tenor.kind,D.int b.tenor.n,D.int b.tenor.unit]=lE b.tenor:=rfl;refine .of_tree rfl uU wU ?_;unfold nm;by_cases h0:b.tenor.kind=0
 ·simp[m0,h0]
 by_cases h1:b.tenor.kind=1
 ·have h:=Nj seen b.tenor;have cA:(b.tenor.kind=1)=True:=eq_true h1;simp[m0,h0,cA];exact⟨_,h,by simp⟩
 by_cases h2:b.tenor.kind=2
 ·have h:=Nj b.day b.tenor;have jL:(b.tenor.kind=2)=True:=eq_true h2;simp[m0,h0,h1,jL];exact⟨_,h,by simp⟩
 by_cases h4:b.tenor.kind=4
 ·have h:=ai3 r b.city b.pay (by have:=hr.small.us;omega);have mu:(b.tenor.kind=4)=True:=eq_true h4;simp[m0,h0,h1,h2,mu];exact⟨_,h,by simp⟩
 ·simp[m0,h0,h1,h2,h4]
def DA (r:Realm)(pay bW:Int)(x:Int×Int):Int×Int:=
 if x.2≠0 then(0,x.2) else if cI x.1=false∨100000<IntKind.i64.wrap (x.1+bW) then(0,3) else gV r pay (IntKind.i64.wrap (x.1+bW))
noncomputable def ml (r:Realm)(b:Bill)(seen bW:Int):Int×Int:=
 if hH r≠0∨aA b.city r.cities.length=false∨aA b.pay r.cities.length=false∨cI b.day=false then(0,1)
 else if((b.tenor.kind<0∨5≤b.tenor.kind)∨b.tenor.unit<0)∨2≤b.tenor.unit then(0,1)
 else if((¬seen=-1∧cI seen=false)∨bW<0)∨20000<bW then(0,1)
 else if qP b.tenor=true∧seen=-1 then(0,4)
 else DA r b.pay bW (nm r.usances b seen)
theorem aiK (r:Realm)(hr:RightD r)(b:Bill)(seen bW:Int):ak T DL [bl r,dz b,.int seen,.int bW] (.tup [.int (ml r b seen bW).1,.int (ml r b seen bW).2]):=by
 have Ql:D.agg [D.int b.tenor.kind,D.int b.tenor.n,D.int b.tenor.unit]=lE b.tenor:=rfl;have jm:=Mk r hr.small;obtain⟨G,hG⟩:∃G,G=ml r b seen bW:=⟨_,rfl⟩
 rw[←hG];unfold ml at hG;refine .of_tree rfl Nr Wm ?_;simp[Fs];refine⟨_,jm,?_⟩;by_cases h0:hH r=0
 case neg=>simp[h0] at hG ⊢;simp[hG]
 simp[h0] at hG ⊢;refine⟨_,yJ r b.city,?_⟩;cases h1:aA b.city r.cities.length
 ·simp[h1] at hG ⊢;simp[hG]
 simp[h1] at hG ⊢;refine⟨_,yJ r b.pay,?_⟩;cases h2:aA b.pay r.cities.length
 ·simp[h2] at hG ⊢;simp[hG]
 simp[h2] at hG ⊢;refine⟨_,tJ b.day,?_⟩;cases h3:cI b.day
 ·simp[h3] at hG ⊢;simp[hG]
 simp[h3] at hG ⊢;have hp:0≤b.pay∧b.pay<r.cities.length:=by simpa [aA] using h2
 by_cases h4:((b.tenor.kind<0∨5≤b.tenor.kind)∨b.tenor.unit<0)∨2≤b.tenor.unit
 ·rw[if_pos h4] at hG ⊢;simp[hG]
 rw[if_neg h4] at hG ⊢;have fin:G=DA r b.pay bW (nm r.usances b seen)→0≤bW→bW≤20000→∃d,ak T yR [bl r,dz b,D.int seen] d∧
  if(d.tget 1).i=0 then ∃d1,ak T IW [d.tget 0] d1∧(if d1.b=false∨100000<IntKind.i64.wrap ((d.tget 0).i+bW) then 0=G.1∧3=G.2 else
        ∃d2,ak T IX [bl r,D.int b.pay,D.int (IntKind.i64.wrap ((d.tget 0).i+bW))] d2∧d2.tget 0=D.int G.1∧d2.tget 1=D.int G.2)
  else 0=G.1∧d.tget 1=D.int G.2:=by
  intro hG vw kS;refine⟨_,alB r hr b seen,?_⟩;unfold DA at hG;generalize nm r.usances b seen=B at*;obtain⟨n,e⟩:=B;by_cases he:e=0
  ·simp[he] at hG ⊢;refine⟨_,tJ n,?_⟩;cases hd:cI n
   ·simp[hd] at hG ⊢;simp[hG]
   have eU:0≤n∧n≤100000:=by simpa [cI] using hd
   have hw:IntKind.i64.wrap (n+bW)=n+bW:=bF (by omega);simp[hd,hw] at hG ⊢;by_cases hle:100000<n+bW
   ·rw[if_pos hle] at hG ⊢;simp[hG]
   ·rw[if_neg hle] at hG ⊢;refine⟨_,Uy r hr.halts b.pay (n+bW) hp hr.cities (by omega) (by omega),?_⟩;simp[hG]
  ·simp[he] at hG ⊢;simp[hG]
 by_cases hs:seen=-1
 ·simp[hs] at fin hG ⊢;by_cases h5:bW<0∨20000<bW
  ·rw[if_pos h5] at hG ⊢;simp[hG]
  rw[if_neg h5] at hG ⊢;refine⟨_,Av b.tenor,?_⟩;cases h6:qP b.tenor
  ·simp[h6] at hG ⊢;exact fin hG (by omega) (by omega)
  ·simp[h6] at hG ⊢;simp[hG]
 ·simp[hs] at fin hG ⊢;refine⟨_,tJ seen,?_⟩;cases hk:cI seen
  ·simp[hk] at hG ⊢;simp[hG]
  simp[hk] at hG ⊢;by_cases h5:bW<0∨20000<bW
  ·rw[if_pos h5] at hG ⊢;simp[hG]
  rw[if_neg h5] at hG ⊢;exact⟨⟨_,Av b.tenor⟩,fin hG (by omega) (by omega)⟩
theorem Hn {r:Realm}(hr:RightD r)(b:Bill)(seen bW:Int):qa r b seen bW=ml r b seen bW:=by
 have h:=(MZ r hr b seen bW).det (aiK r hr b seen bW);simp at h;exact Prod.ext h.1 h.2
end Rm
namespace Rm
open Go Go.Proofs Cx
def tR (y m d:Int):Int:=if m<3 then 365*(y-1)+(y-1)/4-(y-1)/100+(y-1)/400+(153*(m+9)+2)/5+d-1-730425 else 365*y+y/4-y/100+y/400+(153*(m-3)+2)/5+d-1-730425
theorem I2 (y m d:Int)(hy:1≤y∧y≤10000)(hm:1≤m∧m≤12)(hd:-1000≤d∧d≤1000):tS y m d=tR y m d:=by
 have w:∀x:Int,-1000000000≤x→x≤1000000000→IntKind.i64.wrap x=x:=fun x a b=>bF (by omega);have t:∀x y:Int,0≤x→x.tdiv y=x/y:=fun x y hx=>FF hx;have h:ak T IT [.int y,.int m,.int d] (.int (tR y m d)):=by
  refine .of_tree rfl Np U3 ?_;unfold tR;by_cases h3:m<3
  ·simp[z7,h3];rw[w (y-1) (by omega) (by omega),w (m+12) (by omega) (by omega)];rw[w (m+12-3) (by omega) (by omega),w (365*(y-1)) (by omega) (by omega),w (153*(m+12-3)) (by omega) (by omega)];rw[w (153*(m+12-3)+2) (by omega) (by omega),t (y-1) 4 (by omega),t (y-1) 100 (by omega),t (y-1) 400 (by omega),t _ 5 (by omega)];rw[w ((y-1)/4) (by omega) (by omega),w ((y-1)/100) (by omega) (by omega),w ((y-1)/400) (by omega) (by omega),w ((153*(m+12-3)+2)/5) (by omega) (by omega)];rw[w (365*(y-1)+(y-1)/4) (by omega) (by omega),w (365*(y-1)+(y-1)/4-(y-1)/100) (by omega) (by omega),w (365*(y-1)+(y-1)/4-(y-1)/100+(y-1)/400) (by omega) (by omega)];rw[w (365*(y-1)+(y-1)/4-(y-1)/100+(y-1)/400+(153*(m+12-3)+2)/5) (by omega) (by omega),w (365*(y-1)+(y-1)/4-(y-1)/100+(y-1)/400+(153*(m+12-3)+2)/5+d) (by omega) (by omega),w (365*(y-1)+(y-1)/4-(y-1)/100+(y-1)/400+(153*(m+12-3)+2)/5+d-1) (by omega) (by omega),w _ (by omega) (by omega)];omega
  ·simp[z7,h3];rw[w (m-3) (by omega) (by omega),w (365*y) (by omega) (by omega),w (153*(m-3)) (by omega) (by omega)];rw[w (153*(m-3)+2) (by omega) (by omega),t y 4 (by omega),t y 100 (by omega),t y 400 (by omega),t _ 5 (by omega)];rw[w (y/4) (by omega) (by omega),w (y/100) (by omega) (by omega),w (y/400) (by omega) (by omega),w ((153*(m-3)+2)/5) (by omega) (by omega)];rw[w (365*y+y/4) (by omega) (by omega),w (365*y+y/4-y/100) (by omega) (by omega),w (365*y+y/4-y/100+y/400) (by omega) (by omega)];rw[w (365*y+y/4-y/100+y/400+(153*(m-3)+2)/5) (by omega) (by omega),w (365*y+y/4-y/100+y/400+(153*(m-3)+2)/5+d) (by omega) (by omega),w (365*y+y/4-y/100+y/400+(153*(m-3)+2)/5+d-1) (by omega) (by omega),w _ (by omega) (by omega)]
 have h2:=h.det (v9 y m d);simpa using h2.symm
def kz (K:Int):Int:=365*(K/12)+K/12/4-K/12/100+K/12/400+(153*(K%12)+2)/5-730425
theorem DO (y m d:Int)(hm:1≤m∧m≤12):tR y m d=kz (12*y+m-3)+d-1:=by
 unfold tR kz;by_cases h:m<3
 ·rw[if_pos h];have e1:(12*y+m-3)/12=y-1:=by omega
  have e2:(12*y+m-3)%12=m+9:=by omega
  rw[e1,e2];omega
 ·rw[if_neg h];have e1:(12*y+m-3)/12=y:=by omega
  have e2:(12*y+m-3)%12=m-3:=by omega
  rw[e1,e2];omega
theorem acy (K:Int)(hK:0≤K):kz K+28≤kz (K+1):=by
 unfold kz;by_cases h:K%12=11
 ·have e1:(K+1)/12=K/12+1:=by omega
  have e2:(K+1)%12=0:=by omega
  rw[e1,e2,h];generalize K/12=Y;omega
 ·have e1:(K+1)/12=K/12:=by omega
  have e2:(K+1)%12=K%12+1:=by omega
  rw[e1,e2];generalize K/12/4=a;generalize K/12/100=b;generalize K/12/400=c;omega
theorem Ro (K:Int)(hK:0≤K):∀n:Nat,kz K+28*n≤kz (K+n)
 |0=>by simp
 |n+1=>by
  have h1:=Ro K hK n;have h2:=acy (K+n) (by omega);have e:K+((n+1:Nat):Int)=K+n+1:=by omega
  rw[e];omega
theorem ayr (y m:Int)(hy:1≤y∧y≤9000)(hm:1≤m∧m≤12):kW y m=kz (12*y+m-3+1)-kz (12*y+m-3):=by
 unfold kW;by_cases h:m=12
 ·rw[if_pos h];subst h;unfold kz;have e1:(12*y+12-3)/12=y:=by omega
  have e2:(12*y+12-3)%12=9:=by omega
  have e3:(12*y+12-3+1)/12=y:=by omega
  have e4:(12*y+12-3+1)%12=10:=by omega
  rw[e1,e2,e3,e4];omega
 ·rw[if_neg h];have w1:IntKind.i64.wrap (m+1)=m+1:=bF (by omega);rw[w1,I2 y (m+1) 1 (by omega) (by omega) (by omega),I2 y m 1 (by omega) (by omega) (by omega),DO _ _ _ (by omega),DO _ _ _ (by omega)];have e:12*y+(m+1)-3=12*y+m-3+1:=by omega
  rw[e];have hb:∀K:Int,0≤K→K≤200000→-10000000≤kz K∧kz K≤10000000:=by
   intro K h1 h2;unfold kz;omega
  have b1:=hb (12*y+m-3+1) (by omega) (by omega);have b2:=hb (12*y+m-3) (by omega) (by omega);rw[bF (by omega)];omega
end Rm
namespace Rm
open Go Go.Proofs Cx
theorem aok (R:Int)(hR:0≤R∧R<146097):(0≤(R-R/1460+R/36524-R/146096)/365∧(R-R/1460+R/36524-R/146096)/365≤399)∧
 0≤R-(365*((R-R/1460+R/36524-R/146096)/365)+(R-R/1460+R/36524-R/146096)/365/4-(R-R/1460+R/36524-R/146096)/365/100)∧
 R-(365*((R-R/1460+R/36524-R/146096)/365)+(R-R/1460+R/36524-R/146096)/365/4-(R-R/1460+R/36524-R/146096)/365/100)≤365:=by
 by_cases h4:R=146096
 ·subst h4;decide
 have hc:R/146096=0:=by omega
 have hb:R/36524=0∨R/36524=1∨R/36524=2∨R/36524=3:=by omega
 obtain⟨b,CG⟩:∃b,b=R/36524:=⟨_,rfl⟩
 obtain⟨u,hu⟩:∃u,u=(R-36524*b)/1461:=⟨_,rfl⟩
 obtain⟨w,hw⟩:∃w,w=R-36524*b-1461*u:=⟨_,rfl⟩
 have dm:0≤b∧b≤3:=by omega
 have dt:0≤w∧w≤1460:=by omega
 have hu2:0≤u∧u≤24:=by omega
 have OY:R=36524*b+1461*u+w:=by omega
 rw[hc,←CG];obtain⟨a,ha⟩:∃a,a=R/1460:=⟨_,rfl⟩
 rw[←ha];have key:∀k:Int,0≤k→k≤3→365*k≤w→(k<3→w<365*k+365)→(R-a+b-0)/365=100*b+4*u+k:=by
  intro k k0 k3 h1 h2;by_cases hk:k=3
  ·subst hk;have:a=25*b+u∨a=25*b+u+1:=by omega
   rcases this with e|e
   ·by_cases Iw:w=1460
    ·omega
    ·omega
   ·omega
  ·have:=h2 (by omega);have e:a=25*b+u:=by omega
   omega
 have hk:∃k:Int,0≤k∧k≤3∧365*k≤w∧(k<3→w<365*k+365):=by
  by_cases h1:w<365
  ·exact⟨0,by omega⟩
  by_cases h2:w<730
  ·exact⟨1,by omega⟩
  by_cases h3:w<1095
  ·exact⟨2,by omega⟩
  ·exact⟨3,by omega⟩
 obtain⟨k,k0,k3,h1,h2⟩:=hk;rw[key k k0 k3 h1 h2];have e1:(100*b+4*u+k)/4=25*b+u:=by omega
 have e2:(100*b+4*u+k)/100=b:=by omega
 rw[e1,e2];refine⟨by omega,by omega,?_⟩;by_cases ko:k=3
 ·subst ko;omega
 ·have:=h2 (by omega);omega
theorem aoj (n:Int)(h:0≤n∧n≤100400):(1≤(cO n).2.1∧(cO n).2.1≤12)∧(1≤(cO n).2.2∧(cO n).2.2≤31)∧(1000≤(cO n).1∧(cO n).1≤3000)∧tR (cO n).1 (cO n).2.1 (cO n).2.2=n:=by
 unfold cO;simp only[];obtain⟨R,OY⟩:∃R,R=(n+730425)%146097:=⟨_,rfl⟩
 obtain⟨E,Z4⟩:∃E,E=(n+730425)/146097:=⟨_,rfl⟩
 have hn:n=146097*E+R-730425:=by omega
 have hE:E=4∨E=5:=by omega
 have hR:0≤R∧R<146097:=by omega
 rw[←OY,←Z4];clear OY Z4;obtain⟨⟨y0,y1⟩,d0,d1⟩:=aok R hR;generalize (R-R/1460+R/36524-R/146096)/365=Y at*;obtain⟨D,hD⟩:∃D,D=R-(365*Y+Y/4-Y/100):=⟨_,rfl⟩
 rw[←hD] at d0 d1 ⊢;obtain⟨M,hM⟩:∃M,M=(5*D+2)/153:=⟨_,rfl⟩
 rw[←hM];have OX:0≤M∧M≤11:=by omega
 have Pe:1≤D-(153*M+2)/5+1∧D-(153*M+2)/5+1≤31:=by omega
 have q4:(Y+400*E)/4=Y/4+100*E:=by omega
 have af5:(Y+400*E)/100=Y/100+4*E:=by omega
 have af6:(Y+400*E)/400=E:=by omega
 by_cases xX:12<M+3
 ·rw[if_pos xX];have h3:M+3-12<3:=by omega
  rw[if_pos h3];refine⟨by omega,Pe,by omega,?_⟩;unfold tR;rw[if_pos h3];have e:Y+400*E+1-1=Y+400*E:=by omega
  have e2:M+3-12+9=M:=by omega
  rw[e,e2,q4,af5,af6];omega
 ·rw[if_neg xX];have h3:¬M+3<3:=by omega
  rw[if_neg h3];refine⟨by omega,Pe,by omega,?_⟩;unfold tR;rw[if_neg h3];have e2:M+3-3=M:=by omega
  rw[e2,q4,af5,af6];omega
theorem aiI (y m d:Int):ak T DI [.int y,.int m,.int d] (.tup [.int (tS y m d),.int 0])∨ak T DI [.int y,.int m,.int d] (.tup [.int 0,.int 3]):=by
 by_cases h0:(((2000≤y∧y≤2300)∧1≤m)∧m≤12)∧1≤d
 ·by_cases h2:d≤kW y m
  ·cases h1:cI (tS y m d)
   ·refine .inr (.of_tree rfl sO ux ?_);simp[qV];rw[if_pos h0];refine⟨_,tN y m,?_⟩;simp[h0,h2];refine⟨_,v9 _ _ _,_,sw _,?_⟩;simp[h1]
   ·refine .inl (.of_tree rfl sO ux ?_);simp[qV];rw[if_pos h0];exact⟨_,tN y m,⟨h0,h2⟩,_,v9 _ _ _,_,sw _,h1,rfl⟩
  ·refine .inr (.of_tree rfl sO ux ?_);simp[qV];rw[if_pos h0];refine⟨_,tN y m,?_⟩;simp[h0,h2]
 ·refine .inr (.of_tree rfl sO ux ?_);simp[qV];rw[if_neg h0];intro a1 a2 a3 a4 a5;exact absurd ⟨⟨⟨⟨a1,a2⟩,a3⟩,a4⟩,a5⟩ h0
theorem ays (d n x e:Int)(hd:0≤d∧d≤100000)(hn:1≤n∧n≤5000)(h:ak T IS [.int d,.int n] (.tup [.int x,.int e]))(he:e=0):d≤x:=by
 obtain⟨hm,Pe,hy,auz⟩:=aoj d (by omega);have atl:=Og d (by omega);generalize (cO d).1=y at*;generalize (cO d).2.1=m at*;generalize (cO d).2.2=rp at*;obtain⟨A,hA⟩:∃A,A=12*y+m-1+n:=⟨_,rfl⟩
 have wA:IntKind.i64.wrap (IntKind.i64.wrap (IntKind.i64.wrap (IntKind.i64.wrap (12*y)+m)-1)+n)=A:=by
  rw[bF (n:=12*y) (by omega),bF (n:=12*y+m) (by omega),bF (n:=12*y+m-1) (by omega),bF (by omega)];exact hA.symm
 have wY:IntKind.i64.wrap (A.tdiv 12)=A/12:=by rw[FF (by omega)];exact bF (by omega)
 have wM:IntKind.i64.wrap (A.tmod 12+1)=A%12+1:=by rw[Xk (by omega)];exact bF (by omega)
 have hL:=ayr (A/12) (A%12+1) (by omega) (by omega);have n1:¬n< -5000:=by omega
 have n2:¬5000<n:=by omega
 have hv:cI d=true:=by simp[cI];omega
 have cr:=sw d;rw[hv] at cr;have fin:∀r:D,ak T DI [.int (A/12),.int (A%12+1),.int (if kW (A/12) (A%12+1)<rp then kW (A/12) (A%12+1) else rp)] r→ak T IS [.int d,.int n] (.tup [r.tget 0,r.tget 1]):=by
  intro r hr;refine .of_tree rfl No UX ?_;simp[Fq,n1,n2];refine⟨_,cr,?_⟩;simp;refine⟨_,atl,?_⟩;simp[wA,wY,wM];refine⟨_,tN _ _,?_⟩;by_cases hl:kW (A/12) (A%12+1)<rp
  ·rw[if_pos hl] at hr;simp[hl];exact⟨_,hr,rfl,rfl⟩
  ·rw[if_neg hl] at hr;simp[hl];exact⟨_,hr,rfl,rfl⟩
 have hK:12*(A/12)+(A%12+1)-3=12*y+m-3+n:=by omega
 have kS:=Ro (12*y+m-3) (by omega) n.toNat;have fo:=Ro (12*y+m-3) (by omega) (n.toNat+1);have en:((n.toNat:Nat):Int)=n:=by omega
 have en2:((n.toNat+1:Nat):Int)=n+1:=by omega
 rw[en] at kS;rw[en2] at fo;have e3:12*y+m-3+(n+1)=12*y+m-3+n+1:=by omega
 rw[e3] at fo;have vn:=DO y m rp hm;rw[auz] at vn;rw[hK] at hL;rcases aiI (A/12) (A%12+1) (if kW (A/12) (A%12+1)<rp then kW (A/12) (A%12+1) else rp) with hD|hD
 ·have h2:=(fin _ hD).det h;simp at h2;obtain⟨h2,_⟩:=h2;rw[←h2];have hb:∀K:Int,0≤K→K≤200000→-10000000≤kz K∧kz K≤10000000:=by
   intro K h1 h2;unfold kz;omega
  by_cases hl:kW (A/12) (A%12+1)<rp
  ·rw[if_pos hl];have hs:=acy (12*y+m-3+n) (by omega);rw[I2 _ _ _ (by omega) (by omega) (by omega),DO _ _ _ (by omega),hK,hL];omega
  ·rw[if_neg hl];rw[I2 _ _ _ (by omega) (by omega) (by omega),DO _ _ _ (by omega),hK];omega
 ·have h2:=(fin _ hD).det h;simp at h2;omega
end Rm
namespace Rm
open Go Go.Proofs Cx
end Rm
namespace Rm
open Go Go.Proofs Cx
theorem Hv {n:Nat}{f:Nat→Int}(h:fj n f=0)(k:Nat)(hk:k<n):f k=0:=ZJ.1 h k hk
theorem aob {r:Realm}(h:hH r=0)(k:Nat)(hk:k<r.orders.length):po r.orders[k]=true:=by
 unfold hH at h;rw[Mu] at h;have h1:=h (eJ (eH r) 20 (mR r)) (by simp);unfold eJ at h1;split at h1
 ·cases h1
 have h2:=Hv h1 k (by simpa [eH] using hk);have h3:=(Cm h2).2;unfold mR at h3;simpa [hk] using h3
theorem asB {r:Realm}(hs:Small r)(h:hH r=0):Al r:=by
 intro o ho;obtain⟨k,hk,rfl⟩:=jB ho;have h1:=aob h k hk;obtain⟨hc,_⟩:=hs.order _ ho;refine⟨by omega,fun ch lH=>?_⟩;unfold po at h1;simp only[ar] at h1;obtain⟨j,hj,rfl⟩:=jB lH;have h2:=xo.1 h1.1 j hj;simpa [aA,hj] using h2
theorem asC {r:Realm}(hs:Small r)(h:hH r=0):sE r:=by
 refine⟨by have:=hs.halts;omega,fun x hx=>?_⟩;obtain⟨k,hk,rfl⟩:=jB hx;unfold hH at h;rw[Mu] at h;have h1:=h (nY r) (by simp);unfold nY at h1;split at h1
 ·cases h1
 split at h1
 ·cases h1
 split at h1
 ·cases h1
 split at h1
 ·rename_i aV;have h2:=xo.1 aV k hk;simp[s9,wi,aA,hk] at h2;omega
 ·cases h1
structure Good (r:Realm) (f:File):Prop where
 right:Right r
 rightD:RightD r
 few:FewS f
theorem asD {r:Realm}{f:File}(hr:r.OK)(h:xV r f=true):Good r f:=by
 unfold xV rC at h;simp only[ar,decide_eq_true_eq] at h;obtain⟨⟨⟨h1,h2⟩,h3⟩,h4⟩:=h;have hs:=OE hr h1;refine⟨⟨asB hs h4,by have:=hs.orders;omega,fun o ho=>?_⟩,⟨hs,asC hs h4⟩,?_⟩
 ·have:=hs.order o ho;refine⟨?_,by omega⟩;exact hr.2.2.2.2.1.2 o ho
 ·simp[Ci] at h2;exact⟨by omega,by omega,by omega,by omega⟩
end Rm
namespace Rm
open Go Go.Proofs Cx
structure SameF (f g:File):Prop where
 bill:g.bill=f.bill
 signs:g.signs=f.signs
 alters:g.alters=f.alters
 acts:g.acts=f.acts
theorem SameF.at_ {f g:File}(h:SameF f g)(day:Int):SameF (aX f day) (aX g day):=by
 obtain⟨h1,h2,h3,h4⟩:=h;constructor<;>simp[aX,h1,h2,h3,h4]
end Rm
namespace Rm
open Go Go.Proofs Cx
theorem ZD (f:File)(day k s:Int):gm (aX f day) k s=if aA s (jb day f.signs).length=true then gm f k s else dK:=by
 unfold gm;have h:(aX f day).facts.find? (rB k s)=if aA s (jb day f.signs).length=true then f.facts.find? (rB k s) else none:=by
  show(f.facts.filter (ka (jb day f.signs).length)).find? (rB k s)=_;generalize (jb day f.signs).length=n
  induction f.facts with
  |nil=>simp
  |cons x l ih=>
   by_cases hx:rB k s x=true
   ·have hs:x.at_=s:=by simp[rB] at hx;exact hx.2
    by_cases hn:aA s n=true
    ·have:ka n x=true:=by unfold ka;rw[hs];exact hn
     simp[FH,this,hx,hn]
    ·have:¬ka n x=true:=by unfold ka;rw[hs];exact hn
     simp only[FH,if_neg this,ih,if_neg hn]
   ·by_cases hn:ka n x=true
    ·simp[FH,hn,hx,ih]
    ·simp[FH,hn,hx,ih]
 rw[h];by_cases hn:aA s (jb day f.signs).length=true
 ·rw[if_pos hn,if_pos hn]
 ·rw[if_neg hn,if_neg hn]
theorem alS (r:Realm)(au q:Int){f g:File}(h:SameF f g)(day:Int):gG r au q g day=gG r au q f day:=by
 obtain⟨h1,h2,h3,h4⟩:=h;unfold gG;rw[show({g with facts:=[]}:File)={f with facts:=[]} by rw[h1,h2,h3,h4]]
theorem aBm {f g:File}(h:SameF f g):gi g=gi f:=by
 obtain⟨h1,h2,h3,h4⟩:=h;have e:kM g=kM f:=by funext a;unfold kM;rw[h1]
 unfold gi gu fQ;rw[h4,h2,e,h1]
theorem ayk (r:Realm)(au:Int){f g:File}(h:SameF f g)(day:Int):fL r au g day=fL r au f day:=by
 have ha:=h.at_ day;unfold fL;rw[ha.signs,h.bill,aBm ha,alS r au 6 ha]
end Rm
namespace Rm
open Go Go.Proofs Cx
@[simp] theorem aKL (a0 a1 a2 a3 a4 a5 a6 a7 a8 a9 nf ng ni nj nk pY pZ p5 rh x:D):eh [a0,a1,a2,a3,a4,a5,a6,a7,a8,a9,nf,ng,ni,nj,nk,pY,pZ,p5,rh] 18 [x]=[a0,a1,a2,a3,a4,a5,a6,a7,a8,a9,nf,ng,ni,nj,nk,pY,pZ,p5,x]:=_root_.id rfl
end Rm
namespace Rm
open Go Go.Proofs Cx
end Rm
namespace Rm
open Go Cx
end Rm
namespace Rm
open Go Go.Proofs Cx
def ahA (a b:Int):Prop:=a=2∨a=b
end Rm
namespace Rm
open Go Go.Proofs Cx
theorem ahQ {α:Type}{p:α→Bool}{l:List α}{x:α}(h:x∈l.takeWhile p):p x=true:=by
 induction l with
 |nil=>cases h
 |cons y l ih=>
  rw[sI] at h;split at h
  ·rcases cG.1 h with rfl|h
   ·assumption
   ·exact ih h
  ·cases h
end Rm
namespace Rm
open Go Go.Proofs Cx
@[simp] theorem aJ0:D.none.b=false:=_root_.id rfl
theorem eI (n a b:Int):ak T DJ [.int n,.int a,.int b] (.bool (wi n a b)):=by
 refine .of_tree rfl akd aCD ?_;simp[Vs];by_cases h:a≤n<;>simp[wi,h]
theorem m4 (n m:Int):ak T aec [.int n,.int m] (.bool (aA n m)):=by
 refine .of_tree rfl alk aDX ?_;simp[WG];by_cases h:0≤n<;>simp[aA,h]
def Fl (b:Bill):Bool:=
 if b.tenor.kind=0∨b.tenor.kind=4 then decide (b.tenor.n=0)&&decide (b.tenor.unit=0)
 else if b.tenor.kind=1∨b.tenor.kind=2 then(decide (1≤b.tenor.n)&&decide (b.tenor.n≤400))&&(decide (b.tenor.unit=0)||decide (b.tenor.unit=1))
 else if b.tenor.kind=3 then(decide (b.day≤b.tenor.n)&&decide (b.tenor.n≤100000))&&decide (b.tenor.unit=0)
 else false
theorem aEm (b:Bill):ak T aed [dz b] (.bool (Fl b)):=by
 refine .of_tree rfl alm aDY ?_;unfold Fl;simp[WH];by_cases h0:b.tenor.kind=0
 ·by_cases h1:b.tenor.n=0<;>simp[h0,h1]
 by_cases h4:b.tenor.kind=4
 ·by_cases h1:b.tenor.n=0<;>simp[h4,h1]
 simp[h0,h4];by_cases k1:b.tenor.kind=1
 ·by_cases h1:1≤b.tenor.n<;>by_cases h2:b.tenor.n≤400<;>by_cases h3:b.tenor.unit=0<;>simp[k1,h1,h2,h3]
 by_cases k2:b.tenor.kind=2
 ·by_cases h1:1≤b.tenor.n<;>by_cases h2:b.tenor.n≤400<;>by_cases h3:b.tenor.unit=0<;>simp[k2,h1,h2,h3]
 simp[k1,k2];by_cases k3:b.tenor.kind=3
 ·by_cases h1:b.day≤b.tenor.n<;>by_cases h2:b.tenor.n≤100000<;>simp[k3,h1,h2]
 simp[k3]
def rV (n m:Int):Bool:=decide (n=-1)||aA n m
def wW (r:Realm)(b:Bill):Bool:=((aA b.drawer r.firms.length&&aA b.drawee r.firms.length)&&rV b.payee r.firms.length)&&rV b.need r.firms.length
def sy (r:Realm)(b:Bill):Bool:=(aA b.currency r.currencies.length&&aA b.city r.cities.length)&&aA b.pay r.cities.length
def zF (b:Bill):Prop:=((((1≤b.sum∧b.sum≤1099511627776)∧0≤b.day)∧b.day≤100000)∧0≤b.rate)∧b.rate≤1000
def OO (b:Bill):Prop:=((0≤b.flags∧b.flags≤7)∧(dk .and .i64 b.flags 4=0∨¬b.payee=-1))∧Fl b=true
structure BillOK (r:Realm) (b:Bill):Prop where
 realm:hH r=0
 who:wW r b=true
 where_:sy r b=true
 range:zF b
 parts:1≤b.parts∧b.parts≤4
 form:OO b
 usance:b.tenor.kind=4→∃u,u∈r.usances∧u.fr=b.city∧u.to=b.pay
def ot (P:Prop)(d:D):Prop:=∃e:Int,d=.int e∧(e=0↔P)
theorem ot.no {P:Prop}{e:Int}(h:¬P)(he:e≠0):ot P (.int e):=⟨e,rfl,fun x=>absurd x he,fun x=>absurd x h⟩
theorem ot.ok {P:Prop}(h:P):ot P (.int 0):=⟨0,rfl,fun _=>h,fun _=>rfl⟩
theorem aEl (r:Realm)(hs:Small r)(b:Bill):∃d,ak T aeb [bl r,dz b] d∧ot (BillOK r b) d:=by
 refine ak.ex_of_tree rfl alj aDW ?_;simp[WE];refine⟨_,Mk r hs,?_⟩;by_cases h0:hH r=0
 case neg=>
  simp[h0];exact .no (fun h=>h0 h.realm) h0
 simp[h0];refine⟨_,m4 _ _,?_⟩;cases h1:aA b.drawer r.firms.length
 ·simp;exact .no (fun h=>by simpa [wW,h1] using h.who) (by decide)
 simp;refine⟨_,m4 _ _,?_⟩;cases h2:aA b.drawee r.firms.length
 ·simp;exact .no (fun h=>by simpa [wW,h2] using h.who) (by decide)
 by_cases h3:rV b.payee r.firms.length=true
 case neg=>
  have eR:¬b.payee=-1∧aA b.payee r.firms.length=false:=by simpa [rV] using h3
  simp[eR.1];refine⟨_,m4 _ _,?_⟩;simp[eR.2];exact .no (fun h=>h3 (by have:=h.who;simp[wW] at this;exact this.1.2)) (by decide)
 by_cases h4:rV b.need r.firms.length=true
 case neg=>
  have mu:¬b.need=-1∧aA b.need r.firms.length=false:=by simpa [rV] using h4
  have dX:ot (BillOK r b) (.int 1):=.no (fun h=>h4 (by have:=h.who;simp[wW] at this;exact this.2)) (by decide);by_cases hp:b.payee=-1
  ·simp[hp,mu.1];refine⟨_,m4 _ _,?_⟩;simp[mu.2];exact dX
  ·have eR:aA b.payee r.firms.length=true:=by simpa [rV,hp] using h3
   simp[hp];refine⟨_,m4 _ _,?_⟩;simp[eR,mu.1];refine⟨_,m4 _ _,?_⟩;simp[mu.2];exact dX
 have Ix:wW r b=true:=by simp[wW,h1,h2,h3,h4]
 have hp:b.payee=-1∨(¬b.payee=-1∧aA b.payee r.firms.length=true):=by
  by_cases e:b.payee=-1
  ·exact .inl e
  ·exact .inr ⟨e,by simpa [rV,e] using h3⟩
 have hn:b.need=-1∨(¬b.need=-1∧aA b.need r.firms.length=true):=by
  by_cases e:b.need=-1
  ·exact .inl e
  ·exact .inr ⟨e,by simpa [rV,e] using h4⟩
 have bad:¬sy r b=true→ot (BillOK r b) (.int 1):=fun h=>.no (fun k=>h k.where_) (by decide);have fin:∀u:Int,(u=0↔∃u,u∈r.usances∧u.fr=b.city∧u.to=b.pay)→zF b→(1≤b.parts∧b.parts≤4)→OO b→sy r b=true→ot (BillOK r b) (if b.tenor.kind=4 then .int u else .int 0):=by
  intro u hu h6 h7 h8 h9;by_cases e:b.tenor.kind=4
  ·rw[if_pos e];exact⟨u,rfl,fun h=>⟨h0,Ix,h9,h6,h7,h8,fun _=>hu.1 h⟩,fun h=>hu.2 (h.usance e)⟩
  ·rw[if_neg e];exact .ok ⟨h0,Ix,h9,h6,h7,h8,fun h=>absurd h e⟩
 obtain⟨un,ue,hu1,_,hu2⟩:=XG r b.city b.pay (by have:=hs.us;omega);rcases hp with hp|⟨hp,eX⟩<;>rcases hn with hn|⟨hn,oU⟩
 case' inl.inl=>simp[hp,hn]
 case' inl.inr=>simp[hp,hn];refine⟨_,m4 _ _,?_⟩;simp[oU]
 case' inr.inl=>simp[hp,hn];refine⟨_,m4 _ _,?_⟩;simp[eX]
 case' inr.inr=>simp[hp,hn];refine⟨_,m4 _ _,?_⟩;simp[eX];refine⟨_,m4 _ _,?_⟩;simp[oU]
 all_goals
  refine⟨_,m4 _ _,?_⟩;cases h5:aA b.currency r.currencies.length
  ·simp;exact bad (by simp[sy,h5])
  simp;refine⟨_,m4 _ _,?_⟩;cases h6:aA b.city r.cities.length
  ·simp;exact bad (by simp[sy,h6])
  simp;refine⟨_,m4 _ _,?_⟩;cases h7:aA b.pay r.cities.length
  ·simp;exact bad (by simp[sy,h7])
  have Ds:sy r b=true:=by simp[sy,h5,h6,h7]
  simp;by_cases h8:zF b
  case neg=>
   have OT:((((b.sum<1∨1099511627776<b.sum)∨b.day<0)∨100000<b.day)∨b.rate<0)∨1000<b.rate:=by unfold zF at h8;omega
   rw[if_pos OT];exact .no (fun k=>h8 k.range) (by decide)
  have OT:¬(((((b.sum<1∨1099511627776<b.sum)∨b.day<0)∨100000<b.day)∨b.rate<0)∨1000<b.rate):=by unfold zF at h8;omega
  rw[if_neg OT];by_cases h9:1≤b.parts∧b.parts≤4
  case neg=>
   rw[if_pos (by omega)];exact .no (fun k=>h9 k.parts) (by decide)
  rw[if_neg (by omega)];have Nt:¬OO b→ot (BillOK r b) (.int 2):=fun h=>.no (fun k=>h k.form) (by decide);by_cases g1:0≤b.flags∧b.flags≤7
  case neg=>
   have eQ:b.flags<0∨7<b.flags:=by omega
   simp[g1,eQ];exact Nt (fun h=>g1 h.1.1)
  have eQ:¬(b.flags<0∨7<b.flags):=by omega
  by_cases g2:dk .and .i64 b.flags 4=0∨¬b.payee=-1
  case neg=>
   have nv:¬dk .and .i64 b.flags 4=0∧b.payee=-1:=by simpa using g2
   first
        |exact absurd nv.2 hp
        |(simp[g1,eQ,nv]
          exact Nt (fun h=>g2 h.1.2))
  have g3:(b.payee=-1→dk .and .i64 b.flags 4=0):=fun e=>g2.resolve_right (fun h=>h e);simp[g1,eQ,hp,g3];refine⟨_,aEm b,?_⟩;cases nw:Fl b
  ·simp;exact Nt (fun h=>by have:=h.2;rw[nw] at this;cases this)
  have hf:=fin ue hu2 h8 h9 ⟨⟨g1,g2⟩,nw⟩ Ds;simp;by_cases e:b.tenor.kind=4
  ·simp[e] at hf ⊢;exact⟨_,hu1,hf⟩
  ·simp[e] at hf ⊢;exact hf
end Rm
namespace Rm
open Go Go.Proofs Cx
def zW (f:File)(i part:Int):Bool:=decide (i=0)||decide ((dV f i).part=part)
theorem afT (f:File)(i part:Int)(h:i=0∨(0≤i∧i<f.signs.length)):ak T adf [cZ f,.int i,.int part] (.bool (zW f i part)):=by
 refine .of_tree rfl akf aCF ?_;unfold zW;by_cases h0:i=0
 ·simp[ML,h0]
 ·obtain⟨h1,h2⟩:=h.resolve_left h0;have h3:i.toNat<f.signs.length:=by omega
  simp[ML,h0,h1,h2,h3,dV]
def F0 (f:File)(i:Int)(kinds:List Int):Bool:=wi (dV f i).for_ 0 (i-1)&&(zW f (dV f i).for_ (dV f i).part&&hasB kinds (dV f (dV f i).for_).kind)
theorem azQ (f:File)(i:Int)(kinds:List Int)(h:0≤i∧i<f.signs.length)(hl:f.signs.length≤100000)(hk:kinds.length≤100):ak T ac9 [cZ f,.int i,ints kinds] (.bool (F0 f i kinds)):=by
 refine .of_tree rfl aka aCA ?_;have h1:i.toNat<f.signs.length:=by omega
 have hw:IntKind.i64.wrap (i-1)=i-1:=bF (by omega);have hs:dV f i=f.signs[i.toNat]:=by simp[dV,h1]
 unfold F0;rw[hs];simp[Vp,h,h1,hw];refine⟨_,eI _ _ _,?_⟩;cases hb:wi f.signs[i.toNat].for_ 0 (i-1)
 ·simp
 ·have bJ:0≤f.signs[i.toNat].for_∧f.signs[i.toNat].for_<f.signs.length:=by
   simp[wi] at hb;omega
  have h2:f.signs[i.toNat].for_.toNat<f.signs.length:=by omega
  have eC:dV f f.signs[i.toNat].for_=f.signs[f.signs[i.toNat].for_.toNat]:=by simp[dV,h2]
  rw[eC];simp;refine⟨_,afT f _ _ (.inr bJ),?_⟩;cases cL:zW f f.signs[i.toNat].for_ f.signs[i.toNat].part
  ·simp
  simp[bJ,h2];exact uH kinds _ (by omega)
def ZM (r:Realm)(b:Bill)(s:Sign)(B:List Int→Bool):Bool:=
 if s.kind=0 then((((decide (s.who=b.drawer)&&decide (s.sum=0))&&decide (dk .or .i64 s.flags 1=1))&&decide (s.part=0))&&decide (s.day=b.day))&&decide (s.city=b.city)
 else if s.kind=1 then decide (s.who=b.drawee)&&(wi s.sum 1 1099511627776&&decide (s.flags=0))
 else if s.kind=2 then((wi s.to (-1) ((r.firms.length:Int)-1)&&decide (s.sum=0))&&wi s.flags 0 7)&&decide (dk .and .i64 s.flags 6≠6)
 else if s.kind=3 then(decide (s.sum=0)&&decide (s.flags=0))&&B [0,1,2,4]
 else if s.kind=4 then((wi s.sum 1 1099511627776&&decide (s.flags=0))&&decide (s.who≠b.drawee))&&B [0,2]
 else false
def OL (r:Realm)(b:Bill)(i:Nat)(s:Sign)(B:List Int→Bool):Bool:=
 if ¬(i=0↔s.kind=0)∨(¬s.kind=2∧¬s.to=-1) then false
 else if(¬s.kind=3∧¬s.kind=4)∧¬s.for_=-1 then false
 else ZM r b s B
def Co (r:Realm)(f:File)(i:Nat):Bool:=OL r f.bill i (f.signs.getD i default) (F0 f i)
theorem azS (r:Realm)(hr:Small r)(f:File)(i:Nat)(h:i<f.signs.length)(hl:f.signs.length≤100000):ak T adb [bl r,cZ f,.int i] (.bool (Co r f i)):=by
 refine .of_tree rfl akc aCC ?_;have ki:=hr.firms;have hw:IntKind.i64.wrap ((r.firms.length:Int)-1)=(r.firms.length:Int)-1:=bF (by omega);have hs:f.signs.getD i default=f.signs[i]:=by simp[h]
 have CG:=fun ks hk=>azQ f i ks ⟨by omega,by omega⟩ hl hk;unfold Co;rw[hs];generalize hB:F0 f i=B at CG ⊢;generalize hX:OL r f.bill i f.signs[i] B=X;simp[Vr,h];generalize f.signs[i]=s at*;unfold OL at hX;by_cases h1:¬(i=0↔s.kind=0)∨(¬s.kind=2∧¬s.to=-1)
 ·rw[if_pos h1] at hX ⊢;exact hX.symm
 rw[if_neg h1] at hX ⊢;by_cases h2:(¬s.kind=3∧¬s.kind=4)∧¬s.for_=-1
 ·rw[if_pos h2] at hX ⊢;exact hX.symm
 rw[if_neg h2] at hX ⊢;refine⟨_,eI _ _ _,?_⟩;unfold ZM at hX;by_cases k0:s.kind=0
 ·rw[if_pos k0] at hX ⊢;rw[←hX];by_cases a:(((s.who=f.bill.drawer∧s.sum=0)∧dk BinOp.or IntKind.i64 s.flags 1=1)∧s.part=0)∧s.day=f.bill.day
  ·simp[a]
  ·rw[if_neg a]
   congr 1
   rw[eq_comm,Xh];intro e;simp at e;exact a e.1
 rw[if_neg k0] at hX ⊢;by_cases k1:s.kind=1
 ·rw[if_pos k1] at hX ⊢;rw[←hX];by_cases a:s.who=f.bill.drawee<;>cases wi s.sum 1 1099511627776<;>simp[a]
 rw[if_neg k1] at hX ⊢;by_cases k2:s.kind=2
 ·rw[if_pos k2] at hX ⊢;rw[←hX,hw];refine⟨_,eI _ _ _,?_⟩;cases wi s.to (-1) ((r.firms.length:Int)-1)
  ·simp
  by_cases a:s.sum=0
  case neg=>simp[a]
  simp[a];refine⟨_,eI _ _ _,?_⟩;cases wi s.flags 0 7<;>simp
 rw[if_neg k2] at hX ⊢;by_cases k3:s.kind=3
 ·rw[if_pos k3] at hX ⊢;rw[←hX];by_cases a:s.sum=0∧s.flags=0
  case neg=>
   rw[if_neg a,if_neg a]
   congr 1
   rw[eq_comm,Xh];intro e;simp at e;exact a e.1
  rw[if_pos a];refine⟨_,CG [0,1,2,4] (by decide),?_⟩;simp[a]
 rw[if_neg k3] at hX ⊢;by_cases k4:s.kind=4
 ·rw[if_pos k4] at hX ⊢;rw[←hX];cases wi s.sum 1 1099511627776
  ·simp
  by_cases a:s.flags=0∧¬s.who=f.bill.drawee
  case neg=>
   simp[a]
  simp[a];exact CG [0,2] (by decide)
 rw[if_neg k4] at hX ⊢;exact hX.symm
end Rm
namespace Rm
open Go Go.Proofs Cx
def jh (f:File)(i:Nat):Int:=if i=0 then f.bill.day else(f.signs.getD (i-1) default).day
def Fu (f:File)(i:Nat)(s:Sign):Bool:=(f.signs.take i).any fun x=>(decide (s.kind=1)&&decide (x.kind=1))&&decide (x.part=s.part)
def zU (r:Realm)(f:File)(i:Nat):Int:=
 let s:=f.signs.getD i default
 if wi s.part 0 (f.bill.parts-1)=false then 15
 else if aA s.who r.firms.length=false∨aA s.city r.cities.length=false then 1
 else if wi s.day (jh f i) 100000=false∨(i=0∧¬s.day=jh f i) then 13
 else if Co r f i=false then 14
 else if Fu f i s=true then 5 else 0
theorem afS (r:Realm)(hr:Small r)(f:File)(hp:1≤f.bill.parts∧f.bill.parts≤4)(i:Nat)(h:i<f.signs.length)(hl:f.signs.length≤100000):ak T ade [bl r,cZ f,.int i] (.int (zU r f i)):=by
 refine .of_tree rfl ake aCE ?_;have ki:=hr.firms;have Pc:=hr.cities;have iT:IntKind.i64.wrap ((r.firms.length:Int)-1)=(r.firms.length:Int)-1:=bF (by omega);have dt:IntKind.i64.wrap ((r.cities.length:Int)-1)=(r.cities.length:Int)-1:=bF (by omega);have Iw:IntKind.i64.wrap (f.bill.parts-1)=f.bill.parts-1:=bF (by omega);have hs:f.signs.getD i default=f.signs[i]:=by simp[h]
 generalize hX:zU r f i=X;unfold zU at hX;simp only[hs] at hX;simp[Vt,h,iT,dt,Iw];refine⟨_,eI _ _ _,?_⟩;cases a1:wi f.signs[i].part 0 (f.bill.parts-1)
 ·simpa [a1] using hX
 simp[a1] at hX ⊢;refine⟨_,eI _ _ _,?_⟩;rw[mH] at hX;cases a2:wi f.signs[i].who 0 ((r.firms.length:Int)-1)
 ·simpa [a2] using hX
 simp[a2] at hX ⊢;refine⟨_,eI _ _ _,?_⟩;rw[mH] at hX;cases a3:wi f.signs[i].city 0 ((r.cities.length:Int)-1)
 ·simpa [a3] using hX
 simp[a3] at hX ⊢;refine⟨by omega,?_⟩;have yr:min i f.signs.length=i:=by omega
 refine aY.forRounds i (fun k=>[.int (jh f k),.bool ((f.signs.take k).any fun x=>(decide (f.signs[i].kind=1)&&decide (x.kind=1))&&decide (x.part=f.signs[i].part)),.int k]) (fun _=>[]) ?_ (fun k hk=>?_) ?_
 ·simp[jh]
 ·have hw:=bE hk (by omega);have bt:k<f.signs.length:=by omega
  have hf:jh f (k+1)=f.signs[k].day:=by simp[jh,bt]
  rw[m9 bt,List.any_append];generalize ((f.signs.take k).any fun x=>(decide (f.signs[i].kind=1)&&decide (x.kind=1))&&decide (x.part=f.signs[i].part))=A;simp[agO,L4,hk,bt,h,hw,hf,yr];cases A
  ·by_cases e1:f.signs[i].kind=1<;>by_cases e2:f.signs[k].kind=1<;>simp[e1,e2]
  ·simp
 ·have ht:Fu f i f.signs[i]=true↔∃x,x∈List.take i f.signs∧(f.signs[i].kind=1∧x.kind=1)∧x.part=f.signs[i].part:=by simp[Fu]
  simp[agO,L4,yr,h];refine⟨_,eI _ _ _,?_⟩;by_cases a4:wi f.signs[i].day (jh f i) 100000=false∨(i=0∧¬f.signs[i].day=jh f i)
  ·rw[if_pos a4] at hX;rw[if_pos (by simpa using a4)];exact hX
  rw[if_neg a4] at hX;rw[if_neg (by simpa using a4)];refine⟨_,azS r hr f i h hl,?_⟩;cases a5:Co r f i
  ·simpa [a5] using hX
  simp[a5] at hX;simp only[aoE,if_true];rw[←hX];by_cases a6:Fu f i f.signs[i]=true
  ·rw[if_pos a6,if_pos (ht.1 a6)]
  ·rw[if_neg a6,if_neg (fun x=>a6 (ht.2 x))]
def FU (a:Act)(to at_ own:Bool):Bool:=
 if a.kind=0∨a.kind=1∨a.kind=2 then(to&&decide (a.at_=-1))&&decide (a.sum=0)
 else if a.kind=3∨a.kind=4∨a.kind=5 then((to&&decide (a.at_=-1))&&wi a.sum 0 1099511627776)&&wi a.form 0 1
 else if a.kind=6 then(to&&own)&&wi a.sum 1 1099511627776
 else if a.kind=9 then(decide (a.to=-1)&&own)&&decide (a.sum=0)
 else(decide (a.to=-1)&&at_)&&decide (a.sum=0)
def AB (f:File)(a:Act):Bool:=aA a.at_ f.signs.length&&zW f a.at_ a.part
def Sw (f:File)(a:Act):Bool:=AB f a&&decide ((dV f a.at_).who=a.who)
def sL (r:Realm)(f:File)(a:Act):Bool:=
 if aA a.who r.firms.length=false∨(¬a.kind=4∧¬a.form=0) then false else FU a (aA a.to r.firms.length) (AB f a) (Sw f a)
theorem azO (r:Realm)(hr:Small r)(f:File)(a:Act)(hl:f.signs.length≤100000):ak T ac7 [bl r,cZ f,jf a] (.bool (sL r f a)):=by
 refine .of_tree rfl aj8 aCy ?_;have ki:=hr.firms;have iT:IntKind.i64.wrap ((r.firms.length:Int)-1)=(r.firms.length:Int)-1:=bF (by omega);have dt:IntKind.i64.wrap ((f.signs.length:Int)-1)=(f.signs.length:Int)-1:=bF (by omega);generalize hX:sL r f a=X;unfold sL Sw AB at hX;simp[Vn,iT,dt];refine⟨_,eI _ _ _,?_⟩;rw[←mH];have vK:=eI a.to 0 ((r.firms.length:Int)-1);have Ds:=eI a.who 0 ((r.firms.length:Int)-1);rw[←mH] at vK Ds;generalize aA a.to r.firms.length=tt at*;generalize aA a.who r.firms.length=ww at*;have fin:∀at_ own:Bool,(if ww=false∨(¬a.kind=4∧¬a.form=0) then false else FU a tt at_ own)=X→
  if ww=false∨(¬a.kind=4∧¬a.form=0) then X=false
  else if a.kind=0∨a.kind=1∨a.kind=2 then(if tt=true∧a.at_=-1 then D.bool (decide (a.sum=0)) else D.bool false)=D.bool X
  else if a.kind=3∨a.kind=5∨a.kind=4 then
        if tt=true∧a.at_=-1 then
         ∃d,ak (cH tab ext) DJ [D.int a.sum,D.int 0,D.int 1099511627776] d∧
          if(tt=true∧a.at_=-1)∧d.b=true then
             ∃B1,ak (cH tab ext) DJ [D.int a.form,D.int 0,D.int 1] B1∧(if(tt=true∧a.at_=-1)∧d.b=true then B1 else D.bool false)=D.bool X
          else(if(tt=true∧a.at_=-1)∧d.b=true then D.none else D.bool false)=D.bool X
        else D.bool false=D.bool X
  else if a.kind=6 then
        if tt=true∧own=true then ∃B1,ak (cH tab ext) DJ [D.int a.sum,D.int 1,D.int 1099511627776] B1∧(if tt=true∧own=true then B1 else D.bool false)=D.bool X
        else(if tt=true∧own=true then D.none else D.bool false)=D.bool X
  else if a.kind=9 then(if a.to=-1∧own=true then D.bool (decide (a.sum=0)) else D.bool false)=D.bool X
  else(if a.to=-1∧at_=true then D.bool (decide (a.sum=0)) else D.bool false)=D.bool X:=by
  intro at_ own hX;by_cases p:ww=false∨(¬a.kind=4∧¬a.form=0)
  ·rw[if_pos p] at hX ⊢;exact hX.symm
  rw[if_neg p] at hX ⊢;unfold FU at hX;by_cases k0:a.kind=0∨a.kind=1∨a.kind=2
  ·rw[if_pos k0] at hX ⊢;rw[←hX];by_cases e:tt=true∧a.at_=-1
   ·simp[e]
   ·rw[if_neg e];cases tt<;>simp at e ⊢;simp[e]
  rw[if_neg k0] at hX ⊢;by_cases k3:a.kind=3∨a.kind=4∨a.kind=5
  ·rw[if_pos k3] at hX;rw[if_pos (by omega),←hX];by_cases e:tt=true∧a.at_=-1
   ·rw[if_pos e];refine⟨_,eI _ _ _,?_⟩;cases wi a.sum 0 1099511627776
    ·simp
    ·simp[e];exact eI _ _ _
   ·rw[if_neg e];cases tt<;>simp at e ⊢;simp[e]
  rw[if_neg k3] at hX;rw[if_neg (by omega)];by_cases k6:a.kind=6
  ·rw[if_pos k6] at hX ⊢;rw[←hX];by_cases e:tt=true∧own=true
   ·rw[if_pos e];refine⟨_,eI _ _ _,?_⟩;simp[e]
   ·rw[if_neg e,if_neg e];cases tt<;>cases own<;>simp at e ⊢
  rw[if_neg k6] at hX ⊢;by_cases k9:a.kind=9
  ·rw[if_pos k9] at hX ⊢;rw[←hX];cases own<;>by_cases e:a.to=-1<;>simp[e]
  rw[if_neg k9] at hX ⊢;rw[←hX];cases at_<;>by_cases e:a.to=-1<;>simp[e]
 cases h1:aA a.at_ f.signs.length
 ·have hf:=fin false false (by simpa [h1] using hX);simp at hf ⊢;refine⟨_,vK,_,Ds,?_⟩;simpa using hf
 have cA:0≤a.at_∧a.at_<f.signs.length:=by simpa [aA] using h1
 have h2:a.at_.toNat<f.signs.length:=by omega
 have hs:dV f a.at_=f.signs[a.at_.toNat]:=by simp[dV,h2]
 simp[cA];refine⟨_,afT f _ _ (.inr cA),_,vK,_,Ds,?_⟩;rw[h1,hs] at hX;have hf:=fin _ _ hX;cases h3:zW f a.at_ a.part
 ·rw[h3] at hf;simpa using hf
 ·rw[h3] at hf;simpa [h2] using hf
theorem IQ (a b:Int):(if a<b then b else a)=max a b:=by split<;>omega
theorem Rp (a b:Int):(if a<b then D.int b else D.int a)=D.int (max a b):=by
 rw[←IQ];split<;>rfl
def yM (f:File)(i:Nat)(a:Act):Int:=
 let x:=if a.at_=-1 then f.bill.day else max f.bill.day (dV f a.at_).day
 if i=0 then x else max x (f.acts.getD (i-1) default).day
def ri (r:Realm)(f:File)(i:Nat):Int:=
 let a:=f.acts.getD i default
 if wi a.part 0 (f.bill.parts-1)=false then 15
 else if aA a.city r.cities.length=false∨wi a.kind 0 9=false then 1
 else if sL r f a=false then 14
 else if wi a.day (yM f i a) 100000=false then 13 else 0
theorem XJ {r:Realm}{f:File}{a:Act}(h:sL r f a=true)(hn:¬a.at_=-1):0≤a.at_∧a.at_<f.signs.length:=by
 unfold sL at h;split at h
 ·cases h
 have key:AB f a=true→0≤a.at_∧a.at_<f.signs.length:=fun e=>by
  unfold AB at e;simp only[ar] at e;simpa [aA] using e.1
 unfold FU Sw at h
 repeat' split at h
 all_goals simp only[ar,decide_eq_true_eq] at h
 ·exact absurd h.1.2 hn
 ·exact absurd h.1.1.2 hn
 ·exact key h.1.2.1
 ·exact key h.1.2.1
 ·exact key h.1.2
theorem azP (r:Realm)(hr:Small r)(f:File)(hp:1≤f.bill.parts∧f.bill.parts≤4)(hl:f.signs.length≤100000)(CZ:f.acts.length≤100000):ak T ac8 [bl r,cZ f] (.int (fj f.acts.length (ri r f))):=by
 refine .of_tree rfl aj9 aCz ?_;have Pc:=hr.cities;have dt:IntKind.i64.wrap ((r.cities.length:Int)-1)=(r.cities.length:Int)-1:=bF (by omega);have Iw:IntKind.i64.wrap (f.bill.parts-1)=f.bill.parts-1:=bF (by omega);simp[Vo];refine oc f.acts.length (ri r f) (fun k=>[.int 0,.int k]) (fun _=>[]) ?_ (fun k hk ho=>?_) (fun k hk ho hb=>?_) (fun hj=>?_)
 ·simp
 case' refine_2=>have hb:ri r f k=ri r f k:=rfl
 case' refine_3=>rw[hb]
 case refine_4=>simp[agM,L2,hj]
 all_goals
  have hw:=bE hk (by omega);have hs:f.acts.getD k default=f.acts[k]:=by simp[hk]
  clear hb;generalize hX:ri r f k=X at*;unfold ri at hX;simp only[hs] at hX;simp[agM,L2,hk,dt,Iw,hw];refine⟨_,eI _ _ _,?_⟩;cases a1:wi f.acts[k].part 0 (f.bill.parts-1)
  ·simp[a1] at hX ⊢
   first|exact hX|(exfalso;omega)
  simp[a1] at hX ⊢;refine⟨_,eI _ _ _,?_⟩;rw[mH] at hX;cases a2:wi f.acts[k].city 0 ((r.cities.length:Int)-1)
  ·simp[a2] at hX ⊢
   first|exact hX|(exfalso;omega)
  simp[a2] at hX ⊢;refine⟨_,eI _ _ _,?_⟩;cases a3:wi f.acts[k].kind 0 9
  ·simp[a3] at hX ⊢
   first|exact hX|(exfalso;omega)
  simp[a3] at hX ⊢;refine⟨_,azO r hr f f.acts[k] hl,?_⟩;cases a4:sL r f f.acts[k]
  ·simp[a4] at hX ⊢
   first|exact hX|(exfalso;omega)
  simp[a4] at hX ⊢;unfold yM at hX;by_cases k0:k=0
  ·subst k0;by_cases e1:f.acts[0].at_=-1
   ·simp[e1] at hX;simp[e1];refine⟨_,eI _ _ _,?_⟩;split at hX
    ·rename_i e;simp[e]
     first|exact hX|(exfalso;omega)
    ·rename_i e
     first|(exfalso;omega)|simp[e]
   ·obtain⟨h5,h6⟩:=XJ a4 e1;have h7:f.acts[0].at_.toNat<f.signs.length:=by omega
    have h8:dV f f.acts[0].at_=f.signs[f.acts[0].at_.toNat]:=by simp[dV,h7]
    simp[e1,h8] at hX;simp[e1,h5,h6,h7,Rp,IQ];refine⟨_,eI _ _ _,?_⟩;split at hX
    ·rename_i e;simp[e]
     first|exact hX|(exfalso;omega)
    ·rename_i e
     first|(exfalso;omega)|simp[e]
  ·have bH:IntKind.i64.wrap ((k:Int)-1)=(k:Int)-1:=bF (by omega);have cD:((k:Int)-1).toNat=k-1:=by omega
   have ko:k-1<f.acts.length:=by omega
   have yp:0<k:=by omega
   by_cases e1:f.acts[k].at_=-1
   ·simp[k0,e1,ko] at hX;simp[e1,yp,bH,cD,ko,Rp,IQ];refine⟨by omega,_,eI _ _ _,?_⟩;split at hX
    ·rename_i e;simp[e]
     first|exact hX|(exfalso;omega)
    ·rename_i e
     first|(exfalso;omega)|simp[e]
   ·obtain⟨h5,h6⟩:=XJ a4 e1;have h7:f.acts[k].at_.toNat<f.signs.length:=by omega
    have h8:dV f f.acts[k].at_=f.signs[f.acts[k].at_.toNat]:=by simp[dV,h7]
    simp[k0,e1,ko,h8] at hX;simp[e1,yp,bH,cD,ko,h5,h6,h7,Rp,IQ];refine⟨by omega,_,eI _ _ _,?_⟩;split at hX
    ·rename_i e;simp[e]
     first|exact hX|(exfalso;omega)
    ·rename_i e
     first|(exfalso;omega)|simp[e]
end Rm
namespace Rm
open Go Go.Proofs Cx
def oG (a b:Int):Int:=if a<b then-1 else if b<a then 1 else 0
theorem abG (a:Int):ak T acV [.int a] (.bool false):=by
 refine .of_tree rfl ajU aCg ?_;simp[U8]
theorem Xj (a b:Int):ak T acT [.int a,.int b] (.int (oG a b)):=by
 refine .of_tree rfl ajS aCd ?_;simp[U6];refine⟨_,abG a,_,abG b,?_⟩;unfold oG;by_cases h1:a<b
 ·simp[h1]
 by_cases h2:b<a<;>simp[h1,h2]
theorem ai1 (l:List Int)(hl:l.length≤100000):ak T acU [ints l] (.int (fj l.length fun k=>l.getD k 0)):=by
 refine .of_tree rfl ajT aCf ?_;simp[U7];refine oc l.length (fun k=>l.getD k 0) (fun k=>[.int 0,.int k]) (fun _=>[]) ?_ (fun k hk ho=>?_) (fun k hk ho hb=>?_) (fun hj=>?_)
 ·simp
 ·have hw:=bE hk (by omega);have hx:l[k]=0:=by simpa [hk] using ho
  simp[Tu,Ej,hk,hx,hw]
 ·have hx:¬l[k]=0:=by simpa [hk] using ho
  simp only[aS] at hb ⊢;rw[hb];simp[Tu,Ej,hk,hx]
 ·simp only[aS] at hj ⊢;rw[hj];simp[Tu,Ej]
theorem or2 (a b:Int):(fj 2 fun k=>[a,b].getD k 0)=if a=0 then b else a:=by
 have e:List.range 2=[0,1]:=rfl;unfold fj;rw[e];by_cases ha:a=0<;>by_cases hb:b=0<;>simp[ha,hb]
def xn (x y:Fact):Prop:=x.at_<y.at_∨(x.at_=y.at_∧x.kind<y.kind)
instance (x y:Fact):Decidable (xn x y):=by unfold xn;infer_instance
theorem ajf (x y:Fact):0≤(if oG x.at_ y.at_=0 then oG x.kind y.kind else oG x.at_ y.at_)↔¬xn x y:=by
 unfold oG xn
 repeat' split
 all_goals omega
def vc (f:File)(i:Nat):Int:=
 let x:=f.facts.getD i default
 if wi x.kind 0 4=false then 1 else if aA x.at_ f.signs.length=false then 1 else if wi x.n 0 1=false then 1
 else if i=0 then 0 else if xn (f.facts.getD (i-1) default) x then 0 else 5
theorem azR (f:File)(hl:f.signs.length≤100000)(hlf:f.facts.length≤100000):ak T ada [cZ f] (.int (fj f.facts.length (vc f))):=by
 refine .of_tree rfl akb aCB ?_;have dt:IntKind.i64.wrap ((f.signs.length:Int)-1)=(f.signs.length:Int)-1:=bF (by omega);simp[Vq];refine oc f.facts.length (vc f) (fun k=>[.int 0,.int k]) (fun _=>[]) ?_ (fun k hk ho=>?_) (fun k hk ho hb=>?_) (fun hj=>?_)
 ·simp
 case' refine_2=>have hb:vc f k=vc f k:=rfl
 case' refine_3=>rw[hb]
 case refine_4=>simp[agN,L3,hj]
 all_goals
  have hw:=bE hk (by omega);have hs:f.facts.getD k default=f.facts[k]:=by simp[hk]
  clear hb;generalize hX:vc f k=X at*;unfold vc at hX;simp only[hs] at hX;simp[agN,L3,hk,dt,hw];refine⟨_,eI _ _ _,?_⟩;cases a1:wi f.facts[k].kind 0 4
  ·simp[a1] at hX ⊢
   first|exact hX|(exfalso;omega)
  simp[a1] at hX ⊢;refine⟨_,eI _ _ _,?_⟩;rw[mH] at hX;cases a2:wi f.facts[k].at_ 0 ((f.signs.length:Int)-1)
  ·simp[a2] at hX ⊢
   first|exact hX|(exfalso;omega)
  simp[a2] at hX ⊢;refine⟨_,eI _ _ _,?_⟩;cases a3:wi f.facts[k].n 0 1
  ·simp[a3] at hX ⊢
   first|exact hX|(exfalso;omega)
  simp[a3] at hX ⊢;by_cases k0:k=0
  ·subst k0;simp at hX ⊢
   first|(exfalso;omega)|done
  ·have bH:IntKind.i64.wrap ((k:Int)-1)=(k:Int)-1:=bF (by omega);have cD:((k:Int)-1).toNat=k-1:=by omega
   have ko:k-1<f.facts.length:=by omega
   simp[k0,ko] at hX;simp[k0,bH,cD,ko];refine⟨by omega,_,Xj _ _,_,Xj _ _,?_⟩;have ho:=ai1 [oG f.facts[k-1].at_ f.facts[k].at_,oG f.facts[k-1].kind f.facts[k].kind] (by simp);simp only[pS,xg] at ho;rw[or2] at ho;refine⟨_,ho,?_⟩;have ha:=ajf f.facts[k-1] f.facts[k];generalize (if oG f.facts[k-1].at_ f.facts[k].at_=0 then oG f.facts[k-1].kind f.facts[k].kind else oG f.facts[k-1].at_ f.facts[k].at_)=n at*;clear ho;by_cases e:xn f.facts[k-1] f.facts[k]
   ·have hn:¬0≤n:=fun h=>ha.1 h e;simp[e] at hX;simp[hn]
    first|done|(exfalso;omega)
   ·have hn:0≤n:=ha.2 e;simp[e] at hX;simp[hn]
    first|exact hX|(exfalso;omega)
def xp (f:File)(i:Nat):Int:=
 let x:=f.alters.getD i default
 if wi x.at_ ((if i=0 then 0 else(f.alters.getD (i-1) default).at_)+1) f.signs.length=false then 1 else if wi x.sum 1 1099511627776=false then 3 else 0
structure PaperOK (r:Realm) (f:File):Prop where
 full:(f.signs.length≤40∧f.alters.length≤4)∧f.acts.length≤100∧f.facts.length≤200
 bill:BillOK r f.bill
 ne:f.signs≠[]
 signs:fj f.signs.length (zU r f)=0
 alters:fj f.alters.length (xp f)=0
 acts:fj f.acts.length (ri r f)=0
 facts:fj f.facts.length (vc f)=0
theorem azN (r:Realm)(hs:Small r)(f:File)(OS:f.OK):∃d,ak T ac6 [bl r,cZ f] d∧ot (PaperOK r f) d:=by
 refine ak.ex_of_tree rfl aj7 aCx ?_;simp[Vm];by_cases hf:(f.signs.length≤40∧f.alters.length≤4)∧f.acts.length≤100∧f.facts.length≤200
 case neg=>
  rw[if_pos (by omega)];exact .no (fun h=>hf h.full) (by decide)
 rw[if_neg (by omega)];obtain⟨d,hb,e,rfl,he⟩:=aEl r hs f.bill;refine⟨_,hb,?_⟩;by_cases e0:e=0
 case neg=>
  simp[e0];exact .no (fun h=>e0 (he.2 h.bill)) e0
 have HP:=he.1 e0;simp[e0];by_cases aB:f.signs=[]
 ·simp[aB];exact .no (fun h=>h.ne aB) (by decide)
 simp[aB];refine oc f.signs.length (zU r f) (fun k=>[.int 0,.int k]) (fun _=>[]) ?_ (fun k hk ho=>?_) (fun k hk ho hb=>?_) (fun hj=>?_)
 ·simp
 ·have hw:=bE hk (by omega);simp[Tx,El,hk,hw];refine⟨_,afS r hs f HP.parts k hk (by omega),?_⟩;simp[ho]
 ·simp[Tx,El,hk];refine⟨_,afS r hs f HP.parts k hk (by omega),?_⟩;simp[ho];exact .no (fun h=>ho (by rw[←hb];exact h.signs)) ho
 simp[Tx,El];have kp:∀k,k<f.alters.length→(∀j,j<k→xp f j=0)→IntKind.i64.wrap ((if k=0 then 0 else(f.alters.getD (k-1) default).at_)+1)=(if k=0 then 0 else(f.alters.getD (k-1) default).at_)+1:=by
  intro k hk hj;refine bF ?_;by_cases k0:k=0
  ·rw[if_pos k0];omega
  ·rw[if_neg k0];have h1:=hj (k-1) (by omega);have bH:k-1<f.alters.length:=by omega
   have h2:=(OS.2.2.1.2 _ (di bH)).1;have h3:f.alters.getD (k-1) default=f.alters[k-1]:=by simp[bH]
   unfold xp at h1;rw[h3] at h1 ⊢;simp only at h1;generalize (if k-1=0 then(0:Int) else(f.alters.getD (k-1-1) default).at_)=L0 at h1;split at h1
   ·cases h1
   ·rename_i hh;simp[wi] at hh;unfold bj at h2;omega
 refine aY.scan f.alters.length (fun k=>xp f k=0) (fun k=>[.int 0,.int (if k=0 then 0 else(f.alters.getD (k-1) default).at_),.int k]) (fun _=>[]) ?_ (fun k hk ql ho=>?_) (fun k hk ql ho=>?_) (fun CW=>?_)
 ·simp
 ·have hw:=bE hk (by omega);have hl:=kp k hk ql;generalize hL:(if k=0 then 0 else(f.alters.getD (k-1) default).at_)=L at*;have hs:f.alters.getD k default=f.alters[k]:=by simp[hk]
  unfold xp at ho;simp only[hs,hL] at ho;simp[Tz,Em,hk,hl];refine⟨_,eI _ _ _,?_⟩;cases a1:wi f.alters[k].at_ (L+1) f.signs.length
  ·simp[a1] at ho
  simp[a1] at ho ⊢;refine⟨_,eI _ _ _,?_⟩;simp[ho,hw]
 ·have hl:=kp k hk ql;have CQ:=OH hk ql ho;generalize hL:(if k=0 then 0 else(f.alters.getD (k-1) default).at_)=L at*;have hs:f.alters.getD k default=f.alters[k]:=by simp[hk]
  have bad:∀e:Int,e≠0→ot (PaperOK r f) (.int e):=fun e h=>.no (fun h=>ho (by rw[←CQ];exact h.alters)) h;unfold xp at ho;simp only[hs,hL] at ho;simp[Tz,Em,hk,hl];refine⟨_,eI _ _ _,?_⟩;cases a1:wi f.alters[k].at_ (L+1) f.signs.length
  ·simp;exact bad 1 (by decide)
  simp[a1] at ho ⊢;refine⟨_,eI _ _ _,?_⟩;simp[ho];exact bad 3 (by decide)
 have CW:=OI CW;simp[Tz,Em];refine⟨_,azP r hs f HP.parts (by omega) (by omega),?_⟩;by_cases e3:fj f.acts.length (ri r f)=0
 case neg=>
  simp[e3];exact .no (fun h=>e3 h.acts) e3
 simp[e3];refine⟨_,azR f (by omega) (by omega),?_⟩;exact⟨_,rfl,fun h=>⟨hf,HP,aB,hj,CW,e3,h⟩,fun h=>h.facts⟩
end Rm
namespace Rm
open Go Go.Proofs Cx
end Rm
namespace Rm
open Go Go.Proofs Cx
theorem afR {α:Type}(key:α→Int)(l:List α)(h:∀i (h1:i+1<l.length),key (l[i]'(by omega))≤key l[i+1]):l.Pairwise fun a b=>key a≤key b:=by
 rw[List.pairwise_iff_getElem];intro i j hi hj cS;obtain⟨d,rfl⟩:∃d,j=i+1+d:=⟨j-i-1,by omega⟩
 clear cS
 induction d with
 |zero=>exact h i hj
 |succ d ih=>exact Int.le_trans (ih (by omega)) (h (i+1+d) hj)
structure Sorted (f:File):Prop where
 signs:f.signs.Pairwise fun a b=>a.day≤b.day
 acts:f.acts.Pairwise fun a b=>a.day≤b.day
 sday:∀s,s∈f.signs→0≤s.day
 aday:∀a,a∈f.acts→0≤a.day
structure SignOK (r:Realm) (f:File) (i:Nat) (s:Sign):Prop where
 part:0≤s.part∧s.part≤f.bill.parts-1
 who:0≤s.who∧s.who<r.firms.length
 city:0≤s.city∧s.city<r.cities.length
 day:jh f i≤s.day∧s.day≤100000
 fits:Co r f i=true
 once:Fu f i s=false
theorem PaperOK.sign {r:Realm}{f:File}(h:PaperOK r f)(i:Nat)(hi:i<f.signs.length):SignOK r f i f.signs[i]:=by
 have h1:=Hv h.signs i hi;have hs:f.signs.getD i default=f.signs[i]:=by simp[hi]
 unfold zU at h1;simp only[hs] at h1;split at h1
 ·cases h1
 rename_i a1;split at h1
 ·cases h1
 rename_i a2;split at h1
 ·cases h1
 rename_i a3;split at h1
 ·cases h1
 rename_i a4;split at h1
 ·cases h1
 rename_i a5;simp[wi,aA] at a1 a2 a3;exact⟨⟨by omega,by omega⟩,⟨by omega,by omega⟩,⟨by omega,by omega⟩,⟨by omega,by omega⟩,by simpa using a4,by simpa using a5⟩
structure Ah (r:Realm) (f:File) (i:Nat) (a:Act):Prop where
 part:0≤a.part∧a.part≤f.bill.parts-1
 city:0≤a.city∧a.city<r.cities.length
 kind:0≤a.kind∧a.kind≤9
 fits:sL r f a=true
 day:yM f i a≤a.day∧a.day≤100000
theorem PaperOK.act {r:Realm}{f:File}(h:PaperOK r f)(i:Nat)(hi:i<f.acts.length):Ah r f i f.acts[i]:=by
 have h1:=Hv h.acts i hi;have hs:f.acts.getD i default=f.acts[i]:=by simp[hi]
 unfold ri at h1;simp only[hs] at h1;split at h1
 ·cases h1
 rename_i a1;split at h1
 ·cases h1
 rename_i a2;split at h1
 ·cases h1
 rename_i a3;split at h1
 ·cases h1
 rename_i a4;simp[wi,aA] at a1 a2 a4;exact⟨⟨by omega,by omega⟩,⟨by omega,by omega⟩,⟨by omega,by omega⟩,by simpa using a3,by omega⟩
theorem Q9 (f:File)(i:Nat)(a:Act):f.bill.day≤yM f i a∧(i≠0→(f.acts.getD (i-1) default).day≤yM f i a):=by
 unfold yM;refine⟨?_,fun h=>?_⟩
 ·simp only;split<;>split<;>omega
 ·simp only[if_neg h];omega
theorem PaperOK.day {r:Realm}{f:File}(h:PaperOK r f):0≤f.bill.day∧f.bill.day≤100000:=by
 have:=h.bill.range;unfold zF at this;omega
theorem ZK {r:Realm}{f:File}(h:PaperOK r f):∀i,i<f.signs.length→0≤jh f i
 |0,_=>by simp[jh];exact h.day.1
 |i+1,hi=>by
  have h1:=(h.sign i (by omega)).day.1;have h2:=ZK h i (by omega);have e:jh f (i+1)=f.signs[i].day:=by simp[jh,show i<f.signs.length by omega]
  omega
theorem PaperOK.sorted {r:Realm}{f:File}(h:PaperOK r f):Sorted f:=by
 refine⟨afR (·.day) f.signs fun i hi=>?_,afR (·.day) f.acts fun i hi=>?_,fun s hs=>?_,fun a ha=>?_⟩
 ·have h1:=(h.sign (i+1) hi).day.1;have e:jh f (i+1)=f.signs[i].day:=by simp[jh,show i<f.signs.length by omega]
  rw[e] at h1;exact h1
 ·have h1:=(h.act (i+1) hi).day.1;have h2:=(Q9 f (i+1) f.acts[i+1]).2 (by omega);have e:f.acts.getD (i+1-1) default=f.acts[i]:=by simp[show i<f.acts.length by omega]
  rw[e] at h2;exact Int.le_trans h2 h1
 ·obtain⟨i,hi,rfl⟩:=jB hs;exact Int.le_trans (ZK h i hi) (h.sign i hi).day.1
 ·obtain⟨i,hi,rfl⟩:=jB ha;have h1:=(h.act i hi).day.1;have h2:=(Q9 f i f.acts[i]).1;have:=h.day;omega
end Rm
namespace Rm
open Go Go.Proofs Cx
theorem WJ {α:Type}(key:α→Int){x y:Int}(eY:x≤y):∀{l:List α},l.Pairwise (fun a b=>key a≤key b)→
 ∃m,l.takeWhile (fun a=>decide (key a≤y))=l.takeWhile (fun a=>decide (key a≤x))++m∧(∀a,a∈m→x<key a)∧∀a,a∈m→a∈l
 |[],_=>⟨[],rfl,fun _ h=>(by cases h),fun _ h=>(by cases h)⟩
 |a::l,hp=>by
  rw[XA] at hp;by_cases h:key a≤x
  ·obtain⟨m,h1,h2,h3⟩:=WJ key eY hp.2;refine⟨m,?_,h2,fun b hb=>by simp[h3 b hb]⟩;rw[sI,sI,if_pos (by simp;omega),if_pos (by simp;omega),h1];rfl
  ·refine⟨(a::l).takeWhile (fun a=>decide (key a≤y)),?_,fun b hb=>?_,fun b hb=>?_⟩
   ·rw[sI (p:=fun a=>decide (key a≤x)),if_neg (by simp;omega)];rfl
   ·have hm:=(M7 _).subset hb;rcases cG.1 hm with rfl|hm
    ·omega
    ·have:=hp.1 b hm;omega
   ·exact(M7 _).subset hb
theorem Sorted.acts_app {f:File}(h:Sorted f){x y:Int}(eY:x≤y):∃m,(aX f y).acts=(aX f x).acts++m∧(∀a,a∈m→x<a.day)∧∀a,a∈m→a∈f.acts:=WJ (fun a:Act=>a.day) eY h.acts
theorem Sorted.signs_app {f:File}(h:Sorted f){x y:Int}(eY:x≤y):∃m,(aX f y).signs=(aX f x).signs++m∧(∀a,a∈m→x<a.day)∧∀a,a∈m→a∈f.signs:=WJ (fun a:Sign=>a.day) eY h.signs
theorem FZ {f:File}{x:Int}{a:Act}(h:a∈(aX f x).acts):a.day≤x∧a∈f.acts:=⟨by simpa using ahQ (p:=fun s:Act=>decide (s.day≤x)) (l:=f.acts) h,(M7 (fun s:Act=>decide (s.day≤x))).subset h⟩
theorem Nq {f:File}{x:Int}{a:Sign}(h:a∈(aX f x).signs):a.day≤x∧a∈f.signs:=⟨by simpa using ahQ (p:=fun s:Sign=>decide (s.day≤x)) (l:=f.signs) h,(M7 (fun s:Sign=>decide (s.day≤x))).subset h⟩
theorem WK {α:Type}(key:α→Int){x y:Int}(eY:x≤y):∀(l:List α),(l.takeWhile (fun a=>decide (key a≤y))).takeWhile (fun a=>decide (key a≤x))=l.takeWhile (fun a=>decide (key a≤x))
 |[]=>rfl
 |a::l=>by
  by_cases h:key a≤x
  ·have h2:key a≤y:=by omega
   simp only[sI,h,h2,decide_true,if_true];rw[WK key eY l]
  ·by_cases h2:key a≤y
   ·simp[sI,h,h2]
   ·simp[sI,h,h2]
theorem ahR {α:Type}(key:α→Int){x y:Int}(eY:x≤y):∀(l:List α),(l.takeWhile (fun a=>decide (key a≤x))).length≤(l.takeWhile (fun a=>decide (key a≤y))).length
 |[]=>by simp
 |a::l=>by
  by_cases h:key a≤x
  ·have h2:key a≤y:=by omega
   have:=ahR key eY l;simp[sI,h,h2];omega
  ·simp[sI,h]
theorem XX (f:File){x y:Int}(eY:x≤y):aX (aX f y) x=aX f x:=by
 have h1:jb x (jb y f.signs)=jb x f.signs:=WK (fun a:Sign=>a.day) eY f.signs;have h2:Fv x (Fv y f.acts)=Fv x f.acts:=WK (fun a:Act=>a.day) eY f.acts;have hl:(jb x f.signs).length≤(jb y f.signs).length:=ahR (fun a:Sign=>a.day) eY f.signs;unfold aX;simp only[h1,h2,List.filter_filter]
 congr 1
 ·apply Xs;intro a _;simp[nl];omega
 ·apply Xs;intro a _;simp[ka,aA];omega
theorem apO {α:Type}(p:α→Bool)(l m:List α):(l++m).find? p=(l.find? p).or (m.find? p):=List.find?_append
def M1 (x:Int)(a b:Int):Prop:=(a≠-1∧a≤x∧b=a)∨(a=-1∧(b=-1∨x<b))
theorem IN:∀(l:List Int),l≠[]→eG l∈l
 |a::l,_=>by
  induction l generalizing a with
  |nil=>simp[eG]
  |cons b l ih=>
   have:=ih (min a b) (by simp);have e:eG (a::b::l)=eG (min a b::l):=by simp[eG]
   rw[e];rcases cG.1 this with h|h
   ·rw[h];rcases Int.le_total a b with hh|hh
    ·rw[Int.min_eq_left hh];simp
    ·rw[Int.min_eq_right hh];simp
   ·simp[h]
theorem acw:∀(l:List Int) (a:Int),a∈l→eG l≤a
 |b::l,a,h=>by
  induction l generalizing b with
  |nil=>simp at h;subst h;simp[eG]
  |cons c l ih=>
   have e:eG (b::c::l)=eG (min b c::l):=by simp[eG]
   have h2:eG (min b c::l)≤min b c:=acx _ _;rw[e];rcases cG.1 h with h|h
   ·omega
   rcases cG.1 h with h|h
   ·omega
   ·exact ih (min b c) (by simp[h])
where
 acx:∀(l:List Int) (b:Int),eG (b::l)≤b
 |[],b=>by simp[eG]
 |c::l,b=>by
  have e:eG (b::c::l)=eG (min b c::l):=by simp[eG]
  rw[e];have:=acx l (min b c);omega
theorem ayq {l m:List Int}{x:Int}(hl:∀a,a∈l→0≤a∧a≤x)(hs:∀a,a∈l→a∈m)(hm:∀a,a∈m→a∈l∨x<a):M1 x (eG l) (eG m):=by
 by_cases aB:l=[]
 ·subst aB;right;refine⟨rfl,?_⟩;by_cases tq:m=[]
  ·subst tq;exact .inl rfl
  ·rcases hm _ (IN m tq) with h|h
   ·cases h
   ·exact .inr h
 ·left;have bJ:=IN l aB;have hb:=hl _ bJ;have auq:m≠[]:=fun e=>by have:=hs _ bJ;rw[e] at this;cases this
  refine⟨by omega,by omega,?_⟩;have hle:=acw m _ (hs _ bJ);rcases hm _ (IN m auq) with h|h
  ·have:=acw l _ h;omega
  ·omega
theorem aBl {f:File}(h:Sorted f){x y:Int}(eY:x≤y):M1 x (gi (aX f x)) (gi (aX f y)):=by
 obtain⟨m,h1,h2,h3⟩:=h.acts_app eY;obtain⟨k,g1,g2,g3⟩:=h.signs_app eY;have hb:kM (aX f y)=kM (aX f x):=rfl;have yr:M1 x (eG (gu (aX f x) (aX f x).signs.length++fQ (aX f x) (aX f x).acts.length)) (eG (gu (aX f y) (aX f y).signs.length++fQ (aX f y) (aX f y).acts.length)):=by
  have ek:(aX f y).bill=(aX f x).bill:=rfl;unfold gu fQ;rw[ek,xj,xj,xj,xj,h1,g1];by_cases hk:(aX f x).bill.tenor.kind=1
  ·rw[if_pos hk,if_pos hk,if_pos hk,if_pos hk];refine ayq (fun a ha=>?_) (fun a ha=>?_) (fun a ha=>?_)
   ·rcases cY.1 ha with ha|ha
    ·obtain⟨s,hs,rfl⟩:=dx.1 ha;have:=Nq (cQ.1 hs).1;exact⟨h.sday s this.2,this.1⟩
    ·obtain⟨s,hs,rfl⟩:=dx.1 ha;have:=FZ (cQ.1 hs).1;exact⟨h.aday s this.2,this.1⟩
   ·simp only[Ap,me,cY] at ha ⊢;rcases ha with ha|ha
    ·exact .inl (.inl ha)
    ·exact .inr (.inl ha)
   ·simp only[Ap,me,cY] at ha ⊢;rcases ha with(ha|ha)|(ha|ha)
    ·exact .inl (.inl ha)
    ·obtain⟨s,hs,rfl⟩:=dx.1 ha;exact .inr (g2 s (cQ.1 hs).1)
    ·exact .inl (.inr ha)
    ·obtain⟨s,hs,rfl⟩:=dx.1 ha;exact .inr (h2 s (cQ.1 hs).1)
  ·rw[if_neg hk,if_neg hk,if_neg hk,if_neg hk];exact .inr ⟨rfl,.inl rfl⟩
 unfold gi;rw[hb,h1,apO];cases e:(aX f x).acts.find? (kM (aX f x)) with
 |some a=>
  left;have hm:=FZ (pU e);have:=h.aday a hm.2;simp;omega
 |none=>
  cases e2:m.find? (kM (aX f x)) with
  |some a=>
   have hp:=FI e2;have hk:(aX f x).bill.tenor.kind=0:=by simp[kM] at hp;exact hp.1
   right;have hn:eG (gu (aX f x) (aX f x).signs.length++fQ (aX f x) (aX f x).acts.length)=-1:=by
        unfold gu fQ;rw[if_neg (by rw[hk];decide),if_neg (by rw[hk];decide)];rfl
   exact⟨hn,.inr (h2 a (pU e2))⟩
  |none=>
   rw[←h1];exact yr
end Rm
namespace Rm
open Go Go.Proofs Cx
end Rm
namespace Rm
open Go Go.Proofs Cx
end Rm
namespace Rm
open Go Go.Proofs Cx
end Rm
namespace Rm
open Go Go.Proofs Cx
theorem aoJ {r:Realm}{b:Bill}(hr:RightD r)(hc:hH r=0)(Pc:aA b.city r.cities.length=true)(dR:aA b.pay r.cities.length=true)(hd:cI b.day=true)(hk:b.tenor.kind=3)(hu:b.tenor.unit=0)
 (hn:cI b.tenor.n=true) {g:Int} (hg:0≤g∧g≤20000) (hs:b.tenor.n+g≤100000):qa r b (-1) g=gV r b.pay (b.tenor.n+g):=by
 have jm:=Mk r hr.small;rw[hc] at jm;have iP:0≤b.tenor.n∧b.tenor.n≤100000:=by simpa [cI] using hn
 have oX:=Uy r hr.halts b.pay (b.tenor.n+g) (by simpa [aA] using dR) hr.cities (by omega) (by omega);have hb:ak T yR [bl r,dz b,.int (-1)] (.tup [.int b.tenor.n,.int 0]):=by
  refine .of_tree rfl uU wU ?_;simp[m0,hk]
 have h:ak T DL [bl r,dz b,.int (-1),.int g] (.tup [.int (gV r b.pay (b.tenor.n+g)).1,.int (gV r b.pay (b.tenor.n+g)).2]):=by
  have nA:=yJ r b.city;have aaK:=yJ r b.pay;have vx:=tJ b.day;have hi3:=tJ b.tenor.n;have hi4:=Av b.tenor;rw[Pc] at nA;rw[dR] at aaK;rw[hd] at vx;rw[hn] at hi3;rw[show qP b.tenor=false from by simp[qP,hk]] at hi4;have hw:IntKind.i64.wrap (b.tenor.n+g)=b.tenor.n+g:=bF (by omega);have kS:¬g<0:=by omega
  have fo:¬20000<g:=by omega
  have eC:¬100000<b.tenor.n+g:=by omega
  refine .of_tree rfl Nr Wm ?_;simp[Fs];refine⟨_,jm,?_⟩;simp;refine⟨_,nA,?_⟩;simp;refine⟨_,aaK,?_⟩;simp;refine⟨_,vx,?_⟩;simp[hk,hu,kS,fo];refine⟨_,hi4,?_⟩;simp;refine⟨_,hb,?_⟩;simp;refine⟨_,hi3,?_⟩;simp[hw,eC];refine⟨_,oX,?_⟩;simp
 have h2:=h.det (MZ r hr b (-1) g);simp at h2;exact Prod.ext h2.1.symm h2.2.symm
end Rm
namespace Rm
open Go Go.Proofs Cx
end Rm
namespace Rm
open Go Go.Proofs Cx
instance (a b:Int):Decidable (ahA a b):=by unfold ahA;infer_instance
theorem alR {r:Realm}{f:File}(h:PaperOK r f):aA f.bill.pay r.cities.length=true:=by
 have:=h.bill.where_;simp only[sy,ar] at this;exact this.2
end Rm
namespace Rm
open Go Go.Proofs Cx
structure Sees (f g:File) (s:Int):Prop where
 bill:g.bill=f.bill
 there:aA s f.signs.length=true
 there':aA s g.signs.length=true
 sign:g.signs.getD s.toNat default=f.signs.getD s.toNat default
 alt:p6 g s=p6 f s
 fact:∀k,gm g k s=gm f k s
theorem ajy (r:Realm)(au q:Int){c c':Case}(h:Sees (aX c.file c.day) (aX c'.file c'.day) c.sign)(hs:c'.sign=c.sign)(hh:c'.holder=c.holder)(hd:c'.defence=c.defence)(hu:c'.due=c.due)(Pp:jO c=c.sign):
 j7 r au q c'=j7 r au q c:=by
 have e0:jO (be c')=jO (be c):=by unfold jO;rw[show(be c').holder=(be c).holder from hh]
 have e2:jO (be c)=c.sign:=Pp;have e1:oC (be c')=oC (be c):=by
  have i1:aA c.sign (be c).file.signs.length=true:=h.there;have i2:aA c.sign (be c').file.signs.length=true:=h.there';have i3:c.sign<(be c).file.signs.length:=by simp[aA] at i1;omega
  have i4:c.sign<(be c').file.signs.length:=by simp[aA] at i2;omega
  unfold oC;rw[e0,e2,show(be c').sign=c.sign from hs,show(be c).sign=c.sign from rfl,show(be c').holder=(be c).holder from hh,show(be c').due=(be c).due from hu,i1,i2,decide_eq_true i3,decide_eq_true i4]
 have lL:(be c').file.signs.getD (be c').sign.toNat default=(be c).file.signs.getD (be c).sign.toNat default:=by
  rw[show(be c').sign=c.sign from hs];exact h.sign
 have hv:fT r (be c')=fT r (be c):=by
  unfold fT;rw[e1,lL];split
  ·generalize (be c).file.signs.getD (be c).sign.toNat default=s;have h1:pG (be c') s=pG (be c) s:=by
        unfold pG;rw[show(be c').file.bill=(be c).file.bill from h.bill,show(be c').defence=(be c).defence from hd,show(be c').due=(be c).due from hu]
   have h2:pH r (be c') s=pH r (be c) s:=by
        have ha:p6 (be c').file (be c').sign=p6 (be c).file (be c).sign:=by
         rw[show(be c').sign=c.sign from hs];exact h.alt
        unfold pH;rw[ha,show(be c').file.bill=(be c).file.bill from h.bill,show(be c').due=(be c).due from hu]
   unfold Hy;rw[h1,h2,e0,e2,show(be c').sign=c.sign from hs,show(be c).sign=c.sign from rfl];have hf:∀k,gm (be c').file k c.sign=gm (be c).file k c.sign:=fun k=>h.fact k;rw[hf,hf,hf,hf,hf]
  ·rfl
 have hp:gf r au (be c')=gf r au (be c):=by
  have Ir:dV (be c').file (be c').sign=dV (be c).file (be c).sign:=lL;have ho:jX r au (be c')=jX r au (be c):=by
   unfold jX;rw[Ir,show(be c').file.bill=(be c).file.bill from h.bill]
  have hb:mj r au (be c')=mj r au (be c):=by
   unfold mj;rw[Ir]
  unfold gf;simp only[ho,hb]
 unfold j7 gF;rw[hv,hp]
theorem XO (f:File)(s:Int):p6 f s=true↔∃a,a∈f.alters∧a.at_≤s:=by
 unfold p6;rw[sF];constructor
 ·rintro⟨k,hk,h⟩;have bt:=cd.1 hk;simp[bt] at h;exact⟨f.alters[k],di bt,h⟩
 ·rintro⟨a,ha,h⟩;obtain⟨k,hk,rfl⟩:=jB ha;exact⟨k,cd.2 hk,by simpa [hk] using h⟩
theorem XN (f:File)(x s:Int)(h:s<(jb x f.signs).length):p6 (aX f x) s=p6 f s:=by
 rw[q6,XO,XO];constructor
 ·rintro⟨a,ha,h⟩;exact⟨a,(cQ.1 ha).1,h⟩
 ·rintro⟨a,ha,h2⟩;exact⟨a,cQ.2 ⟨ha,by simp[nl];omega⟩,h2⟩
theorem Sorted.sees {f:File}(h:Sorted f){x y:Int}(eY:x≤y){i:Nat}(hi:i<(aX f x).signs.length):Sees (aX f x) (aX f y) (i:Int):=by
 obtain⟨m,h1,h2,h3⟩:=h.signs_app eY;have df:i<(aX f y).signs.length:=by rw[h1,j4];omega
 have j1:aA (i:Int) (jb x f.signs).length=true:=by have:i<(jb x f.signs).length:=hi;simp[aA];omega
 have j2:aA (i:Int) (jb y f.signs).length=true:=by have:i<(jb y f.signs).length:=df;simp[aA];omega
 refine⟨rfl,j1,j2,?_,?_,fun k=>?_⟩
 ·rw[h1];simp[jA hi]
 ·rw[XN f x i (by simp[aA] at j1;omega),XN f y i (by simp[aA] at j2;omega)]
 ·rw[ZD,ZD,j1,j2]
theorem XY (f:File)(x:Int):aX {f with facts:=[]} x={aX f x with facts:=[]}:=rfl
theorem alQ (r:Realm)(au q:Int){f:File}(h:Sorted f){x y:Int}(eY:x≤y)(hi:0<(aX f x).signs.length):
 gG r au q (aX f y) y=gG r au q (aX f x) x:=by
 unfold gG;refine ajy r au q (c:=⟨{aX f x with facts:=[]},0,-1,-1,-1,x⟩) ?_ rfl rfl rfl rfl (by simp[jO]);show Sees (aX {aX f x with facts:=[]} x) (aX {aX f y with facts:=[]} y) 0;rw[XY,XY,XX f (Int.le_refl x),XX f (Int.le_refl y)];obtain⟨a1,a2,a3,a4,a5,a6⟩:=h.sees eY hi;exact⟨a1,a2,a3,a4,a5,fun k=>rfl⟩
theorem ahn {f:File}(h0:f.bill.tenor.kind≠0)(h1:f.bill.tenor.kind≠1):gi f=-1:=by
 have hs:f.acts.find? (kM f)=none:=by
  rw[uK];intro a _;simp[kM,h0]
 unfold gi;rw[hs];unfold gu fQ;simp[h1,eG]
theorem ayi {r:Realm}(hr:RightD r)(au:Int){f:File}(h:Sorted f){x y:Int}(eY:x≤y)(hm:fL r au f x≠-1):fL r au f y=fL r au f x:=by
 unfold fL at hm ⊢;by_cases aB:(aX f x).signs=[]
 ·rw[if_pos aB] at hm;exact absurd rfl hm
 have P1:0<(aX f x).signs.length:=FL.2 aB;have PF:(aX f y).signs≠[]:=by
  obtain⟨m,h1,_,_⟩:=h.signs_app eY;rw[h1];simp[aB]
 rw[if_neg aB] at hm ⊢;rw[if_neg PF,alQ r au 6 h eY P1];have hs:gi (aX f y)=gi (aX f x):=by
  by_cases hk:f.bill.tenor.kind=0∨f.bill.tenor.kind=1
  ·rcases aBl h eY with⟨h1,h2,h3⟩|⟨h1,h2⟩
   ·exact h3
   ·exfalso;have Qd:qP f.bill.tenor=true:=by simp[qP,hk]
    have h0:∀g,(ml r f.bill (-1) g).2≠0:=by
        intro g;unfold ml;rw[Qd];split
        ·simp
        split
        ·simp
        split
        ·simp
        rw[if_pos ⟨rfl,rfl⟩];simp
    rw[Hn hr,h1,if_pos (h0 _)] at hm;exact hm rfl
  ·rw[ahn (f:=aX f y) (fun e=>hk (.inl e)) (fun e=>hk (.inr e)),ahn (f:=aX f x) (fun e=>hk (.inl e)) (fun e=>hk (.inr e))]
 rw[hs]
theorem aBp {r:Realm}(hh:sE r)(city:Int){d:Int}(h0:0≤d)(hd:d≤100001):(gV r city d).2=0→0≤(gV r city d).1∧(gV r city d).1≤100000:=by
 unfold gV;generalize r.cities.getD city.toNat default=c;generalize fB r city=o;have key:∀(n:Nat) (d:Int),0≤d→d≤100001→(100002-d).toNat≤n→(mX r c o n d).2=0→0≤(mX r c o n d).1∧(mX r c o n d).1≤100000:=by
  intro n
  induction n with
  |zero=>intro d h0 h1 h2;omega
  |succ n ih=>
   intro e h1 h2 h3;have yA:=Mz hh o (100002-e).toNat e h2;rw[Ux];change e≤gx r o e∧gx r o e≤100001 at yA;generalize gx r o e=x at*;have lK:=RO (c:=c) (d:=x);by_cases he:(fy c x).2=0
   ·obtain⟨g1,g2,g3⟩:=lK he;rw[if_neg (by simp[he])];by_cases hy:(fy c x).1=x
    ·rw[if_pos hy];intro _;have e1:((x,0):Int×Int).1=x:=rfl;omega
    ·rw[if_neg hy];exact ih _ (by omega) (by omega) (by omega)
   ·rw[if_pos he];intro h;cases h
 exact key _ d h0 hd (bk _)
theorem ayj {r:Realm}(hr:RightD r)(au:Int)(f:File)(day:Int):fL r au f day=-1∨(0≤fL r au f day∧fL r au f day≤100000):=by
 unfold fL;by_cases aB:(aX f day).signs=[]
 ·rw[if_pos aB];exact .inl rfl
 rw[if_neg aB,Hn hr];generalize gi (aX f day)=sn;generalize max (nM (gG r au 6 (aX f day) day)) 0=g;by_cases he:(ml r f.bill sn g).2=0
 case neg=>rw[if_pos he];exact .inl rfl
 rw[if_neg (by simp[he])];right;unfold ml at he ⊢;split at he
 ·cases he
 rename_i c1;rw[if_neg c1];split at he
 ·cases he
 rename_i c2;rw[if_neg c2];split at he
 ·cases he
 rename_i c3;rw[if_neg c3];split at he
 ·cases he
 rename_i c4;rw[if_neg c4];generalize nm r.usances f.bill sn=B at*;unfold DA at he ⊢;split at he
 ·rename_i hb;exact absurd he hb
 rename_i c5;rw[if_neg c5];split at he
 ·cases he
 rename_i c6;rw[if_neg c6];have hd:0≤B.1∧B.1≤100000:=by
  have:¬cI B.1=false:=fun e=>c6 (.inl e);simpa [cI] using this
 have hw:IntKind.i64.wrap (B.1+g)=B.1+g:=bF (by omega);rw[hw] at he c6 ⊢;exact aBp hr.halts f.bill.pay (by omega) (by omega) he
end Rm
