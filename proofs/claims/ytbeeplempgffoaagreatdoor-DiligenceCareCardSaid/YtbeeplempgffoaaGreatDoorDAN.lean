/-
  Shared texts of this claim.
-/
import Derived.Test.YtbeeplempgffoaaGreatDoorDAM
set_option linter.unusedSimpArgs false
set_option linter.unusedVariables false
noncomputable section
namespace Rm
open Go Go.Proofs Cx
structure Right (r:Realm):Prop where
 by_:vT r
 len:r.orders.length≤100000
 ok:∀o,o∈r.orders→o.OK∧o.rules.length≤100000
structure FewS (f:File):Prop where
 signs:f.signs.length≤1000
 alters:f.alters.length≤1000
 acts:f.acts.length≤1000
 facts:f.facts.length≤1000
theorem ah4 {α:Type}(p:α→Bool)(l:List α):(l.takeWhile p).length≤l.length:=by
 obtain⟨m,h1,h2,_⟩:=yE p l;rw[h2,eH];omega
theorem FewS.at_ {f:File}(h:FewS f)(day:Int):FewS (aE f day):=
 ⟨ke (ah4 _ _) h.1,ke (rY _ _) h.2,ke (ah4 _ _) h.3,ke (rY _ _) h.4⟩
def aI (c:Case):Case:={c with file:=aE c.file c.day}
@[simp] theorem aDx (x:File)(a0 a1 a2 a3 a4 a5 a6 a7 a8 a9 gy ib ic ij il jj jk jP jQ:D)(s h d u y:Int):kg 24 (D.agg (dm [a0,a1,a2,a3,a4,a5,a6,a7,a8,a9,gy,ib,ic,ij,il,jj,jk,jP,jQ,.int s,.int h,.int d,.int u,.int y] 0 [.int x.bill.drawer,.int x.bill.drawee,.int x.bill.payee,.int x.bill.sum,.int x.bill.currency,.int x.bill.tenor.kind,.int x.bill.tenor.n,.int x.bill.tenor.unit,.int x.bill.day,.int x.bill.city,.int x.bill.pay,.int x.bill.need,.int x.bill.rate,.int x.bill.flags,.int x.bill.parts,signs x.signs,alters x.alters,acts x.acts,facts x.facts]))=eL ⟨x,s,h,d,u,y⟩:=_root_.id rfl
theorem ajQ (r:Realm)(c:Case)(hf:FewS c.file):ak T 151 [aQ r,eL c] (.tup [eL (aI c),cells (dC r (aI c))]):=by
 refine .of_tree rfl (lA 12 (by kernel_rfl)) awY ?_;simp[Vn];have h1:=hf.1;have h2:=hf.2;have h3:=hf.3;have h4:=hf.4;refine⟨_,UT c.file c.day (by omega) (by omega) (by omega) (by omega),?_⟩;have hfa:=hf.at_ c.day;have h5:=hfa.4;have h6:=hfa.2;simp;exact⟨avL r (aI c) (by show(aE c.file c.day).facts.length≤_;omega) (by show(aE c.file c.day).alters.length≤_;omega),(congrArg (kg 24) (aub (aI c) _ _ _ _ _ _ _ _ _ _ _ _ _ _ _ _ _ _ _ _ _ _ _ _)).trans (ajE (aI c))⟩
theorem Yn {r:Realm}{c:Case}(h:dC r c≠[]):0≤c.sign∧c.sign<c.file.signs.length:=by
 unfold dC at h;split at h
 ·rename_i hh;have h1:=hh.1;unfold kM at h1;simp[ax] at h1;omega
 ·exact absurd rfl h
theorem acK (r:Realm)(kP:vT r)(q:Int)(l:List Int)(hl:l.length≤100000)(pJ:∀b:Int,0≤b→b<r.orders.length→jm r b q l=true):∀(n:Nat) (p:List Int),p≠[]→(∀x,x∈p→0≤x∧x<(r.orders.length:Int))→
 (iK r q l n p).1≠[]∧∀x,x∈(iK r q l n p).1→0≤x∧x<(r.orders.length:Int)
 |0,p,aA,hp=>⟨aA,hp⟩
 |n+1,p,aA,hp=>by
  have ar:p.length-1<p.length:=by have:=vX.mpr aA;omega
  have gF:ct p=p[p.length-1]:=by simp[ct,ar]
  have ng:=hp _ (cv ar);rw[←gF] at ng;obtain⟨_,ht⟩:=NQ r kP (ct p) q l hl (pJ _ ng.1 ng.2)
  have bj:∀x,x∈p++[(fb r (ct p) q l).1]→0≤x∧x<(r.orders.length:Int):=fun x hx=>by
   rcases da.mp hx with h|h
   ·exact hp x h
   ·simp at h;subst h;exact ht
  rw[EM];split
  ·exact⟨aA,hp⟩
  split
  ·exact⟨by simp,bj⟩
  split
  ·exact⟨by simp,bj⟩
  ·exact acK r kP q l hl pJ n _ (by simp) bj
theorem KT {r:Realm}(hr:Right r){a q:Int}{l:List Int}(hl:l.length≤100000)(h:(cU r a q l).2=0):(cU r a q l).1≠[]∧0≤ct (cU r a q l).1∧ct (cU r a q l).1<r.orders.length:=by
 unfold cU at h ⊢;split at h
 ·rename_i hh;rw[if_pos hh];obtain⟨ha,uI,hx,pJ⟩:=Ar hh.1;obtain⟨h1,h2⟩:=acK r hr.by_ q l hl pJ r.orders.length [a] (by simp) (fun x hx=>by simp at hx;subst hx;exact ha);refine⟨h1,?_⟩;have ar:(iK r q l r.orders.length [a]).1.length-1<(iK r q l r.orders.length [a]).1.length:=by have:=vX.mpr h1;omega
  have gF:ct (iK r q l r.orders.length [a]).1=(iK r q l r.orders.length [a]).1[(iK r q l r.orders.length [a]).1.length-1]:=by simp[ct,ar]
  rw[gF];exact h2 _ (cv ar)
 ·cases h
theorem acL (r:Realm)(q:Int)(l:List Int):∀(n:Nat) (p:List Int),(iK r q l n p).1.length≤p.length+n
 |0,p=>by simp[iK]
 |n+1,p=>by
  rw[EM];split
  ·simp
  split
  ·simp
  split
  ·simp
  ·have:=acL r q l n (p++[(fb r (ct p) q l).1]);simp at this;omega
theorem acJ (r:Realm)(a q:Int)(l:List Int):(cU r a q l).1.length≤1+r.orders.length:=by
 unfold cU;split
 ·exact acL r q l _ [a]
 ·simp
@[simp] theorem aHe (a b c d e x:D):dm [a,b,c,d,e] 2 [x]=[a,b,x,d,e]:=_root_.id rfl
@[simp] theorem aHf (a b c d e x:D):dm [a,b,c,d,e] 3 [x]=[a,b,c,x,e]:=_root_.id rfl
@[simp] theorem aHg (a b c d e x:D):dm [a,b,c,d,e] 4 [x]=[a,b,c,d,x]:=_root_.id rfl
def EW:Said:=⟨cN,-1,[],1⟩
def dN (r:Realm)(forum q:Int)(c:Case):Said×List Cell:=
 if dC r (aI c)=[] then(EW,[]) else if(dW q).2=false then(EW,[]) else if fh r forum (aI c)=[] then(EW,[]) else
    (⟨cN,if(cU r forum q (fh r forum (aI c))).2=0 then ct (cU r forum q (fh r forum (aI c))).1 else-1,(cU r forum q (fh r forum (aI c))).1,(cU r forum q (fh r forum (aI c))).2⟩,dC r (aI c))
theorem afV (r:Realm)(forum:Int)(c:Case):(fh r forum c).length≤5:=by
 unfold fh;split
 ·simp
 split<;>simp[dR]
theorem ajP (r:Realm)(hr:Right r)(forum q:Int)(c:Case)(hf:FewS c.file):ak T 111 [aQ r,.int forum,.int q,eL c] (.tup [iv (dN r forum q c).1,cells (dN r forum q c).2]):=by
 refine .of_tree rfl (lA 11 (by kernel_rfl)) awX ?_;simp[Vm];refine⟨_,ajQ r c hf,?_⟩;by_cases hv:dC r (aI c)=[]
 ·simp[hv,dN];exact⟨rfl,rfl⟩
 simp[hv,dN];refine⟨_,SQ q,?_⟩;cases hq:(dW q).2
 ·simp[hq];exact⟨rfl,rfl⟩
 simp[hq];refine⟨_,auq r forum (aI c) (Yn hv),?_⟩;by_cases hp:fh r forum (aI c)=[]
 ·simp[hp];exact⟨rfl,rfl⟩
 have eO:=afV r forum (aI c);have aA:ints (fh r forum (aI c))≠.list []:=fun e=>hp (by simpa [ints] using e);simp[hp];generalize fh r forum (aI c)=l at*;refine⟨_,ajk r hr.by_ hr.len forum q l (by omega),?_⟩;have hlen:=acJ r forum q l;have sP:=KT hr (a:=forum) (q:=q) (l:=l) (by omega);have hol:=hr.len;generalize cU r forum q l=L at*;obtain⟨path,err⟩:=L;simp only at*;by_cases he:err=0
 ·obtain⟨h1,h2⟩:=sP he;have AZ:=vX.mpr h1;have sX:IntKind.i64.wrap ((path.length:Int)-1)=(path.length:Int)-1:=aJ (by omega);have xe:((path.length:Int)-1).toNat=path.length-1:=by omega
  have ar:path.length-1<path.length:=by omega
  have gF:ct path=path[path.length-1]:=by simp[ct,ar]
  simp[he,sX,xe,ar,←gF];exact⟨by omega,rfl⟩
 ·simp[he];rfl
def gR (r:Realm)(forum q:Int)(c:Case):Said:=
 if(dN r forum q c).1.order=-1 then(dN r forum q c).1
 else⟨(kh (gX r (dN r forum q c).1.order) q (dN r forum q c).2).1,(dN r forum q c).1.order,(dN r forum q c).1.path,(kh (gX r (dN r forum q c).1.order) q (dN r forum q c).2).2⟩
theorem ajN {r:Realm}(hr:Right r)(forum q:Int)(c:Case):(dN r forum q c).1.order=-1∨(0≤(dN r forum q c).1.order∧(dN r forum q c).1.order<r.orders.length):=by
 unfold dN;split
 ·exact .inl rfl
 split
 ·exact .inl rfl
 split
 ·exact .inl rfl
 ·have eO:=afV r forum (aI c);have sP:=KT hr (a:=forum) (q:=q) (l:=fh r forum (aI c)) (by omega);show(if _ then _ else _)=_∨_;split
  ·rename_i h;exact .inr (sP h).2
  ·exact .inl rfl
theorem Zi (r:Realm)(hr:Right r)(forum q:Int)(c:Case)(hf:FewS c.file):ak T 73 [aQ r,.int forum,.int q,eL c] (iv (gR r forum q c)):=by
 refine .of_tree rfl (lA 10 (by kernel_rfl)) awS ?_;simp[Vh];refine⟨_,ajP r hr forum q c hf,?_⟩;have ho:=ajN hr forum q c;unfold gR;generalize dN r forum q c=S at*;obtain⟨s,cs⟩:=S;simp only at*;by_cases h:s.order=-1
 ·obtain⟨⟨kn,n⟩,o,pth,e⟩:=s;simp only at h;subst h;simp;rfl
 ·have h1:0≤s.order∧s.order<r.orders.length:=by omega
  have h2:s.order.toNat<r.orders.length:=by omega
  have h3:gX r s.order=r.orders[s.order.toNat]:=by simp[gX,h2]
  obtain⟨aB,hlen⟩:=hr.ok _ (cv h2);simp[h,h1,h2,h3];refine⟨_,at4 _ q cs aB (by omega),?_⟩;simp;rfl
def eK (r:Realm)(forum q:Int)(f:File)(day:Int):Said:=gR r forum q ⟨{f with facts:=[]},0,-1,-1,-1,day⟩
theorem Zj (r:Realm)(hr:Right r)(forum q:Int)(f:File)(day:Int)(hf:FewS f):ak T 35 [aQ r,.int forum,.int q,bT f,.int day] (iv (eK r forum q f day)):=by
 refine .of_tree rfl (lA 9 (by kernel_rfl)) awT ?_;simp[Vi];refine⟨iv (eK r forum q f day),Zi r hr forum q ⟨{f with facts:=[]},0,-1,-1,-1,day⟩ ⟨hf.1,hf.2,hf.3,by simp⟩,?_⟩;simp
 try rfl
def rK (s:Said):Int:=if s.err≠0 then 0 else if s.cell.known=false then 2 else if s.cell.n≠0 then 1 else 0
theorem Hn (s:Said):ak T 22 [iv s] (.int (rK s)):=by
 refine .of_tree rfl (lA 98 (by kernel_rfl)) awW ?_;unfold rK;by_cases h1:s.err=0<;>cases h2:s.cell.known<;>by_cases h3:s.cell.n=0<;>simp[Vl,h1,h2,h3]
def jb (s:Said):Int:=if s.err≠0∨s.cell.known=false then-1 else s.cell.n
theorem ajO (s:Said):ak T 34 [iv s] (.int (jb s)):=by
 refine .of_tree rfl (lA 50 (by kernel_rfl)) awV ?_;unfold jb;by_cases h1:s.err=0<;>cases h2:s.cell.known<;>simp[Vk,h1,h2]
end Rm
namespace Rm
open Go Go.Proofs Cx
end Rm
namespace Rm
open Go Go.Proofs Cx
theorem Bg (r:Realm)(c:Int):ak T 75 [aQ r,.int c] (.bool (ax c r.cities.length)):=by
 refine .of_tree rfl (lA 70 (by kernel_rfl)) azE ?_;by_cases h1:0≤c<;>by_cases h2:c<r.cities.length<;>simp[XI,h1,h2,ax]
def aU (n:Int):Bool:=decide (0≤n)&&decide (n≤100000)
theorem uY (n:Int):ak T 76 [.int n] (.bool (aU n)):=by
 refine .of_tree rfl (lA 71 (by kernel_rfl)) azF ?_;by_cases h1:0≤n<;>by_cases h2:n≤100000<;>simp[XJ,h1,h2,aU]
theorem oT (n:Int):ak T 160 [.int n] (.bool (aU n)):=by
 refine .of_tree rfl (lA 76 (by kernel_rfl)) aw9 ?_;by_cases h1:0≤n<;>by_cases h2:n≤100000<;>simp[Vx,h1,h2,aU]
def lV (t:Tenor):Bool:=decide (t.kind=0)||decide (t.kind=1)
theorem Cv (t:Tenor):ak T 77 [jS t] (.bool (lV t)):=by
 refine .of_tree rfl (lA 72 (by kernel_rfl)) azD ?_;by_cases h1:t.kind=0<;>simp[XH,h1,lV]
theorem adx (y m d:Int):∃n:Int,ak T 207 [.int y,.int m,.int d] (.int n):=by
 by_cases h:m<3
 ·refine⟨?w,?h⟩
  case h=>
   refine ak.of_tree (d:=.int ?w) rfl Og Vv ?_;simp[B8,h];exact rfl
 ·refine⟨?v,?g⟩
  case g=>
   refine ak.of_tree (d:=.int ?v) rfl Og Vv ?_;simp[B8,h];exact rfl
def tu (y m d:Int):Int:=(adx y m d).choose
theorem vg (y m d:Int):ak T 207 [.int y,.int m,.int d] (.int (tu y m d)):=(adx y m d).choose_spec
def kY (y m:Int):Int:=if m=12 then 31 else IntKind.i64.wrap (tu y (IntKind.i64.wrap (m+1)) 1-tu y m 1)
theorem ri (y m:Int):ak T 185 [.int y,.int m] (.int (kY y m)):=by
 refine .of_tree rfl (lA 78 (by kernel_rfl)) aw7 ?_;unfold kY;by_cases h:m=12
 ·simp[Nj,h]
 ·simp[Nj,h];refine⟨_,vg _ _ _,_,vg _ _ _,?_⟩;simp
theorem aja (y m d:Int):∃n e:Int,ak T 184 [.int y,.int m,.int d] (.tup [.int n,.int e])∧(e=0→0≤n∧n≤100000):=by
 by_cases h0:(((2000≤y∧y≤2300)∧1≤m)∧m≤12)∧1≤d
 ·by_cases h2:d≤kY y m
  ·cases h1:aU (tu y m d)
   ·refine⟨0,3,.of_tree rfl sq tU ?_,by simp⟩;simp[oQ];rw[if_pos h0];refine⟨_,ri y m,?_⟩;simp[h0,h2];refine⟨_,vg _ _ _,_,oT _,?_⟩;simp[h1]
   ·refine⟨tu y m d,0,.of_tree rfl sq tU ?_,fun _=>by simpa [aU] using h1⟩;simp[oQ];rw[if_pos h0];exact⟨_,ri y m,⟨h0,h2⟩,_,vg _ _ _,_,oT _,h1,rfl⟩
  ·refine⟨0,3,.of_tree rfl sq tU ?_,by simp⟩;simp[oQ];rw[if_pos h0];refine⟨_,ri y m,?_⟩;simp[h0,h2]
 ·refine⟨0,3,.of_tree rfl sq tU ?_,by simp⟩;simp[oQ];rw[if_neg h0];intro a1 a2 a3 a4 a5;exact absurd ⟨⟨⟨⟨a1,a2⟩,a3⟩,a4⟩,a5⟩ h0
theorem YX (r:Realm)(fr to:Int)(hl:r.usances.length≤100000):∃n e:Int,ak T 83 [aQ r,.int fr,.int to] (.tup [.int n,.int e])∧(e=0→∃u,u∈r.usances∧n=u.days)∧(e=0↔∃u,u∈r.usances∧u.fr=fr∧u.to=to):=by
 let p:Usance→Bool:=fun u=>decide (u.fr=fr)&&decide (u.to=to)
 refine⟨match r.usances.find? p with|some u=>u.days|none=>0,match r.usances.find? p with|some u=>0|none=>4,?_,?_⟩
 ·refine .of_tree rfl Zn ahZ ?_;simp[Nv];refine aL.scan r.usances.length (fun k=>p (r.usances.getD k default)=false) (fun k=>[.int 0,.int 0,.int k]) (fun _=>[]) ?_ (fun k hk hj aB=>?_) (fun k hk hj aB=>?_) (fun hj=>?_)
  ·simp
  ·have hw:=bk hk (by omega);have hn:¬(r.usances[k].fr=fr∧r.usances[k].to=to):=by simpa [p,hk] using aB
   simp[BS,vx,hk,hw,hn]
  ·have dE:=pH hk (by simpa [hk] using aB) (fun j br=>by have:=hj j br;simpa [show j<r.usances.length by omega] using this);have hc:r.usances[k].fr=fr∧r.usances[k].to=to:=by simpa [p,hk] using aB
   rw[dE];simp[BS,vx,hk,hc]
  ·have dE:=qO (l:=r.usances) (p:=p) (fun j br=>by have:=hj j br;simpa [br] using this);rw[dE];simp[BS,vx]
 ·cases h:r.usances.find? p with
  |none=>
   refine⟨fun h=>(by cases h),fun h=>(by cases h),fun⟨u,hu,h1,h2⟩=>?_⟩;have:=nS.1 h u hu;simp[p,h1,h2] at this
  |some u=>
   have h2:u.fr=fr∧u.to=to:=by simpa [p] using Cn h
   exact⟨fun _=>⟨u,pg h,rfl⟩,fun _=>⟨u,pg h,h2⟩,fun _=>rfl⟩
theorem ajv (r:Realm)(fr to:Int)(hl:r.usances.length≤100000):∃n e:Int,ak T 83 [aQ r,.int fr,.int to] (.tup [.int n,.int e])∧(e=0→∃u,u∈r.usances∧n=u.days):=by
 obtain⟨n,e,h1,h2,_⟩:=YX r fr to hl;exact⟨n,e,h1,h2⟩
end Rm
namespace Rm
open Go Go.Proofs Cx
theorem ZJ (R Y:Int)(hR:0≤R∧R<146097)(h1:365*Y≤R-R/1460+R/36524-R/146096)(h2:R-R/1460+R/36524-R/146096<365*Y+365):0≤R-(365*Y+Y/4-Y/100)∧R-(365*Y+Y/4-Y/100)≤500:=by
 have k0:R/36524≤R/1460:=by omega
 have k1:Y/4≤R/1460:=by omega
 have hY:0≤Y:=by omega
 have hc:R/36524=0∨R/36524=1∨R/36524=2∨R/36524=3∨R/36524=4:=by omega
 have k2:25*(R/36524)≤R/1460:=by omega
 refine⟨?_,?_⟩
 ·rcases Int.lt_or_le Y (100*(R/36524)) with hy|hy
  ·have k3:Y/4≤25*(R/36524)-1:=by omega
   have k4:R/36524-1≤Y/100:=by omega
   omega
  ·have k3:R/36524≤Y/100:=by omega
   omega
 ·omega
theorem JB (n:Int)(h:0≤n∧n≤100400):ak T 183 [.int n] (.tup [.int (bz n).1,.int (bz n).2.1,.int (bz n).2.2]):=by
 refine .of_tree rfl (lA 77 (by kernel_rfl)) aw4 ?_;have w:∀x:Int,-1000000000≤x→x≤1000000000→IntKind.i64.wrap x=x:=fun x a b=>aJ (by omega);have t:∀x y:Int,0≤x→x.tdiv y=x/y:=fun x y hx=>vU hx;have u:∀x y:Int,0≤x→x.tmod y=x%y:=fun x y hx=>ub hx;simp[Vs];unfold bz;simp only[];rw[w (n+730425) (by omega) (by omega),u (n+730425) 146097 (by omega),t (n+730425) 146097 (by omega)];have hR:0≤(n+730425)%146097∧(n+730425)%146097<146097:=by omega
 have hE:0≤(n+730425)/146097∧(n+730425)/146097<100:=by omega
 generalize (n+730425)%146097=R at*;generalize (n+730425)/146097=e at*;rw[t R 1460 (by omega),t R 36524 (by omega),t R 146096 (by omega),w (R/1460) (by omega) (by omega),w (R-R/1460) (by omega) (by omega),w (R/36524) (by omega) (by omega),w (R-R/1460+R/36524) (by omega) (by omega),w (R/146096) (by omega) (by omega),w (R-R/1460+R/36524-R/146096) (by omega) (by omega),t (R-R/1460+R/36524-R/146096) 365 (by omega)];have hY:0≤(R-R/1460+R/36524-R/146096)/365∧(R-R/1460+R/36524-R/146096)/365<400:=by omega
 have hD:0≤R-(365*((R-R/1460+R/36524-R/146096)/365)+(R-R/1460+R/36524-R/146096)/365/4-(R-R/1460+R/36524-R/146096)/365/100)∧R-(365*((R-R/1460+R/36524-R/146096)/365)+(R-R/1460+R/36524-R/146096)/365/4-(R-R/1460+R/36524-R/146096)/365/100)≤500:=by
  exact ZJ R _ hR (by omega) (by omega)
 generalize (R-R/1460+R/36524-R/146096)/365=Y at*;rw[w Y (by omega) (by omega),w (365*Y) (by omega) (by omega),t Y 4 (by omega),t Y 100 (by omega),w (Y/4) (by omega) (by omega),w (Y/100) (by omega) (by omega),w (365*Y+Y/4) (by omega) (by omega),w (365*Y+Y/4-Y/100) (by omega) (by omega),w (R-(365*Y+Y/4-Y/100)) (by omega) (by omega)];generalize R-(365*Y+Y/4-Y/100)=D at*;rw[w (5*D) (by omega) (by omega),w (5*D+2) (by omega) (by omega),t (5*D+2) 153 (by omega)];have hM:0≤(5*D+2)/153∧(5*D+2)/153≤20:=by omega
 generalize (5*D+2)/153=M at*;rw[w M (by omega) (by omega),w (M+3) (by omega) (by omega),w (M+3-12) (by omega) (by omega),w e (by omega) (by omega),w (400*e) (by omega) (by omega),w (Y+400*e) (by omega) (by omega),w (Y+400*e+1) (by omega) (by omega)];rw[w (153*M) (by omega) (by omega),w (153*M+2) (by omega) (by omega),t (153*M+2) 5 (by omega),w ((153*M+2)/5) (by omega) (by omega),w (D-(153*M+2)/5) (by omega) (by omega),w (D-(153*M+2)/5+1) (by omega) (by omega)];refine⟨?_,?_,rfl⟩
 ·generalize (if 12<M+3 then M+3-12 else M+3)=m;split<;>rfl
 ·split<;>rfl
theorem Yw (d n:Int):∃x e:Int,ak T 159 [.int d,.int n] (.tup [.int x,.int e])∧(e=0→0≤x∧x≤100000):=by
 by_cases h0:aU d=true∧-5000≤n∧n≤5000
 ·have hd:0≤d∧d≤100400:=by have:=h0.1;simp[aU] at this;omega
  obtain⟨A,hA⟩:∃A,A=IntKind.i64.wrap (IntKind.i64.wrap (IntKind.i64.wrap (IntKind.i64.wrap (12*(bz d).1)+(bz d).2.1)-1)+n):=⟨_,rfl⟩
  obtain⟨Y,hY⟩:∃Y,Y=IntKind.i64.wrap (A.tdiv 12):=⟨_,rfl⟩
  obtain⟨M,hM⟩:∃M,M=IntKind.i64.wrap (A.tmod 12+1):=⟨_,rfl⟩
  obtain⟨x,e,hD,hb⟩:=aja Y M (if kY Y M<(bz d).2.2 then kY Y M else(bz d).2.2);refine⟨x,e,.of_tree rfl CK GX ?_,hb⟩;have n1:¬n< -5000:=by omega
  have n2:¬5000<n:=by omega
  simp[yB,n1,n2];refine⟨_,oT d,?_⟩;simp[h0.1];refine⟨_,JB d hd,?_⟩;simp[←hA,←hY,←hM];refine⟨_,ri Y M,?_⟩;by_cases hl:kY Y M<(bz d).2.2
  ·simp only[if_pos hl] at hD;simp[hl];refine⟨_,hD,?_⟩;simp
  ·simp only[if_neg hl] at hD;simp[hl];refine⟨_,hD,?_⟩;simp
 ·refine⟨0,3,.of_tree rfl CK GX ?_,by simp⟩;simp[yB];refine⟨_,oT d,?_⟩;simp;intro a b c;exact absurd ⟨a,b,c⟩ h0
end Rm
namespace Rm
open Go Go.Proofs Cx
theorem P5 (l:List Int)(x:Int):hasB l x=l.contains x:=by
 rw[qx];simp[hasB]
def nM (c:City):Prop:=c.rest.length≤100000∧c.feasts.length≤100000∧c.shut.length≤100000
theorem akN (n:Int)(h:0≤n∧n≤100400):(0≤(bz n).2.1∧(bz n).2.1≤30)∧-1000≤(bz n).2.2∧(bz n).2.2≤1000:=by
 unfold bz;simp only[];have hR:0≤(n+730425)%146097∧(n+730425)%146097<146097:=by omega
 generalize (n+730425)%146097=R at*;have hD:=ZJ R ((R-R/1460+R/36524-R/146096)/365) hR (by omega) (by omega);generalize (R-R/1460+R/36524-R/146096)/365=Y at*;generalize R-(365*Y+Y/4-Y/100)=D at*;have hM:0≤(5*D+2)/153∧(5*D+2)/153≤20:=by omega
 generalize (5*D+2)/153=M at*;refine⟨?_,by omega,by omega⟩;split<;>omega
theorem at2 (c:City)(hc:nM c)(n:Int)(h:0≤n∧n≤100400):ak T 187 [fm c,.int n] (.bool (jA c.rest c.feasts c.shut n)):=by
 refine .of_tree rfl (lA 86 (by kernel_rfl)) aw8 ?_;simp[Vw];refine⟨_,JB n h,?_⟩;have w5:IntKind.i64.wrap (n+5)=n+5:=aJ (by omega);have m7:(n+5).tmod 7=(n+5)%7:=ub (by omega);obtain⟨h1,h2,h3⟩:=hc;simp[w5,m7];refine⟨_,rV c.rest ((n+5)%7) (by omega),?_⟩;unfold jA;rw[←P5];cases hr:hasB c.rest ((n+5)%7)
 ·obtain⟨jU,ew⟩:=akN n h;have wm:IntKind.i64.wrap (100*(bz n).2.1)=100*(bz n).2.1:=aJ (by omega);have wd:IntKind.i64.wrap (100*(bz n).2.1+(bz n).2.2)=100*(bz n).2.1+(bz n).2.2:=aJ (by omega);simp[hr,wm,wd];refine⟨_,rV c.feasts _ (by omega),?_⟩;have e1:=P5 c.feasts (100*(bz n).2.1+(bz n).2.2);have e2:=P5 c.shut n;simp at e1 e2;cases hf:hasB c.feasts (100*(bz n).2.1+(bz n).2.2)
  ·simp[hf,←e1,←e2];exact⟨_,rV c.shut n (by omega),rfl⟩
  ·simp[hf,←e1]
 ·simp[hr]
end Rm
namespace Rm
open Go Go.Proofs Cx
def dw (c:City)(a:Int)(k:Nat):List Int:=((List.range k).map fun(i:Nat)=>a+i).filter (jA c.rest c.feasts c.shut)
theorem ZS (c:City)(a:Int)(k:Nat):dw c a (k+1)=dw c a k++if jA c.rest c.feasts c.shut (a+k) then[a+k] else[]:=by
 unfold dw;rw[List.range_succ,pf,NT]
 congr 1
 cases h:jA c.rest c.feasts c.shut (a+k)<;>simp[h]
theorem ak5 (c:City)(a:Int){k n:Nat}(h:k≤n):∃r,dw c a n=dw c a k++r:=by
 induction n with
 |zero=>obtain rfl:k=0:=by omega
        exact⟨[],by simp⟩
 |succ n ih=>
  by_cases e:k=n+1
  ·subst e;exact⟨[],by simp⟩
  ·obtain⟨r,hr⟩:=ih (by omega);exact⟨r++_,by rw[ZS,hr,oY]⟩
def qL (d:Int):D:=.tup [.int d]
theorem ak6 (c:City)(a b:Int):ZU [.ref (.int a),.ref (.int b),.ref (fm c)]=(dw c a (b-a+1).toNat).map qL:=by
 have hi:∀l:List Int,xz (ints l)=l:=fun l=>by
  show(l.map D.int).map D.i=l;rw[NX];exact List.map_id l
 show(ZT (xz (ints c.rest)) (xz (ints c.feasts)) (xz (ints c.shut)) a b).map _=_;rw[hi,hi,hi];rfl
theorem ak3 (c:City)(hc:nM c)(a b:Int)(ha:0≤a)(hb:b≤100400)(AA:a≤100400):ak T 186 [.ref (.int a),.ref (.int b),.ref (fm c)] (.list ((dw c a (b-a+1).toNat).map qL)):=by
 have uR:=ak6 c a b;rw[←uR];obtain⟨N,hN⟩:∃N,N=(b-a+1).toNat:=⟨_,rfl⟩
 refine ak.of_it (pc:=(ab sw)) (J:=1000) (k:=1) rfl (fun x hx=>?_) (fun m hm=>?_)
 ·rw[uR] at hx;obtain⟨i,_,rfl⟩:=dH.1 hx;exact⟨_,rfl,rfl⟩
 ·rw[uR] at hm ⊢;rw[←hN] at hm ⊢;refine Nx ?_;rw[aw5];simp[Vu];refine aL.forLoop (α:=Nat) (fun k vr vo=>k≤N∧vr=[.int (a+k)]∧vo=[.list ((dw c a k).map qL)]∧(dw c a k).length≤m) (fun k=>N-k) 0 ?_ ?_
  ·simp[amb,dw]
  ·rintro k vr vo ⟨hk,rfl,rfl,lF⟩;by_cases ar:k<N
   ·have hle:a+(k:Int)≤b:=by omega
    have fT:IntKind.i64.wrap (a+(k:Int)+1)=a+((k+1:Nat):Int):=by rw[aJ (by omega)];omega
    have dp:=(at2 c hc (a+k) (by omega))
    have A9:=ZS c a k;obtain⟨r,hr⟩:=ak5 c a (k:=k+1) (n:=N) ar;simp[agZ,Mk,hle];refine⟨_,dp.yld (by decide),?_⟩;cases hi:jA c.rest c.feasts c.shut (a+k)
    ·simp[hi] at A9 ⊢;exact⟨k+1,by omega,by omega,fT,by rw[A9],by rw[A9];exact lF⟩
    ·simp[hi] at A9 ⊢;have hlen:(dw c a (k+1)).length=(dw c a k).length+1:=by rw[A9];simp
     have Ey:(dw c a k).map qL++[D.tup [D.int (a+k)]]=(dw c a (k+1)).map qL:=by rw[A9,pf];rfl
     have Ev:(dw c a (k+1)).map qL=((dw c a N).map qL).take ((dw c a k).length+1):=by
      rw[hr,pf,List.take_append_of_le_length (by simp[hlen]),Ct (by simp[hlen])]
     have bA:(dw c a k).length<((dw c a N).map qL).length:=by rw[hr];simp[hlen];omega
     rw[Ey];refine⟨_,ak.answer Ev bA lF,?_⟩;by_cases xg:(dw c a k).length<m
     ·simp[xg];exact⟨k+1,by omega,by omega,fT,rfl,by omega⟩
     ·obtain rfl:(dw c a k).length=m:=by omega
      simp;rw[Ev]
   ·obtain rfl:k=N:=by omega
    have hle:¬a+(k:Int)≤b:=by omega
    simp[agZ,Mk,hle];rw[Ct (by simp;omega)]
end Rm
namespace Rm
open Go Go.Proofs Cx
theorem ak7 (c:City)(a b:Int):ak T 161 [fm c,.int a,.int b] (.clo 186 [.ref (.int a),.ref (.int b),.ref (fm c)]):=by
 refine .of_tree rfl (lA 85 (by kernel_rfl)) aw6 ?_;simp[Vt]
def jl (d:Int):Int:=if 100000<d+400 then 100000 else d+400
def bP (c:City)(d:Int):Int×Int:=
 if aU d=false then(0,3) else match dw c d (jl d-d+1).toNat with|[]=>(0,3)|x::_=>(x,0)
theorem ak4 {c:City}{a:Int}{k:Nat}{x:Int}(h:x∈dw c a k):a≤x∧x<a+k:=by
 unfold dw at h;obtain⟨h1,_⟩:=ei.mp h;obtain⟨i,hi,rfl⟩:=dH.mp h1;have:=gf.mp hi;omega
theorem th {c:City}{d:Int}(h:(bP c d).2=0):aU d=true∧d≤(bP c d).1∧(bP c d).1≤100000:=by
 unfold bP at h ⊢;cases hd:aU d
 ·simp[hd] at h
 ·simp only[hd] at h ⊢;cases hk:dw c d (jl d-d+1).toNat with
  |nil=>rw[hk] at h;simp at h
  |cons x l=>
   have hm:x∈dw c d (jl d-d+1).toNat:=by rw[hk];simp
   have:=ak4 hm;have he:jl d≤100000:=by unfold jl;split<;>omega
   simp[aU] at hd;simp;unfold jl at*;omega
theorem YT (c:City)(hc:nM c)(d:Int):ak T 127 [fm c,.int d] (.tup [.int (bP c d).1,.int (bP c d).2]):=by
 refine .of_tree rfl (lA 84 (by kernel_rfl)) aw2 ?_;simp[Vq];refine⟨_,oT d,?_⟩;cases hd:aU d
 ·simp[bP,hd]
 have dP:0≤d∧d≤100000:=by simpa [aU] using hd
 have hw:IntKind.i64.wrap (d+400)=d+400:=aJ (by omega);have he:jl d≤100000:=by unfold jl;split<;>omega
 simp[hd,hw];have hE:(if 100000<d+400 then D.int 100000 else D.int (d+400))=D.int (jl d):=by unfold jl;split<;>rfl
 rw[hE];refine⟨_,ak7 c d (jl d),_,_,rfl,_,ak3 c hc d (jl d) dP.1 (by omega) (by omega),?_⟩;cases hk:dw c d (jl d-d+1).toNat with
 |nil=>
  have hn:bP c d=(0,3):=by unfold bP;simp[hd,hk]
  rw[hn];refine aL.eachR [] (by simp) (fun _ vo=>vo=[.agg [.int 0],.agg [.int 0]]) ?_ (fun k x vo hx hi=>by simp at hx) (fun vo hi=>?_)
  ·simp
  ·subst hi;simp
 |cons x l=>
  have hn:bP c d=(x,0):=by unfold bP;simp[hd,hk]
  rw[hn];refine aL.eachR ((x::l).map qL) (by simp) (fun k vo=>k=0∧vo=[.agg [.int 0],.agg [.int 0]]) ?_ (fun k y vo hx hi=>?_) (fun vo hi=>?_)
  ·simp
  ·obtain⟨rfl,rfl⟩:=hi;simp at hx;subst hx;simp[avx,TO,qL];rfl
  ·exact absurd hi.1 (by simp)
end Rm
namespace Rm
open Go Go.Proofs Cx
def vF (o:Int)(d:Int)(h:Halt):Int:=if(h.order=o∧h.fr≤d)∧d≤h.to then h.to+1 else d
def fD (r:Realm)(o d:Int)(k:Nat):Int:=(r.halts.take k).foldl (vF o) d
theorem M7 (r:Realm)(o d:Int){k:Nat}(hk:k<r.halts.length):fD r o d (k+1)=vF o (fD r o d k) r.halts[k]:=by
 unfold fD;rw[jO hk,Cp];rfl
def jf (r:Realm):Prop:=r.halts.length≤100000∧∀h,h∈r.halts→0≤h.fr∧h.to≤100000
theorem M6 {r:Realm}(hh:jf r)(o d:Int)(hd:d≤100001):∀k,k≤r.halts.length→d≤fD r o d k∧fD r o d k≤100001
 |0,_=>⟨by simp[fD],by simpa [fD] using hd⟩
 |k+1,hk=>by
  obtain⟨h1,h2⟩:=M6 hh o d hd k (by omega);rw[M7 r o d (by omega)];have:=hh.2 _ (cv (show k<r.halts.length by omega));unfold vF;split<;>omega
def rF (r:Realm)(o:Int):Nat→Int→Int
 |0,d=>d
 |n+1,d=>if fD r o d r.halts.length=d then d else rF r o n (fD r o d r.halts.length)
def dg (r:Realm)(o d:Int):Int:=rF r o (100002-d).toNat d
theorem GO {r:Realm}(hh:jf r)(o:Int):∀(n:Nat) (d:Int),d≤100001→d≤rF r o n d∧rF r o n d≤100001
 |0,d,hd=>⟨yN _,hd⟩
 |n+1,d,hd=>by
  obtain⟨h1,h2⟩:=M6 hh o d hd r.halts.length (bK _);unfold rF;split
  ·omega
  ·have:=GO hh o n _ h2;omega
theorem awx (r:Realm)(hh:jf r)(o d:Int)(h0:0≤d)(hd:d≤100001):ak T 126 [aQ r,.int o,.int d] (.int (dg r o d)):=by
 refine .of_tree rfl (lA 83 (by kernel_rfl)) azH ?_;simp[XL];refine aL.forLoop (α:=Int×Bool×Nat) (fun s vr vo=>vr=[.int s.1,.bool s.2.1]∧vo=[]∧d≤s.1∧s.1≤100001∧(s.2.1=true→(100002-s.1).toNat≤s.2.2)∧(s.2.1=true→rF r o s.2.2 s.1=dg r o d)∧(s.2.1=false→s.1=dg r o d)) (fun s=>2*(100001-s.1).toNat+(if s.2.1 then 1 else 0)) (d,true,(100002-d).toNat) ?_ ?_
 ·simp;exact⟨by omega,rfl⟩
 ·rintro⟨e,ch,n⟩ vr vo ⟨rfl,rfl,h1,h2,h3,h4,h5⟩;simp only at*;cases ch
  ·simp[ahk,MM];exact h5 rfl
  ·have h3:=h3 rfl;have h4:=h4 rfl;obtain⟨n,rfl⟩:∃m,n=m+1:=⟨n-1,by omega⟩
   have bU:=M6 hh o e h2;simp[ahk,MM];refine aL.forRounds r.halts.length (fun k=>[.int (fD r o e k),.bool (decide (e<fD r o e k)),.int k]) (fun _=>[]) ?_ (fun k hk=>?_) ?_
   ·simp[fD]
   ·have hw:=bk hk (by have:=hh.1;omega);have cY:=bU k (by omega);have mz:=hh.2 _ (cv hk);rw[M7 r o e hk];unfold vF;generalize fD r o e k=x at*;by_cases hc:(r.halts[k].order=o∧r.halts[k].fr≤x)∧x≤r.halts[k].to
    ·have cd:IntKind.i64.wrap (r.halts[k].to+1)=r.halts[k].to+1:=aJ (by omega);simp[ML,BV,hk,hw,hc,cd];omega
    ·simp[ML,BV,hk,hw,hc]
   ·have hE:=bU r.halts.length (bK _);unfold rF at h4;generalize fD r o e r.halts.length=x at*;by_cases hx:x=e
    ·rw[if_pos hx] at h4;subst hx;simp[ML,BV];exact⟨x,by omega,rfl,h1,h2,h4⟩
    ·rw[if_neg hx] at h4;have ar:e<x:=by omega
     simp[ML,BV,ar];exact⟨x,by omega,rfl,by omega,by omega,n,by omega,h4⟩
def j5 (r:Realm)(c:City)(o:Int):Nat→Int→Int×Int
 |0,d=>(d,0)
 |n+1,d=>
  if(bP c (dg r o d)).2≠0 then(0,3)
  else if(bP c (dg r o d)).1=dg r o d then(dg r o d,0)
  else j5 r c o n (bP c (dg r o d)).1
theorem tR (r:Realm)(c:City)(o:Int)(n:Nat)(d:Int):j5 r c o (n+1) d=
 if(bP c (dg r o d)).2≠0 then(0,3)
 else if(bP c (dg r o d)).1=dg r o d then(dg r o d,0)
 else j5 r c o n (bP c (dg r o d)).1:=rfl
def g9 (r:Realm)(city d:Int):Int×Int:=j5 r (r.cities.getD city.toNat default) (cD r city) (100002-d).toNat d
theorem U4 (r:Realm)(hh:jf r)(city d:Int)(hc:0≤city∧city<r.cities.length)(hs:∀c,c∈r.cities→nM c)(h0:0≤d)(hd:d≤100001):ak T 79 [aQ r,.int city,.int d] (.tup [.int (g9 r city d).1,.int (g9 r city d).2]):=by
 refine .of_tree rfl (lA 82 (by kernel_rfl)) azG ?_;simp[XK];refine⟨_,qo r city,?_⟩;have bA:city.toNat<r.cities.length:=by omega
 have DX:r.cities.getD city.toNat default=r.cities[city.toNat]:=by simp[bA]
 have Et:=hs _ (cv bA);have hF:g9 r city d=j5 r r.cities[city.toNat] (cD r city) (100002-d).toNat d:=by unfold g9;rw[DX]
 rw[hF];refine aL.forLoop (α:=Int×Nat) (fun s vr vo=>(∃a b,vr=[.int s.1,a,b])∧vo=[]∧0≤s.1∧s.1≤100001∧(100002-s.1).toNat≤s.2∧j5 r r.cities[city.toNat] (cD r city) s.2 s.1=j5 r r.cities[city.toNat] (cD r city) (100002-d).toNat d) (fun s=>s.2) (d,(100002-d).toNat) ?_ ?_
 ·simp;omega
 ·rintro⟨e,n⟩ vr vo ⟨⟨a,b,rfl⟩,rfl,h1,h2,h3,h4⟩;simp only at*;obtain⟨n,rfl⟩:∃m,n=m+1:=⟨n-1,by omega⟩
  rw[←h4];have A7:=GO hh (cD r city) (100002-e).toNat e h2;have hsr:=awx r hh (cD r city) e h1 h2;rw[tR];change e≤dg r (cD r city) e∧dg r (cD r city) e≤100001 at A7;generalize dg r (cD r city) e=x at*;have AV:=YT r.cities[city.toNat] Et x;have ko:=th (c:=r.cities[city.toNat]) (d:=x);generalize bP r.cities[city.toNat] x=N at*;obtain⟨y,er⟩:=N;simp only at AV ko;simp[avD,UO];refine⟨_,hsr,?_⟩;simp[bA,hc];refine⟨_,AV,?_⟩;by_cases he:er=0
  ·obtain⟨g1,g2,g3⟩:=ko he;by_cases hy:y=x
   ·simp[he,hy]
   ·simp[he,hy];exact⟨y,n,by omega,rfl,by omega,by omega,by omega,rfl⟩
  ·simp[he]
end Rm
namespace Rm
open Go Go.Proofs Cx
structure RightD (r:Realm):Prop where
 small:Small r
 halts:jf r
theorem RightD.cities {r:Realm}(h:RightD r)(c:City)(hc:c∈r.cities):nM c:=by
 obtain⟨h1,h2,h3,_⟩:=h.small.city c hc;exact⟨by omega,by omega,by omega⟩
theorem CG (d:Int)(t:Tenor):∃n e:Int,ak T 124 [.int d,jS t] (.tup [.int n,.int e]):=by
 by_cases h0:t.n<0
 ·refine⟨0,3,.of_tree rfl qG rJ ?_⟩;simp[oR,h0]
 by_cases h1:20000<t.n
 ·refine⟨0,3,.of_tree rfl qG rJ ?_⟩;simp[oR,h0,h1]
 by_cases h2:t.unit=1
 ·obtain⟨n,e,h,_⟩:=Yw d t.n;refine⟨n,e,.of_tree rfl qG rJ ?_⟩;simp[oR,h0,h1,h2];refine⟨_,h,?_⟩;simp
 ·refine⟨IntKind.i64.wrap (d+t.n),0,.of_tree rfl qG rJ ?_⟩;simp[oR,h0,h1,h2]
theorem akb (r:Realm)(hr:RightD r)(b:Bill)(seen:Int):∃n e:Int,ak T 78 [aQ r,db b,.int seen] (.tup [.int n,.int e]):=by
 have KI:D.agg [D.int b.tenor.kind,D.int b.tenor.n,D.int b.tenor.unit]=jS b.tenor:=rfl;by_cases h0:b.tenor.kind=0
 ·refine⟨seen,0,.of_tree rfl wk yC ?_⟩;simp[nO,h0]
 by_cases h1:b.tenor.kind=1
 ·obtain⟨n,e,h⟩:=CG seen b.tenor;refine⟨n,e,.of_tree rfl wk yC ?_⟩;have cu:(b.tenor.kind=1)=True:=eq_true h1;simp[nO,h0,cu];refine⟨_,h,?_⟩;simp
 by_cases h2:b.tenor.kind=2
 ·obtain⟨n,e,h⟩:=CG b.day b.tenor;refine⟨n,e,.of_tree rfl wk yC ?_⟩;have jn:(b.tenor.kind=2)=True:=eq_true h2;simp[nO,h0,h1,jn];refine⟨_,h,?_⟩;simp
 by_cases h4:b.tenor.kind=4
 ·obtain⟨n,e,h,_⟩:=ajv r b.city b.pay (by have:=hr.small.us;omega);refine⟨IntKind.i64.wrap (b.day+n),e,.of_tree rfl wk yC ?_⟩;have km:(b.tenor.kind=4)=True:=eq_true h4;simp[nO,h0,h1,h2,km];refine⟨_,h,?_⟩;simp
 ·refine⟨b.tenor.n,0,.of_tree rfl wk yC ?_⟩;simp[nO,h0,h1,h2,h4]
theorem ak.ex_of_tree {tab:Nat→Option PC}{ext:Nat→Option (aY→List D→Option D)}{f:Nat}{pc:PC}{t:PT}{ds:List D}{P:D→Prop}(hx:ext f=none)(ht:tab f=some pc)(he:tree pc=t)
 (h:aK (dq tab ext) t (m3 ds) (fun x=>∃d,x=.ret d∧P d)):∃d,ak (dq tab ext) f ds d∧P d:=by
 subst he;obtain⟨x,⟨d,rfl,hd⟩,n0,hn⟩:=ah2 (LO ⟨fun _ _ _ h=>(by obtain⟨_,h,_⟩:=h;cases h),fun _ _ _ _ _ _ h=>(by obtain⟨_,h,_⟩:=h;cases h),fun _ h=>h⟩ h);exact⟨d,.of_pc hx ht ⟨.ret d,rfl,n0,hn⟩,hd⟩
def Hi (d:D):Prop:=∃n e:Int,d=.tup [.int n,.int e]
@[simp] theorem aDc (n e:Int):Hi (.tup [.int n,.int e])=True:=eq_true ⟨n,e,rfl⟩
theorem yL (r:Realm)(hr:RightD r)(b:Bill)(seen bF:Int):∃d,ak T 36 [aQ r,db b,.int seen,.int bF] d∧Hi d:=by
 have KI:D.agg [D.int b.tenor.kind,D.int b.tenor.n,D.int b.tenor.unit]=jS b.tenor:=rfl;have gU:=MO r hr.small;refine ak.ex_of_tree rfl Oi XG ?_;simp[G1];refine⟨_,gU,?_⟩;by_cases h0:dv r=0
 case neg=>simp[h0]
 simp[h0];refine⟨_,Bg r b.city,?_⟩;cases h1:ax b.city r.cities.length
 ·simp[h1]
 simp[h1];refine⟨_,Bg r b.pay,?_⟩;cases h2:ax b.pay r.cities.length
 ·simp[h2]
 simp[h2];refine⟨_,uY b.day,?_⟩;cases h3:aU b.day
 ·simp[h3]
 simp[h3];intro _ _ _ _;have hp:0≤b.pay∧b.pay<r.cities.length:=by simpa [ax] using h2
 have fin:0≤bF→bF≤20000→∃d,ak T 78 [aQ r,db b,D.int seen] d∧
  if(d.tget 1).i=0 then ∃d1,ak T 76 [d.tget 0] d1∧(d1.b=true→IntKind.i64.wrap ((d.tget 0).i+bF)≤100000→
        ∃d2,ak T 79 [aQ r,D.int b.pay,D.int (IntKind.i64.wrap ((d.tget 0).i+bF))] d2∧Hi (D.tup [d2.tget 0,d2.tget 1]))
  else Hi (D.tup [D.int 0,d.tget 1]):=by
  intro sL lH;obtain⟨n,e,h⟩:=akb r hr b seen;refine⟨_,h,?_⟩;by_cases he:e=0
  ·simp[he];refine⟨_,uY n,?_⟩;cases hd:aU n
   ·simp[hd]
   have dP:0≤n∧n≤100000:=by simpa [aU] using hd
   have hw:IntKind.i64.wrap (n+bF)=n+bF:=aJ (by omega);simp[hd,hw];intro hle;refine⟨_,U4 r hr.halts b.pay (n+bF) hp hr.cities (by omega) (by omega),?_⟩;simp
  ·simp[he]
 by_cases hs:seen=-1
 ·simp[hs] at fin ⊢;intro sL lH;refine⟨_,Cv b.tenor,?_⟩;simp;intro _;exact fin sL lH
 ·simp[hs] at fin ⊢;refine⟨_,uY seen,?_⟩;cases hk:aU seen
  ·simp[hk]
  simp[hk];intro sL lH;exact⟨⟨_,Cv b.tenor⟩,fin sL lH⟩
def pB (r:Realm)(b:Bill)(seen bF:Int):Int×Int:=
 open Classical in if h:RightD r then((yL r h b seen bF).choose_spec.2.choose,(yL r h b seen bF).choose_spec.2.choose_spec.choose) else(0,0)
theorem NH (r:Realm)(hr:RightD r)(b:Bill)(seen bF:Int):ak T 36 [aQ r,db b,.int seen,.int bF] (.tup [.int (pB r b seen bF).1,.int (pB r b seen bF).2]):=by
 have h:=(yL r hr b seen bF).choose_spec.2.choose_spec.choose_spec;have h1:=(yL r hr b seen bF).choose_spec.1;rw[h] at h1;have e:pB r b seen bF=((yL r hr b seen bF).choose_spec.2.choose,(yL r hr b seen bF).choose_spec.2.choose_spec.choose):=by unfold pB;rw[dif_pos hr]
 rw[e];exact h1
def eg (r:Realm)(forum:Int)(f:File)(day:Int):Int:=
 if(aE f day).signs=[] then-1
 else if(pB r f.bill (fi (aE f day)) (max (jb (eK r forum 6 (aE f day) day)) 0)).2≠0 then-1
 else(pB r f.bill (fi (aE f day)) (max (jb (eK r forum 6 (aE f day) day)) 0)).1
@[simp] theorem aGH (x:File)(a0 a1 a2 a3 a4 a5 a6 a7 a8 a9 gy ib ic ij il jj jk jP jQ:D):(dm [a0,a1,a2,a3,a4,a5,a6,a7,a8,a9,gy,ib,ic,ij,il,jj,jk,jP,jQ] 0 [.int x.bill.drawer,.int x.bill.drawee,.int x.bill.payee,.int x.bill.sum,.int x.bill.currency,.int x.bill.tenor.kind,.int x.bill.tenor.n,.int x.bill.tenor.unit,.int x.bill.day,.int x.bill.city,.int x.bill.pay,.int x.bill.need,.int x.bill.rate,.int x.bill.flags,.int x.bill.parts,signs x.signs,alters x.alters,acts x.acts,facts x.facts])[15]?.getD D.none=signs x.signs:=_root_.id rfl
theorem YR (r:Realm)(hr:Right r)(hd:RightD r)(forum:Int)(f:File)(day:Int)(hf:FewS f):ak T 16 [aQ r,.int forum,bT f,.int day] (.int (eg r forum f day)):=by
 refine .of_tree rfl (lA 8 (by kernel_rfl)) awU ?_;simp[Vj];refine⟨_,UT f day (by have:=hf.signs;omega) (by have:=hf.acts;omega) (by have:=hf.alters;omega) (by have:=hf.facts;omega),?_⟩;have hg:=hf.at_ day;have hb:(aE f day).bill=f.bill:=rfl;unfold eg;generalize aE f day=g at*;simp;by_cases h0:g.signs=[]
 ·simp[h0]
 simp[h0];refine⟨_,Zj r hr forum 6 g day hg,_,ajO _,_,ahn g (by have:=hg.signs;omega) (by have:=hg.acts;omega),?_⟩;have hm:(if(D.int (jb (eK r forum 6 g day))).i<0 then D.int 0 else D.int (jb (eK r forum 6 g day)))=D.int (max (jb (eK r forum 6 g day)) 0):=by
  simp only[Dm];split
  ·rw[YE (by omega)]
  ·rw[NL (by omega)]
 rw[hm,hb];refine⟨_,NH r hd f.bill _ _,?_⟩;by_cases he:(pB r f.bill (fi g) (max (jb (eK r forum 6 g day)) 0)).2=0<;>simp[he]
end Rm
namespace Rm
open Go Go.Proofs Cx
end Rm
namespace Rm
open Go Go.Proofs Cx
theorem As {n:Nat}{f:Nat→Int}(h:fP n f=0)(k:Nat)(hk:k<n):f k=0:=JN.1 h k hk
theorem ZG {r:Realm}(h:dv r=0)(k:Nat)(hk:k<r.orders.length):oC r.orders[k]=true:=by
 unfold dv at h;rw[GN] at h;have h1:=h (eM (fe r) 20 (nA r)) (by simp);unfold eM at h1;split at h1
 ·cases h1
 have h2:=As h1 k (by simpa [fe] using hk);have h3:=(At h2).2;unfold nA at h3;simpa [hk] using h3
theorem anO {r:Realm}(hs:Small r)(h:dv r=0):vT r:=by
 intro o ho;obtain⟨k,hk,rfl⟩:=gP ho;have h1:=ZG h k hk;obtain⟨hc,_⟩:=hs.order _ ho;refine⟨by omega,fun ch kR=>?_⟩;unfold oC at h1;simp only[az] at h1;obtain⟨j,hj,rfl⟩:=gP kR;have h2:=we.1 h1.1 j hj;simpa [ax,hj] using h2
theorem anP {r:Realm}(hs:Small r)(h:dv r=0):jf r:=by
 refine⟨by have:=hs.halts;omega,fun x hx=>?_⟩;obtain⟨k,hk,rfl⟩:=gP hx;unfold dv at h;rw[GN] at h;have h1:=h (oN r) (by simp);unfold oN at h1;split at h1
 ·cases h1
 split at h1
 ·cases h1
 split at h1
 ·cases h1
 split at h1
 ·rename_i bn;have h2:=we.1 bn k hk;simp[uz,wi,ax,hk] at h2;omega
 ·cases h1
structure Good (r:Realm) (f:File):Prop where
 right:Right r
 rightD:RightD r
 few:FewS f
theorem anQ {r:Realm}{f:File}(hr:r.OK)(h:Av r f=true):Good r f:=by
 unfold Av qM at h;simp only[az,decide_eq_true_eq] at h;obtain⟨⟨⟨h1,h2⟩,h3⟩,h4⟩:=h;have hs:=PF hr h1;refine⟨⟨anO hs h4,by have:=hs.orders;omega,fun o ho=>?_⟩,⟨hs,anP hs h4⟩,?_⟩
 ·have:=hs.order o ho;refine⟨?_,by omega⟩;exact hr.2.2.2.2.1.2 o ho
 ·simp[DG] at h2;exact⟨by omega,by omega,by omega,by omega⟩
end Rm
namespace Rm
open Go Go.Proofs Cx
end Rm
namespace Rm
open Go Go.Proofs Cx
theorem aad (f:File)(day k s:Int):fo (aE f day) k s=if ax s (iQ day f.signs).length=true then fo f k s else cN:=by
 unfold fo;have h:(aE f day).facts.find? (nZ k s)=if ax s (iQ day f.signs).length=true then f.facts.find? (nZ k s) else none:=by
  show(f.facts.filter (fO (iQ day f.signs).length)).find? (nZ k s)=_;generalize (iQ day f.signs).length=n
  induction f.facts with
  |nil=>simp
  |cons x l ih=>
   by_cases hx:nZ k s x=true
   ·have hs:x.at_=s:=by simp[nZ] at hx;exact hx.2
    by_cases hn:ax s n=true
    ·have:fO n x=true:=by unfold fO;rw[hs];exact hn
     simp[NU,this,hx,hn]
    ·have:¬fO n x=true:=by unfold fO;rw[hs];exact hn
     simp only[NU,if_neg this,ih,if_neg hn]
   ·by_cases hn:fO n x=true
    ·simp[NU,hn,hx,ih]
    ·simp[NU,hn,hx,ih]
 rw[h];by_cases hn:ax s (iQ day f.signs).length=true
 ·rw[if_pos hn,if_pos hn]
 ·rw[if_neg hn,if_neg hn]
end Rm
namespace Rm
open Go Go.Proofs Cx
theorem auX (f:File)(kind sign:Int)(hl:f.facts.length≤4294967295):ak T 170 [bT f,.int kind,.int sign] (cm (fo f kind sign)):=by
 refine .of_tree rfl (lA 150 (by kernel_rfl)) ayo ?_;simp[WD];refine .scan f.facts.length (fun k=>nZ kind sign (f.facts.getD k default)=false) (fun k=>[.int k]) (fun _=>[cm cN]) ?_ (fun k hk hj ho=>?_) (fun k hk hj ho=>?_) (fun hj=>?_)
 ·simp
 ·have hw:=bk hk (by omega);simp[hk,nZ] at ho;by_cases h1:f.facts[k].kind=kind<;>by_cases h2:f.facts[k].at_=sign
  ·exact absurd h2 (ho h1)
  all_goals simp[MA,BR,hk,hw,h1,h2]
 ·have hf:fo f kind sign=eU (decide (f.facts[k].n≠0)):=by
   unfold fo;rw[pH hk (by simpa [hk] using ho) (fun j br=>by have:=hj j br;simpa [show j<f.facts.length by omega] using this)]
  simp[hk,nZ] at ho;by_cases hn:f.facts[k].n=0
  ·simp[MA,BR,hk,ho,hf,hn];rfl
  ·simp[MA,BR,hk,ho,hf,hn];rfl
 ·have hf:fo f kind sign=cN:=by
   unfold fo;rw[qO (fun j br=>by have:=hj j br;simpa [br] using this)]
  simp[MA,BR,hf]
@[simp] theorem aG9 (a0 a1 a2 a3 a4 a5 a6 a7 a8 a9 gy ib ic ij il jj jk jP jQ x:D):dm [a0,a1,a2,a3,a4,a5,a6,a7,a8,a9,gy,ib,ic,ij,il,jj,jk,jP,jQ] 18 [x]=[a0,a1,a2,a3,a4,a5,a6,a7,a8,a9,gy,ib,ic,ij,il,jj,jk,jP,x]:=_root_.id rfl
@[simp] theorem aGA:D.none.cells=[D.none]:=_root_.id rfl
end Rm
namespace Rm
open Go Go.Proofs Cx
end Rm
namespace Rm
open Go Cx
structure Kept where
 shown:Int
 protest:Int
 notice:Int
 all_:Int
 deriving DecidableEq,Inhabited
def wK (x:Kept):D:=.agg [.int x.shown,.int x.protest,.int x.notice,.int x.all_]
@[simp] theorem aCr (x:Kept):(wK x).cells=[.int x.shown,.int x.protest,.int x.notice,.int x.all_]:=_root_.id rfl
@[simp] theorem aGm (x:Kept):D.agg [.int x.shown,.int x.protest,.int x.notice,.int x.all_]=wK x:=_root_.id rfl
@[simp] theorem aCn (x:Kept):(wK x).c 0=.int x.shown:=_root_.id rfl
@[simp] theorem aCo (x:Kept):(wK x).c 1=.int x.protest:=_root_.id rfl
@[simp] theorem aCp (x:Kept):(wK x).c 2=.int x.notice:=_root_.id rfl
@[simp] theorem aCq (x:Kept):(wK x).c 3=.int x.all_:=_root_.id rfl
end Rm
namespace Rm
open Go Go.Proofs Cx
structure DView where
 realm:Realm
 forum:Int
 file:File
 sign:Int
 day:Int
 due:Int
 deriving Inhabited
def cA (x:DView):D:=.agg [strs x.realm.currencies,mg x.realm.cities,groups x.realm.groups,firms x.realm.firms,orders x.realm.orders,usances x.realm.usances,rates x.realm.rates,halts x.realm.halts,.int x.forum,.int x.file.bill.drawer,.int x.file.bill.drawee,.int x.file.bill.payee,.int x.file.bill.sum,.int x.file.bill.currency,.int x.file.bill.tenor.kind,.int x.file.bill.tenor.n,.int x.file.bill.tenor.unit,.int x.file.bill.day,.int x.file.bill.city,.int x.file.bill.pay,.int x.file.bill.need,.int x.file.bill.rate,.int x.file.bill.flags,.int x.file.bill.parts,signs x.file.signs,alters x.file.alters,acts x.file.acts,facts x.file.facts,.int x.sign,.int x.day,.int x.due]
@[simp] theorem aBO (x:DView):(cA x).cells=[strs x.realm.currencies,mg x.realm.cities,groups x.realm.groups,firms x.realm.firms,orders x.realm.orders,usances x.realm.usances,rates x.realm.rates,halts x.realm.halts,.int x.forum,.int x.file.bill.drawer,.int x.file.bill.drawee,.int x.file.bill.payee,.int x.file.bill.sum,.int x.file.bill.currency,.int x.file.bill.tenor.kind,.int x.file.bill.tenor.n,.int x.file.bill.tenor.unit,.int x.file.bill.day,.int x.file.bill.city,.int x.file.bill.pay,.int x.file.bill.need,.int x.file.bill.rate,.int x.file.bill.flags,.int x.file.bill.parts,signs x.file.signs,alters x.file.alters,acts x.file.acts,facts x.file.facts,.int x.sign,.int x.day,.int x.due]:=_root_.id rfl
@[simp] theorem aGg (x:DView):D.agg [strs x.realm.currencies,mg x.realm.cities,groups x.realm.groups,firms x.realm.firms,orders x.realm.orders,usances x.realm.usances,rates x.realm.rates,halts x.realm.halts,.int x.forum,.int x.file.bill.drawer,.int x.file.bill.drawee,.int x.file.bill.payee,.int x.file.bill.sum,.int x.file.bill.currency,.int x.file.bill.tenor.kind,.int x.file.bill.tenor.n,.int x.file.bill.tenor.unit,.int x.file.bill.day,.int x.file.bill.city,.int x.file.bill.pay,.int x.file.bill.need,.int x.file.bill.rate,.int x.file.bill.flags,.int x.file.bill.parts,signs x.file.signs,alters x.file.alters,acts x.file.acts,facts x.file.facts,.int x.sign,.int x.day,.int x.due]=cA x:=_root_.id rfl
@[simp] theorem aDr (x:DView):kg 31 (cA x)=cA x:=_root_.id rfl
@[simp] theorem aGD (x:DView)(a0 a1 a2 a3 a4 a5 a6 a7 a8 a9 gy ib ic ij il jj jk jP jQ v5 v7 v8 v9 wc Cw Cy Cz CA CB CC CD:D):D.agg (dm [a0,a1,a2,a3,a4,a5,a6,a7,a8,a9,gy,ib,ic,ij,il,jj,jk,jP,jQ,v5,v7,v8,v9,wc,Cw,Cy,Cz,CA,CB,CC,CD] 0 [strs x.realm.currencies,mg x.realm.cities,groups x.realm.groups,firms x.realm.firms,orders x.realm.orders,usances x.realm.usances,rates x.realm.rates,halts x.realm.halts,.int x.forum,.int x.file.bill.drawer,.int x.file.bill.drawee,.int x.file.bill.payee,.int x.file.bill.sum,.int x.file.bill.currency,.int x.file.bill.tenor.kind,.int x.file.bill.tenor.n,.int x.file.bill.tenor.unit,.int x.file.bill.day,.int x.file.bill.city,.int x.file.bill.pay,.int x.file.bill.need,.int x.file.bill.rate,.int x.file.bill.flags,.int x.file.bill.parts,signs x.file.signs,alters x.file.alters,acts x.file.acts,facts x.file.facts,.int x.sign,.int x.day,.int x.due])=cA x:=_root_.id rfl
@[simp] theorem aBq (x:DView):(cA x).c 1=mg x.realm.cities:=_root_.id rfl
@[simp] theorem aBM (x:DView):(cA x).c 8=.int x.forum:=_root_.id rfl
@[simp] theorem aBN (x:DView):(cA x).c 9=.int x.file.bill.drawer:=_root_.id rfl
@[simp] theorem aBr (x:DView):(cA x).c 10=.int x.file.bill.drawee:=_root_.id rfl
@[simp] theorem aBs (x:DView):(cA x).c 11=.int x.file.bill.payee:=_root_.id rfl
@[simp] theorem aBt (x:DView):(cA x).c 12=.int x.file.bill.sum:=_root_.id rfl
@[simp] theorem aBu (x:DView):(cA x).c 13=.int x.file.bill.currency:=_root_.id rfl
@[simp] theorem aBv (x:DView):(cA x).c 14=.int x.file.bill.tenor.kind:=_root_.id rfl
@[simp] theorem aBw (x:DView):(cA x).c 15=.int x.file.bill.tenor.n:=_root_.id rfl
@[simp] theorem aBx (x:DView):(cA x).c 16=.int x.file.bill.tenor.unit:=_root_.id rfl
@[simp] theorem aBy (x:DView):(cA x).c 17=.int x.file.bill.day:=_root_.id rfl
@[simp] theorem aBz (x:DView):(cA x).c 18=.int x.file.bill.city:=_root_.id rfl
@[simp] theorem aBA (x:DView):(cA x).c 19=.int x.file.bill.pay:=_root_.id rfl
@[simp] theorem aBB (x:DView):(cA x).c 20=.int x.file.bill.need:=_root_.id rfl
@[simp] theorem aBC (x:DView):(cA x).c 21=.int x.file.bill.rate:=_root_.id rfl
@[simp] theorem aBD (x:DView):(cA x).c 22=.int x.file.bill.flags:=_root_.id rfl
@[simp] theorem aBE (x:DView):(cA x).c 23=.int x.file.bill.parts:=_root_.id rfl
@[simp] theorem aBF (x:DView):(cA x).c 24=signs x.file.signs:=_root_.id rfl
@[simp] theorem aBG (x:DView):(cA x).c 25=alters x.file.alters:=_root_.id rfl
@[simp] theorem aBH (x:DView):(cA x).c 26=acts x.file.acts:=_root_.id rfl
@[simp] theorem aBI (x:DView):(cA x).c 27=facts x.file.facts:=_root_.id rfl
@[simp] theorem aBJ (x:DView):(cA x).c 28=.int x.sign:=_root_.id rfl
@[simp] theorem aBK (x:DView):(cA x).c 29=.int x.day:=_root_.id rfl
@[simp] theorem aBL (x:DView):(cA x).c 30=.int x.due:=_root_.id rfl
def nW (l:List Int):Int:=if hasB l 0=true then 0 else if hasB l 2=true then 2 else 1
def j6 (said:Said)(answer:Int):Int:=if rK said=0∨answer=1 then 1 else if rK said=2 then 2 else answer
def never:Int:=9223372036854775807
def nB (c:City):Nat→Int→Int×Int
 |0,d=>(d,0)
 |n+1,d=>if(bP c (d+1)).2≠0 then(0,(bP c (d+1)).2) else nB c n (bP c (d+1)).1
def lO (c:City)(d n:Int):Int×Int:=if aU d=false∨n<0∨20000<n then(0,3) else nB c n.toNat d
def dh (c:City)(said:Said)(fr:Int):Bool×Int:=
 if said.err≠0 then(true,never) else if said.cell.known=false then(false,0) else(true,if(lO c fr said.cell.n).2≠0 then never else(lO c fr said.cell.n).1)
def ahJ (said:Said)(Zp:Int):Bool×Int:=
 if said.err≠0 then(true,never) else if said.cell.known=false then(false,0) else if 100000<Zp+said.cell.n then(true,never) else(true,Zp+said.cell.n)
def rI (day on:Int)(t:Bool×Int):Int:=if t.1=false then 2 else if on≠-1∧on≤t.2 then 1 else if on≠-1∨t.2<day then 0 else 2
def qP (b:Bill)(kind fr:Int)(a:Act):Bool:=decide (a.kind=kind)&&decide (a.to=b.drawee)&&decide (fr≤a.day)
def m4 (b:Bill)(l:List Act)(kind fr:Int):Int:=((l.find? (qP b kind fr)).map (·.day)).getD (-1)
def BY (b:Bill)(l:List Act)(due:Int):Int:=if due<m4 b l 1 0 then-1 else m4 b l 1 0
def ZW (b:Bill)(l:List Act)(due:Int):Int:=if BY b l due≠-1 then BY b l due else due
def DView.city (v:DView):City:=v.realm.cities.getD v.file.bill.pay.toNat default
def DView.asked (v:DView)(q:Int):Said:=gR v.realm v.forum q ⟨v.file,v.sign,v.sign,-1,v.due,v.day⟩
def DView.show_ (v:DView):Bool×Int:=ahJ (eK v.realm v.forum 7 v.file v.day) v.file.bill.day
def DView.refused (v:DView):Int:=BY v.file.bill v.file.acts v.due
def DView.dishon (v:DView):Int:=ZW v.file.bill v.file.acts v.due
def DView.seen_ (v:DView):Int:=if v.file.bill.tenor.kind=1 then rI v.day (fi v.file) v.show_ else 1
def DView.presented (v:DView):Int:=
 if v.file.bill.tenor.kind=0 then rI v.day (m4 v.file.bill v.file.acts 2 0) v.show_
 else if v.refused≠-1 then v.seen_
 else if v.due=-1 then nW [v.seen_,2]
 else nW [v.seen_,rI v.day (m4 v.file.bill v.file.acts 2 v.due) (dh v.city (v.asked 10) v.due)]
def tA (b:Bill)(fr last w:Int):List Act→Int→Int
 |[],sv=>sv
 |a::l,sv=>
  if a.kind≠4∨a.to≠b.drawee∨a.day<fr∨last<a.day then tA b fr last w l sv
  else if(if a.form=1 then w else 1)=1 then 1
  else tA b fr last w l (if(if a.form=1 then w else 1)=2 then 2 else sv)
def DView.protested (v:DView):Int:=
 if(dh v.city (v.asked 10) v.dishon).1=false then 2
 else tA v.file.bill v.dishon (dh v.city (v.asked 10) v.dishon).2 (rK (v.asked 9)) v.file.acts (if v.day≤(dh v.city (v.asked 10) v.dishon).2 then 2 else 0)
def Bn (dd:Int→Int)(fr tl:Int)(fQ:List Act)(a:Act):Bool:=(decide (fr≤a.day)&&decide (a.day≤tl))||fQ.any fun b=>decide (b.to=a.who)&&decide (a.day≤dd b.day)
def oB (dd:Int→Int)(fr tl who:Int):List Act→List Act→Int→Bool×Int
 |[],_,last=>(false,last)
 |a::l,fQ,last=>
  if a.kind≠5 then oB dd fr tl who l fQ last
  else if Bn dd fr tl fQ a=false then oB dd fr tl who l fQ last
  else if a.to=who then(true,last)
  else oB dd fr tl who l (fQ++[a]) (max last (dd a.day))
def DView.who (v:DView):Int:=(cZ v.file v.sign).who
def DView.notified (v:DView):Int:=
 if(dh v.city (v.asked 12) v.dishon).1=false then 2
 else if(oB (fun d=>(dh v.city (v.asked 12) d).2) v.dishon (dh v.city (v.asked 12) v.dishon).2 v.who v.file.acts [] (dh v.city (v.asked 12) v.dishon).2).1=true then 1
 else if(oB (fun d=>(dh v.city (v.asked 12) d).2) v.dishon (dh v.city (v.asked 12) v.dishon).2 v.who v.file.acts [] (dh v.city (v.asked 12) v.dishon).2).2<v.day then 0 else 2
def gJ (r:Realm)(forum:Int)(f:File)(sign day:Int):DView:=⟨r,forum,aE f day,sign,day,eg r forum f day⟩
def noK:Kept:=⟨0,0,0,0⟩
def DView.kept (v:DView):Kept:=
 if v.sign<0∨v.file.signs.length≤v.sign then noK
 else
    let p:=if v.due≠-1 then j6 (v.asked 8) v.protested else 2
    let n:=if v.due≠-1 then j6 (v.asked 11) v.notified else 2
    ⟨v.presented,p,n,nW [v.presented,p,n]⟩
def jw (r:Realm)(forum:Int)(f:File)(sign day:Int):Kept:=(gJ r forum f sign day).kept
def JG (r:Realm)(forum:Int)(f:File)(day:Int):Int:=(gJ r forum f 0 day).dishon
def ahQ (a b:Int):Prop:=a=2∨a=b
end Rm
namespace Rm
open Go Go.Proofs Cx
theorem ah3 {α:Type}{p:α→Bool}{l:List α}(h:∀x,x∈l→p x=true):l.takeWhile p=l:=by
 induction l with
 |nil=>rfl
 |cons x l ih=>rw[sc,if_pos (h x (by simp)),ih fun y hy=>h y (by simp[hy])]
theorem ah5 {α:Type}{p:α→Bool}{l:List α}{x:α}(h:x∈l.takeWhile p):p x=true:=by
 induction l with
 |nil=>cases h
 |cons y l ih=>
  rw[sc] at h;split at h
  ·rcases cW.1 h with rfl|h
   ·assumption
   ·exact ih h
  ·cases h
end Rm
namespace Rm
open Go Go.Proofs Cx
@[simp] theorem aGz:D.none.b=false:=_root_.id rfl
theorem fg (n a b:Int):ak T 40 [.int n,.int a,.int b] (.bool (wi n a b)):=by
 refine .of_tree rfl (lA 128 (by kernel_rfl)) axM ?_;simp[V5];by_cases h:a≤n<;>simp[wi,h]
theorem nQ (n m:Int):ak T 81 [.int n,.int m] (.bool (ax n m)):=by
 refine .of_tree rfl (lA 125 (by kernel_rfl)) azW ?_;simp[XZ];by_cases h:0≤n<;>simp[ax,h]
def GS (b:Bill):Bool:=
 if b.tenor.kind=0∨b.tenor.kind=4 then decide (b.tenor.n=0)&&decide (b.tenor.unit=0)
 else if b.tenor.kind=1∨b.tenor.kind=2 then(decide (1≤b.tenor.n)&&decide (b.tenor.n≤400))&&(decide (b.tenor.unit=0)||decide (b.tenor.unit=1))
 else if b.tenor.kind=3 then(decide (b.day≤b.tenor.n)&&decide (b.tenor.n≤100000))&&decide (b.tenor.unit=0)
 else false
theorem aAm (b:Bill):ak T 82 [db b] (.bool (GS b)):=by
 refine .of_tree rfl (lA 126 (by kernel_rfl)) azX ?_;unfold GS;simp[X0];by_cases h0:b.tenor.kind=0
 ·by_cases h1:b.tenor.n=0<;>simp[h0,h1]
 by_cases h4:b.tenor.kind=4
 ·by_cases h1:b.tenor.n=0<;>simp[h4,h1]
 simp[h0,h4];by_cases k1:b.tenor.kind=1
 ·by_cases h1:1≤b.tenor.n<;>by_cases h2:b.tenor.n≤400<;>by_cases h3:b.tenor.unit=0<;>simp[k1,h1,h2,h3]
 by_cases k2:b.tenor.kind=2
 ·by_cases h1:1≤b.tenor.n<;>by_cases h2:b.tenor.n≤400<;>by_cases h3:b.tenor.unit=0<;>simp[k2,h1,h2,h3]
 simp[k1,k2];by_cases k3:b.tenor.kind=3
 ·by_cases h1:b.day≤b.tenor.n<;>by_cases h2:b.tenor.n≤100000<;>simp[k3,h1,h2]
 simp[k3]
def tn (n m:Int):Bool:=decide (n=-1)||ax n m
def vP (r:Realm)(b:Bill):Bool:=((ax b.drawer r.firms.length&&ax b.drawee r.firms.length)&&tn b.payee r.firms.length)&&tn b.need r.firms.length
def tY (r:Realm)(b:Bill):Bool:=(ax b.currency r.currencies.length&&ax b.city r.cities.length)&&ax b.pay r.cities.length
def ym (b:Bill):Prop:=((((1≤b.sum∧b.sum≤1099511627776)∧0≤b.day)∧b.day≤100000)∧0≤b.rate)∧b.rate≤1000
def PO (b:Bill):Prop:=((0≤b.flags∧b.flags≤7)∧(cX .and .i64 b.flags 4=0∨¬b.payee=-1))∧GS b=true
structure BillOK (r:Realm) (b:Bill):Prop where
 realm:dv r=0
 who:vP r b=true
 where_:tY r b=true
 range:ym b
 parts:1≤b.parts∧b.parts≤4
 form:PO b
 usance:b.tenor.kind=4→∃u,u∈r.usances∧u.fr=b.city∧u.to=b.pay
def oX (P:Prop)(d:D):Prop:=∃e:Int,d=.int e∧(e=0↔P)
theorem oX.no {P:Prop}{e:Int}(h:¬P)(he:e≠0):oX P (.int e):=⟨e,rfl,fun x=>absurd x he,fun x=>absurd x h⟩
theorem oX.ok {P:Prop}(h:P):oX P (.int 0):=⟨0,rfl,fun _=>h,fun _=>rfl⟩
theorem aAl (r:Realm)(hs:Small r)(b:Bill):∃d,ak T 38 [aQ r,db b] d∧oX (BillOK r b) d:=by
 refine ak.ex_of_tree rfl ajW azV ?_;simp[XY];refine⟨_,MO r hs,?_⟩;by_cases h0:dv r=0
 case neg=>
  simp[h0];exact .no (fun h=>h0 h.realm) h0
 simp[h0];refine⟨_,nQ _ _,?_⟩;cases h1:ax b.drawer r.firms.length
 ·simp;exact .no (fun h=>by simpa [vP,h1] using h.who) (by decide)
 simp;refine⟨_,nQ _ _,?_⟩;cases h2:ax b.drawee r.firms.length
 ·simp;exact .no (fun h=>by simpa [vP,h2] using h.who) (by decide)
 by_cases h3:tn b.payee r.firms.length=true
 case neg=>
  have dO:¬b.payee=-1∧ax b.payee r.firms.length=false:=by simpa [tn] using h3
  simp[dO.1];refine⟨_,nQ _ _,?_⟩;simp[dO.2];exact .no (fun h=>h3 (by have:=h.who;simp[vP] at this;exact this.1.2)) (by decide)
 by_cases h4:tn b.need r.firms.length=true
 case neg=>
  have km:¬b.need=-1∧ax b.need r.firms.length=false:=by simpa [tn] using h4
  have eA:oX (BillOK r b) (.int 1):=.no (fun h=>h4 (by have:=h.who;simp[vP] at this;exact this.2)) (by decide);by_cases hp:b.payee=-1
  ·simp[hp,km.1];refine⟨_,nQ _ _,?_⟩;simp[km.2];exact eA
  ·have dO:ax b.payee r.firms.length=true:=by simpa [tn,hp] using h3
   simp[hp];refine⟨_,nQ _ _,?_⟩;simp[dO,km.1];refine⟨_,nQ _ _,?_⟩;simp[km.2];exact eA
 have xt:vP r b=true:=by simp[vP,h1,h2,h3,h4]
 have hp:b.payee=-1∨(¬b.payee=-1∧ax b.payee r.firms.length=true):=by
  by_cases e:b.payee=-1
  ·exact .inl e
  ·exact .inr ⟨e,by simpa [tn,e] using h3⟩
 have hn:b.need=-1∨(¬b.need=-1∧ax b.need r.firms.length=true):=by
  by_cases e:b.need=-1
  ·exact .inl e
  ·exact .inr ⟨e,by simpa [tn,e] using h4⟩
 have bad:¬tY r b=true→oX (BillOK r b) (.int 1):=fun h=>.no (fun k=>h k.where_) (by decide);have fin:∀u:Int,(u=0↔∃u,u∈r.usances∧u.fr=b.city∧u.to=b.pay)→ym b→(1≤b.parts∧b.parts≤4)→PO b→tY r b=true→oX (BillOK r b) (if b.tenor.kind=4 then .int u else .int 0):=by
  intro u hu h6 h7 h8 h9;by_cases e:b.tenor.kind=4
  ·rw[if_pos e];exact⟨u,rfl,fun h=>⟨h0,xt,h9,h6,h7,h8,fun _=>hu.1 h⟩,fun h=>hu.2 (h.usance e)⟩
  ·rw[if_neg e];exact .ok ⟨h0,xt,h9,h6,h7,h8,fun h=>absurd h e⟩
 obtain⟨un,ue,hu1,_,Q8⟩:=YX r b.city b.pay (by have:=hs.us;omega);rcases hp with hp|⟨hp,fI⟩<;>rcases hn with hn|⟨hn,xh⟩
 case' inl.inl=>simp[hp,hn]
 case' inl.inr=>simp[hp,hn];refine⟨_,nQ _ _,?_⟩;simp[xh]
 case' inr.inl=>simp[hp,hn];refine⟨_,nQ _ _,?_⟩;simp[fI]
 case' inr.inr=>simp[hp,hn];refine⟨_,nQ _ _,?_⟩;simp[fI];refine⟨_,nQ _ _,?_⟩;simp[xh]
 all_goals
  refine⟨_,nQ _ _,?_⟩;cases h5:ax b.currency r.currencies.length
  ·simp;exact bad (by simp[tY,h5])
  simp;refine⟨_,nQ _ _,?_⟩;cases h6:ax b.city r.cities.length
  ·simp;exact bad (by simp[tY,h6])
  simp;refine⟨_,nQ _ _,?_⟩;cases h7:ax b.pay r.cities.length
  ·simp;exact bad (by simp[tY,h7])
  have xr:tY r b=true:=by simp[tY,h5,h6,h7]
  simp;by_cases h8:ym b
  case neg=>
   have PW:((((b.sum<1∨1099511627776<b.sum)∨b.day<0)∨100000<b.day)∨b.rate<0)∨1000<b.rate:=by unfold ym at h8;omega
   rw[if_pos PW];exact .no (fun k=>h8 k.range) (by decide)
  have PW:¬(((((b.sum<1∨1099511627776<b.sum)∨b.day<0)∨100000<b.day)∨b.rate<0)∨1000<b.rate):=by unfold ym at h8;omega
  rw[if_neg PW];by_cases h9:1≤b.parts∧b.parts≤4
  case neg=>
   rw[if_pos (by omega)];exact .no (fun k=>h9 k.parts) (by decide)
  rw[if_neg (by omega)];have Oj:¬PO b→oX (BillOK r b) (.int 2):=fun h=>.no (fun k=>h k.form) (by decide);by_cases g1:0≤b.flags∧b.flags≤7
  case neg=>
   have dI:b.flags<0∨7<b.flags:=by omega
   simp[g1,dI];exact Oj (fun h=>g1 h.1.1)
  have dI:¬(b.flags<0∨7<b.flags):=by omega
  by_cases g2:cX .and .i64 b.flags 4=0∨¬b.payee=-1
  case neg=>
   have kN:¬cX .and .i64 b.flags 4=0∧b.payee=-1:=by simpa using g2
   first
        |exact absurd kN.2 hp
        |(simp[g1,dI,kN]
          exact Oj (fun h=>g2 h.1.2))
  have g3:(b.payee=-1→cX .and .i64 b.flags 4=0):=fun e=>g2.resolve_right (fun h=>h e);simp[g1,dI,hp,g3];refine⟨_,aAm b,?_⟩;cases lD:GS b
  ·simp;exact Oj (fun h=>by have:=h.2;rw[lD] at this;cases this)
  have hf:=fin ue Q8 h8 h9 ⟨⟨g1,g2⟩,lD⟩ xr;simp;by_cases e:b.tenor.kind=4
  ·simp[e] at hf ⊢;exact⟨_,hu1,hf⟩
  ·simp[e] at hf ⊢;exact hf
end Rm
namespace Rm
open Go Go.Proofs Cx
def B5 (f:File)(i part:Int):Bool:=decide (i=0)||decide ((cZ f i).part=part)
theorem afQ (f:File)(i part:Int)(h:i=0∨(0≤i∧i<f.signs.length)):ak T 129 [bT f,.int i,.int part] (.bool (B5 f i part)):=by
 refine .of_tree rfl (lA 131 (by kernel_rfl)) axO ?_;unfold B5;by_cases h0:i=0
 ·simp[Nm,h0]
 ·obtain⟨h1,h2⟩:=h.resolve_left h0;have h3:i.toNat<f.signs.length:=by omega
  simp[Nm,h0,h1,h2,h3,cZ]
def Hr (f:File)(i:Int)(kinds:List Int):Bool:=wi (cZ f i).for_ 0 (i-1)&&(B5 f (cZ f i).for_ (cZ f i).part&&hasB kinds (cZ f (cZ f i).for_).kind)
theorem aui (f:File)(i:Int)(kinds:List Int)(h:0≤i∧i<f.signs.length)(hl:f.signs.length≤100000)(hk:kinds.length≤100):ak T 128 [bT f,.int i,ints kinds] (.bool (Hr f i kinds)):=by
 refine .of_tree rfl (lA 130 (by kernel_rfl)) axJ ?_;have h1:i.toNat<f.signs.length:=by omega
 have hw:IntKind.i64.wrap (i-1)=i-1:=aJ (by omega);have hs:cZ f i=f.signs[i.toNat]:=by simp[cZ,h1]
 unfold Hr;rw[hs];simp[V2,h,h1,hw];refine⟨_,fg _ _ _,?_⟩;cases hb:wi f.signs[i.toNat].for_ 0 (i-1)
 ·simp
 ·have bU:0≤f.signs[i.toNat].for_∧f.signs[i.toNat].for_<f.signs.length:=by
   simp[wi] at hb;omega
  have h2:f.signs[i.toNat].for_.toNat<f.signs.length:=by omega
  have eY:cZ f f.signs[i.toNat].for_=f.signs[f.signs[i.toNat].for_.toNat]:=by simp[cZ,h2]
  rw[eY];simp;refine⟨_,afQ f _ _ (.inr bU),?_⟩;cases dt:B5 f f.signs[i.toNat].for_ f.signs[i.toNat].part
  ·simp
  simp[bU,h2];exact rV kinds _ (by omega)
def aak (r:Realm)(b:Bill)(s:Sign)(B:List Int→Bool):Bool:=
 if s.kind=0 then((((decide (s.who=b.drawer)&&decide (s.sum=0))&&decide (cX .or .i64 s.flags 1=1))&&decide (s.part=0))&&decide (s.day=b.day))&&decide (s.city=b.city)
 else if s.kind=1 then decide (s.who=b.drawee)&&(wi s.sum 1 1099511627776&&decide (s.flags=0))
 else if s.kind=2 then((wi s.to (-1) ((r.firms.length:Int)-1)&&decide (s.sum=0))&&wi s.flags 0 7)&&decide (cX .and .i64 s.flags 6≠6)
 else if s.kind=3 then(decide (s.sum=0)&&decide (s.flags=0))&&B [0,1,2,4]
 else if s.kind=4 then((wi s.sum 1 1099511627776&&decide (s.flags=0))&&decide (s.who≠b.drawee))&&B [0,2]
 else false
def PM (r:Realm)(b:Bill)(i:Nat)(s:Sign)(B:List Int→Bool):Bool:=
 if ¬(i=0↔s.kind=0)∨(¬s.kind=2∧¬s.to=-1) then false
 else if(¬s.kind=3∧¬s.kind=4)∧¬s.for_=-1 then false
 else aak r b s B
def DI (r:Realm)(f:File)(i:Nat):Bool:=PM r f.bill i (f.signs.getD i default) (Hr f i)
theorem auk (r:Realm)(hr:Small r)(f:File)(i:Nat)(h:i<f.signs.length)(hl:f.signs.length≤100000):ak T 84 [aQ r,bT f,.int i] (.bool (DI r f i)):=by
 refine .of_tree rfl (lA 129 (by kernel_rfl)) axL ?_;have dE:=hr.firms;have hw:IntKind.i64.wrap ((r.firms.length:Int)-1)=(r.firms.length:Int)-1:=aJ (by omega);have hs:f.signs.getD i default=f.signs[i]:=by simp[h]
 have w6:=fun ks hk=>aui f i ks ⟨by omega,by omega⟩ hl hk;unfold DI;rw[hs];generalize hB:Hr f i=B at w6 ⊢;generalize hX:PM r f.bill i f.signs[i] B=X;simp[V4,h];generalize f.signs[i]=s at*;unfold PM at hX;by_cases h1:¬(i=0↔s.kind=0)∨(¬s.kind=2∧¬s.to=-1)
 ·rw[if_pos h1] at hX ⊢;exact hX.symm
 rw[if_neg h1] at hX ⊢;by_cases h2:(¬s.kind=3∧¬s.kind=4)∧¬s.for_=-1
 ·rw[if_pos h2] at hX ⊢;exact hX.symm
 rw[if_neg h2] at hX ⊢;refine⟨_,fg _ _ _,?_⟩;unfold aak at hX;by_cases k0:s.kind=0
 ·rw[if_pos k0] at hX ⊢;rw[←hX];by_cases a:(((s.who=f.bill.drawer∧s.sum=0)∧cX BinOp.or IntKind.i64 s.flags 1=1)∧s.part=0)∧s.day=f.bill.day
  ·simp[a]
  ·rw[if_neg a]
   congr 1
   rw[eq_comm,YA];intro e;simp at e;exact a e.1
 rw[if_neg k0] at hX ⊢;by_cases k1:s.kind=1
 ·rw[if_pos k1] at hX ⊢;rw[←hX];by_cases a:s.who=f.bill.drawee<;>cases wi s.sum 1 1099511627776<;>simp[a]
 rw[if_neg k1] at hX ⊢;by_cases k2:s.kind=2
 ·rw[if_pos k2] at hX ⊢;rw[←hX,hw];refine⟨_,fg _ _ _,?_⟩;cases wi s.to (-1) ((r.firms.length:Int)-1)
  ·simp
  by_cases a:s.sum=0
  case neg=>simp[a]
  simp[a];refine⟨_,fg _ _ _,?_⟩;cases wi s.flags 0 7<;>simp
 rw[if_neg k2] at hX ⊢;by_cases k3:s.kind=3
 ·rw[if_pos k3] at hX ⊢;rw[←hX];by_cases a:s.sum=0∧s.flags=0
  case neg=>
   rw[if_neg a,if_neg a]
   congr 1
   rw[eq_comm,YA];intro e;simp at e;exact a e.1
  rw[if_pos a];refine⟨_,w6 [0,1,2,4] (by decide),?_⟩;simp[a]
 rw[if_neg k3] at hX ⊢;by_cases k4:s.kind=4
 ·rw[if_pos k4] at hX ⊢;rw[←hX];cases wi s.sum 1 1099511627776
  ·simp
  by_cases a:s.flags=0∧¬s.who=f.bill.drawee
  case neg=>
   simp[a]
  simp[a];exact w6 [0,2] (by decide)
 rw[if_neg k4] at hX ⊢;exact hX.symm
end Rm
namespace Rm
open Go Go.Proofs Cx
def jT (f:File)(i:Nat):Int:=if i=0 then f.bill.day else(f.signs.getD (i-1) default).day
def G3 (f:File)(i:Nat)(s:Sign):Bool:=(f.signs.take i).any fun x=>(decide (s.kind=1)&&decide (x.kind=1))&&decide (x.part=s.part)
def B3 (r:Realm)(f:File)(i:Nat):Int:=
 let s:=f.signs.getD i default
 if wi s.part 0 (f.bill.parts-1)=false then 15
 else if ax s.who r.firms.length=false∨ax s.city r.cities.length=false then 1
 else if wi s.day (jT f i) 100000=false∨(i=0∧¬s.day=jT f i) then 13
 else if DI r f i=false then 14
 else if G3 f i s=true then 5 else 0
theorem afP (r:Realm)(hr:Small r)(f:File)(hp:1≤f.bill.parts∧f.bill.parts≤4)(i:Nat)(h:i<f.signs.length)(hl:f.signs.length≤100000):ak T 39 [aQ r,bT f,.int i] (.int (B3 r f i)):=by
 refine .of_tree rfl (lA 127 (by kernel_rfl)) axN ?_;have dE:=hr.firms;have Qe:=hr.cities;have fT:IntKind.i64.wrap ((r.firms.length:Int)-1)=(r.firms.length:Int)-1:=aJ (by omega);have cd:IntKind.i64.wrap ((r.cities.length:Int)-1)=(r.cities.length:Int)-1:=aJ (by omega);have ED:IntKind.i64.wrap (f.bill.parts-1)=f.bill.parts-1:=aJ (by omega);have hs:f.signs.getD i default=f.signs[i]:=by simp[h]
 generalize hX:B3 r f i=X;unfold B3 at hX;simp only[hs] at hX;simp[V6,h,fT,cd,ED];refine⟨_,fg _ _ _,?_⟩;cases a1:wi f.signs[i].part 0 (f.bill.parts-1)
 ·simpa [a1] using hX
 simp[a1] at hX ⊢;refine⟨_,fg _ _ _,?_⟩;rw[nr] at hX;cases a2:wi f.signs[i].who 0 ((r.firms.length:Int)-1)
 ·simpa [a2] using hX
 simp[a2] at hX ⊢;refine⟨_,fg _ _ _,?_⟩;rw[nr] at hX;cases a3:wi f.signs[i].city 0 ((r.cities.length:Int)-1)
 ·simpa [a3] using hX
 simp[a3] at hX ⊢;refine⟨by omega,?_⟩;have Kv:min i f.signs.length=i:=by omega
 refine aL.forRounds i (fun k=>[.int (jT f k),.bool ((f.signs.take k).any fun x=>(decide (f.signs[i].kind=1)&&decide (x.kind=1))&&decide (x.part=f.signs[i].part)),.int k]) (fun _=>[]) ?_ (fun k hk=>?_) ?_
 ·simp[jT]
 ·have hw:=bk hk (by omega);have bo:k<f.signs.length:=by omega
  have hf:jT f (k+1)=f.signs[k].day:=by simp[jT,bo]
  rw[jO bo,YH];generalize ((f.signs.take k).any fun x=>(decide (f.signs[i].kind=1)&&decide (x.kind=1))&&decide (x.part=f.signs[i].part))=A;simp[ag5,Mq,hk,bo,h,hw,hf,Kv];cases A
  ·by_cases e1:f.signs[i].kind=1<;>by_cases e2:f.signs[k].kind=1<;>simp[e1,e2]
  ·simp
 ·have ht:G3 f i f.signs[i]=true↔∃x,x∈List.take i f.signs∧(f.signs[i].kind=1∧x.kind=1)∧x.part=f.signs[i].part:=by simp[G3]
  simp[ag5,Mq,Kv,h];refine⟨_,fg _ _ _,?_⟩;by_cases a4:wi f.signs[i].day (jT f i) 100000=false∨(i=0∧¬f.signs[i].day=jT f i)
  ·rw[if_pos a4] at hX;rw[if_pos (by simpa using a4)];exact hX
  rw[if_neg a4] at hX;rw[if_neg (by simpa using a4)];refine⟨_,auk r hr f i h hl,?_⟩;cases a5:DI r f i
  ·simpa [a5] using hX
  simp[a5] at hX;simp only[Pq,if_true];rw[←hX];by_cases a6:G3 f i f.signs[i]=true
  ·rw[if_pos a6,if_pos (ht.1 a6)]
  ·rw[if_neg a6,if_neg (fun x=>a6 (ht.2 x))]
def CF (a:Act)(to at_ own:Bool):Bool:=
 if a.kind=0∨a.kind=1∨a.kind=2 then(to&&decide (a.at_=-1))&&decide (a.sum=0)
 else if a.kind=3∨a.kind=4∨a.kind=5 then((to&&decide (a.at_=-1))&&wi a.sum 0 1099511627776)&&wi a.form 0 1
 else if a.kind=6 then(to&&own)&&wi a.sum 1 1099511627776
 else if a.kind=9 then(decide (a.to=-1)&&own)&&decide (a.sum=0)
 else(decide (a.to=-1)&&at_)&&decide (a.sum=0)
def CJ (f:File)(a:Act):Bool:=ax a.at_ f.signs.length&&B5 f a.at_ a.part
def SR (f:File)(a:Act):Bool:=CJ f a&&decide ((cZ f a.at_).who=a.who)
def qE (r:Realm)(f:File)(a:Act):Bool:=
 if ax a.who r.firms.length=false∨(¬a.kind=4∧¬a.form=0) then false else CF a (ax a.to r.firms.length) (CJ f a) (SR f a)
theorem aug (r:Realm)(hr:Small r)(f:File)(a:Act)(hl:f.signs.length≤100000):ak T 85 [aQ r,bT f,iW a] (.bool (qE r f a)):=by
 refine .of_tree rfl (lA 133 (by kernel_rfl)) axH ?_;have dE:=hr.firms;have fT:IntKind.i64.wrap ((r.firms.length:Int)-1)=(r.firms.length:Int)-1:=aJ (by omega);have cd:IntKind.i64.wrap ((f.signs.length:Int)-1)=(f.signs.length:Int)-1:=aJ (by omega);generalize hX:qE r f a=X;unfold qE SR CJ at hX;simp[V0,fT,cd];refine⟨_,fg _ _ _,?_⟩;rw[←nr];have mz:=fg a.to 0 ((r.firms.length:Int)-1);have xr:=fg a.who 0 ((r.firms.length:Int)-1);rw[←nr] at mz xr;generalize ax a.to r.firms.length=tt at*;generalize ax a.who r.firms.length=ww at*;have fin:∀at_ own:Bool,(if ww=false∨(¬a.kind=4∧¬a.form=0) then false else CF a tt at_ own)=X→
  if ww=false∨(¬a.kind=4∧¬a.form=0) then X=false
  else if a.kind=0∨a.kind=1∨a.kind=2 then(if tt=true∧a.at_=-1 then D.bool (decide (a.sum=0)) else D.bool false)=D.bool X
  else if a.kind=3∨a.kind=5∨a.kind=4 then
        if tt=true∧a.at_=-1 then
         ∃d,ak (dq tab ext) 40 [D.int a.sum,D.int 0,D.int 1099511627776] d∧
          if(tt=true∧a.at_=-1)∧d.b=true then
             ∃uo,ak (dq tab ext) 40 [D.int a.form,D.int 0,D.int 1] uo∧(if(tt=true∧a.at_=-1)∧d.b=true then uo else D.bool false)=D.bool X
          else(if(tt=true∧a.at_=-1)∧d.b=true then D.none else D.bool false)=D.bool X
        else D.bool false=D.bool X
  else if a.kind=6 then
        if tt=true∧own=true then ∃uo,ak (dq tab ext) 40 [D.int a.sum,D.int 1,D.int 1099511627776] uo∧(if tt=true∧own=true then uo else D.bool false)=D.bool X
        else(if tt=true∧own=true then D.none else D.bool false)=D.bool X
  else if a.kind=9 then(if a.to=-1∧own=true then D.bool (decide (a.sum=0)) else D.bool false)=D.bool X
  else(if a.to=-1∧at_=true then D.bool (decide (a.sum=0)) else D.bool false)=D.bool X:=by
  intro at_ own hX;by_cases p:ww=false∨(¬a.kind=4∧¬a.form=0)
  ·rw[if_pos p] at hX ⊢;exact hX.symm
  rw[if_neg p] at hX ⊢;unfold CF at hX;by_cases k0:a.kind=0∨a.kind=1∨a.kind=2
  ·rw[if_pos k0] at hX ⊢;rw[←hX];by_cases e:tt=true∧a.at_=-1
   ·simp[e]
   ·rw[if_neg e];cases tt<;>simp at e ⊢;simp[e]
  rw[if_neg k0] at hX ⊢;by_cases k3:a.kind=3∨a.kind=4∨a.kind=5
  ·rw[if_pos k3] at hX;rw[if_pos (by omega),←hX];by_cases e:tt=true∧a.at_=-1
   ·rw[if_pos e];refine⟨_,fg _ _ _,?_⟩;cases wi a.sum 0 1099511627776
    ·simp
    ·simp[e];exact fg _ _ _
   ·rw[if_neg e];cases tt<;>simp at e ⊢;simp[e]
  rw[if_neg k3] at hX;rw[if_neg (by omega)];by_cases k6:a.kind=6
  ·rw[if_pos k6] at hX ⊢;rw[←hX];by_cases e:tt=true∧own=true
   ·rw[if_pos e];refine⟨_,fg _ _ _,?_⟩;simp[e]
   ·rw[if_neg e,if_neg e];cases tt<;>cases own<;>simp at e ⊢
  rw[if_neg k6] at hX ⊢;by_cases k9:a.kind=9
  ·rw[if_pos k9] at hX ⊢;rw[←hX];cases own<;>by_cases e:a.to=-1<;>simp[e]
  rw[if_neg k9] at hX ⊢;rw[←hX];cases at_<;>by_cases e:a.to=-1<;>simp[e]
 cases h1:ax a.at_ f.signs.length
 ·have hf:=fin false false (by simpa [h1] using hX);simp at hf ⊢;refine⟨_,mz,_,xr,?_⟩;simpa using hf
 have cu:0≤a.at_∧a.at_<f.signs.length:=by simpa [ax] using h1
 have h2:a.at_.toNat<f.signs.length:=by omega
 have hs:cZ f a.at_=f.signs[a.at_.toNat]:=by simp[cZ,h2]
 simp[cu];refine⟨_,afQ f _ _ (.inr cu),_,mz,_,xr,?_⟩;rw[h1,hs] at hX;have hf:=fin _ _ hX;cases h3:B5 f a.at_ a.part
 ·rw[h3] at hf;simpa using hf
 ·rw[h3] at hf;simpa [h2] using hf
theorem K8 (a b:Int):(if a<b then b else a)=max a b:=by split<;>omega
theorem K7 (a b:Int):(if a<b then D.int b else D.int a)=D.int (max a b):=by
 rw[←K8];split<;>rfl
def p8 (f:File)(i:Nat)(a:Act):Int:=
 let x:=if a.at_=-1 then f.bill.day else max f.bill.day (cZ f a.at_).day
 if i=0 then x else max x (f.acts.getD (i-1) default).day
def pq (r:Realm)(f:File)(i:Nat):Int:=
 let a:=f.acts.getD i default
 if wi a.part 0 (f.bill.parts-1)=false then 15
 else if ax a.city r.cities.length=false∨wi a.kind 0 9=false then 1
 else if qE r f a=false then 14
 else if wi a.day (p8 f i a) 100000=false then 13 else 0
theorem Za {r:Realm}{f:File}{a:Act}(h:qE r f a=true)(hn:¬a.at_=-1):0≤a.at_∧a.at_<f.signs.length:=by
 unfold qE at h;split at h
 ·cases h
 have key:CJ f a=true→0≤a.at_∧a.at_<f.signs.length:=fun e=>by
  unfold CJ at e;simp only[az] at e;simpa [ax] using e.1
 unfold CF SR at h
 repeat' split at h
 all_goals simp only[az,decide_eq_true_eq] at h
 ·exact absurd h.1.2 hn
 ·exact absurd h.1.1.2 hn
 ·exact key h.1.2.1
 ·exact key h.1.2.1
 ·exact key h.1.2
theorem auh (r:Realm)(hr:Small r)(f:File)(hp:1≤f.bill.parts∧f.bill.parts≤4)(hl:f.signs.length≤100000)(uJ:f.acts.length≤100000):ak T 41 [aQ r,bT f] (.int (fP f.acts.length (pq r f))):=by
 refine .of_tree rfl (lA 132 (by kernel_rfl)) axI ?_;have Qe:=hr.cities;have cd:IntKind.i64.wrap ((r.cities.length:Int)-1)=(r.cities.length:Int)-1:=aJ (by omega);have ED:IntKind.i64.wrap (f.bill.parts-1)=f.bill.parts-1:=aJ (by omega);simp[V1];refine nL f.acts.length (pq r f) (fun k=>[.int 0,.int k]) (fun _=>[]) ?_ (fun k hk ho=>?_) (fun k hk ho hb=>?_) (fun hj=>?_)
 ·simp
 case' refine_2=>have hb:pq r f k=pq r f k:=rfl
 case' refine_3=>rw[hb]
 case refine_4=>simp[ag3,Mo,hj]
 all_goals
  have hw:=bk hk (by omega);have hs:f.acts.getD k default=f.acts[k]:=by simp[hk]
  clear hb;generalize hX:pq r f k=X at*;unfold pq at hX;simp only[hs] at hX;simp[ag3,Mo,hk,cd,ED,hw];refine⟨_,fg _ _ _,?_⟩;cases a1:wi f.acts[k].part 0 (f.bill.parts-1)
  ·simp[a1] at hX ⊢
   first|exact hX|(exfalso;omega)
  simp[a1] at hX ⊢;refine⟨_,fg _ _ _,?_⟩;rw[nr] at hX;cases a2:wi f.acts[k].city 0 ((r.cities.length:Int)-1)
  ·simp[a2] at hX ⊢
   first|exact hX|(exfalso;omega)
  simp[a2] at hX ⊢;refine⟨_,fg _ _ _,?_⟩;cases a3:wi f.acts[k].kind 0 9
  ·simp[a3] at hX ⊢
   first|exact hX|(exfalso;omega)
  simp[a3] at hX ⊢;refine⟨_,aug r hr f f.acts[k] hl,?_⟩;cases a4:qE r f f.acts[k]
  ·simp[a4] at hX ⊢
   first|exact hX|(exfalso;omega)
  simp[a4] at hX ⊢;unfold p8 at hX;by_cases k0:k=0
  ·subst k0;by_cases e1:f.acts[0].at_=-1
   ·simp[e1] at hX;simp[e1];refine⟨_,fg _ _ _,?_⟩;split at hX
    ·rename_i e;simp[e]
     first|exact hX|(exfalso;omega)
    ·rename_i e
     first|(exfalso;omega)|simp[e]
   ·obtain⟨h5,h6⟩:=Za a4 e1;have h7:f.acts[0].at_.toNat<f.signs.length:=by omega
    have h8:cZ f f.acts[0].at_=f.signs[f.acts[0].at_.toNat]:=by simp[cZ,h7]
    simp[e1,h8] at hX;simp[e1,h5,h6,h7,K7,K8];refine⟨_,fg _ _ _,?_⟩;split at hX
    ·rename_i e;simp[e]
     first|exact hX|(exfalso;omega)
    ·rename_i e
     first|(exfalso;omega)|simp[e]
  ·have bI:IntKind.i64.wrap ((k:Int)-1)=(k:Int)-1:=aJ (by omega);have cY:((k:Int)-1).toNat=k-1:=by omega
   have jX:k-1<f.acts.length:=by omega
   have AR:0<k:=by omega
   by_cases e1:f.acts[k].at_=-1
   ·simp[k0,e1,jX] at hX;simp[e1,AR,bI,cY,jX,K7,K8];refine⟨by omega,_,fg _ _ _,?_⟩;split at hX
    ·rename_i e;simp[e]
     first|exact hX|(exfalso;omega)
    ·rename_i e
     first|(exfalso;omega)|simp[e]
   ·obtain⟨h5,h6⟩:=Za a4 e1;have h7:f.acts[k].at_.toNat<f.signs.length:=by omega
    have h8:cZ f f.acts[k].at_=f.signs[f.acts[k].at_.toNat]:=by simp[cZ,h7]
    simp[k0,e1,jX,h8] at hX;simp[e1,AR,bI,cY,jX,h5,h6,h7,K7,K8];refine⟨by omega,_,fg _ _ _,?_⟩;split at hX
    ·rename_i e;simp[e]
     first|exact hX|(exfalso;omega)
    ·rename_i e
     first|(exfalso;omega)|simp[e]
end Rm
namespace Rm
open Go Go.Proofs Cx
def pz (a b:Int):Int:=if a<b then-1 else if b<a then 1 else 0
theorem acA (a:Int):ak T 130 [.int a] (.bool false):=by
 refine .of_tree rfl (lA 136 (by kernel_rfl)) axc ?_;simp[VA]
theorem YC (a b:Int):ak T 87 [.int a,.int b] (.int (pz a b)):=by
 refine .of_tree rfl (lA 135 (by kernel_rfl)) axa ?_;simp[Vy];refine⟨_,acA a,_,acA b,?_⟩;unfold pz;by_cases h1:a<b
 ·simp[h1]
 by_cases h2:b<a<;>simp[h1,h2]
theorem ajr (l:List Int)(hl:l.length≤100000):ak T 86 [ints l] (.int (fP l.length fun k=>l.getD k 0)):=by
 refine .of_tree rfl (lA 137 (by kernel_rfl)) axb ?_;simp[Vz];refine nL l.length (fun k=>l.getD k 0) (fun k=>[.int 0,.int k]) (fun _=>[]) ?_ (fun k hk ho=>?_) (fun k hk ho hb=>?_) (fun hj=>?_)
 ·simp
 ·have hw:=bk hk (by omega);have hx:l[k]=0:=by simpa [hk] using ho
  simp[TP,FB,hk,hx,hw]
 ·have hx:¬l[k]=0:=by simpa [hk] using ho
  simp only[bh] at hb ⊢;rw[hb];simp[TP,FB,hk,hx]
 ·simp only[bh] at hj ⊢;rw[hj];simp[TP,FB]
theorem or2 (a b:Int):(fP 2 fun k=>[a,b].getD k 0)=if a=0 then b else a:=by
 have e:List.range 2=[0,1]:=rfl;unfold fP;rw[e];by_cases ha:a=0<;>by_cases hb:b=0<;>simp[ha,hb]
def yU (x y:Fact):Prop:=x.at_<y.at_∨(x.at_=y.at_∧x.kind<y.kind)
instance (x y:Fact):Decidable (yU x y):=by unfold yU;infer_instance
theorem ajC (x y:Fact):0≤(if pz x.at_ y.at_=0 then pz x.kind y.kind else pz x.at_ y.at_)↔¬yU x y:=by
 unfold pz yU
 repeat' split
 all_goals omega
def wO (f:File)(i:Nat):Int:=
 let x:=f.facts.getD i default
 if wi x.kind 0 4=false then 1 else if ax x.at_ f.signs.length=false then 1 else if wi x.n 0 1=false then 1
 else if i=0 then 0 else if yU (f.facts.getD (i-1) default) x then 0 else 5
theorem auj (f:File)(hl:f.signs.length≤100000)(hlf:f.facts.length≤100000):ak T 42 [bT f] (.int (fP f.facts.length (wO f))):=by
 refine .of_tree rfl (lA 134 (by kernel_rfl)) axK ?_;have cd:IntKind.i64.wrap ((f.signs.length:Int)-1)=(f.signs.length:Int)-1:=aJ (by omega);simp[V3];refine nL f.facts.length (wO f) (fun k=>[.int 0,.int k]) (fun _=>[]) ?_ (fun k hk ho=>?_) (fun k hk ho hb=>?_) (fun hj=>?_)
 ·simp
 case' refine_2=>have hb:wO f k=wO f k:=rfl
 case' refine_3=>rw[hb]
 case refine_4=>simp[ag4,Mp,hj]
 all_goals
  have hw:=bk hk (by omega);have hs:f.facts.getD k default=f.facts[k]:=by simp[hk]
  clear hb;generalize hX:wO f k=X at*;unfold wO at hX;simp only[hs] at hX;simp[ag4,Mp,hk,cd,hw];refine⟨_,fg _ _ _,?_⟩;cases a1:wi f.facts[k].kind 0 4
  ·simp[a1] at hX ⊢
   first|exact hX|(exfalso;omega)
  simp[a1] at hX ⊢;refine⟨_,fg _ _ _,?_⟩;rw[nr] at hX;cases a2:wi f.facts[k].at_ 0 ((f.signs.length:Int)-1)
  ·simp[a2] at hX ⊢
   first|exact hX|(exfalso;omega)
  simp[a2] at hX ⊢;refine⟨_,fg _ _ _,?_⟩;cases a3:wi f.facts[k].n 0 1
  ·simp[a3] at hX ⊢
   first|exact hX|(exfalso;omega)
  simp[a3] at hX ⊢;by_cases k0:k=0
  ·subst k0;simp at hX ⊢
   first|(exfalso;omega)|done
  ·have bI:IntKind.i64.wrap ((k:Int)-1)=(k:Int)-1:=aJ (by omega);have cY:((k:Int)-1).toNat=k-1:=by omega
   have jX:k-1<f.facts.length:=by omega
   simp[k0,jX] at hX;simp[k0,bI,cY,jX];refine⟨by omega,_,YC _ _,_,YC _ _,?_⟩;have ho:=ajr [pz f.facts[k-1].at_ f.facts[k].at_,pz f.facts[k-1].kind f.facts[k].kind] (by simp);simp only[mS,qA] at ho;rw[or2] at ho;refine⟨_,ho,?_⟩;have ha:=ajC f.facts[k-1] f.facts[k];generalize (if pz f.facts[k-1].at_ f.facts[k].at_=0 then pz f.facts[k-1].kind f.facts[k].kind else pz f.facts[k-1].at_ f.facts[k].at_)=n at*;clear ho;by_cases e:yU f.facts[k-1] f.facts[k]
   ·have hn:¬0≤n:=fun h=>ha.1 h e;simp[e] at hX;simp[hn]
    first|done|(exfalso;omega)
   ·have hn:0≤n:=ha.2 e;simp[e] at hX;simp[hn]
    first|exact hX|(exfalso;omega)
def yV (f:File)(i:Nat):Int:=
 let x:=f.alters.getD i default
 if wi x.at_ ((if i=0 then 0 else(f.alters.getD (i-1) default).at_)+1) f.signs.length=false then 1 else if wi x.sum 1 1099511627776=false then 3 else 0
structure PaperOK (r:Realm) (f:File):Prop where
 full:(f.signs.length≤40∧f.alters.length≤4)∧f.acts.length≤100∧f.facts.length≤200
 bill:BillOK r f.bill
 ne:f.signs≠[]
 signs:fP f.signs.length (B3 r f)=0
 alters:fP f.alters.length (yV f)=0
 acts:fP f.acts.length (pq r f)=0
 facts:fP f.facts.length (wO f)=0
theorem afO (r:Realm)(hs:Small r)(f:File)(Ax:f.OK):∃d,ak T 17 [aQ r,bT f] d∧oX (PaperOK r f) d:=by
 refine ak.ex_of_tree rfl ajU axG ?_;simp[VZ];by_cases hf:(f.signs.length≤40∧f.alters.length≤4)∧f.acts.length≤100∧f.facts.length≤200
 case neg=>
  rw[if_pos (by omega)];exact .no (fun h=>hf h.full) (by decide)
 rw[if_neg (by omega)];obtain⟨d,hb,e,rfl,he⟩:=aAl r hs f.bill;refine⟨_,hb,?_⟩;by_cases e0:e=0
 case neg=>
  simp[e0];exact .no (fun h=>e0 (he.2 h.bill)) e0
 have J9:=he.1 e0;simp[e0];by_cases aA:f.signs=[]
 ·simp[aA];exact .no (fun h=>h.ne aA) (by decide)
 simp[aA];refine nL f.signs.length (B3 r f) (fun k=>[.int 0,.int k]) (fun _=>[]) ?_ (fun k hk ho=>?_) (fun k hk ho hb=>?_) (fun hj=>?_)
 ·simp
 ·have hw:=bk hk (by omega);simp[TV,FF,hk,hw];refine⟨_,afP r hs f J9.parts k hk (by omega),?_⟩;simp[ho]
 ·simp[TV,FF,hk];refine⟨_,afP r hs f J9.parts k hk (by omega),?_⟩;simp[ho];exact .no (fun h=>ho (by rw[←hb];exact h.signs)) ho
 simp[TV,FF];have gF:∀k,k<f.alters.length→(∀j,j<k→yV f j=0)→IntKind.i64.wrap ((if k=0 then 0 else(f.alters.getD (k-1) default).at_)+1)=(if k=0 then 0 else(f.alters.getD (k-1) default).at_)+1:=by
  intro k hk hj;refine aJ ?_;by_cases k0:k=0
  ·rw[if_pos k0];omega
  ·rw[if_neg k0];have h1:=hj (k-1) (by omega);have bI:k-1<f.alters.length:=by omega
   have h2:=(Ax.2.2.1.2 _ (cv bI)).1;have h3:f.alters.getD (k-1) default=f.alters[k-1]:=by simp[bI]
   unfold yV at h1;rw[h3] at h1 ⊢;simp only at h1;generalize (if k-1=0 then(0:Int) else(f.alters.getD (k-1-1) default).at_)=L0 at h1;split at h1
   ·cases h1
   ·rename_i hh;simp[wi] at hh;unfold aW at h2;omega
 refine aL.scan f.alters.length (fun k=>yV f k=0) (fun k=>[.int 0,.int (if k=0 then 0 else(f.alters.getD (k-1) default).at_),.int k]) (fun _=>[]) ?_ (fun k hk qX ho=>?_) (fun k hk qX ho=>?_) (fun Ea=>?_)
 ·simp
 ·have hw:=bk hk (by omega);have hl:=gF k hk qX;generalize hL:(if k=0 then 0 else(f.alters.getD (k-1) default).at_)=L at*;have hs:f.alters.getD k default=f.alters[k]:=by simp[hk]
  unfold yV at ho;simp only[hs,hL] at ho;simp[TW,FG,hk,hl];refine⟨_,fg _ _ _,?_⟩;cases a1:wi f.alters[k].at_ (L+1) f.signs.length
  ·simp[a1] at ho
  simp[a1] at ho ⊢;refine⟨_,fg _ _ _,?_⟩;simp[ho,hw]
 ·have hl:=gF k hk qX;have Qm:=PH hk qX ho;generalize hL:(if k=0 then 0 else(f.alters.getD (k-1) default).at_)=L at*;have hs:f.alters.getD k default=f.alters[k]:=by simp[hk]
  have bad:∀e:Int,e≠0→oX (PaperOK r f) (.int e):=fun e h=>.no (fun h=>ho (by rw[←Qm];exact h.alters)) h;unfold yV at ho;simp only[hs,hL] at ho;simp[TW,FG,hk,hl];refine⟨_,fg _ _ _,?_⟩;cases a1:wi f.alters[k].at_ (L+1) f.signs.length
  ·simp;exact bad 1 (by decide)
  simp[a1] at ho ⊢;refine⟨_,fg _ _ _,?_⟩;simp[ho];exact bad 3 (by decide)
 have Ea:=PJ Ea;simp[TW,FG];refine⟨_,auh r hs f J9.parts (by omega) (by omega),?_⟩;by_cases e3:fP f.acts.length (pq r f)=0
 case neg=>
  simp[e3];exact .no (fun h=>e3 h.acts) e3
 simp[e3];refine⟨_,auj f (by omega) (by omega),?_⟩;exact⟨_,rfl,fun h=>⟨hf,J9,aA,hj,Ea,e3,h⟩,fun h=>h.facts⟩
end Rm
namespace Rm
open Go Go.Proofs Cx
end Rm
namespace Rm
open Go Go.Proofs Cx
theorem afN {α:Type}(key:α→Int)(l:List α)(h:∀i (h1:i+1<l.length),key (l[i]'(by omega))≤key l[i+1]):l.Pairwise fun a b=>key a≤key b:=by
 rw[YQ];intro i j hi hj pQ;obtain⟨d,rfl⟩:∃d,j=i+1+d:=⟨j-i-1,by omega⟩
 clear pQ
 induction d with
 |zero=>exact h i hj
 |succ d ih=>exact NK (ih (by omega)) (h (i+1+d) hj)
structure Sorted (f:File):Prop where
 signs:f.signs.Pairwise fun a b=>a.day≤b.day
 acts:f.acts.Pairwise fun a b=>a.day≤b.day
 sday:∀s,s∈f.signs→0≤s.day
 aday:∀a,a∈f.acts→0≤a.day
structure SignOK (r:Realm) (f:File) (i:Nat) (s:Sign):Prop where
 part:0≤s.part∧s.part≤f.bill.parts-1
 who:0≤s.who∧s.who<r.firms.length
 city:0≤s.city∧s.city<r.cities.length
 day:jT f i≤s.day∧s.day≤100000
 fits:DI r f i=true
 once:G3 f i s=false
theorem PaperOK.sign {r:Realm}{f:File}(h:PaperOK r f)(i:Nat)(hi:i<f.signs.length):SignOK r f i f.signs[i]:=by
 have h1:=As h.signs i hi;have hs:f.signs.getD i default=f.signs[i]:=by simp[hi]
 unfold B3 at h1;simp only[hs] at h1;split at h1
 ·cases h1
 rename_i a1;split at h1
 ·cases h1
 rename_i a2;split at h1
 ·cases h1
 rename_i a3;split at h1
 ·cases h1
 rename_i a4;split at h1
 ·cases h1
 rename_i a5;simp[wi,ax] at a1 a2 a3;exact⟨⟨by omega,by omega⟩,⟨by omega,by omega⟩,⟨by omega,by omega⟩,⟨by omega,by omega⟩,by simpa using a4,by simpa using a5⟩
structure Yv (r:Realm) (f:File) (i:Nat) (a:Act):Prop where
 part:0≤a.part∧a.part≤f.bill.parts-1
 city:0≤a.city∧a.city<r.cities.length
 kind:0≤a.kind∧a.kind≤9
 fits:qE r f a=true
 day:p8 f i a≤a.day∧a.day≤100000
theorem PaperOK.act {r:Realm}{f:File}(h:PaperOK r f)(i:Nat)(hi:i<f.acts.length):Yv r f i f.acts[i]:=by
 have h1:=As h.acts i hi;have hs:f.acts.getD i default=f.acts[i]:=by simp[hi]
 unfold pq at h1;simp only[hs] at h1;split at h1
 ·cases h1
 rename_i a1;split at h1
 ·cases h1
 rename_i a2;split at h1
 ·cases h1
 rename_i a3;split at h1
 ·cases h1
 rename_i a4;simp[wi,ax] at a1 a2 a4;exact⟨⟨by omega,by omega⟩,⟨by omega,by omega⟩,⟨by omega,by omega⟩,by simpa using a3,by omega⟩
theorem Rp (f:File)(i:Nat)(a:Act):f.bill.day≤p8 f i a∧(i≠0→(f.acts.getD (i-1) default).day≤p8 f i a):=by
 unfold p8;refine⟨?_,fun h=>?_⟩
 ·simp only;split<;>split<;>omega
 ·simp only[if_neg h];omega
theorem PaperOK.day {r:Realm}{f:File}(h:PaperOK r f):0≤f.bill.day∧f.bill.day≤100000:=by
 have:=h.bill.range;unfold ym at this;omega
theorem aaj {r:Realm}{f:File}(h:PaperOK r f):∀i,i<f.signs.length→0≤jT f i
 |0,_=>by simp[jT];exact h.day.1
 |i+1,hi=>by
  have h1:=(h.sign i (by omega)).day.1;have h2:=aaj h i (by omega);have e:jT f (i+1)=f.signs[i].day:=by simp[jT,show i<f.signs.length by omega]
  omega
theorem PaperOK.sorted {r:Realm}{f:File}(h:PaperOK r f):Sorted f:=by
 refine⟨afN (·.day) f.signs fun i hi=>?_,afN (·.day) f.acts fun i hi=>?_,fun s hs=>?_,fun a ha=>?_⟩
 ·have h1:=(h.sign (i+1) hi).day.1;have e:jT f (i+1)=f.signs[i].day:=by simp[jT,show i<f.signs.length by omega]
  rw[e] at h1;exact h1
 ·have h1:=(h.act (i+1) hi).day.1;have h2:=(Rp f (i+1) f.acts[i+1]).2 (by omega);have e:f.acts.getD (i+1-1) default=f.acts[i]:=by simp[show i<f.acts.length by omega]
  rw[e] at h2;exact NK h2 h1
 ·obtain⟨i,hi,rfl⟩:=gP hs;exact NK (aaj h i hi) (h.sign i hi).day.1
 ·obtain⟨i,hi,rfl⟩:=gP ha;have h1:=(h.act i hi).day.1;have h2:=(Rp f i f.acts[i]).1;have:=h.day;omega
end Rm
namespace Rm
open Go Go.Proofs Cx
theorem X1 {α:Type}(key:α→Int){x y:Int}(gp:x≤y):∀{l:List α},l.Pairwise (fun a b=>key a≤key b)→
 ∃m,l.takeWhile (fun a=>decide (key a≤y))=l.takeWhile (fun a=>decide (key a≤x))++m∧(∀a,a∈m→x<key a)∧∀a,a∈m→a∈l
 |[],_=>⟨[],rfl,fun _ h=>(by cases h),fun _ h=>(by cases h)⟩
 |a::l,hp=>by
  rw[N0] at hp;by_cases h:key a≤x
  ·obtain⟨m,h1,h2,h3⟩:=X1 key gp hp.2;refine⟨m,?_,h2,fun b hb=>by simp[h3 b hb]⟩;rw[sc,sc,if_pos (by simp;omega),if_pos (by simp;omega),h1];rfl
  ·refine⟨(a::l).takeWhile (fun a=>decide (key a≤y)),?_,fun b hb=>?_,fun b hb=>?_⟩
   ·rw[sc (p:=fun a=>decide (key a≤x)),if_neg (by simp;omega)];rfl
   ·have hm:=(N3 _).subset hb;rcases cW.1 hm with rfl|hm
    ·omega
    ·have:=hp.1 b hm;omega
   ·exact(N3 _).subset hb
theorem Sorted.acts_app {f:File}(h:Sorted f){x y:Int}(gp:x≤y):∃m,(aE f y).acts=(aE f x).acts++m∧(∀a,a∈m→x<a.day)∧∀a,a∈m→a∈f.acts:=X1 (fun a:Act=>a.day) gp h.acts
theorem Sorted.signs_app {f:File}(h:Sorted f){x y:Int}(gp:x≤y):∃m,(aE f y).signs=(aE f x).signs++m∧(∀a,a∈m→x<a.day)∧∀a,a∈m→a∈f.signs:=X1 (fun a:Sign=>a.day) gp h.signs
theorem Hp {f:File}{x:Int}{a:Act}(h:a∈(aE f x).acts):a.day≤x∧a∈f.acts:=⟨by simpa using ah5 (p:=fun s:Act=>decide (s.day≤x)) (l:=f.acts) h,(N3 (fun s:Act=>decide (s.day≤x))).subset h⟩
theorem Oh {f:File}{x:Int}{a:Sign}(h:a∈(aE f x).signs):a.day≤x∧a∈f.signs:=⟨by simpa using ah5 (p:=fun s:Sign=>decide (s.day≤x)) (l:=f.signs) h,(N3 (fun s:Sign=>decide (s.day≤x))).subset h⟩
theorem X2 {α:Type}(key:α→Int){x y:Int}(gp:x≤y):∀(l:List α),(l.takeWhile (fun a=>decide (key a≤y))).takeWhile (fun a=>decide (key a≤x))=l.takeWhile (fun a=>decide (key a≤x))
 |[]=>rfl
 |a::l=>by
  by_cases h:key a≤x
  ·have h2:key a≤y:=by omega
   simp only[sc,h,h2,decide_true,if_true];rw[X2 key gp l]
  ·by_cases h2:key a≤y
   ·simp[sc,h,h2]
   ·simp[sc,h,h2]
theorem ah6 {α:Type}(key:α→Int){x y:Int}(gp:x≤y):∀(l:List α),(l.takeWhile (fun a=>decide (key a≤x))).length≤(l.takeWhile (fun a=>decide (key a≤y))).length
 |[]=>by simp
 |a::l=>by
  by_cases h:key a≤x
  ·have h2:key a≤y:=by omega
   have:=ah6 key gp l;simp[sc,h,h2];omega
  ·simp[sc,h]
theorem Hq (f:File){x y:Int}(gp:x≤y):aE (aE f y) x=aE f x:=by
 have h1:iQ x (iQ y f.signs)=iQ x f.signs:=X2 (fun a:Sign=>a.day) gp f.signs;have h2:Ca x (Ca y f.acts)=Ca x f.acts:=X2 (fun a:Act=>a.day) gp f.acts;have hl:(iQ x f.signs).length≤(iQ y f.signs).length:=ah6 (fun a:Sign=>a.day) gp f.signs;unfold aE;simp only[h1,h2,List.filter_filter]
 congr 1
 ·apply List.filter_congr;intro a _;simp[ir];omega
 ·apply List.filter_congr;intro a _;simp[fO,ax];omega
theorem amn {α:Type}(p:α→Bool)(l m:List α):(l++m).find? p=(l.find? p).or (m.find? p):=List.find?_append
def NP (x:Int)(a b:Int):Prop:=(a≠-1∧a≤x∧b=a)∨(a=-1∧(b=-1∨x<b))
theorem K4:∀(l:List Int),l≠[]→eQ l∈l
 |a::l,_=>by
  induction l generalizing a with
  |nil=>simp[eQ]
  |cons b l ih=>
   have:=ih (min a b) (by simp);have e:eQ (a::b::l)=eQ (min a b::l):=by simp[eQ]
   rw[e];rcases cW.1 this with h|h
   ·rw[h];rcases Int.le_total a b with hh|hh
    ·rw[NM hh];simp
    ·rw[NN hh];simp
   ·simp[h]
theorem adq:∀(l:List Int) (a:Int),a∈l→eQ l≤a
 |b::l,a,h=>by
  induction l generalizing b with
  |nil=>simp at h;subst h;simp[eQ]
  |cons c l ih=>
   have e:eQ (b::c::l)=eQ (min b c::l):=by simp[eQ]
   have h2:eQ (min b c::l)≤min b c:=adr _ _;rw[e];rcases cW.1 h with h|h
   ·omega
   rcases cW.1 h with h|h
   ·omega
   ·exact ih (min b c) (by simp[h])
where
 adr:∀(l:List Int) (b:Int),eQ (b::l)≤b
 |[],b=>by simp[eQ]
 |c::l,b=>by
  have e:eQ (b::c::l)=eQ (min b c::l):=by simp[eQ]
  rw[e];have:=adr l (min b c);omega
theorem ata {l m:List Int}{x:Int}(hl:∀a,a∈l→0≤a∧a≤x)(hs:∀a,a∈l→a∈m)(hm:∀a,a∈m→a∈l∨x<a):NP x (eQ l) (eQ m):=by
 by_cases aA:l=[]
 ·subst aA;right;refine⟨rfl,?_⟩;by_cases qY:m=[]
  ·subst qY;exact .inl rfl
  ·rcases hm _ (K4 m qY) with h|h
   ·cases h
   ·exact .inr h
 ·left;have bU:=K4 l aA;have hb:=hl _ bU;have apx:m≠[]:=fun e=>by have:=hs _ bU;rw[e] at this;cases this
  refine⟨by omega,by omega,?_⟩;have hle:=adq m _ (hs _ bU);rcases hm _ (K4 m apx) with h|h
  ·have:=adq l _ h;omega
  ·omega
theorem awi {f:File}(h:Sorted f){x y:Int}(gp:x≤y):NP x (fi (aE f x)) (fi (aE f y)):=by
 obtain⟨m,h1,h2,h3⟩:=h.acts_app gp;obtain⟨k,g1,g2,g3⟩:=h.signs_app gp;have hb:jI (aE f y)=jI (aE f x):=rfl;have Kv:NP x (eQ (fB (aE f x) (aE f x).signs.length++eT (aE f x) (aE f x).acts.length)) (eQ (fB (aE f y) (aE f y).signs.length++eT (aE f y) (aE f y).acts.length)):=by
  have ek:(aE f y).bill=(aE f x).bill:=rfl;unfold fB eT;rw[ek,qB,qB,qB,qB,h1,g1];by_cases hk:(aE f x).bill.tenor.kind=1
  ·rw[if_pos hk,if_pos hk,if_pos hk,if_pos hk];refine ata (fun a ha=>?_) (fun a ha=>?_) (fun a ha=>?_)
   ·rcases da.1 ha with ha|ha
    ·obtain⟨s,hs,rfl⟩:=dH.1 ha;have:=Oh (ei.1 hs).1;exact⟨h.sday s this.2,this.1⟩
    ·obtain⟨s,hs,rfl⟩:=dH.1 ha;have:=Hp (ei.1 hs).1;exact⟨h.aday s this.2,this.1⟩
   ·simp only[NT,pf,da] at ha ⊢;rcases ha with ha|ha
    ·exact .inl (.inl ha)
    ·exact .inr (.inl ha)
   ·simp only[NT,pf,da] at ha ⊢;rcases ha with(ha|ha)|(ha|ha)
    ·exact .inl (.inl ha)
    ·obtain⟨s,hs,rfl⟩:=dH.1 ha;exact .inr (g2 s (ei.1 hs).1)
    ·exact .inl (.inr ha)
    ·obtain⟨s,hs,rfl⟩:=dH.1 ha;exact .inr (h2 s (ei.1 hs).1)
  ·rw[if_neg hk,if_neg hk,if_neg hk,if_neg hk];exact .inr ⟨rfl,.inl rfl⟩
 unfold fi;rw[hb,h1,amn];cases e:(aE f x).acts.find? (jI (aE f x)) with
 |some a=>
  left;have hm:=Hp (pg e);have:=h.aday a hm.2;simp;omega
 |none=>
  cases e2:m.find? (jI (aE f x)) with
  |some a=>
   have hp:=Cn e2;have hk:(aE f x).bill.tenor.kind=0:=by simp[jI] at hp;exact hp.1
   right;have hn:eQ (fB (aE f x) (aE f x).signs.length++eT (aE f x) (aE f x).acts.length)=-1:=by
        unfold fB eT;rw[if_neg (by rw[hk];decide),if_neg (by rw[hk];decide)];rfl
   exact⟨hn,.inr (h2 a (pg e2))⟩
  |none=>
   rw[←h1];exact Kv
end Rm
namespace Rm
open Go Go.Proofs Cx
def rL (fr to:Int)(u:Usance):Bool:=decide (u.fr=fr)&&decide (u.to=to)
def je (l:List Usance)(fr to:Int):Int×Int:=match l.find? (rL fr to) with|some u=>(u.days,0)|none=>(0,4)
theorem aju (r:Realm)(fr to:Int)(hl:r.usances.length≤100000):ak T 83 [aQ r,.int fr,.int to] (.tup [.int (je r.usances fr to).1,.int (je r.usances fr to).2]):=by
 refine .of_tree rfl Zn ahZ ?_;simp[Nv];unfold je;refine aL.scan r.usances.length (fun k=>rL fr to (r.usances.getD k default)=false) (fun k=>[.int 0,.int 0,.int k]) (fun _=>[]) ?_ (fun k hk hj aB=>?_) (fun k hk hj aB=>?_) (fun hj=>?_)
 ·simp
 ·have hw:=bk hk (by omega);have hn:¬(r.usances[k].fr=fr∧r.usances[k].to=to):=by simpa [rL,hk] using aB
  simp[BS,vx,hk,hw,hn]
 ·have dE:=pH hk (by simpa [hk] using aB) (fun j br=>by have:=hj j br;simpa [show j<r.usances.length by omega] using this);have hc:r.usances[k].fr=fr∧r.usances[k].to=to:=by simpa [rL,hk] using aB
  rw[dE];simp[BS,vx,hk,hc]
 ·have dE:=qO (l:=r.usances) (p:=rL fr to) (fun j br=>by have:=hj j br;simpa [br] using this);rw[dE];simp[BS,vx]
def qF (d:Int)(t:Tenor):Int×Int:=((CG d t).choose,(CG d t).choose_spec.choose)
theorem Hj (d:Int)(t:Tenor):ak T 124 [.int d,jS t] (.tup [.int (qF d t).1,.int (qF d t).2]):=(CG d t).choose_spec.choose_spec
def gz (l:List Usance)(b:Bill)(seen:Int):Int×Int:=
 if b.tenor.kind=0 then(seen,0) else if b.tenor.kind=1 then qF seen b.tenor else if b.tenor.kind=2 then qF b.day b.tenor
 else if b.tenor.kind=4 then(IntKind.i64.wrap (b.day+(je l b.city b.pay).1),(je l b.city b.pay).2) else(b.tenor.n,0)
theorem aka (r:Realm)(hr:RightD r)(b:Bill)(seen:Int):ak T 78 [aQ r,db b,.int seen] (.tup [.int (gz r.usances b seen).1,.int (gz r.usances b seen).2]):=by
 have KI:D.agg [D.int b.tenor.kind,D.int b.tenor.n,D.int b.tenor.unit]=jS b.tenor:=rfl;refine .of_tree rfl wk yC ?_;unfold gz;by_cases h0:b.tenor.kind=0
 ·simp[nO,h0]
 by_cases h1:b.tenor.kind=1
 ·have h:=Hj seen b.tenor;have cu:(b.tenor.kind=1)=True:=eq_true h1;simp[nO,h0,cu];exact⟨_,h,by simp⟩
 by_cases h2:b.tenor.kind=2
 ·have h:=Hj b.day b.tenor;have jn:(b.tenor.kind=2)=True:=eq_true h2;simp[nO,h0,h1,jn];exact⟨_,h,by simp⟩
 by_cases h4:b.tenor.kind=4
 ·have h:=aju r b.city b.pay (by have:=hr.small.us;omega);have km:(b.tenor.kind=4)=True:=eq_true h4;simp[nO,h0,h1,h2,km];exact⟨_,h,by simp⟩
 ·simp[nO,h0,h1,h2,h4]
def u7 (r:Realm)(pay bF:Int)(x:Int×Int):Int×Int:=
 if x.2≠0 then(0,x.2) else if aU x.1=false∨100000<IntKind.i64.wrap (x.1+bF) then(0,3) else g9 r pay (IntKind.i64.wrap (x.1+bF))
def ki (r:Realm)(b:Bill)(seen bF:Int):Int×Int:=
 if dv r≠0∨ax b.city r.cities.length=false∨ax b.pay r.cities.length=false∨aU b.day=false then(0,1)
 else if((b.tenor.kind<0∨5≤b.tenor.kind)∨b.tenor.unit<0)∨2≤b.tenor.unit then(0,1)
 else if((¬seen=-1∧aU seen=false)∨bF<0)∨20000<bF then(0,1)
 else if lV b.tenor=true∧seen=-1 then(0,4)
 else u7 r b.pay bF (gz r.usances b seen)
theorem ajc (r:Realm)(hr:RightD r)(b:Bill)(seen bF:Int):ak T 36 [aQ r,db b,.int seen,.int bF] (.tup [.int (ki r b seen bF).1,.int (ki r b seen bF).2]):=by
 have KI:D.agg [D.int b.tenor.kind,D.int b.tenor.n,D.int b.tenor.unit]=jS b.tenor:=rfl;have gU:=MO r hr.small;obtain⟨G,hG⟩:∃G,G=ki r b seen bF:=⟨_,rfl⟩
 rw[←hG];unfold ki at hG;refine .of_tree rfl Oi XG ?_;simp[G1];refine⟨_,gU,?_⟩;by_cases h0:dv r=0
 case neg=>simp[h0] at hG ⊢;simp[hG]
 simp[h0] at hG ⊢;refine⟨_,Bg r b.city,?_⟩;cases h1:ax b.city r.cities.length
 ·simp[h1] at hG ⊢;simp[hG]
 simp[h1] at hG ⊢;refine⟨_,Bg r b.pay,?_⟩;cases h2:ax b.pay r.cities.length
 ·simp[h2] at hG ⊢;simp[hG]
 simp[h2] at hG ⊢;refine⟨_,uY b.day,?_⟩;cases h3:aU b.day
 ·simp[h3] at hG ⊢;simp[hG]
 simp[h3] at hG ⊢;have hp:0≤b.pay∧b.pay<r.cities.length:=by simpa [ax] using h2
 by_cases h4:((b.tenor.kind<0∨5≤b.tenor.kind)∨b.tenor.unit<0)∨2≤b.tenor.unit
 ·rw[if_pos h4] at hG ⊢;simp[hG]
 rw[if_neg h4] at hG ⊢;have fin:G=u7 r b.pay bF (gz r.usances b seen)→0≤bF→bF≤20000→∃d,ak T 78 [aQ r,db b,D.int seen] d∧
  if(d.tget 1).i=0 then ∃d1,ak T 76 [d.tget 0] d1∧(if d1.b=false∨100000<IntKind.i64.wrap ((d.tget 0).i+bF) then 0=G.1∧3=G.2 else
        ∃d2,ak T 79 [aQ r,D.int b.pay,D.int (IntKind.i64.wrap ((d.tget 0).i+bF))] d2∧d2.tget 0=D.int G.1∧d2.tget 1=D.int G.2)
  else 0=G.1∧d.tget 1=D.int G.2:=by
  intro hG sL lH;refine⟨_,aka r hr b seen,?_⟩;unfold u7 at hG;generalize gz r.usances b seen=B at*;obtain⟨n,e⟩:=B;by_cases he:e=0
  ·simp[he] at hG ⊢;refine⟨_,uY n,?_⟩;cases hd:aU n
   ·simp[hd] at hG ⊢;simp[hG]
   have dP:0≤n∧n≤100000:=by simpa [aU] using hd
   have hw:IntKind.i64.wrap (n+bF)=n+bF:=aJ (by omega);simp[hd,hw] at hG ⊢;by_cases hle:100000<n+bF
   ·rw[if_pos hle] at hG ⊢;simp[hG]
   ·rw[if_neg hle] at hG ⊢;refine⟨_,U4 r hr.halts b.pay (n+bF) hp hr.cities (by omega) (by omega),?_⟩;simp[hG]
  ·simp[he] at hG ⊢;simp[hG]
 by_cases hs:seen=-1
 ·simp[hs] at fin hG ⊢;by_cases h5:bF<0∨20000<bF
  ·rw[if_pos h5] at hG ⊢;simp[hG]
  rw[if_neg h5] at hG ⊢;refine⟨_,Cv b.tenor,?_⟩;cases h6:lV b.tenor
  ·simp[h6] at hG ⊢;exact fin hG (by omega) (by omega)
  ·simp[h6] at hG ⊢;simp[hG]
 ·simp[hs] at fin hG ⊢;refine⟨_,uY seen,?_⟩;cases hk:aU seen
  ·simp[hk] at hG ⊢;simp[hG]
  simp[hk] at hG ⊢;by_cases h5:bF<0∨20000<bF
  ·rw[if_pos h5] at hG ⊢;simp[hG]
  rw[if_neg h5] at hG ⊢;exact⟨⟨_,Cv b.tenor⟩,fin hG (by omega) (by omega)⟩
theorem Dp {r:Realm}(hr:RightD r)(b:Bill)(seen bF:Int):pB r b seen bF=ki r b seen bF:=by
 have h:=(NH r hr b seen bF).det (ajc r hr b seen bF);simp at h;exact Prod.ext h.1 h.2
end Rm
namespace Rm
open Go Go.Proofs Cx
theorem ajJ (o:Order)(q:Int)(cs:List Cell)(hq:(dW q).1=0)(hk:(kh o q cs).1.known=true):0≤(kh o q cs).1.n∧(kh o q cs).1.n≤20000:=by
 unfold kh at hk ⊢;split at hk
 ·cases hk
 ·rename_i h;rw[if_neg h];simp only at hk ⊢;split at hk
  ·rename_i h2;rw[if_pos h2];simp only;omega
  ·rename_i h2;exact absurd ⟨hq,hk⟩ h2
theorem ajR (r:Realm)(forum q:Int)(c:Case)(hq:(dW q).1=0)(hk:(gR r forum q c).cell.known=true):0≤(gR r forum q c).cell.n∧(gR r forum q c).cell.n≤20000:=by
 unfold gR at hk ⊢;split at hk
 ·rename_i h;exfalso;have:(dN r forum q c).1.cell=cN:=by
   unfold dN
   repeat' split
   all_goals rfl
  rw[this] at hk;cases hk
 ·rename_i h;rw[if_neg h];exact ajJ _ _ _ hq hk
end Rm
namespace Rm
open Go Go.Proofs Cx
abbrev DC (t:Bool×Int):D:=.agg [.bool t.1,.int t.2]
theorem Hk (l:List Int)(hl:l.length≤100000):ak T 49 [ints l] (.int (nW l)):=by
 refine .of_tree rfl (lA 92 (by kernel_rfl)) axj ?_;simp[VG,nW];refine⟨_,rV l 0 (by omega),?_⟩;cases hasB l 0
 ·simp;refine⟨_,rV l 2 (by omega),?_⟩;cases hasB l 2<;>simp
 ·simp
theorem aiS (s:Said)(a:Int):ak T 45 [iv s,.int a] (.int (j6 s a)):=by
 refine .of_tree rfl (lA 99 (by kernel_rfl)) axl ?_;simp[VI];refine⟨_,Hn s,?_⟩;unfold j6;generalize rK s=t;by_cases h1:t=0
 ·simp[h1]
 by_cases h2:a=1
 ·simp[h2]
 by_cases h3:t=2<;>simp[h1,h2,h3]
theorem ajs (c:City)(hc:nM c)(d n:Int):ak T 131 [fm c,.int d,.int n] (.tup [.int (lO c d n).1,.int (lO c d n).2]):=by
 refine .of_tree rfl (lA 95 (by kernel_rfl)) aw3 ?_;simp[Vr];refine⟨_,oT d,?_⟩;unfold lO;by_cases h0:aU d=false∨n<0∨20000<n
 ·have dY:(aU d=false∨n<0)∨20000<n:=by
   rcases h0 with h|h|h
   ·exact .inl (.inl h)
   ·exact .inl (.inr h)
   ·exact .inr h
  simp[h0,dY]
 have dY:¬((aU d=false∨n<0)∨20000<n):=fun h=>h0 (by
  rcases h with(h|h)|h
  ·exact .inl h
  ·exact .inr (.inl h)
  ·exact .inr (.inr h))
 have hd:aU d=true:=by
  cases e:aU d
  ·exact absurd (.inl e) h0
  ·rfl
 obtain⟨N,rfl⟩:=qy (show 0≤n by omega);have h0n:¬((N:Int)<0∨20000<(N:Int)):=by omega
 simp[hd,h0n];have dP:0≤d∧d≤100000:=by simpa [aU] using hd
 generalize hX:nB c N d=X;refine aL.forLoop (α:=Nat×Int) (fun s vr vo=>(s.1≤N∧(0≤s.2∧s.2≤100000)∧nB c (N-s.1) s.2=X)∧vr=[.int s.2,.int 0,.int 0,.int s.1]∧vo=[]) (fun s=>N-s.1) (0,d) ?_ ?_
 ·simp;exact⟨dP,hX⟩
 rintro⟨k,e⟩ vr vo ⟨⟨hk,he,hx⟩,rfl,rfl⟩;simp only at hk he hx ⊢;by_cases ar:k<N
 ·have hw:IntKind.i64.wrap ((k:Int)+1)=(k:Int)+1:=aJ (by omega);have cd:IntKind.i64.wrap (e+1)=e+1:=aJ (by omega);obtain⟨m,hm⟩:∃m,N-k=m+1:=⟨N-k-1,by omega⟩
  rw[hm] at hx;unfold nB at hx;simp[agY,Mj,ar,hw,cd];refine⟨_,YT c hc (e+1),?_⟩;by_cases hn:(bP c (e+1)).2=0
  ·have hi:=th hn;rw[if_neg (by simpa using hn)] at hx;simp[hn];refine⟨k+1,by omega,(bP c (e+1)).1,⟨by omega,by omega,?_⟩,rfl,by simp⟩;rw[show N-(k+1)=m from by omega];exact hx
  ·rw[if_pos hn] at hx;simp[hn,←hx]
 ·obtain rfl:k=N:=by omega
  simp[nB] at hx;simp[agY,Mj,←hx]
theorem yW (v:DView)(hr:Right v.realm)(hf:FewS v.file)(q:Int):ak T 46 [cA v,.int q] (iv (v.asked q)):=by
 refine .of_tree rfl (lA 93 (by kernel_rfl)) axm ?_;simp[VJ];refine⟨_,Zi v.realm hr v.forum q ⟨v.file,v.sign,v.sign,-1,v.due,v.day⟩ hf,?_⟩;simp[DView.asked]
theorem ak8 (v:DView)(hc:∀c,c∈v.realm.cities→nM c)(hp:ax v.file.bill.pay v.realm.cities.length=true)(s:Said)(fr:Int):ak T 92 [cA v,iv s,.int fr] (DC (dh v.city s fr)):=by
 refine .of_tree rfl (lA 94 (by kernel_rfl)) axn ?_;have bj:0≤v.file.bill.pay∧v.file.bill.pay<v.realm.cities.length:=by simpa [ax] using hp
 have ar:v.file.bill.pay.toNat<v.realm.cities.length:=by omega
 have Kb:v.city=v.realm.cities[v.file.bill.pay.toNat]:=by simp[DView.city,ar]
 unfold dh;by_cases h1:s.err=0
 case neg=>simp[GY,h1,never]
 cases h2:s.cell.known
 ·simp[GY,h1,h2];rfl
 simp[GY,h1,h2,bj,ar];refine⟨_,ajs v.realm.cities[v.file.bill.pay.toNat] (hc _ (cv ar)) fr s.cell.n,?_⟩;rw[Kb];by_cases h3:(lO v.realm.cities[v.file.bill.pay.toNat] fr s.cell.n).2=0<;>simp[h3,never]
theorem Vf (v:DView)(on:Int)(t:Bool×Int):ak T 88 [cA v,.int on,DC t] (.int (rI v.day on t)):=by
 refine .of_tree rfl (lA 90 (by kernel_rfl)) axv ?_;unfold rI;obtain⟨t1,t2⟩:=t;cases t1
 ·simp[Nk]
 simp[Nk];by_cases h1:on=-1
 ·by_cases h2:t2<v.day<;>simp[h1,h2]
 ·by_cases h2:on≤t2<;>simp[h1,h2]
theorem PK (v:DView)(hf:FewS v.file)(kind fr:Int):ak T 89 [cA v,.int kind,.int fr] (.int (m4 v.file.bill v.file.acts kind fr)):=by
 refine .of_tree rfl (lA 88 (by kernel_rfl)) axp ?_;have hl:=hf.acts;simp[VL];unfold m4;refine aL.scan v.file.acts.length (fun k=>qP v.file.bill kind fr (v.file.acts.getD k default)=false) (fun k=>[.int 0,.int k]) (fun _=>[]) ?_ (fun k hk hj aB=>?_) (fun k hk hj aB=>?_) (fun hj=>?_)
 ·simp
 ·have hw:=bk hk (by omega);have hn:¬((v.file.acts[k].kind=kind∧v.file.acts[k].to=v.file.bill.drawee)∧fr≤v.file.acts[k].day):=by simpa [qP,hk] using aB
  simp[TS,FD,hk,hw,hn]
 ·have dE:=pH hk (by simpa [hk] using aB) (fun j br=>by have:=hj j br;simpa [show j<v.file.acts.length by omega] using this);have hc:(v.file.acts[k].kind=kind∧v.file.acts[k].to=v.file.bill.drawee)∧fr≤v.file.acts[k].day:=by simpa [qP,hk,and_assoc] using aB
  rw[dE];simp[TS,FD,hk,hc]
 ·have dE:=qO (l:=v.file.acts) (p:=qP v.file.bill kind fr) (fun j br=>by have:=hj j br;simpa [br] using this);rw[dE];simp[TS,FD]
theorem ahp (v:DView)(hf:FewS v.file):ak T 91 [cA v] (.int v.refused):=by
 refine .of_tree rfl (lA 91 (by kernel_rfl)) axt ?_;simp[VP];refine⟨_,PK v hf 1 0,?_⟩;unfold DView.refused BY;by_cases h:v.due<m4 v.file.bill v.file.acts 1 0<;>simp[h]
theorem Ps (v:DView)(hf:FewS v.file):ak T 50 [cA v] (.int v.dishon):=by
 refine .of_tree rfl (lA 97 (by kernel_rfl)) axo ?_;simp[VK];refine⟨_,ahp v hf,?_⟩;unfold DView.dishon ZW DView.refused;by_cases h:BY v.file.bill v.file.acts v.due=-1<;>simp[h]
theorem ahK (v:DView)(hr:Right v.realm)(hf:FewS v.file)(hb:0≤v.file.bill.day∧v.file.bill.day≤100000):ak T 90 [cA v] (DC v.show_):=by
 refine .of_tree rfl (lA 89 (by kernel_rfl)) axu ?_;simp[VQ];refine⟨_,Zj v.realm hr v.forum 7 v.file v.day hf,?_⟩;unfold DView.show_ ahJ;have hq:(dW 7).1=0:=by decide
 have kq:=fun hk=>ajR v.realm v.forum 7 ⟨{v.file with facts:=[]},0,-1,-1,-1,v.day⟩ hq hk;change (eK v.realm v.forum 7 v.file v.day).cell.known=true→0≤(eK v.realm v.forum 7 v.file v.day).cell.n∧(eK v.realm v.forum 7 v.file v.day).cell.n≤20000 at kq;generalize eK v.realm v.forum 7 v.file v.day=s at*;by_cases h1:s.err=0
 case neg=>simp[h1,never]
 cases h2:s.cell.known
 ·simp[h1,h2];rfl
 have sU:=kq h2;have hw:IntKind.i64.wrap (v.file.bill.day+s.cell.n)=v.file.bill.day+s.cell.n:=aJ (by omega);by_cases h3:100000<v.file.bill.day+s.cell.n<;>simp[h1,h2,h3,hw,never]
end Rm
