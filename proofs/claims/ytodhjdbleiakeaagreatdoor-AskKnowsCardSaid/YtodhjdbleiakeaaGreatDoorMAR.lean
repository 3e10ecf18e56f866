/-
  Shared texts of this claim.
-/
import Derived.Test.YtodhjdbleiakeaaGreatDoorMAQ
import Derived.Test.YtodhjdbleiakeaaGreatDoorMAP
set_option linter.unusedSimpArgs false
set_option linter.unusedVariables false
namespace Rm
open Go Go.Proofs Cx
structure Right (r:Realm):Prop where
 by_:zZ r
 len:r.orders.length≤100000
 ok:∀o,o∈r.orders→o.OK∧o.rules.length≤100000
structure FewS (f:File):Prop where
 signs:f.signs.length≤1000
 alters:f.alters.length≤1000
 acts:f.acts.length≤1000
 facts:f.facts.length≤1000
theorem aie {α:Type}(p:α→Bool)(l:List α):(l.takeWhile p).length≤l.length:=by
 obtain⟨m,h1,h2,_⟩:=MS p l;rw[h2,dW];omega
theorem FewS.at_ {f:File}(h:FewS f)(day:Int):FewS (eP f day):=
 ⟨je (aie _ _) h.1,je (p7 _ _) h.2,je (aie _ _) h.3,je (p7 _ _) h.4⟩
def cQ (c:Case):Case:={c with file:=eP c.file c.day}
@[simp] theorem aHW (x:File)(a0 a1 a2 a3 a4 a5 a6 a7 a8 a9 lu lx ly lz lC nj nk nl oH:D)(s h d u y:Int):j0 24 (D.agg (dU [a0,a1,a2,a3,a4,a5,a6,a7,a8,a9,lu,lx,ly,lz,lC,nj,nk,nl,oH,.int s,.int h,.int d,.int u,.int y] 0 [.int x.bill.drawer,.int x.bill.drawee,.int x.bill.payee,.int x.bill.sum,.int x.bill.currency,.int x.bill.tenor.kind,.int x.bill.tenor.n,.int x.bill.tenor.unit,.int x.bill.day,.int x.bill.city,.int x.bill.pay,.int x.bill.need,.int x.bill.rate,.int x.bill.flags,.int x.bill.parts,signs x.signs,alters x.alters,acts x.acts,facts x.facts]))=dO ⟨x,s,h,d,u,y⟩:=_root_.id rfl
theorem Yd (r:Realm)(c:Case)(hf:FewS c.file):ao T ac0 [bn r,dO c] (.tup [dO (cQ c),cells (dV r (cQ c))]):=by
 refine .of_tree rfl akh aCJ ?_;simp[U8];have h1:=hf.1;have h2:=hf.2;have h3:=hf.3;have h4:=hf.4;refine⟨_,ahn c.file c.day (by omega) (by omega) (by omega) (by omega),?_⟩;have HO:=hf.at_ c.day;have h5:=HO.4;have h6:=HO.2;simp;exact⟨aBF r (cQ c) (by show(eP c.file c.day).facts.length≤_;omega) (by show(eP c.file c.day).alters.length≤_;omega),(congrArg (j0 24) (aAv (cQ c) _ _ _ _ _ _ _ _ _ _ _ _ _ _ _ _ _ _ _ _ _ _ _ _)).trans (ajO (cQ c))⟩
theorem ai0 {r:Realm}{c:Case}(h:dV r c≠[]):0≤c.sign∧c.sign<c.file.signs.length:=by
 unfold dV at h;split at h
 ·rename_i hh;have h1:=hh.1;unfold lE at h1;simp[aN] at h1;omega
 ·exact absurd rfl h
theorem ace (r:Realm)(oY:zZ r)(q:Int)(l:List Int)(hl:l.length≤100000)(xS:∀b:Int,0≤b→b<r.orders.length→lF r b q l=true):∀(n:Nat) (p:List Int),p≠[]→(∀x,x∈p→0≤x∧x<(r.orders.length:Int))→
 (kg r q l n p).1≠[]∧∀x,x∈(kg r q l n p).1→0≤x∧x<(r.orders.length:Int)
 |0,p,aJ,hp=>⟨aJ,hp⟩
 |n+1,p,aJ,hp=>by
  have ah:p.length-1<p.length:=by have:=M6.mpr aJ;omega
  have ka:dg p=p[p.length-1]:=by simp[dg,ah]
  have vn:=hp _ (de ah);rw[←ka] at vn;obtain⟨_,ht⟩:=XE r oY (dg p) q l hl (xS _ vn.1 vn.2)
  have ba:∀x,x∈p++[(fM r (dg p) q l).1]→0≤x∧x<(r.orders.length:Int):=fun x hx=>by
   rcases dj.mp hx with h|h
   ·exact hp x h
   ·simp at h;subst h;exact ht
  rw[QR];split
  ·exact⟨aJ,hp⟩
  split
  ·exact⟨by simp,ba⟩
  split
  ·exact⟨by simp,ba⟩
  ·exact ace r oY q l hl xS n _ (by simp) ba
theorem acb {r:Realm}(hr:Right r){a q:Int}{l:List Int}(hl:l.length≤100000)(h:(ib r a q l).2=0):(ib r a q l).1≠[]∧0≤dg (ib r a q l).1∧dg (ib r a q l).1<r.orders.length:=by
 unfold ib at h ⊢;split at h
 ·rename_i hh;rw[if_pos hh];obtain⟨ha,hl5,hx,xS⟩:=OS hh.1;obtain⟨h1,h2⟩:=ace r hr.by_ q l hl xS r.orders.length [a] (by simp) (fun x hx=>by simp at hx;subst hx;exact ha);refine⟨h1,?_⟩;have ah:(kg r q l r.orders.length [a]).1.length-1<(kg r q l r.orders.length [a]).1.length:=by have:=M6.mpr h1;omega
  have ka:dg (kg r q l r.orders.length [a]).1=(kg r q l r.orders.length [a]).1[(kg r q l r.orders.length [a]).1.length-1]:=by simp[dg,ah]
  rw[ka];exact h2 _ (de ah)
 ·cases h
theorem acf (r:Realm)(q:Int)(l:List Int):∀(n:Nat) (p:List Int),(kg r q l n p).1.length≤p.length+n
 |0,p=>by simp[kg]
 |n+1,p=>by
  rw[QR];split
  ·simp
  split
  ·simp
  split
  ·simp
  ·have:=acf r q l n (p++[(fM r (dg p) q l).1]);simp at this;omega
theorem acd (r:Realm)(a q:Int)(l:List Int):(ib r a q l).1.length≤1+r.orders.length:=by
 unfold ib;split
 ·exact acf r q l _ [a]
 ·simp
@[simp] theorem aLG (a b c d e x:D):dU [a,b,c,d,e] 2 [x]=[a,b,x,d,e]:=_root_.id rfl
@[simp] theorem aLH (a b c d e x:D):dU [a,b,c,d,e] 3 [x]=[a,b,c,x,e]:=_root_.id rfl
@[simp] theorem aLI (a b c d e x:D):dU [a,b,c,d,e] 4 [x]=[a,b,c,d,x]:=_root_.id rfl
def yC:Said:=⟨cV,-1,[],1⟩
def df (r:Realm)(ay q:Int)(c:Case):Said×List Cell:=
 if dV r (cQ c)=[] then(yC,[]) else if(pU q).2=false then(yC,[]) else if gi r ay (cQ c)=[] then(yC,[]) else
    (⟨cV,if(ib r ay q (gi r ay (cQ c))).2=0 then dg (ib r ay q (gi r ay (cQ c))).1 else-1,(ib r ay q (gi r ay (cQ c))).1,(ib r ay q (gi r ay (cQ c))).2⟩,dV r (cQ c))
theorem agn (r:Realm)(ay:Int)(c:Case):(gi r ay c).length≤5:=by
 unfold gi;split
 ·simp
 split<;>simp[kP]
theorem Yc (r:Realm)(hr:Right r)(ay q:Int)(c:Case)(hf:FewS c.file):ao T acZ [bn r,.int ay,.int q,dO c] (.tup [jH (df r ay q c).1,cells (df r ay q c).2]):=by
 refine .of_tree rfl akg aCI ?_;simp[U7];refine⟨_,Yd r c hf,?_⟩;by_cases hv:dV r (cQ c)=[]
 ·simp[hv,df];exact⟨rfl,rfl⟩
 simp[hv,df];refine⟨_,SL q,?_⟩;cases hq:(pU q).2
 ·simp[hq];exact⟨rfl,rfl⟩
 simp[hq];refine⟨_,ago r ay (cQ c) (ai0 hv),?_⟩;by_cases hp:gi r ay (cQ c)=[]
 ·simp[hp];exact⟨rfl,rfl⟩
 have eL:=agn r ay (cQ c);have aJ:ints (gi r ay (cQ c))≠.list []:=fun e=>hp (by simpa [ints] using e);simp[hp];generalize gi r ay (cQ c)=l at*;refine⟨_,ajq r hr.by_ hr.len ay q l (by omega),?_⟩;have hlen:=acd r ay q l;have CM:=acb hr (a:=ay) (q:=q) (l:=l) (by omega);have P4:=hr.len;generalize ib r ay q l=L at*;obtain⟨path,err⟩:=L;simp only at*;by_cases he:err=0
 ·obtain⟨h1,h2⟩:=CM he;have avt:=M6.mpr h1;have QE:IntKind.i64.wrap ((path.length:Int)-1)=(path.length:Int)-1:=bU (by omega);have PH:((path.length:Int)-1).toNat=path.length-1:=by omega
  have ah:path.length-1<path.length:=by omega
  have ka:dg path=path[path.length-1]:=by simp[dg,ah]
  simp[he,QE,PH,ah,←ka];exact⟨by omega,rfl⟩
 ·simp[he];rfl
def dM (r:Realm)(ay q:Int)(c:Case):Said:=
 if(df r ay q c).1.order=-1 then(df r ay q c).1
 else⟨(nm (mR r (df r ay q c).1.order) q (df r ay q c).2).1,(df r ay q c).1.order,(df r ay q c).1.path,(nm (mR r (df r ay q c).1.order) q (df r ay q c).2).2⟩
theorem ajU {r:Realm}(hr:Right r)(ay q:Int)(c:Case):(df r ay q c).1.order=-1∨(0≤(df r ay q c).1.order∧(df r ay q c).1.order<r.orders.length):=by
 unfold df;split
 ·exact .inl rfl
 split
 ·exact .inl rfl
 split
 ·exact .inl rfl
 ·have eL:=agn r ay (cQ c);have CM:=acb hr (a:=ay) (q:=q) (l:=gi r ay (cQ c)) (by omega);show(if _ then _ else _)=_∨_;split
  ·rename_i h;exact .inr (CM h).2
  ·exact .inl rfl
theorem FH (r:Realm)(hr:Right r)(ay q:Int)(c:Case)(hf:FewS c.file):ao T acS [bn r,.int ay,.int q,dO c] (jH (dM r ay q c)):=by
 refine .of_tree rfl aj9 aCB ?_;simp[U0];refine⟨_,Yc r hr ay q c hf,?_⟩;have ho:=ajU hr ay q c;unfold dM;generalize df r ay q c=S at*;obtain⟨s,cs⟩:=S;simp only at*;by_cases h:s.order=-1
 ·obtain⟨⟨kn,n⟩,o,pth,e⟩:=s;simp only at h;subst h;simp;rfl
 ·have h1:0≤s.order∧s.order<r.orders.length:=by omega
  have h2:s.order.toNat<r.orders.length:=by omega
  have h3:mR r s.order=r.orders[s.order.toNat]:=by simp[mR,h2]
  obtain⟨aH,hlen⟩:=hr.ok _ (de h2);simp[h,h1,h2,h3];refine⟨_,aAq _ q cs aH (by omega),?_⟩;simp;rfl
def rk (r:Realm)(ay q:Int)(f:File)(day:Int):Said:=dM r ay q ⟨{f with facts:=[]},0,-1,-1,-1,day⟩
theorem aj4 (r:Realm)(hr:Right r)(ay q:Int)(f:File)(day:Int)(hf:FewS f):ao T acT [bn r,.int ay,.int q,cI f,.int day] (jH (rk r ay q f day)):=by
 refine .of_tree rfl aka aCC ?_;simp[U1];refine⟨jH (rk r ay q f day),FH r hr ay q ⟨{f with facts:=[]},0,-1,-1,-1,day⟩ ⟨hf.1,hf.2,hf.3,by simp⟩,?_⟩;simp
 try rfl
def sv (s:Said):Int:=if s.err≠0 then 0 else if s.cell.known=false then 2 else if s.cell.n≠0 then 1 else 0
theorem Am (s:Said):ao T acY [jH s] (.int (sv s)):=by
 refine .of_tree rfl akf aCH ?_;unfold sv;by_cases h1:s.err=0<;>cases h2:s.cell.known<;>by_cases h3:s.cell.n=0<;>simp[U6,h1,h2,h3]
def ki (s:Said):Int:=if s.err≠0∨s.cell.known=false then-1 else s.cell.n
theorem FI (s:Said):ao T acW [jH s] (.int (ki s)):=by
 refine .of_tree rfl akd aCF ?_;unfold ki;by_cases h1:s.err=0<;>cases h2:s.cell.known<;>simp[U4,h1,h2]
end Rm
namespace Rm
open Go Go.Proofs Cx
end Rm
namespace Rm
open Go Go.Proofs Cx
theorem Ir (r:Realm)(c:Int):ao T aer [bn r,.int c] (.bool (aN c r.cities.length)):=by
 refine .of_tree rfl alP aEt ?_;by_cases h1:0≤c<;>by_cases h2:c<r.cities.length<;>simp[WC,h1,h2,aN]
def gE (n:Int):Bool:=decide (0≤n)&&decide (n≤100000)
theorem Dj (n:Int):ao T RP [.int n] (.bool (gE n)):=by
 refine .of_tree rfl alQ aEu ?_;by_cases h1:0≤n<;>by_cases h2:n≤100000<;>simp[WD,h1,h2,gE]
theorem Fj (n:Int):ao T ade [.int n] (.bool (gE n)):=by
 refine .of_tree rfl akq aCW ?_;by_cases h1:0≤n<;>by_cases h2:n≤100000<;>simp[Vg,h1,h2,gE]
def Mv (t:Tenor):Bool:=decide (t.kind=0)||decide (t.kind=1)
theorem Nh (t:Tenor):ao T aep [rz t] (.bool (Mv t)):=by
 refine .of_tree rfl alO aEs ?_;by_cases h1:t.kind=0<;>simp[WB,h1,Mv]
theorem aeF (y m d:Int):∃n:Int,ao T Ry [.int y,.int m,.int d] (.int n):=by
 by_cases h:m<3
 ·refine⟨?w,?h⟩
  case h=>
   refine ao.of_tree (d:=.int ?w) rfl Yg ah8 ?_;simp[MK,h];exact rfl
 ·refine⟨?v,?g⟩
  case g=>
   refine ao.of_tree (d:=.int ?v) rfl Yg ah8 ?_;simp[MK,h];exact rfl
noncomputable def Dy (y m d:Int):Int:=(aeF y m d).choose
theorem IQ (y m d:Int):ao T Ry [.int y,.int m,.int d] (.int (Dy y m d)):=(aeF y m d).choose_spec
noncomputable def yw (y m:Int):Int:=if m=12 then 31 else IntKind.i64.wrap (Dy y (IntKind.i64.wrap (m+1)) 1-Dy y m 1)
theorem Iv (y m:Int):ao T ada [.int y,.int m] (.int (yw y m)):=by
 refine .of_tree rfl ako aCU ?_;unfold yw;by_cases h:m=12
 ·simp[MJ,h]
 ·simp[MJ,h];refine⟨_,IQ _ _ _,_,IQ _ _ _,?_⟩;simp
theorem ajh (y m d:Int):∃n e:Int,ao T ac5 [.int y,.int m,.int d] (.tup [.int n,.int e])∧(e=0→0≤n∧n≤100000):=by
 by_cases h0:(((2000≤y∧y≤2300)∧1≤m)∧m≤12)∧1≤d
 ·by_cases h2:d≤yw y m
  ·cases h1:gE (Dy y m d)
   ·refine⟨0,3,.of_tree rfl FK MI ?_,by simp⟩;simp[zL];rw[if_pos h0];refine⟨_,Iv y m,?_⟩;simp[h0,h2];refine⟨_,IQ _ _ _,_,Fj _,?_⟩;simp[h1]
   ·refine⟨Dy y m d,0,.of_tree rfl FK MI ?_,fun _=>by simpa [gE] using h1⟩;simp[zL];rw[if_pos h0];exact⟨_,Iv y m,⟨h0,h2⟩,_,IQ _ _ _,_,Fj _,h1,rfl⟩
  ·refine⟨0,3,.of_tree rfl FK MI ?_,by simp⟩;simp[zL];rw[if_pos h0];refine⟨_,Iv y m,?_⟩;simp[h0,h2]
 ·refine⟨0,3,.of_tree rfl FK MI ?_,by simp⟩;simp[zL];rw[if_neg h0];intro a1 a2 a3 a4 a5;exact absurd ⟨⟨⟨⟨a1,a2⟩,a3⟩,a4⟩,a5⟩ h0
theorem XZ (r:Realm)(fr to:Int)(hl:r.usances.length≤100000):∃n e:Int,ao T RK [bn r,.int fr,.int to] (.tup [.int n,.int e])∧(e=0→∃u,u∈r.usances∧n=u.days)∧(e=0↔∃u,u∈r.usances∧u.fr=fr∧u.to=to):=by
 let p:Usance→Bool:=fun u=>decide (u.fr=fr)&&decide (u.to=to)
 refine⟨match r.usances.find? p with|some u=>u.days|none=>0,match r.usances.find? p with|some u=>0|none=>4,?_,?_⟩
 ·refine .of_tree rfl alj aDV ?_;simp[V9];refine aY.scan r.usances.length (fun k=>p (r.usances.getD k default)=false) (fun k=>[.int 0,.int 0,.int k]) (fun _=>[]) ?_ (fun k hk hj aH=>?_) (fun k hk hj aH=>?_) (fun hj=>?_)
  ·simp
  ·have hw:=bx hk (by omega);have hn:¬(r.usances[k].fr=fr∧r.usances[k].to=to):=by simpa [p,hk] using aH
   simp[T8,Ev,hk,hw,hn]
  ·have nz:=xG hk (by simpa [hk] using aH) (fun j bQ=>by have:=hj j bQ;simpa [show j<r.usances.length by omega] using this);have hc:r.usances[k].fr=fr∧r.usances[k].to=to:=by simpa [p,hk] using aH
   rw[nz];simp[T8,Ev,hk,hc]
  ·have nz:=Ca (l:=r.usances) (p:=p) (fun j bQ=>by have:=hj j bQ;simpa [bQ] using this);rw[nz];simp[T8,Ev]
 ·cases h:r.usances.find? p with
  |none=>
   refine⟨fun h=>(by cases h),fun h=>(by cases h),fun⟨u,hu,h1,h2⟩=>?_⟩;have:=uH.1 h u hu;simp[p,h1,h2] at this
  |some u=>
   have h2:u.fr=fr∧u.to=to:=by simpa [p] using M4 h
   exact⟨fun _=>⟨u,xd h,rfl⟩,fun _=>⟨u,xd h,h2⟩,fun _=>rfl⟩
theorem ajC (r:Realm)(fr to:Int)(hl:r.usances.length≤100000):∃n e:Int,ao T RK [bn r,.int fr,.int to] (.tup [.int n,.int e])∧(e=0→∃u,u∈r.usances∧n=u.days):=by
 obtain⟨n,e,h1,h2,_⟩:=XZ r fr to hl;exact⟨n,e,h1,h2⟩
end Rm
namespace Rm
open Go Go.Proofs Cx
theorem Zx (R Y:Int)(hR:0≤R∧R<146097)(h1:365*Y≤R-R/1460+R/36524-R/146096)(h2:R-R/1460+R/36524-R/146096<365*Y+365):0≤R-(365*Y+Y/4-Y/100)∧R-(365*Y+Y/4-Y/100)≤500:=by
 have k0:R/36524≤R/1460:=by omega
 have k1:Y/4≤R/1460:=by omega
 have hY:0≤Y:=by omega
 have hc:R/36524=0∨R/36524=1∨R/36524=2∨R/36524=3∨R/36524=4:=by omega
 have k2:25*(R/36524)≤R/1460:=by omega
 refine⟨?_,?_⟩
 ·rcases Int.lt_or_le Y (100*(R/36524)) with hy|hy
  ·have k3:Y/4≤25*(R/36524)-1:=by omega
   have k4:R/36524-1≤Y/100:=by omega
   omega
  ·have k3:R/36524≤Y/100:=by omega
   omega
 ·omega
theorem Zy (n:Int)(h:0≤n∧n≤100400):ao T ac7 [.int n] (.tup [.int (eT n).1,.int (eT n).2.1,.int (eT n).2.2]):=by
 refine .of_tree rfl akm aCR ?_;have w:∀x:Int,-1000000000≤x→x≤1000000000→IntKind.i64.wrap x=x:=fun x a b=>bU (by omega);have t:∀x y:Int,0≤x→x.tdiv y=x/y:=fun x y hx=>XC hx;have u:∀x y:Int,0≤x→x.tmod y=x%y:=fun x y hx=>ajo hx;simp[Vc];unfold eT;simp only[];rw[w (n+730425) (by omega) (by omega),u (n+730425) 146097 (by omega),t (n+730425) 146097 (by omega)];have hR:0≤(n+730425)%146097∧(n+730425)%146097<146097:=by omega
 have hE:0≤(n+730425)/146097∧(n+730425)/146097<100:=by omega
 generalize (n+730425)%146097=R at*;generalize (n+730425)/146097=e at*;rw[t R 1460 (by omega),t R 36524 (by omega),t R 146096 (by omega),w (R/1460) (by omega) (by omega),w (R-R/1460) (by omega) (by omega),w (R/36524) (by omega) (by omega),w (R-R/1460+R/36524) (by omega) (by omega),w (R/146096) (by omega) (by omega),w (R-R/1460+R/36524-R/146096) (by omega) (by omega),t (R-R/1460+R/36524-R/146096) 365 (by omega)];have hY:0≤(R-R/1460+R/36524-R/146096)/365∧(R-R/1460+R/36524-R/146096)/365<400:=by omega
 have hD:0≤R-(365*((R-R/1460+R/36524-R/146096)/365)+(R-R/1460+R/36524-R/146096)/365/4-(R-R/1460+R/36524-R/146096)/365/100)∧R-(365*((R-R/1460+R/36524-R/146096)/365)+(R-R/1460+R/36524-R/146096)/365/4-(R-R/1460+R/36524-R/146096)/365/100)≤500:=by
  exact Zx R _ hR (by omega) (by omega)
 generalize (R-R/1460+R/36524-R/146096)/365=Y at*;rw[w Y (by omega) (by omega),w (365*Y) (by omega) (by omega),t Y 4 (by omega),t Y 100 (by omega),w (Y/4) (by omega) (by omega),w (Y/100) (by omega) (by omega),w (365*Y+Y/4) (by omega) (by omega),w (365*Y+Y/4-Y/100) (by omega) (by omega),w (R-(365*Y+Y/4-Y/100)) (by omega) (by omega)];generalize R-(365*Y+Y/4-Y/100)=D at*;rw[w (5*D) (by omega) (by omega),w (5*D+2) (by omega) (by omega),t (5*D+2) 153 (by omega)];have hM:0≤(5*D+2)/153∧(5*D+2)/153≤20:=by omega
 generalize (5*D+2)/153=M at*;rw[w M (by omega) (by omega),w (M+3) (by omega) (by omega),w (M+3-12) (by omega) (by omega),w e (by omega) (by omega),w (400*e) (by omega) (by omega),w (Y+400*e) (by omega) (by omega),w (Y+400*e+1) (by omega) (by omega)];rw[w (153*M) (by omega) (by omega),w (153*M+2) (by omega) (by omega),t (153*M+2) 5 (by omega),w ((153*M+2)/5) (by omega) (by omega),w (D-(153*M+2)/5) (by omega) (by omega),w (D-(153*M+2)/5+1) (by omega) (by omega)];refine⟨?_,?_,rfl⟩
 ·generalize (if 12<M+3 then M+3-12 else M+3)=m;split<;>rfl
 ·split<;>rfl
theorem aja (d n:Int):∃x e:Int,ao T ac4 [.int d,.int n] (.tup [.int x,.int e])∧(e=0→0≤x∧x≤100000):=by
 by_cases h0:gE d=true∧-5000≤n∧n≤5000
 ·have hd:0≤d∧d≤100400:=by have:=h0.1;simp[gE] at this;omega
  obtain⟨A,hA⟩:∃A,A=IntKind.i64.wrap (IntKind.i64.wrap (IntKind.i64.wrap (IntKind.i64.wrap (12*(eT d).1)+(eT d).2.1)-1)+n):=⟨_,rfl⟩
  obtain⟨Y,hY⟩:∃Y,Y=IntKind.i64.wrap (A.tdiv 12):=⟨_,rfl⟩
  obtain⟨M,hM⟩:∃M,M=IntKind.i64.wrap (A.tmod 12+1):=⟨_,rfl⟩
  obtain⟨x,e,hD,hb⟩:=ajh Y M (if yw Y M<(eT d).2.2 then yw Y M else(eT d).2.2);refine⟨x,e,.of_tree rfl Yf ah7 ?_,hb⟩;have n1:¬n< -5000:=by omega
  have n2:¬5000<n:=by omega
  simp[MH,n1,n2];refine⟨_,Fj d,?_⟩;simp[h0.1];refine⟨_,Zy d hd,?_⟩;simp[←hA,←hY,←hM];refine⟨_,Iv Y M,?_⟩;by_cases hl:yw Y M<(eT d).2.2
  ·simp only[if_pos hl] at hD;simp[hl];refine⟨_,hD,?_⟩;simp
  ·simp only[if_neg hl] at hD;simp[hl];refine⟨_,hD,?_⟩;simp
 ·refine⟨0,3,.of_tree rfl Yf ah7 ?_,by simp⟩;simp[MH];refine⟨_,Fj d,?_⟩;simp;intro a b c;exact absurd ⟨a,b,c⟩ h0
end Rm
namespace Rm
open Go Go.Proofs Cx
theorem Pe (l:List Int)(x:Int):hasB l x=l.contains x:=by
 rw[sD];simp[hasB]
def E8 (c:City):Prop:=c.rest.length≤100000∧c.feasts.length≤100000∧c.shut.length≤100000
theorem aoP (n:Int)(h:0≤n∧n≤100400):(0≤(eT n).2.1∧(eT n).2.1≤30)∧-1000≤(eT n).2.2∧(eT n).2.2≤1000:=by
 unfold eT;simp only[];have hR:0≤(n+730425)%146097∧(n+730425)%146097<146097:=by omega
 generalize (n+730425)%146097=R at*;have hD:=Zx R ((R-R/1460+R/36524-R/146096)/365) hR (by omega) (by omega);generalize (R-R/1460+R/36524-R/146096)/365=Y at*;generalize R-(365*Y+Y/4-Y/100)=D at*;have hM:0≤(5*D+2)/153∧(5*D+2)/153≤20:=by omega
 generalize (5*D+2)/153=M at*;refine⟨?_,by omega,by omega⟩;split<;>omega
theorem aAo (c:City)(hc:E8 c)(n:Int)(h:0≤n∧n≤100400):ao T adb [fY c,.int n] (.bool (v7 c.rest c.feasts c.shut n)):=by
 refine .of_tree rfl akp aCV ?_;simp[Vf];refine⟨_,Zy n h,?_⟩;have w5:IntKind.i64.wrap (n+5)=n+5:=bU (by omega);have m7:(n+5).tmod 7=(n+5)%7:=ajo (by omega);obtain⟨h1,h2,h3⟩:=hc;simp[w5,m7];refine⟨_,uC c.rest ((n+5)%7) (by omega),?_⟩;unfold v7;rw[←Pe];cases hr:hasB c.rest ((n+5)%7)
 ·obtain⟨jm,dx⟩:=aoP n h;have wm:IntKind.i64.wrap (100*(eT n).2.1)=100*(eT n).2.1:=bU (by omega);have wd:IntKind.i64.wrap (100*(eT n).2.1+(eT n).2.2)=100*(eT n).2.1+(eT n).2.2:=bU (by omega);simp[hr,wm,wd];refine⟨_,uC c.feasts _ (by omega),?_⟩;have e1:=Pe c.feasts (100*(eT n).2.1+(eT n).2.2);have e2:=Pe c.shut n;simp at e1 e2;cases hf:hasB c.feasts (100*(eT n).2.1+(eT n).2.2)
  ·simp[hf,←e1,←e2];exact⟨_,uC c.shut n (by omega),rfl⟩
  ·simp[hf,←e1]
 ·simp[hr]
end Rm
namespace Rm
open Go Go.Proofs Cx
def eJ (c:City)(a:Int)(k:Nat):List Int:=((List.range k).map fun(i:Nat)=>a+i).filter (v7 c.rest c.feasts c.shut)
theorem ZE (c:City)(a:Int)(k:Nat):eJ c a (k+1)=eJ c a k++if v7 c.rest c.feasts c.shut (a+k) then[a+k] else[]:=by
 unfold eJ;rw[List.range_succ,oy,M2]
 congr 1
 cases h:v7 c.rest c.feasts c.shut (a+k)<;>simp[h]
theorem ao5 (c:City)(a:Int){k n:Nat}(h:k≤n):∃r,eJ c a n=eJ c a k++r:=by
 induction n with
 |zero=>obtain rfl:k=0:=by omega
        exact⟨[],by simp⟩
 |succ n ih=>
  by_cases e:k=n+1
  ·subst e;exact⟨[],by simp⟩
  ·obtain⟨r,hr⟩:=ih (by omega);exact⟨r++_,by rw[ZE,hr,m9]⟩
def qk (d:Int):D:=.tup [.int d]
theorem ao6 (c:City)(a b:Int):ZG [.ref (.int a),.ref (.int b),.ref (fY c)]=(eJ c a (b-a+1).toNat).map qk:=by
 have hi:∀l:List Int,vM (ints l)=l:=fun l=>by
  show(l.map D.int).map D.i=l;rw[Fy];exact List.map_id l
 show(ZF (vM (ints c.rest)) (vM (ints c.feasts)) (vM (ints c.shut)) a b).map _=_;rw[hi,hi,hi];rfl
theorem ao3 (c:City)(hc:E8 c)(a b:Int)(ha:0≤a)(hb:b≤100400)(xR:a≤100400):ao T ac9 [.ref (.int a),.ref (.int b),.ref (fY c)] (.list ((eJ c a (b-a+1).toNat).map qk)):=by
 have qC:=ao6 c a b;rw[←qC];obtain⟨N,hN⟩:∃N,N=(b-a+1).toNat:=⟨_,rfl⟩
 refine ao.of_it (pc:=DH) (J:=1000) (k:=1) rfl (fun x hx=>?_) (fun m hm=>?_)
 ·rw[qC] at hx;obtain⟨i,_,rfl⟩:=ej.1 hx;exact⟨_,rfl,rfl⟩
 ·rw[qC] at hm ⊢;rw[←hN] at hm ⊢;refine MR ?_;rw[aCS];simp[Ve];refine aY.forLoop (α:=Nat) (fun k vr vo=>k≤N∧vr=[.int (a+k)]∧vo=[.list ((eJ c a k).map qk)]∧(eJ c a k).length≤m) (fun k=>N-k) 0 ?_ ?_
  ·simp[ap5,eJ]
  ·rintro k vr vo ⟨hk,rfl,rfl,my⟩;by_cases ah:k<N
   ·have hle:a+(k:Int)≤b:=by omega
    have iT:IntKind.i64.wrap (a+(k:Int)+1)=a+((k+1:Nat):Int):=by rw[bU (by omega)];omega
    have bO:=(aAo c hc (a+k) (by omega))
    have yk:=ZE c a k;obtain⟨r,hr⟩:=ao5 c a (k:=k+1) (n:=N) ah;simp[ag4,LV,hle];refine⟨_,bO.yld (by decide),?_⟩;cases hi:v7 c.rest c.feasts c.shut (a+k)
    ·simp[hi] at yk ⊢;exact⟨k+1,by omega,by omega,iT,by rw[yk],by rw[yk];exact my⟩
    ·simp[hi] at yk ⊢;have hlen:(eJ c a (k+1)).length=(eJ c a k).length+1:=by rw[yk];simp
     have rM:(eJ c a k).map qk++[D.tup [D.int (a+k)]]=(eJ c a (k+1)).map qk:=by rw[yk,oy];rfl
     have C9:(eJ c a (k+1)).map qk=((eJ c a N).map qk).take ((eJ c a k).length+1):=by
      rw[hr,oy,List.take_append_of_le_length (by simp[hlen]),Af (by simp[hlen])]
     have bl:(eJ c a k).length<((eJ c a N).map qk).length:=by rw[hr];simp[hlen];omega
     rw[rM];refine⟨_,ao.answer C9 bl my,?_⟩;by_cases vw:(eJ c a k).length<m
     ·simp[vw];exact⟨k+1,by omega,by omega,iT,rfl,by omega⟩
     ·obtain rfl:(eJ c a k).length=m:=by omega
      simp;rw[C9]
   ·obtain rfl:k=N:=by omega
    have hle:¬a+(k:Int)≤b:=by omega
    simp[ag4,LV,hle];rw[Af (by simp;omega)]
end Rm
namespace Rm
open Go Go.Proofs Cx
theorem ao7 (c:City)(a b:Int):ao T ac8 [fY c,.int a,.int b] (.clo ac9 [.ref (.int a),.ref (.int b),.ref (fY c)]):=by
 refine .of_tree rfl akn aCT ?_;simp[Vd]
def mm (d:Int):Int:=if 100000<d+400 then 100000 else d+400
def jv (c:City)(d:Int):Int×Int:=
 if gE d=false then(0,3) else match eJ c d (mm d-d+1).toNat with|[]=>(0,3)|x::_=>(x,0)
theorem ao4 {c:City}{a:Int}{k:Nat}{x:Int}(h:x∈eJ c a k):a≤x∧x<a+k:=by
 unfold eJ at h;obtain⟨h1,_⟩:=dm.mp h;obtain⟨i,hi,rfl⟩:=ej.mp h1;have:=cj.mp hi;omega
theorem azs {c:City}{d:Int}(h:(jv c d).2=0):gE d=true∧d≤(jv c d).1∧(jv c d).1≤100000:=by
 unfold jv at h ⊢;cases hd:gE d
 ·simp[hd] at h
 ·simp only[hd] at h ⊢;cases hk:eJ c d (mm d-d+1).toNat with
  |nil=>rw[hk] at h;simp at h
  |cons x l=>
   have hm:x∈eJ c d (mm d-d+1).toNat:=by rw[hk];simp
   have:=ao4 hm;have he:mm d≤100000:=by unfold mm;split<;>omega
   simp[gE] at hd;simp;unfold mm at*;omega
theorem ajy (c:City)(hc:E8 c)(d:Int):ao T ac6 [fY c,.int d] (.tup [.int (jv c d).1,.int (jv c d).2]):=by
 refine .of_tree rfl akl aCQ ?_;simp[Vb];refine⟨_,Fj d,?_⟩;cases hd:gE d
 ·simp[jv,hd]
 have fq:0≤d∧d≤100000:=by simpa [gE] using hd
 have hw:IntKind.i64.wrap (d+400)=d+400:=bU (by omega);have he:mm d≤100000:=by unfold mm;split<;>omega
 simp[hd,hw];have hE:(if 100000<d+400 then D.int 100000 else D.int (d+400))=D.int (mm d):=by unfold mm;split<;>rfl
 rw[hE];refine⟨_,ao7 c d (mm d),_,_,rfl,_,ao3 c hc d (mm d) fq.1 (by omega) (by omega),?_⟩;cases hk:eJ c d (mm d-d+1).toNat with
 |nil=>
  have hn:jv c d=(0,3):=by unfold jv;simp[hd,hk]
  rw[hn];refine aY.eachR [] (by simp) (fun _ vo=>vo=[.agg [.int 0],.agg [.int 0]]) ?_ (fun k x vo hx hi=>by simp at hx) (fun vo hi=>?_)
  ·simp
  ·subst hi;simp
 |cons x l=>
  have hn:jv c d=(x,0):=by unfold jv;simp[hd,hk]
  rw[hn];refine aY.eachR ((x::l).map qk) (by simp) (fun k vo=>k=0∧vo=[.agg [.int 0],.agg [.int 0]]) ?_ (fun k y vo hx hi=>?_) (fun vo hi=>?_)
  ·simp
  ·obtain⟨rfl,rfl⟩:=hi;simp at hx;subst hx;simp[aBm,TH,qk];rfl
  ·exact absurd hi.1 (by simp)
end Rm
namespace Rm
open Go Go.Proofs Cx
def Mx (o:Int)(d:Int)(h:Halt):Int:=if(h.order=o∧h.fr≤d)∧d≤h.to then h.to+1 else d
def l5 (r:Realm)(o d:Int)(k:Nat):Int:=(r.halts.take k).foldl (Mx o) d
theorem ahV (r:Realm)(o d:Int){k:Nat}(hk:k<r.halts.length):l5 r o d (k+1)=Mx o (l5 r o d k) r.halts[k]:=by
 unfold l5;rw[mi hk,Fv];rfl
def w7 (r:Realm):Prop:=r.halts.length≤100000∧∀h,h∈r.halts→0≤h.fr∧h.to≤100000
theorem UR {r:Realm}(hh:w7 r)(o d:Int)(hd:d≤100001):∀k,k≤r.halts.length→d≤l5 r o d k∧l5 r o d k≤100001
 |0,_=>⟨by simp[l5],by simpa [l5] using hd⟩
 |k+1,hk=>by
  obtain⟨h1,h2⟩:=UR hh o d hd k (by omega);rw[ahV r o d (by omega)];have:=hh.2 _ (de (show k<r.halts.length by omega));unfold Mx;split<;>omega
def wN (r:Realm)(o:Int):Nat→Int→Int
 |0,d=>d
 |n+1,d=>if l5 r o d r.halts.length=d then d else wN r o n (l5 r o d r.halts.length)
def kB (r:Realm)(o d:Int):Int:=wN r o (100002-d).toNat d
theorem ahW {r:Realm}(hh:w7 r)(o:Int):∀(n:Nat) (d:Int),d≤100001→d≤wN r o n d∧wN r o n d≤100001
 |0,d,hd=>⟨Int.le_refl _,hd⟩
 |n+1,d,hd=>by
  obtain⟨h1,h2⟩:=UR hh o d hd r.halts.length (bk _);unfold wN;split
  ·omega
  ·have:=ahW hh o n _ h2;omega
theorem aCh (r:Realm)(hh:w7 r)(o d:Int)(h0:0≤d)(hd:d≤100001):ao T aes [bn r,.int o,.int d] (.int (kB r o d)):=by
 refine .of_tree rfl alS aEw ?_;simp[WG];refine aY.forLoop (α:=Int×Bool×Nat) (fun s vr vo=>vr=[.int s.1,.bool s.2.1]∧vo=[]∧d≤s.1∧s.1≤100001∧(s.2.1=true→(100002-s.1).toNat≤s.2.2)∧(s.2.1=true→wN r o s.2.2 s.1=kB r o d)∧(s.2.1=false→s.1=kB r o d)) (fun s=>2*(100001-s.1).toNat+(if s.2.1 then 1 else 0)) (d,true,(100002-d).toNat) ?_ ?_
 ·simp;exact⟨by omega,rfl⟩
 ·rintro⟨e,ch,n⟩ vr vo ⟨rfl,rfl,h1,h2,h3,h4,h5⟩;simp only at*;cases ch
  ·simp[ahi,Mh];exact h5 rfl
  ·have h3:=h3 rfl;have h4:=h4 rfl;obtain⟨n,rfl⟩:∃m,n=m+1:=⟨n-1,by omega⟩
   have bI:=UR hh o e h2;simp[ahi,Mh];refine aY.forRounds r.halts.length (fun k=>[.int (l5 r o e k),.bool (decide (e<l5 r o e k)),.int k]) (fun _=>[]) ?_ (fun k hk=>?_) ?_
   ·simp[l5]
   ·have hw:=bx hk (by have:=hh.1;omega);have ct:=bI k (by omega);have vE:=hh.2 _ (de hk);rw[ahV r o e hk];unfold Mx;generalize l5 r o e k=x at*;by_cases hc:(r.halts[k].order=o∧r.halts[k].fr≤x)∧x≤r.halts[k].to
    ·have dz:IntKind.i64.wrap (r.halts[k].to+1)=r.halts[k].to+1:=bU (by omega);simp[Mg,zx,hk,hw,hc,dz];omega
    ·simp[Mg,zx,hk,hw,hc]
   ·have hE:=bI r.halts.length (bk _);unfold wN at h4;generalize l5 r o e r.halts.length=x at*;by_cases hx:x=e
    ·rw[if_pos hx] at h4;subst hx;simp[Mg,zx];exact⟨x,by omega,rfl,h1,h2,h4⟩
    ·rw[if_neg hx] at h4;have ah:e<x:=by omega
     simp[Mg,zx,ah];exact⟨x,by omega,rfl,by omega,by omega,n,by omega,h4⟩
def wK (r:Realm)(c:City)(o:Int):Nat→Int→Int×Int
 |0,d=>(d,0)
 |n+1,d=>
  if(jv c (kB r o d)).2≠0 then(0,3)
  else if(jv c (kB r o d)).1=kB r o d then(kB r o d,0)
  else wK r c o n (jv c (kB r o d)).1
theorem aCb (r:Realm)(c:City)(o:Int)(n:Nat)(d:Int):wK r c o (n+1) d=
 if(jv c (kB r o d)).2≠0 then(0,3)
 else if(jv c (kB r o d)).1=kB r o d then(kB r o d,0)
 else wK r c o n (jv c (kB r o d)).1:=rfl
def od (r:Realm)(city d:Int):Int×Int:=wK r (r.cities.getD city.toNat default) (gh r city) (100002-d).toNat d
theorem ahR (r:Realm)(hh:w7 r)(city d:Int)(hc:0≤city∧city<r.cities.length)(hs:∀c,c∈r.cities→E8 c)(h0:0≤d)(hd:d≤100001):ao T RQ [bn r,.int city,.int d] (.tup [.int (od r city d).1,.int (od r city d).2]):=by
 refine .of_tree rfl alR aEv ?_;simp[WE];refine⟨_,pO r city,?_⟩;have bl:city.toNat<r.cities.length:=by omega
 have hcg:r.cities.getD city.toNat default=r.cities[city.toNat]:=by simp[bl]
 have hsc:=hs _ (de bl);have hF:od r city d=wK r r.cities[city.toNat] (gh r city) (100002-d).toNat d:=by unfold od;rw[hcg]
 rw[hF];refine aY.forLoop (α:=Int×Nat) (fun s vr vo=>(∃a b,vr=[.int s.1,a,b])∧vo=[]∧0≤s.1∧s.1≤100001∧(100002-s.1).toNat≤s.2∧wK r r.cities[city.toNat] (gh r city) s.2 s.1=wK r r.cities[city.toNat] (gh r city) (100002-d).toNat d) (fun s=>s.2) (d,(100002-d).toNat) ?_ ?_
 ·simp;omega
 ·rintro⟨e,n⟩ vr vo ⟨⟨a,b,rfl⟩,rfl,h1,h2,h3,h4⟩;simp only at*;obtain⟨n,rfl⟩:∃m,n=m+1:=⟨n-1,by omega⟩
  rw[←h4];have hsk:=ahW hh (gh r city) (100002-e).toNat e h2;have hsr:=aCh r hh (gh r city) e h1 h2;rw[aCb];change e≤kB r (gh r city) e∧kB r (gh r city) e≤100001 at hsk;generalize kB r (gh r city) e=x at*;have PY:=ajy r.cities[city.toNat] hsc x;have qv:=azs (c:=r.cities[city.toNat]) (d:=x);generalize jv r.cities[city.toNat] x=N at*;obtain⟨y,er⟩:=N;simp only at PY qv;simp[aBw,Ut];refine⟨_,hsr,?_⟩;simp[bl,hc];refine⟨_,PY,?_⟩;by_cases he:er=0
  ·obtain⟨g1,g2,g3⟩:=qv he;by_cases hy:y=x
   ·simp[he,hy]
   ·simp[he,hy];exact⟨y,n,by omega,rfl,by omega,by omega,by omega,rfl⟩
  ·simp[he]
end Rm
namespace Rm
open Go Go.Proofs Cx
structure RightD (r:Realm):Prop where
 small:Small r
 halts:w7 r
theorem RightD.cities {r:Realm}(h:RightD r)(c:City)(hc:c∈r.cities):E8 c:=by
 obtain⟨h1,h2,h3,_⟩:=h.small.city c hc;exact⟨by omega,by omega,by omega⟩
theorem X5 (d:Int)(t:Tenor):∃n e:Int,ao T aeq [.int d,rz t] (.tup [.int n,.int e]):=by
 by_cases h0:t.n<0
 ·refine⟨0,3,.of_tree rfl FL MO ?_⟩;simp[zM,h0]
 by_cases h1:20000<t.n
 ·refine⟨0,3,.of_tree rfl FL MO ?_⟩;simp[zM,h0,h1]
 by_cases h2:t.unit=1
 ·obtain⟨n,e,h,_⟩:=aja d t.n;refine⟨n,e,.of_tree rfl FL MO ?_⟩;simp[zM,h0,h1,h2];refine⟨_,h,?_⟩;simp
 ·refine⟨IntKind.i64.wrap (d+t.n),0,.of_tree rfl FL MO ?_⟩;simp[zM,h0,h1,h2]
theorem amc (r:Realm)(hr:RightD r)(b:Bill)(seen:Int):∃n e:Int,ao T IK [bn r,dN b,.int seen] (.tup [.int n,.int e]):=by
 have htn:D.agg [D.int b.tenor.kind,D.int b.tenor.n,D.int b.tenor.unit]=rz b.tenor:=rfl;by_cases h0:b.tenor.kind=0
 ·refine⟨seen,0,.of_tree rfl xm zN ?_⟩;simp[uu,h0]
 by_cases h1:b.tenor.kind=1
 ·obtain⟨n,e,h⟩:=X5 seen b.tenor;refine⟨n,e,.of_tree rfl xm zN ?_⟩;have cE:(b.tenor.kind=1)=True:=eq_true h1;simp[uu,h0,cE];refine⟨_,h,?_⟩;simp
 by_cases h2:b.tenor.kind=2
 ·obtain⟨n,e,h⟩:=X5 b.day b.tenor;refine⟨n,e,.of_tree rfl xm zN ?_⟩;have kI:(b.tenor.kind=2)=True:=eq_true h2;simp[uu,h0,h1,kI];refine⟨_,h,?_⟩;simp
 by_cases h4:b.tenor.kind=4
 ·obtain⟨n,e,h,_⟩:=ajC r b.city b.pay (by have:=hr.small.us;omega);refine⟨IntKind.i64.wrap (b.day+n),e,.of_tree rfl xm zN ?_⟩;have oW:(b.tenor.kind=4)=True:=eq_true h4;simp[uu,h0,h1,h2,oW];refine⟨_,h,?_⟩;simp
 ·refine⟨b.tenor.n,0,.of_tree rfl xm zN ?_⟩;simp[uu,h0,h1,h2,h4]
theorem ao.ex_of_tree {tab:Nat→Option PC}{ext:Nat→Option (aV→List D→Option D)}{f:Nat}{pc:PC}{t:PT}{ds:List D}{P:D→Prop}(hx:ext f=none)(ht:tab f=some pc)(he:tree pc=t)
 (h:aP (cD tab ext) t (j2 ds) (fun x=>∃d,x=.ret d∧P d)):∃d,ao (cD tab ext) f ds d∧P d:=by
 subst he;obtain⟨x,⟨d,rfl,hd⟩,n0,hn⟩:=aid (Lt ⟨fun _ _ _ h=>(by obtain⟨_,h,_⟩:=h;cases h),fun _ _ _ _ _ _ h=>(by obtain⟨_,h,_⟩:=h;cases h),fun _ h=>h⟩ h);exact⟨d,.of_pc hx ht ⟨.ret d,rfl,n0,hn⟩,hd⟩
def FB (d:D):Prop:=∃n e:Int,d=.tup [.int n,.int e]
@[simp] theorem aHD (n e:Int):FB (.tup [.int n,.int e])=True:=eq_true ⟨n,e,rfl⟩
theorem wZ (r:Realm)(hr:RightD r)(b:Bill)(seen gX:Int):∃d,ao T IJ [bn r,dN b,.int seen,.int gX] d∧FB d:=by
 have htn:D.agg [D.int b.tenor.kind,D.int b.tenor.n,D.int b.tenor.unit]=rz b.tenor:=rfl;have j6:=Uy r hr.small;refine ao.ex_of_tree rfl Yp aia ?_;simp[MN];refine⟨_,j6,?_⟩;by_cases h0:kG r=0
 case neg=>simp[h0]
 simp[h0];refine⟨_,Ir r b.city,?_⟩;cases h1:aN b.city r.cities.length
 ·simp[h1]
 simp[h1];refine⟨_,Ir r b.pay,?_⟩;cases h2:aN b.pay r.cities.length
 ·simp[h2]
 simp[h2];refine⟨_,Dj b.day,?_⟩;cases h3:gE b.day
 ·simp[h3]
 simp[h3];intro _ _ _ _;have hp:0≤b.pay∧b.pay<r.cities.length:=by simpa [aN] using h2
 have fin:0≤gX→gX≤20000→∃d,ao T IK [bn r,dN b,D.int seen] d∧
  if(d.tget 1).i=0 then ∃d1,ao T RP [d.tget 0] d1∧(d1.b=true→IntKind.i64.wrap ((d.tget 0).i+gX)≤100000→
        ∃d2,ao T RQ [bn r,D.int b.pay,D.int (IntKind.i64.wrap ((d.tget 0).i+gX))] d2∧FB (D.tup [d2.tget 0,d2.tget 1]))
  else FB (D.tup [D.int 0,d.tget 1]):=by
  intro x9 nA;obtain⟨n,e,h⟩:=amc r hr b seen;refine⟨_,h,?_⟩;by_cases he:e=0
  ·simp[he];refine⟨_,Dj n,?_⟩;cases hd:gE n
   ·simp[hd]
   have fq:0≤n∧n≤100000:=by simpa [gE] using hd
   have hw:IntKind.i64.wrap (n+gX)=n+gX:=bU (by omega);simp[hd,hw];intro hle;refine⟨_,ahR r hr.halts b.pay (n+gX) hp hr.cities (by omega) (by omega),?_⟩;simp
  ·simp[he]
 by_cases hs:seen=-1
 ·simp[hs] at fin ⊢;intro x9 nA;refine⟨_,Nh b.tenor,?_⟩;simp;intro _;exact fin x9 nA
 ·simp[hs] at fin ⊢;refine⟨_,Dj seen,?_⟩;cases hk:gE seen
  ·simp[hk]
  simp[hk];intro x9 nA;exact⟨⟨_,Nh b.tenor⟩,fin x9 nA⟩
noncomputable def rp (r:Realm)(b:Bill)(seen gX:Int):Int×Int:=
 open Classical in if h:RightD r then((wZ r h b seen gX).choose_spec.2.choose,(wZ r h b seen gX).choose_spec.2.choose_spec.choose) else(0,0)
theorem XA (r:Realm)(hr:RightD r)(b:Bill)(seen gX:Int):ao T IJ [bn r,dN b,.int seen,.int gX] (.tup [.int (rp r b seen gX).1,.int (rp r b seen gX).2]):=by
 have h:=(wZ r hr b seen gX).choose_spec.2.choose_spec.choose_spec;have h1:=(wZ r hr b seen gX).choose_spec.1;rw[h] at h1;have e:rp r b seen gX=((wZ r hr b seen gX).choose_spec.2.choose,(wZ r hr b seen gX).choose_spec.2.choose_spec.choose):=by unfold rp;rw[dif_pos hr]
 rw[e];exact h1
noncomputable def tL (r:Realm)(ay:Int)(f:File)(day:Int):Int:=
 if(eP f day).signs=[] then-1
 else if(rp r f.bill (ug (eP f day)) (max (ki (rk r ay 6 (eP f day) day)) 0)).2≠0 then-1
 else(rp r f.bill (ug (eP f day)) (max (ki (rk r ay 6 (eP f day) day)) 0)).1
@[simp] theorem aK9 (x:File)(a0 a1 a2 a3 a4 a5 a6 a7 a8 a9 lu lx ly lz lC nj nk nl oH:D):(dU [a0,a1,a2,a3,a4,a5,a6,a7,a8,a9,lu,lx,ly,lz,lC,nj,nk,nl,oH] 0 [.int x.bill.drawer,.int x.bill.drawee,.int x.bill.payee,.int x.bill.sum,.int x.bill.currency,.int x.bill.tenor.kind,.int x.bill.tenor.n,.int x.bill.tenor.unit,.int x.bill.day,.int x.bill.city,.int x.bill.pay,.int x.bill.need,.int x.bill.rate,.int x.bill.flags,.int x.bill.parts,signs x.signs,alters x.alters,acts x.acts,facts x.facts])[15]?.getD D.none=signs x.signs:=_root_.id rfl
theorem ajv (r:Realm)(hr:Right r)(hd:RightD r)(ay:Int)(f:File)(day:Int)(hf:FewS f):ao T acU [bn r,.int ay,cI f,.int day] (.int (tL r ay f day)):=by
 refine .of_tree rfl akb aCD ?_;simp[U2];refine⟨_,ahn f day (by have:=hf.signs;omega) (by have:=hf.acts;omega) (by have:=hf.alters;omega) (by have:=hf.facts;omega),?_⟩;have hg:=hf.at_ day;have hb:(eP f day).bill=f.bill:=rfl;unfold tL;generalize eP f day=g at*;simp;by_cases h0:g.signs=[]
 ·simp[h0]
 simp[h0];refine⟨_,aj4 r hr ay 6 g day hg,_,FI _,_,aBE g (by have:=hg.signs;omega) (by have:=hg.acts;omega),?_⟩;have hm:(if(D.int (ki (rk r ay 6 g day))).i<0 then D.int 0 else D.int (ki (rk r ay 6 g day)))=D.int (max (ki (rk r ay 6 g day)) 0):=by
  simp only[apa];split
  ·rw[Int.max_eq_right (by omega)]
  ·rw[Int.max_eq_left (by omega)]
 rw[hm,hb];refine⟨_,XA r hd f.bill _ _,?_⟩;by_cases he:(rp r f.bill (ug g) (max (ki (rk r ay 6 g day)) 0)).2=0<;>simp[he]
end Rm
namespace Rm
open Go Go.Proofs Cx
theorem ape {r:Realm}{b:Bill}(hr:RightD r)(hc:kG r=0)(Po:aN b.city r.cities.length=true)(dQ:aN b.pay r.cities.length=true)(hd:gE b.day=true)(hk:b.tenor.kind=3)(hu:b.tenor.unit=0)
 (hn:gE b.tenor.n=true) {g:Int} (hg:0≤g∧g≤20000) (hs:b.tenor.n+g≤100000):rp r b (-1) g=od r b.pay (b.tenor.n+g):=by
 have j6:=Uy r hr.small;rw[hc] at j6;have iP:0≤b.tenor.n∧b.tenor.n≤100000:=by simpa [gE] using hn
 have pq:=ahR r hr.halts b.pay (b.tenor.n+g) (by simpa [aN] using dQ) hr.cities (by omega) (by omega);have hb:ao T IK [bn r,dN b,.int (-1)] (.tup [.int b.tenor.n,.int 0]):=by
  refine .of_tree rfl xm zN ?_;simp[uu,hk]
 have h:ao T IJ [bn r,dN b,.int (-1),.int g] (.tup [.int (od r b.pay (b.tenor.n+g)).1,.int (od r b.pay (b.tenor.n+g)).2]):=by
  have nB:=Ir r b.city;have aa6:=Ir r b.pay;have vk:=Dj b.day;have hi3:=Dj b.tenor.n;have hi4:=Nh b.tenor;rw[Po] at nB;rw[dQ] at aa6;rw[hd] at vk;rw[hn] at hi3;rw[show Mv b.tenor=false from by simp[Mv,hk]] at hi4;have hw:IntKind.i64.wrap (b.tenor.n+g)=b.tenor.n+g:=bU (by omega);have nA:¬g<0:=by omega
  have gq:¬20000<g:=by omega
  have eB:¬100000<b.tenor.n+g:=by omega
  refine .of_tree rfl Yp aia ?_;simp[MN];refine⟨_,j6,?_⟩;simp;refine⟨_,nB,?_⟩;simp;refine⟨_,aa6,?_⟩;simp;refine⟨_,vk,?_⟩;simp[hk,hu,nA,gq];refine⟨_,hi4,?_⟩;simp;refine⟨_,hb,?_⟩;simp;refine⟨_,hi3,?_⟩;simp[hw,eB];refine⟨_,pq,?_⟩;simp
 have h2:=h.det (XA r hr b (-1) g);simp at h2;exact Prod.ext h2.1.symm h2.2.symm
end Rm
namespace Rm
open Go Go.Proofs Cx
theorem Tw (l:List Int)(hl:l.length≤4000000):ao T adQ [ints l,ints l] (.bool true):=by
 refine .of_tree rfl ak9 aDL ?_;simp[VZ];refine aY.forRounds l.length (fun k=>[.bool false,.int k]) (fun _=>[]) ?_ (fun k hk=>?_) ?_
 ·simp
 ·have hw:=bx hk (by omega);simp[ag9,L6,hk,hw]
 ·simp[ag9,L6]
theorem Tx (s:Said)(hl:s.path.length≤4000000):ao T adU [jH s,jH s] (.bool true):=by
 refine .of_tree rfl alc aDO ?_;simp[V2];refine aY.forRounds s.path.length (fun k=>[.bool false,.int k]) (fun _=>[]) ?_ (fun k hk=>?_) ?_
 ·simp
 ·have hw:=bx hk (by omega);simp[aha,L7,hk,hw]
 ·simp[aha,L7]
def S8 (r:Realm)(ay:Int)(c:Case):List Int:=if dV r (cQ c)=[] then[] else gi r ay (cQ c)
theorem aj5 (r:Realm)(ay:Int)(c:Case)(hf:FewS c.file):ao T acX [bn r,.int ay,dO c] (ints (S8 r ay c)):=by
 refine .of_tree rfl ake aCG ?_;simp[U5];refine⟨_,Yd r c hf,?_⟩;unfold S8;by_cases hv:dV r (cQ c)=[]
 ·simp[hv];rfl
 simp[hv];exact ago r ay (cQ c) (ai0 hv)
def Xn:Tm:=.mk 2 15 []
def ai8:Tm:=.mk 4 0 [Xn,.mk 2 17 []]
def Fl:Order:=⟨⟨#[103,101,110,101,118,97]⟩,false,[],[⟨2,Xn⟩,⟨6,.mk 0 0 []⟩]⟩
def zT:Order:=⟨⟨#[108,111,110,100,111,110]⟩,false,[⟨2,1,false⟩],[⟨2,ai8⟩,⟨6,.mk 0 3 []⟩]⟩
def cW:Realm:=⟨[⟨#[102,114,97,110,99]⟩],[⟨⟨#[76,121,111,110]⟩,0,0,[],[],[]⟩,⟨⟨#[76,111,110,100,111,110]⟩,1,0,[],[],[]⟩],[⟨0⟩],[⟨⟨#[97]⟩,0,0⟩,⟨⟨#[98]⟩,1,0⟩],[Fl,zT],[],[],[]⟩
def MW (c:Int):Bill:=⟨0,1,0,5,0,⟨3,10,0⟩,2,c,1,-1,0,1,1⟩
def gT (c:Int):File:=⟨MW c,[⟨0,0,0,-1,-1,0,2,c,0⟩],[],[],[⟨0,0,1⟩]⟩
def lf (c:Int):Case:=⟨gT c,0,-1,-1,-1,5⟩
set_option maxRecDepth 10000 in
theorem aFn:ao T adq [] (bn cW):=by
 refine .of_tree rfl akD aDb ?_;simp[Vs];kernel_rfl
set_option maxRecDepth 10000 in
theorem sA (c:Int):ao T adp [.int c] (cI (gT c)):=by
 refine .of_tree rfl akC aDa ?_;simp[Vr];rfl
set_option maxRecDepth 10000 in
theorem zS (f:File):ao T adm [cI f] (dO ⟨f,0,-1,-1,-1,5⟩):=by
 refine .of_tree rfl akz aC7 ?_;simp[Vo];rfl
theorem aFz:Small cW:=by
 refine⟨by decide,by decide,by decide,by decide,by decide,by decide,by decide,by decide,?_,?_,?_⟩
 ·intro c hc;simp[cW] at hc;rcases hc with rfl|rfl<;>simp
 ·intro o ho;simp[cW] at ho;rcases ho with rfl|rfl<;>simp[Fl,zT]
 ·intro x hx;simp[cW] at hx
theorem ai7:RightD cW:=⟨aFz,by decide,fun h hh=>by simp[cW] at hh⟩
theorem lO {n:Int}(h:-100000≤n∧n≤100000):bh n:=by unfold bh;omega
theorem Xm:Right cW:=by
 have g:Xn.OK:=.mk _ _ [] (lO (by omega)) (lO (by omega)) (by decide) (fun _ h=>by cases h);have n:∀k:Int,0≤k→k≤100→(Tm.mk 0 k []).OK:=fun k h1 h2=>.mk _ _ [] (lO (by omega)) (lO (by omega)) (by decide) (fun _ h=>by cases h)
 have b:ai8.OK:=.mk _ _ _ (lO (by omega)) (lO (by omega)) (by decide) (fun a h=>by
  simp at h;rcases h with rfl|rfl
  ·exact g
  ·exact .mk _ _ [] (lO (by omega)) (lO (by omega)) (by decide) (fun _ h=>by cases h))
 refine⟨?_,by decide,?_⟩
 ·intro o ho;simp[cW] at ho;rcases ho with rfl|rfl
  ·exact⟨by decide,fun ch h=>by simp[Fl] at h⟩
  ·exact⟨by decide,fun ch h=>by simp[zT] at h;subst h;decide⟩
 ·intro o ho;simp[cW] at ho;rcases ho with rfl|rfl
  ·refine⟨⟨⟨by decide,fun ch h=>by simp[Fl] at h⟩,by decide,?_⟩,by decide⟩;intro x hx;simp[Fl] at hx;rcases hx with rfl|rfl
   ·exact⟨lO (by decide),g⟩
   ·exact⟨lO (by decide),n 0 (by decide) (by decide)⟩
  ·refine⟨⟨⟨by decide,fun ch h=>?_⟩,by decide,?_⟩,by decide⟩
   ·simp[zT] at h;subst h;exact⟨lO (by decide),lO (by decide)⟩
   intro x hx;simp[zT] at hx;rcases hx with rfl|rfl
   ·exact⟨lO (by decide),b⟩
   ·exact⟨lO (by decide),n 3 (by decide) (by decide)⟩
theorem MX (c:Int):FewS (gT c):=⟨by simp[gT],by simp[gT],by simp[gT],by simp[gT]⟩
theorem aFo:dM cW 0 2 (lf 0)=⟨⟨true,1⟩,0,[0],0⟩:=by kernel_rfl
theorem aFp:dM cW 1 2 (lf 0)=⟨⟨true,1⟩,0,[1,0],0⟩:=by kernel_rfl
theorem aFq:dM cW 1 2 (lf 1)=⟨⟨false,0⟩,1,[1],0⟩:=by kernel_rfl
theorem aFr:(dM cW 0 0 (lf 0)).err=4∧sv (dM cW 0 0 (lf 0))=0∧ki (dM cW 0 0 (lf 0))=-1:=⟨by kernel_rfl,by kernel_rfl,by kernel_rfl⟩
theorem aFy:S8 cW 1 (lf 0)=[1,0,1,0,0]:=by kernel_rfl
theorem aFs:df cW 1 2 (lf 1)=(⟨cV,1,[1],0⟩,dV cW (cQ (lf 1))):=by kernel_rfl
theorem aFx:ao T RA [iJ zT,.int 2,cells (dV cW (cQ (lf 1)))] (ints [17]):=ao.of_ev 200 (by kernel_rfl)
theorem aFw:ao T acV [bn cW,.int 1,.int 2,dO (lf 1)] (ints [17]):=by
 have hf:=Yc cW Xm 1 2 (lf 1) (MX 1);rw[aFs] at hf;refine .of_tree rfl akc aCE ?_;simp[U3];refine⟨_,hf,?_⟩;simp[cV];exact⟨by decide,aFx⟩
theorem ai6 (ay:Int)(g:Int)(hg:max (ki (rk cW ay 6 (eP (gT 0) 5) 5)) 0=g)(h0:0≤g∧g≤100):tL cW ay (gT 0) 5=if(od cW 1 (10+g)).2≠0 then-1 else(od cW 1 (10+g)).1:=by
 have h2:ug (eP (gT 0) 5)=-1:=by kernel_rfl
 have h4:rp cW (MW 0) (-1) g=od cW 1 (10+g):=ape (b:=MW 0) ai7 (by kernel_rfl) (by decide) (by decide) (by decide) rfl rfl (by decide) (by omega) (by show(10:Int)+g≤100000;omega);unfold tL;rw[if_neg (by decide),h2,hg,show(gT 0).bill=MW 0 from rfl,h4]
theorem aFt:tL cW 0 (gT 0) 5=10:=by
 have h5:od cW 1 10=(10,0):=by kernel_rfl
 have:=ai6 0 0 (by kernel_rfl) (by decide);rw[this,show(10:Int)+0=10 from rfl,h5];simp
theorem aFu:tL cW 1 (gT 0) 5=13:=by
 have h5:od cW 1 13=(13,0):=by kernel_rfl
 have:=ai6 1 3 (by kernel_rfl) (by decide);rw[this,show(10:Int)+3=13 from rfl,h5];simp
theorem aFv:tL cW 0 (gT 0) 1=-1:=by
 unfold tL;rw[if_pos (by decide)]
def aio:PT:=
 (.call ⟨[],[]⟩ [(102,true)] 105 41 [LL,(pi 0),DW,(pi 1)] (.ret (.pick agR (aq agS (pi (-1))) pF)))
def aiz:PT:=
 (.call ⟨[(103,(au 8 o1)),(102,(.pick TF (aq nW (pi 13)) pF))],[]⟩ [(102,true)] 104 81 [(pi 0)] aio)
def aiK:PT:=
 (.call ⟨[],[]⟩ [(96,true)] 99 41 [LU,(pi 1),TG,(pi 5)] aiz)
def aiQ:PT:=
 (.call ⟨[(97,(au 8 o1)),(96,(.pick TD (aq zn (pi 10)) pF))],[]⟩ [(96,true)] 98 81 [(pi 0)] aiK)
def aiR:PT:=
 (.call ⟨[],[]⟩ [(90,true)] 93 41 [r91,(pi 0),zm,(pi 5)] aiQ)
def aiS:PT:=
 (.call ⟨[(91,(au 8 o1)),(90,(.pick (.pick r7 r8 pF) (.pick zk sq pF) pF))],[]⟩ [(90,true)] 92 81 [(pi 0)] aiR)
def aiT:PT:=
 (.call ⟨[],[]⟩ [(75,true)] 81 34 [LR,(.lst [(pi 1),(pi 0),(pi 1),(pi 0),(pi 0)])] aiS)
def aiU:PT:=
 (.call ⟨[],[]⟩ [(75,true)] 79 29 [pM,(pi 1),TC] aiT)
def aiV:PT:=
 (.call ⟨[],[]⟩ [(75,true)] 78 80 [LQ] aiU)
def aip:PT:=
 (.call ⟨[(76,(au 8 o1)),(75,wB)],[]⟩ [(75,true)] 77 81 [(pi 0)] aiV)
def aiq:PT:=
 (.call ⟨[],[]⟩ [] 74 34 [tY,(.lst [(pi 17)])] aip)
def air:PT:=
 (.call ⟨[],[]⟩ [] 72 82 [sn,(pi 1),(pi 2),r71] aiq)
def ais:PT:=
 (.call ⟨[],[]⟩ [] 71 80 [TB] air)
def ait:PT:=
 (.call ⟨[(69,(au 8 o1)),(8,(.pick ku (aq LP (pi 2)) pF))],[]⟩ [] 70 81 [(pi 1)] ais)
def aiu:PT:=
 (.call ⟨[(64,(.pick TA (aq kX (pi 1)) pF))],[]⟩ [(64,true)] 66 46 [(au 5 o4)] ait)
def aiv:PT:=
 (.call ⟨[(59,(.pick pK (aq lZ (pi (-1))) pF))],[]⟩ [(59,true)] 61 46 [(au 5 o2)] aiu)
def aiw:PT:=
 (.call ⟨[(54,(.pick kV (aq lY (pi 0)) pF))],[]⟩ [(54,true)] 56 48 [(au 5 o5)] aiv)
def aix:PT:=
 (.call ⟨[(49,(aq (pc o5 4) (pi 4))),(7,(.pick nU tV pF))],[]⟩ [(49,true)] 51 46 [(au 5 o5)] aiw)
def aiy:PT:=
 (.call ⟨[(40,(.pick sl fE pF))],[]⟩ [(40,true)] 44 49 [(au 5 o4),(.mk [(.con (.agg [(.bool false),(.int 0)])),(pi 1),(.lst [(pi 1)]),(pi 0)])] aix)
def aiA:PT:=
 (.call ⟨[(33,D1)],[]⟩ [(33,true)] 38 49 [(au 5 o3),(.mk [(.mk [(pc o6 0),(pc o6 1)]),(pi 0),(.lst [(pi 1),(pi 0)]),(pi 0)])] aiy)
def aiB:PT:=
 (.call ⟨[],[(6,(.setc (.con (.agg [(.bool false),(.int 0)])) 0 (.mk [pT,(pi 1)]))),(5,(.setc (.con (.agg [(.bool false),(.int 0),(.int 0),(.list []),(.int 0)])) 0 kU))]⟩ [] 32 49 [(au 5 o2),(.mk [(.mk [(pc (.setc (.con (.agg [(.bool false),(.int 0)])) 0 (.mk [pT,(pi 1)])) 0),(pc (.setc (.con (.agg [(.bool false),(.int 0)])) 0 (.mk [pT,(pi 1)])) 1)]),(pi 0),(.lst [(pi 0)]),(pi 0)])] aiA)
def aiC:PT:=
 (.call ⟨[],[]⟩ [] 26 28 [jA,(pi 0),(pi 0),gR] aiB)
def aiD:PT:=
 (.call ⟨[],[]⟩ [] 25 80 [pJ] aiC)
def aiE:PT:=
 (.call ⟨[(23,(au 8 o1))],[(4,(.setc (.con (.agg [(.bool false),(.int 0),(.int 0),(.list []),(.int 0)])) 0 D0))]⟩ [] 24 81 [(pi 0)] aiD)
def aiF:PT:=
 (.call ⟨[],[]⟩ [] 22 28 [gj,(pi 1),(pi 2),kq] aiE)
def aiG:PT:=
 (.call ⟨[],[]⟩ [] 21 80 [eg] aiF)
def aiH:PT:=
 (.call ⟨[(19,(au 8 o1))],[(3,(.setc (.con (.agg [(.bool false),(.int 0),(.int 0),(.list []),(.int 0)])) 0 gQ))]⟩ [] 20 81 [(pi 1)] aiG)
def aiI:PT:=
 (.call ⟨[],[]⟩ [] 18 28 [gP,(pi 1),(pi 2),kp] aiH)
def aiJ:PT:=
 (.call ⟨[],[]⟩ [] 17 80 [dJ] aiI)
def aiL:PT:=
 (.call ⟨[(15,(au 8 o1))],[(2,(.setc (.con (.agg [(.bool false),(.int 0),(.int 0),(.list []),(.int 0)])) 0 du))]⟩ [] 16 81 [(pi 0)] aiJ)
def aiM:PT:=
 (.call ⟨[],[]⟩ [] 14 28 [bu,(pi 0),(pi 2),eH] aiL)
def aiN:PT:=
 (.call ⟨[],[]⟩ [] 13 80 [bW] aiM)
def aiO:PT:=
 (.call ⟨[(11,(au 8 (.setc (.con (.agg [(.list []),(.list []),(.list []),(.list []),(.list []),(.list []),(.list []),(.list [])])) 0 cR)))],[(1,(.setc (.con (.agg [(.list []),(.list []),(.list []),(.list []),(.list []),(.list []),(.list []),(.list [])])) 0 cR))]⟩ [] 12 81 [(pi 0)] aiN)
def aiP:PT:=
 (.call ⟨[],[]⟩ [] 10 79 [] aiO)
theorem aDc:Vt=aiP:=rfl
theorem aB3:ao T adr [] (.bool true):=by
 have k:=fun ay q c=>FH cW Xm ay q (lf c) (MX c);have k1:=k 0 2 0;have k2:=k 1 2 0;have k3:=k 1 2 1;have k4:=k 0 0 0;rw[aFo] at k1;rw[aFp] at k2;rw[aFq] at k3;obtain⟨g1,g2,g3⟩:=aFr;generalize dM cW 0 0 (lf 0)=S4 at*;obtain⟨⟨kn,nn⟩,oo,pp,ee⟩:=S4;simp only at g1;subst g1;have t4:=Am ⟨⟨kn,nn⟩,oo,pp,4⟩;have n4:=FI ⟨⟨kn,nn⟩,oo,pp,4⟩;rw[g2] at t4;rw[g3] at n4;have t1:=Am ⟨⟨true,1⟩,0,[0],0⟩;have t3:=Am ⟨⟨false,0⟩,1,[1],0⟩;have m:=fun ay day=>ajv cW Xm ai7 ay (gT 0) day (MX 0);have m1:=m 0 5;have m2:=m 1 5;have m3:=m 0 1;rw[aFt] at m1;rw[aFu] at m2;rw[aFv] at m3;have pl:=aj5 cW 1 (lf 0) (MX 0);rw[aFy] at pl;refine .of_tree rfl akE aDd ?_;rw[aDc];simp[aiP];refine⟨_,aFn,?_⟩;simp[aiO];refine⟨_,sA 0,?_⟩;simp[aiN];refine⟨_,zS (gT 0),?_⟩;simp[aiM];refine⟨_,k1,?_⟩;simp[aiL];refine⟨_,sA 0,?_⟩;simp[aiJ];refine⟨_,zS (gT 0),?_⟩;simp[aiI];refine⟨_,k2,?_⟩;simp[aiH];refine⟨_,sA 1,?_⟩;simp[aiG];refine⟨_,zS (gT 1),?_⟩;simp[aiF];refine⟨_,k3,?_⟩;simp[aiE];refine⟨_,sA 0,?_⟩;simp[aiD];refine⟨_,zS (gT 0),?_⟩;simp[aiC];refine⟨_,k4,?_⟩;simp[aiB];refine⟨_,Tx ⟨⟨true,1⟩,0,[0],0⟩ (by decide),?_⟩;simp[aiA];refine⟨_,Tx ⟨⟨true,1⟩,0,[1,0],0⟩ (by decide),?_⟩;simp[aiy];refine⟨_,Tx ⟨⟨false,0⟩,1,[1],0⟩ (by decide),?_⟩;simp[aix];refine⟨_,t4,?_⟩;simp[aiw];refine⟨_,n4,?_⟩;simp[aiv];refine⟨_,t1,?_⟩;simp[aiu];refine⟨_,t3,?_⟩;simp[ait];refine⟨_,sA 1,?_⟩;simp[ais];refine⟨_,zS (gT 1),?_⟩;simp[air];refine⟨_,aFw,?_⟩;simp[aiq];refine⟨_,Tw [17] (by decide),?_⟩;simp[aip];refine⟨_,sA 0,?_⟩;simp[aiV];refine⟨_,zS (gT 0),?_⟩;simp[aiU];refine⟨_,pl,?_⟩;simp[aiT];refine⟨_,Tw [1,0,1,0,0] (by decide),?_⟩;simp[aiS];refine⟨_,sA 0,?_⟩;simp[aiR];refine⟨_,m1,?_⟩;simp[aiQ];refine⟨_,sA 0,?_⟩;simp[aiK];refine⟨_,m2,?_⟩;simp[aiz];refine⟨_,sA 0,?_⟩;simp[aio];refine⟨_,m3,?_⟩;rfl
end Rm
namespace Rm
open Go Go.Proofs Cx
end Rm
namespace Rm
open Go Go.Proofs Cx
theorem aql {n:Nat}{f:Nat→Int}(h:eU n f=0)(k:Nat)(hk:k<n):f k=0:=OU.1 h k hk
theorem aoI {r:Realm}(h:kG r=0)(k:Nat)(hk:k<r.orders.length):pC r.orders[k]=true:=by
 unfold kG at h;rw[UK] at h;have h1:=h (eK (eF r) 20 (mS r)) (by simp);unfold eK at h1;split at h1
 ·cases h1
 have h2:=aql h1 k (by simpa [eF] using hk);have h3:=(Cc h2).2;unfold mS at h3;simpa [hk] using h3
theorem as6 {r:Realm}(hs:Small r)(h:kG r=0):zZ r:=by
 intro o ho;obtain⟨k,hk,rfl⟩:=nf ho;have h1:=aoI h k hk;obtain⟨hc,_⟩:=hs.order _ ho;refine⟨by omega,fun ch lH=>?_⟩;unfold pC at h1;simp only[ar] at h1;obtain⟨j,hj,rfl⟩:=nf lH;have h2:=xg.1 h1.1 j hj;simpa [aN,hj] using h2
theorem as7 {r:Realm}(hs:Small r)(h:kG r=0):w7 r:=by
 refine⟨by have:=hs.halts;omega,fun x hx=>?_⟩;obtain⟨k,hk,rfl⟩:=nf hx;unfold kG at h;rw[UK] at h;have h1:=h (nX r) (by simp);unfold nX at h1;split at h1
 ·cases h1
 split at h1
 ·cases h1
 split at h1
 ·cases h1
 split at h1
 ·rename_i aX;have h2:=xg.1 aX k hk;simp[s9,wi,aN,hk] at h2;omega
 ·cases h1
structure Good (r:Realm) (f:File):Prop where
 right:Right r
 rightD:RightD r
 few:FewS f
theorem as8 {r:Realm}{f:File}(hr:r.OK)(h:xM r f=true):Good r f:=by
 unfold xM rB at h;simp only[ar,decide_eq_true_eq] at h;obtain⟨⟨⟨h1,h2⟩,h3⟩,h4⟩:=h;have hs:=OQ hr h1;refine⟨⟨as6 hs h4,by have:=hs.orders;omega,fun o ho=>?_⟩,⟨hs,as7 hs h4⟩,?_⟩
 ·have:=hs.order o ho;refine⟨?_,by omega⟩;exact hr.2.2.2.2.1.2 o ho
 ·simp[B8] at h2;exact⟨by omega,by omega,by omega,by omega⟩
end Rm
namespace Rm
open Go Go.Proofs Cx
theorem al6 (r:Realm)(hr:r.OK)(f:File):ao T ado [bn r,cI f] (.bool (xM r f)):=by
 refine .of_tree rfl akB aC9 ?_;simp[Vq];refine⟨_,aBc r f hr,?_⟩;cases e1:rB r f
 ·simp[xM,e1]
 have hs:Small r:=OQ hr (by simp only[rB,ar] at e1;exact e1.1.1);simp;refine⟨_,aAX r hs,?_⟩;simp[xM,e1]
end Rm
namespace Rm
open Go Go.Proofs Cx
def iv (a b:Cell):Prop:=a.known=true→b=a
theorem iv.rfl' (a:Cell):iv a a:=fun _=>rfl
theorem iv.no (b:Cell):iv cV b:=fun h=>by cases h
def pZ (l l':List Cell):Prop:=l.length=l'.length∧∀i,iv (aR l i) (aR l' i)
theorem Zs {α:Type}(f:α→Cell)(l:List α)(i:Nat)(hi:i<l.length):aR (l.map f) i=f l[i]:=by
 simp[aR,hi]
theorem Zt (l:List Cell)(i:Nat)(hi:l.length≤i):aR l i=default:=by
 simp[aR,hi]
theorem pZ.map {α:Type}{f g:α→Cell}{l:List α}(h:∀a,a∈l→iv (f a) (g a)):pZ (l.map f) (l.map g):=by
 refine⟨by simp,fun i=>?_⟩;by_cases hi:i<l.length
 ·rw[Zs f l i hi,Zs g l i hi];exact h _ (de hi)
 ·rw[Zt _ i (by simpa using hi),Zt _ i (by simpa using hi)];exact .rfl' _
theorem aE9 {cs fW:List Cell}(h:pZ cs fW)(v:Int):iv (il cs v) (il fW v):=by
 intro hk;have hv:=h.2 v.toNat;unfold il at hk ⊢;unfold cellAt at hk ⊢;unfold aR at hv;by_cases h1:cs.length≤v.toNat∨(cs.getD v.toNat default).known=false
 ·rw[if_pos h1] at hk;cases hk
 ·have h2:(cs.getD v.toNat default).known=true:=by
   cases e:(cs.getD v.toNat default).known
   ·exact absurd (.inr e) h1
   ·rfl
  rw[hv h2,←h.1]
theorem ZA {l l':List Cell}(h:pZ l l')(op:Int):iv (eI op l) (eI op l'):=by
 intro hk;have h0:=h.2 0;have h1:=h.2 1;have h2:=h.2 2;unfold eI at hk ⊢;by_cases o3:op=3
 ·rw[if_pos o3] at hk ⊢;rw[if_pos o3];cases e:(aR l 0).known
  ·rw[e] at hk;cases hk
  ·rw[h0 e,e]
 rw[if_neg o3] at hk ⊢;rw[if_neg o3];by_cases o4:(op=4∨op=5)∧(aR l 0=dI (decide (op=5))∨aR l 1=dI (decide (op=5)))
 ·have o4':(op=4∨op=5)∧(aR l' 0=dI (decide (op=5))∨aR l' 1=dI (decide (op=5))):=by
   refine⟨o4.1,?_⟩;have hy:∀b,(dI b).known=true:=fun b=>by cases b<;>rfl
   rcases o4.2 with e|e
   ·exact .inl ((h0 (by rw[e];exact hy _)).trans e)
   ·exact .inr ((h1 (by rw[e];exact hy _)).trans e)
  rw[if_pos o4,if_pos o4']
 rw[if_neg o4] at hk ⊢;by_cases o6:op=6
 ·have o5:¬((op=4∨op=5)∧(aR l' 0=dI (decide (op=5))∨aR l' 1=dI (decide (op=5)))):=by omega
  rw[if_pos o6] at hk ⊢;rw[if_neg o5,if_pos o6];by_cases e:(aR l 1).known=true∧aR l 1=aR l 2
  ·have e1:=h1 e.1;have e2:=h2 (by rw[←e.2];exact e.1);rw[if_pos e,e1,e2,if_pos e]
  ·rw[if_neg e] at hk;cases hk
 rw[if_neg o6] at hk ⊢;by_cases ok:(aR l 0).known=false∨(aR l 1).known=false
 ·rw[if_pos ok] at hk;cases hk
 have k0:(aR l 0).known=true:=by cases e:(aR l 0).known<;>simp[e] at ok ⊢
 have k1:(aR l 1).known=true:=by cases e:(aR l 1).known<;>simp[e] at ok ⊢
 rw[h0 k0,h1 k1,if_neg o4,if_neg o6]
theorem ZX:∀{L:Nat} {t:Tm} {k:Int} {cs fW:List Cell},pZ cs fW→bT L t=(k,0)→iv (br L cs t) (br L fW t)
 |0,t,k,cs,fW,hc,h=>.no _
 |L+1,t,k,cs,fW,hc,h=>by
  obtain⟨hn,hk⟩:=G8 h;obtain⟨ha,_⟩:=G7 h;have ih:∀a,a∈t.args→iv (br L cs a) (br L fW a):=fun a hm=>ZX hc (show bT L a=((bT L a).1,0) by rw[←ha a hm]);have ir:∀(c:List Cell) a,a∈t.args→sI (bT L a).1 (br L c a):=fun c a hm=>OM c (show bT L a=((bT L a).1,0) by rw[←ha a hm]);have im:=pZ.map ih;rw[uX,uX];by_cases o0:t.op=0∨t.op=1
  ·rw[if_pos o0,if_pos o0];exact .rfl' _
  rw[if_neg o0,if_neg o0];by_cases o2:t.op=2
  ·rw[if_pos o2,if_pos o2];exact aE9 hc _
  rw[if_neg o2,if_neg o2];by_cases o6:t.op=6
  ·cases hn with
   |ite k h0 ct=>
    obtain⟨a,b,c,hl,e1,e2,e3⟩:=IA ct;rw[hl] at ih ir im ⊢;have r1:=ir fW a (by simp);rw[e1] at r1;have m1:=ih a (by simp);have m2:=ih b (by simp);have m3:=ih c (by simp);by_cases g:t.op=6∧(aR ([a,b,c].map (br L cs)) 0).known=true
    ·have e:aR ([a,b,c].map (br L fW)) 0=aR ([a,b,c].map (br L cs)) 0:=im.2 0 g.2;have g':t.op=6∧(aR ([a,b,c].map (br L fW)) 0).known=true:=⟨g.1,by rw[e];exact g.2⟩
     rw[if_pos g,if_pos g',e];exact im.2 _
    rw[if_neg g];by_cases g':t.op=6∧(aR ([a,b,c].map (br L fW)) 0).known=true
    ·rw[if_pos g'];intro pf;unfold eI at pf ⊢;rw[if_neg (by omega),if_neg (by omega),if_pos o6] at pf ⊢;simp only[gn,Ad,aR,sE,Ab] at pf g' ⊢;by_cases e:(br L cs b).known=true∧br L cs b=br L cs c
     ·rw[if_pos e];have q1:=m2 e.1;have q2:=m3 (by rw[←e.2];exact e.1);rcases(r1.2 g'.2).1 rfl with h1|h1<;>rw[h1]
      ·show br L fW c=_;rw[q2,e.2]
      ·show br L fW b=_;exact q1
     ·rw[if_neg e] at pf;cases pf
    ·rw[if_neg g'];exact ZA im _
   |_=>omega
  ·rw[if_neg (by omega),if_neg (by omega)];exact ZA im _
theorem ap9 {cs fW:List Cell}(h:pZ cs fW)(t:Tm):iv (mq cs t) (mq fW t):=by
 unfold mq;by_cases e:(ml t).2=0
 ·rw[if_pos e,if_pos e];exact ZX h (Zu e).2
 ·rw[if_neg e];exact .no _
theorem ajR {cs fW:List Cell}(h:pZ cs fW)(o:Order)(ask:Int):iv (nm o ask cs).1 (nm o ask fW).1∧(nm o ask fW).2=(nm o ask cs).2:=by
 unfold nm;by_cases e:(findF o ask).2≠0
 ·rw[if_pos e,if_pos e];exact⟨.rfl' _,rfl⟩
 rw[if_neg e,if_neg e];refine⟨?_,rfl⟩;intro hk;have hm:=ap9 h (findF o ask).1;simp only at hk ⊢;cases e2:(mq cs (findF o ask).1).known
 ·rw[e2] at hk;simp[e2] at hk
 ·rw[hm e2,e2]
structure SameF (f g:File):Prop where
 bill:g.bill=f.bill
 signs:g.signs=f.signs
 alters:g.alters=f.alters
 acts:g.acts=f.acts
theorem SameF.at_ {f g:File}(h:SameF f g)(day:Int):SameF (eP f day) (eP g day):=by
 obtain⟨h1,h2,h3,h4⟩:=h;constructor<;>simp[eP,h1,h2,h3,h4]
def fG (c:Case)(g:File):Case:={c with file:=g}
theorem aB2 {c:Case}{g:File}(h:SameF c.file g)(r:Realm)(s:Sign)(i:Nat):aR (qp r (fG c g) s) i=
 if i=15 then cn g 0 c.sign else if i=16 then cn g 1 c.sign else if i=17 then cn g 2 c.sign else if i=18 then cn g 3 (hH c) else if i=19 then cn g 4 (hH c) else aR (qp r c s) i:=by
 obtain⟨h1,h2,h3,h4⟩:=h
 have e:(qp r (fG c g) s)=(mW c s).map (fun p=>⟨true,p.2⟩)++(nZ r c s).map (fun p=>dI p.2)++
  [cn g 0 c.sign,cn g 1 c.sign,cn g 2 c.sign,cn g 3 (hH c),cn g 4 (hH c)]:=by
  simp[qp,fG,mW,nZ,hH,Nq,h1,h3,vO];exact⟨rfl,rfl,rfl,rfl⟩
 rw[e];unfold qp mW nZ;rcases i with _|_|_|_|_|_|_|_|_|_|_|_|_|_|_|_|_|_|_|_|i<;>simp[aR]
theorem ahG {c:Case}{g:File}(h:SameF c.file g)(r:Realm):(dV r (fG c g)=[]↔dV r c=[]):=by
 obtain⟨h1,h2,h3,h4⟩:=h;have e1:lE (fG c g)=lE c:=by simp[lE,fG,h2,hH];rfl
 unfold dV;rw[e1];simp only[fG,h2];split
 ·simp[qp,mW]
 ·simp
def XB (f g:File)(s h:Int):Prop:=(∀k,iv (cn f k s) (cn g k s))∧(∀k,iv (cn f k h) (cn g k h))
theorem aFb {c:Case}{g:File}(h:SameF c.file g)(hf:XB c.file g c.sign (hH c))(r:Realm):pZ (dV r c) (dV r (fG c g)):=by
 have e1:lE (fG c g)=lE c:=by simp[lE,fG,h.signs,hH];rfl
 unfold dV;rw[e1];simp only[show(fG c g).file.signs=c.file.signs from h.signs,show(fG c g).sign=c.sign from rfl];split
 ·generalize c.file.signs.getD c.sign.toNat default=s;refine⟨by simp[qp,mW,nZ],fun i=>?_⟩;rw[aB2 h r s i];have hs:∀j,j=15∨j=16∨j=17∨j=18∨j=19∨(j≠15∧j≠16∧j≠17∧j≠18∧j≠19):=by omega
  rcases hs i with e|e|e|e|e|⟨a,b,c',d,e⟩
  ·subst e;exact hf.1 0
  ·subst e;exact hf.1 1
  ·subst e;exact hf.1 2
  ·subst e;exact hf.2 3
  ·subst e;exact hf.2 4
  ·rw[if_neg a,if_neg b,if_neg c',if_neg d,if_neg e];exact .rfl' _
 ·exact⟨rfl,fun i=>.rfl' _⟩
theorem ahF {c:Case}{g:File}(h:SameF c.file g)(r:Realm)(ay:Int):gi r ay (fG c g)=gi r ay c:=by
 obtain⟨h1,h2,h3,h4⟩:=h;simp[gi,oI,kP,fG,ei,h1,h2]
theorem R4 (c:Case)(g:File):cQ (fG c g)=fG (cQ c) (eP g c.day):=rfl
theorem aj6 (r:Realm)(ay q:Int){c:Case}{g:File}(h:SameF c.file g)(hf:XB (eP c.file c.day) (eP g c.day) c.sign (hH c)):
 iv (dM r ay q c).cell (dM r ay q (fG c g)).cell∧(dM r ay q (fG c g)).err=(dM r ay q c).err:=by
 have hs:=h.at_ c.day;have hv:=aFb (c:=cQ c) hs hf r;have he:=ahG (c:=cQ c) hs r;have hp:=ahF (c:=cQ c) hs r ay;have e1:(df r ay q (fG c g)).1=(df r ay q c).1:=by
  unfold df;rw[R4];rw[hp];by_cases e:dV r (cQ c)=[]
  ·rw[if_pos e,if_pos (he.2 e)]
  ·rw[if_neg e,if_neg (fun x=>e (he.1 x))];split
   ·rfl
   split
   ·rfl
   rfl
 have e2:pZ (df r ay q c).2 (df r ay q (fG c g)).2:=by
  unfold df;rw[R4];rw[hp];by_cases e:dV r (cQ c)=[]
  ·rw[if_pos e,if_pos (he.2 e)];exact⟨rfl,fun i=>.rfl' _⟩
  ·rw[if_neg e,if_neg (fun x=>e (he.1 x))];split
   ·exact⟨rfl,fun i=>.rfl' _⟩
   split
   ·exact⟨rfl,fun i=>.rfl' _⟩
   exact hv
 unfold dM;rw[e1];split
 ·exact⟨.rfl' _,rfl⟩
 ·exact ajR e2 _ _
theorem aEO {a b:Said}(h:iv a.cell b.cell)(he:b.err=a.err)(hn:sv a≠2):sv b=sv a:=by
 unfold sv at*;rw[he];split
 ·rfl
 ·rename_i e;rw[if_neg e] at hn;cases hk:a.cell.known
  ·rw[hk] at hn;simp at hn
  ·rw[h hk,hk]
end Rm
namespace Rm
open Go Go.Proofs Cx
end Rm
namespace Rm
open Go Go.Proofs Cx
theorem Z0 (f:File)(day k s:Int):cn (eP f day) k s=if aN s (sw day f.signs).length=true then cn f k s else cV:=by
 unfold cn;have h:(eP f day).facts.find? (gF k s)=if aN s (sw day f.signs).length=true then f.facts.find? (gF k s) else none:=by
  show(f.facts.filter (kH (sw day f.signs).length)).find? (gF k s)=_;generalize (sw day f.signs).length=n
  induction f.facts with
  |nil=>simp
  |cons x l ih=>
   by_cases hx:gF k s x=true
   ·have hs:x.at_=s:=by simp[gF] at hx;exact hx.2
    by_cases hn:aN s n=true
    ·have:kH n x=true:=by unfold kH;rw[hs];exact hn
     simp[w8,this,hx,hn]
    ·have:¬kH n x=true:=by unfold kH;rw[hs];exact hn
     simp only[w8,if_neg this,ih,if_neg hn]
   ·by_cases hn:kH n x=true
    ·simp[w8,hn,hx,ih]
    ·simp[w8,hn,hx,ih]
 rw[h];by_cases hn:aN s (sw day f.signs).length=true
 ·rw[if_pos hn,if_pos hn]
 ·rw[if_neg hn,if_neg hn]
end Rm
namespace Rm
open Go Go.Proofs Cx
theorem aBa (f:File)(kind sign:Int)(hl:f.facts.length≤4294967295):ao T adM [cI f,.int kind,.int sign] (cH (cn f kind sign)):=by
 refine .of_tree rfl ak5 aDH ?_;simp[VV];refine .scan f.facts.length (fun k=>gF kind sign (f.facts.getD k default)=false) (fun k=>[.int k]) (fun _=>[cH cV]) ?_ (fun k hk hj ho=>?_) (fun k hk hj ho=>?_) (fun hj=>?_)
 ·simp
 ·have hw:=bx hk (by omega);simp[hk,gF] at ho;by_cases h1:f.facts[k].kind=kind<;>by_cases h2:f.facts[k].at_=sign
  ·exact absurd h2 (ho h1)
  all_goals simp[L3,zq,hk,hw,h1,h2]
 ·have hf:cn f kind sign=dI (decide (f.facts[k].n≠0)):=by
   unfold cn;rw[xG hk (by simpa [hk] using ho) (fun j bQ=>by have:=hj j bQ;simpa [show j<f.facts.length by omega] using this)]
  simp[hk,gF] at ho;by_cases hn:f.facts[k].n=0
  ·simp[L3,zq,hk,ho,hf,hn];rfl
  ·simp[L3,zq,hk,ho,hf,hn];rfl
 ·have hf:cn f kind sign=cV:=by
   unfold cn;rw[Ca (fun j bQ=>by have:=hj j bQ;simpa [bQ] using this)]
  simp[L3,zq,hf]
def gg (x y:Fact):Bool:=decide (y.at_<x.at_)||(decide (y.at_=x.at_)&&decide (y.kind<x.kind))
def gY (x y:Fact):Bool:=decide (x.at_<y.at_)||(decide (y.at_=x.at_)&&decide (x.kind<y.kind))
def pV (l:List Fact)(x:Fact):List Fact:=l.filter (gg x)++[x]++l.filter (gY x)
def jb (f:File)(x:Fact):File:=if(cn f x.kind x.at_).known=true then f else {f with facts:=pV f.facts x}
@[simp] theorem aLF (a0 a1 a2 a3 a4 a5 a6 a7 a8 a9 lu lx ly lz lC nj nk nl oH x:D):dU [a0,a1,a2,a3,a4,a5,a6,a7,a8,a9,lu,lx,ly,lz,lC,nj,nk,nl,oH] 18 [x]=[a0,a1,a2,a3,a4,a5,a6,a7,a8,a9,lu,lx,ly,lz,lC,nj,nk,nl,x]:=_root_.id rfl
@[simp] theorem aKW:D.none.cells=[D.none]:=_root_.id rfl
theorem ajD (f:File)(x:Fact)(hl:f.facts.length≤100000):ao T adO [cI f,ql x] (cI (jb f x)):=by
 refine .of_tree rfl ak7 aDJ ?_;simp[VX];refine⟨_,aBa f x.kind x.at_ (by omega),?_⟩;unfold jb;cases hk:(cn f x.kind x.at_).known
 case true=>simp[hk]
 simp[hk];refine aY.forRounds f.facts.length (fun k=>[.none,.int k]) (fun k=>[facts ((f.facts.take k).filter (gg x))]) ?_ (fun k hk=>?_) ?_
 ·simp[facts]
 ·have hw:=bx hk (by omega);rw[zI (gg x) f.facts hk];have hlen:((f.facts.take k).filter (gg x)).length≤k:=je (p7 _ _) (by simp;omega);generalize (f.facts.take k).filter (gg x)=A at*;cases hd:gg x f.facts[k]
  ·simp[gg] at hd;by_cases h2:f.facts[k].at_=x.at_
   ·simp[L4,zr,hk,hw,hd,h2];intro h;have:=hd.2 h2;omega
   ·simp[L4,zr,hk,hw,hd,h2];intro h;omega
  ·simp[gg] at hd;simp[L4,zr,hk,hw,hd];exact⟨by omega,by simp[facts]⟩
 ·have mC:=p7 (gg x) f.facts;simp[L4,zr];refine⟨by omega,?_⟩;refine aY.forRounds f.facts.length (fun k=>[.none,.int k]) (fun k=>[facts (f.facts.filter (gg x)++[x]++(f.facts.take k).filter (gY x))]) ?_ (fun k hk=>?_) ?_
  ·simp[facts]
  ·have hw:=bx hk (by omega);rw[zI (gY x) f.facts hk];have hlen:((f.facts.take k).filter (gY x)).length≤k:=je (p7 _ _) (by simp;omega);generalize (f.facts.take k).filter (gY x)=A at*;generalize f.facts.filter (gg x)=B at*;cases hd:gY x f.facts[k]
   ·simp[gY] at hd;by_cases h2:f.facts[k].at_=x.at_
    ·simp[L5,zt,hk,hw,hd,h2];intro h;have:=hd.2 h2;omega
    ·simp[L5,zt,hk,hw,hd,h2];intro h;omega
   ·simp[gY] at hd;simp[L5,zt,hk,hw,hd];exact⟨by omega,by simp[facts]⟩
  ·simp[L5,zt];have e:f.facts.filter (gg x)++x::f.facts.filter (gY x)=pV f.facts x:=by unfold pV;simp
   have e2:f.facts.filter (gg x)++[x]++f.facts.filter (gY x)=pV f.facts x:=rfl;simp only[e,e2];generalize pV f.facts x=L;rfl
end Rm
namespace Rm
open Go Go.Proofs Cx
theorem Z5 {α:Type}{p q:α→Bool}(h:∀y,p y=true→q y=true)(l:List α):(l.filter q).find? p=l.find? p:=by
 induction l with
 |nil=>rfl
 |cons y l ih=>
  cases hq:q y
  ·have hp:p y=false:=by
        cases e:p y
        ·rfl
        ·rw[h y e] at hq;cases hq
   rw[w8,if_neg (by simp[hq]),ih,M3,hp]
  ·rw[w8,if_pos hq,M3,M3,ih]
theorem Z6 {α:Type}{p q:α→Bool}(h:∀y,p y=true→q y=false)(l:List α):(l.filter q).find? p=none:=by
 rw[uH];intro y hy hp;have:=(dm.mp hy).2;rw[h y hp] at this;cases this
theorem ai3 (f:File)(x:Fact):SameF f (jb f x):=by
 unfold jb;split<;>exact⟨rfl,rfl,rfl,rfl⟩
theorem aFh (f:File)(x:Fact)(k s:Int):iv (cn f k s) (cn (jb f x) k s):=by
 unfold jb;by_cases hk:(cn f x.kind x.at_).known=true
 ·rw[if_pos hk];exact .rfl' _
 rw[if_neg hk];by_cases e:k=x.kind∧s=x.at_
 ·obtain⟨rfl,rfl⟩:=e;intro h;exact absurd h hk
 ·intro _;have hx:gF k s x=false:=by
   cases h:gF k s x
   ·rfl
   ·simp[gF] at h;exact absurd ⟨h.1.symm,h.2.symm⟩ e
  have hf:(pV f.facts x).find? (gF k s)=f.facts.find? (gF k s):=by
   unfold pV;rw[m9,XK,XK];have h1:[x].find? (gF k s)=none:=by simp[hx]
   rw[h1];have key:∀y,gF k s y=true→y.kind=k∧y.at_=s:=fun y hy=>by simpa [gF] using hy
   by_cases ah:s<x.at_∨(s=x.at_∧k<x.kind)
   ·rw[Z5 (q:=gg x) (fun y hy=>by obtain⟨rfl,rfl⟩:=key y hy;simpa [gg] using ah),Z6 (q:=gY x) (fun y hy=>by obtain⟨rfl,rfl⟩:=key y hy;simp[gY];omega)];cases f.facts.find? (gF k s)<;>rfl
   ·rw[Z6 (q:=gg x) (fun y hy=>by obtain⟨rfl,rfl⟩:=key y hy;simp[gg];omega),Z5 (q:=gY x) (fun y hy=>by obtain⟨rfl,rfl⟩:=key y hy;simp[gY];omega)];rfl
  unfold cn;rw[hf]
theorem aFg (l:List Fact)(x:Fact):(pV l x).length≤l.length+1:=by
 have h:(l.filter (gg x)).length+(l.filter (gY x)).length≤l.length:=by
  induction l with
  |nil=>simp
  |cons y l ih=>
   have hd:¬(gg x y=true∧gY x y=true):=by simp[gg,gY];omega
   cases h1:gg x y<;>cases h2:gY x y<;>simp[h1,h2] at hd ⊢<;>omega
 unfold pV;simp;omega
theorem aFi (f:File)(x:Fact):(jb f x).facts.length≤f.facts.length+1:=by
 unfold jb;split
 ·omega
 ·exact aFg _ _
structure MoreF (f g:File):Prop where
 same:SameF f g
 le:∀k s,iv (cn f k s) (cn g k s)
theorem MoreF.rfl' (f:File):MoreF f f:=⟨⟨rfl,rfl,rfl,rfl⟩,fun _ _=>.rfl' _⟩
theorem MoreF.with_ {f g:File}(h:MoreF f g)(x:Fact):MoreF f (jb g x):=by
 obtain⟨⟨h1,h2,h3,h4⟩,hl⟩:=h;obtain⟨k1,k2,k3,k4⟩:=ai3 g x;refine⟨⟨k1.trans h1,k2.trans h2,k3.trans h3,k4.trans h4⟩,fun k s hk=>?_⟩;have e:=hl k s hk;rw[aFh g x k s (by rw[e];exact hk),e]
theorem MoreF.at_ {f g:File}(h:MoreF f g)(day:Int):MoreF (eP f day) (eP g day):=by
 refine⟨h.same.at_ day,fun k s=>?_⟩;rw[Z0,Z0,h.same.signs];split
 ·exact h.le k s
 ·exact .no _
end Rm
namespace Rm
open Go Cx
end Rm
namespace Rm
open Go Go.Proofs Cx
def ahX (a b:Int):Prop:=a=2∨a=b
def lS (f:File)(x:Fact):Bool:=(decide (0≤x.kind)&&decide (x.kind<5))&&(decide (0≤x.at_)&&decide (x.at_<f.signs.length))&&(decide (0≤x.n)&&decide (x.n≤1))
def iz (f:File)(l:List Fact):File:=l.foldl (fun g x=>if lS g x=true then jb g x else g) f
theorem No (f:File)(l:List Fact):MoreF f (iz f l):=by
 have h:∀(l:List Fact) (g:File),MoreF f g→MoreF f (l.foldl (fun g x=>if lS g x=true then jb g x else g) g):=by
  intro l
  induction l with
  |nil=>exact fun g hg=>hg
  |cons x l ih=>
   intro g hg;refine ih _ ?_;show MoreF f (if lS g x=true then jb g x else g);split
   ·exact hg.with_ x
   ·exact hg
 exact h l f (.rfl' f)
theorem X3 (f:File)(l:List Fact):(iz f l).facts.length≤f.facts.length+l.length:=by
 have h:∀(l:List Fact) (g:File),(l.foldl (fun g x=>if lS g x=true then jb g x else g) g).facts.length≤g.facts.length+l.length:=by
  intro l
  induction l with
  |nil=>intro g;simp
  |cons x l ih=>
   intro g;have h1:=ih (if lS g x=true then jb g x else g);have h2:=aFi g x;simp only[Fw,ox];split at h1<;>rename_i hc
   ·rw[if_pos hc];omega
   ·rw[if_neg hc];omega
 exact h l f
theorem ajJ (f:File)(l:List Fact){k:Nat}(hk:k<l.length):iz f (l.take (k+1))=if lS (iz f (l.take k)) l[k]=true then jb (iz f (l.take k)) l[k] else iz f (l.take k):=by
 unfold iz;rw[mi hk,Fv];rfl
end Rm
namespace Rm
open Go Go.Proofs Cx
@[simp] theorem aKV:D.none.b=false:=_root_.id rfl
theorem eG (n a b:Int):ao T Dv [.int n,.int a,.int b] (.bool (wi n a b)):=by
 refine .of_tree rfl akN aDp ?_;simp[VE];by_cases h:a≤n<;>simp[wi,h]
theorem m5 (n m:Int):ao T aez [.int n,.int m] (.bool (aN n m)):=by
 refine .of_tree rfl alZ aEM ?_;simp[WV];by_cases h:0≤n<;>simp[aN,h]
def MC (b:Bill):Bool:=
 if b.tenor.kind=0∨b.tenor.kind=4 then decide (b.tenor.n=0)&&decide (b.tenor.unit=0)
 else if b.tenor.kind=1∨b.tenor.kind=2 then(decide (1≤b.tenor.n)&&decide (b.tenor.n≤400))&&(decide (b.tenor.unit=0)||decide (b.tenor.unit=1))
 else if b.tenor.kind=3 then(decide (b.day≤b.tenor.n)&&decide (b.tenor.n≤100000))&&decide (b.tenor.unit=0)
 else false
theorem aFk (b:Bill):ao T aeA [dN b] (.bool (MC b)):=by
 refine .of_tree rfl al0 aEN ?_;unfold MC;simp[WW];by_cases h0:b.tenor.kind=0
 ·by_cases h1:b.tenor.n=0<;>simp[h0,h1]
 by_cases h4:b.tenor.kind=4
 ·by_cases h1:b.tenor.n=0<;>simp[h4,h1]
 simp[h0,h4];by_cases k1:b.tenor.kind=1
 ·by_cases h1:1≤b.tenor.n<;>by_cases h2:b.tenor.n≤400<;>by_cases h3:b.tenor.unit=0<;>simp[k1,h1,h2,h3]
 by_cases k2:b.tenor.kind=2
 ·by_cases h1:1≤b.tenor.n<;>by_cases h2:b.tenor.n≤400<;>by_cases h3:b.tenor.unit=0<;>simp[k2,h1,h2,h3]
 simp[k1,k2];by_cases k3:b.tenor.kind=3
 ·by_cases h1:b.day≤b.tenor.n<;>by_cases h2:b.tenor.n≤100000<;>simp[k3,h1,h2]
 simp[k3]
def rU (n m:Int):Bool:=decide (n=-1)||aN n m
def wQ (r:Realm)(b:Bill):Bool:=((aN b.drawer r.firms.length&&aN b.drawee r.firms.length)&&rU b.payee r.firms.length)&&rU b.need r.firms.length
def uy (r:Realm)(b:Bill):Bool:=(aN b.currency r.currencies.length&&aN b.city r.cities.length)&&aN b.pay r.cities.length
def D6 (b:Bill):Prop:=((((1≤b.sum∧b.sum≤1099511627776)∧0≤b.day)∧b.day≤100000)∧0≤b.rate)∧b.rate≤1000
def O0 (b:Bill):Prop:=((0≤b.flags∧b.flags≤7)∧(dp .and .i64 b.flags 4=0∨¬b.payee=-1))∧MC b=true
structure BillOK (r:Realm) (b:Bill):Prop where
 realm:kG r=0
 who:wQ r b=true
 where_:uy r b=true
 range:D6 b
 parts:1≤b.parts∧b.parts≤4
 form:O0 b
 usance:b.tenor.kind=4→∃u,u∈r.usances∧u.fr=b.city∧u.to=b.pay
def ou (P:Prop)(d:D):Prop:=∃e:Int,d=.int e∧(e=0↔P)
theorem ou.no {P:Prop}{e:Int}(h:¬P)(he:e≠0):ou P (.int e):=⟨e,rfl,fun x=>absurd x he,fun x=>absurd x h⟩
theorem ou.ok {P:Prop}(h:P):ou P (.int 0):=⟨0,rfl,fun _=>h,fun _=>rfl⟩
theorem aFj (r:Realm)(hs:Small r)(b:Bill):∃d,ao T aey [bn r,dN b] d∧ou (BillOK r b) d:=by
 refine ao.ex_of_tree rfl alY aEL ?_;simp[WU];refine⟨_,Uy r hs,?_⟩;by_cases h0:kG r=0
 case neg=>
  simp[h0];exact .no (fun h=>h0 h.realm) h0
 simp[h0];refine⟨_,m5 _ _,?_⟩;cases h1:aN b.drawer r.firms.length
 ·simp;exact .no (fun h=>by simpa [wQ,h1] using h.who) (by decide)
 simp;refine⟨_,m5 _ _,?_⟩;cases h2:aN b.drawee r.firms.length
 ·simp;exact .no (fun h=>by simpa [wQ,h2] using h.who) (by decide)
 by_cases h3:rU b.payee r.firms.length=true
 case neg=>
  have eW:¬b.payee=-1∧aN b.payee r.firms.length=false:=by simpa [rU] using h3
  simp[eW.1];refine⟨_,m5 _ _,?_⟩;simp[eW.2];exact .no (fun h=>h3 (by have:=h.who;simp[wQ] at this;exact this.1.2)) (by decide)
 by_cases h4:rU b.need r.firms.length=true
 case neg=>
  have oW:¬b.need=-1∧aN b.need r.firms.length=false:=by simpa [rU] using h4
  have dY:ou (BillOK r b) (.int 1):=.no (fun h=>h4 (by have:=h.who;simp[wQ] at this;exact this.2)) (by decide);by_cases hp:b.payee=-1
  ·simp[hp,oW.1];refine⟨_,m5 _ _,?_⟩;simp[oW.2];exact dY
  ·have eW:aN b.payee r.firms.length=true:=by simpa [rU,hp] using h3
   simp[hp];refine⟨_,m5 _ _,?_⟩;simp[eW,oW.1];refine⟨_,m5 _ _,?_⟩;simp[oW.2];exact dY
 have Il:wQ r b=true:=by simp[wQ,h1,h2,h3,h4]
 have hp:b.payee=-1∨(¬b.payee=-1∧aN b.payee r.firms.length=true):=by
  by_cases e:b.payee=-1
  ·exact .inl e
  ·exact .inr ⟨e,by simpa [rU,e] using h3⟩
 have hn:b.need=-1∨(¬b.need=-1∧aN b.need r.firms.length=true):=by
  by_cases e:b.need=-1
  ·exact .inl e
  ·exact .inr ⟨e,by simpa [rU,e] using h4⟩
 have bad:¬uy r b=true→ou (BillOK r b) (.int 1):=fun h=>.no (fun k=>h k.where_) (by decide);have fin:∀u:Int,(u=0↔∃u,u∈r.usances∧u.fr=b.city∧u.to=b.pay)→D6 b→(1≤b.parts∧b.parts≤4)→O0 b→uy r b=true→ou (BillOK r b) (if b.tenor.kind=4 then .int u else .int 0):=by
  intro u hu h6 h7 h8 h9;by_cases e:b.tenor.kind=4
  ·rw[if_pos e];exact⟨u,rfl,fun h=>⟨h0,Il,h9,h6,h7,h8,fun _=>hu.1 h⟩,fun h=>hu.2 (h.usance e)⟩
  ·rw[if_neg e];exact .ok ⟨h0,Il,h9,h6,h7,h8,fun h=>absurd h e⟩
 obtain⟨un,ue,hu1,_,hu2⟩:=XZ r b.city b.pay (by have:=hs.us;omega);rcases hp with hp|⟨hp,fa⟩<;>rcases hn with hn|⟨hn,ph⟩
 case' inl.inl=>simp[hp,hn]
 case' inl.inr=>simp[hp,hn];refine⟨_,m5 _ _,?_⟩;simp[ph]
 case' inr.inl=>simp[hp,hn];refine⟨_,m5 _ _,?_⟩;simp[fa]
 case' inr.inr=>simp[hp,hn];refine⟨_,m5 _ _,?_⟩;simp[fa];refine⟨_,m5 _ _,?_⟩;simp[ph]
 all_goals
  refine⟨_,m5 _ _,?_⟩;cases h5:aN b.currency r.currencies.length
  ·simp;exact bad (by simp[uy,h5])
  simp;refine⟨_,m5 _ _,?_⟩;cases h6:aN b.city r.cities.length
  ·simp;exact bad (by simp[uy,h6])
  simp;refine⟨_,m5 _ _,?_⟩;cases h7:aN b.pay r.cities.length
  ·simp;exact bad (by simp[uy,h7])
  have De:uy r b=true:=by simp[uy,h5,h6,h7]
  simp;by_cases h8:D6 b
  case neg=>
   have O5:((((b.sum<1∨1099511627776<b.sum)∨b.day<0)∨100000<b.day)∨b.rate<0)∨1000<b.rate:=by unfold D6 at h8;omega
   rw[if_pos O5];exact .no (fun k=>h8 k.range) (by decide)
  have O5:¬(((((b.sum<1∨1099511627776<b.sum)∨b.day<0)∨100000<b.day)∨b.rate<0)∨1000<b.rate):=by unfold D6 at h8;omega
  rw[if_neg O5];by_cases h9:1≤b.parts∧b.parts≤4
  case neg=>
   rw[if_pos (by omega)];exact .no (fun k=>h9 k.parts) (by decide)
  rw[if_neg (by omega)];have NC:¬O0 b→ou (BillOK r b) (.int 2):=fun h=>.no (fun k=>h k.form) (by decide);by_cases g1:0≤b.flags∧b.flags≤7
  case neg=>
   have eV:b.flags<0∨7<b.flags:=by omega
   simp[g1,eV];exact NC (fun h=>g1 h.1.1)
  have eV:¬(b.flags<0∨7<b.flags):=by omega
  by_cases g2:dp .and .i64 b.flags 4=0∨¬b.payee=-1
  case neg=>
   have nu:¬dp .and .i64 b.flags 4=0∧b.payee=-1:=by simpa using g2
   first
        |exact absurd nu.2 hp
        |(simp[g1,eV,nu]
          exact NC (fun h=>g2 h.1.2))
  have g3:(b.payee=-1→dp .and .i64 b.flags 4=0):=fun e=>g2.resolve_right (fun h=>h e);simp[g1,eV,hp,g3];refine⟨_,aFk b,?_⟩;cases nv:MC b
  ·simp;exact NC (fun h=>by have:=h.2;rw[nv] at this;cases this)
  have hf:=fin ue hu2 h8 h9 ⟨⟨g1,g2⟩,nv⟩ De;simp;by_cases e:b.tenor.kind=4
  ·simp[e] at hf ⊢;exact⟨_,hu1,hf⟩
  ·simp[e] at hf ⊢;exact hf
end Rm
namespace Rm
open Go Go.Proofs Cx
def zG (f:File)(i part:Int):Bool:=decide (i=0)||decide ((ei f i).part=part)
theorem age (f:File)(i part:Int)(h:i=0∨(0≤i∧i<f.signs.length)):ao T adz [cI f,.int i,.int part] (.bool (zG f i part)):=by
 refine .of_tree rfl akP aDr ?_;unfold zG;by_cases h0:i=0
 ·simp[ML,h0]
 ·obtain⟨h1,h2⟩:=h.resolve_left h0;have h3:i.toNat<f.signs.length:=by omega
  simp[ML,h0,h1,h2,h3,ei]
def FN (f:File)(i:Int)(kinds:List Int):Bool:=wi (ei f i).for_ 0 (i-1)&&(zG f (ei f i).for_ (ei f i).part&&hasB kinds (ei f (ei f i).for_).kind)
theorem aAF (f:File)(i:Int)(kinds:List Int)(h:0≤i∧i<f.signs.length)(hl:f.signs.length≤100000)(hk:kinds.length≤100):ao T adv [cI f,.int i,ints kinds] (.bool (FN f i kinds)):=by
 refine .of_tree rfl akK aDm ?_;have h1:i.toNat<f.signs.length:=by omega
 have hw:IntKind.i64.wrap (i-1)=i-1:=bU (by omega);have hs:ei f i=f.signs[i.toNat]:=by simp[ei,h1]
 unfold FN;rw[hs];simp[VB,h,h1,hw];refine⟨_,eG _ _ _,?_⟩;cases hb:wi f.signs[i.toNat].for_ 0 (i-1)
 ·simp
 ·have bI:0≤f.signs[i.toNat].for_∧f.signs[i.toNat].for_<f.signs.length:=by
   simp[wi] at hb;omega
  have h2:f.signs[i.toNat].for_.toNat<f.signs.length:=by omega
  have eB:ei f f.signs[i.toNat].for_=f.signs[f.signs[i.toNat].for_.toNat]:=by simp[ei,h2]
  rw[eB];simp;refine⟨_,age f _ _ (.inr bI),?_⟩;cases cP:zG f f.signs[i.toNat].for_ f.signs[i.toNat].part
  ·simp
  simp[bI,h2];exact uC kinds _ (by omega)
def aaa (r:Realm)(b:Bill)(s:Sign)(B:List Int→Bool):Bool:=
 if s.kind=0 then((((decide (s.who=b.drawer)&&decide (s.sum=0))&&decide (dp .or .i64 s.flags 1=1))&&decide (s.part=0))&&decide (s.day=b.day))&&decide (s.city=b.city)
 else if s.kind=1 then decide (s.who=b.drawee)&&(wi s.sum 1 1099511627776&&decide (s.flags=0))
 else if s.kind=2 then((wi s.to (-1) ((r.firms.length:Int)-1)&&decide (s.sum=0))&&wi s.flags 0 7)&&decide (dp .and .i64 s.flags 6≠6)
 else if s.kind=3 then(decide (s.sum=0)&&decide (s.flags=0))&&B [0,1,2,4]
 else if s.kind=4 then((wi s.sum 1 1099511627776&&decide (s.flags=0))&&decide (s.who≠b.drawee))&&B [0,2]
 else false
def OX (r:Realm)(b:Bill)(i:Nat)(s:Sign)(B:List Int→Bool):Bool:=
 if ¬(i=0↔s.kind=0)∨(¬s.kind=2∧¬s.to=-1) then false
 else if(¬s.kind=3∧¬s.kind=4)∧¬s.for_=-1 then false
 else aaa r b s B
def Hj (r:Realm)(f:File)(i:Nat):Bool:=OX r f.bill i (f.signs.getD i default) (FN f i)
theorem aAH (r:Realm)(hr:Small r)(f:File)(i:Nat)(h:i<f.signs.length)(hl:f.signs.length≤100000):ao T adx [bn r,cI f,.int i] (.bool (Hj r f i)):=by
 refine .of_tree rfl akM aDo ?_;have nz:=hr.firms;have hw:IntKind.i64.wrap ((r.firms.length:Int)-1)=(r.firms.length:Int)-1:=bU (by omega);have hs:f.signs.getD i default=f.signs[i]:=by simp[h]
 have Pg:=fun ks hk=>aAF f i ks ⟨by omega,by omega⟩ hl hk;unfold Hj;rw[hs];generalize hB:FN f i=B at Pg ⊢;generalize hX:OX r f.bill i f.signs[i] B=X;simp[VD,h];generalize f.signs[i]=s at*;unfold OX at hX;by_cases h1:¬(i=0↔s.kind=0)∨(¬s.kind=2∧¬s.to=-1)
 ·rw[if_pos h1] at hX ⊢;exact hX.symm
 rw[if_neg h1] at hX ⊢;by_cases h2:(¬s.kind=3∧¬s.kind=4)∧¬s.for_=-1
 ·rw[if_pos h2] at hX ⊢;exact hX.symm
 rw[if_neg h2] at hX ⊢;refine⟨_,eG _ _ _,?_⟩;unfold aaa at hX;by_cases k0:s.kind=0
 ·rw[if_pos k0] at hX ⊢;rw[←hX];by_cases a:(((s.who=f.bill.drawer∧s.sum=0)∧dp BinOp.or IntKind.i64 s.flags 1=1)∧s.part=0)∧s.day=f.bill.day
  ·simp[a]
  ·rw[if_neg a]
   congr 1
   rw[eq_comm,Xx];intro e;simp at e;exact a e.1
 rw[if_neg k0] at hX ⊢;by_cases k1:s.kind=1
 ·rw[if_pos k1] at hX ⊢;rw[←hX];by_cases a:s.who=f.bill.drawee<;>cases wi s.sum 1 1099511627776<;>simp[a]
 rw[if_neg k1] at hX ⊢;by_cases k2:s.kind=2
 ·rw[if_pos k2] at hX ⊢;rw[←hX,hw];refine⟨_,eG _ _ _,?_⟩;cases wi s.to (-1) ((r.firms.length:Int)-1)
  ·simp
  by_cases a:s.sum=0
  case neg=>simp[a]
  simp[a];refine⟨_,eG _ _ _,?_⟩;cases wi s.flags 0 7<;>simp
 rw[if_neg k2] at hX ⊢;by_cases k3:s.kind=3
 ·rw[if_pos k3] at hX ⊢;rw[←hX];by_cases a:s.sum=0∧s.flags=0
  case neg=>
   rw[if_neg a,if_neg a]
   congr 1
   rw[eq_comm,Xx];intro e;simp at e;exact a e.1
  rw[if_pos a];refine⟨_,Pg [0,1,2,4] (by decide),?_⟩;simp[a]
 rw[if_neg k3] at hX ⊢;by_cases k4:s.kind=4
 ·rw[if_pos k4] at hX ⊢;rw[←hX];cases wi s.sum 1 1099511627776
  ·simp
  by_cases a:s.flags=0∧¬s.who=f.bill.drawee
  case neg=>
   simp[a]
  simp[a];exact Pg [0,2] (by decide)
 rw[if_neg k4] at hX ⊢;exact hX.symm
end Rm
namespace Rm
open Go Go.Proofs Cx
def sV (f:File)(i:Nat):Int:=if i=0 then f.bill.day else(f.signs.getD (i-1) default).day
def MT (f:File)(i:Nat)(s:Sign):Bool:=(f.signs.take i).any fun x=>(decide (s.kind=1)&&decide (x.kind=1))&&decide (x.part=s.part)
def E7 (r:Realm)(f:File)(i:Nat):Int:=
 let s:=f.signs.getD i default
 if wi s.part 0 (f.bill.parts-1)=false then 15
 else if aN s.who r.firms.length=false∨aN s.city r.cities.length=false then 1
 else if wi s.day (sV f i) 100000=false∨(i=0∧¬s.day=sV f i) then 13
 else if Hj r f i=false then 14
 else if MT f i s=true then 5 else 0
theorem agd (r:Realm)(hr:Small r)(f:File)(hp:1≤f.bill.parts∧f.bill.parts≤4)(i:Nat)(h:i<f.signs.length)(hl:f.signs.length≤100000):ao T ady [bn r,cI f,.int i] (.int (E7 r f i)):=by
 refine .of_tree rfl akO aDq ?_;have nz:=hr.firms;have Po:=hr.cities;have iT:IntKind.i64.wrap ((r.firms.length:Int)-1)=(r.firms.length:Int)-1:=bU (by omega);have dz:IntKind.i64.wrap ((r.cities.length:Int)-1)=(r.cities.length:Int)-1:=bU (by omega);have QB:IntKind.i64.wrap (f.bill.parts-1)=f.bill.parts-1:=bU (by omega);have hs:f.signs.getD i default=f.signs[i]:=by simp[h]
 generalize hX:E7 r f i=X;unfold E7 at hX;simp only[hs] at hX;simp[VF,h,iT,dz,QB];refine⟨_,eG _ _ _,?_⟩;cases a1:wi f.signs[i].part 0 (f.bill.parts-1)
 ·simpa [a1] using hX
 simp[a1] at hX ⊢;refine⟨_,eG _ _ _,?_⟩;rw[mI] at hX;cases a2:wi f.signs[i].who 0 ((r.firms.length:Int)-1)
 ·simpa [a2] using hX
 simp[a2] at hX ⊢;refine⟨_,eG _ _ _,?_⟩;rw[mI] at hX;cases a3:wi f.signs[i].city 0 ((r.cities.length:Int)-1)
 ·simpa [a3] using hX
 simp[a3] at hX ⊢;refine⟨by omega,?_⟩;have H4:min i f.signs.length=i:=by omega
 refine aY.forRounds i (fun k=>[.int (sV f k),.bool ((f.signs.take k).any fun x=>(decide (f.signs[i].kind=1)&&decide (x.kind=1))&&decide (x.part=f.signs[i].part)),.int k]) (fun _=>[]) ?_ (fun k hk=>?_) ?_
 ·simp[sV]
 ·have hw:=bx hk (by omega);have bz:k<f.signs.length:=by omega
  have hf:sV f (k+1)=f.signs[k].day:=by simp[sV,bz]
  rw[mi bz,List.any_append];generalize ((f.signs.take k).any fun x=>(decide (f.signs[i].kind=1)&&decide (x.kind=1))&&decide (x.part=f.signs[i].part))=A;simp[ag8,LZ,hk,bz,h,hw,hf,H4];cases A
  ·by_cases e1:f.signs[i].kind=1<;>by_cases e2:f.signs[k].kind=1<;>simp[e1,e2]
  ·simp
 ·have ht:MT f i f.signs[i]=true↔∃x,x∈List.take i f.signs∧(f.signs[i].kind=1∧x.kind=1)∧x.part=f.signs[i].part:=by simp[MT]
  simp[ag8,LZ,H4,h];refine⟨_,eG _ _ _,?_⟩;by_cases a4:wi f.signs[i].day (sV f i) 100000=false∨(i=0∧¬f.signs[i].day=sV f i)
  ·rw[if_pos a4] at hX;rw[if_pos (by simpa using a4)];exact hX
  rw[if_neg a4] at hX;rw[if_neg (by simpa using a4)];refine⟨_,aAH r hr f i h hl,?_⟩;cases a5:Hj r f i
  ·simpa [a5] using hX
  simp[a5] at hX;simp only[ao8,if_true];rw[←hX];by_cases a6:MT f i f.signs[i]=true
  ·rw[if_pos a6,if_pos (ht.1 a6)]
  ·rw[if_neg a6,if_neg (fun x=>a6 (ht.2 x))]
def FD (a:Act)(to at_ own:Bool):Bool:=
 if a.kind=0∨a.kind=1∨a.kind=2 then(to&&decide (a.at_=-1))&&decide (a.sum=0)
 else if a.kind=3∨a.kind=4∨a.kind=5 then((to&&decide (a.at_=-1))&&wi a.sum 0 1099511627776)&&wi a.form 0 1
 else if a.kind=6 then(to&&own)&&wi a.sum 1 1099511627776
 else if a.kind=9 then(decide (a.to=-1)&&own)&&decide (a.sum=0)
 else(decide (a.to=-1)&&at_)&&decide (a.sum=0)
def An (f:File)(a:Act):Bool:=aN a.at_ f.signs.length&&zG f a.at_ a.part
def SM (f:File)(a:Act):Bool:=An f a&&decide ((ei f a.at_).who=a.who)
def sK (r:Realm)(f:File)(a:Act):Bool:=
 if aN a.who r.firms.length=false∨(¬a.kind=4∧¬a.form=0) then false else FD a (aN a.to r.firms.length) (An f a) (SM f a)
theorem aAD (r:Realm)(hr:Small r)(f:File)(a:Act)(hl:f.signs.length≤100000):ao T adt [bn r,cI f,ji a] (.bool (sK r f a)):=by
 refine .of_tree rfl akI aDk ?_;have nz:=hr.firms;have iT:IntKind.i64.wrap ((r.firms.length:Int)-1)=(r.firms.length:Int)-1:=bU (by omega);have dz:IntKind.i64.wrap ((f.signs.length:Int)-1)=(f.signs.length:Int)-1:=bU (by omega);generalize hX:sK r f a=X;unfold sK SM An at hX;simp[Vz,iT,dz];refine⟨_,eG _ _ _,?_⟩;rw[←mI];have vE:=eG a.to 0 ((r.firms.length:Int)-1);have De:=eG a.who 0 ((r.firms.length:Int)-1);rw[←mI] at vE De;generalize aN a.to r.firms.length=tt at*;generalize aN a.who r.firms.length=ww at*;have fin:∀at_ own:Bool,(if ww=false∨(¬a.kind=4∧¬a.form=0) then false else FD a tt at_ own)=X→
  if ww=false∨(¬a.kind=4∧¬a.form=0) then X=false
  else if a.kind=0∨a.kind=1∨a.kind=2 then(if tt=true∧a.at_=-1 then D.bool (decide (a.sum=0)) else D.bool false)=D.bool X
  else if a.kind=3∨a.kind=5∨a.kind=4 then
        if tt=true∧a.at_=-1 then
         ∃d,ao (cD tab ext) Dv [D.int a.sum,D.int 0,D.int 1099511627776] d∧
          if(tt=true∧a.at_=-1)∧d.b=true then
             ∃BR,ao (cD tab ext) Dv [D.int a.form,D.int 0,D.int 1] BR∧(if(tt=true∧a.at_=-1)∧d.b=true then BR else D.bool false)=D.bool X
          else(if(tt=true∧a.at_=-1)∧d.b=true then D.none else D.bool false)=D.bool X
        else D.bool false=D.bool X
  else if a.kind=6 then
        if tt=true∧own=true then ∃BR,ao (cD tab ext) Dv [D.int a.sum,D.int 1,D.int 1099511627776] BR∧(if tt=true∧own=true then BR else D.bool false)=D.bool X
        else(if tt=true∧own=true then D.none else D.bool false)=D.bool X
  else if a.kind=9 then(if a.to=-1∧own=true then D.bool (decide (a.sum=0)) else D.bool false)=D.bool X
  else(if a.to=-1∧at_=true then D.bool (decide (a.sum=0)) else D.bool false)=D.bool X:=by
  intro at_ own hX;by_cases p:ww=false∨(¬a.kind=4∧¬a.form=0)
  ·rw[if_pos p] at hX ⊢;exact hX.symm
  rw[if_neg p] at hX ⊢;unfold FD at hX;by_cases k0:a.kind=0∨a.kind=1∨a.kind=2
  ·rw[if_pos k0] at hX ⊢;rw[←hX];by_cases e:tt=true∧a.at_=-1
   ·simp[e]
   ·rw[if_neg e];cases tt<;>simp at e ⊢;simp[e]
  rw[if_neg k0] at hX ⊢;by_cases k3:a.kind=3∨a.kind=4∨a.kind=5
  ·rw[if_pos k3] at hX;rw[if_pos (by omega),←hX];by_cases e:tt=true∧a.at_=-1
   ·rw[if_pos e];refine⟨_,eG _ _ _,?_⟩;cases wi a.sum 0 1099511627776
    ·simp
    ·simp[e];exact eG _ _ _
   ·rw[if_neg e];cases tt<;>simp at e ⊢;simp[e]
  rw[if_neg k3] at hX;rw[if_neg (by omega)];by_cases k6:a.kind=6
  ·rw[if_pos k6] at hX ⊢;rw[←hX];by_cases e:tt=true∧own=true
   ·rw[if_pos e];refine⟨_,eG _ _ _,?_⟩;simp[e]
   ·rw[if_neg e,if_neg e];cases tt<;>cases own<;>simp at e ⊢
  rw[if_neg k6] at hX ⊢;by_cases k9:a.kind=9
  ·rw[if_pos k9] at hX ⊢;rw[←hX];cases own<;>by_cases e:a.to=-1<;>simp[e]
  rw[if_neg k9] at hX ⊢;rw[←hX];cases at_<;>by_cases e:a.to=-1<;>simp[e]
 cases h1:aN a.at_ f.signs.length
 ·have hf:=fin false false (by simpa [h1] using hX);simp at hf ⊢;refine⟨_,vE,_,De,?_⟩;simpa using hf
 have cE:0≤a.at_∧a.at_<f.signs.length:=by simpa [aN] using h1
 have h2:a.at_.toNat<f.signs.length:=by omega
 have hs:ei f a.at_=f.signs[a.at_.toNat]:=by simp[ei,h2]
 simp[cE];refine⟨_,age f _ _ (.inr cE),_,vE,_,De,?_⟩;rw[h1,hs] at hX;have hf:=fin _ _ hX;cases h3:zG f a.at_ a.part
 ·rw[h3] at hf;simpa using hf
 ·rw[h3] at hf;simpa [h2] using hf
theorem IG (a b:Int):(if a<b then b else a)=max a b:=by split<;>omega
theorem Rx (a b:Int):(if a<b then D.int b else D.int a)=D.int (max a b):=by
 rw[←IG];split<;>rfl
def Rj (f:File)(i:Nat)(a:Act):Int:=
 let x:=if a.at_=-1 then f.bill.day else max f.bill.day (ei f a.at_).day
 if i=0 then x else max x (f.acts.getD (i-1) default).day
def sL (r:Realm)(f:File)(i:Nat):Int:=
 let a:=f.acts.getD i default
 if wi a.part 0 (f.bill.parts-1)=false then 15
 else if aN a.city r.cities.length=false∨wi a.kind 0 9=false then 1
 else if sK r f a=false then 14
 else if wi a.day (Rj f i a) 100000=false then 13 else 0
theorem X2 {r:Realm}{f:File}{a:Act}(h:sK r f a=true)(hn:¬a.at_=-1):0≤a.at_∧a.at_<f.signs.length:=by
 unfold sK at h;split at h
 ·cases h
 have key:An f a=true→0≤a.at_∧a.at_<f.signs.length:=fun e=>by
  unfold An at e;simp only[ar] at e;simpa [aN] using e.1
 unfold FD SM at h
 repeat' split at h
 all_goals simp only[ar,decide_eq_true_eq] at h
 ·exact absurd h.1.2 hn
 ·exact absurd h.1.1.2 hn
 ·exact key h.1.2.1
 ·exact key h.1.2.1
 ·exact key h.1.2
theorem aAE (r:Realm)(hr:Small r)(f:File)(hp:1≤f.bill.parts∧f.bill.parts≤4)(hl:f.signs.length≤100000)(vm:f.acts.length≤100000):ao T adu [bn r,cI f] (.int (eU f.acts.length (sL r f))):=by
 refine .of_tree rfl akJ aDl ?_;have Po:=hr.cities;have dz:IntKind.i64.wrap ((r.cities.length:Int)-1)=(r.cities.length:Int)-1:=bU (by omega);have QB:IntKind.i64.wrap (f.bill.parts-1)=f.bill.parts-1:=bU (by omega);simp[VA];refine oc f.acts.length (sL r f) (fun k=>[.int 0,.int k]) (fun _=>[]) ?_ (fun k hk ho=>?_) (fun k hk ho hb=>?_) (fun hj=>?_)
 ·simp
 case' refine_2=>have hb:sL r f k=sL r f k:=rfl
 case' refine_3=>rw[hb]
 case refine_4=>simp[ag6,LX,hj]
 all_goals
  have hw:=bx hk (by omega);have hs:f.acts.getD k default=f.acts[k]:=by simp[hk]
  clear hb;generalize hX:sL r f k=X at*;unfold sL at hX;simp only[hs] at hX;simp[ag6,LX,hk,dz,QB,hw];refine⟨_,eG _ _ _,?_⟩;cases a1:wi f.acts[k].part 0 (f.bill.parts-1)
  ·simp[a1] at hX ⊢
   first|exact hX|(exfalso;omega)
  simp[a1] at hX ⊢;refine⟨_,eG _ _ _,?_⟩;rw[mI] at hX;cases a2:wi f.acts[k].city 0 ((r.cities.length:Int)-1)
  ·simp[a2] at hX ⊢
   first|exact hX|(exfalso;omega)
  simp[a2] at hX ⊢;refine⟨_,eG _ _ _,?_⟩;cases a3:wi f.acts[k].kind 0 9
  ·simp[a3] at hX ⊢
   first|exact hX|(exfalso;omega)
  simp[a3] at hX ⊢;refine⟨_,aAD r hr f f.acts[k] hl,?_⟩;cases a4:sK r f f.acts[k]
  ·simp[a4] at hX ⊢
   first|exact hX|(exfalso;omega)
  simp[a4] at hX ⊢;unfold Rj at hX;by_cases k0:k=0
  ·subst k0;by_cases e1:f.acts[0].at_=-1
   ·simp[e1] at hX;simp[e1];refine⟨_,eG _ _ _,?_⟩;split at hX
    ·rename_i e;simp[e]
     first|exact hX|(exfalso;omega)
    ·rename_i e
     first|(exfalso;omega)|simp[e]
   ·obtain⟨h5,h6⟩:=X2 a4 e1;have h7:f.acts[0].at_.toNat<f.signs.length:=by omega
    have h8:ei f f.acts[0].at_=f.signs[f.acts[0].at_.toNat]:=by simp[ei,h7]
    simp[e1,h8] at hX;simp[e1,h5,h6,h7,Rx,IG];refine⟨_,eG _ _ _,?_⟩;split at hX
    ·rename_i e;simp[e]
     first|exact hX|(exfalso;omega)
    ·rename_i e
     first|(exfalso;omega)|simp[e]
  ·have bF:IntKind.i64.wrap ((k:Int)-1)=(k:Int)-1:=bU (by omega);have ct:((k:Int)-1).toNat=k-1:=by omega
   have lI:k-1<f.acts.length:=by omega
   have yd:0<k:=by omega
   by_cases e1:f.acts[k].at_=-1
   ·simp[k0,e1,lI] at hX;simp[e1,yd,bF,ct,lI,Rx,IG];refine⟨by omega,_,eG _ _ _,?_⟩;split at hX
    ·rename_i e;simp[e]
     first|exact hX|(exfalso;omega)
    ·rename_i e
     first|(exfalso;omega)|simp[e]
   ·obtain⟨h5,h6⟩:=X2 a4 e1;have h7:f.acts[k].at_.toNat<f.signs.length:=by omega
    have h8:ei f f.acts[k].at_=f.signs[f.acts[k].at_.toNat]:=by simp[ei,h7]
    simp[k0,e1,lI,h8] at hX;simp[e1,yd,bF,ct,lI,h5,h6,h7,Rx,IG];refine⟨by omega,_,eG _ _ _,?_⟩;split at hX
    ·rename_i e;simp[e]
     first|exact hX|(exfalso;omega)
    ·rename_i e
     first|(exfalso;omega)|simp[e]
end Rm
namespace Rm
open Go Go.Proofs Cx
def oM (a b:Int):Int:=if a<b then-1 else if b<a then 1 else 0
theorem ab2 (a:Int):ao T adh [.int a] (.bool false):=by
 refine .of_tree rfl akt aC0 ?_;simp[Vj]
theorem Xz (a b:Int):ao T adf [.int a,.int b] (.int (oM a b)):=by
 refine .of_tree rfl akr aCX ?_;simp[Vh];refine⟨_,ab2 a,_,ab2 b,?_⟩;unfold oM;by_cases h1:a<b
 ·simp[h1]
 by_cases h2:b<a<;>simp[h1,h2]
theorem ajA (l:List Int)(hl:l.length≤100000):ao T adg [ints l] (.int (eU l.length fun k=>l.getD k 0)):=by
 refine .of_tree rfl aks aCZ ?_;simp[Vi];refine oc l.length (fun k=>l.getD k 0) (fun k=>[.int 0,.int k]) (fun _=>[]) ?_ (fun k hk ho=>?_) (fun k hk ho hb=>?_) (fun hj=>?_)
 ·simp
 ·have hw:=bx hk (by omega);have hx:l[k]=0:=by simpa [hk] using ho
  simp[TI,D7,hk,hx,hw]
 ·have hx:¬l[k]=0:=by simpa [hk] using ho
  simp only[aT] at hb ⊢;rw[hb];simp[TI,D7,hk,hx]
 ·simp only[aT] at hj ⊢;rw[hj];simp[TI,D7]
theorem or2 (a b:Int):(eU 2 fun k=>[a,b].getD k 0)=if a=0 then b else a:=by
 have e:List.range 2=[0,1]:=rfl;unfold eU;rw[e];by_cases ha:a=0<;>by_cases hb:b=0<;>simp[ha,hb]
def jh (x y:Fact):Prop:=x.at_<y.at_∨(x.at_=y.at_∧x.kind<y.kind)
instance (x y:Fact):Decidable (jh x y):=by unfold jh;infer_instance
theorem ajL (x y:Fact):0≤(if oM x.at_ y.at_=0 then oM x.kind y.kind else oM x.at_ y.at_)↔¬jh x y:=by
 unfold oM jh
 repeat' split
 all_goals omega
def qm (f:File)(i:Nat):Int:=
 let x:=f.facts.getD i default
 if wi x.kind 0 4=false then 1 else if aN x.at_ f.signs.length=false then 1 else if wi x.n 0 1=false then 1
 else if i=0 then 0 else if jh (f.facts.getD (i-1) default) x then 0 else 5
theorem aAG (f:File)(hl:f.signs.length≤100000)(hlf:f.facts.length≤100000):ao T adw [cI f] (.int (eU f.facts.length (qm f))):=by
 refine .of_tree rfl akL aDn ?_;have dz:IntKind.i64.wrap ((f.signs.length:Int)-1)=(f.signs.length:Int)-1:=bU (by omega);simp[VC];refine oc f.facts.length (qm f) (fun k=>[.int 0,.int k]) (fun _=>[]) ?_ (fun k hk ho=>?_) (fun k hk ho hb=>?_) (fun hj=>?_)
 ·simp
 case' refine_2=>have hb:qm f k=qm f k:=rfl
 case' refine_3=>rw[hb]
 case refine_4=>simp[ag7,LY,hj]
 all_goals
  have hw:=bx hk (by omega);have hs:f.facts.getD k default=f.facts[k]:=by simp[hk]
  clear hb;generalize hX:qm f k=X at*;unfold qm at hX;simp only[hs] at hX;simp[ag7,LY,hk,dz,hw];refine⟨_,eG _ _ _,?_⟩;cases a1:wi f.facts[k].kind 0 4
  ·simp[a1] at hX ⊢
   first|exact hX|(exfalso;omega)
  simp[a1] at hX ⊢;refine⟨_,eG _ _ _,?_⟩;rw[mI] at hX;cases a2:wi f.facts[k].at_ 0 ((f.signs.length:Int)-1)
  ·simp[a2] at hX ⊢
   first|exact hX|(exfalso;omega)
  simp[a2] at hX ⊢;refine⟨_,eG _ _ _,?_⟩;cases a3:wi f.facts[k].n 0 1
  ·simp[a3] at hX ⊢
   first|exact hX|(exfalso;omega)
  simp[a3] at hX ⊢;by_cases k0:k=0
  ·subst k0;simp at hX ⊢
   first|(exfalso;omega)|done
  ·have bF:IntKind.i64.wrap ((k:Int)-1)=(k:Int)-1:=bU (by omega);have ct:((k:Int)-1).toNat=k-1:=by omega
   have lI:k-1<f.facts.length:=by omega
   simp[k0,lI] at hX;simp[k0,bF,ct,lI];refine⟨by omega,_,Xz _ _,_,Xz _ _,?_⟩;have ho:=ajA [oM f.facts[k-1].at_ f.facts[k].at_,oM f.facts[k-1].kind f.facts[k].kind] (by simp);simp only[ox,xb] at ho;rw[or2] at ho;refine⟨_,ho,?_⟩;have ha:=ajL f.facts[k-1] f.facts[k];generalize (if oM f.facts[k-1].at_ f.facts[k].at_=0 then oM f.facts[k-1].kind f.facts[k].kind else oM f.facts[k-1].at_ f.facts[k].at_)=n at*;clear ho;by_cases e:jh f.facts[k-1] f.facts[k]
   ·have hn:¬0≤n:=fun h=>ha.1 h e;simp[e] at hX;simp[hn]
    first|done|(exfalso;omega)
   ·have hn:0≤n:=ha.2 e;simp[e] at hX;simp[hn]
    first|exact hX|(exfalso;omega)
def xh (f:File)(i:Nat):Int:=
 let x:=f.alters.getD i default
 if wi x.at_ ((if i=0 then 0 else(f.alters.getD (i-1) default).at_)+1) f.signs.length=false then 1 else if wi x.sum 1 1099511627776=false then 3 else 0
structure PaperOK (r:Realm) (f:File):Prop where
 full:(f.signs.length≤40∧f.alters.length≤4)∧f.acts.length≤100∧f.facts.length≤200
 bill:BillOK r f.bill
 ne:f.signs≠[]
 signs:eU f.signs.length (E7 r f)=0
 alters:eU f.alters.length (xh f)=0
 acts:eU f.acts.length (sL r f)=0
 facts:eU f.facts.length (qm f)=0
theorem agc (r:Realm)(hs:Small r)(f:File)(Hw:f.OK):∃d,ao T RD [bn r,cI f] d∧ou (PaperOK r f) d:=by
 refine ao.ex_of_tree rfl akH aDj ?_;simp[Vy];by_cases hf:(f.signs.length≤40∧f.alters.length≤4)∧f.acts.length≤100∧f.facts.length≤200
 case neg=>
  rw[if_pos (by omega)];exact .no (fun h=>hf h.full) (by decide)
 rw[if_neg (by omega)];obtain⟨d,hb,e,rfl,he⟩:=aFj r hs f.bill;refine⟨_,hb,?_⟩;by_cases e0:e=0
 case neg=>
  simp[e0];exact .no (fun h=>e0 (he.2 h.bill)) e0
 have HE:=he.1 e0;simp[e0];by_cases aJ:f.signs=[]
 ·simp[aJ];exact .no (fun h=>h.ne aJ) (by decide)
 simp[aJ];refine oc f.signs.length (E7 r f) (fun k=>[.int 0,.int k]) (fun _=>[]) ?_ (fun k hk ho=>?_) (fun k hk ho hb=>?_) (fun hj=>?_)
 ·simp
 ·have hw:=bx hk (by omega);simp[TL,D9,hk,hw];refine⟨_,agd r hs f HE.parts k hk (by omega),?_⟩;simp[ho]
 ·simp[TL,D9,hk];refine⟨_,agd r hs f HE.parts k hk (by omega),?_⟩;simp[ho];exact .no (fun h=>ho (by rw[←hb];exact h.signs)) ho
 simp[TL,D9];have ka:∀k,k<f.alters.length→(∀j,j<k→xh f j=0)→IntKind.i64.wrap ((if k=0 then 0 else(f.alters.getD (k-1) default).at_)+1)=(if k=0 then 0 else(f.alters.getD (k-1) default).at_)+1:=by
  intro k hk hj;refine bU ?_;by_cases k0:k=0
  ·rw[if_pos k0];omega
  ·rw[if_neg k0];have h1:=hj (k-1) (by omega);have bF:k-1<f.alters.length:=by omega
   have h2:=(Hw.2.2.1.2 _ (de bF)).1;have h3:f.alters.getD (k-1) default=f.alters[k-1]:=by simp[bF]
   unfold xh at h1;rw[h3] at h1 ⊢;simp only at h1;generalize (if k-1=0 then(0:Int) else(f.alters.getD (k-1-1) default).at_)=L0 at h1;split at h1
   ·cases h1
   ·rename_i hh;simp[wi] at hh;unfold bh at h2;omega
 refine aY.scan f.alters.length (fun k=>xh f k=0) (fun k=>[.int 0,.int (if k=0 then 0 else(f.alters.getD (k-1) default).at_),.int k]) (fun _=>[]) ?_ (fun k hk qt ho=>?_) (fun k hk qt ho=>?_) (fun CK=>?_)
 ·simp
 ·have hw:=bx hk (by omega);have hl:=ka k hk qt;generalize hL:(if k=0 then 0 else(f.alters.getD (k-1) default).at_)=L at*;have hs:f.alters.getD k default=f.alters[k]:=by simp[hk]
  unfold xh at ho;simp only[hs,hL] at ho;simp[TM,Ea,hk,hl];refine⟨_,eG _ _ _,?_⟩;cases a1:wi f.alters[k].at_ (L+1) f.signs.length
  ·simp[a1] at ho
  simp[a1] at ho ⊢;refine⟨_,eG _ _ _,?_⟩;simp[ho,hw]
 ·have hl:=ka k hk qt;have CF:=OT hk qt ho;generalize hL:(if k=0 then 0 else(f.alters.getD (k-1) default).at_)=L at*;have hs:f.alters.getD k default=f.alters[k]:=by simp[hk]
  have bad:∀e:Int,e≠0→ou (PaperOK r f) (.int e):=fun e h=>.no (fun h=>ho (by rw[←CF];exact h.alters)) h;unfold xh at ho;simp only[hs,hL] at ho;simp[TM,Ea,hk,hl];refine⟨_,eG _ _ _,?_⟩;cases a1:wi f.alters[k].at_ (L+1) f.signs.length
  ·simp;exact bad 1 (by decide)
  simp[a1] at ho ⊢;refine⟨_,eG _ _ _,?_⟩;simp[ho];exact bad 3 (by decide)
 have CK:=OV CK;simp[TM,Ea];refine⟨_,aAE r hs f HE.parts (by omega) (by omega),?_⟩;by_cases e3:eU f.acts.length (sL r f)=0
 case neg=>
  simp[e3];exact .no (fun h=>e3 h.acts) e3
 simp[e3];refine⟨_,aAG f (by omega) (by omega),?_⟩;exact⟨_,rfl,fun h=>⟨hf,HE,aJ,hj,CK,e3,h⟩,fun h=>h.facts⟩
end Rm
namespace Rm
open Go Go.Proofs Cx
end Rm
namespace Rm
open Go Go.Proofs Cx
end Rm
namespace Rm
open Go Go.Proofs Cx
structure Fp (r:Realm) (f:File) (i:Nat) (a:Act):Prop where
 part:0≤a.part∧a.part≤f.bill.parts-1
 city:0≤a.city∧a.city<r.cities.length
 kind:0≤a.kind∧a.kind≤9
 fits:sK r f a=true
 day:Rj f i a≤a.day∧a.day≤100000
end Rm
namespace Rm
open Go Go.Proofs Cx
def oF (c:Cell):Prop:=c.known=false→c.n=0
theorem zO:oF cV:=fun _=>rfl
theorem q6 {c:Cell}(h:c.known=true):oF c:=fun e=>by rw[h] at e;cases e
theorem zU (b:Bool):(dI b).known=true:=by cases b<;>rfl
theorem m4 {c:Prop}[Decidable c]{a b:Cell}(ha:oF a)(hb:oF b):oF (if c then a else b):=by split<;>assumption
theorem aEY (cs:List Cell)(v:Int):oF (il cs v):=by
 unfold il;exact m4 zO (m4 (q6 (zU _)) (q6 rfl))
theorem aEV (op:Int)(l:List Cell):oF (eI op l):=by
 unfold eI;refine m4 (m4 (q6 (zU _)) zO) (m4 (q6 (zU _)) ?_);by_cases h:op=6
 ·rw[if_pos h];by_cases h2:(aR l 1).known=true∧aR l 1=aR l 2
  ·rw[if_pos h2];exact q6 h2.1
  ·rw[if_neg h2];exact zO
 ·rw[if_neg h];exact m4 zO (m4 (q6 (zU _)) (m4 (q6 (zU _)) (m4 (q6 (zU _)) (q6 rfl))))
theorem aEX {l:List Cell}(h:∀c,c∈l→oF c)(i:Nat):oF (aR l i):=by
 unfold aR;by_cases hi:i<l.length
 ·simp[hi];exact h _ (de hi)
 ·simp[hi];exact fun _=>rfl
theorem aiW:∀(L:Nat) (cs:List Cell) (t:Tm),oF (br L cs t)
 |0,_,_=>zO
 |L+1,cs,t=>by
  rw[uX];refine m4 (q6 rfl) (m4 (aEY _ _) (m4 (aEX (fun c hc=>?_) _) (aEV _ _)));obtain⟨a,_,rfl⟩:=ej.1 hc;exact aiW L cs a
theorem aEW (cs:List Cell)(t:Tm):oF (mq cs t):=by
 unfold mq;exact m4 (aiW _ _ _) zO
structure Plain (s:Said):Prop where
 unk:s.cell.known=true∨s.cell.n=0
 err:s.err≠0→s.cell=cV
theorem aj8 (r:Realm)(ay q:Int)(c:Case):Plain (dM r ay q c):=by
 have h1:(df r ay q c).1.cell=cV:=by
  unfold df;split
  ·rfl
  split
  ·rfl
  split<;>rfl
 unfold dM;split
 ·exact⟨.inr (by rw[h1];rfl),fun _=>h1⟩
 ·generalize mR r (df r ay q c).1.order=o;generalize (df r ay q c).2=cs;unfold nm;split
  ·exact⟨.inr rfl,fun _=>rfl⟩
  ·refine⟨?_,fun h=>absurd rfl h⟩;show(if _ then _ else _:Cell).known=true∨(if _ then _ else _:Cell).n=0;have hu:=aEW cs (findF o q).1;split
   ·exact .inl rfl
   ·cases e:(mq cs (findF o q).1).known with
    |true=>exact .inl rfl
    |false=>exact .inr (hu e)
theorem aj7 (r:Realm)(ay q:Int){c:Case}{g:File}(h:SameF c.file g):(dM r ay q (fG c g)).order=(dM r ay q c).order∧(dM r ay q (fG c g)).path=(dM r ay q c).path:=by
 have hs:=h.at_ c.day;have he:=ahG (c:=cQ c) hs r;have hp:=ahF (c:=cQ c) hs r ay;have e1:(df r ay q (fG c g)).1=(df r ay q c).1:=by
  unfold df;rw[R4,hp];by_cases hv:dV r (cQ c)=[]
  ·rw[if_pos hv,if_pos (he.2 hv)]
  ·rw[if_neg hv,if_neg (fun e=>hv (he.1 e))];split
   ·rfl
   split<;>rfl
 have o:∀d,(dM r ay q d).order=(df r ay q d).1.order:=fun d=>by unfold dM;split<;>rfl
 have p:∀d,(dM r ay q d).path=(df r ay q d).1.path:=fun d=>by unfold dM;split<;>rfl
 rw[o,o,p,p,e1];exact⟨rfl,rfl⟩
theorem azy {a b:Said}(h:iv a.cell b.cell)(he:b.err=a.err)(hn:ki a≠-1):ki b=ki a:=by
 unfold ki at*;rw[he];split at hn
 ·exact absurd rfl hn
 ·rename_i hc;rw[if_neg hc];have hk:a.cell.known=true:=by
   cases e:a.cell.known with
   |true=>rfl
   |false=>exact absurd (.inr e) hc
  rw[h hk,if_neg hc]
def uD (n:Nat)(x:Fact):Prop:=wi x.kind 0 4=true∧aN x.at_ n=true∧wi x.n 0 1=true
structure FactsOK (n:Nat) (l:List Fact):Prop where
 each:∀x,x∈l→uD n x
 sorted:l.Pairwise jh
theorem X6 {x y z:Fact}(h1:jh x y)(h2:jh y z):jh x z:=by unfold jh at*;omega
theorem aAC {l:List Fact}(h:∀i (h1:i+1<l.length),jh (l[i]'(by omega)) l[i+1]):l.Pairwise jh:=by
 rw[aju];intro i j hi hj cN;obtain⟨d,rfl⟩:∃d,j=i+1+d:=⟨j-i-1,by omega⟩
 clear cN
 induction d with
 |zero=>exact h i hj
 |succ d ih=>exact X6 (ih (by omega)) (h (i+1+d) hj)
theorem OO {f:File}{i:Nat}(hi:i<f.facts.length):qm f i=0↔(uD f.signs.length f.facts[i]∧(i=0∨jh (f.facts.getD (i-1) default) f.facts[i])):=by
 have hs:f.facts.getD i default=f.facts[i]:=by simp[hi]
 unfold qm uD;simp only[hs];constructor
 ·intro h;split at h
  ·cases h
  rename_i a1;split at h
  ·cases h
  rename_i a2;split at h
  ·cases h
  rename_i a3;refine⟨⟨by simpa using a1,by simpa using a2,by simpa using a3⟩,?_⟩;split at h
  ·rename_i a4;exact .inl a4
  split at h
  ·rename_i a4;exact .inr a4
  ·cases h
 ·rintro⟨⟨a1,a2,a3⟩,h⟩;rw[a1,a2,a3];simp only[Bool.true_eq_false,if_false];rcases h with h|h
  ·rw[if_pos h]
  ·rw[if_pos h];split<;>rfl
theorem OP (f:File):eU f.facts.length (qm f)=0↔FactsOK f.signs.length f.facts:=by
 rw[OU];constructor
 ·intro h;refine⟨fun x hx=>?_,aAC fun i h1=>?_⟩
  ·obtain⟨i,hi,rfl⟩:=nf hx;exact((OO hi).1 (h i hi)).1
  ·have:=((OO h1).1 (h (i+1) h1)).2;rcases this with e|e
   ·cases e
   ·have hi:i<f.facts.length:=by omega
    simpa [hi] using e
 ·intro h i hi;refine(OO hi).2 ⟨h.each _ (de hi),?_⟩;by_cases e:i=0
  ·exact .inl e
  ·right;have cZ:i-1<f.facts.length:=by omega
   have:=aju.1 h.sorted (i-1) i cZ hi (by omega);simpa [cZ] using this
theorem ayX (x y:Fact):gg x y=true↔jh y x:=by unfold gg jh;simp
theorem aaq (x y:Fact):gY x y=true↔jh x y:=by
 unfold gY jh;simp;constructor<;>rintro(h|h)
 ·exact .inl h
 ·exact .inr ⟨h.1.symm,h.2⟩
 ·exact .inl h
 ·exact .inr ⟨h.1.symm,h.2⟩
theorem FactsOK.with_ {n:Nat}{l:List Fact}(h:FactsOK n l){x:Fact}(hx:uD n x):FactsOK n (pV l x):=by
 unfold pV;refine⟨fun y hy=>?_,?_⟩
 ·simp only[dj,dm,oz] at hy;rcases hy with(hy|rfl)|hy
  ·exact h.each y hy.1
  ·exact hx
  ·exact h.each y hy.1
 ·rw[m9,XS];refine⟨h.sorted.filter _,?_,fun a ha b hb=>?_⟩
  ·rw[List.singleton_append,XT];exact⟨fun b hb=>(aaq x b).1 (dm.1 hb).2,h.sorted.filter _⟩
  ·have h1:=(ayX x a).1 (dm.1 ha).2;rcases dj.1 hb with hb|hb
   ·rw[oz.1 hb];exact h1
   ·exact X6 h1 ((aaq x b).1 (dm.1 hb).2)
theorem ay4 {f:File}{x:Fact}(h:lS f x=true):uD f.signs.length x:=by
 unfold lS at h;simp only[ar,decide_eq_true_eq] at h;obtain⟨⟨⟨h1,h2⟩,h3,h4⟩,h5,h6⟩:=h;refine⟨?_,?_,?_⟩
 ·simp[wi];omega
 ·simp[aN];omega
 ·simp[wi];omega
theorem X4 {f:File}(h:FactsOK f.signs.length f.facts)(l:List Fact):FactsOK f.signs.length (iz f l).facts:=by
 have key:∀(l:List Fact) (g:File),g.signs=f.signs→FactsOK f.signs.length g.facts→FactsOK f.signs.length (l.foldl (fun g x=>if lS g x=true then jb g x else g) g).facts:=by
  intro l
  induction l with
  |nil=>exact fun g _ h=>h
  |cons x l ih=>
   intro g hs hg;refine ih _ ?_ ?_
   ·show(if lS g x=true then jb g x else g).signs=_;split
    ·rw[(ai3 g x).signs];exact hs
    ·exact hs
   ·show FactsOK _ (if lS g x=true then jb g x else g).facts;split
    ·rename_i hm;have hv:=ay4 hm;rw[hs] at hv;unfold jb;split
     ·exact hg
     ·exact hg.with_ hv
    ·exact hg
 exact key l f rfl h
theorem PaperOK.added {r:Realm}{f:File}(h:PaperOK r f)(l:List Fact)(hl:(iz f l).facts.length≤200):PaperOK r (iz f l):=by
 have hs:=(No f l).same;have hf:=X4 ((OP f).1 h.facts) l;have e:iz f l={f with facts:=(iz f l).facts}:=by
  obtain⟨h1,h2,h3,h4⟩:=hs;generalize iz f l=g at*;obtain⟨b,s,a,c,x⟩:=g;simp only at h1 h2 h3 h4;rw[h1,h2,h3,h4]
 generalize (iz f l).facts=F at*;rw[e];refine⟨⟨h.full.1,h.full.2.1,hl⟩,h.bill,h.ne,?_,?_,?_,(OP _).2 hf⟩
 ·exact h.signs
 ·exact h.alters
 ·exact h.acts
theorem uD.ok {n:Nat}{x:Fact}(h:uD n x)(hn:n≤100000):x.OK:=by
 obtain⟨h1,h2,h3⟩:=h;simp[wi,aN] at h1 h2 h3;unfold Fact.OK bh;omega
end Rm
namespace Rm
open Go Go.Proofs Cx
end Rm
namespace Rm
open Go Go.Proofs Cx
end Rm
namespace Rm
open Go Go.Proofs Cx
end Rm
namespace Rm
open Go Go.Proofs Cx
end Rm
namespace Rm
open Go Go.Proofs Cx
instance (a b:Int):Decidable (ahX a b):=by unfold ahX;infer_instance
end Rm
