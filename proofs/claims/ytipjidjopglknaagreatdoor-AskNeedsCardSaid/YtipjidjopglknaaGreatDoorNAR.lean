/-
  Shared texts of this claim.
-/
import Derived.Test.YtipjidjopglknaaGreatDoorNAQ
set_option linter.unusedSimpArgs false
set_option linter.unusedVariables false
noncomputable section
namespace Rm
open Go Go.Proofs Cx
theorem NY (l:List Int)(x:Int):hasB l x=l.contains x:=by
 rw[tT];simp[hasB]
def Gp (c:City):Prop:=c.rest.length≤100000∧c.feasts.length≤100000∧c.shut.length≤100000
theorem ahs (n:Int)(h:0≤n∧n≤100400):(0≤(fq n).2.1∧(fq n).2.1≤30)∧-1000≤(fq n).2.2∧(fq n).2.2≤1000:=by
 unfold fq;simp only[];have hR:0≤(n+730425)%146097∧(n+730425)%146097<146097:=by omega
 generalize (n+730425)%146097=R at*;have hD:=WR R ((R-R/1460+R/36524-R/146096)/365) hR (by omega) (by omega);generalize (R-R/1460+R/36524-R/146096)/365=Y at*;generalize R-(365*Y+Y/4-Y/100)=D at*;have hM:0≤(5*D+2)/153∧(5*D+2)/153≤20:=by omega
 generalize (5*D+2)/153=M at*;refine⟨?_,by omega,by omega⟩;split<;>omega
theorem aqi (c:City)(hc:Gp c)(n:Int)(h:0≤n∧n≤100400):ak T 205 [gH c,.int n] (.bool (xB c.rest c.feasts c.shut n)):=by
 refine .of_tree rfl (lA 81 (by kernel_rfl)) as5 ?_;simp[Tl];refine⟨_,WS n h,?_⟩;have w5:IntKind.i64.wrap (n+5)=n+5:=bU (by omega);have m7:(n+5).tmod 7=(n+5)%7:=afC (by omega);obtain⟨h1,h2,h3⟩:=hc;simp[w5,m7];refine⟨_,vK c.rest ((n+5)%7) (by omega),?_⟩;unfold xB;rw[←NY];cases hr:hasB c.rest ((n+5)%7)
 ·obtain⟨ec,cf⟩:=ahs n h;have wm:IntKind.i64.wrap (100*(fq n).2.1)=100*(fq n).2.1:=bU (by omega);have wd:IntKind.i64.wrap (100*(fq n).2.1+(fq n).2.2)=100*(fq n).2.1+(fq n).2.2:=bU (by omega);simp[hr,wm,wd];refine⟨_,vK c.feasts _ (by omega),?_⟩;have e1:=NY c.feasts (100*(fq n).2.1+(fq n).2.2);have e2:=NY c.shut n;simp at e1 e2;cases hf:hasB c.feasts (100*(fq n).2.1+(fq n).2.2)
  ·simp[hf,←e1,←e2];exact⟨_,vK c.shut n (by omega),rfl⟩
  ·simp[hf,←e1]
 ·simp[hr]
end Rm
namespace Rm
open Go Go.Proofs Cx
def fb (c:City)(a:Int)(k:Nat):List Int:=((List.range k).map fun(i:Nat)=>a+i).filter (xB c.rest c.feasts c.shut)
theorem WZ (c:City)(a:Int)(k:Nat):fb c a (k+1)=fb c a k++if xB c.rest c.feasts c.shut (a+k) then[a+k] else[]:=by
 unfold fb;rw[VW,px,LV]
 congr 1
 cases h:xB c.rest c.feasts c.shut (a+k)<;>simp[h]
theorem ahN (c:City)(a:Int){k n:Nat}(h:k≤n):∃r,fb c a n=fb c a k++r:=by
 induction n with
 |zero=>obtain rfl:k=0:=by omega
        exact⟨[],by simp⟩
 |succ n ih=>
  by_cases e:k=n+1
  ·subst e;exact⟨[],by simp⟩
  ·obtain⟨r,hr⟩:=ih (by omega);exact⟨r++_,by rw[WZ,hr,nI]⟩
def qZ (d:Int):D:=.tup [.int d]
theorem ahO (c:City)(a b:Int):W5 [.ref (.int a),.ref (.int b),.ref (gH c)]=(fb c a (b-a+1).toNat).map qZ:=by
 have hi:∀l:List Int,xg (ints l)=l:=fun l=>by
  show(l.map D.int).map D.i=l;rw[GN];exact List.map_id l
 show(W0 (xg (ints c.rest)) (xg (ints c.feasts)) (xg (ints c.shut)) a b).map _=_;rw[hi,hi,hi];rfl
theorem ahL (c:City)(hc:Gp c)(a b:Int)(ha:0≤a)(hb:b≤100400)(z8:a≤100400):ak T 204 [.ref (.int a),.ref (.int b),.ref (gH c)] (.list ((fb c a (b-a+1).toNat).map qZ)):=by
 have uN:=ahO c a b;rw[←uN];obtain⟨N,hN⟩:∃N,N=(b-a+1).toNat:=⟨_,rfl⟩
 refine ak.of_it (pc:=(ae sE)) (J:=1000) (k:=1) rfl (fun x hx=>?_) (fun m hm=>?_)
 ·rw[uN] at hx;obtain⟨i,_,rfl⟩:=ei.1 hx;exact⟨_,rfl,rfl⟩
 ·rw[uN] at hm ⊢;rw[←hN] at hm ⊢;refine LJ ?_;rw[as2];simp[Tk];refine aP.forLoop (α:=Nat) (fun k vr vo=>k≤N∧vr=[.int (a+k)]∧vo=[.list ((fb c a k).map qZ)]∧(fb c a k).length≤m) (fun k=>N-k) 0 ?_ ?_
  ·simp[aiR,fb]
  ·rintro k vr vo ⟨hk,rfl,rfl,m4⟩;by_cases af:k<N
   ·have hle:a+(k:Int)≤b:=by omega
    have jC:IntKind.i64.wrap (a+(k:Int)+1)=a+((k+1:Nat):Int):=by rw[bU (by omega)];omega
    have bQ:=(aqi c hc (a+k) (by omega))
    have Az:=WZ c a k;obtain⟨r,hr⟩:=ahN c a (k:=k+1) (n:=N) af;simp[adk,KF,hle];refine⟨_,bQ.yld (by decide),?_⟩;cases hi:xB c.rest c.feasts c.shut (a+k)
    ·simp[hi] at Az ⊢;exact⟨k+1,by omega,by omega,jC,by rw[Az],by rw[Az];exact m4⟩
    ·simp[hi] at Az ⊢;have hlen:(fb c a (k+1)).length=(fb c a k).length+1:=by rw[Az];simp
     have sX:(fb c a k).map qZ++[D.tup [D.int (a+k)]]=(fb c a (k+1)).map qZ:=by rw[Az,px];rfl
     have Eo:(fb c a (k+1)).map qZ=((fb c a N).map qZ).take ((fb c a k).length+1):=by
      rw[hr,px,List.take_append_of_le_length (by simp[hlen]),B8 (by simp[hlen])]
     have aY:(fb c a k).length<((fb c a N).map qZ).length:=by rw[hr];simp[hlen];omega
     rw[sX];refine⟨_,ak.answer Eo aY m4,?_⟩;by_cases wT:(fb c a k).length<m
     ·simp[wT];exact⟨k+1,by omega,by omega,jC,rfl,by omega⟩
     ·obtain rfl:(fb c a k).length=m:=by omega
      simp;rw[Eo]
   ·obtain rfl:k=N:=by omega
    have hle:¬a+(k:Int)≤b:=by omega
    simp[adk,KF,hle];rw[B8 (by simp;omega)]
end Rm
namespace Rm
open Go Go.Proofs Cx
theorem ahP (c:City)(a b:Int):ak T 167 [gH c,.int a,.int b] (.clo 204 [.ref (.int a),.ref (.int b),.ref (gH c)]):=by
 refine .of_tree rfl (lA 80 (by kernel_rfl)) as3 ?_;simp[Tj]
def mX (d:Int):Int:=if 100000<d+400 then 100000 else d+400
def jZ (c:City)(d:Int):Int×Int:=
 if ix d=false then(0,3) else match fb c d (mX d-d+1).toNat with|[]=>(0,3)|x::_=>(x,0)
theorem ahM {c:City}{a:Int}{k:Nat}{x:Int}(h:x∈fb c a k):a≤x∧x<a+k:=by
 unfold fb at h;obtain⟨h1,_⟩:=dX.mp h;obtain⟨i,hi,rfl⟩:=ei.mp h1;have:=bZ.mp hi;omega
theorem apz {c:City}{d:Int}(h:(jZ c d).2=0):ix d=true∧d≤(jZ c d).1∧(jZ c d).1≤100000:=by
 unfold jZ at h ⊢;cases hd:ix d
 ·simp[hd] at h
 ·simp only[hd] at h ⊢;cases hk:fb c d (mX d-d+1).toNat with
  |nil=>rw[hk] at h;simp at h
  |cons x l=>
   have hm:x∈fb c d (mX d-d+1).toNat:=by rw[hk];simp
   have:=ahM hm;have he:mX d≤100000:=by unfold mX;split<;>omega
   simp[ix] at hd;simp;unfold mX at*;omega
theorem afM (c:City)(hc:Gp c)(d:Int):ak T 140 [gH c,.int d] (.tup [.int (jZ c d).1,.int (jZ c d).2]):=by
 refine .of_tree rfl (lA 79 (by kernel_rfl)) as0 ?_;simp[Th];refine⟨_,Gw d,?_⟩;cases hd:ix d
 ·simp[jZ,hd]
 have fS:0≤d∧d≤100000:=by simpa [ix] using hd
 have hw:IntKind.i64.wrap (d+400)=d+400:=bU (by omega);have he:mX d≤100000:=by unfold mX;split<;>omega
 simp[hd,hw];have hE:(if 100000<d+400 then D.int 100000 else D.int (d+400))=D.int (mX d):=by unfold mX;split<;>rfl
 rw[hE];refine⟨_,ahP c d (mX d),_,_,rfl,_,ahL c hc d (mX d) fS.1 (by omega) (by omega),?_⟩;cases hk:fb c d (mX d-d+1).toNat with
 |nil=>
  have hn:jZ c d=(0,3):=by unfold jZ;simp[hd,hk]
  rw[hn];refine aP.eachR [] (by simp) (fun _ vo=>vo=[.agg [.int 0],.agg [.int 0]]) ?_ (fun k x vo hx hi=>by simp at hx) (fun vo hi=>?_)
  ·simp
  ·subst hi;simp
 |cons x l=>
  have hn:jZ c d=(x,0):=by unfold jZ;simp[hd,hk]
  rw[hn];refine aP.eachR ((x::l).map qZ) (by simp) (fun k vo=>k=0∧vo=[.agg [.int 0],.agg [.int 0]]) ?_ (fun k y vo hx hi=>?_) (fun vo hi=>?_)
  ·simp
  ·obtain⟨rfl,rfl⟩:=hi;simp at hx;subst hx;simp[arn,RF,qZ];rfl
  ·exact absurd hi.1 (by simp)
end Rm
namespace Rm
open Go Go.Proofs Cx
def Lm (o:Int)(d:Int)(h:Halt):Int:=if(h.order=o∧h.fr≤d)∧d≤h.to then h.to+1 else d
def mL (r:Realm)(o d:Int)(k:Nat):Int:=(r.halts.take k).foldl (Lm o) d
theorem aee (r:Realm)(o d:Int){k:Nat}(hk:k<r.halts.length):mL r o d (k+1)=Lm o (mL r o d k) r.halts[k]:=by
 unfold mL;rw[mV hk,GI];rfl
def yt (r:Realm):Prop:=r.halts.length≤100000∧∀h,h∈r.halts→0≤h.fr∧h.to≤100000
theorem SS {r:Realm}(hh:yt r)(o d:Int)(hd:d≤100001):∀k,k≤r.halts.length→d≤mL r o d k∧mL r o d k≤100001
 |0,_=>⟨by simp[mL],by simpa [mL] using hd⟩
 |k+1,hk=>by
  obtain⟨h1,h2⟩:=SS hh o d hd k (by omega);rw[aee r o d (by omega)];have:=hh.2 _ (cS (show k<r.halts.length by omega));unfold Lm;split<;>omega
def yc (r:Realm)(o:Int):Nat→Int→Int
 |0,d=>d
 |n+1,d=>if mL r o d r.halts.length=d then d else yc r o n (mL r o d r.halts.length)
def lu (r:Realm)(o d:Int):Int:=yc r o (100002-d).toNat d
theorem aef {r:Realm}(hh:yt r)(o:Int):∀(n:Nat) (d:Int),d≤100001→d≤yc r o n d∧yc r o n d≤100001
 |0,d,hd=>⟨Int.le_refl _,hd⟩
 |n+1,d,hd=>by
  obtain⟨h1,h2⟩:=SS hh o d hd r.halts.length (bf _);unfold yc;split
  ·omega
  ·have:=aef hh o n _ h2;omega
theorem asp (r:Realm)(hh:yt r)(o d:Int)(h0:0≤d)(hd:d≤100001):ak T 139 [bk r,.int o,.int d] (.int (lu r o d)):=by
 refine .of_tree rfl (lA 78 (by kernel_rfl)) auH ?_;simp[UR];refine aP.forLoop (α:=Int×Bool×Nat) (fun s vr vo=>vr=[.int s.1,.bool s.2.1]∧vo=[]∧d≤s.1∧s.1≤100001∧(s.2.1=true→(100002-s.1).toNat≤s.2.2)∧(s.2.1=true→yc r o s.2.2 s.1=lu r o d)∧(s.2.1=false→s.1=lu r o d)) (fun s=>2*(100001-s.1).toNat+(if s.2.1 then 1 else 0)) (d,true,(100002-d).toNat) ?_ ?_
 ·simp;exact⟨by omega,rfl⟩
 ·rintro⟨e,ch,n⟩ vr vo ⟨rfl,rfl,h1,h2,h3,h4,h5⟩;simp only at*;cases ch
  ·simp[adA,K4];exact h5 rfl
  ·have h3:=h3 rfl;have h4:=h4 rfl;obtain⟨n,rfl⟩:∃m,n=m+1:=⟨n-1,by omega⟩
   have bt:=SS hh o e h2;simp[adA,K4];refine aP.forRounds r.halts.length (fun k=>[.int (mL r o e k),.bool (decide (e<mL r o e k)),.int k]) (fun _=>[]) ?_ (fun k hk=>?_) ?_
   ·simp[mL]
   ·have hw:=bp hk (by have:=hh.1;omega);have cm:=bt k (by omega);have w7:=hh.2 _ (cS hk);rw[aee r o e hk];unfold Lm;generalize mL r o e k=x at*;by_cases hc:(r.halts[k].order=o∧r.halts[k].fr≤x)∧x≤r.halts[k].to
    ·have dH:IntKind.i64.wrap (r.halts[k].to+1)=r.halts[k].to+1:=bU (by omega);simp[K1,BC,hk,hw,hc,dH];omega
    ·simp[K1,BC,hk,hw,hc]
   ·have hE:=bt r.halts.length (bf _);unfold yc at h4;generalize mL r o e r.halts.length=x at*;by_cases hx:x=e
    ·rw[if_pos hx] at h4;subst hx;simp[K1,BC];exact⟨x,by omega,rfl,h1,h2,h4⟩
    ·rw[if_neg hx] at h4;have af:e<x:=by omega
     simp[K1,BC,af];exact⟨x,by omega,rfl,by omega,by omega,n,by omega,h4⟩
def ya (r:Realm)(c:City)(o:Int):Nat→Int→Int×Int
 |0,d=>(d,0)
 |n+1,d=>
  if(jZ c (lu r o d)).2≠0 then(0,3)
  else if(jZ c (lu r o d)).1=lu r o d then(lu r o d,0)
  else ya r c o n (jZ c (lu r o d)).1
theorem ash (r:Realm)(c:City)(o:Int)(n:Nat)(d:Int):ya r c o (n+1) d=
 if(jZ c (lu r o d)).2≠0 then(0,3)
 else if(jZ c (lu r o d)).1=lu r o d then(lu r o d,0)
 else ya r c o n (jZ c (lu r o d)).1:=rfl
def pf (r:Realm)(city d:Int):Int×Int:=ya r (r.cities.getD city.toNat default) (gN r city) (100002-d).toNat d
theorem aea (r:Realm)(hh:yt r)(city d:Int)(hc:0≤city∧city<r.cities.length)(hs:∀c,c∈r.cities→Gp c)(h0:0≤d)(hd:d≤100001):ak T 89 [bk r,.int city,.int d] (.tup [.int (pf r city d).1,.int (pf r city d).2]):=by
 refine .of_tree rfl (lA 77 (by kernel_rfl)) auG ?_;simp[UQ];refine⟨_,qz r city,?_⟩;have aY:city.toNat<r.cities.length:=by omega
 have hcg:r.cities.getD city.toNat default=r.cities[city.toNat]:=by simp[aY]
 have hsc:=hs _ (cS aY);have hF:pf r city d=ya r r.cities[city.toNat] (gN r city) (100002-d).toNat d:=by unfold pf;rw[hcg]
 rw[hF];refine aP.forLoop (α:=Int×Nat) (fun s vr vo=>(∃a b,vr=[.int s.1,a,b])∧vo=[]∧0≤s.1∧s.1≤100001∧(100002-s.1).toNat≤s.2∧ya r r.cities[city.toNat] (gN r city) s.2 s.1=ya r r.cities[city.toNat] (gN r city) (100002-d).toNat d) (fun s=>s.2) (d,(100002-d).toNat) ?_ ?_
 ·simp;omega
 ·rintro⟨e,n⟩ vr vo ⟨⟨a,b,rfl⟩,rfl,h1,h2,h3,h4⟩;simp only at*;obtain⟨n,rfl⟩:∃m,n=m+1:=⟨n-1,by omega⟩
  rw[←h4];have hsk:=aef hh (gN r city) (100002-e).toNat e h2;have hsr:=asp r hh (gN r city) e h1 h2;rw[ash];change e≤lu r (gN r city) e∧lu r (gN r city) e≤100001 at hsk;generalize lu r (gN r city) e=x at*;have OH:=afM r.cities[city.toNat] hsc x;have rl:=apz (c:=r.cities[city.toNat]) (d:=x);generalize jZ r.cities[city.toNat] x=N at*;obtain⟨y,er⟩:=N;simp only at OH rl;simp[art,Sq];refine⟨_,hsr,?_⟩;simp[aY,hc];refine⟨_,OH,?_⟩;by_cases he:er=0
  ·obtain⟨g1,g2,g3⟩:=rl he;by_cases hy:y=x
   ·simp[he,hy]
   ·simp[he,hy];exact⟨y,n,by omega,rfl,by omega,by omega,by omega,rfl⟩
  ·simp[he]
end Rm
namespace Rm
open Go Go.Proofs Cx
structure RightD (r:Realm):Prop where
 small:Small r
 halts:yt r
theorem RightD.cities {r:Realm}(h:RightD r)(c:City)(hc:c∈r.cities):Gp c:=by
 obtain⟨h1,h2,h3,_⟩:=h.small.city c hc;exact⟨by omega,by omega,by omega⟩
theorem V8 (d:Int)(t:Tenor):∃n e:Int,ak T 138 [.int d,sK t] (.tup [.int n,.int e]):=by
 by_cases h0:t.n<0
 ·refine⟨0,3,.of_tree rfl G3 LH ?_⟩;simp[BU,h0]
 by_cases h1:20000<t.n
 ·refine⟨0,3,.of_tree rfl G3 LH ?_⟩;simp[BU,h0,h1]
 by_cases h2:t.unit=1
 ·obtain⟨n,e,h,_⟩:=afn d t.n;refine⟨n,e,.of_tree rfl G3 LH ?_⟩;simp[BU,h0,h1,h2];refine⟨_,h,?_⟩;simp
 ·refine⟨IntKind.i64.wrap (d+t.n),0,.of_tree rfl G3 LH ?_⟩;simp[BU,h0,h1,h2]
theorem agW (r:Realm)(hr:RightD r)(b:Bill)(seen:Int):∃n e:Int,ak T 88 [bk r,eu b,.int seen] (.tup [.int n,.int e]):=by
 have htn:D.agg [D.int b.tenor.kind,D.int b.tenor.n,D.int b.tenor.unit]=sK b.tenor:=rfl;by_cases h0:b.tenor.kind=0
 ·refine⟨seen,0,.of_tree rfl yH BV ?_⟩;simp[vz,h0]
 by_cases h1:b.tenor.kind=1
 ·obtain⟨n,e,h⟩:=V8 seen b.tenor;refine⟨n,e,.of_tree rfl yH BV ?_⟩;have cw:(b.tenor.kind=1)=True:=eq_true h1;simp[vz,h0,cw];refine⟨_,h,?_⟩;simp
 by_cases h2:b.tenor.kind=2
 ·obtain⟨n,e,h⟩:=V8 b.day b.tenor;refine⟨n,e,.of_tree rfl yH BV ?_⟩;have gU:(b.tenor.kind=2)=True:=eq_true h2;simp[vz,h0,h1,gU];refine⟨_,h,?_⟩;simp
 by_cases h4:b.tenor.kind=4
 ·obtain⟨n,e,h,_⟩:=afQ r b.city b.pay (by have:=hr.small.us;omega);refine⟨IntKind.i64.wrap (b.day+n),e,.of_tree rfl yH BV ?_⟩;have pV:(b.tenor.kind=4)=True:=eq_true h4;simp[vz,h0,h1,h2,pV];refine⟨_,h,?_⟩;simp
 ·refine⟨b.tenor.n,0,.of_tree rfl yH BV ?_⟩;simp[vz,h0,h1,h2,h4]
theorem ak.ex_of_tree {tab:Nat→Option PC}{ext:Nat→Option (aL→List D→Option D)}{f:Nat}{pc:PC}{t:PT}{ds:List D}{P:D→Prop}(hx:ext f=none)(ht:tab f=some pc)(he:tree pc=t)
 (h:aI (ej tab ext) t (lE ds) (fun x=>∃d,x=.ret d∧P d)):∃d,ak (ej tab ext) f ds d∧P d:=by
 subst he;obtain⟨x,⟨d,rfl,hd⟩,n0,hn⟩:=aey (Kh ⟨fun _ _ _ h=>(by obtain⟨_,h,_⟩:=h;cases h),fun _ _ _ _ _ _ h=>(by obtain⟨_,h,_⟩:=h;cases h),fun _ h=>h⟩ h);exact⟨d,.of_pc hx ht ⟨.ret d,rfl,n0,hn⟩,hd⟩
def GR (d:D):Prop:=∃n e:Int,d=.tup [.int n,.int e]
@[simp] theorem axM (n e:Int):GR (.tup [.int n,.int e])=True:=eq_true ⟨n,e,rfl⟩
theorem yp (r:Realm)(hr:RightD r)(b:Bill)(seen ja:Int):∃d,ak T 44 [bk r,eu b,.int seen,.int ja] d∧GR d:=by
 have htn:D.agg [D.int b.tenor.kind,D.int b.tenor.n,D.int b.tenor.unit]=sK b.tenor:=rfl;have ml:=Sw r hr.small;refine ak.ex_of_tree rfl Wr aev ?_;simp[LG];refine⟨_,ml,?_⟩;by_cases h0:lD r=0
 case neg=>simp[h0]
 simp[h0];refine⟨_,Jw r b.city,?_⟩;cases h1:aC b.city r.cities.length
 ·simp[h1]
 simp[h1];refine⟨_,Jw r b.pay,?_⟩;cases h2:aC b.pay r.cities.length
 ·simp[h2]
 simp[h2];refine⟨_,Ey b.day,?_⟩;cases h3:ix b.day
 ·simp[h3]
 simp[h3];intro _ _ _ _;have hp:0≤b.pay∧b.pay<r.cities.length:=by simpa [aC] using h2
 have fin:0≤ja→ja≤20000→∃d,ak T 88 [bk r,eu b,D.int seen] d∧
  if(d.tget 1).i=0 then ∃d1,ak T 86 [d.tget 0] d1∧(d1.b=true→IntKind.i64.wrap ((d.tget 0).i+ja)≤100000→
        ∃d2,ak T 89 [bk r,D.int b.pay,D.int (IntKind.i64.wrap ((d.tget 0).i+ja))] d2∧GR (D.tup [d2.tget 0,d2.tget 1]))
  else GR (D.tup [D.int 0,d.tget 1]):=by
  intro Al oq;obtain⟨n,e,h⟩:=agW r hr b seen;refine⟨_,h,?_⟩;by_cases he:e=0
  ·simp[he];refine⟨_,Ey n,?_⟩;cases hd:ix n
   ·simp[hd]
   have fS:0≤n∧n≤100000:=by simpa [ix] using hd
   have hw:IntKind.i64.wrap (n+ja)=n+ja:=bU (by omega);simp[hd,hw];intro hle;refine⟨_,aea r hr.halts b.pay (n+ja) hp hr.cities (by omega) (by omega),?_⟩;simp
  ·simp[he]
 by_cases hs:seen=-1
 ·simp[hs] at fin ⊢;intro Al oq;refine⟨_,Mb b.tenor,?_⟩;simp;intro _;exact fin Al oq
 ·simp[hs] at fin ⊢;refine⟨_,Ey seen,?_⟩;cases hk:ix seen
  ·simp[hk]
  simp[hk];intro Al oq;exact⟨⟨_,Mb b.tenor⟩,fin Al oq⟩
def sF (r:Realm)(b:Bill)(seen ja:Int):Int×Int:=
 open Classical in if h:RightD r then((yp r h b seen ja).choose_spec.2.choose,(yp r h b seen ja).choose_spec.2.choose_spec.choose) else(0,0)
theorem VG (r:Realm)(hr:RightD r)(b:Bill)(seen ja:Int):ak T 44 [bk r,eu b,.int seen,.int ja] (.tup [.int (sF r b seen ja).1,.int (sF r b seen ja).2]):=by
 have h:=(yp r hr b seen ja).choose_spec.2.choose_spec.choose_spec;have h1:=(yp r hr b seen ja).choose_spec.1;rw[h] at h1;have e:sF r b seen ja=((yp r hr b seen ja).choose_spec.2.choose,(yp r hr b seen ja).choose_spec.2.choose_spec.choose):=by unfold sF;rw[dif_pos hr]
 rw[e];exact h1
def uX (r:Realm)(forum:Int)(f:File)(day:Int):Int:=
 if(dY f day).signs=[] then-1
 else if(sF r f.bill (vp (dY f day)) (max (rC (sC r forum 6 (dY f day) day)) 0)).2≠0 then-1
 else(sF r f.bill (vp (dY f day)) (max (rC (sC r forum 6 (dY f day) day)) 0)).1
@[simp] theorem aBc (x:File)(a0 a1 a2 a3 a4 a5 a6 a7 a8 a9 nP nQ a12 nR nS qN qO qP sw:D):(eM [a0,a1,a2,a3,a4,a5,a6,a7,a8,a9,nP,nQ,a12,nR,nS,qN,qO,qP,sw] 0 [.int x.bill.drawer,.int x.bill.drawee,.int x.bill.payee,.int x.bill.sum,.int x.bill.currency,.int x.bill.tenor.kind,.int x.bill.tenor.n,.int x.bill.tenor.unit,.int x.bill.day,.int x.bill.city,.int x.bill.pay,.int x.bill.need,.int x.bill.rate,.int x.bill.flags,.int x.bill.parts,signs x.signs,alters x.alters,acts x.acts,facts x.facts])[15]?.getD D.none=signs x.signs:=_root_.id rfl
theorem afJ (r:Realm)(hr:Right r)(hd:RightD r)(forum:Int)(f:File)(day:Int)(hf:FewS f):ak T 22 [bk r,.int forum,cZ f,.int day] (.int (uX r forum f day)):=by
 refine .of_tree rfl (lA 44 (by kernel_rfl)) asR ?_;simp[S9];refine⟨_,Sy f day (by have:=hf.signs;omega) (by have:=hf.acts;omega) (by have:=hf.alters;omega) (by have:=hf.facts;omega),?_⟩;have hg:=hf.at_ day;have hb:(dY f day).bill=f.bill:=rfl;unfold uX;generalize dY f day=g at*;simp;by_cases h0:g.signs=[]
 ·simp[h0]
 simp[h0];refine⟨_,agm r hr forum 6 g day hg,_,Wk _,_,arK g (by have:=hg.signs;omega) (by have:=hg.acts;omega),?_⟩;have hm:(if(D.int (rC (sC r forum 6 g day))).i<0 then D.int 0 else D.int (rC (sC r forum 6 g day)))=D.int (max (rC (sC r forum 6 g day)) 0):=by
  simp only[ahT];split
  ·rw[Int.max_eq_right (by omega)]
  ·rw[Int.max_eq_left (by omega)]
 rw[hm,hb];refine⟨_,VG r hd f.bill _ _,?_⟩;by_cases he:(sF r f.bill (vp g) (max (rC (sC r forum 6 g day)) 0)).2=0<;>simp[he]
end Rm
namespace Rm
open Go Go.Proofs Cx
theorem ahW {r:Realm}{b:Bill}(hr:RightD r)(hc:lD r=0)(N8:aC b.city r.cities.length=true)(eB:aC b.pay r.cities.length=true)(hd:ix b.day=true)(hk:b.tenor.kind=3)(hu:b.tenor.unit=0)
 (hn:ix b.tenor.n=true) {g:Int} (hg:0≤g∧g≤20000) (hs:b.tenor.n+g≤100000):sF r b (-1) g=pf r b.pay (b.tenor.n+g):=by
 have ml:=Sw r hr.small;rw[hc] at ml;have iJ:0≤b.tenor.n∧b.tenor.n≤100000:=by simpa [ix] using hn
 have qg:=aea r hr.halts b.pay (b.tenor.n+g) (by simpa [aC] using eB) hr.cities (by omega) (by omega);have hb:ak T 88 [bk r,eu b,.int (-1)] (.tup [.int b.tenor.n,.int 0]):=by
  refine .of_tree rfl yH BV ?_;simp[vz,hk]
 have h:ak T 44 [bk r,eu b,.int (-1),.int g] (.tup [.int (pf r b.pay (b.tenor.n+g)).1,.int (pf r b.pay (b.tenor.n+g)).2]):=by
  have ot:=Jw r b.city;have YA:=Jw r b.pay;have wK:=Ey b.day;have YB:=Ey b.tenor.n;have YC:=Mb b.tenor;rw[N8] at ot;rw[eB] at YA;rw[hd] at wK;rw[hn] at YB;rw[show Lj b.tenor=false from by simp[Lj,hk]] at YC;have hw:IntKind.i64.wrap (b.tenor.n+g)=b.tenor.n+g:=bU (by omega);have oq:¬g<0:=by omega
  have gW:¬20000<g:=by omega
  have eU:¬100000<b.tenor.n+g:=by omega
  refine .of_tree rfl Wr aev ?_;simp[LG];refine⟨_,ml,?_⟩;simp;refine⟨_,ot,?_⟩;simp;refine⟨_,YA,?_⟩;simp;refine⟨_,wK,?_⟩;simp[hk,hu,oq,gW];refine⟨_,YC,?_⟩;simp;refine⟨_,hb,?_⟩;simp;refine⟨_,YB,?_⟩;simp[hw,eU];refine⟨_,qg,?_⟩;simp
 have h2:=h.det (VG r hr b (-1) g);simp at h2;exact Prod.ext h2.1.symm h2.2.symm
end Rm
namespace Rm
open Go Go.Proofs Cx
theorem P4:∀(L:Nat) (cs:List Cell) (t:Tm) (k:Int),bI L t=(k,0)→∀y,y∈cq L cs t→(0≤y∧y≤19)∧(fl cs y).known=false
 |0,cs,t,k,_,y,hy=>by simp[cq] at hy
 |L+1,cs,t,k,hc,y,hy=>by
  obtain⟨ha,_⟩:=zB hc;obtain⟨hn,_⟩:=zC hc;have gJ:∀a,a∈t.args→∀y,y∈cq L cs a→(0≤y∧y≤19)∧(fl cs y).known=false:=fun a hm y hy=>P4 L cs a (bI L a).1 (by rw[←ha a hm]) y hy;rw[AO] at hy;split at hy
  ·cases hy
  rename_i eP;split at hy
  ·rename_i h2;split at hy
   ·cases hy
   ·rename_i hk;have hy:y=t.n:=by simpa using hy
    subst hy;refine⟨?_,by simpa using hk⟩;cases hn with
    |var h0 ha hn=>exact hn
    |_=>omega
  split at hy
  ·generalize (2-(aF (t.args.map (aR L cs)) 0).n).toNat=i at hy;rw[aJ,ct] at hy;cases hi:t.args[i]? with
   |none=>rw[hi] at hy;simp at hy
   |some a=>
    rw[hi] at hy;exact gJ a (jM hi) y (by simpa using hy)
  split at hy
  ·cases hy
  ·obtain⟨l,hl,hy⟩:=List.mem_flatten.1 hy;obtain⟨a,hm,rfl⟩:=ei.1 hl;exact gJ a hm y hy
def rR (t:Tm)(cs:List Cell):List Int:=if(ke t).2=0 then gn (kX (cq 8 cs t)) else[]
theorem asC (t:Tm)(cs:List Cell)(ht:t.OK):ak T P2 [du t,cells cs] (ints (rR t cs)):=by
 refine ak.of_ext (g:=xW) rfl ?_;obtain⟨n0,h0⟩:=SV t ht;refine⟨n0,fun n hn=>aru ⟨du t,cells cs,rfl,_,_,h0 n hn,?_⟩⟩;unfold rR;by_cases h:(ke t).2=0
 ·rw[if_pos h];obtain⟨h1,h2⟩:=zA h;have hl:=JO 8 cs t h1;refine .inr ⟨h,_,_,SY 8 cs t _ ht h1 h2,⟨by omega,fun y hy=>?_⟩,rfl⟩;have:=(P4 8 cs t _ h2 y hy).1;omega
 ·rw[if_neg h];exact .inl ⟨h,rfl⟩
def u9 (o:Order)(q:Int)(cs:List Cell):List Int:=if(findF o q).2=0 then rR (findF o q).1 cs else[]
theorem ach (o:Order)(q:Int)(cs:List Cell)(ho:o.OK)(hl:o.rules.length≤4294967296):ak T 42 [iZ o,.int q,cells cs] (ints (u9 o q cs)):=by
 refine .of_tree rfl (lA 41 (by kernel_rfl)) atn ?_;simp[TD];refine⟨_,aci o q ho hl,?_⟩;unfold u9;have hF:=Xy ho q;generalize findF o q=F at*;obtain⟨t,e⟩:=F;by_cases h:e=0
 ·subst h;simp;have h1:=asC t cs hF;obtain⟨op,n,args⟩:=t;exact h1
 ·simp[h]
  try rfl
def oK (r:Realm)(forum q:Int)(c:Case):List Int:=
 if(cY r forum q c).1.order=-1 then[] else u9 (lN r (cY r forum q c).1.order) q (cY r forum q c).2
theorem agn (r:Realm)(hr:Right r)(forum q:Int)(c:Case)(hf:FewS c.file):ak T 20 [bk r,.int forum,.int q,dZ c] (ints (oK r forum q c)):=by
 refine .of_tree rfl Wn aer ?_;simp[Lw];refine⟨_,Mn r hr forum q c hf,?_⟩;have ho:=Wi hr forum q c;unfold oK;generalize cY r forum q c=S at*;obtain⟨s,cs⟩:=S;simp only at*;by_cases h:s.order=-1
 ·obtain⟨⟨kn,n⟩,o,pth,e⟩:=s;simp only at h;subst h;simp
  try rfl
 ·have h1:0≤s.order∧s.order<r.orders.length:=by omega
  have h2:s.order.toNat<r.orders.length:=by omega
  have h3:lN r s.order=r.orders[s.order.toNat]:=by simp[lN,h2]
  obtain⟨av,hlen⟩:=hr.ok _ (cS h2);simp[h,h1,h2,h3];exact ach _ q cs av (by omega)
theorem arz (t:Tm)(cs:List Cell):(rR t cs).length≤60:=by
 unfold rR;split
 ·rename_i h;obtain⟨h1,h2⟩:=zA h;have hl:=JO 8 cs t h1;have h3:=W6 (kX (cq 8 cs t)) (kX (cq 8 cs t)).length;have h4:(gn (kX (cq 8 cs t))).length≤(kX (cq 8 cs t)).length:=h3;rw[AH] at h4;omega
 ·simp
theorem apv (r:Realm)(forum q:Int)(c:Case):(oK r forum q c).length≤60:=by
 unfold oK;split
 ·simp
 ·unfold u9;split
  ·exact arz _ _
  ·simp
end Rm
namespace Rm
open Go Go.Proofs Cx
theorem tQ (b:Bool):(dU b).known=true:=by cases b<;>rfl
theorem ahu {op:Int}{x y:Cell}(h3:op≠3)(h6:op≠6)(hx:x.known=true)(hy:y.known=true):(dL op [x,y]).known=true:=by
 have c0:aF [x,y] 0=x:=rfl;have c1:aF [x,y] 1=y:=rfl;unfold dL;rw[if_neg h3,c0,c1];split
 ·exact tQ _
 first|rw[if_neg h6,if_neg (by simp[hx,hy])]|rw[if_neg (by simp[hx,hy])]
 split
 ·exact tQ _
 split
 ·exact tQ _
 split
 ·exact tQ _
 ·rfl
theorem apx {K:Cell}{na nb:List Int}{x y:Cell}(ia:na=[]↔x.known=true)(ib:nb=[]↔y.known=true)(h:x.known=true→y.known=true→K.known=true):
 (if K.known=true then[] else[na,nb].flatten)=[]↔K.known=true:=by
 by_cases hK:K.known=true
 ·simp[hK]
 ·rw[if_neg hK];simp only[GH,List.flatten_nil,lz,List.append_eq_nil_iff];exact⟨fun⟨h1,h2⟩=>h (ia.1 h1) (ib.1 h2),fun h1=>absurd h1 hK⟩
theorem aaC:∀(L:Nat) (cs:List Cell) (t:Tm) (k:Int),cJ L t≤60→bI L t=(k,0)→(cq L cs t=[]↔(aR L cs t).known=true)
 |0,cs,t,k,hm,hc=>by simp[cJ] at hm
 |L+1,cs,t,k,hm,hc=>by
  obtain⟨hl,hp⟩:=JI hm;obtain⟨ha,_⟩:=zB hc;obtain⟨hn,_⟩:=zC hc;have ih:∀a,a∈t.args→(cq L cs a=[]↔(aR L cs a).known=true):=fun a dE=>aaC L cs a (bI L a).1 (hp a dE) (by rw[←ha a dE]);have wW:∀a,a∈t.args→su (bI L a).1 (aR L cs a):=fun a dE=>Il cs (show bI L a=((bI L a).1,0) by rw[←ha a dE]);rw[AO,wv]
  have two:∀ks:List Int,(t.args.map fun a=>(bI L a).1)=ks→ks.length=2→t.op≠0→t.op≠1→t.op≠2→t.op≠3→t.op≠6→
    ((if t.op=0∨t.op=1 then[] else if t.op=2 then(if(fl cs t.n).known=true then[] else[t.n]) else
   if t.op=6∧(aF (t.args.map (aR L cs)) 0).known=true then(t.args.map (cq L cs)).getD (2-(aF (t.args.map (aR L cs)) 0).n).toNat [] else
   if(dL t.op (t.args.map (aR L cs))).known=true then[] else(t.args.map (cq L cs)).flatten)=[]↔
    (if t.op=0∨t.op=1 then⟨true,t.n⟩ else if t.op=2 then fl cs t.n else
   if t.op=6∧(aF (t.args.map (aR L cs)) 0).known=true then aF (t.args.map (aR L cs)) (2-(aF (t.args.map (aR L cs)) 0).n).toNat else dL t.op (t.args.map (aR L cs))).known=true):=by
   intro ks hk hlen h0 h1 h2 h3 h6
   match ks,hlen with
   |[p,q],_=>
    obtain⟨a,b,dD,_,_⟩:=xo hk;have ia:=ih a (by rw[dD];simp);have ib:=ih b (by rw[dD];simp);have eP:¬(t.op=0∨t.op=1):=by omega
    have Dx:¬(t.op=6∧(aF (t.args.map (aR L cs)) 0).known=true):=fun h=>h6 h.1;simp only[if_neg eP,if_neg h2,if_neg Dx];rw[dD];exact apx ia ib fun hx hy=>ahu h3 h6 hx hy
  cases hn with
  |int h0 _ _=>rw[if_pos (.inl h0),if_pos (.inl h0)];simp
  |bool h0 _ _=>rw[if_pos (.inr h0),if_pos (.inr h0)];simp
  |var h0 _ _=>
   have eP:¬(t.op=0∨t.op=1):=by omega
   simp only[if_neg eP,if_pos h0];cases e:(fl cs t.n).known<;>simp
  |not h0 hk=>
   obtain⟨a,dD,_⟩:=aag hk;have ia:=ih a (by rw[dD];simp);have eP:¬(t.op=0∨t.op=1):=by omega
   have h2:¬t.op=2:=by omega
   have Dx:¬(t.op=6∧(aF (t.args.map (aR L cs)) 0).known=true):=fun h=>by omega
   simp only[if_neg eP,if_neg h2,if_neg Dx];rw[dD];simp only[gk,yz,GH,List.flatten_nil,lz];have c0:aF [aR L cs a] 0=aR L cs a:=rfl;have hK:(dL t.op [aR L cs a]).known=(aR L cs a).known:=by
    unfold dL;rw[if_pos h0,c0];split
    ·rename_i h;rw[tQ,h]
    ·rename_i h;have h:(aR L cs a).known=false:=by simpa using h
     rw[h];rfl
   rw[hK];by_cases h:(aR L cs a).known=true
   ·simp[h]
   ·rw[if_neg h];exact ia
  |log h0 hk=>exact two _ hk rfl (by omega) (by omega) (by omega) (by omega) (by omega)
  |less h0 hk=>exact two _ hk rfl (by omega) (by omega) (by omega) (by omega) (by omega)
  |equal k h0 hk=>exact two _ hk rfl (by omega) (by omega) (by omega) (by omega) (by omega)
  |num h0 hk=>exact two _ hk rfl (by omega) (by omega) (by omega) (by omega) (by omega)
  |ite k h0 hk=>
   obtain⟨a,b,c,dD,k1,k2,k3⟩:=EI hk;have ia:=ih a (by rw[dD];simp);have ib:=ih b (by rw[dD];simp);have ic:=ih c (by rw[dD];simp);have ra:=wW a (by rw[dD];simp);rw[k1] at ra;have eP:¬(t.op=0∨t.op=1):=by omega
   have h2:¬t.op=2:=by omega
   simp only[if_neg eP,if_neg h2];rw[dD];have c0:aF ([a,b,c].map (aR L cs)) 0=aR L cs a:=rfl;rw[c0];by_cases DV:(aR L cs a).known=true
   ·rw[if_pos ⟨h0,DV⟩,if_pos ⟨h0,DV⟩];rcases(ra.2 DV).1 rfl with e|e
    ·rw[e];exact ic
    ·rw[e];exact ib
   ·have Dx:¬(t.op=6∧(aR L cs a).known=true):=fun h=>DV h.2;simp only[if_neg Dx];by_cases hK:(dL t.op ([a,b,c].map (aR L cs))).known=true
    ·rw[if_pos hK];exact⟨fun _=>hK,fun _=>rfl⟩
    ·rw[if_neg hK];refine⟨fun h=>?_,fun h=>absurd h hK⟩;have h:cq L cs a=[]∧cq L cs b=[]∧cq L cs c=[]:=by simpa using h
     have:=h.1;exact absurd (ia.1 this) DV
theorem ahR {l:List Int}:gn l=[]↔l=[]:=by
 constructor
 ·intro h;cases l with
  |nil=>rfl
  |cons x l=>
   exfalso;unfold gn zJ at h;rw[List.map_eq_nil_iff,VR] at h;have:=h 0 (by simp);simp at this
 ·rintro rfl;rfl
theorem arA {t:Tm}{cs:List Cell}(h:(ke t).2=0):rR t cs=[]↔(mY cs t).known=true:=by
 obtain⟨h1,h2⟩:=zA h;unfold rR mY;rw[if_pos h,if_pos h,ahR,←aaC 8 cs t _ h1 h2];constructor
 ·intro e;have:=AH (cq 8 cs t);rw[e] at this;exact afH.1 (by simpa using this.symm)
 ·intro e;rw[e];rfl
end Rm
namespace Rm
open Go Go.Proofs Cx
theorem ai4 {o:Order}{q:Int}(h:(findF o q).2=0):(ke (findF o q).1).2=0:=by
 unfold findF at h ⊢;split at h
 ·cases h
 rename_i h1;split at h
 ·cases h
 rename_i h2;split at h
 ·cases h
 rename_i h3;rw[if_neg h1,if_neg h2,if_neg h3];exact vJ fun e=>h3 (.inl e)
theorem aqn {o:Order}{q:Int}{cs:List Cell}:u9 o q cs≠[]↔(mc o q cs).2=0∧(mc o q cs).1.known=false:=by
 unfold u9 mc;by_cases h:(findF o q).2=0
 ·have h1:=arA (cs:=cs) (ai4 h);rw[if_pos h];simp only[h];generalize rR (findF o q).1 cs=l at*;generalize mY cs (findF o q).1=c at*;obtain⟨kn,n⟩:=c;cases kn<;>by_cases ht:(nE q).1=0<;>simp_all
 ·rw[if_neg h];simp[h]
theorem aaD {r:Realm}{forum q:Int}{c:Case}(he:(cY r forum q c).1.order=-1→(cY r forum q c).1.err≠0):oK r forum q c≠[]↔(fo r forum q c).err=0∧(fo r forum q c).cell.known=false:=by
 unfold oK fo;by_cases h:(cY r forum q c).1.order=-1
 ·rw[if_pos h,if_pos h];have:=he h;simp[this]
 ·rw[if_neg h,if_neg h];exact aqn
theorem arB {t:Tm}{cs:List Cell}{y:Int}(hy:y∈rR t cs):(0≤y∧y≤19)∧(fl cs y).known=false:=by
 unfold rR at hy;split at hy
 ·rename_i h;exact P4 8 cs t _ (zA h).2 y ((Ex _).mem_iff.1 (W7 hy))
 ·cases hy
theorem apw {r:Realm}{forum q:Int}{c:Case}{y:Int}(hy:y∈oK r forum q c):(0≤y∧y≤19)∧(fl (cY r forum q c).2 y).known=false:=by
 unfold oK at hy;split at hy
 ·cases hy
 unfold u9 at hy;split at hy
 ·exact arB hy
 ·cases hy
theorem avg {cs:List Cell}{y:Int}(hy:0≤y)(h:(fl cs y).known=false):cs.length≤y.toNat∨(cellAt cs y).known=false:=by
 unfold fl at h;split at h
 ·assumption
 ·split at h
  ·rw[tQ] at h;cases h
  ·cases h
end Rm
namespace Rm
open Go Go.Proofs Cx
theorem ac5 (l:List Int)(hl:l.length≤4000000):ak T 17 [ints l,ints l] (.bool true):=by
 refine .of_tree rfl (lA 42 (by kernel_rfl)) atX ?_;simp[Ub];refine aP.forRounds l.length (fun k=>[.bool false,.int k]) (fun _=>[]) ?_ (fun k hk=>?_) ?_
 ·simp
 ·have hw:=bp hk (by omega);simp[adr,KR,hk,hw]
 ·simp[adr,KR]
theorem Rs (s:Said)(hl:s.path.length≤4000000):ak T 12 [kg s,kg s] (.bool true):=by
 refine .of_tree rfl (lA 37 (by kernel_rfl)) at0 ?_;simp[Ue];refine aP.forRounds s.path.length (fun k=>[.bool false,.int k]) (fun _=>[]) ?_ (fun k hk=>?_) ?_
 ·simp
 ·have hw:=bp hk (by omega);simp[ads,KS,hk,hw]
 ·simp[ads,KS]
def QV (r:Realm)(forum:Int)(c:Case):List Int:=if bY r (bG c)=[] then[] else fZ r forum (bG c)
theorem ago (r:Realm)(forum:Int)(c:Case)(hf:FewS c.file):ak T 18 [bk r,.int forum,dZ c] (ints (QV r forum c)):=by
 refine .of_tree rfl (lA 43 (by kernel_rfl)) asT ?_;simp[Tb];refine⟨_,Wl r c hf,?_⟩;unfold QV;by_cases hv:bY r (bG c)=[]
 ·simp[hv];rfl
 simp[hv];exact acy r forum (bG c) (afc hv)
def Vs:Tm:=.mk 2 15 []
def afl:Tm:=.mk 4 0 [Vs,.mk 2 17 []]
def Gy:Order:=⟨⟨#[103,101,110,101,118,97]⟩,false,[],[⟨2,Vs⟩,⟨6,.mk 0 0 []⟩]⟩
def tP:Order:=⟨⟨#[108,111,110,100,111,110]⟩,false,[⟨2,1,false⟩],[⟨2,afl⟩,⟨6,.mk 0 3 []⟩]⟩
def cW:Realm:=⟨[⟨#[102,114,97,110,99]⟩],[⟨⟨#[76,121,111,110]⟩,0,0,[],[],[]⟩,⟨⟨#[76,111,110,100,111,110]⟩,1,0,[],[],[]⟩],[⟨0⟩],[⟨⟨#[97]⟩,0,0⟩,⟨⟨#[98]⟩,1,0⟩],[Gy,tP],[],[],[]⟩
def LN (c:Int):Bill:=⟨0,1,0,5,0,⟨3,10,0⟩,2,c,1,-1,0,1,1⟩
def iT (c:Int):File:=⟨LN c,[⟨0,0,0,-1,-1,0,2,c,0⟩],[],[],[⟨0,0,1⟩]⟩
def kI (c:Int):Case:=⟨iT c,0,-1,-1,-1,5⟩
set_option maxRecDepth 10000 in
theorem avw:ak T 28 [] (bk cW):=by
 refine .of_tree rfl (lA 2 (by kernel_rfl)) atj ?_;simp[TA];kernel_rfl
set_option maxRecDepth 10000 in
theorem tO (c:Int):ak T 30 [.int c] (cZ (iT c)):=by
 refine .of_tree rfl (lA 3 (by kernel_rfl)) ati ?_;simp[Tz];rfl
set_option maxRecDepth 10000 in
theorem BZ (f:File):ak T 29 [cZ f] (dZ ⟨f,0,-1,-1,-1,5⟩):=by
 refine .of_tree rfl (lA 4 (by kernel_rfl)) atf ?_;simp[Tv];rfl
theorem avI:Small cW:=by
 refine⟨by decide,by decide,by decide,by decide,by decide,by decide,by decide,by decide,?_,?_,?_⟩
 ·intro c hc;simp[cW] at hc;rcases hc with rfl|rfl<;>simp
 ·intro o ho;simp[cW] at ho;rcases ho with rfl|rfl<;>simp[Gy,tP]
 ·intro x hx;simp[cW] at hx
theorem afk:RightD cW:=⟨avI,by decide,fun h hh=>by simp[cW] at hh⟩
theorem my {n:Int}(h:-100000≤n∧n≤100000):aW n:=by unfold aW;omega
theorem LP:Right cW:=by
 have g:Vs.OK:=.mk _ _ [] (my (by omega)) (my (by omega)) (by decide) (fun _ h=>by cases h);have n:∀k:Int,0≤k→k≤100→(Tm.mk 0 k []).OK:=fun k h1 h2=>.mk _ _ [] (my (by omega)) (my (by omega)) (by decide) (fun _ h=>by cases h)
 have b:afl.OK:=.mk _ _ _ (my (by omega)) (my (by omega)) (by decide) (fun a h=>by
  simp at h;rcases h with rfl|rfl
  ·exact g
  ·exact .mk _ _ [] (my (by omega)) (my (by omega)) (by decide) (fun _ h=>by cases h))
 refine⟨?_,by decide,?_⟩
 ·intro o ho;simp[cW] at ho;rcases ho with rfl|rfl
  ·exact⟨by decide,fun ch h=>by simp[Gy] at h⟩
  ·exact⟨by decide,fun ch h=>by simp[tP] at h;subst h;decide⟩
 ·intro o ho;simp[cW] at ho;rcases ho with rfl|rfl
  ·refine⟨⟨⟨by decide,fun ch h=>by simp[Gy] at h⟩,by decide,?_⟩,by decide⟩;intro x hx;simp[Gy] at hx;rcases hx with rfl|rfl
   ·exact⟨my (by decide),g⟩
   ·exact⟨my (by decide),n 0 (by decide) (by decide)⟩
  ·refine⟨⟨⟨by decide,fun ch h=>?_⟩,by decide,?_⟩,by decide⟩
   ·simp[tP] at h;subst h;exact⟨my (by decide),my (by decide)⟩
   intro x hx;simp[tP] at hx;rcases hx with rfl|rfl
   ·exact⟨my (by decide),b⟩
   ·exact⟨my (by decide),n 3 (by decide) (by decide)⟩
theorem LO (c:Int):FewS (iT c):=⟨by simp[iT],by simp[iT],by simp[iT],by simp[iT]⟩
theorem avx:fo cW 0 2 (kI 0)=⟨⟨true,1⟩,0,[0],0⟩:=by kernel_rfl
theorem avy:fo cW 1 2 (kI 0)=⟨⟨true,1⟩,0,[1,0],0⟩:=by kernel_rfl
theorem avz:fo cW 1 2 (kI 1)=⟨⟨false,0⟩,1,[1],0⟩:=by kernel_rfl
theorem avA:(fo cW 0 0 (kI 0)).err=4∧U8 (fo cW 0 0 (kI 0))=0∧rC (fo cW 0 0 (kI 0))=-1:=⟨by kernel_rfl,by kernel_rfl,by kernel_rfl⟩
theorem avH:QV cW 1 (kI 0)=[1,0,1,0,0]:=by kernel_rfl
theorem avB:cY cW 1 2 (kI 1)=(⟨dA,1,[1],0⟩,bY cW (bG (kI 1))):=by kernel_rfl
theorem avG:ak T 42 [iZ tP,.int 2,cells (bY cW (bG (kI 1)))] (ints [17]):=by
 have h:=ach tP 2 (bY cW (bG (kI 1))) (LP.ok tP (by simp[cW])).1 (by decide);rw[show u9 tP 2 (bY cW (bG (kI 1)))=[17] by kernel_rfl] at h;exact h
theorem avF:ak T 20 [bk cW,.int 1,.int 2,dZ (kI 1)] (ints [17]):=by
 have hf:=Mn cW LP 1 2 (kI 1) (LO 1);rw[avB] at hf;refine .of_tree rfl Wn aer ?_;simp[Lw];refine⟨_,hf,?_⟩;simp[dA];exact⟨by decide,avG⟩
theorem afj (forum:Int)(g:Int)(hg:max (rC (sC cW forum 6 (dY (iT 0) 5) 5)) 0=g)(h0:0≤g∧g≤100):uX cW forum (iT 0) 5=if(pf cW 1 (10+g)).2≠0 then-1 else(pf cW 1 (10+g)).1:=by
 have h2:vp (dY (iT 0) 5)=-1:=by kernel_rfl
 have h4:sF cW (LN 0) (-1) g=pf cW 1 (10+g):=ahW (b:=LN 0) afk (by kernel_rfl) (by decide) (by decide) (by decide) rfl rfl (by decide) (by omega) (by show(10:Int)+g≤100000;omega);unfold uX;rw[if_neg (by decide),h2,hg,show(iT 0).bill=LN 0 from rfl,h4]
theorem avC:uX cW 0 (iT 0) 5=10:=by
 have h5:pf cW 1 10=(10,0):=by kernel_rfl
 have:=afj 0 0 (by kernel_rfl) (by decide);rw[this,show(10:Int)+0=10 from rfl,h5];simp
theorem avD:uX cW 1 (iT 0) 5=13:=by
 have h5:pf cW 1 13=(13,0):=by kernel_rfl
 have:=afj 1 3 (by kernel_rfl) (by decide);rw[this,show(10:Int)+3=13 from rfl,h5];simp
theorem avE:uX cW 0 (iT 0) 1=-1:=by
 unfold uX;rw[if_pos (by decide)]
def aeA:PT:=
 (.call ⟨[],[]⟩ [(102,true)] 105 22 [Kv,(pi 0),Ro,(pi 1)] (.ret (.pick ac2 (peq ac3 (pi (-1))) pF)))
def aeL:PT:=
 (.call ⟨[(103,(ax 8 o1)),(102,(.pick Rz (peq KD (pi 13)) pF))],[]⟩ [(102,true)] 104 30 [(pi 0)] aeA)
def aeW:PT:=
 (.call ⟨[],[]⟩ [(96,true)] 99 22 [r97,(pi 1),RA,(pi 5)] aeL)
def ae2:PT:=
 (.call ⟨[(97,(ax 8 o1)),(96,(.pick Ry (peq Bt (pi 10)) pF))],[]⟩ [(96,true)] 98 30 [(pi 0)] aeW)
def ae3:PT:=
 (.call ⟨[],[]⟩ [(90,true)] 93 22 [r91,(pi 0),Fi,(pi 5)] ae2)
def ae4:PT:=
 (.call ⟨[(91,(ax 8 o1)),(90,(.pick (.pick r7 r8 pF) (.pick Fg tI pF) pF))],[]⟩ [(90,true)] 92 30 [(pi 0)] ae3)
def ae5:PT:=
 (.call ⟨[],[]⟩ [(75,true)] 81 17 [r79,(.lst [(pi 1),(pi 0),(pi 1),(pi 0),(pi 0)])] ae4)
def ae6:PT:=
 (.call ⟨[],[]⟩ [(75,true)] 79 18 [qy,(pi 1),Rx] ae5)
def ae7:PT:=
 (.call ⟨[],[]⟩ [(75,true)] 78 29 [KB] ae6)
def aeB:PT:=
 (.call ⟨[(76,(ax 8 o1)),(75,Ff)],[]⟩ [(75,true)] 77 30 [(pi 0)] ae7)
def aeC:PT:=
 (.call ⟨[],[]⟩ [] 74 17 [xR,(.lst [(pi 17)])] aeB)
def aeD:PT:=
 (.call ⟨[],[]⟩ [] 72 20 [tH,(pi 1),(pi 2),r71] aeC)
def aeE:PT:=
 (.call ⟨[],[]⟩ [] 71 29 [Rw] aeD)
def aeF:PT:=
 (.call ⟨[(69,(ax 8 o1)),(8,(.pick ln (peq KA (pi 2)) pF))],[]⟩ [] 70 30 [(pi 1)] aeE)
def aeG:PT:=
 (.call ⟨[(64,(.pick Rv (peq xQ (pi 1)) pF))],[]⟩ [(64,true)] 66 13 [(ax 5 o4)] aeF)
def aeH:PT:=
 (.call ⟨[(59,(.pick qx (peq oV (pi (-1))) pF))],[]⟩ [(59,true)] 61 13 [(ax 5 o2)] aeG)
def aeI:PT:=
 (.call ⟨[(54,(.pick lU (peq mI (pi 0)) pF))],[]⟩ [(54,true)] 56 15 [(ax 5 o5)] aeH)
def aeJ:PT:=
 (.call ⟨[(49,(peq (pc o5 4) (pi 4))),(7,(.pick oU vg pF))],[]⟩ [(49,true)] 51 13 [(ax 5 o5)] aeI)
def aeK:PT:=
 (.call ⟨[(40,(.pick tG jm pF))],[]⟩ [(40,true)] 44 12 [(ax 5 o4),(.mk [(.con (.agg [(.bool false),(.int 0)])),(pi 1),(.lst [(pi 1)]),(pi 0)])] aeJ)
def aeM:PT:=
 (.call ⟨[(33,E8)],[]⟩ [(33,true)] 38 12 [(ax 5 o3),(.mk [(.mk [(pc o6 0),(pc o6 1)]),(pi 0),(.lst [(pi 1),(pi 0)]),(pi 0)])] aeK)
def aeN:PT:=
 (.call ⟨[],[(6,(.setc (.con (.agg [(.bool false),(.int 0)])) 0 (.mk [pT,(pi 1)]))),(5,(.setc (.con (.agg [(.bool false),(.int 0),(.int 0),(.list []),(.int 0)])) 0 lT))]⟩ [] 32 12 [(ax 5 o2),(.mk [(.mk [(pc (.setc (.con (.agg [(.bool false),(.int 0)])) 0 (.mk [pT,(pi 1)])) 0),(pc (.setc (.con (.agg [(.bool false),(.int 0)])) 0 (.mk [pT,(pi 1)])) 1)]),(pi 0),(.lst [(pi 0)]),(pi 0)])] aeM)
def aeO:PT:=
 (.call ⟨[],[]⟩ [] 26 8 [j2,(pi 0),(pi 0),jI] aeN)
def aeP:PT:=
 (.call ⟨[],[]⟩ [] 25 29 [oT] aeO)
def aeQ:PT:=
 (.call ⟨[(23,(ax 8 o1))],[(4,(.setc (.con (.agg [(.bool false),(.int 0),(.int 0),(.list []),(.int 0)])) 0 E7))]⟩ [] 24 30 [(pi 0)] aeP)
def aeR:PT:=
 (.call ⟨[],[]⟩ [] 22 8 [jH,(pi 1),(pi 2),mF] aeQ)
def aeS:PT:=
 (.call ⟨[],[]⟩ [] 21 29 [eZ] aeR)
def aeT:PT:=
 (.call ⟨[(19,(ax 8 o1))],[(3,(.setc (.con (.agg [(.bool false),(.int 0),(.int 0),(.list []),(.int 0)])) 0 eg))]⟩ [] 20 30 [(pi 1)] aeS)
def aeU:PT:=
 (.call ⟨[],[]⟩ [] 18 8 [gZ,(pi 1),(pi 2),lS] aeT)
def aeV:PT:=
 (.call ⟨[],[]⟩ [] 17 29 [cN] aeU)
def aeX:PT:=
 (.call ⟨[(15,(ax 8 o1))],[(2,(.setc (.con (.agg [(.bool false),(.int 0),(.int 0),(.list []),(.int 0)])) 0 dx))]⟩ [] 16 30 [(pi 0)] aeV)
def aeY:PT:=
 (.call ⟨[],[]⟩ [] 14 8 [bH,(pi 0),(pi 2),cR] aeX)
def aeZ:PT:=
 (.call ⟨[],[]⟩ [] 13 29 [cg] aeY)
def ae0:PT:=
 (.call ⟨[(11,(ax 8 (.setc (.con (.agg [(.list []),(.list []),(.list []),(.list []),(.list []),(.list []),(.list []),(.list [])])) 0 di)))],[(1,(.setc (.con (.agg [(.list []),(.list []),(.list []),(.list []),(.list []),(.list []),(.list []),(.list [])])) 0 di))]⟩ [] 12 30 [(pi 0)] aeZ)
def ae1:PT:=
 (.call ⟨[],[]⟩ [] 10 28 [] ae0)
theorem atk:TB=ae1:=rfl
theorem ar9:ak T 6 [] (.bool true):=by
 have k:=fun forum q c=>G0 cW LP forum q (kI c) (LO c);have k1:=k 0 2 0;have k2:=k 1 2 0;have k3:=k 1 2 1;have k4:=k 0 0 0;rw[avx] at k1;rw[avy] at k2;rw[avz] at k3;obtain⟨g1,g2,g3⟩:=avA;generalize fo cW 0 0 (kI 0)=S4 at*;obtain⟨⟨kn,nn⟩,oo,pp,ee⟩:=S4;simp only at g1;subst g1;have t4:=Mm ⟨⟨kn,nn⟩,oo,pp,4⟩;have n4:=Wk ⟨⟨kn,nn⟩,oo,pp,4⟩;rw[g2] at t4;rw[g3] at n4;have t1:=Mm ⟨⟨true,1⟩,0,[0],0⟩;have t3:=Mm ⟨⟨false,0⟩,1,[1],0⟩;have m:=fun forum day=>afJ cW LP afk forum (iT 0) day (LO 0);have m1:=m 0 5;have m2:=m 1 5;have m3:=m 0 1;rw[avC] at m1;rw[avD] at m2;rw[avE] at m3;have pl:=ago cW 1 (kI 0) (LO 0);rw[avH] at pl;refine .of_tree rfl (lA 1 (by kernel_rfl)) atl ?_;rw[atk];simp[ae1];refine⟨_,avw,?_⟩;simp[ae0];refine⟨_,tO 0,?_⟩;simp[aeZ];refine⟨_,BZ (iT 0),?_⟩;simp[aeY];refine⟨_,k1,?_⟩;simp[aeX];refine⟨_,tO 0,?_⟩;simp[aeV];refine⟨_,BZ (iT 0),?_⟩;simp[aeU];refine⟨_,k2,?_⟩;simp[aeT];refine⟨_,tO 1,?_⟩;simp[aeS];refine⟨_,BZ (iT 1),?_⟩;simp[aeR];refine⟨_,k3,?_⟩;simp[aeQ];refine⟨_,tO 0,?_⟩;simp[aeP];refine⟨_,BZ (iT 0),?_⟩;simp[aeO];refine⟨_,k4,?_⟩;simp[aeN];refine⟨_,Rs ⟨⟨true,1⟩,0,[0],0⟩ (by decide),?_⟩;simp[aeM];refine⟨_,Rs ⟨⟨true,1⟩,0,[1,0],0⟩ (by decide),?_⟩;simp[aeK];refine⟨_,Rs ⟨⟨false,0⟩,1,[1],0⟩ (by decide),?_⟩;simp[aeJ];refine⟨_,t4,?_⟩;simp[aeI];refine⟨_,n4,?_⟩;simp[aeH];refine⟨_,t1,?_⟩;simp[aeG];refine⟨_,t3,?_⟩;simp[aeF];refine⟨_,tO 1,?_⟩;simp[aeE];refine⟨_,BZ (iT 1),?_⟩;simp[aeD];refine⟨_,avF,?_⟩;simp[aeC];refine⟨_,ac5 [17] (by decide),?_⟩;simp[aeB];refine⟨_,tO 0,?_⟩;simp[ae7];refine⟨_,BZ (iT 0),?_⟩;simp[ae6];refine⟨_,pl,?_⟩;simp[ae5];refine⟨_,ac5 [1,0,1,0,0] (by decide),?_⟩;simp[ae4];refine⟨_,tO 0,?_⟩;simp[ae3];refine⟨_,m1,?_⟩;simp[ae2];refine⟨_,tO 0,?_⟩;simp[aeW];refine⟨_,m2,?_⟩;simp[aeL];refine⟨_,tO 0,?_⟩;simp[aeA];refine⟨_,m3,?_⟩;rfl
end Rm
namespace Rm
open Go Go.Proofs Cx
end Rm
namespace Rm
open Go Go.Proofs Cx
theorem ai8 {n:Nat}{f:Nat→Int}(h:fQ n f=0)(k:Nat)(hk:k<n):f k=0:=XB.1 h k hk
theorem ahl {r:Realm}(h:lD r=0)(k:Nat)(hk:k<r.orders.length):qq r.orders[k]=true:=by
 unfold lD at h;rw[SL] at h;have h1:=h (fc (eX r) 20 (nu r)) (by simp);unfold fc at h1;split at h1
 ·cases h1
 have h2:=ai8 h1 k (by simpa [eX] using hk);have h3:=(Dl h2).2;unfold nu at h3;simpa [hk] using h3
theorem akl {r:Realm}(hs:Small r)(h:lD r=0):B3 r:=by
 intro o ho;obtain⟨k,hk,rfl⟩:=nK ho;have h1:=ahl h k hk;obtain⟨hc,_⟩:=hs.order _ ho;refine⟨by omega,fun ch mj=>?_⟩;unfold qq at h1;simp only[ao] at h1;obtain⟨j,hj,rfl⟩:=nK mj;have h2:=yC.1 h1.1 j hj;simpa [aC,hj] using h2
theorem akm {r:Realm}(hs:Small r)(h:lD r=0):yt r:=by
 refine⟨by have:=hs.halts;omega,fun x hx=>?_⟩;obtain⟨k,hk,rfl⟩:=nK hx;unfold lD at h;rw[SL] at h;have h1:=h (oW r) (by simp);unfold oW at h1;split at h1
 ·cases h1
 split at h1
 ·cases h1
 split at h1
 ·cases h1
 split at h1
 ·rename_i aO;have h2:=yC.1 aO k hk;simp[uz,wi,aC,hk] at h2;omega
 ·cases h1
structure Good (r:Realm) (f:File):Prop where
 right:Right r
 rightD:RightD r
 few:FewS f
theorem akn {r:Realm}{f:File}(hr:r.OK)(h:zV r f=true):Good r f:=by
 unfold zV sM at h;simp only[ao,decide_eq_true_eq] at h;obtain⟨⟨⟨h1,h2⟩,h3⟩,h4⟩:=h;have hs:=Nv hr h1;refine⟨⟨akl hs h4,by have:=hs.orders;omega,fun o ho=>?_⟩,⟨hs,akm hs h4⟩,?_⟩
 ·have:=hs.order o ho;refine⟨?_,by omega⟩;exact hr.2.2.2.2.1.2 o ho
 ·simp[Dh] at h2;exact⟨by omega,by omega,by omega,by omega⟩
end Rm
namespace Rm
open Go Go.Proofs Cx
theorem agQ (r:Realm)(hr:r.OK)(f:File):ak T 7 [bk r,cZ f] (.bool (zV r f)):=by
 refine .of_tree rfl (lA 82 (by kernel_rfl)) ath ?_;simp[Tx];refine⟨_,aq8 r f hr,?_⟩;cases e1:sM r f
 ·simp[zV,e1]
 have hs:Small r:=Nv hr (by simp only[sM,ao] at e1;exact e1.1.1);simp;refine⟨_,aqT r hs,?_⟩;simp[zV,e1]
end Rm
namespace Rm
open Go Go.Proofs Cx
def j5 (a b:Cell):Prop:=a.known=true→b=a
theorem j5.rfl' (a:Cell):j5 a a:=fun _=>rfl
theorem j5.no (b:Cell):j5 dA b:=fun h=>by cases h
def qI (l l':List Cell):Prop:=l.length=l'.length∧∀i,j5 (aF l i) (aF l' i)
theorem WM {α:Type}(f:α→Cell)(l:List α)(i:Nat)(hi:i<l.length):aF (l.map f) i=f l[i]:=by
 simp[aF,hi]
theorem WN (l:List Cell)(i:Nat)(hi:l.length≤i):aF l i=default:=by
 simp[aF,hi]
theorem qI.map {α:Type}{f g:α→Cell}{l:List α}(h:∀a,a∈l→j5 (f a) (g a)):qI (l.map f) (l.map g):=by
 refine⟨by simp,fun i=>?_⟩;by_cases hi:i<l.length
 ·rw[WM f l i hi,WM g l i hi];exact h _ (cS hi)
 ·rw[WN _ i (by simpa using hi),WN _ i (by simpa using hi)];exact .rfl' _
theorem avh {cs fN:List Cell}(h:qI cs fN)(v:Int):j5 (fl cs v) (fl fN v):=by
 intro hk;have hv:=h.2 v.toNat;unfold fl at hk ⊢;unfold cellAt at hk ⊢;unfold aF at hv;by_cases h1:cs.length≤v.toNat∨(cs.getD v.toNat default).known=false
 ·rw[if_pos h1] at hk;cases hk
 ·have h2:(cs.getD v.toNat default).known=true:=by
   cases e:(cs.getD v.toNat default).known
   ·exact absurd (.inr e) h1
   ·rfl
  rw[hv h2,←h.1]
theorem WU {l l':List Cell}(h:qI l l')(op:Int):j5 (dL op l) (dL op l'):=by
 intro hk;have h0:=h.2 0;have h1:=h.2 1;have h2:=h.2 2;unfold dL at hk ⊢;by_cases o3:op=3
 ·rw[if_pos o3] at hk ⊢;rw[if_pos o3];cases e:(aF l 0).known
  ·rw[e] at hk;cases hk
  ·rw[h0 e,e]
 rw[if_neg o3] at hk ⊢;rw[if_neg o3];by_cases o4:(op=4∨op=5)∧(aF l 0=dU (decide (op=5))∨aF l 1=dU (decide (op=5)))
 ·have o4':(op=4∨op=5)∧(aF l' 0=dU (decide (op=5))∨aF l' 1=dU (decide (op=5))):=by
   refine⟨o4.1,?_⟩;have hy:∀b,(dU b).known=true:=fun b=>by cases b<;>rfl
   rcases o4.2 with e|e
   ·exact .inl ((h0 (by rw[e];exact hy _)).trans e)
   ·exact .inr ((h1 (by rw[e];exact hy _)).trans e)
  rw[if_pos o4,if_pos o4']
 rw[if_neg o4] at hk ⊢;by_cases o6:op=6
 ·have o5:¬((op=4∨op=5)∧(aF l' 0=dU (decide (op=5))∨aF l' 1=dU (decide (op=5)))):=by omega
  rw[if_pos o6] at hk ⊢;rw[if_neg o5,if_pos o6];by_cases e:(aF l 1).known=true∧aF l 1=aF l 2
  ·have e1:=h1 e.1;have e2:=h2 (by rw[←e.2];exact e.1);rw[if_pos e,e1,e2,if_pos e]
  ·rw[if_neg e] at hk;cases hk
 rw[if_neg o6] at hk ⊢;by_cases ok:(aF l 0).known=false∨(aF l 1).known=false
 ·rw[if_pos ok] at hk;cases hk
 have k0:(aF l 0).known=true:=by cases e:(aF l 0).known<;>simp[e] at ok ⊢
 have k1:(aF l 1).known=true:=by cases e:(aF l 1).known<;>simp[e] at ok ⊢
 rw[h0 k0,h1 k1,if_neg o4,if_neg o6]
theorem Xn:∀{L:Nat} {t:Tm} {k:Int} {cs fN:List Cell},qI cs fN→bI L t=(k,0)→j5 (aR L cs t) (aR L fN t)
 |0,t,k,cs,fN,hc,h=>.no _
 |L+1,t,k,cs,fN,hc,h=>by
  obtain⟨hn,hk⟩:=zC h;obtain⟨ha,_⟩:=zB h;have ih:∀a,a∈t.args→j5 (aR L cs a) (aR L fN a):=fun a hm=>Xn hc (show bI L a=((bI L a).1,0) by rw[←ha a hm]);have ir:∀(c:List Cell) a,a∈t.args→su (bI L a).1 (aR L c a):=fun c a hm=>Il c (show bI L a=((bI L a).1,0) by rw[←ha a hm]);have im:=qI.map ih;rw[wv,wv];by_cases o0:t.op=0∨t.op=1
  ·rw[if_pos o0,if_pos o0];exact .rfl' _
  rw[if_neg o0,if_neg o0];by_cases o2:t.op=2
  ·rw[if_pos o2,if_pos o2];exact avh hc _
  rw[if_neg o2,if_neg o2];by_cases o6:t.op=6
  ·cases hn with
   |ite k h0 cm=>
    obtain⟨a,b,c,hl,e1,e2,e3⟩:=EI cm;rw[hl] at ih ir im ⊢;have r1:=ir fN a (by simp);rw[e1] at r1;have m1:=ih a (by simp);have m2:=ih b (by simp);have m3:=ih c (by simp);by_cases g:t.op=6∧(aF ([a,b,c].map (aR L cs)) 0).known=true
    ·have e:aF ([a,b,c].map (aR L fN)) 0=aF ([a,b,c].map (aR L cs)) 0:=im.2 0 g.2;have g':t.op=6∧(aF ([a,b,c].map (aR L fN)) 0).known=true:=⟨g.1,by rw[e];exact g.2⟩
     rw[if_pos g,if_pos g',e];exact im.2 _
    rw[if_neg g];by_cases g':t.op=6∧(aF ([a,b,c].map (aR L fN)) 0).known=true
    ·rw[if_pos g'];intro p7;unfold dL at p7 ⊢;rw[if_neg (by omega),if_neg (by omega),if_pos o6] at p7 ⊢;simp only[gk,yz,aF,nJ,sm] at p7 g' ⊢;by_cases e:(aR L cs b).known=true∧aR L cs b=aR L cs c
     ·rw[if_pos e];have q1:=m2 e.1;have q2:=m3 (by rw[←e.2];exact e.1);rcases(r1.2 g'.2).1 rfl with h1|h1<;>rw[h1]
      ·show aR L fN c=_;rw[q2,e.2]
      ·show aR L fN b=_;exact q1
     ·rw[if_neg e] at p7;cases p7
    ·rw[if_neg g'];exact WU im _
   |_=>omega
  ·rw[if_neg (by omega),if_neg (by omega)];exact WU im _
theorem aiV {cs fN:List Cell}(h:qI cs fN)(t:Tm):j5 (mY cs t) (mY fN t):=by
 unfold mY;by_cases e:(ke t).2=0
 ·rw[if_pos e,if_pos e];exact Xn h (zA e).2
 ·rw[if_neg e];exact .no _
theorem af9 {cs fN:List Cell}(h:qI cs fN)(o:Order)(ask:Int):j5 (mc o ask cs).1 (mc o ask fN).1∧(mc o ask fN).2=(mc o ask cs).2:=by
 unfold mc;by_cases e:(findF o ask).2≠0
 ·rw[if_pos e,if_pos e];exact⟨.rfl' _,rfl⟩
 rw[if_neg e,if_neg e];refine⟨?_,rfl⟩;intro hk;have hm:=aiV h (findF o ask).1;simp only at hk ⊢;cases e2:(mY cs (findF o ask).1).known
 ·rw[e2] at hk;simp[e2] at hk
 ·rw[hm e2,e2]
structure SameF (f g:File):Prop where
 bill:g.bill=f.bill
 signs:g.signs=f.signs
 alters:g.alters=f.alters
 acts:g.acts=f.acts
theorem SameF.at_ {f g:File}(h:SameF f g)(day:Int):SameF (dY f day) (dY g day):=by
 obtain⟨h1,h2,h3,h4⟩:=h;constructor<;>simp[dY,h1,h2,h3,h4]
def gf (c:Case)(g:File):Case:={c with file:=g}
theorem ar6 {c:Case}{g:File}(h:SameF c.file g)(r:Realm)(s:Sign)(i:Nat):aF (kj r (gf c g) s) i=
 if i=15 then bJ g 0 c.sign else if i=16 then bJ g 1 c.sign else if i=17 then bJ g 2 c.sign else if i=18 then bJ g 3 (dP c) else if i=19 then bJ g 4 (dP c) else aF (kj r c s) i:=by
 obtain⟨h1,h2,h3,h4⟩:=h
 have e:(kj r (gf c g) s)=(ls c s).map (fun p=>⟨true,p.2⟩)++(lZ r c s).map (fun p=>dU p.2)++
  [bJ g 0 c.sign,bJ g 1 c.sign,bJ g 2 c.sign,bJ g 3 (dP c),bJ g 4 (dP c)]:=by
  simp[kj,gf,ls,lZ,dP,Mi,h1,h3,xj];exact⟨rfl,rfl,rfl,rfl⟩
 rw[e];unfold kj ls lZ;rcases i with _|_|_|_|_|_|_|_|_|_|_|_|_|_|_|_|_|_|_|_|i<;>simp[aF]
theorem ar8 {c:Case}{g:File}(h:SameF c.file g)(r:Realm):(bY r (gf c g)=[]↔bY r c=[]):=by
 obtain⟨h1,h2,h3,h4⟩:=h;have e1:kc (gf c g)=kc c:=by simp[kc,gf,h2,dP];rfl
 unfold bY;rw[e1];simp only[gf,h2];split
 ·simp[kj,ls]
 ·simp
def VH (f g:File)(s h:Int):Prop:=(∀k,j5 (bJ f k s) (bJ g k s))∧(∀k,j5 (bJ f k h) (bJ g k h))
theorem avj {c:Case}{g:File}(h:SameF c.file g)(hf:VH c.file g c.sign (dP c))(r:Realm):qI (bY r c) (bY r (gf c g)):=by
 have e1:kc (gf c g)=kc c:=by simp[kc,gf,h.signs,dP];rfl
 unfold bY;rw[e1];simp only[show(gf c g).file.signs=c.file.signs from h.signs,show(gf c g).sign=c.sign from rfl];split
 ·generalize c.file.signs.getD c.sign.toNat default=s;refine⟨by simp[kj,ls,lZ],fun i=>?_⟩;rw[ar6 h r s i];have hs:∀j,j=15∨j=16∨j=17∨j=18∨j=19∨(j≠15∧j≠16∧j≠17∧j≠18∧j≠19):=by omega
  rcases hs i with e|e|e|e|e|⟨a,b,c',d,e⟩
  ·subst e;exact hf.1 0
  ·subst e;exact hf.1 1
  ·subst e;exact hf.1 2
  ·subst e;exact hf.2 3
  ·subst e;exact hf.2 4
  ·rw[if_neg a,if_neg b,if_neg c',if_neg d,if_neg e];exact .rfl' _
 ·exact⟨rfl,fun i=>.rfl' _⟩
theorem ar7 {c:Case}{g:File}(h:SameF c.file g)(r:Realm)(forum:Int):fZ r forum (gf c g)=fZ r forum c:=by
 obtain⟨h1,h2,h3,h4⟩:=h;simp[fZ,pD,lO,gf,eL,h1,h2]
theorem aaP (c:Case)(g:File):bG (gf c g)=gf (bG c) (dY g c.day):=rfl
theorem agp (r:Realm)(forum q:Int){c:Case}{g:File}(h:SameF c.file g)(hf:VH (dY c.file c.day) (dY g c.day) c.sign (dP c)):
 j5 (fo r forum q c).cell (fo r forum q (gf c g)).cell∧(fo r forum q (gf c g)).err=(fo r forum q c).err:=by
 have hs:=h.at_ c.day;have hv:=avj (c:=bG c) hs hf r;have he:=ar8 (c:=bG c) hs r;have hp:=ar7 (c:=bG c) hs r forum;have e1:(cY r forum q (gf c g)).1=(cY r forum q c).1:=by
  unfold cY;rw[aaP];rw[hp];by_cases e:bY r (bG c)=[]
  ·rw[if_pos e,if_pos (he.2 e)]
  ·rw[if_neg e,if_neg (fun x=>e (he.1 x))];split
   ·rfl
   split
   ·rfl
   rfl
 have e2:qI (cY r forum q c).2 (cY r forum q (gf c g)).2:=by
  unfold cY;rw[aaP];rw[hp];by_cases e:bY r (bG c)=[]
  ·rw[if_pos e,if_pos (he.2 e)];exact⟨rfl,fun i=>.rfl' _⟩
  ·rw[if_neg e,if_neg (fun x=>e (he.1 x))];split
   ·exact⟨rfl,fun i=>.rfl' _⟩
   split
   ·exact⟨rfl,fun i=>.rfl' _⟩
   exact hv
 unfold fo;rw[e1];split
 ·exact⟨.rfl' _,rfl⟩
 ·exact af9 e2 _ _
end Rm
namespace Rm
open Go Go.Proofs Cx
end Rm
namespace Rm
open Go Go.Proofs Cx
theorem Nu (f:File)(day k s:Int):bJ (dY f day) k s=if aC s (kF day f.signs).length=true then bJ f k s else dA:=by
 unfold bJ;have h:(dY f day).facts.find? (fP k s)=if aC s (kF day f.signs).length=true then f.facts.find? (fP k s) else none:=by
  show(f.facts.filter (lF (kF day f.signs).length)).find? (fP k s)=_;generalize (kF day f.signs).length=n
  induction f.facts with
  |nil=>simp
  |cons x l ih=>
   by_cases hx:fP k s x=true
   ·have hs:x.at_=s:=by simp[fP] at hx;exact hx.2
    by_cases hn:aC s n=true
    ·have:lF n x=true:=by unfold lF;rw[hs];exact hn
     simp[yu,this,hx,hn]
    ·have:¬lF n x=true:=by unfold lF;rw[hs];exact hn
     simp only[yu,if_neg this,ih,if_neg hn]
   ·by_cases hn:lF n x=true
    ·simp[yu,hn,hx,ih]
    ·simp[yu,hn,hx,ih]
 rw[h];by_cases hn:aC s (kF day f.signs).length=true
 ·rw[if_pos hn,if_pos hn]
 ·rw[if_neg hn,if_neg hn]
end Rm
namespace Rm
open Go Go.Proofs Cx
theorem aq6 (f:File)(kind sign:Int)(hl:f.facts.length≤4294967295):ak T 106 [cZ f,.int kind,.int sign] (cP (bJ f kind sign)):=by
 refine .of_tree rfl (lA 120 (by kernel_rfl)) atT ?_;simp[T7];refine .scan f.facts.length (fun k=>fP kind sign (f.facts.getD k default)=false) (fun k=>[.int k]) (fun _=>[cP dA]) ?_ (fun k hk hj ho=>?_) (fun k hk hj ho=>?_) (fun hj=>?_)
 ·simp
 ·have hw:=bp hk (by omega);simp[hk,fP] at ho;by_cases h1:f.facts[k].kind=kind<;>by_cases h2:f.facts[k].at_=sign
  ·exact absurd h2 (ho h1)
  all_goals simp[KO,Bx,hk,hw,h1,h2]
 ·have hf:bJ f kind sign=dU (decide (f.facts[k].n≠0)):=by
   unfold bJ;rw[zP hk (by simpa [hk] using ho) (fun j bE=>by have:=hj j bE;simpa [show j<f.facts.length by omega] using this)]
  simp[hk,fP] at ho;by_cases hn:f.facts[k].n=0
  ·simp[KO,Bx,hk,ho,hf,hn];rfl
  ·simp[KO,Bx,hk,ho,hf,hn];rfl
 ·have hf:bJ f kind sign=dA:=by
   unfold bJ;rw[Dj (fun j bE=>by have:=hj j bE;simpa [bE] using this)]
  simp[KO,Bx,hf]
def gL (x y:Fact):Bool:=decide (y.at_<x.at_)||(decide (y.at_=x.at_)&&decide (y.kind<x.kind))
def jR (x y:Fact):Bool:=decide (x.at_<y.at_)||(decide (y.at_=x.at_)&&decide (x.kind<y.kind))
def qF (l:List Fact)(x:Fact):List Fact:=l.filter (gL x)++[x]++l.filter (jR x)
def jK (f:File)(x:Fact):File:=if(bJ f x.kind x.at_).known=true then f else {f with facts:=qF f.facts x}
@[simp] theorem aBH (a0 a1 a2 a3 a4 a5 a6 a7 a8 a9 nP nQ a12 nR nS qN qO qP sw x:D):eM [a0,a1,a2,a3,a4,a5,a6,a7,a8,a9,nP,nQ,a12,nR,nS,qN,qO,qP,sw] 18 [x]=[a0,a1,a2,a3,a4,a5,a6,a7,a8,a9,nP,nQ,a12,nR,nS,qN,qO,qP,x]:=_root_.id rfl
@[simp] theorem aA5:D.none.cells=[D.none]:=_root_.id rfl
theorem afR (f:File)(x:Fact)(hl:f.facts.length≤100000):ak T 60 [cZ f,q6 x] (cZ (jK f x)):=by
 refine .of_tree rfl (lA 119 (by kernel_rfl)) atV ?_;simp[T9];refine⟨_,aq6 f x.kind x.at_ (by omega),?_⟩;unfold jK;cases hk:(bJ f x.kind x.at_).known
 case true=>simp[hk]
 simp[hk];refine aP.forRounds f.facts.length (fun k=>[.none,.int k]) (fun k=>[facts ((f.facts.take k).filter (gL x))]) ?_ (fun k hk=>?_) ?_
 ·simp[facts]
 ·have hw:=bp hk (by omega);rw[BO (gL x) f.facts hk];have hlen:((f.facts.take k).filter (gL x)).length≤k:=iv (pw _ _) (by simp;omega);generalize (f.facts.take k).filter (gL x)=A at*;cases hd:gL x f.facts[k]
  ·simp[gL] at hd;by_cases h2:f.facts[k].at_=x.at_
   ·simp[KP,By,hk,hw,hd,h2];intro h;have:=hd.2 h2;omega
   ·simp[KP,By,hk,hw,hd,h2];intro h;omega
  ·simp[gL] at hd;simp[KP,By,hk,hw,hd];exact⟨by omega,by simp[facts]⟩
 ·have m9:=pw (gL x) f.facts;simp[KP,By];refine⟨by omega,?_⟩;refine aP.forRounds f.facts.length (fun k=>[.none,.int k]) (fun k=>[facts (f.facts.filter (gL x)++[x]++(f.facts.take k).filter (jR x))]) ?_ (fun k hk=>?_) ?_
  ·simp[facts]
  ·have hw:=bp hk (by omega);rw[BO (jR x) f.facts hk];have hlen:((f.facts.take k).filter (jR x)).length≤k:=iv (pw _ _) (by simp;omega);generalize (f.facts.take k).filter (jR x)=A at*;generalize f.facts.filter (gL x)=B at*;cases hd:jR x f.facts[k]
   ·simp[jR] at hd;by_cases h2:f.facts[k].at_=x.at_
    ·simp[KQ,Bz,hk,hw,hd,h2];intro h;have:=hd.2 h2;omega
    ·simp[KQ,Bz,hk,hw,hd,h2];intro h;omega
   ·simp[jR] at hd;simp[KQ,Bz,hk,hw,hd];exact⟨by omega,by simp[facts]⟩
  ·simp[KQ,Bz];have e:f.facts.filter (gL x)++x::f.facts.filter (jR x)=qF f.facts x:=by unfold qF;simp
   have e2:f.facts.filter (gL x)++[x]++f.facts.filter (jR x)=qF f.facts x:=rfl;simp only[e,e2];generalize qF f.facts x=L;rfl
end Rm
namespace Rm
open Go Go.Proofs Cx
theorem Xx {α:Type}{p q:α→Bool}(h:∀y,p y=true→q y=true)(l:List α):(l.filter q).find? p=l.find? p:=by
 induction l with
 |nil=>rfl
 |cons y l ih=>
  cases hq:q y
  ·have hp:p y=false:=by
        cases e:p y
        ·rfl
        ·rw[h y e] at hq;cases hq
   rw[yu,if_neg (by simp[hq]),ih,LX,hp]
  ·rw[yu,if_pos hq,LX,LX,ih]
theorem Nx {α:Type}{p q:α→Bool}(h:∀y,p y=true→q y=false)(l:List α):(l.filter q).find? p=none:=by
 rw[vN];intro y hy hp;have:=(dX.mp hy).2;rw[h y hp] at this;cases this
theorem afg (f:File)(x:Fact):SameF f (jK f x):=by
 unfold jK;split<;>exact⟨rfl,rfl,rfl,rfl⟩
theorem avq (f:File)(x:Fact)(k s:Int):j5 (bJ f k s) (bJ (jK f x) k s):=by
 unfold jK;by_cases hk:(bJ f x.kind x.at_).known=true
 ·rw[if_pos hk];exact .rfl' _
 rw[if_neg hk];by_cases e:k=x.kind∧s=x.at_
 ·obtain⟨rfl,rfl⟩:=e;intro h;exact absurd h hk
 ·intro _;have hx:fP k s x=false:=by
   cases h:fP k s x
   ·rfl
   ·simp[fP] at h;exact absurd ⟨h.1.symm,h.2.symm⟩ e
  have hf:(qF f.facts x).find? (fP k s)=f.facts.find? (fP k s):=by
   unfold qF;rw[nI,LW,LW];have h1:[x].find? (fP k s)=none:=by simp[hx]
   rw[h1];have key:∀y,fP k s y=true→y.kind=k∧y.at_=s:=fun y hy=>by simpa [fP] using hy
   by_cases af:s<x.at_∨(s=x.at_∧k<x.kind)
   ·rw[Xx (q:=gL x) (fun y hy=>by obtain⟨rfl,rfl⟩:=key y hy;simpa [gL] using af),Nx (q:=jR x) (fun y hy=>by obtain⟨rfl,rfl⟩:=key y hy;simp[jR];omega)];cases f.facts.find? (fP k s)<;>rfl
   ·rw[Nx (q:=gL x) (fun y hy=>by obtain⟨rfl,rfl⟩:=key y hy;simp[gL];omega),Xx (q:=jR x) (fun y hy=>by obtain⟨rfl,rfl⟩:=key y hy;simp[jR];omega)];rfl
  unfold bJ;rw[hf]
theorem avp (l:List Fact)(x:Fact):(qF l x).length≤l.length+1:=by
 have h:(l.filter (gL x)).length+(l.filter (jR x)).length≤l.length:=by
  induction l with
  |nil=>simp
  |cons y l ih=>
   have hd:¬(gL x y=true∧jR x y=true):=by simp[gL,jR];omega
   cases h1:gL x y<;>cases h2:jR x y<;>simp[h1,h2] at hd ⊢<;>omega
 unfold qF;simp;omega
theorem avr (f:File)(x:Fact):(jK f x).facts.length≤f.facts.length+1:=by
 unfold jK;split
 ·omega
 ·exact avp _ _
structure MoreF (f g:File):Prop where
 same:SameF f g
 le:∀k s,j5 (bJ f k s) (bJ g k s)
theorem MoreF.rfl' (f:File):MoreF f f:=⟨⟨rfl,rfl,rfl,rfl⟩,fun _ _=>.rfl' _⟩
theorem MoreF.with_ {f g:File}(h:MoreF f g)(x:Fact):MoreF f (jK g x):=by
 obtain⟨⟨h1,h2,h3,h4⟩,hl⟩:=h;obtain⟨k1,k2,k3,k4⟩:=afg g x;refine⟨⟨k1.trans h1,k2.trans h2,k3.trans h3,k4.trans h4⟩,fun k s hk=>?_⟩;have e:=hl k s hk;rw[avq g x k s (by rw[e];exact hk),e]
theorem MoreF.at_ {f g:File}(h:MoreF f g)(day:Int):MoreF (dY f day) (dY g day):=by
 refine⟨h.same.at_ day,fun k s=>?_⟩;rw[Nu,Nu,h.same.signs];split
 ·exact h.le k s
 ·exact .no _
end Rm
namespace Rm
open Go Cx
end Rm
namespace Rm
open Go Go.Proofs Cx
def aeg (a b:Int):Prop:=a=2∨a=b
def mC (f:File)(x:Fact):Bool:=(decide (0≤x.kind)&&decide (x.kind<5))&&(decide (0≤x.at_)&&decide (x.at_<f.signs.length))&&(decide (0≤x.n)&&decide (x.n≤1))
def gE (f:File)(l:List Fact):File:=l.foldl (fun g x=>if mC g x=true then jK g x else g) f
theorem GW (f:File)(l:List Fact):MoreF f (gE f l):=by
 have h:∀(l:List Fact) (g:File),MoreF f g→MoreF f (l.foldl (fun g x=>if mC g x=true then jK g x else g) g):=by
  intro l
  induction l with
  |nil=>exact fun g hg=>hg
  |cons x l ih=>
   intro g hg;refine ih _ ?_;show MoreF f (if mC g x=true then jK g x else g);split
   ·exact hg.with_ x
   ·exact hg
 exact h l f (.rfl' f)
theorem V7 (f:File)(l:List Fact):(gE f l).facts.length≤f.facts.length+l.length:=by
 have h:∀(l:List Fact) (g:File),(l.foldl (fun g x=>if mC g x=true then jK g x else g) g).facts.length≤g.facts.length+l.length:=by
  intro l
  induction l with
  |nil=>intro g;simp
  |cons x l ih=>
   intro g;have h1:=ih (if mC g x=true then jK g x else g);have h2:=avr g x;simp only[GJ,nL];split at h1<;>rename_i hc
   ·rw[if_pos hc];omega
   ·rw[if_neg hc];omega
 exact h l f
theorem afZ (f:File)(l:List Fact){k:Nat}(hk:k<l.length):gE f (l.take (k+1))=if mC (gE f (l.take k)) l[k]=true then jK (gE f (l.take k)) l[k] else gE f (l.take k):=by
 unfold gE;rw[mV hk,GI];rfl
end Rm
namespace Rm
open Go Go.Proofs Cx
@[simp] theorem aA4:D.none.b=false:=_root_.id rfl
theorem eY (n a b:Int):ak T 52 [.int n,.int a,.int b] (.bool (wi n a b)):=by
 refine .of_tree rfl (lA 108 (by kernel_rfl)) atx ?_;simp[TN];by_cases h:a≤n<;>simp[wi,h]
theorem nF (n m:Int):ak T 97 [.int n,.int m] (.bool (aC n m)):=by
 refine .of_tree rfl (lA 105 (by kernel_rfl)) auW ?_;simp[U6];by_cases h:0≤n<;>simp[aC,h]
def Ls (b:Bill):Bool:=
 if b.tenor.kind=0∨b.tenor.kind=4 then decide (b.tenor.n=0)&&decide (b.tenor.unit=0)
 else if b.tenor.kind=1∨b.tenor.kind=2 then(decide (1≤b.tenor.n)&&decide (b.tenor.n≤400))&&(decide (b.tenor.unit=0)||decide (b.tenor.unit=1))
 else if b.tenor.kind=3 then(decide (b.day≤b.tenor.n)&&decide (b.tenor.n≤100000))&&decide (b.tenor.unit=0)
 else false
theorem avt (b:Bill):ak T 98 [eu b] (.bool (Ls b)):=by
 refine .of_tree rfl (lA 106 (by kernel_rfl)) auX ?_;unfold Ls;simp[U7];by_cases h0:b.tenor.kind=0
 ·by_cases h1:b.tenor.n=0<;>simp[h0,h1]
 by_cases h4:b.tenor.kind=4
 ·by_cases h1:b.tenor.n=0<;>simp[h4,h1]
 simp[h0,h4];by_cases k1:b.tenor.kind=1
 ·by_cases h1:1≤b.tenor.n<;>by_cases h2:b.tenor.n≤400<;>by_cases h3:b.tenor.unit=0<;>simp[k1,h1,h2,h3]
 by_cases k2:b.tenor.kind=2
 ·by_cases h1:1≤b.tenor.n<;>by_cases h2:b.tenor.n≤400<;>by_cases h3:b.tenor.unit=0<;>simp[k2,h1,h2,h3]
 simp[k1,k2];by_cases k3:b.tenor.kind=3
 ·by_cases h1:b.day≤b.tenor.n<;>by_cases h2:b.tenor.n≤100000<;>simp[k3,h1,h2]
 simp[k3]
def tn (n m:Int):Bool:=decide (n=-1)||aC n m
def yh (r:Realm)(b:Bill):Bool:=((aC b.drawer r.firms.length&&aC b.drawee r.firms.length)&&tn b.payee r.firms.length)&&tn b.need r.firms.length
def vE (r:Realm)(b:Bill):Bool:=(aC b.currency r.currencies.length&&aC b.city r.cities.length)&&aC b.pay r.cities.length
def Fj (b:Bill):Prop:=((((1≤b.sum∧b.sum≤1099511627776)∧0≤b.day)∧b.day≤100000)∧0≤b.rate)∧b.rate≤1000
def NH (b:Bill):Prop:=((0≤b.flags∧b.flags≤7)∧(cK .and .i64 b.flags 4=0∨¬b.payee=-1))∧Ls b=true
structure BillOK (r:Realm) (b:Bill):Prop where
 realm:lD r=0
 who:yh r b=true
 where_:vE r b=true
 range:Fj b
 parts:1≤b.parts∧b.parts≤4
 form:NH b
 usance:b.tenor.kind=4→∃u,u∈r.usances∧u.fr=b.city∧u.to=b.pay
def pv (P:Prop)(d:D):Prop:=∃e:Int,d=.int e∧(e=0↔P)
theorem pv.no {P:Prop}{e:Int}(h:¬P)(he:e≠0):pv P (.int e):=⟨e,rfl,fun x=>absurd x he,fun x=>absurd x h⟩
theorem pv.ok {P:Prop}(h:P):pv P (.int 0):=⟨0,rfl,fun _=>h,fun _=>rfl⟩
theorem avs (r:Realm)(hs:Small r)(b:Bill):∃d,ak T 50 [bk r,eu b] d∧pv (BillOK r b) d:=by
 refine ak.ex_of_tree rfl agC auV ?_;simp[U5];refine⟨_,Sw r hs,?_⟩;by_cases h0:lD r=0
 case neg=>
  simp[h0];exact .no (fun h=>h0 h.realm) h0
 simp[h0];refine⟨_,nF _ _,?_⟩;cases h1:aC b.drawer r.firms.length
 ·simp;exact .no (fun h=>by simpa [yh,h1] using h.who) (by decide)
 simp;refine⟨_,nF _ _,?_⟩;cases h2:aC b.drawee r.firms.length
 ·simp;exact .no (fun h=>by simpa [yh,h2] using h.who) (by decide)
 by_cases h3:tn b.payee r.firms.length=true
 case neg=>
  have eQ:¬b.payee=-1∧aC b.payee r.firms.length=false:=by simpa [tn] using h3
  simp[eQ.1];refine⟨_,nF _ _,?_⟩;simp[eQ.2];exact .no (fun h=>h3 (by have:=h.who;simp[yh] at this;exact this.1.2)) (by decide)
 by_cases h4:tn b.need r.firms.length=true
 case neg=>
  have pV:¬b.need=-1∧aC b.need r.firms.length=false:=by simpa [tn] using h4
  have eI:pv (BillOK r b) (.int 1):=.no (fun h=>h4 (by have:=h.who;simp[yh] at this;exact this.2)) (by decide);by_cases hp:b.payee=-1
  ·simp[hp,pV.1];refine⟨_,nF _ _,?_⟩;simp[pV.2];exact eI
  ·have eQ:aC b.payee r.firms.length=true:=by simpa [tn,hp] using h3
   simp[hp];refine⟨_,nF _ _,?_⟩;simp[eQ,pV.1];refine⟨_,nF _ _,?_⟩;simp[pV.2];exact eI
 have Jr:yh r b=true:=by simp[yh,h1,h2,h3,h4]
 have hp:b.payee=-1∨(¬b.payee=-1∧aC b.payee r.firms.length=true):=by
  by_cases e:b.payee=-1
  ·exact .inl e
  ·exact .inr ⟨e,by simpa [tn,e] using h3⟩
 have hn:b.need=-1∨(¬b.need=-1∧aC b.need r.firms.length=true):=by
  by_cases e:b.need=-1
  ·exact .inl e
  ·exact .inr ⟨e,by simpa [tn,e] using h4⟩
 have bad:¬vE r b=true→pv (BillOK r b) (.int 1):=fun h=>.no (fun k=>h k.where_) (by decide);have fin:∀u:Int,(u=0↔∃u,u∈r.usances∧u.fr=b.city∧u.to=b.pay)→Fj b→(1≤b.parts∧b.parts≤4)→NH b→vE r b=true→pv (BillOK r b) (if b.tenor.kind=4 then .int u else .int 0):=by
  intro u hu h6 h7 h8 h9;by_cases e:b.tenor.kind=4
  ·rw[if_pos e];exact⟨u,rfl,fun h=>⟨h0,Jr,h9,h6,h7,h8,fun _=>hu.1 h⟩,fun h=>hu.2 (h.usance e)⟩
  ·rw[if_neg e];exact .ok ⟨h0,Jr,h9,h6,h7,h8,fun h=>absurd h e⟩
 obtain⟨un,ue,hu1,_,hu2⟩:=V2 r b.city b.pay (by have:=hs.us;omega);rcases hp with hp|⟨hp,fB⟩<;>rcases hn with hn|⟨hn,p9⟩
 case' inl.inl=>simp[hp,hn]
 case' inl.inr=>simp[hp,hn];refine⟨_,nF _ _,?_⟩;simp[p9]
 case' inr.inl=>simp[hp,hn];refine⟨_,nF _ _,?_⟩;simp[fB]
 case' inr.inr=>simp[hp,hn];refine⟨_,nF _ _,?_⟩;simp[fB];refine⟨_,nF _ _,?_⟩;simp[p9]
 all_goals
  refine⟨_,nF _ _,?_⟩;cases h5:aC b.currency r.currencies.length
  ·simp;exact bad (by simp[vE,h5])
  simp;refine⟨_,nF _ _,?_⟩;cases h6:aC b.city r.cities.length
  ·simp;exact bad (by simp[vE,h6])
  simp;refine⟨_,nF _ _,?_⟩;cases h7:aC b.pay r.cities.length
  ·simp;exact bad (by simp[vE,h7])
  have Et:vE r b=true:=by simp[vE,h5,h6,h7]
  simp;by_cases h8:Fj b
  case neg=>
   have NO:((((b.sum<1∨1099511627776<b.sum)∨b.day<0)∨100000<b.day)∨b.rate<0)∨1000<b.rate:=by unfold Fj at h8;omega
   rw[if_pos NO];exact .no (fun k=>h8 k.range) (by decide)
  have NO:¬(((((b.sum<1∨1099511627776<b.sum)∨b.day<0)∨100000<b.day)∨b.rate<0)∨1000<b.rate):=by unfold Fj at h8;omega
  rw[if_neg NO];by_cases h9:1≤b.parts∧b.parts≤4
  case neg=>
   rw[if_pos (by omega)];exact .no (fun k=>h9 k.parts) (by decide)
  rw[if_neg (by omega)];have Mo:¬NH b→pv (BillOK r b) (.int 2):=fun h=>.no (fun k=>h k.form) (by decide);by_cases g1:0≤b.flags∧b.flags≤7
  case neg=>
   have fw:b.flags<0∨7<b.flags:=by omega
   simp[g1,fw];exact Mo (fun h=>g1 h.1.1)
  have fw:¬(b.flags<0∨7<b.flags):=by omega
  by_cases g2:cK .and .i64 b.flags 4=0∨¬b.payee=-1
  case neg=>
   have od:¬cK .and .i64 b.flags 4=0∧b.payee=-1:=by simpa using g2
   first
        |exact absurd od.2 hp
        |(simp[g1,fw,od]
          exact Mo (fun h=>g2 h.1.2))
  have g3:(b.payee=-1→cK .and .i64 b.flags 4=0):=fun e=>g2.resolve_right (fun h=>h e);simp[g1,fw,hp,g3];refine⟨_,avt b,?_⟩;cases oe:Ls b
  ·simp;exact Mo (fun h=>by have:=h.2;rw[oe] at this;cases this)
  have hf:=fin ue hu2 h8 h9 ⟨⟨g1,g2⟩,oe⟩ Et;simp;by_cases e:b.tenor.kind=4
  ·simp[e] at hf ⊢;exact⟨_,hu1,hf⟩
  ·simp[e] at hf ⊢;exact hf
end Rm
namespace Rm
open Go Go.Proofs Cx
def BM (f:File)(i part:Int):Bool:=decide (i=0)||decide ((eL f i).part=part)
theorem acp (f:File)(i part:Int)(h:i=0∨(0≤i∧i<f.signs.length)):ak T 144 [cZ f,.int i,.int part] (.bool (BM f i part)):=by
 refine .of_tree rfl (lA 111 (by kernel_rfl)) atz ?_;unfold BM;by_cases h0:i=0
 ·simp[LD,h0]
 ·obtain⟨h1,h2⟩:=h.resolve_left h0;have h3:i.toNat<f.signs.length:=by omega
  simp[LD,h0,h1,h2,h3,eL]
def G4 (f:File)(i:Int)(kinds:List Int):Bool:=wi (eL f i).for_ 0 (i-1)&&(BM f (eL f i).for_ (eL f i).part&&hasB kinds (eL f (eL f i).for_).kind)
theorem aqz (f:File)(i:Int)(kinds:List Int)(h:0≤i∧i<f.signs.length)(hl:f.signs.length≤100000)(hk:kinds.length≤100):ak T 143 [cZ f,.int i,ints kinds] (.bool (G4 f i kinds)):=by
 refine .of_tree rfl (lA 110 (by kernel_rfl)) atu ?_;have h1:i.toNat<f.signs.length:=by omega
 have hw:IntKind.i64.wrap (i-1)=i-1:=bU (by omega);have hs:eL f i=f.signs[i.toNat]:=by simp[eL,h1]
 unfold G4;rw[hs];simp[TK,h,h1,hw];refine⟨_,eY _ _ _,?_⟩;cases hb:wi f.signs[i.toNat].for_ 0 (i-1)
 ·simp
 ·have bt:0≤f.signs[i.toNat].for_∧f.signs[i.toNat].for_<f.signs.length:=by
   simp[wi] at hb;omega
  have h2:f.signs[i.toNat].for_.toNat<f.signs.length:=by omega
  have eU:eL f f.signs[i.toNat].for_=f.signs[f.signs[i.toNat].for_.toNat]:=by simp[eL,h2]
  rw[eU];simp;refine⟨_,acp f _ _ (.inr bt),?_⟩;cases cH:BM f f.signs[i.toNat].for_ f.signs[i.toNat].part
  ·simp
  simp[bt,h2];exact vK kinds _ (by omega)
def XD (r:Realm)(b:Bill)(s:Sign)(B:List Int→Bool):Bool:=
 if s.kind=0 then((((decide (s.who=b.drawer)&&decide (s.sum=0))&&decide (cK .or .i64 s.flags 1=1))&&decide (s.part=0))&&decide (s.day=b.day))&&decide (s.city=b.city)
 else if s.kind=1 then decide (s.who=b.drawee)&&(wi s.sum 1 1099511627776&&decide (s.flags=0))
 else if s.kind=2 then((wi s.to (-1) ((r.firms.length:Int)-1)&&decide (s.sum=0))&&wi s.flags 0 7)&&decide (cK .and .i64 s.flags 6≠6)
 else if s.kind=3 then(decide (s.sum=0)&&decide (s.flags=0))&&B [0,1,2,4]
 else if s.kind=4 then((wi s.sum 1 1099511627776&&decide (s.flags=0))&&decide (s.who≠b.drawee))&&B [0,2]
 else false
def NC (r:Realm)(b:Bill)(i:Nat)(s:Sign)(B:List Int→Bool):Bool:=
 if ¬(i=0↔s.kind=0)∨(¬s.kind=2∧¬s.to=-1) then false
 else if(¬s.kind=3∧¬s.kind=4)∧¬s.for_=-1 then false
 else XD r b s B
def Iq (r:Realm)(f:File)(i:Nat):Bool:=NC r f.bill i (f.signs.getD i default) (G4 f i)
theorem aqB (r:Realm)(hr:Small r)(f:File)(i:Nat)(h:i<f.signs.length)(hl:f.signs.length≤100000):ak T 100 [bk r,cZ f,.int i] (.bool (Iq r f i)):=by
 refine .of_tree rfl (lA 109 (by kernel_rfl)) atw ?_;have om:=hr.firms;have hw:IntKind.i64.wrap ((r.firms.length:Int)-1)=(r.firms.length:Int)-1:=bU (by omega);have hs:f.signs.getD i default=f.signs[i]:=by simp[h]
 have N4:=fun ks hk=>aqz f i ks ⟨by omega,by omega⟩ hl hk;unfold Iq;rw[hs];generalize hB:G4 f i=B at N4 ⊢;generalize hX:NC r f.bill i f.signs[i] B=X;simp[TM,h];generalize f.signs[i]=s at*;unfold NC at hX;by_cases h1:¬(i=0↔s.kind=0)∨(¬s.kind=2∧¬s.to=-1)
 ·rw[if_pos h1] at hX ⊢;exact hX.symm
 rw[if_neg h1] at hX ⊢;by_cases h2:(¬s.kind=3∧¬s.kind=4)∧¬s.for_=-1
 ·rw[if_pos h2] at hX ⊢;exact hX.symm
 rw[if_neg h2] at hX ⊢;refine⟨_,eY _ _ _,?_⟩;unfold XD at hX;by_cases k0:s.kind=0
 ·rw[if_pos k0] at hX ⊢;rw[←hX];by_cases a:(((s.who=f.bill.drawer∧s.sum=0)∧cK BinOp.or IntKind.i64 s.flags 1=1)∧s.part=0)∧s.day=f.bill.day
  ·simp[a]
  ·rw[if_neg a]
   congr 1
   rw[eq_comm,VC];intro e;simp at e;exact a e.1
 rw[if_neg k0] at hX ⊢;by_cases k1:s.kind=1
 ·rw[if_pos k1] at hX ⊢;rw[←hX];by_cases a:s.who=f.bill.drawee<;>cases wi s.sum 1 1099511627776<;>simp[a]
 rw[if_neg k1] at hX ⊢;by_cases k2:s.kind=2
 ·rw[if_pos k2] at hX ⊢;rw[←hX,hw];refine⟨_,eY _ _ _,?_⟩;cases wi s.to (-1) ((r.firms.length:Int)-1)
  ·simp
  by_cases a:s.sum=0
  case neg=>simp[a]
  simp[a];refine⟨_,eY _ _ _,?_⟩;cases wi s.flags 0 7<;>simp
 rw[if_neg k2] at hX ⊢;by_cases k3:s.kind=3
 ·rw[if_pos k3] at hX ⊢;rw[←hX];by_cases a:s.sum=0∧s.flags=0
  case neg=>
   rw[if_neg a,if_neg a]
   congr 1
   rw[eq_comm,VC];intro e;simp at e;exact a e.1
  rw[if_pos a];refine⟨_,N4 [0,1,2,4] (by decide),?_⟩;simp[a]
 rw[if_neg k3] at hX ⊢;by_cases k4:s.kind=4
 ·rw[if_pos k4] at hX ⊢;rw[←hX];cases wi s.sum 1 1099511627776
  ·simp
  by_cases a:s.flags=0∧¬s.who=f.bill.drawee
  case neg=>
   simp[a]
  simp[a];exact N4 [0,2] (by decide)
 rw[if_neg k4] at hX ⊢;exact hX.symm
end Rm
namespace Rm
open Go Go.Proofs Cx
def uu (f:File)(i:Nat):Int:=if i=0 then f.bill.day else(f.signs.getD (i-1) default).day
def LL (f:File)(i:Nat)(s:Sign):Bool:=(f.signs.take i).any fun x=>(decide (s.kind=1)&&decide (x.kind=1))&&decide (x.part=s.part)
def Gn (r:Realm)(f:File)(i:Nat):Int:=
 let s:=f.signs.getD i default
 if wi s.part 0 (f.bill.parts-1)=false then 15
 else if aC s.who r.firms.length=false∨aC s.city r.cities.length=false then 1
 else if wi s.day (uu f i) 100000=false∨(i=0∧¬s.day=uu f i) then 13
 else if Iq r f i=false then 14
 else if LL f i s=true then 5 else 0
theorem aco (r:Realm)(hr:Small r)(f:File)(hp:1≤f.bill.parts∧f.bill.parts≤4)(i:Nat)(h:i<f.signs.length)(hl:f.signs.length≤100000):ak T 51 [bk r,cZ f,.int i] (.int (Gn r f i)):=by
 refine .of_tree rfl (lA 107 (by kernel_rfl)) aty ?_;have om:=hr.firms;have N8:=hr.cities;have jC:IntKind.i64.wrap ((r.firms.length:Int)-1)=(r.firms.length:Int)-1:=bU (by omega);have dH:IntKind.i64.wrap ((r.cities.length:Int)-1)=(r.cities.length:Int)-1:=bU (by omega);have Pn:IntKind.i64.wrap (f.bill.parts-1)=f.bill.parts-1:=bU (by omega);have hs:f.signs.getD i default=f.signs[i]:=by simp[h]
 generalize hX:Gn r f i=X;unfold Gn at hX;simp only[hs] at hX;simp[TO,h,jC,dH,Pn];refine⟨_,eY _ _ _,?_⟩;cases a1:wi f.signs[i].part 0 (f.bill.parts-1)
 ·simpa [a1] using hX
 simp[a1] at hX ⊢;refine⟨_,eY _ _ _,?_⟩;rw[nk] at hX;cases a2:wi f.signs[i].who 0 ((r.firms.length:Int)-1)
 ·simpa [a2] using hX
 simp[a2] at hX ⊢;refine⟨_,eY _ _ _,?_⟩;rw[nk] at hX;cases a3:wi f.signs[i].city 0 ((r.cities.length:Int)-1)
 ·simpa [a3] using hX
 simp[a3] at hX ⊢;refine⟨by omega,?_⟩;have Jd:min i f.signs.length=i:=by omega
 refine aP.forRounds i (fun k=>[.int (uu f k),.bool ((f.signs.take k).any fun x=>(decide (f.signs[i].kind=1)&&decide (x.kind=1))&&decide (x.part=f.signs[i].part)),.int k]) (fun _=>[]) ?_ (fun k hk=>?_) ?_
 ·simp[uu]
 ·have hw:=bp hk (by omega);have bm:k<f.signs.length:=by omega
  have hf:uu f (k+1)=f.signs[k].day:=by simp[uu,bm]
  rw[mV bm,List.any_append];generalize ((f.signs.take k).any fun x=>(decide (f.signs[i].kind=1)&&decide (x.kind=1))&&decide (x.part=f.signs[i].part))=A;simp[adq,KL,hk,bm,h,hw,hf,Jd];cases A
  ·by_cases e1:f.signs[i].kind=1<;>by_cases e2:f.signs[k].kind=1<;>simp[e1,e2]
  ·simp
 ·have ht:LL f i f.signs[i]=true↔∃x,x∈List.take i f.signs∧(f.signs[i].kind=1∧x.kind=1)∧x.part=f.signs[i].part:=by simp[LL]
  simp[adq,KL,Jd,h];refine⟨_,eY _ _ _,?_⟩;by_cases a4:wi f.signs[i].day (uu f i) 100000=false∨(i=0∧¬f.signs[i].day=uu f i)
  ·rw[if_pos a4] at hX;rw[if_pos (by simpa using a4)];exact hX
  rw[if_neg a4] at hX;rw[if_neg (by simpa using a4)];refine⟨_,aqB r hr f i h hl,?_⟩;cases a5:Iq r f i
  ·simpa [a5] using hX
  simp[a5] at hX;simp only[ahQ,if_true];rw[←hX];by_cases a6:LL f i f.signs[i]=true
  ·rw[if_pos a6,if_pos (ht.1 a6)]
  ·rw[if_neg a6,if_neg (fun x=>a6 (ht.2 x))]
def GU (a:Act)(to at_ own:Bool):Bool:=
 if a.kind=0∨a.kind=1∨a.kind=2 then(to&&decide (a.at_=-1))&&decide (a.sum=0)
 else if a.kind=3∨a.kind=4∨a.kind=5 then((to&&decide (a.at_=-1))&&wi a.sum 0 1099511627776)&&wi a.form 0 1
 else if a.kind=6 then(to&&own)&&wi a.sum 1 1099511627776
 else if a.kind=9 then(decide (a.to=-1)&&own)&&decide (a.sum=0)
 else(decide (a.to=-1)&&at_)&&decide (a.sum=0)
def Ce (f:File)(a:Act):Bool:=aC a.at_ f.signs.length&&BM f a.at_ a.part
def QP (f:File)(a:Act):Bool:=Ce f a&&decide ((eL f a.at_).who=a.who)
def ud (r:Realm)(f:File)(a:Act):Bool:=
 if aC a.who r.firms.length=false∨(¬a.kind=4∧¬a.form=0) then false else GU a (aC a.to r.firms.length) (Ce f a) (QP f a)
theorem aqx (r:Realm)(hr:Small r)(f:File)(a:Act)(hl:f.signs.length≤100000):ak T 101 [bk r,cZ f,jP a] (.bool (ud r f a)):=by
 refine .of_tree rfl (lA 113 (by kernel_rfl)) ats ?_;have om:=hr.firms;have jC:IntKind.i64.wrap ((r.firms.length:Int)-1)=(r.firms.length:Int)-1:=bU (by omega);have dH:IntKind.i64.wrap ((f.signs.length:Int)-1)=(f.signs.length:Int)-1:=bU (by omega);generalize hX:ud r f a=X;unfold ud QP Ce at hX;simp[TI,jC,dH];refine⟨_,eY _ _ _,?_⟩;rw[←nk];have w7:=eY a.to 0 ((r.firms.length:Int)-1);have Et:=eY a.who 0 ((r.firms.length:Int)-1);rw[←nk] at w7 Et;generalize aC a.to r.firms.length=tt at*;generalize aC a.who r.firms.length=ww at*;have fin:∀at_ own:Bool,(if ww=false∨(¬a.kind=4∧¬a.form=0) then false else GU a tt at_ own)=X→
  if ww=false∨(¬a.kind=4∧¬a.form=0) then X=false
  else if a.kind=0∨a.kind=1∨a.kind=2 then(if tt=true∧a.at_=-1 then D.bool (decide (a.sum=0)) else D.bool false)=D.bool X
  else if a.kind=3∨a.kind=5∨a.kind=4 then
        if tt=true∧a.at_=-1 then
         ∃d,ak (ej tab ext) 52 [D.int a.sum,D.int 0,D.int 1099511627776] d∧
          if(tt=true∧a.at_=-1)∧d.b=true then
             ∃CX,ak (ej tab ext) 52 [D.int a.form,D.int 0,D.int 1] CX∧(if(tt=true∧a.at_=-1)∧d.b=true then CX else D.bool false)=D.bool X
          else(if(tt=true∧a.at_=-1)∧d.b=true then D.none else D.bool false)=D.bool X
        else D.bool false=D.bool X
  else if a.kind=6 then
        if tt=true∧own=true then ∃CX,ak (ej tab ext) 52 [D.int a.sum,D.int 1,D.int 1099511627776] CX∧(if tt=true∧own=true then CX else D.bool false)=D.bool X
        else(if tt=true∧own=true then D.none else D.bool false)=D.bool X
  else if a.kind=9 then(if a.to=-1∧own=true then D.bool (decide (a.sum=0)) else D.bool false)=D.bool X
  else(if a.to=-1∧at_=true then D.bool (decide (a.sum=0)) else D.bool false)=D.bool X:=by
  intro at_ own hX;by_cases p:ww=false∨(¬a.kind=4∧¬a.form=0)
  ·rw[if_pos p] at hX ⊢;exact hX.symm
  rw[if_neg p] at hX ⊢;unfold GU at hX;by_cases k0:a.kind=0∨a.kind=1∨a.kind=2
  ·rw[if_pos k0] at hX ⊢;rw[←hX];by_cases e:tt=true∧a.at_=-1
   ·simp[e]
   ·rw[if_neg e];cases tt<;>simp at e ⊢;simp[e]
  rw[if_neg k0] at hX ⊢;by_cases k3:a.kind=3∨a.kind=4∨a.kind=5
  ·rw[if_pos k3] at hX;rw[if_pos (by omega),←hX];by_cases e:tt=true∧a.at_=-1
   ·rw[if_pos e];refine⟨_,eY _ _ _,?_⟩;cases wi a.sum 0 1099511627776
    ·simp
    ·simp[e];exact eY _ _ _
   ·rw[if_neg e];cases tt<;>simp at e ⊢;simp[e]
  rw[if_neg k3] at hX;rw[if_neg (by omega)];by_cases k6:a.kind=6
  ·rw[if_pos k6] at hX ⊢;rw[←hX];by_cases e:tt=true∧own=true
   ·rw[if_pos e];refine⟨_,eY _ _ _,?_⟩;simp[e]
   ·rw[if_neg e,if_neg e];cases tt<;>cases own<;>simp at e ⊢
  rw[if_neg k6] at hX ⊢;by_cases k9:a.kind=9
  ·rw[if_pos k9] at hX ⊢;rw[←hX];cases own<;>by_cases e:a.to=-1<;>simp[e]
  rw[if_neg k9] at hX ⊢;rw[←hX];cases at_<;>by_cases e:a.to=-1<;>simp[e]
 cases h1:aC a.at_ f.signs.length
 ·have hf:=fin false false (by simpa [h1] using hX);simp at hf ⊢;refine⟨_,w7,_,Et,?_⟩;simpa using hf
 have cw:0≤a.at_∧a.at_<f.signs.length:=by simpa [aC] using h1
 have h2:a.at_.toNat<f.signs.length:=by omega
 have hs:eL f a.at_=f.signs[a.at_.toNat]:=by simp[eL,h2]
 simp[cw];refine⟨_,acp f _ _ (.inr cw),_,w7,_,Et,?_⟩;rw[h1,hs] at hX;have hf:=fin _ _ hX;cases h3:BM f a.at_ a.part
 ·rw[h3] at hf;simpa using hf
 ·rw[h3] at hf;simpa [h2] using hf
theorem JN (a b:Int):(if a<b then b else a)=max a b:=by split<;>omega
theorem P1 (a b:Int):(if a<b then D.int b else D.int a)=D.int (max a b):=by
 rw[←JN];split<;>rfl
def PM (f:File)(i:Nat)(a:Act):Int:=
 let x:=if a.at_=-1 then f.bill.day else max f.bill.day (eL f a.at_).day
 if i=0 then x else max x (f.acts.getD (i-1) default).day
def uf (r:Realm)(f:File)(i:Nat):Int:=
 let a:=f.acts.getD i default
 if wi a.part 0 (f.bill.parts-1)=false then 15
 else if aC a.city r.cities.length=false∨wi a.kind 0 9=false then 1
 else if ud r f a=false then 14
 else if wi a.day (PM f i a) 100000=false then 13 else 0
theorem V5 {r:Realm}{f:File}{a:Act}(h:ud r f a=true)(hn:¬a.at_=-1):0≤a.at_∧a.at_<f.signs.length:=by
 unfold ud at h;split at h
 ·cases h
 have key:Ce f a=true→0≤a.at_∧a.at_<f.signs.length:=fun e=>by
  unfold Ce at e;simp only[ao] at e;simpa [aC] using e.1
 unfold GU QP at h
 repeat' split at h
 all_goals simp only[ao,decide_eq_true_eq] at h
 ·exact absurd h.1.2 hn
 ·exact absurd h.1.1.2 hn
 ·exact key h.1.2.1
 ·exact key h.1.2.1
 ·exact key h.1.2
theorem aqy (r:Realm)(hr:Small r)(f:File)(hp:1≤f.bill.parts∧f.bill.parts≤4)(hl:f.signs.length≤100000)(DX:f.acts.length≤100000):ak T 53 [bk r,cZ f] (.int (fQ f.acts.length (uf r f))):=by
 refine .of_tree rfl (lA 112 (by kernel_rfl)) att ?_;have N8:=hr.cities;have dH:IntKind.i64.wrap ((r.cities.length:Int)-1)=(r.cities.length:Int)-1:=bU (by omega);have Pn:IntKind.i64.wrap (f.bill.parts-1)=f.bill.parts-1:=bU (by omega);simp[TJ];refine oZ f.acts.length (uf r f) (fun k=>[.int 0,.int k]) (fun _=>[]) ?_ (fun k hk ho=>?_) (fun k hk ho hb=>?_) (fun hj=>?_)
 ·simp
 case' refine_2=>have hb:uf r f k=uf r f k:=rfl
 case' refine_3=>rw[hb]
 case refine_4=>simp[ado,KJ,hj]
 all_goals
  have hw:=bp hk (by omega);have hs:f.acts.getD k default=f.acts[k]:=by simp[hk]
  clear hb;generalize hX:uf r f k=X at*;unfold uf at hX;simp only[hs] at hX;simp[ado,KJ,hk,dH,Pn,hw];refine⟨_,eY _ _ _,?_⟩;cases a1:wi f.acts[k].part 0 (f.bill.parts-1)
  ·simp[a1] at hX ⊢
   first|exact hX|(exfalso;omega)
  simp[a1] at hX ⊢;refine⟨_,eY _ _ _,?_⟩;rw[nk] at hX;cases a2:wi f.acts[k].city 0 ((r.cities.length:Int)-1)
  ·simp[a2] at hX ⊢
   first|exact hX|(exfalso;omega)
  simp[a2] at hX ⊢;refine⟨_,eY _ _ _,?_⟩;cases a3:wi f.acts[k].kind 0 9
  ·simp[a3] at hX ⊢
   first|exact hX|(exfalso;omega)
  simp[a3] at hX ⊢;refine⟨_,aqx r hr f f.acts[k] hl,?_⟩;cases a4:ud r f f.acts[k]
  ·simp[a4] at hX ⊢
   first|exact hX|(exfalso;omega)
  simp[a4] at hX ⊢;unfold PM at hX;by_cases k0:k=0
  ·subst k0;by_cases e1:f.acts[0].at_=-1
   ·simp[e1] at hX;simp[e1];refine⟨_,eY _ _ _,?_⟩;split at hX
    ·rename_i e;simp[e]
     first|exact hX|(exfalso;omega)
    ·rename_i e
     first|(exfalso;omega)|simp[e]
   ·obtain⟨h5,h6⟩:=V5 a4 e1;have h7:f.acts[0].at_.toNat<f.signs.length:=by omega
    have h8:eL f f.acts[0].at_=f.signs[f.acts[0].at_.toNat]:=by simp[eL,h7]
    simp[e1,h8] at hX;simp[e1,h5,h6,h7,P1,JN];refine⟨_,eY _ _ _,?_⟩;split at hX
    ·rename_i e;simp[e]
     first|exact hX|(exfalso;omega)
    ·rename_i e
     first|(exfalso;omega)|simp[e]
  ·have bu:IntKind.i64.wrap ((k:Int)-1)=(k:Int)-1:=bU (by omega);have cm:((k:Int)-1).toNat=k-1:=by omega
   have mm:k-1<f.acts.length:=by omega
   have Ap:0<k:=by omega
   by_cases e1:f.acts[k].at_=-1
   ·simp[k0,e1,mm] at hX;simp[e1,Ap,bu,cm,mm,P1,JN];refine⟨by omega,_,eY _ _ _,?_⟩;split at hX
    ·rename_i e;simp[e]
     first|exact hX|(exfalso;omega)
    ·rename_i e
     first|(exfalso;omega)|simp[e]
   ·obtain⟨h5,h6⟩:=V5 a4 e1;have h7:f.acts[k].at_.toNat<f.signs.length:=by omega
    have h8:eL f f.acts[k].at_=f.signs[f.acts[k].at_.toNat]:=by simp[eL,h7]
    simp[k0,e1,mm,h8] at hX;simp[e1,Ap,bu,cm,mm,h5,h6,h7,P1,JN];refine⟨by omega,_,eY _ _ _,?_⟩;split at hX
    ·rename_i e;simp[e]
     first|exact hX|(exfalso;omega)
    ·rename_i e
     first|(exfalso;omega)|simp[e]
end Rm
namespace Rm
open Go Go.Proofs Cx
def pJ (a b:Int):Int:=if a<b then-1 else if b<a then 1 else 0
theorem ZQ (a:Int):ak T 145 [.int a] (.bool false):=by
 refine .of_tree rfl (lA 116 (by kernel_rfl)) as9 ?_;simp[Tq]
theorem VF (a b:Int):ak T 103 [.int a,.int b] (.int (pJ a b)):=by
 refine .of_tree rfl (lA 115 (by kernel_rfl)) as7 ?_;simp[To];refine⟨_,ZQ a,_,ZQ b,?_⟩;unfold pJ;by_cases h1:a<b
 ·simp[h1]
 by_cases h2:b<a<;>simp[h1,h2]
theorem afO (l:List Int)(hl:l.length≤100000):ak T 102 [ints l] (.int (fQ l.length fun k=>l.getD k 0)):=by
 refine .of_tree rfl (lA 117 (by kernel_rfl)) as8 ?_;simp[Tp];refine oZ l.length (fun k=>l.getD k 0) (fun k=>[.int 0,.int k]) (fun _=>[]) ?_ (fun k hk ho=>?_) (fun k hk ho hb=>?_) (fun hj=>?_)
 ·simp
 ·have hw:=bp hk (by omega);have hx:l[k]=0:=by simpa [hk] using ho
  simp[RG,Fk,hk,hx,hw]
 ·have hx:¬l[k]=0:=by simpa [hk] using ho
  simp only[aJ] at hb ⊢;rw[hb];simp[RG,Fk,hk,hx]
 ·simp only[aJ] at hj ⊢;rw[hj];simp[RG,Fk]
theorem or2 (a b:Int):(fQ 2 fun k=>[a,b].getD k 0)=if a=0 then b else a:=by
 have e:List.range 2=[0,1]:=rfl;unfold fQ;rw[e];by_cases ha:a=0<;>by_cases hb:b=0<;>simp[ha,hb]
def yB (x y:Fact):Prop:=x.at_<y.at_∨(x.at_=y.at_∧x.kind<y.kind)
instance (x y:Fact):Decidable (yB x y):=by unfold yB;infer_instance
theorem af2 (x y:Fact):0≤(if pJ x.at_ y.at_=0 then pJ x.kind y.kind else pJ x.at_ y.at_)↔¬yB x y:=by
 unfold pJ yB
 repeat' split
 all_goals omega
def wx (f:File)(i:Nat):Int:=
 let x:=f.facts.getD i default
 if wi x.kind 0 4=false then 1 else if aC x.at_ f.signs.length=false then 1 else if wi x.n 0 1=false then 1
 else if i=0 then 0 else if yB (f.facts.getD (i-1) default) x then 0 else 5
theorem aqA (f:File)(hl:f.signs.length≤100000)(hlf:f.facts.length≤100000):ak T 54 [cZ f] (.int (fQ f.facts.length (wx f))):=by
 refine .of_tree rfl (lA 114 (by kernel_rfl)) atv ?_;have dH:IntKind.i64.wrap ((f.signs.length:Int)-1)=(f.signs.length:Int)-1:=bU (by omega);simp[TL];refine oZ f.facts.length (wx f) (fun k=>[.int 0,.int k]) (fun _=>[]) ?_ (fun k hk ho=>?_) (fun k hk ho hb=>?_) (fun hj=>?_)
 ·simp
 case' refine_2=>have hb:wx f k=wx f k:=rfl
 case' refine_3=>rw[hb]
 case refine_4=>simp[adp,KK,hj]
 all_goals
  have hw:=bp hk (by omega);have hs:f.facts.getD k default=f.facts[k]:=by simp[hk]
  clear hb;generalize hX:wx f k=X at*;unfold wx at hX;simp only[hs] at hX;simp[adp,KK,hk,dH,hw];refine⟨_,eY _ _ _,?_⟩;cases a1:wi f.facts[k].kind 0 4
  ·simp[a1] at hX ⊢
   first|exact hX|(exfalso;omega)
  simp[a1] at hX ⊢;refine⟨_,eY _ _ _,?_⟩;rw[nk] at hX;cases a2:wi f.facts[k].at_ 0 ((f.signs.length:Int)-1)
  ·simp[a2] at hX ⊢
   first|exact hX|(exfalso;omega)
  simp[a2] at hX ⊢;refine⟨_,eY _ _ _,?_⟩;cases a3:wi f.facts[k].n 0 1
  ·simp[a3] at hX ⊢
   first|exact hX|(exfalso;omega)
  simp[a3] at hX ⊢;by_cases k0:k=0
  ·subst k0;simp at hX ⊢
   first|(exfalso;omega)|done
  ·have bu:IntKind.i64.wrap ((k:Int)-1)=(k:Int)-1:=bU (by omega);have cm:((k:Int)-1).toNat=k-1:=by omega
   have mm:k-1<f.facts.length:=by omega
   simp[k0,mm] at hX;simp[k0,bu,cm,mm];refine⟨by omega,_,VF _ _,_,VF _ _,?_⟩;have ho:=afO [pJ f.facts[k-1].at_ f.facts[k].at_,pJ f.facts[k-1].kind f.facts[k].kind] (by simp);simp only[nL,yx] at ho;rw[or2] at ho;refine⟨_,ho,?_⟩;have ha:=af2 f.facts[k-1] f.facts[k];generalize (if pJ f.facts[k-1].at_ f.facts[k].at_=0 then pJ f.facts[k-1].kind f.facts[k].kind else pJ f.facts[k-1].at_ f.facts[k].at_)=n at*;clear ho;by_cases e:yB f.facts[k-1] f.facts[k]
   ·have hn:¬0≤n:=fun h=>ha.1 h e;simp[e] at hX;simp[hn]
    first|done|(exfalso;omega)
   ·have hn:0≤n:=ha.2 e;simp[e] at hX;simp[hn]
    first|exact hX|(exfalso;omega)
def yD (f:File)(i:Nat):Int:=
 let x:=f.alters.getD i default
 if wi x.at_ ((if i=0 then 0 else(f.alters.getD (i-1) default).at_)+1) f.signs.length=false then 1 else if wi x.sum 1 1099511627776=false then 3 else 0
structure PaperOK (r:Realm) (f:File):Prop where
 full:(f.signs.length≤40∧f.alters.length≤4)∧f.acts.length≤100∧f.facts.length≤200
 bill:BillOK r f.bill
 ne:f.signs≠[]
 signs:fQ f.signs.length (Gn r f)=0
 alters:fQ f.alters.length (yD f)=0
 acts:fQ f.acts.length (uf r f)=0
 facts:fQ f.facts.length (wx f)=0
theorem aqw (r:Realm)(hs:Small r)(f:File)(NN:f.OK):∃d,ak T 25 [bk r,cZ f] d∧pv (PaperOK r f) d:=by
 refine ak.ex_of_tree rfl agr atr ?_;simp[TH];by_cases hf:(f.signs.length≤40∧f.alters.length≤4)∧f.acts.length≤100∧f.facts.length≤200
 case neg=>
  rw[if_pos (by omega)];exact .no (fun h=>hf h.full) (by decide)
 rw[if_neg (by omega)];obtain⟨d,hb,e,rfl,he⟩:=avs r hs f.bill;refine⟨_,hb,?_⟩;by_cases e0:e=0
 case neg=>
  simp[e0];exact .no (fun h=>e0 (he.2 h.bill)) e0
 have IM:=he.1 e0;simp[e0];by_cases aw:f.signs=[]
 ·simp[aw];exact .no (fun h=>h.ne aw) (by decide)
 simp[aw];refine oZ f.signs.length (Gn r f) (fun k=>[.int 0,.int k]) (fun _=>[]) ?_ (fun k hk ho=>?_) (fun k hk ho hb=>?_) (fun hj=>?_)
 ·simp
 ·have hw:=bp hk (by omega);simp[RJ,Fm,hk,hw];refine⟨_,aco r hs f IM.parts k hk (by omega),?_⟩;simp[ho]
 ·simp[RJ,Fm,hk];refine⟨_,aco r hs f IM.parts k hk (by omega),?_⟩;simp[ho];exact .no (fun h=>ho (by rw[←hb];exact h.signs)) ho
 simp[RJ,Fm];have kT:∀k,k<f.alters.length→(∀j,j<k→yD f j=0)→IntKind.i64.wrap ((if k=0 then 0 else(f.alters.getD (k-1) default).at_)+1)=(if k=0 then 0 else(f.alters.getD (k-1) default).at_)+1:=by
  intro k hk hj;refine bU ?_;by_cases k0:k=0
  ·rw[if_pos k0];omega
  ·rw[if_neg k0];have h1:=hj (k-1) (by omega);have bu:k-1<f.alters.length:=by omega
   have h2:=(NN.2.2.1.2 _ (cS bu)).1;have h3:f.alters.getD (k-1) default=f.alters[k-1]:=by simp[bu]
   unfold yD at h1;rw[h3] at h1 ⊢;simp only at h1;generalize (if k-1=0 then(0:Int) else(f.alters.getD (k-1-1) default).at_)=L0 at h1;split at h1
   ·cases h1
   ·rename_i hh;simp[wi] at hh;unfold aW at h2;omega
 refine aP.scan f.alters.length (fun k=>yD f k=0) (fun k=>[.int 0,.int (if k=0 then 0 else(f.alters.getD (k-1) default).at_),.int k]) (fun _=>[]) ?_ (fun k hk rj ho=>?_) (fun k hk rj ho=>?_) (fun wM=>?_)
 ·simp
 ·have hw:=bp hk (by omega);have hl:=kT k hk rj;generalize hL:(if k=0 then 0 else(f.alters.getD (k-1) default).at_)=L at*;have hs:f.alters.getD k default=f.alters[k]:=by simp[hk]
  unfold yD at ho;simp only[hs,hL] at ho;simp[RK,Fo,hk,hl];refine⟨_,eY _ _ _,?_⟩;cases a1:wi f.alters[k].at_ (L+1) f.signs.length
  ·simp[a1] at ho
  simp[a1] at ho ⊢;refine⟨_,eY _ _ _,?_⟩;simp[ho,hw]
 ·have hl:=kT k hk rj;have DQ:=Nz hk rj ho;generalize hL:(if k=0 then 0 else(f.alters.getD (k-1) default).at_)=L at*;have hs:f.alters.getD k default=f.alters[k]:=by simp[hk]
  have bad:∀e:Int,e≠0→pv (PaperOK r f) (.int e):=fun e h=>.no (fun h=>ho (by rw[←DQ];exact h.alters)) h;unfold yD at ho;simp only[hs,hL] at ho;simp[RK,Fo,hk,hl];refine⟨_,eY _ _ _,?_⟩;cases a1:wi f.alters[k].at_ (L+1) f.signs.length
  ·simp;exact bad 1 (by decide)
  simp[a1] at ho ⊢;refine⟨_,eY _ _ _,?_⟩;simp[ho];exact bad 3 (by decide)
 have wM:=NA wM;simp[RK,Fo];refine⟨_,aqy r hs f IM.parts (by omega) (by omega),?_⟩;by_cases e3:fQ f.acts.length (uf r f)=0
 case neg=>
  simp[e3];exact .no (fun h=>e3 h.acts) e3
 simp[e3];refine⟨_,aqA f (by omega) (by omega),?_⟩;exact⟨_,rfl,fun h=>⟨hf,IM,aw,hj,wM,e3,h⟩,fun h=>h.facts⟩
end Rm
namespace Rm
open Go Go.Proofs Cx
end Rm
namespace Rm
open Go Go.Proofs Cx
end Rm
namespace Rm
open Go Go.Proofs Cx
structure GB (r:Realm) (f:File) (i:Nat) (a:Act):Prop where
 part:0≤a.part∧a.part≤f.bill.parts-1
 city:0≤a.city∧a.city<r.cities.length
 kind:0≤a.kind∧a.kind≤9
 fits:ud r f a=true
 day:PM f i a≤a.day∧a.day≤100000
end Rm
namespace Rm
open Go Go.Proofs Cx
end Rm
namespace Rm
open Go Go.Proofs Cx
end Rm
namespace Rm
open Go Go.Proofs Cx
end Rm
namespace Rm
open Go Go.Proofs Cx
end Rm
namespace Rm
open Go Go.Proofs Cx
end Rm
namespace Rm
open Go Go.Proofs Cx
instance (a b:Int):Decidable (aeg a b):=by unfold aeg;infer_instance
end Rm
namespace Rm
open Go Go.Proofs Cx
theorem af0 (f:File)(l:List Fact)(hf:f.facts.length≤1000)(hl:l.length≤1000):ak T 27 [cZ f,facts l] (cZ (gE f l)):=by
 refine .of_tree rfl (lA 118 (by kernel_rfl)) atg ?_;simp[Tw];refine aP.forRounds l.length (fun k=>[.int k]) (fun k=>[cZ (gE f (l.take k))]) ?_ (fun k hk=>?_) ?_
 ·simp;rfl
 ·have hw:=bp hk (by omega);have hlen:=V7 f (l.take k);rw[dW] at hlen;have qh:(gE f (l.take k)).signs=f.signs:=(GW f (l.take k)).same.signs;rw[afZ f l hk];generalize gE f (l.take k)=g at*;simp[adn,KI,hk,hw];generalize l[k]=x;have hm:((((0≤x.kind∧x.kind<5)∧0≤x.at_)∧x.at_<(g.signs.length:Int))∧0≤x.n)∧x.n≤1↔mC g x=true:=by
   simp[mC,and_assoc]
  by_cases h:mC g x=true
  ·rw[if_pos (hm.2 h),if_pos h];refine⟨_,afR g x (by omega),?_⟩;simp
  ·rw[if_neg (fun e=>h (hm.1 e)),if_neg h]
 ·simp[adn,KI]
end Rm
namespace Rm
open Go Go.Proofs Cx
theorem aff (f:File)(x:Fact):(bJ (jK f x) x.kind x.at_).known=true:=by
 unfold jK;by_cases hk:(bJ f x.kind x.at_).known=true
 ·rw[if_pos hk];exact hk
 rw[if_neg hk];have key:∀y,fP x.kind x.at_ y=true→y.kind=x.kind∧y.at_=x.at_:=fun y hy=>by simpa [fP] using hy
 have h:(qF f.facts x).find? (fP x.kind x.at_)=some x:=by
  unfold qF;rw[nI,LW,Nx (q:=gL x) (fun y hy=>by obtain⟨h1,h2⟩:=key y hy;simp[gL];omega)];simp[fP]
 unfold bJ;rw[h];exact tQ _
theorem V6 (x:Fact):∀(l:List Fact) (g:File),x∈l→mC g x=true→(bJ (gE g l) x.kind x.at_).known=true
 |[],g,hx,hm=>by cases hx
 |y::l,g,hx,hm=>by
  have e:gE g (y::l)=gE (if mC g y=true then jK g y else g) l:=rfl;rw[e];rcases cT.1 hx with rfl|hx
  ·rw[if_pos hm,(GW (jK g x) l).le _ _ (aff g x)];exact aff g x
  ·have hs:∀g':File,g'.signs=g.signs→mC g' x=true:=fun g' e=>by unfold mC at hm ⊢;rw[e];exact hm
   refine V6 x l _ hx (hs _ ?_);split
   ·exact(afg g y).signs
   ·rfl
theorem afb {r:Realm}{c:Case}(h:bY r c≠[]):(kc c=true∧∃s,bY r c=kj r c s):=by
 unfold bY at h ⊢;split at h
 ·rename_i hh;exact⟨hh.1,_,by rw[if_pos hh]⟩
 ·exact absurd rfl h
theorem ake (r:Realm)(c:Case)(s:Sign)(i:Nat)(hi:i<20)(h0:(bJ c.file 0 c.sign).known=true)(h1:(bJ c.file 1 c.sign).known=true)(h2:(bJ c.file 2 c.sign).known=true)(h3:(bJ c.file 3 (dP c)).known=true)(h4:(bJ c.file 4 (dP c)).known=true):(aF (kj r c s) i).known=true:=by
 unfold kj ls lZ;rcases i with _|_|_|_|_|_|_|_|_|_|_|_|_|_|_|_|_|_|_|_|i<;>first|(simp[aF,tQ];done)|(simp[aF];assumption)|omega
theorem akf (r:Realm)(c:Case)(s:Sign)(i:Nat)(hi:i<15):(aF (kj r c s) i).known=true:=by
 unfold kj ls lZ;rcases i with _|_|_|_|_|_|_|_|_|_|_|_|_|_|_|i<;>first|(simp[aF,tQ];done)|omega
theorem akg (r:Realm)(c:Case)(s:Sign):(kj r c s).length=20:=by simp[kj,ls,lZ]
theorem ai3 {r:Realm}{forum q:Int}{c:Case}(h:(cY r forum q c).1.order≠-1):(cY r forum q c).2=bY r (bG c)∧bY r (bG c)≠[]:=by
 unfold cY at h ⊢;split at h
 ·exact absurd rfl h
 split at h
 ·exact absurd rfl h
 split at h
 ·exact absurd rfl h
 rename_i h1 h2 h3;rw[if_neg h1,if_neg h2,if_neg h3];exact⟨rfl,h1⟩
theorem Xw {r:Realm}(hr:Right r)(forum q:Int)(c:Case)(h:(cY r forum q c).1.order=-1):(cY r forum q c).1.err≠0:=by
 unfold cY at h ⊢;by_cases h1:bY r (bG c)=[]
 ·rw[if_pos h1];simp[AP]
 rw[if_neg h1] at h ⊢;by_cases h2:(nE q).2=false
 ·rw[if_pos h2];simp[AP]
 rw[if_neg h2] at h ⊢;by_cases h3:fZ r forum (bG c)=[]
 ·rw[if_pos h3];simp[AP]
 rw[if_neg h3] at h ⊢;have I8:(fZ r forum (bG c)).length≤100000:=by have:=QX r forum (bG c);omega
 have alX:=PK hr (a:=forum) (q:=q) (l:=fZ r forum (bG c)) I8;generalize ji r forum q (fZ r forum (bG c))=L at*;intro h0;have h0:L.2=0:=h0;have h:(if L.2=0 then dp L.1 else-1)=-1:=h;rw[if_pos h0] at h;have:=(alX h0).2;omega
theorem aaB {r:Realm}{forum q:Int}{c:Case}{y:Int}(hy:y∈oK r forum q c):15≤y∧y≤19∧(bY r (bG c)).length=20∧(cellAt (bY r (bG c)) y).known=false:=by
 have ho:(cY r forum q c).1.order≠-1:=fun e=>by unfold oK at hy;rw[if_pos e] at hy;cases hy
 obtain⟨hc,aw⟩:=ai3 ho;obtain⟨_,s,hs⟩:=afb aw;obtain⟨⟨h0,h1⟩,hv⟩:=apw hy;rw[hc] at hv;have hl:(bY r (bG c)).length=20:=by rw[hs];exact akg _ _ _
 have hk:=avg h0 hv;rw[hl] at hk;have hk:(cellAt (bY r (bG c)) y).known=false:=by
  rcases hk with h|h
  ·omega
  ·exact h
 refine⟨?_,h1,hl,hk⟩;refine vJ fun e=>?_;have:=akf r (bG c) s y.toNat (by omega);rw[←hs] at this;have e2:aF (bY r (bG c)) y.toNat=cellAt (bY r (bG c)) y:=rfl;rw[e2,hk] at this;cases this
theorem apu {r:Realm}(hr:Right r)(forum q:Int)(c:Case)(hf:kc (bG c)=true→(∀k,k=0∨k=1∨k=2→(bJ (dY c.file c.day) k c.sign).known=true)∧∀k,k=3∨k=4→(bJ (dY c.file c.day) k (dP c)).known=true):
 (fo r forum q c).err≠0∨(fo r forum q c).cell.known=true:=by
 by_cases he:(fo r forum q c).err=0
 ·right;cases hk:(fo r forum q c).cell.known with
  |true=>rfl
  |false=>
   exfalso;have hn:=(aaD (Xw hr forum q c)).2 ⟨he,hk⟩;obtain⟨y,hy⟩:=List.exists_mem_of_ne_nil _ hn;obtain⟨y0,y1,hl,hc⟩:=aaB hy;have aw:bY r (bG c)≠[]:=fun e=>by rw[e] at hl;cases hl
   obtain⟨hb,s,hs⟩:=afb aw;obtain⟨k1,k2⟩:=hf hb;have:=ake r (bG c) s y.toNat (by omega) (k1 0 (by simp)) (k1 1 (by simp)) (k1 2 (by simp)) (k2 3 (by simp)) (k2 4 (by simp));rw[←hs] at this;have e2:aF (bY r (bG c)) y.toNat=cellAt (bY r (bG c)) y:=rfl;rw[e2,hc] at this;cases this
 ·exact .inl he
def gF (c:Case)(g h:Nat→Int)(n:Nat):List Fact:=(List.range n).flatMap fun k:Nat=>[⟨k,c.sign,g k⟩,⟨k,dP c,h k⟩]
theorem We (c:Case)(g h:Nat→Int)(n:Nat):gF c g h (n+1)=gF c g h n++[⟨n,c.sign,g n⟩,⟨n,dP c,h n⟩]:=by
 unfold gF;rw[VW,List.flatMap_append];simp
theorem GX (c:Case)(g h:Nat→Int):∀n,(gF c g h n).length=2*n
 |0=>rfl
 |n+1=>by rw[We,kL,GX c g h n];simp;omega
theorem Wf (c:Case)(g h:Nat→Int)(k:Nat)(hk:k<5):(⟨k,c.sign,g k⟩:Fact)∈gF c g h 5∧(⟨k,dP c,h k⟩:Fact)∈gF c g h 5:=by
 unfold gF;simp only[j7,bZ];exact⟨⟨k,hk,by simp⟩,⟨k,hk,by simp⟩⟩
theorem af5 {r:Realm}(hr:Right r)(forum q:Int)(c:Case)(g h:Nat→Int)(hg:∀i,0≤g i∧g i≤1)(hi:∀i,0≤h i∧h i≤1):
 (fo r forum q (gf c (gE c.file (gF c g h 5)))).err≠0∨(fo r forum q (gf c (gE c.file (gF c g h 5)))).cell.known=true:=by
 have hm:=GW c.file (gF c g h 5);refine apu hr forum q _ fun hb=>?_;have hs:(kF c.day (gE c.file (gF c g h 5)).signs)=kF c.day c.file.signs:=by rw[hm.same.signs]
 have ew:aC c.sign (kF c.day c.file.signs).length=true∧-1≤c.holder∧dP c<(kF c.day c.file.signs).length:=by
  have e:(bG (gf c (gE c.file (gF c g h 5)))).file.signs=kF c.day c.file.signs:=hs;unfold kc at hb;rw[e] at hb;simp only[ao,decide_eq_true_eq] at hb;exact⟨hb.1.1.1,hb.1.1.2,hb.1.2⟩
 obtain⟨b1,b2,b3⟩:=ew;have hh:0≤dP c:=by unfold dP;split<;>omega
 have hle:(kF c.day c.file.signs).length≤c.file.signs.length:=(List.takeWhile_sublist _).length_le;have Wt:0≤c.sign∧c.sign<(kF c.day c.file.signs).length:=by simpa [aC] using b1
 have key:∀(k:Nat) (a:Int),k<5→0≤a→a<(kF c.day c.file.signs).length→(∃n,(0≤n∧n≤1)∧(⟨k,a,n⟩:Fact)∈gF c g h 5)→(bJ (dY (gE c.file (gF c g h 5)) c.day) k a).known=true:=by
  intro k a hk h0 h1 ⟨n,hn,hx⟩;rw[Nu,hs,if_pos (by simp[aC];omega)];refine V6 ⟨k,a,n⟩ _ _ hx ?_;simp[mC];omega
 refine⟨fun k hk=>?_,fun k hk=>?_⟩
 ·obtain⟨m,rfl,D2⟩:∃m:Nat,k=m∧m<5:=⟨k.toNat,by omega,by omega⟩
  exact key m c.sign D2 Wt.1 Wt.2 ⟨_,hg _,(Wf c g h m D2).1⟩
 ·obtain⟨m,rfl,D2⟩:∃m:Nat,k=m∧m<5:=⟨k.toNat,by omega,by omega⟩
  exact key m (dP c) D2 hh b3 ⟨_,hi _,(Wf c g h m D2).2⟩
end Rm
namespace Rm
open Go Go.Proofs Cx
theorem Wg (n:Int):0≤cK .and .i64 n 1∧cK .and .i64 n 1≤1:=by
 have h1:(BitVec.ofInt 64 n&&& BitVec.ofInt 64 1).toNat=(BitVec.ofInt 64 n).toNat%2:=by
  rw[BitVec.toNat_and,show(BitVec.ofInt 64 1).toNat=1 from rfl,Nat.and_one_is_mod]
 have h3:cK .and .i64 n 1=IntKind.i64.wrap (((BitVec.ofInt 64 n&&& BitVec.ofInt 64 1).toNat:Nat):Int):=rfl;rw[h3,h1,bU (by omega)];omega
def nU (n:Int)(k:Nat):Int:=cK .and .i64 (cK .rem .i64 (cK .shr .i64 n k) 2) 1
def nV (n:Int)(k:Nat):Int:=cK .and .i64 (cK .shr .i64 n ((k:Int)+5)) 1
theorem afp (r:Realm)(hr:r.OK)(forum q:Int)(c:Case)(NN:c.OK)(n:Nat)(hn:n≤65535):ak T 5 [bk r,.int forum,.int q,dZ c,.v (.int .u16 n)] (.bool true):=by
 refine .of_tree rfl (lA 0 (by kernel_rfl)) ate ?_;simp[Tu];refine⟨_,ar9,_,agQ r hr c.file,?_⟩;cases hg:zV r c.file
 ·simp
 have G:=akn hr hg;have hs:Small r:=G.rightD.small;obtain⟨d,hd,e,rfl,he⟩:=aqw r hs c.file NN.1;simp;refine⟨_,hd,?_⟩;by_cases e0:e=0
 case neg=>simp[e0]
 have hP:=he.1 e0;have jz:c.file.facts.length≤200:=hP.full.2.2;simp[e0];have hA:=G0 r G.right forum q c G.few;have hN:=agn r G.right forum q c G.few;have NP:=Sy c.file c.day (by have:=G.few.signs;omega) (by have:=G.few.acts;omega) (by have:=G.few.alters;omega) (by have:=G.few.facts;omega);have hV:=adG r (bG c) (by have:=(G.few.at_ c.day).facts;show(dY c.file c.day).facts.length≤_;omega) (by have:=(G.few.at_ c.day).alters;show(dY c.file c.day).alters.length≤_;omega);refine⟨_,hA,_,hN,_,NP,?_⟩;simp;refine⟨_,hV,?_⟩;have kl:∀y,y∈oK r forum q c→15≤y∧y≤19∧(bY r (bG c)).length=20∧(cellAt (bY r (bG c)) y).known=false:=fun y=>aaB;have hlen:=apv r forum q c;have YX:=aaD (r:=r) (forum:=forum) (q:=q) (c:=c) (Xw G.right forum q c);have hm:=GW c.file (gF c (nU n) (nV n) 5);have D4:=(agp r forum q (c:=c) hm.same ⟨fun k=>(hm.at_ c.day).le k _,fun k=>(hm.at_ c.day).le k _⟩).2;have aO:=af5 G.right forum q c (nU n) (nV n) (fun i=>Wg _) (fun i=>Wg _);have akR:=af0 c.file (gF c (nU n) (nV n) 5) (by omega) (by rw[GX];omega);have alu:FewS (gE c.file (gF c (nU n) (nV n) 5)):=by
  have:=V7 c.file (gF c (nU n) (nV n) 5);rw[GX] at this;exact⟨by rw[hm.same.signs];exact G.few.signs,by rw[hm.same.alters];exact G.few.alters,by rw[hm.same.acts];exact G.few.acts,by omega⟩
 have hB:=G0 r G.right forum q (gf c (gE c.file (gF c (nU n) (nV n) 5))) alu;generalize fo r forum q (gf c (gE c.file (gF c (nU n) (nV n) 5)))=b at*;generalize azT:gE c.file (gF c (nU n) (nV n) 5)=g at*;generalize fo r forum q c=a at*;generalize oK r forum q c=l at*;generalize bY r (bG c)=cs at*;refine aP.forRounds l.length (fun k=>[.bool false,.int k]) (fun _=>[]) ?_ (fun k hk=>?_) ?_
 ·simp
 ·have hw:=bp hk (by omega);obtain⟨y0,y1,hl,hc⟩:=kl l[k] (cS hk);simp[adl,KG,hk,hw];have af:l[k].toNat<cs.length:=by omega
  have IQ:cs[l[k].toNat].known=false:=by simpa [cellAt,af] using hc
  simp[af,IQ];omega
 ·simp[adl,KG];have ak9:decide (0<l.length)=(decide (a.err=0)&& !a.cell.known):=by
   by_cases hl:l=[]
   ·have:¬(a.err=0∧a.cell.known=false):=fun h=>YX.2 h hl;subst hl;cases e:a.cell.known<;>simp_all
   ·obtain⟨h1,h2⟩:=YX.1 hl;have:0<l.length:=GM.2 hl;simp[h1,h2,this]
  refine⟨ak9,?_⟩;have hmx:(if c.holder<0 then D.int 0 else D.int c.holder)=D.int (dP c):=by unfold dP;split<;>rfl
  have hwn:IntKind.i64.wrap (n:Int)=n:=bU (by omega);refine aP.forRounds 5 (fun k=>[.none,.int k]) (fun k=>[facts (gF c (nU n) (nV n) k)]) ?_ (fun k hk=>?_) ?_
  ·simp;rfl
  ·have hw:=bp (show k<5 by omega) (by omega);have hw5:IntKind.i64.wrap ((k:Int)+5)=(k:Int)+5:=bU (by omega);have hlen:=GX c (nU n) (nV n) k;rw[We];generalize gF c (nU n) (nV n) k=A at*;have bm:(k:Int)<5:=by omega
   simp[adm,KH,bm,hw,hw5,hwn,hmx];refine⟨by omega,by omega,by omega,?_⟩;simp[facts,nU,nV];exact⟨rfl,rfl⟩
  ·simp[adm,KH];refine⟨_,akR,_,hB,?_⟩;simp[D4];intro h0;rcases aO with h|h
   ·exact absurd (D4.trans h0) h
   ·exact h
end Rm
