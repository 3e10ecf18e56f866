/-
  Shared texts of this claim.
-/
import Derived.Test.YtmnnipoiigfapaaGreatDoorBAP
set_option linter.unusedSimpArgs false
set_option linter.unusedVariables false
noncomputable section
namespace Rm
open Go Go.Proofs Cx
def eO (c:City)(a:Int)(k:Nat):List Int:=((List.range k).map fun(i:Nat)=>a+i).filter (xS c.rest c.feasts c.shut)
theorem XS (c:City)(a:Int)(k:Nat):eO c a (k+1)=eO c a k++if xS c.rest c.feasts c.shut (a+k) then[a+k] else[]:=by
 unfold eO;rw[G5,lz,yM]
 congr 1
 cases h:xS c.rest c.feasts c.shut (a+k)<;>simp[h]
theorem ah9 (c:City)(a:Int){k n:Nat}(h:k≤n):∃r,eO c a n=eO c a k++r:=by
 induction n with
 |zero=>obtain rfl:k=0:=by omega
        exact⟨[],by simp⟩
 |succ n ih=>
  by_cases e:k=n+1
  ·subst e;exact⟨[],by simp⟩
  ·obtain⟨r,hr⟩:=ih (by omega);exact⟨r++_,by rw[XS,hr,px]⟩
def rl (d:Int):D:=.tup [.int d]
theorem aia (c:City)(a b:Int):XU [.ref (.int a),.ref (.int b),.ref (gw c)]=(eO c a (b-a+1).toNat).map rl:=by
 have hi:∀l:List Int,xA (ints l)=l:=fun l=>by
  show(l.map D.int).map D.i=l;rw[G2];exact List.map_id l
 show(XT (xA (ints c.rest)) (xA (ints c.feasts)) (xA (ints c.shut)) a b).map _=_;rw[hi,hi,hi];rfl
theorem ah7 (c:City)(hc:GA c)(a b:Int)(ha:0≤a)(hb:b≤100400)(Au:a≤100400):ao T 169 [.ref (.int a),.ref (.int b),.ref (gw c)] (.list ((eO c a (b-a+1).toNat).map rl)):=by
 have oF:=aia c a b;rw[←oF];obtain⟨N,hN⟩:∃N,N=(b-a+1).toNat:=⟨_,rfl⟩
 refine ao.of_it (pc:=(ab sV)) (J:=1000) (k:=1) rfl (fun x hx=>?_) (fun m hm=>?_)
 ·rw[oF] at hx;obtain⟨i,_,rfl⟩:=dJ.1 hx;exact⟨_,rfl,rfl⟩
 ·rw[oF] at hm ⊢;rw[←hN] at hm ⊢;refine GK ?_;rw[auo];simp[Ua];refine aN.forLoop (α:=Nat) (fun k vr vo=>k≤N∧vr=[.int (a+k)]∧vo=[.list ((eO c a k).map rl)]∧(eO c a k).length≤m) (fun k=>N-k) 0 ?_ ?_
  ·simp[Yf,eO]
  ·rintro k vr vo ⟨hk,rfl,rfl,lH⟩;by_cases af:k<N
   ·have hle:a+(k:Int)≤b:=by omega
    have fP:IntKind.i64.wrap (a+(k:Int)+1)=a+((k+1:Nat):Int):=by rw[bU (by omega)];omega
    have bR:=(art c hc (a+k) (by omega))
    have eU:=XS c a k;obtain⟨r,hr⟩:=ah9 c a (k:=k+1) (n:=N) af;simp[aes,Lc,hle];refine⟨_,bR.yld (by decide),?_⟩;cases hi:xS c.rest c.feasts c.shut (a+k)
    ·simp[hi] at eU ⊢;exact⟨k+1,by omega,by omega,fP,by rw[eU],by rw[eU];exact lH⟩
    ·simp[hi] at eU ⊢;have hlen:(eO c a (k+1)).length=(eO c a k).length+1:=by rw[eU];simp
     have qo:(eO c a k).map rl++[D.tup [D.int (a+k)]]=(eO c a (k+1)).map rl:=by rw[eU,lz];rfl
     have ve:(eO c a (k+1)).map rl=((eO c a N).map rl).take ((eO c a k).length+1):=by
      rw[hr,lz,ago (by simp[hlen]),wg (by simp[hlen])]
     have ba:(eO c a k).length<((eO c a N).map rl).length:=by rw[hr];simp[hlen];omega
     rw[qo];refine⟨_,ao.answer ve ba lH,?_⟩;by_cases xg:(eO c a k).length<m
     ·simp[xg];exact⟨k+1,by omega,by omega,fP,rfl,by omega⟩
     ·obtain rfl:(eO c a k).length=m:=by omega
      simp;rw[ve]
   ·obtain rfl:k=N:=by omega
    have hle:¬a+(k:Int)≤b:=by omega
    simp[aes,Lc,hle];rw[wg (by simp;omega)]
end Rm
namespace Rm
open Go Go.Proofs Cx
theorem aib (c:City)(a b:Int):ao T 155 [gw c,.int a,.int b] (.clo 169 [.ref (.int a),.ref (.int b),.ref (gw c)]):=by
 refine .of_tree rfl (lA 140 (by kernel_rfl)) aup ?_;simp[T9]
def nf (d:Int):Int:=if 100000<d+400 then 100000 else d+400
def j5 (c:City)(d:Int):Int×Int:=
 if jM d=false then(0,3) else match eO c d (nf d-d+1).toNat with|[]=>(0,3)|x::_=>(x,0)
theorem ah8 {c:City}{a:Int}{k:Nat}{x:Int}(h:x∈eO c a k):a≤x∧x<a+k:=by
 unfold eO at h;obtain⟨h1,_⟩:=dj.mp h;obtain⟨i,hi,rfl⟩:=dJ.mp h1;have:=bY.mp hi;omega
theorem aqD {c:City}{d:Int}(h:(j5 c d).2=0):jM d=true∧d≤(j5 c d).1∧(j5 c d).1≤100000:=by
 unfold j5 at h ⊢;cases hd:jM d
 ·simp[hd] at h
 ·simp only[hd] at h ⊢;cases hk:eO c d (nf d-d+1).toNat with
  |nil=>rw[hk] at h;simp at h
  |cons x l=>
   have hm:x∈eO c d (nf d-d+1).toNat:=by rw[hk];simp
   have:=ah8 hm;have he:nf d≤100000:=by unfold nf;split<;>omega
   simp[jM] at hd;simp;unfold nf at*;omega
theorem agt (c:City)(hc:GA c)(d:Int):ao T 139 [gw c,.int d] (.tup [.int (j5 c d).1,.int (j5 c d).2]):=by
 refine .of_tree rfl (lA 139 (by kernel_rfl)) aum ?_;simp[T7];refine⟨_,GP d,?_⟩;cases hd:jM d
 ·simp[j5,hd]
 have ec:0≤d∧d≤100000:=by simpa [jM] using hd
 have hw:IntKind.i64.wrap (d+400)=d+400:=bU (by omega);have he:nf d≤100000:=by unfold nf;split<;>omega
 simp[hd,hw];have hE:(if 100000<d+400 then D.int 100000 else D.int (d+400))=D.int (nf d):=by unfold nf;split<;>rfl
 rw[hE];refine⟨_,aib c d (nf d),_,_,rfl,_,ah7 c hc d (nf d) ec.1 (by omega) (by omega),?_⟩;cases hk:eO c d (nf d-d+1).toNat with
 |nil=>
  have hn:j5 c d=(0,3):=by unfold j5;simp[hd,hk]
  rw[hn];refine aN.eachR [] (by simp) (fun _ vo=>vo=[.agg [.int 0],.agg [.int 0]]) ?_ (fun k x vo hx hi=>by simp at hx) (fun vo hi=>?_)
  ·simp
  ·subst hi;simp
 |cons x l=>
  have hn:j5 c d=(x,0):=by unfold j5;simp[hd,hk]
  rw[hn];refine aN.eachR ((x::l).map rl) (by simp) (fun k vo=>k=0∧vo=[.agg [.int 0],.agg [.int 0]]) ?_ (fun k y vo hx hi=>?_) (fun vo hi=>?_)
  ·simp
  ·obtain⟨rfl,rfl⟩:=hi;simp at hx;subst hx;simp[asD,Sl,rl];rfl
  ·exact absurd hi.1 (by simp)
end Rm
namespace Rm
open Go Go.Proofs Cx
def LX (o:Int)(d:Int)(h:Halt):Int:=if(h.order=o∧h.fr≤d)∧d≤h.to then h.to+1 else d
def mT (r:Realm)(o d:Int)(k:Nat):Int:=(r.halts.take k).foldl (LX o) d
theorem afr (r:Realm)(o d:Int){k:Nat}(hk:k<r.halts.length):mT r o d (k+1)=LX o (mT r o d k) r.halts[k]:=by
 unfold mT;rw[ki hk,yN];rfl
def yL (r:Realm):Prop:=r.halts.length≤100000∧∀h,h∈r.halts→0≤h.fr∧h.to≤100000
theorem TG {r:Realm}(hh:yL r)(o d:Int)(hd:d≤100001):∀k,k≤r.halts.length→d≤mT r o d k∧mT r o d k≤100001
 |0,_=>⟨by simp[mT],by simpa [mT] using hd⟩
 |k+1,hk=>by
  obtain⟨h1,h2⟩:=TG hh o d hd k (by omega);rw[afr r o d (by omega)];have:=hh.2 _ (dq (show k<r.halts.length by omega));unfold LX;split<;>omega
def yx (r:Realm)(o:Int):Nat→Int→Int
 |0,d=>d
 |n+1,d=>if mT r o d r.halts.length=d then d else yx r o n (mT r o d r.halts.length)
def lu (r:Realm)(o d:Int):Int:=yx r o (100002-d).toNat d
theorem afs {r:Realm}(hh:yL r)(o:Int):∀(n:Nat) (d:Int),d≤100001→d≤yx r o n d∧yx r o n d≤100001
 |0,d,hd=>⟨m4 _,hd⟩
 |n+1,d,hd=>by
  obtain⟨h1,h2⟩:=TG hh o d hd r.halts.length (bl _);unfold yx;split
  ·omega
  ·have:=afs hh o n _ h2;omega
theorem atu (r:Realm)(hh:yL r)(o d:Int)(h0:0≤d)(hd:d≤100001):ao T 138 [aW r,.int o,.int d] (.int (lu r o d)):=by
 refine .of_tree rfl (lA 138 (by kernel_rfl)) av4 ?_;simp[VK];refine aN.forLoop (α:=Int×Bool×Nat) (fun s vr vo=>vr=[.int s.1,.bool s.2.1]∧vo=[]∧d≤s.1∧s.1≤100001∧(s.2.1=true→(100002-s.1).toNat≤s.2.2)∧(s.2.1=true→yx r o s.2.2 s.1=lu r o d)∧(s.2.1=false→s.1=lu r o d)) (fun s=>2*(100001-s.1).toNat+(if s.2.1 then 1 else 0)) (d,true,(100002-d).toNat) ?_ ?_
 ·simp;exact⟨by omega,rfl⟩
 ·rintro⟨e,ch,n⟩ vr vo ⟨rfl,rfl,h1,h2,h3,h4,h5⟩;simp only at*;cases ch
  ·simp[aeL,LB];exact h5 rfl
  ·have h3:=h3 rfl;have h4:=h4 rfl;obtain⟨n,rfl⟩:∃m,n=m+1:=⟨n-1,by omega⟩
   have bC:=TG hh o e h2;simp[aeL,LB];refine aN.forRounds r.halts.length (fun k=>[.int (mT r o e k),.bool (decide (e<mT r o e k)),.int k]) (fun _=>[]) ?_ (fun k hk=>?_) ?_
   ·simp[mT]
   ·have hw:=bk hk (by have:=hh.1;omega);have ct:=bC k (by omega);have xr:=hh.2 _ (dq hk);rw[afr r o e hk];unfold LX;generalize mT r o e k=x at*;by_cases hc:(r.halts[k].order=o∧r.halts[k].fr≤x)∧x≤r.halts[k].to
    ·have dF:IntKind.i64.wrap (r.halts[k].to+1)=r.halts[k].to+1:=bU (by omega);simp[LA,BY,hk,hw,hc,dF];omega
    ·simp[LA,BY,hk,hw,hc]
   ·have hE:=bC r.halts.length (bl _);unfold yx at h4;generalize mT r o e r.halts.length=x at*;by_cases hx:x=e
    ·rw[if_pos hx] at h4;subst hx;simp[LA,BY];exact⟨x,by omega,rfl,h1,h2,h4⟩
    ·rw[if_neg hx] at h4;have af:e<x:=by omega
     simp[LA,BY,af];exact⟨x,by omega,rfl,by omega,by omega,n,by omega,h4⟩
def yt (r:Realm)(c:City)(o:Int):Nat→Int→Int×Int
 |0,d=>(d,0)
 |n+1,d=>
  if(j5 c (lu r o d)).2≠0 then(0,3)
  else if(j5 c (lu r o d)).1=lu r o d then(lu r o d,0)
  else yt r c o n (j5 c (lu r o d)).1
theorem atn (r:Realm)(c:City)(o:Int)(n:Nat)(d:Int):yt r c o (n+1) d=
 if(j5 c (lu r o d)).2≠0 then(0,3)
 else if(j5 c (lu r o d)).1=lu r o d then(lu r o d,0)
 else yt r c o n (j5 c (lu r o d)).1:=rfl
def LU (r:Realm)(city d:Int):Int×Int:=yt r (r.cities.getD city.toNat default) (gB r city) (100002-d).toNat d
theorem ato (r:Realm)(hh:yL r)(city d:Int)(hc:0≤city∧city<r.cities.length)(hs:∀c,c∈r.cities→GA c)(h0:0≤d)(hd:d≤100001):ao T 124 [aW r,.int city,.int d] (.tup [.int (LU r city d).1,.int (LU r city d).2]):=by
 refine .of_tree rfl (lA 137 (by kernel_rfl)) av3 ?_;simp[VJ];refine⟨_,qH r city,?_⟩;have ba:city.toNat<r.cities.length:=by omega
 have hcg:r.cities.getD city.toNat default=r.cities[city.toNat]:=by simp[ba]
 have hsc:=hs _ (dq ba);have hF:LU r city d=yt r r.cities[city.toNat] (gB r city) (100002-d).toNat d:=by unfold LU;rw[hcg]
 rw[hF];refine aN.forLoop (α:=Int×Nat) (fun s vr vo=>(∃a b,vr=[.int s.1,a,b])∧vo=[]∧0≤s.1∧s.1≤100001∧(100002-s.1).toNat≤s.2∧yt r r.cities[city.toNat] (gB r city) s.2 s.1=yt r r.cities[city.toNat] (gB r city) (100002-d).toNat d) (fun s=>s.2) (d,(100002-d).toNat) ?_ ?_
 ·simp;omega
 ·rintro⟨e,n⟩ vr vo ⟨⟨a,b,rfl⟩,rfl,h1,h2,h3,h4⟩;simp only at*;obtain⟨n,rfl⟩:∃m,n=m+1:=⟨n-1,by omega⟩
  rw[←h4];have AT:=afs hh (gB r city) (100002-e).toNat e h2;have hsr:=atu r hh (gB r city) e h1 h2;rw[atn];change e≤lu r (gB r city) e∧lu r (gB r city) e≤100001 at AT;generalize lu r (gB r city) e=x at*;have Pm:=agt r.cities[city.toNat] hsc x;have rF:=aqD (c:=r.cities[city.toNat]) (d:=x);generalize j5 r.cities[city.toNat] x=N at*;obtain⟨y,er⟩:=N;simp only at Pm rF;simp[asI,Tf];refine⟨_,hsr,?_⟩;simp[ba,hc];refine⟨_,Pm,?_⟩;by_cases he:er=0
  ·obtain⟨g1,g2,g3⟩:=rF he;by_cases hy:y=x
   ·simp[he,hy]
   ·simp[he,hy];exact⟨y,n,by omega,rfl,by omega,by omega,by omega,rfl⟩
  ·simp[he]
end Rm
namespace Rm
open Go Go.Proofs Cx
structure RightD (r:Realm):Prop where
 small:Small r
 halts:yL r
theorem RightD.cities {r:Realm}(h:RightD r)(c:City)(hc:c∈r.cities):GA c:=by
 obtain⟨h1,h2,h3,_⟩:=h.small.city c hc;exact⟨by omega,by omega,by omega⟩
theorem W9 (d:Int)(t:Tenor):∃n e:Int,ao T 137 [.int d,tg t] (.tup [.int n,.int e]):=by
 by_cases h0:t.n<0
 ·refine⟨0,3,.of_tree rfl Hg Mh ?_⟩;simp[Cf,h0]
 by_cases h1:20000<t.n
 ·refine⟨0,3,.of_tree rfl Hg Mh ?_⟩;simp[Cf,h0,h1]
 by_cases h2:t.unit=1
 ·obtain⟨n,e,h,_⟩:=af1 d t.n;refine⟨n,e,.of_tree rfl Hg Mh ?_⟩;simp[Cf,h0,h1,h2];refine⟨_,h,?_⟩;simp
 ·refine⟨IntKind.i64.wrap (d+t.n),0,.of_tree rfl Hg Mh ?_⟩;simp[Cf,h0,h1,h2]
theorem ahi (r:Realm)(hr:RightD r)(b:Bill)(seen:Int):∃n e:Int,ao T 123 [aW r,eF b,.int seen] (.tup [.int n,.int e]):=by
 have htn:D.agg [D.int b.tenor.kind,D.int b.tenor.n,D.int b.tenor.unit]=tg b.tenor:=rfl;by_cases h0:b.tenor.kind=0
 ·refine⟨seen,0,.of_tree rfl CF GI ?_⟩;simp[yz,h0]
 by_cases h1:b.tenor.kind=1
 ·obtain⟨n,e,h⟩:=W9 seen b.tenor;refine⟨n,e,.of_tree rfl CF GI ?_⟩;have cH:(b.tenor.kind=1)=True:=eq_true h1;simp[yz,h0,cH];refine⟨_,h,?_⟩;simp
 by_cases h2:b.tenor.kind=2
 ·obtain⟨n,e,h⟩:=W9 b.day b.tenor;refine⟨n,e,.of_tree rfl CF GI ?_⟩;have gK:(b.tenor.kind=2)=True:=eq_true h2;simp[yz,h0,h1,gK];refine⟨_,h,?_⟩;simp
 by_cases h4:b.tenor.kind=4
 ·obtain⟨n,e,h,_⟩:=agx r b.city b.pay (by have:=hr.small.us;omega);refine⟨IntKind.i64.wrap (b.day+n),e,.of_tree rfl CF GI ?_⟩;have qe:(b.tenor.kind=4)=True:=eq_true h4;simp[yz,h0,h1,h2,qe];refine⟨_,h,?_⟩;simp
 ·refine⟨b.tenor.n,0,.of_tree rfl CF GI ?_⟩;simp[yz,h0,h1,h2,h4]
theorem ao.ex_of_tree {tab:Nat→Option PC}{ext:Nat→Option (aR→List D→Option D)}{f:Nat}{pc:PC}{t:PT}{ds:List D}{P:D→Prop}(hx:ext f=none)(ht:tab f=some pc)(he:tree pc=t)
 (h:aH (dV tab ext) t (kS ds) (fun x=>∃d,x=.ret d∧P d)):∃d,ao (dV tab ext) f ds d∧P d:=by
 subst he;obtain⟨x,⟨d,rfl,hd⟩,n0,hn⟩:=afQ (KP ⟨fun _ _ _ h=>(by obtain⟨_,h,_⟩:=h;cases h),fun _ _ _ _ _ _ h=>(by obtain⟨_,h,_⟩:=h;cases h),fun _ h=>h⟩ h);exact⟨d,.of_pc hx ht ⟨.ret d,rfl,n0,hn⟩,hd⟩
def G7 (d:D):Prop:=∃n e:Int,d=.tup [.int n,.int e]
@[simp] theorem azo (n e:Int):G7 (.tup [.int n,.int e])=True:=eq_true ⟨n,e,rfl⟩
theorem yJ (r:Realm)(hr:RightD r)(b:Bill)(seen iN:Int):∃d,ao T 93 [aW r,eF b,.int seen,.int iN] d∧G7 d:=by
 have htn:D.agg [D.int b.tenor.kind,D.int b.tenor.n,D.int b.tenor.unit]=tg b.tenor:=rfl;have qj:=aeS r hr.small;refine ao.ex_of_tree rfl ag4 avZ ?_;simp[VF];refine⟨_,qj,?_⟩;by_cases h0:lE r=0
 case neg=>simp[h0]
 simp[h0];refine⟨_,aas r b.city,?_⟩;cases h1:ay b.city r.cities.length
 ·simp[h1]
 simp[h1];refine⟨_,aas r b.pay,?_⟩;cases h2:ay b.pay r.cities.length
 ·simp[h2]
 simp[h2];refine⟨_,Qf b.day,?_⟩;cases h3:jM b.day
 ·simp[h3]
 simp[h3];intro _ _ _ _;have hp:0≤b.pay∧b.pay<r.cities.length:=by simpa [ay] using h2
 have fin:0≤iN→iN≤20000→∃d,ao T 123 [aW r,eF b,D.int seen] d∧
  if(d.tget 1).i=0 then ∃d1,ao T 121 [d.tget 0] d1∧(d1.b=true→IntKind.i64.wrap ((d.tget 0).i+iN)≤100000→
        ∃d2,ao T 124 [aW r,D.int b.pay,D.int (IntKind.i64.wrap ((d.tget 0).i+iN))] d2∧G7 (D.tup [d2.tget 0,d2.tget 1]))
  else G7 (D.tup [D.int 0,d.tget 1]):=by
  intro AF rB;obtain⟨n,e,h⟩:=ahi r hr b seen;refine⟨_,h,?_⟩;by_cases he:e=0
  ·simp[he];refine⟨_,Qf n,?_⟩;cases hd:jM n
   ·simp[hd]
   have ec:0≤n∧n≤100000:=by simpa [jM] using hd
   have hw:IntKind.i64.wrap (n+iN)=n+iN:=bU (by omega);simp[hd,hw];intro hle;refine⟨_,ato r hr.halts b.pay (n+iN) hp hr.cities (by omega) (by omega),?_⟩;simp
  ·simp[he]
 by_cases hs:seen=-1
 ·simp[hs] at fin ⊢;intro AF rB;refine⟨_,W2 b.tenor,?_⟩;simp;intro _;exact fin AF rB
 ·simp[hs] at fin ⊢;refine⟨_,Qf seen,?_⟩;cases hk:jM seen
  ·simp[hk]
  simp[hk];intro AF rB;exact⟨⟨_,W2 b.tenor⟩,fin AF rB⟩
def wE (r:Realm)(b:Bill)(seen iN:Int):Int×Int:=
 open Classical in if h:RightD r then((yJ r h b seen iN).choose_spec.2.choose,(yJ r h b seen iN).choose_spec.2.choose_spec.choose) else(0,0)
theorem af9 (r:Realm)(hr:RightD r)(b:Bill)(seen iN:Int):ao T 93 [aW r,eF b,.int seen,.int iN] (.tup [.int (wE r b seen iN).1,.int (wE r b seen iN).2]):=by
 have h:=(yJ r hr b seen iN).choose_spec.2.choose_spec.choose_spec;have h1:=(yJ r hr b seen iN).choose_spec.1;rw[h] at h1;have e:wE r b seen iN=((yJ r hr b seen iN).choose_spec.2.choose,(yJ r hr b seen iN).choose_spec.2.choose_spec.choose):=by unfold wE;rw[dif_pos hr]
 rw[e];exact h1
def vq (r:Realm)(forum:Int)(f:File)(day:Int):Int:=
 if(bf f day).signs=[] then-1
 else if(wE r f.bill (mR (bf f day)) (max (mJ (kP r forum 6 (bf f day) day)) 0)).2≠0 then-1
 else(wE r f.bill (mR (bf f day)) (max (mJ (kP r forum 6 (bf f day) day)) 0)).1
@[simp] theorem aDr (x:File)(a0 a1 a2 a3 a4 a5 a6 a7 a8 a9 pE pG pH pI pJ sL sM sN sO:D):(bZ [a0,a1,a2,a3,a4,a5,a6,a7,a8,a9,pE,pG,pH,pI,pJ,sL,sM,sN,sO] 0 [.int x.bill.drawer,.int x.bill.drawee,.int x.bill.payee,.int x.bill.sum,.int x.bill.currency,.int x.bill.tenor.kind,.int x.bill.tenor.n,.int x.bill.tenor.unit,.int x.bill.day,.int x.bill.city,.int x.bill.pay,.int x.bill.need,.int x.bill.rate,.int x.bill.flags,.int x.bill.parts,signs x.signs,alters x.alters,acts x.acts,facts x.facts])[15]?.getD D.none=signs x.signs:=_root_.id rfl
theorem agq (r:Realm)(hr:Right r)(hd:RightD r)(forum:Int)(f:File)(day:Int)(hf:FewS f):ao T 73 [aW r,.int forum,aZ f,.int day] (.int (vq r forum f day)):=by
 refine .of_tree rfl (lA 122 (by kernel_rfl)) at6 ?_;simp[TR];refine⟨_,Gn f day (by have:=hf.signs;omega) (by have:=hf.acts;omega) (by have:=hf.alters;omega) (by have:=hf.facts;omega),?_⟩;have hg:=hf.at_ day;have hb:(bf f day).bill=f.bill:=rfl;unfold vq;generalize bf f day=g at*;simp;by_cases h0:g.signs=[]
 ·simp[h0]
 simp[h0];refine⟨_,MV r hr forum 6 g day hg,_,Xh _,_,asR g (by have:=hg.signs;omega) (by have:=hg.acts;omega),?_⟩;have hm:(if(D.int (mJ (kP r forum 6 g day))).i<0 then D.int 0 else D.int (mJ (kP r forum 6 g day)))=D.int (max (mJ (kP r forum 6 g day)) 0):=by
  simp only[aie];split
  ·rw[Int.max_eq_right (by omega)]
  ·rw[Int.max_eq_left (by omega)]
 rw[hm,hb];refine⟨_,af9 r hd f.bill _ _,?_⟩;by_cases he:(wE r f.bill (mR g) (max (mJ (kP r forum 6 g day)) 0)).2=0<;>simp[he]
end Rm
namespace Rm
open Go Go.Proofs Cx
structure View where
 realm:Realm
 forum:Int
 day:Int
 file:File
 form:Int
 due:Int
 deriving Inhabited
def dC (x:View):D:=.agg [strs x.realm.currencies,pS x.realm.cities,groups x.realm.groups,firms x.realm.firms,orders x.realm.orders,usances x.realm.usances,rates x.realm.rates,halts x.realm.halts,.int x.forum,.int x.day,.int x.file.bill.drawer,.int x.file.bill.drawee,.int x.file.bill.payee,.int x.file.bill.sum,.int x.file.bill.currency,.int x.file.bill.tenor.kind,.int x.file.bill.tenor.n,.int x.file.bill.tenor.unit,.int x.file.bill.day,.int x.file.bill.city,.int x.file.bill.pay,.int x.file.bill.need,.int x.file.bill.rate,.int x.file.bill.flags,.int x.file.bill.parts,signs x.file.signs,alters x.file.alters,acts x.file.acts,facts x.file.facts,.int x.form,.int x.due]
@[simp] theorem azQ (x:View):(dC x).cells=[strs x.realm.currencies,pS x.realm.cities,groups x.realm.groups,firms x.realm.firms,orders x.realm.orders,usances x.realm.usances,rates x.realm.rates,halts x.realm.halts,.int x.forum,.int x.day,.int x.file.bill.drawer,.int x.file.bill.drawee,.int x.file.bill.payee,.int x.file.bill.sum,.int x.file.bill.currency,.int x.file.bill.tenor.kind,.int x.file.bill.tenor.n,.int x.file.bill.tenor.unit,.int x.file.bill.day,.int x.file.bill.city,.int x.file.bill.pay,.int x.file.bill.need,.int x.file.bill.rate,.int x.file.bill.flags,.int x.file.bill.parts,signs x.file.signs,alters x.file.alters,acts x.file.acts,facts x.file.facts,.int x.form,.int x.due]:=_root_.id rfl
@[simp] theorem aDd (x:View):D.agg [strs x.realm.currencies,pS x.realm.cities,groups x.realm.groups,firms x.realm.firms,orders x.realm.orders,usances x.realm.usances,rates x.realm.rates,halts x.realm.halts,.int x.forum,.int x.day,.int x.file.bill.drawer,.int x.file.bill.drawee,.int x.file.bill.payee,.int x.file.bill.sum,.int x.file.bill.currency,.int x.file.bill.tenor.kind,.int x.file.bill.tenor.n,.int x.file.bill.tenor.unit,.int x.file.bill.day,.int x.file.bill.city,.int x.file.bill.pay,.int x.file.bill.need,.int x.file.bill.rate,.int x.file.bill.flags,.int x.file.bill.parts,signs x.file.signs,alters x.file.alters,acts x.file.acts,facts x.file.facts,.int x.form,.int x.due]=dC x:=_root_.id rfl
@[simp] theorem aAa (x:View):gV 31 (dC x)=dC x:=_root_.id rfl
@[simp] theorem aDt (x:View)(a0 a1 a2 a3 a4 a5 a6 a7 a8 a9 pE pG pH pI pJ sL sM sN sO MH MI MJ MK ML a24 a25 a26 a27 a28 a29 a30:D):D.agg (bZ [a0,a1,a2,a3,a4,a5,a6,a7,a8,a9,pE,pG,pH,pI,pJ,sL,sM,sN,sO,MH,MI,MJ,MK,ML,a24,a25,a26,a27,a28,a29,a30] 0 [strs x.realm.currencies,pS x.realm.cities,groups x.realm.groups,firms x.realm.firms,orders x.realm.orders,usances x.realm.usances,rates x.realm.rates,halts x.realm.halts,.int x.forum,.int x.day,.int x.file.bill.drawer,.int x.file.bill.drawee,.int x.file.bill.payee,.int x.file.bill.sum,.int x.file.bill.currency,.int x.file.bill.tenor.kind,.int x.file.bill.tenor.n,.int x.file.bill.tenor.unit,.int x.file.bill.day,.int x.file.bill.city,.int x.file.bill.pay,.int x.file.bill.need,.int x.file.bill.rate,.int x.file.bill.flags,.int x.file.bill.parts,signs x.file.signs,alters x.file.alters,acts x.file.acts,facts x.file.facts,.int x.form,.int x.due])=dC x:=_root_.id rfl
@[simp] theorem azO (x:View):(dC x).c 8=.int x.forum:=_root_.id rfl
@[simp] theorem azP (x:View):(dC x).c 9=.int x.day:=_root_.id rfl
@[simp] theorem azt (x:View):(dC x).c 10=.int x.file.bill.drawer:=_root_.id rfl
@[simp] theorem azu (x:View):(dC x).c 11=.int x.file.bill.drawee:=_root_.id rfl
@[simp] theorem azv (x:View):(dC x).c 12=.int x.file.bill.payee:=_root_.id rfl
@[simp] theorem azw (x:View):(dC x).c 13=.int x.file.bill.sum:=_root_.id rfl
@[simp] theorem azx (x:View):(dC x).c 14=.int x.file.bill.currency:=_root_.id rfl
@[simp] theorem azy (x:View):(dC x).c 15=.int x.file.bill.tenor.kind:=_root_.id rfl
@[simp] theorem azz (x:View):(dC x).c 16=.int x.file.bill.tenor.n:=_root_.id rfl
@[simp] theorem azA (x:View):(dC x).c 17=.int x.file.bill.tenor.unit:=_root_.id rfl
@[simp] theorem azB (x:View):(dC x).c 18=.int x.file.bill.day:=_root_.id rfl
@[simp] theorem azC (x:View):(dC x).c 19=.int x.file.bill.city:=_root_.id rfl
@[simp] theorem azD (x:View):(dC x).c 20=.int x.file.bill.pay:=_root_.id rfl
@[simp] theorem azE (x:View):(dC x).c 21=.int x.file.bill.need:=_root_.id rfl
@[simp] theorem azF (x:View):(dC x).c 22=.int x.file.bill.rate:=_root_.id rfl
@[simp] theorem azG (x:View):(dC x).c 23=.int x.file.bill.flags:=_root_.id rfl
@[simp] theorem azH (x:View):(dC x).c 24=.int x.file.bill.parts:=_root_.id rfl
@[simp] theorem azI (x:View):(dC x).c 25=signs x.file.signs:=_root_.id rfl
@[simp] theorem azJ (x:View):(dC x).c 26=alters x.file.alters:=_root_.id rfl
@[simp] theorem azK (x:View):(dC x).c 27=acts x.file.acts:=_root_.id rfl
@[simp] theorem azL (x:View):(dC x).c 28=facts x.file.facts:=_root_.id rfl
@[simp] theorem azM (x:View):(dC x).c 29=.int x.form:=_root_.id rfl
@[simp] theorem azN (x:View):(dC x).c 30=.int x.due:=_root_.id rfl
@[simp] theorem azY (x:View):gV 8 (dC x)=aW x.realm:=_root_.id rfl
def qs:List Int→Int→Int
 |[],o=>o
 |x::l,o=>if x=0 then 0 else qs l (if x=2 then 2 else o)
theorem aok {l:List Int}{o:Int}(hn:∀x,x∈l→¬x=0)(h2:o=1∨o=2):qs l o=if o=2∨2∈l then 2 else 1:=by
 induction l generalizing o with
 |nil=>rcases h2 with h|h<;>simp[qs,h]
 |cons x l ih=>
  have hx:=hn x (by simp);unfold qs;rw[if_neg hx];by_cases e:x=2
  ·rw[if_pos e,ih (fun y hy=>hn y (by simp[hy])) (.inr rfl)];simp[e]
  ·rw[if_neg e,ih (fun y hy=>hn y (by simp[hy])) h2];simp[qX e]
theorem aaB:∀{l:List Int} {o:Int} {k:Nat} (hk:k<l.length),(∀j (hj:j<k),¬l[j]'(by omega)=0)→l[k]=0→qs l o=0
 |[],o,k,hk,_,_=>by simp at hk
 |x::l,o,0,hk,hj,h=>by
  unfold qs;rw[if_pos (by simpa using h)]
 |x::l,o,k+1,hk,hj,h=>by
  unfold qs;rw[if_neg (by have:=hj 0 (by omega);simpa using this)];exact aaB (k:=k) (by simpa using hk) (fun j w7=>by have:=hj (j+1) (by omega);simpa using this) (by simpa using h)
def Ba (l:List Int)(k:Nat):Int:=if 2∈l.take k then 2 else 1
theorem aol (l:List Int)(hl:l.length≤100000):ao T 74 [ints l] (.int (qs l 1)):=by
 refine .of_tree rfl (lA 144 (by kernel_rfl)) aug ?_;simp[TZ];refine aN.scan l.length (fun k=>l.getD k 0≠0) (fun k=>[.int 0,.int (Ba l k),.int k]) (fun _=>[]) ?_ (fun k hk hj aD=>?_) (fun k hk hj aD=>?_) (fun hj=>?_)
 ·simp[Ba]
 ·have hw:=bk hk (by omega);have hx:¬l[k]=0:=by simpa [hk] using aD
  have hm:Ba l (k+1)=if l[k]=2 then 2 else Ba l k:=by
   unfold Ba;rw[ki hk];simp only[dt,py];by_cases e:l[k]=2
   ·simp[e]
   ·simp[e,qX e]
  rw[hm];simp[Sj,Fs,hk,hw,hx];by_cases e:l[k]=2<;>simp[e]
 ·have hx:l[k]=0:=by simpa [hk] using aD
  simp[Sj,Fs,hk,hx];rw[aaB hk (fun j w7=>by simpa [show j<l.length by omega] using hj j w7) hx]
 ·simp[Sj,Fs];rw[aok (fun x hx=>by obtain⟨j,eR,rfl⟩:=kf hx;simpa [eR] using hj j eR) (.inl rfl)];simp[Ba]
def jD (v:View)(q sign:Int):Int:=yA (kO v.realm v.forum q ⟨v.file,sign,sign,-1,v.due,v.day⟩)
theorem Tx (v:View)(hr:Right v.realm)(hf:FewS v.file)(q sign:Int):ao T 75 [dC v,.int q,.int sign] (.int (jD v q sign)):=by
 refine .of_tree rfl (lA 143 (by kernel_rfl)) auj ?_;simp[T4];refine⟨p8 (kO v.realm v.forum q ⟨v.file,sign,sign,-1,v.due,v.day⟩),Xg v.realm hr v.forum q ⟨v.file,sign,sign,-1,v.due,v.day⟩ hf,Xi _⟩
def q7 (f:File)(sign:Int)(n:Nat):Bool:=(f.alters.take n).any fun a=>decide (sign<a.at_)
def EP (f:File):Int:=(f.alters.getD (f.alters.length-1) default).sum
def sy (v:View)(sign:Int):Int×Int:=
 if q7 v.file sign v.file.alters.length=false then(0,qO v.file sign v.file.alters.length)
 else if jD v 4 sign=1 then(1,EP v.file)
 else if jD v 4 sign=2 then(2,min (qO v.file sign v.file.alters.length) (EP v.file))
 else(jD v 4 sign,qO v.file sign v.file.alters.length)
theorem atZ (v:View)(hr:Right v.realm)(hf:FewS v.file)(sign:Int):ao T 76 [dC v,.int sign] (.tup [.int (sy v sign).1,.int (sy v sign).2]):=by
 refine .of_tree rfl (lA 145 (by kernel_rfl)) auk ?_;simp[T5];have wU:=hf.alters;refine⟨_,arJ v.file sign (by omega),?_⟩;refine aN.forRounds v.file.alters.length (fun k=>[.bool (q7 v.file sign k),.int k]) (fun _=>[]) ?_ (fun k hk=>?_) ?_
 ·simp[q7]
 ·have hw:=bk hk (by omega);have hs:q7 v.file sign (k+1)=(q7 v.file sign k||decide (sign<v.file.alters[k].at_)):=by
   unfold q7;rw[ki hk,WM];simp
  rw[hs];cases q7 v.file sign k<;>simp[Sk,Ft,hk,hw]
 ·unfold sy;cases ha:q7 v.file sign v.file.alters.length
  ·simp[Sk,Ft,ha]
  simp[Sk,Ft,ha];have Z1:0<v.file.alters.length:=by
   rcases Nat.eq_zero_or_pos v.file.alters.length with e|e
   ·simp[q7,agm.mp e] at ha
   ·exact e
  have hw:IntKind.i64.wrap ((v.file.alters.length:Int)-1)=(v.file.alters.length:Int)-1:=bU (by omega);have hn:((v.file.alters.length:Int)-1).toNat=v.file.alters.length-1:=by omega
  have af:v.file.alters.length-1<v.file.alters.length:=by omega
  have w9:EP v.file=v.file.alters[v.file.alters.length-1].sum:=by simp[EP,af]
  simp[hw,hn,af];refine⟨by omega,_,Tx v hr hf 4 sign,?_⟩;rw[w9];by_cases h1:jD v 4 sign=1
  ·simp[h1]
  by_cases h2:jD v 4 sign=2
  ·simp[h1,h2];split
   ·rw[Int.min_eq_right (by omega)]
   ·rw[Int.min_eq_left (by omega)]
  ·simp[h1,h2]
@[simp] theorem aD3 (a0 a1 a2 a3 a4 a5 a6 x:D):bZ [a0,a1,a2,a3,a4,a5,a6] 3 [x]=[a0,a1,a2,x,a4,a5,a6]:=_root_.id rfl
@[simp] theorem aD4 (a0 a1 a2 a3 a4 a5 a6 x:D):bZ [a0,a1,a2,a3,a4,a5,a6] 4 [x]=[a0,a1,a2,a3,x,a5,a6]:=_root_.id rfl
@[simp] theorem aD5 (a0 a1 a2 a3 a4 a5 a6 x:D):bZ [a0,a1,a2,a3,a4,a5,a6] 5 [x]=[a0,a1,a2,a3,a4,x,a6]:=_root_.id rfl
def kq (v:View)(sign:Int):Effect:=
 let s:=v.file.signs.getD sign.toNat default
 ⟨sign,s.kind,s.who,if l5 v.file sign v.day=true then 0 else qs [v.form,jD v 1 sign,jD v 2 sign] 1,(sy v sign).1,
    if s.kind=1∨s.kind=4 then min (sy v sign).2 s.sum else(sy v sign).2,decide (s.kind≠1)&&decide (cV .and .i64 s.flags 1=0)⟩
theorem ai6 (v:View)(hr:Right v.realm)(hf:FewS v.file)(sign:Int)(h0:0≤sign)(h1:sign<v.file.signs.length):ao T 47 [dC v,.int sign] (mi (kq v sign)):=by
 refine .of_tree rfl (lA 142 (by kernel_rfl)) aui ?_;obtain⟨k,rfl⟩:=uw h0;have hk:k<v.file.signs.length:=by omega
 have cn:=afH v.file k v.day (by have:=hf.acts;omega);have PX:=atZ v hr hf k;have rK:v.file.signs.getD (k:Int).toNat default=v.file.signs[k]:=by simp[hk]
 have nw:=Tx v hr hf 1 k;have eI:=Tx v hr hf 2 k;have hj:ao T 74 [.list [.int v.form,.int (jD v 1 k),.int (jD v 2 k)]] (.int (qs [v.form,jD v 1 k,jD v 2 k] 1)):=aol [v.form,jD v 1 k,jD v 2 k] (by simp);have hif:(if v.file.signs[k].kind=1 then D.bool false else D.bool (decide (cV BinOp.and IntKind.i64 v.file.signs[k].flags 1=0)))=D.bool (decide (v.file.signs[k].kind≠1)&&decide (cV BinOp.and IntKind.i64 v.file.signs[k].flags 1=0)):=by
  by_cases h:v.file.signs[k].kind=1<;>simp[h]
 unfold kq;rw[rK];generalize jD v 1 k=s1 at*;generalize jD v 2 k=s2 at*;generalize qs [v.form,s1,s2] 1=jj at*;generalize sy v k=tx at*;obtain⟨t1,t2⟩:=tx;simp only at PX;simp[T3,hk,hif];refine⟨_,cn,?_⟩;have tB:∀a b:Int,(if b<a then D.int b else D.int a)=D.int (min a b):=by
  intro a b;split
  ·rw[Int.min_eq_right (by omega)]
  ·rw[Int.min_eq_left (by omega)]
 cases AT:l5 v.file k v.day
 ·simp[AT];refine⟨_,nw,_,eI,_,hj,_,PX,?_⟩;by_cases h1:v.file.signs[k].kind=1∨v.file.signs[k].kind=4
  ·simp[h1,tB];rfl
  ·simp[h1,tB];rfl
 ·simp[AT];refine⟨_,PX,?_⟩;by_cases h1:v.file.signs[k].kind=1∨v.file.signs[k].kind=4
  ·simp[h1,tB];rfl
  ·simp[h1,tB];rfl
def mM (r:Realm)(forum:Int)(f:File)(day:Int):View:=⟨r,forum,day,bf f day,yA (kP r forum 0 (bf f day) day),vq r forum (bf f day) day⟩
theorem aru (r:Realm)(hr:Right r)(hd:RightD r)(forum:Int)(f:File)(day:Int)(hf:FewS f):ao T 46 [aW r,.int forum,aZ f,.int day] (dC (mM r forum f day)):=by
 refine .of_tree rfl (lA 120 (by kernel_rfl)) auh ?_;simp[T2];have hg:=hf.at_ day;refine⟨_,Gn f day (by have:=hf.signs;omega) (by have:=hf.acts;omega) (by have:=hf.alters;omega) (by have:=hf.facts;omega),?_⟩;simp;refine⟨_,MV r hr forum 0 _ day hg,_,Xi _,_,agq r hr hd forum _ day hg,?_⟩;simp;rfl
def lF (r:Realm)(forum:Int)(f:File)(day:Int):List Effect:=(List.range (mM r forum f day).file.signs.length).map fun(k:Nat)=>kq (mM r forum f day) k
theorem WI (r:Realm)(hr:Right r)(hd:RightD r)(forum:Int)(f:File)(day:Int)(hf:FewS f):ao T 18 [aW r,.int forum,aZ f,.int day] (wG (lF r forum f day)):=by
 refine .of_tree rfl (lA 119 (by kernel_rfl)) auf ?_;simp[TY];refine⟨_,aru r hr hd forum f day hf,?_⟩;have hg:FewS (mM r forum f day).file:=hf.at_ day;have xk:(mM r forum f day).realm=r:=rfl;unfold lF;generalize mM r forum f day=v at*;have hl:=hg.signs;refine aN.forRounds v.file.signs.length (fun k=>[.none,.int k]) (fun k=>[wG ((List.range k).map fun(k:Nat)=>kq v k)]) ?_ (fun k hk=>?_) ?_
 ·simp[wG]
 ·have hw:=bk hk (by omega);have he:=ai6 v (xk▸hr) hg k (by omega) (by omega);rw[G5,lz];have hln:((List.range k).map fun(k:Nat)=>kq v k).length=k:=by simp
  generalize ((List.range k).map fun(k:Nat)=>kq v k)=A at*;simp[aer,Lb,hk,hw];exact⟨_,he,by omega,by simp[wG]⟩
 ·simp[aer,Lb]
end Rm
namespace Rm
open Go Go.Proofs Cx
theorem Oi {n:Nat}{f:Nat→Int}(h:fJ n f=0)(k:Nat)(hk:k<n):f k=0:=Yq.1 h k hk
theorem ahK {r:Realm}(h:lE r=0)(k:Nat)(hk:k<r.orders.length):qz r.orders[k]=true:=by
 unfold lE at h;rw[Tz] at h;have h1:=h (eP (eM r) 20 (nG r)) (by simp);unfold eP at h1;split at h1
 ·cases h1
 have h2:=Oi h1 k (by simpa [eM] using hk);have h3:=(DB h2).2;unfold nG at h3;simpa [hk] using h3
theorem akW {r:Realm}(hs:Small r)(h:lE r=0):Cp r:=by
 intro o ho;obtain⟨k,hk,rfl⟩:=kf ho;have h1:=ahK h k hk;obtain⟨hc,_⟩:=hs.order _ ho;refine⟨by omega,fun ch mm=>?_⟩;unfold qz at h1;simp only[aq] at h1;obtain⟨j,hj,rfl⟩:=kf mm;have h2:=yT.1 h1.1 j hj;simpa [ay,hj] using h2
theorem akX {r:Realm}(hs:Small r)(h:lE r=0):yL r:=by
 refine⟨by have:=hs.halts;omega,fun x hx=>?_⟩;obtain⟨k,hk,rfl⟩:=kf hx;unfold lE at h;rw[Tz] at h;have h1:=h (oV r) (by simp);unfold oV at h1;split at h1
 ·cases h1
 split at h1
 ·cases h1
 split at h1
 ·cases h1
 split at h1
 ·rename_i aP;have h2:=yT.1 aP k hk;simp[uQ,wi,ay,hk] at h2;omega
 ·cases h1
structure Good (r:Realm) (f:File):Prop where
 right:Right r
 rightD:RightD r
 few:FewS f
theorem akY {r:Realm}{f:File}(hr:r.OK)(h:I4 r f=true):Good r f:=by
 unfold I4 tj at h;simp only[aq,decide_eq_true_eq] at h;obtain⟨⟨⟨h1,h2⟩,h3⟩,h4⟩:=h;have hs:=Of hr h1;refine⟨⟨akW hs h4,by have:=hs.orders;omega,fun o ho=>?_⟩,⟨hs,akX hs h4⟩,?_⟩
 ·have:=hs.order o ho;refine⟨?_,by omega⟩;exact hr.2.2.2.2.1.2 o ho
 ·simp[Dx] at h2;exact⟨by omega,by omega,by omega,by omega⟩
end Rm
namespace Rm
open Go Go.Proofs Cx
end Rm
namespace Rm
open Go Go.Proofs Cx
end Rm
namespace Rm
open Go Go.Proofs Cx
@[simp] theorem aDi:D.none.cells=[D.none]:=_root_.id rfl
end Rm
namespace Rm
open Go Go.Proofs Cx
end Rm
namespace Rm
open Go Cx
structure Chain where
 signs:List Int
 holder:Int
 broken:Int
 bearer:Bool
 agent:Int
 late:List Int
 deriving Inhabited
def Ai (x:Chain):D:=.agg [ints x.signs,.int x.holder,.int x.broken,.bool x.bearer,.int x.agent,ints x.late]
@[simp] theorem axE (x:Chain):(Ai x).cells=[ints x.signs,.int x.holder,.int x.broken,.bool x.bearer,.int x.agent,ints x.late]:=_root_.id rfl
@[simp] theorem aCT (x:Chain):D.agg [ints x.signs,.int x.holder,.int x.broken,.bool x.bearer,.int x.agent,ints x.late]=Ai x:=_root_.id rfl
@[simp] theorem az1 (x:Chain):gV 6 (Ai x)=Ai x:=_root_.id rfl
@[simp] theorem axD (x:Chain):(Ai x).c 0=ints x.signs:=_root_.id rfl
structure Objection where
 firm:Int
 day:Int
 shows:Bool
 deriving DecidableEq,Inhabited
def p6 (x:Objection):D:=.agg [.int x.firm,.int x.day,.bool x.shows]
@[simp] theorem ayE (x:Objection):(p6 x).cells=[.int x.firm,.int x.day,.bool x.shows]:=_root_.id rfl
@[simp] theorem aC3 (x:Objection):D.agg [.int x.firm,.int x.day,.bool x.shows]=p6 x:=_root_.id rfl
@[simp] theorem ayB (x:Objection):(p6 x).c 0=.int x.firm:=_root_.id rfl
@[simp] theorem ayC (x:Objection):(p6 x).c 1=.int x.day:=_root_.id rfl
@[simp] theorem ayD (x:Objection):(p6 x).c 2=.bool x.shows:=_root_.id rfl
def vw (l:List Objection):D:=.list (l.map p6)
@[simp] theorem aDm (l:List Objection):(vw l).l=l.map p6:=_root_.id rfl
abbrev Wf:Ty:=.agg [.int .i64,.int .i64,.bool]
def Objection.OK (x:Objection):Prop:=aQ x.firm∧aQ x.day
theorem aqP {d:D}(h:DTy Wf d):∃x:Objection,d=p6 x∧x.OK:=by
 obtain⟨ds,rfl,hs⟩:=h.agg_inv;obtain⟨d0,ds,rfl,h0,hs⟩:=hs.cons_inv;obtain⟨d1,ds,rfl,h1,hs⟩:=hs.cons_inv;obtain⟨d2,ds,rfl,h2,hs⟩:=hs.cons_inv;obtain rfl:=hs.nil_inv;obtain⟨n0,rfl,b0⟩:=h0.i64_inv;obtain⟨n1,rfl,b1⟩:=h1.i64_inv;obtain⟨n2,rfl⟩:=h2.bool_inv;exact⟨⟨n0,n1,n2⟩,rfl,⟨b0,b1⟩⟩
theorem aqQ {d:D}(h:DTy (.slice Wf) d):∃l:List Objection,d=vw l∧l.length≤maxLen∧∀y,y∈l→Objection.OK y:=by
 obtain⟨xs,rfl,hm,hx⟩:=h.slice_inv;obtain⟨l,rfl,hl⟩:=jZ (enc:=p6) (P:=Objection.OK) fun x hh=>aqP (hx x hh);exact⟨l,rfl,by simpa using hm,hl⟩
structure Lost where
 file:Int
 part:Int
 by_:Int
 day:Int
 notice:Int
 claims:List Objection
 deriving Inhabited
def fe (x:Lost):D:=.agg [.int x.file,.int x.part,.int x.by_,.int x.day,.int x.notice,vw x.claims]
@[simp] theorem ayA (x:Lost):(fe x).cells=[.int x.file,.int x.part,.int x.by_,.int x.day,.int x.notice,vw x.claims]:=_root_.id rfl
@[simp] theorem aC2 (x:Lost):D.agg [.int x.file,.int x.part,.int x.by_,.int x.day,.int x.notice,vw x.claims]=fe x:=_root_.id rfl
@[simp] theorem az5 (x:Lost):gV 6 (fe x)=fe x:=_root_.id rfl
@[simp] theorem ayv (x:Lost):(fe x).c 1=.int x.part:=_root_.id rfl
@[simp] theorem ayw (x:Lost):(fe x).c 2=.int x.by_:=_root_.id rfl
@[simp] theorem ayx (x:Lost):(fe x).c 3=.int x.day:=_root_.id rfl
@[simp] theorem ayy (x:Lost):(fe x).c 4=.int x.notice:=_root_.id rfl
@[simp] theorem ayz (x:Lost):(fe x).c 5=vw x.claims:=_root_.id rfl
abbrev awu:Ty:=.agg [.int .i64,.int .i64,.int .i64,.int .i64,.int .i64,.slice Wf]
def Lost.OK (x:Lost):Prop:=aQ x.file∧aQ x.part∧aQ x.by_∧aQ x.day∧aQ x.notice∧(x.claims.length≤maxLen∧∀y,y∈x.claims→Objection.OK y)
theorem aoP {d:D}(h:DTy awu d):∃x:Lost,d=fe x∧x.OK:=by
 obtain⟨ds,rfl,hs⟩:=h.agg_inv;obtain⟨d0,ds,rfl,h0,hs⟩:=hs.cons_inv;obtain⟨d1,ds,rfl,h1,hs⟩:=hs.cons_inv;obtain⟨d2,ds,rfl,h2,hs⟩:=hs.cons_inv;obtain⟨d3,ds,rfl,h3,hs⟩:=hs.cons_inv;obtain⟨d4,ds,rfl,h4,hs⟩:=hs.cons_inv;obtain⟨d5,ds,rfl,h5,hs⟩:=hs.cons_inv;obtain rfl:=hs.nil_inv;obtain⟨n0,rfl,b0⟩:=h0.i64_inv;obtain⟨n1,rfl,b1⟩:=h1.i64_inv;obtain⟨n2,rfl,b2⟩:=h2.i64_inv;obtain⟨n3,rfl,b3⟩:=h3.i64_inv;obtain⟨n4,rfl,b4⟩:=h4.i64_inv;obtain⟨n5,rfl,b5,c5⟩:=aqQ h5;exact⟨⟨n0,n1,n2,n3,n4,n5⟩,rfl,⟨b0,b1,b2,b3,b4,⟨b5,c5⟩⟩⟩
end Rm
namespace Rm
open Go Go.Proofs Cx
structure ActsF (f g:File):Prop where
 bill:g.bill=f.bill
 signs:g.signs=f.signs
 alters:g.alters=f.alters
 facts:g.facts=f.facts
theorem ActsF.fact {f g:File}(h:ActsF f g)(k s:Int):iM g k s=iM f k s:=by unfold iM;rw[h.facts]
theorem Xj (r:Realm)(forum q:Int){c c':Case}(h:ActsF (bf c.file c.day) (bf c'.file c'.day))(hs:c'.sign=c.sign)(hh:c'.holder=c.holder)(hd:c'.defence=c.defence)(hu:c'.due=c.due):
 kO r forum q c'=kO r forum q c:=by
 have e0:my (aY c')=my (aY c):=by unfold my;rw[show(aY c').holder=(aY c).holder from hh]
 have e1:pO (aY c')=pO (aY c):=by
  unfold pO;rw[e0,show(aY c').sign=(aY c).sign from hs,show(aY c').holder=(aY c).holder from hh,show(aY c').due=(aY c).due from hu,show(aY c').file.signs=(aY c).file.signs from h.signs]
 have hv:jb r (aY c')=jb r (aY c):=by
  unfold jb;rw[e1];rw[show(aY c').sign=(aY c).sign from hs,show(aY c').file.signs=(aY c).file.signs from h.signs];split
  ·generalize (aY c).file.signs.getD (aY c).sign.toNat default=s;have h1:qK (aY c') s=qK (aY c) s:=by
        unfold qK;rw[show(aY c').file.bill=(aY c).file.bill from h.bill,show(aY c').defence=(aY c).defence from hd,show(aY c').due=(aY c).due from hu]
   have h2:qL r (aY c') s=qL r (aY c) s:=by
        have ha:CB (aY c').file (aY c').sign=CB (aY c).file (aY c).sign:=by
         unfold CB;rw[show(aY c').file.alters=(aY c).file.alters from h.alters,show(aY c').sign=(aY c).sign from hs]
        unfold qL;rw[ha,show(aY c').file.bill=(aY c).file.bill from h.bill,show(aY c').due=(aY c).due from hu]
   unfold I1;rw[h1,h2,e0,show(aY c').sign=(aY c).sign from hs];have hf:∀k s,iM (aY c').file k s=iM (aY c).file k s:=fun k s=>h.fact k s;rw[hf,hf,hf,hf,hf]
  ·rfl
 have hp:iW r forum (aY c')=iW r forum (aY c):=by
  have JU:dY (aY c').file (aY c').sign=dY (aY c).file (aY c).sign:=by
   unfold dY;rw[show(aY c').sign=(aY c).sign from hs,show(aY c').file.signs=(aY c).file.signs from h.signs]
  have ho:kG r forum (aY c')=kG r forum (aY c):=by
   unfold kG;rw[JU,show(aY c').file.bill=(aY c).file.bill from h.bill]
  have hb:m9 r forum (aY c')=m9 r forum (aY c):=by
   unfold m9;rw[JU]
  unfold iW;simp only[ho,hb]
 unfold kO iK;rw[hv,hp]
theorem afR {α:Type}{p:α→Bool}{l:List α}(h:∀x,x∈l→p x=true):l.takeWhile p=l:=by
 induction l with
 |nil=>rfl
 |cons x l ih=>rw[List.takeWhile_cons,if_pos (h x (by simp)),ih fun y hy=>h y (by simp[hy])]
theorem afT {α:Type}{p:α→Bool}{l:List α}{x:α}(h:x∈l.takeWhile p):p x=true:=by
 induction l with
 |nil=>cases h
 |cons y l ih=>
  rw[List.takeWhile_cons] at h;split at h
  ·rcases cC.1 h with rfl|h
   ·assumption
   ·exact ih h
  ·cases h
structure Stab (f:File) (day:Int):Prop where
 signs:∀s,s∈f.signs→s.day≤day
 acts:∀s,s∈f.acts→s.day≤day
 alters:∀a,a∈f.alters→pM f.signs.length a=true
 facts:∀a,a∈f.facts→rn f.signs.length a=true
theorem Stab.at_ {f:File}{day d:Int}(h:Stab f day)(hd:day≤d):bf f d=f:=by
 have h1:GM d f.signs=f.signs:=afR fun s hs=>by simpa using GX (h.signs s hs) hd
 have h2:Wm d f.acts=f.acts:=afR fun s hs=>by simpa using GX (h.acts s hs) hd
 unfold bf;rw[h1,h2,Mq.2 h.alters,Mq.2 h.facts]
theorem afu (f:File)(day:Int):Stab (bf f day) day:=by
 refine⟨fun s hs=>?_,fun s hs=>?_,fun a ha=>?_,fun a ha=>?_⟩
 ·simpa using afT hs
 ·simpa using afT hs
 ·exact(dj.1 ha).2
 ·exact(dj.1 ha).2
theorem Stab.bare {f:File}{day:Int}(h:Stab f day):Stab {f with facts:=[]} day:=⟨h.signs,h.acts,h.alters,fun _ ha=>by cases ha⟩
theorem Xq (r:Realm)(forum q:Int){f g:File}{day d d':Int}(hf:Stab f day)(hg:Stab g day)(h:ActsF f g)(hd:day≤d)(ec:day≤d'):kP r forum q g d'=kP r forum q f d:=by
 unfold kP;refine Xj r forum q ?_ rfl rfl rfl rfl;show ActsF (bf {f with facts:=[]} d) (bf {g with facts:=[]} d');rw[hf.bare.at_ hd,hg.bare.at_ ec];exact⟨h.bill,h.signs,h.alters,rfl⟩
theorem aqj (r:Realm)(forum:Int){f g:File}{day d d':Int}(hf:Stab f day)(hg:Stab g day)(h:ActsF f g)(hs:mR g=mR f)(hd:day≤d)(ec:day≤d'):vq r forum g d'=vq r forum f d:=by
 unfold vq;rw[hf.at_ hd,hg.at_ ec,hs,h.signs,h.bill,Xq r forum 6 hf hg h hd ec]
structure Near (v w:View) (day:Int):Prop where
 realm:w.realm=v.realm
 forum:w.forum=v.forum
 form:w.form=v.form
 due:w.due=v.due
 file:ActsF v.file w.file
 sv:Stab v.file day
 sw:Stab w.file day
 dv:day≤v.day
 dw:day≤w.day
theorem Near.says {v w:View}{day:Int}(h:Near v w day)(q s:Int):jD w q s=jD v q s:=by
 unfold jD;rw[h.realm,h.forum,h.due];refine congrArg yA (Xj v.realm v.forum q (c:=⟨v.file,s,s,-1,v.due,v.day⟩) (c':=⟨w.file,s,s,-1,v.due,w.day⟩) ?_ rfl rfl rfl rfl);show ActsF (bf v.file v.day) (bf w.file w.day);rw[h.sv.at_ h.dv,h.sw.at_ h.dw];exact h.file
theorem Near.text {v w:View}{day:Int}(h:Near v w day)(s:Int):sy w s=sy v s:=by
 unfold sy q7 EP qO;rw[h.says,h.file.alters,h.file.bill]
theorem Near.eff {v w:View}{day:Int}(h:Near v w day)(s:Int)(b:Bool)(hb:l5 w.file s w.day=(b||l5 v.file s v.day)):kq w s=if b=true then {kq v s with binds:=0} else kq v s:=by
 unfold kq;rw[h.says,h.says,h.text,h.form,h.file.signs,hb];cases b<;>simp
theorem aa7 (k k':Int)(v:D):∀es:List (D×D),(∀e,e∈es→∃n:Int,e.1=.int n)→dQ (.int k') (cY (.int k) v es)=if k'=k then some v else dQ (.int k') es
 |[],_=>by
  simp[cY,dQ]
 |e::es,h=>by
  have ih:=aa7 k k' v es fun x hx=>h x (by simp[hx]);obtain⟨n,hn⟩:=h e (by simp);obtain⟨e1,e2⟩:=e;simp only at hn;subst hn;by_cases hk:k=n
  ·subst hk;by_cases mu:k'=k
   ·simp[cY,dQ,mu]
   ·simp[cY,dQ,mu]
  ·by_cases mu:k'=n
   ·subst mu;simp[cY,dQ,hk,qX hk]
   ·simp[cY,dQ,hk,mu,ih]
theorem adH (k v:D):∀es:List (D×D),∀e,e∈cY k v es→e.1=k∨e∈es
 |[],e,h=>by
  simp[cY] at h;exact .inl (by rw[h])
 |x::es,e,h=>by
  unfold cY at h;split at h
  ·rcases cC.1 h with rfl|h
   ·exact .inl rfl
   ·exact .inr (by simp[h])
  ·rcases cC.1 h with rfl|h
   ·exact .inr (by simp)
   ·rcases adH k v es e h with h|h
    ·exact .inl h
    ·exact .inr (by simp[h])
end Rm
namespace Rm
open Go Go.Proofs Cx
def qN (i day:Int)(a:Act):Bool:=decide (a.kind=7)&&decide (a.at_=i)&&decide (a.day≤day)
def jE (l:List Act)(i day:Int):Bool:=l.any (qN i day)
theorem afz (i day:Int)(l:List Act):(dQ (.int i) (ix day l [])).getD (.bool false)=.bool (jE l i day):=by
 have key:∀(l:List Act) (es:List (D×D)) (b:Bool),(∀e,e∈es→∃n:Int,e.1=.int n)→(dQ (.int i) es).getD (.bool false)=.bool b→(dQ (.int i) (ix day l es)).getD (.bool false)=.bool (b||l.any (qN i day)):=by
  intro l
  induction l with
  |nil=>intro es b _ h;simpa [ix] using h
  |cons a l ih=>
   intro es b hk h;have h1:∀e,e∈(if a.kind=7∧a.day≤day then cY (.int a.at_) (.bool true) es else es)→∃n:Int,e.1=.int n:=by
        intro e he;split at he
        ·rcases adH _ _ _ _ he with h'|h'
         ·exact⟨_,h'⟩
         ·exact hk e h'
        ·exact hk e he
   have h2:(dQ (.int i) (if a.kind=7∧a.day≤day then cY (.int a.at_) (.bool true) es else es)).getD (.bool false)=.bool (b||qN i day a):=by
        split
        ·rename_i hc;rw[aa7 _ _ _ _ hk];by_cases hi:i=a.at_
         ·simp[hi,qN,hc]
         ·rw[if_neg hi,h];simp[qN,qX hi]
        ·rename_i hc;rw[h];have:qN i day a=false:=by
          simp[qN];intro h7 _;have:¬a.day≤day:=fun hd=>hc ⟨h7,hd⟩;omega
         rw[this,sH]
   have:=ih _ _ h1 h2;rw[show ix day (a::l) es=ix day l (if a.kind=7∧a.day≤day then cY (.int a.at_) (.bool true) es else es) from rfl,this,List.any_cons,Bool.or_assoc]
 simpa [jE] using key l [] false (fun _ h=>by cases h) rfl
theorem LZ (f:File)(i day:Int):l5 f i day=(ay i f.signs.length&&jE f.acts i day):=by
 unfold l5;rw[afz];rfl
def tK (f:File)(part day:Int)(i:Nat)(s:Sign):Bool:=decide (s.kind=2)&&decide (s.part=part)&&decide (s.day≤day)&& !jE f.acts i day
def jP (f:File)(part day:Int):List Nat:=(List.range f.signs.length).filter fun i=>tK f part day i (f.signs.getD i default)
def jO (f:File)(part day:Int)(k:Nat):List Nat:=(List.range k).filter fun i=>tK f part day i (f.signs.getD i default)
theorem Ya (f:File)(part day:Int)(k:Nat):jO f part day (k+1)=jO f part day k++if tK f part day k (f.signs.getD k default) then[k] else[]:=by
 unfold jO;rw[G5,yM]
 congr 1
 have key:∀(p:Nat→Bool),List.filter p [k]=if p k then[k] else[]:=fun p=>by
  cases h:p k<;>simp[List.filter,h]
 exact key _
theorem ajc (f:File)(part day:Int){k n:Nat}(h:k≤n):∃r,jO f part day n=jO f part day k++r:=by
 induction n with
 |zero=>obtain rfl:k=0:=by omega
        exact⟨[],by simp⟩
 |succ n ih=>
  by_cases e:k=n+1
  ·subst e;exact⟨[],by simp⟩
  ·obtain⟨r,hr⟩:=ih (by omega);exact⟨r++_,by rw[Ya,hr,px]⟩
theorem X9 (f:File)(part day:Int):jO f part day f.signs.length=jP f part day:=rfl
def na (f:File)(i:Nat):D:=.tup [.int i,ff (f.signs.getD i default)]
def fZ (f:File)(part day:Int):List (Int×Sign):=(jP f part day).map fun(i:Nat)=>((i:Int),f.signs.getD i default)
theorem Yb (f:File)(part day:Int):(jP f part day).length≤f.signs.length:=by
 unfold jP;have:=sJ (fun i=>tK f part day i (f.signs.getD i default)) (List.range f.signs.length);rw[G1] at this;exact this
def Ae (day:Int)(a:Act):Bool:=(decide (a.kind=1)||decide (a.kind=3)||decide (a.kind=4))&&decide (a.day≤day)
def De (day:Int)(x:Int×Bool)(a:Act):Int×Bool:=if Ae day a then(if x.2=false∨a.day<x.1 then a.day else x.1,true) else x
def oh (day:Int)(acts:List Act):Int×Bool:=acts.foldl (De day) (0,false)
def LN (b fl:Int):Int:=if uM fl 2||b !=0 then 1 else if uM fl 4 then 2 else 0
def brk (c:Chain)(s:Sign):Bool:= !c.bearer&&s.who !=c.holder
def jf (p:Int×Bool)(c:Chain)(i:Int)(s:Sign):Chain:={signs:=c.signs++[i],holder:=s.to,broken:=c.broken,bearer:=s.to==-1,agent:=LN c.agent s.flags,late:=if p.2&&decide (p.1<s.day) then c.late++[i] else c.late}
def iL (p:Int×Bool)(c:Chain):List (Int×Sign)→Chain
 |[]=>c
 |x::l=>if brk c x.2 then {c with broken:=x.1} else iL p (jf p c x.1 x.2) l
def lD (f:File):Chain:=⟨[],f.bill.payee,-1,f.bill.payee==-1,0,[]⟩
def jL (f:File)(part day:Int):Chain:=iL (oh day f.acts) (lD f) (fZ f part day)
theorem XH (p:Int×Bool):∀(l:List (Int×Sign)) (c:Chain),(iL p c l).signs.length≤c.signs.length+l.length∧((iL p c l).late.length≤c.late.length+l.length)
 |[],c=>by simp[iL]
 |x::l,c=>by
  unfold iL;split
  ·exact⟨Nat.le_add_right _ _,Nat.le_add_right _ _⟩
  ·have:=XH p l (jf p c x.1 x.2);have h1:(jf p c x.1 x.2).signs.length=c.signs.length+1:=by simp[jf]
   have h2:(jf p c x.1 x.2).late.length≤c.late.length+1:=by
        simp only[jf];split<;>simp
   simp only[nZ];omega
theorem ahC (f:File)(part day:Int):(jL f part day).signs.length≤f.signs.length∧(jL f part day).late.length≤f.signs.length:=by
 have h:=XH (oh day f.acts) (fZ f part day) (lD f);have h2:=Yb f part day;have h3:(fZ f part day).length=(jP f part day).length:=by unfold fZ;rw[fG]
 have h4:(lD f).signs.length=0∧(lD f).late.length=0:=⟨rfl,rfl⟩
 unfold jL;omega
end Rm
namespace Rm
open Go Go.Proofs Cx
theorem ajd (f:File)(part day:Int):Oa [.ref (aZ f),.ref (.int day),.ref (.int part)]=(jP f part day).map (na f):=by
 have e1:((D.ref (aZ f)).deref.c 15).l=f.signs.map ff:=rfl;have e2:((D.ref (aZ f)).deref.c 17).l=f.acts.map gY:=rfl;unfold Oa jP;simp only[ux,Cs,e1,e2,fG]
 have key:∀i,i<f.signs.length→(f.signs.map ff).getD i .none=ff (f.signs.getD i default):=fun i hi=>by
  simp[aJ,hi]
 have hf:((List.range f.signs.length).filter fun(i:Nat)=>decide ((((f.signs.map ff).getD i .none).c 0).i=2)&&decide ((((f.signs.map ff).getD i .none).c 1).i=(D.ref (D.int part)).deref.i)&&decide ((((f.signs.map ff).getD i .none).c 6).i≤(D.ref (D.int day)).deref.i)&&
  !((f.acts.map gY).any fun a=>decide ((a.c 0).i=7)&&decide ((a.c 4).i=(i:Int))&&decide ((a.c 6).i≤(D.ref (D.int day)).deref.i)))=(List.range f.signs.length).filter fun i=>tK f part day i (f.signs.getD i default):=by
  apply List.filter_congr;intro i hi;rw[key i (bY.1 hi),List.any_map];rfl
 rw[hf];apply we;intro i hi;rw[key i (bY.1 (dj.1 hi).1)];rfl
set_option maxRecDepth 10000 in
theorem ajb (f:File)(part day:Int)(h1:f.acts.length≤1000)(h2:f.signs.length≤1000):ao T 64 [.ref (aZ f),.ref (.int day),.ref (.int part)] (.list ((jP f part day).map (na f))):=by
 have oF:=ajd f part day;rw[←oF];refine ao.of_it (pc:=(ab sW)) (J:=1000) (k:=2) rfl (fun x hx=>?_) (fun m hm=>?_)
 ·rw[oF] at hx;obtain⟨i,_,rfl⟩:=dJ.1 hx;exact⟨_,rfl,rfl⟩
 ·rw[oF] at hm ⊢;refine GK ?_;rw[awl];simp[V1];refine⟨_,(afI f day (by omega)).yld (by decide),?_⟩;refine aN.forLoop (α:=Nat) (fun k vr vo=>k≤f.signs.length∧vr=[.int k]∧vo=[.list ((jO f part day k).map (na f))]∧(jO f part day k).length≤m) (fun k=>f.signs.length-k) 0 ?_ ?_
  ·simp[Yf,jO]
  ·rintro k vr vo ⟨hk,rfl,rfl,hc⟩;by_cases af:k<f.signs.length
   ·have fP:IntKind.i64.wrap ((k:Int)+1)=(k:Int)+1:=bU (by omega);have hg:f.signs.getD k default=f.signs[k]:=by simp[af]
    have amE:=afz k day f.acts;have ry:(((f.signs[k].kind=2∧f.signs[k].part=part)∧f.signs[k].day≤day)∧jE f.acts k day=false)↔tK f part day k (f.signs.getD k default)=true:=by
     rw[hg];simp[tK]
    have eU:=Ya f part day k;obtain⟨r,hr⟩:=ajc f part day (k:=k+1) (n:=f.signs.length) af;rw[X9] at hr;simp[aeN,LF,af,fP,amE];by_cases hi:tK f part day k (f.signs.getD k default)=true
    ·have uT:=ry.2 hi;rw[if_pos hi] at eU;have hlen:(jO f part day (k+1)).length=(jO f part day k).length+1:=by rw[eU];simp
     have qo:(jO f part day k).map (na f)++[D.tup [D.int k,ff f.signs[k]]]=(jO f part day (k+1)).map (na f):=by
      rw[eU,lz,List.map_singleton];unfold na;rw[hg]
     have ve:(jO f part day (k+1)).map (na f)=((jP f part day).map (na f)).take ((jO f part day k).length+1):=by
      rw[hr,lz,ago (by simp[hlen]),wg (by simp[hlen])]
     have ba:(jO f part day k).length<((jP f part day).map (na f)).length:=by
      rw[hr];simp[hlen];omega
     simp only[uT,qo,and_self,if_true,true_and];refine⟨_,ao.answer ve ba hc,?_⟩;by_cases lH:(jO f part day k).length<m
     ·rw[if_neg (by simp[lH])];exact⟨k+1,by omega,by omega,by simp,rfl,by omega⟩
     ·obtain rfl:(jO f part day k).length=m:=by omega
      rw[if_pos (by simp),ve]
    ·have uT:=fun h=>hi (ry.1 h);rw[if_neg hi,lx] at eU;rw[if_neg uT,if_neg uT,if_neg (fun h=>uT h.1)];exact⟨k+1,by omega,by omega,by simp,by rw[eU],by rw[eU];exact hc⟩
   ·obtain rfl:k=f.signs.length:=by omega
    simp[aeN,LF];rw[X9] at hc ⊢;rw[wg (by simp;omega)]
set_option maxRecDepth 10000 in
theorem aih (f:File)(day:Int)(hf:f.acts.length≤1000):ao T 29 [aZ f,.int day] (.tup [.int (oh day f.acts).1,.bool (oh day f.acts).2]):=by
 refine .of_tree rfl (lA 92 (by kernel_rfl)) awk ?_;simp[VZ];refine aN.forRounds f.acts.length (fun k=>[.int (oh day (f.acts.take k)).1,.bool (oh day (f.acts.take k)).2,.int k]) (fun k=>[]) ?_ (fun k hk=>?_) ?_
 ·simp;exact⟨rfl,rfl⟩
 ·have fP:IntKind.i64.wrap ((k:Int)+1)=(k:Int)+1:=bU (by omega);have hs:oh day (f.acts.take (k+1))=De day (oh day (f.acts.take k)) f.acts[k]:=by
   unfold oh;rw[ki hk,yN];rfl
  rw[hs];generalize oh day (f.acts.take k)=x;simp[aeM,LD,hk,fP];generalize f.acts[k]=a;split
  ·rename_i h;have hd:Ae day a=false:=by
        cases e:Ae day a with
        |false=>rfl
        |true=>simp[Ae] at e;omega
   simp[De,hd]
  ·rename_i h;have hd:Ae day a=true:=by
        simp[Ae];omega
   by_cases h2:x.2=false∨a.day<x.1
   ·simp[De,hd,h2]
   ·simp[De,hd,h2];cases e:x.2 with
    |true=>rfl
    |false=>exact absurd (.inl e) h2
 ·simp[aeM,LD]
theorem as3 (b fl:Int):ao T 31 [.int b,.int fl] (.int (LN b fl)):=by
 refine .of_tree rfl (lA 95 (by kernel_rfl)) awn ?_;simp[V2,LN,uM];split
 ·rename_i h;by_cases h1:cV .and .i64 fl 2=0
  ·simp[h1] at h;simp[h]
  ·simp[h1]
 ·rename_i h;by_cases h1:cV .and .i64 fl 2=0
  ·simp[h1] at h;simp[h1,h]
  ·simp[h1] at h
theorem ajf (f:File)(part day:Int):ao T 30 [aZ f,.int part,.int day] (.clo 64 [.ref (aZ f),.ref (.int day),.ref (.int part)]):=by
 refine .of_tree rfl (lA 93 (by kernel_rfl)) awm ?_;simp[V0]
theorem aje (f:File)(part day:Int)(k:Nat)(y:D)(h:((jP f part day).map (na f))[k]?=some y):∃x:Int×Sign,(fZ f part day).drop k=x::(fZ f part day).drop (k+1)∧y=.tup [.int x.1,ff x.2]:=by
 rw[cB,aC] at h;obtain⟨i,hi,rfl⟩:=h;refine⟨((i:Int),f.signs.getD i default),?_,rfl⟩;have af:=(eD.1 hi).1;have hl:k<(fZ f part day).length:=by unfold fZ;rw[fG];exact af
 rw[Mn hl]
 congr 1
 have e2:(fZ f part day)[k]?=some ((i:Int),f.signs.getD i default):=by
  unfold fZ;rw[cB,hi];rfl
 rw[bF hl] at e2;exact Cw e2
set_option maxRecDepth 10000 in
theorem ahD (ρ:Env)(f:File)(part day:Int)(p:Int×Bool)(h2:f.signs.length≤1000)(h77:ρ.r 77=.list ((jP f part day).map (na f)))(a0 a5:D)(h7:ρ.o 7=.agg [a0,.int f.bill.payee,.int (-1),.bool (f.bill.payee==-1),.int 0,a5])
 (h41:ρ.o 4103=.list []) (h24:ρ.o 24583=.list []) (h8:ρ.o 8=.agg [.int p.1]) (h9:ρ.o 9=.agg [.bool p.2]) {Q:Out→Prop}
 (hQ:∀(ρ':Env) (b0 b5:D),ρ'.o 4103=ints (iL p (lD f) (fZ f part day)).signs→ρ'.o 24583=ints (iL p (lD f) (fZ f part day)).late→
   ρ'.o 7=.agg [b0,.int (iL p (lD f) (fZ f part day)).holder,.int (iL p (lD f) (fZ f part day)).broken,.bool (iL p (lD f) (fZ f part day)).bearer,.int (iL p (lD f) (fZ f part day)).agent,b5]→
   (∀j,j≠11→j≠4103→j≠24583→j≠7→ρ'.o j=ρ.o j)→Q (.next ρ')∧Q (.exit 0 ρ')):aN T (X2 Hh) ρ Q:=by
 have hlen:=Yb f part day
 refine aN.eachR ((jP f part day).map (na f)) (by simp[h77]) (fun k vo=>∃c:Chain,∃Wr b0 b5,c.broken=-1∧iL p (lD f) (fZ f part day)=iL p c ((fZ f part day).drop k)∧c.signs.length≤k∧c.late.length≤k∧
  vo=[Wr,ints c.signs,ints c.late,.agg [b0,.int c.holder,.int c.broken,.bool c.bearer,.int c.agent,b5]]) ?_ ?_ ?_
 ·exact⟨lD f,ρ.o 11,a0,a5,rfl,by simp,bl _,bl _,by simp[h7,h41,h24,lD,ints]⟩
 ·rintro k y vo hy ⟨c,Wr,b0,b5,hb,ak,Jn,D0,rfl⟩;have hk:k<f.signs.length:=by
   have:=(eD.1 hy).1;rw[fG] at this;omega
  obtain⟨⟨i,s⟩,hd,rfl⟩:=aje f part day k y hy;rw[hd] at ak;simp only[iL] at ak;simp[asJ,Tj,h8,h9];split
  ·rename_i uS;have ON:brk c s=true:=by simp[brk,uS.1,uS.2]
   rw[if_pos ON] at ak;rw[ak] at hQ;refine⟨by decide,(hQ _ b0 b5 ?_ ?_ ?_ ?_).2⟩
   ·simp
   ·simp
   ·simp[bZ]
   ·intro j h1 h2 h3 h4;simp[h1,h2,h3,h4]
  ·rename_i uS;have ON:¬brk c s=true:=by simpa [brk] using uS
   rw[if_neg ON] at ak;refine⟨by omega,.int (LN c.agent s.flags),?_,?_⟩
   ·simp[bZ,D.cells_none];exact as3 _ _
   split
   ·rename_i AL;refine⟨by omega,jf p c i s,hb,ak,by simp[jf];omega,by simp[jf,AL.1,AL.2];omega,by simp[jf,ints],by simp[jf,ints,AL.1,AL.2],.none,.none,?_⟩;simp[bZ,D.cells_none,jf,hb]
   ·rename_i AL;have hl:(if p.2&&decide (p.1<s.day) then c.late++[i] else c.late)=c.late:=if_neg (by simpa using AL);refine⟨jf p c i s,hb,ak,by simp[jf];omega,by simp only[jf,hl];omega,by simp[jf,ints],by simp only[jf,hl],.none,b5,?_⟩;simp[bZ,D.cells_none,jf,hb]
 ·rintro vo ⟨c,Wr,b0,b5,hb,ak,Jn,D0,rfl⟩;have:(fZ f part day).drop ((jP f part day).map (na f)).length=[]:=by
   rw[Mo];unfold fZ;simp
  rw[this] at ak;simp only[iL] at ak;rw[ak] at hQ;refine(hQ _ b0 b5 ?_ ?_ ?_ ?_).1
  ·simp
  ·simp
  ·simp
  ·intro j h1 h2 h3 h4;simp[h1,h2,h3,h4]
set_option maxRecDepth 10000 in
theorem WD (f:File)(part day:Int)(h1:f.acts.length≤1000)(h2:f.signs.length≤1000):ao T 12 [aZ f,.int part,.int day] (Ai (jL f part day)):=by
 refine .of_tree rfl (lA 91 (by kernel_rfl)) awi ?_;simp[VX];refine⟨_,aih f day h1,_,ajf f part day,64,_,rfl,_,ajb f part day h1 h2,?_⟩;refine ahD _ f part day (oh day f.acts) h2 (by simp) (.list []) (.list []) (by simp[bZ]) (by simp) (by simp) (by simp[bZ]) (by simp[bZ]) (fun ρ' b0 b5 g1 g2 g3 _=>?_);simp[g1,g2,g3];constructor<;>rfl
end Rm
namespace Rm
open Go Go.Proofs Cx
@[simp] theorem aDh:D.none.b=false:=_root_.id rfl
theorem eN (n a b:Int):ao T 68 [.int n,.int a,.int b] (.bool (wi n a b)):=by
 refine .of_tree rfl (lA 28 (by kernel_rfl)) au1 ?_;simp[UI];by_cases h:a≤n<;>simp[wi,h]
theorem nV (n m:Int):ao T 86 [.int n,.int m] (.bool (ay n m)):=by
 refine .of_tree rfl (lA 24 (by kernel_rfl)) awq ?_;simp[V5];by_cases h:0≤n<;>simp[ay,h]
def L5 (b:Bill):Bool:=
 if b.tenor.kind=0∨b.tenor.kind=4 then decide (b.tenor.n=0)&&decide (b.tenor.unit=0)
 else if b.tenor.kind=1∨b.tenor.kind=2 then(decide (1≤b.tenor.n)&&decide (b.tenor.n≤400))&&(decide (b.tenor.unit=0)||decide (b.tenor.unit=1))
 else if b.tenor.kind=3 then(decide (b.day≤b.tenor.n)&&decide (b.tenor.n≤100000))&&decide (b.tenor.unit=0)
 else false
theorem awQ (b:Bill):ao T 87 [eF b] (.bool (L5 b)):=by
 refine .of_tree rfl (lA 25 (by kernel_rfl)) awr ?_;unfold L5;simp[V6];by_cases h0:b.tenor.kind=0
 ·by_cases h1:b.tenor.n=0<;>simp[h0,h1]
 by_cases h4:b.tenor.kind=4
 ·by_cases h1:b.tenor.n=0<;>simp[h4,h1]
 simp[h0,h4];by_cases k1:b.tenor.kind=1
 ·by_cases h1:1≤b.tenor.n<;>by_cases h2:b.tenor.n≤400<;>by_cases h3:b.tenor.unit=0<;>simp[k1,h1,h2,h3]
 by_cases k2:b.tenor.kind=2
 ·by_cases h1:1≤b.tenor.n<;>by_cases h2:b.tenor.n≤400<;>by_cases h3:b.tenor.unit=0<;>simp[k2,h1,h2,h3]
 simp[k1,k2];by_cases k3:b.tenor.kind=3
 ·by_cases h1:b.day≤b.tenor.n<;>by_cases h2:b.tenor.n≤100000<;>simp[k3,h1,h2]
 simp[k3]
def tO (n m:Int):Bool:=decide (n=-1)||ay n m
def yD (r:Realm)(b:Bill):Bool:=((ay b.drawer r.firms.length&&ay b.drawee r.firms.length)&&tO b.payee r.firms.length)&&tO b.need r.firms.length
def vX (r:Realm)(b:Bill):Bool:=(ay b.currency r.currencies.length&&ay b.city r.cities.length)&&ay b.pay r.cities.length
def uj (b:Bill):Prop:=((((1≤b.sum∧b.sum≤1099511627776)∧0≤b.day)∧b.day≤100000)∧0≤b.rate)∧b.rate≤1000
def DI (b:Bill):Prop:=((0≤b.flags∧b.flags≤7)∧(cV .and .i64 b.flags 4=0∨¬b.payee=-1))∧L5 b=true
structure BillOK (r:Realm) (b:Bill):Prop where
 realm:lE r=0
 who:yD r b=true
 where_:vX r b=true
 range:uj b
 parts:1≤b.parts∧b.parts≤4
 form:DI b
 usance:b.tenor.kind=4→∃u,u∈r.usances∧u.fr=b.city∧u.to=b.pay
def pw (P:Prop)(d:D):Prop:=∃e:Int,d=.int e∧(e=0↔P)
theorem pw.no {P:Prop}{e:Int}(h:¬P)(he:e≠0):pw P (.int e):=⟨e,rfl,fun x=>absurd x he,fun x=>absurd x h⟩
theorem pw.ok {P:Prop}(h:P):pw P (.int 0):=⟨0,rfl,fun _=>h,fun _=>rfl⟩
theorem awP (r:Realm)(hs:Small r)(b:Bill):∃d,ao T 66 [aW r,eF b] d∧pw (BillOK r b) d:=by
 refine ao.ex_of_tree rfl ag5 awp ?_;simp[V4];refine⟨_,aeS r hs,?_⟩;by_cases h0:lE r=0
 case neg=>
  simp[h0];exact .no (fun h=>h0 h.realm) h0
 simp[h0];refine⟨_,nV _ _,?_⟩;cases h1:ay b.drawer r.firms.length
 ·simp;exact .no (fun h=>by simpa [yD,h1] using h.who) (by decide)
 simp;refine⟨_,nV _ _,?_⟩;cases h2:ay b.drawee r.firms.length
 ·simp;exact .no (fun h=>by simpa [yD,h2] using h.who) (by decide)
 by_cases h3:tO b.payee r.firms.length=true
 case neg=>
  have fh:¬b.payee=-1∧ay b.payee r.firms.length=false:=by simpa [tO] using h3
  simp[fh.1];refine⟨_,nV _ _,?_⟩;simp[fh.2];exact .no (fun h=>h3 (by have:=h.who;simp[yD] at this;exact this.1.2)) (by decide)
 by_cases h4:tO b.need r.firms.length=true
 case neg=>
  have qe:¬b.need=-1∧ay b.need r.firms.length=false:=by simpa [tO] using h4
  have dD:pw (BillOK r b) (.int 1):=.no (fun h=>h4 (by have:=h.who;simp[yD] at this;exact this.2)) (by decide);by_cases hp:b.payee=-1
  ·simp[hp,qe.1];refine⟨_,nV _ _,?_⟩;simp[qe.2];exact dD
  ·have fh:ay b.payee r.firms.length=true:=by simpa [tO,hp] using h3
   simp[hp];refine⟨_,nV _ _,?_⟩;simp[fh,qe.1];refine⟨_,nV _ _,?_⟩;simp[qe.2];exact dD
 have J0:yD r b=true:=by simp[yD,h1,h2,h3,h4]
 have hp:b.payee=-1∨(¬b.payee=-1∧ay b.payee r.firms.length=true):=by
  by_cases e:b.payee=-1
  ·exact .inl e
  ·exact .inr ⟨e,by simpa [tO,e] using h3⟩
 have hn:b.need=-1∨(¬b.need=-1∧ay b.need r.firms.length=true):=by
  by_cases e:b.need=-1
  ·exact .inl e
  ·exact .inr ⟨e,by simpa [tO,e] using h4⟩
 have bad:¬vX r b=true→pw (BillOK r b) (.int 1):=fun h=>.no (fun k=>h k.where_) (by decide);have fin:∀u:Int,(u=0↔∃u,u∈r.usances∧u.fr=b.city∧u.to=b.pay)→uj b→(1≤b.parts∧b.parts≤4)→DI b→vX r b=true→pw (BillOK r b) (if b.tenor.kind=4 then .int u else .int 0):=by
  intro u hu h6 h7 h8 h9;by_cases e:b.tenor.kind=4
  ·rw[if_pos e];exact⟨u,rfl,fun h=>⟨h0,J0,h9,h6,h7,h8,fun _=>hu.1 h⟩,fun h=>hu.2 (h.usance e)⟩
  ·rw[if_neg e];exact .ok ⟨h0,J0,h9,h6,h7,h8,fun h=>absurd h e⟩
 obtain⟨un,ue,hu1,_,hu2⟩:=W4 r b.city b.pay (by have:=hs.us;omega);rcases hp with hp|⟨hp,fo⟩<;>rcases hn with hn|⟨hn,mw⟩
 case' inl.inl=>simp[hp,hn]
 case' inl.inr=>simp[hp,hn];refine⟨_,nV _ _,?_⟩;simp[mw]
 case' inr.inl=>simp[hp,hn];refine⟨_,nV _ _,?_⟩;simp[fo]
 case' inr.inr=>simp[hp,hn];refine⟨_,nV _ _,?_⟩;simp[fo];refine⟨_,nV _ _,?_⟩;simp[mw]
 all_goals
  refine⟨_,nV _ _,?_⟩;cases h5:ay b.currency r.currencies.length
  ·simp;exact bad (by simp[vX,h5])
  simp;refine⟨_,nV _ _,?_⟩;cases h6:ay b.city r.cities.length
  ·simp;exact bad (by simp[vX,h6])
  simp;refine⟨_,nV _ _,?_⟩;cases h7:ay b.pay r.cities.length
  ·simp;exact bad (by simp[vX,h7])
  have EH:vX r b=true:=by simp[vX,h5,h6,h7]
  simp;by_cases h8:uj b
  case neg=>
   have Ox:((((b.sum<1∨1099511627776<b.sum)∨b.day<0)∨100000<b.day)∨b.rate<0)∨1000<b.rate:=by unfold uj at h8;omega
   rw[if_pos Ox];exact .no (fun k=>h8 k.range) (by decide)
  have Ox:¬(((((b.sum<1∨1099511627776<b.sum)∨b.day<0)∨100000<b.day)∨b.rate<0)∨1000<b.rate):=by unfold uj at h8;omega
  rw[if_neg Ox];by_cases h9:1≤b.parts∧b.parts≤4
  case neg=>
   rw[if_pos (by omega)];exact .no (fun k=>h9 k.parts) (by decide)
  rw[if_neg (by omega)];have MW:¬DI b→pw (BillOK r b) (.int 2):=fun h=>.no (fun k=>h k.form) (by decide);by_cases g1:0≤b.flags∧b.flags≤7
  case neg=>
   have fg:b.flags<0∨7<b.flags:=by omega
   simp[g1,fg];exact MW (fun h=>g1 h.1.1)
  have fg:¬(b.flags<0∨7<b.flags):=by omega
  by_cases g2:cV .and .i64 b.flags 4=0∨¬b.payee=-1
  case neg=>
   have ot:¬cV .and .i64 b.flags 4=0∧b.payee=-1:=by simpa using g2
   first
        |exact absurd ot.2 hp
        |(simp[g1,fg,ot]
          exact MW (fun h=>g2 h.1.2))
  have g3:(b.payee=-1→cV .and .i64 b.flags 4=0):=fun e=>g2.resolve_right (fun h=>h e);simp[g1,fg,hp,g3];refine⟨_,awQ b,?_⟩;cases ou:L5 b
  ·simp;exact MW (fun h=>by have:=h.2;rw[ou] at this;cases this)
  have hf:=fin ue hu2 h8 h9 ⟨⟨g1,g2⟩,ou⟩ EH;simp;by_cases e:b.tenor.kind=4
  ·simp[e] at hf ⊢;exact⟨_,hu1,hf⟩
  ·simp[e] at hf ⊢;exact hf
end Rm
namespace Rm
open Go Go.Proofs Cx
def B9 (f:File)(i part:Int):Bool:=decide (i=0)||decide ((dY f i).part=part)
theorem ady (f:File)(i part:Int)(h:i=0∨(0≤i∧i<f.signs.length)):ao T 118 [aZ f,.int i,.int part] (.bool (B9 f i part)):=by
 refine .of_tree rfl (lA 31 (by kernel_rfl)) au3 ?_;unfold B9;by_cases h0:i=0
 ·simp[Mf,h0]
 ·obtain⟨h1,h2⟩:=h.resolve_left h0;have h3:i.toNat<f.signs.length:=by omega
  simp[Mf,h0,h1,h2,h3,dY]
def Hi (f:File)(i:Int)(kinds:List Int):Bool:=wi (dY f i).for_ 0 (i-1)&&(B9 f (dY f i).for_ (dY f i).part&&hasB kinds (dY f (dY f i).for_).kind)
theorem arM (f:File)(i:Int)(kinds:List Int)(h:0≤i∧i<f.signs.length)(hl:f.signs.length≤100000)(hk:kinds.length≤100):ao T 117 [aZ f,.int i,ints kinds] (.bool (Hi f i kinds)):=by
 refine .of_tree rfl (lA 30 (by kernel_rfl)) auY ?_;have h1:i.toNat<f.signs.length:=by omega
 have hw:IntKind.i64.wrap (i-1)=i-1:=bU (by omega);have hs:dY f i=f.signs[i.toNat]:=by simp[dY,h1]
 unfold Hi;rw[hs];simp[UF,h,h1,hw];refine⟨_,eN _ _ _,?_⟩;cases hb:wi f.signs[i.toNat].for_ 0 (i-1)
 ·simp
 ·have bC:0≤f.signs[i.toNat].for_∧f.signs[i.toNat].for_<f.signs.length:=by
   simp[wi] at hb;omega
  have h2:f.signs[i.toNat].for_.toNat<f.signs.length:=by omega
  have eI:dY f f.signs[i.toNat].for_=f.signs[f.signs[i.toNat].for_.toNat]:=by simp[dY,h2]
  rw[eI];simp;refine⟨_,ady f _ _ (.inr bC),?_⟩;cases cn:B9 f f.signs[i.toNat].for_ f.signs[i.toNat].part
  ·simp
  simp[bC,h2];exact uu kinds _ (by omega)
def Yt (r:Realm)(b:Bill)(s:Sign)(B:List Int→Bool):Bool:=
 if s.kind=0 then((((decide (s.who=b.drawer)&&decide (s.sum=0))&&decide (cV .or .i64 s.flags 1=1))&&decide (s.part=0))&&decide (s.day=b.day))&&decide (s.city=b.city)
 else if s.kind=1 then decide (s.who=b.drawee)&&(wi s.sum 1 1099511627776&&decide (s.flags=0))
 else if s.kind=2 then((wi s.to (-1) ((r.firms.length:Int)-1)&&decide (s.sum=0))&&wi s.flags 0 7)&&decide (cV .and .i64 s.flags 6≠6)
 else if s.kind=3 then(decide (s.sum=0)&&decide (s.flags=0))&&B [0,1,2,4]
 else if s.kind=4 then((wi s.sum 1 1099511627776&&decide (s.flags=0))&&decide (s.who≠b.drawee))&&B [0,2]
 else false
def Om (r:Realm)(b:Bill)(i:Nat)(s:Sign)(B:List Int→Bool):Bool:=
 if ¬(i=0↔s.kind=0)∨(¬s.kind=2∧¬s.to=-1) then false
 else if(¬s.kind=3∧¬s.kind=4)∧¬s.for_=-1 then false
 else Yt r b s B
def DD (r:Realm)(f:File)(i:Nat):Bool:=Om r f.bill i (f.signs.getD i default) (Hi f i)
theorem arO (r:Realm)(hr:Small r)(f:File)(i:Nat)(h:i<f.signs.length)(hl:f.signs.length≤100000):ao T 89 [aW r,aZ f,.int i] (.bool (DD r f i)):=by
 refine .of_tree rfl (lA 29 (by kernel_rfl)) au0 ?_;have nl:=hr.firms;have hw:IntKind.i64.wrap ((r.firms.length:Int)-1)=(r.firms.length:Int)-1:=bU (by omega);have hs:f.signs.getD i default=f.signs[i]:=by simp[h]
 have OM:=fun ks hk=>arM f i ks ⟨by omega,by omega⟩ hl hk;unfold DD;rw[hs];generalize hB:Hi f i=B at OM ⊢;generalize hX:Om r f.bill i f.signs[i] B=X;simp[UH,h];generalize f.signs[i]=s at*;unfold Om at hX;by_cases h1:¬(i=0↔s.kind=0)∨(¬s.kind=2∧¬s.to=-1)
 ·rw[if_pos h1] at hX ⊢;exact hX.symm
 rw[if_neg h1] at hX ⊢;by_cases h2:(¬s.kind=3∧¬s.kind=4)∧¬s.for_=-1
 ·rw[if_pos h2] at hX ⊢;exact hX.symm
 rw[if_neg h2] at hX ⊢;refine⟨_,eN _ _ _,?_⟩;unfold Yt at hX;by_cases k0:s.kind=0
 ·rw[if_pos k0] at hX ⊢;rw[←hX];by_cases a:(((s.who=f.bill.drawer∧s.sum=0)∧cV BinOp.or IntKind.i64 s.flags 1=1)∧s.part=0)∧s.day=f.bill.day
  ·simp[a]
  ·rw[if_neg a]
   congr 1
   rw[eq_comm,WB];intro e;simp at e;exact a e.1
 rw[if_neg k0] at hX ⊢;by_cases k1:s.kind=1
 ·rw[if_pos k1] at hX ⊢;rw[←hX];by_cases a:s.who=f.bill.drawee<;>cases wi s.sum 1 1099511627776<;>simp[a]
 rw[if_neg k1] at hX ⊢;by_cases k2:s.kind=2
 ·rw[if_pos k2] at hX ⊢;rw[←hX,hw];refine⟨_,eN _ _ _,?_⟩;cases wi s.to (-1) ((r.firms.length:Int)-1)
  ·simp
  by_cases a:s.sum=0
  case neg=>simp[a]
  simp[a];refine⟨_,eN _ _ _,?_⟩;cases wi s.flags 0 7<;>simp
 rw[if_neg k2] at hX ⊢;by_cases k3:s.kind=3
 ·rw[if_pos k3] at hX ⊢;rw[←hX];by_cases a:s.sum=0∧s.flags=0
  case neg=>
   rw[if_neg a,if_neg a]
   congr 1
   rw[eq_comm,WB];intro e;simp at e;exact a e.1
  rw[if_pos a];refine⟨_,OM [0,1,2,4] (by decide),?_⟩;simp[a]
 rw[if_neg k3] at hX ⊢;by_cases k4:s.kind=4
 ·rw[if_pos k4] at hX ⊢;rw[←hX];cases wi s.sum 1 1099511627776
  ·simp
  by_cases a:s.flags=0∧¬s.who=f.bill.drawee
  case neg=>
   simp[a]
  simp[a];exact OM [0,2] (by decide)
 rw[if_neg k4] at hX ⊢;exact hX.symm
end Rm
namespace Rm
open Go Go.Proofs Cx
def lG (f:File)(i:Nat):Int:=if i=0 then f.bill.day else(f.signs.getD (i-1) default).day
def GL (f:File)(i:Nat)(s:Sign):Bool:=(f.signs.take i).any fun x=>(decide (s.kind=1)&&decide (x.kind=1))&&decide (x.part=s.part)
def B8 (r:Realm)(f:File)(i:Nat):Int:=
 let s:=f.signs.getD i default
 if wi s.part 0 (f.bill.parts-1)=false then 15
 else if ay s.who r.firms.length=false∨ay s.city r.cities.length=false then 1
 else if wi s.day (lG f i) 100000=false∨(i=0∧¬s.day=lG f i) then 13
 else if DD r f i=false then 14
 else if GL f i s=true then 5 else 0
theorem adx (r:Realm)(hr:Small r)(f:File)(hp:1≤f.bill.parts∧f.bill.parts≤4)(i:Nat)(h:i<f.signs.length)(hl:f.signs.length≤100000):ao T 67 [aW r,aZ f,.int i] (.int (B8 r f i)):=by
 refine .of_tree rfl (lA 27 (by kernel_rfl)) au2 ?_;have nl:=hr.firms;have hci:=hr.cities;have fP:IntKind.i64.wrap ((r.firms.length:Int)-1)=(r.firms.length:Int)-1:=bU (by omega);have dF:IntKind.i64.wrap ((r.cities.length:Int)-1)=(r.cities.length:Int)-1:=bU (by omega);have P5:IntKind.i64.wrap (f.bill.parts-1)=f.bill.parts-1:=bU (by omega);have hs:f.signs.getD i default=f.signs[i]:=by simp[h]
 generalize hX:B8 r f i=X;unfold B8 at hX;simp only[hs] at hX;simp[UJ,h,fP,dF,P5];refine⟨_,eN _ _ _,?_⟩;cases a1:wi f.signs[i].part 0 (f.bill.parts-1)
 ·simpa [a1] using hX
 simp[a1] at hX ⊢;refine⟨_,eN _ _ _,?_⟩;rw[nA] at hX;cases a2:wi f.signs[i].who 0 ((r.firms.length:Int)-1)
 ·simpa [a2] using hX
 simp[a2] at hX ⊢;refine⟨_,eN _ _ _,?_⟩;rw[nA] at hX;cases a3:wi f.signs[i].city 0 ((r.cities.length:Int)-1)
 ·simpa [a3] using hX
 simp[a3] at hX ⊢;refine⟨by omega,?_⟩;have tB:min i f.signs.length=i:=by omega
 refine aN.forRounds i (fun k=>[.int (lG f k),.bool ((f.signs.take k).any fun x=>(decide (f.signs[i].kind=1)&&decide (x.kind=1))&&decide (x.part=f.signs[i].part)),.int k]) (fun _=>[]) ?_ (fun k hk=>?_) ?_
 ·simp[lG]
 ·have hw:=bk hk (by omega);have bu:k<f.signs.length:=by omega
  have hf:lG f (k+1)=f.signs[k].day:=by simp[lG,bu]
  rw[ki bu,WM];generalize ((f.signs.take k).any fun x=>(decide (f.signs[i].kind=1)&&decide (x.kind=1))&&decide (x.part=f.signs[i].part))=A;simp[aez,Ll,hk,bu,h,hw,hf,tB];cases A
  ·by_cases e1:f.signs[i].kind=1<;>by_cases e2:f.signs[k].kind=1<;>simp[e1,e2]
  ·simp
 ·have ht:GL f i f.signs[i]=true↔∃x,x∈List.take i f.signs∧(f.signs[i].kind=1∧x.kind=1)∧x.part=f.signs[i].part:=by simp[GL]
  simp[aez,Ll,tB,h];refine⟨_,eN _ _ _,?_⟩;by_cases a4:wi f.signs[i].day (lG f i) 100000=false∨(i=0∧¬f.signs[i].day=lG f i)
  ·rw[if_pos a4] at hX;rw[if_pos (by simpa using a4)];exact hX
  rw[if_neg a4] at hX;rw[if_neg (by simpa using a4)];refine⟨_,arO r hr f i h hl,?_⟩;cases a5:DD r f i
  ·simpa [a5] using hX
  simp[a5] at hX;simp only[aic,if_true];rw[←hX];by_cases a6:GL f i f.signs[i]=true
  ·rw[if_pos a6,if_pos (ht.1 a6)]
  ·rw[if_neg a6,if_neg (fun x=>a6 (ht.2 x))]
def Ha (a:Act)(to at_ own:Bool):Bool:=
 if a.kind=0∨a.kind=1∨a.kind=2 then(to&&decide (a.at_=-1))&&decide (a.sum=0)
 else if a.kind=3∨a.kind=4∨a.kind=5 then((to&&decide (a.at_=-1))&&wi a.sum 0 1099511627776)&&wi a.form 0 1
 else if a.kind=6 then(to&&own)&&wi a.sum 1 1099511627776
 else if a.kind=9 then(decide (a.to=-1)&&own)&&decide (a.sum=0)
 else(decide (a.to=-1)&&at_)&&decide (a.sum=0)
def CE (f:File)(a:Act):Bool:=ay a.at_ f.signs.length&&B9 f a.at_ a.part
def Rw (f:File)(a:Act):Bool:=CE f a&&decide ((dY f a.at_).who=a.who)
def uC (r:Realm)(f:File)(a:Act):Bool:=
 if ay a.who r.firms.length=false∨(¬a.kind=4∧¬a.form=0) then false else Ha a (ay a.to r.firms.length) (CE f a) (Rw f a)
theorem arK (r:Realm)(hr:Small r)(f:File)(a:Act)(hl:f.signs.length≤100000):ao T 90 [aW r,aZ f,gY a] (.bool (uC r f a)):=by
 refine .of_tree rfl (lA 35 (by kernel_rfl)) auW ?_;have nl:=hr.firms;have fP:IntKind.i64.wrap ((r.firms.length:Int)-1)=(r.firms.length:Int)-1:=bU (by omega);have dF:IntKind.i64.wrap ((f.signs.length:Int)-1)=(f.signs.length:Int)-1:=bU (by omega);generalize hX:uC r f a=X;unfold uC Rw CE at hX;simp[UD,fP,dF];refine⟨_,eN _ _ _,?_⟩;rw[←nA];have xr:=eN a.to 0 ((r.firms.length:Int)-1);have EH:=eN a.who 0 ((r.firms.length:Int)-1);rw[←nA] at xr EH;generalize ay a.to r.firms.length=tt at*;generalize ay a.who r.firms.length=ww at*;have fin:∀at_ own:Bool,(if ww=false∨(¬a.kind=4∧¬a.form=0) then false else Ha a tt at_ own)=X→
  if ww=false∨(¬a.kind=4∧¬a.form=0) then X=false
  else if a.kind=0∨a.kind=1∨a.kind=2 then(if tt=true∧a.at_=-1 then D.bool (decide (a.sum=0)) else D.bool false)=D.bool X
  else if a.kind=3∨a.kind=5∨a.kind=4 then
        if tt=true∧a.at_=-1 then
         ∃d,ao (dV tab ext) 68 [D.int a.sum,D.int 0,D.int 1099511627776] d∧
          if(tt=true∧a.at_=-1)∧d.b=true then
             ∃Db,ao (dV tab ext) 68 [D.int a.form,D.int 0,D.int 1] Db∧(if(tt=true∧a.at_=-1)∧d.b=true then Db else D.bool false)=D.bool X
          else(if(tt=true∧a.at_=-1)∧d.b=true then D.none else D.bool false)=D.bool X
        else D.bool false=D.bool X
  else if a.kind=6 then
        if tt=true∧own=true then ∃Db,ao (dV tab ext) 68 [D.int a.sum,D.int 1,D.int 1099511627776] Db∧(if tt=true∧own=true then Db else D.bool false)=D.bool X
        else(if tt=true∧own=true then D.none else D.bool false)=D.bool X
  else if a.kind=9 then(if a.to=-1∧own=true then D.bool (decide (a.sum=0)) else D.bool false)=D.bool X
  else(if a.to=-1∧at_=true then D.bool (decide (a.sum=0)) else D.bool false)=D.bool X:=by
  intro at_ own hX;by_cases p:ww=false∨(¬a.kind=4∧¬a.form=0)
  ·rw[if_pos p] at hX ⊢;exact hX.symm
  rw[if_neg p] at hX ⊢;unfold Ha at hX;by_cases k0:a.kind=0∨a.kind=1∨a.kind=2
  ·rw[if_pos k0] at hX ⊢;rw[←hX];by_cases e:tt=true∧a.at_=-1
   ·simp[e]
   ·rw[if_neg e];cases tt<;>simp at e ⊢;simp[e]
  rw[if_neg k0] at hX ⊢;by_cases k3:a.kind=3∨a.kind=4∨a.kind=5
  ·rw[if_pos k3] at hX;rw[if_pos (by omega),←hX];by_cases e:tt=true∧a.at_=-1
   ·rw[if_pos e];refine⟨_,eN _ _ _,?_⟩;cases wi a.sum 0 1099511627776
    ·simp
    ·simp[e];exact eN _ _ _
   ·rw[if_neg e];cases tt<;>simp at e ⊢;simp[e]
  rw[if_neg k3] at hX;rw[if_neg (by omega)];by_cases k6:a.kind=6
  ·rw[if_pos k6] at hX ⊢;rw[←hX];by_cases e:tt=true∧own=true
   ·rw[if_pos e];refine⟨_,eN _ _ _,?_⟩;simp[e]
   ·rw[if_neg e,if_neg e];cases tt<;>cases own<;>simp at e ⊢
  rw[if_neg k6] at hX ⊢;by_cases k9:a.kind=9
  ·rw[if_pos k9] at hX ⊢;rw[←hX];cases own<;>by_cases e:a.to=-1<;>simp[e]
  rw[if_neg k9] at hX ⊢;rw[←hX];cases at_<;>by_cases e:a.to=-1<;>simp[e]
 cases h1:ay a.at_ f.signs.length
 ·have hf:=fin false false (by simpa [h1] using hX);simp at hf ⊢;refine⟨_,xr,_,EH,?_⟩;simpa using hf
 have cH:0≤a.at_∧a.at_<f.signs.length:=by simpa [ay] using h1
 have h2:a.at_.toNat<f.signs.length:=by omega
 have hs:dY f a.at_=f.signs[a.at_.toNat]:=by simp[dY,h2]
 simp[cH];refine⟨_,ady f _ _ (.inr cH),_,xr,_,EH,?_⟩;rw[h1,hs] at hX;have hf:=fin _ _ hX;cases h3:B9 f a.at_ a.part
 ·rw[h3] at hf;simpa using hf
 ·rw[h3] at hf;simpa [h2] using hf
theorem Kl (a b:Int):(if a<b then b else a)=max a b:=by split<;>omega
theorem QB (a b:Int):(if a<b then D.int b else D.int a)=D.int (max a b):=by
 rw[←Kl];split<;>rfl
def A4 (f:File)(i:Nat)(a:Act):Int:=
 let x:=if a.at_=-1 then f.bill.day else max f.bill.day (dY f a.at_).day
 if i=0 then x else max x (f.acts.getD (i-1) default).day
def sP (r:Realm)(f:File)(i:Nat):Int:=
 let a:=f.acts.getD i default
 if wi a.part 0 (f.bill.parts-1)=false then 15
 else if ay a.city r.cities.length=false∨wi a.kind 0 9=false then 1
 else if uC r f a=false then 14
 else if wi a.day (A4 f i a) 100000=false then 13 else 0
theorem W8 {r:Realm}{f:File}{a:Act}(h:uC r f a=true)(hn:¬a.at_=-1):0≤a.at_∧a.at_<f.signs.length:=by
 unfold uC at h;split at h
 ·cases h
 have key:CE f a=true→0≤a.at_∧a.at_<f.signs.length:=fun e=>by
  unfold CE at e;simp only[aq] at e;simpa [ay] using e.1
 unfold Ha Rw at h
 repeat' split at h
 all_goals simp only[aq,decide_eq_true_eq] at h
 ·exact absurd h.1.2 hn
 ·exact absurd h.1.1.2 hn
 ·exact key h.1.2.1
 ·exact key h.1.2.1
 ·exact key h.1.2
theorem arL (r:Realm)(hr:Small r)(f:File)(hp:1≤f.bill.parts∧f.bill.parts≤4)(hl:f.signs.length≤100000)(w9:f.acts.length≤100000):ao T 69 [aW r,aZ f] (.int (fJ f.acts.length (sP r f))):=by
 refine .of_tree rfl (lA 34 (by kernel_rfl)) auX ?_;have hci:=hr.cities;have dF:IntKind.i64.wrap ((r.cities.length:Int)-1)=(r.cities.length:Int)-1:=bU (by omega);have P5:IntKind.i64.wrap (f.bill.parts-1)=f.bill.parts-1:=bU (by omega);simp[UE];refine oZ f.acts.length (sP r f) (fun k=>[.int 0,.int k]) (fun _=>[]) ?_ (fun k hk ho=>?_) (fun k hk ho hb=>?_) (fun hj=>?_)
 ·simp
 case' refine_2=>have hb:sP r f k=sP r f k:=rfl
 case' refine_3=>rw[hb]
 case refine_4=>simp[aex,Li,hj]
 all_goals
  have hw:=bk hk (by omega);have hs:f.acts.getD k default=f.acts[k]:=by simp[hk]
  clear hb;generalize hX:sP r f k=X at*;unfold sP at hX;simp only[hs] at hX;simp[aex,Li,hk,dF,P5,hw];refine⟨_,eN _ _ _,?_⟩;cases a1:wi f.acts[k].part 0 (f.bill.parts-1)
  ·simp[a1] at hX ⊢
   first|exact hX|(exfalso;omega)
  simp[a1] at hX ⊢;refine⟨_,eN _ _ _,?_⟩;rw[nA] at hX;cases a2:wi f.acts[k].city 0 ((r.cities.length:Int)-1)
  ·simp[a2] at hX ⊢
   first|exact hX|(exfalso;omega)
  simp[a2] at hX ⊢;refine⟨_,eN _ _ _,?_⟩;cases a3:wi f.acts[k].kind 0 9
  ·simp[a3] at hX ⊢
   first|exact hX|(exfalso;omega)
  simp[a3] at hX ⊢;refine⟨_,arK r hr f f.acts[k] hl,?_⟩;cases a4:uC r f f.acts[k]
  ·simp[a4] at hX ⊢
   first|exact hX|(exfalso;omega)
  simp[a4] at hX ⊢;unfold A4 at hX;by_cases k0:k=0
  ·subst k0;by_cases e1:f.acts[0].at_=-1
   ·simp[e1] at hX;simp[e1];refine⟨_,eN _ _ _,?_⟩;split at hX
    ·rename_i e;simp[e]
     first|exact hX|(exfalso;omega)
    ·rename_i e
     first|(exfalso;omega)|simp[e]
   ·obtain⟨h5,h6⟩:=W8 a4 e1;have h7:f.acts[0].at_.toNat<f.signs.length:=by omega
    have h8:dY f f.acts[0].at_=f.signs[f.acts[0].at_.toNat]:=by simp[dY,h7]
    simp[e1,h8] at hX;simp[e1,h5,h6,h7,QB,Kl];refine⟨_,eN _ _ _,?_⟩;split at hX
    ·rename_i e;simp[e]
     first|exact hX|(exfalso;omega)
    ·rename_i e
     first|(exfalso;omega)|simp[e]
  ·have bx:IntKind.i64.wrap ((k:Int)-1)=(k:Int)-1:=bU (by omega);have ct:((k:Int)-1).toNat=k-1:=by omega
   have mq:k-1<f.acts.length:=by omega
   have AJ:0<k:=by omega
   by_cases e1:f.acts[k].at_=-1
   ·simp[k0,e1,mq] at hX;simp[e1,AJ,bx,ct,mq,QB,Kl];refine⟨by omega,_,eN _ _ _,?_⟩;split at hX
    ·rename_i e;simp[e]
     first|exact hX|(exfalso;omega)
    ·rename_i e
     first|(exfalso;omega)|simp[e]
   ·obtain⟨h5,h6⟩:=W8 a4 e1;have h7:f.acts[k].at_.toNat<f.signs.length:=by omega
    have h8:dY f f.acts[k].at_=f.signs[f.acts[k].at_.toNat]:=by simp[dY,h7]
    simp[k0,e1,mq,h8] at hX;simp[e1,AJ,bx,ct,mq,h5,h6,h7,QB,Kl];refine⟨by omega,_,eN _ _ _,?_⟩;split at hX
    ·rename_i e;simp[e]
     first|exact hX|(exfalso;omega)
    ·rename_i e
     first|(exfalso;omega)|simp[e]
end Rm
namespace Rm
open Go Go.Proofs Cx
def pU (a b:Int):Int:=if a<b then-1 else if b<a then 1 else 0
theorem aax (a:Int):ao T 119 [.int a] (.bool false):=by
 refine .of_tree rfl (lA 38 (by kernel_rfl)) auv ?_;simp[Uf]
theorem WG (a b:Int):ao T 92 [.int a,.int b] (.int (pU a b)):=by
 refine .of_tree rfl (lA 37 (by kernel_rfl)) aut ?_;simp[Ud];refine⟨_,aax a,_,aax b,?_⟩;unfold pU;by_cases h1:a<b
 ·simp[h1]
 by_cases h2:b<a<;>simp[h1,h2]
theorem agv (l:List Int)(hl:l.length≤100000):ao T 91 [ints l] (.int (fJ l.length fun k=>l.getD k 0)):=by
 refine .of_tree rfl (lA 39 (by kernel_rfl)) auu ?_;simp[Ue];refine oZ l.length (fun k=>l.getD k 0) (fun k=>[.int 0,.int k]) (fun _=>[]) ?_ (fun k hk ho=>?_) (fun k hk ho hb=>?_) (fun hj=>?_)
 ·simp
 ·have hw:=bk hk (by omega);have hx:l[k]=0:=by simpa [hk] using ho
  simp[Sm,Fu,hk,hx,hw]
 ·have hx:¬l[k]=0:=by simpa [hk] using ho
  simp only[aJ] at hb ⊢;rw[hb];simp[Sm,Fu,hk,hx]
 ·simp only[aJ] at hj ⊢;rw[hj];simp[Sm,Fu]
theorem or2 (a b:Int):(fJ 2 fun k=>[a,b].getD k 0)=if a=0 then b else a:=by
 have e:List.range 2=[0,1]:=rfl;unfold fJ;rw[e];by_cases ha:a=0<;>by_cases hb:b=0<;>simp[ha,hb]
def yS (x y:Fact):Prop:=x.at_<y.at_∨(x.at_=y.at_∧x.kind<y.kind)
instance (x y:Fact):Decidable (yS x y):=by unfold yS;infer_instance
theorem agO (x y:Fact):0≤(if pU x.at_ y.at_=0 then pU x.kind y.kind else pU x.at_ y.at_)↔¬yS x y:=by
 unfold pU yS
 repeat' split
 all_goals omega
def wL (f:File)(i:Nat):Int:=
 let x:=f.facts.getD i default
 if wi x.kind 0 4=false then 1 else if ay x.at_ f.signs.length=false then 1 else if wi x.n 0 1=false then 1
 else if i=0 then 0 else if yS (f.facts.getD (i-1) default) x then 0 else 5
theorem arN (f:File)(hl:f.signs.length≤100000)(hlf:f.facts.length≤100000):ao T 70 [aZ f] (.int (fJ f.facts.length (wL f))):=by
 refine .of_tree rfl (lA 36 (by kernel_rfl)) auZ ?_;have dF:IntKind.i64.wrap ((f.signs.length:Int)-1)=(f.signs.length:Int)-1:=bU (by omega);simp[UG];refine oZ f.facts.length (wL f) (fun k=>[.int 0,.int k]) (fun _=>[]) ?_ (fun k hk ho=>?_) (fun k hk ho hb=>?_) (fun hj=>?_)
 ·simp
 case' refine_2=>have hb:wL f k=wL f k:=rfl
 case' refine_3=>rw[hb]
 case refine_4=>simp[aey,Lj,hj]
 all_goals
  have hw:=bk hk (by omega);have hs:f.facts.getD k default=f.facts[k]:=by simp[hk]
  clear hb;generalize hX:wL f k=X at*;unfold wL at hX;simp only[hs] at hX;simp[aey,Lj,hk,dF,hw];refine⟨_,eN _ _ _,?_⟩;cases a1:wi f.facts[k].kind 0 4
  ·simp[a1] at hX ⊢
   first|exact hX|(exfalso;omega)
  simp[a1] at hX ⊢;refine⟨_,eN _ _ _,?_⟩;rw[nA] at hX;cases a2:wi f.facts[k].at_ 0 ((f.signs.length:Int)-1)
  ·simp[a2] at hX ⊢
   first|exact hX|(exfalso;omega)
  simp[a2] at hX ⊢;refine⟨_,eN _ _ _,?_⟩;cases a3:wi f.facts[k].n 0 1
  ·simp[a3] at hX ⊢
   first|exact hX|(exfalso;omega)
  simp[a3] at hX ⊢;by_cases k0:k=0
  ·subst k0;simp at hX ⊢
   first|(exfalso;omega)|done
  ·have bx:IntKind.i64.wrap ((k:Int)-1)=(k:Int)-1:=bU (by omega);have ct:((k:Int)-1).toNat=k-1:=by omega
   have mq:k-1<f.facts.length:=by omega
   simp[k0,mq] at hX;simp[k0,bx,ct,mq];refine⟨by omega,_,WG _ _,_,WG _ _,?_⟩;have ho:=agv [pU f.facts[k-1].at_ f.facts[k].at_,pU f.facts[k-1].kind f.facts[k].kind] (by simp);simp only[nZ,yP] at ho;rw[or2] at ho;refine⟨_,ho,?_⟩;have ha:=agO f.facts[k-1] f.facts[k];generalize (if pU f.facts[k-1].at_ f.facts[k].at_=0 then pU f.facts[k-1].kind f.facts[k].kind else pU f.facts[k-1].at_ f.facts[k].at_)=n at*;clear ho;by_cases e:yS f.facts[k-1] f.facts[k]
   ·have hn:¬0≤n:=fun h=>ha.1 h e;simp[e] at hX;simp[hn]
    first|done|(exfalso;omega)
   ·have hn:0≤n:=ha.2 e;simp[e] at hX;simp[hn]
    first|exact hX|(exfalso;omega)
def yU (f:File)(i:Nat):Int:=
 let x:=f.alters.getD i default
 if wi x.at_ ((if i=0 then 0 else(f.alters.getD (i-1) default).at_)+1) f.signs.length=false then 1 else if wi x.sum 1 1099511627776=false then 3 else 0
structure PaperOK (r:Realm) (f:File):Prop where
 full:(f.signs.length≤40∧f.alters.length≤4)∧f.acts.length≤100∧f.facts.length≤200
 bill:BillOK r f.bill
 ne:f.signs≠[]
 signs:fJ f.signs.length (B8 r f)=0
 alters:fJ f.alters.length (yU f)=0
 acts:fJ f.acts.length (sP r f)=0
 facts:fJ f.facts.length (wL f)=0
theorem adw (r:Realm)(hs:Small r)(f:File)(DO:f.OK):∃d,ao T 36 [aW r,aZ f] d∧pw (PaperOK r f) d:=by
 refine ao.ex_of_tree rfl ag2 auU ?_;simp[UB];by_cases hf:(f.signs.length≤40∧f.alters.length≤4)∧f.acts.length≤100∧f.facts.length≤200
 case neg=>
  rw[if_pos (by omega)];exact .no (fun h=>hf h.full) (by decide)
 rw[if_neg (by omega)];obtain⟨d,hb,e,rfl,he⟩:=awP r hs f.bill;refine⟨_,hb,?_⟩;by_cases e0:e=0
 case neg=>
  simp[e0];exact .no (fun h=>e0 (he.2 h.bill)) e0
 have DX:=he.1 e0;simp[e0];by_cases aE:f.signs=[]
 ·simp[aE];exact .no (fun h=>h.ne aE) (by decide)
 simp[aE];refine oZ f.signs.length (B8 r f) (fun k=>[.int 0,.int k]) (fun _=>[]) ?_ (fun k hk ho=>?_) (fun k hk ho hb=>?_) (fun hj=>?_)
 ·simp
 ·have hw:=bk hk (by omega);simp[Sr,Fy,hk,hw];refine⟨_,adx r hs f DX.parts k hk (by omega),?_⟩;simp[ho]
 ·simp[Sr,Fy,hk];refine⟨_,adx r hs f DX.parts k hk (by omega),?_⟩;simp[ho];exact .no (fun h=>ho (by rw[←hb];exact h.signs)) ho
 simp[Sr,Fy];have kY:∀k,k<f.alters.length→(∀j,j<k→yU f j=0)→IntKind.i64.wrap ((if k=0 then 0 else(f.alters.getD (k-1) default).at_)+1)=(if k=0 then 0 else(f.alters.getD (k-1) default).at_)+1:=by
  intro k hk hj;refine bU ?_;by_cases k0:k=0
  ·rw[if_pos k0];omega
  ·rw[if_neg k0];have h1:=hj (k-1) (by omega);have bx:k-1<f.alters.length:=by omega
   have h2:=(DO.2.2.1.2 _ (dq bx)).1;have h3:f.alters.getD (k-1) default=f.alters[k-1]:=by simp[bx]
   unfold yU at h1;rw[h3] at h1 ⊢;simp only at h1;generalize (if k-1=0 then(0:Int) else(f.alters.getD (k-1-1) default).at_)=L0 at h1;split at h1
   ·cases h1
   ·rename_i hh;simp[wi] at hh;unfold aQ at h2;omega
 refine aN.scan f.alters.length (fun k=>yU f k=0) (fun k=>[.int 0,.int (if k=0 then 0 else(f.alters.getD (k-1) default).at_),.int k]) (fun _=>[]) ?_ (fun k hk rD ho=>?_) (fun k hk rD ho=>?_) (fun w6=>?_)
 ·simp
 ·have hw:=bk hk (by omega);have hl:=kY k hk rD;generalize hL:(if k=0 then 0 else(f.alters.getD (k-1) default).at_)=L at*;have hs:f.alters.getD k default=f.alters[k]:=by simp[hk]
  unfold yU at ho;simp only[hs,hL] at ho;simp[Ss,Fz,hk,hl];refine⟨_,eN _ _ _,?_⟩;cases a1:wi f.alters[k].at_ (L+1) f.signs.length
  ·simp[a1] at ho
  simp[a1] at ho ⊢;refine⟨_,eN _ _ _,?_⟩;simp[ho,hw]
 ·have hl:=kY k hk rD;have D8:=Oj hk rD ho;generalize hL:(if k=0 then 0 else(f.alters.getD (k-1) default).at_)=L at*;have hs:f.alters.getD k default=f.alters[k]:=by simp[hk]
  have bad:∀e:Int,e≠0→pw (PaperOK r f) (.int e):=fun e h=>.no (fun h=>ho (by rw[←D8];exact h.alters)) h;unfold yU at ho;simp only[hs,hL] at ho;simp[Ss,Fz,hk,hl];refine⟨_,eN _ _ _,?_⟩;cases a1:wi f.alters[k].at_ (L+1) f.signs.length
  ·simp;exact bad 1 (by decide)
  simp[a1] at ho ⊢;refine⟨_,eN _ _ _,?_⟩;simp[ho];exact bad 3 (by decide)
 have w6:=Ok w6;simp[Ss,Fz];refine⟨_,arL r hs f DX.parts (by omega) (by omega),?_⟩;by_cases e3:fJ f.acts.length (sP r f)=0
 case neg=>
  simp[e3];exact .no (fun h=>e3 h.acts) e3
 simp[e3];refine⟨_,arN f (by omega) (by omega),?_⟩;exact⟨_,rfl,fun h=>⟨hf,DX,aE,hj,w6,e3,h⟩,fun h=>h.facts⟩
end Rm
namespace Rm
open Go Go.Proofs Cx
theorem agU (o:Order)(q:Int)(cs:List Cell)(hq:(l6 q).1=0)(hk:(q8 o q cs).1.known=true):0≤(q8 o q cs).1.n∧(q8 o q cs).1.n≤20000:=by
 unfold q8 at hk ⊢;split at hk
 ·cases hk
 ·rename_i h;rw[if_neg h];simp only at hk ⊢;split at hk
  ·rename_i h2;rw[if_pos h2];simp only;omega
  ·rename_i h2;exact absurd ⟨hq,hk⟩ h2
theorem ag0 (r:Realm)(forum q:Int)(c:Case)(hq:(l6 q).1=0)(hk:(kO r forum q c).cell.known=true):0≤(kO r forum q c).cell.n∧(kO r forum q c).cell.n≤20000:=by
 unfold kO at hk ⊢;split at hk
 ·rename_i h;exfalso;have:(iK r forum q c).1.cell=eA:=by
   unfold iK
   repeat' split
   all_goals rfl
  rw[this] at hk;cases hk
 ·rename_i h;rw[if_neg h];exact agU _ _ _ hq hk
theorem aqI (r:Realm)(forum q:Int)(c:Case)(hq:(l6 q).1=0):mJ (kO r forum q c)=-1∨(0≤mJ (kO r forum q c)∧mJ (kO r forum q c)≤20000):=by
 unfold mJ;split
 ·exact .inl rfl
 ·rename_i h;refine .inr (ag0 r forum q c hq ?_);cases e:(kO r forum q c).cell.known
  ·exact absurd (.inr e) h
  ·rfl
def pX:List Objection→Int→Bool
 |[],last=>decide (last≤100000)
 |c::l,last=> !decide (c.day<last)&&pX l c.day
def yu (last day:Int)(o:Objection):Bool:=o.shows&&decide (o.day≤last)&&decide (o.day≤day)
def TH (right:Bool)(awT notice term:Int)(title:Bool)(cs:List Objection)(day:Int):Int:=
 if right=false∨day<awT then 0 else if term=-1∨title=false then 0 else if cs.any (yu (notice+term) day)=true then 0 else if notice+term<day then 1 else 2
end Rm
namespace Rm
open Go Go.Proofs Cx
@[simp] theorem aAJ (f:Nat)(l:List D):(D.clo f l).cells=[D.clo f l]:=_root_.id rfl
theorem agb (l:List Objection)(f:Nat)(caps:List D)(g:Nat→Bool)(hg:∀k (hk:k<l.length),ao T f (p6 l[k]::caps) (.bool (g k)))(hl:l.length≤4294967296):
 ao T 71 [vw l,.clo f caps] (.int (mE l.length g)):=by
 refine .of_tree rfl (lA 47 (by kernel_rfl)) avT ?_;simp[Vz];refine .scan l.length (fun k=>g k=false) (fun k=>[.int 0,.int k]) (fun _=>[]) ?_ (fun k hk hj ho=>?_) (fun k hk hj ho=>?_) (fun hj=>?_)
 ·simp
 ·have hw:=bk hk hl;simp[Ta,Gb,hk,hw];refine⟨_,_,⟨rfl,rfl⟩,_,hg k hk,?_⟩;simp[ho,hw]
 ·have he:=J5 hk (by simpa using ho) hj;simp[Ta,Gb,hk,he];refine⟨_,_,⟨rfl,rfl⟩,_,hg k hk,?_⟩;simp[ho]
 ·have he:=J4 hj;simp[Ta,Gb,he]
theorem af5 (l:List Objection)(f:Nat)(caps:List D)(g:Nat→Bool)(hg:∀k (hk:k<l.length),ao T f (p6 l[k]::caps) (.bool (g k)))(hl:l.length≤4294967296):
 ao T 43 [vw l,.clo f caps] (.bool ((List.range l.length).any g)):=by
 refine .of_tree rfl (lA 46 (by kernel_rfl)) avO ?_;simp[Vu];refine⟨_,agb l f caps g hg hl,?_⟩;have:=Qg l.length g;simp[←this]
theorem abd (r:Realm)(n:Int):ao T 38 [aW r,.int n] (.bool (ay n r.firms.length)):=by
 refine .of_tree rfl (lA 41 (by kernel_rfl)) auP ?_;simp[Uw,ay];by_cases h:0≤n<;>simp[h]
def rh (f:File)(x:Lost):Bool:= !decide (x.day<f.bill.day)&& !decide (x.notice<x.day)&&pX x.claims x.notice
theorem aoO (f:File)(x:Lost)(hl:x.claims.length≤1000):ao T 45 [aZ f,fe x] (.bool (rh f x)):=by
 refine .of_tree rfl (lA 49 (by kernel_rfl)) auO ?_;unfold rh;simp[Uv];by_cases h1:x.day<f.bill.day
 ·simp[h1];omega
 by_cases h2:x.notice<x.day
 ·simp[h1,h2];omega
 rw[if_neg (by omega)];have hd:(!decide (x.day<f.bill.day)&& !decide (x.notice<x.day)&&pX x.claims x.notice)=pX x.claims x.notice:=by simp[h1,h2]
 rw[hd];refine aN.forLoop (α:=Nat×Int) (fun s vr vo=>s.1≤x.claims.length∧vr=[.bool false,.int s.2,.int s.1]∧vo=[]∧pX x.claims x.notice=pX (x.claims.drop s.1) s.2) (fun s=>x.claims.length-s.1) (0,x.notice) ?_ ?_
 ·simp
 ·rintro⟨k,last⟩ vr vo ⟨hk,rfl,rfl,hD⟩;simp only at hk hD;by_cases af:k<x.claims.length
  ·have hw:=bk af (by omega);rw[Mn af] at hD;simp only[pX] at hD;simp[aev,Lg,af,hw];by_cases hc:x.claims[k].day<last
   ·rw[if_pos hc,hD];simp[hc]
   ·rw[if_neg hc];refine⟨k+1,by omega,by omega,x.claims[k].day,⟨rfl,by simp⟩,?_⟩;rw[hD];simp[hc]
  ·obtain rfl:k=x.claims.length:=by omega
   simp[aev,Lg];rw[hD];simp[pX]
def GD (r:Realm)(x:Lost):Bool:=(List.range x.claims.length).any fun k=> !ay (x.claims.getD k default).firm r.firms.length
def mG (r:Realm)(f:File)(x:Lost)(e:Int):Int:=
 if e≠0 then e else if ay x.part f.bill.parts=false then 15 else if ay x.by_ r.firms.length=false then 1 else if 20<x.claims.length then 6 else if GD r x=true then 1 else if rh f x=false then 13 else 0
theorem abb (r:Realm)(f:File)(x:Lost)(e:Int)(he:ao T 36 [aW r,aZ f] (.int e))(hl:x.claims.length≤1000):ao T 17 [aW r,aZ f,fe x] (.int (mG r f x e)):=by
 refine .of_tree rfl (lA 4 (by kernel_rfl)) auM ?_;simp[Un];refine⟨_,he,?_⟩;by_cases h0:e=0
 case neg=>simp[h0,mG]
 subst h0;simp;have c1:ao T 39 [.ref (fe x),.ref (aZ f)] (.bool (!ay x.part f.bill.parts)):=by
  refine .of_tree rfl (lA 42 (by kernel_rfl)) auH ?_;simp[Up,ay];by_cases h:x.part<0
  ·simp[h];try omega
  ·have h':0≤x.part:=by omega
   by_cases h2:x.part<f.bill.parts
   ·simp[h,h',h2]
   ·simp[h,h',h2];omega
 have c2:ao T 40 [.ref (aW r),.ref (fe x)] (.bool (!ay x.by_ r.firms.length)):=by
  refine .of_tree rfl (lA 43 (by kernel_rfl)) auI ?_;simp[Uq];exact⟨_,abd r _,rfl⟩
 have c3:ao T 41 [.ref (fe x)] (.bool (decide (20<x.claims.length))):=by
  refine .of_tree rfl (lA 44 (by kernel_rfl)) auJ ?_;simp[Ur];omega
 have c4:ao T 42 [.ref (fe x),.ref (.clo 37 [.ref (aW r)])] (.bool (GD r x)):=by
  refine .of_tree rfl (lA 45 (by kernel_rfl)) auK ?_;simp[Us];refine af5 x.claims _ _ _ (fun k hk=>?_) (by omega);refine .of_tree rfl (lA 40 (by kernel_rfl)) auG ?_;simp[Uo];refine⟨_,abd r _,?_⟩;simp[hk]
 have c5:ao T 44 [.ref (aZ f),.ref (fe x)] (.bool (!rh f x)):=by
  refine .of_tree rfl (lA 48 (by kernel_rfl)) auL ?_;simp[Ut];exact⟨_,aoO f x hl,rfl⟩
 unfold mG;rw[if_neg (by decide)];refine .scan 5 (fun k=>(if k=0 then(!ay x.part f.bill.parts) else if k=1 then(!ay x.by_ r.firms.length) else if k=2 then decide (20<x.claims.length) else if k=3 then GD r x else !rh f x)=false) (fun k=>[.int 0,.int k]) (fun _=>[]) ?_ (fun k hk hj ho=>?_) (fun k hk hj ho=>?_) (fun hj=>?_)
 ·simp
 ·have hw:=bk hk (by omega);obtain rfl|rfl|rfl|rfl|rfl:k=0∨k=1∨k=2∨k=3∨k=4:=by omega
  all_goals
   simp at ho;simp[Sp,Fw,bZ]
  ·refine⟨_,_,⟨rfl,rfl⟩,_,c1,?_⟩;simp[ho]<;>try decide
  ·refine⟨_,_,⟨rfl,rfl⟩,_,c2,?_⟩;simp[ho]<;>try decide
  ·refine⟨_,_,⟨rfl,rfl⟩,_,c3,?_⟩;simp[show ¬20<x.claims.length by omega];decide
  ·refine⟨_,_,⟨rfl,rfl⟩,_,c4,?_⟩;simp[ho]<;>try decide
  ·refine⟨_,_,⟨rfl,rfl⟩,_,c5,?_⟩;simp[ho]<;>try decide
 ·obtain rfl|rfl|rfl|rfl|rfl:k=0∨k=1∨k=2∨k=3∨k=4:=by omega
  all_goals
   have j0:=hj 0;have j1:=hj 1;have j2:=hj 2;have j3:=hj 3;simp at ho j0 j1 j2 j3;simp[Sp,Fw,bZ]
  ·refine⟨_,_,⟨rfl,rfl⟩,_,c1,?_⟩;simp[ho]
  ·refine⟨_,_,⟨rfl,rfl⟩,_,c2,?_⟩;simp[ho,j0]
  ·refine⟨_,_,⟨rfl,rfl⟩,_,c3,?_⟩;simp[ho,j0,j1]
  ·refine⟨_,_,⟨rfl,rfl⟩,_,c4,?_⟩;simp[ho,j0,j1,show ¬20<x.claims.length by omega]
  ·refine⟨_,_,⟨rfl,rfl⟩,_,c5,?_⟩;simp[ho,j0,j1,j3,show ¬20<x.claims.length by omega]
 ·have j0:=hj 0 (by decide);have j1:=hj 1 (by decide);have j2:=hj 2 (by decide);have j3:=hj 3 (by decide);have j4:=hj 4 (by decide);simp at j0 j1 j2 j3 j4;simp[Sp,Fw,j0,j1,j3,j4,show ¬20<x.claims.length by omega]
def ph (r:Realm)(forum:Int)(f:File)(x:Lost):Int:=mJ (kP r forum 20 f x.day)
def rA (f:File)(x:Lost):Bool:=decide ((jL f x.part x.day).holder=x.by_)&&decide ((jL f x.part x.day).broken=-1)
def kc (r:Realm)(forum:Int)(f:File)(x:Lost)(e:Int)(day:Int):Int:=
 TH (decide (mG r f x e=0)) x.day x.notice (ph r forum f x) (rA f x) x.claims day
theorem abc (r:Realm)(hr:Right r)(forum:Int)(f:File)(hf:FewS f)(x:Lost)(hx:x.OK)(e:Int)(he:ao T 36 [aW r,aZ f] (.int e))(hl:x.claims.length≤1000)(day:Int)
 (hq:(l6 20).1=0):ao T 16 [aW r,.int forum,aZ f,fe x,.int day] (.int (kc r forum f x e day)):=by
 refine .of_tree rfl (lA 3 (by kernel_rfl)) auN ?_;generalize hX:kc r forum f x e day=X;unfold kc TH at hX;simp[Uu];refine⟨_,abb r f x e he hl,?_⟩;by_cases h0:mG r f x e=0
 case neg=>rw[if_pos (by simp[h0])] at hX;subst hX;simp[h0]
 by_cases h1:x.day≤day
 case neg=>rw[if_pos (.inr (by omega))] at hX;subst hX;simp[show day<x.day by omega]
 rw[if_neg (by simp[h0];omega)] at hX;simp[h0,show ¬day<x.day by omega];refine⟨_,MV r hr forum 20 f x.day hf,_,Xh _,_,WD f x.part x.day hf.acts hf.signs,?_⟩;simp;split
 ·rename_i h2;have gK:ph r forum f x=-1∨rA f x=false:=by
   rcases h2 with(h2|h2)|h2
   ·exact .inl h2
   ·exact .inr (by simp[rA,h2])
   ·exact .inr (by simp[rA,h2])
  rw[if_pos gK] at hX;exact hX
 rename_i h2;simp only[not_or,WH] at h2;have hh:rA f x=true:=by simp[rA,h2]
 have gK:¬(ph r forum f x=-1∨rA f x=false):=by simp only[not_or,hh];exact⟨h2.1.1,by decide⟩
 rw[if_neg gK] at hX;have hd:rh f x=true:=by
  unfold mG at h0;cases hd:rh f x
  ·rw[hd] at h0
   repeat' split at h0
   all_goals first|(cases h0;done)|omega|(rename_i hq;exact absurd rfl hq)
  ·rfl
 have hn:x.notice≤100000:=by
  simp only[rh,aq] at hd;have h2:=hd.2;have key:∀(l:List Objection) (a:Int),pX l a=true→a≤100000:=by
   intro l
   induction l with
   |nil=>intro a h;simpa [pX] using h
   |cons c l ih=>intro a h;simp[pX] at h;have:=ih _ h.2;omega
  exact key _ _ h2
 have ht:0≤ph r forum f x∧ph r forum f x≤20000:=by
  rcases aqI r forum 20 ⟨{f with facts:=[]},0,-1,-1,-1,x.day⟩ hq with h|h
  ·exact absurd (.inl h) gK
  ·exact h
 have hI:aQ x.notice:=hx.2.2.2.2.1;have hw:IntKind.i64.wrap (x.notice+ph r forum f x)=x.notice+ph r forum f x:=bU (by unfold aQ at hI;omega);have JZ:IntKind.i64.wrap (x.notice+mJ (kP r forum 20 f x.day))=x.notice+ph r forum f x:=hw;refine .scan x.claims.length (fun k=>yu (x.notice+ph r forum f x) day (x.claims.getD k default)=false) (fun k=>[.int 0,.int k]) (fun _=>[]) ?_ (fun k hk hj ho=>?_) (fun k hk hj ho=>?_) (fun hj=>?_)
 ·simp[JZ]
 ·have fP:=bk hk (by omega);simp[hk,yu] at ho;simp[Sq,Fx,hk,fP,JZ];intro a b c;have:=ho a b;omega
 ·simp[hk,yu] at ho;have OG:x.claims.any (yu (x.notice+ph r forum f x) day)=true:=nY.2 ⟨x.claims[k],dq hk,by simp[yu,ho]⟩;rw[if_pos OG] at hX;subst hX;simp[Sq,Fx,hk,JZ,ho]
 ·have OG:¬x.claims.any (yu (x.notice+ph r forum f x) day)=true:=fun h=>by
   obtain⟨o,ho,hs⟩:=nY.1 h;obtain⟨k,hk,rfl⟩:=kf ho;have:=hj k hk;simp only[aJ,bF hk,jK] at this;rw[hs] at this;cases this
  rw[if_neg OG] at hX;simp[Sq,Fx,JZ];by_cases hc:x.notice+ph r forum f x<day
  ·rw[if_pos hc] at hX ⊢;exact hX
  ·rw[if_neg hc] at hX ⊢;exact hX
end Rm
namespace Rm
open Go Go.Proofs Cx
def GF (r:Realm)(x:Lost)(day:Int)(i:Nat):Act:=⟨7,x.by_,-1,x.part,i,0,day,(r.firms.getD x.by_.toNat default).city,0⟩
def pf (g:File)(x:Lost)(held:List Int)(day:Int)(i:Nat):Bool:=
 ((decide ((g.signs.getD i default).kind=2)&&decide ((g.signs.getD i default).part=x.part))&& !hasB held (i:Int))&& !l5 g i day
def l0 (r:Realm)(g:File)(x:Lost)(held:List Int)(day:Int)(k:Nat):List Act:=((List.range k).filter (pf g x held day)).map (GF r x day)
theorem atx (r:Realm)(g:File)(x:Lost)(held:List Int)(day:Int)(k:Nat):l0 r g x held day (k+1)=l0 r g x held day k++if pf g x held day k=true then[GF r x day k] else[]:=by
 unfold l0;rw[G5,yM,lz]
 congr 1
 cases h:pf g x held day k<;>simp[List.filter,h]
theorem afx (r:Realm)(g:File)(x:Lost)(held:List Int)(day:Int)(k:Nat):(l0 r g x held day k).length≤k:=by
 unfold l0;rw[fG];have:=sJ (pf g x held day) (List.range k);rw[G1] at this;exact this
def zF:File:=⟨⟨0,0,0,0,0,⟨0,0,0⟩,0,0,0,0,0,0,0⟩,[],[],[],[]⟩
def fX (r:Realm)(f:File)(x:Lost)(day:Int):File:=
 {bf f day with acts:=(bf f day).acts++l0 r (bf f day) x (jL f x.part x.day).signs day (bf f day).signs.length}
def kR (r:Realm)(forum:Int)(f:File)(x:Lost)(e day:Int):File×Int:=
 if 100000<day∨kc r forum f x e day≠1 then(zF,7) else if 100<(fX r f x day).acts.length then(zF,6) else(fX r f x day,0)
theorem afv {r:Realm}{forum:Int}{f:File}{x:Lost}{e day:Int}(h:kc r forum f x e day=1):mG r f x e=0∧x.day≤day∧rA f x=true:=by
 unfold kc TH at h;split at h
 ·cases h
 rename_i h1;split at h
 ·cases h
 rename_i h2;simp at h1 h2;exact⟨h1.1,h1.2,h2.2⟩
theorem aoN {r:Realm}{f:File}{x:Lost}{e:Int}(h:mG r f x e=0):0≤x.by_∧x.by_<r.firms.length:=by
 unfold mG at h;split at h
 ·omega
 split at h
 ·cases h
 split at h
 ·cases h
 rename_i h1;simpa [ay] using h1
set_option maxRecDepth 10000 in
theorem aba (r:Realm)(hr:Right r)(nl:r.firms.length≤100000)(forum:Int)(f:File)(hf:FewS f)(x:Lost)(hx:x.OK)(e:Int)(he:ao T 36 [aW r,aZ f] (.int e))(hl:x.claims.length≤1000)(day:Int):
 ao T 9 [aW r,.int forum,aZ f,fe x,.int day] (.tup [aZ (kR r forum f x e day).1,.int (kR r forum f x e day).2]):=by
 refine .of_tree rfl (lA 96 (by kernel_rfl)) auF ?_;generalize hX:kR r forum f x e day=X;unfold kR at hX;simp[Um];have cn:=abc r hr forum f hf x hx e he hl day rfl;by_cases h1:100000<day
 ·rw[if_pos (.inl h1)] at hX;subst hX;simp[h1,show ¬day≤100000 by omega,bZ];rfl
 simp[h1,show day≤100000 by omega];refine⟨_,cn,?_⟩;by_cases h2:kc r forum f x e day=1
 case neg=>
  rw[if_pos (.inr h2)] at hX;subst hX;simp[h2,bZ];rfl
 rw[if_neg (by simp only[not_or,WH];exact⟨h1,h2⟩)] at hX;obtain⟨hE,_,_⟩:=afv h2;have nj:=aoN hE;have alG:x.by_.toNat<r.firms.length:=by omega
 simp[h2];have aBW:=hf.signs;refine⟨_,WD f x.part x.day hf.acts hf.signs,_,Gn f day (by have:=hf.signs;omega) (by have:=hf.acts;omega) (by have:=hf.alters;omega) (by have:=hf.facts;omega),?_⟩;have hg:fX r f x day={bf f day with acts:=(bf f day).acts++l0 r (bf f day) x (jL f x.part x.day).signs day (bf f day).signs.length}:=rfl;have Zr:FewS (bf f day):=hf.at_ day;have DX:(bf f day).bill=f.bill:=rfl;rw[hg] at hX;have ba:=(ahC f x.part x.day).1;generalize bf f day=g at*;generalize (jL f x.part x.day)=ch at*;have g1:=Zr.signs;have g2:=Zr.acts;refine aN.forRounds g.signs.length (fun k=>[.none,.int k]) (fun k=>[acts (l0 r g x ch.signs day k)]) ?_ (fun k hk=>?_) ?_
 ·simp[l0,acts]
 ·have hw:=bk hk (by omega);have hlen:=afx r g x ch.signs day k;have eU:=atx r g x ch.signs day k;have hc:=uu ch.signs (k:Int) (by omega);have hs:=afH g (k:Int) day (by omega);have uW:g.signs.getD k default=g.signs[k]:=by simp[hk]
  unfold pf at eU;rw[uW] at eU;simp[aeu,Lf,hk,hw,bZ];by_cases a1:g.signs[k].kind=2∧g.signs[k].part=x.part
  case neg=>
   have:(decide (g.signs[k].kind=2)&&decide (g.signs[k].part=x.part))=false:=by simpa using a1
   rw[this] at eU;simp at eU;simp[a1,eU]
  simp[a1] at eU ⊢;refine⟨_,hc,?_⟩;cases a2:hasB ch.signs (k:Int)
  case true=>
   simp[a2] at eU ⊢;rw[eU]
  simp[a2] at eU ⊢;refine⟨_,hs,?_⟩;cases a3:l5 g k day
  case true=>
   simp[a3] at eU ⊢;rw[eU]
  simp[a3] at eU ⊢;rw[eU];refine⟨⟨by omega,by omega⟩,by omega,?_⟩;simp[acts,GF,gY,alG]
 ·simp[aeu,Lf];have hlen:=afx r g x ch.signs day g.signs.length;generalize l0 r g x ch.signs day g.signs.length=ss at*;simp[acts];refine⟨by omega,?_⟩;by_cases h3:100<(g.acts++ss).length
  ·rw[if_pos h3] at hX;subst hX;rw[if_pos (by rw[kg] at h3;omega)];simp[bZ];rfl
  ·rw[if_neg h3] at hX;subst hX;rw[if_neg (by rw[kg] at h3;omega)];simp[bZ];simp[aZ,acts]
end Rm
