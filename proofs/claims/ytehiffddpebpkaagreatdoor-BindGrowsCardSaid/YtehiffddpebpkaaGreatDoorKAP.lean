/-
  Shared texts of this claim.
-/
import Derived.Test.YtehiffddpebpkaaGreatDoorKAO
set_option linter.unusedSimpArgs false
set_option linter.unusedVariables false
namespace Rm
open Go Go.Proofs Cx
theorem vi (l:List Int)(x:Int):hasB l x=l.contains x:=by
 rw[Bool.eq_iff_iff]
 simp[hasB]
def Qi (c:City):Prop:=c.rest.length≤100000∧c.feasts.length≤100000∧c.shut.length≤100000
theorem aic (n:Int)(h:0≤n∧n≤100400):(0≤(oY n).2.1∧(oY n).2.1≤30)∧-1000≤(oY n).2.2∧(oY n).2.2≤1000:=by
 unfold oY
 simp only[]
 have hR:0≤(n+730425)%146097∧(n+730425)%146097<146097:=by omega
 generalize (n+730425)%146097=R at*
 have hD:=ZX R ((R-R/1460+R/36524-R/146096)/365) hR (by omega) (by omega)
 generalize (R-R/1460+R/36524-R/146096)/365=Y at*
 generalize R-(365*Y+Y/4-Y/100)=D at*
 have hM:0≤(5*D+2)/153∧(5*D+2)/153≤20:=by omega
 generalize (5*D+2)/153=M at*
 refine⟨?_,by omega,by omega⟩
 split<;>omega
theorem aaN (c:City)(hc:Qi c)(n:Int)(h:0≤n∧n≤100400):Runs T yf [bI c,.int n] (.bool (Oc c.rest c.feasts c.shut n)):=by
 refine .of_tree rfl I3 BX ?_
 simp[nD]
 refine⟨_,OV n h,?_⟩
 have w5:IntKind.i64.wrap (n+5)=n+5:=az (by omega)
 have m7:(n+5).tmod 7=(n+5)%7:=Int.tmod_eq_emod_of_nonneg (by omega)
 obtain⟨h1,h2,h3⟩:=hc
 simp[w5,m7]
 refine⟨_,cA c.rest ((n+5)%7) (by omega),?_⟩
 unfold Oc
 rw[←vi]
 cases hr:hasB c.rest ((n+5)%7)
 ·obtain⟨hb1,hb2⟩:=aic n h
  have wm:IntKind.i64.wrap (100*(oY n).2.1)=100*(oY n).2.1:=az (by omega)
  have wd:IntKind.i64.wrap (100*(oY n).2.1+(oY n).2.2)=100*(oY n).2.1+(oY n).2.2:=az (by omega)
  simp[hr,wm,wd]
  refine⟨_,cA c.feasts _ (by omega),?_⟩
  have e1:=vi c.feasts (100*(oY n).2.1+(oY n).2.2)
  have e2:=vi c.shut n
  simp at e1 e2
  cases hf:hasB c.feasts (100*(oY n).2.1+(oY n).2.2)
  ·simp[hf,←e1,←e2]
   exact⟨_,cA c.shut n (by omega),rfl⟩
  ·simp[hf,←e1]
 ·simp[hr]
end Rm
namespace Rm
open Go Go.Proofs Cx
def eE (c:City)(a:Int)(k:Nat):List Int:=((List.range k).map fun(i:Nat)=>a+i).filter (Oc c.rest c.feasts c.shut)
theorem NI (c:City)(a:Int)(k:Nat):eE c a (k+1)=eE c a k++if Oc c.rest c.feasts c.shut (a+k) then[a+k] else[]:=by
 unfold eE
 rw[List.range_succ,List.map_append,List.filter_append]
 congr 1
 cases h:Oc c.rest c.feasts c.shut (a+k)<;>simp[h]
theorem abD (c:City)(a:Int){k n:Nat}(h:k≤n):∃r,eE c a n=eE c a k++r:=by
 induction n with
 |zero=>obtain rfl:k=0:=by omega
        exact⟨[],by simp⟩
 |succ n ih=>
  by_cases e:k=n+1
  ·subst e;exact⟨[],by simp⟩
  ·obtain⟨r,hr⟩:=ih (by omega)
   exact⟨r++_,by rw[NI,hr,List.append_assoc]⟩
def Sr (d:Int):D:=.tup [.int d]
theorem acB (c:City)(a b:Int):aeJ [.ref (.int a),.ref (.int b),.ref (bI c)]=(eE c a (b-a+1).toNat).map Sr:=by
 have hi:∀l:List Int,DH (ints l)=l:=fun l=>by
  show(l.map D.int).map D.i=l
  rw[List.map_map]
  exact List.map_id l
 show(ae6 (DH (ints c.rest)) (DH (ints c.feasts)) (DH (ints c.shut)) a b).map _=_
 rw[hi,hi,hi]
 rfl
theorem Zz (c:City)(hc:Qi c)(a b:Int)(ha:0≤a)(hb:b≤100400)(hab:a≤100400):Runs T uA [.ref (.int a),.ref (.int b),.ref (bI c)] (.list ((eE c a (b-a+1).toNat).map Sr)):=by
 have hsp:=acB c a b
 rw[←hsp]
 obtain⟨N,hN⟩:∃N,N=(b-a+1).toNat:=⟨_,rfl⟩
 refine Runs.of_it (pc:=dj) (J:=1000) (k:=1) rfl (fun x hx=>?_) (fun m hm=>?_)
 ·rw[hsp] at hx
  obtain⟨i,_,rfl⟩:=List.mem_map.1 hx
  exact⟨_,rfl,rfl⟩
 ·rw[hsp] at hm ⊢
  rw[←hN] at hm ⊢
  refine Nh ?_
  rw[yO]
  simp[kM]
  refine EvP.forLoop (α:=Nat) (fun k vr vo=>k≤N∧vr=[.int (a+k)]∧vo=[.list ((eE c a k).map Sr)]∧(eE c a k).length≤m) (fun k=>N-k) 0 ?_ ?_
  ·simp[afD,eE]
  ·rintro k vr vo ⟨hk,rfl,rfl,hcm⟩
   by_cases hlt:k<N
   ·have hle:a+(k:Int)≤b:=by omega
    have hw1:IntKind.i64.wrap (a+(k:Int)+1)=a+((k+1:Nat):Int):=by rw[az (by omega)];omega
    have hop:=(aaN c hc (a+k) (by omega))
    have hsucc:=NI c a k
    obtain⟨r,hr⟩:=abD c a (k:=k+1) (n:=N) hlt
    simp[lf,dR,hle]
    refine⟨_,hop.yld (by decide),?_⟩
    cases hi:Oc c.rest c.feasts c.shut (a+k)
    ·simp[hi] at hsucc ⊢
     exact⟨k+1,by omega,by omega,hw1,by rw[hsucc],by rw[hsucc];exact hcm⟩
    ·simp[hi] at hsucc ⊢
     have hlen:(eE c a (k+1)).length=(eE c a k).length+1:=by rw[hsucc];simp
     have htr:(eE c a k).map Sr++[D.tup [D.int (a+k)]]=(eE c a (k+1)).map Sr:=by rw[hsucc,List.map_append];rfl
     have htake:(eE c a (k+1)).map Sr=((eE c a N).map Sr).take ((eE c a k).length+1):=by
      rw[hr,List.map_append,List.take_append_of_le_length (by simp[hlen]),List.take_of_length_le (by simp[hlen])]
     have hcl:(eE c a k).length<((eE c a N).map Sr).length:=by rw[hr];simp[hlen];omega
     rw[htr]
     refine⟨_,Runs.answer htake hcl hcm,?_⟩
     by_cases hmm:(eE c a k).length<m
     ·simp[hmm]
      exact⟨k+1,by omega,by omega,hw1,rfl,by omega⟩
     ·obtain rfl:(eE c a k).length=m:=by omega
      simp
      rw[htake]
   ·obtain rfl:k=N:=by omega
    have hle:¬a+(k:Int)≤b:=by omega
    simp[lf,dR,hle]
    rw[List.take_of_length_le (by simp;omega)]
end Rm
namespace Rm
open Go Go.Proofs Cx
theorem aa1 (c:City)(a b:Int):Runs T yi [bI c,.int a,.int b] (.clo uA [.ref (.int a),.ref (.int b),.ref (bI c)]):=by
 refine .of_tree rfl JM BS ?_
 simp[nC]
def Jh (d:Int):Int:=if 100000<d+400 then 100000 else d+400
def mX (c:City)(d:Int):Int×Int:=
 if uL d=false then(0,3) else match eE c d (Jh d-d+1).toNat with|[]=>(0,3)|x::_=>(x,0)
theorem acK {c:City}{a:Int}{k:Nat}{x:Int}(h:x∈eE c a k):a≤x∧x<a+k:=by
 unfold eE at h
 obtain⟨h1,_⟩:=List.mem_filter.mp h
 obtain⟨i,hi,rfl⟩:=List.mem_map.mp h1
 have:=List.mem_range.mp hi
 omega
theorem acz {c:City}{d:Int}(h:(mX c d).2=0):uL d=true∧d≤(mX c d).1∧(mX c d).1≤100000:=by
 unfold mX at h ⊢
 cases hd:uL d
 ·simp[hd] at h
 ·simp only[hd] at h ⊢
  cases hk:eE c d (Jh d-d+1).toNat with
  |nil=>rw[hk] at h;simp at h
  |cons x l=>
   have hm:x∈eE c d (Jh d-d+1).toNat:=by rw[hk];simp
   have:=acK hm
   have he:Jh d≤100000:=by unfold Jh;split<;>omega
   simp[uL] at hd
   simp
   unfold Jh at*
   omega
theorem aax (c:City)(hc:Qi c)(d:Int):Runs T yC [bI c,.int d] (.tup [.int (mX c d).1,.int (mX c d).2]):=by
 refine .of_tree rfl HY Cb ?_
 simp[nB]
 refine⟨_,sV d,?_⟩
 cases hd:uL d
 ·simp[mX,hd]
 have hd':0≤d∧d≤100000:=by simpa [uL] using hd
 have hw:IntKind.i64.wrap (d+400)=d+400:=az (by omega)
 have he:Jh d≤100000:=by unfold Jh;split<;>omega
 simp[hd,hw]
 have hE:(if 100000<d+400 then D.int 100000 else D.int (d+400))=D.int (Jh d):=by unfold Jh;split<;>rfl
 rw[hE]
 refine⟨_,aa1 c d (Jh d),_,_,rfl,_,Zz c hc d (Jh d) hd'.1 (by omega) (by omega),?_⟩
 cases hk:eE c d (Jh d-d+1).toNat with
 |nil=>
  have hn:mX c d=(0,3):=by unfold mX;simp[hd,hk]
  rw[hn]
  refine EvP.eachR [] (by simp) (fun _ vo=>vo=[.agg [.int 0],.agg [.int 0]]) ?_ (fun k x vo hx hi=>by simp at hx) (fun vo hi=>?_)
  ·simp
  ·subst hi
   simp
 |cons x l=>
  have hn:mX c d=(x,0):=by unfold mX;simp[hd,hk]
  rw[hn]
  refine EvP.eachR ((x::l).map Sr) (by simp) (fun k vo=>k=0∧vo=[.agg [.int 0],.agg [.int 0]]) ?_ (fun k y vo hx hi=>?_) (fun vo hi=>?_)
  ·simp
  ·obtain⟨rfl,rfl⟩:=hi
   simp at hx
   subst hx
   simp[y0,kW,Sr]
   rfl
  ·exact absurd hi.1 (by simp)
end Rm
namespace Rm
open Go Go.Proofs Cx
def ZY (o:Int)(d:Int)(h:Halt):Int:=if(h.order=o∧h.fr≤d)∧d≤h.to then h.to+1 else d
def uB (r:Realm)(o d:Int)(k:Nat):Int:=(r.halts.take k).foldl (ZY o) d
theorem QT (r:Realm)(o d:Int){k:Nat}(hk:k<r.halts.length):uB r o d (k+1)=ZY o (uB r o d k) r.halts[k]:=by
 unfold uB
 rw[List.take_succ_eq_append_getElem hk,List.foldl_append]
 rfl
def Jj (r:Realm):Prop:=r.halts.length≤100000∧∀h,h∈r.halts→0≤h.fr∧h.to≤100000
theorem NH {r:Realm}(hh:Jj r)(o d:Int)(hd:d≤100001):∀k,k≤r.halts.length→d≤uB r o d k∧uB r o d k≤100001
 |0,_=>⟨by simp[uB],by simpa [uB] using hd⟩
 |k+1,hk=>by
  obtain⟨h1,h2⟩:=NH hh o d hd k (by omega)
  rw[QT r o d (by omega)]
  have:=hh.2 _ (List.getElem_mem (show k<r.halts.length by omega))
  unfold ZY
  split<;>omega
def Nz (r:Realm)(o:Int):Nat→Int→Int
 |0,d=>d
 |n+1,d=>if uB r o d r.halts.length=d then d else Nz r o n (uB r o d r.halts.length)
def qP (r:Realm)(o d:Int):Int:=Nz r o (100002-d).toNat d
theorem VX {r:Realm}(hh:Jj r)(o:Int):∀(n:Nat) (d:Int),d≤100001→d≤Nz r o n d∧Nz r o n d≤100001
 |0,d,hd=>⟨Int.le_refl _,hd⟩
 |n+1,d,hd=>by
  obtain⟨h1,h2⟩:=NH hh o d hd r.halts.length (Nat.le_refl _)
  unfold Nz
  split
  ·omega
  ·have:=VX hh o n _ h2
   omega
theorem aaE (r:Realm)(hh:Jj r)(o d:Int)(h0:0≤d)(hd:d≤100001):Runs T HA [au r,.int o,.int d] (.int (qP r o d)):=by
 refine .of_tree rfl Q3 Jk ?_
 simp[vG]
 refine EvP.forLoop (α:=Int×Bool×Nat) (fun s vr vo=>vr=[.int s.1,.bool s.2.1]∧vo=[]∧d≤s.1∧s.1≤100001∧(s.2.1=true→(100002-s.1).toNat≤s.2.2)∧(s.2.1=true→Nz r o s.2.2 s.1=qP r o d)∧(s.2.1=false→s.1=qP r o d)) (fun s=>2*(100001-s.1).toNat+(if s.2.1 then 1 else 0)) (d,true,(100002-d).toNat) ?_ ?_
 ·simp
  exact⟨by omega,rfl⟩
 ·rintro⟨e,ch,n⟩ vr vo ⟨rfl,rfl,h1,h2,h3,h4,h5⟩
  simp only at*
  cases ch
  ·simp[td,kA]
   exact h5 rfl
  ·have h3:=h3 rfl
   have h4:=h4 rfl
   obtain⟨n,rfl⟩:∃m,n=m+1:=⟨n-1,by omega⟩
   have hin:=NH hh o e h2
   simp[td,kA]
   refine EvP.forRounds r.halts.length (fun k=>[.int (uB r o e k),.bool (decide (e<uB r o e k)),.int k]) (fun _=>[]) ?_ (fun k hk=>?_) ?_
   ·simp[uB]
   ·have hw:=ar hk (by have:=hh.1;omega)
    have hk2:=hin k (by omega)
    have hto:=hh.2 _ (List.getElem_mem hk)
    rw[QT r o e hk]
    unfold ZY
    generalize uB r o e k=x at*
    by_cases hc:(r.halts[k].order=o∧r.halts[k].fr≤x)∧x≤r.halts[k].to
    ·have hw2:IntKind.i64.wrap (r.halts[k].to+1)=r.halts[k].to+1:=az (by omega)
     simp[fh,dH,hk,hw,hc,hw2]
     omega
    ·simp[fh,dH,hk,hw,hc]
   ·have hE:=hin r.halts.length (Nat.le_refl _)
    unfold Nz at h4
    generalize uB r o e r.halts.length=x at*
    by_cases hx:x=e
    ·rw[if_pos hx] at h4
     subst hx
     simp[fh,dH]
     exact⟨x,by omega,rfl,h1,h2,h4⟩
    ·rw[if_neg hx] at h4
     have hlt:e<x:=by omega
     simp[fh,dH,hlt]
     exact⟨x,by omega,rfl,by omega,by omega,n,by omega,h4⟩
def xk (r:Realm)(c:City)(o:Int):Nat→Int→Int×Int
 |0,d=>(d,0)
 |n+1,d=>
  if(mX c (qP r o d)).2≠0 then(0,3)
  else if(mX c (qP r o d)).1=qP r o d then(qP r o d,0)
  else xk r c o n (mX c (qP r o d)).1
theorem Us (r:Realm)(c:City)(o:Int)(n:Nat)(d:Int):xk r c o (n+1) d=
 if(mX c (qP r o d)).2≠0 then(0,3)
 else if(mX c (qP r o d)).1=qP r o d then(qP r o d,0)
 else xk r c o n (mX c (qP r o d)).1:=rfl
def GD (r:Realm)(city d:Int):Int×Int:=xk r (r.cities.getD city.toNat default) (aY r city) (100002-d).toNat d
theorem K1 (r:Realm)(hh:Jj r)(city d:Int)(hc:0≤city∧city<r.cities.length)(hs:∀c,c∈r.cities→Qi c)(h0:0≤d)(hd:d≤100001):Runs T sq [au r,.int city,.int d] (.tup [.int (GD r city d).1,.int (GD r city d).2]):=by
 refine .of_tree rfl Ly DU ?_
 simp[pU]
 refine⟨_,aK r city,?_⟩
 have hcl:city.toNat<r.cities.length:=by omega
 have hcg:r.cities.getD city.toNat default=r.cities[city.toNat]:=by simp[hcl]
 have hsc:=hs _ (List.getElem_mem hcl)
 have hF:GD r city d=xk r r.cities[city.toNat] (aY r city) (100002-d).toNat d:=by unfold GD;rw[hcg]
 rw[hF]
 refine EvP.forLoop (α:=Int×Nat) (fun s vr vo=>(∃a b,vr=[.int s.1,a,b])∧vo=[]∧0≤s.1∧s.1≤100001∧(100002-s.1).toNat≤s.2∧xk r r.cities[city.toNat] (aY r city) s.2 s.1=xk r r.cities[city.toNat] (aY r city) (100002-d).toNat d) (fun s=>s.2) (d,(100002-d).toNat) ?_ ?_
 ·simp
  omega
 ·rintro⟨e,n⟩ vr vo ⟨⟨a,b,rfl⟩,rfl,h1,h2,h3,h4⟩
  simp only at*
  obtain⟨n,rfl⟩:∃m,n=m+1:=⟨n-1,by omega⟩
  rw[←h4]
  have hsk:=VX hh (aY r city) (100002-e).toNat e h2
  have hsr:=aaE r hh (aY r city) e h1 h2
  rw[Us]
  change e≤qP r (aY r city) e∧qP r (aY r city) e≤100001 at hsk
  generalize qP r (aY r city) e=x at*
  have hnx:=aax r.cities[city.toNat] hsc x
  have hni:=acz (c:=r.cities[city.toNat]) (d:=x)
  generalize mX r.cities[city.toNat] x=N at*
  obtain⟨y,er⟩:=N
  simp only at hnx hni
  simp[AN,mQ]
  refine⟨_,hsr,?_⟩
  simp[hcl,hc]
  refine⟨_,hnx,?_⟩
  by_cases he:er=0
  ·obtain⟨g1,g2,g3⟩:=hni he
   by_cases hy:y=x
   ·simp[he,hy]
   ·simp[he,hy]
    exact⟨y,n,by omega,rfl,by omega,by omega,by omega,rfl⟩
  ·simp[he]
end Rm
namespace Rm
open Go Go.Proofs Cx
structure RightD (r:Realm):Prop where
 small:Small r
 halts:Jj r
theorem RightD.cities {r:Realm}(h:RightD r)(c:City)(hc:c∈r.cities):Qi c:=by
 obtain⟨h1,h2,h3,_⟩:=h.small.city c hc
 exact⟨by omega,by omega,by omega⟩
theorem Nm (d:Int)(t:Tenor):∃n e:Int,Runs T CR [.int d,jU t] (.tup [.int n,.int e]):=by
 by_cases h0:t.n<0
 ·refine⟨0,3,.of_tree rfl mq gy ?_⟩
  simp[eI,h0]
 by_cases h1:20000<t.n
 ·refine⟨0,3,.of_tree rfl mq gy ?_⟩
  simp[eI,h0,h1]
 by_cases h2:t.unit=1
 ·obtain⟨n,e,h,_⟩:=Qx d t.n
  refine⟨n,e,.of_tree rfl mq gy ?_⟩
  simp[eI,h0,h1,h2]
  refine⟨_,h,?_⟩
  simp
 ·refine⟨IntKind.i64.wrap (d+t.n),0,.of_tree rfl mq gy ?_⟩
  simp[eI,h0,h1,h2]
theorem aa4 (r:Realm)(hr:RightD r)(b:Bill)(seen:Int):∃n e:Int,Runs T rq [au r,aT b,.int seen] (.tup [.int n,.int e]):=by
 have htn:D.agg [D.int b.tenor.kind,D.int b.tenor.n,D.int b.tenor.unit]=jU b.tenor:=rfl
 by_cases h0:b.tenor.kind=0
 ·refine⟨seen,0,.of_tree rfl fU df ?_⟩
  simp[cZ,h0]
 by_cases h1:b.tenor.kind=1
 ·obtain⟨n,e,h⟩:=Nm seen b.tenor
  refine⟨n,e,.of_tree rfl fU df ?_⟩
  have h1':(b.tenor.kind=1)=True:=eq_true h1
  simp[cZ,h0,h1']
  refine⟨_,h,?_⟩
  simp
 by_cases h2:b.tenor.kind=2
 ·obtain⟨n,e,h⟩:=Nm b.day b.tenor
  refine⟨n,e,.of_tree rfl fU df ?_⟩
  have h2':(b.tenor.kind=2)=True:=eq_true h2
  simp[cZ,h0,h1,h2']
  refine⟨_,h,?_⟩
  simp
 by_cases h4:b.tenor.kind=4
 ·obtain⟨n,e,h,_⟩:=Xx r b.city b.pay (by have:=hr.small.us;omega)
  refine⟨IntKind.i64.wrap (b.day+n),e,.of_tree rfl fU df ?_⟩
  have h4':(b.tenor.kind=4)=True:=eq_true h4
  simp[cZ,h0,h1,h2,h4']
  refine⟨_,h,?_⟩
  simp
 ·refine⟨b.tenor.n,0,.of_tree rfl fU df ?_⟩
  simp[cZ,h0,h1,h2,h4]
theorem Runs.ex_of_tree {tab:Nat→Option PC}{ext:Nat→Option (aO→List D→Option D)}{f:Nat}{pc:PC}{t:PT}{ds:List D}{P:D→Prop}(hx:ext f=none)(ht:tab f=some pc)(he:tree pc=t)
 (h:aE (Tab tab ext) t (Ep ds) (fun x=>∃d,x=.ret d∧P d)):∃d,Runs (Tab tab ext) f ds d∧P d:=by
 subst he
 obtain⟨x,⟨d,rfl,hd⟩,n0,hn⟩:=XE (Ba ⟨fun _ _ _ h=>(by obtain⟨_,h,_⟩:=h;cases h),fun _ _ _ _ _ _ h=>(by obtain⟨_,h,_⟩:=h;cases h),fun _ h=>h⟩ h)
 exact⟨d,.of_pc hx ht ⟨.ret d,rfl,n0,hn⟩,hd⟩
def Two (d:D):Prop:=∃n e:Int,d=.tup [.int n,.int e]
@[simp] theorem akG (n e:Int):Two (.tup [.int n,.int e])=True:=eq_true ⟨n,e,rfl⟩
theorem IL (r:Realm)(hr:RightD r)(b:Bill)(seen grace:Int):∃d,Runs T tM [au r,aT b,.int seen,.int grace] d∧Two d:=by
 have htn:D.agg [D.int b.tenor.kind,D.int b.tenor.n,D.int b.tenor.unit]=jU b.tenor:=rfl
 have hck:=wB r hr.small
 refine Runs.ex_of_tree rfl FC yj ?_
 simp[q7]
 refine⟨_,hck,?_⟩
 by_cases h0:mM r=0
 case neg=>simp[h0]
 simp[h0]
 refine⟨_,AM r b.city,?_⟩
 cases h1:inB b.city r.cities.length
 ·simp[h1]
 simp[h1]
 refine⟨_,AM r b.pay,?_⟩
 cases h2:inB b.pay r.cities.length
 ·simp[h2]
 simp[h2]
 refine⟨_,sy b.day,?_⟩
 cases h3:uL b.day
 ·simp[h3]
 simp[h3]
 intro _ _ _ _
 have hp:0≤b.pay∧b.pay<r.cities.length:=by simpa [inB] using h2
 have fin:0≤grace→grace≤20000→∃d,Runs T rq [au r,aT b,D.int seen] d∧
  if(d.tget 1).i=0 then ∃d1,Runs T jK [d.tget 0] d1∧(d1.b=true→IntKind.i64.wrap ((d.tget 0).i+grace)≤100000→
        ∃d2,Runs T sq [au r,D.int b.pay,D.int (IntKind.i64.wrap ((d.tget 0).i+grace))] d2∧Two (D.tup [d2.tget 0,d2.tget 1]))
  else Two (D.tup [D.int 0,d.tget 1]):=by
  intro hg0 hg1
  obtain⟨n,e,h⟩:=aa4 r hr b seen
  refine⟨_,h,?_⟩
  by_cases he:e=0
  ·simp[he]
   refine⟨_,sy n,?_⟩
   cases hd:uL n
   ·simp[hd]
   have hd':0≤n∧n≤100000:=by simpa [uL] using hd
   have hw:IntKind.i64.wrap (n+grace)=n+grace:=az (by omega)
   simp[hd,hw]
   intro hle
   refine⟨_,K1 r hr.halts b.pay (n+grace) hp hr.cities (by omega) (by omega),?_⟩
   simp
  ·simp[he]
 by_cases hs:seen=-1
 ·simp[hs] at fin ⊢
  intro hg0 hg1
  refine⟨_,AU b.tenor,?_⟩
  simp
  intro _
  exact fin hg0 hg1
 ·simp[hs] at fin ⊢
  refine⟨_,sy seen,?_⟩
  cases hk:uL seen
  ·simp[hk]
  simp[hk]
  intro hg0 hg1
  exact⟨⟨_,AU b.tenor⟩,fin hg0 hg1⟩
noncomputable def Xb (r:Realm)(b:Bill)(seen grace:Int):Int×Int:=
 open Classical in if h:RightD r then((IL r h b seen grace).choose_spec.2.choose,(IL r h b seen grace).choose_spec.2.choose_spec.choose) else(0,0)
theorem XI (r:Realm)(hr:RightD r)(b:Bill)(seen grace:Int):Runs T tM [au r,aT b,.int seen,.int grace] (.tup [.int (Xb r b seen grace).1,.int (Xb r b seen grace).2]):=by
 have h:=(IL r hr b seen grace).choose_spec.2.choose_spec.choose_spec
 have h1:=(IL r hr b seen grace).choose_spec.1
 rw[h] at h1
 have e:Xb r b seen grace=((IL r hr b seen grace).choose_spec.2.choose,(IL r hr b seen grace).choose_spec.2.choose_spec.choose):=by unfold Xb;rw[dif_pos hr]
 rw[e]
 exact h1
noncomputable def R7 (r:Realm)(forum:Int)(f:File)(day:Int):Int:=
 if(atF f day).signs=[] then-1
 else if(Xb r f.bill (x9 (atF f day)) (max (oo (uf r forum 6 (atF f day) day)) 0)).2≠0 then-1
 else(Xb r f.bill (x9 (atF f day)) (max (oo (uf r forum 6 (atF f day) day)) 0)).1
@[simp] theorem afk (x:File)(a0 a1 a2 a3 a4 a5 a6 a7 a8 a9 a10 a11 a12 a13 a14 a15 a16 a17 a18:D):(aX [a0,a1,a2,a3,a4,a5,a6,a7,a8,a9,a10,a11,a12,a13,a14,a15,a16,a17,a18] 0 [.int x.bill.drawer,.int x.bill.drawee,.int x.bill.payee,.int x.bill.sum,.int x.bill.currency,.int x.bill.tenor.kind,.int x.bill.tenor.n,.int x.bill.tenor.unit,.int x.bill.day,.int x.bill.city,.int x.bill.pay,.int x.bill.need,.int x.bill.rate,.int x.bill.flags,.int x.bill.parts,signs x.signs,alters x.alters,acts x.acts,facts x.facts])[15]?.getD D.none=signs x.signs:=_root_.id rfl
theorem RC (r:Realm)(hr:Right r)(hd:RightD r)(forum:Int)(f:File)(day:Int)(hf:FewS f):Runs T z7 [au r,.int forum,aD f,.int day] (.int (R7 r forum f day)):=by
 refine .of_tree rfl MR El ?_
 simp[qj]
 refine⟨_,sR f day (by have:=hf.signs;omega) (by have:=hf.acts;omega) (by have:=hf.alters;omega) (by have:=hf.facts;omega),?_⟩
 have hg:=hf.at_ day
 have hb:(atF f day).bill=f.bill:=rfl
 unfold R7
 generalize atF f day=g at*
 simp
 by_cases h0:g.signs=[]
 ·simp[h0]
 simp[h0]
 refine⟨_,C0 r hr forum 6 g day hg,_,L6 _,_,IT g (by have:=hg.signs;omega) (by have:=hg.acts;omega),?_⟩
 have hm:(if(D.int (oo (uf r forum 6 g day))).i<0 then D.int 0 else D.int (oo (uf r forum 6 g day)))=D.int (max (oo (uf r forum 6 g day)) 0):=by
  simp only[agp]
  split
  ·rw[Int.max_eq_right (by omega)]
  ·rw[Int.max_eq_left (by omega)]
 rw[hm,hb]
 refine⟨_,XI r hd f.bill _ _,?_⟩
 by_cases he:(Xb r f.bill (x9 g) (max (oo (uf r forum 6 g day)) 0)).2=0<;>simp[he]
end Rm
namespace Rm
open Go Go.Proofs Cx
structure View where
 realm:Realm
 forum:Int
 day:Int
 file:File
 form:Int
 due:Int
 deriving Inhabited
def aR (x:View):D:=.agg [strs x.realm.currencies,ya x.realm.cities,groups x.realm.groups,firms x.realm.firms,orders x.realm.orders,usances x.realm.usances,rates x.realm.rates,halts x.realm.halts,.int x.forum,.int x.day,.int x.file.bill.drawer,.int x.file.bill.drawee,.int x.file.bill.payee,.int x.file.bill.sum,.int x.file.bill.currency,.int x.file.bill.tenor.kind,.int x.file.bill.tenor.n,.int x.file.bill.tenor.unit,.int x.file.bill.day,.int x.file.bill.city,.int x.file.bill.pay,.int x.file.bill.need,.int x.file.bill.rate,.int x.file.bill.flags,.int x.file.bill.parts,signs x.file.signs,alters x.file.alters,acts x.file.acts,facts x.file.facts,.int x.form,.int x.due]
@[simp] theorem af1 (x:View):(aR x).cells=[strs x.realm.currencies,ya x.realm.cities,groups x.realm.groups,firms x.realm.firms,orders x.realm.orders,usances x.realm.usances,rates x.realm.rates,halts x.realm.halts,.int x.forum,.int x.day,.int x.file.bill.drawer,.int x.file.bill.drawee,.int x.file.bill.payee,.int x.file.bill.sum,.int x.file.bill.currency,.int x.file.bill.tenor.kind,.int x.file.bill.tenor.n,.int x.file.bill.tenor.unit,.int x.file.bill.day,.int x.file.bill.city,.int x.file.bill.pay,.int x.file.bill.need,.int x.file.bill.rate,.int x.file.bill.flags,.int x.file.bill.parts,signs x.file.signs,alters x.file.alters,acts x.file.acts,facts x.file.facts,.int x.form,.int x.due]:=_root_.id rfl
@[simp] theorem aj4 (x:View):D.agg [strs x.realm.currencies,ya x.realm.cities,groups x.realm.groups,firms x.realm.firms,orders x.realm.orders,usances x.realm.usances,rates x.realm.rates,halts x.realm.halts,.int x.forum,.int x.day,.int x.file.bill.drawer,.int x.file.bill.drawee,.int x.file.bill.payee,.int x.file.bill.sum,.int x.file.bill.currency,.int x.file.bill.tenor.kind,.int x.file.bill.tenor.n,.int x.file.bill.tenor.unit,.int x.file.bill.day,.int x.file.bill.city,.int x.file.bill.pay,.int x.file.bill.need,.int x.file.bill.rate,.int x.file.bill.flags,.int x.file.bill.parts,signs x.file.signs,alters x.file.alters,acts x.file.acts,facts x.file.facts,.int x.form,.int x.due]=aR x:=_root_.id rfl
@[simp] theorem ag2 (x:View):v9 31 (aR x)=aR x:=_root_.id rfl
@[simp] theorem agE (x:View)(a0 a1 a2 a3 a4 a5 a6 a7 a8 a9 a10 a11 a12 a13 a14 a15 a16 a17 a18 a19 a20 a21 a22 a23 a24 a25 a26 a27 a28 a29 a30:D):D.agg (aX [a0,a1,a2,a3,a4,a5,a6,a7,a8,a9,a10,a11,a12,a13,a14,a15,a16,a17,a18,a19,a20,a21,a22,a23,a24,a25,a26,a27,a28,a29,a30] 0 [strs x.realm.currencies,ya x.realm.cities,groups x.realm.groups,firms x.realm.firms,orders x.realm.orders,usances x.realm.usances,rates x.realm.rates,halts x.realm.halts,.int x.forum,.int x.day,.int x.file.bill.drawer,.int x.file.bill.drawee,.int x.file.bill.payee,.int x.file.bill.sum,.int x.file.bill.currency,.int x.file.bill.tenor.kind,.int x.file.bill.tenor.n,.int x.file.bill.tenor.unit,.int x.file.bill.day,.int x.file.bill.city,.int x.file.bill.pay,.int x.file.bill.need,.int x.file.bill.rate,.int x.file.bill.flags,.int x.file.bill.parts,signs x.file.signs,alters x.file.alters,acts x.file.acts,facts x.file.facts,.int x.form,.int x.due])=aR x:=_root_.id rfl
@[simp] theorem ajo (x:View):(aR x).c 8=.int x.forum:=_root_.id rfl
@[simp] theorem aj3 (x:View):(aR x).c 9=.int x.day:=_root_.id rfl
@[simp] theorem ahT (x:View):(aR x).c 10=.int x.file.bill.drawer:=_root_.id rfl
@[simp] theorem ah6 (x:View):(aR x).c 11=.int x.file.bill.drawee:=_root_.id rfl
@[simp] theorem aih (x:View):(aR x).c 12=.int x.file.bill.payee:=_root_.id rfl
@[simp] theorem ais (x:View):(aR x).c 13=.int x.file.bill.sum:=_root_.id rfl
@[simp] theorem ahe (x:View):(aR x).c 14=.int x.file.bill.currency:=_root_.id rfl
@[simp] theorem ahl (x:View):(aR x).c 15=.int x.file.bill.tenor.kind:=_root_.id rfl
@[simp] theorem ahD (x:View):(aR x).c 16=.int x.file.bill.tenor.n:=_root_.id rfl
@[simp] theorem ahs (x:View):(aR x).c 17=.int x.file.bill.tenor.unit:=_root_.id rfl
@[simp] theorem aio (x:View):(aR x).c 18=.int x.file.bill.day:=_root_.id rfl
@[simp] theorem aiw (x:View):(aR x).c 19=.int x.file.bill.city:=_root_.id rfl
@[simp] theorem ahg (x:View):(aR x).c 20=.int x.file.bill.pay:=_root_.id rfl
@[simp] theorem ahF (x:View):(aR x).c 21=.int x.file.bill.need:=_root_.id rfl
@[simp] theorem aiM (x:View):(aR x).c 22=.int x.file.bill.rate:=_root_.id rfl
@[simp] theorem aiL (x:View):(aR x).c 23=.int x.file.bill.flags:=_root_.id rfl
@[simp] theorem aiD (x:View):(aR x).c 24=.int x.file.bill.parts:=_root_.id rfl
@[simp] theorem ahR (x:View):(aR x).c 25=signs x.file.signs:=_root_.id rfl
@[simp] theorem aik (x:View):(aR x).c 26=alters x.file.alters:=_root_.id rfl
@[simp] theorem ahd (x:View):(aR x).c 27=acts x.file.acts:=_root_.id rfl
@[simp] theorem ah3 (x:View):(aR x).c 28=facts x.file.facts:=_root_.id rfl
@[simp] theorem ahM (x:View):(aR x).c 29=.int x.form:=_root_.id rfl
@[simp] theorem aiJ (x:View):(aR x).c 30=.int x.due:=_root_.id rfl
@[simp] theorem afy (x:View):v9 8 (aR x)=au x.realm:=_root_.id rfl
def l0:List Int→Int→Int
 |[],o=>o
 |x::l,o=>if x=0 then 0 else l0 l (if x=2 then 2 else o)
theorem X9 {l:List Int}{o:Int}(hn:∀x,x∈l→¬x=0)(h2:o=1∨o=2):l0 l o=if o=2∨2∈l then 2 else 1:=by
 induction l generalizing o with
 |nil=>rcases h2 with h|h<;>simp[l0,h]
 |cons x l ih=>
  have hx:=hn x (by simp)
  unfold l0
  rw[if_neg hx]
  by_cases e:x=2
  ·rw[if_pos e,ih (fun y hy=>hn y (by simp[hy])) (.inr rfl)]
   simp[e]
  ·rw[if_neg e,ih (fun y hy=>hn y (by simp[hy])) h2]
   simp[Ne.symm e]
theorem Tf:∀{l:List Int} {o:Int} {k:Nat} (hk:k<l.length),(∀j (hj:j<k),¬l[j]'(by omega)=0)→l[k]=0→l0 l o=0
 |[],o,k,hk,_,_=>by simp at hk
 |x::l,o,0,hk,hj,h=>by
  unfold l0
  rw[if_pos (by simpa using h)]
 |x::l,o,k+1,hk,hj,h=>by
  unfold l0
  rw[if_neg (by have:=hj 0 (by omega);simpa using this)]
  exact Tf (k:=k) (by simpa using hk) (fun j hjk=>by have:=hj (j+1) (by omega);simpa using this) (by simpa using h)
def aaF (l:List Int)(k:Nat):Int:=if 2∈l.take k then 2 else 1
theorem SC (l:List Int)(hl:l.length≤100000):Runs T y3 [ints l] (.int (l0 l 1)):=by
 refine .of_tree rfl Vm Mf ?_
 simp[xN]
 refine EvP.scan l.length (fun k=>l.getD k 0≠0) (fun k=>[.int 0,.int (aaF l k),.int k]) (fun _=>[]) ?_ (fun k hk hj hok=>?_) (fun k hk hj hok=>?_) (fun hj=>?_)
 ·simp[aaF]
 ·have hw:=ar hk (by omega)
  have hx:¬l[k]=0:=by simpa [hk] using hok
  have hm:aaF l (k+1)=if l[k]=2 then 2 else aaF l k:=by
   unfold aaF
   rw[List.take_succ_eq_append_getElem hk]
   simp only[List.mem_append,List.mem_singleton]
   by_cases e:l[k]=2
   ·simp[e]
   ·simp[e,Ne.symm e]
  rw[hm]
  simp[mA,gN,hk,hw,hx]
  by_cases e:l[k]=2<;>simp[e]
 ·have hx:l[k]=0:=by simpa [hk] using hok
  simp[mA,gN,hk,hx]
  rw[Tf hk (fun j hjk=>by simpa [show j<l.length by omega] using hj j hjk) hx]
 ·simp[mA,gN]
  rw[X9 (fun x hx=>by obtain⟨j,hjl,rfl⟩:=List.getElem_of_mem hx;simpa [hjl] using hj j hjl) (.inl rfl)]
  simp[aaF]
theorem OY (a b:Int):Runs T QQ [.int a,.int b] (.int (l0 [a,b] 1)):=by
 refine .of_tree rfl Wq P5 ?_
 simp[ze]
 exact SC [a,b] (by simp)
def aV (v:View)(q sign:Int):Int:=MZ (Sm v.realm v.forum q ⟨v.file,sign,sign,-1,v.due,v.day⟩)
theorem J3 (v:View)(hr:Right v.realm)(hf:FewS v.file)(q sign:Int):Runs T vX [aR v,.int q,.int sign] (.int (aV v q sign)):=by
 refine .of_tree rfl G8 Af ?_
 simp[lQ]
 refine⟨lM (Sm v.realm v.forum q ⟨v.file,sign,sign,-1,v.due,v.day⟩),Gn v.realm hr v.forum q ⟨v.file,sign,sign,-1,v.due,v.day⟩ hf,G6 _⟩
def L2 (f:File)(sign:Int)(n:Nat):Bool:=(f.alters.take n).any fun a=>decide (sign<a.at_)
def Kf (f:File):Int:=(f.alters.getD (f.alters.length-1) default).sum
def sN (v:View)(sign:Int):Int×Int:=
 if L2 v.file sign v.file.alters.length=false then(0,FF v.file sign v.file.alters.length)
 else if aV v 4 sign=1 then(1,Kf v.file)
 else if aV v 4 sign=2 then(2,min (FF v.file sign v.file.alters.length) (Kf v.file))
 else(aV v 4 sign,FF v.file sign v.file.alters.length)
theorem abH (v:View)(hr:Right v.realm)(hf:FewS v.file)(sign:Int):Runs T vM [aR v,.int sign] (.tup [.int (sN v sign).1,.int (sN v sign).2]):=by
 refine .of_tree rfl Gf zX ?_
 simp[mm]
 have hal:=hf.alters
 refine⟨_,HT v.file sign (by omega),?_⟩
 refine EvP.forRounds v.file.alters.length (fun k=>[.bool (L2 v.file sign k),.int k]) (fun _=>[]) ?_ (fun k hk=>?_) ?_
 ·simp[L2]
 ·have hw:=ar hk (by omega)
  have hs:L2 v.file sign (k+1)=(L2 v.file sign k||decide (sign<v.file.alters[k].at_)):=by
   unfold L2
   rw[List.take_succ_eq_append_getElem hk,List.any_append]
   simp
  rw[hs]
  cases L2 v.file sign k<;>simp[fa,cF,hk,hw]
 ·unfold sN
  cases ha:L2 v.file sign v.file.alters.length
  ·simp[fa,cF,ha]
  simp[fa,cF,ha]
  have hpos:0<v.file.alters.length:=by
   rcases Nat.eq_zero_or_pos v.file.alters.length with e|e
   ·simp[L2,List.length_eq_zero_iff.mp e] at ha
   ·exact e
  have hw:IntKind.i64.wrap ((v.file.alters.length:Int)-1)=(v.file.alters.length:Int)-1:=az (by omega)
  have hn:((v.file.alters.length:Int)-1).toNat=v.file.alters.length-1:=by omega
  have hlt:v.file.alters.length-1<v.file.alters.length:=by omega
  have hla:Kf v.file=v.file.alters[v.file.alters.length-1].sum:=by simp[Kf,hlt]
  simp[hw,hn,hlt]
  refine⟨by omega,_,J3 v hr hf 4 sign,?_⟩
  rw[hla]
  by_cases h1:aV v 4 sign=1
  ·simp[h1]
  by_cases h2:aV v 4 sign=2
  ·simp[h1,h2]
   split
   ·rw[Int.min_eq_right (by omega)]
   ·rw[Int.min_eq_left (by omega)]
  ·simp[h1,h2]
@[simp] theorem alM (a0 a1 a2 a3 a4 a5 a6 x:D):aX [a0,a1,a2,a3,a4,a5,a6] 3 [x]=[a0,a1,a2,x,a4,a5,a6]:=_root_.id rfl
@[simp] theorem alO (a0 a1 a2 a3 a4 a5 a6 x:D):aX [a0,a1,a2,a3,a4,a5,a6] 4 [x]=[a0,a1,a2,a3,x,a5,a6]:=_root_.id rfl
@[simp] theorem alC (a0 a1 a2 a3 a4 a5 a6 x:D):aX [a0,a1,a2,a3,a4,a5,a6] 5 [x]=[a0,a1,a2,a3,a4,x,a6]:=_root_.id rfl
def N7 (v:View)(sign:Int):Effect:=
 let s:=v.file.signs.getD sign.toNat default
 ⟨sign,s.kind,s.who,if xh v.file sign v.day=true then 0 else l0 [v.form,aV v 1 sign,aV v 2 sign] 1,(sN v sign).1,
    if s.kind=1∨s.kind=4 then min (sN v sign).2 s.sum else(sN v sign).2,decide (s.kind≠1)&&decide (arI .and .i64 s.flags 1=0)⟩
theorem K5 (v:View)(hr:Right v.realm)(hf:FewS v.file)(sign:Int)(h0:0≤sign)(h1:sign<v.file.signs.length):Runs T rT [aR v,.int sign] (bK (N7 v sign)):=by
 refine .of_tree rfl Cf xM ?_
 obtain⟨k,rfl⟩:=Int.eq_ofNat_of_zero_le h0
 have hk:k<v.file.signs.length:=by omega
 have hst:=Gr v.file k v.day (by have:=hf.acts;omega)
 have htx:=abH v hr hf k
 have hsg:v.file.signs.getD (k:Int).toNat default=v.file.signs[k]:=by simp[hk]
 have hs1:=J3 v hr hf 1 k
 have hs2:=J3 v hr hf 2 k
 have hj:Runs T y3 [.list [.int v.form,.int (aV v 1 k),.int (aV v 2 k)]] (.int (l0 [v.form,aV v 1 k,aV v 2 k] 1)):=SC [v.form,aV v 1 k,aV v 2 k] (by simp)
 have hif:(if v.file.signs[k].kind=1 then D.bool false else D.bool (decide (arI BinOp.and IntKind.i64 v.file.signs[k].flags 1=0)))=D.bool (decide (v.file.signs[k].kind≠1)&&decide (arI BinOp.and IntKind.i64 v.file.signs[k].flags 1=0)):=by
  by_cases h:v.file.signs[k].kind=1<;>simp[h]
 unfold N7
 rw[hsg]
 generalize aV v 1 k=s1 at*
 generalize aV v 2 k=s2 at*
 generalize l0 [v.form,s1,s2] 1=jj at*
 generalize sN v k=tx at*
 obtain⟨t1,t2⟩:=tx
 simp only at htx
 simp[jo,hk,hif]
 refine⟨_,hst,?_⟩
 have hmin:∀a b:Int,(if b<a then D.int b else D.int a)=D.int (min a b):=by
  intro a b
  split
  ·rw[Int.min_eq_right (by omega)]
  ·rw[Int.min_eq_left (by omega)]
 cases hsk:xh v.file k v.day
 ·simp[hsk]
  refine⟨_,hs1,_,hs2,_,hj,_,htx,?_⟩
  by_cases h1:v.file.signs[k].kind=1∨v.file.signs[k].kind=4
  ·simp[h1,hmin]
   rfl
  ·simp[h1,hmin]
   rfl
 ·simp[hsk]
  refine⟨_,htx,?_⟩
  by_cases h1:v.file.signs[k].kind=1∨v.file.signs[k].kind=4
  ·simp[h1,hmin]
   rfl
  ·simp[h1,hmin]
   rfl
noncomputable def jG (r:Realm)(forum:Int)(f:File)(day:Int):View:=⟨r,forum,day,atF f day,MZ (uf r forum 0 (atF f day) day),R7 r forum (atF f day) day⟩
theorem Pj (r:Realm)(hr:Right r)(hd:RightD r)(forum:Int)(f:File)(day:Int)(hf:FewS f):Runs T J8 [au r,.int forum,aD f,.int day] (aR (jG r forum f day)):=by
 refine .of_tree rfl Ub MA ?_
 simp[xd]
 have hg:=hf.at_ day
 refine⟨_,sR f day (by have:=hf.signs;omega) (by have:=hf.acts;omega) (by have:=hf.alters;omega) (by have:=hf.facts;omega),?_⟩
 simp
 refine⟨_,C0 r hr forum 0 _ day hg,_,G6 _,_,RC r hr hd forum _ day hg,?_⟩
 simp
 rfl
@[simp] theorem aeC (x:View)(a0 a1 a2 a3 a4 a5 a6 a7 a8 a9 a10 a11 a12 a13 a14 a15 a16 a17 a18 a19 a20 a21 a22 a23 a24 a25 a26 a27 a28 a29 a30:D):(aX [a0,a1,a2,a3,a4,a5,a6,a7,a8,a9,a10,a11,a12,a13,a14,a15,a16,a17,a18,a19,a20,a21,a22,a23,a24,a25,a26,a27,a28,a29,a30] 0 [strs x.realm.currencies,ya x.realm.cities,groups x.realm.groups,firms x.realm.firms,orders x.realm.orders,usances x.realm.usances,rates x.realm.rates,halts x.realm.halts,.int x.forum,.int x.day,.int x.file.bill.drawer,.int x.file.bill.drawee,.int x.file.bill.payee,.int x.file.bill.sum,.int x.file.bill.currency,.int x.file.bill.tenor.kind,.int x.file.bill.tenor.n,.int x.file.bill.tenor.unit,.int x.file.bill.day,.int x.file.bill.city,.int x.file.bill.pay,.int x.file.bill.need,.int x.file.bill.rate,.int x.file.bill.flags,.int x.file.bill.parts,signs x.file.signs,alters x.file.alters,acts x.file.acts,facts x.file.facts,.int x.form,.int x.due])[25]?.getD D.none=signs x.file.signs:=_root_.id rfl
def noE:Effect:=⟨0,0,0,0,0,0,false⟩
noncomputable def xy (r:Realm)(forum:Int)(f:File)(sign day:Int):Effect×Bool:=
 if sign<0∨(jG r forum f day).file.signs.length≤sign then(noE,false) else(N7 (jG r forum f day) sign,true)
theorem KX (r:Realm)(hr:Right r)(hd:RightD r)(forum:Int)(f:File)(sign day:Int)(hf:FewS f):Runs T CT [au r,.int forum,aD f,.int sign,.int day] (.tup [bK (xy r forum f sign day).1,.bool (xy r forum f sign day).2]):=by
 refine .of_tree rfl QG FQ ?_
 simp[rY]
 refine⟨_,Pj r hr hd forum f day hf,?_⟩
 have hg:FewS (jG r forum f day).file:=hf.at_ day
 have hr':(jG r forum f day).realm=r:=rfl
 unfold xy
 generalize jG r forum f day=v at*
 simp
 by_cases h:sign<0∨(v.file.signs.length:Int)≤sign
 ·simp[h]
  rfl
 ·simp[h]
  refine⟨_,K5 v (hr'▸hr) hg sign (by omega) (by omega),?_⟩
  simp
noncomputable def bx (r:Realm)(forum:Int)(f:File)(day:Int):List Effect:=(List.range (jG r forum f day).file.signs.length).map fun(k:Nat)=>N7 (jG r forum f day) k
theorem rA (r:Realm)(hr:Right r)(hd:RightD r)(forum:Int)(f:File)(day:Int)(hf:FewS f):Runs T AD [au r,.int forum,aD f,.int day] (tH (bx r forum f day)):=by
 refine .of_tree rfl LJ Er ?_
 simp[qz]
 refine⟨_,Pj r hr hd forum f day hf,?_⟩
 have hg:FewS (jG r forum f day).file:=hf.at_ day
 have hr':(jG r forum f day).realm=r:=rfl
 unfold bx
 generalize jG r forum f day=v at*
 have hl:=hg.signs
 refine EvP.forRounds v.file.signs.length (fun k=>[.none,.int k]) (fun k=>[tH ((List.range k).map fun(k:Nat)=>N7 v k)]) ?_ (fun k hk=>?_) ?_
 ·simp[tH]
 ·have hw:=ar hk (by omega)
  have he:=K5 v (hr'▸hr) hg k (by omega) (by omega)
  rw[List.range_succ,List.map_append]
  have hln:((List.range k).map fun(k:Nat)=>N7 v k).length=k:=by simp
  generalize ((List.range k).map fun(k:Nat)=>N7 v k)=A at*
  simp[oS,gp,hk,hw]
  exact⟨_,he,by omega,by simp[tH]⟩
 ·simp[oS,gp]
end Rm
namespace Rm
open Go Go.Proofs Cx
def sB:PT:=
 (.call ⟨[],[(16386,pL),(12290,pL),(2,(.setc (.con (.agg [(.v (.string ⟨#[]⟩)),(.bool false),(.list []),(.list [])])) 0 (.mk [(.con (.v (.string ⟨#[103,101,110,101,118,97]⟩))),pF,pL,pL]))),(1,(.con (.agg [(.int 0),(.int 0),(.int 0),(.int 0),(.int 0),(.int 0),(.int 0),(.int 0),(.int 0),(.int 0),(.int 0),(.int 0),(.int 0),(.int 0),(.int 0),(.list []),(.list []),(.list []),(.list [])]))),(0,(.con (.agg [(.list []),(.list []),(.list []),(.list []),(.list []),(.list []),(.list []),(.list [])])))]⟩ [] 8 122 [(pi 7)]
 (.call ⟨[(9,(.mk [(pi 0),r8]))],[]⟩ [] 10 122 [(pi 16)]
 (.call ⟨[(11,(.mk [(pi 1),r10]))],[]⟩ [] 12 122 [(pi 15)]
 (.call ⟨[(13,(.mk [(pi 2),r12]))],[]⟩ [] 14 122 [(pi 14)]
 (.chk (ple (.llen (.app (.o 16386) (.lst [r9,r11,r13,(.mk [(pi 4),r14])]))) (pi 4294967296))
 (.chk (ple (.llen (.app pL (.lst [(.mk [(pi 0),(pi 0),(pi 0),(pi (-1)),(pi (-1)),(pi 0),(pi 2),(pi 0),(pi 0)])]))) (pi 4294967296))
 (.chk (ple (.llen (.app (.app pL (.lst [(.mk [(pi 0),(pi 0),(pi 0),(pi (-1)),(pi (-1)),(pi 0),(pi 2),(pi 0),(pi 0)])])) (.lst [(.mk [(pi 1),(pi 0),(pi 1),(pi (-1)),(pi (-1)),(pi 400),(pi 3),(pi 0),(pi 0)])]))) (pi 4294967296))
 (.chk (ple (.llen (.app (.app (.app pL (.lst [(.mk [(pi 0),(pi 0),(pi 0),(pi (-1)),(pi (-1)),(pi 0),(pi 2),(pi 0),(pi 0)])])) (.lst [(.mk [(pi 1),(pi 0),(pi 1),(pi (-1)),(pi (-1)),(pi 400),(pi 3),(pi 0),(pi 0)])])) (.lst [(.mk [(pi 2),(pi 0),(pi 0),(pi (-1)),(pi 1),(pi 0),(pi 4),(pi 0),(pi 0)])]))) (pi 4294967296))
 (.ret (.tup [(mkA 8 (.setc o0 0 (.mk [(pc (.setc (.con (.agg [(.list []),(.list []),(.list []),(.list []),(.list []),(.list []),(.list []),(.list [])])) 0 (.mk [(.lst [(.con (.v (.string ⟨#[102,114,97,110,99]⟩)))]),(.lst [(.mk [(.con (.v (.string ⟨#[76,121,111,110]⟩))),(pi 0),(pi 0),pL,pL,pL])]),(.lst [(.mk [(pi 0)])]),(.lst [(.mk [(.con (.v (.string ⟨#[66,111,100,109,101,114]⟩))),(pi 0),(pi 0)]),(.mk [(.con (.v (.string ⟨#[72,111,112,101]⟩))),(pi 0),(pi 0)])]),(.lst [(.mk [(pc (.setc o2 3 pN) 0),(pc (.setc o2 3 pN) 1),(.o 12290),(.app (.o 16386) (.lst [r9,r11,r13,(.mk [(pi 4),r14])]))])]),pL,pL,pL])) 0),(pc (.setc (.con (.agg [(.list []),(.list []),(.list []),(.list []),(.list []),(.list []),(.list []),(.list [])])) 0 (.mk [(.lst [(.con (.v (.string ⟨#[102,114,97,110,99]⟩)))]),(.lst [(.mk [(.con (.v (.string ⟨#[76,121,111,110]⟩))),(pi 0),(pi 0),pL,pL,pL])]),(.lst [(.mk [(pi 0)])]),(.lst [(.mk [(.con (.v (.string ⟨#[66,111,100,109,101,114]⟩))),(pi 0),(pi 0)]),(.mk [(.con (.v (.string ⟨#[72,111,112,101]⟩))),(pi 0),(pi 0)])]),(.lst [(.mk [(pc (.setc o2 3 pN) 0),(pc (.setc o2 3 pN) 1),(.o 12290),(.app (.o 16386) (.lst [r9,r11,r13,(.mk [(pi 4),r14])]))])]),pL,pL,pL])) 1),(pc (.setc (.con (.agg [(.list []),(.list []),(.list []),(.list []),(.list []),(.list []),(.list []),(.list [])])) 0 (.mk [(.lst [(.con (.v (.string ⟨#[102,114,97,110,99]⟩)))]),(.lst [(.mk [(.con (.v (.string ⟨#[76,121,111,110]⟩))),(pi 0),(pi 0),pL,pL,pL])]),(.lst [(.mk [(pi 0)])]),(.lst [(.mk [(.con (.v (.string ⟨#[66,111,100,109,101,114]⟩))),(pi 0),(pi 0)]),(.mk [(.con (.v (.string ⟨#[72,111,112,101]⟩))),(pi 0),(pi 0)])]),(.lst [(.mk [(pc (.setc o2 3 pN) 0),(pc (.setc o2 3 pN) 1),(.o 12290),(.app (.o 16386) (.lst [r9,r11,r13,(.mk [(pi 4),r14])]))])]),pL,pL,pL])) 2),(pc (.setc (.con (.agg [(.list []),(.list []),(.list []),(.list []),(.list []),(.list []),(.list []),(.list [])])) 0 (.mk [(.lst [(.con (.v (.string ⟨#[102,114,97,110,99]⟩)))]),(.lst [(.mk [(.con (.v (.string ⟨#[76,121,111,110]⟩))),(pi 0),(pi 0),pL,pL,pL])]),(.lst [(.mk [(pi 0)])]),(.lst [(.mk [(.con (.v (.string ⟨#[66,111,100,109,101,114]⟩))),(pi 0),(pi 0)]),(.mk [(.con (.v (.string ⟨#[72,111,112,101]⟩))),(pi 0),(pi 0)])]),(.lst [(.mk [(pc (.setc o2 3 pN) 0),(pc (.setc o2 3 pN) 1),(.o 12290),(.app (.o 16386) (.lst [r9,r11,r13,(.mk [(pi 4),r14])]))])]),pL,pL,pL])) 3),(pc (.setc (.con (.agg [(.list []),(.list []),(.list []),(.list []),(.list []),(.list []),(.list []),(.list [])])) 0 (.mk [(.lst [(.con (.v (.string ⟨#[102,114,97,110,99]⟩)))]),(.lst [(.mk [(.con (.v (.string ⟨#[76,121,111,110]⟩))),(pi 0),(pi 0),pL,pL,pL])]),(.lst [(.mk [(pi 0)])]),(.lst [(.mk [(.con (.v (.string ⟨#[66,111,100,109,101,114]⟩))),(pi 0),(pi 0)]),(.mk [(.con (.v (.string ⟨#[72,111,112,101]⟩))),(pi 0),(pi 0)])]),(.lst [(.mk [(pc (.setc o2 3 pN) 0),(pc (.setc o2 3 pN) 1),(.o 12290),(.app (.o 16386) (.lst [r9,r11,r13,(.mk [(pi 4),r14])]))])]),pL,pL,pL])) 4),pL,pL,pL]))),(mkA 19 (.setc o1 0 (.mk [(pc (.setc (.setc (.setc (.setc (.setc (.setc (.con (.agg [(.int 0),(.int 0),(.int 0),(.int 0),(.int 0),(.int 0),(.int 0),(.int 0),(.int 0),(.int 0),(.int 0),(.int 0),(.int 0),(.int 0),(.int 0),(.list []),(.list []),(.list []),(.list [])])) 0 (.mk [(.mk [(pi 0),(pi 1),(pi 0),(pi 500),(pi 0),(.mk [(pi 3),(pi 10),(pi 0)]),(pi 2),(pi 0),(pi 0),(pi (-1)),(pi 0),(pi 1),(pi 1)]),pL,pL,pL,pL])) 15 pN) 15 pN) 15 pN) 16 pN) 18 pN) 0),(pc (.setc (.setc (.setc (.setc (.setc (.setc (.con (.agg [(.int 0),(.int 0),(.int 0),(.int 0),(.int 0),(.int 0),(.int 0),(.int 0),(.int 0),(.int 0),(.int 0),(.int 0),(.int 0),(.int 0),(.int 0),(.list []),(.list []),(.list []),(.list [])])) 0 (.mk [(.mk [(pi 0),(pi 1),(pi 0),(pi 500),(pi 0),(.mk [(pi 3),(pi 10),(pi 0)]),(pi 2),(pi 0),(pi 0),(pi (-1)),(pi 0),(pi 1),(pi 1)]),pL,pL,pL,pL])) 15 pN) 15 pN) 15 pN) 16 pN) 18 pN) 1),(pc (.setc (.setc (.setc (.setc (.setc (.setc (.con (.agg [(.int 0),(.int 0),(.int 0),(.int 0),(.int 0),(.int 0),(.int 0),(.int 0),(.int 0),(.int 0),(.int 0),(.int 0),(.int 0),(.int 0),(.int 0),(.list []),(.list []),(.list []),(.list [])])) 0 (.mk [(.mk [(pi 0),(pi 1),(pi 0),(pi 500),(pi 0),(.mk [(pi 3),(pi 10),(pi 0)]),(pi 2),(pi 0),(pi 0),(pi (-1)),(pi 0),(pi 1),(pi 1)]),pL,pL,pL,pL])) 15 pN) 15 pN) 15 pN) 16 pN) 18 pN) 2),(pc (.setc (.setc (.setc (.setc (.setc (.setc (.con (.agg [(.int 0),(.int 0),(.int 0),(.int 0),(.int 0),(.int 0),(.int 0),(.int 0),(.int 0),(.int 0),(.int 0),(.int 0),(.int 0),(.int 0),(.int 0),(.list []),(.list []),(.list []),(.list [])])) 0 (.mk [(.mk [(pi 0),(pi 1),(pi 0),(pi 500),(pi 0),(.mk [(pi 3),(pi 10),(pi 0)]),(pi 2),(pi 0),(pi 0),(pi (-1)),(pi 0),(pi 1),(pi 1)]),pL,pL,pL,pL])) 15 pN) 15 pN) 15 pN) 16 pN) 18 pN) 3),(pc (.setc (.setc (.setc (.setc (.setc (.setc (.con (.agg [(.int 0),(.int 0),(.int 0),(.int 0),(.int 0),(.int 0),(.int 0),(.int 0),(.int 0),(.int 0),(.int 0),(.int 0),(.int 0),(.int 0),(.int 0),(.list []),(.list []),(.list []),(.list [])])) 0 (.mk [(.mk [(pi 0),(pi 1),(pi 0),(pi 500),(pi 0),(.mk [(pi 3),(pi 10),(pi 0)]),(pi 2),(pi 0),(pi 0),(pi (-1)),(pi 0),(pi 1),(pi 1)]),pL,pL,pL,pL])) 15 pN) 15 pN) 15 pN) 16 pN) 18 pN) 4),(pc (.setc (.setc (.setc (.setc (.setc (.setc (.con (.agg [(.int 0),(.int 0),(.int 0),(.int 0),(.int 0),(.int 0),(.int 0),(.int 0),(.int 0),(.int 0),(.int 0),(.int 0),(.int 0),(.int 0),(.int 0),(.list []),(.list []),(.list []),(.list [])])) 0 (.mk [(.mk [(pi 0),(pi 1),(pi 0),(pi 500),(pi 0),(.mk [(pi 3),(pi 10),(pi 0)]),(pi 2),(pi 0),(pi 0),(pi (-1)),(pi 0),(pi 1),(pi 1)]),pL,pL,pL,pL])) 15 pN) 15 pN) 15 pN) 16 pN) 18 pN) 5),(pc (.setc (.setc (.setc (.setc (.setc (.setc (.con (.agg [(.int 0),(.int 0),(.int 0),(.int 0),(.int 0),(.int 0),(.int 0),(.int 0),(.int 0),(.int 0),(.int 0),(.int 0),(.int 0),(.int 0),(.int 0),(.list []),(.list []),(.list []),(.list [])])) 0 (.mk [(.mk [(pi 0),(pi 1),(pi 0),(pi 500),(pi 0),(.mk [(pi 3),(pi 10),(pi 0)]),(pi 2),(pi 0),(pi 0),(pi (-1)),(pi 0),(pi 1),(pi 1)]),pL,pL,pL,pL])) 15 pN) 15 pN) 15 pN) 16 pN) 18 pN) 6),(pc (.setc (.setc (.setc (.setc (.setc (.setc (.con (.agg [(.int 0),(.int 0),(.int 0),(.int 0),(.int 0),(.int 0),(.int 0),(.int 0),(.int 0),(.int 0),(.int 0),(.int 0),(.int 0),(.int 0),(.int 0),(.list []),(.list []),(.list []),(.list [])])) 0 (.mk [(.mk [(pi 0),(pi 1),(pi 0),(pi 500),(pi 0),(.mk [(pi 3),(pi 10),(pi 0)]),(pi 2),(pi 0),(pi 0),(pi (-1)),(pi 0),(pi 1),(pi 1)]),pL,pL,pL,pL])) 15 pN) 15 pN) 15 pN) 16 pN) 18 pN) 7),(pc (.setc (.setc (.setc (.setc (.setc (.setc (.con (.agg [(.int 0),(.int 0),(.int 0),(.int 0),(.int 0),(.int 0),(.int 0),(.int 0),(.int 0),(.int 0),(.int 0),(.int 0),(.int 0),(.int 0),(.int 0),(.list []),(.list []),(.list []),(.list [])])) 0 (.mk [(.mk [(pi 0),(pi 1),(pi 0),(pi 500),(pi 0),(.mk [(pi 3),(pi 10),(pi 0)]),(pi 2),(pi 0),(pi 0),(pi (-1)),(pi 0),(pi 1),(pi 1)]),pL,pL,pL,pL])) 15 pN) 15 pN) 15 pN) 16 pN) 18 pN) 8),(pc (.setc (.setc (.setc (.setc (.setc (.setc (.con (.agg [(.int 0),(.int 0),(.int 0),(.int 0),(.int 0),(.int 0),(.int 0),(.int 0),(.int 0),(.int 0),(.int 0),(.int 0),(.int 0),(.int 0),(.int 0),(.list []),(.list []),(.list []),(.list [])])) 0 (.mk [(.mk [(pi 0),(pi 1),(pi 0),(pi 500),(pi 0),(.mk [(pi 3),(pi 10),(pi 0)]),(pi 2),(pi 0),(pi 0),(pi (-1)),(pi 0),(pi 1),(pi 1)]),pL,pL,pL,pL])) 15 pN) 15 pN) 15 pN) 16 pN) 18 pN) 9),(pc (.setc (.setc (.setc (.setc (.setc (.setc (.con (.agg [(.int 0),(.int 0),(.int 0),(.int 0),(.int 0),(.int 0),(.int 0),(.int 0),(.int 0),(.int 0),(.int 0),(.int 0),(.int 0),(.int 0),(.int 0),(.list []),(.list []),(.list []),(.list [])])) 0 (.mk [(.mk [(pi 0),(pi 1),(pi 0),(pi 500),(pi 0),(.mk [(pi 3),(pi 10),(pi 0)]),(pi 2),(pi 0),(pi 0),(pi (-1)),(pi 0),(pi 1),(pi 1)]),pL,pL,pL,pL])) 15 pN) 15 pN) 15 pN) 16 pN) 18 pN) 10),(pc (.setc (.setc (.setc (.setc (.setc (.setc (.con (.agg [(.int 0),(.int 0),(.int 0),(.int 0),(.int 0),(.int 0),(.int 0),(.int 0),(.int 0),(.int 0),(.int 0),(.int 0),(.int 0),(.int 0),(.int 0),(.list []),(.list []),(.list []),(.list [])])) 0 (.mk [(.mk [(pi 0),(pi 1),(pi 0),(pi 500),(pi 0),(.mk [(pi 3),(pi 10),(pi 0)]),(pi 2),(pi 0),(pi 0),(pi (-1)),(pi 0),(pi 1),(pi 1)]),pL,pL,pL,pL])) 15 pN) 15 pN) 15 pN) 16 pN) 18 pN) 11),(pc (.setc (.setc (.setc (.setc (.setc (.setc (.con (.agg [(.int 0),(.int 0),(.int 0),(.int 0),(.int 0),(.int 0),(.int 0),(.int 0),(.int 0),(.int 0),(.int 0),(.int 0),(.int 0),(.int 0),(.int 0),(.list []),(.list []),(.list []),(.list [])])) 0 (.mk [(.mk [(pi 0),(pi 1),(pi 0),(pi 500),(pi 0),(.mk [(pi 3),(pi 10),(pi 0)]),(pi 2),(pi 0),(pi 0),(pi (-1)),(pi 0),(pi 1),(pi 1)]),pL,pL,pL,pL])) 15 pN) 15 pN) 15 pN) 16 pN) 18 pN) 12),(pc (.setc (.setc (.setc (.setc (.setc (.setc (.con (.agg [(.int 0),(.int 0),(.int 0),(.int 0),(.int 0),(.int 0),(.int 0),(.int 0),(.int 0),(.int 0),(.int 0),(.int 0),(.int 0),(.int 0),(.int 0),(.list []),(.list []),(.list []),(.list [])])) 0 (.mk [(.mk [(pi 0),(pi 1),(pi 0),(pi 500),(pi 0),(.mk [(pi 3),(pi 10),(pi 0)]),(pi 2),(pi 0),(pi 0),(pi (-1)),(pi 0),(pi 1),(pi 1)]),pL,pL,pL,pL])) 15 pN) 15 pN) 15 pN) 16 pN) 18 pN) 13),(pc (.setc (.setc (.setc (.setc (.setc (.setc (.con (.agg [(.int 0),(.int 0),(.int 0),(.int 0),(.int 0),(.int 0),(.int 0),(.int 0),(.int 0),(.int 0),(.int 0),(.int 0),(.int 0),(.int 0),(.int 0),(.list []),(.list []),(.list []),(.list [])])) 0 (.mk [(.mk [(pi 0),(pi 1),(pi 0),(pi 500),(pi 0),(.mk [(pi 3),(pi 10),(pi 0)]),(pi 2),(pi 0),(pi 0),(pi (-1)),(pi 0),(pi 1),(pi 1)]),pL,pL,pL,pL])) 15 pN) 15 pN) 15 pN) 16 pN) 18 pN) 14),(.app (.app (.app pL (.lst [(.mk [(pi 0),(pi 0),(pi 0),(pi (-1)),(pi (-1)),(pi 0),(pi 2),(pi 0),(pi 0)])])) (.lst [(.mk [(pi 1),(pi 0),(pi 1),(pi (-1)),(pi (-1)),(pi 400),(pi 3),(pi 0),(pi 0)])])) (.lst [(.mk [(pi 2),(pi 0),(pi 0),(pi (-1)),(pi 1),(pi 0),(pi 4),(pi 0),(pi 0)])])),(.lst [(.mk [(pi 2),(pi 900)])]),pL,(.lst [(.mk [(pi 0),(pi 0),(pi 1)]),(.mk [(pi 1),(pi 0),(pi 1)]),(.mk [(pi 0),(pi 1),(pi 1)]),(.mk [(pi 1),(pi 2),(pi 1)])])])))]))))))))))
def Qw (b:Nat→PC):PT×List (Shp×PT):=(sB,[])
theorem Nw:cf_l23_example.map told=some (Qw (aA cf_l23_example)):=by kernel_rfl
theorem FU:tree lE=sB:=aj Nw
theorem ot (v:Int):Runs T A1 [.int v] (jz ⟨2,v,[]⟩):=by
 refine .of_tree rfl Mz DE ?_
 simp[pO]
 rfl
def exT (v:Int):Tm:=⟨2,v,[]⟩
def exO:Order:=⟨⟨#[103,101,110,101,118,97]⟩,false,[],[⟨0,exT 7⟩,⟨1,exT 16⟩,⟨2,exT 15⟩,⟨4,exT 14⟩]⟩
def exR:Realm:=⟨[⟨#[102,114,97,110,99]⟩],[⟨⟨#[76,121,111,110]⟩,0,0,[],[],[]⟩],[⟨0⟩],[⟨⟨#[66,111,100,109,101,114]⟩,0,0⟩,⟨⟨#[72,111,112,101]⟩,0,0⟩],[exO],[],[],[]⟩
def exB:Bill:=⟨0,1,0,500,0,⟨3,10,0⟩,2,0,0,-1,0,1,1⟩
def exF:File:=⟨exB,[⟨0,0,0,-1,-1,0,2,0,0⟩,⟨1,0,1,-1,-1,400,3,0,0⟩,⟨2,0,0,-1,1,0,4,0,0⟩],[⟨2,900⟩],[],[⟨0,0,1⟩,⟨1,0,1⟩,⟨0,1,1⟩,⟨1,2,1⟩]⟩
theorem Um:Runs T CC [] (.tup [au exR,aD exF]):=by
 refine .of_tree rfl OU FU ?_
 simp[sB]
 refine⟨_,ot 7,_,ot 16,_,ot 15,_,ot 14,?_⟩
 simp
 exact⟨by kernel_rfl,by kernel_rfl⟩
theorem Wi:Small exR:=by
 refine⟨by decide,by decide,by decide,by decide,by decide,by decide,by decide,by decide,?_,?_,?_⟩
 ·intro c hc
  obtain rfl:c=⟨⟨#[76,121,111,110]⟩,0,0,[],[],[]⟩:=by simpa [exR] using hc
  simp
 ·intro o ho
  obtain rfl:o=exO:=by simpa [exR] using ho
  simp[exO]
 ·intro x hx
  simp[exR] at hx
theorem ex_rightD:RightD exR:=⟨Wi,by decide,fun h hh=>by simp[exR] at hh⟩
theorem adN:Xb exR exB (-1) 0=(10,0):=by
 have hck:=wB exR Wi
 have h0:mM exR=0:=by kernel_rfl
 rw[h0] at hck
 have hset:=K1 exR ex_rightD.halts 0 10 (by decide) ex_rightD.cities (by decide) (by decide)
 have hsv:GD exR 0 10=(10,0):=by kernel_rfl
 rw[hsv] at hset
 have h:Runs T tM [au exR,aT exB,.int (-1),.int 0] (.tup [.int 10,.int 0]):=by
  have hb:Runs T rq [au exR,aT exB,.int (-1)] (.tup [.int 10,.int 0]):=by
   refine .of_tree rfl fU df ?_
   simp[cZ,exB]
  have hi1:Runs T rS [au exR,.int 0] (.bool true):=AM exR 0
  have hi2:Runs T jK [.int 2] (.bool true):=sy 2
  have hi3:Runs T jK [.int 10] (.bool true):=sy 10
  have hi4:Runs T sM [jU exB.tenor] (.bool false):=AU exB.tenor
  refine .of_tree rfl FC yj ?_
  simp[q7]
  refine⟨_,hck,?_⟩
  simp
  refine⟨_,hi1,?_⟩
  simp
  refine⟨_,hi1,?_⟩
  simp
  refine⟨_,hi2,?_⟩
  simp
  refine⟨by simp[exB],_,hi4,?_⟩
  simp
  refine⟨_,hb,?_⟩
  simp
  refine⟨_,hi3,?_⟩
  have hw10:IntKind.i64.wrap 10=10:=az (by omega)
  simp[hw10]
  refine⟨_,hset,?_⟩
  simp
 have h2:=h.det (XI exR ex_rightD exB (-1) 0)
 simp at h2
 exact Prod.ext h2.1.symm h2.2.symm
theorem ZK:R7 exR 0 (atF exF 5) 5=10:=by
 have h1:(atF (atF exF 5) 5).signs≠[]:=by decide
 have h2:x9 (atF (atF exF 5) 5)=-1:=by kernel_rfl
 have h3:max (oo (uf exR 0 6 (atF (atF exF 5) 5) 5)) 0=0:=by kernel_rfl
 unfold R7
 rw[if_neg h1,h2,h3,show(atF exF 5).bill=exB from rfl,adN]
 simp
theorem Z9:R7 exR 0 (atF exF 2) 2=10:=by
 have h1:(atF (atF exF 2) 2).signs≠[]:=by decide
 have h2:x9 (atF (atF exF 2) 2)=-1:=by kernel_rfl
 have h3:max (oo (uf exR 0 6 (atF (atF exF 2) 2) 2)) 0=0:=by kernel_rfl
 unfold R7
 rw[if_neg h1,h2,h3,show(atF exF 2).bill=exB from rfl,adN]
 simp
def exW:List Effect:=[⟨0,0,0,1,0,500,true⟩,⟨1,1,1,2,0,400,false⟩,⟨2,2,0,2,0,900,true⟩]
theorem Wn:bx exR 0 exF 5=exW:=by
 unfold bx jG
 rw[ZK]
 kernel_rfl
theorem Vy:bx exR 0 exF 2=exW.take 1:=by
 unfold bx jG
 rw[Z9]
 kernel_rfl
theorem Yf:xy exR 0 exF 2 5=(⟨2,2,0,2,0,900,true⟩,true):=by
 unfold xy jG
 rw[ZK]
 kernel_rfl
theorem X3:xy exR 0 exF 1 2=(noE,false):=by
 unfold xy jG
 rw[Z9]
 kernel_rfl
def Kj (a b:List Effect):Bool:=decide (a.length=b.length)&&mg a.length (fun k=>decide (a.getD k default=b.getD k default))
theorem Yl (a:List Effect):Kj a a=true:=by
 unfold Kj
 rw[Bg fun k _=>by simp]
 simp
theorem aaj (a b:Effect):a=b↔a.sign=b.sign∧a.kind=b.kind∧a.firm=b.firm∧a.binds=b.binds∧a.text=b.text∧a.sum=b.sum∧a.recourse=b.recourse:=by cases a;cases b;simp
theorem Cu (a b:List Effect)(ha:a.length≤100000):Runs T Pw [tH a,tH b] (.bool (Kj a b)):=by
 refine .of_tree rfl XC OE ?_
 simp[A7]
 by_cases hl:a.length=b.length
 case neg=>
  have:¬(a.length:Int)=b.length:=by omega
  simp[this,Kj,hl]
 have hl':(a.length:Int)=b.length:=by omega
 simp[hl']
 refine EvP.scan a.length (fun k=>a.getD k default=b.getD k default) (fun k=>[.bool false,.int k]) (fun _=>[]) ?_ (fun k hk hj hok=>?_) (fun k hk hj hok=>?_) (fun hj=>?_)
 ·simp
 ·have hw:=ar hk (by omega)
  have hkb:k<b.length:=by omega
  have hx:a[k]=b[k]:=by simpa [hk,hkb] using hok
  simp[nR,jW,hk,hkb,hw,hx]
 ·have hkb:k<b.length:=by omega
  have hx:¬a[k]=b[k]:=by simpa [hk,hkb] using hok
  have hs:Kj a b=false:=by
   unfold Kj
   rw[QA hk (by simpa [hk,hkb] using hx)]
   simp
  rw[hs]
  rw[aaj] at hx
  simp[nR,jW,hk,hkb]
  simp only[←Classical.not_and_iff_not_or_not]
  exact hx
 ·have hs:Kj a b=true:=by
   unfold Kj
   rw[Bg fun k hk=>by simpa using hj k hk]
   simp[hl]
  rw[hs]
  simp[nR,jW]
theorem afz {v:Int}(h:I64 v):(exT v).OK:=.mk 2 v [] (by unfold I64;omega) h (by decide) (fun _ h=>by cases h)
theorem Fu:Right exR:=by
 refine⟨?_,by decide,?_⟩
 ·intro o ho
  obtain rfl:o=exO:=by simpa [exR] using ho
  exact⟨by decide,fun ch h=>by simp[exO] at h⟩
 ·intro o ho
  obtain rfl:o=exO:=by simpa [exR] using ho
  refine⟨⟨⟨by decide,fun ch h=>by simp[exO] at h⟩,by decide,?_⟩,by decide⟩
  intro x hx
  simp[exO] at hx
  rcases hx with rfl|rfl|rfl|rfl
  all_goals exact⟨by unfold I64;decide,afz (by unfold I64;omega)⟩
theorem XU:Runs T Ka [] (.bool true):=by
 have hf:FewS exF:=⟨by decide,by decide,by decide,by decide⟩
 have e1:=KX exR Fu ex_rightD 0 exF 2 5 hf
 have e2:=KX exR Fu ex_rightD 0 exF 1 2 hf
 have e3:=rA exR Fu ex_rightD 0 exF 5 hf
 have e4:=rA exR Fu ex_rightD 0 exF 2 hf
 rw[Yf] at e1
 rw[X3] at e2
 rw[Wn] at e3
 rw[Vy] at e4
 have s1:=Cu exW exW (by decide)
 have s2:=Cu (exW.take 1) (exW.take 1) (by decide)
 rw[Yl] at s1 s2
 have a1:=OY 1 2
 have a2:=OY 2 0
 have a3:=OY 1 1
 refine .of_tree rfl UU MB ?_
 simp[xz]
 refine⟨_,Um,?_⟩
 simp
 refine⟨_,e1,_,e2,_,e3,_,s1,?_⟩
 simp
 refine⟨_,e4,_,s2,?_⟩
 simp[l0] at a1 a2 a3
 have hall:v9 7 (D.agg [D.int 2,D.int 2,D.int 0,D.int 2,D.int 0,D.int 900,D.bool true])=bK ⟨2,2,0,2,0,900,true⟩:=rfl
 simp[hall]
 refine⟨_,a1,?_⟩
 simp
 refine⟨_,a2,?_⟩
 simp
 refine⟨_,a3,?_⟩
 simp
end Rm
namespace Rm
open Go Go.Proofs Cx
theorem XV {n:Nat}{f:Nat→Int}(h:kD n f=0)(k:Nat)(hk:k<n):f k=0:=firstE_iff.1 h k hk
theorem Xf {r:Realm}(h:mM r=0)(k:Nat)(hk:k<r.orders.length):tc r.orders[k]=true:=by
 unfold mM at h
 rw[Je] at h
 have h1:=h (eG (bN r) 20 (nG r)) (by simp)
 unfold eG at h1
 split at h1
 ·cases h1
 have h2:=XV h1 k (by simpa [bN] using hk)
 have h3:=(FI h2).2
 unfold nG at h3
 simpa [hk] using h3
theorem aaP {r:Realm}(hs:Small r)(h:mM r=0):ac1 r:=by
 intro o ho
 obtain⟨k,hk,rfl⟩:=List.getElem_of_mem ho
 have h1:=Xf h k hk
 obtain⟨hc,_⟩:=hs.order _ ho
 refine⟨by omega,fun ch hch=>?_⟩
 unfold tc at h1
 simp only[Bool.and_eq_true] at h1
 obtain⟨j,hj,rfl⟩:=List.getElem_of_mem hch
 have h2:=allB_iff.1 h1.1 j hj
 simpa [inB,hj] using h2
theorem YQ {r:Realm}(hs:Small r)(h:mM r=0):Jj r:=by
 refine⟨by have:=hs.halts;omega,fun x hx=>?_⟩
 obtain⟨k,hk,rfl⟩:=List.getElem_of_mem hx
 unfold mM at h
 rw[Je] at h
 have h1:=h (qB r) (by simp)
 unfold qB at h1
 split at h1
 ·cases h1
 split at h1
 ·cases h1
 split at h1
 ·cases h1
 split at h1
 ·rename_i hall
  have h2:=allB_iff.1 hall k hk
  simp[Km,wi,inB,hk] at h2
  omega
 ·cases h1
structure Good (r:Realm) (f:File):Prop where
 right:Right r
 rightD:RightD r
 few:FewS f
theorem ad5 {r:Realm}{f:File}(hr:r.OK)(h:QE r f=true):Good r f:=by
 unfold QE CN at h
 simp only[Bool.and_eq_true,decide_eq_true_eq] at h
 obtain⟨⟨⟨h1,h2⟩,h3⟩,h4⟩:=h
 have hs:=It hr h1
 refine⟨⟨aaP hs h4,by have:=hs.orders;omega,fun o ho=>?_⟩,⟨hs,YQ hs h4⟩,?_⟩
 ·have:=hs.order o ho
  refine⟨?_,by omega⟩
  exact hr.2.2.2.2.1.2 o ho
 ·simp[aaK] at h2
  exact⟨by omega,by omega,by omega,by omega⟩
end Rm
namespace Rm
open Go Go.Proofs Cx
def CLe (a b:Cell):Prop:=a.known=true→b=a
theorem CLe.rfl' (a:Cell):CLe a a:=fun _=>rfl
theorem CLe.no (b:Cell):CLe noC b:=fun h=>by cases h
def CsLe (l l':List Cell):Prop:=l.length=l'.length∧∀i,CLe (aH l i) (aH l' i)
theorem Wu {α:Type}(f:α→Cell)(l:List α)(i:Nat)(hi:i<l.length):aH (l.map f) i=f l[i]:=by
 simp[aH,hi]
theorem Xi (l:List Cell)(i:Nat)(hi:l.length≤i):aH l i=default:=by
 simp[aH,hi]
theorem CsLe.map {α:Type}{f g:α→Cell}{l:List α}(h:∀a,a∈l→CLe (f a) (g a)):CsLe (l.map f) (l.map g):=by
 refine⟨by simp,fun i=>?_⟩
 by_cases hi:i<l.length
 ·rw[Wu f l i hi,Wu g l i hi]
  exact h _ (List.getElem_mem hi)
 ·rw[Xi _ i (by simpa using hi),Xi _ i (by simpa using hi)]
  exact .rfl' _
theorem XW {cs cs':List Cell}(h:CsLe cs cs')(v:Int):CLe (gf cs v) (gf cs' v):=by
 intro hk
 have hv:=h.2 v.toNat
 unfold gf at hk ⊢
 unfold cellAt at hk ⊢
 unfold aH at hv
 by_cases h1:cs.length≤v.toNat∨(cs.getD v.toNat default).known=false
 ·rw[if_pos h1] at hk
  cases hk
 ·have h2:(cs.getD v.toNat default).known=true:=by
   cases e:(cs.getD v.toNat default).known
   ·exact absurd (.inr e) h1
   ·rfl
  rw[hv h2,←h.1]
theorem Fw {l l':List Cell}(h:CsLe l l')(op:Int):CLe (aS op l) (aS op l'):=by
 intro hk
 have h0:=h.2 0
 have h1:=h.2 1
 have h2:=h.2 2
 unfold aS at hk ⊢
 by_cases o3:op=3
 ·rw[if_pos o3] at hk ⊢
  rw[if_pos o3]
  cases e:(aH l 0).known
  ·rw[e] at hk;cases hk
  ·rw[h0 e,e]
 rw[if_neg o3] at hk ⊢
 rw[if_neg o3]
 by_cases o4:(op=4∨op=5)∧(aH l 0=kQ (decide (op=5))∨aH l 1=kQ (decide (op=5)))
 ·have o4':(op=4∨op=5)∧(aH l' 0=kQ (decide (op=5))∨aH l' 1=kQ (decide (op=5))):=by
   refine⟨o4.1,?_⟩
   have hy:∀b,(kQ b).known=true:=fun b=>by cases b<;>rfl
   rcases o4.2 with e|e
   ·exact .inl ((h0 (by rw[e];exact hy _)).trans e)
   ·exact .inr ((h1 (by rw[e];exact hy _)).trans e)
  rw[if_pos o4,if_pos o4']
 rw[if_neg o4] at hk ⊢
 by_cases o6:op=6
 ·have o5:¬((op=4∨op=5)∧(aH l' 0=kQ (decide (op=5))∨aH l' 1=kQ (decide (op=5)))):=by omega
  rw[if_pos o6] at hk ⊢
  rw[if_neg o5,if_pos o6]
  by_cases e:(aH l 1).known=true∧aH l 1=aH l 2
  ·have e1:=h1 e.1
   have e2:=h2 (by rw[←e.2];exact e.1)
   rw[if_pos e,e1,e2,if_pos e]
  ·rw[if_neg e] at hk;cases hk
 rw[if_neg o6] at hk ⊢
 by_cases ok:(aH l 0).known=false∨(aH l 1).known=false
 ·rw[if_pos ok] at hk;cases hk
 have k0:(aH l 0).known=true:=by cases e:(aH l 0).known<;>simp[e] at ok ⊢
 have k1:(aH l 1).known=true:=by cases e:(aH l 1).known<;>simp[e] at ok ⊢
 rw[h0 k0,h1 k1,if_neg o4,if_neg o6]
theorem TI:∀{L:Nat} {t:Tm} {k:Int} {cs cs':List Cell},CsLe cs cs'→aJ L t=(k,0)→CLe (aG L cs t) (aG L cs' t)
 |0,t,k,cs,cs',hc,h=>.no _
 |L+1,t,k,cs,cs',hc,h=>by
  obtain⟨hn,hk⟩:=wY h
  obtain⟨ha,_⟩:=xt h
  have ih:∀a,a∈t.args→CLe (aG L cs a) (aG L cs' a):=fun a hm=>TI hc (show aJ L a=((aJ L a).1,0) by rw[←ha a hm])
  have ir:∀(c:List Cell) a,a∈t.args→Rng (aJ L a).1 (aG L c a):=fun c a hm=>NM c (show aJ L a=((aJ L a).1,0) by rw[←ha a hm])
  have im:=CsLe.map ih
  rw[nm,nm]
  by_cases o0:t.op=0∨t.op=1
  ·rw[if_pos o0,if_pos o0];exact .rfl' _
  rw[if_neg o0,if_neg o0]
  by_cases o2:t.op=2
  ·rw[if_pos o2,if_pos o2];exact XW hc _
  rw[if_neg o2,if_neg o2]
  by_cases o6:t.op=6
  ·cases hn with
   |ite k h0 hk2=>
    obtain⟨a,b,c,hl,e1,e2,e3⟩:=aey hk2
    rw[hl] at ih ir im ⊢
    have r1:=ir cs' a (by simp)
    rw[e1] at r1
    have m1:=ih a (by simp)
    have m2:=ih b (by simp)
    have m3:=ih c (by simp)
    by_cases g:t.op=6∧(aH ([a,b,c].map (aG L cs)) 0).known=true
    ·have e:aH ([a,b,c].map (aG L cs')) 0=aH ([a,b,c].map (aG L cs)) 0:=im.2 0 g.2
     have g':t.op=6∧(aH ([a,b,c].map (aG L cs')) 0).known=true:=⟨g.1,by rw[e];exact g.2⟩
     rw[if_pos g,if_pos g',e]
     exact im.2 _
    rw[if_neg g]
    by_cases g':t.op=6∧(aH ([a,b,c].map (aG L cs')) 0).known=true
    ·rw[if_pos g']
     intro hkn
     unfold aS at hkn ⊢
     rw[if_neg (by omega),if_neg (by omega),if_pos o6] at hkn ⊢
     simp only[List.map_cons,List.map_nil,aH,List.getD_cons_zero,List.getD_cons_succ] at hkn g' ⊢
     by_cases e:(aG L cs b).known=true∧aG L cs b=aG L cs c
     ·rw[if_pos e]
      have q1:=m2 e.1
      have q2:=m3 (by rw[←e.2];exact e.1)
      rcases(r1.2 g'.2).1 rfl with h1|h1<;>rw[h1]
      ·show aG L cs' c=_
       rw[q2,e.2]
      ·show aG L cs' b=_
       exact q1
     ·rw[if_neg e] at hkn;cases hkn
    ·rw[if_neg g']
     exact Fw im _
   |_=>omega
  ·rw[if_neg (by omega),if_neg (by omega)]
   exact Fw im _
theorem Zy {cs cs':List Cell}(h:CsLe cs cs')(t:Tm):CLe (C4 cs t) (C4 cs' t):=by
 unfold C4
 by_cases e:(nw t).2=0
 ·rw[if_pos e,if_pos e]
  exact TI h (SU e).2
 ·rw[if_neg e]
  exact .no _
theorem Xo {cs cs':List Cell}(h:CsLe cs cs')(o:Order)(ask:Int):CLe (mD o ask cs).1 (mD o ask cs').1∧(mD o ask cs').2=(mD o ask cs).2:=by
 unfold mD
 by_cases e:(findF o ask).2≠0
 ·rw[if_pos e,if_pos e]
  exact⟨.rfl' _,rfl⟩
 rw[if_neg e,if_neg e]
 refine⟨?_,rfl⟩
 intro hk
 have hm:=Zy h (findF o ask).1
 simp only at hk ⊢
 cases e2:(C4 cs (findF o ask).1).known
 ·rw[e2] at hk
  simp[e2] at hk
 ·rw[hm e2,e2]
structure SameF (f g:File):Prop where
 bill:g.bill=f.bill
 signs:g.signs=f.signs
 alters:g.alters=f.alters
 acts:g.acts=f.acts
theorem SameF.at_ {f g:File}(h:SameF f g)(day:Int):SameF (atF f day) (atF g day):=by
 obtain⟨h1,h2,h3,h4⟩:=h
 constructor<;>simp[atF,h1,h2,h3,h4]
def la (c:Case)(g:File):Case:={c with file:=g}
theorem abq {c:Case}{g:File}(h:SameF c.file g)(r:Realm)(s:Sign)(i:Nat):aH (Cw r (la c g) s) i=
 if i=15 then bh g 0 c.sign else if i=16 then bh g 1 c.sign else if i=17 then bh g 2 c.sign else if i=18 then bh g 3 (ld c) else if i=19 then bh g 4 (ld c) else aH (Cw r c s) i:=by
 obtain⟨h1,h2,h3,h4⟩:=h
 have e:(Cw r (la c g) s)=(vS c s).map (fun p=>⟨true,p.2⟩)++(yq r c s).map (fun p=>kQ p.2)++
  [bh g 0 c.sign,bh g 1 c.sign,bh g 2 c.sign,bh g 3 (ld c),bh g 4 (ld c)]:=by
  simp[Cw,la,vS,yq,ld,T4,h1,h3,Og]
  exact⟨rfl,rfl,rfl,rfl⟩
 rw[e]
 unfold Cw vS yq
 rcases i with _|_|_|_|_|_|_|_|_|_|_|_|_|_|_|_|_|_|_|_|i<;>simp[aH]
theorem aa8 {c:Case}{g:File}(h:SameF c.file g)(r:Realm):(fP r (la c g)=[]↔fP r c=[]):=by
 obtain⟨h1,h2,h3,h4⟩:=h
 have e1:uh (la c g)=uh c:=by simp[uh,la,h2,ld];rfl
 unfold fP
 rw[e1]
 simp only[la,h2]
 split
 ·simp[Cw,vS]
 ·simp
def FLe (f g:File)(s h:Int):Prop:=(∀k,CLe (bh f k s) (bh g k s))∧(∀k,CLe (bh f k h) (bh g k h))
theorem abd {c:Case}{g:File}(h:SameF c.file g)(hf:FLe c.file g c.sign (ld c))(r:Realm):CsLe (fP r c) (fP r (la c g)):=by
 have e1:uh (la c g)=uh c:=by simp[uh,la,h.signs,ld];rfl
 unfold fP
 rw[e1]
 simp only[show(la c g).file.signs=c.file.signs from h.signs,show(la c g).sign=c.sign from rfl]
 split
 ·generalize c.file.signs.getD c.sign.toNat default=s
  refine⟨by simp[Cw,vS,yq],fun i=>?_⟩
  rw[abq h r s i]
  have hs:∀j,j=15∨j=16∨j=17∨j=18∨j=19∨(j≠15∧j≠16∧j≠17∧j≠18∧j≠19):=by omega
  rcases hs i with e|e|e|e|e|⟨a,b,c',d,e⟩
  ·subst e;exact hf.1 0
  ·subst e;exact hf.1 1
  ·subst e;exact hf.1 2
  ·subst e;exact hf.2 3
  ·subst e;exact hf.2 4
  ·rw[if_neg a,if_neg b,if_neg c',if_neg d,if_neg e];exact .rfl' _
 ·exact⟨rfl,fun i=>.rfl' _⟩
theorem VT {c:Case}{g:File}(h:SameF c.file g)(r:Realm)(forum:Int):cB r forum (la c g)=cB r forum c:=by
 obtain⟨h1,h2,h3,h4⟩:=h
 simp[cB,Qj,EW,la,kG,h1,h2]
theorem WY (c:Case)(g:File):ofF (la c g)=la (ofF c) (atF g c.day):=rfl
theorem adm (r:Realm)(forum q:Int){c:Case}{g:File}(h:SameF c.file g)(hf:FLe (atF c.file c.day) (atF g c.day) c.sign (ld c)):
 CLe (Sm r forum q c).cell (Sm r forum q (la c g)).cell∧(Sm r forum q (la c g)).err=(Sm r forum q c).err:=by
 have hs:=h.at_ c.day
 have hv:=abd (c:=ofF c) hs hf r
 have he:=aa8 (c:=ofF c) hs r
 have hp:=VT (c:=ofF c) hs r forum
 have e1:(bH r forum q (la c g)).1=(bH r forum q c).1:=by
  unfold bH
  rw[WY]
  rw[hp]
  by_cases e:fP r (ofF c)=[]
  ·rw[if_pos e,if_pos (he.2 e)]
  ·rw[if_neg e,if_neg (fun x=>e (he.1 x))]
   split
   ·rfl
   split
   ·rfl
   rfl
 have e2:CsLe (bH r forum q c).2 (bH r forum q (la c g)).2:=by
  unfold bH
  rw[WY]
  rw[hp]
  by_cases e:fP r (ofF c)=[]
  ·rw[if_pos e,if_pos (he.2 e)]
   exact⟨rfl,fun i=>.rfl' _⟩
  ·rw[if_neg e,if_neg (fun x=>e (he.1 x))]
   split
   ·exact⟨rfl,fun i=>.rfl' _⟩
   split
   ·exact⟨rfl,fun i=>.rfl' _⟩
   exact hv
 unfold Sm
 rw[e1]
 split
 ·exact⟨.rfl' _,rfl⟩
 ·exact Xo e2 _ _
theorem adP {a b:Said}(h:CLe a.cell b.cell)(he:b.err=a.err)(hn:MZ a≠2):MZ b=MZ a:=by
 unfold MZ at*
 rw[he]
 split
 ·rfl
 ·rename_i e
  rw[if_neg e] at hn
  cases hk:a.cell.known
  ·rw[hk] at hn;simp at hn
  ·rw[h hk,hk]
end Rm
namespace Rm
open Go Go.Proofs Cx
theorem aae (f:File)(day k s:Int):bh (atF f day) k s=if inB s (upS day f.signs).length=true then bh f k s else noC:=by
 unfold bh
 have h:(atF f day).facts.find? (jM k s)=if inB s (upS day f.signs).length=true then f.facts.find? (jM k s) else none:=by
  show(f.facts.filter (Dl (upS day f.signs).length)).find? (jM k s)=_
  generalize (upS day f.signs).length=n
  induction f.facts with
  |nil=>simp
  |cons x l ih=>
   by_cases hx:jM k s x=true
   ·have hs:x.at_=s:=by simp[jM] at hx;exact hx.2
    by_cases hn:inB s n=true
    ·have:Dl n x=true:=by unfold Dl;rw[hs];exact hn
     simp[List.filter_cons,this,hx,hn]
    ·have:¬Dl n x=true:=by unfold Dl;rw[hs];exact hn
     simp only[List.filter_cons,if_neg this,ih,if_neg hn]
   ·by_cases hn:Dl n x=true
    ·simp[List.filter_cons,hn,hx,ih]
    ·simp[List.filter_cons,hn,hx,ih]
 rw[h]
 by_cases hn:inB s (upS day f.signs).length=true
 ·rw[if_pos hn,if_pos hn]
 ·rw[if_neg hn,if_neg hn]
theorem SV (r:Realm)(forum q:Int){f g:File}(h:SameF f g)(day:Int):uf r forum q g day=uf r forum q f day:=by
 obtain⟨h1,h2,h3,h4⟩:=h
 unfold uf
 rw[show({g with facts:=[]}:File)={f with facts:=[]} by rw[h1,h2,h3,h4]]
theorem aba {f g:File}(h:SameF f g):x9 g=x9 f:=by
 obtain⟨h1,h2,h3,h4⟩:=h
 have e:Kd g=Kd f:=by funext a;unfold Kd;rw[h1]
 unfold x9 tO qJ
 rw[h4,h2,e,h1]
theorem adv (r:Realm)(forum:Int){f g:File}(h:SameF f g)(day:Int):R7 r forum g day=R7 r forum f day:=by
 have ha:=h.at_ day
 unfold R7
 rw[ha.signs,h.bill,aba ha,SV r forum 6 ha]
theorem Ws {f g:File}(h:SameF f g)(sign day:Int):xh g sign day=xh f sign day:=by
 unfold xh
 rw[h.signs,h.acts]
theorem adg {f g:File}(h:SameF f g)(sign:Int)(n:Nat):FF g sign n=FF f sign n:=by
 unfold FF
 rw[h.alters,h.bill]
def ei (v:View)(g:File):View:={v with file:=g}
theorem aak (r:Realm)(forum:Int){f g:File}(h:SameF f g)(day:Int):jG r forum g day=ei (jG r forum f day) (atF g day):=by
 have ha:=h.at_ day
 unfold jG ei
 rw[SV r forum 0 ha,adv r forum ha]
end Rm
namespace Rm
open Go Go.Proofs Cx
theorem abz {r:Realm}{f:File}(h:QE r f=true):f.facts.length≤220:=by
 unfold QE CN at h
 simp only[Bool.and_eq_true,decide_eq_true_eq] at h
 have:=h.1.1.2
 simp[aaK] at this
 omega
end Rm
namespace Rm
open Go Go.Proofs Cx
theorem R5 (f:File)(kind sign:Int)(hl:f.facts.length≤4294967295):Runs T O1 [aD f,.int kind,.int sign] (aI (bh f kind sign)):=by
 refine .of_tree rfl W3 P1 ?_
 simp[A6]
 refine .scan f.facts.length (fun k=>jM kind sign (f.facts.getD k default)=false) (fun k=>[.int k]) (fun _=>[aI noC]) ?_ (fun k hk hj ho=>?_) (fun k hk hj ho=>?_) (fun hj=>?_)
 ·simp
 ·have hw:=ar hk (by omega)
  simp[hk,jM] at ho
  by_cases h1:f.facts[k].kind=kind<;>by_cases h2:f.facts[k].at_=sign
  ·exact absurd h2 (ho h1)
  all_goals simp[iU,fZ,hk,hw,h1,h2]
 ·have hf:bh f kind sign=kQ (decide (f.facts[k].n≠0)):=by
   unfold bh
   rw[nk hk (by simpa [hk] using ho) (fun j hj'=>by have:=hj j hj';simpa [show j<f.facts.length by omega] using this)]
  simp[hk,jM] at ho
  by_cases hn:f.facts[k].n=0
  ·simp[iU,fZ,hk,ho,hf,hn]
   rfl
  ·simp[iU,fZ,hk,ho,hf,hn]
   rfl
 ·have hf:bh f kind sign=noC:=by
   unfold bh
   rw[mz (fun j hj'=>by have:=hj j hj';simpa [hj'] using this)]
  simp[iU,fZ,hf]
def ltF (x y:Fact):Bool:=decide (y.at_<x.at_)||(decide (y.at_=x.at_)&&decide (y.kind<x.kind))
def gtF (x y:Fact):Bool:=decide (x.at_<y.at_)||(decide (y.at_=x.at_)&&decide (x.kind<y.kind))
def FD (l:List Fact)(x:Fact):List Fact:=l.filter (ltF x)++[x]++l.filter (gtF x)
def tN (f:File)(x:Fact):File:=if(bh f x.kind x.at_).known=true then f else {f with facts:=FD f.facts x}
@[simp] theorem ajV (a0 a1 a2 a3 a4 a5 a6 a7 a8 a9 a10 a11 a12 a13 a14 a15 a16 a17 a18 x:D):aX [a0,a1,a2,a3,a4,a5,a6,a7,a8,a9,a10,a11,a12,a13,a14,a15,a16,a17,a18] 18 [x]=[a0,a1,a2,a3,a4,a5,a6,a7,a8,a9,a10,a11,a12,a13,a14,a15,a16,a17,x]:=_root_.id rfl
@[simp] theorem afQ:D.none.cells=[D.none]:=_root_.id rfl
theorem aa0 (f:File)(x:Fact)(hl:f.facts.length≤100000):Runs T OQ [aD f,om x] (aD (tN f x)):=by
 refine .of_tree rfl W9 Pb ?_
 simp[Aw]
 refine⟨_,R5 f x.kind x.at_ (by omega),?_⟩
 unfold tN
 cases hk:(bh f x.kind x.at_).known
 case true=>simp[hk]
 simp[hk]
 refine EvP.forRounds f.facts.length (fun k=>[.none,.int k]) (fun k=>[facts ((f.facts.take k).filter (ltF x))]) ?_ (fun k hk=>?_) ?_
 ·simp[facts]
 ·have hw:=ar hk (by omega)
  rw[lb (ltF x) f.facts hk]
  have hlen:((f.facts.take k).filter (ltF x)).length≤k:=Nat.le_trans (List.length_filter_le _ _) (by simp;omega)
  generalize (f.facts.take k).filter (ltF x)=A at*
  cases hd:ltF x f.facts[k]
  ·simp[ltF] at hd
   by_cases h2:f.facts[k].at_=x.at_
   ·simp[iY,fV,hk,hw,hd,h2]
    intro h
    have:=hd.2 h2
    omega
   ·simp[iY,fV,hk,hw,hd,h2]
    intro h
    omega
  ·simp[ltF] at hd
   simp[iY,fV,hk,hw,hd]
   exact⟨by omega,by simp[facts]⟩
 ·have hl1:=List.length_filter_le (ltF x) f.facts
  simp[iY,fV]
  refine⟨by omega,?_⟩
  refine EvP.forRounds f.facts.length (fun k=>[.none,.int k]) (fun k=>[facts (f.facts.filter (ltF x)++[x]++(f.facts.take k).filter (gtF x))]) ?_ (fun k hk=>?_) ?_
  ·simp[facts]
  ·have hw:=ar hk (by omega)
   rw[lb (gtF x) f.facts hk]
   have hlen:((f.facts.take k).filter (gtF x)).length≤k:=Nat.le_trans (List.length_filter_le _ _) (by simp;omega)
   generalize (f.facts.take k).filter (gtF x)=A at*
   generalize f.facts.filter (ltF x)=B at*
   cases hd:gtF x f.facts[k]
   ·simp[gtF] at hd
    by_cases h2:f.facts[k].at_=x.at_
    ·simp[ic,fX,hk,hw,hd,h2]
     intro h
     have:=hd.2 h2
     omega
    ·simp[ic,fX,hk,hw,hd,h2]
     intro h
     omega
   ·simp[gtF] at hd
    simp[ic,fX,hk,hw,hd]
    exact⟨by omega,by simp[facts]⟩
  ·simp[ic,fX]
   have e:f.facts.filter (ltF x)++x::f.facts.filter (gtF x)=FD f.facts x:=by unfold FD;simp
   have e2:f.facts.filter (ltF x)++[x]++f.facts.filter (gtF x)=FD f.facts x:=rfl
   simp only[e,e2]
   generalize FD f.facts x=L
   rfl
end Rm
namespace Rm
open Go Go.Proofs Cx
def IsI (d:D):Prop:=∃n:Int,d=.int n
@[simp] theorem ak8 (n:Int):IsI (.int n)=True:=eq_true ⟨n,rfl⟩
def IsB (d:D):Prop:=∃b:Bool,d=.bool b
@[simp] theorem akU (n:Bool):IsB (.bool n)=True:=eq_true ⟨n,rfl⟩
@[simp] theorem ajj (c:Prop)[Decidable c](x y:D):IsB (if c then x else y)=if c then IsB x else IsB y:=by split<;>rfl
theorem kZ (n m:Int):Runs T WJ [.int n,.int m] (.bool (inB n m)):=by
 refine .of_tree rfl abG TW ?_
 simp[J4]
 by_cases h:0≤n<;>simp[inB,h]
theorem KP (n m:Int):∃b,Runs T Pk [.int n,.int m] (.bool b):=by
 by_cases h:n=-1
 ·refine⟨true,.of_tree rfl Ku AW ?_⟩
  simp[ua,h]
 ·refine⟨inB n m,.of_tree rfl Ku AW ?_⟩
  simp[ua,h]
  exact kZ n m
theorem QB (n:Int):Runs T K0 [.int n] (.bool (uL n)):=by
 refine .of_tree rfl Vp LD ?_
 simp[wU]
 by_cases h:0≤n<;>simp[uL,h]
theorem Uj (b:Bill):∃d,Runs T K6 [aT b] d∧IsB d:=by
 refine Runs.ex_of_tree rfl U3 Mi ?_
 simp[wT]
theorem Sc (r:Realm)(a b:Int)(hl:r.usances.length≤100000):∃d,Runs T E0 [au r,.int a,.int b] d∧Two d:=by
 refine Runs.ex_of_tree rfl Sl HN ?_
 simp[vh]
 refine EvP.forLoop (α:=Nat) (fun k vr vo=>k≤r.usances.length∧vr=[.int 0,.int 0,.int k]∧vo=[]) (fun k=>r.usances.length-k) 0 ?_ ?_
 ·simp
 ·rintro k vr vo ⟨hk,rfl,rfl⟩
  by_cases hlt:k<r.usances.length
  ·have hw:=ar hlt (by omega)
   simp[sJ,ko,hlt,hw]
   intro _
   exact⟨k+1,by omega,by omega,by omega⟩
  ·simp[sJ,ko,hlt]
def Da:PT:=
 (.call ⟨[],[]⟩ [] 136 142 [(mkA 8 o2),(pc o3 9),(pc o3 10)] (.ret (.tget (.r 136) 1)))
def C1:PT:=
 (.call ⟨[(121,(.pick (.pick (plt (pc o3 13) (pi 0)) pT (pgt (pc o3 13) (pi 7))) pT (.pick (peq (pc o3 2) (pi (-1))) (pne (.ai .and .i64 (pc o3 13) (pi 4)) (pi 0)) pF)))],[]⟩ [(121,false)] 123 141 [(mkA 15 o3)] (.ite (.pick aiv pT (.nt ahY)) (.ret (pi 2)) (.ite (pne (pc o3 5) (pi 4)) (.ret (pi 0)) Da)))
def CL:PT:=
 (.call ⟨[(78,(.pick (plt (pc o3 3) (pi 1)) pT (pgt (pc o3 3) (pi 1099511627776))))],[]⟩ [(78,false)] 81 140 [(pc o3 8)] (.ite (.pick (.pick (.pick r78 pT (.nt r81)) pT (plt (pc o3 12) (pi 0))) pT (pgt (pc o3 12) (pi 1000))) (.ret (pi 3)) (.ite (.pick (plt (pc o3 14) (pi 1)) pT (pgt (pc o3 14) (pi 4))) (.ret (pi 15)) C1)))
def cX:PT:=
 (.call ⟨[(63,(.pick r56 pT (.nt r60)))],[]⟩ [(63,false)] 67 138 [(pc o3 10),r7] (.ite (.pick r63 pT (.nt r67)) (.ret (pi 1)) CL))
def dY:PT:=
 (.call ⟨[(56,(.pick r47 pT (.nt r53)))],[]⟩ [(56,false)] 60 138 [(pc o3 9),r7] cX)
def ga:PT:=
 (.call ⟨[(47,(.pick r40 pT (.nt r44)))],[]⟩ [(47,false)] 53 138 [(pc o3 4),(.llen (pc o2 0))] dY)
def jC:PT:=
 (.call ⟨[(40,(.pick r33 pT (.nt r37)))],[]⟩ [(40,false)] 44 139 [(pc o3 11),r6] ga)
def oB:PT:=
 (.call ⟨[(33,(.pick r26 pT (.nt r30)))],[]⟩ [(33,false)] 37 139 [(pc o3 2),r6] jC)
def uP:PT:=
 (.call ⟨[(26,(.nt r24))],[]⟩ [(26,false)] 30 138 [(pc o3 1),r6] oB)
def AJ:PT:=
 (.call ⟨[(7,(.llen (pc o2 1))),(6,(.llen (pc o2 3)))],[]⟩ [] 24 138 [(pc o3 0),(.llen (pc o2 3))] uP)
def zS:PT:=
 (.call ⟨[],[(3,(.mk [r1])),(2,(.mk [r0]))]⟩ [] 11 60 [(mkA 8 (.mk [r0]))] (.ite (pne r11 (pi 0)) (.ret r11) AJ))
theorem Jb:xG=zS:=rfl
theorem UN (r:Realm)(hr:RightD r)(b:Bill):∃d,Runs T KM [au r,aT b] d∧IsI d:=by
 refine Runs.ex_of_tree rfl T8 (tr_r10_Check_eq.trans Jb) ?_
 simp[zS]
 refine⟨_,z8 r hr.small,?_⟩
 by_cases h0:mM r=0
 case neg=>simp[h0]
 simp[h0]
 simp[AJ]
 refine⟨_,kZ _ _,?_⟩
 cases h1:inB b.drawer r.firms.length
 ·simp[uP,oB,jC,ga,dY,cX]
 simp[uP]
 refine⟨_,kZ _ _,?_⟩
 cases h2:inB b.drawee r.firms.length
 ·simp[oB,jC,ga,dY,cX]
 simp[oB]
 obtain⟨b1,hb1⟩:=KP b.payee r.firms.length
 refine⟨_,hb1,?_⟩
 cases b1
 ·simp[jC,ga,dY,cX]
 simp[jC]
 obtain⟨b2,hb2⟩:=KP b.need r.firms.length
 refine⟨_,hb2,?_⟩
 cases b2
 ·simp[ga,dY,cX]
 simp[ga]
 refine⟨_,kZ _ _,?_⟩
 cases h3:inB b.currency r.currencies.length
 ·simp[dY,cX]
 simp[dY]
 refine⟨_,kZ _ _,?_⟩
 cases h4:inB b.city r.cities.length
 ·simp[cX]
 simp[cX]
 refine⟨_,kZ _ _,?_⟩
 cases h5:inB b.pay r.cities.length
 ·simp
 simp[CL]
 by_cases g1:1≤b.sum∧b.sum≤1099511627776
 case neg=>
  rw[if_neg g1]
  intro a1 a2
  exact absurd ⟨a1,a2⟩ g1
 rw[if_pos g1]
 refine⟨_,QB b.day,?_⟩
 intro _ _ g2 _ _ _ _
 have g2:uL b.day=true:=g2
 simp[C1,g1,g2]
 by_cases g3:(0≤b.flags∧b.flags≤7)∧(¬b.payee=-1∨arI BinOp.and IntKind.i64 b.flags 4=0)
 case neg=>
  rw[if_neg g3]
  intro a1 a2 a3
  refine absurd ⟨⟨a1,a2⟩,?_⟩ g3
  by_cases hp:b.payee=-1
  ·exact .inr (a3 hp)
  ·exact .inl hp
 rw[if_pos g3]
 obtain⟨d,hd,b3,rfl⟩:=Uj b
 refine⟨_,hd,?_⟩
 intro _ _ _ _ _
 simp[Da]
 obtain⟨d,hd,n,e,rfl⟩:=Sc r b.city b.pay (by have:=hr.small.us;omega)
 refine⟨_,hd,?_⟩
 simp
end Rm
namespace Rm
open Go Go.Proofs Cx
theorem SG (f:File)(i part:Int)(h:0≤i∧i<f.signs.length):∃d,Runs T VD [aD f,.int i,.int part] d∧IsB d:=by
 refine Runs.ex_of_tree rfl aal Ut ?_
 have h1:i.toNat<f.signs.length:=by omega
 simp[IN,h,h1]
theorem aaB (n:Int)(m:Nat)(hm:m≤4294967296):Runs T wP [.int n,.int 0,.int (IntKind.i64.wrap ((m:Int)-1))] (.bool (inB n m)):=by
 rw[KB,ia hm]
 exact af _ _ _
def uV:PT:=
 (.call ⟨[(16,r15)],[]⟩ [(16,true)] 25 199 [(mkA 19 o2),r5,(pc (pn (pc o2 15) r1) 1)] (.ret (.pick r16 r25 pF)))
def CA:PT:=
 (.call ⟨[(5,(pc (pn (pc (.mk [r0]) 15) r1) 3))],[(2,(.mk [r0]))]⟩ [] 15 68 [(pc (pn (pc (.mk [r0]) 15) r1) 3),(pi 0),(aQ r1 (pi 1))] (.chk (.nt (.an (.an r15 pT) (.nt (pix (pc o2 15) r1)))) uV))
def CU:PT:=
 (.chk (pix (pc (.mk [r0]) 15) r1) CA)
theorem I2:xm=CU:=rfl
def ac3 (n:Int)(m:Nat)(d:D):Prop:=∃b:Bool,d=.bool b∧(b=true→0≤n∧n<m)
@[simp] theorem aj1 (n:Int)(m:Nat):ac3 n m (.bool false)=True:=eq_true ⟨false,rfl,fun h=>by cases h⟩
theorem acV {n:Int}{m:Nat}(b:Bool)(h:0≤n∧n<m):ac3 n m (.bool b):=⟨b,rfl,fun _=>h⟩
theorem T6 (f:File)(i:Int)(h:0≤i∧i<f.signs.length)(hl:f.signs.length≤100000):∃d,Runs T KS [aD f,.int i] d∧ac3 (kG f i).for_ f.signs.length d:=by
 refine Runs.ex_of_tree rfl U1 (tr_r12_backs_eq.trans I2) ?_
 have h1:i.toNat<f.signs.length:=by omega
 have hs:kG f i=f.signs[i.toNat]:=by simp[kG,h1]
 have hw:IntKind.i64.wrap (i-1)=i-1:=az (by omega)
 rw[hs]
 simp[CU,CA,h,h1,hw]
 refine⟨_,af _ _ _,?_⟩
 cases hb:wi f.signs[i.toNat].for_ 0 (i-1)
 ·simp[uV]
 ·have hin:0≤f.signs[i.toNat].for_∧f.signs[i.toNat].for_<f.signs.length:=by
   simp[wi] at hb
   omega
  obtain⟨d,hd,b,rfl⟩:=SG f f.signs[i.toNat].for_ f.signs[i.toNat].part hin
  simp[uV,h,h1]
  exact⟨_,hd,acV b hin⟩
def l6:PT:=
 (.call ⟨[(134,(.pick (.pick ah1 ag9 pF) (peq (pc o7 5) (pi 0)) pF))],[]⟩ [(134,true)] 137 68 [(pc o7 8),(pi 0),(pi 7)] (.ret (.pick (.pick (.r 134) (.r 137) pF) (.nt (.pick r9 r10 pF)) pF)))
def xA:PT:=
 (.call ⟨[(120,(.pick (pgt r2 (pi 0)) (peq (pc o7 3) (pi (-1))) pF)),(10,(peq (.ai .rem .i64 (.ai .quo .i64 (pc o7 8) (pi 4)) (pi 2)) (pi 1))),(9,(peq (.ai .rem .i64 (.ai .quo .i64 (pc o7 8) (pi 2)) (pi 2)) (pi 1)))],[]⟩ [(120,true)] 127 68 [(pc o7 4),(pi (-1)),(aQ (.llen (pc o3 3)) (pi 1))] l6)
def Hc:PT:=
 (.call ⟨[(165,(.pick (.pick (.pick (peq r2 (pi 0)) pT (pne (pc o7 4) (pi (-1)))) pT (pne (pc o7 5) (pi 0))) pT (pne (pc o7 8) (pi 0))))],[]⟩ [(165,false)] 168 198 [(mkA 19 o4),r2] (.ite (.pick (.r 165) pT (.nt (.r 168))) (.ret pF) (.chk (pix (pc o4 15) (pc o7 3)) (.ret (pne (pc (pn (pc o4 15) (pc o7 3)) 0) (pi 3))))))
def GJ:PT:=
 (.call ⟨[(205,(.pick (.pick (.pick (.pick (peq r2 (pi 0)) pT (pne (pc o7 4) (pi (-1)))) pT (.nt r8)) pT (pne (pc o7 8) (pi 0))) pT (peq (pc o7 2) (pc o4 1))))],[]⟩ [(205,false)] 208 198 [(mkA 19 o4),r2] (.ite (.pick (.r 205) pT (.nt (.r 208))) (.ret pF) (.chk (pix (pc o4 15) (pc o7 3)) (.chk (.nt (.an (.an (.nt (peq (pc (pn (pc o4 15) (pc o7 3)) 0) (pi 0))) pT) (.nt (pix (pc o4 15) (pc o7 3))))) (.ret (.pick (peq (pc (pn (pc o4 15) (pc o7 3)) 0) (pi 0)) pT (peq (pc (pn (pc o4 15) (pc o7 3)) 0) (pi 2))))))))
def Fe:PT:=
 (.call ⟨[],[(7,(.setc z9 0 (pn (pc (.mk [r1]) 15) r2))),(4,(.mk [r1])),(3,(.mk [r0]))]⟩ [] 18 68 [(pc (.setc z9 0 (pn (pc (.mk [r1]) 15) r2)) 5),(pi 1),(pi 1099511627776)] (.blockS ⟨[(20,(pc o7 0)),(8,r18)],[]⟩ 0 [6,21,22,71,72,101,102,146,147,179,180] [] (.iteS ⟨[],[]⟩ (peq r20 (pi 0)) [6,71,72,101,102,146,147,179,180] [] (.ret (.pick (.pick (.pick (.pick (.pick (.pick (.pick (peq r2 (pi 0)) (peq (pc o7 2) (pc o4 0)) pF) (peq (pc o7 3) (pi (-1))) pF) (peq (pc o7 4) (pi (-1))) pF) (peq (pc o7 5) (pi 0)) pF) (.pick (peq (pc o7 8) (pi 0)) pT (peq (pc o7 8) (pi 1))) pF) (peq (pc o7 1) (pi 0)) pF) (peq (pc o7 7) (pc o4 9)) pF)) (.iteS ⟨[],[]⟩ (peq r20 (pi 1)) [6,101,102,146,147,179,180] [] (.ret (.pick (.pick (.pick (.pick (.pick (pgt r2 (pi 0)) (peq (pc o7 2) (pc o4 1)) pF) (peq (pc o7 3) (pi (-1))) pF) (peq (pc o7 4) (pi (-1))) pF) r8 pF) (peq (pc o7 8) (pi 0)) pF)) (.iteS ⟨[],[]⟩ (peq r20 (pi 2)) [6,146,147,179,180] [] (.chk (pne (pi 2) (pi 0)) (.chk (pne (pi 4) (pi 0)) xA)) (.iteS ⟨[],[]⟩ (peq r20 (pi 3)) [6,179,180] [] Hc (.iteS ⟨[],[]⟩ (peq r20 (pi 4)) [6] [] GJ (.next ⟨[],[]⟩) (.next ⟨[],[]⟩)) (.next ⟨[],[]⟩)) (.next ⟨[],[]⟩)) (.next ⟨[],[]⟩)) (.next ⟨[],[]⟩)) (.ret pF)))
def Hp:PT:=
 (.chk (pix (pc (.mk [r1]) 15) r2) Fe)
theorem Mw:zq=Hp:=rfl
theorem VI (r:Realm)(hr:Small r)(f:File)(i:Int)(h:0≤i∧i<f.signs.length)(hl:f.signs.length≤100000):∃d,Runs T P8 [au r,aD f,.int i] d∧IsB d:=by
 refine Runs.ex_of_tree rfl Xm (tr_r12_Fits_eq.trans Mw) ?_
 have h1:i.toNat<f.signs.length:=by omega
 have hfi:=hr.firms
 have hw:IntKind.i64.wrap ((r.firms.length:Int)-1)=r.firms.length-1:=az (by omega)
 obtain⟨db,hdb,bb,rfl,hbk⟩:=T6 f i h hl
 have hs:kG f i=f.signs[i.toNat]:=by simp[kG,h1]
 rw[hs] at hbk
 simp[Hp,h]
 simp[Fe,h,h1]
 refine⟨_,af _ _ _,?_⟩
 generalize wi f.signs[i.toNat].sum 1 1099511627776=w1
 by_cases k0:f.signs[i.toNat].kind=0
 ·simp[k0]
 by_cases k1:f.signs[i.toNat].kind=1
 ·simp[k0,k1]
 by_cases k2:f.signs[i.toNat].kind=2
 ·simp[k0,k1,k2]
  by_cases g:0<i∧f.signs[i.toNat].for_=-1
  ·simp[xA,h,h1,hw,g]
   refine⟨_,af _ _ _,?_⟩
   cases hb:wi f.signs[i.toNat].to (-1) ((r.firms.length:Int)-1)
   ·simp[l6,h,h1,g]
   ·by_cases g2:f.signs[i.toNat].sum=0
    ·simp[l6,h,h1,g,g2]
     exact⟨_,af _ _ _⟩
    ·simp[l6,h,h1,g,g2]
  ·simp[xA,l6,h,h1,hw,g]
 by_cases k3:f.signs[i.toNat].kind=3
 ·simp[k0,k1,k2,k3]
  simp[Hc,h,h1]
  split
  ·exact⟨_,hdb,fun _ _ _ _ hb=>hbk hb⟩
  ·rename_i g
   exact fun a b c d _=>absurd ⟨⟨⟨a,b⟩,c⟩,d⟩ g
 by_cases k4:f.signs[i.toNat].kind=4
 ·simp[k0,k1,k2,k3,k4]
  simp[GJ,h,h1]
  split
  ·exact⟨_,hdb,fun _ _ _ _ _ hb=>⟨hbk hb,.inr (hbk hb)⟩⟩
  ·rename_i g
   exact fun a b c d e _=>absurd ⟨⟨⟨⟨a,b⟩,c⟩,d⟩,e⟩ g
 simp[k0,k1,k2,k3,k4]
end Rm
namespace Rm
open Go Go.Proofs Cx
def vt (b:Nat→PC):PT:=
 (.call ⟨[],[]⟩ [] 70 143 [(mkA 8 o3),(mkA 19 o4),r2] (.ite (.nt r70) (.ret (pi 14)) (.brk ⟨[(8,(pi 0))],[]⟩ (sr b) (.ret (pi 0)))))
def vd (b:Nat→PC):PT:=
 (.call ⟨[(30,(.nt r28))],[]⟩ [(30,false)] 37 68 [(pc o7 7),(pi 0),(aQ (.llen (pc o3 1)) (pi 1))] (.ite (.pick r30 pT (.nt r37)) (.ret (pi 1)) (.ite (.pick (.pick (peq r2 (pi 0)) (pne (pc o7 6) (pc o4 8)) pF) pT (pgt (pc o7 6) (pi 100000))) (.ret (pi 13)) (.ite (pgt r2 (pi 0)) (.chk (pix (pc o4 15) (aQ r2 (pi 1))) (.ite (plt (pc o7 6) (pc (pn (pc o4 15) (aQ r2 (pi 1))) 6)) (.ret (pi 13)) (vt b))) (vt b)))))
def CH (b:Nat→PC):PT:=
 (.call ⟨[],[]⟩ [] 28 68 [(pc o7 2),(pi 0),(aQ (.llen (pc o3 3)) (pi 1))] (vd b))
def CD (b:Nat→PC):PT:=
 (.call ⟨[(6,(pi 0))],[(7,(.setc z9 0 (pn (pc (.mk [r1]) 15) r2))),(4,(.mk [r1])),(3,(.mk [r0]))]⟩ [] 20 68 [(pc (.setc z9 0 (pn (pc (.mk [r1]) 15) r2)) 1),(pi 0),(aQ (pc (.mk [r1]) 14) (pi 1))] (.ite (.nt r20) (.ret (pi 15)) (CH b)))
def CI (b:Nat→PC):PT:=
 (.chk (pix (pc (.mk [r1]) 15) r2) (CD b))
theorem HE (b:Nat→PC):xF b=CI b:=rfl
theorem Ur (r:Realm)(hr:Small r)(f:File)(i:Int)(h:0≤i∧i<f.signs.length)(hl:f.signs.length≤100000):∃d,Runs T J7 [au r,aD f,.int i] d∧IsI d:=by
 refine Runs.ex_of_tree rfl UB (tr_r12_signs_eq.trans (HE _)) ?_
 have h1:i.toNat<f.signs.length:=by omega
 have hw:IntKind.i64.wrap (i-1)=i-1:=az (by omega)
 obtain⟨dF,hdF,bF,rfl⟩:=VI r hr f i h hl
 simp[CI,h]
 simp[CD,h,h1]
 refine⟨_,af _ _ _,?_⟩
 generalize wi f.signs[i.toNat].part 0 (IntKind.i64.wrap (f.bill.parts-1))=w1
 cases w1
 ·simp
 simp[CH,h,h1]
 refine⟨_,af _ _ _,?_⟩
 generalize wi f.signs[i.toNat].who 0 (IntKind.i64.wrap ((r.firms.length:Int)-1))=w2
 cases w2
 ·simp[vd,h,h1]
 simp[vd,h,h1]
 refine⟨_,af _ _ _,?_⟩
 generalize wi f.signs[i.toNat].city 0 (IntKind.i64.wrap ((r.cities.length:Int)-1))=w3
 cases w3
 ·simp
 simp
 intro _ _
 have hi1:(i-1).toNat<f.signs.length:=by omega
 split
 case' isTrue=>
  rw[hw]
  refine⟨by omega,fun _=>?_⟩
 all_goals
  simp[vt]
  refine⟨_,hdF,?_⟩
  cases bF
  ·simp
  simp
  refine EvP.forLoop (α:=Nat) (fun k vr vo=>(k:Int)≤i∧vr=[.int 0,.int k]∧vo=[]) (fun k=>i.toNat-k) 0 ?_ ?_
  ·simp[h]
  ·rintro k vr vo ⟨hk,rfl,rfl⟩
   by_cases hlt:(k:Int)<i
   ·have hkl:k<f.signs.length:=by omega
    have hwk:=ar hkl (by omega)
    by_cases hkd:f.signs[i.toNat].kind=1
    ·simp[lN,gW,hlt,hkl,hwk,hkd,h1,h]
     exact fun _=>⟨k+1,by omega,by omega,by omega⟩
    ·simp[lN,gW,hlt,hkl,hwk,hkd,h1,h]
   ·simp[lN,gW,hlt]
def C6:PT:=
 (.call ⟨[],[]⟩ [] 42 199 [(mkA 19 o4),(pc o5 4),(pc o5 3)] (.next ⟨[(9,r42)],[]⟩))
def CX:PT:=
 (.call ⟨[(8,r28)],[]⟩ [] 35 68 [(pc o5 4),(pi 0),(aQ (.llen (pc o4 15)) (pi 1))] (.iteS ⟨[(9,r35)],[]⟩ r35 [9] [] C6 (.next ⟨[],[]⟩) (.ite r9 (.chk (pix (pc o4 15) (pc o5 4)) (.ite (.pick (peq (pc o5 0) (pi 0)) (peq (pc o5 0) (pi 0)) (.pick (peq (pc o5 0) (pi 1)) (peq (pc o5 0) (pi 1)) (peq (pc o5 0) (pi 2)))) (.ret (.pick (.pick (.pick r7 (peq (pc o5 4) (pi (-1))) pF) (peq (pc o5 5) (pi 0)) pF) (peq (pc o5 8) (pi 0)) pF)) (.ite (.pick (peq (pc o5 0) (pi 3)) (peq (pc o5 0) (pi 3)) (peq (pc o5 0) (pi 5))) (.ret (.pick (.pick (.pick r7 (peq (pc o5 4) (pi (-1))) pF) r8 pF) (peq (pc o5 8) (pi 0)) pF)) (.ite (peq (pc o5 0) (pi 4)) (.ret (.pick (.pick (.pick r7 (peq (pc o5 4) (pi (-1))) pF) r8 pF) (.pick (peq (pc o5 8) (pi 0)) pT (peq (pc o5 8) (pi 1))) pF)) (.ite (peq (pc o5 0) (pi 6)) (.ret (.pick (.pick (.pick (.pick r7 (peq (pc (pn (pc o4 15) (pc o5 4)) 2) (pc o5 1)) pF) r8 pF) (pgt (pc o5 5) (pi 0)) pF) (peq (pc o5 8) (pi 0)) pF)) (.ite (peq (pc o5 0) (pi 9)) (.ret (.pick (.pick (.pick (peq (pc o5 2) (pi (-1))) (peq (pc (pn (pc o4 15) (pc o5 4)) 2) (pc o5 1)) pF) (peq (pc o5 5) (pi 0)) pF) (peq (pc o5 8) (pi 0)) pF)) (.ite (.pick (peq (pc o5 0) (pi 7)) (peq (pc o5 0) (pi 7)) (peq (pc o5 0) (pi 8))) (.ret (.pick (.pick (.pick (peq (pc o5 2) (pi (-1))) r9 pF) (peq (pc o5 5) (pi 0)) pF) (peq (pc o5 8) (pi 0)) pF)) (.ret pF)))))))) (.ite (.pick (peq (pc o5 0) (pi 0)) (peq (pc o5 0) (pi 0)) (.pick (peq (pc o5 0) (pi 1)) (peq (pc o5 0) (pi 1)) (peq (pc o5 0) (pi 2)))) (.ret (.pick (.pick (.pick r7 (peq (pc o5 4) (pi (-1))) pF) (peq (pc o5 5) (pi 0)) pF) (peq (pc o5 8) (pi 0)) pF)) (.ite (.pick (peq (pc o5 0) (pi 3)) (peq (pc o5 0) (pi 3)) (peq (pc o5 0) (pi 5))) (.ret (.pick (.pick (.pick r7 (peq (pc o5 4) (pi (-1))) pF) r8 pF) (peq (pc o5 8) (pi 0)) pF)) (.ite (peq (pc o5 0) (pi 4)) (.ret (.pick (.pick (.pick r7 (peq (pc o5 4) (pi (-1))) pF) r8 pF) (.pick (peq (pc o5 8) (pi 0)) pT (peq (pc o5 8) (pi 1))) pF)) (.ite (peq (pc o5 0) (pi 6)) (.ret (.pick (.pick (.pick (.pick r7 pF pF) r8 pF) (pgt (pc o5 5) (pi 0)) pF) (peq (pc o5 8) (pi 0)) pF)) (.ite (peq (pc o5 0) (pi 9)) (.ret (.pick (.pick (.pick (peq (pc o5 2) (pi (-1))) pF pF) (peq (pc o5 5) (pi 0)) pF) (peq (pc o5 8) (pi 0)) pF)) (.ite (.pick (peq (pc o5 0) (pi 7)) (peq (pc o5 0) (pi 7)) (peq (pc o5 0) (pi 8))) (.ret (.pick (.pick (.pick (peq (pc o5 2) (pi (-1))) r9 pF) (peq (pc o5 5) (pi 0)) pF) (peq (pc o5 8) (pi 0)) pF)) (.ret pF))))))))))
def CQ:PT:=
 (.call ⟨[(7,r25)],[]⟩ [] 28 68 [(pc o5 5),(pi 0),(pi 1099511627776)] CX)
def CG:PT:=
 (.call ⟨[],[]⟩ [] 25 68 [(pc o5 2),(pi 0),(aQ (.llen (pc o3 3)) (pi 1))] CQ)
def CK:PT:=
 (.call ⟨[],[(5,(.mk [r2])),(4,(.mk [r1])),(3,(.mk [r0]))]⟩ [] 17 68 [(pc (.mk [r2]) 1),(pi 0),(aQ (.llen (pc (.mk [r0]) 3)) (pi 1))] (.ite (.nt r17) (.ret pF) CG))
theorem JD:xn=CK:=rfl
def abJ (n:Int)(m:Nat)(d:D):Prop:=∃b:Bool,d=.bool b∧(b=true→n<m)
theorem UH {n:Int}{m:Nat}(b:Bool)(h:b=true→n<m):abJ n m (.bool b):=⟨b,rfl,h⟩
@[simp] theorem ak1 (n:Int)(m:Nat):abJ n m (.bool false)=True:=eq_true ⟨false,rfl,fun h=>by cases h⟩
@[simp] theorem ag8 (n:Int)(m:Nat)(c:Prop)[Decidable c](x y:D):abJ n m (if c then x else y)=if c then abJ n m x else abJ n m y:=by split<;>rfl
theorem Uf (r:Realm)(hr:Small r)(f:File)(a:Act)(hl:f.signs.length≤100000):∃d,Runs T Kp [au r,aD f,gj a] d∧abJ a.at_ f.signs.length d:=by
 refine Runs.ex_of_tree rfl TY (tr_r12_Acted_eq.trans JD) ?_
 have hin:=aaB a.at_ f.signs.length (by omega)
 simp[CK]
 refine⟨_,af _ _ _,?_⟩
 generalize wi a.who 0 (IntKind.i64.wrap ((r.firms.length:Int)-1))=w1
 cases w1
 ·simp
 simp[CG]
 refine⟨_,af _ _ _,?_⟩
 generalize wi a.to 0 (IntKind.i64.wrap ((r.firms.length:Int)-1))=w2
 simp[CQ]
 refine⟨_,af _ _ _,?_⟩
 generalize wi a.sum 0 1099511627776=w3
 simp[CX]
 refine⟨_,hin,?_⟩
 cases hb:inB a.at_ f.signs.length
 ·simp
  repeat' split
  all_goals intros
  all_goals exact UH _ (fun _=>by omega)
 ·have hat:0≤a.at_∧a.at_<f.signs.length:=by simpa [inB] using hb
  have hat':a.at_.toNat<f.signs.length:=by omega
  simp[C6]
  obtain⟨d,hd,b,rfl⟩:=SG f a.at_ a.part hat
  refine⟨_,hd,?_⟩
  cases b
  ·simp[hat,hat']
   repeat' split
   all_goals intros
   all_goals exact UH _ (fun _=>hat.2)
  ·simp[hat,hat']
   repeat' split
   all_goals intros
   all_goals exact UH _ (fun _=>hat.2)
def GI:PT:=
 (.call ⟨[],[]⟩ [] 38 144 [(mkA 8 o3),(mkA 19 o4),(mkA 9 o7)] (.ite (.nt r38) (.ret (pi 14)) (.ite (.pick (plt (pc o7 6) (pc o4 8)) pT (pgt (pc o7 6) (pi 100000))) (.ret (pi 13)) (.ite (pge (pc o7 4) (pi 0)) (.chk (pix (pc o4 15) (pc o7 4)) (.ite (plt (pc o7 6) (pc (pn (pc o4 15) (pc o7 4)) 6)) (.ret (pi 13)) (.ite (pgt r2 (pi 0)) (.chk (pix (pc o4 17) (aQ r2 (pi 1))) (.ite (plt (pc o7 6) (pc (pn (pc o4 17) (aQ r2 (pi 1))) 6)) (.ret (pi 13)) (.ret (pi 0)))) (.ret (pi 0))))) (.ite (pgt r2 (pi 0)) (.chk (pix (pc o4 17) (aQ r2 (pi 1))) (.ite (plt (pc o7 6) (pc (pn (pc o4 17) (aQ r2 (pi 1))) 6)) (.ret (pi 13)) (.ret (pi 0)))) (.ret (pi 0)))))))
def xI:PT:=
 (.call ⟨[(29,(.nt r27))],[]⟩ [(29,false)] 32 68 [(pc o7 0),(pi 0),(pi 9)] (.ite (.pick r29 pT (.nt r32)) (.ret (pi 1)) GI))
def GZ:PT:=
 (.call ⟨[],[]⟩ [] 27 68 [(pc o7 7),(pi 0),(aQ (.llen (pc o3 1)) (pi 1))] xI)
def FB:PT:=
 (.call ⟨[],[(7,(.setc z9 0 (pn (pc (.mk [r1]) 17) r2))),(4,(.mk [r1])),(3,(.mk [r0]))]⟩ [] 19 68 [(pc (.setc z9 0 (pn (pc (.mk [r1]) 17) r2)) 3),(pi 0),(aQ (pc (.mk [r1]) 14) (pi 1))] (.ite (.nt r19) (.ret (pi 15)) GZ))
def EZ:PT:=
 (.chk (pix (pc (.mk [r1]) 17) r2) FB)
theorem LP:zr=EZ:=rfl
theorem WK (r:Realm)(hr:Small r)(f:File)(i:Int)(h:0≤i∧i<f.acts.length)(hl:f.signs.length≤100000)(hla:f.acts.length≤100000):∃d,Runs T PR [au r,aD f,.int i] d∧IsI d:=by
 refine Runs.ex_of_tree rfl WI (tr_r12_acts_eq.trans LP) ?_
 have h1:i.toNat<f.acts.length:=by omega
 have hw:IntKind.i64.wrap (i-1)=i-1:=az (by omega)
 obtain⟨dA,hdA,bA,rfl,hA⟩:=Uf r hr f f.acts[i.toNat] hl
 simp[EZ,h]
 simp[FB,h,h1]
 refine⟨_,af _ _ _,?_⟩
 generalize wi f.acts[i.toNat].part 0 (IntKind.i64.wrap (f.bill.parts-1))=w1
 cases w1
 ·simp
 simp[GZ,h,h1]
 refine⟨_,af _ _ _,?_⟩
 generalize wi f.acts[i.toNat].city 0 (IntKind.i64.wrap ((r.cities.length:Int)-1))=w2
 cases w2
 ·simp[xI,h,h1]
 simp[xI,h,h1]
 refine⟨_,af _ _ _,?_⟩
 generalize wi f.acts[i.toNat].kind 0 9=w3
 cases w3
 ·simp
 simp[GI,h,h1]
 refine⟨_,hdA,?_⟩
 cases bA
 ·simp
 have hA:=hA rfl
 simp
 intro _ _
 split
 ·rename_i hp
  exact⟨⟨hp,hA⟩,fun _ hi=>by rw[hw];omega⟩
 ·intro hi
  rw[hw]
  omega
def oE:PT:=
 (.call ⟨[(26,(.pick r16 pT (.nt r23)))],[]⟩ [(26,false)] 29 68 [(pc o5 2),(pi 0),(pi 1)] (.ite (.pick r26 pT (.nt r29)) (.ret (pi 1)) (.ite (pgt r1 (pi 0)) (.chk (pix (pc o2 18) (aQ r1 (pi 1))) (.ite (.pick (pgt (pc (.setc z3 0 (pn (pc o2 18) (aQ r1 (pi 1)))) 1) (pc o5 1)) pT (.pick (peq (pc (.setc z3 0 (pn (pc o2 18) (aQ r1 (pi 1)))) 1) (pc o5 1)) (pge (pc (.setc z3 0 (pn (pc o2 18) (aQ r1 (pi 1)))) 0) (pc o5 0)) pF)) (.ret (pi 5)) (.ret (pi 0)))) (.ret (pi 0)))))
def vw:PT:=
 (.call ⟨[(16,(.nt r14))],[]⟩ [(16,false)] 23 68 [(pc o5 1),(pi 0),(aQ (.llen (pc o2 15)) (pi 1))] oE)
def C8:PT:=
 (.call ⟨[],[(5,(.setc z3 0 (pn (pc (.mk [r0]) 18) r1))),(2,(.mk [r0]))]⟩ [] 14 68 [(pc (.setc z3 0 (pn (pc (.mk [r0]) 18) r1)) 0),(pi 0),(pi 4)] vw)
def Co:PT:=
 (.chk (pix (pc (.mk [r0]) 18) r1) C8)
theorem IK:xp=Co:=rfl
theorem TN (f:File)(i:Int)(h:0≤i∧i<f.facts.length)(hl:f.facts.length≤100000):∃d,Runs T K7 [aD f,.int i] d∧IsI d:=by
 refine Runs.ex_of_tree rfl TZ (tr_r12_facts_eq.trans IK) ?_
 have h1:i.toNat<f.facts.length:=by omega
 have hw:IntKind.i64.wrap (i-1)=i-1:=az (by omega)
 simp[Co,h]
 simp[C8,h,h1]
 refine⟨_,af _ _ _,?_⟩
 generalize wi f.facts[i.toNat].kind 0 4=w1
 cases w1
 ·simp[vw,oE]
 simp[vw,h,h1]
 refine⟨_,af _ _ _,?_⟩
 generalize wi f.facts[i.toNat].at_ 0 (IntKind.i64.wrap ((f.signs.length:Int)-1))=w2
 cases w2
 ·simp[oE,h,h1]
 simp[oE,h,h1]
 refine⟨_,af _ _ _,?_⟩
 generalize wi f.facts[i.toNat].n 0 1=w3
 cases w3
 ·simp
 simp
 intro hi
 rw[hw]
 omega
theorem UG (r:Realm)(hr:RightD r)(f:File)(hf:FewS f):∃d,Runs T KY [au r,aD f] d∧IsI d:=by
 refine Runs.ex_of_tree rfl Ua Mh ?_
 simp[xo]
 intro _ _ _ _
 obtain⟨d,hd,n,rfl⟩:=UN r hr f.bill
 refine⟨_,hd,?_⟩
 have h1:=hf.signs
 have h2:=hf.alters
 have h3:=hf.acts
 have h4:=hf.facts
 refine EvP.forLoop (α:=Nat×Int) (fun s vr vo=>s.1≤f.signs.length∧vr=[.int s.2,.int s.1]∧vo=[]) (fun s=>f.signs.length-s.1) (0,if n=0∧f.signs=[] then 14 else n) ?_ ?_
 ·simp
  split<;>rfl
 rintro⟨k,e⟩ vr vo ⟨hk,rfl,rfl⟩
 simp only at*
 by_cases hlt:k<f.signs.length∧e=0
 ·have hw:=ar hlt.1 (by omega)
  obtain⟨d,hd,n,rfl⟩:=Ur r hr.small f k (by omega) (by omega)
  simp[uj,mw,hlt,hw]
  refine⟨_,hd,?_⟩
  exact⟨k+1,by omega,by omega,⟨n,rfl⟩,by omega⟩
 simp[uj,mw,hlt]
 clear hlt hk hd
 generalize D.bool (decide (k<f.signs.length))=b1
 generalize (if k<f.signs.length then D.bool (decide (e=0)) else D.bool false)=b2
 refine EvP.forLoop (α:=Nat×Int) (fun s vr vo=>s.1≤f.alters.length∧vr=[.int s.2,.int s.1]∧vo=[]) (fun s=>f.alters.length-s.1) (0,e) ?_ ?_
 ·simp
 rintro⟨j,e2⟩ vr vo ⟨hj,rfl,rfl⟩
 simp only at*
 by_cases hlt:j<f.alters.length∧e2=0
 ·have hw:=ar hlt.1 (by omega)
  have hj1:=hlt.1
  by_cases hj0:0<j
  ·have hw1:IntKind.i64.wrap ((j:Int)-1)=j-1:=az (by omega)
   have hj2:((j:Int)-1).toNat<f.alters.length:=by omega
   simp[mB,gO,hlt,hw,hj0,hw1,hj2]
   refine⟨by omega,_,af _ _ _,?_⟩
   split
   ·refine⟨_,af _ _ _,j+1,by omega,by omega,?_,by omega⟩
    split
    ·exact⟨3,rfl⟩
    ·exact⟨0,rfl⟩
   ·exact⟨j+1,by omega,by omega,by omega⟩
  ·simp[mB,gO,hlt,hw,hj0]
   refine⟨_,af _ _ _,?_⟩
   split
   ·refine⟨_,af _ _ _,j+1,by omega,by omega,?_,by omega⟩
    split
    ·exact⟨3,rfl⟩
    ·exact⟨0,rfl⟩
   ·exact⟨j+1,by omega,by omega,by omega⟩
 simp[mB,gO,hlt]
 clear hlt hj
 generalize D.bool (decide (j<f.alters.length))=b3
 generalize (if j<f.alters.length then D.bool (decide (e2=0)) else D.bool false)=b4
 refine EvP.forLoop (α:=Nat×Int) (fun s vr vo=>s.1≤f.acts.length∧vr=[.int s.2,.int s.1]∧vo=[]) (fun s=>f.acts.length-s.1) (0,e2) ?_ ?_
 ·simp
 rintro⟨i,e3⟩ vr vo ⟨hi,rfl,rfl⟩
 simp only at*
 by_cases hlt:i<f.acts.length∧e3=0
 ·have hw:=ar hlt.1 (by omega)
  obtain⟨d,hd,n,rfl⟩:=WK r hr.small f i (by omega) (by omega) (by omega)
  simp[ue,lU,hlt,hw]
  refine⟨_,hd,?_⟩
  exact⟨i+1,by omega,by omega,⟨n,rfl⟩,by omega⟩
 simp[ue,lU,hlt]
 clear hlt hi
 generalize D.bool (decide (i<f.acts.length))=b5
 generalize (if i<f.acts.length then D.bool (decide (e3=0)) else D.bool false)=b6
 refine EvP.forLoop (α:=Nat×Int) (fun s vr vo=>s.1≤f.facts.length∧vr=[.int s.2,.int s.1]∧vo=[]) (fun s=>f.facts.length-s.1) (0,e3) ?_ ?_
 ·simp
 rintro⟨m,e4⟩ vr vo ⟨hm,rfl,rfl⟩
 simp only at*
 by_cases hlt:m<f.facts.length∧e4=0
 ·have hw:=ar hlt.1 (by omega)
  obtain⟨d,hd,n,rfl⟩:=TN f m (by omega) (by omega)
  simp[uC,mU,hlt,hw]
  refine⟨_,hd,?_⟩
  exact⟨m+1,by omega,by omega,⟨n,rfl⟩,by omega⟩
 simp[uC,mU,hlt]
end Rm
namespace Rm
open Go Go.Proofs Cx
theorem La {α:Type}{p q:α→Bool}(h:∀y,p y=true→q y=true)(l:List α):(l.filter q).find? p=l.find? p:=by
 induction l with
 |nil=>rfl
 |cons y l ih=>
  cases hq:q y
  ·have hp:p y=false:=by
        cases e:p y
        ·rfl
        ·rw[h y e] at hq;cases hq
   rw[List.filter_cons,if_neg (by simp[hq]),ih,List.find?_cons,hp]
  ·rw[List.filter_cons,if_pos hq,List.find?_cons,List.find?_cons,ih]
theorem zK {α:Type}{p q:α→Bool}(h:∀y,p y=true→q y=false)(l:List α):(l.filter q).find? p=none:=by
 rw[List.find?_eq_none]
 intro y hy hp
 have:=(List.mem_filter.mp hy).2
 rw[h y hp] at this
 cases this
theorem aaG (f:File)(x:Fact):SameF f (tN f x):=by
 unfold tN
 split<;>exact⟨rfl,rfl,rfl,rfl⟩
theorem aeh (f:File)(x:Fact)(k s:Int):CLe (bh f k s) (bh (tN f x) k s):=by
 unfold tN
 by_cases hk:(bh f x.kind x.at_).known=true
 ·rw[if_pos hk];exact .rfl' _
 rw[if_neg hk]
 by_cases e:k=x.kind∧s=x.at_
 ·obtain⟨rfl,rfl⟩:=e
  intro h
  exact absurd h hk
 ·intro _
  have hx:jM k s x=false:=by
   cases h:jM k s x
   ·rfl
   ·simp[jM] at h
    exact absurd ⟨h.1.symm,h.2.symm⟩ e
  have hf:(FD f.facts x).find? (jM k s)=f.facts.find? (jM k s):=by
   unfold FD
   rw[List.append_assoc,List.find?_append,List.find?_append]
   have h1:[x].find? (jM k s)=none:=by simp[hx]
   rw[h1]
   have key:∀y,jM k s y=true→y.kind=k∧y.at_=s:=fun y hy=>by simpa [jM] using hy
   by_cases hlt:s<x.at_∨(s=x.at_∧k<x.kind)
   ·rw[La (q:=ltF x) (fun y hy=>by obtain⟨rfl,rfl⟩:=key y hy;simpa [ltF] using hlt),zK (q:=gtF x) (fun y hy=>by obtain⟨rfl,rfl⟩:=key y hy;simp[gtF];omega)]
    cases f.facts.find? (jM k s)<;>rfl
   ·rw[zK (q:=ltF x) (fun y hy=>by obtain⟨rfl,rfl⟩:=key y hy;simp[ltF];omega),La (q:=gtF x) (fun y hy=>by obtain⟨rfl,rfl⟩:=key y hy;simp[gtF];omega)]
    rfl
  unfold bh
  rw[hf]
theorem aao (l:List Fact)(x:Fact):(FD l x).length≤l.length+1:=by
 have h:(l.filter (ltF x)).length+(l.filter (gtF x)).length≤l.length:=by
  induction l with
  |nil=>simp
  |cons y l ih=>
   have hd:¬(ltF x y=true∧gtF x y=true):=by simp[ltF,gtF];omega
   cases h1:ltF x y<;>cases h2:gtF x y<;>simp[h1,h2] at hd ⊢<;>omega
 unfold FD
 simp
 omega
theorem adz (f:File)(x:Fact):(tN f x).facts.length≤f.facts.length+1:=by
 unfold tN
 split
 ·omega
 ·exact aao _ _
def Po (f:File)(l:List Fact):File:=l.foldl tN f
structure MoreF (f g:File):Prop where
 same:SameF f g
 le:∀k s,CLe (bh f k s) (bh g k s)
theorem MoreF.rfl' (f:File):MoreF f f:=⟨⟨rfl,rfl,rfl,rfl⟩,fun _ _=>.rfl' _⟩
theorem MoreF.with_ {f g:File}(h:MoreF f g)(x:Fact):MoreF f (tN g x):=by
 obtain⟨⟨h1,h2,h3,h4⟩,hl⟩:=h
 obtain⟨k1,k2,k3,k4⟩:=aaG g x
 refine⟨⟨k1.trans h1,k2.trans h2,k3.trans h3,k4.trans h4⟩,fun k s hk=>?_⟩
 have e:=hl k s hk
 rw[aeh g x k s (by rw[e];exact hk),e]
theorem abV (f:File)(l:List Fact):MoreF f (Po f l):=by
 have h:∀(l:List Fact) (g:File),MoreF f g→MoreF f (l.foldl tN g):=by
  intro l
  induction l with
  |nil=>exact fun g hg=>hg
  |cons x l ih=>exact fun g hg=>ih _ (hg.with_ x)
 exact h l f (.rfl' f)
theorem Z6 (f:File)(l:List Fact):(Po f l).facts.length≤f.facts.length+l.length:=by
 have h:∀(l:List Fact) (g:File),(l.foldl tN g).facts.length≤g.facts.length+l.length:=by
  intro l
  induction l with
  |nil=>intro g;simp
  |cons x l ih=>
   intro g
   have h1:=ih (tN g x)
   have h2:=adz g x
   simp only[List.foldl_cons,List.length_cons]
   omega
 exact h l f
theorem MoreF.at_ {f g:File}(h:MoreF f g)(day:Int):MoreF (atF f day) (atF g day):=by
 refine⟨h.same.at_ day,fun k s=>?_⟩
 rw[aae,aae,h.same.signs]
 split
 ·exact h.le k s
 ·exact .no _
theorem IM {v:View}{g:File}(h:MoreF v.file g)(q s:Int)(hn:aV v q s≠2):aV (ei v g) q s=aV v q s:=by
 unfold aV at*
 have hm:=adm v.realm v.forum q (c:=⟨v.file,s,s,-1,v.due,v.day⟩) h.same ⟨fun k=>(h.at_ v.day).le k _,fun k=>(h.at_ v.day).le k _⟩
 exact adP hm.1 hm.2 hn
theorem ae0 (a b c:Int)(ha:a=0∨a=1∨a=2)(hb:b=0∨b=1∨b=2)(hc:c=0∨c=1∨c=2):l0 [a,b,c] 1=if a=0∨b=0∨c=0 then 0 else if a=2∨b=2∨c=2 then 2 else 1:=by
 rcases ha with rfl|rfl|rfl<;>rcases hb with rfl|rfl|rfl<;>rcases hc with rfl|rfl|rfl<;>decide
theorem F2 (x:Said):MZ x=0∨MZ x=1∨MZ x=2:=by
 unfold MZ
 repeat' split
 all_goals simp
def ZT (a b:Effect):Bool:=(decide (a.binds=2)||decide (b.binds=a.binds))&&(decide (a.text=2)||decide (b.text=a.text))&&decide (a.sum≤b.sum)&&decide (a.recourse=b.recourse)
theorem abu {v:View}{g:File}(h:MoreF v.file g)(s:Int)(hform:v.form=0∨v.form=1∨v.form=2):ZT (N7 v s) (N7 (ei v g) s)=true:=by
 have m1:=IM h 1 s
 have m2:=IM h 2 s
 have m4:=IM h 4 s
 have t1:aV v 1 s=0∨aV v 1 s=1∨aV v 1 s=2:=F2 _
 have t2:aV v 2 s=0∨aV v 2 s=1∨aV v 2 s=2:=F2 _
 have u1:aV (ei v g) 1 s=0∨aV (ei v g) 1 s=1∨aV (ei v g) 1 s=2:=F2 _
 have u2:aV (ei v g) 2 s=0∨aV (ei v g) 2 s=1∨aV (ei v g) 2 s=2:=F2 _
 have e1:(ei v g).file.alters=v.file.alters:=h.same.alters
 have e2:L2 (ei v g).file s v.file.alters.length=L2 v.file s v.file.alters.length:=by unfold L2;rw[e1]
 have e3:Kf (ei v g).file=Kf v.file:=by unfold Kf;rw[e1]
 have e4:=adg (g:=(ei v g).file) h.same s v.file.alters.length
 have es:=Ws (g:=(ei v g).file) h.same s v.day
 have hb:l0 [v.form,aV v 1 s,aV v 2 s] 1=2∨l0 [v.form,aV (ei v g) 1 s,aV (ei v g) 2 s] 1=l0 [v.form,aV v 1 s,aV v 2 s] 1:=by
  rw[ae0 _ _ _ hform t1 t2,ae0 _ _ _ hform u1 u2]
  generalize aV v 1 s=a1 at*
  generalize aV v 2 s=a2 at*
  generalize aV (ei v g) 1 s=b1 at*
  generalize aV (ei v g) 2 s=b2 at*
  repeat' split
  all_goals omega
 have ht:((sN v s).1=2∨(sN (ei v g) s).1=(sN v s).1)∧(sN v s).2≤(sN (ei v g) s).2:=by
  unfold sN
  rw[e1,e2,e3,e4]
  split
  ·exact⟨.inr rfl,Int.le_refl _⟩
  generalize FF v.file s v.file.alters.length=x at*
  generalize Kf v.file=y at*
  generalize aV v 4 s=a at*
  generalize aV (ei v g) 4 s=b at*
  by_cases ha:a=2
  ·subst ha
   rw[if_neg (by decide),if_pos rfl]
   refine⟨.inl rfl,?_⟩
   repeat' split
   all_goals simp
   all_goals omega
  ·have:=m4 ha
   subst this
   exact⟨.inr rfl,Int.le_refl _⟩
 unfold ZT N7
 simp only[show(ei v g).file.signs=v.file.signs from h.same.signs,show(ei v g).day=v.day from rfl,show(ei v g).form=v.form from rfl,es]
 generalize sN v s=tx at*
 generalize sN (ei v g) s=ty at*
 generalize l0 [v.form,aV v 1 s,aV v 2 s] 1=ja at*
 generalize l0 [v.form,aV (ei v g) 1 s,aV (ei v g) 2 s] 1=jb at*
 obtain⟨h1,h2⟩:=ht
 simp only[Bool.and_eq_true,Bool.or_eq_true,decide_eq_true_eq]
 refine⟨⟨⟨?_,h1⟩,?_⟩,trivial⟩
 ·split
  ·exact .inr rfl
  ·exact hb
 ·split<;>omega
end Rm
namespace Rm
open Go Go.Proofs Cx
theorem adl (f:File)(l:List Fact){k:Nat}(hk:k<l.length):Po f (l.take (k+1))=tN (Po f (l.take k)) l[k]:=by
 unfold Po
 rw[List.take_succ_eq_append_getElem hk,List.foldl_append]
 rfl
theorem Aq (r:Realm)(forum:Int)(f:File)(day:Int):(bx r forum f day).length=(atF f day).signs.length:=by
 simp[bx,jG]
theorem Kz (r:Realm)(forum:Int)(f:File)(day:Int)(k:Nat)(hk:k<(bx r forum f day).length):(bx r forum f day)[k]=N7 (jG r forum f day) k:=by
 simp[bx]
theorem Vo (r:Realm)(forum:Int){f g:File}(h:MoreF f g)(day:Int):(bx r forum g day).length=(bx r forum f day).length∧∀k (h1:k<(bx r forum f day).length) (h2:k<(bx r forum g day).length),ZT (bx r forum f day)[k] (bx r forum g day)[k]=true:=by
 refine⟨by rw[Aq,Aq,(h.same.at_ day).signs],fun k h1 h2=>?_⟩
 rw[Kz,Kz,aak r forum h.same day]
 exact abu (v:=jG r forum f day) (h.at_ day) k (F2 _)
theorem Oh (r:Realm)(hr:r.OK)(forum:Int)(f:File)(day:Int)(fs:List Fact):Runs T yg [au r,.int forum,aD f,.int day,facts fs] (.bool true):=by
 refine .of_tree rfl HJ Cd ?_
 simp[nE]
 refine⟨_,XU,_,UT r f hr,?_⟩
 cases hg:QE r f
 ·simp[hg]
 have G:=ad5 hr hg
 obtain⟨d,hd,n,rfl⟩:=UG r G.rightD f G.few
 simp[hg]
 refine⟨_,hd,?_⟩
 by_cases hn:n=0
 case neg=>simp[hn]
 simp[hn]
 intro hl'
 have hff:=abz hg
 refine EvP.forRounds fs.length (fun k=>[.int k]) (fun k=>[aD (Po f (fs.take k))]) ?_ (fun k hk=>?_) ?_
 ·simp[Po]
 ·have hw:=ar hk (by omega)
  rw[adl f fs hk]
  have hlen:=Z6 f (fs.take k)
  have hlt:(fs.take k).length≤k:=by simp;omega
  generalize Po f (fs.take k)=g at*
  have hW:=aa0 g fs[k] (by omega)
  simp[nj,fp,hk,hw]
  refine⟨_,hW,?_⟩
  simp
 ·simp[nj,fp]
  have hM:=abV f fs
  have hlen:=Z6 f fs
  have hfew:FewS (Po f fs):=⟨by rw[hM.same.signs];exact G.few.signs,by rw[hM.same.alters];exact G.few.alters,by rw[hM.same.acts];exact G.few.acts,by omega⟩
  obtain⟨e1,e2⟩:=Vo r forum hM day
  have hE1:=rA r G.right G.rightD forum f day G.few
  have hE2:=rA r G.right G.rightD forum (Po f fs) day hfew
  have hel:(bx r forum f day).length≤1000:=by
   rw[Aq]
   exact(G.few.at_ day).signs
  refine⟨_,hE1,_,hE2,?_⟩
  generalize bx r forum f day=A at*
  generalize bx r forum (Po f fs) day=B at*
  refine⟨by simp[tH,e1],?_⟩
  refine EvP.forRounds A.length (fun k=>[.bool false,.int k]) (fun k=>[]) ?_ (fun k hk=>?_) ?_
  ·simp
  ·have hw:=ar hk (by omega)
   have hkB:k<B.length:=by omega
   have hg:=e2 k hk hkB
   unfold ZT at hg
   simp only[Bool.and_eq_true,Bool.or_eq_true,decide_eq_true_eq] at hg
   obtain⟨⟨⟨g1,g2⟩,g3⟩,g4⟩:=hg
   simp[m5,fu,hk,hkB,hw]
   exact⟨⟨⟨fun h=>g1.resolve_left h,fun h=>g2.resolve_left h⟩,g3⟩,g4⟩
  ·simp[m5,fu]
end Rm
